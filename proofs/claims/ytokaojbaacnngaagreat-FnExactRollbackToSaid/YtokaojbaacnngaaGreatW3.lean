/- A part of the proof. -/
import Derived.Test.YtokaojbaacnngaaGreatW1W2
namespace Go.Proofs.YtokaojbaacnngaaGreat
set_option maxRecDepth 100000
open Go.SS

structure Txn where
 id:Int
 last:Int
 deriving Inhabited
def Txn.ts(t:Txn):List T:=[.int .i64 t.id,.int .i64 t.last]
def X0(L:List Txn)(i:Nat):List T:=(L.getD i default).ts
def wF(L:List Txn):T:=.sl 2 L.length (X0 L)
structure Eng where
 s:Sto
 up:Bool
 txs:List Txn
 lk:Lks
 next:Int
 deriving Inhabited
def Eng.ts(e:Eng):List T:=[C0 e.s.d.sec,C8 e.s.d.cache,.bool e.s.d.armed,wE e.s.d.keep,.int .i64 e.s.ep,o5 e.s.log,.int .i64 e.s.sure,wL e.s.fr,.int .i64 e.s.hand,.bool e.up,wF e.txs,yG e.lk.held,mU e.lk.waits,.int .i64 e.next]
abbrev y5(a b:Eng):Prop:=(a.s.d.sec.length=b.s.d.sec.length/\Z6 a.s.d.sec.length (Z5 a.s.d.sec) (Z5 b.s.d.sec))/\(a.s.d.cache.length=b.s.d.cache.length/\Z6 a.s.d.cache.length (Z3 a.s.d.cache) (Z3 b.s.d.cache))/\a.s.d.armed=b.s.d.armed/\(a.s.d.keep.length=b.s.d.keep.length/\Z6 a.s.d.keep.length (Y9 a.s.d.keep) (Y9 b.s.d.keep))/\a.s.ep=b.s.ep/\(a.s.log.length=b.s.log.length/\Z6 a.s.log.length (Y7 a.s.log) (Y7 b.s.log))/\a.s.sure=b.s.sure/\(a.s.fr.length=b.s.fr.length/\Z6 a.s.fr.length (X3 a.s.fr) (X3 b.s.fr))/\a.s.hand=b.s.hand/\a.up=b.up/\(a.txs.length=b.txs.length/\Z6 a.txs.length (X0 a.txs) (X0 b.txs))/\(a.lk.held.length=b.lk.held.length/\Z6 a.lk.held.length (X7 a.lk.held) (X7 b.lk.held))/\(a.lk.waits.length=b.lk.waits.length/\Z6 a.lk.waits.length (W8 a.lk.waits) (W8 b.lk.waits))/\a.next=b.next/\True
theorem A4(s:Eng):y5 s s:=⟨Z8,Z8,rfl,Z8,rfl,Z8,rfl,Z8,rfl,rfl,Z8,Z8,Z8,Z9⟩
def vQ(e:Eng):Option Ob:=some (.arr true 1000000 14 1 λ_=>e.ts)
def t7(L:List Txn)(id:Int)(i:Nat):Bool:=(L.getD i default).id==id
def U8(L:List Txn)(id:Int):Int:=M3 L.length (t7 L id)
def b56:Con:=.rel ⟨Txn×Int,λx=>[.agg x.1.ts,.bref [.int .i64 x.2]],λx=>.bool (x.1.id==x.2),λ_=>True⟩
theorem b4s(t:Txn)(id:Int)(h:
  (t.id==id)=(t.id==id)):
  U6 Tryz.prog 192 [.agg t.ts,.bref [.int .i64 id]] (.bool (t.id==id)):=
 S6 gN Tryz.func192 Z0 h
theorem a9t:GK 192 b56:=gk Tryz.func192<|λx _=>b4s x.1 x.2 rfl
def txF(id:Int):T:=.fn (.func 192) [.bref [.int .i64 id]]
def b1y:Con:=.rel ⟨List Txn×Int,λx=>[wF x.1,txF x.2],λx=>.int .i64 (U8 x.1 x.2),λx=>M7 x.1.length⟩
def b12(L:List Txn)(id:Int):Nat->Ann
 |0=>.one (V4 L.length (t7 L id)) (λx=>⟨[(0,wF L),(1,txF id),(7,.int .i64 L.length),(8,.int .i64 x.1)],[]⟩) (λx=>L.length-x.1) [] [] (λ_=>Z0)
 |_=>.none
theorem a7D:GK 191 b1y:=gk Tryz.func191<|by
 rintro⟨L,id⟩ (hL:L.length<1000000000000);refine S6 (gC a9t gN) Tryz.func191 (b12 L id) (α:=(∃(x:V4 L.length (t7 L id)),((Y5 X0 L L)/\(Fn.func 192=Fn.func 192/\M2 (λ(x:Nat)=>none) (T.bref [T.int .i64 id]) (T.bref [T.int .i64 id])/\True)/\(L.length:Int)=(L.length:Int)/\(0:Int)=(x.val:Int)/\True)/\True)/\∀(x:V4 L.length (t7 L id)),(decide ((x.val:Int)<(L.length:Int))=true->W4 (x.val:Int) L.length/\∃(x_1:(Txn×Int)),((((L.getD (x.val:Int).toNat default).id=x_1.1.id/\(L.getD (x.val:Int).toNat default).last=x_1.1.last/\True)/\(id=x_1.2/\True)/\True)/\True)/\((x_1.1.id==x_1.2)=true->(x.val:Int)=U8 L id)/\((x_1.1.id==x_1.2)=false->X4 .i64 ((x.val:Int)+(1:Int))/\∃(y:V4 L.length (t7 L id)),(((Y5 X0 L L)/\(Fn.func 192=Fn.func 192/\M2 (λ(x:Nat)=>none) (T.bref [T.int .i64 id]) (T.bref [T.int .i64 id])/\True)/\(L.length:Int)=(L.length:Int)/\(x.val:Int)+(1:Int)=(y.val:Int)/\True)/\True)/\Lt (L.length-y.val) (L.length-x.val)))/\(decide ((x.val:Int)<(L.length:Int))=false->(-1:Int)=U8 L id)) ⟨⟨D5,⟨Z8,⟨rfl,R8 _,trivial⟩,rfl,Z9⟩,trivial⟩,λx=>⟨λhc=> ?_,λhc=> ?_⟩⟩
 ·have hlt:=Y1 hc;refine⟨Y2 hlt,(L.getD x.val default,id),⟨⟨⟨rfl,Z9⟩,Z9,trivial⟩,trivial⟩,λhp=>(H7 hlt hp x.2.2).symm,λhp=>⟨V7 hlt (by omega),x.succ hlt hp,⟨⟨Z8,⟨rfl,R8 _,trivial⟩,rfl,by simp only[V4.succ];omega,trivial⟩,trivial⟩,V4.ext_lt hlt⟩⟩
 ·have hge:=X9 hc;exact(F4 λj hj=>x.2.2 j (vV hj hge)).symm
def b8s:Con:=.rel ⟨Eng×Int,λx=>[.bref x.1.ts,.int .i64 x.2],λx=>.int .i64 (U8 x.1.txs x.2),λx=>M7 x.1.txs.length⟩
theorem b8c(e:Eng)(id:Int)(h:
  ∃(x:(List Txn×Int)),(((Y5 X0 e.txs x.1)/\(Fn.func 192=Fn.func 192/\(id=x.2/\True)/\True)/\True)/\M7 x.1.length)/\U8 x.1 x.2=U8 e.txs id):
  U6 Tryz.prog 121 [.bref e.ts,.int .i64 id] (.int .i64 (U8 e.txs id)):=
 S6 (gC a7D gN) Tryz.func121 Z0 h
theorem vE:GK 121 b8s:=gk Tryz.func121<|λx hL=>b8c x.1 x.2 ⟨(x.1.txs,x.2),⟨⟨Z8,⟨rfl,Z9,trivial⟩,trivial⟩,hL⟩,rfl⟩
def b4q:Con:=.rel ⟨Eng×Int,λx=>[.agg x.1.ts,.int .i64 x.2],λx=>.int .i64 (U8 x.1.txs x.2),λx=>M7 x.1.txs.length⟩
def b5n(e:Eng)(id:Int):Nat->Ann
 |0=>.one (V4 e.txs.length (t7 e.txs id)) (λx=>⟨[(1,.int .i64 id),(2,.ref 0 0 0),(5,.int .i64 x.1)],[vQ e]⟩) (λx=>e.txs.length-x.1) [.box 0] [.box 0] (λ_=>Z0)
 |_=>.none
theorem aF:GK 76 b4q:=gk Tryz.func76<|by
 rintro⟨e,id⟩ (hL:e.txs.length<1000000000000);refine S6 gN Tryz.func76 (b5n e id) (α:=(∃(x:V4 e.txs.length (t7 e.txs id)),(id=id/\(0=0/\0=0)/\(0:Int)=(x.val:Int)/\True)/\(1=1/\1=1/\y5 e e)/\True)/\∀(x:V4 e.txs.length (t7 e.txs id)),(decide ((x.val:Int)<(e.txs.length:Int))=true->W4 (x.val:Int) e.txs.length/\(((e.txs.getD (x.val:Int).toNat default).id==id)=true->(x.val:Int)=U8 e.txs id)/\(((e.txs.getD (x.val:Int).toNat default).id==id)=false->X4 .i64 ((x.val:Int)+(1:Int))/\∃(y:V4 e.txs.length (t7 e.txs id)),((id=id/\(0=0/\0=0)/\(x.val:Int)+(1:Int)=(y.val:Int)/\True)/\(1=1/\1=1/\y5 e e)/\True)/\Lt (e.txs.length-y.val) (e.txs.length-x.val)))/\(decide ((x.val:Int)<(e.txs.length:Int))=false->(-1:Int)=U8 e.txs id)) ⟨⟨D5,⟨rfl,Z7,Z9⟩,⟨rfl,rfl,A4 _⟩,trivial⟩,λx=>⟨λhc=> ?_,λhc=> ?_⟩⟩
 ·have hlt:=Y1 hc;exact⟨Y2 hlt,λhp=>(H7 hlt hp x.2.2).symm,λhp=>⟨V7 hlt (by omega),x.succ hlt hp,⟨⟨rfl,Z7,by simp only[V4.succ];omega,trivial⟩,⟨rfl,rfl,A4 _⟩,trivial⟩,V4.ext_lt hlt⟩⟩
 ·have hge:=X9 hc;exact(F4 λj hj=>x.2.2 j (vV hj hge)).symm

def Y6(L:List Rec)(at_:Int):Rec:=L.getD (at_-1).toNat default
def ownR(L:List Rec)(at_ id:Int):Bool:=W2 at_ 1 L.length&&((Y6 L at_).t==id)&&W2 (Y6 L at_).k 1 3
def okR(L:List Rec)(id at_:Int):Bool:=ownR L at_ id&&((Y6 L at_).k !=3||ownR L (Y6 L at_).n id)
def chn(L:List Rec)(id:Int):Nat->Int->Bool
 |0,_=>true
 |f+1,at_=>decide (at_<=0)||(okR L id at_&&chn L id f (Y6 L at_).p)
def rB(L:List Rec)(t:Txn):Bool:=W2 t.last 1 L.length&&chn L t.id 61 t.last
def xD(L:List Rec):Prop:=L.length<=60/\∀i,i<L.length->zT (L.getD i default)/\(L.getD i default).l=(i:Int)+1
def b40:Con:=.rel ⟨Sto×Int×Int,λx=>[.bref x.1.ts,.int .i64 x.2.1,.int .i64 x.2.2],λx=>.bool (ownR x.1.log x.2.1 x.2.2),λx=>M7 x.1.log.length⟩
theorem L9{n lo hi:Int}:W2 n lo hi=true↔lo<=n/\n<=hi:=by
 unfold W2;simp only[J6,o9]
theorem b0M:GK 222 b40:=gk Tryz.func222<|by
 rintro⟨s,at_,id⟩ (hL:s.log.length<1000000000000);have k1:W2 at_ 1 s.log.length=true->X4 .i64 (at_-1)/\W4 (at_-1) s.log.length:=λh=>by
  obtain⟨h1,h2⟩:=L9.1 h;exact⟨Z4 (by omega),by omega,by omega⟩
 exact S6 (gC O5 gN) Tryz.func222 Z0 (α:=(W2 at_ (1:Int) (s.log.length:Int)=true->X4 .i64 (at_- (1:Int)))/\(W2 at_ (1:Int) (s.log.length:Int)=true->W4 (at_- (1:Int)) s.log.length)/\((W2 at_ (1:Int) (s.log.length:Int)&&(s.log.getD (at_- (1:Int)).toNat default).t==id)=true->X4 .i64 (at_- (1:Int)))/\((W2 at_ (1:Int) (s.log.length:Int)&&(s.log.getD (at_- (1:Int)).toNat default).t==id)=true->W4 (at_- (1:Int)) s.log.length)/\(W2 at_ (1:Int) (s.log.length:Int)&&(s.log.getD (at_- (1:Int)).toNat default).t==id&&W2 (s.log.getD (at_- (1:Int)).toNat default).k (1:Int) (3:Int))=ownR s.log at_ id) ⟨λh=>(k1 h).1,λh=>(k1 h).2,λh=>(k1 (Bool.and_eq_true_iff.1 h).1).1,λh=>(k1 (Bool.and_eq_true_iff.1 h).1).2,rfl⟩
theorem xD.at{L:List Rec}(h:xD L){at_:Int}(h1:1<=at_)(h2:at_<=L.length):zT (Y6 L at_)/\(Y6 L at_).l=at_:=by
 obtain⟨a,b⟩:=h.2 (at_-1).toNat (by omega)
 exact⟨a,by unfold Y6;rw[b];omega⟩
theorem xD.prev{L:List Rec}(h:xD L){at_:Int}(h1:1<=at_)(h2:at_<=L.length):0<=(Y6 L at_).p/\(Y6 L at_).p<=at_-1/\0<=(Y6 L at_).n/\(Y6 L at_).n<=at_-1:=by
 obtain⟨a,b⟩:=h.at h1 h2;obtain⟨_,_,_,_,_,_,q1,q2,q3,q4,_⟩:=a;omega
theorem b7d{L:List Rec}{at_ id:Int}(h:ownR L at_ id=true):1<=at_/\at_<=L.length:=by
 unfold ownR at h;simp only[J6] at h;exact L9.1 h.1.1
theorem mZ(L:List Rec)(id:Int){f:Nat}(hf:0<f){at_:Int}(h:1<=at_):chn L id f at_=(okR L id at_&&chn L id (f-1) (Y6 L at_).p):=by
 obtain⟨g,rfl⟩:∃g,f=g+1:=⟨f-1,by omega⟩
 show(decide (at_<=0)||_)=_;rw[uK (by omega),Bool.false_or]
 rfl
theorem aA(L:List Rec)(id:Int)(f:Nat){at_:Int}(h:at_<=0):chn L id f at_=true:=by
 cases f with
 |zero=>rfl
 |succ f=>show(decide (at_<=0)||_)=_;rw[iZ h];rfl
def b2J(t:Txn):Option Ob:=some (.arr true 1000000 2 1 λ_=>t.ts)
def Chn(L:List Rec)(t:Txn):Type:={x:Nat×Int//0<x.1/\(W2 x.2 1 L.length&&chn L t.id x.1 x.2)=rB L t/\(x.2.toNat<x.1∨x.1=61)}
def a7R:Con:=.rel ⟨Sto×Txn,λx=>[.bref x.1.ts,.agg x.2.ts],λx=>.bool (rB x.1.log x.2),λx=>xD x.1.log⟩
def a8n(s:Sto)(t:Txn):Nat->Ann
 |0=>.one (Chn s.log t) (λx=>⟨[(0,.bref s.ts),(3,.ref 0 0 0),(5,.int .i64 x.1.2)],[b2J t]⟩) (λx=>x.1.1) [.box 0] [.box 0] (λ_=>Z0)
 |_=>.none
theorem a2b:GK 157 a7R:=gk Tryz.func157<|by
 rintro⟨s,t⟩ (hL:xD s.log);have h60:=hL.1;refine S6 (gC b0M gN) Tryz.func157 (a8n s t) (α:=(∃(x:Chn s.log t),(M2 (v9 [some 0]) (T.bref s.ts) (T.bref s.ts)/\(0=0/\0=0)/\t.last=x.val.2/\True)/\(1=1/\1=1/\t.id=t.id/\t.last=t.last/\True)/\True)/\∀(x:Chn s.log t),∃(x_1:(Sto×Int×Int)),(((yR s x_1.1)/\x.val.2=x_1.2.1/\t.id=x_1.2.2/\True)/\M7 x_1.1.log.length)/\((!ownR x_1.1.log x_1.2.1 x_1.2.2)=true->false=rB s.log t)/\((!ownR x_1.1.log x_1.2.1 x_1.2.2)=false->X4 .i64 (x.val.2- (1:Int))/\W4 (x.val.2- (1:Int)) s.log.length/\∃(x_2:(Sto×Int×Int)),(((s.log.getD (x.val.2- (1:Int)).toNat default).k==(3:Int))=true->((yR s x_2.1)/\(s.log.getD (x.val.2- (1:Int)).toNat default).n=x_2.2.1/\t.id=x_2.2.2/\True)/\M7 x_2.1.log.length)/\(((s.log.getD (x.val.2- (1:Int)).toNat default).k==(3:Int)&& !ownR x_2.1.log x_2.2.1 x_2.2.2)=true->false=rB s.log t)/\(((s.log.getD (x.val.2- (1:Int)).toNat default).k==(3:Int)&& !ownR x_2.1.log x_2.2.1 x_2.2.2)=false->(((s.log.getD (x.val.2- (1:Int)).toNat default).p==(0:Int))=true->true=rB s.log t)/\(((s.log.getD (x.val.2- (1:Int)).toNat default).p==(0:Int))=false->∃(y:Chn s.log t),((M2 (v9 [some 0]) (T.bref s.ts) (T.bref s.ts)/\(0=0/\0=0)/\(s.log.getD (x.val.2- (1:Int)).toNat default).p=y.val.2/\True)/\(1=1/\1=1/\t.id=t.id/\t.last=t.last/\True)/\True)/\Lt y.val.1 x.val.1)))) ⟨⟨⟨(61,t.last),Nat.succ_pos 60,rfl,.inr rfl⟩,⟨R8 _,Z7,Z9⟩,⟨rfl,rfl,rfl,Z9⟩,trivial⟩,λx=> ?_⟩
 obtain⟨⟨f,at_⟩,hf,he,hb⟩:=x;dsimp only at hf he hb ⊢;refine⟨(s,at_,t.id),⟨⟨(yP _),rfl,Z9⟩,by unfold M7;simp only;omega⟩,λho=> ?_,λho=> ?_⟩
 ·simp only[wD] at ho;rw[←he];cases hi:W2 at_ 1 s.log.length
  ·rfl
  ·obtain⟨q1,q2⟩:=L9.1 hi;rw[mZ _ _ hf q1];unfold okR;rw[ho];rfl
 ·simp only[xO] at ho;obtain⟨q1,q2⟩:=b7d ho;have hi:W2 at_ 1 s.log.length=true:=L9.2 ⟨q1,q2⟩;rw[hi,Bool.true_and,mZ _ _ hf q1] at he;obtain⟨p1,p2,_⟩:=hL.prev q1 q2;have eo:okR s.log t.id at_=((Y6 s.log at_).k !=3||ownR s.log (Y6 s.log at_).n t.id):=by unfold okR;rw[ho,Bool.true_and]
  refine⟨Z4 (by omega),⟨by omega,by omega⟩,(s,(Y6 s.log at_).n,t.id),λ_=>⟨⟨(yP _),rfl,Z9⟩,by unfold M7;simp only;omega⟩,λhk=> ?_,λhk=>⟨λh0=> ?_,λh0=> ?_⟩⟩
  ·have hk:((Y6 s.log at_).k==3&& !ownR s.log (Y6 s.log at_).n t.id)=true:=hk;rw[←he,eo];simp only[J6,wD,beq_iff_eq] at hk;rw[hk.1,hk.2];rfl
  ·have hk:((Y6 s.log at_).k==3&& !ownR s.log (Y6 s.log at_).n t.id)=false:=hk;have h0:(Y6 s.log at_).p=0:=beq_iff_eq.1 h0;have e2:okR s.log t.id at_=true:=by
    rw[eo,←xO,Bool.not_or,show(!((Y6 s.log at_).k !=3))=((Y6 s.log at_).k==3) by simp[bne]]
    exact hk
   rw[←he,e2,h0,aA _ _ _ (Int.le_refl 0)];rfl
  ·have hk:((Y6 s.log at_).k==3&& !ownR s.log (Y6 s.log at_).n t.id)=false:=hk;have h0:(Y6 s.log at_).p≠0:=λh=>by
    have h0:((Y6 s.log at_).p==0)=false:=h0;rw[h] at h0;cases h0
   have e2:okR s.log t.id at_=true:=by
    rw[eo,←xO,Bool.not_or,show(!((Y6 s.log at_).k !=3))=((Y6 s.log at_).k==3) by simp[bne]]
    exact hk
   rw[e2,Bool.true_and] at he;refine⟨⟨(f-1,(Y6 s.log at_).p),by simp only;omega,?_,by simp only;omega⟩,⟨⟨R8 _,⟨rfl,rfl⟩,rfl,trivial⟩,⟨rfl,rfl,rfl,rfl,trivial⟩,trivial⟩,show f-1<f by omega⟩
   simp only;rw[L9.2 (show 1<=(Y6 s.log at_).p/\(Y6 s.log at_).p<=(s.log.length:Int) by omega),Bool.true_and]
   exact he
def und(L:List Rec):Nat->Int->Nat
 |0,_=>0
 |f+1,at_=>if at_<=0 then 0 else if(Y6 L at_).k=3 then und L f (Y6 L at_).n else(if(Y6 L at_).k=2 then 1 else 0)+und L f (Y6 L at_).p
def oE(m:Nat):Option Ob:=some (.arr true 1000000 1 1 λ_=>[.int .i64 m])
def b23:Con:=.reff ⟨Rec×Nat,λx=>[.agg x.1.ts,.ref 0 0 0],λx=>[oE x.2],λ_=>.bool true,λx=>[oE (x.2+1)],λx=>x.2<1000⟩
theorem a8h:GK 266 b23:=gk Tryz.func266<|by
 rintro⟨r,m⟩ (h:m<1000);exact vcE gN Tryz.func266 Z0 (bs:=[true]) (α:=X4 .i64 ((m:Int)+(1:Int))/\true=true/\(1=1/\1=1/\(m:Int)+(1:Int)=(↑(m+1):Int)/\True)/\True) ⟨Z4 (by omega),rfl,⟨rfl,rfl,by omega,trivial⟩,trivial⟩
def qV(L:List Rec)(at_:Int):Prop:=xD L/\at_<=(L.length:Int)
def a8j:Con:=.reff ⟨Sto×Int,λx=>[.bref x.1.ts,.int .i64 x.2,.fn (.func 266) [.ref 0 0 0]],λ_=>[oE 1],λ_=>.tup [],λx=>[oE (1+und x.1.log 61 x.2)],λx=>qV x.1.log x.2⟩
def Und(L:List Rec)(from_:Int):Type:={x:Nat×Int×Nat//x.2.2+und L x.1 x.2.1=1+und L 61 from_/\x.2.1<=(L.length:Int)/\x.2.1.toNat<x.1/\x.2.2+x.1<=100}
def a7C(s:Sto)(from_:Int):Nat->Ann
 |0=>.one (Und s.log from_) (λx=>⟨[(0,.bref s.ts),(1,.int .i64 x.1.2.1),(2,.fn (.func 266) [.ref 0 0 0])],[oE x.1.2.2]⟩) (λx=>x.1.1) [.box 0] [.box 0] (λ_=>Z0)
 |_=>.none
theorem dO(L:List Rec):∀(f:Nat) (at_:Int),und L f at_<=f:=by
 intro f;induction f with
 |zero=>intro at_;exact V2 0
 |succ f ih=>
  intro at_;unfold und;split
  ·omega
  ·split
   ·have:=ih (Y6 L at_).n;omega
   ·have:=ih (Y6 L at_).p;split<;>omega
theorem fO{L:List Rec}{f:Nat}{at_:Int}(h:0<at_)(hf:at_.toNat<f)(hk:(Y6 L at_).k=3):und L f at_=und L (f-1) (Y6 L at_).n:=by
 obtain⟨g,rfl⟩:∃g,f=g+1:=⟨f-1,by omega⟩
 conv=>lhs;unfold und
 rw[if_neg (by omega),if_pos hk]
 rfl
theorem oO{L:List Rec}{f:Nat}{at_:Int}(h:0<at_)(hf:at_.toNat<f)(hk:(Y6 L at_).k≠3):und L f at_=(if(Y6 L at_).k=2 then 1 else 0)+und L (f-1) (Y6 L at_).p:=by
 obtain⟨g,rfl⟩:∃g,f=g+1:=⟨f-1,by omega⟩
 conv=>lhs;unfold und
 rw[if_neg (by omega),if_neg hk]
 rfl
theorem bL{L:List Rec}{f:Nat}{at_:Int}(h:at_<=0):und L f at_=0:=by
 cases f with
 |zero=>rfl
 |succ f=>unfold und;rw[if_pos h]
theorem a20:GK 193 a8j:=gk Tryz.func193<|by
 rintro⟨s,from_⟩ ⟨hL,hl⟩;dsimp only at hL hl;have h60:=hL.1;refine vcE (gC a8h gN) Tryz.func193 (a7C s from_) (bs:=[true]) (α:=(∃(x:Und s.log from_),(M2 (v9 [some 0]) (T.bref s.ts) (T.bref s.ts)/\from_=x.val.2.1/\(Fn.func 266=Fn.func 266/\(0=0/\0=0)/\True)/\True)/\(1=1/\1=1/\(1:Int)=(x.val.2.2:Int)/\True)/\True)/\∀(x:Und s.log from_),(decide (x.val.2.1>(0:Int))=true->X4 .i64 (x.val.2.1- (1:Int))/\W4 (x.val.2.1- (1:Int)) s.log.length/\(((s.log.getD (x.val.2.1- (1:Int)).toNat default).k==(3:Int))=true->∃(y:Und s.log from_),((M2 (v9 [some 0]) (T.bref s.ts) (T.bref s.ts)/\(s.log.getD (x.val.2.1- (1:Int)).toNat default).n=y.val.2.1/\(Fn.func 266=Fn.func 266/\(0=0/\0=0)/\True)/\True)/\(1=1/\1=1/\(x.val.2.2:Int)=(y.val.2.2:Int)/\True)/\True)/\Lt y.val.1 x.val.1)/\(((s.log.getD (x.val.2.1- (1:Int)).toNat default).k==(3:Int))=false->∃(x_1:(Rec×Nat)),(((s.log.getD (x.val.2.1- (1:Int)).toNat default).k==(2:Int))=true->(((s.log.getD (x.val.2.1- (1:Int)).toNat default).e=x_1.1.e/\(s.log.getD (x.val.2.1- (1:Int)).toNat default).l=x_1.1.l/\(s.log.getD (x.val.2.1- (1:Int)).toNat default).t=x_1.1.t/\(s.log.getD (x.val.2.1- (1:Int)).toNat default).k=x_1.1.k/\(s.log.getD (x.val.2.1- (1:Int)).toNat default).p=x_1.1.p/\(s.log.getD (x.val.2.1- (1:Int)).toNat default).n=x_1.1.n/\(s.log.getD (x.val.2.1- (1:Int)).toNat default).g=x_1.1.g/\(s.log.getD (x.val.2.1- (1:Int)).toNat default).s=x_1.1.s/\(s.log.getD (x.val.2.1- (1:Int)).toNat default).b=x_1.1.b/\(s.log.getD (x.val.2.1- (1:Int)).toNat default).a=x_1.1.a/\True)/\(0=0/\0=0)/\True)/\((1=1/\Z6 1 (λ(x_2:Nat)=>[T.int .i64 (x.val.2.2:Int)]) λ(x:Nat)=>[T.int .i64 (x_1.2:Int)])/\True)/\x_1.2<1000)/\(((s.log.getD (x.val.2.1- (1:Int)).toNat default).k==(2:Int))=true->(((s.log.getD (x.val.2.1- (1:Int)).toNat default).k==(2:Int)&&false)=true->True/\(1=1/\1=1/\(↑(x_1.2+1):Int)=(↑(1+und s.log 61 from_):Int)/\True)/\True)/\(((s.log.getD (x.val.2.1- (1:Int)).toNat default).k==(2:Int)&&false)=false->∃(y:Und s.log from_),((M2 (v9 [some 0]) (T.bref s.ts) (T.bref s.ts)/\(s.log.getD (x.val.2.1- (1:Int)).toNat default).p=y.val.2.1/\(Fn.func 266=Fn.func 266/\(0=0/\0=0)/\True)/\True)/\(1=1/\1=1/\(↑(x_1.2+1):Int)=(y.val.2.2:Int)/\True)/\True)/\Lt y.val.1 x.val.1))/\((((s.log.getD (x.val.2.1- (1:Int)).toNat default).k==(2:Int))=true->False)->(((s.log.getD (x.val.2.1- (1:Int)).toNat default).k==(2:Int)&&false)=true->True/\(1=1/\1=1/\(x.val.2.2:Int)=(↑(1+und s.log 61 from_):Int)/\True)/\True)/\(((s.log.getD (x.val.2.1- (1:Int)).toNat default).k==(2:Int)&&false)=false->∃(y:Und s.log from_),((M2 (v9 [some 0]) (T.bref s.ts) (T.bref s.ts)/\(s.log.getD (x.val.2.1- (1:Int)).toNat default).p=y.val.2.1/\(Fn.func 266=Fn.func 266/\(0=0/\0=0)/\True)/\True)/\(1=1/\1=1/\(x.val.2.2:Int)=(y.val.2.2:Int)/\True)/\True)/\Lt y.val.1 x.val.1))))/\(decide (x.val.2.1>(0:Int))=false->True/\(1=1/\1=1/\(x.val.2.2:Int)=(↑(1+und s.log 61 from_):Int)/\True)/\True)) ⟨⟨⟨(61,from_,1),rfl,hl,by dsimp only;omega,by dsimp only;omega⟩,⟨R8 _,rfl,⟨rfl,⟨rfl,rfl⟩,trivial⟩,trivial⟩,⟨rfl,rfl,rfl,trivial⟩,trivial⟩,λx=> ?_⟩
 obtain⟨⟨f,at_,m⟩,he,hle,hf,hm⟩:=x;dsimp only at he hle hf hm ⊢;refine⟨λhc=> ?_,λhc=> ?_⟩
 ·have h0:at_>0:=F3 hc;obtain⟨p1,p2,p3,p4⟩:=hL.prev (show 1<=at_ by omega) hle
  refine⟨Z4 (by omega),⟨by omega,by omega⟩,λhk=> ?_,λhk=> ?_⟩
  ·have hk:(Y6 s.log at_).k=3:=beq_iff_eq.1 hk;rw[fO h0 hf hk] at he;exact⟨⟨(f-1,(Y6 s.log at_).n,m),he,by dsimp only;omega,by dsimp only;omega,by dsimp only;omega⟩,⟨⟨R8 _,rfl,⟨rfl,⟨rfl,rfl⟩,trivial⟩,trivial⟩,⟨rfl,rfl,rfl,trivial⟩,trivial⟩,show f-1<f by omega⟩
  ·have hk:(Y6 s.log at_).k≠3:=λh=>by
    have hk:((Y6 s.log at_).k==3)=false:=hk;rw[h] at hk;cases hk
   rw[oO h0 hf hk] at he;refine⟨(Y6 s.log at_,m),λ_=>⟨⟨⟨rfl,rfl,rfl,rfl,rfl,rfl,rfl,rfl,rfl,Z9⟩,T2⟩,X8,by dsimp only;omega⟩,λh2=>⟨λhh=> ?_,λ_=> ?_⟩,λh2=>⟨λhh=> ?_,λ_=> ?_⟩⟩
   ·rw[Bool.and_false] at hh;cases hh
   ·have h2:(Y6 s.log at_).k=2:=beq_iff_eq.1 h2;rw[if_pos h2] at he;exact⟨⟨(f-1,(Y6 s.log at_).p,m+1),by dsimp only;omega,by dsimp only;omega,by dsimp only;omega,by dsimp only;omega⟩,⟨⟨R8 _,rfl,⟨rfl,⟨rfl,rfl⟩,trivial⟩,trivial⟩,⟨rfl,rfl,rfl,trivial⟩,trivial⟩,show f-1<f by omega⟩
   ·rw[Bool.and_false] at hh;cases hh
   ·have h2:¬ (Y6 s.log at_).k=2:=λh=>h2 (beq_iff_eq.2 h)
    rw[if_neg h2] at he;exact⟨⟨(f-1,(Y6 s.log at_).p,m),by dsimp only;omega,by dsimp only;omega,by dsimp only;omega,by dsimp only;omega⟩,⟨⟨R8 _,rfl,⟨rfl,⟨rfl,rfl⟩,trivial⟩,trivial⟩,⟨rfl,rfl,rfl,trivial⟩,trivial⟩,show f-1<f by omega⟩
 ·have h0:at_<=0:=by have:=yQ hc;omega
  rw[bL h0] at he;exact⟨trivial,⟨rfl,rfl,by omega,trivial⟩,trivial⟩
def b0k:Con:=.rel ⟨Sto×Int,λx=>[.bref x.1.ts,.int .i64 x.2],λx=>.int .i64 ((1+und x.1.log 61 x.2:Nat):Int),λx=>qV x.1.log x.2⟩
theorem a6G:GK 229 b0k:=gk Tryz.func229<|by
 rintro⟨s,from_⟩ h;exact S6 (gC a20 gN) Tryz.func229 Z0 (α:=∃(x:(Sto×Int)),(((yR s x.1)/\from_=x.2/\(Fn.func 266=Fn.func 266/\(0=0/\0=0)/\True)/\True)/\((1=1/\Z6 1 (setRow (λ(x:Nat)=>[T.int .i64 (0:Int)]) 0 0 [T.int .i64 (1:Int)]) λ(x:Nat)=>[T.int .i64 (1:Int)])/\True)/\qV x.1.log x.2)/\(↑(1+und x.1.log 61 x.2):Int)=(↑(1+und s.log 61 from_):Int)) ⟨(s,from_),⟨⟨(yP _),rfl,⟨rfl,T2⟩,trivial⟩,⟨⟨rfl,λi hi=>by(obtain rfl:i=0:=by omega);rfl⟩,trivial⟩,h⟩,rfl⟩
def a81:Con:=.rel ⟨Bool,λb=>[.bool b],λb=>.int .i64 (if b then 1 else 0),λ_=>True⟩
theorem b1C(b:Bool)(h:
  (b=true->(1:Int)=if b=true then(1:Int) else(0:Int))/\(b=false->(0:Int)=if b=true then(1:Int) else(0:Int))):
  U6 Tryz.prog 203 [.bool b] (.int .i64 (if b then 1 else 0)):=
 S6 gN Tryz.func203 Z0 h
theorem a6h:GK 203 a81:=gk Tryz.func203<|λb _=>b1C b ⟨λh=>by rw[if_pos h],λh=>by rw[h];rfl⟩
def a7K:Con:=.rel ⟨Sto×Int,λx=>[.agg x.1.ts,.int .i64 x.2],λx=>.int .i64 ((1+und x.1.log 61 x.2:Nat):Int),λx=>qV x.1.log x.2⟩
def a7W(s:Sto)(from_:Int):Nat->Ann
 |0=>.one (Und s.log from_) (λx=>⟨[(1,.int .i64 x.1.2.1),(2,.ref 0 0 0),(5,.int .i64 x.1.2.2)],[lG s]⟩) (λx=>x.1.1) [.box 0] [.box 0] (λ_=>Z0)
 |_=>.none
theorem a2p:GK 143 a7K:=gk Tryz.func143<|by
 rintro⟨s,from_⟩ ⟨hL,hl⟩;dsimp only at hL hl;have h60:=hL.1;refine S6 (gC a6h gN) Tryz.func143 (a7W s from_) (α:=(∃(x:Und s.log from_),(from_=x.val.2.1/\(0=0/\0=0)/\(1:Int)=(x.val.2.2:Int)/\True)/\(1=1/\1=1/\yR s s)/\True)/\∀(x:Und s.log from_),(decide (x.val.2.1>(0:Int))=true->X4 .i64 (x.val.2.1- (1:Int))/\W4 (x.val.2.1- (1:Int)) s.log.length/\(((s.log.getD (x.val.2.1- (1:Int)).toNat default).k==(3:Int))=true->∃(y:Und s.log from_),(((s.log.getD (x.val.2.1- (1:Int)).toNat default).n=y.val.2.1/\(0=0/\0=0)/\(x.val.2.2:Int)=(y.val.2.2:Int)/\True)/\(1=1/\1=1/\yR s s)/\True)/\Lt y.val.1 x.val.1)/\(((s.log.getD (x.val.2.1- (1:Int)).toNat default).k==(3:Int))=false->∃(x_1:Bool),((((s.log.getD (x.val.2.1- (1:Int)).toNat default).k==(2:Int))=x_1/\True)/\True)/\X4 .i64 ((x.val.2.2:Int)+if x_1=true then(1:Int) else(0:Int))/\∃(y:Und s.log from_),(((s.log.getD (x.val.2.1- (1:Int)).toNat default).p=y.val.2.1/\(0=0/\0=0)/\((x.val.2.2:Int)+if x_1=true then(1:Int) else(0:Int))=(y.val.2.2:Int)/\True)/\(1=1/\1=1/\yR s s)/\True)/\Lt y.val.1 x.val.1))/\(decide (x.val.2.1>(0:Int))=false->(x.val.2.2:Int)=(↑(1+und s.log 61 from_):Int))) ⟨⟨⟨(61,from_,1),rfl,hl,by dsimp only;omega,by dsimp only;omega⟩,⟨rfl,⟨rfl,rfl⟩,rfl,trivial⟩,⟨rfl,rfl,yP _⟩,trivial⟩,λx=> ?_⟩
 obtain⟨⟨f,at_,m⟩,he,hle,hf,hm⟩:=x;dsimp only at he hle hf hm ⊢;refine⟨λhc=> ?_,λhc=> ?_⟩
 ·have h0:at_>0:=F3 hc;obtain⟨p1,p2,p3,p4⟩:=hL.prev (show 1<=at_ by omega) hle
  refine⟨Z4 (by omega),⟨by omega,by omega⟩,λhk=> ?_,λhk=> ?_⟩
  ·have hk:(Y6 s.log at_).k=3:=beq_iff_eq.1 hk;rw[fO h0 hf hk] at he;exact⟨⟨(f-1,(Y6 s.log at_).n,m),he,by dsimp only;omega,by dsimp only;omega,by dsimp only;omega⟩,⟨⟨rfl,⟨rfl,rfl⟩,rfl,trivial⟩,⟨rfl,rfl,yP _⟩,trivial⟩,show f-1<f by omega⟩
  ·have hk:(Y6 s.log at_).k≠3:=λh=>by
    have hk:((Y6 s.log at_).k==3)=false:=hk;rw[h] at hk;cases hk
   rw[oO h0 hf hk] at he;have hn:und s.log (f-1) (Y6 s.log at_).p<=f-1:=dO _ _ _;refine⟨(Y6 s.log at_).k==2,⟨Z9,trivial⟩,?_,?_⟩
   ·split<;>exact Z4 (by omega)
   ·by_cases h2:(Y6 s.log at_).k=2
    ·rw[if_pos h2] at he;rw[if_pos (by simpa using h2)]
     exact⟨⟨(f-1,(Y6 s.log at_).p,m+1),by dsimp only;omega,by dsimp only;omega,by dsimp only;omega,by dsimp only;omega⟩,⟨⟨rfl,⟨rfl,rfl⟩,rfl,trivial⟩,⟨rfl,rfl,yP _⟩,trivial⟩,show f-1<f by omega⟩
    ·rw[if_neg h2] at he;rw[if_neg (by simpa using h2)]
     exact⟨⟨(f-1,(Y6 s.log at_).p,m),by dsimp only;omega,by dsimp only;omega,by dsimp only;omega,by dsimp only;omega⟩,⟨⟨rfl,⟨rfl,rfl⟩,by dsimp only;omega,trivial⟩,⟨rfl,rfl,yP _⟩,trivial⟩,show f-1<f by omega⟩
 ·have h0:at_<=0:=by have:=yQ hc;omega
  rw[bL h0] at he;show(m:Int)=_;omega
end Go.Proofs.YtokaojbaacnngaaGreat

