/- A part of the proof. -/
import Derived.Test.YtokaojbaacnngaaGreatW1W2
namespace Go.Proofs.YtokaojbaacnngaaGreat
set_option maxRecDepth 100000
open Go.SS

structure Txn where
 id:Int
 last:Int
 deriving Inhabited
def Txn.ts(t:Txn):List T:=[.int .i64 t.id,.int .i64 t.last]
def X5(L:List Txn)(i:Nat):List T:=(L.getD i default).ts
def vP(L:List Txn):T:=.sl 2 L.length (X5 L)
structure Eng where
 s:Sto
 up:Bool
 txs:List Txn
 lk:Lks
 next:Int
 deriving Inhabited
def Eng.ts(e:Eng):List T:=[B4 e.s.d.sec,C2 e.s.d.cache,.bool e.s.d.armed,vQ e.s.d.keep,.int .i64 e.s.ep,l9 e.s.log,.int .i64 e.s.sure,wZ e.s.fr,.int .i64 e.s.hand,.bool e.up,vP e.txs,zJ e.lk.held,oP e.lk.waits,.int .i64 e.next]
abbrev y5(a b:Eng):Prop:=(a.s.d.sec.length=b.s.d.sec.length/\Z6 a.s.d.sec.length (Z5 a.s.d.sec) (Z5 b.s.d.sec))/\(a.s.d.cache.length=b.s.d.cache.length/\Z6 a.s.d.cache.length (Z3 a.s.d.cache) (Z3 b.s.d.cache))/\a.s.d.armed=b.s.d.armed/\(a.s.d.keep.length=b.s.d.keep.length/\Z6 a.s.d.keep.length (Y9 a.s.d.keep) (Y9 b.s.d.keep))/\a.s.ep=b.s.ep/\(a.s.log.length=b.s.log.length/\Z6 a.s.log.length (Y7 a.s.log) (Y7 b.s.log))/\a.s.sure=b.s.sure/\(a.s.fr.length=b.s.fr.length/\Z6 a.s.fr.length (X1 a.s.fr) (X1 b.s.fr))/\a.s.hand=b.s.hand/\a.up=b.up/\(a.txs.length=b.txs.length/\Z6 a.txs.length (X5 a.txs) (X5 b.txs))/\(a.lk.held.length=b.lk.held.length/\Z6 a.lk.held.length (Y5 a.lk.held) (Y5 b.lk.held))/\(a.lk.waits.length=b.lk.waits.length/\Z6 a.lk.waits.length (X6 a.lk.waits) (X6 b.lk.waits))/\a.next=b.next/\True
theorem B5(s:Eng):y5 s s:=⟨Z8,Z8,rfl,Z8,rfl,Z8,rfl,Z8,rfl,rfl,Z8,Z8,Z8,Z9⟩
def uZ(e:Eng):Option Ob:=some (.arr true 1000000 14 1 λ_=>e.ts)
def t6(L:List Txn)(id:Int)(i:Nat):Bool:=(L.getD i default).id==id
def U4(L:List Txn)(id:Int):Int:=R0 L.length (t6 L id)
def b6w:Con:=.rel ⟨Txn×Int,λx=>[.agg x.1.ts,.bref [.int .i64 x.2]],λx=>.bool (x.1.id==x.2),λ_=>True⟩
theorem b6I(t:Txn)(id:Int)(h:
  (t.id==id)=(t.id==id)):
  U3 Tryz.prog 192 [.agg t.ts,.bref [.int .i64 id]] (.bool (t.id==id)):=
 S3 gN Tryz.func192 Z0 h
theorem b0P:GK 192 b6w:=gk Tryz.func192<|λx _=>b6I x.1 x.2 rfl
def txF(id:Int):T:=.fn (.func 192) [.bref [.int .i64 id]]
def b28:Con:=.rel ⟨List Txn×Int,λx=>[vP x.1,txF x.2],λx=>.int .i64 (U4 x.1 x.2),λx=>N3 x.1.length⟩
def b2c(L:List Txn)(id:Int):Nat->Ann
 |0=>.one (V3 L.length (t6 L id)) (λx=>⟨[(0,vP L),(1,txF id),(7,.int .i64 L.length),(8,.int .i64 x.1)],[]⟩) (λx=>L.length-x.1) [] [] (λ_=>Z0)
 |_=>.none
theorem a7O:GK 191 b28:=gk Tryz.func191<|by
 rintro⟨L,id⟩ (hL:L.length<1000000000000);refine S3 (gC b0P gN) Tryz.func191 (b2c L id) (α:=(∃(x:V3 L.length (t6 L id)),((Y6 X5 L L)/\(Fn.func 192=Fn.func 192/\M2 (λ(x:Nat)=>none) (T.bref [T.int .i64 id]) (T.bref [T.int .i64 id])/\True)/\(L.length:Int)=(L.length:Int)/\(0:Int)=(x.val:Int)/\True)/\True)/\∀(x:V3 L.length (t6 L id)),(decide ((x.val:Int)<(L.length:Int))=true->W2 (x.val:Int) L.length/\∃(x_1:(Txn×Int)),((((L.getD (x.val:Int).toNat default).id=x_1.1.id/\(L.getD (x.val:Int).toNat default).last=x_1.1.last/\True)/\(id=x_1.2/\True)/\True)/\True)/\((x_1.1.id==x_1.2)=true->(x.val:Int)=U4 L id)/\((x_1.1.id==x_1.2)=false->X2 .i64 ((x.val:Int)+(1:Int))/\∃(y:V3 L.length (t6 L id)),(((Y6 X5 L L)/\(Fn.func 192=Fn.func 192/\M2 (λ(x:Nat)=>none) (T.bref [T.int .i64 id]) (T.bref [T.int .i64 id])/\True)/\(L.length:Int)=(L.length:Int)/\(x.val:Int)+(1:Int)=(y.val:Int)/\True)/\True)/\Lt (L.length-y.val) (L.length-x.val)))/\(decide ((x.val:Int)<(L.length:Int))=false->(-1:Int)=U4 L id)) ⟨⟨E8,⟨Z8,⟨rfl,S1 _,trivial⟩,rfl,Z9⟩,trivial⟩,λx=>⟨λhc=> ?_,λhc=> ?_⟩⟩
 ·have hlt:=Y1 hc;refine⟨Y3 hlt,(L.getD x.val default,id),⟨⟨⟨rfl,Z9⟩,Z9,trivial⟩,trivial⟩,λhp=>(L5 hlt hp x.2.2).symm,λhp=>⟨V5 hlt (by omega),x.succ hlt hp,⟨⟨Z8,⟨rfl,S1 _,trivial⟩,rfl,by simp only[V3.succ];omega,trivial⟩,trivial⟩,V3.ext_lt hlt⟩⟩
 ·have hge:=X9 hc;exact(J9 λj hj=>x.2.2 j (vR hj hge)).symm
def b8V:Con:=.rel ⟨Eng×Int,λx=>[.bref x.1.ts,.int .i64 x.2],λx=>.int .i64 (U4 x.1.txs x.2),λx=>N3 x.1.txs.length⟩
theorem b75(e:Eng)(id:Int)(h:
  ∃(x:(List Txn×Int)),(((Y6 X5 e.txs x.1)/\(Fn.func 192=Fn.func 192/\(id=x.2/\True)/\True)/\True)/\N3 x.1.length)/\U4 x.1 x.2=U4 e.txs id):
  U3 Tryz.prog 121 [.bref e.ts,.int .i64 id] (.int .i64 (U4 e.txs id)):=
 S3 (gC a7O gN) Tryz.func121 Z0 h
theorem uN:GK 121 b8V:=gk Tryz.func121<|λx hL=>b75 x.1 x.2 ⟨(x.1.txs,x.2),⟨⟨Z8,⟨rfl,Z9,trivial⟩,trivial⟩,hL⟩,rfl⟩
def b5B:Con:=.rel ⟨Eng×Int,λx=>[.agg x.1.ts,.int .i64 x.2],λx=>.int .i64 (U4 x.1.txs x.2),λx=>N3 x.1.txs.length⟩
def b48(e:Eng)(id:Int):Nat->Ann
 |0=>.one (V3 e.txs.length (t6 e.txs id)) (λx=>⟨[(1,.int .i64 id),(2,.ref 0 0 0),(5,.int .i64 x.1)],[uZ e]⟩) (λx=>e.txs.length-x.1) [.box 0] [.box 0] (λ_=>Z0)
 |_=>.none
theorem aR:GK 76 b5B:=gk Tryz.func76<|by
 rintro⟨e,id⟩ (hL:e.txs.length<1000000000000);refine S3 gN Tryz.func76 (b48 e id) (α:=(∃(x:V3 e.txs.length (t6 e.txs id)),(id=id/\(0=0/\0=0)/\(0:Int)=(x.val:Int)/\True)/\(1=1/\1=1/\y5 e e)/\True)/\∀(x:V3 e.txs.length (t6 e.txs id)),(decide ((x.val:Int)<(e.txs.length:Int))=true->W2 (x.val:Int) e.txs.length/\(((e.txs.getD (x.val:Int).toNat default).id==id)=true->(x.val:Int)=U4 e.txs id)/\(((e.txs.getD (x.val:Int).toNat default).id==id)=false->X2 .i64 ((x.val:Int)+(1:Int))/\∃(y:V3 e.txs.length (t6 e.txs id)),((id=id/\(0=0/\0=0)/\(x.val:Int)+(1:Int)=(y.val:Int)/\True)/\(1=1/\1=1/\y5 e e)/\True)/\Lt (e.txs.length-y.val) (e.txs.length-x.val)))/\(decide ((x.val:Int)<(e.txs.length:Int))=false->(-1:Int)=U4 e.txs id)) ⟨⟨E8,⟨rfl,Z7,Z9⟩,⟨rfl,rfl,B5 _⟩,trivial⟩,λx=>⟨λhc=> ?_,λhc=> ?_⟩⟩
 ·have hlt:=Y1 hc;exact⟨Y3 hlt,λhp=>(L5 hlt hp x.2.2).symm,λhp=>⟨V5 hlt (by omega),x.succ hlt hp,⟨⟨rfl,Z7,by simp only[V3.succ];omega,trivial⟩,⟨rfl,rfl,B5 _⟩,trivial⟩,V3.ext_lt hlt⟩⟩
 ·have hge:=X9 hc;exact(J9 λj hj=>x.2.2 j (vR hj hge)).symm

def Y4(L:List Rec)(at_:Int):Rec:=L.getD (at_-1).toNat default
def ownR(L:List Rec)(at_ id:Int):Bool:=V6 at_ 1 L.length&&((Y4 L at_).t==id)&&V6 (Y4 L at_).k 1 3
def okR(L:List Rec)(id at_:Int):Bool:=ownR L at_ id&&((Y4 L at_).k !=3||ownR L (Y4 L at_).n id)
def chn(L:List Rec)(id:Int):Nat->Int->Bool
 |0,_=>true
 |f+1,at_=>decide (at_<=0)||(okR L id at_&&chn L id f (Y4 L at_).p)
def qF(L:List Rec)(t:Txn):Bool:=V6 t.last 1 L.length&&chn L t.id 61 t.last
def wV(L:List Rec):Prop:=L.length<=60/\∀i,i<L.length->zF (L.getD i default)/\(L.getD i default).l=(i:Int)+1
def b5x:Con:=.rel ⟨Sto×Int×Int,λx=>[.bref x.1.ts,.int .i64 x.2.1,.int .i64 x.2.2],λx=>.bool (ownR x.1.log x.2.1 x.2.2),λx=>N3 x.1.log.length⟩
theorem L7{n lo hi:Int}:V6 n lo hi=true↔lo<=n/\n<=hi:=by
 unfold V6;simp only[I3,m5]
theorem b04:GK 222 b5x:=gk Tryz.func222<|by
 rintro⟨s,at_,id⟩ (hL:s.log.length<1000000000000);have k1:V6 at_ 1 s.log.length=true->X2 .i64 (at_-1)/\W2 (at_-1) s.log.length:=λh=>by
  obtain⟨h1,h2⟩:=L7.1 h;exact⟨Z4 (by omega),by omega,by omega⟩
 exact S3 (gC N4 gN) Tryz.func222 Z0 (α:=(V6 at_ (1:Int) (s.log.length:Int)=true->X2 .i64 (at_- (1:Int)))/\(V6 at_ (1:Int) (s.log.length:Int)=true->W2 (at_- (1:Int)) s.log.length)/\((V6 at_ (1:Int) (s.log.length:Int)&&(s.log.getD (at_- (1:Int)).toNat default).t==id)=true->X2 .i64 (at_- (1:Int)))/\((V6 at_ (1:Int) (s.log.length:Int)&&(s.log.getD (at_- (1:Int)).toNat default).t==id)=true->W2 (at_- (1:Int)) s.log.length)/\(V6 at_ (1:Int) (s.log.length:Int)&&(s.log.getD (at_- (1:Int)).toNat default).t==id&&V6 (s.log.getD (at_- (1:Int)).toNat default).k (1:Int) (3:Int))=ownR s.log at_ id) ⟨λh=>(k1 h).1,λh=>(k1 h).2,λh=>(k1 (Bool.and_eq_true_iff.1 h).1).1,λh=>(k1 (Bool.and_eq_true_iff.1 h).1).2,rfl⟩
theorem wV.at{L:List Rec}(h:wV L){at_:Int}(h1:1<=at_)(h2:at_<=L.length):zF (Y4 L at_)/\(Y4 L at_).l=at_:=by
 obtain⟨a,b⟩:=h.2 (at_-1).toNat (by omega)
 exact⟨a,by unfold Y4;rw[b];omega⟩
theorem wV.prev{L:List Rec}(h:wV L){at_:Int}(h1:1<=at_)(h2:at_<=L.length):0<=(Y4 L at_).p/\(Y4 L at_).p<=at_-1/\0<=(Y4 L at_).n/\(Y4 L at_).n<=at_-1:=by
 obtain⟨a,b⟩:=h.at h1 h2;obtain⟨_,_,_,_,_,_,q1,q2,q3,q4,_⟩:=a;omega
theorem b9y{L:List Rec}{at_ id:Int}(h:ownR L at_ id=true):1<=at_/\at_<=L.length:=by
 unfold ownR at h;simp only[I3] at h;exact L7.1 h.1.1
theorem lN(L:List Rec)(id:Int){f:Nat}(hf:0<f){at_:Int}(h:1<=at_):chn L id f at_=(okR L id at_&&chn L id (f-1) (Y4 L at_).p):=by
 obtain⟨g,rfl⟩:∃g,f=g+1:=⟨f-1,by omega⟩
 show(decide (at_<=0)||_)=_;rw[tW (by omega),Bool.false_or]
 rfl
theorem aD(L:List Rec)(id:Int)(f:Nat){at_:Int}(h:at_<=0):chn L id f at_=true:=by
 cases f with
 |zero=>rfl
 |succ f=>show(decide (at_<=0)||_)=_;rw[iO h];rfl
def b3I(t:Txn):Option Ob:=some (.arr true 1000000 2 1 λ_=>t.ts)
def Chn(L:List Rec)(t:Txn):Type:={x:Nat×Int//0<x.1/\(V6 x.2 1 L.length&&chn L t.id x.1 x.2)=qF L t/\(x.2.toNat<x.1∨x.1=61)}
def a7r:Con:=.rel ⟨Sto×Txn,λx=>[.bref x.1.ts,.agg x.2.ts],λx=>.bool (qF x.1.log x.2),λx=>wV x.1.log⟩
def a7f(s:Sto)(t:Txn):Nat->Ann
 |0=>.one (Chn s.log t) (λx=>⟨[(0,.bref s.ts),(3,.ref 0 0 0),(5,.int .i64 x.1.2)],[b3I t]⟩) (λx=>x.1.1) [.box 0] [.box 0] (λ_=>Z0)
 |_=>.none
theorem a32:GK 157 a7r:=gk Tryz.func157<|by
 rintro⟨s,t⟩ (hL:wV s.log);have h60:=hL.1;refine S3 (gC b04 gN) Tryz.func157 (a7f s t) (α:=(∃(x:Chn s.log t),(M2 (v5 [some 0]) (T.bref s.ts) (T.bref s.ts)/\(0=0/\0=0)/\t.last=x.val.2/\True)/\(1=1/\1=1/\t.id=t.id/\t.last=t.last/\True)/\True)/\∀(x:Chn s.log t),∃(x_1:(Sto×Int×Int)),(((yI s x_1.1)/\x.val.2=x_1.2.1/\t.id=x_1.2.2/\True)/\N3 x_1.1.log.length)/\((!ownR x_1.1.log x_1.2.1 x_1.2.2)=true->false=qF s.log t)/\((!ownR x_1.1.log x_1.2.1 x_1.2.2)=false->X2 .i64 (x.val.2- (1:Int))/\W2 (x.val.2- (1:Int)) s.log.length/\∃(x_2:(Sto×Int×Int)),(((s.log.getD (x.val.2- (1:Int)).toNat default).k==(3:Int))=true->((yI s x_2.1)/\(s.log.getD (x.val.2- (1:Int)).toNat default).n=x_2.2.1/\t.id=x_2.2.2/\True)/\N3 x_2.1.log.length)/\(((s.log.getD (x.val.2- (1:Int)).toNat default).k==(3:Int)&& !ownR x_2.1.log x_2.2.1 x_2.2.2)=true->false=qF s.log t)/\(((s.log.getD (x.val.2- (1:Int)).toNat default).k==(3:Int)&& !ownR x_2.1.log x_2.2.1 x_2.2.2)=false->(((s.log.getD (x.val.2- (1:Int)).toNat default).p==(0:Int))=true->true=qF s.log t)/\(((s.log.getD (x.val.2- (1:Int)).toNat default).p==(0:Int))=false->∃(y:Chn s.log t),((M2 (v5 [some 0]) (T.bref s.ts) (T.bref s.ts)/\(0=0/\0=0)/\(s.log.getD (x.val.2- (1:Int)).toNat default).p=y.val.2/\True)/\(1=1/\1=1/\t.id=t.id/\t.last=t.last/\True)/\True)/\Lt y.val.1 x.val.1)))) ⟨⟨⟨(61,t.last),Nat.succ_pos 60,rfl,.inr rfl⟩,⟨S1 _,Z7,Z9⟩,⟨rfl,rfl,rfl,Z9⟩,trivial⟩,λx=> ?_⟩
 obtain⟨⟨f,at_⟩,hf,he,hb⟩:=x;dsimp only at hf he hb ⊢;refine⟨(s,at_,t.id),⟨⟨(yH _),rfl,Z9⟩,by unfold N3;simp only;omega⟩,λho=> ?_,λho=> ?_⟩
 ·simp only[vO] at ho;rw[←he];cases hi:V6 at_ 1 s.log.length
  ·rfl
  ·obtain⟨q1,q2⟩:=L7.1 hi;rw[lN _ _ hf q1];unfold okR;rw[ho];rfl
 ·simp only[xE] at ho;obtain⟨q1,q2⟩:=b9y ho;have hi:V6 at_ 1 s.log.length=true:=L7.2 ⟨q1,q2⟩;rw[hi,Bool.true_and,lN _ _ hf q1] at he;obtain⟨p1,p2,_⟩:=hL.prev q1 q2;have eo:okR s.log t.id at_=((Y4 s.log at_).k !=3||ownR s.log (Y4 s.log at_).n t.id):=by unfold okR;rw[ho,Bool.true_and]
  refine⟨Z4 (by omega),⟨by omega,by omega⟩,(s,(Y4 s.log at_).n,t.id),λ_=>⟨⟨(yH _),rfl,Z9⟩,by unfold N3;simp only;omega⟩,λhk=> ?_,λhk=>⟨λh0=> ?_,λh0=> ?_⟩⟩
  ·have hk:((Y4 s.log at_).k==3&& !ownR s.log (Y4 s.log at_).n t.id)=true:=hk;rw[←he,eo];simp only[I3,vO,beq_iff_eq] at hk;rw[hk.1,hk.2];rfl
  ·have hk:((Y4 s.log at_).k==3&& !ownR s.log (Y4 s.log at_).n t.id)=false:=hk;have h0:(Y4 s.log at_).p=0:=beq_iff_eq.1 h0;have e2:okR s.log t.id at_=true:=by
    rw[eo,←xE,Bool.not_or,show(!((Y4 s.log at_).k !=3))=((Y4 s.log at_).k==3) by simp[bne]]
    exact hk
   rw[←he,e2,h0,aD _ _ _ (Int.le_refl 0)];rfl
  ·have hk:((Y4 s.log at_).k==3&& !ownR s.log (Y4 s.log at_).n t.id)=false:=hk;have h0:(Y4 s.log at_).p≠0:=λh=>by
    have h0:((Y4 s.log at_).p==0)=false:=h0;rw[h] at h0;cases h0
   have e2:okR s.log t.id at_=true:=by
    rw[eo,←xE,Bool.not_or,show(!((Y4 s.log at_).k !=3))=((Y4 s.log at_).k==3) by simp[bne]]
    exact hk
   rw[e2,Bool.true_and] at he;refine⟨⟨(f-1,(Y4 s.log at_).p),by simp only;omega,?_,by simp only;omega⟩,⟨⟨S1 _,⟨rfl,rfl⟩,rfl,trivial⟩,⟨rfl,rfl,rfl,rfl,trivial⟩,trivial⟩,show f-1<f by omega⟩
   simp only;rw[L7.2 (show 1<=(Y4 s.log at_).p/\(Y4 s.log at_).p<=(s.log.length:Int) by omega),Bool.true_and]
   exact he
def und(L:List Rec):Nat->Int->Nat
 |0,_=>0
 |f+1,at_=>if at_<=0 then 0 else if(Y4 L at_).k=3 then und L f (Y4 L at_).n else(if(Y4 L at_).k=2 then 1 else 0)+und L f (Y4 L at_).p
def lJ(m:Nat):Option Ob:=some (.arr true 1000000 1 1 λ_=>[.int .i64 m])
def b2C:Con:=.reff ⟨Rec×Nat,λx=>[.agg x.1.ts,.ref 0 0 0],λx=>[lJ x.2],λ_=>.bool true,λx=>[lJ (x.2+1)],λx=>x.2<1000⟩
theorem a7t:GK 266 b2C:=gk Tryz.func266<|by
 rintro⟨r,m⟩ (h:m<1000);exact vcE gN Tryz.func266 Z0 (bs:=[true]) (α:=X2 .i64 ((m:Int)+(1:Int))/\true=true/\(1=1/\1=1/\(m:Int)+(1:Int)=(↑(m+1):Int)/\True)/\True) ⟨Z4 (by omega),rfl,⟨rfl,rfl,by omega,trivial⟩,trivial⟩
def qC(L:List Rec)(at_:Int):Prop:=wV L/\at_<=(L.length:Int)
def a83:Con:=.reff ⟨Sto×Int,λx=>[.bref x.1.ts,.int .i64 x.2,.fn (.func 266) [.ref 0 0 0]],λ_=>[lJ 1],λ_=>.tup [],λx=>[lJ (1+und x.1.log 61 x.2)],λx=>qC x.1.log x.2⟩
def Und(L:List Rec)(from_:Int):Type:={x:Nat×Int×Nat//x.2.2+und L x.1 x.2.1=1+und L 61 from_/\x.2.1<=(L.length:Int)/\x.2.1.toNat<x.1/\x.2.2+x.1<=100}
def a8K(s:Sto)(from_:Int):Nat->Ann
 |0=>.one (Und s.log from_) (λx=>⟨[(0,.bref s.ts),(1,.int .i64 x.1.2.1),(2,.fn (.func 266) [.ref 0 0 0])],[lJ x.1.2.2]⟩) (λx=>x.1.1) [.box 0] [.box 0] (λ_=>Z0)
 |_=>.none
theorem dP(L:List Rec):∀(f:Nat) (at_:Int),und L f at_<=f:=by
 intro f;induction f with
 |zero=>intro at_;exact V1 0
 |succ f ih=>
  intro at_;unfold und;split
  ·omega
  ·split
   ·have:=ih (Y4 L at_).n;omega
   ·have:=ih (Y4 L at_).p;split<;>omega
theorem bP{L:List Rec}{f:Nat}{at_:Int}(h:0<at_)(hf:at_.toNat<f)(hk:(Y4 L at_).k=3):und L f at_=und L (f-1) (Y4 L at_).n:=by
 obtain⟨g,rfl⟩:∃g,f=g+1:=⟨f-1,by omega⟩
 conv=>lhs;unfold und
 rw[if_neg (by omega),if_pos hk]
 rfl
theorem nT{L:List Rec}{f:Nat}{at_:Int}(h:0<at_)(hf:at_.toNat<f)(hk:(Y4 L at_).k≠3):und L f at_=(if(Y4 L at_).k=2 then 1 else 0)+und L (f-1) (Y4 L at_).p:=by
 obtain⟨g,rfl⟩:∃g,f=g+1:=⟨f-1,by omega⟩
 conv=>lhs;unfold und
 rw[if_neg (by omega),if_neg hk]
 rfl
theorem a0q{L:List Rec}{f:Nat}{at_:Int}(h:at_<=0):und L f at_=0:=by
 cases f with
 |zero=>rfl
 |succ f=>unfold und;rw[if_pos h]
theorem a3h:GK 193 a83:=gk Tryz.func193<|by
 rintro⟨s,from_⟩ ⟨hL,hl⟩;dsimp only at hL hl;have h60:=hL.1;refine vcE (gC a7t gN) Tryz.func193 (a8K s from_) (bs:=[true]) (α:=(∃(x:Und s.log from_),(M2 (v5 [some 0]) (T.bref s.ts) (T.bref s.ts)/\from_=x.val.2.1/\(Fn.func 266=Fn.func 266/\(0=0/\0=0)/\True)/\True)/\(1=1/\1=1/\(1:Int)=(x.val.2.2:Int)/\True)/\True)/\∀(x:Und s.log from_),(decide (x.val.2.1>(0:Int))=true->X2 .i64 (x.val.2.1- (1:Int))/\W2 (x.val.2.1- (1:Int)) s.log.length/\(((s.log.getD (x.val.2.1- (1:Int)).toNat default).k==(3:Int))=true->∃(y:Und s.log from_),((M2 (v5 [some 0]) (T.bref s.ts) (T.bref s.ts)/\(s.log.getD (x.val.2.1- (1:Int)).toNat default).n=y.val.2.1/\(Fn.func 266=Fn.func 266/\(0=0/\0=0)/\True)/\True)/\(1=1/\1=1/\(x.val.2.2:Int)=(y.val.2.2:Int)/\True)/\True)/\Lt y.val.1 x.val.1)/\(((s.log.getD (x.val.2.1- (1:Int)).toNat default).k==(3:Int))=false->∃(x_1:(Rec×Nat)),(((s.log.getD (x.val.2.1- (1:Int)).toNat default).k==(2:Int))=true->(((s.log.getD (x.val.2.1- (1:Int)).toNat default).e=x_1.1.e/\(s.log.getD (x.val.2.1- (1:Int)).toNat default).l=x_1.1.l/\(s.log.getD (x.val.2.1- (1:Int)).toNat default).t=x_1.1.t/\(s.log.getD (x.val.2.1- (1:Int)).toNat default).k=x_1.1.k/\(s.log.getD (x.val.2.1- (1:Int)).toNat default).p=x_1.1.p/\(s.log.getD (x.val.2.1- (1:Int)).toNat default).n=x_1.1.n/\(s.log.getD (x.val.2.1- (1:Int)).toNat default).g=x_1.1.g/\(s.log.getD (x.val.2.1- (1:Int)).toNat default).s=x_1.1.s/\(s.log.getD (x.val.2.1- (1:Int)).toNat default).b=x_1.1.b/\(s.log.getD (x.val.2.1- (1:Int)).toNat default).a=x_1.1.a/\True)/\(0=0/\0=0)/\True)/\((1=1/\Z6 1 (λ(x_2:Nat)=>[T.int .i64 (x.val.2.2:Int)]) λ(x:Nat)=>[T.int .i64 (x_1.2:Int)])/\True)/\x_1.2<1000)/\(((s.log.getD (x.val.2.1- (1:Int)).toNat default).k==(2:Int))=true->(((s.log.getD (x.val.2.1- (1:Int)).toNat default).k==(2:Int)&&false)=true->True/\(1=1/\1=1/\(↑(x_1.2+1):Int)=(↑(1+und s.log 61 from_):Int)/\True)/\True)/\(((s.log.getD (x.val.2.1- (1:Int)).toNat default).k==(2:Int)&&false)=false->∃(y:Und s.log from_),((M2 (v5 [some 0]) (T.bref s.ts) (T.bref s.ts)/\(s.log.getD (x.val.2.1- (1:Int)).toNat default).p=y.val.2.1/\(Fn.func 266=Fn.func 266/\(0=0/\0=0)/\True)/\True)/\(1=1/\1=1/\(↑(x_1.2+1):Int)=(y.val.2.2:Int)/\True)/\True)/\Lt y.val.1 x.val.1))/\((((s.log.getD (x.val.2.1- (1:Int)).toNat default).k==(2:Int))=true->False)->(((s.log.getD (x.val.2.1- (1:Int)).toNat default).k==(2:Int)&&false)=true->True/\(1=1/\1=1/\(x.val.2.2:Int)=(↑(1+und s.log 61 from_):Int)/\True)/\True)/\(((s.log.getD (x.val.2.1- (1:Int)).toNat default).k==(2:Int)&&false)=false->∃(y:Und s.log from_),((M2 (v5 [some 0]) (T.bref s.ts) (T.bref s.ts)/\(s.log.getD (x.val.2.1- (1:Int)).toNat default).p=y.val.2.1/\(Fn.func 266=Fn.func 266/\(0=0/\0=0)/\True)/\True)/\(1=1/\1=1/\(x.val.2.2:Int)=(y.val.2.2:Int)/\True)/\True)/\Lt y.val.1 x.val.1))))/\(decide (x.val.2.1>(0:Int))=false->True/\(1=1/\1=1/\(x.val.2.2:Int)=(↑(1+und s.log 61 from_):Int)/\True)/\True)) ⟨⟨⟨(61,from_,1),rfl,hl,by dsimp only;omega,by dsimp only;omega⟩,⟨S1 _,rfl,⟨rfl,⟨rfl,rfl⟩,trivial⟩,trivial⟩,⟨rfl,rfl,rfl,trivial⟩,trivial⟩,λx=> ?_⟩
 obtain⟨⟨f,at_,m⟩,he,hle,hf,hm⟩:=x;dsimp only at he hle hf hm ⊢;refine⟨λhc=> ?_,λhc=> ?_⟩
 ·have h0:at_>0:=E9 hc;obtain⟨p1,p2,p3,p4⟩:=hL.prev (show 1<=at_ by omega) hle
  refine⟨Z4 (by omega),⟨by omega,by omega⟩,λhk=> ?_,λhk=> ?_⟩
  ·have hk:(Y4 s.log at_).k=3:=beq_iff_eq.1 hk;rw[bP h0 hf hk] at he;exact⟨⟨(f-1,(Y4 s.log at_).n,m),he,by dsimp only;omega,by dsimp only;omega,by dsimp only;omega⟩,⟨⟨S1 _,rfl,⟨rfl,⟨rfl,rfl⟩,trivial⟩,trivial⟩,⟨rfl,rfl,rfl,trivial⟩,trivial⟩,show f-1<f by omega⟩
  ·have hk:(Y4 s.log at_).k≠3:=λh=>by
    have hk:((Y4 s.log at_).k==3)=false:=hk;rw[h] at hk;cases hk
   rw[nT h0 hf hk] at he;refine⟨(Y4 s.log at_,m),λ_=>⟨⟨⟨rfl,rfl,rfl,rfl,rfl,rfl,rfl,rfl,rfl,Z9⟩,U6⟩,X8,by dsimp only;omega⟩,λh2=>⟨λhh=> ?_,λ_=> ?_⟩,λh2=>⟨λhh=> ?_,λ_=> ?_⟩⟩
   ·rw[Bool.and_false] at hh;cases hh
   ·have h2:(Y4 s.log at_).k=2:=beq_iff_eq.1 h2;rw[if_pos h2] at he;exact⟨⟨(f-1,(Y4 s.log at_).p,m+1),by dsimp only;omega,by dsimp only;omega,by dsimp only;omega,by dsimp only;omega⟩,⟨⟨S1 _,rfl,⟨rfl,⟨rfl,rfl⟩,trivial⟩,trivial⟩,⟨rfl,rfl,rfl,trivial⟩,trivial⟩,show f-1<f by omega⟩
   ·rw[Bool.and_false] at hh;cases hh
   ·have h2:¬ (Y4 s.log at_).k=2:=λh=>h2 (beq_iff_eq.2 h)
    rw[if_neg h2] at he;exact⟨⟨(f-1,(Y4 s.log at_).p,m),by dsimp only;omega,by dsimp only;omega,by dsimp only;omega,by dsimp only;omega⟩,⟨⟨S1 _,rfl,⟨rfl,⟨rfl,rfl⟩,trivial⟩,trivial⟩,⟨rfl,rfl,rfl,trivial⟩,trivial⟩,show f-1<f by omega⟩
 ·have h0:at_<=0:=by have:=yG hc;omega
  rw[a0q h0] at he;exact⟨trivial,⟨rfl,rfl,by omega,trivial⟩,trivial⟩
def b0B:Con:=.rel ⟨Sto×Int,λx=>[.bref x.1.ts,.int .i64 x.2],λx=>.int .i64 ((1+und x.1.log 61 x.2:Nat):Int),λx=>qC x.1.log x.2⟩
theorem a8l:GK 229 b0B:=gk Tryz.func229<|by
 rintro⟨s,from_⟩ h;exact S3 (gC a3h gN) Tryz.func229 Z0 (α:=∃(x:(Sto×Int)),(((yI s x.1)/\from_=x.2/\(Fn.func 266=Fn.func 266/\(0=0/\0=0)/\True)/\True)/\((1=1/\Z6 1 (setRow (λ(x:Nat)=>[T.int .i64 (0:Int)]) 0 0 [T.int .i64 (1:Int)]) λ(x:Nat)=>[T.int .i64 (1:Int)])/\True)/\qC x.1.log x.2)/\(↑(1+und x.1.log 61 x.2):Int)=(↑(1+und s.log 61 from_):Int)) ⟨(s,from_),⟨⟨(yH _),rfl,⟨rfl,U6⟩,trivial⟩,⟨⟨rfl,λi hi=>by(obtain rfl:i=0:=by omega);rfl⟩,trivial⟩,h⟩,rfl⟩
def b0x:Con:=.rel ⟨Bool,λb=>[.bool b],λb=>.int .i64 (if b then 1 else 0),λ_=>True⟩
theorem b0a(b:Bool)(h:
  (b=true->(1:Int)=if b=true then(1:Int) else(0:Int))/\(b=false->(0:Int)=if b=true then(1:Int) else(0:Int))):
  U3 Tryz.prog 203 [.bool b] (.int .i64 (if b then 1 else 0)):=
 S3 gN Tryz.func203 Z0 h
theorem a9J:GK 203 b0x:=gk Tryz.func203<|λb _=>b0a b ⟨λh=>by rw[if_pos h],λh=>by rw[h];rfl⟩
def a8i:Con:=.rel ⟨Sto×Int,λx=>[.agg x.1.ts,.int .i64 x.2],λx=>.int .i64 ((1+und x.1.log 61 x.2:Nat):Int),λx=>qC x.1.log x.2⟩
def a6V(s:Sto)(from_:Int):Nat->Ann
 |0=>.one (Und s.log from_) (λx=>⟨[(1,.int .i64 x.1.2.1),(2,.ref 0 0 0),(5,.int .i64 x.1.2.2)],[nC s]⟩) (λx=>x.1.1) [.box 0] [.box 0] (λ_=>Z0)
 |_=>.none
theorem a2Y:GK 143 a8i:=gk Tryz.func143<|by
 rintro⟨s,from_⟩ ⟨hL,hl⟩;dsimp only at hL hl;have h60:=hL.1;refine S3 (gC a9J gN) Tryz.func143 (a6V s from_) (α:=(∃(x:Und s.log from_),(from_=x.val.2.1/\(0=0/\0=0)/\(1:Int)=(x.val.2.2:Int)/\True)/\(1=1/\1=1/\yI s s)/\True)/\∀(x:Und s.log from_),(decide (x.val.2.1>(0:Int))=true->X2 .i64 (x.val.2.1- (1:Int))/\W2 (x.val.2.1- (1:Int)) s.log.length/\(((s.log.getD (x.val.2.1- (1:Int)).toNat default).k==(3:Int))=true->∃(y:Und s.log from_),(((s.log.getD (x.val.2.1- (1:Int)).toNat default).n=y.val.2.1/\(0=0/\0=0)/\(x.val.2.2:Int)=(y.val.2.2:Int)/\True)/\(1=1/\1=1/\yI s s)/\True)/\Lt y.val.1 x.val.1)/\(((s.log.getD (x.val.2.1- (1:Int)).toNat default).k==(3:Int))=false->∃(x_1:Bool),((((s.log.getD (x.val.2.1- (1:Int)).toNat default).k==(2:Int))=x_1/\True)/\True)/\X2 .i64 ((x.val.2.2:Int)+if x_1=true then(1:Int) else(0:Int))/\∃(y:Und s.log from_),(((s.log.getD (x.val.2.1- (1:Int)).toNat default).p=y.val.2.1/\(0=0/\0=0)/\((x.val.2.2:Int)+if x_1=true then(1:Int) else(0:Int))=(y.val.2.2:Int)/\True)/\(1=1/\1=1/\yI s s)/\True)/\Lt y.val.1 x.val.1))/\(decide (x.val.2.1>(0:Int))=false->(x.val.2.2:Int)=(↑(1+und s.log 61 from_):Int))) ⟨⟨⟨(61,from_,1),rfl,hl,by dsimp only;omega,by dsimp only;omega⟩,⟨rfl,⟨rfl,rfl⟩,rfl,trivial⟩,⟨rfl,rfl,yH _⟩,trivial⟩,λx=> ?_⟩
 obtain⟨⟨f,at_,m⟩,he,hle,hf,hm⟩:=x;dsimp only at he hle hf hm ⊢;refine⟨λhc=> ?_,λhc=> ?_⟩
 ·have h0:at_>0:=E9 hc;obtain⟨p1,p2,p3,p4⟩:=hL.prev (show 1<=at_ by omega) hle
  refine⟨Z4 (by omega),⟨by omega,by omega⟩,λhk=> ?_,λhk=> ?_⟩
  ·have hk:(Y4 s.log at_).k=3:=beq_iff_eq.1 hk;rw[bP h0 hf hk] at he;exact⟨⟨(f-1,(Y4 s.log at_).n,m),he,by dsimp only;omega,by dsimp only;omega,by dsimp only;omega⟩,⟨⟨rfl,⟨rfl,rfl⟩,rfl,trivial⟩,⟨rfl,rfl,yH _⟩,trivial⟩,show f-1<f by omega⟩
  ·have hk:(Y4 s.log at_).k≠3:=λh=>by
    have hk:((Y4 s.log at_).k==3)=false:=hk;rw[h] at hk;cases hk
   rw[nT h0 hf hk] at he;have hn:und s.log (f-1) (Y4 s.log at_).p<=f-1:=dP _ _ _;refine⟨(Y4 s.log at_).k==2,⟨Z9,trivial⟩,?_,?_⟩
   ·split<;>exact Z4 (by omega)
   ·by_cases h2:(Y4 s.log at_).k=2
    ·rw[if_pos h2] at he;rw[if_pos (by simpa using h2)]
     exact⟨⟨(f-1,(Y4 s.log at_).p,m+1),by dsimp only;omega,by dsimp only;omega,by dsimp only;omega,by dsimp only;omega⟩,⟨⟨rfl,⟨rfl,rfl⟩,rfl,trivial⟩,⟨rfl,rfl,yH _⟩,trivial⟩,show f-1<f by omega⟩
    ·rw[if_neg h2] at he;rw[if_neg (by simpa using h2)]
     exact⟨⟨(f-1,(Y4 s.log at_).p,m),by dsimp only;omega,by dsimp only;omega,by dsimp only;omega,by dsimp only;omega⟩,⟨⟨rfl,⟨rfl,rfl⟩,by dsimp only;omega,trivial⟩,⟨rfl,rfl,yH _⟩,trivial⟩,show f-1<f by omega⟩
 ·have h0:at_<=0:=by have:=yG hc;omega
  rw[a0q h0] at he;show(m:Int)=_;omega
end Go.Proofs.YtokaojbaacnngaaGreat

