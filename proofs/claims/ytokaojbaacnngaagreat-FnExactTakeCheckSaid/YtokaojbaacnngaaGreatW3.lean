/- A part of the proof. -/
import Derived.Test.YtokaojbaacnngaaGreatW1W2
namespace Go.Proofs.YtokaojbaacnngaaGreat
set_option maxRecDepth 100000
open Go.SS

structure Txn where
 id:Int
 last:Int
 deriving Inhabited
def Txn.ts(t:Txn):List T:=[.int .i64 t.id,.int .i64 t.last]
def Y0(L:List Txn)(i:Nat):List T:=(L.getD i default).ts
def B4(L:List Txn):T:=.sl 2 L.length (Y0 L)
structure Eng where
 s:Sto
 up:Bool
 txs:List Txn
 lk:Lks
 next:Int
 deriving Inhabited
def Eng.ts(e:Eng):List T:=[L3 e.s.d.sec,M4 e.s.d.cache,.bool e.s.d.armed,r7 e.s.d.keep,.int .i64 e.s.ep,F3 e.s.log,.int .i64 e.s.sure,w5 e.s.fr,.int .i64 e.s.hand,.bool e.up,B4 e.txs,w7 e.lk.held,tT e.lk.waits,.int .i64 e.next]
abbrev j6(a b:Eng):Prop:=(a.s.d.sec.length=b.s.d.sec.length/\Z8 a.s.d.sec.length (Z6 a.s.d.sec) (Z6 b.s.d.sec))/\(a.s.d.cache.length=b.s.d.cache.length/\Z8 a.s.d.cache.length (Z3 a.s.d.cache) (Z3 b.s.d.cache))/\a.s.d.armed=b.s.d.armed/\(a.s.d.keep.length=b.s.d.keep.length/\Z8 a.s.d.keep.length (Y8 a.s.d.keep) (Y8 b.s.d.keep))/\a.s.ep=b.s.ep/\(a.s.log.length=b.s.log.length/\Z8 a.s.log.length (Y5 a.s.log) (Y5 b.s.log))/\a.s.sure=b.s.sure/\(a.s.fr.length=b.s.fr.length/\Z8 a.s.fr.length (V6 a.s.fr) (V6 b.s.fr))/\a.s.hand=b.s.hand/\a.up=b.up/\(a.txs.length=b.txs.length/\Z8 a.txs.length (Y0 a.txs) (Y0 b.txs))/\(a.lk.held.length=b.lk.held.length/\Z8 a.lk.held.length (Y2 a.lk.held) (Y2 b.lk.held))/\(a.lk.waits.length=b.lk.waits.length/\Z8 a.lk.waits.length (X3 a.lk.waits) (X3 b.lk.waits))/\a.next=b.next/\True
theorem u7(s:Eng):j6 s s:=⟨⟨rfl,Z9 _ _⟩,⟨rfl,Z9 _ _⟩,rfl,⟨rfl,Z9 _ _⟩,rfl,⟨rfl,Z9 _ _⟩,rfl,⟨rfl,Z9 _ _⟩,rfl,rfl,⟨rfl,Z9 _ _⟩,⟨rfl,Z9 _ _⟩,⟨rfl,Z9 _ _⟩,rfl,trivial⟩
def xE(e:Eng):Option Ob:=some (.arr true 1000000 14 1 fun _=>e.ts)
def tC(L:List Txn)(id:Int)(i:Nat):Bool:=(L.getD i default).id==id
def L6(L:List Txn)(id:Int):Int:=Q4 L.length (tC L id)
def c2Z:Con:=.rel ⟨Txn×Int,fun x=>[.agg x.1.ts,.bref [.int .i64 x.2]],fun x=>.bool (x.1.id==x.2),fun _=>True⟩
noncomputable def c3B:Code:=Tryz.f192.body.getD .skip
theorem a60:Z7 Tryz.prog 192:=⟨_,Tryz.func192,by kernel_rfl,by kernel_rfl⟩
theorem c2V(t:Txn)(id:Int)(h:
  (t.id==id)=(t.id==id)):
  Z2 Tryz.prog 192 [.agg t.ts,.bref [.int .i64 id]] (.bool (t.id==id)):=
 T4 (code:=c3B) gN Tryz.func192 (by kernel_rfl) (by kernel_rfl) Z0 h (by kernel_rfl)
theorem b53:Z1 Tryz.prog 192 c2Z:=fun x _=>c2V x.1 x.2 rfl
def txF(id:Int):T:=.fn (.func 192) [.bref [.int .i64 id]]
def b7S:Con:=.rel ⟨List Txn×Int,fun x=>[B4 x.1,txF x.2],fun x=>.int .i64 (L6 x.1 x.2),fun x=>K6 x.1.length⟩
def b8p(L:List Txn)(id:Int):Nat->Ann
 |0=>.one (V9 L.length (tC L id)) (fun x=>⟨[(0,B4 L),(1,txF id),(7,.int .i64 L.length),(8,.int .i64 x.1)],[]⟩) (fun x=>L.length-x.1) [] [] (fun _=>Z0)
 |_=>.none
noncomputable def b6P:Code:=Tryz.f191.body.getD .skip
theorem a3A:Z7 Tryz.prog 191:=⟨_,Tryz.func191,by kernel_rfl,by kernel_rfl⟩
theorem b8k(L:List Txn)(id:Int)(h:
  (∃(x:V9 L.length (tC L id)),((Y4 Y0 L L)/\(Fn.func 192=Fn.func 192/\O0 (fun(x:Nat)=>none) (T.bref [T.int .i64 id]) (T.bref [T.int .i64 id])/\True)/\(L.length:Int)=(L.length:Int)/\(0:Int)=(x.val:Int)
  /\True)/\True)/\∀(x:V9 L.length (tC L id)),(decide ((x.val:Int)<(L.length:Int))=true->X0 (x.val:Int) L.length/\∃(x_1:(Txn×Int)),((((L.getD (x.val:Int).toNat default).id=x_1.fst.id/\(L.getD
  (x.val:Int).toNat default).last=x_1.fst.last/\True)/\(id=x_1.snd/\True)/\True)/\True)/\((x_1.fst.id==x_1.snd)=true->(x.val:Int)=L6 L id)/\((x_1.fst.id==x_1.snd)=false->X8 .i64 ((x.val:Int)+(1:Int))/\
  ∃(y:V9 L.length (tC L id)),(((Y4 Y0 L L)/\(Fn.func 192=Fn.func 192/\O0 (fun(x:Nat)=>none) (T.bref [T.int .i64 id]) (T.bref [T.int .i64 id])/\True)/\(L.length:Int)=(L.length:Int)/\(x.val:Int)+(1:Int)
  =(y.val:Int)/\True)/\True)/\Lt (L.length-y.val) (L.length-x.val)))/\(decide ((x.val:Int)<(L.length:Int))=false->(-1:Int)=L6 L id)):
  Z2 Tryz.prog 191 [B4 L,txF id] (.int .i64 (L6 L id)):=
 T4 (code:=b6P) (gC b53 a60 gN) Tryz.func191 (by kernel_rfl) (by kernel_rfl) (b8p L id) h (by kernel_rfl)
theorem b0X:Z1 Tryz.prog 191 b7S:=by
 rintro⟨L,id⟩ (hL:L.length<1000000000000);refine b8k L id ⟨⟨E5,⟨⟨rfl,Z9 _ _⟩,⟨rfl,T8 _,trivial⟩,rfl,rfl,trivial⟩,trivial⟩,fun x=>⟨fun hc=> ?_,fun hc=> ?_⟩⟩
 ·have hlt:=Y9 hc;refine⟨Y7 hlt,(L.getD x.val default,id),⟨⟨⟨rfl,rfl,trivial⟩,⟨rfl,trivial⟩,trivial⟩,trivial⟩,fun hp=>(M1 hlt hp x.2.2).symm,fun hp=>⟨W4 hlt (by omega),x.succ hlt hp,⟨⟨⟨rfl,Z9 _ _⟩,⟨rfl,T8 _,trivial⟩,rfl,by simp only[V9.succ];omega,trivial⟩,trivial⟩,V9.ext_lt hlt⟩⟩
 ·have hge:=Y3 hc;exact(J4 fun j hj=>x.2.2 j (xF hj hge)).symm
def c5H:Con:=.rel ⟨Eng×Int,fun x=>[.bref x.1.ts,.int .i64 x.2],fun x=>.int .i64 (L6 x.1.txs x.2),fun x=>K6 x.1.txs.length⟩
noncomputable def c5S:Code:=Tryz.f121.body.getD .skip
theorem eY:Z7 Tryz.prog 121:=⟨_,Tryz.func121,by kernel_rfl,by kernel_rfl⟩
theorem c57(e:Eng)(id:Int)(h:
  ∃(x:(List Txn×Int)),(((Y4 Y0 e.txs x.fst)/\(Fn.func 192=Fn.func 192/\(id=x.snd/\True)/\True)/\True)/\K6 x.fst.length)/\L6 x.fst x.snd=L6 e.txs id):
  Z2 Tryz.prog 121 [.bref e.ts,.int .i64 id] (.int .i64 (L6 e.txs id)):=
 T4 (code:=c5S) (gC b0X a3A gN) Tryz.func121 (by kernel_rfl) (by kernel_rfl) Z0 h (by kernel_rfl)
theorem a8R:Z1 Tryz.prog 121 c5H:=fun x hL=>c57 x.1 x.2 ⟨(x.1.txs,x.2),⟨⟨⟨rfl,Z9 _ _⟩,⟨rfl,⟨rfl,trivial⟩,trivial⟩,trivial⟩,hL⟩,rfl⟩
def c1T:Con:=.rel ⟨Eng×Int,fun x=>[.agg x.1.ts,.int .i64 x.2],fun x=>.int .i64 (L6 x.1.txs x.2),fun x=>K6 x.1.txs.length⟩
def c4c(e:Eng)(id:Int):Nat->Ann
 |0=>.one (V9 e.txs.length (tC e.txs id)) (fun x=>⟨[(1,.int .i64 id),(2,.ref 0 0 0),(5,.int .i64 x.1)],[xE e]⟩) (fun x=>e.txs.length-x.1) [.box 0] [.box 0] (fun _=>Z0)
 |_=>.none
noncomputable def c02:Code:=Tryz.f76.body.getD .skip
theorem a8w:Z7 Tryz.prog 76:=⟨_,Tryz.func76,by kernel_rfl,by kernel_rfl⟩
theorem c3Z(e:Eng)(id:Int)(h:
  (∃(x:V9 e.txs.length (tC e.txs id)),(id=id/\(0=0/\0=0)/\(0:Int)=(x.val:Int)/\True)/\(1=1/\1=1/\j6 e e)/\True)/\∀(x:V9 e.txs.length (tC e.txs id)),(decide ((x.val:Int)<(e.txs.length:Int))=
  true->X0 (x.val:Int) e.txs.length/\(((e.txs.getD (x.val:Int).toNat default).id==id)=true->(x.val:Int)=L6 e.txs id)/\(((e.txs.getD (x.val:Int).toNat default).id==id)=false->X8 .i64 ((x.val:Int)+(1:Int))/\∃
  (y:V9 e.txs.length (tC e.txs id)),((id=id/\(0=0/\0=0)/\(x.val:Int)+(1:Int)=(y.val:Int)/\True)/\(1=1/\1=1/\j6 e e)/\True)/\Lt (e.txs.length-y.val) (e.txs.length-x.val)))/\(decide ((x.val:Int)<
  (e.txs.length:Int))=false->(-1:Int)=L6 e.txs id)):
  Z2 Tryz.prog 76 [.agg e.ts,.int .i64 id] (.int .i64 (L6 e.txs id)):=
 T4 (code:=c02) gN Tryz.func76 (by kernel_rfl) (by kernel_rfl) (c4c e id) h (by kernel_rfl)
theorem b7W:Z1 Tryz.prog 76 c1T:=by
 rintro⟨e,id⟩ (hL:e.txs.length<1000000000000);refine c3Z e id ⟨⟨E5,⟨rfl,⟨rfl,rfl⟩,rfl,trivial⟩,⟨rfl,rfl,u7 _⟩,trivial⟩,fun x=>⟨fun hc=> ?_,fun hc=> ?_⟩⟩
 ·have hlt:=Y9 hc;exact⟨Y7 hlt,fun hp=>(M1 hlt hp x.2.2).symm,fun hp=>⟨W4 hlt (by omega),x.succ hlt hp,⟨⟨rfl,⟨rfl,rfl⟩,by simp only[V9.succ];omega,trivial⟩,⟨rfl,rfl,u7 _⟩,trivial⟩,V9.ext_lt hlt⟩⟩
 ·have hge:=Y3 hc;exact(J4 fun j hj=>x.2.2 j (xF hj hge)).symm

def W7(L:List Rec)(at_:Int):Rec:=L.getD (at_-1).toNat default
def ownR(L:List Rec)(at_ id:Int):Bool:=W8 at_ 1 L.length&&((W7 L at_).t==id)&&W8 (W7 L at_).k 1 3
def okR(L:List Rec)(id at_:Int):Bool:=ownR L at_ id&&((W7 L at_).k !=3||ownR L (W7 L at_).n id)
def chn(L:List Rec)(id:Int):Nat->Int->Bool
 |0,_=>true
 |f+1,at_=>decide (at_<=0)||(okR L id at_&&chn L id f (W7 L at_).p)
def tN(L:List Rec)(t:Txn):Bool:=W8 t.last 1 L.length&&chn L t.id 61 t.last
def zH(L:List Rec):Prop:=L.length<=60/\∀i,i<L.length->j3 (L.getD i default)/\(L.getD i default).l=(i:Int)+1
def c1e:Con:=.rel ⟨Sto×Int×Int,fun x=>[.bref x.1.ts,.int .i64 x.2.1,.int .i64 x.2.2],fun x=>.bool (ownR x.1.log x.2.1 x.2.2),fun x=>K6 x.1.log.length⟩
noncomputable def c3K:Code:=Tryz.f222.body.getD .skip
theorem a41:Z7 Tryz.prog 222:=⟨_,Tryz.func222,by kernel_rfl,by kernel_rfl⟩
theorem c2n(s:Sto)(at_ id:Int)(h:
  (W8 at_ (1:Int) (s.log.length:Int)=true->X8 .i64 (at_- (1:Int)))/\(W8 at_ (1:Int) (s.log.length:Int)=true->X0 (at_- (1:Int)) s.log.length)/\((W8 at_ (1:Int) (s.log.length:Int)&&(s.log.getD (at_- (1:
  Int)).toNat default).t==id)=true->X8 .i64 (at_- (1:Int)))/\((W8 at_ (1:Int) (s.log.length:Int)&&(s.log.getD (at_- (1:Int)).toNat default).t==id)=true->X0 (at_- (1:Int)) s.log.length)/\(W8 at_ (1:Int)
  (s.log.length:Int)&&(s.log.getD (at_- (1:Int)).toNat default).t==id&&W8 (s.log.getD (at_- (1:Int)).toNat default).k (1:Int) (3:Int))=ownR s.log at_ id):
  Z2 Tryz.prog 222 [.bref s.ts,.int .i64 at_,.int .i64 id] (.bool (ownR s.log at_ id)):=
 T4 (code:=c3K) (gC P2 R8 gN) Tryz.func222 (by kernel_rfl) (by kernel_rfl) Z0 h (by kernel_rfl)
theorem O5{n lo hi:Int}:W8 n lo hi=true↔lo<=n/\n<=hi:=by
 unfold W8;simp only[K5,t9]
theorem b9Y:Z1 Tryz.prog 222 c1e:=by
 rintro⟨s,at_,id⟩ (hL:s.log.length<1000000000000);have k1:W8 at_ 1 s.log.length=true->X8 .i64 (at_-1)/\X0 (at_-1) s.log.length:=fun h=>by
  obtain⟨h1,h2⟩:=O5.1 h;exact⟨Z5 (by omega),by omega,by omega⟩
 exact c2n s at_ id ⟨fun h=>(k1 h).1,fun h=>(k1 h).2,fun h=>(k1 (Bool.and_eq_true_iff.1 h).1).1,fun h=>(k1 (Bool.and_eq_true_iff.1 h).1).2,rfl⟩
theorem zH.at{L:List Rec}(h:zH L){at_:Int}(h1:1<=at_)(h2:at_<=L.length):j3 (W7 L at_)/\(W7 L at_).l=at_:=by
 obtain⟨a,b⟩:=h.2 (at_-1).toNat (by omega)
 exact⟨a,by unfold W7;rw[b];omega⟩
theorem zH.prev{L:List Rec}(h:zH L){at_:Int}(h1:1<=at_)(h2:at_<=L.length):0<=(W7 L at_).p/\(W7 L at_).p<=at_-1/\0<=(W7 L at_).n/\(W7 L at_).n<=at_-1:=by
 obtain⟨a,b⟩:=h.at h1 h2;obtain⟨_,_,_,_,_,_,q1,q2,q3,q4,_⟩:=a;omega
theorem c7b{L:List Rec}{at_ id:Int}(h:ownR L at_ id=true):1<=at_/\at_<=L.length:=by
 unfold ownR at h;simp only[K5] at h;exact O5.1 h.1.1
theorem mU(L:List Rec)(id:Int){f:Nat}(hf:0<f){at_:Int}(h:1<=at_):chn L id f at_=(okR L id at_&&chn L id (f-1) (W7 L at_).p):=by
 obtain⟨g,rfl⟩:∃g,f=g+1:=⟨f-1,by omega⟩
 show(decide (at_<=0)||_)=_;rw[uY (by omega),Bool.false_or]
 rfl
theorem a2H(L:List Rec)(id:Int)(f:Nat){at_:Int}(h:at_<=0):chn L id f at_=true:=by
 cases f with
 |zero=>rfl
 |succ f=>show(decide (at_<=0)||_)=_;rw[jB h];rfl
def b9M(t:Txn):Option Ob:=some (.arr true 1000000 2 1 fun _=>t.ts)
def Chn(L:List Rec)(t:Txn):Type:={x:Nat×Int//0<x.1/\(W8 x.2 1 L.length&&chn L t.id x.1 x.2)=tN L t/\(x.2.toNat<x.1∨x.1=61)}
def b3I:Con:=.rel ⟨Sto×Txn,fun x=>[.bref x.1.ts,.agg x.2.ts],fun x=>.bool (tN x.1.log x.2),fun x=>zH x.1.log⟩
def b0s(s:Sto)(t:Txn):Nat->Ann
 |0=>.one (Chn s.log t) (fun x=>⟨[(0,.bref s.ts),(3,.ref 0 0 0),(5,.int .i64 x.1.2)],[b9M t]⟩) (fun x=>x.1.1) [.box 0] [.box 0] (fun _=>Z0)
 |_=>.none
noncomputable def b3Z:Code:=Tryz.f157.body.getD .skip
theorem a0y:Z7 Tryz.prog 157:=⟨_,Tryz.func157,by kernel_rfl,by kernel_rfl⟩
theorem b4D(s:Sto)(t:Txn)(h:
  (∃(x:Chn s.log t),(O0 (A5 [some 0]) (T.bref s.ts) (T.bref s.ts)/\(0=0/\0=0)/\t.last=x.val.snd/\True)/\(1=1/\1=1/\t.id=t.id/\t.last=t.last/\True)/\True)/\∀(x:Chn s.log t),∃(x_1:(Sto×Int×
  Int)),(((xM s x_1.fst)/\x.val.snd=x_1.snd.fst/\t.id=x_1.snd.snd/\True)/\K6 x_1.fst.log.length)/\((!ownR x_1.fst.log x_1.snd.fst x_1.snd.snd)=true->false=tN s.log t)/\((!ownR x_1.fst.log x_1.snd.fst x_1.snd.snd)
  =false->X8 .i64 (x.val.snd- (1:Int))/\X0 (x.val.snd- (1:Int)) s.log.length/\∃(x_2:(Sto×Int×Int)),(((s.log.getD (x.val.snd- (1:Int)).toNat default).k==(3:Int))=true->((xM s x_2.fst)/\(s.log.getD
  (x.val.snd- (1:Int)).toNat default).n=x_2.snd.fst/\t.id=x_2.snd.snd/\True)/\K6 x_2.fst.log.length)/\(((s.log.getD (x.val.snd- (1:Int)).toNat default).k==(3:Int)&& !ownR x_2.fst.log x_2.snd.fst x_2.snd.snd)=
  true->false=tN s.log t)/\(((s.log.getD (x.val.snd- (1:Int)).toNat default).k==(3:Int)&& !ownR x_2.fst.log x_2.snd.fst x_2.snd.snd)=false->(((s.log.getD (x.val.snd- (1:Int)).toNat default).p==(0:Int))=true
  ->true=tN s.log t)/\(((s.log.getD (x.val.snd- (1:Int)).toNat default).p==(0:Int))=false->∃(y:Chn s.log t),((O0 (A5 [some 0]) (T.bref s.ts) (T.bref s.ts)/\(0=0/\0=0)/\(s.log.getD (x.val.snd- (1:
  Int)).toNat default).p=y.val.snd/\True)/\(1=1/\1=1/\t.id=t.id/\t.last=t.last/\True)/\True)/\Lt y.val.fst x.val.fst)))):
  Z2 Tryz.prog 157 [.bref s.ts,.agg t.ts] (.bool (tN s.log t)):=
 T4 (code:=b3Z) (gC b9Y a41 gN) Tryz.func157 (by kernel_rfl) (by kernel_rfl) (b0s s t) h (by kernel_rfl)
theorem a8l:Z1 Tryz.prog 157 b3I:=by
 rintro⟨s,t⟩ (hL:zH s.log);have h60:=hL.1;refine b4D s t ⟨⟨⟨(61,t.last),Nat.succ_pos 60,rfl,.inr rfl⟩,⟨T8 _,⟨rfl,rfl⟩,rfl,trivial⟩,⟨rfl,rfl,rfl,rfl,trivial⟩,trivial⟩,fun x=> ?_⟩
 obtain⟨⟨f,at_⟩,hf,he,hb⟩:=x;dsimp only at hf he hb ⊢;refine⟨(s,at_,t.id),⟨⟨(wS _),rfl,rfl,trivial⟩,by unfold K6;simp only;omega⟩,fun ho=> ?_,fun ho=> ?_⟩
 ·simp only[sB] at ho;rw[←he];cases hi:W8 at_ 1 s.log.length
  ·rfl
  ·obtain⟨q1,q2⟩:=O5.1 hi;rw[mU _ _ hf q1];unfold okR;rw[ho];rfl
 ·simp only[tE] at ho;obtain⟨q1,q2⟩:=c7b ho;have hi:W8 at_ 1 s.log.length=true:=O5.2 ⟨q1,q2⟩;rw[hi,Bool.true_and,mU _ _ hf q1] at he;obtain⟨p1,p2,_⟩:=hL.prev q1 q2;have eo:okR s.log t.id at_=((W7 s.log at_).k !=3||ownR s.log (W7 s.log at_).n t.id):=by unfold okR;rw[ho,Bool.true_and]
  refine⟨Z5 (by omega),⟨by omega,by omega⟩,(s,(W7 s.log at_).n,t.id),fun _=>⟨⟨(wS _),rfl,rfl,trivial⟩,by unfold K6;simp only;omega⟩,fun hk=> ?_,fun hk=>⟨fun h0=> ?_,fun h0=> ?_⟩⟩
  ·have hk:((W7 s.log at_).k==3&& !ownR s.log (W7 s.log at_).n t.id)=true:=hk;rw[←he,eo];simp only[K5,sB,beq_iff_eq] at hk;rw[hk.1,hk.2];rfl
  ·have hk:((W7 s.log at_).k==3&& !ownR s.log (W7 s.log at_).n t.id)=false:=hk;have h0:(W7 s.log at_).p=0:=beq_iff_eq.1 h0;have e2:okR s.log t.id at_=true:=by
    rw[eo,←tE,Bool.not_or,show(!((W7 s.log at_).k !=3))=((W7 s.log at_).k==3) by simp[bne]]
    exact hk
   rw[←he,e2,h0,a2H _ _ _ (Int.le_refl 0)];rfl
  ·have hk:((W7 s.log at_).k==3&& !ownR s.log (W7 s.log at_).n t.id)=false:=hk;have h0:(W7 s.log at_).p≠0:=fun h=>by
    have h0:((W7 s.log at_).p==0)=false:=h0;rw[h] at h0;cases h0
   have e2:okR s.log t.id at_=true:=by
    rw[eo,←tE,Bool.not_or,show(!((W7 s.log at_).k !=3))=((W7 s.log at_).k==3) by simp[bne]]
    exact hk
   rw[e2,Bool.true_and] at he;refine⟨⟨(f-1,(W7 s.log at_).p),by simp only;omega,?_,by simp only;omega⟩,⟨⟨T8 _,⟨rfl,rfl⟩,rfl,trivial⟩,⟨rfl,rfl,rfl,rfl,trivial⟩,trivial⟩,show f-1<f by omega⟩
   simp only;rw[O5.2 (show 1<=(W7 s.log at_).p/\(W7 s.log at_).p<=(s.log.length:Int) by omega),Bool.true_and]
   exact he
def und(L:List Rec):Nat->Int->Nat
 |0,_=>0
 |f+1,at_=>if at_<=0 then 0 else if(W7 L at_).k=3 then und L f (W7 L at_).n else(if(W7 L at_).k=2 then 1 else 0)+und L f (W7 L at_).p
def xS(m:Nat):Option Ob:=some (.arr true 1000000 1 1 fun _=>[.int .i64 m])
def b9v:Con:=.reff ⟨Rec×Nat,fun x=>[.agg x.1.ts,.ref 0 0 0],fun x=>[xS x.2],fun _=>.bool true,fun x=>[xS (x.2+1)],fun x=>x.2<1000⟩
noncomputable def b6O:Code:=Tryz.f266.body.getD .skip
theorem a2s:Z7 Tryz.prog 266:=⟨_,Tryz.func266,by kernel_rfl,by kernel_rfl⟩
theorem b81(r:Rec)(m:Nat)(h:
  X8 .i64 ((m:Int)+(1:Int))/\true=true/\(1=1/\1=1/\(m:Int)+(1:Int)=(↑(m+1):Int)/\True)/\True):
  V3 Tryz.prog 266 [.agg r.ts,.ref 0 0 0] [xS m] (.bool true) [xS (m+1)]:=
 vcE (code:=b6O) gN Tryz.func266 (by kernel_rfl) (by kernel_rfl) Z0 (bs:=[true]) h (by kernel_rfl)
theorem b4f:Z1 Tryz.prog 266 b9v:=by
 rintro⟨r,m⟩ (h:m<1000);exact b81 r m ⟨Z5 (by omega),rfl,⟨rfl,rfl,by omega,trivial⟩,trivial⟩
def rL(L:List Rec)(at_:Int):Prop:=zH L/\at_<=(L.length:Int)
def b3t:Con:=.reff ⟨Sto×Int,fun x=>[.bref x.1.ts,.int .i64 x.2,.fn (.func 266) [.ref 0 0 0]],fun _=>[xS 1],fun _=>.tup [],fun x=>[xS (1+und x.1.log 61 x.2)],fun x=>rL x.1.log x.2⟩
def Und(L:List Rec)(from_:Int):Type:={x:Nat×Int×Nat//x.2.2+und L x.1 x.2.1=1+und L 61 from_/\x.2.1<=(L.length:Int)/\x.2.1.toNat<x.1/\x.2.2+x.1<=100}
def b4g(s:Sto)(from_:Int):Nat->Ann
 |0=>.one (Und s.log from_) (fun x=>⟨[(0,.bref s.ts),(1,.int .i64 x.1.2.1),(2,.fn (.func 266) [.ref 0 0 0])],[xS x.1.2.2]⟩) (fun x=>x.1.1) [.box 0] [.box 0] (fun _=>Z0)
 |_=>.none
noncomputable def b2H:Code:=Tryz.f193.body.getD .skip
theorem dZ:Z7 Tryz.prog 193:=⟨_,Tryz.func193,by kernel_rfl,by kernel_rfl⟩
theorem b1Y(s:Sto)(from_:Int)(h:
  (∃(x:Und s.log from_),(O0 (A5 [some 0]) (T.bref s.ts) (T.bref s.ts)/\from_=x.val.snd.fst/\(Fn.func 266=Fn.func 266/\(0=0/\0=0)/\True)/\True)/\(1=1/\1=1/\(1:Int)=(x.val.snd.snd:Int)/\True)/\True)/\
  ∀(x:Und s.log from_),(decide (x.val.snd.fst>(0:Int))=true->X8 .i64 (x.val.snd.fst- (1:Int))/\X0 (x.val.snd.fst- (1:Int)) s.log.length/\(((s.log.getD (x.val.snd.fst- (1:Int)).toNat default).k==(3:Int))=
  true->∃(y:Und s.log from_),((O0 (A5 [some 0]) (T.bref s.ts) (T.bref s.ts)/\(s.log.getD (x.val.snd.fst- (1:Int)).toNat default).n=y.val.snd.fst/\(Fn.func 266=Fn.func 266/\(0=0/\0=0)/\True)/\True)/\(1=1/\
  1=1/\(x.val.snd.snd:Int)=(y.val.snd.snd:Int)/\True)/\True)/\Lt y.val.fst x.val.fst)/\(((s.log.getD (x.val.snd.fst- (1:Int)).toNat default).k==(3:Int))=false->∃(x_1:(Rec×Nat)),(((s.log.getD (x.val.snd.fst-
  (1:Int)).toNat default).k==(2:Int))=true->(((s.log.getD (x.val.snd.fst- (1:Int)).toNat default).e=x_1.fst.e/\(s.log.getD (x.val.snd.fst- (1:Int)).toNat default).l=x_1.fst.l/\(s.log.getD (x.val.snd.fst- (1:
  Int)).toNat default).t=x_1.fst.t/\(s.log.getD (x.val.snd.fst- (1:Int)).toNat default).k=x_1.fst.k/\(s.log.getD (x.val.snd.fst- (1:Int)).toNat default).p=x_1.fst.p/\(s.log.getD (x.val.snd.fst- (1:Int)).toNat
  default).n=x_1.fst.n/\(s.log.getD (x.val.snd.fst- (1:Int)).toNat default).g=x_1.fst.g/\(s.log.getD (x.val.snd.fst- (1:Int)).toNat default).s=x_1.fst.s/\(s.log.getD (x.val.snd.fst- (1:Int)).toNat default).b=
  x_1.fst.b/\(s.log.getD (x.val.snd.fst- (1:Int)).toNat default).a=x_1.fst.a/\True)/\(0=0/\0=0)/\True)/\((1=1/\Z8 1 (fun(x_2:Nat)=>[T.int .i64 (x.val.snd.snd:Int)]) fun(x:Nat)=>[T.int .i64
  (x_1.snd:Int)])/\True)/\x_1.snd<1000)/\(((s.log.getD (x.val.snd.fst- (1:Int)).toNat default).k==(2:Int))=true->(((s.log.getD (x.val.snd.fst- (1:Int)).toNat default).k==(2:Int)&&false)=true->True/\(1=1
  /\1=1/\(↑(x_1.snd+1):Int)=(↑(1+und s.log 61 from_):Int)/\True)/\True)/\(((s.log.getD (x.val.snd.fst- (1:Int)).toNat default).k==(2:Int)&&false)=false->∃(y:Und s.log from_),((O0 (A5 [some 0])
  (T.bref s.ts) (T.bref s.ts)/\(s.log.getD (x.val.snd.fst- (1:Int)).toNat default).p=y.val.snd.fst/\(Fn.func 266=Fn.func 266/\(0=0/\0=0)/\True)/\True)/\(1=1/\1=1/\(↑(x_1.snd+1):Int)=(y.val.snd.snd:Int)
  /\True)/\True)/\Lt y.val.fst x.val.fst))/\((((s.log.getD (x.val.snd.fst- (1:Int)).toNat default).k==(2:Int))=true->False)->(((s.log.getD (x.val.snd.fst- (1:Int)).toNat default).k==(2:Int)&&false)=true->
  True/\(1=1/\1=1/\(x.val.snd.snd:Int)=(↑(1+und s.log 61 from_):Int)/\True)/\True)/\(((s.log.getD (x.val.snd.fst- (1:Int)).toNat default).k==(2:Int)&&false)=false->∃(y:Und s.log from_),((O0 (A5
  [some 0]) (T.bref s.ts) (T.bref s.ts)/\(s.log.getD (x.val.snd.fst- (1:Int)).toNat default).p=y.val.snd.fst/\(Fn.func 266=Fn.func 266/\(0=0/\0=0)/\True)/\True)/\(1=1/\1=1/\(x.val.snd.snd:Int)=
  (y.val.snd.snd:Int)/\True)/\True)/\Lt y.val.fst x.val.fst))))/\(decide (x.val.snd.fst>(0:Int))=false->True/\(1=1/\1=1/\(x.val.snd.snd:Int)=(↑(1+und s.log 61 from_):Int)/\True)/\True)):
  V3 Tryz.prog 193 [.bref s.ts,.int .i64 from_,.fn (.func 266) [.ref 0 0 0]] [xS 1] (.tup []) [xS (1+und s.log 61 from_)]:=
 vcE (code:=b2H) (gC b4f a2s gN) Tryz.func193 (by kernel_rfl) (by kernel_rfl) (b4g s from_) (bs:=[true]) h (by kernel_rfl)
theorem aM(L:List Rec):∀(f:Nat) (at_:Int),und L f at_<=f:=by
 intro f;induction f with
 |zero=>intro at_;exact V5 0
 |succ f ih=>
  intro at_;unfold und;split
  ·omega
  ·split
   ·have:=ih (W7 L at_).n;omega
   ·have:=ih (W7 L at_).p;split<;>omega
theorem a9A{L:List Rec}{f:Nat}{at_:Int}(h:0<at_)(hf:at_.toNat<f)(hk:(W7 L at_).k=3):und L f at_=und L (f-1) (W7 L at_).n:=by
 obtain⟨g,rfl⟩:∃g,f=g+1:=⟨f-1,by omega⟩
 conv=>lhs;unfold und
 rw[if_neg (by omega),if_pos hk]
 rfl
theorem a9h{L:List Rec}{f:Nat}{at_:Int}(h:0<at_)(hf:at_.toNat<f)(hk:(W7 L at_).k≠3):und L f at_=(if(W7 L at_).k=2 then 1 else 0)+und L (f-1) (W7 L at_).p:=by
 obtain⟨g,rfl⟩:∃g,f=g+1:=⟨f-1,by omega⟩
 conv=>lhs;unfold und
 rw[if_neg (by omega),if_neg hk]
 rfl
theorem a3v{L:List Rec}{f:Nat}{at_:Int}(h:at_<=0):und L f at_=0:=by
 cases f with
 |zero=>rfl
 |succ f=>unfold und;rw[if_pos h]
theorem a6W:Z1 Tryz.prog 193 b3t:=by
 rintro⟨s,from_⟩ ⟨hL,hl⟩;dsimp only at hL hl;have h60:=hL.1;refine b1Y s from_ ⟨⟨⟨(61,from_,1),rfl,hl,by dsimp only;omega,by dsimp only;omega⟩,⟨T8 _,rfl,⟨rfl,⟨rfl,rfl⟩,trivial⟩,trivial⟩,⟨rfl,rfl,rfl,trivial⟩,trivial⟩,fun x=> ?_⟩
 obtain⟨⟨f,at_,m⟩,he,hle,hf,hm⟩:=x;dsimp only at he hle hf hm ⊢;refine⟨fun hc=> ?_,fun hc=> ?_⟩
 ·have h0:at_>0:=D8 hc;obtain⟨p1,p2,p3,p4⟩:=hL.prev (show 1<=at_ by omega) hle
  refine⟨Z5 (by omega),⟨by omega,by omega⟩,fun hk=> ?_,fun hk=> ?_⟩
  ·have hk:(W7 s.log at_).k=3:=beq_iff_eq.1 hk;rw[a9A h0 hf hk] at he;exact⟨⟨(f-1,(W7 s.log at_).n,m),he,by dsimp only;omega,by dsimp only;omega,by dsimp only;omega⟩,⟨⟨T8 _,rfl,⟨rfl,⟨rfl,rfl⟩,trivial⟩,trivial⟩,⟨rfl,rfl,rfl,trivial⟩,trivial⟩,show f-1<f by omega⟩
  ·have hk:(W7 s.log at_).k≠3:=fun h=>by
    have hk:((W7 s.log at_).k==3)=false:=hk;rw[h] at hk;cases hk
   rw[a9h h0 hf hk] at he;refine⟨(W7 s.log at_,m),fun _=>⟨⟨⟨rfl,rfl,rfl,rfl,rfl,rfl,rfl,rfl,rfl,rfl,trivial⟩,⟨rfl,rfl⟩,trivial⟩,⟨⟨rfl,Z9 _ _⟩,trivial⟩,by dsimp only;omega⟩,fun h2=>⟨fun hh=> ?_,fun _=> ?_⟩,fun h2=>⟨fun hh=> ?_,fun _=> ?_⟩⟩
   ·rw[Bool.and_false] at hh;cases hh
   ·have h2:(W7 s.log at_).k=2:=beq_iff_eq.1 h2;rw[if_pos h2] at he;exact⟨⟨(f-1,(W7 s.log at_).p,m+1),by dsimp only;omega,by dsimp only;omega,by dsimp only;omega,by dsimp only;omega⟩,⟨⟨T8 _,rfl,⟨rfl,⟨rfl,rfl⟩,trivial⟩,trivial⟩,⟨rfl,rfl,rfl,trivial⟩,trivial⟩,show f-1<f by omega⟩
   ·rw[Bool.and_false] at hh;cases hh
   ·have h2:¬ (W7 s.log at_).k=2:=fun h=>h2 (beq_iff_eq.2 h)
    rw[if_neg h2] at he;exact⟨⟨(f-1,(W7 s.log at_).p,m),by dsimp only;omega,by dsimp only;omega,by dsimp only;omega,by dsimp only;omega⟩,⟨⟨T8 _,rfl,⟨rfl,⟨rfl,rfl⟩,trivial⟩,trivial⟩,⟨rfl,rfl,rfl,trivial⟩,trivial⟩,show f-1<f by omega⟩
 ·have h0:at_<=0:=by have:=yQ hc;omega
  rw[a3v h0] at he;exact⟨trivial,⟨rfl,rfl,by omega,trivial⟩,trivial⟩
def b7J:Con:=.rel ⟨Sto×Int,fun x=>[.bref x.1.ts,.int .i64 x.2],fun x=>.int .i64 ((1+und x.1.log 61 x.2:Nat):Int),fun x=>rL x.1.log x.2⟩
noncomputable def b5x:Code:=Tryz.f229.body.getD .skip
theorem a1F:Z7 Tryz.prog 229:=⟨_,Tryz.func229,by kernel_rfl,by kernel_rfl⟩
theorem b7y(s:Sto)(from_:Int)(h:
  ∃(x:(Sto×Int)),(((xM s x.fst)/\from_=x.snd/\(Fn.func 266=Fn.func 266/\(0=0/\0=0)/\True)/\True)/\((1=1/\Z8 1 (setRow (fun(x:Nat)=>[T.int .i64 (0:Int)]) 0 0 [T.int .i64 (1:Int)]) fun(x:Nat)
  =>[T.int .i64 (1:Int)])/\True)/\rL x.fst.log x.snd)/\(↑(1+und x.fst.log 61 x.snd):Int)=(↑(1+und s.log 61 from_):Int)):
  Z2 Tryz.prog 229 [.bref s.ts,.int .i64 from_] (.int .i64 ((1+und s.log 61 from_:Nat):Int)):=
 T4 (code:=b5x) (gC a6W dZ gN) Tryz.func229 (by kernel_rfl) (by kernel_rfl) Z0 h (by kernel_rfl)
theorem b4v:Z1 Tryz.prog 229 b7J:=by
 rintro⟨s,from_⟩ h;exact b7y s from_ ⟨(s,from_),⟨⟨(wS _),rfl,⟨rfl,⟨rfl,rfl⟩,trivial⟩,trivial⟩,⟨⟨rfl,fun i hi=>by(obtain rfl:i=0:=by omega);rfl⟩,trivial⟩,h⟩,rfl⟩
def b9u:Con:=.rel ⟨Bool,fun b=>[.bool b],fun b=>.int .i64 (if b then 1 else 0),fun _=>True⟩
noncomputable def c0p:Code:=Tryz.f203.body.getD .skip
theorem a16:Z7 Tryz.prog 203:=⟨_,Tryz.func203,by kernel_rfl,by kernel_rfl⟩
theorem b6z(b:Bool)(h:
  (b=true->(1:Int)=if b=true then(1:Int) else(0:Int))/\(b=false->(0:Int)=if b=true then(1:Int) else(0:Int))):
  Z2 Tryz.prog 203 [.bool b] (.int .i64 (if b then 1 else 0)):=
 T4 (code:=c0p) gN Tryz.func203 (by kernel_rfl) (by kernel_rfl) Z0 h (by kernel_rfl)
theorem b2w:Z1 Tryz.prog 203 b9u:=fun b _=>b6z b ⟨fun h=>by rw[if_pos h],fun h=>by rw[h];rfl⟩
def b0z:Con:=.rel ⟨Sto×Int,fun x=>[.agg x.1.ts,.int .i64 x.2],fun x=>.int .i64 ((1+und x.1.log 61 x.2:Nat):Int),fun x=>rL x.1.log x.2⟩
def b0S(s:Sto)(from_:Int):Nat->Ann
 |0=>.one (Und s.log from_) (fun x=>⟨[(1,.int .i64 x.1.2.1),(2,.ref 0 0 0),(5,.int .i64 x.1.2.2)],[mO s]⟩) (fun x=>x.1.1) [.box 0] [.box 0] (fun _=>Z0)
 |_=>.none
noncomputable def b1X:Code:=Tryz.f143.body.getD .skip
theorem a0z:Z7 Tryz.prog 143:=⟨_,Tryz.func143,by kernel_rfl,by kernel_rfl⟩
theorem b1q(s:Sto)(from_:Int)(h:
  (∃(x:Und s.log from_),(from_=x.val.snd.fst/\(0=0/\0=0)/\(1:Int)=(x.val.snd.snd:Int)/\True)/\(1=1/\1=1/\xM s s)/\True)/\∀(x:Und s.log from_),(decide (x.val.snd.fst>(0:Int))=true->X8 .i64
  (x.val.snd.fst- (1:Int))/\X0 (x.val.snd.fst- (1:Int)) s.log.length/\(((s.log.getD (x.val.snd.fst- (1:Int)).toNat default).k==(3:Int))=true->∃(y:Und s.log from_),(((s.log.getD (x.val.snd.fst- (1:
  Int)).toNat default).n=y.val.snd.fst/\(0=0/\0=0)/\(x.val.snd.snd:Int)=(y.val.snd.snd:Int)/\True)/\(1=1/\1=1/\xM s s)/\True)/\Lt y.val.fst x.val.fst)/\(((s.log.getD (x.val.snd.fst- (1:Int)).toNat
  default).k==(3:Int))=false->∃(x_1:Bool),((((s.log.getD (x.val.snd.fst- (1:Int)).toNat default).k==(2:Int))=x_1/\True)/\True)/\X8 .i64 ((x.val.snd.snd:Int)+if x_1=true then(1:Int) else(0:Int))/\∃
  (y:Und s.log from_),(((s.log.getD (x.val.snd.fst- (1:Int)).toNat default).p=y.val.snd.fst/\(0=0/\0=0)/\((x.val.snd.snd:Int)+if x_1=true then(1:Int) else(0:Int))=(y.val.snd.snd:Int)/\True)/\(1=1/\1=
  1/\xM s s)/\True)/\Lt y.val.fst x.val.fst))/\(decide (x.val.snd.fst>(0:Int))=false->(x.val.snd.snd:Int)=(↑(1+und s.log 61 from_):Int))):
  Z2 Tryz.prog 143 [.agg s.ts,.int .i64 from_] (.int .i64 ((1+und s.log 61 from_:Nat):Int)):=
 T4 (code:=b1X) (gC b2w a16 gN) Tryz.func143 (by kernel_rfl) (by kernel_rfl) (b0S s from_) h (by kernel_rfl)
theorem a5Y:Z1 Tryz.prog 143 b0z:=by
 rintro⟨s,from_⟩ ⟨hL,hl⟩;dsimp only at hL hl;have h60:=hL.1;refine b1q s from_ ⟨⟨⟨(61,from_,1),rfl,hl,by dsimp only;omega,by dsimp only;omega⟩,⟨rfl,⟨rfl,rfl⟩,rfl,trivial⟩,⟨rfl,rfl,wS _⟩,trivial⟩,fun x=> ?_⟩
 obtain⟨⟨f,at_,m⟩,he,hle,hf,hm⟩:=x;dsimp only at he hle hf hm ⊢;refine⟨fun hc=> ?_,fun hc=> ?_⟩
 ·have h0:at_>0:=D8 hc;obtain⟨p1,p2,p3,p4⟩:=hL.prev (show 1<=at_ by omega) hle
  refine⟨Z5 (by omega),⟨by omega,by omega⟩,fun hk=> ?_,fun hk=> ?_⟩
  ·have hk:(W7 s.log at_).k=3:=beq_iff_eq.1 hk;rw[a9A h0 hf hk] at he;exact⟨⟨(f-1,(W7 s.log at_).n,m),he,by dsimp only;omega,by dsimp only;omega,by dsimp only;omega⟩,⟨⟨rfl,⟨rfl,rfl⟩,rfl,trivial⟩,⟨rfl,rfl,wS _⟩,trivial⟩,show f-1<f by omega⟩
  ·have hk:(W7 s.log at_).k≠3:=fun h=>by
    have hk:((W7 s.log at_).k==3)=false:=hk;rw[h] at hk;cases hk
   rw[a9h h0 hf hk] at he;have hn:und s.log (f-1) (W7 s.log at_).p<=f-1:=aM _ _ _;refine⟨(W7 s.log at_).k==2,⟨⟨rfl,trivial⟩,trivial⟩,?_,?_⟩
   ·split<;>exact Z5 (by omega)
   ·by_cases h2:(W7 s.log at_).k=2
    ·rw[if_pos h2] at he;rw[if_pos (by simpa using h2)]
     exact⟨⟨(f-1,(W7 s.log at_).p,m+1),by dsimp only;omega,by dsimp only;omega,by dsimp only;omega,by dsimp only;omega⟩,⟨⟨rfl,⟨rfl,rfl⟩,rfl,trivial⟩,⟨rfl,rfl,wS _⟩,trivial⟩,show f-1<f by omega⟩
    ·rw[if_neg h2] at he;rw[if_neg (by simpa using h2)]
     exact⟨⟨(f-1,(W7 s.log at_).p,m),by dsimp only;omega,by dsimp only;omega,by dsimp only;omega,by dsimp only;omega⟩,⟨⟨rfl,⟨rfl,rfl⟩,by dsimp only;omega,trivial⟩,⟨rfl,rfl,wS _⟩,trivial⟩,show f-1<f by omega⟩
 ·have h0:at_<=0:=by have:=yQ hc;omega
  rw[a3v h0] at he;show(m:Int)=_;omega
end Go.Proofs.YtokaojbaacnngaaGreat

