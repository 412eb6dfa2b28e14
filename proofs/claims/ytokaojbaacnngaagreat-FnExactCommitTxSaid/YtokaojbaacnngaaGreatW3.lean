/- A part of the proof. -/
import Derived.Test.YtokaojbaacnngaaGreatW1W2
namespace Go.Proofs.YtokaojbaacnngaaGreat
set_option maxRecDepth 100000
open Go.SS

structure Txn where
 id:Int
 last:Int
 deriving Inhabited
def Txn.ts(t:Txn):List T:=[.int .i64 t.id,.int .i64 t.last]
def X9(L:List Txn)(i:Nat):List T:=(L.getD i default).ts
def v8(L:List Txn):T:=.sl 2 L.length (X9 L)
structure Eng where
 s:Sto
 up:Bool
 txs:List Txn
 lk:Lks
 next:Int
 deriving Inhabited
def Eng.ts(e:Eng):List T:=[L6 e.s.d.sec,M0 e.s.d.cache,.bool e.s.d.armed,w4 e.s.d.keep,.int .i64 e.s.ep,G3 e.s.log,.int .i64 e.s.sure,y9 e.s.fr,.int .i64 e.s.hand,.bool e.up,v8 e.txs,D4 e.lk.held,wtS e.lk.waits,.int .i64 e.next]
abbrev u2(a b:Eng):Prop:=(a.s.d.sec.length=b.s.d.sec.length/\Z7 a.s.d.sec.length (Z6 a.s.d.sec) (Z6 b.s.d.sec))/\(a.s.d.cache.length=b.s.d.cache.length/\Z7 a.s.d.cache.length (Z3 a.s.d.cache) (Z3 b.s.d.cache))/\a.s.d.armed=b.s.d.armed/\(a.s.d.keep.length=b.s.d.keep.length/\Z7 a.s.d.keep.length (Y7 a.s.d.keep) (Y7 b.s.d.keep))/\a.s.ep=b.s.ep/\(a.s.log.length=b.s.log.length/\Z7 a.s.log.length (Y4 a.s.log) (Y4 b.s.log))/\a.s.sure=b.s.sure/\(a.s.fr.length=b.s.fr.length/\Z7 a.s.fr.length (V3 a.s.fr) (V3 b.s.fr))/\a.s.hand=b.s.hand/\a.up=b.up/\(a.txs.length=b.txs.length/\Z7 a.txs.length (X9 a.txs) (X9 b.txs))/\(a.lk.held.length=b.lk.held.length/\Z7 a.lk.held.length (Y9 a.lk.held) (Y9 b.lk.held))/\(a.lk.waits.length=b.lk.waits.length/\Z7 a.lk.waits.length (Y1 a.lk.waits) (Y1 b.lk.waits))/\a.next=b.next/\True
theorem y8(s:Eng):u2 s s:=⟨⟨rfl,Z9 _ _⟩,⟨rfl,Z9 _ _⟩,rfl,⟨rfl,Z9 _ _⟩,rfl,⟨rfl,Z9 _ _⟩,rfl,⟨rfl,Z9 _ _⟩,rfl,rfl,⟨rfl,Z9 _ _⟩,⟨rfl,Z9 _ _⟩,⟨rfl,Z9 _ _⟩,rfl,trivial⟩
def a2H(e:Eng):Option Ob:=some (.arr true 1000000 14 1 fun _=>e.ts)
def A9(L:List Txn)(id:Int)(i:Nat):Bool:=(L.getD i default).id==id
def V5(L:List Txn)(id:Int):Int:=T4 L.length (A9 L id)
def d3d:Con:=.rel ⟨Txn×Int,fun x=>[.agg x.1.ts,.bref [.int .i64 x.2]],fun x=>.bool (x.1.id==x.2),fun _=>True⟩
noncomputable def c9B:Code:=Tryz.f192.body.getD .skip
theorem b3l:Z8 Tryz.prog 192:=⟨_,Tryz.func192,by kernel_rfl,by kernel_rfl⟩
theorem d2k(t:Txn)(id:Int)(h:
  (t.id==id)=(t.id==id)):
  Z1 Tryz.prog 192 [.agg t.ts,.bref [.int .i64 id]] (.bool (t.id==id)):=
 T7 (code:=c9B) gN Tryz.func192 (by kernel_rfl) (by kernel_rfl) Z0 h (by kernel_rfl)
theorem c5C:Z2 Tryz.prog 192 d3d:=fun x _=>d2k x.1 x.2 rfl
def txF(id:Int):T:=.fn (.func 192) [.bref [.int .i64 id]]
def c5L:Con:=.rel ⟨List Txn×Int,fun x=>[v8 x.1,txF x.2],fun x=>.int .i64 (V5 x.1 x.2),fun x=>N8 x.1.length⟩
def c4d(L:List Txn)(id:Int):Nat->Ann
 |0=>.one (W5 L.length (A9 L id)) (fun x=>⟨[(0,v8 L),(1,txF id),(7,.int .i64 L.length),(8,.int .i64 x.1)],[]⟩) (fun x=>L.length-x.1) [] [] (fun _=>Z0)
 |_=>.none
noncomputable def c3S:Code:=Tryz.f191.body.getD .skip
theorem a94:Z8 Tryz.prog 191:=⟨_,Tryz.func191,by kernel_rfl,by kernel_rfl⟩
theorem c5m(L:List Txn)(id:Int)(h:
  (∃(x:W5 L.length (A9 L id)),((Y3 X9 L L)/\(Fn.func 192=Fn.func 192/\O3 (fun(x:Nat)=>none) (T.bref [T.int .i64 id]) (T.bref [T.int .i64 id])/\True)/\(L.length:Int)=(L.length:Int)/\(0:Int)=(x.val:Int)
  /\True)/\True)/\∀(x:W5 L.length (A9 L id)),(decide ((x.val:Int)<(L.length:Int))=true->W7 (x.val:Int) L.length/\∃(x_1:(Txn×Int)),((((L.getD (x.val:Int).toNat default).id=x_1.fst.id/\(L.getD
  (x.val:Int).toNat default).last=x_1.fst.last/\True)/\(id=x_1.snd/\True)/\True)/\True)/\((x_1.fst.id==x_1.snd)=true->(x.val:Int)=V5 L id)/\((x_1.fst.id==x_1.snd)=false->X6 .i64 ((x.val:Int)+(1:Int))/\
  ∃(y:W5 L.length (A9 L id)),(((Y3 X9 L L)/\(Fn.func 192=Fn.func 192/\O3 (fun(x:Nat)=>none) (T.bref [T.int .i64 id]) (T.bref [T.int .i64 id])/\True)/\(L.length:Int)=(L.length:Int)/\(x.val:Int)+(1:Int)
  =(y.val:Int)/\True)/\True)/\Lt (L.length-y.val) (L.length-x.val)))/\(decide ((x.val:Int)<(L.length:Int))=false->(-1:Int)=V5 L id)):
  Z1 Tryz.prog 191 [v8 L,txF id] (.int .i64 (V5 L id)):=
 T7 (code:=c3S) (gC c5C b3l gN) Tryz.func191 (by kernel_rfl) (by kernel_rfl) (c4d L id) h (by kernel_rfl)
theorem c1S:Z2 Tryz.prog 191 c5L:=by
 rintro⟨L,id⟩ (hL:L.length<1000000000000);refine c5m L id ⟨⟨I5,⟨⟨rfl,Z9 _ _⟩,⟨rfl,T6 _,trivial⟩,rfl,rfl,trivial⟩,trivial⟩,fun x=>⟨fun hc=> ?_,fun hc=> ?_⟩⟩
 ·have hlt:=Y6 hc;refine⟨Y8 hlt,(L.getD x.val default,id),⟨⟨⟨rfl,rfl,trivial⟩,⟨rfl,trivial⟩,trivial⟩,trivial⟩,fun hp=>(N9 hlt hp x.2.2).symm,fun hp=>⟨W8 hlt (by omega),x.succ hlt hp,⟨⟨⟨rfl,Z9 _ _⟩,⟨rfl,T6 _,trivial⟩,rfl,by simp only[W5.succ];omega,trivial⟩,trivial⟩,W5.ext_lt hlt⟩⟩
 ·have hge:=Y2 hc;exact(M1 fun j hj=>x.2.2 j (Nat.lt_of_lt_of_le hj hge)).symm
def d38:Con:=.rel ⟨Eng×Int,fun x=>[.bref x.1.ts,.int .i64 x.2],fun x=>.int .i64 (V5 x.1.txs x.2),fun x=>N8 x.1.txs.length⟩
noncomputable def d5A:Code:=Tryz.f121.body.getD .skip
theorem d5:Z8 Tryz.prog 121:=⟨_,Tryz.func121,by kernel_rfl,by kernel_rfl⟩
theorem d55(e:Eng)(id:Int)(h:
  ∃(x:(List Txn×Int)),(((Y3 X9 e.txs x.fst)/\(Fn.func 192=Fn.func 192/\(id=x.snd/\True)/\True)/\True)/\N8 x.fst.length)/\V5 x.fst x.snd=V5 e.txs id):
  Z1 Tryz.prog 121 [.bref e.ts,.int .i64 id] (.int .i64 (V5 e.txs id)):=
 T7 (code:=d5A) (gC c1S a94 gN) Tryz.func121 (by kernel_rfl) (by kernel_rfl) Z0 h (by kernel_rfl)
theorem a2u:Z2 Tryz.prog 121 d38:=fun x hL=>d55 x.1 x.2 ⟨(x.1.txs,x.2),⟨⟨⟨rfl,Z9 _ _⟩,⟨rfl,⟨rfl,trivial⟩,trivial⟩,trivial⟩,hL⟩,rfl⟩
def d16:Con:=.rel ⟨Eng×Int,fun x=>[.agg x.1.ts,.int .i64 x.2],fun x=>.int .i64 (V5 x.1.txs x.2),fun x=>N8 x.1.txs.length⟩
def d2G(e:Eng)(id:Int):Nat->Ann
 |0=>.one (W5 e.txs.length (A9 e.txs id)) (fun x=>⟨[(1,.int .i64 id),(2,.ref 0 0 0),(5,.int .i64 x.1)],[a2H e]⟩) (fun x=>e.txs.length-x.1) [.box 0] [.box 0] (fun _=>Z0)
 |_=>.none
noncomputable def d28:Code:=Tryz.f76.body.getD .skip
theorem a5b:Z8 Tryz.prog 76:=⟨_,Tryz.func76,by kernel_rfl,by kernel_rfl⟩
theorem c9C(e:Eng)(id:Int)(h:
  (∃(x:W5 e.txs.length (A9 e.txs id)),(id=id/\(0=0/\0=0)/\(0:Int)=(x.val:Int)/\True)/\(1=1/\1=1/\u2 e e)/\True)/\∀(x:W5 e.txs.length (A9 e.txs id)),(decide ((x.val:Int)<(e.txs.length:Int))=
  true->W7 (x.val:Int) e.txs.length/\(((e.txs.getD (x.val:Int).toNat default).id==id)=true->(x.val:Int)=V5 e.txs id)/\(((e.txs.getD (x.val:Int).toNat default).id==id)=false->X6 .i64 ((x.val:Int)+(1:Int))/\∃
  (y:W5 e.txs.length (A9 e.txs id)),((id=id/\(0=0/\0=0)/\(x.val:Int)+(1:Int)=(y.val:Int)/\True)/\(1=1/\1=1/\u2 e e)/\True)/\Lt (e.txs.length-y.val) (e.txs.length-x.val)))/\(decide ((x.val:Int)<
  (e.txs.length:Int))=false->(-1:Int)=V5 e.txs id)):
  Z1 Tryz.prog 76 [.agg e.ts,.int .i64 id] (.int .i64 (V5 e.txs id)):=
 T7 (code:=d28) gN Tryz.func76 (by kernel_rfl) (by kernel_rfl) (d2G e id) h (by kernel_rfl)
theorem b0h:Z2 Tryz.prog 76 d16:=by
 rintro⟨e,id⟩ (hL:e.txs.length<1000000000000);refine c9C e id ⟨⟨I5,⟨rfl,⟨rfl,rfl⟩,rfl,trivial⟩,⟨rfl,rfl,y8 _⟩,trivial⟩,fun x=>⟨fun hc=> ?_,fun hc=> ?_⟩⟩
 ·have hlt:=Y6 hc;exact⟨Y8 hlt,fun hp=>(N9 hlt hp x.2.2).symm,fun hp=>⟨W8 hlt (by omega),x.succ hlt hp,⟨⟨rfl,⟨rfl,rfl⟩,by simp only[W5.succ];omega,trivial⟩,⟨rfl,rfl,y8 _⟩,trivial⟩,W5.ext_lt hlt⟩⟩
 ·have hge:=Y2 hc;exact(M1 fun j hj=>x.2.2 j (Nat.lt_of_lt_of_le hj hge)).symm

def X0(L:List Rec)(at_:Int):Rec:=L.getD (at_-1).toNat default
def ownR(L:List Rec)(at_ id:Int):Bool:=W9 at_ 1 L.length&&((X0 L at_).t==id)&&W9 (X0 L at_).k 1 3
def okR(L:List Rec)(id at_:Int):Bool:=ownR L at_ id&&((X0 L at_).k !=3||ownR L (X0 L at_).n id)
def chn(L:List Rec)(id:Int):Nat->Int->Bool
 |0,_=>true
 |f+1,at_=>decide (at_<=0)||(okR L id at_&&chn L id f (X0 L at_).p)
def a2b(L:List Rec)(t:Txn):Bool:=W9 t.last 1 L.length&&chn L t.id 61 t.last
def a0d(L:List Rec):Prop:=L.length<=60/\∀i,i<L.length->m7 (L.getD i default)/\(L.getD i default).l=(i:Int)+1
def d1P:Con:=.rel ⟨Sto×Int×Int,fun x=>[.bref x.1.ts,.int .i64 x.2.1,.int .i64 x.2.2],fun x=>.bool (ownR x.1.log x.2.1 x.2.2),fun x=>N8 x.1.log.length⟩
noncomputable def d0Y:Code:=Tryz.f222.body.getD .skip
theorem b5p:Z8 Tryz.prog 222:=⟨_,Tryz.func222,by kernel_rfl,by kernel_rfl⟩
theorem d13(s:Sto)(at_ id:Int)(h:
  (W9 at_ (1:Int) (s.log.length:Int)=true->X6 .i64 (at_- (1:Int)))/\(W9 at_ (1:Int) (s.log.length:Int)=true->W7 (at_- (1:Int)) s.log.length)/\((W9 at_ (1:Int) (s.log.length:Int)&&(s.log.getD (at_- (1:
  Int)).toNat default).t==id)=true->X6 .i64 (at_- (1:Int)))/\((W9 at_ (1:Int) (s.log.length:Int)&&(s.log.getD (at_- (1:Int)).toNat default).t==id)=true->W7 (at_- (1:Int)) s.log.length)/\(W9 at_ (1:Int)
  (s.log.length:Int)&&(s.log.getD (at_- (1:Int)).toNat default).t==id&&W9 (s.log.getD (at_- (1:Int)).toNat default).k (1:Int) (3:Int))=ownR s.log at_ id):
  Z1 Tryz.prog 222 [.bref s.ts,.int .i64 at_,.int .i64 id] (.bool (ownR s.log at_ id)):=
 T7 (code:=d0Y) (gC P4 S0 gN) Tryz.func222 (by kernel_rfl) (by kernel_rfl) Z0 h (by kernel_rfl)
theorem N3{n lo hi:Int}:W9 n lo hi=true↔lo<=n/\n<=hi:=by
 unfold W9;simp only[Bool.and_eq_true,decide_eq_true_eq]
theorem c6y:Z2 Tryz.prog 222 d1P:=by
 rintro⟨s,at_,id⟩ (hL:s.log.length<1000000000000);have k1:W9 at_ 1 s.log.length=true->X6 .i64 (at_-1)/\W7 (at_-1) s.log.length:=fun h=>by
  obtain⟨h1,h2⟩:=N3.1 h;exact⟨Z5 (by omega),by omega,by omega⟩
 exact d13 s at_ id ⟨fun h=>(k1 h).1,fun h=>(k1 h).2,fun h=>(k1 (Bool.and_eq_true_iff.1 h).1).1,fun h=>(k1 (Bool.and_eq_true_iff.1 h).1).2,rfl⟩
theorem a0d.at{L:List Rec}(h:a0d L){at_:Int}(h1:1<=at_)(h2:at_<=L.length):m7 (X0 L at_)/\(X0 L at_).l=at_:=by
 obtain⟨a,b⟩:=h.2 (at_-1).toNat (by omega)
 exact⟨a,by unfold X0;rw[b];omega⟩
theorem a0d.prev{L:List Rec}(h:a0d L){at_:Int}(h1:1<=at_)(h2:at_<=L.length):0<=(X0 L at_).p/\(X0 L at_).p<=at_-1/\0<=(X0 L at_).n/\(X0 L at_).n<=at_-1:=by
 obtain⟨a,b⟩:=h.at h1 h2;obtain⟨_,_,_,_,_,_,q1,q2,q3,q4,_⟩:=a;omega
theorem d3X{L:List Rec}{at_ id:Int}(h:ownR L at_ id=true):1<=at_/\at_<=L.length:=by
 unfold ownR at h;simp only[Bool.and_eq_true] at h;exact N3.1 h.1.1
theorem a4p(L:List Rec)(id:Int){f:Nat}(hf:0<f){at_:Int}(h:1<=at_):chn L id f at_=(okR L id at_&&chn L id (f-1) (X0 L at_).p):=by
 obtain⟨g,rfl⟩:∃g,f=g+1:=⟨f-1,by omega⟩
 show(decide (at_<=0)||_)=_;rw[decide_eq_false (by omega),Bool.false_or]
 rfl
theorem a9y(L:List Rec)(id:Int)(f:Nat){at_:Int}(h:at_<=0):chn L id f at_=true:=by
 cases f with
 |zero=>rfl
 |succ f=>show(decide (at_<=0)||_)=_;rw[decide_eq_true h];rfl
def c7q(t:Txn):Option Ob:=some (.arr true 1000000 2 1 fun _=>t.ts)
def Chn(L:List Rec)(t:Txn):Type:={x:Nat×Int//0<x.1/\(W9 x.2 1 L.length&&chn L t.id x.1 x.2)=a2b L t/\(x.2.toNat<x.1∨x.1=61)}
def c3B:Con:=.rel ⟨Sto×Txn,fun x=>[.bref x.1.ts,.agg x.2.ts],fun x=>.bool (a2b x.1.log x.2),fun x=>a0d x.1.log⟩
def c3a(s:Sto)(t:Txn):Nat->Ann
 |0=>.one (Chn s.log t) (fun x=>⟨[(0,.bref s.ts),(3,.ref 0 0 0),(5,.int .i64 x.1.2)],[c7q t]⟩) (fun x=>x.1.1) [.box 0] [.box 0] (fun _=>Z0)
 |_=>.none
noncomputable def c1l:Code:=Tryz.f157.body.getD .skip
theorem a89:Z8 Tryz.prog 157:=⟨_,Tryz.func157,by kernel_rfl,by kernel_rfl⟩
theorem c0t(s:Sto)(t:Txn)(h:
  (∃(x:Chn s.log t),(O3 (y4 [some 0]) (T.bref s.ts) (T.bref s.ts)/\(0=0/\0=0)/\t.last=x.val.snd/\True)/\(1=1/\1=1/\t.id=t.id/\t.last=t.last/\True)/\True)/\∀(x:Chn s.log t),∃(x_1:(Sto×Int×
  Int)),(((EqS s x_1.fst)/\x.val.snd=x_1.snd.fst/\t.id=x_1.snd.snd/\True)/\N8 x_1.fst.log.length)/\((!ownR x_1.fst.log x_1.snd.fst x_1.snd.snd)=true->false=a2b s.log t)/\((!ownR x_1.fst.log x_1.snd.fst x_1.snd.snd)
  =false->X6 .i64 (x.val.snd- (1:Int))/\W7 (x.val.snd- (1:Int)) s.log.length/\∃(x_2:(Sto×Int×Int)),(((s.log.getD (x.val.snd- (1:Int)).toNat default).k==(3:Int))=true->((EqS s x_2.fst)/\(s.log.getD
  (x.val.snd- (1:Int)).toNat default).n=x_2.snd.fst/\t.id=x_2.snd.snd/\True)/\N8 x_2.fst.log.length)/\(((s.log.getD (x.val.snd- (1:Int)).toNat default).k==(3:Int)&& !ownR x_2.fst.log x_2.snd.fst x_2.snd.snd)=
  true->false=a2b s.log t)/\(((s.log.getD (x.val.snd- (1:Int)).toNat default).k==(3:Int)&& !ownR x_2.fst.log x_2.snd.fst x_2.snd.snd)=false->(((s.log.getD (x.val.snd- (1:Int)).toNat default).p==(0:Int))=true
  ->true=a2b s.log t)/\(((s.log.getD (x.val.snd- (1:Int)).toNat default).p==(0:Int))=false->∃(y:Chn s.log t),((O3 (y4 [some 0]) (T.bref s.ts) (T.bref s.ts)/\(0=0/\0=0)/\(s.log.getD (x.val.snd- (1:
  Int)).toNat default).p=y.val.snd/\True)/\(1=1/\1=1/\t.id=t.id/\t.last=t.last/\True)/\True)/\Lt y.val.fst x.val.fst)))):
  Z1 Tryz.prog 157 [.bref s.ts,.agg t.ts] (.bool (a2b s.log t)):=
 T7 (code:=c1l) (gC c6y b5p gN) Tryz.func157 (by kernel_rfl) (by kernel_rfl) (c3a s t) h (by kernel_rfl)
theorem b25:Z2 Tryz.prog 157 c3B:=by
 rintro⟨s,t⟩ (hL:a0d s.log);have h60:=hL.1;refine c0t s t ⟨⟨⟨(61,t.last),Nat.succ_pos 60,rfl,.inr rfl⟩,⟨T6 _,⟨rfl,rfl⟩,rfl,trivial⟩,⟨rfl,rfl,rfl,rfl,trivial⟩,trivial⟩,fun x=> ?_⟩
 obtain⟨⟨f,at_⟩,hf,he,hb⟩:=x;dsimp only at hf he hb ⊢;refine⟨(s,at_,t.id),⟨⟨(eqS _),rfl,rfl,trivial⟩,by unfold N8;simp only;omega⟩,fun ho=> ?_,fun ho=> ?_⟩
 ·simp only[Bool.not_eq_true'] at ho;rw[←he];cases hi:W9 at_ 1 s.log.length
  ·rfl
  ·obtain⟨q1,q2⟩:=N3.1 hi;rw[a4p _ _ hf q1];unfold okR;rw[ho];rfl
 ·simp only[Bool.not_eq_false'] at ho;obtain⟨q1,q2⟩:=d3X ho;have hi:W9 at_ 1 s.log.length=true:=N3.2 ⟨q1,q2⟩;rw[hi,Bool.true_and,a4p _ _ hf q1] at he;obtain⟨p1,p2,_⟩:=hL.prev q1 q2;have eo:okR s.log t.id at_=((X0 s.log at_).k !=3||ownR s.log (X0 s.log at_).n t.id):=by unfold okR;rw[ho,Bool.true_and]
  refine⟨Z5 (by omega),⟨by omega,by omega⟩,(s,(X0 s.log at_).n,t.id),fun _=>⟨⟨(eqS _),rfl,rfl,trivial⟩,by unfold N8;simp only;omega⟩,fun hk=> ?_,fun hk=>⟨fun h0=> ?_,fun h0=> ?_⟩⟩
  ·have hk:((X0 s.log at_).k==3&& !ownR s.log (X0 s.log at_).n t.id)=true:=hk;rw[←he,eo];simp only[Bool.and_eq_true,Bool.not_eq_true',beq_iff_eq] at hk;rw[hk.1,hk.2];rfl
  ·have hk:((X0 s.log at_).k==3&& !ownR s.log (X0 s.log at_).n t.id)=false:=hk;have h0:(X0 s.log at_).p=0:=beq_iff_eq.1 h0;have e2:okR s.log t.id at_=true:=by
    rw[eo,←Bool.not_eq_false',Bool.not_or,show(!((X0 s.log at_).k !=3))=((X0 s.log at_).k==3) by simp[bne]]
    exact hk
   rw[←he,e2,h0,a9y _ _ _ (Int.le_refl 0)];rfl
  ·have hk:((X0 s.log at_).k==3&& !ownR s.log (X0 s.log at_).n t.id)=false:=hk;have h0:(X0 s.log at_).p≠0:=fun h=>by
    have h0:((X0 s.log at_).p==0)=false:=h0;rw[h] at h0;cases h0
   have e2:okR s.log t.id at_=true:=by
    rw[eo,←Bool.not_eq_false',Bool.not_or,show(!((X0 s.log at_).k !=3))=((X0 s.log at_).k==3) by simp[bne]]
    exact hk
   rw[e2,Bool.true_and] at he;refine⟨⟨(f-1,(X0 s.log at_).p),by simp only;omega,?_,by simp only;omega⟩,⟨⟨T6 _,⟨rfl,rfl⟩,rfl,trivial⟩,⟨rfl,rfl,rfl,rfl,trivial⟩,trivial⟩,show f-1<f by omega⟩
   simp only;rw[N3.2 (show 1<=(X0 s.log at_).p/\(X0 s.log at_).p<=(s.log.length:Int) by omega),Bool.true_and]
   exact he
def und(L:List Rec):Nat->Int->Nat
 |0,_=>0
 |f+1,at_=>if at_<=0 then 0 else if(X0 L at_).k=3 then und L f (X0 L at_).n else(if(X0 L at_).k=2 then 1 else 0)+und L f (X0 L at_).p
def a0i(m:Nat):Option Ob:=some (.arr true 1000000 1 1 fun _=>[.int .i64 m])
def c7j:Con:=.reff ⟨Rec×Nat,fun x=>[.agg x.1.ts,.ref 0 0 0],fun x=>[a0i x.2],fun _=>.bool true,fun x=>[a0i (x.2+1)],fun x=>x.2<1000⟩
noncomputable def c46:Code:=Tryz.f266.body.getD .skip
theorem b0D:Z8 Tryz.prog 266:=⟨_,Tryz.func266,by kernel_rfl,by kernel_rfl⟩
theorem c6V(r:Rec)(m:Nat)(h:
  X6 .i64 ((m:Int)+(1:Int))/\true=true/\(1=1/\1=1/\(m:Int)+(1:Int)=(↑(m+1):Int)/\True)/\True):
  V7 Tryz.prog 266 [.agg r.ts,.ref 0 0 0] [a0i m] (.bool true) [a0i (m+1)]:=
 vcE (code:=c46) gN Tryz.func266 (by kernel_rfl) (by kernel_rfl) Z0 (bs:=[true]) h (by kernel_rfl)
theorem c1n:Z2 Tryz.prog 266 c7j:=by
 rintro⟨r,m⟩ (h:m<1000);exact c6V r m ⟨Z5 (by omega),rfl,⟨rfl,rfl,by omega,trivial⟩,trivial⟩
def a2M(L:List Rec)(at_:Int):Prop:=a0d L/\at_<=(L.length:Int)
def c2T:Con:=.reff ⟨Sto×Int,fun x=>[.bref x.1.ts,.int .i64 x.2,.fn (.func 266) [.ref 0 0 0]],fun _=>[a0i 1],fun _=>.tup [],fun x=>[a0i (1+und x.1.log 61 x.2)],fun x=>a2M x.1.log x.2⟩
def Und(L:List Rec)(from_:Int):Type:={x:Nat×Int×Nat//x.2.2+und L x.1 x.2.1=1+und L 61 from_/\x.2.1<=(L.length:Int)/\x.2.1.toNat<x.1/\x.2.2+x.1<=100}
def c2q(s:Sto)(from_:Int):Nat->Ann
 |0=>.one (Und s.log from_) (fun x=>⟨[(0,.bref s.ts),(1,.int .i64 x.1.2.1),(2,.fn (.func 266) [.ref 0 0 0])],[a0i x.1.2.2]⟩) (fun x=>x.1.1) [.box 0] [.box 0] (fun _=>Z0)
 |_=>.none
noncomputable def c0g:Code:=Tryz.f193.body.getD .skip
theorem a9h:Z8 Tryz.prog 193:=⟨_,Tryz.func193,by kernel_rfl,by kernel_rfl⟩
theorem c14(s:Sto)(from_:Int)(h:
  (∃(x:Und s.log from_),(O3 (y4 [some 0]) (T.bref s.ts) (T.bref s.ts)/\from_=x.val.snd.fst/\(Fn.func 266=Fn.func 266/\(0=0/\0=0)/\True)/\True)/\(1=1/\1=1/\(1:Int)=(x.val.snd.snd:Int)/\True)/\True)/\
  ∀(x:Und s.log from_),(decide (x.val.snd.fst>(0:Int))=true->X6 .i64 (x.val.snd.fst- (1:Int))/\W7 (x.val.snd.fst- (1:Int)) s.log.length/\(((s.log.getD (x.val.snd.fst- (1:Int)).toNat default).k==(3:Int))=
  true->∃(y:Und s.log from_),((O3 (y4 [some 0]) (T.bref s.ts) (T.bref s.ts)/\(s.log.getD (x.val.snd.fst- (1:Int)).toNat default).n=y.val.snd.fst/\(Fn.func 266=Fn.func 266/\(0=0/\0=0)/\True)/\True)/\(1=1/\
  1=1/\(x.val.snd.snd:Int)=(y.val.snd.snd:Int)/\True)/\True)/\Lt y.val.fst x.val.fst)/\(((s.log.getD (x.val.snd.fst- (1:Int)).toNat default).k==(3:Int))=false->∃(x_1:(Rec×Nat)),(((s.log.getD (x.val.snd.fst-
  (1:Int)).toNat default).k==(2:Int))=true->(((s.log.getD (x.val.snd.fst- (1:Int)).toNat default).e=x_1.fst.e/\(s.log.getD (x.val.snd.fst- (1:Int)).toNat default).l=x_1.fst.l/\(s.log.getD (x.val.snd.fst- (1:
  Int)).toNat default).t=x_1.fst.t/\(s.log.getD (x.val.snd.fst- (1:Int)).toNat default).k=x_1.fst.k/\(s.log.getD (x.val.snd.fst- (1:Int)).toNat default).p=x_1.fst.p/\(s.log.getD (x.val.snd.fst- (1:Int)).toNat
  default).n=x_1.fst.n/\(s.log.getD (x.val.snd.fst- (1:Int)).toNat default).g=x_1.fst.g/\(s.log.getD (x.val.snd.fst- (1:Int)).toNat default).s=x_1.fst.s/\(s.log.getD (x.val.snd.fst- (1:Int)).toNat default).b=
  x_1.fst.b/\(s.log.getD (x.val.snd.fst- (1:Int)).toNat default).a=x_1.fst.a/\True)/\(0=0/\0=0)/\True)/\((1=1/\Z7 1 (fun(x_2:Nat)=>[T.int .i64 (x.val.snd.snd:Int)]) fun(x:Nat)=>[T.int .i64
  (x_1.snd:Int)])/\True)/\x_1.snd<1000)/\(((s.log.getD (x.val.snd.fst- (1:Int)).toNat default).k==(2:Int))=true->(((s.log.getD (x.val.snd.fst- (1:Int)).toNat default).k==(2:Int)&&false)=true->True/\(1=1
  /\1=1/\(↑(x_1.snd+1):Int)=(↑(1+und s.log 61 from_):Int)/\True)/\True)/\(((s.log.getD (x.val.snd.fst- (1:Int)).toNat default).k==(2:Int)&&false)=false->∃(y:Und s.log from_),((O3 (y4 [some 0])
  (T.bref s.ts) (T.bref s.ts)/\(s.log.getD (x.val.snd.fst- (1:Int)).toNat default).p=y.val.snd.fst/\(Fn.func 266=Fn.func 266/\(0=0/\0=0)/\True)/\True)/\(1=1/\1=1/\(↑(x_1.snd+1):Int)=(y.val.snd.snd:Int)
  /\True)/\True)/\Lt y.val.fst x.val.fst))/\((((s.log.getD (x.val.snd.fst- (1:Int)).toNat default).k==(2:Int))=true->False)->(((s.log.getD (x.val.snd.fst- (1:Int)).toNat default).k==(2:Int)&&false)=true->
  True/\(1=1/\1=1/\(x.val.snd.snd:Int)=(↑(1+und s.log 61 from_):Int)/\True)/\True)/\(((s.log.getD (x.val.snd.fst- (1:Int)).toNat default).k==(2:Int)&&false)=false->∃(y:Und s.log from_),((O3 (y4
  [some 0]) (T.bref s.ts) (T.bref s.ts)/\(s.log.getD (x.val.snd.fst- (1:Int)).toNat default).p=y.val.snd.fst/\(Fn.func 266=Fn.func 266/\(0=0/\0=0)/\True)/\True)/\(1=1/\1=1/\(x.val.snd.snd:Int)=
  (y.val.snd.snd:Int)/\True)/\True)/\Lt y.val.fst x.val.fst))))/\(decide (x.val.snd.fst>(0:Int))=false->True/\(1=1/\1=1/\(x.val.snd.snd:Int)=(↑(1+und s.log 61 from_):Int)/\True)/\True)):
  V7 Tryz.prog 193 [.bref s.ts,.int .i64 from_,.fn (.func 266) [.ref 0 0 0]] [a0i 1] (.tup []) [a0i (1+und s.log 61 from_)]:=
 vcE (code:=c0g) (gC c1n b0D gN) Tryz.func193 (by kernel_rfl) (by kernel_rfl) (c2q s from_) (bs:=[true]) h (by kernel_rfl)
theorem a82(L:List Rec):∀(f:Nat) (at_:Int),und L f at_<=f:=by
 intro f;induction f with
 |zero=>intro at_;exact Nat.le_refl 0
 |succ f ih=>
  intro at_;unfold und;split
  ·omega
  ·split
   ·have:=ih (X0 L at_).n;omega
   ·have:=ih (X0 L at_).p;split<;>omega
theorem b8D{L:List Rec}{f:Nat}{at_:Int}(h:0<at_)(hf:at_.toNat<f)(hk:(X0 L at_).k=3):und L f at_=und L (f-1) (X0 L at_).n:=by
 obtain⟨g,rfl⟩:∃g,f=g+1:=⟨f-1,by omega⟩
 conv=>lhs;unfold und
 rw[if_neg (by omega),if_pos hk]
 rfl
theorem b7C{L:List Rec}{f:Nat}{at_:Int}(h:0<at_)(hf:at_.toNat<f)(hk:(X0 L at_).k≠3):und L f at_=(if(X0 L at_).k=2 then 1 else 0)+und L (f-1) (X0 L at_).p:=by
 obtain⟨g,rfl⟩:∃g,f=g+1:=⟨f-1,by omega⟩
 conv=>lhs;unfold und
 rw[if_neg (by omega),if_neg hk]
 rfl
theorem b0S{L:List Rec}{f:Nat}{at_:Int}(h:at_<=0):und L f at_=0:=by
 cases f with
 |zero=>rfl
 |succ f=>unfold und;rw[if_pos h]
theorem b47:Z2 Tryz.prog 193 c2T:=by
 rintro⟨s,from_⟩ ⟨hL,hl⟩;dsimp only at hL hl;have h60:=hL.1;refine c14 s from_ ⟨⟨⟨(61,from_,1),rfl,hl,by dsimp only;omega,by dsimp only;omega⟩,⟨T6 _,rfl,⟨rfl,⟨rfl,rfl⟩,trivial⟩,trivial⟩,⟨rfl,rfl,rfl,trivial⟩,trivial⟩,fun x=> ?_⟩
 obtain⟨⟨f,at_,m⟩,he,hle,hf,hm⟩:=x;dsimp only at he hle hf hm ⊢;refine⟨fun hc=> ?_,fun hc=> ?_⟩
 ·have h0:at_>0:=of_decide_eq_true hc;obtain⟨p1,p2,p3,p4⟩:=hL.prev (show 1<=at_ by omega) hle
  refine⟨Z5 (by omega),⟨by omega,by omega⟩,fun hk=> ?_,fun hk=> ?_⟩
  ·have hk:(X0 s.log at_).k=3:=beq_iff_eq.1 hk;rw[b8D h0 hf hk] at he;exact⟨⟨(f-1,(X0 s.log at_).n,m),he,by dsimp only;omega,by dsimp only;omega,by dsimp only;omega⟩,⟨⟨T6 _,rfl,⟨rfl,⟨rfl,rfl⟩,trivial⟩,trivial⟩,⟨rfl,rfl,rfl,trivial⟩,trivial⟩,show f-1<f by omega⟩
  ·have hk:(X0 s.log at_).k≠3:=fun h=>by
    have hk:((X0 s.log at_).k==3)=false:=hk;rw[h] at hk;cases hk
   rw[b7C h0 hf hk] at he;refine⟨(X0 s.log at_,m),fun _=>⟨⟨⟨rfl,rfl,rfl,rfl,rfl,rfl,rfl,rfl,rfl,rfl,trivial⟩,⟨rfl,rfl⟩,trivial⟩,⟨⟨rfl,Z9 _ _⟩,trivial⟩,by dsimp only;omega⟩,fun h2=>⟨fun hh=> ?_,fun _=> ?_⟩,fun h2=>⟨fun hh=> ?_,fun _=> ?_⟩⟩
   ·rw[Bool.and_false] at hh;cases hh
   ·have h2:(X0 s.log at_).k=2:=beq_iff_eq.1 h2;rw[if_pos h2] at he;exact⟨⟨(f-1,(X0 s.log at_).p,m+1),by dsimp only;omega,by dsimp only;omega,by dsimp only;omega,by dsimp only;omega⟩,⟨⟨T6 _,rfl,⟨rfl,⟨rfl,rfl⟩,trivial⟩,trivial⟩,⟨rfl,rfl,rfl,trivial⟩,trivial⟩,show f-1<f by omega⟩
   ·rw[Bool.and_false] at hh;cases hh
   ·have h2:¬ (X0 s.log at_).k=2:=fun h=>h2 (beq_iff_eq.2 h)
    rw[if_neg h2] at he;exact⟨⟨(f-1,(X0 s.log at_).p,m),by dsimp only;omega,by dsimp only;omega,by dsimp only;omega,by dsimp only;omega⟩,⟨⟨T6 _,rfl,⟨rfl,⟨rfl,rfl⟩,trivial⟩,trivial⟩,⟨rfl,rfl,rfl,trivial⟩,trivial⟩,show f-1<f by omega⟩
 ·have h0:at_<=0:=by have:=of_decide_eq_false hc;omega
  rw[b0S h0] at he;exact⟨trivial,⟨rfl,rfl,by omega,trivial⟩,trivial⟩
def c7C:Con:=.rel ⟨Sto×Int,fun x=>[.bref x.1.ts,.int .i64 x.2],fun x=>.int .i64 ((1+und x.1.log 61 x.2:Nat):Int),fun x=>a2M x.1.log x.2⟩
noncomputable def c8w:Code:=Tryz.f229.body.getD .skip
theorem b01:Z8 Tryz.prog 229:=⟨_,Tryz.func229,by kernel_rfl,by kernel_rfl⟩
theorem c35(s:Sto)(from_:Int)(h:
  ∃(x:(Sto×Int)),(((EqS s x.fst)/\from_=x.snd/\(Fn.func 266=Fn.func 266/\(0=0/\0=0)/\True)/\True)/\((1=1/\Z7 1 (setRow (fun(x:Nat)=>[T.int .i64 (0:Int)]) 0 0 [T.int .i64 (1:Int)]) fun(x:Nat)
  =>[T.int .i64 (1:Int)])/\True)/\a2M x.fst.log x.snd)/\(↑(1+und x.fst.log 61 x.snd):Int)=(↑(1+und s.log 61 from_):Int)):
  Z1 Tryz.prog 229 [.bref s.ts,.int .i64 from_] (.int .i64 ((1+und s.log 61 from_:Nat):Int)):=
 T7 (code:=c8w) (gC b47 a9h gN) Tryz.func229 (by kernel_rfl) (by kernel_rfl) Z0 h (by kernel_rfl)
theorem c0U:Z2 Tryz.prog 229 c7C:=by
 rintro⟨s,from_⟩ h;exact c35 s from_ ⟨(s,from_),⟨⟨(eqS _),rfl,⟨rfl,⟨rfl,rfl⟩,trivial⟩,trivial⟩,⟨⟨rfl,fun i hi=>by(obtain rfl:i=0:=by omega);rfl⟩,trivial⟩,h⟩,rfl⟩
def c8H:Con:=.rel ⟨Bool,fun b=>[.bool b],fun b=>.int .i64 (if b then 1 else 0),fun _=>True⟩
noncomputable def c6G:Code:=Tryz.f203.body.getD .skip
theorem b11:Z8 Tryz.prog 203:=⟨_,Tryz.func203,by kernel_rfl,by kernel_rfl⟩
theorem c61(b:Bool)(h:
  (b=true->(1:Int)=if b=true then(1:Int) else(0:Int))/\(b=false->(0:Int)=if b=true then(1:Int) else(0:Int))):
  Z1 Tryz.prog 203 [.bool b] (.int .i64 (if b then 1 else 0)):=
 T7 (code:=c6G) gN Tryz.func203 (by kernel_rfl) (by kernel_rfl) Z0 h (by kernel_rfl)
theorem c3t:Z2 Tryz.prog 203 c8H:=fun b _=>c61 b ⟨fun h=>by rw[if_pos h],fun h=>by rw[h];rfl⟩
def c1Z:Con:=.rel ⟨Sto×Int,fun x=>[.agg x.1.ts,.int .i64 x.2],fun x=>.int .i64 ((1+und x.1.log 61 x.2:Nat):Int),fun x=>a2M x.1.log x.2⟩
def c2b(s:Sto)(from_:Int):Nat->Ann
 |0=>.one (Und s.log from_) (fun x=>⟨[(1,.int .i64 x.1.2.1),(2,.ref 0 0 0),(5,.int .i64 x.1.2.2)],[a5m s]⟩) (fun x=>x.1.1) [.box 0] [.box 0] (fun _=>Z0)
 |_=>.none
noncomputable def c1B:Code:=Tryz.f143.body.getD .skip
theorem a69:Z8 Tryz.prog 143:=⟨_,Tryz.func143,by kernel_rfl,by kernel_rfl⟩
theorem c0W(s:Sto)(from_:Int)(h:
  (∃(x:Und s.log from_),(from_=x.val.snd.fst/\(0=0/\0=0)/\(1:Int)=(x.val.snd.snd:Int)/\True)/\(1=1/\1=1/\EqS s s)/\True)/\∀(x:Und s.log from_),(decide (x.val.snd.fst>(0:Int))=true->X6 .i64
  (x.val.snd.fst- (1:Int))/\W7 (x.val.snd.fst- (1:Int)) s.log.length/\(((s.log.getD (x.val.snd.fst- (1:Int)).toNat default).k==(3:Int))=true->∃(y:Und s.log from_),(((s.log.getD (x.val.snd.fst- (1:
  Int)).toNat default).n=y.val.snd.fst/\(0=0/\0=0)/\(x.val.snd.snd:Int)=(y.val.snd.snd:Int)/\True)/\(1=1/\1=1/\EqS s s)/\True)/\Lt y.val.fst x.val.fst)/\(((s.log.getD (x.val.snd.fst- (1:Int)).toNat
  default).k==(3:Int))=false->∃(x_1:Bool),((((s.log.getD (x.val.snd.fst- (1:Int)).toNat default).k==(2:Int))=x_1/\True)/\True)/\X6 .i64 ((x.val.snd.snd:Int)+if x_1=true then(1:Int) else(0:Int))/\∃
  (y:Und s.log from_),(((s.log.getD (x.val.snd.fst- (1:Int)).toNat default).p=y.val.snd.fst/\(0=0/\0=0)/\((x.val.snd.snd:Int)+if x_1=true then(1:Int) else(0:Int))=(y.val.snd.snd:Int)/\True)/\(1=1/\1=
  1/\EqS s s)/\True)/\Lt y.val.fst x.val.fst))/\(decide (x.val.snd.fst>(0:Int))=false->(x.val.snd.snd:Int)=(↑(1+und s.log 61 from_):Int))):
  Z1 Tryz.prog 143 [.agg s.ts,.int .i64 from_] (.int .i64 ((1+und s.log 61 from_:Nat):Int)):=
 T7 (code:=c1B) (gC c3t b11 gN) Tryz.func143 (by kernel_rfl) (by kernel_rfl) (c2b s from_) h (by kernel_rfl)
theorem b4V:Z2 Tryz.prog 143 c1Z:=by
 rintro⟨s,from_⟩ ⟨hL,hl⟩;dsimp only at hL hl;have h60:=hL.1;refine c0W s from_ ⟨⟨⟨(61,from_,1),rfl,hl,by dsimp only;omega,by dsimp only;omega⟩,⟨rfl,⟨rfl,rfl⟩,rfl,trivial⟩,⟨rfl,rfl,eqS _⟩,trivial⟩,fun x=> ?_⟩
 obtain⟨⟨f,at_,m⟩,he,hle,hf,hm⟩:=x;dsimp only at he hle hf hm ⊢;refine⟨fun hc=> ?_,fun hc=> ?_⟩
 ·have h0:at_>0:=of_decide_eq_true hc;obtain⟨p1,p2,p3,p4⟩:=hL.prev (show 1<=at_ by omega) hle
  refine⟨Z5 (by omega),⟨by omega,by omega⟩,fun hk=> ?_,fun hk=> ?_⟩
  ·have hk:(X0 s.log at_).k=3:=beq_iff_eq.1 hk;rw[b8D h0 hf hk] at he;exact⟨⟨(f-1,(X0 s.log at_).n,m),he,by dsimp only;omega,by dsimp only;omega,by dsimp only;omega⟩,⟨⟨rfl,⟨rfl,rfl⟩,rfl,trivial⟩,⟨rfl,rfl,eqS _⟩,trivial⟩,show f-1<f by omega⟩
  ·have hk:(X0 s.log at_).k≠3:=fun h=>by
    have hk:((X0 s.log at_).k==3)=false:=hk;rw[h] at hk;cases hk
   rw[b7C h0 hf hk] at he;have hn:und s.log (f-1) (X0 s.log at_).p<=f-1:=a82 _ _ _;refine⟨(X0 s.log at_).k==2,⟨⟨rfl,trivial⟩,trivial⟩,?_,?_⟩
   ·split<;>exact Z5 (by omega)
   ·by_cases h2:(X0 s.log at_).k=2
    ·rw[if_pos h2] at he;rw[if_pos (by simpa using h2)]
     exact⟨⟨(f-1,(X0 s.log at_).p,m+1),by dsimp only;omega,by dsimp only;omega,by dsimp only;omega,by dsimp only;omega⟩,⟨⟨rfl,⟨rfl,rfl⟩,rfl,trivial⟩,⟨rfl,rfl,eqS _⟩,trivial⟩,show f-1<f by omega⟩
    ·rw[if_neg h2] at he;rw[if_neg (by simpa using h2)]
     exact⟨⟨(f-1,(X0 s.log at_).p,m),by dsimp only;omega,by dsimp only;omega,by dsimp only;omega,by dsimp only;omega⟩,⟨⟨rfl,⟨rfl,rfl⟩,by dsimp only;omega,trivial⟩,⟨rfl,rfl,eqS _⟩,trivial⟩,show f-1<f by omega⟩
 ·have h0:at_<=0:=by have:=of_decide_eq_false hc;omega
  rw[b0S h0] at he;show(m:Int)=_;omega
end Go.Proofs.YtokaojbaacnngaaGreat

