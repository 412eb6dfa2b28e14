/- A part of the proof. -/
import Derived.Test.YtghgljelnhfihaaGreatW1W2
namespace Go.Proofs.YtghgljelnhfihaaGreat
set_option maxRecDepth 100000
open Go.SS

structure Txn where
 id:Int
 Z:Int
 deriving Inhabited
def Txn.ts(t:Txn):List T:=[.int .i64 t.id,.int .i64 t.Z]
def X0(L:List Txn)(i:Nat):List T:=(L.getD i dz).ts
def a4a(L:List Txn):T:=.sl 2 L.length (X0 L)
structure Eng where
 s:Sto
 up:Bool
 X:List Txn
 lk:Lks
 N:Int
 deriving Inhabited
def Eng.ts(e:Eng):List T:=[xM e.s.d.E,sR e.s.d.C,.bool e.s.d.A,a5E e.s.d.keep,.int .i64 e.s.ep,nI e.s.L,.int .i64 e.s.S,a3D e.s.fr,.int .i64 e.s.J,.bool e.up,a4a e.X,jQ e.lk.H,wtS e.lk.W,.int .i64 e.N]
abbrev R8(a b:Eng):Prop:=(a.s.d.E.length=b.s.d.E.length/\Z6 a.s.d.E.length (Z5 a.s.d.E) (Z5 b.s.d.E))/\(a.s.d.C.length=b.s.d.C.length/\Z6 a.s.d.C.length (Y9 a.s.d.C) (Y9 b.s.d.C))/\a.s.d.A=b.s.d.A/\(a.s.d.keep.length=b.s.d.keep.length/\Z6 a.s.d.keep.length (Y6 a.s.d.keep) (Y6 b.s.d.keep))/\a.s.ep=b.s.ep/\(a.s.L.length=b.s.L.length/\Z6 a.s.L.length (Y3 a.s.L) (Y3 b.s.L))/\a.s.S=b.s.S/\(a.s.fr.length=b.s.fr.length/\Z6 a.s.fr.length (X2 a.s.fr) (X2 b.s.fr))/\a.s.J=b.s.J/\a.up=b.up/\(a.X.length=b.X.length/\Z6 a.X.length (X0 a.X) (X0 b.X))/\(a.lk.H.length=b.lk.H.length/\Z6 a.lk.H.length (Y7 a.lk.H) (Y7 b.lk.H))/\(a.lk.W.length=b.lk.W.length/\Z6 a.lk.W.length (Y0 a.lk.W) (Y0 b.lk.W))/\a.N=b.N/\True
theorem R4(s:Eng):R8 s s:=⟨Z7,Z7,rfl,Z7,rfl,Z7,rfl,Z7,rfl,rfl,Z7,Z7,Z7,Z9⟩
def B9(e:Eng):Option Ob:=some (.arr true 1000000 14 1 λ_=>e.ts)
def C9(L:List Txn)(id:Int)(i:Nat):Bool:=(L.getD i dz).id==id
def U4(L:List Txn)(id:Int):Int:=P9 L.length (C9 L id)
def b6t:Con:=.rel ⟨Txn×Int,λx=>[.agg x.1.ts,.bref [.int .i64 x.2]],λx=>.bool (x.1.id==x.2),λ_=>True⟩
theorem b5v(t:Txn)(id:Int)(h:
  (t.id==id)=(t.id==id)):
  U1 Tryz.prog 210 [.agg t.ts,.bref [.int .i64 id]] (.bool (t.id==id)):=
 Q5 gN Tryz.func210 Y5 h
theorem b1j:GK 210 b6t:=gk Tryz.func210<|λx _=>b5v x.1 x.2 rfl
def txF(id:Int):T:=.fn (.func 210) [.bref [.int .i64 id]]
def b2f:Con:=.rel ⟨List Txn×Int,λx=>[a4a x.1,txF x.2],λx=>.int .i64 (U4 x.1 x.2),λx=>O6 x.1.length⟩
def b1s(L:List Txn)(id:Int):Nat->Ann
 |0=>.one (V1 L.length (C9 L id)) (λx=>⟨[(0,a4a L),(1,txF id),(7,.int .i64 L.length),(8,.int .i64 x.1)],[]⟩) (λx=>L.length-x.1) [] [] (λ_=>Y5)
 |_=>.none
theorem a82:GK 209 b2f:=gk Tryz.func209<|by
 rintro⟨L,id⟩ (hL:L.length<1000000000000);refine Q5 (gC b1j gN) Tryz.func209 (b1s L id) (α:=let r:=(L.length:Int);let p:=(T.bref [T.int .i64 id]);(∃(x:V1 L.length (C9 L id)),((Y8 X0 L L)/\(Fn.func 210=Fn.func 210/\L4 (λ(x:Nat)=>none) p p/\True)/\r=r/\0=(x.val:Int)/\True)/\True)/\∀(x:V1 L.length (C9 L id)),let q:=(x.val:Int);let z:=(L.getD q.toNat dz);(decide (q<r)=true->V3 q L.length/\∃(x_1:(Txn×Int)),(((z.id=x_1.1.id/\z.Z=x_1.1.Z/\True)/\(id=x_1.2/\True)/\True)/\True)/\((x_1.1.id==x_1.2)=true->q=U4 L id)/\((x_1.1.id==x_1.2)=false->W7 .i64 (q+1)/\∃(y:V1 L.length (C9 L id)),(((Y8 X0 L L)/\(Fn.func 210=Fn.func 210/\L4 (λ(x:Nat)=>none) p p/\True)/\r=r/\q+1=(y.val:Int)/\True)/\True)/\Lt (L.length-y.val) (L.length-x.val)))/\(decide (q<r)=false->(-1:Int)=U4 L id)) ⟨⟨F7,⟨Z7,⟨rfl,R2 _,trivial⟩,rfl,Z9⟩,trivial⟩,λx=>⟨λhc=> ?_,λhc=> ?_⟩⟩
 ·have hlt:=X6 hc;refine⟨X8 hlt,(L.getD x.val dz,id),⟨⟨⟨rfl,Z9⟩,Z9,trivial⟩,trivial⟩,λhp=>(M6 hlt hp x.2.2).symm,λhp=>⟨U5 hlt (by omega),x.succ hlt hp,⟨⟨Z7,⟨rfl,R2 _,trivial⟩,rfl,by simp only[V1.succ];omega,trivial⟩,trivial⟩,V1.ext_lt hlt⟩⟩
 ·have hge:=X4 hc;exact(J1 λj hj=>x.2.2 j (wM hj hge)).symm
def b8N:Con:=.rel ⟨Eng×Int,λx=>[.bref x.1.ts,.int .i64 x.2],λx=>.int .i64 (U4 x.1.X x.2),λx=>O6 x.1.X.length⟩
theorem b89(e:Eng)(id:Int)(h:
  ∃(x:(List Txn×Int)),(((Y8 X0 e.X x.1)/\(Fn.func 210=Fn.func 210/\(id=x.2/\True)/\True)/\True)/\O6 x.1.length)/\U4 x.1 x.2=U4 e.X id):
  U1 Tryz.prog 104 [.bref e.ts,.int .i64 id] (.int .i64 (U4 e.X id)):=
 Q5 (gC a82 gN) Tryz.func104 Y5 h
theorem tP:GK 104 b8N:=gk Tryz.func104<|λx hL=>b89 x.1 x.2 ⟨(x.1.X,x.2),⟨⟨Z7,⟨rfl,Z9,trivial⟩,trivial⟩,hL⟩,rfl⟩
def b5E:Con:=.rel ⟨Eng×Int,λx=>[.agg x.1.ts,.int .i64 x.2],λx=>.int .i64 (U4 x.1.X x.2),λx=>O6 x.1.X.length⟩
def b31(e:Eng)(id:Int):Nat->Ann
 |0=>.one (V1 e.X.length (C9 e.X id)) (λx=>⟨[(1,.int .i64 id),(2,.ref 0 0 0),(5,.int .i64 x.1)],[B9 e]⟩) (λx=>e.X.length-x.1) [.box 0] [.box 0] (λ_=>Y5)
 |_=>.none
theorem a2Z:GK 100 b5E:=gk Tryz.func100<|by
 rintro⟨e,id⟩ (hL:e.X.length<1000000000000);refine Q5 gN Tryz.func100 (b31 e id) (α:=let z:=(1=1/\1=1/\R8 e e);(∃(x:V1 e.X.length (C9 e.X id)),(id=id/\(0=0/\0=0)/\0=(x.val:Int)/\True)/\z/\True)/\∀(x:V1 e.X.length (C9 e.X id)),let p:=(x.val:Int);let r:=(p<(e.X.length:Int));let q:=((e.X.getD p.toNat dz).id==id);(decide r=true->V3 p e.X.length/\(q=true->p=U4 e.X id)/\(q=false->W7 .i64 (p+1)/\∃(y:V1 e.X.length (C9 e.X id)),((id=id/\(0=0/\0=0)/\p+1=(y.val:Int)/\True)/\z/\True)/\Lt (e.X.length-y.val) (e.X.length-x.val)))/\(decide r=false->(-1:Int)=U4 e.X id)) ⟨⟨F7,⟨rfl,Z8,Z9⟩,⟨rfl,rfl,R4 _⟩,trivial⟩,λx=>⟨λhc=> ?_,λhc=> ?_⟩⟩
 ·have hlt:=X6 hc;exact⟨X8 hlt,λhp=>(M6 hlt hp x.2.2).symm,λhp=>⟨U5 hlt (by omega),x.succ hlt hp,⟨⟨rfl,Z8,by simp only[V1.succ];omega,trivial⟩,⟨rfl,rfl,R4 _⟩,trivial⟩,V1.ext_lt hlt⟩⟩
 ·have hge:=X4 hc;exact(J1 λj hj=>x.2.2 j (wM hj hge)).symm

def Z3(L:List Rec)(at_:Int):Rec:=L.getD (at_-1).toNat dz
def ownR(L:List Rec)(at_ id:Int):Bool:=V9 at_ 1 L.length&&((Z3 L at_).t==id)&&V9 (Z3 L at_).k 1 3
def okR(L:List Rec)(id at_:Int):Bool:=ownR L at_ id&&((Z3 L at_).k !=3||ownR L (Z3 L at_).n id)
def chn(L:List Rec)(id:Int):Nat->Int->Bool
 |0,_=>true
 |f+1,at_=>decide (at_<=0)||(okR L id at_&&chn L id f (Z3 L at_).p)
def sN(L:List Rec)(t:Txn):Bool:=V9 t.Z 1 L.length&&chn L t.id 61 t.Z
def q8(L:List Rec):Prop:=L.length<=60/\∀i,i<L.length->F8 (L.getD i dz)/\(L.getD i dz).l=(i:Int)+1
def b5e:Con:=.rel ⟨Sto×Int×Int,λx=>[.bref x.1.ts,.int .i64 x.2.1,.int .i64 x.2.2],λx=>.bool (ownR x.1.L x.2.1 x.2.2),λx=>O6 x.1.L.length⟩
theorem Q1{n lo hi:Int}:V9 n lo hi=true↔lo<=n/\n<=hi:=by
 unfold V9;simp only[L3,k4]
theorem b2w:GK 248 b5e:=gk Tryz.func248<|by
 rintro⟨s,at_,id⟩ (hL:s.L.length<1000000000000);have k1:V9 at_ 1 s.L.length=true->W7 .i64 (at_-1)/\V3 (at_-1) s.L.length:=λh=>by
  obtain⟨h1,h2⟩:=Q1.1 h;exact⟨Z4 (by omega),by omega,by omega⟩
 exact Q5 (gC M5 gN) Tryz.func248 Y5 (α:=let q:=(s.L.length:Int);let p:=(s.L.getD (at_-1).toNat dz);let r:=(V9 at_ (1:Int) q&&p.t==id);(V9 at_ (1:Int) q=true->W7 .i64 (at_-1))/\(V9 at_ (1:Int) q=true->V3 (at_-1) s.L.length)/\(r=true->W7 .i64 (at_-1))/\(r=true->V3 (at_-1) s.L.length)/\(V9 at_ (1:Int) q&&p.t==id&&V9 p.k (1:Int) (3:Int))=ownR s.L at_ id) ⟨λh=>(k1 h).1,λh=>(k1 h).2,λh=>(k1 (Bool.and_eq_true_iff.1 h).1).1,λh=>(k1 (Bool.and_eq_true_iff.1 h).1).2,rfl⟩
theorem q8.at{L:List Rec}(h:q8 L){at_:Int}(h1:1<=at_)(h2:at_<=L.length):F8 (Z3 L at_)/\(Z3 L at_).l=at_:=by
 obtain⟨a,b⟩:=h.2 (at_-1).toNat (by omega)
 exact⟨a,by unfold Z3;rw[b];omega⟩
theorem q8.prev{L:List Rec}(h:q8 L){at_:Int}(h1:1<=at_)(h2:at_<=L.length):0<=(Z3 L at_).p/\(Z3 L at_).p<=at_-1/\0<=(Z3 L at_).n/\(Z3 L at_).n<=at_-1:=by
 obtain⟨a,b⟩:=h.at h1 h2;obtain⟨_,_,_,_,_,_,q1,q2,q3,q4,_⟩:=a;omega
theorem t5{L:List Rec}{at_ id:Int}(h:ownR L at_ id=true):1<=at_/\at_<=L.length:=by
 unfold ownR at h;simp only[L3] at h;exact Q1.1 h.1.1
theorem lJ(L:List Rec)(id:Int){f:Nat}(hf:0<f){at_:Int}(h:1<=at_):chn L id f at_=(okR L id at_&&chn L id (f-1) (Z3 L at_).p):=by
 obtain⟨g,rfl⟩:∃g,f=g+1:=⟨f-1,by omega⟩
 show(decide (at_<=0)||_)=_;rw[uV (by omega),Bool.false_or]
 rfl
theorem a1I(L:List Rec)(id:Int)(f:Nat){at_:Int}(h:at_<=0):chn L id f at_=true:=by
 cases f with
 |zero=>rfl
 |succ f=>show(decide (at_<=0)||_)=_;rw[pO h];rfl
def b0v(t:Txn):Option Ob:=some (.arr true 1000000 2 1 λ_=>t.ts)
def Chn(L:List Rec)(t:Txn):Type:={x:Nat×Int//0<x.1/\(V9 x.2 1 L.length&&chn L t.id x.1 x.2)=sN L t/\(x.2.toNat<x.1∨x.1=61)}
def a74:Con:=.rel ⟨Sto×Txn,λx=>[.bref x.1.ts,.agg x.2.ts],λx=>.bool (sN x.1.L x.2),λx=>q8 x.1.L⟩
def a7T(s:Sto)(t:Txn):Nat->Ann
 |0=>.one (Chn s.L t) (λx=>⟨[(0,.bref s.ts),(3,.ref 0 0 0),(5,.int .i64 x.1.2)],[b0v t]⟩) (λx=>x.1.1) [.box 0] [.box 0] (λ_=>Y5)
 |_=>.none
theorem a5n:GK 146 a74:=gk Tryz.func146<|by
 rintro⟨s,t⟩ (hL:q8 s.L);have h60:=hL.1;refine Q5 (gC b2w gN) Tryz.func146 (a7T s t) (α:=let u:=(T.bref s.ts);let z:=(1=1/\1=1/\t.id=t.id/\t.Z=t.Z/\True);(∃(x:Chn s.L t),(L4 (q9 [some 0]) u u/\(0=0/\0=0)/\t.Z=x.val.2/\True)/\z/\True)/\∀(x:Chn s.L t),let w:=(x.val.2-1);let q:=(s.L.getD w.toNat dz);∃(x_1:(Sto×Int×Int)),let v:=(!ownR x_1.1.L x_1.2.1 x_1.2.2);(((yL s x_1.1)/\x.val.2=x_1.2.1/\t.id=x_1.2.2/\True)/\O6 x_1.1.L.length)/\(v=true->false=sN s.L t)/\(v=false->W7 .i64 w/\V3 w s.L.length/\∃(x_2:(Sto×Int×Int)),let r:=(q.k==3&& !ownR x_2.1.L x_2.2.1 x_2.2.2);((q.k==3)=true->((yL s x_2.1)/\q.n=x_2.2.1/\t.id=x_2.2.2/\True)/\O6 x_2.1.L.length)/\(r=true->false=sN s.L t)/\(r=false->((q.p==0)=true->true=sN s.L t)/\((q.p==0)=false->∃(y:Chn s.L t),((L4 (q9 [some 0]) u u/\(0=0/\0=0)/\q.p=y.val.2/\True)/\z/\True)/\Lt y.val.1 x.val.1)))) ⟨⟨⟨(61,t.Z),Nat.succ_pos 60,rfl,.inr rfl⟩,⟨R2 _,Z8,Z9⟩,⟨rfl,rfl,rfl,Z9⟩,trivial⟩,λx=> ?_⟩
 obtain⟨⟨f,at_⟩,hf,he,hb⟩:=x;dsimp only at hf he hb ⊢;refine⟨(s,at_,t.id),⟨⟨(zE _),rfl,Z9⟩,by unfold O6;simp only;omega⟩,λho=> ?_,λho=> ?_⟩
 ·simp only[xP] at ho;rw[←he];cases hi:V9 at_ 1 s.L.length
  ·rfl
  ·obtain⟨q1,q2⟩:=Q1.1 hi;rw[lJ _ _ hf q1];unfold okR;rw[ho];rfl
 ·simp only[yT] at ho;obtain⟨q1,q2⟩:=t5 ho;have hi:V9 at_ 1 s.L.length=true:=Q1.2 ⟨q1,q2⟩;rw[hi,Bool.true_and,lJ _ _ hf q1] at he;obtain⟨p1,p2,_⟩:=hL.prev q1 q2;have eo:okR s.L t.id at_=((Z3 s.L at_).k !=3||ownR s.L (Z3 s.L at_).n t.id):=by unfold okR;rw[ho,Bool.true_and]
  refine⟨Z4 (by omega),⟨by omega,by omega⟩,(s,(Z3 s.L at_).n,t.id),λ_=>⟨⟨(zE _),rfl,Z9⟩,by unfold O6;simp only;omega⟩,λhk=> ?_,λhk=>⟨λh0=> ?_,λh0=> ?_⟩⟩
  ·have hk:((Z3 s.L at_).k==3&& !ownR s.L (Z3 s.L at_).n t.id)=true:=hk;rw[←he,eo];simp only[L3,xP,beq_iff_eq] at hk;rw[hk.1,hk.2];rfl
  ·have hk:((Z3 s.L at_).k==3&& !ownR s.L (Z3 s.L at_).n t.id)=false:=hk;have h0:(Z3 s.L at_).p=0:=beq_iff_eq.1 h0;have e2:okR s.L t.id at_=true:=by
    rw[eo,←yT,Bool.not_or,show(!((Z3 s.L at_).k !=3))=((Z3 s.L at_).k==3) by simp[bne]]
    exact hk
   rw[←he,e2,h0,a1I _ _ _ (Int.le_refl 0)];rfl
  ·have hk:((Z3 s.L at_).k==3&& !ownR s.L (Z3 s.L at_).n t.id)=false:=hk;have h0:(Z3 s.L at_).p≠0:=λh=>by
    have h0:((Z3 s.L at_).p==0)=false:=h0;rw[h] at h0;cases h0
   have e2:okR s.L t.id at_=true:=by
    rw[eo,←yT,Bool.not_or,show(!((Z3 s.L at_).k !=3))=((Z3 s.L at_).k==3) by simp[bne]]
    exact hk
   rw[e2,Bool.true_and] at he;refine⟨⟨(f-1,(Z3 s.L at_).p),by simp only;omega,?_,by simp only;omega⟩,⟨⟨R2 _,⟨rfl,rfl⟩,rfl,trivial⟩,⟨rfl,rfl,rfl,rfl,trivial⟩,trivial⟩,show f-1<f by omega⟩
   simp only;rw[Q1.2 (show 1<=(Z3 s.L at_).p/\(Z3 s.L at_).p<=(s.L.length:Int) by omega),Bool.true_and]
   exact he
def und(L:List Rec):Nat->Int->Nat
 |0,_=>0
 |f+1,at_=>if at_<=0 then 0 else if(Z3 L at_).k=3 then und L f (Z3 L at_).n else(if(Z3 L at_).k=2 then 1 else 0)+und L f (Z3 L at_).p
def lI(m:Nat):Option Ob:=some (.arr true 1000000 1 1 λ_=>[.int .i64 m])
def b22:Con:=.reff ⟨Rec×Nat,λx=>[.agg x.1.ts,.ref 0 0 0],λx=>[lI x.2],λ_=>.bool true,λx=>[lI (x.2+1)],λx=>x.2<1000⟩
theorem a7P:GK 198 b22:=gk Tryz.func198<|by
 rintro⟨r,m⟩ (h:m<1000);exact vcE gN Tryz.func198 Y5 (bs:=[true]) (α:=W7 .i64 ((m:Int)+1)/\true=true/\(1=1/\1=1/\(m:Int)+1=(↑(m+1):Int)/\True)/\True) ⟨Z4 (by omega),rfl,⟨rfl,rfl,by omega,trivial⟩,trivial⟩
def oL(L:List Rec)(at_:Int):Prop:=q8 L/\at_<=(L.length:Int)
def a8g:Con:=.reff ⟨Sto×Int,λx=>[.bref x.1.ts,.int .i64 x.2,.fn (.func 198) [.ref 0 0 0]],λ_=>[lI 1],λ_=>.tup [],λx=>[lI (1+und x.1.L 61 x.2)],λx=>oL x.1.L x.2⟩
def Und(L:List Rec)(from_:Int):Type:={x:Nat×Int×Nat//x.2.2+und L x.1 x.2.1=1+und L 61 from_/\x.2.1<=(L.length:Int)/\x.2.1.toNat<x.1/\x.2.2+x.1<=100}
def a8G(s:Sto)(from_:Int):Nat->Ann
 |0=>.one (Und s.L from_) (λx=>⟨[(0,.bref s.ts),(1,.int .i64 x.1.2.1),(2,.fn (.func 198) [.ref 0 0 0])],[lI x.1.2.2]⟩) (λx=>x.1.1) [.box 0] [.box 0] (λ_=>Y5)
 |_=>.none
theorem bH(L:List Rec):∀(f:Nat) (at_:Int),und L f at_<=f:=by
 intro f;induction f with
 |zero=>intro at_;exact W4 0
 |succ f ih=>
  intro at_;unfold und;split
  ·omega
  ·split
   ·have:=ih (Z3 L at_).n;omega
   ·have:=ih (Z3 L at_).p;split<;>omega
theorem mJ{L:List Rec}{f:Nat}{at_:Int}(h:0<at_)(hf:at_.toNat<f)(hk:(Z3 L at_).k=3):und L f at_=und L (f-1) (Z3 L at_).n:=by
 obtain⟨g,rfl⟩:∃g,f=g+1:=⟨f-1,by omega⟩
 conv=>lhs;unfold und
 rw[if_neg (by omega),if_pos hk]
 rfl
theorem tU{L:List Rec}{f:Nat}{at_:Int}(h:0<at_)(hf:at_.toNat<f)(hk:(Z3 L at_).k≠3):und L f at_=(if(Z3 L at_).k=2 then 1 else 0)+und L (f-1) (Z3 L at_).p:=by
 obtain⟨g,rfl⟩:∃g,f=g+1:=⟨f-1,by omega⟩
 conv=>lhs;unfold und
 rw[if_neg (by omega),if_neg hk]
 rfl
theorem qW{L:List Rec}{f:Nat}{at_:Int}(h:at_<=0):und L f at_=0:=by
 cases f with
 |zero=>rfl
 |succ f=>unfold und;rw[if_pos h]
theorem a4T:GK 197 a8g:=gk Tryz.func197<|by
 rintro⟨s,from_⟩ ⟨hL,hl⟩;dsimp only at hL hl;have h60:=hL.1;refine vcE (gC a7P gN) Tryz.func197 (a8G s from_) (bs:=[true]) (α:=let m:=(↑(1+und s.L 61 from_):Int);let j:=(q9 [some 0]);let z:=(T.bref s.ts);let r:=(Fn.func 198=Fn.func 198/\(0=0/\0=0)/\True);(∃(x:Und s.L from_),(L4 j z z/\from_=x.val.2.1/\r/\True)/\(1=1/\1=1/\1=(x.val.2.2:Int)/\True)/\True)/\∀(x:Und s.L from_),let v:=x.val.2;let d:=(v.2:Int);let c:=(v.1- (1:Int));let u:=(1=1/\1=1/\d=m/\True);let q:=(s.L.getD c.toNat dz);let w:=(q.k==2&&false);(decide (v.1>(0:Int))=true->W7 .i64 c/\V3 c s.L.length/\((q.k==3)=true->∃(y:Und s.L from_),((L4 j z z/\q.n=y.val.2.1/\r/\True)/\(1=1/\1=1/\d=(y.val.2.2:Int)/\True)/\True)/\Lt y.val.1 x.val.1)/\((q.k==3)=false->∃(x_1:(Rec×Nat)),let i:=(↑(x_1.2+1):Int);let f:=x_1.1;((q.k==2)=true->((q.e=f.e/\q.l=f.l/\q.t=f.t/\q.k=f.k/\q.p=f.p/\q.n=f.n/\q.g=f.g/\q.s=f.s/\q.b=f.b/\q.a=f.a/\True)/\(0=0/\0=0)/\True)/\((1=1/\Z6 1 (λ(x_2:Nat)=>[T.int .i64 d]) λ(x:Nat)=>[T.int .i64 (x_1.2:Int)])/\True)/\x_1.2<1000)/\((q.k==2)=true->(w=true->True/\(1=1/\1=1/\i=m/\True)/\True)/\(w=false->∃(y:Und s.L from_),((L4 j z z/\q.p=y.val.2.1/\r/\True)/\(1=1/\1=1/\i=(y.val.2.2:Int)/\True)/\True)/\Lt y.val.1 x.val.1))/\(((q.k==2)=true->False)->(w=true->True/\u/\True)/\(w=false->∃(y:Und s.L from_),((L4 j z z/\q.p=y.val.2.1/\r/\True)/\(1=1/\1=1/\d=(y.val.2.2:Int)/\True)/\True)/\Lt y.val.1 x.val.1))))/\(decide (v.1>(0:Int))=false->True/\u/\True)) ⟨⟨⟨(61,from_,1),rfl,hl,by dsimp only;omega,by dsimp only;omega⟩,⟨R2 _,rfl,⟨rfl,⟨rfl,rfl⟩,trivial⟩,trivial⟩,⟨rfl,rfl,rfl,trivial⟩,trivial⟩,λx=> ?_⟩
 obtain⟨⟨f,at_,m⟩,he,hle,hf,hm⟩:=x;dsimp only at he hle hf hm ⊢;refine⟨λhc=> ?_,λhc=> ?_⟩
 ·have h0:at_>0:=C7 hc;obtain⟨p1,p2,p3,p4⟩:=hL.prev (show 1<=at_ by omega) hle
  refine⟨Z4 (by omega),⟨by omega,by omega⟩,λhk=> ?_,λhk=> ?_⟩
  ·have hk:(Z3 s.L at_).k=3:=beq_iff_eq.1 hk;rw[mJ h0 hf hk] at he;exact⟨⟨(f-1,(Z3 s.L at_).n,m),he,by dsimp only;omega,by dsimp only;omega,by dsimp only;omega⟩,⟨⟨R2 _,rfl,⟨rfl,⟨rfl,rfl⟩,trivial⟩,trivial⟩,⟨rfl,rfl,rfl,trivial⟩,trivial⟩,show f-1<f by omega⟩
  ·have hk:(Z3 s.L at_).k≠3:=λh=>by
    have hk:((Z3 s.L at_).k==3)=false:=hk;rw[h] at hk;cases hk
   rw[tU h0 hf hk] at he;refine⟨(Z3 s.L at_,m),λ_=>⟨⟨⟨rfl,rfl,rfl,rfl,rfl,rfl,rfl,rfl,rfl,Z9⟩,U3⟩,X5,by dsimp only;omega⟩,λh2=>⟨λhh=> ?_,λ_=> ?_⟩,λh2=>⟨λhh=> ?_,λ_=> ?_⟩⟩
   ·rw[Bool.and_false] at hh;cases hh
   ·have h2:(Z3 s.L at_).k=2:=beq_iff_eq.1 h2;rw[if_pos h2] at he;exact⟨⟨(f-1,(Z3 s.L at_).p,m+1),by dsimp only;omega,by dsimp only;omega,by dsimp only;omega,by dsimp only;omega⟩,⟨⟨R2 _,rfl,⟨rfl,⟨rfl,rfl⟩,trivial⟩,trivial⟩,⟨rfl,rfl,rfl,trivial⟩,trivial⟩,show f-1<f by omega⟩
   ·rw[Bool.and_false] at hh;cases hh
   ·have h2:¬ (Z3 s.L at_).k=2:=λh=>h2 (beq_iff_eq.2 h)
    rw[if_neg h2] at he;exact⟨⟨(f-1,(Z3 s.L at_).p,m),by dsimp only;omega,by dsimp only;omega,by dsimp only;omega,by dsimp only;omega⟩,⟨⟨R2 _,rfl,⟨rfl,⟨rfl,rfl⟩,trivial⟩,trivial⟩,⟨rfl,rfl,rfl,trivial⟩,trivial⟩,show f-1<f by omega⟩
 ·have h0:at_<=0:=by have:=l7 hc;omega
  rw[qW h0] at he;exact⟨trivial,⟨rfl,rfl,by omega,trivial⟩,trivial⟩
def b2P:Con:=.rel ⟨Sto×Int,λx=>[.bref x.1.ts,.int .i64 x.2],λx=>.int .i64 ((1+und x.1.L 61 x.2:Nat):Int),λx=>oL x.1.L x.2⟩
theorem a8J:GK 96 b2P:=gk Tryz.func96<|by
 rintro⟨s,from_⟩ h;exact Q5 (gC a4T gN) Tryz.func96 Y5 (α:=∃(x:(Sto×Int)),(((yL s x.1)/\from_=x.2/\(Fn.func 198=Fn.func 198/\(0=0/\0=0)/\True)/\True)/\((1=1/\Z6 1 (setRow (λ(x:Nat)=>[T.int .i64 0]) 0 0 [T.int .i64 1]) λ(x:Nat)=>[T.int .i64 1])/\True)/\oL x.1.L x.2)/\(↑(1+und x.1.L 61 x.2):Int)=(↑(1+und s.L 61 from_):Int)) ⟨(s,from_),⟨⟨(zE _),rfl,⟨rfl,U3⟩,trivial⟩,⟨⟨rfl,λi hi=>by(obtain rfl:i=0:=by omega);rfl⟩,trivial⟩,h⟩,rfl⟩
def b18:Con:=.rel ⟨Bool,λb=>[.bool b],λb=>.int .i64 (if b then 1 else 0),λ_=>True⟩
theorem b16(b:Bool)(h:
  (b=true->(1:Int)=if b=true then(1:Int) else(0:Int))/\(b=false->(0:Int)=if b=true then(1:Int) else(0:Int))):
  U1 Tryz.prog 204 [.bool b] (.int .i64 (if b then 1 else 0)):=
 Q5 gN Tryz.func204 Y5 h
theorem a8N:GK 204 b18:=gk Tryz.func204<|λb _=>b16 b ⟨λh=>by rw[if_pos h],λh=>by rw[h];rfl⟩
def a9l:Con:=.rel ⟨Sto×Int,λx=>[.agg x.1.ts,.int .i64 x.2],λx=>.int .i64 ((1+und x.1.L 61 x.2:Nat):Int),λx=>oL x.1.L x.2⟩
def a7M(s:Sto)(from_:Int):Nat->Ann
 |0=>.one (Und s.L from_) (λx=>⟨[(1,.int .i64 x.1.2.1),(2,.ref 0 0 0),(5,.int .i64 x.1.2.2)],[kY s]⟩) (λx=>x.1.1) [.box 0] [.box 0] (λ_=>Y5)
 |_=>.none
theorem a4Q:GK 101 a9l:=gk Tryz.func101<|by
 rintro⟨s,from_⟩ ⟨hL,hl⟩;dsimp only at hL hl;have h60:=hL.1;refine Q5 (gC a8N gN) Tryz.func101 (a7M s from_) (α:=let j:=(0=0/\0=0);let u:=(1=1/\1=1/\yL s s);(∃(x:Und s.L from_),(from_=x.val.2.1/\j/\1=(x.val.2.2:Int)/\True)/\u/\True)/\∀(x:Und s.L from_),let w:=(x.val.2.1>(0:Int));let v:=(x.val.2.2:Int);let z:=(x.val.2.1- (1:Int));let q:=(s.L.getD z.toNat dz);(decide w=true->W7 .i64 z/\V3 z s.L.length/\((q.k==3)=true->∃(y:Und s.L from_),((q.n=y.val.2.1/\j/\v=(y.val.2.2:Int)/\True)/\u/\True)/\Lt y.val.1 x.val.1)/\((q.k==3)=false->∃(x_1:Bool),let r:=(v+if x_1=true then(1:Int) else(0:Int));(((q.k==2)=x_1/\True)/\True)/\W7 .i64 r/\∃(y:Und s.L from_),((q.p=y.val.2.1/\j/\r=(y.val.2.2:Int)/\True)/\u/\True)/\Lt y.val.1 x.val.1))/\(decide w=false->v=(↑(1+und s.L 61 from_):Int))) ⟨⟨⟨(61,from_,1),rfl,hl,by dsimp only;omega,by dsimp only;omega⟩,⟨rfl,⟨rfl,rfl⟩,rfl,trivial⟩,⟨rfl,rfl,zE _⟩,trivial⟩,λx=> ?_⟩
 obtain⟨⟨f,at_,m⟩,he,hle,hf,hm⟩:=x;dsimp only at he hle hf hm ⊢;refine⟨λhc=> ?_,λhc=> ?_⟩
 ·have h0:at_>0:=C7 hc;obtain⟨p1,p2,p3,p4⟩:=hL.prev (show 1<=at_ by omega) hle
  refine⟨Z4 (by omega),⟨by omega,by omega⟩,λhk=> ?_,λhk=> ?_⟩
  ·have hk:(Z3 s.L at_).k=3:=beq_iff_eq.1 hk;rw[mJ h0 hf hk] at he;exact⟨⟨(f-1,(Z3 s.L at_).n,m),he,by dsimp only;omega,by dsimp only;omega,by dsimp only;omega⟩,⟨⟨rfl,⟨rfl,rfl⟩,rfl,trivial⟩,⟨rfl,rfl,zE _⟩,trivial⟩,show f-1<f by omega⟩
  ·have hk:(Z3 s.L at_).k≠3:=λh=>by
    have hk:((Z3 s.L at_).k==3)=false:=hk;rw[h] at hk;cases hk
   rw[tU h0 hf hk] at he;have hn:und s.L (f-1) (Z3 s.L at_).p<=f-1:=bH _ _ _;refine⟨(Z3 s.L at_).k==2,⟨Z9,trivial⟩,?_,?_⟩
   ·split<;>exact Z4 (by omega)
   ·by_cases h2:(Z3 s.L at_).k=2
    ·rw[if_pos h2] at he;rw[if_pos (by simpa using h2)]
     exact⟨⟨(f-1,(Z3 s.L at_).p,m+1),by dsimp only;omega,by dsimp only;omega,by dsimp only;omega,by dsimp only;omega⟩,⟨⟨rfl,⟨rfl,rfl⟩,rfl,trivial⟩,⟨rfl,rfl,zE _⟩,trivial⟩,show f-1<f by omega⟩
    ·rw[if_neg h2] at he;rw[if_neg (by simpa using h2)]
     exact⟨⟨(f-1,(Z3 s.L at_).p,m),by dsimp only;omega,by dsimp only;omega,by dsimp only;omega,by dsimp only;omega⟩,⟨⟨rfl,⟨rfl,rfl⟩,by dsimp only;omega,trivial⟩,⟨rfl,rfl,zE _⟩,trivial⟩,show f-1<f by omega⟩
 ·have h0:at_<=0:=by have:=l7 hc;omega
  rw[qW h0] at he;show(m:Int)=_;omega
end Go.Proofs.YtghgljelnhfihaaGreat

