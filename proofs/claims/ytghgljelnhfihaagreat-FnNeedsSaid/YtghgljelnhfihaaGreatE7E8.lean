/- A part of the proof. -/
import Derived.Test.YtghgljelnhfihaaGreatE4E5E6
namespace Go.Proofs.YtghgljelnhfihaaGreat
set_option maxRecDepth 100000
open Go.SS

structure Frm where
 no:Int
 pg:Pg
 D:Bool
 first:Int
 deriving Inhabited
def Frm.ts(f:Frm):List T:=[.int .i64 f.no,.int .i64 f.pg.Q,xM f.pg.sl,.bool f.D,.int .i64 f.first]
structure Sto where
 d:Dsk
 ep:Int
 L:List Rec
 S:Int
 fr:List Frm
 J:Int
 deriving Inhabited
def X2(L:List Frm)(i:Nat):List T:=(L.getD i dz).ts
def a3D(L:List Frm):T:=.sl 5 L.length (X2 L)
def Sto.ts(s:Sto):List T:=[xM s.d.E,sR s.d.C,.bool s.d.A,a5E s.d.keep,.int .i64 s.ep,nI s.L,.int .i64 s.S,a3D s.fr,.int .i64 s.J]
abbrev yL(a b:Sto):Prop:=(a.d.E.length=b.d.E.length/\Z6 a.d.E.length (Z5 a.d.E) (Z5 b.d.E))/\(a.d.C.length=b.d.C.length/\Z6 a.d.C.length (Y9 a.d.C) (Y9 b.d.C))/\a.d.A=b.d.A/\(a.d.keep.length=b.d.keep.length/\Z6 a.d.keep.length (Y6 a.d.keep) (Y6 b.d.keep))/\a.ep=b.ep/\(a.L.length=b.L.length/\Z6 a.L.length (Y3 a.L) (Y3 b.L))/\a.S=b.S/\(a.fr.length=b.fr.length/\Z6 a.fr.length (X2 a.fr) (X2 b.fr))/\a.J=b.J/\True
theorem zE(s:Sto):yL s s:=⟨Z7,Z7,rfl,Z7,rfl,Z7,rfl,Z7,Z9⟩
def kY(s:Sto):Option Ob:=some (.arr true 1000000 9 1 λ_=>s.ts)
noncomputable def T6(d:Dsk)(no:Nat):Pg×Bool:=if U6 d (1+no)=[] then(⟨0,[[],[],[],[]]⟩,true) else I7 no (U6 d (1+no))
noncomputable def T0(d:Dsk)(no:Nat):Pg×Bool:=if U6 d (1+no)=[] then(⟨0,[[],[],[],[]]⟩,true) else(P3 no (U6 d (1+no)),(I7 no (U6 d (1+no))).2)
theorem kI(d:Dsk)(no:Nat):(T0 d no).2=(T6 d no).2/\((T6 d no).2=true->T0 d no=T6 d no):=by
 unfold T0 T6;by_cases h:U6 d (1+no)=[]
 ·rw[if_pos h,if_pos h];exact⟨rfl,λ_=>rfl⟩
 ·rw[if_neg h,if_neg h];refine⟨rfl,λh2=> ?_⟩
  unfold P3;rw[if_pos h2]
def dF(x:Dsk×Nat):Prop:=G5 x.1/\1+x.2<x.1.E.length
theorem pY{d:Dsk}(h:G5 d){at_:Nat}(ha:at_<d.E.length):(U6 d at_).length<=160:=by
 obtain⟨_,_,_,_,_,h1,h2⟩:=h;have key:∀n,n<=d.C.length->∀l,L0 d.C at_ n=some l->l.length<=160:=by
  intro n;induction n with
  |zero=>intro _ l hl;cases hl
  |succ n ih=>
   intro hn l hl;unfold L0 at hl;split at hl
   ·simp only[W8] at hl;subst hl;have:=h2 n (by omega)
    unfold P7 at this;simp only[yP,rX] at this;omega
   ·exact ih (by omega) l hl
 unfold U6;cases hl:L0 d.C at_ d.C.length with
 |none=>exact h1 at_ ha
 |some l=>exact key _ (W4 _) l hl
noncomputable def iQ:Rl:=⟨Sto×Nat,λx=>[.bref x.1.ts,.int .i64 x.2],λx=>.tup [.agg (T0 x.1.d x.2).1.ts,.bool (T0 x.1.d x.2).2],λx=>dF (x.1.d,x.2)⟩
noncomputable def a3T:Con:=.rel iQ
noncomputable def dX:Rl:=⟨Dsk×Nat,λx=>[.agg x.1.ts,.int .i64 x.2],λx=>.tup [.agg (T6 x.1 x.2).1.ts,.bool (T6 x.1 x.2).2],dF⟩
noncomputable def a80:Con:=.rel dX
theorem eR(d:Dsk)(no:Nat)(h:
  W7 .i64 ((1:Int)+(no:Int))/\∃(x:rT.ι),(((yM d x.1)/\(1:Int)+(no:Int)=(x.2:Int)/\True)/\AtB x)/\((U6 x.1 x.2==[])=true->∃(x:tY.ι),(True/\True)/\((0:Int)=(T6 d no).1.Q/\
  (4=(T6 d no).1.sl.length/\Z6 4 (Z5 [[],[],[],[]]) (Z5 (T6 d no).1.sl))/\True)/\true=(T6 d no).2/\True)/\((U6 x.1 x.2==[])=false->∃(x_1:gE.ι),(((no:Int)=x_1.1/\U6
  x.1 x.2=x_1.2/\True)/\RdB x_1.2)/\((I7 x_1.1 x_1.2).1.Q=(T6 d no).1.Q/\(Y8 Z5 (I7 x_1.1 x_1.2).1.sl (T6 d no).1.sl)/\True)/\(I7 x_1.1 x_1.2).2=(T6 d no).2/\True)):
  U1 Tryz.prog 201 [.agg d.ts,.int .i64 no] (.tup [.agg (T6 d no).1.ts,.bool (T6 d no).2]):=
 Q5 (gC jL (gC a1y (gC a5f gN))) Tryz.func201 Y5 h
def pB(L:List Frm)(no:Int)(i:Nat):Bool:=(L.getD i dz).no==no
def frAt(L:List Frm)(no:Int):Int:=P9 L.length (pB L no)
def noF(no:Int):T:=.fn (.func 295) [.bref [.int .i64 no]]
def lU:Rl:=⟨Frm×Int,λx=>[.agg x.1.ts,.bref [.int .i64 x.2]],λx=>.bool (x.1.no==x.2),λ_=>True⟩
def a3P:Con:=.rel lU
theorem a3z(f:Frm)(no:Int)(h:
  (f.no==no)=(f.no==no)):
  U1 Tryz.prog 295 [.agg f.ts,.bref [.int .i64 no]] (.bool (f.no==no)):=
 Q5 gN Tryz.func295 Y5 h
theorem a1n:GK 295 a3P:=gk Tryz.func295<|λx _=>a3z x.1 x.2 rfl
def a24:Rl:=⟨List Frm×Int,λx=>[a3D x.1,noF x.2],λx=>.int .i64 (frAt x.1 x.2),λx=>O6 x.1.length⟩
def b0X:Con:=.rel a24
def b2C(L:List Frm)(no:Int):Nat->Ann
 |0=>.one (V1 L.length (pB L no)) (λx=>⟨[(0,a3D L),(1,noF no),(7,.int .i64 L.length),(8,.int .i64 x.1)],[]⟩) (λx=>L.length-x.1) [] [] (λ_=>Y5)
 |_=>.none
theorem a9H:GK 294 b0X:=gk Tryz.func294<|by
 rintro⟨L,no⟩ (hL:L.length<1000000000000);refine Q5 (gC a1n gN) Tryz.func294 (b2C L no) (α:=let r:=(L.length:Int);let q:=(T.bref [T.int .i64 no]);(∃(x:V1 L.length (pB L no)),((Y8 X2 L L)/\(Fn.func 295=Fn.func 295/\L4 (λ(x:Nat)=>none) q q/\True)/\r=r/\0=(x.val:Int)/\True)/\True)/\∀(x:V1 L.length (pB L no)),let z:=(x.val:Int);let p:=(L.getD z.toNat dz);(decide (z<r)=true->V3 z L.length/\∃(x_1:lU.ι),let u:=x_1.1;(((p.no=u.no/\p.pg.Q=u.pg.Q/\(Y8 Z5 p.pg.sl u.pg.sl)/\p.D=u.D/\p.first=u.first/\True)/\(no=x_1.2/\True)/\True)/\True)/\((u.no==x_1.2)=true->z=frAt L no)/\((u.no==x_1.2)=false->W7 .i64 (z+1)/\∃(y:V1 L.length (pB L no)),(((Y8 X2 L L)/\(Fn.func 295=Fn.func 295/\L4 (λ(x:Nat)=>none) q q/\True)/\r=r/\z+1=(y.val:Int)/\True)/\True)/\Lt (L.length-y.val) (L.length-x.val)))/\(decide (z<r)=false->(-1:Int)=frAt L no)) ⟨⟨F7,⟨Z7,⟨rfl,R2 _,trivial⟩,rfl,Z9⟩,trivial⟩,λx=>⟨λhc=> ?_,λhc=> ?_⟩⟩
 ·have hlt:=X6 hc;refine⟨X8 hlt,(L.getD x.val dz,no),⟨⟨⟨rfl,rfl,Z7,rfl,Z9⟩,Z9,trivial⟩,trivial⟩,λhp=>(M6 hlt hp x.2.2).symm,λhp=>⟨U5 hlt (by omega),x.succ hlt hp,⟨⟨Z7,⟨rfl,R2 _,trivial⟩,rfl,by simp only[V1.succ];omega,trivial⟩,trivial⟩,V1.ext_lt hlt⟩⟩
 ·have hge:=X4 hc;exact(J1 λj hj=>x.2.2 j (wM hj hge)).symm
def tM:Rl:=⟨Sto×Int,λx=>[.bref x.1.ts,.int .i64 x.2],λx=>.int .i64 (frAt x.1.fr x.2),λx=>O6 x.1.fr.length⟩
def b0a:Con:=.rel tM
def wE:Rl:=⟨Sto×Int,λx=>[.agg x.1.ts,.int .i64 x.2],λx=>.int .i64 (frAt x.1.fr x.2),λx=>O6 x.1.fr.length⟩
def a3o:Con:=.rel wE
def a3B(s:Sto)(no:Int):Nat->Ann
 |0=>.one (V1 s.fr.length (pB s.fr no)) (λx=>⟨[(1,.int .i64 no),(2,.ref 0 0 0),(5,.int .i64 x.1)],[kY s]⟩) (λx=>s.fr.length-x.1) [.box 0] [.box 0] (λ_=>Y5)
 |_=>.none
theorem sJ:GK 219 b0a:=gk Tryz.func219<|by
 rintro⟨s,no⟩ hL;exact Q5 (gC a9H gN) Tryz.func219 Y5 (α:=∃(x:a24.ι),(((Y8 X2 s.fr x.1)/\(Fn.func 295=Fn.func 295/\(no=x.2/\True)/\True)/\True)/\O6 x.1.length)/\frAt x.1 x.2=frAt s.fr no) ⟨(s.fr,no),⟨⟨Z7,⟨rfl,Z9,trivial⟩,trivial⟩,hL⟩,rfl⟩
theorem uL:GK 153 a3o:=gk Tryz.func153<|by
 rintro⟨s,no⟩ (hL:s.fr.length<1000000000000);refine Q5 gN Tryz.func153 (a3B s no) (α:=let z:=(1=1/\1=1/\yL s s);(∃(x:V1 s.fr.length (pB s.fr no)),(no=no/\(0=0/\0=0)/\0=(x.val:Int)/\True)/\z/\True)/\∀(x:V1 s.fr.length (pB s.fr no)),let p:=(x.val:Int);let r:=(p<(s.fr.length:Int));let q:=((s.fr.getD p.toNat dz).no==no);(decide r=true->V3 p s.fr.length/\(q=true->p=frAt s.fr no)/\(q=false->W7 .i64 (p+1)/\∃(y:V1 s.fr.length (pB s.fr no)),((no=no/\(0=0/\0=0)/\p+1=(y.val:Int)/\True)/\z/\True)/\Lt (s.fr.length-y.val) (s.fr.length-x.val)))/\(decide r=false->(-1:Int)=frAt s.fr no)) ⟨⟨F7,⟨rfl,Z8,Z9⟩,⟨rfl,rfl,zE _⟩,trivial⟩,λx=>⟨λhc=> ?_,λhc=> ?_⟩⟩
 ·have hlt:=X6 hc;exact⟨X8 hlt,λhp=>(M6 hlt hp x.2.2).symm,λhp=>⟨U5 hlt (by omega),x.succ hlt hp,⟨⟨rfl,Z8,by simp only[V1.succ];omega,trivial⟩,⟨rfl,rfl,zE _⟩,trivial⟩,V1.ext_lt hlt⟩⟩
 ·have hge:=X4 hc;exact(J1 λj hj=>x.2.2 j (wM hj hge)).symm
theorem eK(no:Int)(t:List UInt8):(L7 no t==(0:Int))=(I7 no t).2:=by
 unfold L7;cases hu:S3 t
 ·have:(I7 no t).2=false:=by unfold I7;rw[hu];rfl
  rw[this];rfl
 ·cases h:(I7 no t).2<;>rfl
theorem a1T:GK 142 a3T:=gk Tryz.func142<|by
 rintro⟨s,no⟩ ⟨hd,hn⟩;simp only at hd hn;have hle:=pY hd hn;obtain⟨q1,q2,q3,_⟩:=hd;refine Q5 (gC jK (gC a1M (gC a1x gN))) Tryz.func142 Y5 (α:=let p:=(T0 s.d no);W7 .i64 (1+(no:Int))/\∃(x:rT.ι),(((yM s.d x.1)/\1+(no:Int)=(x.2:Int)/\True)/\AtB x)/\((U6 x.1 x.2==[])=true->∃(x:tY.ι),(True/\True)/\(0=p.1.Q/\(4=p.1.sl.length/\Z6 4 (Z5 [[],[],[],[]]) (Z5 p.1.sl))/\True)/\true=p.2/\True)/\((U6 x.1 x.2==[])=false->Lt (U6 x.1 x.2).length 140737488355329/\∃(x_1:lC.ι),(((no:Int)=x_1.1/\U6 x.1 x.2=x_1.2/\True)/\RdB x_1.2)/\((P3 x_1.1 x_1.2).Q=p.1.Q/\(Y8 Z5 (P3 x_1.1 x_1.2).sl p.1.sl)/\True)/\(L7 x_1.1 x_1.2==(0:Int))=p.2/\True)) ⟨Z4 (by omega),(s.d,1+no),⟨⟨(uX _),by simp only;omega,trivial⟩,hn,by simp only;omega⟩,λh=>⟨(),A7,?_⟩,λh=>⟨by unfold Lt;simp only;omega,((no:Int),U6 s.d (1+no)),⟨⟨rfl,rfl,trivial⟩,by show(U6 s.d (1+no)).length<=1000;omega⟩,?_⟩⟩
 ·have h:U6 s.d (1+no)=[]:=by simpa using h
  have e:T0 s.d no=(⟨0,[[],[],[],[]]⟩,true):=by unfold T0;rw[if_pos h]
  rw[e];exact⟨⟨rfl,X5⟩,Z9⟩
 ·have h:U6 s.d (1+no)≠[]:=by simpa using h
  have e:T0 s.d no=(P3 no (U6 s.d (1+no)),(I7 no (U6 s.d (1+no))).2):=by unfold T0;rw[if_neg h]
  rw[e];exact⟨⟨rfl,X5⟩,eK _ _,trivial⟩
theorem a4b:GK 201 a80:=gk Tryz.func201<|by
 rintro⟨d,no⟩ ⟨hd,hn⟩;simp only at hd hn;have hle:=pY hd hn;obtain⟨q1,q2,q3,_⟩:=hd;refine eR d no ⟨Z4 (by omega),(d,1+no),⟨⟨(uX _),by simp only;omega,trivial⟩,hn,by simp only;omega⟩,λh=>⟨(),A7,?_⟩,λh=>⟨((no:Int),U6 d (1+no)),⟨⟨rfl,Z9⟩,by show(U6 d (1+no)).length<=1000;omega⟩,?_⟩⟩
 ·have h:U6 d (1+no)=[]:=by simpa using h
  have e:T6 d no=(⟨0,[[],[],[],[]]⟩,true):=by unfold T6;rw[if_pos h]
  rw[e];exact⟨⟨rfl,X5⟩,Z9⟩
 ·have h:U6 d (1+no)≠[]:=by simpa using h
  have e:T6 d no=I7 no (U6 d (1+no)):=by unfold T6;rw[if_neg h]
  rw[e];exact⟨⟨rfl,X5⟩,Z9⟩
noncomputable def i7(s:Sto)(i:Nat):Bool:=
 !V9 (s.fr.getD i dz).no 0 7||frAt s.fr (s.fr.getD i dz).no !=(i:Int)|| !A2 (s.fr.getD i dz).pg||decide ((s.fr.getD i dz).pg.Q>(s.L.length:Int))|| !V9 (s.fr.getD i dz).first 0 s.L.length||
  decide ((s.fr.getD i dz).first>0) !=(s.fr.getD i dz).D
noncomputable def j3(s:Sto):Bool:= !anyI s.fr.length (i7 s)&&decide ((s.fr.length:Int)<=3)
def FrB(L:List Frm):Prop:=O6 L.length/\∀i,i<L.length->PgB (L.getD i dz).pg
def c1G(s:Sto):Prop:=FrB s.fr/\O6 s.L.length
noncomputable def jI:Rl:=⟨Sto,λs=>[.bref s.ts],λs=>.bool (j3 s),c1G⟩
noncomputable def a4F:Con:=.rel jI
noncomputable def a4G(s:Sto):Nat->Ann
 |0=>.one (V1 s.fr.length (i7 s)) (λx=>⟨[(0,.bref s.ts),(8,a3D s.fr),(9,.int .i64 s.fr.length),(10,.int .i64 x.1)],[]⟩) (λx=>s.fr.length-x.1) [] [] (λ_=>Y5)
 |_=>.none
theorem b9s(n:Int):(decide (0<=n)&&decide (n<8))=V9 n 0 7:=by
 unfold V9;rw[show decide (n<8)=decide (n<=7) from decide_eq_decide.2 (by omega)]
theorem a2p:GK 143 a4F:=gk Tryz.func143<|by
 rintro(s:Sto) ⟨⟨h1,h2⟩,h3⟩;have h1:s.fr.length<1000000000000:=h1;have h3:s.L.length<1000000000000:=h3;refine Q5 (gC vM (gC sJ (gC sL (gC M5 gN)))) Tryz.func143 (a4G s) (α:=let v:=(T.bref s.ts);let r:=(s.fr.length:Int);(∃(x:V1 s.fr.length (i7 s)),(L4 (λ(x:Nat)=>none) v v/\(Y8 X2 s.fr s.fr)/\r=r/\0=(x.val:Int)/\True)/\True)/\∀(x:V1 s.fr.length (i7 s)),let u:=(x.val:Int);let p:=(s.fr.getD u.toNat dz);let z:=(decide (0<=p.no)&&decide (p.no<8));(decide (u<r)=true->V3 u s.fr.length/\l8 (8:Int)/\∃(x_1:tM.ι),((! z)=false->((yL s x_1.1)/\p.no=x_1.2/\True)/\O6 x_1.1.fr.length)/\∃(x_2:yV.ι),let q:=(! z||frAt x_1.1.fr x_1.2 !=u|| !A2 x_2||decide (p.pg.Q>(s.L.length:Int))|| !V9 p.first (0:Int) (s.L.length:Int)|| !decide (p.first>0)==p.D);((! z||frAt x_1.1.fr x_1.2 !=u)=false->((p.pg.Q=x_2.Q/\(Y8 Z5 p.pg.sl x_2.sl)/\True)/\True)/\PgB x_2)/\(q=true->false=j3 s)/\(q=false->W7 .i64 (u+1)/\∃(y:V1 s.fr.length (i7 s)),((L4 (λ(x:Nat)=>none) v v/\(Y8 X2 s.fr s.fr)/\r=r/\u+1=(y.val:Int)/\True)/\True)/\Lt (s.fr.length-y.val) (s.fr.length-x.val)))/\(decide (u<r)=false->decide (r<=3)=j3 s)) ⟨⟨F7,⟨R2 _,Z7,rfl,Z9⟩,trivial⟩,λx=>⟨λhc=> ?_,λhc=> ?_⟩⟩
 ·have hlt:=X6 hc;rw[b9s,F5];have e:(!V9 (s.fr.getD x.val dz).no 0 7||frAt s.fr (s.fr.getD x.val dz).no !=(x.val:Int)|| !A2 (s.fr.getD x.val dz).pg||decide ((s.fr.getD x.val dz).pg.Q>(s.L.length:Int))||
    !V9 (s.fr.getD x.val dz).first 0 s.L.length|| !decide ((s.fr.getD x.val dz).first>0)==(s.fr.getD x.val dz).D)=i7 s x.val:=rfl
  refine⟨X8 hlt,⟨by omega,by omega⟩,(s,(s.fr.getD x.val dz).no),λ_=>⟨⟨(zE _),Z9⟩,h1⟩,(s.fr.getD x.val dz).pg,λ_=>⟨⟨⟨rfl,X5⟩,trivial⟩,h2 _ hlt⟩,λhb=> ?_,λhb=>⟨U5 hlt (by omega),x.succ hlt (e.symm.trans hb),⟨⟨R2 _,Z7,rfl,by simp only[V1.succ];omega,trivial⟩,trivial⟩,V1.ext_lt hlt⟩⟩
  have:anyI s.fr.length (i7 s)=true:=Q9.2 ⟨x.val,hlt,e.symm.trans hb⟩;unfold j3;rw[this];rfl
 ·have hge:=X4 hc;have:anyI s.fr.length (i7 s)=false:=Q8.2 λi hi=>x.2.2 i (wM hi hge)
  unfold j3;rw[this];simp
def k9(L:List Rec)(i:Nat):Int:=if i=0 then 1 else(L.getD (i-1) dz).e
def xC(s:Sto)(i:Nat):Bool:= !V9 (s.L.getD i dz).e (k9 s.L i) s.ep
noncomputable def l9(s:Sto)(no:Nat):Bool:= !(T6 s.d no).2||decide ((T6 s.d no).1.Q>s.S)
noncomputable def rR(s:Sto):Bool:= !t9 s.d||((s.d.E.length:Nat):Int) !=69|| !V9 s.ep 1 60||decide ((s.L.length:Int)>60)
noncomputable def J8(s:Sto):Bool:= !(rR s|| !u9 s.L|| !V9 s.S 0 s.L.length)&& !anyI s.L.length (xC s)&& !anyI 8 (l9 s)&&j3 s&&V9 s.J 0 2
def b1U(s:Sto):Prop:=b5O s.d/\b5Z s.L/\FrB s.fr/\∀r ∈ s.L,O6 r.a.length
noncomputable def tD:Rl:=⟨Sto,λs=>[.agg s.ts],λs=>.bool (J8 s),b1U⟩
noncomputable def a4L:Con:=.rel tD
noncomputable def a3p:Con:=.rel tD
noncomputable def a3s(s:Sto):Nat->Ann
 |0=>.onef [1,3,48,49,50] (V1 s.L.length (xC s)) (λx=>⟨[(1,.bref s.ts),(3,.int .i64 (k9 s.L x.1)),(48,nI s.L),(49,.int .i64 s.L.length),(50,.int .i64 x.1)],[]⟩) (λx=>s.L.length-x.1) [] (λ_=>fun
  |1=>.one (V1 8 (l9 s)) (λx=>⟨[(1,.bref s.ts),(64,.int .i64 x.1)],[]⟩) (λx=>8-x.1) [] [] (λ_=>Y5)
  |_=>.none)
 |_=>.none
noncomputable def vF(s:Sto)(i:Nat):Bool:= !R1 (s.L.getD i dz)||(s.L.getD i dz).l !=(i:Int)+1||decide ((s.L.getD i dz).e>s.ep)||(decide ((i:Int)>0)&&decide ((s.L.getD (i-1) dz).e>(s.L.getD i dz).e))
noncomputable def yA(s:Sto)(i:Nat):Bool:=
 !V9 (s.fr.getD i dz).no 0 7|| !A2 (s.fr.getD i dz).pg||decide ((s.fr.getD i dz).pg.Q>(s.L.length:Int))|| !V9 (s.fr.getD i dz).first 0 s.L.length||
  (s.fr.getD i dz).D !=decide ((s.fr.getD i dz).first>0)||frAt s.fr (s.fr.getD i dz).no !=(i:Int)
noncomputable def a3A(s:Sto):Nat->Ann
 |0=>.one (V1 s.L.length (vF s)) (λx=>⟨[(1,.ref 0 0 0),(3,.int .i64 x.1)],[kY s]⟩) (λx=>s.L.length-x.1) [.box 0] [.box 0] (λ_=>fun
  |1=>.one (V1 s.fr.length (yA s)) (λx=>⟨[(1,.ref 0 0 0),(5,.int .i64 x.1)],[kY s]⟩) (λx=>s.fr.length-x.1) [.box 0] [.box 0] (λ_=>fun
   |2=>.one (V1 8 (l9 s)) (λx=>⟨[(1,.ref 0 0 0),(7,.int .i64 x.1)],[kY s]⟩) (λx=>8-x.1) [.box 0] [.box 0] (λ_=>Y5)
   |_=>.none)
  |_=>.none)
 |_=>.none
theorem M2(s:Sto):J8 s=true↔(rR s=false/\u9 s.L=true/\V9 s.S 0 s.L.length=true)/\(∀i,i<s.L.length->xC s i=false)/\(∀i,i<8->l9 s i=false)/\j3 s=true/\V9 s.J 0 2=true:=by
 unfold J8;simp only[L3,xP,yP,yT,Q8];exact⟨λh=>⟨⟨h.1.1.1.1.1.1,h.1.1.1.1.1.2,h.1.1.1.1.2⟩,h.1.1.1.2,h.1.1.2,h.1.2,h.2⟩,λh=>⟨⟨⟨⟨⟨⟨h.1.1,h.1.2.1⟩,h.1.2.2⟩,h.2.1⟩,h.2.2.1⟩,h.2.2.2.1⟩,h.2.2.2.2⟩⟩
theorem rP{s:Sto}(h:¬J8 s=true):false=J8 s:=(Bool.eq_false_iff.2 h).symm
theorem B7(s:Sto):rR s=false↔G5 s.d/\s.d.E.length=69/\1<=s.ep/\s.ep<=60/\s.L.length<=60:=by
 unfold rR;simp only[yP,yT,oJ,bne_eq_false_iff_eq,V9,L3,k4,rX];constructor
 ·rintro⟨⟨⟨h1,h2⟩,h3,h4⟩,h5⟩;exact⟨h1,by omega,h3,h4,by omega⟩
 ·rintro⟨h1,h2,h3,h4,h5⟩;exact⟨⟨⟨h1,by omega⟩,h3,h4⟩,by omega⟩
theorem a6Z(s:Sto)(no:Nat):(!(T0 s.d no).2||decide ((T0 s.d no).1.Q>s.S))=l9 s no:=by
 unfold l9;obtain⟨h1,h2⟩:=kI s.d no;cases h:(T6 s.d no).2
 ·rw[h1,h];rfl
 ·rw[h2 h,h]
theorem b7S(n:Int):(decide (0<=n)&&decide (n<3))=V9 n 0 2:=by
 unfold V9;rw[show decide (n<3)=decide (n<=2) from decide_eq_decide.2 (by omega)]
theorem a8H(L:List Rec)(i:Nat):k9 L (i+1)=(L.getD i dz).e:=by unfold k9;rw[if_neg (by omega)];rfl
theorem a1b:GK 71 a4L:=gk Tryz.func71<|by
 rintro(s:Sto) ⟨hd,hl,hf,hm⟩;have e0:(!t9 s.d||(s.d.E.length:Int) !=69|| !V9 s.ep 1 60||decide ((s.L.length:Int)>60)|| !u9 s.L|| !V9 s.S 0 s.L.length)=(rR s|| !u9 s.L|| !V9 s.S 0 s.L.length):=rfl;refine Q5 (gC a4R (gC M5 (gC gK (gC a1T (gC a2p (gC vM gN)))))) Tryz.func71 (a3s s) (α:=let k:=(s.d.E.length:Int);let r:=(T.bref s.ts);let p:=(s.L.length:Int);∃(x:qJ.ι),(((yM s.d x)/\True)/\b5O x)/\∃(x_1:pU.ι),let q:=(!t9 x||k !=69|| !V9 s.ep (1:Int) (60:Int)||decide (p>60)|| !u9 x_1|| !V9 s.S (0:Int) p);((!t9 x||k !=69|| !V9 s.ep (1:Int) (60:Int)||decide (p>60))=false->((s.L.length=List.length x_1/\Z6 s.L.length (Y3 s.L) (Y3 x_1))/\True)/\b5Z x_1)/\(q=true->false=J8 s)/\(q=false->(∃(x:V1 s.L.length (xC s)),(L4 (λ(x:Nat)=>none) r r/\1=k9 s.L x.val/\(Y8 Y3 s.L s.L)/\p=p/\0=(x.val:Int)/\True)/\True)/\∀(x:V1 s.L.length (xC s)),let z:=(x.val:Int);let j:=(s.L.getD z.toNat dz).e;let v:=(!V9 j (k9 s.L x.val) s.ep);(decide (z<p)=true->V3 z s.L.length/\(v=true->false=J8 s)/\(v=false->W7 .i64 (z+1)/\∃(y:V1 s.L.length (xC s)),((L4 (λ(x:Nat)=>none) r r/\j=k9 s.L y.val/\(Y8 Y3 s.L s.L)/\p=p/\z+1=(y.val:Int)/\True)/\True)/\Lt (s.L.length-y.val) (s.L.length-x.val)))/\(decide (z<p)=false->(∃(x:V1 8 (l9 s)),(L4 (λ(x:Nat)=>none) r r/\0=(x.val:Int)/\True)/\True)/\∀(x:V1 8 (l9 s)),let w:=(x.val:Int);(decide (w<8)=true->∃(x_2:iQ.ι),let m:=(T0 x_2.1.d x_2.2);let u:=(! m.2||decide (m.1.Q>s.S));(((yL s x_2.1)/\w=(x_2.2:Int)/\True)/\dF (x_2.1.d,x_2.2))/\(u=true->false=J8 s)/\(u=false->W7 .i64 (w+1)/\∃(y:V1 8 (l9 s)),((L4 (λ(x:Nat)=>none) r r/\w+1=(y.val:Int)/\True)/\True)/\Lt (8-y.val) (8-x.val)))/\(decide (w<8)=false->∃(x:jI.ι),(((yL s x)/\True)/\c1G x)/\(j3 x=true->l8 (3:Int))/\(j3 x&&(decide (0<=s.J)&&decide (s.J<3)))=J8 s)))) ⟨s.d,⟨⟨(uX _),trivial⟩,hd⟩,s.L,λ_=>⟨X5,hl⟩,λhb=>rP ?_,λhb=> ?_⟩
 ·rw[M2];rintro⟨⟨h1,h2,h3⟩,_⟩;rw[e0,h1,h2,h3] at hb;cases hb
 rw[e0] at hb;simp only[yP,yT] at hb;obtain⟨⟨b1,b2⟩,b3⟩:=hb;obtain⟨c1,c2,c3,c4,c5⟩:=(B7 s).1 b1;refine⟨⟨F7,⟨R2 _,rfl,Z7,rfl,Z9⟩,trivial⟩,λx=>⟨λhc=> ?_,λhc=>⟨⟨F7,⟨R2 _,Z9⟩,trivial⟩,λy=>⟨λhy=> ?_,λhy=> ?_⟩⟩⟩⟩
 ·have hlt:=X6 hc;refine⟨X8 hlt,λhb=>rP ?_,λhb=>⟨U5 hlt (by omega),x.succ hlt hb,⟨⟨R2 _,(a8H _ _).symm,Z7,rfl,by simp only[V1.succ];omega,trivial⟩,trivial⟩,V1.ext_lt hlt⟩⟩
  rw[M2];rintro⟨_,h1,_⟩;have:=h1 x.val hlt;unfold xC at this;rw[F5,this] at hb;cases hb
 ·have hlt:y.val<8:=by have:=C7 hy;omega
  refine⟨(s,y.val),⟨⟨(zE _),Z9⟩,c1,by simp only;omega⟩,λhb=>rP ?_,λhb=>⟨Z4 (by omega),y.succ hlt ((a6Z s y.val).symm.trans hb),⟨⟨R2 _,by simp only[V1.succ];omega,trivial⟩,trivial⟩,V1.ext_lt hlt⟩⟩
  rw[M2];rintro⟨_,_,h1,_⟩;have:=h1 y.val hlt;rw[←a6Z] at this;have hb:(!(T0 s.d y.val).2||decide ((T0 s.d y.val).1.Q>s.S))=true:=hb;rw[this] at hb;cases hb
 ·have g1:=X4 hc;have g2:8<=y.val:=by have:=l7 hy;omega
  refine⟨s,⟨⟨(zE _),trivial⟩,hf,hl.1⟩,λ_=>⟨by omega,by omega⟩,?_⟩
  rw[b7S,Bool.eq_iff_iff,M2];simp only[L3];exact⟨λh=>⟨⟨b1,b2,b3⟩,λi hi=>x.2.2 i (wM hi g1),λi hi=>y.2.2 i (wM hi g2),h⟩,λh=>h.2.2.2⟩
theorem b3H(s:Sto)(i:Nat):yA s i=i7 s i:=by
 unfold yA i7;generalize V9 (s.fr.getD i dz).no 0 7=a;generalize A2 (s.fr.getD i dz).pg=b;generalize decide ((s.fr.getD i dz).pg.Q>(s.L.length:Int))=c;generalize V9 (s.fr.getD i dz).first 0 s.L.length=d
 generalize (s.fr.getD i dz).D=e;generalize decide ((s.fr.getD i dz).first>0)=f
 generalize (frAt s.fr (s.fr.getD i dz).no !=(i:Int))=g;cases a<;>cases b<;>cases c<;>cases d<;>cases e<;>cases f<;>cases g<;>rfl
theorem b1T(s:Sto):(∀i,i<s.L.length->vF s i=false)↔u9 s.L=true/\∀i,i<s.L.length->xC s i=false:=by
 rw[J6];have key:∀i,vF s i=false↔(R1 (s.L.getD i dz)=true/\(s.L.getD i dz).l=(i:Int)+1)/\(s.L.getD i dz).e<=s.ep/\(0<i->(s.L.getD (i-1) dz).e<=(s.L.getD i dz).e):=by
  intro i;unfold vF;simp only[yP,yT,bne_eq_false_iff_eq,rX,Bool.and_eq_false_iff];constructor
  ·rintro⟨⟨⟨h1,h2⟩,h3⟩,h4⟩;exact⟨⟨h1,h2⟩,by omega,λhi=>by rcases h4 with h4|h4<;>omega⟩
  ·rintro⟨⟨h1,h2⟩,h3,h4⟩;refine⟨⟨⟨h1,h2⟩,by omega⟩,?_⟩
   by_cases hi:0<i
   ·exact .inr (by have:=h4 hi;omega)
   ·exact .inl (by omega)
 have key2:∀i,xC s i=false↔k9 s.L i<=(s.L.getD i dz).e/\(s.L.getD i dz).e<=s.ep:=by
  intro i;unfold xC V9;simp only[yT,L3,k4]
 simp only[key,key2];constructor
 ·intro h;refine⟨λi hi=>(h i hi).1,λi hi=>⟨?_,(h i hi).2.1⟩⟩
  by_cases h0:i=0
  ·subst h0;have:=((R7 _).1 (h 0 hi).1.1).1;exact this
  ·unfold k9;rw[if_neg h0];exact(h i hi).2.2 (by omega)
 ·rintro⟨h1,h2⟩ i hi;refine⟨h1 i hi,(h2 i hi).2,λh0=> ?_⟩
  have:=(h2 i hi).1;unfold k9 at this;rw[if_neg (by omega)] at this
  exact this
theorem a00:GK 97 a3p:=gk Tryz.func97<|by
 rintro(s:Sto) ⟨hd,hl,hf,hm⟩;have hfr:s.fr.length<1000000000000:=hf.1;have e0:(!t9 s.d||(s.d.E.length:Int) !=69|| !V9 s.ep 1 60||decide ((s.L.length:Int)>60)|| !V9 s.S 0 s.L.length||decide ((s.fr.length:Int)>3)|| !V9 s.J 0 2)=(rR s|| !V9 s.S 0 s.L.length||decide ((s.fr.length:Int)>3)|| !V9 s.J 0 2):=rfl;have sp:J8 s=true↔(rR s|| !V9 s.S 0 s.L.length||decide ((s.fr.length:Int)>3)|| !V9 s.J 0 2)=false/\(∀i,i<s.L.length->vF s i=false)/\(∀i,i<s.fr.length->yA s i=false)/\∀i,i<8->l9 s i=false:=by
  rw[M2,b1T];simp only[yP,yT,b3H,rX];unfold j3;simp only[L3,xP,Q8,k4];constructor
  ·rintro⟨⟨h1,h2,h3⟩,h4,h5,⟨h6,h7⟩,h8⟩;exact⟨⟨⟨⟨h1,h3⟩,by omega⟩,h8⟩,⟨h2,h4⟩,h6,h5⟩
  ·rintro⟨⟨⟨⟨h1,h3⟩,h7⟩,h8⟩,⟨h2,h4⟩,h6,h5⟩;exact⟨⟨h1,h2,h3⟩,h4,h5,⟨h6,by omega⟩,h8⟩
 refine Q5 (gC a5t (gC E3 (gC pT (gC kR (gC uL (gC a4b gN)))))) Tryz.func97 (a3A s) (α:=let pd:=(s.fr.length:Int);let pa:=(0=0/\0=0);let f:=(1=1/\1=1/\yL s s);let j:=(s.L.length:Int);∃(x:qJ.ι),let u:=(!t9 x||(s.d.E.length:Int) !=69|| !V9 s.ep (1:Int) (60:Int)||decide (j>60)|| !V9 s.S (0:Int) j||decide (pd>3)|| !V9 s.J (0:Int) (2:Int));(((yM s.d x)/\True)/\b5O x)/\(u=true->false=J8 s)/\(u=false->(∃(x:V1 s.L.length (vF s)),(pa/\0=(x.val:Int)/\True)/\f/\True)/\∀(x:V1 s.L.length (vF s)),let w:=(x.val:Int);let q:=(s.L.getD w.toNat dz);let z:=(Rec.mk q.e q.l q.t q.k q.p q.n q.g q.s q.b q.a);let pb:=(!R1 z||q.l !=w+1||decide (q.e>s.ep));let m:=(!R1 z||q.l !=w+1||decide (q.e>s.ep)||decide (w>0)&&decide ((s.L.getD (w-1).toNat dz).e>q.e));(decide (w<j)=true->V3 w s.L.length/\O6 q.a.length/\((!R1 z)=false->W7 .i64 (w+1))/\(pb=false->decide (w>0)=true->W7 .i64 (w-1))/\(pb=false->decide (w>0)=true->V3 (w-1) s.L.length)/\(m=true->false=J8 s)/\(m=false->W7 .i64 (w+1)/\∃(y:V1 s.L.length (vF s)),((pa/\w+1=(y.val:Int)/\True)/\f/\True)/\Lt (s.L.length-y.val) (s.L.length-x.val)))/\(decide (w<j)=false->(∃(x:V1 s.fr.length (yA s)),(pa/\0=(x.val:Int)/\True)/\f/\True)/\∀(x:V1 s.fr.length (yA s)),let c:=(x.val:Int);let r:=(s.fr.getD c.toNat dz);(decide (c<pd)=true->V3 c s.fr.length/\∃(x_1:yV.ι),((!V9 r.no (0:Int) (7:Int))=false->((r.pg.Q=x_1.Q/\(Y8 Z5 r.pg.sl x_1.sl)/\True)/\True)/\PgB x_1)/\∃(x_2:wE.ι),let v:=(!V9 r.no (0:Int) (7:Int)|| !A2 x_1||decide (r.pg.Q>j)|| !V9 r.first (0:Int) j|| ! r.D==decide (r.first>0)||frAt x_2.1.fr x_2.2 !=c);((!V9 r.no (0:Int) (7:Int)|| !A2 x_1||decide (r.pg.Q>j)|| !V9 r.first (0:Int) j|| ! r.D==decide (r.first>0))=false->((yL s x_2.1)/\r.no=x_2.2/\True)/\O6 x_2.1.fr.length)/\(v=true->false=J8 s)/\(v=false->W7 .i64 (c+1)/\∃(y:V1 s.fr.length (yA s)),((pa/\c+1=(y.val:Int)/\True)/\f/\True)/\Lt (s.fr.length-y.val) (s.fr.length-x.val)))/\(decide (c<pd)=false->(∃(x:V1 8 (l9 s)),(pa/\0=(x.val:Int)/\True)/\f/\True)/\∀(x:V1 8 (l9 s)),let pc:=(x.val:Int);(decide (pc<8)=true->∃(x_1:dX.ι),let i:=(!(T6 x_1.1 x_1.2).2||decide ((T6 x_1.1 x_1.2).1.Q>s.S));(((yM s.d x_1.1)/\pc=(x_1.2:Int)/\True)/\dF x_1)/\(i=true->false=J8 s)/\(i=false->W7 .i64 (pc+1)/\∃(y:V1 8 (l9 s)),((pa/\pc+1=(y.val:Int)/\True)/\f/\True)/\Lt (8-y.val) (8-x.val)))/\(decide (pc<8)=false->true=J8 s))))) ⟨s.d,⟨⟨(uX _),trivial⟩,hd⟩,λhb=>rP ?_,λhb=> ?_⟩
 ·rw[sp,←e0];rintro⟨h1,_⟩;have hb:(!t9 s.d||(s.d.E.length:Int) !=69|| !V9 s.ep 1 60||decide ((s.L.length:Int)>60)|| !V9 s.S 0 s.L.length||decide ((s.fr.length:Int)>3)|| !V9 s.J 0 2)=true:=hb;rw[h1] at hb;cases hb
 rw[e0] at hb;have hb':=hb;simp only[yP,yT,rX] at hb';obtain⟨c1,c2,c3,c4,c5⟩:=(B7 s).1 hb'.1.1.1;refine⟨⟨F7,⟨Z8,Z9⟩,⟨rfl,rfl,zE _⟩,trivial⟩,λx=>⟨λhc=> ?_,λhc=>⟨⟨F7,⟨Z8,Z9⟩,⟨rfl,rfl,zE _⟩,trivial⟩,λy=>⟨λhy=> ?_,λhy=>⟨⟨F7,⟨Z8,Z9⟩,⟨rfl,rfl,zE _⟩,trivial⟩,λz=>⟨λhz=> ?_,λhz=> ?_⟩⟩⟩⟩⟩⟩
 ·have hlt:=X6 hc;refine⟨X8 hlt,hm _ (a2N hlt),λ_=>U5 hlt (by omega),λ_ _=>Z4 (by omega),λ_ h0=>⟨by have:=C7 h0;omega,by omega⟩,λhq=>rP ?_,λhq=>⟨U5 hlt (by omega),x.succ hlt ?_,⟨⟨Z8,by simp only[V1.succ];omega,trivial⟩,⟨rfl,rfl,zE _⟩,trivial⟩,V1.ext_lt hlt⟩⟩
  ·rw[sp];rintro⟨_,h1,_⟩;have:=h1 x.val hlt;unfold vF at this;rw[F5,show((x.val:Int)-1).toNat=x.val-1 by omega] at hq
   have hq:=hq.symm.trans this;cases hq
  ·rw[F5,show((x.val:Int)-1).toNat=x.val-1 by omega] at hq
   exact hq
 ·have hlt:=X6 hy;refine⟨X8 hlt,(s.fr.getD y.val dz).pg,λ_=>⟨⟨⟨rfl,X5⟩,trivial⟩,hf.2 _ hlt⟩,(s,(s.fr.getD y.val dz).no),λ_=>⟨⟨(zE _),Z9⟩,hf.1⟩,λhq=>rP ?_,λhq=>⟨U5 hlt (by omega),y.succ hlt hq,⟨⟨Z8,by simp only[V1.succ];omega,trivial⟩,⟨rfl,rfl,zE _⟩,trivial⟩,V1.ext_lt hlt⟩⟩
  rw[sp];rintro⟨_,_,h1,_⟩;have:=h1 y.val hlt;have hq:yA s y.val=true:=hq;rw[this] at hq;cases hq
 ·have hlt:z.val<8:=by have:=C7 hz;omega
  refine⟨(s.d,z.val),⟨⟨(uX _),Z9⟩,c1,by simp only;omega⟩,λhq=>rP ?_,λhq=>⟨Z4 (by omega),z.succ hlt hq,⟨⟨Z8,by simp only[V1.succ];omega,trivial⟩,⟨rfl,rfl,zE _⟩,trivial⟩,V1.ext_lt hlt⟩⟩
  rw[sp];rintro⟨_,_,_,h1⟩;have:=h1 z.val hlt;have hq:l9 s z.val=true:=hq;rw[this] at hq;cases hq
 ·have g1:=X4 hc;have g2:=X4 hy;have g3:8<=z.val:=by have:=l7 hz;omega
  exact(sp.2 ⟨hb,λi hi=>x.2.2 i (wM hi g1),λi hi=>y.2.2 i (wM hi g2),λi hi=>z.2.2 i (wM hi g3)⟩).symm
end Go.Proofs.YtghgljelnhfihaaGreat

namespace Go.Proofs.YtghgljelnhfihaaGreat
set_option maxRecDepth 100000
open Go.SS

def j4(n:Int):UInt8:=P2 (IntKind.u8.wrap n)
def W2(L:List (List UInt8)):Nat->List UInt8
 |0=>[j4 L.length]
 |i+1=>W2 L i++[j4 (L.getD i []).length]++L.getD i []
def S2(L:List (List UInt8)):List UInt8:=W2 L L.length
def w6(L:List (List UInt8)):Prop:=L.length<=1000/\∀i,i<L.length->(L.getD i []).length<=1000
def xV:Rl:=⟨List (List UInt8),λL=>[xM L],λL=>.bys (S2 L),w6⟩
def a1E:Con:=.rel xV
def a2M(L:List (List UInt8)):Nat->Ann
 |0=>.one {i:Nat//i<=L.length} (λx=>⟨[(0,xM L),(3,.osl 0 0 (W2 L x.1).length),(4,.int .i64 x.1)],[some (.bys 5 (W2 L x.1))]⟩) (λx=>L.length-x.1) [.arr 0] [.arr 3] (λ_=>Y5)
 |_=>.none
def i4(n:Nat)(l:List UInt8):Prop:=n=l.length/\l.length<=1000000
def xT:List T->Y1->Option (T×Y1×Option Prop)
 | [.osl k off n],[some (.bys ty l)]=>match k,off,ty with
  |0,0,5=>some (.bys (l++E4 (t6 l)),[none],some (i4 n l))
  |_,_,_=>none
 |_,_=>none
def a27:Con:=.eff xT
theorem vS:GK 264 a27:=gk Tryz.func264<|by
 intro args H res H' p h hp;unfold xT at h;split at h
 case h_2=>cases h
 rename_i k off n ty l;split at h
 ·skip
  simp only[W8,T5] at h;obtain⟨rfl,rfl,rfl⟩:=h;obtain⟨rfl,hl⟩:i4 n l:=hp;have e4:(E4 (t6 l)).length=4:=rfl;refine vcE (gC nY (gC vQ gN)) Tryz.func264 Y5 (bs:=[false]) (α:=∃(x:(vZ IntKind.i64).ι),(Le (0+l.length) l.length/\(List.take l.length (List.drop 0 l)=x/\True)/\G4 x)/\∃(x_1:rI.ι),(((↑(t6 x):Int)=(x_1.1:Int)/\(4=match x_1.2 with|true=>(4:Int)|false=>(2:Int))/\True)/\True)/\(Le l.length l.length/\W6 l.length (match x_1.2 with|true=>E4 x_1.1|false=>i6 x_1.1).length 1)/\Le (0+(l.length+(match x_1.2 with|true=>E4 x_1.1|false=>i6 x_1.1).length)) (List.take l.length l++match x_1.2 with|true=>E4 x_1.1|false=>i6 x_1.1).length/\List.take (l.length+(match x_1.2 with|true=>E4 x_1.1|false=>i6 x_1.1).length) (List.drop 0 (List.take l.length l++match x_1.2 with|true=>E4 x_1.1|false=>i6 x_1.1))=l++E4 (t6 l)/\True/\True) ⟨l,⟨by unfold Le;omega,⟨by rw[List.drop_zero,nJ],trivial⟩,by unfold G4;omega⟩,(t6 l,true),⟨⟨rfl,rfl,trivial⟩,trivial⟩,⟨W4 _,?_,?_⟩,?_,?_,trivial,trivial⟩
  ·simp only[e4];omega
  ·simp only[e4];omega
  ·unfold Le;rw[nJ,K6,G9];exact W4 _
  ·rw[nJ,List.drop_zero];exact List.take_of_length_le (by rw[K6];exact W4 _)
 ·cases h
theorem xW(L:List (List UInt8))(h:∀i,i<L.length->(L.getD i []).length<=1000):∀i,i<=L.length->(W2 L i).length<=1+1001*i
 |0,_=>by simp[W2]
 |i+1,hi=>by
  have h1:=xW L h i (by omega)
  have h2:=h i (by omega)
  simp only[W2,K6,List.length_cons,List.length_nil];omega
theorem l01Fields_ok:GK 310 a1E:=gk Tryz.func310<|by
 rintro(L:List (List UInt8)) ⟨hL,hs⟩;refine Q5 gN Tryz.func310 (a2M L) (α:=let u:=(L.length:Int);W7 IntKind.u8 (IntKind.u8.wrap u)/\(∃(x:{i:Nat//i<=L.length}),((Y8 Z5 L L)/\(0=0/\1=(W2 L x.val).length)/\0=(x.val:Int)/\True)/\List.map P2 [IntKind.u8.wrap u]=W2 L x.val/\True)/\∀(x:{i:Nat//i<=L.length}),let v:=(W2 L x.val);let z:=(x.val:Int);let q:=(L.getD z.toNat []).length;let p:=v.length;let r:=(List.take p v++List.take 1 (List.drop 0 (List.map P2 [IntKind.u8.wrap (↑q:Int)])));(decide (z<u)=true->V3 z L.length/\W7 IntKind.u8 (IntKind.u8.wrap (↑q:Int))/\(Le 1 1/\Le p p/\W6 p 1 1)/\V3 z L.length/\(Le (p+1) r.length/\W6 (p+1) q 1)/\W7 .i64 (z+1)/\∃(y:{i:Nat//i<=L.length}),(((Y8 Z5 L L)/\(0=0/\p+1+q=(W2 L y.val).length)/\z+1=(y.val:Int)/\True)/\List.take (p+1) r++L.getD z.toNat []=W2 L y.val/\True)/\Lt (L.length-y.val) (L.length-x.val))/\(decide (z<u)=false->Le (0+p) p/\List.take p (List.drop 0 v)=S2 L)) ⟨P1 _,⟨⟨0,S7 _⟩,⟨Z7,Z8,Z9⟩,Z9⟩,λx=>⟨λhc=> ?_,λhc=> ?_⟩⟩
 ·have hlt:=X6 hc;have h1:=xW L hs x.val (by omega)
  have h2:=hs x.val hlt;rw[F5];have e:List.take (W2 L x.val).length (W2 L x.val)++List.take 1 (List.drop 0 (List.map P2 [IntKind.u8.wrap ((L.getD x.val []).length:Int)]))=W2 L x.val++[j4 (L.getD x.val []).length]:=by
   rw[nJ];rfl
  rw[e];have e2:(W2 L x.val++[j4 (L.getD x.val []).length]).length=(W2 L x.val).length+1:=by simp
  refine⟨X8 hlt,P1 _,⟨W4 _,W4 _,by omega,by omega⟩,X8 hlt,⟨by unfold Le;omega,by omega,by omega⟩,U5 hlt (by omega),⟨x.val+1,hlt⟩,⟨⟨Z7,⟨rfl,?_⟩,by simp only;omega,trivial⟩,?_,trivial⟩,V1.ext_lt hlt⟩
  ·simp only[W2,K6,List.length_cons,List.length_nil]
  ·rw[←e2,nJ];rfl
 ·have hx:x.val=L.length:=by have:=x.2;have:=X4 hc;omega
  rw[hx];exact⟨by unfold Le;omega,by rw[List.drop_zero,nJ];rfl⟩
def uN(no:Int)(p:Pg):List UInt8:=([P2 112,j4 no]++i6 p.Q.toNat)++S2 p.sl
def S6(no:Int)(p:Pg):List UInt8:=uN no p++E4 (t6 (uN no p))
noncomputable def rY:Rl:=⟨Int×Pg,λx=>[.int .i64 x.1,.agg x.2.ts],λx=>.bys (S6 x.1 x.2),λx=>eB x.2⟩
noncomputable def a5l:Con:=.rel rY
theorem a2d:GK 332 a5l:=gk Tryz.func332<|by
 rintro⟨no,p⟩ ⟨h1,h2,h3,h4⟩;simp only at h1 h2 h3 h4;have hs:w6 p.sl:=⟨by omega,λi hi=>Nat.le_trans (h4 i hi) (by decide)⟩
 have hfl:=xW p.sl hs.2 p.sl.length (W4 _);have hfl:(S2 p.sl).length<=5000:=by unfold S2;omega
 have e2:(i6 p.Q.toNat).length=2:=rfl;have e0:List.take 2 (List.map P2 [(112:Int),IntKind.u8.wrap no])=[P2 112,j4 no]:=rfl;have e1:List.take (2+(i6 p.Q.toNat).length) ([P2 112,j4 no]++i6 p.Q.toNat)=[P2 112,j4 no]++i6 p.Q.toNat:=List.take_of_length_le (by simp;omega)
 have key:List.take (2+(i6 p.Q.toNat).length) (List.take 2 (List.map P2 [(112:Int),IntKind.u8.wrap no])++i6 p.Q.toNat)++S2 p.sl=uN no p:=by rw[e0,e1];rfl
 refine Q5 (gC vQ (gC l01Fields_ok (gC vS gN))) Tryz.func332 Y5 (α:=(W7 IntKind.u8 (112:Int)/\W7 IntKind.u8 (IntKind.u8.wrap no))/\∃(x:rI.ι),((p.Q=(x.1:Int)/\(2=match x.2 with|true=>(4:Int)|false=>(2:Int))/\True)/\True)/\(Le 2 2/\W6 2 (match x.2 with|true=>E4 x.1|false=>i6 x.1).length 1)/\∃(x_1:xV.ι),(((p.sl.length=List.length x_1/\Z6 p.sl.length (Z5 p.sl) (Z5 x_1))/\True)/\w6 x_1)/\(Le (2+(match x.2 with|true=>E4 x.1|false=>i6 x.1).length) (List.take 2 (List.map P2 [(112:Int),IntKind.u8.wrap no])++match x.2 with|true=>E4 x.1|false=>i6 x.1).length/\W6 (2+(match x.2 with|true=>E4 x.1|false=>i6 x.1).length) (S2 x_1).length 1)/\i4 (2+(match x.2 with|true=>E4 x.1|false=>i6 x.1).length+(S2 x_1).length) (List.take (2+(match x.2 with|true=>E4 x.1|false=>i6 x.1).length) (List.take 2 (List.map P2 [(112:Int),IntKind.u8.wrap no])++match x.2 with|true=>E4 x.1|false=>i6 x.1)++S2 x_1)/\List.take (2+(match x.2 with|true=>E4 x.1|false=>i6 x.1).length) (List.take 2 (List.map P2 [(112:Int),IntKind.u8.wrap no])++match x.2 with|true=>E4 x.1|false=>i6 x.1)++S2 x_1++E4 (t6 (List.take (2+(match x.2 with|true=>E4 x.1|false=>i6 x.1).length) (List.take 2 (List.map P2 [(112:Int),IntKind.u8.wrap no])++match x.2 with|true=>E4 x.1|false=>i6 x.1)++S2 x_1))=S6 no p) ⟨⟨(pG _).2 (by omega),P1 _⟩,(p.Q.toNat,false),⟨⟨by simp only;omega,rfl,trivial⟩,trivial⟩,⟨W4 _,by simp only[e2];omega,by simp only[e2];omega⟩,p.sl,⟨⟨⟨rfl,Z2 _ _⟩,trivial⟩,hs⟩,⟨?_,by simp only[e2];omega,by simp only[e2];omega⟩,?_,?_⟩
 ·unfold Le;rw[e0,K6];exact W4 _
 ·show i4 _ (List.take (2+(i6 p.Q.toNat).length) (List.take 2 (List.map P2 [(112:Int),IntKind.u8.wrap no])++i6 p.Q.toNat)++S2 p.sl);rw[key];have hl:(uN no p).length=2+(i6 p.Q.toNat).length+(S2 p.sl).length:=by unfold uN;simp;omega
  exact⟨hl.symm,by rw[hl,e2];omega⟩
 ·show List.take (2+(i6 p.Q.toNat).length) (List.take 2 (List.map P2 [(112:Int),IntKind.u8.wrap no])++i6 p.Q.toNat)++S2 p.sl++E4 (t6 (List.take (2+(i6 p.Q.toNat).length) (List.take 2 (List.map P2 [(112:Int),IntKind.u8.wrap no])++i6 p.Q.toNat)++S2 p.sl))=_;rw[key];rfl
end Go.Proofs.YtghgljelnhfihaaGreat

