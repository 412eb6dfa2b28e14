/- A part of the proof. -/
import Derived.Test.YtpdnnhnfongoeaaGreatD0
import Derived.RangeFuncNested
import Derived.RangeFuncBound
import Derived.RangeFuncCalls
import Derived.RangeFuncBox
import Derived.RangeFuncLeaves
import Derived.Shelf.Abstract
import Derived.WalkKit
import Derived.OwnWalkIn
import Derived.TacticsInMore
import Derived.LoopNIn
import Derived.LoopIn
import Derived.Test.YtpdnnhnfongoeaaGreatSS13
import Derived.Test.YtpdnnhnfongoeaaGreatRows
import Derived.ProofKit
import Derived.JoinedOf
import Derived.Handed
import Derived.WideWitness
namespace Go.Proofs.YtpdnnhnfongoeaaGreat
set_option maxRecDepth 100000
open Go.SS Go.Proofs.Tryz
noncomputable section
structure Pg where
 Q:Int
 sl:List (Bz)
 deriving Inhabited
def Pg.ts(p:Pg):List T:=[.int .i64 p.Q,s9 p.sl]
def c9L(b:Bool):Nat:=match b with|true=>30|false=>160
def L0(b:Bool)(s:Bz):Bool:=decide ((s.length:Int)>c9L b)
def a2p(b:Bool):List T->Option (T×Option Prop)
 | [.str s]=>some (.bool (L0 b s),none)
 |_=>none
def b2J:Con:=.pure (a2p true)
def b4X:Con:=.pure (a2p false)
theorem b1K(s:Bz)(h:
  decide ((s.length:Int)>30)=L0 true s):
  V4 prog 361 [.str s] (.bool (L0 true s)):=
 U5 gN func361 Z3 h
theorem a8Y:GK 361 b2J:=gk func361<|by
 intro args res p h hp;unfold a2p at h;split at h
 ·simp only[X0,U4] at h;obtain⟨rfl,rfl⟩:=h;exact b1K _ rfl
 ·cases h
theorem b4N(s:Bz)(h:
  decide ((s.length:Int)>160)=L0 false s):
  V4 prog 305 [.str s] (.bool (L0 false s)):=
 U5 gN func305 Z3 h
theorem a6P:GK 305 b4X:=gk func305<|by
 intro args res p h hp;unfold a2p at h;split at h
 ·simp only[X0,U4] at h;obtain⟨rfl,rfl⟩:=h;exact b4N _ rfl
 ·cases h
def b7U(b:Bool):T:=fnT (match b with|true=>361|false=>305)
def fZ:Rl:=⟨List (Bz)×Bool,λx=>[s9 x.1,b7U x.2],λx=>.int .i64 (S5 x.1.length λi=>L0 x.2 (x.1.getD i [])),λx=>L8 x.1.length⟩
def b89:Con:=.rel fZ
def a4W(L:List (Bz))(b:Bool):Nat->Ann
 |0=>.one (V5 L.length λi=>L0 b (L.getD i [])) (λx=>⟨[(0,s9 L),(1,b7U b),(7,.int .i64 L.length),(8,.int .i64 x.1)],[]⟩) (λx=>L.length-x.1) [] [] (λ_=>Z3)
 |_=>.none
theorem a0a:GK 358 b89:=gk func358<|by
 rintro⟨L,b⟩ (hL:L.length<1000000000000);cases b
 ·refine U5 (gC a6P gN) func358 (a4W L false) (α:=let r:=(Fn.func 305);let p:=(L.length:Int);(∃(x:V5 L.length λ(i:Nat)=>L0 false (L.getD i [])),((Z0 Z5 L L)/\Value.func r #[] #[]=Value.func r #[] #[]/\p=p/\0=(x.1:Int)/\True)/\True)/\∀(x:V5 L.length λ(i:Nat)=>L0 false (L.getD i [])),let q:=(x.1:Int);bd (q<p) (W9 q L.length/\br (L0 false (L.getD q.toNat [])) (q=S5 L.length λ(i:Nat)=>L0 false (L.getD i [])) (Ri (q+1)/\∃(y:V5 L.length λ(i:Nat)=>L0 false (L.getD i [])),(((Z0 Z5 L L)/\Value.func r #[] #[]=Value.func r #[] #[]/\p=p/\q+1=(y.1:Int)/\True)/\True)/\Lt (L.length-y.1) (L.length-x.1))) ((-1:Int)=S5 L.length λ(i:Nat)=>L0 false (L.getD i []))) ⟨⟨F2,Y1⟩,λx=>⟨λhc=>?_,λhc=>?_⟩⟩
  ·have h:=Y2 hc;exact⟨Y6 h,λhp=>(N8 h hp x.2.2).symm,λhp=>⟨W2 h Z9,x.succ h hp,Y1,V5.ext_lt h⟩⟩
  ·have e:=X9 hc;exact(K1 λj J=>x.2.2 j (xX J e)).symm
 ·refine U5 (gC a8Y gN) func358 (a4W L true) (α:=let r:=(Fn.func 361);let p:=(L.length:Int);(∃(x:V5 L.length λ(i:Nat)=>L0 true (L.getD i [])),((Z0 Z5 L L)/\Value.func r #[] #[]=Value.func r #[] #[]/\p=p/\0=(x.1:Int)/\True)/\True)/\∀(x:V5 L.length λ(i:Nat)=>L0 true (L.getD i [])),let q:=(x.1:Int);bd (q<p) (W9 q L.length/\br (L0 true (L.getD q.toNat [])) (q=S5 L.length λ(i:Nat)=>L0 true (L.getD i [])) (Ri (q+1)/\∃(y:V5 L.length λ(i:Nat)=>L0 true (L.getD i [])),(((Z0 Z5 L L)/\Value.func r #[] #[]=Value.func r #[] #[]/\p=p/\q+1=(y.1:Int)/\True)/\True)/\Lt (L.length-y.1) (L.length-x.1))) ((-1:Int)=S5 L.length λ(i:Nat)=>L0 true (L.getD i []))) ⟨⟨F2,Y1⟩,λx=>⟨λhc=>?_,λhc=>?_⟩⟩
  ·have h:=Y2 hc;exact⟨Y6 h,λhp=>(N8 h hp x.2.2).symm,λhp=>⟨W2 h Z9,x.succ h hp,Y1,V5.ext_lt h⟩⟩
  ·have e:=X9 hc;exact(K1 λj J=>x.2.2 j (xX J e)).symm
def dJ:Rl:=⟨List (Bz)×Bool,λx=>[s9 x.1,b7U x.2],λx=>.bool (anyI x.1.length λi=>L0 x.2 (x.1.getD i [])),λx=>L8 x.1.length⟩
def b5L:Con:=.rel dJ
theorem aI:GK 304 b5L:=gk func304<|by
 rintro⟨L,b⟩ (hL:L.length<1000000000000);cases b
 ·exact U5 (gC a0a gN) func304 Z3 (α:=∃(x:fZ.ι),(((Z0 Z5 L x.1)/\Value.func (Fn.func 305) #[] #[]=Value.func (Fn.func (match x.2 with|true=>361|false=>305)) #[] #[]/\True)/\L8 x.1.length)/\decide ((S5 x.1.length λ(i:Nat)=>L0 x.2 (x.1.getD i []))≥(0:Int))=anyI L.length λ(i:Nat)=>L0 false (L.getD i [])) ⟨(L,false),⟨Y1,hL⟩,C7 _ _⟩
 ·exact U5 (gC a0a gN) func304 Z3 (α:=∃(x:fZ.ι),(((Z0 Z5 L x.1)/\Value.func (Fn.func 361) #[] #[]=Value.func (Fn.func (match x.2 with|true=>361|false=>305)) #[] #[]/\True)/\L8 x.1.length)/\decide ((S5 x.1.length λ(i:Nat)=>L0 x.2 (x.1.getD i []))≥(0:Int))=anyI L.length λ(i:Nat)=>L0 true (L.getD i [])) ⟨(L,true),⟨Y1,hL⟩,C7 _ _⟩
def PgP(p:Pg):Prop:=0<=p.Q/\p.Q<=1000/\p.sl.length=4/\∀i,i<p.sl.length->(p.sl.getD i []).length<=30
noncomputable instance(p:Pg):Decidable (PgP p):=Classical.propDecidable _
def j8(p:Pg):Bool:=decide (PgP p)
def PgB(p:Pg):Prop:=L8 p.sl.length
def xA:Rl:=⟨Pg,λp=>[.agg p.ts],λp=>.bool (j8 p),PgB⟩
def b2V:Con:=.rel xA
def b37:Con:=.rel xA
def b2X(p:Pg):Nat->Ann
 |0=>.one (V5 4 λi=>L0 true (p.sl.getD i [])) (λx=>⟨[(1,.ref 0 0 0),(3,.int .i64 x.1)],[some (.arr true 1000000 2 1 λ_=>p.ts)]⟩) (λx=>4-x.1) [.box 0] [.box 0] (λ_=>Z3)
 |_=>.none
def rB:Rl:=⟨Unit,λ_=>[],λ_=>.agg (Pg.ts ⟨0,[[],[],[],[]]⟩),λ_=>True⟩
def a64:Con:=.rel rB
def a6V:Con:=.rel rB
theorem a6F(h:
  (Nn (4:Int)/\LeI (4:Int) (4:Int)/\yN 16 4 140737488355328/\Lt 4 9223372036854775808)/\Le 4 4/\(0:Int)=0/\(4=4/\Z8 4 (λ(x:Nat)=>[T.str []]) (Z5 [[],[],[],[]]))/\True):
  V4 prog 273 [] (.agg (Pg.ts ⟨0,[[],[],[],[]]⟩)):=
 U5 gN func273 Z3 h
theorem a7T(h:
  (Nn (4:Int)/\LeI (4:Int) (4:Int)/\yN 16 4 140737488355328/\Lt 4 9223372036854775808)/\Le 4 4/\(0:Int)=0/\(4=4/\Z8 4 (λ(x:Nat)=>[T.str []]) (Z5 [[],[],[],[]]))/\True):
  V4 prog 257 [] (.agg (Pg.ts ⟨0,[[],[],[],[]]⟩)):=
 U5 gN func257 Z3 h
theorem gG{s:Bz}:L0 true s=false↔s.length<=30:=by
 unfold L0;rw[uG];show ¬ (s.length:Int)>((30:Nat):Int)↔_;omega
theorem eV{s:Bz}:L0 false s=false↔s.length<=160:=by
 unfold L0;rw[uG];show ¬ (s.length:Int)>((160:Nat):Int)↔_;omega
theorem P4{n:Nat}{p:Nat->Bool}:anyI n p=false↔∀i,i<n->p i=false:=by
 rw[Bool.eq_false_iff,ne_eq,R8];constructor
 ·intro h i hi;exact Bool.eq_false_iff.2 λhp=>h ⟨i,hi,hp⟩
 ·rintro h ⟨i,hi,hp⟩;rw[h i hi] at hp;cases hp
theorem b8v(p:Pg):j8 p=true↔PgP p:=decide_eq_true_iff
theorem pE:GK 310 b2V:=gk func310<|by
 intro(p:Pg) (hp:p.sl.length<1000000000000);refine U5 (gC O0 (gC aI gN)) func310 Z3 (α:=∃(x:dJ.ι),((V6 p.Q (0:Int) (1000:Int)&&(p.sl.length:Int)==4)=true->((Z0 Z5 p.sl x.1)/\Value.func (Fn.func 361) #[] #[]=Value.func (Fn.func (match x.2 with|true=>361|false=>305)) #[] #[]/\True)/\L8 x.1.length)/\(V6 p.Q (0:Int) (1000:Int)&&(p.sl.length:Int)==4&& !anyI x.1.length λ(i:Nat)=>L0 x.2 (x.1.getD i []))=j8 p) ⟨(p.sl,true),λ_=>⟨Y1,hp⟩,?_⟩
 rw[Bool.eq_iff_iff,b8v];simp only[J4,vY,beq_iff_eq,V6,o7,P4];constructor
 ·rintro⟨⟨⟨e,h⟩,f⟩,d⟩;exact⟨e,h,Z9,λi hi=>gG.1 (d i hi)⟩
 ·rintro⟨e,h,f,d⟩;exact⟨⟨⟨e,h⟩,Z9⟩,λi hi=>gG.2 (d i hi)⟩
theorem c4w{p:Pg}(h:¬PgP p):false=j8 p:=(tP h).symm
theorem eY:GK 159 b37:=gk func159<|by
 intro(p:Pg) (hp:p.sl.length<1000000000000);refine U5 (gC z7 gN) func159 (b2X p) (α:=let q:=(oo (p.Q=p.Q/\(Z0 Z5 p.sl p.sl)/\True));br (!V6 p.Q (0:Int) (1000:Int)||(p.sl.length:Int) !=4) (false=j8 p) ((∃(x:V5 4 λ(i:Nat)=>L0 true (p.sl.getD i [])),((0=0/\0=0)/\0=(x.1:Int)/\True)/\q/\True)/\∀(x:V5 4 λ(i:Nat)=>L0 true (p.sl.getD i [])),let r:=(x.1:Int);bd (r<4) (W9 r p.sl.length/\bd ((↑(p.sl.getD r.toNat []).length:Int)>30) (false=j8 p) (Ri (r+1)/\∃(y:V5 4 λ(i:Nat)=>L0 true (p.sl.getD i [])),(((0=0/\0=0)/\r+1=(y.1:Int)/\True)/\q/\True)/\Lt (4-y.1) (4-x.1))) (true=j8 p))) ⟨λh=>c4w ?_,λh=>?_⟩
 ·rintro⟨f,e,g,_⟩;simp[V6] at h;omega
 simp[V6] at h;refine⟨⟨F2,Y1⟩,λx=>⟨λhc=>?_,λhc=>?_⟩⟩
 ·have hlt:x.1<4:=by have:=G5 hc;omega
  refine⟨⟨Z9,Z9⟩,λB=>c4w ?_,λB=>⟨Z4 Z9,x.succ hlt B,Y1,V5.ext_lt hlt⟩⟩
  rintro⟨_,_,_,d⟩;have:=d x.1 Z9
  rw[D8,o7] at B;omega
 ·refine(mN ⟨h.1.1,h.1.2,Z9,λi hi=>?_⟩).symm
  exact gG.1 (x.2.2 i (by have:=r8 hc;omega))
theorem gS:Z8 4 (λ_=>[T.str []]) (Z5 [[],[],[],[]]):=by
 intro i hi
 match i,hi with
 |0,_=>rfl
 |1,_=>rfl
 |2,_=>rfl
 |3,_=>rfl
theorem a4e:GK 273 a64:=gk func273<|λ_ _=>a6F ⟨⟨m0,sG,sW,Q1⟩,U9 _,rfl,⟨rfl,gS⟩,Z6⟩
theorem a3Y:GK 257 a6V:=gk func257<|λ_ _=>a7T ⟨⟨m0,sG,sW,Q1⟩,U9 _,rfl,⟨rfl,gS⟩,Z6⟩
def uR(no:Int)(x:Bz):Bool:=decide (5<=x.length)&&(x.getD 0 0==112&&decide (((x.getD 1 0).toNat:Int)=no))
def pgX(x:Bz):Pg:=⟨be ((x.drop 2).take 2),(Q2 (x.drop 4)).getD []⟩
def E3(no:Int)(b:Bz):Pg×Bool:=if R9 b&&uR no (X1 b) then(pgX (X1 b),(Q2 ((X1 b).drop 4)).isSome&&j8 (pgX (X1 b))) else(⟨0,[]⟩,false)
def P1(no:Int)(b:Bz):Pg:=if(E3 no b).2 then(E3 no b).1 else⟨0,[]⟩
def I2(no:Int)(b:Bz):Int:=if R9 b then(if(E3 no b).2 then 0 else 3) else 8
def RdB(b:Bz):Prop:=b.length<=1000
def fL:Rl:=⟨Int×Bz,λx=>[.int .i64 x.1,.bys x.2],λx=>.tup [.agg (P1 x.1 x.2).ts,.int .i64 (I2 x.1 x.2)],λx=>RdB x.2⟩
def a6u:Con:=.rel fL
def aP:Rl:=⟨Int×Bz,λx=>[.int .i64 x.1,.str x.2],λx=>.tup [.agg (E3 x.1 x.2).1.ts,.bool (E3 x.1 x.2).2],λx=>RdB x.2⟩
def b2F:Con:=.rel aP
theorem a8t:GK 258 b2F:=gk func258<|by
 rintro⟨no,b⟩ (hb:b.length<=1000);have f:(X1 b).length<=1000:=by
  unfold X1;split
  ·rw[List.length_take];omega
  ·exact N7 _
 have hh:(!R9 b||decide (((X1 b).length:Int)<5)||(((X1 b).getD 0 0).toNat:Int) !=112||IntKind.i64.wrap (((X1 b).getD 1 0).toNat:Int) !=no)= !(R9 b&&uR no (X1 b)):=by
  rw[uV];unfold uR;have:((X1 b).getD 0 0==112)=((((X1 b).getD 0 0).toNat:Int)==112):=by
   rw[Bool.eq_iff_iff,beq_iff_eq,beq_iff_eq,←UInt8.toNat_inj];exact⟨λh=>by rw[h];rfl,λh=>by have:((112:UInt8).toNat:Int)=112:=rfl;omega⟩
  rw[this];have h5:decide (((X1 b).length:Int)<5)= !decide (5<=(X1 b).length):=by rw[←decide_not];exact decide_eq_decide.2 Z9
  have n:((((X1 b).getD 1 0).toNat:Int) !=no)= !decide ((((X1 b).getD 1 0).toNat:Int)=no):=by rw[Bool.eq_iff_iff];simp
  rw[h5,n,bne];cases R9 b<;>cases decide (5<=(X1 b).length)<;>cases((((X1 b).getD 0 0).toNat:Int)==112)<;>simp
 refine U5 (gC mW (gC fJ (gC cC (gC eY gN)))) func258 Z3 (α:=let r:=(E3 no b);∃(x:a49.ι),let q:=(↑((X1 x).getD 0 (0:UInt8)).toNat:Int);let p:=(X1 x).length;let z:=((↑p:Int)<5);((b=x/\True)/\u9 x)/\((!R9 x||decide z)=false->W9 (0:Int) p)/\((!R9 x||decide z||q !=112)=false->W9 (1:Int) p)/\br (!R9 x||decide z||q !=112||IntKind.i64.wrap (↑((X1 x).getD 1 (0:UInt8)).toNat:Int) !=no) ((0=r.1.Q/\r.1.sl.length=0/\True)/\false=r.2/\True) (jX (4:Int) p/\∃(X:aA.ι),let u:=((Q2 X).getD []);((List.drop 4 (X1 x)=X/\True)/\u9 X)/\b1R (2:Int) (4:Int) p/\∃(d:iI.ι),((List.drop 2 (List.take 4 (X1 x))=d/\True)/\mK d)/\∃(x:xA.ι),((Q2 X).isSome=true->(((↑(be d):Int)=x.Q/\(Z0 Z5 u x.sl)/\True)/\True)/\PgB x)/\((↑(be d):Int)=r.1.Q/\(Z0 Z5 u r.1.sl)/\True)/\((Q2 X).isSome&&j8 x)=r.2/\True)) ⟨b,⟨Y1,Nat.le_trans hb M3⟩,λh=>?_,λh=>?_,λh=>?_,λh=>?_⟩
 ·simp only[wR,uG] at h;exact⟨Z9,Z9⟩
 ·simp only[wR,uG] at h;exact⟨Z9,Z9⟩
 ·rw[hh] at h;have h:(R9 b&&uR no (X1 b))=false:=(vY _).mp h;have e:E3 no b=(⟨0,[]⟩,false):=by unfold E3;rw[h];rfl
  rw[e];exact Y1
 ·rw[hh] at h;have h:(R9 b&&uR no (X1 b))=true:=(wT _).mp h;have h5:5<=(X1 b).length:=by simp only[uR,J4,o7] at h;exact h.2.1
  have e:E3 no b=(pgX (X1 b),(Q2 ((X1 b).drop 4)).isSome&&j8 (pgX (X1 b))):=by unfold E3;rw[h];rfl
  rw[e];refine⟨⟨Z9,Z9⟩,(X1 b).drop 4,⟨Y1,by unfold u9;rw[List.length_drop];omega⟩,⟨Z9,Z9,Z9⟩,((X1 b).drop 2).take 2,⟨⟨?_,Z6⟩,by unfold mK;rw[List.length_take];omega⟩,pgX (X1 b),
   λ_=>⟨Y1,?_⟩,Y1⟩
  ·rw[List.drop_take]
  ·show((Q2 ((X1 b).drop 4)).getD []).length<1000000000000;unfold Q2;split
   ·decide
   ·split
    ·rename_i p out ho;split
     ·have:=fO ho;have:=yK ((X1 b).drop 4) 0;simp only[Option.getD_some,C0] at*;omega
     ·decide
    ·decide
theorem b3i(r:Bz)(p i:Nat):(r.drop p).getD i 0=r.getD (p+i) 0:=by
 simp[P3]
theorem b5F(r:Bz)(R:0<r.length):∀i,match xJ r i with
  |some (p,out)=>F0 r false i=⟨r.drop p,false,out⟩/\p<=r.length
  |none=>(F0 r false i).fl=true
 |0=>by
  have:r.isEmpty=false:=by cases r with
   |nil=>simp at R
   |cons=>rfl
  simp only[xJ,F0,Fst.go,fs0,this,Bool.or_false];exact⟨Z6,R⟩
 |i+1=>by
  have I:=b5F r R i;have o:F0 r false (i+1)=Fst.step (F0 r false i):=rfl;cases f:xJ r i with
  |none=>
   rw[f] at I;have:xJ r (i+1)=none:=a1B f 1;rw[this,o];simp only at I ⊢;simp[Fst.step,I]
  |some x=>
   obtain⟨p,out⟩:=x;rw[f] at I;obtain⟨j,l⟩:=I;rw[a9O f,o,j];have M:numR (r.drop p)=((r.getD p 0).toNat:Int):=by unfold numR;rw[b3i,Nat.add_zero]
   have h:big ((r.drop p).drop 1) (numR (r.drop p))=decide (¬ (p+1+(r.getD p 0).toNat<=r.length∨r.length<p+1/\(r.getD p 0).toNat=0)):=by
    unfold big;rw[M];refine decide_eq_decide.2 ?_
    simp only[List.length_drop];omega
   have e:(r.drop p).isEmpty=decide (¬p<r.length):=by
    rw[Bool.eq_iff_iff,List.isEmpty_iff,o7,List.drop_eq_nil_iff];omega
   simp only[Fst.step];rw[h,e];by_cases hc:p<r.length/\p+1+(r.getD p 0).toNat<=r.length
   ·rw[if_pos hc];simp only;have e1:decide (¬p<r.length)=false:=tP Z9
    have g:decide (¬ (p+1+(r.getD p 0).toNat<=r.length∨r.length<p+1/\(r.getD p 0).toNat=0))=false:=tP Z9
    rw[e1,g];have d:big ((r.drop p).drop 1) (numR (r.drop p))=false:=by rw[h,g]
    unfold Q7 T3;rw[d];simp only[Bool.false_eq_true,if_false,Bool.or_false];refine⟨?_,hc.2⟩
    rw[M,D8,List.drop_drop,List.drop_drop,List.drop_take,show p+1+(r.getD p 0).toNat- (p+1)=(r.getD p 0).toNat by omega,List.drop_drop,Nat.add_assoc]
   ·rw[if_neg hc];simp only;rw[nS,nS];by_cases hp:p<r.length
    ·exact .inr (mN Z9)
    ·exact .inl (.inr (mN hp))
theorem a19(l:Bz):∀i,(F0 l true i).fl=true
 |0=>by simp[F0,Fst.go,fs0]
 |i+1=>by
  have:=a19 l i;simp only[F0] at this ⊢;simp[Fst.go,Fst.step,this]
theorem a7z(fl:Bool):∀i,(F0 [] fl i).fl=true
 |0=>by simp[F0,Fst.go,fs0]
 |i+1=>by
  have:=a7z fl i;simp only[F0] at this ⊢;simp[Fst.go,Fst.step,this]
def rpQ(x:Bz):Pg:=⟨be ((T3 x 4).drop 2),(U1 (Q7 x 4) (false||big x 4)).out⟩
def mP(no:Int)(x:Bz):Bool:=(!(!(U1 (Q7 x 4) (false||big x 4)).fl&&(U1 (Q7 x 4) (false||big x 4)).l.isEmpty)||(((T3 x 4).getD 0 0).toNat:Int) !=112||IntKind.i64.wrap (((T3 x 4).getD 1 0).toNat:Int) !=no)
theorem b0n(no:Int)(b:Bz)(U:R9 b=true):(mP no (X1 b)|| !j8 (rpQ (X1 b)))= !(E3 no b).2/\((E3 no b).2=true->rpQ (X1 b)=(E3 no b).1):=by
 have i:E3 no b=if uR no (X1 b) then(pgX (X1 b),(Q2 ((X1 b).drop 4)).isSome&&j8 (pgX (X1 b))) else(⟨0,[]⟩,false):=by unfold E3;rw[U,Bool.true_and]
 generalize X1 b=x at i;rw[i];by_cases h5:5<=x.length
 ·have hbig:big x 4=false:=tP Z9
  have R:Q7 x 4=x.drop 4:=by unfold Q7;rw[hbig];rfl
  have A:T3 x 4=x.take 4:=by unfold T3;rw[hbig];rfl
  have o:(x.take 4).getD 0 0=x.getD 0 0:=by simp[P3,List.getElem?_take]
  have t:(x.take 4).getD 1 0=x.getD 1 0:=by simp[P3,List.getElem?_take]
  have j:(x.take 4).drop 2=(x.drop 2).take 2:=by rw[List.drop_take]
  have q:rpQ x=⟨be ((x.drop 2).take 2),(U1 (x.drop 4) false).out⟩:=by unfold rpQ;rw[R,A,hbig,j];rfl
  have B:mP no x=(!(!(U1 (x.drop 4) false).fl&&(U1 (x.drop 4) false).l.isEmpty)||((x.getD 0 0).toNat:Int) !=112||((x.getD 1 0).toNat:Int) !=no):=by unfold mP;rw[R,A,hbig,o,t,uV];rfl
  have g:uR no x= !(((x.getD 0 0).toNat:Int) !=112||((x.getD 1 0).toNat:Int) !=no):=by
   unfold uR;rw[Bool.eq_iff_iff];simp only[J4,o7,beq_iff_eq,vY,wR,bne_eq_false_iff_eq];have:x.getD 0 0=112↔((x.getD 0 0).toNat:Int)=112:=by
    rw[←UInt8.toNat_inj];exact⟨λh=>by rw[h];rfl,λh=>by have:((112:UInt8).toNat:Int)=112:=rfl;omega⟩
   rw[this];exact⟨λh=>h.2,λh=>⟨h5,h⟩⟩
  have N:0<(x.drop 4).length:=by rw[List.length_drop];omega
  have d:=b5F (x.drop 4) N (C0 (x.drop 4));have n:(numR (x.drop 4)).toNat=C0 (x.drop 4):=by unfold numR C0;exact D8 _
  have e:U1 (x.drop 4) false=F0 (x.drop 4) false (C0 (x.drop 4)):=by unfold U1;rw[n]
  have hall:Q2 (x.drop 4)=if C0 (x.drop 4)>100 then none else match xJ (x.drop 4) (C0 (x.drop 4)) with
    |some (p,out)=>if p=(x.drop 4).length then some out else none
    |none=>none:=by
   unfold Q2;by_cases hc:C0 (x.drop 4)>100
   ·rw[if_pos (.inr hc),if_pos hc]
   ·rw[if_neg Z9,if_neg hc]
    rfl
  rw[B,q,g,e];generalize (((x.getD 0 0).toNat:Int) !=112)=d0;generalize (((x.getD 1 0).toNat:Int) !=no)=d1;have X:∀out,Q2 (x.drop 4)=some out->pgX x=⟨be ((x.drop 2).take 2),out⟩:=λout h=>by unfold pgX;rw[h];rfl
  generalize be ((x.drop 2).take 2)=nn at X;generalize pgX x=px at X;generalize u:x.drop 4=r at d hall X;clear q B g R A o t j i e n;cases F:xJ r (C0 r) with
  |none=>
   rw[F] at d hall;simp only at d;have hall:Q2 r=none:=by rw[hall];split<;>rfl
   rw[d,hall];cases d0<;>cases d1<;>simp
  |some y=>
   obtain⟨p,out⟩:=y;rw[F] at d hall;simp only at d hall;obtain⟨d,L⟩:=d;rw[d];have O:out.length=C0 r:=fO F;by_cases hp:p=r.length
   ·have hem:(r.drop p).isEmpty=true:=by rw[List.isEmpty_iff,List.drop_eq_nil_iff];omega
    by_cases hc:C0 r>100
    ·rw[if_pos hc] at hall;have hpg:j8 ⟨nn,out⟩=false:=tP (λh=>by have:=h.2.2.1;simp only at this;omega)
     simp only[hem,hall,hpg];cases d0<;>cases d1<;>simp
    ·rw[if_neg hc,if_pos hp] at hall;rw[X out hall];simp only[hem,hall];cases d0<;>cases d1<;>simp
   ·have hem:(r.drop p).isEmpty=false:=by
     rw[Bool.eq_false_iff,ne_eq,List.isEmpty_iff,List.drop_eq_nil_iff];omega
    have hall:Q2 r=none:=by rw[hall,if_neg hp];split<;>rfl
    simp only[hem,hall];cases d0<;>cases d1<;>simp
 ·have hh:uR no x=false:=by unfold uR;rw[tP h5];rfl
  have f:(U1 (Q7 x 4) (false||big x 4)).fl=true:=by
   by_cases v:4<=x.length
   ·have hbig:big x 4=false:=tP Z9
    have R:Q7 x 4=[]:=by unfold Q7;rw[hbig];exact List.drop_eq_nil_iff.2 (by show x.length<=4;omega)
    rw[R];exact a7z _ _
   ·have hbig:big x 4=true:=mN Z9
    rw[hbig];exact a19 _ _
  have B:mP no x=true:=by unfold mP;rw[f];simp
  rw[B,hh];simp
theorem a3X:GK 274 a6u:=gk func274<|by
 rintro⟨no,b⟩ (B:b.length<=1000);have L:∀(x:Bz),(T3 x 4).length=4:=λx=>by
  unfold T3;split
  ·exact List.length_replicate
  ·rename_i h;have:¬4>(x.length:Int):=by simpa[big] using h
   rw[List.length_take,show(4:Int).toNat=4 from rfl]
   omega
 refine U5 (gC sJ (gC qH (gC a2K (gC aS (gC qO (gC pE gN)))))) func274 Z3 (α:=let y:=(P1 no b);let r:=(0=y.Q/\y.sl.length=0/\True);bd ((b.length:Int)>65536) (r/\2=I2 no b/\True) (∃(x:tF.ι),let q:=(T3 (X1 x) (4:Int));let v:=(↑(q.getD 1 (0:UInt8)).toNat:Int);let z:=(↑(q.getD 0 (0:UInt8)).toNat:Int);let p:=(U1 (Q7 (X1 x) (4:Int)) (false||big (X1 x) (4:Int)));let u:=(! p.fl&&p.l.isEmpty);((b=x/\True)/\u9 x)/\br (!R9 x) (r/\8=I2 no b/\True) (r7 (4:Int)/\jX (2:Int) q.length/\∃(d:a5M.ι),((List.drop 2 q=d/\True)/\mK d)/\((! u)=false->W9 (0:Int) q.length)/\((! u||z !=112)=false->W9 (1:Int) q.length)/\∃(X:xA.ι),((! u||z !=112||IntKind.i64.wrap v !=no)=false->(((↑(be d):Int)=X.Q/\(Z0 Z5 p.out X.sl)/\True)/\True)/\PgB X)/\br (! u||z !=112||IntKind.i64.wrap v !=no|| !j8 X) (r/\3=I2 no b/\True) (((↑(be d):Int)=y.Q/\(Z0 Z5 p.out y.sl)/\True)/\0=I2 no b/\True)))) ⟨λh=>?_,λ_=>⟨b,⟨Y1,Nat.le_trans B M3⟩,λh=>?_,λh=>⟨⟨Z9,Z9⟩,⟨Z9,a0c⟩,(T3 (X1 b) 4).drop 2,⟨Y1,by unfold mK;rw[List.length_drop,L];omega⟩,
  λ_=>⟨Z9,a0c⟩,λ_=>⟨Z9,a0c⟩,rpQ (X1 b),λ_=>⟨Y1,?_⟩,λg=>?_,λg=>?_⟩⟩⟩
 ·have:=G5 h;have B:b.length<=1000:=B;omega
 ·have hu:R9 b=false:=by simpa using h
  have e:(E3 no b).2=false:=by unfold E3;rw[hu];rfl
  have f:P1 no b=⟨0,[]⟩:=by unfold P1;rw[e];rfl
  have i:I2 no b=8:=by unfold I2;rw[hu];rfl
  rw[f,i];exact Y1
 ·show(U1 (Q7 (X1 b) 4) (false||big (X1 b) 4)).out.length<1000000000000;unfold U1;rw[uF];have:=r5 (Q7 (X1 b) 4);omega
 ·have hu:R9 b=true:=by simpa using h
  have q:=(b0n no b hu).1;have e:(E3 no b).2=false:=by
   have g:(mP no (X1 b)|| !j8 (rpQ (X1 b)))=true:=g;rw[g] at q;exact(vY _).mp q.symm
  have f:P1 no b=⟨0,[]⟩:=by unfold P1;rw[e];rfl
  have i:I2 no b=3:=by unfold I2;rw[hu,e];rfl
  rw[f,i];exact Y1
 ·have hu:R9 b=true:=by simpa using h
  have q:=b0n no b hu;have e:(E3 no b).2=true:=by
   have g:(mP no (X1 b)|| !j8 (rpQ (X1 b)))=false:=g;rw[g] at q;exact(wT _).mp q.1.symm
  have f:P1 no b=rpQ (X1 b):=by unfold P1;rw[e,q.2 e];rfl
  have i:I2 no b=0:=by unfold I2;rw[hu,e];rfl
  rw[f,i];exact Y1
open Go.SS Go.RowKit Go.Shelf Go.Proofs.Tryz
attribute [local go_sem] Oper.semAt_some
structure Pend where
 at_:Int
 d:Bz
 deriving Inhabited
def Pend.ts(p:Pend):List T:=[.int .i64 p.at_,.str p.d]
def Pend.val(p:Pend):Value:=.agg #[.int .i64 p.at_,.string ⟨p.d.toArray⟩]
def uL{α:Type}(f:Nat->α)(k:Nat):List α:=(List.range k).map f
theorem oK{α:Type}(f:Nat->α)(k:Nat):uL f (k+1)=uL f k++[f k]:=by simp[uL,List.range_succ]
theorem a1n{α:Type}(f:Nat->α)(k:Nat):(uL f k).length=k:=by simp[uL]
def bwF(ps:Nat->Pend)(len j:Nat):Nat×Pend:=(len-1-j,ps (len-1-j))
def bwE(x:Nat×Pend):Array Value:= #[.int .i64 (x.1:Int),x.2.val]
def KpB(n Bs:Nat)(A B:World):Prop:=Below n A B/\∀v,A.cell? ⟨Bs,0,none⟩=some v->B.cell? ⟨Bs,0,none⟩=some v
theorem KpB.refl(n Bs:Nat)(A:World):KpB n Bs A A:=⟨Below.refl _ _,λ_ h=>h⟩
theorem KpB.trans{n Bs:Nat}{A B C:World}(h:KpB n Bs A B)(k:KpB n Bs B C):KpB n Bs A C:=⟨h.1.trans k.1,λv hv=>k.2 v (h.2 v hv)⟩
set_option maxHeartbeats 2000000 in
theorem c6t(F:Fence)(n:Nat)(h8:F.fn 320)(hro:F.round=none)(hn:1<=n)(l Bs n₀ b off len cap:Nat)(ps:Nat->Pend)(hreach:len<1000000000000)(hb:b<n₀)(J Jx:List (Nat×Pend)->World->Prop)
  (hY:∀pre x W,J pre W->pre.length<len->YieldAt F (n-1) prog l (bwE x) W λe W'=>
   (e= .returned (.bool true)/\J (pre++[x]) W'/\KpB n₀ Bs W W')∨(e= .returned (.bool false)/\Jx (pre++[x]) W'))
  (W:World) (hBs:W.cell? ⟨Bs,0,none⟩=some (.slice (some ⟨b,off,none⟩) len cap))
  (hc0:∀j,j<len->W.cell? ⟨b,off+j*2,none⟩=some (.int .i64 (ps j).at_)) (hc1:∀j,j<len->W.cell? ⟨b,off+j*2+1,none⟩=some (.string ⟨(ps j).d.toArray⟩)) (h0:J [] W):
  CallsIn F n prog 320 #[.func (.yield l) #[] #[],.pointer (some ⟨Bs,0,none⟩)] W λe W'=>(∃v,e= .returned v)/\
   ((∃ys,ys=uL (bwF ps len) len/\J ys W')∨(∃pre,(∃k,k<=len/\pre=uL (bwF ps len) k)/\Jx pre W')):=by
 refine callsIn_of_wp func320 rfl h8 ?_ hro
 simp only[Tryz.ntmps320,List.size_toArray,List.length_cons,List.length_nil,Nat.reduceAdd,Nat.reduceSub,Array.replicate_succ,Array.replicate_zero,List.push_toArray,List.append_toArray,List.nil_append,List.cons_append]
 gi_wp2
 gi_loopw [3] (λi wr=>∃k:Nat,k<=len/\i= .int .i64 ((len:Int)-1-k)/\J (uL (bwF ps len) k) wr/\KpB n₀ Bs W wr)
  (λi _=>(intOf i+1).toNat)
 case atStart=>exact⟨0,N7 _,W7,h0,KpB.refl _ _ _⟩
 case round=>
  obtain⟨k,hk,rfl,hJs,hnx⟩:=hrel;have hBx:wr.cell? ⟨Bs,0,none⟩=some (.slice (some ⟨b,off,none⟩) len cap):=hnx.2 _ hBs;by_cases hlt:k<len
  ·obtain⟨m,hm⟩:∃m,len=k+1+m:=⟨len-1-k,Z9⟩
   have hfk:bwF ps len k=(m,ps m):=by unfold bwF;rw[show len-1-k=m by omega]
   have e1:(len:Int)-1-k=(m:Int):=Z9
   rw[e1];have hm1:m<len:=Z9
   have hm2:len<=m+k+1:=Z9
   have hm3:m+k+1<=len:=Z9
   clear hm e1;have hx0:=(hnx.1.cell (p:=⟨b,off+m*2,none⟩) hb).trans (hc0 m Z9)
   have hx1:=(hnx.1.cell (p:=⟨b,off+m*2+1,none⟩) hb).trans (hc1 m Z9)
   obtain⟨fn,tmps,assign,body,hy,hR⟩:=hY _ (m,ps m) wr hJs (by rw[a1n];exact hlt)
   dsimp only[bwE,Pend.val] at hy
   gi_wp2
   refine hR.mono ?_
   rintro e W3 (⟨rfl,hJ3,hk3⟩|⟨rfl,hJx3⟩)
   ·gi_wp2
    go_roundw
    case rel=>exact⟨k+1,Z9,by congr 1;omega,by rw[oK,hfk];exact hJ3,hnx.trans hk3⟩
    case measure=>(simp[intOf]<;>omega)
   ·gi_wp2
    refine bodyPost_ret (results_none rfl _ _ _) rfl ?_
    exact⟨⟨_,rfl⟩,.inr ⟨_,⟨k+1,Z9,by rw[oK,hfk]⟩,hJx3⟩⟩
  ·obtain rfl:k=len:=by omega
   have e1:((k:Nat):Int)-1-k= -1:=Z9
   rw[e1]
   gi_wp2
   go_end0
   exact⟨⟨_,rfl⟩,.inl ⟨_,rfl,hJs⟩⟩
set_option maxHeartbeats 1000000 in
theorem a8l(F:Fence)(n:Nat)(h8:F.fn 320)(hro:F.round=none)(l Bs cap:Nat)(a:Option Addr)(J:List (Nat×Pend)->World->Prop)(W:World)(hBs:W.cell? ⟨Bs,0,none⟩=some (.slice a 0 cap))(h0:J [] W):
  CallsIn F n prog 320 #[.func (.yield l) #[] #[],.pointer (some ⟨Bs,0,none⟩)] W λe W'=>(∃v,e= .returned v)/\J [] W':=by
 refine callsIn_of_wp func320 rfl h8 ?_ hro
 simp only[Tryz.ntmps320,List.size_toArray,List.length_cons,List.length_nil,Nat.reduceAdd,Nat.reduceSub,Array.replicate_succ,Array.replicate_zero,List.push_toArray,List.append_toArray,List.nil_append,List.cons_append]
 gi_wp2
 gi_loopw [3] (λi wr=>i= .int .i64 (-1)/\J [] wr) (λ_ _=>0)
 case atStart=>exact⟨rfl,h0⟩
 case round=>
  obtain⟨rfl,hJs⟩:=hrel
  gi_wp2
  go_end0
  exact⟨⟨_,rfl⟩,hJs⟩
set_option maxHeartbeats 1000000 in
theorem c8Q(F:Fence)(n:Nat)(h6:F.fn 237)(hro:F.round=none)(a:Option Addr)(len cap:Nat)(w:World):
  CallsIn F n prog 237 #[.slice a len cap] w λe w'=>e= .returned (.func (.func 320) #[] #[.pointer (some ⟨w.heap.size,0,none⟩)])/\w'=w.alloc (.cells #[.slice a len cap] 39):=by
 refine callsIn_of_wp func237 rfl h6 ?_ hro
 simp only[Tryz.ntmps237,List.size_toArray,List.length_cons,List.length_nil,Nat.reduceAdd,Nat.reduceSub,Array.replicate_succ,Array.replicate_zero,List.push_toArray,List.append_toArray,List.nil_append,List.cons_append]
 gi_wp2
 go_ret
 exact Y1
def yD(n:Nat)(W:World)(v:Value)(len:Nat)(ps:Nat->Pend):Prop:=
 (∃a cap,v= .slice a 0 cap/\len=0)∨∃b off cap,v= .slice (some ⟨b,off,none⟩) len cap/\b<n/\∀j,j<len->W.cell? ⟨b,off+j*2,none⟩=some (.int .i64 (ps j).at_)/\W.cell? ⟨b,off+j*2+1,none⟩=some (.string ⟨(ps j).d.toArray⟩)
theorem yD.below{n:Nat}{A B:World}(h:Below n A B){v:Value}{len:Nat}{ps:Nat->Pend}:yD n A v len ps->yD n B v len ps
 | .inl e=>.inl e
 | .inr ⟨b,off,cap,e,hb,hc⟩=>.inr ⟨b,off,cap,e,hb,λj J=>⟨(h.cell (p:=⟨b,off+j*2,none⟩) hb).trans (hc j J).1,(h.cell (p:=⟨b,off+j*2+1,none⟩) hb).trans (hc j J).2⟩⟩
theorem b6L(F:Fence)(n:Nat)(u:F.fn 320)(o:F.round=none)(x:1<=n)(Bs N:Nat)(v:Value)(len:Nat)(ps:Nat->Pend)(h:len<1000000000000)(w:World)(q:Bs<w.heap.size)(i:N<=w.heap.size)
  (C:w.cell? ⟨Bs,0,none⟩=some v) (I:yD N w v len ps):
  SeqStopsK F n prog 320 #[.pointer (some ⟨Bs,0,none⟩)] bwE (KpB N Bs) (λz=>z=uL (bwF ps len) len)
   (λpre=>∃k,k<=len/\pre=uL (bwF ps len) k) len w:=λl J Jx W t _ _ Y r=>by
 have d:=(t.cell (p:=⟨Bs,0,none⟩) q).trans C;rcases I.below (t.mono i) with⟨a,cap,rfl,rfl⟩|⟨b,off,cap,rfl,B,f⟩
 ·exact(a8l F n u o l Bs cap a J W d r).mono λe W' ⟨A,g⟩=>⟨A,.inl ⟨_,rfl,g⟩⟩
 ·exact c6t F n u o x l Bs N b off len cap ps h B J Jx Y W d (λj g=>(f j g).1) (λj g=>(f j g).2) r
theorem yD.mono{n N:Nat}{W:World}{v:Value}{len:Nat}{ps:Nat->Pend}(h:n<=N):yD n W v len ps->yD N W v len ps
 | .inl e=>.inl e
 | .inr ⟨b,off,cap,e,hb,hc⟩=>.inr ⟨b,off,cap,e,xX hb h,hc⟩
def cO(n:Nat)(W:World)(v:Value)(m:Nat)(L:List (Bz)):Prop:=∃b off cap,v= .slice (some ⟨b,off,none⟩) m cap/\b<n/\∀j,j<m->W.cell? ⟨b,off+j,none⟩=some (.string ⟨(L.getD j []).toArray⟩)
theorem cO.below{n:Nat}{A B:World}(h:Below n A B){v:Value}{m:Nat}{L:List (Bz)}:cO n A v m L->cO n B v m L:=
 λ⟨b,off,cap,e,hb,hc⟩=>⟨b,off,cap,e,hb,λj J=>(h.cell (p:=⟨b,off+j,none⟩) hb).trans (hc j J)⟩
theorem eK(w:World)(cs:Array Value)(t:TypeId)(j:Nat){v:Value}(h:cs[j]? =some v):(w.alloc (.cells cs t)).cell? ⟨w.heap.size,j,none⟩=some v:=by
 have:=World.alloc_heap_new w (.cells cs t);unfold World.cell?;simp only;rw[this];exact h
theorem uP{A:World}(o:Obj){p:Addr}{v:Value}(h:A.cell? p=some v):(A.alloc o).cell? p=some v:=cell_kept h (World.grownBy_alloc _ o none) (λr e=>by cases e)
theorem b1A{w:World}(cs:Array Value)(t:TypeId)(d O o:Obj)(j:Nat){v:Value}(h:cs[j]? =some v):
  ((((w.alloc (.cells cs t)).alloc d).alloc O).alloc o).cell? ⟨w.heap.size,j,none⟩=some v:=by
 exact uP _ (uP _ (uP _ (eK w cs t j h)))
set_option maxHeartbeats 4000000 in
theorem c2e(F:Fence)(n:Nat)(h3:F.fn 142)(h4:F.fn 237)(h5:F.fn 320)(hro:F.round=none)(hn:6<=n)(sec cache keep:Value)(armed:Bool)(at_:Nat)(m len:Nat)(L:List (Bz))(ps:Nat->Pend)(ca:Option Addr)(clen ccap:Nat)(w:World)
  (hcv:cache= .slice ca clen ccap) (hI:yD w.heap.size w cache len ps) (hS:cO w.heap.size w sec m L) (hreach:len<1000000000000) (hat:at_<m):
  CallsIn F n prog 142 #[.agg #[sec,cache,.bool armed,keep],.int .i64 at_] w λe W'=>
   ∃v,e= .returned v/\Below w.heap.size w W'/\((v= .string ⟨(L.getD at_ []).toArray⟩/\∀j,j<len->(ps j).at_≠at_)∨∃k,k<len/\v= .string ⟨(ps (len-1-k)).d.toArray⟩/\(ps (len-1-k)).at_=at_/\∀j,j<k->(ps (len-1-j)).at_≠at_):=by
 have h1:1<=n:=Z9
 subst hcv;refine callsIn_of_wp_marks func142 rfl h3 ?_ hro
 simp only[Tryz.ntmps142,List.size_toArray,List.length_cons,List.length_nil,Nat.reduceAdd,Nat.reduceSub,Array.replicate_succ,Array.replicate_zero,List.push_toArray,List.append_toArray,List.nil_append,List.cons_append]
 gi_wp2_with (gi_at_call 237;refine(c8Q F (n-1) h4 hro _ _ _ _).mono ?_;rintro e w' ⟨rfl,rfl⟩)
 obtain⟨W0,hW0⟩:∃W0,(((w.alloc (.cells #[sec,.slice ca clen ccap,.bool armed,keep] 41)).alloc (.cells #[.int .i64 (at_:Int)] 3)).alloc (.cells #[.string ⟨#[]⟩] 9)).alloc (.cells #[.slice ca clen ccap] 39)=W0:=⟨_,rfl⟩;have bD:W0.cell? ⟨w.heap.size,0,none⟩=some sec:=by rw[←hW0];exact b1A _ _ _ _ _ 0 rfl
 have bA:Boxed W0 (w.heap.size+1) 3 (.int .i64 (at_:Int)):=by
  have:=((Boxed.new (w.alloc (.cells #[sec,.slice ca clen ccap,.bool armed,keep] 41)) 3 (.int .i64 (at_:Int))).alloc (.cells #[.string ⟨#[]⟩] 9)).alloc (.cells #[.slice ca clen ccap] 39);rw[←hW0]
  simpa only[World.size_alloc] using this
 have bR:Boxed W0 (w.heap.size+1+1) 9 (.string ⟨#[]⟩):=by
  have:=(Boxed.new ((w.alloc (.cells #[sec,.slice ca clen ccap,.bool armed,keep] 41)).alloc (.cells #[.int .i64 (at_:Int)] 3)) 9 (.string ⟨#[]⟩)).alloc (.cells #[.slice ca clen ccap] 39);rw[←hW0]
  simpa only[World.size_alloc] using this
 have bN:Boxed W0 (w.heap.size+1+1+1) 39 (.slice ca clen ccap):=by
  have:=Boxed.new (((w.alloc (.cells #[sec,.slice ca clen ccap,.bool armed,keep] 41)).alloc (.cells #[.int .i64 (at_:Int)] 3)).alloc (.cells #[.string ⟨#[]⟩] 9)) 39 (.slice ca clen ccap);rw[←hW0]
  simpa only[World.size_alloc] using this
 have hB0:Below w.heap.size w W0:=by
  rw[←hW0];exact((((Below.refl _ w).alloc (U9 _) _).alloc W7 _).alloc C5 _).alloc C5 _
 have hsz:W0.heap.size=w.heap.size+4:=by rw[←hW0];simp
 rw[hW0];have kpB_b:∀(W:World) (l:Nat) (o o':Obj),W0.heap.size<=l->W.heap[l]? =some o->o.isCells=false->o.isWalk=false->KpB w.heap.size (w.heap.size+1+1+1) W (W.putObj l o'):=λW l o o' hl ho hc hk=>
  ⟨belowK_b (w:=w) (U9 _) W l o o' Z9 ho hc hk,λv hv=>cell_kept hv (grownBy_putObj' _ l o') (λr e=>by cases e;exact⟨_,ho,hc⟩)⟩
 refine wpIn_rangeFunc_ownH hro h1 (gf:=320) (lb:= #[.pointer (some ⟨w.heap.size+1+1+1,0,none⟩)]) rfl h5 (enters_of func320 R4 rfl)
  (b6L F (n-1) h5 hro Z9 (w.heap.size+1+1+1) w.heap.size _ len ps hreach W0 Z9 Z9 bN.cell (hI.below hB0)) KpB.trans kpB_b (Below.refl _ _) (λ_=>rfl)
  (λpre W=>(((∀x ∈ pre,x.2.at_≠(at_:Int))/\Boxed W (w.heap.size+1+1) 9 (.string ⟨#[]⟩))/\(Boxed W (w.heap.size+1) 3 (.int .i64 (at_:Int))/\W.cell? ⟨w.heap.size,0,none⟩=some sec))/\Below w.heap.size w W)
  (λc pre W=>((c= .ret/\∃ini last,pre=ini++[last]/\(∀p ∈ ini,p.2.at_≠(at_:Int))/\last.2.at_=(at_:Int)/\W.cell? ⟨w.heap.size+1+1,0,none⟩=some (.string ⟨last.2.d.toArray⟩)))/\Below w.heap.size w W)
  (OwnFrom.and (OwnFrom.and (OwnFrom.and (ownFrom_pure _ _) (Own.from (boxed_own _ _ _) _)) (OwnFrom.and (Own.from (boxed_own _ _ _) _) (Own.from (λs A B row hs hg hr=>cell_kept hs hg hr) _))) (ownFrom_below (U9 _) Z9))
  (λc=>OwnFrom.and (Own.from (λs A B row hs hg hr=>by obtain⟨hc,ini,last,e1,e2,e3,e4⟩:=hs;exact⟨hc,ini,last,e1,e2,e3,cell_kept e4 hg hr⟩) _) (ownFrom_below (U9 _) Z9))
  ⟨⟨⟨W7,bR⟩,⟨bA,bD⟩⟩,hB0⟩
  (λx a' W=>∃Bx,w.heap.size+1+1<Bx/\(W.cell? ⟨Bx,0,none⟩=some (.int .i64 x.2.at_)/\W.cell? ⟨Bx,1,none⟩=some (.string ⟨x.2.d.toArray⟩))/\a'={tmps:= #[.agg #[sec,.slice ca clen ccap,.bool armed,keep],.int .i64 (at_:Int),.pointer (some ⟨w.heap.size,0,none⟩),.pointer (some ⟨w.heap.size+1,0,none⟩),.pointer (some ⟨w.heap.size+1+1,0,none⟩),undef,.pointer (some ⟨Bx,0,none⟩),.pointer (some ⟨w.heap.size,1,none⟩),.slice ca clen ccap,.func (.func 320) #[] #[.pointer (some ⟨w.heap.size+1+1+1,0,none⟩)],.int .i64 (x.1:Int),x.2.val,undef,undef,undef,undef,undef,undef,undef,undef,undef,undef,undef],defers:=[]})
  (λx a' _ X Y row hs hg hr=>by obtain⟨Bx,e1,⟨e2,e4⟩,e3⟩:=hs;exact⟨Bx,e1,⟨cell_kept e2 hg (λr e=>(hr r e).2),cell_kept e4 hg (λr e=>(hr r e).2)⟩,e3⟩)
  ?assign ?body ?done ?stop
 case assign=>
  rintro l pre x W K ⟨⟨⟨hp,bR1⟩,bA1,bD1⟩,hB1⟩ hK;dsimp only[bwE,Pend.val]
  gi_wp2
  exact hK _ _ ((KeepsOthers.alloc _ _).from _) ⟨(Below.refl _ W).alloc hB1.size _,λv hv=>uP _ hv⟩ ⟨⟨⟨hp,bR1.alloc _⟩,bA1.alloc _,uP _ bD1⟩,hB1.alloc hB1.size _⟩ ⟨W.heap.size,bR1.lt,⟨eK _ _ _ 0 rfl,eK _ _ _ 1 rfl⟩,rfl⟩
 case body=>
  rintro l pre x a' W hl ⟨r,hr⟩ ⟨⟨⟨hp,bR1⟩,bA1,bD1⟩,hB1⟩ ⟨Bx,hBx,⟨e2,e4⟩,rfl⟩ hlt;have cA:=bA1.cell;have cR:=bR1.cell;have fR:=bR1.frozen
  gi_wp2
  ·rename_i hx;have hx:x.2.at_=(at_:Int):=by simpa using hx
   exact⟨(KeepsOthers.setCell _ _ _).from _,⟨rfl,pre,x,rfl,hp,hx,(bR1.set _).cell⟩,hB1.setCell (p:=⟨w.heap.size+1+1,0,none⟩) C5 _⟩
  ·rename_i hx;have hx:x.2.at_≠(at_:Int):=by simpa using hx
   exact⟨KeepsFrom.refl _ _,KpB.refl _ _ _,⟨⟨⟨λp hp'=>(List.mem_append.1 hp').elim (hp p) (λe=>by simp at e;subst e;exact hx),bR1⟩,bA1,bD1⟩,hB1⟩⟩
 case done=>
  rintro D ys W hD rfl ⟨⟨⟨hp,bR1⟩,bA1,bD1⟩,hB1⟩ hK;have cA:=bA1.cell;have cR:=bR1.cell;have fR:=bR1.frozen;obtain⟨sb,so,sc,rfl,hsb,hsc⟩:=hS;have cS:W.cell? ⟨sb,so+at_,none⟩=some (.string ⟨(L.getD at_ []).toArray⟩):=(hB1.cell (p:=⟨sb,so+at_,none⟩) hsb).trans (hsc at_ hat);have hg:(L.getD at_ []:Bz)=L[at_]?.getD []:=P3
  rw[hg] at cS
  gi_wp2
  have hK':=(KeepsOthers.setCell W ⟨w.heap.size+1+1,0,none⟩ (.string ⟨(L[at_]?.getD []).toArray⟩)).same D _ hK rfl;refine⟨W7,.inl ⟨_,_,rfl,run_takeDeferred hK',?_⟩⟩
  have hc5:=cell_kept (bR1.set (.string ⟨(L[at_]?.getD []).toArray⟩)).cell (grownBy_putObj' _ D (.deferred none)) (λr e=>by cases e;exact⟨_,hK',rfl⟩)
  refine⟨.string ⟨(L[at_]?.getD []).toArray⟩,?_,_,rfl,(hB1.setCell (p:=⟨w.heap.size+1+1,0,none⟩) C5 _).trans (belowK_b (w:=w) (U9 _) _ D _ _ Z9 hK' rfl rfl),.inl ⟨rfl,λj hj=>?_⟩⟩
  ·simp[results,Tryz.f142,go_sem,hc5]
  ·have:=hp (bwF ps len (len-1-j)) (by simp only[uL,List.mem_map,List.mem_range];exact⟨len-1-j,Z9,rfl⟩)
   unfold bwF at this;rw[show len-1- (len-1-j)=j by omega] at this
   exact this
 case stop=>
  rintro D c pre W hD ⟨k,hk,rfl⟩ ⟨⟨rfl,ini,last,e1,e2,e3,hcr⟩,hB1⟩ hK
  gi_wp2
  refine⟨W7,.inl ⟨_,_,rfl,run_takeDeferred hK,?_⟩⟩
  have hc5:=cell_kept hcr (grownBy_putObj' _ D (.deferred none)) (λr e=>by cases e;exact⟨_,hK,rfl⟩)
  obtain⟨k',rfl⟩:∃k',k=k'+1:=by
   cases k with
   |zero=>simp[uL] at e1
   |succ k'=>exact⟨k',rfl⟩
  rw[oK] at e1;obtain⟨rfl,e5⟩:=List.append_inj' e1 rfl;obtain rfl:bwF ps len k'=last:=by simpa using e5
  refine⟨.string ⟨(bwF ps len k').2.d.toArray⟩,?_,_,rfl,hB1.trans (belowK_b (w:=w) (U9 _) W D _ _ Z9 hK rfl rfl),.inr ⟨k',Z9,rfl,e3,λj hj=>e2 (bwF ps len j) (by simp only[uL,List.mem_map,List.mem_range];exact⟨j,hj,rfl⟩)⟩⟩
  simp[results,Tryz.f142,go_sem,hc5]
structure Dsk where
 E:List (Bz)
 C:List Pend
 A:Bool
 keep:List Int
 deriving Inhabited
def Z1(L:List Pend)(i:Nat):List T:=(L.getD i dz).ts
def v4(L:List Pend):T:=.sl 2 L.length (Z1 L)
def Y9(L:List Int)(i:Nat):List T:=[.int .i64 (L.getD i 0)]
def sM(L:List Int):T:=.sl 1 L.length (Y9 L)
def Dsk.ts(d:Dsk):List T:=[s9 d.E,v4 d.C,.bool d.A,sM d.keep]
abbrev zI(a b:Dsk):Prop:=Z0 Z5 a.E b.E/\Z0 Z1 a.C b.C/\a.A=b.A/\Z0 Y9 a.keep b.keep/\True
theorem eqD(d:Dsk):zI d d:=Y1
def E6(L:List Pend)(at_:Int):Nat->Option (Bz)
 |0=>none
 |n+1=>if(L.getD n dz).at_=at_ then some (L.getD n dz).d else E6 L at_ n
theorem jM{L:List Pend}{at_:Int}:∀{n:Nat},(∀j,j<n->(L.getD j dz).at_≠at_)->E6 L at_ n=none
 |0,_=>rfl
 |n+1,h=>by
  unfold E6;rw[if_neg (h n (Nat.lt_succ_self n))];exact jM λj J=>h j Z9
theorem jD{L:List Pend}{at_:Int}{i:Nat}(h:(L.getD i dz).at_=at_):∀{n:Nat},i<n->(∀j,i<j->j<n->(L.getD j dz).at_≠at_)->E6 L at_ n=some (L.getD i dz).d
 |0,hi,_=>absurd hi (D0 i)
 |n+1,hi,hj=>by
  unfold E6;by_cases e:i=n
  ·subst e;rw[if_pos h]
  ·rw[if_neg (hj n Z9 (Nat.lt_succ_self n))]
   exact jD h Z9 λj f g=>hj j f Z9
def S0(d:Dsk)(at_:Nat):Bz:=(E6 d.C at_ d.C.length).getD (d.E.getD at_ [])
def AtB(x:Dsk×Nat):Prop:=x.2<x.1.E.length/\x.1.C.length<1000000000000
def oE:Rl:=⟨Dsk×Nat,λx=>[.agg x.1.ts,.int .i64 x.2],λx=>.str (S0 x.1 x.2),AtB⟩
def c1V:Con:=.rel oE
theorem aG{E:Env}{w:World}{sz n:Nat}{row:Nat->List T}{v:Value}(h:Rd E w (.sl sz n row) v):(∃a,v= .slice a 0 0/\n=0)∨(∃(b off cap:Nat) (u:Nat->Nat->Value),v= .slice (some ⟨b,off,none⟩) n cap/\E.N b/\
  (∀i j t,i<n->(row i)[j]? =some t->w.cell? ⟨b,off+i*sz+j,none⟩=some (u i j)/\Rd E w t (u i j))):=by
 cases h with
 |slNil=>exact .inl ⟨_,Y1⟩
 |slEmp=>exact .inl ⟨_,Y1⟩
 |sl _ _ _ b off cap u e C l f r d=>exact .inr ⟨b,off,cap,u,rfl,e,λi j t hi J=>⟨r i j t hi J,d i j t hi J⟩⟩
theorem gB{E:Env}{w:World}{l:Bz}{v:Value}(h:Rd E w (.str l) v):v= .string ⟨l.toArray⟩:=by cases h;rfl
theorem tG{E:Env}{w:World}{k:IntKind}{n:Int}{v:Value}(h:Rd E w (.int k n) v):v= .int k n:=by cases h;rfl
theorem a3H{E:Env}{w:World}{b:Bool}{v:Value}(h:Rd E w (.bool b) v):v= .bool b:=by cases h;rfl
theorem a8i{E:Env}{w:World}{cs:List T}{v:Value}(h:Rd E w (.agg cs) v):∃vs,v= .agg vs/\tB E w cs vs:=by
 cases h with
 |agg _ vs l t=>exact⟨vs,rfl,l,t⟩
theorem c1w{E:Env}{w:World}{L:List (Bz)}{v:Value}(hE:∀b,E.N b->b<w.heap.size)(h:Rd E w (s9 L) v)(n:0<L.length):cO w.heap.size w v L.length L:=by
 rcases aG h with⟨a,_,f⟩|⟨b,off,cap,u,rfl,hN,U⟩
 ·omega
 ·refine⟨b,off,cap,rfl,hE b hN,λj hj=>?_⟩
  obtain⟨d,e⟩:=U j 0 (.str (L.getD j [])) hj rfl;rw[gB e] at d
  simpa using d
theorem b8b{E:Env}{w:World}{L:List Pend}{v:Value}(hE:∀b,E.N b->b<w.heap.size)(h:Rd E w (v4 L) v):yD w.heap.size w v L.length (λi=>L.getD i dz)/\∃a l c,v= .slice a l c:=by
 rcases aG h with⟨a,rfl,g⟩|⟨b,off,cap,u,rfl,hN,U⟩
 ·exact⟨.inl ⟨a,0,rfl,g⟩,_,_,_,rfl⟩
 ·refine⟨.inr ⟨b,off,cap,rfl,hE b hN,λj hj=>⟨?_,?_⟩⟩,_,_,_,rfl⟩
  ·obtain⟨e,f⟩:=U j 0 (.int .i64 (L.getD j dz).at_) hj rfl;rw[tG f] at e;exact e
  ·obtain⟨e,f⟩:=U j 1 (.str (L.getD j dz).d) hj rfl;rw[gB f] at e;exact e
theorem dM:GK 142 c1V:=gk func142<|by
 rintro⟨d,at_⟩ ⟨t,h⟩;simp only at t h;intro E w vs M x hv;obtain⟨z,hv⟩:=hv;obtain⟨q,V,rfl⟩:∃q V,vs= #[q,V]:=by
  have h2:vs.size=2:=z.symm;exact⟨vs[0],vs[1],by apply Array.ext<;>simp[h2];intro i hi _;match i,hi with|0,_=>rfl|1,_=>rfl⟩
 obtain⟨cs,rfl,u,r⟩:=a8i (hv 0 (.agg d.ts) q rfl rfl);obtain rfl:=tG (hv 1 (.int .i64 at_) V rfl rfl);obtain⟨f,C,c2,o,rfl⟩:∃f C c2 o,cs= #[f,C,c2,o]:=by
  have h2:cs.size=4:=u.symm;exact⟨cs[0],cs[1],cs[2],cs[3],by apply Array.ext<;>simp[h2];intro i hi _;match i,hi with|0,_=>rfl|1,_=>rfl|2,_=>rfl|3,_=>rfl⟩
 have I:=c1w x (r 0 (s9 d.E) f rfl rfl) Z9
 obtain⟨F,a,l,c,g⟩:=b8b x (r 1 (v4 d.C) C rfl rfl);obtain rfl:=a3H (r 2 (.bool d.A) c2 rfl rfl);refine(callsIn_wide (n:=6)).1 ((c2e Fence.wide 6 trivial trivial trivial rfl (U9 _) f C o d.A at_ d.E.length d.C.length d.E (λi=>d.C.getD i dz) a l c w g F I h t).mono λe W' A=>?_)
 obtain⟨v,rfl,B,R⟩:=A;refine⟨v,rfl,B,?_⟩
 have:v= .string ⟨(S0 d at_).toArray⟩:=by
  rcases R with⟨rfl,J⟩|⟨k,L,rfl,h1,h2⟩
  ·unfold S0;rw[jM J];rfl
  ·unfold S0;rw[jD (i:=d.C.length-1-k) h1 Z9 λj hj1 hj2=>?_]
   ·rfl
   ·have:=h2 (d.C.length-1-j) Z9
    rw[show d.C.length-1- (d.C.length-1-j)=j by omega] at this
    exact this
 rw[this];exact .str _
def P2(m:Nat)(p:Pend):Bool:= !V6 p.at_ 0 ((m:Int)-1)||decide ((p.d.length:Int)>160)
def F8(d:Dsk):Prop:=1<=d.E.length/\d.E.length<=100/\d.C.length<=500/\d.keep.length<=500/\(d.A=false->d.keep.length=0)/\(∀i,i<d.E.length->(d.E.getD i []).length<=160)/\
 ∀i,i<d.C.length->P2 d.E.length (d.C.getD i dz)=false
noncomputable instance(d:Dsk):Decidable (F8 d):=Classical.propDecidable _
def yT(d:Dsk):Bool:=decide (F8 d)
theorem kD(d:Dsk):yT d=true↔F8 d:=decide_eq_true_iff
theorem a1U{d:Dsk}(h:¬F8 d):false=yT d:=(tP h).symm
def c2M(d:Dsk):Prop:=L8 d.E.length/\L8 d.C.length/\L8 d.keep.length
def c5w(d:Dsk):T:=.fn (.func 307) [.bref d.ts]
def a0V:Rl:=⟨Dsk×Pend,λx=>[.agg x.2.ts,.bref x.1.ts],λx=>.bool (P2 x.1.E.length x.2),λx=>L8 x.1.E.length⟩
def b2C:Con:=.rel a0V
theorem a8v:GK 307 b2C:=gk func307<|by
 rintro⟨d,p⟩ (h:d.E.length<1000000000000);refine U5 (gC tJ gN) func307 Z3 (α:=let q:=(d.E.length:Int);m4 q/\(!(decide (0<=p.at_)&&decide (p.at_<q))||decide ((p.d.length:Int)>160))=P2 d.E.length p) ⟨⟨Z9,Z9⟩,?_⟩
 unfold P2 V6;rw[show decide (p.at_<(d.E.length:Int))=decide (p.at_<=(d.E.length:Int)-1) from decide_eq_decide.2 Z9]
theorem U0{ρ:Nat->Option Nat}(cs:List T):J6 ρ (.bref cs) (.bref cs):=⟨1,_,rfl,RLe.refl _⟩
def a0e:Rl:=⟨List Pend×Dsk,λx=>[v4 x.1,c5w x.2],λx=>.int .i64 (S5 x.1.length λi=>P2 x.2.E.length (x.1.getD i dz)),λx=>L8 x.1.length/\L8 x.2.E.length⟩
def b4C:Con:=.rel a0e
def b3C(L:List Pend)(d:Dsk):Nat->Ann
 |0=>.one (V5 L.length λi=>P2 d.E.length (L.getD i dz)) (λx=>⟨[(0,v4 L),(1,c5w d),(7,.int .i64 L.length),(8,.int .i64 x.1)],[]⟩) (λx=>L.length-x.1) [] [] (λ_=>Z3)
 |_=>.none
theorem a7Z:GK 359 b4C:=gk func359<|by
 rintro⟨L,d⟩ ⟨f,hd⟩;have f:L.length<1000000000000:=f;refine U5 (gC a8v gN) func359 (b3C L d) (α:=let r:=(L.length:Int);let p:=(T.bref [T.sl 1 d.E.length (Z5 d.E),T.sl 2 d.C.length (Z1 d.C),T.bool d.A,T.sl 1 d.keep.length (Y9 d.keep)]);(∃(x:V5 L.length λ(i:Nat)=>P2 d.E.length (L.getD i dz)),((Z0 Z1 L L)/\(Fn.func 307=Fn.func 307/\J6 (λ(x:Nat)=>none) p p/\True)/\r=r/\0=(x.1:Int)/\True)/\True)/\∀(x:V5 L.length λ(i:Nat)=>P2 d.E.length (L.getD i dz)),let q:=(x.1:Int);let z:=(L.getD q.toNat dz);bd (q<r) (W9 q L.length/\∃(X:a0V.ι),(((z.at_=X.2.at_/\z.d=X.2.d/\True)/\(zI d X.1)/\True)/\L8 X.1.E.length)/\br (P2 X.1.E.length X.2) (q=S5 L.length λ(i:Nat)=>P2 d.E.length (L.getD i dz)) (Ri (q+1)/\∃(y:V5 L.length λ(i:Nat)=>P2 d.E.length (L.getD i dz)),(((Z0 Z1 L L)/\(Fn.func 307=Fn.func 307/\J6 (λ(x:Nat)=>none) p p/\True)/\r=r/\q+1=(y.1:Int)/\True)/\True)/\Lt (L.length-y.1) (L.length-x.1))) ((-1:Int)=S5 L.length λ(i:Nat)=>P2 d.E.length (L.getD i dz))) ⟨⟨F2,⟨Y1,⟨rfl,U0 _,Z6⟩,Y1⟩,Z6⟩,λx=>⟨λC=>?_,λC=>?_⟩⟩
 ·have h:=Y2 C;refine⟨Y6 h,(d,L.getD x.1 dz),⟨Y1,hd⟩,λhp=>(N8 h hp x.2.2).symm,λhp=>⟨W2 h Z9,x.succ h hp,⟨⟨Y1,⟨rfl,U0 _,Z6⟩,rfl,I8,Z6⟩,Z6⟩,V5.ext_lt h⟩⟩
 ·have e:=X9 C;exact(K1 λj J=>x.2.2 j (xX J e)).symm
def aT:Rl:=⟨List Pend×Dsk,λx=>[v4 x.1,c5w x.2],λx=>.bool (anyI x.1.length λi=>P2 x.2.E.length (x.1.getD i dz)),λx=>L8 x.1.length/\L8 x.2.E.length⟩
def b2p:Con:=.rel aT
theorem a6E:GK 306 b2p:=gk func306<|by
 rintro⟨L,d⟩ h;exact U5 (gC a7Z gN) func306 Z3 (α:=∃(x:a0e.ι),(((Z0 Z1 L x.1)/\(Fn.func 307=Fn.func 307/\(zI d x.2)/\True)/\True)/\L8 x.1.length/\L8 x.2.E.length)/\decide ((S5 x.1.length λ(i:Nat)=>P2 x.2.E.length (x.1.getD i dz))≥(0:Int))=anyI L.length λ(i:Nat)=>P2 d.E.length (L.getD i dz)) ⟨(L,d),⟨⟨Y1,⟨rfl,(eqD _),Z6⟩,Z6⟩,h⟩,C7 _ _⟩
def mJ:Rl:=⟨Dsk,λd=>[.agg d.ts],λd=>.bool (yT d),c2M⟩
def b2q:Con:=.rel mJ
def b3p:Con:=.rel mJ
def dD(d:Dsk):Option Ob:=some (.arr true 1000000 4 1 λ_=>d.ts)
def b1r(d:Dsk):Nat->Ann
 |0=>.one (V5 d.E.length λi=>L0 false (d.E.getD i [])) (λx=>⟨[(1,.ref 0 0 0),(3,.int .i64 d.E.length),(4,.int .i64 x.1)],[dD d]⟩) (λx=>d.E.length-x.1) [.box 0] [.box 0] (λ_=>fun
  |1=>.one (V5 d.C.length λi=>P2 d.E.length (d.C.getD i dz)) (λy=>⟨[(1,.ref 0 0 0),(3,.int .i64 d.E.length),(5,.int .i64 y.1)],[dD d]⟩) (λy=>d.C.length-y.1) [.box 0] [.box 0] (λ_=>Z3)
  |_=>.none)
 |_=>.none
def b30:Con:=.rel oE
def a1M(d:Dsk)(at_:Nat):Type:={i:Nat//i<=d.C.length/\E6 d.C at_ d.C.length=E6 d.C at_ i}
def b1z(d:Dsk)(at_:Nat):Nat->Ann
 |0=>.one (a1M d at_) (λx=>⟨[(1,.int .i64 at_),(2,.ref 0 0 0),(5,.int .i64 ((x.1:Int)-1))],[dD d]⟩) (λx=>x.1) [.box 0] [.box 0] (λ_=>Z3)
 |_=>.none
theorem a7X:GK 226 b2q:=gk func226<|by
 rintro(d:Dsk) ⟨e,f,h3⟩;have e:d.E.length<1000000000000:=e;have f:d.C.length<1000000000000:=f;refine U5 (gC O0 (gC aI (gC a6E gN))) func226 Z3 (α:=br (!V6 (d.E.length:Int) (1:Int) (100:Int)||decide ((d.C.length:Int)>500)||decide ((d.keep.length:Int)>500)|| !d.A&&decide ((d.keep.length:Int)>0)) (false=yT d) (∃(x:dJ.ι),(((Z0 Z5 d.E x.1)/\Value.func (Fn.func 305) #[] #[]=Value.func (Fn.func (match x.2 with|true=>361|false=>305)) #[] #[]/\True)/\L8 x.1.length)/\∃(X:aT.ι),((!anyI x.1.length λ(i:Nat)=>L0 x.2 (x.1.getD i []))=true->((Z0 Z1 d.C X.1)/\(Fn.func 307=Fn.func 307/\(zI d X.2)/\True)/\True)/\L8 X.1.length/\L8 X.2.E.length)/\((!anyI x.1.length λ(i:Nat)=>L0 x.2 (x.1.getD i []))&& !anyI X.1.length λ(i:Nat)=>P2 X.2.E.length (X.1.getD i dz))=yT d)) ⟨λh=>a1U ?_,λh=>⟨(d.E,false),⟨Y1,e⟩,(d.C,d),λ_=>⟨⟨Y1,⟨rfl,(eqD _),Z6⟩,Z6⟩,f,e⟩,?_⟩⟩
 ·rintro⟨p1,p2,p3,p4,p5,_⟩;simp[V6] at h;cases ha:d.A with
  |true=>simp[ha] at h;omega
  |false=>simp[ha] at h;have:=p5 ha;omega
 ·simp[V6] at h;rw[Bool.eq_iff_iff,kD];show((!anyI d.E.length λi=>L0 false (d.E.getD i []))&& !anyI d.C.length λi=>P2 d.E.length (d.C.getD i dz))=true↔F8 d
  simp only[J4,vY,P4];constructor
  ·rintro⟨q,Q⟩;exact⟨Z9,Z9,Z9,Z9,λha=>by have:=h.2 ha;simp[this],λi hi=>eV.1 (q i hi),Q⟩
  ·rintro⟨_,_,_,_,_,q,Q⟩;exact⟨λi hi=>eV.2 (q i hi),Q⟩
theorem a8R:GK 157 b3p:=gk func157<|by
 rintro(d:Dsk) ⟨f,e,h3⟩;have f:d.E.length<1000000000000:=f;have e:d.C.length<1000000000000:=e;refine U5 (gC z7 gN) func157 (b1r d) (α:=let k:=(d.C.length:Int);let j:=(d.keep.length:Int);let v:=(false=yT d);let u:=(0=0/\0=0);let z:=(oo (zI d d));let p:=(d.E.length:Int);br (!V6 p (1:Int) (100:Int)||decide (k>500)||decide (j>500)|| !d.A&&decide (j>0)) v ((∃(x:V5 d.E.length λ(i:Nat)=>L0 false (d.E.getD i [])),(u/\p=p/\0=(x.1:Int)/\True)/\z/\True)/\∀(x:V5 d.E.length λ(i:Nat)=>L0 false (d.E.getD i [])),let r:=(x.1:Int);bd (r<p) (W9 r d.E.length/\bd ((↑(d.E.getD r.toNat []).length:Int)>160) v (Ri (r+1)/\∃(y:V5 d.E.length λ(i:Nat)=>L0 false (d.E.getD i [])),((u/\p=p/\r+1=(y.1:Int)/\True)/\z/\True)/\Lt (d.E.length-y.1) (d.E.length-x.1))) ((∃(x:V5 d.C.length λ(i:Nat)=>P2 d.E.length (d.C.getD i dz)),(u/\p=p/\0=(x.1:Int)/\True)/\z/\True)/\∀(x:V5 d.C.length λ(i:Nat)=>P2 d.E.length (d.C.getD i dz)),let q:=(x.1:Int);let w:=(d.C.getD q.toNat dz);bd (q<k) (W9 q d.C.length/\Ri (p-1)/\br (!V6 w.at_ (0:Int) (p-1)||decide ((↑w.d.length:Int)>160)) v (Ri (q+1)/\∃(y:V5 d.C.length λ(i:Nat)=>P2 d.E.length (d.C.getD i dz)),((u/\p=p/\q+1=(y.1:Int)/\True)/\z/\True)/\Lt (d.C.length-y.1) (d.C.length-x.1))) (true=yT d)))) ⟨λh=>a1U ?_,λh=>⟨⟨F2,Y1⟩,λx=>⟨λhc=>?_,λhc=>⟨⟨F2,Y1⟩,λy=>⟨λhd=>?_,λhd=>?_⟩⟩⟩⟩⟩
 ·rintro⟨p1,p2,p3,p4,p5,_⟩;simp[V6] at h;cases ha:d.A with
  |true=>simp[ha] at h;omega
  |false=>simp[ha] at h;have:=p5 ha;omega
 ·have hlt:=Y2 hc;refine⟨Y6 hlt,λhb=>a1U ?_,λhb=>⟨W2 hlt Z9,x.succ hlt hb,Y1,V5.ext_lt hlt⟩⟩
  rintro⟨_,_,_,_,_,q,_⟩;have:=q x.1 hlt;rw[D8,o7] at hb;omega
 ·have hlt:=Y2 hd;refine⟨Y6 hlt,Z4 Z9,λhb=>a1U ?_,λhb=>⟨W2 hlt Z9,y.succ hlt hb,⟨⟨Y1,rfl,I8,Z6⟩,Y1⟩,V5.ext_lt hlt⟩⟩
  rintro⟨_,_,_,_,_,_,Q⟩;have:=Q y.1 hlt;rw[D8] at hb;unfold P2 at this;rw[hb] at this;cases this
 ·simp[V6] at h;have g:=X9 hc;have j:=X9 hd;refine((kD d).2 ⟨Z9,Z9,Z9,Z9,λha=>by have:=h.2 ha;simp[this],λi hi=>eV.1 (x.2.2 i (xX hi g)),λi hi=>y.2.2 i (xX hi j)⟩).symm
theorem dN:GK 129 b30:=gk func129<|by
 rintro⟨d,at_⟩ ⟨t,h⟩;simp only at t h;refine U5 gN func129 (b1z d at_) (α:=let z:=(d.C.length:Int);let q:=(at_:Int);Ri (z-1)/\(∃(x:a1M d at_),(q=q/\(0=0/\0=0)/\z-1=(x.1:Int)-1/\True)/\(oo (zI d d))/\True)/\∀(x:a1M d at_),let p:=(x.1:Int);let r:=(d.C.getD (p-1).toNat dz);bd (p-1≥(0:Int)) (W9 (p-1) d.C.length/\br (r.at_==q) (W9 (p-1) d.C.length/\r.d=S0 d at_) (Ri (p-1-1)/\∃(y:a1M d at_),((q=q/\(0=0/\0=0)/\p-1-1=(y.1:Int)-1/\True)/\(oo (zI d d))/\True)/\Lt y.1 x.1)) (W9 q d.E.length/\d.E.getD q.toNat []=S0 d at_)) ⟨Z4 Z9,⟨⟨d.C.length,Y1⟩,Y1⟩,λx=>?_⟩
 obtain⟨i,hi,X⟩:=x;simp only;refine⟨λhc=>?_,λhc=>⟨⟨Z9,Z9⟩,?_⟩⟩
 ·have hpos:1<=i:=by have:=G5 hc;omega
  obtain⟨j,rfl⟩:∃j,i=j+1:=⟨i-1,Z9⟩
  rw[show(((j+1:Nat):Int)-1).toNat=j by omega]
  have hl:E6 d.C at_ (j+1)=if(d.C.getD j dz).at_=at_ then some (d.C.getD j dz).d else E6 d.C at_ j:=rfl
  refine⟨⟨Z9,Z9⟩,λhb=>⟨⟨Z9,Z9⟩,?_⟩,λhb=>⟨Z4 Z9,⟨j,Z9,?_⟩,⟨⟨S6,⟨S6,S6⟩,L9,Z6⟩,⟨S6,S6,⟨S6,X6 _ _⟩,⟨S6,X6 _ _⟩,S6,⟨S6,X6 _ _⟩,Z6⟩,Z6⟩,nB⟩⟩
  ·rw[if_pos jH] at hl
   unfold S0;rw[X,hl];rfl
  ·rw[if_neg jH] at hl
   rw[X,hl]
 ·have h0:i=0:=by have:=r8 hc;omega
  subst h0;unfold S0;rw[X];rfl
structure Frm where
 no:Int
 pg:Pg
 D:Bool
 first:Int
 deriving Inhabited
def Frm.ts(f:Frm):List T:=[.int .i64 f.no,.int .i64 f.pg.Q,s9 f.pg.sl,.bool f.D,.int .i64 f.first]
structure Sto where
 d:Dsk
 ep:Int
 L:List Rec
 S:Int
 fr:List Frm
 J:Int
 deriving Inhabited
def V9(L:List Frm)(i:Nat):List T:=(L.getD i dz).ts
def uB(L:List Frm):T:=.sl 5 L.length (V9 L)
def Sto.ts(s:Sto):List T:=[s9 s.d.E,v4 s.d.C,.bool s.d.A,sM s.d.keep,.int .i64 s.ep,zD s.L,.int .i64 s.S,uB s.fr,.int .i64 s.J]
abbrev yR(a b:Sto):Prop:=(a.d.E.length=b.d.E.length/\Z8 a.d.E.length (Z5 a.d.E) (Z5 b.d.E))/\(a.d.C.length=b.d.C.length/\Z8 a.d.C.length (Z1 a.d.C) (Z1 b.d.C))/\a.d.A=b.d.A/\(a.d.keep.length=b.d.keep.length/\Z8 a.d.keep.length (Y9 a.d.keep) (Y9 b.d.keep))/\a.ep=b.ep/\(a.L.length=b.L.length/\Z8 a.L.length (Y0 a.L) (Y0 b.L))/\a.S=b.S/\(a.fr.length=b.fr.length/\Z8 a.fr.length (V9 a.fr) (V9 b.fr))/\a.J=b.J/\True
theorem jR(s:Sto):yR s s:=Y1
def fH(s:Sto):Option Ob:=some (.arr true 1000000 9 1 λ_=>s.ts)
def P6(d:Dsk)(no:Nat):Pg×Bool:=if S0 d (1+no)=[] then(⟨0,[[],[],[],[]]⟩,true) else E3 no (S0 d (1+no))
def T0(d:Dsk)(no:Nat):Pg×Bool:=if S0 d (1+no)=[] then(⟨0,[[],[],[],[]]⟩,true) else(P1 no (S0 d (1+no)),(E3 no (S0 d (1+no))).2)
theorem eN(d:Dsk)(no:Nat):(T0 d no).2=(P6 d no).2/\((P6 d no).2=true->T0 d no=P6 d no):=by
 unfold T0 P6;by_cases h:S0 d (1+no)=[]
 ·rw[if_pos h,if_pos h];exact⟨rfl,λ_=>rfl⟩
 ·rw[if_neg h,if_neg h];refine⟨rfl,λh2=>?_⟩
  unfold P1;rw[if_pos h2]
def a1a(x:Dsk×Nat):Prop:=F8 x.1/\1+x.2<x.1.E.length
theorem lV{d:Dsk}(h:F8 d){at_:Nat}(A:at_<d.E.length):(S0 d at_).length<=160:=by
 obtain⟨_,_,_,_,_,e,h2⟩:=h;have key:∀n,n<=d.C.length->∀l,E6 d.C at_ n=some l->l.length<=160:=by
  intro n;induction n with
  |zero=>intro _ l hl;cases hl
  |succ n i=>
   intro N l hl;unfold E6 at hl;split at hl
   ·simp only[X0] at hl;subst hl;have:=h2 n Z9
    unfold P2 at this;simp only[wR,uG] at this;omega
   ·exact i Z9 l hl
 unfold S0;cases hl:E6 d.C at_ d.C.length with
 |none=>exact e at_ A
 |some l=>exact key _ (U9 _) l hl
def cE:Rl:=⟨Sto×Nat,λx=>[.bref x.1.ts,.int .i64 x.2],λx=>.tup [.agg (T0 x.1.d x.2).1.ts,.bool (T0 x.1.d x.2).2],λx=>a1a (x.1.d,x.2)⟩
def a6Q:Con:=.rel cE
def a0S:Rl:=⟨Dsk×Nat,λx=>[.agg x.1.ts,.int .i64 x.2],λx=>.tup [.agg (P6 x.1 x.2).1.ts,.bool (P6 x.1 x.2).2],a1a⟩
def b3r:Con:=.rel a0S
theorem a0y(d:Dsk)(no:Nat)(h:
let p:=(P6 d no);  Ri (1+(no:Int))/\∃(x:oE.ι),(((zI d x.1)/\1+(no:Int)=(x.2:Int)/\True)/\AtB x)/\br (S0 x.1 x.2==[]) (∃(x:rB.ι),(True/\True)/\(0=p.1.Q/\(4=p.1.sl.length/\Z8 4 (Z5 [[],[],[],[]]) (Z5 p.1.sl))/\True)/\true=p.2/\True) (∃(X:aP.ι),let q:=(E3 X.1 X.2);(((no:Int)=X.1/\S0 x.1 x.2=X.2/\True)/\RdB X.2)/\(q.1.Q=p.1.Q/\(Z0 Z5 q.1.sl p.1.sl)/\True)/\q.2=p.2/\True)):
  V4 prog 161 [.agg d.ts,.int .i64 no] (.tup [.agg (P6 d no).1.ts,.bool (P6 d no).2]):=
 U5 (gC dN (gC a3Y (gC a8t gN))) func161 Z3 h
def kZ(L:List Frm)(no:Int)(i:Nat):Bool:=(L.getD i dz).no==no
def frAt(L:List Frm)(no:Int):Int:=S5 L.length (kZ L no)
def noF(no:Int):T:=.fn (.func 271) [.bref [.int .i64 no]]
def gH:Rl:=⟨Frm×Int,λx=>[.agg x.1.ts,.bref [.int .i64 x.2]],λx=>.bool (x.1.no==x.2),λ_=>True⟩
def a6K:Con:=.rel gH
theorem a6v(f:Frm)(no:Int)(h:
  (f.no==no)=(f.no==no)):
  V4 prog 271 [.agg f.ts,.bref [.int .i64 no]] (.bool (f.no==no)):=
 U5 gN func271 Z3 h
theorem a3M:GK 271 a6K:=gk func271<|λx _=>a6v x.1 x.2 rfl
def a5B:Rl:=⟨List Frm×Int,λx=>[uB x.1,noF x.2],λx=>.int .i64 (frAt x.1 x.2),λx=>L8 x.1.length⟩
def b54:Con:=.rel a5B
def b8z(L:List Frm)(no:Int):Nat->Ann
 |0=>.one (V5 L.length (kZ L no)) (λx=>⟨[(0,uB L),(1,noF no),(7,.int .i64 L.length),(8,.int .i64 x.1)],[]⟩) (λx=>L.length-x.1) [] [] (λ_=>Z3)
 |_=>.none
theorem b4u:GK 270 b54:=gk func270<|by
 rintro⟨L,no⟩ (hL:L.length<1000000000000);refine U5 (gC a3M gN) func270 (b8z L no) (α:=let r:=(L.length:Int);let q:=(T.bref [Ji no]);(∃(x:V5 L.length (kZ L no)),((Z0 V9 L L)/\(Fn.func 271=Fn.func 271/\J6 (λ(x:Nat)=>none) q q/\True)/\r=r/\0=(x.1:Int)/\True)/\True)/\∀(x:V5 L.length (kZ L no)),let z:=(x.1:Int);let p:=(L.getD z.toNat dz);bd (z<r) (W9 z L.length/\∃(X:gH.ι),(((p.no=X.1.no/\p.pg.Q=X.1.pg.Q/\(Z0 Z5 p.pg.sl X.1.pg.sl)/\p.D=X.1.D/\p.first=X.1.first/\True)/\(no=X.2/\True)/\True)/\True)/\br (X.1.no==X.2) (z=frAt L no) (Ri (z+1)/\∃(y:V5 L.length (kZ L no)),(((Z0 V9 L L)/\(Fn.func 271=Fn.func 271/\J6 (λ(x:Nat)=>none) q q/\True)/\r=r/\z+1=(y.1:Int)/\True)/\True)/\Lt (L.length-y.1) (L.length-x.1))) ((-1:Int)=frAt L no)) ⟨⟨F2,⟨Y1,⟨rfl,U0 _,Z6⟩,Y1⟩,Z6⟩,λx=>⟨λC=>?_,λC=>?_⟩⟩
 ·have h:=Y2 C;refine⟨Y6 h,(L.getD x.1 dz,no),Y1,λhp=>(N8 h hp x.2.2).symm,λhp=>⟨W2 h Z9,x.succ h hp,⟨⟨Y1,⟨rfl,U0 _,Z6⟩,rfl,I8,Z6⟩,Z6⟩,V5.ext_lt h⟩⟩
 ·have e:=X9 C;exact(K1 λj J=>x.2.2 j (xX J e)).symm
def qP:Rl:=⟨Sto×Int,λx=>[.bref x.1.ts,.int .i64 x.2],λx=>.int .i64 (frAt x.1.fr x.2),λx=>L8 x.1.fr.length⟩
def b4Z:Con:=.rel qP
def pF:Rl:=⟨Sto×Int,λx=>[.agg x.1.ts,.int .i64 x.2],λx=>.int .i64 (frAt x.1.fr x.2),λx=>L8 x.1.fr.length⟩
def a6b:Con:=.rel pF
def a6y(s:Sto)(no:Int):Nat->Ann
 |0=>.one (V5 s.fr.length (kZ s.fr no)) (λx=>⟨[(1,.int .i64 no),(2,.ref 0 0 0),(5,.int .i64 x.1)],[fH s]⟩) (λx=>s.fr.length-x.1) [.box 0] [.box 0] (λ_=>Z3)
 |_=>.none
theorem pB:GK 185 b4Z:=gk func185<|by
 rintro⟨s,no⟩ h;exact U5 (gC b4u gN) func185 Z3 (α:=∃(x:a5B.ι),(((Z0 V9 s.fr x.1)/\(Fn.func 271=Fn.func 271/\(no=x.2/\True)/\True)/\True)/\L8 x.1.length)/\frAt x.1 x.2=frAt s.fr no) ⟨(s.fr,no),⟨Y1,h⟩,rfl⟩
theorem jW:GK 160 a6b:=gk func160<|by
 rintro⟨s,no⟩ (hL:s.fr.length<1000000000000);refine U5 gN func160 (a6y s no) (α:=(∃(x:V5 s.fr.length (kZ s.fr no)),(no=no/\(0=0/\0=0)/\0=(x.1:Int)/\True)/\(oo (yR s s))/\True)/\∀(x:V5 s.fr.length (kZ s.fr no)),let p:=(x.1:Int);bd (p<(s.fr.length:Int)) (W9 p s.fr.length/\br ((s.fr.getD p.toNat dz).no==no) (p=frAt s.fr no) (Ri (p+1)/\∃(y:V5 s.fr.length (kZ s.fr no)),((no=no/\(0=0/\0=0)/\p+1=(y.1:Int)/\True)/\(oo (yR s s))/\True)/\Lt (s.fr.length-y.1) (s.fr.length-x.1))) ((-1:Int)=frAt s.fr no)) ⟨⟨F2,Y1⟩,λx=>⟨λC=>?_,λC=>?_⟩⟩
 ·have h:=Y2 C;exact⟨Y6 h,λhp=>(N8 h hp x.2.2).symm,λhp=>⟨W2 h Z9,x.succ h hp,⟨⟨rfl,Y1,I8,Z6⟩,Y1⟩,V5.ext_lt h⟩⟩
 ·have e:=X9 C;exact(K1 λj J=>x.2.2 j (xX J e)).symm
theorem a0G(no:Int)(t:Bz):(I2 no t==(0:Int))=(E3 no t).2:=by
 unfold I2;cases hu:R9 t
 ·have:(E3 no t).2=false:=by unfold E3;rw[hu];rfl
  rw[this];rfl
 ·cases h:(E3 no t).2<;>rfl
theorem a4l:GK 187 a6Q:=gk func187<|by
 rintro⟨s,no⟩ ⟨hd,n⟩;simp only at hd n;have f:=lV hd n;obtain⟨q,g,Q,_⟩:=hd;refine U5 (gC dM (gC a4e (gC a3X gN))) func187 Z3 (α:=let p:=(T0 s.d no);Ri (1+(no:Int))/\∃(x:oE.ι),(((zI s.d x.1)/\1+(no:Int)=(x.2:Int)/\True)/\AtB x)/\br (S0 x.1 x.2==[]) (∃(x:rB.ι),(True/\True)/\(0=p.1.Q/\(4=p.1.sl.length/\Z8 4 (Z5 [[],[],[],[]]) (Z5 p.1.sl))/\True)/\true=p.2/\True) (Lt (S0 x.1 x.2).length 140737488355329/\∃(X:fL.ι),(((no:Int)=X.1/\S0 x.1 x.2=X.2/\True)/\RdB X.2)/\((P1 X.1 X.2).Q=p.1.Q/\(Z0 Z5 (P1 X.1 X.2).sl p.1.sl)/\True)/\(I2 X.1 X.2==0)=p.2/\True)) ⟨Z4 Z9,(s.d,1+no),⟨⟨(eqD _),L9,Z6⟩,n,L9⟩,λh=>⟨(),Y1,?_⟩,λh=>⟨nB,((no:Int),S0 s.d (1+no)),⟨Y1,by show(S0 s.d (1+no)).length<=1000;omega⟩,?_⟩⟩
 ·have h:S0 s.d (1+no)=[]:=by simpa using h
  have e:T0 s.d no=(⟨0,[[],[],[],[]]⟩,true):=by unfold T0;rw[if_pos h]
  rw[e];exact Y1
 ·have h:S0 s.d (1+no)≠[]:=by simpa using h
  have e:T0 s.d no=(P1 no (S0 s.d (1+no)),(E3 no (S0 s.d (1+no))).2):=by unfold T0;rw[if_neg h]
  rw[e];exact⟨Y1,a0G _ _,Z6⟩
theorem a69:GK 161 b3r:=gk func161<|by
 rintro⟨d,no⟩ ⟨hd,n⟩;simp only at hd n;have f:=lV hd n;obtain⟨q,g,Q,_⟩:=hd;refine a0y d no ⟨Z4 Z9,(d,1+no),⟨⟨(eqD _),L9,Z6⟩,n,L9⟩,λh=>⟨(),Y1,?_⟩,λh=>⟨((no:Int),S0 d (1+no)),⟨Y1,by show(S0 d (1+no)).length<=1000;omega⟩,?_⟩⟩
 ·have h:S0 d (1+no)=[]:=by simpa using h
  have e:P6 d no=(⟨0,[[],[],[],[]]⟩,true):=by unfold P6;rw[if_pos h]
  rw[e];exact Y1
 ·have h:S0 d (1+no)≠[]:=by simpa using h
  have e:P6 d no=E3 no (S0 d (1+no)):=by unfold P6;rw[if_neg h]
  rw[e];exact Y1
def yY(s:Sto)(i:Nat):Bool:=
 !V6 (s.fr.getD i dz).no 0 7||frAt s.fr (s.fr.getD i dz).no !=(i:Int)|| !j8 (s.fr.getD i dz).pg||decide ((s.fr.getD i dz).pg.Q>(s.L.length:Int))|| !V6 (s.fr.getD i dz).first 0 s.L.length||
  decide ((s.fr.getD i dz).first>0) !=(s.fr.getD i dz).D
def zC(s:Sto):Bool:= !anyI s.fr.length (yY s)&&decide ((s.fr.length:Int)<=3)
def FrB(L:List Frm):Prop:=L8 L.length/\∀i,i<L.length->PgB (L.getD i dz).pg
def c9u(s:Sto):Prop:=FrB s.fr/\L8 s.L.length
def dK:Rl:=⟨Sto,λs=>[.bref s.ts],λs=>.bool (zC s),c9u⟩
def a7H:Con:=.rel dK
def a7J(s:Sto):Nat->Ann
 |0=>.one (V5 s.fr.length (yY s)) (λx=>⟨[(0,.bref s.ts),(8,uB s.fr),(9,.int .i64 s.fr.length),(10,.int .i64 x.1)],[]⟩) (λx=>s.fr.length-x.1) [] [] (λ_=>Z3)
 |_=>.none
theorem c7x(n:Int):(decide (0<=n)&&decide (n<8))=V6 n 0 7:=by
 unfold V6;rw[show decide (n<8)=decide (n<=7) from decide_eq_decide.2 Z9]
theorem a4T:GK 228 a7H:=gk func228<|by
 rintro(s:Sto) ⟨⟨f,h2⟩,g⟩;have f:s.fr.length<1000000000000:=f;have g:s.L.length<1000000000000:=g;refine U5 (gC tJ (gC pB (gC pE (gC O0 gN)))) func228 (a7J s) (α:=let w:=(s.L.length:Int);let v:=(Z0 V9 s.fr s.fr);let u:=(T.bref s.ts);let q:=(s.fr.length:Int);(∃(x:V5 s.fr.length (yY s)),(J6 (λ(x:Nat)=>none) u u/\v/\q=q/\0=(x.1:Int)/\True)/\True)/\∀(x:V5 s.fr.length (yY s)),let z:=(x.1:Int);let p:=(s.fr.getD z.toNat dz);let r:=(decide (0<=p.no)&&decide (p.no<8));bd (z<q) (W9 z s.fr.length/\m4 (8:Int)/\∃(X:qP.ι),((! r)=false->((yR s X.1)/\p.no=X.2/\True)/\L8 X.1.fr.length)/\∃(d:xA.ι),((! r||frAt X.1.fr X.2 !=z)=false->((p.pg.Q=d.Q/\(Z0 Z5 p.pg.sl d.sl)/\True)/\True)/\PgB d)/\br (! r||frAt X.1.fr X.2 !=z|| !j8 d||decide (p.pg.Q>w)|| !V6 p.first (0:Int) w|| !decide (p.first>0)==p.D) (false=zC s) (Ri (z+1)/\∃(y:V5 s.fr.length (yY s)),((J6 (λ(x:Nat)=>none) u u/\v/\q=q/\z+1=(y.1:Int)/\True)/\True)/\Lt (s.fr.length-y.1) (s.fr.length-x.1))) (decide (q<=3)=zC s)) ⟨⟨F2,⟨U0 _,Y1⟩,Z6⟩,λx=>⟨λhc=>?_,λhc=>?_⟩⟩
 ·have h:=Y2 hc;rw[c7x,D8];have e:(!V6 (s.fr.getD x.1 dz).no 0 7||frAt s.fr (s.fr.getD x.1 dz).no !=(x.1:Int)|| !j8 (s.fr.getD x.1 dz).pg||decide ((s.fr.getD x.1 dz).pg.Q>(s.L.length:Int))||
    !V6 (s.fr.getD x.1 dz).first 0 s.L.length|| !decide ((s.fr.getD x.1 dz).first>0)==(s.fr.getD x.1 dz).D)=yY s x.1:=rfl
  refine⟨Y6 h,⟨Z9,Z9⟩,(s,(s.fr.getD x.1 dz).no),λ_=>⟨⟨(jR _),Y1⟩,f⟩,(s.fr.getD x.1 dz).pg,λ_=>⟨Y1,h2 _ h⟩,λB=>?_,λB=>⟨W2 h Z9,x.succ h (e.symm.trans B),⟨⟨U0 _,Y1,rfl,I8,Z6⟩,Z6⟩,V5.ext_lt h⟩⟩
  have:anyI s.fr.length (yY s)=true:=R8.2 ⟨x.1,h,e.symm.trans B⟩;unfold zC;rw[this];rfl
 ·have hge:=X9 hc;have:anyI s.fr.length (yY s)=false:=P4.2 λi hi=>x.2.2 i (xX hi hge)
  unfold zC;rw[this];simp
def yS(L:List Rec)(i:Nat):Int:=if i=0 then 1 else(L.getD (i-1) dz).e
def uZ(s:Sto)(i:Nat):Bool:= !V6 (s.L.getD i dz).e (yS s.L i) s.ep
def zW(s:Sto)(no:Nat):Bool:= !(P6 s.d no).2||decide ((P6 s.d no).1.Q>s.S)
def oB(s:Sto):Bool:= !yT s.d||((s.d.E.length:Nat):Int) !=69|| !V6 s.ep 1 60||decide ((s.L.length:Int)>60)
def F5(s:Sto):Bool:= !(oB s|| !yV s.L|| !V6 s.S 0 s.L.length)&& !anyI s.L.length (uZ s)&& !anyI 8 (zW s)&&zC s&&V6 s.J 0 2
def b27(s:Sto):Prop:=c2M s.d/\c2Z s.L/\FrB s.fr/\∀r ∈ s.L,L8 r.a.length
def qE:Rl:=⟨Sto,λs=>[.agg s.ts],λs=>.bool (F5 s),b27⟩
def a7Q:Con:=.rel qE
def a6d:Con:=.rel qE
def a6j(s:Sto):Nat->Ann
 |0=>.onef [1,3,48,49,50] (V5 s.L.length (uZ s)) (λx=>⟨[(1,.bref s.ts),(3,.int .i64 (yS s.L x.1)),(48,zD s.L),(49,.int .i64 s.L.length),(50,.int .i64 x.1)],[]⟩) (λx=>s.L.length-x.1) [] (λ_=>fun
  |1=>.one (V5 8 (zW s)) (λx=>⟨[(1,.bref s.ts),(64,.int .i64 x.1)],[]⟩) (λx=>8-x.1) [] [] (λ_=>Z3)
  |_=>.none)
 |_=>.none
def tE(s:Sto)(i:Nat):Bool:= !O8 (s.L.getD i dz)||(s.L.getD i dz).l !=(i:Int)+1||decide ((s.L.getD i dz).e>s.ep)||(decide ((i:Int)>0)&&decide ((s.L.getD (i-1) dz).e>(s.L.getD i dz).e))
def wE(s:Sto)(i:Nat):Bool:=
 !V6 (s.fr.getD i dz).no 0 7|| !j8 (s.fr.getD i dz).pg||decide ((s.fr.getD i dz).pg.Q>(s.L.length:Int))|| !V6 (s.fr.getD i dz).first 0 s.L.length||
  (s.fr.getD i dz).D !=decide ((s.fr.getD i dz).first>0)||frAt s.fr (s.fr.getD i dz).no !=(i:Int)
def a6x(s:Sto):Nat->Ann
 |0=>.one (V5 s.L.length (tE s)) (λx=>⟨[(1,.ref 0 0 0),(3,.int .i64 x.1)],[fH s]⟩) (λx=>s.L.length-x.1) [.box 0] [.box 0] (λ_=>fun
  |1=>.one (V5 s.fr.length (wE s)) (λx=>⟨[(1,.ref 0 0 0),(5,.int .i64 x.1)],[fH s]⟩) (λx=>s.fr.length-x.1) [.box 0] [.box 0] (λ_=>fun
   |2=>.one (V5 8 (zW s)) (λx=>⟨[(1,.ref 0 0 0),(7,.int .i64 x.1)],[fH s]⟩) (λx=>8-x.1) [.box 0] [.box 0] (λ_=>Z3)
   |_=>.none)
  |_=>.none)
 |_=>.none
theorem G2(s:Sto):F5 s=true↔(oB s=false/\yV s.L=true/\V6 s.S 0 s.L.length=true)/\(∀i,i<s.L.length->uZ s i=false)/\(∀i,i<8->zW s i=false)/\zC s=true/\V6 s.J 0 2=true:=by
 unfold F5;simp only[J4,vY,wR,wT,P4];exact⟨λh=>⟨⟨h.1.1.1.1.1.1,h.1.1.1.1.1.2,h.1.1.1.1.2⟩,h.1.1.1.2,h.1.1.2,h.1.2,h.2⟩,λh=>⟨⟨⟨⟨⟨⟨h.1.1,h.1.2.1⟩,h.1.2.2⟩,h.2.1⟩,h.2.2.1⟩,h.2.2.2.1⟩,h.2.2.2.2⟩⟩
theorem nX{s:Sto}(h:¬F5 s=true):false=F5 s:=(Bool.eq_false_iff.2 h).symm
theorem o4(s:Sto):oB s=false↔F8 s.d/\s.d.E.length=69/\1<=s.ep/\s.ep<=60/\s.L.length<=60:=by
 unfold oB;simp only[wR,wT,kD,bne_eq_false_iff_eq,V6,J4,o7,uG];constructor
 ·rintro⟨⟨⟨h,i⟩,e,f⟩,g⟩;exact⟨h,Z9,e,f,Z9⟩
 ·rintro⟨h,i,e,f,g⟩;exact⟨⟨⟨h,Z9⟩,e,f⟩,Z9⟩
theorem b0Y(s:Sto)(no:Nat):(!(T0 s.d no).2||decide ((T0 s.d no).1.Q>s.S))=zW s no:=by
 unfold zW;obtain⟨e,f⟩:=eN s.d no;cases h:(P6 s.d no).2
 ·rw[e,h];rfl
 ·rw[f h,h]
theorem c5P(n:Int):(decide (0<=n)&&decide (n<3))=V6 n 0 2:=by
 unfold V6;rw[show decide (n<3)=decide (n<=2) from decide_eq_decide.2 Z9]
theorem b22(L:List Rec)(i:Nat):yS L (i+1)=(L.getD i dz).e:=by unfold yS;rw[if_neg Z9];rfl
theorem a3y:GK 139 a7Q:=gk func139<|by
 rintro(s:Sto) ⟨hd,hl,hf,hm⟩;have j:(!yT s.d||(s.d.E.length:Int) !=69|| !V6 s.ep 1 60||decide ((s.L.length:Int)>60)|| !yV s.L|| !V6 s.S 0 s.L.length)=(oB s|| !yV s.L|| !V6 s.S 0 s.L.length):=rfl;refine U5 (gC a7X (gC O0 (gC aX (gC a4l (gC a4T (gC tJ gN)))))) func139 (a6j s) (α:=let w:=(s.d.E.length:Int);let v:=(false=F5 s);let q:=(T.bref s.ts);let p:=(s.L.length:Int);∃(x:mJ.ι),(((zI s.d x)/\True)/\c2M x)/\∃(f:lT.ι),((!yT x||w !=69|| !V6 s.ep (1:Int) (60:Int)||decide (p>60))=false->((Z0 Y0 s.L f)/\True)/\c2Z f)/\br (!yT x||w !=69|| !V6 s.ep (1:Int) (60:Int)||decide (p>60)|| !yV f|| !V6 s.S (0:Int) p) v ((∃(x:V5 s.L.length (uZ s)),(J6 (λ(x:Nat)=>none) q q/\1=yS s.L x.1/\(Z0 Y0 s.L s.L)/\p=p/\0=(x.1:Int)/\True)/\True)/\∀(x:V5 s.L.length (uZ s)),let r:=(x.1:Int);let u:=(s.L.getD r.toNat dz).e;bd (r<p) (W9 r s.L.length/\br (!V6 u (yS s.L x.1) s.ep) v (Ri (r+1)/\∃(y:V5 s.L.length (uZ s)),((J6 (λ(x:Nat)=>none) q q/\u=yS s.L y.1/\(Z0 Y0 s.L s.L)/\p=p/\r+1=(y.1:Int)/\True)/\True)/\Lt (s.L.length-y.1) (s.L.length-x.1))) ((∃(x:V5 8 (zW s)),(J6 (λ(x:Nat)=>none) q q/\0=(x.1:Int)/\True)/\True)/\∀(x:V5 8 (zW s)),let z:=(x.1:Int);bd (z<8) (∃(X:cE.ι),(((yR s X.1)/\z=(X.2:Int)/\True)/\a1a (X.1.d,X.2))/\br (!(T0 X.1.d X.2).2||decide ((T0 X.1.d X.2).1.Q>s.S)) v (Ri (z+1)/\∃(y:V5 8 (zW s)),((J6 (λ(x:Nat)=>none) q q/\z+1=(y.1:Int)/\True)/\True)/\Lt (8-y.1) (8-x.1))) (∃(x:dK.ι),(((yR s x)/\True)/\c9u x)/\(zC x=true->m4 (3:Int))/\(zC x&&(decide (0<=s.J)&&decide (s.J<3)))=F5 s)))) ⟨s.d,⟨⟨(eqD _),Z6⟩,hd⟩,s.L,λ_=>⟨Y1,hl⟩,λhb=>nX ?_,λhb=>?_⟩
 ·rw[G2];rintro⟨⟨g,l,n⟩,_⟩;rw[j,g,l,n] at hb;cases hb
 rw[j] at hb;simp only[wR,wT] at hb;obtain⟨⟨B,b2⟩,o⟩:=hb;obtain⟨C,c2,q,t,r⟩:=(o4 s).1 B;refine⟨⟨F2,⟨U0 _,Y1⟩,Z6⟩,λx=>⟨λhc=>?_,λhc=>⟨⟨F2,⟨U0 _,Y1⟩,Z6⟩,λy=>⟨λhy=>?_,λhy=>?_⟩⟩⟩⟩
 ·have hlt:=Y2 hc;refine⟨Y6 hlt,λhb=>nX ?_,λhb=>⟨W2 hlt Z9,x.succ hlt hb,⟨⟨U0 _,(b22 _ _).symm,Y1,rfl,I8,Z6⟩,Z6⟩,V5.ext_lt hlt⟩⟩
  rw[G2];rintro⟨_,g,_⟩;have:=g x.1 hlt;unfold uZ at this;rw[D8,this] at hb;cases hb
 ·have hlt:y.1<8:=by have:=G5 hy;omega
  refine⟨(s,y.1),⟨⟨(jR _),Y1⟩,C,L9⟩,λhb=>nX ?_,λhb=>⟨Z4 Z9,y.succ hlt ((b0Y s y.1).symm.trans hb),⟨⟨U0 _,I8,Z6⟩,Z6⟩,V5.ext_lt hlt⟩⟩
  rw[G2];rintro⟨_,_,g,_⟩;have:=g y.1 hlt;rw[←b0Y] at this;have hb:(!(T0 s.d y.1).2||decide ((T0 s.d y.1).1.Q>s.S))=true:=hb;rw[this] at hb;cases hb
 ·have g1:=X9 hc;have g2:8<=y.1:=by have:=r8 hy;omega
  refine⟨s,⟨⟨(jR _),Z6⟩,hf,hl.1⟩,λ_=>⟨Z9,Z9⟩,?_⟩
  rw[c5P,Bool.eq_iff_iff,G2];simp only[J4];exact⟨λh=>⟨⟨B,b2,o⟩,λi hi=>x.2.2 i (xX hi g1),λi hi=>y.2.2 i (xX hi g2),h⟩,λh=>h.2.2.2⟩
theorem b9X(s:Sto)(i:Nat):wE s i=yY s i:=by
 unfold wE yY;generalize V6 (s.fr.getD i dz).no 0 7=a;generalize j8 (s.fr.getD i dz).pg=b;generalize decide ((s.fr.getD i dz).pg.Q>(s.L.length:Int))=c;generalize V6 (s.fr.getD i dz).first 0 s.L.length=d
 generalize (s.fr.getD i dz).D=e;generalize decide ((s.fr.getD i dz).first>0)=f
 generalize (frAt s.fr (s.fr.getD i dz).no !=(i:Int))=g;cases a<;>cases b<;>cases c<;>cases d<;>cases e<;>cases f<;>cases g<;>rfl
theorem b7F(s:Sto):(∀i,i<s.L.length->tE s i=false)↔yV s.L=true/\∀i,i<s.L.length->uZ s i=false:=by
 rw[C2];have key:∀i,tE s i=false↔(O8 (s.L.getD i dz)=true/\(s.L.getD i dz).l=(i:Int)+1)/\(s.L.getD i dz).e<=s.ep/\(0<i->(s.L.getD (i-1) dz).e<=(s.L.getD i dz).e):=by
  intro i;unfold tE;simp only[wR,wT,bne_eq_false_iff_eq,uG,Bool.and_eq_false_iff];constructor
  ·rintro⟨⟨⟨h1,h2⟩,h3⟩,h4⟩;exact⟨⟨h1,h2⟩,Z9,λhi=>by rcases h4 with h4|h4<;>omega⟩
  ·rintro⟨⟨h1,h2⟩,h3,h4⟩;refine⟨⟨⟨h1,h2⟩,Z9⟩,?_⟩
   by_cases hi:0<i
   ·exact .inr (by have:=h4 hi;omega)
   ·exact .inl Z9
 have d:∀i,uZ s i=false↔yS s.L i<=(s.L.getD i dz).e/\(s.L.getD i dz).e<=s.ep:=by
  intro i;unfold uZ V6;simp only[wT,J4,o7]
 simp only[key,d];constructor
 ·intro h;refine⟨λi hi=>(h i hi).1,λi hi=>⟨?_,(h i hi).2.1⟩⟩
  by_cases h0:i=0
  ·subst h0;have:=((Q3 _).1 (h 0 hi).1.1).1;exact this
  ·unfold yS;rw[if_neg h0];exact(h i hi).2.2 Z9
 ·rintro⟨h1,h2⟩ i hi;refine⟨h1 i hi,(h2 i hi).2,λh0=>?_⟩
  have:=(h2 i hi).1;unfold yS at this;rw[if_neg Z9] at this
  exact this
theorem a3l:GK 72 a6d:=gk func72<|by
 rintro(s:Sto) ⟨hd,hl,hf,hm⟩;have R:s.fr.length<1000000000000:=hf.1;have B:(!yT s.d||(s.d.E.length:Int) !=69|| !V6 s.ep 1 60||decide ((s.L.length:Int)>60)|| !V6 s.S 0 s.L.length||decide ((s.fr.length:Int)>3)|| !V6 s.J 0 2)=(oB s|| !V6 s.S 0 s.L.length||decide ((s.fr.length:Int)>3)|| !V6 s.J 0 2):=rfl;have sp:F5 s=true↔(oB s|| !V6 s.S 0 s.L.length||decide ((s.fr.length:Int)>3)|| !V6 s.J 0 2)=false/\(∀i,i<s.L.length->tE s i=false)/\(∀i,i<s.fr.length->wE s i=false)/\∀i,i<8->zW s i=false:=by
  rw[G2,b7F];simp only[wR,wT,b9X,uG];unfold zC;simp only[J4,vY,P4,o7];constructor
  ·rintro⟨⟨h1,o,v⟩,q,r,⟨A,C⟩,u⟩;exact⟨⟨⟨⟨h1,v⟩,Z9⟩,u⟩,⟨o,q⟩,A,r⟩
  ·rintro⟨⟨⟨⟨h1,v⟩,C⟩,u⟩,⟨o,q⟩,A,r⟩;exact⟨⟨h1,o,v⟩,q,r,⟨A,Z9⟩,u⟩
 refine U5 (gC a8R (gC z7 (gC lR (gC eY (gC jW (gC a69 gN)))))) func72 (a6x s) (α:=let i:=(false=F5 s);let m:=(0=0/\0=0);let w:=(oo (yR s s));let v:=(s.L.length:Int);∃(x:mJ.ι),(((zI s.d x)/\True)/\c2M x)/\br (!yT x||(s.d.E.length:Int) !=69|| !V6 s.ep (1:Int) (60:Int)||decide (v>60)|| !V6 s.S (0:Int) v||decide ((s.fr.length:Int)>3)|| !V6 s.J (0:Int) (2:Int)) i ((∃(x:V5 s.L.length (tE s)),(m/\0=(x.1:Int)/\True)/\w/\True)/\∀(x:V5 s.L.length (tE s)),let u:=(x.1:Int);let q:=(s.L.getD u.toNat dz);let z:=(Rec.mk q.e q.l q.t q.k q.p q.n q.g q.s q.b q.a);let c:=(!O8 z||q.l !=u+1||decide (q.e>s.ep));bd (u<v) (W9 u s.L.length/\L8 q.a.length/\((!O8 z)=false->Ri (u+1))/\(c=false->decide (u>0)=true->Ri (u-1))/\(c=false->decide (u>0)=true->W9 (u-1) s.L.length)/\br (!O8 z||q.l !=u+1||decide (q.e>s.ep)||decide (u>0)&&decide ((s.L.getD (u-1).toNat dz).e>q.e)) i (Ri (u+1)/\∃(y:V5 s.L.length (tE s)),((m/\u+1=(y.1:Int)/\True)/\w/\True)/\Lt (s.L.length-y.1) (s.L.length-x.1))) ((∃(x:V5 s.fr.length (wE s)),(m/\0=(x.1:Int)/\True)/\w/\True)/\∀(x:V5 s.fr.length (wE s)),let j:=(x.1:Int);let r:=(s.fr.getD j.toNat dz);bd (j<(s.fr.length:Int)) (W9 j s.fr.length/\∃(X:xA.ι),((!V6 r.no (0:Int) (7:Int))=false->((r.pg.Q=X.Q/\(Z0 Z5 r.pg.sl X.sl)/\True)/\True)/\PgB X)/\∃(f:pF.ι),((!V6 r.no (0:Int) (7:Int)|| !j8 X||decide (r.pg.Q>v)|| !V6 r.first (0:Int) v|| ! r.D==decide (r.first>0))=false->((yR s f.1)/\r.no=f.2/\True)/\L8 f.1.fr.length)/\br (!V6 r.no (0:Int) (7:Int)|| !j8 X||decide (r.pg.Q>v)|| !V6 r.first (0:Int) v|| ! r.D==decide (r.first>0)||frAt f.1.fr f.2 !=j) i (Ri (j+1)/\∃(y:V5 s.fr.length (wE s)),((m/\j+1=(y.1:Int)/\True)/\w/\True)/\Lt (s.fr.length-y.1) (s.fr.length-x.1))) ((∃(x:V5 8 (zW s)),(m/\0=(x.1:Int)/\True)/\w/\True)/\∀(x:V5 8 (zW s)),let pa:=(x.1:Int);bd (pa<8) (∃(X:a0S.ι),(((zI s.d X.1)/\pa=(X.2:Int)/\True)/\a1a X)/\br (!(P6 X.1 X.2).2||decide ((P6 X.1 X.2).1.Q>s.S)) i (Ri (pa+1)/\∃(y:V5 8 (zW s)),((m/\pa+1=(y.1:Int)/\True)/\w/\True)/\Lt (8-y.1) (8-x.1))) (true=F5 s))))) ⟨s.d,⟨⟨(eqD _),Z6⟩,hd⟩,λh=>nX ?_,λh=>?_⟩
 ·rw[sp,←B];rintro⟨h1,_⟩;have h:(!yT s.d||(s.d.E.length:Int) !=69|| !V6 s.ep 1 60||decide ((s.L.length:Int)>60)|| !V6 s.S 0 s.L.length||decide ((s.fr.length:Int)>3)|| !V6 s.J 0 2)=true:=h;rw[h1] at h;cases h
 rw[B] at h;have j:=h;simp only[wR,wT,uG] at j;obtain⟨F,c2,I,L,J⟩:=(o4 s).1 j.1.1.1;refine⟨⟨F2,Y1⟩,λx=>⟨λhc=>?_,λhc=>⟨⟨F2,Y1⟩,λy=>⟨λhy=>?_,λhy=>⟨⟨F2,Y1⟩,λz=>⟨λhz=>?_,λhz=>?_⟩⟩⟩⟩⟩⟩
 ·have hlt:=Y2 hc;refine⟨Y6 hlt,hm _ (dE hlt),λ_=>W2 hlt Z9,λ_ _=>Z4 Z9,λ_ h0=>⟨b7L,Z9⟩,λhq=>nX ?_,λhq=>⟨W2 hlt Z9,x.succ hlt ?_,⟨⟨Y1,I8,Z6⟩,Y1⟩,V5.ext_lt hlt⟩⟩
  ·rw[sp];rintro⟨_,h1,_⟩;have:=h1 x.1 hlt;unfold tE at this;rw[D8,show((x.1:Int)-1).toNat=x.1-1 by omega] at hq
   have hq:=hq.symm.trans this;cases hq
  ·rw[D8,show((x.1:Int)-1).toNat=x.1-1 by omega] at hq
   exact hq
 ·have hlt:=Y2 hy;refine⟨Y6 hlt,(s.fr.getD y.1 dz).pg,λ_=>⟨Y1,hf.2 _ hlt⟩,(s,(s.fr.getD y.1 dz).no),λ_=>⟨⟨(jR _),Y1⟩,hf.1⟩,λhq=>nX ?_,λhq=>⟨W2 hlt Z9,y.succ hlt hq,⟨⟨Y1,I8,Z6⟩,Y1⟩,V5.ext_lt hlt⟩⟩
  rw[sp];rintro⟨_,_,h1,_⟩;have:=h1 y.1 hlt;have hq:wE s y.1=true:=hq;rw[this] at hq;cases hq
 ·have hlt:z.1<8:=by have:=G5 hz;omega
  refine⟨(s.d,z.1),⟨⟨(eqD _),Y1⟩,F,L9⟩,λhq=>nX ?_,λhq=>⟨Z4 Z9,z.succ hlt hq,⟨⟨Y1,I8,Z6⟩,Y1⟩,V5.ext_lt hlt⟩⟩
  rw[sp];rintro⟨_,_,_,h1⟩;have:=h1 z.1 hlt;have hq:zW s z.1=true:=hq;rw[this] at hq;cases hq
 ·have g1:=X9 hc;have g2:=X9 hy;have g3:8<=z.1:=by have:=r8 hz;omega
  exact(sp.2 ⟨h,λi hi=>x.2.2 i (xX hi g1),λi hi=>y.2.2 i (xX hi g2),λi hi=>z.2.2 i (xX hi g3)⟩).symm
def yI(n:Int):UInt8:=R0 (IntKind.u8.wrap n)
def V7(L:List (Bz)):Nat->Bz
 |0=>[yI L.length]
 |i+1=>V7 L i++[yI (L.getD i []).length]++L.getD i []
def S4(L:List (Bz)):Bz:=V7 L L.length
def k8(L:List (Bz)):Prop:=L.length<=1000/\∀i,i<L.length->(L.getD i []).length<=1000
def vV:Rl:=⟨List (Bz),λL=>[s9 L],λL=>.bys (S4 L),k8⟩
def a36:Con:=.rel vV
def a5k(L:List (Bz)):Nat->Ann
 |0=>.one (Up L.length) (λx=>⟨[(0,s9 L),(3,.osl 0 0 (V7 L x.1).length),(4,.int .i64 x.1)],[some (.bys 5 (V7 L x.1))]⟩) (λx=>L.length-x.1) [.arr 0] [.arr 3] (λ_=>Z3)
 |_=>.none
def xB(n:Nat)(l:Bz):Prop:=n=l.length/\l.length<=1000000
def vU:List T->X8->Option (T×X8×Option Prop)
 | [.osl k off n],[some (.bys ty l)]=>match k,off,ty with
  |0,0,5=>some (.bys (l++z6 (zN l)),[none],some (xB n l))
  |_,_,_=>none
 |_,_=>none
def a5E:Con:=.eff vU
theorem mH:GK 221 a5E:=gk func221<|by
 intro args H res H' p h hp;unfold vU at h;split at h
 case h_2=>cases h
 rename_i k off n ty l;split at h
 ·skip
  simp only[X0,U4] at h;obtain⟨rfl,rfl,rfl⟩:=h;obtain⟨rfl,hl⟩:xB n l:=hp;have e4:(z6 (zN l)).length=4:=rfl;refine vcE (gC jO (gC tO gN)) func221 Z3 (bs:=[false]) (α:=∃(x:(tX IntKind.i64).ι),(Le (0+l.length) l.length/\(List.take l.length (List.drop 0 l)=x/\True)/\u9 x)/\∃(x_1:nK.ι),(((↑(zN x):Int)=(x_1.1:Int)/\(4=match x_1.2 with|true=>(4:Int)|false=>(2:Int))/\True)/\True)/\(Le l.length l.length/\U8 l.length (match x_1.2 with|true=>z6 x_1.1|false=>yW x_1.1).length 1)/\Le (0+(l.length+(match x_1.2 with|true=>z6 x_1.1|false=>yW x_1.1).length)) (List.take l.length l++match x_1.2 with|true=>z6 x_1.1|false=>yW x_1.1).length/\List.take (l.length+(match x_1.2 with|true=>z6 x_1.1|false=>yW x_1.1).length) (List.drop 0 (List.take l.length l++match x_1.2 with|true=>z6 x_1.1|false=>yW x_1.1))=l++z6 (zN l)/\True/\True) ⟨l,⟨J9,⟨cI,Z6⟩,a0X⟩,(zN l,true),Y1,⟨U9 _,?_,?_⟩,?_,?_,Y1⟩
  ·simp only[e4];omega
  ·simp only[e4];omega
  ·unfold Le;rw[j_l,F7,D2];exact U9 _
  ·rw[j_l,List.drop_zero];exact List.take_of_length_le (by rw[F7];exact U9 _)
 ·cases h
theorem vX(L:List (Bz))(h:∀i,i<L.length->(L.getD i []).length<=1000):∀i,i<=L.length->(V7 L i).length<=1+1001*i
 |0,_=>by simp[V7]
 |i+1,hi=>by
  have d:=vX L h i Z9
  have e:=h i Z9
  simp only[V7,F7,List.length_cons,List.length_nil];omega
theorem l01Fields_ok:GK 303 a36:=gk func303<|by
 rintro(L:List (Bz)) ⟨hL,hs⟩;refine U5 gN func303 (a5k L) (α:=let u:=(L.length:Int);R1 IntKind.u8 (IntKind.u8.wrap u)/\(∃(x:Up L.length),((Z0 Z5 L L)/\(0=0/\1=(V7 L x.1).length)/\0=(x.1:Int)/\True)/\List.map R0 [IntKind.u8.wrap u]=V7 L x.1/\True)/\∀(x:Up L.length),let v:=(V7 L x.1);let z:=(x.1:Int);let q:=(L.getD z.toNat []).length;let p:=v.length;let r:=(List.take p v++List.take 1 (List.drop 0 (List.map R0 [IntKind.u8.wrap (↑q:Int)])));bd (z<u) (W9 z L.length/\R1 IntKind.u8 (IntKind.u8.wrap (↑q:Int))/\(Le 1 1/\Le p p/\U8 p 1 1)/\W9 z L.length/\(Le (p+1) r.length/\U8 (p+1) q 1)/\Ri (z+1)/\∃(y:Up L.length),(((Z0 Z5 L L)/\(0=0/\p+1+q=(V7 L y.1).length)/\z+1=(y.1:Int)/\True)/\List.take (p+1) r++L.getD z.toNat []=V7 L y.1/\True)/\Lt (L.length-y.1) (L.length-x.1)) (Le (0+p) p/\List.take p (List.drop 0 v)=S4 L)) ⟨O6 _,⟨⟨0,N7 _⟩,Y1⟩,λx=>⟨λhc=>?_,λhc=>?_⟩⟩
 ·have hlt:=Y2 hc;have h1:=vX L hs x.1 Z9
  have h:=hs x.1 hlt;rw[D8];have e:List.take (V7 L x.1).length (V7 L x.1)++List.take 1 (List.drop 0 (List.map R0 [IntKind.u8.wrap ((L.getD x.1 []).length:Int)]))=V7 L x.1++[yI (L.getD x.1 []).length]:=by
   rw[j_l];rfl
  rw[e];have d:(V7 L x.1++[yI (L.getD x.1 []).length]).length=(V7 L x.1).length+1:=W7
  refine⟨Y6 hlt,O6 _,⟨U9 _,U9 _,Z9,Z9⟩,Y6 hlt,⟨J9,Z9,Z9⟩,W2 hlt Z9,⟨x.1+1,hlt⟩,⟨⟨Y1,⟨rfl,?_⟩,L9,Z6⟩,?_,Z6⟩,V5.ext_lt hlt⟩
  ·simp only[V7,F7,List.length_cons,List.length_nil]
  ·rw[←d,j_l];rfl
 ·have hx:x.1=L.length:=by have:=x.2;have:=X9 hc;omega
  rw[hx];exact⟨J9,by rw[List.drop_zero,j_l];rfl⟩
def sC(no:Int)(p:Pg):Bz:=([R0 112,yI no]++yW p.Q.toNat)++S4 p.sl
def S3(no:Int)(p:Pg):Bz:=sC no p++z6 (zN (sC no p))
def oJ:Rl:=⟨Int×Pg,λx=>[.int .i64 x.1,.agg x.2.ts],λx=>.bys (S3 x.1 x.2),λx=>PgP x.2⟩
def a8H:Con:=.rel oJ
theorem a4B:GK 334 a8H:=gk func334<|by
 rintro⟨no,p⟩ ⟨o,j,l,g⟩;simp only at o j l g;have f:k8 p.sl:=⟨Z9,λi hi=>Nat.le_trans (g i hi) M3⟩
 have h:=vX p.sl f.2 p.sl.length (U9 _);have h:(S4 p.sl).length<=5000:=by unfold S4;omega
 have e:(yW p.Q.toNat).length=2:=rfl;have d:List.take 2 (List.map R0 [(112:Int),IntKind.u8.wrap no])=[R0 112,yI no]:=rfl;have n:List.take (2+(yW p.Q.toNat).length) ([R0 112,yI no]++yW p.Q.toNat)=[R0 112,yI no]++yW p.Q.toNat:=List.take_of_length_le C5
 have key:List.take (2+(yW p.Q.toNat).length) (List.take 2 (List.map R0 [(112:Int),IntKind.u8.wrap no])++yW p.Q.toNat)++S4 p.sl=sC no p:=by rw[d,n];rfl
 refine U5 (gC tO (gC l01Fields_ok (gC mH gN))) func334 Z3 (α:=(R1 IntKind.u8 (112:Int)/\R1 IntKind.u8 (IntKind.u8.wrap no))/\∃(x:nK.ι),((p.Q=(x.1:Int)/\(2=match x.2 with|true=>(4:Int)|false=>(2:Int))/\True)/\True)/\(Le 2 2/\U8 2 (match x.2 with|true=>z6 x.1|false=>yW x.1).length 1)/\∃(X:vV.ι),(((Z0 Z5 p.sl X)/\True)/\k8 X)/\(Le (2+(match x.2 with|true=>z6 x.1|false=>yW x.1).length) (List.take 2 (List.map R0 [(112:Int),IntKind.u8.wrap no])++match x.2 with|true=>z6 x.1|false=>yW x.1).length/\U8 (2+(match x.2 with|true=>z6 x.1|false=>yW x.1).length) (S4 X).length 1)/\xB (2+(match x.2 with|true=>z6 x.1|false=>yW x.1).length+(S4 X).length) (List.take (2+(match x.2 with|true=>z6 x.1|false=>yW x.1).length) (List.take 2 (List.map R0 [(112:Int),IntKind.u8.wrap no])++match x.2 with|true=>z6 x.1|false=>yW x.1)++S4 X)/\List.take (2+(match x.2 with|true=>z6 x.1|false=>yW x.1).length) (List.take 2 (List.map R0 [(112:Int),IntKind.u8.wrap no])++match x.2 with|true=>z6 x.1|false=>yW x.1)++S4 X++z6 (zN (List.take (2+(match x.2 with|true=>z6 x.1|false=>yW x.1).length) (List.take 2 (List.map R0 [(112:Int),IntKind.u8.wrap no])++match x.2 with|true=>z6 x.1|false=>yW x.1)++S4 X))=S3 no p) ⟨⟨(pH _).2 Z9,O6 _⟩,(p.Q.toNat,false),⟨⟨L9,Y1⟩,Z6⟩,⟨U9 _,a9E,a9E⟩,p.sl,⟨Y1,f⟩,⟨?_,a9E,a9E⟩,?_,?_⟩
 ·unfold Le;rw[d,F7];exact U9 _
 ·show xB _ (List.take (2+(yW p.Q.toNat).length) (List.take 2 (List.map R0 [(112:Int),IntKind.u8.wrap no])++yW p.Q.toNat)++S4 p.sl);rw[key];have hl:(sC no p).length=2+(yW p.Q.toNat).length+(S4 p.sl).length:=by unfold sC;simp;omega
  exact⟨hl.symm,by rw[hl,e];omega⟩
 ·show List.take (2+(yW p.Q.toNat).length) (List.take 2 (List.map R0 [(112:Int),IntKind.u8.wrap no])++yW p.Q.toNat)++S4 p.sl++z6 (zN (List.take (2+(yW p.Q.toNat).length) (List.take 2 (List.map R0 [(112:Int),IntKind.u8.wrap no])++yW p.Q.toNat)++S4 p.sl))=_;rw[key];rfl
def xW(row:Nat->List T)(z:List T)(i j:Nat):List T:=if j<i then row j else z
theorem wV{row:Nat->List T}{z cs:List T}{m:Nat}(r:∀j,(row j).length=m)(Z:z.length=m)(i:Nat)(C:cs=row i)(j:Nat):setRow (xW row z i) (0+(i:Int).toNat) 0 cs j=xW row z (i+1) j:=by
 have l:(xW row z i j).length=m:=by unfold xW;split<;>simp only[r,Z]
 rw[E4 (by rw[l,C,r]),show 0+(i:Int).toNat=i by omega]
 by_cases hji:j=i
 ·subst hji;rw[show Nat.beq j j=true from by simp]
  show cs=xW row z (j+1) j;unfold xW;rw[if_pos (Nat.lt_succ_self j)];exact C
 ·rw[show Nat.beq j i=false from Bool.eq_false_iff.2 λh=>hji (F3 h)]
  show xW row z i j=xW row z (i+1) j;unfold xW;by_cases d:j<i
  ·rw[if_pos d,if_pos Z9]
  ·rw[if_neg d,if_neg Z9]
theorem uD{row:Nat->List T}{z:List T}{n:Nat}:Z8 n (xW row z n) row:=λi hi=>by unfold xW;rw[if_pos hi]
theorem uS{row:Nat->List T}{z:List T}{n:Nat}:Z8 n (λ_=>z) (xW row z 0):=λi hi=>by unfold xW;rw[if_neg Z9]
def mO(n:Nat):Prop:=n<=9223372036854775807
def A2(s:Bz):Nat:=s.length
def gM:Rl:=⟨List (Bz)×Int,λx=>[s9 x.1,.int .i64 x.2],λx=>.int .i64 (rem x.2 (S2 A2 x.1)),λx=>C1 x.2/\mO x.1.length/\∀i,i<x.1.length->mO (x.1.getD i []).length⟩
def b69:Con:=.rel gM
def b6h(L:List (Bz))(l:Int):Nat->Ann
 |0=>.one {i:Nat//i<=L.length/\(V3 A2 L L.length i:Int)<=l} (λx=>⟨[(0,s9 L),(1,.int .i64 (l-V3 A2 L L.length x.1)),(5,.int .i64 x.1)],[]⟩) (λx=>L.length-x.1) [] [] (λ_=>Z3)
 |_=>.none
theorem a0i:GK 152 b69:=gk func152<|by
 rintro⟨L,l⟩ ⟨⟨d,g⟩,n,B⟩;have n:L.length<=9223372036854775807:=n;simp only at d g B;have M:∀i,i<=L.length->V3 A2 L L.length i<=S2 A2 L:=λi hi=>w6 _ _ _ hi
 have z:V3 A2 L L.length 0=L.length:=rfl;refine U5 gN func152 (b6h L l) (α:=let u:=(S2 A2 L);let r:=(L.length:Int);R1 .i64 (l- r)/\(decide (l- r<0)=true->(-1:Int)=rem l u)/\(decide (l- r<0)=false->(∃(x:{i:Nat//i<=L.length/\(↑(V3 A2 L L.length i):Int)<=l}),((Z0 Z5 L L)/\l- r=l- (↑(V3 A2 L L.length x.1):Int)/\0=(x.1:Int)/\True)/\True)/\∀(x:{i:Nat//i<=L.length/\(↑(V3 A2 L L.length i):Int)<=l}),let z:=(x.1:Int);let q:=(↑(V3 A2 L L.length x.1):Int);let p:=(↑(L.getD z.toNat []).length:Int);(decide (z<r)=true->W9 z L.length/\R1 .i64 (l- q- p)/\(decide (l- q- p<0)=true->(-1:Int)=rem l u)/\(decide (l- q- p<0)=false->R1 .i64 (z+1)/\∃(y:{i:Nat//i<=L.length/\(↑(V3 A2 L L.length i):Int)<=l}),(((Z0 Z5 L L)/\l- q- p=l- (↑(V3 A2 L L.length y.1):Int)/\z+1=(y.1:Int)/\True)/\True)/\Lt (L.length-y.1) (L.length-x.1)))/\(decide (z<r)=false->l- q=rem l u))) ?_
 simp only[k6,o7,uG];refine⟨Z9,λh=>(I6 a9p).symm,λh=>⟨⟨⟨0,N7 _,Z9⟩,⟨⟨S6,X6 _ _⟩,by simp only[z],rfl,Z6⟩,Z6⟩,λx=>⟨λC=>?_,λC=>?_⟩⟩⟩
 ·have hlt:x.1<L.length:=by omega
  have hx:=x.2;have f:=zK A2 L L.length [] hlt;have e:=M (x.1+1) hlt;have R:(L.getD x.1 []).length<=9223372036854775807:=B _ hlt;unfold A2 at f hx e ⊢;rw[D8];refine⟨Y6 hlt,Z9,λr=>(I6 (by unfold A2 at*;omega)).symm,λr=>⟨Z9,⟨x.1+1,hlt,by unfold A2;omega⟩,⟨⟨⟨S6,X6 _ _⟩,by unfold A2;simp only;omega,L9,Z6⟩,Z6⟩,V5.ext_lt hlt⟩⟩
 ·have hx:=x.2;have he:x.1=L.length:=by omega
  rw[he] at hx ⊢;exact(D7 hx.2).symm
def b6K(L:List (Bz)):Nat->Ann
 |0=>.one (Up L.length) (λx=>⟨[(0,s9 L),(3,.osl 0 0 L.length),(4,.int .i64 x.1)],[some (.arr true 0 1 L.length (xW (Z5 L) [.str []] x.1))]⟩) (λx=>L.length-x.1) [.arr 0] [.arr 0] (λ_=>Z3)
 |_=>.none
def dR:Rl:=⟨List (Bz),λL=>[s9 L,s9 L],λ_=>.bool true,λL=>L.length<=1048576⟩
def b6G:Con:=.rel dR
def b5y(L:List (Bz)):Nat->Ann
 |0=>.one (Up L.length) (λx=>⟨[(0,s9 L),(1,s9 L),(5,.int .i64 x.1)],[]⟩) (λx=>L.length-x.1) [] [] (λ_=>Z3)
 |_=>.none
theorem a0j:GK 189 b6G:=gk func189<|by
 intro(L:List (Bz)) (hL:L.length<=1048576);refine U5 gN func189 (b5y L) (α:=let r:=(L.length:Int);let q:=(Z0 Z5 L L);br (r !=r) (false=true) ((∃(x:Up L.length),(q/\q/\0=(x.1:Int)/\True)/\True)/\∀(x:Up L.length),let p:=(x.1:Int);bd (p<r) (W9 p L.length/\W9 p L.length/\br (!L.getD p.toNat []==L.getD p.toNat []) (false=true) (Ri (p+1)/\∃(y:Up L.length),((q/\q/\p+1=(y.1:Int)/\True)/\True)/\Lt (L.length-y.1) (L.length-x.1))) (true=true))) ⟨λh=>L3,λ_=>⟨⟨⟨0,N7 _⟩,⟨⟨S6,X6 _ _⟩,⟨S6,X6 _ _⟩,Y1⟩,Z6⟩,λx=>⟨λC=>?_,λ_=>rfl⟩⟩⟩
 have t:=Y2 C;exact⟨Y6 t,Y6 t,λh=>L3,λ_=>⟨W2 t Z9,⟨x.1+1,t⟩,⟨⟨⟨S6,X6 _ _⟩,⟨S6,X6 _ _⟩,L9,Z6⟩,Z6⟩,V5.ext_lt t⟩⟩
def a33:Rl:=⟨List Int×Int,λx=>[sM x.1,.int .i64 x.2],λx=>.int .i64 (rem x.2 x.1.length),λx=>C1 x.2/\mO x.1.length⟩
def b6i:Con:=.rel a33
theorem b4i:GK 154 b6i:=gk func154<|by
 rintro⟨L,l⟩ ⟨⟨e,d⟩,n⟩;have n:L.length<=9223372036854775807:=n;simp only at e d;refine U5 gN func154 Z3 (α:=let p:=(L.length:Int);R1 .i64 (l- p)/\(decide (l- p<0)=true->(-1:Int)=rem l L.length)/\(decide (l- p<0)=false->l- p=rem l L.length)) ?_
 simp only[k6,o7,uG];exact⟨Z9,λh=>(I6 Z9).symm,λh=>(D7 Z9).symm⟩
def b7E(L:List Int):Nat->Ann
 |0=>.one (Up L.length) (λx=>⟨[(0,sM L),(3,.osl 0 0 L.length),(4,.int .i64 x.1)],[some (.arr true 0 1 L.length (xW (Y9 L) [.int .i64 0] x.1))]⟩) (λx=>L.length-x.1) [.arr 0] [.arr 0] (λ_=>Z3)
 |_=>.none
def a3P:Rl:=⟨List Int,λL=>[sM L,sM L],λ_=>.bool true,λL=>L.length<=1048576⟩
def b9i:Con:=.rel a3P
def b9q(L:List Int):Nat->Ann
 |0=>.one (Up L.length) (λx=>⟨[(0,sM L),(1,sM L),(5,.int .i64 x.1)],[]⟩) (λx=>L.length-x.1) [] [] (λ_=>Z3)
 |_=>.none
theorem b2S:GK 191 b9i:=gk func191<|by
 intro(L:List Int) (hL:L.length<=1048576);refine U5 gN func191 (b9q L) (α:=let r:=(L.length:Int);let q:=(Z0 Y9 L L);br (r !=r) (false=true) ((∃(x:Up L.length),(q/\q/\0=(x.1:Int)/\True)/\True)/\∀(x:Up L.length),let p:=(x.1:Int);bd (p<r) (W9 p L.length/\W9 p L.length/\br (L.getD p.toNat (0:Int) !=L.getD p.toNat (0:Int)) (false=true) (Ri (p+1)/\∃(y:Up L.length),((q/\q/\p+1=(y.1:Int)/\True)/\True)/\Lt (L.length-y.1) (L.length-x.1))) (true=true))) ⟨λh=>L3,λ_=>⟨⟨⟨0,N7 _⟩,⟨⟨S6,X6 _ _⟩,⟨S6,X6 _ _⟩,Y1⟩,Z6⟩,λx=>⟨λC=>?_,λ_=>rfl⟩⟩⟩
 have t:=Y2 C;exact⟨Y6 t,Y6 t,λh=>L3,λ_=>⟨W2 t Z9,⟨x.1+1,t⟩,⟨⟨⟨S6,X6 _ _⟩,⟨S6,X6 _ _⟩,L9,Z6⟩,Z6⟩,V5.ext_lt t⟩⟩
def K8(p:Pend):Nat:=p.d.length
def LmP(p:Pend):Prop:=mO p.d.length
def SmP(_:Pend):Prop:=True
def a40:Rl:=⟨Pend×Int,λx=>[.agg x.1.ts,.int .i64 x.2],λx=>.int .i64 (rem x.2 (K8 x.1)),λx=>C1 x.2/\LmP x.1⟩
def b9r:Con:=.rel a40
def a3i:Rl:=⟨Pend,λr=>[.agg r.ts],λr=>.agg r.ts,SmP⟩
def b8R:Con:=.rel a3i
def a5N:Rl:=⟨Pend,λr=>[.agg r.ts,.agg r.ts],λ_=>.bool true,SmP⟩
def b55:Con:=.rel a5N
theorem b2Z:GK 254 b9r:=gk func254<|by
 rintro⟨r,l⟩ ⟨⟨g,f⟩,B⟩;have B:r.d.length<=9223372036854775807:=B;simp only at g f;refine U5 gN func254 Z3 (α:=let p:=(r.d.length:Int);R1 .i64 (l- p)/\(decide (l- p<0)=true->(-1:Int)=rem l (K8 r))/\(decide (l- p<0)=false->l- p=rem l (K8 r))) ?_
 simp only[k6,o7,uG];have e:((K8 r:Nat):Int)=r.d.length:=rfl;exact⟨Z9,λh=>(I6 Z9).symm,λh=>by rw[D7 Z9];omega⟩
theorem b43(r:Pend)(h:
  r.at_=r.at_/\r.d=r.d/\True):
  V4 prog 266 [.agg r.ts] (.agg r.ts):=
 U5 gN func266 Z3 h
theorem b2H:GK 266 b8R:=gk func266<|λr _=>b43 r Y1
theorem b29:GK 276 b55:=gk func276<|by
 intro r _;refine U5 gN func276 Z3 (α:=((r.at_ !=r.at_)=true->false=true)/\((r.at_ !=r.at_)=false->((!r.d==r.d)=true->false=true)/\((!r.d==r.d)=false->true=true))) ?_
 simp
def a0b:Rl:=⟨List Pend×Int,λx=>[v4 x.1,.int .i64 x.2],λx=>.int .i64 (rem x.2 (S2 K8 x.1)),λx=>C1 x.2/\mO x.1.length/\∀i,i<x.1.length->LmP (x.1.getD i dz)⟩
def b1Y:Con:=.rel a0b
def b2D(L:List Pend)(l:Int):Nat->Ann
 |0=>.one {i:Nat//i<=L.length/\(V3 K8 L L.length i:Int)<=l} (λx=>⟨[(0,v4 L),(1,.int .i64 (l-V3 K8 L L.length x.1)),(5,.int .i64 x.1)],[]⟩) (λx=>L.length-x.1) [] [] (λ_=>Z3)
 |_=>.none
theorem a7R:GK 153 b1Y:=gk func153<|by
 rintro⟨L,left⟩ ⟨⟨e,g⟩,n,B⟩;have n:L.length<=9223372036854775807:=n;simp only at e g B;have M:∀i,i<=L.length->V3 K8 L L.length i<=S2 K8 L:=λi hi=>w6 _ _ _ hi
 have z:V3 K8 L L.length 0=L.length:=rfl;refine U5 (gC b2Z gN) func153 (b2D L left) (α:=let v:=(S2 K8 L);let p:=(L.length:Int);R1 .i64 (left- p)/\(decide (left- p<0)=true->(-1:Int)=rem left v)/\(decide (left- p<0)=false->(∃(x:{i:Nat//i<=L.length/\(↑(V3 K8 L L.length i):Int)<=left}),((Z0 Z1 L L)/\left- p=left- (↑(V3 K8 L L.length x.1):Int)/\0=(x.1:Int)/\True)/\True)/\∀(x:{i:Nat//i<=L.length/\(↑(V3 K8 L L.length i):Int)<=left}),let r:=(↑(V3 K8 L L.length x.1):Int);let q:=(x.1:Int);let u:=(L.getD q.toNat dz);(decide (q<p)=true->W9 q L.length/\∃(X:a40.ι),let z:=(rem X.2 (K8 X.1)<0);(((u.at_=X.1.at_/\u.d=X.1.d/\True)/\left- r=X.2/\True)/\C1 X.2/\LmP X.1)/\(decide z=true->(-1:Int)=rem left v)/\(decide z=false->R1 .i64 (q+1)/\∃(y:{i:Nat//i<=L.length/\(↑(V3 K8 L L.length i):Int)<=left}),(((Z0 Z1 L L)/\rem X.2 (K8 X.1)=left- (↑(V3 K8 L L.length y.1):Int)/\q+1=(y.1:Int)/\True)/\True)/\Lt (L.length-y.1) (L.length-x.1)))/\(decide (q<p)=false->left- r=rem left v))) ?_
 simp only[k6,o7,uG];refine⟨Z9,λh=>(I6 a9p).symm,λh=>⟨⟨⟨0,N7 _,Z9⟩,⟨⟨S6,X6 _ _⟩,by simp only[z],rfl,Z6⟩,Z6⟩,λx=>⟨λC=>?_,λC=>?_⟩⟩⟩
 ·have hlt:x.1<L.length:=by omega
  have hx:=x.2;have j:=zK K8 L L.length dz hlt;have f:=M (x.1+1) hlt;have r:=B _ hlt;refine⟨Y6 hlt,(L.getD x.1 dz,left- (V3 K8 L L.length x.1:Int)),⟨Y1,⟨L9,L9⟩,r⟩,λhr=>?_,λhr=>⟨Z9,⟨x.1+1,hlt,?_⟩,⟨⟨⟨S6,X6 _ _⟩,?_,L9,Z6⟩,Z6⟩,V5.ext_lt hlt⟩⟩
  ·simp only at hr;by_cases hq:(K8 (L.getD x.1 dz):Int)<=left- (V3 K8 L L.length x.1:Int)
   ·rw[D7 hq] at hr;omega
   ·exact(I6 Z9).symm
  ·simp only at hr;by_cases hq:(K8 (L.getD x.1 dz):Int)<=left- (V3 K8 L L.length x.1:Int)
   ·omega
   ·rw[I6 Z9] at hr
    omega
  ·simp only at hr ⊢;by_cases hq:(K8 (L.getD x.1 dz):Int)<=left- (V3 K8 L L.length x.1:Int)
   ·rw[D7 hq];omega
   ·rw[I6 Z9] at hr
    omega
 ·have hx:=x.2;have he:x.1=L.length:=by omega
  rw[he] at hx ⊢;exact(D7 hx.2).symm
def b2g(L:List Pend):Nat->Ann
 |0=>.one (Up L.length) (λx=>⟨[(0,v4 L),(3,.osl 0 0 L.length),(4,.int .i64 x.1)],[some (.arr true 0 2 L.length (xW (Z1 L) [.int .i64 0,.str []] x.1))]⟩) (λx=>L.length-x.1) [.arr 0] [.arr 0] (λ_=>Z3)
 |_=>.none
def a0l:Rl:=⟨List Pend,λL=>[v4 L,v4 L],λ_=>.bool true,λL=>L.length<=1048576/\∀i,i<L.length->SmP (L.getD i dz)⟩
def b2A:Con:=.rel a0l
def b2K(L:List Pend):Nat->Ann
 |0=>.one (Up L.length) (λx=>⟨[(0,v4 L),(1,v4 L),(5,.int .i64 x.1)],[]⟩) (λx=>L.length-x.1) [] [] (λ_=>Z3)
 |_=>.none
theorem a52:GK 190 b2A:=gk func190<|by
 rintro(L:List Pend) ⟨hL,hb⟩;refine U5 (gC b29 gN) func190 (b2K L) (α:=let z:=(L.length:Int);let r:=(Z0 Z1 L L);br (z !=z) (false=true) ((∃(x:Up L.length),(r/\r/\0=(x.1:Int)/\True)/\True)/\∀(x:Up L.length),let q:=(x.1:Int);let u:=(L.getD q.toNat dz);bd (q<z) (W9 q L.length/\W9 q L.length/\∃(X:a5N.ι),let p:=(u.at_=X.at_/\u.d=X.d/\True);((p/\p/\True)/\SmP X)/\br false (false=true) (Ri (q+1)/\∃(y:Up L.length),((r/\r/\q+1=(y.1:Int)/\True)/\True)/\Lt (L.length-y.1) (L.length-x.1))) (true=true))) ⟨λh=>L3,λ_=>⟨⟨⟨0,N7 _⟩,⟨⟨S6,X6 _ _⟩,⟨S6,X6 _ _⟩,Y1⟩,Z6⟩,λx=>⟨λC=>?_,λ_=>rfl⟩⟩⟩
 have t:=Y2 C;exact⟨Y6 t,Y6 t,L.getD x.1 dz,⟨Y1,hb _ t⟩,λh=>h,λ_=>⟨W2 t Z9,⟨x.1+1,t⟩,⟨⟨⟨S6,X6 _ _⟩,⟨S6,X6 _ _⟩,L9,Z6⟩,Z6⟩,V5.ext_lt t⟩⟩
theorem A8{l:Int}{a b:Nat}(h:rem l a<0)(B:a<=b):rem l b= -1:=by
 refine I6 ?_
 by_cases q:(a:Int)<=l
 ·rw[D7 q] at h;omega
 ·omega
theorem yE{l:Int}{a b c:Nat}(h:¬rem l a<0)(hl:C1 l)(C:c=a+b):rem (rem l a) b=rem l c/\C1 (rem l a):=by
 by_cases hq:(a:Int)<=l
 ·rw[D7 hq] at h ⊢;obtain⟨h0,h1⟩:=hl;refine⟨?_,by constructor<;>omega⟩
  by_cases hr:(c:Int)<=l
  ·rw[D7 hr,D7 Z9]
   omega
  ·rw[I6 Z9,I6 Z9]
 ·rw[I6 Z9] at h
  omega
def yP(d:Dsk):Nat:=S2 A2 d.E+S2 K8 d.C+d.keep.length
def LmL{α:Type}(d:α)(f:α->Prop)(L:List α):Prop:=mO L.length/\∀i,i<L.length->f (L.getD i d)
def LmD(d:Dsk):Prop:=LmL [] (λs=>mO s.length) d.E/\LmL dz LmP d.C/\mO d.keep.length
def nM(d:Dsk):Prop:=d.E.length<=1048576/\d.C.length<=1048576/\d.keep.length<=1048576
def a9Y:Rl:=⟨Dsk×Int,λx=>[.agg x.1.ts,.int .i64 x.2],λx=>.int .i64 (rem x.2 (yP x.1)),λx=>C1 x.2/\LmD x.1⟩
def c2L:Con:=.rel a9Y
theorem b7b:GK 67 c2L:=gk func67<|by
 rintro⟨d,left⟩ ⟨hl,l,j,h3⟩;simp only at hl l j h3;have e:yP d=S2 A2 d.E+S2 K8 d.C+d.keep.length:=rfl;have n:S2 A2 d.E<=yP d:=Z9
 have o:S2 A2 d.E+S2 K8 d.C<=yP d:=Z9
 refine U5 (gC a0i (gC a7R (gC b4i gN))) func67 Z3 (α:=let p:=((-1:Int)=rem left (yP d));∃(x:gM.ι),(((Z0 Z5 d.E x.1)/\left=x.2/\True)/\C1 x.2/\mO x.1.length/\∀(i:Nat),i<x.1.length->mO (x.1.getD i []).length)/\bd (rem x.2 (S2 A2 x.1)<0) p (∃(X:a0b.ι),(((Z0 Z1 d.C X.1)/\rem x.2 (S2 A2 x.1)=X.2/\True)/\C1 X.2/\mO X.1.length/\∀(i:Nat),i<X.1.length->LmP (X.1.getD i dz))/\bd (rem X.2 (S2 K8 X.1)<0) p (∃(x:a33.ι),let q:=x.1.length;(((Z0 Y9 d.keep x.1)/\rem X.2 (S2 K8 X.1)=x.2/\True)/\C1 x.2/\mO q)/\bd (rem x.2 q<0) p (rem x.2 q=rem left (yP d))))) ⟨(d.E,left),⟨Y1,hl,l⟩,λh=>(A8 (G5 h) n).symm,λh=>?_⟩
 obtain⟨q1,L⟩:=yE (b:=S2 K8 d.C) (r8 h) hl rfl;refine⟨(d.C,rem left (S2 A2 d.E)),⟨Y1,L,j⟩,λg=>?_,λg=>?_⟩
 ·simp only at g;rw[q1] at g;exact(A8 (G5 g) o).symm
 ·simp only at g ⊢;rw[q1] at g ⊢;obtain⟨q2,l2⟩:=yE (b:=d.keep.length) (r8 g) hl rfl;refine⟨(d.keep,rem left (S2 A2 d.E+S2 K8 d.C)),⟨Y1,l2,h3⟩,λf=>?_,λf=>?_⟩
  ·simp only at f;rw[q2] at f;exact(A8 (G5 f) (U9 _)).symm
  ·exact q2
def b0S:Rl:=⟨Dsk,λd=>[.agg d.ts,.agg d.ts],λ_=>.bool true,nM⟩
def c3w:Con:=.rel b0S
theorem b5U:GK 100 c3w:=gk func100<|by
 rintro(d:Dsk) ⟨h1,h2,h3⟩;exact U5 (gC a0j (gC a52 (gC b2S gN))) func100 Z3 (α:=let p:=(false=true);∃(x:dR.ι),(((Z0 Z5 d.E x)/\(Z0 Z5 d.E x)/\True)/\x.length<=1048576)/\br false p (∃(x:a0l.ι),(((Z0 Z1 d.C x)/\(Z0 Z1 d.C x)/\True)/\x.length<=1048576/\∀(i:Nat),i<x.length->SmP (List.getD x i dz))/\br false p (br (!d.A==d.A) p (∃(x:a3P.ι),let q:=(Z0 Y9 d.keep x);((q/\q/\True)/\x.length<=1048576)/\br false p (true=true))))) ⟨d.E,⟨Y1,h1⟩,λh=>h,λ_=>⟨d.C,⟨Y1,h2,λ_ _=>trivial⟩,λh=>h,λ_=>⟨λh=>L3,λ_=>⟨d.keep,⟨Y1,h3⟩,λh=>h,λ_=>rfl⟩⟩⟩⟩
def aC(p:Pg):Nat:=S2 A2 p.sl
def LmG(p:Pg):Prop:=LmL [] (λs=>mO s.length) p.sl
def SmG(p:Pg):Prop:=p.sl.length<=1048576
def b7j:Rl:=⟨Pg×Int,λx=>[.agg x.1.ts,.int .i64 x.2],λx=>.int .i64 (rem x.2 (aC x.1)),λx=>C1 x.2/\LmG x.1⟩
def c7A:Con:=.rel b7j
theorem c26:GK 255 c7A:=gk func255<|by
 rintro⟨p,l⟩ ⟨L,d⟩;exact U5 (gC a0i gN) func255 Z3 (α:=∃(x:gM.ι),(((Z0 Z5 p.sl x.1)/\l=x.2/\True)/\C1 x.2/\mO x.1.length/\∀(i:Nat),i<x.1.length->mO (x.1.getD i []).length)/\bd (rem x.2 (S2 A2 x.1)<0) ((-1:Int)=rem l (aC p)) (rem x.2 (S2 A2 x.1)=rem l (aC p))) ⟨(p.sl,l),⟨Y1,L,d⟩,λh=>(A8 (G5 h) (U9 _)).symm,λ_=>rfl⟩
def b9L:Rl:=⟨Pg,λp=>[.agg p.ts,.agg p.ts],λ_=>.bool true,SmG⟩
def c51:Con:=.rel b9L
theorem c5J(p:Pg)(h:
  ((p.Q !=p.Q)=true->false=true)/\((p.Q !=p.Q)=false->∃(x:dR.ι),(((Z0 Z5 p.sl x)/\(Z0 Z5 p.sl x)/\True)/\x.length<=1048576)/\br false (false=true) (true=true))):
  V4 prog 277 [.agg p.ts,.agg p.ts] (.bool true):=
 U5 (gC a0j gN) func277 Z3 h
theorem c0X:GK 277 c51:=gk func277<|λ(p:Pg) h1=>c5J p ⟨λh=>L3,λ_=>⟨p.sl,⟨Y1,h1⟩,λh=>h,λ_=>rfl⟩⟩
def K2(f:Frm):Nat:=aC f.pg
def LmF(f:Frm):Prop:=LmG f.pg
def SmF(f:Frm):Prop:=SmG f.pg
def b1n:Rl:=⟨Frm×Int,λx=>[.agg x.1.ts,.int .i64 x.2],λx=>.int .i64 (rem x.2 (K2 x.1)),λx=>C1 x.2/\LmF x.1⟩
def c3H:Con:=.rel b1n
theorem b78:GK 156 c3H:=gk func156<|by
 rintro⟨f,l⟩ ⟨L,d⟩;exact U5 (gC c26 gN) func156 Z3 (α:=∃(x:b7j.ι),(((f.pg.Q=x.1.Q/\(Z0 Z5 f.pg.sl x.1.sl)/\True)/\l=x.2/\True)/\C1 x.2/\LmG x.1)/\bd (rem x.2 (aC x.1)<0) ((-1:Int)=rem l (K2 f)) (rem x.2 (aC x.1)=rem l (K2 f))) ⟨(f.pg,l),⟨Y1,L,d⟩,λh=>(A8 (G5 h) (U9 _)).symm,λ_=>rfl⟩
def b0u:Rl:=⟨Frm,λf=>[.agg f.ts,.agg f.ts],λ_=>.bool true,SmF⟩
def c2a:Con:=.rel b0u
theorem c0M(f:Frm)(h:
let q:=(false=true);  ((f.no !=f.no)=true->false=true)/\((f.no !=f.no)=false->∃(x:b9L.ι),let p:=(f.pg.Q=x.Q/\(Z0 Z5 f.pg.sl x.sl)/\True);((p/\p/\True)/\SmG x)/\br false q (br (!f.D==f.D) q (br (f.first !=f.first) q (true=true))))):
  V4 prog 193 [.agg f.ts,.agg f.ts] (.bool true):=
 U5 (gC c0X gN) func193 Z3 h
theorem b5l:GK 193 c2a:=gk func193<|λ(f:Frm) h1=>c0M f ⟨λh=>L3,λ_=>⟨f.pg,⟨Y1,h1⟩,λh=>h,λ_=>⟨λh=>L3,λ_=>⟨λh=>L3,λ_=>rfl⟩⟩⟩⟩
def a4X:Rl:=⟨List Frm×Int,λx=>[uB x.1,.int .i64 x.2],λx=>.int .i64 (rem x.2 (S2 K2 x.1)),λx=>C1 x.2/\mO x.1.length/\∀i,i<x.1.length->LmF (x.1.getD i dz)⟩
def b7Y:Con:=.rel a4X
def b5P(L:List Frm)(l:Int):Nat->Ann
 |0=>.one {i:Nat//i<=L.length/\(V3 K2 L L.length i:Int)<=l} (λx=>⟨[(0,uB L),(1,.int .i64 (l-V3 K2 L L.length x.1)),(5,.int .i64 x.1)],[]⟩) (λx=>L.length-x.1) [] [] (λ_=>Z3)
 |_=>.none
theorem b20:GK 69 b7Y:=gk func69<|by
 rintro⟨L,left⟩ ⟨⟨d,f⟩,n,B⟩;have n:L.length<=9223372036854775807:=n;simp only at d f B;have M:∀i,i<=L.length->V3 K2 L L.length i<=S2 K2 L:=λi hi=>w6 _ _ _ hi
 have z:V3 K2 L L.length 0=L.length:=rfl;refine U5 (gC b78 gN) func69 (b5P L left) (α:=let v:=(S2 K2 L);let q:=(L.length:Int);R1 .i64 (left- q)/\(decide (left- q<0)=true->(-1:Int)=rem left v)/\(decide (left- q<0)=false->(∃(x:{i:Nat//i<=L.length/\(↑(V3 K2 L L.length i):Int)<=left}),((Z0 V9 L L)/\left- q=left- (↑(V3 K2 L L.length x.1):Int)/\0=(x.1:Int)/\True)/\True)/\∀(x:{i:Nat//i<=L.length/\(↑(V3 K2 L L.length i):Int)<=left}),let z:=(↑(V3 K2 L L.length x.1):Int);let r:=(x.1:Int);let p:=(L.getD r.toNat dz);(decide (r<q)=true->W9 r L.length/\∃(X:b1n.ι),let u:=(rem X.2 (K2 X.1)<0);(((p.no=X.1.no/\p.pg.Q=X.1.pg.Q/\(Z0 Z5 p.pg.sl X.1.pg.sl)/\p.D=X.1.D/\p.first=X.1.first/\True)/\left- z=X.2/\True)/\C1 X.2/\LmF X.1)/\(decide u=true->(-1:Int)=rem left v)/\(decide u=false->R1 .i64 (r+1)/\∃(y:{i:Nat//i<=L.length/\(↑(V3 K2 L L.length i):Int)<=left}),(((Z0 V9 L L)/\rem X.2 (K2 X.1)=left- (↑(V3 K2 L L.length y.1):Int)/\r+1=(y.1:Int)/\True)/\True)/\Lt (L.length-y.1) (L.length-x.1)))/\(decide (r<q)=false->left- z=rem left v))) ?_
 simp only[k6,o7,uG];refine⟨Z9,λh=>(I6 a9p).symm,λh=>⟨⟨⟨0,N7 _,Z9⟩,⟨⟨S6,X6 _ _⟩,by simp only[z],rfl,Z6⟩,Z6⟩,λx=>⟨λC=>?_,λC=>?_⟩⟩⟩
 ·have hlt:x.1<L.length:=by omega
  have hx:=x.2;have g:=zK K2 L L.length dz hlt;have e:=M (x.1+1) hlt;have r:=B _ hlt;refine⟨Y6 hlt,(L.getD x.1 dz,left- (V3 K2 L L.length x.1:Int)),⟨Y1,⟨L9,L9⟩,r⟩,λhr=>?_,λhr=>⟨Z9,⟨x.1+1,hlt,?_⟩,⟨⟨⟨S6,X6 _ _⟩,?_,L9,Z6⟩,Z6⟩,V5.ext_lt hlt⟩⟩
  ·simp only at hr;by_cases hq:(K2 (L.getD x.1 dz):Int)<=left- (V3 K2 L L.length x.1:Int)
   ·rw[D7 hq] at hr;omega
   ·exact(I6 Z9).symm
  ·simp only at hr;by_cases hq:(K2 (L.getD x.1 dz):Int)<=left- (V3 K2 L L.length x.1:Int)
   ·omega
   ·rw[I6 Z9] at hr
    omega
  ·simp only at hr ⊢;by_cases hq:(K2 (L.getD x.1 dz):Int)<=left- (V3 K2 L L.length x.1:Int)
   ·rw[D7 hq];omega
   ·rw[I6 Z9] at hr
    omega
 ·have hx:=x.2;have he:x.1=L.length:=by omega
  rw[he] at hx ⊢;exact(D7 hx.2).symm
def a25:Rl:=⟨List Frm,λL=>[uB L,uB L],λ_=>.bool true,λL=>L.length<=1048576/\∀i,i<L.length->SmF (L.getD i dz)⟩
def b9d:Con:=.rel a25
def b6Y(L:List Frm):Nat->Ann
 |0=>.one (Up L.length) (λx=>⟨[(0,uB L),(1,uB L),(5,.int .i64 x.1)],[]⟩) (λx=>L.length-x.1) [] [] (λ_=>Z3)
 |_=>.none
theorem b1N:GK 102 b9d:=gk func102<|by
 rintro(L:List Frm) ⟨hL,hb⟩;refine U5 (gC b5l gN) func102 (b6Y L) (α:=let u:=(L.length:Int);let z:=(Z0 V9 L L);br (u !=u) (false=true) ((∃(x:Up L.length),(z/\z/\0=(x.1:Int)/\True)/\True)/\∀(x:Up L.length),let r:=(x.1:Int);let p:=(L.getD r.toNat dz);bd (r<u) (W9 r L.length/\W9 r L.length/\∃(X:b0u.ι),let q:=(p.no=X.no/\p.pg.Q=X.pg.Q/\(Z0 Z5 p.pg.sl X.pg.sl)/\p.D=X.D/\p.first=X.first/\True);((q/\q/\True)/\SmF X)/\br false (false=true) (Ri (r+1)/\∃(y:Up L.length),((z/\z/\r+1=(y.1:Int)/\True)/\True)/\Lt (L.length-y.1) (L.length-x.1))) (true=true))) ⟨λh=>L3,λ_=>⟨⟨⟨0,N7 _⟩,⟨⟨S6,X6 _ _⟩,⟨S6,X6 _ _⟩,Y1⟩,Z6⟩,λx=>⟨λC=>?_,λ_=>rfl⟩⟩⟩
 have t:=Y2 C;exact⟨Y6 t,Y6 t,L.getD x.1 dz,⟨Y1,hb _ t⟩,λh=>h,λ_=>⟨W2 t Z9,⟨x.1+1,t⟩,⟨⟨⟨S6,X6 _ _⟩,⟨S6,X6 _ _⟩,L9,Z6⟩,Z6⟩,V5.ext_lt t⟩⟩
def zS(s:Sto):Nat:=yP s.d+S2 N6 s.L+S2 K2 s.fr
def LmS(s:Sto):Prop:=LmD s.d/\(mO s.L.length/\∀r ∈ s.L,b4l r)/\LmL dz LmF s.fr
def iC(s:Sto):Prop:=nM s.d/\s.L.length<=1048576/\s.fr.length<=1048576/\∀i,i<s.fr.length->SmF (s.fr.getD i dz)
def a9o:Rl:=⟨Sto×Int,λx=>[.agg x.1.ts,.int .i64 x.2],λx=>.int .i64 (rem x.2 (zS x.1)),λx=>C1 x.2/\LmS x.1⟩
def c3K:Con:=.rel a9o
theorem b9J:GK 29 c3K:=gk func29<|by
 rintro⟨s,left⟩ ⟨hl,l,j,h3⟩;simp only at hl l j h3;have e:zS s=yP s.d+S2 N6 s.L+S2 K2 s.fr:=rfl;have n:yP s.d<=zS s:=Z9
 have o:yP s.d+S2 N6 s.L<=zS s:=Z9
 refine U5 (gC b7b (gC b3Y (gC b20 gN))) func29 Z3 (α:=let p:=((-1:Int)=rem left (zS s));∃(x:a9Y.ι),(((zI s.d x.1)/\left=x.2/\True)/\C1 x.2/\LmD x.1)/\bd (rem x.2 (yP x.1)<0) p (∃(X:a3u.ι),(((Z0 Y0 s.L X.1)/\rem x.2 (yP x.1)=X.2/\True)/\C1 X.2/\X.1.length<=9223372036854775807/\∀(r:Rec),r ∈ X.1->b4l r)/\bd (rem X.2 (S2 N6 X.1)<0) p (∃(x:a4X.ι),(((Z0 V9 s.fr x.1)/\rem X.2 (S2 N6 X.1)=x.2/\True)/\C1 x.2/\mO x.1.length/\∀(i:Nat),i<x.1.length->LmF (x.1.getD i dz))/\bd (rem x.2 (S2 K2 x.1)<0) p (rem x.2 (S2 K2 x.1)=rem left (zS s))))) ⟨(s.d,left),⟨⟨(eqD _),Y1⟩,hl,l⟩,λh=>(A8 (G5 h) n).symm,λh=>?_⟩
 obtain⟨q1,L⟩:=yE (b:=S2 N6 s.L) (r8 h) hl rfl;refine⟨(s.L,rem left (yP s.d)),⟨Y1,L,j⟩,λg=>?_,λg=>?_⟩
 ·simp only at g;rw[q1] at g;exact(A8 (G5 g) o).symm
 ·simp only at g ⊢;rw[q1] at g ⊢;obtain⟨q2,l2⟩:=yE (b:=S2 K2 s.fr) (r8 g) hl rfl;refine⟨(s.fr,rem left (yP s.d+S2 N6 s.L)),⟨Y1,l2,h3⟩,λf=>?_,λf=>?_⟩
  ·simp only at f;rw[q2] at f;exact(A8 (G5 f) (U9 _)).symm
  ·exact q2
def a92:Rl:=⟨Sto,λs=>[.agg s.ts,.agg s.ts],λ_=>.bool true,iC⟩
def c4h:Con:=.rel a92
structure Val where
 k:Int
 n:Int
 t:Bz
 deriving Inhabited
def Val.ts(v:Val):List T:=[.int .i64 v.k,.int .i64 v.n,.str v.t]
structure Rw where
 id:Int
 n:Val
 name:Val
 deriving Inhabited
def Rw.ts(r:Rw):List T:=[.int .i64 r.id,.int .i64 r.n.k,.int .i64 r.n.n,.str r.n.t,.int .i64 r.name.k,.int .i64 r.name.n,.str r.name.t]
structure Chg where
 se:Int
 ta:Int
 row:Rw
 G:Bool
 deriving Inhabited
def Chg.ts(c:Chg):List T:=[.int .i64 c.se,.int .i64 c.ta,.int .i64 c.row.id,.int .i64 c.row.n.k,.int .i64 c.row.n.n,.str c.row.n.t,.int .i64 c.row.name.k,.int .i64 c.row.name.n,.str c.row.name.t,.bool c.G]
def a3s(c:UInt8):Bool:=decide (c.toNat≥97)&&decide (c.toNat<=122)
def mU(t:Bz)(i:Nat):Bool:= !a3s (t.getD i 0)
def xL(t:Bz):Bool:= !anyI t.length (mU t)&&decide (t.length<=10)
def O9(v:Val):Bool:=if v.k=0 then(v.n==0)&&(v.t==[]) else if v.k=1 then V6 v.n (-1000000000) 1000000000&&(v.t==[]) else(v.k==2)&&(v.n==0)&&xL v.t
def O1(r:Rw):Bool:=V6 r.id 0 1000&&O9 r.n&&(r.n.k !=2)&&O9 r.name&&(r.name.k !=1)
def fU:Rl:=⟨UInt8,λc=>[.int .u8 c.toNat],λc=>.bool (a3s c),λ_=>True⟩
def a6L:Con:=.rel fU
theorem a8w(c:UInt8)(h:
  (decide ((c.toNat:Int)≥(97:Int))&&decide ((c.toNat:Int)<=122))=a3s c):
  V4 prog 284 [.int .u8 c.toNat] (.bool (a3s c)):=
 U5 gN func284 Z3 h
theorem a26:GK 284 a6L:=gk func284<|λc _=>a8w c (by unfold a3s;congr 1<;>exact decide_eq_decide.2 Z9)
def cB(t:Bz):Prop:=L8 t.length
theorem b0l{p:Prop}(h:p:=by unfold cB L8;simp):p:=h
def a4a:Rl:=⟨Bz,λt=>[.str t],λt=>.bool (xL t),cB⟩
def b5h:Con:=.rel a4a
def b9x(t:Bz):Nat->Ann
 |0=>.one (V5 t.length (mU t)) (λx=>⟨[(0,.str t),(5,.int .i64 t.length),(6,.int .i64 x.1)],[]⟩) (λx=>t.length-x.1) [] [] (λ_=>Z3)
 |_=>.none
theorem b1U:GK 210 b5h:=gk func210<|by
 intro(t:Bz) (h:t.length<1000000000000);refine U5 (gC a26 gN) func210 (b9x t) (α:=let p:=(t.length:Int);(∃(x:V5 t.length (mU t)),(t=t/\p=p/\0=(x.1:Int)/\True)/\True)/\∀(x:V5 t.length (mU t)),let q:=(x.1:Int);bd (q<p) (W9 q t.length/\∃(X:fU.ι),(((↑(t.getD q.toNat (0:UInt8)).toNat:Int)=(↑(UInt8.toNat X):Int)/\True)/\True)/\br (!a3s X) (false=xL t) (Ri (q+1)/\∃(y:V5 t.length (mU t)),((t=t/\p=p/\q+1=(y.1:Int)/\True)/\True)/\Lt (t.length-y.1) (t.length-x.1))) (decide (p<=10)=xL t)) ⟨⟨F2,Y1⟩,λx=>⟨λhc=>?_,λhc=>?_⟩⟩
 ·have hlt:=Y2 hc;refine⟨Y6 hlt,t.getD x.1 0,Y1,λhp=>?_,λhp=>⟨W2 hlt Z9,x.succ hlt hp,⟨⟨rfl,rfl,I8,Z6⟩,Z6⟩,V5.ext_lt hlt⟩⟩
  have:anyI t.length (mU t)=true:=R8.2 ⟨x.1,hlt,hp⟩;unfold xL;rw[this];rfl
 ·have hge:=X9 hc;have:anyI t.length (mU t)=false:=P4.2 λi hi=>x.2.2 i (xX hi hge)
  unfold xL;rw[this];show _=decide (t.length<=10);exact decide_eq_decide.2 Z9
def a77:Con:=.rel ⟨Int,λn=>[.int .i64 n],λn=>.bool (V6 n (-1000000000) 1000000000),λ_=>True⟩
theorem a6n(n:Int)(h:
let p:=(-1000000000:Int);  V6 n p 1000000000=V6 n p (1000000000:Int)):
  V4 prog 209 [.int .i64 n] (.bool (V6 n (-1000000000) 1000000000)):=
 U5 (gC O0 gN) func209 Z3 h
theorem a4Y:GK 209 a77:=gk func209<|λn _=>a6n n rfl
def E5:Rl:=⟨Val,λv=>[.agg v.ts],λv=>.bool (O9 v),λv=>cB v.t⟩
def a7P:Con:=.rel E5
def a8p:Con:=.rel E5
theorem jS:GK 122 a7P:=gk func122<|by
 intro(v:Val) h;refine U5 (gC a4Y (gC b1U gN)) func122 Z3 (α:=br (v.k==0) ((v.k==0&&(v.n==0&&(v.t==[]&&true)))=O9 v) (br (v.k==1) (∃(x:Int),((v.n=x/\True)/\True)/\(V6 x (-1000000000:Int) (1000000000:Int)&&v.t==[])=O9 v) (∃(x:a4a.ι),((v.k==2&&v.n==0)=true->(v.t=x/\True)/\cB x)/\(v.k==2&&v.n==0&&xL x)=O9 v))) ⟨λh0=>?_,λh0=>⟨λe=>⟨v.n,Y1,?_⟩,λe=>⟨v.t,λ_=>⟨Y1,h⟩,?_⟩⟩⟩
 ·have h0':v.k=0:=by simpa using h0
  unfold O9;rw[if_pos h0',h0,Bool.true_and,Bool.and_true]
 ·have h0':v.k≠0:=by simpa using h0
  have d:v.k=1:=by simpa using e
  unfold O9;rw[if_neg h0',if_pos d]
 ·have h0':v.k≠0:=by simpa using h0
  have d:v.k≠1:=by simpa using e
  unfold O9;rw[if_neg h0',if_neg d]
def c7D(v:Val):Option Ob:=some (.arr true 1000000 3 1 λ_=>v.ts)
def a6m(v:Val):Nat->Ann
 |0=>.one (V5 v.t.length (mU v.t)) (λx=>⟨[(1,.ref 0 0 0),(3,.int .i64 x.1)],[c7D v]⟩) (λx=>v.t.length-x.1) [.box 0] [.box 0] (λ_=>Z3)
 |_=>.none
theorem c8o{v:Val}(h:v.k=2)(N:v.n=0)(l:v.t.length<=10):O9 v= !anyI v.t.length (mU v.t):=by
 unfold O9;rw[if_neg Z9,if_neg Z9,h,N]
 unfold xL;rw[mN l,Bool.and_true];rfl
theorem kB:GK 121 a8p:=gk func121<|by
 intro(v:Val) (h:v.t.length<1000000000000);refine U5 (gC z7 gN) func121 (a6m v) (α:=let z:=(v.t.length:Int);let r:=(false=O9 v);let p:=(oo (v.k=v.k/\v.n=v.n/\v.t=v.t/\True));br (v.k==0) ((v.n==0&&v.t==[])=O9 v) (br (v.k==1) ((V6 v.n (-1000000000:Int) (1000000000:Int)&&v.t==[])=O9 v) (br (v.k==2) (br (v.n !=0||decide (z>10)) r ((∃(x:V5 v.t.length (mU v.t)),((0=0/\0=0)/\0=(x.1:Int)/\True)/\p/\True)/\∀(x:V5 v.t.length (mU v.t)),let q:=(x.1:Int);bd (q<z) (W9 q v.t.length/\br (!V6 (IntKind.i64.wrap (↑(v.t.getD q.toNat (0:UInt8)).toNat:Int)) (97:Int) (122:Int)) r (Ri (q+1)/\∃(y:V5 v.t.length (mU v.t)),(((0=0/\0=0)/\q+1=(y.1:Int)/\True)/\p/\True)/\Lt (v.t.length-y.1) (v.t.length-x.1))) (true=O9 v))) r))) ⟨λh0=>?_,λh0=>⟨λf=>?_,λf=>⟨λh2=>⟨λhb=>?_,λhb=>?_⟩,λh2=>?_⟩⟩⟩
 ·have h0':v.k=0:=by simpa using h0
  unfold O9;rw[if_pos h0']
 ·have h0':v.k≠0:=by simpa using h0
  have d:v.k=1:=by simpa using f
  unfold O9;rw[if_neg h0',if_pos d]
 ·have h2':v.k=2:=by simpa using h2
  unfold O9 xL;rw[if_neg Z9,if_neg Z9]
  simp only[nS,bne_iff_ne,o7] at hb;by_cases hn:v.n=0
  ·rw[tP (p:=v.t.length<=10) (by rcases hb with hb|hb<;>omega)]
   simp
  ·rw[show(v.n==0)=false by simpa using hn]
   simp
 ·have h2':v.k=2:=by simpa using h2
  simp only[wR,bne_eq_false_iff_eq,uG] at hb;obtain⟨hn,l⟩:=hb;have e:=c8o h2' hn Z9
  refine⟨⟨F2,Y1⟩,λx=>⟨λhc=>?_,λhc=>?_⟩⟩
  ·have hlt:=Y2 hc;rw[uM,D8,show V6 ((v.t.getD x.1 0).toNat:Int) 97 122=a3s (v.t.getD x.1 0) by unfold V6 a3s;congr 1<;>exact decide_eq_decide.2 Z9]
   refine⟨Y6 hlt,λhp=>?_,λhp=>⟨W2 hlt Z9,x.succ hlt hp,⟨⟨Y1,I8,Z6⟩,Y1⟩,V5.ext_lt hlt⟩⟩
   have:anyI v.t.length (mU v.t)=true:=R8.2 ⟨x.1,hlt,hp⟩;rw[e,this];rfl
  ·have hge:=X9 hc;have:anyI v.t.length (mU v.t)=false:=P4.2 λi hi=>x.2.2 i (xX hi hge)
   rw[e,this];rfl
 ·have h0':v.k≠0:=by simpa using h0
  have d:v.k≠1:=by simpa using f
  unfold O9;rw[if_neg h0',if_neg d,h2];rfl
def b1t:Con:=.rel ⟨Int,λn=>[.int .i64 n],λn=>.bool (V6 n 1 3),λ_=>True⟩
theorem b3P(n:Int)(h:
  V6 n (1:Int) 3=V6 n (1:Int) (3:Int)):
  V4 prog 40 [.int .i64 n] (.bool (V6 n 1 3)):=
 U5 (gC O0 gN) func40 Z3 h
theorem fI:GK 40 b1t:=gk func40<|λn _=>b3P n rfl
def c7J:Con:=.rel ⟨Int,λn=>[.int .i64 n],λn=>.bool (V6 n 0 1000),λ_=>True⟩
theorem c69(n:Int)(h:
  V6 n (0:Int) 1000=V6 n (0:Int) (1000:Int)):
  V4 prog 41 [.int .i64 n] (.bool (V6 n 0 1000)):=
 U5 (gC O0 gN) func41 Z3 h
theorem c3h:GK 41 c7J:=gk func41<|λn _=>c69 n rfl
def RwB(r:Rw):Prop:=cB r.n.t/\cB r.name.t
def rA:Rl:=⟨Rw,λr=>[.agg r.ts],λr=>.bool (O1 r),RwB⟩
def c1x:Con:=.rel rA
def b6M:Con:=.rel rA
theorem a5K:GK 60 c1x:=gk func60<|by
 rintro(r:Rw) ⟨h1,h2⟩;exact U5 (gC c3h (gC jS gN)) func60 Z3 (α:=∃(x:Int),((r.id=x/\True)/\True)/\∃(X:E5.ι),(V6 x (0:Int) 1000=true->((r.n.k=X.k/\r.n.n=X.n/\r.n.t=X.t/\True)/\True)/\cB X.t)/\∃(d:E5.ι),((V6 x (0:Int) (1000:Int)&&O9 X&&r.n.k !=2)=true->((r.name.k=d.k/\r.name.n=d.n/\r.name.t=d.t/\True)/\True)/\cB d.t)/\(V6 x (0:Int) (1000:Int)&&O9 X&&r.n.k !=2&&O9 d&&r.name.k !=1)=O1 r) ⟨r.id,Y1,r.n,λ_=>⟨Y1,h1⟩,r.name,λ_=>⟨Y1,h2⟩,rfl⟩
theorem a0R:GK 57 b6M:=gk func57<|by
 rintro(r:Rw) ⟨h1,h2⟩;refine U5 (gC z7 (gC kB gN)) func57 Z3 (α:=∃(x:E5.ι),(V6 r.id (0:Int) 1000=true->((r.n.k=x.k/\r.n.n=x.n/\r.n.t=x.t/\True)/\True)/\cB x.t)/\∃(X:E5.ι),((V6 r.id (0:Int) (1000:Int)&&O9 x)=true->((r.name.k=X.k/\r.name.n=X.n/\r.name.t=X.t/\True)/\True)/\cB X.t)/\(V6 r.id (0:Int) (1000:Int)&&O9 x&&O9 X&&r.n.k !=2&&r.name.k !=1)=O1 r) ⟨r.n,λ_=>⟨Y1,h1⟩,r.name,λ_=>⟨Y1,h2⟩,?_⟩
 unfold O1;generalize V6 r.id 0 1000=a;generalize O9 r.n=b;generalize (r.n.k !=2)=c;generalize O9 r.name=d;cases a<;>cases b<;>cases c<;>cases d<;>rfl
structure Lck where
 tx:Int
 ta:Int
 row:Int
 mo:Int
 deriving Inhabited
def Lck.ts(l:Lck):List T:=[.int .i64 l.tx,.int .i64 l.ta,.int .i64 l.row,.int .i64 l.mo]
structure Wt where
 tx:Int
 fo:Int
 deriving Inhabited
def Wt.ts(w:Wt):List T:=[.int .i64 w.tx,.int .i64 w.fo]
def Z2(L:List Lck)(i:Nat):List T:=(L.getD i dz).ts
def wM(L:List Lck):T:=.sl 4 L.length (Z2 L)
def Y7(L:List Wt)(i:Nat):List T:=(L.getD i dz).ts
def nF(L:List Wt):T:=.sl 2 L.length (Y7 L)
structure Lks where
 H:List Lck
 W:List Wt
 deriving Inhabited
def Lks.ts(l:Lks):List T:=[wM l.H,nF l.W]
def a2f(l:Lks):Option Ob:=some (.arr true 1000000 2 1 λ_=>l.ts)
def mZ(a b:Int):Bool:=(a !=4)&&(b !=4)&&((a==1)||(b==1)||(a==b))
def dP(a b:Lck):Bool:=(a.tx==b.tx)&&((a.ta==b.ta)&&((a.row==b.row)&&((a.mo==b.mo)&&true)))
def rX(a b:Lck):Bool:=(a.ta==b.ta)&&(a.row==b.row)
def clash(a b:Lck):Bool:=(a.tx !=b.tx)&&rX a b&& !mZ a.mo b.mo
def rI(l:Lck):Bool:=V6 l.tx 1 60&&V6 l.ta 1 3&&V6 l.row (-1) 1000&&V6 l.mo 1 4&&(decide (l.row<0)||decide (l.mo≥3))
def vI(L:List Lck)(a:Lck)(k:Nat):Bool:=dP a (L.getD k dz)||clash a (L.getD k dz)
def w8(L:List Lck)(i:Nat):Bool:= !rI (L.getD i dz)||anyI i (vI L (L.getD i dz))
def w7(L:List Wt)(i:Nat):Bool:= !V6 (L.getD i dz).tx 1 60|| !V6 (L.getD i dz).fo 1 60||((L.getD i dz).tx==(L.getD i dz).fo)
def B6(l:Lks):Bool:= !anyI l.H.length (w8 l.H)&&(decide (l.H.length<=60)&&decide (l.W.length<=100)&& !anyI l.W.length (w7 l.W))
def b71(l:Lks):Prop:=L8 l.H.length/\L8 l.W.length
def b86:Con:=.rel ⟨Int,λn=>[.int .i64 n],λn=>.bool (V6 n 1 4),λ_=>True⟩
theorem b5x(n:Int)(h:
  V6 n (1:Int) 4=V6 n (1:Int) (4:Int)):
  V4 prog 362 [.int .i64 n] (.bool (V6 n 1 4)):=
 U5 (gC O0 gN) func362 Z3 h
theorem b2G:GK 362 b86:=gk func362<|λn _=>b5x n rfl
def c5T:Con:=.rel ⟨Int,λn=>[.int .i64 n],λn=>.bool (V6 n 1 60),λ_=>True⟩
theorem c8j(n:Int)(h:
  V6 n (1:Int) 60=V6 n (1:Int) (60:Int)):
  V4 prog 314 [.int .i64 n] (.bool (V6 n 1 60)):=
 U5 (gC O0 gN) func314 Z3 h
theorem b0r:GK 314 c5T:=gk func314<|λn _=>c8j n rfl
def b8E:Con:=.rel ⟨Lck,λl=>[.agg l.ts],λl=>.bool (rI l),λ_=>True⟩
theorem b8Q(l:Lck)(h:
  ∃(x:Int),((l.tx=x/\True)/\True)/\∃(X:Int),((V6 x (1:Int) (60:Int)&&V6 l.ta (1:Int) (3:Int)&&V6 l.row (-1:Int) (1000:Int))=true->(l.mo=X/\True)/\True)/\(V6 x (1:Int) (60:Int)&&V6 l.ta (1:Int) (3:Int)&&V6 l.row (-1:Int) (1000:Int)&&V6 X (1:Int) (4:Int)&&(decide (l.row<0)||decide (l.mo≥(3:Int))))=rI l):
  V4 prog 311 [.agg l.ts] (.bool (rI l)):=
 U5 (gC b0r (gC O0 (gC b2G gN))) func311 Z3 h
theorem b4A:GK 311 b8E:=gk func311<|λl _=>b8Q l ⟨l.tx,Y1,l.mo,λ_=>Y1,rfl⟩
def b84:Con:=.rel ⟨Lck,λl=>l.ts,λl=>.bool (rI l),λ_=>True⟩
theorem b1S:GK 162 b84:=gk func162<|by
 intro(l:Lck) _;refine U5 (gC z7 gN) func162 Z3 (α:=(V6 l.tx (1:Int) (60:Int)&&V6 l.ta (1:Int) (3:Int)&&V6 l.row (-1:Int) (1000:Int)&&V6 l.mo (1:Int) (4:Int)&&(l.row==(-1:Int)||decide (l.mo≥(3:Int))))=rI l) ?_
 unfold rI;cases h:V6 l.row (-1) 1000
 ·simp
 ·have d:=h;unfold V6 at d;simp only[J4,o7] at d;rw[show(l.row== -1)=decide (l.row<0) by rw[Bool.eq_iff_iff,beq_iff_eq,o7];omega]
def eU:Con:=.rel ⟨Int×Int,λx=>[.int .i64 x.1,.int .i64 x.2],λx=>.bool (mZ x.1 x.2),λ_=>True⟩
def b9M:Con:=eU
theorem a8L(a b:Int)(h:
  (a !=4&&b !=4&&(a==1||b==1||a==b))=mZ a b):
  V4 prog 342 [.int .i64 a,.int .i64 b] (.bool (mZ a b)):=
 U5 gN func342 Z3 h
theorem a41:GK 342 eU:=gk func342<|λx _=>a8L x.1 x.2 rfl
theorem a0d:GK 163 b9M:=gk func163<|by
 rintro⟨a,b⟩ _;refine U5 gN func163 Z3 (α:=br (a==4||b==4) (false=mZ a b) (br (a==1||b==1) (true=mZ a b) ((a==b)=mZ a b))) ⟨λh=>?_,λh=>⟨λg=>?_,λg=>?_⟩⟩<;>unfold mZ<;>simp at*
 ·intro d e;rcases h with h|h<;>omega
 ·exact⟨h,by rcases g with g|g<;>simp[g]⟩
 ·rw[show(a !=4)=true by simpa using h.1,show(b !=4)=true by simpa using h.2,show(a==1)=false by simpa using g.1,show(b==1)=false by simpa using g.2]
  rfl
def a1N:Con:=.rel ⟨Lck×Lck,λx=>[.agg x.1.ts,.agg x.2.ts],λx=>.bool (rX x.1 x.2),λ_=>True⟩
theorem a2n(a b:Lck)(h:
  (a.ta==b.ta&&a.row==b.row)=rX a b):
  V4 prog 341 [.agg a.ts,.agg b.ts] (.bool (rX a b)):=
 U5 gN func341 Z3 h
theorem pL:GK 341 a1N:=gk func341<|λx _=>a2n x.1 x.2 rfl
def b4k:Con:=.rel ⟨Lck×Lck,λx=>[.agg x.1.ts,.agg x.2.ts],λx=>.bool (clash x.1 x.2),λ_=>True⟩
theorem b32(a b:Lck)(h:
  ∃(x:(Lck×Lck)),((a.tx !=b.tx)=true->((a.tx=x.1.tx/\a.ta=x.1.ta/\a.row=x.1.row/\a.mo=x.1.mo/\True)/\(b.tx=x.2.tx/\b.ta=x.2.ta/\b.row=x.2.row/\b.mo=x.2.mo/\True)/\True)/\True)/\∃(X:(Int×Int)),((a.tx !=b.tx&&rX x.1 x.2)=true->(a.mo=X.1/\b.mo=X.2/\True)/\True)/\(a.tx !=b.tx&&rX x.1 x.2&& !mZ X.1 X.2)=clash a b):
  V4 prog 288 [.agg a.ts,.agg b.ts] (.bool (clash a b)):=
 U5 (gC pL (gC a41 gN)) func288 Z3 h
theorem cD:GK 288 b4k:=gk func288<|λx _=>b32 x.1 x.2 ⟨(x.1,x.2),λ_=>Y1,(x.1.mo,x.2.mo),λ_=>Y1,rfl⟩
def a71:Con:=.rel ⟨Lck×Lck,λx=>[.agg x.2.ts,.bref x.1.ts],λx=>.bool (dP x.1 x.2||clash x.1 x.2),λ_=>True⟩
theorem a61(a b:Lck)(h:
let p:=(a.ta==b.ta&&(a.row==b.row&&(a.mo==b.mo&&true)));  ∃(x:(Lck×Lck)),((a.tx==b.tx&&p)=false->((a.tx=x.1.tx/\a.ta=x.1.ta/\a.row=x.1.row/\a.mo=x.1.mo/\True)/\(b.tx=x.2.tx/\b.ta=x.2.ta/\b.row=x.2.row/\b.mo=x.2.mo/\True)/\True)/\True)/\(a.tx==b.tx&&p||clash x.1 x.2)=(dP a b||clash a b)):
  V4 prog 312 [.agg b.ts,.bref a.ts] (.bool (dP a b||clash a b)):=
 U5 (gC cD gN) func312 Z3 h
theorem a3O:GK 312 a71:=gk func312<|λx _=>a61 x.1 x.2 ⟨(x.1,x.2),λ_=>Y1,rfl⟩
def c1J(a:Lck):T:=.fn (.func 312) [.bref a.ts]
def b3T:Con:=.rel ⟨List Lck×Nat×Lck,λx=>[.sl 4 x.2.1 (Z2 x.1),c1J x.2.2],λx=>.int .i64 (S5 x.2.1 (vI x.1 x.2.2)),λx=>L8 x.2.1⟩
def b1J(L:List Lck)(n:Nat)(a:Lck):Nat->Ann
 |0=>.one (V5 n (vI L a)) (λx=>⟨[(0,.sl 4 n (Z2 L)),(1,c1J a),(7,.int .i64 n),(8,.int .i64 x.1)],[]⟩) (λx=>n-x.1) [] [] (λ_=>Z3)
 |_=>.none
theorem a7d:GK 316 b3T:=gk func316<|by
 rintro⟨L,n,a⟩ (hL:n<1000000000000);refine U5 (gC a3O gN) func316 (b1J L n a) (α:=let z:=(n=n/\Z8 n (Z2 L) (Z2 L));let p:=(T.bref [Ji a.tx,Ji a.ta,Ji a.row,Ji a.mo]);(∃(x:V5 n (vI L a)),(z/\(Fn.func 312=Fn.func 312/\J6 (λ(x:Nat)=>none) p p/\True)/\(n:Int)=(n:Int)/\0=(x.1:Int)/\True)/\True)/\∀(x:V5 n (vI L a)),let r:=(x.1:Int);let q:=(L.getD r.toNat dz);bd (r<(n:Int)) (W9 r n/\∃(X:(Lck×Lck)),(((q.tx=X.2.tx/\q.ta=X.2.ta/\q.row=X.2.row/\q.mo=X.2.mo/\True)/\(a.tx=X.1.tx/\a.ta=X.1.ta/\a.row=X.1.row/\a.mo=X.1.mo/\True)/\True)/\True)/\br (dP X.1 X.2||clash X.1 X.2) (r=S5 n (vI L a)) (Ri (r+1)/\∃(y:V5 n (vI L a)),((z/\(Fn.func 312=Fn.func 312/\J6 (λ(x:Nat)=>none) p p/\True)/\(n:Int)=(n:Int)/\r+1=(y.1:Int)/\True)/\True)/\Lt (n-y.1) (n-x.1))) ((-1:Int)=S5 n (vI L a))) ⟨⟨F2,⟨Y1,⟨rfl,U0 _,Z6⟩,Y1⟩,Z6⟩,λx=>⟨λC=>?_,λC=>?_⟩⟩
 ·have h:=Y2 C;refine⟨Y6 h,(a,L.getD x.1 dz),Y1,λhp=>(N8 h hp x.2.2).symm,λhp=>⟨W2 h Z9,x.succ h hp,⟨⟨Y1,⟨rfl,U0 _,Z6⟩,rfl,I8,Z6⟩,Z6⟩,V5.ext_lt h⟩⟩
 ·have e:=X9 C;exact(K1 λj J=>x.2.2 j (xX J e)).symm
def b1p:Con:=.rel ⟨List Lck×Nat×Lck,λx=>[.sl 4 x.2.1 (Z2 x.1),c1J x.2.2],λx=>.bool (anyI x.2.1 (vI x.1 x.2.2)),λx=>L8 x.2.1⟩
theorem b2h(L:List Lck)(n:Nat)(a:Lck)(h:
  ∃(x:(List Lck×Nat×Lck)),(((n=x.2.1/\Z8 n (Z2 L) (Z2 x.1))/\(Fn.func 312=Fn.func 312/\(a.tx=x.2.2.tx/\a.ta=x.2.2.ta/\a.row=x.2.2.row/\a.mo=x.2.2.mo/\True)/\True)/\True)/\L8 x.2.1)/\decide (S5 x.2.1 (vI x.1 x.2.2)≥(0:Int))=anyI n (vI L a)):
  V4 prog 232 [.sl 4 n (Z2 L),c1J a] (.bool (anyI n (vI L a))):=
 U5 (gC a7d gN) func232 Z3 h
theorem a8s:GK 232 b1p:=gk func232<|λx h=>b2h x.1 x.2.1 x.2.2 ⟨x,⟨Y1,h⟩,C7 _ _⟩
def a7r:Con:=.rel ⟨List Wt×Nat,λx=>[.agg (x.1.getD x.2 dz).ts],λx=>.bool (w7 x.1 x.2),λ_=>True⟩
theorem a6O(L:List Wt)(i:Nat)(h:
let p:=(L.getD i dz);  ∃(x:Int),((p.tx=x/\True)/\True)/\∃(X:Int),((!V6 x (1:Int) (60:Int))=false->(p.fo=X/\True)/\True)/\(!V6 x (1:Int) (60:Int)|| !V6 X (1:Int) (60:Int)||p.tx==p.fo)=w7 L i):
  V4 prog 313 [.agg (L.getD i dz).ts] (.bool (w7 L i)):=
 U5 (gC b0r gN) func313 Z3 h
theorem a3w:GK 313 a7r:=gk func313<|λx _=>a6O x.1 x.2 ⟨_,Y1,_,λ_=>Y1,rfl⟩
def b9W:Con:=.rel ⟨List Wt,λL=>[nF L,fnT 313],λL=>.int .i64 (S5 L.length (w7 L)),λL=>L8 L.length⟩
def b6R(L:List Wt):Nat->Ann
 |0=>.one (V5 L.length (w7 L)) (λx=>⟨[(0,nF L),(1,fnT 313),(7,.int .i64 L.length),(8,.int .i64 x.1)],[]⟩) (λx=>L.length-x.1) [] [] (λ_=>Z3)
 |_=>.none
theorem b3H:GK 317 b9W:=gk func317<|by
 intro(L:List Wt) (hL:L.length<1000000000000);refine U5 (gC a3w gN) func317 (b6R L) (α:=let r:=(Fn.func 313);let q:=(L.length:Int);(∃(x:V5 L.length (w7 L)),((Z0 Y7 L L)/\Value.func r #[] #[]=Value.func r #[] #[]/\q=q/\0=(x.1:Int)/\True)/\True)/\∀(x:V5 L.length (w7 L)),let p:=(x.1:Int);let z:=(L.getD p.toNat dz);bd (p<q) (W9 p L.length/\∃(X:(List Wt×Nat)),let u:=(X.1.getD X.2 dz);(((z.tx=u.tx/\z.fo=u.fo/\True)/\True)/\True)/\br (w7 X.1 X.2) (p=S5 L.length (w7 L)) (Ri (p+1)/\∃(y:V5 L.length (w7 L)),(((Z0 Y7 L L)/\Value.func r #[] #[]=Value.func r #[] #[]/\q=q/\p+1=(y.1:Int)/\True)/\True)/\Lt (L.length-y.1) (L.length-x.1))) ((-1:Int)=S5 L.length (w7 L))) ⟨⟨F2,Y1⟩,λx=>⟨λC=>?_,λC=>?_⟩⟩
 ·have h:=Y2 C;refine⟨Y6 h,(L,x.1),Y1,λhp=>(N8 h hp x.2.2).symm,λhp=>⟨W2 h Z9,x.succ h hp,⟨⟨Y1,rfl,rfl,I8,Z6⟩,Z6⟩,V5.ext_lt h⟩⟩
 ·have e:=X9 C;exact(K1 λj J=>x.2.2 j (xX J e)).symm
def c0k:Con:=.rel ⟨List Wt,λL=>[nF L,fnT 313],λL=>.bool (anyI L.length (w7 L)),λL=>L8 L.length⟩
theorem b74(L:List Wt)(h:
  ∃(x:(List Wt)),(((Z0 Y7 L x)/\Value.func (Fn.func 313) #[] #[]=Value.func (Fn.func 313) #[] #[]/\True)/\L8 (x.length))/\decide (S5 (x.length) (w7 x)≥(0:Int))=anyI L.length (w7 L)):
  V4 prog 234 [nF L,fnT 313] (.bool (anyI L.length (w7 L))):=
 U5 (gC b3H gN) func234 Z3 h
theorem b2d:GK 234 c0k:=gk func234<|λ(L:List Wt) hL=>b74 L ⟨L,⟨Y1,hL⟩,C7 _ _⟩
def qV:Rl:=⟨Lks,λl=>[.agg l.ts],λl=>.bool (B6 l),b71⟩
def a57:Con:=.rel qV
def a7B:Con:=.rel qV
def a8g(l:Lks):Nat->Ann
 |0=>.one (V5 l.H.length (w8 l.H)) (λx=>⟨[(1,.ref 0 0 0),(6,wM l.H),(7,.int .i64 l.H.length),(8,.int .i64 x.1)],[a2f l]⟩) (λx=>l.H.length-x.1) [.box 0] [.box 0] (λ_=>Z3)
 |_=>.none
theorem a3b:GK 230 a57:=gk func230<|by
 rintro(l:Lks) ⟨h,hw⟩;have h:l.H.length<1000000000000:=h;refine U5 (gC b4A (gC a8s (gC b2d gN))) func230 (a8g l) (α:=let v:=((l.W.length:Int)<=100);let u:=(Z0 Z2 l.H l.H);let z:=(oo (u/\(Z0 Y7 l.W l.W)/\True));let q:=(l.H.length:Int);(∃(x:V5 l.H.length (w8 l.H)),((0=0/\0=0)/\u/\q=q/\0=(x.1:Int)/\True)/\z/\True)/\∀(x:V5 l.H.length (w8 l.H)),let r:=(x.1:Int);let p:=(l.H.getD r.toNat dz);bd (r<q) (W9 r l.H.length/\∃(d:Lck),(((p.tx=d.tx/\p.ta=d.ta/\p.row=d.row/\p.mo=d.mo/\True)/\True)/\True)/\((!rI d)=false->jX r l.H.length)/\∃(X:(List Lck×Nat×Lck)),((!rI d)=false->((r.toNat=X.2.1/\Z8 r.toNat (Z2 l.H) (Z2 X.1))/\(Fn.func 312=Fn.func 312/\(p.tx=X.2.2.tx/\p.ta=X.2.2.ta/\p.row=X.2.2.row/\p.mo=X.2.2.mo/\True)/\True)/\True)/\L8 X.2.1)/\br (!rI d||anyI X.2.1 (vI X.1 X.2.2)) (false=B6 l) (Ri (r+1)/\∃(y:V5 l.H.length (w8 l.H)),(((0=0/\0=0)/\u/\q=q/\r+1=(y.1:Int)/\True)/\z/\True)/\Lt (l.H.length-y.1) (l.H.length-x.1))) (∃(x:(List Wt)),((decide (q<=60)&&decide v)=true->((Z0 Y7 l.W x)/\Value.func (Fn.func 313) #[] #[]=Value.func (Fn.func 313) #[] #[]/\True)/\L8 (x.length))/\(decide (q<=60)&&decide v&& !anyI (x.length) (w7 x))=B6 l)) ⟨⟨F2,Y1⟩,λx=>⟨λhc=>?_,λhc=>?_⟩⟩
 ·have hlt:=Y2 hc;refine⟨Y6 hlt,l.H.getD x.1 dz,Y1,λ_=>⟨Z9,Z9⟩,(l.H,x.1,l.H.getD x.1 dz),λ_=>⟨⟨⟨L9,X6 _ _⟩,Y1⟩,by show x.1<1000000000000;omega⟩,λhb=>?_,λhb=>⟨W2 hlt Z9,x.succ hlt hb,⟨⟨Y1,Y1,rfl,I8,Z6⟩,Y1⟩,V5.ext_lt hlt⟩⟩
  have:anyI l.H.length (w8 l.H)=true:=R8.2 ⟨x.1,hlt,hb⟩;unfold B6;rw[this];rfl
 ·have hge:=X9 hc;have:anyI l.H.length (w8 l.H)=false:=P4.2 λi hi=>x.2.2 i (xX hi hge)
  refine⟨l.W,λ_=>⟨Y1,hw⟩,?_⟩
  unfold B6;rw[this,Bool.not_false,Bool.true_and];congr 2<;>exact decide_eq_decide.2 Z9
def c5i(L:List Lck)(a:Lck)(k:Nat):Bool:=(a.ta==(L.getD k dz).ta)&&(a.row==(L.getD k dz).row)&&(dP a (L.getD k dz)||(a.tx !=(L.getD k dz).tx)&& !mZ a.mo (L.getD k dz).mo)
def a79(l:Lks):Nat->Ann
 |0=>.one (V5 l.H.length (w8 l.H)) (λx=>⟨[(1,.ref 0 0 0),(3,.int .i64 x.1)],[a2f l]⟩) (λx=>l.H.length-x.1) [.box 0] [.box 0] (λx=>fun
  |1=>.one (V5 x.1 (vI l.H (l.H.getD x.1 dz))) (λy=>⟨[(1,.ref 0 0 0),(3,.int .i64 x.1),(4,.ref 1 0 0),(5,.int .i64 y.1)],[a2f l,some (.arr true 1000000 4 1 λ_=>(l.H.getD x.1 dz).ts)]⟩) (λy=>x.1-y.1) iQ iQ (λ_=>Z3)
  |2=>.one (V5 l.W.length (w7 l.W)) (λy=>⟨[(1,.ref 0 0 0),(7,.int .i64 y.1)],[a2f l]⟩) (λy=>l.W.length-y.1) [.box 0] [.box 0] (λ_=>Z3)
  |_=>.none)
 |_=>.none
theorem b5Y(L:List Lck)(a:Lck)(k:Nat):c5i L a k=vI L a k:=by
 unfold c5i vI clash dP rX;generalize (a.ta==(L.getD k dz).ta)=p;generalize (a.row==(L.getD k dz).row)=q;generalize (a.mo==(L.getD k dz).mo)=r;generalize mZ a.mo (L.getD k dz).mo=t;rw[show(a.tx !=(L.getD k dz).tx)= !(a.tx==(L.getD k dz).tx) from rfl]
 generalize (a.tx==(L.getD k dz).tx)=u;cases p<;>cases q<;>cases r<;>cases t<;>cases u<;>rfl
theorem a5U:GK 73 a7B:=gk func73<|by
 rintro(l:Lks) ⟨L,W⟩;have L:l.H.length<1000000000000:=L;have W:l.W.length<1000000000000:=W;have bh:∀i,i<l.H.length->w8 l.H i=true->false=B6 l:=λi hi hb=>by
  have:anyI l.H.length (w8 l.H)=true:=R8.2 ⟨i,hi,hb⟩;unfold B6;rw[this];rfl
 refine U5 (gC b1S (gC a0d (gC z7 gN))) func73 (a79 l) (α:=let a:=(l.W.length:Int);let g:=(l.H.length:Int);let n:=(false=B6 l);let w:=(0=0/\0=0);let r:=(oo ((Z0 Z2 l.H l.H)/\(Z0 Y7 l.W l.W)/\True));br (decide (g>60)||decide (a>100)) n ((∃(x:V5 l.H.length (w8 l.H)),(w/\0=(x.1:Int)/\True)/\r/\True)/\∀(x:V5 l.H.length (w8 l.H)),let v:=(x.1:Int);let z:=(l.H.getD v.toNat dz);let p:=(l.H.getD x.1 dz);let f:=p.row;bd (v<g) (W9 v l.H.length/\∃(d:Lck),((z.tx=d.tx/\z.ta=d.ta/\z.row=d.row/\z.mo=d.mo/\True)/\True)/\br (!rI d) n ((∃(X:V5 x.1 (vI l.H (l.H.getD x.1 dz))),(w/\v=v/\w/\0=(X.val:Int)/\True)/\r/\(oo (z.tx=p.tx/\z.ta=p.ta/\z.row=f/\z.mo=p.mo/\True))/\True)/\∀(X:V5 x.1 (vI l.H (l.H.getD x.1 dz))),let k:=(X.val:Int);let q:=(l.H.getD k.toNat dz);let j:=(p.ta==q.ta&&(f==q.row&&(p.mo==q.mo&&true)));bd (k<v) (W9 k l.H.length/\∃(e:(Int×Int)),((p.ta==q.ta&&f==q.row)=true->(p.tx==q.tx&&j)=false->(p.tx !=q.tx)=true->(p.mo=e.1/\q.mo=e.2/\True)/\True)/\br (p.ta==q.ta&&f==q.row&&(p.tx==q.tx&&j||p.tx !=q.tx&& !mZ e.1 e.2)) n (Ri (k+1)/\∃(y:V5 x.1 (vI l.H (l.H.getD x.1 dz))),((w/\v=v/\w/\k+1=(y.1:Int)/\True)/\r/\(oo (p.tx=p.tx/\p.ta=p.ta/\f=f/\p.mo=p.mo/\True))/\True)/\Lt (x.1-y.1) (x.1-X.val))) (Ri (v+1)/\∃(y:V5 l.H.length (w8 l.H)),((w/\v+1=(y.1:Int)/\True)/\r/\True)/\Lt (l.H.length-y.1) (l.H.length-x.1)))) ((∃(x:V5 l.W.length (w7 l.W)),(w/\0=(x.1:Int)/\True)/\r/\True)/\∀(x:V5 l.W.length (w7 l.W)),let m:=(x.1:Int);let u:=(l.W.getD m.toNat dz);bd (m<a) (W9 m l.W.length/\br (!V6 u.tx (1:Int) (60:Int)|| !V6 u.fo (1:Int) (60:Int)||u.tx==u.fo) n (Ri (m+1)/\∃(y:V5 l.W.length (w7 l.W)),((w/\m+1=(y.1:Int)/\True)/\r/\True)/\Lt (l.W.length-y.1) (l.W.length-x.1))) (true=B6 l)))) ⟨λh=>?_,λh=>⟨⟨F2,Y1⟩,λx=>⟨λhc=>?_,λhc=>⟨⟨F2,Y1⟩,λy=>⟨λhy=>?_,λhy=>?_⟩⟩⟩⟩⟩
 ·simp only[nS,o7] at h;unfold B6;rcases h with h|h
  ·rw[tP (p:=l.H.length<=60) Z9]
   simp
  ·rw[tP (p:=l.W.length<=100) Z9]
   simp
 ·have hlt:=Y2 hc;refine⟨Y6 hlt,l.H.getD x.1 dz,Y1,λhb=>bh _ hlt (by unfold w8;rw[hb];rfl),λhb=>⟨⟨F2,Y1⟩,λy=>⟨λhy=>?_,λhy=>?_⟩⟩⟩
  ·have hyt:=Y2 hy;refine⟨Y6 Z9,((l.H.getD x.1 dz).mo,(l.H.getD y.1 dz).mo),λ_ _ _=>Y1,λhq=>?_,λhq=>⟨W2 hyt Z9,y.succ hyt ((b5Y _ _ _).symm.trans hq),⟨⟨Y1,rfl,Y1,I8,Z6⟩,Y1⟩,V5.ext_lt hyt⟩⟩
   refine bh _ hlt ?_
   unfold w8;have:anyI x.1 (vI l.H (l.H.getD x.1 dz))=true:=R8.2 ⟨y.1,hyt,(b5Y _ _ _).symm.trans hq⟩;rw[this,Bool.or_true]
  ·have hge:=X9 hy;have:anyI x.1 (vI l.H (l.H.getD x.1 dz))=false:=P4.2 λi hi=>y.2.2 i (xX hi hge)
   exact⟨W2 hlt Z9,x.succ hlt (by unfold w8;rw[hb,this];rfl),⟨⟨⟨rfl,rfl⟩,I8,Z6⟩,⟨rfl,rfl,⟨rfl,X6 _ _⟩,⟨rfl,X6 _ _⟩,Z6⟩,Z6⟩,V5.ext_lt hlt⟩
 ·have hlt:=Y2 hy;refine⟨Y6 hlt,λhq=>?_,λhq=>⟨W2 hlt Z9,y.succ hlt hq,⟨⟨Y1,I8,Z6⟩,Y1⟩,V5.ext_lt hlt⟩⟩
  have:anyI l.W.length (w7 l.W)=true:=R8.2 ⟨y.1,hlt,hq⟩;unfold B6;rw[this];simp
 ·have g1:=X9 hc;have g2:=X9 hy;have e1:anyI l.H.length (w8 l.H)=false:=P4.2 λi hi=>x.2.2 i (xX hi g1)
  have f:anyI l.W.length (w7 l.W)=false:=P4.2 λi hi=>y.2.2 i (xX hi g2)
  simp only[wR,uG] at h;unfold B6;rw[e1,f,mN (p:=l.H.length<=60) Z9,mN (p:=l.W.length<=100) Z9]
  rfl
structure Txn where
 id:Int
 Z:Int
 deriving Inhabited
def Txn.ts(t:Txn):List T:=[.int .i64 t.id,.int .i64 t.Z]
def X2(L:List Txn)(i:Nat):List T:=(L.getD i dz).ts
def tU(L:List Txn):T:=.sl 2 L.length (X2 L)
structure Eng where
 s:Sto
 up:Bool
 X:List Txn
 lk:Lks
 N:Int
 deriving Inhabited
def Eng.ts(e:Eng):List T:=[s9 e.s.d.E,v4 e.s.d.C,.bool e.s.d.A,sM e.s.d.keep,.int .i64 e.s.ep,zD e.s.L,.int .i64 e.s.S,uB e.s.fr,.int .i64 e.s.J,.bool e.up,tU e.X,wM e.lk.H,nF e.lk.W,.int .i64 e.N]
abbrev K9(a b:Eng):Prop:=(a.s.d.E.length=b.s.d.E.length/\Z8 a.s.d.E.length (Z5 a.s.d.E) (Z5 b.s.d.E))/\(a.s.d.C.length=b.s.d.C.length/\Z8 a.s.d.C.length (Z1 a.s.d.C) (Z1 b.s.d.C))/\a.s.d.A=b.s.d.A/\(a.s.d.keep.length=b.s.d.keep.length/\Z8 a.s.d.keep.length (Y9 a.s.d.keep) (Y9 b.s.d.keep))/\a.s.ep=b.s.ep/\(a.s.L.length=b.s.L.length/\Z8 a.s.L.length (Y0 a.s.L) (Y0 b.s.L))/\a.s.S=b.s.S/\(a.s.fr.length=b.s.fr.length/\Z8 a.s.fr.length (V9 a.s.fr) (V9 b.s.fr))/\a.s.J=b.s.J/\a.up=b.up/\(a.X.length=b.X.length/\Z8 a.X.length (X2 a.X) (X2 b.X))/\(a.lk.H.length=b.lk.H.length/\Z8 a.lk.H.length (Z2 a.lk.H) (Z2 b.lk.H))/\(a.lk.W.length=b.lk.W.length/\Z8 a.lk.W.length (Y7 a.lk.W) (Y7 b.lk.W))/\a.N=b.N/\True
theorem vQ(s:Eng):K9 s s:=Y1
def l7(e:Eng):Option Ob:=some (.arr true 1000000 14 1 λ_=>e.ts)
def x1(L:List Txn)(id:Int)(i:Nat):Bool:=(L.getD i dz).id==id
def T7(L:List Txn)(id:Int):Int:=S5 L.length (x1 L id)
def c3J:Con:=.rel ⟨Txn×Int,λx=>[.agg x.1.ts,.bref [.int .i64 x.2]],λx=>.bool (x.1.id==x.2),λ_=>True⟩
theorem c2k(t:Txn)(id:Int)(h:
  (t.id==id)=(t.id==id)):
  V4 prog 282 [.agg t.ts,.bref [.int .i64 id]] (.bool (t.id==id)):=
 U5 gN func282 Z3 h
theorem b6B:GK 282 c3J:=gk func282<|λx _=>c2k x.1 x.2 rfl
def txF(id:Int):T:=.fn (.func 282) [.bref [.int .i64 id]]
def b8a:Con:=.rel ⟨List Txn×Int,λx=>[tU x.1,txF x.2],λx=>.int .i64 (T7 x.1 x.2),λx=>L8 x.1.length⟩
def b6V(L:List Txn)(id:Int):Nat->Ann
 |0=>.one (V5 L.length (x1 L id)) (λx=>⟨[(0,tU L),(1,txF id),(7,.int .i64 L.length),(8,.int .i64 x.1)],[]⟩) (λx=>L.length-x.1) [] [] (λ_=>Z3)
 |_=>.none
theorem b3z:GK 281 b8a:=gk func281<|by
 rintro⟨L,id⟩ (hL:L.length<1000000000000);refine U5 (gC b6B gN) func281 (b6V L id) (α:=let r:=(L.length:Int);let p:=(T.bref [Ji id]);(∃(x:V5 L.length (x1 L id)),((Z0 X2 L L)/\(Fn.func 282=Fn.func 282/\J6 (λ(x:Nat)=>none) p p/\True)/\r=r/\0=(x.1:Int)/\True)/\True)/\∀(x:V5 L.length (x1 L id)),let q:=(x.1:Int);let z:=(L.getD q.toNat dz);bd (q<r) (W9 q L.length/\∃(X:(Txn×Int)),(((z.id=X.1.id/\z.Z=X.1.Z/\True)/\(id=X.2/\True)/\True)/\True)/\br (X.1.id==X.2) (q=T7 L id) (Ri (q+1)/\∃(y:V5 L.length (x1 L id)),(((Z0 X2 L L)/\(Fn.func 282=Fn.func 282/\J6 (λ(x:Nat)=>none) p p/\True)/\r=r/\q+1=(y.1:Int)/\True)/\True)/\Lt (L.length-y.1) (L.length-x.1))) ((-1:Int)=T7 L id)) ⟨⟨F2,⟨Y1,⟨rfl,U0 _,Z6⟩,Y1⟩,Z6⟩,λx=>⟨λC=>?_,λC=>?_⟩⟩
 ·have h:=Y2 C;refine⟨Y6 h,(L.getD x.1 dz,id),Y1,λhp=>(N8 h hp x.2.2).symm,λhp=>⟨W2 h Z9,x.succ h hp,⟨⟨Y1,⟨rfl,U0 _,Z6⟩,rfl,I8,Z6⟩,Z6⟩,V5.ext_lt h⟩⟩
 ·have e:=X9 C;exact(K1 λj J=>x.2.2 j (xX J e)).symm
def c6S:Con:=.rel ⟨Eng×Int,λx=>[.bref x.1.ts,.int .i64 x.2],λx=>.int .i64 (T7 x.1.X x.2),λx=>L8 x.1.X.length⟩
theorem c7d(e:Eng)(id:Int)(h:
  ∃(x:(List Txn×Int)),(((Z0 X2 e.X x.1)/\(Fn.func 282=Fn.func 282/\(id=x.2/\True)/\True)/\True)/\L8 x.1.length)/\T7 x.1 x.2=T7 e.X id):
  V4 prog 207 [.bref e.ts,.int .i64 id] (.int .i64 (T7 e.X id)):=
 U5 (gC b3z gN) func207 Z3 h
theorem qS:GK 207 c6S:=gk func207<|λx h=>c7d x.1 x.2 ⟨(x.1.X,x.2),⟨Y1,h⟩,rfl⟩
def c2x:Con:=.rel ⟨Eng×Int,λx=>[.agg x.1.ts,.int .i64 x.2],λx=>.int .i64 (T7 x.1.X x.2),λx=>L8 x.1.X.length⟩
def c0q(e:Eng)(id:Int):Nat->Ann
 |0=>.one (V5 e.X.length (x1 e.X id)) (λx=>⟨[(1,.int .i64 id),(2,.ref 0 0 0),(5,.int .i64 x.1)],[l7 e]⟩) (λx=>e.X.length-x.1) [.box 0] [.box 0] (λ_=>Z3)
 |_=>.none
theorem a5v:GK 75 c2x:=gk func75<|by
 rintro⟨e,id⟩ (hL:e.X.length<1000000000000);refine U5 gN func75 (c0q e id) (α:=(∃(x:V5 e.X.length (x1 e.X id)),(id=id/\(0=0/\0=0)/\0=(x.1:Int)/\True)/\(oo (K9 e e))/\True)/\∀(x:V5 e.X.length (x1 e.X id)),let p:=(x.1:Int);bd (p<(e.X.length:Int)) (W9 p e.X.length/\br ((e.X.getD p.toNat dz).id==id) (p=T7 e.X id) (Ri (p+1)/\∃(y:V5 e.X.length (x1 e.X id)),((id=id/\(0=0/\0=0)/\p+1=(y.1:Int)/\True)/\(oo (K9 e e))/\True)/\Lt (e.X.length-y.1) (e.X.length-x.1))) ((-1:Int)=T7 e.X id)) ⟨⟨F2,Y1⟩,λx=>⟨λC=>?_,λC=>?_⟩⟩
 ·have h:=Y2 C;exact⟨Y6 h,λhp=>(N8 h hp x.2.2).symm,λhp=>⟨W2 h Z9,x.succ h hp,⟨⟨rfl,Y1,I8,Z6⟩,Y1⟩,V5.ext_lt h⟩⟩
 ·have d:=X9 C;exact(K1 λj J=>x.2.2 j (xX J d)).symm
def Y8(L:List Rec)(at_:Int):Rec:=L.getD (at_-1).toNat dz
def ownR(L:List Rec)(at_ id:Int):Bool:=V6 at_ 1 L.length&&((Y8 L at_).t==id)&&V6 (Y8 L at_).k 1 3
def okR(L:List Rec)(id at_:Int):Bool:=ownR L at_ id&&((Y8 L at_).k !=3||ownR L (Y8 L at_).n id)
def chn(L:List Rec)(id:Int):Nat->Int->Bool
 |0,_=>true
 |f+1,at_=>decide (at_<=0)||(okR L id at_&&chn L id f (Y8 L at_).p)
def nC(L:List Rec)(t:Txn):Bool:=V6 t.Z 1 L.length&&chn L t.id 61 t.Z
def xG(L:List Rec):Prop:=L.length<=60/\∀i,i<L.length->zF (L.getD i dz)/\(L.getD i dz).l=(i:Int)+1
def c15:Con:=.rel ⟨Sto×Int×Int,λx=>[.bref x.1.ts,.int .i64 x.2.1,.int .i64 x.2.2],λx=>.bool (ownR x.1.L x.2.1 x.2.2),λx=>L8 x.1.L.length⟩
theorem K4{n l hi:Int}:V6 n l hi=true↔l<=n/\n<=hi:=by
 unfold V6;simp only[J4,o7]
theorem b8o:GK 315 c15:=gk func315<|by
 rintro⟨s,at_,id⟩ (hL:s.L.length<1000000000000);have d:V6 at_ 1 s.L.length=true->R1 .i64 (at_-1)/\W9 (at_-1) s.L.length:=λh=>by
  obtain⟨e,f⟩:=K4.1 h;exact⟨Z4 Z9,Z9,Z9⟩
 exact U5 (gC O0 gN) func315 Z3 (α:=let q:=(s.L.length:Int);let p:=(s.L.getD (at_-1).toNat dz);let r:=(V6 at_ (1:Int) q&&p.t==id);(V6 at_ (1:Int) q=true->Ri (at_-1))/\(V6 at_ (1:Int) q=true->W9 (at_-1) s.L.length)/\(r=true->Ri (at_-1))/\(r=true->W9 (at_-1) s.L.length)/\(V6 at_ (1:Int) q&&p.t==id&&V6 p.k (1:Int) (3:Int))=ownR s.L at_ id) ⟨λh=>(d h).1,λh=>(d h).2,λh=>(d (Bool.and_eq_true_iff.1 h).1).1,λh=>(d (Bool.and_eq_true_iff.1 h).1).2,rfl⟩
theorem xG.at{L:List Rec}(h:xG L){at_:Int}(d:1<=at_)(e:at_<=L.length):zF (Y8 L at_)/\(Y8 L at_).l=at_:=by
 obtain⟨a,b⟩:=h.2 (at_-1).toNat Z9
 exact⟨a,by unfold Y8;rw[b];omega⟩
theorem xG.prev{L:List Rec}(h:xG L){at_:Int}(e:1<=at_)(d:at_<=L.length):0<=(Y8 L at_).p/\(Y8 L at_).p<=at_-1/\0<=(Y8 L at_).n/\(Y8 L at_).n<=at_-1:=by
 obtain⟨a,b⟩:=h.at e d;obtain⟨_,_,_,_,_,_,Q,g,f,q,_⟩:=a;omega
theorem a51{L:List Rec}{at_ id:Int}(h:ownR L at_ id=true):1<=at_/\at_<=L.length:=by
 unfold ownR at h;simp only[J4] at h;exact K4.1 h.1.1
theorem fW(L:List Rec)(id:Int){f:Nat}(F:0<f){at_:Int}(h:1<=at_):chn L id f at_=(okR L id at_&&chn L id (f-1) (Y8 L at_).p):=by
 obtain⟨g,rfl⟩:∃g,f=g+1:=⟨f-1,Z9⟩
 show(decide (at_<=0)||_)=_;rw[tP Z9,Bool.false_or]
 rfl
theorem a39(L:List Rec)(id:Int)(f:Nat){at_:Int}(h:at_<=0):chn L id f at_=true:=by
 cases f with
 |zero=>rfl
 |succ f=>show(decide (at_<=0)||_)=_;rw[mN h];rfl
def b5s(t:Txn):Option Ob:=some (.arr true 1000000 2 1 λ_=>t.ts)
def Chn(L:List Rec)(t:Txn):Type:={x:Nat×Int//0<x.1/\(V6 x.2 1 L.length&&chn L t.id x.1 x.2)=nC L t/\(x.2.toNat<x.1∨x.1=61)}
def b2e:Con:=.rel ⟨Sto×Txn,λx=>[.bref x.1.ts,.agg x.2.ts],λx=>.bool (nC x.1.L x.2),λx=>xG x.1.L⟩
def b12(s:Sto)(t:Txn):Nat->Ann
 |0=>.one (Chn s.L t) (λx=>⟨[(0,.bref s.ts),(3,.ref 0 0 0),(5,.int .i64 x.1.2)],[b5s t]⟩) (λx=>x.1.1) [.box 0] [.box 0] (λ_=>Z3)
 |_=>.none
theorem a8J:GK 231 b2e:=gk func231<|by
 rintro⟨s,t⟩ (hL:xG s.L);have j:=hL.1;refine U5 (gC b8o gN) func231 (b12 s t) (α:=let v:=(false=nC s.L t);let z:=(oo (t.id=t.id/\t.Z=t.Z/\True));let r:=(T.bref s.ts);(∃(x:Chn s.L t),(J6 (m8 [some 0]) r r/\(0=0/\0=0)/\t.Z=x.1.2/\True)/\z/\True)/\∀(x:Chn s.L t),let u:=(x.1.2-1);let q:=(s.L.getD u.toNat dz);∃(X:(Sto×Int×Int)),(((yR s X.1)/\x.1.2=X.2.1/\t.id=X.2.2/\True)/\L8 X.1.L.length)/\br (!ownR X.1.L X.2.1 X.2.2) v (Ri u/\W9 u s.L.length/\∃(d:(Sto×Int×Int)),((q.k==3)=true->((yR s d.1)/\q.n=d.2.1/\t.id=d.2.2/\True)/\L8 d.1.L.length)/\br (q.k==3&& !ownR d.1.L d.2.1 d.2.2) v (br (q.p==0) (true=nC s.L t) (∃(y:Chn s.L t),((J6 (m8 [some 0]) r r/\(0=0/\0=0)/\q.p=y.1.2/\True)/\z/\True)/\Lt y.1.1 x.1.1)))) ⟨⟨⟨(61,t.Z),Nat.succ_pos 60,rfl,.inr rfl⟩,⟨U0 _,Y1⟩,Y1⟩,λx=>?_⟩
 obtain⟨⟨f,at_⟩,hf,he,B⟩:=x;dsimp only at hf he B ⊢;refine⟨(s,at_,t.id),⟨⟨(jR _),Y1⟩,by unfold L8;simp only;omega⟩,λho=>?_,λho=>?_⟩
 ·simp only[vY] at ho;rw[←he];cases hi:V6 at_ 1 s.L.length
  ·rfl
  ·obtain⟨q1,q2⟩:=K4.1 hi;rw[fW _ _ hf q1];unfold okR;rw[ho];rfl
 ·simp only[wT] at ho;obtain⟨q1,q2⟩:=a51 ho;have hi:V6 at_ 1 s.L.length=true:=K4.2 ⟨q1,q2⟩;rw[hi,Bool.true_and,fW _ _ hf q1] at he;obtain⟨p1,p2,_⟩:=hL.prev q1 q2;have eo:okR s.L t.id at_=((Y8 s.L at_).k !=3||ownR s.L (Y8 s.L at_).n t.id):=by unfold okR;rw[ho,Bool.true_and]
  refine⟨Z4 Z9,⟨Z9,Z9⟩,(s,(Y8 s.L at_).n,t.id),λ_=>⟨⟨(jR _),Y1⟩,by unfold L8;simp only;omega⟩,λe=>?_,λe=>⟨λg=>?_,λg=>?_⟩⟩
  ·have e:((Y8 s.L at_).k==3&& !ownR s.L (Y8 s.L at_).n t.id)=true:=e;rw[←he,eo];simp only[J4,vY,beq_iff_eq] at e;rw[e.1,e.2];rfl
  ·have e:((Y8 s.L at_).k==3&& !ownR s.L (Y8 s.L at_).n t.id)=false:=e;have g:(Y8 s.L at_).p=0:=beq_iff_eq.1 g;have i:okR s.L t.id at_=true:=by
    rw[eo,←wT,Bool.not_or,show(!((Y8 s.L at_).k !=3))=((Y8 s.L at_).k==3) by simp[bne]]
    exact e
   rw[←he,i,g,a39 _ _ _ (Int.le_refl 0)];rfl
  ·have e:((Y8 s.L at_).k==3&& !ownR s.L (Y8 s.L at_).n t.id)=false:=e;have g:(Y8 s.L at_).p≠0:=λh=>by
    have g:((Y8 s.L at_).p==0)=false:=g;rw[h] at g;cases g
   have i:okR s.L t.id at_=true:=by
    rw[eo,←wT,Bool.not_or,show(!((Y8 s.L at_).k !=3))=((Y8 s.L at_).k==3) by simp[bne]]
    exact e
   rw[i,Bool.true_and] at he;refine⟨⟨(f-1,(Y8 s.L at_).p),L9,?_,L9⟩,⟨⟨U0 _,Y1⟩,Y1⟩,show f-1<f by omega⟩
   simp only;rw[K4.2 (show 1<=(Y8 s.L at_).p/\(Y8 s.L at_).p<=(s.L.length:Int) by omega),Bool.true_and]
   exact he
def und(L:List Rec):Nat->Int->Nat
 |0,_=>0
 |f+1,at_=>if at_<=0 then 0 else if(Y8 L at_).k=3 then und L f (Y8 L at_).n else(if(Y8 L at_).k=2 then 1 else 0)+und L f (Y8 L at_).p
def fV(m:Nat):Option Ob:=some (.arr true 1000000 1 1 λ_=>[.int .i64 m])
def b83:Con:=.reff ⟨Rec×Nat,λx=>[.agg x.1.ts,.ref 0 0 0],λx=>[fV x.2],λ_=>.bool true,λx=>[fV (x.2+1)],λx=>x.2<1000⟩
theorem b1Z:GK 338 b83:=gk func338<|by
 rintro⟨r,m⟩ (h:m<1000);exact vcE gN func338 Z3 (bs:=[true]) (α:=Ri ((m:Int)+1)/\true=true/\(oo ((m:Int)+1=(↑(m+1):Int)/\True))/\True) ⟨Z4 Z9,rfl,⟨rfl,rfl,Z9,Z6⟩,Z6⟩
def rG(L:List Rec)(at_:Int):Prop:=xG L/\at_<=(L.length:Int)
def b2u:Con:=.reff ⟨Sto×Int,λx=>[.bref x.1.ts,.int .i64 x.2,.fn (.func 338) [.ref 0 0 0]],λ_=>[fV 1],λ_=>.tup [],λx=>[fV (1+und x.1.L 61 x.2)],λx=>rG x.1.L x.2⟩
def Und(L:List Rec)(f:Int):Type:={x:Nat×Int×Nat//x.2.2+und L x.1 x.2.1=1+und L 61 f/\x.2.1<=(L.length:Int)/\x.2.1.toNat<x.1/\x.2.2+x.1<=100}
def b21(s:Sto)(f:Int):Nat->Ann
 |0=>.one (Und s.L f) (λx=>⟨[(0,.bref s.ts),(1,.int .i64 x.1.2.1),(2,.fn (.func 338) [.ref 0 0 0])],[fV x.1.2.2]⟩) (λx=>x.1.1) [.box 0] [.box 0] (λ_=>Z3)
 |_=>.none
theorem a1S(L:List Rec):∀(f:Nat) (at_:Int),und L f at_<=f:=by
 intro f;induction f with
 |zero=>intro at_;exact U9 0
 |succ f i=>
  intro at_;unfold und;split
  ·omega
  ·split
   ·have:=i (Y8 L at_).n;omega
   ·have:=i (Y8 L at_).p;split<;>omega
theorem a2m{L:List Rec}{f:Nat}{at_:Int}(h:0<at_)(F:at_.toNat<f)(d:(Y8 L at_).k=3):und L f at_=und L (f-1) (Y8 L at_).n:=by
 obtain⟨g,rfl⟩:∃g,f=g+1:=⟨f-1,Z9⟩
 conv=>lhs;unfold und
 rw[if_neg Z9,if_pos d]
 rfl
theorem iK{L:List Rec}{f:Nat}{at_:Int}(h:0<at_)(F:at_.toNat<f)(d:(Y8 L at_).k≠3):und L f at_=(if(Y8 L at_).k=2 then 1 else 0)+und L (f-1) (Y8 L at_).p:=by
 obtain⟨g,rfl⟩:∃g,f=g+1:=⟨f-1,Z9⟩
 conv=>lhs;unfold und
 rw[if_neg Z9,if_neg d]
 rfl
theorem a3t{L:List Rec}{f:Nat}{at_:Int}(h:at_<=0):und L f at_=0:=by
 cases f with
 |zero=>rfl
 |succ f=>unfold und;rw[if_pos h]
theorem a7Y:GK 268 b2u:=gk func268<|by
 rintro⟨s,F⟩ ⟨hL,L⟩;dsimp only at hL L;have q:=hL.1;refine vcE (gC b1Z gN) func268 (b21 s F) (bs:=[true]) (α:=let m:=(↑(1+und s.L 61 F):Int);let j:=(m8 [some 0]);let z:=(T.bref s.ts);let r:=(Fn.func 338=Fn.func 338/\(0=0/\0=0)/\True);(∃(x:Und s.L F),(J6 j z z/\F=x.1.2.1/\r/\True)/\(oo (1=(x.1.2.2:Int)/\True))/\True)/\∀(x:Und s.L F),let f:=x.1;let w:=(f.2.1- (1:Int));let v:=(f.2.2:Int);let u:=(True/\(oo (v=m/\True))/\True);let q:=(s.L.getD w.toNat dz);bd (f.2.1>(0:Int)) (Ri w/\W9 w s.L.length/\br (q.k==3) (∃(y:Und s.L F),((J6 j z z/\q.n=y.1.2.1/\r/\True)/\(oo (v=(y.1.2.2:Int)/\True))/\True)/\Lt y.1.1 f.1) (∃(X:(Rec×Nat)),let c:=(↑(X.2+1):Int);((q.k==2)=true->((q.e=X.1.e/\q.l=X.1.l/\q.t=X.1.t/\q.k=X.1.k/\q.p=X.1.p/\q.n=X.1.n/\q.g=X.1.g/\q.s=X.1.s/\q.b=X.1.b/\q.a=X.1.a/\True)/\(0=0/\0=0)/\True)/\((1=1/\Z8 1 (λ(x_2:Nat)=>[Ji v]) λ(x:Nat)=>[Ji (X.2:Int)])/\True)/\X.2<1000)/\((q.k==2)=true->br (q.k==2&&false) (True/\(oo (c=m/\True))/\True) (∃(y:Und s.L F),((J6 j z z/\q.p=y.1.2.1/\r/\True)/\(oo (c=(y.1.2.2:Int)/\True))/\True)/\Lt y.1.1 f.1))/\(((q.k==2)=true->False)->br (q.k==2&&false) u (∃(y:Und s.L F),((J6 j z z/\q.p=y.1.2.1/\r/\True)/\(oo (v=(y.1.2.2:Int)/\True))/\True)/\Lt y.1.1 f.1)))) u) ⟨⟨⟨(61,F,1),rfl,L,X5,X5⟩,⟨U0 _,Y1⟩,Y1⟩,λx=>?_⟩
 obtain⟨⟨f,at_,m⟩,i,hle,o,M⟩:=x;dsimp only at i hle o M ⊢;refine⟨λhc=>?_,λhc=>?_⟩
 ·have h0:at_>0:=G5 hc;obtain⟨p1,p2,p3,p4⟩:=hL.prev (show 1<=at_ by omega) hle
  refine⟨Z4 Z9,⟨Z9,Z9⟩,λd=>?_,λd=>?_⟩
  ·have d:(Y8 s.L at_).k=3:=beq_iff_eq.1 d;rw[a2m h0 o d] at i;exact⟨⟨(f-1,(Y8 s.L at_).n,m),i,X5,X5,X5⟩,⟨⟨U0 _,Y1⟩,Y1⟩,show f-1<f by omega⟩
  ·have d:(Y8 s.L at_).k≠3:=λh=>by
    have d:((Y8 s.L at_).k==3)=false:=d;rw[h] at d;cases d
   rw[iK h0 o d] at i;refine⟨(Y8 s.L at_,m),λ_=>⟨Y1,Y1,X5⟩,λh2=>⟨λj=>?_,λ_=>?_⟩,λh2=>⟨λj=>?_,λ_=>?_⟩⟩
   ·rw[Bool.and_false] at j;cases j
   ·have h2:(Y8 s.L at_).k=2:=beq_iff_eq.1 h2;rw[if_pos h2] at i;exact⟨⟨(f-1,(Y8 s.L at_).p,m+1),X5,X5,X5,X5⟩,⟨⟨U0 _,Y1⟩,Y1⟩,show f-1<f by omega⟩
   ·rw[Bool.and_false] at j;cases j
   ·have h2:¬ (Y8 s.L at_).k=2:=λh=>h2 (beq_iff_eq.2 h)
    rw[if_neg h2] at i;exact⟨⟨(f-1,(Y8 s.L at_).p,m),X5,X5,X5,X5⟩,⟨⟨U0 _,Y1⟩,Y1⟩,show f-1<f by omega⟩
 ·have h0:at_<=0:=by have:=r8 hc;omega
  rw[a3t h0] at i;exact⟨Z6,⟨rfl,rfl,Z9,Z6⟩,Z6⟩
def b8O:Con:=.rel ⟨Sto×Int,λx=>[.bref x.1.ts,.int .i64 x.2],λx=>.int .i64 ((1+und x.1.L 61 x.2:Nat):Int),λx=>rG x.1.L x.2⟩
theorem b24:GK 280 b8O:=gk func280<|by
 rintro⟨s,f⟩ h;exact U5 (gC a7Y gN) func280 Z3 (α:=∃(x:(Sto×Int)),(((yR s x.1)/\f=x.2/\(Fn.func 338=Fn.func 338/\(0=0/\0=0)/\True)/\True)/\((1=1/\Z8 1 (setRow (λ(x:Nat)=>[Ji 0]) 0 0 [Ji 1]) λ(x:Nat)=>[Ji 1])/\True)/\rG x.1.L x.2)/\(↑(1+und x.1.L 61 x.2):Int)=(↑(1+und s.L 61 f):Int)) ⟨(s,f),⟨⟨(jR _),Y1⟩,⟨⟨rfl,λi hi=>c0g⟩,Z6⟩,h⟩,rfl⟩
def b70:Con:=.rel ⟨Bool,λb=>[.bool b],λb=>.int .i64 (if b then 1 else 0),λ_=>True⟩
theorem b7V(b:Bool)(h:
  (b=true->1=if b=true then(1:Int) else(0:Int))/\(b=false->0=if b=true then(1:Int) else(0:Int))):
  V4 prog 259 [.bool b] (.int .i64 (if b then 1 else 0)):=
 U5 gN func259 Z3 h
theorem b28:GK 259 b70:=gk func259<|λb _=>b7V b ⟨λh=>by rw[if_pos h],λh=>by rw[h];rfl⟩
def b3U:Con:=.rel ⟨Sto×Int,λx=>[.agg x.1.ts,.int .i64 x.2],λx=>.int .i64 ((1+und x.1.L 61 x.2:Nat):Int),λx=>rG x.1.L x.2⟩
def b1V(s:Sto)(f:Int):Nat->Ann
 |0=>.one (Und s.L f) (λx=>⟨[(1,.int .i64 x.1.2.1),(2,.ref 0 0 0),(5,.int .i64 x.1.2.2)],[fH s]⟩) (λx=>x.1.1) [.box 0] [.box 0] (λ_=>Z3)
 |_=>.none
theorem a7W:GK 164 b3U:=gk func164<|by
 rintro⟨s,F⟩ ⟨hL,l⟩;dsimp only at hL l;have g:=hL.1;refine U5 (gC b28 gN) func164 (b1V s F) (α:=let w:=(0=0/\0=0);let v:=(oo (yR s s));(∃(x:Und s.L F),(F=x.1.2.1/\w/\1=(x.1.2.2:Int)/\True)/\v/\True)/\∀(x:Und s.L F),let u:=(x.1.2.2:Int);let z:=(x.1.2.1- (1:Int));let q:=(s.L.getD z.toNat dz);bd (x.1.2.1>(0:Int)) (Ri z/\W9 z s.L.length/\br (q.k==3) (∃(y:Und s.L F),((q.n=y.1.2.1/\w/\u=(y.1.2.2:Int)/\True)/\v/\True)/\Lt y.1.1 x.1.1) (∃(X:Bool),let r:=(u+if X=true then(1:Int) else(0:Int));(((q.k==2)=X/\True)/\True)/\Ri r/\∃(y:Und s.L F),((q.p=y.1.2.1/\w/\r=(y.1.2.2:Int)/\True)/\v/\True)/\Lt y.1.1 x.1.1)) (u=(↑(1+und s.L 61 F):Int))) ⟨⟨⟨(61,F,1),rfl,l,X5,X5⟩,Y1⟩,λx=>?_⟩
 obtain⟨⟨f,at_,m⟩,he,hle,e,M⟩:=x;dsimp only at he hle e M ⊢;refine⟨λhc=>?_,λhc=>?_⟩
 ·have h0:at_>0:=G5 hc;obtain⟨p1,p2,p3,p4⟩:=hL.prev (show 1<=at_ by omega) hle
  refine⟨Z4 Z9,⟨Z9,Z9⟩,λd=>?_,λd=>?_⟩
  ·have d:(Y8 s.L at_).k=3:=beq_iff_eq.1 d;rw[a2m h0 e d] at he;exact⟨⟨(f-1,(Y8 s.L at_).n,m),he,X5,X5,X5⟩,Y1,show f-1<f by omega⟩
  ·have d:(Y8 s.L at_).k≠3:=λh=>by
    have d:((Y8 s.L at_).k==3)=false:=d;rw[h] at d;cases d
   rw[iK h0 e d] at he;have N:und s.L (f-1) (Y8 s.L at_).p<=f-1:=a1S _ _ _;refine⟨(Y8 s.L at_).k==2,Y1,?_,?_⟩
   ·split<;>exact Z4 Z9
   ·by_cases h2:(Y8 s.L at_).k=2
    ·rw[if_pos h2] at he;rw[if_pos (by simpa using h2)]
     exact⟨⟨(f-1,(Y8 s.L at_).p,m+1),X5,X5,X5,X5⟩,Y1,show f-1<f by omega⟩
    ·rw[if_neg h2] at he;rw[if_neg (by simpa using h2)]
     exact⟨⟨(f-1,(Y8 s.L at_).p,m),X5,X5,X5,X5⟩,⟨⟨rfl,Y1,X5,Z6⟩,Y1⟩,show f-1<f by omega⟩
 ·have h0:at_<=0:=by have:=r8 hc;omega
  rw[a3t h0] at he;show(m:Int)=_;omega
def tQ(L:List Rec)(T:List Txn):Nat->Nat
 |0=>0
 |k+1=>tQ L T k+(1+und L 61 (T.getD k dz).Z)
def nJ(e:Eng):Nat:=tQ e.s.L e.X e.X.length
def wQ(e:Eng):Prop:=xG e.s.L/\e.X.length<=10/\∀i,i<e.X.length->(e.X.getD i dz).Z<=(e.s.L.length:Int)
theorem dF(L:List Rec)(T:List Txn):∀k,tQ L T k<=62*k:=by
 intro k;induction k with
 |zero=>exact U9 0
 |succ k i=>unfold tQ;have:=a1S L 61 (T.getD k dz).Z;omega
def c0e:Con:=.rel ⟨Eng,λe=>[.bref e.ts],λe=>.int .i64 (nJ e),wQ⟩
def b9g(e:Eng):Nat->Ann
 |0=>.one (Up e.X.length) (λx=>⟨[(0,.bref e.ts),(3,.int .i64 (tQ e.s.L e.X x.1)),(9,tU e.X),(10,.int .i64 e.X.length),(11,.int .i64 x.1)],[]⟩) (λx=>e.X.length-x.1) [] [] (λ_=>Z3)
 |_=>.none
theorem a5O{L:List Rec}{T:List Txn}{i:Nat}:((tQ L T i:Nat):Int)+((1+und L 61 (T.getD i dz).Z:Nat):Int)=(tQ L T (i+1):Nat):=by
 conv=>rhs;unfold tQ
 omega
theorem b31:GK 206 c0e:=gk func206<|by
 rintro(e:Eng) ⟨hL,h10,hb⟩;refine U5 (gC b24 gN) func206 (b9g e) (α:=let z:=(T.bref e.ts);let p:=(e.X.length:Int);(∃(x:Up e.X.length),(J6 (λ(x:Nat)=>none) z z/\0=(↑(tQ e.s.L e.X x.1):Int)/\(Z0 X2 e.X e.X)/\p=p/\0=(x.1:Int)/\True)/\True)/\∀(x:Up e.X.length),let r:=(x.1:Int);let q:=(↑(tQ e.s.L e.X x.1):Int);bd (r<p) (W9 r e.X.length/\∃(X:(Sto×Int)),let u:=(↑(1+und X.1.L 61 X.2):Int);(((yR e.s X.1)/\(e.X.getD r.toNat dz).Z=X.2/\True)/\rG X.1.L X.2)/\Ri (q+u)/\Ri (r+1)/\∃(y:Up e.X.length),((J6 (λ(x:Nat)=>none) z z/\q+u=(↑(tQ e.s.L e.X y.1):Int)/\(Z0 X2 e.X e.X)/\p=p/\r+1=(y.1:Int)/\True)/\True)/\Lt (e.X.length-y.1) (e.X.length-x.1)) (q=(↑(nJ e):Int))) ⟨⟨⟨0,N7 _⟩,⟨U0 _,Y1⟩,Z6⟩,λx=>⟨λhc=>?_,λhc=>?_⟩⟩
 ·have h:=Y2 hc;have f:=dF e.s.L e.X x.1;have d:=a1S e.s.L 61 (e.X.getD x.1 dz).Z;refine⟨Y6 h,(e.s,(e.X.getD x.1 dz).Z),⟨⟨(jR _),Y1⟩,hL,hb _ h⟩,Z4 X5,W2 h Z9,⟨x.1+1,h⟩,⟨⟨U0 _,a5O,Y1,rfl,X5,Z6⟩,Z6⟩,V5.ext_lt h⟩
 ·have hx:x.1=e.X.length:=by have:=x.2;have:=X9 hc;omega
  rw[hx];rfl
def b2I:Con:=.rel ⟨Eng×Int,λx=>[.bref x.1.ts,.int .i64 x.2],λx=>.bool (decide ((x.1.s.L.length:Int)+nJ x.1+x.2<=60)),λx=>wQ x.1/\m4 x.2⟩
theorem gT:GK 118 b2I:=gk func118<|by
 rintro⟨e,m⟩ ⟨h,g,f⟩;dsimp only at h g f;have B:=dF e.s.L e.X e.X.length;have d:=h.2.1;have i:=h.1.1;have j:nJ e=tQ e.s.L e.X e.X.length:=rfl;exact U5 (gC b31 gN) func118 Z3 (α:=let p:=(e.s.L.length:Int);∃(x:Eng),let q:=(↑(nJ x):Int);(((K9 e x)/\True)/\wQ x)/\Ri (p+q)/\Ri (p+q+m)/\decide (p+q+m<=60)=decide (p+(↑(nJ e):Int)+m<=60)) ⟨e,⟨⟨(vQ _),Z6⟩,h⟩,Z4 Z9,Z4 Z9,rfl⟩
def a2c:Con:=.rel ⟨Eng,λe=>[.agg e.ts],λe=>.int .i64 (nJ e),wQ⟩
def a10(e:Eng):Nat->Ann
 |0=>.one (Up e.X.length) (λx=>⟨[(1,.ref 0 0 0),(3,.int .i64 (tQ e.s.L e.X x.1)),(4,.int .i64 x.1)],[l7 e]⟩) (λx=>e.X.length-x.1) [.box 0] [.box 0] (λ_=>Z3)
 |_=>.none
theorem pS:GK 76 a2c:=gk func76<|by
 rintro(e:Eng) ⟨hL,h10,hb⟩;refine U5 (gC a7W gN) func76 (a10 e) (α:=(∃(x:Up e.X.length),((0=0/\0=0)/\0=(↑(tQ e.s.L e.X x.1):Int)/\0=(x.1:Int)/\True)/\(oo (K9 e e))/\True)/\∀(x:Up e.X.length),let q:=(x.1:Int);let p:=(↑(tQ e.s.L e.X x.1):Int);bd (q<(e.X.length:Int)) (W9 q e.X.length/\∃(X:(Sto×Int)),let r:=(↑(1+und X.1.L 61 X.2):Int);(((yR e.s X.1)/\(e.X.getD q.toNat dz).Z=X.2/\True)/\rG X.1.L X.2)/\Ri (p+r)/\Ri (q+1)/\∃(y:Up e.X.length),(((0=0/\0=0)/\p+r=(↑(tQ e.s.L e.X y.1):Int)/\q+1=(y.1:Int)/\True)/\(oo (K9 e e))/\True)/\Lt (e.X.length-y.1) (e.X.length-x.1)) (p=(↑(nJ e):Int))) ⟨⟨⟨0,N7 _⟩,Y1⟩,λx=>⟨λhc=>?_,λhc=>?_⟩⟩
 ·have h:=Y2 hc;have f:=dF e.s.L e.X x.1;have d:=a1S e.s.L 61 (e.X.getD x.1 dz).Z;refine⟨Y6 h,(e.s,(e.X.getD x.1 dz).Z),⟨⟨(jR _),Y1⟩,hL,hb _ h⟩,Z4 X5,W2 h Z9,⟨x.1+1,h⟩,⟨⟨Y1,a5O,X5,Z6⟩,Y1⟩,V5.ext_lt h⟩
 ·have hx:x.1=e.X.length:=by have:=x.2;have:=X9 hc;omega
  rw[hx];rfl
def a4M(L:List Rec)(r:Rec):Bool:=decide (r.n>0)&&((Y8 L r.n).t==r.t)&&decide ((Y8 L r.n).k<=3)
def b15:Con:=.rel ⟨Sto×Rec,λx=>[.agg x.1.ts,.agg x.2.ts],λx=>.bool (a4M x.1.L x.2),λx=>x.2.n<=(x.1.L.length:Int)/\L8 x.1.L.length⟩
theorem a80:GK 74 b15:=gk func74<|by
 rintro⟨s,r⟩ ⟨f,e⟩;have e:s.L.length<1000000000000:=e;dsimp only at f;have d:decide (r.n>(0:Int))=true->R1 .i64 (r.n-1)/\W9 (r.n-1) s.L.length:=λh=>by
  have h:=G5 h;exact⟨Z4 Z9,Z9,Z9⟩
 exact U5 gN func74 Z3 (α:=let p:=(s.L.getD (r.n-1).toNat dz);let q:=(decide (r.n>0)&&p.t==r.t);(decide (r.n>0)=true->Ri (r.n-1))/\(decide (r.n>0)=true->W9 (r.n-1) s.L.length)/\(q=true->Ri (r.n-1))/\(q=true->W9 (r.n-1) s.L.length)/\(decide (r.n>0)&&p.t==r.t&&decide (p.k<=3))=a4M s.L r) ⟨λh=>(d h).1,λh=>(d h).2,λh=>(d (Bool.and_eq_true_iff.1 h).1).1,λh=>(d (Bool.and_eq_true_iff.1 h).1).2,rfl⟩
def wP(e:Eng)(i:Nat):Bool:=decide (T7 e.X (e.lk.H.getD i dz).tx<0)
def s5(e:Eng)(i:Nat):Bool:=decide (T7 e.X (e.lk.W.getD i dz).tx<0)||decide (T7 e.X (e.lk.W.getD i dz).fo<0)
def TxL(e:Eng):Prop:=L8 e.X.length
def a4t:Con:=.rel ⟨Eng×Lck,λx=>[.agg x.2.ts,.bref [.bref x.1.ts]],λx=>.bool (decide (T7 x.1.X x.2.tx<0)),λx=>TxL x.1⟩
theorem a5D(e:Eng)(l:Lck)(h:
  ∃(x:(Eng×Int)),(((K9 e x.1)/\l.tx=x.2/\True)/\L8 x.1.X.length)/\decide (T7 x.1.X x.2<0)=decide (T7 e.X l.tx<0)):
  V4 prog 233 [.agg l.ts,.bref [.bref e.ts]] (.bool (decide (T7 e.X l.tx<0))):=
 U5 (gC qS gN) func233 Z3 h
theorem a1u:GK 233 a4t:=gk func233<|λx h=>a5D x.1 x.2 ⟨(x.1,x.2.tx),⟨⟨(vQ _),Y1⟩,h⟩,rfl⟩
def a3e:Con:=.rel ⟨Eng×Wt,λx=>[.agg x.2.ts,.bref [.bref x.1.ts]],λx=>.bool (decide (T7 x.1.X x.2.tx<0)||decide (T7 x.1.X x.2.fo<0)),λx=>TxL x.1⟩
theorem a48(e:Eng)(l:Wt)(h:
  ∃(x:(Eng×Int)),let p:=(T7 x.1.X x.2<0);(((K9 e x.1)/\l.tx=x.2/\True)/\L8 x.1.X.length)/\∃(X:(Eng×Int)),(decide p=false->((K9 e X.1)/\l.fo=X.2/\True)/\L8 X.1.X.length)/\(decide p||decide (T7 X.1.X X.2<0))=(decide (T7 e.X l.tx<0)||decide (T7 e.X l.fo<0))):
  V4 prog 235 [.agg l.ts,.bref [.bref e.ts]] (.bool (decide (T7 e.X l.tx<0)||decide (T7 e.X l.fo<0))):=
 U5 (gC qS gN) func235 Z3 h
theorem a16:GK 235 a3e:=gk func235<|λx h=>a48 x.1 x.2 ⟨(x.1,x.2.tx),⟨⟨(vQ _),Y1⟩,h⟩,(x.1,x.2.fo),λ_=>⟨⟨(vQ _),Y1⟩,h⟩,rfl⟩
def eF1(e:Eng):T:=.fn (.func 233) [.bref [.bref e.ts]]
def eF2(e:Eng):T:=.fn (.func 235) [.bref [.bref e.ts]]
def HlL(e:Eng):Prop:=TxL e/\L8 e.lk.H.length/\L8 e.lk.W.length
def b2f:Con:=.rel ⟨Eng,λe=>[wM e.lk.H,eF1 e],λe=>.int .i64 (S5 e.lk.H.length (wP e)),HlL⟩
def b3o(e:Eng):Nat->Ann
 |0=>.one (V5 e.lk.H.length (wP e)) (λx=>⟨[(0,wM e.lk.H),(1,eF1 e),(7,.int .i64 e.lk.H.length),(8,.int .i64 x.1)],[]⟩) (λx=>e.lk.H.length-x.1) [] [] (λ_=>Z3)
 |_=>.none
theorem a8P:GK 316 b2f:=gk func316<|by
 rintro(e:Eng) ⟨ht,g,f⟩;have g:e.lk.H.length<1000000000000:=g;have f:e.lk.W.length<1000000000000:=f;refine U5 (gC a1u gN) func316 (b3o e) (α:=let u:=(Z0 Z2 e.lk.H e.lk.H);let r:=(T.bref [T.bref e.ts]);let q:=(e.lk.H.length:Int);(∃(x:V5 e.lk.H.length (wP e)),(u/\(Fn.func 233=Fn.func 233/\J6 (λ(x:Nat)=>none) r r/\True)/\q=q/\0=(x.1:Int)/\True)/\True)/\∀(x:V5 e.lk.H.length (wP e)),let z:=(x.1:Int);let p:=(e.lk.H.getD z.toNat dz);bd (z<q) (W9 z e.lk.H.length/\∃(X:(Eng×Lck)),(((p.tx=X.2.tx/\p.ta=X.2.ta/\p.row=X.2.row/\p.mo=X.2.mo/\True)/\((K9 e X.1)/\True)/\True)/\TxL X.1)/\bd (T7 X.1.X X.2.tx<0) (z=S5 e.lk.H.length (wP e)) (Ri (z+1)/\∃(y:V5 e.lk.H.length (wP e)),((u/\(Fn.func 233=Fn.func 233/\J6 (λ(x:Nat)=>none) r r/\True)/\q=q/\z+1=(y.1:Int)/\True)/\True)/\Lt (e.lk.H.length-y.1) (e.lk.H.length-x.1))) ((-1:Int)=S5 e.lk.H.length (wP e))) ⟨⟨F2,⟨Y1,⟨rfl,U0 _,Z6⟩,Y1⟩,Z6⟩,λx=>⟨λC=>?_,λC=>?_⟩⟩
 ·have h:=Y2 C;refine⟨Y6 h,(e,e.lk.H.getD x.1 dz),⟨⟨Y1,⟨(vQ _),Z6⟩,Z6⟩,ht⟩,λhp=>(N8 h hp x.2.2).symm,λhp=>⟨W2 h Z9,x.succ h hp,⟨⟨Y1,⟨rfl,U0 _,Z6⟩,rfl,I8,Z6⟩,Z6⟩,V5.ext_lt h⟩⟩
 ·have d:=X9 C;exact(K1 λj J=>x.2.2 j (xX J d)).symm
def b2T:Con:=.rel ⟨Eng,λe=>[wM e.lk.H,eF1 e],λe=>.bool (anyI e.lk.H.length (wP e)),HlL⟩
theorem b18(e:Eng)(h:
  ∃(x:Eng),(((Z0 Z2 e.lk.H x.lk.H)/\(Fn.func 233=Fn.func 233/\((K9 e x)/\True)/\True)/\True)/\HlL x)/\decide (S5 x.lk.H.length (wP x)≥(0:Int))=anyI e.lk.H.length (wP e)):
  V4 prog 232 [wM e.lk.H,eF1 e] (.bool (anyI e.lk.H.length (wP e))):=
 U5 (gC a8P gN) func232 Z3 h
theorem a8m:GK 232 b2T:=gk func232<|λ(e:Eng) h=>b18 e ⟨e,⟨⟨Y1,⟨rfl,⟨(vQ _),Z6⟩,Z6⟩,Z6⟩,h⟩,C7 _ _⟩
def b8X:Con:=.rel ⟨Eng,λe=>[nF e.lk.W,eF2 e],λe=>.int .i64 (S5 e.lk.W.length (s5 e)),HlL⟩
def b5z(e:Eng):Nat->Ann
 |0=>.one (V5 e.lk.W.length (s5 e)) (λx=>⟨[(0,nF e.lk.W),(1,eF2 e),(7,.int .i64 e.lk.W.length),(8,.int .i64 x.1)],[]⟩) (λx=>e.lk.W.length-x.1) [] [] (λ_=>Z3)
 |_=>.none
theorem b4p:GK 317 b8X:=gk func317<|by
 rintro(e:Eng) ⟨ht,g,f⟩;have g:e.lk.H.length<1000000000000:=g;have f:e.lk.W.length<1000000000000:=f;refine U5 (gC a16 gN) func317 (b5z e) (α:=let u:=(Z0 Y7 e.lk.W e.lk.W);let q:=(T.bref [T.bref e.ts]);let p:=(e.lk.W.length:Int);(∃(x:V5 e.lk.W.length (s5 e)),(u/\(Fn.func 235=Fn.func 235/\J6 (λ(x:Nat)=>none) q q/\True)/\p=p/\0=(x.1:Int)/\True)/\True)/\∀(x:V5 e.lk.W.length (s5 e)),let r:=(x.1:Int);let z:=(e.lk.W.getD r.toNat dz);bd (r<p) (W9 r e.lk.W.length/\∃(X:(Eng×Wt)),(((z.tx=X.2.tx/\z.fo=X.2.fo/\True)/\((K9 e X.1)/\True)/\True)/\TxL X.1)/\br (decide (T7 X.1.X X.2.tx<0)||decide (T7 X.1.X X.2.fo<0)) (r=S5 e.lk.W.length (s5 e)) (Ri (r+1)/\∃(y:V5 e.lk.W.length (s5 e)),((u/\(Fn.func 235=Fn.func 235/\J6 (λ(x:Nat)=>none) q q/\True)/\p=p/\r+1=(y.1:Int)/\True)/\True)/\Lt (e.lk.W.length-y.1) (e.lk.W.length-x.1))) ((-1:Int)=S5 e.lk.W.length (s5 e))) ⟨⟨F2,⟨Y1,⟨rfl,U0 _,Z6⟩,Y1⟩,Z6⟩,λx=>⟨λC=>?_,λC=>?_⟩⟩
 ·have h:=Y2 C;refine⟨Y6 h,(e,e.lk.W.getD x.1 dz),⟨⟨Y1,⟨(vQ _),Z6⟩,Z6⟩,ht⟩,λhp=>(N8 h hp x.2.2).symm,λhp=>⟨W2 h Z9,x.succ h hp,⟨⟨Y1,⟨rfl,U0 _,Z6⟩,rfl,I8,Z6⟩,Z6⟩,V5.ext_lt h⟩⟩
 ·have d:=X9 C;exact(K1 λj J=>x.2.2 j (xX J d)).symm
def b56:Con:=.rel ⟨Eng,λe=>[nF e.lk.W,eF2 e],λe=>.bool (anyI e.lk.W.length (s5 e)),HlL⟩
theorem b6r(e:Eng)(h:
  ∃(x:Eng),(((Z0 Y7 e.lk.W x.lk.W)/\(Fn.func 235=Fn.func 235/\((K9 e x)/\True)/\True)/\True)/\HlL x)/\decide (S5 x.lk.W.length (s5 x)≥(0:Int))=anyI e.lk.W.length (s5 e)):
  V4 prog 234 [nF e.lk.W,eF2 e] (.bool (anyI e.lk.W.length (s5 e))):=
 U5 (gC b4p gN) func234 Z3 h
theorem b1F:GK 234 b56:=gk func234<|λ(e:Eng) h=>b6r e ⟨e,⟨⟨Y1,⟨rfl,⟨(vQ _),Z6⟩,Z6⟩,Z6⟩,h⟩,C7 _ _⟩
def y5(e:Eng)(i:Nat):Bool:= !V6 (e.X.getD i dz).id 1 (e.N-1)||(decide ((i:Int)>0)&&decide ((e.X.getD (i-1) dz).id≥(e.X.getD i dz).id))|| !nC e.s.L (e.X.getD i dz)
def wB(e:Eng):Bool:=decide (e.X.length<=10)&&V6 e.N 1 61&&B6 e.lk
def a4p(e:Eng):Bool:=decide (e.X.length+e.lk.H.length+e.lk.W.length+e.s.fr.length=0)
def upE(e:Eng):Bool:= !anyI e.X.length (y5 e)&& !anyI e.lk.H.length (wP e)&& !anyI e.lk.W.length (s5 e)&&decide (e.s.L.length+nJ e<=60)
def sP(e:Eng):Bool:=wB e&&(if e.up then upE e else a4p e)
def c8l(e:Eng):Prop:=xG e.s.L/\b71 e.lk/\L8 e.X.length/\L8 e.s.fr.length
def a6t:Con:=.rel ⟨Eng,λe=>[.bref e.ts],λe=>.bool (sP e),c8l⟩
def c6i(e:Eng):Option Ob:=some (.arr true 1000000 1 1 λ_=>[.bref e.ts])
def a7i(e:Eng):Nat->Ann
 |0=>.one (V5 e.X.length (y5 e)) (λx=>⟨[(1,.ref 0 0 0),(62,tU e.X),(63,.int .i64 e.X.length),(64,.int .i64 x.1)],[c6i e]⟩) (λx=>e.X.length-x.1) [.box 0] [.box 0] (λ_=>Z3)
 |_=>.none
theorem b8i(e:Eng):(decide ((e.X.length:Int)>10)|| !V6 e.N 1 61|| !B6 e.lk)= !wB e:=by
 unfold wB;rw[Bool.not_and,Bool.not_and,←decide_not];congr 2
 exact decide_eq_decide.2 Z9
theorem b0H{e:Eng}(h:wB e=false):sP e=false:=by unfold sP;rw[h];rfl
theorem b1j{e:Eng}(h:wB e=true)(u:e.up=true):sP e=upE e:=by unfold sP;rw[h,if_pos u];rfl
theorem b0i{e:Eng}(h:wB e=true)(u:e.up=false):sP e=a4p e:=by unfold sP;rw[h,u];rfl
theorem a87{e:Eng}{i:Nat}(hi:i<e.X.length)(h:y5 e i=true):upE e=false:=by
 have:anyI e.X.length (y5 e)=true:=R8.2 ⟨i,hi,h⟩;unfold upE;rw[this];rfl
theorem c6I{e:Eng}{i:Nat}(hi:i<e.lk.H.length)(h:wP e i=true):upE e=false:=by
 have:anyI e.lk.H.length (wP e)=true:=R8.2 ⟨i,hi,h⟩;unfold upE;rw[this];simp
theorem c7u{e:Eng}{i:Nat}(hi:i<e.lk.W.length)(h:s5 e i=true):upE e=false:=by
 have:anyI e.lk.W.length (s5 e)=true:=R8.2 ⟨i,hi,h⟩;unfold upE;rw[this];simp
theorem xF{e:Eng}(h:wB e=true):e.X.length<=10/\1<=e.N/\e.N<=61/\B6 e.lk=true:=by
 unfold wB at h;simp only[J4,o7,K4] at h;exact⟨h.1.1,h.1.2.1,h.1.2.2,h.2⟩
theorem c4G{e:Eng}(L:xG e.s.L)(h:wB e=true)(B:∀i,i<e.X.length->y5 e i=false):wQ e:=by
 refine⟨L,(xF h).1,λi hi=>?_⟩
 have:=B i hi;unfold y5 at this;simp only[wR,wT] at this;have:=this.2;unfold nC at this;simp only[J4,K4] at this;exact this.1.2
theorem a3C:GK 140 a6t:=gk func140<|by
 rintro(e:Eng) ⟨hL,hk,t,F⟩;have t:e.X.length<1000000000000:=t;have F:e.s.fr.length<1000000000000:=F;have d:e.lk.H.length<1000000000000:=hk.1;have h:e.lk.W.length<1000000000000:=hk.2;refine U5 (gC O0 (gC a3b (gC a8J (gC a8m (gC b1F (gC gT gN)))))) func140 (a7i e) (α:=let m:=(e.s.fr.length:Int);let k:=(false=sP e);let w:=(e.lk.W.length:Int);let u:=(e.lk.H.length:Int);let z:=(oo (J6 (m8 [some 0]) (T.bref e.ts) (T.bref e.ts)/\True));let q:=(e.X.length:Int);∃(x:qV.ι),((decide (q>10)|| !V6 e.N (1:Int) (61:Int))=false->(((Z0 Z2 e.lk.H x.H)/\(Z0 Y7 e.lk.W x.W)/\True)/\True)/\b71 x)/\br (decide (q>10)|| !V6 e.N (1:Int) (61:Int)|| !B6 x) k (br (!e.up) (Ri (q+u)/\Ri (q+u+w)/\Ri (q+u+w+m)/\(q+u+w+m==0)=sP e) ((∃(x:V5 e.X.length (y5 e)),((0=0/\0=0)/\(Z0 X2 e.X e.X)/\q=q/\0=(x.1:Int)/\True)/\z/\True)/\∀(x:V5 e.X.length (y5 e)),let r:=(x.1:Int);let p:=(e.X.getD r.toNat dz);let j:=(!V6 p.id (1:Int) (e.N-1));let v:=((e.X.getD (r-1).toNat dz).id≥p.id);bd (r<q) (W9 r e.X.length/\Ri (e.N-1)/\(j=false->decide (r>0)=true->Ri (r-1))/\(j=false->decide (r>0)=true->W9 (r-1) e.X.length)/\∃(X:(Sto×Txn)),((!V6 p.id (1:Int) (e.N-1)||decide (r>0)&&decide v)=false->((yR e.s X.1)/\(p.id=X.2.id/\p.Z=X.2.Z/\True)/\True)/\xG X.1.L)/\br (!V6 p.id (1:Int) (e.N-1)||decide (r>0)&&decide v|| !nC X.1.L X.2) k (Ri (r+1)/\∃(y:V5 e.X.length (y5 e)),(((0=0/\0=0)/\(Z0 X2 e.X e.X)/\q=q/\r+1=(y.1:Int)/\True)/\z/\True)/\Lt (e.X.length-y.1) (e.X.length-x.1))) (∃(x:Eng),(((Z0 Z2 e.lk.H x.lk.H)/\(Fn.func 233=Fn.func 233/\((K9 e x)/\True)/\True)/\True)/\HlL x)/\∃(X:Eng),(anyI x.lk.H.length (wP x)=false->((Z0 Y7 e.lk.W X.lk.W)/\(Fn.func 235=Fn.func 235/\((K9 e X)/\True)/\True)/\True)/\HlL X)/\br (anyI x.lk.H.length (wP x)||anyI X.lk.W.length (s5 X)) k (∃(x:(Eng×Int)),(((K9 e x.1)/\0=x.2/\True)/\wQ x.1/\m4 x.2)/\decide ((x.1.s.L.length:Int)+(↑(nJ x.1):Int)+x.2<=60)=sP e))))) ⟨e.lk,λ_=>⟨Y1,hk⟩,λhb=>?_,λhb=>⟨λhu=>?_,λhu=>?_⟩⟩
 ·rw[b8i] at hb;rw[b0H jH]
 ·rw[b8i] at hb;rw[b0i jH a5T]
  refine⟨Z4 Z9,Z4 Z9,Z4 Z9,?_⟩
  unfold a4p;rw[Bool.eq_iff_iff,beq_iff_eq,o7];omega
 ·rw[b8i] at hb;have hh:wB e=true:=by simpa using hb
  have f:e.up=true:=a5T
  obtain⟨Q,l,j,q⟩:=xF hh;rw[b1j hh f];refine⟨⟨F2,Y1,⟨rfl,rfl,U0 _,Z6⟩,Z6⟩,λx=>⟨λhc=>?_,λhc=>?_⟩⟩
  ·have hlt:=Y2 hc;refine⟨Y6 hlt,Z4 Z9,λ_ _=>Z4 Z9,λ_ h0=>⟨b7L,Z9⟩,(e.s,e.X.getD x.1 dz),λ_=>⟨⟨(jR _),Y1⟩,hL⟩,λhq=>?_,λhq=>?_⟩
   ·rw[D8,show((x.1:Int)-1).toNat=x.1-1 by omega] at hq
    exact(a87 hlt hq).symm
   ·rw[D8,show((x.1:Int)-1).toNat=x.1-1 by omega] at hq
    exact⟨W2 hlt Z9,x.succ hlt hq,⟨⟨Y1,Y1,rfl,I8,Z6⟩,⟨rfl,rfl,U0 _,Z6⟩,Z6⟩,V5.ext_lt hlt⟩
  ·have hge:=X9 hc;have hno:∀i,i<e.X.length->y5 e i=false:=λi hi=>x.2.2 i (xX hi hge)
   have n:=c4G hL hh hno;have g:anyI e.X.length (y5 e)=false:=P4.2 hno;refine⟨e,⟨⟨Y1,⟨rfl,⟨(vQ _),Z6⟩,Z6⟩,Z6⟩,t,d,h⟩,e,λ_=>⟨⟨Y1,⟨rfl,⟨(vQ _),Z6⟩,Z6⟩,Z6⟩,t,d,h⟩,λhq=>?_,λhq=>⟨(e,0),⟨⟨(vQ _),Y1⟩,n,b7h⟩,?_⟩⟩
   ·unfold upE;rw[g];simp only[nS] at hq;rcases hq with hq|hq<;>rw[hq]<;>simp
   ·simp only[wR] at hq;unfold upE;rw[g,hq.1,hq.2];simp only[Bool.not_false,Bool.true_and];exact decide_eq_decide.2 Z9
def R2(e:Eng):Bool:=F5 e.s&&sP e
def iZ(e:Eng):Prop:=b27 e.s/\b71 e.lk/\L8 e.X.length
def tS:Rl:=⟨Eng,λe=>[.agg e.ts],λe=>.bool (R2 e),iZ⟩
def a5C:Con:=.rel tS
def a4s:Con:=.rel tS
theorem a2J{s:Sto}(h:F5 s=true):xG s.L:=by
 obtain⟨⟨e,d,_⟩,_⟩:=(G2 s).1 h;exact⟨((o4 s).1 e).2.2.2.2,λi hi=>by
  obtain⟨a,b⟩:=C2.1 d i hi;exact⟨(Q3 _).1 a,b⟩⟩
theorem a1R:GK 65 a5C:=gk func65<|by
 rintro(e:Eng) ⟨h1,h2,h3⟩;exact U5 (gC a3y (gC a3C gN)) func65 Z3 (α:=∃(x:qE.ι),(((yR e.s x)/\True)/\b27 x)/\∃(X:Eng),(F5 x=true->((K9 e X)/\True)/\c8l X)/\(F5 x&&sP X)=R2 e) ⟨e.s,⟨⟨(jR _),Z6⟩,h1⟩,e,λh=>⟨⟨(vQ _),Z6⟩,a2J h,h2,h3,h1.2.2.1.1⟩,rfl⟩
def Chs(L:List Rec)(t:Txn):Type:={x:Nat×Int//(decide (x.2<=0)||chn L t.id x.1 x.2)=nC L t/\x.2<=(L.length:Int)/\x.2.toNat<x.1}
def a3h(e:Eng):Nat->Ann
 |0=>.one (V5 e.X.length (y5 e)) (λx=>⟨[(1,.ref 0 0 0),(3,.int .i64 x.1)],[l7 e]⟩) (λx=>e.X.length-x.1) [.box 0] [.box 0] (λx=>fun
  |1=>.one (Chs e.s.L (e.X.getD x.1 dz)) (λy=>⟨[(1,.ref 0 0 0),(3,.int .i64 x.1),(4,.ref 1 0 0),(5,.int .i64 y.1.2)],[l7 e,b5s (e.X.getD x.1 dz)]⟩) (λy=>y.1.1) iQ iQ (λ_=>Z3)
  |2=>.one (V5 e.lk.H.length (wP e)) (λy=>⟨[(1,.ref 0 0 0),(7,.int .i64 y.1)],[l7 e]⟩) (λy=>e.lk.H.length-y.1) [.box 0] [.box 0] (λ_=>fun
   |3=>.one (V5 e.lk.W.length (s5 e)) (λz=>⟨[(1,.ref 0 0 0),(8,.int .i64 z.1)],[l7 e]⟩) (λz=>e.lk.W.length-z.1) [.box 0] [.box 0] (λ_=>Z3)
   |_=>.none)
  |_=>.none)
 |_=>.none
theorem c9H{L:List Rec}(hL:xG L)(id:Int){at_:Int}(e:1<=at_)(d:at_<=L.length):
  ((Y8 L at_).t !=id||(Y8 L at_).k==4||(Y8 L at_).k==5||(Y8 L at_).k==6||(Y8 L at_).k==3&& !a4M L (Y8 L at_))= !okR L id at_:=by
 obtain⟨r,l⟩:=hL.at e d;obtain⟨j,o,g,i⟩:=hL.prev e d;obtain⟨_,_,_,_,k1,q,_⟩:=r;unfold okR ownR;rw[K4.2 ⟨e,d⟩,Bool.true_and];by_cases ht:(Y8 L at_).t=id
 ·rw[show((Y8 L at_).t !=id)=false by simpa using ht,show((Y8 L at_).t==id)=true by simpa using ht,Bool.false_or,Bool.true_and]
  by_cases hk:(Y8 L at_).k<=3
  ·rw[K4.2 ⟨k1,hk⟩,show((Y8 L at_).k==4)=false by rw[beq_eq_false_iff_ne];omega,show((Y8 L at_).k==5)=false by rw[beq_eq_false_iff_ne];omega,show((Y8 L at_).k==6)=false by rw[beq_eq_false_iff_ne];omega]
   simp only[Bool.false_or,Bool.true_and];by_cases h3:(Y8 L at_).k=3
   ·rw[show((Y8 L at_).k==3)=true by simpa using h3,show((Y8 L at_).k !=3)=false by simpa using h3,Bool.true_and,Bool.false_or]
    congr 1
    unfold a4M;by_cases hn:(Y8 L at_).n>0
    ·obtain⟨hr2,_⟩:=hL.at (show 1<=(Y8 L at_).n by omega) Z9
     have f:1<=(Y8 L (Y8 L at_).n).k:=hr2.2.2.2.2.1;rw[mN hn,K4.2 (show 1<=(Y8 L at_).n/\(Y8 L at_).n<=(L.length:Int) by omega),Bool.true_and,Bool.true_and,ht]
     congr 1
     unfold V6;rw[mN f,Bool.true_and]
    ·rw[tP hn,show V6 (Y8 L at_).n 1 L.length=false from Bool.eq_false_iff.2 λh=>by have:=K4.1 h;omega]
     rfl
   ·rw[show((Y8 L at_).k==3)=false by simpa using h3,show((Y8 L at_).k !=3)=true by simpa using h3]
    rfl
  ·rw[show V6 (Y8 L at_).k 1 3=false from Bool.eq_false_iff.2 λh=>by have:=K4.1 h;omega]
   simp only[Bool.false_and,Bool.not_false,nS,beq_iff_eq];exact .inl Z9
 ·rw[show((Y8 L at_).t !=id)=true by simpa using ht,show((Y8 L at_).t==id)=false by simpa using ht]
  rfl
theorem b7Q(e:Eng):(!F5 e.s||decide ((e.X.length:Int)>10)|| !B6 e.lk|| !V6 e.N 1 61)= !(F5 e.s&&wB e):=by
 unfold wB;rw[show decide ((e.X.length:Int)>10)= !decide (e.X.length<=10) by rw[←decide_not];exact decide_eq_decide.2 Z9]
 cases F5 e.s<;>cases decide (e.X.length<=10)<;>cases B6 e.lk<;>cases V6 e.N 1 61<;>rfl
theorem a1c:GK 32 a4s:=gk func32<|by
 rintro(e:Eng) ⟨hS,hk,o⟩;have o:e.X.length<1000000000000:=o;have v:e.lk.H.length<1000000000000:=hk.1;have u:e.lk.W.length<1000000000000:=hk.2;refine U5 (gC a3l (gC a5U (gC z7 (gC a80 (gC a5v (gC pS gN)))))) func32 (a3h e) (α:=let pf:=(e.lk.W.length:Int);let pe:=(e.lk.H.length:Int);let pa:=(e.s.L.length:Int);let f:=(false=R2 e);let m:=(e.X.length:Int);let w:=(0=0/\0=0);let v:=(oo (K9 e e));∃(x:qE.ι),(((yR e.s x)/\True)/\b27 x)/\∃(h:qV.ι),((!F5 x||decide (m>10))=false->(((Z0 Z2 e.lk.H h.H)/\(Z0 Y7 e.lk.W h.W)/\True)/\True)/\b71 h)/\br (!F5 x||decide (m>10)|| !B6 h|| !V6 e.N (1:Int) (61:Int)) f (br (!e.up) ((m==0&&pe==0&&pf==0&&(e.s.fr.length:Int)==0)=R2 e) ((∃(x:V5 e.X.length (y5 e)),(w/\0=(x.1:Int)/\True)/\v/\True)/\∀(x:V5 e.X.length (y5 e)),let u:=(e.X.getD x.1 dz);let z:=(x.1:Int);let r:=(e.X.getD z.toNat dz);let pc:=(!V6 r.id (1:Int) (e.N-1));bd (z<m) (W9 z e.X.length/\Ri (e.N-1)/\(pc=false->decide (z>0)=true->Ri (z-1))/\(pc=false->decide (z>0)=true->W9 (z-1) e.X.length)/\br (!V6 r.id (1:Int) (e.N-1)||decide (z>0)&&decide ((e.X.getD (z-1).toNat dz).id≥r.id)|| !V6 r.Z (1:Int) pa) f ((∃(X:Chs e.s.L (e.X.getD x.1 dz)),(w/\z=z/\w/\r.Z=X.val.2/\True)/\v/\(oo (r.id=u.id/\r.Z=u.Z/\True))/\True)/\∀(X:Chs e.s.L (e.X.getD x.1 dz)),let c:=(X.val.2-1);let q:=(e.s.L.getD c.toNat dz);bd (X.val.2>0) (Ri c/\W9 c e.s.L.length/\∃(d:(Sto×Rec)),((q.t !=u.id||q.k==4||q.k==5||q.k==6)=false->(q.k==3)=true->((yR e.s d.1)/\(q.e=d.2.e/\q.l=d.2.l/\q.t=d.2.t/\q.k=d.2.k/\q.p=d.2.p/\q.n=d.2.n/\q.g=d.2.g/\q.s=d.2.s/\q.b=d.2.b/\q.a=d.2.a/\True)/\True)/\d.2.n<=(d.1.L.length:Int)/\L8 d.1.L.length)/\br (q.t !=u.id||q.k==4||q.k==5||q.k==6||q.k==3&& !a4M d.1.L d.2) f (Ri c/\W9 c e.s.L.length/\∃(y:Chs e.s.L (e.X.getD x.1 dz)),((w/\z=z/\w/\q.p=y.1.2/\True)/\v/\(oo (u.id=u.id/\u.Z=u.Z/\True))/\True)/\Lt y.1.1 X.val.1)) (Ri (z+1)/\∃(y:V5 e.X.length (y5 e)),((w/\z+1=(y.1:Int)/\True)/\v/\True)/\Lt (e.X.length-y.1) (e.X.length-x.1)))) ((∃(x:V5 e.lk.H.length (wP e)),(w/\0=(x.1:Int)/\True)/\v/\True)/\∀(x:V5 e.lk.H.length (wP e)),let i:=(x.1:Int);bd (i<pe) (W9 i e.lk.H.length/\∃(X:(Eng×Int)),(((K9 e X.1)/\(e.lk.H.getD i.toNat dz).tx=X.2/\True)/\L8 X.1.X.length)/\bd (T7 X.1.X X.2<0) f (Ri (i+1)/\∃(y:V5 e.lk.H.length (wP e)),((w/\i+1=(y.1:Int)/\True)/\v/\True)/\Lt (e.lk.H.length-y.1) (e.lk.H.length-x.1))) ((∃(x:V5 e.lk.W.length (s5 e)),(w/\0=(x.1:Int)/\True)/\v/\True)/\∀(x:V5 e.lk.W.length (s5 e)),let j:=(x.1:Int);let pd:=(e.lk.W.getD j.toNat dz);bd (j<pf) (W9 j e.lk.W.length/\∃(X:(Eng×Int)),let pb:=(T7 X.1.X X.2<0);(((K9 e X.1)/\pd.tx=X.2/\True)/\L8 X.1.X.length)/\(decide pb=false->W9 j e.lk.W.length)/\∃(d:(Eng×Int)),(decide pb=false->((K9 e d.1)/\pd.fo=d.2/\True)/\L8 d.1.X.length)/\br (decide pb||decide (T7 d.1.X d.2<0)) f (Ri (j+1)/\∃(y:V5 e.lk.W.length (s5 e)),((w/\j+1=(y.1:Int)/\True)/\v/\True)/\Lt (e.lk.W.length-y.1) (e.lk.W.length-x.1))) (∃(x:Eng),(((K9 e x)/\True)/\wQ x)/\Ri (pa+(↑(nJ x):Int))/\decide (pa+(↑(nJ x):Int)<=60)=R2 e)))))) ⟨e.s,⟨⟨(jR _),Z6⟩,hS⟩,e.lk,λ_=>⟨Y1,hk⟩,λhb=>?_,λhb=>?_⟩
 ·rw[b7Q] at hb;unfold R2;cases h1:F5 e.s
  ·rfl
  ·rw[h1] at hb;rw[b0H jH]
   rfl
 rw[b7Q] at hb;simp only[wT,J4] at hb;obtain⟨q,hh⟩:=hb;have L:=a2J q;have r:=L.1;obtain⟨Q,U,N,R⟩:=xF hh;have eo:R2 e=sP e:=by unfold R2;rw[q,Bool.true_and]
 refine⟨λhu=>?_,λhu=>?_⟩
 ·rw[eo,b0i hh a5T]
  unfold a4p;rw[Bool.eq_iff_iff];simp only[J4,beq_iff_eq,o7];omega
 ·have hu':e.up=true:=by simpa using hu
  rw[eo,b1j hh hu'];refine⟨⟨F2,Y1⟩,λx=>⟨λhc=>?_,λhc=>?_⟩⟩
  ·have hlt:=Y2 hc;rw[D8,show((x.1:Int)-1).toNat=x.1-1 by omega]
   refine⟨Y6 hlt,Z4 Z9,λ_ _=>Z4 Z9,λ_ h0=>⟨b7L,Z9⟩,λhq=>?_,λhq=>?_⟩
   ·refine(a87 hlt ?_).symm
    unfold y5 nC;rw[Bool.not_and,←Bool.or_assoc,hq];rfl
   ·simp only[wR,wT] at hq;obtain⟨⟨r1,r2⟩,r3⟩:=hq;obtain⟨l1,l2⟩:=K4.1 r3;refine⟨⟨⟨(61,(e.X.getD x.1 dz).Z),?_,l2,X5⟩,Y1⟩,λy=>?_⟩
    ·dsimp only;unfold nC;rw[tP Z9,r3]
     rfl
    obtain⟨⟨f,at_⟩,he,j,F⟩:=y;dsimp only at he j F ⊢;refine⟨λhy=>?_,λhy=>?_⟩
    ·have h0:at_>0:=G5 hy;have h1:1<=at_:=by omega
     obtain⟨O,M,I,J⟩:=L.prev h1 j;rw[tP Z9,Bool.false_or,fW _ _ Z9 h1] at he
     have es:=c9H L (e.X.getD x.1 dz).id h1 j;refine⟨Z4 Z9,⟨Z9,Z9⟩,(e.s,Y8 e.s.L at_),λ_ _=>⟨⟨(jR _),Y1⟩,X5,rT⟩,λhq=>?_,λhq=>?_⟩
     ·have hq:=es.symm.trans hq;refine(a87 hlt ?_).symm
      rw[show okR e.s.L (e.X.getD x.1 dz).id at_=false by simpa using hq] at he
      unfold y5;rw[←he];simp
     ·have hq:=es.symm.trans hq;rw[show okR e.s.L (e.X.getD x.1 dz).id at_=true by simpa using hq,Bool.true_and] at he
      refine⟨Z4 Z9,⟨Z9,Z9⟩,⟨(f-1,(Y8 e.s.L at_).p),?_,X5,X5⟩,Y1,show f-1<f by omega⟩
      dsimp only;rw[←he];by_cases hp:(Y8 e.s.L at_).p<=0
      ·rw[a39 _ _ _ hp,Bool.or_true]
      ·rw[tP hp,Bool.false_or]
    ·have h0:at_<=0:=by have:=r8 hy;omega
     rw[mN h0,Bool.true_or] at he;exact⟨W2 hlt Z9,x.succ hlt (by unfold y5;rw[←he,r1,r2];rfl),⟨⟨⟨rfl,rfl⟩,I8,Z6⟩,⟨rfl,rfl,vQ _⟩,Z6⟩,V5.ext_lt hlt⟩
  ·have hge:=X9 hc;have hno:∀i,i<e.X.length->y5 e i=false:=λi hi=>x.2.2 i (xX hi hge)
   have hn:=c4G L hh hno;refine⟨⟨F2,Y1⟩,λy=>⟨λhy=>?_,λhy=>⟨⟨F2,Y1⟩,λz=>⟨λhz=>?_,λhz=>?_⟩⟩⟩⟩
   ·have hlt:=Y2 hy;exact⟨Y6 hlt,(e,(e.lk.H.getD y.1 dz).tx),⟨⟨(vQ _),Y1⟩,o⟩,λhq=>(c6I hlt hq).symm,λhq=>⟨W2 hlt Z9,y.succ hlt hq,⟨⟨Y1,I8,Z6⟩,Y1⟩,V5.ext_lt hlt⟩⟩
   ·have hlt:=Y2 hz;exact⟨Y6 hlt,(e,(e.lk.W.getD z.1 dz).tx),⟨⟨(vQ _),Y1⟩,o⟩,λ_=>Y6 hlt,(e,(e.lk.W.getD z.1 dz).fo),λ_=>⟨⟨(vQ _),Y1⟩,o⟩,λhq=>(c7u hlt hq).symm,λhq=>⟨W2 hlt Z9,z.succ hlt hq,⟨⟨Y1,I8,Z6⟩,Y1⟩,V5.ext_lt hlt⟩⟩
   ·have g1:=X9 hy;have g2:=X9 hz;have hb:=dF e.s.L e.X e.X.length;have he:nJ e=tQ e.s.L e.X e.X.length:=rfl;refine⟨e,⟨⟨(vQ _),Z6⟩,hn⟩,Z4 Z9,?_⟩
    have B:anyI e.X.length (y5 e)=false:=P4.2 hno;have A:anyI e.lk.H.length (wP e)=false:=P4.2 λi hi=>y.2.2 i (xX hi g1)
    have C:anyI e.lk.W.length (s5 e)=false:=P4.2 λi hi=>z.2.2 i (xX hi g2)
    unfold upE;rw[B,A,C];simp only[Bool.not_false,Bool.true_and];exact decide_eq_decide.2 Z9
theorem b7c:GK 44 c4h:=gk func44<|by
 rintro(s:Sto) ⟨h1,h2,h3,h4⟩;exact U5 (gC b5U (gC b2R (gC b1N gN))) func44 Z3 (α:=let p:=(false=true);∃(x:b0S.ι),(((zI s.d x)/\(zI s.d x)/\True)/\nM x)/\br false p (br (s.ep !=s.ep) p (∃(x:a4C.ι),(((Z0 Y0 s.L x)/\(Z0 Y0 s.L x)/\True)/\x.length<=1048576)/\br false p (br (s.S !=s.S) p (∃(x:a25.ι),(((Z0 V9 s.fr x)/\(Z0 V9 s.fr x)/\True)/\x.length<=1048576/\∀(i:Nat),i<x.length->SmF (List.getD x i dz))/\br false p (br (s.J !=s.J) p (true=true))))))) ⟨s.d,⟨⟨(eqD _),(eqD _),Z6⟩,h1⟩,λh=>h,λ_=>⟨λh=>L3,λ_=>⟨s.L,⟨Y1,h2⟩,λh=>h,λ_=>⟨λh=>L3,λ_=>⟨s.fr,⟨Y1,h3,h4⟩,λh=>h,λ_=>⟨λh=>L3,λ_=>rfl⟩⟩⟩⟩⟩⟩
theorem sH{α:Type}(f:α->Nat)(L:List α):L.length<=S2 f L:=by
 have:=w6 f L L.length (N7 L.length);have h:V3 f L L.length 0=L.length:=rfl;unfold S2;omega
theorem a4c{α:Type}(f:α->Nat)(L:List α)(d:α){i:Nat}(hi:i<L.length):f (L.getD i d)+L.length<=S2 f L:=by
 have e:=w6 f L L.length (show i+1<=L.length from hi)
 have h:=zK f L L.length d hi;have g:=w6 f L L.length (N7 i);have z:V3 f L L.length 0=L.length:=rfl;unfold S2;omega
theorem b00{l:Int}{n:Nat}(h:¬rem l n<0):(n:Int)<=l:=by
 by_cases q:(n:Int)<=l
 ·exact q
 ·rw[I6 Z9] at h
  omega
theorem b3a{s:Sto}(h:zS s<=1048576):iC s/\b27 s:=by
 have e:zS s=S2 A2 s.d.E+S2 K8 s.d.C+s.d.keep.length+S2 N6 s.L+S2 K2 s.fr:=rfl;have n:=sH A2 s.d.E;have o:=sH K8 s.d.C;have t:=sH N6 s.L;have A:=sH K2 s.fr;have f:∀i,i<s.fr.length->(s.fr.getD i dz).pg.sl.length<=1048576:=λi hi=>by
  have g:=a4c K2 s.fr dz hi;have q:=sH A2 (s.fr.getD i dz).pg.sl;have j:K2 (s.fr.getD i dz)=S2 A2 (s.fr.getD i dz).pg.sl:=rfl;omega
 have l:∀r ∈ s.L,r.a.length<=1048576:=λr R=>by
  obtain⟨i,hi,rfl⟩:=List.mem_iff_getElem.1 R;have g:=a4c N6 s.L dz hi;rw[P3,I0 hi,Option.getD_some] at g
  have j:N6 s.L[i]=s.L[i].b.length+s.L[i].a.length:=rfl;omega
 refine⟨⟨⟨Z9,Z9,Z9⟩,Z9,Z9,f⟩,⟨sU,sU,sU⟩,⟨Z9,λr R=>by have:=l r R;omega⟩,⟨sU,λi hi=>?_⟩,λr R=>?_⟩
 ·have:=f i hi;show(s.fr.getD i dz).pg.sl.length<1000000000000;omega
 ·have:=l r R;show r.a.length<1000000000000;omega
def a21:Rl:=⟨List Txn×Int,λx=>[tU x.1,.int .i64 x.2],λx=>.int .i64 (rem x.2 x.1.length),λx=>C1 x.2/\mO x.1.length⟩
def b6v:Con:=.rel a21
theorem b3m:GK 30 b6v:=gk func30<|by
 rintro⟨L,l⟩ ⟨⟨e,d⟩,n⟩;have n:L.length<=9223372036854775807:=n;simp only at e d;refine U5 gN func30 Z3 (α:=let p:=(L.length:Int);R1 .i64 (l- p)/\(decide (l- p<0)=true->(-1:Int)=rem l L.length)/\(decide (l- p<0)=false->l- p=rem l L.length)) ?_
 simp only[k6,o7,uG];exact⟨Z9,λh=>(I6 Z9).symm,λh=>(D7 Z9).symm⟩
def a9s:Rl:=⟨Txn,λr=>[.agg r.ts],λr=>.agg r.ts,λ_=>True⟩
def c4k:Con:=.rel a9s
theorem c3I(r:Txn)(h:
  r.id=r.id/\r.Z=r.Z/\True):
  V4 prog 88 [.agg r.ts] (.agg r.ts):=
 U5 gN func88 Z3 h
theorem b5e:GK 88 c4k:=gk func88<|λr _=>c3I r Y1
def a9r:Rl:=⟨Txn,λr=>[.agg r.ts,.agg r.ts],λ_=>.bool true,λ_=>True⟩
def c0w:Con:=.rel a9r
theorem b9z:GK 103 c0w:=gk func103<|by
 intro r _;refine U5 gN func103 Z3 (α:=((r.id !=r.id)=true->false=true)/\((r.id !=r.id)=false->((r.Z !=r.Z)=true->false=true)/\((r.Z !=r.Z)=false->true=true))) ?_
 simp
def b7a(L:List Txn):Nat->Ann
 |0=>.one (Up L.length) (λx=>⟨[(0,tU L),(3,.osl 0 0 L.length),(4,.int .i64 x.1)],[some (.arr true 0 2 L.length (xW (X2 L) [.int .i64 0,.int .i64 0] x.1))]⟩) (λx=>L.length-x.1) [.arr 0] [.arr 0] (λ_=>Z3)
 |_=>.none
def a5l:Rl:=⟨List Txn,λL=>[tU L,tU L],λ_=>.bool true,λL=>L.length<=1048576⟩
def b7i:Con:=.rel a5l
def c0b(L:List Txn):Nat->Ann
 |0=>.one (Up L.length) (λx=>⟨[(0,tU L),(1,tU L),(5,.int .i64 x.1)],[]⟩) (λx=>L.length-x.1) [] [] (λ_=>Z3)
 |_=>.none
theorem b3s:GK 45 b7i:=gk func45<|by
 intro(L:List Txn) (hL:L.length<=1048576);refine U5 (gC b9z gN) func45 (c0b L) (α:=let z:=(L.length:Int);let r:=(Z0 X2 L L);br (z !=z) (false=true) ((∃(x:Up L.length),(r/\r/\0=(x.1:Int)/\True)/\True)/\∀(x:Up L.length),let q:=(x.1:Int);let p:=(L.getD q.toNat dz);bd (q<z) (W9 q L.length/\W9 q L.length/\∃(X:a9r.ι),let u:=(p.id=X.id/\p.Z=X.Z/\True);((u/\u/\True)/\True)/\br false (false=true) (Ri (q+1)/\∃(y:Up L.length),((r/\r/\q+1=(y.1:Int)/\True)/\True)/\Lt (L.length-y.1) (L.length-x.1))) (true=true))) ⟨λh=>L3,λ_=>⟨⟨⟨0,N7 _⟩,⟨⟨S6,X6 _ _⟩,⟨S6,X6 _ _⟩,Y1⟩,Z6⟩,λx=>⟨λC=>?_,λ_=>rfl⟩⟩⟩
 have t:=Y2 C;exact⟨Y6 t,Y6 t,L.getD x.1 dz,Y1,λh=>h,λ_=>⟨W2 t Z9,⟨x.1+1,t⟩,⟨⟨⟨S6,X6 _ _⟩,⟨S6,X6 _ _⟩,L9,Z6⟩,Z6⟩,V5.ext_lt t⟩⟩
def a4m:Rl:=⟨List Lck×Int,λx=>[wM x.1,.int .i64 x.2],λx=>.int .i64 (rem x.2 x.1.length),λx=>C1 x.2/\mO x.1.length⟩
def b5c:Con:=.rel a4m
theorem b2v:GK 70 b5c:=gk func70<|by
 rintro⟨L,l⟩ ⟨⟨e,d⟩,n⟩;have n:L.length<=9223372036854775807:=n;simp only at e d;refine U5 gN func70 Z3 (α:=let p:=(L.length:Int);R1 .i64 (l- p)/\(decide (l- p<0)=true->(-1:Int)=rem l L.length)/\(decide (l- p<0)=false->l- p=rem l L.length)) ?_
 simp only[k6,o7,uG];exact⟨Z9,λh=>(I6 Z9).symm,λh=>(D7 Z9).symm⟩
def a9J:Rl:=⟨Lck,λr=>[.agg r.ts],λr=>.agg r.ts,λ_=>True⟩
def c0F:Con:=.rel a9J
theorem c2K(r:Lck)(h:
  r.tx=r.tx/\r.ta=r.ta/\r.row=r.row/\r.mo=r.mo/\True):
  V4 prog 177 [.agg r.ts] (.agg r.ts):=
 U5 gN func177 Z3 h
theorem b5m:GK 177 c0F:=gk func177<|λr _=>c2K r Y1
def b0j:Rl:=⟨Lck,λr=>[.agg r.ts,.agg r.ts],λ_=>.bool true,λ_=>True⟩
def c1o:Con:=.rel b0j
theorem b7q:GK 194 c1o:=gk func194<|by
 intro r _;refine U5 gN func194 Z3 (α:=((r.tx !=r.tx)=true->false=true)/\((r.tx !=r.tx)=false->((r.ta !=r.ta)=true->false=true)/\((r.ta !=r.ta)=false->((r.row !=r.row)=true->false=true)/\((r.row !=r.row)=false->((r.mo !=r.mo)=true->false=true)/\((r.mo !=r.mo)=false->true=true))))) ?_
 simp
def c0a(L:List Lck):Nat->Ann
 |0=>.one (Up L.length) (λx=>⟨[(0,wM L),(3,.osl 0 0 L.length),(4,.int .i64 x.1)],[some (.arr true 0 4 L.length (xW (Z2 L) [.int .i64 0,.int .i64 0,.int .i64 0,.int .i64 0] x.1))]⟩) (λx=>L.length-x.1) [.arr 0] [.arr 0] (λ_=>Z3)
 |_=>.none
def a3V:Rl:=⟨List Lck,λL=>[wM L,wM L],λ_=>.bool true,λL=>L.length<=1048576⟩
def b8H:Con:=.rel a3V
def b5k(L:List Lck):Nat->Ann
 |0=>.one (Up L.length) (λx=>⟨[(0,wM L),(1,wM L),(5,.int .i64 x.1)],[]⟩) (λx=>L.length-x.1) [] [] (λ_=>Z3)
 |_=>.none
theorem b3x:GK 104 b8H:=gk func104<|by
 intro(L:List Lck) (hL:L.length<=1048576);refine U5 (gC b7q gN) func104 (b5k L) (α:=let u:=(L.length:Int);let z:=(Z0 Z2 L L);br (u !=u) (false=true) ((∃(x:Up L.length),(z/\z/\0=(x.1:Int)/\True)/\True)/\∀(x:Up L.length),let r:=(x.1:Int);let p:=(L.getD r.toNat dz);bd (r<u) (W9 r L.length/\W9 r L.length/\∃(X:b0j.ι),let q:=(p.tx=X.tx/\p.ta=X.ta/\p.row=X.row/\p.mo=X.mo/\True);((q/\q/\True)/\True)/\br false (false=true) (Ri (r+1)/\∃(y:Up L.length),((z/\z/\r+1=(y.1:Int)/\True)/\True)/\Lt (L.length-y.1) (L.length-x.1))) (true=true))) ⟨λh=>L3,λ_=>⟨⟨⟨0,N7 _⟩,⟨⟨S6,X6 _ _⟩,⟨S6,X6 _ _⟩,Y1⟩,Z6⟩,λx=>⟨λC=>?_,λ_=>rfl⟩⟩⟩
 have t:=Y2 C;exact⟨Y6 t,Y6 t,L.getD x.1 dz,Y1,λh=>h,λ_=>⟨W2 t Z9,⟨x.1+1,t⟩,⟨⟨⟨S6,X6 _ _⟩,⟨S6,X6 _ _⟩,L9,Z6⟩,Z6⟩,V5.ext_lt t⟩⟩
def b0d:Rl:=⟨List Wt×Int,λx=>[nF x.1,.int .i64 x.2],λx=>.int .i64 (rem x.2 x.1.length),λx=>C1 x.2/\mO x.1.length⟩
def c1G:Con:=.rel b0d
theorem b7A:GK 71 c1G:=gk func71<|by
 rintro⟨L,l⟩ ⟨⟨e,d⟩,n⟩;have n:L.length<=9223372036854775807:=n;simp only at e d;refine U5 gN func71 Z3 (α:=let p:=(L.length:Int);R1 .i64 (l- p)/\(decide (l- p<0)=true->(-1:Int)=rem l L.length)/\(decide (l- p<0)=false->l- p=rem l L.length)) ?_
 simp only[k6,o7,uG];exact⟨Z9,λh=>(I6 Z9).symm,λh=>(D7 Z9).symm⟩
def b7w:Rl:=⟨Wt,λr=>[.agg r.ts],λr=>.agg r.ts,λ_=>True⟩
def c6n:Con:=.rel b7w
theorem c6C(r:Wt)(h:
  r.tx=r.tx/\r.fo=r.fo/\True):
  V4 prog 178 [.agg r.ts] (.agg r.ts):=
 U5 gN func178 Z3 h
theorem c3U:GK 178 c6n:=gk func178<|λr _=>c6C r Y1
def b9u:Rl:=⟨Wt,λr=>[.agg r.ts,.agg r.ts],λ_=>.bool true,λ_=>True⟩
def c7M:Con:=.rel b9u
theorem c0t:GK 195 c7M:=gk func195<|by
 intro r _;refine U5 gN func195 Z3 (α:=((r.tx !=r.tx)=true->false=true)/\((r.tx !=r.tx)=false->((r.fo !=r.fo)=true->false=true)/\((r.fo !=r.fo)=false->true=true))) ?_
 simp
def c25(L:List Wt):Nat->Ann
 |0=>.one (Up L.length) (λx=>⟨[(0,nF L),(3,.osl 0 0 L.length),(4,.int .i64 x.1)],[some (.arr true 0 2 L.length (xW (Y7 L) [.int .i64 0,.int .i64 0] x.1))]⟩) (λx=>L.length-x.1) [.arr 0] [.arr 0] (λ_=>Z3)
 |_=>.none
def b0y:Rl:=⟨List Wt,λL=>[nF L,nF L],λ_=>.bool true,λL=>L.length<=1048576⟩
def c4l:Con:=.rel b0y
def c0n(L:List Wt):Nat->Ann
 |0=>.one (Up L.length) (λx=>⟨[(0,nF L),(1,nF L),(5,.int .i64 x.1)],[]⟩) (λx=>L.length-x.1) [] [] (λ_=>Z3)
 |_=>.none
theorem b7t:GK 105 c4l:=gk func105<|by
 intro(L:List Wt) (hL:L.length<=1048576);refine U5 (gC c0t gN) func105 (c0n L) (α:=let z:=(L.length:Int);let r:=(Z0 Y7 L L);br (z !=z) (false=true) ((∃(x:Up L.length),(r/\r/\0=(x.1:Int)/\True)/\True)/\∀(x:Up L.length),let q:=(x.1:Int);let u:=(L.getD q.toNat dz);bd (q<z) (W9 q L.length/\W9 q L.length/\∃(X:b9u.ι),let p:=(u.tx=X.tx/\u.fo=X.fo/\True);((p/\p/\True)/\True)/\br false (false=true) (Ri (q+1)/\∃(y:Up L.length),((r/\r/\q+1=(y.1:Int)/\True)/\True)/\Lt (L.length-y.1) (L.length-x.1))) (true=true))) ⟨λh=>L3,λ_=>⟨⟨⟨0,N7 _⟩,⟨⟨S6,X6 _ _⟩,⟨S6,X6 _ _⟩,Y1⟩,Z6⟩,λx=>⟨λC=>?_,λ_=>rfl⟩⟩⟩
 have t:=Y2 C;exact⟨Y6 t,Y6 t,L.getD x.1 dz,Y1,λh=>h,λ_=>⟨W2 t Z9,⟨x.1+1,t⟩,⟨⟨⟨S6,X6 _ _⟩,⟨S6,X6 _ _⟩,L9,Z6⟩,Z6⟩,V5.ext_lt t⟩⟩
def r9(s:Lks):Nat:=s.H.length+s.W.length
def a94(s:Lks):Prop:=mO s.H.length/\mO s.W.length
def uW(s:Lks):Prop:=s.H.length<=1048576/\s.W.length<=1048576
def c3q:Con:=.rel ⟨Lks×Int,λx=>[.agg x.1.ts,.int .i64 x.2],λx=>.int .i64 (rem x.2 (r9 x.1)),λx=>C1 x.2/\a94 x.1⟩
theorem b6X:GK 31 c3q:=gk func31<|by
 rintro⟨s,l⟩ ⟨L,f,d⟩;simp only at L f d;have e:r9 s=s.H.length+s.W.length:=rfl;refine U5 (gC b2v (gC b7A gN)) func31 Z3 (α:=let p:=((-1:Int)=rem l (r9 s));∃(x:a4m.ι),let q:=x.1.length;(((Z0 Z2 s.H x.1)/\l=x.2/\True)/\C1 x.2/\mO q)/\bd (rem x.2 q<0) p (∃(X:b0d.ι),(((Z0 Y7 s.W X.1)/\rem x.2 q=X.2/\True)/\C1 X.2/\mO X.1.length)/\bd (rem X.2 X.1.length<0) p (rem X.2 X.1.length=rem l (r9 s)))) ⟨(s.H,l),⟨Y1,L,f⟩,λh=>(A8 (G5 h) cP).symm,λh=>?_⟩
 obtain⟨q,i⟩:=yE (b:=s.W.length) (r8 h) L rfl;refine⟨(s.W,rem l (s.H.length)),⟨Y1,i,d⟩,λg=>?_,λg=>?_⟩
 ·simp only at g;rw[q] at g;exact(A8 (G5 g) cP).symm
 exact q
def c2F:Con:=.rel ⟨Lks,λs=>[.agg s.ts,.agg s.ts],λ_=>.bool true,uW⟩
theorem c0j:GK 46 c2F:=gk func46<|by
 rintro(s:Lks) ⟨h0,h1⟩;exact U5 (gC b3x (gC b7t gN)) func46 Z3 (α:=∃(x:a3V.ι),(((Z0 Z2 s.H x)/\(Z0 Z2 s.H x)/\True)/\x.length<=1048576)/\br false (false=true) (∃(x:b0y.ι),(((Z0 Y7 s.W x)/\(Z0 Y7 s.W x)/\True)/\x.length<=1048576)/\br false (false=true) (true=true))) ⟨s.H,⟨Y1,h0⟩,λh=>h,λ_=>⟨s.W,⟨Y1,h1⟩,λh=>h,λ_=>rfl⟩⟩
def k9(s:Eng):Nat:=zS s.s+s.X.length+r9 s.lk
def b02(s:Eng):Prop:=LmS s.s/\mO s.X.length/\a94 s.lk
def M6(s:Eng):Prop:=iC s.s/\s.X.length<=1048576/\uW s.lk
def c3F:Con:=.rel ⟨Eng×Int,λx=>[.agg x.1.ts,.int .i64 x.2],λx=>.int .i64 (rem x.2 (k9 x.1)),λx=>C1 x.2/\b02 x.1⟩
theorem b9A:GK 8 c3F:=gk func8<|by
 rintro⟨s,l⟩ ⟨L,i,f,d⟩;simp only at L i f d;have e:k9 s=zS s.s+s.X.length+r9 s.lk:=rfl;refine U5 (gC b9J (gC b3m (gC b6X gN))) func8 Z3 (α:=let p:=((-1:Int)=rem l (k9 s));∃(x:a9o.ι),(((yR s.s x.1)/\l=x.2/\True)/\C1 x.2/\LmS x.1)/\bd (rem x.2 (zS x.1)<0) p (∃(X:a21.ι),(((Z0 X2 s.X X.1)/\rem x.2 (zS x.1)=X.2/\True)/\C1 X.2/\mO X.1.length)/\bd (rem X.2 X.1.length<0) p (∃(x:(Lks×Int)),((((Z0 Z2 s.lk.H x.1.H)/\(Z0 Y7 s.lk.W x.1.W)/\True)/\rem X.2 X.1.length=x.2/\True)/\C1 x.2/\a94 x.1)/\bd (rem x.2 (r9 x.1)<0) p (rem x.2 (r9 x.1)=rem l (k9 s))))) ⟨(s.s,l),⟨⟨(jR _),Y1⟩,L,i⟩,λh=>(A8 (G5 h) cP).symm,λh=>?_⟩
 obtain⟨q,j⟩:=yE (b:=s.X.length) (r8 h) L rfl;refine⟨(s.X,rem l (zS s.s)),⟨Y1,j,f⟩,λg=>?_,λg=>?_⟩
 ·simp only at g;rw[q] at g;exact(A8 (G5 g) cP).symm
 simp only at g ⊢;rw[q] at g ⊢;obtain⟨Q,l2⟩:=yE (b:=r9 s.lk) (r8 g) L rfl;refine⟨(s.lk,rem l (zS s.s+s.X.length)),⟨Y1,l2,d⟩,λg=>?_,λg=>?_⟩
 ·simp only at g;rw[Q] at g;exact(A8 (G5 g) cP).symm
 exact Q
def c12:Con:=.rel ⟨Eng,λs=>[.agg s.ts,.agg s.ts],λ_=>.bool true,M6⟩
theorem b6P:GK 12 c12:=gk func12<|by
 rintro(s:Eng) ⟨h0,h1,h2⟩;exact U5 (gC b7c (gC b3s (gC c0j gN))) func12 Z3 (α:=let q:=(false=true);∃(x:a92.ι),(((yR s.s x)/\(yR s.s x)/\True)/\iC x)/\br false q (br (!s.up==s.up) q (∃(x:a5l.ι),(((Z0 X2 s.X x)/\(Z0 X2 s.X x)/\True)/\x.length<=1048576)/\br false q (∃(x:Lks),let p:=((Z0 Z2 s.lk.H x.H)/\(Z0 Y7 s.lk.W x.W)/\True);((p/\p/\True)/\uW x)/\br false q (br (s.N !=s.N) q (true=true)))))) ⟨s.s,⟨⟨(jR _),(jR _),Z6⟩,h0⟩,λh=>h,λ_=>⟨λh=>L3,λ_=>⟨s.X,⟨Y1,h1⟩,λh=>h,λ_=>⟨s.lk,⟨Y1,h2⟩,λh=>h,λ_=>⟨λh=>L3,λ_=>rfl⟩⟩⟩⟩⟩
open Go.SS Go.RowKit Go.Proofs.Tryz
def oW{H:Type}(x:DataW H):Rec:=⟨dI (H8 (U6 x) 0),dI (H8 (U6 x) 1),dI (H8 (U6 x) 2),dI (H8 (U6 x) 3),dI (H8 (U6 x) 4),dI (H8 (U6 x) 5),dI (H8 (U6 x) 6),dI (H8 (U6 x) 7),dS (H8 (U6 x) 8),dS (H8 (U6 x) 9)⟩
theorem yO:pI prog 3=true:=R4
theorem a0N:lC prog 9=true:=R4
theorem a59:a2x prog 4=true:=R4
theorem c44:G9 prog 214=some [3,3,3,3,3,3,3,3,9,9]:=R4
theorem c6E{H:Type}{d:Nat}(x:DataW H):xR prog (d+2) 214 x=(oW x).ts:=by
 rw[K0 c44];simp only[trA,h9 yO,a2E a0N,List.append_nil,List.cons_append,List.nil_append];rfl
theorem fK{H:Type}{d:Nat}{x:DataW H}(h:kW prog (d+1) 9 x):(dS x).length<=9223372036854775807:=by
 obtain⟨l,rfl,L⟩:=c6s h a0N;exact L
theorem c6W{H:Type}{d:Nat}{x:DataW H}(h:kW prog (d+2) 214 x):b4l (oW x):=by
 obtain⟨xs,rfl,f⟩:=y9 h c44;obtain⟨X,xs,rfl,_,h⟩:=W6 f;obtain⟨u,xs,rfl,_,h⟩:=W6 h;obtain⟨o,xs,rfl,_,h⟩:=W6 h;obtain⟨j,xs,rfl,_,h⟩:=W6 h;obtain⟨i,xs,rfl,_,h⟩:=W6 h;obtain⟨q,xs,rfl,_,h⟩:=W6 h;obtain⟨t,xs,rfl,_,h⟩:=W6 h;obtain⟨n,xs,rfl,_,h⟩:=W6 h;obtain⟨r,xs,rfl,e,h⟩:=W6 h;obtain⟨l,xs,rfl,g,h⟩:=W6 h;exact⟨fK e,fK g⟩
theorem c4T:zE prog 27=some 214:=R4
theorem c0y{H:Type}{d:Nat}(x:DataW H):(T.sl (prog.cellsOf 214) (S9 x).length λi=>xR prog (d+2) 214 ((S9 x).getD i .nil))=zD ((S9 x).map oW):=by
 unfold zD;rw[show prog.cellsOf 214=10 by kernel_rfl,List.length_map]
 congr 1
 funext i
 rw[c6E];unfold Y0;exact congrArg Rec.ts (v8 oW (S9 x) i (d:=.nil) (d':=dz) rfl).symm
def tN{H:Type}(x:DataW H):List (Bz):=(S9 x).map dS
def a2q{H:Type}(x:DataW H):List Int:=(S9 x).map dI
def qZ{H:Type}(x:DataW H):Pend:=⟨dI (H8 (U6 x) 0),dS (H8 (U6 x) 1)⟩
def a8a{H:Type}(x:DataW H):Dsk:=⟨tN (H8 (U6 x) 0),(S9 (H8 (U6 x) 1)).map qZ,dB (H8 (U6 x) 2),a2q (H8 (U6 x) 3)⟩
def c4S{H:Type}(x:DataW H):Pg:=⟨dI (H8 (U6 x) 0),tN (H8 (U6 x) 1)⟩
def tL{H:Type}(x:DataW H):Frm:=⟨dI (H8 (U6 x) 0),c4S (H8 (U6 x) 1),dB (H8 (U6 x) 2),dI (H8 (U6 x) 3)⟩
def a1C{H:Type}(x:DataW H):Sto:=⟨a8a (H8 (U6 x) 0),dI (H8 (U6 x) 1),(S9 (H8 (U6 x) 2)).map oW,dI (H8 (U6 x) 3),(S9 (H8 (U6 x) 4)).map tL,dI (H8 (U6 x) 5)⟩
theorem c4A:zE prog 22=some 9:=R4
theorem c5p:zE prog 24=some 3:=R4
theorem b5R:zE prog 23=some 313:=R4
theorem c5o:zE prog 28=some 218:=R4
theorem b9I:G9 prog 313=some [3,9]:=R4
theorem c4K:G9 prog 26=some [22,23,4,24]:=R4
theorem c9m:G9 prog 216=some [3,22]:=R4
theorem c4s:G9 prog 218=some [3,216,4,3]:=R4
theorem c4p:G9 prog 30=some [26,3,27,3,28,3]:=R4
theorem a9P{H:Type}{d:Nat}(x:DataW H):xR prog (d+2) 22 x=[s9 (tN x)]:=by
 rw[zQ c4A R4,show prog.cellsOf 9=1 by kernel_rfl]
 unfold s9 tN;rw[List.length_map];congr 2
 funext i
 rw[a2E a0N];exact congrArg (λl=>[T.str l]) (v8 dS (S9 x) i (d:=.nil) (d':=[]) rfl).symm
theorem c1t{H:Type}{d:Nat}(x:DataW H):xR prog (d+2) 24 x=[sM (a2q x)]:=by
 rw[zQ c5p R4,show prog.cellsOf 3=1 by kernel_rfl]
 unfold sM a2q;rw[List.length_map];congr 2
 funext i
 rw[h9 yO];exact congrArg (λl=>[Ji l]) (v8 dI (S9 x) i (d:=.nil) (d':=0) rfl).symm
theorem c4d{H:Type}{d:Nat}(x:DataW H):xR prog (d+2) 313 x=(qZ x).ts:=by
 rw[K0 b9I];simp only[trA,h9 yO,a2E a0N,List.append_nil,List.cons_append,List.nil_append];rfl
theorem b64{H:Type}{d:Nat}(x:DataW H):xR prog (d+3) 23 x=[v4 ((S9 x).map qZ)]:=by
 rw[zQ b5R R4,show prog.cellsOf 313=2 by kernel_rfl]
 unfold v4;rw[List.length_map];congr 2
 funext i
 rw[c4d];exact congrArg Pend.ts (v8 qZ (S9 x) i (d:=.nil) (d':=dz) rfl).symm
theorem c7r{H:Type}{d:Nat}(x:DataW H):xR prog (d+4) 26 x=(a8a x).ts:=by
 rw[K0 c4K];simp only[trA,a1T a59,a9P (d:=d+1),c1t (d:=d+1),b64,List.append_nil,List.cons_append,List.nil_append];rfl
theorem c8H{H:Type}{d:Nat}(x:DataW H):xR prog (d+3) 216 x=(c4S x).ts:=by
 rw[K0 c9m];simp only[trA,h9 yO,a9P,List.append_nil,List.cons_append,List.nil_append];rfl
theorem c8d{H:Type}{d:Nat}(x:DataW H):xR prog (d+4) 218 x=(tL x).ts:=by
 rw[K0 c4s];simp only[trA,h9 yO,a1T a59,c8H];rfl
theorem c29{H:Type}{d:Nat}(x:DataW H):xR prog (d+5) 28 x=[uB ((S9 x).map tL)]:=by
 rw[zQ c5o R4,show prog.cellsOf 218=5 by kernel_rfl]
 unfold uB;rw[List.length_map];congr 2
 funext i
 rw[c8d];exact congrArg Frm.ts (v8 tL (S9 x) i (d:=.nil) (d':=dz) rfl).symm
theorem c4b{H:Type}{d:Nat}(x:DataW H):xR prog (d+3) 27 x=[zD ((S9 x).map oW)]:=by
 rw[zQ c4T R4,c0y]
theorem c6k{H:Type}{d:Nat}(x:DataW H):trA prog (d+5) [26,3,27,3,28,3] (U6 x)=(a1C x).ts:=by
 simp only[trA,h9 yO,c7r (d:=d+1),c4b (d:=d+2),c29];rfl
theorem b06{H:Type}{d:Nat}{x:DataW H}(h:kW prog (d+2) 22 x):LmL [] (λs=>mO s.length) (tN x):=by
 obtain⟨_,e,f⟩:=zO h c4A;refine⟨by unfold tN;rw[List.length_map];exact e,λi hi=>?_⟩
 unfold tN at hi ⊢;rw[List.length_map] at hi;rw[v8 dS (S9 x) i (d:=.nil) (d':=[]) rfl,P3,I0 hi]
 exact fK (f _ (List.getElem_mem hi))
theorem b61{H:Type}{d:Nat}{x:DataW H}(h:kW prog (d+3) 23 x):LmL dz LmP ((S9 x).map qZ):=by
 obtain⟨_,g,l⟩:=zO h b5R;refine⟨by rw[List.length_map];exact g,λi hi=>?_⟩
 rw[List.length_map] at hi;rw[v8 qZ (S9 x) i (d:=.nil) (d':=dz) rfl,P3,I0 hi]
 obtain⟨xs,f,e⟩:=y9 (l _ (List.getElem_mem hi)) b9I;obtain⟨X,xs,rfl,_,e⟩:=W6 e;obtain⟨n,xs,rfl,j,e⟩:=W6 e;show(dS (H8 (U6 (S9 x)[i]) 1)).length<=_;rw[f];exact fK j
theorem c5N{H:Type}{d:Nat}{x:DataW H}(h:kW prog (d+4) 26 x):LmD (a8a x):=by
 obtain⟨xs,rfl,e⟩:=y9 h c4K;obtain⟨j,xs,rfl,g,e⟩:=W6 e;obtain⟨l,xs,rfl,f,e⟩:=W6 e;obtain⟨n,xs,rfl,_,e⟩:=W6 e;obtain⟨X,xs,rfl,i,e⟩:=W6 e;refine⟨b06 g,b61 f,?_⟩
 show((S9 X).map dI).length<=_;rw[List.length_map];exact(zO i c5p).2.1
theorem c6U{H:Type}{d:Nat}{x:DataW H}(h:kW prog (d+4) 218 x):LmF (tL x):=by
 obtain⟨xs,rfl,e⟩:=y9 h c4s;obtain⟨X,xs,rfl,_,e⟩:=W6 e;obtain⟨n,xs,rfl,i,e⟩:=W6 e;obtain⟨Y,rfl,g⟩:=y9 i c9m;obtain⟨j,Y,rfl,_,g⟩:=W6 g;obtain⟨l,Y,rfl,f,g⟩:=W6 g;exact b06 f
theorem c6M{H:Type}{d:Nat}{x:DataW H}(h:kW prog (d+6) 30 x):LmS (a1C x):=by
 obtain⟨xs,rfl,e⟩:=y9 h c4p;obtain⟨q,xs,rfl,j,e⟩:=W6 e;obtain⟨u,xs,rfl,_,e⟩:=W6 e;obtain⟨X,xs,rfl,f,e⟩:=W6 e;obtain⟨t,xs,rfl,_,e⟩:=W6 e;obtain⟨x4,xs,rfl,o,e⟩:=W6 e;obtain⟨_,l,R⟩:=zO f c4T;obtain⟨_,F,n⟩:=zO o c5o;refine⟨c5N j,⟨?_,λr g=>?_⟩,⟨?_,λi hi=>?_⟩⟩
 ·show((S9 X).map oW).length<=_;rw[List.length_map];exact l
 ·obtain⟨y,Y,rfl⟩:=List.mem_map.1 g;exact c6W (R y Y)
 ·show((S9 x4).map tL).length<=_;rw[List.length_map];exact F
 ·have hi:i<((S9 x4).map tL).length:=hi;show LmF (((S9 x4).map tL).getD i dz);rw[List.length_map] at hi;rw[v8 tL (S9 x4) i (d:=.nil) (d':=dz) rfl,P3,I0 hi]
  exact c6U (n _ (List.getElem_mem hi))
def gJ{H:Type}(x:DataW H):Txn:=⟨dI (H8 (U6 x) 0),dI (H8 (U6 x) 1)⟩
def a5h{H:Type}(x:DataW H):Wt:=⟨dI (H8 (U6 x) 0),dI (H8 (U6 x) 1)⟩
def fQ{H:Type}(x:DataW H):Lck:=⟨dI (H8 (U6 x) 0),dI (H8 (U6 x) 1),dI (H8 (U6 x) 2),dI (H8 (U6 x) 3)⟩
def a8Z{H:Type}(x:DataW H):Lks:=⟨(S9 (H8 (U6 x) 0)).map fQ,(S9 (H8 (U6 x) 1)).map a5h⟩
def a8c{H:Type}(x:DataW H):Eng:=⟨a1C (H8 (U6 x) 0),dB (H8 (U6 x) 1),(S9 (H8 (U6 x) 2)).map gJ,a8Z (H8 (U6 x) 3),dI (H8 (U6 x) 4)⟩
theorem c9t:G9 prog 144=some [3,3]:=R4
theorem c9K:G9 prog 244=some [3,3]:=R4
theorem c9y:G9 prog 242=some [3,3,3,3]:=R4
theorem c4I:G9 prog 35=some [32,33]:=R4
theorem a9x:G9 prog 37=some [30,4,31,35,3]:=R4
theorem c5b:zE prog 31=some 144:=R4
theorem c4U:zE prog 32=some 242:=R4
theorem c8Z:zE prog 33=some 244:=R4
theorem c54{H:Type}{d:Nat}(x:DataW H):xR prog (d+2) 144 x=(gJ x).ts:=by
 rw[K0 c9t];simp only[trA,h9 yO,List.append_nil,List.cons_append,List.nil_append];rfl
theorem c2n{H:Type}{d:Nat}(x:DataW H):xR prog (d+3) 31 x=[tU ((S9 x).map gJ)]:=by
 rw[zQ c5b R4,show prog.cellsOf 144=2 by kernel_rfl]
 unfold tU;rw[List.length_map];congr 2
 funext i
 rw[c54];exact congrArg Txn.ts (v8 gJ (S9 x) i (d:=.nil) (d':=dz) rfl).symm
theorem c8x{H:Type}{d:Nat}(x:DataW H):xR prog (d+2) 244 x=(a5h x).ts:=by
 rw[K0 c9K];simp only[trA,h9 yO,List.append_nil,List.cons_append,List.nil_append];rfl
theorem c65{H:Type}{d:Nat}(x:DataW H):xR prog (d+3) 33 x=[nF ((S9 x).map a5h)]:=by
 rw[zQ c8Z R4,show prog.cellsOf 244=2 by kernel_rfl]
 unfold nF;rw[List.length_map];congr 2
 funext i
 rw[c8x];exact congrArg Wt.ts (v8 a5h (S9 x) i (d:=.nil) (d':=dz) rfl).symm
theorem c7l{H:Type}{d:Nat}(x:DataW H):xR prog (d+2) 242 x=(fQ x).ts:=by
 rw[K0 c9y];simp only[trA,h9 yO,List.append_nil,List.cons_append,List.nil_append];rfl
theorem c1j{H:Type}{d:Nat}(x:DataW H):xR prog (d+3) 32 x=[wM ((S9 x).map fQ)]:=by
 rw[zQ c4U R4,show prog.cellsOf 242=4 by kernel_rfl]
 unfold wM;rw[List.length_map];congr 2
 funext i
 rw[c7l];exact congrArg Lck.ts (v8 fQ (S9 x) i (d:=.nil) (d':=dz) rfl).symm
theorem c55{H:Type}{d:Nat}(x:DataW H):xR prog (d+4) 35 x=(a8Z x).ts:=by
 rw[K0 c4I];simp only[trA,c1j,c65,List.append_nil,List.cons_append,List.nil_append];rfl
theorem c07{H:Type}{d:Nat}(x:DataW H):xR prog (d+6) 30 x=(a1C x).ts:=by
 rw[K0 c4p];exact c6k x
theorem c60{H:Type}{d:Nat}(x:DataW H):xR prog (d+7) 37 x=(a8c x).ts:=by
 rw[K0 a9x];simp only[trA,h9 yO,a1T a59,c07 (d:=d),c2n (d:=d+3),c55 (d:=d+2)];rfl
theorem c7Y{H:Type}{d:Nat}{x:DataW H}(h:kW prog (d+4) 35 x):a94 (a8Z x):=by
 obtain⟨xs,rfl,e⟩:=y9 h c4I;obtain⟨X,xs,rfl,g,e⟩:=W6 e;obtain⟨i,xs,rfl,f,e⟩:=W6 e;refine⟨?_,?_⟩
 ·show((S9 X).map fQ).length<=_;rw[List.length_map];exact(zO g c4U).2.1
 ·show((S9 i).map a5h).length<=_;rw[List.length_map];exact(zO f c8Z).2.1
theorem c6g{H:Type}{d:Nat}{x:DataW H}(h:kW prog (d+7) 37 x):b02 (a8c x):=by
 obtain⟨xs,rfl,e⟩:=y9 h a9x;obtain⟨j,xs,rfl,g,e⟩:=W6 e;obtain⟨l,xs,rfl,_,e⟩:=W6 e;obtain⟨X,xs,rfl,f,e⟩:=W6 e;obtain⟨n,xs,rfl,i,e⟩:=W6 e;refine⟨c6M (d:=d) g,?_,c7Y (d:=d+2) i⟩
 show((S9 X).map gJ).length<=_;rw[List.length_map];exact(zO (d:=d+5) f c5b).2.1
theorem b10{e:Eng}(h:k9 e<=1048576):M6 e/\iZ e:=by
 have i:k9 e=zS e.s+e.X.length+r9 e.lk:=rfl;have g:r9 e.lk=e.lk.H.length+e.lk.W.length:=rfl;obtain⟨d,f⟩:=b3a (s:=e.s) Z9
 exact⟨⟨d,Z9,Z9,Z9⟩,f,⟨sU,sU⟩,sU⟩
theorem own:ownKnob prog.godebug=none:=R4
theorem c5I{P:Program}{f:FuncId}{fn:Func}{s:ChangeSpec}{c:OpenClaim}(N:c.wf (OpenSpec.ofChange s)=true)(Q:laidOutB P=true)(M:mapsRowed P=true)
  (W:fn.params.all (P.readableRec ·)=true) (O:namedTie P c.named s.vars=true) (U:(c.stops==[])=true) (X:(P.stops==[])=true) (R:(c.knobs==[])=true) (V:(P.stopKnobs==[])=true)
  (Y:(c.inPlace==P.inPlace f)=true) (l:(c.unfollowed==P.unfollowed f)=true) (v:(c.recurses==P.recurses f)=true) (n:(c.named==P.varsNamed f)=true)
  (h:(c.maps==(fn.params.toList++s.plain.varTypes P).any (P.mapsRec ·))=true) (g:(c.ifaces==(fn.params.toList++s.plain.varTypes P).any (P.ifacesRec ·))=true) (o:(c.mapsOut==P.mapsAmong fn.resultTypes.toList)=true)
  (x:(c.loops==(fn.params.toList++s.plain.varTypes P).any (P.loopsFrom ·))=true) (j:(c.wideKeys==(fn.params.toList++s.plain.varTypes P++fn.resultTypes.toList).any (P.wideKeysFrom ·))=true)
  (L:s.vars.all (P.varReadable ·)=true) (e:fn.resultTypes.all (λt=>P.readableRec t&&decide (t<P.types.size))=true) (B:(c.ifacesOut==fn.resultTypes.toList.any (P.ifacesRec ·))=true)
  (A:(c.loopsOut==fn.resultTypes.toList.any (P.loopsFrom ·))=true) (d:(c.plainKeys==P.plainKeys)=true) (z:c.shortTexts.isNone=true) (F:P.stopsHeard=true) (i:P.mayEnter=true)
  (I:(c.lifted==P.liftsFinal)=true) (q:(P.make==some c.make)=true) (r:(c.kinds==(if c.domain.isEmpty then[] else fn.params.toList.map λt=>match P.underlying t with|some (.int k)=>some k|_=>none))=true) (C:(c.pinned==c.pinnedBy)=true)
  (u:(c.veiled==(fn.params.toList++s.plain.varTypes P++fn.resultTypes.toList).any (P.veiledRec ·))=true) (J:c.veiledFits P fn.params.toList (fn.params.toList++s.plain.varTypes P++fn.resultTypes.toList)=true):joinedFacts P f fn s c=true:=by
 simp only[joinedFacts,J4];exact⟨⟨⟨⟨⟨⟨⟨⟨⟨⟨⟨⟨⟨⟨⟨⟨⟨⟨⟨⟨⟨⟨⟨⟨⟨⟨⟨⟨⟨⟨⟨N,Q⟩,M⟩,W⟩,O⟩,U⟩,X⟩,R⟩,V⟩,Y⟩,l⟩,v⟩,n⟩,h⟩,g⟩,o⟩,x⟩,j⟩,L⟩,e⟩,B⟩,A⟩,d⟩,z⟩,F⟩,i⟩,I⟩,q⟩,r⟩,C⟩,u⟩,J⟩
end
end Go.Proofs.YtpdnnhnfongoeaaGreat
