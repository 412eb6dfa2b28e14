/- A part of the proof. -/
import Derived.Test.YtcobnbfhkpbokaaGreatD0
import Derived.RangeFuncNested
import Derived.RangeFuncBound
import Derived.RangeFuncCalls
import Derived.RangeFuncBox
import Derived.RangeFuncLeaves
import Derived.Shelf.Abstract
import Derived.WalkKit
import Derived.OwnWalkIn
import Derived.TacticsInMore
import Derived.LoopNIn
import Derived.LoopIn
import Derived.Test.YtcobnbfhkpbokaaGreatSS13
import Derived.Test.YtcobnbfhkpbokaaGreatRows
import Derived.ProofKit
import Derived.JoinedOf
import Derived.Handed
import Derived.WideWitness
namespace Go.Proofs.YtcobnbfhkpbokaaGreat
set_option maxRecDepth 100000
open Go.SS Go.Proofs.Tryz
noncomputable section
structure Pg where
 Q:Int
 sl:List (Bz)
 deriving Inhabited
def Pg.ts(p:Pg):List T:=[Ji p.Q,yC p.sl]
def c7z(b:Bool):Nat:=match b with|true=>30|false=>160
def L3(b:Bool)(s:Bz):Bool:=decide ((s.length:Int)>c7z b)
def a2k(b:Bool):List T->Option (T×Option Prop)
 | [.str s]=>some (.bool (L3 b s),none)
 |_=>none
def b1B:Con:=.pure (a2k true)
def b3x:Con:=.pure (a2k false)
theorem b0T(s:Bz)(h:
  decide ((s.length:Int)>30)=L3 true s):
  U5 prog 223 [.str s] (.bool (L3 true s)):=
 R1 gN func223 Y5 h
theorem a8k:GK 223 b1B:=gk func223<|by
 intro args res p h hp;unfold a2k at h;split at h
 ·simp only[W9,T6] at h;obtain⟨rfl,rfl⟩:=h;exact b0T _ rfl
 ·cases h
theorem b3l(s:Bz)(h:
  decide ((s.length:Int)>160)=L3 false s):
  U5 prog 163 [.str s] (.bool (L3 false s)):=
 R1 gN func163 Y5 h
theorem a6y:GK 163 b3x:=gk func163<|by
 intro args res p h hp;unfold a2k at h;split at h
 ·simp only[W9,T6] at h;obtain⟨rfl,rfl⟩:=h;exact b3l _ rfl
 ·cases h
def b5O(b:Bool):T:=fnT (match b with|true=>223|false=>163)
def gJ:Rl:=⟨List (Bz)×Bool,λx=>[yC x.1,b5O x.2],λx=>Ji (S5 x.1.length λi=>L3 x.2 (x.1.getD i [])),λx=>M3 x.1.length⟩
def b6Z:Con:=.rel gJ
def a4M(L:List (Bz))(b:Bool):Nat->Ann
 |0=>.one (V2 L.length λi=>L3 b (L.getD i [])) (λx=>⟨[(0,yC L),(1,b5O b),(7,Ji L.length),(8,Ji x.1)],[]⟩) (λx=>L.length-x.1) [] [] (λ_=>Y5)
 |_=>.none
theorem aC:GK 219 b6Z:=gk func219<|by
 rintro⟨L,b⟩ (hL:L.length<1000000000000);cases b
 ·refine R1 (gC a6y gN) func219 (a4M L false) (α:=let r:=(Fn.func 163);let p:=(L.length:Int);(∃(x:V2 L.length λ(i:Nat)=>L3 false (L.getD i [])),((Z3 Z6 L L)/\Value.func r #[] #[]=Value.func r #[] #[]/\p=p/\0=(x.1:Int)/\True)/\True)/\∀(x:V2 L.length λ(i:Nat)=>L3 false (L.getD i [])),let q:=(x.1:Int);bd (q<p) (V3 q L.length/\br (L3 false (L.getD q.toNat [])) (q=S5 L.length λ(i:Nat)=>L3 false (L.getD i [])) (Ri (q+1)/\∃(y:V2 L.length λ(i:Nat)=>L3 false (L.getD i [])),(((Z3 Z6 L L)/\Value.func r #[] #[]=Value.func r #[] #[]/\p=p/\q+1=(y.1:Int)/\True)/\True)/\Lt (L.length-y.1) (L.length-x.1))) ((-1:Int)=S5 L.length λ(i:Nat)=>L3 false (L.getD i []))) ⟨⟨E7,Y1⟩,λx=>⟨λhc=>?_,λhc=>?_⟩⟩
  ·have h:=Y0 hc;exact⟨X9 h,λhp=>(O8 h hp x.2.2).symm,λhp=>⟨V4 h Z9,x.succ h hp,Y1,V2.ext_lt h⟩⟩
  ·have e:=X3 hc;exact(L5 λj J=>x.2.2 j (xC J e)).symm
 ·refine R1 (gC a8k gN) func219 (a4M L true) (α:=let r:=(Fn.func 223);let p:=(L.length:Int);(∃(x:V2 L.length λ(i:Nat)=>L3 true (L.getD i [])),((Z3 Z6 L L)/\Value.func r #[] #[]=Value.func r #[] #[]/\p=p/\0=(x.1:Int)/\True)/\True)/\∀(x:V2 L.length λ(i:Nat)=>L3 true (L.getD i [])),let q:=(x.1:Int);bd (q<p) (V3 q L.length/\br (L3 true (L.getD q.toNat [])) (q=S5 L.length λ(i:Nat)=>L3 true (L.getD i [])) (Ri (q+1)/\∃(y:V2 L.length λ(i:Nat)=>L3 true (L.getD i [])),(((Z3 Z6 L L)/\Value.func r #[] #[]=Value.func r #[] #[]/\p=p/\q+1=(y.1:Int)/\True)/\True)/\Lt (L.length-y.1) (L.length-x.1))) ((-1:Int)=S5 L.length λ(i:Nat)=>L3 true (L.getD i []))) ⟨⟨E7,Y1⟩,λx=>⟨λhc=>?_,λhc=>?_⟩⟩
  ·have h:=Y0 hc;exact⟨X9 h,λhp=>(O8 h hp x.2.2).symm,λhp=>⟨V4 h Z9,x.succ h hp,Y1,V2.ext_lt h⟩⟩
  ·have e:=X3 hc;exact(L5 λj J=>x.2.2 j (xC J e)).symm
def dJ:Rl:=⟨List (Bz)×Bool,λx=>[yC x.1,b5O x.2],λx=>.bool (anyI x.1.length λi=>L3 x.2 (x.1.getD i [])),λx=>M3 x.1.length⟩
def b4d:Con:=.rel dJ
theorem aI:GK 162 b4d:=gk func162<|by
 rintro⟨L,b⟩ (hL:L.length<1000000000000);cases b
 ·exact R1 (gC aC gN) func162 Y5 (α:=∃(x:gJ.ι),(((Z3 Z6 L x.1)/\Value.func (Fn.func 163) #[] #[]=Value.func (Fn.func (match x.2 with|true=>223|false=>163)) #[] #[]/\True)/\M3 x.1.length)/\decide ((S5 x.1.length λ(i:Nat)=>L3 x.2 (x.1.getD i []))≥(0:Int))=anyI L.length λ(i:Nat)=>L3 false (L.getD i [])) ⟨(L,false),⟨Y1,hL⟩,C5 _ _⟩
 ·exact R1 (gC aC gN) func162 Y5 (α:=∃(x:gJ.ι),(((Z3 Z6 L x.1)/\Value.func (Fn.func 223) #[] #[]=Value.func (Fn.func (match x.2 with|true=>223|false=>163)) #[] #[]/\True)/\M3 x.1.length)/\decide ((S5 x.1.length λ(i:Nat)=>L3 x.2 (x.1.getD i []))≥(0:Int))=anyI L.length λ(i:Nat)=>L3 true (L.getD i [])) ⟨(L,true),⟨Y1,hL⟩,C5 _ _⟩
def PgP(p:Pg):Prop:=0<=p.Q/\p.Q<=1000/\p.sl.length=4/\∀i,i<p.sl.length->(p.sl.getD i []).length<=30
noncomputable instance(p:Pg):Decidable (PgP p):=Classical.propDecidable _
def j8(p:Pg):Bool:=decide (PgP p)
def PgB(p:Pg):Prop:=M3 p.sl.length
def xG:Rl:=⟨Pg,λp=>[.agg p.ts],λp=>.bool (j8 p),PgB⟩
def b1J:Con:=.rel xG
def b2K:Con:=.rel xG
def b1L(p:Pg):Nat->Ann
 |0=>.one (V2 4 λi=>L3 true (p.sl.getD i [])) (λx=>⟨[(1,.ref 0 0 0),(3,Ji x.1)],[some (.arr true 1000000 2 1 λ_=>p.ts)]⟩) (λx=>4-x.1) [.box 0] [.box 0] (λ_=>Y5)
 |_=>.none
def rV:Rl:=⟨Unit,λ_=>[],λ_=>.agg (Pg.ts ⟨0,[[],[],[],[]]⟩),λ_=>True⟩
def a6J:Con:=.rel rV
def a6C:Con:=.rel rV
theorem a6n(h:
  (Nn (4:Int)/\LeI (4:Int) (4:Int)/\mB 16 4 140737488355328/\Lt 4 9223372036854775808)/\Le 4 4/\(0:Int)=0/\(4=4/\Z7 4 (λ(x:Nat)=>[T.str []]) (Z6 [[],[],[],[]]))/\True):
  U5 prog 168 [] (.agg (Pg.ts ⟨0,[[],[],[],[]]⟩)):=
 R1 gN func168 Y5 h
theorem a7u(h:
  (Nn (4:Int)/\LeI (4:Int) (4:Int)/\mB 16 4 140737488355328/\Lt 4 9223372036854775808)/\Le 4 4/\(0:Int)=0/\(4=4/\Z7 4 (λ(x:Nat)=>[T.str []]) (Z6 [[],[],[],[]]))/\True):
  U5 prog 209 [] (.agg (Pg.ts ⟨0,[[],[],[],[]]⟩)):=
 R1 gN func209 Y5 h
theorem gQ{s:Bz}:L3 true s=false↔s.length<=30:=by
 unfold L3;rw[qW];show ¬ (s.length:Int)>((30:Nat):Int)↔_;omega
theorem fI{s:Bz}:L3 false s=false↔s.length<=160:=by
 unfold L3;rw[qW];show ¬ (s.length:Int)>((160:Nat):Int)↔_;omega
theorem P8{n:Nat}{p:Nat->Bool}:anyI n p=false↔∀i,i<n->p i=false:=by
 rw[Bool.eq_false_iff,ne_eq,R2];constructor
 ·intro h i hi;exact Bool.eq_false_iff.2 λhp=>h ⟨i,hi,hp⟩
 ·rintro h ⟨i,hi,hp⟩;rw[h i hi] at hp;cases hp
theorem b6p(p:Pg):j8 p=true↔PgP p:=decide_eq_true_iff
theorem pR:GK 170 b1J:=gk func170<|by
 intro(p:Pg) (hp:p.sl.length<1000000000000);refine R1 (gC P1 (gC aI gN)) func170 Y5 (α:=∃(x:dJ.ι),((V8 p.Q (0:Int) (1000:Int)&&(p.sl.length:Int)==4)=true->((Z3 Z6 p.sl x.1)/\Value.func (Fn.func 223) #[] #[]=Value.func (Fn.func (match x.2 with|true=>223|false=>163)) #[] #[]/\True)/\M3 x.1.length)/\(V8 p.Q (0:Int) (1000:Int)&&(p.sl.length:Int)==4&& !anyI x.1.length λ(i:Nat)=>L3 x.2 (x.1.getD i []))=j8 p) ⟨(p.sl,true),λ_=>⟨Y1,hp⟩,?_⟩
 rw[Bool.eq_iff_iff,b6p];simp only[M1,wG,beq_iff_eq,V8,g7,P8];constructor
 ·rintro⟨⟨⟨e,h⟩,f⟩,d⟩;exact⟨e,h,Z9,λi hi=>gQ.1 (d i hi)⟩
 ·rintro⟨e,h,f,d⟩;exact⟨⟨⟨e,h⟩,Z9⟩,λi hi=>gQ.2 (d i hi)⟩
theorem c1H{p:Pg}(h:¬PgP p):false=j8 p:=(tH h).symm
theorem fK:GK 151 b2K:=gk func151<|by
 intro(p:Pg) (hp:p.sl.length<1000000000000);refine R1 (gC C0 gN) func151 (b1L p) (α:=let q:=(oo (p.Q=p.Q/\(Z3 Z6 p.sl p.sl)/\True));br (!V8 p.Q (0:Int) (1000:Int)||(p.sl.length:Int) !=4) (false=j8 p) ((∃(x:V2 4 λ(i:Nat)=>L3 true (p.sl.getD i [])),((0=0/\0=0)/\0=(x.1:Int)/\True)/\q/\True)/\∀(x:V2 4 λ(i:Nat)=>L3 true (p.sl.getD i [])),let r:=(x.1:Int);bd (r<4) (V3 r p.sl.length/\bd ((↑(p.sl.getD r.toNat []).length:Int)>30) (false=j8 p) (Ri (r+1)/\∃(y:V2 4 λ(i:Nat)=>L3 true (p.sl.getD i [])),(((0=0/\0=0)/\r+1=(y.1:Int)/\True)/\q/\True)/\Lt (4-y.1) (4-x.1))) (true=j8 p))) ⟨λh=>c1H ?_,λh=>?_⟩
 ·rintro⟨f,e,g,_⟩;simp[V8] at h;omega
 simp[V8] at h;refine⟨⟨E7,Y1⟩,λx=>⟨λhc=>?_,λhc=>?_⟩⟩
 ·have hlt:x.1<4:=by have:=B3 hc;omega
  refine⟨⟨Z9,Z9⟩,λB=>c1H ?_,λB=>⟨Z1 Z9,x.succ hlt B,Y1,V2.ext_lt hlt⟩⟩
  rintro⟨_,_,_,d⟩;have:=d x.1 Z9
  rw[C8,g7] at B;omega
 ·refine(pH ⟨h.1.1,h.1.2,Z9,λi hi=>?_⟩).symm
  exact gQ.1 (x.2.2 i (by have:=k5 hc;omega))
theorem hV:Z7 4 (λ_=>[T.str []]) (Z6 [[],[],[],[]]):=by
 intro i hi
 match i,hi with
 |0,_=>rfl
 |1,_=>rfl
 |2,_=>rfl
 |3,_=>rfl
theorem a3X:GK 168 a6J:=gk func168<|λ_ _=>a6n ⟨⟨tJ,a9Z,a5n,H3⟩,U9 _,rfl,⟨rfl,hV⟩,Z5⟩
theorem a3L:GK 209 a6C:=gk func209<|λ_ _=>a7u ⟨⟨tJ,a9Z,a5n,H3⟩,U9 _,rfl,⟨rfl,hV⟩,Z5⟩
def vH(no:Int)(x:Bz):Bool:=decide (5<=x.length)&&(x.getD 0 0==112&&decide (((x.getD 1 0).toNat:Int)=no))
def pgX(x:Bz):Pg:=⟨be ((x.drop 2).take 2),(P3 (x.drop 4)).getD []⟩
def E8(no:Int)(b:Bz):Pg×Bool:=if R3 b&&vH no (X0 b) then(pgX (X0 b),(P3 ((X0 b).drop 4)).isSome&&j8 (pgX (X0 b))) else(⟨0,[]⟩,false)
def O2(no:Int)(b:Bz):Pg:=if(E8 no b).2 then(E8 no b).1 else⟨0,[]⟩
def J4(no:Int)(b:Bz):Int:=if R3 b then(if(E8 no b).2 then 0 else 3) else 8
def RdB(b:Bz):Prop:=b.length<=1000
def fW:Rl:=⟨Int×Bz,λx=>[Ji x.1,.bys x.2],λx=>.tup [.agg (O2 x.1 x.2).ts,Ji (J4 x.1 x.2)],λx=>RdB x.2⟩
def a6d:Con:=.rel fW
def aP:Rl:=⟨Int×Bz,λx=>[Ji x.1,.str x.2],λx=>.tup [.agg (E8 x.1 x.2).1.ts,.bool (E8 x.1 x.2).2],λx=>RdB x.2⟩
def b1y:Con:=.rel aP
theorem a7Z:GK 210 b1y:=gk func210<|by
 rintro⟨no,b⟩ (hb:b.length<=1000);have f:(X0 b).length<=1000:=by
  unfold X0;split
  ·rw[List.length_take];omega
  ·exact L8 _
 have hh:(!R3 b||decide (((X0 b).length:Int)<5)||(((X0 b).getD 0 0).toNat:Int) !=112||IntKind.i64.wrap (((X0 b).getD 1 0).toNat:Int) !=no)= !(R3 b&&vH no (X0 b)):=by
  rw[zM];unfold vH;have:((X0 b).getD 0 0==112)=((((X0 b).getD 0 0).toNat:Int)==112):=by
   rw[Bool.eq_iff_iff,beq_iff_eq,beq_iff_eq,←UInt8.toNat_inj];exact⟨λh=>a0c,λh=>by have:((112:UInt8).toNat:Int)=112:=rfl;omega⟩
  rw[this];have h5:decide (((X0 b).length:Int)<5)= !decide (5<=(X0 b).length):=by rw[←decide_not];exact decide_eq_decide.2 Z9
  have n:((((X0 b).getD 1 0).toNat:Int) !=no)= !decide ((((X0 b).getD 1 0).toNat:Int)=no):=by rw[Bool.eq_iff_iff];simp
  rw[h5,n,bne];cases R3 b<;>cases decide (5<=(X0 b).length)<;>cases((((X0 b).getD 0 0).toNat:Int)==112)<;>simp
 refine R1 (gC nK (gC fV (gC cN (gC fK gN)))) func210 Y5 (α:=let r:=(E8 no b);∃(x:a40.ι),let q:=(↑((X0 x).getD 0 (0:UInt8)).toNat:Int);let p:=(X0 x).length;let z:=((↑p:Int)<5);((b=x/\True)/\v5 x)/\((!R3 x||decide z)=false->V3 (0:Int) p)/\((!R3 x||decide z||q !=112)=false->V3 (1:Int) p)/\br (!R3 x||decide z||q !=112||IntKind.i64.wrap (↑((X0 x).getD 1 (0:UInt8)).toNat:Int) !=no) ((0=r.1.Q/\r.1.sl.length=0/\True)/\false=r.2/\True) (lY (4:Int) p/\∃(X:aD.ι),let u:=((P3 X).getD []);((List.drop 4 (X0 x)=X/\True)/\v5 X)/\b0W (2:Int) (4:Int) p/\∃(d:iX.ι),((List.drop 2 (List.take 4 (X0 x))=d/\True)/\mX d)/\∃(x:xG.ι),((P3 X).isSome=true->(((↑(be d):Int)=x.Q/\(Z3 Z6 u x.sl)/\True)/\True)/\PgB x)/\((↑(be d):Int)=r.1.Q/\(Z3 Z6 u r.1.sl)/\True)/\((P3 X).isSome&&j8 x)=r.2/\True)) ⟨b,⟨Y1,Nat.le_trans hb U4⟩,λh=>?_,λh=>?_,λh=>?_,λh=>?_⟩
 ·simp only[zY,qW] at h;exact⟨Z9,Z9⟩
 ·simp only[zY,qW] at h;exact⟨Z9,Z9⟩
 ·rw[hh] at h;have h:(R3 b&&vH no (X0 b))=false:=(wG _).mp h;have e:E8 no b=(⟨0,[]⟩,false):=by unfold E8;rw[h];rfl
  rw[e];exact Y1
 ·rw[hh] at h;have h:(R3 b&&vH no (X0 b))=true:=(yL _).mp h;have h5:5<=(X0 b).length:=by simp only[vH,M1,g7] at h;exact h.2.1
  have e:E8 no b=(pgX (X0 b),(P3 ((X0 b).drop 4)).isSome&&j8 (pgX (X0 b))):=by unfold E8;rw[h];rfl
  rw[e];refine⟨⟨Z9,Z9⟩,(X0 b).drop 4,⟨Y1,by unfold v5;rw[List.length_drop];omega⟩,⟨Z9,Z9,Z9⟩,((X0 b).drop 2).take 2,⟨⟨?_,Z5⟩,by unfold mX;rw[List.length_take];omega⟩,pgX (X0 b),
   λ_=>⟨Y1,?_⟩,Y1⟩
  ·rw[List.drop_take]
  ·show((P3 ((X0 b).drop 4)).getD []).length<1000000000000;unfold P3;split
   ·decide
   ·split
    ·rename_i p out ho;split
     ·have:=fZ ho;have:=m6 ((X0 b).drop 4) 0;simp only[Option.getD_some,C1] at*;omega
     ·decide
    ·decide
theorem b13(r:Bz)(p i:Nat):(r.drop p).getD i 0=r.getD (p+i) 0:=by
 simp[Q8]
theorem b34(r:Bz)(R:0<r.length):∀i,match xM r i with
  |some (p,out)=>F3 r false i=⟨r.drop p,false,out⟩/\p<=r.length
  |none=>(F3 r false i).fl=true
 |0=>by
  have:r.isEmpty=false:=by cases r with
   |nil=>simp at R
   |cons=>rfl
  simp only[xM,F3,Fst.go,fs0,this,Bool.or_false];exact⟨Z5,R⟩
 |i+1=>by
  have I:=b34 r R i;have o:F3 r false (i+1)=Fst.step (F3 r false i):=rfl;cases f:xM r i with
  |none=>
   rw[f] at I;have:xM r (i+1)=none:=a1y f 1;rw[this,o];simp only at I ⊢;simp[Fst.step,I]
  |some x=>
   obtain⟨p,out⟩:=x;rw[f] at I;obtain⟨j,l⟩:=I;rw[a88 f,o,j];have M:numR (r.drop p)=((r.getD p 0).toNat:Int):=by unfold numR;rw[b13,Nat.add_zero]
   have h:big ((r.drop p).drop 1) (numR (r.drop p))=decide (¬ (p+1+(r.getD p 0).toNat<=r.length∨r.length<p+1/\(r.getD p 0).toNat=0)):=by
    unfold big;rw[M];refine decide_eq_decide.2 ?_
    simp only[List.length_drop];omega
   have e:(r.drop p).isEmpty=decide (¬p<r.length):=by
    rw[Bool.eq_iff_iff,List.isEmpty_iff,g7,List.drop_eq_nil_iff];omega
   simp only[Fst.step];rw[h,e];by_cases hc:p<r.length/\p+1+(r.getD p 0).toNat<=r.length
   ·rw[if_pos hc];simp only;have e1:decide (¬p<r.length)=false:=tH Z9
    have g:decide (¬ (p+1+(r.getD p 0).toNat<=r.length∨r.length<p+1/\(r.getD p 0).toNat=0))=false:=tH Z9
    rw[e1,g];have d:big ((r.drop p).drop 1) (numR (r.drop p))=false:=by rw[h,g]
    unfold Q3 S7;rw[d];simp only[Bool.false_eq_true,if_false,Bool.or_false];refine⟨?_,hc.2⟩
    rw[M,C8,List.drop_drop,List.drop_drop,List.drop_take,show p+1+(r.getD p 0).toNat- (p+1)=(r.getD p 0).toNat by omega,List.drop_drop,Nat.add_assoc]
   ·rw[if_neg hc];simp only;rw[qY,qY];by_cases hp:p<r.length
    ·exact .inr (pH Z9)
    ·exact .inl (.inr (pH hp))
theorem a14(l:Bz):∀i,(F3 l true i).fl=true
 |0=>by simp[F3,Fst.go,fs0]
 |i+1=>by
  have:=a14 l i;simp only[F3] at this ⊢;simp[Fst.go,Fst.step,this]
theorem a7a(fl:Bool):∀i,(F3 [] fl i).fl=true
 |0=>by simp[F3,Fst.go,fs0]
 |i+1=>by
  have:=a7a fl i;simp only[F3] at this ⊢;simp[Fst.go,Fst.step,this]
def rpQ(x:Bz):Pg:=⟨be ((S7 x 4).drop 2),(T4 (Q3 x 4) (false||big x 4)).out⟩
def nE(no:Int)(x:Bz):Bool:=(!(!(T4 (Q3 x 4) (false||big x 4)).fl&&(T4 (Q3 x 4) (false||big x 4)).l.isEmpty)||(((S7 x 4).getD 0 0).toNat:Int) !=112||IntKind.i64.wrap (((S7 x 4).getD 1 0).toNat:Int) !=no)
theorem a9E(no:Int)(b:Bz)(U:R3 b=true):(nE no (X0 b)|| !j8 (rpQ (X0 b)))= !(E8 no b).2/\((E8 no b).2=true->rpQ (X0 b)=(E8 no b).1):=by
 have i:E8 no b=if vH no (X0 b) then(pgX (X0 b),(P3 ((X0 b).drop 4)).isSome&&j8 (pgX (X0 b))) else(⟨0,[]⟩,false):=by unfold E8;rw[U,Bool.true_and]
 generalize X0 b=x at i;rw[i];by_cases h5:5<=x.length
 ·have hbig:big x 4=false:=tH Z9
  have R:Q3 x 4=x.drop 4:=by unfold Q3;rw[hbig];rfl
  have A:S7 x 4=x.take 4:=by unfold S7;rw[hbig];rfl
  have o:(x.take 4).getD 0 0=x.getD 0 0:=by simp[Q8,List.getElem?_take]
  have t:(x.take 4).getD 1 0=x.getD 1 0:=by simp[Q8,List.getElem?_take]
  have j:(x.take 4).drop 2=(x.drop 2).take 2:=by rw[List.drop_take]
  have q:rpQ x=⟨be ((x.drop 2).take 2),(T4 (x.drop 4) false).out⟩:=by unfold rpQ;rw[R,A,hbig,j];rfl
  have B:nE no x=(!(!(T4 (x.drop 4) false).fl&&(T4 (x.drop 4) false).l.isEmpty)||((x.getD 0 0).toNat:Int) !=112||((x.getD 1 0).toNat:Int) !=no):=by unfold nE;rw[R,A,hbig,o,t,zM];rfl
  have g:vH no x= !(((x.getD 0 0).toNat:Int) !=112||((x.getD 1 0).toNat:Int) !=no):=by
   unfold vH;rw[Bool.eq_iff_iff];simp only[M1,g7,beq_iff_eq,wG,zY,bne_eq_false_iff_eq];have:x.getD 0 0=112↔((x.getD 0 0).toNat:Int)=112:=by
    rw[←UInt8.toNat_inj];exact⟨λh=>a0c,λh=>by have:((112:UInt8).toNat:Int)=112:=rfl;omega⟩
   rw[this];exact⟨λh=>h.2,λh=>⟨h5,h⟩⟩
  have N:0<(x.drop 4).length:=by rw[List.length_drop];omega
  have d:=b34 (x.drop 4) N (C1 (x.drop 4));have n:(numR (x.drop 4)).toNat=C1 (x.drop 4):=by unfold numR C1;exact C8 _
  have e:T4 (x.drop 4) false=F3 (x.drop 4) false (C1 (x.drop 4)):=by unfold T4;rw[n]
  have hall:P3 (x.drop 4)=if C1 (x.drop 4)>100 then none else match xM (x.drop 4) (C1 (x.drop 4)) with
    |some (p,out)=>if p=(x.drop 4).length then some out else none
    |none=>none:=by
   unfold P3;by_cases hc:C1 (x.drop 4)>100
   ·rw[if_pos (.inr hc),if_pos hc]
   ·rw[if_neg Z9,if_neg hc]
    rfl
  rw[B,q,g,e];generalize (((x.getD 0 0).toNat:Int) !=112)=d0;generalize (((x.getD 1 0).toNat:Int) !=no)=d1;have X:∀out,P3 (x.drop 4)=some out->pgX x=⟨be ((x.drop 2).take 2),out⟩:=λout h=>by unfold pgX;rw[h];rfl
  generalize be ((x.drop 2).take 2)=nn at X;generalize pgX x=px at X;generalize u:x.drop 4=r at d hall X;clear q B g R A o t j i e n;cases F:xM r (C1 r) with
  |none=>
   rw[F] at d hall;simp only at d;have hall:P3 r=none:=by rw[hall];split<;>rfl
   rw[d,hall];cases d0<;>cases d1<;>simp
  |some y=>
   obtain⟨p,out⟩:=y;rw[F] at d hall;simp only at d hall;obtain⟨d,L⟩:=d;rw[d];have O:out.length=C1 r:=fZ F;by_cases hp:p=r.length
   ·have hem:(r.drop p).isEmpty=true:=by rw[List.isEmpty_iff,List.drop_eq_nil_iff];omega
    by_cases hc:C1 r>100
    ·rw[if_pos hc] at hall;have hpg:j8 ⟨nn,out⟩=false:=tH (λh=>by have:=h.2.2.1;simp only at this;omega)
     simp only[hem,hall,hpg];cases d0<;>cases d1<;>simp
    ·rw[if_neg hc,if_pos hp] at hall;rw[X out hall];simp only[hem,hall];cases d0<;>cases d1<;>simp
   ·have hem:(r.drop p).isEmpty=false:=by
     rw[Bool.eq_false_iff,ne_eq,List.isEmpty_iff,List.drop_eq_nil_iff];omega
    have hall:P3 r=none:=by rw[hall,if_neg hp];split<;>rfl
    simp only[hem,hall];cases d0<;>cases d1<;>simp
 ·have hh:vH no x=false:=by unfold vH;rw[tH h5];rfl
  have f:(T4 (Q3 x 4) (false||big x 4)).fl=true:=by
   by_cases v:4<=x.length
   ·have hbig:big x 4=false:=tH Z9
    have R:Q3 x 4=[]:=by unfold Q3;rw[hbig];exact List.drop_eq_nil_iff.2 (by show x.length<=4;omega)
    rw[R];exact a7a _ _
   ·have hbig:big x 4=true:=pH Z9
    rw[hbig];exact a14 _ _
  have B:nE no x=true:=by unfold nE;rw[f];simp
  rw[B,hh];simp
theorem a3K:GK 169 a6d:=gk func169<|by
 rintro⟨no,b⟩ (B:b.length<=1000);have L:∀(x:Bz),(S7 x 4).length=4:=λx=>by
  unfold S7;split
  ·exact List.length_replicate
  ·rename_i h;have:¬4>(x.length:Int):=by simpa[big] using h
   rw[List.length_take,show(4:Int).toNat=4 from rfl]
   omega
 refine R1 (gC sW (gC rD (gC a2E (gC aS (gC rK (gC pR gN)))))) func169 Y5 (α:=let y:=(O2 no b);let r:=(0=y.Q/\y.sl.length=0/\True);bd ((b.length:Int)>65536) (r/\2=J4 no b/\True) (∃(x:tR.ι),let q:=(S7 (X0 x) (4:Int));let v:=(↑(q.getD 1 (0:UInt8)).toNat:Int);let z:=(↑(q.getD 0 (0:UInt8)).toNat:Int);let p:=(T4 (Q3 (X0 x) (4:Int)) (false||big (X0 x) (4:Int)));let u:=(! p.fl&&p.l.isEmpty);((b=x/\True)/\v5 x)/\br (!R3 x) (r/\8=J4 no b/\True) (r8 (4:Int)/\lY (2:Int) q.length/\∃(d:a5A.ι),((List.drop 2 q=d/\True)/\mX d)/\((! u)=false->V3 (0:Int) q.length)/\((! u||z !=112)=false->V3 (1:Int) q.length)/\∃(X:xG.ι),((! u||z !=112||IntKind.i64.wrap v !=no)=false->(((↑(be d):Int)=X.Q/\(Z3 Z6 p.out X.sl)/\True)/\True)/\PgB X)/\br (! u||z !=112||IntKind.i64.wrap v !=no|| !j8 X) (r/\3=J4 no b/\True) (((↑(be d):Int)=y.Q/\(Z3 Z6 p.out y.sl)/\True)/\0=J4 no b/\True)))) ⟨λh=>?_,λ_=>⟨b,⟨Y1,Nat.le_trans B U4⟩,λh=>?_,λh=>⟨⟨Z9,Z9⟩,⟨Z9,a0l⟩,(S7 (X0 b) 4).drop 2,⟨Y1,by unfold mX;rw[List.length_drop,L];omega⟩,
  λ_=>⟨Z9,a0l⟩,λ_=>⟨Z9,a0l⟩,rpQ (X0 b),λ_=>⟨Y1,?_⟩,λg=>?_,λg=>?_⟩⟩⟩
 ·have:=B3 h;have B:b.length<=1000:=B;omega
 ·have hu:R3 b=false:=by simpa using h
  have e:(E8 no b).2=false:=by unfold E8;rw[hu];rfl
  have f:O2 no b=⟨0,[]⟩:=by unfold O2;rw[e];rfl
  have i:J4 no b=8:=by unfold J4;rw[hu];rfl
  rw[f,i];exact Y1
 ·show(T4 (Q3 (X0 b) 4) (false||big (X0 b) 4)).out.length<1000000000000;unfold T4;rw[uR];have:=r6 (Q3 (X0 b) 4);omega
 ·have hu:R3 b=true:=by simpa using h
  have q:=(a9E no b hu).1;have e:(E8 no b).2=false:=by
   have g:(nE no (X0 b)|| !j8 (rpQ (X0 b)))=true:=g;rw[g] at q;exact(wG _).mp q.symm
  have f:O2 no b=⟨0,[]⟩:=by unfold O2;rw[e];rfl
  have i:J4 no b=3:=by unfold J4;rw[hu,e];rfl
  rw[f,i];exact Y1
 ·have hu:R3 b=true:=by simpa using h
  have q:=a9E no b hu;have e:(E8 no b).2=true:=by
   have g:(nE no (X0 b)|| !j8 (rpQ (X0 b)))=false:=g;rw[g] at q;exact(yL _).mp q.1.symm
  have f:O2 no b=rpQ (X0 b):=by unfold O2;rw[e,q.2 e];rfl
  have i:J4 no b=0:=by unfold J4;rw[hu,e];rfl
  rw[f,i];exact Y1
open Go.SS Go.RowKit Go.Shelf Go.Proofs.Tryz
attribute [local go_sem] Oper.semAt_some
structure Pend where
 at_:Int
 d:Bz
 deriving Inhabited
def Pend.ts(p:Pend):List T:=[Ji p.at_,.str p.d]
def Pend.val(p:Pend):Value:=.agg #[.int .i64 p.at_,.string ⟨p.d.toArray⟩]
def uU{α:Type}(f:Nat->α)(k:Nat):List α:=(List.range k).map f
theorem oT{α:Type}(f:Nat->α)(k:Nat):uU f (k+1)=uU f k++[f k]:=by simp[uU,List.range_succ]
theorem a1i{α:Type}(f:Nat->α)(k:Nat):(uU f k).length=k:=by simp[uU]
def bwF(ps:Nat->Pend)(len j:Nat):Nat×Pend:=(len-1-j,ps (len-1-j))
def bwE(x:Nat×Pend):Array Value:= #[.int .i64 (x.1:Int),x.2.val]
def KpB(n Bs:Nat)(A B:World):Prop:=Below n A B/\∀v,A.cell? ⟨Bs,0,none⟩=some v->B.cell? ⟨Bs,0,none⟩=some v
theorem KpB.refl(n Bs:Nat)(A:World):KpB n Bs A A:=⟨Below.refl _ _,λ_ h=>h⟩
theorem KpB.trans{n Bs:Nat}{A B C:World}(h:KpB n Bs A B)(k:KpB n Bs B C):KpB n Bs A C:=⟨h.1.trans k.1,λv hv=>k.2 v (h.2 v hv)⟩
set_option maxHeartbeats 2000000 in
theorem c3H(F:Fence)(n:Nat)(h8:F.fn 200)(hro:F.round=none)(hn:1<=n)(l Bs n₀ b off len cap:Nat)(ps:Nat->Pend)(hreach:len<1000000000000)(hb:b<n₀)(J Jx:List (Nat×Pend)->World->Prop)
  (hY:∀pre x W,J pre W->pre.length<len->YieldAt F (n-1) prog l (bwE x) W λe W'=>
   (e= .returned (.bool true)/\J (pre++[x]) W'/\KpB n₀ Bs W W')∨(e= .returned (.bool false)/\Jx (pre++[x]) W'))
  (W:World) (hBs:W.cell? ⟨Bs,0,none⟩=some (.slice (some ⟨b,off,none⟩) len cap))
  (hc0:∀j,j<len->W.cell? ⟨b,off+j*2,none⟩=some (.int .i64 (ps j).at_)) (hc1:∀j,j<len->W.cell? ⟨b,off+j*2+1,none⟩=some (.string ⟨(ps j).d.toArray⟩)) (h0:J [] W):
  CallsIn F n prog 200 #[.func (.yield l) #[] #[],.pointer (some ⟨Bs,0,none⟩)] W λe W'=>(∃v,e= .returned v)/\
   ((∃ys,ys=uU (bwF ps len) len/\J ys W')∨(∃pre,(∃k,k<=len/\pre=uU (bwF ps len) k)/\Jx pre W')):=by
 refine callsIn_of_wp func200 rfl h8 ?_ hro
 simp only[Tryz.ntmps200,List.size_toArray,List.length_cons,List.length_nil,Nat.reduceAdd,Nat.reduceSub,Array.replicate_succ,Array.replicate_zero,List.push_toArray,List.append_toArray,List.nil_append,List.cons_append]
 gi_wp2
 gi_loopw [3] (λi wr=>∃k:Nat,k<=len/\i= .int .i64 ((len:Int)-1-k)/\J (uU (bwF ps len) k) wr/\KpB n₀ Bs W wr)
  (λi _=>(intOf i+1).toNat)
 case atStart=>exact⟨0,L8 _,W6,h0,KpB.refl _ _ _⟩
 case round=>
  obtain⟨k,hk,rfl,hJs,hnx⟩:=hrel;have hBx:wr.cell? ⟨Bs,0,none⟩=some (.slice (some ⟨b,off,none⟩) len cap):=hnx.2 _ hBs;by_cases hlt:k<len
  ·obtain⟨m,hm⟩:∃m,len=k+1+m:=⟨len-1-k,Z9⟩
   have hfk:bwF ps len k=(m,ps m):=by unfold bwF;rw[show len-1-k=m by omega]
   have e1:(len:Int)-1-k=(m:Int):=Z9
   rw[e1];have hm1:m<len:=Z9
   have hm2:len<=m+k+1:=Z9
   have hm3:m+k+1<=len:=Z9
   clear hm e1;have hx0:=(hnx.1.cell (p:=⟨b,off+m*2,none⟩) hb).trans (hc0 m Z9)
   have hx1:=(hnx.1.cell (p:=⟨b,off+m*2+1,none⟩) hb).trans (hc1 m Z9)
   obtain⟨fn,tmps,assign,body,hy,hR⟩:=hY _ (m,ps m) wr hJs (by rw[a1i];exact hlt)
   dsimp only[bwE,Pend.val] at hy
   gi_wp2
   refine hR.mono ?_
   rintro e W3 (⟨rfl,hJ3,hk3⟩|⟨rfl,hJx3⟩)
   ·gi_wp2
    go_roundw
    case rel=>exact⟨k+1,Z9,by congr 1;omega,by rw[oT,hfk];exact hJ3,hnx.trans hk3⟩
    case measure=>(simp[intOf]<;>omega)
   ·gi_wp2
    refine bodyPost_ret (results_none rfl _ _ _) rfl ?_
    exact⟨⟨_,rfl⟩,.inr ⟨_,⟨k+1,Z9,by rw[oT,hfk]⟩,hJx3⟩⟩
  ·obtain rfl:k=len:=by omega
   have e1:((k:Nat):Int)-1-k= -1:=Z9
   rw[e1]
   gi_wp2
   go_end0
   exact⟨⟨_,rfl⟩,.inl ⟨_,rfl,hJs⟩⟩
set_option maxHeartbeats 1000000 in
theorem a7S(F:Fence)(n:Nat)(h8:F.fn 200)(hro:F.round=none)(l Bs cap:Nat)(a:Option Addr)(J:List (Nat×Pend)->World->Prop)(W:World)(hBs:W.cell? ⟨Bs,0,none⟩=some (.slice a 0 cap))(h0:J [] W):
  CallsIn F n prog 200 #[.func (.yield l) #[] #[],.pointer (some ⟨Bs,0,none⟩)] W λe W'=>(∃v,e= .returned v)/\J [] W':=by
 refine callsIn_of_wp func200 rfl h8 ?_ hro
 simp only[Tryz.ntmps200,List.size_toArray,List.length_cons,List.length_nil,Nat.reduceAdd,Nat.reduceSub,Array.replicate_succ,Array.replicate_zero,List.push_toArray,List.append_toArray,List.nil_append,List.cons_append]
 gi_wp2
 gi_loopw [3] (λi wr=>i= .int .i64 (-1)/\J [] wr) (λ_ _=>0)
 case atStart=>exact⟨rfl,h0⟩
 case round=>
  obtain⟨rfl,hJs⟩:=hrel
  gi_wp2
  go_end0
  exact⟨⟨_,rfl⟩,hJs⟩
set_option maxHeartbeats 1000000 in
theorem c6g(F:Fence)(n:Nat)(h6:F.fn 132)(hro:F.round=none)(a:Option Addr)(len cap:Nat)(w:World):
  CallsIn F n prog 132 #[.slice a len cap] w λe w'=>e= .returned (.func (.func 200) #[] #[.pointer (some ⟨w.heap.size,0,none⟩)])/\w'=w.alloc (.cells #[.slice a len cap] 24):=by
 refine callsIn_of_wp func132 rfl h6 ?_ hro
 simp only[Tryz.ntmps132,List.size_toArray,List.length_cons,List.length_nil,Nat.reduceAdd,Nat.reduceSub,Array.replicate_succ,Array.replicate_zero,List.push_toArray,List.append_toArray,List.nil_append,List.cons_append]
 gi_wp2
 go_ret
 exact Y1
def yA(n:Nat)(W:World)(v:Value)(len:Nat)(ps:Nat->Pend):Prop:=
 (∃a cap,v= .slice a 0 cap/\len=0)∨∃b off cap,v= .slice (some ⟨b,off,none⟩) len cap/\b<n/\∀j,j<len->W.cell? ⟨b,off+j*2,none⟩=some (.int .i64 (ps j).at_)/\W.cell? ⟨b,off+j*2+1,none⟩=some (.string ⟨(ps j).d.toArray⟩)
theorem yA.below{n:Nat}{A B:World}(h:Below n A B){v:Value}{len:Nat}{ps:Nat->Pend}:yA n A v len ps->yA n B v len ps
 | .inl e=>.inl e
 | .inr ⟨b,off,cap,e,hb,hc⟩=>.inr ⟨b,off,cap,e,hb,λj J=>⟨(h.cell (p:=⟨b,off+j*2,none⟩) hb).trans (hc j J).1,(h.cell (p:=⟨b,off+j*2+1,none⟩) hb).trans (hc j J).2⟩⟩
theorem b4U(F:Fence)(n:Nat)(u:F.fn 200)(o:F.round=none)(x:1<=n)(Bs N:Nat)(v:Value)(len:Nat)(ps:Nat->Pend)(h:len<1000000000000)(w:World)(q:Bs<w.heap.size)(i:N<=w.heap.size)
  (C:w.cell? ⟨Bs,0,none⟩=some v) (I:yA N w v len ps):
  SeqStopsK F n prog 200 #[.pointer (some ⟨Bs,0,none⟩)] bwE (KpB N Bs) (λz=>z=uU (bwF ps len) len)
   (λpre=>∃k,k<=len/\pre=uU (bwF ps len) k) len w:=λl J Jx W t _ _ Y r=>by
 have d:=(t.cell (p:=⟨Bs,0,none⟩) q).trans C;rcases I.below (t.mono i) with⟨a,cap,rfl,rfl⟩|⟨b,off,cap,rfl,B,f⟩
 ·exact(a7S F n u o l Bs cap a J W d r).mono λe W' ⟨A,g⟩=>⟨A,.inl ⟨_,rfl,g⟩⟩
 ·exact c3H F n u o x l Bs N b off len cap ps h B J Jx Y W d (λj g=>(f j g).1) (λj g=>(f j g).2) r
theorem yA.mono{n N:Nat}{W:World}{v:Value}{len:Nat}{ps:Nat->Pend}(h:n<=N):yA n W v len ps->yA N W v len ps
 | .inl e=>.inl e
 | .inr ⟨b,off,cap,e,hb,hc⟩=>.inr ⟨b,off,cap,e,xC hb h,hc⟩
def cX(n:Nat)(W:World)(v:Value)(m:Nat)(L:List (Bz)):Prop:=∃b off cap,v= .slice (some ⟨b,off,none⟩) m cap/\b<n/\∀j,j<m->W.cell? ⟨b,off+j,none⟩=some (.string ⟨(L.getD j []).toArray⟩)
theorem cX.below{n:Nat}{A B:World}(h:Below n A B){v:Value}{m:Nat}{L:List (Bz)}:cX n A v m L->cX n B v m L:=
 λ⟨b,off,cap,e,hb,hc⟩=>⟨b,off,cap,e,hb,λj J=>(h.cell (p:=⟨b,off+j,none⟩) hb).trans (hc j J)⟩
theorem eV(w:World)(cs:Array Value)(t:TypeId)(j:Nat){v:Value}(h:cs[j]? =some v):(w.alloc (.cells cs t)).cell? ⟨w.heap.size,j,none⟩=some v:=by
 have:=World.alloc_heap_new w (.cells cs t);unfold World.cell?;simp only;rw[this];exact h
theorem vB{A:World}(o:Obj){p:Addr}{v:Value}(h:A.cell? p=some v):(A.alloc o).cell? p=some v:=cell_kept h (World.grownBy_alloc _ o none) (λr e=>by cases e)
theorem b0K{w:World}(cs:Array Value)(t:TypeId)(d O o:Obj)(j:Nat){v:Value}(h:cs[j]? =some v):
  ((((w.alloc (.cells cs t)).alloc d).alloc O).alloc o).cell? ⟨w.heap.size,j,none⟩=some v:=by
 exact vB _ (vB _ (vB _ (eV w cs t j h)))
set_option maxHeartbeats 4000000 in
theorem b9R(F:Fence)(n:Nat)(h3:F.fn 74)(h4:F.fn 132)(h5:F.fn 200)(hro:F.round=none)(hn:6<=n)(sec cache keep:Value)(armed:Bool)(at_:Nat)(m len:Nat)(L:List (Bz))(ps:Nat->Pend)(ca:Option Addr)(clen ccap:Nat)(w:World)
  (hcv:cache= .slice ca clen ccap) (hI:yA w.heap.size w cache len ps) (hS:cX w.heap.size w sec m L) (hreach:len<1000000000000) (hat:at_<m):
  CallsIn F n prog 74 #[.agg #[sec,cache,.bool armed,keep],.int .i64 at_] w λe W'=>
   ∃v,e= .returned v/\Below w.heap.size w W'/\((v= .string ⟨(L.getD at_ []).toArray⟩/\∀j,j<len->(ps j).at_≠at_)∨∃k,k<len/\v= .string ⟨(ps (len-1-k)).d.toArray⟩/\(ps (len-1-k)).at_=at_/\∀j,j<k->(ps (len-1-j)).at_≠at_):=by
 have h1:1<=n:=Z9
 subst hcv;refine callsIn_of_wp_marks func74 rfl h3 ?_ hro
 simp only[Tryz.ntmps74,List.size_toArray,List.length_cons,List.length_nil,Nat.reduceAdd,Nat.reduceSub,Array.replicate_succ,Array.replicate_zero,List.push_toArray,List.append_toArray,List.nil_append,List.cons_append]
 gi_wp2_with (gi_at_call 132;refine(c6g F (n-1) h4 hro _ _ _ _).mono ?_;rintro e w' ⟨rfl,rfl⟩)
 obtain⟨W0,hW0⟩:∃W0,(((w.alloc (.cells #[sec,.slice ca clen ccap,.bool armed,keep] 27)).alloc (.cells #[.int .i64 (at_:Int)] 3)).alloc (.cells #[.string ⟨#[]⟩] 9)).alloc (.cells #[.slice ca clen ccap] 24)=W0:=⟨_,rfl⟩;have bD:W0.cell? ⟨w.heap.size,0,none⟩=some sec:=by rw[←hW0];exact b0K _ _ _ _ _ 0 rfl
 have bA:Boxed W0 (w.heap.size+1) 3 (.int .i64 (at_:Int)):=by
  have:=((Boxed.new (w.alloc (.cells #[sec,.slice ca clen ccap,.bool armed,keep] 27)) 3 (.int .i64 (at_:Int))).alloc (.cells #[.string ⟨#[]⟩] 9)).alloc (.cells #[.slice ca clen ccap] 24);rw[←hW0]
  simpa only[World.size_alloc] using this
 have bR:Boxed W0 (w.heap.size+1+1) 9 (.string ⟨#[]⟩):=by
  have:=(Boxed.new ((w.alloc (.cells #[sec,.slice ca clen ccap,.bool armed,keep] 27)).alloc (.cells #[.int .i64 (at_:Int)] 3)) 9 (.string ⟨#[]⟩)).alloc (.cells #[.slice ca clen ccap] 24);rw[←hW0]
  simpa only[World.size_alloc] using this
 have bN:Boxed W0 (w.heap.size+1+1+1) 24 (.slice ca clen ccap):=by
  have:=Boxed.new (((w.alloc (.cells #[sec,.slice ca clen ccap,.bool armed,keep] 27)).alloc (.cells #[.int .i64 (at_:Int)] 3)).alloc (.cells #[.string ⟨#[]⟩] 9)) 24 (.slice ca clen ccap);rw[←hW0]
  simpa only[World.size_alloc] using this
 have hB0:Below w.heap.size w W0:=by
  rw[←hW0];exact((((Below.refl _ w).alloc (U9 _) _).alloc W6 _).alloc E3 _).alloc E3 _
 have hsz:W0.heap.size=w.heap.size+4:=by rw[←hW0];simp
 rw[hW0];have kpB_b:∀(W:World) (l:Nat) (o o':Obj),W0.heap.size<=l->W.heap[l]? =some o->o.isCells=false->o.isWalk=false->KpB w.heap.size (w.heap.size+1+1+1) W (W.putObj l o'):=λW l o o' hl ho hc hk=>
  ⟨belowK_b (w:=w) (U9 _) W l o o' Z9 ho hc hk,λv hv=>cell_kept hv (grownBy_putObj' _ l o') (λr e=>by cases e;exact⟨_,ho,hc⟩)⟩
 refine wpIn_rangeFunc_ownH hro h1 (gf:=200) (lb:= #[.pointer (some ⟨w.heap.size+1+1+1,0,none⟩)]) rfl h5 (enters_of func200 J1 rfl)
  (b4U F (n-1) h5 hro Z9 (w.heap.size+1+1+1) w.heap.size _ len ps hreach W0 Z9 Z9 bN.cell (hI.below hB0)) KpB.trans kpB_b (Below.refl _ _) (λ_=>rfl)
  (λpre W=>(((∀x ∈ pre,x.2.at_≠(at_:Int))/\Boxed W (w.heap.size+1+1) 9 (.string ⟨#[]⟩))/\(Boxed W (w.heap.size+1) 3 (.int .i64 (at_:Int))/\W.cell? ⟨w.heap.size,0,none⟩=some sec))/\Below w.heap.size w W)
  (λc pre W=>((c= .ret/\∃ini last,pre=ini++[last]/\(∀p ∈ ini,p.2.at_≠(at_:Int))/\last.2.at_=(at_:Int)/\W.cell? ⟨w.heap.size+1+1,0,none⟩=some (.string ⟨last.2.d.toArray⟩)))/\Below w.heap.size w W)
  (OwnFrom.and (OwnFrom.and (OwnFrom.and (ownFrom_pure _ _) (Own.from (boxed_own _ _ _) _)) (OwnFrom.and (Own.from (boxed_own _ _ _) _) (Own.from (λs A B row hs hg hr=>cell_kept hs hg hr) _))) (ownFrom_below (U9 _) Z9))
  (λc=>OwnFrom.and (Own.from (λs A B row hs hg hr=>by obtain⟨hc,ini,last,e1,e2,e3,e4⟩:=hs;exact⟨hc,ini,last,e1,e2,e3,cell_kept e4 hg hr⟩) _) (ownFrom_below (U9 _) Z9))
  ⟨⟨⟨W6,bR⟩,⟨bA,bD⟩⟩,hB0⟩
  (λx a' W=>∃Bx,w.heap.size+1+1<Bx/\(W.cell? ⟨Bx,0,none⟩=some (.int .i64 x.2.at_)/\W.cell? ⟨Bx,1,none⟩=some (.string ⟨x.2.d.toArray⟩))/\a'={tmps:= #[.agg #[sec,.slice ca clen ccap,.bool armed,keep],.int .i64 (at_:Int),.pointer (some ⟨w.heap.size,0,none⟩),.pointer (some ⟨w.heap.size+1,0,none⟩),.pointer (some ⟨w.heap.size+1+1,0,none⟩),undef,.pointer (some ⟨Bx,0,none⟩),.pointer (some ⟨w.heap.size,1,none⟩),.slice ca clen ccap,.func (.func 200) #[] #[.pointer (some ⟨w.heap.size+1+1+1,0,none⟩)],.int .i64 (x.1:Int),x.2.val,undef,undef,undef,undef,undef,undef,undef,undef,undef,undef,undef],defers:=[]})
  (λx a' _ X Y row hs hg hr=>by obtain⟨Bx,e1,⟨e2,e4⟩,e3⟩:=hs;exact⟨Bx,e1,⟨cell_kept e2 hg (λr e=>(hr r e).2),cell_kept e4 hg (λr e=>(hr r e).2)⟩,e3⟩)
  ?assign ?body ?done ?stop
 case assign=>
  rintro l pre x W K ⟨⟨⟨hp,bR1⟩,bA1,bD1⟩,hB1⟩ hK;dsimp only[bwE,Pend.val]
  gi_wp2
  exact hK _ _ ((KeepsOthers.alloc _ _).from _) ⟨(Below.refl _ W).alloc hB1.size _,λv hv=>vB _ hv⟩ ⟨⟨⟨hp,bR1.alloc _⟩,bA1.alloc _,vB _ bD1⟩,hB1.alloc hB1.size _⟩ ⟨W.heap.size,bR1.lt,⟨eV _ _ _ 0 rfl,eV _ _ _ 1 rfl⟩,rfl⟩
 case body=>
  rintro l pre x a' W hl ⟨r,hr⟩ ⟨⟨⟨hp,bR1⟩,bA1,bD1⟩,hB1⟩ ⟨Bx,hBx,⟨e2,e4⟩,rfl⟩ hlt;have cA:=bA1.cell;have cR:=bR1.cell;have fR:=bR1.frozen
  gi_wp2
  ·rename_i hx;have hx:x.2.at_=(at_:Int):=by simpa using hx
   exact⟨(KeepsOthers.setCell _ _ _).from _,⟨rfl,pre,x,rfl,hp,hx,(bR1.set _).cell⟩,hB1.setCell (p:=⟨w.heap.size+1+1,0,none⟩) E3 _⟩
  ·rename_i hx;have hx:x.2.at_≠(at_:Int):=by simpa using hx
   exact⟨KeepsFrom.refl _ _,KpB.refl _ _ _,⟨⟨⟨λp hp'=>(List.mem_append.1 hp').elim (hp p) (λe=>by simp at e;subst e;exact hx),bR1⟩,bA1,bD1⟩,hB1⟩⟩
 case done=>
  rintro D ys W hD rfl ⟨⟨⟨hp,bR1⟩,bA1,bD1⟩,hB1⟩ hK;have cA:=bA1.cell;have cR:=bR1.cell;have fR:=bR1.frozen;obtain⟨sb,so,sc,rfl,hsb,hsc⟩:=hS;have cS:W.cell? ⟨sb,so+at_,none⟩=some (.string ⟨(L.getD at_ []).toArray⟩):=(hB1.cell (p:=⟨sb,so+at_,none⟩) hsb).trans (hsc at_ hat);have hg:(L.getD at_ []:Bz)=L[at_]?.getD []:=Q8
  rw[hg] at cS
  gi_wp2
  have hK':=(KeepsOthers.setCell W ⟨w.heap.size+1+1,0,none⟩ (.string ⟨(L[at_]?.getD []).toArray⟩)).same D _ hK rfl;refine⟨W6,.inl ⟨_,_,rfl,run_takeDeferred hK',?_⟩⟩
  have hc5:=cell_kept (bR1.set (.string ⟨(L[at_]?.getD []).toArray⟩)).cell (grownBy_putObj' _ D (.deferred none)) (λr e=>by cases e;exact⟨_,hK',rfl⟩)
  refine⟨.string ⟨(L[at_]?.getD []).toArray⟩,?_,_,rfl,(hB1.setCell (p:=⟨w.heap.size+1+1,0,none⟩) E3 _).trans (belowK_b (w:=w) (U9 _) _ D _ _ Z9 hK' rfl rfl),.inl ⟨rfl,λj hj=>?_⟩⟩
  ·simp[results,Tryz.f74,go_sem,hc5]
  ·have:=hp (bwF ps len (len-1-j)) (by simp only[uU,List.mem_map,List.mem_range];exact⟨len-1-j,Z9,rfl⟩)
   unfold bwF at this;rw[show len-1- (len-1-j)=j by omega] at this
   exact this
 case stop=>
  rintro D c pre W hD ⟨k,hk,rfl⟩ ⟨⟨rfl,ini,last,e1,e2,e3,hcr⟩,hB1⟩ hK
  gi_wp2
  refine⟨W6,.inl ⟨_,_,rfl,run_takeDeferred hK,?_⟩⟩
  have hc5:=cell_kept hcr (grownBy_putObj' _ D (.deferred none)) (λr e=>by cases e;exact⟨_,hK,rfl⟩)
  obtain⟨k',rfl⟩:∃k',k=k'+1:=by
   cases k with
   |zero=>simp[uU] at e1
   |succ k'=>exact⟨k',rfl⟩
  rw[oT] at e1;obtain⟨rfl,e5⟩:=List.append_inj' e1 rfl;obtain rfl:bwF ps len k'=last:=by simpa using e5
  refine⟨.string ⟨(bwF ps len k').2.d.toArray⟩,?_,_,rfl,hB1.trans (belowK_b (w:=w) (U9 _) W D _ _ Z9 hK rfl rfl),.inr ⟨k',Z9,rfl,e3,λj hj=>e2 (bwF ps len j) (by simp only[uU,List.mem_map,List.mem_range];exact⟨j,hj,rfl⟩)⟩⟩
  simp[results,Tryz.f74,go_sem,hc5]
structure Dsk where
 E:List (Bz)
 C:List Pend
 A:Bool
 keep:List Int
 deriving Inhabited
def Z2(L:List Pend)(i:Nat):List T:=(L.getD i dz).ts
def qA(L:List Pend):T:=.sl 2 L.length (Z2 L)
def Z0(L:List Int)(i:Nat):List T:=[Ji (L.getD i 0)]
def aX(L:List Int):T:=.sl 1 L.length (Z0 L)
def Dsk.ts(d:Dsk):List T:=[yC d.E,qA d.C,.bool d.A,aX d.keep]
abbrev zA(a b:Dsk):Prop:=Z3 Z6 a.E b.E/\Z3 Z2 a.C b.C/\a.A=b.A/\Z3 Z0 a.keep b.keep/\True
theorem eqD(d:Dsk):zA d d:=Y1
def I3(L:List Pend)(at_:Int):Nat->Option (Bz)
 |0=>none
 |n+1=>if(L.getD n dz).at_=at_ then some (L.getD n dz).d else I3 L at_ n
theorem jZ{L:List Pend}{at_:Int}:∀{n:Nat},(∀j,j<n->(L.getD j dz).at_≠at_)->I3 L at_ n=none
 |0,_=>rfl
 |n+1,h=>by
  unfold I3;rw[if_neg (h n (Nat.lt_succ_self n))];exact jZ λj J=>h j Z9
theorem jR{L:List Pend}{at_:Int}{i:Nat}(h:(L.getD i dz).at_=at_):∀{n:Nat},i<n->(∀j,i<j->j<n->(L.getD j dz).at_≠at_)->I3 L at_ n=some (L.getD i dz).d
 |0,hi,_=>absurd hi (J2 i)
 |n+1,hi,hj=>by
  unfold I3;by_cases e:i=n
  ·subst e;rw[if_pos h]
  ·rw[if_neg (hj n Z9 (Nat.lt_succ_self n))]
   exact jR h Z9 λj f g=>hj j f Z9
def U1(d:Dsk)(at_:Nat):Bz:=(I3 d.C at_ d.C.length).getD (d.E.getD at_ [])
def AtB(x:Dsk×Nat):Prop:=x.2<x.1.E.length/\x.1.C.length<1000000000000
def oO:Rl:=⟨Dsk×Nat,λx=>[.agg x.1.ts,Ji x.2],λx=>.str (U1 x.1 x.2),AtB⟩
def b9v:Con:=.rel oO
theorem aG{E:Env}{w:World}{sz n:Nat}{row:Nat->List T}{v:Value}(h:Rd E w (.sl sz n row) v):(∃a,v= .slice a 0 0/\n=0)∨(∃(b off cap:Nat) (u:Nat->Nat->Value),v= .slice (some ⟨b,off,none⟩) n cap/\E.N b/\
  (∀i j t,i<n->(row i)[j]? =some t->w.cell? ⟨b,off+i*sz+j,none⟩=some (u i j)/\Rd E w t (u i j))):=by
 cases h with
 |slNil=>exact .inl ⟨_,Y1⟩
 |slEmp=>exact .inl ⟨_,Y1⟩
 |sl _ _ _ b off cap u e C l f r d=>exact .inr ⟨b,off,cap,u,rfl,e,λi j t hi J=>⟨r i j t hi J,d i j t hi J⟩⟩
theorem gL{E:Env}{w:World}{l:Bz}{v:Value}(h:Rd E w (.str l) v):v= .string ⟨l.toArray⟩:=by cases h;rfl
theorem tS{E:Env}{w:World}{k:IntKind}{n:Int}{v:Value}(h:Rd E w (.int k n) v):v= .int k n:=by cases h;rfl
theorem a3r{E:Env}{w:World}{b:Bool}{v:Value}(h:Rd E w (.bool b) v):v= .bool b:=by cases h;rfl
theorem a7Q{E:Env}{w:World}{cs:List T}{v:Value}(h:Rd E w (.agg cs) v):∃vs,v= .agg vs/\tN E w cs vs:=by
 cases h with
 |agg _ vs l t=>exact⟨vs,rfl,l,t⟩
theorem b88{E:Env}{w:World}{L:List (Bz)}{v:Value}(hE:∀b,E.N b->b<w.heap.size)(h:Rd E w (yC L) v)(n:0<L.length):cX w.heap.size w v L.length L:=by
 rcases aG h with⟨a,_,f⟩|⟨b,off,cap,u,rfl,hN,U⟩
 ·omega
 ·refine⟨b,off,cap,rfl,hE b hN,λj hj=>?_⟩
  obtain⟨d,e⟩:=U j 0 (.str (L.getD j [])) hj rfl;rw[gL e] at d
  simpa using d
theorem b55{E:Env}{w:World}{L:List Pend}{v:Value}(hE:∀b,E.N b->b<w.heap.size)(h:Rd E w (qA L) v):yA w.heap.size w v L.length (λi=>L.getD i dz)/\∃a l c,v= .slice a l c:=by
 rcases aG h with⟨a,rfl,g⟩|⟨b,off,cap,u,rfl,hN,U⟩
 ·exact⟨.inl ⟨a,0,rfl,g⟩,_,_,_,rfl⟩
 ·refine⟨.inr ⟨b,off,cap,rfl,hE b hN,λj hj=>⟨?_,?_⟩⟩,_,_,_,rfl⟩
  ·obtain⟨e,f⟩:=U j 0 (.int .i64 (L.getD j dz).at_) hj rfl;rw[tS f] at e;exact e
  ·obtain⟨e,f⟩:=U j 1 (.str (L.getD j dz).d) hj rfl;rw[gL f] at e;exact e
theorem dM:GK 74 b9v:=gk func74<|by
 rintro⟨d,at_⟩ ⟨t,h⟩;simp only at t h;intro E w vs M x hv;obtain⟨z,hv⟩:=hv;obtain⟨q,V,rfl⟩:∃q V,vs= #[q,V]:=by
  have h2:vs.size=2:=z.symm;exact⟨vs[0],vs[1],by apply Array.ext<;>simp[h2];intro i hi _;match i,hi with|0,_=>rfl|1,_=>rfl⟩
 obtain⟨cs,rfl,u,r⟩:=a7Q (hv 0 (.agg d.ts) q rfl rfl);obtain rfl:=tS (hv 1 (.int .i64 at_) V rfl rfl);obtain⟨f,C,c2,o,rfl⟩:∃f C c2 o,cs= #[f,C,c2,o]:=by
  have h2:cs.size=4:=u.symm;exact⟨cs[0],cs[1],cs[2],cs[3],by apply Array.ext<;>simp[h2];intro i hi _;match i,hi with|0,_=>rfl|1,_=>rfl|2,_=>rfl|3,_=>rfl⟩
 have I:=b88 x (r 0 (yC d.E) f rfl rfl) Z9
 obtain⟨F,a,l,c,g⟩:=b55 x (r 1 (qA d.C) C rfl rfl);obtain rfl:=a3r (r 2 (.bool d.A) c2 rfl rfl);refine(callsIn_wide (n:=6)).1 ((b9R Fence.wide 6 trivial trivial trivial rfl (U9 _) f C o d.A at_ d.E.length d.C.length d.E (λi=>d.C.getD i dz) a l c w g F I h t).mono λe W' A=>?_)
 obtain⟨v,rfl,B,R⟩:=A;refine⟨v,rfl,B,?_⟩
 have:v= .string ⟨(U1 d at_).toArray⟩:=by
  rcases R with⟨rfl,J⟩|⟨k,L,rfl,h1,h2⟩
  ·unfold U1;rw[jZ J];rfl
  ·unfold U1;rw[jR (i:=d.C.length-1-k) h1 Z9 λj hj1 hj2=>?_]
   ·rfl
   ·have:=h2 (d.C.length-1-j) Z9
    rw[show d.C.length-1- (d.C.length-1-j)=j by omega] at this
    exact this
 rw[this];exact .str _
def O4(m:Nat)(p:Pend):Bool:= !V8 p.at_ 0 ((m:Int)-1)||decide ((p.d.length:Int)>160)
def H9(d:Dsk):Prop:=1<=d.E.length/\d.E.length<=100/\d.C.length<=500/\d.keep.length<=500/\(d.A=false->d.keep.length=0)/\(∀i,i<d.E.length->(d.E.getD i []).length<=160)/\
 ∀i,i<d.C.length->O4 d.E.length (d.C.getD i dz)=false
noncomputable instance(d:Dsk):Decidable (H9 d):=Classical.propDecidable _
def yP(d:Dsk):Bool:=decide (H9 d)
theorem kO(d:Dsk):yP d=true↔H9 d:=decide_eq_true_iff
theorem a1O{d:Dsk}(h:¬H9 d):false=yP d:=(tH h).symm
def c0j(d:Dsk):Prop:=M3 d.E.length/\M3 d.C.length/\M3 d.keep.length
def c2E(d:Dsk):T:=.fn (.func 165) [.bref d.ts]
def a0O:Rl:=⟨Dsk×Pend,λx=>[.agg x.2.ts,.bref x.1.ts],λx=>.bool (O4 x.1.E.length x.2),λx=>M3 x.1.E.length⟩
def b1x:Con:=.rel a0O
theorem a70:GK 165 b1x:=gk func165<|by
 rintro⟨d,p⟩ (h:d.E.length<1000000000000);refine R1 (gC tV gN) func165 Y5 (α:=let q:=(d.E.length:Int);o4 q/\(!(decide (0<=p.at_)&&decide (p.at_<q))||decide ((p.d.length:Int)>160))=O4 d.E.length p) ⟨⟨Z9,Z9⟩,?_⟩
 unfold O4 V8;rw[show decide (p.at_<(d.E.length:Int))=decide (p.at_<=(d.E.length:Int)-1) from decide_eq_decide.2 Z9]
theorem T3{ρ:Nat->Option Nat}(cs:List T):K4 ρ (.bref cs) (.bref cs):=⟨1,_,rfl,RLe.refl _⟩
def aA:Rl:=⟨List Pend×Dsk,λx=>[qA x.1,c2E x.2],λx=>Ji (S5 x.1.length λi=>O4 x.2.E.length (x.1.getD i dz)),λx=>M3 x.1.length/\M3 x.2.E.length⟩
def b29:Con:=.rel aA
def b2k(L:List Pend)(d:Dsk):Nat->Ann
 |0=>.one (V2 L.length λi=>O4 d.E.length (L.getD i dz)) (λx=>⟨[(0,qA L),(1,c2E d),(7,Ji L.length),(8,Ji x.1)],[]⟩) (λx=>L.length-x.1) [] [] (λ_=>Y5)
 |_=>.none
theorem a7A:GK 220 b29:=gk func220<|by
 rintro⟨L,d⟩ ⟨f,hd⟩;have f:L.length<1000000000000:=f;refine R1 (gC a70 gN) func220 (b2k L d) (α:=let r:=(L.length:Int);let p:=(T.bref [T.sl 1 d.E.length (Z6 d.E),T.sl 2 d.C.length (Z2 d.C),T.bool d.A,T.sl 1 d.keep.length (Z0 d.keep)]);(∃(x:V2 L.length λ(i:Nat)=>O4 d.E.length (L.getD i dz)),((Z3 Z2 L L)/\(Fn.func 165=Fn.func 165/\K4 (λ(x:Nat)=>none) p p/\True)/\r=r/\0=(x.1:Int)/\True)/\True)/\∀(x:V2 L.length λ(i:Nat)=>O4 d.E.length (L.getD i dz)),let q:=(x.1:Int);let z:=(L.getD q.toNat dz);bd (q<r) (V3 q L.length/\∃(X:a0O.ι),(((z.at_=X.2.at_/\z.d=X.2.d/\True)/\(zA d X.1)/\True)/\M3 X.1.E.length)/\br (O4 X.1.E.length X.2) (q=S5 L.length λ(i:Nat)=>O4 d.E.length (L.getD i dz)) (Ri (q+1)/\∃(y:V2 L.length λ(i:Nat)=>O4 d.E.length (L.getD i dz)),(((Z3 Z2 L L)/\(Fn.func 165=Fn.func 165/\K4 (λ(x:Nat)=>none) p p/\True)/\r=r/\q+1=(y.1:Int)/\True)/\True)/\Lt (L.length-y.1) (L.length-x.1))) ((-1:Int)=S5 L.length λ(i:Nat)=>O4 d.E.length (L.getD i dz))) ⟨⟨E7,⟨Y1,⟨rfl,T3 _,Z5⟩,Y1⟩,Z5⟩,λx=>⟨λC=>?_,λC=>?_⟩⟩
 ·have h:=Y0 C;refine⟨X9 h,(d,L.getD x.1 dz),⟨Y1,hd⟩,λhp=>(O8 h hp x.2.2).symm,λhp=>⟨V4 h Z9,x.succ h hp,⟨⟨Y1,⟨rfl,T3 _,Z5⟩,rfl,J0,Z5⟩,Z5⟩,V2.ext_lt h⟩⟩
 ·have e:=X3 C;exact(L5 λj J=>x.2.2 j (xC J e)).symm
def aT:Rl:=⟨List Pend×Dsk,λx=>[qA x.1,c2E x.2],λx=>.bool (anyI x.1.length λi=>O4 x.2.E.length (x.1.getD i dz)),λx=>M3 x.1.length/\M3 x.2.E.length⟩
def b1m:Con:=.rel aT
theorem a6m:GK 164 b1m:=gk func164<|by
 rintro⟨L,d⟩ h;exact R1 (gC a7A gN) func164 Y5 (α:=∃(x:aA.ι),(((Z3 Z2 L x.1)/\(Fn.func 165=Fn.func 165/\(zA d x.2)/\True)/\True)/\M3 x.1.length/\M3 x.2.E.length)/\decide ((S5 x.1.length λ(i:Nat)=>O4 x.2.E.length (x.1.getD i dz))≥(0:Int))=anyI L.length λ(i:Nat)=>O4 d.E.length (L.getD i dz)) ⟨(L,d),⟨⟨Y1,⟨rfl,(eqD _),Z5⟩,Z5⟩,h⟩,C5 _ _⟩
def mW:Rl:=⟨Dsk,λd=>[.agg d.ts],λd=>.bool (yP d),c0j⟩
def b1n:Con:=.rel mW
def b2a:Con:=.rel mW
def oN(d:Dsk):Option Ob:=some (.arr true 1000000 4 1 λ_=>d.ts)
def b0E(d:Dsk):Nat->Ann
 |0=>.one (V2 d.E.length λi=>L3 false (d.E.getD i [])) (λx=>⟨[(1,.ref 0 0 0),(3,Ji d.E.length),(4,Ji x.1)],[oN d]⟩) (λx=>d.E.length-x.1) [.box 0] [.box 0] (λ_=>fun
  |1=>.one (V2 d.C.length λi=>O4 d.E.length (d.C.getD i dz)) (λy=>⟨[(1,.ref 0 0 0),(3,Ji d.E.length),(5,Ji y.1)],[oN d]⟩) (λy=>d.C.length-y.1) [.box 0] [.box 0] (λ_=>Y5)
  |_=>.none)
 |_=>.none
def b2E:Con:=.rel oO
def a1G(d:Dsk)(at_:Nat):Type:={i:Nat//i<=d.C.length/\I3 d.C at_ d.C.length=I3 d.C at_ i}
def b0J(d:Dsk)(at_:Nat):Nat->Ann
 |0=>.one (a1G d at_) (λx=>⟨[(1,Ji at_),(2,.ref 0 0 0),(5,Ji ((x.1:Int)-1))],[oN d]⟩) (λx=>x.1) [.box 0] [.box 0] (λ_=>Y5)
 |_=>.none
theorem a7w:GK 98 b1n:=gk func98<|by
 rintro(d:Dsk) ⟨e,f,h3⟩;have e:d.E.length<1000000000000:=e;have f:d.C.length<1000000000000:=f;refine R1 (gC P1 (gC aI (gC a6m gN))) func98 Y5 (α:=br (!V8 (d.E.length:Int) (1:Int) (100:Int)||decide ((d.C.length:Int)>500)||decide ((d.keep.length:Int)>500)|| !d.A&&decide ((d.keep.length:Int)>0)) (false=yP d) (∃(x:dJ.ι),(((Z3 Z6 d.E x.1)/\Value.func (Fn.func 163) #[] #[]=Value.func (Fn.func (match x.2 with|true=>223|false=>163)) #[] #[]/\True)/\M3 x.1.length)/\∃(X:aT.ι),((!anyI x.1.length λ(i:Nat)=>L3 x.2 (x.1.getD i []))=true->((Z3 Z2 d.C X.1)/\(Fn.func 165=Fn.func 165/\(zA d X.2)/\True)/\True)/\M3 X.1.length/\M3 X.2.E.length)/\((!anyI x.1.length λ(i:Nat)=>L3 x.2 (x.1.getD i []))&& !anyI X.1.length λ(i:Nat)=>O4 X.2.E.length (X.1.getD i dz))=yP d)) ⟨λh=>a1O ?_,λh=>⟨(d.E,false),⟨Y1,e⟩,(d.C,d),λ_=>⟨⟨Y1,⟨rfl,(eqD _),Z5⟩,Z5⟩,f,e⟩,?_⟩⟩
 ·rintro⟨p1,p2,p3,p4,p5,_⟩;simp[V8] at h;cases ha:d.A with
  |true=>simp[ha] at h;omega
  |false=>simp[ha] at h;have:=p5 ha;omega
 ·simp[V8] at h;rw[Bool.eq_iff_iff,kO];show((!anyI d.E.length λi=>L3 false (d.E.getD i []))&& !anyI d.C.length λi=>O4 d.E.length (d.C.getD i dz))=true↔H9 d
  simp only[M1,wG,P8];constructor
  ·rintro⟨q,Q⟩;exact⟨Z9,Z9,Z9,Z9,λha=>by have:=h.2 ha;simp[this],λi hi=>fI.1 (q i hi),Q⟩
  ·rintro⟨_,_,_,_,_,q,Q⟩;exact⟨λi hi=>fI.2 (q i hi),Q⟩
theorem a8h:GK 149 b2a:=gk func149<|by
 rintro(d:Dsk) ⟨f,e,h3⟩;have f:d.E.length<1000000000000:=f;have e:d.C.length<1000000000000:=e;refine R1 (gC C0 gN) func149 (b0E d) (α:=let k:=(d.C.length:Int);let j:=(d.keep.length:Int);let v:=(false=yP d);let u:=(0=0/\0=0);let z:=(oo (zA d d));let p:=(d.E.length:Int);br (!V8 p (1:Int) (100:Int)||decide (k>500)||decide (j>500)|| !d.A&&decide (j>0)) v ((∃(x:V2 d.E.length λ(i:Nat)=>L3 false (d.E.getD i [])),(u/\p=p/\0=(x.1:Int)/\True)/\z/\True)/\∀(x:V2 d.E.length λ(i:Nat)=>L3 false (d.E.getD i [])),let r:=(x.1:Int);bd (r<p) (V3 r d.E.length/\bd ((↑(d.E.getD r.toNat []).length:Int)>160) v (Ri (r+1)/\∃(y:V2 d.E.length λ(i:Nat)=>L3 false (d.E.getD i [])),((u/\p=p/\r+1=(y.1:Int)/\True)/\z/\True)/\Lt (d.E.length-y.1) (d.E.length-x.1))) ((∃(x:V2 d.C.length λ(i:Nat)=>O4 d.E.length (d.C.getD i dz)),(u/\p=p/\0=(x.1:Int)/\True)/\z/\True)/\∀(x:V2 d.C.length λ(i:Nat)=>O4 d.E.length (d.C.getD i dz)),let q:=(x.1:Int);let w:=(d.C.getD q.toNat dz);bd (q<k) (V3 q d.C.length/\Ri (p-1)/\br (!V8 w.at_ (0:Int) (p-1)||decide ((↑w.d.length:Int)>160)) v (Ri (q+1)/\∃(y:V2 d.C.length λ(i:Nat)=>O4 d.E.length (d.C.getD i dz)),((u/\p=p/\q+1=(y.1:Int)/\True)/\z/\True)/\Lt (d.C.length-y.1) (d.C.length-x.1))) (true=yP d)))) ⟨λh=>a1O ?_,λh=>⟨⟨E7,Y1⟩,λx=>⟨λhc=>?_,λhc=>⟨⟨E7,Y1⟩,λy=>⟨λhd=>?_,λhd=>?_⟩⟩⟩⟩⟩
 ·rintro⟨p1,p2,p3,p4,p5,_⟩;simp[V8] at h;cases ha:d.A with
  |true=>simp[ha] at h;omega
  |false=>simp[ha] at h;have:=p5 ha;omega
 ·have hlt:=Y0 hc;refine⟨X9 hlt,λhb=>a1O ?_,λhb=>⟨V4 hlt Z9,x.succ hlt hb,Y1,V2.ext_lt hlt⟩⟩
  rintro⟨_,_,_,_,_,q,_⟩;have:=q x.1 hlt;rw[C8,g7] at hb;omega
 ·have hlt:=Y0 hd;refine⟨X9 hlt,Z1 Z9,λhb=>a1O ?_,λhb=>⟨V4 hlt Z9,y.succ hlt hb,⟨⟨Y1,rfl,J0,Z5⟩,Y1⟩,V2.ext_lt hlt⟩⟩
  rintro⟨_,_,_,_,_,_,Q⟩;have:=Q y.1 hlt;rw[C8] at hb;unfold O4 at this;rw[hb] at this;cases this
 ·simp[V8] at h;have g:=X3 hc;have j:=X3 hd;refine((kO d).2 ⟨Z9,Z9,Z9,Z9,λha=>by have:=h.2 ha;simp[this],λi hi=>fI.1 (x.2.2 i (xC hi g)),λi hi=>y.2.2 i (xC hi j)⟩).symm
theorem dN:GK 208 b2E:=gk func208<|by
 rintro⟨d,at_⟩ ⟨t,h⟩;simp only at t h;refine R1 gN func208 (b0J d at_) (α:=let z:=(d.C.length:Int);let q:=(at_:Int);Ri (z-1)/\(∃(x:a1G d at_),(q=q/\(0=0/\0=0)/\z-1=(x.1:Int)-1/\True)/\(oo (zA d d))/\True)/\∀(x:a1G d at_),let p:=(x.1:Int);let r:=(d.C.getD (p-1).toNat dz);bd (p-1≥(0:Int)) (V3 (p-1) d.C.length/\br (r.at_==q) (V3 (p-1) d.C.length/\r.d=U1 d at_) (Ri (p-1-1)/\∃(y:a1G d at_),((q=q/\(0=0/\0=0)/\p-1-1=(y.1:Int)-1/\True)/\(oo (zA d d))/\True)/\Lt y.1 x.1)) (V3 q d.E.length/\d.E.getD q.toNat []=U1 d at_)) ⟨Z1 Z9,⟨⟨d.C.length,Y1⟩,Y1⟩,λx=>?_⟩
 obtain⟨i,hi,X⟩:=x;simp only;refine⟨λhc=>?_,λhc=>⟨⟨Z9,Z9⟩,?_⟩⟩
 ·have hpos:1<=i:=by have:=B3 hc;omega
  obtain⟨j,rfl⟩:∃j,i=j+1:=⟨i-1,Z9⟩
  rw[show(((j+1:Nat):Int)-1).toNat=j by omega]
  have hl:I3 d.C at_ (j+1)=if(d.C.getD j dz).at_=at_ then some (d.C.getD j dz).d else I3 d.C at_ j:=rfl
  refine⟨⟨Z9,Z9⟩,λhb=>⟨⟨Z9,Z9⟩,?_⟩,λhb=>⟨Z1 Z9,⟨j,Z9,?_⟩,⟨⟨x1,⟨x1,x1⟩,D9,Z5⟩,⟨x1,x1,⟨x1,W2 _ _⟩,⟨x1,W2 _ _⟩,x1,⟨x1,W2 _ _⟩,Z5⟩,Z5⟩,mY⟩⟩
  ·rw[if_pos a0P] at hl
   unfold U1;rw[X,hl];rfl
  ·rw[if_neg a0P] at hl
   rw[X,hl]
 ·have h0:i=0:=by have:=k5 hc;omega
  subst h0;unfold U1;rw[X];rfl
structure Frm where
 no:Int
 pg:Pg
 D:Bool
 first:Int
 deriving Inhabited
def Frm.ts(f:Frm):List T:=[Ji f.no,Ji f.pg.Q,yC f.pg.sl,.bool f.D,Ji f.first]
structure Sto where
 d:Dsk
 ep:Int
 L:List Rec
 S:Int
 fr:List Frm
 J:Int
 deriving Inhabited
def X2(L:List Frm)(i:Nat):List T:=(L.getD i dz).ts
def a6h(L:List Frm):T:=.sl 5 L.length (X2 L)
def Sto.ts(s:Sto):List T:=[yC s.d.E,qA s.d.C,.bool s.d.A,aX s.d.keep,Ji s.ep,pB s.L,Ji s.S,a6h s.fr,Ji s.J]
abbrev yJ(a b:Sto):Prop:=(a.d.E.length=b.d.E.length/\Z7 a.d.E.length (Z6 a.d.E) (Z6 b.d.E))/\(a.d.C.length=b.d.C.length/\Z7 a.d.C.length (Z2 a.d.C) (Z2 b.d.C))/\a.d.A=b.d.A/\(a.d.keep.length=b.d.keep.length/\Z7 a.d.keep.length (Z0 a.d.keep) (Z0 b.d.keep))/\a.ep=b.ep/\(a.L.length=b.L.length/\Z7 a.L.length (Y6 a.L) (Y6 b.L))/\a.S=b.S/\(a.fr.length=b.fr.length/\Z7 a.fr.length (X2 a.fr) (X2 b.fr))/\a.J=b.J/\True
theorem iT(s:Sto):yJ s s:=Y1
def pJ(s:Sto):Option Ob:=some (.arr true 1000000 9 1 λ_=>s.ts)
def V1(d:Dsk)(no:Nat):Pg×Bool:=if U1 d (1+no)=[] then(⟨0,[[],[],[],[]]⟩,true) else E8 no (U1 d (1+no))
def S4(d:Dsk)(no:Nat):Pg×Bool:=if U1 d (1+no)=[] then(⟨0,[[],[],[],[]]⟩,true) else(O2 no (U1 d (1+no)),(E8 no (U1 d (1+no))).2)
theorem eY(d:Dsk)(no:Nat):(S4 d no).2=(V1 d no).2/\((V1 d no).2=true->S4 d no=V1 d no):=by
 unfold S4 V1;by_cases h:U1 d (1+no)=[]
 ·rw[if_pos h,if_pos h];exact⟨rfl,λ_=>rfl⟩
 ·rw[if_neg h,if_neg h];refine⟨rfl,λh2=>?_⟩
  unfold O2;rw[if_pos h2]
def hM(x:Dsk×Nat):Prop:=H9 x.1/\1+x.2<x.1.E.length
theorem mK{d:Dsk}(h:H9 d){at_:Nat}(A:at_<d.E.length):(U1 d at_).length<=160:=by
 obtain⟨_,_,_,_,_,e,h2⟩:=h;have key:∀n,n<=d.C.length->∀l,I3 d.C at_ n=some l->l.length<=160:=by
  intro n;induction n with
  |zero=>intro _ l hl;cases hl
  |succ n i=>
   intro N l hl;unfold I3 at hl;split at hl
   ·simp only[W9] at hl;subst hl;have:=h2 n Z9
    unfold O4 at this;simp only[zY,qW] at this;omega
   ·exact i Z9 l hl
 unfold U1;cases hl:I3 d.C at_ d.C.length with
 |none=>exact e at_ A
 |some l=>exact key _ (U9 _) l hl
def cQ:Rl:=⟨Sto×Nat,λx=>[.bref x.1.ts,Ji x.2],λx=>.tup [.agg (S4 x.1.d x.2).1.ts,.bool (S4 x.1.d x.2).2],λx=>hM (x.1.d,x.2)⟩
def a6z:Con:=.rel cQ
def kS:Rl:=⟨Dsk×Nat,λx=>[.agg x.1.ts,Ji x.2],λx=>.tup [.agg (V1 x.1 x.2).1.ts,.bool (V1 x.1 x.2).2],hM⟩
def b2c:Con:=.rel kS
theorem a0t(d:Dsk)(no:Nat)(h:
let p:=(V1 d no);  Ri (1+(no:Int))/\∃(x:oO.ι),(((zA d x.1)/\1+(no:Int)=(x.2:Int)/\True)/\AtB x)/\br (U1 x.1 x.2==[]) (∃(x:rV.ι),(True/\True)/\(0=p.1.Q/\(4=p.1.sl.length/\Z7 4 (Z6 [[],[],[],[]]) (Z6 p.1.sl))/\True)/\true=p.2/\True) (∃(X:aP.ι),let q:=(E8 X.1 X.2);(((no:Int)=X.1/\U1 x.1 x.2=X.2/\True)/\RdB X.2)/\(q.1.Q=p.1.Q/\(Z3 Z6 q.1.sl p.1.sl)/\True)/\q.2=p.2/\True)):
  U5 prog 142 [.agg d.ts,Ji no] (.tup [.agg (V1 d no).1.ts,.bool (V1 d no).2]):=
 R1 (gC dN (gC a3L (gC a7Z gN))) func142 Y5 h
def lJ(L:List Frm)(no:Int)(i:Nat):Bool:=(L.getD i dz).no==no
def frAt(L:List Frm)(no:Int):Int:=S5 L.length (lJ L no)
def noF(no:Int):T:=.fn (.func 187) [.bref [Ji no]]
def gR:Rl:=⟨Frm×Int,λx=>[.agg x.1.ts,.bref [Ji x.2]],λx=>.bool (x.1.no==x.2),λ_=>True⟩
def a6s:Con:=.rel gR
theorem a6e(f:Frm)(no:Int)(h:
  (f.no==no)=(f.no==no)):
  U5 prog 187 [.agg f.ts,.bref [Ji no]] (.bool (f.no==no)):=
 R1 gN func187 Y5 h
theorem a3x:GK 187 a6s:=gk func187<|λx _=>a6e x.1 x.2 rfl
def a5r:Rl:=⟨List Frm×Int,λx=>[a6h x.1,noF x.2],λx=>Ji (frAt x.1 x.2),λx=>M3 x.1.length⟩
def b4s:Con:=.rel a5r
def b6s(L:List Frm)(no:Int):Nat->Ann
 |0=>.one (V2 L.length (lJ L no)) (λx=>⟨[(0,a6h L),(1,noF no),(7,Ji L.length),(8,Ji x.1)],[]⟩) (λx=>L.length-x.1) [] [] (λ_=>Y5)
 |_=>.none
theorem b20:GK 186 b4s:=gk func186<|by
 rintro⟨L,no⟩ (hL:L.length<1000000000000);refine R1 (gC a3x gN) func186 (b6s L no) (α:=let r:=(L.length:Int);let q:=(T.bref [Ji no]);(∃(x:V2 L.length (lJ L no)),((Z3 X2 L L)/\(Fn.func 187=Fn.func 187/\K4 (λ(x:Nat)=>none) q q/\True)/\r=r/\0=(x.1:Int)/\True)/\True)/\∀(x:V2 L.length (lJ L no)),let z:=(x.1:Int);let p:=(L.getD z.toNat dz);bd (z<r) (V3 z L.length/\∃(X:gR.ι),(((p.no=X.1.no/\p.pg.Q=X.1.pg.Q/\(Z3 Z6 p.pg.sl X.1.pg.sl)/\p.D=X.1.D/\p.first=X.1.first/\True)/\(no=X.2/\True)/\True)/\True)/\br (X.1.no==X.2) (z=frAt L no) (Ri (z+1)/\∃(y:V2 L.length (lJ L no)),(((Z3 X2 L L)/\(Fn.func 187=Fn.func 187/\K4 (λ(x:Nat)=>none) q q/\True)/\r=r/\z+1=(y.1:Int)/\True)/\True)/\Lt (L.length-y.1) (L.length-x.1))) ((-1:Int)=frAt L no)) ⟨⟨E7,⟨Y1,⟨rfl,T3 _,Z5⟩,Y1⟩,Z5⟩,λx=>⟨λC=>?_,λC=>?_⟩⟩
 ·have h:=Y0 C;refine⟨X9 h,(L.getD x.1 dz,no),Y1,λhp=>(O8 h hp x.2.2).symm,λhp=>⟨V4 h Z9,x.succ h hp,⟨⟨Y1,⟨rfl,T3 _,Z5⟩,rfl,J0,Z5⟩,Z5⟩,V2.ext_lt h⟩⟩
 ·have e:=X3 C;exact(L5 λj J=>x.2.2 j (xC J e)).symm
def rM:Rl:=⟨Sto×Int,λx=>[.bref x.1.ts,Ji x.2],λx=>Ji (frAt x.1.fr x.2),λx=>M3 x.1.fr.length⟩
def b3z:Con:=.rel rM
def uN:Rl:=⟨Sto×Int,λx=>[.agg x.1.ts,Ji x.2],λx=>Ji (frAt x.1.fr x.2),λx=>M3 x.1.fr.length⟩
def a5S:Con:=.rel uN
def a6g(s:Sto)(no:Int):Nat->Ann
 |0=>.one (V2 s.fr.length (lJ s.fr no)) (λx=>⟨[(1,Ji no),(2,.ref 0 0 0),(5,Ji x.1)],[pJ s]⟩) (λx=>s.fr.length-x.1) [.box 0] [.box 0] (λ_=>Y5)
 |_=>.none
theorem pP:GK 122 b3z:=gk func122<|by
 rintro⟨s,no⟩ h;exact R1 (gC b20 gN) func122 Y5 (α:=∃(x:a5r.ι),(((Z3 X2 s.fr x.1)/\(Fn.func 187=Fn.func 187/\(no=x.2/\True)/\True)/\True)/\M3 x.1.length)/\frAt x.1 x.2=frAt s.fr no) ⟨(s.fr,no),⟨Y1,h⟩,rfl⟩
theorem sR:GK 143 a5S:=gk func143<|by
 rintro⟨s,no⟩ (hL:s.fr.length<1000000000000);refine R1 gN func143 (a6g s no) (α:=(∃(x:V2 s.fr.length (lJ s.fr no)),(no=no/\(0=0/\0=0)/\0=(x.1:Int)/\True)/\(oo (yJ s s))/\True)/\∀(x:V2 s.fr.length (lJ s.fr no)),let p:=(x.1:Int);bd (p<(s.fr.length:Int)) (V3 p s.fr.length/\br ((s.fr.getD p.toNat dz).no==no) (p=frAt s.fr no) (Ri (p+1)/\∃(y:V2 s.fr.length (lJ s.fr no)),((no=no/\(0=0/\0=0)/\p+1=(y.1:Int)/\True)/\(oo (yJ s s))/\True)/\Lt (s.fr.length-y.1) (s.fr.length-x.1))) ((-1:Int)=frAt s.fr no)) ⟨⟨E7,Y1⟩,λx=>⟨λC=>?_,λC=>?_⟩⟩
 ·have h:=Y0 C;exact⟨X9 h,λhp=>(O8 h hp x.2.2).symm,λhp=>⟨V4 h Z9,x.succ h hp,⟨⟨rfl,Y1,J0,Z5⟩,Y1⟩,V2.ext_lt h⟩⟩
 ·have e:=X3 C;exact(L5 λj J=>x.2.2 j (xC J e)).symm
theorem a0A(no:Int)(t:Bz):(J4 no t==(0:Int))=(E8 no t).2:=by
 unfold J4;cases hu:R3 t
 ·have:(E8 no t).2=false:=by unfold E8;rw[hu];rfl
  rw[this];rfl
 ·cases h:(E8 no t).2<;>rfl
theorem a36:GK 100 a6z:=gk func100<|by
 rintro⟨s,no⟩ ⟨hd,n⟩;simp only at hd n;have f:=mK hd n;obtain⟨q,g,Q,_⟩:=hd;refine R1 (gC dM (gC a3X (gC a3K gN))) func100 Y5 (α:=let p:=(S4 s.d no);Ri (1+(no:Int))/\∃(x:oO.ι),(((zA s.d x.1)/\1+(no:Int)=(x.2:Int)/\True)/\AtB x)/\br (U1 x.1 x.2==[]) (∃(x:rV.ι),(True/\True)/\(0=p.1.Q/\(4=p.1.sl.length/\Z7 4 (Z6 [[],[],[],[]]) (Z6 p.1.sl))/\True)/\true=p.2/\True) (Lt (U1 x.1 x.2).length 140737488355329/\∃(X:fW.ι),(((no:Int)=X.1/\U1 x.1 x.2=X.2/\True)/\RdB X.2)/\((O2 X.1 X.2).Q=p.1.Q/\(Z3 Z6 (O2 X.1 X.2).sl p.1.sl)/\True)/\(J4 X.1 X.2==0)=p.2/\True)) ⟨Z1 Z9,(s.d,1+no),⟨⟨(eqD _),D9,Z5⟩,n,D9⟩,λh=>⟨(),Y1,?_⟩,λh=>⟨mY,((no:Int),U1 s.d (1+no)),⟨Y1,by show(U1 s.d (1+no)).length<=1000;omega⟩,?_⟩⟩
 ·have h:U1 s.d (1+no)=[]:=by simpa using h
  have e:S4 s.d no=(⟨0,[[],[],[],[]]⟩,true):=by unfold S4;rw[if_pos h]
  rw[e];exact Y1
 ·have h:U1 s.d (1+no)≠[]:=by simpa using h
  have e:S4 s.d no=(O2 no (U1 s.d (1+no)),(E8 no (U1 s.d (1+no))).2):=by unfold S4;rw[if_neg h]
  rw[e];exact⟨Y1,a0A _ _,Z5⟩
theorem fM:GK 142 b2c:=gk func142<|by
 rintro⟨d,no⟩ ⟨hd,n⟩;simp only at hd n;have f:=mK hd n;obtain⟨q,g,Q,_⟩:=hd;refine a0t d no ⟨Z1 Z9,(d,1+no),⟨⟨(eqD _),D9,Z5⟩,n,D9⟩,λh=>⟨(),Y1,?_⟩,λh=>⟨((no:Int),U1 d (1+no)),⟨Y1,by show(U1 d (1+no)).length<=1000;omega⟩,?_⟩⟩
 ·have h:U1 d (1+no)=[]:=by simpa using h
  have e:V1 d no=(⟨0,[[],[],[],[]]⟩,true):=by unfold V1;rw[if_pos h]
  rw[e];exact Y1
 ·have h:U1 d (1+no)≠[]:=by simpa using h
  have e:V1 d no=E8 no (U1 d (1+no)):=by unfold V1;rw[if_neg h]
  rw[e];exact Y1
def yU(s:Sto)(i:Nat):Bool:=
 !V8 (s.fr.getD i dz).no 0 7||frAt s.fr (s.fr.getD i dz).no !=(i:Int)|| !j8 (s.fr.getD i dz).pg||decide ((s.fr.getD i dz).pg.Q>(s.L.length:Int))|| !V8 (s.fr.getD i dz).first 0 s.L.length||
  decide ((s.fr.getD i dz).first>0) !=(s.fr.getD i dz).D
def yZ(s:Sto):Bool:= !anyI s.fr.length (yU s)&&decide ((s.fr.length:Int)<=3)
def FrB(L:List Frm):Prop:=M3 L.length/\∀i,i<L.length->PgB (L.getD i dz).pg
def c7a(s:Sto):Prop:=FrB s.fr/\M3 s.L.length
def dK:Rl:=⟨Sto,λs=>[.bref s.ts],λs=>.bool (yZ s),c7a⟩
def a7k:Con:=.rel dK
def a7m(s:Sto):Nat->Ann
 |0=>.one (V2 s.fr.length (yU s)) (λx=>⟨[(0,.bref s.ts),(8,a6h s.fr),(9,Ji s.fr.length),(10,Ji x.1)],[]⟩) (λx=>s.fr.length-x.1) [] [] (λ_=>Y5)
 |_=>.none
theorem c4P(n:Int):(decide (0<=n)&&decide (n<8))=V8 n 0 7:=by
 unfold V8;rw[show decide (n<8)=decide (n<=7) from decide_eq_decide.2 Z9]
theorem a4I:GK 101 a7k:=gk func101<|by
 rintro(s:Sto) ⟨⟨f,h2⟩,g⟩;have f:s.fr.length<1000000000000:=f;have g:s.L.length<1000000000000:=g;refine R1 (gC tV (gC pP (gC pR (gC P1 gN)))) func101 (a7m s) (α:=let w:=(s.L.length:Int);let v:=(Z3 X2 s.fr s.fr);let u:=(T.bref s.ts);let q:=(s.fr.length:Int);(∃(x:V2 s.fr.length (yU s)),(K4 (λ(x:Nat)=>none) u u/\v/\q=q/\0=(x.1:Int)/\True)/\True)/\∀(x:V2 s.fr.length (yU s)),let z:=(x.1:Int);let p:=(s.fr.getD z.toNat dz);let r:=(decide (0<=p.no)&&decide (p.no<8));bd (z<q) (V3 z s.fr.length/\o4 (8:Int)/\∃(X:rM.ι),((! r)=false->((yJ s X.1)/\p.no=X.2/\True)/\M3 X.1.fr.length)/\∃(d:xG.ι),((! r||frAt X.1.fr X.2 !=z)=false->((p.pg.Q=d.Q/\(Z3 Z6 p.pg.sl d.sl)/\True)/\True)/\PgB d)/\br (! r||frAt X.1.fr X.2 !=z|| !j8 d||decide (p.pg.Q>w)|| !V8 p.first (0:Int) w|| !decide (p.first>0)==p.D) (false=yZ s) (Ri (z+1)/\∃(y:V2 s.fr.length (yU s)),((K4 (λ(x:Nat)=>none) u u/\v/\q=q/\z+1=(y.1:Int)/\True)/\True)/\Lt (s.fr.length-y.1) (s.fr.length-x.1))) (decide (q<=3)=yZ s)) ⟨⟨E7,⟨T3 _,Y1⟩,Z5⟩,λx=>⟨λhc=>?_,λhc=>?_⟩⟩
 ·have h:=Y0 hc;rw[c4P,C8];have e:(!V8 (s.fr.getD x.1 dz).no 0 7||frAt s.fr (s.fr.getD x.1 dz).no !=(x.1:Int)|| !j8 (s.fr.getD x.1 dz).pg||decide ((s.fr.getD x.1 dz).pg.Q>(s.L.length:Int))||
    !V8 (s.fr.getD x.1 dz).first 0 s.L.length|| !decide ((s.fr.getD x.1 dz).first>0)==(s.fr.getD x.1 dz).D)=yU s x.1:=rfl
  refine⟨X9 h,⟨Z9,Z9⟩,(s,(s.fr.getD x.1 dz).no),λ_=>⟨⟨(iT _),Y1⟩,f⟩,(s.fr.getD x.1 dz).pg,λ_=>⟨Y1,h2 _ h⟩,λB=>?_,λB=>⟨V4 h Z9,x.succ h (e.symm.trans B),⟨⟨T3 _,Y1,rfl,J0,Z5⟩,Z5⟩,V2.ext_lt h⟩⟩
  have:anyI s.fr.length (yU s)=true:=R2.2 ⟨x.1,h,e.symm.trans B⟩;unfold yZ;rw[this];rfl
 ·have hge:=X3 hc;have:anyI s.fr.length (yU s)=false:=P8.2 λi hi=>x.2.2 i (xC hi hge)
  unfold yZ;rw[this];simp
def yO(L:List Rec)(i:Nat):Int:=if i=0 then 1 else(L.getD (i-1) dz).e
def vJ(s:Sto)(i:Nat):Bool:= !V8 (s.L.getD i dz).e (yO s.L i) s.ep
def zN(s:Sto)(no:Nat):Bool:= !(V1 s.d no).2||decide ((V1 s.d no).1.Q>s.S)
def oK(s:Sto):Bool:= !yP s.d||((s.d.E.length:Nat):Int) !=69|| !V8 s.ep 1 60||decide ((s.L.length:Int)>60)
def G2(s:Sto):Bool:= !(oK s|| !zO s.L|| !V8 s.S 0 s.L.length)&& !anyI s.L.length (vJ s)&& !anyI 8 (zN s)&&yZ s&&V8 s.J 0 2
def b5B(s:Sto):Prop:=c0j s.d/\c0s s.L/\FrB s.fr/\∀r ∈ s.L,M3 r.a.length
def qZ:Rl:=⟨Sto,λs=>[.agg s.ts],λs=>.bool (G2 s),b5B⟩
def a7s:Con:=.rel qZ
def a5T:Con:=.rel qZ
def a52(s:Sto):Nat->Ann
 |0=>.onef [1,3,48,49,50] (V2 s.L.length (vJ s)) (λx=>⟨[(1,.bref s.ts),(3,Ji (yO s.L x.1)),(48,pB s.L),(49,Ji s.L.length),(50,Ji x.1)],[]⟩) (λx=>s.L.length-x.1) [] (λ_=>fun
  |1=>.one (V2 8 (zN s)) (λx=>⟨[(1,.bref s.ts),(64,Ji x.1)],[]⟩) (λx=>8-x.1) [] [] (λ_=>Y5)
  |_=>.none)
 |_=>.none
def tQ(s:Sto)(i:Nat):Bool:= !O9 (s.L.getD i dz)||(s.L.getD i dz).l !=(i:Int)+1||decide ((s.L.getD i dz).e>s.ep)||(decide ((i:Int)>0)&&decide ((s.L.getD (i-1) dz).e>(s.L.getD i dz).e))
def wM(s:Sto)(i:Nat):Bool:=
 !V8 (s.fr.getD i dz).no 0 7|| !j8 (s.fr.getD i dz).pg||decide ((s.fr.getD i dz).pg.Q>(s.L.length:Int))|| !V8 (s.fr.getD i dz).first 0 s.L.length||
  (s.fr.getD i dz).D !=decide ((s.fr.getD i dz).first>0)||frAt s.fr (s.fr.getD i dz).no !=(i:Int)
def a6f(s:Sto):Nat->Ann
 |0=>.one (V2 s.L.length (tQ s)) (λx=>⟨[(1,.ref 0 0 0),(3,Ji x.1)],[pJ s]⟩) (λx=>s.L.length-x.1) [.box 0] [.box 0] (λ_=>fun
  |1=>.one (V2 s.fr.length (wM s)) (λx=>⟨[(1,.ref 0 0 0),(5,Ji x.1)],[pJ s]⟩) (λx=>s.fr.length-x.1) [.box 0] [.box 0] (λ_=>fun
   |2=>.one (V2 8 (zN s)) (λx=>⟨[(1,.ref 0 0 0),(7,Ji x.1)],[pJ s]⟩) (λx=>8-x.1) [.box 0] [.box 0] (λ_=>Y5)
   |_=>.none)
  |_=>.none)
 |_=>.none
theorem J8(s:Sto):G2 s=true↔(oK s=false/\zO s.L=true/\V8 s.S 0 s.L.length=true)/\(∀i,i<s.L.length->vJ s i=false)/\(∀i,i<8->zN s i=false)/\yZ s=true/\V8 s.J 0 2=true:=by
 unfold G2;simp only[M1,wG,zY,yL,P8];exact⟨λh=>⟨⟨h.1.1.1.1.1.1,h.1.1.1.1.1.2,h.1.1.1.1.2⟩,h.1.1.1.2,h.1.1.2,h.1.2,h.2⟩,λh=>⟨⟨⟨⟨⟨⟨h.1.1,h.1.2.1⟩,h.1.2.2⟩,h.2.1⟩,h.2.2.1⟩,h.2.2.2.1⟩,h.2.2.2.2⟩⟩
theorem oH{s:Sto}(h:¬G2 s=true):false=G2 s:=(Bool.eq_false_iff.2 h).symm
theorem v9(s:Sto):oK s=false↔H9 s.d/\s.d.E.length=69/\1<=s.ep/\s.ep<=60/\s.L.length<=60:=by
 unfold oK;simp only[zY,yL,kO,bne_eq_false_iff_eq,V8,M1,g7,qW];constructor
 ·rintro⟨⟨⟨h,i⟩,e,f⟩,g⟩;exact⟨h,Z9,e,f,Z9⟩
 ·rintro⟨h,i,e,f,g⟩;exact⟨⟨⟨h,Z9⟩,e,f⟩,Z9⟩
theorem b0d(s:Sto)(no:Nat):(!(S4 s.d no).2||decide ((S4 s.d no).1.Q>s.S))=zN s no:=by
 unfold zN;obtain⟨e,f⟩:=eY s.d no;cases h:(V1 s.d no).2
 ·rw[e,h];rfl
 ·rw[f h,h]
theorem c2Y(n:Int):(decide (0<=n)&&decide (n<3))=V8 n 0 2:=by
 unfold V8;rw[show decide (n<3)=decide (n<=2) from decide_eq_decide.2 Z9]
theorem b1Q(L:List Rec)(i:Nat):yO L (i+1)=(L.getD i dz).e:=by unfold yO;rw[if_neg Z9];rfl
theorem a3j:GK 47 a7s:=gk func47<|by
 rintro(s:Sto) ⟨hd,hl,hf,hm⟩;have j:(!yP s.d||(s.d.E.length:Int) !=69|| !V8 s.ep 1 60||decide ((s.L.length:Int)>60)|| !zO s.L|| !V8 s.S 0 s.L.length)=(oK s|| !zO s.L|| !V8 s.S 0 s.L.length):=rfl;refine R1 (gC a7w (gC P1 (gC aZ (gC a36 (gC a4I (gC tV gN)))))) func47 (a52 s) (α:=let w:=(s.d.E.length:Int);let v:=(false=G2 s);let q:=(T.bref s.ts);let p:=(s.L.length:Int);∃(x:mW.ι),(((zA s.d x)/\True)/\c0j x)/\∃(f:mH.ι),((!yP x||w !=69|| !V8 s.ep (1:Int) (60:Int)||decide (p>60))=false->((Z3 Y6 s.L f)/\True)/\c0s f)/\br (!yP x||w !=69|| !V8 s.ep (1:Int) (60:Int)||decide (p>60)|| !zO f|| !V8 s.S (0:Int) p) v ((∃(x:V2 s.L.length (vJ s)),(K4 (λ(x:Nat)=>none) q q/\1=yO s.L x.1/\(Z3 Y6 s.L s.L)/\p=p/\0=(x.1:Int)/\True)/\True)/\∀(x:V2 s.L.length (vJ s)),let r:=(x.1:Int);let u:=(s.L.getD r.toNat dz).e;bd (r<p) (V3 r s.L.length/\br (!V8 u (yO s.L x.1) s.ep) v (Ri (r+1)/\∃(y:V2 s.L.length (vJ s)),((K4 (λ(x:Nat)=>none) q q/\u=yO s.L y.1/\(Z3 Y6 s.L s.L)/\p=p/\r+1=(y.1:Int)/\True)/\True)/\Lt (s.L.length-y.1) (s.L.length-x.1))) ((∃(x:V2 8 (zN s)),(K4 (λ(x:Nat)=>none) q q/\0=(x.1:Int)/\True)/\True)/\∀(x:V2 8 (zN s)),let z:=(x.1:Int);bd (z<8) (∃(X:cQ.ι),(((yJ s X.1)/\z=(X.2:Int)/\True)/\hM (X.1.d,X.2))/\br (!(S4 X.1.d X.2).2||decide ((S4 X.1.d X.2).1.Q>s.S)) v (Ri (z+1)/\∃(y:V2 8 (zN s)),((K4 (λ(x:Nat)=>none) q q/\z+1=(y.1:Int)/\True)/\True)/\Lt (8-y.1) (8-x.1))) (∃(x:dK.ι),(((yJ s x)/\True)/\c7a x)/\(yZ x=true->o4 (3:Int))/\(yZ x&&(decide (0<=s.J)&&decide (s.J<3)))=G2 s)))) ⟨s.d,⟨⟨(eqD _),Z5⟩,hd⟩,s.L,λ_=>⟨Y1,hl⟩,λhb=>oH ?_,λhb=>?_⟩
 ·rw[J8];rintro⟨⟨g,l,n⟩,_⟩;rw[j,g,l,n] at hb;cases hb
 rw[j] at hb;simp only[zY,yL] at hb;obtain⟨⟨B,b2⟩,o⟩:=hb;obtain⟨C,c2,q,t,r⟩:=(v9 s).1 B;refine⟨⟨E7,⟨T3 _,Y1⟩,Z5⟩,λx=>⟨λhc=>?_,λhc=>⟨⟨E7,⟨T3 _,Y1⟩,Z5⟩,λy=>⟨λhy=>?_,λhy=>?_⟩⟩⟩⟩
 ·have hlt:=Y0 hc;refine⟨X9 hlt,λhb=>oH ?_,λhb=>⟨V4 hlt Z9,x.succ hlt hb,⟨⟨T3 _,(b1Q _ _).symm,Y1,rfl,J0,Z5⟩,Z5⟩,V2.ext_lt hlt⟩⟩
  rw[J8];rintro⟨_,g,_⟩;have:=g x.1 hlt;unfold vJ at this;rw[C8,this] at hb;cases hb
 ·have hlt:y.1<8:=by have:=B3 hy;omega
  refine⟨(s,y.1),⟨⟨(iT _),Y1⟩,C,D9⟩,λhb=>oH ?_,λhb=>⟨Z1 Z9,y.succ hlt ((b0d s y.1).symm.trans hb),⟨⟨T3 _,J0,Z5⟩,Z5⟩,V2.ext_lt hlt⟩⟩
  rw[J8];rintro⟨_,_,g,_⟩;have:=g y.1 hlt;rw[←b0d] at this;have hb:(!(S4 s.d y.1).2||decide ((S4 s.d y.1).1.Q>s.S))=true:=hb;rw[this] at hb;cases hb
 ·have g1:=X3 hc;have g2:8<=y.1:=by have:=k5 hy;omega
  refine⟨s,⟨⟨(iT _),Z5⟩,hf,hl.1⟩,λ_=>⟨Z9,Z9⟩,?_⟩
  rw[c2Y,Bool.eq_iff_iff,J8];simp only[M1];exact⟨λh=>⟨⟨B,b2,o⟩,λi hi=>x.2.2 i (xC hi g1),λi hi=>y.2.2 i (xC hi g2),h⟩,λh=>h.2.2.2⟩
theorem b7K(s:Sto)(i:Nat):wM s i=yU s i:=by
 unfold wM yU;generalize V8 (s.fr.getD i dz).no 0 7=a;generalize j8 (s.fr.getD i dz).pg=b;generalize decide ((s.fr.getD i dz).pg.Q>(s.L.length:Int))=c;generalize V8 (s.fr.getD i dz).first 0 s.L.length=d
 generalize (s.fr.getD i dz).D=e;generalize decide ((s.fr.getD i dz).first>0)=f
 generalize (frAt s.fr (s.fr.getD i dz).no !=(i:Int))=g;cases a<;>cases b<;>cases c<;>cases d<;>cases e<;>cases f<;>cases g<;>rfl
theorem b5A(s:Sto):(∀i,i<s.L.length->tQ s i=false)↔zO s.L=true/\∀i,i<s.L.length->vJ s i=false:=by
 rw[G9];have key:∀i,tQ s i=false↔(O9 (s.L.getD i dz)=true/\(s.L.getD i dz).l=(i:Int)+1)/\(s.L.getD i dz).e<=s.ep/\(0<i->(s.L.getD (i-1) dz).e<=(s.L.getD i dz).e):=by
  intro i;unfold tQ;simp only[zY,yL,bne_eq_false_iff_eq,qW,Bool.and_eq_false_iff];constructor
  ·rintro⟨⟨⟨h1,h2⟩,h3⟩,h4⟩;exact⟨⟨h1,h2⟩,Z9,λhi=>by rcases h4 with h4|h4<;>omega⟩
  ·rintro⟨⟨h1,h2⟩,h3,h4⟩;refine⟨⟨⟨h1,h2⟩,Z9⟩,?_⟩
   by_cases hi:0<i
   ·exact .inr (by have:=h4 hi;omega)
   ·exact .inl Z9
 have d:∀i,vJ s i=false↔yO s.L i<=(s.L.getD i dz).e/\(s.L.getD i dz).e<=s.ep:=by
  intro i;unfold vJ V8;simp only[yL,M1,g7]
 simp only[key,d];constructor
 ·intro h;refine⟨λi hi=>(h i hi).1,λi hi=>⟨?_,(h i hi).2.1⟩⟩
  by_cases h0:i=0
  ·subst h0;have:=((R6 _).1 (h 0 hi).1.1).1;exact this
  ·unfold yO;rw[if_neg h0];exact(h i hi).2.2 Z9
 ·rintro⟨h1,h2⟩ i hi;refine⟨h1 i hi,(h2 i hi).2,λh0=>?_⟩
  have:=(h2 i hi).1;unfold yO at this;rw[if_neg Z9] at this
  exact this
theorem a28:GK 85 a5T:=gk func85<|by
 rintro(s:Sto) ⟨hd,hl,hf,hm⟩;have R:s.fr.length<1000000000000:=hf.1;have B:(!yP s.d||(s.d.E.length:Int) !=69|| !V8 s.ep 1 60||decide ((s.L.length:Int)>60)|| !V8 s.S 0 s.L.length||decide ((s.fr.length:Int)>3)|| !V8 s.J 0 2)=(oK s|| !V8 s.S 0 s.L.length||decide ((s.fr.length:Int)>3)|| !V8 s.J 0 2):=rfl;have sp:G2 s=true↔(oK s|| !V8 s.S 0 s.L.length||decide ((s.fr.length:Int)>3)|| !V8 s.J 0 2)=false/\(∀i,i<s.L.length->tQ s i=false)/\(∀i,i<s.fr.length->wM s i=false)/\∀i,i<8->zN s i=false:=by
  rw[J8,b5A];simp only[zY,yL,b7K,qW];unfold yZ;simp only[M1,wG,P8,g7];constructor
  ·rintro⟨⟨h1,o,v⟩,q,r,⟨A,C⟩,u⟩;exact⟨⟨⟨⟨h1,v⟩,Z9⟩,u⟩,⟨o,q⟩,A,r⟩
  ·rintro⟨⟨⟨⟨h1,v⟩,C⟩,u⟩,⟨o,q⟩,A,r⟩;exact⟨⟨h1,o,v⟩,q,r,⟨A,Z9⟩,u⟩
 refine R1 (gC a8h (gC C0 (gC mG (gC fK (gC sR (gC fM gN)))))) func85 (a6f s) (α:=let i:=(false=G2 s);let m:=(0=0/\0=0);let w:=(oo (yJ s s));let v:=(s.L.length:Int);∃(x:mW.ι),(((zA s.d x)/\True)/\c0j x)/\br (!yP x||(s.d.E.length:Int) !=69|| !V8 s.ep (1:Int) (60:Int)||decide (v>60)|| !V8 s.S (0:Int) v||decide ((s.fr.length:Int)>3)|| !V8 s.J (0:Int) (2:Int)) i ((∃(x:V2 s.L.length (tQ s)),(m/\0=(x.1:Int)/\True)/\w/\True)/\∀(x:V2 s.L.length (tQ s)),let u:=(x.1:Int);let q:=(s.L.getD u.toNat dz);let z:=(Rec.mk q.e q.l q.t q.k q.p q.n q.g q.s q.b q.a);let c:=(!O9 z||q.l !=u+1||decide (q.e>s.ep));bd (u<v) (V3 u s.L.length/\M3 q.a.length/\((!O9 z)=false->Ri (u+1))/\(c=false->decide (u>0)=true->Ri (u-1))/\(c=false->decide (u>0)=true->V3 (u-1) s.L.length)/\br (!O9 z||q.l !=u+1||decide (q.e>s.ep)||decide (u>0)&&decide ((s.L.getD (u-1).toNat dz).e>q.e)) i (Ri (u+1)/\∃(y:V2 s.L.length (tQ s)),((m/\u+1=(y.1:Int)/\True)/\w/\True)/\Lt (s.L.length-y.1) (s.L.length-x.1))) ((∃(x:V2 s.fr.length (wM s)),(m/\0=(x.1:Int)/\True)/\w/\True)/\∀(x:V2 s.fr.length (wM s)),let j:=(x.1:Int);let r:=(s.fr.getD j.toNat dz);bd (j<(s.fr.length:Int)) (V3 j s.fr.length/\∃(X:xG.ι),((!V8 r.no (0:Int) (7:Int))=false->((r.pg.Q=X.Q/\(Z3 Z6 r.pg.sl X.sl)/\True)/\True)/\PgB X)/\∃(f:uN.ι),((!V8 r.no (0:Int) (7:Int)|| !j8 X||decide (r.pg.Q>v)|| !V8 r.first (0:Int) v|| ! r.D==decide (r.first>0))=false->((yJ s f.1)/\r.no=f.2/\True)/\M3 f.1.fr.length)/\br (!V8 r.no (0:Int) (7:Int)|| !j8 X||decide (r.pg.Q>v)|| !V8 r.first (0:Int) v|| ! r.D==decide (r.first>0)||frAt f.1.fr f.2 !=j) i (Ri (j+1)/\∃(y:V2 s.fr.length (wM s)),((m/\j+1=(y.1:Int)/\True)/\w/\True)/\Lt (s.fr.length-y.1) (s.fr.length-x.1))) ((∃(x:V2 8 (zN s)),(m/\0=(x.1:Int)/\True)/\w/\True)/\∀(x:V2 8 (zN s)),let pa:=(x.1:Int);bd (pa<8) (∃(X:kS.ι),(((zA s.d X.1)/\pa=(X.2:Int)/\True)/\hM X)/\br (!(V1 X.1 X.2).2||decide ((V1 X.1 X.2).1.Q>s.S)) i (Ri (pa+1)/\∃(y:V2 8 (zN s)),((m/\pa+1=(y.1:Int)/\True)/\w/\True)/\Lt (8-y.1) (8-x.1))) (true=G2 s))))) ⟨s.d,⟨⟨(eqD _),Z5⟩,hd⟩,λh=>oH ?_,λh=>?_⟩
 ·rw[sp,←B];rintro⟨h1,_⟩;have h:(!yP s.d||(s.d.E.length:Int) !=69|| !V8 s.ep 1 60||decide ((s.L.length:Int)>60)|| !V8 s.S 0 s.L.length||decide ((s.fr.length:Int)>3)|| !V8 s.J 0 2)=true:=h;rw[h1] at h;cases h
 rw[B] at h;have j:=h;simp only[zY,yL,qW] at j;obtain⟨F,c2,I,L,J⟩:=(v9 s).1 j.1.1.1;refine⟨⟨E7,Y1⟩,λx=>⟨λhc=>?_,λhc=>⟨⟨E7,Y1⟩,λy=>⟨λhy=>?_,λhy=>⟨⟨E7,Y1⟩,λz=>⟨λhz=>?_,λhz=>?_⟩⟩⟩⟩⟩⟩
 ·have hlt:=Y0 hc;refine⟨X9 hlt,hm _ (a5a hlt),λ_=>V4 hlt Z9,λ_ _=>Z1 Z9,λ_ h0=>⟨b73,Z9⟩,λhq=>oH ?_,λhq=>⟨V4 hlt Z9,x.succ hlt ?_,⟨⟨Y1,J0,Z5⟩,Y1⟩,V2.ext_lt hlt⟩⟩
  ·rw[sp];rintro⟨_,h1,_⟩;have:=h1 x.1 hlt;unfold tQ at this;rw[C8,show((x.1:Int)-1).toNat=x.1-1 by omega] at hq
   have hq:=hq.symm.trans this;cases hq
  ·rw[C8,show((x.1:Int)-1).toNat=x.1-1 by omega] at hq
   exact hq
 ·have hlt:=Y0 hy;refine⟨X9 hlt,(s.fr.getD y.1 dz).pg,λ_=>⟨Y1,hf.2 _ hlt⟩,(s,(s.fr.getD y.1 dz).no),λ_=>⟨⟨(iT _),Y1⟩,hf.1⟩,λhq=>oH ?_,λhq=>⟨V4 hlt Z9,y.succ hlt hq,⟨⟨Y1,J0,Z5⟩,Y1⟩,V2.ext_lt hlt⟩⟩
  rw[sp];rintro⟨_,_,h1,_⟩;have:=h1 y.1 hlt;have hq:wM s y.1=true:=hq;rw[this] at hq;cases hq
 ·have hlt:z.1<8:=by have:=B3 hz;omega
  refine⟨(s.d,z.1),⟨⟨(eqD _),Y1⟩,F,D9⟩,λhq=>oH ?_,λhq=>⟨Z1 Z9,z.succ hlt hq,⟨⟨Y1,J0,Z5⟩,Y1⟩,V2.ext_lt hlt⟩⟩
  rw[sp];rintro⟨_,_,_,h1⟩;have:=h1 z.1 hlt;have hq:zN s z.1=true:=hq;rw[this] at hq;cases hq
 ·have g1:=X3 hc;have g2:=X3 hy;have g3:8<=z.1:=by have:=k5 hz;omega
  exact(sp.2 ⟨h,λi hi=>x.2.2 i (xC hi g1),λi hi=>y.2.2 i (xC hi g2),λi hi=>z.2.2 i (xC hi g3)⟩).symm
def zC(n:Int):UInt8:=P9 (IntKind.u8.wrap n)
def V6(L:List (Bz)):Nat->Bz
 |0=>[zC L.length]
 |i+1=>V6 L i++[zC (L.getD i []).length]++L.getD i []
def R7(L:List (Bz)):Bz:=V6 L L.length
def k8(L:List (Bz)):Prop:=L.length<=1000/\∀i,i<L.length->(L.getD i []).length<=1000
def wD:Rl:=⟨List (Bz),λL=>[yC L],λL=>.bys (R7 L),k8⟩
def a3Q:Con:=.rel wD
def a49(L:List (Bz)):Nat->Ann
 |0=>.one (Up L.length) (λx=>⟨[(0,yC L),(3,.osl 0 0 (V6 L x.1).length),(4,Ji x.1)],[some (.bys 5 (V6 L x.1))]⟩) (λx=>L.length-x.1) [.arr 0] [.arr 3] (λ_=>Y5)
 |_=>.none
def yK(n:Nat)(l:Bz):Prop:=n=l.length/\l.length<=1000000
def wB:List T->Y4->Option (T×Y4×Option Prop)
 | [.osl k off n],[some (.bys ty l)]=>match k,off,ty with
  |0,0,5=>some (.bys (l++z7 (j3 l)),[none],some (yK n l))
  |_,_,_=>none
 |_,_=>none
def a5u:Con:=.eff wB
theorem mU:GK 264 a5u:=gk func264<|by
 intro args H res H' p h hp;unfold wB at h;split at h
 case h_2=>cases h
 rename_i k off n ty l;split at h
 ·skip
  simp only[W9,T6] at h;obtain⟨rfl,rfl,rfl⟩:=h;obtain⟨rfl,hl⟩:yK n l:=hp;have e4:(z7 (j3 l)).length=4:=rfl;refine vcE (gC kC (gC mM gN)) func264 Y5 (bs:=[false]) (α:=∃(x:(uJ IntKind.i64).ι),(Le (0+l.length) l.length/\(List.take l.length (List.drop 0 l)=x/\True)/\v5 x)/\∃(x_1:iB.ι),(((↑(j3 x):Int)=(x_1.1:Int)/\(4=match x_1.2 with|true=>(4:Int)|false=>(2:Int))/\True)/\True)/\(Le l.length l.length/\U2 l.length (match x_1.2 with|true=>z7 x_1.1|false=>wZ x_1.1).length 1)/\Le (0+(l.length+(match x_1.2 with|true=>z7 x_1.1|false=>wZ x_1.1).length)) (List.take l.length l++match x_1.2 with|true=>z7 x_1.1|false=>wZ x_1.1).length/\List.take (l.length+(match x_1.2 with|true=>z7 x_1.1|false=>wZ x_1.1).length) (List.drop 0 (List.take l.length l++match x_1.2 with|true=>z7 x_1.1|false=>wZ x_1.1))=l++z7 (j3 l)/\True/\True) ⟨l,⟨C9,⟨a0k,Z5⟩,a0v⟩,(j3 l,true),Y1,⟨U9 _,?_,?_⟩,?_,?_,Y1⟩
  ·simp only[e4];omega
  ·simp only[e4];omega
  ·unfold Le;rw[j_j,J6,D8];exact U9 _
  ·rw[j_j,List.drop_zero];exact List.take_of_length_le (by rw[J6];exact U9 _)
 ·cases h
theorem wE(L:List (Bz))(h:∀i,i<L.length->(L.getD i []).length<=1000):∀i,i<=L.length->(V6 L i).length<=1+1001*i
 |0,_=>by simp[V6]
 |i+1,hi=>by
  have d:=wE L h i Z9
  have e:=h i Z9
  simp only[V6,J6,List.length_cons,List.length_nil];omega
theorem l01Fields_ok:GK 266 a3Q:=gk func266<|by
 rintro(L:List (Bz)) ⟨hL,hs⟩;refine R1 gN func266 (a49 L) (α:=let u:=(L.length:Int);O1 IntKind.u8 (IntKind.u8.wrap u)/\(∃(x:Up L.length),((Z3 Z6 L L)/\(0=0/\1=(V6 L x.1).length)/\0=(x.1:Int)/\True)/\List.map P9 [IntKind.u8.wrap u]=V6 L x.1/\True)/\∀(x:Up L.length),let v:=(V6 L x.1);let z:=(x.1:Int);let q:=(L.getD z.toNat []).length;let p:=v.length;let r:=(List.take p v++List.take 1 (List.drop 0 (List.map P9 [IntKind.u8.wrap (↑q:Int)])));bd (z<u) (V3 z L.length/\O1 IntKind.u8 (IntKind.u8.wrap (↑q:Int))/\(Le 1 1/\Le p p/\U2 p 1 1)/\V3 z L.length/\(Le (p+1) r.length/\U2 (p+1) q 1)/\Ri (z+1)/\∃(y:Up L.length),(((Z3 Z6 L L)/\(0=0/\p+1+q=(V6 L y.1).length)/\z+1=(y.1:Int)/\True)/\List.take (p+1) r++L.getD z.toNat []=V6 L y.1/\True)/\Lt (L.length-y.1) (L.length-x.1)) (Le (0+p) p/\List.take p (List.drop 0 v)=R7 L)) ⟨N9 _,⟨⟨0,L8 _⟩,Y1⟩,λx=>⟨λhc=>?_,λhc=>?_⟩⟩
 ·have hlt:=Y0 hc;have h1:=wE L hs x.1 Z9
  have h:=hs x.1 hlt;rw[C8];have e:List.take (V6 L x.1).length (V6 L x.1)++List.take 1 (List.drop 0 (List.map P9 [IntKind.u8.wrap ((L.getD x.1 []).length:Int)]))=V6 L x.1++[zC (L.getD x.1 []).length]:=by
   rw[j_j];rfl
  rw[e];have d:(V6 L x.1++[zC (L.getD x.1 []).length]).length=(V6 L x.1).length+1:=W6
  refine⟨X9 hlt,N9 _,⟨U9 _,U9 _,Z9,Z9⟩,X9 hlt,⟨C9,Z9,Z9⟩,V4 hlt Z9,⟨x.1+1,hlt⟩,⟨⟨Y1,⟨rfl,?_⟩,D9,Z5⟩,?_,Z5⟩,V2.ext_lt hlt⟩
  ·simp only[V6,J6,List.length_cons,List.length_nil]
  ·rw[←d,j_j];rfl
 ·have hx:x.1=L.length:=by have:=x.2;have:=X3 hc;omega
  rw[hx];exact⟨C9,by rw[List.drop_zero,j_j];rfl⟩
def sT(no:Int)(p:Pg):Bz:=([P9 112,zC no]++wZ p.Q.toNat)++R7 p.sl
def S3(no:Int)(p:Pg):Bz:=sT no p++z7 (j3 (sT no p))
def oS:Rl:=⟨Int×Pg,λx=>[Ji x.1,.agg x.2.ts],λx=>.bys (S3 x.1 x.2),λx=>PgP x.2⟩
def a79:Con:=.rel oS
theorem a4n:GK 257 a79:=gk func257<|by
 rintro⟨no,p⟩ ⟨o,j,l,g⟩;simp only at o j l g;have f:k8 p.sl:=⟨Z9,λi hi=>Nat.le_trans (g i hi) U4⟩
 have h:=wE p.sl f.2 p.sl.length (U9 _);have h:(R7 p.sl).length<=5000:=by unfold R7;omega
 have e:(wZ p.Q.toNat).length=2:=rfl;have d:List.take 2 (List.map P9 [(112:Int),IntKind.u8.wrap no])=[P9 112,zC no]:=rfl;have n:List.take (2+(wZ p.Q.toNat).length) ([P9 112,zC no]++wZ p.Q.toNat)=[P9 112,zC no]++wZ p.Q.toNat:=List.take_of_length_le E3
 have key:List.take (2+(wZ p.Q.toNat).length) (List.take 2 (List.map P9 [(112:Int),IntKind.u8.wrap no])++wZ p.Q.toNat)++R7 p.sl=sT no p:=by rw[d,n];rfl
 refine R1 (gC mM (gC l01Fields_ok (gC mU gN))) func257 Y5 (α:=(O1 IntKind.u8 (112:Int)/\O1 IntKind.u8 (IntKind.u8.wrap no))/\∃(x:iB.ι),((p.Q=(x.1:Int)/\(2=match x.2 with|true=>(4:Int)|false=>(2:Int))/\True)/\True)/\(Le 2 2/\U2 2 (match x.2 with|true=>z7 x.1|false=>wZ x.1).length 1)/\∃(X:wD.ι),(((Z3 Z6 p.sl X)/\True)/\k8 X)/\(Le (2+(match x.2 with|true=>z7 x.1|false=>wZ x.1).length) (List.take 2 (List.map P9 [(112:Int),IntKind.u8.wrap no])++match x.2 with|true=>z7 x.1|false=>wZ x.1).length/\U2 (2+(match x.2 with|true=>z7 x.1|false=>wZ x.1).length) (R7 X).length 1)/\yK (2+(match x.2 with|true=>z7 x.1|false=>wZ x.1).length+(R7 X).length) (List.take (2+(match x.2 with|true=>z7 x.1|false=>wZ x.1).length) (List.take 2 (List.map P9 [(112:Int),IntKind.u8.wrap no])++match x.2 with|true=>z7 x.1|false=>wZ x.1)++R7 X)/\List.take (2+(match x.2 with|true=>z7 x.1|false=>wZ x.1).length) (List.take 2 (List.map P9 [(112:Int),IntKind.u8.wrap no])++match x.2 with|true=>z7 x.1|false=>wZ x.1)++R7 X++z7 (j3 (List.take (2+(match x.2 with|true=>z7 x.1|false=>wZ x.1).length) (List.take 2 (List.map P9 [(112:Int),IntKind.u8.wrap no])++match x.2 with|true=>z7 x.1|false=>wZ x.1)++R7 X))=S3 no p) ⟨⟨(i8 _).2 Z9,N9 _⟩,(p.Q.toNat,false),⟨⟨D9,Y1⟩,Z5⟩,⟨U9 _,a8P,a8P⟩,p.sl,⟨Y1,f⟩,⟨?_,a8P,a8P⟩,?_,?_⟩
 ·unfold Le;rw[d,J6];exact U9 _
 ·show yK _ (List.take (2+(wZ p.Q.toNat).length) (List.take 2 (List.map P9 [(112:Int),IntKind.u8.wrap no])++wZ p.Q.toNat)++R7 p.sl);rw[key];have hl:(sT no p).length=2+(wZ p.Q.toNat).length+(R7 p.sl).length:=by unfold sT;simp;omega
  exact⟨hl.symm,by rw[hl,e];omega⟩
 ·show List.take (2+(wZ p.Q.toNat).length) (List.take 2 (List.map P9 [(112:Int),IntKind.u8.wrap no])++wZ p.Q.toNat)++R7 p.sl++z7 (j3 (List.take (2+(wZ p.Q.toNat).length) (List.take 2 (List.map P9 [(112:Int),IntKind.u8.wrap no])++wZ p.Q.toNat)++R7 p.sl))=_;rw[key];rfl
def dQ:Rl:=⟨List (Bz),λL=>[yC L,yC L],λ_=>.bool true,λL=>L.length<=1048576⟩
def a3A:Rl:=⟨List Int,λL=>[aX L,aX L],λ_=>.bool true,λL=>L.length<=1048576⟩
def kT(d:Dsk):Prop:=d.E.length<=1048576/\d.C.length<=1048576/\d.keep.length<=1048576
def a98:Rl:=⟨Dsk,λd=>[.agg d.ts,.agg d.ts],λ_=>.bool true,kT⟩
def SmG(p:Pg):Prop:=p.sl.length<=1048576
def b7y:Rl:=⟨Pg,λp=>[.agg p.ts,.agg p.ts],λ_=>.bool true,SmG⟩
def SmF(f:Frm):Prop:=SmG f.pg
def SmS(s:Sto):Prop:=kT s.d/\s.L.length<=1048576/\s.fr.length<=1048576/\∀i,i<s.fr.length->SmF (s.fr.getD i dz)
def a9l:Rl:=⟨Sto,λs=>[.agg s.ts,.agg s.ts],λ_=>.bool true,SmS⟩
structure Val where
 k:Int
 n:Int
 t:Bz
 deriving Inhabited
def Val.ts(v:Val):List T:=[Ji v.k,Ji v.n,.str v.t]
structure Rw where
 id:Int
 n:Val
 name:Val
 deriving Inhabited
def Rw.ts(r:Rw):List T:=[Ji r.id,Ji r.n.k,Ji r.n.n,.str r.n.t,Ji r.name.k,Ji r.name.n,.str r.name.t]
structure Chg where
 se:Int
 ta:Int
 row:Rw
 G:Bool
 deriving Inhabited
def Chg.ts(c:Chg):List T:=[Ji c.se,Ji c.ta,Ji c.row.id,Ji c.row.n.k,Ji c.row.n.n,.str c.row.n.t,Ji c.row.name.k,Ji c.row.name.n,.str c.row.name.t,.bool c.G]
def a3f(c:UInt8):Bool:=decide (c.toNat≥97)&&decide (c.toNat<=122)
def nI(t:Bz)(i:Nat):Bool:= !a3f (t.getD i 0)
def i5(t:Bz):Bool:= !anyI t.length (nI t)&&decide (t.length<=10)
def Q5(v:Val):Bool:=if v.k=0 then(v.n==0)&&(v.t==[]) else if v.k=1 then V8 v.n (-1000000000) 1000000000&&(v.t==[]) else(v.k==2)&&(v.n==0)&&i5 v.t
def L4(r:Rw):Bool:=V8 r.id 0 1000&&Q5 r.n&&(r.n.k !=2)&&Q5 r.name&&(r.name.k !=1)
def gF:Rl:=⟨UInt8,λc=>[.int .u8 c.toNat],λc=>.bool (a3f c),λ_=>True⟩
def a6t:Con:=.rel gF
theorem a72(c:UInt8)(h:
  (decide ((c.toNat:Int)≥(97:Int))&&decide ((c.toNat:Int)<=122))=a3f c):
  U5 prog 182 [.int .u8 c.toNat] (.bool (a3f c)):=
 R1 gN func182 Y5 h
theorem a2V:GK 182 a6t:=gk func182<|λc _=>a72 c (by unfold a3f;congr 1<;>exact decide_eq_decide.2 Z9)
def cL(t:Bz):Prop:=M3 t.length
theorem a9O{p:Prop}(h:p:=by unfold cL M3;simp):p:=h
def a3U:Rl:=⟨Bz,λt=>[.str t],λt=>.bool (i5 t),cL⟩
def b3N:Con:=.rel a3U
def b7o(t:Bz):Nat->Ann
 |0=>.one (V2 t.length (nI t)) (λx=>⟨[(0,.str t),(5,Ji t.length),(6,Ji x.1)],[]⟩) (λx=>t.length-x.1) [] [] (λ_=>Y5)
 |_=>.none
theorem b0Z:GK 116 b3N:=gk func116<|by
 intro(t:Bz) (h:t.length<1000000000000);refine R1 (gC a2V gN) func116 (b7o t) (α:=let p:=(t.length:Int);(∃(x:V2 t.length (nI t)),(t=t/\p=p/\0=(x.1:Int)/\True)/\True)/\∀(x:V2 t.length (nI t)),let q:=(x.1:Int);bd (q<p) (V3 q t.length/\∃(X:gF.ι),(((↑(t.getD q.toNat (0:UInt8)).toNat:Int)=(↑(UInt8.toNat X):Int)/\True)/\True)/\br (!a3f X) (false=i5 t) (Ri (q+1)/\∃(y:V2 t.length (nI t)),((t=t/\p=p/\q+1=(y.1:Int)/\True)/\True)/\Lt (t.length-y.1) (t.length-x.1))) (decide (p<=10)=i5 t)) ⟨⟨E7,Y1⟩,λx=>⟨λhc=>?_,λhc=>?_⟩⟩
 ·have hlt:=Y0 hc;refine⟨X9 hlt,t.getD x.1 0,Y1,λhp=>?_,λhp=>⟨V4 hlt Z9,x.succ hlt hp,⟨⟨rfl,rfl,J0,Z5⟩,Z5⟩,V2.ext_lt hlt⟩⟩
  have:anyI t.length (nI t)=true:=R2.2 ⟨x.1,hlt,hp⟩;unfold i5;rw[this];rfl
 ·have hge:=X3 hc;have:anyI t.length (nI t)=false:=P8.2 λi hi=>x.2.2 i (xC hi hge)
  unfold i5;rw[this];show _=decide (t.length<=10);exact decide_eq_decide.2 Z9
def a7G:Con:=.rel ⟨Int,λn=>[Ji n],λn=>.bool (V8 n (-1000000000) 1000000000),λ_=>True⟩
theorem a56(n:Int)(h:
let p:=(-1000000000:Int);  V8 n p 1000000000=V8 n p (1000000000:Int)):
  U5 prog 115 [Ji n] (.bool (V8 n (-1000000000) 1000000000)):=
 R1 (gC P1 gN) func115 Y5 h
theorem a4O:GK 115 a7G:=gk func115<|λn _=>a56 n rfl
def E9:Rl:=⟨Val,λv=>[.agg v.ts],λv=>.bool (Q5 v),λv=>cL v.t⟩
def a7r:Con:=.rel E9
def a7W:Con:=.rel E9
theorem kF:GK 56 a7r:=gk func56<|by
 intro(v:Val) h;refine R1 (gC a4O (gC b0Z gN)) func56 Y5 (α:=br (v.k==0) ((v.k==0&&(v.n==0&&(v.t==[]&&true)))=Q5 v) (br (v.k==1) (∃(x:Int),((v.n=x/\True)/\True)/\(V8 x (-1000000000:Int) (1000000000:Int)&&v.t==[])=Q5 v) (∃(x:a3U.ι),((v.k==2&&v.n==0)=true->(v.t=x/\True)/\cL x)/\(v.k==2&&v.n==0&&i5 x)=Q5 v))) ⟨λh0=>?_,λh0=>⟨λe=>⟨v.n,Y1,?_⟩,λe=>⟨v.t,λ_=>⟨Y1,h⟩,?_⟩⟩⟩
 ·have h0':v.k=0:=by simpa using h0
  unfold Q5;rw[if_pos h0',h0,Bool.true_and,Bool.and_true]
 ·have h0':v.k≠0:=by simpa using h0
  have d:v.k=1:=by simpa using e
  unfold Q5;rw[if_neg h0',if_pos d]
 ·have h0':v.k≠0:=by simpa using h0
  have d:v.k≠1:=by simpa using e
  unfold Q5;rw[if_neg h0',if_neg d]
def c4T(v:Val):Option Ob:=some (.arr true 1000000 3 1 λ_=>v.ts)
def a55(v:Val):Nat->Ann
 |0=>.one (V2 v.t.length (nI v.t)) (λx=>⟨[(1,.ref 0 0 0),(3,Ji x.1)],[c4T v]⟩) (λx=>v.t.length-x.1) [.box 0] [.box 0] (λ_=>Y5)
 |_=>.none
theorem c5O{v:Val}(h:v.k=2)(N:v.n=0)(l:v.t.length<=10):Q5 v= !anyI v.t.length (nI v.t):=by
 unfold Q5;rw[if_neg Z9,if_neg Z9,h,N]
 unfold i5;rw[pH l,Bool.and_true];rfl
theorem kL:GK 243 a7W:=gk func243<|by
 intro(v:Val) (h:v.t.length<1000000000000);refine R1 (gC C0 gN) func243 (a55 v) (α:=let z:=(v.t.length:Int);let r:=(false=Q5 v);let p:=(oo (v.k=v.k/\v.n=v.n/\v.t=v.t/\True));br (v.k==0) ((v.n==0&&v.t==[])=Q5 v) (br (v.k==1) ((V8 v.n (-1000000000:Int) (1000000000:Int)&&v.t==[])=Q5 v) (br (v.k==2) (br (v.n !=0||decide (z>10)) r ((∃(x:V2 v.t.length (nI v.t)),((0=0/\0=0)/\0=(x.1:Int)/\True)/\p/\True)/\∀(x:V2 v.t.length (nI v.t)),let q:=(x.1:Int);bd (q<z) (V3 q v.t.length/\br (!V8 (IntKind.i64.wrap (↑(v.t.getD q.toNat (0:UInt8)).toNat:Int)) (97:Int) (122:Int)) r (Ri (q+1)/\∃(y:V2 v.t.length (nI v.t)),(((0=0/\0=0)/\q+1=(y.1:Int)/\True)/\p/\True)/\Lt (v.t.length-y.1) (v.t.length-x.1))) (true=Q5 v))) r))) ⟨λh0=>?_,λh0=>⟨λf=>?_,λf=>⟨λh2=>⟨λhb=>?_,λhb=>?_⟩,λh2=>?_⟩⟩⟩
 ·have h0':v.k=0:=by simpa using h0
  unfold Q5;rw[if_pos h0']
 ·have h0':v.k≠0:=by simpa using h0
  have d:v.k=1:=by simpa using f
  unfold Q5;rw[if_neg h0',if_pos d]
 ·have h2':v.k=2:=by simpa using h2
  unfold Q5 i5;rw[if_neg Z9,if_neg Z9]
  simp only[qY,bne_iff_ne,g7] at hb;by_cases hn:v.n=0
  ·rw[tH (p:=v.t.length<=10) (by rcases hb with hb|hb<;>omega)]
   simp
  ·rw[show(v.n==0)=false by simpa using hn]
   simp
 ·have h2':v.k=2:=by simpa using h2
  simp only[zY,bne_eq_false_iff_eq,qW] at hb;obtain⟨hn,l⟩:=hb;have e:=c5O h2' hn Z9
  refine⟨⟨E7,Y1⟩,λx=>⟨λhc=>?_,λhc=>?_⟩⟩
  ·have hlt:=Y0 hc;rw[uW,C8,show V8 ((v.t.getD x.1 0).toNat:Int) 97 122=a3f (v.t.getD x.1 0) by unfold V8 a3f;congr 1<;>exact decide_eq_decide.2 Z9]
   refine⟨X9 hlt,λhp=>?_,λhp=>⟨V4 hlt Z9,x.succ hlt hp,⟨⟨Y1,J0,Z5⟩,Y1⟩,V2.ext_lt hlt⟩⟩
   have:anyI v.t.length (nI v.t)=true:=R2.2 ⟨x.1,hlt,hp⟩;rw[e,this];rfl
  ·have hge:=X3 hc;have:anyI v.t.length (nI v.t)=false:=P8.2 λi hi=>x.2.2 i (xC hi hge)
   rw[e,this];rfl
 ·have h0':v.k≠0:=by simpa using h0
  have d:v.k≠1:=by simpa using f
  unfold Q5;rw[if_neg h0',if_neg d,h2];rfl
def b0G:Con:=.rel ⟨Int,λn=>[Ji n],λn=>.bool (V8 n 1 3),λ_=>True⟩
theorem b2v(n:Int)(h:
  V8 n (1:Int) 3=V8 n (1:Int) (3:Int)):
  U5 prog 27 [Ji n] (.bool (V8 n 1 3)):=
 R1 (gC P1 gN) func27 Y5 h
theorem pL:GK 27 b0G:=gk func27<|λn _=>b2v n rfl
def c41:Con:=.rel ⟨Int,λn=>[Ji n],λn=>.bool (V8 n 0 1000),λ_=>True⟩
theorem c4q(n:Int)(h:
  V8 n (0:Int) 1000=V8 n (0:Int) (1000:Int)):
  U5 prog 32 [Ji n] (.bool (V8 n 0 1000)):=
 R1 (gC P1 gN) func32 Y5 h
theorem a96:GK 32 c41:=gk func32<|λn _=>c4q n rfl
def RwB(r:Rw):Prop:=cL r.n.t/\cL r.name.t
def nS:Rl:=⟨Rw,λr=>[.agg r.ts],λr=>.bool (L4 r),RwB⟩
def b89:Con:=.rel nS
def b4V:Con:=.rel nS
theorem a5z:GK 26 b89:=gk func26<|by
 rintro(r:Rw) ⟨h1,h2⟩;exact R1 (gC a96 (gC kF gN)) func26 Y5 (α:=∃(x:Int),((r.id=x/\True)/\True)/\∃(X:E9.ι),(V8 x (0:Int) 1000=true->((r.n.k=X.k/\r.n.n=X.n/\r.n.t=X.t/\True)/\True)/\cL X.t)/\∃(d:E9.ι),((V8 x (0:Int) (1000:Int)&&Q5 X&&r.n.k !=2)=true->((r.name.k=d.k/\r.name.n=d.n/\r.name.t=d.t/\True)/\True)/\cL d.t)/\(V8 x (0:Int) (1000:Int)&&Q5 X&&r.n.k !=2&&Q5 d&&r.name.k !=1)=L4 r) ⟨r.id,Y1,r.n,λ_=>⟨Y1,h1⟩,r.name,λ_=>⟨Y1,h2⟩,rfl⟩
theorem b3b:GK 212 b4V:=gk func212<|by
 rintro(r:Rw) ⟨h1,h2⟩;refine R1 (gC C0 (gC kL gN)) func212 Y5 (α:=∃(x:E9.ι),(V8 r.id (0:Int) 1000=true->((r.n.k=x.k/\r.n.n=x.n/\r.n.t=x.t/\True)/\True)/\cL x.t)/\∃(X:E9.ι),((V8 r.id (0:Int) (1000:Int)&&Q5 x)=true->((r.name.k=X.k/\r.name.n=X.n/\r.name.t=X.t/\True)/\True)/\cL X.t)/\(V8 r.id (0:Int) (1000:Int)&&Q5 x&&Q5 X&&r.n.k !=2&&r.name.k !=1)=L4 r) ⟨r.n,λ_=>⟨Y1,h1⟩,r.name,λ_=>⟨Y1,h2⟩,?_⟩
 unfold L4;generalize V8 r.id 0 1000=a;generalize Q5 r.n=b;generalize (r.n.k !=2)=c;generalize Q5 r.name=d;cases a<;>cases b<;>cases c<;>cases d<;>rfl
structure Lck where
 tx:Int
 ta:Int
 row:Int
 mo:Int
 deriving Inhabited
def Lck.ts(l:Lck):List T:=[Ji l.tx,Ji l.ta,Ji l.row,Ji l.mo]
structure Wt where
 tx:Int
 fo:Int
 deriving Inhabited
def Wt.ts(w:Wt):List T:=[Ji w.tx,Ji w.fo]
def Y2(L:List Lck)(i:Nat):List T:=(L.getD i dz).ts
def dT(L:List Lck):T:=.sl 4 L.length (Y2 L)
def X8(L:List Wt)(i:Nat):List T:=(L.getD i dz).ts
def wtS(L:List Wt):T:=.sl 2 L.length (X8 L)
structure Lks where
 H:List Lck
 W:List Wt
 deriving Inhabited
def Lks.ts(l:Lks):List T:=[dT l.H,wtS l.W]
def sI(l:Lks):Option Ob:=some (.arr true 1000000 2 1 λ_=>l.ts)
def pS(a b:Int):Bool:=(a !=4)&&(b !=4)&&((a==1)||(b==1)||(a==b))
def qB(a b:Lck):Bool:=(a.tx==b.tx)&&((a.ta==b.ta)&&((a.row==b.row)&&((a.mo==b.mo)&&true)))
def sP(a b:Lck):Bool:=(a.ta==b.ta)&&(a.row==b.row)
def clash(a b:Lck):Bool:=(a.tx !=b.tx)&&sP a b&& !pS a.mo b.mo
def i9(l:Lck):Bool:=V8 l.tx 1 60&&V8 l.ta 1 3&&V8 l.row (-1) 1000&&V8 l.mo 1 4&&(decide (l.row<0)||decide (l.mo≥3))
def xK(L:List Lck)(a:Lck)(k:Nat):Bool:=qB a (L.getD k dz)||clash a (L.getD k dz)
def C2(L:List Lck)(i:Nat):Bool:= !i9 (L.getD i dz)||anyI i (xK L (L.getD i dz))
def A1(L:List Wt)(i:Nat):Bool:= !V8 (L.getD i dz).tx 1 60|| !V8 (L.getD i dz).fo 1 60||((L.getD i dz).tx==(L.getD i dz).fo)
def F8(l:Lks):Bool:= !anyI l.H.length (C2 l.H)&&(decide (l.H.length<=60)&&decide (l.W.length<=100)&& !anyI l.W.length (A1 l.W))
def b5U(l:Lks):Prop:=M3 l.H.length/\M3 l.W.length
def b6W:Con:=.rel ⟨Int,λn=>[Ji n],λn=>.bool (V8 n 1 4),λ_=>True⟩
theorem b3Z(n:Int)(h:
  V8 n (1:Int) 4=V8 n (1:Int) (4:Int)):
  U5 prog 224 [Ji n] (.bool (V8 n 1 4)):=
 R1 (gC P1 gN) func224 Y5 h
theorem b1z:GK 224 b6W:=gk func224<|λn _=>b3Z n rfl
def c22:Con:=.rel ⟨Int,λn=>[Ji n],λn=>.bool (V8 n 1 60),λ_=>True⟩
theorem c5F(n:Int)(h:
  V8 n (1:Int) 60=V8 n (1:Int) (60:Int)):
  U5 prog 175 [Ji n] (.bool (V8 n 1 60)):=
 R1 (gC P1 gN) func175 Y5 h
theorem a9H:GK 175 c22:=gk func175<|λn _=>c5F n rfl
def b6w:Con:=.rel ⟨Lck,λl=>[.agg l.ts],λl=>.bool (i9 l),λ_=>True⟩
theorem b6I(l:Lck)(h:
  ∃(x:Int),((l.tx=x/\True)/\True)/\∃(X:Int),((V8 x (1:Int) (60:Int)&&V8 l.ta (1:Int) (3:Int)&&V8 l.row (-1:Int) (1000:Int))=true->(l.mo=X/\True)/\True)/\(V8 x (1:Int) (60:Int)&&V8 l.ta (1:Int) (3:Int)&&V8 l.row (-1:Int) (1000:Int)&&V8 X (1:Int) (4:Int)&&(decide (l.row<0)||decide (l.mo≥(3:Int))))=i9 l):
  U5 prog 171 [.agg l.ts] (.bool (i9 l)):=
 R1 (gC a9H (gC P1 (gC b1z gN))) func171 Y5 h
theorem b26:GK 171 b6w:=gk func171<|λl _=>b6I l ⟨l.tx,Y1,l.mo,λ_=>Y1,rfl⟩
def b6V:Con:=.rel ⟨Lck,λl=>l.ts,λl=>.bool (i9 l),λ_=>True⟩
theorem b0X:GK 152 b6V:=gk func152<|by
 intro(l:Lck) _;refine R1 (gC C0 gN) func152 Y5 (α:=(V8 l.tx (1:Int) (60:Int)&&V8 l.ta (1:Int) (3:Int)&&V8 l.row (-1:Int) (1000:Int)&&V8 l.mo (1:Int) (4:Int)&&(l.row==(-1:Int)||decide (l.mo≥(3:Int))))=i9 l) ?_
 unfold i9;cases h:V8 l.row (-1) 1000
 ·simp
 ·have d:=h;unfold V8 at d;simp only[M1,g7] at d;rw[show(l.row== -1)=decide (l.row<0) by rw[Bool.eq_iff_iff,beq_iff_eq,g7];omega]
def fG:Con:=.rel ⟨Int×Int,λx=>[Ji x.1,Ji x.2],λx=>.bool (pS x.1 x.2),λ_=>True⟩
def b7z:Con:=fG
theorem a8d(a b:Int)(h:
  (a !=4&&b !=4&&(a==1||b==1||a==b))=pS a b):
  U5 prog 226 [Ji a,Ji b] (.bool (pS a b)):=
 R1 gN func226 Y5 h
theorem a4Q:GK 226 fG:=gk func226<|λx _=>a8d x.1 x.2 rfl
theorem b1w:GK 153 b7z:=gk func153<|by
 rintro⟨a,b⟩ _;refine R1 gN func153 Y5 (α:=br (a==4||b==4) (false=pS a b) (br (a==1||b==1) (true=pS a b) ((a==b)=pS a b))) ⟨λh=>?_,λh=>⟨λg=>?_,λg=>?_⟩⟩<;>unfold pS<;>simp at*
 ·intro d e;rcases h with h|h<;>omega
 ·exact⟨h,by rcases g with g|g<;>simp[g]⟩
 ·rw[show(a !=4)=true by simpa using h.1,show(b !=4)=true by simpa using h.2,show(a==1)=false by simpa using g.1,show(b==1)=false by simpa using g.2]
  rfl
def a1H:Con:=.rel ⟨Lck×Lck,λx=>[.agg x.1.ts,.agg x.2.ts],λx=>.bool (sP x.1 x.2),λ_=>True⟩
theorem a2i(a b:Lck)(h:
  (a.ta==b.ta&&a.row==b.row)=sP a b):
  U5 prog 225 [.agg a.ts,.agg b.ts] (.bool (sP a b)):=
 R1 gN func225 Y5 h
theorem pY:GK 225 a1H:=gk func225<|λx _=>a2i x.1 x.2 rfl
def b2T:Con:=.rel ⟨Lck×Lck,λx=>[.agg x.1.ts,.agg x.2.ts],λx=>.bool (clash x.1 x.2),λ_=>True⟩
theorem b2G(a b:Lck)(h:
  ∃(x:(Lck×Lck)),((a.tx !=b.tx)=true->((a.tx=x.1.tx/\a.ta=x.1.ta/\a.row=x.1.row/\a.mo=x.1.mo/\True)/\(b.tx=x.2.tx/\b.ta=x.2.ta/\b.row=x.2.row/\b.mo=x.2.mo/\True)/\True)/\True)/\∃(X:(Int×Int)),((a.tx !=b.tx&&sP x.1 x.2)=true->(a.mo=X.1/\b.mo=X.2/\True)/\True)/\(a.tx !=b.tx&&sP x.1 x.2&& !pS X.1 X.2)=clash a b):
  U5 prog 173 [.agg a.ts,.agg b.ts] (.bool (clash a b)):=
 R1 (gC pY (gC a4Q gN)) func173 Y5 h
theorem cO:GK 173 b2T:=gk func173<|λx _=>b2G x.1 x.2 ⟨(x.1,x.2),λ_=>Y1,(x.1.mo,x.2.mo),λ_=>Y1,rfl⟩
def a7C:Con:=.rel ⟨Lck×Lck,λx=>[.agg x.2.ts,.bref x.1.ts],λx=>.bool (qB x.1 x.2||clash x.1 x.2),λ_=>True⟩
theorem a6G(a b:Lck)(h:
let p:=(a.ta==b.ta&&(a.row==b.row&&(a.mo==b.mo&&true)));  ∃(x:(Lck×Lck)),((a.tx==b.tx&&p)=false->((a.tx=x.1.tx/\a.ta=x.1.ta/\a.row=x.1.row/\a.mo=x.1.mo/\True)/\(b.tx=x.2.tx/\b.ta=x.2.ta/\b.row=x.2.row/\b.mo=x.2.mo/\True)/\True)/\True)/\(a.tx==b.tx&&p||clash x.1 x.2)=(qB a b||clash a b)):
  U5 prog 172 [.agg b.ts,.bref a.ts] (.bool (qB a b||clash a b)):=
 R1 (gC cO gN) func172 Y5 h
theorem a3z:GK 172 a7C:=gk func172<|λx _=>a6G x.1 x.2 ⟨(x.1,x.2),λ_=>Y1,rfl⟩
def b9h(a:Lck):T:=.fn (.func 172) [.bref a.ts]
def b2y:Con:=.rel ⟨List Lck×Nat×Lck,λx=>[.sl 4 x.2.1 (Y2 x.1),b9h x.2.2],λx=>Ji (S5 x.2.1 (xK x.1 x.2.2)),λx=>M3 x.2.1⟩
def b0S(L:List Lck)(n:Nat)(a:Lck):Nat->Ann
 |0=>.one (V2 n (xK L a)) (λx=>⟨[(0,.sl 4 n (Y2 L)),(1,b9h a),(7,Ji n),(8,Ji x.1)],[]⟩) (λx=>n-x.1) [] [] (λ_=>Y5)
 |_=>.none
theorem a6Q:GK 177 b2y:=gk func177<|by
 rintro⟨L,n,a⟩ (hL:n<1000000000000);refine R1 (gC a3z gN) func177 (b0S L n a) (α:=let z:=(n=n/\Z7 n (Y2 L) (Y2 L));let p:=(T.bref [Ji a.tx,Ji a.ta,Ji a.row,Ji a.mo]);(∃(x:V2 n (xK L a)),(z/\(Fn.func 172=Fn.func 172/\K4 (λ(x:Nat)=>none) p p/\True)/\(n:Int)=(n:Int)/\0=(x.1:Int)/\True)/\True)/\∀(x:V2 n (xK L a)),let r:=(x.1:Int);let q:=(L.getD r.toNat dz);bd (r<(n:Int)) (V3 r n/\∃(X:(Lck×Lck)),(((q.tx=X.2.tx/\q.ta=X.2.ta/\q.row=X.2.row/\q.mo=X.2.mo/\True)/\(a.tx=X.1.tx/\a.ta=X.1.ta/\a.row=X.1.row/\a.mo=X.1.mo/\True)/\True)/\True)/\br (qB X.1 X.2||clash X.1 X.2) (r=S5 n (xK L a)) (Ri (r+1)/\∃(y:V2 n (xK L a)),((z/\(Fn.func 172=Fn.func 172/\K4 (λ(x:Nat)=>none) p p/\True)/\(n:Int)=(n:Int)/\r+1=(y.1:Int)/\True)/\True)/\Lt (n-y.1) (n-x.1))) ((-1:Int)=S5 n (xK L a))) ⟨⟨E7,⟨Y1,⟨rfl,T3 _,Z5⟩,Y1⟩,Z5⟩,λx=>⟨λC=>?_,λC=>?_⟩⟩
 ·have h:=Y0 C;refine⟨X9 h,(a,L.getD x.1 dz),Y1,λhp=>(O8 h hp x.2.2).symm,λhp=>⟨V4 h Z9,x.succ h hp,⟨⟨Y1,⟨rfl,T3 _,Z5⟩,rfl,J0,Z5⟩,Z5⟩,V2.ext_lt h⟩⟩
 ·have e:=X3 C;exact(L5 λj J=>x.2.2 j (xC J e)).symm
def b0D:Con:=.rel ⟨List Lck×Nat×Lck,λx=>[.sl 4 x.2.1 (Y2 x.1),b9h x.2.2],λx=>.bool (anyI x.2.1 (xK x.1 x.2.2)),λx=>M3 x.2.1⟩
theorem b1i(L:List Lck)(n:Nat)(a:Lck)(h:
  ∃(x:(List Lck×Nat×Lck)),(((n=x.2.1/\Z7 n (Y2 L) (Y2 x.1))/\(Fn.func 172=Fn.func 172/\(a.tx=x.2.2.tx/\a.ta=x.2.2.ta/\a.row=x.2.2.row/\a.mo=x.2.2.mo/\True)/\True)/\True)/\M3 x.2.1)/\decide (S5 x.2.1 (xK x.1 x.2.2)≥(0:Int))=anyI n (xK L a)):
  U5 prog 105 [.sl 4 n (Y2 L),b9h a] (.bool (anyI n (xK L a))):=
 R1 (gC a6Q gN) func105 Y5 h
theorem a7Y:GK 105 b0D:=gk func105<|λx h=>b1i x.1 x.2.1 x.2.2 ⟨x,⟨Y1,h⟩,C5 _ _⟩
def a61:Con:=.rel ⟨List Wt×Nat,λx=>[.agg (x.1.getD x.2 dz).ts],λx=>.bool (A1 x.1 x.2),λ_=>True⟩
theorem a6x(L:List Wt)(i:Nat)(h:
let p:=(L.getD i dz);  ∃(x:Int),((p.tx=x/\True)/\True)/\∃(X:Int),((!V8 x (1:Int) (60:Int))=false->(p.fo=X/\True)/\True)/\(!V8 x (1:Int) (60:Int)|| !V8 X (1:Int) (60:Int)||p.tx==p.fo)=A1 L i):
  U5 prog 174 [.agg (L.getD i dz).ts] (.bool (A1 L i)):=
 R1 (gC a9H gN) func174 Y5 h
theorem a3h:GK 174 a61:=gk func174<|λx _=>a6x x.1 x.2 ⟨_,Y1,_,λ_=>Y1,rfl⟩
def b7J:Con:=.rel ⟨List Wt,λL=>[wtS L,fnT 174],λL=>.int .i64 (S5 L.length (A1 L)),λL=>M3 L.length⟩
def b4Y(L:List Wt):Nat->Ann
 |0=>.one (V2 L.length (A1 L)) (λx=>⟨[(0,wtS L),(1,fnT 174),(7,Ji L.length),(8,Ji x.1)],[]⟩) (λx=>L.length-x.1) [] [] (λ_=>Y5)
 |_=>.none
theorem b2o:GK 178 b7J:=gk func178<|by
 intro(L:List Wt) (hL:L.length<1000000000000);refine R1 (gC a3h gN) func178 (b4Y L) (α:=let r:=(Fn.func 174);let q:=(L.length:Int);(∃(x:V2 L.length (A1 L)),((Z3 X8 L L)/\Value.func r #[] #[]=Value.func r #[] #[]/\q=q/\0=(x.1:Int)/\True)/\True)/\∀(x:V2 L.length (A1 L)),let p:=(x.1:Int);let z:=(L.getD p.toNat dz);bd (p<q) (V3 p L.length/\∃(X:(List Wt×Nat)),let u:=(X.1.getD X.2 dz);(((z.tx=u.tx/\z.fo=u.fo/\True)/\True)/\True)/\br (A1 X.1 X.2) (p=S5 L.length (A1 L)) (Ri (p+1)/\∃(y:V2 L.length (A1 L)),(((Z3 X8 L L)/\Value.func r #[] #[]=Value.func r #[] #[]/\q=q/\p+1=(y.1:Int)/\True)/\True)/\Lt (L.length-y.1) (L.length-x.1))) ((-1:Int)=S5 L.length (A1 L))) ⟨⟨E7,Y1⟩,λx=>⟨λC=>?_,λC=>?_⟩⟩
 ·have h:=Y0 C;refine⟨X9 h,(L,x.1),Y1,λhp=>(O8 h hp x.2.2).symm,λhp=>⟨V4 h Z9,x.succ h hp,⟨⟨Y1,rfl,rfl,J0,Z5⟩,Z5⟩,V2.ext_lt h⟩⟩
 ·have e:=X3 C;exact(L5 λj J=>x.2.2 j (xC J e)).symm
def b78:Con:=.rel ⟨List Wt,λL=>[wtS L,fnT 174],λL=>.bool (anyI L.length (A1 L)),λL=>M3 L.length⟩
theorem b5Z(L:List Wt)(h:
  ∃(x:(List Wt)),(((Z3 X8 L x)/\Value.func (Fn.func 174) #[] #[]=Value.func (Fn.func 174) #[] #[]/\True)/\M3 (x.length))/\decide (S5 (x.length) (A1 x)≥(0:Int))=anyI L.length (A1 L)):
  U5 prog 107 [wtS L,fnT 174] (.bool (anyI L.length (A1 L))):=
 R1 (gC b2o gN) func107 Y5 h
theorem b1f:GK 107 b78:=gk func107<|λ(L:List Wt) hL=>b5Z L ⟨L,⟨Y1,hL⟩,C5 _ _⟩
def rR:Rl:=⟨Lks,λl=>[.agg l.ts],λl=>.bool (F8 l),b5U⟩
def a5R:Con:=.rel rR
def a7b:Con:=.rel rR
def a7O(l:Lks):Nat->Ann
 |0=>.one (V2 l.H.length (C2 l.H)) (λx=>⟨[(1,.ref 0 0 0),(6,dT l.H),(7,Ji l.H.length),(8,Ji x.1)],[sI l]⟩) (λx=>l.H.length-x.1) [.box 0] [.box 0] (λ_=>Y5)
 |_=>.none
theorem a20:GK 103 a5R:=gk func103<|by
 rintro(l:Lks) ⟨h,hw⟩;have h:l.H.length<1000000000000:=h;refine R1 (gC b26 (gC a7Y (gC b1f gN))) func103 (a7O l) (α:=let v:=((l.W.length:Int)<=100);let u:=(Z3 Y2 l.H l.H);let z:=(oo (u/\(Z3 X8 l.W l.W)/\True));let q:=(l.H.length:Int);(∃(x:V2 l.H.length (C2 l.H)),((0=0/\0=0)/\u/\q=q/\0=(x.1:Int)/\True)/\z/\True)/\∀(x:V2 l.H.length (C2 l.H)),let r:=(x.1:Int);let p:=(l.H.getD r.toNat dz);bd (r<q) (V3 r l.H.length/\∃(d:Lck),(((p.tx=d.tx/\p.ta=d.ta/\p.row=d.row/\p.mo=d.mo/\True)/\True)/\True)/\((!i9 d)=false->lY r l.H.length)/\∃(X:(List Lck×Nat×Lck)),((!i9 d)=false->((r.toNat=X.2.1/\Z7 r.toNat (Y2 l.H) (Y2 X.1))/\(Fn.func 172=Fn.func 172/\(p.tx=X.2.2.tx/\p.ta=X.2.2.ta/\p.row=X.2.2.row/\p.mo=X.2.2.mo/\True)/\True)/\True)/\M3 X.2.1)/\br (!i9 d||anyI X.2.1 (xK X.1 X.2.2)) (false=F8 l) (Ri (r+1)/\∃(y:V2 l.H.length (C2 l.H)),(((0=0/\0=0)/\u/\q=q/\r+1=(y.1:Int)/\True)/\z/\True)/\Lt (l.H.length-y.1) (l.H.length-x.1))) (∃(x:(List Wt)),((decide (q<=60)&&decide v)=true->((Z3 X8 l.W x)/\Value.func (Fn.func 174) #[] #[]=Value.func (Fn.func 174) #[] #[]/\True)/\M3 (x.length))/\(decide (q<=60)&&decide v&& !anyI (x.length) (A1 x))=F8 l)) ⟨⟨E7,Y1⟩,λx=>⟨λhc=>?_,λhc=>?_⟩⟩
 ·have hlt:=Y0 hc;refine⟨X9 hlt,l.H.getD x.1 dz,Y1,λ_=>⟨Z9,Z9⟩,(l.H,x.1,l.H.getD x.1 dz),λ_=>⟨⟨⟨D9,W2 _ _⟩,Y1⟩,by show x.1<1000000000000;omega⟩,λhb=>?_,λhb=>⟨V4 hlt Z9,x.succ hlt hb,⟨⟨Y1,Y1,rfl,J0,Z5⟩,Y1⟩,V2.ext_lt hlt⟩⟩
  have:anyI l.H.length (C2 l.H)=true:=R2.2 ⟨x.1,hlt,hb⟩;unfold F8;rw[this];rfl
 ·have hge:=X3 hc;have:anyI l.H.length (C2 l.H)=false:=P8.2 λi hi=>x.2.2 i (xC hi hge)
  refine⟨l.W,λ_=>⟨Y1,hw⟩,?_⟩
  unfold F8;rw[this,Bool.not_false,Bool.true_and];congr 2<;>exact decide_eq_decide.2 Z9
def c2u(L:List Lck)(a:Lck)(k:Nat):Bool:=(a.ta==(L.getD k dz).ta)&&(a.row==(L.getD k dz).row)&&(qB a (L.getD k dz)||(a.tx !=(L.getD k dz).tx)&& !pS a.mo (L.getD k dz).mo)
def a7I(l:Lks):Nat->Ann
 |0=>.one (V2 l.H.length (C2 l.H)) (λx=>⟨[(1,.ref 0 0 0),(3,Ji x.1)],[sI l]⟩) (λx=>l.H.length-x.1) [.box 0] [.box 0] (λx=>fun
  |1=>.one (V2 x.1 (xK l.H (l.H.getD x.1 dz))) (λy=>⟨[(1,.ref 0 0 0),(3,Ji x.1),(4,.ref 1 0 0),(5,Ji y.1)],[sI l,some (.arr true 1000000 4 1 λ_=>(l.H.getD x.1 dz).ts)]⟩) (λy=>x.1-y.1) xZ xZ (λ_=>Y5)
  |2=>.one (V2 l.W.length (A1 l.W)) (λy=>⟨[(1,.ref 0 0 0),(7,Ji y.1)],[sI l]⟩) (λy=>l.W.length-y.1) [.box 0] [.box 0] (λ_=>Y5)
  |_=>.none)
 |_=>.none
theorem b4n(L:List Lck)(a:Lck)(k:Nat):c2u L a k=xK L a k:=by
 unfold c2u xK clash qB sP;generalize (a.ta==(L.getD k dz).ta)=p;generalize (a.row==(L.getD k dz).row)=q;generalize (a.mo==(L.getD k dz).mo)=r;generalize pS a.mo (L.getD k dz).mo=t;rw[show(a.tx !=(L.getD k dz).tx)= !(a.tx==(L.getD k dz).tx) from rfl]
 generalize (a.tx==(L.getD k dz).tx)=u;cases p<;>cases q<;>cases r<;>cases t<;>cases u<;>rfl
theorem a5H:GK 86 a7b:=gk func86<|by
 rintro(l:Lks) ⟨L,W⟩;have L:l.H.length<1000000000000:=L;have W:l.W.length<1000000000000:=W;have bh:∀i,i<l.H.length->C2 l.H i=true->false=F8 l:=λi hi hb=>by
  have:anyI l.H.length (C2 l.H)=true:=R2.2 ⟨i,hi,hb⟩;unfold F8;rw[this];rfl
 refine R1 (gC b0X (gC b1w (gC C0 gN))) func86 (a7I l) (α:=let a:=(l.W.length:Int);let g:=(l.H.length:Int);let n:=(false=F8 l);let w:=(0=0/\0=0);let r:=(oo ((Z3 Y2 l.H l.H)/\(Z3 X8 l.W l.W)/\True));br (decide (g>60)||decide (a>100)) n ((∃(x:V2 l.H.length (C2 l.H)),(w/\0=(x.1:Int)/\True)/\r/\True)/\∀(x:V2 l.H.length (C2 l.H)),let v:=(x.1:Int);let z:=(l.H.getD v.toNat dz);let p:=(l.H.getD x.1 dz);let f:=p.row;bd (v<g) (V3 v l.H.length/\∃(d:Lck),((z.tx=d.tx/\z.ta=d.ta/\z.row=d.row/\z.mo=d.mo/\True)/\True)/\br (!i9 d) n ((∃(X:V2 x.1 (xK l.H (l.H.getD x.1 dz))),(w/\v=v/\w/\0=(X.val:Int)/\True)/\r/\(oo (z.tx=p.tx/\z.ta=p.ta/\z.row=f/\z.mo=p.mo/\True))/\True)/\∀(X:V2 x.1 (xK l.H (l.H.getD x.1 dz))),let k:=(X.val:Int);let q:=(l.H.getD k.toNat dz);let j:=(p.ta==q.ta&&(f==q.row&&(p.mo==q.mo&&true)));bd (k<v) (V3 k l.H.length/\∃(e:(Int×Int)),((p.ta==q.ta&&f==q.row)=true->(p.tx==q.tx&&j)=false->(p.tx !=q.tx)=true->(p.mo=e.1/\q.mo=e.2/\True)/\True)/\br (p.ta==q.ta&&f==q.row&&(p.tx==q.tx&&j||p.tx !=q.tx&& !pS e.1 e.2)) n (Ri (k+1)/\∃(y:V2 x.1 (xK l.H (l.H.getD x.1 dz))),((w/\v=v/\w/\k+1=(y.1:Int)/\True)/\r/\(oo (p.tx=p.tx/\p.ta=p.ta/\f=f/\p.mo=p.mo/\True))/\True)/\Lt (x.1-y.1) (x.1-X.val))) (Ri (v+1)/\∃(y:V2 l.H.length (C2 l.H)),((w/\v+1=(y.1:Int)/\True)/\r/\True)/\Lt (l.H.length-y.1) (l.H.length-x.1)))) ((∃(x:V2 l.W.length (A1 l.W)),(w/\0=(x.1:Int)/\True)/\r/\True)/\∀(x:V2 l.W.length (A1 l.W)),let m:=(x.1:Int);let u:=(l.W.getD m.toNat dz);bd (m<a) (V3 m l.W.length/\br (!V8 u.tx (1:Int) (60:Int)|| !V8 u.fo (1:Int) (60:Int)||u.tx==u.fo) n (Ri (m+1)/\∃(y:V2 l.W.length (A1 l.W)),((w/\m+1=(y.1:Int)/\True)/\r/\True)/\Lt (l.W.length-y.1) (l.W.length-x.1))) (true=F8 l)))) ⟨λh=>?_,λh=>⟨⟨E7,Y1⟩,λx=>⟨λhc=>?_,λhc=>⟨⟨E7,Y1⟩,λy=>⟨λhy=>?_,λhy=>?_⟩⟩⟩⟩⟩
 ·simp only[qY,g7] at h;unfold F8;rcases h with h|h
  ·rw[tH (p:=l.H.length<=60) Z9]
   simp
  ·rw[tH (p:=l.W.length<=100) Z9]
   simp
 ·have hlt:=Y0 hc;refine⟨X9 hlt,l.H.getD x.1 dz,Y1,λhb=>bh _ hlt (by unfold C2;rw[hb];rfl),λhb=>⟨⟨E7,Y1⟩,λy=>⟨λhy=>?_,λhy=>?_⟩⟩⟩
  ·have hyt:=Y0 hy;refine⟨X9 Z9,((l.H.getD x.1 dz).mo,(l.H.getD y.1 dz).mo),λ_ _ _=>Y1,λhq=>?_,λhq=>⟨V4 hyt Z9,y.succ hyt ((b4n _ _ _).symm.trans hq),⟨⟨Y1,rfl,Y1,J0,Z5⟩,Y1⟩,V2.ext_lt hyt⟩⟩
   refine bh _ hlt ?_
   unfold C2;have:anyI x.1 (xK l.H (l.H.getD x.1 dz))=true:=R2.2 ⟨y.1,hyt,(b4n _ _ _).symm.trans hq⟩;rw[this,Bool.or_true]
  ·have hge:=X3 hy;have:anyI x.1 (xK l.H (l.H.getD x.1 dz))=false:=P8.2 λi hi=>y.2.2 i (xC hi hge)
   exact⟨V4 hlt Z9,x.succ hlt (by unfold C2;rw[hb,this];rfl),⟨⟨⟨rfl,rfl⟩,J0,Z5⟩,⟨rfl,rfl,⟨rfl,W2 _ _⟩,⟨rfl,W2 _ _⟩,Z5⟩,Z5⟩,V2.ext_lt hlt⟩
 ·have hlt:=Y0 hy;refine⟨X9 hlt,λhq=>?_,λhq=>⟨V4 hlt Z9,y.succ hlt hq,⟨⟨Y1,J0,Z5⟩,Y1⟩,V2.ext_lt hlt⟩⟩
  have:anyI l.W.length (A1 l.W)=true:=R2.2 ⟨y.1,hlt,hq⟩;unfold F8;rw[this];simp
 ·have g1:=X3 hc;have g2:=X3 hy;have e1:anyI l.H.length (C2 l.H)=false:=P8.2 λi hi=>x.2.2 i (xC hi g1)
  have f:anyI l.W.length (A1 l.W)=false:=P8.2 λi hi=>y.2.2 i (xC hi g2)
  simp only[zY,qW] at h;unfold F8;rw[e1,f,pH (p:=l.H.length<=60) Z9,pH (p:=l.W.length<=100) Z9]
  rfl
structure Txn where
 id:Int
 Z:Int
 deriving Inhabited
def Txn.ts(t:Txn):List T:=[Ji t.id,Ji t.Z]
def X4(L:List Txn)(i:Nat):List T:=(L.getD i dz).ts
def a3G(L:List Txn):T:=.sl 2 L.length (X4 L)
structure Eng where
 s:Sto
 up:Bool
 X:List Txn
 lk:Lks
 N:Int
 deriving Inhabited
def Eng.ts(e:Eng):List T:=[yC e.s.d.E,qA e.s.d.C,.bool e.s.d.A,aX e.s.d.keep,Ji e.s.ep,pB e.s.L,Ji e.s.S,a6h e.s.fr,Ji e.s.J,.bool e.up,a3G e.X,dT e.lk.H,wtS e.lk.W,Ji e.N]
abbrev F9(a b:Eng):Prop:=(a.s.d.E.length=b.s.d.E.length/\Z7 a.s.d.E.length (Z6 a.s.d.E) (Z6 b.s.d.E))/\(a.s.d.C.length=b.s.d.C.length/\Z7 a.s.d.C.length (Z2 a.s.d.C) (Z2 b.s.d.C))/\a.s.d.A=b.s.d.A/\(a.s.d.keep.length=b.s.d.keep.length/\Z7 a.s.d.keep.length (Z0 a.s.d.keep) (Z0 b.s.d.keep))/\a.s.ep=b.s.ep/\(a.s.L.length=b.s.L.length/\Z7 a.s.L.length (Y6 a.s.L) (Y6 b.s.L))/\a.s.S=b.s.S/\(a.s.fr.length=b.s.fr.length/\Z7 a.s.fr.length (X2 a.s.fr) (X2 b.s.fr))/\a.s.J=b.s.J/\a.up=b.up/\(a.X.length=b.X.length/\Z7 a.X.length (X4 a.X) (X4 b.X))/\(a.lk.H.length=b.lk.H.length/\Z7 a.lk.H.length (Y2 a.lk.H) (Y2 b.lk.H))/\(a.lk.W.length=b.lk.W.length/\Z7 a.lk.W.length (X8 a.lk.W) (X8 b.lk.W))/\a.N=b.N/\True
theorem tG(s:Eng):F9 s s:=Y1
theorem a9t{p:Prop}(h:p:=by dsimp only;rw[hS];exact tG _):p:=h
def A5(e:Eng):Option Ob:=some (.arr true 1000000 14 1 λ_=>e.ts)
def G7(L:List Txn)(id:Int)(i:Nat):Bool:=(L.getD i dz).id==id
def T9(L:List Txn)(id:Int):Int:=S5 L.length (G7 L id)
def c03:Con:=.rel ⟨Txn×Int,λx=>[.agg x.1.ts,.bref [Ji x.2]],λx=>.bool (x.1.id==x.2),λ_=>True⟩
theorem b9Y(t:Txn)(id:Int)(h:
  (t.id==id)=(t.id==id)):
  U5 prog 146 [.agg t.ts,.bref [Ji id]] (.bool (t.id==id)):=
 R1 gN func146 Y5 h
theorem b4S:GK 146 c03:=gk func146<|λx _=>b9Y x.1 x.2 rfl
def txF(id:Int):T:=.fn (.func 146) [.bref [Ji id]]
def b54:Con:=.rel ⟨List Txn×Int,λx=>[a3G x.1,txF x.2],λx=>Ji (T9 x.1 x.2),λx=>M3 x.1.length⟩
def b42(L:List Txn)(id:Int):Nat->Ann
 |0=>.one (V2 L.length (G7 L id)) (λx=>⟨[(0,a3G L),(1,txF id),(7,Ji L.length),(8,Ji x.1)],[]⟩) (λx=>L.length-x.1) [] [] (λ_=>Y5)
 |_=>.none
theorem b2h:GK 145 b54:=gk func145<|by
 rintro⟨L,id⟩ (hL:L.length<1000000000000);refine R1 (gC b4S gN) func145 (b42 L id) (α:=let r:=(L.length:Int);let p:=(T.bref [Ji id]);(∃(x:V2 L.length (G7 L id)),((Z3 X4 L L)/\(Fn.func 146=Fn.func 146/\K4 (λ(x:Nat)=>none) p p/\True)/\r=r/\0=(x.1:Int)/\True)/\True)/\∀(x:V2 L.length (G7 L id)),let q:=(x.1:Int);let z:=(L.getD q.toNat dz);bd (q<r) (V3 q L.length/\∃(X:(Txn×Int)),(((z.id=X.1.id/\z.Z=X.1.Z/\True)/\(id=X.2/\True)/\True)/\True)/\br (X.1.id==X.2) (q=T9 L id) (Ri (q+1)/\∃(y:V2 L.length (G7 L id)),(((Z3 X4 L L)/\(Fn.func 146=Fn.func 146/\K4 (λ(x:Nat)=>none) p p/\True)/\r=r/\q+1=(y.1:Int)/\True)/\True)/\Lt (L.length-y.1) (L.length-x.1))) ((-1:Int)=T9 L id)) ⟨⟨E7,⟨Y1,⟨rfl,T3 _,Z5⟩,Y1⟩,Z5⟩,λx=>⟨λC=>?_,λC=>?_⟩⟩
 ·have h:=Y0 C;refine⟨X9 h,(L.getD x.1 dz,id),Y1,λhp=>(O8 h hp x.2.2).symm,λhp=>⟨V4 h Z9,x.succ h hp,⟨⟨Y1,⟨rfl,T3 _,Z5⟩,rfl,J0,Z5⟩,Z5⟩,V2.ext_lt h⟩⟩
 ·have e:=X3 C;exact(L5 λj J=>x.2.2 j (xC J e)).symm
def c36:Con:=.rel ⟨Eng×Int,λx=>[.bref x.1.ts,Ji x.2],λx=>Ji (T9 x.1.X x.2),λx=>M3 x.1.X.length⟩
theorem c4w(e:Eng)(id:Int)(h:
  ∃(x:(List Txn×Int)),(((Z3 X4 e.X x.1)/\(Fn.func 146=Fn.func 146/\(id=x.2/\True)/\True)/\True)/\M3 x.1.length)/\T9 x.1 x.2=T9 e.X id):
  U5 prog 83 [.bref e.ts,Ji id] (.int .i64 (T9 e.X id)):=
 R1 (gC b2h gN) func83 Y5 h
theorem uD:GK 83 c36:=gk func83<|λx h=>c4w x.1 x.2 ⟨(x.1.X,x.2),⟨Y1,h⟩,rfl⟩
def b97:Con:=.rel ⟨Eng×Int,λx=>[.agg x.1.ts,Ji x.2],λx=>Ji (T9 x.1.X x.2),λx=>M3 x.1.X.length⟩
def b8f(e:Eng)(id:Int):Nat->Ann
 |0=>.one (V2 e.X.length (G7 e.X id)) (λx=>⟨[(1,Ji id),(2,.ref 0 0 0),(5,Ji x.1)],[A5 e]⟩) (λx=>e.X.length-x.1) [.box 0] [.box 0] (λ_=>Y5)
 |_=>.none
theorem a5m:GK 88 b97:=gk func88<|by
 rintro⟨e,id⟩ (hL:e.X.length<1000000000000);refine R1 gN func88 (b8f e id) (α:=(∃(x:V2 e.X.length (G7 e.X id)),(id=id/\(0=0/\0=0)/\0=(x.1:Int)/\True)/\(oo (F9 e e))/\True)/\∀(x:V2 e.X.length (G7 e.X id)),let p:=(x.1:Int);bd (p<(e.X.length:Int)) (V3 p e.X.length/\br ((e.X.getD p.toNat dz).id==id) (p=T9 e.X id) (Ri (p+1)/\∃(y:V2 e.X.length (G7 e.X id)),((id=id/\(0=0/\0=0)/\p+1=(y.1:Int)/\True)/\(oo (F9 e e))/\True)/\Lt (e.X.length-y.1) (e.X.length-x.1))) ((-1:Int)=T9 e.X id)) ⟨⟨E7,Y1⟩,λx=>⟨λC=>?_,λC=>?_⟩⟩
 ·have h:=Y0 C;exact⟨X9 h,λhp=>(O8 h hp x.2.2).symm,λhp=>⟨V4 h Z9,x.succ h hp,⟨⟨rfl,Y1,J0,Z5⟩,Y1⟩,V2.ext_lt h⟩⟩
 ·have d:=X3 C;exact(L5 λj J=>x.2.2 j (xC J d)).symm
def Z4(L:List Rec)(at_:Int):Rec:=L.getD (at_-1).toNat dz
theorem b79{p:Prop}(h:p:=by show(Z4 e.s.L a).g<8;omega):p:=h
theorem b5b{p:Prop}(h:p:=by show(Z4 e.s.L a).s<4;omega):p:=h
def ownR(L:List Rec)(at_ id:Int):Bool:=V8 at_ 1 L.length&&((Z4 L at_).t==id)&&V8 (Z4 L at_).k 1 3
def okR(L:List Rec)(id at_:Int):Bool:=ownR L at_ id&&((Z4 L at_).k !=3||ownR L (Z4 L at_).n id)
def chn(L:List Rec)(id:Int):Nat->Int->Bool
 |0,_=>true
 |f+1,at_=>decide (at_<=0)||(okR L id at_&&chn L id f (Z4 L at_).p)
def nR(L:List Rec)(t:Txn):Bool:=V8 t.Z 1 L.length&&chn L t.id 61 t.Z
def w9(L:List Rec):Prop:=L.length<=60/\∀i,i<L.length->D0 (L.getD i dz)/\(L.getD i dz).l=(i:Int)+1
def b9H:Con:=.rel ⟨Sto×Int×Int,λx=>[.bref x.1.ts,Ji x.2.1,Ji x.2.2],λx=>.bool (ownR x.1.L x.2.1 x.2.2),λx=>M3 x.1.L.length⟩
theorem S2{n l hi:Int}:V8 n l hi=true↔l<=n/\n<=hi:=by
 unfold V8;simp only[M1,g7]
theorem b6l:GK 176 b9H:=gk func176<|by
 rintro⟨s,at_,id⟩ (hL:s.L.length<1000000000000);have d:V8 at_ 1 s.L.length=true->O1 .i64 (at_-1)/\V3 (at_-1) s.L.length:=λh=>by
  obtain⟨e,f⟩:=S2.1 h;exact⟨Z1 Z9,Z9,Z9⟩
 exact R1 (gC P1 gN) func176 Y5 (α:=let q:=(s.L.length:Int);let p:=(s.L.getD (at_-1).toNat dz);let r:=(V8 at_ (1:Int) q&&p.t==id);(V8 at_ (1:Int) q=true->Ri (at_-1))/\(V8 at_ (1:Int) q=true->V3 (at_-1) s.L.length)/\(r=true->Ri (at_-1))/\(r=true->V3 (at_-1) s.L.length)/\(V8 at_ (1:Int) q&&p.t==id&&V8 p.k (1:Int) (3:Int))=ownR s.L at_ id) ⟨λh=>(d h).1,λh=>(d h).2,λh=>(d (Bool.and_eq_true_iff.1 h).1).1,λh=>(d (Bool.and_eq_true_iff.1 h).1).2,rfl⟩
theorem w9.at{L:List Rec}(h:w9 L){at_:Int}(d:1<=at_)(e:at_<=L.length):D0 (Z4 L at_)/\(Z4 L at_).l=at_:=by
 obtain⟨a,b⟩:=h.2 (at_-1).toNat Z9
 exact⟨a,by unfold Z4;rw[b];omega⟩
theorem w9.prev{L:List Rec}(h:w9 L){at_:Int}(e:1<=at_)(d:at_<=L.length):0<=(Z4 L at_).p/\(Z4 L at_).p<=at_-1/\0<=(Z4 L at_).n/\(Z4 L at_).n<=at_-1:=by
 obtain⟨a,b⟩:=h.at e d;obtain⟨_,_,_,_,_,_,Q,g,f,q,_⟩:=a;omega
theorem B2{L:List Rec}{at_ id:Int}(h:ownR L at_ id=true):1<=at_/\at_<=L.length:=by
 unfold ownR at h;simp only[M1] at h;exact S2.1 h.1.1
theorem gH(L:List Rec)(id:Int){f:Nat}(F:0<f){at_:Int}(h:1<=at_):chn L id f at_=(okR L id at_&&chn L id (f-1) (Z4 L at_).p):=by
 obtain⟨g,rfl⟩:∃g,f=g+1:=⟨f-1,Z9⟩
 show(decide (at_<=0)||_)=_;rw[tH Z9,Bool.false_or]
 rfl
theorem a3T(L:List Rec)(id:Int)(f:Nat){at_:Int}(h:at_<=0):chn L id f at_=true:=by
 cases f with
 |zero=>rfl
 |succ f=>show(decide (at_<=0)||_)=_;rw[pH h];rfl
def b3U(t:Txn):Option Ob:=some (.arr true 1000000 2 1 λ_=>t.ts)
def Chn(L:List Rec)(t:Txn):Type:={x:Nat×Int//0<x.1/\(V8 x.2 1 L.length&&chn L t.id x.1 x.2)=nR L t/\(x.2.toNat<x.1∨x.1=61)}
def b1g:Con:=.rel ⟨Sto×Txn,λx=>[.bref x.1.ts,.agg x.2.ts],λx=>.bool (nR x.1.L x.2),λx=>w9 x.1.L⟩
def b07(s:Sto)(t:Txn):Nat->Ann
 |0=>.one (Chn s.L t) (λx=>⟨[(0,.bref s.ts),(3,.ref 0 0 0),(5,Ji x.1.2)],[b3U t]⟩) (λx=>x.1.1) [.box 0] [.box 0] (λ_=>Y5)
 |_=>.none
theorem a8b:GK 104 b1g:=gk func104<|by
 rintro⟨s,t⟩ (hL:w9 s.L);have j:=hL.1;refine R1 (gC b6l gN) func104 (b07 s t) (α:=let v:=(false=nR s.L t);let z:=(oo (t.id=t.id/\t.Z=t.Z/\True));let r:=(T.bref s.ts);(∃(x:Chn s.L t),(K4 (m8 [some 0]) r r/\(0=0/\0=0)/\t.Z=x.1.2/\True)/\z/\True)/\∀(x:Chn s.L t),let u:=(x.1.2-1);let q:=(s.L.getD u.toNat dz);∃(X:(Sto×Int×Int)),(((yJ s X.1)/\x.1.2=X.2.1/\t.id=X.2.2/\True)/\M3 X.1.L.length)/\br (!ownR X.1.L X.2.1 X.2.2) v (Ri u/\V3 u s.L.length/\∃(d:(Sto×Int×Int)),((q.k==3)=true->((yJ s d.1)/\q.n=d.2.1/\t.id=d.2.2/\True)/\M3 d.1.L.length)/\br (q.k==3&& !ownR d.1.L d.2.1 d.2.2) v (br (q.p==0) (true=nR s.L t) (∃(y:Chn s.L t),((K4 (m8 [some 0]) r r/\(0=0/\0=0)/\q.p=y.1.2/\True)/\z/\True)/\Lt y.1.1 x.1.1)))) ⟨⟨⟨(61,t.Z),Nat.succ_pos 60,rfl,.inr rfl⟩,⟨T3 _,Y1⟩,Y1⟩,λx=>?_⟩
 obtain⟨⟨f,at_⟩,hf,he,B⟩:=x;dsimp only at hf he B ⊢;refine⟨(s,at_,t.id),⟨⟨(iT _),Y1⟩,by unfold M3;simp only;omega⟩,λho=>?_,λho=>?_⟩
 ·simp only[wG] at ho;rw[←he];cases hi:V8 at_ 1 s.L.length
  ·rfl
  ·obtain⟨q1,q2⟩:=S2.1 hi;rw[gH _ _ hf q1];unfold okR;rw[ho];rfl
 ·simp only[yL] at ho;obtain⟨q1,q2⟩:=B2 ho;have hi:V8 at_ 1 s.L.length=true:=S2.2 ⟨q1,q2⟩;rw[hi,Bool.true_and,gH _ _ hf q1] at he;obtain⟨p1,p2,_⟩:=hL.prev q1 q2;have eo:okR s.L t.id at_=((Z4 s.L at_).k !=3||ownR s.L (Z4 s.L at_).n t.id):=by unfold okR;rw[ho,Bool.true_and]
  refine⟨Z1 Z9,⟨Z9,Z9⟩,(s,(Z4 s.L at_).n,t.id),λ_=>⟨⟨(iT _),Y1⟩,by unfold M3;simp only;omega⟩,λe=>?_,λe=>⟨λg=>?_,λg=>?_⟩⟩
  ·have e:((Z4 s.L at_).k==3&& !ownR s.L (Z4 s.L at_).n t.id)=true:=e;rw[←he,eo];simp only[M1,wG,beq_iff_eq] at e;rw[e.1,e.2];rfl
  ·have e:((Z4 s.L at_).k==3&& !ownR s.L (Z4 s.L at_).n t.id)=false:=e;have g:(Z4 s.L at_).p=0:=beq_iff_eq.1 g;have i:okR s.L t.id at_=true:=by
    rw[eo,←yL,Bool.not_or,show(!((Z4 s.L at_).k !=3))=((Z4 s.L at_).k==3) by simp[bne]]
    exact e
   rw[←he,i,g,a3T _ _ _ (Int.le_refl 0)];rfl
  ·have e:((Z4 s.L at_).k==3&& !ownR s.L (Z4 s.L at_).n t.id)=false:=e;have g:(Z4 s.L at_).p≠0:=λh=>by
    have g:((Z4 s.L at_).p==0)=false:=g;rw[h] at g;cases g
   have i:okR s.L t.id at_=true:=by
    rw[eo,←yL,Bool.not_or,show(!((Z4 s.L at_).k !=3))=((Z4 s.L at_).k==3) by simp[bne]]
    exact e
   rw[i,Bool.true_and] at he;refine⟨⟨(f-1,(Z4 s.L at_).p),D9,?_,D9⟩,⟨⟨T3 _,Y1⟩,Y1⟩,show f-1<f by omega⟩
   simp only;rw[S2.2 (show 1<=(Z4 s.L at_).p/\(Z4 s.L at_).p<=(s.L.length:Int) by omega),Bool.true_and]
   exact he
def und(L:List Rec):Nat->Int->Nat
 |0,_=>0
 |f+1,at_=>if at_<=0 then 0 else if(Z4 L at_).k=3 then und L f (Z4 L at_).n else(if(Z4 L at_).k=2 then 1 else 0)+und L f (Z4 L at_).p
def gG(m:Nat):Option Ob:=some (.arr true 1000000 1 1 λ_=>[Ji m])
def b6U:Con:=.reff ⟨Rec×Nat,λx=>[.agg x.1.ts,.ref 0 0 0],λx=>[gG x.2],λ_=>.bool true,λx=>[gG (x.2+1)],λx=>x.2<1000⟩
theorem b04:GK 227 b6U:=gk func227<|by
 rintro⟨r,m⟩ (h:m<1000);exact vcE gN func227 Y5 (bs:=[true]) (α:=Ri ((m:Int)+1)/\true=true/\(oo ((m:Int)+1=(↑(m+1):Int)/\True))/\True) ⟨Z1 Z9,rfl,⟨rfl,rfl,Z9,Z5⟩,Z5⟩
def rZ(L:List Rec)(at_:Int):Prop:=w9 L/\at_<=(L.length:Int)
def b1r:Con:=.reff ⟨Sto×Int,λx=>[.bref x.1.ts,Ji x.2,.fn (.func 227) [.ref 0 0 0]],λ_=>[gG 1],λ_=>.tup [],λx=>[gG (1+und x.1.L 61 x.2)],λx=>rZ x.1.L x.2⟩
def Und(L:List Rec)(f:Int):Type:={x:Nat×Int×Nat//x.2.2+und L x.1 x.2.1=1+und L 61 f/\x.2.1<=(L.length:Int)/\x.2.1.toNat<x.1/\x.2.2+x.1<=100}
def b1P(s:Sto)(f:Int):Nat->Ann
 |0=>.one (Und s.L f) (λx=>⟨[(0,.bref s.ts),(1,Ji x.1.2.1),(2,.fn (.func 227) [.ref 0 0 0])],[gG x.1.2.2]⟩) (λx=>x.1.1) [.box 0] [.box 0] (λ_=>Y5)
 |_=>.none
theorem a1N(L:List Rec):∀(f:Nat) (at_:Int),und L f at_<=f:=by
 intro f;induction f with
 |zero=>intro at_;exact U9 0
 |succ f i=>
  intro at_;unfold und;split
  ·omega
  ·split
   ·have:=i (Z4 L at_).n;omega
   ·have:=i (Z4 L at_).p;split<;>omega
theorem mI{L:List Rec}{f:Nat}{at_:Int}(h:0<at_)(F:at_.toNat<f)(d:(Z4 L at_).k=3):und L f at_=und L (f-1) (Z4 L at_).n:=by
 obtain⟨g,rfl⟩:∃g,f=g+1:=⟨f-1,Z9⟩
 conv=>lhs;unfold und
 rw[if_neg Z9,if_pos d]
 rfl
theorem uL{L:List Rec}{f:Nat}{at_:Int}(h:0<at_)(F:at_.toNat<f)(d:(Z4 L at_).k≠3):und L f at_=(if(Z4 L at_).k=2 then 1 else 0)+und L (f-1) (Z4 L at_).p:=by
 obtain⟨g,rfl⟩:∃g,f=g+1:=⟨f-1,Z9⟩
 conv=>lhs;unfold und
 rw[if_neg Z9,if_neg d]
 rfl
theorem nH{L:List Rec}{f:Nat}{at_:Int}(h:at_<=0):und L f at_=0:=by
 cases f with
 |zero=>rfl
 |succ f=>unfold und;rw[if_pos h]
theorem a7z:GK 147 b1r:=gk func147<|by
 rintro⟨s,F⟩ ⟨hL,L⟩;dsimp only at hL L;have q:=hL.1;refine vcE (gC b04 gN) func147 (b1P s F) (bs:=[true]) (α:=let m:=(↑(1+und s.L 61 F):Int);let j:=(m8 [some 0]);let z:=(T.bref s.ts);let r:=(Fn.func 227=Fn.func 227/\(0=0/\0=0)/\True);(∃(x:Und s.L F),(K4 j z z/\F=x.1.2.1/\r/\True)/\(oo (1=(x.1.2.2:Int)/\True))/\True)/\∀(x:Und s.L F),let f:=x.1;let w:=(f.2.1- (1:Int));let v:=(f.2.2:Int);let u:=(True/\(oo (v=m/\True))/\True);let q:=(s.L.getD w.toNat dz);bd (f.2.1>(0:Int)) (Ri w/\V3 w s.L.length/\br (q.k==3) (∃(y:Und s.L F),((K4 j z z/\q.n=y.1.2.1/\r/\True)/\(oo (v=(y.1.2.2:Int)/\True))/\True)/\Lt y.1.1 f.1) (∃(X:(Rec×Nat)),let c:=(↑(X.2+1):Int);((q.k==2)=true->((q.e=X.1.e/\q.l=X.1.l/\q.t=X.1.t/\q.k=X.1.k/\q.p=X.1.p/\q.n=X.1.n/\q.g=X.1.g/\q.s=X.1.s/\q.b=X.1.b/\q.a=X.1.a/\True)/\(0=0/\0=0)/\True)/\((1=1/\Z7 1 (λ(x_2:Nat)=>[Ji v]) λ(x:Nat)=>[Ji (X.2:Int)])/\True)/\X.2<1000)/\((q.k==2)=true->br (q.k==2&&false) (True/\(oo (c=m/\True))/\True) (∃(y:Und s.L F),((K4 j z z/\q.p=y.1.2.1/\r/\True)/\(oo (c=(y.1.2.2:Int)/\True))/\True)/\Lt y.1.1 f.1))/\(((q.k==2)=true->False)->br (q.k==2&&false) u (∃(y:Und s.L F),((K4 j z z/\q.p=y.1.2.1/\r/\True)/\(oo (v=(y.1.2.2:Int)/\True))/\True)/\Lt y.1.1 f.1)))) u) ⟨⟨⟨(61,F,1),rfl,L,W5,W5⟩,⟨T3 _,Y1⟩,Y1⟩,λx=>?_⟩
 obtain⟨⟨f,at_,m⟩,i,hle,o,M⟩:=x;dsimp only at i hle o M ⊢;refine⟨λhc=>?_,λhc=>?_⟩
 ·have h0:at_>0:=B3 hc;obtain⟨p1,p2,p3,p4⟩:=hL.prev (show 1<=at_ by omega) hle
  refine⟨Z1 Z9,⟨Z9,Z9⟩,λd=>?_,λd=>?_⟩
  ·have d:(Z4 s.L at_).k=3:=beq_iff_eq.1 d;rw[mI h0 o d] at i;exact⟨⟨(f-1,(Z4 s.L at_).n,m),i,W5,W5,W5⟩,⟨⟨T3 _,Y1⟩,Y1⟩,show f-1<f by omega⟩
  ·have d:(Z4 s.L at_).k≠3:=λh=>by
    have d:((Z4 s.L at_).k==3)=false:=d;rw[h] at d;cases d
   rw[uL h0 o d] at i;refine⟨(Z4 s.L at_,m),λ_=>⟨Y1,Y1,W5⟩,λh2=>⟨λj=>?_,λ_=>?_⟩,λh2=>⟨λj=>?_,λ_=>?_⟩⟩
   ·rw[Bool.and_false] at j;cases j
   ·have h2:(Z4 s.L at_).k=2:=beq_iff_eq.1 h2;rw[if_pos h2] at i;exact⟨⟨(f-1,(Z4 s.L at_).p,m+1),W5,W5,W5,W5⟩,⟨⟨T3 _,Y1⟩,Y1⟩,show f-1<f by omega⟩
   ·rw[Bool.and_false] at j;cases j
   ·have h2:¬ (Z4 s.L at_).k=2:=λh=>h2 (beq_iff_eq.2 h)
    rw[if_neg h2] at i;exact⟨⟨(f-1,(Z4 s.L at_).p,m),W5,W5,W5,W5⟩,⟨⟨T3 _,Y1⟩,Y1⟩,show f-1<f by omega⟩
 ·have h0:at_<=0:=by have:=k5 hc;omega
  rw[nH h0] at i;exact⟨Z5,⟨rfl,rfl,Z9,Z5⟩,Z5⟩
def b6G:Con:=.rel ⟨Sto×Int,λx=>[.bref x.1.ts,Ji x.2],λx=>Ji ((1+und x.1.L 61 x.2:Nat):Int),λx=>rZ x.1.L x.2⟩
theorem b1T:GK 181 b6G:=gk func181<|by
 rintro⟨s,f⟩ h;exact R1 (gC a7z gN) func181 Y5 (α:=∃(x:(Sto×Int)),(((yJ s x.1)/\f=x.2/\(Fn.func 227=Fn.func 227/\(0=0/\0=0)/\True)/\True)/\((1=1/\Z7 1 (setRow (λ(x:Nat)=>[Ji 0]) 0 0 [Ji 1]) λ(x:Nat)=>[Ji 1])/\True)/\rZ x.1.L x.2)/\(↑(1+und x.1.L 61 x.2):Int)=(↑(1+und s.L 61 f):Int)) ⟨(s,f),⟨⟨(iT _),Y1⟩,⟨⟨rfl,λi hi=>b5j⟩,Z5⟩,h⟩,rfl⟩
def b5T:Con:=.rel ⟨Bool,λb=>[.bool b],λb=>Ji (if b then 1 else 0),λ_=>True⟩
theorem b5P(b:Bool)(h:
  (b=true->1=if b=true then(1:Int) else(0:Int))/\(b=false->0=if b=true then(1:Int) else(0:Int))):
  U5 prog 214 [.bool b] (.int .i64 (if b then 1 else 0)):=
 R1 gN func214 Y5 h
theorem b1X:GK 214 b5T:=gk func214<|λb _=>b5P b ⟨λh=>by rw[if_pos h],λh=>a0c⟩
def b2A:Con:=.rel ⟨Sto×Int,λx=>[.agg x.1.ts,Ji x.2],λx=>Ji ((1+und x.1.L 61 x.2:Nat):Int),λx=>rZ x.1.L x.2⟩
def b00(s:Sto)(f:Int):Nat->Ann
 |0=>.one (Und s.L f) (λx=>⟨[(1,Ji x.1.2.1),(2,.ref 0 0 0),(5,Ji x.1.2.2)],[pJ s]⟩) (λx=>x.1.1) [.box 0] [.box 0] (λ_=>Y5)
 |_=>.none
theorem a7v:GK 154 b2A:=gk func154<|by
 rintro⟨s,F⟩ ⟨hL,l⟩;dsimp only at hL l;have g:=hL.1;refine R1 (gC b1X gN) func154 (b00 s F) (α:=let w:=(0=0/\0=0);let v:=(oo (yJ s s));(∃(x:Und s.L F),(F=x.1.2.1/\w/\1=(x.1.2.2:Int)/\True)/\v/\True)/\∀(x:Und s.L F),let u:=(x.1.2.2:Int);let z:=(x.1.2.1- (1:Int));let q:=(s.L.getD z.toNat dz);bd (x.1.2.1>(0:Int)) (Ri z/\V3 z s.L.length/\br (q.k==3) (∃(y:Und s.L F),((q.n=y.1.2.1/\w/\u=(y.1.2.2:Int)/\True)/\v/\True)/\Lt y.1.1 x.1.1) (∃(X:Bool),let r:=(u+if X=true then(1:Int) else(0:Int));(((q.k==2)=X/\True)/\True)/\Ri r/\∃(y:Und s.L F),((q.p=y.1.2.1/\w/\r=(y.1.2.2:Int)/\True)/\v/\True)/\Lt y.1.1 x.1.1)) (u=(↑(1+und s.L 61 F):Int))) ⟨⟨⟨(61,F,1),rfl,l,W5,W5⟩,Y1⟩,λx=>?_⟩
 obtain⟨⟨f,at_,m⟩,he,hle,e,M⟩:=x;dsimp only at he hle e M ⊢;refine⟨λhc=>?_,λhc=>?_⟩
 ·have h0:at_>0:=B3 hc;obtain⟨p1,p2,p3,p4⟩:=hL.prev (show 1<=at_ by omega) hle
  refine⟨Z1 Z9,⟨Z9,Z9⟩,λd=>?_,λd=>?_⟩
  ·have d:(Z4 s.L at_).k=3:=beq_iff_eq.1 d;rw[mI h0 e d] at he;exact⟨⟨(f-1,(Z4 s.L at_).n,m),he,W5,W5,W5⟩,Y1,show f-1<f by omega⟩
  ·have d:(Z4 s.L at_).k≠3:=λh=>by
    have d:((Z4 s.L at_).k==3)=false:=d;rw[h] at d;cases d
   rw[uL h0 e d] at he;have N:und s.L (f-1) (Z4 s.L at_).p<=f-1:=a1N _ _ _;refine⟨(Z4 s.L at_).k==2,Y1,?_,?_⟩
   ·split<;>exact Z1 Z9
   ·by_cases h2:(Z4 s.L at_).k=2
    ·rw[if_pos h2] at he;rw[if_pos (by simpa using h2)]
     exact⟨⟨(f-1,(Z4 s.L at_).p,m+1),W5,W5,W5,W5⟩,Y1,show f-1<f by omega⟩
    ·rw[if_neg h2] at he;rw[if_neg (by simpa using h2)]
     exact⟨⟨(f-1,(Z4 s.L at_).p,m),W5,W5,W5,W5⟩,⟨⟨rfl,Y1,W5,Z5⟩,Y1⟩,show f-1<f by omega⟩
 ·have h0:at_<=0:=by have:=k5 hc;omega
  rw[nH h0] at he;show(m:Int)=_;omega
def q7(L:List Rec)(T:List Txn):Nat->Nat
 |0=>0
 |k+1=>q7 L T k+(1+und L 61 (T.getD k dz).Z)
def vN(e:Eng):Nat:=q7 e.s.L e.X e.X.length
def tE(e:Eng):Prop:=w9 e.s.L/\e.X.length<=10/\∀i,i<e.X.length->(e.X.getD i dz).Z<=(e.s.L.length:Int)
theorem a2p(L:List Rec)(T:List Txn):∀k,q7 L T k<=62*k:=by
 intro k;induction k with
 |zero=>exact U9 0
 |succ k i=>unfold q7;have:=a1N L 61 (T.getD k dz).Z;omega
def b7Z:Con:=.rel ⟨Eng,λe=>[.bref e.ts],λe=>Ji (vN e),tE⟩
def b68(e:Eng):Nat->Ann
 |0=>.one (Up e.X.length) (λx=>⟨[(0,.bref e.ts),(3,Ji (q7 e.s.L e.X x.1)),(9,a3G e.X),(10,Ji e.X.length),(11,Ji x.1)],[]⟩) (λx=>e.X.length-x.1) [] [] (λ_=>Y5)
 |_=>.none
theorem a5B{L:List Rec}{T:List Txn}{i:Nat}:((q7 L T i:Nat):Int)+((1+und L 61 (T.getD i dz).Z:Nat):Int)=(q7 L T (i+1):Nat):=by
 conv=>rhs;unfold q7
 omega
theorem b2F:GK 114 b7Z:=gk func114<|by
 rintro(e:Eng) ⟨hL,h10,hb⟩;refine R1 (gC b1T gN) func114 (b68 e) (α:=let z:=(T.bref e.ts);let p:=(e.X.length:Int);(∃(x:Up e.X.length),(K4 (λ(x:Nat)=>none) z z/\0=(↑(q7 e.s.L e.X x.1):Int)/\(Z3 X4 e.X e.X)/\p=p/\0=(x.1:Int)/\True)/\True)/\∀(x:Up e.X.length),let r:=(x.1:Int);let q:=(↑(q7 e.s.L e.X x.1):Int);bd (r<p) (V3 r e.X.length/\∃(X:(Sto×Int)),let u:=(↑(1+und X.1.L 61 X.2):Int);(((yJ e.s X.1)/\(e.X.getD r.toNat dz).Z=X.2/\True)/\rZ X.1.L X.2)/\Ri (q+u)/\Ri (r+1)/\∃(y:Up e.X.length),((K4 (λ(x:Nat)=>none) z z/\q+u=(↑(q7 e.s.L e.X y.1):Int)/\(Z3 X4 e.X e.X)/\p=p/\r+1=(y.1:Int)/\True)/\True)/\Lt (e.X.length-y.1) (e.X.length-x.1)) (q=(↑(vN e):Int))) ⟨⟨⟨0,L8 _⟩,⟨T3 _,Y1⟩,Z5⟩,λx=>⟨λhc=>?_,λhc=>?_⟩⟩
 ·have h:=Y0 hc;have f:=a2p e.s.L e.X x.1;have d:=a1N e.s.L 61 (e.X.getD x.1 dz).Z;refine⟨X9 h,(e.s,(e.X.getD x.1 dz).Z),⟨⟨(iT _),Y1⟩,hL,hb _ h⟩,Z1 W5,V4 h Z9,⟨x.1+1,h⟩,⟨⟨T3 _,a5B,Y1,rfl,W5,Z5⟩,Z5⟩,V2.ext_lt h⟩
 ·have hx:x.1=e.X.length:=by have:=x.2;have:=X3 hc;omega
  rw[hx];rfl
def b1A:Con:=.rel ⟨Eng×Int,λx=>[.bref x.1.ts,Ji x.2],λx=>.bool (decide ((x.1.s.L.length:Int)+vN x.1+x.2<=60)),λx=>tE x.1/\o4 x.2⟩
theorem pU:GK 54 b1A:=gk func54<|by
 rintro⟨e,m⟩ ⟨h,g,f⟩;dsimp only at h g f;have B:=a2p e.s.L e.X e.X.length;have d:=h.2.1;have i:=h.1.1;have j:vN e=q7 e.s.L e.X e.X.length:=rfl;exact R1 (gC b2F gN) func54 Y5 (α:=let p:=(e.s.L.length:Int);∃(x:Eng),let q:=(↑(vN x):Int);(((F9 e x)/\True)/\tE x)/\Ri (p+q)/\Ri (p+q+m)/\decide (p+q+m<=60)=decide (p+(↑(vN e):Int)+m<=60)) ⟨e,⟨⟨(tG _),Z5⟩,h⟩,Z1 Z9,Z1 Z9,rfl⟩
def a17:Con:=.rel ⟨Eng,λe=>[.agg e.ts],λe=>Ji (vN e),tE⟩
def a1U(e:Eng):Nat->Ann
 |0=>.one (Up e.X.length) (λx=>⟨[(1,.ref 0 0 0),(3,Ji (q7 e.s.L e.X x.1)),(4,Ji x.1)],[A5 e]⟩) (λx=>e.X.length-x.1) [.box 0] [.box 0] (λ_=>Y5)
 |_=>.none
theorem bL:GK 89 a17:=gk func89<|by
 rintro(e:Eng) ⟨hL,h10,hb⟩;refine R1 (gC a7v gN) func89 (a1U e) (α:=(∃(x:Up e.X.length),((0=0/\0=0)/\0=(↑(q7 e.s.L e.X x.1):Int)/\0=(x.1:Int)/\True)/\(oo (F9 e e))/\True)/\∀(x:Up e.X.length),let q:=(x.1:Int);let p:=(↑(q7 e.s.L e.X x.1):Int);bd (q<(e.X.length:Int)) (V3 q e.X.length/\∃(X:(Sto×Int)),let r:=(↑(1+und X.1.L 61 X.2):Int);(((yJ e.s X.1)/\(e.X.getD q.toNat dz).Z=X.2/\True)/\rZ X.1.L X.2)/\Ri (p+r)/\Ri (q+1)/\∃(y:Up e.X.length),(((0=0/\0=0)/\p+r=(↑(q7 e.s.L e.X y.1):Int)/\q+1=(y.1:Int)/\True)/\(oo (F9 e e))/\True)/\Lt (e.X.length-y.1) (e.X.length-x.1)) (p=(↑(vN e):Int))) ⟨⟨⟨0,L8 _⟩,Y1⟩,λx=>⟨λhc=>?_,λhc=>?_⟩⟩
 ·have h:=Y0 hc;have f:=a2p e.s.L e.X x.1;have d:=a1N e.s.L 61 (e.X.getD x.1 dz).Z;refine⟨X9 h,(e.s,(e.X.getD x.1 dz).Z),⟨⟨(iT _),Y1⟩,hL,hb _ h⟩,Z1 W5,V4 h Z9,⟨x.1+1,h⟩,⟨⟨Y1,a5B,W5,Z5⟩,Y1⟩,V2.ext_lt h⟩
 ·have hx:x.1=e.X.length:=by have:=x.2;have:=X3 hc;omega
  rw[hx];rfl
def a4C(L:List Rec)(r:Rec):Bool:=decide (r.n>0)&&((Z4 L r.n).t==r.t)&&decide ((Z4 L r.n).k<=3)
def b1a:Con:=.rel ⟨Sto×Rec,λx=>[.agg x.1.ts,.agg x.2.ts],λx=>.bool (a4C x.1.L x.2),λx=>x.2.n<=(x.1.L.length:Int)/\M3 x.1.L.length⟩
theorem a8l:GK 87 b1a:=gk func87<|by
 rintro⟨s,r⟩ ⟨f,e⟩;have e:s.L.length<1000000000000:=e;dsimp only at f;have d:decide (r.n>(0:Int))=true->O1 .i64 (r.n-1)/\V3 (r.n-1) s.L.length:=λh=>by
  have h:=B3 h;exact⟨Z1 Z9,Z9,Z9⟩
 exact R1 gN func87 Y5 (α:=let p:=(s.L.getD (r.n-1).toNat dz);let q:=(decide (r.n>0)&&p.t==r.t);(decide (r.n>0)=true->Ri (r.n-1))/\(decide (r.n>0)=true->V3 (r.n-1) s.L.length)/\(q=true->Ri (r.n-1))/\(q=true->V3 (r.n-1) s.L.length)/\(decide (r.n>0)&&p.t==r.t&&decide (p.k<=3))=a4C s.L r) ⟨λh=>(d h).1,λh=>(d h).2,λh=>(d (Bool.and_eq_true_iff.1 h).1).1,λh=>(d (Bool.and_eq_true_iff.1 h).1).2,rfl⟩
def wX(e:Eng)(i:Nat):Bool:=decide (T9 e.X (e.lk.H.getD i dz).tx<0)
def s5(e:Eng)(i:Nat):Bool:=decide (T9 e.X (e.lk.W.getD i dz).tx<0)||decide (T9 e.X (e.lk.W.getD i dz).fo<0)
def TxL(e:Eng):Prop:=M3 e.X.length
def a4g:Con:=.rel ⟨Eng×Lck,λx=>[.agg x.2.ts,.bref [.bref x.1.ts]],λx=>.bool (decide (T9 x.1.X x.2.tx<0)),λx=>TxL x.1⟩
theorem a5t(e:Eng)(l:Lck)(h:
  ∃(x:(Eng×Int)),(((F9 e x.1)/\l.tx=x.2/\True)/\M3 x.1.X.length)/\decide (T9 x.1.X x.2<0)=decide (T9 e.X l.tx<0)):
  U5 prog 106 [.agg l.ts,.bref [.bref e.ts]] (.bool (decide (T9 e.X l.tx<0))):=
 R1 (gC uD gN) func106 Y5 h
theorem a1r:GK 106 a4g:=gk func106<|λx h=>a5t x.1 x.2 ⟨(x.1,x.2.tx),⟨⟨(tG _),Y1⟩,h⟩,rfl⟩
def a24:Con:=.rel ⟨Eng×Wt,λx=>[.agg x.2.ts,.bref [.bref x.1.ts]],λx=>.bool (decide (T9 x.1.X x.2.tx<0)||decide (T9 x.1.X x.2.fo<0)),λx=>TxL x.1⟩
theorem a4Z(e:Eng)(l:Wt)(h:
  ∃(x:(Eng×Int)),let p:=(T9 x.1.X x.2<0);(((F9 e x.1)/\l.tx=x.2/\True)/\M3 x.1.X.length)/\∃(X:(Eng×Int)),(decide p=false->((F9 e X.1)/\l.fo=X.2/\True)/\M3 X.1.X.length)/\(decide p||decide (T9 X.1.X X.2<0))=(decide (T9 e.X l.tx<0)||decide (T9 e.X l.fo<0))):
  U5 prog 108 [.agg l.ts,.bref [.bref e.ts]] (.bool (decide (T9 e.X l.tx<0)||decide (T9 e.X l.fo<0))):=
 R1 (gC uD gN) func108 Y5 h
theorem a11:GK 108 a24:=gk func108<|λx h=>a4Z x.1 x.2 ⟨(x.1,x.2.tx),⟨⟨(tG _),Y1⟩,h⟩,(x.1,x.2.fo),λ_=>⟨⟨(tG _),Y1⟩,h⟩,rfl⟩
def eF1(e:Eng):T:=.fn (.func 106) [.bref [.bref e.ts]]
def eF2(e:Eng):T:=.fn (.func 108) [.bref [.bref e.ts]]
def HlL(e:Eng):Prop:=TxL e/\M3 e.lk.H.length/\M3 e.lk.W.length
def b1h:Con:=.rel ⟨Eng,λe=>[dT e.lk.H,eF1 e],λe=>Ji (S5 e.lk.H.length (wX e)),HlL⟩
def b19(e:Eng):Nat->Ann
 |0=>.one (V2 e.lk.H.length (wX e)) (λx=>⟨[(0,dT e.lk.H),(1,eF1 e),(7,Ji e.lk.H.length),(8,Ji x.1)],[]⟩) (λx=>e.lk.H.length-x.1) [] [] (λ_=>Y5)
 |_=>.none
theorem a8e:GK 177 b1h:=gk func177<|by
 rintro(e:Eng) ⟨ht,g,f⟩;have g:e.lk.H.length<1000000000000:=g;have f:e.lk.W.length<1000000000000:=f;refine R1 (gC a1r gN) func177 (b19 e) (α:=let u:=(Z3 Y2 e.lk.H e.lk.H);let r:=(T.bref [T.bref e.ts]);let q:=(e.lk.H.length:Int);(∃(x:V2 e.lk.H.length (wX e)),(u/\(Fn.func 106=Fn.func 106/\K4 (λ(x:Nat)=>none) r r/\True)/\q=q/\0=(x.1:Int)/\True)/\True)/\∀(x:V2 e.lk.H.length (wX e)),let z:=(x.1:Int);let p:=(e.lk.H.getD z.toNat dz);bd (z<q) (V3 z e.lk.H.length/\∃(X:(Eng×Lck)),(((p.tx=X.2.tx/\p.ta=X.2.ta/\p.row=X.2.row/\p.mo=X.2.mo/\True)/\((F9 e X.1)/\True)/\True)/\TxL X.1)/\bd (T9 X.1.X X.2.tx<0) (z=S5 e.lk.H.length (wX e)) (Ri (z+1)/\∃(y:V2 e.lk.H.length (wX e)),((u/\(Fn.func 106=Fn.func 106/\K4 (λ(x:Nat)=>none) r r/\True)/\q=q/\z+1=(y.1:Int)/\True)/\True)/\Lt (e.lk.H.length-y.1) (e.lk.H.length-x.1))) ((-1:Int)=S5 e.lk.H.length (wX e))) ⟨⟨E7,⟨Y1,⟨rfl,T3 _,Z5⟩,Y1⟩,Z5⟩,λx=>⟨λC=>?_,λC=>?_⟩⟩
 ·have h:=Y0 C;refine⟨X9 h,(e,e.lk.H.getD x.1 dz),⟨⟨Y1,⟨(tG _),Z5⟩,Z5⟩,ht⟩,λhp=>(O8 h hp x.2.2).symm,λhp=>⟨V4 h Z9,x.succ h hp,⟨⟨Y1,⟨rfl,T3 _,Z5⟩,rfl,J0,Z5⟩,Z5⟩,V2.ext_lt h⟩⟩
 ·have d:=X3 C;exact(L5 λj J=>x.2.2 j (xC J d)).symm
def b1H:Con:=.rel ⟨Eng,λe=>[dT e.lk.H,eF1 e],λe=>.bool (anyI e.lk.H.length (wX e)),HlL⟩
theorem b1b(e:Eng)(h:
  ∃(x:Eng),(((Z3 Y2 e.lk.H x.lk.H)/\(Fn.func 106=Fn.func 106/\((F9 e x)/\True)/\True)/\True)/\HlL x)/\decide (S5 x.lk.H.length (wX x)≥(0:Int))=anyI e.lk.H.length (wX e)):
  U5 prog 105 [dT e.lk.H,eF1 e] (.bool (anyI e.lk.H.length (wX e))):=
 R1 (gC a8e gN) func105 Y5 h
theorem a7T:GK 105 b1H:=gk func105<|λ(e:Eng) h=>b1b e ⟨e,⟨⟨Y1,⟨rfl,⟨(tG _),Z5⟩,Z5⟩,Z5⟩,h⟩,C5 _ _⟩
def b6P:Con:=.rel ⟨Eng,λe=>[wtS e.lk.W,eF2 e],λe=>Ji (S5 e.lk.W.length (s5 e)),HlL⟩
def b30(e:Eng):Nat->Ann
 |0=>.one (V2 e.lk.W.length (s5 e)) (λx=>⟨[(0,wtS e.lk.W),(1,eF2 e),(7,Ji e.lk.W.length),(8,Ji x.1)],[]⟩) (λx=>e.lk.W.length-x.1) [] [] (λ_=>Y5)
 |_=>.none
theorem b2W:GK 178 b6P:=gk func178<|by
 rintro(e:Eng) ⟨ht,g,f⟩;have g:e.lk.H.length<1000000000000:=g;have f:e.lk.W.length<1000000000000:=f;refine R1 (gC a11 gN) func178 (b30 e) (α:=let u:=(Z3 X8 e.lk.W e.lk.W);let q:=(T.bref [T.bref e.ts]);let p:=(e.lk.W.length:Int);(∃(x:V2 e.lk.W.length (s5 e)),(u/\(Fn.func 108=Fn.func 108/\K4 (λ(x:Nat)=>none) q q/\True)/\p=p/\0=(x.1:Int)/\True)/\True)/\∀(x:V2 e.lk.W.length (s5 e)),let r:=(x.1:Int);let z:=(e.lk.W.getD r.toNat dz);bd (r<p) (V3 r e.lk.W.length/\∃(X:(Eng×Wt)),(((z.tx=X.2.tx/\z.fo=X.2.fo/\True)/\((F9 e X.1)/\True)/\True)/\TxL X.1)/\br (decide (T9 X.1.X X.2.tx<0)||decide (T9 X.1.X X.2.fo<0)) (r=S5 e.lk.W.length (s5 e)) (Ri (r+1)/\∃(y:V2 e.lk.W.length (s5 e)),((u/\(Fn.func 108=Fn.func 108/\K4 (λ(x:Nat)=>none) q q/\True)/\p=p/\r+1=(y.1:Int)/\True)/\True)/\Lt (e.lk.W.length-y.1) (e.lk.W.length-x.1))) ((-1:Int)=S5 e.lk.W.length (s5 e))) ⟨⟨E7,⟨Y1,⟨rfl,T3 _,Z5⟩,Y1⟩,Z5⟩,λx=>⟨λC=>?_,λC=>?_⟩⟩
 ·have h:=Y0 C;refine⟨X9 h,(e,e.lk.W.getD x.1 dz),⟨⟨Y1,⟨(tG _),Z5⟩,Z5⟩,ht⟩,λhp=>(O8 h hp x.2.2).symm,λhp=>⟨V4 h Z9,x.succ h hp,⟨⟨Y1,⟨rfl,T3 _,Z5⟩,rfl,J0,Z5⟩,Z5⟩,V2.ext_lt h⟩⟩
 ·have d:=X3 C;exact(L5 λj J=>x.2.2 j (xC J d)).symm
def b4t:Con:=.rel ⟨Eng,λe=>[wtS e.lk.W,eF2 e],λe=>.bool (anyI e.lk.W.length (s5 e)),HlL⟩
theorem b4L(e:Eng)(h:
  ∃(x:Eng),(((Z3 X8 e.lk.W x.lk.W)/\(Fn.func 108=Fn.func 108/\((F9 e x)/\True)/\True)/\True)/\HlL x)/\decide (S5 x.lk.W.length (s5 x)≥(0:Int))=anyI e.lk.W.length (s5 e)):
  U5 prog 107 [wtS e.lk.W,eF2 e] (.bool (anyI e.lk.W.length (s5 e))):=
 R1 (gC b2W gN) func107 Y5 h
theorem b0P:GK 107 b4t:=gk func107<|λ(e:Eng) h=>b4L e ⟨e,⟨⟨Y1,⟨rfl,⟨(tG _),Z5⟩,Z5⟩,Z5⟩,h⟩,C5 _ _⟩
def y9(e:Eng)(i:Nat):Bool:= !V8 (e.X.getD i dz).id 1 (e.N-1)||(decide ((i:Int)>0)&&decide ((e.X.getD (i-1) dz).id≥(e.X.getD i dz).id))|| !nR e.s.L (e.X.getD i dz)
def wI(e:Eng):Bool:=decide (e.X.length<=10)&&V8 e.N 1 61&&F8 e.lk
def a4a(e:Eng):Bool:=decide (e.X.length+e.lk.H.length+e.lk.W.length+e.s.fr.length=0)
def upE(e:Eng):Bool:= !anyI e.X.length (y9 e)&& !anyI e.lk.H.length (wX e)&& !anyI e.lk.W.length (s5 e)&&decide (e.s.L.length+vN e<=60)
def tC(e:Eng):Bool:=wI e&&(if e.up then upE e else a4a e)
def c5J(e:Eng):Prop:=w9 e.s.L/\b5U e.lk/\M3 e.X.length/\M3 e.s.fr.length
def a6b:Con:=.rel ⟨Eng,λe=>[.bref e.ts],λe=>.bool (tC e),c5J⟩
def c3v(e:Eng):Option Ob:=some (.arr true 1000000 1 1 λ_=>[.bref e.ts])
def a6U(e:Eng):Nat->Ann
 |0=>.one (V2 e.X.length (y9 e)) (λx=>⟨[(1,.ref 0 0 0),(62,a3G e.X),(63,Ji e.X.length),(64,Ji x.1)],[c3v e]⟩) (λx=>e.X.length-x.1) [.box 0] [.box 0] (λ_=>Y5)
 |_=>.none
theorem b6d(e:Eng):(decide ((e.X.length:Int)>10)|| !V8 e.N 1 61|| !F8 e.lk)= !wI e:=by
 unfold wI;rw[Bool.not_and,Bool.not_and,←decide_not];congr 2
 exact decide_eq_decide.2 Z9
theorem a9Y{e:Eng}(h:wI e=false):tC e=false:=by unfold tC;rw[h];rfl
theorem b0x{e:Eng}(h:wI e=true)(u:e.up=true):tC e=upE e:=by unfold tC;rw[h,if_pos u];rfl
theorem a9z{e:Eng}(h:wI e=true)(u:e.up=false):tC e=a4a e:=by unfold tC;rw[h,u];rfl
theorem a8s{e:Eng}{i:Nat}(hi:i<e.X.length)(h:y9 e i=true):upE e=false:=by
 have:anyI e.X.length (y9 e)=true:=R2.2 ⟨i,hi,h⟩;unfold upE;rw[this];rfl
theorem c3W{e:Eng}{i:Nat}(hi:i<e.lk.H.length)(h:wX e i=true):upE e=false:=by
 have:anyI e.lk.H.length (wX e)=true:=R2.2 ⟨i,hi,h⟩;unfold upE;rw[this];simp
theorem c4J{e:Eng}{i:Nat}(hi:i<e.lk.W.length)(h:s5 e i=true):upE e=false:=by
 have:anyI e.lk.W.length (s5 e)=true:=R2.2 ⟨i,hi,h⟩;unfold upE;rw[this];simp
theorem E4{e:Eng}(h:wI e=true):e.X.length<=10/\1<=e.N/\e.N<=61/\F8 e.lk=true:=by
 unfold wI at h;simp only[M1,g7,S2] at h;exact⟨h.1.1,h.1.2.1,h.1.2.2,h.2⟩
theorem b5g{e:Eng}(L:w9 e.s.L)(h:wI e=true)(B:∀i,i<e.X.length->y9 e i=false):tE e:=by
 refine⟨L,(E4 h).1,λi hi=>?_⟩
 have:=B i hi;unfold y9 at this;simp only[zY,yL] at this;have:=this.2;unfold nR at this;simp only[M1,S2] at this;exact this.1.2
theorem a3k:GK 48 a6b:=gk func48<|by
 rintro(e:Eng) ⟨hL,hk,t,F⟩;have t:e.X.length<1000000000000:=t;have F:e.s.fr.length<1000000000000:=F;have d:e.lk.H.length<1000000000000:=hk.1;have h:e.lk.W.length<1000000000000:=hk.2;refine R1 (gC P1 (gC a20 (gC a8b (gC a7T (gC b0P (gC pU gN)))))) func48 (a6U e) (α:=let m:=(e.s.fr.length:Int);let k:=(false=tC e);let w:=(e.lk.W.length:Int);let u:=(e.lk.H.length:Int);let z:=(oo (K4 (m8 [some 0]) (T.bref e.ts) (T.bref e.ts)/\True));let q:=(e.X.length:Int);∃(x:rR.ι),((decide (q>10)|| !V8 e.N (1:Int) (61:Int))=false->(((Z3 Y2 e.lk.H x.H)/\(Z3 X8 e.lk.W x.W)/\True)/\True)/\b5U x)/\br (decide (q>10)|| !V8 e.N (1:Int) (61:Int)|| !F8 x) k (br (!e.up) (Ri (q+u)/\Ri (q+u+w)/\Ri (q+u+w+m)/\(q+u+w+m==0)=tC e) ((∃(x:V2 e.X.length (y9 e)),((0=0/\0=0)/\(Z3 X4 e.X e.X)/\q=q/\0=(x.1:Int)/\True)/\z/\True)/\∀(x:V2 e.X.length (y9 e)),let r:=(x.1:Int);let p:=(e.X.getD r.toNat dz);let j:=(!V8 p.id (1:Int) (e.N-1));let v:=((e.X.getD (r-1).toNat dz).id≥p.id);bd (r<q) (V3 r e.X.length/\Ri (e.N-1)/\(j=false->decide (r>0)=true->Ri (r-1))/\(j=false->decide (r>0)=true->V3 (r-1) e.X.length)/\∃(X:(Sto×Txn)),((!V8 p.id (1:Int) (e.N-1)||decide (r>0)&&decide v)=false->((yJ e.s X.1)/\(p.id=X.2.id/\p.Z=X.2.Z/\True)/\True)/\w9 X.1.L)/\br (!V8 p.id (1:Int) (e.N-1)||decide (r>0)&&decide v|| !nR X.1.L X.2) k (Ri (r+1)/\∃(y:V2 e.X.length (y9 e)),(((0=0/\0=0)/\(Z3 X4 e.X e.X)/\q=q/\r+1=(y.1:Int)/\True)/\z/\True)/\Lt (e.X.length-y.1) (e.X.length-x.1))) (∃(x:Eng),(((Z3 Y2 e.lk.H x.lk.H)/\(Fn.func 106=Fn.func 106/\((F9 e x)/\True)/\True)/\True)/\HlL x)/\∃(X:Eng),(anyI x.lk.H.length (wX x)=false->((Z3 X8 e.lk.W X.lk.W)/\(Fn.func 108=Fn.func 108/\((F9 e X)/\True)/\True)/\True)/\HlL X)/\br (anyI x.lk.H.length (wX x)||anyI X.lk.W.length (s5 X)) k (∃(x:(Eng×Int)),(((F9 e x.1)/\0=x.2/\True)/\tE x.1/\o4 x.2)/\decide ((x.1.s.L.length:Int)+(↑(vN x.1):Int)+x.2<=60)=tC e))))) ⟨e.lk,λ_=>⟨Y1,hk⟩,λhb=>?_,λhb=>⟨λhu=>?_,λhu=>?_⟩⟩
 ·rw[b6d] at hb;rw[a9Y a0P]
 ·rw[b6d] at hb;rw[a9z a0P a4W]
  refine⟨Z1 Z9,Z1 Z9,Z1 Z9,?_⟩
  unfold a4a;rw[Bool.eq_iff_iff,beq_iff_eq,g7];omega
 ·rw[b6d] at hb;have hh:wI e=true:=by simpa using hb
  have f:e.up=true:=a4W
  obtain⟨Q,l,j,q⟩:=E4 hh;rw[b0x hh f];refine⟨⟨E7,Y1,⟨rfl,rfl,T3 _,Z5⟩,Z5⟩,λx=>⟨λhc=>?_,λhc=>?_⟩⟩
  ·have hlt:=Y0 hc;refine⟨X9 hlt,Z1 Z9,λ_ _=>Z1 Z9,λ_ h0=>⟨b73,Z9⟩,(e.s,e.X.getD x.1 dz),λ_=>⟨⟨(iT _),Y1⟩,hL⟩,λhq=>?_,λhq=>?_⟩
   ·rw[C8,show((x.1:Int)-1).toNat=x.1-1 by omega] at hq
    exact(a8s hlt hq).symm
   ·rw[C8,show((x.1:Int)-1).toNat=x.1-1 by omega] at hq
    exact⟨V4 hlt Z9,x.succ hlt hq,⟨⟨Y1,Y1,rfl,J0,Z5⟩,⟨rfl,rfl,T3 _,Z5⟩,Z5⟩,V2.ext_lt hlt⟩
  ·have hge:=X3 hc;have hno:∀i,i<e.X.length->y9 e i=false:=λi hi=>x.2.2 i (xC hi hge)
   have n:=b5g hL hh hno;have g:anyI e.X.length (y9 e)=false:=P8.2 hno;refine⟨e,⟨⟨Y1,⟨rfl,⟨(tG _),Z5⟩,Z5⟩,Z5⟩,t,d,h⟩,e,λ_=>⟨⟨Y1,⟨rfl,⟨(tG _),Z5⟩,Z5⟩,Z5⟩,t,d,h⟩,λhq=>?_,λhq=>⟨(e,0),⟨⟨(tG _),Y1⟩,n,a8K⟩,?_⟩⟩
   ·unfold upE;rw[g];simp only[qY] at hq;rcases hq with hq|hq<;>rw[hq]<;>simp
   ·simp only[zY] at hq;unfold upE;rw[g,hq.1,hq.2];simp only[Bool.not_false,Bool.true_and];exact decide_eq_decide.2 Z9
def U3(e:Eng):Bool:=G2 e.s&&tC e
def tF(e:Eng):Prop:=b5B e.s/\b5U e.lk/\M3 e.X.length
def D5:Rl:=⟨Eng,λe=>[.agg e.ts],λe=>.bool (U3 e),tF⟩
def a5s:Con:=.rel D5
def a4e:Con:=.rel D5
theorem rA{s:Sto}(h:G2 s=true):w9 s.L:=by
 obtain⟨⟨e,d,_⟩,_⟩:=(J8 s).1 h;exact⟨((v9 s).1 e).2.2.2.2,λi hi=>by
  obtain⟨a,b⟩:=G9.1 d i hi;exact⟨(R6 _).1 a,b⟩⟩
theorem v7:GK 21 a5s:=gk func21<|by
 rintro(e:Eng) ⟨h1,h2,h3⟩;exact R1 (gC a3j (gC a3k gN)) func21 Y5 (α:=∃(x:qZ.ι),(((yJ e.s x)/\True)/\b5B x)/\∃(X:Eng),(G2 x=true->((F9 e X)/\True)/\c5J X)/\(G2 x&&tC X)=U3 e) ⟨e.s,⟨⟨(iT _),Z5⟩,h1⟩,e,λh=>⟨⟨(tG _),Z5⟩,rA h,h2,h3,h1.2.2.1.1⟩,rfl⟩
def Chs(L:List Rec)(t:Txn):Type:={x:Nat×Int//(decide (x.2<=0)||chn L t.id x.1 x.2)=nR L t/\x.2<=(L.length:Int)/\x.2.toNat<x.1}
def a26(e:Eng):Nat->Ann
 |0=>.one (V2 e.X.length (y9 e)) (λx=>⟨[(1,.ref 0 0 0),(3,Ji x.1)],[A5 e]⟩) (λx=>e.X.length-x.1) [.box 0] [.box 0] (λx=>fun
  |1=>.one (Chs e.s.L (e.X.getD x.1 dz)) (λy=>⟨[(1,.ref 0 0 0),(3,Ji x.1),(4,.ref 1 0 0),(5,Ji y.1.2)],[A5 e,b3U (e.X.getD x.1 dz)]⟩) (λy=>y.1.1) xZ xZ (λ_=>Y5)
  |2=>.one (V2 e.lk.H.length (wX e)) (λy=>⟨[(1,.ref 0 0 0),(7,Ji y.1)],[A5 e]⟩) (λy=>e.lk.H.length-y.1) [.box 0] [.box 0] (λ_=>fun
   |3=>.one (V2 e.lk.W.length (s5 e)) (λz=>⟨[(1,.ref 0 0 0),(8,Ji z.1)],[A5 e]⟩) (λz=>e.lk.W.length-z.1) [.box 0] [.box 0] (λ_=>Y5)
   |_=>.none)
  |_=>.none)
 |_=>.none
theorem c7t{L:List Rec}(hL:w9 L)(id:Int){at_:Int}(e:1<=at_)(d:at_<=L.length):
  ((Z4 L at_).t !=id||(Z4 L at_).k==4||(Z4 L at_).k==5||(Z4 L at_).k==6||(Z4 L at_).k==3&& !a4C L (Z4 L at_))= !okR L id at_:=by
 obtain⟨r,l⟩:=hL.at e d;obtain⟨j,o,g,i⟩:=hL.prev e d;obtain⟨_,_,_,_,k1,q,_⟩:=r;unfold okR ownR;rw[S2.2 ⟨e,d⟩,Bool.true_and];by_cases ht:(Z4 L at_).t=id
 ·rw[show((Z4 L at_).t !=id)=false by simpa using ht,show((Z4 L at_).t==id)=true by simpa using ht,Bool.false_or,Bool.true_and]
  by_cases hk:(Z4 L at_).k<=3
  ·rw[S2.2 ⟨k1,hk⟩,show((Z4 L at_).k==4)=false by rw[beq_eq_false_iff_ne];omega,show((Z4 L at_).k==5)=false by rw[beq_eq_false_iff_ne];omega,show((Z4 L at_).k==6)=false by rw[beq_eq_false_iff_ne];omega]
   simp only[Bool.false_or,Bool.true_and];by_cases h3:(Z4 L at_).k=3
   ·rw[show((Z4 L at_).k==3)=true by simpa using h3,show((Z4 L at_).k !=3)=false by simpa using h3,Bool.true_and,Bool.false_or]
    congr 1
    unfold a4C;by_cases hn:(Z4 L at_).n>0
    ·obtain⟨hr2,_⟩:=hL.at (show 1<=(Z4 L at_).n by omega) Z9
     have f:1<=(Z4 L (Z4 L at_).n).k:=hr2.2.2.2.2.1;rw[pH hn,S2.2 (show 1<=(Z4 L at_).n/\(Z4 L at_).n<=(L.length:Int) by omega),Bool.true_and,Bool.true_and,ht]
     congr 1
     unfold V8;rw[pH f,Bool.true_and]
    ·rw[tH hn,show V8 (Z4 L at_).n 1 L.length=false from Bool.eq_false_iff.2 λh=>by have:=S2.1 h;omega]
     rfl
   ·rw[show((Z4 L at_).k==3)=false by simpa using h3,show((Z4 L at_).k !=3)=true by simpa using h3]
    rfl
  ·rw[show V8 (Z4 L at_).k 1 3=false from Bool.eq_false_iff.2 λh=>by have:=S2.1 h;omega]
   simp only[Bool.false_and,Bool.not_false,qY,beq_iff_eq];exact .inl Z9
 ·rw[show((Z4 L at_).t !=id)=true by simpa using ht,show((Z4 L at_).t==id)=false by simpa using ht]
  rfl
theorem b5K(e:Eng):(!G2 e.s||decide ((e.X.length:Int)>10)|| !F8 e.lk|| !V8 e.N 1 61)= !(G2 e.s&&wI e):=by
 unfold wI;rw[show decide ((e.X.length:Int)>10)= !decide (e.X.length<=10) by rw[←decide_not];exact decide_eq_decide.2 Z9]
 cases G2 e.s<;>cases decide (e.X.length<=10)<;>cases F8 e.lk<;>cases V8 e.N 1 61<;>rfl
theorem nV:GK 40 a4e:=gk func40<|by
 rintro(e:Eng) ⟨hS,hk,o⟩;have o:e.X.length<1000000000000:=o;have v:e.lk.H.length<1000000000000:=hk.1;have u:e.lk.W.length<1000000000000:=hk.2;refine R1 (gC a28 (gC a5H (gC C0 (gC a8l (gC a5m (gC bL gN)))))) func40 (a26 e) (α:=let pf:=(e.lk.W.length:Int);let pe:=(e.lk.H.length:Int);let pa:=(e.s.L.length:Int);let f:=(false=U3 e);let m:=(e.X.length:Int);let w:=(0=0/\0=0);let v:=(oo (F9 e e));∃(x:qZ.ι),(((yJ e.s x)/\True)/\b5B x)/\∃(h:rR.ι),((!G2 x||decide (m>10))=false->(((Z3 Y2 e.lk.H h.H)/\(Z3 X8 e.lk.W h.W)/\True)/\True)/\b5U h)/\br (!G2 x||decide (m>10)|| !F8 h|| !V8 e.N (1:Int) (61:Int)) f (br (!e.up) ((m==0&&pe==0&&pf==0&&(e.s.fr.length:Int)==0)=U3 e) ((∃(x:V2 e.X.length (y9 e)),(w/\0=(x.1:Int)/\True)/\v/\True)/\∀(x:V2 e.X.length (y9 e)),let u:=(e.X.getD x.1 dz);let z:=(x.1:Int);let r:=(e.X.getD z.toNat dz);let pc:=(!V8 r.id (1:Int) (e.N-1));bd (z<m) (V3 z e.X.length/\Ri (e.N-1)/\(pc=false->decide (z>0)=true->Ri (z-1))/\(pc=false->decide (z>0)=true->V3 (z-1) e.X.length)/\br (!V8 r.id (1:Int) (e.N-1)||decide (z>0)&&decide ((e.X.getD (z-1).toNat dz).id≥r.id)|| !V8 r.Z (1:Int) pa) f ((∃(X:Chs e.s.L (e.X.getD x.1 dz)),(w/\z=z/\w/\r.Z=X.val.2/\True)/\v/\(oo (r.id=u.id/\r.Z=u.Z/\True))/\True)/\∀(X:Chs e.s.L (e.X.getD x.1 dz)),let c:=(X.val.2-1);let q:=(e.s.L.getD c.toNat dz);bd (X.val.2>0) (Ri c/\V3 c e.s.L.length/\∃(d:(Sto×Rec)),((q.t !=u.id||q.k==4||q.k==5||q.k==6)=false->(q.k==3)=true->((yJ e.s d.1)/\(q.e=d.2.e/\q.l=d.2.l/\q.t=d.2.t/\q.k=d.2.k/\q.p=d.2.p/\q.n=d.2.n/\q.g=d.2.g/\q.s=d.2.s/\q.b=d.2.b/\q.a=d.2.a/\True)/\True)/\d.2.n<=(d.1.L.length:Int)/\M3 d.1.L.length)/\br (q.t !=u.id||q.k==4||q.k==5||q.k==6||q.k==3&& !a4C d.1.L d.2) f (Ri c/\V3 c e.s.L.length/\∃(y:Chs e.s.L (e.X.getD x.1 dz)),((w/\z=z/\w/\q.p=y.1.2/\True)/\v/\(oo (u.id=u.id/\u.Z=u.Z/\True))/\True)/\Lt y.1.1 X.val.1)) (Ri (z+1)/\∃(y:V2 e.X.length (y9 e)),((w/\z+1=(y.1:Int)/\True)/\v/\True)/\Lt (e.X.length-y.1) (e.X.length-x.1)))) ((∃(x:V2 e.lk.H.length (wX e)),(w/\0=(x.1:Int)/\True)/\v/\True)/\∀(x:V2 e.lk.H.length (wX e)),let i:=(x.1:Int);bd (i<pe) (V3 i e.lk.H.length/\∃(X:(Eng×Int)),(((F9 e X.1)/\(e.lk.H.getD i.toNat dz).tx=X.2/\True)/\M3 X.1.X.length)/\bd (T9 X.1.X X.2<0) f (Ri (i+1)/\∃(y:V2 e.lk.H.length (wX e)),((w/\i+1=(y.1:Int)/\True)/\v/\True)/\Lt (e.lk.H.length-y.1) (e.lk.H.length-x.1))) ((∃(x:V2 e.lk.W.length (s5 e)),(w/\0=(x.1:Int)/\True)/\v/\True)/\∀(x:V2 e.lk.W.length (s5 e)),let j:=(x.1:Int);let pd:=(e.lk.W.getD j.toNat dz);bd (j<pf) (V3 j e.lk.W.length/\∃(X:(Eng×Int)),let pb:=(T9 X.1.X X.2<0);(((F9 e X.1)/\pd.tx=X.2/\True)/\M3 X.1.X.length)/\(decide pb=false->V3 j e.lk.W.length)/\∃(d:(Eng×Int)),(decide pb=false->((F9 e d.1)/\pd.fo=d.2/\True)/\M3 d.1.X.length)/\br (decide pb||decide (T9 d.1.X d.2<0)) f (Ri (j+1)/\∃(y:V2 e.lk.W.length (s5 e)),((w/\j+1=(y.1:Int)/\True)/\v/\True)/\Lt (e.lk.W.length-y.1) (e.lk.W.length-x.1))) (∃(x:Eng),(((F9 e x)/\True)/\tE x)/\Ri (pa+(↑(vN x):Int))/\decide (pa+(↑(vN x):Int)<=60)=U3 e)))))) ⟨e.s,⟨⟨(iT _),Z5⟩,hS⟩,e.lk,λ_=>⟨Y1,hk⟩,λhb=>?_,λhb=>?_⟩
 ·rw[b5K] at hb;unfold U3;cases h1:G2 e.s
  ·rfl
  ·rw[h1] at hb;rw[a9Y a0P]
   rfl
 rw[b5K] at hb;simp only[yL,M1] at hb;obtain⟨q,hh⟩:=hb;have L:=rA q;have r:=L.1;obtain⟨Q,U,N,R⟩:=E4 hh;have eo:U3 e=tC e:=by unfold U3;rw[q,Bool.true_and]
 refine⟨λhu=>?_,λhu=>?_⟩
 ·rw[eo,a9z hh a4W]
  unfold a4a;rw[Bool.eq_iff_iff];simp only[M1,beq_iff_eq,g7];omega
 ·have hu':e.up=true:=by simpa using hu
  rw[eo,b0x hh hu'];refine⟨⟨E7,Y1⟩,λx=>⟨λhc=>?_,λhc=>?_⟩⟩
  ·have hlt:=Y0 hc;rw[C8,show((x.1:Int)-1).toNat=x.1-1 by omega]
   refine⟨X9 hlt,Z1 Z9,λ_ _=>Z1 Z9,λ_ h0=>⟨b73,Z9⟩,λhq=>?_,λhq=>?_⟩
   ·refine(a8s hlt ?_).symm
    unfold y9 nR;rw[Bool.not_and,←Bool.or_assoc,hq];rfl
   ·simp only[zY,yL] at hq;obtain⟨⟨r1,r2⟩,r3⟩:=hq;obtain⟨l1,l2⟩:=S2.1 r3;refine⟨⟨⟨(61,(e.X.getD x.1 dz).Z),?_,l2,W5⟩,Y1⟩,λy=>?_⟩
    ·dsimp only;unfold nR;rw[tH Z9,r3]
     rfl
    obtain⟨⟨f,at_⟩,he,j,F⟩:=y;dsimp only at he j F ⊢;refine⟨λhy=>?_,λhy=>?_⟩
    ·have h0:at_>0:=B3 hy;have h1:1<=at_:=by omega
     obtain⟨O,M,I,J⟩:=L.prev h1 j;rw[tH Z9,Bool.false_or,gH _ _ Z9 h1] at he
     have es:=c7t L (e.X.getD x.1 dz).id h1 j;refine⟨Z1 Z9,⟨Z9,Z9⟩,(e.s,Z4 e.s.L at_),λ_ _=>⟨⟨(iT _),Y1⟩,W5,vY⟩,λhq=>?_,λhq=>?_⟩
     ·have hq:=es.symm.trans hq;refine(a8s hlt ?_).symm
      rw[show okR e.s.L (e.X.getD x.1 dz).id at_=false by simpa using hq] at he
      unfold y9;rw[←he];simp
     ·have hq:=es.symm.trans hq;rw[show okR e.s.L (e.X.getD x.1 dz).id at_=true by simpa using hq,Bool.true_and] at he
      refine⟨Z1 Z9,⟨Z9,Z9⟩,⟨(f-1,(Z4 e.s.L at_).p),?_,W5,W5⟩,Y1,show f-1<f by omega⟩
      dsimp only;rw[←he];by_cases hp:(Z4 e.s.L at_).p<=0
      ·rw[a3T _ _ _ hp,Bool.or_true]
      ·rw[tH hp,Bool.false_or]
    ·have h0:at_<=0:=by have:=k5 hy;omega
     rw[pH h0,Bool.true_or] at he;exact⟨V4 hlt Z9,x.succ hlt (by unfold y9;rw[←he,r1,r2];rfl),⟨⟨⟨rfl,rfl⟩,J0,Z5⟩,⟨rfl,rfl,tG _⟩,Z5⟩,V2.ext_lt hlt⟩
  ·have hge:=X3 hc;have hno:∀i,i<e.X.length->y9 e i=false:=λi hi=>x.2.2 i (xC hi hge)
   have hn:=b5g L hh hno;refine⟨⟨E7,Y1⟩,λy=>⟨λhy=>?_,λhy=>⟨⟨E7,Y1⟩,λz=>⟨λhz=>?_,λhz=>?_⟩⟩⟩⟩
   ·have hlt:=Y0 hy;exact⟨X9 hlt,(e,(e.lk.H.getD y.1 dz).tx),⟨⟨(tG _),Y1⟩,o⟩,λhq=>(c3W hlt hq).symm,λhq=>⟨V4 hlt Z9,y.succ hlt hq,⟨⟨Y1,J0,Z5⟩,Y1⟩,V2.ext_lt hlt⟩⟩
   ·have hlt:=Y0 hz;exact⟨X9 hlt,(e,(e.lk.W.getD z.1 dz).tx),⟨⟨(tG _),Y1⟩,o⟩,λ_=>X9 hlt,(e,(e.lk.W.getD z.1 dz).fo),λ_=>⟨⟨(tG _),Y1⟩,o⟩,λhq=>(c4J hlt hq).symm,λhq=>⟨V4 hlt Z9,z.succ hlt hq,⟨⟨Y1,J0,Z5⟩,Y1⟩,V2.ext_lt hlt⟩⟩
   ·have g1:=X3 hy;have g2:=X3 hz;have hb:=a2p e.s.L e.X e.X.length;have he:vN e=q7 e.s.L e.X e.X.length:=rfl;refine⟨e,⟨⟨(tG _),Z5⟩,hn⟩,Z1 Z9,?_⟩
    have B:anyI e.X.length (y9 e)=false:=P8.2 hno;have A:anyI e.lk.H.length (wX e)=false:=P8.2 λi hi=>y.2.2 i (xC hi g1)
    have C:anyI e.lk.W.length (s5 e)=false:=P8.2 λi hi=>z.2.2 i (xC hi g2)
    unfold upE;rw[B,A,C];simp only[Bool.not_false,Bool.true_and];exact decide_eq_decide.2 Z9
def a3C(s:Lks):Prop:=s.H.length<=1048576/\s.W.length<=1048576
def O3(s:Eng):Prop:=SmS s.s/\s.X.length<=1048576/\a3C s.lk
open Go.SS Go.RowKit Go.Proofs.Tryz
theorem own:ownKnob prog.godebug=none:=J1
theorem c2Q{P:Program}{f:FuncId}{fn:Func}{s:ChangeSpec}{c:OpenClaim}(N:c.wf (OpenSpec.ofChange s)=true)(Q:laidOutB P=true)(M:mapsRowed P=true)
  (W:fn.params.all (P.readableRec ·)=true) (O:namedTie P c.named s.vars=true) (U:(c.stops==[])=true) (X:(P.stops==[])=true) (R:(c.knobs==[])=true) (V:(P.stopKnobs==[])=true)
  (Y:(c.inPlace==P.inPlace f)=true) (l:(c.unfollowed==P.unfollowed f)=true) (v:(c.recurses==P.recurses f)=true) (n:(c.named==P.varsNamed f)=true)
  (h:(c.maps==(fn.params.toList++s.plain.varTypes P).any (P.mapsRec ·))=true) (g:(c.ifaces==(fn.params.toList++s.plain.varTypes P).any (P.ifacesRec ·))=true) (o:(c.mapsOut==P.mapsAmong fn.resultTypes.toList)=true)
  (x:(c.loops==(fn.params.toList++s.plain.varTypes P).any (P.loopsFrom ·))=true) (j:(c.wideKeys==(fn.params.toList++s.plain.varTypes P++fn.resultTypes.toList).any (P.wideKeysFrom ·))=true)
  (L:s.vars.all (P.varReadable ·)=true) (e:fn.resultTypes.all (λt=>P.readableRec t&&decide (t<P.types.size))=true) (B:(c.ifacesOut==fn.resultTypes.toList.any (P.ifacesRec ·))=true)
  (A:(c.loopsOut==fn.resultTypes.toList.any (P.loopsFrom ·))=true) (d:(c.plainKeys==P.plainKeys)=true) (z:c.shortTexts.isNone=true) (F:P.stopsHeard=true) (i:P.mayEnter=true)
  (I:(c.lifted==P.liftsFinal)=true) (q:(P.make==some c.make)=true) (r:(c.kinds==(if c.domain.isEmpty then[] else fn.params.toList.map λt=>match P.underlying t with|some (.int k)=>some k|_=>none))=true) (C:(c.pinned==c.pinnedBy)=true)
  (u:(c.veiled==(fn.params.toList++s.plain.varTypes P++fn.resultTypes.toList).any (P.veiledRec ·))=true) (J:c.veiledFits P fn.params.toList (fn.params.toList++s.plain.varTypes P++fn.resultTypes.toList)=true):joinedFacts P f fn s c=true:=by
 simp only[joinedFacts,M1];exact⟨⟨⟨⟨⟨⟨⟨⟨⟨⟨⟨⟨⟨⟨⟨⟨⟨⟨⟨⟨⟨⟨⟨⟨⟨⟨⟨⟨⟨⟨⟨N,Q⟩,M⟩,W⟩,O⟩,U⟩,X⟩,R⟩,V⟩,Y⟩,l⟩,v⟩,n⟩,h⟩,g⟩,o⟩,x⟩,j⟩,L⟩,e⟩,B⟩,A⟩,d⟩,z⟩,F⟩,i⟩,I⟩,q⟩,r⟩,C⟩,u⟩,J⟩
end
end Go.Proofs.YtcobnbfhkpbokaaGreat
