/- A part of the proof. -/
import Derived.Test.YtpdnnhnfongoeaaGreatE1
import Derived.RangeFuncNested
import Derived.RangeFuncBound
import Derived.RangeFuncCalls
import Derived.RangeFuncBox
import Derived.RangeFuncLeaves
import Derived.Shelf.Abstract
import Derived.WalkKit
import Derived.OwnWalkIn
import Derived.TacticsInMore
import Derived.LoopNIn
import Derived.LoopIn
namespace Go.Proofs.YtpdnnhnfongoeaaGreat
set_option maxRecDepth 100000
open Go.SS Go.Proofs.Tryz
noncomputable section
structure Pg where
 Q:Int
 sl:List (Bz)
 deriving Inhabited
def Pg.ts(p:Pg):List T:=[Ji p.Q,u4 p.sl]
def c9j(b:Bool):Nat:=match b with|true=>30|false=>160
def L5(b:Bool)(s:Bz):Bool:=decide ((s.length:Int)>c9j b)
def a2k(b:Bool):List T->Option (T×Option Prop)
 | [.str s]=>some (.bool (L5 b s),none)
 |_=>none
def b2G:Con:=.pure (a2k true)
def b4V:Con:=.pure (a2k false)
theorem b1H(s:Bz)(h:
  decide ((s.length:Int)>30)=L5 true s):
  V3 prog 361 [.str s] (.bool (L5 true s)):=
 U6 gN func361 Z3 h
theorem a8U:GK 361 b2G:=gk func361<|by
 intro args res p h hp;unfold a2k at h;split at h
 ·simp only[X0,U5] at h;obtain⟨rfl,rfl⟩:=h;exact b1H _ rfl
 ·cases h
theorem b4L(s:Bz)(h:
  decide ((s.length:Int)>160)=L5 false s):
  V3 prog 305 [.str s] (.bool (L5 false s)):=
 U6 gN func305 Z3 h
theorem a6J:GK 305 b4V:=gk func305<|by
 intro args res p h hp;unfold a2k at h;split at h
 ·simp only[X0,U5] at h;obtain⟨rfl,rfl⟩:=h;exact b4L _ rfl
 ·cases h
def b7K(b:Bool):T:=fnT (match b with|true=>361|false=>305)
def gE:Rl:=⟨List (Bz)×Bool,λx=>[u4 x.1,b7K x.2],λx=>Ji (S6 x.1.length λi=>L5 x.2 (x.1.getD i [])),λx=>L7 x.1.length⟩
def b8Y:Con:=.rel gE
def a4O(L:List (Bz))(b:Bool):Nat->Ann
 |0=>.one (V5 L.length λi=>L5 b (L.getD i [])) (λx=>⟨[(0,u4 L),(1,b7K b),(7,Ji L.length),(8,Ji x.1)],[]⟩) (λx=>L.length-x.1) [] [] (λ_=>Z3)
 |_=>.none
theorem aF:GK 358 b8Y:=gk func358<|by
 rintro⟨L,b⟩ (hL:L.length<1000000000000);cases b
 ·refine U6 (gC a6J gN) func358 (a4O L false) (α:=let r:=(Fn.func 305);let p:=(L.length:Int);(∃(x:V5 L.length λ(i:Nat)=>L5 false (L.getD i [])),((Z0 Z5 L L)/\Value.func r #[] #[]=Value.func r #[] #[]/\p=p/\0=(x.1:Int)/\True)/\True)/\∀(x:V5 L.length λ(i:Nat)=>L5 false (L.getD i [])),let q:=(x.1:Int);bd (q<p) (W9 q L.length/\br (L5 false (L.getD q.toNat [])) (q=S6 L.length λ(i:Nat)=>L5 false (L.getD i [])) (Ri (q+1)/\∃(y:V5 L.length λ(i:Nat)=>L5 false (L.getD i [])),(((Z0 Z5 L L)/\Value.func r #[] #[]=Value.func r #[] #[]/\p=p/\q+1=(y.1:Int)/\True)/\True)/\Lt (L.length-y.1) (L.length-x.1))) ((-1:Int)=S6 L.length λ(i:Nat)=>L5 false (L.getD i []))) ⟨⟨F9,X7⟩,λx=>⟨λhc=>?_,λhc=>?_⟩⟩
  ·have h:=Y2 hc;exact⟨Y6 h,λhp=>(O0 h hp x.2.2).symm,λhp=>⟨W4 h Z9,x.succ h hp,X7,V5.ext_lt h⟩⟩
  ·have e:=Y0 hc;exact(K4 λj J=>x.2.2 j (yB J e)).symm
 ·refine U6 (gC a8U gN) func358 (a4O L true) (α:=let r:=(Fn.func 361);let p:=(L.length:Int);(∃(x:V5 L.length λ(i:Nat)=>L5 true (L.getD i [])),((Z0 Z5 L L)/\Value.func r #[] #[]=Value.func r #[] #[]/\p=p/\0=(x.1:Int)/\True)/\True)/\∀(x:V5 L.length λ(i:Nat)=>L5 true (L.getD i [])),let q:=(x.1:Int);bd (q<p) (W9 q L.length/\br (L5 true (L.getD q.toNat [])) (q=S6 L.length λ(i:Nat)=>L5 true (L.getD i [])) (Ri (q+1)/\∃(y:V5 L.length λ(i:Nat)=>L5 true (L.getD i [])),(((Z0 Z5 L L)/\Value.func r #[] #[]=Value.func r #[] #[]/\p=p/\q+1=(y.1:Int)/\True)/\True)/\Lt (L.length-y.1) (L.length-x.1))) ((-1:Int)=S6 L.length λ(i:Nat)=>L5 true (L.getD i []))) ⟨⟨F9,X7⟩,λx=>⟨λhc=>?_,λhc=>?_⟩⟩
  ·have h:=Y2 hc;exact⟨Y6 h,λhp=>(O0 h hp x.2.2).symm,λhp=>⟨W4 h Z9,x.succ h hp,X7,V5.ext_lt h⟩⟩
  ·have e:=Y0 hc;exact(K4 λj J=>x.2.2 j (yB J e)).symm
def dN:Rl:=⟨List (Bz)×Bool,λx=>[u4 x.1,b7K x.2],λx=>.bool (anyI x.1.length λi=>L5 x.2 (x.1.getD i [])),λx=>L7 x.1.length⟩
def b5H:Con:=.rel dN
theorem aO:GK 304 b5H:=gk func304<|by
 rintro⟨L,b⟩ (hL:L.length<1000000000000);cases b
 ·exact U6 (gC aF gN) func304 Z3 (α:=∃(x:gE.ι),(((Z0 Z5 L x.1)/\Value.func (Fn.func 305) #[] #[]=Value.func (Fn.func (match x.2 with|true=>361|false=>305)) #[] #[]/\True)/\L7 x.1.length)/\decide ((S6 x.1.length λ(i:Nat)=>L5 x.2 (x.1.getD i []))≥(0:Int))=anyI L.length λ(i:Nat)=>L5 false (L.getD i [])) ⟨(L,false),⟨X7,hL⟩,D1 _ _⟩
 ·exact U6 (gC aF gN) func304 Z3 (α:=∃(x:gE.ι),(((Z0 Z5 L x.1)/\Value.func (Fn.func 361) #[] #[]=Value.func (Fn.func (match x.2 with|true=>361|false=>305)) #[] #[]/\True)/\L7 x.1.length)/\decide ((S6 x.1.length λ(i:Nat)=>L5 x.2 (x.1.getD i []))≥(0:Int))=anyI L.length λ(i:Nat)=>L5 true (L.getD i [])) ⟨(L,true),⟨X7,hL⟩,D1 _ _⟩
def PgP(p:Pg):Prop:=0<=p.Q/\p.Q<=1000/\p.sl.length=4/\∀i,i<p.sl.length->(p.sl.getD i []).length<=30
noncomputable instance(p:Pg):Decidable (PgP p):=Classical.propDecidable _
def k7(p:Pg):Bool:=decide (PgP p)
def PgB(p:Pg):Prop:=L7 p.sl.length
def xE:Rl:=⟨Pg,λp=>[.agg p.ts],λp=>.bool (k7 p),PgB⟩
def b2S:Con:=.rel xE
def b34:Con:=.rel xE
def b2U(p:Pg):Nat->Ann
 |0=>.one (V5 4 λi=>L5 true (p.sl.getD i [])) (λx=>⟨[(1,.ref 0 0 0),(3,Ji x.1)],[some (.arr true 1000000 2 1 λ_=>p.ts)]⟩) (λx=>4-x.1) [.box 0] [.box 0] (λ_=>Z3)
 |_=>.none
def rC:Rl:=⟨Unit,λ_=>[],λ_=>.agg (Pg.ts ⟨0,[[],[],[],[]]⟩),λ_=>True⟩
def a6Y:Con:=.rel rC
def a6P:Con:=.rel rC
theorem a6z(h:
  (Nn (4:Int)/\LeI (4:Int) (4:Int)/\yQ 16 4 140737488355328/\Lt 4 9223372036854775808)/\Le 4 4/\(0:Int)=0/\(4=4/\Z7 4 (λ(x:Nat)=>[T.str []]) (Z5 [[],[],[],[]]))/\True):
  V3 prog 273 [] (.agg (Pg.ts ⟨0,[[],[],[],[]]⟩)):=
 U6 gN func273 Z3 h
theorem a7O(h:
  (Nn (4:Int)/\LeI (4:Int) (4:Int)/\yQ 16 4 140737488355328/\Lt 4 9223372036854775808)/\Le 4 4/\(0:Int)=0/\(4=4/\Z7 4 (λ(x:Nat)=>[T.str []]) (Z5 [[],[],[],[]]))/\True):
  V3 prog 257 [] (.agg (Pg.ts ⟨0,[[],[],[],[]]⟩)):=
 U6 gN func257 Z3 h
theorem gK{s:Bz}:L5 true s=false↔s.length<=30:=by
 unfold L5;rw[uI];show ¬ (s.length:Int)>((30:Nat):Int)↔_;omega
theorem fC{s:Bz}:L5 false s=false↔s.length<=160:=by
 unfold L5;rw[uI];show ¬ (s.length:Int)>((160:Nat):Int)↔_;omega
theorem P5{n:Nat}{p:Nat->Bool}:anyI n p=false↔∀i,i<n->p i=false:=by
 rw[Bool.eq_false_iff,ne_eq,R9];constructor
 ·intro h i hi;exact Bool.eq_false_iff.2 λhp=>h ⟨i,hi,hp⟩
 ·rintro h ⟨i,hi,hp⟩;rw[h i hi] at hp;cases hp
theorem b8l(p:Pg):k7 p=true↔PgP p:=decide_eq_true_iff
theorem pG:GK 310 b2S:=gk func310<|by
 intro(p:Pg) (hp:p.sl.length<1000000000000);refine U6 (gC O3 (gC aO gN)) func310 Z3 (α:=∃(x:dN.ι),((V9 p.Q (0:Int) (1000:Int)&&(p.sl.length:Int)==4)=true->((Z0 Z5 p.sl x.1)/\Value.func (Fn.func 361) #[] #[]=Value.func (Fn.func (match x.2 with|true=>361|false=>305)) #[] #[]/\True)/\L7 x.1.length)/\(V9 p.Q (0:Int) (1000:Int)&&(p.sl.length:Int)==4&& !anyI x.1.length λ(i:Nat)=>L5 x.2 (x.1.getD i []))=k7 p) ⟨(p.sl,true),λ_=>⟨X7,hp⟩,?_⟩
 rw[Bool.eq_iff_iff,b8l];simp only[I4,wA,beq_iff_eq,V9,q8,P5];constructor
 ·rintro⟨⟨⟨e,h⟩,f⟩,d⟩;exact⟨e,h,Z9,λi hi=>gK.1 (d i hi)⟩
 ·rintro⟨e,h,f,d⟩;exact⟨⟨⟨e,h⟩,Z9⟩,λi hi=>gK.2 (d i hi)⟩
theorem c4f{p:Pg}(h:¬PgP p):false=k7 p:=(tQ h).symm
theorem fE:GK 159 b34:=gk func159<|by
 intro(p:Pg) (hp:p.sl.length<1000000000000);refine U6 (gC A2 gN) func159 (b2U p) (α:=let q:=(1=1/\1=1/\p.Q=p.Q/\(Z0 Z5 p.sl p.sl)/\True);br (!V9 p.Q (0:Int) (1000:Int)||(p.sl.length:Int) !=4) (false=k7 p) ((∃(x:V5 4 λ(i:Nat)=>L5 true (p.sl.getD i [])),((0=0/\0=0)/\0=(x.1:Int)/\True)/\q/\True)/\∀(x:V5 4 λ(i:Nat)=>L5 true (p.sl.getD i [])),let r:=(x.1:Int);bd (r<4) (W9 r p.sl.length/\bd ((↑(p.sl.getD r.toNat []).length:Int)>30) (false=k7 p) (Ri (r+1)/\∃(y:V5 4 λ(i:Nat)=>L5 true (p.sl.getD i [])),(((0=0/\0=0)/\r+1=(y.1:Int)/\True)/\q/\True)/\Lt (4-y.1) (4-x.1))) (true=k7 p))) ⟨λh=>c4f ?_,λh=>?_⟩
 ·rintro⟨f,e,g,_⟩;simp[V9] at h;omega
 simp[V9] at h;refine⟨⟨F9,X7⟩,λx=>⟨λhc=>?_,λhc=>?_⟩⟩
 ·have hlt:x.1<4:=by have:=G6 hc;omega
  refine⟨⟨Z9,Z9⟩,λB=>c4f ?_,λB=>⟨Z4 Z9,x.succ hlt B,X7,V5.ext_lt hlt⟩⟩
  rintro⟨_,_,_,d⟩;have:=d x.1 Z9
  rw[E4,q8] at B;omega
 ·refine(mR ⟨h.1.1,h.1.2,Z9,λi hi=>?_⟩).symm
  exact gK.1 (x.2.2 i (by have:=m9 hc;omega))
theorem gX:Z7 4 (λ_=>[T.str []]) (Z5 [[],[],[],[]]):=by
 intro i hi
 match i,hi with
 |0,_=>rfl
 |1,_=>rfl
 |2,_=>rfl
 |3,_=>rfl
theorem a36:GK 273 a6Y:=gk func273<|λ_ _=>a6z ⟨⟨m5,sG,sW,Q2⟩,U9 _,rfl,⟨rfl,gX⟩,Z6⟩
theorem a3Q:GK 257 a6P:=gk func257<|λ_ _=>a7O ⟨⟨m5,sG,sW,Q2⟩,U9 _,rfl,⟨rfl,gX⟩,Z6⟩
def uU(no:Int)(x:Bz):Bool:=decide (5<=x.length)&&(x.getD 0 0==112&&decide (((x.getD 1 0).toNat:Int)=no))
def pgX(x:Bz):Pg:=⟨be ((x.drop 2).take 2),(Q3 (x.drop 4)).getD []⟩
def E7(no:Int)(b:Bz):Pg×Bool:=if S0 b&&uU no (X1 b) then(pgX (X1 b),(Q3 ((X1 b).drop 4)).isSome&&k7 (pgX (X1 b))) else(⟨0,[]⟩,false)
def P2(no:Int)(b:Bz):Pg:=if(E7 no b).2 then(E7 no b).1 else⟨0,[]⟩
def I6(no:Int)(b:Bz):Int:=if S0 b then(if(E7 no b).2 then 0 else 3) else 8
def RdB(b:Bz):Prop:=b.length<=1000
def fO:Rl:=⟨Int×Bz,λx=>[Ji x.1,.bys x.2],λx=>.tup [.agg (P2 x.1 x.2).ts,Ji (I6 x.1 x.2)],λx=>RdB x.2⟩
def a6n:Con:=.rel fO
def aV:Rl:=⟨Int×Bz,λx=>[Ji x.1,.str x.2],λx=>.tup [.agg (E7 x.1 x.2).1.ts,.bool (E7 x.1 x.2).2],λx=>RdB x.2⟩
def b2C:Con:=.rel aV
theorem a8o:GK 258 b2C:=gk func258<|by
 rintro⟨no,b⟩ (hb:b.length<=1000);have f:(X1 b).length<=1000:=by
  unfold X1;split
  ·rw[List.length_take];omega
  ·exact N5 _
 have hh:(!S0 b||decide (((X1 b).length:Int)<5)||(((X1 b).getD 0 0).toNat:Int) !=112||IntKind.i64.wrap (((X1 b).getD 1 0).toNat:Int) !=no)= !(S0 b&&uU no (X1 b)):=by
  rw[uY];unfold uU;have:((X1 b).getD 0 0==112)=((((X1 b).getD 0 0).toNat:Int)==112):=by
   rw[Bool.eq_iff_iff,beq_iff_eq,beq_iff_eq,←UInt8.toNat_inj];exact⟨λh=>by rw[h];rfl,λh=>by have:((112:UInt8).toNat:Int)=112:=rfl;omega⟩
  rw[this];have h5:decide (((X1 b).length:Int)<5)= !decide (5<=(X1 b).length):=by rw[←decide_not];exact decide_eq_decide.2 Z9
  have n:((((X1 b).getD 1 0).toNat:Int) !=no)= !decide ((((X1 b).getD 1 0).toNat:Int)=no):=by rw[Bool.eq_iff_iff];simp
  rw[h5,n,bne];cases S0 b<;>cases decide (5<=(X1 b).length)<;>cases((((X1 b).getD 0 0).toNat:Int)==112)<;>simp
 refine U6 (gC mZ (gC fN (gC cI (gC fE gN)))) func258 Z3 (α:=let r:=(E7 no b);∃(x:a41.ι),let q:=(↑((X1 x).getD 0 (0:UInt8)).toNat:Int);let p:=(X1 x).length;let z:=((↑p:Int)<5);((b=x/\True)/\v7 x)/\((!S0 x||decide z)=false->W9 (0:Int) p)/\((!S0 x||decide z||q !=112)=false->W9 (1:Int) p)/\br (!S0 x||decide z||q !=112||IntKind.i64.wrap (↑((X1 x).getD 1 (0:UInt8)).toNat:Int) !=no) ((0=r.1.Q/\r.1.sl.length=0/\True)/\false=r.2/\True) (kB (4:Int) p/\∃(X:aG.ι),((List.drop 4 (X1 x)=X/\True)/\v7 X)/\b1O (2:Int) (4:Int) p/\∃(d:iN.ι),((List.drop 2 (List.take 4 (X1 x))=d/\True)/\mO d)/\∃(x:xE.ι),((Q3 X).isSome=true->(((↑(be d):Int)=x.Q/\(Z0 Z5 ((Q3 X).getD []) x.sl)/\True)/\True)/\PgB x)/\((↑(be d):Int)=r.1.Q/\(Z0 Z5 ((Q3 X).getD []) r.1.sl)/\True)/\((Q3 X).isSome&&k7 x)=r.2/\True)) ⟨b,⟨X7,Nat.le_trans hb K3⟩,λh=>?_,λh=>?_,λh=>?_,λh=>?_⟩
 ·simp only[wU,uI] at h;exact⟨Z9,Z9⟩
 ·simp only[wU,uI] at h;exact⟨Z9,Z9⟩
 ·rw[hh] at h;have h:(S0 b&&uU no (X1 b))=false:=(wA _).mp h;have e:E7 no b=(⟨0,[]⟩,false):=by unfold E7;rw[h];rfl
  rw[e];exact X7
 ·rw[hh] at h;have h:(S0 b&&uU no (X1 b))=true:=(wX _).mp h;have h5:5<=(X1 b).length:=by simp only[uU,I4,q8] at h;exact h.2.1
  have e:E7 no b=(pgX (X1 b),(Q3 ((X1 b).drop 4)).isSome&&k7 (pgX (X1 b))):=by unfold E7;rw[h];rfl
  rw[e];refine⟨⟨Z9,Z9⟩,(X1 b).drop 4,⟨X7,by unfold v7;rw[List.length_drop];omega⟩,⟨Z9,Z9,Z9⟩,((X1 b).drop 2).take 2,⟨⟨?_,Z6⟩,by unfold mO;rw[List.length_take];omega⟩,pgX (X1 b),
   λ_=>⟨X7,?_⟩,X7⟩
  ·rw[List.drop_take]
  ·show((Q3 ((X1 b).drop 4)).getD []).length<1000000000000;unfold Q3;split
   ·decide
   ·split
    ·rename_i p out ho;split
     ·have:=fS ho;have:=yN ((X1 b).drop 4) 0;simp only[Option.getD_some,C4] at*;omega
     ·decide
    ·decide
theorem b3f(r:Bz)(p i:Nat):(r.drop p).getD i 0=r.getD (p+i) 0:=by
 simp[P4]
theorem b5C(r:Bz)(R:0<r.length):∀i,match xO r i with
  |some (p,out)=>F5 r false i=⟨r.drop p,false,out⟩/\p<=r.length
  |none=>(F5 r false i).fl=true
 |0=>by
  have:r.isEmpty=false:=by cases r with
   |nil=>simp at R
   |cons=>rfl
  simp only[xO,F5,Fst.go,fs0,this,Bool.or_false];exact⟨Z6,R⟩
 |i+1=>by
  have I:=b5C r R i;have o:F5 r false (i+1)=Fst.step (F5 r false i):=rfl;cases f:xO r i with
  |none=>
   rw[f] at I;have:xO r (i+1)=none:=a1w f 1;rw[this,o];simp only at I ⊢;simp[Fst.step,I]
  |some x=>
   obtain⟨p,out⟩:=x;rw[f] at I;obtain⟨j,l⟩:=I;rw[a9L f,o,j];have M:numR (r.drop p)=((r.getD p 0).toNat:Int):=by unfold numR;rw[b3f,Nat.add_zero]
   have h:big ((r.drop p).drop 1) (numR (r.drop p))=decide (¬ (p+1+(r.getD p 0).toNat<=r.length∨r.length<p+1/\(r.getD p 0).toNat=0)):=by
    unfold big;rw[M];refine decide_eq_decide.2 ?_
    simp only[List.length_drop];omega
   have e:(r.drop p).isEmpty=decide (¬p<r.length):=by
    rw[Bool.eq_iff_iff,List.isEmpty_iff,q8,List.drop_eq_nil_iff];omega
   simp only[Fst.step];rw[h,e];by_cases hc:p<r.length/\p+1+(r.getD p 0).toNat<=r.length
   ·rw[if_pos hc];simp only;have e1:decide (¬p<r.length)=false:=tQ Z9
    have g:decide (¬ (p+1+(r.getD p 0).toNat<=r.length∨r.length<p+1/\(r.getD p 0).toNat=0))=false:=tQ Z9
    rw[e1,g];have d:big ((r.drop p).drop 1) (numR (r.drop p))=false:=by rw[h,g]
    unfold Q8 T5;rw[d];simp only[Bool.false_eq_true,if_false,Bool.or_false];refine⟨?_,hc.2⟩
    rw[M,E4,List.drop_drop,List.drop_drop,List.drop_take,show p+1+(r.getD p 0).toNat- (p+1)=(r.getD p 0).toNat by omega,List.drop_drop,Nat.add_assoc]
   ·rw[if_neg hc];simp only;rw[nV,nV];by_cases hp:p<r.length
    ·exact .inr (mR Z9)
    ·exact .inl (.inr (mR hp))
theorem a14(l:Bz):∀i,(F5 l true i).fl=true
 |0=>by simp[F5,Fst.go,fs0]
 |i+1=>by
  have:=a14 l i;simp only[F5] at this ⊢;simp[Fst.go,Fst.step,this]
theorem a7u(fl:Bool):∀i,(F5 [] fl i).fl=true
 |0=>by simp[F5,Fst.go,fs0]
 |i+1=>by
  have:=a7u fl i;simp only[F5] at this ⊢;simp[Fst.go,Fst.step,this]
def rpQ(x:Bz):Pg:=⟨be ((T5 x 4).drop 2),(U2 (Q8 x 4) (false||big x 4)).out⟩
def mS(no:Int)(x:Bz):Bool:=(!(!(U2 (Q8 x 4) (false||big x 4)).fl&&(U2 (Q8 x 4) (false||big x 4)).l.isEmpty)||(((T5 x 4).getD 0 0).toNat:Int) !=112||IntKind.i64.wrap (((T5 x 4).getD 1 0).toNat:Int) !=no)
theorem b0k(no:Int)(b:Bz)(U:S0 b=true):(mS no (X1 b)|| !k7 (rpQ (X1 b)))= !(E7 no b).2/\((E7 no b).2=true->rpQ (X1 b)=(E7 no b).1):=by
 have i:E7 no b=if uU no (X1 b) then(pgX (X1 b),(Q3 ((X1 b).drop 4)).isSome&&k7 (pgX (X1 b))) else(⟨0,[]⟩,false):=by unfold E7;rw[U,Bool.true_and]
 generalize X1 b=x at i;rw[i];by_cases h5:5<=x.length
 ·have hbig:big x 4=false:=tQ Z9
  have R:Q8 x 4=x.drop 4:=by unfold Q8;rw[hbig];rfl
  have A:T5 x 4=x.take 4:=by unfold T5;rw[hbig];rfl
  have o:(x.take 4).getD 0 0=x.getD 0 0:=by simp[P4,List.getElem?_take]
  have t:(x.take 4).getD 1 0=x.getD 1 0:=by simp[P4,List.getElem?_take]
  have j:(x.take 4).drop 2=(x.drop 2).take 2:=by rw[List.drop_take]
  have q:rpQ x=⟨be ((x.drop 2).take 2),(U2 (x.drop 4) false).out⟩:=by unfold rpQ;rw[R,A,hbig,j];rfl
  have B:mS no x=(!(!(U2 (x.drop 4) false).fl&&(U2 (x.drop 4) false).l.isEmpty)||((x.getD 0 0).toNat:Int) !=112||((x.getD 1 0).toNat:Int) !=no):=by unfold mS;rw[R,A,hbig,o,t,uY];rfl
  have g:uU no x= !(((x.getD 0 0).toNat:Int) !=112||((x.getD 1 0).toNat:Int) !=no):=by
   unfold uU;rw[Bool.eq_iff_iff];simp only[I4,q8,beq_iff_eq,wA,wU,bne_eq_false_iff_eq];have:x.getD 0 0=112↔((x.getD 0 0).toNat:Int)=112:=by
    rw[←UInt8.toNat_inj];exact⟨λh=>by rw[h];rfl,λh=>by have:((112:UInt8).toNat:Int)=112:=rfl;omega⟩
   rw[this];exact⟨λh=>h.2,λh=>⟨h5,h⟩⟩
  have N:0<(x.drop 4).length:=by rw[List.length_drop];omega
  have d:=b5C (x.drop 4) N (C4 (x.drop 4));have n:(numR (x.drop 4)).toNat=C4 (x.drop 4):=by unfold numR C4;exact E4 _
  have e:U2 (x.drop 4) false=F5 (x.drop 4) false (C4 (x.drop 4)):=by unfold U2;rw[n]
  have hall:Q3 (x.drop 4)=if C4 (x.drop 4)>100 then none else match xO (x.drop 4) (C4 (x.drop 4)) with
    |some (p,out)=>if p=(x.drop 4).length then some out else none
    |none=>none:=by
   unfold Q3;by_cases hc:C4 (x.drop 4)>100
   ·rw[if_pos (.inr hc),if_pos hc]
   ·rw[if_neg Z9,if_neg hc]
    rfl
  rw[B,q,g,e];generalize (((x.getD 0 0).toNat:Int) !=112)=d0;generalize (((x.getD 1 0).toNat:Int) !=no)=d1;have X:∀out,Q3 (x.drop 4)=some out->pgX x=⟨be ((x.drop 2).take 2),out⟩:=λout h=>by unfold pgX;rw[h];rfl
  generalize be ((x.drop 2).take 2)=nn at X;generalize pgX x=px at X;generalize u:x.drop 4=r at d hall X;clear q B g R A o t j i e n;cases F:xO r (C4 r) with
  |none=>
   rw[F] at d hall;simp only at d;have hall:Q3 r=none:=by rw[hall];split<;>rfl
   rw[d,hall];cases d0<;>cases d1<;>simp
  |some y=>
   obtain⟨p,out⟩:=y;rw[F] at d hall;simp only at d hall;obtain⟨d,L⟩:=d;rw[d];have O:out.length=C4 r:=fS F;by_cases hp:p=r.length
   ·have hem:(r.drop p).isEmpty=true:=by rw[List.isEmpty_iff,List.drop_eq_nil_iff];omega
    by_cases hc:C4 r>100
    ·rw[if_pos hc] at hall;have hpg:k7 ⟨nn,out⟩=false:=tQ (λh=>by have:=h.2.2.1;simp only at this;omega)
     simp only[hem,hall,hpg];cases d0<;>cases d1<;>simp
    ·rw[if_neg hc,if_pos hp] at hall;rw[X out hall];simp only[hem,hall];cases d0<;>cases d1<;>simp
   ·have hem:(r.drop p).isEmpty=false:=by
     rw[Bool.eq_false_iff,ne_eq,List.isEmpty_iff,List.drop_eq_nil_iff];omega
    have hall:Q3 r=none:=by rw[hall,if_neg hp];split<;>rfl
    simp only[hem,hall];cases d0<;>cases d1<;>simp
 ·have hh:uU no x=false:=by unfold uU;rw[tQ h5];rfl
  have f:(U2 (Q8 x 4) (false||big x 4)).fl=true:=by
   by_cases v:4<=x.length
   ·have hbig:big x 4=false:=tQ Z9
    have R:Q8 x 4=[]:=by unfold Q8;rw[hbig];exact List.drop_eq_nil_iff.2 (by show x.length<=4;omega)
    rw[R];exact a7u _ _
   ·have hbig:big x 4=true:=mR Z9
    rw[hbig];exact a14 _ _
  have B:mS no x=true:=by unfold mS;rw[f];simp
  rw[B,hh];simp
theorem a3P:GK 274 a6n:=gk func274<|by
 rintro⟨no,b⟩ (B:b.length<=1000);have L:∀(x:Bz),(T5 x 4).length=4:=λx=>by
  unfold T5;split
  ·exact List.length_replicate
  ·rename_i h;have:¬4>(x.length:Int):=by simpa[big] using h
   rw[List.length_take,show(4:Int).toNat=4 from rfl]
   omega
 refine U6 (gC sJ (gC qJ (gC a2D (gC aY (gC qQ (gC pG gN)))))) func274 Z3 (α:=let y:=(P2 no b);let r:=(0=y.Q/\y.sl.length=0/\True);bd ((b.length:Int)>65536) (r/\2=I6 no b/\True) (∃(x:tF.ι),let q:=(T5 (X1 x) (4:Int));let v:=(↑(q.getD 1 (0:UInt8)).toNat:Int);let z:=(↑(q.getD 0 (0:UInt8)).toNat:Int);let p:=(U2 (Q8 (X1 x) (4:Int)) (false||big (X1 x) (4:Int)));let u:=(! p.fl&&p.l.isEmpty);((b=x/\True)/\v7 x)/\br (!S0 x) (r/\8=I6 no b/\True) (s6 (4:Int)/\kB (2:Int) q.length/\∃(d:a5E.ι),((List.drop 2 q=d/\True)/\mO d)/\((! u)=false->W9 (0:Int) q.length)/\((! u||z !=112)=false->W9 (1:Int) q.length)/\∃(X:xE.ι),((! u||z !=112||IntKind.i64.wrap v !=no)=false->(((↑(be d):Int)=X.Q/\(Z0 Z5 p.out X.sl)/\True)/\True)/\PgB X)/\br (! u||z !=112||IntKind.i64.wrap v !=no|| !k7 X) (r/\3=I6 no b/\True) (((↑(be d):Int)=y.Q/\(Z0 Z5 p.out y.sl)/\True)/\0=I6 no b/\True)))) ⟨λh=>?_,λ_=>⟨b,⟨X7,Nat.le_trans B K3⟩,λh=>?_,λh=>⟨⟨Z9,Z9⟩,⟨Z9,a0u⟩,(T5 (X1 b) 4).drop 2,⟨X7,by unfold mO;rw[List.length_drop,L];omega⟩,
  λ_=>⟨Z9,a0u⟩,λ_=>⟨Z9,a0u⟩,rpQ (X1 b),λ_=>⟨X7,?_⟩,λg=>?_,λg=>?_⟩⟩⟩
 ·have:=G6 h;have B:b.length<=1000:=B;omega
 ·have hu:S0 b=false:=by simpa using h
  have e:(E7 no b).2=false:=by unfold E7;rw[hu];rfl
  have f:P2 no b=⟨0,[]⟩:=by unfold P2;rw[e];rfl
  have i:I6 no b=8:=by unfold I6;rw[hu];rfl
  rw[f,i];exact X7
 ·show(U2 (Q8 (X1 b) 4) (false||big (X1 b) 4)).out.length<1000000000000;unfold U2;rw[uH];have:=r9 (Q8 (X1 b) 4);omega
 ·have hu:S0 b=true:=by simpa using h
  have q:=(b0k no b hu).1;have e:(E7 no b).2=false:=by
   have g:(mS no (X1 b)|| !k7 (rpQ (X1 b)))=true:=g;rw[g] at q;exact(wA _).mp q.symm
  have f:P2 no b=⟨0,[]⟩:=by unfold P2;rw[e];rfl
  have i:I6 no b=3:=by unfold I6;rw[hu,e];rfl
  rw[f,i];exact X7
 ·have hu:S0 b=true:=by simpa using h
  have q:=b0k no b hu;have e:(E7 no b).2=true:=by
   have g:(mS no (X1 b)|| !k7 (rpQ (X1 b)))=false:=g;rw[g] at q;exact(wX _).mp q.1.symm
  have f:P2 no b=rpQ (X1 b):=by unfold P2;rw[e,q.2 e];rfl
  have i:I6 no b=0:=by unfold I6;rw[hu,e];rfl
  rw[f,i];exact X7
open Go.SS Go.RowKit Go.Shelf Go.Proofs.Tryz
attribute [local go_sem] Oper.semAt_some
structure Pend where
 at_:Int
 d:Bz
 deriving Inhabited
def Pend.ts(p:Pend):List T:=[Ji p.at_,.str p.d]
def Pend.val(p:Pend):Value:=.agg #[.int .i64 p.at_,.string ⟨p.d.toArray⟩]
def uO{α:Type}(f:Nat->α)(k:Nat):List α:=(List.range k).map f
theorem oN{α:Type}(f:Nat->α)(k:Nat):uO f (k+1)=uO f k++[f k]:=by simp[uO,List.range_succ]
theorem a1g{α:Type}(f:Nat->α)(k:Nat):(uO f k).length=k:=by simp[uO]
def bwF(ps:Nat->Pend)(len j:Nat):Nat×Pend:=(len-1-j,ps (len-1-j))
def bwE(x:Nat×Pend):Array Value:= #[.int .i64 (x.1:Int),x.2.val]
def KpB(n Bs:Nat)(A B:World):Prop:=Below n A B/\∀v,A.cell? ⟨Bs,0,none⟩=some v->B.cell? ⟨Bs,0,none⟩=some v
theorem KpB.refl(n Bs:Nat)(A:World):KpB n Bs A A:=⟨Below.refl _ _,λ_ h=>h⟩
theorem KpB.trans{n Bs:Nat}{A B C:World}(h:KpB n Bs A B)(k:KpB n Bs B C):KpB n Bs A C:=⟨h.1.trans k.1,λv hv=>k.2 v (h.2 v hv)⟩
set_option maxRecDepth 100000 in
set_option maxHeartbeats 2000000 in
theorem c55(F:Fence)(n:Nat)(h8:F.fn 320)(hro:F.round=none)(hn:1<=n)(l Bs n₀ b off len cap:Nat)(ps:Nat->Pend)(hreach:len<1000000000000)(hb:b<n₀)(J Jx:List (Nat×Pend)->World->Prop)
  (hY:∀pre x W,J pre W->pre.length<len->YieldAt F (n-1) prog l (bwE x) W λe W'=>
   (e= .returned (.bool true)/\J (pre++[x]) W'/\KpB n₀ Bs W W')∨(e= .returned (.bool false)/\Jx (pre++[x]) W'))
  (W:World) (hBs:W.cell? ⟨Bs,0,none⟩=some (.slice (some ⟨b,off,none⟩) len cap))
  (hc0:∀j,j<len->W.cell? ⟨b,off+j*2,none⟩=some (.int .i64 (ps j).at_)) (hc1:∀j,j<len->W.cell? ⟨b,off+j*2+1,none⟩=some (.string ⟨(ps j).d.toArray⟩)) (h0:J [] W):
  CallsIn F n prog 320 #[.func (.yield l) #[] #[],.pointer (some ⟨Bs,0,none⟩)] W λe W'=>(∃v,e= .returned v)/\
   ((∃ys,ys=uO (bwF ps len) len/\J ys W')∨(∃pre,(∃k,k<=len/\pre=uO (bwF ps len) k)/\Jx pre W')):=by
 refine callsIn_of_wp func320 rfl h8 ?_ hro
 simp only[Tryz.ntmps320,List.size_toArray,List.length_cons,List.length_nil,Nat.reduceAdd,Nat.reduceSub,Array.replicate_succ,Array.replicate_zero,List.push_toArray,List.append_toArray,List.nil_append,List.cons_append]
 gi_wp2
 gi_loopw [3] (λi wr=>∃k:Nat,k<=len/\i= .int .i64 ((len:Int)-1-k)/\J (uO (bwF ps len) k) wr/\KpB n₀ Bs W wr)
  (λi _=>(intOf i+1).toNat)
 case atStart=>exact⟨0,N5 _,W7,h0,KpB.refl _ _ _⟩
 case round=>
  obtain⟨k,hk,rfl,hJs,hnx⟩:=hrel;have hBx:wr.cell? ⟨Bs,0,none⟩=some (.slice (some ⟨b,off,none⟩) len cap):=hnx.2 _ hBs;by_cases hlt:k<len
  ·obtain⟨m,hm⟩:∃m,len=k+1+m:=⟨len-1-k,Z9⟩
   have hfk:bwF ps len k=(m,ps m):=by unfold bwF;rw[show len-1-k=m by omega]
   have e1:(len:Int)-1-k=(m:Int):=Z9
   rw[e1];have hm1:m<len:=Z9
   have hm2:len<=m+k+1:=Z9
   have hm3:m+k+1<=len:=Z9
   clear hm e1;have hx0:=(hnx.1.cell (p:=⟨b,off+m*2,none⟩) hb).trans (hc0 m Z9)
   have hx1:=(hnx.1.cell (p:=⟨b,off+m*2+1,none⟩) hb).trans (hc1 m Z9)
   obtain⟨fn,tmps,assign,body,hy,hR⟩:=hY _ (m,ps m) wr hJs (by rw[a1g];exact hlt)
   dsimp only[bwE,Pend.val] at hy
   gi_wp2
   refine hR.mono ?_
   rintro e W3 (⟨rfl,hJ3,hk3⟩|⟨rfl,hJx3⟩)
   ·gi_wp2
    go_roundw
    case rel=>exact⟨k+1,Z9,by congr 1;omega,by rw[oN,hfk];exact hJ3,hnx.trans hk3⟩
    case measure=>(simp[intOf]<;>omega)
   ·gi_wp2
    refine bodyPost_ret (results_none rfl _ _ _) rfl ?_
    exact⟨⟨_,rfl⟩,.inr ⟨_,⟨k+1,Z9,by rw[oN,hfk]⟩,hJx3⟩⟩
  ·obtain rfl:k=len:=by omega
   have e1:((k:Nat):Int)-1-k= -1:=Z9
   rw[e1]
   gi_wp2
   go_end0
   exact⟨⟨_,rfl⟩,.inl ⟨_,rfl,hJs⟩⟩
set_option maxRecDepth 100000 in
set_option maxHeartbeats 1000000 in
theorem a8g(F:Fence)(n:Nat)(h8:F.fn 320)(hro:F.round=none)(l Bs cap:Nat)(a:Option Addr)(J:List (Nat×Pend)->World->Prop)(W:World)(hBs:W.cell? ⟨Bs,0,none⟩=some (.slice a 0 cap))(h0:J [] W):
  CallsIn F n prog 320 #[.func (.yield l) #[] #[],.pointer (some ⟨Bs,0,none⟩)] W λe W'=>(∃v,e= .returned v)/\J [] W':=by
 refine callsIn_of_wp func320 rfl h8 ?_ hro
 simp only[Tryz.ntmps320,List.size_toArray,List.length_cons,List.length_nil,Nat.reduceAdd,Nat.reduceSub,Array.replicate_succ,Array.replicate_zero,List.push_toArray,List.append_toArray,List.nil_append,List.cons_append]
 gi_wp2
 gi_loopw [3] (λi wr=>i= .int .i64 (-1)/\J [] wr) (λ_ _=>0)
 case atStart=>exact⟨rfl,h0⟩
 case round=>
  obtain⟨rfl,hJs⟩:=hrel
  gi_wp2
  go_end0
  exact⟨⟨_,rfl⟩,hJs⟩
set_option maxHeartbeats 1000000 in
theorem c8m(F:Fence)(n:Nat)(h6:F.fn 237)(hro:F.round=none)(a:Option Addr)(len cap:Nat)(w:World):
  CallsIn F n prog 237 #[.slice a len cap] w λe w'=>e= .returned (.func (.func 320) #[] #[.pointer (some ⟨w.heap.size,0,none⟩)])/\w'=w.alloc (.cells #[.slice a len cap] 39):=by
 refine callsIn_of_wp func237 rfl h6 ?_ hro
 simp only[Tryz.ntmps237,List.size_toArray,List.length_cons,List.length_nil,Nat.reduceAdd,Nat.reduceSub,Array.replicate_succ,Array.replicate_zero,List.push_toArray,List.append_toArray,List.nil_append,List.cons_append]
 gi_wp2
 go_ret
 exact X7
def yH(n:Nat)(W:World)(v:Value)(len:Nat)(ps:Nat->Pend):Prop:=
 (∃a cap,v= .slice a 0 cap/\len=0)∨∃b off cap,v= .slice (some ⟨b,off,none⟩) len cap/\b<n/\∀j,j<len->W.cell? ⟨b,off+j*2,none⟩=some (.int .i64 (ps j).at_)/\W.cell? ⟨b,off+j*2+1,none⟩=some (.string ⟨(ps j).d.toArray⟩)
theorem yH.below{n:Nat}{A B:World}(h:Below n A B){v:Value}{len:Nat}{ps:Nat->Pend}:yH n A v len ps->yH n B v len ps
 | .inl e=>.inl e
 | .inr ⟨b,off,cap,e,hb,hc⟩=>.inr ⟨b,off,cap,e,hb,λj J=>⟨(h.cell (p:=⟨b,off+j*2,none⟩) hb).trans (hc j J).1,(h.cell (p:=⟨b,off+j*2+1,none⟩) hb).trans (hc j J).2⟩⟩
theorem b6E(F:Fence)(n:Nat)(u:F.fn 320)(o:F.round=none)(x:1<=n)(Bs N:Nat)(v:Value)(len:Nat)(ps:Nat->Pend)(h:len<1000000000000)(w:World)(q:Bs<w.heap.size)(i:N<=w.heap.size)
  (C:w.cell? ⟨Bs,0,none⟩=some v) (I:yH N w v len ps):
  SeqStopsK F n prog 320 #[.pointer (some ⟨Bs,0,none⟩)] bwE (KpB N Bs) (λz=>z=uO (bwF ps len) len)
   (λpre=>∃k,k<=len/\pre=uO (bwF ps len) k) len w:=λl J Jx W t _ _ Y r=>by
 have d:=(t.cell (p:=⟨Bs,0,none⟩) q).trans C;rcases I.below (t.mono i) with⟨a,cap,rfl,rfl⟩|⟨b,off,cap,rfl,B,f⟩
 ·exact(a8g F n u o l Bs cap a J W d r).mono λe W' ⟨A,g⟩=>⟨A,.inl ⟨_,rfl,g⟩⟩
 ·exact c55 F n u o x l Bs N b off len cap ps h B J Jx Y W d (λj g=>(f j g).1) (λj g=>(f j g).2) r
theorem yH.mono{n N:Nat}{W:World}{v:Value}{len:Nat}{ps:Nat->Pend}(h:n<=N):yH n W v len ps->yH N W v len ps
 | .inl e=>.inl e
 | .inr ⟨b,off,cap,e,hb,hc⟩=>.inr ⟨b,off,cap,e,yB hb h,hc⟩
def cV(n:Nat)(W:World)(v:Value)(m:Nat)(L:List (Bz)):Prop:=∃b off cap,v= .slice (some ⟨b,off,none⟩) m cap/\b<n/\∀j,j<m->W.cell? ⟨b,off+j,none⟩=some (.string ⟨(L.getD j []).toArray⟩)
theorem cV.below{n:Nat}{A B:World}(h:Below n A B){v:Value}{m:Nat}{L:List (Bz)}:cV n A v m L->cV n B v m L:=
 λ⟨b,off,cap,e,hb,hc⟩=>⟨b,off,cap,e,hb,λj J=>(h.cell (p:=⟨b,off+j,none⟩) hb).trans (hc j J)⟩
theorem eP(w:World)(cs:Array Value)(t:TypeId)(j:Nat){v:Value}(h:cs[j]? =some v):(w.alloc (.cells cs t)).cell? ⟨w.heap.size,j,none⟩=some v:=by
 have:=World.alloc_heap_new w (.cells cs t);unfold World.cell?;simp only;rw[this];exact h
theorem uS{A:World}(o:Obj){p:Addr}{v:Value}(h:A.cell? p=some v):(A.alloc o).cell? p=some v:=cell_kept h (World.grownBy_alloc _ o none) (λr e=>by cases e)
theorem b1x{w:World}(cs:Array Value)(t:TypeId)(d O o:Obj)(j:Nat){v:Value}(h:cs[j]? =some v):
  ((((w.alloc (.cells cs t)).alloc d).alloc O).alloc o).cell? ⟨w.heap.size,j,none⟩=some v:=by
 exact uS _ (uS _ (uS _ (eP w cs t j h)))
set_option maxRecDepth 100000 in
set_option maxHeartbeats 4000000 in
theorem c10(F:Fence)(n:Nat)(h3:F.fn 142)(h4:F.fn 237)(h5:F.fn 320)(hro:F.round=none)(hn:6<=n)(sec cache keep:Value)(armed:Bool)(at_:Nat)(m len:Nat)(L:List (Bz))(ps:Nat->Pend)(ca:Option Addr)(clen ccap:Nat)(w:World)
  (hcv:cache= .slice ca clen ccap) (hI:yH w.heap.size w cache len ps) (hS:cV w.heap.size w sec m L) (hreach:len<1000000000000) (hat:at_<m):
  CallsIn F n prog 142 #[.agg #[sec,cache,.bool armed,keep],.int .i64 at_] w λe W'=>
   ∃v,e= .returned v/\Below w.heap.size w W'/\((v= .string ⟨(L.getD at_ []).toArray⟩/\∀j,j<len->(ps j).at_≠at_)∨∃k,k<len/\v= .string ⟨(ps (len-1-k)).d.toArray⟩/\(ps (len-1-k)).at_=at_/\∀j,j<k->(ps (len-1-j)).at_≠at_):=by
 have h1:1<=n:=Z9
 subst hcv;refine callsIn_of_wp_marks func142 rfl h3 ?_ hro
 simp only[Tryz.ntmps142,List.size_toArray,List.length_cons,List.length_nil,Nat.reduceAdd,Nat.reduceSub,Array.replicate_succ,Array.replicate_zero,List.push_toArray,List.append_toArray,List.nil_append,List.cons_append]
 gi_wp2_with (gi_at_call 237;refine(c8m F (n-1) h4 hro _ _ _ _).mono ?_;rintro e w' ⟨rfl,rfl⟩)
 obtain⟨W0,hW0⟩:∃W0,(((w.alloc (.cells #[sec,.slice ca clen ccap,.bool armed,keep] 41)).alloc (.cells #[.int .i64 (at_:Int)] 3)).alloc (.cells #[.string ⟨#[]⟩] 9)).alloc (.cells #[.slice ca clen ccap] 39)=W0:=⟨_,rfl⟩;have bD:W0.cell? ⟨w.heap.size,0,none⟩=some sec:=by rw[←hW0];exact b1x _ _ _ _ _ 0 rfl
 have bA:Boxed W0 (w.heap.size+1) 3 (.int .i64 (at_:Int)):=by
  have:=((Boxed.new (w.alloc (.cells #[sec,.slice ca clen ccap,.bool armed,keep] 41)) 3 (.int .i64 (at_:Int))).alloc (.cells #[.string ⟨#[]⟩] 9)).alloc (.cells #[.slice ca clen ccap] 39);rw[←hW0]
  simpa only[World.size_alloc] using this
 have bR:Boxed W0 (w.heap.size+1+1) 9 (.string ⟨#[]⟩):=by
  have:=(Boxed.new ((w.alloc (.cells #[sec,.slice ca clen ccap,.bool armed,keep] 41)).alloc (.cells #[.int .i64 (at_:Int)] 3)) 9 (.string ⟨#[]⟩)).alloc (.cells #[.slice ca clen ccap] 39);rw[←hW0]
  simpa only[World.size_alloc] using this
 have bN:Boxed W0 (w.heap.size+1+1+1) 39 (.slice ca clen ccap):=by
  have:=Boxed.new (((w.alloc (.cells #[sec,.slice ca clen ccap,.bool armed,keep] 41)).alloc (.cells #[.int .i64 (at_:Int)] 3)).alloc (.cells #[.string ⟨#[]⟩] 9)) 39 (.slice ca clen ccap);rw[←hW0]
  simpa only[World.size_alloc] using this
 have hB0:Below w.heap.size w W0:=by
  rw[←hW0];exact((((Below.refl _ w).alloc (U9 _) _).alloc W7 _).alloc C8 _).alloc C8 _
 have hsz:W0.heap.size=w.heap.size+4:=by rw[←hW0];simp
 rw[hW0];have kpB_b:∀(W:World) (l:Nat) (o o':Obj),W0.heap.size<=l->W.heap[l]? =some o->o.isCells=false->o.isWalk=false->KpB w.heap.size (w.heap.size+1+1+1) W (W.putObj l o'):=λW l o o' hl ho hc hk=>
  ⟨belowK_b (w:=w) (U9 _) W l o o' Z9 ho hc hk,λv hv=>cell_kept hv (grownBy_putObj' _ l o') (λr e=>by cases e;exact⟨_,ho,hc⟩)⟩
 refine wpIn_rangeFunc_ownH hro h1 (gf:=320) (lb:= #[.pointer (some ⟨w.heap.size+1+1+1,0,none⟩)]) rfl h5 (enters_of func320 R4 rfl)
  (b6E F (n-1) h5 hro Z9 (w.heap.size+1+1+1) w.heap.size _ len ps hreach W0 Z9 Z9 bN.cell (hI.below hB0)) KpB.trans kpB_b (Below.refl _ _) (λ_=>rfl)
  (λpre W=>(((∀x ∈ pre,x.2.at_≠(at_:Int))/\Boxed W (w.heap.size+1+1) 9 (.string ⟨#[]⟩))/\(Boxed W (w.heap.size+1) 3 (.int .i64 (at_:Int))/\W.cell? ⟨w.heap.size,0,none⟩=some sec))/\Below w.heap.size w W)
  (λc pre W=>((c= .ret/\∃ini last,pre=ini++[last]/\(∀p ∈ ini,p.2.at_≠(at_:Int))/\last.2.at_=(at_:Int)/\W.cell? ⟨w.heap.size+1+1,0,none⟩=some (.string ⟨last.2.d.toArray⟩)))/\Below w.heap.size w W)
  (OwnFrom.and (OwnFrom.and (OwnFrom.and (ownFrom_pure _ _) (Own.from (boxed_own _ _ _) _)) (OwnFrom.and (Own.from (boxed_own _ _ _) _) (Own.from (λs A B row hs hg hr=>cell_kept hs hg hr) _))) (ownFrom_below (U9 _) Z9))
  (λc=>OwnFrom.and (Own.from (λs A B row hs hg hr=>by obtain⟨hc,ini,last,e1,e2,e3,e4⟩:=hs;exact⟨hc,ini,last,e1,e2,e3,cell_kept e4 hg hr⟩) _) (ownFrom_below (U9 _) Z9))
  ⟨⟨⟨W7,bR⟩,⟨bA,bD⟩⟩,hB0⟩
  (λx a' W=>∃Bx,w.heap.size+1+1<Bx/\(W.cell? ⟨Bx,0,none⟩=some (.int .i64 x.2.at_)/\W.cell? ⟨Bx,1,none⟩=some (.string ⟨x.2.d.toArray⟩))/\a'={tmps:= #[.agg #[sec,.slice ca clen ccap,.bool armed,keep],.int .i64 (at_:Int),.pointer (some ⟨w.heap.size,0,none⟩),.pointer (some ⟨w.heap.size+1,0,none⟩),.pointer (some ⟨w.heap.size+1+1,0,none⟩),undef,.pointer (some ⟨Bx,0,none⟩),.pointer (some ⟨w.heap.size,1,none⟩),.slice ca clen ccap,.func (.func 320) #[] #[.pointer (some ⟨w.heap.size+1+1+1,0,none⟩)],.int .i64 (x.1:Int),x.2.val,undef,undef,undef,undef,undef,undef,undef,undef,undef,undef,undef],defers:=[]})
  (λx a' _ X Y row hs hg hr=>by obtain⟨Bx,e1,⟨e2,e4⟩,e3⟩:=hs;exact⟨Bx,e1,⟨cell_kept e2 hg (λr e=>(hr r e).2),cell_kept e4 hg (λr e=>(hr r e).2)⟩,e3⟩)
  ?assign ?body ?done ?stop
 case assign=>
  rintro l pre x W K ⟨⟨⟨hp,bR1⟩,bA1,bD1⟩,hB1⟩ hK;dsimp only[bwE,Pend.val]
  gi_wp2
  exact hK _ _ ((KeepsOthers.alloc _ _).from _) ⟨(Below.refl _ W).alloc hB1.size _,λv hv=>uS _ hv⟩ ⟨⟨⟨hp,bR1.alloc _⟩,bA1.alloc _,uS _ bD1⟩,hB1.alloc hB1.size _⟩ ⟨W.heap.size,bR1.lt,⟨eP _ _ _ 0 rfl,eP _ _ _ 1 rfl⟩,rfl⟩
 case body=>
  rintro l pre x a' W hl ⟨r,hr⟩ ⟨⟨⟨hp,bR1⟩,bA1,bD1⟩,hB1⟩ ⟨Bx,hBx,⟨e2,e4⟩,rfl⟩ hlt;have cA:=bA1.cell;have cR:=bR1.cell;have fR:=bR1.frozen
  gi_wp2
  ·rename_i hx;have hx:x.2.at_=(at_:Int):=by simpa using hx
   exact⟨(KeepsOthers.setCell _ _ _).from _,⟨rfl,pre,x,rfl,hp,hx,(bR1.set _).cell⟩,hB1.setCell (p:=⟨w.heap.size+1+1,0,none⟩) C8 _⟩
  ·rename_i hx;have hx:x.2.at_≠(at_:Int):=by simpa using hx
   exact⟨KeepsFrom.refl _ _,KpB.refl _ _ _,⟨⟨⟨λp hp'=>(List.mem_append.1 hp').elim (hp p) (λe=>by simp at e;subst e;exact hx),bR1⟩,bA1,bD1⟩,hB1⟩⟩
 case done=>
  rintro D ys W hD rfl ⟨⟨⟨hp,bR1⟩,bA1,bD1⟩,hB1⟩ hK;have cA:=bA1.cell;have cR:=bR1.cell;have fR:=bR1.frozen;obtain⟨sb,so,sc,rfl,hsb,hsc⟩:=hS;have cS:W.cell? ⟨sb,so+at_,none⟩=some (.string ⟨(L.getD at_ []).toArray⟩):=(hB1.cell (p:=⟨sb,so+at_,none⟩) hsb).trans (hsc at_ hat);have hg:(L.getD at_ []:Bz)=L[at_]?.getD []:=P4
  rw[hg] at cS
  gi_wp2
  have hK':=(KeepsOthers.setCell W ⟨w.heap.size+1+1,0,none⟩ (.string ⟨(L[at_]?.getD []).toArray⟩)).same D _ hK rfl;refine⟨W7,.inl ⟨_,_,rfl,run_takeDeferred hK',?_⟩⟩
  have hc5:=cell_kept (bR1.set (.string ⟨(L[at_]?.getD []).toArray⟩)).cell (grownBy_putObj' _ D (.deferred none)) (λr e=>by cases e;exact⟨_,hK',rfl⟩)
  refine⟨.string ⟨(L[at_]?.getD []).toArray⟩,?_,_,rfl,(hB1.setCell (p:=⟨w.heap.size+1+1,0,none⟩) C8 _).trans (belowK_b (w:=w) (U9 _) _ D _ _ Z9 hK' rfl rfl),.inl ⟨rfl,λj hj=>?_⟩⟩
  ·simp[results,Tryz.f142,go_sem,hc5]
  ·have:=hp (bwF ps len (len-1-j)) (by simp only[uO,List.mem_map,List.mem_range];exact⟨len-1-j,Z9,rfl⟩)
   unfold bwF at this;rw[show len-1- (len-1-j)=j by omega] at this
   exact this
 case stop=>
  rintro D c pre W hD ⟨k,hk,rfl⟩ ⟨⟨rfl,ini,last,e1,e2,e3,hcr⟩,hB1⟩ hK
  gi_wp2
  refine⟨W7,.inl ⟨_,_,rfl,run_takeDeferred hK,?_⟩⟩
  have hc5:=cell_kept hcr (grownBy_putObj' _ D (.deferred none)) (λr e=>by cases e;exact⟨_,hK,rfl⟩)
  obtain⟨k',rfl⟩:∃k',k=k'+1:=by
   cases k with
   |zero=>simp[uO] at e1
   |succ k'=>exact⟨k',rfl⟩
  rw[oN] at e1;obtain⟨rfl,e5⟩:=List.append_inj' e1 rfl;obtain rfl:bwF ps len k'=last:=by simpa using e5
  refine⟨.string ⟨(bwF ps len k').2.d.toArray⟩,?_,_,rfl,hB1.trans (belowK_b (w:=w) (U9 _) W D _ _ Z9 hK rfl rfl),.inr ⟨k',Z9,rfl,e3,λj hj=>e2 (bwF ps len j) (by simp only[uO,List.mem_map,List.mem_range];exact⟨j,hj,rfl⟩)⟩⟩
  simp[results,Tryz.f142,go_sem,hc5]
structure Dsk where
 E:List (Bz)
 C:List Pend
 A:Bool
 keep:List Int
 deriving Inhabited
def Z1(L:List Pend)(i:Nat):List T:=(L.getD i dz).ts
def v8(L:List Pend):T:=.sl 2 L.length (Z1 L)
def Y9(L:List Int)(i:Nat):List T:=[Ji (L.getD i 0)]
def sM(L:List Int):T:=.sl 1 L.length (Y9 L)
def Dsk.ts(d:Dsk):List T:=[u4 d.E,v8 d.C,.bool d.A,sM d.keep]
abbrev zN(a b:Dsk):Prop:=Z0 Z5 a.E b.E/\Z0 Z1 a.C b.C/\a.A=b.A/\Z0 Y9 a.keep b.keep/\True
theorem eqD(d:Dsk):zN d d:=X7
def F0(L:List Pend)(at_:Int):Nat->Option (Bz)
 |0=>none
 |n+1=>if(L.getD n dz).at_=at_ then some (L.getD n dz).d else F0 L at_ n
theorem jQ{L:List Pend}{at_:Int}:∀{n:Nat},(∀j,j<n->(L.getD j dz).at_≠at_)->F0 L at_ n=none
 |0,_=>rfl
 |n+1,h=>by
  unfold F0;rw[if_neg (h n (Nat.lt_succ_self n))];exact jQ λj J=>h j Z9
theorem jH{L:List Pend}{at_:Int}{i:Nat}(h:(L.getD i dz).at_=at_):∀{n:Nat},i<n->(∀j,i<j->j<n->(L.getD j dz).at_≠at_)->F0 L at_ n=some (L.getD i dz).d
 |0,hi,_=>absurd hi (D4 i)
 |n+1,hi,hj=>by
  unfold F0;by_cases e:i=n
  ·subst e;rw[if_pos h]
  ·rw[if_neg (hj n Z9 (Nat.lt_succ_self n))]
   exact jH h Z9 λj f g=>hj j f Z9
def S1(d:Dsk)(at_:Nat):Bz:=(F0 d.C at_ d.C.length).getD (d.E.getD at_ [])
def AtB(x:Dsk×Nat):Prop:=x.2<x.1.E.length/\x.1.C.length<1000000000000
def oH:Rl:=⟨Dsk×Nat,λx=>[.agg x.1.ts,Ji x.2],λx=>.str (S1 x.1 x.2),AtB⟩
def c1I:Con:=.rel oH
theorem aM{E:Env}{w:World}{sz n:Nat}{row:Nat->List T}{v:Value}(h:Rd E w (.sl sz n row) v):(∃a,v= .slice a 0 0/\n=0)∨(∃(b off cap:Nat) (u:Nat->Nat->Value),v= .slice (some ⟨b,off,none⟩) n cap/\E.N b/\
  (∀i j t,i<n->(row i)[j]? =some t->w.cell? ⟨b,off+i*sz+j,none⟩=some (u i j)/\Rd E w t (u i j))):=by
 cases h with
 |slNil=>exact .inl ⟨_,X7⟩
 |slEmp=>exact .inl ⟨_,X7⟩
 |sl _ _ _ b off cap u e C l f r d=>exact .inr ⟨b,off,cap,u,rfl,e,λi j t hi J=>⟨r i j t hi J,d i j t hi J⟩⟩
theorem gG{E:Env}{w:World}{l:Bz}{v:Value}(h:Rd E w (.str l) v):v= .string ⟨l.toArray⟩:=by cases h;rfl
theorem tH{E:Env}{w:World}{k:IntKind}{n:Int}{v:Value}(h:Rd E w (.int k n) v):v= .int k n:=by cases h;rfl
theorem a3z{E:Env}{w:World}{b:Bool}{v:Value}(h:Rd E w (.bool b) v):v= .bool b:=by cases h;rfl
theorem a8d{E:Env}{w:World}{cs:List T}{v:Value}(h:Rd E w (.agg cs) v):∃vs,v= .agg vs/\tB E w cs vs:=by
 cases h with
 |agg _ vs l t=>exact⟨vs,rfl,l,t⟩
theorem c1l{E:Env}{w:World}{L:List (Bz)}{v:Value}(hE:∀b,E.N b->b<w.heap.size)(h:Rd E w (u4 L) v)(n:0<L.length):cV w.heap.size w v L.length L:=by
 rcases aM h with⟨a,_,f⟩|⟨b,off,cap,u,rfl,hN,U⟩
 ·omega
 ·refine⟨b,off,cap,rfl,hE b hN,λj hj=>?_⟩
  obtain⟨d,e⟩:=U j 0 (.str (L.getD j [])) hj rfl;rw[gG e] at d
  simpa using d
theorem b71{E:Env}{w:World}{L:List Pend}{v:Value}(hE:∀b,E.N b->b<w.heap.size)(h:Rd E w (v8 L) v):yH w.heap.size w v L.length (λi=>L.getD i dz)/\∃a l c,v= .slice a l c:=by
 rcases aM h with⟨a,rfl,g⟩|⟨b,off,cap,u,rfl,hN,U⟩
 ·exact⟨.inl ⟨a,0,rfl,g⟩,_,_,_,rfl⟩
 ·refine⟨.inr ⟨b,off,cap,rfl,hE b hN,λj hj=>⟨?_,?_⟩⟩,_,_,_,rfl⟩
  ·obtain⟨e,f⟩:=U j 0 (.int .i64 (L.getD j dz).at_) hj rfl;rw[tH f] at e;exact e
  ·obtain⟨e,f⟩:=U j 1 (.str (L.getD j dz).d) hj rfl;rw[gG f] at e;exact e
theorem dQ:GK 142 c1I:=gk func142<|by
 rintro⟨d,at_⟩ ⟨t,h⟩;simp only at t h;intro E w vs M x hv;obtain⟨z,hv⟩:=hv;obtain⟨q,V,rfl⟩:∃q V,vs= #[q,V]:=by
  have h2:vs.size=2:=z.symm;exact⟨vs[0],vs[1],by apply Array.ext<;>simp[h2];intro i hi _;match i,hi with|0,_=>rfl|1,_=>rfl⟩
 obtain⟨cs,rfl,u,r⟩:=a8d (hv 0 (.agg d.ts) q rfl rfl);obtain rfl:=tH (hv 1 (.int .i64 at_) V rfl rfl);obtain⟨f,C,c2,o,rfl⟩:∃f C c2 o,cs= #[f,C,c2,o]:=by
  have h2:cs.size=4:=u.symm;exact⟨cs[0],cs[1],cs[2],cs[3],by apply Array.ext<;>simp[h2];intro i hi _;match i,hi with|0,_=>rfl|1,_=>rfl|2,_=>rfl|3,_=>rfl⟩
 have I:=c1l x (r 0 (u4 d.E) f rfl rfl) Z9
 obtain⟨F,a,l,c,g⟩:=b71 x (r 1 (v8 d.C) C rfl rfl);obtain rfl:=a3z (r 2 (.bool d.A) c2 rfl rfl);refine(callsIn_wide (n:=6)).1 ((c10 Fence.wide 6 trivial trivial trivial rfl (U9 _) f C o d.A at_ d.E.length d.C.length d.E (λi=>d.C.getD i dz) a l c w g F I h t).mono λe W' A=>?_)
 obtain⟨v,rfl,B,R⟩:=A;refine⟨v,rfl,B,?_⟩
 have:v= .string ⟨(S1 d at_).toArray⟩:=by
  rcases R with⟨rfl,J⟩|⟨k,L,rfl,h1,h2⟩
  ·unfold S1;rw[jQ J];rfl
  ·unfold S1;rw[jH (i:=d.C.length-1-k) h1 Z9 λj hj1 hj2=>?_]
   ·rfl
   ·have:=h2 (d.C.length-1-j) Z9
    rw[show d.C.length-1- (d.C.length-1-j)=j by omega] at this
    exact this
 rw[this];exact .str _
def P3(m:Nat)(p:Pend):Bool:= !V9 p.at_ 0 ((m:Int)-1)||decide ((p.d.length:Int)>160)
def G4(d:Dsk):Prop:=1<=d.E.length/\d.E.length<=100/\d.C.length<=500/\d.keep.length<=500/\(d.A=false->d.keep.length=0)/\(∀i,i<d.E.length->(d.E.getD i []).length<=160)/\
 ∀i,i<d.C.length->P3 d.E.length (d.C.getD i dz)=false
noncomputable instance(d:Dsk):Decidable (G4 d):=Classical.propDecidable _
def yW(d:Dsk):Bool:=decide (G4 d)
theorem kH(d:Dsk):yW d=true↔G4 d:=decide_eq_true_iff
theorem a1P{d:Dsk}(h:¬G4 d):false=yW d:=(tQ h).symm
def c2x(d:Dsk):Prop:=L7 d.E.length/\L7 d.C.length/\L7 d.keep.length
def c5b(d:Dsk):T:=.fn (.func 307) [.bref d.ts]
def a0P:Rl:=⟨Dsk×Pend,λx=>[.agg x.2.ts,.bref x.1.ts],λx=>.bool (P3 x.1.E.length x.2),λx=>L7 x.1.E.length⟩
def b2z:Con:=.rel a0P
theorem a8q:GK 307 b2z:=gk func307<|by
 rintro⟨d,p⟩ (h:d.E.length<1000000000000);refine U6 (gC tK gN) func307 Z3 (α:=m7 (d.E.length:Int)/\(!(decide (0<=p.at_)&&decide (p.at_<(d.E.length:Int)))||decide ((p.d.length:Int)>160))=P3 d.E.length p) ⟨⟨Z9,Z9⟩,?_⟩
 unfold P3 V9;rw[show decide (p.at_<(d.E.length:Int))=decide (p.at_<=(d.E.length:Int)-1) from decide_eq_decide.2 Z9]
theorem U1{ρ:Nat->Option Nat}(cs:List T):J9 ρ (.bref cs) (.bref cs):=⟨1,_,rfl,RLe.refl _⟩
def aA:Rl:=⟨List Pend×Dsk,λx=>[v8 x.1,c5b x.2],λx=>Ji (S6 x.1.length λi=>P3 x.2.E.length (x.1.getD i dz)),λx=>L7 x.1.length/\L7 x.2.E.length⟩
def b4z:Con:=.rel aA
def b3z(L:List Pend)(d:Dsk):Nat->Ann
 |0=>.one (V5 L.length λi=>P3 d.E.length (L.getD i dz)) (λx=>⟨[(0,v8 L),(1,c5b d),(7,Ji L.length),(8,Ji x.1)],[]⟩) (λx=>L.length-x.1) [] [] (λ_=>Z3)
 |_=>.none
theorem a7U:GK 359 b4z:=gk func359<|by
 rintro⟨L,d⟩ ⟨f,hd⟩;have f:L.length<1000000000000:=f;refine U6 (gC a8q gN) func359 (b3z L d) (α:=let r:=(L.length:Int);let p:=(T.bref [T.sl 1 d.E.length (Z5 d.E),T.sl 2 d.C.length (Z1 d.C),T.bool d.A,T.sl 1 d.keep.length (Y9 d.keep)]);(∃(x:V5 L.length λ(i:Nat)=>P3 d.E.length (L.getD i dz)),((Z0 Z1 L L)/\(Fn.func 307=Fn.func 307/\J9 (λ(x:Nat)=>none) p p/\True)/\r=r/\0=(x.1:Int)/\True)/\True)/\∀(x:V5 L.length λ(i:Nat)=>P3 d.E.length (L.getD i dz)),let q:=(x.1:Int);let z:=(L.getD q.toNat dz);bd (q<r) (W9 q L.length/\∃(X:a0P.ι),(((z.at_=X.2.at_/\z.d=X.2.d/\True)/\(zN d X.1)/\True)/\L7 X.1.E.length)/\br (P3 X.1.E.length X.2) (q=S6 L.length λ(i:Nat)=>P3 d.E.length (L.getD i dz)) (Ri (q+1)/\∃(y:V5 L.length λ(i:Nat)=>P3 d.E.length (L.getD i dz)),(((Z0 Z1 L L)/\(Fn.func 307=Fn.func 307/\J9 (λ(x:Nat)=>none) p p/\True)/\r=r/\q+1=(y.1:Int)/\True)/\True)/\Lt (L.length-y.1) (L.length-x.1))) ((-1:Int)=S6 L.length λ(i:Nat)=>P3 d.E.length (L.getD i dz))) ⟨⟨F9,⟨X7,⟨rfl,U1 _,Z6⟩,X7⟩,Z6⟩,λx=>⟨λC=>?_,λC=>?_⟩⟩
 ·have h:=Y2 C;refine⟨Y6 h,(d,L.getD x.1 dz),⟨X7,hd⟩,λhp=>(O0 h hp x.2.2).symm,λhp=>⟨W4 h Z9,x.succ h hp,⟨⟨X7,⟨rfl,U1 _,Z6⟩,rfl,J2,Z6⟩,Z6⟩,V5.ext_lt h⟩⟩
 ·have e:=Y0 C;exact(K4 λj J=>x.2.2 j (yB J e)).symm
def aZ:Rl:=⟨List Pend×Dsk,λx=>[v8 x.1,c5b x.2],λx=>.bool (anyI x.1.length λi=>P3 x.2.E.length (x.1.getD i dz)),λx=>L7 x.1.length/\L7 x.2.E.length⟩
def b2m:Con:=.rel aZ
theorem a6y:GK 306 b2m:=gk func306<|by
 rintro⟨L,d⟩ h;exact U6 (gC a7U gN) func306 Z3 (α:=∃(x:aA.ι),(((Z0 Z1 L x.1)/\(Fn.func 307=Fn.func 307/\(zN d x.2)/\True)/\True)/\L7 x.1.length/\L7 x.2.E.length)/\decide ((S6 x.1.length λ(i:Nat)=>P3 x.2.E.length (x.1.getD i dz))≥(0:Int))=anyI L.length λ(i:Nat)=>P3 d.E.length (L.getD i dz)) ⟨(L,d),⟨⟨X7,⟨rfl,(eqD _),Z6⟩,Z6⟩,h⟩,D1 _ _⟩
def mN:Rl:=⟨Dsk,λd=>[.agg d.ts],λd=>.bool (yW d),c2x⟩
def b2n:Con:=.rel mN
def b3m:Con:=.rel mN
def dH(d:Dsk):Option Ob:=some (.arr true 1000000 4 1 λ_=>d.ts)
def b1o(d:Dsk):Nat->Ann
 |0=>.one (V5 d.E.length λi=>L5 false (d.E.getD i [])) (λx=>⟨[(1,.ref 0 0 0),(3,Ji d.E.length),(4,Ji x.1)],[dH d]⟩) (λx=>d.E.length-x.1) [.box 0] [.box 0] (λ_=>fun
  |1=>.one (V5 d.C.length λi=>P3 d.E.length (d.C.getD i dz)) (λy=>⟨[(1,.ref 0 0 0),(3,Ji d.E.length),(5,Ji y.1)],[dH d]⟩) (λy=>d.C.length-y.1) [.box 0] [.box 0] (λ_=>Z3)
  |_=>.none)
 |_=>.none
def b3X:Con:=.rel oH
def a1H(d:Dsk)(at_:Nat):Type:={i:Nat//i<=d.C.length/\F0 d.C at_ d.C.length=F0 d.C at_ i}
def b1w(d:Dsk)(at_:Nat):Nat->Ann
 |0=>.one (a1H d at_) (λx=>⟨[(1,Ji at_),(2,.ref 0 0 0),(5,Ji ((x.1:Int)-1))],[dH d]⟩) (λx=>x.1) [.box 0] [.box 0] (λ_=>Z3)
 |_=>.none
theorem a7S:GK 226 b2n:=gk func226<|by
 rintro(d:Dsk) ⟨e,f,h3⟩;have e:d.E.length<1000000000000:=e;have f:d.C.length<1000000000000:=f;refine U6 (gC O3 (gC aO (gC a6y gN))) func226 Z3 (α:=br (!V9 (d.E.length:Int) (1:Int) (100:Int)||decide ((d.C.length:Int)>500)||decide ((d.keep.length:Int)>500)|| !d.A&&decide ((d.keep.length:Int)>0)) (false=yW d) (∃(x:dN.ι),(((Z0 Z5 d.E x.1)/\Value.func (Fn.func 305) #[] #[]=Value.func (Fn.func (match x.2 with|true=>361|false=>305)) #[] #[]/\True)/\L7 x.1.length)/\∃(X:aZ.ι),((!anyI x.1.length λ(i:Nat)=>L5 x.2 (x.1.getD i []))=true->((Z0 Z1 d.C X.1)/\(Fn.func 307=Fn.func 307/\(zN d X.2)/\True)/\True)/\L7 X.1.length/\L7 X.2.E.length)/\((!anyI x.1.length λ(i:Nat)=>L5 x.2 (x.1.getD i []))&& !anyI X.1.length λ(i:Nat)=>P3 X.2.E.length (X.1.getD i dz))=yW d)) ⟨λh=>a1P ?_,λh=>⟨(d.E,false),⟨X7,e⟩,(d.C,d),λ_=>⟨⟨X7,⟨rfl,(eqD _),Z6⟩,Z6⟩,f,e⟩,?_⟩⟩
 ·rintro⟨p1,p2,p3,p4,p5,_⟩;simp[V9] at h;cases ha:d.A with
  |true=>simp[ha] at h;omega
  |false=>simp[ha] at h;have:=p5 ha;omega
 ·simp[V9] at h;rw[Bool.eq_iff_iff,kH];show((!anyI d.E.length λi=>L5 false (d.E.getD i []))&& !anyI d.C.length λi=>P3 d.E.length (d.C.getD i dz))=true↔G4 d
  simp only[I4,wA,P5];constructor
  ·rintro⟨q,Q⟩;exact⟨Z9,Z9,Z9,Z9,λha=>by have:=h.2 ha;simp[this],λi hi=>fC.1 (q i hi),Q⟩
  ·rintro⟨_,_,_,_,_,q,Q⟩;exact⟨λi hi=>fC.2 (q i hi),Q⟩
theorem a8M:GK 157 b3m:=gk func157<|by
 rintro(d:Dsk) ⟨f,e,h3⟩;have f:d.E.length<1000000000000:=f;have e:d.C.length<1000000000000:=e;refine U6 (gC A2 gN) func157 (b1o d) (α:=let j:=(d.keep.length:Int);let v:=(false=yW d);let u:=(0=0/\0=0);let q:=(1=1/\1=1/\zN d d);let p:=(d.E.length:Int);br (!V9 p (1:Int) (100:Int)||decide ((d.C.length:Int)>500)||decide (j>500)|| !d.A&&decide (j>0)) v ((∃(x:V5 d.E.length λ(i:Nat)=>L5 false (d.E.getD i [])),(u/\p=p/\0=(x.1:Int)/\True)/\q/\True)/\∀(x:V5 d.E.length λ(i:Nat)=>L5 false (d.E.getD i [])),let z:=(x.1:Int);bd (z<p) (W9 z d.E.length/\bd ((↑(d.E.getD z.toNat []).length:Int)>160) v (Ri (z+1)/\∃(y:V5 d.E.length λ(i:Nat)=>L5 false (d.E.getD i [])),((u/\p=p/\z+1=(y.1:Int)/\True)/\q/\True)/\Lt (d.E.length-y.1) (d.E.length-x.1))) ((∃(x:V5 d.C.length λ(i:Nat)=>P3 d.E.length (d.C.getD i dz)),(u/\p=p/\0=(x.1:Int)/\True)/\q/\True)/\∀(x:V5 d.C.length λ(i:Nat)=>P3 d.E.length (d.C.getD i dz)),let r:=(x.1:Int);let w:=(d.C.getD r.toNat dz);bd (r<(d.C.length:Int)) (W9 r d.C.length/\Ri (p-1)/\br (!V9 w.at_ (0:Int) (p-1)||decide ((↑w.d.length:Int)>160)) v (Ri (r+1)/\∃(y:V5 d.C.length λ(i:Nat)=>P3 d.E.length (d.C.getD i dz)),((u/\p=p/\r+1=(y.1:Int)/\True)/\q/\True)/\Lt (d.C.length-y.1) (d.C.length-x.1))) (true=yW d)))) ⟨λh=>a1P ?_,λh=>⟨⟨F9,X7⟩,λx=>⟨λhc=>?_,λhc=>⟨⟨F9,X7⟩,λy=>⟨λhd=>?_,λhd=>?_⟩⟩⟩⟩⟩
 ·rintro⟨p1,p2,p3,p4,p5,_⟩;simp[V9] at h;cases ha:d.A with
  |true=>simp[ha] at h;omega
  |false=>simp[ha] at h;have:=p5 ha;omega
 ·have hlt:=Y2 hc;refine⟨Y6 hlt,λhb=>a1P ?_,λhb=>⟨W4 hlt Z9,x.succ hlt hb,X7,V5.ext_lt hlt⟩⟩
  rintro⟨_,_,_,_,_,q,_⟩;have:=q x.1 hlt;rw[E4,q8] at hb;omega
 ·have hlt:=Y2 hd;refine⟨Y6 hlt,Z4 Z9,λhb=>a1P ?_,λhb=>⟨W4 hlt Z9,y.succ hlt hb,⟨⟨X7,rfl,J2,Z6⟩,X7⟩,V5.ext_lt hlt⟩⟩
  rintro⟨_,_,_,_,_,_,Q⟩;have:=Q y.1 hlt;rw[E4] at hb;unfold P3 at this;rw[hb] at this;cases this
 ·simp[V9] at h;have g:=Y0 hc;have j:=Y0 hd;refine((kH d).2 ⟨Z9,Z9,Z9,Z9,λha=>by have:=h.2 ha;simp[this],λi hi=>fC.1 (x.2.2 i (yB hi g)),λi hi=>y.2.2 i (yB hi j)⟩).symm
theorem dR:GK 129 b3X:=gk func129<|by
 rintro⟨d,at_⟩ ⟨t,h⟩;simp only at t h;refine U6 gN func129 (b1w d at_) (α:=let z:=(1=1/\1=1/\zN d d);let q:=(at_:Int);Ri ((d.C.length:Int)-1)/\(∃(x:a1H d at_),(q=q/\(0=0/\0=0)/\(d.C.length:Int)-1=(x.1:Int)-1/\True)/\z/\True)/\∀(x:a1H d at_),let p:=(x.1:Int);let r:=(d.C.getD (p-1).toNat dz);bd (p-1≥(0:Int)) (W9 (p-1) d.C.length/\br (r.at_==q) (W9 (p-1) d.C.length/\r.d=S1 d at_) (Ri (p-1-1)/\∃(y:a1H d at_),((q=q/\(0=0/\0=0)/\p-1-1=(y.1:Int)-1/\True)/\z/\True)/\Lt y.1 x.1)) (W9 q d.E.length/\d.E.getD q.toNat []=S1 d at_)) ⟨Z4 Z9,⟨⟨d.C.length,X7⟩,X7⟩,λx=>?_⟩
 obtain⟨i,hi,X⟩:=x;simp only;refine⟨λhc=>?_,λhc=>⟨⟨Z9,Z9⟩,?_⟩⟩
 ·have hpos:1<=i:=by have:=G6 hc;omega
  obtain⟨j,rfl⟩:∃j,i=j+1:=⟨i-1,Z9⟩
  rw[show(((j+1:Nat):Int)-1).toNat=j by omega]
  have hl:F0 d.C at_ (j+1)=if(d.C.getD j dz).at_=at_ then some (d.C.getD j dz).d else F0 d.C at_ j:=rfl
  refine⟨⟨Z9,Z9⟩,λhb=>⟨⟨Z9,Z9⟩,?_⟩,λhb=>⟨Z4 Z9,⟨j,Z9,?_⟩,⟨⟨S7,⟨S7,S7⟩,M3,Z6⟩,⟨S7,S7,⟨S7,X6 _ _⟩,⟨S7,X6 _ _⟩,S7,⟨S7,X6 _ _⟩,Z6⟩,Z6⟩,nE⟩⟩
  ·rw[if_pos jL] at hl
   unfold S1;rw[X,hl];rfl
  ·rw[if_neg jL] at hl
   rw[X,hl]
 ·have h0:i=0:=by have:=m9 hc;omega
  subst h0;unfold S1;rw[X];rfl
structure Frm where
 no:Int
 pg:Pg
 D:Bool
 first:Int
 deriving Inhabited
def Frm.ts(f:Frm):List T:=[Ji f.no,Ji f.pg.Q,u4 f.pg.sl,.bool f.D,Ji f.first]
structure Sto where
 d:Dsk
 ep:Int
 L:List Rec
 S:Int
 fr:List Frm
 J:Int
 deriving Inhabited
def W2(L:List Frm)(i:Nat):List T:=(L.getD i dz).ts
def uD(L:List Frm):T:=.sl 5 L.length (W2 L)
def Sto.ts(s:Sto):List T:=[u4 s.d.E,v8 s.d.C,.bool s.d.A,sM s.d.keep,Ji s.ep,zH s.L,Ji s.S,uD s.fr,Ji s.J]
abbrev yU(a b:Sto):Prop:=(a.d.E.length=b.d.E.length/\Z7 a.d.E.length (Z5 a.d.E) (Z5 b.d.E))/\(a.d.C.length=b.d.C.length/\Z7 a.d.C.length (Z1 a.d.C) (Z1 b.d.C))/\a.d.A=b.d.A/\(a.d.keep.length=b.d.keep.length/\Z7 a.d.keep.length (Y9 a.d.keep) (Y9 b.d.keep))/\a.ep=b.ep/\(a.L.length=b.L.length/\Z7 a.L.length (Y1 a.L) (Y1 b.L))/\a.S=b.S/\(a.fr.length=b.fr.length/\Z7 a.fr.length (W2 a.fr) (W2 b.fr))/\a.J=b.J/\True
theorem jV(s:Sto):yU s s:=X7
def fL(s:Sto):Option Ob:=some (.arr true 1000000 9 1 λ_=>s.ts)
def P7(d:Dsk)(no:Nat):Pg×Bool:=if S1 d (1+no)=[] then(⟨0,[[],[],[],[]]⟩,true) else E7 no (S1 d (1+no))
def T1(d:Dsk)(no:Nat):Pg×Bool:=if S1 d (1+no)=[] then(⟨0,[[],[],[],[]]⟩,true) else(P2 no (S1 d (1+no)),(E7 no (S1 d (1+no))).2)
theorem eS(d:Dsk)(no:Nat):(T1 d no).2=(P7 d no).2/\((P7 d no).2=true->T1 d no=P7 d no):=by
 unfold T1 P7;by_cases h:S1 d (1+no)=[]
 ·rw[if_pos h,if_pos h];exact⟨rfl,λ_=>rfl⟩
 ·rw[if_neg h,if_neg h];refine⟨rfl,λh2=>?_⟩
  unfold P2;rw[if_pos h2]
def a03(x:Dsk×Nat):Prop:=G4 x.1/\1+x.2<x.1.E.length
theorem lY{d:Dsk}(h:G4 d){at_:Nat}(A:at_<d.E.length):(S1 d at_).length<=160:=by
 obtain⟨_,_,_,_,_,e,h2⟩:=h;have key:∀n,n<=d.C.length->∀l,F0 d.C at_ n=some l->l.length<=160:=by
  intro n;induction n with
  |zero=>intro _ l hl;cases hl
  |succ n i=>
   intro N l hl;unfold F0 at hl;split at hl
   ·simp only[X0] at hl;subst hl;have:=h2 n Z9
    unfold P3 at this;simp only[wU,uI] at this;omega
   ·exact i Z9 l hl
 unfold S1;cases hl:F0 d.C at_ d.C.length with
 |none=>exact e at_ A
 |some l=>exact key _ (U9 _) l hl
def cK:Rl:=⟨Sto×Nat,λx=>[.bref x.1.ts,Ji x.2],λx=>.tup [.agg (T1 x.1.d x.2).1.ts,.bool (T1 x.1.d x.2).2],λx=>a03 (x.1.d,x.2)⟩
def a6K:Con:=.rel cK
def a0M:Rl:=⟨Dsk×Nat,λx=>[.agg x.1.ts,Ji x.2],λx=>.tup [.agg (P7 x.1 x.2).1.ts,.bool (P7 x.1 x.2).2],a03⟩
def b3o:Con:=.rel a0M
theorem a0t(d:Dsk)(no:Nat)(h:
let p:=(P7 d no);  Ri (1+(no:Int))/\∃(x:oH.ι),(((zN d x.1)/\1+(no:Int)=(x.2:Int)/\True)/\AtB x)/\br (S1 x.1 x.2==[]) (∃(x:rC.ι),(True/\True)/\(0=p.1.Q/\(4=p.1.sl.length/\Z7 4 (Z5 [[],[],[],[]]) (Z5 p.1.sl))/\True)/\true=p.2/\True) (∃(X:aV.ι),let q:=(E7 X.1 X.2);(((no:Int)=X.1/\S1 x.1 x.2=X.2/\True)/\RdB X.2)/\(q.1.Q=p.1.Q/\(Z0 Z5 q.1.sl p.1.sl)/\True)/\q.2=p.2/\True)):
  V3 prog 161 [.agg d.ts,Ji no] (.tup [.agg (P7 d no).1.ts,.bool (P7 d no).2]):=
 U6 (gC dR (gC a3Q (gC a8o gN))) func161 Z3 h
def lB(L:List Frm)(no:Int)(i:Nat):Bool:=(L.getD i dz).no==no
def frAt(L:List Frm)(no:Int):Int:=S6 L.length (lB L no)
def noF(no:Int):T:=.fn (.func 271) [.bref [Ji no]]
def gL:Rl:=⟨Frm×Int,λx=>[.agg x.1.ts,.bref [Ji x.2]],λx=>.bool (x.1.no==x.2),λ_=>True⟩
def a6E:Con:=.rel gL
theorem a6o(f:Frm)(no:Int)(h:
  (f.no==no)=(f.no==no)):
  V3 prog 271 [.agg f.ts,.bref [Ji no]] (.bool (f.no==no)):=
 U6 gN func271 Z3 h
theorem a3E:GK 271 a6E:=gk func271<|λx _=>a6o x.1 x.2 rfl
def a5t:Rl:=⟨List Frm×Int,λx=>[uD x.1,noF x.2],λx=>Ji (frAt x.1 x.2),λx=>L7 x.1.length⟩
def b5Z:Con:=.rel a5t
def b8p(L:List Frm)(no:Int):Nat->Ann
 |0=>.one (V5 L.length (lB L no)) (λx=>⟨[(0,uD L),(1,noF no),(7,Ji L.length),(8,Ji x.1)],[]⟩) (λx=>L.length-x.1) [] [] (λ_=>Z3)
 |_=>.none
theorem b4r:GK 270 b5Z:=gk func270<|by
 rintro⟨L,no⟩ (hL:L.length<1000000000000);refine U6 (gC a3E gN) func270 (b8p L no) (α:=let r:=(L.length:Int);let q:=(T.bref [Ji no]);(∃(x:V5 L.length (lB L no)),((Z0 W2 L L)/\(Fn.func 271=Fn.func 271/\J9 (λ(x:Nat)=>none) q q/\True)/\r=r/\0=(x.1:Int)/\True)/\True)/\∀(x:V5 L.length (lB L no)),let z:=(x.1:Int);let p:=(L.getD z.toNat dz);bd (z<r) (W9 z L.length/\∃(X:gL.ι),(((p.no=X.1.no/\p.pg.Q=X.1.pg.Q/\(Z0 Z5 p.pg.sl X.1.pg.sl)/\p.D=X.1.D/\p.first=X.1.first/\True)/\(no=X.2/\True)/\True)/\True)/\br (X.1.no==X.2) (z=frAt L no) (Ri (z+1)/\∃(y:V5 L.length (lB L no)),(((Z0 W2 L L)/\(Fn.func 271=Fn.func 271/\J9 (λ(x:Nat)=>none) q q/\True)/\r=r/\z+1=(y.1:Int)/\True)/\True)/\Lt (L.length-y.1) (L.length-x.1))) ((-1:Int)=frAt L no)) ⟨⟨F9,⟨X7,⟨rfl,U1 _,Z6⟩,X7⟩,Z6⟩,λx=>⟨λC=>?_,λC=>?_⟩⟩
 ·have h:=Y2 C;refine⟨Y6 h,(L.getD x.1 dz,no),X7,λhp=>(O0 h hp x.2.2).symm,λhp=>⟨W4 h Z9,x.succ h hp,⟨⟨X7,⟨rfl,U1 _,Z6⟩,rfl,J2,Z6⟩,Z6⟩,V5.ext_lt h⟩⟩
 ·have e:=Y0 C;exact(K4 λj J=>x.2.2 j (yB J e)).symm
def qR:Rl:=⟨Sto×Int,λx=>[.bref x.1.ts,Ji x.2],λx=>Ji (frAt x.1.fr x.2),λx=>L7 x.1.fr.length⟩
def b4X:Con:=.rel qR
def pH:Rl:=⟨Sto×Int,λx=>[.agg x.1.ts,Ji x.2],λx=>Ji (frAt x.1.fr x.2),λx=>L7 x.1.fr.length⟩
def a53:Con:=.rel pH
def a6s(s:Sto)(no:Int):Nat->Ann
 |0=>.one (V5 s.fr.length (lB s.fr no)) (λx=>⟨[(1,Ji no),(2,.ref 0 0 0),(5,Ji x.1)],[fL s]⟩) (λx=>s.fr.length-x.1) [.box 0] [.box 0] (λ_=>Z3)
 |_=>.none
theorem pD:GK 185 b4X:=gk func185<|by
 rintro⟨s,no⟩ h;exact U6 (gC b4r gN) func185 Z3 (α:=∃(x:a5t.ι),(((Z0 W2 s.fr x.1)/\(Fn.func 271=Fn.func 271/\(no=x.2/\True)/\True)/\True)/\L7 x.1.length)/\frAt x.1 x.2=frAt s.fr no) ⟨(s.fr,no),⟨X7,h⟩,rfl⟩
theorem kA:GK 160 a53:=gk func160<|by
 rintro⟨s,no⟩ (hL:s.fr.length<1000000000000);refine U6 gN func160 (a6s s no) (α:=let q:=(1=1/\1=1/\yU s s);(∃(x:V5 s.fr.length (lB s.fr no)),(no=no/\(0=0/\0=0)/\0=(x.1:Int)/\True)/\q/\True)/\∀(x:V5 s.fr.length (lB s.fr no)),let p:=(x.1:Int);bd (p<(s.fr.length:Int)) (W9 p s.fr.length/\br ((s.fr.getD p.toNat dz).no==no) (p=frAt s.fr no) (Ri (p+1)/\∃(y:V5 s.fr.length (lB s.fr no)),((no=no/\(0=0/\0=0)/\p+1=(y.1:Int)/\True)/\q/\True)/\Lt (s.fr.length-y.1) (s.fr.length-x.1))) ((-1:Int)=frAt s.fr no)) ⟨⟨F9,X7⟩,λx=>⟨λC=>?_,λC=>?_⟩⟩
 ·have h:=Y2 C;exact⟨Y6 h,λhp=>(O0 h hp x.2.2).symm,λhp=>⟨W4 h Z9,x.succ h hp,⟨⟨rfl,X7,J2,Z6⟩,X7⟩,V5.ext_lt h⟩⟩
 ·have e:=Y0 C;exact(K4 λj J=>x.2.2 j (yB J e)).symm
theorem a0B(no:Int)(t:Bz):(I6 no t==(0:Int))=(E7 no t).2:=by
 unfold I6;cases hu:S0 t
 ·have:(E7 no t).2=false:=by unfold E7;rw[hu];rfl
  rw[this];rfl
 ·cases h:(E7 no t).2<;>rfl
theorem a4d:GK 187 a6K:=gk func187<|by
 rintro⟨s,no⟩ ⟨hd,n⟩;simp only at hd n;have f:=lY hd n;obtain⟨q,g,Q,_⟩:=hd;refine U6 (gC dQ (gC a36 (gC a3P gN))) func187 Z3 (α:=let p:=(T1 s.d no);Ri (1+(no:Int))/\∃(x:oH.ι),(((zN s.d x.1)/\1+(no:Int)=(x.2:Int)/\True)/\AtB x)/\br (S1 x.1 x.2==[]) (∃(x:rC.ι),(True/\True)/\(0=p.1.Q/\(4=p.1.sl.length/\Z7 4 (Z5 [[],[],[],[]]) (Z5 p.1.sl))/\True)/\true=p.2/\True) (Lt (S1 x.1 x.2).length 140737488355329/\∃(X:fO.ι),(((no:Int)=X.1/\S1 x.1 x.2=X.2/\True)/\RdB X.2)/\((P2 X.1 X.2).Q=p.1.Q/\(Z0 Z5 (P2 X.1 X.2).sl p.1.sl)/\True)/\(I6 X.1 X.2==0)=p.2/\True)) ⟨Z4 Z9,(s.d,1+no),⟨⟨(eqD _),M3,Z6⟩,n,M3⟩,λh=>⟨(),X7,?_⟩,λh=>⟨nE,((no:Int),S1 s.d (1+no)),⟨X7,by show(S1 s.d (1+no)).length<=1000;omega⟩,?_⟩⟩
 ·have h:S1 s.d (1+no)=[]:=by simpa using h
  have e:T1 s.d no=(⟨0,[[],[],[],[]]⟩,true):=by unfold T1;rw[if_pos h]
  rw[e];exact X7
 ·have h:S1 s.d (1+no)≠[]:=by simpa using h
  have e:T1 s.d no=(P2 no (S1 s.d (1+no)),(E7 no (S1 s.d (1+no))).2):=by unfold T1;rw[if_neg h]
  rw[e];exact⟨X7,a0B _ _,Z6⟩
theorem a64:GK 161 b3o:=gk func161<|by
 rintro⟨d,no⟩ ⟨hd,n⟩;simp only at hd n;have f:=lY hd n;obtain⟨q,g,Q,_⟩:=hd;refine a0t d no ⟨Z4 Z9,(d,1+no),⟨⟨(eqD _),M3,Z6⟩,n,M3⟩,λh=>⟨(),X7,?_⟩,λh=>⟨((no:Int),S1 d (1+no)),⟨X7,by show(S1 d (1+no)).length<=1000;omega⟩,?_⟩⟩
 ·have h:S1 d (1+no)=[]:=by simpa using h
  have e:P7 d no=(⟨0,[[],[],[],[]]⟩,true):=by unfold P7;rw[if_pos h]
  rw[e];exact X7
 ·have h:S1 d (1+no)≠[]:=by simpa using h
  have e:P7 d no=E7 no (S1 d (1+no)):=by unfold P7;rw[if_neg h]
  rw[e];exact X7
def zC(s:Sto)(i:Nat):Bool:=
 !V9 (s.fr.getD i dz).no 0 7||frAt s.fr (s.fr.getD i dz).no !=(i:Int)|| !k7 (s.fr.getD i dz).pg||decide ((s.fr.getD i dz).pg.Q>(s.L.length:Int))|| !V9 (s.fr.getD i dz).first 0 s.L.length||
  decide ((s.fr.getD i dz).first>0) !=(s.fr.getD i dz).D
def zG(s:Sto):Bool:= !anyI s.fr.length (zC s)&&decide ((s.fr.length:Int)<=3)
def FrB(L:List Frm):Prop:=L7 L.length/\∀i,i<L.length->PgB (L.getD i dz).pg
def c81(s:Sto):Prop:=FrB s.fr/\L7 s.L.length
def dO:Rl:=⟨Sto,λs=>[.bref s.ts],λs=>.bool (zG s),c81⟩
def a7C:Con:=.rel dO
def a7E(s:Sto):Nat->Ann
 |0=>.one (V5 s.fr.length (zC s)) (λx=>⟨[(0,.bref s.ts),(8,uD s.fr),(9,Ji s.fr.length),(10,Ji x.1)],[]⟩) (λx=>s.fr.length-x.1) [] [] (λ_=>Z3)
 |_=>.none
theorem c68(n:Int):(decide (0<=n)&&decide (n<8))=V9 n 0 7:=by
 unfold V9;rw[show decide (n<8)=decide (n<=7) from decide_eq_decide.2 Z9]
theorem a4L:GK 228 a7C:=gk func228<|by
 rintro(s:Sto) ⟨⟨f,h2⟩,g⟩;have f:s.fr.length<1000000000000:=f;have g:s.L.length<1000000000000:=g;refine U6 (gC tK (gC pD (gC pG (gC O3 gN)))) func228 (a7E s) (α:=let u:=(T.bref s.ts);let q:=(s.fr.length:Int);(∃(x:V5 s.fr.length (zC s)),(J9 (λ(x:Nat)=>none) u u/\(Z0 W2 s.fr s.fr)/\q=q/\0=(x.1:Int)/\True)/\True)/\∀(x:V5 s.fr.length (zC s)),let z:=(x.1:Int);let p:=(s.fr.getD z.toNat dz);let r:=(decide (0<=p.no)&&decide (p.no<8));bd (z<q) (W9 z s.fr.length/\m7 (8:Int)/\∃(X:qR.ι),((! r)=false->((yU s X.1)/\p.no=X.2/\True)/\L7 X.1.fr.length)/\∃(d:xE.ι),((! r||frAt X.1.fr X.2 !=z)=false->((p.pg.Q=d.Q/\(Z0 Z5 p.pg.sl d.sl)/\True)/\True)/\PgB d)/\br (! r||frAt X.1.fr X.2 !=z|| !k7 d||decide (p.pg.Q>(s.L.length:Int))|| !V9 p.first (0:Int) (s.L.length:Int)|| !decide (p.first>0)==p.D) (false=zG s) (Ri (z+1)/\∃(y:V5 s.fr.length (zC s)),((J9 (λ(x:Nat)=>none) u u/\(Z0 W2 s.fr s.fr)/\q=q/\z+1=(y.1:Int)/\True)/\True)/\Lt (s.fr.length-y.1) (s.fr.length-x.1))) (decide (q<=3)=zG s)) ⟨⟨F9,⟨U1 _,X7⟩,Z6⟩,λx=>⟨λhc=>?_,λhc=>?_⟩⟩
 ·have h:=Y2 hc;rw[c68,E4];have e:(!V9 (s.fr.getD x.1 dz).no 0 7||frAt s.fr (s.fr.getD x.1 dz).no !=(x.1:Int)|| !k7 (s.fr.getD x.1 dz).pg||decide ((s.fr.getD x.1 dz).pg.Q>(s.L.length:Int))||
    !V9 (s.fr.getD x.1 dz).first 0 s.L.length|| !decide ((s.fr.getD x.1 dz).first>0)==(s.fr.getD x.1 dz).D)=zC s x.1:=rfl
  refine⟨Y6 h,⟨Z9,Z9⟩,(s,(s.fr.getD x.1 dz).no),λ_=>⟨⟨(jV _),X7⟩,f⟩,(s.fr.getD x.1 dz).pg,λ_=>⟨X7,h2 _ h⟩,λB=>?_,λB=>⟨W4 h Z9,x.succ h (e.symm.trans B),⟨⟨U1 _,X7,rfl,J2,Z6⟩,Z6⟩,V5.ext_lt h⟩⟩
  have:anyI s.fr.length (zC s)=true:=R9.2 ⟨x.1,h,e.symm.trans B⟩;unfold zG;rw[this];rfl
 ·have hge:=Y0 hc;have:anyI s.fr.length (zC s)=false:=P5.2 λi hi=>x.2.2 i (yB hi hge)
  unfold zG;rw[this];simp
def yV(L:List Rec)(i:Nat):Int:=if i=0 then 1 else(L.getD (i-1) dz).e
def vC(s:Sto)(i:Nat):Bool:= !V9 (s.L.getD i dz).e (yV s.L i) s.ep
def c8(s:Sto)(no:Nat):Bool:= !(P7 s.d no).2||decide ((P7 s.d no).1.Q>s.S)
def oE(s:Sto):Bool:= !yW s.d||((s.d.E.length:Nat):Int) !=69|| !V9 s.ep 1 60||decide ((s.L.length:Int)>60)
def G2(s:Sto):Bool:= !(oE s|| !yZ s.L|| !V9 s.S 0 s.L.length)&& !anyI s.L.length (vC s)&& !anyI 8 (c8 s)&&zG s&&V9 s.J 0 2
def b24(s:Sto):Prop:=c2x s.d/\c2K s.L/\FrB s.fr/\∀r ∈ s.L,L7 r.a.length
def qG:Rl:=⟨Sto,λs=>[.agg s.ts],λs=>.bool (G2 s),b24⟩
def a7L:Con:=.rel qG
def a56:Con:=.rel qG
def a6c(s:Sto):Nat->Ann
 |0=>.onef [1,3,48,49,50] (V5 s.L.length (vC s)) (λx=>⟨[(1,.bref s.ts),(3,Ji (yV s.L x.1)),(48,zH s.L),(49,Ji s.L.length),(50,Ji x.1)],[]⟩) (λx=>s.L.length-x.1) [] (λ_=>fun
  |1=>.one (V5 8 (c8 s)) (λx=>⟨[(1,.bref s.ts),(64,Ji x.1)],[]⟩) (λx=>8-x.1) [] [] (λ_=>Z3)
  |_=>.none)
 |_=>.none
def tE(s:Sto)(i:Nat):Bool:= !P0 (s.L.getD i dz)||(s.L.getD i dz).l !=(i:Int)+1||decide ((s.L.getD i dz).e>s.ep)||(decide ((i:Int)>0)&&decide ((s.L.getD (i-1) dz).e>(s.L.getD i dz).e))
def wH(s:Sto)(i:Nat):Bool:=
 !V9 (s.fr.getD i dz).no 0 7|| !k7 (s.fr.getD i dz).pg||decide ((s.fr.getD i dz).pg.Q>(s.L.length:Int))|| !V9 (s.fr.getD i dz).first 0 s.L.length||
  (s.fr.getD i dz).D !=decide ((s.fr.getD i dz).first>0)||frAt s.fr (s.fr.getD i dz).no !=(i:Int)
def a6r(s:Sto):Nat->Ann
 |0=>.one (V5 s.L.length (tE s)) (λx=>⟨[(1,.ref 0 0 0),(3,Ji x.1)],[fL s]⟩) (λx=>s.L.length-x.1) [.box 0] [.box 0] (λ_=>fun
  |1=>.one (V5 s.fr.length (wH s)) (λx=>⟨[(1,.ref 0 0 0),(5,Ji x.1)],[fL s]⟩) (λx=>s.fr.length-x.1) [.box 0] [.box 0] (λ_=>fun
   |2=>.one (V5 8 (c8 s)) (λx=>⟨[(1,.ref 0 0 0),(7,Ji x.1)],[fL s]⟩) (λx=>8-x.1) [.box 0] [.box 0] (λ_=>Z3)
   |_=>.none)
  |_=>.none)
 |_=>.none
theorem G8(s:Sto):G2 s=true↔(oE s=false/\yZ s.L=true/\V9 s.S 0 s.L.length=true)/\(∀i,i<s.L.length->vC s i=false)/\(∀i,i<8->c8 s i=false)/\zG s=true/\V9 s.J 0 2=true:=by
 unfold G2;simp only[I4,wA,wU,wX,P5];exact⟨λh=>⟨⟨h.1.1.1.1.1.1,h.1.1.1.1.1.2,h.1.1.1.1.2⟩,h.1.1.1.2,h.1.1.2,h.1.2,h.2⟩,λh=>⟨⟨⟨⟨⟨⟨h.1.1,h.1.2.1⟩,h.1.2.2⟩,h.2.1⟩,h.2.2.1⟩,h.2.2.2.1⟩,h.2.2.2.2⟩⟩
theorem oA{s:Sto}(h:¬G2 s=true):false=G2 s:=(Bool.eq_false_iff.2 h).symm
theorem o8(s:Sto):oE s=false↔G4 s.d/\s.d.E.length=69/\1<=s.ep/\s.ep<=60/\s.L.length<=60:=by
 unfold oE;simp only[wU,wX,kH,bne_eq_false_iff_eq,V9,I4,q8,uI];constructor
 ·rintro⟨⟨⟨h,i⟩,e,f⟩,g⟩;exact⟨h,Z9,e,f,Z9⟩
 ·rintro⟨h,i,e,f,g⟩;exact⟨⟨⟨h,Z9⟩,e,f⟩,Z9⟩
theorem b0W(s:Sto)(no:Nat):(!(T1 s.d no).2||decide ((T1 s.d no).1.Q>s.S))=c8 s no:=by
 unfold c8;obtain⟨e,f⟩:=eS s.d no;cases h:(P7 s.d no).2
 ·rw[e,h];rfl
 ·rw[f h,h]
theorem c5t(n:Int):(decide (0<=n)&&decide (n<3))=V9 n 0 2:=by
 unfold V9;rw[show decide (n<3)=decide (n<=2) from decide_eq_decide.2 Z9]
theorem b2Z(L:List Rec)(i:Nat):yV L (i+1)=(L.getD i dz).e:=by unfold yV;rw[if_neg Z9];rfl
theorem a3q:GK 139 a7L:=gk func139<|by
 rintro(s:Sto) ⟨hd,hl,hf,hm⟩;have j:(!yW s.d||(s.d.E.length:Int) !=69|| !V9 s.ep 1 60||decide ((s.L.length:Int)>60)|| !yZ s.L|| !V9 s.S 0 s.L.length)=(oE s|| !yZ s.L|| !V9 s.S 0 s.L.length):=rfl;refine U6 (gC a7S (gC O3 (gC bE (gC a4d (gC a4L (gC tK gN)))))) func139 (a6c s) (α:=let w:=(s.d.E.length:Int);let v:=(false=G2 s);let q:=(T.bref s.ts);let p:=(s.L.length:Int);∃(x:mN.ι),(((zN s.d x)/\True)/\c2x x)/\∃(f:lW.ι),((!yW x||w !=69|| !V9 s.ep (1:Int) (60:Int)||decide (p>60))=false->((Z0 Y1 s.L f)/\True)/\c2K f)/\br (!yW x||w !=69|| !V9 s.ep (1:Int) (60:Int)||decide (p>60)|| !yZ f|| !V9 s.S (0:Int) p) v ((∃(x:V5 s.L.length (vC s)),(J9 (λ(x:Nat)=>none) q q/\1=yV s.L x.1/\(Z0 Y1 s.L s.L)/\p=p/\0=(x.1:Int)/\True)/\True)/\∀(x:V5 s.L.length (vC s)),let r:=(x.1:Int);let u:=(s.L.getD r.toNat dz).e;bd (r<p) (W9 r s.L.length/\br (!V9 u (yV s.L x.1) s.ep) v (Ri (r+1)/\∃(y:V5 s.L.length (vC s)),((J9 (λ(x:Nat)=>none) q q/\u=yV s.L y.1/\(Z0 Y1 s.L s.L)/\p=p/\r+1=(y.1:Int)/\True)/\True)/\Lt (s.L.length-y.1) (s.L.length-x.1))) ((∃(x:V5 8 (c8 s)),(J9 (λ(x:Nat)=>none) q q/\0=(x.1:Int)/\True)/\True)/\∀(x:V5 8 (c8 s)),let z:=(x.1:Int);bd (z<8) (∃(X:cK.ι),(((yU s X.1)/\z=(X.2:Int)/\True)/\a03 (X.1.d,X.2))/\br (!(T1 X.1.d X.2).2||decide ((T1 X.1.d X.2).1.Q>s.S)) v (Ri (z+1)/\∃(y:V5 8 (c8 s)),((J9 (λ(x:Nat)=>none) q q/\z+1=(y.1:Int)/\True)/\True)/\Lt (8-y.1) (8-x.1))) (∃(x:dO.ι),(((yU s x)/\True)/\c81 x)/\(zG x=true->m7 (3:Int))/\(zG x&&(decide (0<=s.J)&&decide (s.J<3)))=G2 s)))) ⟨s.d,⟨⟨(eqD _),Z6⟩,hd⟩,s.L,λ_=>⟨X7,hl⟩,λhb=>oA ?_,λhb=>?_⟩
 ·rw[G8];rintro⟨⟨g,l,n⟩,_⟩;rw[j,g,l,n] at hb;cases hb
 rw[j] at hb;simp only[wU,wX] at hb;obtain⟨⟨B,b2⟩,o⟩:=hb;obtain⟨C,c2,q,t,r⟩:=(o8 s).1 B;refine⟨⟨F9,⟨U1 _,X7⟩,Z6⟩,λx=>⟨λhc=>?_,λhc=>⟨⟨F9,⟨U1 _,X7⟩,Z6⟩,λy=>⟨λhy=>?_,λhy=>?_⟩⟩⟩⟩
 ·have hlt:=Y2 hc;refine⟨Y6 hlt,λhb=>oA ?_,λhb=>⟨W4 hlt Z9,x.succ hlt hb,⟨⟨U1 _,(b2Z _ _).symm,X7,rfl,J2,Z6⟩,Z6⟩,V5.ext_lt hlt⟩⟩
  rw[G8];rintro⟨_,g,_⟩;have:=g x.1 hlt;unfold vC at this;rw[E4,this] at hb;cases hb
 ·have hlt:y.1<8:=by have:=G6 hy;omega
  refine⟨(s,y.1),⟨⟨(jV _),X7⟩,C,M3⟩,λhb=>oA ?_,λhb=>⟨Z4 Z9,y.succ hlt ((b0W s y.1).symm.trans hb),⟨⟨U1 _,J2,Z6⟩,Z6⟩,V5.ext_lt hlt⟩⟩
  rw[G8];rintro⟨_,_,g,_⟩;have:=g y.1 hlt;rw[←b0W] at this;have hb:(!(T1 s.d y.1).2||decide ((T1 s.d y.1).1.Q>s.S))=true:=hb;rw[this] at hb;cases hb
 ·have g1:=Y0 hc;have g2:8<=y.1:=by have:=m9 hy;omega
  refine⟨s,⟨⟨(jV _),Z6⟩,hf,hl.1⟩,λ_=>⟨Z9,Z9⟩,?_⟩
  rw[c5t,Bool.eq_iff_iff,G8];simp only[I4];exact⟨λh=>⟨⟨B,b2,o⟩,λi hi=>x.2.2 i (yB hi g1),λi hi=>y.2.2 i (yB hi g2),h⟩,λh=>h.2.2.2⟩
theorem b9N(s:Sto)(i:Nat):wH s i=zC s i:=by
 unfold wH zC;generalize V9 (s.fr.getD i dz).no 0 7=a;generalize k7 (s.fr.getD i dz).pg=b;generalize decide ((s.fr.getD i dz).pg.Q>(s.L.length:Int))=c;generalize V9 (s.fr.getD i dz).first 0 s.L.length=d
 generalize (s.fr.getD i dz).D=e;generalize decide ((s.fr.getD i dz).first>0)=f
 generalize (frAt s.fr (s.fr.getD i dz).no !=(i:Int))=g;cases a<;>cases b<;>cases c<;>cases d<;>cases e<;>cases f<;>cases g<;>rfl
theorem b7w(s:Sto):(∀i,i<s.L.length->tE s i=false)↔yZ s.L=true/\∀i,i<s.L.length->vC s i=false:=by
 rw[C5];have key:∀i,tE s i=false↔(P0 (s.L.getD i dz)=true/\(s.L.getD i dz).l=(i:Int)+1)/\(s.L.getD i dz).e<=s.ep/\(0<i->(s.L.getD (i-1) dz).e<=(s.L.getD i dz).e):=by
  intro i;unfold tE;simp only[wU,wX,bne_eq_false_iff_eq,uI,Bool.and_eq_false_iff];constructor
  ·rintro⟨⟨⟨h1,h2⟩,h3⟩,h4⟩;exact⟨⟨h1,h2⟩,Z9,λhi=>by rcases h4 with h4|h4<;>omega⟩
  ·rintro⟨⟨h1,h2⟩,h3,h4⟩;refine⟨⟨⟨h1,h2⟩,Z9⟩,?_⟩
   by_cases hi:0<i
   ·exact .inr (by have:=h4 hi;omega)
   ·exact .inl Z9
 have d:∀i,vC s i=false↔yV s.L i<=(s.L.getD i dz).e/\(s.L.getD i dz).e<=s.ep:=by
  intro i;unfold vC V9;simp only[wX,I4,q8]
 simp only[key,d];constructor
 ·intro h;refine⟨λi hi=>(h i hi).1,λi hi=>⟨?_,(h i hi).2.1⟩⟩
  by_cases h0:i=0
  ·subst h0;have:=((Q4 _).1 (h 0 hi).1.1).1;exact this
  ·unfold yV;rw[if_neg h0];exact(h i hi).2.2 Z9
 ·rintro⟨h1,h2⟩ i hi;refine⟨h1 i hi,(h2 i hi).2,λh0=>?_⟩
  have:=(h2 i hi).1;unfold yV at this;rw[if_neg Z9] at this
  exact this
theorem a3d:GK 72 a56:=gk func72<|by
 rintro(s:Sto) ⟨hd,hl,hf,hm⟩;have R:s.fr.length<1000000000000:=hf.1;have B:(!yW s.d||(s.d.E.length:Int) !=69|| !V9 s.ep 1 60||decide ((s.L.length:Int)>60)|| !V9 s.S 0 s.L.length||decide ((s.fr.length:Int)>3)|| !V9 s.J 0 2)=(oE s|| !V9 s.S 0 s.L.length||decide ((s.fr.length:Int)>3)|| !V9 s.J 0 2):=rfl;have sp:G2 s=true↔(oE s|| !V9 s.S 0 s.L.length||decide ((s.fr.length:Int)>3)|| !V9 s.J 0 2)=false/\(∀i,i<s.L.length->tE s i=false)/\(∀i,i<s.fr.length->wH s i=false)/\∀i,i<8->c8 s i=false:=by
  rw[G8,b7w];simp only[wU,wX,b9N,uI];unfold zG;simp only[I4,wA,P5,q8];constructor
  ·rintro⟨⟨h1,o,v⟩,q,r,⟨A,C⟩,u⟩;exact⟨⟨⟨⟨h1,v⟩,Z9⟩,u⟩,⟨o,q⟩,A,r⟩
  ·rintro⟨⟨⟨⟨h1,v⟩,C⟩,u⟩,⟨o,q⟩,A,r⟩;exact⟨⟨h1,o,v⟩,q,r,⟨A,Z9⟩,u⟩
 refine U6 (gC a8M (gC A2 (gC lU (gC fE (gC kA (gC a64 gN)))))) func72 (a6r s) (α:=let i:=(false=G2 s);let m:=(0=0/\0=0);let w:=(1=1/\1=1/\yU s s);let v:=(s.L.length:Int);∃(x:mN.ι),(((zN s.d x)/\True)/\c2x x)/\br (!yW x||(s.d.E.length:Int) !=69|| !V9 s.ep (1:Int) (60:Int)||decide (v>60)|| !V9 s.S (0:Int) v||decide ((s.fr.length:Int)>3)|| !V9 s.J (0:Int) (2:Int)) i ((∃(x:V5 s.L.length (tE s)),(m/\0=(x.1:Int)/\True)/\w/\True)/\∀(x:V5 s.L.length (tE s)),let u:=(x.1:Int);let q:=(s.L.getD u.toNat dz);let z:=(Rec.mk q.e q.l q.t q.k q.p q.n q.g q.s q.b q.a);let c:=(!P0 z||q.l !=u+1||decide (q.e>s.ep));bd (u<v) (W9 u s.L.length/\L7 q.a.length/\((!P0 z)=false->Ri (u+1))/\(c=false->decide (u>0)=true->Ri (u-1))/\(c=false->decide (u>0)=true->W9 (u-1) s.L.length)/\br (!P0 z||q.l !=u+1||decide (q.e>s.ep)||decide (u>0)&&decide ((s.L.getD (u-1).toNat dz).e>q.e)) i (Ri (u+1)/\∃(y:V5 s.L.length (tE s)),((m/\u+1=(y.1:Int)/\True)/\w/\True)/\Lt (s.L.length-y.1) (s.L.length-x.1))) ((∃(x:V5 s.fr.length (wH s)),(m/\0=(x.1:Int)/\True)/\w/\True)/\∀(x:V5 s.fr.length (wH s)),let j:=(x.1:Int);let r:=(s.fr.getD j.toNat dz);bd (j<(s.fr.length:Int)) (W9 j s.fr.length/\∃(X:xE.ι),((!V9 r.no (0:Int) (7:Int))=false->((r.pg.Q=X.Q/\(Z0 Z5 r.pg.sl X.sl)/\True)/\True)/\PgB X)/\∃(f:pH.ι),((!V9 r.no (0:Int) (7:Int)|| !k7 X||decide (r.pg.Q>v)|| !V9 r.first (0:Int) v|| ! r.D==decide (r.first>0))=false->((yU s f.1)/\r.no=f.2/\True)/\L7 f.1.fr.length)/\br (!V9 r.no (0:Int) (7:Int)|| !k7 X||decide (r.pg.Q>v)|| !V9 r.first (0:Int) v|| ! r.D==decide (r.first>0)||frAt f.1.fr f.2 !=j) i (Ri (j+1)/\∃(y:V5 s.fr.length (wH s)),((m/\j+1=(y.1:Int)/\True)/\w/\True)/\Lt (s.fr.length-y.1) (s.fr.length-x.1))) ((∃(x:V5 8 (c8 s)),(m/\0=(x.1:Int)/\True)/\w/\True)/\∀(x:V5 8 (c8 s)),let pa:=(x.1:Int);bd (pa<8) (∃(X:a0M.ι),(((zN s.d X.1)/\pa=(X.2:Int)/\True)/\a03 X)/\br (!(P7 X.1 X.2).2||decide ((P7 X.1 X.2).1.Q>s.S)) i (Ri (pa+1)/\∃(y:V5 8 (c8 s)),((m/\pa+1=(y.1:Int)/\True)/\w/\True)/\Lt (8-y.1) (8-x.1))) (true=G2 s))))) ⟨s.d,⟨⟨(eqD _),Z6⟩,hd⟩,λh=>oA ?_,λh=>?_⟩
 ·rw[sp,←B];rintro⟨h1,_⟩;have h:(!yW s.d||(s.d.E.length:Int) !=69|| !V9 s.ep 1 60||decide ((s.L.length:Int)>60)|| !V9 s.S 0 s.L.length||decide ((s.fr.length:Int)>3)|| !V9 s.J 0 2)=true:=h;rw[h1] at h;cases h
 rw[B] at h;have j:=h;simp only[wU,wX,uI] at j;obtain⟨F,c2,I,L,J⟩:=(o8 s).1 j.1.1.1;refine⟨⟨F9,X7⟩,λx=>⟨λhc=>?_,λhc=>⟨⟨F9,X7⟩,λy=>⟨λhy=>?_,λhy=>⟨⟨F9,X7⟩,λz=>⟨λhz=>?_,λhz=>?_⟩⟩⟩⟩⟩⟩
 ·have hlt:=Y2 hc;refine⟨Y6 hlt,hm _ (dJ hlt),λ_=>W4 hlt Z9,λ_ _=>Z4 Z9,λ_ h0=>⟨b7B,Z9⟩,λhq=>oA ?_,λhq=>⟨W4 hlt Z9,x.succ hlt ?_,⟨⟨X7,J2,Z6⟩,X7⟩,V5.ext_lt hlt⟩⟩
  ·rw[sp];rintro⟨_,h1,_⟩;have:=h1 x.1 hlt;unfold tE at this;rw[E4,show((x.1:Int)-1).toNat=x.1-1 by omega] at hq
   have hq:=hq.symm.trans this;cases hq
  ·rw[E4,show((x.1:Int)-1).toNat=x.1-1 by omega] at hq
   exact hq
 ·have hlt:=Y2 hy;refine⟨Y6 hlt,(s.fr.getD y.1 dz).pg,λ_=>⟨X7,hf.2 _ hlt⟩,(s,(s.fr.getD y.1 dz).no),λ_=>⟨⟨(jV _),X7⟩,hf.1⟩,λhq=>oA ?_,λhq=>⟨W4 hlt Z9,y.succ hlt hq,⟨⟨X7,J2,Z6⟩,X7⟩,V5.ext_lt hlt⟩⟩
  rw[sp];rintro⟨_,_,h1,_⟩;have:=h1 y.1 hlt;have hq:wH s y.1=true:=hq;rw[this] at hq;cases hq
 ·have hlt:z.1<8:=by have:=G6 hz;omega
  refine⟨(s.d,z.1),⟨⟨(eqD _),X7⟩,F,M3⟩,λhq=>oA ?_,λhq=>⟨Z4 Z9,z.succ hlt hq,⟨⟨X7,J2,Z6⟩,X7⟩,V5.ext_lt hlt⟩⟩
  rw[sp];rintro⟨_,_,_,h1⟩;have:=h1 z.1 hlt;have hq:c8 s z.1=true:=hq;rw[this] at hq;cases hq
 ·have g1:=Y0 hc;have g2:=Y0 hy;have g3:8<=z.1:=by have:=m9 hz;omega
  exact(sp.2 ⟨h,λi hi=>x.2.2 i (yB hi g1),λi hi=>y.2.2 i (yB hi g2),λi hi=>z.2.2 i (yB hi g3)⟩).symm
def yL(n:Int):UInt8:=R1 (IntKind.u8.wrap n)
def V7(L:List (Bz)):Nat->Bz
 |0=>[yL L.length]
 |i+1=>V7 L i++[yL (L.getD i []).length]++L.getD i []
def S5(L:List (Bz)):Bz:=V7 L L.length
def l7(L:List (Bz)):Prop:=L.length<=1000/\∀i,i<L.length->(L.getD i []).length<=1000
def vX:Rl:=⟨List (Bz),λL=>[u4 L],λL=>.bys (S5 L),l7⟩
def a3Y:Con:=.rel vX
def a5c(L:List (Bz)):Nat->Ann
 |0=>.one (Up L.length) (λx=>⟨[(0,u4 L),(3,.osl 0 0 (V7 L x.1).length),(4,Ji x.1)],[some (.bys 5 (V7 L x.1))]⟩) (λx=>L.length-x.1) [.arr 0] [.arr 3] (λ_=>Z3)
 |_=>.none
def xF(n:Nat)(l:Bz):Prop:=n=l.length/\l.length<=1000000
def vW:List T->X9->Option (T×X9×Option Prop)
 | [.osl k off n],[some (.bys ty l)]=>match k,off,ty with
  |0,0,5=>some (.bys (l++z8 (zS l)),[none],some (xF n l))
  |_,_,_=>none
 |_,_=>none
def a5w:Con:=.eff vW
theorem mL:GK 221 a5w:=gk func221<|by
 intro args H res H' p h hp;unfold vW at h;split at h
 case h_2=>cases h
 rename_i k off n ty l;split at h
 ·skip
  simp only[X0,U5] at h;obtain⟨rfl,rfl,rfl⟩:=h;obtain⟨rfl,hl⟩:xF n l:=hp;have e4:(z8 (zS l)).length=4:=rfl;refine vcE (gC jS (gC tP gN)) func221 Z3 (bs:=[false]) (α:=∃(x:(tY IntKind.i64).ι),(Le (0+l.length) l.length/\(List.take l.length (List.drop 0 l)=x/\True)/\v7 x)/\∃(x_1:nN.ι),(((↑(zS x):Int)=(x_1.1:Int)/\(4=match x_1.2 with|true=>(4:Int)|false=>(2:Int))/\True)/\True)/\(Le l.length l.length/\U8 l.length (match x_1.2 with|true=>z8 x_1.1|false=>zA x_1.1).length 1)/\Le (0+(l.length+(match x_1.2 with|true=>z8 x_1.1|false=>zA x_1.1).length)) (List.take l.length l++match x_1.2 with|true=>z8 x_1.1|false=>zA x_1.1).length/\List.take (l.length+(match x_1.2 with|true=>z8 x_1.1|false=>zA x_1.1).length) (List.drop 0 (List.take l.length l++match x_1.2 with|true=>z8 x_1.1|false=>zA x_1.1))=l++z8 (zS l)/\True/\True) ⟨l,⟨K2,⟨cN,Z6⟩,aC⟩,(zS l,true),X7,⟨U9 _,?_,?_⟩,?_,?_,X7⟩
  ·simp only[e4];omega
  ·simp only[e4];omega
  ·unfold Le;rw[j_l,F6,D6];exact U9 _
  ·rw[j_l,List.drop_zero];exact List.take_of_length_le (by rw[F6];exact U9 _)
 ·cases h
theorem vZ(L:List (Bz))(h:∀i,i<L.length->(L.getD i []).length<=1000):∀i,i<=L.length->(V7 L i).length<=1+1001*i
 |0,_=>by simp[V7]
 |i+1,hi=>by
  have d:=vZ L h i Z9
  have e:=h i Z9
  simp only[V7,F6,List.length_cons,List.length_nil];omega
theorem l01Fields_ok:GK 303 a3Y:=gk func303<|by
 rintro(L:List (Bz)) ⟨hL,hs⟩;refine U6 gN func303 (a5c L) (α:=let u:=(L.length:Int);R3 IntKind.u8 (IntKind.u8.wrap u)/\(∃(x:Up L.length),((Z0 Z5 L L)/\(0=0/\1=(V7 L x.1).length)/\0=(x.1:Int)/\True)/\List.map R1 [IntKind.u8.wrap u]=V7 L x.1/\True)/\∀(x:Up L.length),let v:=(V7 L x.1);let z:=(x.1:Int);let q:=(L.getD z.toNat []).length;let p:=v.length;let r:=(List.take p v++List.take 1 (List.drop 0 (List.map R1 [IntKind.u8.wrap (↑q:Int)])));bd (z<u) (W9 z L.length/\R3 IntKind.u8 (IntKind.u8.wrap (↑q:Int))/\(Le 1 1/\Le p p/\U8 p 1 1)/\W9 z L.length/\(Le (p+1) r.length/\U8 (p+1) q 1)/\Ri (z+1)/\∃(y:Up L.length),(((Z0 Z5 L L)/\(0=0/\p+1+q=(V7 L y.1).length)/\z+1=(y.1:Int)/\True)/\List.take (p+1) r++L.getD z.toNat []=V7 L y.1/\True)/\Lt (L.length-y.1) (L.length-x.1)) (Le (0+p) p/\List.take p (List.drop 0 v)=S5 L)) ⟨O8 _,⟨⟨0,N5 _⟩,X7⟩,λx=>⟨λhc=>?_,λhc=>?_⟩⟩
 ·have hlt:=Y2 hc;have h1:=vZ L hs x.1 Z9
  have h:=hs x.1 hlt;rw[E4];have e:List.take (V7 L x.1).length (V7 L x.1)++List.take 1 (List.drop 0 (List.map R1 [IntKind.u8.wrap ((L.getD x.1 []).length:Int)]))=V7 L x.1++[yL (L.getD x.1 []).length]:=by
   rw[j_l];rfl
  rw[e];have d:(V7 L x.1++[yL (L.getD x.1 []).length]).length=(V7 L x.1).length+1:=W7
  refine⟨Y6 hlt,O8 _,⟨U9 _,U9 _,Z9,Z9⟩,Y6 hlt,⟨K2,Z9,Z9⟩,W4 hlt Z9,⟨x.1+1,hlt⟩,⟨⟨X7,⟨rfl,?_⟩,M3,Z6⟩,?_,Z6⟩,V5.ext_lt hlt⟩
  ·simp only[V7,F6,List.length_cons,List.length_nil]
  ·rw[←d,j_l];rfl
 ·have hx:x.1=L.length:=by have:=x.2;have:=Y0 hc;omega
  rw[hx];exact⟨K2,by rw[List.drop_zero,j_l];rfl⟩
def sC(no:Int)(p:Pg):Bz:=([R1 112,yL no]++zA p.Q.toNat)++S5 p.sl
def S4(no:Int)(p:Pg):Bz:=sC no p++z8 (zS (sC no p))
def oM:Rl:=⟨Int×Pg,λx=>[Ji x.1,.agg x.2.ts],λx=>.bys (S4 x.1 x.2),λx=>PgP x.2⟩
def a8C:Con:=.rel oM
theorem a4t:GK 334 a8C:=gk func334<|by
 rintro⟨no,p⟩ ⟨o,j,l,g⟩;simp only at o j l g;have f:l7 p.sl:=⟨Z9,λi hi=>Nat.le_trans (g i hi) K3⟩
 have h:=vZ p.sl f.2 p.sl.length (U9 _);have h:(S5 p.sl).length<=5000:=by unfold S5;omega
 have e:(zA p.Q.toNat).length=2:=rfl;have d:List.take 2 (List.map R1 [(112:Int),IntKind.u8.wrap no])=[R1 112,yL no]:=rfl;have n:List.take (2+(zA p.Q.toNat).length) ([R1 112,yL no]++zA p.Q.toNat)=[R1 112,yL no]++zA p.Q.toNat:=List.take_of_length_le C8
 have key:List.take (2+(zA p.Q.toNat).length) (List.take 2 (List.map R1 [(112:Int),IntKind.u8.wrap no])++zA p.Q.toNat)++S5 p.sl=sC no p:=by rw[d,n];rfl
 refine U6 (gC tP (gC l01Fields_ok (gC mL gN))) func334 Z3 (α:=(R3 IntKind.u8 (112:Int)/\R3 IntKind.u8 (IntKind.u8.wrap no))/\∃(x:nN.ι),((p.Q=(x.1:Int)/\(2=match x.2 with|true=>(4:Int)|false=>(2:Int))/\True)/\True)/\(Le 2 2/\U8 2 (match x.2 with|true=>z8 x.1|false=>zA x.1).length 1)/\∃(X:vX.ι),(((Z0 Z5 p.sl X)/\True)/\l7 X)/\(Le (2+(match x.2 with|true=>z8 x.1|false=>zA x.1).length) (List.take 2 (List.map R1 [(112:Int),IntKind.u8.wrap no])++match x.2 with|true=>z8 x.1|false=>zA x.1).length/\U8 (2+(match x.2 with|true=>z8 x.1|false=>zA x.1).length) (S5 X).length 1)/\xF (2+(match x.2 with|true=>z8 x.1|false=>zA x.1).length+(S5 X).length) (List.take (2+(match x.2 with|true=>z8 x.1|false=>zA x.1).length) (List.take 2 (List.map R1 [(112:Int),IntKind.u8.wrap no])++match x.2 with|true=>z8 x.1|false=>zA x.1)++S5 X)/\List.take (2+(match x.2 with|true=>z8 x.1|false=>zA x.1).length) (List.take 2 (List.map R1 [(112:Int),IntKind.u8.wrap no])++match x.2 with|true=>z8 x.1|false=>zA x.1)++S5 X++z8 (zS (List.take (2+(match x.2 with|true=>z8 x.1|false=>zA x.1).length) (List.take 2 (List.map R1 [(112:Int),IntKind.u8.wrap no])++match x.2 with|true=>z8 x.1|false=>zA x.1)++S5 X))=S4 no p) ⟨⟨(pJ _).2 Z9,O8 _⟩,(p.Q.toNat,false),⟨⟨M3,X7⟩,Z6⟩,⟨U9 _,a9B,a9B⟩,p.sl,⟨X7,f⟩,⟨?_,a9B,a9B⟩,?_,?_⟩
 ·unfold Le;rw[d,F6];exact U9 _
 ·show xF _ (List.take (2+(zA p.Q.toNat).length) (List.take 2 (List.map R1 [(112:Int),IntKind.u8.wrap no])++zA p.Q.toNat)++S5 p.sl);rw[key];have hl:(sC no p).length=2+(zA p.Q.toNat).length+(S5 p.sl).length:=by unfold sC;simp;omega
  exact⟨hl.symm,by rw[hl,e];omega⟩
 ·show List.take (2+(zA p.Q.toNat).length) (List.take 2 (List.map R1 [(112:Int),IntKind.u8.wrap no])++zA p.Q.toNat)++S5 p.sl++z8 (zS (List.take (2+(zA p.Q.toNat).length) (List.take 2 (List.map R1 [(112:Int),IntKind.u8.wrap no])++zA p.Q.toNat)++S5 p.sl))=_;rw[key];rfl
def yA(row:Nat->List T)(z:List T)(i j:Nat):List T:=if j<i then row j else z
theorem wZ{row:Nat->List T}{z cs:List T}{m:Nat}(r:∀j,(row j).length=m)(Z:z.length=m)(i:Nat)(C:cs=row i)(j:Nat):setRow (yA row z i) (0+(i:Int).toNat) 0 cs j=yA row z (i+1) j:=by
 have l:(yA row z i j).length=m:=by unfold yA;split<;>simp only[r,Z]
 rw[E8 (by rw[l,C,r]),show 0+(i:Int).toNat=i by omega]
 by_cases hji:j=i
 ·subst hji;rw[show Nat.beq j j=true from by simp]
  show cs=yA row z (j+1) j;unfold yA;rw[if_pos (Nat.lt_succ_self j)];exact C
 ·rw[show Nat.beq j i=false from Bool.eq_false_iff.2 λh=>hji (G0 h)]
  show yA row z i j=yA row z (i+1) j;unfold yA;by_cases d:j<i
  ·rw[if_pos d,if_pos Z9]
  ·rw[if_neg d,if_neg Z9]
theorem uF{row:Nat->List T}{z:List T}{n:Nat}:Z7 n (yA row z n) row:=λi hi=>by unfold yA;rw[if_pos hi]
theorem uV{row:Nat->List T}{z:List T}{n:Nat}:Z7 n (λ_=>z) (yA row z 0):=λi hi=>by unfold yA;rw[if_neg Z9]
def lQ(n:Nat):Prop:=n<=9223372036854775807
def A7(s:Bz):Nat:=s.length
def gR:Rl:=⟨List (Bz)×Int,λx=>[u4 x.1,Ji x.2],λx=>Ji (rem x.2 (S3 A7 x.1)),λx=>y9 x.2/\lQ x.1.length/\∀i,i<x.1.length->lQ (x.1.getD i []).length⟩
def b60:Con:=.rel gR
def b6c(L:List (Bz))(l:Int):Nat->Ann
 |0=>.one {i:Nat//i<=L.length/\(V4 A7 L L.length i:Int)<=l} (λx=>⟨[(0,u4 L),(1,Ji (l-V4 A7 L L.length x.1)),(5,Ji x.1)],[]⟩) (λx=>L.length-x.1) [] [] (λ_=>Z3)
 |_=>.none
theorem a0d:GK 152 b60:=gk func152<|by
 rintro⟨L,l⟩ ⟨⟨d,g⟩,n,B⟩;have n:L.length<=9223372036854775807:=n;simp only at d g B;have M:∀i,i<=L.length->V4 A7 L L.length i<=S3 A7 L:=λi hi=>x5 _ _ _ hi
 have z:V4 A7 L L.length 0=L.length:=rfl;refine U6 gN func152 (b6c L l) (α:=let r:=(L.length:Int);R3 .i64 (l- r)/\(decide (l- r<0)=true->(-1:Int)=rem l (S3 A7 L))/\(decide (l- r<0)=false->(∃(x:{i:Nat//i<=L.length/\(↑(V4 A7 L L.length i):Int)<=l}),((Z0 Z5 L L)/\l- r=l- (↑(V4 A7 L L.length x.1):Int)/\0=(x.1:Int)/\True)/\True)/\∀(x:{i:Nat//i<=L.length/\(↑(V4 A7 L L.length i):Int)<=l}),let z:=(x.1:Int);let q:=(↑(V4 A7 L L.length x.1):Int);let p:=(↑(L.getD z.toNat []).length:Int);(decide (z<r)=true->W9 z L.length/\R3 .i64 (l- q- p)/\(decide (l- q- p<0)=true->(-1:Int)=rem l (S3 A7 L))/\(decide (l- q- p<0)=false->R3 .i64 (z+1)/\∃(y:{i:Nat//i<=L.length/\(↑(V4 A7 L L.length i):Int)<=l}),(((Z0 Z5 L L)/\l- q- p=l- (↑(V4 A7 L L.length y.1):Int)/\z+1=(y.1:Int)/\True)/\True)/\Lt (L.length-y.1) (L.length-x.1)))/\(decide (z<r)=false->l- q=rem l (S3 A7 L)))) ?_
 simp only[l0,q8,uI];refine⟨Z9,λh=>(I7 a9m).symm,λh=>⟨⟨⟨0,N5 _,Z9⟩,⟨⟨S7,X6 _ _⟩,by simp only[z],rfl,Z6⟩,Z6⟩,λx=>⟨λC=>?_,λC=>?_⟩⟩⟩
 ·have hlt:x.1<L.length:=by omega
  have hx:=x.2;have f:=zP A7 L L.length [] hlt;have e:=M (x.1+1) hlt;have R:(L.getD x.1 []).length<=9223372036854775807:=B _ hlt;unfold A7 at f hx e ⊢;rw[E4];refine⟨Y6 hlt,Z9,λr=>(I7 (by unfold A7 at*;omega)).symm,λr=>⟨Z9,⟨x.1+1,hlt,by unfold A7;omega⟩,⟨⟨⟨S7,X6 _ _⟩,by unfold A7;simp only;omega,M3,Z6⟩,Z6⟩,V5.ext_lt hlt⟩⟩
 ·have hx:=x.2;have he:x.1=L.length:=by omega
  rw[he] at hx ⊢;exact(C9 hx.2).symm
def b6D(L:List (Bz)):Nat->Ann
 |0=>.one (Up L.length) (λx=>⟨[(0,u4 L),(3,.osl 0 0 L.length),(4,Ji x.1)],[some (.arr true 0 1 L.length (yA (Z5 L) [.str []] x.1))]⟩) (λx=>L.length-x.1) [.arr 0] [.arr 0] (λ_=>Z3)
 |_=>.none
def dX:Rl:=⟨List (Bz),λL=>[u4 L,u4 L],λ_=>.bool true,λL=>L.length<=1048576⟩
def b6z:Con:=.rel dX
def b5v(L:List (Bz)):Nat->Ann
 |0=>.one (Up L.length) (λx=>⟨[(0,u4 L),(1,u4 L),(5,Ji x.1)],[]⟩) (λx=>L.length-x.1) [] [] (λ_=>Z3)
 |_=>.none
theorem a0e:GK 189 b6z:=gk func189<|by
 intro(L:List (Bz)) (hL:L.length<=1048576);refine U6 gN func189 (b5v L) (α:=let r:=(L.length:Int);let q:=(Z0 Z5 L L);br (r !=r) (false=true) ((∃(x:Up L.length),(q/\q/\0=(x.1:Int)/\True)/\True)/\∀(x:Up L.length),let p:=(x.1:Int);bd (p<r) (W9 p L.length/\W9 p L.length/\br (!L.getD p.toNat []==L.getD p.toNat []) (false=true) (Ri (p+1)/\∃(y:Up L.length),((q/\q/\p+1=(y.1:Int)/\True)/\True)/\Lt (L.length-y.1) (L.length-x.1))) (true=true))) ⟨λh=>L6,λ_=>⟨⟨⟨0,N5 _⟩,⟨⟨S7,X6 _ _⟩,⟨S7,X6 _ _⟩,X7⟩,Z6⟩,λx=>⟨λC=>?_,λ_=>rfl⟩⟩⟩
 have t:=Y2 C;exact⟨Y6 t,Y6 t,λh=>L6,λ_=>⟨W4 t Z9,⟨x.1+1,t⟩,⟨⟨⟨S7,X6 _ _⟩,⟨S7,X6 _ _⟩,M3,Z6⟩,Z6⟩,V5.ext_lt t⟩⟩
def a3V:Rl:=⟨List Int×Int,λx=>[sM x.1,Ji x.2],λx=>Ji (rem x.2 x.1.length),λx=>y9 x.2/\lQ x.1.length⟩
def b6d:Con:=.rel a3V
theorem b4f:GK 154 b6d:=gk func154<|by
 rintro⟨L,l⟩ ⟨⟨e,d⟩,n⟩;have n:L.length<=9223372036854775807:=n;simp only at e d;refine U6 gN func154 Z3 (α:=let p:=(L.length:Int);R3 .i64 (l- p)/\(decide (l- p<0)=true->(-1:Int)=rem l L.length)/\(decide (l- p<0)=false->l- p=rem l L.length)) ?_
 simp only[l0,q8,uI];exact⟨Z9,λh=>(I7 Z9).symm,λh=>(C9 Z9).symm⟩
def b7v(L:List Int):Nat->Ann
 |0=>.one (Up L.length) (λx=>⟨[(0,sM L),(3,.osl 0 0 L.length),(4,Ji x.1)],[some (.arr true 0 1 L.length (yA (Y9 L) [Ji 0] x.1))]⟩) (λx=>L.length-x.1) [.arr 0] [.arr 0] (λ_=>Z3)
 |_=>.none
def a3H:Rl:=⟨List Int,λL=>[sM L,sM L],λ_=>.bool true,λL=>L.length<=1048576⟩
def b87:Con:=.rel a3H
def b9g(L:List Int):Nat->Ann
 |0=>.one (Up L.length) (λx=>⟨[(0,sM L),(1,sM L),(5,Ji x.1)],[]⟩) (λx=>L.length-x.1) [] [] (λ_=>Z3)
 |_=>.none
theorem b2P:GK 191 b87:=gk func191<|by
 intro(L:List Int) (hL:L.length<=1048576);refine U6 gN func191 (b9g L) (α:=let r:=(L.length:Int);let q:=(Z0 Y9 L L);br (r !=r) (false=true) ((∃(x:Up L.length),(q/\q/\0=(x.1:Int)/\True)/\True)/\∀(x:Up L.length),let p:=(x.1:Int);bd (p<r) (W9 p L.length/\W9 p L.length/\br (L.getD p.toNat (0:Int) !=L.getD p.toNat (0:Int)) (false=true) (Ri (p+1)/\∃(y:Up L.length),((q/\q/\p+1=(y.1:Int)/\True)/\True)/\Lt (L.length-y.1) (L.length-x.1))) (true=true))) ⟨λh=>L6,λ_=>⟨⟨⟨0,N5 _⟩,⟨⟨S7,X6 _ _⟩,⟨S7,X6 _ _⟩,X7⟩,Z6⟩,λx=>⟨λC=>?_,λ_=>rfl⟩⟩⟩
 have t:=Y2 C;exact⟨Y6 t,Y6 t,λh=>L6,λ_=>⟨W4 t Z9,⟨x.1+1,t⟩,⟨⟨⟨S7,X6 _ _⟩,⟨S7,X6 _ _⟩,M3,Z6⟩,Z6⟩,V5.ext_lt t⟩⟩
def L3(p:Pend):Nat:=p.d.length
def LmP(p:Pend):Prop:=lQ p.d.length
def SmP(_:Pend):Prop:=True
def a4S:Rl:=⟨Pend×Int,λx=>[.agg x.1.ts,Ji x.2],λx=>Ji (rem x.2 (L3 x.1)),λx=>y9 x.2/\LmP x.1⟩
def b9h:Con:=.rel a4S
def a3a:Rl:=⟨Pend,λr=>[.agg r.ts],λr=>.agg r.ts,SmP⟩
def b8G:Con:=.rel a3a
def a5F:Rl:=⟨Pend,λr=>[.agg r.ts,.agg r.ts],λ_=>.bool true,SmP⟩
def b50:Con:=.rel a5F
theorem b2W:GK 254 b9h:=gk func254<|by
 rintro⟨r,l⟩ ⟨⟨g,f⟩,B⟩;have B:r.d.length<=9223372036854775807:=B;simp only at g f;refine U6 gN func254 Z3 (α:=let p:=(r.d.length:Int);R3 .i64 (l- p)/\(decide (l- p<0)=true->(-1:Int)=rem l (L3 r))/\(decide (l- p<0)=false->l- p=rem l (L3 r))) ?_
 simp only[l0,q8,uI];have e:((L3 r:Nat):Int)=r.d.length:=rfl;exact⟨Z9,λh=>(I7 Z9).symm,λh=>by rw[C9 Z9];omega⟩
theorem b41(r:Pend)(h:
  r.at_=r.at_/\r.d=r.d/\True):
  V3 prog 266 [.agg r.ts] (.agg r.ts):=
 U6 gN func266 Z3 h
theorem b2E:GK 266 b8G:=gk func266<|λr _=>b41 r X7
theorem b26:GK 276 b50:=gk func276<|by
 intro r _;refine U6 gN func276 Z3 (α:=((r.at_ !=r.at_)=true->false=true)/\((r.at_ !=r.at_)=false->((!r.d==r.d)=true->false=true)/\((!r.d==r.d)=false->true=true))) ?_
 simp
def aD:Rl:=⟨List Pend×Int,λx=>[v8 x.1,Ji x.2],λx=>Ji (rem x.2 (S3 L3 x.1)),λx=>y9 x.2/\lQ x.1.length/\∀i,i<x.1.length->LmP (x.1.getD i dz)⟩
def b1V:Con:=.rel aD
def b2A(L:List Pend)(l:Int):Nat->Ann
 |0=>.one {i:Nat//i<=L.length/\(V4 L3 L L.length i:Int)<=l} (λx=>⟨[(0,v8 L),(1,Ji (l-V4 L3 L L.length x.1)),(5,Ji x.1)],[]⟩) (λx=>L.length-x.1) [] [] (λ_=>Z3)
 |_=>.none
theorem a7M:GK 153 b1V:=gk func153<|by
 rintro⟨L,left⟩ ⟨⟨e,g⟩,n,B⟩;have n:L.length<=9223372036854775807:=n;simp only at e g B;have M:∀i,i<=L.length->V4 L3 L L.length i<=S3 L3 L:=λi hi=>x5 _ _ _ hi
 have z:V4 L3 L L.length 0=L.length:=rfl;refine U6 (gC b2W gN) func153 (b2A L left) (α:=let p:=(L.length:Int);R3 .i64 (left- p)/\(decide (left- p<0)=true->(-1:Int)=rem left (S3 L3 L))/\(decide (left- p<0)=false->(∃(x:{i:Nat//i<=L.length/\(↑(V4 L3 L L.length i):Int)<=left}),((Z0 Z1 L L)/\left- p=left- (↑(V4 L3 L L.length x.1):Int)/\0=(x.1:Int)/\True)/\True)/\∀(x:{i:Nat//i<=L.length/\(↑(V4 L3 L L.length i):Int)<=left}),let r:=(↑(V4 L3 L L.length x.1):Int);let q:=(x.1:Int);let u:=(L.getD q.toNat dz);(decide (q<p)=true->W9 q L.length/\∃(X:a4S.ι),let z:=(rem X.2 (L3 X.1)<0);(((u.at_=X.1.at_/\u.d=X.1.d/\True)/\left- r=X.2/\True)/\y9 X.2/\LmP X.1)/\(decide z=true->(-1:Int)=rem left (S3 L3 L))/\(decide z=false->R3 .i64 (q+1)/\∃(y:{i:Nat//i<=L.length/\(↑(V4 L3 L L.length i):Int)<=left}),(((Z0 Z1 L L)/\rem X.2 (L3 X.1)=left- (↑(V4 L3 L L.length y.1):Int)/\q+1=(y.1:Int)/\True)/\True)/\Lt (L.length-y.1) (L.length-x.1)))/\(decide (q<p)=false->left- r=rem left (S3 L3 L)))) ?_
 simp only[l0,q8,uI];refine⟨Z9,λh=>(I7 a9m).symm,λh=>⟨⟨⟨0,N5 _,Z9⟩,⟨⟨S7,X6 _ _⟩,by simp only[z],rfl,Z6⟩,Z6⟩,λx=>⟨λC=>?_,λC=>?_⟩⟩⟩
 ·have hlt:x.1<L.length:=by omega
  have hx:=x.2;have j:=zP L3 L L.length dz hlt;have f:=M (x.1+1) hlt;have r:=B _ hlt;refine⟨Y6 hlt,(L.getD x.1 dz,left- (V4 L3 L L.length x.1:Int)),⟨X7,⟨M3,M3⟩,r⟩,λhr=>?_,λhr=>⟨Z9,⟨x.1+1,hlt,?_⟩,⟨⟨⟨S7,X6 _ _⟩,?_,M3,Z6⟩,Z6⟩,V5.ext_lt hlt⟩⟩
  ·simp only at hr;by_cases hq:(L3 (L.getD x.1 dz):Int)<=left- (V4 L3 L L.length x.1:Int)
   ·rw[C9 hq] at hr;omega
   ·exact(I7 Z9).symm
  ·simp only at hr;by_cases hq:(L3 (L.getD x.1 dz):Int)<=left- (V4 L3 L L.length x.1:Int)
   ·omega
   ·rw[I7 Z9] at hr
    omega
  ·simp only at hr ⊢;by_cases hq:(L3 (L.getD x.1 dz):Int)<=left- (V4 L3 L L.length x.1:Int)
   ·rw[C9 hq];omega
   ·rw[I7 Z9] at hr
    omega
 ·have hx:=x.2;have he:x.1=L.length:=by omega
  rw[he] at hx ⊢;exact(C9 hx.2).symm
def b2d(L:List Pend):Nat->Ann
 |0=>.one (Up L.length) (λx=>⟨[(0,v8 L),(3,.osl 0 0 L.length),(4,Ji x.1)],[some (.arr true 0 2 L.length (yA (Z1 L) [Ji 0,.str []] x.1))]⟩) (λx=>L.length-x.1) [.arr 0] [.arr 0] (λ_=>Z3)
 |_=>.none
def a0g:Rl:=⟨List Pend,λL=>[v8 L,v8 L],λ_=>.bool true,λL=>L.length<=1048576/\∀i,i<L.length->SmP (L.getD i dz)⟩
def b2x:Con:=.rel a0g
def b2H(L:List Pend):Nat->Ann
 |0=>.one (Up L.length) (λx=>⟨[(0,v8 L),(1,v8 L),(5,Ji x.1)],[]⟩) (λx=>L.length-x.1) [] [] (λ_=>Z3)
 |_=>.none
theorem a5U:GK 190 b2x:=gk func190<|by
 rintro(L:List Pend) ⟨hL,hb⟩;refine U6 (gC b26 gN) func190 (b2H L) (α:=let z:=(L.length:Int);let r:=(Z0 Z1 L L);br (z !=z) (false=true) ((∃(x:Up L.length),(r/\r/\0=(x.1:Int)/\True)/\True)/\∀(x:Up L.length),let q:=(x.1:Int);let u:=(L.getD q.toNat dz);bd (q<z) (W9 q L.length/\W9 q L.length/\∃(X:a5F.ι),let p:=(u.at_=X.at_/\u.d=X.d/\True);((p/\p/\True)/\SmP X)/\br false (false=true) (Ri (q+1)/\∃(y:Up L.length),((r/\r/\q+1=(y.1:Int)/\True)/\True)/\Lt (L.length-y.1) (L.length-x.1))) (true=true))) ⟨λh=>L6,λ_=>⟨⟨⟨0,N5 _⟩,⟨⟨S7,X6 _ _⟩,⟨S7,X6 _ _⟩,X7⟩,Z6⟩,λx=>⟨λC=>?_,λ_=>rfl⟩⟩⟩
 have t:=Y2 C;exact⟨Y6 t,Y6 t,L.getD x.1 dz,⟨X7,hb _ t⟩,λh=>h,λ_=>⟨W4 t Z9,⟨x.1+1,t⟩,⟨⟨⟨S7,X6 _ _⟩,⟨S7,X6 _ _⟩,M3,Z6⟩,Z6⟩,V5.ext_lt t⟩⟩
theorem w8{l:Int}{a b:Nat}(h:rem l a<0)(B:a<=b):rem l b= -1:=by
 refine I7 ?_
 by_cases q:(a:Int)<=l
 ·rw[C9 q] at h;omega
 ·omega
theorem tG{l:Int}{a b c:Nat}(h:¬rem l a<0)(hl:y9 l)(C:c=a+b):rem (rem l a) b=rem l c/\y9 (rem l a):=by
 by_cases hq:(a:Int)<=l
 ·rw[C9 hq] at h ⊢;obtain⟨h0,h1⟩:=hl;refine⟨?_,by constructor<;>omega⟩
  by_cases hr:(c:Int)<=l
  ·rw[C9 hr,C9 Z9]
   omega
  ·rw[I7 Z9,I7 Z9]
 ·rw[I7 Z9] at h
  omega
def yS(d:Dsk):Nat:=S3 A7 d.E+S3 L3 d.C+d.keep.length
def LmL{α:Type}(d:α)(f:α->Prop)(L:List α):Prop:=lQ L.length/\∀i,i<L.length->f (L.getD i d)
def LmD(d:Dsk):Prop:=LmL [] (λs=>lQ s.length) d.E/\LmL dz LmP d.C/\lQ d.keep.length
def nP(d:Dsk):Prop:=d.E.length<=1048576/\d.C.length<=1048576/\d.keep.length<=1048576
def a9V:Rl:=⟨Dsk×Int,λx=>[.agg x.1.ts,Ji x.2],λx=>Ji (rem x.2 (yS x.1)),λx=>y9 x.2/\LmD x.1⟩
def c2w:Con:=.rel a9V
theorem b62:GK 67 c2w:=gk func67<|by
 rintro⟨d,left⟩ ⟨hl,l,j,h3⟩;simp only at hl l j h3;have e:yS d=S3 A7 d.E+S3 L3 d.C+d.keep.length:=rfl;have n:S3 A7 d.E<=yS d:=Z9
 have o:S3 A7 d.E+S3 L3 d.C<=yS d:=Z9
 refine U6 (gC a0d (gC a7M (gC b4f gN))) func67 Z3 (α:=let p:=((-1:Int)=rem left (yS d));∃(x:gR.ι),(((Z0 Z5 d.E x.1)/\left=x.2/\True)/\y9 x.2/\lQ x.1.length/\∀(i:Nat),i<x.1.length->lQ (x.1.getD i []).length)/\bd (rem x.2 (S3 A7 x.1)<0) p (∃(X:aD.ι),(((Z0 Z1 d.C X.1)/\rem x.2 (S3 A7 x.1)=X.2/\True)/\y9 X.2/\lQ X.1.length/\∀(i:Nat),i<X.1.length->LmP (X.1.getD i dz))/\bd (rem X.2 (S3 L3 X.1)<0) p (∃(x:a3V.ι),let q:=x.1.length;(((Z0 Y9 d.keep x.1)/\rem X.2 (S3 L3 X.1)=x.2/\True)/\y9 x.2/\lQ q)/\bd (rem x.2 q<0) p (rem x.2 q=rem left (yS d))))) ⟨(d.E,left),⟨X7,hl,l⟩,λh=>(w8 (G6 h) n).symm,λh=>?_⟩
 obtain⟨q1,L⟩:=tG (b:=S3 L3 d.C) (m9 h) hl rfl;refine⟨(d.C,rem left (S3 A7 d.E)),⟨X7,L,j⟩,λg=>?_,λg=>?_⟩
 ·simp only at g;rw[q1] at g;exact(w8 (G6 g) o).symm
 ·simp only at g ⊢;rw[q1] at g ⊢;obtain⟨q2,l2⟩:=tG (b:=d.keep.length) (m9 g) hl rfl;refine⟨(d.keep,rem left (S3 A7 d.E+S3 L3 d.C)),⟨X7,l2,h3⟩,λf=>?_,λf=>?_⟩
  ·simp only at f;rw[q2] at f;exact(w8 (G6 f) (U9 _)).symm
  ·exact q2
def b0Q:Rl:=⟨Dsk,λd=>[.agg d.ts,.agg d.ts],λ_=>.bool true,nP⟩
def c3e:Con:=.rel b0Q
theorem b5P:GK 100 c3e:=gk func100<|by
 rintro(d:Dsk) ⟨h1,h2,h3⟩;exact U6 (gC a0e (gC a5U (gC b2P gN))) func100 Z3 (α:=let p:=(false=true);∃(x:dX.ι),(((Z0 Z5 d.E x)/\(Z0 Z5 d.E x)/\True)/\x.length<=1048576)/\br false p (∃(x:a0g.ι),(((Z0 Z1 d.C x)/\(Z0 Z1 d.C x)/\True)/\x.length<=1048576/\∀(i:Nat),i<x.length->SmP (List.getD x i dz))/\br false p (br (!d.A==d.A) p (∃(x:a3H.ι),(((Z0 Y9 d.keep x)/\(Z0 Y9 d.keep x)/\True)/\x.length<=1048576)/\br false p (true=true))))) ⟨d.E,⟨X7,h1⟩,λh=>h,λ_=>⟨d.C,⟨X7,h2,λ_ _=>trivial⟩,λh=>h,λ_=>⟨λh=>L6,λ_=>⟨d.keep,⟨X7,h3⟩,λh=>h,λ_=>rfl⟩⟩⟩⟩
def aI(p:Pg):Nat:=S3 A7 p.sl
def LmG(p:Pg):Prop:=LmL [] (λs=>lQ s.length) p.sl
def SmG(p:Pg):Prop:=p.sl.length<=1048576
def b7a:Rl:=⟨Pg×Int,λx=>[.agg x.1.ts,Ji x.2],λx=>Ji (rem x.2 (aI x.1)),λx=>y9 x.2/\LmG x.1⟩
def c7b:Con:=.rel b7a
theorem c2P:GK 255 c7b:=gk func255<|by
 rintro⟨p,l⟩ ⟨L,d⟩;exact U6 (gC a0d gN) func255 Z3 (α:=∃(x:gR.ι),(((Z0 Z5 p.sl x.1)/\l=x.2/\True)/\y9 x.2/\lQ x.1.length/\∀(i:Nat),i<x.1.length->lQ (x.1.getD i []).length)/\bd (rem x.2 (S3 A7 x.1)<0) ((-1:Int)=rem l (aI p)) (rem x.2 (S3 A7 x.1)=rem l (aI p))) ⟨(p.sl,l),⟨X7,L,d⟩,λh=>(w8 (G6 h) (U9 _)).symm,λ_=>rfl⟩
def b9A:Rl:=⟨Pg,λp=>[.agg p.ts,.agg p.ts],λ_=>.bool true,SmG⟩
def c5F:Con:=.rel b9A
theorem c5n(p:Pg)(h:
  ((p.Q !=p.Q)=true->false=true)/\((p.Q !=p.Q)=false->∃(x:dX.ι),(((Z0 Z5 p.sl x)/\(Z0 Z5 p.sl x)/\True)/\x.length<=1048576)/\br false (false=true) (true=true))):
  V3 prog 277 [.agg p.ts,.agg p.ts] (.bool true):=
 U6 (gC a0e gN) func277 Z3 h
theorem c0M:GK 277 c5F:=gk func277<|λ(p:Pg) h1=>c5n p ⟨λh=>L6,λ_=>⟨p.sl,⟨X7,h1⟩,λh=>h,λ_=>rfl⟩⟩
def K5(f:Frm):Nat:=aI f.pg
def LmF(f:Frm):Prop:=LmG f.pg
def SmF(f:Frm):Prop:=SmG f.pg
def b1k:Rl:=⟨Frm×Int,λx=>[.agg x.1.ts,Ji x.2],λx=>Ji (rem x.2 (K5 x.1)),λx=>y9 x.2/\LmF x.1⟩
def c3r:Con:=.rel b1k
theorem b7Y:GK 156 c3r:=gk func156<|by
 rintro⟨f,l⟩ ⟨L,d⟩;exact U6 (gC c2P gN) func156 Z3 (α:=∃(x:b7a.ι),(((f.pg.Q=x.1.Q/\(Z0 Z5 f.pg.sl x.1.sl)/\True)/\l=x.2/\True)/\y9 x.2/\LmG x.1)/\bd (rem x.2 (aI x.1)<0) ((-1:Int)=rem l (K5 f)) (rem x.2 (aI x.1)=rem l (K5 f))) ⟨(f.pg,l),⟨X7,L,d⟩,λh=>(w8 (G6 h) (U9 _)).symm,λ_=>rfl⟩
def b0r:Rl:=⟨Frm,λf=>[.agg f.ts,.agg f.ts],λ_=>.bool true,SmF⟩
def c1W:Con:=.rel b0r
theorem c0D(f:Frm)(h:
let q:=(false=true);  ((f.no !=f.no)=true->false=true)/\((f.no !=f.no)=false->∃(x:b9A.ι),let p:=(f.pg.Q=x.Q/\(Z0 Z5 f.pg.sl x.sl)/\True);((p/\p/\True)/\SmG x)/\br false q (br (!f.D==f.D) q (br (f.first !=f.first) q (true=true))))):
  V3 prog 193 [.agg f.ts,.agg f.ts] (.bool true):=
 U6 (gC c0M gN) func193 Z3 h
theorem b5i:GK 193 c1W:=gk func193<|λ(f:Frm) h1=>c0D f ⟨λh=>L6,λ_=>⟨f.pg,⟨X7,h1⟩,λh=>h,λ_=>⟨λh=>L6,λ_=>⟨λh=>L6,λ_=>rfl⟩⟩⟩⟩
def a4P:Rl:=⟨List Frm×Int,λx=>[uD x.1,Ji x.2],λx=>Ji (rem x.2 (S3 K5 x.1)),λx=>y9 x.2/\lQ x.1.length/\∀i,i<x.1.length->LmF (x.1.getD i dz)⟩
def b7O:Con:=.rel a4P
def b5K(L:List Frm)(l:Int):Nat->Ann
 |0=>.one {i:Nat//i<=L.length/\(V4 K5 L L.length i:Int)<=l} (λx=>⟨[(0,uD L),(1,Ji (l-V4 K5 L L.length x.1)),(5,Ji x.1)],[]⟩) (λx=>L.length-x.1) [] [] (λ_=>Z3)
 |_=>.none
theorem b2X:GK 69 b7O:=gk func69<|by
 rintro⟨L,left⟩ ⟨⟨d,f⟩,n,B⟩;have n:L.length<=9223372036854775807:=n;simp only at d f B;have M:∀i,i<=L.length->V4 K5 L L.length i<=S3 K5 L:=λi hi=>x5 _ _ _ hi
 have z:V4 K5 L L.length 0=L.length:=rfl;refine U6 (gC b7Y gN) func69 (b5K L left) (α:=let q:=(L.length:Int);R3 .i64 (left- q)/\(decide (left- q<0)=true->(-1:Int)=rem left (S3 K5 L))/\(decide (left- q<0)=false->(∃(x:{i:Nat//i<=L.length/\(↑(V4 K5 L L.length i):Int)<=left}),((Z0 W2 L L)/\left- q=left- (↑(V4 K5 L L.length x.1):Int)/\0=(x.1:Int)/\True)/\True)/\∀(x:{i:Nat//i<=L.length/\(↑(V4 K5 L L.length i):Int)<=left}),let z:=(↑(V4 K5 L L.length x.1):Int);let r:=(x.1:Int);let p:=(L.getD r.toNat dz);(decide (r<q)=true->W9 r L.length/\∃(X:b1k.ι),let u:=(rem X.2 (K5 X.1)<0);(((p.no=X.1.no/\p.pg.Q=X.1.pg.Q/\(Z0 Z5 p.pg.sl X.1.pg.sl)/\p.D=X.1.D/\p.first=X.1.first/\True)/\left- z=X.2/\True)/\y9 X.2/\LmF X.1)/\(decide u=true->(-1:Int)=rem left (S3 K5 L))/\(decide u=false->R3 .i64 (r+1)/\∃(y:{i:Nat//i<=L.length/\(↑(V4 K5 L L.length i):Int)<=left}),(((Z0 W2 L L)/\rem X.2 (K5 X.1)=left- (↑(V4 K5 L L.length y.1):Int)/\r+1=(y.1:Int)/\True)/\True)/\Lt (L.length-y.1) (L.length-x.1)))/\(decide (r<q)=false->left- z=rem left (S3 K5 L)))) ?_
 simp only[l0,q8,uI];refine⟨Z9,λh=>(I7 a9m).symm,λh=>⟨⟨⟨0,N5 _,Z9⟩,⟨⟨S7,X6 _ _⟩,by simp only[z],rfl,Z6⟩,Z6⟩,λx=>⟨λC=>?_,λC=>?_⟩⟩⟩
 ·have hlt:x.1<L.length:=by omega
  have hx:=x.2;have g:=zP K5 L L.length dz hlt;have e:=M (x.1+1) hlt;have r:=B _ hlt;refine⟨Y6 hlt,(L.getD x.1 dz,left- (V4 K5 L L.length x.1:Int)),⟨X7,⟨M3,M3⟩,r⟩,λhr=>?_,λhr=>⟨Z9,⟨x.1+1,hlt,?_⟩,⟨⟨⟨S7,X6 _ _⟩,?_,M3,Z6⟩,Z6⟩,V5.ext_lt hlt⟩⟩
  ·simp only at hr;by_cases hq:(K5 (L.getD x.1 dz):Int)<=left- (V4 K5 L L.length x.1:Int)
   ·rw[C9 hq] at hr;omega
   ·exact(I7 Z9).symm
  ·simp only at hr;by_cases hq:(K5 (L.getD x.1 dz):Int)<=left- (V4 K5 L L.length x.1:Int)
   ·omega
   ·rw[I7 Z9] at hr
    omega
  ·simp only at hr ⊢;by_cases hq:(K5 (L.getD x.1 dz):Int)<=left- (V4 K5 L L.length x.1:Int)
   ·rw[C9 hq];omega
   ·rw[I7 Z9] at hr
    omega
 ·have hx:=x.2;have he:x.1=L.length:=by omega
  rw[he] at hx ⊢;exact(C9 hx.2).symm
def a2X:Rl:=⟨List Frm,λL=>[uD L,uD L],λ_=>.bool true,λL=>L.length<=1048576/\∀i,i<L.length->SmF (L.getD i dz)⟩
def b82:Con:=.rel a2X
def b6Q(L:List Frm):Nat->Ann
 |0=>.one (Up L.length) (λx=>⟨[(0,uD L),(1,uD L),(5,Ji x.1)],[]⟩) (λx=>L.length-x.1) [] [] (λ_=>Z3)
 |_=>.none
theorem b1K:GK 102 b82:=gk func102<|by
 rintro(L:List Frm) ⟨hL,hb⟩;refine U6 (gC b5i gN) func102 (b6Q L) (α:=let u:=(L.length:Int);let z:=(Z0 W2 L L);br (u !=u) (false=true) ((∃(x:Up L.length),(z/\z/\0=(x.1:Int)/\True)/\True)/\∀(x:Up L.length),let r:=(x.1:Int);let p:=(L.getD r.toNat dz);bd (r<u) (W9 r L.length/\W9 r L.length/\∃(X:b0r.ι),let q:=(p.no=X.no/\p.pg.Q=X.pg.Q/\(Z0 Z5 p.pg.sl X.pg.sl)/\p.D=X.D/\p.first=X.first/\True);((q/\q/\True)/\SmF X)/\br false (false=true) (Ri (r+1)/\∃(y:Up L.length),((z/\z/\r+1=(y.1:Int)/\True)/\True)/\Lt (L.length-y.1) (L.length-x.1))) (true=true))) ⟨λh=>L6,λ_=>⟨⟨⟨0,N5 _⟩,⟨⟨S7,X6 _ _⟩,⟨S7,X6 _ _⟩,X7⟩,Z6⟩,λx=>⟨λC=>?_,λ_=>rfl⟩⟩⟩
 have t:=Y2 C;exact⟨Y6 t,Y6 t,L.getD x.1 dz,⟨X7,hb _ t⟩,λh=>h,λ_=>⟨W4 t Z9,⟨x.1+1,t⟩,⟨⟨⟨S7,X6 _ _⟩,⟨S7,X6 _ _⟩,M3,Z6⟩,Z6⟩,V5.ext_lt t⟩⟩
def zX(s:Sto):Nat:=yS s.d+S3 N9 s.L+S3 K5 s.fr
def LmS(s:Sto):Prop:=LmD s.d/\(lQ s.L.length/\∀r ∈ s.L,b4i r)/\LmL dz LmF s.fr
def iH(s:Sto):Prop:=nP s.d/\s.L.length<=1048576/\s.fr.length<=1048576/\∀i,i<s.fr.length->SmF (s.fr.getD i dz)
def a9l:Rl:=⟨Sto×Int,λx=>[.agg x.1.ts,Ji x.2],λx=>Ji (rem x.2 (zX x.1)),λx=>y9 x.2/\LmS x.1⟩
def c3u:Con:=.rel a9l
theorem b9y:GK 29 c3u:=gk func29<|by
 rintro⟨s,left⟩ ⟨hl,l,j,h3⟩;simp only at hl l j h3;have e:zX s=yS s.d+S3 N9 s.L+S3 K5 s.fr:=rfl;have n:yS s.d<=zX s:=Z9
 have o:yS s.d+S3 N9 s.L<=zX s:=Z9
 refine U6 (gC b62 (gC b3V (gC b2X gN))) func29 Z3 (α:=let p:=((-1:Int)=rem left (zX s));∃(x:a9V.ι),(((zN s.d x.1)/\left=x.2/\True)/\y9 x.2/\LmD x.1)/\bd (rem x.2 (yS x.1)<0) p (∃(X:a3m.ι),(((Z0 Y1 s.L X.1)/\rem x.2 (yS x.1)=X.2/\True)/\y9 X.2/\X.1.length<=9223372036854775807/\∀(r:Rec),r ∈ X.1->b4i r)/\bd (rem X.2 (S3 N9 X.1)<0) p (∃(x:a4P.ι),(((Z0 W2 s.fr x.1)/\rem X.2 (S3 N9 X.1)=x.2/\True)/\y9 x.2/\lQ x.1.length/\∀(i:Nat),i<x.1.length->LmF (x.1.getD i dz))/\bd (rem x.2 (S3 K5 x.1)<0) p (rem x.2 (S3 K5 x.1)=rem left (zX s))))) ⟨(s.d,left),⟨⟨(eqD _),X7⟩,hl,l⟩,λh=>(w8 (G6 h) n).symm,λh=>?_⟩
 obtain⟨q1,L⟩:=tG (b:=S3 N9 s.L) (m9 h) hl rfl;refine⟨(s.L,rem left (yS s.d)),⟨X7,L,j⟩,λg=>?_,λg=>?_⟩
 ·simp only at g;rw[q1] at g;exact(w8 (G6 g) o).symm
 ·simp only at g ⊢;rw[q1] at g ⊢;obtain⟨q2,l2⟩:=tG (b:=S3 K5 s.fr) (m9 g) hl rfl;refine⟨(s.fr,rem left (yS s.d+S3 N9 s.L)),⟨X7,l2,h3⟩,λf=>?_,λf=>?_⟩
  ·simp only at f;rw[q2] at f;exact(w8 (G6 f) (U9 _)).symm
  ·exact q2
def a9Z:Rl:=⟨Sto,λs=>[.agg s.ts,.agg s.ts],λ_=>.bool true,iH⟩
def c3Z:Con:=.rel a9Z
theorem c3g(s:Sto)(h:
let p:=(false=true);  ∃(x:b0Q.ι),(((zN s.d x)/\(zN s.d x)/\True)/\nP x)/\br false p (br (s.ep !=s.ep) p (∃(x:a4u.ι),(((Z0 Y1 s.L x)/\(Z0 Y1 s.L x)/\True)/\x.length<=1048576)/\br false p (br (s.S !=s.S) p (∃(x:a2X.ι),(((Z0 W2 s.fr x)/\(Z0 W2 s.fr x)/\True)/\x.length<=1048576/\∀(i:Nat),i<x.length->SmF (List.getD x i dz))/\br false p (br (s.J !=s.J) p (true=true))))))):
  V3 prog 44 [.agg s.ts,.agg s.ts] (.bool true):=
 U6 (gC b5P (gC b2O (gC b1K gN))) func44 Z3 h
end
end Go.Proofs.YtpdnnhnfongoeaaGreat
