/- A part of the proof. -/
import Derived.Test.YtpdnnhnfongoeaaGreatE1
import Derived.RangeFuncNested
import Derived.RangeFuncBound
import Derived.RangeFuncCalls
import Derived.RangeFuncBox
import Derived.RangeFuncLeaves
import Derived.Shelf.Abstract
import Derived.WalkKit
import Derived.OwnWalkIn
import Derived.TacticsInMore
import Derived.LoopNIn
import Derived.LoopIn
namespace Go.Proofs.YtpdnnhnfongoeaaGreat
set_option maxRecDepth 100000
open Go.SS Go.Proofs.Tryz
noncomputable section
structure Pg where
 Q:Int
 sl:List (Bz)
 deriving Inhabited
def Pg.ts(p:Pg):List T:=[Ji p.Q,u2 p.sl]
def c9K(b:Bool):Nat:=match b with|true=>30|false=>160
def L3(b:Bool)(s:Bz):Bool:=decide ((s.length:Int)>c9K b)
def a2o(b:Bool):List T->Option (T×Option Prop)
 | [.str s]=>some (.bool (L3 b s),none)
 |_=>none
def b2I:Con:=.pure (a2o true)
def b4W:Con:=.pure (a2o false)
def b1J(s:Bz)(h:
  decide ((s.length:Int)>30)=L3 true s):
  V4 prog 361 [.str s] (.bool (L3 true s)):=
 U5 gN func361 Z3 h
def a8X:GK 361 b2I:=gk func361<|by
 intro args res p h hp;unfold a2o at h;split at h
 ·simp only[X0,U4] at h;obtain⟨rfl,rfl⟩:=h;exact b1J _ rfl
 ·cases h
def b4M(s:Bz)(h:
  decide ((s.length:Int)>160)=L3 false s):
  V4 prog 305 [.str s] (.bool (L3 false s)):=
 U5 gN func305 Z3 h
def a6O:GK 305 b4W:=gk func305<|by
 intro args res p h hp;unfold a2o at h;split at h
 ·simp only[X0,U4] at h;obtain⟨rfl,rfl⟩:=h;exact b4M _ rfl
 ·cases h
def b7S(b:Bool):T:=fnT (match b with|true=>361|false=>305)
def fZ:Rl:=⟨List (Bz)×Bool,λx=>[u2 x.1,b7S x.2],λx=>Ji (S6 x.1.length λi=>L3 x.2 (x.1.getD i [])),λx=>L9 x.1.length⟩
def b87:Con:=.rel fZ
def a4V(L:List (Bz))(b:Bool):Nat->Ann
 |0=>.one (V5 L.length λi=>L3 b (L.getD i [])) (λx=>⟨[(0,u2 L),(1,b7S b),(7,Ji L.length),(8,Ji x.1)],[]⟩) (λx=>L.length-x.1) [] [] (λ_=>Z3)
 |_=>.none
def aA:GK 358 b87:=gk func358<|by
 rintro⟨L,b⟩ (hL:L.length<1000000000000);cases b
 ·refine U5 (gC a6O gN) func358 (a4V L false) (α:=let r:=(Fn.func 305);let p:=(L.length:Int);(∃(x:V5 L.length λ(i:Nat)=>L3 false (L.getD i [])),((Z0 Z5 L L)/\Value.func r #[] #[]=Value.func r #[] #[]/\p=p/\0=(x.1:Int)/\True)/\True)/\∀(x:V5 L.length λ(i:Nat)=>L3 false (L.getD i [])),let q:=(x.1:Int);bd (q<p) (W9 q L.length/\br (L3 false (L.getD q.toNat [])) (q=S6 L.length λ(i:Nat)=>L3 false (L.getD i [])) (Ri (q+1)/\∃(y:V5 L.length λ(i:Nat)=>L3 false (L.getD i [])),(((Z0 Z5 L L)/\Value.func r #[] #[]=Value.func r #[] #[]/\p=p/\q+1=(y.1:Int)/\True)/\True)/\Lt (L.length-y.1) (L.length-x.1))) ((-1:Int)=S6 L.length λ(i:Nat)=>L3 false (L.getD i []))) ⟨⟨F4,X7⟩,λx=>⟨λhc=>?_,λhc=>?_⟩⟩
  ·have h:=Y2 hc;exact⟨Y6 h,λhp=>(N9 h hp x.2.2).symm,λhp=>⟨W2 h Z9,x.succ h hp,X7,V5.ext_lt h⟩⟩
  ·have e:=Y0 hc;exact(K2 λj J=>x.2.2 j (xY J e)).symm
 ·refine U5 (gC a8X gN) func358 (a4V L true) (α:=let r:=(Fn.func 361);let p:=(L.length:Int);(∃(x:V5 L.length λ(i:Nat)=>L3 true (L.getD i [])),((Z0 Z5 L L)/\Value.func r #[] #[]=Value.func r #[] #[]/\p=p/\0=(x.1:Int)/\True)/\True)/\∀(x:V5 L.length λ(i:Nat)=>L3 true (L.getD i [])),let q:=(x.1:Int);bd (q<p) (W9 q L.length/\br (L3 true (L.getD q.toNat [])) (q=S6 L.length λ(i:Nat)=>L3 true (L.getD i [])) (Ri (q+1)/\∃(y:V5 L.length λ(i:Nat)=>L3 true (L.getD i [])),(((Z0 Z5 L L)/\Value.func r #[] #[]=Value.func r #[] #[]/\p=p/\q+1=(y.1:Int)/\True)/\True)/\Lt (L.length-y.1) (L.length-x.1))) ((-1:Int)=S6 L.length λ(i:Nat)=>L3 true (L.getD i []))) ⟨⟨F4,X7⟩,λx=>⟨λhc=>?_,λhc=>?_⟩⟩
  ·have h:=Y2 hc;exact⟨Y6 h,λhp=>(N9 h hp x.2.2).symm,λhp=>⟨W2 h Z9,x.succ h hp,X7,V5.ext_lt h⟩⟩
  ·have e:=Y0 hc;exact(K2 λj J=>x.2.2 j (xY J e)).symm
def dJ:Rl:=⟨List (Bz)×Bool,λx=>[u2 x.1,b7S x.2],λx=>.bool (anyI x.1.length λi=>L3 x.2 (x.1.getD i [])),λx=>L9 x.1.length⟩
def b5K:Con:=.rel dJ
def aJ:GK 304 b5K:=gk func304<|by
 rintro⟨L,b⟩ (hL:L.length<1000000000000);cases b
 ·exact U5 (gC aA gN) func304 Z3 (α:=∃(x:fZ.ι),(((Z0 Z5 L x.1)/\Value.func (Fn.func 305) #[] #[]=Value.func (Fn.func (match x.2 with|true=>361|false=>305)) #[] #[]/\True)/\L9 x.1.length)/\decide ((S6 x.1.length λ(i:Nat)=>L3 x.2 (x.1.getD i []))≥(0:Int))=anyI L.length λ(i:Nat)=>L3 false (L.getD i [])) ⟨(L,false),⟨X7,hL⟩,C9 _ _⟩
 ·exact U5 (gC aA gN) func304 Z3 (α:=∃(x:fZ.ι),(((Z0 Z5 L x.1)/\Value.func (Fn.func 361) #[] #[]=Value.func (Fn.func (match x.2 with|true=>361|false=>305)) #[] #[]/\True)/\L9 x.1.length)/\decide ((S6 x.1.length λ(i:Nat)=>L3 x.2 (x.1.getD i []))≥(0:Int))=anyI L.length λ(i:Nat)=>L3 true (L.getD i [])) ⟨(L,true),⟨X7,hL⟩,C9 _ _⟩
def PgP(p:Pg):Prop:=0<=p.Q/\p.Q<=1000/\p.sl.length=4/\∀i,i<p.sl.length->(p.sl.getD i []).length<=30
noncomputable instance(p:Pg):Decidable (PgP p):=Classical.propDecidable _
def k4(p:Pg):Bool:=decide (PgP p)
def PgB(p:Pg):Prop:=L9 p.sl.length
def xB:Rl:=⟨Pg,λp=>[.agg p.ts],λp=>.bool (k4 p),PgB⟩
def b2U:Con:=.rel xB
def b36:Con:=.rel xB
def b2W(p:Pg):Nat->Ann
 |0=>.one (V5 4 λi=>L3 true (p.sl.getD i [])) (λx=>⟨[(1,.ref 0 0 0),(3,Ji x.1)],[some (.arr true 1000000 2 1 λ_=>p.ts)]⟩) (λx=>4-x.1) [.box 0] [.box 0] (λ_=>Z3)
 |_=>.none
def rC:Rl:=⟨Unit,λ_=>[],λ_=>.agg (Pg.ts ⟨0,[[],[],[],[]]⟩),λ_=>True⟩
def a63:Con:=.rel rC
def a6U:Con:=.rel rC
def a6E(h:
  (Nn (4:Int)/\LeI (4:Int) (4:Int)/\yO 16 4 140737488355328/\Lt 4 9223372036854775808)/\Le 4 4/\(0:Int)=0/\(4=4/\Z7 4 (λ(x:Nat)=>[T.str []]) (Z5 [[],[],[],[]]))/\True):
  V4 prog 273 [] (.agg (Pg.ts ⟨0,[[],[],[],[]]⟩)):=
 U5 gN func273 Z3 h
def a7S(h:
  (Nn (4:Int)/\LeI (4:Int) (4:Int)/\yO 16 4 140737488355328/\Lt 4 9223372036854775808)/\Le 4 4/\(0:Int)=0/\(4=4/\Z7 4 (λ(x:Nat)=>[T.str []]) (Z5 [[],[],[],[]]))/\True):
  V4 prog 257 [] (.agg (Pg.ts ⟨0,[[],[],[],[]]⟩)):=
 U5 gN func257 Z3 h
def gG{s:Bz}:L3 true s=false↔s.length<=30:=by
 unfold L3;rw[uH];show ¬ (s.length:Int)>((30:Nat):Int)↔_;omega
def eV{s:Bz}:L3 false s=false↔s.length<=160:=by
 unfold L3;rw[uH];show ¬ (s.length:Int)>((160:Nat):Int)↔_;omega
def P5{n:Nat}{p:Nat->Bool}:anyI n p=false↔∀i,i<n->p i=false:=by
 rw[Bool.eq_false_iff,ne_eq,R9];constructor
 ·intro h i hi;exact Bool.eq_false_iff.2 λhp=>h ⟨i,hi,hp⟩
 ·rintro h ⟨i,hi,hp⟩;rw[h i hi] at hp;cases hp
def b8t(p:Pg):k4 p=true↔PgP p:=decide_eq_true_iff
def pF:GK 310 b2U:=gk func310<|by
 intro(p:Pg) (hp:p.sl.length<1000000000000);refine U5 (gC O1 (gC aJ gN)) func310 Z3 (α:=∃(x:dJ.ι),((V6 p.Q (0:Int) (1000:Int)&&(p.sl.length:Int)==4)=true->((Z0 Z5 p.sl x.1)/\Value.func (Fn.func 361) #[] #[]=Value.func (Fn.func (match x.2 with|true=>361|false=>305)) #[] #[]/\True)/\L9 x.1.length)/\(V6 p.Q (0:Int) (1000:Int)&&(p.sl.length:Int)==4&& !anyI x.1.length λ(i:Nat)=>L3 x.2 (x.1.getD i []))=k4 p) ⟨(p.sl,true),λ_=>⟨X7,hp⟩,?_⟩
 rw[Bool.eq_iff_iff,b8t];simp only[J5,vZ,beq_iff_eq,V6,o8,P5];constructor
 ·rintro⟨⟨⟨e,h⟩,f⟩,d⟩;exact⟨e,h,Z9,λi hi=>gG.1 (d i hi)⟩
 ·rintro⟨e,h,f,d⟩;exact⟨⟨⟨e,h⟩,Z9⟩,λi hi=>gG.2 (d i hi)⟩
def c4v{p:Pg}(h:¬PgP p):false=k4 p:=(tQ h).symm
def eY:GK 159 b36:=gk func159<|by
 intro(p:Pg) (hp:p.sl.length<1000000000000);refine U5 (gC z9 gN) func159 (b2W p) (α:=let q:=(1=1/\1=1/\p.Q=p.Q/\(Z0 Z5 p.sl p.sl)/\True);br (!V6 p.Q (0:Int) (1000:Int)||(p.sl.length:Int) !=4) (false=k4 p) ((∃(x:V5 4 λ(i:Nat)=>L3 true (p.sl.getD i [])),((0=0/\0=0)/\0=(x.1:Int)/\True)/\q/\True)/\∀(x:V5 4 λ(i:Nat)=>L3 true (p.sl.getD i [])),let r:=(x.1:Int);bd (r<4) (W9 r p.sl.length/\bd ((↑(p.sl.getD r.toNat []).length:Int)>30) (false=k4 p) (Ri (r+1)/\∃(y:V5 4 λ(i:Nat)=>L3 true (p.sl.getD i [])),(((0=0/\0=0)/\r+1=(y.1:Int)/\True)/\q/\True)/\Lt (4-y.1) (4-x.1))) (true=k4 p))) ⟨λh=>c4v ?_,λh=>?_⟩
 ·rintro⟨f,e,g,_⟩;simp[V6] at h;omega
 simp[V6] at h;refine⟨⟨F4,X7⟩,λx=>⟨λhc=>?_,λhc=>?_⟩⟩
 ·have hlt:x.1<4:=by have:=G7 hc;omega
  refine⟨⟨Z9,Z9⟩,λB=>c4v ?_,λB=>⟨Z4 Z9,x.succ hlt B,X7,V5.ext_lt hlt⟩⟩
  rintro⟨_,_,_,d⟩;have:=d x.1 Z9
  rw[E3,o8] at B;omega
 ·refine(mO ⟨h.1.1,h.1.2,Z9,λi hi=>?_⟩).symm
  exact gG.1 (x.2.2 i (by have:=r9 hc;omega))
def gS:Z7 4 (λ_=>[T.str []]) (Z5 [[],[],[],[]]):=by
 intro i hi
 match i,hi with
 |0,_=>rfl
 |1,_=>rfl
 |2,_=>rfl
 |3,_=>rfl
def a4d:GK 273 a63:=gk func273<|λ_ _=>a6E ⟨⟨m3,sH,sX,Q2⟩,U9 _,rfl,⟨rfl,gS⟩,Z6⟩
def a3X:GK 257 a6U:=gk func257<|λ_ _=>a7S ⟨⟨m3,sH,sX,Q2⟩,U9 _,rfl,⟨rfl,gS⟩,Z6⟩
def uS(no:Int)(x:Bz):Bool:=decide (5<=x.length)&&(x.getD 0 0==112&&decide (((x.getD 1 0).toNat:Int)=no))
def pgX(x:Bz):Pg:=⟨be ((x.drop 2).take 2),(Q3 (x.drop 4)).getD []⟩
def E5(no:Int)(b:Bz):Pg×Bool:=if S0 b&&uS no (X1 b) then(pgX (X1 b),(Q3 ((X1 b).drop 4)).isSome&&k4 (pgX (X1 b))) else(⟨0,[]⟩,false)
def P2(no:Int)(b:Bz):Pg:=if(E5 no b).2 then(E5 no b).1 else⟨0,[]⟩
def I3(no:Int)(b:Bz):Int:=if S0 b then(if(E5 no b).2 then 0 else 3) else 8
def RdB(b:Bz):Prop:=b.length<=1000
def fL:Rl:=⟨Int×Bz,λx=>[Ji x.1,.bys x.2],λx=>.tup [.agg (P2 x.1 x.2).ts,Ji (I3 x.1 x.2)],λx=>RdB x.2⟩
def a6t:Con:=.rel fL
def aQ:Rl:=⟨Int×Bz,λx=>[Ji x.1,.str x.2],λx=>.tup [.agg (E5 x.1 x.2).1.ts,.bool (E5 x.1 x.2).2],λx=>RdB x.2⟩
def b2E:Con:=.rel aQ
def a8s:GK 258 b2E:=gk func258<|by
 rintro⟨no,b⟩ (hb:b.length<=1000);have f:(X1 b).length<=1000:=by
  unfold X1;split
  ·rw[List.length_take];omega
  ·exact N4 _
 have hh:(!S0 b||decide (((X1 b).length:Int)<5)||(((X1 b).getD 0 0).toNat:Int) !=112||IntKind.i64.wrap (((X1 b).getD 1 0).toNat:Int) !=no)= !(S0 b&&uS no (X1 b)):=by
  rw[uW];unfold uS;have:((X1 b).getD 0 0==112)=((((X1 b).getD 0 0).toNat:Int)==112):=by
   rw[Bool.eq_iff_iff,beq_iff_eq,beq_iff_eq,←UInt8.toNat_inj];exact⟨λh=>by rw[h];rfl,λh=>by have:((112:UInt8).toNat:Int)=112:=rfl;omega⟩
  rw[this];have h5:decide (((X1 b).length:Int)<5)= !decide (5<=(X1 b).length):=by rw[←decide_not];exact decide_eq_decide.2 Z9
  have n:((((X1 b).getD 1 0).toNat:Int) !=no)= !decide ((((X1 b).getD 1 0).toNat:Int)=no):=by rw[Bool.eq_iff_iff];simp
  rw[h5,n,bne];cases S0 b<;>cases decide (5<=(X1 b).length)<;>cases((((X1 b).getD 0 0).toNat:Int)==112)<;>simp
 refine U5 (gC mX (gC fJ (gC cC (gC eY gN)))) func258 Z3 (α:=let r:=(E5 no b);∃(x:a48.ι),let q:=(↑((X1 x).getD 0 (0:UInt8)).toNat:Int);let p:=(X1 x).length;let z:=((↑p:Int)<5);((b=x/\True)/\v5 x)/\((!S0 x||decide z)=false->W9 (0:Int) p)/\((!S0 x||decide z||q !=112)=false->W9 (1:Int) p)/\br (!S0 x||decide z||q !=112||IntKind.i64.wrap (↑((X1 x).getD 1 (0:UInt8)).toNat:Int) !=no) ((0=r.1.Q/\r.1.sl.length=0/\True)/\false=r.2/\True) (jX (4:Int) p/\∃(X:aB.ι),((List.drop 4 (X1 x)=X/\True)/\v5 X)/\b1Q (2:Int) (4:Int) p/\∃(d:iI.ι),((List.drop 2 (List.take 4 (X1 x))=d/\True)/\mL d)/\∃(x:xB.ι),((Q3 X).isSome=true->(((↑(be d):Int)=x.Q/\(Z0 Z5 ((Q3 X).getD []) x.sl)/\True)/\True)/\PgB x)/\((↑(be d):Int)=r.1.Q/\(Z0 Z5 ((Q3 X).getD []) r.1.sl)/\True)/\((Q3 X).isSome&&k4 x)=r.2/\True)) ⟨b,⟨X7,Nat.le_trans hb M4⟩,λh=>?_,λh=>?_,λh=>?_,λh=>?_⟩
 ·simp only[wS,uH] at h;exact⟨Z9,Z9⟩
 ·simp only[wS,uH] at h;exact⟨Z9,Z9⟩
 ·rw[hh] at h;have h:(S0 b&&uS no (X1 b))=false:=(vZ _).mp h;have e:E5 no b=(⟨0,[]⟩,false):=by unfold E5;rw[h];rfl
  rw[e];exact X7
 ·rw[hh] at h;have h:(S0 b&&uS no (X1 b))=true:=(wU _).mp h;have h5:5<=(X1 b).length:=by simp only[uS,J5,o8] at h;exact h.2.1
  have e:E5 no b=(pgX (X1 b),(Q3 ((X1 b).drop 4)).isSome&&k4 (pgX (X1 b))):=by unfold E5;rw[h];rfl
  rw[e];refine⟨⟨Z9,Z9⟩,(X1 b).drop 4,⟨X7,by unfold v5;rw[List.length_drop];omega⟩,⟨Z9,Z9,Z9⟩,((X1 b).drop 2).take 2,⟨⟨?_,Z6⟩,by unfold mL;rw[List.length_take];omega⟩,pgX (X1 b),
   λ_=>⟨X7,?_⟩,X7⟩
  ·rw[List.drop_take]
  ·show((Q3 ((X1 b).drop 4)).getD []).length<1000000000000;unfold Q3;split
   ·decide
   ·split
    ·rename_i p out ho;split
     ·have:=fO ho;have:=yL ((X1 b).drop 4) 0;simp only[Option.getD_some,C2] at*;omega
     ·decide
    ·decide
def b3h(r:Bz)(p i:Nat):(r.drop p).getD i 0=r.getD (p+i) 0:=by
 simp[P4]
def b5E(r:Bz)(R:0<r.length):∀i,match xK r i with
  |some (p,out)=>F2 r false i=⟨r.drop p,false,out⟩/\p<=r.length
  |none=>(F2 r false i).fl=true
 |0=>by
  have:r.isEmpty=false:=by cases r with
   |nil=>simp at R
   |cons=>rfl
  simp only[xK,F2,Fst.go,fs0,this,Bool.or_false];exact⟨Z6,R⟩
 |i+1=>by
  have I:=b5E r R i;have o:F2 r false (i+1)=Fst.step (F2 r false i):=rfl;cases f:xK r i with
  |none=>
   rw[f] at I;have:xK r (i+1)=none:=a1A f 1;rw[this,o];simp only at I ⊢;simp[Fst.step,I]
  |some x=>
   obtain⟨p,out⟩:=x;rw[f] at I;obtain⟨j,l⟩:=I;rw[a9N f,o,j];have M:numR (r.drop p)=((r.getD p 0).toNat:Int):=by unfold numR;rw[b3h,Nat.add_zero]
   have h:big ((r.drop p).drop 1) (numR (r.drop p))=decide (¬ (p+1+(r.getD p 0).toNat<=r.length∨r.length<p+1/\(r.getD p 0).toNat=0)):=by
    unfold big;rw[M];refine decide_eq_decide.2 ?_
    simp only[List.length_drop];omega
   have e:(r.drop p).isEmpty=decide (¬p<r.length):=by
    rw[Bool.eq_iff_iff,List.isEmpty_iff,o8,List.drop_eq_nil_iff];omega
   simp only[Fst.step];rw[h,e];by_cases hc:p<r.length/\p+1+(r.getD p 0).toNat<=r.length
   ·rw[if_pos hc];simp only;have e1:decide (¬p<r.length)=false:=tQ Z9
    have g:decide (¬ (p+1+(r.getD p 0).toNat<=r.length∨r.length<p+1/\(r.getD p 0).toNat=0))=false:=tQ Z9
    rw[e1,g];have d:big ((r.drop p).drop 1) (numR (r.drop p))=false:=by rw[h,g]
    unfold Q8 T4;rw[d];simp only[Bool.false_eq_true,if_false,Bool.or_false];refine⟨?_,hc.2⟩
    rw[M,E3,List.drop_drop,List.drop_drop,List.drop_take,show p+1+(r.getD p 0).toNat- (p+1)=(r.getD p 0).toNat by omega,List.drop_drop,Nat.add_assoc]
   ·rw[if_neg hc];simp only;rw[nT,nT];by_cases hp:p<r.length
    ·exact .inr (mO Z9)
    ·exact .inl (.inr (mO hp))
def a18(l:Bz):∀i,(F2 l true i).fl=true
 |0=>by simp[F2,Fst.go,fs0]
 |i+1=>by
  have:=a18 l i;simp only[F2] at this ⊢;simp[Fst.go,Fst.step,this]
def a7y(fl:Bool):∀i,(F2 [] fl i).fl=true
 |0=>by simp[F2,Fst.go,fs0]
 |i+1=>by
  have:=a7y fl i;simp only[F2] at this ⊢;simp[Fst.go,Fst.step,this]
def rpQ(x:Bz):Pg:=⟨be ((T4 x 4).drop 2),(U1 (Q8 x 4) (false||big x 4)).out⟩
def mQ(no:Int)(x:Bz):Bool:=(!(!(U1 (Q8 x 4) (false||big x 4)).fl&&(U1 (Q8 x 4) (false||big x 4)).l.isEmpty)||(((T4 x 4).getD 0 0).toNat:Int) !=112||IntKind.i64.wrap (((T4 x 4).getD 1 0).toNat:Int) !=no)
def b0m(no:Int)(b:Bz)(U:S0 b=true):(mQ no (X1 b)|| !k4 (rpQ (X1 b)))= !(E5 no b).2/\((E5 no b).2=true->rpQ (X1 b)=(E5 no b).1):=by
 have i:E5 no b=if uS no (X1 b) then(pgX (X1 b),(Q3 ((X1 b).drop 4)).isSome&&k4 (pgX (X1 b))) else(⟨0,[]⟩,false):=by unfold E5;rw[U,Bool.true_and]
 generalize X1 b=x at i;rw[i];by_cases h5:5<=x.length
 ·have hbig:big x 4=false:=tQ Z9
  have R:Q8 x 4=x.drop 4:=by unfold Q8;rw[hbig];rfl
  have A:T4 x 4=x.take 4:=by unfold T4;rw[hbig];rfl
  have o:(x.take 4).getD 0 0=x.getD 0 0:=by simp[P4,List.getElem?_take]
  have t:(x.take 4).getD 1 0=x.getD 1 0:=by simp[P4,List.getElem?_take]
  have j:(x.take 4).drop 2=(x.drop 2).take 2:=by rw[List.drop_take]
  have q:rpQ x=⟨be ((x.drop 2).take 2),(U1 (x.drop 4) false).out⟩:=by unfold rpQ;rw[R,A,hbig,j];rfl
  have B:mQ no x=(!(!(U1 (x.drop 4) false).fl&&(U1 (x.drop 4) false).l.isEmpty)||((x.getD 0 0).toNat:Int) !=112||((x.getD 1 0).toNat:Int) !=no):=by unfold mQ;rw[R,A,hbig,o,t,uW];rfl
  have g:uS no x= !(((x.getD 0 0).toNat:Int) !=112||((x.getD 1 0).toNat:Int) !=no):=by
   unfold uS;rw[Bool.eq_iff_iff];simp only[J5,o8,beq_iff_eq,vZ,wS,bne_eq_false_iff_eq];have:x.getD 0 0=112↔((x.getD 0 0).toNat:Int)=112:=by
    rw[←UInt8.toNat_inj];exact⟨λh=>by rw[h];rfl,λh=>by have:((112:UInt8).toNat:Int)=112:=rfl;omega⟩
   rw[this];exact⟨λh=>h.2,λh=>⟨h5,h⟩⟩
  have N:0<(x.drop 4).length:=by rw[List.length_drop];omega
  have d:=b5E (x.drop 4) N (C2 (x.drop 4));have n:(numR (x.drop 4)).toNat=C2 (x.drop 4):=by unfold numR C2;exact E3 _
  have e:U1 (x.drop 4) false=F2 (x.drop 4) false (C2 (x.drop 4)):=by unfold U1;rw[n]
  have hall:Q3 (x.drop 4)=if C2 (x.drop 4)>100 then none else match xK (x.drop 4) (C2 (x.drop 4)) with
    |some (p,out)=>if p=(x.drop 4).length then some out else none
    |none=>none:=by
   unfold Q3;by_cases hc:C2 (x.drop 4)>100
   ·rw[if_pos (.inr hc),if_pos hc]
   ·rw[if_neg Z9,if_neg hc]
    rfl
  rw[B,q,g,e];generalize (((x.getD 0 0).toNat:Int) !=112)=d0;generalize (((x.getD 1 0).toNat:Int) !=no)=d1;have X:∀out,Q3 (x.drop 4)=some out->pgX x=⟨be ((x.drop 2).take 2),out⟩:=λout h=>by unfold pgX;rw[h];rfl
  generalize be ((x.drop 2).take 2)=nn at X;generalize pgX x=px at X;generalize u:x.drop 4=r at d hall X;clear q B g R A o t j i e n;cases F:xK r (C2 r) with
  |none=>
   rw[F] at d hall;simp only at d;have hall:Q3 r=none:=by rw[hall];split<;>rfl
   rw[d,hall];cases d0<;>cases d1<;>simp
  |some y=>
   obtain⟨p,out⟩:=y;rw[F] at d hall;simp only at d hall;obtain⟨d,L⟩:=d;rw[d];have O:out.length=C2 r:=fO F;by_cases hp:p=r.length
   ·have hem:(r.drop p).isEmpty=true:=by rw[List.isEmpty_iff,List.drop_eq_nil_iff];omega
    by_cases hc:C2 r>100
    ·rw[if_pos hc] at hall;have hpg:k4 ⟨nn,out⟩=false:=tQ (λh=>by have:=h.2.2.1;simp only at this;omega)
     simp only[hem,hall,hpg];cases d0<;>cases d1<;>simp
    ·rw[if_neg hc,if_pos hp] at hall;rw[X out hall];simp only[hem,hall];cases d0<;>cases d1<;>simp
   ·have hem:(r.drop p).isEmpty=false:=by
     rw[Bool.eq_false_iff,ne_eq,List.isEmpty_iff,List.drop_eq_nil_iff];omega
    have hall:Q3 r=none:=by rw[hall,if_neg hp];split<;>rfl
    simp only[hem,hall];cases d0<;>cases d1<;>simp
 ·have hh:uS no x=false:=by unfold uS;rw[tQ h5];rfl
  have f:(U1 (Q8 x 4) (false||big x 4)).fl=true:=by
   by_cases v:4<=x.length
   ·have hbig:big x 4=false:=tQ Z9
    have R:Q8 x 4=[]:=by unfold Q8;rw[hbig];exact List.drop_eq_nil_iff.2 (by show x.length<=4;omega)
    rw[R];exact a7y _ _
   ·have hbig:big x 4=true:=mO Z9
    rw[hbig];exact a18 _ _
  have B:mQ no x=true:=by unfold mQ;rw[f];simp
  rw[B,hh];simp
def a3W:GK 274 a6t:=gk func274<|by
 rintro⟨no,b⟩ (B:b.length<=1000);have L:∀(x:Bz),(T4 x 4).length=4:=λx=>by
  unfold T4;split
  ·exact List.length_replicate
  ·rename_i h;have:¬4>(x.length:Int):=by simpa[big] using h
   rw[List.length_take,show(4:Int).toNat=4 from rfl]
   omega
 refine U5 (gC sK (gC qI (gC a2J (gC aT (gC qP (gC pF gN)))))) func274 Z3 (α:=let y:=(P2 no b);let r:=(0=y.Q/\y.sl.length=0/\True);bd ((b.length:Int)>65536) (r/\2=I3 no b/\True) (∃(x:tG.ι),let q:=(T4 (X1 x) (4:Int));let v:=(↑(q.getD 1 (0:UInt8)).toNat:Int);let z:=(↑(q.getD 0 (0:UInt8)).toNat:Int);let p:=(U1 (Q8 (X1 x) (4:Int)) (false||big (X1 x) (4:Int)));let u:=(! p.fl&&p.l.isEmpty);((b=x/\True)/\v5 x)/\br (!S0 x) (r/\8=I3 no b/\True) (r8 (4:Int)/\jX (2:Int) q.length/\∃(d:a5L.ι),((List.drop 2 q=d/\True)/\mL d)/\((! u)=false->W9 (0:Int) q.length)/\((! u||z !=112)=false->W9 (1:Int) q.length)/\∃(X:xB.ι),((! u||z !=112||IntKind.i64.wrap v !=no)=false->(((↑(be d):Int)=X.Q/\(Z0 Z5 p.out X.sl)/\True)/\True)/\PgB X)/\br (! u||z !=112||IntKind.i64.wrap v !=no|| !k4 X) (r/\3=I3 no b/\True) (((↑(be d):Int)=y.Q/\(Z0 Z5 p.out y.sl)/\True)/\0=I3 no b/\True)))) ⟨λh=>?_,λ_=>⟨b,⟨X7,Nat.le_trans B M4⟩,λh=>?_,λh=>⟨⟨Z9,Z9⟩,⟨Z9,a0b⟩,(T4 (X1 b) 4).drop 2,⟨X7,by unfold mL;rw[List.length_drop,L];omega⟩,
  λ_=>⟨Z9,a0b⟩,λ_=>⟨Z9,a0b⟩,rpQ (X1 b),λ_=>⟨X7,?_⟩,λg=>?_,λg=>?_⟩⟩⟩
 ·have:=G7 h;have B:b.length<=1000:=B;omega
 ·have hu:S0 b=false:=by simpa using h
  have e:(E5 no b).2=false:=by unfold E5;rw[hu];rfl
  have f:P2 no b=⟨0,[]⟩:=by unfold P2;rw[e];rfl
  have i:I3 no b=8:=by unfold I3;rw[hu];rfl
  rw[f,i];exact X7
 ·show(U1 (Q8 (X1 b) 4) (false||big (X1 b) 4)).out.length<1000000000000;unfold U1;rw[uG];have:=r6 (Q8 (X1 b) 4);omega
 ·have hu:S0 b=true:=by simpa using h
  have q:=(b0m no b hu).1;have e:(E5 no b).2=false:=by
   have g:(mQ no (X1 b)|| !k4 (rpQ (X1 b)))=true:=g;rw[g] at q;exact(vZ _).mp q.symm
  have f:P2 no b=⟨0,[]⟩:=by unfold P2;rw[e];rfl
  have i:I3 no b=3:=by unfold I3;rw[hu,e];rfl
  rw[f,i];exact X7
 ·have hu:S0 b=true:=by simpa using h
  have q:=b0m no b hu;have e:(E5 no b).2=true:=by
   have g:(mQ no (X1 b)|| !k4 (rpQ (X1 b)))=false:=g;rw[g] at q;exact(wU _).mp q.1.symm
  have f:P2 no b=rpQ (X1 b):=by unfold P2;rw[e,q.2 e];rfl
  have i:I3 no b=0:=by unfold I3;rw[hu,e];rfl
  rw[f,i];exact X7
open Go.SS Go.RowKit Go.Shelf Go.Proofs.Tryz
attribute [local go_sem] Oper.semAt_some
structure Pend where
 at_:Int
 d:Bz
 deriving Inhabited
def Pend.ts(p:Pend):List T:=[Ji p.at_,.str p.d]
def Pend.val(p:Pend):Value:=.agg #[.int .i64 p.at_,.string ⟨p.d.toArray⟩]
def uM{α:Type}(f:Nat->α)(k:Nat):List α:=(List.range k).map f
def oL{α:Type}(f:Nat->α)(k:Nat):uM f (k+1)=uM f k++[f k]:=by simp[uM,List.range_succ]
def a1m{α:Type}(f:Nat->α)(k:Nat):(uM f k).length=k:=by simp[uM]
def bwF(ps:Nat->Pend)(len j:Nat):Nat×Pend:=(len-1-j,ps (len-1-j))
def bwE(x:Nat×Pend):Array Value:= #[.int .i64 (x.1:Int),x.2.val]
def KpB(n Bs:Nat)(A B:World):Prop:=Below n A B/\∀v,A.cell? ⟨Bs,0,none⟩=some v->B.cell? ⟨Bs,0,none⟩=some v
def KpB.refl(n Bs:Nat)(A:World):KpB n Bs A A:=⟨Below.refl _ _,λ_ h=>h⟩
def KpB.trans{n Bs:Nat}{A B C:World}(h:KpB n Bs A B)(k:KpB n Bs B C):KpB n Bs A C:=⟨h.1.trans k.1,λv hv=>k.2 v (h.2 v hv)⟩
set_option maxRecDepth 100000 in
set_option maxHeartbeats 2000000 in
def c6s(F:Fence)(n:Nat)(h8:F.fn 320)(hro:F.round=none)(hn:1<=n)(l Bs n₀ b off len cap:Nat)(ps:Nat->Pend)(hreach:len<1000000000000)(hb:b<n₀)(J Jx:List (Nat×Pend)->World->Prop)
  (hY:∀pre x W,J pre W->pre.length<len->YieldAt F (n-1) prog l (bwE x) W λe W'=>
   (e= .returned (.bool true)/\J (pre++[x]) W'/\KpB n₀ Bs W W')∨(e= .returned (.bool false)/\Jx (pre++[x]) W'))
  (W:World) (hBs:W.cell? ⟨Bs,0,none⟩=some (.slice (some ⟨b,off,none⟩) len cap))
  (hc0:∀j,j<len->W.cell? ⟨b,off+j*2,none⟩=some (.int .i64 (ps j).at_)) (hc1:∀j,j<len->W.cell? ⟨b,off+j*2+1,none⟩=some (.string ⟨(ps j).d.toArray⟩)) (h0:J [] W):
  CallsIn F n prog 320 #[.func (.yield l) #[] #[],.pointer (some ⟨Bs,0,none⟩)] W λe W'=>(∃v,e= .returned v)/\
   ((∃ys,ys=uM (bwF ps len) len/\J ys W')∨(∃pre,(∃k,k<=len/\pre=uM (bwF ps len) k)/\Jx pre W')):=by
 refine callsIn_of_wp func320 rfl h8 ?_ hro
 simp only[Tryz.ntmps320,List.size_toArray,List.length_cons,List.length_nil,Nat.reduceAdd,Nat.reduceSub,Array.replicate_succ,Array.replicate_zero,List.push_toArray,List.append_toArray,List.nil_append,List.cons_append]
 gi_wp2
 gi_loopw [3] (λi wr=>∃k:Nat,k<=len/\i= .int .i64 ((len:Int)-1-k)/\J (uM (bwF ps len) k) wr/\KpB n₀ Bs W wr)
  (λi _=>(intOf i+1).toNat)
 case atStart=>exact⟨0,N4 _,W7,h0,KpB.refl _ _ _⟩
 case round=>
  obtain⟨k,hk,rfl,hJs,hnx⟩:=hrel;have hBx:wr.cell? ⟨Bs,0,none⟩=some (.slice (some ⟨b,off,none⟩) len cap):=hnx.2 _ hBs;by_cases hlt:k<len
  ·obtain⟨m,hm⟩:∃m,len=k+1+m:=⟨len-1-k,Z9⟩
   have hfk:bwF ps len k=(m,ps m):=by unfold bwF;rw[show len-1-k=m by omega]
   have e1:(len:Int)-1-k=(m:Int):=Z9
   rw[e1];have hm1:m<len:=Z9
   have hm2:len<=m+k+1:=Z9
   have hm3:m+k+1<=len:=Z9
   clear hm e1;have hx0:=(hnx.1.cell (p:=⟨b,off+m*2,none⟩) hb).trans (hc0 m Z9)
   have hx1:=(hnx.1.cell (p:=⟨b,off+m*2+1,none⟩) hb).trans (hc1 m Z9)
   obtain⟨fn,tmps,assign,body,hy,hR⟩:=hY _ (m,ps m) wr hJs (by rw[a1m];exact hlt)
   dsimp only[bwE,Pend.val] at hy
   gi_wp2
   refine hR.mono ?_
   rintro e W3 (⟨rfl,hJ3,hk3⟩|⟨rfl,hJx3⟩)
   ·gi_wp2
    go_roundw
    case rel=>exact⟨k+1,Z9,by congr 1;omega,by rw[oL,hfk];exact hJ3,hnx.trans hk3⟩
    case measure=>(simp[intOf]<;>omega)
   ·gi_wp2
    refine bodyPost_ret (results_none rfl _ _ _) rfl ?_
    exact⟨⟨_,rfl⟩,.inr ⟨_,⟨k+1,Z9,by rw[oL,hfk]⟩,hJx3⟩⟩
  ·obtain rfl:k=len:=by omega
   have e1:((k:Nat):Int)-1-k= -1:=Z9
   rw[e1]
   gi_wp2
   go_end0
   exact⟨⟨_,rfl⟩,.inl ⟨_,rfl,hJs⟩⟩
set_option maxRecDepth 100000 in
set_option maxHeartbeats 1000000 in
def a8k(F:Fence)(n:Nat)(h8:F.fn 320)(hro:F.round=none)(l Bs cap:Nat)(a:Option Addr)(J:List (Nat×Pend)->World->Prop)(W:World)(hBs:W.cell? ⟨Bs,0,none⟩=some (.slice a 0 cap))(h0:J [] W):
  CallsIn F n prog 320 #[.func (.yield l) #[] #[],.pointer (some ⟨Bs,0,none⟩)] W λe W'=>(∃v,e= .returned v)/\J [] W':=by
 refine callsIn_of_wp func320 rfl h8 ?_ hro
 simp only[Tryz.ntmps320,List.size_toArray,List.length_cons,List.length_nil,Nat.reduceAdd,Nat.reduceSub,Array.replicate_succ,Array.replicate_zero,List.push_toArray,List.append_toArray,List.nil_append,List.cons_append]
 gi_wp2
 gi_loopw [3] (λi wr=>i= .int .i64 (-1)/\J [] wr) (λ_ _=>0)
 case atStart=>exact⟨rfl,h0⟩
 case round=>
  obtain⟨rfl,hJs⟩:=hrel
  gi_wp2
  go_end0
  exact⟨⟨_,rfl⟩,hJs⟩
set_option maxHeartbeats 1000000 in
def c8P(F:Fence)(n:Nat)(h6:F.fn 237)(hro:F.round=none)(a:Option Addr)(len cap:Nat)(w:World):
  CallsIn F n prog 237 #[.slice a len cap] w λe w'=>e= .returned (.func (.func 320) #[] #[.pointer (some ⟨w.heap.size,0,none⟩)])/\w'=w.alloc (.cells #[.slice a len cap] 39):=by
 refine callsIn_of_wp func237 rfl h6 ?_ hro
 simp only[Tryz.ntmps237,List.size_toArray,List.length_cons,List.length_nil,Nat.reduceAdd,Nat.reduceSub,Array.replicate_succ,Array.replicate_zero,List.push_toArray,List.append_toArray,List.nil_append,List.cons_append]
 gi_wp2
 go_ret
 exact X7
def yE(n:Nat)(W:World)(v:Value)(len:Nat)(ps:Nat->Pend):Prop:=
 (∃a cap,v= .slice a 0 cap/\len=0)∨∃b off cap,v= .slice (some ⟨b,off,none⟩) len cap/\b<n/\∀j,j<len->W.cell? ⟨b,off+j*2,none⟩=some (.int .i64 (ps j).at_)/\W.cell? ⟨b,off+j*2+1,none⟩=some (.string ⟨(ps j).d.toArray⟩)
def yE.below{n:Nat}{A B:World}(h:Below n A B){v:Value}{len:Nat}{ps:Nat->Pend}:yE n A v len ps->yE n B v len ps
 | .inl e=>.inl e
 | .inr ⟨b,off,cap,e,hb,hc⟩=>.inr ⟨b,off,cap,e,hb,λj J=>⟨(h.cell (p:=⟨b,off+j*2,none⟩) hb).trans (hc j J).1,(h.cell (p:=⟨b,off+j*2+1,none⟩) hb).trans (hc j J).2⟩⟩
def b6J(F:Fence)(n:Nat)(u:F.fn 320)(o:F.round=none)(x:1<=n)(Bs N:Nat)(v:Value)(len:Nat)(ps:Nat->Pend)(h:len<1000000000000)(w:World)(q:Bs<w.heap.size)(i:N<=w.heap.size)
  (C:w.cell? ⟨Bs,0,none⟩=some v) (I:yE N w v len ps):
  SeqStopsK F n prog 320 #[.pointer (some ⟨Bs,0,none⟩)] bwE (KpB N Bs) (λz=>z=uM (bwF ps len) len)
   (λpre=>∃k,k<=len/\pre=uM (bwF ps len) k) len w:=λl J Jx W t _ _ Y r=>by
 have d:=(t.cell (p:=⟨Bs,0,none⟩) q).trans C;rcases I.below (t.mono i) with⟨a,cap,rfl,rfl⟩|⟨b,off,cap,rfl,B,f⟩
 ·exact(a8k F n u o l Bs cap a J W d r).mono λe W' ⟨A,g⟩=>⟨A,.inl ⟨_,rfl,g⟩⟩
 ·exact c6s F n u o x l Bs N b off len cap ps h B J Jx Y W d (λj g=>(f j g).1) (λj g=>(f j g).2) r
def yE.mono{n N:Nat}{W:World}{v:Value}{len:Nat}{ps:Nat->Pend}(h:n<=N):yE n W v len ps->yE N W v len ps
 | .inl e=>.inl e
 | .inr ⟨b,off,cap,e,hb,hc⟩=>.inr ⟨b,off,cap,e,xY hb h,hc⟩
def cO(n:Nat)(W:World)(v:Value)(m:Nat)(L:List (Bz)):Prop:=∃b off cap,v= .slice (some ⟨b,off,none⟩) m cap/\b<n/\∀j,j<m->W.cell? ⟨b,off+j,none⟩=some (.string ⟨(L.getD j []).toArray⟩)
def cO.below{n:Nat}{A B:World}(h:Below n A B){v:Value}{m:Nat}{L:List (Bz)}:cO n A v m L->cO n B v m L:=
 λ⟨b,off,cap,e,hb,hc⟩=>⟨b,off,cap,e,hb,λj J=>(h.cell (p:=⟨b,off+j,none⟩) hb).trans (hc j J)⟩
def eK(w:World)(cs:Array Value)(t:TypeId)(j:Nat){v:Value}(h:cs[j]? =some v):(w.alloc (.cells cs t)).cell? ⟨w.heap.size,j,none⟩=some v:=by
 have:=World.alloc_heap_new w (.cells cs t);unfold World.cell?;simp only;rw[this];exact h
def uQ{A:World}(o:Obj){p:Addr}{v:Value}(h:A.cell? p=some v):(A.alloc o).cell? p=some v:=cell_kept h (World.grownBy_alloc _ o none) (λr e=>by cases e)
def b1z{w:World}(cs:Array Value)(t:TypeId)(d O o:Obj)(j:Nat){v:Value}(h:cs[j]? =some v):
  ((((w.alloc (.cells cs t)).alloc d).alloc O).alloc o).cell? ⟨w.heap.size,j,none⟩=some v:=by
 exact uQ _ (uQ _ (uQ _ (eK w cs t j h)))
set_option maxRecDepth 100000 in
set_option maxHeartbeats 4000000 in
def c2c(F:Fence)(n:Nat)(h3:F.fn 142)(h4:F.fn 237)(h5:F.fn 320)(hro:F.round=none)(hn:6<=n)(sec cache keep:Value)(armed:Bool)(at_:Nat)(m len:Nat)(L:List (Bz))(ps:Nat->Pend)(ca:Option Addr)(clen ccap:Nat)(w:World)
  (hcv:cache= .slice ca clen ccap) (hI:yE w.heap.size w cache len ps) (hS:cO w.heap.size w sec m L) (hreach:len<1000000000000) (hat:at_<m):
  CallsIn F n prog 142 #[.agg #[sec,cache,.bool armed,keep],.int .i64 at_] w λe W'=>
   ∃v,e= .returned v/\Below w.heap.size w W'/\((v= .string ⟨(L.getD at_ []).toArray⟩/\∀j,j<len->(ps j).at_≠at_)∨∃k,k<len/\v= .string ⟨(ps (len-1-k)).d.toArray⟩/\(ps (len-1-k)).at_=at_/\∀j,j<k->(ps (len-1-j)).at_≠at_):=by
 have h1:1<=n:=Z9
 subst hcv;refine callsIn_of_wp_marks func142 rfl h3 ?_ hro
 simp only[Tryz.ntmps142,List.size_toArray,List.length_cons,List.length_nil,Nat.reduceAdd,Nat.reduceSub,Array.replicate_succ,Array.replicate_zero,List.push_toArray,List.append_toArray,List.nil_append,List.cons_append]
 gi_wp2_with (gi_at_call 237;refine(c8P F (n-1) h4 hro _ _ _ _).mono ?_;rintro e w' ⟨rfl,rfl⟩)
 obtain⟨W0,hW0⟩:∃W0,(((w.alloc (.cells #[sec,.slice ca clen ccap,.bool armed,keep] 41)).alloc (.cells #[.int .i64 (at_:Int)] 3)).alloc (.cells #[.string ⟨#[]⟩] 9)).alloc (.cells #[.slice ca clen ccap] 39)=W0:=⟨_,rfl⟩;have bD:W0.cell? ⟨w.heap.size,0,none⟩=some sec:=by rw[←hW0];exact b1z _ _ _ _ _ 0 rfl
 have bA:Boxed W0 (w.heap.size+1) 3 (.int .i64 (at_:Int)):=by
  have:=((Boxed.new (w.alloc (.cells #[sec,.slice ca clen ccap,.bool armed,keep] 41)) 3 (.int .i64 (at_:Int))).alloc (.cells #[.string ⟨#[]⟩] 9)).alloc (.cells #[.slice ca clen ccap] 39);rw[←hW0]
  simpa only[World.size_alloc] using this
 have bR:Boxed W0 (w.heap.size+1+1) 9 (.string ⟨#[]⟩):=by
  have:=(Boxed.new ((w.alloc (.cells #[sec,.slice ca clen ccap,.bool armed,keep] 41)).alloc (.cells #[.int .i64 (at_:Int)] 3)) 9 (.string ⟨#[]⟩)).alloc (.cells #[.slice ca clen ccap] 39);rw[←hW0]
  simpa only[World.size_alloc] using this
 have bN:Boxed W0 (w.heap.size+1+1+1) 39 (.slice ca clen ccap):=by
  have:=Boxed.new (((w.alloc (.cells #[sec,.slice ca clen ccap,.bool armed,keep] 41)).alloc (.cells #[.int .i64 (at_:Int)] 3)).alloc (.cells #[.string ⟨#[]⟩] 9)) 39 (.slice ca clen ccap);rw[←hW0]
  simpa only[World.size_alloc] using this
 have hB0:Below w.heap.size w W0:=by
  rw[←hW0];exact((((Below.refl _ w).alloc (U9 _) _).alloc W7 _).alloc C7 _).alloc C7 _
 have hsz:W0.heap.size=w.heap.size+4:=by rw[←hW0];simp
 rw[hW0];have kpB_b:∀(W:World) (l:Nat) (o o':Obj),W0.heap.size<=l->W.heap[l]? =some o->o.isCells=false->o.isWalk=false->KpB w.heap.size (w.heap.size+1+1+1) W (W.putObj l o'):=λW l o o' hl ho hc hk=>
  ⟨belowK_b (w:=w) (U9 _) W l o o' Z9 ho hc hk,λv hv=>cell_kept hv (grownBy_putObj' _ l o') (λr e=>by cases e;exact⟨_,ho,hc⟩)⟩
 refine wpIn_rangeFunc_ownH hro h1 (gf:=320) (lb:= #[.pointer (some ⟨w.heap.size+1+1+1,0,none⟩)]) rfl h5 (enters_of func320 R5 rfl)
  (b6J F (n-1) h5 hro Z9 (w.heap.size+1+1+1) w.heap.size _ len ps hreach W0 Z9 Z9 bN.cell (hI.below hB0)) KpB.trans kpB_b (Below.refl _ _) (λ_=>rfl)
  (λpre W=>(((∀x ∈ pre,x.2.at_≠(at_:Int))/\Boxed W (w.heap.size+1+1) 9 (.string ⟨#[]⟩))/\(Boxed W (w.heap.size+1) 3 (.int .i64 (at_:Int))/\W.cell? ⟨w.heap.size,0,none⟩=some sec))/\Below w.heap.size w W)
  (λc pre W=>((c= .ret/\∃ini last,pre=ini++[last]/\(∀p ∈ ini,p.2.at_≠(at_:Int))/\last.2.at_=(at_:Int)/\W.cell? ⟨w.heap.size+1+1,0,none⟩=some (.string ⟨last.2.d.toArray⟩)))/\Below w.heap.size w W)
  (OwnFrom.and (OwnFrom.and (OwnFrom.and (ownFrom_pure _ _) (Own.from (boxed_own _ _ _) _)) (OwnFrom.and (Own.from (boxed_own _ _ _) _) (Own.from (λs A B row hs hg hr=>cell_kept hs hg hr) _))) (ownFrom_below (U9 _) Z9))
  (λc=>OwnFrom.and (Own.from (λs A B row hs hg hr=>by obtain⟨hc,ini,last,e1,e2,e3,e4⟩:=hs;exact⟨hc,ini,last,e1,e2,e3,cell_kept e4 hg hr⟩) _) (ownFrom_below (U9 _) Z9))
  ⟨⟨⟨W7,bR⟩,⟨bA,bD⟩⟩,hB0⟩
  (λx a' W=>∃Bx,w.heap.size+1+1<Bx/\(W.cell? ⟨Bx,0,none⟩=some (.int .i64 x.2.at_)/\W.cell? ⟨Bx,1,none⟩=some (.string ⟨x.2.d.toArray⟩))/\a'={tmps:= #[.agg #[sec,.slice ca clen ccap,.bool armed,keep],.int .i64 (at_:Int),.pointer (some ⟨w.heap.size,0,none⟩),.pointer (some ⟨w.heap.size+1,0,none⟩),.pointer (some ⟨w.heap.size+1+1,0,none⟩),undef,.pointer (some ⟨Bx,0,none⟩),.pointer (some ⟨w.heap.size,1,none⟩),.slice ca clen ccap,.func (.func 320) #[] #[.pointer (some ⟨w.heap.size+1+1+1,0,none⟩)],.int .i64 (x.1:Int),x.2.val,undef,undef,undef,undef,undef,undef,undef,undef,undef,undef,undef],defers:=[]})
  (λx a' _ X Y row hs hg hr=>by obtain⟨Bx,e1,⟨e2,e4⟩,e3⟩:=hs;exact⟨Bx,e1,⟨cell_kept e2 hg (λr e=>(hr r e).2),cell_kept e4 hg (λr e=>(hr r e).2)⟩,e3⟩)
  ?assign ?body ?done ?stop
 case assign=>
  rintro l pre x W K ⟨⟨⟨hp,bR1⟩,bA1,bD1⟩,hB1⟩ hK;dsimp only[bwE,Pend.val]
  gi_wp2
  exact hK _ _ ((KeepsOthers.alloc _ _).from _) ⟨(Below.refl _ W).alloc hB1.size _,λv hv=>uQ _ hv⟩ ⟨⟨⟨hp,bR1.alloc _⟩,bA1.alloc _,uQ _ bD1⟩,hB1.alloc hB1.size _⟩ ⟨W.heap.size,bR1.lt,⟨eK _ _ _ 0 rfl,eK _ _ _ 1 rfl⟩,rfl⟩
 case body=>
  rintro l pre x a' W hl ⟨r,hr⟩ ⟨⟨⟨hp,bR1⟩,bA1,bD1⟩,hB1⟩ ⟨Bx,hBx,⟨e2,e4⟩,rfl⟩ hlt;have cA:=bA1.cell;have cR:=bR1.cell;have fR:=bR1.frozen
  gi_wp2
  ·rename_i hx;have hx:x.2.at_=(at_:Int):=by simpa using hx
   exact⟨(KeepsOthers.setCell _ _ _).from _,⟨rfl,pre,x,rfl,hp,hx,(bR1.set _).cell⟩,hB1.setCell (p:=⟨w.heap.size+1+1,0,none⟩) C7 _⟩
  ·rename_i hx;have hx:x.2.at_≠(at_:Int):=by simpa using hx
   exact⟨KeepsFrom.refl _ _,KpB.refl _ _ _,⟨⟨⟨λp hp'=>(List.mem_append.1 hp').elim (hp p) (λe=>by simp at e;subst e;exact hx),bR1⟩,bA1,bD1⟩,hB1⟩⟩
 case done=>
  rintro D ys W hD rfl ⟨⟨⟨hp,bR1⟩,bA1,bD1⟩,hB1⟩ hK;have cA:=bA1.cell;have cR:=bR1.cell;have fR:=bR1.frozen;obtain⟨sb,so,sc,rfl,hsb,hsc⟩:=hS;have cS:W.cell? ⟨sb,so+at_,none⟩=some (.string ⟨(L.getD at_ []).toArray⟩):=(hB1.cell (p:=⟨sb,so+at_,none⟩) hsb).trans (hsc at_ hat);have hg:(L.getD at_ []:Bz)=L[at_]?.getD []:=P4
  rw[hg] at cS
  gi_wp2
  have hK':=(KeepsOthers.setCell W ⟨w.heap.size+1+1,0,none⟩ (.string ⟨(L[at_]?.getD []).toArray⟩)).same D _ hK rfl;refine⟨W7,.inl ⟨_,_,rfl,run_takeDeferred hK',?_⟩⟩
  have hc5:=cell_kept (bR1.set (.string ⟨(L[at_]?.getD []).toArray⟩)).cell (grownBy_putObj' _ D (.deferred none)) (λr e=>by cases e;exact⟨_,hK',rfl⟩)
  refine⟨.string ⟨(L[at_]?.getD []).toArray⟩,?_,_,rfl,(hB1.setCell (p:=⟨w.heap.size+1+1,0,none⟩) C7 _).trans (belowK_b (w:=w) (U9 _) _ D _ _ Z9 hK' rfl rfl),.inl ⟨rfl,λj hj=>?_⟩⟩
  ·simp[results,Tryz.f142,go_sem,hc5]
  ·have:=hp (bwF ps len (len-1-j)) (by simp only[uM,List.mem_map,List.mem_range];exact⟨len-1-j,Z9,rfl⟩)
   unfold bwF at this;rw[show len-1- (len-1-j)=j by omega] at this
   exact this
 case stop=>
  rintro D c pre W hD ⟨k,hk,rfl⟩ ⟨⟨rfl,ini,last,e1,e2,e3,hcr⟩,hB1⟩ hK
  gi_wp2
  refine⟨W7,.inl ⟨_,_,rfl,run_takeDeferred hK,?_⟩⟩
  have hc5:=cell_kept hcr (grownBy_putObj' _ D (.deferred none)) (λr e=>by cases e;exact⟨_,hK,rfl⟩)
  obtain⟨k',rfl⟩:∃k',k=k'+1:=by
   cases k with
   |zero=>simp[uM] at e1
   |succ k'=>exact⟨k',rfl⟩
  rw[oL] at e1;obtain⟨rfl,e5⟩:=List.append_inj' e1 rfl;obtain rfl:bwF ps len k'=last:=by simpa using e5
  refine⟨.string ⟨(bwF ps len k').2.d.toArray⟩,?_,_,rfl,hB1.trans (belowK_b (w:=w) (U9 _) W D _ _ Z9 hK rfl rfl),.inr ⟨k',Z9,rfl,e3,λj hj=>e2 (bwF ps len j) (by simp only[uM,List.mem_map,List.mem_range];exact⟨j,hj,rfl⟩)⟩⟩
  simp[results,Tryz.f142,go_sem,hc5]
structure Dsk where
 E:List (Bz)
 C:List Pend
 A:Bool
 keep:List Int
 deriving Inhabited
def Z1(L:List Pend)(i:Nat):List T:=(L.getD i dz).ts
def v6(L:List Pend):T:=.sl 2 L.length (Z1 L)
def Y9(L:List Int)(i:Nat):List T:=[Ji (L.getD i 0)]
def sN(L:List Int):T:=.sl 1 L.length (Y9 L)
def Dsk.ts(d:Dsk):List T:=[u2 d.E,v6 d.C,.bool d.A,sN d.keep]
abbrev zJ(a b:Dsk):Prop:=Z0 Z5 a.E b.E/\Z0 Z1 a.C b.C/\a.A=b.A/\Z0 Y9 a.keep b.keep/\True
def eqD(d:Dsk):zJ d d:=X7
def E8(L:List Pend)(at_:Int):Nat->Option (Bz)
 |0=>none
 |n+1=>if(L.getD n dz).at_=at_ then some (L.getD n dz).d else E8 L at_ n
def jM{L:List Pend}{at_:Int}:∀{n:Nat},(∀j,j<n->(L.getD j dz).at_≠at_)->E8 L at_ n=none
 |0,_=>rfl
 |n+1,h=>by
  unfold E8;rw[if_neg (h n (Nat.lt_succ_self n))];exact jM λj J=>h j Z9
def jD{L:List Pend}{at_:Int}{i:Nat}(h:(L.getD i dz).at_=at_):∀{n:Nat},i<n->(∀j,i<j->j<n->(L.getD j dz).at_≠at_)->E8 L at_ n=some (L.getD i dz).d
 |0,hi,_=>absurd hi (D2 i)
 |n+1,hi,hj=>by
  unfold E8;by_cases e:i=n
  ·subst e;rw[if_pos h]
  ·rw[if_neg (hj n Z9 (Nat.lt_succ_self n))]
   exact jD h Z9 λj f g=>hj j f Z9
def S1(d:Dsk)(at_:Nat):Bz:=(E8 d.C at_ d.C.length).getD (d.E.getD at_ [])
def AtB(x:Dsk×Nat):Prop:=x.2<x.1.E.length/\x.1.C.length<1000000000000
def oF:Rl:=⟨Dsk×Nat,λx=>[.agg x.1.ts,Ji x.2],λx=>.str (S1 x.1 x.2),AtB⟩
def c1T:Con:=.rel oF
def aH{E:Env}{w:World}{sz n:Nat}{row:Nat->List T}{v:Value}(h:Rd E w (.sl sz n row) v):(∃a,v= .slice a 0 0/\n=0)∨(∃(b off cap:Nat) (u:Nat->Nat->Value),v= .slice (some ⟨b,off,none⟩) n cap/\E.N b/\
  (∀i j t,i<n->(row i)[j]? =some t->w.cell? ⟨b,off+i*sz+j,none⟩=some (u i j)/\Rd E w t (u i j))):=by
 cases h with
 |slNil=>exact .inl ⟨_,X7⟩
 |slEmp=>exact .inl ⟨_,X7⟩
 |sl _ _ _ b off cap u e C l f r d=>exact .inr ⟨b,off,cap,u,rfl,e,λi j t hi J=>⟨r i j t hi J,d i j t hi J⟩⟩
def gB{E:Env}{w:World}{l:Bz}{v:Value}(h:Rd E w (.str l) v):v= .string ⟨l.toArray⟩:=by cases h;rfl
def tH{E:Env}{w:World}{k:IntKind}{n:Int}{v:Value}(h:Rd E w (.int k n) v):v= .int k n:=by cases h;rfl
def a3G{E:Env}{w:World}{b:Bool}{v:Value}(h:Rd E w (.bool b) v):v= .bool b:=by cases h;rfl
def a8h{E:Env}{w:World}{cs:List T}{v:Value}(h:Rd E w (.agg cs) v):∃vs,v= .agg vs/\tC E w cs vs:=by
 cases h with
 |agg _ vs l t=>exact⟨vs,rfl,l,t⟩
def c1u{E:Env}{w:World}{L:List (Bz)}{v:Value}(hE:∀b,E.N b->b<w.heap.size)(h:Rd E w (u2 L) v)(n:0<L.length):cO w.heap.size w v L.length L:=by
 rcases aH h with⟨a,_,f⟩|⟨b,off,cap,u,rfl,hN,U⟩
 ·omega
 ·refine⟨b,off,cap,rfl,hE b hN,λj hj=>?_⟩
  obtain⟨d,e⟩:=U j 0 (.str (L.getD j [])) hj rfl;rw[gB e] at d
  simpa using d
def b79{E:Env}{w:World}{L:List Pend}{v:Value}(hE:∀b,E.N b->b<w.heap.size)(h:Rd E w (v6 L) v):yE w.heap.size w v L.length (λi=>L.getD i dz)/\∃a l c,v= .slice a l c:=by
 rcases aH h with⟨a,rfl,g⟩|⟨b,off,cap,u,rfl,hN,U⟩
 ·exact⟨.inl ⟨a,0,rfl,g⟩,_,_,_,rfl⟩
 ·refine⟨.inr ⟨b,off,cap,rfl,hE b hN,λj hj=>⟨?_,?_⟩⟩,_,_,_,rfl⟩
  ·obtain⟨e,f⟩:=U j 0 (.int .i64 (L.getD j dz).at_) hj rfl;rw[tH f] at e;exact e
  ·obtain⟨e,f⟩:=U j 1 (.str (L.getD j dz).d) hj rfl;rw[gB f] at e;exact e
def dM:GK 142 c1T:=gk func142<|by
 rintro⟨d,at_⟩ ⟨t,h⟩;simp only at t h;intro E w vs M x hv;obtain⟨z,hv⟩:=hv;obtain⟨q,V,rfl⟩:∃q V,vs= #[q,V]:=by
  have h2:vs.size=2:=z.symm;exact⟨vs[0],vs[1],by apply Array.ext<;>simp[h2];intro i hi _;match i,hi with|0,_=>rfl|1,_=>rfl⟩
 obtain⟨cs,rfl,u,r⟩:=a8h (hv 0 (.agg d.ts) q rfl rfl);obtain rfl:=tH (hv 1 (.int .i64 at_) V rfl rfl);obtain⟨f,C,c2,o,rfl⟩:∃f C c2 o,cs= #[f,C,c2,o]:=by
  have h2:cs.size=4:=u.symm;exact⟨cs[0],cs[1],cs[2],cs[3],by apply Array.ext<;>simp[h2];intro i hi _;match i,hi with|0,_=>rfl|1,_=>rfl|2,_=>rfl|3,_=>rfl⟩
 have I:=c1u x (r 0 (u2 d.E) f rfl rfl) Z9
 obtain⟨F,a,l,c,g⟩:=b79 x (r 1 (v6 d.C) C rfl rfl);obtain rfl:=a3G (r 2 (.bool d.A) c2 rfl rfl);refine(callsIn_wide (n:=6)).1 ((c2c Fence.wide 6 trivial trivial trivial rfl (U9 _) f C o d.A at_ d.E.length d.C.length d.E (λi=>d.C.getD i dz) a l c w g F I h t).mono λe W' A=>?_)
 obtain⟨v,rfl,B,R⟩:=A;refine⟨v,rfl,B,?_⟩
 have:v= .string ⟨(S1 d at_).toArray⟩:=by
  rcases R with⟨rfl,J⟩|⟨k,L,rfl,h1,h2⟩
  ·unfold S1;rw[jM J];rfl
  ·unfold S1;rw[jD (i:=d.C.length-1-k) h1 Z9 λj hj1 hj2=>?_]
   ·rfl
   ·have:=h2 (d.C.length-1-j) Z9
    rw[show d.C.length-1- (d.C.length-1-j)=j by omega] at this
    exact this
 rw[this];exact .str _
def P3(m:Nat)(p:Pend):Bool:= !V6 p.at_ 0 ((m:Int)-1)||decide ((p.d.length:Int)>160)
def G0(d:Dsk):Prop:=1<=d.E.length/\d.E.length<=100/\d.C.length<=500/\d.keep.length<=500/\(d.A=false->d.keep.length=0)/\(∀i,i<d.E.length->(d.E.getD i []).length<=160)/\
 ∀i,i<d.C.length->P3 d.E.length (d.C.getD i dz)=false
noncomputable instance(d:Dsk):Decidable (G0 d):=Classical.propDecidable _
def yU(d:Dsk):Bool:=decide (G0 d)
def kD(d:Dsk):yU d=true↔G0 d:=decide_eq_true_iff
def a1T{d:Dsk}(h:¬G0 d):false=yU d:=(tQ h).symm
def c2K(d:Dsk):Prop:=L9 d.E.length/\L9 d.C.length/\L9 d.keep.length
def c5v(d:Dsk):T:=.fn (.func 307) [.bref d.ts]
def a0U:Rl:=⟨Dsk×Pend,λx=>[.agg x.2.ts,.bref x.1.ts],λx=>.bool (P3 x.1.E.length x.2),λx=>L9 x.1.E.length⟩
def b2B:Con:=.rel a0U
def a8u:GK 307 b2B:=gk func307<|by
 rintro⟨d,p⟩ (h:d.E.length<1000000000000);refine U5 (gC tK gN) func307 Z3 (α:=m5 (d.E.length:Int)/\(!(decide (0<=p.at_)&&decide (p.at_<(d.E.length:Int)))||decide ((p.d.length:Int)>160))=P3 d.E.length p) ⟨⟨Z9,Z9⟩,?_⟩
 unfold P3 V6;rw[show decide (p.at_<(d.E.length:Int))=decide (p.at_<=(d.E.length:Int)-1) from decide_eq_decide.2 Z9]
def U0{ρ:Nat->Option Nat}(cs:List T):J7 ρ (.bref cs) (.bref cs):=⟨1,_,rfl,RLe.refl _⟩
def a0d:Rl:=⟨List Pend×Dsk,λx=>[v6 x.1,c5v x.2],λx=>Ji (S6 x.1.length λi=>P3 x.2.E.length (x.1.getD i dz)),λx=>L9 x.1.length/\L9 x.2.E.length⟩
def b4B:Con:=.rel a0d
def b3B(L:List Pend)(d:Dsk):Nat->Ann
 |0=>.one (V5 L.length λi=>P3 d.E.length (L.getD i dz)) (λx=>⟨[(0,v6 L),(1,c5v d),(7,Ji L.length),(8,Ji x.1)],[]⟩) (λx=>L.length-x.1) [] [] (λ_=>Z3)
 |_=>.none
def a7Y:GK 359 b4B:=gk func359<|by
 rintro⟨L,d⟩ ⟨f,hd⟩;have f:L.length<1000000000000:=f;refine U5 (gC a8u gN) func359 (b3B L d) (α:=let r:=(L.length:Int);let p:=(T.bref [T.sl 1 d.E.length (Z5 d.E),T.sl 2 d.C.length (Z1 d.C),T.bool d.A,T.sl 1 d.keep.length (Y9 d.keep)]);(∃(x:V5 L.length λ(i:Nat)=>P3 d.E.length (L.getD i dz)),((Z0 Z1 L L)/\(Fn.func 307=Fn.func 307/\J7 (λ(x:Nat)=>none) p p/\True)/\r=r/\0=(x.1:Int)/\True)/\True)/\∀(x:V5 L.length λ(i:Nat)=>P3 d.E.length (L.getD i dz)),let q:=(x.1:Int);let z:=(L.getD q.toNat dz);bd (q<r) (W9 q L.length/\∃(X:a0U.ι),(((z.at_=X.2.at_/\z.d=X.2.d/\True)/\(zJ d X.1)/\True)/\L9 X.1.E.length)/\br (P3 X.1.E.length X.2) (q=S6 L.length λ(i:Nat)=>P3 d.E.length (L.getD i dz)) (Ri (q+1)/\∃(y:V5 L.length λ(i:Nat)=>P3 d.E.length (L.getD i dz)),(((Z0 Z1 L L)/\(Fn.func 307=Fn.func 307/\J7 (λ(x:Nat)=>none) p p/\True)/\r=r/\q+1=(y.1:Int)/\True)/\True)/\Lt (L.length-y.1) (L.length-x.1))) ((-1:Int)=S6 L.length λ(i:Nat)=>P3 d.E.length (L.getD i dz))) ⟨⟨F4,⟨X7,⟨rfl,U0 _,Z6⟩,X7⟩,Z6⟩,λx=>⟨λC=>?_,λC=>?_⟩⟩
 ·have h:=Y2 C;refine⟨Y6 h,(d,L.getD x.1 dz),⟨X7,hd⟩,λhp=>(N9 h hp x.2.2).symm,λhp=>⟨W2 h Z9,x.succ h hp,⟨⟨X7,⟨rfl,U0 _,Z6⟩,rfl,I9,Z6⟩,Z6⟩,V5.ext_lt h⟩⟩
 ·have e:=Y0 C;exact(K2 λj J=>x.2.2 j (xY J e)).symm
def aU:Rl:=⟨List Pend×Dsk,λx=>[v6 x.1,c5v x.2],λx=>.bool (anyI x.1.length λi=>P3 x.2.E.length (x.1.getD i dz)),λx=>L9 x.1.length/\L9 x.2.E.length⟩
def b2o:Con:=.rel aU
def a6D:GK 306 b2o:=gk func306<|by
 rintro⟨L,d⟩ h;exact U5 (gC a7Y gN) func306 Z3 (α:=∃(x:a0d.ι),(((Z0 Z1 L x.1)/\(Fn.func 307=Fn.func 307/\(zJ d x.2)/\True)/\True)/\L9 x.1.length/\L9 x.2.E.length)/\decide ((S6 x.1.length λ(i:Nat)=>P3 x.2.E.length (x.1.getD i dz))≥(0:Int))=anyI L.length λ(i:Nat)=>P3 d.E.length (L.getD i dz)) ⟨(L,d),⟨⟨X7,⟨rfl,(eqD _),Z6⟩,Z6⟩,h⟩,C9 _ _⟩
def mK:Rl:=⟨Dsk,λd=>[.agg d.ts],λd=>.bool (yU d),c2K⟩
def b2p:Con:=.rel mK
def b3o:Con:=.rel mK
def dD(d:Dsk):Option Ob:=some (.arr true 1000000 4 1 λ_=>d.ts)
def b1q(d:Dsk):Nat->Ann
 |0=>.one (V5 d.E.length λi=>L3 false (d.E.getD i [])) (λx=>⟨[(1,.ref 0 0 0),(3,Ji d.E.length),(4,Ji x.1)],[dD d]⟩) (λx=>d.E.length-x.1) [.box 0] [.box 0] (λ_=>fun
  |1=>.one (V5 d.C.length λi=>P3 d.E.length (d.C.getD i dz)) (λy=>⟨[(1,.ref 0 0 0),(3,Ji d.E.length),(5,Ji y.1)],[dD d]⟩) (λy=>d.C.length-y.1) [.box 0] [.box 0] (λ_=>Z3)
  |_=>.none)
 |_=>.none
def b3Z:Con:=.rel oF
def a1L(d:Dsk)(at_:Nat):Type:={i:Nat//i<=d.C.length/\E8 d.C at_ d.C.length=E8 d.C at_ i}
def b1y(d:Dsk)(at_:Nat):Nat->Ann
 |0=>.one (a1L d at_) (λx=>⟨[(1,Ji at_),(2,.ref 0 0 0),(5,Ji ((x.1:Int)-1))],[dD d]⟩) (λx=>x.1) [.box 0] [.box 0] (λ_=>Z3)
 |_=>.none
def a7W:GK 226 b2p:=gk func226<|by
 rintro(d:Dsk) ⟨e,f,h3⟩;have e:d.E.length<1000000000000:=e;have f:d.C.length<1000000000000:=f;refine U5 (gC O1 (gC aJ (gC a6D gN))) func226 Z3 (α:=br (!V6 (d.E.length:Int) (1:Int) (100:Int)||decide ((d.C.length:Int)>500)||decide ((d.keep.length:Int)>500)|| !d.A&&decide ((d.keep.length:Int)>0)) (false=yU d) (∃(x:dJ.ι),(((Z0 Z5 d.E x.1)/\Value.func (Fn.func 305) #[] #[]=Value.func (Fn.func (match x.2 with|true=>361|false=>305)) #[] #[]/\True)/\L9 x.1.length)/\∃(X:aU.ι),((!anyI x.1.length λ(i:Nat)=>L3 x.2 (x.1.getD i []))=true->((Z0 Z1 d.C X.1)/\(Fn.func 307=Fn.func 307/\(zJ d X.2)/\True)/\True)/\L9 X.1.length/\L9 X.2.E.length)/\((!anyI x.1.length λ(i:Nat)=>L3 x.2 (x.1.getD i []))&& !anyI X.1.length λ(i:Nat)=>P3 X.2.E.length (X.1.getD i dz))=yU d)) ⟨λh=>a1T ?_,λh=>⟨(d.E,false),⟨X7,e⟩,(d.C,d),λ_=>⟨⟨X7,⟨rfl,(eqD _),Z6⟩,Z6⟩,f,e⟩,?_⟩⟩
 ·rintro⟨p1,p2,p3,p4,p5,_⟩;simp[V6] at h;cases ha:d.A with
  |true=>simp[ha] at h;omega
  |false=>simp[ha] at h;have:=p5 ha;omega
 ·simp[V6] at h;rw[Bool.eq_iff_iff,kD];show((!anyI d.E.length λi=>L3 false (d.E.getD i []))&& !anyI d.C.length λi=>P3 d.E.length (d.C.getD i dz))=true↔G0 d
  simp only[J5,vZ,P5];constructor
  ·rintro⟨q,Q⟩;exact⟨Z9,Z9,Z9,Z9,λha=>by have:=h.2 ha;simp[this],λi hi=>eV.1 (q i hi),Q⟩
  ·rintro⟨_,_,_,_,_,q,Q⟩;exact⟨λi hi=>eV.2 (q i hi),Q⟩
def a8Q:GK 157 b3o:=gk func157<|by
 rintro(d:Dsk) ⟨f,e,h3⟩;have f:d.E.length<1000000000000:=f;have e:d.C.length<1000000000000:=e;refine U5 (gC z9 gN) func157 (b1q d) (α:=let j:=(d.keep.length:Int);let v:=(false=yU d);let u:=(0=0/\0=0);let q:=(1=1/\1=1/\zJ d d);let p:=(d.E.length:Int);br (!V6 p (1:Int) (100:Int)||decide ((d.C.length:Int)>500)||decide (j>500)|| !d.A&&decide (j>0)) v ((∃(x:V5 d.E.length λ(i:Nat)=>L3 false (d.E.getD i [])),(u/\p=p/\0=(x.1:Int)/\True)/\q/\True)/\∀(x:V5 d.E.length λ(i:Nat)=>L3 false (d.E.getD i [])),let z:=(x.1:Int);bd (z<p) (W9 z d.E.length/\bd ((↑(d.E.getD z.toNat []).length:Int)>160) v (Ri (z+1)/\∃(y:V5 d.E.length λ(i:Nat)=>L3 false (d.E.getD i [])),((u/\p=p/\z+1=(y.1:Int)/\True)/\q/\True)/\Lt (d.E.length-y.1) (d.E.length-x.1))) ((∃(x:V5 d.C.length λ(i:Nat)=>P3 d.E.length (d.C.getD i dz)),(u/\p=p/\0=(x.1:Int)/\True)/\q/\True)/\∀(x:V5 d.C.length λ(i:Nat)=>P3 d.E.length (d.C.getD i dz)),let r:=(x.1:Int);let w:=(d.C.getD r.toNat dz);bd (r<(d.C.length:Int)) (W9 r d.C.length/\Ri (p-1)/\br (!V6 w.at_ (0:Int) (p-1)||decide ((↑w.d.length:Int)>160)) v (Ri (r+1)/\∃(y:V5 d.C.length λ(i:Nat)=>P3 d.E.length (d.C.getD i dz)),((u/\p=p/\r+1=(y.1:Int)/\True)/\q/\True)/\Lt (d.C.length-y.1) (d.C.length-x.1))) (true=yU d)))) ⟨λh=>a1T ?_,λh=>⟨⟨F4,X7⟩,λx=>⟨λhc=>?_,λhc=>⟨⟨F4,X7⟩,λy=>⟨λhd=>?_,λhd=>?_⟩⟩⟩⟩⟩
 ·rintro⟨p1,p2,p3,p4,p5,_⟩;simp[V6] at h;cases ha:d.A with
  |true=>simp[ha] at h;omega
  |false=>simp[ha] at h;have:=p5 ha;omega
 ·have hlt:=Y2 hc;refine⟨Y6 hlt,λhb=>a1T ?_,λhb=>⟨W2 hlt Z9,x.succ hlt hb,X7,V5.ext_lt hlt⟩⟩
  rintro⟨_,_,_,_,_,q,_⟩;have:=q x.1 hlt;rw[E3,o8] at hb;omega
 ·have hlt:=Y2 hd;refine⟨Y6 hlt,Z4 Z9,λhb=>a1T ?_,λhb=>⟨W2 hlt Z9,y.succ hlt hb,⟨⟨X7,rfl,I9,Z6⟩,X7⟩,V5.ext_lt hlt⟩⟩
  rintro⟨_,_,_,_,_,_,Q⟩;have:=Q y.1 hlt;rw[E3] at hb;unfold P3 at this;rw[hb] at this;cases this
 ·simp[V6] at h;have g:=Y0 hc;have j:=Y0 hd;refine((kD d).2 ⟨Z9,Z9,Z9,Z9,λha=>by have:=h.2 ha;simp[this],λi hi=>eV.1 (x.2.2 i (xY hi g)),λi hi=>y.2.2 i (xY hi j)⟩).symm
def dN:GK 129 b3Z:=gk func129<|by
 rintro⟨d,at_⟩ ⟨t,h⟩;simp only at t h;refine U5 gN func129 (b1y d at_) (α:=let z:=(1=1/\1=1/\zJ d d);let q:=(at_:Int);Ri ((d.C.length:Int)-1)/\(∃(x:a1L d at_),(q=q/\(0=0/\0=0)/\(d.C.length:Int)-1=(x.1:Int)-1/\True)/\z/\True)/\∀(x:a1L d at_),let p:=(x.1:Int);let r:=(d.C.getD (p-1).toNat dz);bd (p-1≥(0:Int)) (W9 (p-1) d.C.length/\br (r.at_==q) (W9 (p-1) d.C.length/\r.d=S1 d at_) (Ri (p-1-1)/\∃(y:a1L d at_),((q=q/\(0=0/\0=0)/\p-1-1=(y.1:Int)-1/\True)/\z/\True)/\Lt y.1 x.1)) (W9 q d.E.length/\d.E.getD q.toNat []=S1 d at_)) ⟨Z4 Z9,⟨⟨d.C.length,X7⟩,X7⟩,λx=>?_⟩
 obtain⟨i,hi,X⟩:=x;simp only;refine⟨λhc=>?_,λhc=>⟨⟨Z9,Z9⟩,?_⟩⟩
 ·have hpos:1<=i:=by have:=G7 hc;omega
  obtain⟨j,rfl⟩:∃j,i=j+1:=⟨i-1,Z9⟩
  rw[show(((j+1:Nat):Int)-1).toNat=j by omega]
  have hl:E8 d.C at_ (j+1)=if(d.C.getD j dz).at_=at_ then some (d.C.getD j dz).d else E8 d.C at_ j:=rfl
  refine⟨⟨Z9,Z9⟩,λhb=>⟨⟨Z9,Z9⟩,?_⟩,λhb=>⟨Z4 Z9,⟨j,Z9,?_⟩,⟨⟨S7,⟨S7,S7⟩,M0,Z6⟩,⟨S7,S7,⟨S7,X6 _ _⟩,⟨S7,X6 _ _⟩,S7,⟨S7,X6 _ _⟩,Z6⟩,Z6⟩,nC⟩⟩
  ·rw[if_pos jH] at hl
   unfold S1;rw[X,hl];rfl
  ·rw[if_neg jH] at hl
   rw[X,hl]
 ·have h0:i=0:=by have:=r9 hc;omega
  subst h0;unfold S1;rw[X];rfl
structure Frm where
 no:Int
 pg:Pg
 D:Bool
 first:Int
 deriving Inhabited
def Frm.ts(f:Frm):List T:=[Ji f.no,Ji f.pg.Q,u2 f.pg.sl,.bool f.D,Ji f.first]
structure Sto where
 d:Dsk
 ep:Int
 L:List Rec
 S:Int
 fr:List Frm
 J:Int
 deriving Inhabited
def V9(L:List Frm)(i:Nat):List T:=(L.getD i dz).ts
def uC(L:List Frm):T:=.sl 5 L.length (V9 L)
def Sto.ts(s:Sto):List T:=[u2 s.d.E,v6 s.d.C,.bool s.d.A,sN s.d.keep,Ji s.ep,zE s.L,Ji s.S,uC s.fr,Ji s.J]
abbrev yS(a b:Sto):Prop:=(a.d.E.length=b.d.E.length/\Z7 a.d.E.length (Z5 a.d.E) (Z5 b.d.E))/\(a.d.C.length=b.d.C.length/\Z7 a.d.C.length (Z1 a.d.C) (Z1 b.d.C))/\a.d.A=b.d.A/\(a.d.keep.length=b.d.keep.length/\Z7 a.d.keep.length (Y9 a.d.keep) (Y9 b.d.keep))/\a.ep=b.ep/\(a.L.length=b.L.length/\Z7 a.L.length (Y1 a.L) (Y1 b.L))/\a.S=b.S/\(a.fr.length=b.fr.length/\Z7 a.fr.length (V9 a.fr) (V9 b.fr))/\a.J=b.J/\True
def jR(s:Sto):yS s s:=X7
def fH(s:Sto):Option Ob:=some (.arr true 1000000 9 1 λ_=>s.ts)
def P7(d:Dsk)(no:Nat):Pg×Bool:=if S1 d (1+no)=[] then(⟨0,[[],[],[],[]]⟩,true) else E5 no (S1 d (1+no))
def T1(d:Dsk)(no:Nat):Pg×Bool:=if S1 d (1+no)=[] then(⟨0,[[],[],[],[]]⟩,true) else(P2 no (S1 d (1+no)),(E5 no (S1 d (1+no))).2)
def eN(d:Dsk)(no:Nat):(T1 d no).2=(P7 d no).2/\((P7 d no).2=true->T1 d no=P7 d no):=by
 unfold T1 P7;by_cases h:S1 d (1+no)=[]
 ·rw[if_pos h,if_pos h];exact⟨rfl,λ_=>rfl⟩
 ·rw[if_neg h,if_neg h];refine⟨rfl,λh2=>?_⟩
  unfold P2;rw[if_pos h2]
def a09(x:Dsk×Nat):Prop:=G0 x.1/\1+x.2<x.1.E.length
def lW{d:Dsk}(h:G0 d){at_:Nat}(A:at_<d.E.length):(S1 d at_).length<=160:=by
 obtain⟨_,_,_,_,_,e,h2⟩:=h;have key:∀n,n<=d.C.length->∀l,E8 d.C at_ n=some l->l.length<=160:=by
  intro n;induction n with
  |zero=>intro _ l hl;cases hl
  |succ n i=>
   intro N l hl;unfold E8 at hl;split at hl
   ·simp only[X0] at hl;subst hl;have:=h2 n Z9
    unfold P3 at this;simp only[wS,uH] at this;omega
   ·exact i Z9 l hl
 unfold S1;cases hl:E8 d.C at_ d.C.length with
 |none=>exact e at_ A
 |some l=>exact key _ (U9 _) l hl
def cE:Rl:=⟨Sto×Nat,λx=>[.bref x.1.ts,Ji x.2],λx=>.tup [.agg (T1 x.1.d x.2).1.ts,.bool (T1 x.1.d x.2).2],λx=>a09 (x.1.d,x.2)⟩
def a6P:Con:=.rel cE
def a0R:Rl:=⟨Dsk×Nat,λx=>[.agg x.1.ts,Ji x.2],λx=>.tup [.agg (P7 x.1 x.2).1.ts,.bool (P7 x.1 x.2).2],a09⟩
def b3q:Con:=.rel a0R
def a0x(d:Dsk)(no:Nat)(h:
let p:=(P7 d no);  Ri (1+(no:Int))/\∃(x:oF.ι),(((zJ d x.1)/\1+(no:Int)=(x.2:Int)/\True)/\AtB x)/\br (S1 x.1 x.2==[]) (∃(x:rC.ι),(True/\True)/\(0=p.1.Q/\(4=p.1.sl.length/\Z7 4 (Z5 [[],[],[],[]]) (Z5 p.1.sl))/\True)/\true=p.2/\True) (∃(X:aQ.ι),let q:=(E5 X.1 X.2);(((no:Int)=X.1/\S1 x.1 x.2=X.2/\True)/\RdB X.2)/\(q.1.Q=p.1.Q/\(Z0 Z5 q.1.sl p.1.sl)/\True)/\q.2=p.2/\True)):
  V4 prog 161 [.agg d.ts,Ji no] (.tup [.agg (P7 d no).1.ts,.bool (P7 d no).2]):=
 U5 (gC dN (gC a3X (gC a8s gN))) func161 Z3 h
def kZ(L:List Frm)(no:Int)(i:Nat):Bool:=(L.getD i dz).no==no
def frAt(L:List Frm)(no:Int):Int:=S6 L.length (kZ L no)
def noF(no:Int):T:=.fn (.func 271) [.bref [Ji no]]
def gH:Rl:=⟨Frm×Int,λx=>[.agg x.1.ts,.bref [Ji x.2]],λx=>.bool (x.1.no==x.2),λ_=>True⟩
def a6J:Con:=.rel gH
def a6u(f:Frm)(no:Int)(h:
  (f.no==no)=(f.no==no)):
  V4 prog 271 [.agg f.ts,.bref [Ji no]] (.bool (f.no==no)):=
 U5 gN func271 Z3 h
def a3L:GK 271 a6J:=gk func271<|λx _=>a6u x.1 x.2 rfl
def a5A:Rl:=⟨List Frm×Int,λx=>[uC x.1,noF x.2],λx=>Ji (frAt x.1 x.2),λx=>L9 x.1.length⟩
def b53:Con:=.rel a5A
def b8x(L:List Frm)(no:Int):Nat->Ann
 |0=>.one (V5 L.length (kZ L no)) (λx=>⟨[(0,uC L),(1,noF no),(7,Ji L.length),(8,Ji x.1)],[]⟩) (λx=>L.length-x.1) [] [] (λ_=>Z3)
 |_=>.none
def b4t:GK 270 b53:=gk func270<|by
 rintro⟨L,no⟩ (hL:L.length<1000000000000);refine U5 (gC a3L gN) func270 (b8x L no) (α:=let r:=(L.length:Int);let q:=(T.bref [Ji no]);(∃(x:V5 L.length (kZ L no)),((Z0 V9 L L)/\(Fn.func 271=Fn.func 271/\J7 (λ(x:Nat)=>none) q q/\True)/\r=r/\0=(x.1:Int)/\True)/\True)/\∀(x:V5 L.length (kZ L no)),let z:=(x.1:Int);let p:=(L.getD z.toNat dz);bd (z<r) (W9 z L.length/\∃(X:gH.ι),(((p.no=X.1.no/\p.pg.Q=X.1.pg.Q/\(Z0 Z5 p.pg.sl X.1.pg.sl)/\p.D=X.1.D/\p.first=X.1.first/\True)/\(no=X.2/\True)/\True)/\True)/\br (X.1.no==X.2) (z=frAt L no) (Ri (z+1)/\∃(y:V5 L.length (kZ L no)),(((Z0 V9 L L)/\(Fn.func 271=Fn.func 271/\J7 (λ(x:Nat)=>none) q q/\True)/\r=r/\z+1=(y.1:Int)/\True)/\True)/\Lt (L.length-y.1) (L.length-x.1))) ((-1:Int)=frAt L no)) ⟨⟨F4,⟨X7,⟨rfl,U0 _,Z6⟩,X7⟩,Z6⟩,λx=>⟨λC=>?_,λC=>?_⟩⟩
 ·have h:=Y2 C;refine⟨Y6 h,(L.getD x.1 dz,no),X7,λhp=>(N9 h hp x.2.2).symm,λhp=>⟨W2 h Z9,x.succ h hp,⟨⟨X7,⟨rfl,U0 _,Z6⟩,rfl,I9,Z6⟩,Z6⟩,V5.ext_lt h⟩⟩
 ·have e:=Y0 C;exact(K2 λj J=>x.2.2 j (xY J e)).symm
def qQ:Rl:=⟨Sto×Int,λx=>[.bref x.1.ts,Ji x.2],λx=>Ji (frAt x.1.fr x.2),λx=>L9 x.1.fr.length⟩
def b4Y:Con:=.rel qQ
def pG:Rl:=⟨Sto×Int,λx=>[.agg x.1.ts,Ji x.2],λx=>Ji (frAt x.1.fr x.2),λx=>L9 x.1.fr.length⟩
def a6a:Con:=.rel pG
def a6x(s:Sto)(no:Int):Nat->Ann
 |0=>.one (V5 s.fr.length (kZ s.fr no)) (λx=>⟨[(1,Ji no),(2,.ref 0 0 0),(5,Ji x.1)],[fH s]⟩) (λx=>s.fr.length-x.1) [.box 0] [.box 0] (λ_=>Z3)
 |_=>.none
def pC:GK 185 b4Y:=gk func185<|by
 rintro⟨s,no⟩ h;exact U5 (gC b4t gN) func185 Z3 (α:=∃(x:a5A.ι),(((Z0 V9 s.fr x.1)/\(Fn.func 271=Fn.func 271/\(no=x.2/\True)/\True)/\True)/\L9 x.1.length)/\frAt x.1 x.2=frAt s.fr no) ⟨(s.fr,no),⟨X7,h⟩,rfl⟩
def jW:GK 160 a6a:=gk func160<|by
 rintro⟨s,no⟩ (hL:s.fr.length<1000000000000);refine U5 gN func160 (a6x s no) (α:=let q:=(1=1/\1=1/\yS s s);(∃(x:V5 s.fr.length (kZ s.fr no)),(no=no/\(0=0/\0=0)/\0=(x.1:Int)/\True)/\q/\True)/\∀(x:V5 s.fr.length (kZ s.fr no)),let p:=(x.1:Int);bd (p<(s.fr.length:Int)) (W9 p s.fr.length/\br ((s.fr.getD p.toNat dz).no==no) (p=frAt s.fr no) (Ri (p+1)/\∃(y:V5 s.fr.length (kZ s.fr no)),((no=no/\(0=0/\0=0)/\p+1=(y.1:Int)/\True)/\q/\True)/\Lt (s.fr.length-y.1) (s.fr.length-x.1))) ((-1:Int)=frAt s.fr no)) ⟨⟨F4,X7⟩,λx=>⟨λC=>?_,λC=>?_⟩⟩
 ·have h:=Y2 C;exact⟨Y6 h,λhp=>(N9 h hp x.2.2).symm,λhp=>⟨W2 h Z9,x.succ h hp,⟨⟨rfl,X7,I9,Z6⟩,X7⟩,V5.ext_lt h⟩⟩
 ·have e:=Y0 C;exact(K2 λj J=>x.2.2 j (xY J e)).symm
def a0F(no:Int)(t:Bz):(I3 no t==(0:Int))=(E5 no t).2:=by
 unfold I3;cases hu:S0 t
 ·have:(E5 no t).2=false:=by unfold E5;rw[hu];rfl
  rw[this];rfl
 ·cases h:(E5 no t).2<;>rfl
def a4k:GK 187 a6P:=gk func187<|by
 rintro⟨s,no⟩ ⟨hd,n⟩;simp only at hd n;have f:=lW hd n;obtain⟨q,g,Q,_⟩:=hd;refine U5 (gC dM (gC a4d (gC a3W gN))) func187 Z3 (α:=let p:=(T1 s.d no);Ri (1+(no:Int))/\∃(x:oF.ι),(((zJ s.d x.1)/\1+(no:Int)=(x.2:Int)/\True)/\AtB x)/\br (S1 x.1 x.2==[]) (∃(x:rC.ι),(True/\True)/\(0=p.1.Q/\(4=p.1.sl.length/\Z7 4 (Z5 [[],[],[],[]]) (Z5 p.1.sl))/\True)/\true=p.2/\True) (Lt (S1 x.1 x.2).length 140737488355329/\∃(X:fL.ι),(((no:Int)=X.1/\S1 x.1 x.2=X.2/\True)/\RdB X.2)/\((P2 X.1 X.2).Q=p.1.Q/\(Z0 Z5 (P2 X.1 X.2).sl p.1.sl)/\True)/\(I3 X.1 X.2==0)=p.2/\True)) ⟨Z4 Z9,(s.d,1+no),⟨⟨(eqD _),M0,Z6⟩,n,M0⟩,λh=>⟨(),X7,?_⟩,λh=>⟨nC,((no:Int),S1 s.d (1+no)),⟨X7,by show(S1 s.d (1+no)).length<=1000;omega⟩,?_⟩⟩
 ·have h:S1 s.d (1+no)=[]:=by simpa using h
  have e:T1 s.d no=(⟨0,[[],[],[],[]]⟩,true):=by unfold T1;rw[if_pos h]
  rw[e];exact X7
 ·have h:S1 s.d (1+no)≠[]:=by simpa using h
  have e:T1 s.d no=(P2 no (S1 s.d (1+no)),(E5 no (S1 s.d (1+no))).2):=by unfold T1;rw[if_neg h]
  rw[e];exact⟨X7,a0F _ _,Z6⟩
def a68:GK 161 b3q:=gk func161<|by
 rintro⟨d,no⟩ ⟨hd,n⟩;simp only at hd n;have f:=lW hd n;obtain⟨q,g,Q,_⟩:=hd;refine a0x d no ⟨Z4 Z9,(d,1+no),⟨⟨(eqD _),M0,Z6⟩,n,M0⟩,λh=>⟨(),X7,?_⟩,λh=>⟨((no:Int),S1 d (1+no)),⟨X7,by show(S1 d (1+no)).length<=1000;omega⟩,?_⟩⟩
 ·have h:S1 d (1+no)=[]:=by simpa using h
  have e:P7 d no=(⟨0,[[],[],[],[]]⟩,true):=by unfold P7;rw[if_pos h]
  rw[e];exact X7
 ·have h:S1 d (1+no)≠[]:=by simpa using h
  have e:P7 d no=E5 no (S1 d (1+no)):=by unfold P7;rw[if_neg h]
  rw[e];exact X7
def yZ(s:Sto)(i:Nat):Bool:=
 !V6 (s.fr.getD i dz).no 0 7||frAt s.fr (s.fr.getD i dz).no !=(i:Int)|| !k4 (s.fr.getD i dz).pg||decide ((s.fr.getD i dz).pg.Q>(s.L.length:Int))|| !V6 (s.fr.getD i dz).first 0 s.L.length||
  decide ((s.fr.getD i dz).first>0) !=(s.fr.getD i dz).D
def zD(s:Sto):Bool:= !anyI s.fr.length (yZ s)&&decide ((s.fr.length:Int)<=3)
def FrB(L:List Frm):Prop:=L9 L.length/\∀i,i<L.length->PgB (L.getD i dz).pg
def c9t(s:Sto):Prop:=FrB s.fr/\L9 s.L.length
def dK:Rl:=⟨Sto,λs=>[.bref s.ts],λs=>.bool (zD s),c9t⟩
def a7G:Con:=.rel dK
def a7I(s:Sto):Nat->Ann
 |0=>.one (V5 s.fr.length (yZ s)) (λx=>⟨[(0,.bref s.ts),(8,uC s.fr),(9,Ji s.fr.length),(10,Ji x.1)],[]⟩) (λx=>s.fr.length-x.1) [] [] (λ_=>Z3)
 |_=>.none
def c7w(n:Int):(decide (0<=n)&&decide (n<8))=V6 n 0 7:=by
 unfold V6;rw[show decide (n<8)=decide (n<=7) from decide_eq_decide.2 Z9]
def a4S:GK 228 a7G:=gk func228<|by
 rintro(s:Sto) ⟨⟨f,h2⟩,g⟩;have f:s.fr.length<1000000000000:=f;have g:s.L.length<1000000000000:=g;refine U5 (gC tK (gC pC (gC pF (gC O1 gN)))) func228 (a7I s) (α:=let u:=(T.bref s.ts);let q:=(s.fr.length:Int);(∃(x:V5 s.fr.length (yZ s)),(J7 (λ(x:Nat)=>none) u u/\(Z0 V9 s.fr s.fr)/\q=q/\0=(x.1:Int)/\True)/\True)/\∀(x:V5 s.fr.length (yZ s)),let z:=(x.1:Int);let p:=(s.fr.getD z.toNat dz);let r:=(decide (0<=p.no)&&decide (p.no<8));bd (z<q) (W9 z s.fr.length/\m5 (8:Int)/\∃(X:qQ.ι),((! r)=false->((yS s X.1)/\p.no=X.2/\True)/\L9 X.1.fr.length)/\∃(d:xB.ι),((! r||frAt X.1.fr X.2 !=z)=false->((p.pg.Q=d.Q/\(Z0 Z5 p.pg.sl d.sl)/\True)/\True)/\PgB d)/\br (! r||frAt X.1.fr X.2 !=z|| !k4 d||decide (p.pg.Q>(s.L.length:Int))|| !V6 p.first (0:Int) (s.L.length:Int)|| !decide (p.first>0)==p.D) (false=zD s) (Ri (z+1)/\∃(y:V5 s.fr.length (yZ s)),((J7 (λ(x:Nat)=>none) u u/\(Z0 V9 s.fr s.fr)/\q=q/\z+1=(y.1:Int)/\True)/\True)/\Lt (s.fr.length-y.1) (s.fr.length-x.1))) (decide (q<=3)=zD s)) ⟨⟨F4,⟨U0 _,X7⟩,Z6⟩,λx=>⟨λhc=>?_,λhc=>?_⟩⟩
 ·have h:=Y2 hc;rw[c7w,E3];have e:(!V6 (s.fr.getD x.1 dz).no 0 7||frAt s.fr (s.fr.getD x.1 dz).no !=(x.1:Int)|| !k4 (s.fr.getD x.1 dz).pg||decide ((s.fr.getD x.1 dz).pg.Q>(s.L.length:Int))||
    !V6 (s.fr.getD x.1 dz).first 0 s.L.length|| !decide ((s.fr.getD x.1 dz).first>0)==(s.fr.getD x.1 dz).D)=yZ s x.1:=rfl
  refine⟨Y6 h,⟨Z9,Z9⟩,(s,(s.fr.getD x.1 dz).no),λ_=>⟨⟨(jR _),X7⟩,f⟩,(s.fr.getD x.1 dz).pg,λ_=>⟨X7,h2 _ h⟩,λB=>?_,λB=>⟨W2 h Z9,x.succ h (e.symm.trans B),⟨⟨U0 _,X7,rfl,I9,Z6⟩,Z6⟩,V5.ext_lt h⟩⟩
  have:anyI s.fr.length (yZ s)=true:=R9.2 ⟨x.1,h,e.symm.trans B⟩;unfold zD;rw[this];rfl
 ·have hge:=Y0 hc;have:anyI s.fr.length (yZ s)=false:=P5.2 λi hi=>x.2.2 i (xY hi hge)
  unfold zD;rw[this];simp
def yT(L:List Rec)(i:Nat):Int:=if i=0 then 1 else(L.getD (i-1) dz).e
def vA(s:Sto)(i:Nat):Bool:= !V6 (s.L.getD i dz).e (yT s.L i) s.ep
def zX(s:Sto)(no:Nat):Bool:= !(P7 s.d no).2||decide ((P7 s.d no).1.Q>s.S)
def oC(s:Sto):Bool:= !yU s.d||((s.d.E.length:Nat):Int) !=69|| !V6 s.ep 1 60||decide ((s.L.length:Int)>60)
def F7(s:Sto):Bool:= !(oC s|| !yW s.L|| !V6 s.S 0 s.L.length)&& !anyI s.L.length (vA s)&& !anyI 8 (zX s)&&zD s&&V6 s.J 0 2
def b26(s:Sto):Prop:=c2K s.d/\c2X s.L/\FrB s.fr/\∀r ∈ s.L,L9 r.a.length
def qF:Rl:=⟨Sto,λs=>[.agg s.ts],λs=>.bool (F7 s),b26⟩
def a7P:Con:=.rel qF
def a6c:Con:=.rel qF
def a6i(s:Sto):Nat->Ann
 |0=>.onef [1,3,48,49,50] (V5 s.L.length (vA s)) (λx=>⟨[(1,.bref s.ts),(3,Ji (yT s.L x.1)),(48,zE s.L),(49,Ji s.L.length),(50,Ji x.1)],[]⟩) (λx=>s.L.length-x.1) [] (λ_=>fun
  |1=>.one (V5 8 (zX s)) (λx=>⟨[(1,.bref s.ts),(64,Ji x.1)],[]⟩) (λx=>8-x.1) [] [] (λ_=>Z3)
  |_=>.none)
 |_=>.none
def tF(s:Sto)(i:Nat):Bool:= !O9 (s.L.getD i dz)||(s.L.getD i dz).l !=(i:Int)+1||decide ((s.L.getD i dz).e>s.ep)||(decide ((i:Int)>0)&&decide ((s.L.getD (i-1) dz).e>(s.L.getD i dz).e))
def wG(s:Sto)(i:Nat):Bool:=
 !V6 (s.fr.getD i dz).no 0 7|| !k4 (s.fr.getD i dz).pg||decide ((s.fr.getD i dz).pg.Q>(s.L.length:Int))|| !V6 (s.fr.getD i dz).first 0 s.L.length||
  (s.fr.getD i dz).D !=decide ((s.fr.getD i dz).first>0)||frAt s.fr (s.fr.getD i dz).no !=(i:Int)
def a6w(s:Sto):Nat->Ann
 |0=>.one (V5 s.L.length (tF s)) (λx=>⟨[(1,.ref 0 0 0),(3,Ji x.1)],[fH s]⟩) (λx=>s.L.length-x.1) [.box 0] [.box 0] (λ_=>fun
  |1=>.one (V5 s.fr.length (wG s)) (λx=>⟨[(1,.ref 0 0 0),(5,Ji x.1)],[fH s]⟩) (λx=>s.fr.length-x.1) [.box 0] [.box 0] (λ_=>fun
   |2=>.one (V5 8 (zX s)) (λx=>⟨[(1,.ref 0 0 0),(7,Ji x.1)],[fH s]⟩) (λx=>8-x.1) [.box 0] [.box 0] (λ_=>Z3)
   |_=>.none)
  |_=>.none)
 |_=>.none
def G4(s:Sto):F7 s=true↔(oC s=false/\yW s.L=true/\V6 s.S 0 s.L.length=true)/\(∀i,i<s.L.length->vA s i=false)/\(∀i,i<8->zX s i=false)/\zD s=true/\V6 s.J 0 2=true:=by
 unfold F7;simp only[J5,vZ,wS,wU,P5];exact⟨λh=>⟨⟨h.1.1.1.1.1.1,h.1.1.1.1.1.2,h.1.1.1.1.2⟩,h.1.1.1.2,h.1.1.2,h.1.2,h.2⟩,λh=>⟨⟨⟨⟨⟨⟨h.1.1,h.1.2.1⟩,h.1.2.2⟩,h.2.1⟩,h.2.2.1⟩,h.2.2.2.1⟩,h.2.2.2.2⟩⟩
def nY{s:Sto}(h:¬F7 s=true):false=F7 s:=(Bool.eq_false_iff.2 h).symm
def o5(s:Sto):oC s=false↔G0 s.d/\s.d.E.length=69/\1<=s.ep/\s.ep<=60/\s.L.length<=60:=by
 unfold oC;simp only[wS,wU,kD,bne_eq_false_iff_eq,V6,J5,o8,uH];constructor
 ·rintro⟨⟨⟨h,i⟩,e,f⟩,g⟩;exact⟨h,Z9,e,f,Z9⟩
 ·rintro⟨h,i,e,f,g⟩;exact⟨⟨⟨h,Z9⟩,e,f⟩,Z9⟩
def b0X(s:Sto)(no:Nat):(!(T1 s.d no).2||decide ((T1 s.d no).1.Q>s.S))=zX s no:=by
 unfold zX;obtain⟨e,f⟩:=eN s.d no;cases h:(P7 s.d no).2
 ·rw[e,h];rfl
 ·rw[f h,h]
def c5O(n:Int):(decide (0<=n)&&decide (n<3))=V6 n 0 2:=by
 unfold V6;rw[show decide (n<3)=decide (n<=2) from decide_eq_decide.2 Z9]
def b21(L:List Rec)(i:Nat):yT L (i+1)=(L.getD i dz).e:=by unfold yT;rw[if_neg Z9];rfl
def a3x:GK 139 a7P:=gk func139<|by
 rintro(s:Sto) ⟨hd,hl,hf,hm⟩;have j:(!yU s.d||(s.d.E.length:Int) !=69|| !V6 s.ep 1 60||decide ((s.L.length:Int)>60)|| !yW s.L|| !V6 s.S 0 s.L.length)=(oC s|| !yW s.L|| !V6 s.S 0 s.L.length):=rfl;refine U5 (gC a7W (gC O1 (gC aX (gC a4k (gC a4S (gC tK gN)))))) func139 (a6i s) (α:=let w:=(s.d.E.length:Int);let v:=(false=F7 s);let q:=(T.bref s.ts);let p:=(s.L.length:Int);∃(x:mK.ι),(((zJ s.d x)/\True)/\c2K x)/\∃(f:lU.ι),((!yU x||w !=69|| !V6 s.ep (1:Int) (60:Int)||decide (p>60))=false->((Z0 Y1 s.L f)/\True)/\c2X f)/\br (!yU x||w !=69|| !V6 s.ep (1:Int) (60:Int)||decide (p>60)|| !yW f|| !V6 s.S (0:Int) p) v ((∃(x:V5 s.L.length (vA s)),(J7 (λ(x:Nat)=>none) q q/\1=yT s.L x.1/\(Z0 Y1 s.L s.L)/\p=p/\0=(x.1:Int)/\True)/\True)/\∀(x:V5 s.L.length (vA s)),let r:=(x.1:Int);let u:=(s.L.getD r.toNat dz).e;bd (r<p) (W9 r s.L.length/\br (!V6 u (yT s.L x.1) s.ep) v (Ri (r+1)/\∃(y:V5 s.L.length (vA s)),((J7 (λ(x:Nat)=>none) q q/\u=yT s.L y.1/\(Z0 Y1 s.L s.L)/\p=p/\r+1=(y.1:Int)/\True)/\True)/\Lt (s.L.length-y.1) (s.L.length-x.1))) ((∃(x:V5 8 (zX s)),(J7 (λ(x:Nat)=>none) q q/\0=(x.1:Int)/\True)/\True)/\∀(x:V5 8 (zX s)),let z:=(x.1:Int);bd (z<8) (∃(X:cE.ι),(((yS s X.1)/\z=(X.2:Int)/\True)/\a09 (X.1.d,X.2))/\br (!(T1 X.1.d X.2).2||decide ((T1 X.1.d X.2).1.Q>s.S)) v (Ri (z+1)/\∃(y:V5 8 (zX s)),((J7 (λ(x:Nat)=>none) q q/\z+1=(y.1:Int)/\True)/\True)/\Lt (8-y.1) (8-x.1))) (∃(x:dK.ι),(((yS s x)/\True)/\c9t x)/\(zD x=true->m5 (3:Int))/\(zD x&&(decide (0<=s.J)&&decide (s.J<3)))=F7 s)))) ⟨s.d,⟨⟨(eqD _),Z6⟩,hd⟩,s.L,λ_=>⟨X7,hl⟩,λhb=>nY ?_,λhb=>?_⟩
 ·rw[G4];rintro⟨⟨g,l,n⟩,_⟩;rw[j,g,l,n] at hb;cases hb
 rw[j] at hb;simp only[wS,wU] at hb;obtain⟨⟨B,b2⟩,o⟩:=hb;obtain⟨C,c2,q,t,r⟩:=(o5 s).1 B;refine⟨⟨F4,⟨U0 _,X7⟩,Z6⟩,λx=>⟨λhc=>?_,λhc=>⟨⟨F4,⟨U0 _,X7⟩,Z6⟩,λy=>⟨λhy=>?_,λhy=>?_⟩⟩⟩⟩
 ·have hlt:=Y2 hc;refine⟨Y6 hlt,λhb=>nY ?_,λhb=>⟨W2 hlt Z9,x.succ hlt hb,⟨⟨U0 _,(b21 _ _).symm,X7,rfl,I9,Z6⟩,Z6⟩,V5.ext_lt hlt⟩⟩
  rw[G4];rintro⟨_,g,_⟩;have:=g x.1 hlt;unfold vA at this;rw[E3,this] at hb;cases hb
 ·have hlt:y.1<8:=by have:=G7 hy;omega
  refine⟨(s,y.1),⟨⟨(jR _),X7⟩,C,M0⟩,λhb=>nY ?_,λhb=>⟨Z4 Z9,y.succ hlt ((b0X s y.1).symm.trans hb),⟨⟨U0 _,I9,Z6⟩,Z6⟩,V5.ext_lt hlt⟩⟩
  rw[G4];rintro⟨_,_,g,_⟩;have:=g y.1 hlt;rw[←b0X] at this;have hb:(!(T1 s.d y.1).2||decide ((T1 s.d y.1).1.Q>s.S))=true:=hb;rw[this] at hb;cases hb
 ·have g1:=Y0 hc;have g2:8<=y.1:=by have:=r9 hy;omega
  refine⟨s,⟨⟨(jR _),Z6⟩,hf,hl.1⟩,λ_=>⟨Z9,Z9⟩,?_⟩
  rw[c5O,Bool.eq_iff_iff,G4];simp only[J5];exact⟨λh=>⟨⟨B,b2,o⟩,λi hi=>x.2.2 i (xY hi g1),λi hi=>y.2.2 i (xY hi g2),h⟩,λh=>h.2.2.2⟩
def b9V(s:Sto)(i:Nat):wG s i=yZ s i:=by
 unfold wG yZ;generalize V6 (s.fr.getD i dz).no 0 7=a;generalize k4 (s.fr.getD i dz).pg=b;generalize decide ((s.fr.getD i dz).pg.Q>(s.L.length:Int))=c;generalize V6 (s.fr.getD i dz).first 0 s.L.length=d
 generalize (s.fr.getD i dz).D=e;generalize decide ((s.fr.getD i dz).first>0)=f
 generalize (frAt s.fr (s.fr.getD i dz).no !=(i:Int))=g;cases a<;>cases b<;>cases c<;>cases d<;>cases e<;>cases f<;>cases g<;>rfl
def b7D(s:Sto):(∀i,i<s.L.length->tF s i=false)↔yW s.L=true/\∀i,i<s.L.length->vA s i=false:=by
 rw[C4];have key:∀i,tF s i=false↔(O9 (s.L.getD i dz)=true/\(s.L.getD i dz).l=(i:Int)+1)/\(s.L.getD i dz).e<=s.ep/\(0<i->(s.L.getD (i-1) dz).e<=(s.L.getD i dz).e):=by
  intro i;unfold tF;simp only[wS,wU,bne_eq_false_iff_eq,uH,Bool.and_eq_false_iff];constructor
  ·rintro⟨⟨⟨h1,h2⟩,h3⟩,h4⟩;exact⟨⟨h1,h2⟩,Z9,λhi=>by rcases h4 with h4|h4<;>omega⟩
  ·rintro⟨⟨h1,h2⟩,h3,h4⟩;refine⟨⟨⟨h1,h2⟩,Z9⟩,?_⟩
   by_cases hi:0<i
   ·exact .inr (by have:=h4 hi;omega)
   ·exact .inl Z9
 have d:∀i,vA s i=false↔yT s.L i<=(s.L.getD i dz).e/\(s.L.getD i dz).e<=s.ep:=by
  intro i;unfold vA V6;simp only[wU,J5,o8]
 simp only[key,d];constructor
 ·intro h;refine⟨λi hi=>(h i hi).1,λi hi=>⟨?_,(h i hi).2.1⟩⟩
  by_cases h0:i=0
  ·subst h0;have:=((Q4 _).1 (h 0 hi).1.1).1;exact this
  ·unfold yT;rw[if_neg h0];exact(h i hi).2.2 Z9
 ·rintro⟨h1,h2⟩ i hi;refine⟨h1 i hi,(h2 i hi).2,λh0=>?_⟩
  have:=(h2 i hi).1;unfold yT at this;rw[if_neg Z9] at this
  exact this
def a3k:GK 72 a6c:=gk func72<|by
 rintro(s:Sto) ⟨hd,hl,hf,hm⟩;have R:s.fr.length<1000000000000:=hf.1;have B:(!yU s.d||(s.d.E.length:Int) !=69|| !V6 s.ep 1 60||decide ((s.L.length:Int)>60)|| !V6 s.S 0 s.L.length||decide ((s.fr.length:Int)>3)|| !V6 s.J 0 2)=(oC s|| !V6 s.S 0 s.L.length||decide ((s.fr.length:Int)>3)|| !V6 s.J 0 2):=rfl;have sp:F7 s=true↔(oC s|| !V6 s.S 0 s.L.length||decide ((s.fr.length:Int)>3)|| !V6 s.J 0 2)=false/\(∀i,i<s.L.length->tF s i=false)/\(∀i,i<s.fr.length->wG s i=false)/\∀i,i<8->zX s i=false:=by
  rw[G4,b7D];simp only[wS,wU,b9V,uH];unfold zD;simp only[J5,vZ,P5,o8];constructor
  ·rintro⟨⟨h1,o,v⟩,q,r,⟨A,C⟩,u⟩;exact⟨⟨⟨⟨h1,v⟩,Z9⟩,u⟩,⟨o,q⟩,A,r⟩
  ·rintro⟨⟨⟨⟨h1,v⟩,C⟩,u⟩,⟨o,q⟩,A,r⟩;exact⟨⟨h1,o,v⟩,q,r,⟨A,Z9⟩,u⟩
 refine U5 (gC a8Q (gC z9 (gC lS (gC eY (gC jW (gC a68 gN)))))) func72 (a6w s) (α:=let i:=(false=F7 s);let m:=(0=0/\0=0);let w:=(1=1/\1=1/\yS s s);let v:=(s.L.length:Int);∃(x:mK.ι),(((zJ s.d x)/\True)/\c2K x)/\br (!yU x||(s.d.E.length:Int) !=69|| !V6 s.ep (1:Int) (60:Int)||decide (v>60)|| !V6 s.S (0:Int) v||decide ((s.fr.length:Int)>3)|| !V6 s.J (0:Int) (2:Int)) i ((∃(x:V5 s.L.length (tF s)),(m/\0=(x.1:Int)/\True)/\w/\True)/\∀(x:V5 s.L.length (tF s)),let u:=(x.1:Int);let q:=(s.L.getD u.toNat dz);let z:=(Rec.mk q.e q.l q.t q.k q.p q.n q.g q.s q.b q.a);let c:=(!O9 z||q.l !=u+1||decide (q.e>s.ep));bd (u<v) (W9 u s.L.length/\L9 q.a.length/\((!O9 z)=false->Ri (u+1))/\(c=false->decide (u>0)=true->Ri (u-1))/\(c=false->decide (u>0)=true->W9 (u-1) s.L.length)/\br (!O9 z||q.l !=u+1||decide (q.e>s.ep)||decide (u>0)&&decide ((s.L.getD (u-1).toNat dz).e>q.e)) i (Ri (u+1)/\∃(y:V5 s.L.length (tF s)),((m/\u+1=(y.1:Int)/\True)/\w/\True)/\Lt (s.L.length-y.1) (s.L.length-x.1))) ((∃(x:V5 s.fr.length (wG s)),(m/\0=(x.1:Int)/\True)/\w/\True)/\∀(x:V5 s.fr.length (wG s)),let j:=(x.1:Int);let r:=(s.fr.getD j.toNat dz);bd (j<(s.fr.length:Int)) (W9 j s.fr.length/\∃(X:xB.ι),((!V6 r.no (0:Int) (7:Int))=false->((r.pg.Q=X.Q/\(Z0 Z5 r.pg.sl X.sl)/\True)/\True)/\PgB X)/\∃(f:pG.ι),((!V6 r.no (0:Int) (7:Int)|| !k4 X||decide (r.pg.Q>v)|| !V6 r.first (0:Int) v|| ! r.D==decide (r.first>0))=false->((yS s f.1)/\r.no=f.2/\True)/\L9 f.1.fr.length)/\br (!V6 r.no (0:Int) (7:Int)|| !k4 X||decide (r.pg.Q>v)|| !V6 r.first (0:Int) v|| ! r.D==decide (r.first>0)||frAt f.1.fr f.2 !=j) i (Ri (j+1)/\∃(y:V5 s.fr.length (wG s)),((m/\j+1=(y.1:Int)/\True)/\w/\True)/\Lt (s.fr.length-y.1) (s.fr.length-x.1))) ((∃(x:V5 8 (zX s)),(m/\0=(x.1:Int)/\True)/\w/\True)/\∀(x:V5 8 (zX s)),let pa:=(x.1:Int);bd (pa<8) (∃(X:a0R.ι),(((zJ s.d X.1)/\pa=(X.2:Int)/\True)/\a09 X)/\br (!(P7 X.1 X.2).2||decide ((P7 X.1 X.2).1.Q>s.S)) i (Ri (pa+1)/\∃(y:V5 8 (zX s)),((m/\pa+1=(y.1:Int)/\True)/\w/\True)/\Lt (8-y.1) (8-x.1))) (true=F7 s))))) ⟨s.d,⟨⟨(eqD _),Z6⟩,hd⟩,λh=>nY ?_,λh=>?_⟩
 ·rw[sp,←B];rintro⟨h1,_⟩;have h:(!yU s.d||(s.d.E.length:Int) !=69|| !V6 s.ep 1 60||decide ((s.L.length:Int)>60)|| !V6 s.S 0 s.L.length||decide ((s.fr.length:Int)>3)|| !V6 s.J 0 2)=true:=h;rw[h1] at h;cases h
 rw[B] at h;have j:=h;simp only[wS,wU,uH] at j;obtain⟨F,c2,I,L,J⟩:=(o5 s).1 j.1.1.1;refine⟨⟨F4,X7⟩,λx=>⟨λhc=>?_,λhc=>⟨⟨F4,X7⟩,λy=>⟨λhy=>?_,λhy=>⟨⟨F4,X7⟩,λz=>⟨λhz=>?_,λhz=>?_⟩⟩⟩⟩⟩⟩
 ·have hlt:=Y2 hc;refine⟨Y6 hlt,hm _ (dE hlt),λ_=>W2 hlt Z9,λ_ _=>Z4 Z9,λ_ h0=>⟨b7J,Z9⟩,λhq=>nY ?_,λhq=>⟨W2 hlt Z9,x.succ hlt ?_,⟨⟨X7,I9,Z6⟩,X7⟩,V5.ext_lt hlt⟩⟩
  ·rw[sp];rintro⟨_,h1,_⟩;have:=h1 x.1 hlt;unfold tF at this;rw[E3,show((x.1:Int)-1).toNat=x.1-1 by omega] at hq
   have hq:=hq.symm.trans this;cases hq
  ·rw[E3,show((x.1:Int)-1).toNat=x.1-1 by omega] at hq
   exact hq
 ·have hlt:=Y2 hy;refine⟨Y6 hlt,(s.fr.getD y.1 dz).pg,λ_=>⟨X7,hf.2 _ hlt⟩,(s,(s.fr.getD y.1 dz).no),λ_=>⟨⟨(jR _),X7⟩,hf.1⟩,λhq=>nY ?_,λhq=>⟨W2 hlt Z9,y.succ hlt hq,⟨⟨X7,I9,Z6⟩,X7⟩,V5.ext_lt hlt⟩⟩
  rw[sp];rintro⟨_,_,h1,_⟩;have:=h1 y.1 hlt;have hq:wG s y.1=true:=hq;rw[this] at hq;cases hq
 ·have hlt:z.1<8:=by have:=G7 hz;omega
  refine⟨(s.d,z.1),⟨⟨(eqD _),X7⟩,F,M0⟩,λhq=>nY ?_,λhq=>⟨Z4 Z9,z.succ hlt hq,⟨⟨X7,I9,Z6⟩,X7⟩,V5.ext_lt hlt⟩⟩
  rw[sp];rintro⟨_,_,_,h1⟩;have:=h1 z.1 hlt;have hq:zX s z.1=true:=hq;rw[this] at hq;cases hq
 ·have g1:=Y0 hc;have g2:=Y0 hy;have g3:8<=z.1:=by have:=r9 hz;omega
  exact(sp.2 ⟨h,λi hi=>x.2.2 i (xY hi g1),λi hi=>y.2.2 i (xY hi g2),λi hi=>z.2.2 i (xY hi g3)⟩).symm
def yJ(n:Int):UInt8:=R1 (IntKind.u8.wrap n)
def V7(L:List (Bz)):Nat->Bz
 |0=>[yJ L.length]
 |i+1=>V7 L i++[yJ (L.getD i []).length]++L.getD i []
def S5(L:List (Bz)):Bz:=V7 L L.length
def k9(L:List (Bz)):Prop:=L.length<=1000/\∀i,i<L.length->(L.getD i []).length<=1000
def vW:Rl:=⟨List (Bz),λL=>[u2 L],λL=>.bys (S5 L),k9⟩
def a35:Con:=.rel vW
def a5j(L:List (Bz)):Nat->Ann
 |0=>.one (Up L.length) (λx=>⟨[(0,u2 L),(3,.osl 0 0 (V7 L x.1).length),(4,Ji x.1)],[some (.bys 5 (V7 L x.1))]⟩) (λx=>L.length-x.1) [.arr 0] [.arr 3] (λ_=>Z3)
 |_=>.none
def xC(n:Nat)(l:Bz):Prop:=n=l.length/\l.length<=1000000
def vV:List T->X9->Option (T×X9×Option Prop)
 | [.osl k off n],[some (.bys ty l)]=>match k,off,ty with
  |0,0,5=>some (.bys (l++z8 (zO l)),[none],some (xC n l))
  |_,_,_=>none
 |_,_=>none
def a5D:Con:=.eff vV
def mI:GK 221 a5D:=gk func221<|by
 intro args H res H' p h hp;unfold vV at h;split at h
 case h_2=>cases h
 rename_i k off n ty l;split at h
 ·skip
  simp only[X0,U4] at h;obtain⟨rfl,rfl,rfl⟩:=h;obtain⟨rfl,hl⟩:xC n l:=hp;have e4:(z8 (zO l)).length=4:=rfl;refine vcE (gC jO (gC tP gN)) func221 Z3 (bs:=[false]) (α:=∃(x:(tY IntKind.i64).ι),(Le (0+l.length) l.length/\(List.take l.length (List.drop 0 l)=x/\True)/\v5 x)/\∃(x_1:nL.ι),(((↑(zO x):Int)=(x_1.1:Int)/\(4=match x_1.2 with|true=>(4:Int)|false=>(2:Int))/\True)/\True)/\(Le l.length l.length/\U8 l.length (match x_1.2 with|true=>z8 x_1.1|false=>yX x_1.1).length 1)/\Le (0+(l.length+(match x_1.2 with|true=>z8 x_1.1|false=>yX x_1.1).length)) (List.take l.length l++match x_1.2 with|true=>z8 x_1.1|false=>yX x_1.1).length/\List.take (l.length+(match x_1.2 with|true=>z8 x_1.1|false=>yX x_1.1).length) (List.drop 0 (List.take l.length l++match x_1.2 with|true=>z8 x_1.1|false=>yX x_1.1))=l++z8 (zO l)/\True/\True) ⟨l,⟨K0,⟨cI,Z6⟩,a0W⟩,(zO l,true),X7,⟨U9 _,?_,?_⟩,?_,?_,X7⟩
  ·simp only[e4];omega
  ·simp only[e4];omega
  ·unfold Le;rw[j_l,F9,D4];exact U9 _
  ·rw[j_l,List.drop_zero];exact List.take_of_length_le (by rw[F9];exact U9 _)
 ·cases h
def vY(L:List (Bz))(h:∀i,i<L.length->(L.getD i []).length<=1000):∀i,i<=L.length->(V7 L i).length<=1+1001*i
 |0,_=>by simp[V7]
 |i+1,hi=>by
  have d:=vY L h i Z9
  have e:=h i Z9
  simp only[V7,F9,List.length_cons,List.length_nil];omega
def l01Fields_ok:GK 303 a35:=gk func303<|by
 rintro(L:List (Bz)) ⟨hL,hs⟩;refine U5 gN func303 (a5j L) (α:=let u:=(L.length:Int);R2 IntKind.u8 (IntKind.u8.wrap u)/\(∃(x:Up L.length),((Z0 Z5 L L)/\(0=0/\1=(V7 L x.1).length)/\0=(x.1:Int)/\True)/\List.map R1 [IntKind.u8.wrap u]=V7 L x.1/\True)/\∀(x:Up L.length),let v:=(V7 L x.1);let z:=(x.1:Int);let q:=(L.getD z.toNat []).length;let p:=v.length;let r:=(List.take p v++List.take 1 (List.drop 0 (List.map R1 [IntKind.u8.wrap (↑q:Int)])));bd (z<u) (W9 z L.length/\R2 IntKind.u8 (IntKind.u8.wrap (↑q:Int))/\(Le 1 1/\Le p p/\U8 p 1 1)/\W9 z L.length/\(Le (p+1) r.length/\U8 (p+1) q 1)/\Ri (z+1)/\∃(y:Up L.length),(((Z0 Z5 L L)/\(0=0/\p+1+q=(V7 L y.1).length)/\z+1=(y.1:Int)/\True)/\List.take (p+1) r++L.getD z.toNat []=V7 L y.1/\True)/\Lt (L.length-y.1) (L.length-x.1)) (Le (0+p) p/\List.take p (List.drop 0 v)=S5 L)) ⟨O7 _,⟨⟨0,N4 _⟩,X7⟩,λx=>⟨λhc=>?_,λhc=>?_⟩⟩
 ·have hlt:=Y2 hc;have h1:=vY L hs x.1 Z9
  have h:=hs x.1 hlt;rw[E3];have e:List.take (V7 L x.1).length (V7 L x.1)++List.take 1 (List.drop 0 (List.map R1 [IntKind.u8.wrap ((L.getD x.1 []).length:Int)]))=V7 L x.1++[yJ (L.getD x.1 []).length]:=by
   rw[j_l];rfl
  rw[e];have d:(V7 L x.1++[yJ (L.getD x.1 []).length]).length=(V7 L x.1).length+1:=W7
  refine⟨Y6 hlt,O7 _,⟨U9 _,U9 _,Z9,Z9⟩,Y6 hlt,⟨K0,Z9,Z9⟩,W2 hlt Z9,⟨x.1+1,hlt⟩,⟨⟨X7,⟨rfl,?_⟩,M0,Z6⟩,?_,Z6⟩,V5.ext_lt hlt⟩
  ·simp only[V7,F9,List.length_cons,List.length_nil]
  ·rw[←d,j_l];rfl
 ·have hx:x.1=L.length:=by have:=x.2;have:=Y0 hc;omega
  rw[hx];exact⟨K0,by rw[List.drop_zero,j_l];rfl⟩
def sD(no:Int)(p:Pg):Bz:=([R1 112,yJ no]++yX p.Q.toNat)++S5 p.sl
def S4(no:Int)(p:Pg):Bz:=sD no p++z8 (zO (sD no p))
def oK:Rl:=⟨Int×Pg,λx=>[Ji x.1,.agg x.2.ts],λx=>.bys (S4 x.1 x.2),λx=>PgP x.2⟩
def a8G:Con:=.rel oK
def a4A:GK 334 a8G:=gk func334<|by
 rintro⟨no,p⟩ ⟨o,j,l,g⟩;simp only at o j l g;have f:k9 p.sl:=⟨Z9,λi hi=>Nat.le_trans (g i hi) M4⟩
 have h:=vY p.sl f.2 p.sl.length (U9 _);have h:(S5 p.sl).length<=5000:=by unfold S5;omega
 have e:(yX p.Q.toNat).length=2:=rfl;have d:List.take 2 (List.map R1 [(112:Int),IntKind.u8.wrap no])=[R1 112,yJ no]:=rfl;have n:List.take (2+(yX p.Q.toNat).length) ([R1 112,yJ no]++yX p.Q.toNat)=[R1 112,yJ no]++yX p.Q.toNat:=List.take_of_length_le C7
 have key:List.take (2+(yX p.Q.toNat).length) (List.take 2 (List.map R1 [(112:Int),IntKind.u8.wrap no])++yX p.Q.toNat)++S5 p.sl=sD no p:=by rw[d,n];rfl
 refine U5 (gC tP (gC l01Fields_ok (gC mI gN))) func334 Z3 (α:=(R2 IntKind.u8 (112:Int)/\R2 IntKind.u8 (IntKind.u8.wrap no))/\∃(x:nL.ι),((p.Q=(x.1:Int)/\(2=match x.2 with|true=>(4:Int)|false=>(2:Int))/\True)/\True)/\(Le 2 2/\U8 2 (match x.2 with|true=>z8 x.1|false=>yX x.1).length 1)/\∃(X:vW.ι),(((Z0 Z5 p.sl X)/\True)/\k9 X)/\(Le (2+(match x.2 with|true=>z8 x.1|false=>yX x.1).length) (List.take 2 (List.map R1 [(112:Int),IntKind.u8.wrap no])++match x.2 with|true=>z8 x.1|false=>yX x.1).length/\U8 (2+(match x.2 with|true=>z8 x.1|false=>yX x.1).length) (S5 X).length 1)/\xC (2+(match x.2 with|true=>z8 x.1|false=>yX x.1).length+(S5 X).length) (List.take (2+(match x.2 with|true=>z8 x.1|false=>yX x.1).length) (List.take 2 (List.map R1 [(112:Int),IntKind.u8.wrap no])++match x.2 with|true=>z8 x.1|false=>yX x.1)++S5 X)/\List.take (2+(match x.2 with|true=>z8 x.1|false=>yX x.1).length) (List.take 2 (List.map R1 [(112:Int),IntKind.u8.wrap no])++match x.2 with|true=>z8 x.1|false=>yX x.1)++S5 X++z8 (zO (List.take (2+(match x.2 with|true=>z8 x.1|false=>yX x.1).length) (List.take 2 (List.map R1 [(112:Int),IntKind.u8.wrap no])++match x.2 with|true=>z8 x.1|false=>yX x.1)++S5 X))=S4 no p) ⟨⟨(pI _).2 Z9,O7 _⟩,(p.Q.toNat,false),⟨⟨M0,X7⟩,Z6⟩,⟨U9 _,a9D,a9D⟩,p.sl,⟨X7,f⟩,⟨?_,a9D,a9D⟩,?_,?_⟩
 ·unfold Le;rw[d,F9];exact U9 _
 ·show xC _ (List.take (2+(yX p.Q.toNat).length) (List.take 2 (List.map R1 [(112:Int),IntKind.u8.wrap no])++yX p.Q.toNat)++S5 p.sl);rw[key];have hl:(sD no p).length=2+(yX p.Q.toNat).length+(S5 p.sl).length:=by unfold sD;simp;omega
  exact⟨hl.symm,by rw[hl,e];omega⟩
 ·show List.take (2+(yX p.Q.toNat).length) (List.take 2 (List.map R1 [(112:Int),IntKind.u8.wrap no])++yX p.Q.toNat)++S5 p.sl++z8 (zO (List.take (2+(yX p.Q.toNat).length) (List.take 2 (List.map R1 [(112:Int),IntKind.u8.wrap no])++yX p.Q.toNat)++S5 p.sl))=_;rw[key];rfl
def xX(row:Nat->List T)(z:List T)(i j:Nat):List T:=if j<i then row j else z
def wW{row:Nat->List T}{z cs:List T}{m:Nat}(r:∀j,(row j).length=m)(Z:z.length=m)(i:Nat)(C:cs=row i)(j:Nat):setRow (xX row z i) (0+(i:Int).toNat) 0 cs j=xX row z (i+1) j:=by
 have l:(xX row z i j).length=m:=by unfold xX;split<;>simp only[r,Z]
 rw[E6 (by rw[l,C,r]),show 0+(i:Int).toNat=i by omega]
 by_cases hji:j=i
 ·subst hji;rw[show Nat.beq j j=true from by simp]
  show cs=xX row z (j+1) j;unfold xX;rw[if_pos (Nat.lt_succ_self j)];exact C
 ·rw[show Nat.beq j i=false from Bool.eq_false_iff.2 λh=>hji (F5 h)]
  show xX row z i j=xX row z (i+1) j;unfold xX;by_cases d:j<i
  ·rw[if_pos d,if_pos Z9]
  ·rw[if_neg d,if_neg Z9]
def uE{row:Nat->List T}{z:List T}{n:Nat}:Z7 n (xX row z n) row:=λi hi=>by unfold xX;rw[if_pos hi]
def uT{row:Nat->List T}{z:List T}{n:Nat}:Z7 n (λ_=>z) (xX row z 0):=λi hi=>by unfold xX;rw[if_neg Z9]
def mP(n:Nat):Prop:=n<=9223372036854775807
def A4(s:Bz):Nat:=s.length
def gM:Rl:=⟨List (Bz)×Int,λx=>[u2 x.1,Ji x.2],λx=>Ji (rem x.2 (S3 A4 x.1)),λx=>C3 x.2/\mP x.1.length/\∀i,i<x.1.length->mP (x.1.getD i []).length⟩
def b67:Con:=.rel gM
def b6g(L:List (Bz))(l:Int):Nat->Ann
 |0=>.one {i:Nat//i<=L.length/\(V3 A4 L L.length i:Int)<=l} (λx=>⟨[(0,u2 L),(1,Ji (l-V3 A4 L L.length x.1)),(5,Ji x.1)],[]⟩) (λx=>L.length-x.1) [] [] (λ_=>Z3)
 |_=>.none
def a0h:GK 152 b67:=gk func152<|by
 rintro⟨L,l⟩ ⟨⟨d,g⟩,n,B⟩;have n:L.length<=9223372036854775807:=n;simp only at d g B;have M:∀i,i<=L.length->V3 A4 L L.length i<=S3 A4 L:=λi hi=>w8 _ _ _ hi
 have z:V3 A4 L L.length 0=L.length:=rfl;refine U5 gN func152 (b6g L l) (α:=let r:=(L.length:Int);R2 .i64 (l- r)/\(decide (l- r<0)=true->(-1:Int)=rem l (S3 A4 L))/\(decide (l- r<0)=false->(∃(x:{i:Nat//i<=L.length/\(↑(V3 A4 L L.length i):Int)<=l}),((Z0 Z5 L L)/\l- r=l- (↑(V3 A4 L L.length x.1):Int)/\0=(x.1:Int)/\True)/\True)/\∀(x:{i:Nat//i<=L.length/\(↑(V3 A4 L L.length i):Int)<=l}),let z:=(x.1:Int);let q:=(↑(V3 A4 L L.length x.1):Int);let p:=(↑(L.getD z.toNat []).length:Int);(decide (z<r)=true->W9 z L.length/\R2 .i64 (l- q- p)/\(decide (l- q- p<0)=true->(-1:Int)=rem l (S3 A4 L))/\(decide (l- q- p<0)=false->R2 .i64 (z+1)/\∃(y:{i:Nat//i<=L.length/\(↑(V3 A4 L L.length i):Int)<=l}),(((Z0 Z5 L L)/\l- q- p=l- (↑(V3 A4 L L.length y.1):Int)/\z+1=(y.1:Int)/\True)/\True)/\Lt (L.length-y.1) (L.length-x.1)))/\(decide (z<r)=false->l- q=rem l (S3 A4 L)))) ?_
 simp only[k7,o8,uH];refine⟨Z9,λh=>(I7 a9o).symm,λh=>⟨⟨⟨0,N4 _,Z9⟩,⟨⟨S7,X6 _ _⟩,by simp only[z],rfl,Z6⟩,Z6⟩,λx=>⟨λC=>?_,λC=>?_⟩⟩⟩
 ·have hlt:x.1<L.length:=by omega
  have hx:=x.2;have f:=zL A4 L L.length [] hlt;have e:=M (x.1+1) hlt;have R:(L.getD x.1 []).length<=9223372036854775807:=B _ hlt;unfold A4 at f hx e ⊢;rw[E3];refine⟨Y6 hlt,Z9,λr=>(I7 (by unfold A4 at*;omega)).symm,λr=>⟨Z9,⟨x.1+1,hlt,by unfold A4;omega⟩,⟨⟨⟨S7,X6 _ _⟩,by unfold A4;simp only;omega,M0,Z6⟩,Z6⟩,V5.ext_lt hlt⟩⟩
 ·have hx:=x.2;have he:x.1=L.length:=by omega
  rw[he] at hx ⊢;exact(D9 hx.2).symm
def b6I(L:List (Bz)):Nat->Ann
 |0=>.one (Up L.length) (λx=>⟨[(0,u2 L),(3,.osl 0 0 L.length),(4,Ji x.1)],[some (.arr true 0 1 L.length (xX (Z5 L) [.str []] x.1))]⟩) (λx=>L.length-x.1) [.arr 0] [.arr 0] (λ_=>Z3)
 |_=>.none
def dR:Rl:=⟨List (Bz),λL=>[u2 L,u2 L],λ_=>.bool true,λL=>L.length<=1048576⟩
def b6E:Con:=.rel dR
def b5x(L:List (Bz)):Nat->Ann
 |0=>.one (Up L.length) (λx=>⟨[(0,u2 L),(1,u2 L),(5,Ji x.1)],[]⟩) (λx=>L.length-x.1) [] [] (λ_=>Z3)
 |_=>.none
def a0i:GK 189 b6E:=gk func189<|by
 intro(L:List (Bz)) (hL:L.length<=1048576);refine U5 gN func189 (b5x L) (α:=let r:=(L.length:Int);let q:=(Z0 Z5 L L);br (r !=r) (false=true) ((∃(x:Up L.length),(q/\q/\0=(x.1:Int)/\True)/\True)/\∀(x:Up L.length),let p:=(x.1:Int);bd (p<r) (W9 p L.length/\W9 p L.length/\br (!L.getD p.toNat []==L.getD p.toNat []) (false=true) (Ri (p+1)/\∃(y:Up L.length),((q/\q/\p+1=(y.1:Int)/\True)/\True)/\Lt (L.length-y.1) (L.length-x.1))) (true=true))) ⟨λh=>L4,λ_=>⟨⟨⟨0,N4 _⟩,⟨⟨S7,X6 _ _⟩,⟨S7,X6 _ _⟩,X7⟩,Z6⟩,λx=>⟨λC=>?_,λ_=>rfl⟩⟩⟩
 have t:=Y2 C;exact⟨Y6 t,Y6 t,λh=>L4,λ_=>⟨W2 t Z9,⟨x.1+1,t⟩,⟨⟨⟨S7,X6 _ _⟩,⟨S7,X6 _ _⟩,M0,Z6⟩,Z6⟩,V5.ext_lt t⟩⟩
def a32:Rl:=⟨List Int×Int,λx=>[sN x.1,Ji x.2],λx=>Ji (rem x.2 x.1.length),λx=>C3 x.2/\mP x.1.length⟩
def b6h:Con:=.rel a32
def b4h:GK 154 b6h:=gk func154<|by
 rintro⟨L,l⟩ ⟨⟨e,d⟩,n⟩;have n:L.length<=9223372036854775807:=n;simp only at e d;refine U5 gN func154 Z3 (α:=let p:=(L.length:Int);R2 .i64 (l- p)/\(decide (l- p<0)=true->(-1:Int)=rem l L.length)/\(decide (l- p<0)=false->l- p=rem l L.length)) ?_
 simp only[k7,o8,uH];exact⟨Z9,λh=>(I7 Z9).symm,λh=>(D9 Z9).symm⟩
def b7C(L:List Int):Nat->Ann
 |0=>.one (Up L.length) (λx=>⟨[(0,sN L),(3,.osl 0 0 L.length),(4,Ji x.1)],[some (.arr true 0 1 L.length (xX (Y9 L) [Ji 0] x.1))]⟩) (λx=>L.length-x.1) [.arr 0] [.arr 0] (λ_=>Z3)
 |_=>.none
def a3O:Rl:=⟨List Int,λL=>[sN L,sN L],λ_=>.bool true,λL=>L.length<=1048576⟩
def b9g:Con:=.rel a3O
def b9o(L:List Int):Nat->Ann
 |0=>.one (Up L.length) (λx=>⟨[(0,sN L),(1,sN L),(5,Ji x.1)],[]⟩) (λx=>L.length-x.1) [] [] (λ_=>Z3)
 |_=>.none
def b2R:GK 191 b9g:=gk func191<|by
 intro(L:List Int) (hL:L.length<=1048576);refine U5 gN func191 (b9o L) (α:=let r:=(L.length:Int);let q:=(Z0 Y9 L L);br (r !=r) (false=true) ((∃(x:Up L.length),(q/\q/\0=(x.1:Int)/\True)/\True)/\∀(x:Up L.length),let p:=(x.1:Int);bd (p<r) (W9 p L.length/\W9 p L.length/\br (L.getD p.toNat (0:Int) !=L.getD p.toNat (0:Int)) (false=true) (Ri (p+1)/\∃(y:Up L.length),((q/\q/\p+1=(y.1:Int)/\True)/\True)/\Lt (L.length-y.1) (L.length-x.1))) (true=true))) ⟨λh=>L4,λ_=>⟨⟨⟨0,N4 _⟩,⟨⟨S7,X6 _ _⟩,⟨S7,X6 _ _⟩,X7⟩,Z6⟩,λx=>⟨λC=>?_,λ_=>rfl⟩⟩⟩
 have t:=Y2 C;exact⟨Y6 t,Y6 t,λh=>L4,λ_=>⟨W2 t Z9,⟨x.1+1,t⟩,⟨⟨⟨S7,X6 _ _⟩,⟨S7,X6 _ _⟩,M0,Z6⟩,Z6⟩,V5.ext_lt t⟩⟩
def K9(p:Pend):Nat:=p.d.length
def LmP(p:Pend):Prop:=mP p.d.length
def SmP(_:Pend):Prop:=True
def a4Z:Rl:=⟨Pend×Int,λx=>[.agg x.1.ts,Ji x.2],λx=>Ji (rem x.2 (K9 x.1)),λx=>C3 x.2/\LmP x.1⟩
def b9p:Con:=.rel a4Z
def a3h:Rl:=⟨Pend,λr=>[.agg r.ts],λr=>.agg r.ts,SmP⟩
def b8P:Con:=.rel a3h
def a5M:Rl:=⟨Pend,λr=>[.agg r.ts,.agg r.ts],λ_=>.bool true,SmP⟩
def b54:Con:=.rel a5M
def b2Y:GK 254 b9p:=gk func254<|by
 rintro⟨r,l⟩ ⟨⟨g,f⟩,B⟩;have B:r.d.length<=9223372036854775807:=B;simp only at g f;refine U5 gN func254 Z3 (α:=let p:=(r.d.length:Int);R2 .i64 (l- p)/\(decide (l- p<0)=true->(-1:Int)=rem l (K9 r))/\(decide (l- p<0)=false->l- p=rem l (K9 r))) ?_
 simp only[k7,o8,uH];have e:((K9 r:Nat):Int)=r.d.length:=rfl;exact⟨Z9,λh=>(I7 Z9).symm,λh=>by rw[D9 Z9];omega⟩
def b42(r:Pend)(h:
  r.at_=r.at_/\r.d=r.d/\True):
  V4 prog 266 [.agg r.ts] (.agg r.ts):=
 U5 gN func266 Z3 h
def b2G:GK 266 b8P:=gk func266<|λr _=>b42 r X7
def b28:GK 276 b54:=gk func276<|by
 intro r _;refine U5 gN func276 Z3 (α:=((r.at_ !=r.at_)=true->false=true)/\((r.at_ !=r.at_)=false->((!r.d==r.d)=true->false=true)/\((!r.d==r.d)=false->true=true))) ?_
 simp
def a0a:Rl:=⟨List Pend×Int,λx=>[v6 x.1,Ji x.2],λx=>Ji (rem x.2 (S3 K9 x.1)),λx=>C3 x.2/\mP x.1.length/\∀i,i<x.1.length->LmP (x.1.getD i dz)⟩
def b1X:Con:=.rel a0a
def b2C(L:List Pend)(l:Int):Nat->Ann
 |0=>.one {i:Nat//i<=L.length/\(V3 K9 L L.length i:Int)<=l} (λx=>⟨[(0,v6 L),(1,Ji (l-V3 K9 L L.length x.1)),(5,Ji x.1)],[]⟩) (λx=>L.length-x.1) [] [] (λ_=>Z3)
 |_=>.none
def a7Q:GK 153 b1X:=gk func153<|by
 rintro⟨L,left⟩ ⟨⟨e,g⟩,n,B⟩;have n:L.length<=9223372036854775807:=n;simp only at e g B;have M:∀i,i<=L.length->V3 K9 L L.length i<=S3 K9 L:=λi hi=>w8 _ _ _ hi
 have z:V3 K9 L L.length 0=L.length:=rfl;refine U5 (gC b2Y gN) func153 (b2C L left) (α:=let p:=(L.length:Int);R2 .i64 (left- p)/\(decide (left- p<0)=true->(-1:Int)=rem left (S3 K9 L))/\(decide (left- p<0)=false->(∃(x:{i:Nat//i<=L.length/\(↑(V3 K9 L L.length i):Int)<=left}),((Z0 Z1 L L)/\left- p=left- (↑(V3 K9 L L.length x.1):Int)/\0=(x.1:Int)/\True)/\True)/\∀(x:{i:Nat//i<=L.length/\(↑(V3 K9 L L.length i):Int)<=left}),let r:=(↑(V3 K9 L L.length x.1):Int);let q:=(x.1:Int);let u:=(L.getD q.toNat dz);(decide (q<p)=true->W9 q L.length/\∃(X:a4Z.ι),let z:=(rem X.2 (K9 X.1)<0);(((u.at_=X.1.at_/\u.d=X.1.d/\True)/\left- r=X.2/\True)/\C3 X.2/\LmP X.1)/\(decide z=true->(-1:Int)=rem left (S3 K9 L))/\(decide z=false->R2 .i64 (q+1)/\∃(y:{i:Nat//i<=L.length/\(↑(V3 K9 L L.length i):Int)<=left}),(((Z0 Z1 L L)/\rem X.2 (K9 X.1)=left- (↑(V3 K9 L L.length y.1):Int)/\q+1=(y.1:Int)/\True)/\True)/\Lt (L.length-y.1) (L.length-x.1)))/\(decide (q<p)=false->left- r=rem left (S3 K9 L)))) ?_
 simp only[k7,o8,uH];refine⟨Z9,λh=>(I7 a9o).symm,λh=>⟨⟨⟨0,N4 _,Z9⟩,⟨⟨S7,X6 _ _⟩,by simp only[z],rfl,Z6⟩,Z6⟩,λx=>⟨λC=>?_,λC=>?_⟩⟩⟩
 ·have hlt:x.1<L.length:=by omega
  have hx:=x.2;have j:=zL K9 L L.length dz hlt;have f:=M (x.1+1) hlt;have r:=B _ hlt;refine⟨Y6 hlt,(L.getD x.1 dz,left- (V3 K9 L L.length x.1:Int)),⟨X7,⟨M0,M0⟩,r⟩,λhr=>?_,λhr=>⟨Z9,⟨x.1+1,hlt,?_⟩,⟨⟨⟨S7,X6 _ _⟩,?_,M0,Z6⟩,Z6⟩,V5.ext_lt hlt⟩⟩
  ·simp only at hr;by_cases hq:(K9 (L.getD x.1 dz):Int)<=left- (V3 K9 L L.length x.1:Int)
   ·rw[D9 hq] at hr;omega
   ·exact(I7 Z9).symm
  ·simp only at hr;by_cases hq:(K9 (L.getD x.1 dz):Int)<=left- (V3 K9 L L.length x.1:Int)
   ·omega
   ·rw[I7 Z9] at hr
    omega
  ·simp only at hr ⊢;by_cases hq:(K9 (L.getD x.1 dz):Int)<=left- (V3 K9 L L.length x.1:Int)
   ·rw[D9 hq];omega
   ·rw[I7 Z9] at hr
    omega
 ·have hx:=x.2;have he:x.1=L.length:=by omega
  rw[he] at hx ⊢;exact(D9 hx.2).symm
def b2f(L:List Pend):Nat->Ann
 |0=>.one (Up L.length) (λx=>⟨[(0,v6 L),(3,.osl 0 0 L.length),(4,Ji x.1)],[some (.arr true 0 2 L.length (xX (Z1 L) [Ji 0,.str []] x.1))]⟩) (λx=>L.length-x.1) [.arr 0] [.arr 0] (λ_=>Z3)
 |_=>.none
def a0k:Rl:=⟨List Pend,λL=>[v6 L,v6 L],λ_=>.bool true,λL=>L.length<=1048576/\∀i,i<L.length->SmP (L.getD i dz)⟩
def b2z:Con:=.rel a0k
def b2J(L:List Pend):Nat->Ann
 |0=>.one (Up L.length) (λx=>⟨[(0,v6 L),(1,v6 L),(5,Ji x.1)],[]⟩) (λx=>L.length-x.1) [] [] (λ_=>Z3)
 |_=>.none
def a51:GK 190 b2z:=gk func190<|by
 rintro(L:List Pend) ⟨hL,hb⟩;refine U5 (gC b28 gN) func190 (b2J L) (α:=let z:=(L.length:Int);let r:=(Z0 Z1 L L);br (z !=z) (false=true) ((∃(x:Up L.length),(r/\r/\0=(x.1:Int)/\True)/\True)/\∀(x:Up L.length),let q:=(x.1:Int);let u:=(L.getD q.toNat dz);bd (q<z) (W9 q L.length/\W9 q L.length/\∃(X:a5M.ι),let p:=(u.at_=X.at_/\u.d=X.d/\True);((p/\p/\True)/\SmP X)/\br false (false=true) (Ri (q+1)/\∃(y:Up L.length),((r/\r/\q+1=(y.1:Int)/\True)/\True)/\Lt (L.length-y.1) (L.length-x.1))) (true=true))) ⟨λh=>L4,λ_=>⟨⟨⟨0,N4 _⟩,⟨⟨S7,X6 _ _⟩,⟨S7,X6 _ _⟩,X7⟩,Z6⟩,λx=>⟨λC=>?_,λ_=>rfl⟩⟩⟩
 have t:=Y2 C;exact⟨Y6 t,Y6 t,L.getD x.1 dz,⟨X7,hb _ t⟩,λh=>h,λ_=>⟨W2 t Z9,⟨x.1+1,t⟩,⟨⟨⟨S7,X6 _ _⟩,⟨S7,X6 _ _⟩,M0,Z6⟩,Z6⟩,V5.ext_lt t⟩⟩
def B0{l:Int}{a b:Nat}(h:rem l a<0)(B:a<=b):rem l b= -1:=by
 refine I7 ?_
 by_cases q:(a:Int)<=l
 ·rw[D9 q] at h;omega
 ·omega
def yF{l:Int}{a b c:Nat}(h:¬rem l a<0)(hl:C3 l)(C:c=a+b):rem (rem l a) b=rem l c/\C3 (rem l a):=by
 by_cases hq:(a:Int)<=l
 ·rw[D9 hq] at h ⊢;obtain⟨h0,h1⟩:=hl;refine⟨?_,by constructor<;>omega⟩
  by_cases hr:(c:Int)<=l
  ·rw[D9 hr,D9 Z9]
   omega
  ·rw[I7 Z9,I7 Z9]
 ·rw[I7 Z9] at h
  omega
def yQ(d:Dsk):Nat:=S3 A4 d.E+S3 K9 d.C+d.keep.length
def LmL{α:Type}(d:α)(f:α->Prop)(L:List α):Prop:=mP L.length/\∀i,i<L.length->f (L.getD i d)
def LmD(d:Dsk):Prop:=LmL [] (λs=>mP s.length) d.E/\LmL dz LmP d.C/\mP d.keep.length
def nN(d:Dsk):Prop:=d.E.length<=1048576/\d.C.length<=1048576/\d.keep.length<=1048576
def a9X:Rl:=⟨Dsk×Int,λx=>[.agg x.1.ts,Ji x.2],λx=>Ji (rem x.2 (yQ x.1)),λx=>C3 x.2/\LmD x.1⟩
def c2J:Con:=.rel a9X
def b69:GK 67 c2J:=gk func67<|by
 rintro⟨d,left⟩ ⟨hl,l,j,h3⟩;simp only at hl l j h3;have e:yQ d=S3 A4 d.E+S3 K9 d.C+d.keep.length:=rfl;have n:S3 A4 d.E<=yQ d:=Z9
 have o:S3 A4 d.E+S3 K9 d.C<=yQ d:=Z9
 refine U5 (gC a0h (gC a7Q (gC b4h gN))) func67 Z3 (α:=let p:=((-1:Int)=rem left (yQ d));∃(x:gM.ι),(((Z0 Z5 d.E x.1)/\left=x.2/\True)/\C3 x.2/\mP x.1.length/\∀(i:Nat),i<x.1.length->mP (x.1.getD i []).length)/\bd (rem x.2 (S3 A4 x.1)<0) p (∃(X:a0a.ι),(((Z0 Z1 d.C X.1)/\rem x.2 (S3 A4 x.1)=X.2/\True)/\C3 X.2/\mP X.1.length/\∀(i:Nat),i<X.1.length->LmP (X.1.getD i dz))/\bd (rem X.2 (S3 K9 X.1)<0) p (∃(x:a32.ι),let q:=x.1.length;(((Z0 Y9 d.keep x.1)/\rem X.2 (S3 K9 X.1)=x.2/\True)/\C3 x.2/\mP q)/\bd (rem x.2 q<0) p (rem x.2 q=rem left (yQ d))))) ⟨(d.E,left),⟨X7,hl,l⟩,λh=>(B0 (G7 h) n).symm,λh=>?_⟩
 obtain⟨q1,L⟩:=yF (b:=S3 K9 d.C) (r9 h) hl rfl;refine⟨(d.C,rem left (S3 A4 d.E)),⟨X7,L,j⟩,λg=>?_,λg=>?_⟩
 ·simp only at g;rw[q1] at g;exact(B0 (G7 g) o).symm
 ·simp only at g ⊢;rw[q1] at g ⊢;obtain⟨q2,l2⟩:=yF (b:=d.keep.length) (r9 g) hl rfl;refine⟨(d.keep,rem left (S3 A4 d.E+S3 K9 d.C)),⟨X7,l2,h3⟩,λf=>?_,λf=>?_⟩
  ·simp only at f;rw[q2] at f;exact(B0 (G7 f) (U9 _)).symm
  ·exact q2
def b0R:Rl:=⟨Dsk,λd=>[.agg d.ts,.agg d.ts],λ_=>.bool true,nN⟩
def c3u:Con:=.rel b0R
def b5T:GK 100 c3u:=gk func100<|by
 rintro(d:Dsk) ⟨h1,h2,h3⟩;exact U5 (gC a0i (gC a51 (gC b2R gN))) func100 Z3 (α:=let p:=(false=true);∃(x:dR.ι),(((Z0 Z5 d.E x)/\(Z0 Z5 d.E x)/\True)/\x.length<=1048576)/\br false p (∃(x:a0k.ι),(((Z0 Z1 d.C x)/\(Z0 Z1 d.C x)/\True)/\x.length<=1048576/\∀(i:Nat),i<x.length->SmP (List.getD x i dz))/\br false p (br (!d.A==d.A) p (∃(x:a3O.ι),(((Z0 Y9 d.keep x)/\(Z0 Y9 d.keep x)/\True)/\x.length<=1048576)/\br false p (true=true))))) ⟨d.E,⟨X7,h1⟩,λh=>h,λ_=>⟨d.C,⟨X7,h2,λ_ _=>trivial⟩,λh=>h,λ_=>⟨λh=>L4,λ_=>⟨d.keep,⟨X7,h3⟩,λh=>h,λ_=>rfl⟩⟩⟩⟩
def aD(p:Pg):Nat:=S3 A4 p.sl
def LmG(p:Pg):Prop:=LmL [] (λs=>mP s.length) p.sl
def SmG(p:Pg):Prop:=p.sl.length<=1048576
def b7h:Rl:=⟨Pg×Int,λx=>[.agg x.1.ts,Ji x.2],λx=>Ji (rem x.2 (aD x.1)),λx=>C3 x.2/\LmG x.1⟩
def c7z:Con:=.rel b7h
def c24:GK 255 c7z:=gk func255<|by
 rintro⟨p,l⟩ ⟨L,d⟩;exact U5 (gC a0h gN) func255 Z3 (α:=∃(x:gM.ι),(((Z0 Z5 p.sl x.1)/\l=x.2/\True)/\C3 x.2/\mP x.1.length/\∀(i:Nat),i<x.1.length->mP (x.1.getD i []).length)/\bd (rem x.2 (S3 A4 x.1)<0) ((-1:Int)=rem l (aD p)) (rem x.2 (S3 A4 x.1)=rem l (aD p))) ⟨(p.sl,l),⟨X7,L,d⟩,λh=>(B0 (G7 h) (U9 _)).symm,λ_=>rfl⟩
def b9J:Rl:=⟨Pg,λp=>[.agg p.ts,.agg p.ts],λ_=>.bool true,SmG⟩
def c50:Con:=.rel b9J
def c5I(p:Pg)(h:
  ((p.Q !=p.Q)=true->false=true)/\((p.Q !=p.Q)=false->∃(x:dR.ι),(((Z0 Z5 p.sl x)/\(Z0 Z5 p.sl x)/\True)/\x.length<=1048576)/\br false (false=true) (true=true))):
  V4 prog 277 [.agg p.ts,.agg p.ts] (.bool true):=
 U5 (gC a0i gN) func277 Z3 h
def c0V:GK 277 c50:=gk func277<|λ(p:Pg) h1=>c5I p ⟨λh=>L4,λ_=>⟨p.sl,⟨X7,h1⟩,λh=>h,λ_=>rfl⟩⟩
def K3(f:Frm):Nat:=aD f.pg
def LmF(f:Frm):Prop:=LmG f.pg
def SmF(f:Frm):Prop:=SmG f.pg
def b1m:Rl:=⟨Frm×Int,λx=>[.agg x.1.ts,Ji x.2],λx=>Ji (rem x.2 (K3 x.1)),λx=>C3 x.2/\LmF x.1⟩
def c3G:Con:=.rel b1m
def b76:GK 156 c3G:=gk func156<|by
 rintro⟨f,l⟩ ⟨L,d⟩;exact U5 (gC c24 gN) func156 Z3 (α:=∃(x:b7h.ι),(((f.pg.Q=x.1.Q/\(Z0 Z5 f.pg.sl x.1.sl)/\True)/\l=x.2/\True)/\C3 x.2/\LmG x.1)/\bd (rem x.2 (aD x.1)<0) ((-1:Int)=rem l (K3 f)) (rem x.2 (aD x.1)=rem l (K3 f))) ⟨(f.pg,l),⟨X7,L,d⟩,λh=>(B0 (G7 h) (U9 _)).symm,λ_=>rfl⟩
def b0t:Rl:=⟨Frm,λf=>[.agg f.ts,.agg f.ts],λ_=>.bool true,SmF⟩
def c18:Con:=.rel b0t
def c0K(f:Frm)(h:
let q:=(false=true);  ((f.no !=f.no)=true->false=true)/\((f.no !=f.no)=false->∃(x:b9J.ι),let p:=(f.pg.Q=x.Q/\(Z0 Z5 f.pg.sl x.sl)/\True);((p/\p/\True)/\SmG x)/\br false q (br (!f.D==f.D) q (br (f.first !=f.first) q (true=true))))):
  V4 prog 193 [.agg f.ts,.agg f.ts] (.bool true):=
 U5 (gC c0V gN) func193 Z3 h
def b5k:GK 193 c18:=gk func193<|λ(f:Frm) h1=>c0K f ⟨λh=>L4,λ_=>⟨f.pg,⟨X7,h1⟩,λh=>h,λ_=>⟨λh=>L4,λ_=>⟨λh=>L4,λ_=>rfl⟩⟩⟩⟩
def a4W:Rl:=⟨List Frm×Int,λx=>[uC x.1,Ji x.2],λx=>Ji (rem x.2 (S3 K3 x.1)),λx=>C3 x.2/\mP x.1.length/\∀i,i<x.1.length->LmF (x.1.getD i dz)⟩
def b7W:Con:=.rel a4W
def b5O(L:List Frm)(l:Int):Nat->Ann
 |0=>.one {i:Nat//i<=L.length/\(V3 K3 L L.length i:Int)<=l} (λx=>⟨[(0,uC L),(1,Ji (l-V3 K3 L L.length x.1)),(5,Ji x.1)],[]⟩) (λx=>L.length-x.1) [] [] (λ_=>Z3)
 |_=>.none
def b2Z:GK 69 b7W:=gk func69<|by
 rintro⟨L,left⟩ ⟨⟨d,f⟩,n,B⟩;have n:L.length<=9223372036854775807:=n;simp only at d f B;have M:∀i,i<=L.length->V3 K3 L L.length i<=S3 K3 L:=λi hi=>w8 _ _ _ hi
 have z:V3 K3 L L.length 0=L.length:=rfl;refine U5 (gC b76 gN) func69 (b5O L left) (α:=let q:=(L.length:Int);R2 .i64 (left- q)/\(decide (left- q<0)=true->(-1:Int)=rem left (S3 K3 L))/\(decide (left- q<0)=false->(∃(x:{i:Nat//i<=L.length/\(↑(V3 K3 L L.length i):Int)<=left}),((Z0 V9 L L)/\left- q=left- (↑(V3 K3 L L.length x.1):Int)/\0=(x.1:Int)/\True)/\True)/\∀(x:{i:Nat//i<=L.length/\(↑(V3 K3 L L.length i):Int)<=left}),let z:=(↑(V3 K3 L L.length x.1):Int);let r:=(x.1:Int);let p:=(L.getD r.toNat dz);(decide (r<q)=true->W9 r L.length/\∃(X:b1m.ι),let u:=(rem X.2 (K3 X.1)<0);(((p.no=X.1.no/\p.pg.Q=X.1.pg.Q/\(Z0 Z5 p.pg.sl X.1.pg.sl)/\p.D=X.1.D/\p.first=X.1.first/\True)/\left- z=X.2/\True)/\C3 X.2/\LmF X.1)/\(decide u=true->(-1:Int)=rem left (S3 K3 L))/\(decide u=false->R2 .i64 (r+1)/\∃(y:{i:Nat//i<=L.length/\(↑(V3 K3 L L.length i):Int)<=left}),(((Z0 V9 L L)/\rem X.2 (K3 X.1)=left- (↑(V3 K3 L L.length y.1):Int)/\r+1=(y.1:Int)/\True)/\True)/\Lt (L.length-y.1) (L.length-x.1)))/\(decide (r<q)=false->left- z=rem left (S3 K3 L)))) ?_
 simp only[k7,o8,uH];refine⟨Z9,λh=>(I7 a9o).symm,λh=>⟨⟨⟨0,N4 _,Z9⟩,⟨⟨S7,X6 _ _⟩,by simp only[z],rfl,Z6⟩,Z6⟩,λx=>⟨λC=>?_,λC=>?_⟩⟩⟩
 ·have hlt:x.1<L.length:=by omega
  have hx:=x.2;have g:=zL K3 L L.length dz hlt;have e:=M (x.1+1) hlt;have r:=B _ hlt;refine⟨Y6 hlt,(L.getD x.1 dz,left- (V3 K3 L L.length x.1:Int)),⟨X7,⟨M0,M0⟩,r⟩,λhr=>?_,λhr=>⟨Z9,⟨x.1+1,hlt,?_⟩,⟨⟨⟨S7,X6 _ _⟩,?_,M0,Z6⟩,Z6⟩,V5.ext_lt hlt⟩⟩
  ·simp only at hr;by_cases hq:(K3 (L.getD x.1 dz):Int)<=left- (V3 K3 L L.length x.1:Int)
   ·rw[D9 hq] at hr;omega
   ·exact(I7 Z9).symm
  ·simp only at hr;by_cases hq:(K3 (L.getD x.1 dz):Int)<=left- (V3 K3 L L.length x.1:Int)
   ·omega
   ·rw[I7 Z9] at hr
    omega
  ·simp only at hr ⊢;by_cases hq:(K3 (L.getD x.1 dz):Int)<=left- (V3 K3 L L.length x.1:Int)
   ·rw[D9 hq];omega
   ·rw[I7 Z9] at hr
    omega
 ·have hx:=x.2;have he:x.1=L.length:=by omega
  rw[he] at hx ⊢;exact(D9 hx.2).symm
def a24:Rl:=⟨List Frm,λL=>[uC L,uC L],λ_=>.bool true,λL=>L.length<=1048576/\∀i,i<L.length->SmF (L.getD i dz)⟩
def b9b:Con:=.rel a24
def b6W(L:List Frm):Nat->Ann
 |0=>.one (Up L.length) (λx=>⟨[(0,uC L),(1,uC L),(5,Ji x.1)],[]⟩) (λx=>L.length-x.1) [] [] (λ_=>Z3)
 |_=>.none
def b1M:GK 102 b9b:=gk func102<|by
 rintro(L:List Frm) ⟨hL,hb⟩;refine U5 (gC b5k gN) func102 (b6W L) (α:=let u:=(L.length:Int);let z:=(Z0 V9 L L);br (u !=u) (false=true) ((∃(x:Up L.length),(z/\z/\0=(x.1:Int)/\True)/\True)/\∀(x:Up L.length),let r:=(x.1:Int);let p:=(L.getD r.toNat dz);bd (r<u) (W9 r L.length/\W9 r L.length/\∃(X:b0t.ι),let q:=(p.no=X.no/\p.pg.Q=X.pg.Q/\(Z0 Z5 p.pg.sl X.pg.sl)/\p.D=X.D/\p.first=X.first/\True);((q/\q/\True)/\SmF X)/\br false (false=true) (Ri (r+1)/\∃(y:Up L.length),((z/\z/\r+1=(y.1:Int)/\True)/\True)/\Lt (L.length-y.1) (L.length-x.1))) (true=true))) ⟨λh=>L4,λ_=>⟨⟨⟨0,N4 _⟩,⟨⟨S7,X6 _ _⟩,⟨S7,X6 _ _⟩,X7⟩,Z6⟩,λx=>⟨λC=>?_,λ_=>rfl⟩⟩⟩
 have t:=Y2 C;exact⟨Y6 t,Y6 t,L.getD x.1 dz,⟨X7,hb _ t⟩,λh=>h,λ_=>⟨W2 t Z9,⟨x.1+1,t⟩,⟨⟨⟨S7,X6 _ _⟩,⟨S7,X6 _ _⟩,M0,Z6⟩,Z6⟩,V5.ext_lt t⟩⟩
def zT(s:Sto):Nat:=yQ s.d+S3 N8 s.L+S3 K3 s.fr
def LmS(s:Sto):Prop:=LmD s.d/\(mP s.L.length/\∀r ∈ s.L,b4k r)/\LmL dz LmF s.fr
def iC(s:Sto):Prop:=nN s.d/\s.L.length<=1048576/\s.fr.length<=1048576/\∀i,i<s.fr.length->SmF (s.fr.getD i dz)
def a9n:Rl:=⟨Sto×Int,λx=>[.agg x.1.ts,Ji x.2],λx=>Ji (rem x.2 (zT x.1)),λx=>C3 x.2/\LmS x.1⟩
def c3J:Con:=.rel a9n
def b9H:GK 29 c3J:=gk func29<|by
 rintro⟨s,left⟩ ⟨hl,l,j,h3⟩;simp only at hl l j h3;have e:zT s=yQ s.d+S3 N8 s.L+S3 K3 s.fr:=rfl;have n:yQ s.d<=zT s:=Z9
 have o:yQ s.d+S3 N8 s.L<=zT s:=Z9
 refine U5 (gC b69 (gC b3X (gC b2Z gN))) func29 Z3 (α:=let p:=((-1:Int)=rem left (zT s));∃(x:a9X.ι),(((zJ s.d x.1)/\left=x.2/\True)/\C3 x.2/\LmD x.1)/\bd (rem x.2 (yQ x.1)<0) p (∃(X:a3t.ι),(((Z0 Y1 s.L X.1)/\rem x.2 (yQ x.1)=X.2/\True)/\C3 X.2/\X.1.length<=9223372036854775807/\∀(r:Rec),r ∈ X.1->b4k r)/\bd (rem X.2 (S3 N8 X.1)<0) p (∃(x:a4W.ι),(((Z0 V9 s.fr x.1)/\rem X.2 (S3 N8 X.1)=x.2/\True)/\C3 x.2/\mP x.1.length/\∀(i:Nat),i<x.1.length->LmF (x.1.getD i dz))/\bd (rem x.2 (S3 K3 x.1)<0) p (rem x.2 (S3 K3 x.1)=rem left (zT s))))) ⟨(s.d,left),⟨⟨(eqD _),X7⟩,hl,l⟩,λh=>(B0 (G7 h) n).symm,λh=>?_⟩
 obtain⟨q1,L⟩:=yF (b:=S3 N8 s.L) (r9 h) hl rfl;refine⟨(s.L,rem left (yQ s.d)),⟨X7,L,j⟩,λg=>?_,λg=>?_⟩
 ·simp only at g;rw[q1] at g;exact(B0 (G7 g) o).symm
 ·simp only at g ⊢;rw[q1] at g ⊢;obtain⟨q2,l2⟩:=yF (b:=S3 K3 s.fr) (r9 g) hl rfl;refine⟨(s.fr,rem left (yQ s.d+S3 N8 s.L)),⟨X7,l2,h3⟩,λf=>?_,λf=>?_⟩
  ·simp only at f;rw[q2] at f;exact(B0 (G7 f) (U9 _)).symm
  ·exact q2
def a91:Rl:=⟨Sto,λs=>[.agg s.ts,.agg s.ts],λ_=>.bool true,iC⟩
def c4g:Con:=.rel a91
def c3w(s:Sto)(h:
let p:=(false=true);  ∃(x:b0R.ι),(((zJ s.d x)/\(zJ s.d x)/\True)/\nN x)/\br false p (br (s.ep !=s.ep) p (∃(x:a4B.ι),(((Z0 Y1 s.L x)/\(Z0 Y1 s.L x)/\True)/\x.length<=1048576)/\br false p (br (s.S !=s.S) p (∃(x:a24.ι),(((Z0 V9 s.fr x)/\(Z0 V9 s.fr x)/\True)/\x.length<=1048576/\∀(i:Nat),i<x.length->SmF (List.getD x i dz))/\br false p (br (s.J !=s.J) p (true=true))))))):
  V4 prog 44 [.agg s.ts,.agg s.ts] (.bool true):=
 U5 (gC b5T (gC b2Q (gC b1M gN))) func44 Z3 h
end
end Go.Proofs.YtpdnnhnfongoeaaGreat
