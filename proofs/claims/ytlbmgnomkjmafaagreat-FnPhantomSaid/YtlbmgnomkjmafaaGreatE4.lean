/- A part of the proof. -/
import Derived.Test.YtlbmgnomkjmafaaGreatD0
import Derived.RangeFuncNested
import Derived.RangeFuncBound
import Derived.RangeFuncCalls
import Derived.RangeFuncBox
import Derived.RangeFuncLeaves
import Derived.Shelf.Abstract
import Derived.WalkKit
import Derived.OwnWalkIn
import Derived.TacticsInMore
import Derived.LoopNIn
import Derived.LoopIn
import Derived.Test.YtlbmgnomkjmafaaGreatSS13
import Derived.Test.YtlbmgnomkjmafaaGreatRows
import Derived.ProofKit
import Derived.JoinedOf
import Derived.Handed
import Derived.WideWitness
namespace Go.Proofs.YtlbmgnomkjmafaaGreat
set_option maxRecDepth 100000
open Go.SS Go.Proofs.Tryz
noncomputable section
structure Pg where
 Q:Int
 sl:List (Bz)
 deriving Inhabited
def Pg.ts(p:Pg):List T:=[Ji p.Q,xZ p.sl]
def c6N(b:Bool):Nat:=match b with|true=>30|false=>160
def L9(b:Bool)(s:Bz):Bool:=decide ((s.length:Int)>c6N b)
def a1Q(b:Bool):List T->Option (T×Option Prop)
 | [.str s]=>some (.bool (L9 b s),none)
 |_=>none
def b09:Con:=.pure (a1Q true)
def b22:Con:=.pure (a1Q false)
theorem b0o(s:Bz)(h:
  decide ((s.length:Int)>30)=L9 true s):
  V2 prog 236 [.str s] (.bool (L9 true s)):=
 S2 gN func236 Y7 h
theorem a7W:GK 236 b09:=gk func236<|by
 intro args res p h hp;unfold a1Q at h;split at h
 ·simp only[X4,U1] at h;obtain⟨rfl,rfl⟩:=h;exact b0o _ rfl
 ·cases h
theorem b2R(s:Bz)(h:
  decide ((s.length:Int)>160)=L9 false s):
  V2 prog 160 [.str s] (.bool (L9 false s)):=
 S2 gN func160 Y7 h
theorem a5Y:GK 160 b22:=gk func160<|by
 intro args res p h hp;unfold a1Q at h;split at h
 ·simp only[X4,U1] at h;obtain⟨rfl,rfl⟩:=h;exact b2R _ rfl
 ·cases h
def b5g(b:Bool):T:=fnT (match b with|true=>236|false=>160)
def iN:Rl:=⟨List (Bz)×Bool,λx=>[xZ x.1,b5g x.2],λx=>Ji (S9 x.1.length λi=>L9 x.2 (x.1.getD i [])),λx=>N6 x.1.length⟩
def b6j:Con:=.rel iN
def a4b(L:List (Bz))(b:Bool):Nat->Ann
 |0=>.one (V0 L.length λi=>L9 b (L.getD i [])) (λx=>⟨[(0,xZ L),(1,b5g b),(7,Ji L.length),(8,Ji x.1)],[]⟩) (λx=>L.length-x.1) [] [] (λ_=>Y7)
 |_=>.none
theorem bH:GK 228 b6j:=gk func228<|by
 rintro⟨L,b⟩ (hL:L.length<1000000000000);cases b
 ·refine S2 (gC a5Y gN) func228 (a4b L false) (α:=let r:=(Fn.func 160);let p:=(L.length:Int);(∃(x:V0 L.length λ(i:Nat)=>L9 false (L.getD i [])),((Z2 Z5 L L)/\Value.func r #[] #[]=Value.func r #[] #[]/\p=p/\0=(x.1:Int)/\True)/\True)/\∀(x:V0 L.length λ(i:Nat)=>L9 false (L.getD i [])),let q:=(x.1:Int);bd (q<p) (V6 q L.length/\br (L9 false (L.getD q.toNat [])) (q=S9 L.length λ(i:Nat)=>L9 false (L.getD i [])) (Ri (q+1)/\∃(y:V0 L.length λ(i:Nat)=>L9 false (L.getD i [])),(((Z2 Z5 L L)/\Value.func r #[] #[]=Value.func r #[] #[]/\p=p/\q+1=(y.1:Int)/\True)/\True)/\Lt (L.length-y.1) (L.length-x.1))) ((-1:Int)=S9 L.length λ(i:Nat)=>L9 false (L.getD i []))) ⟨⟨H5,Y3⟩,λx=>⟨λhc=>?_,λhc=>?_⟩⟩
  ·have h:=Y2 hc;exact⟨Y1 h,λhp=>(P5 h hp x.2.2).symm,λhp=>⟨V8 h Z9,x.succ h hp,Y3,V0.ext_lt h⟩⟩
  ·have e:=X7 hc;exact(M2 λj J=>x.2.2 j (zH J e)).symm
 ·refine S2 (gC a7W gN) func228 (a4b L true) (α:=let r:=(Fn.func 236);let p:=(L.length:Int);(∃(x:V0 L.length λ(i:Nat)=>L9 true (L.getD i [])),((Z2 Z5 L L)/\Value.func r #[] #[]=Value.func r #[] #[]/\p=p/\0=(x.1:Int)/\True)/\True)/\∀(x:V0 L.length λ(i:Nat)=>L9 true (L.getD i [])),let q:=(x.1:Int);bd (q<p) (V6 q L.length/\br (L9 true (L.getD q.toNat [])) (q=S9 L.length λ(i:Nat)=>L9 true (L.getD i [])) (Ri (q+1)/\∃(y:V0 L.length λ(i:Nat)=>L9 true (L.getD i [])),(((Z2 Z5 L L)/\Value.func r #[] #[]=Value.func r #[] #[]/\p=p/\q+1=(y.1:Int)/\True)/\True)/\Lt (L.length-y.1) (L.length-x.1))) ((-1:Int)=S9 L.length λ(i:Nat)=>L9 true (L.getD i []))) ⟨⟨H5,Y3⟩,λx=>⟨λhc=>?_,λhc=>?_⟩⟩
  ·have h:=Y2 hc;exact⟨Y1 h,λhp=>(P5 h hp x.2.2).symm,λhp=>⟨V8 h Z9,x.succ h hp,Y3,V0.ext_lt h⟩⟩
  ·have e:=X7 hc;exact(M2 λj J=>x.2.2 j (zH J e)).symm
def fA:Rl:=⟨List (Bz)×Bool,λx=>[xZ x.1,b5g x.2],λx=>.bool (anyI x.1.length λi=>L9 x.2 (x.1.getD i [])),λx=>N6 x.1.length⟩
def b3H:Con:=.rel fA
theorem bS:GK 159 b3H:=gk func159<|by
 rintro⟨L,b⟩ (hL:L.length<1000000000000);cases b
 ·exact S2 (gC bH gN) func159 Y7 (α:=∃(x:iN.ι),(((Z2 Z5 L x.1)/\Value.func (Fn.func 160) #[] #[]=Value.func (Fn.func (match x.2 with|true=>236|false=>160)) #[] #[]/\True)/\N6 x.1.length)/\decide ((S9 x.1.length λ(i:Nat)=>L9 x.2 (x.1.getD i []))≥(0:Int))=anyI L.length λ(i:Nat)=>L9 false (L.getD i [])) ⟨(L,false),⟨Y3,hL⟩,G1 _ _⟩
 ·exact S2 (gC bH gN) func159 Y7 (α:=∃(x:iN.ι),(((Z2 Z5 L x.1)/\Value.func (Fn.func 236) #[] #[]=Value.func (Fn.func (match x.2 with|true=>236|false=>160)) #[] #[]/\True)/\N6 x.1.length)/\decide ((S9 x.1.length λ(i:Nat)=>L9 x.2 (x.1.getD i []))≥(0:Int))=anyI L.length λ(i:Nat)=>L9 true (L.getD i [])) ⟨(L,true),⟨Y3,hL⟩,G1 _ _⟩
def PgP(p:Pg):Prop:=0<=p.Q/\p.Q<=1000/\p.sl.length=4/\∀i,i<p.sl.length->(p.sl.getD i []).length<=30
noncomputable instance(p:Pg):Decidable (PgP p):=Classical.propDecidable _
def o9(p:Pg):Bool:=decide (PgP p)
def PgB(p:Pg):Prop:=N6 p.sl.length
def yI:Rl:=⟨Pg,λp=>[.agg p.ts],λp=>.bool (o9 p),PgB⟩
def b1j:Con:=.rel yI
def b2h:Con:=.rel yI
def b1l(p:Pg):Nat->Ann
 |0=>.one (V0 4 λi=>L9 true (p.sl.getD i [])) (λx=>⟨[(1,.ref 0 0 0),(3,Ji x.1)],[some (.arr true 1000000 2 1 λ_=>p.ts)]⟩) (λx=>4-x.1) [.box 0] [.box 0] (λ_=>Y7)
 |_=>.none
def sP:Rl:=⟨Unit,λ_=>[],λ_=>.agg (Pg.ts ⟨0,[[],[],[],[]]⟩),λ_=>True⟩
def a6g:Con:=.rel sP
def a56:Con:=.rel sP
theorem a5M(h:
  (Nn (4:Int)/\LeI (4:Int) (4:Int)/\nI 16 4 140737488355328/\Lt 4 9223372036854775808)/\Le 4 4/\(0:Int)=0/\(4=4/\Z7 4 (λ(x:Nat)=>[T.str []]) (Z5 [[],[],[],[]]))/\True):
  V2 prog 167 [] (.agg (Pg.ts ⟨0,[[],[],[],[]]⟩)):=
 S2 gN func167 Y7 h
theorem a64(h:
  (Nn (4:Int)/\LeI (4:Int) (4:Int)/\nI 16 4 140737488355328/\Lt 4 9223372036854775808)/\Le 4 4/\(0:Int)=0/\(4=4/\Z7 4 (λ(x:Nat)=>[T.str []]) (Z5 [[],[],[],[]]))/\True):
  V2 prog 210 [] (.agg (Pg.ts ⟨0,[[],[],[],[]]⟩)):=
 S2 gN func210 Y7 h
theorem iU{s:Bz}:L9 true s=false↔s.length<=30:=by
 unfold L9;rw[pT];show ¬ (s.length:Int)>((30:Nat):Int)↔_;omega
theorem gS{s:Bz}:L9 false s=false↔s.length<=160:=by
 unfold L9;rw[pT];show ¬ (s.length:Int)>((160:Nat):Int)↔_;omega
theorem R8{n:Nat}{p:Nat->Bool}:anyI n p=false↔∀i,i<n->p i=false:=by
 rw[Bool.eq_false_iff,ne_eq,S8];constructor
 ·intro h i hi;exact Bool.eq_false_iff.2 λhp=>h ⟨i,hi,hp⟩
 ·rintro h ⟨i,hi,hp⟩;rw[h i hi] at hp;cases hp
theorem b5J(p:Pg):o9 p=true↔PgP p:=decide_eq_true_iff
theorem qO:GK 169 b1j:=gk func169<|by
 intro(p:Pg) (hp:p.sl.length<1000000000000);refine S2 (gC P3 (gC bS gN)) func169 Y7 (α:=∃(x:fA.ι),((V9 p.Q (0:Int) (1000:Int)&&(p.sl.length:Int)==4)=true->((Z2 Z5 p.sl x.1)/\Value.func (Fn.func 236) #[] #[]=Value.func (Fn.func (match x.2 with|true=>236|false=>160)) #[] #[]/\True)/\N6 x.1.length)/\(V9 p.Q (0:Int) (1000:Int)&&(p.sl.length:Int)==4&& !anyI x.1.length λ(i:Nat)=>L9 x.2 (x.1.getD i []))=o9 p) ⟨(p.sl,true),λ_=>⟨Y3,hp⟩,?_⟩
 rw[Bool.eq_iff_iff,b5J];simp only[M1,xO,beq_iff_eq,V9,i5,R8];constructor
 ·rintro⟨⟨⟨e,h⟩,f⟩,d⟩;exact⟨e,h,Z9,λi hi=>iU.1 (d i hi)⟩
 ·rintro⟨e,h,f,d⟩;exact⟨⟨⟨e,h⟩,Z9⟩,λi hi=>iU.2 (d i hi)⟩
theorem c05{p:Pg}(h:¬PgP p):false=o9 p:=(sX h).symm
theorem gV:GK 133 b2h:=gk func133<|by
 intro(p:Pg) (hp:p.sl.length<1000000000000);refine S2 (gC B6 gN) func133 (b1l p) (α:=let q:=(oo (p.Q=p.Q/\(Z2 Z5 p.sl p.sl)/\True));br (!V9 p.Q (0:Int) (1000:Int)||(p.sl.length:Int) !=4) (false=o9 p) ((∃(x:V0 4 λ(i:Nat)=>L9 true (p.sl.getD i [])),((0=0/\0=0)/\0=(x.1:Int)/\True)/\q/\True)/\∀(x:V0 4 λ(i:Nat)=>L9 true (p.sl.getD i [])),let r:=(x.1:Int);bd (r<4) (V6 r p.sl.length/\bd ((↑(p.sl.getD r.toNat []).length:Int)>30) (false=o9 p) (Ri (r+1)/\∃(y:V0 4 λ(i:Nat)=>L9 true (p.sl.getD i [])),(((0=0/\0=0)/\r+1=(y.1:Int)/\True)/\q/\True)/\Lt (4-y.1) (4-x.1))) (true=o9 p))) ⟨λh=>c05 ?_,λh=>?_⟩
 ·rintro⟨f,e,g,_⟩;simp[V9] at h;omega
 simp[V9] at h;refine⟨⟨H5,Y3⟩,λx=>⟨λhc=>?_,λhc=>?_⟩⟩
 ·have hlt:x.1<4:=by have:=D4 hc;omega
  refine⟨⟨Z9,Z9⟩,λB=>c05 ?_,λB=>⟨Z3 Z9,x.succ hlt B,Y3,V0.ext_lt hlt⟩⟩
  rintro⟨_,_,_,d⟩;have:=d x.1 Z9
  rw[E8,i5] at B;omega
 ·refine(mN ⟨h.1.1,h.1.2,Z9,λi hi=>?_⟩).symm
  exact iU.1 (x.2.2 i (by have:=q8 hc;omega))
theorem jE:Z7 4 (λ_=>[T.str []]) (Z5 [[],[],[],[]]):=by
 intro i hi
 match i,hi with
 |0,_=>rfl
 |1,_=>rfl
 |2,_=>rfl
 |3,_=>rfl
theorem a3t:GK 167 a6g:=gk func167<|λ_ _=>a5M ⟨⟨uD,a9r,a4j,I5⟩,U9 _,rfl,⟨rfl,jE⟩,Z6⟩
theorem a3f:GK 210 a56:=gk func210<|λ_ _=>a64 ⟨⟨uD,a9r,a4j,I5⟩,U9 _,rfl,⟨rfl,jE⟩,Z6⟩
def wA(no:Int)(x:Bz):Bool:=decide (5<=x.length)&&(x.getD 0 0==112&&decide (((x.getD 1 0).toNat:Int)=no))
def pgX(x:Bz):Pg:=⟨be ((x.drop 2).take 2),(K7 (x.drop 4)).getD []⟩
def G0(no:Int)(b:Bz):Pg×Bool:=if P4 b&&wA no (V7 b) then(pgX (V7 b),(K7 ((V7 b).drop 4)).isSome&&o9 (pgX (V7 b))) else(⟨0,[]⟩,false)
def P2(no:Int)(b:Bz):Pg:=if(G0 no b).2 then(G0 no b).1 else⟨0,[]⟩
def J7(no:Int)(b:Bz):Int:=if P4 b then(if(G0 no b).2 then 0 else 3) else 8
def RdB(b:Bz):Prop:=b.length<=1000
def iB:Rl:=⟨Int×Bz,λx=>[Ji x.1,.bys x.2],λx=>.tup [.agg (P2 x.1 x.2).ts,Ji (J7 x.1 x.2)],λx=>RdB x.2⟩
def a5C:Con:=.rel iB
def cB:Rl:=⟨Int×Bz,λx=>[Ji x.1,.str x.2],λx=>.tup [.agg (G0 x.1 x.2).1.ts,.bool (G0 x.1 x.2).2],λx=>RdB x.2⟩
def b06:Con:=.rel cB
theorem a7B:GK 211 b06:=gk func211<|by
 rintro⟨no,b⟩ (hb:b.length<=1000);have f:(V7 b).length<=1000:=by
  unfold V7;split
  ·rw[List.length_take];omega
  ·exact N7 _
 have hh:(!P4 b||decide (((V7 b).length:Int)<5)||(((V7 b).getD 0 0).toNat:Int) !=112||IntKind.i64.wrap (((V7 b).getD 1 0).toNat:Int) !=no)= !(P4 b&&wA no (V7 b)):=by
  rw[wD];unfold wA;have:((V7 b).getD 0 0==112)=((((V7 b).getD 0 0).toNat:Int)==112):=by
   rw[Bool.eq_iff_iff,beq_iff_eq,beq_iff_eq,←UInt8.toNat_inj];exact⟨λh=>aL,λh=>by have:((112:UInt8).toNat:Int)=112:=rfl;omega⟩
  rw[this];have h5:decide (((V7 b).length:Int)<5)= !decide (5<=(V7 b).length):=by rw[←decide_not];exact decide_eq_decide.2 Z9
  have n:((((V7 b).getD 1 0).toNat:Int) !=no)= !decide ((((V7 b).getD 1 0).toNat:Int)=no):=by rw[Bool.eq_iff_iff];simp
  rw[h5,n,bne];cases P4 b<;>cases decide (5<=(V7 b).length)<;>cases((((V7 b).getD 0 0).toNat:Int)==112)<;>simp
 refine S2 (gC a0J (gC a54 (gC dZ (gC gV gN)))) func211 Y7 (α:=let r:=(G0 no b);∃(x:a4n.ι),let q:=(↑((V7 x).getD 0 (0:UInt8)).toNat:Int);let p:=(V7 x).length;let z:=((↑p:Int)<5);((b=x/\True)/\m5 x)/\((!P4 x||decide z)=false->V6 (0:Int) p)/\((!P4 x||decide z||q !=112)=false->V6 (1:Int) p)/\br (!P4 x||decide z||q !=112||IntKind.i64.wrap (↑((V7 x).getD 1 (0:UInt8)).toNat:Int) !=no) ((0=r.1.Q/\r.1.sl.length=0/\True)/\false=r.2/\True) (iM (4:Int) p/\∃(X:bI.ι),let u:=((K7 X).getD []);((List.drop 4 (V7 x)=X/\True)/\m5 X)/\b0s (2:Int) (4:Int) p/\∃(d:kA.ι),((List.drop 2 (List.take 4 (V7 x))=d/\True)/\oD d)/\∃(x:yI.ι),((K7 X).isSome=true->(((↑(be d):Int)=x.Q/\(Z2 Z5 u x.sl)/\True)/\True)/\PgB x)/\((↑(be d):Int)=r.1.Q/\(Z2 Z5 u r.1.sl)/\True)/\((K7 X).isSome&&o9 x)=r.2/\True)) ⟨b,⟨Y3,Nat.le_trans hb W6⟩,λh=>?_,λh=>?_,λh=>?_,λh=>?_⟩
 ·simp only[yY,pT] at h;exact⟨Z9,Z9⟩
 ·simp only[yY,pT] at h;exact⟨Z9,Z9⟩
 ·rw[hh] at h;have h:(P4 b&&wA no (V7 b))=false:=(xO _).mp h;have e:G0 no b=(⟨0,[]⟩,false):=by unfold G0;rw[h];rfl
  rw[e];exact Y3
 ·rw[hh] at h;have h:(P4 b&&wA no (V7 b))=true:=(yC _).mp h;have h5:5<=(V7 b).length:=by simp only[wA,M1,i5] at h;exact h.2.1
  have e:G0 no b=(pgX (V7 b),(K7 ((V7 b).drop 4)).isSome&&o9 (pgX (V7 b))):=by unfold G0;rw[h];rfl
  rw[e];refine⟨⟨Z9,Z9⟩,(V7 b).drop 4,⟨Y3,by unfold m5;rw[List.length_drop];omega⟩,⟨Z9,Z9,Z9⟩,((V7 b).drop 2).take 2,⟨⟨?_,Z6⟩,by unfold oD;rw[List.length_take];omega⟩,pgX (V7 b),
   λ_=>⟨Y3,?_⟩,Y3⟩
  ·rw[List.drop_take]
  ·show((K7 ((V7 b).drop 4)).getD []).length<1000000000000;unfold K7;split
   ·decide
   ·split
    ·rename_i p out ho;split
     ·have:=a0Q ho;have:=zL ((V7 b).drop 4) 0;simp only[Option.getD_some,w6] at*;omega
     ·decide
    ·decide
theorem b1B(r:Bz)(p i:Nat):(r.drop p).getD i 0=r.getD (p+i) 0:=by
 simp[Q2]
theorem c0Z(r:Bz)(R:0<r.length):∀i,match wS r i with
  |some (p,out)=>G4 r false i=⟨r.drop p,false,out⟩/\p<=r.length
  |none=>(G4 r false i).fl=true
 |0=>by
  have:r.isEmpty=false:=by cases r with
   |nil=>simp at R
   |cons=>rfl
  simp only[wS,G4,Fst.go,fs0,this,Bool.or_false];exact⟨Z6,R⟩
 |i+1=>by
  have I:=c0Z r R i;have o:G4 r false (i+1)=Fst.step (G4 r false i):=rfl;cases f:wS r i with
  |none=>
   rw[f] at I;have:wS r (i+1)=none:=a04 f 1;rw[this,o];simp only at I ⊢;simp[Fst.step,I]
  |some x=>
   obtain⟨p,out⟩:=x;rw[f] at I;obtain⟨j,l⟩:=I;rw[a8G f,o,j];have M:numR (r.drop p)=((r.getD p 0).toNat:Int):=by unfold numR;rw[b1B,Nat.add_zero]
   have h:big ((r.drop p).drop 1) (numR (r.drop p))=decide (¬ (p+1+(r.getD p 0).toNat<=r.length∨r.length<p+1/\(r.getD p 0).toNat=0)):=by
    unfold big;rw[M];refine decide_eq_decide.2 ?_
    simp only[List.length_drop];omega
   have e:(r.drop p).isEmpty=decide (¬p<r.length):=by
    rw[Bool.eq_iff_iff,List.isEmpty_iff,i5,List.drop_eq_nil_iff];omega
   simp only[Fst.step];rw[h,e];by_cases hc:p<r.length/\p+1+(r.getD p 0).toNat<=r.length
   ·rw[if_pos hc];simp only;have e1:decide (¬p<r.length)=false:=sX Z9
    have g:decide (¬ (p+1+(r.getD p 0).toNat<=r.length∨r.length<p+1/\(r.getD p 0).toNat=0))=false:=sX Z9
    rw[e1,g];have d:big ((r.drop p).drop 1) (numR (r.drop p))=false:=by rw[h,g]
    unfold R0 T2;rw[d];simp only[Bool.false_eq_true,if_false,Bool.or_false];refine⟨?_,hc.2⟩
    rw[M,E8,List.drop_drop,List.drop_drop,List.drop_take,show p+1+(r.getD p 0).toNat- (p+1)=(r.getD p 0).toNat by omega,List.drop_drop,Nat.add_assoc]
   ·rw[if_neg hc];simp only;rw[qR,qR];by_cases hp:p<r.length
    ·exact .inr (mN Z9)
    ·exact .inl (.inr (mN hp))
theorem a9o(l:Bz):∀i,(G4 l true i).fl=true
 |0=>by simp[G4,Fst.go,fs0]
 |i+1=>by
  have:=a9o l i;simp only[G4] at this ⊢;simp[Fst.go,Fst.step,this]
theorem b47(fl:Bool):∀i,(G4 [] fl i).fl=true
 |0=>by simp[G4,Fst.go,fs0]
 |i+1=>by
  have:=b47 fl i;simp only[G4] at this ⊢;simp[Fst.go,Fst.step,this]
def rpQ(x:Bz):Pg:=⟨be ((T2 x 4).drop 2),(S4 (R0 x 4) (false||big x 4)).out⟩
def oK(no:Int)(x:Bz):Bool:=(!(!(S4 (R0 x 4) (false||big x 4)).fl&&(S4 (R0 x 4) (false||big x 4)).l.isEmpty)||(((T2 x 4).getD 0 0).toNat:Int) !=112||IntKind.i64.wrap (((T2 x 4).getD 1 0).toNat:Int) !=no)
theorem a87(no:Int)(b:Bz)(U:P4 b=true):(oK no (V7 b)|| !o9 (rpQ (V7 b)))= !(G0 no b).2/\((G0 no b).2=true->rpQ (V7 b)=(G0 no b).1):=by
 have i:G0 no b=if wA no (V7 b) then(pgX (V7 b),(K7 ((V7 b).drop 4)).isSome&&o9 (pgX (V7 b))) else(⟨0,[]⟩,false):=by unfold G0;rw[U,Bool.true_and]
 generalize V7 b=x at i;rw[i];by_cases h5:5<=x.length
 ·have hbig:big x 4=false:=sX Z9
  have R:R0 x 4=x.drop 4:=by unfold R0;rw[hbig];rfl
  have A:T2 x 4=x.take 4:=by unfold T2;rw[hbig];rfl
  have o:(x.take 4).getD 0 0=x.getD 0 0:=by simp[Q2,List.getElem?_take]
  have t:(x.take 4).getD 1 0=x.getD 1 0:=by simp[Q2,List.getElem?_take]
  have j:(x.take 4).drop 2=(x.drop 2).take 2:=by rw[List.drop_take]
  have q:rpQ x=⟨be ((x.drop 2).take 2),(S4 (x.drop 4) false).out⟩:=by unfold rpQ;rw[R,A,hbig,j];rfl
  have B:oK no x=(!(!(S4 (x.drop 4) false).fl&&(S4 (x.drop 4) false).l.isEmpty)||((x.getD 0 0).toNat:Int) !=112||((x.getD 1 0).toNat:Int) !=no):=by unfold oK;rw[R,A,hbig,o,t,wD];rfl
  have g:wA no x= !(((x.getD 0 0).toNat:Int) !=112||((x.getD 1 0).toNat:Int) !=no):=by
   unfold wA;rw[Bool.eq_iff_iff];simp only[M1,i5,beq_iff_eq,xO,yY,bne_eq_false_iff_eq];have:x.getD 0 0=112↔((x.getD 0 0).toNat:Int)=112:=by
    rw[←UInt8.toNat_inj];exact⟨λh=>aL,λh=>by have:((112:UInt8).toNat:Int)=112:=rfl;omega⟩
   rw[this];exact⟨λh=>h.2,λh=>⟨h5,h⟩⟩
  have N:0<(x.drop 4).length:=by rw[List.length_drop];omega
  have d:=c0Z (x.drop 4) N (w6 (x.drop 4));have n:(numR (x.drop 4)).toNat=w6 (x.drop 4):=by unfold numR w6;exact E8 _
  have e:S4 (x.drop 4) false=G4 (x.drop 4) false (w6 (x.drop 4)):=by unfold S4;rw[n]
  have hall:K7 (x.drop 4)=if w6 (x.drop 4)>100 then none else match wS (x.drop 4) (w6 (x.drop 4)) with
    |some (p,out)=>if p=(x.drop 4).length then some out else none
    |none=>none:=by
   unfold K7;by_cases hc:w6 (x.drop 4)>100
   ·rw[if_pos (.inr hc),if_pos hc]
   ·rw[if_neg Z9,if_neg hc]
    rfl
  rw[B,q,g,e];generalize (((x.getD 0 0).toNat:Int) !=112)=d0;generalize (((x.getD 1 0).toNat:Int) !=no)=d1;have X:∀out,K7 (x.drop 4)=some out->pgX x=⟨be ((x.drop 2).take 2),out⟩:=λout h=>by unfold pgX;rw[h];rfl
  generalize be ((x.drop 2).take 2)=nn at X;generalize pgX x=px at X;generalize u:x.drop 4=r at d hall X;clear q B g R A o t j i e n;cases F:wS r (w6 r) with
  |none=>
   rw[F] at d hall;simp only at d;have hall:K7 r=none:=by rw[hall];split<;>rfl
   rw[d,hall];cases d0<;>cases d1<;>simp
  |some y=>
   obtain⟨p,out⟩:=y;rw[F] at d hall;simp only at d hall;obtain⟨d,L⟩:=d;rw[d];have O:out.length=w6 r:=a0Q F;by_cases hp:p=r.length
   ·have hem:(r.drop p).isEmpty=true:=by rw[List.isEmpty_iff,List.drop_eq_nil_iff];omega
    by_cases hc:w6 r>100
    ·rw[if_pos hc] at hall;have hpg:o9 ⟨nn,out⟩=false:=sX (λh=>by have:=h.2.2.1;simp only at this;omega)
     simp only[hem,hall,hpg];cases d0<;>cases d1<;>simp
    ·rw[if_neg hc,if_pos hp] at hall;rw[X out hall];simp only[hem,hall];cases d0<;>cases d1<;>simp
   ·have hem:(r.drop p).isEmpty=false:=by
     rw[Bool.eq_false_iff,ne_eq,List.isEmpty_iff,List.drop_eq_nil_iff];omega
    have hall:K7 r=none:=by rw[hall,if_neg hp];split<;>rfl
    simp only[hem,hall];cases d0<;>cases d1<;>simp
 ·have hh:wA no x=false:=by unfold wA;rw[sX h5];rfl
  have f:(S4 (R0 x 4) (false||big x 4)).fl=true:=by
   by_cases v:4<=x.length
   ·have hbig:big x 4=false:=sX Z9
    have R:R0 x 4=[]:=by unfold R0;rw[hbig];exact List.drop_eq_nil_iff.2 (by show x.length<=4;omega)
    rw[R];exact b47 _ _
   ·have hbig:big x 4=true:=mN Z9
    rw[hbig];exact a9o _ _
  have B:oK no x=true:=by unfold oK;rw[f];simp
  rw[B,hh];simp
theorem a3e:GK 168 a5C:=gk func168<|by
 rintro⟨no,b⟩ (B:b.length<=1000);have L:∀(x:Bz),(T2 x 4).length=4:=λx=>by
  unfold T2;split
  ·exact List.length_replicate
  ·rename_i h;have:¬4>(x.length:Int):=by simpa[big] using h
   rw[List.length_take,show(4:Int).toNat=4 from rfl]
   omega
 refine S2 (gC tR (gC rU (gC a17 (gC cE (gC sC (gC qO gN)))))) func168 Y7 (α:=let y:=(P2 no b);let r:=(0=y.Q/\y.sl.length=0/\True);bd ((b.length:Int)>65536) (r/\2=J7 no b/\True) (∃(x:uO.ι),let q:=(T2 (V7 x) (4:Int));let v:=(↑(q.getD 1 (0:UInt8)).toNat:Int);let z:=(↑(q.getD 0 (0:UInt8)).toNat:Int);let p:=(S4 (R0 (V7 x) (4:Int)) (false||big (V7 x) (4:Int)));let u:=(! p.fl&&p.l.isEmpty);((b=x/\True)/\m5 x)/\br (!P4 x) (r/\8=J7 no b/\True) (w2 (4:Int)/\iM (2:Int) q.length/\∃(d:a4Y.ι),((List.drop 2 q=d/\True)/\oD d)/\((! u)=false->V6 (0:Int) q.length)/\((! u||z !=112)=false->V6 (1:Int) q.length)/\∃(X:yI.ι),((! u||z !=112||IntKind.i64.wrap v !=no)=false->(((↑(be d):Int)=X.Q/\(Z2 Z5 p.out X.sl)/\True)/\True)/\PgB X)/\br (! u||z !=112||IntKind.i64.wrap v !=no|| !o9 X) (r/\3=J7 no b/\True) (((↑(be d):Int)=y.Q/\(Z2 Z5 p.out y.sl)/\True)/\0=J7 no b/\True)))) ⟨λh=>?_,λ_=>⟨b,⟨Y3,Nat.le_trans B W6⟩,λh=>?_,λh=>⟨⟨Z9,Z9⟩,⟨Z9,bG⟩,(T2 (V7 b) 4).drop 2,⟨Y3,by unfold oD;rw[List.length_drop,L];omega⟩,
  λ_=>⟨Z9,bG⟩,λ_=>⟨Z9,bG⟩,rpQ (V7 b),λ_=>⟨Y3,?_⟩,λg=>?_,λg=>?_⟩⟩⟩
 ·have:=D4 h;have B:b.length<=1000:=B;omega
 ·have hu:P4 b=false:=by simpa using h
  have e:(G0 no b).2=false:=by unfold G0;rw[hu];rfl
  have f:P2 no b=⟨0,[]⟩:=by unfold P2;rw[e];rfl
  have i:J7 no b=8:=by unfold J7;rw[hu];rfl
  rw[f,i];exact Y3
 ·show(S4 (R0 (V7 b) 4) (false||big (V7 b) 4)).out.length<1000000000000;unfold S4;rw[vL];have:=u9 (R0 (V7 b) 4);omega
 ·have hu:P4 b=true:=by simpa using h
  have q:=(a87 no b hu).1;have e:(G0 no b).2=false:=by
   have g:(oK no (V7 b)|| !o9 (rpQ (V7 b)))=true:=g;rw[g] at q;exact(xO _).mp q.symm
  have f:P2 no b=⟨0,[]⟩:=by unfold P2;rw[e];rfl
  have i:J7 no b=3:=by unfold J7;rw[hu,e];rfl
  rw[f,i];exact Y3
 ·have hu:P4 b=true:=by simpa using h
  have q:=a87 no b hu;have e:(G0 no b).2=true:=by
   have g:(oK no (V7 b)|| !o9 (rpQ (V7 b)))=false:=g;rw[g] at q;exact(yC _).mp q.1.symm
  have f:P2 no b=rpQ (V7 b):=by unfold P2;rw[e,q.2 e];rfl
  have i:J7 no b=0:=by unfold J7;rw[hu,e];rfl
  rw[f,i];exact Y3
open Go.SS Go.RowKit Go.Shelf Go.Proofs.Tryz
attribute [local go_sem] Oper.semAt_some
structure Pend where
 at_:Int
 d:Bz
 deriving Inhabited
def Pend.ts(p:Pend):List T:=[Ji p.at_,.str p.d]
def Pend.val(p:Pend):Value:=.agg #[.int .i64 p.at_,.string ⟨p.d.toArray⟩]
def vT{α:Type}(f:Nat->α)(k:Nat):List α:=(List.range k).map f
theorem pW{α:Type}(f:Nat->α)(k:Nat):vT f (k+1)=vT f k++[f k]:=by simp[vT,List.range_succ]
theorem a0M{α:Type}(f:Nat->α)(k:Nat):(vT f k).length=k:=by simp[vT]
def bwF(ps:Nat->Pend)(len j:Nat):Nat×Pend:=(len-1-j,ps (len-1-j))
def bwE(x:Nat×Pend):Array Value:= #[.int .i64 (x.1:Int),x.2.val]
def KpB(n Bs:Nat)(A B:World):Prop:=Below n A B/\∀v,A.cell? ⟨Bs,0,none⟩=some v->B.cell? ⟨Bs,0,none⟩=some v
theorem KpB.refl(n Bs:Nat)(A:World):KpB n Bs A A:=⟨Below.refl _ _,λ_ h=>h⟩
theorem KpB.trans{n Bs:Nat}{A B C:World}(h:KpB n Bs A B)(k:KpB n Bs B C):KpB n Bs A C:=⟨h.1.trans k.1,λv hv=>k.2 v (h.2 v hv)⟩
set_option maxHeartbeats 2000000 in
theorem c2T(F:Fence)(n:Nat)(h8:F.fn 273)(hro:F.round=none)(hn:1<=n)(l Bs n₀ b off len cap:Nat)(ps:Nat->Pend)(hreach:len<1000000000000)(hb:b<n₀)(J Jx:List (Nat×Pend)->World->Prop)
  (hY:∀pre x W,J pre W->pre.length<len->YieldAt F (n-1) prog l (bwE x) W λe W'=>
   (e= .returned (.bool true)/\J (pre++[x]) W'/\KpB n₀ Bs W W')∨(e= .returned (.bool false)/\Jx (pre++[x]) W'))
  (W:World) (hBs:W.cell? ⟨Bs,0,none⟩=some (.slice (some ⟨b,off,none⟩) len cap))
  (hc0:∀j,j<len->W.cell? ⟨b,off+j*2,none⟩=some (.int .i64 (ps j).at_)) (hc1:∀j,j<len->W.cell? ⟨b,off+j*2+1,none⟩=some (.string ⟨(ps j).d.toArray⟩)) (h0:J [] W):
  CallsIn F n prog 273 #[.func (.yield l) #[] #[],.pointer (some ⟨Bs,0,none⟩)] W λe W'=>(∃v,e= .returned v)/\
   ((∃ys,ys=vT (bwF ps len) len/\J ys W')∨(∃pre,(∃k,k<=len/\pre=vT (bwF ps len) k)/\Jx pre W')):=by
 refine callsIn_of_wp func273 rfl h8 ?_ hro
 simp only[Tryz.ntmps273,List.size_toArray,List.length_cons,List.length_nil,Nat.reduceAdd,Nat.reduceSub,Array.replicate_succ,Array.replicate_zero,List.push_toArray,List.append_toArray,List.nil_append,List.cons_append]
 gi_wp2
 gi_loopw [3] (λi wr=>∃k:Nat,k<=len/\i= .int .i64 ((len:Int)-1-k)/\J (vT (bwF ps len) k) wr/\KpB n₀ Bs W wr)
  (λi _=>(intOf i+1).toNat)
 case atStart=>exact⟨0,N7 _,X3,h0,KpB.refl _ _ _⟩
 case round=>
  obtain⟨k,hk,rfl,hJs,hnx⟩:=hrel;have hBx:wr.cell? ⟨Bs,0,none⟩=some (.slice (some ⟨b,off,none⟩) len cap):=hnx.2 _ hBs;by_cases hlt:k<len
  ·obtain⟨m,hm⟩:∃m,len=k+1+m:=⟨len-1-k,Z9⟩
   have hfk:bwF ps len k=(m,ps m):=by unfold bwF;rw[show len-1-k=m by omega]
   have e1:(len:Int)-1-k=(m:Int):=Z9
   rw[e1];have hm1:m<len:=Z9
   have hm2:len<=m+k+1:=Z9
   have hm3:m+k+1<=len:=Z9
   clear hm e1;have hx0:=(hnx.1.cell (p:=⟨b,off+m*2,none⟩) hb).trans (hc0 m Z9)
   have hx1:=(hnx.1.cell (p:=⟨b,off+m*2+1,none⟩) hb).trans (hc1 m Z9)
   obtain⟨fn,tmps,assign,body,hy,hR⟩:=hY _ (m,ps m) wr hJs (by rw[a0M];exact hlt)
   dsimp only[bwE,Pend.val] at hy
   gi_wp2
   refine hR.mono ?_
   rintro e W3 (⟨rfl,hJ3,hk3⟩|⟨rfl,hJx3⟩)
   ·gi_wp2
    go_roundw
    case rel=>exact⟨k+1,Z9,by congr 1;omega,by rw[pW,hfk];exact hJ3,hnx.trans hk3⟩
    case measure=>(simp[intOf]<;>omega)
   ·gi_wp2
    refine bodyPost_ret (results_none rfl _ _ _) rfl ?_
    exact⟨⟨_,rfl⟩,.inr ⟨_,⟨k+1,Z9,by rw[pW,hfk]⟩,hJx3⟩⟩
  ·obtain rfl:k=len:=by omega
   have e1:((k:Nat):Int)-1-k= -1:=Z9
   rw[e1]
   gi_wp2
   go_end0
   exact⟨⟨_,rfl⟩,.inl ⟨_,rfl,hJs⟩⟩
set_option maxHeartbeats 1000000 in
theorem a7u(F:Fence)(n:Nat)(h8:F.fn 273)(hro:F.round=none)(l Bs cap:Nat)(a:Option Addr)(J:List (Nat×Pend)->World->Prop)(W:World)(hBs:W.cell? ⟨Bs,0,none⟩=some (.slice a 0 cap))(h0:J [] W):
  CallsIn F n prog 273 #[.func (.yield l) #[] #[],.pointer (some ⟨Bs,0,none⟩)] W λe W'=>(∃v,e= .returned v)/\J [] W':=by
 refine callsIn_of_wp func273 rfl h8 ?_ hro
 simp only[Tryz.ntmps273,List.size_toArray,List.length_cons,List.length_nil,Nat.reduceAdd,Nat.reduceSub,Array.replicate_succ,Array.replicate_zero,List.push_toArray,List.append_toArray,List.nil_append,List.cons_append]
 gi_wp2
 gi_loopw [3] (λi wr=>i= .int .i64 (-1)/\J [] wr) (λ_ _=>0)
 case atStart=>exact⟨rfl,h0⟩
 case round=>
  obtain⟨rfl,hJs⟩:=hrel
  gi_wp2
  go_end0
  exact⟨⟨_,rfl⟩,hJs⟩
set_option maxHeartbeats 1000000 in
theorem c5w(F:Fence)(n:Nat)(h6:F.fn 232)(hro:F.round=none)(a:Option Addr)(len cap:Nat)(w:World):
  CallsIn F n prog 232 #[.slice a len cap] w λe w'=>e= .returned (.func (.func 273) #[] #[.pointer (some ⟨w.heap.size,0,none⟩)])/\w'=w.alloc (.cells #[.slice a len cap] 24):=by
 refine callsIn_of_wp func232 rfl h6 ?_ hro
 simp only[Tryz.ntmps232,List.size_toArray,List.length_cons,List.length_nil,Nat.reduceAdd,Nat.reduceSub,Array.replicate_succ,Array.replicate_zero,List.push_toArray,List.append_toArray,List.nil_append,List.cons_append]
 gi_wp2
 go_ret
 exact Y3
def zF(n:Nat)(W:World)(v:Value)(len:Nat)(ps:Nat->Pend):Prop:=
 (∃a cap,v= .slice a 0 cap/\len=0)∨∃b off cap,v= .slice (some ⟨b,off,none⟩) len cap/\b<n/\∀j,j<len->W.cell? ⟨b,off+j*2,none⟩=some (.int .i64 (ps j).at_)/\W.cell? ⟨b,off+j*2+1,none⟩=some (.string ⟨(ps j).d.toArray⟩)
theorem zF.below{n:Nat}{A B:World}(h:Below n A B){v:Value}{len:Nat}{ps:Nat->Pend}:zF n A v len ps->zF n B v len ps
 | .inl e=>.inl e
 | .inr ⟨b,off,cap,e,hb,hc⟩=>.inr ⟨b,off,cap,e,hb,λj J=>⟨(h.cell (p:=⟨b,off+j*2,none⟩) hb).trans (hc j J).1,(h.cell (p:=⟨b,off+j*2+1,none⟩) hb).trans (hc j J).2⟩⟩
theorem b4q(F:Fence)(n:Nat)(u:F.fn 273)(o:F.round=none)(x:1<=n)(Bs N:Nat)(v:Value)(len:Nat)(ps:Nat->Pend)(h:len<1000000000000)(w:World)(q:Bs<w.heap.size)(i:N<=w.heap.size)
  (C:w.cell? ⟨Bs,0,none⟩=some v) (I:zF N w v len ps):
  SeqStopsK F n prog 273 #[.pointer (some ⟨Bs,0,none⟩)] bwE (KpB N Bs) (λz=>z=vT (bwF ps len) len)
   (λpre=>∃k,k<=len/\pre=vT (bwF ps len) k) len w:=λl J Jx W t _ _ Y r=>by
 have d:=(t.cell (p:=⟨Bs,0,none⟩) q).trans C;rcases I.below (t.mono i) with⟨a,cap,rfl,rfl⟩|⟨b,off,cap,rfl,B,f⟩
 ·exact(a7u F n u o l Bs cap a J W d r).mono λe W' ⟨A,g⟩=>⟨A,.inl ⟨_,rfl,g⟩⟩
 ·exact c2T F n u o x l Bs N b off len cap ps h B J Jx Y W d (λj g=>(f j g).1) (λj g=>(f j g).2) r
theorem zF.mono{n N:Nat}{W:World}{v:Value}{len:Nat}{ps:Nat->Pend}(h:n<=N):zF n W v len ps->zF N W v len ps
 | .inl e=>.inl e
 | .inr ⟨b,off,cap,e,hb,hc⟩=>.inr ⟨b,off,cap,e,zH hb h,hc⟩
def eO(n:Nat)(W:World)(v:Value)(m:Nat)(L:List (Bz)):Prop:=∃b off cap,v= .slice (some ⟨b,off,none⟩) m cap/\b<n/\∀j,j<m->W.cell? ⟨b,off+j,none⟩=some (.string ⟨(L.getD j []).toArray⟩)
theorem eO.below{n:Nat}{A B:World}(h:Below n A B){v:Value}{m:Nat}{L:List (Bz)}:eO n A v m L->eO n B v m L:=
 λ⟨b,off,cap,e,hb,hc⟩=>⟨b,off,cap,e,hb,λj J=>(h.cell (p:=⟨b,off+j,none⟩) hb).trans (hc j J)⟩
theorem gH(w:World)(cs:Array Value)(t:TypeId)(j:Nat){v:Value}(h:cs[j]? =some v):(w.alloc (.cells cs t)).cell? ⟨w.heap.size,j,none⟩=some v:=by
 have:=World.alloc_heap_new w (.cells cs t);unfold World.cell?;simp only;rw[this];exact h
theorem vY{A:World}(o:Obj){p:Addr}{v:Value}(h:A.cell? p=some v):(A.alloc o).cell? p=some v:=cell_kept h (World.grownBy_alloc _ o none) (λr e=>by cases e)
theorem b0e{w:World}(cs:Array Value)(t:TypeId)(d O o:Obj)(j:Nat){v:Value}(h:cs[j]? =some v):
  ((((w.alloc (.cells cs t)).alloc d).alloc O).alloc o).cell? ⟨w.heap.size,j,none⟩=some v:=by
 exact vY _ (vY _ (vY _ (gH w cs t j h)))
set_option maxHeartbeats 4000000 in
theorem b87(F:Fence)(n:Nat)(h3:F.fn 166)(h4:F.fn 232)(h5:F.fn 273)(hro:F.round=none)(hn:6<=n)(sec cache keep:Value)(armed:Bool)(at_:Nat)(m len:Nat)(L:List (Bz))(ps:Nat->Pend)(ca:Option Addr)(clen ccap:Nat)(w:World)
  (hcv:cache= .slice ca clen ccap) (hI:zF w.heap.size w cache len ps) (hS:eO w.heap.size w sec m L) (hreach:len<1000000000000) (hat:at_<m):
  CallsIn F n prog 166 #[.agg #[sec,cache,.bool armed,keep],.int .i64 at_] w λe W'=>
   ∃v,e= .returned v/\Below w.heap.size w W'/\((v= .string ⟨(L.getD at_ []).toArray⟩/\∀j,j<len->(ps j).at_≠at_)∨∃k,k<len/\v= .string ⟨(ps (len-1-k)).d.toArray⟩/\(ps (len-1-k)).at_=at_/\∀j,j<k->(ps (len-1-j)).at_≠at_):=by
 have h1:1<=n:=Z9
 subst hcv;refine callsIn_of_wp_marks func166 rfl h3 ?_ hro
 simp only[Tryz.ntmps166,List.size_toArray,List.length_cons,List.length_nil,Nat.reduceAdd,Nat.reduceSub,Array.replicate_succ,Array.replicate_zero,List.push_toArray,List.append_toArray,List.nil_append,List.cons_append]
 gi_wp2_with (gi_at_call 232;refine(c5w F (n-1) h4 hro _ _ _ _).mono ?_;rintro e w' ⟨rfl,rfl⟩)
 obtain⟨W0,hW0⟩:∃W0,(((w.alloc (.cells #[sec,.slice ca clen ccap,.bool armed,keep] 27)).alloc (.cells #[.int .i64 (at_:Int)] 3)).alloc (.cells #[.string ⟨#[]⟩] 9)).alloc (.cells #[.slice ca clen ccap] 24)=W0:=⟨_,rfl⟩;have bD:W0.cell? ⟨w.heap.size,0,none⟩=some sec:=by rw[←hW0];exact b0e _ _ _ _ _ 0 rfl
 have bA:Boxed W0 (w.heap.size+1) 3 (.int .i64 (at_:Int)):=by
  have:=((Boxed.new (w.alloc (.cells #[sec,.slice ca clen ccap,.bool armed,keep] 27)) 3 (.int .i64 (at_:Int))).alloc (.cells #[.string ⟨#[]⟩] 9)).alloc (.cells #[.slice ca clen ccap] 24);rw[←hW0]
  simpa only[World.size_alloc] using this
 have bR:Boxed W0 (w.heap.size+1+1) 9 (.string ⟨#[]⟩):=by
  have:=(Boxed.new ((w.alloc (.cells #[sec,.slice ca clen ccap,.bool armed,keep] 27)).alloc (.cells #[.int .i64 (at_:Int)] 3)) 9 (.string ⟨#[]⟩)).alloc (.cells #[.slice ca clen ccap] 24);rw[←hW0]
  simpa only[World.size_alloc] using this
 have bN:Boxed W0 (w.heap.size+1+1+1) 24 (.slice ca clen ccap):=by
  have:=Boxed.new (((w.alloc (.cells #[sec,.slice ca clen ccap,.bool armed,keep] 27)).alloc (.cells #[.int .i64 (at_:Int)] 3)).alloc (.cells #[.string ⟨#[]⟩] 9)) 24 (.slice ca clen ccap);rw[←hW0]
  simpa only[World.size_alloc] using this
 have hB0:Below w.heap.size w W0:=by
  rw[←hW0];exact((((Below.refl _ w).alloc (U9 _) _).alloc X3 _).alloc I0 _).alloc I0 _
 have hsz:W0.heap.size=w.heap.size+4:=by rw[←hW0];simp
 rw[hW0];have kpB_b:∀(W:World) (l:Nat) (o o':Obj),W0.heap.size<=l->W.heap[l]? =some o->o.isCells=false->o.isWalk=false->KpB w.heap.size (w.heap.size+1+1+1) W (W.putObj l o'):=λW l o o' hl ho hc hk=>
  ⟨belowK_b (w:=w) (U9 _) W l o o' Z9 ho hc hk,λv hv=>cell_kept hv (grownBy_putObj' _ l o') (λr e=>by cases e;exact⟨_,ho,hc⟩)⟩
 refine wpIn_rangeFunc_ownH hro h1 (gf:=273) (lb:= #[.pointer (some ⟨w.heap.size+1+1+1,0,none⟩)]) rfl h5 (enters_of func273 P9 rfl)
  (b4q F (n-1) h5 hro Z9 (w.heap.size+1+1+1) w.heap.size _ len ps hreach W0 Z9 Z9 bN.cell (hI.below hB0)) KpB.trans kpB_b (Below.refl _ _) (λ_=>rfl)
  (λpre W=>(((∀x ∈ pre,x.2.at_≠(at_:Int))/\Boxed W (w.heap.size+1+1) 9 (.string ⟨#[]⟩))/\(Boxed W (w.heap.size+1) 3 (.int .i64 (at_:Int))/\W.cell? ⟨w.heap.size,0,none⟩=some sec))/\Below w.heap.size w W)
  (λc pre W=>((c= .ret/\∃ini last,pre=ini++[last]/\(∀p ∈ ini,p.2.at_≠(at_:Int))/\last.2.at_=(at_:Int)/\W.cell? ⟨w.heap.size+1+1,0,none⟩=some (.string ⟨last.2.d.toArray⟩)))/\Below w.heap.size w W)
  (OwnFrom.and (OwnFrom.and (OwnFrom.and (ownFrom_pure _ _) (Own.from (boxed_own _ _ _) _)) (OwnFrom.and (Own.from (boxed_own _ _ _) _) (Own.from (λs A B row hs hg hr=>cell_kept hs hg hr) _))) (ownFrom_below (U9 _) Z9))
  (λc=>OwnFrom.and (Own.from (λs A B row hs hg hr=>by obtain⟨hc,ini,last,e1,e2,e3,e4⟩:=hs;exact⟨hc,ini,last,e1,e2,e3,cell_kept e4 hg hr⟩) _) (ownFrom_below (U9 _) Z9))
  ⟨⟨⟨X3,bR⟩,⟨bA,bD⟩⟩,hB0⟩
  (λx a' W=>∃Bx,w.heap.size+1+1<Bx/\(W.cell? ⟨Bx,0,none⟩=some (.int .i64 x.2.at_)/\W.cell? ⟨Bx,1,none⟩=some (.string ⟨x.2.d.toArray⟩))/\a'={tmps:= #[.agg #[sec,.slice ca clen ccap,.bool armed,keep],.int .i64 (at_:Int),.pointer (some ⟨w.heap.size,0,none⟩),.pointer (some ⟨w.heap.size+1,0,none⟩),.pointer (some ⟨w.heap.size+1+1,0,none⟩),undef,.pointer (some ⟨Bx,0,none⟩),.pointer (some ⟨w.heap.size,1,none⟩),.slice ca clen ccap,.func (.func 273) #[] #[.pointer (some ⟨w.heap.size+1+1+1,0,none⟩)],.int .i64 (x.1:Int),x.2.val,undef,undef,undef,undef,undef,undef,undef,undef,undef,undef,undef],defers:=[]})
  (λx a' _ X Y row hs hg hr=>by obtain⟨Bx,e1,⟨e2,e4⟩,e3⟩:=hs;exact⟨Bx,e1,⟨cell_kept e2 hg (λr e=>(hr r e).2),cell_kept e4 hg (λr e=>(hr r e).2)⟩,e3⟩)
  ?assign ?body ?done ?stop
 case assign=>
  rintro l pre x W K ⟨⟨⟨hp,bR1⟩,bA1,bD1⟩,hB1⟩ hK;dsimp only[bwE,Pend.val]
  gi_wp2
  exact hK _ _ ((KeepsOthers.alloc _ _).from _) ⟨(Below.refl _ W).alloc hB1.size _,λv hv=>vY _ hv⟩ ⟨⟨⟨hp,bR1.alloc _⟩,bA1.alloc _,vY _ bD1⟩,hB1.alloc hB1.size _⟩ ⟨W.heap.size,bR1.lt,⟨gH _ _ _ 0 rfl,gH _ _ _ 1 rfl⟩,rfl⟩
 case body=>
  rintro l pre x a' W hl ⟨r,hr⟩ ⟨⟨⟨hp,bR1⟩,bA1,bD1⟩,hB1⟩ ⟨Bx,hBx,⟨e2,e4⟩,rfl⟩ hlt;have cA:=bA1.cell;have cR:=bR1.cell;have fR:=bR1.frozen
  gi_wp2
  ·rename_i hx;have hx:x.2.at_=(at_:Int):=by simpa using hx
   exact⟨(KeepsOthers.setCell _ _ _).from _,⟨rfl,pre,x,rfl,hp,hx,(bR1.set _).cell⟩,hB1.setCell (p:=⟨w.heap.size+1+1,0,none⟩) I0 _⟩
  ·rename_i hx;have hx:x.2.at_≠(at_:Int):=by simpa using hx
   exact⟨KeepsFrom.refl _ _,KpB.refl _ _ _,⟨⟨⟨λp hp'=>(List.mem_append.1 hp').elim (hp p) (λe=>by simp at e;subst e;exact hx),bR1⟩,bA1,bD1⟩,hB1⟩⟩
 case done=>
  rintro D ys W hD rfl ⟨⟨⟨hp,bR1⟩,bA1,bD1⟩,hB1⟩ hK;have cA:=bA1.cell;have cR:=bR1.cell;have fR:=bR1.frozen;obtain⟨sb,so,sc,rfl,hsb,hsc⟩:=hS;have cS:W.cell? ⟨sb,so+at_,none⟩=some (.string ⟨(L.getD at_ []).toArray⟩):=(hB1.cell (p:=⟨sb,so+at_,none⟩) hsb).trans (hsc at_ hat);have hg:(L.getD at_ []:Bz)=L[at_]?.getD []:=Q2
  rw[hg] at cS
  gi_wp2
  have hK':=(KeepsOthers.setCell W ⟨w.heap.size+1+1,0,none⟩ (.string ⟨(L[at_]?.getD []).toArray⟩)).same D _ hK rfl;refine⟨X3,.inl ⟨_,_,rfl,run_takeDeferred hK',?_⟩⟩
  have hc5:=cell_kept (bR1.set (.string ⟨(L[at_]?.getD []).toArray⟩)).cell (grownBy_putObj' _ D (.deferred none)) (λr e=>by cases e;exact⟨_,hK',rfl⟩)
  refine⟨.string ⟨(L[at_]?.getD []).toArray⟩,?_,_,rfl,(hB1.setCell (p:=⟨w.heap.size+1+1,0,none⟩) I0 _).trans (belowK_b (w:=w) (U9 _) _ D _ _ Z9 hK' rfl rfl),.inl ⟨rfl,λj hj=>?_⟩⟩
  ·simp[results,Tryz.f166,go_sem,hc5]
  ·have:=hp (bwF ps len (len-1-j)) (by simp only[vT,List.mem_map,List.mem_range];exact⟨len-1-j,Z9,rfl⟩)
   unfold bwF at this;rw[show len-1- (len-1-j)=j by omega] at this
   exact this
 case stop=>
  rintro D c pre W hD ⟨k,hk,rfl⟩ ⟨⟨rfl,ini,last,e1,e2,e3,hcr⟩,hB1⟩ hK
  gi_wp2
  refine⟨X3,.inl ⟨_,_,rfl,run_takeDeferred hK,?_⟩⟩
  have hc5:=cell_kept hcr (grownBy_putObj' _ D (.deferred none)) (λr e=>by cases e;exact⟨_,hK,rfl⟩)
  obtain⟨k',rfl⟩:∃k',k=k'+1:=by
   cases k with
   |zero=>simp[vT] at e1
   |succ k'=>exact⟨k',rfl⟩
  rw[pW] at e1;obtain⟨rfl,e5⟩:=List.append_inj' e1 rfl;obtain rfl:bwF ps len k'=last:=by simpa using e5
  refine⟨.string ⟨(bwF ps len k').2.d.toArray⟩,?_,_,rfl,hB1.trans (belowK_b (w:=w) (U9 _) W D _ _ Z9 hK rfl rfl),.inr ⟨k',Z9,rfl,e3,λj hj=>e2 (bwF ps len j) (by simp only[vT,List.mem_map,List.mem_range];exact⟨j,hj,rfl⟩)⟩⟩
  simp[results,Tryz.f166,go_sem,hc5]
structure Dsk where
 E:List (Bz)
 C:List Pend
 A:Bool
 keep:List Int
 deriving Inhabited
def Y8(L:List Pend)(i:Nat):List T:=(L.getD i dz).ts
def qX(L:List Pend):T:=.sl 2 L.length (Y8 L)
def Y9(L:List Int)(i:Nat):List T:=[Ji (L.getD i 0)]
def cN(L:List Int):T:=.sl 1 L.length (Y9 L)
def Dsk.ts(d:Dsk):List T:=[xZ d.E,qX d.C,.bool d.A,cN d.keep]
abbrev yA(a b:Dsk):Prop:=Z2 Z5 a.E b.E/\Z2 Y8 a.C b.C/\a.A=b.A/\Z2 Y9 a.keep b.keep/\True
theorem eqD(d:Dsk):yA d d:=Y3
def I9(L:List Pend)(at_:Int):Nat->Option (Bz)
 |0=>none
 |n+1=>if(L.getD n dz).at_=at_ then some (L.getD n dz).d else I9 L at_ n
theorem lE{L:List Pend}{at_:Int}:∀{n:Nat},(∀j,j<n->(L.getD j dz).at_≠at_)->I9 L at_ n=none
 |0,_=>rfl
 |n+1,h=>by
  unfold I9;rw[if_neg (h n (Nat.lt_succ_self n))];exact lE λj J=>h j Z9
theorem kU{L:List Pend}{at_:Int}{i:Nat}(h:(L.getD i dz).at_=at_):∀{n:Nat},i<n->(∀j,i<j->j<n->(L.getD j dz).at_≠at_)->I9 L at_ n=some (L.getD i dz).d
 |0,hi,_=>absurd hi (J9 i)
 |n+1,hi,hj=>by
  unfold I9;by_cases e:i=n
  ·subst e;rw[if_pos h]
  ·rw[if_neg (hj n Z9 (Nat.lt_succ_self n))]
   exact kU h Z9 λj f g=>hj j f Z9
def T7(d:Dsk)(at_:Nat):Bz:=(I9 d.C at_ d.C.length).getD (d.E.getD at_ [])
def AtB(x:Dsk×Nat):Prop:=x.2<x.1.E.length/\x.1.C.length<1000000000000
def mD:Rl:=⟨Dsk×Nat,λx=>[.agg x.1.ts,Ji x.2],λx=>.str (T7 x.1 x.2),AtB⟩
def b8K:Con:=.rel mD
theorem bM{E:Env}{w:World}{sz n:Nat}{row:Nat->List T}{v:Value}(h:Rd E w (.sl sz n row) v):(∃a,v= .slice a 0 0/\n=0)∨(∃(b off cap:Nat) (u:Nat->Nat->Value),v= .slice (some ⟨b,off,none⟩) n cap/\E.N b/\
  (∀i j t,i<n->(row i)[j]? =some t->w.cell? ⟨b,off+i*sz+j,none⟩=some (u i j)/\Rd E w t (u i j))):=by
 cases h with
 |slNil=>exact .inl ⟨_,Y3⟩
 |slEmp=>exact .inl ⟨_,Y3⟩
 |sl _ _ _ b off cap u e C l f r d=>exact .inr ⟨b,off,cap,u,rfl,e,λi j t hi J=>⟨r i j t hi J,d i j t hi J⟩⟩
theorem iQ{E:Env}{w:World}{l:Bz}{v:Value}(h:Rd E w (.str l) v):v= .string ⟨l.toArray⟩:=by cases h;rfl
theorem uP{E:Env}{w:World}{k:IntKind}{n:Int}{v:Value}(h:Rd E w (.int k n) v):v= .int k n:=by cases h;rfl
theorem a2V{E:Env}{w:World}{b:Bool}{v:Value}(h:Rd E w (.bool b) v):v= .bool b:=by cases h;rfl
theorem a7r{E:Env}{w:World}{cs:List T}{v:Value}(h:Rd E w (.agg cs) v):∃vs,v= .agg vs/\uJ E w cs vs:=by
 cases h with
 |agg _ vs l t=>exact⟨vs,rfl,l,t⟩
theorem b8k{E:Env}{w:World}{L:List (Bz)}{v:Value}(hE:∀b,E.N b->b<w.heap.size)(h:Rd E w (xZ L) v)(n:0<L.length):eO w.heap.size w v L.length L:=by
 rcases bM h with⟨a,_,f⟩|⟨b,off,cap,u,rfl,hN,U⟩
 ·omega
 ·refine⟨b,off,cap,rfl,hE b hN,λj hj=>?_⟩
  obtain⟨d,e⟩:=U j 0 (.str (L.getD j [])) hj rfl;rw[iQ e] at d
  simpa using d
theorem b5u{E:Env}{w:World}{L:List Pend}{v:Value}(hE:∀b,E.N b->b<w.heap.size)(h:Rd E w (qX L) v):zF w.heap.size w v L.length (λi=>L.getD i dz)/\∃a l c,v= .slice a l c:=by
 rcases bM h with⟨a,rfl,g⟩|⟨b,off,cap,u,rfl,hN,U⟩
 ·exact⟨.inl ⟨a,0,rfl,g⟩,_,_,_,rfl⟩
 ·refine⟨.inr ⟨b,off,cap,rfl,hE b hN,λj hj=>⟨?_,?_⟩⟩,_,_,_,rfl⟩
  ·obtain⟨e,f⟩:=U j 0 (.int .i64 (L.getD j dz).at_) hj rfl;rw[uP f] at e;exact e
  ·obtain⟨e,f⟩:=U j 1 (.str (L.getD j dz).d) hj rfl;rw[iQ f] at e;exact e
theorem fE:GK 166 b8K:=gk func166<|by
 rintro⟨d,at_⟩ ⟨t,h⟩;simp only at t h;intro E w vs M x hv;obtain⟨z,hv⟩:=hv;obtain⟨q,V,rfl⟩:∃q V,vs= #[q,V]:=by
  have h2:vs.size=2:=z.symm;exact⟨vs[0],vs[1],by apply Array.ext<;>simp[h2];intro i hi _;match i,hi with|0,_=>rfl|1,_=>rfl⟩
 obtain⟨cs,rfl,u,r⟩:=a7r (hv 0 (.agg d.ts) q rfl rfl);obtain rfl:=uP (hv 1 (.int .i64 at_) V rfl rfl);obtain⟨f,C,c2,o,rfl⟩:∃f C c2 o,cs= #[f,C,c2,o]:=by
  have h2:cs.size=4:=u.symm;exact⟨cs[0],cs[1],cs[2],cs[3],by apply Array.ext<;>simp[h2];intro i hi _;match i,hi with|0,_=>rfl|1,_=>rfl|2,_=>rfl|3,_=>rfl⟩
 have I:=b8k x (r 0 (xZ d.E) f rfl rfl) Z9
 obtain⟨F,a,l,c,g⟩:=b5u x (r 1 (qX d.C) C rfl rfl);obtain rfl:=a2V (r 2 (.bool d.A) c2 rfl rfl);refine(callsIn_wide (n:=6)).1 ((b87 Fence.wide 6 trivial trivial trivial rfl (U9 _) f C o d.A at_ d.E.length d.C.length d.E (λi=>d.C.getD i dz) a l c w g F I h t).mono λe W' A=>?_)
 obtain⟨v,rfl,B,R⟩:=A;refine⟨v,rfl,B,?_⟩
 have:v= .string ⟨(T7 d at_).toArray⟩:=by
  rcases R with⟨rfl,J⟩|⟨k,L,rfl,h1,h2⟩
  ·unfold T7;rw[lE J];rfl
  ·unfold T7;rw[kU (i:=d.C.length-1-k) h1 Z9 λj hj1 hj2=>?_]
   ·rfl
   ·have:=h2 (d.C.length-1-j) Z9
    rw[show d.C.length-1- (d.C.length-1-j)=j by omega] at this
    exact this
 rw[this];exact .str _
def O8(m:Nat)(p:Pend):Bool:= !V9 p.at_ 0 ((m:Int)-1)||decide ((p.d.length:Int)>160)
def k6(d:Dsk):Prop:=1<=d.E.length/\d.E.length<=100/\d.C.length<=500/\d.keep.length<=500/\(d.A=false->d.keep.length=0)/\(∀i,i<d.E.length->(d.E.getD i []).length<=160)/\
 ∀i,i<d.C.length->O8 d.E.length (d.C.getD i dz)=false
noncomputable instance(d:Dsk):Decidable (k6 d):=Classical.propDecidable _
def zQ(d:Dsk):Bool:=decide (k6 d)
theorem lV(d:Dsk):zQ d=true↔k6 d:=decide_eq_true_iff
theorem a1h{d:Dsk}(h:¬k6 d):false=zQ d:=(sX h).symm
def b9B(d:Dsk):Prop:=N6 d.E.length/\N6 d.C.length/\N6 d.keep.length
def c1Y(d:Dsk):T:=.fn (.func 162) [.bref d.ts]
def a0k:Rl:=⟨Dsk×Pend,λx=>[.agg x.2.ts,.bref x.1.ts],λx=>.bool (O8 x.1.E.length x.2),λx=>N6 x.1.E.length⟩
def b05:Con:=.rel a0k
theorem a7C:GK 162 b05:=gk func162<|by
 rintro⟨d,p⟩ (h:d.E.length<1000000000000);refine S2 (gC uS gN) func162 Y7 (α:=let q:=(d.E.length:Int);u3 q/\(!(decide (0<=p.at_)&&decide (p.at_<q))||decide ((p.d.length:Int)>160))=O8 d.E.length p) ⟨⟨Z9,Z9⟩,?_⟩
 unfold O8 V9;rw[show decide (p.at_<(d.E.length:Int))=decide (p.at_<=(d.E.length:Int)-1) from decide_eq_decide.2 Z9]
theorem U2{ρ:Nat->Option Nat}(cs:List T):L6 ρ (.bref cs) (.bref cs):=⟨1,_,rfl,RLe.refl _⟩
def bE:Rl:=⟨List Pend×Dsk,λx=>[qX x.1,c1Y x.2],λx=>Ji (S9 x.1.length λi=>O8 x.2.E.length (x.1.getD i dz)),λx=>N6 x.1.length/\N6 x.2.E.length⟩
def b2G:Con:=.rel bE
def b1S(L:List Pend)(d:Dsk):Nat->Ann
 |0=>.one (V0 L.length λi=>O8 d.E.length (L.getD i dz)) (λx=>⟨[(0,qX L),(1,c1Y d),(7,Ji L.length),(8,Ji x.1)],[]⟩) (λx=>L.length-x.1) [] [] (λ_=>Y7)
 |_=>.none
theorem a7e:GK 229 b2G:=gk func229<|by
 rintro⟨L,d⟩ ⟨f,hd⟩;have f:L.length<1000000000000:=f;refine S2 (gC a7C gN) func229 (b1S L d) (α:=let r:=(L.length:Int);let p:=(T.bref [T.sl 1 d.E.length (Z5 d.E),T.sl 2 d.C.length (Y8 d.C),T.bool d.A,T.sl 1 d.keep.length (Y9 d.keep)]);(∃(x:V0 L.length λ(i:Nat)=>O8 d.E.length (L.getD i dz)),((Z2 Y8 L L)/\(Fn.func 162=Fn.func 162/\L6 (λ(x:Nat)=>none) p p/\True)/\r=r/\0=(x.1:Int)/\True)/\True)/\∀(x:V0 L.length λ(i:Nat)=>O8 d.E.length (L.getD i dz)),let q:=(x.1:Int);let z:=(L.getD q.toNat dz);bd (q<r) (V6 q L.length/\∃(X:a0k.ι),(((z.at_=X.2.at_/\z.d=X.2.d/\True)/\(yA d X.1)/\True)/\N6 X.1.E.length)/\br (O8 X.1.E.length X.2) (q=S9 L.length λ(i:Nat)=>O8 d.E.length (L.getD i dz)) (Ri (q+1)/\∃(y:V0 L.length λ(i:Nat)=>O8 d.E.length (L.getD i dz)),(((Z2 Y8 L L)/\(Fn.func 162=Fn.func 162/\L6 (λ(x:Nat)=>none) p p/\True)/\r=r/\q+1=(y.1:Int)/\True)/\True)/\Lt (L.length-y.1) (L.length-x.1))) ((-1:Int)=S9 L.length λ(i:Nat)=>O8 d.E.length (L.getD i dz))) ⟨⟨H5,⟨Y3,⟨rfl,U2 _,Z6⟩,Y3⟩,Z6⟩,λx=>⟨λC=>?_,λC=>?_⟩⟩
 ·have h:=Y2 C;refine⟨Y1 h,(d,L.getD x.1 dz),⟨Y3,hd⟩,λhp=>(P5 h hp x.2.2).symm,λhp=>⟨V8 h Z9,x.succ h hp,⟨⟨Y3,⟨rfl,U2 _,Z6⟩,rfl,L3,Z6⟩,Z6⟩,V0.ext_lt h⟩⟩
 ·have e:=X7 C;exact(M2 λj J=>x.2.2 j (zH J e)).symm
def cG:Rl:=⟨List Pend×Dsk,λx=>[qX x.1,c1Y x.2],λx=>.bool (anyI x.1.length λi=>O8 x.2.E.length (x.1.getD i dz)),λx=>N6 x.1.length/\N6 x.2.E.length⟩
def b0U:Con:=.rel cG
theorem a5L:GK 161 b0U:=gk func161<|by
 rintro⟨L,d⟩ h;exact S2 (gC a7e gN) func161 Y7 (α:=∃(x:bE.ι),(((Z2 Y8 L x.1)/\(Fn.func 162=Fn.func 162/\(yA d x.2)/\True)/\True)/\N6 x.1.length/\N6 x.2.E.length)/\decide ((S9 x.1.length λ(i:Nat)=>O8 x.2.E.length (x.1.getD i dz))≥(0:Int))=anyI L.length λ(i:Nat)=>O8 d.E.length (L.getD i dz)) ⟨(L,d),⟨⟨Y3,⟨rfl,(eqD _),Z6⟩,Z6⟩,h⟩,G1 _ _⟩
def oA:Rl:=⟨Dsk,λd=>[.agg d.ts],λd=>.bool (zQ d),b9B⟩
def b0V:Con:=.rel oA
def b1I:Con:=.rel oA
def lZ(d:Dsk):Option Ob:=some (.arr true 1000000 4 1 λ_=>d.ts)
def a97(d:Dsk):Nat->Ann
 |0=>.one (V0 d.E.length λi=>L9 false (d.E.getD i [])) (λx=>⟨[(1,.ref 0 0 0),(3,Ji d.E.length),(4,Ji x.1)],[lZ d]⟩) (λx=>d.E.length-x.1) [.box 0] [.box 0] (λ_=>fun
  |1=>.one (V0 d.C.length λi=>O8 d.E.length (d.C.getD i dz)) (λy=>⟨[(1,.ref 0 0 0),(3,Ji d.E.length),(5,Ji y.1)],[lZ d]⟩) (λy=>d.C.length-y.1) [.box 0] [.box 0] (λ_=>Y7)
  |_=>.none)
 |_=>.none
def b2c:Con:=.rel mD
def a1b(d:Dsk)(at_:Nat):Type:={i:Nat//i<=d.C.length/\I9 d.C at_ d.C.length=I9 d.C at_ i}
def b0d(d:Dsk)(at_:Nat):Nat->Ann
 |0=>.one (a1b d at_) (λx=>⟨[(1,Ji at_),(2,.ref 0 0 0),(5,Ji ((x.1:Int)-1))],[lZ d]⟩) (λx=>x.1) [.box 0] [.box 0] (λ_=>Y7)
 |_=>.none
theorem a7a:GK 92 b0V:=gk func92<|by
 rintro(d:Dsk) ⟨e,f,h3⟩;have e:d.E.length<1000000000000:=e;have f:d.C.length<1000000000000:=f;refine S2 (gC P3 (gC bS (gC a5L gN))) func92 Y7 (α:=br (!V9 (d.E.length:Int) (1:Int) (100:Int)||decide ((d.C.length:Int)>500)||decide ((d.keep.length:Int)>500)|| !d.A&&decide ((d.keep.length:Int)>0)) (false=zQ d) (∃(x:fA.ι),(((Z2 Z5 d.E x.1)/\Value.func (Fn.func 160) #[] #[]=Value.func (Fn.func (match x.2 with|true=>236|false=>160)) #[] #[]/\True)/\N6 x.1.length)/\∃(X:cG.ι),((!anyI x.1.length λ(i:Nat)=>L9 x.2 (x.1.getD i []))=true->((Z2 Y8 d.C X.1)/\(Fn.func 162=Fn.func 162/\(yA d X.2)/\True)/\True)/\N6 X.1.length/\N6 X.2.E.length)/\((!anyI x.1.length λ(i:Nat)=>L9 x.2 (x.1.getD i []))&& !anyI X.1.length λ(i:Nat)=>O8 X.2.E.length (X.1.getD i dz))=zQ d)) ⟨λh=>a1h ?_,λh=>⟨(d.E,false),⟨Y3,e⟩,(d.C,d),λ_=>⟨⟨Y3,⟨rfl,(eqD _),Z6⟩,Z6⟩,f,e⟩,?_⟩⟩
 ·rintro⟨p1,p2,p3,p4,p5,_⟩;simp[V9] at h;cases ha:d.A with
  |true=>simp[ha] at h;omega
  |false=>simp[ha] at h;have:=p5 ha;omega
 ·simp[V9] at h;rw[Bool.eq_iff_iff,lV];show((!anyI d.E.length λi=>L9 false (d.E.getD i []))&& !anyI d.C.length λi=>O8 d.E.length (d.C.getD i dz))=true↔k6 d
  simp only[M1,xO,R8];constructor
  ·rintro⟨q,Q⟩;exact⟨Z9,Z9,Z9,Z9,λha=>by have:=h.2 ha;simp[this],λi hi=>gS.1 (q i hi),Q⟩
  ·rintro⟨_,_,_,_,_,q,Q⟩;exact⟨λi hi=>gS.2 (q i hi),Q⟩
theorem a7T:GK 131 b1I:=gk func131<|by
 rintro(d:Dsk) ⟨f,e,h3⟩;have f:d.E.length<1000000000000:=f;have e:d.C.length<1000000000000:=e;refine S2 (gC B6 gN) func131 (a97 d) (α:=let k:=(d.C.length:Int);let j:=(d.keep.length:Int);let v:=(false=zQ d);let u:=(0=0/\0=0);let z:=(oo (yA d d));let p:=(d.E.length:Int);br (!V9 p (1:Int) (100:Int)||decide (k>500)||decide (j>500)|| !d.A&&decide (j>0)) v ((∃(x:V0 d.E.length λ(i:Nat)=>L9 false (d.E.getD i [])),(u/\p=p/\0=(x.1:Int)/\True)/\z/\True)/\∀(x:V0 d.E.length λ(i:Nat)=>L9 false (d.E.getD i [])),let r:=(x.1:Int);bd (r<p) (V6 r d.E.length/\bd ((↑(d.E.getD r.toNat []).length:Int)>160) v (Ri (r+1)/\∃(y:V0 d.E.length λ(i:Nat)=>L9 false (d.E.getD i [])),((u/\p=p/\r+1=(y.1:Int)/\True)/\z/\True)/\Lt (d.E.length-y.1) (d.E.length-x.1))) ((∃(x:V0 d.C.length λ(i:Nat)=>O8 d.E.length (d.C.getD i dz)),(u/\p=p/\0=(x.1:Int)/\True)/\z/\True)/\∀(x:V0 d.C.length λ(i:Nat)=>O8 d.E.length (d.C.getD i dz)),let q:=(x.1:Int);let w:=(d.C.getD q.toNat dz);bd (q<k) (V6 q d.C.length/\Ri (p-1)/\br (!V9 w.at_ (0:Int) (p-1)||decide ((↑w.d.length:Int)>160)) v (Ri (q+1)/\∃(y:V0 d.C.length λ(i:Nat)=>O8 d.E.length (d.C.getD i dz)),((u/\p=p/\q+1=(y.1:Int)/\True)/\z/\True)/\Lt (d.C.length-y.1) (d.C.length-x.1))) (true=zQ d)))) ⟨λh=>a1h ?_,λh=>⟨⟨H5,Y3⟩,λx=>⟨λhc=>?_,λhc=>⟨⟨H5,Y3⟩,λy=>⟨λhd=>?_,λhd=>?_⟩⟩⟩⟩⟩
 ·rintro⟨p1,p2,p3,p4,p5,_⟩;simp[V9] at h;cases ha:d.A with
  |true=>simp[ha] at h;omega
  |false=>simp[ha] at h;have:=p5 ha;omega
 ·have hlt:=Y2 hc;refine⟨Y1 hlt,λhb=>a1h ?_,λhb=>⟨V8 hlt Z9,x.succ hlt hb,Y3,V0.ext_lt hlt⟩⟩
  rintro⟨_,_,_,_,_,q,_⟩;have:=q x.1 hlt;rw[E8,i5] at hb;omega
 ·have hlt:=Y2 hd;refine⟨Y1 hlt,Z3 Z9,λhb=>a1h ?_,λhb=>⟨V8 hlt Z9,y.succ hlt hb,⟨⟨Y3,rfl,L3,Z6⟩,Y3⟩,V0.ext_lt hlt⟩⟩
  rintro⟨_,_,_,_,_,_,Q⟩;have:=Q y.1 hlt;rw[E8] at hb;unfold O8 at this;rw[hb] at this;cases this
 ·simp[V9] at h;have g:=X7 hc;have j:=X7 hd;refine((lV d).2 ⟨Z9,Z9,Z9,Z9,λha=>by have:=h.2 ha;simp[this],λi hi=>gS.1 (x.2.2 i (zH hi g)),λi hi=>y.2.2 i (zH hi j)⟩).symm
theorem a7v:GK 209 b2c:=gk func209<|by
 rintro⟨d,at_⟩ ⟨t,h⟩;simp only at t h;refine S2 gN func209 (b0d d at_) (α:=let z:=(d.C.length:Int);let q:=(at_:Int);Ri (z-1)/\(∃(x:a1b d at_),(q=q/\(0=0/\0=0)/\z-1=(x.1:Int)-1/\True)/\(oo (yA d d))/\True)/\∀(x:a1b d at_),let p:=(x.1:Int);let r:=(d.C.getD (p-1).toNat dz);bd (p-1≥(0:Int)) (V6 (p-1) d.C.length/\br (r.at_==q) (V6 (p-1) d.C.length/\r.d=T7 d at_) (Ri (p-1-1)/\∃(y:a1b d at_),((q=q/\(0=0/\0=0)/\p-1-1=(y.1:Int)-1/\True)/\(oo (yA d d))/\True)/\Lt y.1 x.1)) (V6 q d.E.length/\d.E.getD q.toNat []=T7 d at_)) ⟨Z3 Z9,⟨⟨d.C.length,Y3⟩,Y3⟩,λx=>?_⟩
 obtain⟨i,hi,X⟩:=x;simp only;refine⟨λhc=>?_,λhc=>⟨⟨Z9,Z9⟩,?_⟩⟩
 ·have hpos:1<=i:=by have:=D4 hc;omega
  obtain⟨j,rfl⟩:∃j,i=j+1:=⟨i-1,Z9⟩
  rw[show(((j+1:Nat):Int)-1).toNat=j by omega]
  have hl:I9 d.C at_ (j+1)=if(d.C.getD j dz).at_=at_ then some (d.C.getD j dz).d else I9 d.C at_ j:=rfl
  refine⟨⟨Z9,Z9⟩,λhb=>⟨⟨Z9,Z9⟩,?_⟩,λhb=>⟨Z3 Z9,⟨j,Z9,?_⟩,⟨⟨z7,⟨z7,z7⟩,F9,Z6⟩,⟨z7,z7,⟨z7,W2 _ _⟩,⟨z7,W2 _ _⟩,z7,⟨z7,W2 _ _⟩,Z6⟩,Z6⟩,oI⟩⟩
  ·rw[if_pos lO] at hl
   unfold T7;rw[X,hl];rfl
  ·rw[if_neg lO] at hl
   rw[X,hl]
 ·have h0:i=0:=by have:=q8 hc;omega
  subst h0;unfold T7;rw[X];rfl
structure Frm where
 no:Int
 pg:Pg
 D:Bool
 first:Int
 deriving Inhabited
def Frm.ts(f:Frm):List T:=[Ji f.no,Ji f.pg.Q,xZ f.pg.sl,.bool f.D,Ji f.first]
structure Sto where
 d:Dsk
 ep:Int
 L:List Rec
 S:Int
 fr:List Frm
 J:Int
 deriving Inhabited
def V4(L:List Frm)(i:Nat):List T:=(L.getD i dz).ts
def a5H(L:List Frm):T:=.sl 5 L.length (V4 L)
def Sto.ts(s:Sto):List T:=[xZ s.d.E,qX s.d.C,.bool s.d.A,cN s.d.keep,Ji s.ep,oG s.L,Ji s.S,a5H s.fr,Ji s.J]
abbrev zV(a b:Sto):Prop:=(a.d.E.length=b.d.E.length/\Z7 a.d.E.length (Z5 a.d.E) (Z5 b.d.E))/\(a.d.C.length=b.d.C.length/\Z7 a.d.C.length (Y8 a.d.C) (Y8 b.d.C))/\a.d.A=b.d.A/\(a.d.keep.length=b.d.keep.length/\Z7 a.d.keep.length (Y9 a.d.keep) (Y9 b.d.keep))/\a.ep=b.ep/\(a.L.length=b.L.length/\Z7 a.L.length (Y0 a.L) (Y0 b.L))/\a.S=b.S/\(a.fr.length=b.fr.length/\Z7 a.fr.length (V4 a.fr) (V4 b.fr))/\a.J=b.J/\True
theorem gL(s:Sto):zV s s:=Y3
def qI(s:Sto):Option Ob:=some (.arr true 1000000 9 1 λ_=>s.ts)
def U4(d:Dsk)(no:Nat):Pg×Bool:=if T7 d (1+no)=[] then(⟨0,[[],[],[],[]]⟩,true) else G0 no (T7 d (1+no))
def S7(d:Dsk)(no:Nat):Pg×Bool:=if T7 d (1+no)=[] then(⟨0,[[],[],[],[]]⟩,true) else(P2 no (T7 d (1+no)),(G0 no (T7 d (1+no))).2)
theorem gK(d:Dsk)(no:Nat):(S7 d no).2=(U4 d no).2/\((U4 d no).2=true->S7 d no=U4 d no):=by
 unfold S7 U4;by_cases h:T7 d (1+no)=[]
 ·rw[if_pos h,if_pos h];exact⟨rfl,λ_=>rfl⟩
 ·rw[if_neg h,if_neg h];refine⟨rfl,λh2=>?_⟩
  unfold P2;rw[if_pos h2]
def a0z(x:Dsk×Nat):Prop:=k6 x.1/\1+x.2<x.1.E.length
theorem jR{d:Dsk}(h:k6 d){at_:Nat}(A:at_<d.E.length):(T7 d at_).length<=160:=by
 obtain⟨_,_,_,_,_,e,h2⟩:=h;have key:∀n,n<=d.C.length->∀l,I9 d.C at_ n=some l->l.length<=160:=by
  intro n;induction n with
  |zero=>intro _ l hl;cases hl
  |succ n i=>
   intro N l hl;unfold I9 at hl;split at hl
   ·simp only[X4] at hl;subst hl;have:=h2 n Z9
    unfold O8 at this;simp only[yY,pT] at this;omega
   ·exact i Z9 l hl
 unfold T7;cases hl:I9 d.C at_ d.C.length with
 |none=>exact e at_ A
 |some l=>exact key _ (U9 _) l hl
def eD:Rl:=⟨Sto×Nat,λx=>[.bref x.1.ts,Ji x.2],λx=>.tup [.agg (S7 x.1.d x.2).1.ts,.bool (S7 x.1.d x.2).2],λx=>a0z (x.1.d,x.2)⟩
def a5Z:Con:=.rel eD
def a0i:Rl:=⟨Dsk×Nat,λx=>[.agg x.1.ts,Ji x.2],λx=>.tup [.agg (U4 x.1 x.2).1.ts,.bool (U4 x.1 x.2).2],a0z⟩
def b1K:Con:=.rel a0i
theorem aN(d:Dsk)(no:Nat)(h:
let p:=(U4 d no);  Ri (1+(no:Int))/\∃(x:mD.ι),(((yA d x.1)/\1+(no:Int)=(x.2:Int)/\True)/\AtB x)/\br (T7 x.1 x.2==[]) (∃(x:sP.ι),(True/\True)/\(0=p.1.Q/\(4=p.1.sl.length/\Z7 4 (Z5 [[],[],[],[]]) (Z5 p.1.sl))/\True)/\true=p.2/\True) (∃(X:cB.ι),let q:=(G0 X.1 X.2);(((no:Int)=X.1/\T7 x.1 x.2=X.2/\True)/\RdB X.2)/\(q.1.Q=p.1.Q/\(Z2 Z5 q.1.sl p.1.sl)/\True)/\q.2=p.2/\True)):
  V2 prog 135 [.agg d.ts,Ji no] (.tup [.agg (U4 d no).1.ts,.bool (U4 d no).2]):=
 S2 (gC a7v (gC a3f (gC a7B gN))) func135 Y7 h
def mQ(L:List Frm)(no:Int)(i:Nat):Bool:=(L.getD i dz).no==no
def frAt(L:List Frm)(no:Int):Int:=S9 L.length (mQ L no)
def noF(no:Int):T:=.fn (.func 190) [.bref [Ji no]]
def iV:Rl:=⟨Frm×Int,λx=>[.agg x.1.ts,.bref [Ji x.2]],λx=>.bool (x.1.no==x.2),λ_=>True⟩
def a5S:Con:=.rel iV
theorem a5D(f:Frm)(no:Int)(h:
  (f.no==no)=(f.no==no)):
  V2 prog 190 [.agg f.ts,.bref [Ji no]] (.bool (f.no==no)):=
 S2 gN func190 Y7 h
theorem a20:GK 190 a5S:=gk func190<|λx _=>a5D x.1 x.2 rfl
def a4M:Rl:=⟨List Frm×Int,λx=>[a5H x.1,noF x.2],λx=>Ji (frAt x.1 x.2),λx=>N6 x.1.length⟩
def b3W:Con:=.rel a4M
def b5M(L:List Frm)(no:Int):Nat->Ann
 |0=>.one (V0 L.length (mQ L no)) (λx=>⟨[(0,a5H L),(1,noF no),(7,Ji L.length),(8,Ji x.1)],[]⟩) (λx=>L.length-x.1) [] [] (λ_=>Y7)
 |_=>.none
theorem b2x:GK 189 b3W:=gk func189<|by
 rintro⟨L,no⟩ (hL:L.length<1000000000000);refine S2 (gC a20 gN) func189 (b5M L no) (α:=let r:=(L.length:Int);let q:=(T.bref [Ji no]);(∃(x:V0 L.length (mQ L no)),((Z2 V4 L L)/\(Fn.func 190=Fn.func 190/\L6 (λ(x:Nat)=>none) q q/\True)/\r=r/\0=(x.1:Int)/\True)/\True)/\∀(x:V0 L.length (mQ L no)),let z:=(x.1:Int);let p:=(L.getD z.toNat dz);bd (z<r) (V6 z L.length/\∃(X:iV.ι),(((p.no=X.1.no/\p.pg.Q=X.1.pg.Q/\(Z2 Z5 p.pg.sl X.1.pg.sl)/\p.D=X.1.D/\p.first=X.1.first/\True)/\(no=X.2/\True)/\True)/\True)/\br (X.1.no==X.2) (z=frAt L no) (Ri (z+1)/\∃(y:V0 L.length (mQ L no)),(((Z2 V4 L L)/\(Fn.func 190=Fn.func 190/\L6 (λ(x:Nat)=>none) q q/\True)/\r=r/\z+1=(y.1:Int)/\True)/\True)/\Lt (L.length-y.1) (L.length-x.1))) ((-1:Int)=frAt L no)) ⟨⟨H5,⟨Y3,⟨rfl,U2 _,Z6⟩,Y3⟩,Z6⟩,λx=>⟨λC=>?_,λC=>?_⟩⟩
 ·have h:=Y2 C;refine⟨Y1 h,(L.getD x.1 dz,no),Y3,λhp=>(P5 h hp x.2.2).symm,λhp=>⟨V8 h Z9,x.succ h hp,⟨⟨Y3,⟨rfl,U2 _,Z6⟩,rfl,L3,Z6⟩,Z6⟩,V0.ext_lt h⟩⟩
 ·have e:=X7 C;exact(M2 λj J=>x.2.2 j (zH J e)).symm
def sD:Rl:=⟨Sto×Int,λx=>[.bref x.1.ts,Ji x.2],λx=>Ji (frAt x.1.fr x.2),λx=>N6 x.1.fr.length⟩
def b24:Con:=.rel sD
def qP:Rl:=⟨Sto×Int,λx=>[.agg x.1.ts,Ji x.2],λx=>Ji (frAt x.1.fr x.2),λx=>N6 x.1.fr.length⟩
def a5j:Con:=.rel qP
def a5G(s:Sto)(no:Int):Nat->Ann
 |0=>.one (V0 s.fr.length (mQ s.fr no)) (λx=>⟨[(1,Ji no),(2,.ref 0 0 0),(5,Ji x.1)],[qI s]⟩) (λx=>s.fr.length-x.1) [.box 0] [.box 0] (λ_=>Y7)
 |_=>.none
theorem qM:GK 117 b24:=gk func117<|by
 rintro⟨s,no⟩ h;exact S2 (gC b2x gN) func117 Y7 (α:=∃(x:a4M.ι),(((Z2 V4 s.fr x.1)/\(Fn.func 190=Fn.func 190/\(no=x.2/\True)/\True)/\True)/\N6 x.1.length)/\frAt x.1 x.2=frAt s.fr no) ⟨(s.fr,no),⟨Y3,h⟩,rfl⟩
theorem lP:GK 134 a5j:=gk func134<|by
 rintro⟨s,no⟩ (hL:s.fr.length<1000000000000);refine S2 gN func134 (a5G s no) (α:=(∃(x:V0 s.fr.length (mQ s.fr no)),(no=no/\(0=0/\0=0)/\0=(x.1:Int)/\True)/\(oo (zV s s))/\True)/\∀(x:V0 s.fr.length (mQ s.fr no)),let p:=(x.1:Int);bd (p<(s.fr.length:Int)) (V6 p s.fr.length/\br ((s.fr.getD p.toNat dz).no==no) (p=frAt s.fr no) (Ri (p+1)/\∃(y:V0 s.fr.length (mQ s.fr no)),((no=no/\(0=0/\0=0)/\p+1=(y.1:Int)/\True)/\(oo (zV s s))/\True)/\Lt (s.fr.length-y.1) (s.fr.length-x.1))) ((-1:Int)=frAt s.fr no)) ⟨⟨H5,Y3⟩,λx=>⟨λC=>?_,λC=>?_⟩⟩
 ·have h:=Y2 C;exact⟨Y1 h,λhp=>(P5 h hp x.2.2).symm,λhp=>⟨V8 h Z9,x.succ h hp,⟨⟨rfl,Y3,L3,Z6⟩,Y3⟩,V0.ext_lt h⟩⟩
 ·have e:=X7 C;exact(M2 λj J=>x.2.2 j (zH J e)).symm
theorem aE(no:Int)(t:Bz):(J7 no t==(0:Int))=(G0 no t).2:=by
 unfold J7;cases hu:P4 t
 ·have:(G0 no t).2=false:=by unfold G0;rw[hu];rfl
  rw[this];rfl
 ·cases h:(G0 no t).2<;>rfl
theorem a3A:GK 94 a5Z:=gk func94<|by
 rintro⟨s,no⟩ ⟨hd,n⟩;simp only at hd n;have f:=jR hd n;obtain⟨q,g,Q,_⟩:=hd;refine S2 (gC fE (gC a3t (gC a3e gN))) func94 Y7 (α:=let p:=(S7 s.d no);Ri (1+(no:Int))/\∃(x:mD.ι),(((yA s.d x.1)/\1+(no:Int)=(x.2:Int)/\True)/\AtB x)/\br (T7 x.1 x.2==[]) (∃(x:sP.ι),(True/\True)/\(0=p.1.Q/\(4=p.1.sl.length/\Z7 4 (Z5 [[],[],[],[]]) (Z5 p.1.sl))/\True)/\true=p.2/\True) (Lt (T7 x.1 x.2).length 140737488355329/\∃(X:iB.ι),(((no:Int)=X.1/\T7 x.1 x.2=X.2/\True)/\RdB X.2)/\((P2 X.1 X.2).Q=p.1.Q/\(Z2 Z5 (P2 X.1 X.2).sl p.1.sl)/\True)/\(J7 X.1 X.2==0)=p.2/\True)) ⟨Z3 Z9,(s.d,1+no),⟨⟨(eqD _),F9,Z6⟩,n,F9⟩,λh=>⟨(),Y3,?_⟩,λh=>⟨oI,((no:Int),T7 s.d (1+no)),⟨Y3,by show(T7 s.d (1+no)).length<=1000;omega⟩,?_⟩⟩
 ·have h:T7 s.d (1+no)=[]:=by simpa using h
  have e:S7 s.d no=(⟨0,[[],[],[],[]]⟩,true):=by unfold S7;rw[if_pos h]
  rw[e];exact Y3
 ·have h:T7 s.d (1+no)≠[]:=by simpa using h
  have e:S7 s.d no=(P2 no (T7 s.d (1+no)),(G0 no (T7 s.d (1+no))).2):=by unfold S7;rw[if_neg h]
  rw[e];exact⟨Y3,aE _ _,Z6⟩
theorem a6m:GK 135 b1K:=gk func135<|by
 rintro⟨d,no⟩ ⟨hd,n⟩;simp only at hd n;have f:=jR hd n;obtain⟨q,g,Q,_⟩:=hd;refine aN d no ⟨Z3 Z9,(d,1+no),⟨⟨(eqD _),F9,Z6⟩,n,F9⟩,λh=>⟨(),Y3,?_⟩,λh=>⟨((no:Int),T7 d (1+no)),⟨Y3,by show(T7 d (1+no)).length<=1000;omega⟩,?_⟩⟩
 ·have h:T7 d (1+no)=[]:=by simpa using h
  have e:U4 d no=(⟨0,[[],[],[],[]]⟩,true):=by unfold U4;rw[if_pos h]
  rw[e];exact Y3
 ·have h:T7 d (1+no)≠[]:=by simpa using h
  have e:U4 d no=G0 no (T7 d (1+no)):=by unfold U4;rw[if_neg h]
  rw[e];exact Y3
def zU(s:Sto)(i:Nat):Bool:=
 !V9 (s.fr.getD i dz).no 0 7||frAt s.fr (s.fr.getD i dz).no !=(i:Int)|| !o9 (s.fr.getD i dz).pg||decide ((s.fr.getD i dz).pg.Q>(s.L.length:Int))|| !V9 (s.fr.getD i dz).first 0 s.L.length||
  decide ((s.fr.getD i dz).first>0) !=(s.fr.getD i dz).D
def zY(s:Sto):Bool:= !anyI s.fr.length (zU s)&&decide ((s.fr.length:Int)<=3)
def FrB(L:List Frm):Prop:=N6 L.length/\∀i,i<L.length->PgB (L.getD i dz).pg
def c6p(s:Sto):Prop:=FrB s.fr/\N6 s.L.length
def fC:Rl:=⟨Sto,λs=>[.bref s.ts],λs=>.bool (zY s),c6p⟩
def a6V:Con:=.rel fC
def a6W(s:Sto):Nat->Ann
 |0=>.one (V0 s.fr.length (zU s)) (λx=>⟨[(0,.bref s.ts),(8,a5H s.fr),(9,Ji s.fr.length),(10,Ji x.1)],[]⟩) (λx=>s.fr.length-x.1) [] [] (λ_=>Y7)
 |_=>.none
theorem c32(n:Int):(decide (0<=n)&&decide (n<8))=V9 n 0 7:=by
 unfold V9;rw[show decide (n<8)=decide (n<=7) from decide_eq_decide.2 Z9]
theorem a36:GK 95 a6V:=gk func95<|by
 rintro(s:Sto) ⟨⟨f,h2⟩,g⟩;have f:s.fr.length<1000000000000:=f;have g:s.L.length<1000000000000:=g;refine S2 (gC uS (gC qM (gC qO (gC P3 gN)))) func95 (a6W s) (α:=let w:=(s.L.length:Int);let v:=(Z2 V4 s.fr s.fr);let u:=(T.bref s.ts);let q:=(s.fr.length:Int);(∃(x:V0 s.fr.length (zU s)),(L6 (λ(x:Nat)=>none) u u/\v/\q=q/\0=(x.1:Int)/\True)/\True)/\∀(x:V0 s.fr.length (zU s)),let z:=(x.1:Int);let p:=(s.fr.getD z.toNat dz);let r:=(decide (0<=p.no)&&decide (p.no<8));bd (z<q) (V6 z s.fr.length/\u3 (8:Int)/\∃(X:sD.ι),((! r)=false->((zV s X.1)/\p.no=X.2/\True)/\N6 X.1.fr.length)/\∃(d:yI.ι),((! r||frAt X.1.fr X.2 !=z)=false->((p.pg.Q=d.Q/\(Z2 Z5 p.pg.sl d.sl)/\True)/\True)/\PgB d)/\br (! r||frAt X.1.fr X.2 !=z|| !o9 d||decide (p.pg.Q>w)|| !V9 p.first (0:Int) w|| !decide (p.first>0)==p.D) (false=zY s) (Ri (z+1)/\∃(y:V0 s.fr.length (zU s)),((L6 (λ(x:Nat)=>none) u u/\v/\q=q/\z+1=(y.1:Int)/\True)/\True)/\Lt (s.fr.length-y.1) (s.fr.length-x.1))) (decide (q<=3)=zY s)) ⟨⟨H5,⟨U2 _,Y3⟩,Z6⟩,λx=>⟨λhc=>?_,λhc=>?_⟩⟩
 ·have h:=Y2 hc;rw[c32,E8];have e:(!V9 (s.fr.getD x.1 dz).no 0 7||frAt s.fr (s.fr.getD x.1 dz).no !=(x.1:Int)|| !o9 (s.fr.getD x.1 dz).pg||decide ((s.fr.getD x.1 dz).pg.Q>(s.L.length:Int))||
    !V9 (s.fr.getD x.1 dz).first 0 s.L.length|| !decide ((s.fr.getD x.1 dz).first>0)==(s.fr.getD x.1 dz).D)=zU s x.1:=rfl
  refine⟨Y1 h,⟨Z9,Z9⟩,(s,(s.fr.getD x.1 dz).no),λ_=>⟨⟨(gL _),Y3⟩,f⟩,(s.fr.getD x.1 dz).pg,λ_=>⟨Y3,h2 _ h⟩,λB=>?_,λB=>⟨V8 h Z9,x.succ h (e.symm.trans B),⟨⟨U2 _,Y3,rfl,L3,Z6⟩,Z6⟩,V0.ext_lt h⟩⟩
  have:anyI s.fr.length (zU s)=true:=S8.2 ⟨x.1,h,e.symm.trans B⟩;unfold zY;rw[this];rfl
 ·have hge:=X7 hc;have:anyI s.fr.length (zU s)=false:=R8.2 λi hi=>x.2.2 i (zH hi hge)
  unfold zY;rw[this];simp
def zP(L:List Rec)(i:Nat):Int:=if i=0 then 1 else(L.getD (i-1) dz).e
def wH(s:Sto)(i:Nat):Bool:= !V9 (s.L.getD i dz).e (zP s.L i) s.ep
def i7(s:Sto)(no:Nat):Bool:= !(U4 s.d no).2||decide ((U4 s.d no).1.Q>s.S)
def pP(s:Sto):Bool:= !zQ s.d||((s.d.E.length:Nat):Int) !=69|| !V9 s.ep 1 60||decide ((s.L.length:Int)>60)
def H7(s:Sto):Bool:= !(pP s|| !i8 s.L|| !V9 s.S 0 s.L.length)&& !anyI s.L.length (wH s)&& !anyI 8 (i7 s)&&zY s&&V9 s.J 0 2
def b42(s:Sto):Prop:=b9B s.d/\b9N s.L/\FrB s.fr/\∀r ∈ s.L,N6 r.a.length
def rP:Rl:=⟨Sto,λs=>[.agg s.ts],λs=>.bool (H7 s),b42⟩
def a62:Con:=.rel rP
def a5k:Con:=.rel rP
def a5p(s:Sto):Nat->Ann
 |0=>.onef [1,3,48,49,50] (V0 s.L.length (wH s)) (λx=>⟨[(1,.bref s.ts),(3,Ji (zP s.L x.1)),(48,oG s.L),(49,Ji s.L.length),(50,Ji x.1)],[]⟩) (λx=>s.L.length-x.1) [] (λ_=>fun
  |1=>.one (V0 8 (i7 s)) (λx=>⟨[(1,.bref s.ts),(64,Ji x.1)],[]⟩) (λx=>8-x.1) [] [] (λ_=>Y7)
  |_=>.none)
 |_=>.none
def uN(s:Sto)(i:Nat):Bool:= !M6 (s.L.getD i dz)||(s.L.getD i dz).l !=(i:Int)+1||decide ((s.L.getD i dz).e>s.ep)||(decide ((i:Int)>0)&&decide ((s.L.getD (i-1) dz).e>(s.L.getD i dz).e))
def xN(s:Sto)(i:Nat):Bool:=
 !V9 (s.fr.getD i dz).no 0 7|| !o9 (s.fr.getD i dz).pg||decide ((s.fr.getD i dz).pg.Q>(s.L.length:Int))|| !V9 (s.fr.getD i dz).first 0 s.L.length||
  (s.fr.getD i dz).D !=decide ((s.fr.getD i dz).first>0)||frAt s.fr (s.fr.getD i dz).no !=(i:Int)
def a5F(s:Sto):Nat->Ann
 |0=>.one (V0 s.L.length (uN s)) (λx=>⟨[(1,.ref 0 0 0),(3,Ji x.1)],[qI s]⟩) (λx=>s.L.length-x.1) [.box 0] [.box 0] (λ_=>fun
  |1=>.one (V0 s.fr.length (xN s)) (λx=>⟨[(1,.ref 0 0 0),(5,Ji x.1)],[qI s]⟩) (λx=>s.fr.length-x.1) [.box 0] [.box 0] (λ_=>fun
   |2=>.one (V0 8 (i7 s)) (λx=>⟨[(1,.ref 0 0 0),(7,Ji x.1)],[qI s]⟩) (λx=>8-x.1) [.box 0] [.box 0] (λ_=>Y7)
   |_=>.none)
  |_=>.none)
 |_=>.none
theorem K3(s:Sto):H7 s=true↔(pP s=false/\i8 s.L=true/\V9 s.S 0 s.L.length=true)/\(∀i,i<s.L.length->wH s i=false)/\(∀i,i<8->i7 s i=false)/\zY s=true/\V9 s.J 0 2=true:=by
 unfold H7;simp only[M1,xO,yY,yC,R8];exact⟨λh=>⟨⟨h.1.1.1.1.1.1,h.1.1.1.1.1.2,h.1.1.1.1.2⟩,h.1.1.1.2,h.1.1.2,h.1.2,h.2⟩,λh=>⟨⟨⟨⟨⟨⟨h.1.1,h.1.2.1⟩,h.1.2.2⟩,h.2.1⟩,h.2.2.1⟩,h.2.2.2.1⟩,h.2.2.2.2⟩⟩
theorem pL{s:Sto}(h:¬H7 s=true):false=H7 s:=(Bool.eq_false_iff.2 h).symm
theorem y6(s:Sto):pP s=false↔k6 s.d/\s.d.E.length=69/\1<=s.ep/\s.ep<=60/\s.L.length<=60:=by
 unfold pP;simp only[yY,yC,lV,bne_eq_false_iff_eq,V9,M1,i5,pT];constructor
 ·rintro⟨⟨⟨h,i⟩,e,f⟩,g⟩;exact⟨h,Z9,e,f,Z9⟩
 ·rintro⟨h,i,e,f,g⟩;exact⟨⟨⟨h,Z9⟩,e,f⟩,Z9⟩
theorem a9G(s:Sto)(no:Nat):(!(S7 s.d no).2||decide ((S7 s.d no).1.Q>s.S))=i7 s no:=by
 unfold i7;obtain⟨e,f⟩:=gK s.d no;cases h:(U4 s.d no).2
 ·rw[e,h];rfl
 ·rw[f h,h]
theorem c2f(n:Int):(decide (0<=n)&&decide (n<3))=V9 n 0 2:=by
 unfold V9;rw[show decide (n<3)=decide (n<=2) from decide_eq_decide.2 Z9]
theorem b1p(L:List Rec)(i:Nat):zP L (i+1)=(L.getD i dz).e:=by unfold zP;rw[if_neg Z9];rfl
theorem a2O:GK 45 a62:=gk func45<|by
 rintro(s:Sto) ⟨hd,hl,hf,hm⟩;have j:(!zQ s.d||(s.d.E.length:Int) !=69|| !V9 s.ep 1 60||decide ((s.L.length:Int)>60)|| !i8 s.L|| !V9 s.S 0 s.L.length)=(pP s|| !i8 s.L|| !V9 s.S 0 s.L.length):=rfl;refine S2 (gC a7a (gC P3 (gC cP (gC a3A (gC a36 (gC uS gN)))))) func45 (a5p s) (α:=let w:=(s.d.E.length:Int);let v:=(false=H7 s);let q:=(T.bref s.ts);let p:=(s.L.length:Int);∃(x:oA.ι),(((yA s.d x)/\True)/\b9B x)/\∃(f:nL.ι),((!zQ x||w !=69|| !V9 s.ep (1:Int) (60:Int)||decide (p>60))=false->((Z2 Y0 s.L f)/\True)/\b9N f)/\br (!zQ x||w !=69|| !V9 s.ep (1:Int) (60:Int)||decide (p>60)|| !i8 f|| !V9 s.S (0:Int) p) v ((∃(x:V0 s.L.length (wH s)),(L6 (λ(x:Nat)=>none) q q/\1=zP s.L x.1/\(Z2 Y0 s.L s.L)/\p=p/\0=(x.1:Int)/\True)/\True)/\∀(x:V0 s.L.length (wH s)),let r:=(x.1:Int);let u:=(s.L.getD r.toNat dz).e;bd (r<p) (V6 r s.L.length/\br (!V9 u (zP s.L x.1) s.ep) v (Ri (r+1)/\∃(y:V0 s.L.length (wH s)),((L6 (λ(x:Nat)=>none) q q/\u=zP s.L y.1/\(Z2 Y0 s.L s.L)/\p=p/\r+1=(y.1:Int)/\True)/\True)/\Lt (s.L.length-y.1) (s.L.length-x.1))) ((∃(x:V0 8 (i7 s)),(L6 (λ(x:Nat)=>none) q q/\0=(x.1:Int)/\True)/\True)/\∀(x:V0 8 (i7 s)),let z:=(x.1:Int);bd (z<8) (∃(X:eD.ι),(((zV s X.1)/\z=(X.2:Int)/\True)/\a0z (X.1.d,X.2))/\br (!(S7 X.1.d X.2).2||decide ((S7 X.1.d X.2).1.Q>s.S)) v (Ri (z+1)/\∃(y:V0 8 (i7 s)),((L6 (λ(x:Nat)=>none) q q/\z+1=(y.1:Int)/\True)/\True)/\Lt (8-y.1) (8-x.1))) (∃(x:fC.ι),(((zV s x)/\True)/\c6p x)/\(zY x=true->u3 (3:Int))/\(zY x&&(decide (0<=s.J)&&decide (s.J<3)))=H7 s)))) ⟨s.d,⟨⟨(eqD _),Z6⟩,hd⟩,s.L,λ_=>⟨Y3,hl⟩,λhb=>pL ?_,λhb=>?_⟩
 ·rw[K3];rintro⟨⟨g,l,n⟩,_⟩;rw[j,g,l,n] at hb;cases hb
 rw[j] at hb;simp only[yY,yC] at hb;obtain⟨⟨B,b2⟩,o⟩:=hb;obtain⟨C,c2,q,t,r⟩:=(y6 s).1 B;refine⟨⟨H5,⟨U2 _,Y3⟩,Z6⟩,λx=>⟨λhc=>?_,λhc=>⟨⟨H5,⟨U2 _,Y3⟩,Z6⟩,λy=>⟨λhy=>?_,λhy=>?_⟩⟩⟩⟩
 ·have hlt:=Y2 hc;refine⟨Y1 hlt,λhb=>pL ?_,λhb=>⟨V8 hlt Z9,x.succ hlt hb,⟨⟨U2 _,(b1p _ _).symm,Y3,rfl,L3,Z6⟩,Z6⟩,V0.ext_lt hlt⟩⟩
  rw[K3];rintro⟨_,g,_⟩;have:=g x.1 hlt;unfold wH at this;rw[E8,this] at hb;cases hb
 ·have hlt:y.1<8:=by have:=D4 hy;omega
  refine⟨(s,y.1),⟨⟨(gL _),Y3⟩,C,F9⟩,λhb=>pL ?_,λhb=>⟨Z3 Z9,y.succ hlt ((a9G s y.1).symm.trans hb),⟨⟨U2 _,L3,Z6⟩,Z6⟩,V0.ext_lt hlt⟩⟩
  rw[K3];rintro⟨_,_,g,_⟩;have:=g y.1 hlt;rw[←a9G] at this;have hb:(!(S7 s.d y.1).2||decide ((S7 s.d y.1).1.Q>s.S))=true:=hb;rw[this] at hb;cases hb
 ·have g1:=X7 hc;have g2:8<=y.1:=by have:=q8 hy;omega
  refine⟨s,⟨⟨(gL _),Z6⟩,hf,hl.1⟩,λ_=>⟨Z9,Z9⟩,?_⟩
  rw[c2f,Bool.eq_iff_iff,K3];simp only[M1];exact⟨λh=>⟨⟨B,b2,o⟩,λi hi=>x.2.2 i (zH hi g1),λi hi=>y.2.2 i (zH hi g2),h⟩,λh=>h.2.2.2⟩
theorem b61(s:Sto)(i:Nat):xN s i=zU s i:=by
 unfold xN zU;generalize V9 (s.fr.getD i dz).no 0 7=a;generalize o9 (s.fr.getD i dz).pg=b;generalize decide ((s.fr.getD i dz).pg.Q>(s.L.length:Int))=c;generalize V9 (s.fr.getD i dz).first 0 s.L.length=d
 generalize (s.fr.getD i dz).D=e;generalize decide ((s.fr.getD i dz).first>0)=f
 generalize (frAt s.fr (s.fr.getD i dz).no !=(i:Int))=g;cases a<;>cases b<;>cases c<;>cases d<;>cases e<;>cases f<;>cases g<;>rfl
theorem b41(s:Sto):(∀i,i<s.L.length->uN s i=false)↔i8 s.L=true/\∀i,i<s.L.length->wH s i=false:=by
 rw[D8];have key:∀i,uN s i=false↔(M6 (s.L.getD i dz)=true/\(s.L.getD i dz).l=(i:Int)+1)/\(s.L.getD i dz).e<=s.ep/\(0<i->(s.L.getD (i-1) dz).e<=(s.L.getD i dz).e):=by
  intro i;unfold uN;simp only[yY,yC,bne_eq_false_iff_eq,pT,Bool.and_eq_false_iff];constructor
  ·rintro⟨⟨⟨h1,h2⟩,h3⟩,h4⟩;exact⟨⟨h1,h2⟩,Z9,λhi=>by rcases h4 with h4|h4<;>omega⟩
  ·rintro⟨⟨h1,h2⟩,h3,h4⟩;refine⟨⟨⟨h1,h2⟩,Z9⟩,?_⟩
   by_cases hi:0<i
   ·exact .inr (by have:=h4 hi;omega)
   ·exact .inl Z9
 have d:∀i,wH s i=false↔zP s.L i<=(s.L.getD i dz).e/\(s.L.getD i dz).e<=s.ep:=by
  intro i;unfold wH V9;simp only[yC,M1,i5]
 simp only[key,d];constructor
 ·intro h;refine⟨λi hi=>(h i hi).1,λi hi=>⟨?_,(h i hi).2.1⟩⟩
  by_cases h0:i=0
  ·subst h0;have:=((R2 _).1 (h 0 hi).1.1).1;exact this
  ·unfold zP;rw[if_neg h0];exact(h i hi).2.2 Z9
 ·rintro⟨h1,h2⟩ i hi;refine⟨h1 i hi,(h2 i hi).2,λh0=>?_⟩
  have:=(h2 i hi).1;unfold zP at this;rw[if_neg Z9] at this
  exact this
theorem a2D:GK 70 a5k:=gk func70<|by
 rintro(s:Sto) ⟨hd,hl,hf,hm⟩;have R:s.fr.length<1000000000000:=hf.1;have B:(!zQ s.d||(s.d.E.length:Int) !=69|| !V9 s.ep 1 60||decide ((s.L.length:Int)>60)|| !V9 s.S 0 s.L.length||decide ((s.fr.length:Int)>3)|| !V9 s.J 0 2)=(pP s|| !V9 s.S 0 s.L.length||decide ((s.fr.length:Int)>3)|| !V9 s.J 0 2):=rfl;have sp:H7 s=true↔(pP s|| !V9 s.S 0 s.L.length||decide ((s.fr.length:Int)>3)|| !V9 s.J 0 2)=false/\(∀i,i<s.L.length->uN s i=false)/\(∀i,i<s.fr.length->xN s i=false)/\∀i,i<8->i7 s i=false:=by
  rw[K3,b41];simp only[yY,yC,b61,pT];unfold zY;simp only[M1,xO,R8,i5];constructor
  ·rintro⟨⟨h1,o,v⟩,q,r,⟨A,C⟩,u⟩;exact⟨⟨⟨⟨h1,v⟩,Z9⟩,u⟩,⟨o,q⟩,A,r⟩
  ·rintro⟨⟨⟨⟨h1,v⟩,C⟩,u⟩,⟨o,q⟩,A,r⟩;exact⟨⟨h1,o,v⟩,q,r,⟨A,Z9⟩,u⟩
 refine S2 (gC a7T (gC B6 (gC a1Y (gC gV (gC lP (gC a6m gN)))))) func70 (a5F s) (α:=let i:=(false=H7 s);let m:=(0=0/\0=0);let w:=(oo (zV s s));let v:=(s.L.length:Int);∃(x:oA.ι),(((yA s.d x)/\True)/\b9B x)/\br (!zQ x||(s.d.E.length:Int) !=69|| !V9 s.ep (1:Int) (60:Int)||decide (v>60)|| !V9 s.S (0:Int) v||decide ((s.fr.length:Int)>3)|| !V9 s.J (0:Int) (2:Int)) i ((∃(x:V0 s.L.length (uN s)),(m/\0=(x.1:Int)/\True)/\w/\True)/\∀(x:V0 s.L.length (uN s)),let u:=(x.1:Int);let q:=(s.L.getD u.toNat dz);let z:=(Rec.mk q.e q.l q.t q.k q.p q.n q.g q.s q.b q.a);let c:=(!M6 z||q.l !=u+1||decide (q.e>s.ep));bd (u<v) (V6 u s.L.length/\N6 q.a.length/\((!M6 z)=false->Ri (u+1))/\(c=false->decide (u>0)=true->Ri (u-1))/\(c=false->decide (u>0)=true->V6 (u-1) s.L.length)/\br (!M6 z||q.l !=u+1||decide (q.e>s.ep)||decide (u>0)&&decide ((s.L.getD (u-1).toNat dz).e>q.e)) i (Ri (u+1)/\∃(y:V0 s.L.length (uN s)),((m/\u+1=(y.1:Int)/\True)/\w/\True)/\Lt (s.L.length-y.1) (s.L.length-x.1))) ((∃(x:V0 s.fr.length (xN s)),(m/\0=(x.1:Int)/\True)/\w/\True)/\∀(x:V0 s.fr.length (xN s)),let j:=(x.1:Int);let r:=(s.fr.getD j.toNat dz);bd (j<(s.fr.length:Int)) (V6 j s.fr.length/\∃(X:yI.ι),((!V9 r.no (0:Int) (7:Int))=false->((r.pg.Q=X.Q/\(Z2 Z5 r.pg.sl X.sl)/\True)/\True)/\PgB X)/\∃(f:qP.ι),((!V9 r.no (0:Int) (7:Int)|| !o9 X||decide (r.pg.Q>v)|| !V9 r.first (0:Int) v|| ! r.D==decide (r.first>0))=false->((zV s f.1)/\r.no=f.2/\True)/\N6 f.1.fr.length)/\br (!V9 r.no (0:Int) (7:Int)|| !o9 X||decide (r.pg.Q>v)|| !V9 r.first (0:Int) v|| ! r.D==decide (r.first>0)||frAt f.1.fr f.2 !=j) i (Ri (j+1)/\∃(y:V0 s.fr.length (xN s)),((m/\j+1=(y.1:Int)/\True)/\w/\True)/\Lt (s.fr.length-y.1) (s.fr.length-x.1))) ((∃(x:V0 8 (i7 s)),(m/\0=(x.1:Int)/\True)/\w/\True)/\∀(x:V0 8 (i7 s)),let pa:=(x.1:Int);bd (pa<8) (∃(X:a0i.ι),(((yA s.d X.1)/\pa=(X.2:Int)/\True)/\a0z X)/\br (!(U4 X.1 X.2).2||decide ((U4 X.1 X.2).1.Q>s.S)) i (Ri (pa+1)/\∃(y:V0 8 (i7 s)),((m/\pa+1=(y.1:Int)/\True)/\w/\True)/\Lt (8-y.1) (8-x.1))) (true=H7 s))))) ⟨s.d,⟨⟨(eqD _),Z6⟩,hd⟩,λh=>pL ?_,λh=>?_⟩
 ·rw[sp,←B];rintro⟨h1,_⟩;have h:(!zQ s.d||(s.d.E.length:Int) !=69|| !V9 s.ep 1 60||decide ((s.L.length:Int)>60)|| !V9 s.S 0 s.L.length||decide ((s.fr.length:Int)>3)|| !V9 s.J 0 2)=true:=h;rw[h1] at h;cases h
 rw[B] at h;have j:=h;simp only[yY,yC,pT] at j;obtain⟨F,c2,I,L,J⟩:=(y6 s).1 j.1.1.1;refine⟨⟨H5,Y3⟩,λx=>⟨λhc=>?_,λhc=>⟨⟨H5,Y3⟩,λy=>⟨λhy=>?_,λhy=>⟨⟨H5,Y3⟩,λz=>⟨λhz=>?_,λhz=>?_⟩⟩⟩⟩⟩⟩
 ·have hlt:=Y2 hc;refine⟨Y1 hlt,hm _ (a4v hlt),λ_=>V8 hlt Z9,λ_ _=>Z3 Z9,λ_ h0=>⟨b7h,Z9⟩,λhq=>pL ?_,λhq=>⟨V8 hlt Z9,x.succ hlt ?_,⟨⟨Y3,L3,Z6⟩,Y3⟩,V0.ext_lt hlt⟩⟩
  ·rw[sp];rintro⟨_,h1,_⟩;have:=h1 x.1 hlt;unfold uN at this;rw[E8,show((x.1:Int)-1).toNat=x.1-1 by omega] at hq
   have hq:=hq.symm.trans this;cases hq
  ·rw[E8,show((x.1:Int)-1).toNat=x.1-1 by omega] at hq
   exact hq
 ·have hlt:=Y2 hy;refine⟨Y1 hlt,(s.fr.getD y.1 dz).pg,λ_=>⟨Y3,hf.2 _ hlt⟩,(s,(s.fr.getD y.1 dz).no),λ_=>⟨⟨(gL _),Y3⟩,hf.1⟩,λhq=>pL ?_,λhq=>⟨V8 hlt Z9,y.succ hlt hq,⟨⟨Y3,L3,Z6⟩,Y3⟩,V0.ext_lt hlt⟩⟩
  rw[sp];rintro⟨_,_,h1,_⟩;have:=h1 y.1 hlt;have hq:xN s y.1=true:=hq;rw[this] at hq;cases hq
 ·have hlt:z.1<8:=by have:=D4 hz;omega
  refine⟨(s.d,z.1),⟨⟨(eqD _),Y3⟩,F,F9⟩,λhq=>pL ?_,λhq=>⟨Z3 Z9,z.succ hlt hq,⟨⟨Y3,L3,Z6⟩,Y3⟩,V0.ext_lt hlt⟩⟩
  rw[sp];rintro⟨_,_,_,h1⟩;have:=h1 z.1 hlt;have hq:i7 s z.1=true:=hq;rw[this] at hq;cases hq
 ·have g1:=X7 hc;have g2:=X7 hy;have g3:8<=z.1:=by have:=q8 hz;omega
  exact(sp.2 ⟨h,λi hi=>x.2.2 i (zH hi g1),λi hi=>y.2.2 i (zH hi g2),λi hi=>z.2.2 i (zH hi g3)⟩).symm
def zZ(n:Int):UInt8:=R4 (IntKind.u8.wrap n)
def W4(L:List (Bz)):Nat->Bz
 |0=>[zZ L.length]
 |i+1=>W4 L i++[zZ (L.getD i []).length]++L.getD i []
def S3(L:List (Bz)):Bz:=W4 L L.length
def r5(L:List (Bz)):Prop:=L.length<=1000/\∀i,i<L.length->(L.getD i []).length<=1000
def xD:Rl:=⟨List (Bz),λL=>[xZ L],λL=>.bys (S3 L),r5⟩
def a3l:Con:=.rel xD
def a4u(L:List (Bz)):Nat->Ann
 |0=>.one (Up L.length) (λx=>⟨[(0,xZ L),(3,.osl 0 0 (W4 L x.1).length),(4,Ji x.1)],[some (.bys 5 (W4 L x.1))]⟩) (λx=>L.length-x.1) [.arr 0] [.arr 3] (λ_=>Y7)
 |_=>.none
def zO(n:Nat)(l:Bz):Prop:=n=l.length/\l.length<=1000000
def xB:List T->Y5->Option (T×Y5×Option Prop)
 | [.osl k off n],[some (.bys ty l)]=>match k,off,ty with
  |0,0,5=>some (.bys (l++D5 (m7 l)),[none],some (zO n l))
  |_,_,_=>none
 |_,_=>none
def a4Q:Con:=.eff xB
theorem nX:GK 269 a4Q:=gk func269<|by
 intro args H res H' p h hp;unfold xB at h;split at h
 case h_2=>cases h
 rename_i k off n ty l;split at h
 ·skip
  simp only[X4,U1] at h;obtain⟨rfl,rfl,rfl⟩:=h;obtain⟨rfl,hl⟩:zO n l:=hp;have e4:(D5 (m7 l)).length=4:=rfl;refine vcE (gC lG (gC uV gN)) func269 Y7 (bs:=[false]) (α:=∃(x:(vF IntKind.i64).ι),(Le (0+l.length) l.length/\(List.take l.length (List.drop 0 l)=x/\True)/\m5 x)/\∃(x_1:pC.ι),(((↑(m7 x):Int)=(x_1.1:Int)/\(4=match x_1.2 with|true=>(4:Int)|false=>(2:Int))/\True)/\True)/\(Le l.length l.length/\U8 l.length (match x_1.2 with|true=>D5 x_1.1|false=>zS x_1.1).length 1)/\Le (0+(l.length+(match x_1.2 with|true=>D5 x_1.1|false=>zS x_1.1).length)) (List.take l.length l++match x_1.2 with|true=>D5 x_1.1|false=>zS x_1.1).length/\List.take (l.length+(match x_1.2 with|true=>D5 x_1.1|false=>zS x_1.1).length) (List.drop 0 (List.take l.length l++match x_1.2 with|true=>D5 x_1.1|false=>zS x_1.1))=l++D5 (m7 l)/\True/\True) ⟨l,⟨K2,⟨eH,Z6⟩,a8o⟩,(m7 l,true),Y3,⟨U9 _,?_,?_⟩,?_,?_,Y3⟩
  ·simp only[e4];omega
  ·simp only[e4];omega
  ·unfold Le;rw[dC,J3,E5];exact U9 _
  ·rw[dC,List.drop_zero];exact List.take_of_length_le (by rw[J3];exact U9 _)
 ·cases h
theorem xF(L:List (Bz))(h:∀i,i<L.length->(L.getD i []).length<=1000):∀i,i<=L.length->(W4 L i).length<=1+1001*i
 |0,_=>by simp[W4]
 |i+1,hi=>by
  have d:=xF L h i Z9
  have e:=h i Z9
  simp only[W4,J3,List.length_cons,List.length_nil];omega
theorem l01Fields_ok:GK 270 a3l:=gk func270<|by
 rintro(L:List (Bz)) ⟨hL,hs⟩;refine S2 gN func270 (a4u L) (α:=let u:=(L.length:Int);P6 IntKind.u8 (IntKind.u8.wrap u)/\(∃(x:Up L.length),((Z2 Z5 L L)/\(0=0/\1=(W4 L x.1).length)/\0=(x.1:Int)/\True)/\List.map R4 [IntKind.u8.wrap u]=W4 L x.1/\True)/\∀(x:Up L.length),let v:=(W4 L x.1);let z:=(x.1:Int);let q:=(L.getD z.toNat []).length;let p:=v.length;let r:=(List.take p v++List.take 1 (List.drop 0 (List.map R4 [IntKind.u8.wrap (↑q:Int)])));bd (z<u) (V6 z L.length/\P6 IntKind.u8 (IntKind.u8.wrap (↑q:Int))/\(Le 1 1/\Le p p/\U8 p 1 1)/\V6 z L.length/\(Le (p+1) r.length/\U8 (p+1) q 1)/\Ri (z+1)/\∃(y:Up L.length),(((Z2 Z5 L L)/\(0=0/\p+1+q=(W4 L y.1).length)/\z+1=(y.1:Int)/\True)/\List.take (p+1) r++L.getD z.toNat []=W4 L y.1/\True)/\Lt (L.length-y.1) (L.length-x.1)) (Le (0+p) p/\List.take p (List.drop 0 v)=S3 L)) ⟨O9 _,⟨⟨0,N7 _⟩,Y3⟩,λx=>⟨λhc=>?_,λhc=>?_⟩⟩
 ·have hlt:=Y2 hc;have h1:=xF L hs x.1 Z9
  have h:=hs x.1 hlt;rw[E8];have e:List.take (W4 L x.1).length (W4 L x.1)++List.take 1 (List.drop 0 (List.map R4 [IntKind.u8.wrap ((L.getD x.1 []).length:Int)]))=W4 L x.1++[zZ (L.getD x.1 []).length]:=by
   rw[dC];rfl
  rw[e];have d:(W4 L x.1++[zZ (L.getD x.1 []).length]).length=(W4 L x.1).length+1:=X3
  refine⟨Y1 hlt,O9 _,⟨U9 _,U9 _,Z9,Z9⟩,Y1 hlt,⟨K2,Z9,Z9⟩,V8 hlt Z9,⟨x.1+1,hlt⟩,⟨⟨Y3,⟨rfl,?_⟩,F9,Z6⟩,?_,Z6⟩,V0.ext_lt hlt⟩
  ·simp only[W4,J3,List.length_cons,List.length_nil]
  ·rw[←d,dC];rfl
 ·have hx:x.1=L.length:=by have:=x.2;have:=X7 hc;omega
  rw[hx];exact⟨K2,by rw[List.drop_zero,dC];rfl⟩
def tL(no:Int)(p:Pg):Bz:=([R4 112,zZ no]++zS p.Q.toNat)++S3 p.sl
def Q4(no:Int)(p:Pg):Bz:=tL no p++D5 (m7 (tL no p))
def pV:Rl:=⟨Int×Pg,λx=>[Ji x.1,.agg x.2.ts],λx=>.bys (Q4 x.1 x.2),λx=>PgP x.2⟩
def a7L:Con:=.rel pV
theorem a3N:GK 282 a7L:=gk func282<|by
 rintro⟨no,p⟩ ⟨o,j,l,g⟩;simp only at o j l g;have f:r5 p.sl:=⟨Z9,λi hi=>Nat.le_trans (g i hi) W6⟩
 have h:=xF p.sl f.2 p.sl.length (U9 _);have h:(S3 p.sl).length<=5000:=by unfold S3;omega
 have e:(zS p.Q.toNat).length=2:=rfl;have d:List.take 2 (List.map R4 [(112:Int),IntKind.u8.wrap no])=[R4 112,zZ no]:=rfl;have n:List.take (2+(zS p.Q.toNat).length) ([R4 112,zZ no]++zS p.Q.toNat)=[R4 112,zZ no]++zS p.Q.toNat:=List.take_of_length_le I0
 have key:List.take (2+(zS p.Q.toNat).length) (List.take 2 (List.map R4 [(112:Int),IntKind.u8.wrap no])++zS p.Q.toNat)++S3 p.sl=tL no p:=by rw[d,n];rfl
 refine S2 (gC uV (gC l01Fields_ok (gC nX gN))) func282 Y7 (α:=(P6 IntKind.u8 (112:Int)/\P6 IntKind.u8 (IntKind.u8.wrap no))/\∃(x:pC.ι),((p.Q=(x.1:Int)/\(2=match x.2 with|true=>(4:Int)|false=>(2:Int))/\True)/\True)/\(Le 2 2/\U8 2 (match x.2 with|true=>D5 x.1|false=>zS x.1).length 1)/\∃(X:xD.ι),(((Z2 Z5 p.sl X)/\True)/\r5 X)/\(Le (2+(match x.2 with|true=>D5 x.1|false=>zS x.1).length) (List.take 2 (List.map R4 [(112:Int),IntKind.u8.wrap no])++match x.2 with|true=>D5 x.1|false=>zS x.1).length/\U8 (2+(match x.2 with|true=>D5 x.1|false=>zS x.1).length) (S3 X).length 1)/\zO (2+(match x.2 with|true=>D5 x.1|false=>zS x.1).length+(S3 X).length) (List.take (2+(match x.2 with|true=>D5 x.1|false=>zS x.1).length) (List.take 2 (List.map R4 [(112:Int),IntKind.u8.wrap no])++match x.2 with|true=>D5 x.1|false=>zS x.1)++S3 X)/\List.take (2+(match x.2 with|true=>D5 x.1|false=>zS x.1).length) (List.take 2 (List.map R4 [(112:Int),IntKind.u8.wrap no])++match x.2 with|true=>D5 x.1|false=>zS x.1)++S3 X++D5 (m7 (List.take (2+(match x.2 with|true=>D5 x.1|false=>zS x.1).length) (List.take 2 (List.map R4 [(112:Int),IntKind.u8.wrap no])++match x.2 with|true=>D5 x.1|false=>zS x.1)++S3 X))=Q4 no p) ⟨⟨(yV _).2 Z9,O9 _⟩,(p.Q.toNat,false),⟨⟨F9,Y3⟩,Z6⟩,⟨U9 _,a8l,a8l⟩,p.sl,⟨Y3,f⟩,⟨?_,a8l,a8l⟩,?_,?_⟩
 ·unfold Le;rw[d,J3];exact U9 _
 ·show zO _ (List.take (2+(zS p.Q.toNat).length) (List.take 2 (List.map R4 [(112:Int),IntKind.u8.wrap no])++zS p.Q.toNat)++S3 p.sl);rw[key];have hl:(tL no p).length=2+(zS p.Q.toNat).length+(S3 p.sl).length:=by unfold tL;simp;omega
  exact⟨hl.symm,by rw[hl,e];omega⟩
 ·show List.take (2+(zS p.Q.toNat).length) (List.take 2 (List.map R4 [(112:Int),IntKind.u8.wrap no])++zS p.Q.toNat)++S3 p.sl++D5 (m7 (List.take (2+(zS p.Q.toNat).length) (List.take 2 (List.map R4 [(112:Int),IntKind.u8.wrap no])++zS p.Q.toNat)++S3 p.sl))=_;rw[key];rfl
def fI:Rl:=⟨List (Bz),λL=>[xZ L,xZ L],λ_=>.bool true,λL=>L.length<=1048576⟩
def a24:Rl:=⟨List Int,λL=>[cN L,cN L],λ_=>.bool true,λL=>L.length<=1048576⟩
def jH(d:Dsk):Prop:=d.E.length<=1048576/\d.C.length<=1048576/\d.keep.length<=1048576
def a9B:Rl:=⟨Dsk,λd=>[.agg d.ts,.agg d.ts],λ_=>.bool true,jH⟩
def SmG(p:Pg):Prop:=p.sl.length<=1048576
def b6Q:Rl:=⟨Pg,λp=>[.agg p.ts,.agg p.ts],λ_=>.bool true,SmG⟩
def SmF(f:Frm):Prop:=SmG f.pg
def SmS(s:Sto):Prop:=jH s.d/\s.L.length<=1048576/\s.fr.length<=1048576/\∀i,i<s.fr.length->SmF (s.fr.getD i dz)
def a8P:Rl:=⟨Sto,λs=>[.agg s.ts,.agg s.ts],λ_=>.bool true,SmS⟩
structure Val where
 k:Int
 n:Int
 t:Bz
 deriving Inhabited
def Val.ts(v:Val):List T:=[Ji v.k,Ji v.n,.str v.t]
structure Rw where
 id:Int
 n:Val
 name:Val
 deriving Inhabited
def Rw.ts(r:Rw):List T:=[Ji r.id,Ji r.n.k,Ji r.n.n,.str r.n.t,Ji r.name.k,Ji r.name.n,.str r.name.t]
structure Chg where
 se:Int
 ta:Int
 row:Rw
 G:Bool
 deriving Inhabited
def Chg.ts(c:Chg):List T:=[Ji c.se,Ji c.ta,Ji c.row.id,Ji c.row.n.k,Ji c.row.n.n,.str c.row.n.t,Ji c.row.name.k,Ji c.row.name.n,.str c.row.name.t,.bool c.G]
def a2J(c:UInt8):Bool:=decide (c.toNat≥97)&&decide (c.toNat<=122)
def oM(t:Bz)(i:Nat):Bool:= !a2J (t.getD i 0)
def l8(t:Bz):Bool:= !anyI t.length (oM t)&&decide (t.length<=10)
def R3(v:Val):Bool:=if v.k=0 then(v.n==0)&&(v.t==[]) else if v.k=1 then V9 v.n (-1000000000) 1000000000&&(v.t==[]) else(v.k==2)&&(v.n==0)&&l8 v.t
def M0(r:Rw):Bool:=V9 r.id 0 1000&&R3 r.n&&(r.n.k !=2)&&R3 r.name&&(r.name.k !=1)
def iH:Rl:=⟨UInt8,λc=>[.int .u8 c.toNat],λc=>.bool (a2J c),λ_=>True⟩
def a5U:Con:=.rel iH
theorem a7E(c:UInt8)(h:
  (decide ((c.toNat:Int)≥(97:Int))&&decide ((c.toNat:Int)<=122))=a2J c):
  V2 prog 185 [.int .u8 c.toNat] (.bool (a2J c)):=
 S2 gN func185 Y7 h
theorem a2r:GK 185 a5U:=gk func185<|λc _=>a7E c (by unfold a2J;congr 1<;>exact decide_eq_decide.2 Z9)
def dX(t:Bz):Prop:=N6 t.length
theorem a8N{p:Prop}(h:p:=by unfold dX N6;simp):p:=h
def a3p:Rl:=⟨Bz,λt=>[.str t],λt=>.bool (l8 t),dX⟩
def b3i:Con:=.rel a3p
def b6E(t:Bz):Nat->Ann
 |0=>.one (V0 t.length (oM t)) (λx=>⟨[(0,.str t),(5,Ji t.length),(6,Ji x.1)],[]⟩) (λx=>t.length-x.1) [] [] (λ_=>Y7)
 |_=>.none
theorem b0v:GK 113 b3i:=gk func113<|by
 intro(t:Bz) (h:t.length<1000000000000);refine S2 (gC a2r gN) func113 (b6E t) (α:=let p:=(t.length:Int);(∃(x:V0 t.length (oM t)),(t=t/\p=p/\0=(x.1:Int)/\True)/\True)/\∀(x:V0 t.length (oM t)),let q:=(x.1:Int);bd (q<p) (V6 q t.length/\∃(X:iH.ι),(((↑(t.getD q.toNat (0:UInt8)).toNat:Int)=(↑(UInt8.toNat X):Int)/\True)/\True)/\br (!a2J X) (false=l8 t) (Ri (q+1)/\∃(y:V0 t.length (oM t)),((t=t/\p=p/\q+1=(y.1:Int)/\True)/\True)/\Lt (t.length-y.1) (t.length-x.1))) (decide (p<=10)=l8 t)) ⟨⟨H5,Y3⟩,λx=>⟨λhc=>?_,λhc=>?_⟩⟩
 ·have hlt:=Y2 hc;refine⟨Y1 hlt,t.getD x.1 0,Y3,λhp=>?_,λhp=>⟨V8 hlt Z9,x.succ hlt hp,⟨⟨rfl,rfl,L3,Z6⟩,Z6⟩,V0.ext_lt hlt⟩⟩
  have:anyI t.length (oM t)=true:=S8.2 ⟨x.1,hlt,hp⟩;unfold l8;rw[this];rfl
 ·have hge:=X7 hc;have:anyI t.length (oM t)=false:=R8.2 λi hi=>x.2.2 i (zH hi hge)
  unfold l8;rw[this];show _=decide (t.length<=10);exact decide_eq_decide.2 Z9
def a7j:Con:=.rel ⟨Int,λn=>[Ji n],λn=>.bool (V9 n (-1000000000) 1000000000),λ_=>True⟩
theorem a5u(n:Int)(h:
let p:=(-1000000000:Int);  V9 n p 1000000000=V9 n p (1000000000:Int)):
  V2 prog 112 [Ji n] (.bool (V9 n (-1000000000) 1000000000)):=
 S2 (gC P3 gN) func112 Y7 h
theorem a4c:GK 112 a7j:=gk func112<|λn _=>a5u n rfl
def G2:Rl:=⟨Val,λv=>[.agg v.ts],λv=>.bool (R3 v),λv=>dX v.t⟩
def a61:Con:=.rel G2
def a7y:Con:=.rel G2
theorem lK:GK 54 a61:=gk func54<|by
 intro(v:Val) h;refine S2 (gC a4c (gC b0v gN)) func54 Y7 (α:=br (v.k==0) ((v.k==0&&(v.n==0&&(v.t==[]&&true)))=R3 v) (br (v.k==1) (∃(x:Int),((v.n=x/\True)/\True)/\(V9 x (-1000000000:Int) (1000000000:Int)&&v.t==[])=R3 v) (∃(x:a3p.ι),((v.k==2&&v.n==0)=true->(v.t=x/\True)/\dX x)/\(v.k==2&&v.n==0&&l8 x)=R3 v))) ⟨λh0=>?_,λh0=>⟨λe=>⟨v.n,Y3,?_⟩,λe=>⟨v.t,λ_=>⟨Y3,h⟩,?_⟩⟩⟩
 ·have h0':v.k=0:=by simpa using h0
  unfold R3;rw[if_pos h0',h0,Bool.true_and,Bool.and_true]
 ·have h0':v.k≠0:=by simpa using h0
  have d:v.k=1:=by simpa using e
  unfold R3;rw[if_neg h0',if_pos d]
 ·have h0':v.k≠0:=by simpa using h0
  have d:v.k≠1:=by simpa using e
  unfold R3;rw[if_neg h0',if_neg d]
def c37(v:Val):Option Ob:=some (.arr true 1000000 3 1 λ_=>v.ts)
def a5s(v:Val):Nat->Ann
 |0=>.one (V0 v.t.length (oM v.t)) (λx=>⟨[(1,.ref 0 0 0),(3,Ji x.1)],[c37 v]⟩) (λx=>v.t.length-x.1) [.box 0] [.box 0] (λ_=>Y7)
 |_=>.none
theorem c46{v:Val}(h:v.k=2)(N:v.n=0)(l:v.t.length<=10):R3 v= !anyI v.t.length (oM v.t):=by
 unfold R3;rw[if_neg Z9,if_neg Z9,h,N]
 unfold l8;rw[mN l,Bool.and_true];rfl
theorem lT:GK 75 a7y:=gk func75<|by
 intro(v:Val) (h:v.t.length<1000000000000);refine S2 (gC B6 gN) func75 (a5s v) (α:=let z:=(v.t.length:Int);let r:=(false=R3 v);let p:=(oo (v.k=v.k/\v.n=v.n/\v.t=v.t/\True));br (v.k==0) ((v.n==0&&v.t==[])=R3 v) (br (v.k==1) ((V9 v.n (-1000000000:Int) (1000000000:Int)&&v.t==[])=R3 v) (br (v.k==2) (br (v.n !=0||decide (z>10)) r ((∃(x:V0 v.t.length (oM v.t)),((0=0/\0=0)/\0=(x.1:Int)/\True)/\p/\True)/\∀(x:V0 v.t.length (oM v.t)),let q:=(x.1:Int);bd (q<z) (V6 q v.t.length/\br (!V9 (IntKind.i64.wrap (↑(v.t.getD q.toNat (0:UInt8)).toNat:Int)) (97:Int) (122:Int)) r (Ri (q+1)/\∃(y:V0 v.t.length (oM v.t)),(((0=0/\0=0)/\q+1=(y.1:Int)/\True)/\p/\True)/\Lt (v.t.length-y.1) (v.t.length-x.1))) (true=R3 v))) r))) ⟨λh0=>?_,λh0=>⟨λf=>?_,λf=>⟨λh2=>⟨λhb=>?_,λhb=>?_⟩,λh2=>?_⟩⟩⟩
 ·have h0':v.k=0:=by simpa using h0
  unfold R3;rw[if_pos h0']
 ·have h0':v.k≠0:=by simpa using h0
  have d:v.k=1:=by simpa using f
  unfold R3;rw[if_neg h0',if_pos d]
 ·have h2':v.k=2:=by simpa using h2
  unfold R3 l8;rw[if_neg Z9,if_neg Z9]
  simp only[qR,bne_iff_ne,i5] at hb;by_cases hn:v.n=0
  ·rw[sX (p:=v.t.length<=10) (by rcases hb with hb|hb<;>omega)]
   simp
  ·rw[show(v.n==0)=false by simpa using hn]
   simp
 ·have h2':v.k=2:=by simpa using h2
  simp only[yY,bne_eq_false_iff_eq,pT] at hb;obtain⟨hn,l⟩:=hb;have e:=c46 h2' hn Z9
  refine⟨⟨H5,Y3⟩,λx=>⟨λhc=>?_,λhc=>?_⟩⟩
  ·have hlt:=Y2 hc;rw[rV,E8,show V9 ((v.t.getD x.1 0).toNat:Int) 97 122=a2J (v.t.getD x.1 0) by unfold V9 a2J;congr 1<;>exact decide_eq_decide.2 Z9]
   refine⟨Y1 hlt,λhp=>?_,λhp=>⟨V8 hlt Z9,x.succ hlt hp,⟨⟨Y3,L3,Z6⟩,Y3⟩,V0.ext_lt hlt⟩⟩
   have:anyI v.t.length (oM v.t)=true:=S8.2 ⟨x.1,hlt,hp⟩;rw[e,this];rfl
  ·have hge:=X7 hc;have:anyI v.t.length (oM v.t)=false:=R8.2 λi hi=>x.2.2 i (zH hi hge)
   rw[e,this];rfl
 ·have h0':v.k≠0:=by simpa using h0
  have d:v.k≠1:=by simpa using f
  unfold R3;rw[if_neg h0',if_neg d,h2];rfl
def a99:Con:=.rel ⟨Int,λn=>[Ji n],λn=>.bool (V9 n 1 3),λ_=>True⟩
theorem b14(n:Int)(h:
  V9 n (1:Int) 3=V9 n (1:Int) (3:Int)):
  V2 prog 26 [Ji n] (.bool (V9 n 1 3)):=
 S2 (gC P3 gN) func26 Y7 h
theorem vE:GK 26 a99:=gk func26<|λn _=>b14 n rfl
def c4f:Con:=.rel ⟨Int,λn=>[Ji n],λn=>.bool (V9 n 0 1000),λ_=>True⟩
theorem c3A(n:Int)(h:
  V9 n (0:Int) 1000=V9 n (0:Int) (1000:Int)):
  V2 prog 32 [Ji n] (.bool (V9 n 0 1000)):=
 S2 (gC P3 gN) func32 Y7 h
theorem a9z:GK 32 c4f:=gk func32<|λn _=>c3A n rfl
def RwB(r:Rw):Prop:=dX r.n.t/\dX r.name.t
def sO:Rl:=⟨Rw,λr=>[.agg r.ts],λr=>.bool (M0 r),RwB⟩
def b8l:Con:=.rel sO
def b4r:Con:=.rel sO
theorem a4W:GK 25 b8l:=gk func25<|by
 rintro(r:Rw) ⟨h1,h2⟩;exact S2 (gC a9z (gC lK gN)) func25 Y7 (α:=∃(x:Int),((r.id=x/\True)/\True)/\∃(X:G2.ι),(V9 x (0:Int) 1000=true->((r.n.k=X.k/\r.n.n=X.n/\r.n.t=X.t/\True)/\True)/\dX X.t)/\∃(d:G2.ι),((V9 x (0:Int) (1000:Int)&&R3 X&&r.n.k !=2)=true->((r.name.k=d.k/\r.name.n=d.n/\r.name.t=d.t/\True)/\True)/\dX d.t)/\(V9 x (0:Int) (1000:Int)&&R3 X&&r.n.k !=2&&R3 d&&r.name.k !=1)=M0 r) ⟨r.id,Y3,r.n,λ_=>⟨Y3,h1⟩,r.name,λ_=>⟨Y3,h2⟩,rfl⟩
theorem a0h:GK 34 b4r:=gk func34<|by
 rintro(r:Rw) ⟨h1,h2⟩;refine S2 (gC B6 (gC lT gN)) func34 Y7 (α:=∃(x:G2.ι),(V9 r.id (0:Int) 1000=true->((r.n.k=x.k/\r.n.n=x.n/\r.n.t=x.t/\True)/\True)/\dX x.t)/\∃(X:G2.ι),((V9 r.id (0:Int) (1000:Int)&&R3 x)=true->((r.name.k=X.k/\r.name.n=X.n/\r.name.t=X.t/\True)/\True)/\dX X.t)/\(V9 r.id (0:Int) (1000:Int)&&R3 x&&R3 X&&r.n.k !=2&&r.name.k !=1)=M0 r) ⟨r.n,λ_=>⟨Y3,h1⟩,r.name,λ_=>⟨Y3,h2⟩,?_⟩
 unfold M0;generalize V9 r.id 0 1000=a;generalize R3 r.n=b;generalize (r.n.k !=2)=c;generalize R3 r.name=d;cases a<;>cases b<;>cases c<;>cases d<;>rfl
structure Lck where
 tx:Int
 ta:Int
 row:Int
 mo:Int
 deriving Inhabited
def Lck.ts(l:Lck):List T:=[Ji l.tx,Ji l.ta,Ji l.row,Ji l.mo]
structure Wt where
 tx:Int
 fo:Int
 deriving Inhabited
def Wt.ts(w:Wt):List T:=[Ji w.tx,Ji w.fo]
def Y6(L:List Lck)(i:Nat):List T:=(L.getD i dz).ts
def fJ(L:List Lck):T:=.sl 4 L.length (Y6 L)
def Y4(L:List Wt)(i:Nat):List T:=(L.getD i dz).ts
def wtS(L:List Wt):T:=.sl 2 L.length (Y4 L)
structure Lks where
 H:List Lck
 W:List Wt
 deriving Inhabited
def Lks.ts(l:Lks):List T:=[fJ l.H,wtS l.W]
def tB(l:Lks):Option Ob:=some (.arr true 1000000 2 1 λ_=>l.ts)
def tP(a b:Int):Bool:=(a !=4)&&(b !=4)&&((a==1)||(b==1)||(a==b))
def qY(a b:Lck):Bool:=(a.tx==b.tx)&&((a.ta==b.ta)&&((a.row==b.row)&&((a.mo==b.mo)&&true)))
def uE(a b:Lck):Bool:=(a.ta==b.ta)&&(a.row==b.row)
def clash(a b:Lck):Bool:=(a.tx !=b.tx)&&uE a b&& !tP a.mo b.mo
def m6(l:Lck):Bool:=V9 l.tx 1 60&&V9 l.ta 1 3&&V9 l.row (-1) 1000&&V9 l.mo 1 4&&(decide (l.row<0)||decide (l.mo≥3))
def yM(L:List Lck)(a:Lck)(k:Nat):Bool:=qY a (L.getD k dz)||clash a (L.getD k dz)
def D9(L:List Lck)(i:Nat):Bool:= !m6 (L.getD i dz)||anyI i (yM L (L.getD i dz))
def B8(L:List Wt)(i:Nat):Bool:= !V9 (L.getD i dz).tx 1 60|| !V9 (L.getD i dz).fo 1 60||((L.getD i dz).tx==(L.getD i dz).fo)
def H3(l:Lks):Bool:= !anyI l.H.length (D9 l.H)&&(decide (l.H.length<=60)&&decide (l.W.length<=100)&& !anyI l.W.length (B8 l.W))
def b5k(l:Lks):Prop:=N6 l.H.length/\N6 l.W.length
def b6h:Con:=.rel ⟨Int,λn=>[Ji n],λn=>.bool (V9 n 1 4),λ_=>True⟩
theorem b3v(n:Int)(h:
  V9 n (1:Int) 4=V9 n (1:Int) (4:Int)):
  V2 prog 237 [Ji n] (.bool (V9 n 1 4)):=
 S2 (gC P3 gN) func237 Y7 h
theorem b07:GK 237 b6h:=gk func237<|λn _=>b3v n rfl
def c2j:Con:=.rel ⟨Int,λn=>[Ji n],λn=>.bool (V9 n 1 60),λ_=>True⟩
theorem c4W(n:Int)(h:
  V9 n (1:Int) 60=V9 n (1:Int) (60:Int)):
  V2 prog 174 [Ji n] (.bool (V9 n 1 60)):=
 S2 (gC P3 gN) func174 Y7 h
theorem a9b:GK 174 c2j:=gk func174<|λn _=>c4W n rfl
def b5Q:Con:=.rel ⟨Lck,λl=>[.agg l.ts],λl=>.bool (m6 l),λ_=>True⟩
theorem b52(l:Lck)(h:
  ∃(x:Int),((l.tx=x/\True)/\True)/\∃(X:Int),((V9 x (1:Int) (60:Int)&&V9 l.ta (1:Int) (3:Int)&&V9 l.row (-1:Int) (1000:Int))=true->(l.mo=X/\True)/\True)/\(V9 x (1:Int) (60:Int)&&V9 l.ta (1:Int) (3:Int)&&V9 l.row (-1:Int) (1000:Int)&&V9 X (1:Int) (4:Int)&&(decide (l.row<0)||decide (l.mo≥(3:Int))))=m6 l):
  V2 prog 170 [.agg l.ts] (.bool (m6 l)):=
 S2 (gC a9b (gC P3 (gC b07 gN))) func170 Y7 h
theorem b2D:GK 170 b5Q:=gk func170<|λl _=>b52 l ⟨l.tx,Y3,l.mo,λ_=>Y3,rfl⟩
def b6g:Con:=.rel ⟨Lck,λl=>l.ts,λl=>.bool (m6 l),λ_=>True⟩
theorem b0t:GK 136 b6g:=gk func136<|by
 intro(l:Lck) _;refine S2 (gC B6 gN) func136 Y7 (α:=(V9 l.tx (1:Int) (60:Int)&&V9 l.ta (1:Int) (3:Int)&&V9 l.row (-1:Int) (1000:Int)&&V9 l.mo (1:Int) (4:Int)&&(l.row==(-1:Int)||decide (l.mo≥(3:Int))))=m6 l) ?_
 unfold m6;cases h:V9 l.row (-1) 1000
 ·simp
 ·have d:=h;unfold V9 at d;simp only[M1,i5] at d;rw[show(l.row== -1)=decide (l.row<0) by rw[Bool.eq_iff_iff,beq_iff_eq,i5];omega]
def gR:Con:=.rel ⟨Int×Int,λx=>[Ji x.1,Ji x.2],λx=>.bool (tP x.1 x.2),λ_=>True⟩
def b6R:Con:=gR
theorem a7O(a b:Int)(h:
  (a !=4&&b !=4&&(a==1||b==1||a==b))=tP a b):
  V2 prog 239 [Ji a,Ji b] (.bool (tP a b)):=
 S2 gN func239 Y7 h
theorem a4e:GK 239 gR:=gk func239<|λx _=>a7O x.1 x.2 rfl
theorem bF:GK 137 b6R:=gk func137<|by
 rintro⟨a,b⟩ _;refine S2 gN func137 Y7 (α:=br (a==4||b==4) (false=tP a b) (br (a==1||b==1) (true=tP a b) ((a==b)=tP a b))) ⟨λh=>?_,λh=>⟨λg=>?_,λg=>?_⟩⟩<;>unfold tP<;>simp at*
 ·intro d e;rcases h with h|h<;>omega
 ·exact⟨h,by rcases g with g|g<;>simp[g]⟩
 ·rw[show(a !=4)=true by simpa using h.1,show(b !=4)=true by simpa using h.2,show(a==1)=false by simpa using g.1,show(b==1)=false by simpa using g.2]
  rfl
def a1c:Con:=.rel ⟨Lck×Lck,λx=>[.agg x.1.ts,.agg x.2.ts],λx=>.bool (uE x.1 x.2),λ_=>True⟩
theorem a1O(a b:Lck)(h:
  (a.ta==b.ta&&a.row==b.row)=uE a b):
  V2 prog 238 [.agg a.ts,.agg b.ts] (.bool (uE a b)):=
 S2 gN func238 Y7 h
theorem qV:GK 238 a1c:=gk func238<|λx _=>a1O x.1 x.2 rfl
def b2q:Con:=.rel ⟨Lck×Lck,λx=>[.agg x.1.ts,.agg x.2.ts],λx=>.bool (clash x.1 x.2),λ_=>True⟩
theorem b2e(a b:Lck)(h:
  ∃(x:(Lck×Lck)),((a.tx !=b.tx)=true->((a.tx=x.1.tx/\a.ta=x.1.ta/\a.row=x.1.row/\a.mo=x.1.mo/\True)/\(b.tx=x.2.tx/\b.ta=x.2.ta/\b.row=x.2.row/\b.mo=x.2.mo/\True)/\True)/\True)/\∃(X:(Int×Int)),((a.tx !=b.tx&&uE x.1 x.2)=true->(a.mo=X.1/\b.mo=X.2/\True)/\True)/\(a.tx !=b.tx&&uE x.1 x.2&& !tP X.1 X.2)=clash a b):
  V2 prog 172 [.agg a.ts,.agg b.ts] (.bool (clash a b)):=
 S2 (gC qV (gC a4e gN)) func172 Y7 h
theorem eA:GK 172 b2q:=gk func172<|λx _=>b2e x.1 x.2 ⟨(x.1,x.2),λ_=>Y3,(x.1.mo,x.2.mo),λ_=>Y3,rfl⟩
def a7f:Con:=.rel ⟨Lck×Lck,λx=>[.agg x.2.ts,.bref x.1.ts],λx=>.bool (qY x.1 x.2||clash x.1 x.2),λ_=>True⟩
theorem a6c(a b:Lck)(h:
let p:=(a.ta==b.ta&&(a.row==b.row&&(a.mo==b.mo&&true)));  ∃(x:(Lck×Lck)),((a.tx==b.tx&&p)=false->((a.tx=x.1.tx/\a.ta=x.1.ta/\a.row=x.1.row/\a.mo=x.1.mo/\True)/\(b.tx=x.2.tx/\b.ta=x.2.ta/\b.row=x.2.row/\b.mo=x.2.mo/\True)/\True)/\True)/\(a.tx==b.tx&&p||clash x.1 x.2)=(qY a b||clash a b)):
  V2 prog 171 [.agg b.ts,.bref a.ts] (.bool (qY a b||clash a b)):=
 S2 (gC eA gN) func171 Y7 h
theorem a23:GK 171 a7f:=gk func171<|λx _=>a6c x.1 x.2 ⟨(x.1,x.2),λ_=>Y3,rfl⟩
def b8v(a:Lck):T:=.fn (.func 171) [.bref a.ts]
def b17:Con:=.rel ⟨List Lck×Nat×Lck,λx=>[.sl 4 x.2.1 (Y6 x.1),b8v x.2.2],λx=>Ji (S9 x.2.1 (yM x.1 x.2.2)),λx=>N6 x.2.1⟩
def b0n(L:List Lck)(n:Nat)(a:Lck):Nat->Ann
 |0=>.one (V0 n (yM L a)) (λx=>⟨[(0,.sl 4 n (Y6 L)),(1,b8v a),(7,Ji n),(8,Ji x.1)],[]⟩) (λx=>n-x.1) [] [] (λ_=>Y7)
 |_=>.none
theorem a6q:GK 176 b17:=gk func176<|by
 rintro⟨L,n,a⟩ (hL:n<1000000000000);refine S2 (gC a23 gN) func176 (b0n L n a) (α:=let z:=(n=n/\Z7 n (Y6 L) (Y6 L));let p:=(T.bref [Ji a.tx,Ji a.ta,Ji a.row,Ji a.mo]);(∃(x:V0 n (yM L a)),(z/\(Fn.func 171=Fn.func 171/\L6 (λ(x:Nat)=>none) p p/\True)/\(n:Int)=(n:Int)/\0=(x.1:Int)/\True)/\True)/\∀(x:V0 n (yM L a)),let r:=(x.1:Int);let q:=(L.getD r.toNat dz);bd (r<(n:Int)) (V6 r n/\∃(X:(Lck×Lck)),(((q.tx=X.2.tx/\q.ta=X.2.ta/\q.row=X.2.row/\q.mo=X.2.mo/\True)/\(a.tx=X.1.tx/\a.ta=X.1.ta/\a.row=X.1.row/\a.mo=X.1.mo/\True)/\True)/\True)/\br (qY X.1 X.2||clash X.1 X.2) (r=S9 n (yM L a)) (Ri (r+1)/\∃(y:V0 n (yM L a)),((z/\(Fn.func 171=Fn.func 171/\L6 (λ(x:Nat)=>none) p p/\True)/\(n:Int)=(n:Int)/\r+1=(y.1:Int)/\True)/\True)/\Lt (n-y.1) (n-x.1))) ((-1:Int)=S9 n (yM L a))) ⟨⟨H5,⟨Y3,⟨rfl,U2 _,Z6⟩,Y3⟩,Z6⟩,λx=>⟨λC=>?_,λC=>?_⟩⟩
 ·have h:=Y2 C;refine⟨Y1 h,(a,L.getD x.1 dz),Y3,λhp=>(P5 h hp x.2.2).symm,λhp=>⟨V8 h Z9,x.succ h hp,⟨⟨Y3,⟨rfl,U2 _,Z6⟩,rfl,L3,Z6⟩,Z6⟩,V0.ext_lt h⟩⟩
 ·have e:=X7 C;exact(M2 λj J=>x.2.2 j (zH J e)).symm
def a95:Con:=.rel ⟨List Lck×Nat×Lck,λx=>[.sl 4 x.2.1 (Y6 x.1),b8v x.2.2],λx=>.bool (anyI x.2.1 (yM x.1 x.2.2)),λx=>N6 x.2.1⟩
theorem b0P(L:List Lck)(n:Nat)(a:Lck)(h:
  ∃(x:(List Lck×Nat×Lck)),(((n=x.2.1/\Z7 n (Y6 L) (Y6 x.1))/\(Fn.func 171=Fn.func 171/\(a.tx=x.2.2.tx/\a.ta=x.2.2.ta/\a.row=x.2.2.row/\a.mo=x.2.2.mo/\True)/\True)/\True)/\N6 x.2.1)/\decide (S9 x.2.1 (yM x.1 x.2.2)≥(0:Int))=anyI n (yM L a)):
  V2 prog 99 [.sl 4 n (Y6 L),b8v a] (.bool (anyI n (yM L a))):=
 S2 (gC a6q gN) func99 Y7 h
theorem a7A:GK 99 a95:=gk func99<|λx h=>b0P x.1 x.2.1 x.2.2 ⟨x,⟨Y3,h⟩,G1 _ _⟩
def a6D:Con:=.rel ⟨List Wt×Nat,λx=>[.agg (x.1.getD x.2 dz).ts],λx=>.bool (B8 x.1 x.2),λ_=>True⟩
theorem a5X(L:List Wt)(i:Nat)(h:
let p:=(L.getD i dz);  ∃(x:Int),((p.tx=x/\True)/\True)/\∃(X:Int),((!V9 x (1:Int) (60:Int))=false->(p.fo=X/\True)/\True)/\(!V9 x (1:Int) (60:Int)|| !V9 X (1:Int) (60:Int)||p.tx==p.fo)=B8 L i):
  V2 prog 173 [.agg (L.getD i dz).ts] (.bool (B8 L i)):=
 S2 (gC a9b gN) func173 Y7 h
theorem a2L:GK 173 a6D:=gk func173<|λx _=>a5X x.1 x.2 ⟨_,Y3,_,λ_=>Y3,rfl⟩
def b60:Con:=.rel ⟨List Wt,λL=>[wtS L,fnT 173],λL=>.int .i64 (S9 L.length (B8 L)),λL=>N6 L.length⟩
def b4u(L:List Wt):Nat->Ann
 |0=>.one (V0 L.length (B8 L)) (λx=>⟨[(0,wtS L),(1,fnT 173),(7,Ji L.length),(8,Ji x.1)],[]⟩) (λx=>L.length-x.1) [] [] (λ_=>Y7)
 |_=>.none
theorem b1W:GK 179 b60:=gk func179<|by
 intro(L:List Wt) (hL:L.length<1000000000000);refine S2 (gC a2L gN) func179 (b4u L) (α:=let r:=(Fn.func 173);let q:=(L.length:Int);(∃(x:V0 L.length (B8 L)),((Z2 Y4 L L)/\Value.func r #[] #[]=Value.func r #[] #[]/\q=q/\0=(x.1:Int)/\True)/\True)/\∀(x:V0 L.length (B8 L)),let p:=(x.1:Int);let z:=(L.getD p.toNat dz);bd (p<q) (V6 p L.length/\∃(X:(List Wt×Nat)),let u:=(X.1.getD X.2 dz);(((z.tx=u.tx/\z.fo=u.fo/\True)/\True)/\True)/\br (B8 X.1 X.2) (p=S9 L.length (B8 L)) (Ri (p+1)/\∃(y:V0 L.length (B8 L)),(((Z2 Y4 L L)/\Value.func r #[] #[]=Value.func r #[] #[]/\q=q/\p+1=(y.1:Int)/\True)/\True)/\Lt (L.length-y.1) (L.length-x.1))) ((-1:Int)=S9 L.length (B8 L))) ⟨⟨H5,Y3⟩,λx=>⟨λC=>?_,λC=>?_⟩⟩
 ·have h:=Y2 C;refine⟨Y1 h,(L,x.1),Y3,λhp=>(P5 h hp x.2.2).symm,λhp=>⟨V8 h Z9,x.succ h hp,⟨⟨Y3,rfl,rfl,L3,Z6⟩,Z6⟩,V0.ext_lt h⟩⟩
 ·have e:=X7 C;exact(M2 λj J=>x.2.2 j (zH J e)).symm
def b7l:Con:=.rel ⟨List Wt,λL=>[wtS L,fnT 173],λL=>.bool (anyI L.length (B8 L)),λL=>N6 L.length⟩
theorem b5n(L:List Wt)(h:
  ∃(x:(List Wt)),(((Z2 Y4 L x)/\Value.func (Fn.func 173) #[] #[]=Value.func (Fn.func 173) #[] #[]/\True)/\N6 (x.length))/\decide (S9 (x.length) (B8 x)≥(0:Int))=anyI L.length (B8 L)):
  V2 prog 102 [wtS L,fnT 173] (.bool (anyI L.length (B8 L))):=
 S2 (gC b1W gN) func102 Y7 h
theorem b0M:GK 102 b7l:=gk func102<|λ(L:List Wt) hL=>b5n L ⟨L,⟨Y3,hL⟩,G1 _ _⟩
def sI:Rl:=⟨Lks,λl=>[.agg l.ts],λl=>.bool (H3 l),b5k⟩
def a5g:Con:=.rel sI
def a6L:Con:=.rel sI
def a7p(l:Lks):Nat->Ann
 |0=>.one (V0 l.H.length (D9 l.H)) (λx=>⟨[(1,.ref 0 0 0),(6,fJ l.H),(7,Ji l.H.length),(8,Ji x.1)],[tB l]⟩) (λx=>l.H.length-x.1) [.box 0] [.box 0] (λ_=>Y7)
 |_=>.none
theorem a2w:GK 97 a5g:=gk func97<|by
 rintro(l:Lks) ⟨h,hw⟩;have h:l.H.length<1000000000000:=h;refine S2 (gC b2D (gC a7A (gC b0M gN))) func97 (a7p l) (α:=let v:=((l.W.length:Int)<=100);let u:=(Z2 Y6 l.H l.H);let z:=(oo (u/\(Z2 Y4 l.W l.W)/\True));let q:=(l.H.length:Int);(∃(x:V0 l.H.length (D9 l.H)),((0=0/\0=0)/\u/\q=q/\0=(x.1:Int)/\True)/\z/\True)/\∀(x:V0 l.H.length (D9 l.H)),let r:=(x.1:Int);let p:=(l.H.getD r.toNat dz);bd (r<q) (V6 r l.H.length/\∃(d:Lck),(((p.tx=d.tx/\p.ta=d.ta/\p.row=d.row/\p.mo=d.mo/\True)/\True)/\True)/\((!m6 d)=false->iM r l.H.length)/\∃(X:(List Lck×Nat×Lck)),((!m6 d)=false->((r.toNat=X.2.1/\Z7 r.toNat (Y6 l.H) (Y6 X.1))/\(Fn.func 171=Fn.func 171/\(p.tx=X.2.2.tx/\p.ta=X.2.2.ta/\p.row=X.2.2.row/\p.mo=X.2.2.mo/\True)/\True)/\True)/\N6 X.2.1)/\br (!m6 d||anyI X.2.1 (yM X.1 X.2.2)) (false=H3 l) (Ri (r+1)/\∃(y:V0 l.H.length (D9 l.H)),(((0=0/\0=0)/\u/\q=q/\r+1=(y.1:Int)/\True)/\z/\True)/\Lt (l.H.length-y.1) (l.H.length-x.1))) (∃(x:(List Wt)),((decide (q<=60)&&decide v)=true->((Z2 Y4 l.W x)/\Value.func (Fn.func 173) #[] #[]=Value.func (Fn.func 173) #[] #[]/\True)/\N6 (x.length))/\(decide (q<=60)&&decide v&& !anyI (x.length) (B8 x))=H3 l)) ⟨⟨H5,Y3⟩,λx=>⟨λhc=>?_,λhc=>?_⟩⟩
 ·have hlt:=Y2 hc;refine⟨Y1 hlt,l.H.getD x.1 dz,Y3,λ_=>⟨Z9,Z9⟩,(l.H,x.1,l.H.getD x.1 dz),λ_=>⟨⟨⟨F9,W2 _ _⟩,Y3⟩,by show x.1<1000000000000;omega⟩,λhb=>?_,λhb=>⟨V8 hlt Z9,x.succ hlt hb,⟨⟨Y3,Y3,rfl,L3,Z6⟩,Y3⟩,V0.ext_lt hlt⟩⟩
  have:anyI l.H.length (D9 l.H)=true:=S8.2 ⟨x.1,hlt,hb⟩;unfold H3;rw[this];rfl
 ·have hge:=X7 hc;have:anyI l.H.length (D9 l.H)=false:=R8.2 λi hi=>x.2.2 i (zH hi hge)
  refine⟨l.W,λ_=>⟨Y3,hw⟩,?_⟩
  unfold H3;rw[this,Bool.not_false,Bool.true_and];congr 2<;>exact decide_eq_decide.2 Z9
def c1Q(L:List Lck)(a:Lck)(k:Nat):Bool:=(a.ta==(L.getD k dz).ta)&&(a.row==(L.getD k dz).row)&&(qY a (L.getD k dz)||(a.tx !=(L.getD k dz).tx)&& !tP a.mo (L.getD k dz).mo)
def a7l(l:Lks):Nat->Ann
 |0=>.one (V0 l.H.length (D9 l.H)) (λx=>⟨[(1,.ref 0 0 0),(3,Ji x.1)],[tB l]⟩) (λx=>l.H.length-x.1) [.box 0] [.box 0] (λx=>fun
  |1=>.one (V0 x.1 (yM l.H (l.H.getD x.1 dz))) (λy=>⟨[(1,.ref 0 0 0),(3,Ji x.1),(4,.ref 1 0 0),(5,Ji y.1)],[tB l,some (.arr true 1000000 4 1 λ_=>(l.H.getD x.1 dz).ts)]⟩) (λy=>x.1-y.1) vO vO (λ_=>Y7)
  |2=>.one (V0 l.W.length (B8 l.W)) (λy=>⟨[(1,.ref 0 0 0),(7,Ji y.1)],[tB l]⟩) (λy=>l.W.length-y.1) [.box 0] [.box 0] (λ_=>Y7)
  |_=>.none)
 |_=>.none
theorem b3R(L:List Lck)(a:Lck)(k:Nat):c1Q L a k=yM L a k:=by
 unfold c1Q yM clash qY uE;generalize (a.ta==(L.getD k dz).ta)=p;generalize (a.row==(L.getD k dz).row)=q;generalize (a.mo==(L.getD k dz).mo)=r;generalize tP a.mo (L.getD k dz).mo=t;rw[show(a.tx !=(L.getD k dz).tx)= !(a.tx==(L.getD k dz).tx) from rfl]
 generalize (a.tx==(L.getD k dz).tx)=u;cases p<;>cases q<;>cases r<;>cases t<;>cases u<;>rfl
theorem a47:GK 71 a6L:=gk func71<|by
 rintro(l:Lks) ⟨L,W⟩;have L:l.H.length<1000000000000:=L;have W:l.W.length<1000000000000:=W;have bh:∀i,i<l.H.length->D9 l.H i=true->false=H3 l:=λi hi hb=>by
  have:anyI l.H.length (D9 l.H)=true:=S8.2 ⟨i,hi,hb⟩;unfold H3;rw[this];rfl
 refine S2 (gC b0t (gC bF (gC B6 gN))) func71 (a7l l) (α:=let a:=(l.W.length:Int);let g:=(l.H.length:Int);let n:=(false=H3 l);let w:=(0=0/\0=0);let r:=(oo ((Z2 Y6 l.H l.H)/\(Z2 Y4 l.W l.W)/\True));br (decide (g>60)||decide (a>100)) n ((∃(x:V0 l.H.length (D9 l.H)),(w/\0=(x.1:Int)/\True)/\r/\True)/\∀(x:V0 l.H.length (D9 l.H)),let v:=(x.1:Int);let z:=(l.H.getD v.toNat dz);let p:=(l.H.getD x.1 dz);let f:=p.row;bd (v<g) (V6 v l.H.length/\∃(d:Lck),((z.tx=d.tx/\z.ta=d.ta/\z.row=d.row/\z.mo=d.mo/\True)/\True)/\br (!m6 d) n ((∃(X:V0 x.1 (yM l.H (l.H.getD x.1 dz))),(w/\v=v/\w/\0=(X.val:Int)/\True)/\r/\(oo (z.tx=p.tx/\z.ta=p.ta/\z.row=f/\z.mo=p.mo/\True))/\True)/\∀(X:V0 x.1 (yM l.H (l.H.getD x.1 dz))),let k:=(X.val:Int);let q:=(l.H.getD k.toNat dz);let j:=(p.ta==q.ta&&(f==q.row&&(p.mo==q.mo&&true)));bd (k<v) (V6 k l.H.length/\∃(e:(Int×Int)),((p.ta==q.ta&&f==q.row)=true->(p.tx==q.tx&&j)=false->(p.tx !=q.tx)=true->(p.mo=e.1/\q.mo=e.2/\True)/\True)/\br (p.ta==q.ta&&f==q.row&&(p.tx==q.tx&&j||p.tx !=q.tx&& !tP e.1 e.2)) n (Ri (k+1)/\∃(y:V0 x.1 (yM l.H (l.H.getD x.1 dz))),((w/\v=v/\w/\k+1=(y.1:Int)/\True)/\r/\(oo (p.tx=p.tx/\p.ta=p.ta/\f=f/\p.mo=p.mo/\True))/\True)/\Lt (x.1-y.1) (x.1-X.val))) (Ri (v+1)/\∃(y:V0 l.H.length (D9 l.H)),((w/\v+1=(y.1:Int)/\True)/\r/\True)/\Lt (l.H.length-y.1) (l.H.length-x.1)))) ((∃(x:V0 l.W.length (B8 l.W)),(w/\0=(x.1:Int)/\True)/\r/\True)/\∀(x:V0 l.W.length (B8 l.W)),let m:=(x.1:Int);let u:=(l.W.getD m.toNat dz);bd (m<a) (V6 m l.W.length/\br (!V9 u.tx (1:Int) (60:Int)|| !V9 u.fo (1:Int) (60:Int)||u.tx==u.fo) n (Ri (m+1)/\∃(y:V0 l.W.length (B8 l.W)),((w/\m+1=(y.1:Int)/\True)/\r/\True)/\Lt (l.W.length-y.1) (l.W.length-x.1))) (true=H3 l)))) ⟨λh=>?_,λh=>⟨⟨H5,Y3⟩,λx=>⟨λhc=>?_,λhc=>⟨⟨H5,Y3⟩,λy=>⟨λhy=>?_,λhy=>?_⟩⟩⟩⟩⟩
 ·simp only[qR,i5] at h;unfold H3;rcases h with h|h
  ·rw[sX (p:=l.H.length<=60) Z9]
   simp
  ·rw[sX (p:=l.W.length<=100) Z9]
   simp
 ·have hlt:=Y2 hc;refine⟨Y1 hlt,l.H.getD x.1 dz,Y3,λhb=>bh _ hlt (by unfold D9;rw[hb];rfl),λhb=>⟨⟨H5,Y3⟩,λy=>⟨λhy=>?_,λhy=>?_⟩⟩⟩
  ·have hyt:=Y2 hy;refine⟨Y1 Z9,((l.H.getD x.1 dz).mo,(l.H.getD y.1 dz).mo),λ_ _ _=>Y3,λhq=>?_,λhq=>⟨V8 hyt Z9,y.succ hyt ((b3R _ _ _).symm.trans hq),⟨⟨Y3,rfl,Y3,L3,Z6⟩,Y3⟩,V0.ext_lt hyt⟩⟩
   refine bh _ hlt ?_
   unfold D9;have:anyI x.1 (yM l.H (l.H.getD x.1 dz))=true:=S8.2 ⟨y.1,hyt,(b3R _ _ _).symm.trans hq⟩;rw[this,Bool.or_true]
  ·have hge:=X7 hy;have:anyI x.1 (yM l.H (l.H.getD x.1 dz))=false:=R8.2 λi hi=>y.2.2 i (zH hi hge)
   exact⟨V8 hlt Z9,x.succ hlt (by unfold D9;rw[hb,this];rfl),⟨⟨⟨rfl,rfl⟩,L3,Z6⟩,⟨rfl,rfl,⟨rfl,W2 _ _⟩,⟨rfl,W2 _ _⟩,Z6⟩,Z6⟩,V0.ext_lt hlt⟩
 ·have hlt:=Y2 hy;refine⟨Y1 hlt,λhq=>?_,λhq=>⟨V8 hlt Z9,y.succ hlt hq,⟨⟨Y3,L3,Z6⟩,Y3⟩,V0.ext_lt hlt⟩⟩
  have:anyI l.W.length (B8 l.W)=true:=S8.2 ⟨y.1,hlt,hq⟩;unfold H3;rw[this];simp
 ·have g1:=X7 hc;have g2:=X7 hy;have e1:anyI l.H.length (D9 l.H)=false:=R8.2 λi hi=>x.2.2 i (zH hi g1)
  have f:anyI l.W.length (B8 l.W)=false:=R8.2 λi hi=>y.2.2 i (zH hi g2)
  simp only[yY,pT] at h;unfold H3;rw[e1,f,mN (p:=l.H.length<=60) Z9,mN (p:=l.W.length<=100) Z9]
  rfl
structure Txn where
 id:Int
 Z:Int
 deriving Inhabited
def Txn.ts(t:Txn):List T:=[Ji t.id,Ji t.Z]
def W8(L:List Txn)(i:Nat):List T:=(L.getD i dz).ts
def a3a(L:List Txn):T:=.sl 2 L.length (W8 L)
structure Eng where
 s:Sto
 up:Bool
 X:List Txn
 lk:Lks
 N:Int
 deriving Inhabited
def Eng.ts(e:Eng):List T:=[xZ e.s.d.E,qX e.s.d.C,.bool e.s.d.A,cN e.s.d.keep,Ji e.s.ep,oG e.s.L,Ji e.s.S,a5H e.s.fr,Ji e.s.J,.bool e.up,a3a e.X,fJ e.lk.H,wtS e.lk.W,Ji e.N]
abbrev L0(a b:Eng):Prop:=(a.s.d.E.length=b.s.d.E.length/\Z7 a.s.d.E.length (Z5 a.s.d.E) (Z5 b.s.d.E))/\(a.s.d.C.length=b.s.d.C.length/\Z7 a.s.d.C.length (Y8 a.s.d.C) (Y8 b.s.d.C))/\a.s.d.A=b.s.d.A/\(a.s.d.keep.length=b.s.d.keep.length/\Z7 a.s.d.keep.length (Y9 a.s.d.keep) (Y9 b.s.d.keep))/\a.s.ep=b.s.ep/\(a.s.L.length=b.s.L.length/\Z7 a.s.L.length (Y0 a.s.L) (Y0 b.s.L))/\a.s.S=b.s.S/\(a.s.fr.length=b.s.fr.length/\Z7 a.s.fr.length (V4 a.s.fr) (V4 b.s.fr))/\a.s.J=b.s.J/\a.up=b.up/\(a.X.length=b.X.length/\Z7 a.X.length (W8 a.X) (W8 b.X))/\(a.lk.H.length=b.lk.H.length/\Z7 a.lk.H.length (Y6 a.lk.H) (Y6 b.lk.H))/\(a.lk.W.length=b.lk.W.length/\Z7 a.lk.W.length (Y4 a.lk.W) (Y4 b.lk.W))/\a.N=b.N/\True
theorem tY(s:Eng):L0 s s:=Y3
theorem b7m{p:Prop}(h:p:=by dsimp only;rw[z];exact tY _):p:=h
def u5(e:Eng):Option Ob:=some (.arr true 1000000 14 1 λ_=>e.ts)
def B9(L:List Txn)(id:Int)(i:Nat):Bool:=(L.getD i dz).id==id
def T5(L:List Txn)(id:Int):Int:=S9 L.length (B9 L id)
def c0s:Con:=.rel ⟨Txn×Int,λx=>[.agg x.1.ts,.bref [Ji x.2]],λx=>.bool (x.1.id==x.2),λ_=>True⟩
theorem b9e(t:Txn)(id:Int)(h:
  (t.id==id)=(t.id==id)):
  V2 prog 178 [.agg t.ts,.bref [Ji id]] (.bool (t.id==id)):=
 S2 gN func178 Y7 h
theorem b4o:GK 178 c0s:=gk func178<|λx _=>b9e x.1 x.2 rfl
def txF(id:Int):T:=.fn (.func 178) [.bref [Ji id]]
def b5t:Con:=.rel ⟨List Txn×Int,λx=>[a3a x.1,txF x.2],λx=>Ji (T5 x.1 x.2),λx=>N6 x.1.length⟩
def b4y(L:List Txn)(id:Int):Nat->Ann
 |0=>.one (V0 L.length (B9 L id)) (λx=>⟨[(0,a3a L),(1,txF id),(7,Ji L.length),(8,Ji x.1)],[]⟩) (λx=>L.length-x.1) [] [] (λ_=>Y7)
 |_=>.none
theorem b1O:GK 177 b5t:=gk func177<|by
 rintro⟨L,id⟩ (hL:L.length<1000000000000);refine S2 (gC b4o gN) func177 (b4y L id) (α:=let r:=(L.length:Int);let p:=(T.bref [Ji id]);(∃(x:V0 L.length (B9 L id)),((Z2 W8 L L)/\(Fn.func 178=Fn.func 178/\L6 (λ(x:Nat)=>none) p p/\True)/\r=r/\0=(x.1:Int)/\True)/\True)/\∀(x:V0 L.length (B9 L id)),let q:=(x.1:Int);let z:=(L.getD q.toNat dz);bd (q<r) (V6 q L.length/\∃(X:(Txn×Int)),(((z.id=X.1.id/\z.Z=X.1.Z/\True)/\(id=X.2/\True)/\True)/\True)/\br (X.1.id==X.2) (q=T5 L id) (Ri (q+1)/\∃(y:V0 L.length (B9 L id)),(((Z2 W8 L L)/\(Fn.func 178=Fn.func 178/\L6 (λ(x:Nat)=>none) p p/\True)/\r=r/\q+1=(y.1:Int)/\True)/\True)/\Lt (L.length-y.1) (L.length-x.1))) ((-1:Int)=T5 L id)) ⟨⟨H5,⟨Y3,⟨rfl,U2 _,Z6⟩,Y3⟩,Z6⟩,λx=>⟨λC=>?_,λC=>?_⟩⟩
 ·have h:=Y2 C;refine⟨Y1 h,(L.getD x.1 dz,id),Y3,λhp=>(P5 h hp x.2.2).symm,λhp=>⟨V8 h Z9,x.succ h hp,⟨⟨Y3,⟨rfl,U2 _,Z6⟩,rfl,L3,Z6⟩,Z6⟩,V0.ext_lt h⟩⟩
 ·have e:=X7 C;exact(M2 λj J=>x.2.2 j (zH J e)).symm
def c3f:Con:=.rel ⟨Eng×Int,λx=>[.bref x.1.ts,Ji x.2],λx=>Ji (T5 x.1.X x.2),λx=>N6 x.1.X.length⟩
theorem c3G(e:Eng)(id:Int)(h:
  ∃(x:(List Txn×Int)),(((Z2 W8 e.X x.1)/\(Fn.func 178=Fn.func 178/\(id=x.2/\True)/\True)/\True)/\N6 x.1.length)/\T5 x.1 x.2=T5 e.X id):
  V2 prog 101 [.bref e.ts,Ji id] (.int .i64 (T5 e.X id)):=
 S2 (gC b1O gN) func101 Y7 h
theorem oC:GK 101 c3f:=gk func101<|λx h=>c3G x.1 x.2 ⟨(x.1.X,x.2),⟨Y3,h⟩,rfl⟩
def b9o:Con:=.rel ⟨Eng×Int,λx=>[.agg x.1.ts,Ji x.2],λx=>Ji (T5 x.1.X x.2),λx=>N6 x.1.X.length⟩
def b7t(e:Eng)(id:Int):Nat->Ann
 |0=>.one (V0 e.X.length (B9 e.X id)) (λx=>⟨[(1,Ji id),(2,.ref 0 0 0),(5,Ji x.1)],[u5 e]⟩) (λx=>e.X.length-x.1) [.box 0] [.box 0] (λ_=>Y7)
 |_=>.none
theorem a4G:GK 73 b9o:=gk func73<|by
 rintro⟨e,id⟩ (hL:e.X.length<1000000000000);refine S2 gN func73 (b7t e id) (α:=(∃(x:V0 e.X.length (B9 e.X id)),(id=id/\(0=0/\0=0)/\0=(x.1:Int)/\True)/\(oo (L0 e e))/\True)/\∀(x:V0 e.X.length (B9 e.X id)),let p:=(x.1:Int);bd (p<(e.X.length:Int)) (V6 p e.X.length/\br ((e.X.getD p.toNat dz).id==id) (p=T5 e.X id) (Ri (p+1)/\∃(y:V0 e.X.length (B9 e.X id)),((id=id/\(0=0/\0=0)/\p+1=(y.1:Int)/\True)/\(oo (L0 e e))/\True)/\Lt (e.X.length-y.1) (e.X.length-x.1))) ((-1:Int)=T5 e.X id)) ⟨⟨H5,Y3⟩,λx=>⟨λC=>?_,λC=>?_⟩⟩
 ·have h:=Y2 C;exact⟨Y1 h,λhp=>(P5 h hp x.2.2).symm,λhp=>⟨V8 h Z9,x.succ h hp,⟨⟨rfl,Y3,L3,Z6⟩,Y3⟩,V0.ext_lt h⟩⟩
 ·have d:=X7 C;exact(M2 λj J=>x.2.2 j (zH J d)).symm
def X9(L:List Rec)(at_:Int):Rec:=L.getD (at_-1).toNat dz
def ownR(L:List Rec)(at_ id:Int):Bool:=V9 at_ 1 L.length&&((X9 L at_).t==id)&&V9 (X9 L at_).k 1 3
def okR(L:List Rec)(id at_:Int):Bool:=ownR L at_ id&&((X9 L at_).k !=3||ownR L (X9 L at_).n id)
def chn(L:List Rec)(id:Int):Nat->Int->Bool
 |0,_=>true
 |f+1,at_=>decide (at_<=0)||(okR L id at_&&chn L id f (X9 L at_).p)
def oV(L:List Rec)(t:Txn):Bool:=V9 t.Z 1 L.length&&chn L t.id 61 t.Z
def o8(L:List Rec):Prop:=L.length<=60/\∀i,i<L.length->C8 (L.getD i dz)/\(L.getD i dz).l=(i:Int)+1
def b8X:Con:=.rel ⟨Sto×Int×Int,λx=>[.bref x.1.ts,Ji x.2.1,Ji x.2.2],λx=>.bool (ownR x.1.L x.2.1 x.2.2),λx=>N6 x.1.L.length⟩
theorem R9{n l hi:Int}:V9 n l hi=true↔l<=n/\n<=hi:=by
 unfold V9;simp only[M1,i5]
theorem b5D:GK 175 b8X:=gk func175<|by
 rintro⟨s,at_,id⟩ (hL:s.L.length<1000000000000);have k1:V9 at_ 1 s.L.length=true->P6 .i64 (at_-1)/\V6 (at_-1) s.L.length:=λh=>by
  obtain⟨d,e⟩:=R9.1 h;exact⟨Z3 Z9,Z9,Z9⟩
 exact S2 (gC P3 gN) func175 Y7 (α:=let q:=(s.L.length:Int);let p:=(s.L.getD (at_-1).toNat dz);let r:=(V9 at_ (1:Int) q&&p.t==id);(V9 at_ (1:Int) q=true->Ri (at_-1))/\(V9 at_ (1:Int) q=true->V6 (at_-1) s.L.length)/\(r=true->Ri (at_-1))/\(r=true->V6 (at_-1) s.L.length)/\(V9 at_ (1:Int) q&&p.t==id&&V9 p.k (1:Int) (3:Int))=ownR s.L at_ id) ⟨λh=>(k1 h).1,λh=>(k1 h).2,λh=>(k1 (Bool.and_eq_true_iff.1 h).1).1,λh=>(k1 (Bool.and_eq_true_iff.1 h).1).2,rfl⟩
theorem o8.at{L:List Rec}(h:o8 L){at_:Int}(d:1<=at_)(e:at_<=L.length):C8 (X9 L at_)/\(X9 L at_).l=at_:=by
 obtain⟨a,b⟩:=h.2 (at_-1).toNat Z9
 exact⟨a,by unfold X9;rw[b];omega⟩
theorem o8.prev{L:List Rec}(h:o8 L){at_:Int}(e:1<=at_)(d:at_<=L.length):0<=(X9 L at_).p/\(X9 L at_).p<=at_-1/\0<=(X9 L at_).n/\(X9 L at_).n<=at_-1:=by
 obtain⟨a,b⟩:=h.at e d;obtain⟨_,_,_,_,_,_,Q,g,f,q,_⟩:=a;omega
theorem yX{L:List Rec}{at_ id:Int}(h:ownR L at_ id=true):1<=at_/\at_<=L.length:=by
 unfold ownR at h;simp only[M1] at h;exact R9.1 h.1.1
theorem iK(L:List Rec)(id:Int){f:Nat}(F:0<f){at_:Int}(h:1<=at_):chn L id f at_=(okR L id at_&&chn L id (f-1) (X9 L at_).p):=by
 obtain⟨g,rfl⟩:∃g,f=g+1:=⟨f-1,Z9⟩
 show(decide (at_<=0)||_)=_;rw[sX Z9,Bool.false_or]
 rfl
theorem a3o(L:List Rec)(id:Int)(f:Nat){at_:Int}(h:at_<=0):chn L id f at_=true:=by
 cases f with
 |zero=>rfl
 |succ f=>show(decide (at_<=0)||_)=_;rw[mN h];rfl
def b3o(t:Txn):Option Ob:=some (.arr true 1000000 2 1 λ_=>t.ts)
def Chn(L:List Rec)(t:Txn):Type:={x:Nat×Int//0<x.1/\(V9 x.2 1 L.length&&chn L t.id x.1 x.2)=oV L t/\(x.2.toNat<x.1∨x.1=61)}
def b0N:Con:=.rel ⟨Sto×Txn,λx=>[.bref x.1.ts,.agg x.2.ts],λx=>.bool (oV x.1.L x.2),λx=>o8 x.1.L⟩
def b0D(s:Sto)(t:Txn):Nat->Ann
 |0=>.one (Chn s.L t) (λx=>⟨[(0,.bref s.ts),(3,.ref 0 0 0),(5,Ji x.1.2)],[b3o t]⟩) (λx=>x.1.1) [.box 0] [.box 0] (λ_=>Y7)
 |_=>.none
theorem a7N:GK 98 b0N:=gk func98<|by
 rintro⟨s,t⟩ (hL:o8 s.L);have j:=hL.1;refine S2 (gC b5D gN) func98 (b0D s t) (α:=let v:=(false=oV s.L t);let z:=(oo (t.id=t.id/\t.Z=t.Z/\True));let r:=(T.bref s.ts);(∃(x:Chn s.L t),(L6 (v6 [some 0]) r r/\(0=0/\0=0)/\t.Z=x.1.2/\True)/\z/\True)/\∀(x:Chn s.L t),let u:=(x.1.2-1);let q:=(s.L.getD u.toNat dz);∃(X:(Sto×Int×Int)),(((zV s X.1)/\x.1.2=X.2.1/\t.id=X.2.2/\True)/\N6 X.1.L.length)/\br (!ownR X.1.L X.2.1 X.2.2) v (Ri u/\V6 u s.L.length/\∃(d:(Sto×Int×Int)),((q.k==3)=true->((zV s d.1)/\q.n=d.2.1/\t.id=d.2.2/\True)/\N6 d.1.L.length)/\br (q.k==3&& !ownR d.1.L d.2.1 d.2.2) v (br (q.p==0) (true=oV s.L t) (∃(y:Chn s.L t),((L6 (v6 [some 0]) r r/\(0=0/\0=0)/\q.p=y.1.2/\True)/\z/\True)/\Lt y.1.1 x.1.1)))) ⟨⟨⟨(61,t.Z),Nat.succ_pos 60,rfl,.inr rfl⟩,⟨U2 _,Y3⟩,Y3⟩,λx=>?_⟩
 obtain⟨⟨f,at_⟩,hf,he,B⟩:=x;dsimp only at hf he B ⊢;refine⟨(s,at_,t.id),⟨⟨(gL _),Y3⟩,by unfold N6;simp only;omega⟩,λho=>?_,λho=>?_⟩
 ·simp only[xO] at ho;rw[←he];cases hi:V9 at_ 1 s.L.length
  ·rfl
  ·obtain⟨q1,q2⟩:=R9.1 hi;rw[iK _ _ hf q1];unfold okR;rw[ho];rfl
 ·simp only[yC] at ho;obtain⟨q1,q2⟩:=yX ho;have hi:V9 at_ 1 s.L.length=true:=R9.2 ⟨q1,q2⟩;rw[hi,Bool.true_and,iK _ _ hf q1] at he;obtain⟨p1,p2,_⟩:=hL.prev q1 q2;have eo:okR s.L t.id at_=((X9 s.L at_).k !=3||ownR s.L (X9 s.L at_).n t.id):=by unfold okR;rw[ho,Bool.true_and]
  refine⟨Z3 Z9,⟨Z9,Z9⟩,(s,(X9 s.L at_).n,t.id),λ_=>⟨⟨(gL _),Y3⟩,by unfold N6;simp only;omega⟩,λe=>?_,λe=>⟨λg=>?_,λg=>?_⟩⟩
  ·have e:((X9 s.L at_).k==3&& !ownR s.L (X9 s.L at_).n t.id)=true:=e;rw[←he,eo];simp only[M1,xO,beq_iff_eq] at e;rw[e.1,e.2];rfl
  ·have e:((X9 s.L at_).k==3&& !ownR s.L (X9 s.L at_).n t.id)=false:=e;have g:(X9 s.L at_).p=0:=beq_iff_eq.1 g;have i:okR s.L t.id at_=true:=by
    rw[eo,←yC,Bool.not_or,show(!((X9 s.L at_).k !=3))=((X9 s.L at_).k==3) by simp[bne]]
    exact e
   rw[←he,i,g,a3o _ _ _ (Int.le_refl 0)];rfl
  ·have e:((X9 s.L at_).k==3&& !ownR s.L (X9 s.L at_).n t.id)=false:=e;have g:(X9 s.L at_).p≠0:=λh=>by
    have g:((X9 s.L at_).p==0)=false:=g;rw[h] at g;cases g
   have i:okR s.L t.id at_=true:=by
    rw[eo,←yC,Bool.not_or,show(!((X9 s.L at_).k !=3))=((X9 s.L at_).k==3) by simp[bne]]
    exact e
   rw[i,Bool.true_and] at he;refine⟨⟨(f-1,(X9 s.L at_).p),F9,?_,F9⟩,⟨⟨U2 _,Y3⟩,Y3⟩,show f-1<f by omega⟩
   simp only;rw[R9.2 (show 1<=(X9 s.L at_).p/\(X9 s.L at_).p<=(s.L.length:Int) by omega),Bool.true_and]
   exact he
def und(L:List Rec):Nat->Int->Nat
 |0,_=>0
 |f+1,at_=>if at_<=0 then 0 else if(X9 L at_).k=3 then und L f (X9 L at_).n else(if(X9 L at_).k=2 then 1 else 0)+und L f (X9 L at_).p
def iI(m:Nat):Option Ob:=some (.arr true 1000000 1 1 λ_=>[Ji m])
def b6f:Con:=.reff ⟨Rec×Nat,λx=>[.agg x.1.ts,.ref 0 0 0],λx=>[iI x.2],λ_=>.bool true,λx=>[iI (x.2+1)],λx=>x.2<1000⟩
theorem b0A:GK 240 b6f:=gk func240<|by
 rintro⟨r,m⟩ (h:m<1000);exact vcE gN func240 Y7 (bs:=[true]) (α:=Ri ((m:Int)+1)/\true=true/\(oo ((m:Int)+1=(↑(m+1):Int)/\True))/\True) ⟨Z3 Z9,rfl,⟨rfl,rfl,Z9,Z6⟩,Z6⟩
def sT(L:List Rec)(at_:Int):Prop:=o8 L/\at_<=(L.length:Int)
def b0Y:Con:=.reff ⟨Sto×Int,λx=>[.bref x.1.ts,Ji x.2,.fn (.func 240) [.ref 0 0 0]],λ_=>[iI 1],λ_=>.tup [],λx=>[iI (1+und x.1.L 61 x.2)],λx=>sT x.1.L x.2⟩
def Und(L:List Rec)(f:Int):Type:={x:Nat×Int×Nat//x.2.2+und L x.1 x.2.1=1+und L 61 f/\x.2.1<=(L.length:Int)/\x.2.1.toNat<x.1/\x.2.2+x.1<=100}
def b1o(s:Sto)(f:Int):Nat->Ann
 |0=>.one (Und s.L f) (λx=>⟨[(0,.bref s.ts),(1,Ji x.1.2.1),(2,.fn (.func 240) [.ref 0 0 0])],[iI x.1.2.2]⟩) (λx=>x.1.1) [.box 0] [.box 0] (λ_=>Y7)
 |_=>.none
theorem a1f(L:List Rec):∀(f:Nat) (at_:Int),und L f at_<=f:=by
 intro f;induction f with
 |zero=>intro at_;exact U9 0
 |succ f i=>
  intro at_;unfold und;split
  ·omega
  ·split
   ·have:=i (X9 L at_).n;omega
   ·have:=i (X9 L at_).p;split<;>omega
theorem a9y{L:List Rec}{f:Nat}{at_:Int}(h:0<at_)(F:at_.toNat<f)(d:(X9 L at_).k=3):und L f at_=und L (f-1) (X9 L at_).n:=by
 obtain⟨g,rfl⟩:∃g,f=g+1:=⟨f-1,Z9⟩
 conv=>lhs;unfold und
 rw[if_neg Z9,if_pos d]
 rfl
theorem a8C{L:List Rec}{f:Nat}{at_:Int}(h:0<at_)(F:at_.toNat<f)(d:(X9 L at_).k≠3):und L f at_=(if(X9 L at_).k=2 then 1 else 0)+und L (f-1) (X9 L at_).p:=by
 obtain⟨g,rfl⟩:∃g,f=g+1:=⟨f-1,Z9⟩
 conv=>lhs;unfold und
 rw[if_neg Z9,if_neg d]
 rfl
theorem iJ{L:List Rec}{f:Nat}{at_:Int}(h:at_<=0):und L f at_=0:=by
 cases f with
 |zero=>rfl
 |succ f=>unfold und;rw[if_pos h]
theorem a7d:GK 186 b0Y:=gk func186<|by
 rintro⟨s,F⟩ ⟨hL,L⟩;dsimp only at hL L;have q:=hL.1;refine vcE (gC b0A gN) func186 (b1o s F) (bs:=[true]) (α:=let m:=(↑(1+und s.L 61 F):Int);let j:=(v6 [some 0]);let z:=(T.bref s.ts);let r:=(Fn.func 240=Fn.func 240/\(0=0/\0=0)/\True);(∃(x:Und s.L F),(L6 j z z/\F=x.1.2.1/\r/\True)/\(oo (1=(x.1.2.2:Int)/\True))/\True)/\∀(x:Und s.L F),let f:=x.1;let w:=(f.2.1- (1:Int));let v:=(f.2.2:Int);let u:=(True/\(oo (v=m/\True))/\True);let q:=(s.L.getD w.toNat dz);bd (f.2.1>(0:Int)) (Ri w/\V6 w s.L.length/\br (q.k==3) (∃(y:Und s.L F),((L6 j z z/\q.n=y.1.2.1/\r/\True)/\(oo (v=(y.1.2.2:Int)/\True))/\True)/\Lt y.1.1 f.1) (∃(X:(Rec×Nat)),let c:=(↑(X.2+1):Int);((q.k==2)=true->((q.e=X.1.e/\q.l=X.1.l/\q.t=X.1.t/\q.k=X.1.k/\q.p=X.1.p/\q.n=X.1.n/\q.g=X.1.g/\q.s=X.1.s/\q.b=X.1.b/\q.a=X.1.a/\True)/\(0=0/\0=0)/\True)/\((1=1/\Z7 1 (λ(x_2:Nat)=>[Ji v]) λ(x:Nat)=>[Ji (X.2:Int)])/\True)/\X.2<1000)/\((q.k==2)=true->br (q.k==2&&false) (True/\(oo (c=m/\True))/\True) (∃(y:Und s.L F),((L6 j z z/\q.p=y.1.2.1/\r/\True)/\(oo (c=(y.1.2.2:Int)/\True))/\True)/\Lt y.1.1 f.1))/\(((q.k==2)=true->False)->br (q.k==2&&false) u (∃(y:Und s.L F),((L6 j z z/\q.p=y.1.2.1/\r/\True)/\(oo (v=(y.1.2.2:Int)/\True))/\True)/\Lt y.1.1 f.1)))) u) ⟨⟨⟨(61,F,1),rfl,L,X0,X0⟩,⟨U2 _,Y3⟩,Y3⟩,λx=>?_⟩
 obtain⟨⟨f,at_,m⟩,i,hle,o,M⟩:=x;dsimp only at i hle o M ⊢;refine⟨λhc=>?_,λhc=>?_⟩
 ·have h0:at_>0:=D4 hc;obtain⟨p1,p2,p3,p4⟩:=hL.prev (show 1<=at_ by omega) hle
  refine⟨Z3 Z9,⟨Z9,Z9⟩,λd=>?_,λd=>?_⟩
  ·have d:(X9 s.L at_).k=3:=beq_iff_eq.1 d;rw[a9y h0 o d] at i;exact⟨⟨(f-1,(X9 s.L at_).n,m),i,X0,X0,X0⟩,⟨⟨U2 _,Y3⟩,Y3⟩,show f-1<f by omega⟩
  ·have d:(X9 s.L at_).k≠3:=λh=>by
    have d:((X9 s.L at_).k==3)=false:=d;rw[h] at d;cases d
   rw[a8C h0 o d] at i;refine⟨(X9 s.L at_,m),λ_=>⟨Y3,Y3,X0⟩,λh2=>⟨λj=>?_,λ_=>?_⟩,λh2=>⟨λj=>?_,λ_=>?_⟩⟩
   ·rw[Bool.and_false] at j;cases j
   ·have h2:(X9 s.L at_).k=2:=beq_iff_eq.1 h2;rw[if_pos h2] at i;exact⟨⟨(f-1,(X9 s.L at_).p,m+1),X0,X0,X0,X0⟩,⟨⟨U2 _,Y3⟩,Y3⟩,show f-1<f by omega⟩
   ·rw[Bool.and_false] at j;cases j
   ·have h2:¬ (X9 s.L at_).k=2:=λh=>h2 (beq_iff_eq.2 h)
    rw[if_neg h2] at i;exact⟨⟨(f-1,(X9 s.L at_).p,m),X0,X0,X0,X0⟩,⟨⟨U2 _,Y3⟩,Y3⟩,show f-1<f by omega⟩
 ·have h0:at_<=0:=by have:=q8 hc;omega
  rw[iJ h0] at i;exact⟨Z6,⟨rfl,rfl,Z9,Z6⟩,Z6⟩
def b50:Con:=.rel ⟨Sto×Int,λx=>[.bref x.1.ts,Ji x.2],λx=>Ji ((1+und x.1.L 61 x.2:Nat):Int),λx=>sT x.1.L x.2⟩
theorem b1r:GK 184 b50:=gk func184<|by
 rintro⟨s,f⟩ h;exact S2 (gC a7d gN) func184 Y7 (α:=∃(x:(Sto×Int)),(((zV s x.1)/\f=x.2/\(Fn.func 240=Fn.func 240/\(0=0/\0=0)/\True)/\True)/\((1=1/\Z7 1 (setRow (λ(x:Nat)=>[Ji 0]) 0 0 [Ji 1]) λ(x:Nat)=>[Ji 1])/\True)/\sT x.1.L x.2)/\(↑(1+und x.1.L 61 x.2):Int)=(↑(1+und s.L 61 f):Int)) ⟨(s,f),⟨⟨(gL _),Y3⟩,⟨⟨rfl,λi hi=>b4N⟩,Z6⟩,h⟩,rfl⟩
def b5j:Con:=.rel ⟨Bool,λb=>[.bool b],λb=>Ji (if b then 1 else 0),λ_=>True⟩
theorem b5h(b:Bool)(h:
  (b=true->1=if b=true then(1:Int) else(0:Int))/\(b=false->0=if b=true then(1:Int) else(0:Int))):
  V2 prog 212 [.bool b] (.int .i64 (if b then 1 else 0)):=
 S2 gN func212 Y7 h
theorem b1w:GK 212 b5j:=gk func212<|λb _=>b5h b ⟨λh=>by rw[if_pos h],λh=>aL⟩
def b18:Con:=.rel ⟨Sto×Int,λx=>[.agg x.1.ts,Ji x.2],λx=>Ji ((1+und x.1.L 61 x.2:Nat):Int),λx=>sT x.1.L x.2⟩
def b0w(s:Sto)(f:Int):Nat->Ann
 |0=>.one (Und s.L f) (λx=>⟨[(1,Ji x.1.2.1),(2,.ref 0 0 0),(5,Ji x.1.2.2)],[qI s]⟩) (λx=>x.1.1) [.box 0] [.box 0] (λ_=>Y7)
 |_=>.none
theorem a67:GK 138 b18:=gk func138<|by
 rintro⟨s,F⟩ ⟨hL,l⟩;dsimp only at hL l;have g:=hL.1;refine S2 (gC b1w gN) func138 (b0w s F) (α:=let w:=(0=0/\0=0);let v:=(oo (zV s s));(∃(x:Und s.L F),(F=x.1.2.1/\w/\1=(x.1.2.2:Int)/\True)/\v/\True)/\∀(x:Und s.L F),let u:=(x.1.2.2:Int);let z:=(x.1.2.1- (1:Int));let q:=(s.L.getD z.toNat dz);bd (x.1.2.1>(0:Int)) (Ri z/\V6 z s.L.length/\br (q.k==3) (∃(y:Und s.L F),((q.n=y.1.2.1/\w/\u=(y.1.2.2:Int)/\True)/\v/\True)/\Lt y.1.1 x.1.1) (∃(X:Bool),let r:=(u+if X=true then(1:Int) else(0:Int));(((q.k==2)=X/\True)/\True)/\Ri r/\∃(y:Und s.L F),((q.p=y.1.2.1/\w/\r=(y.1.2.2:Int)/\True)/\v/\True)/\Lt y.1.1 x.1.1)) (u=(↑(1+und s.L 61 F):Int))) ⟨⟨⟨(61,F,1),rfl,l,X0,X0⟩,Y3⟩,λx=>?_⟩
 obtain⟨⟨f,at_,m⟩,he,hle,e,M⟩:=x;dsimp only at he hle e M ⊢;refine⟨λhc=>?_,λhc=>?_⟩
 ·have h0:at_>0:=D4 hc;obtain⟨p1,p2,p3,p4⟩:=hL.prev (show 1<=at_ by omega) hle
  refine⟨Z3 Z9,⟨Z9,Z9⟩,λd=>?_,λd=>?_⟩
  ·have d:(X9 s.L at_).k=3:=beq_iff_eq.1 d;rw[a9y h0 e d] at he;exact⟨⟨(f-1,(X9 s.L at_).n,m),he,X0,X0,X0⟩,Y3,show f-1<f by omega⟩
  ·have d:(X9 s.L at_).k≠3:=λh=>by
    have d:((X9 s.L at_).k==3)=false:=d;rw[h] at d;cases d
   rw[a8C h0 e d] at he;have N:und s.L (f-1) (X9 s.L at_).p<=f-1:=a1f _ _ _;refine⟨(X9 s.L at_).k==2,Y3,?_,?_⟩
   ·split<;>exact Z3 Z9
   ·by_cases h2:(X9 s.L at_).k=2
    ·rw[if_pos h2] at he;rw[if_pos (by simpa using h2)]
     exact⟨⟨(f-1,(X9 s.L at_).p,m+1),X0,X0,X0,X0⟩,Y3,show f-1<f by omega⟩
    ·rw[if_neg h2] at he;rw[if_neg (by simpa using h2)]
     exact⟨⟨(f-1,(X9 s.L at_).p,m),X0,X0,X0,X0⟩,⟨⟨rfl,Y3,X0,Z6⟩,Y3⟩,show f-1<f by omega⟩
 ·have h0:at_<=0:=by have:=q8 hc;omega
  rw[iJ h0] at he;show(m:Int)=_;omega
def v8(L:List Rec)(T:List Txn):Nat->Nat
 |0=>0
 |k+1=>v8 L T k+(1+und L 61 (T.getD k dz).Z)
def c9(e:Eng):Nat:=v8 e.s.L e.X e.X.length
def wG(e:Eng):Prop:=o8 e.s.L/\e.X.length<=10/\∀i,i<e.X.length->(e.X.getD i dz).Z<=(e.s.L.length:Int)
theorem a1T(L:List Rec)(T:List Txn):∀k,v8 L T k<=62*k:=by
 intro k;induction k with
 |zero=>exact U9 0
 |succ k i=>unfold v8;have:=a1f L 61 (T.getD k dz).Z;omega
def b7d:Con:=.rel ⟨Eng,λe=>[.bref e.ts],λe=>Ji (c9 e),wG⟩
def b6u(e:Eng):Nat->Ann
 |0=>.one (Up e.X.length) (λx=>⟨[(0,.bref e.ts),(3,Ji (v8 e.s.L e.X x.1)),(9,a3a e.X),(10,Ji e.X.length),(11,Ji x.1)],[]⟩) (λx=>e.X.length-x.1) [] [] (λ_=>Y7)
 |_=>.none
theorem a4Z{L:List Rec}{T:List Txn}{i:Nat}:((v8 L T i:Nat):Int)+((1+und L 61 (T.getD i dz).Z:Nat):Int)=(v8 L T (i+1):Nat):=by
 conv=>rhs;unfold v8
 omega
theorem b2d:GK 110 b7d:=gk func110<|by
 rintro(e:Eng) ⟨hL,h10,hb⟩;refine S2 (gC b1r gN) func110 (b6u e) (α:=let z:=(T.bref e.ts);let p:=(e.X.length:Int);(∃(x:Up e.X.length),(L6 (λ(x:Nat)=>none) z z/\0=(↑(v8 e.s.L e.X x.1):Int)/\(Z2 W8 e.X e.X)/\p=p/\0=(x.1:Int)/\True)/\True)/\∀(x:Up e.X.length),let r:=(x.1:Int);let q:=(↑(v8 e.s.L e.X x.1):Int);bd (r<p) (V6 r e.X.length/\∃(X:(Sto×Int)),let u:=(↑(1+und X.1.L 61 X.2):Int);(((zV e.s X.1)/\(e.X.getD r.toNat dz).Z=X.2/\True)/\sT X.1.L X.2)/\Ri (q+u)/\Ri (r+1)/\∃(y:Up e.X.length),((L6 (λ(x:Nat)=>none) z z/\q+u=(↑(v8 e.s.L e.X y.1):Int)/\(Z2 W8 e.X e.X)/\p=p/\r+1=(y.1:Int)/\True)/\True)/\Lt (e.X.length-y.1) (e.X.length-x.1)) (q=(↑(c9 e):Int))) ⟨⟨⟨0,N7 _⟩,⟨U2 _,Y3⟩,Z6⟩,λx=>⟨λhc=>?_,λhc=>?_⟩⟩
 ·have h:=Y2 hc;have f:=a1T e.s.L e.X x.1;have d:=a1f e.s.L 61 (e.X.getD x.1 dz).Z;refine⟨Y1 h,(e.s,(e.X.getD x.1 dz).Z),⟨⟨(gL _),Y3⟩,hL,hb _ h⟩,Z3 X0,V8 h Z9,⟨x.1+1,h⟩,⟨⟨U2 _,a4Z,Y3,rfl,X0,Z6⟩,Z6⟩,V0.ext_lt h⟩
 ·have hx:x.1=e.X.length:=by have:=x.2;have:=X7 hc;omega
  rw[hx];rfl
def b08:Con:=.rel ⟨Eng×Int,λx=>[.bref x.1.ts,Ji x.2],λx=>.bool (decide ((x.1.s.L.length:Int)+c9 x.1+x.2<=60)),λx=>wG x.1/\u3 x.2⟩
theorem qS:GK 52 b08:=gk func52<|by
 rintro⟨e,m⟩ ⟨h,g,f⟩;dsimp only at h g f;have B:=a1T e.s.L e.X e.X.length;have d:=h.2.1;have i:=h.1.1;have j:c9 e=v8 e.s.L e.X e.X.length:=rfl;exact S2 (gC b2d gN) func52 Y7 (α:=let p:=(e.s.L.length:Int);∃(x:Eng),let q:=(↑(c9 x):Int);(((L0 e x)/\True)/\wG x)/\Ri (p+q)/\Ri (p+q+m)/\decide (p+q+m<=60)=decide (p+(↑(c9 e):Int)+m<=60)) ⟨e,⟨⟨(tY _),Z6⟩,h⟩,Z3 Z9,Z3 Z9,rfl⟩
def a1E:Con:=.rel ⟨Eng,λe=>[.agg e.ts],λe=>Ji (c9 e),wG⟩
def a1o(e:Eng):Nat->Ann
 |0=>.one (Up e.X.length) (λx=>⟨[(1,.ref 0 0 0),(3,Ji (v8 e.s.L e.X x.1)),(4,Ji x.1)],[u5 e]⟩) (λx=>e.X.length-x.1) [.box 0] [.box 0] (λ_=>Y7)
 |_=>.none
theorem rD:GK 74 a1E:=gk func74<|by
 rintro(e:Eng) ⟨hL,h10,hb⟩;refine S2 (gC a67 gN) func74 (a1o e) (α:=(∃(x:Up e.X.length),((0=0/\0=0)/\0=(↑(v8 e.s.L e.X x.1):Int)/\0=(x.1:Int)/\True)/\(oo (L0 e e))/\True)/\∀(x:Up e.X.length),let q:=(x.1:Int);let p:=(↑(v8 e.s.L e.X x.1):Int);bd (q<(e.X.length:Int)) (V6 q e.X.length/\∃(X:(Sto×Int)),let r:=(↑(1+und X.1.L 61 X.2):Int);(((zV e.s X.1)/\(e.X.getD q.toNat dz).Z=X.2/\True)/\sT X.1.L X.2)/\Ri (p+r)/\Ri (q+1)/\∃(y:Up e.X.length),(((0=0/\0=0)/\p+r=(↑(v8 e.s.L e.X y.1):Int)/\q+1=(y.1:Int)/\True)/\(oo (L0 e e))/\True)/\Lt (e.X.length-y.1) (e.X.length-x.1)) (p=(↑(c9 e):Int))) ⟨⟨⟨0,N7 _⟩,Y3⟩,λx=>⟨λhc=>?_,λhc=>?_⟩⟩
 ·have h:=Y2 hc;have f:=a1T e.s.L e.X x.1;have d:=a1f e.s.L 61 (e.X.getD x.1 dz).Z;refine⟨Y1 h,(e.s,(e.X.getD x.1 dz).Z),⟨⟨(gL _),Y3⟩,hL,hb _ h⟩,Z3 X0,V8 h Z9,⟨x.1+1,h⟩,⟨⟨Y3,a4Z,X0,Z6⟩,Y3⟩,V0.ext_lt h⟩
 ·have hx:x.1=e.X.length:=by have:=x.2;have:=X7 hc;omega
  rw[hx];rfl
def a30(L:List Rec)(r:Rec):Bool:=decide (r.n>0)&&((X9 L r.n).t==r.t)&&decide ((X9 L r.n).k<=3)
def b0G:Con:=.rel ⟨Sto×Rec,λx=>[.agg x.1.ts,.agg x.2.ts],λx=>.bool (a30 x.1.L x.2),λx=>x.2.n<=(x.1.L.length:Int)/\N6 x.1.L.length⟩
theorem a7X:GK 72 b0G:=gk func72<|by
 rintro⟨s,r⟩ ⟨e,d⟩;have d:s.L.length<1000000000000:=d;dsimp only at e;have k1:decide (r.n>(0:Int))=true->P6 .i64 (r.n-1)/\V6 (r.n-1) s.L.length:=λh=>by
  have h:=D4 h;exact⟨Z3 Z9,Z9,Z9⟩
 exact S2 gN func72 Y7 (α:=let p:=(s.L.getD (r.n-1).toNat dz);let q:=(decide (r.n>0)&&p.t==r.t);(decide (r.n>0)=true->Ri (r.n-1))/\(decide (r.n>0)=true->V6 (r.n-1) s.L.length)/\(q=true->Ri (r.n-1))/\(q=true->V6 (r.n-1) s.L.length)/\(decide (r.n>0)&&p.t==r.t&&decide (p.k<=3))=a30 s.L r) ⟨λh=>(k1 h).1,λh=>(k1 h).2,λh=>(k1 (Bool.and_eq_true_iff.1 h).1).1,λh=>(k1 (Bool.and_eq_true_iff.1 h).1).2,rfl⟩
def xY(e:Eng)(i:Nat):Bool:=decide (T5 e.X (e.lk.H.getD i dz).tx<0)
def w4(e:Eng)(i:Nat):Bool:=decide (T5 e.X (e.lk.W.getD i dz).tx<0)||decide (T5 e.X (e.lk.W.getD i dz).fo<0)
def TxL(e:Eng):Prop:=N6 e.X.length
def a3G:Con:=.rel ⟨Eng×Lck,λx=>[.agg x.2.ts,.bref [.bref x.1.ts]],λx=>.bool (decide (T5 x.1.X x.2.tx<0)),λx=>TxL x.1⟩
theorem a4P(e:Eng)(l:Lck)(h:
  ∃(x:(Eng×Int)),(((L0 e x.1)/\l.tx=x.2/\True)/\N6 x.1.X.length)/\decide (T5 x.1.X x.2<0)=decide (T5 e.X l.tx<0)):
  V2 prog 100 [.agg l.ts,.bref [.bref e.ts]] (.bool (decide (T5 e.X l.tx<0))):=
 S2 (gC oC gN) func100 Y7 h
theorem a0X:GK 100 a3G:=gk func100<|λx h=>a4P x.1 x.2 ⟨(x.1,x.2.tx),⟨⟨(tY _),Y3⟩,h⟩,rfl⟩
def a2z:Con:=.rel ⟨Eng×Wt,λx=>[.agg x.2.ts,.bref [.bref x.1.ts]],λx=>.bool (decide (T5 x.1.X x.2.tx<0)||decide (T5 x.1.X x.2.fo<0)),λx=>TxL x.1⟩
theorem a4m(e:Eng)(l:Wt)(h:
  ∃(x:(Eng×Int)),let p:=(T5 x.1.X x.2<0);(((L0 e x.1)/\l.tx=x.2/\True)/\N6 x.1.X.length)/\∃(X:(Eng×Int)),(decide p=false->((L0 e X.1)/\l.fo=X.2/\True)/\N6 X.1.X.length)/\(decide p||decide (T5 X.1.X X.2<0))=(decide (T5 e.X l.tx<0)||decide (T5 e.X l.fo<0))):
  V2 prog 103 [.agg l.ts,.bref [.bref e.ts]] (.bool (decide (T5 e.X l.tx<0)||decide (T5 e.X l.fo<0))):=
 S2 (gC oC gN) func103 Y7 h
theorem a1z:GK 103 a2z:=gk func103<|λx h=>a4m x.1 x.2 ⟨(x.1,x.2.tx),⟨⟨(tY _),Y3⟩,h⟩,(x.1,x.2.fo),λ_=>⟨⟨(tY _),Y3⟩,h⟩,rfl⟩
def eF1(e:Eng):T:=.fn (.func 100) [.bref [.bref e.ts]]
def eF2(e:Eng):T:=.fn (.func 103) [.bref [.bref e.ts]]
def HlL(e:Eng):Prop:=TxL e/\N6 e.lk.H.length/\N6 e.lk.W.length
def b0O:Con:=.rel ⟨Eng,λe=>[fJ e.lk.H,eF1 e],λe=>Ji (S9 e.lk.H.length (xY e)),HlL⟩
def b1H(e:Eng):Nat->Ann
 |0=>.one (V0 e.lk.H.length (xY e)) (λx=>⟨[(0,fJ e.lk.H),(1,eF1 e),(7,Ji e.lk.H.length),(8,Ji x.1)],[]⟩) (λx=>e.lk.H.length-x.1) [] [] (λ_=>Y7)
 |_=>.none
theorem a7Q:GK 176 b0O:=gk func176<|by
 rintro(e:Eng) ⟨ht,g,f⟩;have g:e.lk.H.length<1000000000000:=g;have f:e.lk.W.length<1000000000000:=f;refine S2 (gC a0X gN) func176 (b1H e) (α:=let u:=(Z2 Y6 e.lk.H e.lk.H);let r:=(T.bref [T.bref e.ts]);let q:=(e.lk.H.length:Int);(∃(x:V0 e.lk.H.length (xY e)),(u/\(Fn.func 100=Fn.func 100/\L6 (λ(x:Nat)=>none) r r/\True)/\q=q/\0=(x.1:Int)/\True)/\True)/\∀(x:V0 e.lk.H.length (xY e)),let z:=(x.1:Int);let p:=(e.lk.H.getD z.toNat dz);bd (z<q) (V6 z e.lk.H.length/\∃(X:(Eng×Lck)),(((p.tx=X.2.tx/\p.ta=X.2.ta/\p.row=X.2.row/\p.mo=X.2.mo/\True)/\((L0 e X.1)/\True)/\True)/\TxL X.1)/\bd (T5 X.1.X X.2.tx<0) (z=S9 e.lk.H.length (xY e)) (Ri (z+1)/\∃(y:V0 e.lk.H.length (xY e)),((u/\(Fn.func 100=Fn.func 100/\L6 (λ(x:Nat)=>none) r r/\True)/\q=q/\z+1=(y.1:Int)/\True)/\True)/\Lt (e.lk.H.length-y.1) (e.lk.H.length-x.1))) ((-1:Int)=S9 e.lk.H.length (xY e))) ⟨⟨H5,⟨Y3,⟨rfl,U2 _,Z6⟩,Y3⟩,Z6⟩,λx=>⟨λC=>?_,λC=>?_⟩⟩
 ·have h:=Y2 C;refine⟨Y1 h,(e,e.lk.H.getD x.1 dz),⟨⟨Y3,⟨(tY _),Z6⟩,Z6⟩,ht⟩,λhp=>(P5 h hp x.2.2).symm,λhp=>⟨V8 h Z9,x.succ h hp,⟨⟨Y3,⟨rfl,U2 _,Z6⟩,rfl,L3,Z6⟩,Z6⟩,V0.ext_lt h⟩⟩
 ·have d:=X7 C;exact(M2 λj J=>x.2.2 j (zH J d)).symm
def b1h:Con:=.rel ⟨Eng,λe=>[fJ e.lk.H,eF1 e],λe=>.bool (anyI e.lk.H.length (xY e)),HlL⟩
theorem b0I(e:Eng)(h:
  ∃(x:Eng),(((Z2 Y6 e.lk.H x.lk.H)/\(Fn.func 100=Fn.func 100/\((L0 e x)/\True)/\True)/\True)/\HlL x)/\decide (S9 x.lk.H.length (xY x)≥(0:Int))=anyI e.lk.H.length (xY e)):
  V2 prog 99 [fJ e.lk.H,eF1 e] (.bool (anyI e.lk.H.length (xY e))):=
 S2 (gC a7Q gN) func99 Y7 h
theorem a7w:GK 99 b1h:=gk func99<|λ(e:Eng) h=>b0I e ⟨e,⟨⟨Y3,⟨rfl,⟨(tY _),Z6⟩,Z6⟩,Z6⟩,h⟩,G1 _ _⟩
def b6a:Con:=.rel ⟨Eng,λe=>[wtS e.lk.W,eF2 e],λe=>Ji (S9 e.lk.W.length (w4 e)),HlL⟩
def b3w(e:Eng):Nat->Ann
 |0=>.one (V0 e.lk.W.length (w4 e)) (λx=>⟨[(0,wtS e.lk.W),(1,eF2 e),(7,Ji e.lk.W.length),(8,Ji x.1)],[]⟩) (λx=>e.lk.W.length-x.1) [] [] (λ_=>Y7)
 |_=>.none
theorem b2t:GK 179 b6a:=gk func179<|by
 rintro(e:Eng) ⟨ht,g,f⟩;have g:e.lk.H.length<1000000000000:=g;have f:e.lk.W.length<1000000000000:=f;refine S2 (gC a1z gN) func179 (b3w e) (α:=let u:=(Z2 Y4 e.lk.W e.lk.W);let q:=(T.bref [T.bref e.ts]);let p:=(e.lk.W.length:Int);(∃(x:V0 e.lk.W.length (w4 e)),(u/\(Fn.func 103=Fn.func 103/\L6 (λ(x:Nat)=>none) q q/\True)/\p=p/\0=(x.1:Int)/\True)/\True)/\∀(x:V0 e.lk.W.length (w4 e)),let r:=(x.1:Int);let z:=(e.lk.W.getD r.toNat dz);bd (r<p) (V6 r e.lk.W.length/\∃(X:(Eng×Wt)),(((z.tx=X.2.tx/\z.fo=X.2.fo/\True)/\((L0 e X.1)/\True)/\True)/\TxL X.1)/\br (decide (T5 X.1.X X.2.tx<0)||decide (T5 X.1.X X.2.fo<0)) (r=S9 e.lk.W.length (w4 e)) (Ri (r+1)/\∃(y:V0 e.lk.W.length (w4 e)),((u/\(Fn.func 103=Fn.func 103/\L6 (λ(x:Nat)=>none) q q/\True)/\p=p/\r+1=(y.1:Int)/\True)/\True)/\Lt (e.lk.W.length-y.1) (e.lk.W.length-x.1))) ((-1:Int)=S9 e.lk.W.length (w4 e))) ⟨⟨H5,⟨Y3,⟨rfl,U2 _,Z6⟩,Y3⟩,Z6⟩,λx=>⟨λC=>?_,λC=>?_⟩⟩
 ·have h:=Y2 C;refine⟨Y1 h,(e,e.lk.W.getD x.1 dz),⟨⟨Y3,⟨(tY _),Z6⟩,Z6⟩,ht⟩,λhp=>(P5 h hp x.2.2).symm,λhp=>⟨V8 h Z9,x.succ h hp,⟨⟨Y3,⟨rfl,U2 _,Z6⟩,rfl,L3,Z6⟩,Z6⟩,V0.ext_lt h⟩⟩
 ·have d:=X7 C;exact(M2 λj J=>x.2.2 j (zH J d)).symm
def b3X:Con:=.rel ⟨Eng,λe=>[wtS e.lk.W,eF2 e],λe=>.bool (anyI e.lk.W.length (w4 e)),HlL⟩
theorem b4e(e:Eng)(h:
  ∃(x:Eng),(((Z2 Y4 e.lk.W x.lk.W)/\(Fn.func 103=Fn.func 103/\((L0 e x)/\True)/\True)/\True)/\HlL x)/\decide (S9 x.lk.W.length (w4 x)≥(0:Int))=anyI e.lk.W.length (w4 e)):
  V2 prog 102 [wtS e.lk.W,eF2 e] (.bool (anyI e.lk.W.length (w4 e))):=
 S2 (gC b2t gN) func102 Y7 h
theorem b0k:GK 102 b3X:=gk func102<|λ(e:Eng) h=>b4e e ⟨e,⟨⟨Y3,⟨rfl,⟨(tY _),Z6⟩,Z6⟩,Z6⟩,h⟩,G1 _ _⟩
def A7(e:Eng)(i:Nat):Bool:= !V9 (e.X.getD i dz).id 1 (e.N-1)||(decide ((i:Int)>0)&&decide ((e.X.getD (i-1) dz).id≥(e.X.getD i dz).id))|| !oV e.s.L (e.X.getD i dz)
def xJ(e:Eng):Bool:=decide (e.X.length<=10)&&V9 e.N 1 61&&H3 e.lk
def a3E(e:Eng):Bool:=decide (e.X.length+e.lk.H.length+e.lk.W.length+e.s.fr.length=0)
def upE(e:Eng):Bool:= !anyI e.X.length (A7 e)&& !anyI e.lk.H.length (xY e)&& !anyI e.lk.W.length (w4 e)&&decide (e.s.L.length+c9 e<=60)
def tV(e:Eng):Bool:=xJ e&&(if e.up then upE e else a3E e)
def c40(e:Eng):Prop:=o8 e.s.L/\b5k e.lk/\N6 e.X.length/\N6 e.s.fr.length
def a5A:Con:=.rel ⟨Eng,λe=>[.bref e.ts],λe=>.bool (tV e),c40⟩
def c2L(e:Eng):Option Ob:=some (.arr true 1000000 1 1 λ_=>[.bref e.ts])
def a6u(e:Eng):Nat->Ann
 |0=>.one (V0 e.X.length (A7 e)) (λx=>⟨[(1,.ref 0 0 0),(62,a3a e.X),(63,Ji e.X.length),(64,Ji x.1)],[c2L e]⟩) (λx=>e.X.length-x.1) [.box 0] [.box 0] (λ_=>Y7)
 |_=>.none
theorem b5z(e:Eng):(decide ((e.X.length:Int)>10)|| !V9 e.N 1 61|| !H3 e.lk)= !xJ e:=by
 unfold xJ;rw[Bool.not_and,Bool.not_and,←decide_not];congr 2
 exact decide_eq_decide.2 Z9
theorem a9q{e:Eng}(h:xJ e=false):tV e=false:=by unfold tV;rw[h];rfl
theorem a9Z{e:Eng}(h:xJ e=true)(u:e.up=true):tV e=upE e:=by unfold tV;rw[h,if_pos u];rfl
theorem a83{e:Eng}(h:xJ e=true)(u:e.up=false):tV e=a3E e:=by unfold tV;rw[h,u];rfl
theorem a73{e:Eng}{i:Nat}(hi:i<e.X.length)(h:A7 e i=true):upE e=false:=by
 have:anyI e.X.length (A7 e)=true:=S8.2 ⟨i,hi,h⟩;unfold upE;rw[this];rfl
theorem c28{e:Eng}{i:Nat}(hi:i<e.lk.H.length)(h:xY e i=true):upE e=false:=by
 have:anyI e.lk.H.length (xY e)=true:=S8.2 ⟨i,hi,h⟩;unfold upE;rw[this];simp
theorem c3X{e:Eng}{i:Nat}(hi:i<e.lk.W.length)(h:w4 e i=true):upE e=false:=by
 have:anyI e.lk.W.length (w4 e)=true:=S8.2 ⟨i,hi,h⟩;unfold upE;rw[this];simp
theorem w7{e:Eng}(h:xJ e=true):e.X.length<=10/\1<=e.N/\e.N<=61/\H3 e.lk=true:=by
 unfold xJ at h;simp only[M1,i5,R9] at h;exact⟨h.1.1,h.1.2.1,h.1.2.2,h.2⟩
theorem b4K{e:Eng}(L:o8 e.s.L)(h:xJ e=true)(B:∀i,i<e.X.length->A7 e i=false):wG e:=by
 refine⟨L,(w7 h).1,λi hi=>?_⟩
 have:=B i hi;unfold A7 at this;simp only[yY,yC] at this;have:=this.2;unfold oV at this;simp only[M1,R9] at this;exact this.1.2
theorem a2P:GK 46 a5A:=gk func46<|by
 rintro(e:Eng) ⟨hL,hk,t,F⟩;have t:e.X.length<1000000000000:=t;have F:e.s.fr.length<1000000000000:=F;have d:e.lk.H.length<1000000000000:=hk.1;have h:e.lk.W.length<1000000000000:=hk.2;refine S2 (gC P3 (gC a2w (gC a7N (gC a7w (gC b0k (gC qS gN)))))) func46 (a6u e) (α:=let m:=(e.s.fr.length:Int);let k:=(false=tV e);let w:=(e.lk.W.length:Int);let u:=(e.lk.H.length:Int);let z:=(oo (L6 (v6 [some 0]) (T.bref e.ts) (T.bref e.ts)/\True));let q:=(e.X.length:Int);∃(x:sI.ι),((decide (q>10)|| !V9 e.N (1:Int) (61:Int))=false->(((Z2 Y6 e.lk.H x.H)/\(Z2 Y4 e.lk.W x.W)/\True)/\True)/\b5k x)/\br (decide (q>10)|| !V9 e.N (1:Int) (61:Int)|| !H3 x) k (br (!e.up) (Ri (q+u)/\Ri (q+u+w)/\Ri (q+u+w+m)/\(q+u+w+m==0)=tV e) ((∃(x:V0 e.X.length (A7 e)),((0=0/\0=0)/\(Z2 W8 e.X e.X)/\q=q/\0=(x.1:Int)/\True)/\z/\True)/\∀(x:V0 e.X.length (A7 e)),let r:=(x.1:Int);let p:=(e.X.getD r.toNat dz);let j:=(!V9 p.id (1:Int) (e.N-1));let v:=((e.X.getD (r-1).toNat dz).id≥p.id);bd (r<q) (V6 r e.X.length/\Ri (e.N-1)/\(j=false->decide (r>0)=true->Ri (r-1))/\(j=false->decide (r>0)=true->V6 (r-1) e.X.length)/\∃(X:(Sto×Txn)),((!V9 p.id (1:Int) (e.N-1)||decide (r>0)&&decide v)=false->((zV e.s X.1)/\(p.id=X.2.id/\p.Z=X.2.Z/\True)/\True)/\o8 X.1.L)/\br (!V9 p.id (1:Int) (e.N-1)||decide (r>0)&&decide v|| !oV X.1.L X.2) k (Ri (r+1)/\∃(y:V0 e.X.length (A7 e)),(((0=0/\0=0)/\(Z2 W8 e.X e.X)/\q=q/\r+1=(y.1:Int)/\True)/\z/\True)/\Lt (e.X.length-y.1) (e.X.length-x.1))) (∃(x:Eng),(((Z2 Y6 e.lk.H x.lk.H)/\(Fn.func 100=Fn.func 100/\((L0 e x)/\True)/\True)/\True)/\HlL x)/\∃(X:Eng),(anyI x.lk.H.length (xY x)=false->((Z2 Y4 e.lk.W X.lk.W)/\(Fn.func 103=Fn.func 103/\((L0 e X)/\True)/\True)/\True)/\HlL X)/\br (anyI x.lk.H.length (xY x)||anyI X.lk.W.length (w4 X)) k (∃(x:(Eng×Int)),(((L0 e x.1)/\0=x.2/\True)/\wG x.1/\u3 x.2)/\decide ((x.1.s.L.length:Int)+(↑(c9 x.1):Int)+x.2<=60)=tV e))))) ⟨e.lk,λ_=>⟨Y3,hk⟩,λhb=>?_,λhb=>⟨λhu=>?_,λhu=>?_⟩⟩
 ·rw[b5z] at hb;rw[a9q lO]
 ·rw[b5z] at hb;rw[a83 lO a8v]
  refine⟨Z3 Z9,Z3 Z9,Z3 Z9,?_⟩
  unfold a3E;rw[Bool.eq_iff_iff,beq_iff_eq,i5];omega
 ·rw[b5z] at hb;have hh:xJ e=true:=by simpa using hb
  have f:e.up=true:=a8v
  obtain⟨Q,l,j,q⟩:=w7 hh;rw[a9Z hh f];refine⟨⟨H5,Y3,⟨rfl,rfl,U2 _,Z6⟩,Z6⟩,λx=>⟨λhc=>?_,λhc=>?_⟩⟩
  ·have hlt:=Y2 hc;refine⟨Y1 hlt,Z3 Z9,λ_ _=>Z3 Z9,λ_ h0=>⟨b7h,Z9⟩,(e.s,e.X.getD x.1 dz),λ_=>⟨⟨(gL _),Y3⟩,hL⟩,λhq=>?_,λhq=>?_⟩
   ·rw[E8,show((x.1:Int)-1).toNat=x.1-1 by omega] at hq
    exact(a73 hlt hq).symm
   ·rw[E8,show((x.1:Int)-1).toNat=x.1-1 by omega] at hq
    exact⟨V8 hlt Z9,x.succ hlt hq,⟨⟨Y3,Y3,rfl,L3,Z6⟩,⟨rfl,rfl,U2 _,Z6⟩,Z6⟩,V0.ext_lt hlt⟩
  ·have hge:=X7 hc;have hno:∀i,i<e.X.length->A7 e i=false:=λi hi=>x.2.2 i (zH hi hge)
   have n:=b4K hL hh hno;have g:anyI e.X.length (A7 e)=false:=R8.2 hno;refine⟨e,⟨⟨Y3,⟨rfl,⟨(tY _),Z6⟩,Z6⟩,Z6⟩,t,d,h⟩,e,λ_=>⟨⟨Y3,⟨rfl,⟨(tY _),Z6⟩,Z6⟩,Z6⟩,t,d,h⟩,λhq=>?_,λhq=>⟨(e,0),⟨⟨(tY _),Y3⟩,n,a8t⟩,?_⟩⟩
   ·unfold upE;rw[g];simp only[qR] at hq;rcases hq with hq|hq<;>rw[hq]<;>simp
   ·simp only[yY] at hq;unfold upE;rw[g,hq.1,hq.2];simp only[Bool.not_false,Bool.true_and];exact decide_eq_decide.2 Z9
def R6(e:Eng):Bool:=H7 e.s&&tV e
def oT(e:Eng):Prop:=b42 e.s/\b5k e.lk/\N6 e.X.length
def l6:Rl:=⟨Eng,λe=>[.agg e.ts],λe=>.bool (R6 e),oT⟩
def a4O:Con:=.rel l6
def a3F:Con:=.rel l6
theorem rQ{s:Sto}(h:H7 s=true):o8 s.L:=by
 obtain⟨⟨e,d,_⟩,_⟩:=(K3 s).1 h;exact⟨((y6 s).1 e).2.2.2.2,λi hi=>by
  obtain⟨a,b⟩:=D8.1 d i hi;exact⟨(R2 _).1 a,b⟩⟩
theorem uZ:GK 20 a4O:=gk func20<|by
 rintro(e:Eng) ⟨h1,h2,h3⟩;exact S2 (gC a2O (gC a2P gN)) func20 Y7 (α:=∃(x:rP.ι),(((zV e.s x)/\True)/\b42 x)/\∃(X:Eng),(H7 x=true->((L0 e X)/\True)/\c40 X)/\(H7 x&&tV X)=R6 e) ⟨e.s,⟨⟨(gL _),Z6⟩,h1⟩,e,λh=>⟨⟨(tY _),Z6⟩,rQ h,h2,h3,h1.2.2.1.1⟩,rfl⟩
def Chs(L:List Rec)(t:Txn):Type:={x:Nat×Int//(decide (x.2<=0)||chn L t.id x.1 x.2)=oV L t/\x.2<=(L.length:Int)/\x.2.toNat<x.1}
def a2B(e:Eng):Nat->Ann
 |0=>.one (V0 e.X.length (A7 e)) (λx=>⟨[(1,.ref 0 0 0),(3,Ji x.1)],[u5 e]⟩) (λx=>e.X.length-x.1) [.box 0] [.box 0] (λx=>fun
  |1=>.one (Chs e.s.L (e.X.getD x.1 dz)) (λy=>⟨[(1,.ref 0 0 0),(3,Ji x.1),(4,.ref 1 0 0),(5,Ji y.1.2)],[u5 e,b3o (e.X.getD x.1 dz)]⟩) (λy=>y.1.1) vO vO (λ_=>Y7)
  |2=>.one (V0 e.lk.H.length (xY e)) (λy=>⟨[(1,.ref 0 0 0),(7,Ji y.1)],[u5 e]⟩) (λy=>e.lk.H.length-y.1) [.box 0] [.box 0] (λ_=>fun
   |3=>.one (V0 e.lk.W.length (w4 e)) (λz=>⟨[(1,.ref 0 0 0),(8,Ji z.1)],[u5 e]⟩) (λz=>e.lk.W.length-z.1) [.box 0] [.box 0] (λ_=>Y7)
   |_=>.none)
  |_=>.none)
 |_=>.none
theorem c6G{L:List Rec}(hL:o8 L)(id:Int){at_:Int}(e:1<=at_)(d:at_<=L.length):
  ((X9 L at_).t !=id||(X9 L at_).k==4||(X9 L at_).k==5||(X9 L at_).k==6||(X9 L at_).k==3&& !a30 L (X9 L at_))= !okR L id at_:=by
 obtain⟨r,l⟩:=hL.at e d;obtain⟨j,o,g,i⟩:=hL.prev e d;obtain⟨_,_,_,_,k1,q,_⟩:=r;unfold okR ownR;rw[R9.2 ⟨e,d⟩,Bool.true_and];by_cases ht:(X9 L at_).t=id
 ·rw[show((X9 L at_).t !=id)=false by simpa using ht,show((X9 L at_).t==id)=true by simpa using ht,Bool.false_or,Bool.true_and]
  by_cases hk:(X9 L at_).k<=3
  ·rw[R9.2 ⟨k1,hk⟩,show((X9 L at_).k==4)=false by rw[beq_eq_false_iff_ne];omega,show((X9 L at_).k==5)=false by rw[beq_eq_false_iff_ne];omega,show((X9 L at_).k==6)=false by rw[beq_eq_false_iff_ne];omega]
   simp only[Bool.false_or,Bool.true_and];by_cases h3:(X9 L at_).k=3
   ·rw[show((X9 L at_).k==3)=true by simpa using h3,show((X9 L at_).k !=3)=false by simpa using h3,Bool.true_and,Bool.false_or]
    congr 1
    unfold a30;by_cases hn:(X9 L at_).n>0
    ·obtain⟨hr2,_⟩:=hL.at (show 1<=(X9 L at_).n by omega) Z9
     have f:1<=(X9 L (X9 L at_).n).k:=hr2.2.2.2.2.1;rw[mN hn,R9.2 (show 1<=(X9 L at_).n/\(X9 L at_).n<=(L.length:Int) by omega),Bool.true_and,Bool.true_and,ht]
     congr 1
     unfold V9;rw[mN f,Bool.true_and]
    ·rw[sX hn,show V9 (X9 L at_).n 1 L.length=false from Bool.eq_false_iff.2 λh=>by have:=R9.1 h;omega]
     rfl
   ·rw[show((X9 L at_).k==3)=false by simpa using h3,show((X9 L at_).k !=3)=true by simpa using h3]
    rfl
  ·rw[show V9 (X9 L at_).k 1 3=false from Bool.eq_false_iff.2 λh=>by have:=R9.1 h;omega]
   simp only[Bool.false_and,Bool.not_false,qR,beq_iff_eq];exact .inl Z9
 ·rw[show((X9 L at_).t !=id)=true by simpa using ht,show((X9 L at_).t==id)=false by simpa using ht]
  rfl
theorem b5d(e:Eng):(!H7 e.s||decide ((e.X.length:Int)>10)|| !H3 e.lk|| !V9 e.N 1 61)= !(H7 e.s&&xJ e):=by
 unfold xJ;rw[show decide ((e.X.length:Int)>10)= !decide (e.X.length<=10) by rw[←decide_not];exact decide_eq_decide.2 Z9]
 cases H7 e.s<;>cases decide (e.X.length<=10)<;>cases H3 e.lk<;>cases V9 e.N 1 61<;>rfl
theorem a0A:GK 33 a3F:=gk func33<|by
 rintro(e:Eng) ⟨hS,hk,o⟩;have o:e.X.length<1000000000000:=o;have v:e.lk.H.length<1000000000000:=hk.1;have u:e.lk.W.length<1000000000000:=hk.2;refine S2 (gC a2D (gC a47 (gC B6 (gC a7X (gC a4G (gC rD gN)))))) func33 (a2B e) (α:=let pf:=(e.lk.W.length:Int);let pe:=(e.lk.H.length:Int);let pa:=(e.s.L.length:Int);let f:=(false=R6 e);let m:=(e.X.length:Int);let w:=(0=0/\0=0);let v:=(oo (L0 e e));∃(x:rP.ι),(((zV e.s x)/\True)/\b42 x)/\∃(h:sI.ι),((!H7 x||decide (m>10))=false->(((Z2 Y6 e.lk.H h.H)/\(Z2 Y4 e.lk.W h.W)/\True)/\True)/\b5k h)/\br (!H7 x||decide (m>10)|| !H3 h|| !V9 e.N (1:Int) (61:Int)) f (br (!e.up) ((m==0&&pe==0&&pf==0&&(e.s.fr.length:Int)==0)=R6 e) ((∃(x:V0 e.X.length (A7 e)),(w/\0=(x.1:Int)/\True)/\v/\True)/\∀(x:V0 e.X.length (A7 e)),let u:=(e.X.getD x.1 dz);let z:=(x.1:Int);let r:=(e.X.getD z.toNat dz);let pc:=(!V9 r.id (1:Int) (e.N-1));bd (z<m) (V6 z e.X.length/\Ri (e.N-1)/\(pc=false->decide (z>0)=true->Ri (z-1))/\(pc=false->decide (z>0)=true->V6 (z-1) e.X.length)/\br (!V9 r.id (1:Int) (e.N-1)||decide (z>0)&&decide ((e.X.getD (z-1).toNat dz).id≥r.id)|| !V9 r.Z (1:Int) pa) f ((∃(X:Chs e.s.L (e.X.getD x.1 dz)),(w/\z=z/\w/\r.Z=X.val.2/\True)/\v/\(oo (r.id=u.id/\r.Z=u.Z/\True))/\True)/\∀(X:Chs e.s.L (e.X.getD x.1 dz)),let c:=(X.val.2-1);let q:=(e.s.L.getD c.toNat dz);bd (X.val.2>0) (Ri c/\V6 c e.s.L.length/\∃(d:(Sto×Rec)),((q.t !=u.id||q.k==4||q.k==5||q.k==6)=false->(q.k==3)=true->((zV e.s d.1)/\(q.e=d.2.e/\q.l=d.2.l/\q.t=d.2.t/\q.k=d.2.k/\q.p=d.2.p/\q.n=d.2.n/\q.g=d.2.g/\q.s=d.2.s/\q.b=d.2.b/\q.a=d.2.a/\True)/\True)/\d.2.n<=(d.1.L.length:Int)/\N6 d.1.L.length)/\br (q.t !=u.id||q.k==4||q.k==5||q.k==6||q.k==3&& !a30 d.1.L d.2) f (Ri c/\V6 c e.s.L.length/\∃(y:Chs e.s.L (e.X.getD x.1 dz)),((w/\z=z/\w/\q.p=y.1.2/\True)/\v/\(oo (u.id=u.id/\u.Z=u.Z/\True))/\True)/\Lt y.1.1 X.val.1)) (Ri (z+1)/\∃(y:V0 e.X.length (A7 e)),((w/\z+1=(y.1:Int)/\True)/\v/\True)/\Lt (e.X.length-y.1) (e.X.length-x.1)))) ((∃(x:V0 e.lk.H.length (xY e)),(w/\0=(x.1:Int)/\True)/\v/\True)/\∀(x:V0 e.lk.H.length (xY e)),let i:=(x.1:Int);bd (i<pe) (V6 i e.lk.H.length/\∃(X:(Eng×Int)),(((L0 e X.1)/\(e.lk.H.getD i.toNat dz).tx=X.2/\True)/\N6 X.1.X.length)/\bd (T5 X.1.X X.2<0) f (Ri (i+1)/\∃(y:V0 e.lk.H.length (xY e)),((w/\i+1=(y.1:Int)/\True)/\v/\True)/\Lt (e.lk.H.length-y.1) (e.lk.H.length-x.1))) ((∃(x:V0 e.lk.W.length (w4 e)),(w/\0=(x.1:Int)/\True)/\v/\True)/\∀(x:V0 e.lk.W.length (w4 e)),let j:=(x.1:Int);let pd:=(e.lk.W.getD j.toNat dz);bd (j<pf) (V6 j e.lk.W.length/\∃(X:(Eng×Int)),let pb:=(T5 X.1.X X.2<0);(((L0 e X.1)/\pd.tx=X.2/\True)/\N6 X.1.X.length)/\(decide pb=false->V6 j e.lk.W.length)/\∃(d:(Eng×Int)),(decide pb=false->((L0 e d.1)/\pd.fo=d.2/\True)/\N6 d.1.X.length)/\br (decide pb||decide (T5 d.1.X d.2<0)) f (Ri (j+1)/\∃(y:V0 e.lk.W.length (w4 e)),((w/\j+1=(y.1:Int)/\True)/\v/\True)/\Lt (e.lk.W.length-y.1) (e.lk.W.length-x.1))) (∃(x:Eng),(((L0 e x)/\True)/\wG x)/\Ri (pa+(↑(c9 x):Int))/\decide (pa+(↑(c9 x):Int)<=60)=R6 e)))))) ⟨e.s,⟨⟨(gL _),Z6⟩,hS⟩,e.lk,λ_=>⟨Y3,hk⟩,λhb=>?_,λhb=>?_⟩
 ·rw[b5d] at hb;unfold R6;cases h1:H7 e.s
  ·rfl
  ·rw[h1] at hb;rw[a9q lO]
   rfl
 rw[b5d] at hb;simp only[yC,M1] at hb;obtain⟨q,hh⟩:=hb;have L:=rQ q;have r:=L.1;obtain⟨Q,U,N,R⟩:=w7 hh;have eo:R6 e=tV e:=by unfold R6;rw[q,Bool.true_and]
 refine⟨λhu=>?_,λhu=>?_⟩
 ·rw[eo,a83 hh a8v]
  unfold a3E;rw[Bool.eq_iff_iff];simp only[M1,beq_iff_eq,i5];omega
 ·have hu':e.up=true:=by simpa using hu
  rw[eo,a9Z hh hu'];refine⟨⟨H5,Y3⟩,λx=>⟨λhc=>?_,λhc=>?_⟩⟩
  ·have hlt:=Y2 hc;rw[E8,show((x.1:Int)-1).toNat=x.1-1 by omega]
   refine⟨Y1 hlt,Z3 Z9,λ_ _=>Z3 Z9,λ_ h0=>⟨b7h,Z9⟩,λhq=>?_,λhq=>?_⟩
   ·refine(a73 hlt ?_).symm
    unfold A7 oV;rw[Bool.not_and,←Bool.or_assoc,hq];rfl
   ·simp only[yY,yC] at hq;obtain⟨⟨r1,r2⟩,r3⟩:=hq;obtain⟨l1,l2⟩:=R9.1 r3;refine⟨⟨⟨(61,(e.X.getD x.1 dz).Z),?_,l2,X0⟩,Y3⟩,λy=>?_⟩
    ·dsimp only;unfold oV;rw[sX Z9,r3]
     rfl
    obtain⟨⟨f,at_⟩,he,j,F⟩:=y;dsimp only at he j F ⊢;refine⟨λhy=>?_,λhy=>?_⟩
    ·have h0:at_>0:=D4 hy;have h1:1<=at_:=by omega
     obtain⟨O,M,I,J⟩:=L.prev h1 j;rw[sX Z9,Bool.false_or,iK _ _ Z9 h1] at he
     have es:=c6G L (e.X.getD x.1 dz).id h1 j;refine⟨Z3 Z9,⟨Z9,Z9⟩,(e.s,X9 e.s.L at_),λ_ _=>⟨⟨(gL _),Y3⟩,X0,uA⟩,λhq=>?_,λhq=>?_⟩
     ·have hq:=es.symm.trans hq;refine(a73 hlt ?_).symm
      rw[show okR e.s.L (e.X.getD x.1 dz).id at_=false by simpa using hq] at he
      unfold A7;rw[←he];simp
     ·have hq:=es.symm.trans hq;rw[show okR e.s.L (e.X.getD x.1 dz).id at_=true by simpa using hq,Bool.true_and] at he
      refine⟨Z3 Z9,⟨Z9,Z9⟩,⟨(f-1,(X9 e.s.L at_).p),?_,X0,X0⟩,Y3,show f-1<f by omega⟩
      dsimp only;rw[←he];by_cases hp:(X9 e.s.L at_).p<=0
      ·rw[a3o _ _ _ hp,Bool.or_true]
      ·rw[sX hp,Bool.false_or]
    ·have h0:at_<=0:=by have:=q8 hy;omega
     rw[mN h0,Bool.true_or] at he;exact⟨V8 hlt Z9,x.succ hlt (by unfold A7;rw[←he,r1,r2];rfl),⟨⟨⟨rfl,rfl⟩,L3,Z6⟩,⟨rfl,rfl,tY _⟩,Z6⟩,V0.ext_lt hlt⟩
  ·have hge:=X7 hc;have hno:∀i,i<e.X.length->A7 e i=false:=λi hi=>x.2.2 i (zH hi hge)
   have hn:=b4K L hh hno;refine⟨⟨H5,Y3⟩,λy=>⟨λhy=>?_,λhy=>⟨⟨H5,Y3⟩,λz=>⟨λhz=>?_,λhz=>?_⟩⟩⟩⟩
   ·have hlt:=Y2 hy;exact⟨Y1 hlt,(e,(e.lk.H.getD y.1 dz).tx),⟨⟨(tY _),Y3⟩,o⟩,λhq=>(c28 hlt hq).symm,λhq=>⟨V8 hlt Z9,y.succ hlt hq,⟨⟨Y3,L3,Z6⟩,Y3⟩,V0.ext_lt hlt⟩⟩
   ·have hlt:=Y2 hz;exact⟨Y1 hlt,(e,(e.lk.W.getD z.1 dz).tx),⟨⟨(tY _),Y3⟩,o⟩,λ_=>Y1 hlt,(e,(e.lk.W.getD z.1 dz).fo),λ_=>⟨⟨(tY _),Y3⟩,o⟩,λhq=>(c3X hlt hq).symm,λhq=>⟨V8 hlt Z9,z.succ hlt hq,⟨⟨Y3,L3,Z6⟩,Y3⟩,V0.ext_lt hlt⟩⟩
   ·have g1:=X7 hy;have g2:=X7 hz;have hb:=a1T e.s.L e.X e.X.length;have he:c9 e=v8 e.s.L e.X e.X.length:=rfl;refine⟨e,⟨⟨(tY _),Z6⟩,hn⟩,Z3 Z9,?_⟩
    have B:anyI e.X.length (A7 e)=false:=R8.2 hno;have A:anyI e.lk.H.length (xY e)=false:=R8.2 λi hi=>y.2.2 i (zH hi g1)
    have C:anyI e.lk.W.length (w4 e)=false:=R8.2 λi hi=>z.2.2 i (zH hi g2)
    unfold upE;rw[B,A,C];simp only[Bool.not_false,Bool.true_and];exact decide_eq_decide.2 Z9
def lM(s:Lks):Prop:=s.H.length<=1048576/\s.W.length<=1048576
def x8(s:Eng):Prop:=SmS s.s/\s.X.length<=1048576/\lM s.lk
open Go.SS Go.RowKit Go.Proofs.Tryz
theorem own:ownKnob prog.godebug=none:=P9
theorem c17{P:Program}{f:FuncId}{fn:Func}{s:ChangeSpec}{c:OpenClaim}(N:c.wf (OpenSpec.ofChange s)=true)(Q:laidOutB P=true)(M:mapsRowed P=true)
  (W:fn.params.all (P.readableRec ·)=true) (O:namedTie P c.named s.vars=true) (U:(c.stops==[])=true) (X:(P.stops==[])=true) (R:(c.knobs==[])=true) (V:(P.stopKnobs==[])=true)
  (Y:(c.inPlace==P.inPlace f)=true) (l:(c.unfollowed==P.unfollowed f)=true) (v:(c.recurses==P.recurses f)=true) (n:(c.named==P.varsNamed f)=true)
  (h:(c.maps==(fn.params.toList++s.plain.varTypes P).any (P.mapsRec ·))=true) (g:(c.ifaces==(fn.params.toList++s.plain.varTypes P).any (P.ifacesRec ·))=true) (o:(c.mapsOut==P.mapsAmong fn.resultTypes.toList)=true)
  (x:(c.loops==(fn.params.toList++s.plain.varTypes P).any (P.loopsFrom ·))=true) (j:(c.wideKeys==(fn.params.toList++s.plain.varTypes P++fn.resultTypes.toList).any (P.wideKeysFrom ·))=true)
  (L:s.vars.all (P.varReadable ·)=true) (e:fn.resultTypes.all (λt=>P.readableRec t&&decide (t<P.types.size))=true) (B:(c.ifacesOut==fn.resultTypes.toList.any (P.ifacesRec ·))=true)
  (A:(c.loopsOut==fn.resultTypes.toList.any (P.loopsFrom ·))=true) (d:(c.plainKeys==P.plainKeys)=true) (z:c.shortTexts.isNone=true) (F:P.stopsHeard=true) (i:P.mayEnter=true)
  (I:(c.lifted==P.liftsFinal)=true) (q:(P.make==some c.make)=true) (r:(c.kinds==(if c.domain.isEmpty then[] else fn.params.toList.map λt=>match P.underlying t with|some (.int k)=>some k|_=>none))=true) (C:(c.pinned==c.pinnedBy)=true)
  (u:(c.veiled==(fn.params.toList++s.plain.varTypes P++fn.resultTypes.toList).any (P.veiledRec ·))=true) (J:c.veiledFits P fn.params.toList (fn.params.toList++s.plain.varTypes P++fn.resultTypes.toList)=true):joinedFacts P f fn s c=true:=by
 simp only[joinedFacts,M1];exact⟨⟨⟨⟨⟨⟨⟨⟨⟨⟨⟨⟨⟨⟨⟨⟨⟨⟨⟨⟨⟨⟨⟨⟨⟨⟨⟨⟨⟨⟨⟨N,Q⟩,M⟩,W⟩,O⟩,U⟩,X⟩,R⟩,V⟩,Y⟩,l⟩,v⟩,n⟩,h⟩,g⟩,o⟩,x⟩,j⟩,L⟩,e⟩,B⟩,A⟩,d⟩,z⟩,F⟩,i⟩,I⟩,q⟩,r⟩,C⟩,u⟩,J⟩
end
end Go.Proofs.YtlbmgnomkjmafaaGreat
