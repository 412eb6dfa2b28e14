/- A part of the proof. -/
import Derived.Test.YtlbmgnomkjmafaaGreatD0
import Derived.RangeFuncNested
import Derived.RangeFuncBound
import Derived.RangeFuncCalls
import Derived.RangeFuncBox
import Derived.RangeFuncLeaves
import Derived.Shelf.Abstract
import Derived.WalkKit
import Derived.OwnWalkIn
import Derived.TacticsInMore
import Derived.LoopNIn
import Derived.LoopIn
import Derived.Test.YtlbmgnomkjmafaaGreatSS13
import Derived.Test.YtlbmgnomkjmafaaGreatRows
import Derived.ProofKit
import Derived.JoinedOf
import Derived.Handed
import Derived.WideWitness
namespace Go.Proofs.YtlbmgnomkjmafaaGreat
set_option maxRecDepth 100000
open Go.SS Go.Proofs.Tryz
noncomputable section
structure Pg where
 Q:Int
 sl:List (Bz)
 deriving Inhabited
def Pg.ts(p:Pg):List T:=[Ji p.Q,zA p.sl]
def c7Q(b:Bool):Nat:=match b with|true=>30|false=>160
def L5(b:Bool)(s:Bz):Bool:=decide ((s.length:Int)>c7Q b)
def a18(b:Bool):List T->Option (T×Option Prop)
 | [.str s]=>some (.bool (L5 b s),none)
 |_=>none
def b1C:Con:=.pure (a18 true)
def b3x:Con:=.pure (a18 false)
theorem b0V(s:Bz)(h:
  decide ((s.length:Int)>30)=L5 true s):
  V4 prog 236 [.str s] (.bool (L5 true s)):=
 S1 gN func236 Y9 h
theorem a8g:GK 236 b1C:=gk func236<|by
 intro args res p h hp;unfold a18 at h;split at h
 ·simp only[X2,U0] at h;obtain⟨rfl,rfl⟩:=h;exact b0V _ rfl
 ·cases h
theorem b3l(s:Bz)(h:
  decide ((s.length:Int)>160)=L5 false s):
  V4 prog 160 [.str s] (.bool (L5 false s)):=
 S1 gN func160 Y9 h
theorem a6f:GK 160 b3x:=gk func160<|by
 intro args res p h hp;unfold a18 at h;split at h
 ·simp only[X2,U0] at h;obtain⟨rfl,rfl⟩:=h;exact b3l _ rfl
 ·cases h
def b5U(b:Bool):T:=fnT (match b with|true=>236|false=>160)
def gU:Rl:=⟨List (Bz)×Bool,λx=>[zA x.1,b5U x.2],λx=>Ji (Q9 x.1.length λi=>L5 x.2 (x.1.getD i [])),λx=>M1 x.1.length⟩
def b7b:Con:=.rel gU
def a4q(L:List (Bz))(b:Bool):Nat->Ann
 |0=>.one (U8 L.length λi=>L5 b (L.getD i [])) (λx=>⟨[(0,zA L),(1,b5U b),(7,Ji L.length),(8,Ji x.1)],[]⟩) (λx=>L.length-x.1) [] [] (λ_=>Y9)
 |_=>.none
theorem aS:GK 228 b7b:=gk func228<|by
 rintro⟨L,b⟩ (hL:L.length<1000000000000);cases b
 ·refine S1 (gC a6f gN) func228 (a4q L false) (α:=let r:=(Fn.func 160);let p:=(L.length:Int);(∃(x:U8 L.length λ(i:Nat)=>L5 false (L.getD i [])),((Z2 Z5 L L)/\Value.func r #[] #[]=Value.func r #[] #[]/\p=p/\0=(x.1:Int)/\True)/\True)/\∀(x:U8 L.length λ(i:Nat)=>L5 false (L.getD i [])),let q:=(x.1:Int);bd (q<p) (V7 q L.length/\br (L5 false (L.getD q.toNat [])) (q=Q9 L.length λ(i:Nat)=>L5 false (L.getD i [])) (Ri (q+1)/\∃(y:U8 L.length λ(i:Nat)=>L5 false (L.getD i [])),(((Z2 Z5 L L)/\Value.func r #[] #[]=Value.func r #[] #[]/\p=p/\q+1=(y.1:Int)/\True)/\True)/\Lt (L.length-y.1) (L.length-x.1))) ((-1:Int)=Q9 L.length λ(i:Nat)=>L5 false (L.getD i []))) ⟨⟨F4,Y2⟩,λx=>⟨λhc=>?_,λhc=>?_⟩⟩
  ·have h:=Y1 hc;exact⟨Y3 h,λhp=>(N4 h hp x.2.2).symm,λhp=>⟨V5 h Z9,x.succ h hp,Y2,U8.ext_lt h⟩⟩
  ·have e:=X6 hc;exact(K9 λj J=>x.2.2 j (yK J e)).symm
 ·refine S1 (gC a8g gN) func228 (a4q L true) (α:=let r:=(Fn.func 236);let p:=(L.length:Int);(∃(x:U8 L.length λ(i:Nat)=>L5 true (L.getD i [])),((Z2 Z5 L L)/\Value.func r #[] #[]=Value.func r #[] #[]/\p=p/\0=(x.1:Int)/\True)/\True)/\∀(x:U8 L.length λ(i:Nat)=>L5 true (L.getD i [])),let q:=(x.1:Int);bd (q<p) (V7 q L.length/\br (L5 true (L.getD q.toNat [])) (q=Q9 L.length λ(i:Nat)=>L5 true (L.getD i [])) (Ri (q+1)/\∃(y:U8 L.length λ(i:Nat)=>L5 true (L.getD i [])),(((Z2 Z5 L L)/\Value.func r #[] #[]=Value.func r #[] #[]/\p=p/\q+1=(y.1:Int)/\True)/\True)/\Lt (L.length-y.1) (L.length-x.1))) ((-1:Int)=Q9 L.length λ(i:Nat)=>L5 true (L.getD i []))) ⟨⟨F4,Y2⟩,λx=>⟨λhc=>?_,λhc=>?_⟩⟩
  ·have h:=Y1 hc;exact⟨Y3 h,λhp=>(N4 h hp x.2.2).symm,λhp=>⟨V5 h Z9,x.succ h hp,Y2,U8.ext_lt h⟩⟩
  ·have e:=X6 hc;exact(K9 λj J=>x.2.2 j (yK J e)).symm
def eE:Rl:=⟨List (Bz)×Bool,λx=>[zA x.1,b5U x.2],λx=>.bool (anyI x.1.length λi=>L5 x.2 (x.1.getD i [])),λx=>M1 x.1.length⟩
def b4h:Con:=.rel eE
theorem bC:GK 159 b4h:=gk func159<|by
 rintro⟨L,b⟩ (hL:L.length<1000000000000);cases b
 ·exact S1 (gC aS gN) func159 Y9 (α:=∃(x:gU.ι),(((Z2 Z5 L x.1)/\Value.func (Fn.func 160) #[] #[]=Value.func (Fn.func (match x.2 with|true=>236|false=>160)) #[] #[]/\True)/\M1 x.1.length)/\decide ((Q9 x.1.length λ(i:Nat)=>L5 x.2 (x.1.getD i []))≥(0:Int))=anyI L.length λ(i:Nat)=>L5 false (L.getD i [])) ⟨(L,false),⟨Y2,hL⟩,F6 _ _⟩
 ·exact S1 (gC aS gN) func159 Y9 (α:=∃(x:gU.ι),(((Z2 Z5 L x.1)/\Value.func (Fn.func 236) #[] #[]=Value.func (Fn.func (match x.2 with|true=>236|false=>160)) #[] #[]/\True)/\M1 x.1.length)/\decide ((Q9 x.1.length λ(i:Nat)=>L5 x.2 (x.1.getD i []))≥(0:Int))=anyI L.length λ(i:Nat)=>L5 true (L.getD i [])) ⟨(L,true),⟨Y2,hL⟩,F6 _ _⟩
def PgP(p:Pg):Prop:=0<=p.Q/\p.Q<=1000/\p.sl.length=4/\∀i,i<p.sl.length->(p.sl.getD i []).length<=30
noncomputable instance(p:Pg):Decidable (PgP p):=Classical.propDecidable _
def o4(p:Pg):Bool:=decide (PgP p)
def PgB(p:Pg):Prop:=M1 p.sl.length
def xY:Rl:=⟨Pg,λp=>[.agg p.ts],λp=>.bool (o4 p),PgB⟩
def b1N:Con:=.rel xY
def b2K:Con:=.rel xY
def b1O(p:Pg):Nat->Ann
 |0=>.one (U8 4 λi=>L5 true (p.sl.getD i [])) (λx=>⟨[(1,.ref 0 0 0),(3,Ji x.1)],[some (.arr true 1000000 2 1 λ_=>p.ts)]⟩) (λx=>4-x.1) [.box 0] [.box 0] (λ_=>Y9)
 |_=>.none
def rT:Rl:=⟨Unit,λ_=>[],λ_=>.agg (Pg.ts ⟨0,[[],[],[],[]]⟩),λ_=>True⟩
def a6t:Con:=.rel rT
def a6j:Con:=.rel rT
theorem a52(h:
  (Nn (4:Int)/\LeI (4:Int) (4:Int)/\mK 16 4 140737488355328/\Lt 4 9223372036854775808)/\Le 4 4/\(0:Int)=0/\(4=4/\Z7 4 (λ(x:Nat)=>[T.str []]) (Z5 [[],[],[],[]]))/\True):
  V4 prog 167 [] (.agg (Pg.ts ⟨0,[[],[],[],[]]⟩)):=
 S1 gN func167 Y9 h
theorem a7k(h:
  (Nn (4:Int)/\LeI (4:Int) (4:Int)/\mK 16 4 140737488355328/\Lt 4 9223372036854775808)/\Le 4 4/\(0:Int)=0/\(4=4/\Z7 4 (λ(x:Nat)=>[T.str []]) (Z5 [[],[],[],[]]))/\True):
  V4 prog 210 [] (.agg (Pg.ts ⟨0,[[],[],[],[]]⟩)):=
 S1 gN func210 Y9 h
theorem hM{s:Bz}:L5 true s=false↔s.length<=30:=by
 unfold L5;rw[qN];show ¬ (s.length:Int)>((30:Nat):Int)↔_;omega
theorem fV{s:Bz}:L5 false s=false↔s.length<=160:=by
 unfold L5;rw[qN];show ¬ (s.length:Int)>((160:Nat):Int)↔_;omega
theorem R8{n:Nat}{p:Nat->Bool}:anyI n p=false↔∀i,i<n->p i=false:=by
 rw[Bool.eq_false_iff,ne_eq,U3];constructor
 ·intro h i hi;exact Bool.eq_false_iff.2 λhp=>h ⟨i,hi,hp⟩
 ·rintro h ⟨i,hi,hp⟩;rw[h i hi] at hp;cases hp
theorem b6v(p:Pg):o4 p=true↔PgP p:=decide_eq_true_iff
theorem pR:GK 169 b1N:=gk func169<|by
 intro(p:Pg) (hp:p.sl.length<1000000000000);refine S1 (gC M0 (gC bC gN)) func169 Y9 (α:=∃(x:eE.ι),((V9 p.Q (0:Int) (1000:Int)&&(p.sl.length:Int)==4)=true->((Z2 Z5 p.sl x.1)/\Value.func (Fn.func 236) #[] #[]=Value.func (Fn.func (match x.2 with|true=>236|false=>160)) #[] #[]/\True)/\M1 x.1.length)/\(V9 p.Q (0:Int) (1000:Int)&&(p.sl.length:Int)==4&& !anyI x.1.length λ(i:Nat)=>L5 x.2 (x.1.getD i []))=o4 p) ⟨(p.sl,true),λ_=>⟨Y2,hp⟩,?_⟩
 rw[Bool.eq_iff_iff,b6v];simp only[O4,xV,beq_iff_eq,V9,r8,R8];constructor
 ·rintro⟨⟨⟨e,h⟩,f⟩,d⟩;exact⟨e,h,Z9,λi hi=>hM.1 (d i hi)⟩
 ·rintro⟨e,h,f,d⟩;exact⟨⟨⟨e,h⟩,Z9⟩,λi hi=>hM.2 (d i hi)⟩
theorem c1K{p:Pg}(h:¬PgP p):false=o4 p:=(uG h).symm
theorem fX:GK 133 b2K:=gk func133<|by
 intro(p:Pg) (hp:p.sl.length<1000000000000);refine S1 (gC D0 gN) func133 (b1O p) (α:=let q:=(oo (p.Q=p.Q/\(Z2 Z5 p.sl p.sl)/\True));br (!V9 p.Q (0:Int) (1000:Int)||(p.sl.length:Int) !=4) (false=o4 p) ((∃(x:U8 4 λ(i:Nat)=>L5 true (p.sl.getD i [])),((0=0/\0=0)/\0=(x.1:Int)/\True)/\q/\True)/\∀(x:U8 4 λ(i:Nat)=>L5 true (p.sl.getD i [])),let r:=(x.1:Int);bd (r<4) (V7 r p.sl.length/\bd ((↑(p.sl.getD r.toNat []).length:Int)>30) (false=o4 p) (Ri (r+1)/\∃(y:U8 4 λ(i:Nat)=>L5 true (p.sl.getD i [])),(((0=0/\0=0)/\r+1=(y.1:Int)/\True)/\q/\True)/\Lt (4-y.1) (4-x.1))) (true=o4 p))) ⟨λh=>c1K ?_,λh=>?_⟩
 ·rintro⟨f,e,g,_⟩;simp[V9] at h;omega
 simp[V9] at h;refine⟨⟨F4,Y2⟩,λx=>⟨λhc=>?_,λhc=>?_⟩⟩
 ·have hlt:x.1<4:=by have:=E4 hc;omega
  refine⟨⟨Z9,Z9⟩,λB=>c1K ?_,λB=>⟨Z3 Z9,x.succ hlt B,Y2,U8.ext_lt hlt⟩⟩
  rintro⟨_,_,_,d⟩;have:=d x.1 Z9
  rw[G2,r8] at B;omega
 ·refine(qK ⟨h.1.1,h.1.2,Z9,λi hi=>?_⟩).symm
  exact hM.1 (x.2.2 i (by have:=s6 hc;omega))
theorem iG:Z7 4 (λ_=>[T.str []]) (Z5 [[],[],[],[]]):=by
 intro i hi
 match i,hi with
 |0,_=>rfl
 |1,_=>rfl
 |2,_=>rfl
 |3,_=>rfl
theorem a3L:GK 167 a6t:=gk func167<|λ_ _=>a52 ⟨⟨tI,b0e,a5m,H9⟩,V8 _,rfl,⟨rfl,iG⟩,Z6⟩
theorem a3x:GK 210 a6j:=gk func210<|λ_ _=>a7k ⟨⟨tI,b0e,a5m,H9⟩,V8 _,rfl,⟨rfl,iG⟩,Z6⟩
def vO(no:Int)(x:Bz):Bool:=decide (5<=x.length)&&(x.getD 0 0==112&&decide (((x.getD 1 0).toNat:Int)=no))
def pgX(x:Bz):Pg:=⟨be ((x.drop 2).take 2),(P6 (x.drop 4)).getD []⟩
def F5(no:Int)(b:Bz):Pg×Bool:=if R3 b&&vO no (W6 b) then(pgX (W6 b),(P6 ((W6 b).drop 4)).isSome&&o4 (pgX (W6 b))) else(⟨0,[]⟩,false)
def O5(no:Int)(b:Bz):Pg:=if(F5 no b).2 then(F5 no b).1 else⟨0,[]⟩
def J2(no:Int)(b:Bz):Int:=if R3 b then(if(F5 no b).2 then 0 else 3) else 8
def RdB(b:Bz):Prop:=b.length<=1000
def gI:Rl:=⟨Int×Bz,λx=>[Ji x.1,.bys x.2],λx=>.tup [.agg (O5 x.1 x.2).ts,Ji (J2 x.1 x.2)],λx=>RdB x.2⟩
def a5P:Con:=.rel gI
def bL:Rl:=⟨Int×Bz,λx=>[Ji x.1,.str x.2],λx=>.tup [.agg (F5 x.1 x.2).1.ts,.bool (F5 x.1 x.2).2],λx=>RdB x.2⟩
def b1z:Con:=.rel bL
theorem a7R:GK 211 b1z:=gk func211<|by
 rintro⟨no,b⟩ (hb:b.length<=1000);have hx:(W6 b).length<=1000:=by
  unfold W6;split
  ·rw[List.length_take];omega
  ·exact O3 _
 have hh:(!R3 b||decide (((W6 b).length:Int)<5)||(((W6 b).getD 0 0).toNat:Int) !=112||IntKind.i64.wrap (((W6 b).getD 1 0).toNat:Int) !=no)= !(R3 b&&vO no (W6 b)):=by
  rw[vS];unfold vO;have:((W6 b).getD 0 0==112)=((((W6 b).getD 0 0).toNat:Int)==112):=by
   rw[Bool.eq_iff_iff,beq_iff_eq,beq_iff_eq,←UInt8.toNat_inj];exact⟨λh=>by rw[h];rfl,λh=>by have:((112:UInt8).toNat:Int)=112:=rfl;omega⟩
  rw[this];have h5:decide (((W6 b).length:Int)<5)= !decide (5<=(W6 b).length):=by rw[←decide_not];exact decide_eq_decide.2 Z9
  have n:((((W6 b).getD 1 0).toNat:Int) !=no)= !decide ((((W6 b).getD 1 0).toNat:Int)=no):=by rw[Bool.eq_iff_iff];simp
  rw[h5,n,bne];cases R3 b<;>cases decide (5<=(W6 b).length)<;>cases((((W6 b).getD 0 0).toNat:Int)==112)<;>simp
 refine S1 (gC nR (gC gH (gC dG (gC fX gN)))) func211 Y9 (α:=let r:=(F5 no b);∃(x:a4C.ι),let q:=(↑((W6 x).getD 0 (0:UInt8)).toNat:Int);let p:=(W6 x).length;let z:=((↑p:Int)<5);((b=x/\True)/\w2 x)/\((!R3 x||decide z)=false->V7 (0:Int) p)/\((!R3 x||decide z||q !=112)=false->V7 (1:Int) p)/\br (!R3 x||decide z||q !=112||IntKind.i64.wrap (↑((W6 x).getD 1 (0:UInt8)).toNat:Int) !=no) ((0=r.1.Q/\r.1.sl.length=0/\True)/\false=r.2/\True) (jH (4:Int) p/\∃(X:aT.ι),let u:=((P6 X).getD []);((List.drop 4 (W6 x)=X/\True)/\w2 X)/\b00 (2:Int) (4:Int) p/\∃(d:jE.ι),((List.drop 2 (List.take 4 (W6 x))=d/\True)/\nH d)/\∃(x:xY.ι),((P6 X).isSome=true->(((↑(be d):Int)=x.Q/\(Z2 Z5 u x.sl)/\True)/\True)/\PgB x)/\((↑(be d):Int)=r.1.Q/\(Z2 Z5 u r.1.sl)/\True)/\((P6 X).isSome&&o4 x)=r.2/\True)) ⟨b,⟨Y2,Nat.le_trans hb X1⟩,λh=>?_,λh=>?_,λh=>?_,λh=>?_⟩
 ·simp only[zV,qN] at h;exact⟨Z9,Z9⟩
 ·simp only[zV,qN] at h;exact⟨Z9,Z9⟩
 ·rw[hh] at h;have h:(R3 b&&vO no (W6 b))=false:=(xV _).mp h;have e:F5 no b=(⟨0,[]⟩,false):=by unfold F5;rw[h];rfl
  rw[e];exact Y2
 ·rw[hh] at h;have h:(R3 b&&vO no (W6 b))=true:=(zF _).mp h;have h5:5<=(W6 b).length:=by simp only[vO,O4,r8] at h;exact h.2.1
  have e:F5 no b=(pgX (W6 b),(P6 ((W6 b).drop 4)).isSome&&o4 (pgX (W6 b))):=by unfold F5;rw[h];rfl
  rw[e];refine⟨⟨Z9,Z9⟩,(W6 b).drop 4,⟨Y2,by unfold w2;rw[List.length_drop];omega⟩,⟨Z9,Z9,Z9⟩,((W6 b).drop 2).take 2,⟨⟨?_,Z6⟩,by unfold nH;rw[List.length_take];omega⟩,pgX (W6 b),
   λ_=>⟨Y2,?_⟩,Y2⟩
  ·rw[List.drop_take]
  ·show((P6 ((W6 b).drop 4)).getD []).length<1000000000000;unfold P6;split
   ·decide
   ·split
    ·rename_i p out ho;split
     ·have:=gK ho;have:=zI ((W6 b).drop 4) 0;simp only[Option.getD_some,D1] at*;omega
     ·decide
    ·decide
theorem b13(r:Bz)(p i:Nat):(r.drop p).getD i 0=r.getD (p+i) 0:=by
 simp[R2]
theorem b4a(r:Bz)(R:0<r.length):∀i,match yD r i with
  |some (p,out)=>F9 r false i=⟨r.drop p,false,out⟩/\p<=r.length
  |none=>(F9 r false i).fl=true
 |0=>by
  have:r.isEmpty=false:=by cases r with
   |nil=>simp at R
   |cons=>rfl
  simp only[yD,F9,Fst.go,fs0,this,Bool.or_false];exact⟨Z6,R⟩
 |i+1=>by
  have I:=b4a r R i;have o:F9 r false (i+1)=Fst.step (F9 r false i):=rfl;cases f:yD r i with
  |none=>
   rw[f] at I;have:yD r (i+1)=none:=a1l f 1;rw[this,o];simp only at I ⊢;simp[Fst.step,I]
  |some x=>
   obtain⟨p,out⟩:=x;rw[f] at I;obtain⟨j,l⟩:=I;rw[a82 f,o,j];have M:numR (r.drop p)=((r.getD p 0).toNat:Int):=by unfold numR;rw[b13,Nat.add_zero]
   have h:big ((r.drop p).drop 1) (numR (r.drop p))=decide (¬ (p+1+(r.getD p 0).toNat<=r.length∨r.length<p+1/\(r.getD p 0).toNat=0)):=by
    unfold big;rw[M];refine decide_eq_decide.2 ?_
    simp only[List.length_drop];omega
   have e:(r.drop p).isEmpty=decide (¬p<r.length):=by
    rw[Bool.eq_iff_iff,List.isEmpty_iff,r8,List.drop_eq_nil_iff];omega
   simp only[Fst.step];rw[h,e];by_cases hc:p<r.length/\p+1+(r.getD p 0).toNat<=r.length
   ·rw[if_pos hc];simp only;have e1:decide (¬p<r.length)=false:=uG Z9
    have g:decide (¬ (p+1+(r.getD p 0).toNat<=r.length∨r.length<p+1/\(r.getD p 0).toNat=0))=false:=uG Z9
    rw[e1,g];have d:big ((r.drop p).drop 1) (numR (r.drop p))=false:=by rw[h,g]
    unfold R0 T7;rw[d];simp only[Bool.false_eq_true,if_false,Bool.or_false];refine⟨?_,hc.2⟩
    rw[M,G2,List.drop_drop,List.drop_drop,List.drop_take,show p+1+(r.getD p 0).toNat- (p+1)=(r.getD p 0).toNat by omega,List.drop_drop,Nat.add_assoc]
   ·rw[if_neg hc];simp only;rw[tB,tB];by_cases hp:p<r.length
    ·exact .inr (qK Z9)
    ·exact .inl (.inr (qK hp))
theorem a1P(l:Bz):∀i,(F9 l true i).fl=true
 |0=>by simp[F9,Fst.go,fs0]
 |i+1=>by
  have:=a1P l i;simp only[F9] at this ⊢;simp[Fst.go,Fst.step,this]
theorem a6Y(fl:Bool):∀i,(F9 [] fl i).fl=true
 |0=>by simp[F9,Fst.go,fs0]
 |i+1=>by
  have:=a6Y fl i;simp only[F9] at this ⊢;simp[Fst.go,Fst.step,this]
def rpQ(x:Bz):Pg:=⟨be ((T7 x 4).drop 2),(S2 (R0 x 4) (false||big x 4)).out⟩
def nN(no:Int)(x:Bz):Bool:=(!(!(S2 (R0 x 4) (false||big x 4)).fl&&(S2 (R0 x 4) (false||big x 4)).l.isEmpty)||(((T7 x 4).getD 0 0).toNat:Int) !=112||IntKind.i64.wrap (((T7 x 4).getD 1 0).toNat:Int) !=no)
theorem a9w(no:Int)(b:Bz)(u:R3 b=true):(nN no (W6 b)|| !o4 (rpQ (W6 b)))= !(F5 no b).2/\((F5 no b).2=true->rpQ (W6 b)=(F5 no b).1):=by
 have R:F5 no b=if vO no (W6 b) then(pgX (W6 b),(P6 ((W6 b).drop 4)).isSome&&o4 (pgX (W6 b))) else(⟨0,[]⟩,false):=by unfold F5;rw[u,Bool.true_and]
 generalize W6 b=x at R;rw[R];by_cases h5:5<=x.length
 ·have hbig:big x 4=false:=uG Z9
  have hR:R0 x 4=x.drop 4:=by unfold R0;rw[hbig];rfl
  have A:T7 x 4=x.take 4:=by unfold T7;rw[hbig];rfl
  have j:(x.take 4).getD 0 0=x.getD 0 0:=by simp[R2,List.getElem?_take]
  have o:(x.take 4).getD 1 0=x.getD 1 0:=by simp[R2,List.getElem?_take]
  have i:(x.take 4).drop 2=(x.drop 2).take 2:=by rw[List.drop_take]
  have q:rpQ x=⟨be ((x.drop 2).take 2),(S2 (x.drop 4) false).out⟩:=by unfold rpQ;rw[hR,A,hbig,i];rfl
  have B:nN no x=(!(!(S2 (x.drop 4) false).fl&&(S2 (x.drop 4) false).l.isEmpty)||((x.getD 0 0).toNat:Int) !=112||((x.getD 1 0).toNat:Int) !=no):=by unfold nN;rw[hR,A,hbig,j,o,vS];rfl
  have g:vO no x= !(((x.getD 0 0).toNat:Int) !=112||((x.getD 1 0).toNat:Int) !=no):=by
   unfold vO;rw[Bool.eq_iff_iff];simp only[O4,r8,beq_iff_eq,xV,zV,bne_eq_false_iff_eq];have:x.getD 0 0=112↔((x.getD 0 0).toNat:Int)=112:=by
    rw[←UInt8.toNat_inj];exact⟨λh=>by rw[h];rfl,λh=>by have:((112:UInt8).toNat:Int)=112:=rfl;omega⟩
   rw[this];exact⟨λh=>h.2,λh=>⟨h5,h⟩⟩
  have N:0<(x.drop 4).length:=by rw[List.length_drop];omega
  have d:=b4a (x.drop 4) N (D1 (x.drop 4));have n:(numR (x.drop 4)).toNat=D1 (x.drop 4):=by unfold numR D1;exact G2 _
  have e:S2 (x.drop 4) false=F9 (x.drop 4) false (D1 (x.drop 4)):=by unfold S2;rw[n]
  have hall:P6 (x.drop 4)=if D1 (x.drop 4)>100 then none else match yD (x.drop 4) (D1 (x.drop 4)) with
    |some (p,out)=>if p=(x.drop 4).length then some out else none
    |none=>none:=by
   unfold P6;by_cases hc:D1 (x.drop 4)>100
   ·rw[if_pos (.inr hc),if_pos hc]
   ·rw[if_neg Z9,if_neg hc]
    rfl
  rw[B,q,g,e];generalize (((x.getD 0 0).toNat:Int) !=112)=d0;generalize (((x.getD 1 0).toNat:Int) !=no)=d1;have X:∀out,P6 (x.drop 4)=some out->pgX x=⟨be ((x.drop 2).take 2),out⟩:=λout h=>by unfold pgX;rw[h];rfl
  generalize be ((x.drop 2).take 2)=nn at X;generalize pgX x=px at X;generalize t:x.drop 4=r at d hall X;clear q B g hR A j o i R e n;cases F:yD r (D1 r) with
  |none=>
   rw[F] at d hall;simp only at d;have hall:P6 r=none:=by rw[hall];split<;>rfl
   rw[d,hall];cases d0<;>cases d1<;>simp
  |some y=>
   obtain⟨p,out⟩:=y;rw[F] at d hall;simp only at d hall;obtain⟨d,L⟩:=d;rw[d];have O:out.length=D1 r:=gK F;by_cases hp:p=r.length
   ·have hem:(r.drop p).isEmpty=true:=by rw[List.isEmpty_iff,List.drop_eq_nil_iff];omega
    by_cases hc:D1 r>100
    ·rw[if_pos hc] at hall;have hpg:o4 ⟨nn,out⟩=false:=uG (λh=>by have:=h.2.2.1;simp only at this;omega)
     simp only[hem,hall,hpg];cases d0<;>cases d1<;>simp
    ·rw[if_neg hc,if_pos hp] at hall;rw[X out hall];simp only[hem,hall];cases d0<;>cases d1<;>simp
   ·have hem:(r.drop p).isEmpty=false:=by
     rw[Bool.eq_false_iff,ne_eq,List.isEmpty_iff,List.drop_eq_nil_iff];omega
    have hall:P6 r=none:=by rw[hall,if_neg hp];split<;>rfl
    simp only[hem,hall];cases d0<;>cases d1<;>simp
 ·have hh:vO no x=false:=by unfold vO;rw[uG h5];rfl
  have f:(S2 (R0 x 4) (false||big x 4)).fl=true:=by
   by_cases v:4<=x.length
   ·have hbig:big x 4=false:=uG Z9
    have hR:R0 x 4=[]:=by unfold R0;rw[hbig];exact List.drop_eq_nil_iff.2 (by show x.length<=4;omega)
    rw[hR];exact a6Y _ _
   ·have hbig:big x 4=true:=qK Z9
    rw[hbig];exact a1P _ _
  have B:nN no x=true:=by unfold nN;rw[f];simp
  rw[B,hh];simp
theorem a3w:GK 168 a5P:=gk func168<|by
 rintro⟨no,b⟩ (B:b.length<=1000);have hl:∀(x:Bz),(T7 x 4).length=4:=λx=>by
  unfold T7;split
  ·exact List.length_replicate
  ·rename_i h;have:¬4>(x.length:Int):=by simpa[big] using h
   rw[List.length_take,show(4:Int).toNat=4 from rfl]
   omega
 refine S1 (gC kW (gC rA (gC a2o (gC b0L (gC lK (gC pR gN)))))) func168 Y9 (α:=let y:=(O5 no b);let r:=(0=y.Q/\y.sl.length=0/\True);bd ((b.length:Int)>65536) (r/\2=J2 no b/\True) (∃(x:oS.ι),let q:=(T7 (W6 x) (4:Int));let v:=(↑(q.getD 1 (0:UInt8)).toNat:Int);let z:=(↑(q.getD 0 (0:UInt8)).toNat:Int);let p:=(S2 (R0 (W6 x) (4:Int)) (false||big (W6 x) (4:Int)));let u:=(! p.fl&&p.l.isEmpty);((b=x/\True)/\w2 x)/\br (!R3 x) (r/\8=J2 no b/\True) (v6 (4:Int)/\jH (2:Int) q.length/\∃(d:a5f.ι),((List.drop 2 q=d/\True)/\nH d)/\((! u)=false->V7 (0:Int) q.length)/\((! u||z !=112)=false->V7 (1:Int) q.length)/\∃(X:xY.ι),((! u||z !=112||IntKind.i64.wrap v !=no)=false->(((↑(be d):Int)=X.Q/\(Z2 Z5 p.out X.sl)/\True)/\True)/\PgB X)/\br (! u||z !=112||IntKind.i64.wrap v !=no|| !o4 X) (r/\3=J2 no b/\True) (((↑(be d):Int)=y.Q/\(Z2 Z5 p.out y.sl)/\True)/\0=J2 no b/\True)))) ⟨λh=>?_,λ_=>⟨b,⟨Y2,Nat.le_trans B X1⟩,λh=>?_,λh=>⟨⟨Z9,Z9⟩,⟨Z9,a0z⟩,(T7 (W6 b) 4).drop 2,⟨Y2,by unfold nH;rw[List.length_drop,hl];omega⟩,
  λ_=>⟨Z9,a0z⟩,λ_=>⟨Z9,a0z⟩,rpQ (W6 b),λ_=>⟨Y2,?_⟩,λg=>?_,λg=>?_⟩⟩⟩
 ·have:=E4 h;have B:b.length<=1000:=B;omega
 ·have hu:R3 b=false:=by simpa using h
  have e:(F5 no b).2=false:=by unfold F5;rw[hu];rfl
  have f:O5 no b=⟨0,[]⟩:=by unfold O5;rw[e];rfl
  have i:J2 no b=8:=by unfold J2;rw[hu];rfl
  rw[f,i];exact Y2
 ·show(S2 (R0 (W6 b) 4) (false||big (W6 b) 4)).out.length<1000000000000;unfold S2;rw[uV];have:=u6 (R0 (W6 b) 4);omega
 ·have hu:R3 b=true:=by simpa using h
  have q:=(a9w no b hu).1;have e:(F5 no b).2=false:=by
   have g:(nN no (W6 b)|| !o4 (rpQ (W6 b)))=true:=g;rw[g] at q;exact(xV _).mp q.symm
  have f:O5 no b=⟨0,[]⟩:=by unfold O5;rw[e];rfl
  have i:J2 no b=3:=by unfold J2;rw[hu,e];rfl
  rw[f,i];exact Y2
 ·have hu:R3 b=true:=by simpa using h
  have q:=a9w no b hu;have e:(F5 no b).2=true:=by
   have g:(nN no (W6 b)|| !o4 (rpQ (W6 b)))=false:=g;rw[g] at q;exact(zF _).mp q.1.symm
  have f:O5 no b=rpQ (W6 b):=by unfold O5;rw[e,q.2 e];rfl
  have i:J2 no b=0:=by unfold J2;rw[hu,e];rfl
  rw[f,i];exact Y2
open Go.SS Go.RowKit Go.Shelf Go.Proofs.Tryz
attribute [local go_sem] Oper.semAt_some
structure Pend where
 at_:Int
 d:Bz
 deriving Inhabited
def Pend.ts(p:Pend):List T:=[Ji p.at_,.str p.d]
def Pend.val(p:Pend):Value:=.agg #[.int .i64 p.at_,.string ⟨p.d.toArray⟩]
def vD{α:Type}(f:Nat->α)(k:Nat):List α:=(List.range k).map f
theorem pA{α:Type}(f:Nat->α)(k:Nat):vD f (k+1)=vD f k++[f k]:=by simp[vD,List.range_succ]
theorem a0Z{α:Type}(f:Nat->α)(k:Nat):(vD f k).length=k:=by simp[vD]
def bwF(ps:Nat->Pend)(len j:Nat):Nat×Pend:=(len-1-j,ps (len-1-j))
def bwE(x:Nat×Pend):Array Value:= #[.int .i64 (x.1:Int),x.2.val]
def KpB(n Bs:Nat)(A B:World):Prop:=Below n A B/\∀v,A.cell? ⟨Bs,0,none⟩=some v->B.cell? ⟨Bs,0,none⟩=some v
theorem KpB.refl(n Bs:Nat)(A:World):KpB n Bs A A:=⟨Below.refl _ _,λ_ h=>h⟩
theorem KpB.trans{n Bs:Nat}{A B C:World}(h:KpB n Bs A B)(k:KpB n Bs B C):KpB n Bs A C:=⟨h.1.trans k.1,λv hv=>k.2 v (h.2 v hv)⟩
set_option maxHeartbeats 2000000 in
theorem c3L(F:Fence)(n:Nat)(h8:F.fn 273)(hro:F.round=none)(hn:1<=n)(l Bs n₀ b off len cap:Nat)(ps:Nat->Pend)(hreach:len<1000000000000)(hb:b<n₀)(J Jx:List (Nat×Pend)->World->Prop)
  (hY:∀pre x W,J pre W->pre.length<len->YieldAt F (n-1) prog l (bwE x) W λe W'=>
   (e= .returned (.bool true)/\J (pre++[x]) W'/\KpB n₀ Bs W W')∨(e= .returned (.bool false)/\Jx (pre++[x]) W'))
  (W:World) (hBs:W.cell? ⟨Bs,0,none⟩=some (.slice (some ⟨b,off,none⟩) len cap))
  (hc0:∀j,j<len->W.cell? ⟨b,off+j*2,none⟩=some (.int .i64 (ps j).at_)) (hc1:∀j,j<len->W.cell? ⟨b,off+j*2+1,none⟩=some (.string ⟨(ps j).d.toArray⟩)) (h0:J [] W):
  CallsIn F n prog 273 #[.func (.yield l) #[] #[],.pointer (some ⟨Bs,0,none⟩)] W λe W'=>(∃v,e= .returned v)/\
   ((∃ys,ys=vD (bwF ps len) len/\J ys W')∨(∃pre,(∃k,k<=len/\pre=vD (bwF ps len) k)/\Jx pre W')):=by
 refine callsIn_of_wp func273 rfl h8 ?_ hro
 simp only[Tryz.ntmps273,List.size_toArray,List.length_cons,List.length_nil,Nat.reduceAdd,Nat.reduceSub,Array.replicate_succ,Array.replicate_zero,List.push_toArray,List.append_toArray,List.nil_append,List.cons_append]
 gi_wp2
 gi_loopw [3] (λi wr=>∃k:Nat,k<=len/\i= .int .i64 ((len:Int)-1-k)/\J (vD (bwF ps len) k) wr/\KpB n₀ Bs W wr)
  (λi _=>(intOf i+1).toNat)
 case atStart=>exact⟨0,O3 _,W8,h0,KpB.refl _ _ _⟩
 case round=>
  obtain⟨k,hk,rfl,hJs,hnx⟩:=hrel;have hBx:wr.cell? ⟨Bs,0,none⟩=some (.slice (some ⟨b,off,none⟩) len cap):=hnx.2 _ hBs;by_cases hlt:k<len
  ·obtain⟨m,hm⟩:∃m,len=k+1+m:=⟨len-1-k,Z9⟩
   have hfk:bwF ps len k=(m,ps m):=by unfold bwF;rw[show len-1-k=m by omega]
   have e1:(len:Int)-1-k=(m:Int):=Z9
   rw[e1];have hm1:m<len:=Z9
   have hm2:len<=m+k+1:=Z9
   have hm3:m+k+1<=len:=Z9
   clear hm e1;have hx0:=(hnx.1.cell (p:=⟨b,off+m*2,none⟩) hb).trans (hc0 m Z9)
   have hx1:=(hnx.1.cell (p:=⟨b,off+m*2+1,none⟩) hb).trans (hc1 m Z9)
   obtain⟨fn,tmps,assign,body,hy,hR⟩:=hY _ (m,ps m) wr hJs (by rw[a0Z];exact hlt)
   dsimp only[bwE,Pend.val] at hy
   gi_wp2
   refine hR.mono ?_
   rintro e W3 (⟨rfl,hJ3,hk3⟩|⟨rfl,hJx3⟩)
   ·gi_wp2
    go_roundw
    case rel=>exact⟨k+1,Z9,by congr 1;omega,by rw[pA,hfk];exact hJ3,hnx.trans hk3⟩
    case measure=>(simp[intOf]<;>omega)
   ·gi_wp2
    refine bodyPost_ret (results_none rfl _ _ _) rfl ?_
    exact⟨⟨_,rfl⟩,.inr ⟨_,⟨k+1,Z9,by rw[pA,hfk]⟩,hJx3⟩⟩
  ·obtain rfl:k=len:=by omega
   have e1:((k:Nat):Int)-1-k= -1:=Z9
   rw[e1]
   gi_wp2
   go_end0
   exact⟨⟨_,rfl⟩,.inl ⟨_,rfl,hJs⟩⟩
set_option maxHeartbeats 1000000 in
theorem a7K(F:Fence)(n:Nat)(h8:F.fn 273)(hro:F.round=none)(l Bs cap:Nat)(a:Option Addr)(J:List (Nat×Pend)->World->Prop)(W:World)(hBs:W.cell? ⟨Bs,0,none⟩=some (.slice a 0 cap))(h0:J [] W):
  CallsIn F n prog 273 #[.func (.yield l) #[] #[],.pointer (some ⟨Bs,0,none⟩)] W λe W'=>(∃v,e= .returned v)/\J [] W':=by
 refine callsIn_of_wp func273 rfl h8 ?_ hro
 simp only[Tryz.ntmps273,List.size_toArray,List.length_cons,List.length_nil,Nat.reduceAdd,Nat.reduceSub,Array.replicate_succ,Array.replicate_zero,List.push_toArray,List.append_toArray,List.nil_append,List.cons_append]
 gi_wp2
 gi_loopw [3] (λi wr=>i= .int .i64 (-1)/\J [] wr) (λ_ _=>0)
 case atStart=>exact⟨rfl,h0⟩
 case round=>
  obtain⟨rfl,hJs⟩:=hrel
  gi_wp2
  go_end0
  exact⟨⟨_,rfl⟩,hJs⟩
set_option maxHeartbeats 1000000 in
theorem c6w(F:Fence)(n:Nat)(h6:F.fn 232)(hro:F.round=none)(a:Option Addr)(len cap:Nat)(w:World):
  CallsIn F n prog 232 #[.slice a len cap] w λe w'=>e= .returned (.func (.func 273) #[] #[.pointer (some ⟨w.heap.size,0,none⟩)])/\w'=w.alloc (.cells #[.slice a len cap] 24):=by
 refine callsIn_of_wp func232 rfl h6 ?_ hro
 simp only[Tryz.ntmps232,List.size_toArray,List.length_cons,List.length_nil,Nat.reduceAdd,Nat.reduceSub,Array.replicate_succ,Array.replicate_zero,List.push_toArray,List.append_toArray,List.nil_append,List.cons_append]
 gi_wp2
 go_ret
 exact Y2
def yZ(n:Nat)(W:World)(v:Value)(len:Nat)(ps:Nat->Pend):Prop:=
 (∃a cap,v= .slice a 0 cap/\len=0)∨∃b off cap,v= .slice (some ⟨b,off,none⟩) len cap/\b<n/\∀j,j<len->W.cell? ⟨b,off+j*2,none⟩=some (.int .i64 (ps j).at_)/\W.cell? ⟨b,off+j*2+1,none⟩=some (.string ⟨(ps j).d.toArray⟩)
theorem yZ.below{n:Nat}{A B:World}(h:Below n A B){v:Value}{len:Nat}{ps:Nat->Pend}:yZ n A v len ps->yZ n B v len ps
 | .inl e=>.inl e
 | .inr ⟨b,off,cap,e,hb,hc⟩=>.inr ⟨b,off,cap,e,hb,λj J=>⟨(h.cell (p:=⟨b,off+j*2,none⟩) hb).trans (hc j J).1,(h.cell (p:=⟨b,off+j*2+1,none⟩) hb).trans (hc j J).2⟩⟩
theorem b43(F:Fence)(n:Nat)(u:F.fn 273)(o:F.round=none)(x:1<=n)(Bs N:Nat)(v:Value)(len:Nat)(ps:Nat->Pend)(h:len<1000000000000)(w:World)(q:Bs<w.heap.size)(i:N<=w.heap.size)
  (C:w.cell? ⟨Bs,0,none⟩=some v) (I:yZ N w v len ps):
  SeqStopsK F n prog 273 #[.pointer (some ⟨Bs,0,none⟩)] bwE (KpB N Bs) (λz=>z=vD (bwF ps len) len)
   (λpre=>∃k,k<=len/\pre=vD (bwF ps len) k) len w:=λl J Jx W t _ _ Y r=>by
 have d:=(t.cell (p:=⟨Bs,0,none⟩) q).trans C;rcases I.below (t.mono i) with⟨a,cap,rfl,rfl⟩|⟨b,off,cap,rfl,B,f⟩
 ·exact(a7K F n u o l Bs cap a J W d r).mono λe W' ⟨A,g⟩=>⟨A,.inl ⟨_,rfl,g⟩⟩
 ·exact c3L F n u o x l Bs N b off len cap ps h B J Jx Y W d (λj g=>(f j g).1) (λj g=>(f j g).2) r
theorem yZ.mono{n N:Nat}{W:World}{v:Value}{len:Nat}{ps:Nat->Pend}(h:n<=N):yZ n W v len ps->yZ N W v len ps
 | .inl e=>.inl e
 | .inr ⟨b,off,cap,e,hb,hc⟩=>.inr ⟨b,off,cap,e,yK hb h,hc⟩
def dQ(n:Nat)(W:World)(v:Value)(m:Nat)(L:List (Bz)):Prop:=∃b off cap,v= .slice (some ⟨b,off,none⟩) m cap/\b<n/\∀j,j<m->W.cell? ⟨b,off+j,none⟩=some (.string ⟨(L.getD j []).toArray⟩)
theorem dQ.below{n:Nat}{A B:World}(h:Below n A B){v:Value}{m:Nat}{L:List (Bz)}:dQ n A v m L->dQ n B v m L:=
 λ⟨b,off,cap,e,hb,hc⟩=>⟨b,off,cap,e,hb,λj J=>(h.cell (p:=⟨b,off+j,none⟩) hb).trans (hc j J)⟩
theorem fL(w:World)(cs:Array Value)(t:TypeId)(j:Nat){v:Value}(h:cs[j]? =some v):(w.alloc (.cells cs t)).cell? ⟨w.heap.size,j,none⟩=some v:=by
 have:=World.alloc_heap_new w (.cells cs t);unfold World.cell?;simp only;rw[this];exact h
theorem vI{A:World}(o:Obj){p:Addr}{v:Value}(h:A.cell? p=some v):(A.alloc o).cell? p=some v:=cell_kept h (World.grownBy_alloc _ o none) (λr e=>dM)
theorem b0K{w:World}(cs:Array Value)(t:TypeId)(d O o:Obj)(j:Nat){v:Value}(h:cs[j]? =some v):
  ((((w.alloc (.cells cs t)).alloc d).alloc O).alloc o).cell? ⟨w.heap.size,j,none⟩=some v:=by
 exact vI _ (vI _ (vI _ (fL w cs t j h)))
set_option maxHeartbeats 4000000 in
theorem b9J(F:Fence)(n:Nat)(h3:F.fn 166)(h4:F.fn 232)(h5:F.fn 273)(hro:F.round=none)(hn:6<=n)(sec cache keep:Value)(armed:Bool)(at_:Nat)(m len:Nat)(L:List (Bz))(ps:Nat->Pend)(ca:Option Addr)(clen ccap:Nat)(w:World)
  (hcv:cache= .slice ca clen ccap) (hI:yZ w.heap.size w cache len ps) (hS:dQ w.heap.size w sec m L) (hreach:len<1000000000000) (hat:at_<m):
  CallsIn F n prog 166 #[.agg #[sec,cache,.bool armed,keep],.int .i64 at_] w λe W'=>
   ∃v,e= .returned v/\Below w.heap.size w W'/\((v= .string ⟨(L.getD at_ []).toArray⟩/\∀j,j<len->(ps j).at_≠at_)∨∃k,k<len/\v= .string ⟨(ps (len-1-k)).d.toArray⟩/\(ps (len-1-k)).at_=at_/\∀j,j<k->(ps (len-1-j)).at_≠at_):=by
 have h1:1<=n:=Z9
 subst hcv;refine callsIn_of_wp_marks func166 rfl h3 ?_ hro
 simp only[Tryz.ntmps166,List.size_toArray,List.length_cons,List.length_nil,Nat.reduceAdd,Nat.reduceSub,Array.replicate_succ,Array.replicate_zero,List.push_toArray,List.append_toArray,List.nil_append,List.cons_append]
 gi_wp2_with (gi_at_call 232;refine(c6w F (n-1) h4 hro _ _ _ _).mono ?_;rintro e w' ⟨rfl,rfl⟩)
 obtain⟨W0,hW0⟩:∃W0,(((w.alloc (.cells #[sec,.slice ca clen ccap,.bool armed,keep] 27)).alloc (.cells #[.int .i64 (at_:Int)] 3)).alloc (.cells #[.string ⟨#[]⟩] 9)).alloc (.cells #[.slice ca clen ccap] 24)=W0:=⟨_,rfl⟩;have bD:W0.cell? ⟨w.heap.size,0,none⟩=some sec:=by rw[←hW0];exact b0K _ _ _ _ _ 0 rfl
 have bA:Boxed W0 (w.heap.size+1) 3 (.int .i64 (at_:Int)):=by
  have:=((Boxed.new (w.alloc (.cells #[sec,.slice ca clen ccap,.bool armed,keep] 27)) 3 (.int .i64 (at_:Int))).alloc (.cells #[.string ⟨#[]⟩] 9)).alloc (.cells #[.slice ca clen ccap] 24);rw[←hW0]
  simpa only[World.size_alloc] using this
 have bR:Boxed W0 (w.heap.size+1+1) 9 (.string ⟨#[]⟩):=by
  have:=(Boxed.new ((w.alloc (.cells #[sec,.slice ca clen ccap,.bool armed,keep] 27)).alloc (.cells #[.int .i64 (at_:Int)] 3)) 9 (.string ⟨#[]⟩)).alloc (.cells #[.slice ca clen ccap] 24);rw[←hW0]
  simpa only[World.size_alloc] using this
 have bN:Boxed W0 (w.heap.size+1+1+1) 24 (.slice ca clen ccap):=by
  have:=Boxed.new (((w.alloc (.cells #[sec,.slice ca clen ccap,.bool armed,keep] 27)).alloc (.cells #[.int .i64 (at_:Int)] 3)).alloc (.cells #[.string ⟨#[]⟩] 9)) 24 (.slice ca clen ccap);rw[←hW0]
  simpa only[World.size_alloc] using this
 have hB0:Below w.heap.size w W0:=by
  rw[←hW0];exact((((Below.refl _ w).alloc (V8 _) _).alloc W8 _).alloc H4 _).alloc H4 _
 have hsz:W0.heap.size=w.heap.size+4:=by rw[←hW0];simp
 rw[hW0];have kpB_b:∀(W:World) (l:Nat) (o o':Obj),W0.heap.size<=l->W.heap[l]? =some o->o.isCells=false->o.isWalk=false->KpB w.heap.size (w.heap.size+1+1+1) W (W.putObj l o'):=λW l o o' hl ho hc hk=>
  ⟨belowK_b (w:=w) (V8 _) W l o o' Z9 ho hc hk,λv hv=>cell_kept hv (grownBy_putObj' _ l o') (λr e=>by cases e;exact⟨_,ho,hc⟩)⟩
 refine wpIn_rangeFunc_ownH hro h1 (gf:=273) (lb:= #[.pointer (some ⟨w.heap.size+1+1+1,0,none⟩)]) rfl h5 (enters_of func273 O0 rfl)
  (b43 F (n-1) h5 hro Z9 (w.heap.size+1+1+1) w.heap.size _ len ps hreach W0 Z9 Z9 bN.cell (hI.below hB0)) KpB.trans kpB_b (Below.refl _ _) (λ_=>rfl)
  (λpre W=>(((∀x ∈ pre,x.2.at_≠(at_:Int))/\Boxed W (w.heap.size+1+1) 9 (.string ⟨#[]⟩))/\(Boxed W (w.heap.size+1) 3 (.int .i64 (at_:Int))/\W.cell? ⟨w.heap.size,0,none⟩=some sec))/\Below w.heap.size w W)
  (λc pre W=>((c= .ret/\∃ini last,pre=ini++[last]/\(∀p ∈ ini,p.2.at_≠(at_:Int))/\last.2.at_=(at_:Int)/\W.cell? ⟨w.heap.size+1+1,0,none⟩=some (.string ⟨last.2.d.toArray⟩)))/\Below w.heap.size w W)
  (OwnFrom.and (OwnFrom.and (OwnFrom.and (ownFrom_pure _ _) (Own.from (boxed_own _ _ _) _)) (OwnFrom.and (Own.from (boxed_own _ _ _) _) (Own.from (λs A B row hs hg hr=>cell_kept hs hg hr) _))) (ownFrom_below (V8 _) Z9))
  (λc=>OwnFrom.and (Own.from (λs A B row hs hg hr=>by obtain⟨hc,ini,last,e1,e2,e3,e4⟩:=hs;exact⟨hc,ini,last,e1,e2,e3,cell_kept e4 hg hr⟩) _) (ownFrom_below (V8 _) Z9))
  ⟨⟨⟨W8,bR⟩,⟨bA,bD⟩⟩,hB0⟩
  (λx a' W=>∃Bx,w.heap.size+1+1<Bx/\(W.cell? ⟨Bx,0,none⟩=some (.int .i64 x.2.at_)/\W.cell? ⟨Bx,1,none⟩=some (.string ⟨x.2.d.toArray⟩))/\a'={tmps:= #[.agg #[sec,.slice ca clen ccap,.bool armed,keep],.int .i64 (at_:Int),.pointer (some ⟨w.heap.size,0,none⟩),.pointer (some ⟨w.heap.size+1,0,none⟩),.pointer (some ⟨w.heap.size+1+1,0,none⟩),undef,.pointer (some ⟨Bx,0,none⟩),.pointer (some ⟨w.heap.size,1,none⟩),.slice ca clen ccap,.func (.func 273) #[] #[.pointer (some ⟨w.heap.size+1+1+1,0,none⟩)],.int .i64 (x.1:Int),x.2.val,undef,undef,undef,undef,undef,undef,undef,undef,undef,undef,undef],defers:=[]})
  (λx a' _ X Y row hs hg hr=>by obtain⟨Bx,e1,⟨e2,e4⟩,e3⟩:=hs;exact⟨Bx,e1,⟨cell_kept e2 hg (λr e=>(hr r e).2),cell_kept e4 hg (λr e=>(hr r e).2)⟩,e3⟩)
  ?assign ?body ?done ?stop
 case assign=>
  rintro l pre x W K ⟨⟨⟨hp,bR1⟩,bA1,bD1⟩,hB1⟩ hK;dsimp only[bwE,Pend.val]
  gi_wp2
  exact hK _ _ ((KeepsOthers.alloc _ _).from _) ⟨(Below.refl _ W).alloc hB1.size _,λv hv=>vI _ hv⟩ ⟨⟨⟨hp,bR1.alloc _⟩,bA1.alloc _,vI _ bD1⟩,hB1.alloc hB1.size _⟩ ⟨W.heap.size,bR1.lt,⟨fL _ _ _ 0 rfl,fL _ _ _ 1 rfl⟩,rfl⟩
 case body=>
  rintro l pre x a' W hl ⟨r,hr⟩ ⟨⟨⟨hp,bR1⟩,bA1,bD1⟩,hB1⟩ ⟨Bx,hBx,⟨e2,e4⟩,rfl⟩ hlt;have cA:=bA1.cell;have cR:=bR1.cell;have fR:=bR1.frozen
  gi_wp2
  ·rename_i hx;have hx:x.2.at_=(at_:Int):=by simpa using hx
   exact⟨(KeepsOthers.setCell _ _ _).from _,⟨rfl,pre,x,rfl,hp,hx,(bR1.set _).cell⟩,hB1.setCell (p:=⟨w.heap.size+1+1,0,none⟩) H4 _⟩
  ·rename_i hx;have hx:x.2.at_≠(at_:Int):=by simpa using hx
   exact⟨KeepsFrom.refl _ _,KpB.refl _ _ _,⟨⟨⟨λp hp'=>(List.mem_append.1 hp').elim (hp p) (λe=>by simp at e;subst e;exact hx),bR1⟩,bA1,bD1⟩,hB1⟩⟩
 case done=>
  rintro D ys W hD rfl ⟨⟨⟨hp,bR1⟩,bA1,bD1⟩,hB1⟩ hK;have cA:=bA1.cell;have cR:=bR1.cell;have fR:=bR1.frozen;obtain⟨sb,so,sc,rfl,hsb,hsc⟩:=hS;have cS:W.cell? ⟨sb,so+at_,none⟩=some (.string ⟨(L.getD at_ []).toArray⟩):=(hB1.cell (p:=⟨sb,so+at_,none⟩) hsb).trans (hsc at_ hat);have hg:(L.getD at_ []:Bz)=L[at_]?.getD []:=R2
  rw[hg] at cS
  gi_wp2
  have hK':=(KeepsOthers.setCell W ⟨w.heap.size+1+1,0,none⟩ (.string ⟨(L[at_]?.getD []).toArray⟩)).same D _ hK rfl;refine⟨W8,.inl ⟨_,_,rfl,run_takeDeferred hK',?_⟩⟩
  have hc5:=cell_kept (bR1.set (.string ⟨(L[at_]?.getD []).toArray⟩)).cell (grownBy_putObj' _ D (.deferred none)) (λr e=>by cases e;exact⟨_,hK',rfl⟩)
  refine⟨.string ⟨(L[at_]?.getD []).toArray⟩,?_,_,rfl,(hB1.setCell (p:=⟨w.heap.size+1+1,0,none⟩) H4 _).trans (belowK_b (w:=w) (V8 _) _ D _ _ Z9 hK' rfl rfl),.inl ⟨rfl,λj hj=>?_⟩⟩
  ·simp[results,Tryz.f166,go_sem,hc5]
  ·have:=hp (bwF ps len (len-1-j)) (by simp only[vD,List.mem_map,List.mem_range];exact⟨len-1-j,Z9,rfl⟩)
   unfold bwF at this;rw[show len-1- (len-1-j)=j by omega] at this
   exact this
 case stop=>
  rintro D c pre W hD ⟨k,hk,rfl⟩ ⟨⟨rfl,ini,last,e1,e2,e3,hcr⟩,hB1⟩ hK
  gi_wp2
  refine⟨W8,.inl ⟨_,_,rfl,run_takeDeferred hK,?_⟩⟩
  have hc5:=cell_kept hcr (grownBy_putObj' _ D (.deferred none)) (λr e=>by cases e;exact⟨_,hK,rfl⟩)
  obtain⟨k',rfl⟩:∃k',k=k'+1:=by
   cases k with
   |zero=>simp[vD] at e1
   |succ k'=>exact⟨k',rfl⟩
  rw[pA] at e1;obtain⟨rfl,e5⟩:=List.append_inj' e1 rfl;obtain rfl:bwF ps len k'=last:=by simpa using e5
  refine⟨.string ⟨(bwF ps len k').2.d.toArray⟩,?_,_,rfl,hB1.trans (belowK_b (w:=w) (V8 _) W D _ _ Z9 hK rfl rfl),.inr ⟨k',Z9,rfl,e3,λj hj=>e2 (bwF ps len j) (by simp only[vD,List.mem_map,List.mem_range];exact⟨j,hj,rfl⟩)⟩⟩
  simp[results,Tryz.f166,go_sem,hc5]
structure Dsk where
 E:List (Bz)
 C:List Pend
 A:Bool
 keep:List Int
 deriving Inhabited
def Y6(L:List Pend)(i:Nat):List T:=(L.getD i dz).ts
def qC(L:List Pend):T:=.sl 2 L.length (Y6 L)
def Y8(L:List Int)(i:Nat):List T:=[Ji (L.getD i 0)]
def bY(L:List Int):T:=.sl 1 L.length (Y8 L)
def Dsk.ts(d:Dsk):List T:=[zA d.E,qC d.C,.bool d.A,bY d.keep]
abbrev xP(a b:Dsk):Prop:=Z2 Z5 a.E b.E/\Z2 Y6 a.C b.C/\a.A=b.A/\Z2 Y8 a.keep b.keep/\True
theorem eqD(d:Dsk):xP d d:=Y2
def I6(L:List Pend)(at_:Int):Nat->Option (Bz)
 |0=>none
 |n+1=>if(L.getD n dz).at_=at_ then some (L.getD n dz).d else I6 L at_ n
theorem kF{L:List Pend}{at_:Int}:∀{n:Nat},(∀j,j<n->(L.getD j dz).at_≠at_)->I6 L at_ n=none
 |0,_=>rfl
 |n+1,h=>by
  unfold I6;rw[if_neg (h n (Nat.lt_succ_self n))];exact kF λj J=>h j Z9
theorem jW{L:List Pend}{at_:Int}{i:Nat}(h:(L.getD i dz).at_=at_):∀{n:Nat},i<n->(∀j,i<j->j<n->(L.getD j dz).at_≠at_)->I6 L at_ n=some (L.getD i dz).d
 |0,hi,_=>absurd hi (J5 i)
 |n+1,hi,hj=>by
  unfold I6;by_cases e:i=n
  ·subst e;rw[if_pos h]
  ·rw[if_neg (hj n Z9 (Nat.lt_succ_self n))]
   exact jW h Z9 λj f g=>hj j f Z9
def U1(d:Dsk)(at_:Nat):Bz:=(I6 d.C at_ d.C.length).getD (d.E.getD at_ [])
def AtB(x:Dsk×Nat):Prop:=x.2<x.1.E.length/\x.1.C.length<1000000000000
def lH:Rl:=⟨Dsk×Nat,λx=>[.agg x.1.ts,Ji x.2],λx=>.str (U1 x.1 x.2),AtB⟩
def b9p:Con:=.rel lH
theorem aY{E:Env}{w:World}{sz n:Nat}{row:Nat->List T}{v:Value}(h:Rd E w (.sl sz n row) v):(∃a,v= .slice a 0 0/\n=0)∨(∃(b off cap:Nat) (u:Nat->Nat->Value),v= .slice (some ⟨b,off,none⟩) n cap/\E.N b/\
  (∀i j t,i<n->(row i)[j]? =some t->w.cell? ⟨b,off+i*sz+j,none⟩=some (u i j)/\Rd E w t (u i j))):=by
 cases h with
 |slNil=>exact .inl ⟨_,Y2⟩
 |slEmp=>exact .inl ⟨_,Y2⟩
 |sl _ _ _ b off cap u e C hl f r d=>exact .inr ⟨b,off,cap,u,rfl,e,λi j t hi J=>⟨r i j t hi J,d i j t hi J⟩⟩
theorem gX{E:Env}{w:World}{l:Bz}{v:Value}(h:Rd E w (.str l) v):v= .string ⟨l.toArray⟩:=by cases h;rfl
theorem eA{E:Env}{w:World}{k:IntKind}{n:Int}{v:Value}(h:Rd E w (.int k n) v):v= .int k n:=by cases h;rfl
theorem a3f{E:Env}{w:World}{b:Bool}{v:Value}(h:Rd E w (.bool b) v):v= .bool b:=by cases h;rfl
theorem a7H{E:Env}{w:World}{cs:List T}{v:Value}(h:Rd E w (.agg cs) v):∃vs,v= .agg vs/\tT E w cs vs:=by
 cases h with
 |agg _ vs hl t=>exact⟨vs,rfl,hl,t⟩
theorem b85{E:Env}{w:World}{L:List (Bz)}{v:Value}(hE:∀b,E.N b->b<w.heap.size)(h:Rd E w (zA L) v)(n:0<L.length):dQ w.heap.size w v L.length L:=by
 rcases aY h with⟨a,_,f⟩|⟨b,off,cap,u,rfl,hN,U⟩
 ·omega
 ·refine⟨b,off,cap,rfl,hE b hN,λj hj=>?_⟩
  obtain⟨d,e⟩:=U j 0 (.str (L.getD j [])) hj rfl;rw[gX e] at d
  simpa using d
theorem b6c{E:Env}{w:World}{L:List Pend}{v:Value}(hE:∀b,E.N b->b<w.heap.size)(h:Rd E w (qC L) v):yZ w.heap.size w v L.length (λi=>L.getD i dz)/\∃a l c,v= .slice a l c:=by
 rcases aY h with⟨a,rfl,g⟩|⟨b,off,cap,u,rfl,hN,U⟩
 ·exact⟨.inl ⟨a,0,rfl,g⟩,_,_,_,rfl⟩
 ·refine⟨.inr ⟨b,off,cap,rfl,hE b hN,λj hj=>⟨?_,?_⟩⟩,_,_,_,rfl⟩
  ·obtain⟨e,f⟩:=U j 0 (.int .i64 (L.getD j dz).at_) hj rfl;rw[eA f] at e;exact e
  ·obtain⟨e,f⟩:=U j 1 (.str (L.getD j dz).d) hj rfl;rw[gX f] at e;exact e
theorem a4G:GK 166 b9p:=gk func166<|by
 rintro⟨d,at_⟩ ⟨t,h⟩;simp only at t h;intro E w vs M x hv;obtain⟨z,hv⟩:=hv;obtain⟨q,V,rfl⟩:∃q V,vs= #[q,V]:=by
  have h2:vs.size=2:=z.symm;exact⟨vs[0],vs[1],by apply Array.ext<;>simp[h2];intro i hi _;match i,hi with|0,_=>rfl|1,_=>rfl⟩
 obtain⟨cs,rfl,u,r⟩:=a7H (hv 0 (.agg d.ts) q rfl rfl);obtain rfl:=eA (hv 1 (.int .i64 at_) V rfl rfl);obtain⟨f,C,c2,o,rfl⟩:∃f C c2 o,cs= #[f,C,c2,o]:=by
  have h2:cs.size=4:=u.symm;exact⟨cs[0],cs[1],cs[2],cs[3],by apply Array.ext<;>simp[h2];intro i hi _;match i,hi with|0,_=>rfl|1,_=>rfl|2,_=>rfl|3,_=>rfl⟩
 have I:=b85 x (r 0 (zA d.E) f rfl rfl) Z9
 obtain⟨F,a,l,c,g⟩:=b6c x (r 1 (qC d.C) C rfl rfl);obtain rfl:=a3f (r 2 (.bool d.A) c2 rfl rfl);refine(callsIn_wide (n:=6)).1 ((b9J Fence.wide 6 trivial trivial trivial rfl (V8 _) f C o d.A at_ d.E.length d.C.length d.E (λi=>d.C.getD i dz) a l c w g F I h t).mono λe W' A=>?_)
 obtain⟨v,rfl,B,R⟩:=A;refine⟨v,rfl,B,?_⟩
 have:v= .string ⟨(U1 d at_).toArray⟩:=by
  rcases R with⟨rfl,J⟩|⟨k,L,rfl,h1,h2⟩
  ·unfold U1;rw[kF J];rfl
  ·unfold U1;rw[jW (i:=d.C.length-1-k) h1 Z9 λj hj1 hj2=>?_]
   ·rfl
   ·have:=h2 (d.C.length-1-j) Z9
    rw[show d.C.length-1- (d.C.length-1-j)=j by omega] at this
    exact this
 rw[this];exact .str _
def O1(m:Nat)(p:Pend):Bool:= !V9 p.at_ 0 ((m:Int)-1)||decide ((p.d.length:Int)>160)
def yY(d:Dsk):Prop:=1<=d.E.length/\d.E.length<=100/\d.C.length<=500/\d.keep.length<=500/\(d.A=false->d.keep.length=0)/\(∀i,i<d.E.length->(d.E.getD i []).length<=160)/\
 ∀i,i<d.C.length->O1 d.E.length (d.C.getD i dz)=false
noncomputable instance(d:Dsk):Decidable (yY d):=Classical.propDecidable _
def zM(d:Dsk):Bool:=decide (yY d)
theorem kY(d:Dsk):zM d=true↔yY d:=decide_eq_true_iff
theorem a1z{d:Dsk}(h:¬yY d):false=zM d:=(uG h).symm
def c0f(d:Dsk):Prop:=M1 d.E.length/\M1 d.C.length/\M1 d.keep.length
def c2L(d:Dsk):T:=.fn (.func 162) [.bref d.ts]
def a0v:Rl:=⟨Dsk×Pend,λx=>[.agg x.2.ts,.bref x.1.ts],λx=>.bool (O1 x.1.E.length x.2),λx=>M1 x.1.E.length⟩
def b1y:Con:=.rel a0v
theorem a7S:GK 162 b1y:=gk func162<|by
 rintro⟨d,p⟩ (h:d.E.length<1000000000000);refine S1 (gC uB gN) func162 Y9 (α:=let q:=(d.E.length:Int);r6 q/\(!(decide (0<=p.at_)&&decide (p.at_<q))||decide ((p.d.length:Int)>160))=O1 d.E.length p) ⟨⟨Z9,Z9⟩,?_⟩
 unfold O1 V9;rw[show decide (p.at_<(d.E.length:Int))=decide (p.at_<=(d.E.length:Int)-1) from decide_eq_decide.2 Z9]
theorem T5{ρ:Nat->Option Nat}(cs:List T):K4 ρ (.bref cs) (.bref cs):=⟨1,_,rfl,RLe.refl _⟩
def aP:Rl:=⟨List Pend×Dsk,λx=>[qC x.1,c2L x.2],λx=>Ji (Q9 x.1.length λi=>O1 x.2.E.length (x.1.getD i dz)),λx=>M1 x.1.length/\M1 x.2.E.length⟩
def b3a:Con:=.rel aP
def b2i(L:List Pend)(d:Dsk):Nat->Ann
 |0=>.one (U8 L.length λi=>O1 d.E.length (L.getD i dz)) (λx=>⟨[(0,qC L),(1,c2L d),(7,Ji L.length),(8,Ji x.1)],[]⟩) (λx=>L.length-x.1) [] [] (λ_=>Y9)
 |_=>.none
theorem a7t:GK 229 b3a:=gk func229<|by
 rintro⟨L,d⟩ ⟨f,hd⟩;have f:L.length<1000000000000:=f;refine S1 (gC a7S gN) func229 (b2i L d) (α:=let r:=(L.length:Int);let p:=(T.bref [T.sl 1 d.E.length (Z5 d.E),T.sl 2 d.C.length (Y6 d.C),T.bool d.A,T.sl 1 d.keep.length (Y8 d.keep)]);(∃(x:U8 L.length λ(i:Nat)=>O1 d.E.length (L.getD i dz)),((Z2 Y6 L L)/\(Fn.func 162=Fn.func 162/\K4 (λ(x:Nat)=>none) p p/\True)/\r=r/\0=(x.1:Int)/\True)/\True)/\∀(x:U8 L.length λ(i:Nat)=>O1 d.E.length (L.getD i dz)),let q:=(x.1:Int);let z:=(L.getD q.toNat dz);bd (q<r) (V7 q L.length/\∃(X:a0v.ι),(((z.at_=X.2.at_/\z.d=X.2.d/\True)/\(xP d X.1)/\True)/\M1 X.1.E.length)/\br (O1 X.1.E.length X.2) (q=Q9 L.length λ(i:Nat)=>O1 d.E.length (L.getD i dz)) (Ri (q+1)/\∃(y:U8 L.length λ(i:Nat)=>O1 d.E.length (L.getD i dz)),(((Z2 Y6 L L)/\(Fn.func 162=Fn.func 162/\K4 (λ(x:Nat)=>none) p p/\True)/\r=r/\q+1=(y.1:Int)/\True)/\True)/\Lt (L.length-y.1) (L.length-x.1))) ((-1:Int)=Q9 L.length λ(i:Nat)=>O1 d.E.length (L.getD i dz))) ⟨⟨F4,⟨Y2,⟨rfl,T5 _,Z6⟩,Y2⟩,Z6⟩,λx=>⟨λC=>?_,λC=>?_⟩⟩
 ·have h:=Y1 C;refine⟨Y3 h,(d,L.getD x.1 dz),⟨Y2,hd⟩,λhp=>(N4 h hp x.2.2).symm,λhp=>⟨V5 h Z9,x.succ h hp,⟨⟨Y2,⟨rfl,T5 _,Z6⟩,rfl,J7,Z6⟩,Z6⟩,U8.ext_lt h⟩⟩
 ·have e:=X6 C;exact(K9 λj J=>x.2.2 j (yK J e)).symm
def bS:Rl:=⟨List Pend×Dsk,λx=>[qC x.1,c2L x.2],λx=>.bool (anyI x.1.length λi=>O1 x.2.E.length (x.1.getD i dz)),λx=>M1 x.1.length/\M1 x.2.E.length⟩
def b1p:Con:=.rel bS
theorem a51:GK 161 b1p:=gk func161<|by
 rintro⟨L,d⟩ h;exact S1 (gC a7t gN) func161 Y9 (α:=∃(x:aP.ι),(((Z2 Y6 L x.1)/\(Fn.func 162=Fn.func 162/\(xP d x.2)/\True)/\True)/\M1 x.1.length/\M1 x.2.E.length)/\decide ((Q9 x.1.length λ(i:Nat)=>O1 x.2.E.length (x.1.getD i dz))≥(0:Int))=anyI L.length λ(i:Nat)=>O1 d.E.length (L.getD i dz)) ⟨(L,d),⟨⟨Y2,⟨rfl,(eqD _),Z6⟩,Z6⟩,h⟩,F6 _ _⟩
def nF:Rl:=⟨Dsk,λd=>[.agg d.ts],λd=>.bool (zM d),c0f⟩
def b1q:Con:=.rel nF
def b18:Con:=.rel nF
def lC(d:Dsk):Option Ob:=some (.arr true 1000000 4 1 λ_=>d.ts)
def b0C(d:Dsk):Nat->Ann
 |0=>.one (U8 d.E.length λi=>L5 false (d.E.getD i [])) (λx=>⟨[(1,.ref 0 0 0),(3,Ji d.E.length),(4,Ji x.1)],[lC d]⟩) (λx=>d.E.length-x.1) [.box 0] [.box 0] (λ_=>fun
  |1=>.one (U8 d.C.length λi=>O1 d.E.length (d.C.getD i dz)) (λy=>⟨[(1,.ref 0 0 0),(3,Ji d.E.length),(5,Ji y.1)],[lC d]⟩) (λy=>d.C.length-y.1) [.box 0] [.box 0] (λ_=>Y9)
  |_=>.none)
 |_=>.none
def b2D:Con:=.rel lH
def a1s(d:Dsk)(at_:Nat):Type:={i:Nat//i<=d.C.length/\I6 d.C at_ d.C.length=I6 d.C at_ i}
def b0J(d:Dsk)(at_:Nat):Nat->Ann
 |0=>.one (a1s d at_) (λx=>⟨[(1,Ji at_),(2,.ref 0 0 0),(5,Ji ((x.1:Int)-1))],[lC d]⟩) (λx=>x.1) [.box 0] [.box 0] (λ_=>Y9)
 |_=>.none
theorem a7q:GK 92 b1q:=gk func92<|by
 rintro(d:Dsk) ⟨e,f,h3⟩;have e:d.E.length<1000000000000:=e;have f:d.C.length<1000000000000:=f;refine S1 (gC M0 (gC bC (gC a51 gN))) func92 Y9 (α:=br (!V9 (d.E.length:Int) (1:Int) (100:Int)||decide ((d.C.length:Int)>500)||decide ((d.keep.length:Int)>500)|| !d.A&&decide ((d.keep.length:Int)>0)) (false=zM d) (∃(x:eE.ι),(((Z2 Z5 d.E x.1)/\Value.func (Fn.func 160) #[] #[]=Value.func (Fn.func (match x.2 with|true=>236|false=>160)) #[] #[]/\True)/\M1 x.1.length)/\∃(X:bS.ι),((!anyI x.1.length λ(i:Nat)=>L5 x.2 (x.1.getD i []))=true->((Z2 Y6 d.C X.1)/\(Fn.func 162=Fn.func 162/\(xP d X.2)/\True)/\True)/\M1 X.1.length/\M1 X.2.E.length)/\((!anyI x.1.length λ(i:Nat)=>L5 x.2 (x.1.getD i []))&& !anyI X.1.length λ(i:Nat)=>O1 X.2.E.length (X.1.getD i dz))=zM d)) ⟨λh=>a1z ?_,λh=>⟨(d.E,false),⟨Y2,e⟩,(d.C,d),λ_=>⟨⟨Y2,⟨rfl,(eqD _),Z6⟩,Z6⟩,f,e⟩,?_⟩⟩
 ·rintro⟨p1,p2,p3,p4,p5,_⟩;simp[V9] at h;cases ha:d.A with
  |true=>simp[ha] at h;omega
  |false=>simp[ha] at h;have:=p5 ha;omega
 ·simp[V9] at h;rw[Bool.eq_iff_iff,kY];show((!anyI d.E.length λi=>L5 false (d.E.getD i []))&& !anyI d.C.length λi=>O1 d.E.length (d.C.getD i dz))=true↔yY d
  simp only[O4,xV,R8];constructor
  ·rintro⟨q,Q⟩;exact⟨Z9,Z9,Z9,Z9,λha=>by have:=h.2 ha;simp[this],λi hi=>fV.1 (q i hi),Q⟩
  ·rintro⟨_,_,_,_,_,q,Q⟩;exact⟨λi hi=>fV.2 (q i hi),Q⟩
theorem a8d:GK 131 b18:=gk func131<|by
 rintro(d:Dsk) ⟨f,e,h3⟩;have f:d.E.length<1000000000000:=f;have e:d.C.length<1000000000000:=e;refine S1 (gC D0 gN) func131 (b0C d) (α:=let k:=(d.C.length:Int);let j:=(d.keep.length:Int);let v:=(false=zM d);let u:=(0=0/\0=0);let z:=(oo (xP d d));let p:=(d.E.length:Int);br (!V9 p (1:Int) (100:Int)||decide (k>500)||decide (j>500)|| !d.A&&decide (j>0)) v ((∃(x:U8 d.E.length λ(i:Nat)=>L5 false (d.E.getD i [])),(u/\p=p/\0=(x.1:Int)/\True)/\z/\True)/\∀(x:U8 d.E.length λ(i:Nat)=>L5 false (d.E.getD i [])),let r:=(x.1:Int);bd (r<p) (V7 r d.E.length/\bd ((↑(d.E.getD r.toNat []).length:Int)>160) v (Ri (r+1)/\∃(y:U8 d.E.length λ(i:Nat)=>L5 false (d.E.getD i [])),((u/\p=p/\r+1=(y.1:Int)/\True)/\z/\True)/\Lt (d.E.length-y.1) (d.E.length-x.1))) ((∃(x:U8 d.C.length λ(i:Nat)=>O1 d.E.length (d.C.getD i dz)),(u/\p=p/\0=(x.1:Int)/\True)/\z/\True)/\∀(x:U8 d.C.length λ(i:Nat)=>O1 d.E.length (d.C.getD i dz)),let q:=(x.1:Int);let w:=(d.C.getD q.toNat dz);bd (q<k) (V7 q d.C.length/\Ri (p-1)/\br (!V9 w.at_ (0:Int) (p-1)||decide ((↑w.d.length:Int)>160)) v (Ri (q+1)/\∃(y:U8 d.C.length λ(i:Nat)=>O1 d.E.length (d.C.getD i dz)),((u/\p=p/\q+1=(y.1:Int)/\True)/\z/\True)/\Lt (d.C.length-y.1) (d.C.length-x.1))) (true=zM d)))) ⟨λh=>a1z ?_,λh=>⟨⟨F4,Y2⟩,λx=>⟨λhc=>?_,λhc=>⟨⟨F4,Y2⟩,λy=>⟨λhd=>?_,λhd=>?_⟩⟩⟩⟩⟩
 ·rintro⟨p1,p2,p3,p4,p5,_⟩;simp[V9] at h;cases ha:d.A with
  |true=>simp[ha] at h;omega
  |false=>simp[ha] at h;have:=p5 ha;omega
 ·have hlt:=Y1 hc;refine⟨Y3 hlt,λhb=>a1z ?_,λhb=>⟨V5 hlt Z9,x.succ hlt hb,Y2,U8.ext_lt hlt⟩⟩
  rintro⟨_,_,_,_,_,q,_⟩;have:=q x.1 hlt;rw[G2,r8] at hb;omega
 ·have hlt:=Y1 hd;refine⟨Y3 hlt,Z3 Z9,λhb=>a1z ?_,λhb=>⟨V5 hlt Z9,y.succ hlt hb,⟨⟨Y2,rfl,J7,Z6⟩,Y2⟩,U8.ext_lt hlt⟩⟩
  rintro⟨_,_,_,_,_,_,Q⟩;have:=Q y.1 hlt;rw[G2] at hb;unfold O1 at this;rw[hb] at this;cases this
 ·simp[V9] at h;have g:=X6 hc;have j:=X6 hd;refine((kY d).2 ⟨Z9,Z9,Z9,Z9,λha=>by have:=h.2 ha;simp[this],λi hi=>fV.1 (x.2.2 i (yK hi g)),λi hi=>y.2.2 i (yK hi j)⟩).symm
theorem eH:GK 209 b2D:=gk func209<|by
 rintro⟨d,at_⟩ ⟨t,h⟩;simp only at t h;refine S1 gN func209 (b0J d at_) (α:=let z:=(d.C.length:Int);let q:=(at_:Int);Ri (z-1)/\(∃(x:a1s d at_),(q=q/\(0=0/\0=0)/\z-1=(x.1:Int)-1/\True)/\(oo (xP d d))/\True)/\∀(x:a1s d at_),let p:=(x.1:Int);let r:=(d.C.getD (p-1).toNat dz);bd (p-1≥(0:Int)) (V7 (p-1) d.C.length/\br (r.at_==q) (V7 (p-1) d.C.length/\r.d=U1 d at_) (Ri (p-1-1)/\∃(y:a1s d at_),((q=q/\(0=0/\0=0)/\p-1-1=(y.1:Int)-1/\True)/\(oo (xP d d))/\True)/\Lt y.1 x.1)) (V7 q d.E.length/\d.E.getD q.toNat []=U1 d at_)) ⟨Z3 Z9,⟨⟨d.C.length,Y2⟩,Y2⟩,λx=>?_⟩
 obtain⟨i,hi,hx⟩:=x;simp only;refine⟨λhc=>?_,λhc=>⟨⟨Z9,Z9⟩,?_⟩⟩
 ·have hpos:1<=i:=by have:=E4 hc;omega
  obtain⟨j,rfl⟩:∃j,i=j+1:=⟨i-1,Z9⟩
  rw[show(((j+1:Nat):Int)-1).toNat=j by omega]
  have hl:I6 d.C at_ (j+1)=if(d.C.getD j dz).at_=at_ then some (d.C.getD j dz).d else I6 d.C at_ j:=rfl
  refine⟨⟨Z9,Z9⟩,λhb=>⟨⟨Z9,Z9⟩,?_⟩,λhb=>⟨Z3 Z9,⟨j,Z9,?_⟩,⟨⟨z7,⟨z7,z7⟩,F3,Z6⟩,⟨z7,z7,⟨z7,W2 _ _⟩,⟨z7,W2 _ _⟩,z7,⟨z7,W2 _ _⟩,Z6⟩,Z6⟩,mL⟩⟩
  ·rw[if_pos kA] at hl
   unfold U1;rw[hx,hl];rfl
  ·rw[if_neg kA] at hl
   rw[hx,hl]
 ·have h0:i=0:=by have:=s6 hc;omega
  subst h0;unfold U1;rw[hx];rfl
structure Frm where
 no:Int
 pg:Pg
 D:Bool
 first:Int
 deriving Inhabited
def Frm.ts(f:Frm):List T:=[Ji f.no,Ji f.pg.Q,zA f.pg.sl,.bool f.D,Ji f.first]
structure Sto where
 d:Dsk
 ep:Int
 L:List Rec
 S:Int
 fr:List Frm
 J:Int
 deriving Inhabited
def V2(L:List Frm)(i:Nat):List T:=(L.getD i dz).ts
def a5V(L:List Frm):T:=.sl 5 L.length (V2 L)
def Sto.ts(s:Sto):List T:=[zA s.d.E,qC s.d.C,.bool s.d.A,bY s.d.keep,Ji s.ep,pG s.L,Ji s.S,a5V s.fr,Ji s.J]
abbrev o6(a b:Sto):Prop:=(a.d.E.length=b.d.E.length/\Z7 a.d.E.length (Z5 a.d.E) (Z5 b.d.E))/\(a.d.C.length=b.d.C.length/\Z7 a.d.C.length (Y6 a.d.C) (Y6 b.d.C))/\a.d.A=b.d.A/\(a.d.keep.length=b.d.keep.length/\Z7 a.d.keep.length (Y8 a.d.keep) (Y8 b.d.keep))/\a.ep=b.ep/\(a.L.length=b.L.length/\Z7 a.L.length (Y0 a.L) (Y0 b.L))/\a.S=b.S/\(a.fr.length=b.fr.length/\Z7 a.fr.length (V2 a.fr) (V2 b.fr))/\a.J=b.J/\True
theorem jO(s:Sto):o6 s s:=Y2
def uN(s:Sto):Option Ob:=some (.arr true 1000000 9 1 λ_=>s.ts)
def U2(d:Dsk)(no:Nat):Pg×Bool:=if U1 d (1+no)=[] then(⟨0,[[],[],[],[]]⟩,true) else F5 no (U1 d (1+no))
def S9(d:Dsk)(no:Nat):Pg×Bool:=if U1 d (1+no)=[] then(⟨0,[[],[],[],[]]⟩,true) else(O5 no (U1 d (1+no)),(F5 no (U1 d (1+no))).2)
theorem fO(d:Dsk)(no:Nat):(S9 d no).2=(U2 d no).2/\((U2 d no).2=true->S9 d no=U2 d no):=by
 unfold S9 U2;by_cases h:U1 d (1+no)=[]
 ·rw[if_pos h,if_pos h];exact⟨rfl,λ_=>rfl⟩
 ·rw[if_neg h,if_neg h];refine⟨rfl,λh2=>?_⟩
  unfold O5;rw[if_pos h2]
def a0K(x:Dsk×Nat):Prop:=yY x.1/\1+x.2<x.1.E.length
theorem iU{d:Dsk}(h:yY d){at_:Nat}(A:at_<d.E.length):(U1 d at_).length<=160:=by
 obtain⟨_,_,_,_,_,e,h2⟩:=h;have key:∀n,n<=d.C.length->∀l,I6 d.C at_ n=some l->l.length<=160:=by
  intro n;induction n with
  |zero=>intro _ l hl;cases hl
  |succ n i=>
   intro N l hl;unfold I6 at hl;split at hl
   ·simp only[X2] at hl;subst hl;have:=h2 n Z9
    unfold O1 at this;simp only[zV,qN] at this;omega
   ·exact i Z9 l hl
 unfold U1;cases hl:I6 d.C at_ d.C.length with
 |none=>exact e at_ A
 |some l=>exact key _ (V8 _) l hl
def dK:Rl:=⟨Sto×Nat,λx=>[.bref x.1.ts,Ji x.2],λx=>.tup [.agg (S9 x.1.d x.2).1.ts,.bool (S9 x.1.d x.2).2],λx=>a0K (x.1.d,x.2)⟩
def a6g:Con:=.rel dK
def a0s:Rl:=⟨Dsk×Nat,λx=>[.agg x.1.ts,Ji x.2],λx=>.tup [.agg (U2 x.1 x.2).1.ts,.bool (U2 x.1 x.2).2],a0K⟩
def b2a:Con:=.rel a0s
theorem a0b(d:Dsk)(no:Nat)(h:
let p:=(U2 d no);  Ri (1+(no:Int))/\∃(x:lH.ι),(((xP d x.1)/\1+(no:Int)=(x.2:Int)/\True)/\AtB x)/\br (U1 x.1 x.2==[]) (∃(x:rT.ι),(True/\True)/\(0=p.1.Q/\(4=p.1.sl.length/\Z7 4 (Z5 [[],[],[],[]]) (Z5 p.1.sl))/\True)/\true=p.2/\True) (∃(X:bL.ι),let q:=(F5 X.1 X.2);(((no:Int)=X.1/\U1 x.1 x.2=X.2/\True)/\RdB X.2)/\(q.1.Q=p.1.Q/\(Z2 Z5 q.1.sl p.1.sl)/\True)/\q.2=p.2/\True)):
  V4 prog 135 [.agg d.ts,Ji no] (.tup [.agg (U2 d no).1.ts,.bool (U2 d no).2]):=
 S1 (gC eH (gC a3x (gC a7R gN))) func135 Y9 h
def lT(L:List Frm)(no:Int)(i:Nat):Bool:=(L.getD i dz).no==no
def frAt(L:List Frm)(no:Int):Int:=Q9 L.length (lT L no)
def noF(no:Int):T:=.fn (.func 190) [.bref [Ji no]]
def hV:Rl:=⟨Frm×Int,λx=>[.agg x.1.ts,.bref [Ji x.2]],λx=>.bool (x.1.no==x.2),λ_=>True⟩
def a59:Con:=.rel hV
theorem a5Q(f:Frm)(no:Int)(h:
  (f.no==no)=(f.no==no)):
  V4 prog 190 [.agg f.ts,.bref [Ji no]] (.bool (f.no==no)):=
 S1 gN func190 Y9 h
theorem a3k:GK 190 a59:=gk func190<|λx _=>a5Q x.1 x.2 rfl
def a41:Rl:=⟨List Frm×Int,λx=>[a5V x.1,noF x.2],λx=>Ji (frAt x.1 x.2),λx=>M1 x.1.length⟩
def b4x:Con:=.rel a41
def b6x(L:List Frm)(no:Int):Nat->Ann
 |0=>.one (U8 L.length (lT L no)) (λx=>⟨[(0,a5V L),(1,noF no),(7,Ji L.length),(8,Ji x.1)],[]⟩) (λx=>L.length-x.1) [] [] (λ_=>Y9)
 |_=>.none
theorem b22:GK 189 b4x:=gk func189<|by
 rintro⟨L,no⟩ (hL:L.length<1000000000000);refine S1 (gC a3k gN) func189 (b6x L no) (α:=let r:=(L.length:Int);let q:=(T.bref [Ji no]);(∃(x:U8 L.length (lT L no)),((Z2 V2 L L)/\(Fn.func 190=Fn.func 190/\K4 (λ(x:Nat)=>none) q q/\True)/\r=r/\0=(x.1:Int)/\True)/\True)/\∀(x:U8 L.length (lT L no)),let z:=(x.1:Int);let p:=(L.getD z.toNat dz);bd (z<r) (V7 z L.length/\∃(X:hV.ι),(((p.no=X.1.no/\p.pg.Q=X.1.pg.Q/\(Z2 Z5 p.pg.sl X.1.pg.sl)/\p.D=X.1.D/\p.first=X.1.first/\True)/\(no=X.2/\True)/\True)/\True)/\br (X.1.no==X.2) (z=frAt L no) (Ri (z+1)/\∃(y:U8 L.length (lT L no)),(((Z2 V2 L L)/\(Fn.func 190=Fn.func 190/\K4 (λ(x:Nat)=>none) q q/\True)/\r=r/\z+1=(y.1:Int)/\True)/\True)/\Lt (L.length-y.1) (L.length-x.1))) ((-1:Int)=frAt L no)) ⟨⟨F4,⟨Y2,⟨rfl,T5 _,Z6⟩,Y2⟩,Z6⟩,λx=>⟨λC=>?_,λC=>?_⟩⟩
 ·have h:=Y1 C;refine⟨Y3 h,(L.getD x.1 dz,no),Y2,λhp=>(N4 h hp x.2.2).symm,λhp=>⟨V5 h Z9,x.succ h hp,⟨⟨Y2,⟨rfl,T5 _,Z6⟩,rfl,J7,Z6⟩,Z6⟩,U8.ext_lt h⟩⟩
 ·have e:=X6 C;exact(K9 λj J=>x.2.2 j (yK J e)).symm
def rI:Rl:=⟨Sto×Int,λx=>[.bref x.1.ts,Ji x.2],λx=>Ji (frAt x.1.fr x.2),λx=>M1 x.1.fr.length⟩
def b3z:Con:=.rel rI
def pT:Rl:=⟨Sto×Int,λx=>[.agg x.1.ts,Ji x.2],λx=>Ji (frAt x.1.fr x.2),λx=>M1 x.1.fr.length⟩
def a5A:Con:=.rel pT
def a5U(s:Sto)(no:Int):Nat->Ann
 |0=>.one (U8 s.fr.length (lT s.fr no)) (λx=>⟨[(1,Ji no),(2,.ref 0 0 0),(5,Ji x.1)],[uN s]⟩) (λx=>s.fr.length-x.1) [.box 0] [.box 0] (λ_=>Y9)
 |_=>.none
theorem pO:GK 117 b3z:=gk func117<|by
 rintro⟨s,no⟩ h;exact S1 (gC b22 gN) func117 Y9 (α:=∃(x:a41.ι),(((Z2 V2 s.fr x.1)/\(Fn.func 190=Fn.func 190/\(no=x.2/\True)/\True)/\True)/\M1 x.1.length)/\frAt x.1 x.2=frAt s.fr no) ⟨(s.fr,no),⟨Y2,h⟩,rfl⟩
theorem kQ:GK 134 a5A:=gk func134<|by
 rintro⟨s,no⟩ (hL:s.fr.length<1000000000000);refine S1 gN func134 (a5U s no) (α:=(∃(x:U8 s.fr.length (lT s.fr no)),(no=no/\(0=0/\0=0)/\0=(x.1:Int)/\True)/\(oo (o6 s s))/\True)/\∀(x:U8 s.fr.length (lT s.fr no)),let p:=(x.1:Int);bd (p<(s.fr.length:Int)) (V7 p s.fr.length/\br ((s.fr.getD p.toNat dz).no==no) (p=frAt s.fr no) (Ri (p+1)/\∃(y:U8 s.fr.length (lT s.fr no)),((no=no/\(0=0/\0=0)/\p+1=(y.1:Int)/\True)/\(oo (o6 s s))/\True)/\Lt (s.fr.length-y.1) (s.fr.length-x.1))) ((-1:Int)=frAt s.fr no)) ⟨⟨F4,Y2⟩,λx=>⟨λC=>?_,λC=>?_⟩⟩
 ·have h:=Y1 C;exact⟨Y3 h,λhp=>(N4 h hp x.2.2).symm,λhp=>⟨V5 h Z9,x.succ h hp,⟨⟨rfl,Y2,J7,Z6⟩,Y2⟩,U8.ext_lt h⟩⟩
 ·have e:=X6 C;exact(K9 λj J=>x.2.2 j (yK J e)).symm
theorem a0j(no:Int)(t:Bz):(J2 no t==(0:Int))=(F5 no t).2:=by
 unfold J2;cases hu:R3 t
 ·have:(F5 no t).2=false:=by unfold F5;rw[hu];rfl
  rw[this];rfl
 ·cases h:(F5 no t).2<;>rfl
theorem a3Q:GK 94 a6g:=gk func94<|by
 rintro⟨s,no⟩ ⟨hd,n⟩;simp only at hd n;have f:=iU hd n;obtain⟨q,g,Q,_⟩:=hd;refine S1 (gC a4G (gC a3L (gC a3w gN))) func94 Y9 (α:=let p:=(S9 s.d no);Ri (1+(no:Int))/\∃(x:lH.ι),(((xP s.d x.1)/\1+(no:Int)=(x.2:Int)/\True)/\AtB x)/\br (U1 x.1 x.2==[]) (∃(x:rT.ι),(True/\True)/\(0=p.1.Q/\(4=p.1.sl.length/\Z7 4 (Z5 [[],[],[],[]]) (Z5 p.1.sl))/\True)/\true=p.2/\True) (Lt (U1 x.1 x.2).length 140737488355329/\∃(X:gI.ι),(((no:Int)=X.1/\U1 x.1 x.2=X.2/\True)/\RdB X.2)/\((O5 X.1 X.2).Q=p.1.Q/\(Z2 Z5 (O5 X.1 X.2).sl p.1.sl)/\True)/\(J2 X.1 X.2==0)=p.2/\True)) ⟨Z3 Z9,(s.d,1+no),⟨⟨(eqD _),F3,Z6⟩,n,F3⟩,λh=>⟨(),Y2,?_⟩,λh=>⟨mL,((no:Int),U1 s.d (1+no)),⟨Y2,by show(U1 s.d (1+no)).length<=1000;omega⟩,?_⟩⟩
 ·have h:U1 s.d (1+no)=[]:=by simpa using h
  have e:S9 s.d no=(⟨0,[[],[],[],[]]⟩,true):=by unfold S9;rw[if_pos h]
  rw[e];exact Y2
 ·have h:U1 s.d (1+no)≠[]:=by simpa using h
  have e:S9 s.d no=(O5 no (U1 s.d (1+no)),(F5 no (U1 s.d (1+no))).2):=by unfold S9;rw[if_neg h]
  rw[e];exact⟨Y2,a0j _ _,Z6⟩
theorem a6y:GK 135 b2a:=gk func135<|by
 rintro⟨d,no⟩ ⟨hd,n⟩;simp only at hd n;have f:=iU hd n;obtain⟨q,g,Q,_⟩:=hd;refine a0b d no ⟨Z3 Z9,(d,1+no),⟨⟨(eqD _),F3,Z6⟩,n,F3⟩,λh=>⟨(),Y2,?_⟩,λh=>⟨((no:Int),U1 d (1+no)),⟨Y2,by show(U1 d (1+no)).length<=1000;omega⟩,?_⟩⟩
 ·have h:U1 d (1+no)=[]:=by simpa using h
  have e:U2 d no=(⟨0,[[],[],[],[]]⟩,true):=by unfold U2;rw[if_pos h]
  rw[e];exact Y2
 ·have h:U1 d (1+no)≠[]:=by simpa using h
  have e:U2 d no=F5 no (U1 d (1+no)):=by unfold U2;rw[if_neg h]
  rw[e];exact Y2
def zR(s:Sto)(i:Nat):Bool:=
 !V9 (s.fr.getD i dz).no 0 7||frAt s.fr (s.fr.getD i dz).no !=(i:Int)|| !o4 (s.fr.getD i dz).pg||decide ((s.fr.getD i dz).pg.Q>(s.L.length:Int))|| !V9 (s.fr.getD i dz).first 0 s.L.length||
  decide ((s.fr.getD i dz).first>0) !=(s.fr.getD i dz).D
def zU(s:Sto):Bool:= !anyI s.fr.length (zR s)&&decide ((s.fr.length:Int)<=3)
def FrB(L:List Frm):Prop:=M1 L.length/\∀i,i<L.length->PgB (L.getD i dz).pg
def c7t(s:Sto):Prop:=FrB s.fr/\M1 s.L.length
def eF:Rl:=⟨Sto,λs=>[.bref s.ts],λs=>.bool (zU s),c7t⟩
def a7b:Con:=.rel eF
def a7c(s:Sto):Nat->Ann
 |0=>.one (U8 s.fr.length (zR s)) (λx=>⟨[(0,.bref s.ts),(8,a5V s.fr),(9,Ji s.fr.length),(10,Ji x.1)],[]⟩) (λx=>s.fr.length-x.1) [] [] (λ_=>Y9)
 |_=>.none
theorem c4X(n:Int):(decide (0<=n)&&decide (n<8))=V9 n 0 7:=by
 unfold V9;rw[show decide (n<8)=decide (n<=7) from decide_eq_decide.2 Z9]
theorem a4l:GK 95 a7b:=gk func95<|by
 rintro(s:Sto) ⟨⟨f,h2⟩,g⟩;have f:s.fr.length<1000000000000:=f;have g:s.L.length<1000000000000:=g;refine S1 (gC uB (gC pO (gC pR (gC M0 gN)))) func95 (a7c s) (α:=let w:=(s.L.length:Int);let v:=(Z2 V2 s.fr s.fr);let u:=(T.bref s.ts);let q:=(s.fr.length:Int);(∃(x:U8 s.fr.length (zR s)),(K4 (λ(x:Nat)=>none) u u/\v/\q=q/\0=(x.1:Int)/\True)/\True)/\∀(x:U8 s.fr.length (zR s)),let z:=(x.1:Int);let p:=(s.fr.getD z.toNat dz);let r:=(decide (0<=p.no)&&decide (p.no<8));bd (z<q) (V7 z s.fr.length/\r6 (8:Int)/\∃(X:rI.ι),((! r)=false->((o6 s X.1)/\p.no=X.2/\True)/\M1 X.1.fr.length)/\∃(d:xY.ι),((! r||frAt X.1.fr X.2 !=z)=false->((p.pg.Q=d.Q/\(Z2 Z5 p.pg.sl d.sl)/\True)/\True)/\PgB d)/\br (! r||frAt X.1.fr X.2 !=z|| !o4 d||decide (p.pg.Q>w)|| !V9 p.first (0:Int) w|| !decide (p.first>0)==p.D) (false=zU s) (Ri (z+1)/\∃(y:U8 s.fr.length (zR s)),((K4 (λ(x:Nat)=>none) u u/\v/\q=q/\z+1=(y.1:Int)/\True)/\True)/\Lt (s.fr.length-y.1) (s.fr.length-x.1))) (decide (q<=3)=zU s)) ⟨⟨F4,⟨T5 _,Y2⟩,Z6⟩,λx=>⟨λhc=>?_,λhc=>?_⟩⟩
 ·have h:=Y1 hc;rw[c4X,G2];have e:(!V9 (s.fr.getD x.1 dz).no 0 7||frAt s.fr (s.fr.getD x.1 dz).no !=(x.1:Int)|| !o4 (s.fr.getD x.1 dz).pg||decide ((s.fr.getD x.1 dz).pg.Q>(s.L.length:Int))||
    !V9 (s.fr.getD x.1 dz).first 0 s.L.length|| !decide ((s.fr.getD x.1 dz).first>0)==(s.fr.getD x.1 dz).D)=zR s x.1:=rfl
  refine⟨Y3 h,⟨Z9,Z9⟩,(s,(s.fr.getD x.1 dz).no),λ_=>⟨⟨(jO _),Y2⟩,f⟩,(s.fr.getD x.1 dz).pg,λ_=>⟨Y2,h2 _ h⟩,λB=>?_,λB=>⟨V5 h Z9,x.succ h (e.symm.trans B),⟨⟨T5 _,Y2,rfl,J7,Z6⟩,Z6⟩,U8.ext_lt h⟩⟩
  have:anyI s.fr.length (zR s)=true:=U3.2 ⟨x.1,h,e.symm.trans B⟩;unfold zU;rw[this];rfl
 ·have hge:=X6 hc;have:anyI s.fr.length (zR s)=false:=R8.2 λi hi=>x.2.2 i (yK hi hge)
  unfold zU;rw[this];simp
def zL(L:List Rec)(i:Nat):Int:=if i=0 then 1 else(L.getD (i-1) dz).e
def vU(s:Sto)(i:Nat):Bool:= !V9 (s.L.getD i dz).e (zL s.L i) s.ep
def c9(s:Sto)(no:Nat):Bool:= !(U2 s.d no).2||decide ((U2 s.d no).1.Q>s.S)
def oQ(s:Sto):Bool:= !zM s.d||((s.d.E.length:Nat):Int) !=69|| !V9 s.ep 1 60||decide ((s.L.length:Int)>60)
def G6(s:Sto):Bool:= !(oQ s|| !g7 s.L|| !V9 s.S 0 s.L.length)&& !anyI s.L.length (vU s)&& !anyI 8 (c9 s)&&zU s&&V9 s.J 0 2
def b5G(s:Sto):Prop:=c0f s.d/\c0u s.L/\FrB s.fr/\∀r ∈ s.L,M1 r.a.length
def qW:Rl:=⟨Sto,λs=>[.agg s.ts],λs=>.bool (G6 s),b5G⟩
def a7h:Con:=.rel qW
def a5B:Con:=.rel qW
def a5F(s:Sto):Nat->Ann
 |0=>.onef [1,3,48,49,50] (U8 s.L.length (vU s)) (λx=>⟨[(1,.bref s.ts),(3,Ji (zL s.L x.1)),(48,pG s.L),(49,Ji s.L.length),(50,Ji x.1)],[]⟩) (λx=>s.L.length-x.1) [] (λ_=>fun
  |1=>.one (U8 8 (c9 s)) (λx=>⟨[(1,.bref s.ts),(64,Ji x.1)],[]⟩) (λx=>8-x.1) [] [] (λ_=>Y9)
  |_=>.none)
 |_=>.none
def tY(s:Sto)(i:Nat):Bool:= !L9 (s.L.getD i dz)||(s.L.getD i dz).l !=(i:Int)+1||decide ((s.L.getD i dz).e>s.ep)||(decide ((i:Int)>0)&&decide ((s.L.getD (i-1) dz).e>(s.L.getD i dz).e))
def xC(s:Sto)(i:Nat):Bool:=
 !V9 (s.fr.getD i dz).no 0 7|| !o4 (s.fr.getD i dz).pg||decide ((s.fr.getD i dz).pg.Q>(s.L.length:Int))|| !V9 (s.fr.getD i dz).first 0 s.L.length||
  (s.fr.getD i dz).D !=decide ((s.fr.getD i dz).first>0)||frAt s.fr (s.fr.getD i dz).no !=(i:Int)
def a5T(s:Sto):Nat->Ann
 |0=>.one (U8 s.L.length (tY s)) (λx=>⟨[(1,.ref 0 0 0),(3,Ji x.1)],[uN s]⟩) (λx=>s.L.length-x.1) [.box 0] [.box 0] (λ_=>fun
  |1=>.one (U8 s.fr.length (xC s)) (λx=>⟨[(1,.ref 0 0 0),(5,Ji x.1)],[uN s]⟩) (λx=>s.fr.length-x.1) [.box 0] [.box 0] (λ_=>fun
   |2=>.one (U8 8 (c9 s)) (λx=>⟨[(1,.ref 0 0 0),(7,Ji x.1)],[uN s]⟩) (λx=>8-x.1) [.box 0] [.box 0] (λ_=>Y9)
   |_=>.none)
  |_=>.none)
 |_=>.none
theorem J8(s:Sto):G6 s=true↔(oQ s=false/\g7 s.L=true/\V9 s.S 0 s.L.length=true)/\(∀i,i<s.L.length->vU s i=false)/\(∀i,i<8->c9 s i=false)/\zU s=true/\V9 s.J 0 2=true:=by
 unfold G6;simp only[O4,xV,zV,zF,R8];exact⟨λh=>⟨⟨h.1.1.1.1.1.1,h.1.1.1.1.1.2,h.1.1.1.1.2⟩,h.1.1.1.2,h.1.1.2,h.1.2,h.2⟩,λh=>⟨⟨⟨⟨⟨⟨h.1.1,h.1.2.1⟩,h.1.2.2⟩,h.2.1⟩,h.2.2.1⟩,h.2.2.2.1⟩,h.2.2.2.2⟩⟩
theorem oM{s:Sto}(h:¬G6 s=true):false=G6 s:=(Bool.eq_false_iff.2 h).symm
theorem y6(s:Sto):oQ s=false↔yY s.d/\s.d.E.length=69/\1<=s.ep/\s.ep<=60/\s.L.length<=60:=by
 unfold oQ;simp only[zV,zF,kY,bne_eq_false_iff_eq,V9,O4,r8,qN];constructor
 ·rintro⟨⟨⟨h,i⟩,e,f⟩,g⟩;exact⟨h,Z9,e,f,Z9⟩
 ·rintro⟨h,i,e,f,g⟩;exact⟨⟨⟨h,Z9⟩,e,f⟩,Z9⟩
theorem b0a(s:Sto)(no:Nat):(!(S9 s.d no).2||decide ((S9 s.d no).1.Q>s.S))=c9 s no:=by
 unfold c9;obtain⟨e,f⟩:=fO s.d no;cases h:(U2 s.d no).2
 ·rw[e,h];rfl
 ·rw[f h,h]
theorem c25(n:Int):(decide (0<=n)&&decide (n<3))=V9 n 0 2:=by
 unfold V9;rw[show decide (n<3)=decide (n<=2) from decide_eq_decide.2 Z9]
theorem b1T(L:List Rec)(i:Nat):zL L (i+1)=(L.getD i dz).e:=by unfold zL;rw[if_neg Z9];rfl
theorem a27:GK 45 a7h:=gk func45<|by
 rintro(s:Sto) ⟨hd,hl,hf,hm⟩;have j:(!zM s.d||(s.d.E.length:Int) !=69|| !V9 s.ep 1 60||decide ((s.L.length:Int)>60)|| !g7 s.L|| !V9 s.S 0 s.L.length)=(oQ s|| !g7 s.L|| !V9 s.S 0 s.L.length):=rfl;refine S1 (gC a7q (gC M0 (gC cB (gC a3Q (gC a4l (gC uB gN)))))) func45 (a5F s) (α:=let w:=(s.d.E.length:Int);let v:=(false=G6 s);let q:=(T.bref s.ts);let p:=(s.L.length:Int);∃(x:nF.ι),(((xP s.d x)/\True)/\c0f x)/\∃(f:mP.ι),((!zM x||w !=69|| !V9 s.ep (1:Int) (60:Int)||decide (p>60))=false->((Z2 Y0 s.L f)/\True)/\c0u f)/\br (!zM x||w !=69|| !V9 s.ep (1:Int) (60:Int)||decide (p>60)|| !g7 f|| !V9 s.S (0:Int) p) v ((∃(x:U8 s.L.length (vU s)),(K4 (λ(x:Nat)=>none) q q/\1=zL s.L x.1/\(Z2 Y0 s.L s.L)/\p=p/\0=(x.1:Int)/\True)/\True)/\∀(x:U8 s.L.length (vU s)),let r:=(x.1:Int);let u:=(s.L.getD r.toNat dz).e;bd (r<p) (V7 r s.L.length/\br (!V9 u (zL s.L x.1) s.ep) v (Ri (r+1)/\∃(y:U8 s.L.length (vU s)),((K4 (λ(x:Nat)=>none) q q/\u=zL s.L y.1/\(Z2 Y0 s.L s.L)/\p=p/\r+1=(y.1:Int)/\True)/\True)/\Lt (s.L.length-y.1) (s.L.length-x.1))) ((∃(x:U8 8 (c9 s)),(K4 (λ(x:Nat)=>none) q q/\0=(x.1:Int)/\True)/\True)/\∀(x:U8 8 (c9 s)),let z:=(x.1:Int);bd (z<8) (∃(X:dK.ι),(((o6 s X.1)/\z=(X.2:Int)/\True)/\a0K (X.1.d,X.2))/\br (!(S9 X.1.d X.2).2||decide ((S9 X.1.d X.2).1.Q>s.S)) v (Ri (z+1)/\∃(y:U8 8 (c9 s)),((K4 (λ(x:Nat)=>none) q q/\z+1=(y.1:Int)/\True)/\True)/\Lt (8-y.1) (8-x.1))) (∃(x:eF.ι),(((o6 s x)/\True)/\c7t x)/\(zU x=true->r6 (3:Int))/\(zU x&&(decide (0<=s.J)&&decide (s.J<3)))=G6 s)))) ⟨s.d,⟨⟨(eqD _),Z6⟩,hd⟩,s.L,λ_=>⟨Y2,hl⟩,λhb=>oM ?_,λhb=>?_⟩
 ·rw[J8];rintro⟨⟨g,l,n⟩,_⟩;rw[j,g,l,n] at hb;cases hb
 rw[j] at hb;simp only[zV,zF] at hb;obtain⟨⟨B,b2⟩,o⟩:=hb;obtain⟨C,c2,q,t,r⟩:=(y6 s).1 B;refine⟨⟨F4,⟨T5 _,Y2⟩,Z6⟩,λx=>⟨λhc=>?_,λhc=>⟨⟨F4,⟨T5 _,Y2⟩,Z6⟩,λy=>⟨λhy=>?_,λhy=>?_⟩⟩⟩⟩
 ·have hlt:=Y1 hc;refine⟨Y3 hlt,λhb=>oM ?_,λhb=>⟨V5 hlt Z9,x.succ hlt hb,⟨⟨T5 _,(b1T _ _).symm,Y2,rfl,J7,Z6⟩,Z6⟩,U8.ext_lt hlt⟩⟩
  rw[J8];rintro⟨_,g,_⟩;have:=g x.1 hlt;unfold vU at this;rw[G2,this] at hb;cases hb
 ·have hlt:y.1<8:=by have:=E4 hy;omega
  refine⟨(s,y.1),⟨⟨(jO _),Y2⟩,C,F3⟩,λhb=>oM ?_,λhb=>⟨Z3 Z9,y.succ hlt ((b0a s y.1).symm.trans hb),⟨⟨T5 _,J7,Z6⟩,Z6⟩,U8.ext_lt hlt⟩⟩
  rw[J8];rintro⟨_,_,g,_⟩;have:=g y.1 hlt;rw[←b0a] at this;have hb:(!(S9 s.d y.1).2||decide ((S9 s.d y.1).1.Q>s.S))=true:=hb;rw[this] at hb;cases hb
 ·have g1:=X6 hc;have g2:8<=y.1:=by have:=s6 hy;omega
  refine⟨s,⟨⟨(jO _),Z6⟩,hf,hl.1⟩,λ_=>⟨Z9,Z9⟩,?_⟩
  rw[c25,Bool.eq_iff_iff,J8];simp only[O4];exact⟨λh=>⟨⟨B,b2,o⟩,λi hi=>x.2.2 i (yK hi g1),λi hi=>y.2.2 i (yK hi g2),h⟩,λh=>h.2.2.2⟩
theorem b7R(s:Sto)(i:Nat):xC s i=zR s i:=by
 unfold xC zR;generalize V9 (s.fr.getD i dz).no 0 7=a;generalize o4 (s.fr.getD i dz).pg=b;generalize decide ((s.fr.getD i dz).pg.Q>(s.L.length:Int))=c;generalize V9 (s.fr.getD i dz).first 0 s.L.length=d
 generalize (s.fr.getD i dz).D=e;generalize decide ((s.fr.getD i dz).first>0)=f
 generalize (frAt s.fr (s.fr.getD i dz).no !=(i:Int))=g;cases a<;>cases b<;>cases c<;>cases d<;>cases e<;>cases f<;>cases g<;>rfl
theorem b5F(s:Sto):(∀i,i<s.L.length->tY s i=false)↔g7 s.L=true/\∀i,i<s.L.length->vU s i=false:=by
 rw[D2];have key:∀i,tY s i=false↔(L9 (s.L.getD i dz)=true/\(s.L.getD i dz).l=(i:Int)+1)/\(s.L.getD i dz).e<=s.ep/\(0<i->(s.L.getD (i-1) dz).e<=(s.L.getD i dz).e):=by
  intro i;unfold tY;simp only[zV,zF,bne_eq_false_iff_eq,qN,Bool.and_eq_false_iff];constructor
  ·rintro⟨⟨⟨h1,h2⟩,h3⟩,h4⟩;exact⟨⟨h1,h2⟩,Z9,λhi=>by rcases h4 with h4|h4<;>omega⟩
  ·rintro⟨⟨h1,h2⟩,h3,h4⟩;refine⟨⟨⟨h1,h2⟩,Z9⟩,?_⟩
   by_cases hi:0<i
   ·exact .inr (by have:=h4 hi;omega)
   ·exact .inl Z9
 have d:∀i,vU s i=false↔zL s.L i<=(s.L.getD i dz).e/\(s.L.getD i dz).e<=s.ep:=by
  intro i;unfold vU V9;simp only[zF,O4,r8]
 simp only[key,d];constructor
 ·intro h;refine⟨λi hi=>(h i hi).1,λi hi=>⟨?_,(h i hi).2.1⟩⟩
  by_cases h0:i=0
  ·subst h0;have:=((Q6 _).1 (h 0 hi).1.1).1;exact this
  ·unfold zL;rw[if_neg h0];exact(h i hi).2.2 Z9
 ·rintro⟨h1,h2⟩ i hi;refine⟨h1 i hi,(h2 i hi).2,λh0=>?_⟩
  have:=(h2 i hi).1;unfold zL at this;rw[if_neg Z9] at this
  exact this
theorem a2U:GK 70 a5B:=gk func70<|by
 rintro(s:Sto) ⟨hd,hl,hf,hm⟩;have R:s.fr.length<1000000000000:=hf.1;have B:(!zM s.d||(s.d.E.length:Int) !=69|| !V9 s.ep 1 60||decide ((s.L.length:Int)>60)|| !V9 s.S 0 s.L.length||decide ((s.fr.length:Int)>3)|| !V9 s.J 0 2)=(oQ s|| !V9 s.S 0 s.L.length||decide ((s.fr.length:Int)>3)|| !V9 s.J 0 2):=rfl;have sp:G6 s=true↔(oQ s|| !V9 s.S 0 s.L.length||decide ((s.fr.length:Int)>3)|| !V9 s.J 0 2)=false/\(∀i,i<s.L.length->tY s i=false)/\(∀i,i<s.fr.length->xC s i=false)/\∀i,i<8->c9 s i=false:=by
  rw[J8,b5F];simp only[zV,zF,b7R,qN];unfold zU;simp only[O4,xV,R8,r8];constructor
  ·rintro⟨⟨h1,o,v⟩,q,r,⟨A,C⟩,u⟩;exact⟨⟨⟨⟨h1,v⟩,Z9⟩,u⟩,⟨o,q⟩,A,r⟩
  ·rintro⟨⟨⟨⟨h1,v⟩,C⟩,u⟩,⟨o,q⟩,A,r⟩;exact⟨⟨h1,o,v⟩,q,r,⟨A,Z9⟩,u⟩
 refine S1 (gC a8d (gC D0 (gC mN (gC fX (gC kQ (gC a6y gN)))))) func70 (a5T s) (α:=let i:=(false=G6 s);let m:=(0=0/\0=0);let w:=(oo (o6 s s));let v:=(s.L.length:Int);∃(x:nF.ι),(((xP s.d x)/\True)/\c0f x)/\br (!zM x||(s.d.E.length:Int) !=69|| !V9 s.ep (1:Int) (60:Int)||decide (v>60)|| !V9 s.S (0:Int) v||decide ((s.fr.length:Int)>3)|| !V9 s.J (0:Int) (2:Int)) i ((∃(x:U8 s.L.length (tY s)),(m/\0=(x.1:Int)/\True)/\w/\True)/\∀(x:U8 s.L.length (tY s)),let u:=(x.1:Int);let q:=(s.L.getD u.toNat dz);let z:=(Rec.mk q.e q.l q.t q.k q.p q.n q.g q.s q.b q.a);let c:=(!L9 z||q.l !=u+1||decide (q.e>s.ep));bd (u<v) (V7 u s.L.length/\M1 q.a.length/\((!L9 z)=false->Ri (u+1))/\(c=false->decide (u>0)=true->Ri (u-1))/\(c=false->decide (u>0)=true->V7 (u-1) s.L.length)/\br (!L9 z||q.l !=u+1||decide (q.e>s.ep)||decide (u>0)&&decide ((s.L.getD (u-1).toNat dz).e>q.e)) i (Ri (u+1)/\∃(y:U8 s.L.length (tY s)),((m/\u+1=(y.1:Int)/\True)/\w/\True)/\Lt (s.L.length-y.1) (s.L.length-x.1))) ((∃(x:U8 s.fr.length (xC s)),(m/\0=(x.1:Int)/\True)/\w/\True)/\∀(x:U8 s.fr.length (xC s)),let j:=(x.1:Int);let r:=(s.fr.getD j.toNat dz);bd (j<(s.fr.length:Int)) (V7 j s.fr.length/\∃(X:xY.ι),((!V9 r.no (0:Int) (7:Int))=false->((r.pg.Q=X.Q/\(Z2 Z5 r.pg.sl X.sl)/\True)/\True)/\PgB X)/\∃(f:pT.ι),((!V9 r.no (0:Int) (7:Int)|| !o4 X||decide (r.pg.Q>v)|| !V9 r.first (0:Int) v|| ! r.D==decide (r.first>0))=false->((o6 s f.1)/\r.no=f.2/\True)/\M1 f.1.fr.length)/\br (!V9 r.no (0:Int) (7:Int)|| !o4 X||decide (r.pg.Q>v)|| !V9 r.first (0:Int) v|| ! r.D==decide (r.first>0)||frAt f.1.fr f.2 !=j) i (Ri (j+1)/\∃(y:U8 s.fr.length (xC s)),((m/\j+1=(y.1:Int)/\True)/\w/\True)/\Lt (s.fr.length-y.1) (s.fr.length-x.1))) ((∃(x:U8 8 (c9 s)),(m/\0=(x.1:Int)/\True)/\w/\True)/\∀(x:U8 8 (c9 s)),let pa:=(x.1:Int);bd (pa<8) (∃(X:a0s.ι),(((xP s.d X.1)/\pa=(X.2:Int)/\True)/\a0K X)/\br (!(U2 X.1 X.2).2||decide ((U2 X.1 X.2).1.Q>s.S)) i (Ri (pa+1)/\∃(y:U8 8 (c9 s)),((m/\pa+1=(y.1:Int)/\True)/\w/\True)/\Lt (8-y.1) (8-x.1))) (true=G6 s))))) ⟨s.d,⟨⟨(eqD _),Z6⟩,hd⟩,λh=>oM ?_,λh=>?_⟩
 ·rw[sp,←B];rintro⟨h1,_⟩;have h:(!zM s.d||(s.d.E.length:Int) !=69|| !V9 s.ep 1 60||decide ((s.L.length:Int)>60)|| !V9 s.S 0 s.L.length||decide ((s.fr.length:Int)>3)|| !V9 s.J 0 2)=true:=h;rw[h1] at h;cases h
 rw[B] at h;have j:=h;simp only[zV,zF,qN] at j;obtain⟨F,c2,I,L,J⟩:=(y6 s).1 j.1.1.1;refine⟨⟨F4,Y2⟩,λx=>⟨λhc=>?_,λhc=>⟨⟨F4,Y2⟩,λy=>⟨λhy=>?_,λhy=>⟨⟨F4,Y2⟩,λz=>⟨λhz=>?_,λhz=>?_⟩⟩⟩⟩⟩⟩
 ·have hlt:=Y1 hc;refine⟨Y3 hlt,hm _ (a4K hlt),λ_=>V5 hlt Z9,λ_ _=>Z3 Z9,λ_ h0=>⟨b5Q,Z9⟩,λhq=>oM ?_,λhq=>⟨V5 hlt Z9,x.succ hlt ?_,⟨⟨Y2,J7,Z6⟩,Y2⟩,U8.ext_lt hlt⟩⟩
  ·rw[sp];rintro⟨_,h1,_⟩;have:=h1 x.1 hlt;unfold tY at this;rw[G2,show((x.1:Int)-1).toNat=x.1-1 by omega] at hq
   have hq:=hq.symm.trans this;cases hq
  ·rw[G2,show((x.1:Int)-1).toNat=x.1-1 by omega] at hq
   exact hq
 ·have hlt:=Y1 hy;refine⟨Y3 hlt,(s.fr.getD y.1 dz).pg,λ_=>⟨Y2,hf.2 _ hlt⟩,(s,(s.fr.getD y.1 dz).no),λ_=>⟨⟨(jO _),Y2⟩,hf.1⟩,λhq=>oM ?_,λhq=>⟨V5 hlt Z9,y.succ hlt hq,⟨⟨Y2,J7,Z6⟩,Y2⟩,U8.ext_lt hlt⟩⟩
  rw[sp];rintro⟨_,_,h1,_⟩;have:=h1 y.1 hlt;have hq:xC s y.1=true:=hq;rw[this] at hq;cases hq
 ·have hlt:z.1<8:=by have:=E4 hz;omega
  refine⟨(s.d,z.1),⟨⟨(eqD _),Y2⟩,F,F3⟩,λhq=>oM ?_,λhq=>⟨Z3 Z9,z.succ hlt hq,⟨⟨Y2,J7,Z6⟩,Y2⟩,U8.ext_lt hlt⟩⟩
  rw[sp];rintro⟨_,_,_,h1⟩;have:=h1 z.1 hlt;have hq:c9 s z.1=true:=hq;rw[this] at hq;cases hq
 ·have g1:=X6 hc;have g2:=X6 hy;have g3:8<=z.1:=by have:=s6 hz;omega
  exact(sp.2 ⟨h,λi hi=>x.2.2 i (yK hi g1),λi hi=>y.2.2 i (yK hi g2),λi hi=>z.2.2 i (yK hi g3)⟩).symm
def zW(n:Int):UInt8:=Q8 (IntKind.u8.wrap n)
def W1(L:List (Bz)):Nat->Bz
 |0=>[zW L.length]
 |i+1=>W1 L i++[zW (L.getD i []).length]++L.getD i []
def S0(L:List (Bz)):Bz:=W1 L L.length
def o8(L:List (Bz)):Prop:=L.length<=1000/\∀i,i<L.length->(L.getD i []).length<=1000
def wT:Rl:=⟨List (Bz),λL=>[zA L],λL=>.bys (S0 L),o8⟩
def a3D:Con:=.rel wT
def a4J(L:List (Bz)):Nat->Ann
 |0=>.one (Up L.length) (λx=>⟨[(0,zA L),(3,.osl 0 0 (W1 L x.1).length),(4,Ji x.1)],[some (.bys 5 (W1 L x.1))]⟩) (λx=>L.length-x.1) [.arr 0] [.arr 3] (λ_=>Y9)
 |_=>.none
def zJ(n:Nat)(l:Bz):Prop:=n=l.length/\l.length<=1000000
def wR:List T->Y4->Option (T×Y4×Option Prop)
 | [.osl k off n],[some (.bys ty l)]=>match k,off,ty with
  |0,0,5=>some (.bys (l++F8 (m0 l)),[none],some (zJ n l))
  |_,_,_=>none
 |_,_=>none
def a47:Con:=.eff wR
theorem uH:GK 269 a47:=gk func269<|by
 intro args H res H' p h hp;unfold wR at h;split at h
 case h_2=>cases h
 rename_i k off n ty l;split at h
 ·skip
  simp only[X2,U0] at h;obtain⟨rfl,rfl,rfl⟩:=h;obtain⟨rfl,hl⟩:zJ n l:=hp;have e4:(F8 (m0 l)).length=4:=rfl;refine vcE (gC kH (gC uE gN)) func269 Y9 (bs:=[false]) (α:=∃(x:(uO IntKind.i64).ι),(Le (0+l.length) l.length/\(List.take l.length (List.drop 0 l)=x/\True)/\w2 x)/\∃(x_1:oE.ι),(((↑(m0 x):Int)=(x_1.1:Int)/\(4=match x_1.2 with|true=>(4:Int)|false=>(2:Int))/\True)/\True)/\(Le l.length l.length/\U9 l.length (match x_1.2 with|true=>F8 x_1.1|false=>zQ x_1.1).length 1)/\Le (0+(l.length+(match x_1.2 with|true=>F8 x_1.1|false=>zQ x_1.1).length)) (List.take l.length l++match x_1.2 with|true=>F8 x_1.1|false=>zQ x_1.1).length/\List.take (l.length+(match x_1.2 with|true=>F8 x_1.1|false=>zQ x_1.1).length) (List.drop 0 (List.take l.length l++match x_1.2 with|true=>F8 x_1.1|false=>zQ x_1.1))=l++F8 (m0 l)/\True/\True) ⟨l,⟨L6,⟨dR,Z6⟩,a3C⟩,(m0 l,true),Y2,⟨V8 _,?_,?_⟩,?_,?_,Y2⟩
  ·simp only[e4];omega
  ·simp only[e4];omega
  ·unfold Le;rw[cH,K2,C9];exact V8 _
  ·rw[cH,List.drop_zero];exact List.take_of_length_le (by rw[K2];exact V8 _)
 ·cases h
theorem wU(L:List (Bz))(h:∀i,i<L.length->(L.getD i []).length<=1000):∀i,i<=L.length->(W1 L i).length<=1+1001*i
 |0,_=>by simp[W1]
 |i+1,hi=>by
  have d:=wU L h i Z9
  have e:=h i Z9
  simp only[W1,K2,List.length_cons,List.length_nil];omega
theorem l01Fields_ok:GK 270 a3D:=gk func270<|by
 rintro(L:List (Bz)) ⟨hL,hs⟩;refine S1 gN func270 (a4J L) (α:=let u:=(L.length:Int);O7 IntKind.u8 (IntKind.u8.wrap u)/\(∃(x:Up L.length),((Z2 Z5 L L)/\(0=0/\1=(W1 L x.1).length)/\0=(x.1:Int)/\True)/\List.map Q8 [IntKind.u8.wrap u]=W1 L x.1/\True)/\∀(x:Up L.length),let v:=(W1 L x.1);let z:=(x.1:Int);let q:=(L.getD z.toNat []).length;let p:=v.length;let r:=(List.take p v++List.take 1 (List.drop 0 (List.map Q8 [IntKind.u8.wrap (↑q:Int)])));bd (z<u) (V7 z L.length/\O7 IntKind.u8 (IntKind.u8.wrap (↑q:Int))/\(Le 1 1/\Le p p/\U9 p 1 1)/\V7 z L.length/\(Le (p+1) r.length/\U9 (p+1) q 1)/\Ri (z+1)/\∃(y:Up L.length),(((Z2 Z5 L L)/\(0=0/\p+1+q=(W1 L y.1).length)/\z+1=(y.1:Int)/\True)/\List.take (p+1) r++L.getD z.toNat []=W1 L y.1/\True)/\Lt (L.length-y.1) (L.length-x.1)) (Le (0+p) p/\List.take p (List.drop 0 v)=S0 L)) ⟨O2 _,⟨⟨0,O3 _⟩,Y2⟩,λx=>⟨λhc=>?_,λhc=>?_⟩⟩
 ·have hlt:=Y1 hc;have h1:=wU L hs x.1 Z9
  have h:=hs x.1 hlt;rw[G2];have e:List.take (W1 L x.1).length (W1 L x.1)++List.take 1 (List.drop 0 (List.map Q8 [IntKind.u8.wrap ((L.getD x.1 []).length:Int)]))=W1 L x.1++[zW (L.getD x.1 []).length]:=by
   rw[cH];rfl
  rw[e];have d:(W1 L x.1++[zW (L.getD x.1 []).length]).length=(W1 L x.1).length+1:=W8
  refine⟨Y3 hlt,O2 _,⟨V8 _,V8 _,Z9,Z9⟩,Y3 hlt,⟨L6,Z9,Z9⟩,V5 hlt Z9,⟨x.1+1,hlt⟩,⟨⟨Y2,⟨rfl,?_⟩,F3,Z6⟩,?_,Z6⟩,U8.ext_lt hlt⟩
  ·simp only[W1,K2,List.length_cons,List.length_nil]
  ·rw[←d,cH];rfl
 ·have hx:x.1=L.length:=by have:=x.2;have:=X6 hc;omega
  rw[hx];exact⟨L6,by rw[List.drop_zero,cH];rfl⟩
def sT(no:Int)(p:Pg):Bz:=([Q8 112,zW no]++zQ p.Q.toNat)++S0 p.sl
def P3(no:Int)(p:Pg):Bz:=sT no p++F8 (m0 (sT no p))
def oZ:Rl:=⟨Int×Pg,λx=>[Ji x.1,.agg x.2.ts],λx=>.bys (P3 x.1 x.2),λx=>PgP x.2⟩
def a72:Con:=.rel oZ
theorem a31:GK 282 a72:=gk func282<|by
 rintro⟨no,p⟩ ⟨o,j,l,g⟩;simp only at o j l g;have f:o8 p.sl:=⟨Z9,λi hi=>Nat.le_trans (g i hi) X1⟩
 have h:=wU p.sl f.2 p.sl.length (V8 _);have h:(S0 p.sl).length<=5000:=by unfold S0;omega
 have e:(zQ p.Q.toNat).length=2:=rfl;have d:List.take 2 (List.map Q8 [(112:Int),IntKind.u8.wrap no])=[Q8 112,zW no]:=rfl;have n:List.take (2+(zQ p.Q.toNat).length) ([Q8 112,zW no]++zQ p.Q.toNat)=[Q8 112,zW no]++zQ p.Q.toNat:=List.take_of_length_le H4
 have key:List.take (2+(zQ p.Q.toNat).length) (List.take 2 (List.map Q8 [(112:Int),IntKind.u8.wrap no])++zQ p.Q.toNat)++S0 p.sl=sT no p:=by rw[d,n];rfl
 refine S1 (gC uE (gC l01Fields_ok (gC uH gN))) func282 Y9 (α:=(O7 IntKind.u8 (112:Int)/\O7 IntKind.u8 (IntKind.u8.wrap no))/\∃(x:oE.ι),((p.Q=(x.1:Int)/\(2=match x.2 with|true=>(4:Int)|false=>(2:Int))/\True)/\True)/\(Le 2 2/\U9 2 (match x.2 with|true=>F8 x.1|false=>zQ x.1).length 1)/\∃(X:wT.ι),(((Z2 Z5 p.sl X)/\True)/\o8 X)/\(Le (2+(match x.2 with|true=>F8 x.1|false=>zQ x.1).length) (List.take 2 (List.map Q8 [(112:Int),IntKind.u8.wrap no])++match x.2 with|true=>F8 x.1|false=>zQ x.1).length/\U9 (2+(match x.2 with|true=>F8 x.1|false=>zQ x.1).length) (S0 X).length 1)/\zJ (2+(match x.2 with|true=>F8 x.1|false=>zQ x.1).length+(S0 X).length) (List.take (2+(match x.2 with|true=>F8 x.1|false=>zQ x.1).length) (List.take 2 (List.map Q8 [(112:Int),IntKind.u8.wrap no])++match x.2 with|true=>F8 x.1|false=>zQ x.1)++S0 X)/\List.take (2+(match x.2 with|true=>F8 x.1|false=>zQ x.1).length) (List.take 2 (List.map Q8 [(112:Int),IntKind.u8.wrap no])++match x.2 with|true=>F8 x.1|false=>zQ x.1)++S0 X++F8 (m0 (List.take (2+(match x.2 with|true=>F8 x.1|false=>zQ x.1).length) (List.take 2 (List.map Q8 [(112:Int),IntKind.u8.wrap no])++match x.2 with|true=>F8 x.1|false=>zQ x.1)++S0 X))=P3 no p) ⟨⟨(sX _).2 Z9,O2 _⟩,(p.Q.toNat,false),⟨⟨F3,Y2⟩,Z6⟩,⟨V8 _,a9H,a9H⟩,p.sl,⟨Y2,f⟩,⟨?_,a9H,a9H⟩,?_,?_⟩
 ·unfold Le;rw[d,K2];exact V8 _
 ·show zJ _ (List.take (2+(zQ p.Q.toNat).length) (List.take 2 (List.map Q8 [(112:Int),IntKind.u8.wrap no])++zQ p.Q.toNat)++S0 p.sl);rw[key];have hl:(sT no p).length=2+(zQ p.Q.toNat).length+(S0 p.sl).length:=by unfold sT;simp;omega
  exact⟨hl.symm,by rw[hl,e];omega⟩
 ·show List.take (2+(zQ p.Q.toNat).length) (List.take 2 (List.map Q8 [(112:Int),IntKind.u8.wrap no])++zQ p.Q.toNat)++S0 p.sl++F8 (m0 (List.take (2+(zQ p.Q.toNat).length) (List.take 2 (List.map Q8 [(112:Int),IntKind.u8.wrap no])++zQ p.Q.toNat)++S0 p.sl))=_;rw[key];rfl
def eN:Rl:=⟨List (Bz),λL=>[zA L,zA L],λ_=>.bool true,λL=>L.length<=1048576⟩
def a3n:Rl:=⟨List Int,λL=>[bY L,bY L],λ_=>.bool true,λL=>L.length<=1048576⟩
def dU(d:Dsk):Prop:=d.E.length<=1048576/\d.C.length<=1048576/\d.keep.length<=1048576
def a94:Rl:=⟨Dsk,λd=>[.agg d.ts,.agg d.ts],λ_=>.bool true,dU⟩
def SmG(p:Pg):Prop:=p.sl.length<=1048576
def b7E:Rl:=⟨Pg,λp=>[.agg p.ts,.agg p.ts],λ_=>.bool true,SmG⟩
def SmF(f:Frm):Prop:=SmG f.pg
def SmS(s:Sto):Prop:=dU s.d/\s.L.length<=1048576/\s.fr.length<=1048576/\∀i,i<s.fr.length->SmF (s.fr.getD i dz)
def a9d:Rl:=⟨Sto,λs=>[.agg s.ts,.agg s.ts],λ_=>.bool true,SmS⟩
structure Val where
 k:Int
 n:Int
 t:Bz
 deriving Inhabited
def Val.ts(v:Val):List T:=[Ji v.k,Ji v.n,.str v.t]
structure Rw where
 id:Int
 n:Val
 name:Val
 deriving Inhabited
def Rw.ts(r:Rw):List T:=[Ji r.id,Ji r.n.k,Ji r.n.n,.str r.n.t,Ji r.name.k,Ji r.name.n,.str r.name.t]
structure Chg where
 se:Int
 ta:Int
 row:Rw
 G:Bool
 deriving Inhabited
def Chg.ts(c:Chg):List T:=[Ji c.se,Ji c.ta,Ji c.row.id,Ji c.row.n.k,Ji c.row.n.n,.str c.row.n.t,Ji c.row.name.k,Ji c.row.name.n,.str c.row.name.t,.bool c.G]
def a0Y(c:UInt8):Bool:=decide (c.toNat≥97)&&decide (c.toNat<=122)
def pQ(t:Bz)(i:Nat):Bool:= !a0Y (t.getD i 0)
def u4(t:Bz):Bool:= !anyI t.length (pQ t)&&decide (t.length<=10)
def S7(v:Val):Bool:=if v.k=0 then(v.n==0)&&(v.t==[]) else if v.k=1 then V9 v.n (-1000000000) 1000000000&&(v.t==[]) else(v.k==2)&&(v.n==0)&&u4 v.t
def R9(r:Rw):Bool:=V9 r.id 0 1000&&S7 r.n&&(r.n.k !=2)&&S7 r.name&&(r.name.k !=1)
def gP:Rl:=⟨UInt8,λc=>[.int .u8 c.toNat],λc=>.bool (a0Y c),λ_=>True⟩
def a6b:Con:=.rel gP
theorem a7U(c:UInt8)(h:
  (decide ((c.toNat:Int)≥(97:Int))&&decide ((c.toNat:Int)<=122))=a0Y c):
  V4 prog 185 [.int .u8 c.toNat] (.bool (a0Y c)):=
 S1 gN func185 Y9 h
theorem a2H:GK 185 a6b:=gk func185<|λc _=>a7U c (by unfold a0Y;congr 1<;>exact decide_eq_decide.2 Z9)
def dF(t:Bz):Prop:=M1 t.length
theorem b0d{p:Prop}(h:p:=by unfold dF M1;simp):p:=h
def a3H:Rl:=⟨Bz,λt=>[.str t],λt=>.bool (u4 t),dF⟩
def b3R:Con:=.rel a3H
def b7t(t:Bz):Nat->Ann
 |0=>.one (U8 t.length (pQ t)) (λx=>⟨[(0,.str t),(5,Ji t.length),(6,Ji x.1)],[]⟩) (λx=>t.length-x.1) [] [] (λ_=>Y9)
 |_=>.none
theorem b03:GK 113 b3R:=gk func113<|by
 intro(t:Bz) (h:t.length<1000000000000);refine S1 (gC a2H gN) func113 (b7t t) (α:=let p:=(t.length:Int);(∃(x:U8 t.length (pQ t)),(t=t/\p=p/\0=(x.1:Int)/\True)/\True)/\∀(x:U8 t.length (pQ t)),let q:=(x.1:Int);bd (q<p) (V7 q t.length/\∃(X:gP.ι),(((↑(t.getD q.toNat (0:UInt8)).toNat:Int)=(↑(UInt8.toNat X):Int)/\True)/\True)/\br (!a0Y X) (false=u4 t) (Ri (q+1)/\∃(y:U8 t.length (pQ t)),((t=t/\p=p/\q+1=(y.1:Int)/\True)/\True)/\Lt (t.length-y.1) (t.length-x.1))) (decide (p<=10)=u4 t)) ⟨⟨F4,Y2⟩,λx=>⟨λhc=>?_,λhc=>?_⟩⟩
 ·have hlt:=Y1 hc;refine⟨Y3 hlt,t.getD x.1 0,Y2,λhp=>?_,λhp=>⟨V5 hlt Z9,x.succ hlt hp,⟨⟨rfl,rfl,J7,Z6⟩,Z6⟩,U8.ext_lt hlt⟩⟩
  have:anyI t.length (pQ t)=true:=U3.2 ⟨x.1,hlt,hp⟩;unfold u4;rw[this];rfl
 ·have hge:=X6 hc;have:anyI t.length (pQ t)=false:=R8.2 λi hi=>x.2.2 i (yK hi hge)
  unfold u4;rw[this];show _=decide (t.length<=10);exact decide_eq_decide.2 Z9
def a7x:Con:=.rel ⟨Int,λn=>[Ji n],λn=>.bool (V9 n (-1000000000) 1000000000),λ_=>True⟩
theorem a5J(n:Int)(h:
let p:=(-1000000000:Int);  V9 n p 1000000000=V9 n p (1000000000:Int)):
  V4 prog 112 [Ji n] (.bool (V9 n (-1000000000) 1000000000)):=
 S1 (gC M0 gN) func112 Y9 h
theorem a4r:GK 112 a7x:=gk func112<|λn _=>a5J n rfl
def F7:Rl:=⟨Val,λv=>[.agg v.ts],λv=>.bool (S7 v),λv=>dF v.t⟩
def a7g:Con:=.rel F7
def a7O:Con:=.rel F7
theorem kM:GK 54 a7g:=gk func54<|by
 intro(v:Val) h;refine S1 (gC a4r (gC b03 gN)) func54 Y9 (α:=br (v.k==0) ((v.k==0&&(v.n==0&&(v.t==[]&&true)))=S7 v) (br (v.k==1) (∃(x:Int),((v.n=x/\True)/\True)/\(V9 x (-1000000000:Int) (1000000000:Int)&&v.t==[])=S7 v) (∃(x:a3H.ι),((v.k==2&&v.n==0)=true->(v.t=x/\True)/\dF x)/\(v.k==2&&v.n==0&&u4 x)=S7 v))) ⟨λh0=>?_,λh0=>⟨λe=>⟨v.n,Y2,?_⟩,λe=>⟨v.t,λ_=>⟨Y2,h⟩,?_⟩⟩⟩
 ·have h0':v.k=0:=by simpa using h0
  unfold S7;rw[if_pos h0',h0,Bool.true_and,Bool.and_true]
 ·have h0':v.k≠0:=by simpa using h0
  have d:v.k=1:=by simpa using e
  unfold S7;rw[if_neg h0',if_pos d]
 ·have h0':v.k≠0:=by simpa using h0
  have d:v.k≠1:=by simpa using e
  unfold S7;rw[if_neg h0',if_neg d]
def c41(v:Val):Option Ob:=some (.arr true 1000000 3 1 λ_=>v.ts)
def a5I(v:Val):Nat->Ann
 |0=>.one (U8 v.t.length (pQ v.t)) (λx=>⟨[(1,.ref 0 0 0),(3,Ji x.1)],[c41 v]⟩) (λx=>v.t.length-x.1) [.box 0] [.box 0] (λ_=>Y9)
 |_=>.none
theorem c5V{v:Val}(h:v.k=2)(N:v.n=0)(hl:v.t.length<=10):S7 v= !anyI v.t.length (pQ v.t):=by
 unfold S7;rw[if_neg Z9,if_neg Z9,h,N]
 unfold u4;rw[qK hl,Bool.and_true];rfl
theorem kU:GK 75 a7O:=gk func75<|by
 intro(v:Val) (h:v.t.length<1000000000000);refine S1 (gC D0 gN) func75 (a5I v) (α:=let z:=(v.t.length:Int);let r:=(false=S7 v);let p:=(oo (v.k=v.k/\v.n=v.n/\v.t=v.t/\True));br (v.k==0) ((v.n==0&&v.t==[])=S7 v) (br (v.k==1) ((V9 v.n (-1000000000:Int) (1000000000:Int)&&v.t==[])=S7 v) (br (v.k==2) (br (v.n !=0||decide (z>10)) r ((∃(x:U8 v.t.length (pQ v.t)),((0=0/\0=0)/\0=(x.1:Int)/\True)/\p/\True)/\∀(x:U8 v.t.length (pQ v.t)),let q:=(x.1:Int);bd (q<z) (V7 q v.t.length/\br (!V9 (IntKind.i64.wrap (↑(v.t.getD q.toNat (0:UInt8)).toNat:Int)) (97:Int) (122:Int)) r (Ri (q+1)/\∃(y:U8 v.t.length (pQ v.t)),(((0=0/\0=0)/\q+1=(y.1:Int)/\True)/\p/\True)/\Lt (v.t.length-y.1) (v.t.length-x.1))) (true=S7 v))) r))) ⟨λh0=>?_,λh0=>⟨λf=>?_,λf=>⟨λh2=>⟨λhb=>?_,λhb=>?_⟩,λh2=>?_⟩⟩⟩
 ·have h0':v.k=0:=by simpa using h0
  unfold S7;rw[if_pos h0']
 ·have h0':v.k≠0:=by simpa using h0
  have d:v.k=1:=by simpa using f
  unfold S7;rw[if_neg h0',if_pos d]
 ·have h2':v.k=2:=by simpa using h2
  unfold S7 u4;rw[if_neg Z9,if_neg Z9]
  simp only[tB,bne_iff_ne,r8] at hb;by_cases hn:v.n=0
  ·rw[uG (p:=v.t.length<=10) (by rcases hb with hb|hb<;>omega)]
   simp
  ·rw[show(v.n==0)=false by simpa using hn]
   simp
 ·have h2':v.k=2:=by simpa using h2
  simp only[zV,bne_eq_false_iff_eq,qN] at hb;obtain⟨hn,hl⟩:=hb;have e:=c5V h2' hn Z9
  refine⟨⟨F4,Y2⟩,λx=>⟨λhc=>?_,λhc=>?_⟩⟩
  ·have hlt:=Y1 hc;rw[vF,G2,show V9 ((v.t.getD x.1 0).toNat:Int) 97 122=a0Y (v.t.getD x.1 0) by unfold V9 a0Y;congr 1<;>exact decide_eq_decide.2 Z9]
   refine⟨Y3 hlt,λhp=>?_,λhp=>⟨V5 hlt Z9,x.succ hlt hp,⟨⟨Y2,J7,Z6⟩,Y2⟩,U8.ext_lt hlt⟩⟩
   have:anyI v.t.length (pQ v.t)=true:=U3.2 ⟨x.1,hlt,hp⟩;rw[e,this];rfl
  ·have hge:=X6 hc;have:anyI v.t.length (pQ v.t)=false:=R8.2 λi hi=>x.2.2 i (yK hi hge)
   rw[e,this];rfl
 ·have h0':v.k≠0:=by simpa using h0
  have d:v.k≠1:=by simpa using f
  unfold S7;rw[if_neg h0',if_neg d,h2];rfl
def b0E:Con:=.rel ⟨Int,λn=>[Ji n],λn=>.bool (V9 n 1 3),λ_=>True⟩
theorem b2u(n:Int)(h:
  V9 n (1:Int) 3=V9 n (1:Int) (3:Int)):
  V4 prog 26 [Ji n] (.bool (V9 n 1 3)):=
 S1 (gC M0 gN) func26 Y9 h
theorem k9:GK 26 b0E:=gk func26<|λn _=>b2u n rfl
def c48:Con:=.rel ⟨Int,λn=>[Ji n],λn=>.bool (V9 n 0 1000),λ_=>True⟩
theorem c4t(n:Int)(h:
  V9 n (0:Int) 1000=V9 n (0:Int) (1000:Int)):
  V4 prog 32 [Ji n] (.bool (V9 n 0 1000)):=
 S1 (gC M0 gN) func32 Y9 h
theorem a15:GK 32 c48:=gk func32<|λn _=>c4t n rfl
def RwB(r:Rw):Prop:=dF r.n.t/\dF r.name.t
def xI:Rl:=⟨Rw,λr=>[.agg r.ts],λr=>.bool (R9 r),RwB⟩
def b86:Con:=.rel xI
def b44:Con:=.rel xI
theorem dO:GK 25 b86:=gk func25<|by
 rintro(r:Rw) ⟨h1,h2⟩;exact S1 (gC a15 (gC kM gN)) func25 Y9 (α:=∃(x:Int),((r.id=x/\True)/\True)/\∃(X:F7.ι),(V9 x (0:Int) 1000=true->((r.n.k=X.k/\r.n.n=X.n/\r.n.t=X.t/\True)/\True)/\dF X.t)/\∃(d:F7.ι),((V9 x (0:Int) (1000:Int)&&S7 X&&r.n.k !=2)=true->((r.name.k=d.k/\r.name.n=d.n/\r.name.t=d.t/\True)/\True)/\dF d.t)/\(V9 x (0:Int) (1000:Int)&&S7 X&&r.n.k !=2&&S7 d&&r.name.k !=1)=R9 r) ⟨r.id,Y2,r.n,λ_=>⟨Y2,h1⟩,r.name,λ_=>⟨Y2,h2⟩,rfl⟩
theorem lB:GK 34 b44:=gk func34<|by
 rintro(r:Rw) ⟨h1,h2⟩;refine S1 (gC D0 (gC kU gN)) func34 Y9 (α:=∃(x:F7.ι),(V9 r.id (0:Int) 1000=true->((r.n.k=x.k/\r.n.n=x.n/\r.n.t=x.t/\True)/\True)/\dF x.t)/\∃(X:F7.ι),((V9 r.id (0:Int) (1000:Int)&&S7 x)=true->((r.name.k=X.k/\r.name.n=X.n/\r.name.t=X.t/\True)/\True)/\dF X.t)/\(V9 r.id (0:Int) (1000:Int)&&S7 x&&S7 X&&r.n.k !=2&&r.name.k !=1)=R9 r) ⟨r.n,λ_=>⟨Y2,h1⟩,r.name,λ_=>⟨Y2,h2⟩,?_⟩
 unfold R9;generalize V9 r.id 0 1000=a;generalize S7 r.n=b;generalize (r.n.k !=2)=c;generalize S7 r.name=d;cases a<;>cases b<;>cases c<;>cases d<;>rfl
structure Lck where
 tx:Int
 ta:Int
 row:Int
 mo:Int
 deriving Inhabited
def Lck.ts(l:Lck):List T:=[Ji l.tx,Ji l.ta,Ji l.row,Ji l.mo]
structure Wt where
 tx:Int
 fo:Int
 deriving Inhabited
def Wt.ts(w:Wt):List T:=[Ji w.tx,Ji w.fo]
def Y7(L:List Lck)(i:Nat):List T:=(L.getD i dz).ts
def a1V(L:List Lck):T:=.sl 4 L.length (Y7 L)
def Y5(L:List Wt)(i:Nat):List T:=(L.getD i dz).ts
def wtS(L:List Wt):T:=.sl 2 L.length (Y5 L)
structure Lks where
 H:List Lck
 W:List Wt
 deriving Inhabited
def Lks.ts(l:Lks):List T:=[a1V l.H,wtS l.W]
def sH(l:Lks):Option Ob:=some (.arr true 1000000 2 1 λ_=>l.ts)
def sW(a b:Int):Bool:=(a !=4)&&(b !=4)&&((a==1)||(b==1)||(a==b))
def qD(a b:Lck):Bool:=(a.tx==b.tx)&&((a.ta==b.ta)&&((a.row==b.row)&&((a.mo==b.mo)&&true)))
def tM(a b:Lck):Bool:=(a.ta==b.ta)&&(a.row==b.row)
def clash(a b:Lck):Bool:=(a.tx !=b.tx)&&tM a b&& !sW a.mo b.mo
def l9(l:Lck):Bool:=V9 l.tx 1 60&&V9 l.ta 1 3&&V9 l.row (-1) 1000&&V9 l.mo 1 4&&(decide (l.row<0)||decide (l.mo≥3))
def yB(L:List Lck)(a:Lck)(k:Nat):Bool:=qD a (L.getD k dz)||clash a (L.getD k dz)
def D3(L:List Lck)(i:Nat):Bool:= !l9 (L.getD i dz)||anyI i (yB L (L.getD i dz))
def B5(L:List Wt)(i:Nat):Bool:= !V9 (L.getD i dz).tx 1 60|| !V9 (L.getD i dz).fo 1 60||((L.getD i dz).tx==(L.getD i dz).fo)
def G3(l:Lks):Bool:= !anyI l.H.length (D3 l.H)&&(decide (l.H.length<=60)&&decide (l.W.length<=100)&& !anyI l.W.length (B5 l.W))
def b5Z(l:Lks):Prop:=M1 l.H.length/\M1 l.W.length
def b69:Con:=.rel ⟨Int,λn=>[Ji n],λn=>.bool (V9 n 1 4),λ_=>True⟩
theorem b36(n:Int)(h:
  V9 n (1:Int) 4=V9 n (1:Int) (4:Int)):
  V4 prog 237 [Ji n] (.bool (V9 n 1 4)):=
 S1 (gC M0 gN) func237 Y9 h
theorem b1A:GK 237 b69:=gk func237<|λn _=>b36 n rfl
def c29:Con:=.rel ⟨Int,λn=>[Ji n],λn=>.bool (V9 n 1 60),λ_=>True⟩
theorem c5K(n:Int)(h:
  V9 n (1:Int) 60=V9 n (1:Int) (60:Int)):
  V4 prog 174 [Ji n] (.bool (V9 n 1 60)):=
 S1 (gC M0 gN) func174 Y9 h
theorem a9A:GK 174 c29:=gk func174<|λn _=>c5K n rfl
def b6B:Con:=.rel ⟨Lck,λl=>[.agg l.ts],λl=>.bool (l9 l),λ_=>True⟩
theorem b6P(l:Lck)(h:
  ∃(x:Int),((l.tx=x/\True)/\True)/\∃(X:Int),((V9 x (1:Int) (60:Int)&&V9 l.ta (1:Int) (3:Int)&&V9 l.row (-1:Int) (1000:Int))=true->(l.mo=X/\True)/\True)/\(V9 x (1:Int) (60:Int)&&V9 l.ta (1:Int) (3:Int)&&V9 l.row (-1:Int) (1000:Int)&&V9 X (1:Int) (4:Int)&&(decide (l.row<0)||decide (l.mo≥(3:Int))))=l9 l):
  V4 prog 170 [.agg l.ts] (.bool (l9 l)):=
 S1 (gC a9A (gC M0 (gC b1A gN))) func170 Y9 h
theorem b28:GK 170 b6B:=gk func170<|λl _=>b6P l ⟨l.tx,Y2,l.mo,λ_=>Y2,rfl⟩
def b68:Con:=.rel ⟨Lck,λl=>l.ts,λl=>.bool (l9 l),λ_=>True⟩
theorem b01:GK 136 b68:=gk func136<|by
 intro(l:Lck) _;refine S1 (gC D0 gN) func136 Y9 (α:=(V9 l.tx (1:Int) (60:Int)&&V9 l.ta (1:Int) (3:Int)&&V9 l.row (-1:Int) (1000:Int)&&V9 l.mo (1:Int) (4:Int)&&(l.row==(-1:Int)||decide (l.mo≥(3:Int))))=l9 l) ?_
 unfold l9;cases h:V9 l.row (-1) 1000
 ·simp
 ·have d:=h;unfold V9 at d;simp only[O4,r8] at d;rw[show(l.row== -1)=decide (l.row<0) by rw[Bool.eq_iff_iff,beq_iff_eq,r8];omega]
def fU:Con:=.rel ⟨Int×Int,λx=>[Ji x.1,Ji x.2],λx=>.bool (sW x.1 x.2),λ_=>True⟩
def b7F:Con:=fU
theorem a78(a b:Int)(h:
  (a !=4&&b !=4&&(a==1||b==1||a==b))=sW a b):
  V4 prog 239 [Ji a,Ji b] (.bool (sW a b)):=
 S1 gN func239 Y9 h
theorem a4t:GK 239 fU:=gk func239<|λx _=>a78 x.1 x.2 rfl
theorem aQ:GK 137 b7F:=gk func137<|by
 rintro⟨a,b⟩ _;refine S1 gN func137 Y9 (α:=br (a==4||b==4) (false=sW a b) (br (a==1||b==1) (true=sW a b) ((a==b)=sW a b))) ⟨λh=>?_,λh=>⟨λg=>?_,λg=>?_⟩⟩<;>unfold sW<;>simp at*
 ·intro d e;rcases h with h|h<;>omega
 ·exact⟨h,by rcases g with g|g<;>simp[g]⟩
 ·rw[show(a !=4)=true by simpa using h.1,show(b !=4)=true by simpa using h.2,show(a==1)=false by simpa using g.1,show(b==1)=false by simpa using g.2]
  rfl
def a1t:Con:=.rel ⟨Lck×Lck,λx=>[.agg x.1.ts,.agg x.2.ts],λx=>.bool (tM x.1 x.2),λ_=>True⟩
theorem a16(a b:Lck)(h:
  (a.ta==b.ta&&a.row==b.row)=tM a b):
  V4 prog 238 [.agg a.ts,.agg b.ts] (.bool (tM a b)):=
 S1 gN func238 Y9 h
theorem qB:GK 238 a1t:=gk func238<|λx _=>a16 x.1 x.2 rfl
def b2U:Con:=.rel ⟨Lck×Lck,λx=>[.agg x.1.ts,.agg x.2.ts],λx=>.bool (clash x.1 x.2),λ_=>True⟩
theorem b2F(a b:Lck)(h:
  ∃(x:(Lck×Lck)),((a.tx !=b.tx)=true->((a.tx=x.1.tx/\a.ta=x.1.ta/\a.row=x.1.row/\a.mo=x.1.mo/\True)/\(b.tx=x.2.tx/\b.ta=x.2.ta/\b.row=x.2.row/\b.mo=x.2.mo/\True)/\True)/\True)/\∃(X:(Int×Int)),((a.tx !=b.tx&&tM x.1 x.2)=true->(a.mo=X.1/\b.mo=X.2/\True)/\True)/\(a.tx !=b.tx&&tM x.1 x.2&& !sW X.1 X.2)=clash a b):
  V4 prog 172 [.agg a.ts,.agg b.ts] (.bool (clash a b)):=
 S1 (gC qB (gC a4t gN)) func172 Y9 h
theorem dH:GK 172 b2U:=gk func172<|λx _=>b2F x.1 x.2 ⟨(x.1,x.2),λ_=>Y2,(x.1.mo,x.2.mo),λ_=>Y2,rfl⟩
def a7u:Con:=.rel ⟨Lck×Lck,λx=>[.agg x.2.ts,.bref x.1.ts],λx=>.bool (qD x.1 x.2||clash x.1 x.2),λ_=>True⟩
theorem a6p(a b:Lck)(h:
let p:=(a.ta==b.ta&&(a.row==b.row&&(a.mo==b.mo&&true)));  ∃(x:(Lck×Lck)),((a.tx==b.tx&&p)=false->((a.tx=x.1.tx/\a.ta=x.1.ta/\a.row=x.1.row/\a.mo=x.1.mo/\True)/\(b.tx=x.2.tx/\b.ta=x.2.ta/\b.row=x.2.row/\b.mo=x.2.mo/\True)/\True)/\True)/\(a.tx==b.tx&&p||clash x.1 x.2)=(qD a b||clash a b)):
  V4 prog 171 [.agg b.ts,.bref a.ts] (.bool (qD a b||clash a b)):=
 S1 (gC dH gN) func171 Y9 h
theorem a3m:GK 171 a7u:=gk func171<|λx _=>a6p x.1 x.2 ⟨(x.1,x.2),λ_=>Y2,rfl⟩
def b9f(a:Lck):T:=.fn (.func 171) [.bref a.ts]
def b2x:Con:=.rel ⟨List Lck×Nat×Lck,λx=>[.sl 4 x.2.1 (Y7 x.1),b9f x.2.2],λx=>Ji (Q9 x.2.1 (yB x.1 x.2.2)),λx=>M1 x.2.1⟩
def b0U(L:List Lck)(n:Nat)(a:Lck):Nat->Ann
 |0=>.one (U8 n (yB L a)) (λx=>⟨[(0,.sl 4 n (Y7 L)),(1,b9f a),(7,Ji n),(8,Ji x.1)],[]⟩) (λx=>n-x.1) [] [] (λ_=>Y9)
 |_=>.none
theorem a6E:GK 176 b2x:=gk func176<|by
 rintro⟨L,n,a⟩ (hL:n<1000000000000);refine S1 (gC a3m gN) func176 (b0U L n a) (α:=let z:=(n=n/\Z7 n (Y7 L) (Y7 L));let p:=(T.bref [Ji a.tx,Ji a.ta,Ji a.row,Ji a.mo]);(∃(x:U8 n (yB L a)),(z/\(Fn.func 171=Fn.func 171/\K4 (λ(x:Nat)=>none) p p/\True)/\(n:Int)=(n:Int)/\0=(x.1:Int)/\True)/\True)/\∀(x:U8 n (yB L a)),let r:=(x.1:Int);let q:=(L.getD r.toNat dz);bd (r<(n:Int)) (V7 r n/\∃(X:(Lck×Lck)),(((q.tx=X.2.tx/\q.ta=X.2.ta/\q.row=X.2.row/\q.mo=X.2.mo/\True)/\(a.tx=X.1.tx/\a.ta=X.1.ta/\a.row=X.1.row/\a.mo=X.1.mo/\True)/\True)/\True)/\br (qD X.1 X.2||clash X.1 X.2) (r=Q9 n (yB L a)) (Ri (r+1)/\∃(y:U8 n (yB L a)),((z/\(Fn.func 171=Fn.func 171/\K4 (λ(x:Nat)=>none) p p/\True)/\(n:Int)=(n:Int)/\r+1=(y.1:Int)/\True)/\True)/\Lt (n-y.1) (n-x.1))) ((-1:Int)=Q9 n (yB L a))) ⟨⟨F4,⟨Y2,⟨rfl,T5 _,Z6⟩,Y2⟩,Z6⟩,λx=>⟨λC=>?_,λC=>?_⟩⟩
 ·have h:=Y1 C;refine⟨Y3 h,(a,L.getD x.1 dz),Y2,λhp=>(N4 h hp x.2.2).symm,λhp=>⟨V5 h Z9,x.succ h hp,⟨⟨Y2,⟨rfl,T5 _,Z6⟩,rfl,J7,Z6⟩,Z6⟩,U8.ext_lt h⟩⟩
 ·have e:=X6 C;exact(K9 λj J=>x.2.2 j (yK J e)).symm
def b0A:Con:=.rel ⟨List Lck×Nat×Lck,λx=>[.sl 4 x.2.1 (Y7 x.1),b9f x.2.2],λx=>.bool (anyI x.2.1 (yB x.1 x.2.2)),λx=>M1 x.2.1⟩
theorem b1k(L:List Lck)(n:Nat)(a:Lck)(h:
  ∃(x:(List Lck×Nat×Lck)),(((n=x.2.1/\Z7 n (Y7 L) (Y7 x.1))/\(Fn.func 171=Fn.func 171/\(a.tx=x.2.2.tx/\a.ta=x.2.2.ta/\a.row=x.2.2.row/\a.mo=x.2.2.mo/\True)/\True)/\True)/\M1 x.2.1)/\decide (Q9 x.2.1 (yB x.1 x.2.2)≥(0:Int))=anyI n (yB L a)):
  V4 prog 99 [.sl 4 n (Y7 L),b9f a] (.bool (anyI n (yB L a))):=
 S1 (gC a6E gN) func99 Y9 h
theorem a7Q:GK 99 b0A:=gk func99<|λx h=>b1k x.1 x.2.1 x.2.2 ⟨x,⟨Y2,h⟩,F6 _ _⟩
def a6Q:Con:=.rel ⟨List Wt×Nat,λx=>[.agg (x.1.getD x.2 dz).ts],λx=>.bool (B5 x.1 x.2),λ_=>True⟩
theorem a6e(L:List Wt)(i:Nat)(h:
let p:=(L.getD i dz);  ∃(x:Int),((p.tx=x/\True)/\True)/\∃(X:Int),((!V9 x (1:Int) (60:Int))=false->(p.fo=X/\True)/\True)/\(!V9 x (1:Int) (60:Int)|| !V9 X (1:Int) (60:Int)||p.tx==p.fo)=B5 L i):
  V4 prog 173 [.agg (L.getD i dz).ts] (.bool (B5 L i)):=
 S1 (gC a9A gN) func173 Y9 h
theorem a23:GK 173 a6Q:=gk func173<|λx _=>a6e x.1 x.2 ⟨_,Y2,_,λ_=>Y2,rfl⟩
def b7Q:Con:=.rel ⟨List Wt,λL=>[wtS L,fnT 173],λL=>.int .i64 (Q9 L.length (B5 L)),λL=>M1 L.length⟩
def b48(L:List Wt):Nat->Ann
 |0=>.one (U8 L.length (B5 L)) (λx=>⟨[(0,wtS L),(1,fnT 173),(7,Ji L.length),(8,Ji x.1)],[]⟩) (λx=>L.length-x.1) [] [] (λ_=>Y9)
 |_=>.none
theorem b2l:GK 179 b7Q:=gk func179<|by
 intro(L:List Wt) (hL:L.length<1000000000000);refine S1 (gC a23 gN) func179 (b48 L) (α:=let r:=(Fn.func 173);let q:=(L.length:Int);(∃(x:U8 L.length (B5 L)),((Z2 Y5 L L)/\Value.func r #[] #[]=Value.func r #[] #[]/\q=q/\0=(x.1:Int)/\True)/\True)/\∀(x:U8 L.length (B5 L)),let p:=(x.1:Int);let z:=(L.getD p.toNat dz);bd (p<q) (V7 p L.length/\∃(X:(List Wt×Nat)),let u:=(X.1.getD X.2 dz);(((z.tx=u.tx/\z.fo=u.fo/\True)/\True)/\True)/\br (B5 X.1 X.2) (p=Q9 L.length (B5 L)) (Ri (p+1)/\∃(y:U8 L.length (B5 L)),(((Z2 Y5 L L)/\Value.func r #[] #[]=Value.func r #[] #[]/\q=q/\p+1=(y.1:Int)/\True)/\True)/\Lt (L.length-y.1) (L.length-x.1))) ((-1:Int)=Q9 L.length (B5 L))) ⟨⟨F4,Y2⟩,λx=>⟨λC=>?_,λC=>?_⟩⟩
 ·have h:=Y1 C;refine⟨Y3 h,(L,x.1),Y2,λhp=>(N4 h hp x.2.2).symm,λhp=>⟨V5 h Z9,x.succ h hp,⟨⟨Y2,rfl,rfl,J7,Z6⟩,Z6⟩,U8.ext_lt h⟩⟩
 ·have e:=X6 C;exact(K9 λj J=>x.2.2 j (yK J e)).symm
def b8c:Con:=.rel ⟨List Wt,λL=>[wtS L,fnT 173],λL=>.bool (anyI L.length (B5 L)),λL=>M1 L.length⟩
theorem b53(L:List Wt)(h:
  ∃(x:(List Wt)),(((Z2 Y5 L x)/\Value.func (Fn.func 173) #[] #[]=Value.func (Fn.func 173) #[] #[]/\True)/\M1 (x.length))/\decide (Q9 (x.length) (B5 x)≥(0:Int))=anyI L.length (B5 L)):
  V4 prog 102 [wtS L,fnT 173] (.bool (anyI L.length (B5 L))):=
 S1 (gC b2l gN) func102 Y9 h
theorem b1h:GK 102 b8c:=gk func102<|λ(L:List Wt) hL=>b53 L ⟨L,⟨Y2,hL⟩,F6 _ _⟩
def rN:Rl:=⟨Lks,λl=>[.agg l.ts],λl=>.bool (G3 l),b5Z⟩
def a5x:Con:=.rel rN
def a61:Con:=.rel rN
def a7F(l:Lks):Nat->Ann
 |0=>.one (U8 l.H.length (D3 l.H)) (λx=>⟨[(1,.ref 0 0 0),(6,a1V l.H),(7,Ji l.H.length),(8,Ji x.1)],[sH l]⟩) (λx=>l.H.length-x.1) [.box 0] [.box 0] (λ_=>Y9)
 |_=>.none
theorem a2M:GK 97 a5x:=gk func97<|by
 rintro(l:Lks) ⟨h,hw⟩;have h:l.H.length<1000000000000:=h;refine S1 (gC b28 (gC a7Q (gC b1h gN))) func97 (a7F l) (α:=let v:=((l.W.length:Int)<=100);let u:=(Z2 Y7 l.H l.H);let z:=(oo (u/\(Z2 Y5 l.W l.W)/\True));let q:=(l.H.length:Int);(∃(x:U8 l.H.length (D3 l.H)),((0=0/\0=0)/\u/\q=q/\0=(x.1:Int)/\True)/\z/\True)/\∀(x:U8 l.H.length (D3 l.H)),let r:=(x.1:Int);let p:=(l.H.getD r.toNat dz);bd (r<q) (V7 r l.H.length/\∃(d:Lck),(((p.tx=d.tx/\p.ta=d.ta/\p.row=d.row/\p.mo=d.mo/\True)/\True)/\True)/\((!l9 d)=false->jH r l.H.length)/\∃(X:(List Lck×Nat×Lck)),((!l9 d)=false->((r.toNat=X.2.1/\Z7 r.toNat (Y7 l.H) (Y7 X.1))/\(Fn.func 171=Fn.func 171/\(p.tx=X.2.2.tx/\p.ta=X.2.2.ta/\p.row=X.2.2.row/\p.mo=X.2.2.mo/\True)/\True)/\True)/\M1 X.2.1)/\br (!l9 d||anyI X.2.1 (yB X.1 X.2.2)) (false=G3 l) (Ri (r+1)/\∃(y:U8 l.H.length (D3 l.H)),(((0=0/\0=0)/\u/\q=q/\r+1=(y.1:Int)/\True)/\z/\True)/\Lt (l.H.length-y.1) (l.H.length-x.1))) (∃(x:(List Wt)),((decide (q<=60)&&decide v)=true->((Z2 Y5 l.W x)/\Value.func (Fn.func 173) #[] #[]=Value.func (Fn.func 173) #[] #[]/\True)/\M1 (x.length))/\(decide (q<=60)&&decide v&& !anyI (x.length) (B5 x))=G3 l)) ⟨⟨F4,Y2⟩,λx=>⟨λhc=>?_,λhc=>?_⟩⟩
 ·have hlt:=Y1 hc;refine⟨Y3 hlt,l.H.getD x.1 dz,Y2,λ_=>⟨Z9,Z9⟩,(l.H,x.1,l.H.getD x.1 dz),λ_=>⟨⟨⟨F3,W2 _ _⟩,Y2⟩,by show x.1<1000000000000;omega⟩,λhb=>?_,λhb=>⟨V5 hlt Z9,x.succ hlt hb,⟨⟨Y2,Y2,rfl,J7,Z6⟩,Y2⟩,U8.ext_lt hlt⟩⟩
  have:anyI l.H.length (D3 l.H)=true:=U3.2 ⟨x.1,hlt,hb⟩;unfold G3;rw[this];rfl
 ·have hge:=X6 hc;have:anyI l.H.length (D3 l.H)=false:=R8.2 λi hi=>x.2.2 i (yK hi hge)
  refine⟨l.W,λ_=>⟨Y2,hw⟩,?_⟩
  unfold G3;rw[this,Bool.not_false,Bool.true_and];congr 2<;>exact decide_eq_decide.2 Z9
def c2A(L:List Lck)(a:Lck)(k:Nat):Bool:=(a.ta==(L.getD k dz).ta)&&(a.row==(L.getD k dz).row)&&(qD a (L.getD k dz)||(a.tx !=(L.getD k dz).tx)&& !sW a.mo (L.getD k dz).mo)
def a7z(l:Lks):Nat->Ann
 |0=>.one (U8 l.H.length (D3 l.H)) (λx=>⟨[(1,.ref 0 0 0),(3,Ji x.1)],[sH l]⟩) (λx=>l.H.length-x.1) [.box 0] [.box 0] (λx=>fun
  |1=>.one (U8 x.1 (yB l.H (l.H.getD x.1 dz))) (λy=>⟨[(1,.ref 0 0 0),(3,Ji x.1),(4,.ref 1 0 0),(5,Ji y.1)],[sH l,some (.arr true 1000000 4 1 λ_=>(l.H.getD x.1 dz).ts)]⟩) (λy=>x.1-y.1) uY uY (λ_=>Y9)
  |2=>.one (U8 l.W.length (B5 l.W)) (λy=>⟨[(1,.ref 0 0 0),(7,Ji y.1)],[sH l]⟩) (λy=>l.W.length-y.1) [.box 0] [.box 0] (λ_=>Y9)
  |_=>.none)
 |_=>.none
theorem b4r(L:List Lck)(a:Lck)(k:Nat):c2A L a k=yB L a k:=by
 unfold c2A yB clash qD tM;generalize (a.ta==(L.getD k dz).ta)=p;generalize (a.row==(L.getD k dz).row)=q;generalize (a.mo==(L.getD k dz).mo)=r;generalize sW a.mo (L.getD k dz).mo=t;rw[show(a.tx !=(L.getD k dz).tx)= !(a.tx==(L.getD k dz).tx) from rfl]
 generalize (a.tx==(L.getD k dz).tx)=u;cases p<;>cases q<;>cases r<;>cases t<;>cases u<;>rfl
theorem a5n:GK 71 a61:=gk func71<|by
 rintro(l:Lks) ⟨L,W⟩;have L:l.H.length<1000000000000:=L;have W:l.W.length<1000000000000:=W;have bh:∀i,i<l.H.length->D3 l.H i=true->false=G3 l:=λi hi hb=>by
  have:anyI l.H.length (D3 l.H)=true:=U3.2 ⟨i,hi,hb⟩;unfold G3;rw[this];rfl
 refine S1 (gC b01 (gC aQ (gC D0 gN))) func71 (a7z l) (α:=let a:=(l.W.length:Int);let g:=(l.H.length:Int);let n:=(false=G3 l);let w:=(0=0/\0=0);let r:=(oo ((Z2 Y7 l.H l.H)/\(Z2 Y5 l.W l.W)/\True));br (decide (g>60)||decide (a>100)) n ((∃(x:U8 l.H.length (D3 l.H)),(w/\0=(x.1:Int)/\True)/\r/\True)/\∀(x:U8 l.H.length (D3 l.H)),let v:=(x.1:Int);let z:=(l.H.getD v.toNat dz);let p:=(l.H.getD x.1 dz);let f:=p.row;bd (v<g) (V7 v l.H.length/\∃(d:Lck),((z.tx=d.tx/\z.ta=d.ta/\z.row=d.row/\z.mo=d.mo/\True)/\True)/\br (!l9 d) n ((∃(X:U8 x.1 (yB l.H (l.H.getD x.1 dz))),(w/\v=v/\w/\0=(X.val:Int)/\True)/\r/\(oo (z.tx=p.tx/\z.ta=p.ta/\z.row=f/\z.mo=p.mo/\True))/\True)/\∀(X:U8 x.1 (yB l.H (l.H.getD x.1 dz))),let k:=(X.val:Int);let q:=(l.H.getD k.toNat dz);let j:=(p.ta==q.ta&&(f==q.row&&(p.mo==q.mo&&true)));bd (k<v) (V7 k l.H.length/\∃(e:(Int×Int)),((p.ta==q.ta&&f==q.row)=true->(p.tx==q.tx&&j)=false->(p.tx !=q.tx)=true->(p.mo=e.1/\q.mo=e.2/\True)/\True)/\br (p.ta==q.ta&&f==q.row&&(p.tx==q.tx&&j||p.tx !=q.tx&& !sW e.1 e.2)) n (Ri (k+1)/\∃(y:U8 x.1 (yB l.H (l.H.getD x.1 dz))),((w/\v=v/\w/\k+1=(y.1:Int)/\True)/\r/\(oo (p.tx=p.tx/\p.ta=p.ta/\f=f/\p.mo=p.mo/\True))/\True)/\Lt (x.1-y.1) (x.1-X.val))) (Ri (v+1)/\∃(y:U8 l.H.length (D3 l.H)),((w/\v+1=(y.1:Int)/\True)/\r/\True)/\Lt (l.H.length-y.1) (l.H.length-x.1)))) ((∃(x:U8 l.W.length (B5 l.W)),(w/\0=(x.1:Int)/\True)/\r/\True)/\∀(x:U8 l.W.length (B5 l.W)),let m:=(x.1:Int);let u:=(l.W.getD m.toNat dz);bd (m<a) (V7 m l.W.length/\br (!V9 u.tx (1:Int) (60:Int)|| !V9 u.fo (1:Int) (60:Int)||u.tx==u.fo) n (Ri (m+1)/\∃(y:U8 l.W.length (B5 l.W)),((w/\m+1=(y.1:Int)/\True)/\r/\True)/\Lt (l.W.length-y.1) (l.W.length-x.1))) (true=G3 l)))) ⟨λh=>?_,λh=>⟨⟨F4,Y2⟩,λx=>⟨λhc=>?_,λhc=>⟨⟨F4,Y2⟩,λy=>⟨λhy=>?_,λhy=>?_⟩⟩⟩⟩⟩
 ·simp only[tB,r8] at h;unfold G3;rcases h with h|h
  ·rw[uG (p:=l.H.length<=60) Z9]
   simp
  ·rw[uG (p:=l.W.length<=100) Z9]
   simp
 ·have hlt:=Y1 hc;refine⟨Y3 hlt,l.H.getD x.1 dz,Y2,λhb=>bh _ hlt (by unfold D3;rw[hb];rfl),λhb=>⟨⟨F4,Y2⟩,λy=>⟨λhy=>?_,λhy=>?_⟩⟩⟩
  ·have hyt:=Y1 hy;refine⟨Y3 Z9,((l.H.getD x.1 dz).mo,(l.H.getD y.1 dz).mo),λ_ _ _=>Y2,λhq=>?_,λhq=>⟨V5 hyt Z9,y.succ hyt ((b4r _ _ _).symm.trans hq),⟨⟨Y2,rfl,Y2,J7,Z6⟩,Y2⟩,U8.ext_lt hyt⟩⟩
   refine bh _ hlt ?_
   unfold D3;have:anyI x.1 (yB l.H (l.H.getD x.1 dz))=true:=U3.2 ⟨y.1,hyt,(b4r _ _ _).symm.trans hq⟩;rw[this,Bool.or_true]
  ·have hge:=X6 hy;have:anyI x.1 (yB l.H (l.H.getD x.1 dz))=false:=R8.2 λi hi=>y.2.2 i (yK hi hge)
   exact⟨V5 hlt Z9,x.succ hlt (by unfold D3;rw[hb,this];rfl),⟨⟨⟨rfl,rfl⟩,J7,Z6⟩,⟨rfl,rfl,⟨rfl,W2 _ _⟩,⟨rfl,W2 _ _⟩,Z6⟩,Z6⟩,U8.ext_lt hlt⟩
 ·have hlt:=Y1 hy;refine⟨Y3 hlt,λhq=>?_,λhq=>⟨V5 hlt Z9,y.succ hlt hq,⟨⟨Y2,J7,Z6⟩,Y2⟩,U8.ext_lt hlt⟩⟩
  have:anyI l.W.length (B5 l.W)=true:=U3.2 ⟨y.1,hlt,hq⟩;unfold G3;rw[this];simp
 ·have g1:=X6 hc;have g2:=X6 hy;have e1:anyI l.H.length (D3 l.H)=false:=R8.2 λi hi=>x.2.2 i (yK hi g1)
  have f:anyI l.W.length (B5 l.W)=false:=R8.2 λi hi=>y.2.2 i (yK hi g2)
  simp only[zV,qN] at h;unfold G3;rw[e1,f,qK (p:=l.H.length<=60) Z9,qK (p:=l.W.length<=100) Z9]
  rfl
structure Txn where
 id:Int
 Z:Int
 deriving Inhabited
def Txn.ts(t:Txn):List T:=[Ji t.id,Ji t.Z]
def V1(L:List Txn)(i:Nat):List T:=(L.getD i dz).ts
def a3s(L:List Txn):T:=.sl 2 L.length (V1 L)
structure Eng where
 s:Sto
 up:Bool
 X:List Txn
 lk:Lks
 N:Int
 deriving Inhabited
def Eng.ts(e:Eng):List T:=[zA e.s.d.E,qC e.s.d.C,.bool e.s.d.A,bY e.s.d.keep,Ji e.s.ep,pG e.s.L,Ji e.s.S,a5V e.s.fr,Ji e.s.J,.bool e.up,a3s e.X,a1V e.lk.H,wtS e.lk.W,Ji e.N]
abbrev Q7(a b:Eng):Prop:=(a.s.d.E.length=b.s.d.E.length/\Z7 a.s.d.E.length (Z5 a.s.d.E) (Z5 b.s.d.E))/\(a.s.d.C.length=b.s.d.C.length/\Z7 a.s.d.C.length (Y6 a.s.d.C) (Y6 b.s.d.C))/\a.s.d.A=b.s.d.A/\(a.s.d.keep.length=b.s.d.keep.length/\Z7 a.s.d.keep.length (Y8 a.s.d.keep) (Y8 b.s.d.keep))/\a.s.ep=b.s.ep/\(a.s.L.length=b.s.L.length/\Z7 a.s.L.length (Y0 a.s.L) (Y0 b.s.L))/\a.s.S=b.s.S/\(a.s.fr.length=b.s.fr.length/\Z7 a.s.fr.length (V2 a.s.fr) (V2 b.s.fr))/\a.s.J=b.s.J/\a.up=b.up/\(a.X.length=b.X.length/\Z7 a.X.length (V1 a.X) (V1 b.X))/\(a.lk.H.length=b.lk.H.length/\Z7 a.lk.H.length (Y7 a.lk.H) (Y7 b.lk.H))/\(a.lk.W.length=b.lk.W.length/\Z7 a.lk.W.length (Y5 a.lk.W) (Y5 b.lk.W))/\a.N=b.N/\True
theorem xR(s:Eng):Q7 s s:=Y2
theorem a8F{p:Prop}(h:p:=by rw[eB];exact xR _):p:=h
def G9(e:Eng):Option Ob:=some (.arr true 1000000 14 1 λ_=>e.ts)
def b9(L:List Txn)(id:Int)(i:Nat):Bool:=(L.getD i dz).id==id
def S8(L:List Txn)(id:Int):Int:=Q9 L.length (b9 L id)
def c07:Con:=.rel ⟨Txn×Int,λx=>[.agg x.1.ts,.bref [Ji x.2]],λx=>.bool (x.1.id==x.2),λ_=>True⟩
theorem b9R(t:Txn)(id:Int)(h:
  (t.id==id)=(t.id==id)):
  V4 prog 178 [.agg t.ts,.bref [Ji id]] (.bool (t.id==id)):=
 S1 gN func178 Y9 h
theorem b41:GK 178 c07:=gk func178<|λx _=>b9R x.1 x.2 rfl
def txF(id:Int):T:=.fn (.func 178) [.bref [Ji id]]
def b6b:Con:=.rel ⟨List Txn×Int,λx=>[a3s x.1,txF x.2],λx=>Ji (S8 x.1 x.2),λx=>M1 x.1.length⟩
def b5d(L:List Txn)(id:Int):Nat->Ann
 |0=>.one (U8 L.length (b9 L id)) (λx=>⟨[(0,a3s L),(1,txF id),(7,Ji L.length),(8,Ji x.1)],[]⟩) (λx=>L.length-x.1) [] [] (λ_=>Y9)
 |_=>.none
theorem b2e:GK 177 b6b:=gk func177<|by
 rintro⟨L,id⟩ (hL:L.length<1000000000000);refine S1 (gC b41 gN) func177 (b5d L id) (α:=let r:=(L.length:Int);let p:=(T.bref [Ji id]);(∃(x:U8 L.length (b9 L id)),((Z2 V1 L L)/\(Fn.func 178=Fn.func 178/\K4 (λ(x:Nat)=>none) p p/\True)/\r=r/\0=(x.1:Int)/\True)/\True)/\∀(x:U8 L.length (b9 L id)),let q:=(x.1:Int);let z:=(L.getD q.toNat dz);bd (q<r) (V7 q L.length/\∃(X:(Txn×Int)),(((z.id=X.1.id/\z.Z=X.1.Z/\True)/\(id=X.2/\True)/\True)/\True)/\br (X.1.id==X.2) (q=S8 L id) (Ri (q+1)/\∃(y:U8 L.length (b9 L id)),(((Z2 V1 L L)/\(Fn.func 178=Fn.func 178/\K4 (λ(x:Nat)=>none) p p/\True)/\r=r/\q+1=(y.1:Int)/\True)/\True)/\Lt (L.length-y.1) (L.length-x.1))) ((-1:Int)=S8 L id)) ⟨⟨F4,⟨Y2,⟨rfl,T5 _,Z6⟩,Y2⟩,Z6⟩,λx=>⟨λC=>?_,λC=>?_⟩⟩
 ·have h:=Y1 C;refine⟨Y3 h,(L.getD x.1 dz,id),Y2,λhp=>(N4 h hp x.2.2).symm,λhp=>⟨V5 h Z9,x.succ h hp,⟨⟨Y2,⟨rfl,T5 _,Z6⟩,rfl,J7,Z6⟩,Z6⟩,U8.ext_lt h⟩⟩
 ·have e:=X6 C;exact(K9 λj J=>x.2.2 j (yK J e)).symm
def c4d:Con:=.rel ⟨Eng×Int,λx=>[.bref x.1.ts,Ji x.2],λx=>Ji (S8 x.1.X x.2),λx=>M1 x.1.X.length⟩
theorem c4A(e:Eng)(id:Int)(h:
  ∃(x:(List Txn×Int)),(((Z2 V1 e.X x.1)/\(Fn.func 178=Fn.func 178/\(id=x.2/\True)/\True)/\True)/\M1 x.1.length)/\S8 x.1 x.2=S8 e.X id):
  V4 prog 101 [.bref e.ts,Ji id] (.int .i64 (S8 e.X id)):=
 S1 (gC b2e gN) func101 Y9 h
theorem jB:GK 101 c4d:=gk func101<|λx h=>c4A x.1 x.2 ⟨(x.1.X,x.2),⟨Y2,h⟩,rfl⟩
def b90:Con:=.rel ⟨Eng×Int,λx=>[.agg x.1.ts,Ji x.2],λx=>Ji (S8 x.1.X x.2),λx=>M1 x.1.X.length⟩
def b8g(e:Eng)(id:Int):Nat->Ann
 |0=>.one (U8 e.X.length (b9 e.X id)) (λx=>⟨[(1,Ji id),(2,.ref 0 0 0),(5,Ji x.1)],[G9 e]⟩) (λx=>e.X.length-x.1) [.box 0] [.box 0] (λ_=>Y9)
 |_=>.none
theorem a4W:GK 73 b90:=gk func73<|by
 rintro⟨e,id⟩ (hL:e.X.length<1000000000000);refine S1 gN func73 (b8g e id) (α:=(∃(x:U8 e.X.length (b9 e.X id)),(id=id/\(0=0/\0=0)/\0=(x.1:Int)/\True)/\(oo (Q7 e e))/\True)/\∀(x:U8 e.X.length (b9 e.X id)),let p:=(x.1:Int);bd (p<(e.X.length:Int)) (V7 p e.X.length/\br ((e.X.getD p.toNat dz).id==id) (p=S8 e.X id) (Ri (p+1)/\∃(y:U8 e.X.length (b9 e.X id)),((id=id/\(0=0/\0=0)/\p+1=(y.1:Int)/\True)/\(oo (Q7 e e))/\True)/\Lt (e.X.length-y.1) (e.X.length-x.1))) ((-1:Int)=S8 e.X id)) ⟨⟨F4,Y2⟩,λx=>⟨λC=>?_,λC=>?_⟩⟩
 ·have h:=Y1 C;exact⟨Y3 h,λhp=>(N4 h hp x.2.2).symm,λhp=>⟨V5 h Z9,x.succ h hp,⟨⟨rfl,Y2,J7,Z6⟩,Y2⟩,U8.ext_lt h⟩⟩
 ·have d:=X6 C;exact(K9 λj J=>x.2.2 j (yK J d)).symm
def X8(L:List Rec)(at_:Int):Rec:=L.getD (at_-1).toNat dz
def ownR(L:List Rec)(at_ id:Int):Bool:=V9 at_ 1 L.length&&((X8 L at_).t==id)&&V9 (X8 L at_).k 1 3
def okR(L:List Rec)(id at_:Int):Bool:=ownR L at_ id&&((X8 L at_).k !=3||ownR L (X8 L at_).n id)
def chn(L:List Rec)(id:Int):Nat->Int->Bool
 |0,_=>true
 |f+1,at_=>decide (at_<=0)||(okR L id at_&&chn L id f (X8 L at_).p)
def nX(L:List Rec)(t:Txn):Bool:=V9 t.Z 1 L.length&&chn L t.id 61 t.Z
def m9(L:List Rec):Prop:=L.length<=60/\∀i,i<L.length->C8 (L.getD i dz)/\(L.getD i dz).l=(i:Int)+1
def b9y:Con:=.rel ⟨Sto×Int×Int,λx=>[.bref x.1.ts,Ji x.2.1,Ji x.2.2],λx=>.bool (ownR x.1.L x.2.1 x.2.2),λx=>M1 x.1.L.length⟩
theorem T2{n l hi:Int}:V9 n l hi=true↔l<=n/\n<=hi:=by
 unfold V9;simp only[O4,r8]
theorem b6p:GK 175 b9y:=gk func175<|by
 rintro⟨s,at_,id⟩ (hL:s.L.length<1000000000000);have k1:V9 at_ 1 s.L.length=true->O7 .i64 (at_-1)/\V7 (at_-1) s.L.length:=λh=>by
  obtain⟨d,e⟩:=T2.1 h;exact⟨Z3 Z9,Z9,Z9⟩
 exact S1 (gC M0 gN) func175 Y9 (α:=let q:=(s.L.length:Int);let p:=(s.L.getD (at_-1).toNat dz);let r:=(V9 at_ (1:Int) q&&p.t==id);(V9 at_ (1:Int) q=true->Ri (at_-1))/\(V9 at_ (1:Int) q=true->V7 (at_-1) s.L.length)/\(r=true->Ri (at_-1))/\(r=true->V7 (at_-1) s.L.length)/\(V9 at_ (1:Int) q&&p.t==id&&V9 p.k (1:Int) (3:Int))=ownR s.L at_ id) ⟨λh=>(k1 h).1,λh=>(k1 h).2,λh=>(k1 (Bool.and_eq_true_iff.1 h).1).1,λh=>(k1 (Bool.and_eq_true_iff.1 h).1).2,rfl⟩
theorem m9.at{L:List Rec}(h:m9 L){at_:Int}(d:1<=at_)(e:at_<=L.length):C8 (X8 L at_)/\(X8 L at_).l=at_:=by
 obtain⟨a,b⟩:=h.2 (at_-1).toNat Z9
 exact⟨a,by unfold X8;rw[b];omega⟩
theorem m9.prev{L:List Rec}(h:m9 L){at_:Int}(e:1<=at_)(d:at_<=L.length):0<=(X8 L at_).p/\(X8 L at_).p<=at_-1/\0<=(X8 L at_).n/\(X8 L at_).n<=at_-1:=by
 obtain⟨a,b⟩:=h.at e d;obtain⟨_,_,_,_,_,_,Q,g,f,q,_⟩:=a;omega
theorem yQ{L:List Rec}{at_ id:Int}(h:ownR L at_ id=true):1<=at_/\at_<=L.length:=by
 unfold ownR at h;simp only[O4] at h;exact T2.1 h.1.1
theorem gS(L:List Rec)(id:Int){f:Nat}(F:0<f){at_:Int}(h:1<=at_):chn L id f at_=(okR L id at_&&chn L id (f-1) (X8 L at_).p):=by
 obtain⟨g,rfl⟩:∃g,f=g+1:=⟨f-1,Z9⟩
 show(decide (at_<=0)||_)=_;rw[uG Z9,Bool.false_or]
 rfl
theorem a3G(L:List Rec)(id:Int)(f:Nat){at_:Int}(h:at_<=0):chn L id f at_=true:=by
 cases f with
 |zero=>rfl
 |succ f=>show(decide (at_<=0)||_)=_;rw[qK h];rfl
def b3Y(t:Txn):Option Ob:=some (.arr true 1000000 2 1 λ_=>t.ts)
def Chn(L:List Rec)(t:Txn):Type:={x:Nat×Int//0<x.1/\(V9 x.2 1 L.length&&chn L t.id x.1 x.2)=nX L t/\(x.2.toNat<x.1∨x.1=61)}
def b1i:Con:=.rel ⟨Sto×Txn,λx=>[.bref x.1.ts,.agg x.2.ts],λx=>.bool (nX x.1.L x.2),λx=>m9 x.1.L⟩
def b1b(s:Sto)(t:Txn):Nat->Ann
 |0=>.one (Chn s.L t) (λx=>⟨[(0,.bref s.ts),(3,.ref 0 0 0),(5,Ji x.1.2)],[b3Y t]⟩) (λx=>x.1.1) [.box 0] [.box 0] (λ_=>Y9)
 |_=>.none
theorem a74:GK 98 b1i:=gk func98<|by
 rintro⟨s,t⟩ (hL:m9 s.L);have j:=hL.1;refine S1 (gC b6p gN) func98 (b1b s t) (α:=let v:=(false=nX s.L t);let z:=(oo (t.id=t.id/\t.Z=t.Z/\True));let r:=(T.bref s.ts);(∃(x:Chn s.L t),(K4 (u7 [some 0]) r r/\(0=0/\0=0)/\t.Z=x.1.2/\True)/\z/\True)/\∀(x:Chn s.L t),let u:=(x.1.2-1);let q:=(s.L.getD u.toNat dz);∃(X:(Sto×Int×Int)),(((o6 s X.1)/\x.1.2=X.2.1/\t.id=X.2.2/\True)/\M1 X.1.L.length)/\br (!ownR X.1.L X.2.1 X.2.2) v (Ri u/\V7 u s.L.length/\∃(d:(Sto×Int×Int)),((q.k==3)=true->((o6 s d.1)/\q.n=d.2.1/\t.id=d.2.2/\True)/\M1 d.1.L.length)/\br (q.k==3&& !ownR d.1.L d.2.1 d.2.2) v (br (q.p==0) (true=nX s.L t) (∃(y:Chn s.L t),((K4 (u7 [some 0]) r r/\(0=0/\0=0)/\q.p=y.1.2/\True)/\z/\True)/\Lt y.1.1 x.1.1)))) ⟨⟨⟨(61,t.Z),Nat.succ_pos 60,rfl,.inr rfl⟩,⟨T5 _,Y2⟩,Y2⟩,λx=>?_⟩
 obtain⟨⟨f,at_⟩,hf,he,B⟩:=x;dsimp only at hf he B ⊢;refine⟨(s,at_,t.id),⟨⟨(jO _),Y2⟩,by unfold M1;simp only;omega⟩,λho=>?_,λho=>?_⟩
 ·simp only[xV] at ho;rw[←he];cases hi:V9 at_ 1 s.L.length
  ·rfl
  ·obtain⟨q1,q2⟩:=T2.1 hi;rw[gS _ _ hf q1];unfold okR;rw[ho];rfl
 ·simp only[zF] at ho;obtain⟨q1,q2⟩:=yQ ho;have hi:V9 at_ 1 s.L.length=true:=T2.2 ⟨q1,q2⟩;rw[hi,Bool.true_and,gS _ _ hf q1] at he;obtain⟨p1,p2,_⟩:=hL.prev q1 q2;have eo:okR s.L t.id at_=((X8 s.L at_).k !=3||ownR s.L (X8 s.L at_).n t.id):=by unfold okR;rw[ho,Bool.true_and]
  refine⟨Z3 Z9,⟨Z9,Z9⟩,(s,(X8 s.L at_).n,t.id),λ_=>⟨⟨(jO _),Y2⟩,by unfold M1;simp only;omega⟩,λe=>?_,λe=>⟨λg=>?_,λg=>?_⟩⟩
  ·have e:((X8 s.L at_).k==3&& !ownR s.L (X8 s.L at_).n t.id)=true:=e;rw[←he,eo];simp only[O4,xV,beq_iff_eq] at e;rw[e.1,e.2];rfl
  ·have e:((X8 s.L at_).k==3&& !ownR s.L (X8 s.L at_).n t.id)=false:=e;have g:(X8 s.L at_).p=0:=beq_iff_eq.1 g;have i:okR s.L t.id at_=true:=by
    rw[eo,←zF,Bool.not_or,show(!((X8 s.L at_).k !=3))=((X8 s.L at_).k==3) by simp[bne]]
    exact e
   rw[←he,i,g,a3G _ _ _ (Int.le_refl 0)];rfl
  ·have e:((X8 s.L at_).k==3&& !ownR s.L (X8 s.L at_).n t.id)=false:=e;have g:(X8 s.L at_).p≠0:=λh=>by
    have g:((X8 s.L at_).p==0)=false:=g;rw[h] at g;cases g
   have i:okR s.L t.id at_=true:=by
    rw[eo,←zF,Bool.not_or,show(!((X8 s.L at_).k !=3))=((X8 s.L at_).k==3) by simp[bne]]
    exact e
   rw[i,Bool.true_and] at he;refine⟨⟨(f-1,(X8 s.L at_).p),F3,?_,F3⟩,⟨⟨T5 _,Y2⟩,Y2⟩,show f-1<f by omega⟩
   simp only;rw[T2.2 (show 1<=(X8 s.L at_).p/\(X8 s.L at_).p<=(s.L.length:Int) by omega),Bool.true_and]
   exact he
def und(L:List Rec):Nat->Int->Nat
 |0,_=>0
 |f+1,at_=>if at_<=0 then 0 else if(X8 L at_).k=3 then und L f (X8 L at_).n else(if(X8 L at_).k=2 then 1 else 0)+und L f (X8 L at_).p
def gQ(m:Nat):Option Ob:=some (.arr true 1000000 1 1 λ_=>[Ji m])
def b67:Con:=.reff ⟨Rec×Nat,λx=>[.agg x.1.ts,.ref 0 0 0],λx=>[gQ x.2],λ_=>.bool true,λx=>[gQ (x.2+1)],λx=>x.2<1000⟩
theorem b08:GK 240 b67:=gk func240<|by
 rintro⟨r,m⟩ (h:m<1000);exact vcE gN func240 Y9 (bs:=[true]) (α:=Ri ((m:Int)+1)/\true=true/\(oo ((m:Int)+1=(↑(m+1):Int)/\True))/\True) ⟨Z3 Z9,rfl,⟨rfl,rfl,Z9,Z6⟩,Z6⟩
def rY(L:List Rec)(at_:Int):Prop:=m9 L/\at_<=(L.length:Int)
def b1s:Con:=.reff ⟨Sto×Int,λx=>[.bref x.1.ts,Ji x.2,.fn (.func 240) [.ref 0 0 0]],λ_=>[gQ 1],λ_=>.tup [],λx=>[gQ (1+und x.1.L 61 x.2)],λx=>rY x.1.L x.2⟩
def Und(L:List Rec)(f:Int):Type:={x:Nat×Int×Nat//x.2.2+und L x.1 x.2.1=1+und L 61 f/\x.2.1<=(L.length:Int)/\x.2.1.toNat<x.1/\x.2.2+x.1<=100}
def b1S(s:Sto)(f:Int):Nat->Ann
 |0=>.one (Und s.L f) (λx=>⟨[(0,.bref s.ts),(1,Ji x.1.2.1),(2,.fn (.func 240) [.ref 0 0 0])],[gQ x.1.2.2]⟩) (λx=>x.1.1) [.box 0] [.box 0] (λ_=>Y9)
 |_=>.none
theorem a1w(L:List Rec):∀(f:Nat) (at_:Int),und L f at_<=f:=by
 intro f;induction f with
 |zero=>intro at_;exact V8 0
 |succ f i=>
  intro at_;unfold und;split
  ·omega
  ·split
   ·have:=i (X8 L at_).n;omega
   ·have:=i (X8 L at_).p;split<;>omega
theorem a91{L:List Rec}{f:Nat}{at_:Int}(h:0<at_)(F:at_.toNat<f)(d:(X8 L at_).k=3):und L f at_=und L (f-1) (X8 L at_).n:=by
 obtain⟨g,rfl⟩:∃g,f=g+1:=⟨f-1,Z9⟩
 conv=>lhs;unfold und
 rw[if_neg Z9,if_pos d]
 rfl
theorem a8S{L:List Rec}{f:Nat}{at_:Int}(h:0<at_)(F:at_.toNat<f)(d:(X8 L at_).k≠3):und L f at_=(if(X8 L at_).k=2 then 1 else 0)+und L (f-1) (X8 L at_).p:=by
 obtain⟨g,rfl⟩:∃g,f=g+1:=⟨f-1,Z9⟩
 conv=>lhs;unfold und
 rw[if_neg Z9,if_neg d]
 rfl
theorem gR{L:List Rec}{f:Nat}{at_:Int}(h:at_<=0):und L f at_=0:=by
 cases f with
 |zero=>rfl
 |succ f=>unfold und;rw[if_pos h]
theorem a7s:GK 186 b1s:=gk func186<|by
 rintro⟨s,F⟩ ⟨hL,hl⟩;dsimp only at hL hl;have q:=hL.1;refine vcE (gC b08 gN) func186 (b1S s F) (bs:=[true]) (α:=let m:=(↑(1+und s.L 61 F):Int);let j:=(u7 [some 0]);let z:=(T.bref s.ts);let r:=(Fn.func 240=Fn.func 240/\(0=0/\0=0)/\True);(∃(x:Und s.L F),(K4 j z z/\F=x.1.2.1/\r/\True)/\(oo (1=(x.1.2.2:Int)/\True))/\True)/\∀(x:Und s.L F),let f:=x.1;let w:=(f.2.1- (1:Int));let v:=(f.2.2:Int);let u:=(True/\(oo (v=m/\True))/\True);let q:=(s.L.getD w.toNat dz);bd (f.2.1>(0:Int)) (Ri w/\V7 w s.L.length/\br (q.k==3) (∃(y:Und s.L F),((K4 j z z/\q.n=y.1.2.1/\r/\True)/\(oo (v=(y.1.2.2:Int)/\True))/\True)/\Lt y.1.1 f.1) (∃(X:(Rec×Nat)),let c:=(↑(X.2+1):Int);((q.k==2)=true->((q.e=X.1.e/\q.l=X.1.l/\q.t=X.1.t/\q.k=X.1.k/\q.p=X.1.p/\q.n=X.1.n/\q.g=X.1.g/\q.s=X.1.s/\q.b=X.1.b/\q.a=X.1.a/\True)/\(0=0/\0=0)/\True)/\((1=1/\Z7 1 (λ(x_2:Nat)=>[Ji v]) λ(x:Nat)=>[Ji (X.2:Int)])/\True)/\X.2<1000)/\((q.k==2)=true->br (q.k==2&&false) (True/\(oo (c=m/\True))/\True) (∃(y:Und s.L F),((K4 j z z/\q.p=y.1.2.1/\r/\True)/\(oo (c=(y.1.2.2:Int)/\True))/\True)/\Lt y.1.1 f.1))/\(((q.k==2)=true->False)->br (q.k==2&&false) u (∃(y:Und s.L F),((K4 j z z/\q.p=y.1.2.1/\r/\True)/\(oo (v=(y.1.2.2:Int)/\True))/\True)/\Lt y.1.1 f.1)))) u) ⟨⟨⟨(61,F,1),rfl,hl,X0,X0⟩,⟨T5 _,Y2⟩,Y2⟩,λx=>?_⟩
 obtain⟨⟨f,at_,m⟩,i,hle,o,M⟩:=x;dsimp only at i hle o M ⊢;refine⟨λhc=>?_,λhc=>?_⟩
 ·have h0:at_>0:=E4 hc;obtain⟨p1,p2,p3,p4⟩:=hL.prev (show 1<=at_ by omega) hle
  refine⟨Z3 Z9,⟨Z9,Z9⟩,λd=>?_,λd=>?_⟩
  ·have d:(X8 s.L at_).k=3:=beq_iff_eq.1 d;rw[a91 h0 o d] at i;exact⟨⟨(f-1,(X8 s.L at_).n,m),i,X0,X0,X0⟩,⟨⟨T5 _,Y2⟩,Y2⟩,show f-1<f by omega⟩
  ·have d:(X8 s.L at_).k≠3:=λh=>by
    have d:((X8 s.L at_).k==3)=false:=d;rw[h] at d;cases d
   rw[a8S h0 o d] at i;refine⟨(X8 s.L at_,m),λ_=>⟨Y2,Y2,X0⟩,λh2=>⟨λj=>?_,λ_=>?_⟩,λh2=>⟨λj=>?_,λ_=>?_⟩⟩
   ·rw[Bool.and_false] at j;cases j
   ·have h2:(X8 s.L at_).k=2:=beq_iff_eq.1 h2;rw[if_pos h2] at i;exact⟨⟨(f-1,(X8 s.L at_).p,m+1),X0,X0,X0,X0⟩,⟨⟨T5 _,Y2⟩,Y2⟩,show f-1<f by omega⟩
   ·rw[Bool.and_false] at j;cases j
   ·have h2:¬ (X8 s.L at_).k=2:=λh=>h2 (beq_iff_eq.2 h)
    rw[if_neg h2] at i;exact⟨⟨(f-1,(X8 s.L at_).p,m),X0,X0,X0,X0⟩,⟨⟨T5 _,Y2⟩,Y2⟩,show f-1<f by omega⟩
 ·have h0:at_<=0:=by have:=s6 hc;omega
  rw[gR h0] at i;exact⟨Z6,⟨rfl,rfl,Z9,Z6⟩,Z6⟩
def b6N:Con:=.rel ⟨Sto×Int,λx=>[.bref x.1.ts,Ji x.2],λx=>Ji ((1+und x.1.L 61 x.2:Nat):Int),λx=>rY x.1.L x.2⟩
theorem b1U:GK 184 b6N:=gk func184<|by
 rintro⟨s,f⟩ h;exact S1 (gC a7s gN) func184 Y9 (α:=∃(x:(Sto×Int)),(((o6 s x.1)/\f=x.2/\(Fn.func 240=Fn.func 240/\(0=0/\0=0)/\True)/\True)/\((1=1/\Z7 1 (setRow (λ(x:Nat)=>[Ji 0]) 0 0 [Ji 1]) λ(x:Nat)=>[Ji 1])/\True)/\rY x.1.L x.2)/\(↑(1+und x.1.L 61 x.2):Int)=(↑(1+und s.L 61 f):Int)) ⟨(s,f),⟨⟨(jO _),Y2⟩,⟨⟨rfl,λi hi=>b61⟩,Z6⟩,h⟩,rfl⟩
def b5Y:Con:=.rel ⟨Bool,λb=>[.bool b],λb=>Ji (if b then 1 else 0),λ_=>True⟩
theorem b5V(b:Bool)(h:
  (b=true->1=if b=true then(1:Int) else(0:Int))/\(b=false->0=if b=true then(1:Int) else(0:Int))):
  V4 prog 212 [.bool b] (.int .i64 (if b then 1 else 0)):=
 S1 gN func212 Y9 h
theorem b1Y:GK 212 b5Y:=gk func212<|λb _=>b5V b ⟨λh=>by rw[if_pos h],λh=>by rw[h];rfl⟩
def b2y:Con:=.rel ⟨Sto×Int,λx=>[.agg x.1.ts,Ji x.2],λx=>Ji ((1+und x.1.L 61 x.2:Nat):Int),λx=>rY x.1.L x.2⟩
def b04(s:Sto)(f:Int):Nat->Ann
 |0=>.one (Und s.L f) (λx=>⟨[(1,Ji x.1.2.1),(2,.ref 0 0 0),(5,Ji x.1.2.2)],[uN s]⟩) (λx=>x.1.1) [.box 0] [.box 0] (λ_=>Y9)
 |_=>.none
theorem a7n:GK 138 b2y:=gk func138<|by
 rintro⟨s,F⟩ ⟨hL,hl⟩;dsimp only at hL hl;have g:=hL.1;refine S1 (gC b1Y gN) func138 (b04 s F) (α:=let w:=(0=0/\0=0);let v:=(oo (o6 s s));(∃(x:Und s.L F),(F=x.1.2.1/\w/\1=(x.1.2.2:Int)/\True)/\v/\True)/\∀(x:Und s.L F),let u:=(x.1.2.2:Int);let z:=(x.1.2.1- (1:Int));let q:=(s.L.getD z.toNat dz);bd (x.1.2.1>(0:Int)) (Ri z/\V7 z s.L.length/\br (q.k==3) (∃(y:Und s.L F),((q.n=y.1.2.1/\w/\u=(y.1.2.2:Int)/\True)/\v/\True)/\Lt y.1.1 x.1.1) (∃(X:Bool),let r:=(u+if X=true then(1:Int) else(0:Int));(((q.k==2)=X/\True)/\True)/\Ri r/\∃(y:Und s.L F),((q.p=y.1.2.1/\w/\r=(y.1.2.2:Int)/\True)/\v/\True)/\Lt y.1.1 x.1.1)) (u=(↑(1+und s.L 61 F):Int))) ⟨⟨⟨(61,F,1),rfl,hl,X0,X0⟩,Y2⟩,λx=>?_⟩
 obtain⟨⟨f,at_,m⟩,he,hle,e,M⟩:=x;dsimp only at he hle e M ⊢;refine⟨λhc=>?_,λhc=>?_⟩
 ·have h0:at_>0:=E4 hc;obtain⟨p1,p2,p3,p4⟩:=hL.prev (show 1<=at_ by omega) hle
  refine⟨Z3 Z9,⟨Z9,Z9⟩,λd=>?_,λd=>?_⟩
  ·have d:(X8 s.L at_).k=3:=beq_iff_eq.1 d;rw[a91 h0 e d] at he;exact⟨⟨(f-1,(X8 s.L at_).n,m),he,X0,X0,X0⟩,Y2,show f-1<f by omega⟩
  ·have d:(X8 s.L at_).k≠3:=λh=>by
    have d:((X8 s.L at_).k==3)=false:=d;rw[h] at d;cases d
   rw[a8S h0 e d] at he;have N:und s.L (f-1) (X8 s.L at_).p<=f-1:=a1w _ _ _;refine⟨(X8 s.L at_).k==2,Y2,?_,?_⟩
   ·split<;>exact Z3 Z9
   ·by_cases h2:(X8 s.L at_).k=2
    ·rw[if_pos h2] at he;rw[if_pos (by simpa using h2)]
     exact⟨⟨(f-1,(X8 s.L at_).p,m+1),X0,X0,X0,X0⟩,Y2,show f-1<f by omega⟩
    ·rw[if_neg h2] at he;rw[if_neg (by simpa using h2)]
     exact⟨⟨(f-1,(X8 s.L at_).p,m),X0,X0,X0,X0⟩,⟨⟨rfl,Y2,X0,Z6⟩,Y2⟩,show f-1<f by omega⟩
 ·have h0:at_<=0:=by have:=s6 hc;omega
  rw[gR h0] at he;show(m:Int)=_;omega
def w8(L:List Rec)(T:List Txn):Nat->Nat
 |0=>0
 |k+1=>w8 L T k+(1+und L 61 (T.getD k dz).Z)
def i5(e:Eng):Nat:=w8 e.s.L e.X e.X.length
def yH(e:Eng):Prop:=m9 e.s.L/\e.X.length<=10/\∀i,i<e.X.length->(e.X.getD i dz).Z<=(e.s.L.length:Int)
theorem eC(L:List Rec)(T:List Txn):∀k,w8 L T k<=62*k:=by
 intro k;induction k with
 |zero=>exact V8 0
 |succ k i=>unfold w8;have:=a1w L 61 (T.getD k dz).Z;omega
def b76:Con:=.rel ⟨Eng,λe=>[.bref e.ts],λe=>Ji (i5 e),yH⟩
def b7l(e:Eng):Nat->Ann
 |0=>.one (Up e.X.length) (λx=>⟨[(0,.bref e.ts),(3,Ji (w8 e.s.L e.X x.1)),(9,a3s e.X),(10,Ji e.X.length),(11,Ji x.1)],[]⟩) (λx=>e.X.length-x.1) [] [] (λ_=>Y9)
 |_=>.none
theorem a5g{L:List Rec}{T:List Txn}{i:Nat}:((w8 L T i:Nat):Int)+((1+und L 61 (T.getD i dz).Z:Nat):Int)=(w8 L T (i+1):Nat):=by
 conv=>rhs;unfold w8
 omega
theorem b2E:GK 110 b76:=gk func110<|by
 rintro(e:Eng) ⟨hL,h10,hb⟩;refine S1 (gC b1U gN) func110 (b7l e) (α:=let z:=(T.bref e.ts);let p:=(e.X.length:Int);(∃(x:Up e.X.length),(K4 (λ(x:Nat)=>none) z z/\0=(↑(w8 e.s.L e.X x.1):Int)/\(Z2 V1 e.X e.X)/\p=p/\0=(x.1:Int)/\True)/\True)/\∀(x:Up e.X.length),let r:=(x.1:Int);let q:=(↑(w8 e.s.L e.X x.1):Int);bd (r<p) (V7 r e.X.length/\∃(X:(Sto×Int)),let u:=(↑(1+und X.1.L 61 X.2):Int);(((o6 e.s X.1)/\(e.X.getD r.toNat dz).Z=X.2/\True)/\rY X.1.L X.2)/\Ri (q+u)/\Ri (r+1)/\∃(y:Up e.X.length),((K4 (λ(x:Nat)=>none) z z/\q+u=(↑(w8 e.s.L e.X y.1):Int)/\(Z2 V1 e.X e.X)/\p=p/\r+1=(y.1:Int)/\True)/\True)/\Lt (e.X.length-y.1) (e.X.length-x.1)) (q=(↑(i5 e):Int))) ⟨⟨⟨0,O3 _⟩,⟨T5 _,Y2⟩,Z6⟩,λx=>⟨λhc=>?_,λhc=>?_⟩⟩
 ·have h:=Y1 hc;have f:=eC e.s.L e.X x.1;have d:=a1w e.s.L 61 (e.X.getD x.1 dz).Z;refine⟨Y3 h,(e.s,(e.X.getD x.1 dz).Z),⟨⟨(jO _),Y2⟩,hL,hb _ h⟩,Z3 X0,V5 h Z9,⟨x.1+1,h⟩,⟨⟨T5 _,a5g,Y2,rfl,X0,Z6⟩,Z6⟩,U8.ext_lt h⟩
 ·have hx:x.1=e.X.length:=by have:=x.2;have:=X6 hc;omega
  rw[hx];rfl
def b1B:Con:=.rel ⟨Eng×Int,λx=>[.bref x.1.ts,Ji x.2],λx=>.bool (decide ((x.1.s.L.length:Int)+i5 x.1+x.2<=60)),λx=>yH x.1/\r6 x.2⟩
theorem iH:GK 52 b1B:=gk func52<|by
 rintro⟨e,m⟩ ⟨h,g,f⟩;dsimp only at h g f;have B:=eC e.s.L e.X e.X.length;have d:=h.2.1;have i:=h.1.1;have j:i5 e=w8 e.s.L e.X e.X.length:=rfl;exact S1 (gC b2E gN) func52 Y9 (α:=let p:=(e.s.L.length:Int);∃(x:Eng),let q:=(↑(i5 x):Int);(((Q7 e x)/\True)/\yH x)/\Ri (p+q)/\Ri (p+q+m)/\decide (p+q+m<=60)=decide (p+(↑(i5 e):Int)+m<=60)) ⟨e,⟨⟨(xR _),Z6⟩,h⟩,Z3 Z9,Z3 Z9,rfl⟩
def a1S:Con:=.rel ⟨Eng,λe=>[.agg e.ts],λe=>Ji (i5 e),yH⟩
def a1F(e:Eng):Nat->Ann
 |0=>.one (Up e.X.length) (λx=>⟨[(1,.ref 0 0 0),(3,Ji (w8 e.s.L e.X x.1)),(4,Ji x.1)],[G9 e]⟩) (λx=>e.X.length-x.1) [.box 0] [.box 0] (λ_=>Y9)
 |_=>.none
theorem wH:GK 74 a1S:=gk func74<|by
 rintro(e:Eng) ⟨hL,h10,hb⟩;refine S1 (gC a7n gN) func74 (a1F e) (α:=(∃(x:Up e.X.length),((0=0/\0=0)/\0=(↑(w8 e.s.L e.X x.1):Int)/\0=(x.1:Int)/\True)/\(oo (Q7 e e))/\True)/\∀(x:Up e.X.length),let q:=(x.1:Int);let p:=(↑(w8 e.s.L e.X x.1):Int);bd (q<(e.X.length:Int)) (V7 q e.X.length/\∃(X:(Sto×Int)),let r:=(↑(1+und X.1.L 61 X.2):Int);(((o6 e.s X.1)/\(e.X.getD q.toNat dz).Z=X.2/\True)/\rY X.1.L X.2)/\Ri (p+r)/\Ri (q+1)/\∃(y:Up e.X.length),(((0=0/\0=0)/\p+r=(↑(w8 e.s.L e.X y.1):Int)/\q+1=(y.1:Int)/\True)/\(oo (Q7 e e))/\True)/\Lt (e.X.length-y.1) (e.X.length-x.1)) (p=(↑(i5 e):Int))) ⟨⟨⟨0,O3 _⟩,Y2⟩,λx=>⟨λhc=>?_,λhc=>?_⟩⟩
 ·have h:=Y1 hc;have f:=eC e.s.L e.X x.1;have d:=a1w e.s.L 61 (e.X.getD x.1 dz).Z;refine⟨Y3 h,(e.s,(e.X.getD x.1 dz).Z),⟨⟨(jO _),Y2⟩,hL,hb _ h⟩,Z3 X0,V5 h Z9,⟨x.1+1,h⟩,⟨⟨Y2,a5g,X0,Z6⟩,Y2⟩,U8.ext_lt h⟩
 ·have hx:x.1=e.X.length:=by have:=x.2;have:=X6 hc;omega
  rw[hx];rfl
def a4g(L:List Rec)(r:Rec):Bool:=decide (r.n>0)&&((X8 L r.n).t==r.t)&&decide ((X8 L r.n).k<=3)
def b1d:Con:=.rel ⟨Sto×Rec,λx=>[.agg x.1.ts,.agg x.2.ts],λx=>.bool (a4g x.1.L x.2),λx=>x.2.n<=(x.1.L.length:Int)/\M1 x.1.L.length⟩
theorem a8h:GK 72 b1d:=gk func72<|by
 rintro⟨s,r⟩ ⟨e,d⟩;have d:s.L.length<1000000000000:=d;dsimp only at e;have k1:decide (r.n>(0:Int))=true->O7 .i64 (r.n-1)/\V7 (r.n-1) s.L.length:=λh=>by
  have h:=E4 h;exact⟨Z3 Z9,Z9,Z9⟩
 exact S1 gN func72 Y9 (α:=let p:=(s.L.getD (r.n-1).toNat dz);let q:=(decide (r.n>0)&&p.t==r.t);(decide (r.n>0)=true->Ri (r.n-1))/\(decide (r.n>0)=true->V7 (r.n-1) s.L.length)/\(q=true->Ri (r.n-1))/\(q=true->V7 (r.n-1) s.L.length)/\(decide (r.n>0)&&p.t==r.t&&decide (p.k<=3))=a4g s.L r) ⟨λh=>(k1 h).1,λh=>(k1 h).2,λh=>(k1 (Bool.and_eq_true_iff.1 h).1).1,λh=>(k1 (Bool.and_eq_true_iff.1 h).1).2,rfl⟩
def xM(e:Eng)(i:Nat):Bool:=decide (S8 e.X (e.lk.H.getD i dz).tx<0)
def v8(e:Eng)(i:Nat):Bool:=decide (S8 e.X (e.lk.W.getD i dz).tx<0)||decide (S8 e.X (e.lk.W.getD i dz).fo<0)
def TxL(e:Eng):Prop:=M1 e.X.length
def a3V:Con:=.rel ⟨Eng×Lck,λx=>[.agg x.2.ts,.bref [.bref x.1.ts]],λx=>.bool (decide (S8 x.1.X x.2.tx<0)),λx=>TxL x.1⟩
theorem a44(e:Eng)(l:Lck)(h:
  ∃(x:(Eng×Int)),(((Q7 e x.1)/\l.tx=x.2/\True)/\M1 x.1.X.length)/\decide (S8 x.1.X x.2<0)=decide (S8 e.X l.tx<0)):
  V4 prog 100 [.agg l.ts,.bref [.bref e.ts]] (.bool (decide (S8 e.X l.tx<0))):=
 S1 (gC jB gN) func100 Y9 h
theorem a1c:GK 100 a3V:=gk func100<|λx h=>a44 x.1 x.2 ⟨(x.1,x.2.tx),⟨⟨(xR _),Y2⟩,h⟩,rfl⟩
def a2Q:Con:=.rel ⟨Eng×Wt,λx=>[.agg x.2.ts,.bref [.bref x.1.ts]],λx=>.bool (decide (S8 x.1.X x.2.tx<0)||decide (S8 x.1.X x.2.fo<0)),λx=>TxL x.1⟩
theorem a4B(e:Eng)(l:Wt)(h:
  ∃(x:(Eng×Int)),let p:=(S8 x.1.X x.2<0);(((Q7 e x.1)/\l.tx=x.2/\True)/\M1 x.1.X.length)/\∃(X:(Eng×Int)),(decide p=false->((Q7 e X.1)/\l.fo=X.2/\True)/\M1 X.1.X.length)/\(decide p||decide (S8 X.1.X X.2<0))=(decide (S8 e.X l.tx<0)||decide (S8 e.X l.fo<0))):
  V4 prog 103 [.agg l.ts,.bref [.bref e.ts]] (.bool (decide (S8 e.X l.tx<0)||decide (S8 e.X l.fo<0))):=
 S1 (gC jB gN) func103 Y9 h
theorem a1N:GK 103 a2Q:=gk func103<|λx h=>a4B x.1 x.2 ⟨(x.1,x.2.tx),⟨⟨(xR _),Y2⟩,h⟩,(x.1,x.2.fo),λ_=>⟨⟨(xR _),Y2⟩,h⟩,rfl⟩
def eF1(e:Eng):T:=.fn (.func 100) [.bref [.bref e.ts]]
def eF2(e:Eng):T:=.fn (.func 103) [.bref [.bref e.ts]]
def HlL(e:Eng):Prop:=TxL e/\M1 e.lk.H.length/\M1 e.lk.W.length
def b1j:Con:=.rel ⟨Eng,λe=>[a1V e.lk.H,eF1 e],λe=>Ji (Q9 e.lk.H.length (xM e)),HlL⟩
def b17(e:Eng):Nat->Ann
 |0=>.one (U8 e.lk.H.length (xM e)) (λx=>⟨[(0,a1V e.lk.H),(1,eF1 e),(7,Ji e.lk.H.length),(8,Ji x.1)],[]⟩) (λx=>e.lk.H.length-x.1) [] [] (λ_=>Y9)
 |_=>.none
theorem a8a:GK 176 b1j:=gk func176<|by
 rintro(e:Eng) ⟨ht,g,f⟩;have g:e.lk.H.length<1000000000000:=g;have f:e.lk.W.length<1000000000000:=f;refine S1 (gC a1c gN) func176 (b17 e) (α:=let u:=(Z2 Y7 e.lk.H e.lk.H);let r:=(T.bref [T.bref e.ts]);let q:=(e.lk.H.length:Int);(∃(x:U8 e.lk.H.length (xM e)),(u/\(Fn.func 100=Fn.func 100/\K4 (λ(x:Nat)=>none) r r/\True)/\q=q/\0=(x.1:Int)/\True)/\True)/\∀(x:U8 e.lk.H.length (xM e)),let z:=(x.1:Int);let p:=(e.lk.H.getD z.toNat dz);bd (z<q) (V7 z e.lk.H.length/\∃(X:(Eng×Lck)),(((p.tx=X.2.tx/\p.ta=X.2.ta/\p.row=X.2.row/\p.mo=X.2.mo/\True)/\((Q7 e X.1)/\True)/\True)/\TxL X.1)/\bd (S8 X.1.X X.2.tx<0) (z=Q9 e.lk.H.length (xM e)) (Ri (z+1)/\∃(y:U8 e.lk.H.length (xM e)),((u/\(Fn.func 100=Fn.func 100/\K4 (λ(x:Nat)=>none) r r/\True)/\q=q/\z+1=(y.1:Int)/\True)/\True)/\Lt (e.lk.H.length-y.1) (e.lk.H.length-x.1))) ((-1:Int)=Q9 e.lk.H.length (xM e))) ⟨⟨F4,⟨Y2,⟨rfl,T5 _,Z6⟩,Y2⟩,Z6⟩,λx=>⟨λC=>?_,λC=>?_⟩⟩
 ·have h:=Y1 C;refine⟨Y3 h,(e,e.lk.H.getD x.1 dz),⟨⟨Y2,⟨(xR _),Z6⟩,Z6⟩,ht⟩,λhp=>(N4 h hp x.2.2).symm,λhp=>⟨V5 h Z9,x.succ h hp,⟨⟨Y2,⟨rfl,T5 _,Z6⟩,rfl,J7,Z6⟩,Z6⟩,U8.ext_lt h⟩⟩
 ·have d:=X6 C;exact(K9 λj J=>x.2.2 j (yK J d)).symm
def b1L:Con:=.rel ⟨Eng,λe=>[a1V e.lk.H,eF1 e],λe=>.bool (anyI e.lk.H.length (xM e)),HlL⟩
theorem b1f(e:Eng)(h:
  ∃(x:Eng),(((Z2 Y7 e.lk.H x.lk.H)/\(Fn.func 100=Fn.func 100/\((Q7 e x)/\True)/\True)/\True)/\HlL x)/\decide (Q9 x.lk.H.length (xM x)≥(0:Int))=anyI e.lk.H.length (xM e)):
  V4 prog 99 [a1V e.lk.H,eF1 e] (.bool (anyI e.lk.H.length (xM e))):=
 S1 (gC a8a gN) func99 Y9 h
theorem a7L:GK 99 b1L:=gk func99<|λ(e:Eng) h=>b1f e ⟨e,⟨⟨Y2,⟨rfl,⟨(xR _),Z6⟩,Z6⟩,Z6⟩,h⟩,F6 _ _⟩
def b6Z:Con:=.rel ⟨Eng,λe=>[wtS e.lk.W,eF2 e],λe=>Ji (Q9 e.lk.W.length (v8 e)),HlL⟩
def b37(e:Eng):Nat->Ann
 |0=>.one (U8 e.lk.W.length (v8 e)) (λx=>⟨[(0,wtS e.lk.W),(1,eF2 e),(7,Ji e.lk.W.length),(8,Ji x.1)],[]⟩) (λx=>e.lk.W.length-x.1) [] [] (λ_=>Y9)
 |_=>.none
theorem b2X:GK 179 b6Z:=gk func179<|by
 rintro(e:Eng) ⟨ht,g,f⟩;have g:e.lk.H.length<1000000000000:=g;have f:e.lk.W.length<1000000000000:=f;refine S1 (gC a1N gN) func179 (b37 e) (α:=let u:=(Z2 Y5 e.lk.W e.lk.W);let q:=(T.bref [T.bref e.ts]);let p:=(e.lk.W.length:Int);(∃(x:U8 e.lk.W.length (v8 e)),(u/\(Fn.func 103=Fn.func 103/\K4 (λ(x:Nat)=>none) q q/\True)/\p=p/\0=(x.1:Int)/\True)/\True)/\∀(x:U8 e.lk.W.length (v8 e)),let r:=(x.1:Int);let z:=(e.lk.W.getD r.toNat dz);bd (r<p) (V7 r e.lk.W.length/\∃(X:(Eng×Wt)),(((z.tx=X.2.tx/\z.fo=X.2.fo/\True)/\((Q7 e X.1)/\True)/\True)/\TxL X.1)/\br (decide (S8 X.1.X X.2.tx<0)||decide (S8 X.1.X X.2.fo<0)) (r=Q9 e.lk.W.length (v8 e)) (Ri (r+1)/\∃(y:U8 e.lk.W.length (v8 e)),((u/\(Fn.func 103=Fn.func 103/\K4 (λ(x:Nat)=>none) q q/\True)/\p=p/\r+1=(y.1:Int)/\True)/\True)/\Lt (e.lk.W.length-y.1) (e.lk.W.length-x.1))) ((-1:Int)=Q9 e.lk.W.length (v8 e))) ⟨⟨F4,⟨Y2,⟨rfl,T5 _,Z6⟩,Y2⟩,Z6⟩,λx=>⟨λC=>?_,λC=>?_⟩⟩
 ·have h:=Y1 C;refine⟨Y3 h,(e,e.lk.W.getD x.1 dz),⟨⟨Y2,⟨(xR _),Z6⟩,Z6⟩,ht⟩,λhp=>(N4 h hp x.2.2).symm,λhp=>⟨V5 h Z9,x.succ h hp,⟨⟨Y2,⟨rfl,T5 _,Z6⟩,rfl,J7,Z6⟩,Z6⟩,U8.ext_lt h⟩⟩
 ·have d:=X6 C;exact(K9 λj J=>x.2.2 j (yK J d)).symm
def b4y:Con:=.rel ⟨Eng,λe=>[wtS e.lk.W,eF2 e],λe=>.bool (anyI e.lk.W.length (v8 e)),HlL⟩
theorem b4P(e:Eng)(h:
  ∃(x:Eng),(((Z2 Y5 e.lk.W x.lk.W)/\(Fn.func 103=Fn.func 103/\((Q7 e x)/\True)/\True)/\True)/\HlL x)/\decide (Q9 x.lk.W.length (v8 x)≥(0:Int))=anyI e.lk.W.length (v8 e)):
  V4 prog 102 [wtS e.lk.W,eF2 e] (.bool (anyI e.lk.W.length (v8 e))):=
 S1 (gC b2X gN) func102 Y9 h
theorem b0Q:GK 102 b4y:=gk func102<|λ(e:Eng) h=>b4P e ⟨e,⟨⟨Y2,⟨rfl,⟨(xR _),Z6⟩,Z6⟩,Z6⟩,h⟩,F6 _ _⟩
def A7(e:Eng)(i:Nat):Bool:= !V9 (e.X.getD i dz).id 1 (e.N-1)||(decide ((i:Int)>0)&&decide ((e.X.getD (i-1) dz).id≥(e.X.getD i dz).id))|| !nX e.s.L (e.X.getD i dz)
def wY(e:Eng):Bool:=decide (e.X.length<=10)&&V9 e.N 1 61&&G3 e.lk
def a3T(e:Eng):Bool:=decide (e.X.length+e.lk.H.length+e.lk.W.length+e.s.fr.length=0)
def upE(e:Eng):Bool:= !anyI e.X.length (A7 e)&& !anyI e.lk.H.length (xM e)&& !anyI e.lk.W.length (v8 e)&&decide (e.s.L.length+i5 e<=60)
def tE(e:Eng):Bool:=wY e&&(if e.up then upE e else a3T e)
def c5O(e:Eng):Prop:=m9 e.s.L/\b5Z e.lk/\M1 e.X.length/\M1 e.s.fr.length
def a5N:Con:=.rel ⟨Eng,λe=>[.bref e.ts],λe=>.bool (tE e),c5O⟩
def c3A(e:Eng):Option Ob:=some (.arr true 1000000 1 1 λ_=>[.bref e.ts])
def a6I(e:Eng):Nat->Ann
 |0=>.one (U8 e.X.length (A7 e)) (λx=>⟨[(1,.ref 0 0 0),(62,a3s e.X),(63,Ji e.X.length),(64,Ji x.1)],[c3A e]⟩) (λx=>e.X.length-x.1) [.box 0] [.box 0] (λ_=>Y9)
 |_=>.none
theorem b6i(e:Eng):(decide ((e.X.length:Int)>10)|| !V9 e.N 1 61|| !G3 e.lk)= !wY e:=by
 unfold wY;rw[Bool.not_and,Bool.not_and,←decide_not];congr 2
 exact decide_eq_decide.2 Z9
theorem a9R{e:Eng}(h:wY e=false):tE e=false:=by unfold tE;rw[h];rfl
theorem b0u{e:Eng}(h:wY e=true)(u:e.up=true):tE e=upE e:=by unfold tE;rw[h,if_pos u];rfl
theorem a9r{e:Eng}(h:wY e=true)(u:e.up=false):tE e=a3T e:=by unfold tE;rw[h,u];rfl
theorem a8n{e:Eng}{i:Nat}(hi:i<e.X.length)(h:A7 e i=true):upE e=false:=by
 have:anyI e.X.length (A7 e)=true:=U3.2 ⟨i,hi,h⟩;unfold upE;rw[this];rfl
theorem c33{e:Eng}{i:Nat}(hi:i<e.lk.H.length)(h:xM e i=true):upE e=false:=by
 have:anyI e.lk.H.length (xM e)=true:=U3.2 ⟨i,hi,h⟩;unfold upE;rw[this];simp
theorem c4R{e:Eng}{i:Nat}(hi:i<e.lk.W.length)(h:v8 e i=true):upE e=false:=by
 have:anyI e.lk.W.length (v8 e)=true:=U3.2 ⟨i,hi,h⟩;unfold upE;rw[this];simp
theorem vL{e:Eng}(h:wY e=true):e.X.length<=10/\1<=e.N/\e.N<=61/\G3 e.lk=true:=by
 unfold wY at h;simp only[O4,r8,T2] at h;exact⟨h.1.1,h.1.2.1,h.1.2.2,h.2⟩
theorem c10{e:Eng}(L:m9 e.s.L)(h:wY e=true)(B:∀i,i<e.X.length->A7 e i=false):yH e:=by
 refine⟨L,(vL h).1,λi hi=>?_⟩
 have:=B i hi;unfold A7 at this;simp only[zV,zF] at this;have:=this.2;unfold nX at this;simp only[O4,T2] at this;exact this.1.2
theorem a28:GK 46 a5N:=gk func46<|by
 rintro(e:Eng) ⟨hL,hk,t,F⟩;have t:e.X.length<1000000000000:=t;have F:e.s.fr.length<1000000000000:=F;have d:e.lk.H.length<1000000000000:=hk.1;have h:e.lk.W.length<1000000000000:=hk.2;refine S1 (gC M0 (gC a2M (gC a74 (gC a7L (gC b0Q (gC iH gN)))))) func46 (a6I e) (α:=let m:=(e.s.fr.length:Int);let k:=(false=tE e);let w:=(e.lk.W.length:Int);let u:=(e.lk.H.length:Int);let z:=(oo (K4 (u7 [some 0]) (T.bref e.ts) (T.bref e.ts)/\True));let q:=(e.X.length:Int);∃(x:rN.ι),((decide (q>10)|| !V9 e.N (1:Int) (61:Int))=false->(((Z2 Y7 e.lk.H x.H)/\(Z2 Y5 e.lk.W x.W)/\True)/\True)/\b5Z x)/\br (decide (q>10)|| !V9 e.N (1:Int) (61:Int)|| !G3 x) k (br (!e.up) (Ri (q+u)/\Ri (q+u+w)/\Ri (q+u+w+m)/\(q+u+w+m==0)=tE e) ((∃(x:U8 e.X.length (A7 e)),((0=0/\0=0)/\(Z2 V1 e.X e.X)/\q=q/\0=(x.1:Int)/\True)/\z/\True)/\∀(x:U8 e.X.length (A7 e)),let r:=(x.1:Int);let p:=(e.X.getD r.toNat dz);let j:=(!V9 p.id (1:Int) (e.N-1));let v:=((e.X.getD (r-1).toNat dz).id≥p.id);bd (r<q) (V7 r e.X.length/\Ri (e.N-1)/\(j=false->decide (r>0)=true->Ri (r-1))/\(j=false->decide (r>0)=true->V7 (r-1) e.X.length)/\∃(X:(Sto×Txn)),((!V9 p.id (1:Int) (e.N-1)||decide (r>0)&&decide v)=false->((o6 e.s X.1)/\(p.id=X.2.id/\p.Z=X.2.Z/\True)/\True)/\m9 X.1.L)/\br (!V9 p.id (1:Int) (e.N-1)||decide (r>0)&&decide v|| !nX X.1.L X.2) k (Ri (r+1)/\∃(y:U8 e.X.length (A7 e)),(((0=0/\0=0)/\(Z2 V1 e.X e.X)/\q=q/\r+1=(y.1:Int)/\True)/\z/\True)/\Lt (e.X.length-y.1) (e.X.length-x.1))) (∃(x:Eng),(((Z2 Y7 e.lk.H x.lk.H)/\(Fn.func 100=Fn.func 100/\((Q7 e x)/\True)/\True)/\True)/\HlL x)/\∃(X:Eng),(anyI x.lk.H.length (xM x)=false->((Z2 Y5 e.lk.W X.lk.W)/\(Fn.func 103=Fn.func 103/\((Q7 e X)/\True)/\True)/\True)/\HlL X)/\br (anyI x.lk.H.length (xM x)||anyI X.lk.W.length (v8 X)) k (∃(x:(Eng×Int)),(((Q7 e x.1)/\0=x.2/\True)/\yH x.1/\r6 x.2)/\decide ((x.1.s.L.length:Int)+(↑(i5 x.1):Int)+x.2<=60)=tE e))))) ⟨e.lk,λ_=>⟨Y2,hk⟩,λhb=>?_,λhb=>⟨λhu=>?_,λhu=>?_⟩⟩
 ·rw[b6i] at hb;rw[a9R kA]
 ·rw[b6i] at hb;rw[a9r kA a99]
  refine⟨Z3 Z9,Z3 Z9,Z3 Z9,?_⟩
  unfold a3T;rw[Bool.eq_iff_iff,beq_iff_eq,r8];omega
 ·rw[b6i] at hb;have hh:wY e=true:=by simpa using hb
  have f:e.up=true:=a99
  obtain⟨Q,l,j,q⟩:=vL hh;rw[b0u hh f];refine⟨⟨F4,Y2,⟨rfl,rfl,T5 _,Z6⟩,Z6⟩,λx=>⟨λhc=>?_,λhc=>?_⟩⟩
  ·have hlt:=Y1 hc;refine⟨Y3 hlt,Z3 Z9,λ_ _=>Z3 Z9,λ_ h0=>⟨b5Q,Z9⟩,(e.s,e.X.getD x.1 dz),λ_=>⟨⟨(jO _),Y2⟩,hL⟩,λhq=>?_,λhq=>?_⟩
   ·rw[G2,show((x.1:Int)-1).toNat=x.1-1 by omega] at hq
    exact(a8n hlt hq).symm
   ·rw[G2,show((x.1:Int)-1).toNat=x.1-1 by omega] at hq
    exact⟨V5 hlt Z9,x.succ hlt hq,⟨⟨Y2,Y2,rfl,J7,Z6⟩,⟨rfl,rfl,T5 _,Z6⟩,Z6⟩,U8.ext_lt hlt⟩
  ·have hge:=X6 hc;have hno:∀i,i<e.X.length->A7 e i=false:=λi hi=>x.2.2 i (yK hi hge)
   have n:=c10 hL hh hno;have g:anyI e.X.length (A7 e)=false:=R8.2 hno;refine⟨e,⟨⟨Y2,⟨rfl,⟨(xR _),Z6⟩,Z6⟩,Z6⟩,t,d,h⟩,e,λ_=>⟨⟨Y2,⟨rfl,⟨(xR _),Z6⟩,Z6⟩,Z6⟩,t,d,h⟩,λhq=>?_,λhq=>⟨(e,0),⟨⟨(xR _),Y2⟩,n,b71⟩,?_⟩⟩
   ·unfold upE;rw[g];simp only[tB] at hq;rcases hq with hq|hq<;>rw[hq]<;>simp
   ·simp only[zV] at hq;unfold upE;rw[g,hq.1,hq.2];simp only[Bool.not_false,Bool.true_and];exact decide_eq_decide.2 Z9
def P1(e:Eng):Bool:=G6 e.s&&tE e
def cY(e:Eng):Prop:=b5G e.s/\b5Z e.lk/\M1 e.X.length
def yF:Rl:=⟨Eng,λe=>[.agg e.ts],λe=>.bool (P1 e),cY⟩
def a43:Con:=.rel yF
def a3U:Con:=.rel yF
theorem mJ{s:Sto}(h:G6 s=true):m9 s.L:=by
 obtain⟨⟨e,d,_⟩,_⟩:=(J8 s).1 h;exact⟨((y6 s).1 e).2.2.2.2,λi hi=>by
  obtain⟨a,b⟩:=D2.1 d i hi;exact⟨(Q6 _).1 a,b⟩⟩
theorem nE:GK 20 a43:=gk func20<|by
 rintro(e:Eng) ⟨h1,h2,h3⟩;exact S1 (gC a27 (gC a28 gN)) func20 Y9 (α:=∃(x:qW.ι),(((o6 e.s x)/\True)/\b5G x)/\∃(X:Eng),(G6 x=true->((Q7 e X)/\True)/\c5O X)/\(G6 x&&tE X)=P1 e) ⟨e.s,⟨⟨(jO _),Z6⟩,h1⟩,e,λh=>⟨⟨(xR _),Z6⟩,mJ h,h2,h3,h1.2.2.1.1⟩,rfl⟩
def Chs(L:List Rec)(t:Txn):Type:={x:Nat×Int//(decide (x.2<=0)||chn L t.id x.1 x.2)=nX L t/\x.2<=(L.length:Int)/\x.2.toNat<x.1}
def a2S(e:Eng):Nat->Ann
 |0=>.one (U8 e.X.length (A7 e)) (λx=>⟨[(1,.ref 0 0 0),(3,Ji x.1)],[G9 e]⟩) (λx=>e.X.length-x.1) [.box 0] [.box 0] (λx=>fun
  |1=>.one (Chs e.s.L (e.X.getD x.1 dz)) (λy=>⟨[(1,.ref 0 0 0),(3,Ji x.1),(4,.ref 1 0 0),(5,Ji y.1.2)],[G9 e,b3Y (e.X.getD x.1 dz)]⟩) (λy=>y.1.1) uY uY (λ_=>Y9)
  |2=>.one (U8 e.lk.H.length (xM e)) (λy=>⟨[(1,.ref 0 0 0),(7,Ji y.1)],[G9 e]⟩) (λy=>e.lk.H.length-y.1) [.box 0] [.box 0] (λ_=>fun
   |3=>.one (U8 e.lk.W.length (v8 e)) (λz=>⟨[(1,.ref 0 0 0),(8,Ji z.1)],[G9 e]⟩) (λz=>e.lk.W.length-z.1) [.box 0] [.box 0] (λ_=>Y9)
   |_=>.none)
  |_=>.none)
 |_=>.none
theorem c7I{L:List Rec}(hL:m9 L)(id:Int){at_:Int}(e:1<=at_)(d:at_<=L.length):
  ((X8 L at_).t !=id||(X8 L at_).k==4||(X8 L at_).k==5||(X8 L at_).k==6||(X8 L at_).k==3&& !a4g L (X8 L at_))= !okR L id at_:=by
 obtain⟨r,hl⟩:=hL.at e d;obtain⟨j,l,g,i⟩:=hL.prev e d;obtain⟨_,_,_,_,k1,o,_⟩:=r;unfold okR ownR;rw[T2.2 ⟨e,d⟩,Bool.true_and];by_cases ht:(X8 L at_).t=id
 ·rw[show((X8 L at_).t !=id)=false by simpa using ht,show((X8 L at_).t==id)=true by simpa using ht,Bool.false_or,Bool.true_and]
  by_cases hk:(X8 L at_).k<=3
  ·rw[T2.2 ⟨k1,hk⟩,show((X8 L at_).k==4)=false by rw[beq_eq_false_iff_ne];omega,show((X8 L at_).k==5)=false by rw[beq_eq_false_iff_ne];omega,show((X8 L at_).k==6)=false by rw[beq_eq_false_iff_ne];omega]
   simp only[Bool.false_or,Bool.true_and];by_cases h3:(X8 L at_).k=3
   ·rw[show((X8 L at_).k==3)=true by simpa using h3,show((X8 L at_).k !=3)=false by simpa using h3,Bool.true_and,Bool.false_or]
    congr 1
    unfold a4g;by_cases hn:(X8 L at_).n>0
    ·obtain⟨hr2,_⟩:=hL.at (show 1<=(X8 L at_).n by omega) Z9
     have f:1<=(X8 L (X8 L at_).n).k:=hr2.2.2.2.2.1;rw[qK hn,T2.2 (show 1<=(X8 L at_).n/\(X8 L at_).n<=(L.length:Int) by omega),Bool.true_and,Bool.true_and,ht]
     congr 1
     unfold V9;rw[qK f,Bool.true_and]
    ·rw[uG hn,show V9 (X8 L at_).n 1 L.length=false from Bool.eq_false_iff.2 λh=>by have:=T2.1 h;omega]
     rfl
   ·rw[show((X8 L at_).k==3)=false by simpa using h3,show((X8 L at_).k !=3)=true by simpa using h3]
    rfl
  ·rw[show V9 (X8 L at_).k 1 3=false from Bool.eq_false_iff.2 λh=>by have:=T2.1 h;omega]
   simp only[Bool.false_and,Bool.not_false,tB,beq_iff_eq];exact .inl Z9
 ·rw[show((X8 L at_).t !=id)=true by simpa using ht,show((X8 L at_).t==id)=false by simpa using ht]
  rfl
theorem b5S(e:Eng):(!G6 e.s||decide ((e.X.length:Int)>10)|| !G3 e.lk|| !V9 e.N 1 61)= !(G6 e.s&&wY e):=by
 unfold wY;rw[show decide ((e.X.length:Int)>10)= !decide (e.X.length<=10) by rw[←decide_not];exact decide_eq_decide.2 Z9]
 cases G6 e.s<;>cases decide (e.X.length<=10)<;>cases G3 e.lk<;>cases V9 e.N 1 61<;>rfl
theorem a0N:GK 33 a3U:=gk func33<|by
 rintro(e:Eng) ⟨hS,hk,o⟩;have o:e.X.length<1000000000000:=o;have v:e.lk.H.length<1000000000000:=hk.1;have u:e.lk.W.length<1000000000000:=hk.2;refine S1 (gC a2U (gC a5n (gC D0 (gC a8h (gC a4W (gC wH gN)))))) func33 (a2S e) (α:=let pf:=(e.lk.W.length:Int);let pe:=(e.lk.H.length:Int);let pa:=(e.s.L.length:Int);let f:=(false=P1 e);let m:=(e.X.length:Int);let w:=(0=0/\0=0);let v:=(oo (Q7 e e));∃(x:qW.ι),(((o6 e.s x)/\True)/\b5G x)/\∃(h:rN.ι),((!G6 x||decide (m>10))=false->(((Z2 Y7 e.lk.H h.H)/\(Z2 Y5 e.lk.W h.W)/\True)/\True)/\b5Z h)/\br (!G6 x||decide (m>10)|| !G3 h|| !V9 e.N (1:Int) (61:Int)) f (br (!e.up) ((m==0&&pe==0&&pf==0&&(e.s.fr.length:Int)==0)=P1 e) ((∃(x:U8 e.X.length (A7 e)),(w/\0=(x.1:Int)/\True)/\v/\True)/\∀(x:U8 e.X.length (A7 e)),let u:=(e.X.getD x.1 dz);let z:=(x.1:Int);let r:=(e.X.getD z.toNat dz);let pc:=(!V9 r.id (1:Int) (e.N-1));bd (z<m) (V7 z e.X.length/\Ri (e.N-1)/\(pc=false->decide (z>0)=true->Ri (z-1))/\(pc=false->decide (z>0)=true->V7 (z-1) e.X.length)/\br (!V9 r.id (1:Int) (e.N-1)||decide (z>0)&&decide ((e.X.getD (z-1).toNat dz).id≥r.id)|| !V9 r.Z (1:Int) pa) f ((∃(X:Chs e.s.L (e.X.getD x.1 dz)),(w/\z=z/\w/\r.Z=X.val.2/\True)/\v/\(oo (r.id=u.id/\r.Z=u.Z/\True))/\True)/\∀(X:Chs e.s.L (e.X.getD x.1 dz)),let c:=(X.val.2-1);let q:=(e.s.L.getD c.toNat dz);bd (X.val.2>0) (Ri c/\V7 c e.s.L.length/\∃(d:(Sto×Rec)),((q.t !=u.id||q.k==4||q.k==5||q.k==6)=false->(q.k==3)=true->((o6 e.s d.1)/\(q.e=d.2.e/\q.l=d.2.l/\q.t=d.2.t/\q.k=d.2.k/\q.p=d.2.p/\q.n=d.2.n/\q.g=d.2.g/\q.s=d.2.s/\q.b=d.2.b/\q.a=d.2.a/\True)/\True)/\d.2.n<=(d.1.L.length:Int)/\M1 d.1.L.length)/\br (q.t !=u.id||q.k==4||q.k==5||q.k==6||q.k==3&& !a4g d.1.L d.2) f (Ri c/\V7 c e.s.L.length/\∃(y:Chs e.s.L (e.X.getD x.1 dz)),((w/\z=z/\w/\q.p=y.1.2/\True)/\v/\(oo (u.id=u.id/\u.Z=u.Z/\True))/\True)/\Lt y.1.1 X.val.1)) (Ri (z+1)/\∃(y:U8 e.X.length (A7 e)),((w/\z+1=(y.1:Int)/\True)/\v/\True)/\Lt (e.X.length-y.1) (e.X.length-x.1)))) ((∃(x:U8 e.lk.H.length (xM e)),(w/\0=(x.1:Int)/\True)/\v/\True)/\∀(x:U8 e.lk.H.length (xM e)),let i:=(x.1:Int);bd (i<pe) (V7 i e.lk.H.length/\∃(X:(Eng×Int)),(((Q7 e X.1)/\(e.lk.H.getD i.toNat dz).tx=X.2/\True)/\M1 X.1.X.length)/\bd (S8 X.1.X X.2<0) f (Ri (i+1)/\∃(y:U8 e.lk.H.length (xM e)),((w/\i+1=(y.1:Int)/\True)/\v/\True)/\Lt (e.lk.H.length-y.1) (e.lk.H.length-x.1))) ((∃(x:U8 e.lk.W.length (v8 e)),(w/\0=(x.1:Int)/\True)/\v/\True)/\∀(x:U8 e.lk.W.length (v8 e)),let j:=(x.1:Int);let pd:=(e.lk.W.getD j.toNat dz);bd (j<pf) (V7 j e.lk.W.length/\∃(X:(Eng×Int)),let pb:=(S8 X.1.X X.2<0);(((Q7 e X.1)/\pd.tx=X.2/\True)/\M1 X.1.X.length)/\(decide pb=false->V7 j e.lk.W.length)/\∃(d:(Eng×Int)),(decide pb=false->((Q7 e d.1)/\pd.fo=d.2/\True)/\M1 d.1.X.length)/\br (decide pb||decide (S8 d.1.X d.2<0)) f (Ri (j+1)/\∃(y:U8 e.lk.W.length (v8 e)),((w/\j+1=(y.1:Int)/\True)/\v/\True)/\Lt (e.lk.W.length-y.1) (e.lk.W.length-x.1))) (∃(x:Eng),(((Q7 e x)/\True)/\yH x)/\Ri (pa+(↑(i5 x):Int))/\decide (pa+(↑(i5 x):Int)<=60)=P1 e)))))) ⟨e.s,⟨⟨(jO _),Z6⟩,hS⟩,e.lk,λ_=>⟨Y2,hk⟩,λhb=>?_,λhb=>?_⟩
 ·rw[b5S] at hb;unfold P1;cases h1:G6 e.s
  ·rfl
  ·rw[h1] at hb;rw[a9R kA]
   rfl
 rw[b5S] at hb;simp only[zF,O4] at hb;obtain⟨q,hh⟩:=hb;have L:=mJ q;have r:=L.1;obtain⟨Q,U,N,R⟩:=vL hh;have eo:P1 e=tE e:=by unfold P1;rw[q,Bool.true_and]
 refine⟨λhu=>?_,λhu=>?_⟩
 ·rw[eo,a9r hh a99]
  unfold a3T;rw[Bool.eq_iff_iff];simp only[O4,beq_iff_eq,r8];omega
 ·have hu':e.up=true:=by simpa using hu
  rw[eo,b0u hh hu'];refine⟨⟨F4,Y2⟩,λx=>⟨λhc=>?_,λhc=>?_⟩⟩
  ·have hlt:=Y1 hc;rw[G2,show((x.1:Int)-1).toNat=x.1-1 by omega]
   refine⟨Y3 hlt,Z3 Z9,λ_ _=>Z3 Z9,λ_ h0=>⟨b5Q,Z9⟩,λhq=>?_,λhq=>?_⟩
   ·refine(a8n hlt ?_).symm
    unfold A7 nX;rw[Bool.not_and,←Bool.or_assoc,hq];rfl
   ·simp only[zV,zF] at hq;obtain⟨⟨r1,r2⟩,r3⟩:=hq;obtain⟨l1,l2⟩:=T2.1 r3;refine⟨⟨⟨(61,(e.X.getD x.1 dz).Z),?_,l2,X0⟩,Y2⟩,λy=>?_⟩
    ·dsimp only;unfold nX;rw[uG Z9,r3]
     rfl
    obtain⟨⟨f,at_⟩,he,j,F⟩:=y;dsimp only at he j F ⊢;refine⟨λhy=>?_,λhy=>?_⟩
    ·have h0:at_>0:=E4 hy;have h1:1<=at_:=by omega
     obtain⟨O,M,I,J⟩:=L.prev h1 j;rw[uG Z9,Bool.false_or,gS _ _ Z9 h1] at he
     have es:=c7I L (e.X.getD x.1 dz).id h1 j;refine⟨Z3 Z9,⟨Z9,Z9⟩,(e.s,X8 e.s.L at_),λ_ _=>⟨⟨(jO _),Y2⟩,X0,qJ⟩,λhq=>?_,λhq=>?_⟩
     ·have hq:=es.symm.trans hq;refine(a8n hlt ?_).symm
      rw[show okR e.s.L (e.X.getD x.1 dz).id at_=false by simpa using hq] at he
      unfold A7;rw[←he];simp
     ·have hq:=es.symm.trans hq;rw[show okR e.s.L (e.X.getD x.1 dz).id at_=true by simpa using hq,Bool.true_and] at he
      refine⟨Z3 Z9,⟨Z9,Z9⟩,⟨(f-1,(X8 e.s.L at_).p),?_,X0,X0⟩,Y2,show f-1<f by omega⟩
      dsimp only;rw[←he];by_cases hp:(X8 e.s.L at_).p<=0
      ·rw[a3G _ _ _ hp,Bool.or_true]
      ·rw[uG hp,Bool.false_or]
    ·have h0:at_<=0:=by have:=s6 hy;omega
     rw[qK h0,Bool.true_or] at he;exact⟨V5 hlt Z9,x.succ hlt (by unfold A7;rw[←he,r1,r2];rfl),⟨⟨⟨rfl,rfl⟩,J7,Z6⟩,⟨rfl,rfl,xR _⟩,Z6⟩,U8.ext_lt hlt⟩
  ·have hge:=X6 hc;have hno:∀i,i<e.X.length->A7 e i=false:=λi hi=>x.2.2 i (yK hi hge)
   have hn:=c10 L hh hno;refine⟨⟨F4,Y2⟩,λy=>⟨λhy=>?_,λhy=>⟨⟨F4,Y2⟩,λz=>⟨λhz=>?_,λhz=>?_⟩⟩⟩⟩
   ·have hlt:=Y1 hy;exact⟨Y3 hlt,(e,(e.lk.H.getD y.1 dz).tx),⟨⟨(xR _),Y2⟩,o⟩,λhq=>(c33 hlt hq).symm,λhq=>⟨V5 hlt Z9,y.succ hlt hq,⟨⟨Y2,J7,Z6⟩,Y2⟩,U8.ext_lt hlt⟩⟩
   ·have hlt:=Y1 hz;exact⟨Y3 hlt,(e,(e.lk.W.getD z.1 dz).tx),⟨⟨(xR _),Y2⟩,o⟩,λ_=>Y3 hlt,(e,(e.lk.W.getD z.1 dz).fo),λ_=>⟨⟨(xR _),Y2⟩,o⟩,λhq=>(c4R hlt hq).symm,λhq=>⟨V5 hlt Z9,z.succ hlt hq,⟨⟨Y2,J7,Z6⟩,Y2⟩,U8.ext_lt hlt⟩⟩
   ·have g1:=X6 hy;have g2:=X6 hz;have hb:=eC e.s.L e.X e.X.length;have he:i5 e=w8 e.s.L e.X e.X.length:=rfl;refine⟨e,⟨⟨(xR _),Z6⟩,hn⟩,Z3 Z9,?_⟩
    have B:anyI e.X.length (A7 e)=false:=R8.2 hno;have A:anyI e.lk.H.length (xM e)=false:=R8.2 λi hi=>y.2.2 i (yK hi g1)
    have C:anyI e.lk.W.length (v8 e)=false:=R8.2 λi hi=>z.2.2 i (yK hi g2)
    unfold upE;rw[B,A,C];simp only[Bool.not_false,Bool.true_and];exact decide_eq_decide.2 Z9
def kO(s:Lks):Prop:=s.H.length<=1048576/\s.W.length<=1048576
def g9(s:Eng):Prop:=SmS s.s/\s.X.length<=1048576/\kO s.lk
open Go.SS Go.RowKit Go.Proofs.Tryz
theorem own:ownKnob prog.godebug=none:=O0
theorem c2U{P:Program}{f:FuncId}{fn:Func}{s:ChangeSpec}{c:OpenClaim}(N:c.wf (OpenSpec.ofChange s)=true)(Q:laidOutB P=true)(M:mapsRowed P=true)
  (W:fn.params.all (P.readableRec ·)=true) (O:namedTie P c.named s.vars=true) (U:(c.stops==[])=true) (X:(P.stops==[])=true) (R:(c.knobs==[])=true) (V:(P.stopKnobs==[])=true)
  (Y:(c.inPlace==P.inPlace f)=true) (l:(c.unfollowed==P.unfollowed f)=true) (v:(c.recurses==P.recurses f)=true) (n:(c.named==P.varsNamed f)=true)
  (h:(c.maps==(fn.params.toList++s.plain.varTypes P).any (P.mapsRec ·))=true) (g:(c.ifaces==(fn.params.toList++s.plain.varTypes P).any (P.ifacesRec ·))=true) (o:(c.mapsOut==P.mapsAmong fn.resultTypes.toList)=true)
  (x:(c.loops==(fn.params.toList++s.plain.varTypes P).any (P.loopsFrom ·))=true) (j:(c.wideKeys==(fn.params.toList++s.plain.varTypes P++fn.resultTypes.toList).any (P.wideKeysFrom ·))=true)
  (L:s.vars.all (P.varReadable ·)=true) (e:fn.resultTypes.all (λt=>P.readableRec t&&decide (t<P.types.size))=true) (B:(c.ifacesOut==fn.resultTypes.toList.any (P.ifacesRec ·))=true)
  (A:(c.loopsOut==fn.resultTypes.toList.any (P.loopsFrom ·))=true) (d:(c.plainKeys==P.plainKeys)=true) (z:c.shortTexts.isNone=true) (F:P.stopsHeard=true) (i:P.mayEnter=true)
  (I:(c.lifted==P.liftsFinal)=true) (q:(P.make==some c.make)=true) (r:(c.kinds==(if c.domain.isEmpty then[] else fn.params.toList.map λt=>match P.underlying t with|some (.int k)=>some k|_=>none))=true) (C:(c.pinned==c.pinnedBy)=true)
  (u:(c.veiled==(fn.params.toList++s.plain.varTypes P++fn.resultTypes.toList).any (P.veiledRec ·))=true) (J:c.veiledFits P fn.params.toList (fn.params.toList++s.plain.varTypes P++fn.resultTypes.toList)=true):joinedFacts P f fn s c=true:=by
 simp only[joinedFacts,O4];exact⟨⟨⟨⟨⟨⟨⟨⟨⟨⟨⟨⟨⟨⟨⟨⟨⟨⟨⟨⟨⟨⟨⟨⟨⟨⟨⟨⟨⟨⟨⟨N,Q⟩,M⟩,W⟩,O⟩,U⟩,X⟩,R⟩,V⟩,Y⟩,l⟩,v⟩,n⟩,h⟩,g⟩,o⟩,x⟩,j⟩,L⟩,e⟩,B⟩,A⟩,d⟩,z⟩,F⟩,i⟩,I⟩,q⟩,r⟩,C⟩,u⟩,J⟩
end
end Go.Proofs.YtlbmgnomkjmafaaGreat
