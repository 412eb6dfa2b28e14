/- A part of the proof. -/
import Derived.Test.YtghgljelnhfihaaGreatE3
import Derived.RangeFuncNested
import Derived.RangeFuncBound
import Derived.RangeFuncCalls
import Derived.RangeFuncBox
import Derived.RangeFuncLeaves
import Derived.Shelf.Abstract
import Derived.WalkKit
import Derived.OwnWalkIn
import Derived.TacticsInMore
import Derived.LoopNIn
import Derived.LoopIn
namespace Go.Proofs.YtghgljelnhfihaaGreat
set_option maxRecDepth 100000
open Go.SS

structure Pg where
 Q:Int
 sl:List (List UInt8)
 deriving Inhabited
def Pg.ts(p:Pg):List T:=[.int .i64 p.Q,xM p.sl]
def c12(b:Bool):Nat:=match b with|true=>30|false=>160
def O1(b:Bool)(s:List UInt8):Bool:=decide ((s.length:Int)>c12 b)
def a0d(b:Bool):List T->Option (T×Option Prop)
 | [.str s]=>some (.bool (O1 b s),none)
 |_=>none
def a8r:Con:=.pure (a0d true)
def a98:Con:=.pure (a0d false)
theorem a7G(s:List UInt8)(h:
  decide ((s.length:Int)>(30:Int))=O1 true s):
  U1 Tryz.prog 306 [.str s] (.bool (O1 true s)):=
 Q5 gN Tryz.func306 Y5 h
theorem a5x:GK 306 a8r:=gk Tryz.func306<|by
 intro args res p h hp;unfold a0d at h;split at h
 ·simp only[W8,T5] at h;obtain⟨rfl,rfl⟩:=h;exact a7G _ rfl
 ·cases h
theorem a9Y(s:List UInt8)(h:
  decide ((s.length:Int)>(160:Int))=O1 false s):
  U1 Tryz.prog 237 [.str s] (.bool (O1 false s)):=
 Q5 gN Tryz.func237 Y5 h
theorem a3S:GK 237 a98:=gk Tryz.func237<|by
 intro args res p h hp;unfold a0d at h;split at h
 ·simp only[W8,T5] at h;obtain⟨rfl,rfl⟩:=h;exact a9Y _ rfl
 ·cases h
def b15(b:Bool):T:=fnT (match b with|true=>306|false=>237)
def lM:Rl:=⟨List (List UInt8)×Bool,λx=>[xM x.1,b15 x.2],λx=>.int .i64 (P9 x.1.length λi=>O1 x.2 (x.1.getD i [])),λx=>O6 x.1.length⟩
def b27:Con:=.rel lM
def a2u(L:List (List UInt8))(b:Bool):Nat->Ann
 |0=>.one (V1 L.length λi=>O1 b (L.getD i [])) (λx=>⟨[(0,xM L),(1,b15 b),(7,.int .i64 L.length),(8,.int .i64 x.1)],[]⟩) (λx=>L.length-x.1) [] [] (λ_=>Y5)
 |_=>.none
theorem fL:GK 304 b27:=gk Tryz.func304<|by
 rintro⟨L,b⟩ (hL:L.length<1000000000000);cases b
 ·refine Q5 (gC a3S gN) Tryz.func304 (a2u L false) (α:=let r:=(Fn.func 237);let q:=(L.length:Int);(∃(x:V1 L.length λ(i:Nat)=>O1 false (L.getD i [])),((Y8 Z5 L L)/\Value.func r #[] #[]=Value.func r #[] #[]/\q=q/\0=(x.val:Int)/\True)/\True)/\∀(x:V1 L.length λ(i:Nat)=>O1 false (L.getD i [])),let p:=(x.val:Int);let z:=(L.getD p.toNat []);(decide (p<q)=true->V3 p L.length/\(O1 false z=true->p=P9 L.length λ(i:Nat)=>O1 false (L.getD i []))/\(O1 false z=false->W7 .i64 (p+1)/\∃(y:V1 L.length λ(i:Nat)=>O1 false (L.getD i [])),(((Y8 Z5 L L)/\Value.func r #[] #[]=Value.func r #[] #[]/\q=q/\p+1=(y.val:Int)/\True)/\True)/\Lt (L.length-y.val) (L.length-x.val)))/\(decide (p<q)=false->(-1:Int)=P9 L.length λ(i:Nat)=>O1 false (L.getD i []))) ⟨⟨F7,⟨⟨rfl,λ_ _=>rfl⟩,rfl,rfl,Z9⟩,trivial⟩,λx=>⟨λhc=> ?_,λhc=> ?_⟩⟩
  ·have hlt:=X6 hc;exact⟨X8 hlt,λhp=>(M6 hlt hp x.2.2).symm,λhp=>⟨U5 hlt (by omega),x.succ hlt hp,⟨⟨⟨rfl,λ_ _=>rfl⟩,rfl,rfl,Z9⟩,trivial⟩,V1.ext_lt hlt⟩⟩
  ·have hge:=X4 hc;exact(J1 λj hj=>x.2.2 j (wM hj hge)).symm
 ·refine Q5 (gC a5x gN) Tryz.func304 (a2u L true) (α:=let r:=(Fn.func 306);let q:=(L.length:Int);(∃(x:V1 L.length λ(i:Nat)=>O1 true (L.getD i [])),((Y8 Z5 L L)/\Value.func r #[] #[]=Value.func r #[] #[]/\q=q/\0=(x.val:Int)/\True)/\True)/\∀(x:V1 L.length λ(i:Nat)=>O1 true (L.getD i [])),let p:=(x.val:Int);let z:=(L.getD p.toNat []);(decide (p<q)=true->V3 p L.length/\(O1 true z=true->p=P9 L.length λ(i:Nat)=>O1 true (L.getD i []))/\(O1 true z=false->W7 .i64 (p+1)/\∃(y:V1 L.length λ(i:Nat)=>O1 true (L.getD i [])),(((Y8 Z5 L L)/\Value.func r #[] #[]=Value.func r #[] #[]/\q=q/\p+1=(y.val:Int)/\True)/\True)/\Lt (L.length-y.val) (L.length-x.val)))/\(decide (p<q)=false->(-1:Int)=P9 L.length λ(i:Nat)=>O1 true (L.getD i []))) ⟨⟨F7,⟨⟨rfl,λ_ _=>rfl⟩,rfl,rfl,Z9⟩,trivial⟩,λx=>⟨λhc=> ?_,λhc=> ?_⟩⟩
  ·have hlt:=X6 hc;exact⟨X8 hlt,λhp=>(M6 hlt hp x.2.2).symm,λhp=>⟨U5 hlt (by omega),x.succ hlt hp,⟨⟨⟨rfl,λ_ _=>rfl⟩,rfl,rfl,Z9⟩,trivial⟩,V1.ext_lt hlt⟩⟩
  ·have hge:=X4 hc;exact(J1 λj hj=>x.2.2 j (wM hj hge)).symm
def jH:Rl:=⟨List (List UInt8)×Bool,λx=>[xM x.1,b15 x.2],λx=>.bool (anyI x.1.length λi=>O1 x.2 (x.1.getD i [])),λx=>O6 x.1.length⟩
def b0K:Con:=.rel jH
theorem fV:GK 236 b0K:=gk Tryz.func236<|by
 rintro⟨L,b⟩ (hL:L.length<1000000000000);cases b
 ·exact Q5 (gC fL gN) Tryz.func236 Y5 (α:=∃(x:lM.ι),(((Y8 Z5 L x.1)/\Value.func (Fn.func 237) #[] #[]=Value.func (Fn.func (match x.2 with|true=>306|false=>237)) #[] #[]/\True)/\O6 x.1.length)/\decide ((P9 x.1.length λ(i:Nat)=>O1 x.2 (x.1.getD i []))≥(0:Int))=anyI L.length λ(i:Nat)=>O1 false (L.getD i [])) ⟨(L,false),⟨⟨⟨rfl,λ_ _=>rfl⟩,Z9⟩,hL⟩,A5 _ _⟩
 ·exact Q5 (gC fL gN) Tryz.func236 Y5 (α:=∃(x:lM.ι),(((Y8 Z5 L x.1)/\Value.func (Fn.func 306) #[] #[]=Value.func (Fn.func (match x.2 with|true=>306|false=>237)) #[] #[]/\True)/\O6 x.1.length)/\decide ((P9 x.1.length λ(i:Nat)=>O1 x.2 (x.1.getD i []))≥(0:Int))=anyI L.length λ(i:Nat)=>O1 true (L.getD i [])) ⟨(L,true),⟨⟨⟨rfl,λ_ _=>rfl⟩,Z9⟩,hL⟩,A5 _ _⟩
def eB(p:Pg):Prop:=0<=p.Q/\p.Q<=1000/\p.sl.length=4/\∀i,i<p.sl.length->(p.sl.getD i []).length<=30
noncomputable instance(p:Pg):Decidable (eB p):=Classical.propDecidable _
noncomputable def A2(p:Pg):Bool:=decide (eB p)
def PgB(p:Pg):Prop:=O6 p.sl.length
noncomputable def yV:Rl:=⟨Pg,λp=>[.agg p.ts],λp=>.bool (A2 p),PgB⟩
noncomputable def a8A:Con:=.rel yV
noncomputable def a9u:Con:=.rel yV
def a8C(p:Pg):Nat->Ann
 |0=>.one (V1 4 λi=>O1 true (p.sl.getD i [])) (λx=>⟨[(1,.ref 0 0 0),(3,.int .i64 x.1)],[some (.arr true 1000000 2 1 λ_=>p.ts)]⟩) (λx=>4-x.1) [.box 0] [.box 0] (λ_=>Y5)
 |_=>.none
def tY:Rl:=⟨Unit,λ_=>[],λ_=>.agg (Pg.ts ⟨0,[[],[],[],[]]⟩),λ_=>True⟩
def a34:Con:=.rel tY
def a3W:Con:=.rel tY
theorem a3J(h:
  (Nn (4:Int)/\LeI (4:Int) (4:Int)/\wK 16 4 140737488355328/\Lt 4 9223372036854775808)/\Le 4 4/\(0:Int)=(0:Int)/\(4=4/\Z6 4 (λ(x:Nat)=>[T.str []]) (Z5 [[],[],[],[]]))/\True):
  U1 Tryz.prog 240 [] (.agg (Pg.ts ⟨0,[[],[],[],[]]⟩)):=
 Q5 gN Tryz.func240 Y5 h
theorem a4O(h:
  (Nn (4:Int)/\LeI (4:Int) (4:Int)/\wK 16 4 140737488355328/\Lt 4 9223372036854775808)/\Le 4 4/\(0:Int)=(0:Int)/\(4=4/\Z6 4 (λ(x:Nat)=>[T.str []]) (Z5 [[],[],[],[]]))/\True):
  U1 Tryz.prog 285 [] (.agg (Pg.ts ⟨0,[[],[],[],[]]⟩)):=
 Q5 gN Tryz.func285 Y5 h
theorem lT{s:List UInt8}:O1 true s=false↔s.length<=30:=by
 unfold O1;rw[rX];show ¬ (s.length:Int)>((30:Nat):Int)↔_;omega
theorem kP{s:List UInt8}:O1 false s=false↔s.length<=160:=by
 unfold O1;rw[rX];show ¬ (s.length:Int)>((160:Nat):Int)↔_;omega
theorem Q8{n:Nat}{p:Nat->Bool}:anyI n p=false↔∀i,i<n->p i=false:=by
 rw[Bool.eq_false_iff,ne_eq,Q9];constructor
 ·intro h i hi;exact Bool.eq_false_iff.2 λhp=>h ⟨i,hi,hp⟩
 ·rintro h ⟨i,hi,hp⟩;rw[h i hi] at hp;cases hp
theorem b2B(p:Pg):A2 p=true↔eB p:=decide_eq_true_iff
theorem sL:GK 242 a8A:=gk Tryz.func242<|by
 intro(p:Pg) (hp:p.sl.length<1000000000000);refine Q5 (gC M5 (gC fV gN)) Tryz.func242 Y5 (α:=∃(x:jH.ι),((V9 p.Q (0:Int) (1000:Int)&&(p.sl.length:Int)==4)=true->((Y8 Z5 p.sl x.1)/\Value.func (Fn.func 306) #[] #[]=Value.func (Fn.func (match x.2 with|true=>306|false=>237)) #[] #[]/\True)/\O6 x.1.length)/\(V9 p.Q (0:Int) (1000:Int)&&(p.sl.length:Int)==4&& !anyI x.1.length λ(i:Nat)=>O1 x.2 (x.1.getD i []))=A2 p) ⟨(p.sl,true),λ_=>⟨⟨Z7,Z9⟩,hp⟩,?_⟩
 rw[Bool.eq_iff_iff,b2B];simp only[L3,xP,beq_iff_eq,V9,k4,Q8];constructor
 ·rintro⟨⟨⟨h1,h2⟩,h3⟩,h4⟩;exact⟨h1,h2,by omega,λi hi=>lT.1 (h4 i hi)⟩
 ·rintro⟨h1,h2,h3,h4⟩;exact⟨⟨⟨h1,h2⟩,by omega⟩,λi hi=>lT.2 (h4 i hi)⟩
theorem b6S{p:Pg}(h:¬eB p):false=A2 p:=(uV h).symm
theorem kR:GK 200 a9u:=gk Tryz.func200<|by
 intro(p:Pg) (hp:p.sl.length<1000000000000);refine Q5 (gC E3 gN) Tryz.func200 (a8C p) (α:=let z:=(1=1/\1=1/\p.Q=p.Q/\(Y8 Z5 p.sl p.sl)/\True);let r:=(!V9 p.Q (0:Int) (1000:Int)||(p.sl.length:Int) !=4);(r=true->false=A2 p)/\(r=false->(∃(x:V1 4 λ(i:Nat)=>O1 true (p.sl.getD i [])),((0=0/\0=0)/\0=(x.val:Int)/\True)/\z/\True)/\∀(x:V1 4 λ(i:Nat)=>O1 true (p.sl.getD i [])),let q:=(x.val:Int);let u:=((↑(p.sl.getD q.toNat []).length:Int)>30);(decide (q<4)=true->V3 q p.sl.length/\(decide u=true->false=A2 p)/\(decide u=false->W7 .i64 (q+1)/\∃(y:V1 4 λ(i:Nat)=>O1 true (p.sl.getD i [])),(((0=0/\0=0)/\q+1=(y.val:Int)/\True)/\z/\True)/\Lt (4-y.val) (4-x.val)))/\(decide (q<4)=false->true=A2 p))) ⟨λh=>b6S ?_,λh=> ?_⟩
 ·rintro⟨h1,h2,h3,_⟩;simp[V9] at h;omega
 simp[V9] at h;refine⟨⟨F7,⟨Z8,Z9⟩,⟨rfl,rfl,rfl,X5⟩,trivial⟩,λx=>⟨λhc=> ?_,λhc=> ?_⟩⟩
 ·have hlt:x.val<4:=by have:=C7 hc;omega
  refine⟨⟨by omega,by omega⟩,λhb=>b6S ?_,λhb=>⟨Z4 (by omega),x.succ hlt hb,⟨⟨Z8,Z9⟩,⟨rfl,rfl,rfl,X5⟩,trivial⟩,V1.ext_lt hlt⟩⟩
  rintro⟨_,_,_,h4⟩;have:=h4 x.val (by omega)
  rw[F5,k4] at hb;omega
 ·refine(pO ⟨h.1.1,h.1.2,by omega,λi hi=> ?_⟩).symm
  exact lT.1 (x.2.2 i (by have:=l7 hc;omega))
theorem mC:Z6 4 (λ_=>[T.str []]) (Z5 [[],[],[],[]]):=by
 intro i hi
 match i,hi with
 |0,_=>rfl
 |1,_=>rfl
 |2,_=>rfl
 |3,_=>rfl
theorem a1M:GK 240 a34:=gk Tryz.func240<|λ_ _=>a3J ⟨⟨by unfold Nn;omega,by unfold LeI;omega,by unfold wK;omega,by unfold Lt;omega⟩,W4 _,rfl,⟨rfl,mC⟩,trivial⟩
theorem a1y:GK 285 a3W:=gk Tryz.func285<|λ_ _=>a4O ⟨⟨by unfold Nn;omega,by unfold LeI;omega,by unfold wK;omega,by unfold Lt;omega⟩,W4 _,rfl,⟨rfl,mC⟩,trivial⟩
def wV(no:Int)(x:List UInt8):Bool:=decide (5<=x.length)&&(x.getD 0 0==112&&decide (((x.getD 1 0).toNat:Int)=no))
def pgX(x:List UInt8):Pg:=⟨be ((x.drop 2).take 2),(Q6 (x.drop 4)).getD []⟩
noncomputable def I7(no:Int)(b:List UInt8):Pg×Bool:=if S3 b&&wV no (X1 b) then(pgX (X1 b),(Q6 ((X1 b).drop 4)).isSome&&A2 (pgX (X1 b))) else(⟨0,[]⟩,false)
noncomputable def P3(no:Int)(b:List UInt8):Pg:=if(I7 no b).2 then(I7 no b).1 else⟨0,[]⟩
noncomputable def L7(no:Int)(b:List UInt8):Int:=if S3 b then(if(I7 no b).2 then 0 else 3) else 8
def RdB(b:List UInt8):Prop:=b.length<=1000
noncomputable def lC:Rl:=⟨Int×List UInt8,λx=>[.int .i64 x.1,.bys x.2],λx=>.tup [.agg (P3 x.1 x.2).ts,.int .i64 (L7 x.1 x.2)],λx=>RdB x.2⟩
noncomputable def a3y:Con:=.rel lC
noncomputable def gE:Rl:=⟨Int×List UInt8,λx=>[.int .i64 x.1,.str x.2],λx=>.tup [.agg (I7 x.1 x.2).1.ts,.bool (I7 x.1 x.2).2],λx=>RdB x.2⟩
noncomputable def a8o:Con:=.rel gE
theorem a5f:GK 286 a8o:=gk Tryz.func286<|by
 rintro⟨no,b⟩ (hb:b.length<=1000);have hx:(X1 b).length<=1000:=by
  unfold X1;split
  ·rw[List.length_take];omega
  ·exact S7 _
 have hh:(!S3 b||decide (((X1 b).length:Int)<5)||(((X1 b).getD 0 0).toNat:Int) !=112||IntKind.i64.wrap (((X1 b).getD 1 0).toNat:Int) !=no)= !(S3 b&&wV no (X1 b)):=by
  rw[wX];unfold wV;have:((X1 b).getD 0 0==112)=((((X1 b).getD 0 0).toNat:Int)==112):=by
   rw[Bool.eq_iff_iff,beq_iff_eq,beq_iff_eq,←UInt8.toNat_inj];exact⟨λh=>by rw[h];rfl,λh=>by have:((112:UInt8).toNat:Int)=112:=rfl;omega⟩
  rw[this];have h5:decide (((X1 b).length:Int)<5)= !decide (5<=(X1 b).length):=by rw[←decide_not];exact decide_eq_decide.2 (by omega)
  have hn:((((X1 b).getD 1 0).toNat:Int) !=no)= !decide ((((X1 b).getD 1 0).toNat:Int)=no):=by rw[Bool.eq_iff_iff];simp
  rw[h5,hn,bne];cases S3 b<;>cases decide (5<=(X1 b).length)<;>cases((((X1 b).getD 0 0).toNat:Int)==112)<;>simp
 refine Q5 (gC qZ (gC lB (gC iO (gC kR gN)))) Tryz.func286 Y5 (α:=let z:=(I7 no b);∃(x:a2E.ι),let r:=(↑((X1 x).getD 0 (0:UInt8)).toNat:Int);let q:=(X1 x).length;let u:=((↑q:Int)<5);let p:=(!S3 x||decide u||r !=112||IntKind.i64.wrap (↑((X1 x).getD 1 (0:UInt8)).toNat:Int) !=no);((b=x/\True)/\G4 x)/\((!S3 x||decide u)=false->V3 (0:Int) q)/\((!S3 x||decide u||r !=112)=false->V3 (1:Int) q)/\(p=true->(0=z.1.Q/\z.1.sl.length=0/\True)/\false=z.2/\True)/\(p=false->lL (4:Int) q/\∃(x_1:fM.ι),let v:=((Q6 x_1).getD []);((List.drop 4 (X1 x)=x_1/\True)/\G4 x_1)/\a7J (2:Int) (4:Int) q/\∃(x_2:mV.ι),((List.drop 2 (List.take 4 (X1 x))=x_2/\True)/\oW x_2)/\∃(x:yV.ι),((Q6 x_1).isSome=true->(((↑(be x_2):Int)=x.Q/\(Y8 Z5 v x.sl)/\True)/\True)/\PgB x)/\((↑(be x_2):Int)=z.1.Q/\(Y8 Z5 v z.1.sl)/\True)/\((Q6 x_1).isSome&&A2 x)=z.2/\True)) ⟨b,⟨Z9,Nat.le_trans hb (by decide)⟩,λh=> ?_,λh=> ?_,λh=> ?_,λh=> ?_⟩
 ·simp only[yP,rX] at h;exact⟨by omega,by omega⟩
 ·simp only[yP,rX] at h;exact⟨by omega,by omega⟩
 ·rw[hh] at h;have h:(S3 b&&wV no (X1 b))=false:=(xP _).mp h;have e:I7 no b=(⟨0,[]⟩,false):=by unfold I7;rw[h];rfl
  rw[e];exact⟨⟨rfl,Z9⟩,Z9⟩
 ·rw[hh] at h;have h:(S3 b&&wV no (X1 b))=true:=(yT _).mp h;have h5:5<=(X1 b).length:=by simp only[wV,L3,k4] at h;exact h.2.1
  have e:I7 no b=(pgX (X1 b),(Q6 ((X1 b).drop 4)).isSome&&A2 (pgX (X1 b))):=by unfold I7;rw[h];rfl
  rw[e];refine⟨⟨by omega,by omega⟩,(X1 b).drop 4,⟨Z9,by unfold G4;rw[List.length_drop];omega⟩,⟨by omega,by omega,by omega⟩,((X1 b).drop 2).take 2,⟨⟨?_,trivial⟩,by unfold oW;rw[List.length_take];omega⟩,pgX (X1 b),
   λ_=>⟨⟨⟨rfl,X5⟩,trivial⟩,?_⟩,⟨rfl,X5⟩,Z9⟩
  ·rw[List.drop_take]
  ·show((Q6 ((X1 b).drop 4)).getD []).length<1000000000000;unfold Q6;split
   ·decide
   ·split
    ·rename_i p out ho;split
     ·have:=lE ho;have:=g9 ((X1 b).drop 4) 0;simp only[Option.getD_some,H8] at*;omega
     ·decide
    ·decide
theorem a8U(r:List UInt8)(p i:Nat):(r.drop p).getD i 0=r.getD (p+i) 0:=by
 simp[P8]
theorem b0E(r:List UInt8)(hr:0<r.length):∀i,match zD r i with
  |some (p,out)=>I9 r false i=⟨r.drop p,false,out⟩/\p<=r.length
  |none=>(I9 r false i).fl=true
 |0=>by
  have:r.isEmpty=false:=by cases r with
   |nil=>simp at hr
   |cons=>rfl
  simp only[zD,I9,Fst.go,fs0,this,Bool.or_false];exact⟨trivial,hr⟩
 |i+1=>by
  have ih:=b0E r hr i;have hgo:I9 r false (i+1)=Fst.step (I9 r false i):=rfl;cases hf:zD r i with
  |none=>
   rw[hf] at ih;have:zD r (i+1)=none:=bV hf 1;rw[this,hgo];simp only at ih ⊢;simp[Fst.step,ih]
  |some x=>
   obtain⟨p,out⟩:=x;rw[hf] at ih;obtain⟨h1,h2⟩:=ih;rw[a6a hf,hgo,h1];have hnum:numR (r.drop p)=((r.getD p 0).toNat:Int):=by unfold numR;rw[a8U,Nat.add_zero]
   have hbig:big ((r.drop p).drop 1) (numR (r.drop p))=decide (¬ (p+1+(r.getD p 0).toNat<=r.length∨r.length<p+1/\(r.getD p 0).toNat=0)):=by
    unfold big;rw[hnum];refine decide_eq_decide.2 ?_
    simp only[List.length_drop];omega
   have hemp:(r.drop p).isEmpty=decide (¬p<r.length):=by
    rw[Bool.eq_iff_iff,List.isEmpty_iff,k4,List.drop_eq_nil_iff];omega
   simp only[Fst.step];rw[hbig,hemp];by_cases hc:p<r.length/\p+1+(r.getD p 0).toNat<=r.length
   ·rw[if_pos hc];simp only;have e1:decide (¬p<r.length)=false:=uV (by omega)
    have e2:decide (¬ (p+1+(r.getD p 0).toNat<=r.length∨r.length<p+1/\(r.getD p 0).toNat=0))=false:=uV (by omega)
    rw[e1,e2];have hbig':big ((r.drop p).drop 1) (numR (r.drop p))=false:=by rw[hbig,e2]
    unfold O9 R6;rw[hbig'];simp only[Bool.false_eq_true,if_false,Bool.or_false];refine⟨?_,hc.2⟩
    rw[hnum,F5,List.drop_drop,List.drop_drop,List.drop_take,show p+1+(r.getD p 0).toNat- (p+1)=(r.getD p 0).toNat by omega,List.drop_drop,Nat.add_assoc]
   ·rw[if_neg hc];simp only;rw[pP,pP];by_cases hp:p<r.length
    ·exact .inr (pO (by omega))
    ·exact .inl (.inr (pO hp))
theorem aN(l:List UInt8):∀i,(I9 l true i).fl=true
 |0=>by simp[I9,Fst.go,fs0]
 |i+1=>by
  have:=aN l i;simp only[I9] at this ⊢;simp[Fst.go,Fst.step,this]
theorem a4w(fl:Bool):∀i,(I9 [] fl i).fl=true
 |0=>by simp[I9,Fst.go,fs0]
 |i+1=>by
  have:=a4w fl i;simp only[I9] at this ⊢;simp[Fst.go,Fst.step,this]
noncomputable def rpQ(x:List UInt8):Pg:=⟨be ((R6 x 4).drop 2),(U8 (O9 x 4) (false||big x 4)).out⟩
noncomputable def qS(no:Int)(x:List UInt8):Bool:=(!(!(U8 (O9 x 4) (false||big x 4)).fl&&(U8 (O9 x 4) (false||big x 4)).l.isEmpty)||(((R6 x 4).getD 0 0).toNat:Int) !=112||IntKind.i64.wrap (((R6 x 4).getD 1 0).toNat:Int) !=no)
theorem a6y(no:Int)(b:List UInt8)(hu:S3 b=true):(qS no (X1 b)|| !A2 (rpQ (X1 b)))= !(I7 no b).2/\((I7 no b).2=true->rpQ (X1 b)=(I7 no b).1):=by
 have hr:I7 no b=if wV no (X1 b) then(pgX (X1 b),(Q6 ((X1 b).drop 4)).isSome&&A2 (pgX (X1 b))) else(⟨0,[]⟩,false):=by unfold I7;rw[hu,Bool.true_and]
 generalize X1 b=x at hr;rw[hr];by_cases h5:5<=x.length
 ·have hbig:big x 4=false:=uV (by omega)
  have hR:O9 x 4=x.drop 4:=by unfold O9;rw[hbig];rfl
  have hA:R6 x 4=x.take 4:=by unfold R6;rw[hbig];rfl
  have h0:(x.take 4).getD 0 0=x.getD 0 0:=by simp[P8,List.getElem?_take]
  have h1:(x.take 4).getD 1 0=x.getD 1 0:=by simp[P8,List.getElem?_take]
  have h2:(x.take 4).drop 2=(x.drop 2).take 2:=by rw[List.drop_take]
  have hq:rpQ x=⟨be ((x.drop 2).take 2),(U8 (x.drop 4) false).out⟩:=by unfold rpQ;rw[hR,hA,hbig,h2];rfl
  have hb:qS no x=(!(!(U8 (x.drop 4) false).fl&&(U8 (x.drop 4) false).l.isEmpty)||((x.getD 0 0).toNat:Int) !=112||((x.getD 1 0).toNat:Int) !=no):=by unfold qS;rw[hR,hA,hbig,h0,h1,wX];rfl
  have hhd:wV no x= !(((x.getD 0 0).toNat:Int) !=112||((x.getD 1 0).toNat:Int) !=no):=by
   unfold wV;rw[Bool.eq_iff_iff];simp only[L3,k4,beq_iff_eq,xP,yP,bne_eq_false_iff_eq];have:x.getD 0 0=112↔((x.getD 0 0).toNat:Int)=112:=by
    rw[←UInt8.toNat_inj];exact⟨λh=>by rw[h];rfl,λh=>by have:((112:UInt8).toNat:Int)=112:=rfl;omega⟩
   rw[this];exact⟨λh=>h.2,λh=>⟨h5,h⟩⟩
  have hlen:0<(x.drop 4).length:=by rw[List.length_drop];omega
  have hfs:=b0E (x.drop 4) hlen (H8 (x.drop 4));have hcn:(numR (x.drop 4)).toNat=H8 (x.drop 4):=by unfold numR H8;exact F5 _
  have hend:U8 (x.drop 4) false=I9 (x.drop 4) false (H8 (x.drop 4)):=by unfold U8;rw[hcn]
  have hall:Q6 (x.drop 4)=if H8 (x.drop 4)>100 then none else match zD (x.drop 4) (H8 (x.drop 4)) with
    |some (p,out)=>if p=(x.drop 4).length then some out else none
    |none=>none:=by
   unfold Q6;by_cases hc:H8 (x.drop 4)>100
   ·rw[if_pos (.inr hc),if_pos hc]
   ·rw[if_neg (by omega),if_neg hc]
    rfl
  rw[hb,hq,hhd,hend];generalize (((x.getD 0 0).toNat:Int) !=112)=d0;generalize (((x.getD 1 0).toNat:Int) !=no)=d1;have hX:∀out,Q6 (x.drop 4)=some out->pgX x=⟨be ((x.drop 2).take 2),out⟩:=λout h=>by unfold pgX;rw[h];rfl
  generalize be ((x.drop 2).take 2)=nn at hX;generalize pgX x=px at hX;generalize hr':x.drop 4=r at hfs hall hX;clear hq hb hhd hR hA h0 h1 h2 hr hend hcn;cases hf:zD r (H8 r) with
  |none=>
   rw[hf] at hfs hall;simp only at hfs;have hall:Q6 r=none:=by rw[hall];split<;>rfl
   rw[hfs,hall];cases d0<;>cases d1<;>simp
  |some y=>
   obtain⟨p,out⟩:=y;rw[hf] at hfs hall;simp only at hfs hall;obtain⟨hfs,hpl⟩:=hfs;rw[hfs];have ho:out.length=H8 r:=lE hf;by_cases hp:p=r.length
   ·have hem:(r.drop p).isEmpty=true:=by rw[List.isEmpty_iff,List.drop_eq_nil_iff];omega
    by_cases hc:H8 r>100
    ·rw[if_pos hc] at hall;have hpg:A2 ⟨nn,out⟩=false:=uV (λh=>by have:=h.2.2.1;simp only at this;omega)
     simp only[hem,hall,hpg];cases d0<;>cases d1<;>simp
    ·rw[if_neg hc,if_pos hp] at hall;rw[hX out hall];simp only[hem,hall];cases d0<;>cases d1<;>simp
   ·have hem:(r.drop p).isEmpty=false:=by
     rw[Bool.eq_false_iff,ne_eq,List.isEmpty_iff,List.drop_eq_nil_iff];omega
    have hall:Q6 r=none:=by rw[hall,if_neg hp];split<;>rfl
    simp only[hem,hall];cases d0<;>cases d1<;>simp
 ·have hh:wV no x=false:=by unfold wV;rw[uV h5];rfl
  have hbad:(U8 (O9 x 4) (false||big x 4)).fl=true:=by
   by_cases h4:4<=x.length
   ·have hbig:big x 4=false:=uV (by omega)
    have hR:O9 x 4=[]:=by unfold O9;rw[hbig];exact List.drop_eq_nil_iff.2 (by show x.length<=4;omega)
    rw[hR];exact a4w _ _
   ·have hbig:big x 4=true:=pO (by omega)
    rw[hbig];exact aN _ _
  have hb:qS no x=true:=by unfold qS;rw[hbad];simp
  rw[hb,hh];simp
theorem a1x:GK 241 a3y:=gk Tryz.func241<|by
 rintro⟨no,b⟩ (hb:b.length<=1000);have hl:∀(x:List UInt8),(R6 x 4).length=4:=λx=>by
  unfold R6;split
  ·exact List.length_replicate
  ·rename_i h;have:¬4>(x.length:Int):=by simpa[big] using h
   rw[List.length_take,show(4:Int).toNat=4 from rfl]
   omega
 refine Q5 (gC uS (gC pW (gC a5G (gC gG (gC tL (gC sL gN)))))) Tryz.func241 Y5 (α:=let j:=((b.length:Int)>65536);let w:=(P3 no b);let z:=(0=w.Q/\w.sl.length=0/\True);(decide j=true->z/\2=L7 no b/\True)/\(decide j=false->∃(x:vG.ι),let q:=(R6 (X1 x) (4:Int));let y:=(↑(q.getD 1 (0:UInt8)).toNat:Int);let u:=(↑(q.getD 0 (0:UInt8)).toNat:Int);let p:=(U8 (O9 (X1 x) (4:Int)) (false||big (X1 x) (4:Int)));let v:=(! p.fl&&p.l.isEmpty);((b=x/\True)/\G4 x)/\((!S3 x)=true->z/\8=L7 no b/\True)/\((!S3 x)=false->vY (4:Int)/\lL (2:Int) q.length/\∃(x_1:a7d.ι),((List.drop 2 q=x_1/\True)/\oW x_1)/\((! v)=false->V3 (0:Int) q.length)/\((! v||u !=112)=false->V3 (1:Int) q.length)/\∃(x_2:yV.ι),let r:=(! v||u !=112||IntKind.i64.wrap y !=no|| !A2 x_2);((! v||u !=112||IntKind.i64.wrap y !=no)=false->(((↑(be x_1):Int)=x_2.Q/\(Y8 Z5 p.out x_2.sl)/\True)/\True)/\PgB x_2)/\(r=true->z/\3=L7 no b/\True)/\(r=false->((↑(be x_1):Int)=w.Q/\(Y8 Z5 p.out w.sl)/\True)/\0=L7 no b/\True)))) ⟨λh=> ?_,λ_=>⟨b,⟨Z9,Nat.le_trans hb (by decide)⟩,λh=> ?_,λh=>⟨⟨by omega,by omega⟩,⟨by omega,by rw[hl];omega⟩,(R6 (X1 b) 4).drop 2,⟨⟨rfl,trivial⟩,by unfold oW;rw[List.length_drop,hl];omega⟩,
  λ_=>⟨by omega,by rw[hl];omega⟩,λ_=>⟨by omega,by rw[hl];omega⟩,rpQ (X1 b),λ_=>⟨⟨⟨rfl,X5⟩,trivial⟩,?_⟩,λg=> ?_,λg=> ?_⟩⟩⟩
 ·have:=C7 h;have hb:b.length<=1000:=hb;omega
 ·have hu:S3 b=false:=by simpa using h
  have e2:(I7 no b).2=false:=by unfold I7;rw[hu];rfl
  have e1:P3 no b=⟨0,[]⟩:=by unfold P3;rw[e2];rfl
  have e3:L7 no b=8:=by unfold L7;rw[hu];rfl
  rw[e1,e3];exact⟨⟨rfl,Z9⟩,Z9⟩
 ·show(U8 (O9 (X1 b) 4) (false||big (X1 b) 4)).out.length<1000000000000;unfold U8;rw[wI];have:=w9 (O9 (X1 b) 4);omega
 ·have hu:S3 b=true:=by simpa using h
  have hq:=(a6y no b hu).1;have e2:(I7 no b).2=false:=by
   have g:(qS no (X1 b)|| !A2 (rpQ (X1 b)))=true:=g;rw[g] at hq;exact(xP _).mp hq.symm
  have e1:P3 no b=⟨0,[]⟩:=by unfold P3;rw[e2];rfl
  have e3:L7 no b=3:=by unfold L7;rw[hu,e2];rfl
  rw[e1,e3];exact⟨⟨rfl,Z9⟩,Z9⟩
 ·have hu:S3 b=true:=by simpa using h
  have hq:=a6y no b hu;have e2:(I7 no b).2=true:=by
   have g:(qS no (X1 b)|| !A2 (rpQ (X1 b)))=false:=g;rw[g] at hq;exact(yT _).mp hq.1.symm
  have e1:P3 no b=rpQ (X1 b):=by unfold P3;rw[e2,hq.2 e2];rfl
  have e3:L7 no b=0:=by unfold L7;rw[hu,e2];rfl
  rw[e1,e3];exact⟨⟨rfl,X5⟩,Z9⟩
end Go.Proofs.YtghgljelnhfihaaGreat

namespace Go.Proofs.YtghgljelnhfihaaGreat
open Go.SS Go.RowKit Go.Shelf
attribute [local go_sem] Oper.semAt_some

structure Pend where
 at_:Int
 d:List UInt8
 deriving Inhabited
def Pend.ts(p:Pend):List T:=[.int .i64 p.at_,.str p.d]
def Pend.val(p:Pend):Value:=.agg #[.int .i64 p.at_,.string ⟨p.d.toArray⟩]
def wO{α:Type}(f:Nat->α)(k:Nat):List α:=(List.range k).map f
theorem rZ{α:Type}(f:Nat->α)(k:Nat):wO f (k+1)=wO f k++[f k]:=by simp[wO,List.range_succ]
theorem cO{α:Type}(f:Nat->α)(k:Nat):(wO f k).length=k:=by simp[wO]
def bwF(ps:Nat->Pend)(len j:Nat):Nat×Pend:=(len-1-j,ps (len-1-j))
def bwE(x:Nat×Pend):Array Value:= #[.int .i64 (x.1:Int),x.2.val]

def KpB(n₀ Bs:Nat)(A B:World):Prop:=Below n₀ A B/\∀v,A.cell? ⟨Bs,0,none⟩=some v->B.cell? ⟨Bs,0,none⟩=some v
theorem KpB.refl(n₀ Bs:Nat)(A:World):KpB n₀ Bs A A:=⟨Below.refl _ _,λ_ h=>h⟩
theorem KpB.trans{n₀ Bs:Nat}{A B C:World}(h:KpB n₀ Bs A B)(k:KpB n₀ Bs B C):KpB n₀ Bs A C:=⟨h.1.trans k.1,λv hv=>k.2 v (h.2 v hv)⟩
set_option maxRecDepth 100000 in
set_option maxHeartbeats 2000000 in
theorem b8t(F:Fence)(n:Nat)(h8:F.fn 298)(hro:F.round=none)(hn:1<=n)(l Bs n₀ b off len cap:Nat)(ps:Nat->Pend)(hreach:len<1000000000000)(hb:b<n₀)(J Jx:List (Nat×Pend)->World->Prop)
  (hY:∀pre x W,J pre W->pre.length<len->YieldAt F (n-1) Tryz.prog l (bwE x) W λe W'=>
   (e= .returned (.bool true)/\J (pre++[x]) W'/\KpB n₀ Bs W W')∨(e= .returned (.bool false)/\Jx (pre++[x]) W'))
  (W:World) (hBs:W.cell? ⟨Bs,0,none⟩=some (.slice (some ⟨b,off,none⟩) len cap))
  (hc0:∀j,j<len->W.cell? ⟨b,off+j*2,none⟩=some (.int .i64 (ps j).at_)) (hc1:∀j,j<len->W.cell? ⟨b,off+j*2+1,none⟩=some (.string ⟨(ps j).d.toArray⟩)) (h0:J [] W):
  CallsIn F n Tryz.prog 298 #[.func (.yield l) #[] #[],.pointer (some ⟨Bs,0,none⟩)] W λe W'=>(∃v,e= .returned v)/\
   ((∃ys,ys=wO (bwF ps len) len/\J ys W')∨(∃pre,(∃k,k<=len/\pre=wO (bwF ps len) k)/\Jx pre W')):=by
 refine callsIn_of_wp Tryz.func298 rfl h8 ?_ hro
 simp only[Tryz.ntmps298,List.size_toArray,List.length_cons,List.length_nil,Nat.reduceAdd,Nat.reduceSub,Array.replicate_succ,Array.replicate_zero,List.push_toArray,List.append_toArray,List.nil_append,List.cons_append]
 gi_wp2
 gi_loopw [3] (λi wr=>∃k:Nat,k<=len/\i= .int .i64 ((len:Int)-1-k)/\J (wO (bwF ps len) k) wr/\KpB n₀ Bs W wr)
  (λi _=>(intOf i+1).toNat)
 case atStart=>exact⟨0,S7 _,by simp,h0,KpB.refl _ _ _⟩
 case round=>
  obtain⟨k,hk,rfl,hJs,hnx⟩:=hrel;have hBx:wr.cell? ⟨Bs,0,none⟩=some (.slice (some ⟨b,off,none⟩) len cap):=hnx.2 _ hBs;by_cases hlt:k<len
  ·obtain⟨m,hm⟩:∃m,len=k+1+m:=⟨len-1-k,by omega⟩
   have hfk:bwF ps len k=(m,ps m):=by unfold bwF;rw[show len-1-k=m by omega]
   have e1:(len:Int)-1-k=(m:Int):=by omega
   rw[e1];have hm1:m<len:=by omega
   have hm2:len<=m+k+1:=by omega
   have hm3:m+k+1<=len:=by omega
   clear hm e1;have hx0:=(hnx.1.cell (p:=⟨b,off+m*2,none⟩) hb).trans (hc0 m (by omega))
   have hx1:=(hnx.1.cell (p:=⟨b,off+m*2+1,none⟩) hb).trans (hc1 m (by omega))
   obtain⟨fn,tmps,assign,body,hy,hR⟩:=hY _ (m,ps m) wr hJs (by rw[cO];exact hlt)
   dsimp only[bwE,Pend.val] at hy
   gi_wp2
   refine hR.mono ?_
   rintro e W3 (⟨rfl,hJ3,hk3⟩|⟨rfl,hJx3⟩)
   ·gi_wp2
    go_roundw
    case rel=>exact⟨k+1,by omega,by congr 1;omega,by rw[rZ,hfk];exact hJ3,hnx.trans hk3⟩
    case measure=>(simp[intOf]<;>omega)
   ·gi_wp2
    refine bodyPost_ret (results_none rfl _ _ _) rfl ?_
    exact⟨⟨_,rfl⟩,.inr ⟨_,⟨k+1,by omega,by rw[rZ,hfk]⟩,hJx3⟩⟩
  ·obtain rfl:k=len:=by omega
   have e1:((k:Nat):Int)-1-k= -1:=by omega
   rw[e1]
   gi_wp2
   go_end0
   exact⟨⟨_,rfl⟩,.inl ⟨_,rfl,hJs⟩⟩
set_option maxRecDepth 100000 in
set_option maxHeartbeats 1000000 in
theorem a48(F:Fence)(n:Nat)(h8:F.fn 298)(hro:F.round=none)(l Bs cap:Nat)(a:Option Addr)(J:List (Nat×Pend)->World->Prop)(W:World)(hBs:W.cell? ⟨Bs,0,none⟩=some (.slice a 0 cap))(h0:J [] W):
  CallsIn F n Tryz.prog 298 #[.func (.yield l) #[] #[],.pointer (some ⟨Bs,0,none⟩)] W λe W'=>(∃v,e= .returned v)/\J [] W':=by
 refine callsIn_of_wp Tryz.func298 rfl h8 ?_ hro
 simp only[Tryz.ntmps298,List.size_toArray,List.length_cons,List.length_nil,Nat.reduceAdd,Nat.reduceSub,Array.replicate_succ,Array.replicate_zero,List.push_toArray,List.append_toArray,List.nil_append,List.cons_append]
 gi_wp2
 gi_loopw [3] (λi wr=>i= .int .i64 (-1)/\J [] wr) (λ_ _=>0)
 case atStart=>exact⟨rfl,h0⟩
 case round=>
  obtain⟨rfl,hJs⟩:=hrel
  gi_wp2
  go_end0
  exact⟨⟨_,rfl⟩,hJs⟩
set_option maxHeartbeats 1000000 in
theorem c0R(F:Fence)(n:Nat)(h6:F.fn 223)(hro:F.round=none)(a:Option Addr)(len cap:Nat)(w:World):
  CallsIn F n Tryz.prog 223 #[.slice a len cap] w λe w'=>e= .returned (.func (.func 298) #[] #[.pointer (some ⟨w.heap.size,0,none⟩)])/\w'=w.alloc (.cells #[.slice a len cap] 24):=by
 refine callsIn_of_wp Tryz.func223 rfl h6 ?_ hro
 simp only[Tryz.ntmps223,List.size_toArray,List.length_cons,List.length_nil,Nat.reduceAdd,Nat.reduceSub,Array.replicate_succ,Array.replicate_zero,List.push_toArray,List.append_toArray,List.nil_append,List.cons_append]
 gi_wp2
 go_ret
 exact Z8
def zZ(n₀:Nat)(W:World)(sv:Value)(len:Nat)(ps:Nat->Pend):Prop:=
 (∃a cap,sv= .slice a 0 cap/\len=0)∨∃b off cap,sv= .slice (some ⟨b,off,none⟩) len cap/\b<n₀/\∀j,j<len->W.cell? ⟨b,off+j*2,none⟩=some (.int .i64 (ps j).at_)/\W.cell? ⟨b,off+j*2+1,none⟩=some (.string ⟨(ps j).d.toArray⟩)
theorem zZ.below{n₀:Nat}{A B:World}(h:Below n₀ A B){sv:Value}{len:Nat}{ps:Nat->Pend}:zZ n₀ A sv len ps->zZ n₀ B sv len ps
 | .inl e=>.inl e
 | .inr ⟨b,off,cap,e,hb,hc⟩=>.inr ⟨b,off,cap,e,hb,λj hj=>⟨(h.cell (p:=⟨b,off+j*2,none⟩) hb).trans (hc j hj).1,(h.cell (p:=⟨b,off+j*2+1,none⟩) hb).trans (hc j hj).2⟩⟩
theorem b1l(F:Fence)(n:Nat)(h8:F.fn 298)(hro:F.round=none)(hn:1<=n)(Bs n₀:Nat)(sv:Value)(len:Nat)(ps:Nat->Pend)(hreach:len<1000000000000)(w:World)(hBs:Bs<w.heap.size)(hn₀:n₀<=w.heap.size)
  (hc:w.cell? ⟨Bs,0,none⟩=some sv) (hI:zZ n₀ w sv len ps):
  SeqStopsK F n Tryz.prog 298 #[.pointer (some ⟨Bs,0,none⟩)] bwE (KpB n₀ Bs) (λys=>ys=wO (bwF ps len) len)
   (λpre=>∃k,k<=len/\pre=wO (bwF ps len) k) len w:=λl J Jx W hW _ _ hY h0=>by
 have hc':=(hW.cell (p:=⟨Bs,0,none⟩) hBs).trans hc;rcases hI.below (hW.mono hn₀) with⟨a,cap,rfl,rfl⟩|⟨b,off,cap,rfl,hb,hcs⟩
 ·exact(a48 F n h8 hro l Bs cap a J W hc' h0).mono λe W' ⟨he,hj⟩=>⟨he,.inl ⟨_,rfl,hj⟩⟩
 ·exact b8t F n h8 hro hn l Bs n₀ b off len cap ps hreach hb J Jx hY W hc' (λj hj=>(hcs j hj).1) (λj hj=>(hcs j hj).2) h0
theorem zZ.mono{n n':Nat}{W:World}{sv:Value}{len:Nat}{ps:Nat->Pend}(h:n<=n'):zZ n W sv len ps->zZ n' W sv len ps
 | .inl e=>.inl e
 | .inr ⟨b,off,cap,e,hb,hc⟩=>.inr ⟨b,off,cap,e,wM hb h,hc⟩
def iV(n₀:Nat)(W:World)(sv:Value)(m:Nat)(L:List (List UInt8)):Prop:=∃b off cap,sv= .slice (some ⟨b,off,none⟩) m cap/\b<n₀/\∀j,j<m->W.cell? ⟨b,off+j,none⟩=some (.string ⟨(L.getD j []).toArray⟩)
theorem iV.below{n₀:Nat}{A B:World}(h:Below n₀ A B){sv:Value}{m:Nat}{L:List (List UInt8)}:iV n₀ A sv m L->iV n₀ B sv m L:=
 λ⟨b,off,cap,e,hb,hc⟩=>⟨b,off,cap,e,hb,λj hj=>(h.cell (p:=⟨b,off+j,none⟩) hb).trans (hc j hj)⟩
theorem kG(w:World)(cs:Array Value)(t:TypeId)(j:Nat){v:Value}(h:cs[j]? =some v):(w.alloc (.cells cs t)).cell? ⟨w.heap.size,j,none⟩=some v:=by
 have:=World.alloc_heap_new w (.cells cs t);unfold World.cell?;simp only;rw[this];exact h
theorem wR{A:World}(o:Obj){p:Addr}{v:Value}(h:A.cell? p=some v):(A.alloc o).cell? p=some v:=cell_kept h (World.grownBy_alloc _ o none) (λr e=>by cases e)
theorem a7w{w:World}(cs:Array Value)(t:TypeId)(o1 o2 o3:Obj)(j:Nat){v:Value}(h:cs[j]? =some v):
  ((((w.alloc (.cells cs t)).alloc o1).alloc o2).alloc o3).cell? ⟨w.heap.size,j,none⟩=some v:=by
 exact wR _ (wR _ (wR _ (kG w cs t j h)))

set_option maxRecDepth 100000 in
set_option maxHeartbeats 4000000 in
theorem b5p(F:Fence)(n:Nat)(h3:F.fn 126)(h4:F.fn 223)(h5:F.fn 298)(hro:F.round=none)(hn:6<=n)(sec cache keep:Value)(armed:Bool)(at_:Nat)(m len:Nat)(L:List (List UInt8))(ps:Nat->Pend)(ca:Option Addr)(clen ccap:Nat)(w:World)
  (hcv:cache= .slice ca clen ccap) (hI:zZ w.heap.size w cache len ps) (hS:iV w.heap.size w sec m L) (hreach:len<1000000000000) (hat:at_<m):
  CallsIn F n Tryz.prog 126 #[.agg #[sec,cache,.bool armed,keep],.int .i64 at_] w λe W'=>
   ∃v,e= .returned v/\Below w.heap.size w W'/\((v= .string ⟨(L.getD at_ []).toArray⟩/\∀j,j<len->(ps j).at_≠at_)∨∃k,k<len/\v= .string ⟨(ps (len-1-k)).d.toArray⟩/\(ps (len-1-k)).at_=at_/\∀j,j<k->(ps (len-1-j)).at_≠at_):=by
 have h1:1<=n:=by omega
 subst hcv;refine callsIn_of_wp_marks Tryz.func126 rfl h3 ?_ hro
 simp only[Tryz.ntmps126,List.size_toArray,List.length_cons,List.length_nil,Nat.reduceAdd,Nat.reduceSub,Array.replicate_succ,Array.replicate_zero,List.push_toArray,List.append_toArray,List.nil_append,List.cons_append]
 gi_wp2_with (gi_at_call 223;refine(c0R F (n-1) h4 hro _ _ _ _).mono ?_;rintro e w' ⟨rfl,rfl⟩)
 obtain⟨W0,hW0⟩:∃W0,(((w.alloc (.cells #[sec,.slice ca clen ccap,.bool armed,keep] 27)).alloc (.cells #[.int .i64 (at_:Int)] 3)).alloc (.cells #[.string ⟨#[]⟩] 9)).alloc (.cells #[.slice ca clen ccap] 24)=W0:=⟨_,rfl⟩;have bD:W0.cell? ⟨w.heap.size,0,none⟩=some sec:=by rw[←hW0];exact a7w _ _ _ _ _ 0 rfl
 have bA:Boxed W0 (w.heap.size+1) 3 (.int .i64 (at_:Int)):=by
  have:=((Boxed.new (w.alloc (.cells #[sec,.slice ca clen ccap,.bool armed,keep] 27)) 3 (.int .i64 (at_:Int))).alloc (.cells #[.string ⟨#[]⟩] 9)).alloc (.cells #[.slice ca clen ccap] 24);rw[←hW0]
  simpa only[World.size_alloc] using this
 have bR:Boxed W0 (w.heap.size+1+1) 9 (.string ⟨#[]⟩):=by
  have:=(Boxed.new ((w.alloc (.cells #[sec,.slice ca clen ccap,.bool armed,keep] 27)).alloc (.cells #[.int .i64 (at_:Int)] 3)) 9 (.string ⟨#[]⟩)).alloc (.cells #[.slice ca clen ccap] 24);rw[←hW0]
  simpa only[World.size_alloc] using this
 have bN:Boxed W0 (w.heap.size+1+1+1) 24 (.slice ca clen ccap):=by
  have:=Boxed.new (((w.alloc (.cells #[sec,.slice ca clen ccap,.bool armed,keep] 27)).alloc (.cells #[.int .i64 (at_:Int)] 3)).alloc (.cells #[.string ⟨#[]⟩] 9)) 24 (.slice ca clen ccap);rw[←hW0]
  simpa only[World.size_alloc] using this
 have hB0:Below w.heap.size w W0:=by
  rw[←hW0];exact((((Below.refl _ w).alloc (W4 _) _).alloc (by simp) _).alloc (by simp;omega) _).alloc (by simp;omega) _
 have hsz:W0.heap.size=w.heap.size+4:=by rw[←hW0];simp
 rw[hW0];have kpB_b:∀(W:World) (l:Nat) (o o':Obj),W0.heap.size<=l->W.heap[l]? =some o->o.isCells=false->o.isWalk=false->KpB w.heap.size (w.heap.size+1+1+1) W (W.putObj l o'):=λW l o o' hl ho hc hk=>
  ⟨belowK_b (w:=w) (W4 _) W l o o' (by omega) ho hc hk,λv hv=>cell_kept hv (grownBy_putObj' _ l o') (λr e=>by cases e;exact⟨_,ho,hc⟩)⟩
 refine wpIn_rangeFunc_ownH hro h1 (gf:=298) (lb:= #[.pointer (some ⟨w.heap.size+1+1+1,0,none⟩)]) rfl h5 (enters_of Tryz.func298 (by kernel_rfl) rfl)
  (b1l F (n-1) h5 hro (by omega) (w.heap.size+1+1+1) w.heap.size _ len ps hreach W0 (by omega) (by omega) bN.cell (hI.below hB0)) KpB.trans kpB_b (Below.refl _ _) (λ_=>rfl)
  (λpre W=>(((∀x ∈ pre,x.2.at_≠(at_:Int))/\Boxed W (w.heap.size+1+1) 9 (.string ⟨#[]⟩))/\(Boxed W (w.heap.size+1) 3 (.int .i64 (at_:Int))/\W.cell? ⟨w.heap.size,0,none⟩=some sec))/\Below w.heap.size w W)
  (λc pre W=>((c= .ret/\∃ini last,pre=ini++[last]/\(∀p ∈ ini,p.2.at_≠(at_:Int))/\last.2.at_=(at_:Int)/\W.cell? ⟨w.heap.size+1+1,0,none⟩=some (.string ⟨last.2.d.toArray⟩)))/\Below w.heap.size w W)
  (OwnFrom.and (OwnFrom.and (OwnFrom.and (ownFrom_pure _ _) (Own.from (boxed_own _ _ _) _)) (OwnFrom.and (Own.from (boxed_own _ _ _) _) (Own.from (λs A B row hs hg hr=>cell_kept hs hg hr) _))) (ownFrom_below (W4 _) (by omega)))
  (λc=>OwnFrom.and (Own.from (λs A B row hs hg hr=>by obtain⟨hc,ini,last,e1,e2,e3,e4⟩:=hs;exact⟨hc,ini,last,e1,e2,e3,cell_kept e4 hg hr⟩) _) (ownFrom_below (W4 _) (by omega)))
  ⟨⟨⟨by simp,bR⟩,⟨bA,bD⟩⟩,hB0⟩
  (λx a' W=>∃Bx,w.heap.size+1+1<Bx/\(W.cell? ⟨Bx,0,none⟩=some (.int .i64 x.2.at_)/\W.cell? ⟨Bx,1,none⟩=some (.string ⟨x.2.d.toArray⟩))/\a'={tmps:= #[.agg #[sec,.slice ca clen ccap,.bool armed,keep],.int .i64 (at_:Int),.pointer (some ⟨w.heap.size,0,none⟩),.pointer (some ⟨w.heap.size+1,0,none⟩),.pointer (some ⟨w.heap.size+1+1,0,none⟩),undef,.pointer (some ⟨Bx,0,none⟩),.pointer (some ⟨w.heap.size,1,none⟩),.slice ca clen ccap,.func (.func 298) #[] #[.pointer (some ⟨w.heap.size+1+1+1,0,none⟩)],.int .i64 (x.1:Int),x.2.val,undef,undef,undef,undef,undef,undef,undef,undef,undef,undef,undef],defers:=[]})
  (λx a' _ X Y row hs hg hr=>by obtain⟨Bx,e1,⟨e2,e4⟩,e3⟩:=hs;exact⟨Bx,e1,⟨cell_kept e2 hg (λr e=>(hr r e).2),cell_kept e4 hg (λr e=>(hr r e).2)⟩,e3⟩)
  ?assign ?body ?done ?stop
 case assign=>
  rintro l pre x W K ⟨⟨⟨hp,bR1⟩,bA1,bD1⟩,hB1⟩ hK;dsimp only[bwE,Pend.val]
  gi_wp2
  exact hK _ _ ((KeepsOthers.alloc _ _).from _) ⟨(Below.refl _ W).alloc hB1.size _,λv hv=>wR _ hv⟩ ⟨⟨⟨hp,bR1.alloc _⟩,bA1.alloc _,wR _ bD1⟩,hB1.alloc hB1.size _⟩ ⟨W.heap.size,bR1.lt,⟨kG _ _ _ 0 rfl,kG _ _ _ 1 rfl⟩,rfl⟩
 case body=>
  rintro l pre x a' W hl ⟨r,hr⟩ ⟨⟨⟨hp,bR1⟩,bA1,bD1⟩,hB1⟩ ⟨Bx,hBx,⟨e2,e4⟩,rfl⟩ hlt;have cA:=bA1.cell;have cR:=bR1.cell;have fR:=bR1.frozen
  gi_wp2
  ·rename_i hx;have hx:x.2.at_=(at_:Int):=by simpa using hx
   exact⟨(KeepsOthers.setCell _ _ _).from _,⟨rfl,pre,x,rfl,hp,hx,(bR1.set _).cell⟩,hB1.setCell (p:=⟨w.heap.size+1+1,0,none⟩) (by simp;omega) _⟩
  ·rename_i hx;have hx:x.2.at_≠(at_:Int):=by simpa using hx
   exact⟨KeepsFrom.refl _ _,KpB.refl _ _ _,⟨⟨⟨λp hp'=>(List.mem_append.1 hp').elim (hp p) (λe=>by simp at e;subst e;exact hx),bR1⟩,bA1,bD1⟩,hB1⟩⟩
 case done=>
  rintro D ys W hD rfl ⟨⟨⟨hp,bR1⟩,bA1,bD1⟩,hB1⟩ hK;have cA:=bA1.cell;have cR:=bR1.cell;have fR:=bR1.frozen;obtain⟨sb,so,sc,rfl,hsb,hsc⟩:=hS;have cS:W.cell? ⟨sb,so+at_,none⟩=some (.string ⟨(L.getD at_ []).toArray⟩):=(hB1.cell (p:=⟨sb,so+at_,none⟩) hsb).trans (hsc at_ hat);have hg:(L.getD at_ []:List UInt8)=L[at_]?.getD []:=P8
  rw[hg] at cS
  gi_wp2
  have hK':=(KeepsOthers.setCell W ⟨w.heap.size+1+1,0,none⟩ (.string ⟨(L[at_]?.getD []).toArray⟩)).same D _ hK rfl;refine⟨by simp,.inl ⟨_,_,rfl,run_takeDeferred hK',?_⟩⟩
  have hc5:=cell_kept (bR1.set (.string ⟨(L[at_]?.getD []).toArray⟩)).cell (grownBy_putObj' _ D (.deferred none)) (λr e=>by cases e;exact⟨_,hK',rfl⟩)
  refine⟨.string ⟨(L[at_]?.getD []).toArray⟩,?_,_,rfl,(hB1.setCell (p:=⟨w.heap.size+1+1,0,none⟩) (by simp;omega) _).trans (belowK_b (w:=w) (W4 _) _ D _ _ (by omega) hK' rfl rfl),.inl ⟨rfl,λj hj=> ?_⟩⟩
  ·simp[results,Tryz.f126,go_sem,hc5]
  ·have:=hp (bwF ps len (len-1-j)) (by simp only[wO,List.mem_map,List.mem_range];exact⟨len-1-j,by omega,rfl⟩)
   unfold bwF at this;rw[show len-1- (len-1-j)=j by omega] at this
   exact this
 case stop=>
  rintro D c pre W hD ⟨k,hk,rfl⟩ ⟨⟨rfl,ini,last,e1,e2,e3,hcr⟩,hB1⟩ hK
  gi_wp2
  refine⟨by simp,.inl ⟨_,_,rfl,run_takeDeferred hK,?_⟩⟩
  have hc5:=cell_kept hcr (grownBy_putObj' _ D (.deferred none)) (λr e=>by cases e;exact⟨_,hK,rfl⟩)
  obtain⟨k',rfl⟩:∃k',k=k'+1:=by
   cases k with
   |zero=>simp[wO] at e1
   |succ k'=>exact⟨k',rfl⟩
  rw[rZ] at e1;obtain⟨rfl,e5⟩:=List.append_inj' e1 rfl;obtain rfl:bwF ps len k'=last:=by simpa using e5
  refine⟨.string ⟨(bwF ps len k').2.d.toArray⟩,?_,_,rfl,hB1.trans (belowK_b (w:=w) (W4 _) W D _ _ (by omega) hK rfl rfl),.inr ⟨k',by omega,rfl,e3,λj hj=>e2 (bwF ps len j) (by simp only[wO,List.mem_map,List.mem_range];exact⟨j,hj,rfl⟩)⟩⟩
  simp[results,Tryz.f126,go_sem,hc5]
structure Dsk where
 E:List (List UInt8)
 C:List Pend
 A:Bool
 keep:List Int
 deriving Inhabited
def Y9(L:List Pend)(i:Nat):List T:=(L.getD i dz).ts
def sR(L:List Pend):T:=.sl 2 L.length (Y9 L)
def Y6(L:List Int)(i:Nat):List T:=[.int .i64 (L.getD i 0)]
def a5E(L:List Int):T:=.sl 1 L.length (Y6 L)
def Dsk.ts(d:Dsk):List T:=[xM d.E,sR d.C,.bool d.A,a5E d.keep]
abbrev yM(a b:Dsk):Prop:=Y8 Z5 a.E b.E/\Y8 Y9 a.C b.C/\a.A=b.A/\Y8 Y6 a.keep b.keep/\True
theorem uX(d:Dsk):yM d d:=⟨Z7,Z7,rfl,X5⟩
def L0(L:List Pend)(at_:Int):Nat->Option (List UInt8)
 |0=>none
 |n+1=>if(L.getD n dz).at_=at_ then some (L.getD n dz).d else L0 L at_ n
theorem nW{L:List Pend}{at_:Int}:∀{n:Nat},(∀j,j<n->(L.getD j dz).at_≠at_)->L0 L at_ n=none
 |0,_=>rfl
 |n+1,h=>by
  unfold L0;rw[if_neg (h n (Nat.lt_succ_self n))];exact nW λj hj=>h j (by omega)
theorem nO{L:List Pend}{at_:Int}{i:Nat}(h:(L.getD i dz).at_=at_):∀{n:Nat},i<n->(∀j,i<j->j<n->(L.getD j dz).at_≠at_)->L0 L at_ n=some (L.getD i dz).d
 |0,hi,_=>absurd hi (J5 i)
 |n+1,hi,hj=>by
  unfold L0;by_cases he:i=n
  ·subst he;rw[if_pos h]
  ·rw[if_neg (hj n (by omega) (Nat.lt_succ_self n))]
   exact nO h (by omega) λj h1 h2=>hj j h1 (by omega)
def U6(d:Dsk)(at_:Nat):List UInt8:=(L0 d.C at_ d.C.length).getD (d.E.getD at_ [])
def AtB(x:Dsk×Nat):Prop:=x.2<x.1.E.length/\x.1.C.length<1000000000000
def rT:Rl:=⟨Dsk×Nat,λx=>[.agg x.1.ts,.int .i64 x.2],λx=>.str (U6 x.1 x.2),AtB⟩
def b43:Con:=.rel rT
theorem fT{E:Env}{w:World}{sz n:Nat}{row:Nat->List T}{v:Value}(h:Rd E w (.sl sz n row) v):(∃a,v= .slice a 0 0/\n=0)∨(∃(b off cap:Nat) (u:Nat->Nat->Value),v= .slice (some ⟨b,off,none⟩) n cap/\E.N b/\
  (∀i j t,i<n->(row i)[j]? =some t->w.cell? ⟨b,off+i*sz+j,none⟩=some (u i j)/\Rd E w t (u i j))):=by
 cases h with
 |slNil=>exact .inl ⟨_,rfl,rfl⟩
 |slEmp=>exact .inl ⟨_,rfl,rfl⟩
 |sl _ _ _ b off cap u hN hc hl h1 hr ht=>exact .inr ⟨b,off,cap,u,rfl,hN,λi j t hi hj=>⟨hr i j t hi hj,ht i j t hi hj⟩⟩
theorem lO{E:Env}{w:World}{l:List UInt8}{v:Value}(h:Rd E w (.str l) v):v= .string ⟨l.toArray⟩:=by cases h;rfl
theorem vH{E:Env}{w:World}{k:IntKind}{n:Int}{v:Value}(h:Rd E w (.int k n) v):v= .int k n:=by cases h;rfl
theorem a1i{E:Env}{w:World}{b:Bool}{v:Value}(h:Rd E w (.bool b) v):v= .bool b:=by cases h;rfl
theorem a45{E:Env}{w:World}{cs:List T}{v:Value}(h:Rd E w (.agg cs) v):∃vs,v= .agg vs/\vB E w cs vs:=by
 cases h with
 |agg _ vs hl ht=>exact⟨vs,rfl,hl,ht⟩
theorem b4M{E:Env}{w:World}{L:List (List UInt8)}{v:Value}(hE:∀b,E.N b->b<w.heap.size)(h:Rd E w (xM L) v)(hn:0<L.length):iV w.heap.size w v L.length L:=by
 rcases fT h with⟨a,_,h0⟩|⟨b,off,cap,u,rfl,hN,hu⟩
 ·omega
 ·refine⟨b,off,cap,rfl,hE b hN,λj hj=> ?_⟩
  obtain⟨h1,h2⟩:=hu j 0 (.str (L.getD j [])) hj rfl;rw[lO h2] at h1
  simpa using h1
theorem b2g{E:Env}{w:World}{L:List Pend}{v:Value}(hE:∀b,E.N b->b<w.heap.size)(h:Rd E w (sR L) v):zZ w.heap.size w v L.length (λi=>L.getD i dz)/\∃a l c,v= .slice a l c:=by
 rcases fT h with⟨a,rfl,h0⟩|⟨b,off,cap,u,rfl,hN,hu⟩
 ·exact⟨.inl ⟨a,0,rfl,h0⟩,_,_,_,rfl⟩
 ·refine⟨.inr ⟨b,off,cap,rfl,hE b hN,λj hj=>⟨?_,?_⟩⟩,_,_,_,rfl⟩
  ·obtain⟨h1,h2⟩:=hu j 0 (.int .i64 (L.getD j dz).at_) hj rfl;rw[vH h2] at h1;exact h1
  ·obtain⟨h1,h2⟩:=hu j 1 (.str (L.getD j dz).d) hj rfl;rw[lO h2] at h1;exact h1
theorem jK:GK 126 b43:=gk Tryz.func126<|by
 rintro⟨d,at_⟩ ⟨hat,hlen⟩;simp only at hat hlen;intro E w vs hL hE hv;obtain⟨hsz,hv⟩:=hv;obtain⟨v0,v1,rfl⟩:∃v0 v1,vs= #[v0,v1]:=by
  have h2:vs.size=2:=hsz.symm;exact⟨vs[0],vs[1],by apply Array.ext<;>simp[h2];intro i hi _;match i,hi with|0,_=>rfl|1,_=>rfl⟩
 obtain⟨cs,rfl,hc1,hc⟩:=a45 (hv 0 (.agg d.ts) v0 rfl rfl);obtain rfl:=vH (hv 1 (.int .i64 at_) v1 rfl rfl);obtain⟨c0,c1,c2,c3,rfl⟩:∃c0 c1 c2 c3,cs= #[c0,c1,c2,c3]:=by
  have h2:cs.size=4:=hc1.symm;exact⟨cs[0],cs[1],cs[2],cs[3],by apply Array.ext<;>simp[h2];intro i hi _;match i,hi with|0,_=>rfl|1,_=>rfl|2,_=>rfl|3,_=>rfl⟩
 have hS:=b4M hE (hc 0 (xM d.E) c0 rfl rfl) (by omega)
 obtain⟨hP,a,l,c,hcc⟩:=b2g hE (hc 1 (sR d.C) c1 rfl rfl);obtain rfl:=a1i (hc 2 (.bool d.A) c2 rfl rfl);refine(callsIn_wide (n:=6)).1 ((b5p Fence.wide 6 trivial trivial trivial rfl (W4 _) c0 c1 c3 d.A at_ d.E.length d.C.length d.E (λi=>d.C.getD i dz) a l c w hcc hP hS hlen hat).mono λe W' hh=> ?_)
 obtain⟨v,rfl,hb,hr⟩:=hh;refine⟨v,rfl,hb,?_⟩
 have:v= .string ⟨(U6 d at_).toArray⟩:=by
  rcases hr with⟨rfl,hj⟩|⟨k,hk,rfl,h1,h2⟩
  ·unfold U6;rw[nW hj];rfl
  ·unfold U6;rw[nO (i:=d.C.length-1-k) h1 (by omega) λj hj1 hj2=> ?_]
   ·rfl
   ·have:=h2 (d.C.length-1-j) (by omega)
    rw[show d.C.length-1- (d.C.length-1-j)=j by omega] at this
    exact this
 rw[this];exact .str _
end Go.Proofs.YtghgljelnhfihaaGreat

namespace Go.Proofs.YtghgljelnhfihaaGreat
set_option maxRecDepth 100000
open Go.SS

def P7(m:Nat)(p:Pend):Bool:= !V9 p.at_ 0 ((m:Int)-1)||decide ((p.d.length:Int)>160)
def G5(d:Dsk):Prop:=1<=d.E.length/\d.E.length<=100/\d.C.length<=500/\d.keep.length<=500/\(d.A=false->d.keep.length=0)/\(∀i,i<d.E.length->(d.E.getD i []).length<=160)/\
 ∀i,i<d.C.length->P7 d.E.length (d.C.getD i dz)=false
noncomputable instance(d:Dsk):Decidable (G5 d):=Classical.propDecidable _
noncomputable def t9(d:Dsk):Bool:=decide (G5 d)
theorem oJ(d:Dsk):t9 d=true↔G5 d:=decide_eq_true_iff
theorem bE{d:Dsk}(h:¬G5 d):false=t9 d:=(uV h).symm
def b5O(d:Dsk):Prop:=O6 d.E.length/\O6 d.C.length/\O6 d.keep.length
def b7A(d:Dsk):T:=.fn (.func 239) [.bref d.ts]
def dW:Rl:=⟨Dsk×Pend,λx=>[.agg x.2.ts,.bref x.1.ts],λx=>.bool (P7 x.1.E.length x.2),λx=>O6 x.1.E.length⟩
def a8n:Con:=.rel dW
theorem a5g:GK 239 a8n:=gk Tryz.func239<|by
 rintro⟨d,p⟩ (h:d.E.length<1000000000000);refine Q5 (gC vM gN) Tryz.func239 Y5 (α:=l8 (d.E.length:Int)/\(!(decide (0<=p.at_)&&decide (p.at_<(d.E.length:Int)))||decide ((p.d.length:Int)>160))=P7 d.E.length p) ⟨⟨by omega,by omega⟩,?_⟩
 unfold P7 V9;rw[show decide (p.at_<(d.E.length:Int))=decide (p.at_<=(d.E.length:Int)-1) from decide_eq_decide.2 (by omega)]
theorem R2{ρ:Nat->Option Nat}(cs:List T):L4 ρ (.bref cs) (.bref cs):=⟨1,_,rfl,RLe.refl _⟩
def fJ:Rl:=⟨List Pend×Dsk,λx=>[sR x.1,b7A x.2],λx=>.int .i64 (P9 x.1.length λi=>P7 x.2.E.length (x.1.getD i dz)),λx=>O6 x.1.length/\O6 x.2.E.length⟩
def a9O:Con:=.rel fJ
def a86(L:List Pend)(d:Dsk):Nat->Ann
 |0=>.one (V1 L.length λi=>P7 d.E.length (L.getD i dz)) (λx=>⟨[(0,sR L),(1,b7A d),(7,.int .i64 L.length),(8,.int .i64 x.1)],[]⟩) (λx=>L.length-x.1) [] [] (λ_=>Y5)
 |_=>.none
theorem a4U:GK 305 a9O:=gk Tryz.func305<|by
 rintro⟨L,d⟩ ⟨hL,hd⟩;have hL:L.length<1000000000000:=hL;refine Q5 (gC a5g gN) Tryz.func305 (a86 L d) (α:=let r:=(L.length:Int);let p:=(T.bref [T.sl 1 d.E.length (Z5 d.E),T.sl 2 d.C.length (Y9 d.C),T.bool d.A,T.sl 1 d.keep.length (Y6 d.keep)]);(∃(x:V1 L.length λ(i:Nat)=>P7 d.E.length (L.getD i dz)),((Y8 Y9 L L)/\(Fn.func 239=Fn.func 239/\L4 (λ(x:Nat)=>none) p p/\True)/\r=r/\0=(x.val:Int)/\True)/\True)/\∀(x:V1 L.length λ(i:Nat)=>P7 d.E.length (L.getD i dz)),let q:=(x.val:Int);let z:=(L.getD q.toNat dz);(decide (q<r)=true->V3 q L.length/\∃(x_1:dW.ι),(((z.at_=x_1.2.at_/\z.d=x_1.2.d/\True)/\(yM d x_1.1)/\True)/\O6 x_1.1.E.length)/\(P7 x_1.1.E.length x_1.2=true->q=P9 L.length λ(i:Nat)=>P7 d.E.length (L.getD i dz))/\(P7 x_1.1.E.length x_1.2=false->W7 .i64 (q+1)/\∃(y:V1 L.length λ(i:Nat)=>P7 d.E.length (L.getD i dz)),(((Y8 Y9 L L)/\(Fn.func 239=Fn.func 239/\L4 (λ(x:Nat)=>none) p p/\True)/\r=r/\q+1=(y.val:Int)/\True)/\True)/\Lt (L.length-y.val) (L.length-x.val)))/\(decide (q<r)=false->(-1:Int)=P9 L.length λ(i:Nat)=>P7 d.E.length (L.getD i dz))) ⟨⟨F7,⟨⟨rfl,λ_ _=>rfl⟩,⟨rfl,R2 _,trivial⟩,rfl,Z9⟩,trivial⟩,λx=>⟨λhc=> ?_,λhc=> ?_⟩⟩
 ·have hlt:=X6 hc;refine⟨X8 hlt,(d,L.getD x.val dz),⟨⟨⟨rfl,Z9⟩,⟨Z7,Z7,rfl,X5⟩,trivial⟩,hd⟩,λhp=>(M6 hlt hp x.2.2).symm,λhp=>⟨U5 hlt (by omega),x.succ hlt hp,⟨⟨⟨rfl,λ_ _=>rfl⟩,⟨rfl,R2 _,trivial⟩,rfl,by simp only[V1.succ];omega,trivial⟩,trivial⟩,V1.ext_lt hlt⟩⟩
 ·have hge:=X4 hc;exact(J1 λj hj=>x.2.2 j (wM hj hge)).symm
def gH:Rl:=⟨List Pend×Dsk,λx=>[sR x.1,b7A x.2],λx=>.bool (anyI x.1.length λi=>P7 x.2.E.length (x.1.getD i dz)),λx=>O6 x.1.length/\O6 x.2.E.length⟩
def a8c:Con:=.rel gH
theorem a3I:GK 238 a8c:=gk Tryz.func238<|by
 rintro⟨L,d⟩ hh;exact Q5 (gC a4U gN) Tryz.func238 Y5 (α:=∃(x:fJ.ι),(((Y8 Y9 L x.1)/\(Fn.func 239=Fn.func 239/\(yM d x.2)/\True)/\True)/\O6 x.1.length/\O6 x.2.E.length)/\decide ((P9 x.1.length λ(i:Nat)=>P7 x.2.E.length (x.1.getD i dz))≥(0:Int))=anyI L.length λ(i:Nat)=>P7 d.E.length (L.getD i dz)) ⟨(L,d),⟨⟨⟨rfl,λ_ _=>rfl⟩,⟨rfl,(uX _),trivial⟩,trivial⟩,hh⟩,A5 _ _⟩
noncomputable def qJ:Rl:=⟨Dsk,λd=>[.agg d.ts],λd=>.bool (t9 d),b5O⟩
noncomputable def a8d:Con:=.rel qJ
noncomputable def a8Y:Con:=.rel qJ
def jE(d:Dsk):Option Ob:=some (.arr true 1000000 4 1 λ_=>d.ts)
def a7p(d:Dsk):Nat->Ann
 |0=>.one (V1 d.E.length λi=>O1 false (d.E.getD i [])) (λx=>⟨[(1,.ref 0 0 0),(3,.int .i64 d.E.length),(4,.int .i64 x.1)],[jE d]⟩) (λx=>d.E.length-x.1) [.box 0] [.box 0] (λ_=>fun
  |1=>.one (V1 d.C.length λi=>P7 d.E.length (d.C.getD i dz)) (λy=>⟨[(1,.ref 0 0 0),(3,.int .i64 d.E.length),(5,.int .i64 y.1)],[jE d]⟩) (λy=>d.C.length-y.1) [.box 0] [.box 0] (λ_=>Y5)
  |_=>.none)
 |_=>.none
def a9o:Con:=.rel rT
def bO(d:Dsk)(at_:Nat):Type:={i:Nat//i<=d.C.length/\L0 d.C at_ d.C.length=L0 d.C at_ i}
def a7v(d:Dsk)(at_:Nat):Nat->Ann
 |0=>.one (bO d at_) (λx=>⟨[(1,.int .i64 at_),(2,.ref 0 0 0),(5,.int .i64 ((x.1:Int)-1))],[jE d]⟩) (λx=>x.1) [.box 0] [.box 0] (λ_=>Y5)
 |_=>.none
theorem a4R:GK 141 a8d:=gk Tryz.func141<|by
 rintro(d:Dsk) ⟨h1,h2,h3⟩;have h1:d.E.length<1000000000000:=h1;have h2:d.C.length<1000000000000:=h2;refine Q5 (gC M5 (gC fV (gC a3I gN))) Tryz.func141 Y5 (α:=((!V9 (d.E.length:Int) (1:Int) (100:Int)||decide ((d.C.length:Int)>500)||decide ((d.keep.length:Int)>500)|| !d.A&&decide ((d.keep.length:Int)>0))=true->false=t9 d)/\((!V9 (d.E.length:Int) (1:Int) (100:Int)||decide ((d.C.length:Int)>500)||decide ((d.keep.length:Int)>500)|| !d.A&&decide ((d.keep.length:Int)>0))=false->∃(x:jH.ι),(((Y8 Z5 d.E x.1)/\Value.func (Fn.func 237) #[] #[]=Value.func (Fn.func (match x.2 with|true=>306|false=>237)) #[] #[]/\True)/\O6 x.1.length)/\∃(x_1:gH.ι),((!anyI x.1.length λ(i:Nat)=>O1 x.2 (x.1.getD i []))=true->((Y8 Y9 d.C x_1.1)/\(Fn.func 239=Fn.func 239/\(yM d x_1.2)/\True)/\True)/\O6 x_1.1.length/\O6 x_1.2.E.length)/\((!anyI x.1.length λ(i:Nat)=>O1 x.2 (x.1.getD i []))&& !anyI x_1.1.length λ(i:Nat)=>P7 x_1.2.E.length (x_1.1.getD i dz))=t9 d)) ⟨λh=>bE ?_,λh=>⟨(d.E,false),⟨⟨Z7,Z9⟩,h1⟩,(d.C,d),λ_=>⟨⟨Z7,⟨rfl,(uX _),trivial⟩,trivial⟩,h2,h1⟩,?_⟩⟩
 ·rintro⟨p1,p2,p3,p4,p5,_⟩;simp[V9] at h;cases ha:d.A with
  |true=>simp[ha] at h;omega
  |false=>simp[ha] at h;have:=p5 ha;omega
 ·simp[V9] at h;rw[Bool.eq_iff_iff,oJ];show((!anyI d.E.length λi=>O1 false (d.E.getD i []))&& !anyI d.C.length λi=>P7 d.E.length (d.C.getD i dz))=true↔G5 d
  simp only[L3,xP,Q8];constructor
  ·rintro⟨q1,q2⟩;exact⟨by omega,by omega,by omega,by omega,λha=>by have:=h.2 ha;simp[this],λi hi=>kP.1 (q1 i hi),q2⟩
  ·rintro⟨_,_,_,_,_,q1,q2⟩;exact⟨λi hi=>kP.2 (q1 i hi),q2⟩
theorem a5t:GK 199 a8Y:=gk Tryz.func199<|by
 rintro(d:Dsk) ⟨h1,h2,h3⟩;have h1:d.E.length<1000000000000:=h1;have h2:d.C.length<1000000000000:=h2;refine Q5 (gC E3 gN) Tryz.func199 (a7p d) (α:=let n:=(d.keep.length:Int);let k:=(0=0/\0=0);let j:=(d.C.length:Int);let v:=(1=1/\1=1/\yM d d);let p:=(d.E.length:Int);let q:=(!V9 p (1:Int) (100:Int)||decide (j>500)||decide (n>500)|| !d.A&&decide (n>0));(q=true->false=t9 d)/\(q=false->(∃(x:V1 d.E.length λ(i:Nat)=>O1 false (d.E.getD i [])),(k/\p=p/\0=(x.val:Int)/\True)/\v/\True)/\∀(x:V1 d.E.length λ(i:Nat)=>O1 false (d.E.getD i [])),let z:=(x.val:Int);let w:=((↑(d.E.getD z.toNat []).length:Int)>160);(decide (z<p)=true->V3 z d.E.length/\(decide w=true->false=t9 d)/\(decide w=false->W7 .i64 (z+1)/\∃(y:V1 d.E.length λ(i:Nat)=>O1 false (d.E.getD i [])),((k/\p=p/\z+1=(y.val:Int)/\True)/\v/\True)/\Lt (d.E.length-y.val) (d.E.length-x.val)))/\(decide (z<p)=false->(∃(x:V1 d.C.length λ(i:Nat)=>P7 d.E.length (d.C.getD i dz)),(k/\p=p/\0=(x.val:Int)/\True)/\v/\True)/\∀(x:V1 d.C.length λ(i:Nat)=>P7 d.E.length (d.C.getD i dz)),let u:=(x.val:Int);let m:=(d.C.getD u.toNat dz);let r:=(!V9 m.at_ (0:Int) (p-1)||decide ((↑m.d.length:Int)>160));(decide (u<j)=true->V3 u d.C.length/\W7 .i64 (p-1)/\(r=true->false=t9 d)/\(r=false->W7 .i64 (u+1)/\∃(y:V1 d.C.length λ(i:Nat)=>P7 d.E.length (d.C.getD i dz)),((k/\p=p/\u+1=(y.val:Int)/\True)/\v/\True)/\Lt (d.C.length-y.val) (d.C.length-x.val)))/\(decide (u<j)=false->true=t9 d)))) ⟨λh=>bE ?_,λh=>⟨⟨F7,⟨Z8,rfl,Z9⟩,⟨rfl,rfl,uX _⟩,trivial⟩,λx=>⟨λhc=> ?_,λhc=>⟨⟨F7,⟨Z8,rfl,Z9⟩,⟨rfl,rfl,uX _⟩,trivial⟩,λy=>⟨λhd=> ?_,λhd=> ?_⟩⟩⟩⟩⟩
 ·rintro⟨p1,p2,p3,p4,p5,_⟩;simp[V9] at h;cases ha:d.A with
  |true=>simp[ha] at h;omega
  |false=>simp[ha] at h;have:=p5 ha;omega
 ·have hlt:=X6 hc;refine⟨X8 hlt,λhb=>bE ?_,λhb=>⟨U5 hlt (by omega),x.succ hlt hb,⟨⟨Z8,rfl,Z9⟩,⟨rfl,rfl,uX _⟩,trivial⟩,V1.ext_lt hlt⟩⟩
  rintro⟨_,_,_,_,_,q1,_⟩;have:=q1 x.val hlt;rw[F5,k4] at hb;omega
 ·have hlt:=X6 hd;refine⟨X8 hlt,Z4 (by omega),λhb=>bE ?_,λhb=>⟨U5 hlt (by omega),y.succ hlt hb,⟨⟨Z8,rfl,by simp only[V1.succ];omega,trivial⟩,⟨rfl,rfl,uX _⟩,trivial⟩,V1.ext_lt hlt⟩⟩
  rintro⟨_,_,_,_,_,_,q2⟩;have:=q2 y.val hlt;rw[F5] at hb;unfold P7 at this;rw[hb] at this;cases this
 ·simp[V9] at h;have g1:=X4 hc;have g2:=X4 hd;refine((oJ d).2 ⟨by omega,by omega,by omega,by omega,λha=>by have:=h.2 ha;simp[this],λi hi=>kP.1 (x.2.2 i (wM hi g1)),λi hi=>y.2.2 i (wM hi g2)⟩).symm
theorem jL:GK 170 a9o:=gk Tryz.func170<|by
 rintro⟨d,at_⟩ ⟨hat,hlen⟩;simp only at hat hlen;refine Q5 gN Tryz.func170 (a7v d at_) (α:=let z:=(1=1/\1=1/\yM d d);let q:=(at_:Int);W7 .i64 ((d.C.length:Int)-1)/\(∃(x:bO d at_),(q=q/\(0=0/\0=0)/\(d.C.length:Int)-1=(x.val:Int)-1/\True)/\z/\True)/\∀(x:bO d at_),let p:=(x.val:Int);let r:=(d.C.getD (p-1).toNat dz);(decide (p-1≥(0:Int))=true->V3 (p-1) d.C.length/\((r.at_==q)=true->V3 (p-1) d.C.length/\r.d=U6 d at_)/\((r.at_==q)=false->W7 .i64 (p-1-1)/\∃(y:bO d at_),((q=q/\(0=0/\0=0)/\p-1-1=(y.val:Int)-1/\True)/\z/\True)/\Lt y.val x.val))/\(decide (p-1≥(0:Int))=false->V3 q d.E.length/\d.E.getD q.toNat []=U6 d at_)) ⟨Z4 (by omega),⟨⟨d.C.length,W4 _,rfl⟩,⟨rfl,Z8,Z9⟩,⟨rfl,rfl,uX _⟩,trivial⟩,λx=> ?_⟩
 obtain⟨i,hi,hx⟩:=x;simp only;refine⟨λhc=> ?_,λhc=>⟨⟨by omega,by omega⟩,?_⟩⟩
 ·have hpos:1<=i:=by have:=C7 hc;omega
  obtain⟨j,rfl⟩:∃j,i=j+1:=⟨i-1,by omega⟩
  rw[show(((j+1:Nat):Int)-1).toNat=j by omega]
  have hl:L0 d.C at_ (j+1)=if(d.C.getD j dz).at_=at_ then some (d.C.getD j dz).d else L0 d.C at_ j:=rfl
  refine⟨⟨by omega,by omega⟩,λhb=>⟨⟨by omega,by omega⟩,?_⟩,λhb=>⟨Z4 (by omega),⟨j,by omega,?_⟩,⟨⟨(by trivial),⟨(by trivial),(by trivial)⟩,by simp only;omega,trivial⟩,⟨(by trivial),(by trivial),⟨(by trivial),Z2 _ _⟩,⟨(by trivial),Z2 _ _⟩,(by trivial),⟨(by trivial),Z2 _ _⟩,trivial⟩,trivial⟩,by unfold Lt;simp only;omega⟩⟩
  ·rw[if_pos (by simpa using hb)] at hl
   unfold U6;rw[hx,hl];rfl
  ·rw[if_neg (by simpa using hb)] at hl
   rw[hx,hl]
 ·have h0:i=0:=by have:=l7 hc;omega
  subst h0;unfold U6;rw[hx];rfl
end Go.Proofs.YtghgljelnhfihaaGreat

