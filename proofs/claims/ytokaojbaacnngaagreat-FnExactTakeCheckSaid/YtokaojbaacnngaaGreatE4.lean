/- A part of the proof. -/
import Derived.Test.YtokaojbaacnngaaGreatE3
namespace Go.Proofs.YtokaojbaacnngaaGreat
set_option maxRecDepth 100000
open Go.SS

structure Pg where
 lsn:Int
 sl:List (List UInt8)
 deriving Inhabited
def Pg.ts(p:Pg):List T:=[.int .i64 p.lsn,L3 p.sl]
def c8m(b:Bool):Nat:=match b with|true=>30|false=>160
def S1(b:Bool)(s:List UInt8):Bool:=decide ((s.length:Int)>c8m b)
def eO(b:Bool):List T->Option (T×Option Prop)
 | [.str s]=>some (.bool (S1 b s),none)
 |_=>none
def b23:Con:=.pure (eO true)
def b2n:Con:=.pure (eO false)
noncomputable def b0M:Code:=Tryz.f262.body.getD .skip
theorem a0j:Z7 Tryz.prog 262:=⟨_,Tryz.func262,by kernel_rfl,by kernel_rfl⟩
theorem b0w(s:List UInt8)(h:
  decide ((s.length:Int)>(30:Int))=S1 true s):
  Z2 Tryz.prog 262 [.str s] (.bool (S1 true s)):=
 T4 (code:=b0M) gN Tryz.func262 (by kernel_rfl) (by kernel_rfl) Z0 h (by kernel_rfl)
theorem a65:Z1 Tryz.prog 262 b23:=by
 intro args res p h hp;unfold eO at h;split at h
 ·simp only[X6,V1] at h;obtain⟨rfl,rfl⟩:=h;exact b0w _ rfl
 ·cases h
noncomputable def b2m:Code:=Tryz.f207.body.getD .skip
theorem a0q:Z7 Tryz.prog 207:=⟨_,Tryz.func207,by kernel_rfl,by kernel_rfl⟩
theorem b3z(s:List UInt8)(h:
  decide ((s.length:Int)>(160:Int))=S1 false s):
  Z2 Tryz.prog 207 [.str s] (.bool (S1 false s)):=
 T4 (code:=b2m) gN Tryz.func207 (by kernel_rfl) (by kernel_rfl) Z0 h (by kernel_rfl)
theorem a5u:Z1 Tryz.prog 207 b2n:=by
 intro args res p h hp;unfold eO at h;split at h
 ·simp only[X6,V1] at h;obtain⟨rfl,rfl⟩:=h;exact b3z _ rfl
 ·cases h
def nP(b:Bool):T:=fnT (match b with|true=>262|false=>207)
def lW:Rl:=⟨List (List UInt8)×Bool,fun x=>[L3 x.1,nP x.2],fun x=>.int .i64 (Q4 x.1.length fun i=>S1 x.2 (x.1.getD i [])),fun x=>K6 x.1.length⟩
def b92:Con:=.rel lW
def a2Z(L:List (List UInt8))(b:Bool):Nat->Ann
 |0=>.one (V9 L.length fun i=>S1 b (L.getD i [])) (fun x=>⟨[(0,L3 L),(1,nP b),(7,.int .i64 L.length),(8,.int .i64 x.1)],[]⟩) (fun x=>L.length-x.1) [] [] (fun _=>Z0)
 |_=>.none
noncomputable def a02:Code:=Tryz.f251.body.getD .skip
theorem pU:Z7 Tryz.prog 251:=⟨_,Tryz.func251,by kernel_rfl,by kernel_rfl⟩
theorem b1h(L:List (List UInt8))(h:
  (∃(x:V9 L.length fun(i:Nat)=>S1 true (L.getD i [])),((Y4 Z6 L L)/\Value.func (Fn.func 262) #[] #[]=Value.func (Fn.func 262) #[] #[]/\(L.length:Int)=(L.length:Int)/\(0:Int)=(x.val:Int)/\True)/\True)/\
  ∀(x:V9 L.length fun(i:Nat)=>S1 true (L.getD i [])),(decide ((x.val:Int)<(L.length:Int))=true->X0 (x.val:Int) L.length/\(S1 true (L.getD (x.val:Int).toNat [])=true->(x.val:Int)=Q4 L.length fun(i:
  Nat)=>S1 true (L.getD i []))/\(S1 true (L.getD (x.val:Int).toNat [])=false->X8 .i64 ((x.val:Int)+(1:Int))/\∃(y:V9 L.length fun(i:Nat)=>S1 true (L.getD i [])),(((Y4 Z6 L L)/\Value.func (Fn.func
  262) #[] #[]=Value.func (Fn.func 262) #[] #[]/\(L.length:Int)=(L.length:Int)/\(x.val:Int)+(1:Int)=(y.val:Int)/\True)/\True)/\Lt (L.length-y.val) (L.length-x.val)))/\(decide ((x.val:Int)<(L.length:Int))=
  false->(-1:Int)=Q4 L.length fun(i:Nat)=>S1 true (L.getD i []))):
  Z2 Tryz.prog 251 [L3 L,nP true] (.int .i64 (Q4 L.length fun i=>S1 true (L.getD i []))):=
 T4 (code:=a02) (gC a65 a0j gN) Tryz.func251 (by kernel_rfl) (by kernel_rfl) (a2Z L true) h (by kernel_rfl)
theorem b3Y(L:List (List UInt8))(h:
  (∃(x:V9 L.length fun(i:Nat)=>S1 false (L.getD i [])),((Y4 Z6 L L)/\Value.func (Fn.func 207) #[] #[]=Value.func (Fn.func 207) #[] #[]/\(L.length:Int)=(L.length:Int)/\(0:Int)=(x.val:Int)/\True)/\True)
  /\∀(x:V9 L.length fun(i:Nat)=>S1 false (L.getD i [])),(decide ((x.val:Int)<(L.length:Int))=true->X0 (x.val:Int) L.length/\(S1 false (L.getD (x.val:Int).toNat [])=true->(x.val:Int)=Q4 L.length fun(i:
  Nat)=>S1 false (L.getD i []))/\(S1 false (L.getD (x.val:Int).toNat [])=false->X8 .i64 ((x.val:Int)+(1:Int))/\∃(y:V9 L.length fun(i:Nat)=>S1 false (L.getD i [])),(((Y4 Z6 L L)/\Value.func
  (Fn.func 207) #[] #[]=Value.func (Fn.func 207) #[] #[]/\(L.length:Int)=(L.length:Int)/\(x.val:Int)+(1:Int)=(y.val:Int)/\True)/\True)/\Lt (L.length-y.val) (L.length-x.val)))/\(decide ((x.val:Int)<
  (L.length:Int))=false->(-1:Int)=Q4 L.length fun(i:Nat)=>S1 false (L.getD i []))):
  Z2 Tryz.prog 251 [L3 L,nP false] (.int .i64 (Q4 L.length fun i=>S1 false (L.getD i []))):=
 T4 (code:=a02) (gC a5u a0q gN) Tryz.func251 (by kernel_rfl) (by kernel_rfl) (a2Z L false) h (by kernel_rfl)
theorem fP:Z1 Tryz.prog 251 b92:=by
 rintro⟨L,b⟩ (hL:L.length<1000000000000);cases b
 ·refine b3Y L ⟨⟨E5,⟨⟨rfl,fun _ _=>rfl⟩,rfl,rfl,rfl,trivial⟩,trivial⟩,fun x=>⟨fun hc=> ?_,fun hc=> ?_⟩⟩
  ·have hlt:=Y9 hc;exact⟨Y7 hlt,fun hp=>(M1 hlt hp x.2.2).symm,fun hp=>⟨W4 hlt (by omega),x.succ hlt hp,⟨⟨⟨rfl,fun _ _=>rfl⟩,rfl,rfl,rfl,trivial⟩,trivial⟩,V9.ext_lt hlt⟩⟩
  ·have hge:=Y3 hc;exact(J4 fun j hj=>x.2.2 j (xF hj hge)).symm
 ·refine b1h L ⟨⟨E5,⟨⟨rfl,fun _ _=>rfl⟩,rfl,rfl,rfl,trivial⟩,trivial⟩,fun x=>⟨fun hc=> ?_,fun hc=> ?_⟩⟩
  ·have hlt:=Y9 hc;exact⟨Y7 hlt,fun hp=>(M1 hlt hp x.2.2).symm,fun hp=>⟨W4 hlt (by omega),x.succ hlt hp,⟨⟨⟨rfl,fun _ _=>rfl⟩,rfl,rfl,rfl,trivial⟩,trivial⟩,V9.ext_lt hlt⟩⟩
  ·have hge:=Y3 hc;exact(J4 fun j hj=>x.2.2 j (xF hj hge)).symm
def mT:Rl:=⟨List (List UInt8)×Bool,fun x=>[L3 x.1,nP x.2],fun x=>.bool (anyI x.1.length fun i=>S1 x.2 (x.1.getD i [])),fun x=>K6 x.1.length⟩
def b46:Con:=.rel mT
noncomputable def a3D:Code:=Tryz.f206.body.getD .skip
theorem pK:Z7 Tryz.prog 206:=⟨_,Tryz.func206,by kernel_rfl,by kernel_rfl⟩
theorem b4b(L:List (List UInt8))(h:
  ∃(x:lW.ι),(((Y4 Z6 L x.fst)/\Value.func (Fn.func 262) #[] #[]=Value.func (Fn.func (match x.snd with|true=>262|false=>207)) #[] #[]/\True)/\K6 x.fst.length)/\decide ((Q4 x.fst.length fun(i:Nat)=>S1 x.snd (x.fst.getD i []))≥(0:Int))=anyI L.length fun(i:Nat)=>S1 true (L.getD i [])):
  Z2 Tryz.prog 206 [L3 L,nP true] (.bool (anyI L.length fun i=>S1 true (L.getD i []))):=
 T4 (code:=a3D) (gC fP pU gN) Tryz.func206 (by kernel_rfl) (by kernel_rfl) Z0 h (by kernel_rfl)
theorem b4a(L:List (List UInt8))(h:
  ∃(x:lW.ι),(((Y4 Z6 L x.fst)/\Value.func (Fn.func 207) #[] #[]=Value.func (Fn.func (match x.snd with|true=>262|false=>207)) #[] #[]/\True)/\K6 x.fst.length)/\decide ((Q4 x.fst.length fun(i:Nat)=>S1 x.snd (x.fst.getD i []))≥(0:Int))=anyI L.length fun(i:Nat)=>S1 false (L.getD i [])):
  Z2 Tryz.prog 206 [L3 L,nP false] (.bool (anyI L.length fun i=>S1 false (L.getD i []))):=
 T4 (code:=a3D) (gC fP pU gN) Tryz.func206 (by kernel_rfl) (by kernel_rfl) Z0 h (by kernel_rfl)
theorem gR:Z1 Tryz.prog 206 b46:=by
 rintro⟨L,b⟩ (hL:L.length<1000000000000);cases b
 ·exact b4a L ⟨(L,false),⟨⟨⟨rfl,fun _ _=>rfl⟩,rfl,trivial⟩,hL⟩,w8 _ _⟩
 ·exact b4b L ⟨(L,true),⟨⟨⟨rfl,fun _ _=>rfl⟩,rfl,trivial⟩,hL⟩,w8 _ _⟩
def PgP(p:Pg):Prop:=0<=p.lsn/\p.lsn<=1000/\p.sl.length=4/\∀i,i<p.sl.length->(p.sl.getD i []).length<=30
noncomputable instance(p:Pg):Decidable (PgP p):=Classical.propDecidable _
noncomputable def A8(p:Pg):Bool:=decide (PgP p)
def PgB(p:Pg):Prop:=K6 p.sl.length
noncomputable def yZ:Rl:=⟨Pg,fun p=>[.agg p.ts],fun p=>.bool (A8 p),PgB⟩
noncomputable def b2z:Con:=.rel yZ
noncomputable def b3B:Con:=.rel yZ
noncomputable def b2h:Code:=Tryz.f216.body.getD .skip
theorem sX:Z7 Tryz.prog 216:=⟨_,Tryz.func216,by kernel_rfl,by kernel_rfl⟩
theorem b2I(p:Pg)(h:
  ∃(x:mT.ι),((W8 p.lsn (0:Int) (1000:Int)&&(p.sl.length:Int)==(4:Int))=true->((Y4 Z6 p.sl x.fst)/\Value.func (Fn.func 262) #[] #[]=Value.func (Fn.func (match x.snd with|true=>262|false=>207)) #[] #[]/\True)/\K6 x.fst.length)/\(W8 p.lsn (0:Int) (1000:Int)&&(p.sl.length:Int)==(4:Int)&& !anyI x.fst.length fun(i:Nat)=>S1 x.snd (x.fst.getD i []))=A8 p):
  Z2 Tryz.prog 216 [.agg p.ts] (.bool (A8 p)):=
 T4 (code:=b2h) (gC P2 R8 (gC gR pK gN)) Tryz.func216 (by kernel_rfl) (by kernel_rfl) Z0 h (by kernel_rfl)
noncomputable def b1v:Code:=Tryz.f139.body.getD .skip
theorem sR:Z7 Tryz.prog 139:=⟨_,Tryz.func139,by kernel_rfl,by kernel_rfl⟩
def b0N(p:Pg):Nat->Ann
 |0=>.one (V9 4 fun i=>S1 true (p.sl.getD i [])) (fun x=>⟨[(1,.ref 0 0 0),(3,.int .i64 x.1)],[some (.arr true 1000000 2 1 fun _=>p.ts)]⟩) (fun x=>4-x.1) [.box 0] [.box 0] (fun _=>Z0)
 |_=>.none
theorem b1K(p:Pg)(h:
  ((!W8 p.lsn (0:Int) (1000:Int)||(p.sl.length:Int) !=(4:Int))=true->false=A8 p)/\((!W8 p.lsn (0:Int) (1000:Int)||(p.sl.length:Int) !=(4:Int))=false->(∃(x:V9 4 fun(i:Nat)=>S1 true
  (p.sl.getD i [])),((0=0/\0=0)/\(0:Int)=(x.val:Int)/\True)/\(1=1/\1=1/\p.lsn=p.lsn/\(Y4 Z6 p.sl p.sl)/\True)/\True)/\∀(x:V9 4 fun(i:Nat)=>S1 true (p.sl.getD i [])),(decide ((x.val:Int)<
  (4:Int))=true->X0 (x.val:Int) p.sl.length/\(decide ((↑(p.sl.getD (x.val:Int).toNat []).length:Int)>(30:Int))=true->false=A8 p)/\(decide ((↑(p.sl.getD (x.val:Int).toNat []).length:Int)>(30:Int))=false->
  X8 .i64 ((x.val:Int)+(1:Int))/\∃(y:V9 4 fun(i:Nat)=>S1 true (p.sl.getD i [])),(((0=0/\0=0)/\(x.val:Int)+(1:Int)=(y.val:Int)/\True)/\(1=1/\1=1/\p.lsn=p.lsn/\(Y4 Z6 p.sl p.sl)/\True)/\
  True)/\Lt (4-y.val) (4-x.val)))/\(decide ((x.val:Int)<(4:Int))=false->true=A8 p))):
  Z2 Tryz.prog 139 [.agg p.ts] (.bool (A8 p)):=
 T4 (code:=b1v) (gC v7 F7 gN) Tryz.func139 (by kernel_rfl) (by kernel_rfl) (b0N p) h (by kernel_rfl)
def wB:Rl:=⟨Unit,fun _=>[],fun _=>.agg (Pg.ts ⟨0,[[],[],[],[]]⟩),fun _=>True⟩
def a6R:Con:=.rel wB
def a4a:Con:=.rel wB
noncomputable def a36:Code:=Tryz.f213.body.getD .skip
theorem gX:Z7 Tryz.prog 213:=⟨_,Tryz.func213,by kernel_rfl,by kernel_rfl⟩
theorem a6V(h:
  (Nn (4:Int)/\kF (4:Int) (4:Int)/\I4 16 4 140737488355328/\Lt 4 9223372036854775808)/\Le 4 4/\(0:Int)=(0:Int)/\(4=4/\Z8 4 (fun(x:Nat)=>[T.str []]) (Z6 [[],[],[],[]]))/\True):
  Z2 Tryz.prog 213 [] (.agg (Pg.ts ⟨0,[[],[],[],[]]⟩)):=
 T4 (code:=a36) gN Tryz.func213 (by kernel_rfl) (by kernel_rfl) Z0 h (by kernel_rfl)
noncomputable def a7m:Code:=Tryz.f201.body.getD .skip
theorem iW:Z7 Tryz.prog 201:=⟨_,Tryz.func201,by kernel_rfl,by kernel_rfl⟩
theorem a40(h:
  (Nn (4:Int)/\kF (4:Int) (4:Int)/\I4 16 4 140737488355328/\Lt 4 9223372036854775808)/\Le 4 4/\(0:Int)=(0:Int)/\(4=4/\Z8 4 (fun(x:Nat)=>[T.str []]) (Z6 [[],[],[],[]]))/\True):
  Z2 Tryz.prog 201 [] (.agg (Pg.ts ⟨0,[[],[],[],[]]⟩)):=
 T4 (code:=a7m) gN Tryz.func201 (by kernel_rfl) (by kernel_rfl) Z0 h (by kernel_rfl)
theorem kR{s:List UInt8}:S1 true s=false↔s.length<=30:=by
 unfold S1;rw[tV];show ¬ (s.length:Int)>((30:Nat):Int)↔_;omega
theorem lS{s:List UInt8}:S1 false s=false↔s.length<=160:=by
 unfold S1;rw[tV];show ¬ (s.length:Int)>((160:Nat):Int)↔_;omega
theorem M5{n:Nat}{p:Nat->Bool}:anyI n p=false↔∀i,i<n->p i=false:=by
 rw[Bool.eq_false_iff,ne_eq,Q0];constructor
 ·intro h i hi;exact Bool.eq_false_iff.2 fun hp=>h ⟨i,hi,hp⟩
 ·rintro h ⟨i,hi,hp⟩;rw[h i hi] at hp;cases hp
theorem b9S(p:Pg):A8 p=true↔PgP p:=decide_eq_true_iff
theorem mJ:Z1 Tryz.prog 216 b2z:=by
 intro(p:Pg) (hp:p.sl.length<1000000000000);refine b2I p ⟨(p.sl,true),fun _=>⟨⟨⟨rfl,Z9 _ _⟩,rfl,trivial⟩,hp⟩,?_⟩
 rw[Bool.eq_iff_iff,b9S];simp only[K5,sB,beq_iff_eq,W8,t9,M5];constructor
 ·rintro⟨⟨⟨h1,h2⟩,h3⟩,h4⟩;exact⟨h1,h2,by omega,fun i hi=>kR.1 (h4 i hi)⟩
 ·rintro⟨h1,h2,h3,h4⟩;exact⟨⟨⟨h1,h2⟩,by omega⟩,fun i hi=>kR.2 (h4 i hi)⟩
theorem c4C{p:Pg}(h:¬PgP p):false=A8 p:=(uY h).symm
theorem mC:Z1 Tryz.prog 139 b3B:=by
 intro(p:Pg) (hp:p.sl.length<1000000000000);refine b1K p ⟨fun h=>c4C ?_,fun h=> ?_⟩
 ·rintro⟨h1,h2,h3,_⟩;simp[W8] at h;omega
 simp[W8] at h;refine⟨⟨E5,⟨⟨rfl,rfl⟩,rfl,trivial⟩,⟨rfl,rfl,rfl,⟨rfl,Z9 _ _⟩,trivial⟩,trivial⟩,fun x=>⟨fun hc=> ?_,fun hc=> ?_⟩⟩
 ·have hlt:x.val<4:=by have:=D8 hc;omega
  refine⟨⟨by omega,by omega⟩,fun hb=>c4C ?_,fun hb=>⟨Z5 (by omega),x.succ hlt hb,⟨⟨⟨rfl,rfl⟩,rfl,trivial⟩,⟨rfl,rfl,rfl,⟨rfl,Z9 _ _⟩,trivial⟩,trivial⟩,V9.ext_lt hlt⟩⟩
  rintro⟨_,_,_,h4⟩;have:=h4 x.val (by omega)
  rw[v4,t9] at hb;omega
 ·refine(jB ⟨h.1.1,h.1.2,by omega,fun i hi=> ?_⟩).symm
  exact kR.1 (x.2.2 i (by have:=yQ hc;omega))
theorem a09:Z8 4 (fun _=>[T.str []]) (Z6 [[],[],[],[]]):=by
 intro i hi
 match i,hi with
 |0,_=>rfl
 |1,_=>rfl
 |2,_=>rfl
 |3,_=>rfl
theorem a0Y:Z1 Tryz.prog 213 a6R:=fun _ _=>a6V ⟨⟨by unfold Nn;omega,by unfold kF;omega,by unfold I4;omega,by unfold Lt;omega⟩,V5 _,rfl,⟨rfl,a09⟩,trivial⟩
theorem a06:Z1 Tryz.prog 201 a4a:=fun _ _=>a40 ⟨⟨by unfold Nn;omega,by unfold kF;omega,by unfold I4;omega,by unfold Lt;omega⟩,V5 _,rfl,⟨rfl,a09⟩,trivial⟩
def xI(no:Int)(x:List UInt8):Bool:=decide (5<=x.length)&&(x.getD 0 0==112&&decide (((x.getD 1 0).toNat:Int)=no))
def pgX(x:List UInt8):Pg:=⟨be ((x.drop 2).take 2),(T1 (x.drop 4)).getD []⟩
noncomputable def H7(no:Int)(b:List UInt8):Pg×Bool:=if T6 b&&xI no (X5 b) then(pgX (X5 b),(T1 ((X5 b).drop 4)).isSome&&A8 (pgX (X5 b))) else(⟨0,[]⟩,false)
noncomputable def D6(no:Int)(b:List UInt8):Pg:=if(H7 no b).2 then(H7 no b).1 else⟨0,[]⟩
noncomputable def D0(no:Int)(b:List UInt8):Int:=if T6 b then(if(H7 no b).2 then 0 else 3) else 8
def RdB(b:List UInt8):Prop:=b.length<=1000
noncomputable def mZ:Rl:=⟨Int×List UInt8,fun x=>[.int .i64 x.1,.bys x.2],fun x=>.tup [.agg (D6 x.1 x.2).ts,.int .i64 (D0 x.1 x.2)],fun x=>RdB x.2⟩
noncomputable def a4N:Con:=.rel mZ
noncomputable def a8s:Code:=Tryz.f214.body.getD .skip
theorem iF:Z7 Tryz.prog 214:=⟨_,Tryz.func214,by kernel_rfl,by kernel_rfl⟩
theorem a7I(no:Int)(b:List UInt8)(h:
  (decide ((b.length:Int)>(65536:Int))=true->((0:Int)=(D6 no b).lsn/\(D6 no b).sl.length=0/\True)/\(2:Int)=D0 no b/\True)/\(decide ((b.length:Int)>(65536:Int))=false->∃(x:uP.ι),((b
  =x/\True)/\G9 x)/\((!T6 x)=true->((0:Int)=(D6 no b).lsn/\(D6 no b).sl.length=0/\True)/\(8:Int)=D0 no b/\True)/\((!T6 x)=false->tI (4:Int)/\InC (2:Int) (P5 (X5 x) (4:
  Int)).length/\∃(x_1:b9m.ι),((List.drop 2 (P5 (X5 x) (4:Int))=x_1/\True)/\hZ x_1)/\((!(!(U0 (O4 (X5 x) (4:Int)) (false||big (X5 x) (4:Int))).fl&&(U0 (O4 (X5 x) (4:Int)) (false||big
  (X5 x) (4:Int))).l.isEmpty))=false->X0 (0:Int) (P5 (X5 x) (4:Int)).length)/\((!(!(U0 (O4 (X5 x) (4:Int)) (false||big (X5 x) (4:Int))).fl&&(U0 (O4 (X5 x) (4:Int)) (false||big (X5 x)
  (4:Int))).l.isEmpty)||(↑((P5 (X5 x) (4:Int)).getD 0 (0:UInt8)).toNat:Int) !=(112:Int))=false->X0 (1:Int) (P5 (X5 x) (4:Int)).length)/\∃(x_2:yZ.ι),((!(!(U0 (O4 (X5 x) (4:Int))
  (false||big (X5 x) (4:Int))).fl&&(U0 (O4 (X5 x) (4:Int)) (false||big (X5 x) (4:Int))).l.isEmpty)||(↑((P5 (X5 x) (4:Int)).getD 0 (0:UInt8)).toNat:Int) !=(112:Int)||IntKind.i64.wrap
  (↑((P5 (X5 x) (4:Int)).getD 1 (0:UInt8)).toNat:Int) !=no)=false->(((↑(be x_1):Int)=x_2.lsn/\(Y4 Z6 (U0 (O4 (X5 x) (4:Int)) (false||big (X5 x) (4:Int))).out x_2.sl)/\True)/\True)/\PgB
  x_2)/\((!(!(U0 (O4 (X5 x) (4:Int)) (false||big (X5 x) (4:Int))).fl&&(U0 (O4 (X5 x) (4:Int)) (false||big (X5 x) (4:Int))).l.isEmpty)||(↑((P5 (X5 x) (4:Int)).getD 0 (0:UInt8)).toNat:
  Int) !=(112:Int)||IntKind.i64.wrap (↑((P5 (X5 x) (4:Int)).getD 1 (0:UInt8)).toNat:Int) !=no|| !A8 x_2)=true->((0:Int)=(D6 no b).lsn/\(D6 no b).sl.length=0/\True)/\(3:Int)=D0 no b/\
  True)/\((!(!(U0 (O4 (X5 x) (4:Int)) (false||big (X5 x) (4:Int))).fl&&(U0 (O4 (X5 x) (4:Int)) (false||big (X5 x) (4:Int))).l.isEmpty)||(↑((P5 (X5 x) (4:Int)).getD 0 (0:UInt8)).toNat:
  Int) !=(112:Int)||IntKind.i64.wrap (↑((P5 (X5 x) (4:Int)).getD 1 (0:UInt8)).toNat:Int) !=no|| !A8 x_2)=false->((↑(be x_1):Int)=(D6 no b).lsn/\(Y4 Z6 (U0 (O4 (X5 x) (4:Int)) (false||
  big (X5 x) (4:Int))).out (D6 no b).sl)/\True)/\(0:Int)=D0 no b/\True)))):
  Z2 Tryz.prog 214 [.int .i64 no,.bys b] (.tup [.agg (D6 no b).ts,.int .i64 (D0 no b)]):=
 T4 (code:=a8s) (gC qH vB (gC bH rM (gC c0i a1V (gC eZ pY (gC qX xC (gC mJ sX gN)))))) Tryz.func214 (by kernel_rfl) (by kernel_rfl) Z0 h (by kernel_rfl)
noncomputable def fZ:Rl:=⟨Int×List UInt8,fun x=>[.int .i64 x.1,.str x.2],fun x=>.tup [.agg (H7 x.1 x.2).1.ts,.bool (H7 x.1 x.2).2],fun x=>RdB x.2⟩
noncomputable def b3G:Con:=.rel fZ
noncomputable def b3j:Code:=Tryz.f202.body.getD .skip
theorem eF:Z7 Tryz.prog 202:=⟨_,Tryz.func202,by kernel_rfl,by kernel_rfl⟩
theorem b0j(no:Int)(b:List UInt8)(h:
  ∃(x:a2P.ι),((b=x/\True)/\G9 x)/\((!T6 x||decide ((↑(X5 x).length:Int)<(5:Int)))=false->X0 (0:Int) (X5 x).length)/\((!T6 x||decide ((↑(X5 x).length:Int)<(5:Int))||(↑((X5
  x).getD 0 (0:UInt8)).toNat:Int) !=(112:Int))=false->X0 (1:Int) (X5 x).length)/\((!T6 x||decide ((↑(X5 x).length:Int)<(5:Int))||(↑((X5 x).getD 0 (0:UInt8)).toNat:Int) !=(112:Int)||
  IntKind.i64.wrap (↑((X5 x).getD 1 (0:UInt8)).toNat:Int) !=no)=true->((0:Int)=(H7 no b).fst.lsn/\(H7 no b).fst.sl.length=0/\True)/\false=(H7 no b).snd/\True)/\((!T6 x||decide ((↑(X5 x).length:
  Int)<(5:Int))||(↑((X5 x).getD 0 (0:UInt8)).toNat:Int) !=(112:Int)||IntKind.i64.wrap (↑((X5 x).getD 1 (0:UInt8)).toNat:Int) !=no)=false->InC (4:Int) (X5 x).length/\∃(x_1:eX.ι),((List.drop
  4 (X5 x)=x_1/\True)/\G9 x_1)/\c3o (2:Int) (4:Int) (X5 x).length/\∃(x_2:dF.ι),((List.drop 2 (List.take 4 (X5 x))=x_2/\True)/\hZ x_2)/\∃(x:yZ.ι),((T1 x_1).isSome=true->(((↑(be x_2)
  :Int)=x.lsn/\(Y4 Z6 ((T1 x_1).getD []) x.sl)/\True)/\True)/\PgB x)/\((↑(be x_2):Int)=(H7 no b).fst.lsn/\(Y4 Z6 ((T1 x_1).getD []) (H7 no b).fst.sl)/\True)/\((T1 x_1).isSome&&A8 x)=(H7
  no b).snd/\True)):
  Z2 Tryz.prog 202 [.int .i64 no,.str b] (.tup [.agg (H7 no b).1.ts,.bool (H7 no b).2]):=
 T4 (code:=b3j) (gC tO nZ (gC kM cI (gC a2J lH (gC mC sR gN)))) Tryz.func202 (by kernel_rfl) (by kernel_rfl) Z0 h (by kernel_rfl)
theorem a6k:Z1 Tryz.prog 202 b3G:=by
 rintro⟨no,b⟩ (hb:b.length<=1000);have hx:(X5 b).length<=1000:=by
  unfold X5;split
  ·rw[List.length_take];omega
  ·exact T0 _
 have hh:(!T6 b||decide (((X5 b).length:Int)<5)||(((X5 b).getD 0 0).toNat:Int) !=112||IntKind.i64.wrap (((X5 b).getD 1 0).toNat:Int) !=no)= !(T6 b&&xI no (X5 b)):=by
  rw[zA];unfold xI;have:((X5 b).getD 0 0==112)=((((X5 b).getD 0 0).toNat:Int)==112):=by
   rw[Bool.eq_iff_iff,beq_iff_eq,beq_iff_eq,←UInt8.toNat_inj];exact⟨fun h=>by rw[h];rfl,fun h=>by have:((112:UInt8).toNat:Int)=112:=rfl;omega⟩
  rw[this];have h5:decide (((X5 b).length:Int)<5)= !decide (5<=(X5 b).length):=by rw[←decide_not];exact decide_eq_decide.2 (by omega)
  have hn:((((X5 b).getD 1 0).toNat:Int) !=no)= !decide ((((X5 b).getD 1 0).toNat:Int)=no):=by rw[Bool.eq_iff_iff];simp
  rw[h5,hn,bne];cases T6 b<;>cases decide (5<=(X5 b).length)<;>cases((((X5 b).getD 0 0).toNat:Int)==112)<;>simp
 refine b0j no b ⟨b,⟨⟨rfl,trivial⟩,Nat.le_trans hb (by decide)⟩,fun h=> ?_,fun h=> ?_,fun h=> ?_,fun h=> ?_⟩
 ·simp only[vG,tV] at h;exact⟨by omega,by omega⟩
 ·simp only[vG,tV] at h;exact⟨by omega,by omega⟩
 ·rw[hh] at h;have h:(T6 b&&xI no (X5 b))=false:=(sB _).mp h;have e:H7 no b=(⟨0,[]⟩,false):=by unfold H7;rw[h];rfl
  rw[e];exact⟨⟨rfl,rfl,trivial⟩,rfl,trivial⟩
 ·rw[hh] at h;have h:(T6 b&&xI no (X5 b))=true:=(tE _).mp h;have h5:5<=(X5 b).length:=by simp only[xI,K5,t9] at h;exact h.2.1
  have e:H7 no b=(pgX (X5 b),(T1 ((X5 b).drop 4)).isSome&&A8 (pgX (X5 b))):=by unfold H7;rw[h];rfl
  rw[e];refine⟨⟨by omega,by omega⟩,(X5 b).drop 4,⟨⟨rfl,trivial⟩,by unfold G9;rw[List.length_drop];omega⟩,⟨by omega,by omega,by omega⟩,((X5 b).drop 2).take 2,⟨⟨?_,trivial⟩,by unfold hZ;rw[List.length_take];omega⟩,pgX (X5 b),
   fun _=>⟨⟨⟨rfl,⟨rfl,Z9 _ _⟩,trivial⟩,trivial⟩,?_⟩,⟨rfl,⟨rfl,Z9 _ _⟩,trivial⟩,rfl,trivial⟩
  ·rw[List.drop_take]
  ·show((T1 ((X5 b).drop 4)).getD []).length<1000000000000;unfold T1;split
   ·decide
   ·split
    ·rename_i p out ho;split
     ·have:=nK ho;have:=d5 ((X5 b).drop 4) 0;simp only[Option.getD_some,K4] at*;omega
     ·decide
    ·decide
theorem b1n(r:List UInt8)(p i:Nat):(r.drop p).getD i 0=r.getD (p+i) 0:=by
 simp[C0]
theorem b6b(r:List UInt8)(hr:0<r.length):∀i,match zU r i with
  |some (p,out)=>B9 r false i=⟨r.drop p,false,out⟩/\p<=r.length
  |none=>(B9 r false i).fl=true
 |0=>by
  have:r.isEmpty=false:=by cases r with
   |nil=>simp at hr
   |cons=>rfl
  simp only[zU,B9,Fst.go,fs0,this,Bool.or_false];exact⟨trivial,hr⟩
 |i+1=>by
  have ih:=b6b r hr i;have hgo:B9 r false (i+1)=Fst.step (B9 r false i):=rfl;cases hf:zU r i with
  |none=>
   rw[hf] at ih;have:zU r (i+1)=none:=eL hf 1;rw[this,hgo];simp only at ih ⊢;simp[Fst.step,ih]
  |some x=>
   obtain⟨p,out⟩:=x;rw[hf] at ih;obtain⟨h1,h2⟩:=ih;rw[a81 hf,hgo,h1];have hnum:numR (r.drop p)=((r.getD p 0).toNat:Int):=by unfold numR;rw[b1n,Nat.add_zero]
   have hbig:big ((r.drop p).drop 1) (numR (r.drop p))=decide (¬ (p+1+(r.getD p 0).toNat<=r.length∨r.length<p+1/\(r.getD p 0).toNat=0)):=by
    unfold big;rw[hnum];refine decide_eq_decide.2 ?_
    simp only[List.length_drop];omega
   have hemp:(r.drop p).isEmpty=decide (¬p<r.length):=by
    rw[Bool.eq_iff_iff,List.isEmpty_iff,t9,List.drop_eq_nil_iff];omega
   simp only[Fst.step];rw[hbig,hemp];by_cases hc:p<r.length/\p+1+(r.getD p 0).toNat<=r.length
   ·rw[if_pos hc];simp only;have e1:decide (¬p<r.length)=false:=uY (by omega)
    have e2:decide (¬ (p+1+(r.getD p 0).toNat<=r.length∨r.length<p+1/\(r.getD p 0).toNat=0))=false:=uY (by omega)
    rw[e1,e2];have hbig':big ((r.drop p).drop 1) (numR (r.drop p))=false:=by rw[hbig,e2]
    unfold O4 P5;rw[hbig'];simp only[Bool.false_eq_true,if_false,Bool.or_false];refine⟨?_,hc.2⟩
    rw[hnum,v4,List.drop_drop,List.drop_drop,List.drop_take,show p+1+(r.getD p 0).toNat- (p+1)=(r.getD p 0).toNat by omega,List.drop_drop,Nat.add_assoc]
   ·rw[if_neg hc];simp only;rw[oU,oU];by_cases hp:p<r.length
    ·exact .inr (jB (by omega))
    ·exact .inl (.inr (jB hp))
theorem bO(l:List UInt8):∀i,(B9 l true i).fl=true
 |0=>by simp[B9,Fst.go,fs0]
 |i+1=>by
  have:=bO l i;simp only[B9] at this ⊢;simp[Fst.go,Fst.step,this]
theorem a7h(fl:Bool):∀i,(B9 [] fl i).fl=true
 |0=>by simp[B9,Fst.go,fs0]
 |i+1=>by
  have:=a7h fl i;simp only[B9] at this ⊢;simp[Fst.go,Fst.step,this]
noncomputable def rpQ(x:List UInt8):Pg:=⟨be ((P5 x 4).drop 2),(U0 (O4 x 4) (false||big x 4)).out⟩
noncomputable def mF(no:Int)(x:List UInt8):Bool:=(!(!(U0 (O4 x 4) (false||big x 4)).fl&&(U0 (O4 x 4) (false||big x 4)).l.isEmpty)||(((P5 x 4).getD 0 0).toNat:Int) !=112||IntKind.i64.wrap (((P5 x 4).getD 1 0).toNat:Int) !=no)
theorem c4B(no:Int)(b:List UInt8)(hu:T6 b=true):(mF no (X5 b)|| !A8 (rpQ (X5 b)))= !(H7 no b).2/\((H7 no b).2=true->rpQ (X5 b)=(H7 no b).1):=by
 have hr:H7 no b=if xI no (X5 b) then(pgX (X5 b),(T1 ((X5 b).drop 4)).isSome&&A8 (pgX (X5 b))) else(⟨0,[]⟩,false):=by unfold H7;rw[hu,Bool.true_and]
 generalize X5 b=x at hr;rw[hr];by_cases h5:5<=x.length
 ·have hbig:big x 4=false:=uY (by omega)
  have hR:O4 x 4=x.drop 4:=by unfold O4;rw[hbig];rfl
  have hA:P5 x 4=x.take 4:=by unfold P5;rw[hbig];rfl
  have h0:(x.take 4).getD 0 0=x.getD 0 0:=by simp[C0,List.getElem?_take]
  have h1:(x.take 4).getD 1 0=x.getD 1 0:=by simp[C0,List.getElem?_take]
  have h2:(x.take 4).drop 2=(x.drop 2).take 2:=by rw[List.drop_take]
  have hq:rpQ x=⟨be ((x.drop 2).take 2),(U0 (x.drop 4) false).out⟩:=by unfold rpQ;rw[hR,hA,hbig,h2];rfl
  have hb:mF no x=(!(!(U0 (x.drop 4) false).fl&&(U0 (x.drop 4) false).l.isEmpty)||((x.getD 0 0).toNat:Int) !=112||((x.getD 1 0).toNat:Int) !=no):=by unfold mF;rw[hR,hA,hbig,h0,h1,zA];rfl
  have hhd:xI no x= !(((x.getD 0 0).toNat:Int) !=112||((x.getD 1 0).toNat:Int) !=no):=by
   unfold xI;rw[Bool.eq_iff_iff];simp only[K5,t9,beq_iff_eq,sB,vG,bne_eq_false_iff_eq];have:x.getD 0 0=112↔((x.getD 0 0).toNat:Int)=112:=by
    rw[←UInt8.toNat_inj];exact⟨fun h=>by rw[h];rfl,fun h=>by have:((112:UInt8).toNat:Int)=112:=rfl;omega⟩
   rw[this];exact⟨fun h=>h.2,fun h=>⟨h5,h⟩⟩
  have hlen:0<(x.drop 4).length:=by rw[List.length_drop];omega
  have hfs:=b6b (x.drop 4) hlen (K4 (x.drop 4));have hcn:(numR (x.drop 4)).toNat=K4 (x.drop 4):=by unfold numR K4;exact v4 _
  have hend:U0 (x.drop 4) false=B9 (x.drop 4) false (K4 (x.drop 4)):=by unfold U0;rw[hcn]
  have hall:T1 (x.drop 4)=if K4 (x.drop 4)>100 then none else match zU (x.drop 4) (K4 (x.drop 4)) with
    |some (p,out)=>if p=(x.drop 4).length then some out else none
    |none=>none:=by
   unfold T1;by_cases hc:K4 (x.drop 4)>100
   ·rw[if_pos (.inr hc),if_pos hc]
   ·rw[if_neg (by omega),if_neg hc]
    rfl
  rw[hb,hq,hhd,hend];generalize (((x.getD 0 0).toNat:Int) !=112)=d0;generalize (((x.getD 1 0).toNat:Int) !=no)=d1;have hX:∀out,T1 (x.drop 4)=some out->pgX x=⟨be ((x.drop 2).take 2),out⟩:=fun out h=>by unfold pgX;rw[h];rfl
  generalize be ((x.drop 2).take 2)=nn at hX;generalize pgX x=px at hX;generalize hr':x.drop 4=r at hfs hall hX;clear hq hb hhd hR hA h0 h1 h2 hr hend hcn;cases hf:zU r (K4 r) with
  |none=>
   rw[hf] at hfs hall;simp only at hfs;have hall:T1 r=none:=by rw[hall];split<;>rfl
   rw[hfs,hall];cases d0<;>cases d1<;>simp
  |some y=>
   obtain⟨p,out⟩:=y;rw[hf] at hfs hall;simp only at hfs hall;obtain⟨hfs,hpl⟩:=hfs;rw[hfs];have ho:out.length=K4 r:=nK hf;by_cases hp:p=r.length
   ·have hem:(r.drop p).isEmpty=true:=by rw[List.isEmpty_iff,List.drop_eq_nil_iff];omega
    by_cases hc:K4 r>100
    ·rw[if_pos hc] at hall;have hpg:A8 ⟨nn,out⟩=false:=uY (fun h=>by have:=h.2.2.1;simp only at this;omega)
     simp only[hem,hall,hpg];cases d0<;>cases d1<;>simp
    ·rw[if_neg hc,if_pos hp] at hall;rw[hX out hall];simp only[hem,hall];cases d0<;>cases d1<;>simp
   ·have hem:(r.drop p).isEmpty=false:=by
     rw[Bool.eq_false_iff,ne_eq,List.isEmpty_iff,List.drop_eq_nil_iff];omega
    have hall:T1 r=none:=by rw[hall,if_neg hp];split<;>rfl
    simp only[hem,hall];cases d0<;>cases d1<;>simp
 ·have hh:xI no x=false:=by unfold xI;rw[uY h5];rfl
  have hbad:(U0 (O4 x 4) (false||big x 4)).fl=true:=by
   by_cases h4:4<=x.length
   ·have hbig:big x 4=false:=uY (by omega)
    have hR:O4 x 4=[]:=by unfold O4;rw[hbig];exact List.drop_eq_nil_iff.2 (by show x.length<=4;omega)
    rw[hR];exact a7h _ _
   ·have hbig:big x 4=true:=jB (by omega)
    rw[hbig];exact bO _ _
  have hb:mF no x=true:=by unfold mF;rw[hbad];simp
  rw[hb,hh];simp
theorem a3Z:Z1 Tryz.prog 214 a4N:=by
 rintro⟨no,b⟩ (hb:b.length<=1000);have hl:∀(x:List UInt8),(P5 x 4).length=4:=fun x=>by
  unfold P5;split
  ·exact List.length_replicate
  ·rename_i h;have:¬4>(x.length:Int):=by simpa[big] using h
   rw[List.length_take,show(4:Int).toNat=4 from rfl]
   omega
 refine a7I no b ⟨fun h=> ?_,fun _=>⟨b,⟨⟨rfl,trivial⟩,Nat.le_trans hb (by decide)⟩,fun h=> ?_,fun h=>⟨⟨by omega,by omega⟩,⟨by omega,by rw[hl];omega⟩,(P5 (X5 b) 4).drop 2,⟨⟨rfl,trivial⟩,by unfold hZ;rw[List.length_drop,hl];omega⟩,
  fun _=>⟨by omega,by rw[hl];omega⟩,fun _=>⟨by omega,by rw[hl];omega⟩,rpQ (X5 b),fun _=>⟨⟨⟨rfl,⟨rfl,Z9 _ _⟩,trivial⟩,trivial⟩,?_⟩,fun g=> ?_,fun g=> ?_⟩⟩⟩
 ·have:=D8 h;have hb:b.length<=1000:=hb;omega
 ·have hu:T6 b=false:=by simpa using h
  have e2:(H7 no b).2=false:=by unfold H7;rw[hu];rfl
  have e1:D6 no b=⟨0,[]⟩:=by unfold D6;rw[e2];rfl
  have e3:D0 no b=8:=by unfold D0;rw[hu];rfl
  rw[e1,e3];exact⟨⟨rfl,rfl,trivial⟩,rfl,trivial⟩
 ·show(U0 (O4 (X5 b) 4) (false||big (X5 b) 4)).out.length<1000000000000;unfold U0;rw[kO];have:=e9 (O4 (X5 b) 4);omega
 ·have hu:T6 b=true:=by simpa using h
  have hq:=(c4B no b hu).1;have e2:(H7 no b).2=false:=by
   have g:(mF no (X5 b)|| !A8 (rpQ (X5 b)))=true:=g;rw[g] at hq;exact(sB _).mp hq.symm
  have e1:D6 no b=⟨0,[]⟩:=by unfold D6;rw[e2];rfl
  have e3:D0 no b=3:=by unfold D0;rw[hu,e2];rfl
  rw[e1,e3];exact⟨⟨rfl,rfl,trivial⟩,rfl,trivial⟩
 ·have hu:T6 b=true:=by simpa using h
  have hq:=c4B no b hu;have e2:(H7 no b).2=true:=by
   have g:(mF no (X5 b)|| !A8 (rpQ (X5 b)))=false:=g;rw[g] at hq;exact(tE _).mp hq.1.symm
  have e1:D6 no b=rpQ (X5 b):=by unfold D6;rw[e2,hq.2 e2];rfl
  have e3:D0 no b=0:=by unfold D0;rw[hu,e2];rfl
  rw[e1,e3];exact⟨⟨rfl,⟨rfl,Z9 _ _⟩,trivial⟩,rfl,trivial⟩
end Go.Proofs.YtokaojbaacnngaaGreat

