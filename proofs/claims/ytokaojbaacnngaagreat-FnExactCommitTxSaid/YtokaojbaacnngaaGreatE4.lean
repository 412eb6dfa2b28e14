/- A part of the proof. -/
import Derived.Test.YtokaojbaacnngaaGreatE3
namespace Go.Proofs.YtokaojbaacnngaaGreat
set_option maxRecDepth 100000
open Go.SS

structure Pg where
 lsn:Int
 sl:List (List UInt8)
 deriving Inhabited
def Pg.ts(p:Pg):List T:=[.int .i64 p.lsn,L6 p.sl]
def d7g(b:Bool):Nat:=match b with|true=>30|false=>160
def S1(b:Bool)(s:List UInt8):Bool:=decide ((s.length:Int)>d7g b)
def a9p(b:Bool):List T->Option (T×Option Prop)
 | [.str s]=>some (.bool (S1 b s),none)
 |_=>none
def b9L:Con:=.pure (a9p true)
def c2w:Con:=.pure (a9p false)
noncomputable def c0p:Code:=Tryz.f262.body.getD .skip
theorem a8R:Z8 Tryz.prog 262:=⟨_,Tryz.func262,by kernel_rfl,by kernel_rfl⟩
theorem c1T(s:List UInt8)(h:
  decide ((s.length:Int)>(30:Int))=S1 true s):
  Z1 Tryz.prog 262 [.str s] (.bool (S1 true s)):=
 T7 (code:=c0p) gN Tryz.func262 (by kernel_rfl) (by kernel_rfl) Z0 h (by kernel_rfl)
theorem b5R:Z2 Tryz.prog 262 b9L:=by
 intro args res p h hp;unfold a9p at h;split at h
 ·simp only[Option.some.injEq,Prod.mk.injEq] at h;obtain⟨rfl,rfl⟩:=h;exact c1T _ rfl
 ·cases h
noncomputable def c3y:Code:=Tryz.f207.body.getD .skip
theorem a7k:Z8 Tryz.prog 207:=⟨_,Tryz.func207,by kernel_rfl,by kernel_rfl⟩
theorem c3q(s:List UInt8)(h:
  decide ((s.length:Int)>(160:Int))=S1 false s):
  Z1 Tryz.prog 207 [.str s] (.bool (S1 false s)):=
 T7 (code:=c3y) gN Tryz.func207 (by kernel_rfl) (by kernel_rfl) Z0 h (by kernel_rfl)
theorem b27:Z2 Tryz.prog 207 c2w:=by
 intro args res p h hp;unfold a9p at h;split at h
 ·simp only[Option.some.injEq,Prod.mk.injEq] at h;obtain⟨rfl,rfl⟩:=h;exact c3q _ rfl
 ·cases h
def a4z(b:Bool):T:=fnT (match b with|true=>262|false=>207)
def a4N:Rl:=⟨List (List UInt8)×Bool,fun x=>[L6 x.1,a4z x.2],fun x=>.int .i64 (T4 x.1.length fun i=>S1 x.2 (x.1.getD i [])),fun x=>N8 x.1.length⟩
def c3F:Con:=.rel a4N
def b2h(L:List (List UInt8))(b:Bool):Nat->Ann
 |0=>.one (W5 L.length fun i=>S1 b (L.getD i [])) (fun x=>⟨[(0,L6 L),(1,a4z b),(7,.int .i64 L.length),(8,.int .i64 x.1)],[]⟩) (fun x=>L.length-x.1) [] [] (fun _=>Z0)
 |_=>.none
noncomputable def b2A:Code:=Tryz.f251.body.getD .skip
theorem a29:Z8 Tryz.prog 251:=⟨_,Tryz.func251,by kernel_rfl,by kernel_rfl⟩
theorem b8Y(L:List (List UInt8))(h:
  (∃(x:W5 L.length fun(i:Nat)=>S1 true (L.getD i [])),((Y3 Z6 L L)/\Value.func (Fn.func 262) #[] #[]=Value.func (Fn.func 262) #[] #[]/\(L.length:Int)=(L.length:Int)/\(0:Int)=(x.val:Int)/\True)/\True)/\
  ∀(x:W5 L.length fun(i:Nat)=>S1 true (L.getD i [])),(decide ((x.val:Int)<(L.length:Int))=true->W7 (x.val:Int) L.length/\(S1 true (L.getD (x.val:Int).toNat [])=true->(x.val:Int)=T4 L.length fun(i:
  Nat)=>S1 true (L.getD i []))/\(S1 true (L.getD (x.val:Int).toNat [])=false->X6 .i64 ((x.val:Int)+(1:Int))/\∃(y:W5 L.length fun(i:Nat)=>S1 true (L.getD i [])),(((Y3 Z6 L L)/\Value.func (Fn.func
  262) #[] #[]=Value.func (Fn.func 262) #[] #[]/\(L.length:Int)=(L.length:Int)/\(x.val:Int)+(1:Int)=(y.val:Int)/\True)/\True)/\Lt (L.length-y.val) (L.length-x.val)))/\(decide ((x.val:Int)<(L.length:Int))=
  false->(-1:Int)=T4 L.length fun(i:Nat)=>S1 true (L.getD i []))):
  Z1 Tryz.prog 251 [L6 L,a4z true] (.int .i64 (T4 L.length fun i=>S1 true (L.getD i []))):=
 T7 (code:=b2A) (gC b5R a8R gN) Tryz.func251 (by kernel_rfl) (by kernel_rfl) (b2h L true) h (by kernel_rfl)
theorem b9W(L:List (List UInt8))(h:
  (∃(x:W5 L.length fun(i:Nat)=>S1 false (L.getD i [])),((Y3 Z6 L L)/\Value.func (Fn.func 207) #[] #[]=Value.func (Fn.func 207) #[] #[]/\(L.length:Int)=(L.length:Int)/\(0:Int)=(x.val:Int)/\True)/\True)
  /\∀(x:W5 L.length fun(i:Nat)=>S1 false (L.getD i [])),(decide ((x.val:Int)<(L.length:Int))=true->W7 (x.val:Int) L.length/\(S1 false (L.getD (x.val:Int).toNat [])=true->(x.val:Int)=T4 L.length fun(i:
  Nat)=>S1 false (L.getD i []))/\(S1 false (L.getD (x.val:Int).toNat [])=false->X6 .i64 ((x.val:Int)+(1:Int))/\∃(y:W5 L.length fun(i:Nat)=>S1 false (L.getD i [])),(((Y3 Z6 L L)/\Value.func
  (Fn.func 207) #[] #[]=Value.func (Fn.func 207) #[] #[]/\(L.length:Int)=(L.length:Int)/\(x.val:Int)+(1:Int)=(y.val:Int)/\True)/\True)/\Lt (L.length-y.val) (L.length-x.val)))/\(decide ((x.val:Int)<
  (L.length:Int))=false->(-1:Int)=T4 L.length fun(i:Nat)=>S1 false (L.getD i []))):
  Z1 Tryz.prog 251 [L6 L,a4z false] (.int .i64 (T4 L.length fun i=>S1 false (L.getD i []))):=
 T7 (code:=b2A) (gC b27 a7k gN) Tryz.func251 (by kernel_rfl) (by kernel_rfl) (b2h L false) h (by kernel_rfl)
theorem a64:Z2 Tryz.prog 251 c3F:=by
 rintro⟨L,b⟩ (hL:L.length<1000000000000);cases b
 ·refine b9W L ⟨⟨I5,⟨⟨rfl,fun _ _=>rfl⟩,rfl,rfl,rfl,trivial⟩,trivial⟩,fun x=>⟨fun hc=> ?_,fun hc=> ?_⟩⟩
  ·have hlt:=Y6 hc;exact⟨Y8 hlt,fun hp=>(N9 hlt hp x.2.2).symm,fun hp=>⟨W8 hlt (by omega),x.succ hlt hp,⟨⟨⟨rfl,fun _ _=>rfl⟩,rfl,rfl,rfl,trivial⟩,trivial⟩,W5.ext_lt hlt⟩⟩
  ·have hge:=Y2 hc;exact(M1 fun j hj=>x.2.2 j (Nat.lt_of_lt_of_le hj hge)).symm
 ·refine b8Y L ⟨⟨I5,⟨⟨rfl,fun _ _=>rfl⟩,rfl,rfl,rfl,trivial⟩,trivial⟩,fun x=>⟨fun hc=> ?_,fun hc=> ?_⟩⟩
  ·have hlt:=Y6 hc;exact⟨Y8 hlt,fun hp=>(N9 hlt hp x.2.2).symm,fun hp=>⟨W8 hlt (by omega),x.succ hlt hp,⟨⟨⟨rfl,fun _ _=>rfl⟩,rfl,rfl,rfl,trivial⟩,trivial⟩,W5.ext_lt hlt⟩⟩
  ·have hge:=Y2 hc;exact(M1 fun j hj=>x.2.2 j (Nat.lt_of_lt_of_le hj hge)).symm
def a4G:Rl:=⟨List (List UInt8)×Bool,fun x=>[L6 x.1,a4z x.2],fun x=>.bool (anyI x.1.length fun i=>S1 x.2 (x.1.getD i [])),fun x=>N8 x.1.length⟩
def c5V:Con:=.rel a4G
noncomputable def b16:Code:=Tryz.f206.body.getD .skip
theorem a3t:Z8 Tryz.prog 206:=⟨_,Tryz.func206,by kernel_rfl,by kernel_rfl⟩
theorem c1Q(L:List (List UInt8))(h:
  ∃(x:a4N.ι),(((Y3 Z6 L x.fst)/\Value.func (Fn.func 262) #[] #[]=Value.func (Fn.func (match x.snd with|true=>262|false=>207)) #[] #[]/\True)/\N8 x.fst.length)/\decide ((T4 x.fst.length fun(i:Nat)=>S1 x.snd (x.fst.getD i []))≥(0:Int))=anyI L.length fun(i:Nat)=>S1 true (L.getD i [])):
  Z1 Tryz.prog 206 [L6 L,a4z true] (.bool (anyI L.length fun i=>S1 true (L.getD i []))):=
 T7 (code:=b16) (gC a64 a29 gN) Tryz.func206 (by kernel_rfl) (by kernel_rfl) Z0 h (by kernel_rfl)
theorem c3c(L:List (List UInt8))(h:
  ∃(x:a4N.ι),(((Y3 Z6 L x.fst)/\Value.func (Fn.func 207) #[] #[]=Value.func (Fn.func (match x.snd with|true=>262|false=>207)) #[] #[]/\True)/\N8 x.fst.length)/\decide ((T4 x.fst.length fun(i:Nat)=>S1 x.snd (x.fst.getD i []))≥(0:Int))=anyI L.length fun(i:Nat)=>S1 false (L.getD i [])):
  Z1 Tryz.prog 206 [L6 L,a4z false] (.bool (anyI L.length fun i=>S1 false (L.getD i []))):=
 T7 (code:=b16) (gC a64 a29 gN) Tryz.func206 (by kernel_rfl) (by kernel_rfl) Z0 h (by kernel_rfl)
theorem a6H:Z2 Tryz.prog 206 c5V:=by
 rintro⟨L,b⟩ (hL:L.length<1000000000000);cases b
 ·exact c3c L ⟨(L,false),⟨⟨⟨rfl,fun _ _=>rfl⟩,rfl,trivial⟩,hL⟩,A3 _ _⟩
 ·exact c1Q L ⟨(L,true),⟨⟨⟨rfl,fun _ _=>rfl⟩,rfl,trivial⟩,hL⟩,A3 _ _⟩
def PgP(p:Pg):Prop:=0<=p.lsn/\p.lsn<=1000/\p.sl.length=4/\∀i,i<p.sl.length->(p.sl.getD i []).length<=30
noncomputable instance(p:Pg):Decidable (PgP p):=Classical.propDecidable _
noncomputable def C8(p:Pg):Bool:=decide (PgP p)
def PgB(p:Pg):Prop:=N8 p.sl.length
noncomputable def i4:Rl:=⟨Pg,fun p=>[.agg p.ts],fun p=>.bool (C8 p),PgB⟩
noncomputable def c10:Con:=.rel i4
noncomputable def b9T:Con:=.rel i4
noncomputable def c0X:Code:=Tryz.f216.body.getD .skip
theorem a2e:Z8 Tryz.prog 216:=⟨_,Tryz.func216,by kernel_rfl,by kernel_rfl⟩
theorem c3j(p:Pg)(h:
  ∃(x:a4G.ι),((W9 p.lsn (0:Int) (1000:Int)&&(p.sl.length:Int)==(4:Int))=true->((Y3 Z6 p.sl x.fst)/\Value.func (Fn.func 262) #[] #[]=Value.func (Fn.func (match x.snd with|true=>262|false=>207)) #[] #[]/\True)/\N8 x.fst.length)/\(W9 p.lsn (0:Int) (1000:Int)&&(p.sl.length:Int)==(4:Int)&& !anyI x.fst.length fun(i:Nat)=>S1 x.snd (x.fst.getD i []))=C8 p):
  Z1 Tryz.prog 216 [.agg p.ts] (.bool (C8 p)):=
 T7 (code:=c0X) (gC P4 S0 (gC a6H a3t gN)) Tryz.func216 (by kernel_rfl) (by kernel_rfl) Z0 h (by kernel_rfl)
noncomputable def b9n:Code:=Tryz.f139.body.getD .skip
theorem a2o:Z8 Tryz.prog 139:=⟨_,Tryz.func139,by kernel_rfl,by kernel_rfl⟩
def c2s(p:Pg):Nat->Ann
 |0=>.one (W5 4 fun i=>S1 true (p.sl.getD i [])) (fun x=>⟨[(1,.ref 0 0 0),(3,.int .i64 x.1)],[some (.arr true 1000000 2 1 fun _=>p.ts)]⟩) (fun x=>4-x.1) [.box 0] [.box 0] (fun _=>Z0)
 |_=>.none
theorem c3x(p:Pg)(h:
  ((!W9 p.lsn (0:Int) (1000:Int)||(p.sl.length:Int) !=(4:Int))=true->false=C8 p)/\((!W9 p.lsn (0:Int) (1000:Int)||(p.sl.length:Int) !=(4:Int))=false->(∃(x:W5 4 fun(i:Nat)=>S1 true
  (p.sl.getD i [])),((0=0/\0=0)/\(0:Int)=(x.val:Int)/\True)/\(1=1/\1=1/\p.lsn=p.lsn/\(Y3 Z6 p.sl p.sl)/\True)/\True)/\∀(x:W5 4 fun(i:Nat)=>S1 true (p.sl.getD i [])),(decide ((x.val:Int)<
  (4:Int))=true->W7 (x.val:Int) p.sl.length/\(decide ((↑(p.sl.getD (x.val:Int).toNat []).length:Int)>(30:Int))=true->false=C8 p)/\(decide ((↑(p.sl.getD (x.val:Int).toNat []).length:Int)>(30:Int))=false->
  X6 .i64 ((x.val:Int)+(1:Int))/\∃(y:W5 4 fun(i:Nat)=>S1 true (p.sl.getD i [])),(((0=0/\0=0)/\(x.val:Int)+(1:Int)=(y.val:Int)/\True)/\(1=1/\1=1/\p.lsn=p.lsn/\(Y3 Z6 p.sl p.sl)/\True)/\
  True)/\Lt (4-y.val) (4-x.val)))/\(decide ((x.val:Int)<(4:Int))=false->true=C8 p))):
  Z1 Tryz.prog 139 [.agg p.ts] (.bool (C8 p)):=
 T7 (code:=b9n) (gC A7 I3 gN) Tryz.func139 (by kernel_rfl) (by kernel_rfl) (c2s p) h (by kernel_rfl)
def a1d:Rl:=⟨Unit,fun _=>[],fun _=>.agg (Pg.ts ⟨0,[[],[],[],[]]⟩),fun _=>True⟩
def b4r:Con:=.rel a1d
def b6T:Con:=.rel a1d
noncomputable def b3X:Code:=Tryz.f213.body.getD .skip
theorem a5T:Z8 Tryz.prog 213:=⟨_,Tryz.func213,by kernel_rfl,by kernel_rfl⟩
theorem b6h(h:
  (Nn (4:Int)/\LeI (4:Int) (4:Int)/\J8 16 4 140737488355328/\Lt 4 9223372036854775808)/\Le 4 4/\(0:Int)=(0:Int)/\(4=4/\Z7 4 (fun(x:Nat)=>[T.str []]) (Z6 [[],[],[],[]]))/\True):
  Z1 Tryz.prog 213 [] (.agg (Pg.ts ⟨0,[[],[],[],[]]⟩)):=
 T7 (code:=b3X) gN Tryz.func213 (by kernel_rfl) (by kernel_rfl) Z0 h (by kernel_rfl)
noncomputable def b6a:Code:=Tryz.f201.body.getD .skip
theorem a58:Z8 Tryz.prog 201:=⟨_,Tryz.func201,by kernel_rfl,by kernel_rfl⟩
theorem b3z(h:
  (Nn (4:Int)/\LeI (4:Int) (4:Int)/\J8 16 4 140737488355328/\Lt 4 9223372036854775808)/\Le 4 4/\(0:Int)=(0:Int)/\(4=4/\Z7 4 (fun(x:Nat)=>[T.str []]) (Z6 [[],[],[],[]]))/\True):
  Z1 Tryz.prog 201 [] (.agg (Pg.ts ⟨0,[[],[],[],[]]⟩)):=
 T7 (code:=b6a) gN Tryz.func201 (by kernel_rfl) (by kernel_rfl) Z0 h (by kernel_rfl)
theorem a4B{s:List UInt8}:S1 true s=false↔s.length<=30:=by
 unfold S1;rw[decide_eq_false_iff_not];show ¬ (s.length:Int)>((30:Nat):Int)↔_;omega
theorem a4L{s:List UInt8}:S1 false s=false↔s.length<=160:=by
 unfold S1;rw[decide_eq_false_iff_not];show ¬ (s.length:Int)>((160:Nat):Int)↔_;omega
theorem L5{n:Nat}{p:Nat->Bool}:anyI n p=false↔∀i,i<n->p i=false:=by
 rw[Bool.eq_false_iff,ne_eq,Q1];constructor
 ·intro h i hi;exact Bool.eq_false_iff.2 fun hp=>h ⟨i,hi,hp⟩
 ·rintro h ⟨i,hi,hp⟩;rw[h i hi] at hp;cases hp
theorem c4n(p:Pg):C8 p=true↔PgP p:=decide_eq_true_iff
theorem a38:Z2 Tryz.prog 216 c10:=by
 intro(p:Pg) (hp:p.sl.length<1000000000000);refine c3j p ⟨(p.sl,true),fun _=>⟨⟨⟨rfl,Z9 _ _⟩,rfl,trivial⟩,hp⟩,?_⟩
 rw[Bool.eq_iff_iff,c4n];simp only[Bool.and_eq_true,Bool.not_eq_true',beq_iff_eq,W9,decide_eq_true_eq,L5];constructor
 ·rintro⟨⟨⟨h1,h2⟩,h3⟩,h4⟩;exact⟨h1,h2,by omega,fun i hi=>a4B.1 (h4 i hi)⟩
 ·rintro⟨h1,h2,h3,h4⟩;exact⟨⟨⟨h1,h2⟩,by omega⟩,fun i hi=>a4B.2 (h4 i hi)⟩
theorem d3v{p:Pg}(h:¬PgP p):false=C8 p:=(decide_eq_false h).symm
theorem a4l:Z2 Tryz.prog 139 b9T:=by
 intro(p:Pg) (hp:p.sl.length<1000000000000);refine c3x p ⟨fun h=>d3v ?_,fun h=> ?_⟩
 ·rintro⟨h1,h2,h3,_⟩;simp[W9] at h;omega
 simp[W9] at h;refine⟨⟨I5,⟨⟨rfl,rfl⟩,rfl,trivial⟩,⟨rfl,rfl,rfl,⟨rfl,Z9 _ _⟩,trivial⟩,trivial⟩,fun x=>⟨fun hc=> ?_,fun hc=> ?_⟩⟩
 ·have hlt:x.val<4:=by have:=of_decide_eq_true hc;omega
  refine⟨⟨by omega,by omega⟩,fun hb=>d3v ?_,fun hb=>⟨Z5 (by omega),x.succ hlt hb,⟨⟨⟨rfl,rfl⟩,rfl,trivial⟩,⟨rfl,rfl,rfl,⟨rfl,Z9 _ _⟩,trivial⟩,trivial⟩,W5.ext_lt hlt⟩⟩
  rintro⟨_,_,_,h4⟩;have:=h4 x.val (by omega)
  rw[Int.toNat_natCast,decide_eq_true_eq] at hb;omega
 ·refine(decide_eq_true ⟨h.1.1,h.1.2,by omega,fun i hi=> ?_⟩).symm
  exact a4B.1 (x.2.2 i (by have:=of_decide_eq_false hc;omega))
theorem b09:Z7 4 (fun _=>[T.str []]) (Z6 [[],[],[],[]]):=by
 intro i hi
 match i,hi with
 |0,_=>rfl
 |1,_=>rfl
 |2,_=>rfl
 |3,_=>rfl
theorem a9N:Z2 Tryz.prog 213 b4r:=fun _ _=>b6h ⟨⟨by unfold Nn;omega,by unfold LeI;omega,by unfold J8;omega,by unfold Lt;omega⟩,Nat.le_refl _,rfl,⟨rfl,b09⟩,trivial⟩
theorem b1z:Z2 Tryz.prog 201 b6T:=fun _ _=>b3z ⟨⟨by unfold Nn;omega,by unfold LeI;omega,by unfold J8;omega,by unfold Lt;omega⟩,Nat.le_refl _,rfl,⟨rfl,b09⟩,trivial⟩
def a0J(no:Int)(x:List UInt8):Bool:=decide (5<=x.length)&&(x.getD 0 0==112&&decide (((x.getD 1 0).toNat:Int)=no))
def pgX(x:List UInt8):Pg:=⟨be ((x.drop 2).take 2),(T1 (x.drop 4)).getD []⟩
noncomputable def J0(no:Int)(b:List UInt8):Pg×Bool:=if T8 b&&a0J no (X5 b) then(pgX (X5 b),(T1 ((X5 b).drop 4)).isSome&&C8 (pgX (X5 b))) else(⟨0,[]⟩,false)
noncomputable def F5(no:Int)(b:List UInt8):Pg:=if(J0 no b).2 then(J0 no b).1 else⟨0,[]⟩
noncomputable def F1(no:Int)(b:List UInt8):Int:=if T8 b then(if(J0 no b).2 then 0 else 3) else 8
def RdB(b:List UInt8):Prop:=b.length<=1000
noncomputable def a5f:Rl:=⟨Int×List UInt8,fun x=>[.int .i64 x.1,.bys x.2],fun x=>.tup [.agg (F5 x.1 x.2).ts,.int .i64 (F1 x.1 x.2)],fun x=>RdB x.2⟩
noncomputable def b3Z:Con:=.rel a5f
noncomputable def b3A:Code:=Tryz.f214.body.getD .skip
theorem a6e:Z8 Tryz.prog 214:=⟨_,Tryz.func214,by kernel_rfl,by kernel_rfl⟩
theorem b4K(no:Int)(b:List UInt8)(h:
  (decide ((b.length:Int)>(65536:Int))=true->((0:Int)=(F5 no b).lsn/\(F5 no b).sl.length=0/\True)/\(2:Int)=F1 no b/\True)/\(decide ((b.length:Int)>(65536:Int))=false->∃(x:a1E.ι),((b
  =x/\True)/\I7 x)/\((!T8 x)=true->((0:Int)=(F5 no b).lsn/\(F5 no b).sl.length=0/\True)/\(8:Int)=F1 no b/\True)/\((!T8 x)=false->a2w (4:Int)/\InC (2:Int) (P7 (X5 x) (4:
  Int)).length/\∃(x_1:c7V.ι),((List.drop 2 (P7 (X5 x) (4:Int))=x_1/\True)/\a5U x_1)/\((!(!(U1 (O5 (X5 x) (4:Int)) (false||big (X5 x) (4:Int))).fl&&(U1 (O5 (X5 x) (4:Int)) (false||big
  (X5 x) (4:Int))).l.isEmpty))=false->W7 (0:Int) (P7 (X5 x) (4:Int)).length)/\((!(!(U1 (O5 (X5 x) (4:Int)) (false||big (X5 x) (4:Int))).fl&&(U1 (O5 (X5 x) (4:Int)) (false||big (X5 x)
  (4:Int))).l.isEmpty)||(↑((P7 (X5 x) (4:Int)).getD 0 (0:UInt8)).toNat:Int) !=(112:Int))=false->W7 (1:Int) (P7 (X5 x) (4:Int)).length)/\∃(x_2:i4.ι),((!(!(U1 (O5 (X5 x) (4:Int))
  (false||big (X5 x) (4:Int))).fl&&(U1 (O5 (X5 x) (4:Int)) (false||big (X5 x) (4:Int))).l.isEmpty)||(↑((P7 (X5 x) (4:Int)).getD 0 (0:UInt8)).toNat:Int) !=(112:Int)||IntKind.i64.wrap
  (↑((P7 (X5 x) (4:Int)).getD 1 (0:UInt8)).toNat:Int) !=no)=false->(((↑(be x_1):Int)=x_2.lsn/\(Y3 Z6 (U1 (O5 (X5 x) (4:Int)) (false||big (X5 x) (4:Int))).out x_2.sl)/\True)/\True)/\PgB
  x_2)/\((!(!(U1 (O5 (X5 x) (4:Int)) (false||big (X5 x) (4:Int))).fl&&(U1 (O5 (X5 x) (4:Int)) (false||big (X5 x) (4:Int))).l.isEmpty)||(↑((P7 (X5 x) (4:Int)).getD 0 (0:UInt8)).toNat:
  Int) !=(112:Int)||IntKind.i64.wrap (↑((P7 (X5 x) (4:Int)).getD 1 (0:UInt8)).toNat:Int) !=no|| !C8 x_2)=true->((0:Int)=(F5 no b).lsn/\(F5 no b).sl.length=0/\True)/\(3:Int)=F1 no b/\
  True)/\((!(!(U1 (O5 (X5 x) (4:Int)) (false||big (X5 x) (4:Int))).fl&&(U1 (O5 (X5 x) (4:Int)) (false||big (X5 x) (4:Int))).l.isEmpty)||(↑((P7 (X5 x) (4:Int)).getD 0 (0:UInt8)).toNat:
  Int) !=(112:Int)||IntKind.i64.wrap (↑((P7 (X5 x) (4:Int)).getD 1 (0:UInt8)).toNat:Int) !=no|| !C8 x_2)=false->((↑(be x_1):Int)=(F5 no b).lsn/\(Y3 Z6 (U1 (O5 (X5 x) (4:Int)) (false||
  big (X5 x) (4:Int))).out (F5 no b).sl)/\True)/\(0:Int)=F1 no b/\True)))):
  Z1 Tryz.prog 214 [.int .i64 no,.bys b] (.tup [.agg (F5 no b).ts,.int .i64 (F1 no b)]):=
 T7 (code:=b3A) (gC a27 a1v (gC a8c a2V (gC c43 b1i (gC a68 a3s (gC a2X a0H (gC a38 a2e gN)))))) Tryz.func214 (by kernel_rfl) (by kernel_rfl) Z0 h (by kernel_rfl)
noncomputable def a6T:Rl:=⟨Int×List UInt8,fun x=>[.int .i64 x.1,.str x.2],fun x=>.tup [.agg (J0 x.1 x.2).1.ts,.bool (J0 x.1 x.2).2],fun x=>RdB x.2⟩
noncomputable def b9s:Con:=.rel a6T
noncomputable def c2c:Code:=Tryz.f202.body.getD .skip
theorem a8e:Z8 Tryz.prog 202:=⟨_,Tryz.func202,by kernel_rfl,by kernel_rfl⟩
theorem c1C(no:Int)(b:List UInt8)(h:
  ∃(x:b2I.ι),((b=x/\True)/\I7 x)/\((!T8 x||decide ((↑(X5 x).length:Int)<(5:Int)))=false->W7 (0:Int) (X5 x).length)/\((!T8 x||decide ((↑(X5 x).length:Int)<(5:Int))||(↑((X5
  x).getD 0 (0:UInt8)).toNat:Int) !=(112:Int))=false->W7 (1:Int) (X5 x).length)/\((!T8 x||decide ((↑(X5 x).length:Int)<(5:Int))||(↑((X5 x).getD 0 (0:UInt8)).toNat:Int) !=(112:Int)||
  IntKind.i64.wrap (↑((X5 x).getD 1 (0:UInt8)).toNat:Int) !=no)=true->((0:Int)=(J0 no b).fst.lsn/\(J0 no b).fst.sl.length=0/\True)/\false=(J0 no b).snd/\True)/\((!T8 x||decide ((↑(X5 x).length:
  Int)<(5:Int))||(↑((X5 x).getD 0 (0:UInt8)).toNat:Int) !=(112:Int)||IntKind.i64.wrap (↑((X5 x).getD 1 (0:UInt8)).toNat:Int) !=no)=false->InC (4:Int) (X5 x).length/\∃(x_1:a6K.ι),((List.drop
  4 (X5 x)=x_1/\True)/\I7 x_1)/\d2q (2:Int) (4:Int) (X5 x).length/\∃(x_2:a8F.ι),((List.drop 2 (List.take 4 (X5 x))=x_2/\True)/\a5U x_2)/\∃(x:i4.ι),((T1 x_1).isSome=true->(((↑(be x_2)
  :Int)=x.lsn/\(Y3 Z6 ((T1 x_1).getD []) x.sl)/\True)/\True)/\PgB x)/\((↑(be x_2):Int)=(J0 no b).fst.lsn/\(Y3 Z6 ((T1 x_1).getD []) (J0 no b).fst.sl)/\True)/\((T1 x_1).isSome&&C8 x)=(J0
  no b).snd/\True)):
  Z1 Tryz.prog 202 [.int .i64 no,.str b] (.tup [.agg (J0 no b).1.ts,.bool (J0 no b).2]):=
 T7 (code:=c2c) (gC a2h a4n (gC a4Y a7n (gC b0s a32 (gC a4l a2o gN)))) Tryz.func202 (by kernel_rfl) (by kernel_rfl) Z0 h (by kernel_rfl)
theorem b65:Z2 Tryz.prog 202 b9s:=by
 rintro⟨no,b⟩ (hb:b.length<=1000);have hx:(X5 b).length<=1000:=by
  unfold X5;split
  ·rw[List.length_take];omega
  ·exact Nat.zero_le _
 have hh:(!T8 b||decide (((X5 b).length:Int)<5)||(((X5 b).getD 0 0).toNat:Int) !=112||IntKind.i64.wrap (((X5 b).getD 1 0).toNat:Int) !=no)= !(T8 b&&a0J no (X5 b)):=by
  rw[i6];unfold a0J;have:((X5 b).getD 0 0==112)=((((X5 b).getD 0 0).toNat:Int)==112):=by
   rw[Bool.eq_iff_iff,beq_iff_eq,beq_iff_eq,←UInt8.toNat_inj];exact⟨fun h=>by rw[h];rfl,fun h=>by have:((112:UInt8).toNat:Int)=112:=rfl;omega⟩
  rw[this];have h5:decide (((X5 b).length:Int)<5)= !decide (5<=(X5 b).length):=by rw[←decide_not];exact decide_eq_decide.2 (by omega)
  have hn:((((X5 b).getD 1 0).toNat:Int) !=no)= !decide ((((X5 b).getD 1 0).toNat:Int)=no):=by rw[Bool.eq_iff_iff];simp
  rw[h5,hn,bne];cases T8 b<;>cases decide (5<=(X5 b).length)<;>cases((((X5 b).getD 0 0).toNat:Int)==112)<;>simp
 refine c1C no b ⟨b,⟨⟨rfl,trivial⟩,Nat.le_trans hb (by decide)⟩,fun h=> ?_,fun h=> ?_,fun h=> ?_,fun h=> ?_⟩
 ·simp only[Bool.or_eq_false_iff,decide_eq_false_iff_not] at h;exact⟨by omega,by omega⟩
 ·simp only[Bool.or_eq_false_iff,decide_eq_false_iff_not] at h;exact⟨by omega,by omega⟩
 ·rw[hh] at h;have h:(T8 b&&a0J no (X5 b))=false:=(Bool.not_eq_true' _).mp h;have e:J0 no b=(⟨0,[]⟩,false):=by unfold J0;rw[h];rfl
  rw[e];exact⟨⟨rfl,rfl,trivial⟩,rfl,trivial⟩
 ·rw[hh] at h;have h:(T8 b&&a0J no (X5 b))=true:=(Bool.not_eq_false' _).mp h;have h5:5<=(X5 b).length:=by simp only[a0J,Bool.and_eq_true,decide_eq_true_eq] at h;exact h.2.1
  have e:J0 no b=(pgX (X5 b),(T1 ((X5 b).drop 4)).isSome&&C8 (pgX (X5 b))):=by unfold J0;rw[h];rfl
  rw[e];refine⟨⟨by omega,by omega⟩,(X5 b).drop 4,⟨⟨rfl,trivial⟩,by unfold I7;rw[List.length_drop];omega⟩,⟨by omega,by omega,by omega⟩,((X5 b).drop 2).take 2,⟨⟨?_,trivial⟩,by unfold a5U;rw[List.length_take];omega⟩,pgX (X5 b),
   fun _=>⟨⟨⟨rfl,⟨rfl,Z9 _ _⟩,trivial⟩,trivial⟩,?_⟩,⟨rfl,⟨rfl,Z9 _ _⟩,trivial⟩,rfl,trivial⟩
  ·rw[List.drop_take]
  ·show((T1 ((X5 b).drop 4)).getD []).length<1000000000000;unfold T1;split
   ·decide
   ·split
    ·rename_i p out ho;split
     ·have:=a5r ho;have:=k9 ((X5 b).drop 4) 0;simp only[Option.getD_some,K7] at*;omega
     ·decide
    ·decide
theorem c02(r:List UInt8)(p i:Nat):(r.drop p).getD i 0=r.getD (p+i) 0:=by
 simp[List.getD_eq_getElem?_getD]
theorem c4T(r:List UInt8)(hr:0<r.length):∀i,match j7 r i with
  |some (p,out)=>D8 r false i=⟨r.drop p,false,out⟩/\p<=r.length
  |none=>(D8 r false i).fl=true
 |0=>by
  have:r.isEmpty=false:=by cases r with
   |nil=>simp at hr
   |cons=>rfl
  simp only[j7,D8,Fst.go,fs0,this,Bool.or_false];exact⟨trivial,hr⟩
 |i+1=>by
  have ih:=c4T r hr i;have hgo:D8 r false (i+1)=Fst.step (D8 r false i):=rfl;cases hf:j7 r i with
  |none=>
   rw[hf] at ih;have:j7 r (i+1)=none:=a9i hf 1;rw[this,hgo];simp only at ih ⊢;simp[Fst.step,ih]
  |some x=>
   obtain⟨p,out⟩:=x;rw[hf] at ih;obtain⟨h1,h2⟩:=ih;rw[b7L hf,hgo,h1];have hnum:numR (r.drop p)=((r.getD p 0).toNat:Int):=by unfold numR;rw[c02,Nat.add_zero]
   have hbig:big ((r.drop p).drop 1) (numR (r.drop p))=decide (¬ (p+1+(r.getD p 0).toNat<=r.length∨r.length<p+1/\(r.getD p 0).toNat=0)):=by
    unfold big;rw[hnum];refine decide_eq_decide.2 ?_
    simp only[List.length_drop];omega
   have hemp:(r.drop p).isEmpty=decide (¬p<r.length):=by
    rw[Bool.eq_iff_iff,List.isEmpty_iff,decide_eq_true_eq,List.drop_eq_nil_iff];omega
   simp only[Fst.step];rw[hbig,hemp];by_cases hc:p<r.length/\p+1+(r.getD p 0).toNat<=r.length
   ·rw[if_pos hc];simp only;have e1:decide (¬p<r.length)=false:=decide_eq_false (by omega)
    have e2:decide (¬ (p+1+(r.getD p 0).toNat<=r.length∨r.length<p+1/\(r.getD p 0).toNat=0))=false:=decide_eq_false (by omega)
    rw[e1,e2];have hbig':big ((r.drop p).drop 1) (numR (r.drop p))=false:=by rw[hbig,e2]
    unfold O5 P7;rw[hbig'];simp only[Bool.false_eq_true,if_false,Bool.or_false];refine⟨?_,hc.2⟩
    rw[hnum,Int.toNat_natCast,List.drop_drop,List.drop_drop,List.drop_take,show p+1+(r.getD p 0).toNat- (p+1)=(r.getD p 0).toNat by omega,List.drop_drop,Nat.add_assoc]
   ·rw[if_neg hc];simp only;rw[Bool.or_eq_true,Bool.or_eq_true];by_cases hp:p<r.length
    ·exact .inr (decide_eq_true (by omega))
    ·exact .inl (.inr (decide_eq_true hp))
theorem a8D(l:List UInt8):∀i,(D8 l true i).fl=true
 |0=>by simp[D8,Fst.go,fs0]
 |i+1=>by
  have:=a8D l i;simp only[D8] at this ⊢;simp[Fst.go,Fst.step,this]
theorem b4R(fl:Bool):∀i,(D8 [] fl i).fl=true
 |0=>by simp[D8,Fst.go,fs0]
 |i+1=>by
  have:=b4R fl i;simp only[D8] at this ⊢;simp[Fst.go,Fst.step,this]
noncomputable def rpQ(x:List UInt8):Pg:=⟨be ((P7 x 4).drop 2),(U1 (O5 x 4) (false||big x 4)).out⟩
noncomputable def a4x(no:Int)(x:List UInt8):Bool:=(!(!(U1 (O5 x 4) (false||big x 4)).fl&&(U1 (O5 x 4) (false||big x 4)).l.isEmpty)||(((P7 x 4).getD 0 0).toNat:Int) !=112||IntKind.i64.wrap (((P7 x 4).getD 1 0).toNat:Int) !=no)
theorem d3l(no:Int)(b:List UInt8)(hu:T8 b=true):(a4x no (X5 b)|| !C8 (rpQ (X5 b)))= !(J0 no b).2/\((J0 no b).2=true->rpQ (X5 b)=(J0 no b).1):=by
 have hr:J0 no b=if a0J no (X5 b) then(pgX (X5 b),(T1 ((X5 b).drop 4)).isSome&&C8 (pgX (X5 b))) else(⟨0,[]⟩,false):=by unfold J0;rw[hu,Bool.true_and]
 generalize X5 b=x at hr;rw[hr];by_cases h5:5<=x.length
 ·have hbig:big x 4=false:=decide_eq_false (by omega)
  have hR:O5 x 4=x.drop 4:=by unfold O5;rw[hbig];rfl
  have hA:P7 x 4=x.take 4:=by unfold P7;rw[hbig];rfl
  have h0:(x.take 4).getD 0 0=x.getD 0 0:=by simp[List.getD_eq_getElem?_getD,List.getElem?_take]
  have h1:(x.take 4).getD 1 0=x.getD 1 0:=by simp[List.getD_eq_getElem?_getD,List.getElem?_take]
  have h2:(x.take 4).drop 2=(x.drop 2).take 2:=by rw[List.drop_take]
  have hq:rpQ x=⟨be ((x.drop 2).take 2),(U1 (x.drop 4) false).out⟩:=by unfold rpQ;rw[hR,hA,hbig,h2];rfl
  have hb:a4x no x=(!(!(U1 (x.drop 4) false).fl&&(U1 (x.drop 4) false).l.isEmpty)||((x.getD 0 0).toNat:Int) !=112||((x.getD 1 0).toNat:Int) !=no):=by unfold a4x;rw[hR,hA,hbig,h0,h1,i6];rfl
  have hhd:a0J no x= !(((x.getD 0 0).toNat:Int) !=112||((x.getD 1 0).toNat:Int) !=no):=by
   unfold a0J;rw[Bool.eq_iff_iff];simp only[Bool.and_eq_true,decide_eq_true_eq,beq_iff_eq,Bool.not_eq_true',Bool.or_eq_false_iff,bne_eq_false_iff_eq];have:x.getD 0 0=112↔((x.getD 0 0).toNat:Int)=112:=by
    rw[←UInt8.toNat_inj];exact⟨fun h=>by rw[h];rfl,fun h=>by have:((112:UInt8).toNat:Int)=112:=rfl;omega⟩
   rw[this];exact⟨fun h=>h.2,fun h=>⟨h5,h⟩⟩
  have hlen:0<(x.drop 4).length:=by rw[List.length_drop];omega
  have hfs:=c4T (x.drop 4) hlen (K7 (x.drop 4));have hcn:(numR (x.drop 4)).toNat=K7 (x.drop 4):=by unfold numR K7;exact Int.toNat_natCast _
  have hend:U1 (x.drop 4) false=D8 (x.drop 4) false (K7 (x.drop 4)):=by unfold U1;rw[hcn]
  have hall:T1 (x.drop 4)=if K7 (x.drop 4)>100 then none else match j7 (x.drop 4) (K7 (x.drop 4)) with
    |some (p,out)=>if p=(x.drop 4).length then some out else none
    |none=>none:=by
   unfold T1;by_cases hc:K7 (x.drop 4)>100
   ·rw[if_pos (.inr hc),if_pos hc]
   ·rw[if_neg (by omega),if_neg hc]
    rfl
  rw[hb,hq,hhd,hend];generalize (((x.getD 0 0).toNat:Int) !=112)=d0;generalize (((x.getD 1 0).toNat:Int) !=no)=d1;have hX:∀out,T1 (x.drop 4)=some out->pgX x=⟨be ((x.drop 2).take 2),out⟩:=fun out h=>by unfold pgX;rw[h];rfl
  generalize be ((x.drop 2).take 2)=nn at hX;generalize pgX x=px at hX;generalize hr':x.drop 4=r at hfs hall hX;clear hq hb hhd hR hA h0 h1 h2 hr hend hcn;cases hf:j7 r (K7 r) with
  |none=>
   rw[hf] at hfs hall;simp only at hfs;have hall:T1 r=none:=by rw[hall];split<;>rfl
   rw[hfs,hall];cases d0<;>cases d1<;>simp
  |some y=>
   obtain⟨p,out⟩:=y;rw[hf] at hfs hall;simp only at hfs hall;obtain⟨hfs,hpl⟩:=hfs;rw[hfs];have ho:out.length=K7 r:=a5r hf;by_cases hp:p=r.length
   ·have hem:(r.drop p).isEmpty=true:=by rw[List.isEmpty_iff,List.drop_eq_nil_iff];omega
    by_cases hc:K7 r>100
    ·rw[if_pos hc] at hall;have hpg:C8 ⟨nn,out⟩=false:=decide_eq_false (fun h=>by have:=h.2.2.1;simp only at this;omega)
     simp only[hem,hall,hpg];cases d0<;>cases d1<;>simp
    ·rw[if_neg hc,if_pos hp] at hall;rw[hX out hall];simp only[hem,hall];cases d0<;>cases d1<;>simp
   ·have hem:(r.drop p).isEmpty=false:=by
     rw[Bool.eq_false_iff,ne_eq,List.isEmpty_iff,List.drop_eq_nil_iff];omega
    have hall:T1 r=none:=by rw[hall,if_neg hp];split<;>rfl
    simp only[hem,hall];cases d0<;>cases d1<;>simp
 ·have hh:a0J no x=false:=by unfold a0J;rw[decide_eq_false h5];rfl
  have hbad:(U1 (O5 x 4) (false||big x 4)).fl=true:=by
   by_cases h4:4<=x.length
   ·have hbig:big x 4=false:=decide_eq_false (by omega)
    have hR:O5 x 4=[]:=by unfold O5;rw[hbig];exact List.drop_eq_nil_iff.2 (by show x.length<=4;omega)
    rw[hR];exact b4R _ _
   ·have hbig:big x 4=true:=decide_eq_true (by omega)
    rw[hbig];exact a8D _ _
  have hb:a4x no x=true:=by unfold a4x;rw[hbad];simp
  rw[hb,hh];simp
theorem b2T:Z2 Tryz.prog 214 b3Z:=by
 rintro⟨no,b⟩ (hb:b.length<=1000);have hl:∀(x:List UInt8),(P7 x 4).length=4:=fun x=>by
  unfold P7;split
  ·exact List.length_replicate
  ·rename_i h;have:¬4>(x.length:Int):=by simpa[big] using h
   rw[List.length_take,show(4:Int).toNat=4 from rfl]
   omega
 refine b4K no b ⟨fun h=> ?_,fun _=>⟨b,⟨⟨rfl,trivial⟩,Nat.le_trans hb (by decide)⟩,fun h=> ?_,fun h=>⟨⟨by omega,by omega⟩,⟨by omega,by rw[hl];omega⟩,(P7 (X5 b) 4).drop 2,⟨⟨rfl,trivial⟩,by unfold a5U;rw[List.length_drop,hl];omega⟩,
  fun _=>⟨by omega,by rw[hl];omega⟩,fun _=>⟨by omega,by rw[hl];omega⟩,rpQ (X5 b),fun _=>⟨⟨⟨rfl,⟨rfl,Z9 _ _⟩,trivial⟩,trivial⟩,?_⟩,fun g=> ?_,fun g=> ?_⟩⟩⟩
 ·have:=of_decide_eq_true h;have hb:b.length<=1000:=hb;omega
 ·have hu:T8 b=false:=by simpa using h
  have e2:(J0 no b).2=false:=by unfold J0;rw[hu];rfl
  have e1:F5 no b=⟨0,[]⟩:=by unfold F5;rw[e2];rfl
  have e3:F1 no b=8:=by unfold F1;rw[hu];rfl
  rw[e1,e3];exact⟨⟨rfl,rfl,trivial⟩,rfl,trivial⟩
 ·show(U1 (O5 (X5 b) 4) (false||big (X5 b) 4)).out.length<1000000000000;unfold U1;rw[a4Q];have:=k7 (O5 (X5 b) 4);omega
 ·have hu:T8 b=true:=by simpa using h
  have hq:=(d3l no b hu).1;have e2:(J0 no b).2=false:=by
   have g:(a4x no (X5 b)|| !C8 (rpQ (X5 b)))=true:=g;rw[g] at hq;exact(Bool.not_eq_true' _).mp hq.symm
  have e1:F5 no b=⟨0,[]⟩:=by unfold F5;rw[e2];rfl
  have e3:F1 no b=3:=by unfold F1;rw[hu,e2];rfl
  rw[e1,e3];exact⟨⟨rfl,rfl,trivial⟩,rfl,trivial⟩
 ·have hu:T8 b=true:=by simpa using h
  have hq:=d3l no b hu;have e2:(J0 no b).2=true:=by
   have g:(a4x no (X5 b)|| !C8 (rpQ (X5 b)))=false:=g;rw[g] at hq;exact(Bool.not_eq_false' _).mp hq.1.symm
  have e1:F5 no b=rpQ (X5 b):=by unfold F5;rw[e2,hq.2 e2];rfl
  have e3:F1 no b=0:=by unfold F1;rw[hu,e2];rfl
  rw[e1,e3];exact⟨⟨rfl,⟨rfl,Z9 _ _⟩,trivial⟩,rfl,trivial⟩
end Go.Proofs.YtokaojbaacnngaaGreat

