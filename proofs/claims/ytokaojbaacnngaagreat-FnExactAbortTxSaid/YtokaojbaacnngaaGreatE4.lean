/- A part of the proof. -/
import Derived.Test.YtokaojbaacnngaaGreatE3
namespace Go.Proofs.YtokaojbaacnngaaGreat
set_option maxRecDepth 100000
open Go.SS

structure Pg where
 lsn:Int
 sl:List (List UInt8)
 deriving Inhabited
def Pg.ts(p:Pg):List T:=[.int .i64 p.lsn,B4 p.sl]
def c08(b:Bool):Nat:=match b with|true=>30|false=>160
def P3(b:Bool)(s:List UInt8):Bool:=decide ((s.length:Int)>c08 b)
def fF(b:Bool):List T->Option (T×Option Prop)
 | [.str s]=>some (.bool (P3 b s),none)
 |_=>none
def a6M:Con:=.pure (fF true)
def a87:Con:=.pure (fF false)
theorem a6R(s:List UInt8)(h:
  decide ((s.length:Int)>(30:Int))=P3 true s):
  U3 Tryz.prog 262 [.str s] (.bool (P3 true s)):=
 S3 gN Tryz.func262 Z0 h
theorem a3e:GK 262 a6M:=gk Tryz.func262<|by
 intro args res p h hp;unfold fF at h;split at h
 ·simp only[W8,U0] at h;obtain⟨rfl,rfl⟩:=h;exact a6R _ rfl
 ·cases h
theorem a8r(s:List UInt8)(h:
  decide ((s.length:Int)>(160:Int))=P3 false s):
  U3 Tryz.prog 207 [.str s] (.bool (P3 false s)):=
 S3 gN Tryz.func207 Z0 h
theorem a21:GK 207 a87:=gk Tryz.func207<|by
 intro args res p h hp;unfold fF at h;split at h
 ·simp only[W8,U0] at h;obtain⟨rfl,rfl⟩:=h;exact a8r _ rfl
 ·cases h
def b0k(b:Bool):T:=fnT (match b with|true=>262|false=>207)
def kH:Rl:=⟨List (List UInt8)×Bool,λx=>[B4 x.1,b0k x.2],λx=>.int .i64 (R0 x.1.length λi=>P3 x.2 (x.1.getD i [])),λx=>N3 x.1.length⟩
def b2F:Con:=.rel kH
def a0F(L:List (List UInt8))(b:Bool):Nat->Ann
 |0=>.one (V3 L.length λi=>P3 b (L.getD i [])) (λx=>⟨[(0,B4 L),(1,b0k b),(7,.int .i64 L.length),(8,.int .i64 x.1)],[]⟩) (λx=>L.length-x.1) [] [] (λ_=>Z0)
 |_=>.none
theorem iI:GK 251 b2F:=gk Tryz.func251<|by
 rintro⟨L,b⟩ (hL:L.length<1000000000000);cases b
 ·refine S3 (gC a21 gN) Tryz.func251 (a0F L false) (α:=(∃(x:V3 L.length λ(i:Nat)=>P3 false (L.getD i [])),((Y6 Z5 L L)/\Value.func (Fn.func 207) #[] #[]=Value.func (Fn.func 207) #[] #[]/\(L.length:Int)=(L.length:Int)/\(0:Int)=(x.val:Int)/\True)/\True)/\∀(x:V3 L.length λ(i:Nat)=>P3 false (L.getD i [])),(decide ((x.val:Int)<(L.length:Int))=true->W2 (x.val:Int) L.length/\(P3 false (L.getD (x.val:Int).toNat [])=true->(x.val:Int)=R0 L.length λ(i:Nat)=>P3 false (L.getD i []))/\(P3 false (L.getD (x.val:Int).toNat [])=false->X2 .i64 ((x.val:Int)+(1:Int))/\∃(y:V3 L.length λ(i:Nat)=>P3 false (L.getD i [])),(((Y6 Z5 L L)/\Value.func (Fn.func 207) #[] #[]=Value.func (Fn.func 207) #[] #[]/\(L.length:Int)=(L.length:Int)/\(x.val:Int)+(1:Int)=(y.val:Int)/\True)/\True)/\Lt (L.length-y.val) (L.length-x.val)))/\(decide ((x.val:Int)<(L.length:Int))=false->(-1:Int)=R0 L.length λ(i:Nat)=>P3 false (L.getD i []))) ⟨⟨E8,⟨⟨rfl,λ_ _=>rfl⟩,rfl,rfl,Z9⟩,trivial⟩,λx=>⟨λhc=> ?_,λhc=> ?_⟩⟩
  ·have hlt:=Y1 hc;exact⟨Y3 hlt,λhp=>(L5 hlt hp x.2.2).symm,λhp=>⟨V5 hlt (by omega),x.succ hlt hp,⟨⟨⟨rfl,λ_ _=>rfl⟩,rfl,rfl,Z9⟩,trivial⟩,V3.ext_lt hlt⟩⟩
  ·have hge:=X9 hc;exact(J9 λj hj=>x.2.2 j (vR hj hge)).symm
 ·refine S3 (gC a3e gN) Tryz.func251 (a0F L true) (α:=(∃(x:V3 L.length λ(i:Nat)=>P3 true (L.getD i [])),((Y6 Z5 L L)/\Value.func (Fn.func 262) #[] #[]=Value.func (Fn.func 262) #[] #[]/\(L.length:Int)=(L.length:Int)/\(0:Int)=(x.val:Int)/\True)/\True)/\∀(x:V3 L.length λ(i:Nat)=>P3 true (L.getD i [])),(decide ((x.val:Int)<(L.length:Int))=true->W2 (x.val:Int) L.length/\(P3 true (L.getD (x.val:Int).toNat [])=true->(x.val:Int)=R0 L.length λ(i:Nat)=>P3 true (L.getD i []))/\(P3 true (L.getD (x.val:Int).toNat [])=false->X2 .i64 ((x.val:Int)+(1:Int))/\∃(y:V3 L.length λ(i:Nat)=>P3 true (L.getD i [])),(((Y6 Z5 L L)/\Value.func (Fn.func 262) #[] #[]=Value.func (Fn.func 262) #[] #[]/\(L.length:Int)=(L.length:Int)/\(x.val:Int)+(1:Int)=(y.val:Int)/\True)/\True)/\Lt (L.length-y.val) (L.length-x.val)))/\(decide ((x.val:Int)<(L.length:Int))=false->(-1:Int)=R0 L.length λ(i:Nat)=>P3 true (L.getD i []))) ⟨⟨E8,⟨⟨rfl,λ_ _=>rfl⟩,rfl,rfl,Z9⟩,trivial⟩,λx=>⟨λhc=> ?_,λhc=> ?_⟩⟩
  ·have hlt:=Y1 hc;exact⟨Y3 hlt,λhp=>(L5 hlt hp x.2.2).symm,λhp=>⟨V5 hlt (by omega),x.succ hlt hp,⟨⟨⟨rfl,λ_ _=>rfl⟩,rfl,rfl,Z9⟩,trivial⟩,V3.ext_lt hlt⟩⟩
  ·have hge:=X9 hc;exact(J9 λj hj=>x.2.2 j (vR hj hge)).symm
def kF:Rl:=⟨List (List UInt8)×Bool,λx=>[B4 x.1,b0k x.2],λx=>.bool (anyI x.1.length λi=>P3 x.2 (x.1.getD i [])),λx=>N3 x.1.length⟩
def b2n:Con:=.rel kF
theorem iW:GK 206 b2n:=gk Tryz.func206<|by
 rintro⟨L,b⟩ (hL:L.length<1000000000000);cases b
 ·exact S3 (gC iI gN) Tryz.func206 Z0 (α:=∃(x:kH.ι),(((Y6 Z5 L x.1)/\Value.func (Fn.func 207) #[] #[]=Value.func (Fn.func (match x.2 with|true=>262|false=>207)) #[] #[]/\True)/\N3 x.1.length)/\decide ((R0 x.1.length λ(i:Nat)=>P3 x.2 (x.1.getD i []))≥(0:Int))=anyI L.length λ(i:Nat)=>P3 false (L.getD i [])) ⟨(L,false),⟨⟨⟨rfl,λ_ _=>rfl⟩,Z9⟩,hL⟩,y8 _ _⟩
 ·exact S3 (gC iI gN) Tryz.func206 Z0 (α:=∃(x:kH.ι),(((Y6 Z5 L x.1)/\Value.func (Fn.func 262) #[] #[]=Value.func (Fn.func (match x.2 with|true=>262|false=>207)) #[] #[]/\True)/\N3 x.1.length)/\decide ((R0 x.1.length λ(i:Nat)=>P3 x.2 (x.1.getD i []))≥(0:Int))=anyI L.length λ(i:Nat)=>P3 true (L.getD i [])) ⟨(L,true),⟨⟨⟨rfl,λ_ _=>rfl⟩,Z9⟩,hL⟩,y8 _ _⟩
def bL(p:Pg):Prop:=0<=p.lsn/\p.lsn<=1000/\p.sl.length=4/\∀i,i<p.sl.length->(p.sl.getD i []).length<=30
noncomputable instance(p:Pg):Decidable (bL p):=Classical.propDecidable _
noncomputable def A7(p:Pg):Bool:=decide (bL p)
def PgB(p:Pg):Prop:=N3 p.sl.length
noncomputable def zQ:Rl:=⟨Pg,λp=>[.agg p.ts],λp=>.bool (A7 p),PgB⟩
noncomputable def a70:Con:=.rel zQ
noncomputable def a9H:Con:=.rel zQ
def a8k(p:Pg):Nat->Ann
 |0=>.one (V3 4 λi=>P3 true (p.sl.getD i [])) (λx=>⟨[(1,.ref 0 0 0),(3,.int .i64 x.1)],[some (.arr true 1000000 2 1 λ_=>p.ts)]⟩) (λx=>4-x.1) [.box 0] [.box 0] (λ_=>Z0)
 |_=>.none
def uP:Rl:=⟨Unit,λ_=>[],λ_=>.agg (Pg.ts ⟨0,[[],[],[],[]]⟩),λ_=>True⟩
def a42:Con:=.rel uP
def a4V:Con:=.rel uP
theorem a29(h:
  (Nn (4:Int)/\nP (4:Int) (4:Int)/\I4 16 4 140737488355328/\Lt 4 9223372036854775808)/\Le 4 4/\(0:Int)=(0:Int)/\(4=4/\Z6 4 (λ(x:Nat)=>[T.str []]) (Z5 [[],[],[],[]]))/\True):
  U3 Tryz.prog 213 [] (.agg (Pg.ts ⟨0,[[],[],[],[]]⟩)):=
 S3 gN Tryz.func213 Z0 h
theorem a36(h:
  (Nn (4:Int)/\nP (4:Int) (4:Int)/\I4 16 4 140737488355328/\Lt 4 9223372036854775808)/\Le 4 4/\(0:Int)=(0:Int)/\(4=4/\Z6 4 (λ(x:Nat)=>[T.str []]) (Z5 [[],[],[],[]]))/\True):
  U3 Tryz.prog 201 [] (.agg (Pg.ts ⟨0,[[],[],[],[]]⟩)):=
 S3 gN Tryz.func201 Z0 h
theorem kT{s:List UInt8}:P3 true s=false↔s.length<=30:=by
 unfold P3;rw[tQ];show ¬ (s.length:Int)>((30:Nat):Int)↔_;omega
theorem kQ{s:List UInt8}:P3 false s=false↔s.length<=160:=by
 unfold P3;rw[tQ];show ¬ (s.length:Int)>((160:Nat):Int)↔_;omega
theorem K6{n:Nat}{p:Nat->Bool}:anyI n p=false↔∀i,i<n->p i=false:=by
 rw[Bool.eq_false_iff,ne_eq,O1];constructor
 ·intro h i hi;exact Bool.eq_false_iff.2 λhp=>h ⟨i,hi,hp⟩
 ·rintro h ⟨i,hi,hp⟩;rw[h i hi] at hp;cases hp
theorem b24(p:Pg):A7 p=true↔bL p:=decide_eq_true_iff
theorem sF:GK 216 a70:=gk Tryz.func216<|by
 intro(p:Pg) (hp:p.sl.length<1000000000000);refine S3 (gC N4 (gC iW gN)) Tryz.func216 Z0 (α:=∃(x:kF.ι),((V6 p.lsn (0:Int) (1000:Int)&&(p.sl.length:Int)==(4:Int))=true->((Y6 Z5 p.sl x.1)/\Value.func (Fn.func 262) #[] #[]=Value.func (Fn.func (match x.2 with|true=>262|false=>207)) #[] #[]/\True)/\N3 x.1.length)/\(V6 p.lsn (0:Int) (1000:Int)&&(p.sl.length:Int)==(4:Int)&& !anyI x.1.length λ(i:Nat)=>P3 x.2 (x.1.getD i []))=A7 p) ⟨(p.sl,true),λ_=>⟨⟨Z8,Z9⟩,hp⟩,?_⟩
 rw[Bool.eq_iff_iff,b24];simp only[I3,vO,beq_iff_eq,V6,m5,K6];constructor
 ·rintro⟨⟨⟨h1,h2⟩,h3⟩,h4⟩;exact⟨h1,h2,by omega,λi hi=>kT.1 (h4 i hi)⟩
 ·rintro⟨h1,h2,h3,h4⟩;exact⟨⟨⟨h1,h2⟩,by omega⟩,λi hi=>kT.2 (h4 i hi)⟩
theorem b7r{p:Pg}(h:¬bL p):false=A7 p:=(tW h).symm
theorem nD:GK 139 a9H:=gk Tryz.func139<|by
 intro(p:Pg) (hp:p.sl.length<1000000000000);refine S3 (gC o8 gN) Tryz.func139 (a8k p) (α:=((!V6 p.lsn (0:Int) (1000:Int)||(p.sl.length:Int) !=(4:Int))=true->false=A7 p)/\((!V6 p.lsn (0:Int) (1000:Int)||(p.sl.length:Int) !=(4:Int))=false->(∃(x:V3 4 λ(i:Nat)=>P3 true (p.sl.getD i [])),((0=0/\0=0)/\(0:Int)=(x.val:Int)/\True)/\(1=1/\1=1/\p.lsn=p.lsn/\(Y6 Z5 p.sl p.sl)/\True)/\True)/\∀(x:V3 4 λ(i:Nat)=>P3 true (p.sl.getD i [])),(decide ((x.val:Int)<(4:Int))=true->W2 (x.val:Int) p.sl.length/\(decide ((↑(p.sl.getD (x.val:Int).toNat []).length:Int)>(30:Int))=true->false=A7 p)/\(decide ((↑(p.sl.getD (x.val:Int).toNat []).length:Int)>(30:Int))=false->X2 .i64 ((x.val:Int)+(1:Int))/\∃(y:V3 4 λ(i:Nat)=>P3 true (p.sl.getD i [])),(((0=0/\0=0)/\(x.val:Int)+(1:Int)=(y.val:Int)/\True)/\(1=1/\1=1/\p.lsn=p.lsn/\(Y6 Z5 p.sl p.sl)/\True)/\True)/\Lt (4-y.val) (4-x.val)))/\(decide ((x.val:Int)<(4:Int))=false->true=A7 p))) ⟨λh=>b7r ?_,λh=> ?_⟩
 ·rintro⟨h1,h2,h3,_⟩;simp[V6] at h;omega
 simp[V6] at h;refine⟨⟨E8,⟨Z7,Z9⟩,⟨rfl,rfl,rfl,X8⟩,trivial⟩,λx=>⟨λhc=> ?_,λhc=> ?_⟩⟩
 ·have hlt:x.val<4:=by have:=E9 hc;omega
  refine⟨⟨by omega,by omega⟩,λhb=>b7r ?_,λhb=>⟨Z4 (by omega),x.succ hlt hb,⟨⟨Z7,Z9⟩,⟨rfl,rfl,rfl,X8⟩,trivial⟩,V3.ext_lt hlt⟩⟩
  rintro⟨_,_,_,h4⟩;have:=h4 x.val (by omega)
  rw[z7,m5] at hb;omega
 ·refine(iO ⟨h.1.1,h.1.2,by omega,λi hi=> ?_⟩).symm
  exact kT.1 (x.2.2 i (by have:=yG hc;omega))
theorem mP:Z6 4 (λ_=>[T.str []]) (Z5 [[],[],[],[]]):=by
 intro i hi
 match i,hi with
 |0,_=>rfl
 |1,_=>rfl
 |2,_=>rfl
 |3,_=>rfl
theorem bE:GK 213 a42:=gk Tryz.func213<|λ_ _=>a29 ⟨⟨by unfold Nn;omega,by unfold nP;omega,by unfold I4;omega,by unfold Lt;omega⟩,V1 _,rfl,⟨rfl,mP⟩,trivial⟩
theorem a1v:GK 201 a4V:=gk Tryz.func201<|λ_ _=>a36 ⟨⟨by unfold Nn;omega,by unfold nP;omega,by unfold I4;omega,by unfold Lt;omega⟩,V1 _,rfl,⟨rfl,mP⟩,trivial⟩
def xU(no:Int)(x:List UInt8):Bool:=decide (5<=x.length)&&(x.getD 0 0==112&&decide (((x.getD 1 0).toNat:Int)=no))
def pgX(x:List UInt8):Pg:=⟨be ((x.drop 2).take 2),(R6 (x.drop 4)).getD []⟩
noncomputable def K0(no:Int)(b:List UInt8):Pg×Bool:=if T0 b&&xU no (X4 b) then(pgX (X4 b),(R6 ((X4 b).drop 4)).isSome&&A7 (pgX (X4 b))) else(⟨0,[]⟩,false)
noncomputable def Q9(no:Int)(b:List UInt8):Pg:=if(K0 no b).2 then(K0 no b).1 else⟨0,[]⟩
noncomputable def M5(no:Int)(b:List UInt8):Int:=if T0 b then(if(K0 no b).2 then 0 else 3) else 8
def RdB(b:List UInt8):Prop:=b.length<=1000
noncomputable def mE:Rl:=⟨Int×List UInt8,λx=>[.int .i64 x.1,.bys x.2],λx=>.tup [.agg (Q9 x.1 x.2).ts,.int .i64 (M5 x.1 x.2)],λx=>RdB x.2⟩
noncomputable def a4s:Con:=.rel mE
noncomputable def iC:Rl:=⟨Int×List UInt8,λx=>[.int .i64 x.1,.str x.2],λx=>.tup [.agg (K0 x.1 x.2).1.ts,.bool (K0 x.1 x.2).2],λx=>RdB x.2⟩
noncomputable def a8U:Con:=.rel iC
theorem a2o:GK 202 a8U:=gk Tryz.func202<|by
 rintro⟨no,b⟩ (hb:b.length<=1000);have hx:(X4 b).length<=1000:=by
  unfold X4;split
  ·rw[List.length_take];omega
  ·exact S2 _
 have hh:(!T0 b||decide (((X4 b).length:Int)<5)||(((X4 b).getD 0 0).toNat:Int) !=112||IntKind.i64.wrap (((X4 b).getD 1 0).toNat:Int) !=no)= !(T0 b&&xU no (X4 b)):=by
  rw[xX];unfold xU;have:((X4 b).getD 0 0==112)=((((X4 b).getD 0 0).toNat:Int)==112):=by
   rw[Bool.eq_iff_iff,beq_iff_eq,beq_iff_eq,←UInt8.toNat_inj];exact⟨λh=>by rw[h];rfl,λh=>by have:((112:UInt8).toNat:Int)=112:=rfl;omega⟩
  rw[this];have h5:decide (((X4 b).length:Int)<5)= !decide (5<=(X4 b).length):=by rw[←decide_not];exact decide_eq_decide.2 (by omega)
  have hn:((((X4 b).getD 1 0).toNat:Int) !=no)= !decide ((((X4 b).getD 1 0).toNat:Int)=no):=by rw[Bool.eq_iff_iff];simp
  rw[h5,hn,bne];cases T0 b<;>cases decide (5<=(X4 b).length)<;>cases((((X4 b).getD 0 0).toNat:Int)==112)<;>simp
 refine S3 (gC qS (gC lS (gC a04 (gC nD gN)))) Tryz.func202 Z0 (α:=∃(x:a1m.ι),((b=x/\True)/\I2 x)/\((!T0 x||decide ((↑(X4 x).length:Int)<(5:Int)))=false->W2 (0:Int) (X4 x).length)/\((!T0 x||decide ((↑(X4 x).length:Int)<(5:Int))||(↑((X4 x).getD 0 (0:UInt8)).toNat:Int) !=(112:Int))=false->W2 (1:Int) (X4 x).length)/\((!T0 x||decide ((↑(X4 x).length:Int)<(5:Int))||(↑((X4 x).getD 0 (0:UInt8)).toNat:Int) !=(112:Int)||IntKind.i64.wrap (↑((X4 x).getD 1 (0:UInt8)).toNat:Int) !=no)=true->((0:Int)=(K0 no b).1.lsn/\(K0 no b).1.sl.length=0/\True)/\false=(K0 no b).2/\True)/\((!T0 x||decide ((↑(X4 x).length:Int)<(5:Int))||(↑((X4 x).getD 0 (0:UInt8)).toNat:Int) !=(112:Int)||IntKind.i64.wrap (↑((X4 x).getD 1 (0:UInt8)).toNat:Int) !=no)=false->jR (4:Int) (X4 x).length/\∃(x_1:gI.ι),((List.drop 4 (X4 x)=x_1/\True)/\I2 x_1)/\b4I (2:Int) (4:Int) (X4 x).length/\∃(x_2:eQ.ι),((List.drop 2 (List.take 4 (X4 x))=x_2/\True)/\oN x_2)/\∃(x:zQ.ι),((R6 x_1).isSome=true->(((↑(be x_2):Int)=x.lsn/\(Y6 Z5 ((R6 x_1).getD []) x.sl)/\True)/\True)/\PgB x)/\((↑(be x_2):Int)=(K0 no b).1.lsn/\(Y6 Z5 ((R6 x_1).getD []) (K0 no b).1.sl)/\True)/\((R6 x_1).isSome&&A7 x)=(K0 no b).2/\True)) ⟨b,⟨Z9,Nat.le_trans hb (by decide)⟩,λh=> ?_,λh=> ?_,λh=> ?_,λh=> ?_⟩
 ·simp only[tU,tQ] at h;exact⟨by omega,by omega⟩
 ·simp only[tU,tQ] at h;exact⟨by omega,by omega⟩
 ·rw[hh] at h;have h:(T0 b&&xU no (X4 b))=false:=(vO _).mp h;have e:K0 no b=(⟨0,[]⟩,false):=by unfold K0;rw[h];rfl
  rw[e];exact⟨⟨rfl,Z9⟩,Z9⟩
 ·rw[hh] at h;have h:(T0 b&&xU no (X4 b))=true:=(xE _).mp h;have h5:5<=(X4 b).length:=by simp only[xU,I3,m5] at h;exact h.2.1
  have e:K0 no b=(pgX (X4 b),(R6 ((X4 b).drop 4)).isSome&&A7 (pgX (X4 b))):=by unfold K0;rw[h];rfl
  rw[e];refine⟨⟨by omega,by omega⟩,(X4 b).drop 4,⟨Z9,by unfold I2;rw[List.length_drop];omega⟩,⟨by omega,by omega,by omega⟩,((X4 b).drop 2).take 2,⟨⟨?_,trivial⟩,by unfold oN;rw[List.length_take];omega⟩,pgX (X4 b),
   λ_=>⟨⟨⟨rfl,X8⟩,trivial⟩,?_⟩,⟨rfl,X8⟩,Z9⟩
  ·rw[List.drop_take]
  ·show((R6 ((X4 b).drop 4)).getD []).length<1000000000000;unfold R6;split
   ·decide
   ·split
    ·rename_i p out ho;split
     ·have:=nL ho;have:=yX ((X4 b).drop 4) 0;simp only[Option.getD_some,I9] at*;omega
     ·decide
    ·decide
theorem a73(r:List UInt8)(p i:Nat):(r.drop p).getD i 0=r.getD (p+i) 0:=by
 simp[N9]
theorem a95(r:List UInt8)(hr:0<r.length):∀i,match d5 r i with
  |some (p,out)=>K5 r false i=⟨r.drop p,false,out⟩/\p<=r.length
  |none=>(K5 r false i).fl=true
 |0=>by
  have:r.isEmpty=false:=by cases r with
   |nil=>simp at hr
   |cons=>rfl
  simp only[d5,K5,Fst.go,fs0,this,Bool.or_false];exact⟨trivial,hr⟩
 |i+1=>by
  have ih:=a95 r hr i;have hgo:K5 r false (i+1)=Fst.step (K5 r false i):=rfl;cases hf:d5 r i with
  |none=>
   rw[hf] at ih;have:d5 r (i+1)=none:=dK hf 1;rw[this,hgo];simp only at ih ⊢;simp[Fst.step,ih]
  |some x=>
   obtain⟨p,out⟩:=x;rw[hf] at ih;obtain⟨h1,h2⟩:=ih;rw[a51 hf,hgo,h1];have hnum:numR (r.drop p)=((r.getD p 0).toNat:Int):=by unfold numR;rw[a73,Nat.add_zero]
   have hbig:big ((r.drop p).drop 1) (numR (r.drop p))=decide (¬ (p+1+(r.getD p 0).toNat<=r.length∨r.length<p+1/\(r.getD p 0).toNat=0)):=by
    unfold big;rw[hnum];refine decide_eq_decide.2 ?_
    simp only[List.length_drop];omega
   have hemp:(r.drop p).isEmpty=decide (¬p<r.length):=by
    rw[Bool.eq_iff_iff,List.isEmpty_iff,m5,List.drop_eq_nil_iff];omega
   simp only[Fst.step];rw[hbig,hemp];by_cases hc:p<r.length/\p+1+(r.getD p 0).toNat<=r.length
   ·rw[if_pos hc];simp only;have e1:decide (¬p<r.length)=false:=tW (by omega)
    have e2:decide (¬ (p+1+(r.getD p 0).toNat<=r.length∨r.length<p+1/\(r.getD p 0).toNat=0))=false:=tW (by omega)
    rw[e1,e2];have hbig':big ((r.drop p).drop 1) (numR (r.drop p))=false:=by rw[hbig,e2]
    unfold N7 R7;rw[hbig'];simp only[Bool.false_eq_true,if_false,Bool.or_false];refine⟨?_,hc.2⟩
    rw[hnum,z7,List.drop_drop,List.drop_drop,List.drop_take,show p+1+(r.getD p 0).toNat- (p+1)=(r.getD p 0).toNat by omega,List.drop_drop,Nat.add_assoc]
   ·rw[if_neg hc];simp only;rw[nO,nO];by_cases hp:p<r.length
    ·exact .inr (iO (by omega))
    ·exact .inl (.inr (iO hp))
theorem cY(l:List UInt8):∀i,(K5 l true i).fl=true
 |0=>by simp[K5,Fst.go,fs0]
 |i+1=>by
  have:=cY l i;simp only[K5] at this ⊢;simp[Fst.go,Fst.step,this]
theorem a3v(fl:Bool):∀i,(K5 [] fl i).fl=true
 |0=>by simp[K5,Fst.go,fs0]
 |i+1=>by
  have:=a3v fl i;simp only[K5] at this ⊢;simp[Fst.go,Fst.step,this]
noncomputable def rpQ(x:List UInt8):Pg:=⟨be ((R7 x 4).drop 2),(U8 (N7 x 4) (false||big x 4)).out⟩
noncomputable def rE(no:Int)(x:List UInt8):Bool:=(!(!(U8 (N7 x 4) (false||big x 4)).fl&&(U8 (N7 x 4) (false||big x 4)).l.isEmpty)||(((R7 x 4).getD 0 0).toNat:Int) !=112||IntKind.i64.wrap (((R7 x 4).getD 1 0).toNat:Int) !=no)
theorem a5A(no:Int)(b:List UInt8)(hu:T0 b=true):(rE no (X4 b)|| !A7 (rpQ (X4 b)))= !(K0 no b).2/\((K0 no b).2=true->rpQ (X4 b)=(K0 no b).1):=by
 have hr:K0 no b=if xU no (X4 b) then(pgX (X4 b),(R6 ((X4 b).drop 4)).isSome&&A7 (pgX (X4 b))) else(⟨0,[]⟩,false):=by unfold K0;rw[hu,Bool.true_and]
 generalize X4 b=x at hr;rw[hr];by_cases h5:5<=x.length
 ·have hbig:big x 4=false:=tW (by omega)
  have hR:N7 x 4=x.drop 4:=by unfold N7;rw[hbig];rfl
  have hA:R7 x 4=x.take 4:=by unfold R7;rw[hbig];rfl
  have h0:(x.take 4).getD 0 0=x.getD 0 0:=by simp[N9,List.getElem?_take]
  have h1:(x.take 4).getD 1 0=x.getD 1 0:=by simp[N9,List.getElem?_take]
  have h2:(x.take 4).drop 2=(x.drop 2).take 2:=by rw[List.drop_take]
  have hq:rpQ x=⟨be ((x.drop 2).take 2),(U8 (x.drop 4) false).out⟩:=by unfold rpQ;rw[hR,hA,hbig,h2];rfl
  have hb:rE no x=(!(!(U8 (x.drop 4) false).fl&&(U8 (x.drop 4) false).l.isEmpty)||((x.getD 0 0).toNat:Int) !=112||((x.getD 1 0).toNat:Int) !=no):=by unfold rE;rw[hR,hA,hbig,h0,h1,xX];rfl
  have hhd:xU no x= !(((x.getD 0 0).toNat:Int) !=112||((x.getD 1 0).toNat:Int) !=no):=by
   unfold xU;rw[Bool.eq_iff_iff];simp only[I3,m5,beq_iff_eq,vO,tU,bne_eq_false_iff_eq];have:x.getD 0 0=112↔((x.getD 0 0).toNat:Int)=112:=by
    rw[←UInt8.toNat_inj];exact⟨λh=>by rw[h];rfl,λh=>by have:((112:UInt8).toNat:Int)=112:=rfl;omega⟩
   rw[this];exact⟨λh=>h.2,λh=>⟨h5,h⟩⟩
  have hlen:0<(x.drop 4).length:=by rw[List.length_drop];omega
  have hfs:=a95 (x.drop 4) hlen (I9 (x.drop 4));have hcn:(numR (x.drop 4)).toNat=I9 (x.drop 4):=by unfold numR I9;exact z7 _
  have hend:U8 (x.drop 4) false=K5 (x.drop 4) false (I9 (x.drop 4)):=by unfold U8;rw[hcn]
  have hall:R6 (x.drop 4)=if I9 (x.drop 4)>100 then none else match d5 (x.drop 4) (I9 (x.drop 4)) with
    |some (p,out)=>if p=(x.drop 4).length then some out else none
    |none=>none:=by
   unfold R6;by_cases hc:I9 (x.drop 4)>100
   ·rw[if_pos (.inr hc),if_pos hc]
   ·rw[if_neg (by omega),if_neg hc]
    rfl
  rw[hb,hq,hhd,hend];generalize (((x.getD 0 0).toNat:Int) !=112)=d0;generalize (((x.getD 1 0).toNat:Int) !=no)=d1;have hX:∀out,R6 (x.drop 4)=some out->pgX x=⟨be ((x.drop 2).take 2),out⟩:=λout h=>by unfold pgX;rw[h];rfl
  generalize be ((x.drop 2).take 2)=nn at hX;generalize pgX x=px at hX;generalize hr':x.drop 4=r at hfs hall hX;clear hq hb hhd hR hA h0 h1 h2 hr hend hcn;cases hf:d5 r (I9 r) with
  |none=>
   rw[hf] at hfs hall;simp only at hfs;have hall:R6 r=none:=by rw[hall];split<;>rfl
   rw[hfs,hall];cases d0<;>cases d1<;>simp
  |some y=>
   obtain⟨p,out⟩:=y;rw[hf] at hfs hall;simp only at hfs hall;obtain⟨hfs,hpl⟩:=hfs;rw[hfs];have ho:out.length=I9 r:=nL hf;by_cases hp:p=r.length
   ·have hem:(r.drop p).isEmpty=true:=by rw[List.isEmpty_iff,List.drop_eq_nil_iff];omega
    by_cases hc:I9 r>100
    ·rw[if_pos hc] at hall;have hpg:A7 ⟨nn,out⟩=false:=tW (λh=>by have:=h.2.2.1;simp only at this;omega)
     simp only[hem,hall,hpg];cases d0<;>cases d1<;>simp
    ·rw[if_neg hc,if_pos hp] at hall;rw[hX out hall];simp only[hem,hall];cases d0<;>cases d1<;>simp
   ·have hem:(r.drop p).isEmpty=false:=by
     rw[Bool.eq_false_iff,ne_eq,List.isEmpty_iff,List.drop_eq_nil_iff];omega
    have hall:R6 r=none:=by rw[hall,if_neg hp];split<;>rfl
    simp only[hem,hall];cases d0<;>cases d1<;>simp
 ·have hh:xU no x=false:=by unfold xU;rw[tW h5];rfl
  have hbad:(U8 (N7 x 4) (false||big x 4)).fl=true:=by
   by_cases h4:4<=x.length
   ·have hbig:big x 4=false:=tW (by omega)
    have hR:N7 x 4=[]:=by unfold N7;rw[hbig];exact List.drop_eq_nil_iff.2 (by show x.length<=4;omega)
    rw[hR];exact a3v _ _
   ·have hbig:big x 4=true:=iO (by omega)
    rw[hbig];exact cY _ _
  have hb:rE no x=true:=by unfold rE;rw[hbad];simp
  rw[hb,hh];simp
theorem aE:GK 214 a4s:=gk Tryz.func214<|by
 rintro⟨no,b⟩ (hb:b.length<=1000);have hl:∀(x:List UInt8),(R7 x 4).length=4:=λx=>by
  unfold R7;split
  ·exact List.length_replicate
  ·rename_i h;have:¬4>(x.length:Int):=by simpa[big] using h
   rw[List.length_take,show(4:Int).toNat=4 from rfl]
   omega
 refine S3 (gC uY (gC rA (gC a4A (gC iH (gC uG (gC sF gN)))))) Tryz.func214 Z0 (α:=(decide ((b.length:Int)>(65536:Int))=true->((0:Int)=(Q9 no b).lsn/\(Q9 no b).sl.length=0/\True)/\(2:Int)=M5 no b/\True)/\(decide ((b.length:Int)>(65536:Int))=false->∃(x:vY.ι),((b=x/\True)/\I2 x)/\((!T0 x)=true->((0:Int)=(Q9 no b).lsn/\(Q9 no b).sl.length=0/\True)/\(8:Int)=M5 no b/\True)/\((!T0 x)=false->wX (4:Int)/\jR (2:Int) (R7 (X4 x) (4:Int)).length/\∃(x_1:a6e.ι),((List.drop 2 (R7 (X4 x) (4:Int))=x_1/\True)/\oN x_1)/\((!(!(U8 (N7 (X4 x) (4:Int)) (false||big (X4 x) (4:Int))).fl&&(U8 (N7 (X4 x) (4:Int)) (false||big (X4 x) (4:Int))).l.isEmpty))=false->W2 (0:Int) (R7 (X4 x) (4:Int)).length)/\((!(!(U8 (N7 (X4 x) (4:Int)) (false||big (X4 x) (4:Int))).fl&&(U8 (N7 (X4 x) (4:Int)) (false||big (X4 x) (4:Int))).l.isEmpty)||(↑((R7 (X4 x) (4:Int)).getD 0 (0:UInt8)).toNat:Int) !=(112:Int))=false->W2 (1:Int) (R7 (X4 x) (4:Int)).length)/\∃(x_2:zQ.ι),((!(!(U8 (N7 (X4 x) (4:Int)) (false||big (X4 x) (4:Int))).fl&&(U8 (N7 (X4 x) (4:Int)) (false||big (X4 x) (4:Int))).l.isEmpty)||(↑((R7 (X4 x) (4:Int)).getD 0 (0:UInt8)).toNat:Int) !=(112:Int)||IntKind.i64.wrap (↑((R7 (X4 x) (4:Int)).getD 1 (0:UInt8)).toNat:Int) !=no)=false->(((↑(be x_1):Int)=x_2.lsn/\(Y6 Z5 (U8 (N7 (X4 x) (4:Int)) (false||big (X4 x) (4:Int))).out x_2.sl)/\True)/\True)/\PgB x_2)/\((!(!(U8 (N7 (X4 x) (4:Int)) (false||big (X4 x) (4:Int))).fl&&(U8 (N7 (X4 x) (4:Int)) (false||big (X4 x) (4:Int))).l.isEmpty)||(↑((R7 (X4 x) (4:Int)).getD 0 (0:UInt8)).toNat:Int) !=(112:Int)||IntKind.i64.wrap (↑((R7 (X4 x) (4:Int)).getD 1 (0:UInt8)).toNat:Int) !=no|| !A7 x_2)=true->((0:Int)=(Q9 no b).lsn/\(Q9 no b).sl.length=0/\True)/\(3:Int)=M5 no b/\True)/\((!(!(U8 (N7 (X4 x) (4:Int)) (false||big (X4 x) (4:Int))).fl&&(U8 (N7 (X4 x) (4:Int)) (false||big (X4 x) (4:Int))).l.isEmpty)||(↑((R7 (X4 x) (4:Int)).getD 0 (0:UInt8)).toNat:Int) !=(112:Int)||IntKind.i64.wrap (↑((R7 (X4 x) (4:Int)).getD 1 (0:UInt8)).toNat:Int) !=no|| !A7 x_2)=false->((↑(be x_1):Int)=(Q9 no b).lsn/\(Y6 Z5 (U8 (N7 (X4 x) (4:Int)) (false||big (X4 x) (4:Int))).out (Q9 no b).sl)/\True)/\(0:Int)=M5 no b/\True)))) ⟨λh=> ?_,λ_=>⟨b,⟨Z9,Nat.le_trans hb (by decide)⟩,λh=> ?_,λh=>⟨⟨by omega,by omega⟩,⟨by omega,by rw[hl];omega⟩,(R7 (X4 b) 4).drop 2,⟨⟨rfl,trivial⟩,by unfold oN;rw[List.length_drop,hl];omega⟩,
  λ_=>⟨by omega,by rw[hl];omega⟩,λ_=>⟨by omega,by rw[hl];omega⟩,rpQ (X4 b),λ_=>⟨⟨⟨rfl,X8⟩,trivial⟩,?_⟩,λg=> ?_,λg=> ?_⟩⟩⟩
 ·have:=E9 h;have hb:b.length<=1000:=hb;omega
 ·have hu:T0 b=false:=by simpa using h
  have e2:(K0 no b).2=false:=by unfold K0;rw[hu];rfl
  have e1:Q9 no b=⟨0,[]⟩:=by unfold Q9;rw[e2];rfl
  have e3:M5 no b=8:=by unfold M5;rw[hu];rfl
  rw[e1,e3];exact⟨⟨rfl,Z9⟩,Z9⟩
 ·show(U8 (N7 (X4 b) 4) (false||big (X4 b) 4)).out.length<1000000000000;unfold U8;rw[wC];have:=z4 (N7 (X4 b) 4);omega
 ·have hu:T0 b=true:=by simpa using h
  have hq:=(a5A no b hu).1;have e2:(K0 no b).2=false:=by
   have g:(rE no (X4 b)|| !A7 (rpQ (X4 b)))=true:=g;rw[g] at hq;exact(vO _).mp hq.symm
  have e1:Q9 no b=⟨0,[]⟩:=by unfold Q9;rw[e2];rfl
  have e3:M5 no b=3:=by unfold M5;rw[hu,e2];rfl
  rw[e1,e3];exact⟨⟨rfl,Z9⟩,Z9⟩
 ·have hu:T0 b=true:=by simpa using h
  have hq:=a5A no b hu;have e2:(K0 no b).2=true:=by
   have g:(rE no (X4 b)|| !A7 (rpQ (X4 b)))=false:=g;rw[g] at hq;exact(xE _).mp hq.1.symm
  have e1:Q9 no b=rpQ (X4 b):=by unfold Q9;rw[e2,hq.2 e2];rfl
  have e3:M5 no b=0:=by unfold M5;rw[hu,e2];rfl
  rw[e1,e3];exact⟨⟨rfl,X8⟩,Z9⟩
end Go.Proofs.YtokaojbaacnngaaGreat

