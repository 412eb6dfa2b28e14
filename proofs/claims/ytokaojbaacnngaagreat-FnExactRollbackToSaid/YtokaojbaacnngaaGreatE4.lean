/- A part of the proof. -/
import Derived.Test.YtokaojbaacnngaaGreatE3
namespace Go.Proofs.YtokaojbaacnngaaGreat
set_option maxRecDepth 100000
open Go.SS

structure Pg where
 lsn:Int
 sl:List (List UInt8)
 deriving Inhabited
def Pg.ts(p:Pg):List T:=[.int .i64 p.lsn,C0 p.sl]
def b9R(b:Bool):Nat:=match b with|true=>30|false=>160
def P8(b:Bool)(s:List UInt8):Bool:=decide ((s.length:Int)>b9R b)
def fW(b:Bool):List T->Option (T×Option Prop)
 | [.str s]=>some (.bool (P8 b s),none)
 |_=>none
def a8l:Con:=.pure (fW true)
def a7Y:Con:=.pure (fW false)
theorem a6J(s:List UInt8)(h:
  decide ((s.length:Int)>(30:Int))=P8 true s):
  U6 Tryz.prog 262 [.str s] (.bool (P8 true s)):=
 S6 gN Tryz.func262 Z0 h
theorem a3e:GK 262 a8l:=gk Tryz.func262<|by
 intro args res p h hp;unfold fW at h;split at h
 ·simp only[X1,U4] at h;obtain⟨rfl,rfl⟩:=h;exact a6J _ rfl
 ·cases h
theorem a8a(s:List UInt8)(h:
  decide ((s.length:Int)>(160:Int))=P8 false s):
  U6 Tryz.prog 207 [.str s] (.bool (P8 false s)):=
 S6 gN Tryz.func207 Z0 h
theorem a3p:GK 207 a7Y:=gk Tryz.func207<|by
 intro args res p h hp;unfold fW at h;split at h
 ·simp only[X1,U4] at h;obtain⟨rfl,rfl⟩:=h;exact a8a _ rfl
 ·cases h
def b1N(b:Bool):T:=fnT (match b with|true=>262|false=>207)
def mJ:Rl:=⟨List (List UInt8)×Bool,λx=>[C0 x.1,b1N x.2],λx=>.int .i64 (M3 x.1.length λi=>P8 x.2 (x.1.getD i [])),λx=>M7 x.1.length⟩
def b0r:Con:=.rel mJ
def bM(L:List (List UInt8))(b:Bool):Nat->Ann
 |0=>.one (V4 L.length λi=>P8 b (L.getD i [])) (λx=>⟨[(0,C0 L),(1,b1N b),(7,.int .i64 L.length),(8,.int .i64 x.1)],[]⟩) (λx=>L.length-x.1) [] [] (λ_=>Z0)
 |_=>.none
theorem iS:GK 251 b0r:=gk Tryz.func251<|by
 rintro⟨L,b⟩ (hL:L.length<1000000000000);cases b
 ·refine S6 (gC a3p gN) Tryz.func251 (bM L false) (α:=(∃(x:V4 L.length λ(i:Nat)=>P8 false (L.getD i [])),((Y5 Z5 L L)/\Value.func (Fn.func 207) #[] #[]=Value.func (Fn.func 207) #[] #[]/\(L.length:Int)=(L.length:Int)/\(0:Int)=(x.val:Int)/\True)/\True)/\∀(x:V4 L.length λ(i:Nat)=>P8 false (L.getD i [])),(decide ((x.val:Int)<(L.length:Int))=true->W4 (x.val:Int) L.length/\(P8 false (L.getD (x.val:Int).toNat [])=true->(x.val:Int)=M3 L.length λ(i:Nat)=>P8 false (L.getD i []))/\(P8 false (L.getD (x.val:Int).toNat [])=false->X4 .i64 ((x.val:Int)+(1:Int))/\∃(y:V4 L.length λ(i:Nat)=>P8 false (L.getD i [])),(((Y5 Z5 L L)/\Value.func (Fn.func 207) #[] #[]=Value.func (Fn.func 207) #[] #[]/\(L.length:Int)=(L.length:Int)/\(x.val:Int)+(1:Int)=(y.val:Int)/\True)/\True)/\Lt (L.length-y.val) (L.length-x.val)))/\(decide ((x.val:Int)<(L.length:Int))=false->(-1:Int)=M3 L.length λ(i:Nat)=>P8 false (L.getD i []))) ⟨⟨D5,⟨⟨rfl,λ_ _=>rfl⟩,rfl,rfl,Z9⟩,trivial⟩,λx=>⟨λhc=> ?_,λhc=> ?_⟩⟩
  ·have hlt:=Y1 hc;exact⟨Y2 hlt,λhp=>(H7 hlt hp x.2.2).symm,λhp=>⟨V7 hlt (by omega),x.succ hlt hp,⟨⟨⟨rfl,λ_ _=>rfl⟩,rfl,rfl,Z9⟩,trivial⟩,V4.ext_lt hlt⟩⟩
  ·have hge:=X9 hc;exact(F4 λj hj=>x.2.2 j (vV hj hge)).symm
 ·refine S6 (gC a3e gN) Tryz.func251 (bM L true) (α:=(∃(x:V4 L.length λ(i:Nat)=>P8 true (L.getD i [])),((Y5 Z5 L L)/\Value.func (Fn.func 262) #[] #[]=Value.func (Fn.func 262) #[] #[]/\(L.length:Int)=(L.length:Int)/\(0:Int)=(x.val:Int)/\True)/\True)/\∀(x:V4 L.length λ(i:Nat)=>P8 true (L.getD i [])),(decide ((x.val:Int)<(L.length:Int))=true->W4 (x.val:Int) L.length/\(P8 true (L.getD (x.val:Int).toNat [])=true->(x.val:Int)=M3 L.length λ(i:Nat)=>P8 true (L.getD i []))/\(P8 true (L.getD (x.val:Int).toNat [])=false->X4 .i64 ((x.val:Int)+(1:Int))/\∃(y:V4 L.length λ(i:Nat)=>P8 true (L.getD i [])),(((Y5 Z5 L L)/\Value.func (Fn.func 262) #[] #[]=Value.func (Fn.func 262) #[] #[]/\(L.length:Int)=(L.length:Int)/\(x.val:Int)+(1:Int)=(y.val:Int)/\True)/\True)/\Lt (L.length-y.val) (L.length-x.val)))/\(decide ((x.val:Int)<(L.length:Int))=false->(-1:Int)=M3 L.length λ(i:Nat)=>P8 true (L.getD i []))) ⟨⟨D5,⟨⟨rfl,λ_ _=>rfl⟩,rfl,rfl,Z9⟩,trivial⟩,λx=>⟨λhc=> ?_,λhc=> ?_⟩⟩
  ·have hlt:=Y1 hc;exact⟨Y2 hlt,λhp=>(H7 hlt hp x.2.2).symm,λhp=>⟨V7 hlt (by omega),x.succ hlt hp,⟨⟨⟨rfl,λ_ _=>rfl⟩,rfl,rfl,Z9⟩,trivial⟩,V4.ext_lt hlt⟩⟩
  ·have hge:=X9 hc;exact(F4 λj hj=>x.2.2 j (vV hj hge)).symm
def nQ:Rl:=⟨List (List UInt8)×Bool,λx=>[C0 x.1,b1N x.2],λx=>.bool (anyI x.1.length λi=>P8 x.2 (x.1.getD i [])),λx=>M7 x.1.length⟩
def b0j:Con:=.rel nQ
theorem iW:GK 206 b0j:=gk Tryz.func206<|by
 rintro⟨L,b⟩ (hL:L.length<1000000000000);cases b
 ·exact S6 (gC iS gN) Tryz.func206 Z0 (α:=∃(x:mJ.ι),(((Y5 Z5 L x.1)/\Value.func (Fn.func 207) #[] #[]=Value.func (Fn.func (match x.2 with|true=>262|false=>207)) #[] #[]/\True)/\M7 x.1.length)/\decide ((M3 x.1.length λ(i:Nat)=>P8 x.2 (x.1.getD i []))≥(0:Int))=anyI L.length λ(i:Nat)=>P8 false (L.getD i [])) ⟨(L,false),⟨⟨⟨rfl,λ_ _=>rfl⟩,Z9⟩,hL⟩,z7 _ _⟩
 ·exact S6 (gC iS gN) Tryz.func206 Z0 (α:=∃(x:mJ.ι),(((Y5 Z5 L x.1)/\Value.func (Fn.func 262) #[] #[]=Value.func (Fn.func (match x.2 with|true=>262|false=>207)) #[] #[]/\True)/\M7 x.1.length)/\decide ((M3 x.1.length λ(i:Nat)=>P8 x.2 (x.1.getD i []))≥(0:Int))=anyI L.length λ(i:Nat)=>P8 true (L.getD i [])) ⟨(L,true),⟨⟨⟨rfl,λ_ _=>rfl⟩,Z9⟩,hL⟩,z7 _ _⟩
def cN(p:Pg):Prop:=0<=p.lsn/\p.lsn<=1000/\p.sl.length=4/\∀i,i<p.sl.length->(p.sl.getD i []).length<=30
noncomputable instance(p:Pg):Decidable (cN p):=Classical.propDecidable _
noncomputable def B3(p:Pg):Bool:=decide (cN p)
def PgB(p:Pg):Prop:=M7 p.sl.length
noncomputable def i7:Rl:=⟨Pg,λp=>[.agg p.ts],λp=>.bool (B3 p),PgB⟩
noncomputable def a6o:Con:=.rel i7
noncomputable def a6P:Con:=.rel i7
def a7I(p:Pg):Nat->Ann
 |0=>.one (V4 4 λi=>P8 true (p.sl.getD i [])) (λx=>⟨[(1,.ref 0 0 0),(3,.int .i64 x.1)],[some (.arr true 1000000 2 1 λ_=>p.ts)]⟩) (λx=>4-x.1) [.box 0] [.box 0] (λ_=>Z0)
 |_=>.none
def vD:Rl:=⟨Unit,λ_=>[],λ_=>.agg (Pg.ts ⟨0,[[],[],[],[]]⟩),λ_=>True⟩
def a2n:Con:=.rel vD
def a4c:Con:=.rel vD
theorem a21(h:
  (Nn (4:Int)/\oH (4:Int) (4:Int)/\I5 16 4 140737488355328/\Lt 4 9223372036854775808)/\Le 4 4/\(0:Int)=(0:Int)/\(4=4/\Z6 4 (λ(x:Nat)=>[T.str []]) (Z5 [[],[],[],[]]))/\True):
  U6 Tryz.prog 213 [] (.agg (Pg.ts ⟨0,[[],[],[],[]]⟩)):=
 S6 gN Tryz.func213 Z0 h
theorem a2l(h:
  (Nn (4:Int)/\oH (4:Int) (4:Int)/\I5 16 4 140737488355328/\Lt 4 9223372036854775808)/\Le 4 4/\(0:Int)=(0:Int)/\(4=4/\Z6 4 (λ(x:Nat)=>[T.str []]) (Z5 [[],[],[],[]]))/\True):
  U6 Tryz.prog 201 [] (.agg (Pg.ts ⟨0,[[],[],[],[]]⟩)):=
 S6 gN Tryz.func201 Z0 h
theorem lB{s:List UInt8}:P8 true s=false↔s.length<=30:=by
 unfold P8;rw[tW];show ¬ (s.length:Int)>((30:Nat):Int)↔_;omega
theorem oB{s:List UInt8}:P8 false s=false↔s.length<=160:=by
 unfold P8;rw[tW];show ¬ (s.length:Int)>((160:Nat):Int)↔_;omega
theorem K2{n:Nat}{p:Nat->Bool}:anyI n p=false↔∀i,i<n->p i=false:=by
 rw[Bool.eq_false_iff,ne_eq,O1];constructor
 ·intro h i hi;exact Bool.eq_false_iff.2 λhp=>h ⟨i,hi,hp⟩
 ·rintro h ⟨i,hi,hp⟩;rw[h i hi] at hp;cases hp
theorem b0R(p:Pg):B3 p=true↔cN p:=decide_eq_true_iff
theorem tS:GK 216 a6o:=gk Tryz.func216<|by
 intro(p:Pg) (hp:p.sl.length<1000000000000);refine S6 (gC O5 (gC iW gN)) Tryz.func216 Z0 (α:=∃(x:nQ.ι),((W2 p.lsn (0:Int) (1000:Int)&&(p.sl.length:Int)==(4:Int))=true->((Y5 Z5 p.sl x.1)/\Value.func (Fn.func 262) #[] #[]=Value.func (Fn.func (match x.2 with|true=>262|false=>207)) #[] #[]/\True)/\M7 x.1.length)/\(W2 p.lsn (0:Int) (1000:Int)&&(p.sl.length:Int)==(4:Int)&& !anyI x.1.length λ(i:Nat)=>P8 x.2 (x.1.getD i []))=B3 p) ⟨(p.sl,true),λ_=>⟨⟨Z8,Z9⟩,hp⟩,?_⟩
 rw[Bool.eq_iff_iff,b0R];simp only[J6,wD,beq_iff_eq,W2,o9,K2];constructor
 ·rintro⟨⟨⟨h1,h2⟩,h3⟩,h4⟩;exact⟨h1,h2,by omega,λi hi=>lB.1 (h4 i hi)⟩
 ·rintro⟨h1,h2,h3,h4⟩;exact⟨⟨⟨h1,h2⟩,by omega⟩,λi hi=>lB.2 (h4 i hi)⟩
theorem b6D{p:Pg}(h:¬cN p):false=B3 p:=(uK h).symm
theorem nO:GK 139 a6P:=gk Tryz.func139<|by
 intro(p:Pg) (hp:p.sl.length<1000000000000);refine S6 (gC z8 gN) Tryz.func139 (a7I p) (α:=((!W2 p.lsn (0:Int) (1000:Int)||(p.sl.length:Int) !=(4:Int))=true->false=B3 p)/\((!W2 p.lsn (0:Int) (1000:Int)||(p.sl.length:Int) !=(4:Int))=false->(∃(x:V4 4 λ(i:Nat)=>P8 true (p.sl.getD i [])),((0=0/\0=0)/\(0:Int)=(x.val:Int)/\True)/\(1=1/\1=1/\p.lsn=p.lsn/\(Y5 Z5 p.sl p.sl)/\True)/\True)/\∀(x:V4 4 λ(i:Nat)=>P8 true (p.sl.getD i [])),(decide ((x.val:Int)<(4:Int))=true->W4 (x.val:Int) p.sl.length/\(decide ((↑(p.sl.getD (x.val:Int).toNat []).length:Int)>(30:Int))=true->false=B3 p)/\(decide ((↑(p.sl.getD (x.val:Int).toNat []).length:Int)>(30:Int))=false->X4 .i64 ((x.val:Int)+(1:Int))/\∃(y:V4 4 λ(i:Nat)=>P8 true (p.sl.getD i [])),(((0=0/\0=0)/\(x.val:Int)+(1:Int)=(y.val:Int)/\True)/\(1=1/\1=1/\p.lsn=p.lsn/\(Y5 Z5 p.sl p.sl)/\True)/\True)/\Lt (4-y.val) (4-x.val)))/\(decide ((x.val:Int)<(4:Int))=false->true=B3 p))) ⟨λh=>b6D ?_,λh=> ?_⟩
 ·rintro⟨h1,h2,h3,_⟩;simp[W2] at h;omega
 simp[W2] at h;refine⟨⟨D5,⟨Z7,Z9⟩,⟨rfl,rfl,rfl,X8⟩,trivial⟩,λx=>⟨λhc=> ?_,λhc=> ?_⟩⟩
 ·have hlt:x.val<4:=by have:=F3 hc;omega
  refine⟨⟨by omega,by omega⟩,λhb=>b6D ?_,λhb=>⟨Z4 (by omega),x.succ hlt hb,⟨⟨Z7,Z9⟩,⟨rfl,rfl,rfl,X8⟩,trivial⟩,V4.ext_lt hlt⟩⟩
  rintro⟨_,_,_,h4⟩;have:=h4 x.val (by omega)
  rw[u9,o9] at hb;omega
 ·refine(iZ ⟨h.1.1,h.1.2,by omega,λi hi=> ?_⟩).symm
  exact lB.1 (x.2.2 i (by have:=yQ hc;omega))
theorem mB:Z6 4 (λ_=>[T.str []]) (Z5 [[],[],[],[]]):=by
 intro i hi
 match i,hi with
 |0,_=>rfl
 |1,_=>rfl
 |2,_=>rfl
 |3,_=>rfl
theorem aL:GK 213 a2n:=gk Tryz.func213<|λ_ _=>a21 ⟨⟨by unfold Nn;omega,by unfold oH;omega,by unfold I5;omega,by unfold Lt;omega⟩,V2 _,rfl,⟨rfl,mB⟩,trivial⟩
theorem a0b:GK 201 a4c:=gk Tryz.func201<|λ_ _=>a2l ⟨⟨by unfold Nn;omega,by unfold oH;omega,by unfold I5;omega,by unfold Lt;omega⟩,V2 _,rfl,⟨rfl,mB⟩,trivial⟩
def yL(no:Int)(x:List UInt8):Bool:=decide (5<=x.length)&&(x.getD 0 0==112&&decide (((x.getD 1 0).toNat:Int)=no))
def pgX(x:List UInt8):Pg:=⟨be ((x.drop 2).take 2),(S3 (x.drop 4)).getD []⟩
noncomputable def K0(no:Int)(b:List UInt8):Pg×Bool:=if T4 b&&yL no (X6 b) then(pgX (X6 b),(S3 ((X6 b).drop 4)).isSome&&B3 (pgX (X6 b))) else(⟨0,[]⟩,false)
noncomputable def R5(no:Int)(b:List UInt8):Pg:=if(K0 no b).2 then(K0 no b).1 else⟨0,[]⟩
noncomputable def N4(no:Int)(b:List UInt8):Int:=if T4 b then(if(K0 no b).2 then 0 else 3) else 8
def RdB(b:List UInt8):Prop:=b.length<=1000
noncomputable def mD:Rl:=⟨Int×List UInt8,λx=>[.int .i64 x.1,.bys x.2],λx=>.tup [.agg (R5 x.1 x.2).ts,.int .i64 (N4 x.1 x.2)],λx=>RdB x.2⟩
noncomputable def a2v:Con:=.rel mD
noncomputable def jB:Rl:=⟨Int×List UInt8,λx=>[.int .i64 x.1,.str x.2],λx=>.tup [.agg (K0 x.1 x.2).1.ts,.bool (K0 x.1 x.2).2],λx=>RdB x.2⟩
noncomputable def a7m:Con:=.rel jB
theorem a2K:GK 202 a7m:=gk Tryz.func202<|by
 rintro⟨no,b⟩ (hb:b.length<=1000);have hx:(X6 b).length<=1000:=by
  unfold X6;split
  ·rw[List.length_take];omega
  ·exact S7 _
 have hh:(!T4 b||decide (((X6 b).length:Int)<5)||(((X6 b).getD 0 0).toNat:Int) !=112||IntKind.i64.wrap (((X6 b).getD 1 0).toNat:Int) !=no)= !(T4 b&&yL no (X6 b)):=by
  rw[yI];unfold yL;have:((X6 b).getD 0 0==112)=((((X6 b).getD 0 0).toNat:Int)==112):=by
   rw[Bool.eq_iff_iff,beq_iff_eq,beq_iff_eq,←UInt8.toNat_inj];exact⟨λh=>by rw[h];rfl,λh=>by have:((112:UInt8).toNat:Int)=112:=rfl;omega⟩
  rw[this];have h5:decide (((X6 b).length:Int)<5)= !decide (5<=(X6 b).length):=by rw[←decide_not];exact decide_eq_decide.2 (by omega)
  have hn:((((X6 b).getD 1 0).toNat:Int) !=no)= !decide ((((X6 b).getD 1 0).toNat:Int)=no):=by rw[Bool.eq_iff_iff];simp
  rw[h5,hn,bne];cases T4 b<;>cases decide (5<=(X6 b).length)<;>cases((((X6 b).getD 0 0).toNat:Int)==112)<;>simp
 refine S6 (gC sC (gC lK (gC a1d (gC nO gN)))) Tryz.func202 Z0 (α:=∃(x:bU.ι),((b=x/\True)/\J1 x)/\((!T4 x||decide ((↑(X6 x).length:Int)<(5:Int)))=false->W4 (0:Int) (X6 x).length)/\((!T4 x||decide ((↑(X6 x).length:Int)<(5:Int))||(↑((X6 x).getD 0 (0:UInt8)).toNat:Int) !=(112:Int))=false->W4 (1:Int) (X6 x).length)/\((!T4 x||decide ((↑(X6 x).length:Int)<(5:Int))||(↑((X6 x).getD 0 (0:UInt8)).toNat:Int) !=(112:Int)||IntKind.i64.wrap (↑((X6 x).getD 1 (0:UInt8)).toNat:Int) !=no)=true->((0:Int)=(K0 no b).1.lsn/\(K0 no b).1.sl.length=0/\True)/\false=(K0 no b).2/\True)/\((!T4 x||decide ((↑(X6 x).length:Int)<(5:Int))||(↑((X6 x).getD 0 (0:UInt8)).toNat:Int) !=(112:Int)||IntKind.i64.wrap (↑((X6 x).getD 1 (0:UInt8)).toNat:Int) !=no)=false->InC (4:Int) (X6 x).length/\∃(x_1:jJ.ι),((List.drop 4 (X6 x)=x_1/\True)/\J1 x_1)/\b5X (2:Int) (4:Int) (X6 x).length/\∃(x_2:cV.ι),((List.drop 2 (List.take 4 (X6 x))=x_2/\True)/\pB x_2)/\∃(x:i7.ι),((S3 x_1).isSome=true->(((↑(be x_2):Int)=x.lsn/\(Y5 Z5 ((S3 x_1).getD []) x.sl)/\True)/\True)/\PgB x)/\((↑(be x_2):Int)=(K0 no b).1.lsn/\(Y5 Z5 ((S3 x_1).getD []) (K0 no b).1.sl)/\True)/\((S3 x_1).isSome&&B3 x)=(K0 no b).2/\True)) ⟨b,⟨Z9,Nat.le_trans hb (by decide)⟩,λh=> ?_,λh=> ?_,λh=> ?_,λh=> ?_⟩
 ·simp only[uL,tW] at h;exact⟨by omega,by omega⟩
 ·simp only[uL,tW] at h;exact⟨by omega,by omega⟩
 ·rw[hh] at h;have h:(T4 b&&yL no (X6 b))=false:=(wD _).mp h;have e:K0 no b=(⟨0,[]⟩,false):=by unfold K0;rw[h];rfl
  rw[e];exact⟨⟨rfl,Z9⟩,Z9⟩
 ·rw[hh] at h;have h:(T4 b&&yL no (X6 b))=true:=(xO _).mp h;have h5:5<=(X6 b).length:=by simp only[yL,J6,o9] at h;exact h.2.1
  have e:K0 no b=(pgX (X6 b),(S3 ((X6 b).drop 4)).isSome&&B3 (pgX (X6 b))):=by unfold K0;rw[h];rfl
  rw[e];refine⟨⟨by omega,by omega⟩,(X6 b).drop 4,⟨Z9,by unfold J1;rw[List.length_drop];omega⟩,⟨by omega,by omega,by omega⟩,((X6 b).drop 2).take 2,⟨⟨?_,trivial⟩,by unfold pB;rw[List.length_take];omega⟩,pgX (X6 b),
   λ_=>⟨⟨⟨rfl,X8⟩,trivial⟩,?_⟩,⟨rfl,X8⟩,Z9⟩
  ·rw[List.drop_take]
  ·show((S3 ((X6 b).drop 4)).getD []).length<1000000000000;unfold S3;split
   ·decide
   ·split
    ·rename_i p out ho;split
     ·have:=lR ho;have:=zG ((X6 b).drop 4) 0;simp only[Option.getD_some,J4] at*;omega
     ·decide
    ·decide
theorem a59(r:List UInt8)(p i:Nat):(r.drop p).getD i 0=r.getD (p+i) 0:=by
 simp[L5]
theorem a9a(r:List UInt8)(hr:0<r.length):∀i,match zZ r i with
  |some (p,out)=>L0 r false i=⟨r.drop p,false,out⟩/\p<=r.length
  |none=>(L0 r false i).fl=true
 |0=>by
  have:r.isEmpty=false:=by cases r with
   |nil=>simp at hr
   |cons=>rfl
  simp only[zZ,L0,Fst.go,fs0,this,Bool.or_false];exact⟨trivial,hr⟩
 |i+1=>by
  have ih:=a9a r hr i;have hgo:L0 r false (i+1)=Fst.step (L0 r false i):=rfl;cases hf:zZ r i with
  |none=>
   rw[hf] at ih;have:zZ r (i+1)=none:=eE hf 1;rw[this,hgo];simp only at ih ⊢;simp[Fst.step,ih]
  |some x=>
   obtain⟨p,out⟩:=x;rw[hf] at ih;obtain⟨h1,h2⟩:=ih;rw[a5K hf,hgo,h1];have hnum:numR (r.drop p)=((r.getD p 0).toNat:Int):=by unfold numR;rw[a59,Nat.add_zero]
   have hbig:big ((r.drop p).drop 1) (numR (r.drop p))=decide (¬ (p+1+(r.getD p 0).toNat<=r.length∨r.length<p+1/\(r.getD p 0).toNat=0)):=by
    unfold big;rw[hnum];refine decide_eq_decide.2 ?_
    simp only[List.length_drop];omega
   have hemp:(r.drop p).isEmpty=decide (¬p<r.length):=by
    rw[Bool.eq_iff_iff,List.isEmpty_iff,o9,List.drop_eq_nil_iff];omega
   simp only[Fst.step];rw[hbig,hemp];by_cases hc:p<r.length/\p+1+(r.getD p 0).toNat<=r.length
   ·rw[if_pos hc];simp only;have e1:decide (¬p<r.length)=false:=uK (by omega)
    have e2:decide (¬ (p+1+(r.getD p 0).toNat<=r.length∨r.length<p+1/\(r.getD p 0).toNat=0))=false:=uK (by omega)
    rw[e1,e2];have hbig':big ((r.drop p).drop 1) (numR (r.drop p))=false:=by rw[hbig,e2]
    unfold O3 S4;rw[hbig'];simp only[Bool.false_eq_true,if_false,Bool.or_false];refine⟨?_,hc.2⟩
    rw[hnum,u9,List.drop_drop,List.drop_drop,List.drop_take,show p+1+(r.getD p 0).toNat- (p+1)=(r.getD p 0).toNat by omega,List.drop_drop,Nat.add_assoc]
   ·rw[if_neg hc];simp only;rw[oQ,oQ];by_cases hp:p<r.length
    ·exact .inr (iZ (by omega))
    ·exact .inl (.inr (iZ hp))
theorem fE(l:List UInt8):∀i,(L0 l true i).fl=true
 |0=>by simp[L0,Fst.go,fs0]
 |i+1=>by
  have:=fE l i;simp only[L0] at this ⊢;simp[Fst.go,Fst.step,this]
theorem a1R(fl:Bool):∀i,(L0 [] fl i).fl=true
 |0=>by simp[L0,Fst.go,fs0]
 |i+1=>by
  have:=a1R fl i;simp only[L0] at this ⊢;simp[Fst.go,Fst.step,this]
noncomputable def rpQ(x:List UInt8):Pg:=⟨be ((S4 x 4).drop 2),(V1 (O3 x 4) (false||big x 4)).out⟩
noncomputable def rH(no:Int)(x:List UInt8):Bool:=(!(!(V1 (O3 x 4) (false||big x 4)).fl&&(V1 (O3 x 4) (false||big x 4)).l.isEmpty)||(((S4 x 4).getD 0 0).toNat:Int) !=112||IntKind.i64.wrap (((S4 x 4).getD 1 0).toNat:Int) !=no)
theorem a4N(no:Int)(b:List UInt8)(hu:T4 b=true):(rH no (X6 b)|| !B3 (rpQ (X6 b)))= !(K0 no b).2/\((K0 no b).2=true->rpQ (X6 b)=(K0 no b).1):=by
 have hr:K0 no b=if yL no (X6 b) then(pgX (X6 b),(S3 ((X6 b).drop 4)).isSome&&B3 (pgX (X6 b))) else(⟨0,[]⟩,false):=by unfold K0;rw[hu,Bool.true_and]
 generalize X6 b=x at hr;rw[hr];by_cases h5:5<=x.length
 ·have hbig:big x 4=false:=uK (by omega)
  have hR:O3 x 4=x.drop 4:=by unfold O3;rw[hbig];rfl
  have hA:S4 x 4=x.take 4:=by unfold S4;rw[hbig];rfl
  have h0:(x.take 4).getD 0 0=x.getD 0 0:=by simp[L5,List.getElem?_take]
  have h1:(x.take 4).getD 1 0=x.getD 1 0:=by simp[L5,List.getElem?_take]
  have h2:(x.take 4).drop 2=(x.drop 2).take 2:=by rw[List.drop_take]
  have hq:rpQ x=⟨be ((x.drop 2).take 2),(V1 (x.drop 4) false).out⟩:=by unfold rpQ;rw[hR,hA,hbig,h2];rfl
  have hb:rH no x=(!(!(V1 (x.drop 4) false).fl&&(V1 (x.drop 4) false).l.isEmpty)||((x.getD 0 0).toNat:Int) !=112||((x.getD 1 0).toNat:Int) !=no):=by unfold rH;rw[hR,hA,hbig,h0,h1,yI];rfl
  have hhd:yL no x= !(((x.getD 0 0).toNat:Int) !=112||((x.getD 1 0).toNat:Int) !=no):=by
   unfold yL;rw[Bool.eq_iff_iff];simp only[J6,o9,beq_iff_eq,wD,uL,bne_eq_false_iff_eq];have:x.getD 0 0=112↔((x.getD 0 0).toNat:Int)=112:=by
    rw[←UInt8.toNat_inj];exact⟨λh=>by rw[h];rfl,λh=>by have:((112:UInt8).toNat:Int)=112:=rfl;omega⟩
   rw[this];exact⟨λh=>h.2,λh=>⟨h5,h⟩⟩
  have hlen:0<(x.drop 4).length:=by rw[List.length_drop];omega
  have hfs:=a9a (x.drop 4) hlen (J4 (x.drop 4));have hcn:(numR (x.drop 4)).toNat=J4 (x.drop 4):=by unfold numR J4;exact u9 _
  have hend:V1 (x.drop 4) false=L0 (x.drop 4) false (J4 (x.drop 4)):=by unfold V1;rw[hcn]
  have hall:S3 (x.drop 4)=if J4 (x.drop 4)>100 then none else match zZ (x.drop 4) (J4 (x.drop 4)) with
    |some (p,out)=>if p=(x.drop 4).length then some out else none
    |none=>none:=by
   unfold S3;by_cases hc:J4 (x.drop 4)>100
   ·rw[if_pos (.inr hc),if_pos hc]
   ·rw[if_neg (by omega),if_neg hc]
    rfl
  rw[hb,hq,hhd,hend];generalize (((x.getD 0 0).toNat:Int) !=112)=d0;generalize (((x.getD 1 0).toNat:Int) !=no)=d1;have hX:∀out,S3 (x.drop 4)=some out->pgX x=⟨be ((x.drop 2).take 2),out⟩:=λout h=>by unfold pgX;rw[h];rfl
  generalize be ((x.drop 2).take 2)=nn at hX;generalize pgX x=px at hX;generalize hr':x.drop 4=r at hfs hall hX;clear hq hb hhd hR hA h0 h1 h2 hr hend hcn;cases hf:zZ r (J4 r) with
  |none=>
   rw[hf] at hfs hall;simp only at hfs;have hall:S3 r=none:=by rw[hall];split<;>rfl
   rw[hfs,hall];cases d0<;>cases d1<;>simp
  |some y=>
   obtain⟨p,out⟩:=y;rw[hf] at hfs hall;simp only at hfs hall;obtain⟨hfs,hpl⟩:=hfs;rw[hfs];have ho:out.length=J4 r:=lR hf;by_cases hp:p=r.length
   ·have hem:(r.drop p).isEmpty=true:=by rw[List.isEmpty_iff,List.drop_eq_nil_iff];omega
    by_cases hc:J4 r>100
    ·rw[if_pos hc] at hall;have hpg:B3 ⟨nn,out⟩=false:=uK (λh=>by have:=h.2.2.1;simp only at this;omega)
     simp only[hem,hall,hpg];cases d0<;>cases d1<;>simp
    ·rw[if_neg hc,if_pos hp] at hall;rw[hX out hall];simp only[hem,hall];cases d0<;>cases d1<;>simp
   ·have hem:(r.drop p).isEmpty=false:=by
     rw[Bool.eq_false_iff,ne_eq,List.isEmpty_iff,List.drop_eq_nil_iff];omega
    have hall:S3 r=none:=by rw[hall,if_neg hp];split<;>rfl
    simp only[hem,hall];cases d0<;>cases d1<;>simp
 ·have hh:yL no x=false:=by unfold yL;rw[uK h5];rfl
  have hbad:(V1 (O3 x 4) (false||big x 4)).fl=true:=by
   by_cases h4:4<=x.length
   ·have hbig:big x 4=false:=uK (by omega)
    have hR:O3 x 4=[]:=by unfold O3;rw[hbig];exact List.drop_eq_nil_iff.2 (by show x.length<=4;omega)
    rw[hR];exact a1R _ _
   ·have hbig:big x 4=true:=iZ (by omega)
    rw[hbig];exact fE _ _
  have hb:rH no x=true:=by unfold rH;rw[hbad];simp
  rw[hb,hh];simp
theorem a0Z:GK 214 a2v:=gk Tryz.func214<|by
 rintro⟨no,b⟩ (hb:b.length<=1000);have hl:∀(x:List UInt8),(S4 x 4).length=4:=λx=>by
  unfold S4;split
  ·exact List.length_replicate
  ·rename_i h;have:¬4>(x.length:Int):=by simpa[big] using h
   rw[List.length_take,show(4:Int).toNat=4 from rfl]
   omega
 refine S6 (gC vT (gC rX (gC a38 (gC jI (gC vI (gC tS gN)))))) Tryz.func214 Z0 (α:=(decide ((b.length:Int)>(65536:Int))=true->((0:Int)=(R5 no b).lsn/\(R5 no b).sl.length=0/\True)/\(2:Int)=N4 no b/\True)/\(decide ((b.length:Int)>(65536:Int))=false->∃(x:xM.ι),((b=x/\True)/\J1 x)/\((!T4 x)=true->((0:Int)=(R5 no b).lsn/\(R5 no b).sl.length=0/\True)/\(8:Int)=N4 no b/\True)/\((!T4 x)=false->wZ (4:Int)/\InC (2:Int) (S4 (X6 x) (4:Int)).length/\∃(x_1:a5F.ι),((List.drop 2 (S4 (X6 x) (4:Int))=x_1/\True)/\pB x_1)/\((!(!(V1 (O3 (X6 x) (4:Int)) (false||big (X6 x) (4:Int))).fl&&(V1 (O3 (X6 x) (4:Int)) (false||big (X6 x) (4:Int))).l.isEmpty))=false->W4 (0:Int) (S4 (X6 x) (4:Int)).length)/\((!(!(V1 (O3 (X6 x) (4:Int)) (false||big (X6 x) (4:Int))).fl&&(V1 (O3 (X6 x) (4:Int)) (false||big (X6 x) (4:Int))).l.isEmpty)||(↑((S4 (X6 x) (4:Int)).getD 0 (0:UInt8)).toNat:Int) !=(112:Int))=false->W4 (1:Int) (S4 (X6 x) (4:Int)).length)/\∃(x_2:i7.ι),((!(!(V1 (O3 (X6 x) (4:Int)) (false||big (X6 x) (4:Int))).fl&&(V1 (O3 (X6 x) (4:Int)) (false||big (X6 x) (4:Int))).l.isEmpty)||(↑((S4 (X6 x) (4:Int)).getD 0 (0:UInt8)).toNat:Int) !=(112:Int)||IntKind.i64.wrap (↑((S4 (X6 x) (4:Int)).getD 1 (0:UInt8)).toNat:Int) !=no)=false->(((↑(be x_1):Int)=x_2.lsn/\(Y5 Z5 (V1 (O3 (X6 x) (4:Int)) (false||big (X6 x) (4:Int))).out x_2.sl)/\True)/\True)/\PgB x_2)/\((!(!(V1 (O3 (X6 x) (4:Int)) (false||big (X6 x) (4:Int))).fl&&(V1 (O3 (X6 x) (4:Int)) (false||big (X6 x) (4:Int))).l.isEmpty)||(↑((S4 (X6 x) (4:Int)).getD 0 (0:UInt8)).toNat:Int) !=(112:Int)||IntKind.i64.wrap (↑((S4 (X6 x) (4:Int)).getD 1 (0:UInt8)).toNat:Int) !=no|| !B3 x_2)=true->((0:Int)=(R5 no b).lsn/\(R5 no b).sl.length=0/\True)/\(3:Int)=N4 no b/\True)/\((!(!(V1 (O3 (X6 x) (4:Int)) (false||big (X6 x) (4:Int))).fl&&(V1 (O3 (X6 x) (4:Int)) (false||big (X6 x) (4:Int))).l.isEmpty)||(↑((S4 (X6 x) (4:Int)).getD 0 (0:UInt8)).toNat:Int) !=(112:Int)||IntKind.i64.wrap (↑((S4 (X6 x) (4:Int)).getD 1 (0:UInt8)).toNat:Int) !=no|| !B3 x_2)=false->((↑(be x_1):Int)=(R5 no b).lsn/\(Y5 Z5 (V1 (O3 (X6 x) (4:Int)) (false||big (X6 x) (4:Int))).out (R5 no b).sl)/\True)/\(0:Int)=N4 no b/\True)))) ⟨λh=> ?_,λ_=>⟨b,⟨Z9,Nat.le_trans hb (by decide)⟩,λh=> ?_,λh=>⟨⟨by omega,by omega⟩,⟨by omega,by rw[hl];omega⟩,(S4 (X6 b) 4).drop 2,⟨⟨rfl,trivial⟩,by unfold pB;rw[List.length_drop,hl];omega⟩,
  λ_=>⟨by omega,by rw[hl];omega⟩,λ_=>⟨by omega,by rw[hl];omega⟩,rpQ (X6 b),λ_=>⟨⟨⟨rfl,X8⟩,trivial⟩,?_⟩,λg=> ?_,λg=> ?_⟩⟩⟩
 ·have:=F3 h;have hb:b.length<=1000:=hb;omega
 ·have hu:T4 b=false:=by simpa using h
  have e2:(K0 no b).2=false:=by unfold K0;rw[hu];rfl
  have e1:R5 no b=⟨0,[]⟩:=by unfold R5;rw[e2];rfl
  have e3:N4 no b=8:=by unfold N4;rw[hu];rfl
  rw[e1,e3];exact⟨⟨rfl,Z9⟩,Z9⟩
 ·show(V1 (O3 (X6 b) 4) (false||big (X6 b) 4)).out.length<1000000000000;unfold V1;rw[wH];have:=z4 (O3 (X6 b) 4);omega
 ·have hu:T4 b=true:=by simpa using h
  have hq:=(a4N no b hu).1;have e2:(K0 no b).2=false:=by
   have g:(rH no (X6 b)|| !B3 (rpQ (X6 b)))=true:=g;rw[g] at hq;exact(wD _).mp hq.symm
  have e1:R5 no b=⟨0,[]⟩:=by unfold R5;rw[e2];rfl
  have e3:N4 no b=3:=by unfold N4;rw[hu,e2];rfl
  rw[e1,e3];exact⟨⟨rfl,Z9⟩,Z9⟩
 ·have hu:T4 b=true:=by simpa using h
  have hq:=a4N no b hu;have e2:(K0 no b).2=true:=by
   have g:(rH no (X6 b)|| !B3 (rpQ (X6 b)))=false:=g;rw[g] at hq;exact(xO _).mp hq.1.symm
  have e1:R5 no b=rpQ (X6 b):=by unfold R5;rw[e2,hq.2 e2];rfl
  have e3:N4 no b=0:=by unfold N4;rw[hu,e2];rfl
  rw[e1,e3];exact⟨⟨rfl,X8⟩,Z9⟩
end Go.Proofs.YtokaojbaacnngaaGreat

