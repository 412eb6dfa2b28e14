/- A part of the proof. -/
import Derived.Test.YtokaojbaacnngaaGreatD0D1
namespace Go.Proofs.YtokaojbaacnngaaGreat
set_option maxRecDepth 100000
open Go.SS

def zT(r:Rec):Prop:=
 1<=r.e/\r.e<=60/\1<=r.l/\r.l<=60/\1<=r.k/\r.k<=6/\0<=r.p/\r.p<=r.l-1/\0<=r.n/\r.n<=r.l-1/\0<=r.g/\r.g<=7/\0<=r.s/\r.s<=3/\r.b.length<=30/\
 (r.k=6->r.t=0/\r.p=0/\r.n=0/\r.g=0/\r.s=0/\r.b=[]/\a1l r.a r.l=true)/\
 (r.k≠6->1<=r.t/\r.t<=60/\r.a.length<=30/\(r.k≠2->r.k≠3->r.g=0/\r.s=0/\r.b=[]/\r.a=[])/\(r.k≠3->r.n=0)/\(r.k=3->r.b=[])/\(r.k=1↔r.p=0))
noncomputable instance(r:Rec):Decidable (zT r):=Classical.propDecidable _
noncomputable def R2(r:Rec):Bool:=decide (zT r)
theorem Q9(r:Rec):R2 r=true↔zT r:=decide_eq_true_iff
theorem yD{r:Rec}(h:¬zT r):R2 r=false:=uK h
def a7p(l:List UInt8):Prop:=l.length<140737488355329
noncomputable def nK:List T->Option (T×Option Prop)
 | [.agg [.int .i64 e,.int .i64 l,.int .i64 t,.int .i64 k,.int .i64 p,.int .i64 n,.int .i64 g,.int .i64 s,.str b,.str a]]=>some (.bool (R2 ⟨e,l,t,k,p,n,g,s,b,a⟩),some (a7p a))
 |_=>none
noncomputable def a1f:Con:=.pure nK
theorem cJ(r:Rec)(x:Bool)(h:
  ((!W2 r.e (1:Int) (60:Int)|| !W2 r.l (1:Int) (60:Int))=true->false=x)/\((!W2 r.e (1:Int) (60:Int)|| !W2 r.l (1:Int) (60:Int))=false->((r.k==(6:Int))=true->((r.t==(0:Int)&&r.p==(0:
  Int)&&(true&&(true&&(true&&(true&&(true&&(r.n==(0:Int)&&(r.g==(0:Int)&&(r.s==(0:Int)&&(r.b==[]&&true))))))))))=true->gH r.a r.l)/\(r.t==(0:Int)&&r.p==(0:Int)&&(true&&(true&&
  (true&&(true&&(true&&(r.n==(0:Int)&&(r.g==(0:Int)&&(r.s==(0:Int)&&(r.b==[]&&true)))))))))&&a1l r.a r.l)=x)/\((r.k==(6:Int))=false->((r.k==(2:Int))=true->((r.k==(2:Int))=true->
  s9 (8:Int)/\((decide ((0:Int)<=r.g)&&decide (r.g<(8:Int)))=true->s9 (4:Int))/\((!(decide ((0:Int)<=r.g)&&decide (r.g<(8:Int))&&(decide ((0:Int)<=r.s)&&decide (r.s<(4:Int))))||decide
  ((r.b.length:Int)>(30:Int))||decide ((r.a.length:Int)>(30:Int)))=false->(r.k==(3:Int))=true->X4 .i64 (r.l- (1:Int)))/\((!(decide ((0:Int)<=r.g)&&decide (r.g<(8:Int))&&(decide ((0:Int)<=r.s)
  &&decide (r.s<(4:Int))))||decide ((r.b.length:Int)>(30:Int))||decide ((r.a.length:Int)>(30:Int))||r.k==(3:Int)&& !W2 r.n (0:Int) (r.l- (1:Int)))=true->false=x)/\((!(decide ((0:Int)<=r.g)&&
  decide (r.g<(8:Int))&&(decide ((0:Int)<=r.s)&&decide (r.s<(4:Int))))||decide ((r.b.length:Int)>(30:Int))||decide ((r.a.length:Int)>(30:Int))||r.k==(3:Int)&& !W2 r.n (0:Int) (r.l- (1:Int)))=
  false->((r.k==(2:Int))=true->((W2 r.k (1:Int) (5:Int)&&(true&&(true&&(true&&(true&&(true&&(r.n==(0:Int)&&true))))))&&W2 r.t (1:Int) (60:Int))=true->X4 .i64 (r.l- (1:Int)))/\(W2 r.k (1
  :Int) (5:Int)&&(true&&(true&&(true&&(true&&(true&&(r.n==(0:Int)&&true))))))&&W2 r.t (1:Int) (60:Int)&&W2 r.p (0:Int) (r.l- (1:Int))&&(r.p==(0:Int))==(r.k==(1:Int)))=x)/\((r.k==
  (2:Int))=false->((W2 r.k (1:Int) (5:Int)&&(true&&(true&&(true&&(true&&(true&&(true&&(true&&(true&&(r.b==[]&&true)))))))))&&W2 r.t (1:Int) (60:Int))=true->X4 .i64 (r.l- (1:Int)))/\(W2
  r.k (1:Int) (5:Int)&&(true&&(true&&(true&&(true&&(true&&(true&&(true&&(true&&(r.b==[]&&true)))))))))&&W2 r.t (1:Int) (60:Int)&&W2 r.p (0:Int) (r.l- (1:Int))&&(r.p==(0:Int))==(r.k==
  (1:Int)))=x)))/\((r.k==(2:Int))=false->((W2 r.k (1:Int) (5:Int)&&(true&&(true&&(true&&(true&&(true&&(r.n==(0:Int)&&(r.g==(0:Int)&&(r.s==(0:Int)&&(r.b==[]&&(r.a==[]&&
  true))))))))))&&W2 r.t (1:Int) (60:Int))=true->X4 .i64 (r.l- (1:Int)))/\(W2 r.k (1:Int) (5:Int)&&(true&&(true&&(true&&(true&&(true&&(r.n==(0:Int)&&(r.g==(0:Int)&&(r.s==(0:Int)&&
  (r.b==[]&&(r.a==[]&&true))))))))))&&W2 r.t (1:Int) (60:Int)&&W2 r.p (0:Int) (r.l- (1:Int))&&(r.p==(0:Int))==(r.k==(1:Int)))=x))/\((r.k==(2:Int))=false->((r.k==(3:Int))=true->
  s9 (8:Int)/\((decide ((0:Int)<=r.g)&&decide (r.g<(8:Int)))=true->s9 (4:Int))/\((!(decide ((0:Int)<=r.g)&&decide (r.g<(8:Int))&&(decide ((0:Int)<=r.s)&&decide (r.s<(4:Int))))||decide
  ((r.b.length:Int)>(30:Int))||decide ((r.a.length:Int)>(30:Int)))=false->(r.k==(3:Int))=true->X4 .i64 (r.l- (1:Int)))/\((!(decide ((0:Int)<=r.g)&&decide (r.g<(8:Int))&&(decide ((0:Int)<=r.s)
  &&decide (r.s<(4:Int))))||decide ((r.b.length:Int)>(30:Int))||decide ((r.a.length:Int)>(30:Int))||r.k==(3:Int)&& !W2 r.n (0:Int) (r.l- (1:Int)))=true->false=x)/\((!(decide ((0:Int)<=r.g)&&
  decide (r.g<(8:Int))&&(decide ((0:Int)<=r.s)&&decide (r.s<(4:Int))))||decide ((r.b.length:Int)>(30:Int))||decide ((r.a.length:Int)>(30:Int))||r.k==(3:Int)&& !W2 r.n (0:Int) (r.l- (1:Int)))=
  false->((r.k==(2:Int))=true->((W2 r.k (1:Int) (5:Int)&&(true&&(true&&(true&&(true&&(true&&(r.n==(0:Int)&&true))))))&&W2 r.t (1:Int) (60:Int))=true->X4 .i64 (r.l- (1:Int)))/\(W2 r.k (1
  :Int) (5:Int)&&(true&&(true&&(true&&(true&&(true&&(r.n==(0:Int)&&true))))))&&W2 r.t (1:Int) (60:Int)&&W2 r.p (0:Int) (r.l- (1:Int))&&(r.p==(0:Int))==(r.k==(1:Int)))=x)/\((r.k==
  (2:Int))=false->((W2 r.k (1:Int) (5:Int)&&(true&&(true&&(true&&(true&&(true&&(true&&(true&&(true&&(r.b==[]&&true)))))))))&&W2 r.t (1:Int) (60:Int))=true->X4 .i64 (r.l- (1:Int)))/\(W2
  r.k (1:Int) (5:Int)&&(true&&(true&&(true&&(true&&(true&&(true&&(true&&(true&&(r.b==[]&&true)))))))))&&W2 r.t (1:Int) (60:Int)&&W2 r.p (0:Int) (r.l- (1:Int))&&(r.p==(0:Int))==(r.k==
  (1:Int)))=x)))/\((r.k==(3:Int))=false->((W2 r.k (1:Int) (5:Int)&&(true&&(true&&(true&&(true&&(true&&(r.n==(0:Int)&&(r.g==(0:Int)&&(r.s==(0:Int)&&(r.b==[]&&(r.a==[]&&
  true))))))))))&&W2 r.t (1:Int) (60:Int))=true->X4 .i64 (r.l- (1:Int)))/\(W2 r.k (1:Int) (5:Int)&&(true&&(true&&(true&&(true&&(true&&(r.n==(0:Int)&&(r.g==(0:Int)&&(r.s==(0:Int)&&
  (r.b==[]&&(r.a==[]&&true))))))))))&&W2 r.t (1:Int) (60:Int)&&W2 r.p (0:Int) (r.l- (1:Int))&&(r.p==(0:Int))==(r.k==(1:Int)))=x))))):
  U6 Tryz.prog 196 [.agg r.ts] (.bool x):=
 S6 (gC a32 (gC O5 (gC wM gN))) Tryz.func196 Z0 h
theorem b62{p k a b:Int}:((p==a)=(k==b))↔(k=b↔p=a):=by
 rw[Bool.eq_iff_iff,beq_iff_eq,beq_iff_eq];exact Iff.comm
theorem vH{a b:Bool}(h:a=true↔b=true):a=b:=by cases a<;>cases b<;>simp_all
theorem wY:GK 196 a1f:=gk Tryz.func196<|by
 intro args res p h hp;unfold nK at h;split at h
 ·rename_i e l t k p n g s b a;simp only[X1,U4] at h;obtain⟨rfl,rfl⟩:=h;have hp:a.length<140737488355329:=hp;refine cJ ⟨e,l,t,k,p,n,g,s,b,a⟩ _ ?_
  simp only[Rec.e,Rec.l,Rec.t,Rec.k,Rec.p,Rec.n,Rec.g,Rec.s,Rec.b,Rec.a];have s8:s9 8:=by unfold s9;omega
  have s4:s9 4:=by unfold s9;omega
  refine⟨λh=> ?_,λh=> ?_⟩
  ·refine(yD ?_).symm
   simp only[oQ,wD,W2,Bool.and_eq_false_iff,tW] at h;unfold zT;simp only;omega
  simp only[uL,xO,W2,J6,o9] at h;have hr:X4 .i64 (l-1):=Z4 (by omega)
  have hs:gH a l:=⟨hp,by omega,by omega⟩
  by_cases h6:k=6
  ·subst h6;refine⟨λ_=>⟨λ_=>hs,vH ?_⟩,λh=>by simp at h⟩
   rw[Q9];simp only[zT,o9,J6,beq_iff_eq,true_and,and_true];constructor
   ·rintro⟨⟨⟨rfl,rfl⟩,rfl,rfl,rfl,rfl⟩,hc⟩;simp[hc];omega
   ·rintro⟨_,_,_,_,_,_,_,_,_,_,_,_,_,_,_,hh,_⟩;obtain⟨rfl,rfl,rfl,rfl,rfl,rfl,hc⟩:=hh trivial;simp[hc]
  refine⟨λh=>absurd (by simpa using h) h6,λ_=> ?_⟩
  by_cases h2:k=2
  ·subst h2;refine⟨λ_=>⟨λ_=>⟨s8,λ_=>s4,λ_ h=>by simp at h,λhb=> ?_,λhb=>⟨λ_=>⟨λ_=>hr,vH ?_⟩,λh=>by simp at h⟩⟩,λh=>by simp at h⟩,λh=>by simp at h⟩
   ·refine(yD ?_).symm
    simp only[oQ,wD,W2,Bool.and_eq_false_iff,tW,o9,J6] at hb;unfold zT;simp only;simp at hb;omega
   ·simp[W2] at hb;rw[Q9];simp only[zT,o9,J6,beq_iff_eq,true_and,and_true,W2,b62];simp;omega
  by_cases h3:k=3
  ·subst h3;refine⟨λh=>by simp at h,λ_=>⟨λ_=>⟨s8,λ_=>s4,λ_ _=>hr,λhb=> ?_,λhb=>⟨λh=>by simp at h,λ_=>⟨λ_=>hr,vH ?_⟩⟩⟩,λh=>by simp at h⟩⟩
   ·refine(yD ?_).symm
    unfold zT;simp only;simp[W2] at hb;omega
   ·simp[W2] at hb;rw[Q9];simp only[zT,o9,J6,beq_iff_eq,true_and,and_true,W2,b62];by_cases hbn:b=[]
    ·subst hbn;simp;omega
    ·simp[hbn]
  ·refine⟨λh=>absurd (by simpa using h) h2,λ_=>⟨λh=>absurd (by simpa using h) h3,λ_=>⟨λ_=>hr,vH ?_⟩⟩⟩
   rw[Q9];simp only[zT,o9,J6,beq_iff_eq,true_and,and_true,W2,b62];constructor
   ·intro hh;have hb:b.length=0:=by simp[hh.1.1.1.2.2.2.2.1]
    have ha:a.length=0:=by simp[hh.1.1.1.2.2.2.2.2]
    simp[h2,h3,h6,hh.1.1.1.2.2.2.2.1,hh.1.1.1.2.2.2.2.2] at hh ⊢;omega
   ·intro hh;obtain⟨a1,a2,a3,a4,a5,a6,a7,a8,a9,a10,a11,a12,a13,a14,a15,_,hh⟩:=hh;obtain⟨b1,b2,b3,b4,b5,b6,b7⟩:=hh h6;obtain⟨c1,c2,c3,c4⟩:=b4 h2 h3;have c5:=b5 h3;simp[c1,c2,c3,c4,c5];omega
 ·cases h
end Go.Proofs.YtokaojbaacnngaaGreat

namespace Go.Proofs.YtokaojbaacnngaaGreat
set_option maxRecDepth 100000
open Go.SS

def M3(n:Nat)(p:Nat->Bool):Int:=match(List.range n).find? p with|some i=>(i:Int)|none=> -1
theorem H7{n:Nat}{p:Nat->Bool}{i:Nat}(hi:i<n)(hp:p i=true)(h:∀j,j<i->p j=false):M3 n p=i:=by
 have:(List.range n).find? p=some i:=by
  rw[List.find?_range_eq_some]
  exact⟨hp,List.mem_range.2 hi,λj hj=>by simp[h j hj]⟩
 unfold M3;rw[this]
theorem F4{n:Nat}{p:Nat->Bool}(h:∀j,j<n->p j=false):M3 n p= -1:=by
 have:(List.range n).find? p=none:=by
  rw[List.find?_range_eq_none]
  intro j hj;simp[h j hj]
 unfold M3;rw[this]
def anyI(n:Nat)(p:Nat->Bool):Bool:=(List.range n).any p
theorem z7(n:Nat)(p:Nat->Bool):decide (M3 n p≥0)=anyI n p:=by
 unfold M3 anyI;cases h:(List.range n).find? p with
 |none=>
  rw[List.find?_eq_none] at h
  have:(List.range n).any p=false:=by
   rw[List.any_eq_false];exact h
  rw[this];rfl
 |some i=>
  have h1:=List.find?_some h
  have h2:=List.mem_of_find?_eq_some h
  have:(List.range n).any p=true:=List.any_eq_true.2 ⟨i,h2,h1⟩;rw[this];simp
theorem O1{n:Nat}{p:Nat->Bool}:anyI n p=true↔∃i,i<n/\p i=true:=by
 unfold anyI;simp
def V4(n:Nat)(p:Nat->Bool):Type:={i:Nat//i<=n/\∀j,j<i->p j=false}

theorem V4.ext_lt{n:Nat}{i:Nat}(h:i<n):Lt (n- (i+1)) (n-i):=by unfold Lt;omega
theorem X9{i n:Nat}(h:decide ((i:Int)<(n:Int))=false):n<=i:=by simpa using h
theorem Y1{i n:Nat}(h:decide ((i:Int)<(n:Int))=true):i<n:=by simpa using h
theorem Y2{i n:Nat}(h:i<n):W4 (i:Int) n:=⟨by omega,by omega⟩
theorem V7{i n:Nat}(h:i<n)(hn:n<1000000000000000):X4 .i64 ((i:Int)+1):=Z4 (by omega)
def D5{n:Nat}{p:Nat->Bool}:V4 n p:=⟨0,S7 _,λj hj=>absurd hj (F2 j)⟩
def V4.succ{n:Nat}{p:Nat->Bool}(x:V4 n p)(h:x.1<n)(hp:p x.1=false):V4 n p:=
 ⟨x.1+1,h,λj hj=>by rcases Nat.lt_or_ge j x.1 with h1|h1;exact x.2.2 j h1;(obtain rfl:j=x.1:=by omega);exact hp⟩

def Y7(L:List Rec)(i:Nat):List T:=(L.getD i default).ts
def o5(L:List Rec):T:=.sl 10 L.length (Y7 L)
def s5(r:Rec):Bool:=decide (r.l>60)
def tV:List T->Option (T×Option Prop)
 | [.agg [.int .i64 e,.int .i64 l,.int .i64 t,.int .i64 k,.int .i64 p,.int .i64 n,.int .i64 g,.int .i64 s,.str b,.str a]]=>some (.bool (s5 ⟨e,l,t,k,p,n,g,s,b,a⟩),none)
 |_=>none
def kH:Con:=.pure tV
theorem kN(r:Rec)(h:
  decide (r.l>(60:Int))=s5 r):
  U6 Tryz.prog 211 [.agg r.ts] (.bool (s5 r)):=
 S6 gN Tryz.func211 Z0 h
theorem nD:GK 211 kH:=gk Tryz.func211<|by
 intro args res p h hp;unfold tV at h;split at h
 ·simp only[X1,U4] at h;obtain⟨rfl,rfl⟩:=h;exact kN ⟨_,_,_,_,_,_,_,_,_,_⟩ rfl
 ·cases h

def fnT(f:Nat):T:=.v (.func (.func f) #[] #[])
def M7(n:Nat):Prop:=n<1000000000000
def a0h:Rl:=⟨List Rec,λL=>[o5 L,fnT 211],λL=>.int .i64 (M3 L.length λi=>s5 (L.getD i default)),λL=>M7 L.length⟩
def b0S:Con:=.rel a0h
def b2q(L:List Rec):Nat->Ann
 |0=>.one (V4 L.length λi=>s5 (L.getD i default)) (λx=>⟨[(0,o5 L),(1,fnT 211),(7,.int .i64 L.length),(8,.int .i64 x.1)],[]⟩) (λx=>L.length-x.1) [] [] (λ_=>Z0)
 |_=>.none
theorem a6p:GK 253 b0S:=gk Tryz.func253<|by
 intro L hL;have hL:L.length<1000000000000:=hL;refine S6 (gC nD gN) Tryz.func253 (b2q L) (α:=(∃(x:V4 L.length λ(i:Nat)=>s5 (L.getD i default)),((Y5 Y7 L L)/\Value.func (Fn.func 211) #[] #[]=Value.func (Fn.func 211) #[] #[]/\(L.length:Int)=(L.length:Int)/\(0:Int)=(x.val:Int)/\True)/\True)/\∀(x:V4 L.length λ(i:Nat)=>s5 (L.getD i default)),(decide ((x.val:Int)<(L.length:Int))=true->W4 (x.val:Int) L.length/\(s5 (Rec.mk (L.getD (x.val:Int).toNat default).e (L.getD (x.val:Int).toNat default).l (L.getD (x.val:Int).toNat default).t (L.getD (x.val:Int).toNat default).k (L.getD (x.val:Int).toNat default).p (L.getD (x.val:Int).toNat default).n (L.getD (x.val:Int).toNat default).g (L.getD (x.val:Int).toNat default).s (L.getD (x.val:Int).toNat default).b (L.getD (x.val:Int).toNat default).a)=true->(x.val:Int)=M3 L.length λ(i:Nat)=>s5 (L.getD i default))/\(s5 (Rec.mk (L.getD (x.val:Int).toNat default).e (L.getD (x.val:Int).toNat default).l (L.getD (x.val:Int).toNat default).t (L.getD (x.val:Int).toNat default).k (L.getD (x.val:Int).toNat default).p (L.getD (x.val:Int).toNat default).n (L.getD (x.val:Int).toNat default).g (L.getD (x.val:Int).toNat default).s (L.getD (x.val:Int).toNat default).b (L.getD (x.val:Int).toNat default).a)=false->X4 .i64 ((x.val:Int)+(1:Int))/\∃(y:V4 L.length λ(i:Nat)=>s5 (L.getD i default)),(((Y5 Y7 L L)/\Value.func (Fn.func 211) #[] #[]=Value.func (Fn.func 211) #[] #[]/\(L.length:Int)=(L.length:Int)/\(x.val:Int)+(1:Int)=(y.val:Int)/\True)/\True)/\Lt (L.length-y.val) (L.length-x.val)))/\(decide ((x.val:Int)<(L.length:Int))=false->(-1:Int)=M3 L.length λ(i:Nat)=>s5 (L.getD i default))) ⟨⟨D5,⟨⟨rfl,λ_ _=>rfl⟩,rfl,rfl,Z9⟩,trivial⟩,λx=>⟨λhc=> ?_,λhc=> ?_⟩⟩
 ·have hlt:=Y1 hc;refine⟨Y2 hlt,λhp=>(H7 hlt hp x.2.2).symm,λhp=>⟨V7 hlt (by omega),x.succ hlt hp,⟨⟨⟨rfl,λ_ _=>rfl⟩,rfl,rfl,Z9⟩,trivial⟩,V4.ext_lt hlt⟩⟩
 ·have hge:=X9 hc;exact(F4 λj hj=>x.2.2 j (by omega)).symm
def bI:Rl:=⟨List Rec,λL=>[o5 L,fnT 211],λL=>.bool (anyI L.length λi=>s5 (L.getD i default)),λL=>M7 L.length⟩
def b18:Con:=.rel bI
theorem a67:GK 210 b18:=gk Tryz.func210<|by
 intro L hL;exact S6 (gC a6p gN) Tryz.func210 Z0 (α:=∃(x:a0h.ι),(((L.length=List.length x/\Z6 L.length (Y7 L) (Y7 x))/\Value.func (Fn.func 211) #[] #[]=Value.func (Fn.func 211) #[] #[]/\True)/\M7 (List.length x))/\decide ((M3 (List.length x) λ(i:Nat)=>s5 (List.getD x i default))≥(0:Int))=anyI L.length λ(i:Nat)=>s5 (L.getD i default)) ⟨L,⟨⟨⟨rfl,λ_ _=>rfl⟩,Z9⟩,hL⟩,z7 _ _⟩

noncomputable def dH(L:List Rec)(i:Nat):Bool:= !R2 (L.getD i default)||(L.getD i default).l !=(i:Int)+1
noncomputable def m6(L:List Rec):Bool:= !anyI L.length (dH L)
def b3K(L:List Rec):Prop:=L.length<1000000000000/\∀r ∈ L,r.a.length<140737488355329
noncomputable def rZ:Rl:=⟨List Rec,λL=>[o5 L],λL=>.bool (m6 L),b3K⟩
noncomputable def eR:Con:=.rel rZ
noncomputable def fF(L:List Rec):Nat->Ann
 |0=>.one (V4 L.length (dH L)) (λx=>⟨[(0,o5 L),(5,o5 L),(6,.int .i64 L.length),(7,.int .i64 x.1)],[]⟩) (λx=>L.length-x.1) [] [] (λ_=>Z0)
 |_=>.none
theorem B2{L:List Rec}:m6 L=true↔∀i,i<L.length->R2 (L.getD i default)=true/\(L.getD i default).l=(i:Int)+1:=by
 unfold m6;rw[wD,Bool.eq_false_iff,ne_eq,O1];constructor
 ·intro h i hi;have:¬dH L i=true:=λhb=>h ⟨i,hi,hb⟩
  simpa[dH] using this
 ·rintro h ⟨i,hi,hb⟩;have:=h i hi;unfold dH at hb;rw[this.1,this.2] at hb;simp at hb
theorem lE{L:List Rec}{i:Nat}(h:i<L.length):L.getD i default ∈ L:=by
 rw[L5,L4 h]
 exact List.getElem_mem h
theorem kA:GK 152 eR:=gk Tryz.func152<|by
 intro L hL;obtain⟨hn,hb⟩:b3K L:=hL;refine S6 (gC wY (gC a67 gN)) Tryz.func152 (fF L) (α:=(∃(x:V4 L.length (dH L)),((Y5 Y7 L L)/\(Y5 Y7 L L)/\(L.length:Int)=(L.length:Int)/\(0:Int)=(x.val:Int)/\True)/\True)/\∀(x:V4 L.length (dH L)),(decide ((x.val:Int)<(L.length:Int))=true->W4 (x.val:Int) L.length/\a7p (L.getD (x.val:Int).toNat default).a/\((!R2 (Rec.mk (L.getD (x.val:Int).toNat default).e (L.getD (x.val:Int).toNat default).l (L.getD (x.val:Int).toNat default).t (L.getD (x.val:Int).toNat default).k (L.getD (x.val:Int).toNat default).p (L.getD (x.val:Int).toNat default).n (L.getD (x.val:Int).toNat default).g (L.getD (x.val:Int).toNat default).s (L.getD (x.val:Int).toNat default).b (L.getD (x.val:Int).toNat default).a))=false->X4 .i64 ((x.val:Int)+(1:Int)))/\((!R2 (Rec.mk (L.getD (x.val:Int).toNat default).e (L.getD (x.val:Int).toNat default).l (L.getD (x.val:Int).toNat default).t (L.getD (x.val:Int).toNat default).k (L.getD (x.val:Int).toNat default).p (L.getD (x.val:Int).toNat default).n (L.getD (x.val:Int).toNat default).g (L.getD (x.val:Int).toNat default).s (L.getD (x.val:Int).toNat default).b (L.getD (x.val:Int).toNat default).a)||(L.getD (x.val:Int).toNat default).l !=(x.val:Int)+(1:Int))=true->false=m6 L)/\((!R2 (Rec.mk (L.getD (x.val:Int).toNat default).e (L.getD (x.val:Int).toNat default).l (L.getD (x.val:Int).toNat default).t (L.getD (x.val:Int).toNat default).k (L.getD (x.val:Int).toNat default).p (L.getD (x.val:Int).toNat default).n (L.getD (x.val:Int).toNat default).g (L.getD (x.val:Int).toNat default).s (L.getD (x.val:Int).toNat default).b (L.getD (x.val:Int).toNat default).a)||(L.getD (x.val:Int).toNat default).l !=(x.val:Int)+(1:Int))=false->X4 .i64 ((x.val:Int)+(1:Int))/\∃(y:V4 L.length (dH L)),(((Y5 Y7 L L)/\(Y5 Y7 L L)/\(L.length:Int)=(L.length:Int)/\(x.val:Int)+(1:Int)=(y.val:Int)/\True)/\True)/\Lt (L.length-y.val) (L.length-x.val)))/\(decide ((x.val:Int)<(L.length:Int))=false->∃(x:bI.ι),(((L.length=List.length x/\Z6 L.length (Y7 L) (Y7 x))/\Value.func (Fn.func 211) #[] #[]=Value.func (Fn.func 211) #[] #[]/\True)/\M7 (List.length x))/\(!anyI (List.length x) λ(i:Nat)=>s5 (List.getD x i default))=m6 L)) ⟨⟨D5,⟨⟨rfl,λ_ _=>rfl⟩,⟨rfl,λ_ _=>rfl⟩,rfl,Z9⟩,trivial⟩,λx=>⟨λhc=> ?_,λhc=> ?_⟩⟩
 ·have hlt:=Y1 hc;refine⟨Y2 hlt,hb _ (lE hlt),λ_=>V7 hlt (by omega),λhp=> ?_,λhp=>⟨V7 hlt (by omega),x.succ hlt hp,⟨⟨⟨rfl,λ_ _=>rfl⟩,⟨rfl,λ_ _=>rfl⟩,rfl,Z9⟩,trivial⟩,V4.ext_lt hlt⟩⟩
  have:anyI L.length (dH L)=true:=O1.2 ⟨x.1,hlt,hp⟩;simp[m6,this]
 ·have hge:=X9 hc;have hgood:m6 L=true:=by
   unfold m6;rw[wD,Bool.eq_false_iff,ne_eq,O1];rintro⟨i,hi,h⟩;rw[x.2.2 i (by omega)] at h
   cases h
  refine⟨L,⟨⟨⟨rfl,λ_ _=>rfl⟩,Z9⟩,hn⟩,?_⟩
  rw[hgood,wD,Bool.eq_false_iff,ne_eq,O1];rintro⟨i,hi,h⟩;have h1:=(Q9 _).1 (B2.1 hgood i hi).1;obtain⟨_,_,_,h60,_⟩:=h1;have:¬ (L.getD i default).l>60:=by omega
  simp[s5] at h;simp at this;omega
end Go.Proofs.YtokaojbaacnngaaGreat

