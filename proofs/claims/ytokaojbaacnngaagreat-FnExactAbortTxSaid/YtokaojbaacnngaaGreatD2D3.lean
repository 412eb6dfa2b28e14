/- A part of the proof. -/
import Derived.Test.YtokaojbaacnngaaGreatD0D1
namespace Go.Proofs.YtokaojbaacnngaaGreat
set_option maxRecDepth 100000
open Go.SS

def zF(r:Rec):Prop:=
 1<=r.e/\r.e<=60/\1<=r.l/\r.l<=60/\1<=r.k/\r.k<=6/\0<=r.p/\r.p<=r.l-1/\0<=r.n/\r.n<=r.l-1/\0<=r.g/\r.g<=7/\0<=r.s/\r.s<=3/\r.b.length<=30/\
 (r.k=6->r.t=0/\r.p=0/\r.n=0/\r.g=0/\r.s=0/\r.b=[]/\a1f r.a r.l=true)/\
 (r.k≠6->1<=r.t/\r.t<=60/\r.a.length<=30/\(r.k≠2->r.k≠3->r.g=0/\r.s=0/\r.b=[]/\r.a=[])/\(r.k≠3->r.n=0)/\(r.k=3->r.b=[])/\(r.k=1↔r.p=0))
noncomputable instance(r:Rec):Decidable (zF r):=Classical.propDecidable _
noncomputable def Q6(r:Rec):Bool:=decide (zF r)
theorem Q1(r:Rec):Q6 r=true↔zF r:=decide_eq_true_iff
theorem xI{r:Rec}(h:¬zF r):Q6 r=false:=tW h
def a62(l:List UInt8):Prop:=l.length<140737488355329
noncomputable def nI:List T->Option (T×Option Prop)
 | [.agg [.int .i64 e,.int .i64 l,.int .i64 t,.int .i64 k,.int .i64 p,.int .i64 n,.int .i64 g,.int .i64 s,.str b,.str a]]=>some (.bool (Q6 ⟨e,l,t,k,p,n,g,s,b,a⟩),some (a62 a))
 |_=>none
noncomputable def a1Q:Con:=.pure nI
theorem a0n(r:Rec)(x:Bool)(h:
  ((!V6 r.e (1:Int) (60:Int)|| !V6 r.l (1:Int) (60:Int))=true->false=x)/\((!V6 r.e (1:Int) (60:Int)|| !V6 r.l (1:Int) (60:Int))=false->((r.k==(6:Int))=true->((r.t==(0:Int)&&r.p==(0:
  Int)&&(true&&(true&&(true&&(true&&(true&&(r.n==(0:Int)&&(r.g==(0:Int)&&(r.s==(0:Int)&&(r.b==[]&&true))))))))))=true->cE r.a r.l)/\(r.t==(0:Int)&&r.p==(0:Int)&&(true&&(true&&
  (true&&(true&&(true&&(r.n==(0:Int)&&(r.g==(0:Int)&&(r.s==(0:Int)&&(r.b==[]&&true)))))))))&&a1f r.a r.l)=x)/\((r.k==(6:Int))=false->((r.k==(2:Int))=true->((r.k==(2:Int))=true->
  t8 (8:Int)/\((decide ((0:Int)<=r.g)&&decide (r.g<(8:Int)))=true->t8 (4:Int))/\((!(decide ((0:Int)<=r.g)&&decide (r.g<(8:Int))&&(decide ((0:Int)<=r.s)&&decide (r.s<(4:Int))))||decide
  ((r.b.length:Int)>(30:Int))||decide ((r.a.length:Int)>(30:Int)))=false->(r.k==(3:Int))=true->X2 .i64 (r.l- (1:Int)))/\((!(decide ((0:Int)<=r.g)&&decide (r.g<(8:Int))&&(decide ((0:Int)<=r.s)
  &&decide (r.s<(4:Int))))||decide ((r.b.length:Int)>(30:Int))||decide ((r.a.length:Int)>(30:Int))||r.k==(3:Int)&& !V6 r.n (0:Int) (r.l- (1:Int)))=true->false=x)/\((!(decide ((0:Int)<=r.g)&&
  decide (r.g<(8:Int))&&(decide ((0:Int)<=r.s)&&decide (r.s<(4:Int))))||decide ((r.b.length:Int)>(30:Int))||decide ((r.a.length:Int)>(30:Int))||r.k==(3:Int)&& !V6 r.n (0:Int) (r.l- (1:Int)))=
  false->((r.k==(2:Int))=true->((V6 r.k (1:Int) (5:Int)&&(true&&(true&&(true&&(true&&(true&&(r.n==(0:Int)&&true))))))&&V6 r.t (1:Int) (60:Int))=true->X2 .i64 (r.l- (1:Int)))/\(V6 r.k (1
  :Int) (5:Int)&&(true&&(true&&(true&&(true&&(true&&(r.n==(0:Int)&&true))))))&&V6 r.t (1:Int) (60:Int)&&V6 r.p (0:Int) (r.l- (1:Int))&&(r.p==(0:Int))==(r.k==(1:Int)))=x)/\((r.k==
  (2:Int))=false->((V6 r.k (1:Int) (5:Int)&&(true&&(true&&(true&&(true&&(true&&(true&&(true&&(true&&(r.b==[]&&true)))))))))&&V6 r.t (1:Int) (60:Int))=true->X2 .i64 (r.l- (1:Int)))/\(V6
  r.k (1:Int) (5:Int)&&(true&&(true&&(true&&(true&&(true&&(true&&(true&&(true&&(r.b==[]&&true)))))))))&&V6 r.t (1:Int) (60:Int)&&V6 r.p (0:Int) (r.l- (1:Int))&&(r.p==(0:Int))==(r.k==
  (1:Int)))=x)))/\((r.k==(2:Int))=false->((V6 r.k (1:Int) (5:Int)&&(true&&(true&&(true&&(true&&(true&&(r.n==(0:Int)&&(r.g==(0:Int)&&(r.s==(0:Int)&&(r.b==[]&&(r.a==[]&&
  true))))))))))&&V6 r.t (1:Int) (60:Int))=true->X2 .i64 (r.l- (1:Int)))/\(V6 r.k (1:Int) (5:Int)&&(true&&(true&&(true&&(true&&(true&&(r.n==(0:Int)&&(r.g==(0:Int)&&(r.s==(0:Int)&&
  (r.b==[]&&(r.a==[]&&true))))))))))&&V6 r.t (1:Int) (60:Int)&&V6 r.p (0:Int) (r.l- (1:Int))&&(r.p==(0:Int))==(r.k==(1:Int)))=x))/\((r.k==(2:Int))=false->((r.k==(3:Int))=true->
  t8 (8:Int)/\((decide ((0:Int)<=r.g)&&decide (r.g<(8:Int)))=true->t8 (4:Int))/\((!(decide ((0:Int)<=r.g)&&decide (r.g<(8:Int))&&(decide ((0:Int)<=r.s)&&decide (r.s<(4:Int))))||decide
  ((r.b.length:Int)>(30:Int))||decide ((r.a.length:Int)>(30:Int)))=false->(r.k==(3:Int))=true->X2 .i64 (r.l- (1:Int)))/\((!(decide ((0:Int)<=r.g)&&decide (r.g<(8:Int))&&(decide ((0:Int)<=r.s)
  &&decide (r.s<(4:Int))))||decide ((r.b.length:Int)>(30:Int))||decide ((r.a.length:Int)>(30:Int))||r.k==(3:Int)&& !V6 r.n (0:Int) (r.l- (1:Int)))=true->false=x)/\((!(decide ((0:Int)<=r.g)&&
  decide (r.g<(8:Int))&&(decide ((0:Int)<=r.s)&&decide (r.s<(4:Int))))||decide ((r.b.length:Int)>(30:Int))||decide ((r.a.length:Int)>(30:Int))||r.k==(3:Int)&& !V6 r.n (0:Int) (r.l- (1:Int)))=
  false->((r.k==(2:Int))=true->((V6 r.k (1:Int) (5:Int)&&(true&&(true&&(true&&(true&&(true&&(r.n==(0:Int)&&true))))))&&V6 r.t (1:Int) (60:Int))=true->X2 .i64 (r.l- (1:Int)))/\(V6 r.k (1
  :Int) (5:Int)&&(true&&(true&&(true&&(true&&(true&&(r.n==(0:Int)&&true))))))&&V6 r.t (1:Int) (60:Int)&&V6 r.p (0:Int) (r.l- (1:Int))&&(r.p==(0:Int))==(r.k==(1:Int)))=x)/\((r.k==
  (2:Int))=false->((V6 r.k (1:Int) (5:Int)&&(true&&(true&&(true&&(true&&(true&&(true&&(true&&(true&&(r.b==[]&&true)))))))))&&V6 r.t (1:Int) (60:Int))=true->X2 .i64 (r.l- (1:Int)))/\(V6
  r.k (1:Int) (5:Int)&&(true&&(true&&(true&&(true&&(true&&(true&&(true&&(true&&(r.b==[]&&true)))))))))&&V6 r.t (1:Int) (60:Int)&&V6 r.p (0:Int) (r.l- (1:Int))&&(r.p==(0:Int))==(r.k==
  (1:Int)))=x)))/\((r.k==(3:Int))=false->((V6 r.k (1:Int) (5:Int)&&(true&&(true&&(true&&(true&&(true&&(r.n==(0:Int)&&(r.g==(0:Int)&&(r.s==(0:Int)&&(r.b==[]&&(r.a==[]&&
  true))))))))))&&V6 r.t (1:Int) (60:Int))=true->X2 .i64 (r.l- (1:Int)))/\(V6 r.k (1:Int) (5:Int)&&(true&&(true&&(true&&(true&&(true&&(r.n==(0:Int)&&(r.g==(0:Int)&&(r.s==(0:Int)&&
  (r.b==[]&&(r.a==[]&&true))))))))))&&V6 r.t (1:Int) (60:Int)&&V6 r.p (0:Int) (r.l- (1:Int))&&(r.p==(0:Int))==(r.k==(1:Int)))=x))))):
  U3 Tryz.prog 196 [.agg r.ts] (.bool x):=
 S3 (gC a23 (gC N4 (gC wM gN))) Tryz.func196 Z0 h
theorem b9V{p k a b:Int}:((p==a)=(k==b))↔(k=b↔p=a):=by
 rw[Bool.eq_iff_iff,beq_iff_eq,beq_iff_eq];exact Iff.comm
theorem uR{a b:Bool}(h:a=true↔b=true):a=b:=by cases a<;>cases b<;>simp_all
theorem wG:GK 196 a1Q:=gk Tryz.func196<|by
 intro args res p h hp;unfold nI at h;split at h
 ·rename_i e l t k p n g s b a;simp only[W8,U0] at h;obtain⟨rfl,rfl⟩:=h;have hp:a.length<140737488355329:=hp;refine a0n ⟨e,l,t,k,p,n,g,s,b,a⟩ _ ?_
  simp only[Rec.e,Rec.l,Rec.t,Rec.k,Rec.p,Rec.n,Rec.g,Rec.s,Rec.b,Rec.a];have s8:t8 8:=by unfold t8;omega
  have s4:t8 4:=by unfold t8;omega
  refine⟨λh=> ?_,λh=> ?_⟩
  ·refine(xI ?_).symm
   simp only[nO,vO,V6,Bool.and_eq_false_iff,tQ] at h;unfold zF;simp only;omega
  simp only[tU,xE,V6,I3,m5] at h;have hr:X2 .i64 (l-1):=Z4 (by omega)
  have hs:cE a l:=⟨hp,by omega,by omega⟩
  by_cases h6:k=6
  ·subst h6;refine⟨λ_=>⟨λ_=>hs,uR ?_⟩,λh=>by simp at h⟩
   rw[Q1];simp only[zF,m5,I3,beq_iff_eq,true_and,and_true];constructor
   ·rintro⟨⟨⟨rfl,rfl⟩,rfl,rfl,rfl,rfl⟩,hc⟩;simp[hc];omega
   ·rintro⟨_,_,_,_,_,_,_,_,_,_,_,_,_,_,_,hh,_⟩;obtain⟨rfl,rfl,rfl,rfl,rfl,rfl,hc⟩:=hh trivial;simp[hc]
  refine⟨λh=>absurd (by simpa using h) h6,λ_=> ?_⟩
  by_cases h2:k=2
  ·subst h2;refine⟨λ_=>⟨λ_=>⟨s8,λ_=>s4,λ_ h=>by simp at h,λhb=> ?_,λhb=>⟨λ_=>⟨λ_=>hr,uR ?_⟩,λh=>by simp at h⟩⟩,λh=>by simp at h⟩,λh=>by simp at h⟩
   ·refine(xI ?_).symm
    simp only[nO,vO,V6,Bool.and_eq_false_iff,tQ,m5,I3] at hb;unfold zF;simp only;simp at hb;omega
   ·simp[V6] at hb;rw[Q1];simp only[zF,m5,I3,beq_iff_eq,true_and,and_true,V6,b9V];simp;omega
  by_cases h3:k=3
  ·subst h3;refine⟨λh=>by simp at h,λ_=>⟨λ_=>⟨s8,λ_=>s4,λ_ _=>hr,λhb=> ?_,λhb=>⟨λh=>by simp at h,λ_=>⟨λ_=>hr,uR ?_⟩⟩⟩,λh=>by simp at h⟩⟩
   ·refine(xI ?_).symm
    unfold zF;simp only;simp[V6] at hb;omega
   ·simp[V6] at hb;rw[Q1];simp only[zF,m5,I3,beq_iff_eq,true_and,and_true,V6,b9V];by_cases hbn:b=[]
    ·subst hbn;simp;omega
    ·simp[hbn]
  ·refine⟨λh=>absurd (by simpa using h) h2,λ_=>⟨λh=>absurd (by simpa using h) h3,λ_=>⟨λ_=>hr,uR ?_⟩⟩⟩
   rw[Q1];simp only[zF,m5,I3,beq_iff_eq,true_and,and_true,V6,b9V];constructor
   ·intro hh;have hb:b.length=0:=by simp[hh.1.1.1.2.2.2.2.1]
    have ha:a.length=0:=by simp[hh.1.1.1.2.2.2.2.2]
    simp[h2,h3,h6,hh.1.1.1.2.2.2.2.1,hh.1.1.1.2.2.2.2.2] at hh ⊢;omega
   ·intro hh;obtain⟨a1,a2,a3,a4,a5,a6,a7,a8,a9,a10,a11,a12,a13,a14,a15,_,hh⟩:=hh;obtain⟨b1,b2,b3,b4,b5,b6,b7⟩:=hh h6;obtain⟨c1,c2,c3,c4⟩:=b4 h2 h3;have c5:=b5 h3;simp[c1,c2,c3,c4,c5];omega
 ·cases h
end Go.Proofs.YtokaojbaacnngaaGreat

namespace Go.Proofs.YtokaojbaacnngaaGreat
set_option maxRecDepth 100000
open Go.SS

def R0(n:Nat)(p:Nat->Bool):Int:=match(List.range n).find? p with|some i=>(i:Int)|none=> -1
theorem L5{n:Nat}{p:Nat->Bool}{i:Nat}(hi:i<n)(hp:p i=true)(h:∀j,j<i->p j=false):R0 n p=i:=by
 have:(List.range n).find? p=some i:=by
  rw[List.find?_range_eq_some]
  exact⟨hp,List.mem_range.2 hi,λj hj=>by simp[h j hj]⟩
 unfold R0;rw[this]
theorem J9{n:Nat}{p:Nat->Bool}(h:∀j,j<n->p j=false):R0 n p= -1:=by
 have:(List.range n).find? p=none:=by
  rw[List.find?_range_eq_none]
  intro j hj;simp[h j hj]
 unfold R0;rw[this]
def anyI(n:Nat)(p:Nat->Bool):Bool:=(List.range n).any p
theorem y8(n:Nat)(p:Nat->Bool):decide (R0 n p≥0)=anyI n p:=by
 unfold R0 anyI;cases h:(List.range n).find? p with
 |none=>
  rw[List.find?_eq_none] at h
  have:(List.range n).any p=false:=by
   rw[List.any_eq_false];exact h
  rw[this];rfl
 |some i=>
  have h1:=List.find?_some h
  have h2:=List.mem_of_find?_eq_some h
  have:(List.range n).any p=true:=List.any_eq_true.2 ⟨i,h2,h1⟩;rw[this];simp
theorem O1{n:Nat}{p:Nat->Bool}:anyI n p=true↔∃i,i<n/\p i=true:=by
 unfold anyI;simp
def V3(n:Nat)(p:Nat->Bool):Type:={i:Nat//i<=n/\∀j,j<i->p j=false}

theorem V3.ext_lt{n:Nat}{i:Nat}(h:i<n):Lt (n- (i+1)) (n-i):=by unfold Lt;omega
theorem X9{i n:Nat}(h:decide ((i:Int)<(n:Int))=false):n<=i:=by simpa using h
theorem Y1{i n:Nat}(h:decide ((i:Int)<(n:Int))=true):i<n:=by simpa using h
theorem Y3{i n:Nat}(h:i<n):W2 (i:Int) n:=⟨by omega,by omega⟩
theorem V5{i n:Nat}(h:i<n)(hn:n<1000000000000000):X2 .i64 ((i:Int)+1):=Z4 (by omega)
def E8{n:Nat}{p:Nat->Bool}:V3 n p:=⟨0,S2 _,λj hj=>absurd hj (F3 j)⟩
def V3.succ{n:Nat}{p:Nat->Bool}(x:V3 n p)(h:x.1<n)(hp:p x.1=false):V3 n p:=
 ⟨x.1+1,h,λj hj=>by rcases Nat.lt_or_ge j x.1 with h1|h1;exact x.2.2 j h1;(obtain rfl:j=x.1:=by omega);exact hp⟩

def Y7(L:List Rec)(i:Nat):List T:=(L.getD i default).ts
def l9(L:List Rec):T:=.sl 10 L.length (Y7 L)
def t3(r:Rec):Bool:=decide (r.l>60)
def tI:List T->Option (T×Option Prop)
 | [.agg [.int .i64 e,.int .i64 l,.int .i64 t,.int .i64 k,.int .i64 p,.int .i64 n,.int .i64 g,.int .i64 s,.str b,.str a]]=>some (.bool (t3 ⟨e,l,t,k,p,n,g,s,b,a⟩),none)
 |_=>none
def jJ:Con:=.pure tI
theorem jF(r:Rec)(h:
  decide (r.l>(60:Int))=t3 r):
  U3 Tryz.prog 211 [.agg r.ts] (.bool (t3 r)):=
 S3 gN Tryz.func211 Z0 h
theorem mC:GK 211 jJ:=gk Tryz.func211<|by
 intro args res p h hp;unfold tI at h;split at h
 ·simp only[W8,U0] at h;obtain⟨rfl,rfl⟩:=h;exact jF ⟨_,_,_,_,_,_,_,_,_,_⟩ rfl
 ·cases h

def fnT(f:Nat):T:=.v (.func (.func f) #[] #[])
def N3(n:Nat):Prop:=n<1000000000000
def a0Y:Rl:=⟨List Rec,λL=>[l9 L,fnT 211],λL=>.int .i64 (R0 L.length λi=>t3 (L.getD i default)),λL=>N3 L.length⟩
def b0T:Con:=.rel a0Y
def b3G(L:List Rec):Nat->Ann
 |0=>.one (V3 L.length λi=>t3 (L.getD i default)) (λx=>⟨[(0,l9 L),(1,fnT 211),(7,.int .i64 L.length),(8,.int .i64 x.1)],[]⟩) (λx=>L.length-x.1) [] [] (λ_=>Z0)
 |_=>.none
theorem a8v:GK 253 b0T:=gk Tryz.func253<|by
 intro L hL;have hL:L.length<1000000000000:=hL;refine S3 (gC mC gN) Tryz.func253 (b3G L) (α:=(∃(x:V3 L.length λ(i:Nat)=>t3 (L.getD i default)),((Y6 Y7 L L)/\Value.func (Fn.func 211) #[] #[]=Value.func (Fn.func 211) #[] #[]/\(L.length:Int)=(L.length:Int)/\(0:Int)=(x.val:Int)/\True)/\True)/\∀(x:V3 L.length λ(i:Nat)=>t3 (L.getD i default)),(decide ((x.val:Int)<(L.length:Int))=true->W2 (x.val:Int) L.length/\(t3 (Rec.mk (L.getD (x.val:Int).toNat default).e (L.getD (x.val:Int).toNat default).l (L.getD (x.val:Int).toNat default).t (L.getD (x.val:Int).toNat default).k (L.getD (x.val:Int).toNat default).p (L.getD (x.val:Int).toNat default).n (L.getD (x.val:Int).toNat default).g (L.getD (x.val:Int).toNat default).s (L.getD (x.val:Int).toNat default).b (L.getD (x.val:Int).toNat default).a)=true->(x.val:Int)=R0 L.length λ(i:Nat)=>t3 (L.getD i default))/\(t3 (Rec.mk (L.getD (x.val:Int).toNat default).e (L.getD (x.val:Int).toNat default).l (L.getD (x.val:Int).toNat default).t (L.getD (x.val:Int).toNat default).k (L.getD (x.val:Int).toNat default).p (L.getD (x.val:Int).toNat default).n (L.getD (x.val:Int).toNat default).g (L.getD (x.val:Int).toNat default).s (L.getD (x.val:Int).toNat default).b (L.getD (x.val:Int).toNat default).a)=false->X2 .i64 ((x.val:Int)+(1:Int))/\∃(y:V3 L.length λ(i:Nat)=>t3 (L.getD i default)),(((Y6 Y7 L L)/\Value.func (Fn.func 211) #[] #[]=Value.func (Fn.func 211) #[] #[]/\(L.length:Int)=(L.length:Int)/\(x.val:Int)+(1:Int)=(y.val:Int)/\True)/\True)/\Lt (L.length-y.val) (L.length-x.val)))/\(decide ((x.val:Int)<(L.length:Int))=false->(-1:Int)=R0 L.length λ(i:Nat)=>t3 (L.getD i default))) ⟨⟨E8,⟨⟨rfl,λ_ _=>rfl⟩,rfl,rfl,Z9⟩,trivial⟩,λx=>⟨λhc=> ?_,λhc=> ?_⟩⟩
 ·have hlt:=Y1 hc;refine⟨Y3 hlt,λhp=>(L5 hlt hp x.2.2).symm,λhp=>⟨V5 hlt (by omega),x.succ hlt hp,⟨⟨⟨rfl,λ_ _=>rfl⟩,rfl,rfl,Z9⟩,trivial⟩,V3.ext_lt hlt⟩⟩
 ·have hge:=X9 hc;exact(J9 λj hj=>x.2.2 j (by omega)).symm
def a1c:Rl:=⟨List Rec,λL=>[l9 L,fnT 211],λL=>.bool (anyI L.length λi=>t3 (L.getD i default)),λL=>N3 L.length⟩
def b0Q:Con:=.rel a1c
theorem a75:GK 210 b0Q:=gk Tryz.func210<|by
 intro L hL;exact S3 (gC a8v gN) Tryz.func210 Z0 (α:=∃(x:a0Y.ι),(((L.length=List.length x/\Z6 L.length (Y7 L) (Y7 x))/\Value.func (Fn.func 211) #[] #[]=Value.func (Fn.func 211) #[] #[]/\True)/\N3 (List.length x))/\decide ((R0 (List.length x) λ(i:Nat)=>t3 (List.getD x i default))≥(0:Int))=anyI L.length λ(i:Nat)=>t3 (L.getD i default)) ⟨L,⟨⟨⟨rfl,λ_ _=>rfl⟩,Z9⟩,hL⟩,y8 _ _⟩

noncomputable def fL(L:List Rec)(i:Nat):Bool:= !Q6 (L.getD i default)||(L.getD i default).l !=(i:Int)+1
noncomputable def k9(L:List Rec):Bool:= !anyI L.length (fL L)
def b6A(L:List Rec):Prop:=L.length<1000000000000/\∀r ∈ L,r.a.length<140737488355329
noncomputable def qY:Rl:=⟨List Rec,λL=>[l9 L],λL=>.bool (k9 L),b6A⟩
noncomputable def eG:Con:=.rel qY
noncomputable def eT(L:List Rec):Nat->Ann
 |0=>.one (V3 L.length (fL L)) (λx=>⟨[(0,l9 L),(5,l9 L),(6,.int .i64 L.length),(7,.int .i64 x.1)],[]⟩) (λx=>L.length-x.1) [] [] (λ_=>Z0)
 |_=>.none
theorem z9{L:List Rec}:k9 L=true↔∀i,i<L.length->Q6 (L.getD i default)=true/\(L.getD i default).l=(i:Int)+1:=by
 unfold k9;rw[vO,Bool.eq_false_iff,ne_eq,O1];constructor
 ·intro h i hi;have:¬fL L i=true:=λhb=>h ⟨i,hi,hb⟩
  simpa[fL] using this
 ·rintro h ⟨i,hi,hb⟩;have:=h i hi;unfold fL at hb;rw[this.1,this.2] at hb;simp at hb
theorem mK{L:List Rec}{i:Nat}(h:i<L.length):L.getD i default ∈ L:=by
 rw[N9,L4 h]
 exact List.getElem_mem h
theorem jV:GK 152 eG:=gk Tryz.func152<|by
 intro L hL;obtain⟨hn,hb⟩:b6A L:=hL;refine S3 (gC wG (gC a75 gN)) Tryz.func152 (eT L) (α:=(∃(x:V3 L.length (fL L)),((Y6 Y7 L L)/\(Y6 Y7 L L)/\(L.length:Int)=(L.length:Int)/\(0:Int)=(x.val:Int)/\True)/\True)/\∀(x:V3 L.length (fL L)),(decide ((x.val:Int)<(L.length:Int))=true->W2 (x.val:Int) L.length/\a62 (L.getD (x.val:Int).toNat default).a/\((!Q6 (Rec.mk (L.getD (x.val:Int).toNat default).e (L.getD (x.val:Int).toNat default).l (L.getD (x.val:Int).toNat default).t (L.getD (x.val:Int).toNat default).k (L.getD (x.val:Int).toNat default).p (L.getD (x.val:Int).toNat default).n (L.getD (x.val:Int).toNat default).g (L.getD (x.val:Int).toNat default).s (L.getD (x.val:Int).toNat default).b (L.getD (x.val:Int).toNat default).a))=false->X2 .i64 ((x.val:Int)+(1:Int)))/\((!Q6 (Rec.mk (L.getD (x.val:Int).toNat default).e (L.getD (x.val:Int).toNat default).l (L.getD (x.val:Int).toNat default).t (L.getD (x.val:Int).toNat default).k (L.getD (x.val:Int).toNat default).p (L.getD (x.val:Int).toNat default).n (L.getD (x.val:Int).toNat default).g (L.getD (x.val:Int).toNat default).s (L.getD (x.val:Int).toNat default).b (L.getD (x.val:Int).toNat default).a)||(L.getD (x.val:Int).toNat default).l !=(x.val:Int)+(1:Int))=true->false=k9 L)/\((!Q6 (Rec.mk (L.getD (x.val:Int).toNat default).e (L.getD (x.val:Int).toNat default).l (L.getD (x.val:Int).toNat default).t (L.getD (x.val:Int).toNat default).k (L.getD (x.val:Int).toNat default).p (L.getD (x.val:Int).toNat default).n (L.getD (x.val:Int).toNat default).g (L.getD (x.val:Int).toNat default).s (L.getD (x.val:Int).toNat default).b (L.getD (x.val:Int).toNat default).a)||(L.getD (x.val:Int).toNat default).l !=(x.val:Int)+(1:Int))=false->X2 .i64 ((x.val:Int)+(1:Int))/\∃(y:V3 L.length (fL L)),(((Y6 Y7 L L)/\(Y6 Y7 L L)/\(L.length:Int)=(L.length:Int)/\(x.val:Int)+(1:Int)=(y.val:Int)/\True)/\True)/\Lt (L.length-y.val) (L.length-x.val)))/\(decide ((x.val:Int)<(L.length:Int))=false->∃(x:a1c.ι),(((L.length=List.length x/\Z6 L.length (Y7 L) (Y7 x))/\Value.func (Fn.func 211) #[] #[]=Value.func (Fn.func 211) #[] #[]/\True)/\N3 (List.length x))/\(!anyI (List.length x) λ(i:Nat)=>t3 (List.getD x i default))=k9 L)) ⟨⟨E8,⟨⟨rfl,λ_ _=>rfl⟩,⟨rfl,λ_ _=>rfl⟩,rfl,Z9⟩,trivial⟩,λx=>⟨λhc=> ?_,λhc=> ?_⟩⟩
 ·have hlt:=Y1 hc;refine⟨Y3 hlt,hb _ (mK hlt),λ_=>V5 hlt (by omega),λhp=> ?_,λhp=>⟨V5 hlt (by omega),x.succ hlt hp,⟨⟨⟨rfl,λ_ _=>rfl⟩,⟨rfl,λ_ _=>rfl⟩,rfl,Z9⟩,trivial⟩,V3.ext_lt hlt⟩⟩
  have:anyI L.length (fL L)=true:=O1.2 ⟨x.1,hlt,hp⟩;simp[k9,this]
 ·have hge:=X9 hc;have hgood:k9 L=true:=by
   unfold k9;rw[vO,Bool.eq_false_iff,ne_eq,O1];rintro⟨i,hi,h⟩;rw[x.2.2 i (by omega)] at h
   cases h
  refine⟨L,⟨⟨⟨rfl,λ_ _=>rfl⟩,Z9⟩,hn⟩,?_⟩
  rw[hgood,vO,Bool.eq_false_iff,ne_eq,O1];rintro⟨i,hi,h⟩;have h1:=(Q1 _).1 (z9.1 hgood i hi).1;obtain⟨_,_,_,h60,_⟩:=h1;have:¬ (L.getD i default).l>60:=by omega
  simp[t3] at h;simp at this;omega
end Go.Proofs.YtokaojbaacnngaaGreat

