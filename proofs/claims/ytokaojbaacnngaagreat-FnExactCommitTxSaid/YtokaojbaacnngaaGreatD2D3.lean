/- A part of the proof. -/
import Derived.Test.YtokaojbaacnngaaGreatD0D1
namespace Go.Proofs.YtokaojbaacnngaaGreat
set_option maxRecDepth 100000
open Go.SS

def m7(r:Rec):Prop:=
 1<=r.e/\r.e<=60/\1<=r.l/\r.l<=60/\1<=r.k/\r.k<=6/\0<=r.p/\r.p<=r.l-1/\0<=r.n/\r.n<=r.l-1/\0<=r.g/\r.g<=7/\0<=r.s/\r.s<=3/\r.b.length<=30/\
 (r.k=6->r.t=0/\r.p=0/\r.n=0/\r.g=0/\r.s=0/\r.b=[]/\a8Z r.a r.l=true)/\
 (r.k≠6->1<=r.t/\r.t<=60/\r.a.length<=30/\(r.k≠2->r.k≠3->r.g=0/\r.s=0/\r.b=[]/\r.a=[])/\(r.k≠3->r.n=0)/\(r.k=3->r.b=[])/\(r.k=1↔r.p=0))
noncomputable instance(r:Rec):Decidable (m7 r):=Classical.propDecidable _
noncomputable def S2(r:Rec):Bool:=decide (m7 r)
theorem Q8(r:Rec):S2 r=true↔m7 r:=decide_eq_true_iff
theorem e9{r:Rec}(h:¬m7 r):S2 r=false:=decide_eq_false h
def c08(l:List UInt8):Prop:=l.length<140737488355329
noncomputable def a4s:List T->Option (T×Option Prop)
 | [.agg [.int .i64 e,.int .i64 l,.int .i64 t,.int .i64 k,.int .i64 p,.int .i64 n,.int .i64 g,.int .i64 s,.str b,.str a]]=>some (.bool (S2 ⟨e,l,t,k,p,n,g,s,b,a⟩),some (c08 a))
 |_=>none
noncomputable def b1S:Con:=.pure a4s
noncomputable def b0w:Code:=Tryz.f196.body.getD .skip
theorem o9:Z8 Tryz.prog 196:=⟨_,Tryz.func196,by kernel_rfl,by kernel_rfl⟩
theorem b2p(r:Rec)(x:Bool)(h:
  ((!W9 r.e (1:Int) (60:Int)|| !W9 r.l (1:Int) (60:Int))=true->false=x)/\((!W9 r.e (1:Int) (60:Int)|| !W9 r.l (1:Int) (60:Int))=false->((r.k==(6:Int))=true->((r.t==(0:Int)&&r.p==(0:
  Int)&&(true&&(true&&(true&&(true&&(true&&(r.n==(0:Int)&&(r.g==(0:Int)&&(r.s==(0:Int)&&(r.b==[]&&true))))))))))=true->a9q r.a r.l)/\(r.t==(0:Int)&&r.p==(0:Int)&&(true&&(true&&
  (true&&(true&&(true&&(r.n==(0:Int)&&(r.g==(0:Int)&&(r.s==(0:Int)&&(r.b==[]&&true)))))))))&&a8Z r.a r.l)=x)/\((r.k==(6:Int))=false->((r.k==(2:Int))=true->((r.k==(2:Int))=true->
  A5 (8:Int)/\((decide ((0:Int)<=r.g)&&decide (r.g<(8:Int)))=true->A5 (4:Int))/\((!(decide ((0:Int)<=r.g)&&decide (r.g<(8:Int))&&(decide ((0:Int)<=r.s)&&decide (r.s<(4:Int))))||decide
  ((r.b.length:Int)>(30:Int))||decide ((r.a.length:Int)>(30:Int)))=false->(r.k==(3:Int))=true->X6 .i64 (r.l- (1:Int)))/\((!(decide ((0:Int)<=r.g)&&decide (r.g<(8:Int))&&(decide ((0:Int)<=r.s)
  &&decide (r.s<(4:Int))))||decide ((r.b.length:Int)>(30:Int))||decide ((r.a.length:Int)>(30:Int))||r.k==(3:Int)&& !W9 r.n (0:Int) (r.l- (1:Int)))=true->false=x)/\((!(decide ((0:Int)<=r.g)&&
  decide (r.g<(8:Int))&&(decide ((0:Int)<=r.s)&&decide (r.s<(4:Int))))||decide ((r.b.length:Int)>(30:Int))||decide ((r.a.length:Int)>(30:Int))||r.k==(3:Int)&& !W9 r.n (0:Int) (r.l- (1:Int)))=
  false->((r.k==(2:Int))=true->((W9 r.k (1:Int) (5:Int)&&(true&&(true&&(true&&(true&&(true&&(r.n==(0:Int)&&true))))))&&W9 r.t (1:Int) (60:Int))=true->X6 .i64 (r.l- (1:Int)))/\(W9 r.k (1
  :Int) (5:Int)&&(true&&(true&&(true&&(true&&(true&&(r.n==(0:Int)&&true))))))&&W9 r.t (1:Int) (60:Int)&&W9 r.p (0:Int) (r.l- (1:Int))&&(r.p==(0:Int))==(r.k==(1:Int)))=x)/\((r.k==
  (2:Int))=false->((W9 r.k (1:Int) (5:Int)&&(true&&(true&&(true&&(true&&(true&&(true&&(true&&(true&&(r.b==[]&&true)))))))))&&W9 r.t (1:Int) (60:Int))=true->X6 .i64 (r.l- (1:Int)))/\(W9
  r.k (1:Int) (5:Int)&&(true&&(true&&(true&&(true&&(true&&(true&&(true&&(true&&(r.b==[]&&true)))))))))&&W9 r.t (1:Int) (60:Int)&&W9 r.p (0:Int) (r.l- (1:Int))&&(r.p==(0:Int))==(r.k==
  (1:Int)))=x)))/\((r.k==(2:Int))=false->((W9 r.k (1:Int) (5:Int)&&(true&&(true&&(true&&(true&&(true&&(r.n==(0:Int)&&(r.g==(0:Int)&&(r.s==(0:Int)&&(r.b==[]&&(r.a==[]&&
  true))))))))))&&W9 r.t (1:Int) (60:Int))=true->X6 .i64 (r.l- (1:Int)))/\(W9 r.k (1:Int) (5:Int)&&(true&&(true&&(true&&(true&&(true&&(r.n==(0:Int)&&(r.g==(0:Int)&&(r.s==(0:Int)&&
  (r.b==[]&&(r.a==[]&&true))))))))))&&W9 r.t (1:Int) (60:Int)&&W9 r.p (0:Int) (r.l- (1:Int))&&(r.p==(0:Int))==(r.k==(1:Int)))=x))/\((r.k==(2:Int))=false->((r.k==(3:Int))=true->
  A5 (8:Int)/\((decide ((0:Int)<=r.g)&&decide (r.g<(8:Int)))=true->A5 (4:Int))/\((!(decide ((0:Int)<=r.g)&&decide (r.g<(8:Int))&&(decide ((0:Int)<=r.s)&&decide (r.s<(4:Int))))||decide
  ((r.b.length:Int)>(30:Int))||decide ((r.a.length:Int)>(30:Int)))=false->(r.k==(3:Int))=true->X6 .i64 (r.l- (1:Int)))/\((!(decide ((0:Int)<=r.g)&&decide (r.g<(8:Int))&&(decide ((0:Int)<=r.s)
  &&decide (r.s<(4:Int))))||decide ((r.b.length:Int)>(30:Int))||decide ((r.a.length:Int)>(30:Int))||r.k==(3:Int)&& !W9 r.n (0:Int) (r.l- (1:Int)))=true->false=x)/\((!(decide ((0:Int)<=r.g)&&
  decide (r.g<(8:Int))&&(decide ((0:Int)<=r.s)&&decide (r.s<(4:Int))))||decide ((r.b.length:Int)>(30:Int))||decide ((r.a.length:Int)>(30:Int))||r.k==(3:Int)&& !W9 r.n (0:Int) (r.l- (1:Int)))=
  false->((r.k==(2:Int))=true->((W9 r.k (1:Int) (5:Int)&&(true&&(true&&(true&&(true&&(true&&(r.n==(0:Int)&&true))))))&&W9 r.t (1:Int) (60:Int))=true->X6 .i64 (r.l- (1:Int)))/\(W9 r.k (1
  :Int) (5:Int)&&(true&&(true&&(true&&(true&&(true&&(r.n==(0:Int)&&true))))))&&W9 r.t (1:Int) (60:Int)&&W9 r.p (0:Int) (r.l- (1:Int))&&(r.p==(0:Int))==(r.k==(1:Int)))=x)/\((r.k==
  (2:Int))=false->((W9 r.k (1:Int) (5:Int)&&(true&&(true&&(true&&(true&&(true&&(true&&(true&&(true&&(r.b==[]&&true)))))))))&&W9 r.t (1:Int) (60:Int))=true->X6 .i64 (r.l- (1:Int)))/\(W9
  r.k (1:Int) (5:Int)&&(true&&(true&&(true&&(true&&(true&&(true&&(true&&(true&&(r.b==[]&&true)))))))))&&W9 r.t (1:Int) (60:Int)&&W9 r.p (0:Int) (r.l- (1:Int))&&(r.p==(0:Int))==(r.k==
  (1:Int)))=x)))/\((r.k==(3:Int))=false->((W9 r.k (1:Int) (5:Int)&&(true&&(true&&(true&&(true&&(true&&(r.n==(0:Int)&&(r.g==(0:Int)&&(r.s==(0:Int)&&(r.b==[]&&(r.a==[]&&
  true))))))))))&&W9 r.t (1:Int) (60:Int))=true->X6 .i64 (r.l- (1:Int)))/\(W9 r.k (1:Int) (5:Int)&&(true&&(true&&(true&&(true&&(true&&(r.n==(0:Int)&&(r.g==(0:Int)&&(r.s==(0:Int)&&
  (r.b==[]&&(r.a==[]&&true))))))))))&&W9 r.t (1:Int) (60:Int)&&W9 r.p (0:Int) (r.l- (1:Int))&&(r.p==(0:Int))==(r.k==(1:Int)))=x))))):
  Z1 Tryz.prog 196 [.agg r.ts] (.bool x):=
 T7 (code:=b0w) (gC b4w a8u (gC P4 S0 (gC a0y w7 gN))) Tryz.func196 (by kernel_rfl) (by kernel_rfl) Z0 h (by kernel_rfl)
theorem d4f{p k a b:Int}:((p==a)=(k==b))↔(k=b↔p=a):=by
 rw[Bool.eq_iff_iff,beq_iff_eq,beq_iff_eq];exact Iff.comm
theorem a0Z{a b:Bool}(h:a=true↔b=true):a=b:=by cases a<;>cases b<;>simp_all
theorem a0r:Z2 Tryz.prog 196 b1S:=by
 intro args res p h hp;unfold a4s at h;split at h
 ·rename_i e l t k p n g s b a;simp only[Option.some.injEq,Prod.mk.injEq] at h;obtain⟨rfl,rfl⟩:=h;have hp:a.length<140737488355329:=hp;refine b2p ⟨e,l,t,k,p,n,g,s,b,a⟩ _ ?_
  simp only[Rec.e,Rec.l,Rec.t,Rec.k,Rec.p,Rec.n,Rec.g,Rec.s,Rec.b,Rec.a];have s8:A5 8:=by unfold A5;omega
  have s4:A5 4:=by unfold A5;omega
  refine⟨fun h=> ?_,fun h=> ?_⟩
  ·refine(e9 ?_).symm
   simp only[Bool.or_eq_true,Bool.not_eq_true',W9,Bool.and_eq_false_iff,decide_eq_false_iff_not] at h;unfold m7;simp only;omega
  simp only[Bool.or_eq_false_iff,Bool.not_eq_false',W9,Bool.and_eq_true,decide_eq_true_eq] at h;have hr:X6 .i64 (l-1):=Z5 (by omega)
  have hs:a9q a l:=⟨hp,by omega,by omega⟩
  by_cases h6:k=6
  ·subst h6;refine⟨fun _=>⟨fun _=>hs,a0Z ?_⟩,fun h=>by simp at h⟩
   rw[Q8];simp only[m7,decide_eq_true_eq,Bool.and_eq_true,beq_iff_eq,true_and,and_true];constructor
   ·rintro⟨⟨⟨rfl,rfl⟩,rfl,rfl,rfl,rfl⟩,hc⟩;simp[hc];omega
   ·rintro⟨_,_,_,_,_,_,_,_,_,_,_,_,_,_,_,hh,_⟩;obtain⟨rfl,rfl,rfl,rfl,rfl,rfl,hc⟩:=hh trivial;simp[hc]
  refine⟨fun h=>absurd (by simpa using h) h6,fun _=> ?_⟩
  by_cases h2:k=2
  ·subst h2;refine⟨fun _=>⟨fun _=>⟨s8,fun _=>s4,fun _ h=>by simp at h,fun hb=> ?_,fun hb=>⟨fun _=>⟨fun _=>hr,a0Z ?_⟩,fun h=>by simp at h⟩⟩,fun h=>by simp at h⟩,fun h=>by simp at h⟩
   ·refine(e9 ?_).symm
    simp only[Bool.or_eq_true,Bool.not_eq_true',W9,Bool.and_eq_false_iff,decide_eq_false_iff_not,decide_eq_true_eq,Bool.and_eq_true] at hb;unfold m7;simp only;simp at hb;omega
   ·simp[W9] at hb;rw[Q8];simp only[m7,decide_eq_true_eq,Bool.and_eq_true,beq_iff_eq,true_and,and_true,W9,d4f];simp;omega
  by_cases h3:k=3
  ·subst h3;refine⟨fun h=>by simp at h,fun _=>⟨fun _=>⟨s8,fun _=>s4,fun _ _=>hr,fun hb=> ?_,fun hb=>⟨fun h=>by simp at h,fun _=>⟨fun _=>hr,a0Z ?_⟩⟩⟩,fun h=>by simp at h⟩⟩
   ·refine(e9 ?_).symm
    unfold m7;simp only;simp[W9] at hb;omega
   ·simp[W9] at hb;rw[Q8];simp only[m7,decide_eq_true_eq,Bool.and_eq_true,beq_iff_eq,true_and,and_true,W9,d4f];by_cases hbn:b=[]
    ·subst hbn;simp;omega
    ·simp[hbn]
  ·refine⟨fun h=>absurd (by simpa using h) h2,fun _=>⟨fun h=>absurd (by simpa using h) h3,fun _=>⟨fun _=>hr,a0Z ?_⟩⟩⟩
   rw[Q8];simp only[m7,decide_eq_true_eq,Bool.and_eq_true,beq_iff_eq,true_and,and_true,W9,d4f];constructor
   ·intro hh;have hb:b.length=0:=by simp[hh.1.1.1.2.2.2.2.1]
    have ha:a.length=0:=by simp[hh.1.1.1.2.2.2.2.2]
    simp[h2,h3,h6,hh.1.1.1.2.2.2.2.1,hh.1.1.1.2.2.2.2.2] at hh ⊢;omega
   ·intro hh;obtain⟨a1,a2,a3,a4,a5,a6,a7,a8,a9,a10,a11,a12,a13,a14,a15,_,hh⟩:=hh;obtain⟨b1,b2,b3,b4,b5,b6,b7⟩:=hh h6;obtain⟨c1,c2,c3,c4⟩:=b4 h2 h3;have c5:=b5 h3;simp[c1,c2,c3,c4,c5];omega
 ·cases h
end Go.Proofs.YtokaojbaacnngaaGreat

namespace Go.Proofs.YtokaojbaacnngaaGreat
set_option maxRecDepth 100000
open Go.SS

def T4(n:Nat)(p:Nat->Bool):Int:=match(List.range n).find? p with|some i=>(i:Int)|none=> -1
theorem N9{n:Nat}{p:Nat->Bool}{i:Nat}(hi:i<n)(hp:p i=true)(h:∀j,j<i->p j=false):T4 n p=i:=by
 have:(List.range n).find? p=some i:=by
  rw[List.find?_range_eq_some]
  exact⟨hp,List.mem_range.2 hi,fun j hj=>by simp[h j hj]⟩
 unfold T4;rw[this]
theorem M1{n:Nat}{p:Nat->Bool}(h:∀j,j<n->p j=false):T4 n p= -1:=by
 have:(List.range n).find? p=none:=by
  rw[List.find?_range_eq_none]
  intro j hj;simp[h j hj]
 unfold T4;rw[this]
def anyI(n:Nat)(p:Nat->Bool):Bool:=(List.range n).any p
theorem A3(n:Nat)(p:Nat->Bool):decide (T4 n p≥0)=anyI n p:=by
 unfold T4 anyI;cases h:(List.range n).find? p with
 |none=>
  rw[List.find?_eq_none] at h
  have:(List.range n).any p=false:=by
   rw[List.any_eq_false];exact h
  rw[this];rfl
 |some i=>
  have h1:=List.find?_some h
  have h2:=List.mem_of_find?_eq_some h
  have:(List.range n).any p=true:=List.any_eq_true.2 ⟨i,h2,h1⟩;rw[this];simp
theorem Q1{n:Nat}{p:Nat->Bool}:anyI n p=true↔∃i,i<n/\p i=true:=by
 unfold anyI;simp
def W5(n:Nat)(p:Nat->Bool):Type:={i:Nat//i<=n/\∀j,j<i->p j=false}

theorem W5.ext_lt{n:Nat}{i:Nat}(h:i<n):Lt (n- (i+1)) (n-i):=by unfold Lt;omega
theorem Y2{i n:Nat}(h:decide ((i:Int)<(n:Int))=false):n<=i:=by simpa using h
theorem Y6{i n:Nat}(h:decide ((i:Int)<(n:Int))=true):i<n:=by simpa using h
theorem Y8{i n:Nat}(h:i<n):W7 (i:Int) n:=⟨by omega,by omega⟩
theorem W8{i n:Nat}(h:i<n)(hn:n<1000000000000000):X6 .i64 ((i:Int)+1):=Z5 (by omega)
def I5{n:Nat}{p:Nat->Bool}:W5 n p:=⟨0,Nat.zero_le _,fun j hj=>absurd hj (Nat.not_lt_zero j)⟩
def W5.succ{n:Nat}{p:Nat->Bool}(x:W5 n p)(h:x.1<n)(hp:p x.1=false):W5 n p:=
 ⟨x.1+1,h,fun j hj=>by rcases Nat.lt_or_ge j x.1 with h1|h1;exact x.2.2 j h1;(obtain rfl:j=x.1:=by omega);exact hp⟩

def Y4(L:List Rec)(i:Nat):List T:=(L.getD i default).ts
def G3(L:List Rec):T:=.sl 10 L.length (Y4 L)
def D2(r:Rec):Bool:=decide (r.l>60)
def a1o:List T->Option (T×Option Prop)
 | [.agg [.int .i64 e,.int .i64 l,.int .i64 t,.int .i64 k,.int .i64 p,.int .i64 n,.int .i64 g,.int .i64 s,.str b,.str a]]=>some (.bool (D2 ⟨e,l,t,k,p,n,g,s,b,a⟩),none)
 |_=>none
def a59:Con:=.pure a1o
noncomputable def a5G:Code:=Tryz.f211.body.getD .skip
theorem a2U:Z8 Tryz.prog 211:=⟨_,Tryz.func211,by kernel_rfl,by kernel_rfl⟩
theorem a5Q(r:Rec)(h:
  decide (r.l>(60:Int))=D2 r):
  Z1 Tryz.prog 211 [.agg r.ts] (.bool (D2 r)):=
 T7 (code:=a5G) gN Tryz.func211 (by kernel_rfl) (by kernel_rfl) Z0 h (by kernel_rfl)
theorem a37:Z2 Tryz.prog 211 a59:=by
 intro args res p h hp;unfold a1o at h;split at h
 ·simp only[Option.some.injEq,Prod.mk.injEq] at h;obtain⟨rfl,rfl⟩:=h;exact a5Q ⟨_,_,_,_,_,_,_,_,_,_⟩ rfl
 ·cases h

def fnT(f:Nat):T:=.v (.func (.func f) #[] #[])
def N8(n:Nat):Prop:=n<1000000000000
def b1E:Rl:=⟨List Rec,fun L=>[G3 L,fnT 211],fun L=>.int .i64 (T4 L.length fun i=>D2 (L.getD i default)),fun L=>N8 L.length⟩
def c7Q:Con:=.rel b1E
def c5J(L:List Rec):Nat->Ann
 |0=>.one (W5 L.length fun i=>D2 (L.getD i default)) (fun x=>⟨[(0,G3 L),(1,fnT 211),(7,.int .i64 L.length),(8,.int .i64 x.1)],[]⟩) (fun x=>L.length-x.1) [] [] (fun _=>Z0)
 |_=>.none
noncomputable def c6K:Code:=Tryz.f253.body.getD .skip
theorem b2Y:Z8 Tryz.prog 253:=⟨_,Tryz.func253,by kernel_rfl,by kernel_rfl⟩
theorem c7t(L:List Rec)(h:
  (∃(x:W5 L.length fun(i:Nat)=>D2 (L.getD i default)),((Y3 Y4 L L)/\Value.func (Fn.func 211) #[] #[]=Value.func (Fn.func 211) #[] #[]/\(L.length:Int)=(L.length:Int)/\(0:Int)=(x.val:Int)/\True)/\True)/\
  ∀(x:W5 L.length fun(i:Nat)=>D2 (L.getD i default)),(decide ((x.val:Int)<(L.length:Int))=true->W7 (x.val:Int) L.length/\(D2 (Rec.mk (L.getD (x.val:Int).toNat default).e (L.getD (x.val:Int).toNat default).l
  (L.getD (x.val:Int).toNat default).t (L.getD (x.val:Int).toNat default).k (L.getD (x.val:Int).toNat default).p (L.getD (x.val:Int).toNat default).n (L.getD (x.val:Int).toNat default).g (L.getD (x.val:Int).toNat default).s (L.getD
  (x.val:Int).toNat default).b (L.getD (x.val:Int).toNat default).a)=true->(x.val:Int)=T4 L.length fun(i:Nat)=>D2 (L.getD i default))/\(D2 (Rec.mk (L.getD (x.val:Int).toNat default).e (L.getD (x.val:Int).toNat
  default).l (L.getD (x.val:Int).toNat default).t (L.getD (x.val:Int).toNat default).k (L.getD (x.val:Int).toNat default).p (L.getD (x.val:Int).toNat default).n (L.getD (x.val:Int).toNat default).g (L.getD (x.val:Int).toNat
  default).s (L.getD (x.val:Int).toNat default).b (L.getD (x.val:Int).toNat default).a)=false->X6 .i64 ((x.val:Int)+(1:Int))/\∃(y:W5 L.length fun(i:Nat)=>D2 (L.getD i default)),(((Y3 Y4 L L)/\Value.func
  (Fn.func 211) #[] #[]=Value.func (Fn.func 211) #[] #[]/\(L.length:Int)=(L.length:Int)/\(x.val:Int)+(1:Int)=(y.val:Int)/\True)/\True)/\Lt (L.length-y.val) (L.length-x.val)))/\(decide ((x.val:Int)<
  (L.length:Int))=false->(-1:Int)=T4 L.length fun(i:Nat)=>D2 (L.getD i default))):
  Z1 Tryz.prog 253 [G3 L,fnT 211] (.int .i64 (T4 L.length fun i=>D2 (L.getD i default))):=
 T7 (code:=c6K) (gC a37 a2U gN) Tryz.func253 (by kernel_rfl) (by kernel_rfl) (c5J L) h (by kernel_rfl)
theorem b9V:Z2 Tryz.prog 253 c7Q:=by
 intro L hL;have hL:L.length<1000000000000:=hL;refine c7t L ⟨⟨I5,⟨⟨rfl,fun _ _=>rfl⟩,rfl,rfl,rfl,trivial⟩,trivial⟩,fun x=>⟨fun hc=> ?_,fun hc=> ?_⟩⟩
 ·have hlt:=Y6 hc;refine⟨Y8 hlt,fun hp=>(N9 hlt hp x.2.2).symm,fun hp=>⟨W8 hlt (by omega),x.succ hlt hp,⟨⟨⟨rfl,fun _ _=>rfl⟩,rfl,rfl,rfl,trivial⟩,trivial⟩,W5.ext_lt hlt⟩⟩
 ·have hge:=Y2 hc;exact(M1 fun j hj=>x.2.2 j (by omega)).symm
def b0V:Rl:=⟨List Rec,fun L=>[G3 L,fnT 211],fun L=>.bool (anyI L.length fun i=>D2 (L.getD i default)),fun L=>N8 L.length⟩
def c88:Con:=.rel b0V
noncomputable def c4w:Code:=Tryz.f210.body.getD .skip
theorem b0R:Z8 Tryz.prog 210:=⟨_,Tryz.func210,by kernel_rfl,by kernel_rfl⟩
theorem c6A(L:List Rec)(h:
  ∃(x:b1E.ι),(((L.length=List.length x/\Z7 L.length (Y4 L) (Y4 x))/\Value.func (Fn.func 211) #[] #[]=Value.func (Fn.func 211) #[] #[]/\True)/\N8 (List.length x))/\decide ((T4 (List.length x) fun(i:
  Nat)=>D2 (List.getD x i default))≥(0:Int))=anyI L.length fun(i:Nat)=>D2 (L.getD i default)):
  Z1 Tryz.prog 210 [G3 L,fnT 211] (.bool (anyI L.length fun i=>D2 (L.getD i default))):=
 T7 (code:=c4w) (gC b9V b2Y gN) Tryz.func210 (by kernel_rfl) (by kernel_rfl) Z0 h (by kernel_rfl)
theorem b95:Z2 Tryz.prog 210 c88:=by
 intro L hL;exact c6A L ⟨L,⟨⟨⟨rfl,fun _ _=>rfl⟩,rfl,trivial⟩,hL⟩,A3 _ _⟩

noncomputable def a8f(L:List Rec)(i:Nat):Bool:= !S2 (L.getD i default)||(L.getD i default).l !=(i:Int)+1
noncomputable def w9(L:List Rec):Bool:= !anyI L.length (a8f L)
def d2z(L:List Rec):Prop:=L.length<1000000000000/\∀r ∈ L,r.a.length<140737488355329
noncomputable def a1Z:Rl:=⟨List Rec,fun L=>[G3 L],fun L=>.bool (w9 L),d2z⟩
noncomputable def a76:Con:=.rel a1Z
noncomputable def a9d(L:List Rec):Nat->Ann
 |0=>.one (W5 L.length (a8f L)) (fun x=>⟨[(0,G3 L),(5,G3 L),(6,.int .i64 L.length),(7,.int .i64 x.1)],[]⟩) (fun x=>L.length-x.1) [] [] (fun _=>Z0)
 |_=>.none
noncomputable def a77:Code:=Tryz.f152.body.getD .skip
theorem a3E:Z8 Tryz.prog 152:=⟨_,Tryz.func152,by kernel_rfl,by kernel_rfl⟩
theorem a8E(L:List Rec)(h:
  (∃(x:W5 L.length (a8f L)),((Y3 Y4 L L)/\(Y3 Y4 L L)/\(L.length:Int)=(L.length:Int)/\(0:Int)=(x.val:Int)/\True)/\True)/\∀(x:W5 L.length (a8f L)),(decide ((x.val:Int)<(L.length:Int))=true->W7
  (x.val:Int) L.length/\c08 (L.getD (x.val:Int).toNat default).a/\((!S2 (Rec.mk (L.getD (x.val:Int).toNat default).e (L.getD (x.val:Int).toNat default).l (L.getD (x.val:Int).toNat default).t (L.getD (x.val:Int).toNat
  default).k (L.getD (x.val:Int).toNat default).p (L.getD (x.val:Int).toNat default).n (L.getD (x.val:Int).toNat default).g (L.getD (x.val:Int).toNat default).s (L.getD (x.val:Int).toNat default).b (L.getD (x.val:Int).toNat
  default).a))=false->X6 .i64 ((x.val:Int)+(1:Int)))/\((!S2 (Rec.mk (L.getD (x.val:Int).toNat default).e (L.getD (x.val:Int).toNat default).l (L.getD (x.val:Int).toNat default).t (L.getD (x.val:Int).toNat default).k
  (L.getD (x.val:Int).toNat default).p (L.getD (x.val:Int).toNat default).n (L.getD (x.val:Int).toNat default).g (L.getD (x.val:Int).toNat default).s (L.getD (x.val:Int).toNat default).b (L.getD (x.val:Int).toNat default).a)||
  (L.getD (x.val:Int).toNat default).l !=(x.val:Int)+(1:Int))=true->false=w9 L)/\((!S2 (Rec.mk (L.getD (x.val:Int).toNat default).e (L.getD (x.val:Int).toNat default).l (L.getD (x.val:Int).toNat default).t (L.getD
  (x.val:Int).toNat default).k (L.getD (x.val:Int).toNat default).p (L.getD (x.val:Int).toNat default).n (L.getD (x.val:Int).toNat default).g (L.getD (x.val:Int).toNat default).s (L.getD (x.val:Int).toNat default).b (L.getD
  (x.val:Int).toNat default).a)||(L.getD (x.val:Int).toNat default).l !=(x.val:Int)+(1:Int))=false->X6 .i64 ((x.val:Int)+(1:Int))/\∃(y:W5 L.length (a8f L)),(((Y3 Y4 L L)/\(Y3 Y4 L L)/\(L.length:Int)
  =(L.length:Int)/\(x.val:Int)+(1:Int)=(y.val:Int)/\True)/\True)/\Lt (L.length-y.val) (L.length-x.val)))/\(decide ((x.val:Int)<(L.length:Int))=false->∃(x:b0V.ι),(((L.length=List.length x/\Z7
  L.length (Y4 L) (Y4 x))/\Value.func (Fn.func 211) #[] #[]=Value.func (Fn.func 211) #[] #[]/\True)/\N8 (List.length x))/\(!anyI (List.length x) fun(i:Nat)=>D2 (List.getD x i default))=w9 L)):
  Z1 Tryz.prog 152 [G3 L] (.bool (w9 L)):=
 T7 (code:=a77) (gC a0r o9 (gC b95 b0R gN)) Tryz.func152 (by kernel_rfl) (by kernel_rfl) (a9d L) h (by kernel_rfl)
theorem a2S{L:List Rec}:w9 L=true↔∀i,i<L.length->S2 (L.getD i default)=true/\(L.getD i default).l=(i:Int)+1:=by
 unfold w9;rw[Bool.not_eq_true',Bool.eq_false_iff,ne_eq,Q1];constructor
 ·intro h i hi;have:¬a8f L i=true:=fun hb=>h ⟨i,hi,hb⟩
  simpa[a8f] using this
 ·rintro h ⟨i,hi,hb⟩;have:=h i hi;unfold a8f at hb;rw[this.1,this.2] at hb;simp at hb
theorem a48{L:List Rec}{i:Nat}(h:i<L.length):L.getD i default ∈ L:=by
 rw[List.getD_eq_getElem?_getD,List.getElem?_eq_getElem h]
 exact List.getElem_mem h
theorem a51:Z2 Tryz.prog 152 a76:=by
 intro L hL;obtain⟨hn,hb⟩:d2z L:=hL;refine a8E L ⟨⟨I5,⟨⟨rfl,fun _ _=>rfl⟩,⟨rfl,fun _ _=>rfl⟩,rfl,rfl,trivial⟩,trivial⟩,fun x=>⟨fun hc=> ?_,fun hc=> ?_⟩⟩
 ·have hlt:=Y6 hc;refine⟨Y8 hlt,hb _ (a48 hlt),fun _=>W8 hlt (by omega),fun hp=> ?_,fun hp=>⟨W8 hlt (by omega),x.succ hlt hp,⟨⟨⟨rfl,fun _ _=>rfl⟩,⟨rfl,fun _ _=>rfl⟩,rfl,rfl,trivial⟩,trivial⟩,W5.ext_lt hlt⟩⟩
  have:anyI L.length (a8f L)=true:=Q1.2 ⟨x.1,hlt,hp⟩;simp[w9,this]
 ·have hge:=Y2 hc;have hgood:w9 L=true:=by
   unfold w9;rw[Bool.not_eq_true',Bool.eq_false_iff,ne_eq,Q1];rintro⟨i,hi,h⟩;rw[x.2.2 i (by omega)] at h
   cases h
  refine⟨L,⟨⟨⟨rfl,fun _ _=>rfl⟩,rfl,trivial⟩,hn⟩,?_⟩
  rw[hgood,Bool.not_eq_true',Bool.eq_false_iff,ne_eq,Q1];rintro⟨i,hi,h⟩;have h1:=(Q8 _).1 (a2S.1 hgood i hi).1;obtain⟨_,_,_,h60,_⟩:=h1;have:¬ (L.getD i default).l>60:=by omega
  simp[D2] at h;simp at this;omega
end Go.Proofs.YtokaojbaacnngaaGreat

