/- A part of the proof. -/
import Derived.Test.YtokaojbaacnngaaGreatD0D1
namespace Go.Proofs.YtokaojbaacnngaaGreat
set_option maxRecDepth 100000
open Go.SS

def j3(r:Rec):Prop:=
 1<=r.e/\r.e<=60/\1<=r.l/\r.l<=60/\1<=r.k/\r.k<=6/\0<=r.p/\r.p<=r.l-1/\0<=r.n/\r.n<=r.l-1/\0<=r.g/\r.g<=7/\0<=r.s/\r.s<=3/\r.b.length<=30/\
 (r.k=6->r.t=0/\r.p=0/\r.n=0/\r.g=0/\r.s=0/\r.b=[]/\oY r.a r.l=true)/\
 (r.k≠6->1<=r.t/\r.t<=60/\r.a.length<=30/\(r.k≠2->r.k≠3->r.g=0/\r.s=0/\r.b=[]/\r.a=[])/\(r.k≠3->r.n=0)/\(r.k=3->r.b=[])/\(r.k=1↔r.p=0))
noncomputable instance(r:Rec):Decidable (j3 r):=Classical.propDecidable _
noncomputable def S3(r:Rec):Bool:=decide (j3 r)
theorem P8(r:Rec):S3 r=true↔j3 r:=decide_eq_true_iff
theorem zD{r:Rec}(h:¬j3 r):S3 r=false:=uY h
def a92(l:List UInt8):Prop:=l.length<140737488355329
noncomputable def lY:List T->Option (T×Option Prop)
 | [.agg [.int .i64 e,.int .i64 l,.int .i64 t,.int .i64 k,.int .i64 p,.int .i64 n,.int .i64 g,.int .i64 s,.str b,.str a]]=>some (.bool (S3 ⟨e,l,t,k,p,n,g,s,b,a⟩),some (a92 a))
 |_=>none
noncomputable def a1B:Con:=.pure lY
noncomputable def a19:Code:=Tryz.f196.body.getD .skip
theorem k9:Z7 Tryz.prog 196:=⟨_,Tryz.func196,by kernel_rfl,by kernel_rfl⟩
theorem a2g(r:Rec)(x:Bool)(h:
  ((!W8 r.e (1:Int) (60:Int)|| !W8 r.l (1:Int) (60:Int))=true->false=x)/\((!W8 r.e (1:Int) (60:Int)|| !W8 r.l (1:Int) (60:Int))=false->((r.k==(6:Int))=true->((r.t==(0:Int)&&r.p==(0:
  Int)&&(true&&(true&&(true&&(true&&(true&&(r.n==(0:Int)&&(r.g==(0:Int)&&(r.s==(0:Int)&&(r.b==[]&&true))))))))))=true->eQ r.a r.l)/\(r.t==(0:Int)&&r.p==(0:Int)&&(true&&(true&&
  (true&&(true&&(true&&(r.n==(0:Int)&&(r.g==(0:Int)&&(r.s==(0:Int)&&(r.b==[]&&true)))))))))&&oY r.a r.l)=x)/\((r.k==(6:Int))=false->((r.k==(2:Int))=true->((r.k==(2:Int))=true->
  A9 (8:Int)/\((decide ((0:Int)<=r.g)&&decide (r.g<(8:Int)))=true->A9 (4:Int))/\((!(decide ((0:Int)<=r.g)&&decide (r.g<(8:Int))&&(decide ((0:Int)<=r.s)&&decide (r.s<(4:Int))))||decide
  ((r.b.length:Int)>(30:Int))||decide ((r.a.length:Int)>(30:Int)))=false->(r.k==(3:Int))=true->X8 .i64 (r.l- (1:Int)))/\((!(decide ((0:Int)<=r.g)&&decide (r.g<(8:Int))&&(decide ((0:Int)<=r.s)
  &&decide (r.s<(4:Int))))||decide ((r.b.length:Int)>(30:Int))||decide ((r.a.length:Int)>(30:Int))||r.k==(3:Int)&& !W8 r.n (0:Int) (r.l- (1:Int)))=true->false=x)/\((!(decide ((0:Int)<=r.g)&&
  decide (r.g<(8:Int))&&(decide ((0:Int)<=r.s)&&decide (r.s<(4:Int))))||decide ((r.b.length:Int)>(30:Int))||decide ((r.a.length:Int)>(30:Int))||r.k==(3:Int)&& !W8 r.n (0:Int) (r.l- (1:Int)))=
  false->((r.k==(2:Int))=true->((W8 r.k (1:Int) (5:Int)&&(true&&(true&&(true&&(true&&(true&&(r.n==(0:Int)&&true))))))&&W8 r.t (1:Int) (60:Int))=true->X8 .i64 (r.l- (1:Int)))/\(W8 r.k (1
  :Int) (5:Int)&&(true&&(true&&(true&&(true&&(true&&(r.n==(0:Int)&&true))))))&&W8 r.t (1:Int) (60:Int)&&W8 r.p (0:Int) (r.l- (1:Int))&&(r.p==(0:Int))==(r.k==(1:Int)))=x)/\((r.k==
  (2:Int))=false->((W8 r.k (1:Int) (5:Int)&&(true&&(true&&(true&&(true&&(true&&(true&&(true&&(true&&(r.b==[]&&true)))))))))&&W8 r.t (1:Int) (60:Int))=true->X8 .i64 (r.l- (1:Int)))/\(W8
  r.k (1:Int) (5:Int)&&(true&&(true&&(true&&(true&&(true&&(true&&(true&&(true&&(r.b==[]&&true)))))))))&&W8 r.t (1:Int) (60:Int)&&W8 r.p (0:Int) (r.l- (1:Int))&&(r.p==(0:Int))==(r.k==
  (1:Int)))=x)))/\((r.k==(2:Int))=false->((W8 r.k (1:Int) (5:Int)&&(true&&(true&&(true&&(true&&(true&&(r.n==(0:Int)&&(r.g==(0:Int)&&(r.s==(0:Int)&&(r.b==[]&&(r.a==[]&&
  true))))))))))&&W8 r.t (1:Int) (60:Int))=true->X8 .i64 (r.l- (1:Int)))/\(W8 r.k (1:Int) (5:Int)&&(true&&(true&&(true&&(true&&(true&&(r.n==(0:Int)&&(r.g==(0:Int)&&(r.s==(0:Int)&&
  (r.b==[]&&(r.a==[]&&true))))))))))&&W8 r.t (1:Int) (60:Int)&&W8 r.p (0:Int) (r.l- (1:Int))&&(r.p==(0:Int))==(r.k==(1:Int)))=x))/\((r.k==(2:Int))=false->((r.k==(3:Int))=true->
  A9 (8:Int)/\((decide ((0:Int)<=r.g)&&decide (r.g<(8:Int)))=true->A9 (4:Int))/\((!(decide ((0:Int)<=r.g)&&decide (r.g<(8:Int))&&(decide ((0:Int)<=r.s)&&decide (r.s<(4:Int))))||decide
  ((r.b.length:Int)>(30:Int))||decide ((r.a.length:Int)>(30:Int)))=false->(r.k==(3:Int))=true->X8 .i64 (r.l- (1:Int)))/\((!(decide ((0:Int)<=r.g)&&decide (r.g<(8:Int))&&(decide ((0:Int)<=r.s)
  &&decide (r.s<(4:Int))))||decide ((r.b.length:Int)>(30:Int))||decide ((r.a.length:Int)>(30:Int))||r.k==(3:Int)&& !W8 r.n (0:Int) (r.l- (1:Int)))=true->false=x)/\((!(decide ((0:Int)<=r.g)&&
  decide (r.g<(8:Int))&&(decide ((0:Int)<=r.s)&&decide (r.s<(4:Int))))||decide ((r.b.length:Int)>(30:Int))||decide ((r.a.length:Int)>(30:Int))||r.k==(3:Int)&& !W8 r.n (0:Int) (r.l- (1:Int)))=
  false->((r.k==(2:Int))=true->((W8 r.k (1:Int) (5:Int)&&(true&&(true&&(true&&(true&&(true&&(r.n==(0:Int)&&true))))))&&W8 r.t (1:Int) (60:Int))=true->X8 .i64 (r.l- (1:Int)))/\(W8 r.k (1
  :Int) (5:Int)&&(true&&(true&&(true&&(true&&(true&&(r.n==(0:Int)&&true))))))&&W8 r.t (1:Int) (60:Int)&&W8 r.p (0:Int) (r.l- (1:Int))&&(r.p==(0:Int))==(r.k==(1:Int)))=x)/\((r.k==
  (2:Int))=false->((W8 r.k (1:Int) (5:Int)&&(true&&(true&&(true&&(true&&(true&&(true&&(true&&(true&&(r.b==[]&&true)))))))))&&W8 r.t (1:Int) (60:Int))=true->X8 .i64 (r.l- (1:Int)))/\(W8
  r.k (1:Int) (5:Int)&&(true&&(true&&(true&&(true&&(true&&(true&&(true&&(true&&(r.b==[]&&true)))))))))&&W8 r.t (1:Int) (60:Int)&&W8 r.p (0:Int) (r.l- (1:Int))&&(r.p==(0:Int))==(r.k==
  (1:Int)))=x)))/\((r.k==(3:Int))=false->((W8 r.k (1:Int) (5:Int)&&(true&&(true&&(true&&(true&&(true&&(r.n==(0:Int)&&(r.g==(0:Int)&&(r.s==(0:Int)&&(r.b==[]&&(r.a==[]&&
  true))))))))))&&W8 r.t (1:Int) (60:Int))=true->X8 .i64 (r.l- (1:Int)))/\(W8 r.k (1:Int) (5:Int)&&(true&&(true&&(true&&(true&&(true&&(r.n==(0:Int)&&(r.g==(0:Int)&&(r.s==(0:Int)&&
  (r.b==[]&&(r.a==[]&&true))))))))))&&W8 r.t (1:Int) (60:Int)&&W8 r.p (0:Int) (r.l- (1:Int))&&(r.p==(0:Int))==(r.k==(1:Int)))=x))))):
  Z2 Tryz.prog 196 [.agg r.ts] (.bool x):=
 T4 (code:=a19) (gC a4R eN (gC P2 R8 (gC yJ s3 gN))) Tryz.func196 (by kernel_rfl) (by kernel_rfl) Z0 h (by kernel_rfl)
theorem c43{p k a b:Int}:((p==a)=(k==b))↔(k=b↔p=a):=by
 rw[Bool.eq_iff_iff,beq_iff_eq,beq_iff_eq];exact Iff.comm
theorem wI{a b:Bool}(h:a=true↔b=true):a=b:=by cases a<;>cases b<;>simp_all
theorem yD:Z1 Tryz.prog 196 a1B:=by
 intro args res p h hp;unfold lY at h;split at h
 ·rename_i e l t k p n g s b a;simp only[X6,V1] at h;obtain⟨rfl,rfl⟩:=h;have hp:a.length<140737488355329:=hp;refine a2g ⟨e,l,t,k,p,n,g,s,b,a⟩ _ ?_
  simp only[Rec.e,Rec.l,Rec.t,Rec.k,Rec.p,Rec.n,Rec.g,Rec.s,Rec.b,Rec.a];have s8:A9 8:=by unfold A9;omega
  have s4:A9 4:=by unfold A9;omega
  refine⟨fun h=> ?_,fun h=> ?_⟩
  ·refine(zD ?_).symm
   simp only[oU,sB,W8,Bool.and_eq_false_iff,tV] at h;unfold j3;simp only;omega
  simp only[vG,tE,W8,K5,t9] at h;have hr:X8 .i64 (l-1):=Z5 (by omega)
  have hs:eQ a l:=⟨hp,by omega,by omega⟩
  by_cases h6:k=6
  ·subst h6;refine⟨fun _=>⟨fun _=>hs,wI ?_⟩,fun h=>by simp at h⟩
   rw[P8];simp only[j3,t9,K5,beq_iff_eq,true_and,and_true];constructor
   ·rintro⟨⟨⟨rfl,rfl⟩,rfl,rfl,rfl,rfl⟩,hc⟩;simp[hc];omega
   ·rintro⟨_,_,_,_,_,_,_,_,_,_,_,_,_,_,_,hh,_⟩;obtain⟨rfl,rfl,rfl,rfl,rfl,rfl,hc⟩:=hh trivial;simp[hc]
  refine⟨fun h=>absurd (by simpa using h) h6,fun _=> ?_⟩
  by_cases h2:k=2
  ·subst h2;refine⟨fun _=>⟨fun _=>⟨s8,fun _=>s4,fun _ h=>by simp at h,fun hb=> ?_,fun hb=>⟨fun _=>⟨fun _=>hr,wI ?_⟩,fun h=>by simp at h⟩⟩,fun h=>by simp at h⟩,fun h=>by simp at h⟩
   ·refine(zD ?_).symm
    simp only[oU,sB,W8,Bool.and_eq_false_iff,tV,t9,K5] at hb;unfold j3;simp only;simp at hb;omega
   ·simp[W8] at hb;rw[P8];simp only[j3,t9,K5,beq_iff_eq,true_and,and_true,W8,c43];simp;omega
  by_cases h3:k=3
  ·subst h3;refine⟨fun h=>by simp at h,fun _=>⟨fun _=>⟨s8,fun _=>s4,fun _ _=>hr,fun hb=> ?_,fun hb=>⟨fun h=>by simp at h,fun _=>⟨fun _=>hr,wI ?_⟩⟩⟩,fun h=>by simp at h⟩⟩
   ·refine(zD ?_).symm
    unfold j3;simp only;simp[W8] at hb;omega
   ·simp[W8] at hb;rw[P8];simp only[j3,t9,K5,beq_iff_eq,true_and,and_true,W8,c43];by_cases hbn:b=[]
    ·subst hbn;simp;omega
    ·simp[hbn]
  ·refine⟨fun h=>absurd (by simpa using h) h2,fun _=>⟨fun h=>absurd (by simpa using h) h3,fun _=>⟨fun _=>hr,wI ?_⟩⟩⟩
   rw[P8];simp only[j3,t9,K5,beq_iff_eq,true_and,and_true,W8,c43];constructor
   ·intro hh;have hb:b.length=0:=by simp[hh.1.1.1.2.2.2.2.1]
    have ha:a.length=0:=by simp[hh.1.1.1.2.2.2.2.2]
    simp[h2,h3,h6,hh.1.1.1.2.2.2.2.1,hh.1.1.1.2.2.2.2.2] at hh ⊢;omega
   ·intro hh;obtain⟨a1,a2,a3,a4,a5,a6,a7,a8,a9,a10,a11,a12,a13,a14,a15,_,hh⟩:=hh;obtain⟨b1,b2,b3,b4,b5,b6,b7⟩:=hh h6;obtain⟨c1,c2,c3,c4⟩:=b4 h2 h3;have c5:=b5 h3;simp[c1,c2,c3,c4,c5];omega
 ·cases h
end Go.Proofs.YtokaojbaacnngaaGreat

namespace Go.Proofs.YtokaojbaacnngaaGreat
set_option maxRecDepth 100000
open Go.SS

def Q4(n:Nat)(p:Nat->Bool):Int:=match(List.range n).find? p with|some i=>(i:Int)|none=> -1
theorem M1{n:Nat}{p:Nat->Bool}{i:Nat}(hi:i<n)(hp:p i=true)(h:∀j,j<i->p j=false):Q4 n p=i:=by
 have:(List.range n).find? p=some i:=by
  rw[List.find?_range_eq_some]
  exact⟨hp,List.mem_range.2 hi,fun j hj=>by simp[h j hj]⟩
 unfold Q4;rw[this]
theorem J4{n:Nat}{p:Nat->Bool}(h:∀j,j<n->p j=false):Q4 n p= -1:=by
 have:(List.range n).find? p=none:=by
  rw[List.find?_range_eq_none]
  intro j hj;simp[h j hj]
 unfold Q4;rw[this]
def anyI(n:Nat)(p:Nat->Bool):Bool:=(List.range n).any p
theorem w8(n:Nat)(p:Nat->Bool):decide (Q4 n p≥0)=anyI n p:=by
 unfold Q4 anyI;cases h:(List.range n).find? p with
 |none=>
  rw[List.find?_eq_none] at h
  have:(List.range n).any p=false:=by
   rw[List.any_eq_false];exact h
  rw[this];rfl
 |some i=>
  have h1:=List.find?_some h
  have h2:=List.mem_of_find?_eq_some h
  have:(List.range n).any p=true:=List.any_eq_true.2 ⟨i,h2,h1⟩;rw[this];simp
theorem Q0{n:Nat}{p:Nat->Bool}:anyI n p=true↔∃i,i<n/\p i=true:=by
 unfold anyI;simp
def V9(n:Nat)(p:Nat->Bool):Type:={i:Nat//i<=n/\∀j,j<i->p j=false}

theorem V9.ext_lt{n:Nat}{i:Nat}(h:i<n):Lt (n- (i+1)) (n-i):=by unfold Lt;omega
theorem Y3{i n:Nat}(h:decide ((i:Int)<(n:Int))=false):n<=i:=by simpa using h
theorem Y9{i n:Nat}(h:decide ((i:Int)<(n:Int))=true):i<n:=by simpa using h
theorem Y7{i n:Nat}(h:i<n):X0 (i:Int) n:=⟨by omega,by omega⟩
theorem W4{i n:Nat}(h:i<n)(hn:n<1000000000000000):X8 .i64 ((i:Int)+1):=Z5 (by omega)
def E5{n:Nat}{p:Nat->Bool}:V9 n p:=⟨0,T0 _,fun j hj=>absurd hj (J2 j)⟩
def V9.succ{n:Nat}{p:Nat->Bool}(x:V9 n p)(h:x.1<n)(hp:p x.1=false):V9 n p:=
 ⟨x.1+1,h,fun j hj=>by rcases Nat.lt_or_ge j x.1 with h1|h1;exact x.2.2 j h1;(obtain rfl:j=x.1:=by omega);exact hp⟩

def Y5(L:List Rec)(i:Nat):List T:=(L.getD i default).ts
def F3(L:List Rec):T:=.sl 10 L.length (Y5 L)
def B1(r:Rec):Bool:=decide (r.l>60)
def vH:List T->Option (T×Option Prop)
 | [.agg [.int .i64 e,.int .i64 l,.int .i64 t,.int .i64 k,.int .i64 p,.int .i64 n,.int .i64 g,.int .i64 s,.str b,.str a]]=>some (.bool (B1 ⟨e,l,t,k,p,n,g,s,b,a⟩),none)
 |_=>none
def jE:Con:=.pure vH
noncomputable def jH:Code:=Tryz.f211.body.getD .skip
theorem rC:Z7 Tryz.prog 211:=⟨_,Tryz.func211,by kernel_rfl,by kernel_rfl⟩
theorem iT(r:Rec)(h:
  decide (r.l>(60:Int))=B1 r):
  Z2 Tryz.prog 211 [.agg r.ts] (.bool (B1 r)):=
 T4 (code:=jH) gN Tryz.func211 (by kernel_rfl) (by kernel_rfl) Z0 h (by kernel_rfl)
theorem lE:Z1 Tryz.prog 211 jE:=by
 intro args res p h hp;unfold vH at h;split at h
 ·simp only[X6,V1] at h;obtain⟨rfl,rfl⟩:=h;exact iT ⟨_,_,_,_,_,_,_,_,_,_⟩ rfl
 ·cases h

def fnT(f:Nat):T:=.v (.func (.func f) #[] #[])
def K6(n:Nat):Prop:=n<1000000000000
def a2q:Rl:=⟨List Rec,fun L=>[F3 L,fnT 211],fun L=>.int .i64 (Q4 L.length fun i=>B1 (L.getD i default)),fun L=>K6 L.length⟩
def b5B:Con:=.rel a2q
def b4J(L:List Rec):Nat->Ann
 |0=>.one (V9 L.length fun i=>B1 (L.getD i default)) (fun x=>⟨[(0,F3 L),(1,fnT 211),(7,.int .i64 L.length),(8,.int .i64 x.1)],[]⟩) (fun x=>L.length-x.1) [] [] (fun _=>Z0)
 |_=>.none
noncomputable def b7G:Code:=Tryz.f253.body.getD .skip
theorem a0I:Z7 Tryz.prog 253:=⟨_,Tryz.func253,by kernel_rfl,by kernel_rfl⟩
theorem b7C(L:List Rec)(h:
  (∃(x:V9 L.length fun(i:Nat)=>B1 (L.getD i default)),((Y4 Y5 L L)/\Value.func (Fn.func 211) #[] #[]=Value.func (Fn.func 211) #[] #[]/\(L.length:Int)=(L.length:Int)/\(0:Int)=(x.val:Int)/\True)/\True)/\
  ∀(x:V9 L.length fun(i:Nat)=>B1 (L.getD i default)),(decide ((x.val:Int)<(L.length:Int))=true->X0 (x.val:Int) L.length/\(B1 (Rec.mk (L.getD (x.val:Int).toNat default).e (L.getD (x.val:Int).toNat default).l
  (L.getD (x.val:Int).toNat default).t (L.getD (x.val:Int).toNat default).k (L.getD (x.val:Int).toNat default).p (L.getD (x.val:Int).toNat default).n (L.getD (x.val:Int).toNat default).g (L.getD (x.val:Int).toNat default).s (L.getD
  (x.val:Int).toNat default).b (L.getD (x.val:Int).toNat default).a)=true->(x.val:Int)=Q4 L.length fun(i:Nat)=>B1 (L.getD i default))/\(B1 (Rec.mk (L.getD (x.val:Int).toNat default).e (L.getD (x.val:Int).toNat
  default).l (L.getD (x.val:Int).toNat default).t (L.getD (x.val:Int).toNat default).k (L.getD (x.val:Int).toNat default).p (L.getD (x.val:Int).toNat default).n (L.getD (x.val:Int).toNat default).g (L.getD (x.val:Int).toNat
  default).s (L.getD (x.val:Int).toNat default).b (L.getD (x.val:Int).toNat default).a)=false->X8 .i64 ((x.val:Int)+(1:Int))/\∃(y:V9 L.length fun(i:Nat)=>B1 (L.getD i default)),(((Y4 Y5 L L)/\Value.func
  (Fn.func 211) #[] #[]=Value.func (Fn.func 211) #[] #[]/\(L.length:Int)=(L.length:Int)/\(x.val:Int)+(1:Int)=(y.val:Int)/\True)/\True)/\Lt (L.length-y.val) (L.length-x.val)))/\(decide ((x.val:Int)<
  (L.length:Int))=false->(-1:Int)=Q4 L.length fun(i:Nat)=>B1 (L.getD i default))):
  Z2 Tryz.prog 253 [F3 L,fnT 211] (.int .i64 (Q4 L.length fun i=>B1 (L.getD i default))):=
 T4 (code:=b7G) (gC lE rC gN) Tryz.func253 (by kernel_rfl) (by kernel_rfl) (b4J L) h (by kernel_rfl)
theorem b27:Z1 Tryz.prog 253 b5B:=by
 intro L hL;have hL:L.length<1000000000000:=hL;refine b7C L ⟨⟨E5,⟨⟨rfl,fun _ _=>rfl⟩,rfl,rfl,rfl,trivial⟩,trivial⟩,fun x=>⟨fun hc=> ?_,fun hc=> ?_⟩⟩
 ·have hlt:=Y9 hc;refine⟨Y7 hlt,fun hp=>(M1 hlt hp x.2.2).symm,fun hp=>⟨W4 hlt (by omega),x.succ hlt hp,⟨⟨⟨rfl,fun _ _=>rfl⟩,rfl,rfl,rfl,trivial⟩,trivial⟩,V9.ext_lt hlt⟩⟩
 ·have hge:=Y3 hc;exact(J4 fun j hj=>x.2.2 j (by omega)).symm
def a29:Rl:=⟨List Rec,fun L=>[F3 L,fnT 211],fun L=>.bool (anyI L.length fun i=>B1 (L.getD i default)),fun L=>K6 L.length⟩
def b7A:Con:=.rel a29
noncomputable def b8Q:Code:=Tryz.f210.body.getD .skip
theorem a1M:Z7 Tryz.prog 210:=⟨_,Tryz.func210,by kernel_rfl,by kernel_rfl⟩
theorem c0t(L:List Rec)(h:
  ∃(x:a2q.ι),(((L.length=List.length x/\Z8 L.length (Y5 L) (Y5 x))/\Value.func (Fn.func 211) #[] #[]=Value.func (Fn.func 211) #[] #[]/\True)/\K6 (List.length x))/\decide ((Q4 (List.length x) fun(i:
  Nat)=>B1 (List.getD x i default))≥(0:Int))=anyI L.length fun(i:Nat)=>B1 (L.getD i default)):
  Z2 Tryz.prog 210 [F3 L,fnT 211] (.bool (anyI L.length fun i=>B1 (L.getD i default))):=
 T4 (code:=b8Q) (gC b27 a0I gN) Tryz.func210 (by kernel_rfl) (by kernel_rfl) Z0 h (by kernel_rfl)
theorem b1e:Z1 Tryz.prog 210 b7A:=by
 intro L hL;exact c0t L ⟨L,⟨⟨⟨rfl,fun _ _=>rfl⟩,rfl,trivial⟩,hL⟩,w8 _ _⟩

noncomputable def aH(L:List Rec)(i:Nat):Bool:= !S3 (L.getD i default)||(L.getD i default).l !=(i:Int)+1
noncomputable def s9(L:List Rec):Bool:= !anyI L.length (aH L)
def c1W(L:List Rec):Prop:=L.length<1000000000000/\∀r ∈ L,r.a.length<140737488355329
noncomputable def tJ:Rl:=⟨List Rec,fun L=>[F3 L],fun L=>.bool (s9 L),c1W⟩
noncomputable def aS:Con:=.rel tJ
noncomputable def bU(L:List Rec):Nat->Ann
 |0=>.one (V9 L.length (aH L)) (fun x=>⟨[(0,F3 L),(5,F3 L),(6,.int .i64 L.length),(7,.int .i64 x.1)],[]⟩) (fun x=>L.length-x.1) [] [] (fun _=>Z0)
 |_=>.none
noncomputable def bT:Code:=Tryz.f152.body.getD .skip
theorem pC:Z7 Tryz.prog 152:=⟨_,Tryz.func152,by kernel_rfl,by kernel_rfl⟩
theorem aN(L:List Rec)(h:
  (∃(x:V9 L.length (aH L)),((Y4 Y5 L L)/\(Y4 Y5 L L)/\(L.length:Int)=(L.length:Int)/\(0:Int)=(x.val:Int)/\True)/\True)/\∀(x:V9 L.length (aH L)),(decide ((x.val:Int)<(L.length:Int))=true->X0
  (x.val:Int) L.length/\a92 (L.getD (x.val:Int).toNat default).a/\((!S3 (Rec.mk (L.getD (x.val:Int).toNat default).e (L.getD (x.val:Int).toNat default).l (L.getD (x.val:Int).toNat default).t (L.getD (x.val:Int).toNat
  default).k (L.getD (x.val:Int).toNat default).p (L.getD (x.val:Int).toNat default).n (L.getD (x.val:Int).toNat default).g (L.getD (x.val:Int).toNat default).s (L.getD (x.val:Int).toNat default).b (L.getD (x.val:Int).toNat
  default).a))=false->X8 .i64 ((x.val:Int)+(1:Int)))/\((!S3 (Rec.mk (L.getD (x.val:Int).toNat default).e (L.getD (x.val:Int).toNat default).l (L.getD (x.val:Int).toNat default).t (L.getD (x.val:Int).toNat default).k
  (L.getD (x.val:Int).toNat default).p (L.getD (x.val:Int).toNat default).n (L.getD (x.val:Int).toNat default).g (L.getD (x.val:Int).toNat default).s (L.getD (x.val:Int).toNat default).b (L.getD (x.val:Int).toNat default).a)||
  (L.getD (x.val:Int).toNat default).l !=(x.val:Int)+(1:Int))=true->false=s9 L)/\((!S3 (Rec.mk (L.getD (x.val:Int).toNat default).e (L.getD (x.val:Int).toNat default).l (L.getD (x.val:Int).toNat default).t (L.getD
  (x.val:Int).toNat default).k (L.getD (x.val:Int).toNat default).p (L.getD (x.val:Int).toNat default).n (L.getD (x.val:Int).toNat default).g (L.getD (x.val:Int).toNat default).s (L.getD (x.val:Int).toNat default).b (L.getD
  (x.val:Int).toNat default).a)||(L.getD (x.val:Int).toNat default).l !=(x.val:Int)+(1:Int))=false->X8 .i64 ((x.val:Int)+(1:Int))/\∃(y:V9 L.length (aH L)),(((Y4 Y5 L L)/\(Y4 Y5 L L)/\(L.length:Int)
  =(L.length:Int)/\(x.val:Int)+(1:Int)=(y.val:Int)/\True)/\True)/\Lt (L.length-y.val) (L.length-x.val)))/\(decide ((x.val:Int)<(L.length:Int))=false->∃(x:a29.ι),(((L.length=List.length x/\Z8
  L.length (Y5 L) (Y5 x))/\Value.func (Fn.func 211) #[] #[]=Value.func (Fn.func 211) #[] #[]/\True)/\K6 (List.length x))/\(!anyI (List.length x) fun(i:Nat)=>B1 (List.getD x i default))=s9 L)):
  Z2 Tryz.prog 152 [F3 L] (.bool (s9 L)):=
 T4 (code:=bT) (gC yD k9 (gC b1e a1M gN)) Tryz.func152 (by kernel_rfl) (by kernel_rfl) (bU L) h (by kernel_rfl)
theorem rP{L:List Rec}:s9 L=true↔∀i,i<L.length->S3 (L.getD i default)=true/\(L.getD i default).l=(i:Int)+1:=by
 unfold s9;rw[sB,Bool.eq_false_iff,ne_eq,Q0];constructor
 ·intro h i hi;have:¬aH L i=true:=fun hb=>h ⟨i,hi,hb⟩
  simpa[aH] using this
 ·rintro h ⟨i,hi,hb⟩;have:=h i hi;unfold aH at hb;rw[this.1,this.2] at hb;simp at hb
theorem nM{L:List Rec}{i:Nat}(h:i<L.length):L.getD i default ∈ L:=by
 rw[C0,O1 h]
 exact List.getElem_mem h
theorem iH:Z1 Tryz.prog 152 aS:=by
 intro L hL;obtain⟨hn,hb⟩:c1W L:=hL;refine aN L ⟨⟨E5,⟨⟨rfl,fun _ _=>rfl⟩,⟨rfl,fun _ _=>rfl⟩,rfl,rfl,trivial⟩,trivial⟩,fun x=>⟨fun hc=> ?_,fun hc=> ?_⟩⟩
 ·have hlt:=Y9 hc;refine⟨Y7 hlt,hb _ (nM hlt),fun _=>W4 hlt (by omega),fun hp=> ?_,fun hp=>⟨W4 hlt (by omega),x.succ hlt hp,⟨⟨⟨rfl,fun _ _=>rfl⟩,⟨rfl,fun _ _=>rfl⟩,rfl,rfl,trivial⟩,trivial⟩,V9.ext_lt hlt⟩⟩
  have:anyI L.length (aH L)=true:=Q0.2 ⟨x.1,hlt,hp⟩;simp[s9,this]
 ·have hge:=Y3 hc;have hgood:s9 L=true:=by
   unfold s9;rw[sB,Bool.eq_false_iff,ne_eq,Q0];rintro⟨i,hi,h⟩;rw[x.2.2 i (by omega)] at h
   cases h
  refine⟨L,⟨⟨⟨rfl,fun _ _=>rfl⟩,rfl,trivial⟩,hn⟩,?_⟩
  rw[hgood,sB,Bool.eq_false_iff,ne_eq,Q0];rintro⟨i,hi,h⟩;have h1:=(P8 _).1 (rP.1 hgood i hi).1;obtain⟨_,_,_,h60,_⟩:=h1;have:¬ (L.getD i default).l>60:=by omega
  simp[B1] at h;simp at this;omega
end Go.Proofs.YtokaojbaacnngaaGreat

