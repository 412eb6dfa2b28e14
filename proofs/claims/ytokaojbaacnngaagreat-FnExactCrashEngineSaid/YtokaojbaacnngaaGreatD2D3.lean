/- A part of the proof. -/
import Derived.Test.YtokaojbaacnngaaGreatD0D1
namespace Go.Proofs.YtokaojbaacnngaaGreat
set_option maxRecDepth 100000
open Go.SS

def RecP(r:Rec):Prop:=
 1<=r.e/\r.e<=60/\1<=r.l/\r.l<=60/\1<=r.k/\r.k<=6/\0<=r.p/\r.p<=r.l-1/\0<=r.n/\r.n<=r.l-1/\0<=r.g/\r.g<=7/\0<=r.s/\r.s<=3/\r.b.length<=30/\
 (r.k=6->r.t=0/\r.p=0/\r.n=0/\r.g=0/\r.s=0/\r.b=[]/\chkL r.a r.l=true)/\
 (r.k≠6->1<=r.t/\r.t<=60/\r.a.length<=30/\(r.k≠2->r.k≠3->r.g=0/\r.s=0/\r.b=[]/\r.a=[])/\(r.k≠3->r.n=0)/\(r.k=3->r.b=[])/\(r.k=1↔r.p=0))
noncomputable instance(r:Rec):Decidable (RecP r):=Classical.propDecidable _
noncomputable def recOK(r:Rec):Bool:=decide (RecP r)
theorem recOK_iff(r:Rec):recOK r=true↔RecP r:=decide_eq_true_iff
theorem recOK_no{r:Rec}(h:¬RecP r):recOK r=false:=decide_eq_false h
def StrB(l:List UInt8):Prop:=l.length<140737488355329
noncomputable def c_RecordOK:List T->Option (T×Option Prop)
 | [.agg [.int .i64 e,.int .i64 l,.int .i64 t,.int .i64 k,.int .i64 p,.int .i64 n,.int .i64 g,.int .i64 s,.str b,.str a]]=>some (.bool (recOK ⟨e,l,t,k,p,n,g,s,b,a⟩),some (StrB a))
 |_=>none
noncomputable def k_RecordOKi:Con:=.pure c_RecordOK
noncomputable def b_RecordOKi:Code:=Tryz.f196.body.getD .skip
theorem call_RecordOKi:Callable Tryz.prog 196:=⟨_,Tryz.func196,by kernel_rfl,by kernel_rfl⟩
theorem v_RecordOKi(r:Rec)(x:Bool)(h:
  ((!inR r.e (1:Int) (60:Int)|| !inR r.l (1:Int) (60:Int))=true->false=x)/\((!inR r.e (1:Int) (60:Int)|| !inR r.l (1:Int) (60:Int))=false->((r.k==(6:Int))=true->((r.t==(0:Int)&&r.p==(0:
  Int)&&(true&&(true&&(true&&(true&&(true&&(r.n==(0:Int)&&(r.g==(0:Int)&&(r.s==(0:Int)&&(r.b==[]&&true))))))))))=true->StrLsn r.a r.l)/\(r.t==(0:Int)&&r.p==(0:Int)&&(true&&(true&&
  (true&&(true&&(true&&(r.n==(0:Int)&&(r.g==(0:Int)&&(r.s==(0:Int)&&(r.b==[]&&true)))))))))&&chkL r.a r.l)=x)/\((r.k==(6:Int))=false->((r.k==(2:Int))=true->((r.k==(2:Int))=true->
  Small (8:Int)/\((decide ((0:Int)<=r.g)&&decide (r.g<(8:Int)))=true->Small (4:Int))/\((!(decide ((0:Int)<=r.g)&&decide (r.g<(8:Int))&&(decide ((0:Int)<=r.s)&&decide (r.s<(4:Int))))||decide
  ((r.b.length:Int)>(30:Int))||decide ((r.a.length:Int)>(30:Int)))=false->(r.k==(3:Int))=true->Rng .i64 (r.l- (1:Int)))/\((!(decide ((0:Int)<=r.g)&&decide (r.g<(8:Int))&&(decide ((0:Int)<=r.s)
  &&decide (r.s<(4:Int))))||decide ((r.b.length:Int)>(30:Int))||decide ((r.a.length:Int)>(30:Int))||r.k==(3:Int)&& !inR r.n (0:Int) (r.l- (1:Int)))=true->false=x)/\((!(decide ((0:Int)<=r.g)&&
  decide (r.g<(8:Int))&&(decide ((0:Int)<=r.s)&&decide (r.s<(4:Int))))||decide ((r.b.length:Int)>(30:Int))||decide ((r.a.length:Int)>(30:Int))||r.k==(3:Int)&& !inR r.n (0:Int) (r.l- (1:Int)))=
  false->((r.k==(2:Int))=true->((inR r.k (1:Int) (5:Int)&&(true&&(true&&(true&&(true&&(true&&(r.n==(0:Int)&&true))))))&&inR r.t (1:Int) (60:Int))=true->Rng .i64 (r.l- (1:Int)))/\(inR r.k (1
  :Int) (5:Int)&&(true&&(true&&(true&&(true&&(true&&(r.n==(0:Int)&&true))))))&&inR r.t (1:Int) (60:Int)&&inR r.p (0:Int) (r.l- (1:Int))&&(r.p==(0:Int))==(r.k==(1:Int)))=x)/\((r.k==
  (2:Int))=false->((inR r.k (1:Int) (5:Int)&&(true&&(true&&(true&&(true&&(true&&(true&&(true&&(true&&(r.b==[]&&true)))))))))&&inR r.t (1:Int) (60:Int))=true->Rng .i64 (r.l- (1:Int)))/\(inR
  r.k (1:Int) (5:Int)&&(true&&(true&&(true&&(true&&(true&&(true&&(true&&(true&&(r.b==[]&&true)))))))))&&inR r.t (1:Int) (60:Int)&&inR r.p (0:Int) (r.l- (1:Int))&&(r.p==(0:Int))==(r.k==
  (1:Int)))=x)))/\((r.k==(2:Int))=false->((inR r.k (1:Int) (5:Int)&&(true&&(true&&(true&&(true&&(true&&(r.n==(0:Int)&&(r.g==(0:Int)&&(r.s==(0:Int)&&(r.b==[]&&(r.a==[]&&
  true))))))))))&&inR r.t (1:Int) (60:Int))=true->Rng .i64 (r.l- (1:Int)))/\(inR r.k (1:Int) (5:Int)&&(true&&(true&&(true&&(true&&(true&&(r.n==(0:Int)&&(r.g==(0:Int)&&(r.s==(0:Int)&&
  (r.b==[]&&(r.a==[]&&true))))))))))&&inR r.t (1:Int) (60:Int)&&inR r.p (0:Int) (r.l- (1:Int))&&(r.p==(0:Int))==(r.k==(1:Int)))=x))/\((r.k==(2:Int))=false->((r.k==(3:Int))=true->
  Small (8:Int)/\((decide ((0:Int)<=r.g)&&decide (r.g<(8:Int)))=true->Small (4:Int))/\((!(decide ((0:Int)<=r.g)&&decide (r.g<(8:Int))&&(decide ((0:Int)<=r.s)&&decide (r.s<(4:Int))))||decide
  ((r.b.length:Int)>(30:Int))||decide ((r.a.length:Int)>(30:Int)))=false->(r.k==(3:Int))=true->Rng .i64 (r.l- (1:Int)))/\((!(decide ((0:Int)<=r.g)&&decide (r.g<(8:Int))&&(decide ((0:Int)<=r.s)
  &&decide (r.s<(4:Int))))||decide ((r.b.length:Int)>(30:Int))||decide ((r.a.length:Int)>(30:Int))||r.k==(3:Int)&& !inR r.n (0:Int) (r.l- (1:Int)))=true->false=x)/\((!(decide ((0:Int)<=r.g)&&
  decide (r.g<(8:Int))&&(decide ((0:Int)<=r.s)&&decide (r.s<(4:Int))))||decide ((r.b.length:Int)>(30:Int))||decide ((r.a.length:Int)>(30:Int))||r.k==(3:Int)&& !inR r.n (0:Int) (r.l- (1:Int)))=
  false->((r.k==(2:Int))=true->((inR r.k (1:Int) (5:Int)&&(true&&(true&&(true&&(true&&(true&&(r.n==(0:Int)&&true))))))&&inR r.t (1:Int) (60:Int))=true->Rng .i64 (r.l- (1:Int)))/\(inR r.k (1
  :Int) (5:Int)&&(true&&(true&&(true&&(true&&(true&&(r.n==(0:Int)&&true))))))&&inR r.t (1:Int) (60:Int)&&inR r.p (0:Int) (r.l- (1:Int))&&(r.p==(0:Int))==(r.k==(1:Int)))=x)/\((r.k==
  (2:Int))=false->((inR r.k (1:Int) (5:Int)&&(true&&(true&&(true&&(true&&(true&&(true&&(true&&(true&&(r.b==[]&&true)))))))))&&inR r.t (1:Int) (60:Int))=true->Rng .i64 (r.l- (1:Int)))/\(inR
  r.k (1:Int) (5:Int)&&(true&&(true&&(true&&(true&&(true&&(true&&(true&&(true&&(r.b==[]&&true)))))))))&&inR r.t (1:Int) (60:Int)&&inR r.p (0:Int) (r.l- (1:Int))&&(r.p==(0:Int))==(r.k==
  (1:Int)))=x)))/\((r.k==(3:Int))=false->((inR r.k (1:Int) (5:Int)&&(true&&(true&&(true&&(true&&(true&&(r.n==(0:Int)&&(r.g==(0:Int)&&(r.s==(0:Int)&&(r.b==[]&&(r.a==[]&&
  true))))))))))&&inR r.t (1:Int) (60:Int))=true->Rng .i64 (r.l- (1:Int)))/\(inR r.k (1:Int) (5:Int)&&(true&&(true&&(true&&(true&&(true&&(r.n==(0:Int)&&(r.g==(0:Int)&&(r.s==(0:Int)&&
  (r.b==[]&&(r.a==[]&&true))))))))))&&inR r.t (1:Int) (60:Int)&&inR r.p (0:Int) (r.l- (1:Int))&&(r.p==(0:Int))==(r.k==(1:Int)))=x))))):
  PureFn Tryz.prog 196 [.agg r.ts] (.bool x):=
 vcR (code:=b_RecordOKi) (gC isCheck_ok call_isCheck (gC inRange_ok call_inRange (gC isPlace_ok call_isPlace gN))) Tryz.func196 (by kernel_rfl) (by kernel_rfl) noAnn h (by kernel_rfl)
theorem beqs{p k a b:Int}:((p==a)=(k==b))↔(k=b↔p=a):=by
 rw[Bool.eq_iff_iff,beq_iff_eq,beq_iff_eq];exact Iff.comm
theorem bool_eq{a b:Bool}(h:a=true↔b=true):a=b:=by cases a<;>cases b<;>simp_all
theorem RecordOKi_ok:ConOk Tryz.prog 196 k_RecordOKi:=by
 intro args res p h hp;unfold c_RecordOK at h;split at h
 ·rename_i e l t k p n g s b a;simp only[Option.some.injEq,Prod.mk.injEq] at h;obtain⟨rfl,rfl⟩:=h;have hp:a.length<140737488355329:=hp;refine v_RecordOKi ⟨e,l,t,k,p,n,g,s,b,a⟩ _ ?_
  simp only[Rec.e,Rec.l,Rec.t,Rec.k,Rec.p,Rec.n,Rec.g,Rec.s,Rec.b,Rec.a];have s8:Small 8:=by unfold Small;omega
  have s4:Small 4:=by unfold Small;omega
  refine⟨fun h=> ?_,fun h=> ?_⟩
  ·refine(recOK_no ?_).symm
   simp only[Bool.or_eq_true,Bool.not_eq_true',inR,Bool.and_eq_false_iff,decide_eq_false_iff_not] at h;unfold RecP;simp only;omega
  simp only[Bool.or_eq_false_iff,Bool.not_eq_false',inR,Bool.and_eq_true,decide_eq_true_eq] at h;have hr:Rng .i64 (l-1):=i64_rng (by omega)
  have hs:StrLsn a l:=⟨hp,by omega,by omega⟩
  by_cases h6:k=6
  ·subst h6;refine⟨fun _=>⟨fun _=>hs,bool_eq ?_⟩,fun h=>by simp at h⟩
   rw[recOK_iff];simp only[RecP,decide_eq_true_eq,Bool.and_eq_true,beq_iff_eq,true_and,and_true];constructor
   ·rintro⟨⟨⟨rfl,rfl⟩,rfl,rfl,rfl,rfl⟩,hc⟩;simp[hc];omega
   ·rintro⟨_,_,_,_,_,_,_,_,_,_,_,_,_,_,_,hh,_⟩;obtain⟨rfl,rfl,rfl,rfl,rfl,rfl,hc⟩:=hh trivial;simp[hc]
  refine⟨fun h=>absurd (by simpa using h) h6,fun _=> ?_⟩
  by_cases h2:k=2
  ·subst h2;refine⟨fun _=>⟨fun _=>⟨s8,fun _=>s4,fun _ h=>by simp at h,fun hb=> ?_,fun hb=>⟨fun _=>⟨fun _=>hr,bool_eq ?_⟩,fun h=>by simp at h⟩⟩,fun h=>by simp at h⟩,fun h=>by simp at h⟩
   ·refine(recOK_no ?_).symm
    simp only[Bool.or_eq_true,Bool.not_eq_true',inR,Bool.and_eq_false_iff,decide_eq_false_iff_not,decide_eq_true_eq,Bool.and_eq_true] at hb;unfold RecP;simp only;simp at hb;omega
   ·simp[inR] at hb;rw[recOK_iff];simp only[RecP,decide_eq_true_eq,Bool.and_eq_true,beq_iff_eq,true_and,and_true,inR,beqs];simp;omega
  by_cases h3:k=3
  ·subst h3;refine⟨fun h=>by simp at h,fun _=>⟨fun _=>⟨s8,fun _=>s4,fun _ _=>hr,fun hb=> ?_,fun hb=>⟨fun h=>by simp at h,fun _=>⟨fun _=>hr,bool_eq ?_⟩⟩⟩,fun h=>by simp at h⟩⟩
   ·refine(recOK_no ?_).symm
    unfold RecP;simp only;simp[inR] at hb;omega
   ·simp[inR] at hb;rw[recOK_iff];simp only[RecP,decide_eq_true_eq,Bool.and_eq_true,beq_iff_eq,true_and,and_true,inR,beqs];by_cases hbn:b=[]
    ·subst hbn;simp;omega
    ·simp[hbn]
  ·refine⟨fun h=>absurd (by simpa using h) h2,fun _=>⟨fun h=>absurd (by simpa using h) h3,fun _=>⟨fun _=>hr,bool_eq ?_⟩⟩⟩
   rw[recOK_iff];simp only[RecP,decide_eq_true_eq,Bool.and_eq_true,beq_iff_eq,true_and,and_true,inR,beqs];constructor
   ·intro hh;have hb:b.length=0:=by simp[hh.1.1.1.2.2.2.2.1]
    have ha:a.length=0:=by simp[hh.1.1.1.2.2.2.2.2]
    simp[h2,h3,h6,hh.1.1.1.2.2.2.2.1,hh.1.1.1.2.2.2.2.2] at hh ⊢;omega
   ·intro hh;obtain⟨a1,a2,a3,a4,a5,a6,a7,a8,a9,a10,a11,a12,a13,a14,a15,_,hh⟩:=hh;obtain⟨b1,b2,b3,b4,b5,b6,b7⟩:=hh h6;obtain⟨c1,c2,c3,c4⟩:=b4 h2 h3;have c5:=b5 h3;simp[c1,c2,c3,c4,c5];omega
 ·cases h
end Go.Proofs.YtokaojbaacnngaaGreat

namespace Go.Proofs.YtokaojbaacnngaaGreat
set_option maxRecDepth 100000
open Go.SS

def fstI(n:Nat)(p:Nat->Bool):Int:=match(List.range n).find? p with|some i=>(i:Int)|none=> -1
theorem fstI_at{n:Nat}{p:Nat->Bool}{i:Nat}(hi:i<n)(hp:p i=true)(h:∀j,j<i->p j=false):fstI n p=i:=by
 have:(List.range n).find? p=some i:=by
  rw[List.find?_range_eq_some]
  exact⟨hp,List.mem_range.2 hi,fun j hj=>by simp[h j hj]⟩
 unfold fstI;rw[this]
theorem fstI_no{n:Nat}{p:Nat->Bool}(h:∀j,j<n->p j=false):fstI n p= -1:=by
 have:(List.range n).find? p=none:=by
  rw[List.find?_range_eq_none]
  intro j hj;simp[h j hj]
 unfold fstI;rw[this]
def anyI(n:Nat)(p:Nat->Bool):Bool:=(List.range n).any p
theorem anyI_fst(n:Nat)(p:Nat->Bool):decide (fstI n p≥0)=anyI n p:=by
 unfold fstI anyI;cases h:(List.range n).find? p with
 |none=>
  rw[List.find?_eq_none] at h
  have:(List.range n).any p=false:=by
   rw[List.any_eq_false];exact h
  rw[this];rfl
 |some i=>
  have h1:=List.find?_some h
  have h2:=List.mem_of_find?_eq_some h
  have:(List.range n).any p=true:=List.any_eq_true.2 ⟨i,h2,h1⟩;rw[this];simp
theorem anyI_iff{n:Nat}{p:Nat->Bool}:anyI n p=true↔∃i,i<n/\p i=true:=by
 unfold anyI;simp
def Cnt(n:Nat)(p:Nat->Bool):Type:={i:Nat//i<=n/\∀j,j<i->p j=false}

theorem Cnt.ext_lt{n:Nat}{i:Nat}(h:i<n):Lt (n- (i+1)) (n-i):=by unfold Lt;omega
theorem le_of_not{i n:Nat}(h:decide ((i:Int)<(n:Int))=false):n<=i:=by simpa using h
theorem lt_of_dec{i n:Nat}(h:decide ((i:Int)<(n:Int))=true):i<n:=by simpa using h
theorem inB_nat{i n:Nat}(h:i<n):InB (i:Int) n:=⟨by omega,by omega⟩
theorem add_rng{i n:Nat}(h:i<n)(hn:n<1000000000000000):Rng .i64 ((i:Int)+1):=i64_rng (by omega)
def cnt0{n:Nat}{p:Nat->Bool}:Cnt n p:=⟨0,Nat.zero_le _,fun j hj=>absurd hj (Nat.not_lt_zero j)⟩
def Cnt.succ{n:Nat}{p:Nat->Bool}(x:Cnt n p)(h:x.1<n)(hp:p x.1=false):Cnt n p:=
 ⟨x.1+1,h,fun j hj=>by rcases Nat.lt_or_ge j x.1 with h1|h1;exact x.2.2 j h1;(obtain rfl:j=x.1:=by omega);exact hp⟩

def recRow(L:List Rec)(i:Nat):List T:=(L.getD i default).ts
def recS(L:List Rec):T:=.sl 10 L.length (recRow L)
def lateR(r:Rec):Bool:=decide (r.l>60)
def c_areRecords1:List T->Option (T×Option Prop)
 | [.agg [.int .i64 e,.int .i64 l,.int .i64 t,.int .i64 k,.int .i64 p,.int .i64 n,.int .i64 g,.int .i64 s,.str b,.str a]]=>some (.bool (lateR ⟨e,l,t,k,p,n,g,s,b,a⟩),none)
 |_=>none
def k_areRecords1:Con:=.pure c_areRecords1
noncomputable def b_areRecords1:Code:=Tryz.f211.body.getD .skip
theorem call_areRecords1:Callable Tryz.prog 211:=⟨_,Tryz.func211,by kernel_rfl,by kernel_rfl⟩
theorem v_areRecords1(r:Rec)(h:
  decide (r.l>(60:Int))=lateR r):
  PureFn Tryz.prog 211 [.agg r.ts] (.bool (lateR r)):=
 vcR (code:=b_areRecords1) gN Tryz.func211 (by kernel_rfl) (by kernel_rfl) noAnn h (by kernel_rfl)
theorem areRecords1_ok:ConOk Tryz.prog 211 k_areRecords1:=by
 intro args res p h hp;unfold c_areRecords1 at h;split at h
 ·simp only[Option.some.injEq,Prod.mk.injEq] at h;obtain⟨rfl,rfl⟩:=h;exact v_areRecords1 ⟨_,_,_,_,_,_,_,_,_,_⟩ rfl
 ·cases h

def fnT(f:Nat):T:=.v (.func (.func f) #[] #[])
def Len(n:Nat):Prop:=n<1000000000000
def r_idxRec:Rl:=⟨List Rec,fun L=>[recS L,fnT 211],fun L=>.int .i64 (fstI L.length fun i=>lateR (L.getD i default)),fun L=>Len L.length⟩
def k_idxRec:Con:=.rel r_idxRec
def A_idxRec(L:List Rec):Nat->Ann
 |0=>.one (Cnt L.length fun i=>lateR (L.getD i default)) (fun x=>⟨[(0,recS L),(1,fnT 211),(7,.int .i64 L.length),(8,.int .i64 x.1)],[]⟩) (fun x=>L.length-x.1) [] [] (fun _=>noAnn)
 |_=>.none
noncomputable def b_idxRec:Code:=Tryz.f253.body.getD .skip
theorem call_idxRec:Callable Tryz.prog 253:=⟨_,Tryz.func253,by kernel_rfl,by kernel_rfl⟩
theorem v_idxRec(L:List Rec)(h:
  (∃(x:Cnt L.length fun(i:Nat)=>lateR (L.getD i default)),((EqL recRow L L)/\Value.func (Fn.func 211) #[] #[]=Value.func (Fn.func 211) #[] #[]/\(L.length:Int)=(L.length:Int)/\(0:Int)=(x.val:Int)/\True)/\True)/\
  ∀(x:Cnt L.length fun(i:Nat)=>lateR (L.getD i default)),(decide ((x.val:Int)<(L.length:Int))=true->InB (x.val:Int) L.length/\(lateR (Rec.mk (L.getD (x.val:Int).toNat default).e (L.getD (x.val:Int).toNat default).l
  (L.getD (x.val:Int).toNat default).t (L.getD (x.val:Int).toNat default).k (L.getD (x.val:Int).toNat default).p (L.getD (x.val:Int).toNat default).n (L.getD (x.val:Int).toNat default).g (L.getD (x.val:Int).toNat default).s (L.getD
  (x.val:Int).toNat default).b (L.getD (x.val:Int).toNat default).a)=true->(x.val:Int)=fstI L.length fun(i:Nat)=>lateR (L.getD i default))/\(lateR (Rec.mk (L.getD (x.val:Int).toNat default).e (L.getD (x.val:Int).toNat
  default).l (L.getD (x.val:Int).toNat default).t (L.getD (x.val:Int).toNat default).k (L.getD (x.val:Int).toNat default).p (L.getD (x.val:Int).toNat default).n (L.getD (x.val:Int).toNat default).g (L.getD (x.val:Int).toNat
  default).s (L.getD (x.val:Int).toNat default).b (L.getD (x.val:Int).toNat default).a)=false->Rng .i64 ((x.val:Int)+(1:Int))/\∃(y:Cnt L.length fun(i:Nat)=>lateR (L.getD i default)),(((EqL recRow L L)/\Value.func
  (Fn.func 211) #[] #[]=Value.func (Fn.func 211) #[] #[]/\(L.length:Int)=(L.length:Int)/\(x.val:Int)+(1:Int)=(y.val:Int)/\True)/\True)/\Lt (L.length-y.val) (L.length-x.val)))/\(decide ((x.val:Int)<
  (L.length:Int))=false->(-1:Int)=fstI L.length fun(i:Nat)=>lateR (L.getD i default))):
  PureFn Tryz.prog 253 [recS L,fnT 211] (.int .i64 (fstI L.length fun i=>lateR (L.getD i default))):=
 vcR (code:=b_idxRec) (gC areRecords1_ok call_areRecords1 gN) Tryz.func253 (by kernel_rfl) (by kernel_rfl) (A_idxRec L) h (by kernel_rfl)
theorem idxRec_ok:ConOk Tryz.prog 253 k_idxRec:=by
 intro L hL;have hL:L.length<1000000000000:=hL;refine v_idxRec L ⟨⟨cnt0,⟨⟨rfl,fun _ _=>rfl⟩,rfl,rfl,rfl,trivial⟩,trivial⟩,fun x=>⟨fun hc=> ?_,fun hc=> ?_⟩⟩
 ·have hlt:=lt_of_dec hc;refine⟨inB_nat hlt,fun hp=>(fstI_at hlt hp x.2.2).symm,fun hp=>⟨add_rng hlt (by omega),x.succ hlt hp,⟨⟨⟨rfl,fun _ _=>rfl⟩,rfl,rfl,rfl,trivial⟩,trivial⟩,Cnt.ext_lt hlt⟩⟩
 ·have hge:=le_of_not hc;exact(fstI_no fun j hj=>x.2.2 j (by omega)).symm
def r_anyRec:Rl:=⟨List Rec,fun L=>[recS L,fnT 211],fun L=>.bool (anyI L.length fun i=>lateR (L.getD i default)),fun L=>Len L.length⟩
def k_anyRec:Con:=.rel r_anyRec
noncomputable def b_anyRec:Code:=Tryz.f210.body.getD .skip
theorem call_anyRec:Callable Tryz.prog 210:=⟨_,Tryz.func210,by kernel_rfl,by kernel_rfl⟩
theorem v_anyRec(L:List Rec)(h:
  ∃(x:r_idxRec.ι),(((L.length=List.length x/\RowsEq L.length (recRow L) (recRow x))/\Value.func (Fn.func 211) #[] #[]=Value.func (Fn.func 211) #[] #[]/\True)/\Len (List.length x))/\decide ((fstI (List.length x) fun(i:
  Nat)=>lateR (List.getD x i default))≥(0:Int))=anyI L.length fun(i:Nat)=>lateR (L.getD i default)):
  PureFn Tryz.prog 210 [recS L,fnT 211] (.bool (anyI L.length fun i=>lateR (L.getD i default))):=
 vcR (code:=b_anyRec) (gC idxRec_ok call_idxRec gN) Tryz.func210 (by kernel_rfl) (by kernel_rfl) noAnn h (by kernel_rfl)
theorem anyRec_ok:ConOk Tryz.prog 210 k_anyRec:=by
 intro L hL;exact v_anyRec L ⟨L,⟨⟨⟨rfl,fun _ _=>rfl⟩,rfl,trivial⟩,hL⟩,anyI_fst _ _⟩

noncomputable def badR(L:List Rec)(i:Nat):Bool:= !recOK (L.getD i default)||(L.getD i default).l !=(i:Int)+1
noncomputable def areOK(L:List Rec):Bool:= !anyI L.length (badR L)
def LogB(L:List Rec):Prop:=L.length<1000000000000/\∀r ∈ L,r.a.length<140737488355329
noncomputable def r_areRecords:Rl:=⟨List Rec,fun L=>[recS L],fun L=>.bool (areOK L),LogB⟩
noncomputable def k_areRecords:Con:=.rel r_areRecords
noncomputable def A_areRecords(L:List Rec):Nat->Ann
 |0=>.one (Cnt L.length (badR L)) (fun x=>⟨[(0,recS L),(5,recS L),(6,.int .i64 L.length),(7,.int .i64 x.1)],[]⟩) (fun x=>L.length-x.1) [] [] (fun _=>noAnn)
 |_=>.none
noncomputable def b_areRecords:Code:=Tryz.f152.body.getD .skip
theorem call_areRecords:Callable Tryz.prog 152:=⟨_,Tryz.func152,by kernel_rfl,by kernel_rfl⟩
theorem v_areRecords(L:List Rec)(h:
  (∃(x:Cnt L.length (badR L)),((EqL recRow L L)/\(EqL recRow L L)/\(L.length:Int)=(L.length:Int)/\(0:Int)=(x.val:Int)/\True)/\True)/\∀(x:Cnt L.length (badR L)),(decide ((x.val:Int)<(L.length:Int))=true->InB
  (x.val:Int) L.length/\StrB (L.getD (x.val:Int).toNat default).a/\((!recOK (Rec.mk (L.getD (x.val:Int).toNat default).e (L.getD (x.val:Int).toNat default).l (L.getD (x.val:Int).toNat default).t (L.getD (x.val:Int).toNat
  default).k (L.getD (x.val:Int).toNat default).p (L.getD (x.val:Int).toNat default).n (L.getD (x.val:Int).toNat default).g (L.getD (x.val:Int).toNat default).s (L.getD (x.val:Int).toNat default).b (L.getD (x.val:Int).toNat
  default).a))=false->Rng .i64 ((x.val:Int)+(1:Int)))/\((!recOK (Rec.mk (L.getD (x.val:Int).toNat default).e (L.getD (x.val:Int).toNat default).l (L.getD (x.val:Int).toNat default).t (L.getD (x.val:Int).toNat default).k
  (L.getD (x.val:Int).toNat default).p (L.getD (x.val:Int).toNat default).n (L.getD (x.val:Int).toNat default).g (L.getD (x.val:Int).toNat default).s (L.getD (x.val:Int).toNat default).b (L.getD (x.val:Int).toNat default).a)||
  (L.getD (x.val:Int).toNat default).l !=(x.val:Int)+(1:Int))=true->false=areOK L)/\((!recOK (Rec.mk (L.getD (x.val:Int).toNat default).e (L.getD (x.val:Int).toNat default).l (L.getD (x.val:Int).toNat default).t (L.getD
  (x.val:Int).toNat default).k (L.getD (x.val:Int).toNat default).p (L.getD (x.val:Int).toNat default).n (L.getD (x.val:Int).toNat default).g (L.getD (x.val:Int).toNat default).s (L.getD (x.val:Int).toNat default).b (L.getD
  (x.val:Int).toNat default).a)||(L.getD (x.val:Int).toNat default).l !=(x.val:Int)+(1:Int))=false->Rng .i64 ((x.val:Int)+(1:Int))/\∃(y:Cnt L.length (badR L)),(((EqL recRow L L)/\(EqL recRow L L)/\(L.length:Int)
  =(L.length:Int)/\(x.val:Int)+(1:Int)=(y.val:Int)/\True)/\True)/\Lt (L.length-y.val) (L.length-x.val)))/\(decide ((x.val:Int)<(L.length:Int))=false->∃(x:r_anyRec.ι),(((L.length=List.length x/\RowsEq
  L.length (recRow L) (recRow x))/\Value.func (Fn.func 211) #[] #[]=Value.func (Fn.func 211) #[] #[]/\True)/\Len (List.length x))/\(!anyI (List.length x) fun(i:Nat)=>lateR (List.getD x i default))=areOK L)):
  PureFn Tryz.prog 152 [recS L] (.bool (areOK L)):=
 vcR (code:=b_areRecords) (gC RecordOKi_ok call_RecordOKi (gC anyRec_ok call_anyRec gN)) Tryz.func152 (by kernel_rfl) (by kernel_rfl) (A_areRecords L) h (by kernel_rfl)
theorem areOK_iff{L:List Rec}:areOK L=true↔∀i,i<L.length->recOK (L.getD i default)=true/\(L.getD i default).l=(i:Int)+1:=by
 unfold areOK;rw[Bool.not_eq_true',Bool.eq_false_iff,ne_eq,anyI_iff];constructor
 ·intro h i hi;have:¬badR L i=true:=fun hb=>h ⟨i,hi,hb⟩
  simpa[badR] using this
 ·rintro h ⟨i,hi,hb⟩;have:=h i hi;unfold badR at hb;rw[this.1,this.2] at hb;simp at hb
theorem getD_mem{L:List Rec}{i:Nat}(h:i<L.length):L.getD i default ∈ L:=by
 rw[List.getD_eq_getElem?_getD,List.getElem?_eq_getElem h]
 exact List.getElem_mem h
theorem areRecords_ok:ConOk Tryz.prog 152 k_areRecords:=by
 intro L hL;obtain⟨hn,hb⟩:LogB L:=hL;refine v_areRecords L ⟨⟨cnt0,⟨⟨rfl,fun _ _=>rfl⟩,⟨rfl,fun _ _=>rfl⟩,rfl,rfl,trivial⟩,trivial⟩,fun x=>⟨fun hc=> ?_,fun hc=> ?_⟩⟩
 ·have hlt:=lt_of_dec hc;refine⟨inB_nat hlt,hb _ (getD_mem hlt),fun _=>add_rng hlt (by omega),fun hp=> ?_,fun hp=>⟨add_rng hlt (by omega),x.succ hlt hp,⟨⟨⟨rfl,fun _ _=>rfl⟩,⟨rfl,fun _ _=>rfl⟩,rfl,rfl,trivial⟩,trivial⟩,Cnt.ext_lt hlt⟩⟩
  have:anyI L.length (badR L)=true:=anyI_iff.2 ⟨x.1,hlt,hp⟩;simp[areOK,this]
 ·have hge:=le_of_not hc;have hgood:areOK L=true:=by
   unfold areOK;rw[Bool.not_eq_true',Bool.eq_false_iff,ne_eq,anyI_iff];rintro⟨i,hi,h⟩;rw[x.2.2 i (by omega)] at h
   cases h
  refine⟨L,⟨⟨⟨rfl,fun _ _=>rfl⟩,rfl,trivial⟩,hn⟩,?_⟩
  rw[hgood,Bool.not_eq_true',Bool.eq_false_iff,ne_eq,anyI_iff];rintro⟨i,hi,h⟩;have h1:=(recOK_iff _).1 (areOK_iff.1 hgood i hi).1;obtain⟨_,_,_,h60,_⟩:=h1;have:¬ (L.getD i default).l>60:=by omega
  simp[lateR] at h;simp at this;omega
end Go.Proofs.YtokaojbaacnngaaGreat

