/- A part of the proof. -/
import Derived.Test.YtokaojbaacnngaaGreatD5D6
namespace Go.Proofs.YtokaojbaacnngaaGreat
set_option maxRecDepth 100000
open Go.SS

def rem(left:Int)(n:Nat):Int:=if 0<=left-n then left-n else-1
def Left(n:Int):Prop:=0<=n/\n<=1048576
def bulkR(r:Rec):Nat:=r.b.length+r.a.length
def RecB(r:Rec):Prop:=r.b.length<=9223372036854775807/\r.a.length<=9223372036854775807
def r_szRec:Rl:=⟨Rec×Int,fun x=>[.agg x.1.ts,.int .i64 x.2],fun x=>.int .i64 (rem x.2 (bulkR x.1)),fun x=>Left x.2/\RecB x.1⟩
def k_szRec:Con:=.rel r_szRec
noncomputable def b_szRec:Code:=Tryz.f135.body.getD .skip
theorem call_szRec:Callable Tryz.prog 135:=⟨_,Tryz.func135,by kernel_rfl,by kernel_rfl⟩
theorem v_szRec(r:Rec)(left:Int)(h:
  Rng .i64 (left- (r.b.length:Int))/\(decide (left- (r.b.length:Int)<(0:Int))=true->(-1:Int)=rem left (bulkR r))/\(decide (left- (r.b.length:Int)<(0:Int))=false->Rng .i64 (left- (r.b.length:Int)-
  (r.a.length:Int))/\(decide (left- (r.b.length:Int)- (r.a.length:Int)<(0:Int))=true->(-1:Int)=rem left (bulkR r))/\(decide (left- (r.b.length:Int)- (r.a.length:Int)<(0:Int))=false->left- (r.b.length:Int)-
  (r.a.length:Int)=rem left (bulkR r)))):
  PureFn Tryz.prog 135 [.agg r.ts,.int .i64 left] (.int .i64 (rem left (bulkR r))):=
 vcR (code:=b_szRec) gN Tryz.func135 (by kernel_rfl) (by kernel_rfl) noAnn h (by kernel_rfl)
theorem rem_lt{left:Int}{n:Nat}(h:left<n):rem left n= -1:=by unfold rem;rw[if_neg (by omega)]
theorem rem_ge{left:Int}{n:Nat}(h:(n:Int)<=left):rem left n=left-n:=by unfold rem;rw[if_pos (by omega)]
theorem szRec_ok:ConOk Tryz.prog 135 k_szRec:=by
 rintro⟨r,left⟩ ⟨⟨h0,h1⟩,hb,ha⟩;simp only at h0 h1 hb ha;refine v_szRec r left ?_
 simp only[rng_i64,decide_eq_true_eq,decide_eq_false_iff_not];have e:((bulkR r:Nat):Int)=r.b.length+r.a.length:=by unfold bulkR;omega
 refine⟨by omega,fun h=>(rem_lt (by omega)).symm,fun h=>⟨by omega,fun h'=>(rem_lt (by omega)).symm,fun h'=> ?_⟩⟩
 rw[rem_ge (by omega)]
 omega
def bulkTo{α:Type}(f:α->Nat)(L:List α)(n:Nat):Nat->Nat
 |0=>n
 |i+1=>bulkTo f L n i+(L[i]?.map f).getD 0
def bulkL{α:Type}(f:α->Nat)(L:List α):Nat:=bulkTo f L L.length L.length
def r_szRecS:Rl:=⟨List Rec×Int,fun x=>[recS x.1,.int .i64 x.2],fun x=>.int .i64 (rem x.2 (bulkL bulkR x.1)),fun x=>Left x.2/\x.1.length<=9223372036854775807/\∀r ∈ x.1,RecB r⟩
def k_szRecS:Con:=.rel r_szRecS
def A_szRecS(L:List Rec)(left:Int):Nat->Ann
 |0=>.one {i:Nat//i<=L.length/\(bulkTo bulkR L L.length i:Int)<=left} (fun x=>⟨[(0,recS L),(1,.int .i64 (left-bulkTo bulkR L L.length x.1)),(5,.int .i64 x.1)],[]⟩) (fun x=>L.length-x.1) [] [] (fun _=>noAnn)
 |_=>.none
noncomputable def b_szRecS:Code:=Tryz.f68.body.getD .skip
theorem call_szRecS:Callable Tryz.prog 68:=⟨_,Tryz.func68,by kernel_rfl,by kernel_rfl⟩
theorem v_szRecS(L:List Rec)(left:Int)(h:
  Rng .i64 (left- (L.length:Int))/\(decide (left- (L.length:Int)<(0:Int))=true->(-1:Int)=rem left (bulkL bulkR L))/\(decide (left- (L.length:Int)<(0:Int))=false->(∃(x:{i:Nat//i<=L.length/\(↑(bulkTo
  bulkR L L.length i):Int)<=left}),((EqL recRow L L)/\left- (L.length:Int)=left- (↑(bulkTo bulkR L L.length x.val):Int)/\(0:Int)=(x.val:Int)/\True)/\True)/\∀(x:{i:Nat//i<=L.length/\(↑(bulkTo bulkR L
  L.length i):Int)<=left}),(decide ((x.val:Int)<(L.length:Int))=true->InB (x.val:Int) L.length/\∃(x_1:r_szRec.ι),((((L.getD (x.val:Int).toNat default).e=x_1.fst.e/\(L.getD (x.val:Int).toNat default).l=x_1.fst.l/\
  (L.getD (x.val:Int).toNat default).t=x_1.fst.t/\(L.getD (x.val:Int).toNat default).k=x_1.fst.k/\(L.getD (x.val:Int).toNat default).p=x_1.fst.p/\(L.getD (x.val:Int).toNat default).n=x_1.fst.n/\(L.getD (x.val:Int).toNat
  default).g=x_1.fst.g/\(L.getD (x.val:Int).toNat default).s=x_1.fst.s/\(L.getD (x.val:Int).toNat default).b=x_1.fst.b/\(L.getD (x.val:Int).toNat default).a=x_1.fst.a/\True)/\left- (↑(bulkTo bulkR L L.length x.val):
  Int)=x_1.snd/\True)/\Left x_1.snd/\RecB x_1.fst)/\(decide (rem x_1.snd (bulkR x_1.fst)<(0:Int))=true->(-1:Int)=rem left (bulkL bulkR L))/\(decide (rem x_1.snd (bulkR x_1.fst)<(0:Int))=false->Rng .i64
  ((x.val:Int)+(1:Int))/\∃(y:{i:Nat//i<=L.length/\(↑(bulkTo bulkR L L.length i):Int)<=left}),(((EqL recRow L L)/\rem x_1.snd (bulkR x_1.fst)=left- (↑(bulkTo bulkR L L.length y.val):Int)/\(x.val:Int)+(1:
  Int)=(y.val:Int)/\True)/\True)/\Lt (L.length-y.val) (L.length-x.val)))/\(decide ((x.val:Int)<(L.length:Int))=false->left- (↑(bulkTo bulkR L L.length x.val):Int)=rem left (bulkL bulkR L)))):
  PureFn Tryz.prog 68 [recS L,.int .i64 left] (.int .i64 (rem left (bulkL bulkR L))):=
 vcR (code:=b_szRecS) (gC szRec_ok call_szRec gN) Tryz.func68 (by kernel_rfl) (by kernel_rfl) (A_szRecS L left) h (by kernel_rfl)
theorem bulkTo_succ{α:Type}(f:α->Nat)(L:List α)(n:Nat){i:Nat}(d:α)(h:i<L.length):bulkTo f L n (i+1)=bulkTo f L n i+f (L.getD i d):=by
 simp[bulkTo,List.getD_eq_getElem?_getD,List.getElem?_eq_getElem h]
theorem bulkTo_mono{α:Type}(f:α->Nat)(L:List α)(n:Nat):∀{i j:Nat},i<=j->bulkTo f L n i<=bulkTo f L n j:=by
 intro i j h;induction h with
 |refl=>exact Nat.le_refl _
 |step _ ih=>simp only[bulkTo];omega
theorem szRecS_ok:ConOk Tryz.prog 68 k_szRecS:=by
 rintro⟨L,left⟩ ⟨⟨h0,h1⟩,hn,hb⟩;simp only at h0 h1 hb hn;have r0:∀(n:Nat) (row:Nat->List T),RowsEq n row row:=fun n row i hi=>rfl
 have hm:∀i,i<=L.length->bulkTo bulkR L L.length i<=bulkL bulkR L:=fun i hi=>bulkTo_mono _ _ _ hi
 have hz:bulkTo bulkR L L.length 0=L.length:=rfl;refine v_szRecS L left ?_
 simp only[rng_i64,decide_eq_true_eq,decide_eq_false_iff_not];refine⟨by omega,fun h=>(rem_lt (by have:=hm 0 (Nat.zero_le _);omega)).symm,fun h=>⟨⟨⟨0,Nat.zero_le _,by omega⟩,⟨⟨(by trivial),r0 _ _⟩,by simp only[hz],rfl,trivial⟩,trivial⟩,fun x=>⟨fun hc=> ?_,fun hc=> ?_⟩⟩⟩
 ·have hlt:x.val<L.length:=by omega
  have hx:=x.2;have hs:=bulkTo_succ bulkR L L.length default hlt;have hle:=hm (x.val+1) hlt;have hbr:=hb _ (getD_mem hlt);refine⟨inB_nat hlt,⟨L.getD x.val default,left- (bulkTo bulkR L L.length x.val:Int)⟩,⟨⟨⟨rfl,rfl,rfl,rfl,rfl,rfl,rfl,rfl,rfl,rfl,trivial⟩,rfl,trivial⟩,⟨by simp only;omega,by simp only;omega⟩,hbr⟩,fun hr=> ?_,fun hr=>⟨by omega,⟨x.val+1,hlt,?_⟩,⟨⟨⟨(by trivial),r0 _ _⟩,?_,by simp only;omega,trivial⟩,trivial⟩,Cnt.ext_lt hlt⟩⟩
  ·simp only at hr;by_cases hq:(bulkR (L.getD x.val default):Int)<=left- (bulkTo bulkR L L.length x.val:Int)
   ·rw[rem_ge hq] at hr;omega
   ·exact(rem_lt (by omega)).symm
  ·simp only at hr;by_cases hq:(bulkR (L.getD x.val default):Int)<=left- (bulkTo bulkR L L.length x.val:Int)
   ·omega
   ·rw[rem_lt (by omega)] at hr
    omega
  ·simp only at hr ⊢;by_cases hq:(bulkR (L.getD x.val default):Int)<=left- (bulkTo bulkR L L.length x.val:Int)
   ·rw[rem_ge hq];omega
   ·rw[rem_lt (by omega)] at hr
    omega
 ·have hx:=x.2;have he:x.val=L.length:=by omega
  rw[he] at hx ⊢;exact(rem_ge hx.2).symm
def r_toRec:Rl:=⟨Rec,fun r=>[.agg r.ts],fun r=>.agg r.ts,fun _=>True⟩
def k_toRec:Con:=.rel r_toRec
noncomputable def b_toRec:Code:=Tryz.f147.body.getD .skip
theorem call_toRec:Callable Tryz.prog 147:=⟨_,Tryz.func147,by kernel_rfl,by kernel_rfl⟩
theorem v_toRec(r:Rec)(h:
  r.e=r.e/\r.l=r.l/\r.t=r.t/\r.k=r.k/\r.p=r.p/\r.n=r.n/\r.g=r.g/\r.s=r.s/\r.b=r.b/\r.a=r.a/\True):
  PureFn Tryz.prog 147 [.agg r.ts] (.agg r.ts):=
 vcR (code:=b_toRec) gN Tryz.func147 (by kernel_rfl) (by kernel_rfl) noAnn h (by kernel_rfl)
theorem toRec_ok:ConOk Tryz.prog 147 k_toRec:=fun r _=>v_toRec r ⟨rfl,rfl,rfl,rfl,rfl,rfl,rfl,rfl,rfl,rfl,trivial⟩
def upTo{α:Type}(d z:α)(L:List α)(i j:Nat):α:=if j<i then L.getD j d else z
def zeroR:Rec:=⟨0,0,0,0,0,0,0,0,[],[]⟩
def A_toRecS(L:List Rec):Nat->Ann
 |0=>.one {i:Nat//i<=L.length} (fun x=>⟨[(0,recS L),(3,.osl 0 0 L.length),(4,.int .i64 x.1)],[some (.arr true 0 10 L.length fun j=>(upTo default zeroR L x.1 j).ts)]⟩) (fun x=>L.length-x.1) [.arr 0] [.arr 0] (fun _=>noAnn)
 |_=>.none
theorem setRow_full{row:Nat->List T}{i k:Nat}{cs:List T}(h:cs.length=(row k).length):setRow row i 0 cs k=match Nat.beq k i with|true=>cs|false=>row k:=by
 rw[setRow_eq (by omega)]
 cases Nat.beq k i
 ·rfl
 ·simp[h]
theorem upTo_succ{α:Type}{d z:α}{L:List α}{i j:Nat}:upTo d z L (i+1) j=if j=i then L.getD j d else upTo d z L i j:=by
 unfold upTo;by_cases h:j=i
 ·subst h;simp
 ·by_cases h2:j<i
  ·rw[if_pos (by omega),if_neg h,if_pos h2]
  ·rw[if_neg (by omega),if_neg h,if_neg h2]
theorem up_rows{α:Type}(ts:α->List T)(m:Nat)(hm:∀a,(ts a).length=m)(d z:α)(L:List α)(i j:Nat):
  setRow (fun j=>ts (upTo d z L i j)) (0+(i:Int).toNat) 0 (ts (L.getD i d)) j=ts (upTo d z L (i+1) j):=by
 rw[setRow_full (by rw[hm,hm]),upTo_succ,show 0+(i:Int).toNat=i by omega]
 by_cases hji:j=i
 ·subst hji;rw[if_pos rfl,show Nat.beq j j=true from by simp]
 ·rw[if_neg hji,show Nat.beq j i=false from Bool.eq_false_iff.2 fun h=>hji (Nat.eq_of_beq_eq_true h)]
def r_eqRec:Rl:=⟨Rec,fun r=>[.agg r.ts,.agg r.ts],fun _=>.bool true,fun _=>True⟩
def k_eqRec:Con:=.rel r_eqRec
noncomputable def b_eqRec:Code:=Tryz.f169.body.getD .skip
theorem call_eqRec:Callable Tryz.prog 169:=⟨_,Tryz.func169,by kernel_rfl,by kernel_rfl⟩
theorem v_eqRec(r:Rec)(h:
  ((r.e !=r.e)=true->false=true)/\((r.e !=r.e)=false->((r.l !=r.l)=true->false=true)/\((r.l !=r.l)=false->((r.t !=r.t)=true->false=true)/\((r.t !=r.t)=false->((r.k !=r.k)=true->false=true)/\
  ((r.k !=r.k)=false->((r.p !=r.p)=true->false=true)/\((r.p !=r.p)=false->((r.n !=r.n)=true->false=true)/\((r.n !=r.n)=false->((r.g !=r.g)=true->false=true)/\((r.g !=r.g)=false->((r.s !=r.s)=
  true->false=true)/\((r.s !=r.s)=false->((!r.b==r.b)=true->false=true)/\((!r.b==r.b)=false->((!r.a==r.a)=true->false=true)/\((!r.a==r.a)=false->true=true))))))))))):
  PureFn Tryz.prog 169 [.agg r.ts,.agg r.ts] (.bool true):=
 vcR (code:=b_eqRec) gN Tryz.func169 (by kernel_rfl) (by kernel_rfl) noAnn h (by kernel_rfl)
theorem eqRec_ok:ConOk Tryz.prog 169 k_eqRec:=by
 intro r _;refine v_eqRec r ?_
 simp
def r_eqRecS:Rl:=⟨List Rec,fun L=>[recS L,recS L],fun _=>.bool true,fun L=>L.length<=1048576⟩
def k_eqRecS:Con:=.rel r_eqRecS
def A_eqRecS(L:List Rec):Nat->Ann
 |0=>.one {i:Nat//i<=L.length} (fun x=>⟨[(0,recS L),(1,recS L),(5,.int .i64 x.1)],[]⟩) (fun x=>L.length-x.1) [] [] (fun _=>noAnn)
 |_=>.none
noncomputable def b_eqRecS:Code:=Tryz.f94.body.getD .skip
theorem call_eqRecS:Callable Tryz.prog 94:=⟨_,Tryz.func94,by kernel_rfl,by kernel_rfl⟩
theorem v_eqRecS(L:List Rec)(h:
  (((L.length:Int) !=(L.length:Int))=true->false=true)/\(((L.length:Int) !=(L.length:Int))=false->(∃(x:{i:Nat//i<=L.length}),((EqL recRow L L)/\(EqL recRow L L)/\(0:Int)=(x.val:Int)/\True)/\True)/\∀(x
  :{i:Nat//i<=L.length}),(decide ((x.val:Int)<(L.length:Int))=true->InB (x.val:Int) L.length/\InB (x.val:Int) L.length/\∃(x_1:r_eqRec.ι),((((L.getD (x.val:Int).toNat default).e=x_1.e/\(L.getD (x.val:Int).toNat
  default).l=x_1.l/\(L.getD (x.val:Int).toNat default).t=x_1.t/\(L.getD (x.val:Int).toNat default).k=x_1.k/\(L.getD (x.val:Int).toNat default).p=x_1.p/\(L.getD (x.val:Int).toNat default).n=x_1.n/\(L.getD
  (x.val:Int).toNat default).g=x_1.g/\(L.getD (x.val:Int).toNat default).s=x_1.s/\(L.getD (x.val:Int).toNat default).b=x_1.b/\(L.getD (x.val:Int).toNat default).a=x_1.a/\True)/\((L.getD (x.val:Int).toNat default).e=
  x_1.e/\(L.getD (x.val:Int).toNat default).l=x_1.l/\(L.getD (x.val:Int).toNat default).t=x_1.t/\(L.getD (x.val:Int).toNat default).k=x_1.k/\(L.getD (x.val:Int).toNat default).p=x_1.p/\(L.getD (x.val:Int).toNat
  default).n=x_1.n/\(L.getD (x.val:Int).toNat default).g=x_1.g/\(L.getD (x.val:Int).toNat default).s=x_1.s/\(L.getD (x.val:Int).toNat default).b=x_1.b/\(L.getD (x.val:Int).toNat default).a=x_1.a/\True)/\True)/\True)
  /\(false=true->false=true)/\(false=false->Rng .i64 ((x.val:Int)+(1:Int))/\∃(y:{i:Nat//i<=L.length}),(((EqL recRow L L)/\(EqL recRow L L)/\(x.val:Int)+(1:Int)=(y.val:Int)/\True)/\True)/\Lt
  (L.length-y.val) (L.length-x.val)))/\(decide ((x.val:Int)<(L.length:Int))=false->true=true))):
  PureFn Tryz.prog 94 [recS L,recS L] (.bool true):=
 vcR (code:=b_eqRecS) (gC eqRec_ok call_eqRec gN) Tryz.func94 (by kernel_rfl) (by kernel_rfl) (A_eqRecS L) h (by kernel_rfl)
theorem eqRecS_ok:ConOk Tryz.prog 94 k_eqRecS:=by
 intro L hL;have hL:L.length<=1048576:=hL;have r0:∀(n:Nat) (row:Nat->List T),RowsEq n row row:=fun n row i hi=>rfl
 refine v_eqRecS L ⟨fun h=>by simp at h,fun _=>⟨⟨⟨0,Nat.zero_le _⟩,⟨⟨(by trivial),r0 _ _⟩,⟨(by trivial),r0 _ _⟩,rfl,trivial⟩,trivial⟩,fun x=>⟨fun hc=> ?_,fun _=>rfl⟩⟩⟩
 have hlt:=lt_of_dec hc;exact⟨inB_nat hlt,inB_nat hlt,L.getD x.val default,⟨⟨⟨rfl,rfl,rfl,rfl,rfl,rfl,rfl,rfl,rfl,rfl,trivial⟩,⟨rfl,rfl,rfl,rfl,rfl,rfl,rfl,rfl,rfl,rfl,trivial⟩,trivial⟩,trivial⟩,fun h=>h,fun _=>⟨add_rng hlt (by omega),⟨x.val+1,hlt⟩,⟨⟨⟨(by trivial),r0 _ _⟩,⟨(by trivial),r0 _ _⟩,by simp only;omega,trivial⟩,trivial⟩,Cnt.ext_lt hlt⟩⟩
end Go.Proofs.YtokaojbaacnngaaGreat

