/- A part of the proof. -/
import Derived.Test.YtokaojbaacnngaaGreatW4
import Derived.Test.YtokaojbaacnngaaGreatF1F2
namespace Go.Proofs.YtokaojbaacnngaaGreat
set_option maxRecDepth 100000
open Go.SS

theorem eqSto_ok:ConOk Tryz.prog 44 k_eqSto:=by
 rintro(s:Sto) ⟨h1,h2,h3,h4⟩;exact v_eqSto s ⟨s.d,⟨⟨(eqD _),(eqD _),trivial⟩,h1⟩,fun h=>h,fun _=>⟨fun h=>by simp at h,fun _=>⟨s.log,⟨⟨⟨rfl,rowsR _ _⟩,⟨rfl,rowsR _ _⟩,trivial⟩,h2⟩,fun h=>h,fun _=>⟨fun h=>by simp at h,fun _=>⟨s.fr,⟨⟨⟨rfl,rowsR _ _⟩,⟨rfl,rowsR _ _⟩,trivial⟩,h3,h4⟩,fun h=>h,fun _=>⟨fun h=>by simp at h,fun _=>rfl⟩⟩⟩⟩⟩⟩
theorem bulk_len{α:Type}(f:α->Nat)(L:List α):L.length<=bulkL f L:=by
 have:=bulkTo_mono f L L.length (Nat.zero_le L.length);have hz:bulkTo f L L.length 0=L.length:=rfl;unfold bulkL;omega
theorem bulk_get{α:Type}(f:α->Nat)(L:List α)(d:α){i:Nat}(hi:i<L.length):f (L.getD i d)+L.length<=bulkL f L:=by
 have h1:=bulkTo_mono f L L.length (show i+1<=L.length from hi)
 have h2:=bulkTo_succ f L L.length d hi;have h3:=bulkTo_mono f L L.length (Nat.zero_le i);have hz:bulkTo f L L.length 0=L.length:=rfl;unfold bulkL;omega
theorem rem_big{left:Int}{n:Nat}(h:¬rem left n<0):(n:Int)<=left:=by
 by_cases hq:(n:Int)<=left
 ·exact hq
 ·rw[rem_lt (by omega)] at h
  omega
theorem small_sto{s:Sto}(h:bulkS s<=1048576):SmS s/\StoB s:=by
 have e:bulkS s=bulkL lenS s.d.sec+bulkL bulkP s.d.cache+s.d.keep.length+bulkL bulkR s.log+bulkL bulkF s.fr:=rfl;have a1:=bulk_len lenS s.d.sec;have a2:=bulk_len bulkP s.d.cache;have a3:=bulk_len bulkR s.log;have a4:=bulk_len bulkF s.fr;have f1:∀i,i<s.fr.length->(s.fr.getD i default).pg.sl.length<=1048576:=fun i hi=>by
  have h1:=bulk_get bulkF s.fr default hi;have h2:=bulk_len lenS (s.fr.getD i default).pg.sl;have h3:bulkF (s.fr.getD i default)=bulkL lenS (s.fr.getD i default).pg.sl:=rfl;omega
 have l1:∀r ∈ s.log,r.a.length<=1048576:=fun r hr=>by
  obtain⟨i,hi,rfl⟩:=List.mem_iff_getElem.1 hr;have h1:=bulk_get bulkR s.log default hi;rw[List.getD_eq_getElem?_getD,List.getElem?_eq_getElem hi,Option.getD_some] at h1
  have h3:bulkR s.log[i]=s.log[i].b.length+s.log[i].a.length:=rfl;omega
 refine⟨⟨⟨by omega,by omega,by omega⟩,by omega,by omega,f1⟩,⟨by unfold Len;omega,by unfold Len;omega,by unfold Len;omega⟩,⟨by omega,fun r hr=>by have:=l1 r hr;omega⟩,⟨by unfold Len;omega,fun i hi=> ?_⟩,fun r hr=> ?_⟩
 ·have:=f1 i hi;show(s.fr.getD i default).pg.sl.length<1000000000000;omega
 ·have:=l1 r hr;show r.a.length<1000000000000;omega

def r_szTxnS:Rl:=⟨List Txn×Int,fun x=>[txnS x.1,.int .i64 x.2],fun x=>.int .i64 (rem x.2 x.1.length),fun x=>Left x.2/\Lim x.1.length⟩
def k_szTxnS:Con:=.rel r_szTxnS
noncomputable def b_szTxnS:Code:=Tryz.f33.body.getD .skip
theorem call_szTxnS:Callable Tryz.prog 33:=⟨_,Tryz.func33,by kernel_rfl,by kernel_rfl⟩
theorem v_szTxnS(L:List Txn)(left:Int)(h:
  Rng .i64 (left- (L.length:Int))/\(decide (left- (L.length:Int)<(0:Int))=true->(-1:Int)=rem left L.length)/\(decide (left- (L.length:Int)<(0:Int))=false->left- (L.length:Int)=rem left L.length)):
  PureFn Tryz.prog 33 [txnS L,.int .i64 left] (.int .i64 (rem left L.length)):=
 vcR (code:=b_szTxnS) gN Tryz.func33 (by kernel_rfl) (by kernel_rfl) noAnn h (by kernel_rfl)
theorem szTxnS_ok:ConOk Tryz.prog 33 k_szTxnS:=by
 rintro⟨L,left⟩ ⟨⟨h0,h1⟩,hn⟩;have hn:L.length<=9223372036854775807:=hn;simp only at h0 h1;refine v_szTxnS L left ?_
 simp only[rng_i64,decide_eq_true_eq,decide_eq_false_iff_not];exact⟨by omega,fun h=>(rem_lt (by omega)).symm,fun h=>(rem_ge (by omega)).symm⟩
def r_toTxn:Rl:=⟨Txn,fun r=>[.agg r.ts],fun r=>.agg r.ts,fun _=>True⟩
def k_toTxn:Con:=.rel r_toTxn
noncomputable def b_toTxn:Code:=Tryz.f84.body.getD .skip
theorem call_toTxn:Callable Tryz.prog 84:=⟨_,Tryz.func84,by kernel_rfl,by kernel_rfl⟩
theorem v_toTxn(r:Txn)(h:
  r.id=r.id/\r.last=r.last/\True):
  PureFn Tryz.prog 84 [.agg r.ts] (.agg r.ts):=
 vcR (code:=b_toTxn) gN Tryz.func84 (by kernel_rfl) (by kernel_rfl) noAnn h (by kernel_rfl)
theorem toTxn_ok:ConOk Tryz.prog 84 k_toTxn:=fun r _=>v_toTxn r ⟨rfl,rfl,trivial⟩
def r_eqTxn:Rl:=⟨Txn,fun r=>[.agg r.ts,.agg r.ts],fun _=>.bool true,fun _=>True⟩
def k_eqTxn:Con:=.rel r_eqTxn
noncomputable def b_eqTxn:Code:=Tryz.f96.body.getD .skip
theorem call_eqTxn:Callable Tryz.prog 96:=⟨_,Tryz.func96,by kernel_rfl,by kernel_rfl⟩
theorem v_eqTxn(r:Txn)(h:
  ((r.id !=r.id)=true->false=true)/\((r.id !=r.id)=false->((r.last !=r.last)=true->false=true)/\((r.last !=r.last)=false->true=true))):
  PureFn Tryz.prog 96 [.agg r.ts,.agg r.ts] (.bool true):=
 vcR (code:=b_eqTxn) gN Tryz.func96 (by kernel_rfl) (by kernel_rfl) noAnn h (by kernel_rfl)
theorem eqTxn_ok:ConOk Tryz.prog 96 k_eqTxn:=by
 intro r _;refine v_eqTxn r ?_
 simp
def A_toTxnS(L:List Txn):Nat->Ann
 |0=>.one {i:Nat//i<=L.length} (fun x=>⟨[(0,txnS L),(3,.osl 0 0 L.length),(4,.int .i64 x.1)],[some (.arr true 0 2 L.length (upT (txnRow L) [.int .i64 0,.int .i64 0] x.1))]⟩) (fun x=>L.length-x.1) [.arr 0] [.arr 0] (fun _=>noAnn)
 |_=>.none
def r_eqTxnS:Rl:=⟨List Txn,fun L=>[txnS L,txnS L],fun _=>.bool true,fun L=>L.length<=1048576⟩
def k_eqTxnS:Con:=.rel r_eqTxnS
def A_eqTxnS(L:List Txn):Nat->Ann
 |0=>.one {i:Nat//i<=L.length} (fun x=>⟨[(0,txnS L),(1,txnS L),(5,.int .i64 x.1)],[]⟩) (fun x=>L.length-x.1) [] [] (fun _=>noAnn)
 |_=>.none
noncomputable def b_eqTxnS:Code:=Tryz.f45.body.getD .skip
theorem call_eqTxnS:Callable Tryz.prog 45:=⟨_,Tryz.func45,by kernel_rfl,by kernel_rfl⟩
theorem v_eqTxnS(L:List Txn)(h:
  (((L.length:Int) !=(L.length:Int))=true->false=true)/\(((L.length:Int) !=(L.length:Int))=false->(∃(x:{i:Nat//i<=L.length}),((EqL txnRow L L)/\(EqL txnRow L L)/\(0:Int)=(x.val:Int)/\True)/\True)/\∀(x
  :{i:Nat//i<=L.length}),(decide ((x.val:Int)<(L.length:Int))=true->InB (x.val:Int) L.length/\InB (x.val:Int) L.length/\∃(x_1:r_eqTxn.ι),((((L.getD (x.val:Int).toNat default).id=x_1.id/\(L.getD
  (x.val:Int).toNat default).last=x_1.last/\True)/\((L.getD (x.val:Int).toNat default).id=x_1.id/\(L.getD (x.val:Int).toNat default).last=x_1.last/\True)/\True)/\True)/\(false=true->false=true)/\(false=false->
  Rng .i64 ((x.val:Int)+(1:Int))/\∃(y:{i:Nat//i<=L.length}),(((EqL txnRow L L)/\(EqL txnRow L L)/\(x.val:Int)+(1:Int)=(y.val:Int)/\True)/\True)/\Lt (L.length-y.val) (L.length-x.val)))/\(decide
  ((x.val:Int)<(L.length:Int))=false->true=true))):
  PureFn Tryz.prog 45 [txnS L,txnS L] (.bool true):=
 vcR (code:=b_eqTxnS) (gC eqTxn_ok call_eqTxn gN) Tryz.func45 (by kernel_rfl) (by kernel_rfl) (A_eqTxnS L) h (by kernel_rfl)
theorem eqTxnS_ok:ConOk Tryz.prog 45 k_eqTxnS:=by
 intro(L:List Txn) (hL:L.length<=1048576);refine v_eqTxnS L ⟨fun h=>by simp at h,fun _=>⟨⟨⟨0,Nat.zero_le _⟩,⟨⟨(by trivial),rowsR _ _⟩,⟨(by trivial),rowsR _ _⟩,rfl,trivial⟩,trivial⟩,fun x=>⟨fun hc=> ?_,fun _=>rfl⟩⟩⟩
 have hlt:=lt_of_dec hc;exact⟨inB_nat hlt,inB_nat hlt,L.getD x.val default,⟨⟨⟨rfl,rfl,trivial⟩,⟨rfl,rfl,trivial⟩,trivial⟩,trivial⟩,fun h=>h,fun _=>⟨add_rng hlt (by omega),⟨x.val+1,hlt⟩,⟨⟨⟨(by trivial),rowsR _ _⟩,⟨(by trivial),rowsR _ _⟩,by simp only;omega,trivial⟩,trivial⟩,Cnt.ext_lt hlt⟩⟩
def r_szLckS:Rl:=⟨List Lck×Int,fun x=>[lckS x.1,.int .i64 x.2],fun x=>.int .i64 (rem x.2 x.1.length),fun x=>Left x.2/\Lim x.1.length⟩
def k_szLckS:Con:=.rel r_szLckS
noncomputable def b_szLckS:Code:=Tryz.f70.body.getD .skip
theorem call_szLckS:Callable Tryz.prog 70:=⟨_,Tryz.func70,by kernel_rfl,by kernel_rfl⟩
theorem v_szLckS(L:List Lck)(left:Int)(h:
  Rng .i64 (left- (L.length:Int))/\(decide (left- (L.length:Int)<(0:Int))=true->(-1:Int)=rem left L.length)/\(decide (left- (L.length:Int)<(0:Int))=false->left- (L.length:Int)=rem left L.length)):
  PureFn Tryz.prog 70 [lckS L,.int .i64 left] (.int .i64 (rem left L.length)):=
 vcR (code:=b_szLckS) gN Tryz.func70 (by kernel_rfl) (by kernel_rfl) noAnn h (by kernel_rfl)
theorem szLckS_ok:ConOk Tryz.prog 70 k_szLckS:=by
 rintro⟨L,left⟩ ⟨⟨h0,h1⟩,hn⟩;have hn:L.length<=9223372036854775807:=hn;simp only at h0 h1;refine v_szLckS L left ?_
 simp only[rng_i64,decide_eq_true_eq,decide_eq_false_iff_not];exact⟨by omega,fun h=>(rem_lt (by omega)).symm,fun h=>(rem_ge (by omega)).symm⟩
def r_toLck:Rl:=⟨Lck,fun r=>[.agg r.ts],fun r=>.agg r.ts,fun _=>True⟩
def k_toLck:Con:=.rel r_toLck
noncomputable def b_toLck:Code:=Tryz.f149.body.getD .skip
theorem call_toLck:Callable Tryz.prog 149:=⟨_,Tryz.func149,by kernel_rfl,by kernel_rfl⟩
theorem v_toLck(r:Lck)(h:
  r.tx=r.tx/\r.ta=r.ta/\r.row=r.row/\r.mo=r.mo/\True):
  PureFn Tryz.prog 149 [.agg r.ts] (.agg r.ts):=
 vcR (code:=b_toLck) gN Tryz.func149 (by kernel_rfl) (by kernel_rfl) noAnn h (by kernel_rfl)
theorem toLck_ok:ConOk Tryz.prog 149 k_toLck:=fun r _=>v_toLck r ⟨rfl,rfl,rfl,rfl,trivial⟩
def r_eqLck:Rl:=⟨Lck,fun r=>[.agg r.ts,.agg r.ts],fun _=>.bool true,fun _=>True⟩
def k_eqLck:Con:=.rel r_eqLck
noncomputable def b_eqLck:Code:=Tryz.f171.body.getD .skip
theorem call_eqLck:Callable Tryz.prog 171:=⟨_,Tryz.func171,by kernel_rfl,by kernel_rfl⟩
theorem v_eqLck(r:Lck)(h:
  ((r.tx !=r.tx)=true->false=true)/\((r.tx !=r.tx)=false->((r.ta !=r.ta)=true->false=true)/\((r.ta !=r.ta)=false->((r.row !=r.row)=true->false=true)/\((r.row !=r.row)=false->((r.mo !=r.mo)=true->
  false=true)/\((r.mo !=r.mo)=false->true=true))))):
  PureFn Tryz.prog 171 [.agg r.ts,.agg r.ts] (.bool true):=
 vcR (code:=b_eqLck) gN Tryz.func171 (by kernel_rfl) (by kernel_rfl) noAnn h (by kernel_rfl)
theorem eqLck_ok:ConOk Tryz.prog 171 k_eqLck:=by
 intro r _;refine v_eqLck r ?_
 simp
def A_toLckS(L:List Lck):Nat->Ann
 |0=>.one {i:Nat//i<=L.length} (fun x=>⟨[(0,lckS L),(3,.osl 0 0 L.length),(4,.int .i64 x.1)],[some (.arr true 0 4 L.length (upT (lckRow L) [.int .i64 0,.int .i64 0,.int .i64 0,.int .i64 0] x.1))]⟩) (fun x=>L.length-x.1) [.arr 0] [.arr 0] (fun _=>noAnn)
 |_=>.none
def r_eqLckS:Rl:=⟨List Lck,fun L=>[lckS L,lckS L],fun _=>.bool true,fun L=>L.length<=1048576⟩
def k_eqLckS:Con:=.rel r_eqLckS
def A_eqLckS(L:List Lck):Nat->Ann
 |0=>.one {i:Nat//i<=L.length} (fun x=>⟨[(0,lckS L),(1,lckS L),(5,.int .i64 x.1)],[]⟩) (fun x=>L.length-x.1) [] [] (fun _=>noAnn)
 |_=>.none
noncomputable def b_eqLckS:Code:=Tryz.f97.body.getD .skip
theorem call_eqLckS:Callable Tryz.prog 97:=⟨_,Tryz.func97,by kernel_rfl,by kernel_rfl⟩
theorem v_eqLckS(L:List Lck)(h:
  (((L.length:Int) !=(L.length:Int))=true->false=true)/\(((L.length:Int) !=(L.length:Int))=false->(∃(x:{i:Nat//i<=L.length}),((EqL lckRow L L)/\(EqL lckRow L L)/\(0:Int)=(x.val:Int)/\True)/\True)/\∀(x
  :{i:Nat//i<=L.length}),(decide ((x.val:Int)<(L.length:Int))=true->InB (x.val:Int) L.length/\InB (x.val:Int) L.length/\∃(x_1:r_eqLck.ι),((((L.getD (x.val:Int).toNat default).tx=x_1.tx/\(L.getD
  (x.val:Int).toNat default).ta=x_1.ta/\(L.getD (x.val:Int).toNat default).row=x_1.row/\(L.getD (x.val:Int).toNat default).mo=x_1.mo/\True)/\((L.getD (x.val:Int).toNat default).tx=x_1.tx/\(L.getD (x.val:Int).toNat
  default).ta=x_1.ta/\(L.getD (x.val:Int).toNat default).row=x_1.row/\(L.getD (x.val:Int).toNat default).mo=x_1.mo/\True)/\True)/\True)/\(false=true->false=true)/\(false=false->Rng .i64 ((x.val:Int)+(1:Int))
  /\∃(y:{i:Nat//i<=L.length}),(((EqL lckRow L L)/\(EqL lckRow L L)/\(x.val:Int)+(1:Int)=(y.val:Int)/\True)/\True)/\Lt (L.length-y.val) (L.length-x.val)))/\(decide ((x.val:Int)<(L.length:Int))=false->
  true=true))):
  PureFn Tryz.prog 97 [lckS L,lckS L] (.bool true):=
 vcR (code:=b_eqLckS) (gC eqLck_ok call_eqLck gN) Tryz.func97 (by kernel_rfl) (by kernel_rfl) (A_eqLckS L) h (by kernel_rfl)
theorem eqLckS_ok:ConOk Tryz.prog 97 k_eqLckS:=by
 intro(L:List Lck) (hL:L.length<=1048576);refine v_eqLckS L ⟨fun h=>by simp at h,fun _=>⟨⟨⟨0,Nat.zero_le _⟩,⟨⟨(by trivial),rowsR _ _⟩,⟨(by trivial),rowsR _ _⟩,rfl,trivial⟩,trivial⟩,fun x=>⟨fun hc=> ?_,fun _=>rfl⟩⟩⟩
 have hlt:=lt_of_dec hc;exact⟨inB_nat hlt,inB_nat hlt,L.getD x.val default,⟨⟨⟨rfl,rfl,rfl,rfl,trivial⟩,⟨rfl,rfl,rfl,rfl,trivial⟩,trivial⟩,trivial⟩,fun h=>h,fun _=>⟨add_rng hlt (by omega),⟨x.val+1,hlt⟩,⟨⟨⟨(by trivial),rowsR _ _⟩,⟨(by trivial),rowsR _ _⟩,by simp only;omega,trivial⟩,trivial⟩,Cnt.ext_lt hlt⟩⟩
def r_szWtS:Rl:=⟨List Wt×Int,fun x=>[wtS x.1,.int .i64 x.2],fun x=>.int .i64 (rem x.2 x.1.length),fun x=>Left x.2/\Lim x.1.length⟩
def k_szWtS:Con:=.rel r_szWtS
noncomputable def b_szWtS:Code:=Tryz.f71.body.getD .skip
theorem call_szWtS:Callable Tryz.prog 71:=⟨_,Tryz.func71,by kernel_rfl,by kernel_rfl⟩
theorem v_szWtS(L:List Wt)(left:Int)(h:
  Rng .i64 (left- (L.length:Int))/\(decide (left- (L.length:Int)<(0:Int))=true->(-1:Int)=rem left L.length)/\(decide (left- (L.length:Int)<(0:Int))=false->left- (L.length:Int)=rem left L.length)):
  PureFn Tryz.prog 71 [wtS L,.int .i64 left] (.int .i64 (rem left L.length)):=
 vcR (code:=b_szWtS) gN Tryz.func71 (by kernel_rfl) (by kernel_rfl) noAnn h (by kernel_rfl)
theorem szWtS_ok:ConOk Tryz.prog 71 k_szWtS:=by
 rintro⟨L,left⟩ ⟨⟨h0,h1⟩,hn⟩;have hn:L.length<=9223372036854775807:=hn;simp only at h0 h1;refine v_szWtS L left ?_
 simp only[rng_i64,decide_eq_true_eq,decide_eq_false_iff_not];exact⟨by omega,fun h=>(rem_lt (by omega)).symm,fun h=>(rem_ge (by omega)).symm⟩
def r_toWt:Rl:=⟨Wt,fun r=>[.agg r.ts],fun r=>.agg r.ts,fun _=>True⟩
def k_toWt:Con:=.rel r_toWt
noncomputable def b_toWt:Code:=Tryz.f150.body.getD .skip
theorem call_toWt:Callable Tryz.prog 150:=⟨_,Tryz.func150,by kernel_rfl,by kernel_rfl⟩
theorem v_toWt(r:Wt)(h:
  r.tx=r.tx/\r.fo=r.fo/\True):
  PureFn Tryz.prog 150 [.agg r.ts] (.agg r.ts):=
 vcR (code:=b_toWt) gN Tryz.func150 (by kernel_rfl) (by kernel_rfl) noAnn h (by kernel_rfl)
theorem toWt_ok:ConOk Tryz.prog 150 k_toWt:=fun r _=>v_toWt r ⟨rfl,rfl,trivial⟩
def r_eqWt:Rl:=⟨Wt,fun r=>[.agg r.ts,.agg r.ts],fun _=>.bool true,fun _=>True⟩
def k_eqWt:Con:=.rel r_eqWt
noncomputable def b_eqWt:Code:=Tryz.f172.body.getD .skip
theorem call_eqWt:Callable Tryz.prog 172:=⟨_,Tryz.func172,by kernel_rfl,by kernel_rfl⟩
theorem v_eqWt(r:Wt)(h:
  ((r.tx !=r.tx)=true->false=true)/\((r.tx !=r.tx)=false->((r.fo !=r.fo)=true->false=true)/\((r.fo !=r.fo)=false->true=true))):
  PureFn Tryz.prog 172 [.agg r.ts,.agg r.ts] (.bool true):=
 vcR (code:=b_eqWt) gN Tryz.func172 (by kernel_rfl) (by kernel_rfl) noAnn h (by kernel_rfl)
theorem eqWt_ok:ConOk Tryz.prog 172 k_eqWt:=by
 intro r _;refine v_eqWt r ?_
 simp
def A_toWtS(L:List Wt):Nat->Ann
 |0=>.one {i:Nat//i<=L.length} (fun x=>⟨[(0,wtS L),(3,.osl 0 0 L.length),(4,.int .i64 x.1)],[some (.arr true 0 2 L.length (upT (wtRow L) [.int .i64 0,.int .i64 0] x.1))]⟩) (fun x=>L.length-x.1) [.arr 0] [.arr 0] (fun _=>noAnn)
 |_=>.none
def r_eqWtS:Rl:=⟨List Wt,fun L=>[wtS L,wtS L],fun _=>.bool true,fun L=>L.length<=1048576⟩
def k_eqWtS:Con:=.rel r_eqWtS
def A_eqWtS(L:List Wt):Nat->Ann
 |0=>.one {i:Nat//i<=L.length} (fun x=>⟨[(0,wtS L),(1,wtS L),(5,.int .i64 x.1)],[]⟩) (fun x=>L.length-x.1) [] [] (fun _=>noAnn)
 |_=>.none
noncomputable def b_eqWtS:Code:=Tryz.f98.body.getD .skip
theorem call_eqWtS:Callable Tryz.prog 98:=⟨_,Tryz.func98,by kernel_rfl,by kernel_rfl⟩
theorem v_eqWtS(L:List Wt)(h:
  (((L.length:Int) !=(L.length:Int))=true->false=true)/\(((L.length:Int) !=(L.length:Int))=false->(∃(x:{i:Nat//i<=L.length}),((EqL wtRow L L)/\(EqL wtRow L L)/\(0:Int)=(x.val:Int)/\True)/\True)/\∀(x:
  {i:Nat//i<=L.length}),(decide ((x.val:Int)<(L.length:Int))=true->InB (x.val:Int) L.length/\InB (x.val:Int) L.length/\∃(x_1:r_eqWt.ι),((((L.getD (x.val:Int).toNat default).tx=x_1.tx/\(L.getD (x.val:Int).toNat
  default).fo=x_1.fo/\True)/\((L.getD (x.val:Int).toNat default).tx=x_1.tx/\(L.getD (x.val:Int).toNat default).fo=x_1.fo/\True)/\True)/\True)/\(false=true->false=true)/\(false=false->Rng .i64 ((x.val:Int)+(1
  :Int))/\∃(y:{i:Nat//i<=L.length}),(((EqL wtRow L L)/\(EqL wtRow L L)/\(x.val:Int)+(1:Int)=(y.val:Int)/\True)/\True)/\Lt (L.length-y.val) (L.length-x.val)))/\(decide ((x.val:Int)<(L.length:Int))=
  false->true=true))):
  PureFn Tryz.prog 98 [wtS L,wtS L] (.bool true):=
 vcR (code:=b_eqWtS) (gC eqWt_ok call_eqWt gN) Tryz.func98 (by kernel_rfl) (by kernel_rfl) (A_eqWtS L) h (by kernel_rfl)
theorem eqWtS_ok:ConOk Tryz.prog 98 k_eqWtS:=by
 intro(L:List Wt) (hL:L.length<=1048576);refine v_eqWtS L ⟨fun h=>by simp at h,fun _=>⟨⟨⟨0,Nat.zero_le _⟩,⟨⟨(by trivial),rowsR _ _⟩,⟨(by trivial),rowsR _ _⟩,rfl,trivial⟩,trivial⟩,fun x=>⟨fun hc=> ?_,fun _=>rfl⟩⟩⟩
 have hlt:=lt_of_dec hc;exact⟨inB_nat hlt,inB_nat hlt,L.getD x.val default,⟨⟨⟨rfl,rfl,trivial⟩,⟨rfl,rfl,trivial⟩,trivial⟩,trivial⟩,fun h=>h,fun _=>⟨add_rng hlt (by omega),⟨x.val+1,hlt⟩,⟨⟨⟨(by trivial),rowsR _ _⟩,⟨(by trivial),rowsR _ _⟩,by simp only;omega,trivial⟩,trivial⟩,Cnt.ext_lt hlt⟩⟩
def bulkLks(s:Lks):Nat:=s.held.length+s.waits.length
def LmLks(s:Lks):Prop:=Lim s.held.length/\Lim s.waits.length
def SmLks(s:Lks):Prop:=s.held.length<=1048576/\s.waits.length<=1048576
def k_szLks:Con:=.rel ⟨Lks×Int,fun x=>[.agg x.1.ts,.int .i64 x.2],fun x=>.int .i64 (rem x.2 (bulkLks x.1)),fun x=>Left x.2/\LmLks x.1⟩
noncomputable def b_szLks:Code:=Tryz.f34.body.getD .skip
theorem call_szLks:Callable Tryz.prog 34:=⟨_,Tryz.func34,by kernel_rfl,by kernel_rfl⟩
theorem v_szLks(s:Lks)(left:Int)(h:
  ∃(x:r_szLckS.ι),(((EqL lckRow s.held x.fst)/\left=x.snd/\True)/\Left x.snd/\Lim x.fst.length)/\(decide (rem x.snd x.fst.length<(0:Int))=true->(-1:Int)=rem left (bulkLks s))/\(decide (rem x.snd x.fst.length<
  (0:Int))=false->∃(x_1:r_szWtS.ι),(((EqL wtRow s.waits x_1.fst)/\rem x.snd x.fst.length=x_1.snd/\True)/\Left x_1.snd/\Lim x_1.fst.length)/\(decide (rem x_1.snd x_1.fst.length<(0:Int))=true->(-1:Int)=rem
  left (bulkLks s))/\(decide (rem x_1.snd x_1.fst.length<(0:Int))=false->rem x_1.snd x_1.fst.length=rem left (bulkLks s)))):
  PureFn Tryz.prog 34 [.agg s.ts,.int .i64 left] (.int .i64 (rem left (bulkLks s))):=
 vcR (code:=b_szLks) (gC szLckS_ok call_szLckS (gC szWtS_ok call_szWtS gN)) Tryz.func34 (by kernel_rfl) (by kernel_rfl) noAnn h (by kernel_rfl)
theorem szLks_ok:ConOk Tryz.prog 34 k_szLks:=by
 rintro⟨s,left⟩ ⟨hl,h0,h1⟩;simp only at hl h0 h1;have e:bulkLks s=s.held.length+s.waits.length:=rfl;refine v_szLks s left ⟨(s.held,left),⟨⟨⟨rfl,rowsR _ _⟩,rfl,trivial⟩,hl,h0⟩,fun h=>(rem_neg (of_decide_eq_true h) (by(try dsimp only);omega)).symm,fun h=> ?_⟩
 obtain⟨q1,l1⟩:=rem_add (b:=s.waits.length) (of_decide_eq_false h) hl rfl;refine⟨(s.waits,rem left (s.held.length)),⟨⟨⟨rfl,rowsR _ _⟩,rfl,trivial⟩,l1,h1⟩,fun g=> ?_,fun g=> ?_⟩
 ·simp only at g;rw[q1] at g;exact(rem_neg (of_decide_eq_true g) (by(try dsimp only);omega)).symm
 exact q1
def k_eqLks:Con:=.rel ⟨Lks,fun s=>[.agg s.ts,.agg s.ts],fun _=>.bool true,SmLks⟩
noncomputable def b_eqLks:Code:=Tryz.f46.body.getD .skip
theorem call_eqLks:Callable Tryz.prog 46:=⟨_,Tryz.func46,by kernel_rfl,by kernel_rfl⟩
theorem v_eqLks(s:Lks)(h:
  ∃(x:r_eqLckS.ι),(((s.held.length=List.length x/\RowsEq s.held.length (lckRow s.held) (lckRow x))/\(s.held.length=List.length x/\RowsEq s.held.length (lckRow s.held) (lckRow x))/\True)/\List.length x<=1048576)/\
  (false=true->false=true)/\(false=false->∃(x:r_eqWtS.ι),(((s.waits.length=List.length x/\RowsEq s.waits.length (wtRow s.waits) (wtRow x))/\(s.waits.length=List.length x/\RowsEq s.waits.length (wtRow s.waits)
  (wtRow x))/\True)/\List.length x<=1048576)/\(false=true->false=true)/\(false=false->true=true))):
  PureFn Tryz.prog 46 [.agg s.ts,.agg s.ts] (.bool true):=
 vcR (code:=b_eqLks) (gC eqLckS_ok call_eqLckS (gC eqWtS_ok call_eqWtS gN)) Tryz.func46 (by kernel_rfl) (by kernel_rfl) noAnn h (by kernel_rfl)
theorem eqLks_ok:ConOk Tryz.prog 46 k_eqLks:=by
 rintro(s:Lks) ⟨h0,h1⟩;exact v_eqLks s ⟨s.held,⟨⟨⟨rfl,rowsR _ _⟩,⟨rfl,rowsR _ _⟩,trivial⟩,h0⟩,fun h=>h,fun _=>⟨s.waits,⟨⟨⟨rfl,rowsR _ _⟩,⟨rfl,rowsR _ _⟩,trivial⟩,h1⟩,fun h=>h,fun _=>rfl⟩⟩
def bulkEng(s:Eng):Nat:=bulkS s.s+s.txs.length+bulkLks s.lk
def LmEng(s:Eng):Prop:=LmS s.s/\Lim s.txs.length/\LmLks s.lk
def SmEng(s:Eng):Prop:=SmS s.s/\s.txs.length<=1048576/\SmLks s.lk
def k_szEng:Con:=.rel ⟨Eng×Int,fun x=>[.agg x.1.ts,.int .i64 x.2],fun x=>.int .i64 (rem x.2 (bulkEng x.1)),fun x=>Left x.2/\LmEng x.1⟩
noncomputable def b_szEng:Code:=Tryz.f10.body.getD .skip
theorem call_szEng:Callable Tryz.prog 10:=⟨_,Tryz.func10,by kernel_rfl,by kernel_rfl⟩
theorem v_szEng(s:Eng)(left:Int)(h:
  ∃(x:r_szSto.ι),(((EqS s.s x.fst)/\left=x.snd/\True)/\Left x.snd/\LmS x.fst)/\(decide (rem x.snd (bulkS x.fst)<(0:Int))=true->(-1:Int)=rem left (bulkEng s))/\(decide (rem x.snd (bulkS x.fst)<(0:Int))=
  false->∃(x_1:r_szTxnS.ι),(((EqL txnRow s.txs x_1.fst)/\rem x.snd (bulkS x.fst)=x_1.snd/\True)/\Left x_1.snd/\Lim x_1.fst.length)/\(decide (rem x_1.snd x_1.fst.length<(0:Int))=true->(-1:Int)=rem left (bulkEng
  s))/\(decide (rem x_1.snd x_1.fst.length<(0:Int))=false->∃(x:(Lks×Int)),((((EqL lckRow s.lk.held x.fst.held)/\(EqL wtRow s.lk.waits x.fst.waits)/\True)/\rem x_1.snd x_1.fst.length=x.snd/\True)/\Left x.snd/\
  LmLks x.fst)/\(decide (rem x.snd (bulkLks x.fst)<(0:Int))=true->(-1:Int)=rem left (bulkEng s))/\(decide (rem x.snd (bulkLks x.fst)<(0:Int))=false->rem x.snd (bulkLks x.fst)=rem left (bulkEng s))))):
  PureFn Tryz.prog 10 [.agg s.ts,.int .i64 left] (.int .i64 (rem left (bulkEng s))):=
 vcR (code:=b_szEng) (gC szSto_ok call_szSto (gC szTxnS_ok call_szTxnS (gC szLks_ok call_szLks gN))) Tryz.func10 (by kernel_rfl) (by kernel_rfl) noAnn h (by kernel_rfl)
theorem szEng_ok:ConOk Tryz.prog 10 k_szEng:=by
 rintro⟨s,left⟩ ⟨hl,h0,h1,h2⟩;simp only at hl h0 h1 h2;have e:bulkEng s=bulkS s.s+s.txs.length+bulkLks s.lk:=rfl;refine v_szEng s left ⟨(s.s,left),⟨⟨(eqS _),rfl,trivial⟩,hl,h0⟩,fun h=>(rem_neg (of_decide_eq_true h) (by(try dsimp only);omega)).symm,fun h=> ?_⟩
 obtain⟨q1,l1⟩:=rem_add (b:=s.txs.length) (of_decide_eq_false h) hl rfl;refine⟨(s.txs,rem left (bulkS s.s)),⟨⟨⟨rfl,rowsR _ _⟩,rfl,trivial⟩,l1,h1⟩,fun g=> ?_,fun g=> ?_⟩
 ·simp only at g;rw[q1] at g;exact(rem_neg (of_decide_eq_true g) (by(try dsimp only);omega)).symm
 simp only at g ⊢;rw[q1] at g ⊢;obtain⟨q2,l2⟩:=rem_add (b:=bulkLks s.lk) (of_decide_eq_false g) hl rfl;refine⟨(s.lk,rem left (bulkS s.s+s.txs.length)),⟨⟨⟨⟨rfl,rowsR _ _⟩,⟨rfl,rowsR _ _⟩,trivial⟩,rfl,trivial⟩,l2,h2⟩,fun g=> ?_,fun g=> ?_⟩
 ·simp only at g;rw[q2] at g;exact(rem_neg (of_decide_eq_true g) (by(try dsimp only);omega)).symm
 exact q2
def k_eqEng:Con:=.rel ⟨Eng,fun s=>[.agg s.ts,.agg s.ts],fun _=>.bool true,SmEng⟩
noncomputable def b_eqEng:Code:=Tryz.f15.body.getD .skip
theorem call_eqEng:Callable Tryz.prog 15:=⟨_,Tryz.func15,by kernel_rfl,by kernel_rfl⟩
theorem v_eqEng(s:Eng)(h:
  ∃(x:r_eqSto.ι),(((EqS s.s x)/\(EqS s.s x)/\True)/\SmS x)/\(false=true->false=true)/\(false=false->((!s.up==s.up)=true->false=true)/\((!s.up==s.up)=false->∃(x:r_eqTxnS.ι),(((s.txs.length=
  List.length x/\RowsEq s.txs.length (txnRow s.txs) (txnRow x))/\(s.txs.length=List.length x/\RowsEq s.txs.length (txnRow s.txs) (txnRow x))/\True)/\List.length x<=1048576)/\(false=true->false=true)/\(false=false->
  ∃(x:Lks),((((EqL lckRow s.lk.held x.held)/\(EqL wtRow s.lk.waits x.waits)/\True)/\((EqL lckRow s.lk.held x.held)/\(EqL wtRow s.lk.waits x.waits)/\True)/\True)/\SmLks x)/\(false=true->false=true)/\(false=false->
  ((s.next !=s.next)=true->false=true)/\((s.next !=s.next)=false->true=true)))))):
  PureFn Tryz.prog 15 [.agg s.ts,.agg s.ts] (.bool true):=
 vcR (code:=b_eqEng) (gC eqSto_ok call_eqSto (gC eqTxnS_ok call_eqTxnS (gC eqLks_ok call_eqLks gN))) Tryz.func15 (by kernel_rfl) (by kernel_rfl) noAnn h (by kernel_rfl)
theorem eqEng_ok:ConOk Tryz.prog 15 k_eqEng:=by
 rintro(s:Eng) ⟨h0,h1,h2⟩;exact v_eqEng s ⟨s.s,⟨⟨(eqS _),(eqS _),trivial⟩,h0⟩,fun h=>h,fun _=>⟨fun h=>by simp at h,fun _=>⟨s.txs,⟨⟨⟨rfl,rowsR _ _⟩,⟨rfl,rowsR _ _⟩,trivial⟩,h1⟩,fun h=>h,fun _=>⟨s.lk,⟨⟨⟨⟨rfl,rowsR _ _⟩,⟨rfl,rowsR _ _⟩,trivial⟩,⟨⟨rfl,rowsR _ _⟩,⟨rfl,rowsR _ _⟩,trivial⟩,trivial⟩,h2⟩,fun h=>h,fun _=>⟨fun h=>by simp at h,fun _=>rfl⟩⟩⟩⟩⟩
end Go.Proofs.YtokaojbaacnngaaGreat

