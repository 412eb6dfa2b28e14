/- A part of the proof. -/
import Derived.Test.YtokaojbaacnngaaGreatE8
namespace Go.Proofs.YtokaojbaacnngaaGreat
set_option maxRecDepth 100000
open Go.SS

def upT(row:Nat->List T)(z:List T)(i j:Nat):List T:=if j<i then row j else z
theorem upT_rows{row:Nat->List T}{z cs:List T}{m:Nat}(hr:∀j,(row j).length=m)(hz:z.length=m)(i:Nat)(hc:cs=row i)(j:Nat):setRow (upT row z i) (0+(i:Int).toNat) 0 cs j=upT row z (i+1) j:=by
 have hl:(upT row z i j).length=m:=by unfold upT;split<;>simp only[hr,hz]
 rw[setRow_full (by rw[hl,hc,hr]),show 0+(i:Int).toNat=i by omega]
 by_cases hji:j=i
 ·subst hji;rw[show Nat.beq j j=true from by simp]
  show cs=upT row z (j+1) j;unfold upT;rw[if_pos (Nat.lt_succ_self j)];exact hc
 ·rw[show Nat.beq j i=false from Bool.eq_false_iff.2 fun h=>hji (Nat.eq_of_beq_eq_true h)]
  show upT row z i j=upT row z (i+1) j;unfold upT;by_cases h2:j<i
  ·rw[if_pos h2,if_pos (by omega)]
  ·rw[if_neg h2,if_neg (by omega)]
theorem upT_end{row:Nat->List T}{z:List T}{n:Nat}:RowsEq n (upT row z n) row:=fun i hi=>by unfold upT;rw[if_pos hi]
theorem upT_zero{row:Nat->List T}{z:List T}{n:Nat}:RowsEq n (fun _=>z) (upT row z 0):=fun i hi=>by unfold upT;rw[if_neg (by omega)]
def Lim(n:Nat):Prop:=n<=9223372036854775807

def lenS(s:List UInt8):Nat:=s.length
def r_szStrS:Rl:=⟨List (List UInt8)×Int,fun x=>[strS x.1,.int .i64 x.2],fun x=>.int .i64 (rem x.2 (bulkL lenS x.1)),fun x=>Left x.2/\Lim x.1.length/\∀i,i<x.1.length->Lim (x.1.getD i []).length⟩
def k_szStrS:Con:=.rel r_szStrS
def A_szStrS(L:List (List UInt8))(left:Int):Nat->Ann
 |0=>.one {i:Nat//i<=L.length/\(bulkTo lenS L L.length i:Int)<=left} (fun x=>⟨[(0,strS L),(1,.int .i64 (left-bulkTo lenS L L.length x.1)),(5,.int .i64 x.1)],[]⟩) (fun x=>L.length-x.1) [] [] (fun _=>noAnn)
 |_=>.none
noncomputable def b_szStrS:Code:=Tryz.f132.body.getD .skip
theorem call_szStrS:Callable Tryz.prog 132:=⟨_,Tryz.func132,by kernel_rfl,by kernel_rfl⟩
theorem v_szStrS(L:List (List UInt8))(left:Int)(h:
  Rng .i64 (left- (L.length:Int))/\(decide (left- (L.length:Int)<(0:Int))=true->(-1:Int)=rem left (bulkL lenS L))/\(decide (left- (L.length:Int)<(0:Int))=false->(∃(x:{i:Nat//i<=L.length/\(↑(bulkTo
  lenS L L.length i):Int)<=left}),((EqL strRow L L)/\left- (L.length:Int)=left- (↑(bulkTo lenS L L.length x.val):Int)/\(0:Int)=(x.val:Int)/\True)/\True)/\∀(x:{i:Nat//i<=L.length/\(↑(bulkTo lenS L
  L.length i):Int)<=left}),(decide ((x.val:Int)<(L.length:Int))=true->InB (x.val:Int) L.length/\Rng .i64 (left- (↑(bulkTo lenS L L.length x.val):Int)- (↑(L.getD (x.val:Int).toNat []).length:Int))/\(decide (left-
  (↑(bulkTo lenS L L.length x.val):Int)- (↑(L.getD (x.val:Int).toNat []).length:Int)<(0:Int))=true->(-1:Int)=rem left (bulkL lenS L))/\(decide (left- (↑(bulkTo lenS L L.length x.val):Int)- (↑(L.getD
  (x.val:Int).toNat []).length:Int)<(0:Int))=false->Rng .i64 ((x.val:Int)+(1:Int))/\∃(y:{i:Nat//i<=L.length/\(↑(bulkTo lenS L L.length i):Int)<=left}),(((EqL strRow L L)/\left- (↑(bulkTo lenS L
  L.length x.val):Int)- (↑(L.getD (x.val:Int).toNat []).length:Int)=left- (↑(bulkTo lenS L L.length y.val):Int)/\(x.val:Int)+(1:Int)=(y.val:Int)/\True)/\True)/\Lt (L.length-y.val) (L.length-x.val)))/\(decide
  ((x.val:Int)<(L.length:Int))=false->left- (↑(bulkTo lenS L L.length x.val):Int)=rem left (bulkL lenS L)))):
  PureFn Tryz.prog 132 [strS L,.int .i64 left] (.int .i64 (rem left (bulkL lenS L))):=
 vcR (code:=b_szStrS) gN Tryz.func132 (by kernel_rfl) (by kernel_rfl) (A_szStrS L left) h (by kernel_rfl)
theorem szStrS_ok:ConOk Tryz.prog 132 k_szStrS:=by
 rintro⟨L,left⟩ ⟨⟨h0,h1⟩,hn,hb⟩;have hn:L.length<=9223372036854775807:=hn;simp only at h0 h1 hb;have hm:∀i,i<=L.length->bulkTo lenS L L.length i<=bulkL lenS L:=fun i hi=>bulkTo_mono _ _ _ hi
 have hz:bulkTo lenS L L.length 0=L.length:=rfl;refine v_szStrS L left ?_
 simp only[rng_i64,decide_eq_true_eq,decide_eq_false_iff_not];refine⟨by omega,fun h=>(rem_lt (by have:=hm 0 (Nat.zero_le _);omega)).symm,fun h=>⟨⟨⟨0,Nat.zero_le _,by omega⟩,⟨⟨(by trivial),rowsR _ _⟩,by simp only[hz],rfl,trivial⟩,trivial⟩,fun x=>⟨fun hc=> ?_,fun hc=> ?_⟩⟩⟩
 ·have hlt:x.val<L.length:=by omega
  have hx:=x.2;have hs:=bulkTo_succ lenS L L.length [] hlt;have hle:=hm (x.val+1) hlt;have hbr:(L.getD x.val []).length<=9223372036854775807:=hb _ hlt;unfold lenS at hs hx hle ⊢;rw[Int.toNat_natCast];refine⟨inB_nat hlt,by omega,fun hr=>(rem_lt (by unfold lenS at*;omega)).symm,fun hr=>⟨by omega,⟨x.val+1,hlt,by unfold lenS;omega⟩,⟨⟨⟨(by trivial),rowsR _ _⟩,by unfold lenS;simp only;omega,by simp only;omega,trivial⟩,trivial⟩,Cnt.ext_lt hlt⟩⟩
 ·have hx:=x.2;have he:x.val=L.length:=by omega
  rw[he] at hx ⊢;exact(rem_ge hx.2).symm
def A_toStrS(L:List (List UInt8)):Nat->Ann
 |0=>.one {i:Nat//i<=L.length} (fun x=>⟨[(0,strS L),(3,.osl 0 0 L.length),(4,.int .i64 x.1)],[some (.arr true 0 1 L.length (upT (strRow L) [.str []] x.1))]⟩) (fun x=>L.length-x.1) [.arr 0] [.arr 0] (fun _=>noAnn)
 |_=>.none
def r_eqStrS:Rl:=⟨List (List UInt8),fun L=>[strS L,strS L],fun _=>.bool true,fun L=>L.length<=1048576⟩
def k_eqStrS:Con:=.rel r_eqStrS
def A_eqStrS(L:List (List UInt8)):Nat->Ann
 |0=>.one {i:Nat//i<=L.length} (fun x=>⟨[(0,strS L),(1,strS L),(5,.int .i64 x.1)],[]⟩) (fun x=>L.length-x.1) [] [] (fun _=>noAnn)
 |_=>.none
noncomputable def b_eqStrS:Code:=Tryz.f167.body.getD .skip
theorem call_eqStrS:Callable Tryz.prog 167:=⟨_,Tryz.func167,by kernel_rfl,by kernel_rfl⟩
theorem v_eqStrS(L:List (List UInt8))(h:
  (((L.length:Int) !=(L.length:Int))=true->false=true)/\(((L.length:Int) !=(L.length:Int))=false->(∃(x:{i:Nat//i<=L.length}),((EqL strRow L L)/\(EqL strRow L L)/\(0:Int)=(x.val:Int)/\True)/\True)/\∀(x
  :{i:Nat//i<=L.length}),(decide ((x.val:Int)<(L.length:Int))=true->InB (x.val:Int) L.length/\InB (x.val:Int) L.length/\((!L.getD (x.val:Int).toNat []==L.getD (x.val:Int).toNat [])=true->false=true)/\
  ((!L.getD (x.val:Int).toNat []==L.getD (x.val:Int).toNat [])=false->Rng .i64 ((x.val:Int)+(1:Int))/\∃(y:{i:Nat//i<=L.length}),(((EqL strRow L L)/\(EqL strRow L L)/\(x.val:Int)+(1:Int)=(y.val:Int)/\
  True)/\True)/\Lt (L.length-y.val) (L.length-x.val)))/\(decide ((x.val:Int)<(L.length:Int))=false->true=true))):
  PureFn Tryz.prog 167 [strS L,strS L] (.bool true):=
 vcR (code:=b_eqStrS) gN Tryz.func167 (by kernel_rfl) (by kernel_rfl) (A_eqStrS L) h (by kernel_rfl)
theorem eqStrS_ok:ConOk Tryz.prog 167 k_eqStrS:=by
 intro(L:List (List UInt8)) (hL:L.length<=1048576);refine v_eqStrS L ⟨fun h=>by simp at h,fun _=>⟨⟨⟨0,Nat.zero_le _⟩,⟨⟨(by trivial),rowsR _ _⟩,⟨(by trivial),rowsR _ _⟩,rfl,trivial⟩,trivial⟩,fun x=>⟨fun hc=> ?_,fun _=>rfl⟩⟩⟩
 have hlt:=lt_of_dec hc;exact⟨inB_nat hlt,inB_nat hlt,fun h=>by simp at h,fun _=>⟨add_rng hlt (by omega),⟨x.val+1,hlt⟩,⟨⟨⟨(by trivial),rowsR _ _⟩,⟨(by trivial),rowsR _ _⟩,by simp only;omega,trivial⟩,trivial⟩,Cnt.ext_lt hlt⟩⟩
def r_szIntS:Rl:=⟨List Int×Int,fun x=>[intS x.1,.int .i64 x.2],fun x=>.int .i64 (rem x.2 x.1.length),fun x=>Left x.2/\Lim x.1.length⟩
def k_szIntS:Con:=.rel r_szIntS
noncomputable def b_szIntS:Code:=Tryz.f134.body.getD .skip
theorem call_szIntS:Callable Tryz.prog 134:=⟨_,Tryz.func134,by kernel_rfl,by kernel_rfl⟩
theorem v_szIntS(L:List Int)(left:Int)(h:
  Rng .i64 (left- (L.length:Int))/\(decide (left- (L.length:Int)<(0:Int))=true->(-1:Int)=rem left L.length)/\(decide (left- (L.length:Int)<(0:Int))=false->left- (L.length:Int)=rem left L.length)):
  PureFn Tryz.prog 134 [intS L,.int .i64 left] (.int .i64 (rem left L.length)):=
 vcR (code:=b_szIntS) gN Tryz.func134 (by kernel_rfl) (by kernel_rfl) noAnn h (by kernel_rfl)
theorem szIntS_ok:ConOk Tryz.prog 134 k_szIntS:=by
 rintro⟨L,left⟩ ⟨⟨h0,h1⟩,hn⟩;have hn:L.length<=9223372036854775807:=hn;simp only at h0 h1;refine v_szIntS L left ?_
 simp only[rng_i64,decide_eq_true_eq,decide_eq_false_iff_not];exact⟨by omega,fun h=>(rem_lt (by omega)).symm,fun h=>(rem_ge (by omega)).symm⟩
def A_toIntS(L:List Int):Nat->Ann
 |0=>.one {i:Nat//i<=L.length} (fun x=>⟨[(0,intS L),(3,.osl 0 0 L.length),(4,.int .i64 x.1)],[some (.arr true 0 1 L.length (upT (intRow L) [.int .i64 0] x.1))]⟩) (fun x=>L.length-x.1) [.arr 0] [.arr 0] (fun _=>noAnn)
 |_=>.none
def r_eqIntS:Rl:=⟨List Int,fun L=>[intS L,intS L],fun _=>.bool true,fun L=>L.length<=1048576⟩
def k_eqIntS:Con:=.rel r_eqIntS
def A_eqIntS(L:List Int):Nat->Ann
 |0=>.one {i:Nat//i<=L.length} (fun x=>⟨[(0,intS L),(1,intS L),(5,.int .i64 x.1)],[]⟩) (fun x=>L.length-x.1) [] [] (fun _=>noAnn)
 |_=>.none
noncomputable def b_eqIntS:Code:=Tryz.f16.body.getD .skip
theorem call_eqIntS:Callable Tryz.prog 16:=⟨_,Tryz.func16,by kernel_rfl,by kernel_rfl⟩
theorem v_eqIntS(L:List Int)(h:
  (((L.length:Int) !=(L.length:Int))=true->false=true)/\(((L.length:Int) !=(L.length:Int))=false->(∃(x:{i:Nat//i<=L.length}),((EqL intRow L L)/\(EqL intRow L L)/\(0:Int)=(x.val:Int)/\True)/\True)/\∀(x
  :{i:Nat//i<=L.length}),(decide ((x.val:Int)<(L.length:Int))=true->InB (x.val:Int) L.length/\InB (x.val:Int) L.length/\((L.getD (x.val:Int).toNat (0:Int) !=L.getD (x.val:Int).toNat (0:Int))=true->false=
  true)/\((L.getD (x.val:Int).toNat (0:Int) !=L.getD (x.val:Int).toNat (0:Int))=false->Rng .i64 ((x.val:Int)+(1:Int))/\∃(y:{i:Nat//i<=L.length}),(((EqL intRow L L)/\(EqL intRow L L)/\(x.val:Int)+(1:
  Int)=(y.val:Int)/\True)/\True)/\Lt (L.length-y.val) (L.length-x.val)))/\(decide ((x.val:Int)<(L.length:Int))=false->true=true))):
  PureFn Tryz.prog 16 [intS L,intS L] (.bool true):=
 vcR (code:=b_eqIntS) gN Tryz.func16 (by kernel_rfl) (by kernel_rfl) (A_eqIntS L) h (by kernel_rfl)
theorem eqIntS_ok:ConOk Tryz.prog 16 k_eqIntS:=by
 intro(L:List Int) (hL:L.length<=1048576);refine v_eqIntS L ⟨fun h=>by simp at h,fun _=>⟨⟨⟨0,Nat.zero_le _⟩,⟨⟨(by trivial),rowsR _ _⟩,⟨(by trivial),rowsR _ _⟩,rfl,trivial⟩,trivial⟩,fun x=>⟨fun hc=> ?_,fun _=>rfl⟩⟩⟩
 have hlt:=lt_of_dec hc;exact⟨inB_nat hlt,inB_nat hlt,fun h=>by simp at h,fun _=>⟨add_rng hlt (by omega),⟨x.val+1,hlt⟩,⟨⟨⟨(by trivial),rowsR _ _⟩,⟨(by trivial),rowsR _ _⟩,by simp only;omega,trivial⟩,trivial⟩,Cnt.ext_lt hlt⟩⟩
def bulkP(p:Pend):Nat:=p.d.length
def LmP(p:Pend):Prop:=Lim p.d.length
def SmP(_:Pend):Prop:=True
def r_szPend:Rl:=⟨Pend×Int,fun x=>[.agg x.1.ts,.int .i64 x.2],fun x=>.int .i64 (rem x.2 (bulkP x.1)),fun x=>Left x.2/\LmP x.1⟩
def k_szPend:Con:=.rel r_szPend
def r_toPend:Rl:=⟨Pend,fun r=>[.agg r.ts],fun r=>.agg r.ts,SmP⟩
def k_toPend:Con:=.rel r_toPend
def r_eqPend:Rl:=⟨Pend,fun r=>[.agg r.ts,.agg r.ts],fun _=>.bool true,SmP⟩
def k_eqPend:Con:=.rel r_eqPend
noncomputable def b_szPend:Code:=Tryz.f198.body.getD .skip
theorem call_szPend:Callable Tryz.prog 198:=⟨_,Tryz.func198,by kernel_rfl,by kernel_rfl⟩
theorem v_szPend(r:Pend)(left:Int)(h:
  Rng .i64 (left- (r.d.length:Int))/\(decide (left- (r.d.length:Int)<(0:Int))=true->(-1:Int)=rem left (bulkP r))/\(decide (left- (r.d.length:Int)<(0:Int))=false->left- (r.d.length:Int)=rem left (bulkP r))):
  PureFn Tryz.prog 198 [.agg r.ts,.int .i64 left] (.int .i64 (rem left (bulkP r))):=
 vcR (code:=b_szPend) gN Tryz.func198 (by kernel_rfl) (by kernel_rfl) noAnn h (by kernel_rfl)
theorem szPend_ok:ConOk Tryz.prog 198 k_szPend:=by
 rintro⟨r,left⟩ ⟨⟨h0,h1⟩,hb⟩;have hb:r.d.length<=9223372036854775807:=hb;simp only at h0 h1;refine v_szPend r left ?_
 simp only[rng_i64,decide_eq_true_eq,decide_eq_false_iff_not];have e:((bulkP r:Nat):Int)=r.d.length:=rfl;exact⟨by omega,fun h=>(rem_lt (by omega)).symm,fun h=>by rw[rem_ge (by omega)];omega⟩
noncomputable def b_toPend:Code:=Tryz.f204.body.getD .skip
theorem call_toPend:Callable Tryz.prog 204:=⟨_,Tryz.func204,by kernel_rfl,by kernel_rfl⟩
theorem v_toPend(r:Pend)(h:
  r.at_=r.at_/\r.d=r.d/\True):
  PureFn Tryz.prog 204 [.agg r.ts] (.agg r.ts):=
 vcR (code:=b_toPend) gN Tryz.func204 (by kernel_rfl) (by kernel_rfl) noAnn h (by kernel_rfl)
theorem toPend_ok:ConOk Tryz.prog 204 k_toPend:=fun r _=>v_toPend r ⟨rfl,rfl,trivial⟩
noncomputable def b_eqPend:Code:=Tryz.f227.body.getD .skip
theorem call_eqPend:Callable Tryz.prog 227:=⟨_,Tryz.func227,by kernel_rfl,by kernel_rfl⟩
theorem v_eqPend(r:Pend)(h:
  ((r.at_ !=r.at_)=true->false=true)/\((r.at_ !=r.at_)=false->((!r.d==r.d)=true->false=true)/\((!r.d==r.d)=false->true=true))):
  PureFn Tryz.prog 227 [.agg r.ts,.agg r.ts] (.bool true):=
 vcR (code:=b_eqPend) gN Tryz.func227 (by kernel_rfl) (by kernel_rfl) noAnn h (by kernel_rfl)
theorem eqPend_ok:ConOk Tryz.prog 227 k_eqPend:=by
 intro r _;refine v_eqPend r ?_
 simp
def r_szPendS:Rl:=⟨List Pend×Int,fun x=>[pendS x.1,.int .i64 x.2],fun x=>.int .i64 (rem x.2 (bulkL bulkP x.1)),fun x=>Left x.2/\Lim x.1.length/\∀i,i<x.1.length->LmP (x.1.getD i default)⟩
def k_szPendS:Con:=.rel r_szPendS
def A_szPendS(L:List Pend)(left:Int):Nat->Ann
 |0=>.one {i:Nat//i<=L.length/\(bulkTo bulkP L L.length i:Int)<=left} (fun x=>⟨[(0,pendS L),(1,.int .i64 (left-bulkTo bulkP L L.length x.1)),(5,.int .i64 x.1)],[]⟩) (fun x=>L.length-x.1) [] [] (fun _=>noAnn)
 |_=>.none
noncomputable def b_szPendS:Code:=Tryz.f133.body.getD .skip
theorem call_szPendS:Callable Tryz.prog 133:=⟨_,Tryz.func133,by kernel_rfl,by kernel_rfl⟩
theorem v_szPendS(L:List Pend)(left:Int)(h:
  Rng .i64 (left- (L.length:Int))/\(decide (left- (L.length:Int)<(0:Int))=true->(-1:Int)=rem left (bulkL bulkP L))/\(decide (left- (L.length:Int)<(0:Int))=false->(∃(x:{i:Nat//i<=L.length/\(↑(bulkTo
  bulkP L L.length i):Int)<=left}),((EqL pendRow L L)/\left- (L.length:Int)=left- (↑(bulkTo bulkP L L.length x.val):Int)/\(0:Int)=(x.val:Int)/\True)/\True)/\∀(x:{i:Nat//i<=L.length/\(↑(bulkTo bulkP L
  L.length i):Int)<=left}),(decide ((x.val:Int)<(L.length:Int))=true->InB (x.val:Int) L.length/\∃(x_1:r_szPend.ι),((((L.getD (x.val:Int).toNat default).at_=x_1.fst.at_/\(L.getD (x.val:Int).toNat default).d=
  x_1.fst.d/\True)/\left- (↑(bulkTo bulkP L L.length x.val):Int)=x_1.snd/\True)/\Left x_1.snd/\LmP x_1.fst)/\(decide (rem x_1.snd (bulkP x_1.fst)<(0:Int))=true->(-1:Int)=rem left (bulkL bulkP L))/\(decide (rem
  x_1.snd (bulkP x_1.fst)<(0:Int))=false->Rng .i64 ((x.val:Int)+(1:Int))/\∃(y:{i:Nat//i<=L.length/\(↑(bulkTo bulkP L L.length i):Int)<=left}),(((EqL pendRow L L)/\rem x_1.snd (bulkP x_1.fst)=left-
  (↑(bulkTo bulkP L L.length y.val):Int)/\(x.val:Int)+(1:Int)=(y.val:Int)/\True)/\True)/\Lt (L.length-y.val) (L.length-x.val)))/\(decide ((x.val:Int)<(L.length:Int))=false->left- (↑(bulkTo bulkP L L.length
  x.val):Int)=rem left (bulkL bulkP L)))):
  PureFn Tryz.prog 133 [pendS L,.int .i64 left] (.int .i64 (rem left (bulkL bulkP L))):=
 vcR (code:=b_szPendS) (gC szPend_ok call_szPend gN) Tryz.func133 (by kernel_rfl) (by kernel_rfl) (A_szPendS L left) h (by kernel_rfl)
theorem szPendS_ok:ConOk Tryz.prog 133 k_szPendS:=by
 rintro⟨L,left⟩ ⟨⟨h0,h1⟩,hn,hb⟩;have hn:L.length<=9223372036854775807:=hn;simp only at h0 h1 hb;have hm:∀i,i<=L.length->bulkTo bulkP L L.length i<=bulkL bulkP L:=fun i hi=>bulkTo_mono _ _ _ hi
 have hz:bulkTo bulkP L L.length 0=L.length:=rfl;refine v_szPendS L left ?_
 simp only[rng_i64,decide_eq_true_eq,decide_eq_false_iff_not];refine⟨by omega,fun h=>(rem_lt (by have:=hm 0 (Nat.zero_le _);omega)).symm,fun h=>⟨⟨⟨0,Nat.zero_le _,by omega⟩,⟨⟨(by trivial),rowsR _ _⟩,by simp only[hz],rfl,trivial⟩,trivial⟩,fun x=>⟨fun hc=> ?_,fun hc=> ?_⟩⟩⟩
 ·have hlt:x.val<L.length:=by omega
  have hx:=x.2;have hs:=bulkTo_succ bulkP L L.length default hlt;have hle:=hm (x.val+1) hlt;have hbr:=hb _ hlt;refine⟨inB_nat hlt,(L.getD x.val default,left- (bulkTo bulkP L L.length x.val:Int)),⟨⟨⟨rfl,rfl,trivial⟩,rfl,trivial⟩,⟨by simp only;omega,by simp only;omega⟩,hbr⟩,fun hr=> ?_,fun hr=>⟨by omega,⟨x.val+1,hlt,?_⟩,⟨⟨⟨(by trivial),rowsR _ _⟩,?_,by simp only;omega,trivial⟩,trivial⟩,Cnt.ext_lt hlt⟩⟩
  ·simp only at hr;by_cases hq:(bulkP (L.getD x.val default):Int)<=left- (bulkTo bulkP L L.length x.val:Int)
   ·rw[rem_ge hq] at hr;omega
   ·exact(rem_lt (by omega)).symm
  ·simp only at hr;by_cases hq:(bulkP (L.getD x.val default):Int)<=left- (bulkTo bulkP L L.length x.val:Int)
   ·omega
   ·rw[rem_lt (by omega)] at hr
    omega
  ·simp only at hr ⊢;by_cases hq:(bulkP (L.getD x.val default):Int)<=left- (bulkTo bulkP L L.length x.val:Int)
   ·rw[rem_ge hq];omega
   ·rw[rem_lt (by omega)] at hr
    omega
 ·have hx:=x.2;have he:x.val=L.length:=by omega
  rw[he] at hx ⊢;exact(rem_ge hx.2).symm
def A_toPendS(L:List Pend):Nat->Ann
 |0=>.one {i:Nat//i<=L.length} (fun x=>⟨[(0,pendS L),(3,.osl 0 0 L.length),(4,.int .i64 x.1)],[some (.arr true 0 2 L.length (upT (pendRow L) [.int .i64 0,.str []] x.1))]⟩) (fun x=>L.length-x.1) [.arr 0] [.arr 0] (fun _=>noAnn)
 |_=>.none
def r_eqPendS:Rl:=⟨List Pend,fun L=>[pendS L,pendS L],fun _=>.bool true,fun L=>L.length<=1048576/\∀i,i<L.length->SmP (L.getD i default)⟩
def k_eqPendS:Con:=.rel r_eqPendS
def A_eqPendS(L:List Pend):Nat->Ann
 |0=>.one {i:Nat//i<=L.length} (fun x=>⟨[(0,pendS L),(1,pendS L),(5,.int .i64 x.1)],[]⟩) (fun x=>L.length-x.1) [] [] (fun _=>noAnn)
 |_=>.none
noncomputable def b_eqPendS:Code:=Tryz.f168.body.getD .skip
theorem call_eqPendS:Callable Tryz.prog 168:=⟨_,Tryz.func168,by kernel_rfl,by kernel_rfl⟩
theorem v_eqPendS(L:List Pend)(h:
  (((L.length:Int) !=(L.length:Int))=true->false=true)/\(((L.length:Int) !=(L.length:Int))=false->(∃(x:{i:Nat//i<=L.length}),((EqL pendRow L L)/\(EqL pendRow L L)/\(0:Int)=(x.val:Int)/\True)/\True)/\∀
  (x:{i:Nat//i<=L.length}),(decide ((x.val:Int)<(L.length:Int))=true->InB (x.val:Int) L.length/\InB (x.val:Int) L.length/\∃(x_1:r_eqPend.ι),((((L.getD (x.val:Int).toNat default).at_=x_1.at_/\(L.getD
  (x.val:Int).toNat default).d=x_1.d/\True)/\((L.getD (x.val:Int).toNat default).at_=x_1.at_/\(L.getD (x.val:Int).toNat default).d=x_1.d/\True)/\True)/\SmP x_1)/\(false=true->false=true)/\(false=false->Rng .i64
  ((x.val:Int)+(1:Int))/\∃(y:{i:Nat//i<=L.length}),(((EqL pendRow L L)/\(EqL pendRow L L)/\(x.val:Int)+(1:Int)=(y.val:Int)/\True)/\True)/\Lt (L.length-y.val) (L.length-x.val)))/\(decide ((x.val:Int)<
  (L.length:Int))=false->true=true))):
  PureFn Tryz.prog 168 [pendS L,pendS L] (.bool true):=
 vcR (code:=b_eqPendS) (gC eqPend_ok call_eqPend gN) Tryz.func168 (by kernel_rfl) (by kernel_rfl) (A_eqPendS L) h (by kernel_rfl)
theorem eqPendS_ok:ConOk Tryz.prog 168 k_eqPendS:=by
 rintro(L:List Pend) ⟨hL,hb⟩;refine v_eqPendS L ⟨fun h=>by simp at h,fun _=>⟨⟨⟨0,Nat.zero_le _⟩,⟨⟨(by trivial),rowsR _ _⟩,⟨(by trivial),rowsR _ _⟩,rfl,trivial⟩,trivial⟩,fun x=>⟨fun hc=> ?_,fun _=>rfl⟩⟩⟩
 have hlt:=lt_of_dec hc;exact⟨inB_nat hlt,inB_nat hlt,L.getD x.val default,⟨⟨⟨rfl,rfl,trivial⟩,⟨rfl,rfl,trivial⟩,trivial⟩,hb _ hlt⟩,fun h=>h,fun _=>⟨add_rng hlt (by omega),⟨x.val+1,hlt⟩,⟨⟨⟨(by trivial),rowsR _ _⟩,⟨(by trivial),rowsR _ _⟩,by simp only;omega,trivial⟩,trivial⟩,Cnt.ext_lt hlt⟩⟩
end Go.Proofs.YtokaojbaacnngaaGreat

