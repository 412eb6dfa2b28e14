/- A part of the proof. -/
import Derived.Test.YtokaojbaacnngaaGreatX1X2X3
namespace Go.Proofs.YtokaojbaacnngaaGreat
set_option maxRecDepth 100000
open Go.SS

def k_moStrS:Con:=.rmk ⟨List (List UInt8),fun L=>[strS L],fun _=>[],fun L=>.osl 0 0 L.length,fun L=>[strA L],fun L=>L.length<=1048576⟩
noncomputable def b_moStrS:Code:=Tryz.f145.body.getD .skip
theorem call_moStrS:Callable Tryz.prog 145:=⟨_,Tryz.func145,by kernel_rfl,by kernel_rfl⟩
theorem v_moStrS(L:List (List UInt8))(h:
  (Nn (L.length:Int)/\LeI (L.length:Int) (L.length:Int)/\sizeB 16 (L.length:Int).toNat 140737488355328/\Lt (L.length:Int).toNat 9223372036854775808)/\(∃(x:{i:Nat//i<=L.length}),((EqL strRow L L)/\(0=0/\
  (L.length:Int).toNat=L.length)/\(0:Int)=(x.val:Int)/\True)/\((L.length:Int).toNat=L.length/\RowsEq (L.length:Int).toNat (fun(x:Nat)=>[T.str []]) (upT (strRow L) [T.str []] x.val))/\True)/\∀(x:{i:Nat//i<=
  L.length}),(decide ((x.val:Int)<(L.length:Int))=true->InB (x.val:Int) L.length/\InB (x.val:Int) L.length/\Lt (0+(x.val:Int).toNat) L.length/\Rng .i64 ((x.val:Int)+(1:Int))/\∃(y:{i:Nat//i<=L.length}),
  (((EqL strRow L L)/\(0=0/\L.length=L.length)/\(x.val:Int)+(1:Int)=(y.val:Int)/\True)/\(L.length=L.length/\RowsEq L.length (setRow (upT (strRow L) [T.str []] x.val) (0+(x.val:Int).toNat) 0 [T.str (L.getD
  (x.val:Int).toNat [])]) (upT (strRow L) [T.str []] y.val))/\True)/\Lt (L.length-y.val) (L.length-x.val))/\(decide ((x.val:Int)<(L.length:Int))=false->((0=0/\L.length=L.length)/\True)/\(L.length=L.length/\
  RowsEq L.length (upT (strRow L) [T.str []] x.val) (strRow L))/\True)):
  EffFn Tryz.prog 145 [strS L] [] (.osl 0 0 L.length) [strA L]:=
 vcG (code:=b_moStrS) gN Tryz.func145 (by kernel_rfl) (by kernel_rfl) (A_toStrS L) [[.arr 0]] h (by kernel_rfl)
theorem moStrS_ok:ConOk Tryz.prog 145 k_moStrS:=by
 intro(L:List (List UInt8)) (hL:L.length<=1048576);refine⟨v_moStrS L ⟨⟨by unfold Nn;omega,by unfold LeI;omega,by unfold sizeB;omega,by unfold Lt;omega⟩,⟨⟨0,Nat.zero_le _⟩,⟨⟨(by trivial),rowsR _ _⟩,⟨(by trivial),by omega⟩,rfl,trivial⟩,⟨by omega,upT_zero⟩,trivial⟩,fun x=>⟨fun hc=> ?_,fun hc=> ?_⟩⟩,rfl,plain_str L⟩
 ·have hlt:=lt_of_dec hc;refine⟨inB_nat hlt,inB_nat hlt,by unfold Lt;omega,add_rng hlt (by omega),⟨x.val+1,hlt⟩,⟨⟨⟨(by trivial),rowsR _ _⟩,⟨(by trivial),(by trivial)⟩,by simp only;omega,trivial⟩,⟨(by trivial),fun j hj=> ?_⟩,trivial⟩,Cnt.ext_lt hlt⟩
  exact upT_rows (m:=1) (fun _=>rfl) rfl x.val rfl j
 ·have hx:x.val=L.length:=by have:=x.2;have:=le_of_not hc;omega
  rw[hx];exact⟨⟨⟨rfl,rfl⟩,trivial⟩,⟨rfl,fun i hi=>upT_end (n:=L.length) i (by omega)⟩,trivial⟩
def k_moIntS:Con:=.rmk ⟨List Int,fun L=>[intS L],fun _=>[],fun L=>.osl 0 0 L.length,fun L=>[intA L],fun L=>L.length<=1048576⟩
noncomputable def b_moIntS:Code:=Tryz.f13.body.getD .skip
theorem call_moIntS:Callable Tryz.prog 13:=⟨_,Tryz.func13,by kernel_rfl,by kernel_rfl⟩
theorem v_moIntS(L:List Int)(h:
  (Nn (L.length:Int)/\LeI (L.length:Int) (L.length:Int)/\sizeB 8 (L.length:Int).toNat 140737488355328/\Lt (L.length:Int).toNat 9223372036854775808)/\(∃(x:{i:Nat//i<=L.length}),((EqL intRow L L)/\(0=0/\
  (L.length:Int).toNat=L.length)/\(0:Int)=(x.val:Int)/\True)/\((L.length:Int).toNat=L.length/\RowsEq (L.length:Int).toNat (fun(x:Nat)=>[T.int .i64 (0:Int)]) (upT (intRow L) [T.int .i64 (0:Int)] x.val))/\True)/\
  ∀(x:{i:Nat//i<=L.length}),(decide ((x.val:Int)<(L.length:Int))=true->InB (x.val:Int) L.length/\InB (x.val:Int) L.length/\Lt (0+(x.val:Int).toNat) L.length/\Rng .i64 ((x.val:Int)+(1:Int))/\∃(y:{i:Nat
  //i<=L.length}),(((EqL intRow L L)/\(0=0/\L.length=L.length)/\(x.val:Int)+(1:Int)=(y.val:Int)/\True)/\(L.length=L.length/\RowsEq L.length (setRow (upT (intRow L) [T.int .i64 (0:Int)] x.val) (0+
  (x.val:Int).toNat) 0 [T.int .i64 (L.getD (x.val:Int).toNat (0:Int))]) (upT (intRow L) [T.int .i64 (0:Int)] y.val))/\True)/\Lt (L.length-y.val) (L.length-x.val))/\(decide ((x.val:Int)<(L.length:Int))=false->((0=0
  /\L.length=L.length)/\True)/\(L.length=L.length/\RowsEq L.length (upT (intRow L) [T.int .i64 (0:Int)] x.val) (intRow L))/\True)):
  EffFn Tryz.prog 13 [intS L] [] (.osl 0 0 L.length) [intA L]:=
 vcG (code:=b_moIntS) gN Tryz.func13 (by kernel_rfl) (by kernel_rfl) (A_toIntS L) [[.arr 0]] h (by kernel_rfl)
theorem moIntS_ok:ConOk Tryz.prog 13 k_moIntS:=by
 intro(L:List Int) (hL:L.length<=1048576);refine⟨v_moIntS L ⟨⟨by unfold Nn;omega,by unfold LeI;omega,by unfold sizeB;omega,by unfold Lt;omega⟩,⟨⟨0,Nat.zero_le _⟩,⟨⟨(by trivial),rowsR _ _⟩,⟨(by trivial),by omega⟩,rfl,trivial⟩,⟨by omega,upT_zero⟩,trivial⟩,fun x=>⟨fun hc=> ?_,fun hc=> ?_⟩⟩,rfl,plain_int L⟩
 ·have hlt:=lt_of_dec hc;refine⟨inB_nat hlt,inB_nat hlt,by unfold Lt;omega,add_rng hlt (by omega),⟨x.val+1,hlt⟩,⟨⟨⟨(by trivial),rowsR _ _⟩,⟨(by trivial),(by trivial)⟩,by simp only;omega,trivial⟩,⟨(by trivial),fun j hj=> ?_⟩,trivial⟩,Cnt.ext_lt hlt⟩
  exact upT_rows (m:=1) (fun _=>rfl) rfl x.val rfl j
 ·have hx:x.val=L.length:=by have:=x.2;have:=le_of_not hc;omega
  rw[hx];exact⟨⟨⟨rfl,rfl⟩,trivial⟩,⟨rfl,fun i hi=>upT_end (n:=L.length) i (by omega)⟩,trivial⟩
def k_moPendS:Con:=.rmk ⟨List Pend,fun L=>[pendS L],fun _=>[],fun L=>.osl 0 0 L.length,fun L=>[pendA L],fun L=>L.length<=1048576⟩
noncomputable def b_moPendS:Code:=Tryz.f146.body.getD .skip
theorem call_moPendS:Callable Tryz.prog 146:=⟨_,Tryz.func146,by kernel_rfl,by kernel_rfl⟩
theorem v_moPendS(L:List Pend)(h:
  (Nn (L.length:Int)/\LeI (L.length:Int) (L.length:Int)/\sizeB 24 (L.length:Int).toNat 140737488355328/\Lt (L.length:Int).toNat 9223372036854775808)/\(∃(x:{i:Nat//i<=L.length}),((EqL pendRow L L)/\(0=0/\
  (L.length:Int).toNat=L.length)/\(0:Int)=(x.val:Int)/\True)/\((L.length:Int).toNat=L.length/\RowsEq (L.length:Int).toNat (fun(x:Nat)=>[T.int .i64 (0:Int),T.str []]) (upT (pendRow L) [T.int .i64 (0:Int),T.str
  []] x.val))/\True)/\∀(x:{i:Nat//i<=L.length}),(decide ((x.val:Int)<(L.length:Int))=true->InB (x.val:Int) L.length/\∃(x_1:r_toPend.ι),((((L.getD (x.val:Int).toNat default).at_=x_1.at_/\(L.getD
  (x.val:Int).toNat default).d=x_1.d/\True)/\True)/\SmP x_1)/\InB (x.val:Int) L.length/\Lt (0+(x.val:Int).toNat) L.length/\Rng .i64 ((x.val:Int)+(1:Int))/\∃(y:{i:Nat//i<=L.length}),(((EqL pendRow L L)/\(0
  =0/\L.length=L.length)/\(x.val:Int)+(1:Int)=(y.val:Int)/\True)/\(L.length=L.length/\RowsEq L.length (setRow (upT (pendRow L) [T.int .i64 (0:Int),T.str []] x.val) (0+(x.val:Int).toNat) 0 [T.int .i64 x_1.at_,
  T.str x_1.d]) (upT (pendRow L) [T.int .i64 (0:Int),T.str []] y.val))/\True)/\Lt (L.length-y.val) (L.length-x.val))/\(decide ((x.val:Int)<(L.length:Int))=false->((0=0/\L.length=L.length)/\True)/\(L.length=
  L.length/\RowsEq L.length (upT (pendRow L) [T.int .i64 (0:Int),T.str []] x.val) (pendRow L))/\True)):
  EffFn Tryz.prog 146 [pendS L] [] (.osl 0 0 L.length) [pendA L]:=
 vcG (code:=b_moPendS) (gC toPend_ok call_toPend gN) Tryz.func146 (by kernel_rfl) (by kernel_rfl) (A_toPendS L) [[.arr 0]] h (by kernel_rfl)
theorem moPendS_ok:ConOk Tryz.prog 146 k_moPendS:=by
 intro(L:List Pend) (hL:L.length<=1048576);refine⟨v_moPendS L ⟨⟨by unfold Nn;omega,by unfold LeI;omega,by unfold sizeB;omega,by unfold Lt;omega⟩,⟨⟨0,Nat.zero_le _⟩,⟨⟨(by trivial),rowsR _ _⟩,⟨(by trivial),by omega⟩,rfl,trivial⟩,⟨by omega,upT_zero⟩,trivial⟩,fun x=>⟨fun hc=> ?_,fun hc=> ?_⟩⟩,rfl,plain_pend L⟩
 ·have hlt:=lt_of_dec hc;refine⟨inB_nat hlt,L.getD x.val default,⟨⟨⟨rfl,rfl,trivial⟩,trivial⟩,trivial⟩,inB_nat hlt,by unfold Lt;omega,add_rng hlt (by omega),⟨x.val+1,hlt⟩,⟨⟨⟨(by trivial),rowsR _ _⟩,⟨(by trivial),(by trivial)⟩,by simp only;omega,trivial⟩,⟨(by trivial),fun j hj=> ?_⟩,trivial⟩,Cnt.ext_lt hlt⟩
  exact upT_rows (m:=2) (fun _=>rfl) rfl x.val rfl j
 ·have hx:x.val=L.length:=by have:=x.2;have:=le_of_not hc;omega
  rw[hx];exact⟨⟨⟨rfl,rfl⟩,trivial⟩,⟨rfl,fun i hi=>upT_end (n:=L.length) i (by omega)⟩,trivial⟩
def k_moRecS:Con:=.rmk ⟨List Rec,fun L=>[recS L],fun _=>[],fun L=>.osl 0 0 L.length,fun L=>[recA L],fun L=>L.length<=1048576⟩
noncomputable def b_moRecS:Code:=Tryz.f82.body.getD .skip
theorem call_moRecS:Callable Tryz.prog 82:=⟨_,Tryz.func82,by kernel_rfl,by kernel_rfl⟩
theorem v_moRecS(L:List Rec)(h:
  (Nn (L.length:Int)/\LeI (L.length:Int) (L.length:Int)/\sizeB 96 (L.length:Int).toNat 140737488355328/\Lt (L.length:Int).toNat 9223372036854775808)/\(∃(x:{i:Nat//i<=L.length}),((EqL recRow L L)/\(0=0/\
  (L.length:Int).toNat=L.length)/\(0:Int)=(x.val:Int)/\True)/\((L.length:Int).toNat=L.length/\RowsEq (L.length:Int).toNat (fun(x:Nat)=>[T.int .i64 (0:Int),T.int .i64 (0:Int),T.int .i64 (0:Int),T.int .i64 (0
  :Int),T.int .i64 (0:Int),T.int .i64 (0:Int),T.int .i64 (0:Int),T.int .i64 (0:Int),T.str [],T.str []]) fun(j:Nat)=>[T.int .i64 (upTo default zeroR L x.val j).e,T.int .i64 (upTo default zeroR L x.val j).l,T.int
  .i64 (upTo default zeroR L x.val j).t,T.int .i64 (upTo default zeroR L x.val j).k,T.int .i64 (upTo default zeroR L x.val j).p,T.int .i64 (upTo default zeroR L x.val j).n,T.int .i64 (upTo default zeroR L x.val j).g,T.int .i64
  (upTo default zeroR L x.val j).s,T.str (upTo default zeroR L x.val j).b,T.str (upTo default zeroR L x.val j).a])/\True)/\∀(x:{i:Nat//i<=L.length}),(decide ((x.val:Int)<(L.length:Int))=true->InB (x.val:Int)
  L.length/\∃(x_1:r_toRec.ι),(((EqR (L.getD (x.val:Int).toNat default) x_1)/\True)/\True)/\InB (x.val:Int) L.length/\Lt (0+(x.val:Int).toNat) L.length/\Rng .i64 ((x.val:Int)+(1:Int))/\∃(y:{i:Nat//i<=
  L.length}),(((EqL recRow L L)/\(0=0/\L.length=L.length)/\(x.val:Int)+(1:Int)=(y.val:Int)/\True)/\(L.length=L.length/\RowsEq L.length (setRow (fun(j:Nat)=>[T.int .i64 (upTo default zeroR L x.val j).e,T.int
  .i64 (upTo default zeroR L x.val j).l,T.int .i64 (upTo default zeroR L x.val j).t,T.int .i64 (upTo default zeroR L x.val j).k,T.int .i64 (upTo default zeroR L x.val j).p,T.int .i64 (upTo default zeroR L x.val j).n,T.int .i64
  (upTo default zeroR L x.val j).g,T.int .i64 (upTo default zeroR L x.val j).s,T.str (upTo default zeroR L x.val j).b,T.str (upTo default zeroR L x.val j).a]) (0+(x.val:Int).toNat) 0 [T.int .i64 x_1.e,T.int .i64 x_1.l,T.int
  .i64 x_1.t,T.int .i64 x_1.k,T.int .i64 x_1.p,T.int .i64 x_1.n,T.int .i64 x_1.g,T.int .i64 x_1.s,T.str x_1.b,T.str x_1.a]) fun(j:Nat)=>[T.int .i64 (upTo default zeroR L y.val j).e,T.int .i64 (upTo default zeroR L y.val
  j).l,T.int .i64 (upTo default zeroR L y.val j).t,T.int .i64 (upTo default zeroR L y.val j).k,T.int .i64 (upTo default zeroR L y.val j).p,T.int .i64 (upTo default zeroR L y.val j).n,T.int .i64 (upTo default zeroR L y.val j).g,
  T.int .i64 (upTo default zeroR L y.val j).s,T.str (upTo default zeroR L y.val j).b,T.str (upTo default zeroR L y.val j).a])/\True)/\Lt (L.length-y.val) (L.length-x.val))/\(decide ((x.val:Int)<(L.length:Int))=false->
  ((0=0/\L.length=L.length)/\True)/\(L.length=L.length/\RowsEq L.length (fun(j:Nat)=>[T.int .i64 (upTo default zeroR L x.val j).e,T.int .i64 (upTo default zeroR L x.val j).l,T.int .i64 (upTo default zeroR L x.val
  j).t,T.int .i64 (upTo default zeroR L x.val j).k,T.int .i64 (upTo default zeroR L x.val j).p,T.int .i64 (upTo default zeroR L x.val j).n,T.int .i64 (upTo default zeroR L x.val j).g,T.int .i64 (upTo default zeroR L x.val j).s,
  T.str (upTo default zeroR L x.val j).b,T.str (upTo default zeroR L x.val j).a]) (recRow L))/\True)):
  EffFn Tryz.prog 82 [recS L] [] (.osl 0 0 L.length) [recA L]:=
 vcG (code:=b_moRecS) (gC toRec_ok call_toRec gN) Tryz.func82 (by kernel_rfl) (by kernel_rfl) (A_toRecS L) [[.arr 0]] h (by kernel_rfl)
theorem moRecS_ok:ConOk Tryz.prog 82 k_moRecS:=by
 intro(L:List Rec) (hL:L.length<=1048576);refine⟨v_moRecS L ⟨⟨by unfold Nn;omega,by unfold LeI;omega,by unfold sizeB;omega,by unfold Lt;omega⟩,⟨⟨0,Nat.zero_le _⟩,⟨⟨(by trivial),rowsR _ _⟩,⟨(by trivial),by omega⟩,rfl,trivial⟩,⟨by omega,fun j hj=>rfl⟩,trivial⟩,fun x=>⟨fun hc=> ?_,fun hc=> ?_⟩⟩,rfl,plain_rec L⟩
 ·have hlt:=lt_of_dec hc;refine⟨inB_nat hlt,L.getD x.val default,⟨⟨⟨rfl,rfl,rfl,rfl,rfl,rfl,rfl,rfl,rfl,rfl,trivial⟩,trivial⟩,trivial⟩,inB_nat hlt,by unfold Lt;omega,add_rng hlt (by omega),⟨x.val+1,hlt⟩,⟨⟨⟨(by trivial),rowsR _ _⟩,⟨(by trivial),(by trivial)⟩,by simp only;omega,trivial⟩,⟨(by trivial),fun j hj=> ?_⟩,trivial⟩,Cnt.ext_lt hlt⟩
  exact up_rows Rec.ts 10 (fun _=>rfl) default zeroR L x.val j
 ·have hx:x.val=L.length:=by have:=x.2;have:=le_of_not hc;omega
  refine⟨⟨⟨rfl,rfl⟩,trivial⟩,⟨rfl,fun j hj=> ?_⟩,trivial⟩
  have:upTo default zeroR L x.val j=L.getD j default:=by unfold upTo;rw[if_pos (by omega)]
  exact congrArg Rec.ts this
def k_moDsk:Con:=.rmk ⟨Dsk,fun d=>[.agg d.ts],fun _=>[],fun d=>.agg (d.tm 0),fun d=>d.hp,SmD⟩
noncomputable def b_moDsk:Code:=Tryz.f81.body.getD .skip
theorem call_moDsk:Callable Tryz.prog 81:=⟨_,Tryz.func81,by kernel_rfl,by kernel_rfl⟩
theorem v_moDsk(d:Dsk)(h:
  ∃(x:(List (List UInt8))),(((d.sec.length=List.length x/\RowsEq d.sec.length (strRow d.sec) (strRow x))/\True)/\List.length x<=1048576)/\∃(x_1:(List Pend)),(((d.cache.length=List.length x_1/\RowsEq d.cache.length
  (pendRow d.cache) (pendRow x_1))/\True)/\List.length x_1<=1048576)/\∃(x_2:(List Int)),(((d.keep.length=List.length x_2/\RowsEq d.keep.length (intRow d.keep) (intRow x_2))/\True)/\List.length x_2<=1048576)/\(((0=0
  /\List.length x=d.sec.length)/\(0=0/\List.length x_1=d.cache.length)/\d.armed=d.armed/\(0=0/\List.length x_2=d.keep.length)/\True)/\True)/\(List.length x=d.sec.length/\RowsEq (List.length x) (strRow x)
  (strRow d.sec))/\(List.length x_1=d.cache.length/\RowsEq (List.length x_1) (pendRow x_1) (pendRow d.cache))/\(List.length x_2=d.keep.length/\RowsEq (List.length x_2) (intRow x_2) (intRow d.keep))/\True):
  EffFn Tryz.prog 81 [.agg d.ts] [] (.agg (d.tm 0)) d.hp:=
 vcG (code:=b_moDsk) (gC moStrS_ok call_moStrS (gC moPendS_ok call_moPendS (gC moIntS_ok call_moIntS gN))) Tryz.func81 (by kernel_rfl) (by kernel_rfl) noAnn [[.arr 3,.arr 4,.arr 5]] h (by kernel_rfl)
theorem moDsk_ok:ConOk Tryz.prog 81 k_moDsk:=by
 rintro(d:Dsk) ⟨h1,h2,h3⟩;exact⟨v_moDsk d ⟨d.sec,⟨⟨⟨rfl,rowsR _ _⟩,trivial⟩,h1⟩,d.cache,⟨⟨⟨rfl,rowsR _ _⟩,trivial⟩,h2⟩,d.keep,⟨⟨⟨rfl,rowsR _ _⟩,trivial⟩,h3⟩,⟨⟨⟨rfl,rfl⟩,⟨rfl,rfl⟩,rfl,⟨rfl,rfl⟩,trivial⟩,trivial⟩,⟨rfl,rowsR _ _⟩,⟨rfl,rowsR _ _⟩,⟨rfl,rowsR _ _⟩,trivial⟩,rfl,plain_dsk d⟩
def k_moPg:Con:=.rmk ⟨Pg,fun p=>[.agg p.ts],fun _=>[],fun p=>.agg (p.tm 0),fun p=>[strA p.sl],SmG⟩
noncomputable def b_moPg:Code:=Tryz.f205.body.getD .skip
theorem call_moPg:Callable Tryz.prog 205:=⟨_,Tryz.func205,by kernel_rfl,by kernel_rfl⟩
theorem v_moPg(p:Pg)(h:
  ∃(x:(List (List UInt8))),(((p.sl.length=List.length x/\RowsEq p.sl.length (strRow p.sl) (strRow x))/\True)/\List.length x<=1048576)/\((p.lsn=p.lsn/\(0=0/\List.length x=p.sl.length)/\True)/\True)/\(List.length
  x=p.sl.length/\RowsEq (List.length x) (strRow x) (strRow p.sl))/\True):
  EffFn Tryz.prog 205 [.agg p.ts] [] (.agg (p.tm 0)) [strA p.sl]:=
 vcG (code:=b_moPg) (gC moStrS_ok call_moStrS gN) Tryz.func205 (by kernel_rfl) (by kernel_rfl) noAnn [[.arr 3]] h (by kernel_rfl)
theorem moPg_ok:ConOk Tryz.prog 205 k_moPg:=by
 intro(p:Pg) h1;exact⟨v_moPg p ⟨p.sl,⟨⟨⟨rfl,rowsR _ _⟩,trivial⟩,h1⟩,⟨⟨rfl,⟨rfl,rfl⟩,trivial⟩,trivial⟩,⟨rfl,rowsR _ _⟩,trivial⟩,rfl,plain_str p.sl⟩
def Frm.tm(f:Frm)(b:Nat):List T:=[.int .i64 f.no,.int .i64 f.pg.lsn,.osl b 0 f.pg.sl.length,.bool f.dirty,.int .i64 f.first]
def k_moFrm:Con:=.rmk ⟨Frm,fun f=>[.agg f.ts],fun _=>[],fun f=>.agg (f.tm 0),fun f=>[strA f.pg.sl],SmF⟩
noncomputable def b_moFrm:Code:=Tryz.f148.body.getD .skip
theorem call_moFrm:Callable Tryz.prog 148:=⟨_,Tryz.func148,by kernel_rfl,by kernel_rfl⟩
theorem v_moFrm(f:Frm)(h:
  ∃(x:Pg),(((f.pg.lsn=x.lsn/\(EqL strRow f.pg.sl x.sl)/\True)/\True)/\SmG x)/\((f.no=f.no/\x.lsn=f.pg.lsn/\(0=0/\x.sl.length=f.pg.sl.length)/\f.dirty=f.dirty/\f.first=f.first/\True)/\True)/\(EqL strRow
  x.sl f.pg.sl)/\True):
  EffFn Tryz.prog 148 [.agg f.ts] [] (.agg (f.tm 0)) [strA f.pg.sl]:=
 vcG (code:=b_moFrm) (gC moPg_ok call_moPg gN) Tryz.func148 (by kernel_rfl) (by kernel_rfl) noAnn [[.arr 3]] h (by kernel_rfl)
theorem moFrm_ok:ConOk Tryz.prog 148 k_moFrm:=by
 intro(f:Frm) h1;exact⟨v_moFrm f ⟨f.pg,⟨⟨⟨rfl,⟨rfl,rowsR _ _⟩,trivial⟩,trivial⟩,h1⟩,⟨⟨rfl,rfl,⟨rfl,rfl⟩,rfl,rfl,trivial⟩,trivial⟩,⟨rfl,rowsR _ _⟩,trivial⟩,rfl,plain_str f.pg.sl⟩
def frmZ:List T:=[.int .i64 0,.int .i64 0,.v (.slice none 0 0),.bool false,.int .i64 0]
def k_moFrmS:Con:=.rmk ⟨List Frm,fun L=>[frmS L],fun _=>[],fun L=>.osl 0 0 L.length,fun L=>[famA L.length L L.length],fun L=>L.length<=1048576/\∀i,i<L.length->SmF (L.getD i default)⟩
def A_moFrmS(L:List Frm):Nat->Ann
 |0=>.one {i:Nat//i<=L.length} (fun x=>⟨[(0,frmS L),(3,.osl 0 0 L.length),(4,.int .i64 x.1)],[some (.fam x.1 0 5 L.length (upT (famRow L) frmZ x.1))]⟩) (fun x=>L.length-x.1) [.fam 0,.arr 0] [.arr 0] (fun _=>noAnn)
 |_=>.none
noncomputable def b_moFrmS:Code:=Tryz.f83.body.getD .skip
theorem call_moFrmS:Callable Tryz.prog 83:=⟨_,Tryz.func83,by kernel_rfl,by kernel_rfl⟩
theorem v_moFrmS(L:List Frm)(h:
  (Nn (L.length:Int)/\LeI (L.length:Int) (L.length:Int)/\sizeB 56 (L.length:Int).toNat 140737488355328/\Lt (L.length:Int).toNat 9223372036854775808)/\(∃(x:{i:Nat//i<=L.length}),((EqL frmRow L L)/\(0=0/\
  (L.length:Int).toNat=L.length)/\(0:Int)=(x.val:Int)/\True)/\(0=x.val/\(L.length:Int).toNat=L.length/\FamEq (L.length:Int).toNat (fun(x:Nat)=>[T.int .i64 (0:Int),T.int .i64 (0:Int),T.v (Value.slice none 0
  0),T.bool false,T.int .i64 (0:Int)]) (upT (famRow L) [T.int .i64 (0:Int),T.int .i64 (0:Int),T.v (Value.slice none 0 0),T.bool false,T.int .i64 (0:Int)] x.val))/\True)/\∀(x:{i:Nat//i<=L.length}),(decide
  ((x.val:Int)<(L.length:Int))=true->InB (x.val:Int) L.length/\∃(x_1:Frm),((((L.getD (x.val:Int).toNat default).no=x_1.no/\(L.getD (x.val:Int).toNat default).pg.lsn=x_1.pg.lsn/\(EqL strRow (L.getD (x.val:Int).toNat
  default).pg.sl x_1.pg.sl)/\(L.getD (x.val:Int).toNat default).dirty=x_1.dirty/\(L.getD (x.val:Int).toNat default).first=x_1.first/\True)/\True)/\SmF x_1)/\InB (x.val:Int) L.length/\(0+(x.val:Int).toNat<L.length/\Le
  x_1.pg.sl.length x_1.pg.sl.length)/\Rng .i64 ((x.val:Int)+(1:Int))/\∃(y:{i:Nat//i<=L.length}),(((EqL frmRow L L)/\(0=0/\L.length=L.length)/\(x.val:Int)+(1:Int)=(y.val:Int)/\True)/\(x.val+1=y.val
  /\L.length=L.length/\FamEq L.length (setRow (upT (famRow L) [T.int .i64 (0:Int),T.int .i64 (0:Int),T.v (Value.slice none 0 0),T.bool false,T.int .i64 (0:Int)] x.val) (0+(x.val:Int).toNat) 0 [T.int .i64 x_1.no,T.int
  .i64 x_1.pg.lsn,T.own 0 1 x_1.pg.sl.length (strRow x_1.pg.sl),T.bool x_1.dirty,T.int .i64 x_1.first]) (upT (famRow L) [T.int .i64 (0:Int),T.int .i64 (0:Int),T.v (Value.slice none 0 0),T.bool false,T.int .i64 (0:Int)]
  y.val))/\True)/\Lt (L.length-y.val) (L.length-x.val))/\(decide ((x.val:Int)<(L.length:Int))=false->((0=0/\L.length=L.length)/\True)/\(x.val=L.length/\L.length=L.length/\FamEq L.length (upT (famRow L)
  [T.int .i64 (0:Int),T.int .i64 (0:Int),T.v (Value.slice none 0 0),T.bool false,T.int .i64 (0:Int)] x.val) (famRow L))/\True)):
  EffFn Tryz.prog 83 [frmS L] [] (.osl 0 0 L.length) [famA L.length L L.length]:=
 vcG (code:=b_moFrmS) (gC moFrm_ok call_moFrm gN) Tryz.func83 (by kernel_rfl) (by kernel_rfl) (A_moFrmS L) [[.arr 0]] h (by kernel_rfl)
theorem moFrmS_ok:ConOk Tryz.prog 83 k_moFrmS:=by
 rintro(L:List Frm) ⟨hL,hb⟩;refine⟨v_moFrmS L ⟨⟨by unfold Nn;omega,by unfold LeI;omega,by unfold sizeB;omega,by unfold Lt;omega⟩,⟨⟨0,Nat.zero_le _⟩,⟨⟨rfl,rowsR _ _⟩,⟨rfl,by omega⟩,rfl,trivial⟩,⟨rfl,by omega,fam_eq fun i _=>rfl⟩,trivial⟩,fun x=>⟨fun hc=> ?_,fun hc=> ?_⟩⟩,rfl,plain_fam _ _ _⟩
 ·have hlt:=lt_of_dec hc;exact⟨inB_nat hlt,L.getD x.val default,⟨⟨⟨rfl,rfl,⟨rfl,rowsR _ _⟩,rfl,rfl,trivial⟩,trivial⟩,hb _ hlt⟩,inB_nat hlt,⟨by omega,Nat.le_refl _⟩,add_rng hlt (by omega),⟨x.val+1,hlt⟩,⟨⟨⟨rfl,rowsR _ _⟩,⟨rfl,rfl⟩,by dsimp only;omega,trivial⟩,⟨rfl,rfl,fam_eq fun j _=>upT_rows (m:=5) (fun _=>rfl) rfl x.val rfl j⟩,trivial⟩,Cnt.ext_lt hlt⟩
 ·have hx:x.val=L.length:=by have:=x.2;have:=le_of_not hc;omega
  rw[hx];exact⟨⟨⟨rfl,rfl⟩,trivial⟩,⟨rfl,rfl,fam_eq fun i hi=>upT_end (n:=L.length) i hi⟩,trivial⟩
def k_moSto:Con:=.rmk ⟨Sto,fun s=>[.agg s.ts],fun _=>[],fun s=>.agg (s.tm 0),fun s=>s.hp s.fr.length,SmS⟩
noncomputable def b_moSto:Code:=Tryz.f38.body.getD .skip
theorem call_moSto:Callable Tryz.prog 38:=⟨_,Tryz.func38,by kernel_rfl,by kernel_rfl⟩
theorem v_moSto(s:Sto)(h:
  ∃(x:Dsk),(((EqD s.d x)/\True)/\SmD x)/\∃(x_1:(List Rec)),(((s.log.length=List.length x_1/\RowsEq s.log.length (recRow s.log) (recRow x_1))/\True)/\List.length x_1<=1048576)/\∃(x_2:(List Frm)),(((s.fr.length=
  List.length x_2/\RowsEq s.fr.length (frmRow s.fr) (frmRow x_2))/\True)/\List.length x_2<=1048576/\∀(i:Nat),i<List.length x_2->SmF (List.getD x_2 i default))/\(((0=0/\x.sec.length=s.d.sec.length)/\(0=0/\
  x.cache.length=s.d.cache.length)/\x.armed=s.d.armed/\(0=0/\x.keep.length=s.d.keep.length)/\s.ep=s.ep/\(0=0/\List.length x_1=s.log.length)/\s.sure=s.sure/\(0=0/\List.length x_2=s.fr.length)/\s.hand=
  s.hand/\True)/\True)/\(EqL strRow x.sec s.d.sec)/\(EqL pendRow x.cache s.d.cache)/\(EqL intRow x.keep s.d.keep)/\(List.length x_1=s.log.length/\RowsEq (List.length x_1) (recRow x_1) (recRow s.log))/\(List.length x_2=
  s.fr.length/\List.length x_2=s.fr.length/\FamEq (List.length x_2) (famRow x_2) (famRow s.fr))/\True):
  EffFn Tryz.prog 38 [.agg s.ts] [] (.agg (s.tm 0)) (s.hp s.fr.length):=
 vcG (code:=b_moSto) (gC moDsk_ok call_moDsk (gC moRecS_ok call_moRecS (gC moFrmS_ok call_moFrmS gN))) Tryz.func38 (by kernel_rfl) (by kernel_rfl) noAnn [[.arr 3,.arr 4,.arr 5,.arr 6,.arr 7]] h (by kernel_rfl)
theorem moSto_ok:ConOk Tryz.prog 38 k_moSto:=by
 rintro(s:Sto) ⟨h1,h2,h3,h4⟩;exact⟨v_moSto s ⟨s.d,⟨⟨eqD _,trivial⟩,h1⟩,s.log,⟨⟨⟨rfl,rowsR _ _⟩,trivial⟩,h2⟩,s.fr,⟨⟨⟨rfl,rowsR _ _⟩,trivial⟩,h3,h4⟩,⟨⟨⟨rfl,rfl⟩,⟨rfl,rfl⟩,rfl,⟨rfl,rfl⟩,rfl,⟨rfl,rfl⟩,rfl,⟨rfl,rfl⟩,rfl,trivial⟩,trivial⟩,⟨rfl,rowsR _ _⟩,⟨rfl,rowsR _ _⟩,⟨rfl,rowsR _ _⟩,⟨rfl,rowsR _ _⟩,⟨rfl,rfl,famR _⟩,trivial⟩,rfl,plain_sto s _⟩
end Go.Proofs.YtokaojbaacnngaaGreat

