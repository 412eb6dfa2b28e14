/- A part of the proof. -/
import Derived.Test.YtokaojbaacnngaaGreatX7
import Derived.Test.YtokaojbaacnngaaGreatW6
import Derived.Test.YtokaojbaacnngaaGreatX1X2X3
import Derived.Test.YtokaojbaacnngaaGreatX4
namespace Go.Proofs.YtokaojbaacnngaaGreat
set_option maxRecDepth 100000
open Go.SS

def txnA(L:List Txn):Option Ob:=some (.arr true 0 2 L.length (txnRow L))
theorem plain_Txn(L:List Txn):PlainH [txnA L]:=plain_cons (fun i _ t ht=>by
 simp only[txnRow,Txn.ts,List.mem_cons,List.not_mem_nil,or_false] at ht;rcases ht with rfl|rfl<;>rfl) plain_nil
def k_clTxn:Con:=.rmk ⟨List Txn,fun L=>[txnS L],fun _=>[],fun L=>.osl 0 0 L.length,fun L=>[txnA L],fun L=>L.length<=1048576⟩
noncomputable def b_clTxn:Code:=Tryz.f90.body.getD .skip
theorem call_clTxn:Callable Tryz.prog 90:=⟨_,Tryz.func90,by kernel_rfl,by kernel_rfl⟩
theorem v_clTxn(L:List Txn)(h:
  ∀(b:Bool),(b=true->L.length=0)->(b=true->((0=0/\0=L.length)/\True)/\(0=L.length/\RowsEq 0 (fun(x:Nat)=>[]) (txnRow L))/\True)/\(b=false->(Le 0 0/\AppB 0 L.length 16)/\((0=0/\0+L.length=
  L.length)/\True)/\(0+L.length=L.length/\RowsEq (0+L.length) (appRow (fun(k:Nat)=>List.take 2 (List.drop (k*2) [])) 0 (txnRow L)) (txnRow L))/\True)):
  EffFn Tryz.prog 90 [txnS L] [] (.osl 0 0 L.length) [txnA L]:=
 vcG (code:=b_clTxn) gN Tryz.func90 (by kernel_rfl) (by kernel_rfl) noAnn [[.arr 1],[.nilS 0 [] 0 2,.arr 0]] h (by kernel_rfl)
theorem clTxn_ok:ConOk Tryz.prog 90 k_clTxn:=fun(L:List Txn) (hL:L.length<=1048576)=>
 ⟨v_clTxn L (fun b hb=>⟨fun h=>⟨⟨⟨rfl,(hb h).symm⟩,trivial⟩,⟨(hb h).symm,fun i hi=>absurd hi (Nat.not_lt_zero _)⟩,trivial⟩,fun _=>⟨⟨Nat.le_refl _,by unfold AppB;omega⟩,⟨⟨rfl,by omega⟩,trivial⟩,⟨by omega,app_nil⟩,trivial⟩⟩),rfl,plain_Txn L⟩
def k_moTxnS:Con:=.rmk ⟨List Txn,fun L=>[txnS L],fun _=>[],fun L=>.osl 0 0 L.length,fun L=>[txnA L],fun L=>L.length<=1048576⟩
noncomputable def b_moTxnS:Code:=Tryz.f39.body.getD .skip
theorem call_moTxnS:Callable Tryz.prog 39:=⟨_,Tryz.func39,by kernel_rfl,by kernel_rfl⟩
theorem v_moTxnS(L:List Txn)(h:
  (Nn (L.length:Int)/\LeI (L.length:Int) (L.length:Int)/\sizeB 16 (L.length:Int).toNat 140737488355328/\Lt (L.length:Int).toNat 9223372036854775808)/\(∃(x:{i:Nat//i<=L.length}),((EqL txnRow L L)/\(0=0/\
  (L.length:Int).toNat=L.length)/\(0:Int)=(x.val:Int)/\True)/\((L.length:Int).toNat=L.length/\RowsEq (L.length:Int).toNat (fun(x:Nat)=>[T.int .i64 (0:Int),T.int .i64 (0:Int)]) (upT (txnRow L) [T.int .i64 (0:
  Int),T.int .i64 (0:Int)] x.val))/\True)/\∀(x:{i:Nat//i<=L.length}),(decide ((x.val:Int)<(L.length:Int))=true->InB (x.val:Int) L.length/\∃(x_1:r_toTxn.ι),((((L.getD (x.val:Int).toNat default).id=x_1.id/\
  (L.getD (x.val:Int).toNat default).last=x_1.last/\True)/\True)/\True)/\InB (x.val:Int) L.length/\Lt (0+(x.val:Int).toNat) L.length/\Rng .i64 ((x.val:Int)+(1:Int))/\∃(y:{i:Nat//i<=L.length}),(((EqL txnRow
  L L)/\(0=0/\L.length=L.length)/\(x.val:Int)+(1:Int)=(y.val:Int)/\True)/\(L.length=L.length/\RowsEq L.length (setRow (upT (txnRow L) [T.int .i64 (0:Int),T.int .i64 (0:Int)] x.val) (0+(x.val:Int).toNat) 0
  [T.int .i64 x_1.id,T.int .i64 x_1.last]) (upT (txnRow L) [T.int .i64 (0:Int),T.int .i64 (0:Int)] y.val))/\True)/\Lt (L.length-y.val) (L.length-x.val))/\(decide ((x.val:Int)<(L.length:Int))=false->((0=0/\
  L.length=L.length)/\True)/\(L.length=L.length/\RowsEq L.length (upT (txnRow L) [T.int .i64 (0:Int),T.int .i64 (0:Int)] x.val) (txnRow L))/\True)):
  EffFn Tryz.prog 39 [txnS L] [] (.osl 0 0 L.length) [txnA L]:=
 vcG (code:=b_moTxnS) (gC toTxn_ok call_toTxn gN) Tryz.func39 (by kernel_rfl) (by kernel_rfl) (A_toTxnS L) [[.arr 0]] h (by kernel_rfl)
theorem moTxnS_ok:ConOk Tryz.prog 39 k_moTxnS:=by
 intro(L:List Txn) (hL:L.length<=1048576);refine⟨v_moTxnS L ⟨⟨by unfold Nn;omega,by unfold LeI;omega,by unfold sizeB;omega,by unfold Lt;omega⟩,⟨⟨0,Nat.zero_le _⟩,⟨⟨(by trivial),rowsR _ _⟩,⟨(by trivial),by omega⟩,rfl,trivial⟩,⟨by omega,upT_zero⟩,trivial⟩,fun x=>⟨fun hc=> ?_,fun hc=> ?_⟩⟩,rfl,plain_Txn L⟩
 ·have hlt:=lt_of_dec hc;refine⟨inB_nat hlt,L.getD x.val default,⟨⟨⟨rfl,rfl,trivial⟩,trivial⟩,trivial⟩,inB_nat hlt,by unfold Lt;omega,add_rng hlt (by omega),⟨x.val+1,hlt⟩,⟨⟨⟨(by trivial),rowsR _ _⟩,⟨(by trivial),(by trivial)⟩,by simp only;omega,trivial⟩,⟨(by trivial),fun j hj=> ?_⟩,trivial⟩,Cnt.ext_lt hlt⟩
  exact upT_rows (m:=2) (fun _=>rfl) rfl x.val rfl j
 ·have hx:x.val=L.length:=by have:=x.2;have:=le_of_not hc;omega
  rw[hx];exact⟨⟨⟨rfl,rfl⟩,trivial⟩,⟨rfl,fun i hi=>upT_end (n:=L.length) i (by omega)⟩,trivial⟩
def mkTxn(n k:Nat):List Txn:=(List.range n).map fun i=>⟨((k+2*i:Nat):Int),((k+2*i:Nat):Int)+1⟩
def k_markTxnS:Con:=.reff ⟨List Txn×Nat,fun x=>[.osl 0 0 x.1.length,.int .i64 x.2],fun x=>[txnA x.1],fun x=>.int .i64 (x.2+2*x.1.length:Nat),fun x=>[txnA (mkTxn x.1.length x.2)],fun x=>KBn x.1.length x.2 2⟩
def A_markTxnS(L:List Txn)(k:Nat):Nat->Ann
 |0=>.one {i:Nat//i<=L.length} (fun x=>⟨[(0,.osl 0 0 L.length),(1,.int .i64 (k+2*x.1:Nat)),(5,.int .i64 x.1)],[some (.arr true 0 2 L.length (upR (txnRow (mkTxn L.length k)) (txnRow L) x.1))]⟩) (fun x=>L.length-x.1) [.arr 0] [.arr 0] (fun _=>noAnn)
 |_=>.none
noncomputable def b_markTxnS:Code:=Tryz.f48.body.getD .skip
theorem call_markTxnS:Callable Tryz.prog 48:=⟨_,Tryz.func48,by kernel_rfl,by kernel_rfl⟩
theorem v_markTxnS(L:List Txn)(k:Nat)(h:
  (∃(x:{i:Nat//i<=L.length}),((0=0/\L.length=L.length)/\(k:Int)=(↑(k+2*x.val):Int)/\(0:Int)=(x.val:Int)/\True)/\(L.length=L.length/\RowsEq L.length (txnRow L) (upR (txnRow (mkTxn L.length k))
  (txnRow L) x.val))/\True)/\∀(x:{i:Nat//i<=L.length}),(decide ((x.val:Int)<(L.length:Int))=true->InB (x.val:Int) L.length/\Lt (0+(x.val:Int).toNat) L.length/\Rng .i64 ((↑(k+2*x.val):Int)+(1:Int))/\
  InB (x.val:Int) L.length/\Lt (0+(x.val:Int).toNat) L.length/\Rng .i64 ((↑(k+2*x.val):Int)+(1:Int)+(1:Int))/\Rng .i64 ((x.val:Int)+(1:Int))/\∃(y:{i:Nat//i<=L.length}),(((0=0/\L.length=
  L.length)/\(↑(k+2*x.val):Int)+(1:Int)+(1:Int)=(↑(k+2*y.val):Int)/\(x.val:Int)+(1:Int)=(y.val:Int)/\True)/\(L.length=L.length/\RowsEq L.length (setRow (setRow (upR (txnRow (mkTxn L.length k))
  (txnRow L) x.val) (0+(x.val:Int).toNat) 0 [T.int .i64 (↑(k+2*x.val):Int)]) (0+(x.val:Int).toNat) 1 [T.int .i64 ((↑(k+2*x.val):Int)+(1:Int))]) (upR (txnRow (mkTxn L.length k)) (txnRow L) y.val))/\True)/\Lt
  (L.length-y.val) (L.length-x.val))/\(decide ((x.val:Int)<(L.length:Int))=false->((↑(k+2*x.val):Int)=(↑(k+2*L.length):Int)/\True)/\(L.length=(mkTxn L.length k).length/\RowsEq L.length (upR (txnRow
  (mkTxn L.length k)) (txnRow L) x.val) (txnRow (mkTxn L.length k)))/\True)):
  EffFn Tryz.prog 48 [.osl 0 0 L.length,.int .i64 k] [txnA L] (.int .i64 (k+2*L.length:Nat)) [txnA (mkTxn L.length k)]:=
 vcG (code:=b_markTxnS) gN Tryz.func48 (by kernel_rfl) (by kernel_rfl) (A_markTxnS L k) [[.arr 0]] h (by kernel_rfl)
theorem markTxnS_ok:ConOk Tryz.prog 48 k_markTxnS:=by
 rintro⟨L,k⟩ ⟨h1,h2,h3⟩;dsimp only at h1 h2 h3;refine v_markTxnS L k ⟨⟨⟨0,Nat.zero_le _⟩,⟨⟨rfl,rfl⟩,rfl,rfl,trivial⟩,⟨rfl,upR_zero⟩,trivial⟩,fun x=>⟨fun hc=> ?_,fun hc=> ?_⟩⟩
 ·have hlt:=lt_of_dec hc;have ib:=inB_nat hlt;have lt:Lt (0+(x.val:Int).toNat) L.length:=by unfold Lt;omega
  refine⟨ib,lt,i64_rng (by omega),ib,lt,i64_rng (by omega),i64_rng (by omega),⟨x.val+1,hlt⟩,⟨⟨⟨rfl,rfl⟩,by dsimp only;omega,by dsimp only;omega,trivial⟩,⟨rfl,fun j _=> ?_⟩,trivial⟩,Cnt.ext_lt hlt⟩
  exact upR_setCs (m:=2) (fun _=>rfl) (fun _=>rfl) x.val [(0,.int .i64 (((k+2*x.val:Nat):Int))),(1,.int .i64 (((k+2*x.val:Nat):Int)+1))] (by simp) (by unfold txnRow mkTxn;rw[mk_at _ hlt];rfl) j
 ·have hx:x.val=L.length:=by have:=x.2;have:=le_of_not hc;omega
  rw[hx];exact⟨⟨rfl,trivial⟩,⟨(mk_len _ _).symm,upR_end⟩,trivial⟩
def k_heldTxnS:Con:=.rel ⟨Nat×Nat,fun x=>[txnS (mkTxn x.1 x.2),.int .i64 x.2],fun x=>.int .i64 (x.2+2*x.1:Nat),fun x=>KBn x.1 x.2 2⟩
def A_heldTxnS(n k:Nat):Nat->Ann
 |0=>.one {i:Nat//i<=n} (fun x=>⟨[(0,txnS (mkTxn n k)),(1,.int .i64 (k+2*x.1:Nat)),(5,.int .i64 x.1)],[]⟩) (fun x=>n-x.1) [] [] (fun _=>noAnn)
 |_=>.none
noncomputable def b_heldTxnS:Code:=Tryz.f51.body.getD .skip
theorem call_heldTxnS:Callable Tryz.prog 51:=⟨_,Tryz.func51,by kernel_rfl,by kernel_rfl⟩
theorem v_heldTxnS(n k:Nat)(h:
  (∃(x:{i:Nat//i<=n}),((EqL txnRow (mkTxn n k) (mkTxn n k))/\(k:Int)=(↑(k+2*x.val):Int)/\(0:Int)=(x.val:Int)/\True)/\True)/\∀(x:{i:Nat//i<=n}),(decide ((x.val:Int)<(↑(mkTxn n k).length:
  Int))=true->InB (x.val:Int) (mkTxn n k).length/\((((mkTxn n k).getD (x.val:Int).toNat default).id !=(↑(k+2*x.val):Int))=true->(-1:Int)=(↑(k+2*n):Int))/\((((mkTxn n k).getD (x.val:Int).toNat default).id !=
  (↑(k+2*x.val):Int))=false->Rng .i64 ((↑(k+2*x.val):Int)+(1:Int))/\InB (x.val:Int) (mkTxn n k).length/\((((mkTxn n k).getD (x.val:Int).toNat default).last !=(↑(k+2*x.val):Int)+(1:Int))=true->(-1:
  Int)=(↑(k+2*n):Int))/\((((mkTxn n k).getD (x.val:Int).toNat default).last !=(↑(k+2*x.val):Int)+(1:Int))=false->Rng .i64 ((↑(k+2*x.val):Int)+(1:Int)+(1:Int))/\Rng .i64 ((x.val:Int)+(1:Int))
  /\∃(y:{i:Nat//i<=n}),(((EqL txnRow (mkTxn n k) (mkTxn n k))/\(↑(k+2*x.val):Int)+(1:Int)+(1:Int)=(↑(k+2*y.val):Int)/\(x.val:Int)+(1:Int)=(y.val:Int)/\True)/\True)/\Lt (n-y.val) (n-
  x.val))))/\(decide ((x.val:Int)<(↑(mkTxn n k).length:Int))=false->(↑(k+2*x.val):Int)=(↑(k+2*n):Int))):
  PureFn Tryz.prog 51 [txnS (mkTxn n k),.int .i64 k] (.int .i64 (k+2*n:Nat)):=
 vcR (code:=b_heldTxnS) gN Tryz.func51 (by kernel_rfl) (by kernel_rfl) (A_heldTxnS n k) h (by kernel_rfl)
theorem heldTxnS_ok:ConOk Tryz.prog 51 k_heldTxnS:=by
 rintro⟨n,k⟩ ⟨h1,h2,h3⟩;dsimp only at h1 h2 h3;have hn:(mkTxn n k).length=n:=mk_len _ _;refine v_heldTxnS n k ⟨⟨⟨0,Nat.zero_le _⟩,⟨⟨rfl,rowsR _ _⟩,rfl,rfl,trivial⟩,trivial⟩,fun x=>⟨fun hc=> ?_,fun hc=> ?_⟩⟩
 ·have hlt:=lt_of_dec hc;have hlt':x.val<n:=by omega
  have e:(mkTxn n k).getD (x.val:Int).toNat default=⟨((k+2*x.val:Nat):Int),((k+2*x.val:Nat):Int)+1⟩:=by rw[Int.toNat_natCast];exact mk_at _ hlt' _
  rw[e];have ib:=inB_nat hlt;exact⟨ib,fun h=>by simp at h,fun _=>⟨i64_rng (by omega),ib,fun h=>by simp at h,fun _=>⟨i64_rng (by omega),i64_rng (by omega),⟨x.val+1,hlt'⟩,⟨⟨⟨rfl,rowsR _ _⟩,by dsimp only;omega,by dsimp only;omega,trivial⟩,trivial⟩,Cnt.ext_lt hlt'⟩⟩⟩
 ·have hx:x.val=n:=by have:=x.2;have:=le_of_not hc;omega
  rw[hx]
def lckA(L:List Lck):Option Ob:=some (.arr true 0 4 L.length (lckRow L))
theorem plain_Lck(L:List Lck):PlainH [lckA L]:=plain_cons (fun i _ t ht=>by
 simp only[lckRow,Lck.ts,List.mem_cons,List.not_mem_nil,or_false] at ht;rcases ht with rfl|rfl|rfl|rfl<;>rfl) plain_nil
def k_clLck:Con:=.rmk ⟨List Lck,fun L=>[lckS L],fun _=>[],fun L=>.osl 0 0 L.length,fun L=>[lckA L],fun L=>L.length<=1048576⟩
noncomputable def b_clLck:Code:=Tryz.f165.body.getD .skip
theorem call_clLck:Callable Tryz.prog 165:=⟨_,Tryz.func165,by kernel_rfl,by kernel_rfl⟩
theorem v_clLck(L:List Lck)(h:
  ∀(b:Bool),(b=true->L.length=0)->(b=true->((0=0/\0=L.length)/\True)/\(0=L.length/\RowsEq 0 (fun(x:Nat)=>[]) (lckRow L))/\True)/\(b=false->(Le 0 0/\AppB 0 L.length 32)/\((0=0/\0+L.length=
  L.length)/\True)/\(0+L.length=L.length/\RowsEq (0+L.length) (appRow (fun(k:Nat)=>List.take 4 (List.drop (k*4) [])) 0 (lckRow L)) (lckRow L))/\True)):
  EffFn Tryz.prog 165 [lckS L] [] (.osl 0 0 L.length) [lckA L]:=
 vcG (code:=b_clLck) gN Tryz.func165 (by kernel_rfl) (by kernel_rfl) noAnn [[.arr 1],[.nilS 0 [] 0 4,.arr 0]] h (by kernel_rfl)
theorem clLck_ok:ConOk Tryz.prog 165 k_clLck:=fun(L:List Lck) (hL:L.length<=1048576)=>
 ⟨v_clLck L (fun b hb=>⟨fun h=>⟨⟨⟨rfl,(hb h).symm⟩,trivial⟩,⟨(hb h).symm,fun i hi=>absurd hi (Nat.not_lt_zero _)⟩,trivial⟩,fun _=>⟨⟨Nat.le_refl _,by unfold AppB;omega⟩,⟨⟨rfl,by omega⟩,trivial⟩,⟨by omega,app_nil⟩,trivial⟩⟩),rfl,plain_Lck L⟩
def k_moLckS:Con:=.rmk ⟨List Lck,fun L=>[lckS L],fun _=>[],fun L=>.osl 0 0 L.length,fun L=>[lckA L],fun L=>L.length<=1048576⟩
noncomputable def b_moLckS:Code:=Tryz.f85.body.getD .skip
theorem call_moLckS:Callable Tryz.prog 85:=⟨_,Tryz.func85,by kernel_rfl,by kernel_rfl⟩
theorem v_moLckS(L:List Lck)(h:
  (Nn (L.length:Int)/\LeI (L.length:Int) (L.length:Int)/\sizeB 32 (L.length:Int).toNat 140737488355328/\Lt (L.length:Int).toNat 9223372036854775808)/\(∃(x:{i:Nat//i<=L.length}),((EqL lckRow L L)/\(0=0/\
  (L.length:Int).toNat=L.length)/\(0:Int)=(x.val:Int)/\True)/\((L.length:Int).toNat=L.length/\RowsEq (L.length:Int).toNat (fun(x:Nat)=>[T.int .i64 (0:Int),T.int .i64 (0:Int),T.int .i64 (0:Int),T.int .i64 (0
  :Int)]) (upT (lckRow L) [T.int .i64 (0:Int),T.int .i64 (0:Int),T.int .i64 (0:Int),T.int .i64 (0:Int)] x.val))/\True)/\∀(x:{i:Nat//i<=L.length}),(decide ((x.val:Int)<(L.length:Int))=true->InB
  (x.val:Int) L.length/\∃(x_1:r_toLck.ι),((((L.getD (x.val:Int).toNat default).tx=x_1.tx/\(L.getD (x.val:Int).toNat default).ta=x_1.ta/\(L.getD (x.val:Int).toNat default).row=x_1.row/\(L.getD (x.val:Int).toNat
  default).mo=x_1.mo/\True)/\True)/\True)/\InB (x.val:Int) L.length/\Lt (0+(x.val:Int).toNat) L.length/\Rng .i64 ((x.val:Int)+(1:Int))/\∃(y:{i:Nat//i<=L.length}),(((EqL lckRow L L)/\(0=0/\L.length=
  L.length)/\(x.val:Int)+(1:Int)=(y.val:Int)/\True)/\(L.length=L.length/\RowsEq L.length (setRow (upT (lckRow L) [T.int .i64 (0:Int),T.int .i64 (0:Int),T.int .i64 (0:Int),T.int .i64 (0:Int)] x.val) (0+
  (x.val:Int).toNat) 0 [T.int .i64 x_1.tx,T.int .i64 x_1.ta,T.int .i64 x_1.row,T.int .i64 x_1.mo]) (upT (lckRow L) [T.int .i64 (0:Int),T.int .i64 (0:Int),T.int .i64 (0:Int),T.int .i64 (0:Int)] y.val))/\True)/\Lt
  (L.length-y.val) (L.length-x.val))/\(decide ((x.val:Int)<(L.length:Int))=false->((0=0/\L.length=L.length)/\True)/\(L.length=L.length/\RowsEq L.length (upT (lckRow L) [T.int .i64 (0:Int),T.int .i64 (0:Int),
  T.int .i64 (0:Int),T.int .i64 (0:Int)] x.val) (lckRow L))/\True)):
  EffFn Tryz.prog 85 [lckS L] [] (.osl 0 0 L.length) [lckA L]:=
 vcG (code:=b_moLckS) (gC toLck_ok call_toLck gN) Tryz.func85 (by kernel_rfl) (by kernel_rfl) (A_toLckS L) [[.arr 0]] h (by kernel_rfl)
theorem moLckS_ok:ConOk Tryz.prog 85 k_moLckS:=by
 intro(L:List Lck) (hL:L.length<=1048576);refine⟨v_moLckS L ⟨⟨by unfold Nn;omega,by unfold LeI;omega,by unfold sizeB;omega,by unfold Lt;omega⟩,⟨⟨0,Nat.zero_le _⟩,⟨⟨(by trivial),rowsR _ _⟩,⟨(by trivial),by omega⟩,rfl,trivial⟩,⟨by omega,upT_zero⟩,trivial⟩,fun x=>⟨fun hc=> ?_,fun hc=> ?_⟩⟩,rfl,plain_Lck L⟩
 ·have hlt:=lt_of_dec hc;refine⟨inB_nat hlt,L.getD x.val default,⟨⟨⟨rfl,rfl,rfl,rfl,trivial⟩,trivial⟩,trivial⟩,inB_nat hlt,by unfold Lt;omega,add_rng hlt (by omega),⟨x.val+1,hlt⟩,⟨⟨⟨(by trivial),rowsR _ _⟩,⟨(by trivial),(by trivial)⟩,by simp only;omega,trivial⟩,⟨(by trivial),fun j hj=> ?_⟩,trivial⟩,Cnt.ext_lt hlt⟩
  exact upT_rows (m:=4) (fun _=>rfl) rfl x.val rfl j
 ·have hx:x.val=L.length:=by have:=x.2;have:=le_of_not hc;omega
  rw[hx];exact⟨⟨⟨rfl,rfl⟩,trivial⟩,⟨rfl,fun i hi=>upT_end (n:=L.length) i (by omega)⟩,trivial⟩
def mkLck(n k:Nat):List Lck:=(List.range n).map fun i=>⟨((k+4*i:Nat):Int),((k+4*i:Nat):Int)+1,((k+4*i:Nat):Int)+1+1,((k+4*i:Nat):Int)+1+1+1⟩
def k_markLckS:Con:=.reff ⟨List Lck×Nat,fun x=>[.osl 0 0 x.1.length,.int .i64 x.2],fun x=>[lckA x.1],fun x=>.int .i64 (x.2+4*x.1.length:Nat),fun x=>[lckA (mkLck x.1.length x.2)],fun x=>KBn x.1.length x.2 4⟩
def A_markLckS(L:List Lck)(k:Nat):Nat->Ann
 |0=>.one {i:Nat//i<=L.length} (fun x=>⟨[(0,.osl 0 0 L.length),(1,.int .i64 (k+4*x.1:Nat)),(5,.int .i64 x.1)],[some (.arr true 0 4 L.length (upR (lckRow (mkLck L.length k)) (lckRow L) x.1))]⟩) (fun x=>L.length-x.1) [.arr 0] [.arr 0] (fun _=>noAnn)
 |_=>.none
noncomputable def b_markLckS:Code:=Tryz.f102.body.getD .skip
theorem call_markLckS:Callable Tryz.prog 102:=⟨_,Tryz.func102,by kernel_rfl,by kernel_rfl⟩
theorem v_markLckS(L:List Lck)(k:Nat)(h:
  (∃(x:{i:Nat//i<=L.length}),((0=0/\L.length=L.length)/\(k:Int)=(↑(k+4*x.val):Int)/\(0:Int)=(x.val:Int)/\True)/\(L.length=L.length/\RowsEq L.length (lckRow L) (upR (lckRow (mkLck L.length k))
  (lckRow L) x.val))/\True)/\∀(x:{i:Nat//i<=L.length}),(decide ((x.val:Int)<(L.length:Int))=true->InB (x.val:Int) L.length/\Lt (0+(x.val:Int).toNat) L.length/\Rng .i64 ((↑(k+4*x.val):Int)+(1:Int))/\
  InB (x.val:Int) L.length/\Lt (0+(x.val:Int).toNat) L.length/\Rng .i64 ((↑(k+4*x.val):Int)+(1:Int)+(1:Int))/\InB (x.val:Int) L.length/\Lt (0+(x.val:Int).toNat) L.length/\Rng .i64 ((↑(k+4*x.val):Int)+
  (1:Int)+(1:Int)+(1:Int))/\InB (x.val:Int) L.length/\Lt (0+(x.val:Int).toNat) L.length/\Rng .i64 ((↑(k+4*x.val):Int)+(1:Int)+(1:Int)+(1:Int)+(1:Int))/\Rng .i64 ((x.val:Int)+(1:Int))/\∃(y
  :{i:Nat//i<=L.length}),(((0=0/\L.length=L.length)/\(↑(k+4*x.val):Int)+(1:Int)+(1:Int)+(1:Int)+(1:Int)=(↑(k+4*y.val):Int)/\(x.val:Int)+(1:Int)=(y.val:Int)/\True)/\(L.length=
  L.length/\RowsEq L.length (setRow (setRow (setRow (setRow (upR (lckRow (mkLck L.length k)) (lckRow L) x.val) (0+(x.val:Int).toNat) 0 [T.int .i64 (↑(k+4*x.val):Int)]) (0+(x.val:Int).toNat) 1 [T.int .i64 ((↑(k+4*
  x.val):Int)+(1:Int))]) (0+(x.val:Int).toNat) 2 [T.int .i64 ((↑(k+4*x.val):Int)+(1:Int)+(1:Int))]) (0+(x.val:Int).toNat) 3 [T.int .i64 ((↑(k+4*x.val):Int)+(1:Int)+(1:Int)+(1:Int))]) (upR
  (lckRow (mkLck L.length k)) (lckRow L) y.val))/\True)/\Lt (L.length-y.val) (L.length-x.val))/\(decide ((x.val:Int)<(L.length:Int))=false->((↑(k+4*x.val):Int)=(↑(k+4*L.length):Int)/\True)/\(L.length=
  (mkLck L.length k).length/\RowsEq L.length (upR (lckRow (mkLck L.length k)) (lckRow L) x.val) (lckRow (mkLck L.length k)))/\True)):
  EffFn Tryz.prog 102 [.osl 0 0 L.length,.int .i64 k] [lckA L] (.int .i64 (k+4*L.length:Nat)) [lckA (mkLck L.length k)]:=
 vcG (code:=b_markLckS) gN Tryz.func102 (by kernel_rfl) (by kernel_rfl) (A_markLckS L k) [[.arr 0]] h (by kernel_rfl)
theorem markLckS_ok:ConOk Tryz.prog 102 k_markLckS:=by
 rintro⟨L,k⟩ ⟨h1,h2,h3⟩;dsimp only at h1 h2 h3;refine v_markLckS L k ⟨⟨⟨0,Nat.zero_le _⟩,⟨⟨rfl,rfl⟩,rfl,rfl,trivial⟩,⟨rfl,upR_zero⟩,trivial⟩,fun x=>⟨fun hc=> ?_,fun hc=> ?_⟩⟩
 ·have hlt:=lt_of_dec hc;have ib:=inB_nat hlt;have lt:Lt (0+(x.val:Int).toNat) L.length:=by unfold Lt;omega
  refine⟨ib,lt,i64_rng (by omega),ib,lt,i64_rng (by omega),ib,lt,i64_rng (by omega),ib,lt,i64_rng (by omega),i64_rng (by omega),⟨x.val+1,hlt⟩,⟨⟨⟨rfl,rfl⟩,by dsimp only;omega,by dsimp only;omega,trivial⟩,⟨rfl,fun j _=> ?_⟩,trivial⟩,Cnt.ext_lt hlt⟩
  exact upR_setCs (m:=4) (fun _=>rfl) (fun _=>rfl) x.val [(0,.int .i64 (((k+4*x.val:Nat):Int))),(1,.int .i64 (((k+4*x.val:Nat):Int)+1)),(2,.int .i64 (((k+4*x.val:Nat):Int)+1+1)),(3,.int .i64 (((k+4*x.val:Nat):Int)+1+1+1))] (by simp) (by unfold lckRow mkLck;rw[mk_at _ hlt];rfl) j
 ·have hx:x.val=L.length:=by have:=x.2;have:=le_of_not hc;omega
  rw[hx];exact⟨⟨rfl,trivial⟩,⟨(mk_len _ _).symm,upR_end⟩,trivial⟩
def k_heldLckS:Con:=.rel ⟨Nat×Nat,fun x=>[lckS (mkLck x.1 x.2),.int .i64 x.2],fun x=>.int .i64 (x.2+4*x.1:Nat),fun x=>KBn x.1 x.2 4⟩
def A_heldLckS(n k:Nat):Nat->Ann
 |0=>.one {i:Nat//i<=n} (fun x=>⟨[(0,lckS (mkLck n k)),(1,.int .i64 (k+4*x.1:Nat)),(5,.int .i64 x.1)],[]⟩) (fun x=>n-x.1) [] [] (fun _=>noAnn)
 |_=>.none
noncomputable def b_heldLckS:Code:=Tryz.f107.body.getD .skip
theorem call_heldLckS:Callable Tryz.prog 107:=⟨_,Tryz.func107,by kernel_rfl,by kernel_rfl⟩
theorem v_heldLckS(n k:Nat)(h:
  (∃(x:{i:Nat//i<=n}),((EqL lckRow (mkLck n k) (mkLck n k))/\(k:Int)=(↑(k+4*x.val):Int)/\(0:Int)=(x.val:Int)/\True)/\True)/\∀(x:{i:Nat//i<=n}),(decide ((x.val:Int)<(↑(mkLck n k).length:
  Int))=true->InB (x.val:Int) (mkLck n k).length/\((((mkLck n k).getD (x.val:Int).toNat default).tx !=(↑(k+4*x.val):Int))=true->(-1:Int)=(↑(k+4*n):Int))/\((((mkLck n k).getD (x.val:Int).toNat default).tx !=
  (↑(k+4*x.val):Int))=false->Rng .i64 ((↑(k+4*x.val):Int)+(1:Int))/\InB (x.val:Int) (mkLck n k).length/\((((mkLck n k).getD (x.val:Int).toNat default).ta !=(↑(k+4*x.val):Int)+(1:Int))=true->(-1:
  Int)=(↑(k+4*n):Int))/\((((mkLck n k).getD (x.val:Int).toNat default).ta !=(↑(k+4*x.val):Int)+(1:Int))=false->Rng .i64 ((↑(k+4*x.val):Int)+(1:Int)+(1:Int))/\InB (x.val:Int) (mkLck n k).length/\
  ((((mkLck n k).getD (x.val:Int).toNat default).row !=(↑(k+4*x.val):Int)+(1:Int)+(1:Int))=true->(-1:Int)=(↑(k+4*n):Int))/\((((mkLck n k).getD (x.val:Int).toNat default).row !=(↑(k+4*x.val):Int)+
  (1:Int)+(1:Int))=false->Rng .i64 ((↑(k+4*x.val):Int)+(1:Int)+(1:Int)+(1:Int))/\InB (x.val:Int) (mkLck n k).length/\((((mkLck n k).getD (x.val:Int).toNat default).mo !=(↑(k+4*x.val):Int)+(1:
  Int)+(1:Int)+(1:Int))=true->(-1:Int)=(↑(k+4*n):Int))/\((((mkLck n k).getD (x.val:Int).toNat default).mo !=(↑(k+4*x.val):Int)+(1:Int)+(1:Int)+(1:Int))=false->Rng .i64 ((↑(k+4*x.val):
  Int)+(1:Int)+(1:Int)+(1:Int)+(1:Int))/\Rng .i64 ((x.val:Int)+(1:Int))/\∃(y:{i:Nat//i<=n}),(((EqL lckRow (mkLck n k) (mkLck n k))/\(↑(k+4*x.val):Int)+(1:Int)+(1:Int)+(1:Int)+(1
  :Int)=(↑(k+4*y.val):Int)/\(x.val:Int)+(1:Int)=(y.val:Int)/\True)/\True)/\Lt (n-y.val) (n-x.val))))))/\(decide ((x.val:Int)<(↑(mkLck n k).length:Int))=false->(↑(k+4*x.val):Int)=(↑(k+4*n):
  Int))):
  PureFn Tryz.prog 107 [lckS (mkLck n k),.int .i64 k] (.int .i64 (k+4*n:Nat)):=
 vcR (code:=b_heldLckS) gN Tryz.func107 (by kernel_rfl) (by kernel_rfl) (A_heldLckS n k) h (by kernel_rfl)
theorem heldLckS_ok:ConOk Tryz.prog 107 k_heldLckS:=by
 rintro⟨n,k⟩ ⟨h1,h2,h3⟩;dsimp only at h1 h2 h3;have hn:(mkLck n k).length=n:=mk_len _ _;refine v_heldLckS n k ⟨⟨⟨0,Nat.zero_le _⟩,⟨⟨rfl,rowsR _ _⟩,rfl,rfl,trivial⟩,trivial⟩,fun x=>⟨fun hc=> ?_,fun hc=> ?_⟩⟩
 ·have hlt:=lt_of_dec hc;have hlt':x.val<n:=by omega
  have e:(mkLck n k).getD (x.val:Int).toNat default=⟨((k+4*x.val:Nat):Int),((k+4*x.val:Nat):Int)+1,((k+4*x.val:Nat):Int)+1+1,((k+4*x.val:Nat):Int)+1+1+1⟩:=by rw[Int.toNat_natCast];exact mk_at _ hlt' _
  rw[e];have ib:=inB_nat hlt;exact⟨ib,fun h=>by simp at h,fun _=>⟨i64_rng (by omega),ib,fun h=>by simp at h,fun _=>⟨i64_rng (by omega),ib,fun h=>by simp at h,fun _=>⟨i64_rng (by omega),ib,fun h=>by simp at h,fun _=>⟨i64_rng (by omega),i64_rng (by omega),⟨x.val+1,hlt'⟩,⟨⟨⟨rfl,rowsR _ _⟩,by dsimp only;omega,by dsimp only;omega,trivial⟩,trivial⟩,Cnt.ext_lt hlt'⟩⟩⟩⟩⟩
 ·have hx:x.val=n:=by have:=x.2;have:=le_of_not hc;omega
  rw[hx]
def wtA(L:List Wt):Option Ob:=some (.arr true 0 2 L.length (wtRow L))
theorem plain_Wt(L:List Wt):PlainH [wtA L]:=plain_cons (fun i _ t ht=>by
 simp only[wtRow,Wt.ts,List.mem_cons,List.not_mem_nil,or_false] at ht;rcases ht with rfl|rfl<;>rfl) plain_nil
def k_clWt:Con:=.rmk ⟨List Wt,fun L=>[wtS L],fun _=>[],fun L=>.osl 0 0 L.length,fun L=>[wtA L],fun L=>L.length<=1048576⟩
noncomputable def b_clWt:Code:=Tryz.f166.body.getD .skip
theorem call_clWt:Callable Tryz.prog 166:=⟨_,Tryz.func166,by kernel_rfl,by kernel_rfl⟩
theorem v_clWt(L:List Wt)(h:
  ∀(b:Bool),(b=true->L.length=0)->(b=true->((0=0/\0=L.length)/\True)/\(0=L.length/\RowsEq 0 (fun(x:Nat)=>[]) (wtRow L))/\True)/\(b=false->(Le 0 0/\AppB 0 L.length 16)/\((0=0/\0+L.length=
  L.length)/\True)/\(0+L.length=L.length/\RowsEq (0+L.length) (appRow (fun(k:Nat)=>List.take 2 (List.drop (k*2) [])) 0 (wtRow L)) (wtRow L))/\True)):
  EffFn Tryz.prog 166 [wtS L] [] (.osl 0 0 L.length) [wtA L]:=
 vcG (code:=b_clWt) gN Tryz.func166 (by kernel_rfl) (by kernel_rfl) noAnn [[.arr 1],[.nilS 0 [] 0 2,.arr 0]] h (by kernel_rfl)
theorem clWt_ok:ConOk Tryz.prog 166 k_clWt:=fun(L:List Wt) (hL:L.length<=1048576)=>
 ⟨v_clWt L (fun b hb=>⟨fun h=>⟨⟨⟨rfl,(hb h).symm⟩,trivial⟩,⟨(hb h).symm,fun i hi=>absurd hi (Nat.not_lt_zero _)⟩,trivial⟩,fun _=>⟨⟨Nat.le_refl _,by unfold AppB;omega⟩,⟨⟨rfl,by omega⟩,trivial⟩,⟨by omega,app_nil⟩,trivial⟩⟩),rfl,plain_Wt L⟩
def k_moWtS:Con:=.rmk ⟨List Wt,fun L=>[wtS L],fun _=>[],fun L=>.osl 0 0 L.length,fun L=>[wtA L],fun L=>L.length<=1048576⟩
noncomputable def b_moWtS:Code:=Tryz.f86.body.getD .skip
theorem call_moWtS:Callable Tryz.prog 86:=⟨_,Tryz.func86,by kernel_rfl,by kernel_rfl⟩
theorem v_moWtS(L:List Wt)(h:
  (Nn (L.length:Int)/\LeI (L.length:Int) (L.length:Int)/\sizeB 16 (L.length:Int).toNat 140737488355328/\Lt (L.length:Int).toNat 9223372036854775808)/\(∃(x:{i:Nat//i<=L.length}),((EqL wtRow L L)/\(0=0/\
  (L.length:Int).toNat=L.length)/\(0:Int)=(x.val:Int)/\True)/\((L.length:Int).toNat=L.length/\RowsEq (L.length:Int).toNat (fun(x:Nat)=>[T.int .i64 (0:Int),T.int .i64 (0:Int)]) (upT (wtRow L) [T.int .i64 (0:
  Int),T.int .i64 (0:Int)] x.val))/\True)/\∀(x:{i:Nat//i<=L.length}),(decide ((x.val:Int)<(L.length:Int))=true->InB (x.val:Int) L.length/\∃(x_1:r_toWt.ι),((((L.getD (x.val:Int).toNat default).tx=x_1.tx/\
  (L.getD (x.val:Int).toNat default).fo=x_1.fo/\True)/\True)/\True)/\InB (x.val:Int) L.length/\Lt (0+(x.val:Int).toNat) L.length/\Rng .i64 ((x.val:Int)+(1:Int))/\∃(y:{i:Nat//i<=L.length}),(((EqL wtRow L L)
  /\(0=0/\L.length=L.length)/\(x.val:Int)+(1:Int)=(y.val:Int)/\True)/\(L.length=L.length/\RowsEq L.length (setRow (upT (wtRow L) [T.int .i64 (0:Int),T.int .i64 (0:Int)] x.val) (0+(x.val:Int).toNat) 0 [T.int
  .i64 x_1.tx,T.int .i64 x_1.fo]) (upT (wtRow L) [T.int .i64 (0:Int),T.int .i64 (0:Int)] y.val))/\True)/\Lt (L.length-y.val) (L.length-x.val))/\(decide ((x.val:Int)<(L.length:Int))=false->((0=0/\L.length=
  L.length)/\True)/\(L.length=L.length/\RowsEq L.length (upT (wtRow L) [T.int .i64 (0:Int),T.int .i64 (0:Int)] x.val) (wtRow L))/\True)):
  EffFn Tryz.prog 86 [wtS L] [] (.osl 0 0 L.length) [wtA L]:=
 vcG (code:=b_moWtS) (gC toWt_ok call_toWt gN) Tryz.func86 (by kernel_rfl) (by kernel_rfl) (A_toWtS L) [[.arr 0]] h (by kernel_rfl)
theorem moWtS_ok:ConOk Tryz.prog 86 k_moWtS:=by
 intro(L:List Wt) (hL:L.length<=1048576);refine⟨v_moWtS L ⟨⟨by unfold Nn;omega,by unfold LeI;omega,by unfold sizeB;omega,by unfold Lt;omega⟩,⟨⟨0,Nat.zero_le _⟩,⟨⟨(by trivial),rowsR _ _⟩,⟨(by trivial),by omega⟩,rfl,trivial⟩,⟨by omega,upT_zero⟩,trivial⟩,fun x=>⟨fun hc=> ?_,fun hc=> ?_⟩⟩,rfl,plain_Wt L⟩
 ·have hlt:=lt_of_dec hc;refine⟨inB_nat hlt,L.getD x.val default,⟨⟨⟨rfl,rfl,trivial⟩,trivial⟩,trivial⟩,inB_nat hlt,by unfold Lt;omega,add_rng hlt (by omega),⟨x.val+1,hlt⟩,⟨⟨⟨(by trivial),rowsR _ _⟩,⟨(by trivial),(by trivial)⟩,by simp only;omega,trivial⟩,⟨(by trivial),fun j hj=> ?_⟩,trivial⟩,Cnt.ext_lt hlt⟩
  exact upT_rows (m:=2) (fun _=>rfl) rfl x.val rfl j
 ·have hx:x.val=L.length:=by have:=x.2;have:=le_of_not hc;omega
  rw[hx];exact⟨⟨⟨rfl,rfl⟩,trivial⟩,⟨rfl,fun i hi=>upT_end (n:=L.length) i (by omega)⟩,trivial⟩
def mkWt(n k:Nat):List Wt:=(List.range n).map fun i=>⟨((k+2*i:Nat):Int),((k+2*i:Nat):Int)+1⟩
def k_markWtS:Con:=.reff ⟨List Wt×Nat,fun x=>[.osl 0 0 x.1.length,.int .i64 x.2],fun x=>[wtA x.1],fun x=>.int .i64 (x.2+2*x.1.length:Nat),fun x=>[wtA (mkWt x.1.length x.2)],fun x=>KBn x.1.length x.2 2⟩
def A_markWtS(L:List Wt)(k:Nat):Nat->Ann
 |0=>.one {i:Nat//i<=L.length} (fun x=>⟨[(0,.osl 0 0 L.length),(1,.int .i64 (k+2*x.1:Nat)),(5,.int .i64 x.1)],[some (.arr true 0 2 L.length (upR (wtRow (mkWt L.length k)) (wtRow L) x.1))]⟩) (fun x=>L.length-x.1) [.arr 0] [.arr 0] (fun _=>noAnn)
 |_=>.none
noncomputable def b_markWtS:Code:=Tryz.f103.body.getD .skip
theorem call_markWtS:Callable Tryz.prog 103:=⟨_,Tryz.func103,by kernel_rfl,by kernel_rfl⟩
theorem v_markWtS(L:List Wt)(k:Nat)(h:
  (∃(x:{i:Nat//i<=L.length}),((0=0/\L.length=L.length)/\(k:Int)=(↑(k+2*x.val):Int)/\(0:Int)=(x.val:Int)/\True)/\(L.length=L.length/\RowsEq L.length (wtRow L) (upR (wtRow (mkWt L.length k)) (wtRow
  L) x.val))/\True)/\∀(x:{i:Nat//i<=L.length}),(decide ((x.val:Int)<(L.length:Int))=true->InB (x.val:Int) L.length/\Lt (0+(x.val:Int).toNat) L.length/\Rng .i64 ((↑(k+2*x.val):Int)+(1:Int))/\InB
  (x.val:Int) L.length/\Lt (0+(x.val:Int).toNat) L.length/\Rng .i64 ((↑(k+2*x.val):Int)+(1:Int)+(1:Int))/\Rng .i64 ((x.val:Int)+(1:Int))/\∃(y:{i:Nat//i<=L.length}),(((0=0/\L.length=L.length)/\
  (↑(k+2*x.val):Int)+(1:Int)+(1:Int)=(↑(k+2*y.val):Int)/\(x.val:Int)+(1:Int)=(y.val:Int)/\True)/\(L.length=L.length/\RowsEq L.length (setRow (setRow (upR (wtRow (mkWt L.length k)) (wtRow L) x.val)
  (0+(x.val:Int).toNat) 0 [T.int .i64 (↑(k+2*x.val):Int)]) (0+(x.val:Int).toNat) 1 [T.int .i64 ((↑(k+2*x.val):Int)+(1:Int))]) (upR (wtRow (mkWt L.length k)) (wtRow L) y.val))/\True)/\Lt (L.length-y.val)
  (L.length-x.val))/\(decide ((x.val:Int)<(L.length:Int))=false->((↑(k+2*x.val):Int)=(↑(k+2*L.length):Int)/\True)/\(L.length=(mkWt L.length k).length/\RowsEq L.length (upR (wtRow (mkWt L.length k)) (wtRow
  L) x.val) (wtRow (mkWt L.length k)))/\True)):
  EffFn Tryz.prog 103 [.osl 0 0 L.length,.int .i64 k] [wtA L] (.int .i64 (k+2*L.length:Nat)) [wtA (mkWt L.length k)]:=
 vcG (code:=b_markWtS) gN Tryz.func103 (by kernel_rfl) (by kernel_rfl) (A_markWtS L k) [[.arr 0]] h (by kernel_rfl)
theorem markWtS_ok:ConOk Tryz.prog 103 k_markWtS:=by
 rintro⟨L,k⟩ ⟨h1,h2,h3⟩;dsimp only at h1 h2 h3;refine v_markWtS L k ⟨⟨⟨0,Nat.zero_le _⟩,⟨⟨rfl,rfl⟩,rfl,rfl,trivial⟩,⟨rfl,upR_zero⟩,trivial⟩,fun x=>⟨fun hc=> ?_,fun hc=> ?_⟩⟩
 ·have hlt:=lt_of_dec hc;have ib:=inB_nat hlt;have lt:Lt (0+(x.val:Int).toNat) L.length:=by unfold Lt;omega
  refine⟨ib,lt,i64_rng (by omega),ib,lt,i64_rng (by omega),i64_rng (by omega),⟨x.val+1,hlt⟩,⟨⟨⟨rfl,rfl⟩,by dsimp only;omega,by dsimp only;omega,trivial⟩,⟨rfl,fun j _=> ?_⟩,trivial⟩,Cnt.ext_lt hlt⟩
  exact upR_setCs (m:=2) (fun _=>rfl) (fun _=>rfl) x.val [(0,.int .i64 (((k+2*x.val:Nat):Int))),(1,.int .i64 (((k+2*x.val:Nat):Int)+1))] (by simp) (by unfold wtRow mkWt;rw[mk_at _ hlt];rfl) j
 ·have hx:x.val=L.length:=by have:=x.2;have:=le_of_not hc;omega
  rw[hx];exact⟨⟨rfl,trivial⟩,⟨(mk_len _ _).symm,upR_end⟩,trivial⟩
def k_heldWtS:Con:=.rel ⟨Nat×Nat,fun x=>[wtS (mkWt x.1 x.2),.int .i64 x.2],fun x=>.int .i64 (x.2+2*x.1:Nat),fun x=>KBn x.1 x.2 2⟩
def A_heldWtS(n k:Nat):Nat->Ann
 |0=>.one {i:Nat//i<=n} (fun x=>⟨[(0,wtS (mkWt n k)),(1,.int .i64 (k+2*x.1:Nat)),(5,.int .i64 x.1)],[]⟩) (fun x=>n-x.1) [] [] (fun _=>noAnn)
 |_=>.none
noncomputable def b_heldWtS:Code:=Tryz.f108.body.getD .skip
theorem call_heldWtS:Callable Tryz.prog 108:=⟨_,Tryz.func108,by kernel_rfl,by kernel_rfl⟩
theorem v_heldWtS(n k:Nat)(h:
  (∃(x:{i:Nat//i<=n}),((EqL wtRow (mkWt n k) (mkWt n k))/\(k:Int)=(↑(k+2*x.val):Int)/\(0:Int)=(x.val:Int)/\True)/\True)/\∀(x:{i:Nat//i<=n}),(decide ((x.val:Int)<(↑(mkWt n k).length:Int))=
  true->InB (x.val:Int) (mkWt n k).length/\((((mkWt n k).getD (x.val:Int).toNat default).tx !=(↑(k+2*x.val):Int))=true->(-1:Int)=(↑(k+2*n):Int))/\((((mkWt n k).getD (x.val:Int).toNat default).tx !=(↑(k+2*
  x.val):Int))=false->Rng .i64 ((↑(k+2*x.val):Int)+(1:Int))/\InB (x.val:Int) (mkWt n k).length/\((((mkWt n k).getD (x.val:Int).toNat default).fo !=(↑(k+2*x.val):Int)+(1:Int))=true->(-1:Int)=(↑(k+
  2*n):Int))/\((((mkWt n k).getD (x.val:Int).toNat default).fo !=(↑(k+2*x.val):Int)+(1:Int))=false->Rng .i64 ((↑(k+2*x.val):Int)+(1:Int)+(1:Int))/\Rng .i64 ((x.val:Int)+(1:Int))/\∃(y:{i:
  Nat//i<=n}),(((EqL wtRow (mkWt n k) (mkWt n k))/\(↑(k+2*x.val):Int)+(1:Int)+(1:Int)=(↑(k+2*y.val):Int)/\(x.val:Int)+(1:Int)=(y.val:Int)/\True)/\True)/\Lt (n-y.val) (n-x.val))))/\(decide
  ((x.val:Int)<(↑(mkWt n k).length:Int))=false->(↑(k+2*x.val):Int)=(↑(k+2*n):Int))):
  PureFn Tryz.prog 108 [wtS (mkWt n k),.int .i64 k] (.int .i64 (k+2*n:Nat)):=
 vcR (code:=b_heldWtS) gN Tryz.func108 (by kernel_rfl) (by kernel_rfl) (A_heldWtS n k) h (by kernel_rfl)
theorem heldWtS_ok:ConOk Tryz.prog 108 k_heldWtS:=by
 rintro⟨n,k⟩ ⟨h1,h2,h3⟩;dsimp only at h1 h2 h3;have hn:(mkWt n k).length=n:=mk_len _ _;refine v_heldWtS n k ⟨⟨⟨0,Nat.zero_le _⟩,⟨⟨rfl,rowsR _ _⟩,rfl,rfl,trivial⟩,trivial⟩,fun x=>⟨fun hc=> ?_,fun hc=> ?_⟩⟩
 ·have hlt:=lt_of_dec hc;have hlt':x.val<n:=by omega
  have e:(mkWt n k).getD (x.val:Int).toNat default=⟨((k+2*x.val:Nat):Int),((k+2*x.val:Nat):Int)+1⟩:=by rw[Int.toNat_natCast];exact mk_at _ hlt' _
  rw[e];have ib:=inB_nat hlt;exact⟨ib,fun h=>by simp at h,fun _=>⟨i64_rng (by omega),ib,fun h=>by simp at h,fun _=>⟨i64_rng (by omega),i64_rng (by omega),⟨x.val+1,hlt'⟩,⟨⟨⟨rfl,rowsR _ _⟩,by dsimp only;omega,by dsimp only;omega,trivial⟩,trivial⟩,Cnt.ext_lt hlt'⟩⟩⟩
 ·have hx:x.val=n:=by have:=x.2;have:=le_of_not hc;omega
  rw[hx]
def k_tmpB:Con:=.tmp
theorem call_tmpB:Callable Tryz.prog 37:=⟨_,Tryz.func37,by kernel_rfl,by kernel_rfl⟩
theorem tmpB_ok:ConOk Tryz.prog 37 k_tmpB:=trivial
def k_tmpC:Con:=.tmp
theorem call_tmpC:Callable Tryz.prog 185:=⟨_,Tryz.func185,by kernel_rfl,by kernel_rfl⟩
theorem tmpC_ok:ConOk Tryz.prog 185 k_tmpC:=trivial
def k_tmpD:Con:=.tmp
theorem call_tmpD:Callable Tryz.prog 109:=⟨_,Tryz.func109,by kernel_rfl,by kernel_rfl⟩
theorem tmpD_ok:ConOk Tryz.prog 109 k_tmpD:=trivial
def Lks.tm(l:Lks)(b:Nat):List T:=[.osl b 0 l.held.length,.osl (b+1) 0 l.waits.length]
def Lks.hp(l:Lks):Heap:=[lckA l.held,wtA l.waits]
theorem plain_lks(l:Lks):PlainH l.hp:=plain_app (plain_Lck _) (plain_Wt _)
def k_clLks:Con:=.rmk ⟨Lks,fun l=>[.agg l.ts],fun _=>[],fun l=>.agg (l.tm 0),fun l=>l.hp,SmLks⟩
noncomputable def b_clLks:Code:=Tryz.f91.body.getD .skip
theorem call_clLks:Callable Tryz.prog 91:=⟨_,Tryz.func91,by kernel_rfl,by kernel_rfl⟩
theorem v_clLks(l:Lks)(h:
  ∃(x:(List Lck)),(((l.held.length=List.length x/\RowsEq l.held.length (lckRow l.held) (lckRow x))/\True)/\List.length x<=1048576)/\∃(x_1:(List Wt)),(((l.waits.length=List.length x_1/\RowsEq l.waits.length (wtRow
  l.waits) (wtRow x_1))/\True)/\List.length x_1<=1048576)/\(((0=0/\List.length x=l.held.length)/\(0=0/\List.length x_1=l.waits.length)/\True)/\True)/\(List.length x=l.held.length/\RowsEq (List.length x) (lckRow
  x) (lckRow l.held))/\(List.length x_1=l.waits.length/\RowsEq (List.length x_1) (wtRow x_1) (wtRow l.waits))/\True):
  EffFn Tryz.prog 91 [.agg l.ts] [] (.agg (l.tm 0)) l.hp:=
 vcG (code:=b_clLks) (gC clLck_ok call_clLck (gC clWt_ok call_clWt gN)) Tryz.func91 (by kernel_rfl) (by kernel_rfl) noAnn [[.arr 2,.arr 3]] h (by kernel_rfl)
theorem clLks_ok:ConOk Tryz.prog 91 k_clLks:=by
 rintro(l:Lks) ⟨h1,h2⟩;exact⟨v_clLks l ⟨l.held,⟨⟨⟨rfl,rowsR _ _⟩,trivial⟩,h1⟩,l.waits,⟨⟨⟨rfl,rowsR _ _⟩,trivial⟩,h2⟩,⟨⟨⟨rfl,rfl⟩,⟨rfl,rfl⟩,trivial⟩,trivial⟩,⟨rfl,rowsR _ _⟩,⟨rfl,rowsR _ _⟩,trivial⟩,rfl,plain_lks l⟩
def k_l06Own:Con:=.rel ⟨Lks,fun l=>[.agg l.ts],fun l=>.agg l.ts,SmLks⟩
noncomputable def b_l06Own:Code:=Tryz.f80.body.getD .skip
theorem call_l06Own:Callable Tryz.prog 80:=⟨_,Tryz.func80,by kernel_rfl,by kernel_rfl⟩
theorem v_l06Own(l:Lks)(h:
  AppB 0 l.held.length 32/\AppB 0 l.waits.length 16/\(EqL lckRow l.held l.held)/\(EqL wtRow l.waits l.waits)/\True):
  PureFn Tryz.prog 80 [.agg l.ts] (.agg l.ts):=
 vcR (code:=b_l06Own) (gC tmpB_ok call_tmpB (gC tmpC_ok call_tmpC (gC tmpD_ok call_tmpD gN))) Tryz.func80 (by kernel_rfl) (by kernel_rfl) noAnn h (by kernel_rfl)
theorem l06Own_ok:ConOk Tryz.prog 80 k_l06Own:=by
 rintro(l:Lks) ⟨h1,h2⟩;exact v_l06Own l ⟨by unfold AppB;omega,by unfold AppB;omega,⟨rfl,rowsR _ _⟩,⟨rfl,rowsR _ _⟩,trivial⟩
def k_moLks:Con:=.rmk ⟨Lks,fun l=>[.agg l.ts],fun _=>[],fun l=>.agg (l.tm 0),fun l=>l.hp,SmLks⟩
noncomputable def b_moLks:Code:=Tryz.f40.body.getD .skip
theorem call_moLks:Callable Tryz.prog 40:=⟨_,Tryz.func40,by kernel_rfl,by kernel_rfl⟩
theorem v_moLks(l:Lks)(h:
  ∃(x:(List Lck)),(((l.held.length=List.length x/\RowsEq l.held.length (lckRow l.held) (lckRow x))/\True)/\List.length x<=1048576)/\∃(x_1:(List Wt)),(((l.waits.length=List.length x_1/\RowsEq l.waits.length (wtRow
  l.waits) (wtRow x_1))/\True)/\List.length x_1<=1048576)/\(((0=0/\List.length x=l.held.length)/\(0=0/\List.length x_1=l.waits.length)/\True)/\True)/\(List.length x=l.held.length/\RowsEq (List.length x) (lckRow
  x) (lckRow l.held))/\(List.length x_1=l.waits.length/\RowsEq (List.length x_1) (wtRow x_1) (wtRow l.waits))/\True):
  EffFn Tryz.prog 40 [.agg l.ts] [] (.agg (l.tm 0)) l.hp:=
 vcG (code:=b_moLks) (gC moLckS_ok call_moLckS (gC moWtS_ok call_moWtS gN)) Tryz.func40 (by kernel_rfl) (by kernel_rfl) noAnn [[.arr 3,.arr 4]] h (by kernel_rfl)
theorem moLks_ok:ConOk Tryz.prog 40 k_moLks:=by
 rintro(l:Lks) ⟨h1,h2⟩;exact⟨v_moLks l ⟨l.held,⟨⟨⟨rfl,rowsR _ _⟩,trivial⟩,h1⟩,l.waits,⟨⟨⟨rfl,rowsR _ _⟩,trivial⟩,h2⟩,⟨⟨⟨rfl,rfl⟩,⟨rfl,rfl⟩,trivial⟩,trivial⟩,⟨rfl,rowsR _ _⟩,⟨rfl,rowsR _ _⟩,trivial⟩,rfl,plain_lks l⟩
def mkLks(l:Lks)(k:Nat):Lks:=⟨mkLck l.held.length k,mkWt l.waits.length (k+4*l.held.length)⟩
def endL(l:Lks)(k:Nat):Nat:=k+4*l.held.length+2*l.waits.length
def KBl(l:Lks)(k:Nat):Prop:=SmLks l/\1<=k/\k<=9000000000000
def k_markLks:Con:=.reff ⟨Lks×Nat,fun x=>[.agg (x.1.tm 0),.int .i64 x.2],fun x=>x.1.hp,fun x=>.int .i64 (endL x.1 x.2),fun x=>(mkLks x.1 x.2).hp,fun x=>KBl x.1 x.2⟩
noncomputable def b_markLks:Code:=Tryz.f49.body.getD .skip
theorem call_markLks:Callable Tryz.prog 49:=⟨_,Tryz.func49,by kernel_rfl,by kernel_rfl⟩
theorem v_markLks(l:Lks)(k:Nat)(h:
  ∃(x:(List Lck×Nat)),(((0=0/\l.held.length=x.fst.length)/\(k:Int)=(x.snd:Int)/\True)/\((EqL lckRow l.held x.fst)/\True)/\KBn x.fst.length x.snd 4)/\∃(x_1:(List Wt×Nat)),(((0=0/\l.waits.length=
  x_1.fst.length)/\(↑(x.snd+4*x.fst.length):Int)=(x_1.snd:Int)/\True)/\((EqL wtRow l.waits x_1.fst)/\True)/\KBn x_1.fst.length x_1.snd 2)/\((↑(x_1.snd+2*x_1.fst.length):Int)=(↑(endL l k):Int)/\True)/\(EqL
  lckRow (mkLck x.fst.length x.snd) (mkLck l.held.length k))/\(EqL wtRow (mkWt x_1.fst.length x_1.snd) (mkWt l.waits.length (k+4*l.held.length)))/\True):
  EffFn Tryz.prog 49 [.agg (l.tm 0),.int .i64 k] l.hp (.int .i64 (endL l k)) (mkLks l k).hp:=
 vcG (code:=b_markLks) (gC markLckS_ok call_markLckS (gC markWtS_ok call_markWtS gN)) Tryz.func49 (by kernel_rfl) (by kernel_rfl) noAnn [[.arr 0,.arr 1]] h (by kernel_rfl)
theorem markLks_ok:ConOk Tryz.prog 49 k_markLks:=by
 rintro⟨l,k⟩ ⟨⟨h1,h2⟩,h4,h5⟩;dsimp only at h1 h2 h4 h5;exact v_markLks l k ⟨(l.held,k),⟨⟨⟨rfl,rfl⟩,rfl,trivial⟩,⟨⟨rfl,rowsR _ _⟩,trivial⟩,h1,h4,by dsimp only;omega⟩,(l.waits,k+4*l.held.length),⟨⟨⟨rfl,rfl⟩,rfl,trivial⟩,⟨⟨rfl,rowsR _ _⟩,trivial⟩,h2,by dsimp only;omega,by dsimp only;omega⟩,⟨rfl,trivial⟩,⟨rfl,rowsR _ _⟩,⟨rfl,rowsR _ _⟩,trivial⟩
def k_heldLks:Con:=.rel ⟨Lks×Nat,fun x=>[.agg (mkLks x.1 x.2).ts,.int .i64 x.2],fun x=>.int .i64 (endL x.1 x.2),fun x=>KBl x.1 x.2⟩
noncomputable def b_heldLks:Code:=Tryz.f52.body.getD .skip
theorem call_heldLks:Callable Tryz.prog 52:=⟨_,Tryz.func52,by kernel_rfl,by kernel_rfl⟩
theorem v_heldLks(l:Lks)(k:Nat)(h:
  ∃(x:(Nat×Nat)),(((EqL lckRow (mkLck l.held.length k) (mkLck x.fst x.snd))/\(k:Int)=(x.snd:Int)/\True)/\KBn x.fst x.snd 4)/\(decide ((↑(x.snd+4*x.fst):Int)<(0:Int))=true->(-1:Int)=(↑(endL l k):Int))/\
  (decide ((↑(x.snd+4*x.fst):Int)<(0:Int))=false->∃(x_1:(Nat×Nat)),(((EqL wtRow (mkWt l.waits.length (k+4*l.held.length)) (mkWt x_1.fst x_1.snd))/\(↑(x.snd+4*x.fst):Int)=(x_1.snd:Int)/\True)/\KBn
  x_1.fst x_1.snd 2)/\(decide ((↑(x_1.snd+2*x_1.fst):Int)<(0:Int))=true->(-1:Int)=(↑(endL l k):Int))/\(decide ((↑(x_1.snd+2*x_1.fst):Int)<(0:Int))=false->(↑(x_1.snd+2*x_1.fst):Int)=(↑(endL l
  k):Int)))):
  PureFn Tryz.prog 52 [.agg (mkLks l k).ts,.int .i64 k] (.int .i64 (endL l k)):=
 vcR (code:=b_heldLks) (gC heldLckS_ok call_heldLckS (gC heldWtS_ok call_heldWtS gN)) Tryz.func52 (by kernel_rfl) (by kernel_rfl) noAnn h (by kernel_rfl)
theorem ngN(n:Nat)(h:decide ((n:Int)<0)=true){p:Prop}:p:=absurd (of_decide_eq_true h) (by omega)
theorem heldLks_ok:ConOk Tryz.prog 52 k_heldLks:=by
 rintro⟨l,k⟩ ⟨⟨h1,h2⟩,h4,h5⟩;dsimp only at h1 h2 h4 h5;exact v_heldLks l k ⟨(l.held.length,k),⟨⟨⟨rfl,rowsR _ _⟩,rfl,trivial⟩,h1,h4,by dsimp only;omega⟩,fun h=>ngN _ h,fun _=>⟨(l.waits.length,k+4*l.held.length),⟨⟨⟨rfl,rowsR _ _⟩,rfl,trivial⟩,h2,by dsimp only;omega,by dsimp only;omega⟩,fun h=>ngN _ h,fun _=>rfl⟩⟩
end Go.Proofs.YtokaojbaacnngaaGreat

namespace Go.Proofs.YtokaojbaacnngaaGreat
set_option maxRecDepth 100000
open Go.SS

def Eng.tm(e:Eng)(b:Nat):List T:=[.osl b 0 e.s.d.sec.length,.osl (b+1) 0 e.s.d.cache.length,.bool e.s.d.armed,.osl (b+2) 0 e.s.d.keep.length,.int .i64 e.s.ep,.osl (b+3) 0 e.s.log.length,.int .i64 e.s.sure,.osl (b+4) 0 e.s.fr.length,.int .i64 e.s.hand,.bool e.up,.osl (b+5) 0 e.txs.length,.osl (b+6) 0 e.lk.held.length,.osl (b+7) 0 e.lk.waits.length,.int .i64 e.next]
def Eng.hp(e:Eng)(v:Nat):Heap:=[strA e.s.d.sec,pendA e.s.d.cache,intA e.s.d.keep,recA e.s.log,famA v e.s.fr e.s.fr.length,txnA e.txs,lckA e.lk.held,wtA e.lk.waits]
abbrev EqFG(a b:Eng):Prop:=EqL strRow a.s.d.sec b.s.d.sec/\EqL pendRow a.s.d.cache b.s.d.cache/\a.s.d.armed=b.s.d.armed/\EqL intRow a.s.d.keep b.s.d.keep/\a.s.ep=b.s.ep/\EqL recRow a.s.log b.s.log/\a.s.sure=b.s.sure/\(a.s.fr.length=b.s.fr.length/\RowsEq a.s.fr.length (frzR (famRow a.s.fr)) (frmRow b.s.fr))/\a.s.hand=b.s.hand/\a.up=b.up/\EqL txnRow a.txs b.txs/\EqL lckRow a.lk.held b.lk.held/\EqL wtRow a.lk.waits b.lk.waits/\a.next=b.next/\True
abbrev EqCG(a b:Eng):Prop:=((0:Nat)=0/\a.s.d.sec.length=b.s.d.sec.length)/\((0:Nat)=0/\a.s.d.cache.length=b.s.d.cache.length)/\a.s.d.armed=b.s.d.armed/\((0:Nat)=0/\a.s.d.keep.length=b.s.d.keep.length)/\a.s.ep=b.s.ep/\((0:Nat)=0/\a.s.log.length=b.s.log.length)/\a.s.sure=b.s.sure/\((0:Nat)=0/\a.s.fr.length=b.s.fr.length)/\a.s.hand=b.s.hand/\a.up=b.up/\((0:Nat)=0/\a.txs.length=b.txs.length)/\((0:Nat)=0/\a.lk.held.length=b.lk.held.length)/\((0:Nat)=0/\a.lk.waits.length=b.lk.waits.length)/\a.next=b.next/\True
abbrev EqHG(v u:Nat)(a b:Eng):Prop:=EqL strRow a.s.d.sec b.s.d.sec/\EqL pendRow a.s.d.cache b.s.d.cache/\EqL intRow a.s.d.keep b.s.d.keep/\EqL recRow a.s.log b.s.log/\(v=u/\a.s.fr.length=b.s.fr.length/\FamEq a.s.fr.length (famRow a.s.fr) (famRow b.s.fr))/\EqL txnRow a.txs b.txs/\EqL lckRow a.lk.held b.lk.held/\EqL wtRow a.lk.waits b.lk.waits/\True
abbrev LeG(a:Eng):Prop:=Le (0+a.s.d.sec.length) a.s.d.sec.length/\Le (0+a.s.d.cache.length) a.s.d.cache.length/\Le (0+a.s.d.keep.length) a.s.d.keep.length/\Le (0+a.s.log.length) a.s.log.length/\Le (0+a.s.fr.length) a.s.fr.length/\Le (0+a.txs.length) a.txs.length/\Le (0+a.lk.held.length) a.lk.held.length/\Le (0+a.lk.waits.length) a.lk.waits.length
theorem plain_eng(e:Eng)(v:Nat):PlainH (e.hp v):=plain_app (H:=e.s.hp v) (plain_sto _ _) (plain_app (H:=[txnA e.txs]) (plain_Txn _) (plain_lks e.lk))
def k_clEng:Con:=.rmk ⟨Eng,fun e=>[.agg e.ts],fun _=>[],fun e=>.agg (e.tm 0),fun e=>e.hp 0,SmEng⟩
noncomputable def b_clEng:Code:=Tryz.f42.body.getD .skip
theorem call_clEng:Callable Tryz.prog 42:=⟨_,Tryz.func42,by kernel_rfl,by kernel_rfl⟩
theorem v_clEng(e:Eng)(h:
  ∃(x:Sto),(((EqS e.s x)/\True)/\SmS x)/\∃(x_1:(List Txn)),(((e.txs.length=List.length x_1/\RowsEq e.txs.length (txnRow e.txs) (txnRow x_1))/\True)/\List.length x_1<=1048576)/\∃(x_2:Lks),((((EqL lckRow
  e.lk.held x_2.held)/\(EqL wtRow e.lk.waits x_2.waits)/\True)/\True)/\SmLks x_2)/\(((0=0/\x.d.sec.length=e.s.d.sec.length)/\(0=0/\x.d.cache.length=e.s.d.cache.length)/\x.d.armed=e.s.d.armed/\(0=0/\
  x.d.keep.length=e.s.d.keep.length)/\x.ep=e.s.ep/\(0=0/\x.log.length=e.s.log.length)/\x.sure=e.s.sure/\(0=0/\x.fr.length=e.s.fr.length)/\x.hand=e.s.hand/\e.up=e.up/\(0=0/\List.length x_1=
  e.txs.length)/\(0=0/\x_2.held.length=e.lk.held.length)/\(0=0/\x_2.waits.length=e.lk.waits.length)/\e.next=e.next/\True)/\True)/\(EqL strRow x.d.sec e.s.d.sec)/\(EqL pendRow x.d.cache e.s.d.cache)/\(EqL intRow
  x.d.keep e.s.d.keep)/\(EqL recRow x.log e.s.log)/\(0=0/\x.fr.length=e.s.fr.length/\FamEq x.fr.length (famRow x.fr) (famRow e.s.fr))/\(List.length x_1=e.txs.length/\RowsEq (List.length x_1) (txnRow x_1) (txnRow e.txs))
  /\(EqL lckRow x_2.held e.lk.held)/\(EqL wtRow x_2.waits e.lk.waits)/\True):
  EffFn Tryz.prog 42 [.agg e.ts] [] (.agg (e.tm 0)) (e.hp 0):=
 vcG (code:=b_clEng) (gC clSto_ok call_clSto (gC clTxn_ok call_clTxn (gC clLks_ok call_clLks gN))) Tryz.func42 (by kernel_rfl) (by kernel_rfl) noAnn [[.arr 2,.arr 3,.arr 4,.arr 5,.arr 6,.arr 7,.arr 8,.arr 9]] h (by kernel_rfl)
theorem clEng_ok:ConOk Tryz.prog 42 k_clEng:=by
 rintro(e:Eng) ⟨h1,h2,h3⟩;exact⟨v_clEng e ⟨e.s,⟨⟨(eqS _),trivial⟩,h1⟩,e.txs,⟨⟨⟨rfl,rowsR _ _⟩,trivial⟩,h2⟩,e.lk,⟨⟨⟨⟨rfl,rowsR _ _⟩,⟨rfl,rowsR _ _⟩,trivial⟩,trivial⟩,h3⟩,⟨⟨⟨rfl,rfl⟩,⟨rfl,rfl⟩,rfl,⟨rfl,rfl⟩,rfl,⟨rfl,rfl⟩,rfl,⟨rfl,rfl⟩,rfl,rfl,⟨rfl,rfl⟩,⟨rfl,rfl⟩,⟨rfl,rfl⟩,rfl,trivial⟩,trivial⟩,⟨rfl,rowsR _ _⟩,⟨rfl,rowsR _ _⟩,⟨rfl,rowsR _ _⟩,⟨rfl,rowsR _ _⟩,⟨rfl,rfl,famR _⟩,⟨rfl,rowsR _ _⟩,⟨rfl,rowsR _ _⟩,⟨rfl,rowsR _ _⟩,trivial⟩,rfl,plain_eng e 0⟩
def k_l07Own:Con:=.rel ⟨Eng,fun e=>[.agg e.ts],fun e=>.agg e.ts,SmEng⟩
noncomputable def b_l07Own:Code:=Tryz.f37.body.getD .skip
theorem call_l07Own:Callable Tryz.prog 37:=⟨_,Tryz.func37,by kernel_rfl,by kernel_rfl⟩
theorem v_l07Own(e:Eng)(h:
  ∃(x:Sto),(((EqS e.s x)/\True)/\SmS x)/\(Le 0 0/\AppB 0 e.txs.length 16)/\∃(x_1:Lks),((((EqL lckRow e.lk.held x_1.held)/\(EqL wtRow e.lk.waits x_1.waits)/\True)/\True)/\SmLks x_1)/\(Le (0+x.d.sec.length)
  x.d.sec.length/\Le (0+x.d.cache.length) x.d.cache.length/\Le (0+x.d.keep.length) x.d.keep.length/\Le (0+x.log.length) x.log.length/\Le (0+x.fr.length) x.fr.length/\Le (0+(0+e.txs.length)) (0+e.txs.length))/\
  (EqL strRow x.d.sec e.s.d.sec)/\(EqL pendRow x.d.cache e.s.d.cache)/\x.d.armed=e.s.d.armed/\(EqL intRow x.d.keep e.s.d.keep)/\x.ep=e.s.ep/\(EqL recRow x.log e.s.log)/\x.sure=e.s.sure/\(x.fr.length=e.s.fr.length/\
  RowsEq x.fr.length (frzR (famRow x.fr)) (frmRow e.s.fr))/\x.hand=e.s.hand/\e.up=e.up/\(0+e.txs.length=e.txs.length/\RowsEq (0+e.txs.length) (appRow (fun(k:Nat)=>List.take 2 (List.drop (k*2) [])) 0 (txnRow
  e.txs)) (txnRow e.txs))/\(EqL lckRow x_1.held e.lk.held)/\(EqL wtRow x_1.waits e.lk.waits)/\e.next=e.next/\True):
  PureFn Tryz.prog 37 [.agg e.ts] (.agg e.ts):=
 vcR (code:=b_l07Own) (gC l05Own_ok call_l05Own (gC l06Own_ok call_l06Own gN)) Tryz.func37 (by kernel_rfl) (by kernel_rfl) noAnn h (by kernel_rfl)
theorem l07Own_ok:ConOk Tryz.prog 37 k_l07Own:=by
 rintro(e:Eng) ⟨h1,h2,h3⟩;exact v_l07Own e ⟨e.s,⟨⟨(eqS _),trivial⟩,h1⟩,⟨Nat.le_refl _,by unfold AppB;omega⟩,e.lk,⟨⟨⟨⟨rfl,rowsR _ _⟩,⟨rfl,rowsR _ _⟩,trivial⟩,trivial⟩,h3⟩,⟨le0 _,le0 _,le0 _,le0 _,le0 _,by unfold Le;omega⟩,⟨rfl,rowsR _ _⟩,⟨rfl,rowsR _ _⟩,rfl,⟨rfl,rowsR _ _⟩,rfl,⟨rfl,rowsR _ _⟩,rfl,⟨rfl,fun _ _=>rfl⟩,rfl,rfl,⟨by omega,app_nil⟩,⟨rfl,rowsR _ _⟩,⟨rfl,rowsR _ _⟩,rfl,trivial⟩
def k_moEng:Con:=.rmk ⟨Eng,fun e=>[.agg e.ts],fun _=>[],fun e=>.agg (e.tm 0),fun e=>e.hp e.s.fr.length,SmEng⟩
noncomputable def b_moEng:Code:=Tryz.f12.body.getD .skip
theorem call_moEng:Callable Tryz.prog 12:=⟨_,Tryz.func12,by kernel_rfl,by kernel_rfl⟩
theorem v_moEng(e:Eng)(h:
  ∃(x:Sto),(((EqS e.s x)/\True)/\SmS x)/\∃(x_1:(List Txn)),(((e.txs.length=List.length x_1/\RowsEq e.txs.length (txnRow e.txs) (txnRow x_1))/\True)/\List.length x_1<=1048576)/\∃(x_2:Lks),((((EqL lckRow
  e.lk.held x_2.held)/\(EqL wtRow e.lk.waits x_2.waits)/\True)/\True)/\SmLks x_2)/\(((0=0/\x.d.sec.length=e.s.d.sec.length)/\(0=0/\x.d.cache.length=e.s.d.cache.length)/\x.d.armed=e.s.d.armed/\(0=0/\
  x.d.keep.length=e.s.d.keep.length)/\x.ep=e.s.ep/\(0=0/\x.log.length=e.s.log.length)/\x.sure=e.s.sure/\(0=0/\x.fr.length=e.s.fr.length)/\x.hand=e.s.hand/\e.up=e.up/\(0=0/\List.length x_1=
  e.txs.length)/\(0=0/\x_2.held.length=e.lk.held.length)/\(0=0/\x_2.waits.length=e.lk.waits.length)/\e.next=e.next/\True)/\True)/\(EqL strRow x.d.sec e.s.d.sec)/\(EqL pendRow x.d.cache e.s.d.cache)/\(EqL intRow
  x.d.keep e.s.d.keep)/\(EqL recRow x.log e.s.log)/\(x.fr.length=e.s.fr.length/\x.fr.length=e.s.fr.length/\FamEq x.fr.length (famRow x.fr) (famRow e.s.fr))/\(List.length x_1=e.txs.length/\RowsEq (List.length x_1) (txnRow
  x_1) (txnRow e.txs))/\(EqL lckRow x_2.held e.lk.held)/\(EqL wtRow x_2.waits e.lk.waits)/\True):
  EffFn Tryz.prog 12 [.agg e.ts] [] (.agg (e.tm 0)) (e.hp e.s.fr.length):=
 vcG (code:=b_moEng) (gC moSto_ok call_moSto (gC moTxnS_ok call_moTxnS (gC moLks_ok call_moLks gN))) Tryz.func12 (by kernel_rfl) (by kernel_rfl) noAnn [[.arr 3,.arr 4,.arr 5,.arr 6,.arr 7,.arr 8,.arr 9,.arr 10]] h (by kernel_rfl)
theorem moEng_ok:ConOk Tryz.prog 12 k_moEng:=by
 rintro(e:Eng) ⟨h1,h2,h3⟩;exact⟨v_moEng e ⟨e.s,⟨⟨(eqS _),trivial⟩,h1⟩,e.txs,⟨⟨⟨rfl,rowsR _ _⟩,trivial⟩,h2⟩,e.lk,⟨⟨⟨⟨rfl,rowsR _ _⟩,⟨rfl,rowsR _ _⟩,trivial⟩,trivial⟩,h3⟩,⟨⟨⟨rfl,rfl⟩,⟨rfl,rfl⟩,rfl,⟨rfl,rfl⟩,rfl,⟨rfl,rfl⟩,rfl,⟨rfl,rfl⟩,rfl,rfl,⟨rfl,rfl⟩,⟨rfl,rfl⟩,⟨rfl,rfl⟩,rfl,trivial⟩,trivial⟩,⟨rfl,rowsR _ _⟩,⟨rfl,rowsR _ _⟩,⟨rfl,rowsR _ _⟩,⟨rfl,rowsR _ _⟩,⟨rfl,rfl,famR _⟩,⟨rfl,rowsR _ _⟩,⟨rfl,rowsR _ _⟩,⟨rfl,rowsR _ _⟩,trivial⟩,rfl,plain_eng e _⟩
def mkEn(e:Eng)(k:Nat):Eng:={e with s:=mkSt e.s k,txs:=mkTxn e.txs.length (endS e.s k),lk:=mkLks e.lk (endS e.s k+2*e.txs.length)}
def endG(e:Eng)(k:Nat):Nat:=endL e.lk (endS e.s k+2*e.txs.length)
def KBg(e:Eng)(k:Nat):Prop:=SmEng e/\1<=k/\k<=100000000
theorem endS_le{s:Sto}{k:Nat}(h:KBs s k):1<=endS s k/\endS s k<=5000000000000:=by
 obtain⟨⟨h1,h2,h3,h4⟩,h6,h7⟩:=h;have hd:endD s.d k<=110000000:=by unfold endD;obtain⟨a1,a2,a3⟩:=h1;omega
 have hd1:1<=endD s.d k:=by unfold endD;omega
 have hp:=posF_le (lnOf s.fr) (endD s.d k+10*s.log.length) (n:=s.fr.length) h4;have hq:endD s.d k+10*s.log.length<=posF (lnOf s.fr) (endD s.d k+10*s.log.length) s.fr.length:=posF_mono (lnOf s.fr) (endD s.d k+10*s.log.length) (i:=0) (Nat.zero_le _);unfold endS;omega
theorem endG_le{e:Eng}{k:Nat}(h:KBg e k):1<=endG e k/\endG e k<=6000000000000:=by
 obtain⟨⟨h1,h2,h3,h4⟩,h6,h7⟩:=h;obtain⟨g1,g2⟩:=endS_le (s:=e.s) ⟨h1,h6,h7⟩;unfold endG endL;omega
def k_markEng:Con:=.reff ⟨Eng×Nat×Nat,fun x=>[.agg (x.1.tm 0),.int .i64 x.2.1],fun x=>x.1.hp x.2.2,fun x=>.int .i64 (endG x.1 x.2.1),fun x=>(mkEn x.1 x.2.1).hp x.2.2,fun x=>KBg x.1 x.2.1⟩
noncomputable def b_markEng:Code:=Tryz.f17.body.getD .skip
theorem call_markEng:Callable Tryz.prog 17:=⟨_,Tryz.func17,by kernel_rfl,by kernel_rfl⟩
theorem v_markEng(e:Eng)(k v:Nat)(h:
  ∃(x:(Sto×Nat×Nat)),((((0=0/\e.s.d.sec.length=x.fst.d.sec.length)/\(0=0/\e.s.d.cache.length=x.fst.d.cache.length)/\e.s.d.armed=x.fst.d.armed/\(0=0/\e.s.d.keep.length=x.fst.d.keep.length)/\e.s.ep=
  x.fst.ep/\(0=0/\e.s.log.length=x.fst.log.length)/\e.s.sure=x.fst.sure/\(0=0/\e.s.fr.length=x.fst.fr.length)/\e.s.hand=x.fst.hand/\True)/\(k:Int)=(x.snd.fst:Int)/\True)/\((EqL strRow e.s.d.sec x.fst.d.sec)/\
  (EqL pendRow e.s.d.cache x.fst.d.cache)/\(EqL intRow e.s.d.keep x.fst.d.keep)/\(EqL recRow e.s.log x.fst.log)/\(v=x.snd.snd/\e.s.fr.length=x.fst.fr.length/\FamEq e.s.fr.length (famRow e.s.fr) (famRow x.fst.fr))/\True)/\
  KBs x.fst x.snd.fst)/\∃(x_1:(List Txn×Nat)),(((0=0/\e.txs.length=x_1.fst.length)/\(↑(endS x.fst x.snd.fst):Int)=(x_1.snd:Int)/\True)/\((EqL txnRow e.txs x_1.fst)/\True)/\KBn x_1.fst.length x_1.snd 2)/\∃(x_2
  :(Lks×Nat)),((((0=0/\e.lk.held.length=x_2.fst.held.length)/\(0=0/\e.lk.waits.length=x_2.fst.waits.length)/\True)/\(↑(x_1.snd+2*x_1.fst.length):Int)=(x_2.snd:Int)/\True)/\((EqL lckRow e.lk.held
  x_2.fst.held)/\(EqL wtRow e.lk.waits x_2.fst.waits)/\True)/\KBl x_2.fst x_2.snd)/\((↑(endL x_2.fst x_2.snd):Int)=(↑(endG e k):Int)/\True)/\(EqL strRow (mkS x.fst.d.sec.length x.snd.fst) (mkS e.s.d.sec.length k))/\(EqL
  pendRow (mkP x.fst.d.cache.length (x.snd.fst+x.fst.d.sec.length)) (mkP e.s.d.cache.length (k+e.s.d.sec.length)))/\(EqL intRow (mkI x.fst.d.keep.length (x.snd.fst+x.fst.d.sec.length+2*x.fst.d.cache.length)) (mkI
  e.s.d.keep.length (k+e.s.d.sec.length+2*e.s.d.cache.length)))/\(EqL recRow (mkR x.fst.log.length (endD x.fst.d x.snd.fst)) (mkR e.s.log.length (endD e.s.d k)))/\(x.snd.snd=v/\(mkF x.fst.fr.length (lnOf x.fst.fr) (endD
  x.fst.d x.snd.fst+10*x.fst.log.length)).length=(mkF e.s.fr.length (lnOf e.s.fr) (endD e.s.d k+10*e.s.log.length)).length/\FamEq (mkF x.fst.fr.length (lnOf x.fst.fr) (endD x.fst.d x.snd.fst+10*
  x.fst.log.length)).length (famRow (mkF x.fst.fr.length (lnOf x.fst.fr) (endD x.fst.d x.snd.fst+10*x.fst.log.length))) (famRow (mkF e.s.fr.length (lnOf e.s.fr) (endD e.s.d k+10*e.s.log.length))))/\(EqL txnRow (mkTxn
  x_1.fst.length x_1.snd) (mkTxn e.txs.length (endS e.s k)))/\(EqL lckRow (mkLck x_2.fst.held.length x_2.snd) (mkLck e.lk.held.length (endS e.s k+2*e.txs.length)))/\(EqL wtRow (mkWt x_2.fst.waits.length (x_2.snd+4*
  x_2.fst.held.length)) (mkWt e.lk.waits.length (endS e.s k+2*e.txs.length+4*e.lk.held.length)))/\True):
  EffFn Tryz.prog 17 [.agg (e.tm 0),.int .i64 k] (e.hp v) (.int .i64 (endG e k)) ((mkEn e k).hp v):=
 vcG (code:=b_markEng) (gC markSto_ok call_markSto (gC markTxnS_ok call_markTxnS (gC markLks_ok call_markLks gN))) Tryz.func17 (by kernel_rfl) (by kernel_rfl) noAnn [[.arr 0,.arr 1,.arr 2,.arr 3,.arr 4,.arr 5,.arr 6,.arr 7]] h (by kernel_rfl)
theorem markEng_ok:ConOk Tryz.prog 17 k_markEng:=by
 rintro⟨e,k,v⟩ ⟨⟨h1,h2,h3⟩,h6,h7⟩;dsimp only at h1 h2 h3 h6 h7;have hk:KBs e.s k:=⟨h1,h6,h7⟩;obtain⟨g1,g2⟩:=endS_le hk;exact v_markEng e k v ⟨(e.s,k,v),⟨⟨⟨⟨rfl,rfl⟩,⟨rfl,rfl⟩,rfl,⟨rfl,rfl⟩,rfl,⟨rfl,rfl⟩,rfl,⟨rfl,rfl⟩,rfl,trivial⟩,rfl,trivial⟩,⟨⟨rfl,rowsR _ _⟩,⟨rfl,rowsR _ _⟩,⟨rfl,rowsR _ _⟩,⟨rfl,rowsR _ _⟩,⟨rfl,rfl,famR _⟩,trivial⟩,hk⟩,(e.txs,endS e.s k),⟨⟨⟨rfl,rfl⟩,rfl,trivial⟩,⟨⟨rfl,rowsR _ _⟩,trivial⟩,h2,g1,by dsimp only;omega⟩,(e.lk,endS e.s k+2*e.txs.length),⟨⟨⟨⟨rfl,rfl⟩,⟨rfl,rfl⟩,trivial⟩,rfl,trivial⟩,⟨⟨rfl,rowsR _ _⟩,⟨rfl,rowsR _ _⟩,trivial⟩,h3,by dsimp only;omega,by dsimp only;omega⟩,⟨rfl,trivial⟩,⟨rfl,rowsR _ _⟩,⟨rfl,rowsR _ _⟩,⟨rfl,rowsR _ _⟩,⟨rfl,rowsR _ _⟩,⟨rfl,rfl,famR _⟩,⟨rfl,rowsR _ _⟩,⟨rfl,rowsR _ _⟩,⟨rfl,rowsR _ _⟩,trivial⟩
def k_heldEng:Con:=.rel ⟨Eng×Nat,fun x=>[.agg (mkEn x.1 x.2).ts,.int .i64 x.2],fun x=>.int .i64 (endG x.1 x.2),fun x=>KBg x.1 x.2⟩
noncomputable def b_heldEng:Code:=Tryz.f19.body.getD .skip
theorem call_heldEng:Callable Tryz.prog 19:=⟨_,Tryz.func19,by kernel_rfl,by kernel_rfl⟩
theorem v_heldEng(e:Eng)(k:Nat)(h:
  ∃(x:(Sto×Nat)),((((EqL strRow (mkS e.s.d.sec.length k) (mkS x.fst.d.sec.length x.snd))/\(EqL pendRow (mkP e.s.d.cache.length (k+e.s.d.sec.length)) (mkP x.fst.d.cache.length (x.snd+x.fst.d.sec.length)))/\e.s.d.armed=
  x.fst.d.armed/\(EqL intRow (mkI e.s.d.keep.length (k+e.s.d.sec.length+2*e.s.d.cache.length)) (mkI x.fst.d.keep.length (x.snd+x.fst.d.sec.length+2*x.fst.d.cache.length)))/\e.s.ep=x.fst.ep/\(EqL recRow (mkR
  e.s.log.length (endD e.s.d k)) (mkR x.fst.log.length (endD x.fst.d x.snd)))/\e.s.sure=x.fst.sure/\(EqL frmRow (mkF e.s.fr.length (lnOf e.s.fr) (endD e.s.d k+10*e.s.log.length)) (mkF x.fst.fr.length (lnOf x.fst.fr) (endD
  x.fst.d x.snd+10*x.fst.log.length)))/\e.s.hand=x.fst.hand/\True)/\(k:Int)=(x.snd:Int)/\True)/\KBs x.fst x.snd)/\(decide ((↑(endS x.fst x.snd):Int)<(0:Int))=true->(-1:Int)=(↑(endG e k):Int))/\(decide
  ((↑(endS x.fst x.snd):Int)<(0:Int))=false->∃(x_1:(Nat×Nat)),(((EqL txnRow (mkTxn e.txs.length (endS e.s k)) (mkTxn x_1.fst x_1.snd))/\(↑(endS x.fst x.snd):Int)=(x_1.snd:Int)/\True)/\KBn x_1.fst x_1.snd 2)/\
  (decide ((↑(x_1.snd+2*x_1.fst):Int)<(0:Int))=true->(-1:Int)=(↑(endG e k):Int))/\(decide ((↑(x_1.snd+2*x_1.fst):Int)<(0:Int))=false->∃(x:(Lks×Nat)),((((EqL lckRow (mkLck e.lk.held.length (endS
  e.s k+2*e.txs.length)) (mkLck x.fst.held.length x.snd))/\(EqL wtRow (mkWt e.lk.waits.length (endS e.s k+2*e.txs.length+4*e.lk.held.length)) (mkWt x.fst.waits.length (x.snd+4*x.fst.held.length)))/\True)/\
  (↑(x_1.snd+2*x_1.fst):Int)=(x.snd:Int)/\True)/\KBl x.fst x.snd)/\(decide ((↑(endL x.fst x.snd):Int)<(0:Int))=true->(-1:Int)=(↑(endG e k):Int))/\(decide ((↑(endL x.fst x.snd):Int)<(0:Int))=false->
  (↑(endL x.fst x.snd):Int)=(↑(endG e k):Int))))):
  PureFn Tryz.prog 19 [.agg (mkEn e k).ts,.int .i64 k] (.int .i64 (endG e k)):=
 vcR (code:=b_heldEng) (gC heldSto_ok call_heldSto (gC heldTxnS_ok call_heldTxnS (gC heldLks_ok call_heldLks gN))) Tryz.func19 (by kernel_rfl) (by kernel_rfl) noAnn h (by kernel_rfl)
theorem heldEng_ok:ConOk Tryz.prog 19 k_heldEng:=by
 rintro⟨e,k⟩ ⟨⟨h1,h2,h3⟩,h6,h7⟩;dsimp only at h1 h2 h3 h6 h7;have hk:KBs e.s k:=⟨h1,h6,h7⟩;obtain⟨g1,g2⟩:=endS_le hk;exact v_heldEng e k ⟨(e.s,k),⟨⟨⟨⟨rfl,rowsR _ _⟩,⟨rfl,rowsR _ _⟩,rfl,⟨rfl,rowsR _ _⟩,rfl,⟨rfl,rowsR _ _⟩,rfl,⟨rfl,rowsR _ _⟩,rfl,trivial⟩,rfl,trivial⟩,hk⟩,fun h=>ngN _ h,fun _=>⟨(e.txs.length,endS e.s k),⟨⟨⟨rfl,rowsR _ _⟩,rfl,trivial⟩,h2,g1,by dsimp only;omega⟩,fun h=>ngN _ h,fun _=>⟨(e.lk,endS e.s k+2*e.txs.length),⟨⟨⟨⟨rfl,rowsR _ _⟩,⟨rfl,rowsR _ _⟩,trivial⟩,rfl,trivial⟩,h3,by dsimp only;omega,by dsimp only;omega⟩,fun h=>ngN _ h,fun _=>rfl⟩⟩⟩
end Go.Proofs.YtokaojbaacnngaaGreat

