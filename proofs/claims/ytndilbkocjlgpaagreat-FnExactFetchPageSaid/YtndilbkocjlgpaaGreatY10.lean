/- A part of the proof. -/
import Derived.Test.YtndilbkocjlgpaaGreatY6Y7
import Derived.Test.YtndilbkocjlgpaaGreatX4
import Derived.Test.YtndilbkocjlgpaaGreatX7
import Derived.Test.YtndilbkocjlgpaaGreatX8
namespace Go.Proofs.YtndilbkocjlgpaaGreat
set_option maxRecDepth 100000
open Go.SS

def k_markPg : Con := .reff ⟨Pg × Nat, fun x => [.agg (x.1.tm 0), .int .i64 x.2], fun x => [strA x.1.sl], fun x => .int .i64 (x.2 + x.1.sl.length : Nat), fun x => [strA (mkS x.1.sl.length x.2)], fun x => KBn x.1.sl.length x.2 1⟩
noncomputable def b_markPg : Code := Tryz.f41.body.getD .skip
theorem call_markPg : Callable Tryz.prog 41 := ⟨_, Tryz.func41, by kernel_rfl, by kernel_rfl⟩
theorem v_markPg (p : Pg) (k : Nat) (h :
    ∃ (x : (List (List UInt8) × Nat)), (((0 = 0 /\ p.sl.length = x.fst.length) /\ (k:Int) = (x.snd:Int) /\ True) /\ ((EqL strRow p.sl x.fst) /\ True) /\ KBn x.fst.length x.snd 1) /\ ((↑(x.snd + x.fst.length) : Int) = (↑(k + p.sl.length) :
    Int) /\ True) /\ (EqL strRow (mkS x.fst.length x.snd) (mkS p.sl.length k)) /\ True) :
    EffFn Tryz.prog 41 [.agg (p.tm 0), .int .i64 k] [strA p.sl] (.int .i64 (k + p.sl.length : Nat)) [strA (mkS p.sl.length k)] :=
  vcG (code := b_markPg) (gC markStrS_ok call_markStrS gN) Tryz.func41 (by kernel_rfl) (by kernel_rfl) noAnn [[.arr 0]] h (by kernel_rfl)
theorem markPg_ok : ConOk Tryz.prog 41 k_markPg := by
  rintro ⟨p, k⟩ h; exact v_markPg p k ⟨(p.sl, k), ⟨(by repeat' first | exact trivial | exact rfl | exact rowsR _ _ | exact famR _ | exact row0 | exact le0 _ | exact Nat.le_refl _ | exact Nat.zero_le _ | refine And.intro ?_ ?_), (by repeat' first | exact trivial | exact rfl | exact rowsR _ _ | exact famR _ | exact row0 | exact le0 _ | exact Nat.le_refl _ | exact Nat.zero_le _ | refine And.intro ?_ ?_), h⟩, ⟨rfl, trivial⟩, (by repeat' first | exact trivial | exact rfl | exact rowsR _ _ | exact famR _ | exact row0 | exact le0 _ | exact Nat.le_refl _ | exact Nat.zero_le _ | refine And.intro ?_ ?_)⟩
def k_heldPg : Con := .rel ⟨Int × Nat × Nat, fun x => [.agg (Pg.ts ⟨x.1, mkS x.2.1 x.2.2⟩), .int .i64 x.2.2], fun x => .int .i64 (x.2.2 + x.2.1 : Nat), fun x => KBn x.2.1 x.2.2 1⟩
noncomputable def b_heldPg : Code := Tryz.f42.body.getD .skip
theorem call_heldPg : Callable Tryz.prog 42 := ⟨_, Tryz.func42, by kernel_rfl, by kernel_rfl⟩
theorem v_heldPg (l : Int) (n k : Nat) (h :
    ∃ (x : (Nat × Nat)), (((EqL strRow (mkS n k) (mkS x.fst x.snd)) /\ (k:Int) = (x.snd:Int) /\ True) /\ KBn x.fst x.snd 1) /\ (decide ((↑(x.snd + x.fst) : Int) < (0 : Int)) = true -> (-1 : Int) = (↑(k + n) : Int)) /\ (decide ((↑(x.snd +
    x.fst) : Int) < (0 : Int)) = false -> (↑(x.snd + x.fst) : Int) = (↑(k + n) : Int))) :
    PureFn Tryz.prog 42 [.agg (Pg.ts ⟨l, mkS n k⟩), .int .i64 k] (.int .i64 (k + n : Nat)) :=
  vcR (code := b_heldPg) (gC heldStrS_ok call_heldStrS gN) Tryz.func42 (by kernel_rfl) (by kernel_rfl) noAnn h (by kernel_rfl)
theorem heldPg_ok : ConOk Tryz.prog 42 k_heldPg := by
  rintro ⟨l, n, k⟩ h; exact v_heldPg l n k ⟨(n, k), ⟨(by repeat' first | exact trivial | exact rfl | exact rowsR _ _ | exact famR _ | exact row0 | exact le0 _ | exact Nat.le_refl _ | exact Nat.zero_le _ | refine And.intro ?_ ?_), h⟩, fun he => absurd (of_decide_eq_true he) (by omega), fun _ => rfl⟩
noncomputable def b_LawP : Code := Tryz.f9.body.getD .skip
theorem v_LawP (s : Sto) (no : Int) (h :
    ∃ (x : r_szSto.ι), (((EqS s x.fst) /\ (1048576 : Int) = x.snd /\ True) /\ Left x.snd /\ LmS x.fst) /\ (decide (rem x.snd (bulkS x.fst) < (0 : Int)) = true -> true = true) /\ (decide (rem x.snd (bulkS x.fst) < (0 : Int)) = false -> ∃ (x :
    Sto), (((EqS s x) /\ True) /\ SmS x) /\ ∃ (x_1 : r_FetchPage.ι), ((LeS x) /\ ((EqF x x_1.fst) /\ no = x_1.snd /\ True) /\ StoB x_1.fst /\ SmS x_1.fst) /\ ∃ (x : Sto), (((EqS s x) /\ True) /\ SmS x) /\ ∃ (x_2 : r_FetchPage.ι), ((LeS x) /\ ((EqF
    x x_2.fst) /\ no = x_2.snd /\ True) /\ StoB x_2.fst /\ SmS x_2.fst) /\ ∃ (x_3 : r_eqSto.ι), (((LeS (fetPage x_2.fst x_2.snd).fst) /\ LeS (fetPage x_1.fst x_1.snd).fst) /\ ((EqF (fetPage x_2.fst x_2.snd).fst x_3) /\ (EqF (fetPage x_1.fst
    x_1.snd).fst x_3) /\ True) /\ SmS x_3) /\ ∃ (x_4 : r_eqPg.ι), (false = false -> (Le (0 + (fetPage x_2.fst x_2.snd).snd.fst.sl.length) (fetPage x_2.fst x_2.snd).snd.fst.sl.length /\ Le (0 + (fetPage x_1.fst x_1.snd).snd.fst.sl.length)
    (fetPage x_1.fst x_1.snd).snd.fst.sl.length) /\ (((fetPage x_2.fst x_2.snd).snd.fst.lsn = x_4.lsn /\ (EqL strRow (fetPage x_2.fst x_2.snd).snd.fst.sl x_4.sl) /\ True) /\ ((fetPage x_1.fst x_1.snd).snd.fst.lsn = x_4.lsn /\ (EqL strRow
    (fetPage x_1.fst x_1.snd).snd.fst.sl x_4.sl) /\ True) /\ True) /\ SmG x_4) /\ ((false || !(fetPage x_2.fst x_2.snd).snd.snd.fst == (fetPage x_1.fst x_1.snd).snd.snd.fst || (fetPage x_2.fst x_2.snd).snd.snd.snd != (fetPage x_1.fst
    x_1.snd).snd.snd.snd) = true -> false = true) /\ ((false || !(fetPage x_2.fst x_2.snd).snd.snd.fst == (fetPage x_1.fst x_1.snd).snd.snd.fst || (fetPage x_2.fst x_2.snd).snd.snd.snd != (fetPage x_1.fst x_1.snd).snd.snd.snd) = false ->
    ∃ (x_5 : Sto), (((EqS s x_5) /\ True) /\ SmS x_5) /\ ∃ (x_6 : r_eqSto.ι), (((LeS x) /\ LeS x_5) /\ ((EqF x x_6) /\ (EqF x_5 x_6) /\ True) /\ SmS x_6) /\ (false = true -> false = true) /\ (false = false -> ∃ (x_7 : (Sto × Nat × Nat)), (((EqC x
    x_7.fst) /\ (1 : Int) = (x_7.snd.fst:Int) /\ True) /\ (EqH (x.fr.length) (x_7.snd.snd) x x_7.fst) /\ KBs x_7.fst x_7.snd.fst) /\ ∃ (x : r_eqSto.ι), (decide ((↑(endS x_7.fst x_7.snd.fst) : Int) < (0 : Int)) = false -> ((LeS (fetPage
    x_2.fst x_2.snd).fst) /\ LeS (fetPage x_1.fst x_1.snd).fst) /\ ((EqF (fetPage x_2.fst x_2.snd).fst x) /\ (EqF (fetPage x_1.fst x_1.snd).fst x) /\ True) /\ SmS x) /\ ∃ (x : r_eqPg.ι), ((decide ((↑(endS x_7.fst x_7.snd.fst) : Int) < (0 :
    Int)) || false) = false -> (Le (0 + (fetPage x_2.fst x_2.snd).snd.fst.sl.length) (fetPage x_2.fst x_2.snd).snd.fst.sl.length /\ Le (0 + (fetPage x_1.fst x_1.snd).snd.fst.sl.length) (fetPage x_1.fst x_1.snd).snd.fst.sl.length) /\
    (((fetPage x_2.fst x_2.snd).snd.fst.lsn = x.lsn /\ (EqL strRow (fetPage x_2.fst x_2.snd).snd.fst.sl x.sl) /\ True) /\ ((fetPage x_1.fst x_1.snd).snd.fst.lsn = x.lsn /\ (EqL strRow (fetPage x_1.fst x_1.snd).snd.fst.sl x.sl) /\ True) /\
    True) /\ SmG x) /\ ((decide ((↑(endS x_7.fst x_7.snd.fst) : Int) < (0 : Int)) || false || false || !(fetPage x_2.fst x_2.snd).snd.snd.fst == (fetPage x_1.fst x_1.snd).snd.snd.fst || (fetPage x_2.fst x_2.snd).snd.snd.snd != (fetPage
    x_1.fst x_1.snd).snd.snd.snd) = true -> false = true) /\ ((decide ((↑(endS x_7.fst x_7.snd.fst) : Int) < (0 : Int)) || false || false || !(fetPage x_2.fst x_2.snd).snd.snd.fst == (fetPage x_1.fst x_1.snd).snd.snd.fst || (fetPage
    x_2.fst x_2.snd).snd.snd.snd != (fetPage x_1.fst x_1.snd).snd.snd.snd) = false -> ∃ (x : (Sto × Nat × Nat)), (((EqC (fetPage x_2.fst x_2.snd).fst x.fst) /\ (1 : Int) = (x.snd.fst:Int) /\ True) /\ (EqH (0) (x.snd.snd) (fetPage x_2.fst
    x_2.snd).fst x.fst) /\ KBs x.fst x.snd.fst) /\ ∃ (x_8 : (Pg × Nat)), ((((fetPage x_2.fst x_2.snd).snd.fst.lsn = x_8.fst.lsn /\ (0 = 0 /\ (fetPage x_2.fst x_2.snd).snd.fst.sl.length = x_8.fst.sl.length) /\ True) /\ (↑(endS x.fst
    x.snd.fst) : Int) = (x_8.snd:Int) /\ True) /\ ((EqL strRow (fetPage x_2.fst x_2.snd).snd.fst.sl x_8.fst.sl) /\ True) /\ KBn x_8.fst.sl.length x_8.snd 1) /\ ∃ (x_9 : (Sto × Nat)), ((Le (0 + (fetPage x_2.fst x_2.snd).fst.d.sec.length)
    (mkS x.fst.d.sec.length x.snd.fst).length /\ Le (0 + (fetPage x_2.fst x_2.snd).fst.d.cache.length) (mkP x.fst.d.cache.length (x.snd.fst + x.fst.d.sec.length)).length /\ Le (0 + (fetPage x_2.fst x_2.snd).fst.d.keep.length) (mkI
    x.fst.d.keep.length (x.snd.fst + x.fst.d.sec.length + 2 * x.fst.d.cache.length)).length /\ Le (0 + (fetPage x_2.fst x_2.snd).fst.log.length) (mkR x.fst.log.length (endD x.fst.d x.snd.fst)).length /\ Le (0 + (fetPage x_2.fst
    x_2.snd).fst.fr.length) (mkF x.fst.fr.length (lnOf x.fst.fr) (endD x.fst.d x.snd.fst + 10 * x.fst.log.length)).length) /\ ((((fetPage x_2.fst x_2.snd).fst.d.sec.length = (mkS x_9.fst.d.sec.length x_9.snd).length /\ RowsEq (fetPage
    x_2.fst x_2.snd).fst.d.sec.length (strRow (mkS x.fst.d.sec.length x.snd.fst)) (strRow (mkS x_9.fst.d.sec.length x_9.snd))) /\ ((fetPage x_2.fst x_2.snd).fst.d.cache.length = (mkP x_9.fst.d.cache.length (x_9.snd +
    x_9.fst.d.sec.length)).length /\ RowsEq (fetPage x_2.fst x_2.snd).fst.d.cache.length (pendRow (mkP x.fst.d.cache.length (x.snd.fst + x.fst.d.sec.length))) (pendRow (mkP x_9.fst.d.cache.length (x_9.snd + x_9.fst.d.sec.length)))) /\
    (fetPage x_2.fst x_2.snd).fst.d.armed = x_9.fst.d.armed /\ ((fetPage x_2.fst x_2.snd).fst.d.keep.length = (mkI x_9.fst.d.keep.length (x_9.snd + x_9.fst.d.sec.length + 2 * x_9.fst.d.cache.length)).length /\ RowsEq (fetPage x_2.fst
    x_2.snd).fst.d.keep.length (intRow (mkI x.fst.d.keep.length (x.snd.fst + x.fst.d.sec.length + 2 * x.fst.d.cache.length))) (intRow (mkI x_9.fst.d.keep.length (x_9.snd + x_9.fst.d.sec.length + 2 * x_9.fst.d.cache.length)))) /\
    (fetPage x_2.fst x_2.snd).fst.ep = x_9.fst.ep /\ ((fetPage x_2.fst x_2.snd).fst.log.length = (mkR x_9.fst.log.length (endD x_9.fst.d x_9.snd)).length /\ RowsEq (fetPage x_2.fst x_2.snd).fst.log.length (recRow (mkR x.fst.log.length
    (endD x.fst.d x.snd.fst))) (recRow (mkR x_9.fst.log.length (endD x_9.fst.d x_9.snd)))) /\ (fetPage x_2.fst x_2.snd).fst.sure = x_9.fst.sure /\ ((fetPage x_2.fst x_2.snd).fst.fr.length = (mkF x_9.fst.fr.length (lnOf x_9.fst.fr) (endD
    x_9.fst.d x_9.snd + 10 * x_9.fst.log.length)).length /\ RowsEq (fetPage x_2.fst x_2.snd).fst.fr.length (frzR (famRow (mkF x.fst.fr.length (lnOf x.fst.fr) (endD x.fst.d x.snd.fst + 10 * x.fst.log.length)))) (frmRow (mkF
    x_9.fst.fr.length (lnOf x_9.fst.fr) (endD x_9.fst.d x_9.snd + 10 * x_9.fst.log.length)))) /\ (fetPage x_2.fst x_2.snd).fst.hand = x_9.fst.hand /\ True) /\ (1 : Int) = (x_9.snd:Int) /\ True) /\ KBs x_9.fst x_9.snd) /\ (decide ((↑(endS
    x_9.fst x_9.snd) : Int) < (0 : Int)) = true -> false = true) /\ (decide ((↑(endS x_9.fst x_9.snd) : Int) < (0 : Int)) = false -> ∃ (x_10 : (Int × Nat × Nat)), (Le (0 + (fetPage x_2.fst x_2.snd).snd.fst.sl.length) (mkS
    x_8.fst.sl.length x_8.snd).length /\ (((fetPage x_2.fst x_2.snd).snd.fst.lsn = x_10.fst /\ ((fetPage x_2.fst x_2.snd).snd.fst.sl.length = (mkS x_10.snd.fst x_10.snd.snd).length /\ RowsEq (fetPage x_2.fst x_2.snd).snd.fst.sl.length
    (strRow (mkS x_8.fst.sl.length x_8.snd)) (strRow (mkS x_10.snd.fst x_10.snd.snd))) /\ True) /\ (↑(endS x_9.fst x_9.snd) : Int) = (x_10.snd.snd:Int) /\ True) /\ KBn x_10.snd.fst x_10.snd.snd 1) /\ (decide ((↑(x_10.snd.snd +
    x_10.snd.fst) : Int) < (0 : Int)) = true -> false = true) /\ (decide ((↑(x_10.snd.snd + x_10.snd.fst) : Int) < (0 : Int)) = false -> (((↑(x_10.snd.snd + x_10.snd.fst) : Int) != (↑(x_8.snd + x_8.fst.sl.length) : Int)) = true -> false =
    true) /\ (((↑(x_10.snd.snd + x_10.snd.fst) : Int) != (↑(x_8.snd + x_8.fst.sl.length) : Int)) = false -> ∃ (x_11 : Sto), (((EqS s x_11) /\ True) /\ SmS x_11) /\ ∃ (x_12 : r_FetchPage.ι), ((LeS x_11) /\ ((EqF x_11 x_12.fst) /\ no =
    x_12.snd /\ True) /\ StoB x_12.fst /\ SmS x_12.fst) /\ ∃ (x_13 : r_eqSto.ι), (((LeS (fetPage x_12.fst x_12.snd).fst) /\ LeS (fetPage x_1.fst x_1.snd).fst) /\ ((EqF (fetPage x_12.fst x_12.snd).fst x_13) /\ (EqF (fetPage x_1.fst
    x_1.snd).fst x_13) /\ True) /\ SmS x_13) /\ ∃ (x_14 : r_eqPg.ι), (false = false -> (Le (0 + (fetPage x_12.fst x_12.snd).snd.fst.sl.length) (fetPage x_12.fst x_12.snd).snd.fst.sl.length /\ Le (0 + (fetPage x_1.fst
    x_1.snd).snd.fst.sl.length) (fetPage x_1.fst x_1.snd).snd.fst.sl.length) /\ (((fetPage x_12.fst x_12.snd).snd.fst.lsn = x_14.lsn /\ (EqL strRow (fetPage x_12.fst x_12.snd).snd.fst.sl x_14.sl) /\ True) /\ ((fetPage x_1.fst
    x_1.snd).snd.fst.lsn = x_14.lsn /\ (EqL strRow (fetPage x_1.fst x_1.snd).snd.fst.sl x_14.sl) /\ True) /\ True) /\ SmG x_14) /\ ((false || !(fetPage x_12.fst x_12.snd).snd.snd.fst == (fetPage x_1.fst x_1.snd).snd.snd.fst || (fetPage
    x_12.fst x_12.snd).snd.snd.snd != (fetPage x_1.fst x_1.snd).snd.snd.snd) = true -> false = true) /\ ((false || !(fetPage x_12.fst x_12.snd).snd.snd.fst == (fetPage x_1.fst x_1.snd).snd.snd.fst || (fetPage x_12.fst
    x_12.snd).snd.snd.snd != (fetPage x_1.fst x_1.snd).snd.snd.snd) = false -> ∃ (x_15 : (Sto × Nat)), ((Le (0 + (fetPage x_2.fst x_2.snd).fst.d.sec.length) (mkS x.fst.d.sec.length x.snd.fst).length /\ Le (0 + (fetPage x_2.fst
    x_2.snd).fst.d.cache.length) (mkP x.fst.d.cache.length (x.snd.fst + x.fst.d.sec.length)).length /\ Le (0 + (fetPage x_2.fst x_2.snd).fst.d.keep.length) (mkI x.fst.d.keep.length (x.snd.fst + x.fst.d.sec.length + 2 *
    x.fst.d.cache.length)).length /\ Le (0 + (fetPage x_2.fst x_2.snd).fst.log.length) (mkR x.fst.log.length (endD x.fst.d x.snd.fst)).length /\ Le (0 + (fetPage x_2.fst x_2.snd).fst.fr.length) (mkF x.fst.fr.length (lnOf x.fst.fr) (endD
    x.fst.d x.snd.fst + 10 * x.fst.log.length)).length) /\ ((((fetPage x_2.fst x_2.snd).fst.d.sec.length = (mkS x_15.fst.d.sec.length x_15.snd).length /\ RowsEq (fetPage x_2.fst x_2.snd).fst.d.sec.length (strRow (mkS x.fst.d.sec.length
    x.snd.fst)) (strRow (mkS x_15.fst.d.sec.length x_15.snd))) /\ ((fetPage x_2.fst x_2.snd).fst.d.cache.length = (mkP x_15.fst.d.cache.length (x_15.snd + x_15.fst.d.sec.length)).length /\ RowsEq (fetPage x_2.fst
    x_2.snd).fst.d.cache.length (pendRow (mkP x.fst.d.cache.length (x.snd.fst + x.fst.d.sec.length))) (pendRow (mkP x_15.fst.d.cache.length (x_15.snd + x_15.fst.d.sec.length)))) /\ (fetPage x_2.fst x_2.snd).fst.d.armed =
    x_15.fst.d.armed /\ ((fetPage x_2.fst x_2.snd).fst.d.keep.length = (mkI x_15.fst.d.keep.length (x_15.snd + x_15.fst.d.sec.length + 2 * x_15.fst.d.cache.length)).length /\ RowsEq (fetPage x_2.fst x_2.snd).fst.d.keep.length (intRow
    (mkI x.fst.d.keep.length (x.snd.fst + x.fst.d.sec.length + 2 * x.fst.d.cache.length))) (intRow (mkI x_15.fst.d.keep.length (x_15.snd + x_15.fst.d.sec.length + 2 * x_15.fst.d.cache.length)))) /\ (fetPage x_2.fst x_2.snd).fst.ep =
    x_15.fst.ep /\ ((fetPage x_2.fst x_2.snd).fst.log.length = (mkR x_15.fst.log.length (endD x_15.fst.d x_15.snd)).length /\ RowsEq (fetPage x_2.fst x_2.snd).fst.log.length (recRow (mkR x.fst.log.length (endD x.fst.d x.snd.fst)))
    (recRow (mkR x_15.fst.log.length (endD x_15.fst.d x_15.snd)))) /\ (fetPage x_2.fst x_2.snd).fst.sure = x_15.fst.sure /\ ((fetPage x_2.fst x_2.snd).fst.fr.length = (mkF x_15.fst.fr.length (lnOf x_15.fst.fr) (endD x_15.fst.d x_15.snd
    + 10 * x_15.fst.log.length)).length /\ RowsEq (fetPage x_2.fst x_2.snd).fst.fr.length (frzR (famRow (mkF x.fst.fr.length (lnOf x.fst.fr) (endD x.fst.d x.snd.fst + 10 * x.fst.log.length)))) (frmRow (mkF x_15.fst.fr.length (lnOf
    x_15.fst.fr) (endD x_15.fst.d x_15.snd + 10 * x_15.fst.log.length)))) /\ (fetPage x_2.fst x_2.snd).fst.hand = x_15.fst.hand /\ True) /\ (1 : Int) = (x_15.snd:Int) /\ True) /\ KBs x_15.fst x_15.snd) /\ (decide ((↑(endS x_15.fst x_15.snd)
    : Int) < (0 : Int)) = true -> false = true) /\ (decide ((↑(endS x_15.fst x_15.snd) : Int) < (0 : Int)) = false -> ∃ (x : (Int × Nat × Nat)), (Le (0 + (fetPage x_2.fst x_2.snd).snd.fst.sl.length) (mkS x_8.fst.sl.length x_8.snd).length
    /\ (((fetPage x_2.fst x_2.snd).snd.fst.lsn = x.fst /\ ((fetPage x_2.fst x_2.snd).snd.fst.sl.length = (mkS x.snd.fst x.snd.snd).length /\ RowsEq (fetPage x_2.fst x_2.snd).snd.fst.sl.length (strRow (mkS x_8.fst.sl.length x_8.snd))
    (strRow (mkS x.snd.fst x.snd.snd))) /\ True) /\ (↑(endS x_15.fst x_15.snd) : Int) = (x.snd.snd:Int) /\ True) /\ KBn x.snd.fst x.snd.snd 1) /\ (decide ((↑(x.snd.snd + x.snd.fst) : Int) < (0 : Int)) = true -> false = true) /\ (decide
    ((↑(x.snd.snd + x.snd.fst) : Int) < (0 : Int)) = false -> (((↑(x.snd.snd + x.snd.fst) : Int) != (↑(x_8.snd + x_8.fst.sl.length) : Int)) = true -> false = true) /\ (((↑(x.snd.snd + x.snd.fst) : Int) != (↑(x_8.snd + x_8.fst.sl.length)
    : Int)) = false -> true = true)))))))))))) :
    PureFn Tryz.prog 9 [.agg s.ts, .int .i64 no] (.bool true) :=
  vcR (code := b_LawP) (gC szSto_ok call_szSto (gC moSto_ok call_moSto (gC FetchPages_ok call_FetchPages (gC FetchPagei_ok call_FetchPagei (gC eqSto_ok call_eqSto (gC eqPg_ok call_eqPg (gC markSto_ok call_markSto (gC markPg_ok call_markPg (gC heldSto_ok call_heldSto (gC heldPg_ok call_heldPg gN)))))))))) Tryz.func9 (by kernel_rfl) (by kernel_rfl) noAnn h (by kernel_rfl)
theorem leM {α : Type} (f : Nat -> α) (n : Nat) : Le (0 + n) ((List.range n).map f).length := by rw [mk_len]; exact le0 n
theorem smS_fp {s : Sto} {no : Int} (h : SmS s) : SmS (fetPage s no).1 /\ SmG (fetPage s no).2.1 := by
  have e0 : SmG pgE := Nat.zero_le _; by_cases ho : stoOK s = true
  · by_cases hl : inR no 0 7 = true
    · have hi := sto_inv ho h; have hr := inR_t hl; have hno : no.toNat < 8 := by omega
      have hS := smS_fet hi hno; by_cases hu : (fetS s no.toNat).2.2 = true
      · rw [fetPage_up ho hl hu]; exact ⟨hS, hS.2.2.2 _ (fet_fr hi hno hu).1⟩
      · rw [fetPage_down ho hl hu]; exact ⟨hS, e0⟩
    · rw [fetPage_out (by rw [ho]; rfl) hl]
      exact ⟨smE, e0⟩
  · rw [fetPage_no (by simpa using ho)]
    exact ⟨smE, e0⟩
theorem endS_le {s : Sto} {k : Nat} (h : KBs s k) : 1 <= endS s k /\ endS s k <= 5000000000000 := by
  obtain ⟨⟨h1, h2, h3, h4⟩, h6, h7⟩ := h; have hd : endD s.d k <= 110000000 := by unfold endD; obtain ⟨a1, a2, a3⟩ := h1; omega
  have hd1 : 1 <= endD s.d k := by unfold endD; omega
  have hp := posF_le (lnOf s.fr) (endD s.d k + 10 * s.log.length) (n := s.fr.length) h4; have hm := posF_mono (lnOf s.fr) (endD s.d k + 10 * s.log.length) (Nat.zero_le s.fr.length); have h0 : posF (lnOf s.fr) (endD s.d k + 10 * s.log.length) 0 = endD s.d k + 10 * s.log.length := rfl; unfold endS; omega
theorem lawP_pure (s : Sto) (no : Int) (h : LmS s) : PureFn Tryz.prog 9 [.agg s.ts, .int .i64 no] (.bool true) := by
  have l0 : Left 1048576 := ⟨by omega, by omega⟩
  refine v_LawP s no ⟨(s, 1048576), ⟨⟨eqS _, rfl, trivial⟩, l0, h⟩, fun _ => rfl, fun hq => ?_⟩
  have hb := rem_big (of_decide_eq_false hq); obtain ⟨hS, hB⟩ := small_sto (s := s) (by have hb : _ <= _ := hb; dsimp only at hb; omega)
  obtain ⟨hO, hG⟩ := smS_fp (no := no) hS; have hk : KBs s 1 := ⟨hS, Nat.le_refl _, by omega⟩
  have hko : KBs (fetPage s no).1 1 := ⟨hO, Nat.le_refl _, by omega⟩
  have hE : KBn (fetPage s no).2.1.sl.length (endS (fetPage s no).1 1) 1 := ⟨hG, (endS_le hko).1, by
    have h1 := (endS_le hko).2; have h2 : (fetPage s no).2.1.sl.length <= 1048576 := hG; omega⟩
  have hn : ∀ n : Nat, decide ((n : Int) < 0) = false := fun n => decide_eq_false (by omega)
  exact ⟨s, ⟨⟨eqS _, trivial⟩, hS⟩, (s, no), ⟨⟨le0 _, le0 _, le0 _, le0 _, le0 _⟩, ⟨⟨⟨rfl, rowsR _ _⟩, ⟨rfl, rowsR _ _⟩, rfl, ⟨rfl, rowsR _ _⟩, rfl, ⟨rfl, rowsR _ _⟩, rfl, ⟨rfl, fun _ _ => rfl⟩, rfl, trivial⟩, rfl, trivial⟩, hB, hS⟩, s, ⟨⟨eqS _, trivial⟩, hS⟩, (s, no), ⟨⟨le0 _, le0 _, le0 _, le0 _, le0 _⟩, ⟨⟨⟨rfl, rowsR _ _⟩, ⟨rfl, rowsR _ _⟩, rfl, ⟨rfl, rowsR _ _⟩, rfl, ⟨rfl, rowsR _ _⟩, rfl, ⟨rfl, fun _ _ => rfl⟩, rfl, trivial⟩, rfl, trivial⟩, hB, hS⟩,
    (fetPage s no).1, ⟨⟨⟨le0 _, le0 _, le0 _, le0 _, le0 _⟩, ⟨le0 _, le0 _, le0 _, le0 _, le0 _⟩⟩, ⟨⟨⟨rfl, rowsR _ _⟩, ⟨rfl, rowsR _ _⟩, rfl, ⟨rfl, rowsR _ _⟩, rfl, ⟨rfl, rowsR _ _⟩, rfl, ⟨rfl, fun _ _ => rfl⟩, rfl, trivial⟩, ⟨⟨rfl, rowsR _ _⟩, ⟨rfl, rowsR _ _⟩, rfl, ⟨rfl, rowsR _ _⟩, rfl, ⟨rfl, rowsR _ _⟩, rfl, ⟨rfl, fun _ _ => rfl⟩, rfl, trivial⟩, trivial⟩, hO⟩, (fetPage s no).2.1, fun _ => ⟨⟨le0 _, le0 _⟩, ⟨⟨rfl, ⟨rfl, rowsR _ _⟩, trivial⟩, ⟨rfl, ⟨rfl, rowsR _ _⟩, trivial⟩, trivial⟩, hG⟩, fun he => by simp at he, fun _ => ⟨s, ⟨⟨eqS _, trivial⟩, hS⟩, s, ⟨⟨⟨le0 _, le0 _, le0 _, le0 _, le0 _⟩, ⟨le0 _, le0 _, le0 _, le0 _, le0 _⟩⟩, ⟨⟨⟨rfl, rowsR _ _⟩, ⟨rfl, rowsR _ _⟩, rfl, ⟨rfl, rowsR _ _⟩, rfl, ⟨rfl, rowsR _ _⟩, rfl, ⟨rfl, fun _ _ => rfl⟩, rfl, trivial⟩, ⟨⟨rfl, rowsR _ _⟩, ⟨rfl, rowsR _ _⟩, rfl, ⟨rfl, rowsR _ _⟩, rfl, ⟨rfl, rowsR _ _⟩, rfl, ⟨rfl, fun _ _ => rfl⟩, rfl, trivial⟩, trivial⟩, hS⟩, fun he => he, fun _ =>
    ⟨(s, 1, s.fr.length), ⟨⟨⟨⟨rfl, rfl⟩, ⟨rfl, rfl⟩, rfl, ⟨rfl, rfl⟩, rfl, ⟨rfl, rfl⟩, rfl, ⟨rfl, rfl⟩, rfl, trivial⟩, rfl, trivial⟩, ⟨⟨rfl, rowsR _ _⟩, ⟨rfl, rowsR _ _⟩, ⟨rfl, rowsR _ _⟩, ⟨rfl, rowsR _ _⟩, ⟨rfl, rfl, famR _⟩, trivial⟩, hk⟩, (fetPage s no).1, fun _ => ⟨⟨⟨le0 _, le0 _, le0 _, le0 _, le0 _⟩, ⟨le0 _, le0 _, le0 _, le0 _, le0 _⟩⟩, ⟨⟨⟨rfl, rowsR _ _⟩, ⟨rfl, rowsR _ _⟩, rfl, ⟨rfl, rowsR _ _⟩, rfl, ⟨rfl, rowsR _ _⟩, rfl, ⟨rfl, fun _ _ => rfl⟩, rfl, trivial⟩, ⟨⟨rfl, rowsR _ _⟩, ⟨rfl, rowsR _ _⟩, rfl, ⟨rfl, rowsR _ _⟩, rfl, ⟨rfl, rowsR _ _⟩, rfl, ⟨rfl, fun _ _ => rfl⟩, rfl, trivial⟩, trivial⟩, hO⟩, (fetPage s no).2.1, fun _ => ⟨⟨le0 _, le0 _⟩, ⟨⟨rfl, ⟨rfl, rowsR _ _⟩, trivial⟩, ⟨rfl, ⟨rfl, rowsR _ _⟩, trivial⟩, trivial⟩, hG⟩, fun he => by rw [hn] at he; simp at he, fun _ =>
    ⟨((fetPage s no).1, 1, 0), ⟨⟨⟨⟨rfl, rfl⟩, ⟨rfl, rfl⟩, rfl, ⟨rfl, rfl⟩, rfl, ⟨rfl, rfl⟩, rfl, ⟨rfl, rfl⟩, rfl, trivial⟩, rfl, trivial⟩, ⟨⟨rfl, rowsR _ _⟩, ⟨rfl, rowsR _ _⟩, ⟨rfl, rowsR _ _⟩, ⟨rfl, rowsR _ _⟩, ⟨rfl, rfl, famR _⟩, trivial⟩, hko⟩, ((fetPage s no).2.1, endS (fetPage s no).1 1), ⟨(by repeat' first | exact trivial | exact rfl | exact rowsR _ _ | exact famR _ | exact row0 | exact le0 _ | exact Nat.le_refl _ | exact Nat.zero_le _ | refine And.intro ?_ ?_), (by repeat' first | exact trivial | exact rfl | exact rowsR _ _ | exact famR _ | exact row0 | exact le0 _ | exact Nat.le_refl _ | exact Nat.zero_le _ | refine And.intro ?_ ?_), hE⟩, ((fetPage s no).1, 1), ⟨⟨leM _ _, leM _ _, leM _ _, leM _ _, leM _ _⟩, ⟨⟨⟨(mk_len _ _).symm, rowsR _ _⟩, ⟨(mk_len _ _).symm, rowsR _ _⟩, rfl, ⟨(mk_len _ _).symm, rowsR _ _⟩, rfl, ⟨(mk_len _ _).symm, rowsR _ _⟩, rfl, ⟨(mk_len _ _).symm, fun _ _ => rfl⟩, rfl, trivial⟩, rfl, trivial⟩, hko⟩, fun he => by rw [hn] at he; simp at he, fun _ =>
    ⟨((fetPage s no).2.1.lsn, (fetPage s no).2.1.sl.length, endS (fetPage s no).1 1), ⟨leM _ _, ⟨⟨rfl, ⟨(mk_len _ _).symm, rowsR _ _⟩, trivial⟩, rfl, trivial⟩, hE⟩, fun he => by rw [hn] at he; simp at he, fun _ => ⟨fun he => by simp at he, fun _ =>
    ⟨s, ⟨⟨eqS _, trivial⟩, hS⟩, (s, no), ⟨⟨le0 _, le0 _, le0 _, le0 _, le0 _⟩, ⟨⟨⟨rfl, rowsR _ _⟩, ⟨rfl, rowsR _ _⟩, rfl, ⟨rfl, rowsR _ _⟩, rfl, ⟨rfl, rowsR _ _⟩, rfl, ⟨rfl, fun _ _ => rfl⟩, rfl, trivial⟩, rfl, trivial⟩, hB, hS⟩, (fetPage s no).1, ⟨⟨⟨le0 _, le0 _, le0 _, le0 _, le0 _⟩, ⟨le0 _, le0 _, le0 _, le0 _, le0 _⟩⟩, ⟨⟨⟨rfl, rowsR _ _⟩, ⟨rfl, rowsR _ _⟩, rfl, ⟨rfl, rowsR _ _⟩, rfl, ⟨rfl, rowsR _ _⟩, rfl, ⟨rfl, fun _ _ => rfl⟩, rfl, trivial⟩, ⟨⟨rfl, rowsR _ _⟩, ⟨rfl, rowsR _ _⟩, rfl, ⟨rfl, rowsR _ _⟩, rfl, ⟨rfl, rowsR _ _⟩, rfl, ⟨rfl, fun _ _ => rfl⟩, rfl, trivial⟩, trivial⟩, hO⟩, (fetPage s no).2.1, fun _ => ⟨⟨le0 _, le0 _⟩, ⟨⟨rfl, ⟨rfl, rowsR _ _⟩, trivial⟩, ⟨rfl, ⟨rfl, rowsR _ _⟩, trivial⟩, trivial⟩, hG⟩, fun he => by simp at he, fun _ => ⟨((fetPage s no).1, 1), ⟨⟨leM _ _, leM _ _, leM _ _, leM _ _, leM _ _⟩, ⟨⟨⟨(mk_len _ _).symm, rowsR _ _⟩, ⟨(mk_len _ _).symm, rowsR _ _⟩, rfl, ⟨(mk_len _ _).symm, rowsR _ _⟩, rfl, ⟨(mk_len _ _).symm, rowsR _ _⟩, rfl, ⟨(mk_len _ _).symm, fun _ _ => rfl⟩, rfl, trivial⟩, rfl, trivial⟩, hko⟩, fun he => by rw [hn] at he; simp at he, fun _ =>
    ⟨((fetPage s no).2.1.lsn, (fetPage s no).2.1.sl.length, endS (fetPage s no).1 1), ⟨leM _ _, ⟨⟨rfl, ⟨(mk_len _ _).symm, rowsR _ _⟩, trivial⟩, rfl, trivial⟩, hE⟩, fun he => by rw [hn] at he; simp at he, fun _ => ⟨fun he => by simp at he, fun _ => rfl⟩⟩⟩⟩⟩⟩⟩⟩⟩⟩
end Go.Proofs.YtndilbkocjlgpaaGreat

