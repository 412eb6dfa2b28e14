/- The law 'FnExactRowsOnceSaid' is proved: whatever the input, it returns true and leaves the input as it is; there is no condition. -/
import Derived.Test.YtjbomnjmcbhadaaGreatV5V6V7
import Derived.Test.YtjbomnjmcbhadaaGreatW7
namespace Go.Proofs.YtjbomnjmcbhadaaGreat
set_option maxRecDepth 100000
open Go.SS

noncomputable def b_LawO : Code := Tryz.f11.body.getD .skip
theorem call_LawO : Callable Tryz.prog 11 := ⟨_, Tryz.func11, by kernel_rfl, by kernel_rfl⟩
theorem v_LawO (s : Eng) (h :
    ∃ (x : (Eng × Int)), (((EqG s x.fst) ∧ (1048576 : Int) = x.snd ∧ True) ∧ Left x.snd ∧ LmEng x.fst) ∧ (decide (rem x.snd (bulkEng x.fst) < (0 : Int)) = true → true = true) ∧ (decide (rem x.snd (bulkEng x.fst) < (0 : Int)) = false →
    ∃ (x : Eng), (((EqG s x) ∧ True) ∧ SmEng x) ∧ ∃ (x_1 : r_RowsOnce.ι), (((EqG x x_1) ∧ True) ∧ EngB x_1) ∧ ∃ (x : Eng), (((EqG s x) ∧ True) ∧ SmEng x) ∧ ∃ (x_2 : r_RowsOnce.ι), (((EqG x x_2) ∧ True) ∧ EngB x_2) ∧ ((!(onceR x_2).fst
    == (onceR x_1).fst || (onceR x_2).snd != (onceR x_1).snd) = true → false = true) ∧ ((!(onceR x_2).fst == (onceR x_1).fst || (onceR x_2).snd != (onceR x_1).snd) = false → ∃ (x_3 : Eng), (((EqG s x_3) ∧ True) ∧ SmEng x_3) ∧ ∃ (x_4 :
    Eng), (((EqG x x_4) ∧ (EqG x_3 x_4) ∧ True) ∧ SmEng x_4) ∧ (false = true → false = true) ∧ (false = false → true = true)))) :
    PureFn Tryz.prog 11 [.agg s.ts] (.bool true) :=
  vcR (code := b_LawO) (gC szEng_ok call_szEng (gC toEng_ok call_toEng (gC eqEng_ok call_eqEng (gC RowsOncei_ok call_RowsOncei (gC RowsOnces_ok call_RowsOnces gN))))) Tryz.func11 (by kernel_rfl) (by kernel_rfl) noAnn h (by kernel_rfl)
-- The law, of an engine that is given as data.
theorem lawO_pure (s : Eng) (h : LmEng s) : PureFn Tryz.prog 11 [.agg s.ts] (.bool true) := by
  refine v_LawO s ⟨(s, 1048576), ⟨⟨(eqG _), rfl, trivial⟩, ⟨by simp only; omega, by simp only; omega⟩, h⟩, fun _ => rfl, fun hr => ?_⟩
  have hb := rem_big (of_decide_eq_false hr)
  obtain ⟨hs, hB⟩ := small_eng (e := s) (by simp only at hb; omega)
  refine ⟨s, ⟨⟨(eqG _), trivial⟩, hs⟩, s, ⟨⟨(eqG _), trivial⟩, hB⟩, s, ⟨⟨(eqG _), trivial⟩, hs⟩, s, ⟨⟨(eqG _), trivial⟩, hB⟩, fun he => ?_, fun _ => ⟨s, ⟨⟨(eqG _), trivial⟩, hs⟩, s, ⟨⟨(eqG _), (eqG _), trivial⟩, hs⟩, fun h => h, fun _ => rfl⟩⟩
  simp at he
end Go.Proofs.YtjbomnjmcbhadaaGreat
namespace Go.Proofs.YtjbomnjmcbhadaaGreat.fnExactRowsOnce
open Go.SS Go.RowKit
set_option maxRecDepth 100000
theorem data {H : Type} {W : World} {ds : List (DataW H)} (h : WfAll Tryz.prog 7 [80] ds) : ∃ ts, PureFn Tryz.prog 11 ts (.bool true) ∧ ∀ vs : Array Value, RdL (E0 W) W (argTs Tryz.prog 7 [80] ds) vs → RdL (E0 W) W ts vs := by
  obtain ⟨x, xs, rfl, hx, h⟩ := wfAll_cons h
  obtain rfl := wfAll_nil h
  refine ⟨_, lawO_pure (decEng x) (lm_eng (d := 0) hx), fun vs hv => ?_⟩
  have : argTs Tryz.prog 7 [80] [x] = [argT Tryz.prog 7 80 x] := rfl
  rw [this, arg_struct (d := 6) stEng, ← tr_struct (d := 6) stEng, tr_eng (d := 0)] at hv
  exact hv
theorem lifted (os : Os) (started : os.Started) (H : Type) (enc : TypeId × Value → H) : ReturnsInHanded {} Tryz.checked os 11 .any (Rows.fnExactRowsOnceSpec.pre6 enc Tryz.prog Tryz.f11 Rows.fnExactRowsOnceRow.domain false) (Rows.fnExactRowsOnceSpec.post enc Tryz.prog Tryz.f11 false true false false) := by
  refine returnsInHanded_of_change (C := Tryz.checked) own started (by kernel_rfl) Tryz.func11 (ChangeSpec.witness6 (enc := enc) (C := Tryz.checked) false ⟨#[], #[.agg #[.slice none 0 0, .slice none 0 0, .bool false, .slice none 0 0, .int .i64 0, .slice none 0 0, .int .i64 0, .slice none 0 0, .int .i64 0, .bool false, .slice none 0 0, .slice none 0 0, .slice none 0 0, .int .i64 0]], []⟩ 16 (by kernel_rfl) (by kernel_rfl) (by kernel_rfl) (by kernel_rfl)) ?_
  intro W base args ds gs before hval hW _ _
  have hp : Tryz.f11.params.toList = [80] := by kernel_rfl
  refine law_all 7 hval hW rfl (fun h => ?_) (tb := 4) (by kernel_rfl) (by kernel_rfl) (by kernel_rfl) (fun h => ?_)
  · rw [hp] at h
    obtain ⟨x, xs, rfl, hx, h⟩ := wfAll_cons h
    obtain rfl := wfAll_nil h
    rfl
  · rw [hp] at h ⊢
    exact data h
theorem j0 : (Rows.fnExactRowsOnceRow.wf (OpenSpec.ofChange Rows.fnExactRowsOnceSpec)) = true := by kernel_rfl
theorem j1 : (laidOutB Tryz.checked.prog) = true := by kernel_rfl
theorem j2 : (mapsRowed Tryz.checked.prog) = true := by kernel_rfl
theorem j9 : ((Rows.fnExactRowsOnceRow.inPlace == Tryz.checked.prog.inPlace 11)) = true := by kernel_rfl
theorem j10 : ((Rows.fnExactRowsOnceRow.unfollowed == Tryz.checked.prog.unfollowed 11)) = true := by kernel_rfl
theorem j11 : ((Rows.fnExactRowsOnceRow.recurses == Tryz.checked.prog.recurses 11)) = true := by kernel_rfl
theorem j12 : ((Rows.fnExactRowsOnceRow.named == Tryz.checked.prog.varsNamed 11)) = true := by kernel_rfl
theorem j22 : ((Rows.fnExactRowsOnceRow.plainKeys == Tryz.checked.prog.plainKeys)) = true := by kernel_rfl
theorem j24 : (Tryz.checked.prog.stopsHeard) = true := by kernel_rfl
theorem j25 : (Tryz.checked.prog.mayEnter) = true := by kernel_rfl
theorem j26 : ((Rows.fnExactRowsOnceRow.lifted == Tryz.checked.prog.liftsFinal)) = true := by kernel_rfl
theorem j27 : ((Tryz.checked.prog.make == some Rows.fnExactRowsOnceRow.make)) = true := by kernel_rfl
theorem closed : joinedFacts Tryz.checked.prog 11 Tryz.f11 Rows.fnExactRowsOnceSpec Rows.fnExactRowsOnceRow = true :=
  joined j0 j1 j2 (by kernel_rfl) (by kernel_rfl) (by kernel_rfl) (by kernel_rfl) (by kernel_rfl) (by kernel_rfl) j9 j10 j11 j12 (by kernel_rfl) (by kernel_rfl) (by kernel_rfl) (by kernel_rfl) (by kernel_rfl) (by kernel_rfl) (by kernel_rfl) (by kernel_rfl) (by kernel_rfl) j22 (by kernel_rfl) j24 j25 j26 j27 (by kernel_rfl) (by kernel_rfl) (by kernel_rfl) (by kernel_rfl)
theorem proved : Rows.FnExactRowsOnceSaid :=
  OpenClaim.holds_of_wide 11 Tryz.f11 rfl rfl rfl rfl rfl rfl rfl ⟨rfl, rfl, rfl, rfl, rfl⟩ rfl rfl rfl rfl rfl (by kernel_rfl) Tryz.func11 closed
    (of_decide_eq_true (by kernel_rfl)) (by unfold Func.isWrapper; first | (rw [if_pos (by decide +kernel)]; kernel_rfl) | (rw [if_neg (by decide +kernel)]; exact ⟨rfl, rfl⟩))
    (fun os started H enc _ => lifted os started H enc)
end Go.Proofs.YtjbomnjmcbhadaaGreat.fnExactRowsOnce

