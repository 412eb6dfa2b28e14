/- The law 'FnExactWorldOKSaid' is proved: whatever the input, it returns true and leaves the input as it is; there is no condition. -/
import Derived.Test.YtjbomnjmcbhadaaGreatW7
namespace Go.Proofs.YtjbomnjmcbhadaaGreat
open Go.SS

noncomputable def b_LawW : Code := Tryz.f12.body.getD .skip
theorem call_LawW : Callable Tryz.prog 12 := ⟨_, Tryz.func12, by kernel_rfl, by kernel_rfl⟩
set_option maxRecDepth 100000 in
theorem v_LawW (s : Wrl) (h :
    ∃ (x : (Wrl × Int)), (((EqW s x.fst) ∧ (1048576 : Int) = x.snd ∧ True) ∧ Left x.snd ∧ LmWrl x.fst) ∧ (decide (rem x.snd (bulkWrl x.fst) < (0 : Int)) = true → true = true) ∧ (decide (rem x.snd (bulkWrl x.fst) < (0 : Int)) = false →
    ∃ (x : Wrl), (((EqW s x) ∧ True) ∧ SmWrl x) ∧ ∃ (x_1 : r_WorldOK.ι), (((EqW x x_1) ∧ True) ∧ WrlB x_1) ∧ ∃ (x : Wrl), (((EqW s x) ∧ True) ∧ SmWrl x) ∧ ∃ (x_2 : r_WorldOK.ι), (((EqW x x_2) ∧ True) ∧ WrlB x_2) ∧ ((!wrlOK x_2 ==
    wrlOK x_1) = true → false = true) ∧ ((!wrlOK x_2 == wrlOK x_1) = false → ∃ (x_3 : Wrl), (((EqW s x_3) ∧ True) ∧ SmWrl x_3) ∧ ∃ (x_4 : Wrl), (((EqW x x_4) ∧ (EqW x_3 x_4) ∧ True) ∧ SmWrl x_4) ∧ (false = true → false = true) ∧
    (false = false → true = true)))) :
    PureFn Tryz.prog 12 [.agg s.ts] (.bool true) :=
  fn_vc mixed (cons_ok szWrl_ok (cons_ok toWrl_ok (cons_ok eqWrl_ok (cons_ok WorldOKi_ok (cons_ok WorldOKs_ok nil_ok))))) (cons_call call_szWrl (cons_call call_toWrl (cons_call call_eqWrl (cons_call call_WorldOKi (cons_call call_WorldOKs nil_call))))) Tryz.func12 (by kernel_rfl) (leB (by kernel_rfl)) noAnn (Eq.mp (β := vcFn Tryz.prog [(50, k_szWrl), (52, k_toWrl), (54, k_eqWrl), (53, k_WorldOKi), (51, k_WorldOKs)] Tryz.f12.ntmps Tryz.f12.results.toList b_LawW [.agg s.ts] (.bool true) noAnn) (by kernel_rfl) h)
-- The law, of a world that is given as data.
theorem lawW_pure (s : Wrl) (h : LmWrl s) : PureFn Tryz.prog 12 [.agg s.ts] (.bool true) := by
  refine v_LawW s ⟨(s, 1048576), ⟨⟨⟨⟨(by trivial), rowsR _ _⟩, ⟨(by trivial), rowsR _ _⟩, (by trivial), ⟨(by trivial), rowsR _ _⟩, (by trivial), ⟨(by trivial), rowsR _ _⟩, (by trivial), ⟨(by trivial), rowsR _ _⟩, (by trivial), (by trivial), ⟨(by trivial), rowsR _ _⟩, ⟨(by trivial), rowsR _ _⟩, ⟨(by trivial), rowsR _ _⟩, (by trivial), ⟨(by trivial), rowsR _ _⟩, ⟨(by trivial), rowsR _ _⟩, ⟨(by trivial), rowsR _ _⟩, ⟨(by trivial), rowsR _ _⟩, (by trivial), trivial⟩, rfl, trivial⟩, ⟨by simp only; omega, by simp only; omega⟩, h⟩, fun _ => rfl, fun hr => ?_⟩
  have hb := rem_big (of_decide_eq_false hr)
  obtain ⟨hs, hB⟩ := small_wrl (s := s) (by simp only at hb; omega)
  refine ⟨s, ⟨⟨⟨⟨(by trivial), rowsR _ _⟩, ⟨(by trivial), rowsR _ _⟩, (by trivial), ⟨(by trivial), rowsR _ _⟩, (by trivial), ⟨(by trivial), rowsR _ _⟩, (by trivial), ⟨(by trivial), rowsR _ _⟩, (by trivial), (by trivial), ⟨(by trivial), rowsR _ _⟩, ⟨(by trivial), rowsR _ _⟩, ⟨(by trivial), rowsR _ _⟩, (by trivial), ⟨(by trivial), rowsR _ _⟩, ⟨(by trivial), rowsR _ _⟩, ⟨(by trivial), rowsR _ _⟩, ⟨(by trivial), rowsR _ _⟩, (by trivial), trivial⟩, trivial⟩, hs⟩, s, ⟨⟨⟨⟨(by trivial), rowsR _ _⟩, ⟨(by trivial), rowsR _ _⟩, (by trivial), ⟨(by trivial), rowsR _ _⟩, (by trivial), ⟨(by trivial), rowsR _ _⟩, (by trivial), ⟨(by trivial), rowsR _ _⟩, (by trivial), (by trivial), ⟨(by trivial), rowsR _ _⟩, ⟨(by trivial), rowsR _ _⟩, ⟨(by trivial), rowsR _ _⟩, (by trivial), ⟨(by trivial), rowsR _ _⟩, ⟨(by trivial), rowsR _ _⟩, ⟨(by trivial), rowsR _ _⟩, ⟨(by trivial), rowsR _ _⟩, (by trivial), trivial⟩, trivial⟩, hB⟩, s, ⟨⟨⟨⟨(by trivial), rowsR _ _⟩, ⟨(by trivial), rowsR _ _⟩, (by trivial), ⟨(by trivial), rowsR _ _⟩, (by trivial), ⟨(by trivial), rowsR _ _⟩, (by trivial), ⟨(by trivial), rowsR _ _⟩, (by trivial), (by trivial), ⟨(by trivial), rowsR _ _⟩, ⟨(by trivial), rowsR _ _⟩, ⟨(by trivial), rowsR _ _⟩, (by trivial), ⟨(by trivial), rowsR _ _⟩, ⟨(by trivial), rowsR _ _⟩, ⟨(by trivial), rowsR _ _⟩, ⟨(by trivial), rowsR _ _⟩, (by trivial), trivial⟩, trivial⟩, hs⟩, s, ⟨⟨⟨⟨(by trivial), rowsR _ _⟩, ⟨(by trivial), rowsR _ _⟩, (by trivial), ⟨(by trivial), rowsR _ _⟩, (by trivial), ⟨(by trivial), rowsR _ _⟩, (by trivial), ⟨(by trivial), rowsR _ _⟩, (by trivial), (by trivial), ⟨(by trivial), rowsR _ _⟩, ⟨(by trivial), rowsR _ _⟩, ⟨(by trivial), rowsR _ _⟩, (by trivial), ⟨(by trivial), rowsR _ _⟩, ⟨(by trivial), rowsR _ _⟩, ⟨(by trivial), rowsR _ _⟩, ⟨(by trivial), rowsR _ _⟩, (by trivial), trivial⟩, trivial⟩, hB⟩, fun he => ?_, fun _ => ⟨s, ⟨⟨⟨⟨(by trivial), rowsR _ _⟩, ⟨(by trivial), rowsR _ _⟩, (by trivial), ⟨(by trivial), rowsR _ _⟩, (by trivial), ⟨(by trivial), rowsR _ _⟩, (by trivial), ⟨(by trivial), rowsR _ _⟩, (by trivial), (by trivial), ⟨(by trivial), rowsR _ _⟩, ⟨(by trivial), rowsR _ _⟩, ⟨(by trivial), rowsR _ _⟩, (by trivial), ⟨(by trivial), rowsR _ _⟩, ⟨(by trivial), rowsR _ _⟩, ⟨(by trivial), rowsR _ _⟩, ⟨(by trivial), rowsR _ _⟩, (by trivial), trivial⟩, trivial⟩, hs⟩, s, ⟨⟨⟨⟨(by trivial), rowsR _ _⟩, ⟨(by trivial), rowsR _ _⟩, (by trivial), ⟨(by trivial), rowsR _ _⟩, (by trivial), ⟨(by trivial), rowsR _ _⟩, (by trivial), ⟨(by trivial), rowsR _ _⟩, (by trivial), (by trivial), ⟨(by trivial), rowsR _ _⟩, ⟨(by trivial), rowsR _ _⟩, ⟨(by trivial), rowsR _ _⟩, (by trivial), ⟨(by trivial), rowsR _ _⟩, ⟨(by trivial), rowsR _ _⟩, ⟨(by trivial), rowsR _ _⟩, ⟨(by trivial), rowsR _ _⟩, (by trivial), trivial⟩, ⟨⟨(by trivial), rowsR _ _⟩, ⟨(by trivial), rowsR _ _⟩, (by trivial), ⟨(by trivial), rowsR _ _⟩, (by trivial), ⟨(by trivial), rowsR _ _⟩, (by trivial), ⟨(by trivial), rowsR _ _⟩, (by trivial), (by trivial), ⟨(by trivial), rowsR _ _⟩, ⟨(by trivial), rowsR _ _⟩, ⟨(by trivial), rowsR _ _⟩, (by trivial), ⟨(by trivial), rowsR _ _⟩, ⟨(by trivial), rowsR _ _⟩, ⟨(by trivial), rowsR _ _⟩, ⟨(by trivial), rowsR _ _⟩, (by trivial), trivial⟩, trivial⟩, hs⟩, fun h => h, fun _ => rfl⟩⟩
  simp at he
end Go.Proofs.YtjbomnjmcbhadaaGreat
namespace Go.Proofs.YtjbomnjmcbhadaaGreat.fnExactWorldOK
open Go.SS Go.RowKit
set_option maxRecDepth 100000
theorem data {H : Type} {W : World} {ds : List (DataW H)} (h : WfAll Tryz.prog 8 [96] ds) : ∃ ts, PureFn Tryz.prog 12 ts (.bool true) ∧ ∀ vs : Array Value, RdL (E0 W) W (argTs Tryz.prog 8 [96] ds) vs → RdL (E0 W) W ts vs := by
  obtain ⟨x, xs, rfl, hx, h⟩ := wfAll_cons h
  obtain rfl := wfAll_nil h
  refine ⟨_, lawW_pure (decWrl x) (lm_wrl (d := 0) hx), fun vs hv => ?_⟩
  have : argTs Tryz.prog 8 [96] [x] = [argT Tryz.prog 8 96 x] := rfl
  rw [this, arg_struct (d := 7) stWrl, tr_wrl (d := 0)] at hv
  exact hv
theorem lifted (os : Os) (started : os.Started) (H : Type) (enc : TypeId × Value → H) : ReturnsInHanded {} Tryz.checked os 12 .any (Rows.fnExactWorldOKSpec.pre6 enc Tryz.prog Tryz.f12 Rows.fnExactWorldOKRow.domain false) (Rows.fnExactWorldOKSpec.post enc Tryz.prog Tryz.f12 false true false false) := by
  refine returnsInHanded_of_change (C := Tryz.checked) own started (by kernel_rfl) Tryz.func12 (ChangeSpec.witness6 (enc := enc) (C := Tryz.checked) false ⟨#[], #[.agg #[.slice none 0 0, .slice none 0 0, .bool false, .slice none 0 0, .int .i64 0, .slice none 0 0, .int .i64 0, .slice none 0 0, .int .i64 0, .bool false, .slice none 0 0, .slice none 0 0, .slice none 0 0, .int .i64 0, .slice none 0 0, .slice none 0 0, .slice none 0 0, .slice none 0 0, .bool false]], []⟩ 16 (by kernel_rfl) (by kernel_rfl) (by kernel_rfl) (by kernel_rfl)) ?_
  intro W base args ds gs before hval hW _ _
  have hp : Tryz.f12.params.toList = [96] := by kernel_rfl
  refine law_all 8 hval hW rfl (fun h => ?_) (tb := 4) (by kernel_rfl) (by kernel_rfl) (by kernel_rfl) (fun h => ?_)
  · rw [hp] at h
    obtain ⟨x, xs, rfl, hx, h⟩ := wfAll_cons h
    obtain rfl := wfAll_nil h
    rfl
  · rw [hp] at h ⊢
    exact data h
theorem j0 : (Rows.fnExactWorldOKRow.wf (OpenSpec.ofChange Rows.fnExactWorldOKSpec)) = true := by kernel_rfl
theorem j1 : (laidOutB Tryz.checked.prog) = true := by kernel_rfl
theorem j2 : (mapsRowed Tryz.checked.prog) = true := by kernel_rfl
theorem j9 : ((Rows.fnExactWorldOKRow.inPlace == Tryz.checked.prog.inPlace 12)) = true := by kernel_rfl
theorem j10 : ((Rows.fnExactWorldOKRow.unfollowed == Tryz.checked.prog.unfollowed 12)) = true := by kernel_rfl
theorem j11 : ((Rows.fnExactWorldOKRow.recurses == Tryz.checked.prog.recurses 12)) = true := by kernel_rfl
theorem j12 : ((Rows.fnExactWorldOKRow.named == Tryz.checked.prog.varsNamed 12)) = true := by kernel_rfl
theorem j22 : ((Rows.fnExactWorldOKRow.plainKeys == Tryz.checked.prog.plainKeys)) = true := by kernel_rfl
theorem j24 : (Tryz.checked.prog.stopsHeard) = true := by kernel_rfl
theorem j25 : (Tryz.checked.prog.mayEnter) = true := by kernel_rfl
theorem j26 : ((Rows.fnExactWorldOKRow.lifted == Tryz.checked.prog.liftsFinal)) = true := by kernel_rfl
theorem j27 : ((Tryz.checked.prog.make == some Rows.fnExactWorldOKRow.make)) = true := by kernel_rfl
theorem closed : joinedFacts Tryz.checked.prog 12 Tryz.f12 Rows.fnExactWorldOKSpec Rows.fnExactWorldOKRow = true :=
  joined j0 j1 j2 (by kernel_rfl) (by kernel_rfl) (by kernel_rfl) (by kernel_rfl) (by kernel_rfl) (by kernel_rfl) j9 j10 j11 j12 (by kernel_rfl) (by kernel_rfl) (by kernel_rfl) (by kernel_rfl) (by kernel_rfl) (by kernel_rfl) (by kernel_rfl) (by kernel_rfl) (by kernel_rfl) j22 (by kernel_rfl) j24 j25 j26 j27 (by kernel_rfl) (by kernel_rfl) (by kernel_rfl) (by kernel_rfl)
theorem proved : Rows.FnExactWorldOKSaid :=
  OpenClaim.holds_of_wide 12 Tryz.f12 rfl rfl rfl rfl rfl rfl rfl ⟨rfl, rfl, rfl, rfl, rfl⟩ rfl rfl rfl rfl rfl (by kernel_rfl) Tryz.func12 closed
    (of_decide_eq_true (by kernel_rfl)) (by unfold Func.isWrapper; first | (rw [if_pos (by decide +kernel)]; kernel_rfl) | (rw [if_neg (by decide +kernel)]; exact ⟨rfl, rfl⟩))
    (fun os started H enc _ => lifted os started H enc)
end Go.Proofs.YtjbomnjmcbhadaaGreat.fnExactWorldOK

