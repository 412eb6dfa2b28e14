/- The law 'FnExactEvictPageSaid' is proved: whatever the input, it returns true and leaves the input as it is; there is no condition. -/
import Derived.Test.YtndilbkocjlgpaaGreatY14
namespace Go.Proofs.YtndilbkocjlgpaaGreat.fnExactEvictPage
open Go.SS Go.RowKit
set_option maxRecDepth 100000
theorem arg_int {P : Program} {H : Type} {d : Nat} {t : TypeId} {x : DataW H} (hu : isIntT P t = true) : argT P (d + 1) t x = .int .i64 (dI x) := by
  unfold argT; rw [tr_int hu]; unfold isIntT at hu; split at hu
  · rename_i hf; rw [hf]; rfl
  · cases hu
theorem data {H : Type} {W : World} {ds : List (DataW H)} (h : WfAll Tryz.prog 6 [51, 3] ds) : ∃ ts, PureFn Tryz.prog 7 ts (.bool true) /\ ∀ vs : Array Value, RdL (E0 W) W (argTs Tryz.prog 6 [51, 3] ds) vs -> RdL (E0 W) W ts vs := by
  obtain ⟨x, xs, rfl, hx, h⟩ := wfAll_cons h; obtain ⟨x2, xs, rfl, hx2, h⟩ := wfAll_cons h; obtain rfl := wfAll_nil h; obtain ⟨n, rfl, hn⟩ := wf_int (d := 5) hx2 hiInt; refine ⟨_, lawE_pure (decSto x) n (lm_sto (d := 0) hx), fun vs hv => ?_⟩
  have : argTs Tryz.prog 6 [51, 3] [x, .lit (.int .i64 n)] = [argT Tryz.prog 6 51 x, argT Tryz.prog 6 3 (.lit (.int .i64 n))] := rfl; rw [this, arg_struct (d := 5) stSto, tr_sto (d := 0), arg_int (d := 5) hiInt] at hv; exact hv
theorem lifted (os : Os) (started : os.Started) (H : Type) (enc : TypeId × Value -> H) : ReturnsInHanded {} Tryz.checked os 7 .any (Rows.fnExactEvictPageSpec.pre6 enc Tryz.prog Tryz.f7 Rows.fnExactEvictPageRow.domain false) (Rows.fnExactEvictPageSpec.post enc Tryz.prog Tryz.f7 false true false false) := by
  refine returnsInHanded_of_change (C := Tryz.checked) own started (by kernel_rfl) Tryz.func7 (ChangeSpec.witness6 (enc := enc) (C := Tryz.checked) false ⟨#[], #[.agg #[.slice none 0 0, .slice none 0 0, .bool false, .slice none 0 0, .int .i64 0, .slice none 0 0, .int .i64 0, .slice none 0 0, .int .i64 0], .int .i64 0], []⟩ 16 (by kernel_rfl) (by kernel_rfl) (by kernel_rfl) (by kernel_rfl)) ?_
  intro W base args ds gs before hval hW _ _; have hp : Tryz.f7.params.toList = [51, 3] := by kernel_rfl
  refine law_all 6 hval hW rfl (fun h => ?_) (tb := 4) (by kernel_rfl) (by kernel_rfl) (by kernel_rfl) (fun h => ?_)
  · rw [hp] at h; obtain ⟨x, xs, rfl, hx, h⟩ := wfAll_cons h; obtain ⟨x2, xs, rfl, hx2, h⟩ := wfAll_cons h; obtain rfl := wfAll_nil h; rfl
  · rw [hp] at h ⊢; exact data h
theorem j0 : (Rows.fnExactEvictPageRow.wf (OpenSpec.ofChange Rows.fnExactEvictPageSpec)) = true := by kernel_rfl
theorem j1 : (laidOutB Tryz.checked.prog) = true := by kernel_rfl
theorem j2 : (mapsRowed Tryz.checked.prog) = true := by kernel_rfl
theorem j9 : ((Rows.fnExactEvictPageRow.inPlace == Tryz.checked.prog.inPlace 7)) = true := by kernel_rfl
theorem j10 : ((Rows.fnExactEvictPageRow.unfollowed == Tryz.checked.prog.unfollowed 7)) = true := by kernel_rfl
theorem j11 : ((Rows.fnExactEvictPageRow.recurses == Tryz.checked.prog.recurses 7)) = true := by kernel_rfl
theorem j12 : ((Rows.fnExactEvictPageRow.named == Tryz.checked.prog.varsNamed 7)) = true := by kernel_rfl
theorem j22 : ((Rows.fnExactEvictPageRow.plainKeys == Tryz.checked.prog.plainKeys)) = true := by kernel_rfl
theorem j24 : (Tryz.checked.prog.stopsHeard) = true := by kernel_rfl
theorem j25 : (Tryz.checked.prog.mayEnter) = true := by kernel_rfl
theorem j26 : ((Rows.fnExactEvictPageRow.lifted == Tryz.checked.prog.liftsFinal)) = true := by kernel_rfl
theorem j27 : ((Tryz.checked.prog.make == some Rows.fnExactEvictPageRow.make)) = true := by kernel_rfl
theorem closed : joinedFacts Tryz.checked.prog 7 Tryz.f7 Rows.fnExactEvictPageSpec Rows.fnExactEvictPageRow = true :=
  joined j0 j1 j2 (by kernel_rfl) (by kernel_rfl) (by kernel_rfl) (by kernel_rfl) (by kernel_rfl) (by kernel_rfl) j9 j10 j11 j12 (by kernel_rfl) (by kernel_rfl) (by kernel_rfl) (by kernel_rfl) (by kernel_rfl) (by kernel_rfl) (by kernel_rfl) (by kernel_rfl) (by kernel_rfl) j22 (by kernel_rfl) j24 j25 j26 j27 (by kernel_rfl) (by kernel_rfl) (by kernel_rfl) (by kernel_rfl)
theorem proved : Rows.FnExactEvictPageSaid :=
  OpenClaim.holds_of_wide 7 Tryz.f7 rfl rfl rfl rfl rfl rfl rfl ⟨rfl, rfl, rfl, rfl, rfl⟩ rfl rfl rfl rfl rfl (by kernel_rfl) Tryz.func7 closed
    (of_decide_eq_true (by kernel_rfl)) (by unfold Func.isWrapper; first | (rw [if_pos (by decide +kernel)]; kernel_rfl) | (rw [if_neg (by decide +kernel)]; exact ⟨rfl, rfl⟩))
    (fun os started H enc _ => lifted os started H enc)
end Go.Proofs.YtndilbkocjlgpaaGreat.fnExactEvictPage

