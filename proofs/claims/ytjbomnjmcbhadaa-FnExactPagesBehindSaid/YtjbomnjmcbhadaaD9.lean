/- A part of the proof of a law: what functions of the program compute, shown by a calculus of symbolic states. -/
import Derived.Test.YtjbomnjmcbhadaaD8
import Derived.Test.YtjbomnjmcbhadaaSSW
import Derived.Test.YtjbomnjmcbhadaaRows
import Derived.WalkKit
import Derived.ProofKit
import Derived.JoinedOf
import Derived.Handed
import Derived.WideWitness
namespace Go.Proofs.Ytjbomnjmcbhadaa
open Go.SS Go.RowKit
def decRec {H : Type} (x : DataW H) : Rec := ⟨dI (nthD (partsD x) 0), dI (nthD (partsD x) 1), dI (nthD (partsD x) 2), dI (nthD (partsD x) 3), dI (nthD (partsD x) 4), dI (nthD (partsD x) 5), dI (nthD (partsD x) 6), dI (nthD (partsD x) 7), dS (nthD (partsD x) 8), dS (nthD (partsD x) 9)⟩
set_option maxRecDepth 100000 in
theorem hiInt : isIntT Try.prog 3 = true := by kernel_rfl
theorem hiStr : isStrT Try.prog 9 = true := by kernel_rfl
theorem hiBool : isBoolT Try.prog 4 = true := by kernel_rfl
set_option maxRecDepth 100000 in
theorem stRec : structT Try.prog 51 = some [3, 3, 3, 3, 3, 3, 3, 3, 9, 9] := by kernel_rfl
set_option maxRecDepth 100000 in
theorem tr_rec {H : Type} {d : Nat} (x : DataW H) : trT Try.prog (d + 2) 51 x = (decRec x).ts := by
  rw [tr_struct stRec]
  simp only [trA, tr_int hiInt, tr_str hiStr, List.append_nil, List.cons_append, List.nil_append]
  rfl
set_option maxRecDepth 100000 in
theorem wf_len {H : Type} {d : Nat} {x : DataW H} (h : wfD Try.prog (d + 1) 9 x) : (dS x).length ≤ 9223372036854775807 := by
  obtain ⟨l, rfl, hl⟩ := wf_str h hiStr
  exact hl
set_option maxRecDepth 100000 in
theorem bd_rec {H : Type} {d : Nat} {x : DataW H} (h : wfD Try.prog (d + 2) 51 x) : RecB (decRec x) := by
  obtain ⟨xs, rfl, h'⟩ := wf_struct h stRec
  obtain ⟨x0, xs, rfl, _, h⟩ := wfAll_cons h'
  obtain ⟨x1, xs, rfl, _, h⟩ := wfAll_cons h
  obtain ⟨x2, xs, rfl, _, h⟩ := wfAll_cons h
  obtain ⟨x3, xs, rfl, _, h⟩ := wfAll_cons h
  obtain ⟨x4, xs, rfl, _, h⟩ := wfAll_cons h
  obtain ⟨x5, xs, rfl, _, h⟩ := wfAll_cons h
  obtain ⟨x6, xs, rfl, _, h⟩ := wfAll_cons h
  obtain ⟨x7, xs, rfl, _, h⟩ := wfAll_cons h
  obtain ⟨x8, xs, rfl, h8, h⟩ := wfAll_cons h
  obtain ⟨x9, xs, rfl, h9, h⟩ := wfAll_cons h
  exact ⟨wf_len h8, wf_len h9⟩
set_option maxRecDepth 100000 in
theorem slRec : sliceT Try.prog 22 = some 51 := by kernel_rfl
set_option maxRecDepth 100000 in
theorem row_rec {H : Type} {d : Nat} (x : DataW H) : (T.sl (Try.prog.cellsOf 51) (elemsD x).length fun i => trT Try.prog (d + 2) 51 ((elemsD x).getD i .nil)) = recS ((elemsD x).map decRec) := by
  unfold recS
  rw [show Try.prog.cellsOf 51 = 10 by kernel_rfl, List.length_map]
  congr 1
  funext i
  rw [tr_rec]
  unfold recRow
  exact congrArg Rec.ts (map_getD decRec (elemsD x) i (d := .nil) (d' := default) rfl).symm
end Go.Proofs.Ytjbomnjmcbhadaa
namespace Go.Proofs.Ytjbomnjmcbhadaa.fnExactLogLinks
open Go.SS Go.RowKit
theorem own : ownKnob Try.prog.godebug = none := by kernel_rfl
set_option maxRecDepth 100000 in
theorem data {H : Type} {W : World} {ds : List (DataW H)} (h : WfAll Try.prog 4 [22] ds) : ∃ ts, PureFn Try.prog 3 ts (.bool true) ∧ ∀ vs : Array Value, RdL (E0 W) W (argTs Try.prog 4 [22] ds) vs → RdL (E0 W) W ts vs := by
  obtain ⟨x, xs, rfl, hx, h⟩ := wfAll_cons h
  obtain rfl := wfAll_nil h
  obtain ⟨_, h2, h3⟩ := wf_slice hx slRec
  refine ⟨_, law_pure ((elemsD x).map decRec) (by rw [List.length_map]; exact h2) (fun r hr => ?_), fun vs hv => ?_⟩
  · obtain ⟨y, hy, rfl⟩ := List.mem_map.1 hr
    exact bd_rec (h3 y hy)
  · rw [← row_rec (d := 1) x]
    have : argTs Try.prog 4 [22] [x] = [argT Try.prog 4 22 x] := rfl
    rw [this, arg_slice (d := 3) slRec (by kernel_rfl)] at hv
    exact hv
set_option maxRecDepth 100000 in
theorem lifted (os : Os) (started : os.Started) (H : Type) (enc : TypeId × Value → H) : ReturnsInHanded {} Try.checked os 3 .any (Rows.fnExactLogLinksSpec.pre6 enc Try.prog Try.f3 Rows.fnExactLogLinksRow.domain false) (Rows.fnExactLogLinksSpec.post enc Try.prog Try.f3 false true false false) := by
  refine returnsInHanded_of_change (C := Try.checked) own started (by kernel_rfl) Try.func3 (ChangeSpec.witness6 (enc := enc) (C := Try.checked) false ⟨#[], #[.slice none 0 0], []⟩ 8 (by kernel_rfl) (by kernel_rfl) (by kernel_rfl) (by kernel_rfl)) ?_
  intro W base args ds gs before hval hW _ _
  have hp : Try.f3.params.toList = [22] := by kernel_rfl
  refine law_all 4 hval hW rfl (fun h => ?_) (tb := 4) (by kernel_rfl) (by kernel_rfl) (by kernel_rfl) (fun h => ?_)
  · rw [hp] at h
    obtain ⟨x, xs, rfl, hx, h⟩ := wfAll_cons h
    obtain rfl := wfAll_nil h
    rfl
  · rw [hp] at h ⊢
    exact data h
set_option maxRecDepth 100000 in
theorem proved : Rows.FnExactLogLinksSaid :=
  OpenClaim.holds_of_wide 3 Try.f3 rfl rfl rfl rfl rfl rfl rfl ⟨rfl, rfl, rfl, rfl, rfl⟩ rfl rfl rfl rfl rfl (by kernel_rfl) Try.func3 (by kernel_rfl)
    (of_decide_eq_true (by kernel_rfl)) (by unfold Func.isWrapper; first | (rw [if_pos (by decide +kernel)]; kernel_rfl) | (rw [if_neg (by decide +kernel)]; exact ⟨rfl, rfl⟩))
    (fun os started H enc _ => lifted os started H enc)
end Go.Proofs.Ytjbomnjmcbhadaa.fnExactLogLinks

