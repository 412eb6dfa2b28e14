/- The law 'FnExactLogLinks' is proved: whatever the input, it returns true and leaves the input as it is; there is no condition. -/
import Derived.Test.YtjbomnjmcbhadaaD8
import Derived.Test.YtjbomnjmcbhadaaSSW
import Derived.Test.YtjbomnjmcbhadaaRows
import Derived.WalkKit
import Derived.ProofKit
import Derived.JoinedOf
import Derived.Handed
import Derived.WideWitness
namespace Go.Proofs.Ytjbomnjmcbhadaa
open Go.SS Go.RowKit
def dI {H : Type} : DataW H → Int
  | .lit (.int _ n) => n
  | _ => 0
def dS {H : Type} : DataW H → List UInt8
  | .lit (.string l) => l
  | _ => []
def dK {H : Type} : DataW H → Nat → DataW H
  | .agg xs, i => xs.getD i .nil
  | _, _ => .nil
def decRec {H : Type} (x : DataW H) : Rec := ⟨dI (dK x 0), dI (dK x 1), dI (dK x 2), dI (dK x 3), dI (dK x 4), dI (dK x 5), dI (dK x 6), dI (dK x 7), dS (dK x 8), dS (dK x 9)⟩
set_option maxRecDepth 100000 in
theorem dec_rec {H : Type} {x : DataW H} (h : wfD Try.prog 3 51 x) : trT Try.prog 3 51 x = (decRec x).ts ∧ RecB (decRec x) := by
  obtain ⟨xs, rfl, h'⟩ := wf_struct h (show structT Try.prog 51 = some [3, 3, 3, 3, 3, 3, 3, 3, 9, 9] by kernel_rfl)
  have hi : isIntT Try.prog 3 = true := by kernel_rfl
  have hs : isStrT Try.prog 9 = true := by kernel_rfl
  obtain ⟨x0, xs, rfl, h0, h⟩ := wfAll_cons h'
  obtain ⟨x1, xs, rfl, h1, h⟩ := wfAll_cons h
  obtain ⟨x2, xs, rfl, h2, h⟩ := wfAll_cons h
  obtain ⟨x3, xs, rfl, h3, h⟩ := wfAll_cons h
  obtain ⟨x4, xs, rfl, h4, h⟩ := wfAll_cons h
  obtain ⟨x5, xs, rfl, h5, h⟩ := wfAll_cons h
  obtain ⟨x6, xs, rfl, h6, h⟩ := wfAll_cons h
  obtain ⟨x7, xs, rfl, h7, h⟩ := wfAll_cons h
  obtain ⟨x8, xs, rfl, h8, h⟩ := wfAll_cons h
  obtain ⟨x9, xs, rfl, h9, h⟩ := wfAll_cons h
  obtain rfl := wfAll_nil h
  obtain ⟨n0, rfl, _⟩ := wf_int h0 hi
  obtain ⟨n1, rfl, _⟩ := wf_int h1 hi
  obtain ⟨n2, rfl, _⟩ := wf_int h2 hi
  obtain ⟨n3, rfl, _⟩ := wf_int h3 hi
  obtain ⟨n4, rfl, _⟩ := wf_int h4 hi
  obtain ⟨n5, rfl, _⟩ := wf_int h5 hi
  obtain ⟨n6, rfl, _⟩ := wf_int h6 hi
  obtain ⟨n7, rfl, _⟩ := wf_int h7 hi
  obtain ⟨l8, rfl, b8⟩ := wf_str h8 hs
  obtain ⟨l9, rfl, b9⟩ := wf_str h9 hs
  refine ⟨?_, b8, b9⟩
  rw [tr_struct (d := 2) (show structT Try.prog 51 = some [3, 3, 3, 3, 3, 3, 3, 3, 9, 9] by kernel_rfl)]
  simp only [trA, tr_int (d := 1) hi, tr_str (d := 1) hs, List.append_nil, List.cons_append, List.nil_append]
  rfl
end Go.Proofs.Ytjbomnjmcbhadaa
namespace Go.Proofs.Ytjbomnjmcbhadaa.fnExactLogLinks
open Go.SS Go.RowKit
theorem own : ownKnob Try.prog.godebug = none := by kernel_rfl
set_option maxRecDepth 100000 in
theorem data {H : Type} {W : World} {ds : List (DataW H)} (h : WfAll Try.prog 4 [22] ds) : ∃ ts, PureFn Try.prog 3 ts (.bool true) ∧ ∀ vs : Array Value, RdL (E0 W) W (argTs Try.prog 4 [22] ds) vs → RdL (E0 W) W ts vs := by
  obtain ⟨x, xs, rfl, hx, h⟩ := wfAll_cons h
  obtain rfl := wfAll_nil h
  have hu : sliceT Try.prog 22 = some 51 := by kernel_rfl
  obtain ⟨h1, h2, h3⟩ := wf_slice hx hu
  have hl : ((elemsD x).map decRec).length = (elemsD x).length := by simp
  refine ⟨_, law_pure ((elemsD x).map decRec) (by omega) (fun r hr => ?_), fun vs hv => ?_⟩
  · obtain ⟨y, hy, rfl⟩ := List.mem_map.1 hr
    exact (dec_rec (h3 y hy)).2
  · refine rdL_one (fun v hv => ?_) hv
    rw [arg_slice (d := 3) hu h1 (by kernel_rfl)] at hv
    rw [show Try.prog.cellsOf 51 = 10 by kernel_rfl] at hv
    unfold recS
    rw [hl]
    refine rd_rows hv fun i hi => ?_
    have hg : (elemsD x).getD i .nil = (elemsD x)[i] := by simp [hi]
    rw [hg, (dec_rec (h3 _ (List.getElem_mem hi))).1]
    simp [recRow, hi]
set_option maxRecDepth 100000 in
theorem lifted (os : Os) (started : os.Started) (H : Type) (enc : TypeId × Value → H) : ReturnsInHanded {} Try.checked os 3 .any (Rows.fnExactLogLinksSpec.pre6 enc Try.prog Try.f3 Rows.fnExactLogLinksRow.domain false) (Rows.fnExactLogLinksSpec.post enc Try.prog Try.f3 false true false false) := by
  refine returnsInHanded_of_change (C := Try.checked) own started (by kernel_rfl) Try.func3 (ChangeSpec.witness6 (enc := enc) (C := Try.checked) false ⟨#[], #[.slice none 0 0], []⟩ 8 (by kernel_rfl) (by kernel_rfl) (by kernel_rfl) (by kernel_rfl)) ?_
  intro W base args ds gs before hval hW _ _
  have hp : Try.f3.params.toList = [22] := by kernel_rfl
  refine law_all 4 hval hW rfl (fun h => ?_) (tb := 4) (by kernel_rfl) (by kernel_rfl) (by kernel_rfl) (fun h => ?_)
  · rw [hp] at h
    obtain ⟨x, xs, rfl, hx, h⟩ := wfAll_cons h
    obtain rfl := wfAll_nil h
    rfl
  · rw [hp] at h ⊢
    exact data h
set_option maxRecDepth 100000 in
theorem proved : Rows.FnExactLogLinksSaid :=
  OpenClaim.holds_of_wide 3 Try.f3 rfl rfl rfl rfl rfl rfl rfl ⟨rfl, rfl, rfl, rfl, rfl⟩ rfl rfl rfl rfl rfl (by kernel_rfl) Try.func3 (by kernel_rfl)
    (of_decide_eq_true (by kernel_rfl)) (by unfold Func.isWrapper; first | (rw [if_pos (by decide +kernel)]; kernel_rfl) | (rw [if_neg (by decide +kernel)]; exact ⟨rfl, rfl⟩))
    (fun os started H enc _ => lifted os started H enc)
end Go.Proofs.Ytjbomnjmcbhadaa.fnExactLogLinks

