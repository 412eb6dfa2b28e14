/- The law 'FnExactPagesBehind' is proved: whatever the input, it returns true and leaves the input as it is; there is no condition. -/
import Derived.Test.YtjbomnjmcbhadaaF3
import Derived.Test.YtjbomnjmcbhadaaD9
namespace Go.Proofs.Ytjbomnjmcbhadaa
open Go.SS Go.RowKit
-- the law's store, as data
def decStrs {H : Type} (x : DataW H) : List (List UInt8) := (elemsD x).map dS
def decInts {H : Type} (x : DataW H) : List Int := (elemsD x).map dI
def decPend {H : Type} (x : DataW H) : Pend := ⟨dI (nthD (partsD x) 0), dS (nthD (partsD x) 1)⟩
def decDsk {H : Type} (x : DataW H) : Dsk := ⟨decStrs (nthD (partsD x) 0), (elemsD (nthD (partsD x) 1)).map decPend, dB (nthD (partsD x) 2), decInts (nthD (partsD x) 3)⟩
def decPg {H : Type} (x : DataW H) : Pg := ⟨dI (nthD (partsD x) 0), decStrs (nthD (partsD x) 1)⟩
def decFrm {H : Type} (x : DataW H) : Frm := ⟨dI (nthD (partsD x) 0), decPg (nthD (partsD x) 1), dB (nthD (partsD x) 2), dI (nthD (partsD x) 3)⟩
def decSto {H : Type} (x : DataW H) : Sto := ⟨decDsk (nthD (partsD x) 0), dI (nthD (partsD x) 1), (elemsD (nthD (partsD x) 2)).map decRec, dI (nthD (partsD x) 3), (elemsD (nthD (partsD x) 4)).map decFrm, dI (nthD (partsD x) 5)⟩
set_option maxRecDepth 100000
theorem slStr : sliceT Try.prog 30 = some 9 := by kernel_rfl
theorem slInt : sliceT Try.prog 32 = some 3 := by kernel_rfl
theorem slPend : sliceT Try.prog 31 = some 116 := by kernel_rfl
theorem slFrm : sliceT Try.prog 35 = some 85 := by kernel_rfl
theorem stPend : structT Try.prog 116 = some [3, 9] := by kernel_rfl
theorem stDsk : structT Try.prog 34 = some [30, 31, 4, 32] := by kernel_rfl
theorem stPg : structT Try.prog 83 = some [3, 30] := by kernel_rfl
theorem stFrm : structT Try.prog 85 = some [3, 83, 4, 3] := by kernel_rfl
theorem stSto : structT Try.prog 37 = some [34, 3, 22, 3, 35, 3] := by kernel_rfl
theorem tr_strs {H : Type} {d : Nat} (x : DataW H) : trT Try.prog (d + 2) 30 x = [strS (decStrs x)] := by
  rw [tr_slice slStr (by kernel_rfl), show Try.prog.cellsOf 9 = 1 by kernel_rfl]
  unfold strS decStrs
  rw [List.length_map]
  congr 2
  funext i
  rw [tr_str hiStr]
  exact congrArg (fun l => [T.str l]) (map_getD dS (elemsD x) i (d := .nil) (d' := []) rfl).symm
theorem tr_ints {H : Type} {d : Nat} (x : DataW H) : trT Try.prog (d + 2) 32 x = [intS (decInts x)] := by
  rw [tr_slice slInt (by kernel_rfl), show Try.prog.cellsOf 3 = 1 by kernel_rfl]
  unfold intS decInts
  rw [List.length_map]
  congr 2
  funext i
  rw [tr_int hiInt]
  exact congrArg (fun l => [T.int .i64 l]) (map_getD dI (elemsD x) i (d := .nil) (d' := 0) rfl).symm
theorem tr_pend {H : Type} {d : Nat} (x : DataW H) : trT Try.prog (d + 2) 116 x = (decPend x).ts := by
  rw [tr_struct stPend]
  simp only [trA, tr_int hiInt, tr_str hiStr, List.append_nil, List.cons_append, List.nil_append]
  rfl
theorem tr_pends {H : Type} {d : Nat} (x : DataW H) : trT Try.prog (d + 3) 31 x = [pendS ((elemsD x).map decPend)] := by
  rw [tr_slice slPend (by kernel_rfl), show Try.prog.cellsOf 116 = 2 by kernel_rfl]
  unfold pendS
  rw [List.length_map]
  congr 2
  funext i
  rw [tr_pend]
  exact congrArg Pend.ts (map_getD decPend (elemsD x) i (d := .nil) (d' := default) rfl).symm
theorem tr_dsk {H : Type} {d : Nat} (x : DataW H) : trT Try.prog (d + 4) 34 x = (decDsk x).ts := by
  rw [tr_struct stDsk]
  simp only [trA, tr_bool hiBool, tr_strs (d := d + 1), tr_ints (d := d + 1), tr_pends, List.append_nil, List.cons_append, List.nil_append]
  rfl
theorem tr_pg {H : Type} {d : Nat} (x : DataW H) : trT Try.prog (d + 3) 83 x = (decPg x).ts := by
  rw [tr_struct stPg]
  simp only [trA, tr_int hiInt, tr_strs, List.append_nil, List.cons_append, List.nil_append]
  rfl
theorem tr_frm {H : Type} {d : Nat} (x : DataW H) : trT Try.prog (d + 4) 85 x = (decFrm x).ts := by
  rw [tr_struct stFrm]
  simp only [trA, tr_int hiInt, tr_bool hiBool, tr_pg]
  rfl
theorem tr_frms {H : Type} {d : Nat} (x : DataW H) : trT Try.prog (d + 5) 35 x = [frmS ((elemsD x).map decFrm)] := by
  rw [tr_slice slFrm (by kernel_rfl), show Try.prog.cellsOf 85 = 5 by kernel_rfl]
  unfold frmS
  rw [List.length_map]
  congr 2
  funext i
  rw [tr_frm]
  exact congrArg Frm.ts (map_getD decFrm (elemsD x) i (d := .nil) (d' := default) rfl).symm
theorem tr_recs {H : Type} {d : Nat} (x : DataW H) : trT Try.prog (d + 3) 22 x = [recS ((elemsD x).map decRec)] := by
  rw [tr_slice slRec (by kernel_rfl), row_rec]
theorem tr_sto {H : Type} {d : Nat} (x : DataW H) : trA Try.prog (d + 5) [34, 3, 22, 3, 35, 3] (partsD x) = (decSto x).ts := by
  simp only [trA, tr_int hiInt, tr_dsk (d := d + 1), tr_recs (d := d + 2), tr_frms]
  rfl
theorem lm_strs {H : Type} {d : Nat} {x : DataW H} (h : wfD Try.prog (d + 2) 30 x) : LmL [] (fun s => Lim s.length) (decStrs x) := by
  obtain ⟨_, h2, h3⟩ := wf_slice h slStr
  refine ⟨by unfold decStrs; rw [List.length_map]; exact h2, fun i hi => ?_⟩
  unfold decStrs at hi ⊢
  rw [List.length_map] at hi
  rw [map_getD dS (elemsD x) i (d := .nil) (d' := []) rfl, List.getD_eq_getElem?_getD, List.getElem?_eq_getElem hi]
  exact wf_len (h3 _ (List.getElem_mem hi))
theorem lm_pends {H : Type} {d : Nat} {x : DataW H} (h : wfD Try.prog (d + 3) 31 x) : LmL default LmP ((elemsD x).map decPend) := by
  obtain ⟨_, h2, h3⟩ := wf_slice h slPend
  refine ⟨by rw [List.length_map]; exact h2, fun i hi => ?_⟩
  rw [List.length_map] at hi
  rw [map_getD decPend (elemsD x) i (d := .nil) (d' := default) rfl, List.getD_eq_getElem?_getD, List.getElem?_eq_getElem hi]
  obtain ⟨xs, he, h'⟩ := wf_struct (h3 _ (List.getElem_mem hi)) stPend
  obtain ⟨x0, xs, rfl, _, h'⟩ := wfAll_cons h'
  obtain ⟨x1, xs, rfl, h1, h'⟩ := wfAll_cons h'
  show (dS (nthD (partsD (elemsD x)[i]) 1)).length ≤ _
  rw [he]
  exact wf_len h1
theorem lm_dsk {H : Type} {d : Nat} {x : DataW H} (h : wfD Try.prog (d + 4) 34 x) : LmD (decDsk x) := by
  obtain ⟨xs, rfl, h'⟩ := wf_struct h stDsk
  obtain ⟨x0, xs, rfl, h0, h'⟩ := wfAll_cons h'
  obtain ⟨x1, xs, rfl, h1, h'⟩ := wfAll_cons h'
  obtain ⟨x2, xs, rfl, _, h'⟩ := wfAll_cons h'
  obtain ⟨x3, xs, rfl, h3, h'⟩ := wfAll_cons h'
  refine ⟨lm_strs h0, lm_pends h1, ?_⟩
  show ((elemsD x3).map dI).length ≤ _
  rw [List.length_map]
  exact (wf_slice h3 slInt).2.1
theorem lm_frm {H : Type} {d : Nat} {x : DataW H} (h : wfD Try.prog (d + 4) 85 x) : LmF (decFrm x) := by
  obtain ⟨xs, rfl, h'⟩ := wf_struct h stFrm
  obtain ⟨x0, xs, rfl, _, h'⟩ := wfAll_cons h'
  obtain ⟨x1, xs, rfl, h1, h'⟩ := wfAll_cons h'
  obtain ⟨ys, rfl, g⟩ := wf_struct h1 stPg
  obtain ⟨y0, ys, rfl, _, g⟩ := wfAll_cons g
  obtain ⟨y1, ys, rfl, g1, g⟩ := wfAll_cons g
  exact lm_strs g1
theorem lm_sto {H : Type} {d : Nat} {x : DataW H} (h : wfD Try.prog (d + 6) 37 x) : LmS (decSto x) := by
  obtain ⟨xs, rfl, h'⟩ := wf_struct h stSto
  obtain ⟨x0, xs, rfl, h0, h'⟩ := wfAll_cons h'
  obtain ⟨x1, xs, rfl, _, h'⟩ := wfAll_cons h'
  obtain ⟨x2, xs, rfl, h2, h'⟩ := wfAll_cons h'
  obtain ⟨x3, xs, rfl, _, h'⟩ := wfAll_cons h'
  obtain ⟨x4, xs, rfl, h4, h'⟩ := wfAll_cons h'
  obtain ⟨_, r2, r3⟩ := wf_slice h2 slRec
  obtain ⟨_, f2, f3⟩ := wf_slice h4 slFrm
  refine ⟨lm_dsk h0, ⟨?_, fun r hr => ?_⟩, ⟨?_, fun i hi => ?_⟩⟩
  · show ((elemsD x2).map decRec).length ≤ _
    rw [List.length_map]
    exact r2
  · obtain ⟨y, hy, rfl⟩ := List.mem_map.1 hr
    exact bd_rec (r3 y hy)
  · show ((elemsD x4).map decFrm).length ≤ _
    rw [List.length_map]
    exact f2
  · have hi : i < ((elemsD x4).map decFrm).length := hi
    show LmF (((elemsD x4).map decFrm).getD i default)
    rw [List.length_map] at hi
    rw [map_getD decFrm (elemsD x4) i (d := .nil) (d' := default) rfl, List.getD_eq_getElem?_getD, List.getElem?_eq_getElem hi]
    exact lm_frm (f3 _ (List.getElem_mem hi))
end Go.Proofs.Ytjbomnjmcbhadaa
namespace Go.Proofs.Ytjbomnjmcbhadaa.fnExactPagesBehind
open Go.SS Go.RowKit
set_option maxRecDepth 100000
theorem data {H : Type} {W : World} {ds : List (DataW H)} (h : WfAll Try.prog 6 [37] ds) : ∃ ts, PureFn Try.prog 4 ts (.bool true) ∧ ∀ vs : Array Value, RdL (E0 W) W (argTs Try.prog 6 [37] ds) vs → RdL (E0 W) W ts vs := by
  obtain ⟨x, xs, rfl, hx, h⟩ := wfAll_cons h
  obtain rfl := wfAll_nil h
  refine ⟨_, lawB_pure (decSto x) (lm_sto hx), fun vs hv => ?_⟩
  have : argTs Try.prog 6 [37] [x] = [argT Try.prog 6 37 x] := rfl
  rw [this, arg_struct (d := 5) stSto, tr_sto (d := 0)] at hv
  exact hv
theorem lifted (os : Os) (started : os.Started) (H : Type) (enc : TypeId × Value → H) : ReturnsInHanded {} Try.checked os 4 .any (Rows.fnExactPagesBehindSpec.pre6 enc Try.prog Try.f4 Rows.fnExactPagesBehindRow.domain false) (Rows.fnExactPagesBehindSpec.post enc Try.prog Try.f4 false true false false) := by
  refine returnsInHanded_of_change (C := Try.checked) fnExactLogLinks.own started (by kernel_rfl) Try.func4 (ChangeSpec.witness6 (enc := enc) (C := Try.checked) false ⟨#[], #[.agg #[.slice none 0 0, .slice none 0 0, .bool false, .slice none 0 0, .int .i64 0, .slice none 0 0, .int .i64 0, .slice none 0 0, .int .i64 0]], []⟩ 12 (by kernel_rfl) (by kernel_rfl) (by kernel_rfl) (by kernel_rfl)) ?_
  intro W base args ds gs before hval hW _ _
  have hp : Try.f4.params.toList = [37] := by kernel_rfl
  refine law_all 6 hval hW rfl (fun h => ?_) (tb := 4) (by kernel_rfl) (by kernel_rfl) (by kernel_rfl) (fun h => ?_)
  · rw [hp] at h
    obtain ⟨x, xs, rfl, hx, h⟩ := wfAll_cons h
    obtain rfl := wfAll_nil h
    rfl
  · rw [hp] at h ⊢
    exact data h
theorem proved : Rows.FnExactPagesBehindSaid :=
  OpenClaim.holds_of_wide 4 Try.f4 rfl rfl rfl rfl rfl rfl rfl ⟨rfl, rfl, rfl, rfl, rfl⟩ rfl rfl rfl rfl rfl (by kernel_rfl) Try.func4 (by kernel_rfl)
    (of_decide_eq_true (by kernel_rfl)) (by unfold Func.isWrapper; first | (rw [if_pos (by decide +kernel)]; kernel_rfl) | (rw [if_neg (by decide +kernel)]; exact ⟨rfl, rfl⟩))
    (fun os started H enc _ => lifted os started H enc)
end Go.Proofs.Ytjbomnjmcbhadaa.fnExactPagesBehind

