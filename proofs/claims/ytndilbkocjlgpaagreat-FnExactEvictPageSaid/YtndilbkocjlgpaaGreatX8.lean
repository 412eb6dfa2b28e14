/- A part of the proof. -/
import Derived.Test.YtndilbkocjlgpaaGreatX7
import Derived.Test.YtndilbkocjlgpaaGreatSSW
import Derived.Test.YtndilbkocjlgpaaGreatRows
import Derived.WalkKit
import Derived.ProofKit
import Derived.JoinedOf
import Derived.Handed
import Derived.WideWitness

namespace Go.Proofs.YtndilbkocjlgpaaGreat
open Go.SS Go.RowKit
def decRec {H : Type} (x : DataW H) : Rec := ⟨dI (nthD (partsD x) 0), dI (nthD (partsD x) 1), dI (nthD (partsD x) 2), dI (nthD (partsD x) 3), dI (nthD (partsD x) 4), dI (nthD (partsD x) 5), dI (nthD (partsD x) 6), dI (nthD (partsD x) 7), dS (nthD (partsD x) 8), dS (nthD (partsD x) 9)⟩
set_option maxRecDepth 100000 in
theorem hiInt : isIntT Tryz.prog 3 = true := by kernel_rfl
theorem hiStr : isStrT Tryz.prog 9 = true := by kernel_rfl
theorem hiBool : isBoolT Tryz.prog 4 = true := by kernel_rfl
set_option maxRecDepth 100000 in
theorem stRec : structT Tryz.prog 53 = some [3, 3, 3, 3, 3, 3, 3, 3, 9, 9] := by kernel_rfl
set_option maxRecDepth 100000 in
theorem tr_rec {H : Type} {d : Nat} (x : DataW H) : trT Tryz.prog (d + 2) 53 x = (decRec x).ts := by
  rw [tr_struct stRec]; simp only [trA, tr_int hiInt, tr_str hiStr, List.append_nil, List.cons_append, List.nil_append]; rfl
set_option maxRecDepth 100000 in
theorem wf_len {H : Type} {d : Nat} {x : DataW H} (h : wfD Tryz.prog (d + 1) 9 x) : (dS x).length <= 9223372036854775807 := by
  obtain ⟨l, rfl, hl⟩ := wf_str h hiStr; exact hl
set_option maxRecDepth 100000 in
theorem bd_rec {H : Type} {d : Nat} {x : DataW H} (h : wfD Tryz.prog (d + 2) 53 x) : RecB (decRec x) := by
  obtain ⟨xs, rfl, h'⟩ := wf_struct h stRec; obtain ⟨x0, xs, rfl, _, h⟩ := wfAll_cons h'; obtain ⟨x1, xs, rfl, _, h⟩ := wfAll_cons h; obtain ⟨x2, xs, rfl, _, h⟩ := wfAll_cons h; obtain ⟨x3, xs, rfl, _, h⟩ := wfAll_cons h; obtain ⟨x4, xs, rfl, _, h⟩ := wfAll_cons h; obtain ⟨x5, xs, rfl, _, h⟩ := wfAll_cons h; obtain ⟨x6, xs, rfl, _, h⟩ := wfAll_cons h; obtain ⟨x7, xs, rfl, _, h⟩ := wfAll_cons h; obtain ⟨x8, xs, rfl, h8, h⟩ := wfAll_cons h; obtain ⟨x9, xs, rfl, h9, h⟩ := wfAll_cons h; exact ⟨wf_len h8, wf_len h9⟩
set_option maxRecDepth 100000 in
theorem slRec : sliceT Tryz.prog 48 = some 53 := by kernel_rfl
set_option maxRecDepth 100000 in
theorem row_rec {H : Type} {d : Nat} (x : DataW H) : (T.sl (Tryz.prog.cellsOf 53) (elemsD x).length fun i => trT Tryz.prog (d + 2) 53 ((elemsD x).getD i .nil)) = recS ((elemsD x).map decRec) := by
  unfold recS; rw [show Tryz.prog.cellsOf 53 = 10 by kernel_rfl, List.length_map]
  congr 1
  funext i
  rw [tr_rec]; unfold recRow; exact congrArg Rec.ts (map_getD decRec (elemsD x) i (d := .nil) (d' := default) rfl).symm

def decStrs {H : Type} (x : DataW H) : List (List UInt8) := (elemsD x).map dS
def decInts {H : Type} (x : DataW H) : List Int := (elemsD x).map dI
def decPend {H : Type} (x : DataW H) : Pend := ⟨dI (nthD (partsD x) 0), dS (nthD (partsD x) 1)⟩
def decDsk {H : Type} (x : DataW H) : Dsk := ⟨decStrs (nthD (partsD x) 0), (elemsD (nthD (partsD x) 1)).map decPend, dB (nthD (partsD x) 2), decInts (nthD (partsD x) 3)⟩
def decPg {H : Type} (x : DataW H) : Pg := ⟨dI (nthD (partsD x) 0), decStrs (nthD (partsD x) 1)⟩
def decFrm {H : Type} (x : DataW H) : Frm := ⟨dI (nthD (partsD x) 0), decPg (nthD (partsD x) 1), dB (nthD (partsD x) 2), dI (nthD (partsD x) 3)⟩
def decSto {H : Type} (x : DataW H) : Sto := ⟨decDsk (nthD (partsD x) 0), dI (nthD (partsD x) 1), (elemsD (nthD (partsD x) 2)).map decRec, dI (nthD (partsD x) 3), (elemsD (nthD (partsD x) 4)).map decFrm, dI (nthD (partsD x) 5)⟩
set_option maxRecDepth 100000
theorem slStr : sliceT Tryz.prog 23 = some 9 := by kernel_rfl
theorem slInt : sliceT Tryz.prog 25 = some 3 := by kernel_rfl
theorem slPend : sliceT Tryz.prog 45 = some 188 := by kernel_rfl
theorem slFrm : sliceT Tryz.prog 49 = some 149 := by kernel_rfl
theorem stPend : structT Tryz.prog 188 = some [3, 9] := by kernel_rfl
theorem stDsk : structT Tryz.prog 47 = some [23, 45, 4, 25] := by kernel_rfl
theorem stPg : structT Tryz.prog 147 = some [3, 23] := by kernel_rfl
theorem stFrm : structT Tryz.prog 149 = some [3, 147, 4, 3] := by kernel_rfl
theorem stSto : structT Tryz.prog 51 = some [47, 3, 48, 3, 49, 3] := by kernel_rfl
theorem tr_strs {H : Type} {d : Nat} (x : DataW H) : trT Tryz.prog (d + 2) 23 x = [strS (decStrs x)] := by
  rw [tr_slice slStr (by kernel_rfl), show Tryz.prog.cellsOf 9 = 1 by kernel_rfl]
  unfold strS decStrs; rw [List.length_map]; congr 2
  funext i
  rw [tr_str hiStr]; exact congrArg (fun l => [T.str l]) (map_getD dS (elemsD x) i (d := .nil) (d' := []) rfl).symm
theorem tr_ints {H : Type} {d : Nat} (x : DataW H) : trT Tryz.prog (d + 2) 25 x = [intS (decInts x)] := by
  rw [tr_slice slInt (by kernel_rfl), show Tryz.prog.cellsOf 3 = 1 by kernel_rfl]
  unfold intS decInts; rw [List.length_map]; congr 2
  funext i
  rw [tr_int hiInt]; exact congrArg (fun l => [T.int .i64 l]) (map_getD dI (elemsD x) i (d := .nil) (d' := 0) rfl).symm
theorem tr_pend {H : Type} {d : Nat} (x : DataW H) : trT Tryz.prog (d + 2) 188 x = (decPend x).ts := by
  rw [tr_struct stPend]; simp only [trA, tr_int hiInt, tr_str hiStr, List.append_nil, List.cons_append, List.nil_append]; rfl
theorem tr_pends {H : Type} {d : Nat} (x : DataW H) : trT Tryz.prog (d + 3) 45 x = [pendS ((elemsD x).map decPend)] := by
  rw [tr_slice slPend (by kernel_rfl), show Tryz.prog.cellsOf 188 = 2 by kernel_rfl]
  unfold pendS; rw [List.length_map]; congr 2
  funext i
  rw [tr_pend]; exact congrArg Pend.ts (map_getD decPend (elemsD x) i (d := .nil) (d' := default) rfl).symm
theorem tr_dsk {H : Type} {d : Nat} (x : DataW H) : trT Tryz.prog (d + 4) 47 x = (decDsk x).ts := by
  rw [tr_struct stDsk]; simp only [trA, tr_bool hiBool, tr_strs (d := d + 1), tr_ints (d := d + 1), tr_pends, List.append_nil, List.cons_append, List.nil_append]; rfl
theorem tr_pg {H : Type} {d : Nat} (x : DataW H) : trT Tryz.prog (d + 3) 147 x = (decPg x).ts := by
  rw [tr_struct stPg]; simp only [trA, tr_int hiInt, tr_strs, List.append_nil, List.cons_append, List.nil_append]; rfl
theorem tr_frm {H : Type} {d : Nat} (x : DataW H) : trT Tryz.prog (d + 4) 149 x = (decFrm x).ts := by
  rw [tr_struct stFrm]; simp only [trA, tr_int hiInt, tr_bool hiBool, tr_pg]; rfl
theorem tr_frms {H : Type} {d : Nat} (x : DataW H) : trT Tryz.prog (d + 5) 49 x = [frmS ((elemsD x).map decFrm)] := by
  rw [tr_slice slFrm (by kernel_rfl), show Tryz.prog.cellsOf 149 = 5 by kernel_rfl]
  unfold frmS; rw [List.length_map]; congr 2
  funext i
  rw [tr_frm]; exact congrArg Frm.ts (map_getD decFrm (elemsD x) i (d := .nil) (d' := default) rfl).symm
theorem tr_recs {H : Type} {d : Nat} (x : DataW H) : trT Tryz.prog (d + 3) 48 x = [recS ((elemsD x).map decRec)] := by
  rw [tr_slice slRec (by kernel_rfl), row_rec]
theorem tr_sto {H : Type} {d : Nat} (x : DataW H) : trA Tryz.prog (d + 5) [47, 3, 48, 3, 49, 3] (partsD x) = (decSto x).ts := by
  simp only [trA, tr_int hiInt, tr_dsk (d := d + 1), tr_recs (d := d + 2), tr_frms]; rfl
theorem lm_strs {H : Type} {d : Nat} {x : DataW H} (h : wfD Tryz.prog (d + 2) 23 x) : LmL [] (fun s => Lim s.length) (decStrs x) := by
  obtain ⟨_, h2, h3⟩ := wf_slice h slStr; refine ⟨by unfold decStrs; rw [List.length_map]; exact h2, fun i hi => ?_⟩
  unfold decStrs at hi ⊢; rw [List.length_map] at hi; rw [map_getD dS (elemsD x) i (d := .nil) (d' := []) rfl, List.getD_eq_getElem?_getD, List.getElem?_eq_getElem hi]
  exact wf_len (h3 _ (List.getElem_mem hi))
theorem lm_pends {H : Type} {d : Nat} {x : DataW H} (h : wfD Tryz.prog (d + 3) 45 x) : LmL default LmP ((elemsD x).map decPend) := by
  obtain ⟨_, h2, h3⟩ := wf_slice h slPend; refine ⟨by rw [List.length_map]; exact h2, fun i hi => ?_⟩
  rw [List.length_map] at hi; rw [map_getD decPend (elemsD x) i (d := .nil) (d' := default) rfl, List.getD_eq_getElem?_getD, List.getElem?_eq_getElem hi]
  obtain ⟨xs, he, h'⟩ := wf_struct (h3 _ (List.getElem_mem hi)) stPend; obtain ⟨x0, xs, rfl, _, h'⟩ := wfAll_cons h'; obtain ⟨x1, xs, rfl, h1, h'⟩ := wfAll_cons h'; show (dS (nthD (partsD (elemsD x)[i]) 1)).length <= _; rw [he]; exact wf_len h1
theorem lm_dsk {H : Type} {d : Nat} {x : DataW H} (h : wfD Tryz.prog (d + 4) 47 x) : LmD (decDsk x) := by
  obtain ⟨xs, rfl, h'⟩ := wf_struct h stDsk; obtain ⟨x0, xs, rfl, h0, h'⟩ := wfAll_cons h'; obtain ⟨x1, xs, rfl, h1, h'⟩ := wfAll_cons h'; obtain ⟨x2, xs, rfl, _, h'⟩ := wfAll_cons h'; obtain ⟨x3, xs, rfl, h3, h'⟩ := wfAll_cons h'; refine ⟨lm_strs h0, lm_pends h1, ?_⟩
  show ((elemsD x3).map dI).length <= _; rw [List.length_map]; exact (wf_slice h3 slInt).2.1
theorem lm_frm {H : Type} {d : Nat} {x : DataW H} (h : wfD Tryz.prog (d + 4) 149 x) : LmF (decFrm x) := by
  obtain ⟨xs, rfl, h'⟩ := wf_struct h stFrm; obtain ⟨x0, xs, rfl, _, h'⟩ := wfAll_cons h'; obtain ⟨x1, xs, rfl, h1, h'⟩ := wfAll_cons h'; obtain ⟨ys, rfl, g⟩ := wf_struct h1 stPg; obtain ⟨y0, ys, rfl, _, g⟩ := wfAll_cons g; obtain ⟨y1, ys, rfl, g1, g⟩ := wfAll_cons g; exact lm_strs g1
theorem lm_sto {H : Type} {d : Nat} {x : DataW H} (h : wfD Tryz.prog (d + 6) 51 x) : LmS (decSto x) := by
  obtain ⟨xs, rfl, h'⟩ := wf_struct h stSto; obtain ⟨x0, xs, rfl, h0, h'⟩ := wfAll_cons h'; obtain ⟨x1, xs, rfl, _, h'⟩ := wfAll_cons h'; obtain ⟨x2, xs, rfl, h2, h'⟩ := wfAll_cons h'; obtain ⟨x3, xs, rfl, _, h'⟩ := wfAll_cons h'; obtain ⟨x4, xs, rfl, h4, h'⟩ := wfAll_cons h'; obtain ⟨_, r2, r3⟩ := wf_slice h2 slRec; obtain ⟨_, f2, f3⟩ := wf_slice h4 slFrm; refine ⟨lm_dsk h0, ⟨?_, fun r hr => ?_⟩, ⟨?_, fun i hi => ?_⟩⟩
  · show ((elemsD x2).map decRec).length <= _; rw [List.length_map]; exact r2
  · obtain ⟨y, hy, rfl⟩ := List.mem_map.1 hr; exact bd_rec (r3 y hy)
  · show ((elemsD x4).map decFrm).length <= _; rw [List.length_map]; exact f2
  · have hi : i < ((elemsD x4).map decFrm).length := hi; show LmF (((elemsD x4).map decFrm).getD i default); rw [List.length_map] at hi; rw [map_getD decFrm (elemsD x4) i (d := .nil) (d' := default) rfl, List.getD_eq_getElem?_getD, List.getElem?_eq_getElem hi]
    exact lm_frm (f3 _ (List.getElem_mem hi))

theorem eqSto_ok : ConOk Tryz.prog 26 k_eqSto := by
  rintro (s : Sto) ⟨h1, h2, h3, h4⟩; exact v_eqSto s ⟨s.d, ⟨⟨(eqD _), (eqD _), trivial⟩, h1⟩, fun h => h, fun _ => ⟨fun h => by simp at h, fun _ => ⟨s.log, ⟨⟨⟨rfl, rowsR _ _⟩, ⟨rfl, rowsR _ _⟩, trivial⟩, h2⟩, fun h => h, fun _ => ⟨fun h => by simp at h, fun _ => ⟨s.fr, ⟨⟨⟨rfl, rowsR _ _⟩, ⟨rfl, rowsR _ _⟩, trivial⟩, h3, h4⟩, fun h => h, fun _ => ⟨fun h => by simp at h, fun _ => rfl⟩⟩⟩⟩⟩⟩
theorem bulk_len {α : Type} (f : α -> Nat) (L : List α) : L.length <= bulkL f L := by
  have := bulkTo_mono f L L.length (Nat.zero_le L.length); have hz : bulkTo f L L.length 0 = L.length := rfl; unfold bulkL; omega
theorem bulk_get {α : Type} (f : α -> Nat) (L : List α) (d : α) {i : Nat} (hi : i < L.length) : f (L.getD i d) + L.length <= bulkL f L := by
  have h1 := bulkTo_mono f L L.length (show i + 1 <= L.length from hi)
  have h2 := bulkTo_succ f L L.length d hi; have h3 := bulkTo_mono f L L.length (Nat.zero_le i); have hz : bulkTo f L L.length 0 = L.length := rfl; unfold bulkL; omega
theorem rem_big {left : Int} {n : Nat} (h : ¬ rem left n < 0) : (n : Int) <= left := by
  by_cases hq : (n : Int) <= left
  · exact hq
  · rw [rem_lt (by omega)] at h
    omega
theorem small_sto {s : Sto} (h : bulkS s <= 1048576) : SmS s /\ StoB s := by
  have e : bulkS s = bulkL lenS s.d.sec + bulkL bulkP s.d.cache + s.d.keep.length + bulkL bulkR s.log + bulkL bulkF s.fr := rfl; have a1 := bulk_len lenS s.d.sec; have a2 := bulk_len bulkP s.d.cache; have a3 := bulk_len bulkR s.log; have a4 := bulk_len bulkF s.fr; have f1 : ∀ i, i < s.fr.length -> (s.fr.getD i default).pg.sl.length <= 1048576 := fun i hi => by
    have h1 := bulk_get bulkF s.fr default hi; have h2 := bulk_len lenS (s.fr.getD i default).pg.sl; have h3 : bulkF (s.fr.getD i default) = bulkL lenS (s.fr.getD i default).pg.sl := rfl; omega
  have l1 : ∀ r ∈ s.log, r.a.length <= 1048576 := fun r hr => by
    obtain ⟨i, hi, rfl⟩ := List.mem_iff_getElem.1 hr; have h1 := bulk_get bulkR s.log default hi; rw [List.getD_eq_getElem?_getD, List.getElem?_eq_getElem hi, Option.getD_some] at h1
    have h3 : bulkR s.log[i] = s.log[i].b.length + s.log[i].a.length := rfl; omega
  refine ⟨⟨⟨by omega, by omega, by omega⟩, by omega, by omega, f1⟩, ⟨by unfold Len; omega, by unfold Len; omega, by unfold Len; omega⟩, ⟨by omega, fun r hr => by have := l1 r hr; omega⟩, ⟨by unfold Len; omega, fun i hi => ?_⟩, fun r hr => ?_⟩
  · have := f1 i hi; show (s.fr.getD i default).pg.sl.length < 1000000000000; omega
  · have := l1 r hr; show r.a.length < 1000000000000; omega
theorem own : ownKnob Tryz.prog.godebug = none := by kernel_rfl
theorem joined {P : Program} {f : FuncId} {fn : Func} {s : ChangeSpec} {c : OpenClaim} (h0 : c.wf (OpenSpec.ofChange s) = true) (h1 : laidOutB P = true) (h2 : mapsRowed P = true)
    (h3 : fn.params.all (P.readableRec ·) = true) (h4 : namedTie P c.named s.vars = true) (h5 : (c.stops == []) = true) (h6 : (P.stops == []) = true) (h7 : (c.knobs == []) = true) (h8 : (P.stopKnobs == []) = true)
    (h9 : (c.inPlace == P.inPlace f) = true) (h10 : (c.unfollowed == P.unfollowed f) = true) (h11 : (c.recurses == P.recurses f) = true) (h12 : (c.named == P.varsNamed f) = true)
    (h13 : (c.maps == (fn.params.toList ++ s.plain.varTypes P).any (P.mapsRec ·)) = true) (h14 : (c.ifaces == (fn.params.toList ++ s.plain.varTypes P).any (P.ifacesRec ·)) = true) (h15 : (c.mapsOut == P.mapsAmong fn.resultTypes.toList) = true)
    (h16 : (c.loops == (fn.params.toList ++ s.plain.varTypes P).any (P.loopsFrom ·)) = true) (h17 : (c.wideKeys == (fn.params.toList ++ s.plain.varTypes P ++ fn.resultTypes.toList).any (P.wideKeysFrom ·)) = true)
    (h18 : s.vars.all (P.varReadable ·) = true) (h19 : fn.resultTypes.all (fun t => P.readableRec t && decide (t < P.types.size)) = true) (h20 : (c.ifacesOut == fn.resultTypes.toList.any (P.ifacesRec ·)) = true)
    (h21 : (c.loopsOut == fn.resultTypes.toList.any (P.loopsFrom ·)) = true) (h22 : (c.plainKeys == P.plainKeys) = true) (h23 : c.shortTexts.isNone = true) (h24 : P.stopsHeard = true) (h25 : P.mayEnter = true)
    (h26 : (c.lifted == P.liftsFinal) = true) (h27 : (P.make == some c.make) = true) (h28 : (c.kinds == (if c.domain.isEmpty then [] else fn.params.toList.map fun t => match P.underlying t with | some (.int k) => some k | _ => none)) = true) (h29 : (c.pinned == c.pinnedBy) = true)
    (h30 : (c.veiled == (fn.params.toList ++ s.plain.varTypes P ++ fn.resultTypes.toList).any (P.veiledRec ·)) = true) (h31 : c.veiledFits P fn.params.toList (fn.params.toList ++ s.plain.varTypes P ++ fn.resultTypes.toList) = true) : joinedFacts P f fn s c = true := by
  simp only [joinedFacts, Bool.and_eq_true]; exact ⟨⟨⟨⟨⟨⟨⟨⟨⟨⟨⟨⟨⟨⟨⟨⟨⟨⟨⟨⟨⟨⟨⟨⟨⟨⟨⟨⟨⟨⟨⟨h0, h1⟩, h2⟩, h3⟩, h4⟩, h5⟩, h6⟩, h7⟩, h8⟩, h9⟩, h10⟩, h11⟩, h12⟩, h13⟩, h14⟩, h15⟩, h16⟩, h17⟩, h18⟩, h19⟩, h20⟩, h21⟩, h22⟩, h23⟩, h24⟩, h25⟩, h26⟩, h27⟩, h28⟩, h29⟩, h30⟩, h31⟩
end Go.Proofs.YtndilbkocjlgpaaGreat

