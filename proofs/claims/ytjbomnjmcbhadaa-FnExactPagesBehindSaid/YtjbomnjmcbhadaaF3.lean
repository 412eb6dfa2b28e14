/- A part of the proof of a law: what functions of the program compute, shown by a calculus of symbolic states. -/
import Derived.Test.YtjbomnjmcbhadaaF2
namespace Go.Proofs.Ytjbomnjmcbhadaa
open Go.SS

theorem eqSto_ok : ConOk Try.prog 14 k_eqSto := by
  rintro (s : Sto) ⟨h1, h2, h3, h4⟩
  exact v_eqSto s ⟨s.d, ⟨⟨⟨⟨rfl, rowsR _ _⟩, ⟨rfl, rowsR _ _⟩, rfl, ⟨rfl, rowsR _ _⟩, trivial⟩, ⟨⟨rfl, rowsR _ _⟩, ⟨rfl, rowsR _ _⟩, rfl, ⟨rfl, rowsR _ _⟩, trivial⟩, trivial⟩, h1⟩, fun h => h, fun _ => ⟨fun h => by simp at h, fun _ => ⟨s.log, ⟨⟨⟨rfl, rowsR _ _⟩, ⟨rfl, rowsR _ _⟩, trivial⟩, h2⟩, fun h => h, fun _ => ⟨fun h => by simp at h, fun _ => ⟨s.fr, ⟨⟨⟨rfl, rowsR _ _⟩, ⟨rfl, rowsR _ _⟩, trivial⟩, h3, h4⟩, fun h => h, fun _ => ⟨fun h => by simp at h, fun _ => rfl⟩⟩⟩⟩⟩⟩
-- what is of small bulk is small
theorem bulk_len {α : Type} (f : α → Nat) (L : List α) : L.length ≤ bulkL f L := by
  have := bulkTo_mono f L L.length (Nat.zero_le L.length)
  have hz : bulkTo f L L.length 0 = L.length := rfl
  unfold bulkL
  omega
theorem bulk_get {α : Type} (f : α → Nat) (L : List α) (d : α) {i : Nat} (hi : i < L.length) : f (L.getD i d) + L.length ≤ bulkL f L := by
  have h1 := bulkTo_mono f L L.length (show i + 1 ≤ L.length from hi)
  have h2 := bulkTo_succ f L L.length d hi
  have h3 := bulkTo_mono f L L.length (Nat.zero_le i)
  have hz : bulkTo f L L.length 0 = L.length := rfl
  unfold bulkL
  omega
theorem rem_big {left : Int} {n : Nat} (h : ¬ rem left n < 0) : (n : Int) ≤ left := by
  by_cases hq : (n : Int) ≤ left
  · exact hq
  · rw [rem_lt (by omega)] at h
    omega
theorem small_sto {s : Sto} (h : bulkS s ≤ 1048576) : SmS s ∧ StoB s := by
  have e : bulkS s = bulkL lenS s.d.sec + bulkL bulkP s.d.cache + s.d.keep.length + bulkL bulkR s.log + bulkL bulkF s.fr := rfl
  have a1 := bulk_len lenS s.d.sec
  have a2 := bulk_len bulkP s.d.cache
  have a3 := bulk_len bulkR s.log
  have a4 := bulk_len bulkF s.fr
  have f1 : ∀ i, i < s.fr.length → (s.fr.getD i default).pg.sl.length ≤ 1048576 := fun i hi => by
    have h1 := bulk_get bulkF s.fr default hi
    have h2 := bulk_len lenS (s.fr.getD i default).pg.sl
    have h3 : bulkF (s.fr.getD i default) = bulkL lenS (s.fr.getD i default).pg.sl := rfl
    omega
  have l1 : ∀ r ∈ s.log, r.a.length ≤ 1048576 := fun r hr => by
    obtain ⟨i, hi, rfl⟩ := List.mem_iff_getElem.1 hr
    have h1 := bulk_get bulkR s.log default hi
    rw [List.getD_eq_getElem?_getD, List.getElem?_eq_getElem hi, Option.getD_some] at h1
    have h3 : bulkR s.log[i] = s.log[i].b.length + s.log[i].a.length := rfl
    omega
  refine ⟨⟨⟨by omega, by omega, by omega⟩, by omega, by omega, f1⟩, ⟨by unfold Len; omega, by unfold Len; omega, by unfold Len; omega⟩, ⟨by omega, fun r hr => by have := l1 r hr; omega⟩, ⟨by unfold Len; omega, fun i hi => ?_⟩, fun r hr => ?_⟩
  · have := f1 i hi
    show (s.fr.getD i default).pg.sl.length < 1000000000000
    omega
  · have := l1 r hr
    show r.a.length < 1000000000000
    omega
noncomputable def b_LawB : Code := Try.f4.body.getD .skip
theorem call_LawB : Callable Try.prog 4 := ⟨_, Try.func4, by kernel_rfl, by kernel_rfl⟩
set_option maxRecDepth 100000 in
theorem v_LawB (s : Sto) (h :
    ∃ (x : r_szSto.ι), ((((s.d.sec.length = x.fst.d.sec.length ∧ RowsEq s.d.sec.length (strRow s.d.sec) (strRow x.fst.d.sec)) ∧ (s.d.cache.length = x.fst.d.cache.length ∧ RowsEq s.d.cache.length (pendRow s.d.cache) (pendRow
    x.fst.d.cache)) ∧ s.d.armed = x.fst.d.armed ∧ (s.d.keep.length = x.fst.d.keep.length ∧ RowsEq s.d.keep.length (intRow s.d.keep) (intRow x.fst.d.keep)) ∧ s.ep = x.fst.ep ∧ (s.log.length = x.fst.log.length ∧ RowsEq s.log.length
    (recRow s.log) (recRow x.fst.log)) ∧ s.sure = x.fst.sure ∧ (s.fr.length = x.fst.fr.length ∧ RowsEq s.fr.length (frmRow s.fr) (frmRow x.fst.fr)) ∧ s.hand = x.fst.hand ∧ True) ∧ (1048576 : Int) = x.snd ∧ True) ∧ Left x.snd ∧ LmS
    x.fst) ∧ (decide (rem x.snd (bulkS x.fst) < (0 : Int)) = true → true = true) ∧ (decide (rem x.snd (bulkS x.fst) < (0 : Int)) = false → ∃ (x : r_toSto.ι), ((((s.d.sec.length = x.d.sec.length ∧ RowsEq s.d.sec.length (strRow s.d.sec)
    (strRow x.d.sec)) ∧ (s.d.cache.length = x.d.cache.length ∧ RowsEq s.d.cache.length (pendRow s.d.cache) (pendRow x.d.cache)) ∧ s.d.armed = x.d.armed ∧ (s.d.keep.length = x.d.keep.length ∧ RowsEq s.d.keep.length (intRow s.d.keep)
    (intRow x.d.keep)) ∧ s.ep = x.ep ∧ (s.log.length = x.log.length ∧ RowsEq s.log.length (recRow s.log) (recRow x.log)) ∧ s.sure = x.sure ∧ (s.fr.length = x.fr.length ∧ RowsEq s.fr.length (frmRow s.fr) (frmRow x.fr)) ∧ s.hand =
    x.hand ∧ True) ∧ True) ∧ SmS x) ∧ ∃ (x_1 : r_PagesBehind.ι), ((((x.d.sec.length = x_1.d.sec.length ∧ RowsEq x.d.sec.length (strRow x.d.sec) (strRow x_1.d.sec)) ∧ (x.d.cache.length = x_1.d.cache.length ∧ RowsEq x.d.cache.length
    (pendRow x.d.cache) (pendRow x_1.d.cache)) ∧ x.d.armed = x_1.d.armed ∧ (x.d.keep.length = x_1.d.keep.length ∧ RowsEq x.d.keep.length (intRow x.d.keep) (intRow x_1.d.keep)) ∧ x.ep = x_1.ep ∧ (x.log.length = x_1.log.length ∧ RowsEq
    x.log.length (recRow x.log) (recRow x_1.log)) ∧ x.sure = x_1.sure ∧ (x.fr.length = x_1.fr.length ∧ RowsEq x.fr.length (frmRow x.fr) (frmRow x_1.fr)) ∧ x.hand = x_1.hand ∧ True) ∧ True) ∧ StoB x_1) ∧ ∃ (x : r_toSto.ι),
    ((((s.d.sec.length = x.d.sec.length ∧ RowsEq s.d.sec.length (strRow s.d.sec) (strRow x.d.sec)) ∧ (s.d.cache.length = x.d.cache.length ∧ RowsEq s.d.cache.length (pendRow s.d.cache) (pendRow x.d.cache)) ∧ s.d.armed = x.d.armed ∧
    (s.d.keep.length = x.d.keep.length ∧ RowsEq s.d.keep.length (intRow s.d.keep) (intRow x.d.keep)) ∧ s.ep = x.ep ∧ (s.log.length = x.log.length ∧ RowsEq s.log.length (recRow s.log) (recRow x.log)) ∧ s.sure = x.sure ∧ (s.fr.length =
    x.fr.length ∧ RowsEq s.fr.length (frmRow s.fr) (frmRow x.fr)) ∧ s.hand = x.hand ∧ True) ∧ True) ∧ SmS x) ∧ ∃ (x_2 : r_PagesBehind.ι), ((((x.d.sec.length = x_2.d.sec.length ∧ RowsEq x.d.sec.length (strRow x.d.sec) (strRow
    x_2.d.sec)) ∧ (x.d.cache.length = x_2.d.cache.length ∧ RowsEq x.d.cache.length (pendRow x.d.cache) (pendRow x_2.d.cache)) ∧ x.d.armed = x_2.d.armed ∧ (x.d.keep.length = x_2.d.keep.length ∧ RowsEq x.d.keep.length (intRow x.d.keep)
    (intRow x_2.d.keep)) ∧ x.ep = x_2.ep ∧ (x.log.length = x_2.log.length ∧ RowsEq x.log.length (recRow x.log) (recRow x_2.log)) ∧ x.sure = x_2.sure ∧ (x.fr.length = x_2.fr.length ∧ RowsEq x.fr.length (frmRow x.fr) (frmRow x_2.fr)) ∧
    x.hand = x_2.hand ∧ True) ∧ True) ∧ StoB x_2) ∧ ((!(behRes x_2).fst == (behRes x_1).fst || (behRes x_2).snd != (behRes x_1).snd) = true → false = true) ∧ ((!(behRes x_2).fst == (behRes x_1).fst || (behRes x_2).snd != (behRes
    x_1).snd) = false → ∃ (x_3 : r_toSto.ι), ((((s.d.sec.length = x_3.d.sec.length ∧ RowsEq s.d.sec.length (strRow s.d.sec) (strRow x_3.d.sec)) ∧ (s.d.cache.length = x_3.d.cache.length ∧ RowsEq s.d.cache.length (pendRow s.d.cache)
    (pendRow x_3.d.cache)) ∧ s.d.armed = x_3.d.armed ∧ (s.d.keep.length = x_3.d.keep.length ∧ RowsEq s.d.keep.length (intRow s.d.keep) (intRow x_3.d.keep)) ∧ s.ep = x_3.ep ∧ (s.log.length = x_3.log.length ∧ RowsEq s.log.length (recRow
    s.log) (recRow x_3.log)) ∧ s.sure = x_3.sure ∧ (s.fr.length = x_3.fr.length ∧ RowsEq s.fr.length (frmRow s.fr) (frmRow x_3.fr)) ∧ s.hand = x_3.hand ∧ True) ∧ True) ∧ SmS x_3) ∧ ∃ (x_4 : r_eqSto.ι), ((((x.d.sec.length =
    x_4.d.sec.length ∧ RowsEq x.d.sec.length (strRow x.d.sec) (strRow x_4.d.sec)) ∧ (x.d.cache.length = x_4.d.cache.length ∧ RowsEq x.d.cache.length (pendRow x.d.cache) (pendRow x_4.d.cache)) ∧ x.d.armed = x_4.d.armed ∧
    (x.d.keep.length = x_4.d.keep.length ∧ RowsEq x.d.keep.length (intRow x.d.keep) (intRow x_4.d.keep)) ∧ x.ep = x_4.ep ∧ (x.log.length = x_4.log.length ∧ RowsEq x.log.length (recRow x.log) (recRow x_4.log)) ∧ x.sure = x_4.sure ∧
    (x.fr.length = x_4.fr.length ∧ RowsEq x.fr.length (frmRow x.fr) (frmRow x_4.fr)) ∧ x.hand = x_4.hand ∧ True) ∧ ((x_3.d.sec.length = x_4.d.sec.length ∧ RowsEq x_3.d.sec.length (strRow x_3.d.sec) (strRow x_4.d.sec)) ∧
    (x_3.d.cache.length = x_4.d.cache.length ∧ RowsEq x_3.d.cache.length (pendRow x_3.d.cache) (pendRow x_4.d.cache)) ∧ x_3.d.armed = x_4.d.armed ∧ (x_3.d.keep.length = x_4.d.keep.length ∧ RowsEq x_3.d.keep.length (intRow x_3.d.keep)
    (intRow x_4.d.keep)) ∧ x_3.ep = x_4.ep ∧ (x_3.log.length = x_4.log.length ∧ RowsEq x_3.log.length (recRow x_3.log) (recRow x_4.log)) ∧ x_3.sure = x_4.sure ∧ (x_3.fr.length = x_4.fr.length ∧ RowsEq x_3.fr.length (frmRow x_3.fr)
    (frmRow x_4.fr)) ∧ x_3.hand = x_4.hand ∧ True) ∧ True) ∧ SmS x_4) ∧ (false = true → false = true) ∧ (false = false → true = true)))) :
    PureFn Try.prog 4 [.agg s.ts] (.bool true) :=
  fn_vc mixed (cons_ok szSto_ok (cons_ok toSto_ok (cons_ok eqSto_ok (cons_ok PagesBehindi_ok (cons_ok PagesBehinds_ok nil_ok))))) (cons_call call_szSto (cons_call call_toSto (cons_call call_eqSto (cons_call call_PagesBehindi (cons_call call_PagesBehinds nil_call))))) Try.func4 (by kernel_rfl) (leB (by kernel_rfl)) noAnn (Eq.mp (β := vcFn Try.prog [(10, k_szSto), (12, k_toSto), (14, k_eqSto), (13, k_PagesBehindi), (11, k_PagesBehinds)] Try.f4.ntmps Try.f4.results.toList b_LawB [.agg s.ts] (.bool true) noAnn) (by kernel_rfl) h)
-- The law, of a store that is given as data.
theorem lawB_pure (s : Sto) (h : LmS s) : PureFn Try.prog 4 [.agg s.ts] (.bool true) := by
  refine v_LawB s ⟨(s, 1048576), ⟨⟨⟨⟨rfl, rowsR _ _⟩, ⟨rfl, rowsR _ _⟩, rfl, ⟨rfl, rowsR _ _⟩, rfl, ⟨rfl, rowsR _ _⟩, rfl, ⟨rfl, rowsR _ _⟩, rfl, trivial⟩, rfl, trivial⟩, ⟨by simp only; omega, by simp only; omega⟩, h⟩, fun _ => rfl, fun hr => ?_⟩
  have hb := rem_big (of_decide_eq_false hr)
  obtain ⟨hs, hB⟩ := small_sto (s := s) (by simp only at hb; omega)
  refine ⟨s, ⟨⟨⟨⟨rfl, rowsR _ _⟩, ⟨rfl, rowsR _ _⟩, rfl, ⟨rfl, rowsR _ _⟩, rfl, ⟨rfl, rowsR _ _⟩, rfl, ⟨rfl, rowsR _ _⟩, rfl, trivial⟩, trivial⟩, hs⟩, s, ⟨⟨⟨⟨rfl, rowsR _ _⟩, ⟨rfl, rowsR _ _⟩, rfl, ⟨rfl, rowsR _ _⟩, rfl, ⟨rfl, rowsR _ _⟩, rfl, ⟨rfl, rowsR _ _⟩, rfl, trivial⟩, trivial⟩, hB⟩, s, ⟨⟨⟨⟨rfl, rowsR _ _⟩, ⟨rfl, rowsR _ _⟩, rfl, ⟨rfl, rowsR _ _⟩, rfl, ⟨rfl, rowsR _ _⟩, rfl, ⟨rfl, rowsR _ _⟩, rfl, trivial⟩, trivial⟩, hs⟩, s, ⟨⟨⟨⟨rfl, rowsR _ _⟩, ⟨rfl, rowsR _ _⟩, rfl, ⟨rfl, rowsR _ _⟩, rfl, ⟨rfl, rowsR _ _⟩, rfl, ⟨rfl, rowsR _ _⟩, rfl, trivial⟩, trivial⟩, hB⟩, fun he => ?_, fun _ => ⟨s, ⟨⟨⟨⟨rfl, rowsR _ _⟩, ⟨rfl, rowsR _ _⟩, rfl, ⟨rfl, rowsR _ _⟩, rfl, ⟨rfl, rowsR _ _⟩, rfl, ⟨rfl, rowsR _ _⟩, rfl, trivial⟩, trivial⟩, hs⟩, s, ⟨⟨⟨⟨rfl, rowsR _ _⟩, ⟨rfl, rowsR _ _⟩, rfl, ⟨rfl, rowsR _ _⟩, rfl, ⟨rfl, rowsR _ _⟩, rfl, ⟨rfl, rowsR _ _⟩, rfl, trivial⟩, ⟨⟨rfl, rowsR _ _⟩, ⟨rfl, rowsR _ _⟩, rfl, ⟨rfl, rowsR _ _⟩, rfl, ⟨rfl, rowsR _ _⟩, rfl, ⟨rfl, rowsR _ _⟩, rfl, trivial⟩, trivial⟩, hs⟩, fun h => h, fun _ => rfl⟩⟩
  simp at he
end Go.Proofs.Ytjbomnjmcbhadaa

