/- A part of the proof. -/
import Derived.Test.YtndilbkocjlgpaaGreatY3
namespace Go.Proofs.YtndilbkocjlgpaaGreat
set_option maxRecDepth 100000
open Go.SS

theorem set_at {L : List Frm} {k : Nat} (f : Frm) (h : k < L.length) : (L.set k f).getD k default = f := by rw [List.getD_eq_getElem?_getD, List.getElem?_set_self h]; rfl
end Go.Proofs.YtndilbkocjlgpaaGreat

namespace Go.Proofs.YtndilbkocjlgpaaGreat
set_option maxRecDepth 100000
open Go.SS

theorem flu_down {s : Sto} {l : Int} (h : (fluS s l).2 = false) : s.sd (fluS s l).1.d = (fluS s l).1 := by
  by_cases hl : l <= s.sure
  · rw [flu_le hl] at h; cases h
  · rw [flu_gt hl] at h ⊢; dsimp only at h ⊢; rw [if_neg (by rw [h]; simp)]
    rfl
theorem flu_up {s : Sto} {l : Int} (hl : ¬ l <= s.sure) : (fluS s l).1.d.cache = [] := by
  rw [flu_gt hl]; exact syn_cache _
theorem out_keep {s : Sto} {k : Nat} (h : (outS s k).2 = false) : s.sd (outS s k).1.d = (outS s k).1 := by
  by_cases hd : (s.fr.getD k default).dirty = true
  · cases hf : (fluS s (s.fr.getD k default).pg.lsn).2 with
    | false =>
      rw [out_down hd hf]; exact flu_down hf
    | true =>
      cases h5 : (syn5 (fluS s (s.fr.getD k default).pg.lsn).1.d).2 with
      | false =>
        rw [out_syn hd hf h5]; by_cases hl : (s.fr.getD k default).pg.lsn <= s.sure
        · rw [flu_le hl]; rfl
        · rw [syn5_f (by rw [flu_up hl]; simp)] at h5
          cases h5
      | true =>
        rw [out_up hd hf h5] at h; cases h
  · rw [out_clean (by simpa using hd)] at h
    cases h
theorem sm_set {L : List Frm} {k : Nat} {f : Frm} (h : ∀ i, i < L.length -> SmF (L.getD i default)) (hf : SmF f) : ∀ i, i < (L.set k f).length -> SmF ((L.set k f).getD i default) := fun i hi => by
  rw [List.length_set] at hi; by_cases e : i = k
  · subst e; rw [set_at _ hi]; exact hf
  · rw [List.getD_eq_getElem?_getD, List.getElem?_set_ne (Ne.symm e), ← List.getD_eq_getElem?_getD]
    exact h i hi
theorem sm_syn5 {d : Dsk} (h : SmD d) : SmD (syn5 d).1 := by
  unfold syn5; split
  · exact smS_syn h
  · exact h
theorem smS_sd {s : Sto} {d : Dsk} (h : SmS s) (hd : SmD d) : SmS (s.sd d) := ⟨hd, h.2⟩
theorem smS_out {s : Sto} {k : Nat} (h : SInv s) (hk : k < s.fr.length) : SmS (outS s k).1 := by
  have hf := h.flu (h.frp k hk).2.2.2; have hS := smS_fluS hf h.sm; have hc := flu_c (l := (s.fr.getD k default).pg.lsn) h.c; have h5 := sm_syn5 hS.1; unfold outS; split
  · split
    · split
      · refine ⟨⟨h5.1, ?_, h5.2.2⟩, hS.2.1, ?_, ?_⟩
        · have := syn5_c hc; show ((syn5 _).1.cache ++ [_]).length <= _; rw [List.length_append]; simp only [List.length_cons, List.length_nil]; omega
        · show (List.set _ _ _).length <= _; rw [List.length_set]; exact hS.2.2.1
        · refine sm_set hS.2.2.2 ?_
          have := hS.2.2.2 k (by rw [flu_fr]; exact hk)
          exact this
      · exact smS_sd hS h5
    · exact hS
  · exact h.sm
theorem in8 (no : Int) : (decide (0 <= no) && decide (no < 8)) = inR no 0 7 := by
  unfold inR; rw [show decide (no < 8) = decide (no <= 7) from decide_eq_decide.2 (by omega)]
end Go.Proofs.YtndilbkocjlgpaaGreat

