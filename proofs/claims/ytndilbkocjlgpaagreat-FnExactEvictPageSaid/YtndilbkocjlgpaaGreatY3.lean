/- A part of the proof. -/
import Derived.Test.YtndilbkocjlgpaaGreatY1Y2
namespace Go.Proofs.YtndilbkocjlgpaaGreat
set_option maxRecDepth 100000
open Go.SS

theorem syn_sec (d : Dsk) : (synD d).1.sec.length = d.sec.length := by
  unfold synD; split
  · exact stl_len _ _ _ _
  · exact stl_len _ _ _ _
theorem flu_sec (s : Sto) (l : Int) : (fluS s l).1.d.sec.length = s.d.sec.length := by
  by_cases hl : l <= s.sure
  · rw [flu_le hl]
  · rw [flu_gt hl]; exact syn_sec _
theorem flu_rest (s : Sto) (l : Int) : (fluS s l).1.fr = s.fr /\ (fluS s l).1.hand = s.hand /\ (fluS s l).1.log = s.log /\ (fluS s l).1.ep = s.ep := by
  by_cases h : l <= s.sure
  · rw [flu_le h]; exact ⟨rfl, rfl, rfl, rfl⟩
  · rw [flu_gt h]; exact ⟨rfl, rfl, rfl, rfl⟩
theorem syn5_sec (d : Dsk) : (syn5 d).1.sec.length = d.sec.length := by
  unfold syn5; split
  · exact syn_sec d
  · rfl
theorem syn5_c {d : Dsk} (h : d.cache.length <= 500) : (syn5 d).1.cache.length <= 499 := by
  unfold syn5; split
  · rw [syn_cache]; exact Nat.zero_le _
  · dsimp only; omega
theorem out_rest (s : Sto) (k : Nat) : (outS s k).1.fr.length = s.fr.length /\ (outS s k).1.hand = s.hand /\ (outS s k).1.log = s.log /\ (outS s k).1.ep = s.ep /\ (outS s k).1.d.sec.length = s.d.sec.length := by
  obtain ⟨h1, h2, h3, h4⟩ := flu_rest s (s.fr.getD k default).pg.lsn; have h5 := flu_sec s (s.fr.getD k default).pg.lsn; unfold outS; split
  · split
    · split
      · exact ⟨by show (List.set _ _ _).length = _; rw [List.length_set]; exact congrArg List.length h1, h2, h3, h4, by show (syn5 _).1.sec.length = _; rw [syn5_sec, h5]⟩
      · exact ⟨congrArg List.length h1, h2, h3, h4, by show (syn5 _).1.sec.length = _; rw [syn5_sec, h5]⟩
    · exact ⟨congrArg List.length h1, h2, h3, h4, h5⟩
  · exact ⟨rfl, rfl, rfl, rfl, rfl⟩
theorem frAt_in {L : List Frm} {no : Int} (h : 0 <= frAt L no) : (frAt L no).toNat < L.length := by
  unfold frAt fstI at h ⊢; split at h
  · rename_i i hi; have := List.mem_range.1 (List.mem_of_find?_eq_some hi)
    simpa using this
  · omega
def FetB (s : Sto) (no : Nat) : Prop := SInv s /\ no < 8
end Go.Proofs.YtndilbkocjlgpaaGreat

