/- A part of the proof. -/
import Derived.Test.YtndilbkocjlgpaaGreatY1Y2
namespace Go.Proofs.YtndilbkocjlgpaaGreat
set_option maxRecDepth 100000
open Go.SS

theorem lastAt_app (L D : List Pend) (a : Int) : ∀ i, i <= L.length -> lastAt (L ++ D) a i = lastAt L a i
  | 0, _ => rfl
  | i + 1, h => by
    unfold lastAt; rw [show (L ++ D).getD i default = L.getD i default by rw [List.getD_eq_getElem?_getD, List.getElem?_append_left (by omega), ← List.getD_eq_getElem?_getD], lastAt_app L D a i (by omega)]
theorem rd_wrD (d : Dsk) (a : Int) (t : List UInt8) (n : Nat) : rdAt (wrD d a t) n = if a = n then t else rdAt d n := by
  have e : (d.cache ++ [(⟨a, t⟩ : Pend)]).getD d.cache.length default = ⟨a, t⟩ := by rw [List.getD_eq_getElem?_getD, List.getElem?_append_right (Nat.le_refl _)]; simp
  have e2 : lastAt (d.cache ++ [(⟨a, t⟩ : Pend)]) n (d.cache.length + 1) = if a = n then some t else lastAt d.cache n d.cache.length := by
    conv => lhs; unfold lastAt
    rw [e, lastAt_app _ _ _ _ (Nat.le_refl _)]
  have e3 : rdAt (wrD d a t) n = (lastAt (d.cache ++ [(⟨a, t⟩ : Pend)]) n (d.cache.length + 1)).getD (d.sec.getD n []) := by
    unfold rdAt wrD; dsimp only; rw [show (d.cache ++ [(⟨a, t⟩ : Pend)]).length = d.cache.length + 1 by simp]
  rw [e3, e2]; split <;> rfl
theorem rd_wrN {s : Sto} {l : Int} (h : FluB s l) {n : Nat} (hn : n < 9) : ∀ i, i <= fluN s l -> rdAt (wrN s i) n = rdAt s.d n
  | 0, _ => by
    have : wrN s 0 = s.d := by unfold wrN; simp
    rw [this]
  | i + 1, hi => by
    have e : wrN s (i + 1) = wrD (wrN s i) (pdR s i).at_ (pdR s i).d := by
      unfold wrN wrD; dsimp only; rw [← wrN_succ]
    obtain ⟨e2, _, _⟩ := flu_nd h (i := i) (by omega)
    have h0 := h.2.2.2.2.1; rw [e, rd_wrD, if_neg (by rw [e2]; omega), rd_wrN h hn i (by omega)]
theorem stl_get {sec : List (List UInt8)} {C : List Pend} {n : Nat} (hn : n < sec.length) (hp : ∀ i, i < C.length -> 0 <= (C.getD i default).at_) : ∀ i, i <= C.length -> (stl sec C (fun _ => true) i).getD n [] = (lastAt C n i).getD (sec.getD n [])
  | 0, _ => rfl
  | i + 1, hi => by
    have ih := stl_get hn hp i (by omega)
    have h0 := hp i (by omega)
    rw [stl_t rfl]; unfold lastAt; by_cases h : (C.getD i default).at_ = n
    · rw [if_pos h, show (C.getD i default).at_.toNat = n by omega, List.getD_eq_getElem?_getD, List.getElem?_set_self (by rw [stl_len]; exact hn)]
      rfl
    · rw [if_neg h, List.getD_eq_getElem?_getD, List.getElem?_set_ne (by omega), ← List.getD_eq_getElem?_getD, ih]
theorem syn_t {d : Dsk} (h : (synD d).2 = true) : synD d = (⟨stl d.sec d.cache (fun _ => true) d.cache.length, [], d.armed, d.keep⟩, true) := by
  unfold synD at h ⊢; split at h
  · cases h
  · rw [if_neg (by assumption)]
theorem rd_syn {d : Dsk} {n : Nat} (h : (synD d).2 = true) (hp : PdB d) (hn : n < d.sec.length) : rdAt (synD d).1 n = rdAt d n := by
  rw [syn_t h]; exact stl_get hn (fun i hi => (hp i hi).1) _ (Nat.le_refl _)
theorem rd_flu {s : Sto} {l : Int} (h : FluB s l) (hu : (fluS s l).2 = true) {n : Nat} (hn : n < 9) : rdAt (fluS s l).1.d n = rdAt s.d n := by
  by_cases hl : l <= s.sure
  · rw [flu_le hl]
  · rw [flu_gt hl] at hu ⊢; have := h.2.2.2.1; rw [rd_syn hu (wrN_pd h).2 (show n < s.d.sec.length by omega), rd_wrN h hn _ (Nat.le_refl _)]
theorem rd_syn5 {d : Dsk} {n : Nat} (h : (syn5 d).2 = true) (hp : PdB d) (hn : n < d.sec.length) : rdAt (syn5 d).1 n = rdAt d n := by
  by_cases hc : 500 <= d.cache.length
  · rw [syn5_t hc] at h ⊢; exact rd_syn h hp hn
  · rw [syn5_f hc]
theorem syn_sec (d : Dsk) : (synD d).1.sec.length = d.sec.length := by
  unfold synD; split
  · exact stl_len _ _ _ _
  · exact stl_len _ _ _ _
theorem flu_sec (s : Sto) (l : Int) : (fluS s l).1.d.sec.length = s.d.sec.length := by
  by_cases hl : l <= s.sure
  · rw [flu_le hl]
  · rw [flu_gt hl]; exact syn_sec _
theorem flu_rest (s : Sto) (l : Int) : (fluS s l).1.fr = s.fr /\ (fluS s l).1.hand = s.hand /\ (fluS s l).1.log = s.log /\ (fluS s l).1.ep = s.ep := by
  by_cases h : l <= s.sure
  · rw [flu_le h]; exact ⟨rfl, rfl, rfl, rfl⟩
  · rw [flu_gt h]; exact ⟨rfl, rfl, rfl, rfl⟩
theorem syn5_sec (d : Dsk) : (syn5 d).1.sec.length = d.sec.length := by
  unfold syn5; split
  · exact syn_sec d
  · rfl
theorem syn5_c {d : Dsk} (h : d.cache.length <= 500) : (syn5 d).1.cache.length <= 499 := by
  unfold syn5; split
  · rw [syn_cache]; exact Nat.zero_le _
  · dsimp only; omega
theorem out_rest (s : Sto) (k : Nat) : (outS s k).1.fr.length = s.fr.length /\ (outS s k).1.hand = s.hand /\ (outS s k).1.log = s.log /\ (outS s k).1.ep = s.ep /\ (outS s k).1.d.sec.length = s.d.sec.length := by
  obtain ⟨h1, h2, h3, h4⟩ := flu_rest s (s.fr.getD k default).pg.lsn; have h5 := flu_sec s (s.fr.getD k default).pg.lsn; unfold outS; split
  · split
    · split
      · exact ⟨by show (List.set _ _ _).length = _; rw [List.length_set]; exact congrArg List.length h1, h2, h3, h4, by show (syn5 _).1.sec.length = _; rw [syn5_sec, h5]⟩
      · exact ⟨congrArg List.length h1, h2, h3, h4, by show (syn5 _).1.sec.length = _; rw [syn5_sec, h5]⟩
    · exact ⟨congrArg List.length h1, h2, h3, h4, h5⟩
  · exact ⟨rfl, rfl, rfl, rfl, rfl⟩
theorem out_page {s : Sto} {k no : Nat} (h : SInv s) (hk : k < s.fr.length) (hno : no < 8) (hne : (s.fr.getD k default).no ≠ no) (hu : (outS s k).2 = true) : rdAt (outS s k).1.d (1 + no) = rdAt s.d (1 + no) /\ (outS s k).1.d.cache.length <= 500 := by
  have hf := h.flu (h.frp k hk).2.2.2; have h0 := (h.frp k hk).1; have hfr := flu_fr s (s.fr.getD k default).pg.lsn; have hc := flu_c (l := (s.fr.getD k default).pg.lsn) h.c; have hp := flu_pd (l := (s.fr.getD k default).pg.lsn) h.pd; have hs := flu_sec s (s.fr.getD k default).pg.lsn; have h69 := h.n69; by_cases hd : (s.fr.getD k default).dirty = true
  · by_cases hf2 : (fluS s (s.fr.getD k default).pg.lsn).2 = true
    · by_cases h5 : (syn5 (fluS s (s.fr.getD k default).pg.lsn).1.d).2 = true
      · rw [out_up hd hf2 h5]; refine ⟨?_, ?_⟩
        · show rdAt (wrD _ (1 + ((fluS s _).1.fr.getD k default).no) _) (1 + no) = _; rw [hfr, rd_wrD, if_neg (by omega)]
          exact (rd_syn5 h5 hp (by omega)).trans (rd_flu hf hf2 (by omega))
        · have := syn5_c hc; show ((syn5 _).1.cache ++ [_]).length <= 500; rw [List.length_append]; simp only [List.length_cons, List.length_nil]; omega
      · rw [out_syn hd hf2 (by simpa using h5)] at hu
        cases hu
    · rw [out_down hd (by simpa using hf2)] at hu
      cases hu
  · rw [out_clean (by simpa using hd)]
    exact ⟨rfl, h.c⟩
theorem frAt_in {L : List Frm} {no : Int} (h : 0 <= frAt L no) : (frAt L no).toNat < L.length := by
  unfold frAt fstI at h ⊢; split at h
  · rename_i i hi; have := List.mem_range.1 (List.mem_of_find?_eq_some hi)
    simpa using this
  · omega
theorem frAt_no {L : List Frm} {no : Int} (h : ¬ 0 <= frAt L no) {i : Nat} (hi : i < L.length) : (L.getD i default).no ≠ no := by
  have e := anyI_fst L.length (isNo L no); rw [show fstI L.length (isNo L no) = frAt L no from rfl, decide_eq_false h] at e
  have := anyI_no.1 e.symm i hi; unfold isNo at this
  simpa using this
theorem pgAt_congr {d d' : Dsk} {no : Nat} (h : rdAt d (1 + no) = rdAt d' (1 + no)) : pgAt d no = pgAt d' no /\ pgAtI d no = pgAtI d' no := by
  unfold pgAt pgAtI; rw [h]; exact ⟨rfl, rfl⟩
def frmN (no : Nat) (p : Pg) : Frm := ⟨no, p, false, 0⟩
noncomputable def nextF (a : Sto) (k no : Nat) : Sto := ⟨a.d, a.ep, a.log, a.sure, a.fr.set k (frmN no (pgAt a.d no).1), (a.hand + 1).tmod 3⟩
noncomputable def addF (a : Sto) (no : Nat) : Sto := ⟨a.d, a.ep, a.log, a.sure, a.fr ++ [frmN no (pgAt a.d no).1], a.hand⟩
noncomputable def fetS (s : Sto) (no : Nat) : Sto × Nat × Bool := if 0 <= frAt s.fr no then (s, (frAt s.fr no).toNat, true)
  else if s.fr.length = 3 then
    if (outS s s.hand.toNat).2 = true then (nextF (outS s s.hand.toNat).1 s.hand.toNat no, s.hand.toNat, true) else ((outS s s.hand.toNat).1, 0, false)
  else (addF s no, s.fr.length, true)
noncomputable def fetV (s : Sto) (no v : Nat) : Nat := if 0 <= frAt s.fr no then v
  else if s.fr.length = 3 then
    if (outS s s.hand.toNat).2 = true then v + 1 else v
  else 1
def FetB (s : Sto) (no : Nat) : Prop := SInv s /\ no < 8
theorem fet_hit {s : Sto} {no : Nat} (v : Nat) (h : 0 <= frAt s.fr no) : fetS s no = (s, (frAt s.fr no).toNat, true) /\ fetV s no v = v := ⟨if_pos h, if_pos h⟩
theorem fet_next {s : Sto} {no : Nat} (v : Nat) (h : ¬ 0 <= frAt s.fr no) (h3 : s.fr.length = 3) (hu : (outS s s.hand.toNat).2 = true) : fetS s no = (nextF (outS s s.hand.toNat).1 s.hand.toNat no, s.hand.toNat, true) /\ fetV s no v = v + 1 := by
  unfold fetS fetV; rw [if_neg h, if_pos h3, if_pos hu, if_neg h, if_pos h3, if_pos hu]; exact ⟨rfl, rfl⟩
theorem fet_down {s : Sto} {no : Nat} (v : Nat) (h : ¬ 0 <= frAt s.fr no) (h3 : s.fr.length = 3) (hu : (outS s s.hand.toNat).2 = false) : fetS s no = ((outS s s.hand.toNat).1, 0, false) /\ fetV s no v = v := by
  have hu : ¬ (outS s s.hand.toNat).2 = true := by rw [hu]; simp
  unfold fetS fetV; rw [if_neg h, if_pos h3, if_neg hu, if_neg h, if_pos h3, if_neg hu]; exact ⟨rfl, rfl⟩
theorem fet_add {s : Sto} {no : Nat} (v : Nat) (h : ¬ 0 <= frAt s.fr no) (h3 : ¬ s.fr.length = 3) : fetS s no = (addF s no, s.fr.length, true) /\ fetV s no v = 1 := by
  unfold fetS fetV; rw [if_neg h, if_neg h3, if_neg h, if_neg h3]; exact ⟨rfl, rfl⟩
theorem fet_pg {s : Sto} {no : Nat} (h : SInv s) (hno : no < 8) (hc : ¬ 0 <= frAt s.fr no) (h3 : s.fr.length = 3) (hu : (outS s s.hand.toNat).2 = true) : DkB ((outS s s.hand.toNat).1.d, no) /\ pgAtI (outS s s.hand.toNat).1.d no = pgAt (outS s s.hand.toNat).1.d no /\ (pgAt (outS s s.hand.toNat).1.d no).2 = true := by
  have hh := h.hd; have hk : s.hand.toNat < s.fr.length := by omega
  obtain ⟨p1, p2⟩ := out_page h hk hno (frAt_no hc hk) hu; obtain ⟨_, _, _, _, r5⟩ := out_rest s s.hand.toNat; have h69 := h.n69; obtain ⟨g1, g2⟩ := h.pg no hno; obtain ⟨c1, c2⟩ := pgAt_congr p1; refine ⟨⟨by dsimp only; omega, by dsimp only; omega, by dsimp only; omega, by show (rdAt _ _).length <= _; rw [p1]; exact g2⟩, ?_, by rw [c1]; exact g1⟩
  rw [c1, c2]; exact (pgAtI_eq s.d no).2 g1
theorem fet_pg0 {s : Sto} {no : Nat} (h : SInv s) (hno : no < 8) : DkB (s.d, no) /\ pgAtI s.d no = pgAt s.d no := by
  have h69 := h.n69; have hc := h.c; obtain ⟨g1, g2⟩ := h.pg no hno; exact ⟨⟨by dsimp only; omega, by dsimp only; omega, by dsimp only; omega, g2⟩, (pgAtI_eq s.d no).2 g1⟩
end Go.Proofs.YtndilbkocjlgpaaGreat

