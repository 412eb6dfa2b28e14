/- A part of the proof. -/
import Derived.Test.YtndilbkocjlgpaaGreatX11X11rX12X13
namespace Go.Proofs.YtndilbkocjlgpaaGreat
set_option maxRecDepth 100000
open Go.SS

def DkB (x : Dsk × Nat) : Prop := 1 + x.2 < x.1.sec.length /\ x.1.sec.length <= 1048576 /\ x.1.cache.length <= 1048576 /\ (rdAt x.1 (1 + x.2)).length <= 1000
end Go.Proofs.YtndilbkocjlgpaaGreat

namespace Go.Proofs.YtndilbkocjlgpaaGreat
set_option maxRecDepth 100000
open Go.SS

structure SInv (s : Sto) : Prop where
  sm : SmS s
  c : s.d.cache.length <= 500
  pd : PdB s.d
  n69 : s.d.sec.length = 69
  su : 0 <= s.sure /\ s.sure <= s.log.length
  l60 : s.log.length <= 60
  rc : areOK s.log = true
  fr3 : s.fr.length <= 3
  frp : ∀ i, i < s.fr.length -> 0 <= (s.fr.getD i default).no /\ (s.fr.getD i default).no <= 7 /\ PgP (s.fr.getD i default).pg /\ (s.fr.getD i default).pg.lsn <= s.log.length
  hd : 0 <= s.hand /\ s.hand <= 2
  pg : ∀ no, no < 8 -> (pgAt s.d no).2 = true /\ (rdAt s.d (1 + no)).length <= 1000
theorem SInv.flu {s : Sto} (h : SInv s) {lsn : Int} (hl : lsn <= s.log.length) : FluB s lsn :=
  ⟨h.sm.1, by have := h.c; omega, h.pd, h.n69, h.su.1, h.su.2, h.l60, hl, fun i hi => by
    obtain ⟨a, b⟩ := areOK_iff.1 h.rc i hi; exact ⟨b, rec_sm a⟩⟩
theorem sto_inv {s : Sto} (h : stoOK s = true) (hm : SmS s) : SInv s := by
  obtain ⟨⟨h1, h2, h3⟩, _, h4, h5, h6⟩ := (sto_split s).1 h; obtain ⟨c1, c2, _, _, c5⟩ := (hdr_split s).1 h1; have hf := sto_flu (lsn := 0) h (by omega) hm
  have h3 := inR_t h3; have h6 := inR_t h6; unfold frmsOK at h5; simp only [Bool.and_eq_true, Bool.not_eq_true', anyI_no, decide_eq_true_eq] at h5; refine ⟨hm, c1.2.2.1, hf.2.2.1, c2, h3, c5, h2, by omega, fun i hi => ?_, h6, fun no hn => ⟨?_, ?_⟩⟩
  · have hb := h5.1 i hi; unfold frmBad at hb; simp only [Bool.or_eq_false_iff, Bool.not_eq_false', decide_eq_false_iff_not] at hb; obtain ⟨⟨⟨⟨⟨b1, _⟩, b3⟩, b4⟩, _⟩, _⟩ := hb; have b1 := inR_t b1; have b3 : PgP (s.fr.getD i default).pg := of_decide_eq_true b3; exact ⟨b1.1, b1.2, b3, by omega⟩
  · have hb := h4 no hn; unfold badPg at hb; simp only [Bool.or_eq_false_iff, Bool.not_eq_false'] at hb; exact hb.1
  · have := rdAt_le c1 (at_ := 1 + no) (by omega)
    omega
def syn5 (d : Dsk) : Dsk × Bool := if 500 <= d.cache.length then synD d else (d, true)
def clF (f : Frm) : Frm := ⟨f.no, f.pg, false, 0⟩
def wrF (a : Sto) (k : Nat) : Sto := ⟨wrD a.d (1 + (a.fr.getD k default).no) (pgBytes (a.fr.getD k default).no (a.fr.getD k default).pg), a.ep, a.log, a.sure, a.fr.set k (clF (a.fr.getD k default)), a.hand⟩
def outS (s : Sto) (k : Nat) : Sto × Bool := if (s.fr.getD k default).dirty = true then
    if (fluS s (s.fr.getD k default).pg.lsn).2 = true then
      if (syn5 (fluS s (s.fr.getD k default).pg.lsn).1.d).2 = true then (wrF ((fluS s (s.fr.getD k default).pg.lsn).1.sd (syn5 (fluS s (s.fr.getD k default).pg.lsn).1.d).1) k, true)
      else ((fluS s (s.fr.getD k default).pg.lsn).1.sd (syn5 (fluS s (s.fr.getD k default).pg.lsn).1.d).1, false)
    else ((fluS s (s.fr.getD k default).pg.lsn).1, false)
  else (s, true)
theorem flu_fr (s : Sto) (l : Int) : (fluS s l).1.fr = s.fr := by
  by_cases h : l <= s.sure
  · rw [flu_le h]
  · rw [flu_gt h]
theorem syn_cache (d : Dsk) : (synD d).1.cache = [] := by
  unfold synD; split <;> rfl
theorem pd_nil {d : Dsk} (h : d.cache = []) : PdB d := fun i hi => by rw [h] at hi; exact absurd hi (Nat.not_lt_zero _)
theorem flu_pd {s : Sto} {l : Int} (h : PdB s.d) : PdB (fluS s l).1.d := by
  by_cases hl : l <= s.sure
  · rw [flu_le hl]; exact h
  · rw [flu_gt hl]; exact pd_nil (syn_cache _)
theorem flu_c {s : Sto} {l : Int} (h : s.d.cache.length <= 500) : (fluS s l).1.d.cache.length <= 500 := by
  by_cases hl : l <= s.sure
  · rw [flu_le hl]; exact h
  · rw [flu_gt hl]; dsimp only; rw [syn_cache]; exact Nat.zero_le _
theorem out_clean {s : Sto} {k : Nat} (h : (s.fr.getD k default).dirty = false) : outS s k = (s, true) := by
  unfold outS; rw [if_neg (by rw [h]; simp)]
theorem out_down {s : Sto} {k : Nat} (h : (s.fr.getD k default).dirty = true) (hu : (fluS s (s.fr.getD k default).pg.lsn).2 = false) : outS s k = ((fluS s (s.fr.getD k default).pg.lsn).1, false) := by
  unfold outS; rw [if_pos h, if_neg (by rw [hu]; simp)]
theorem out_syn {s : Sto} {k : Nat} (h : (s.fr.getD k default).dirty = true) (hu : (fluS s (s.fr.getD k default).pg.lsn).2 = true) (hb : (syn5 (fluS s (s.fr.getD k default).pg.lsn).1.d).2 = false) : outS s k = ((fluS s (s.fr.getD k default).pg.lsn).1.sd (syn5 (fluS s (s.fr.getD k default).pg.lsn).1.d).1, false) := by
  unfold outS; rw [if_pos h, if_pos hu, if_neg (by rw [hb]; simp)]
theorem out_up {s : Sto} {k : Nat} (h : (s.fr.getD k default).dirty = true) (hu : (fluS s (s.fr.getD k default).pg.lsn).2 = true) (hb : (syn5 (fluS s (s.fr.getD k default).pg.lsn).1.d).2 = true) : outS s k = (wrF ((fluS s (s.fr.getD k default).pg.lsn).1.sd (syn5 (fluS s (s.fr.getD k default).pg.lsn).1.d).1) k, true) := by
  unfold outS; rw [if_pos h, if_pos hu, if_pos hb]
theorem syn5_t {d : Dsk} (h : 500 <= d.cache.length) : syn5 d = synD d := if_pos h
theorem syn5_f {d : Dsk} (h : ¬ 500 <= d.cache.length) : syn5 d = (d, true) := if_neg h
end Go.Proofs.YtndilbkocjlgpaaGreat

