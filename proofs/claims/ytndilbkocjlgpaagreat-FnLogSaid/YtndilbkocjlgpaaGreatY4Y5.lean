/- A part of the proof. -/
import Derived.Test.YtndilbkocjlgpaaGreatY3
namespace Go.Proofs.YtndilbkocjlgpaaGreat
set_option maxRecDepth 100000
open Go.SS

theorem pgAt_ok {d : Dsk} {no : Nat} (h : (pgAt d no).2 = true) : PgP (pgAt d no).1 := by
  unfold pgAt at h ⊢; by_cases hr : rdAt d (1 + no) = []
  · rw [if_pos hr]; refine ⟨Int.le_refl _, by decide, rfl, fun i hi => ?_⟩
    match i, hi with
    | 0, _ => exact Nat.zero_le _
    | 1, _ => exact Nat.zero_le _
    | 2, _ => exact Nat.zero_le _
    | 3, _ => exact Nat.zero_le _
  · rw [if_neg hr] at h ⊢; unfold rdPg at h ⊢; split at h
    · rename_i hc; rw [if_pos hc]; simp only [Bool.and_eq_true] at h; exact of_decide_eq_true h.2
    · cases h
theorem fet_fr {s : Sto} {no : Nat} (h : SInv s) (hno : no < 8) (hu : (fetS s no).2.2 = true) : (fetS s no).2.1 < (fetS s no).1.fr.length /\ PgP ((fetS s no).1.fr.getD (fetS s no).2.1 default).pg := by
  by_cases hc : 0 <= frAt s.fr no
  · rw [(fet_hit 0 hc).1]; exact ⟨frAt_in hc, (h.frp _ (frAt_in hc)).2.2.1⟩
  · by_cases h3 : s.fr.length = 3
    · cases ho : (outS s s.hand.toNat).2 with
      | false =>
        rw [(fet_down 0 hc h3 ho).1] at hu; cases hu
      | true =>
        rw [(fet_next 0 hc h3 ho).1]; have hh := h.hd; have hl := (out_rest s s.hand.toNat).1; have hp := (fet_pg h hno hc h3 ho).2.2; unfold nextF; dsimp only; rw [List.length_set, List.getD_eq_getElem?_getD, List.getElem?_set_self (by omega)]
        exact ⟨by omega, pgAt_ok hp⟩
    · rw [(fet_add 0 hc h3).1]; unfold addF; dsimp only; rw [List.getD_eq_getElem?_getD, List.getElem?_append_right (Nat.le_refl _), List.length_append]
      simp only [Nat.sub_self, List.getElem?_cons_zero, Option.getD_some, List.length_cons, List.length_nil]
      exact ⟨by omega, pgAt_ok (h.pg no hno).1⟩
def chgF (f : Frm) (r : Rec) : Frm := ⟨f.no, ⟨r.l, f.pg.sl.set r.s.toNat r.a⟩, true, if f.dirty = true then f.first else r.l⟩
def setP (a : Sto) (k : Nat) (r : Rec) : Sto := ⟨a.d, a.ep, a.log, a.sure, a.fr.set k (chgF (a.fr.getD k default) r), a.hand⟩
noncomputable def aplS (s : Sto) (r : Rec) : Sto × Bool := if (fetS s r.g.toNat).2.2 = true then (setP (fetS s r.g.toNat).1 (fetS s r.g.toNat).2.1 r, true) else ((fetS s r.g.toNat).1, false)
def AplB (s : Sto) (r : Rec) : Prop := SInv s /\ 0 <= r.g /\ r.g < 8 /\ 0 <= r.s /\ r.s < 4
theorem set_at {L : List Frm} {k : Nat} (f : Frm) (h : k < L.length) : (L.set k f).getD k default = f := by rw [List.getD_eq_getElem?_getD, List.getElem?_set_self h]; rfl
end Go.Proofs.YtndilbkocjlgpaaGreat

namespace Go.Proofs.YtndilbkocjlgpaaGreat
set_option maxRecDepth 100000
open Go.SS

theorem inv_apl {s : Sto} {lsn : Int} (h : SInv s) (h1 : 1 <= lsn) (h2 : lsn <= s.log.length) : AplB s (s.log.getD (lsn - 1).toNat default) /\ (s.log.getD (lsn - 1).toNat default).l = lsn := by
  obtain ⟨a, b⟩ := areOK_iff.1 h.rc (lsn - 1).toNat (by omega)
  have a := (recOK_iff _).1 a; obtain ⟨_, _, _, _, _, _, _, _, _, _, q1, q2, q3, q4, _⟩ := a; exact ⟨⟨h, q1, by omega, q3, by omega⟩, by omega⟩
end Go.Proofs.YtndilbkocjlgpaaGreat

