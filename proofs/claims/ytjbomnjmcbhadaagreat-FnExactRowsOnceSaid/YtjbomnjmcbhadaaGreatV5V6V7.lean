/- A part of the proof. -/
import Derived.Test.YtjbomnjmcbhadaaGreatV4
namespace Go.Proofs.YtjbomnjmcbhadaaGreat
set_option maxRecDepth 100000
open Go.SS

theorem pg_new : PgP ⟨0, [[], [], [], []]⟩ := by
  refine ⟨by decide, by decide, rfl, fun i hi => ?_⟩
  match i, hi with
  | 0, _ => decide
  | 1, _ => decide
  | 2, _ => decide
  | 3, _ => decide
theorem pgAt_ok {d : Dsk} {no : Nat} (h : (pgAt d no).2 = true) : PgP (pgAt d no).1 := by
  unfold pgAt at h ⊢
  split at h
  · rename_i h0
    rw [if_pos h0]
    exact pg_new
  · rename_i h0
    rw [if_neg h0]
    unfold rdPg at h ⊢
    split at h
    · rename_i h1
      rw [if_pos h1]
      simp only [Bool.and_eq_true] at h
      exact (pgOK_iff _).1 h.2
    · cases h
theorem sto_frame {s : Sto} (h : stoOK s = true) {i : Nat} (hi : i < s.fr.length) : 0 ≤ (s.fr.getD i default).no ∧ (s.fr.getD i default).no ≤ 7 ∧ PgP (s.fr.getD i default).pg ∧ PgSide (s.d, (s.fr.getD i default).no.toNat) ∧ (pgAt s.d (s.fr.getD i default).no.toNat).2 = true := by
  obtain ⟨⟨h1, _⟩, _, h2, h3, _⟩ := (sto_split s).1 h
  obtain ⟨c1, c2, _⟩ := (hdr_split s).1 h1
  unfold frmsOK at h3
  simp only [Bool.and_eq_true, Bool.not_eq_true', anyI_no] at h3
  have h4 := h3.1 i hi
  unfold frmBad at h4
  simp only [Bool.or_eq_false_iff, Bool.not_eq_false', inR, Bool.and_eq_true, decide_eq_true_eq, pgOK_iff] at h4
  obtain ⟨⟨⟨⟨⟨⟨q1, q2⟩, _⟩, q3⟩, _⟩, _⟩, _⟩ := h4
  refine ⟨q1, q2, q3, ⟨c1, by simp only; omega⟩, ?_⟩
  have h5 := h2 (s.fr.getD i default).no.toNat (by omega)
  unfold badPg at h5
  simp only [Bool.or_eq_false_iff, Bool.not_eq_false'] at h5
  exact h5.1
theorem sto_page {s : Sto} (h : stoOK s = true) {no : Nat} (hn : no < 8) : (pgAt s.d no).2 = true ∧ PgP (pgE s no) := by
  obtain ⟨_, _, h2, _⟩ := (sto_split s).1 h
  have h5 := h2 no hn
  unfold badPg at h5
  simp only [Bool.or_eq_false_iff, Bool.not_eq_false'] at h5
  refine ⟨h5.1, ?_⟩
  unfold pgE
  split
  · exact pgAt_ok h5.1
  · rename_i hf
    obtain ⟨i, hi, _, _, hfi⟩ := fstI_lt (show ¬ frAt s.fr (no : Int) < 0 from hf)
    have hfi : frAt s.fr (no : Int) = (i : Int) := hfi
    rw [hfi, Int.toNat_natCast]
    exact (sto_frame h hi).2.2.1
theorem sto_rows {s : Sto} (h : stoOK s = true) (hf : Len s.fr.length) : StoR s := by
  obtain ⟨⟨h1, _⟩, _⟩ := (sto_split s).1 h
  obtain ⟨c1, c2, _⟩ := (hdr_split s).1 h1
  refine ⟨c1, c2, hf, fun no hn => ?_⟩
  obtain ⟨_, _, q3, q4⟩ := (sto_page h hn).2
  exact ⟨q3, fun i hi => by have := q4 i (by omega); omega⟩
-- no row stands twice: the reference
def rise (L : List Rw) (i : Nat) : Bool := decide (0 < i) && decide ((L.getD (i - 1) default).id ≥ (L.getD i default).id)
noncomputable def badT (e : Eng) (t : Nat) : Bool := anyI (rowsTo e.s t 8).length (rise (rowsTo e.s t 8))
noncomputable def onceR (e : Eng) : Bool × Int := if engOK e = true then (!anyI 3 (fun k => badT e (k + 1)), 0) else (false, 1)
noncomputable def onceT (e : Eng) : T := .tup [.bool (onceR e).1, .int .i64 (onceR e).2]
noncomputable def r_RowsOnce : Rl := ⟨Eng, fun e => [.agg e.ts], onceT, EngB⟩
noncomputable def k_RowsOnces : Con := .rel r_RowsOnce
noncomputable def A_RowsOnces (e : Eng) : Nat → Ann
  | 0 => .one {t : Nat // 1 ≤ t ∧ t ≤ 4 ∧ ∀ u, 1 ≤ u → u < t → badT e u = false} (fun x => ⟨[(1, .ref 0 0 0), (4, .int .i64 x.1)], [engBox e]⟩) (fun x => 4 - x.1) [.box 0] [.box 0] (fun x => fun
    | 1 => .one {i : Nat // 1 ≤ i ∧ (i ≤ (rowsTo e.s x.1 8).length ∨ i = 1) ∧ ∀ j, j < i → rise (rowsTo e.s x.1 8) j = false} (fun y => ⟨[(1, .ref 0 0 0), (4, .int .i64 x.1), (5, rwS (rowsTo e.s x.1 8)), (6, .int .i64 y.1)], [engBox e]⟩) (fun y => (rowsTo e.s x.1 8).length - y.1) [.box 0] [.box 0] (fun _ => noAnn)
    | _ => .none)
  | _ => .none
noncomputable def b_RowsOnces : Code := Tryz.f46.body.getD .skip
theorem call_RowsOnces : Callable Tryz.prog 46 := ⟨_, Tryz.func46, by kernel_rfl, by kernel_rfl⟩
theorem v_RowsOnces (e : Eng) (h :
    ∃ (x : r_EngineOK.ι), (((EqG e x) ∧ True) ∧ EngB x) ∧ ((!engOK x) = true → false = (onceR e).fst ∧ (1 : Int) = (onceR e).snd ∧ True) ∧ ((!engOK x) = false → (∃ (x : { t : Nat // 1 ≤ t ∧ t ≤ 4 ∧ ∀ (u : Nat), 1 ≤ u → u < t → badT e
    u = false }), ((0 = 0 ∧ 0 = 0) ∧ (1 : Int) = (x.val:Int) ∧ True) ∧ (1 = 1 ∧ 1 = 1 ∧ EqG e e) ∧ True) ∧ ∀ (x : { t : Nat // 1 ≤ t ∧ t ≤ 4 ∧ ∀ (u : Nat), 1 ≤ u → u < t → badT e u = false }), (decide ((x.val:Int) ≤ (3 : Int)) = true
    → ∃ (x_1 : (Eng × Int)), (((EqG e x_1.fst) ∧ (x.val:Int) = x_1.snd ∧ True) ∧ StoR x_1.fst.s) ∧ (∃ (x_2 : { i : Nat // 1 ≤ i ∧ (i ≤ (rowsTo e.s (x.val:Int) 8).length ∨ i = 1) ∧ ∀ (j : Nat), j < i → rise (rowsTo e.s (x.val:Int) 8) j
    = false }), ((0 = 0 ∧ 0 = 0) ∧ (x.val:Int) = (x.val:Int) ∧ ((rowsTo x_1.fst.s x_1.snd 8).length = (rowsTo e.s (x.val:Int) 8).length ∧ RowsEq (rowsTo x_1.fst.s x_1.snd 8).length (rwRow (rowsTo x_1.fst.s x_1.snd 8)) (rwRow (rowsTo
    e.s (x.val:Int) 8))) ∧ (1 : Int) = (x_2.val:Int) ∧ True) ∧ (1 = 1 ∧ 1 = 1 ∧ EqG e e) ∧ True) ∧ ∀ (x_2 : { i : Nat // 1 ≤ i ∧ (i ≤ (rowsTo e.s (x.val:Int) 8).length ∨ i = 1) ∧ ∀ (j : Nat), j < i → rise (rowsTo e.s (x.val:Int) 8) j
    = false }), (decide ((x_2.val:Int) < (↑(rowsTo e.s (x.val:Int) 8).length : Int)) = true → Rng .i64 ((x_2.val:Int) - (1 : Int)) ∧ InB ((x_2.val:Int) - (1 : Int)) (rowsTo e.s (x.val:Int) 8).length ∧ InB (x_2.val:Int) (rowsTo e.s
    (x.val:Int) 8).length ∧ (decide (((rowsTo e.s (x.val:Int) 8).getD ((x_2.val:Int) - (1 : Int)).toNat default).id ≥ ((rowsTo e.s (x.val:Int) 8).getD (x_2.val:Int).toNat default).id) = true → false = (onceR e).fst ∧ (0 : Int) =
    (onceR e).snd ∧ True) ∧ (decide (((rowsTo e.s (x.val:Int) 8).getD ((x_2.val:Int) - (1 : Int)).toNat default).id ≥ ((rowsTo e.s (x.val:Int) 8).getD (x_2.val:Int).toNat default).id) = false → Rng .i64 ((x_2.val:Int) + (1 : Int)) ∧ ∃
    (y : { i : Nat // 1 ≤ i ∧ (i ≤ (rowsTo e.s (x.val:Int) 8).length ∨ i = 1) ∧ ∀ (j : Nat), j < i → rise (rowsTo e.s (x.val:Int) 8) j = false }), (((0 = 0 ∧ 0 = 0) ∧ (x.val:Int) = (x.val:Int) ∧ ((rowsTo e.s (x.val:Int) 8).length =
    (rowsTo e.s (x.val:Int) 8).length ∧ RowsEq (rowsTo e.s (x.val:Int) 8).length (rwRow (rowsTo e.s (x.val:Int) 8)) (rwRow (rowsTo e.s (x.val:Int) 8))) ∧ (x_2.val:Int) + (1 : Int) = (y.val:Int) ∧ True) ∧ (1 = 1 ∧ 1 = 1 ∧ EqG e e) ∧
    True) ∧ Lt ((rowsTo e.s (x.val:Int) 8).length - y.val) ((rowsTo e.s (x.val:Int) 8).length - x_2.val))) ∧ (decide ((x_2.val:Int) < (↑(rowsTo e.s (x.val:Int) 8).length : Int)) = false → Rng .i64 ((x.val:Int) + (1 : Int)) ∧ ∃ (y : {
    t : Nat // 1 ≤ t ∧ t ≤ 4 ∧ ∀ (u : Nat), 1 ≤ u → u < t → badT e u = false }), (((0 = 0 ∧ 0 = 0) ∧ (x.val:Int) + (1 : Int) = (y.val:Int) ∧ True) ∧ (1 = 1 ∧ 1 = 1 ∧ EqG e e) ∧ True) ∧ Lt (4 - y.val) (4 - x.val))) ∧ (decide
    ((x.val:Int) ≤ (3 : Int)) = false → true = (onceR e).fst ∧ (0 : Int) = (onceR e).snd ∧ True))) :
    PureFn Tryz.prog 46 [.agg e.ts] (onceT e) :=
  vcR (code := b_RowsOnces) (gC EngineOKs_ok call_EngineOKs (gC l08Rows_ok call_l08Rows gN)) Tryz.func46 (by kernel_rfl) (by kernel_rfl) (A_RowsOnces e) h (by kernel_rfl)
theorem once_bad {e : Eng} (h : engOK e = false) : onceR e = (false, 1) := by unfold onceR; rw [if_neg (by rw [h]; simp)]
theorem once_no {e : Eng} (h : engOK e = true) {t : Nat} (h1 : 1 ≤ t) (h3 : t ≤ 3) (hb : badT e t = true) : onceR e = (false, 0) := by
  unfold onceR
  rw [if_pos h, anyI_iff.2 ⟨t - 1, by omega, by rw [show t - 1 + 1 = t by omega]; exact hb⟩]
  rfl
theorem RowsOnces_ok : ConOk Tryz.prog 46 k_RowsOnces := by
  intro (e : Eng) hB
  refine v_RowsOnces e ⟨e, ⟨⟨(eqG _), trivial⟩, hB⟩, fun hq => ?_, fun hq => ?_⟩
  · rw [once_bad (by simpa using hq)]
    exact ⟨rfl, rfl, trivial⟩
  have ho : engOK e = true := by simpa using hq
  have hs : stoOK e.s = true := by
    unfold engOK at ho
    simp only [Bool.and_eq_true] at ho
    exact ho.1
  have hR := sto_rows hs hB.1.2.2.1.1
  refine ⟨⟨⟨1, Nat.le_refl _, by omega, fun u h1 h2 => by omega⟩, ⟨⟨rfl, rfl⟩, rfl, trivial⟩, ⟨rfl, rfl, eqG _⟩, trivial⟩, fun x => ?_⟩
  obtain ⟨t, ht1, ht4, htb⟩ := x
  dsimp only at ht1 ht4 htb ⊢
  refine ⟨fun hc => ?_, fun hc => ?_⟩
  · have ht3 : t ≤ 3 := by have := of_decide_eq_true hc; omega
    have hl := rowsTo_len e.s t 8
    refine ⟨(e, (t : Int)), ⟨⟨(eqG _), rfl, trivial⟩, hR⟩, ⟨⟨1, Nat.le_refl _, .inr rfl, fun j hj => by (obtain rfl : j = 0 := by omega); rfl⟩, ⟨⟨rfl, rfl⟩, rfl, ⟨rfl, rowsR _ _⟩, rfl, trivial⟩, ⟨rfl, rfl, eqG _⟩, trivial⟩, fun y => ?_⟩
    obtain ⟨i, hi1, hi2, hib⟩ := y
    dsimp only at hi1 hi2 hib ⊢
    refine ⟨fun hy => ?_, fun hy => ?_⟩
    · have hlt := lt_of_dec hy
      rw [Int.toNat_natCast, show ((i : Int) - 1).toNat = i - 1 by omega]
      have hri : rise (rowsTo e.s t 8) i = decide (((rowsTo e.s t 8).getD (i - 1) default).id ≥ ((rowsTo e.s t 8).getD i default).id) := by
        unfold rise
        rw [decide_eq_true (show 0 < i by omega), Bool.true_and]
      refine ⟨i64_rng (by omega), ⟨by omega, by omega⟩, inB_nat hlt, fun hg => ?_, fun hg => ⟨i64_rng (by omega), ⟨i + 1, by omega, .inl hlt, fun j hj => ?_⟩, ⟨⟨⟨rfl, rfl⟩, rfl, ⟨rfl, rowsR _ _⟩, by dsimp only; omega, trivial⟩, ⟨rfl, rfl, eqG _⟩, trivial⟩, show (rowsTo e.s t 8).length - (i + 1) < (rowsTo e.s t 8).length - i by omega⟩⟩
      · rw [once_no ho ht1 ht3 (anyI_iff.2 ⟨i, hlt, hri.trans hg⟩)]
        exact ⟨rfl, rfl, trivial⟩
      · by_cases hji : j = i
        · rw [hji]; exact hri.trans hg
        · exact hib j (by omega)
    · have hge := le_of_not hy
      have hbt : badT e t = false := anyI_no.2 fun j hj => hib j (by omega)
      refine ⟨i64_rng (by omega), ⟨t + 1, by omega, by omega, fun u h1 h2 => ?_⟩, ⟨⟨⟨rfl, rfl⟩, by dsimp only; omega, trivial⟩, ⟨rfl, rfl, eqG _⟩, trivial⟩, show 4 - (t + 1) < 4 - t by omega⟩
      by_cases hut : u = t
      · rw [hut]; exact hbt
      · exact htb u h1 (by omega)
  · have h4 : t = 4 := by have := of_decide_eq_false hc; omega
    have : anyI 3 (fun k => badT e (k + 1)) = false := anyI_no.2 fun k hk => htb (k + 1) (by omega) (by omega)
    have e1 : onceR e = (true, 0) := by unfold onceR; rw [if_pos ho, this]; rfl
    rw [e1]
    exact ⟨rfl, rfl, trivial⟩
-- a page of a store
noncomputable def k_page : Con := .rel ⟨Sto × Nat, fun x => [.bref x.1.ts, .int .i64 x.2], fun x => .tup [.agg (pgE x.1 x.2).ts, .bool true], fun x => stoOK x.1 = true ∧ StoR x.1 ∧ x.2 < 8⟩
noncomputable def b_page : Code := Tryz.f113.body.getD .skip
theorem call_page : Callable Tryz.prog 113 := ⟨_, Tryz.func113, by kernel_rfl, by kernel_rfl⟩
theorem v_page (s : Sto) (no : Nat) (h :
    ∃ (x : r_frameAt.ι), (((EqS s x.fst) ∧ (no:Int) = x.snd ∧ True) ∧ Len x.fst.fr.length) ∧ (decide (frAt x.fst.fr x.snd ≥ (0 : Int)) = true → InB (frAt x.fst.fr x.snd) s.fr.length ∧ ((s.fr.getD (frAt x.fst.fr x.snd).toNat
    default).pg.lsn = (pgE s no).lsn ∧ ((s.fr.getD (frAt x.fst.fr x.snd).toNat default).pg.sl.length = (pgE s no).sl.length ∧ RowsEq (s.fr.getD (frAt x.fst.fr x.snd).toNat default).pg.sl.length (strRow (s.fr.getD (frAt x.fst.fr
    x.snd).toNat default).pg.sl) (strRow (pgE s no).sl)) ∧ True) ∧ true = true ∧ True) ∧ (decide (frAt x.fst.fr x.snd ≥ (0 : Int)) = false → ∃ (x : r_diskPage.ι), (((EqS s x.fst) ∧ (no:Int) = (x.snd:Int) ∧ True) ∧ PgSide (x.fst.d,
    x.snd)) ∧ ((pgAtI x.fst.d x.snd).fst.lsn = (pgE s no).lsn ∧ ((pgAtI x.fst.d x.snd).fst.sl.length = (pgE s no).sl.length ∧ RowsEq (pgAtI x.fst.d x.snd).fst.sl.length (strRow (pgAtI x.fst.d x.snd).fst.sl) (strRow (pgE s no).sl)) ∧
    True) ∧ (pgAtI x.fst.d x.snd).snd = true ∧ True)) :
    PureFn Tryz.prog 113 [.bref s.ts, .int .i64 no] (.tup [.agg (pgE s no).ts, .bool true]) :=
  vcR (code := b_page) (gC frameAt_ok call_frameAt (gC diskPage_ok call_diskPage gN)) Tryz.func113 (by kernel_rfl) (by kernel_rfl) noAnn h (by kernel_rfl)
theorem page_ok : ConOk Tryz.prog 113 k_page := by
  rintro ⟨s, no⟩ ⟨hs, hR, hn⟩
  dsimp only at hs hR hn
  obtain ⟨hD, h69, hfl, _⟩ := hR
  have hfl' : s.fr.length < 1000000000000 := hfl
  refine v_page s no ⟨(s, (no : Int)), ⟨⟨(eqS _), rfl, trivial⟩, hfl⟩, fun hf => ?_, fun hf => ?_⟩
  · have hf : frAt s.fr (no : Int) ≥ 0 := of_decide_eq_true hf
    obtain ⟨i, hi, _, _, hfi⟩ := fstI_lt (show ¬ frAt s.fr (no : Int) < 0 by omega)
    have hfi : frAt s.fr (no : Int) = (i : Int) := hfi
    have ep : pgE s no = (s.fr.getD (frAt s.fr (no : Int)).toNat default).pg := by unfold pgE; rw [if_neg (by omega)]
    exact ⟨⟨hf, by rw [show frAt (s, (no : Int)).1.fr (s, (no : Int)).2 = (i : Int) from hfi]; omega⟩, ⟨by rw [ep], ⟨by rw [ep], by rw [ep]; exact rowsR _ _⟩, trivial⟩, rfl, trivial⟩
  · have hf : ¬ frAt s.fr (no : Int) ≥ 0 := of_decide_eq_false hf
    have ep : pgE s no = (pgAt s.d no).1 := by unfold pgE; rw [if_pos (by omega)]
    have h2 := (sto_page hs hn).1
    obtain ⟨_, a2⟩ := pgAtI_eq s.d no
    have e2 := a2 h2
    refine ⟨(s, no), ⟨⟨(eqS _), rfl, trivial⟩, hD, by dsimp only; omega⟩, ?_⟩
    dsimp only
    rw [e2, ep]
    exact ⟨⟨rfl, ⟨rfl, rowsR _ _⟩, trivial⟩, h2, trivial⟩
end Go.Proofs.YtjbomnjmcbhadaaGreat

namespace Go.Proofs.YtjbomnjmcbhadaaGreat
open Go.SS

-- the law: sorted lists of rows rise strictly iff no row stands twice
def Srt (L : List Rw) : Prop := L.Pairwise fun a b => a.id ≤ b.id
theorem posR_le (L : List Rw) (id : Int) : posR L id ≤ L.length ∧ (∀ k, k < posR L id → (L.getD k default).id < id) ∧ (posR L id < L.length → id ≤ (L.getD (posR L id) default).id) := by
  unfold posR
  by_cases h : fstI L.length (notLt L id) < 0
  · rw [if_pos h]
    refine ⟨Nat.le_refl _, fun k hk => ?_, fun hh => by omega⟩
    cases hn : notLt L id k with
    | false =>
      unfold notLt at hn
      simpa using hn
    | true =>
      have key : ∀ n, n ≤ L.length → (∀ j, j < n → notLt L id j = false) ∨ ∃ i, i < L.length ∧ notLt L id i = true ∧ ∀ j, j < i → notLt L id j = false := by
        intro n
        induction n with
        | zero => intro _; exact .inl fun j hj => absurd hj (Nat.not_lt_zero j)
        | succ n ih =>
          intro hm
          rcases ih (by omega) with h0 | h0
          · cases hq : notLt L id n with
            | true => exact .inr ⟨n, hm, hq, h0⟩
            | false =>
              refine .inl fun j hj => ?_
              by_cases hjn : j = n
              · rw [hjn]; exact hq
              · exact h0 j (by omega)
          · exact .inr h0
      rcases key L.length (Nat.le_refl _) with h0 | ⟨i, hi, hp, h0⟩
      · rw [h0 k hk] at hn; cases hn
      · rw [fstI_at hi hp h0] at h; omega
  · rw [if_neg h]
    obtain ⟨i, hi, hp, h0, he⟩ := fstI_lt h
    rw [he, Int.toNat_natCast]
    refine ⟨by omega, fun k hk => ?_, fun _ => ?_⟩
    · have := h0 k hk
      unfold notLt at this
      simpa using this
    · unfold notLt at hp
      simp only [Bool.not_eq_true', decide_eq_false_iff_not] at hp
      omega
theorem insR_perm (L : List Rw) (r : Rw) : (insR L r).Perm (r :: L) := by
  unfold insR
  rw [List.append_assoc]
  have h1 : (L.take (posR L r.id) ++ ([r] ++ L.drop (posR L r.id))).Perm ([r] ++ (L.take (posR L r.id) ++ L.drop (posR L r.id))) := by
    rw [← List.append_assoc, ← List.append_assoc]
    exact List.Perm.append_right _ List.perm_append_comm
  rw [List.take_append_drop] at h1
  exact h1
theorem insR_srt {L : List Rw} (h : Srt L) (r : Rw) : Srt (insR L r) := by
  obtain ⟨h1, h2, h3⟩ := posR_le L r.id
  have hp := h
  unfold Srt at hp ⊢
  unfold insR
  rw [List.append_assoc, List.pairwise_append]
  have htk : ∀ a ∈ L.take (posR L r.id), a.id < r.id := fun a ha => by
    obtain ⟨i, hi, rfl⟩ := List.mem_iff_getElem.1 ha
    rw [List.length_take] at hi
    have := h2 i (by omega)
    rw [List.getD_eq_getElem?_getD, List.getElem?_eq_getElem (by omega), Option.getD_some] at this
    rw [List.getElem_take]
    exact this
  have hdp : ∀ b ∈ L.drop (posR L r.id), r.id ≤ b.id := fun b hb => by
    obtain ⟨i, hi, rfl⟩ := List.mem_iff_getElem.1 hb
    rw [List.length_drop] at hi
    have h4 := h3 (by omega)
    rw [List.getD_eq_getElem?_getD, List.getElem?_eq_getElem (by omega), Option.getD_some] at h4
    rw [List.getElem_drop]
    by_cases hi0 : i = 0
    · subst hi0
      exact h4
    · have := List.pairwise_iff_getElem.1 hp (posR L r.id) (posR L r.id + i) (by omega) (by omega) (by omega)
      omega
  refine ⟨hp.sublist (List.take_sublist _ _), ?_, fun a ha b hb => ?_⟩
  · rw [List.singleton_append, List.pairwise_cons]
    exact ⟨hdp, hp.sublist (List.drop_sublist _ _)⟩
  · have h5 := htk a ha
    rcases List.mem_append.1 hb with hb | hb
    · rw [List.mem_singleton.1 hb]; omega
    · have := hdp b hb; omega
theorem rise_iff {L : List Rw} (h : Srt L) : anyI L.length (rise L) = false ↔ (L.map (·.id)).Nodup := by
  rw [anyI_no]
  constructor
  · intro hr
    have lt : ∀ i, i + 1 < L.length → (L.getD i default).id < (L.getD (i + 1) default).id := fun i hi => by
      have := hr (i + 1) hi
      unfold rise at this
      simp only [Nat.add_sub_cancel, Bool.and_eq_false_iff, decide_eq_false_iff_not] at this
      omega
    have lt2 : ∀ j i, i < j → j < L.length → (L.getD i default).id < (L.getD j default).id := by
      intro j
      induction j with
      | zero => intro i hi; omega
      | succ j ih =>
        intro i hi hj
        by_cases hij : i = j
        · rw [hij]; exact lt j hj
        · have := ih i (by omega) (by omega)
          have := lt j hj
          omega
    unfold List.Nodup
    rw [List.pairwise_map, List.pairwise_iff_getElem]
    intro i j hi hj hij
    have := lt2 j i hij hj
    rw [List.getD_eq_getElem?_getD, List.getD_eq_getElem?_getD, List.getElem?_eq_getElem hi, List.getElem?_eq_getElem hj, Option.getD_some, Option.getD_some] at this
    omega
  · intro hn i hi
    unfold rise
    by_cases h0 : 0 < i
    · rw [decide_eq_true h0, Bool.true_and, decide_eq_false_iff_not]
      unfold List.Nodup at hn
      rw [List.pairwise_map, List.pairwise_iff_getElem] at hn
      have h1 := hn (i - 1) i (by omega) hi (by omega)
      have h2 := List.pairwise_iff_getElem.1 h (i - 1) i (by omega) hi (by omega)
      rw [List.getD_eq_getElem?_getD, List.getD_eq_getElem?_getD, List.getElem?_eq_getElem hi, List.getElem?_eq_getElem (show i - 1 < L.length by omega), Option.getD_some, Option.getD_some]
      omega
    · rw [decide_eq_false h0]; rfl
-- all rows, in the order in which they stand
def ksIn (sl : List (List UInt8)) : Nat → List (Int × Rw)
  | 0 => []
  | i + 1 => ksIn sl i ++ (rowAt (sl.getD i [])).toList
noncomputable def ksTo (s : Sto) : Nat → List (Int × Rw)
  | 0 => []
  | no + 1 => ksTo s no ++ ksIn (pgE s no).sl 4
def ofT (t : Int) (K : List (Int × Rw)) : List Rw := (K.filter fun x => decide (x.1 = t)).map (·.2)
theorem ofT_app (t : Int) (K K' : List (Int × Rw)) : ofT t (K ++ K') = ofT t K ++ ofT t K' := by unfold ofT; rw [List.filter_append, List.map_append]
theorem stepR_perm (t : Int) (L : List Rw) (d : List UInt8) : (stepR t L d).Perm (L ++ ofT t (rowAt d).toList) ∧ (Srt L → Srt (stepR t L d)) := by
  unfold stepR ofT
  cases rowAt d with
  | none => exact ⟨by simp, fun h => h⟩
  | some x =>
    by_cases hx : x.1 = t
    · simp only [hx, if_true, Option.toList_some, List.filter_cons, decide_true, List.filter_nil, List.map_cons, List.map_nil]
      exact ⟨(insR_perm L x.2).trans (List.perm_append_comm (l₁ := [x.2]) (l₂ := L)), fun h => insR_srt h x.2⟩
    · simp only [hx, if_false, Option.toList_some, List.filter_cons, decide_false, List.filter_nil, List.map_nil, List.append_nil, Bool.false_eq_true]
      exact ⟨List.Perm.refl _, fun h => h⟩
theorem rowsIn_perm (sl : List (List UInt8)) (t : Int) (L : List Rw) : ∀ i, (rowsIn sl t L i).Perm (L ++ ofT t (ksIn sl i)) ∧ (Srt L → Srt (rowsIn sl t L i))
  | 0 => ⟨by simp [rowsIn, ksIn, ofT], fun h => h⟩
  | i + 1 => by
    obtain ⟨p1, p2⟩ := rowsIn_perm sl t L i
    obtain ⟨q1, q2⟩ := stepR_perm t (rowsIn sl t L i) (sl.getD i [])
    refine ⟨?_, fun h => q2 (p2 h)⟩
    unfold rowsIn ksIn
    rw [ofT_app, ← List.append_assoc]
    exact q1.trans (p1.append_right _)
theorem rowsTo_perm (s : Sto) (t : Int) : ∀ no, (rowsTo s t no).Perm (ofT t (ksTo s no)) ∧ Srt (rowsTo s t no)
  | 0 => ⟨by simp [rowsTo, ksTo, ofT], List.Pairwise.nil⟩
  | no + 1 => by
    obtain ⟨p1, p2⟩ := rowsTo_perm s t no
    obtain ⟨q1, q2⟩ := rowsIn_perm (pgE s no).sl t (rowsTo s t no) 4
    refine ⟨?_, q2 p2⟩
    unfold rowsTo ksTo
    rw [ofT_app]
    exact q1.trans (p1.append_right _)
theorem rowAt_in {d : List UInt8} {x : Int × Rw} (h : rowAt d = some x) : 1 ≤ x.1 ∧ x.1 ≤ 3 := by
  unfold rowAt at h
  split at h
  · cases h
  · rename_i hc
    simp only [Option.some.injEq] at h
    subst h
    simp only [Bool.or_eq_true, Bool.not_eq_true', not_or, Bool.not_eq_false] at hc
    exact inR_iff.1 hc.2.1
theorem ksIn_in (sl : List (List UInt8)) : ∀ i, ∀ x ∈ ksIn sl i, 1 ≤ x.1 ∧ x.1 ≤ 3
  | 0, x, h => by cases h
  | i + 1, x, h => by
    rcases List.mem_append.1 h with h | h
    · exact ksIn_in sl i x h
    · cases hr : rowAt (sl.getD i []) with
      | none => rw [hr] at h; cases h
      | some y =>
        rw [hr] at h
        have hx : x = y := by simpa using h
        rw [hx]
        exact rowAt_in hr
theorem ksTo_in (s : Sto) : ∀ no, ∀ x ∈ ksTo s no, 1 ≤ x.1 ∧ x.1 ≤ 3
  | 0, x, h => by cases h
  | no + 1, x, h => by
    rcases List.mem_append.1 h with h | h
    · exact ksTo_in s no x h
    · exact ksIn_in _ 4 x h
def keyP (x : Int × Rw) : Int × Int := (x.1, x.2.id)
theorem nodup_T {K : List (Int × Rw)} (hK : ∀ x ∈ K, 1 ≤ x.1 ∧ x.1 ≤ 3) : (K.map keyP).Nodup ↔ ∀ t : Nat, 1 ≤ t → t ≤ 3 → ((ofT t K).map (·.id)).Nodup := by
  have e : ∀ t : Int, ((ofT t K).map (·.id)).Nodup ↔ K.Pairwise fun a b => a.1 = t → b.1 = t → a.2.id ≠ b.2.id := fun t => by
    unfold ofT List.Nodup
    rw [List.map_map, List.pairwise_map, List.pairwise_filter]
    simp only [decide_eq_true_eq, Function.comp_apply]
  have e2 : (K.map keyP).Nodup ↔ K.Pairwise fun a b => keyP a ≠ keyP b := by unfold List.Nodup; rw [List.pairwise_map]
  rw [e2]
  constructor
  · intro h t _ _
    rw [e]
    exact h.imp fun {a b} hab h1 h2 h3 => hab (by unfold keyP; rw [h1, h2, h3])
  · intro h
    rw [List.pairwise_iff_getElem]
    intro i j hi hj hij hab
    unfold keyP at hab
    simp only [Prod.mk.injEq] at hab
    obtain ⟨k1, k2⟩ := hK K[i] (List.getElem_mem hi)
    have := (e (K[i].1.toNat : Int)).1 (h K[i].1.toNat (by omega) (by omega))
    rw [List.pairwise_iff_getElem] at this
    exact this i j hi hj hij (by omega) (by omega) hab.2
theorem once_law (e : Eng) (h : engOK e = true) : (onceR e).1 = true ↔ ((ksTo e.s 8).map keyP).Nodup := by
  have key : ∀ t : Nat, badT e t = false ↔ ((ofT t (ksTo e.s 8)).map (·.id)).Nodup := fun t => by
    obtain ⟨p1, p2⟩ := rowsTo_perm e.s t 8
    unfold badT
    rw [rise_iff p2]
    exact (p1.map _).nodup_iff
  rw [nodup_T (ksTo_in e.s 8)]
  unfold onceR
  rw [if_pos h]
  show (!anyI 3 (fun k => badT e (k + 1))) = true ↔ _
  rw [Bool.not_eq_true', anyI_no]
  constructor
  · intro hh t h1 h3
    have := hh (t - 1) (by omega)
    rw [show t - 1 + 1 = t by omega] at this
    exact (key t).1 this
  · intro hh k hk
    exact (key (k + 1)).2 (hh (k + 1) (by omega) (by omega))
end Go.Proofs.YtjbomnjmcbhadaaGreat

namespace Go.Proofs.YtjbomnjmcbhadaaGreat
set_option maxRecDepth 100000
open Go.SS

-- no row stands twice: the program
def gK (K : List (Int × Rw)) (a b : Int) : Bool := decide ((a, b) ∈ K.map keyP)
theorem gK_new (a b : Int) : gK [] a b = false := rfl
theorem gK_app (K : List (Int × Rw)) (x : Int × Rw) (a b : Int) : cond (decide (a = x.1 ∧ b = x.2.id)) true (gK K a b) = gK (K ++ [x]) a b := by
  unfold gK
  rw [List.map_append, List.map_cons, List.map_nil]
  simp only [List.mem_append, List.mem_singleton, keyP, Prod.mk.injEq]
  by_cases h : a = x.1 ∧ b = x.2.id
  · simp [h]
  · simp [h]
theorem nodup_app {K : List (Int × Rw)} {x : Int × Rw} (h : (K.map keyP).Nodup) (hx : gK K x.1 x.2.id = false) : ((K ++ [x]).map keyP).Nodup := by
  rw [List.map_append, List.nodup_append]
  refine ⟨h, by simp, fun y hy z hz => ?_⟩
  simp only [List.map_cons, List.map_nil, List.mem_singleton] at hz
  rintro rfl
  unfold gK at hx
  rw [decide_eq_false_iff_not] at hx
  exact hx (by rw [hz] at hy; exact hy)
theorem not_nodup {K : List (Int × Rw)} {x : Int × Rw} (hx : gK K x.1 x.2.id = true) : ¬ ((K ++ [x]).map keyP).Nodup := by
  rw [List.map_append, List.nodup_append]
  rintro ⟨_, _, h⟩
  unfold gK at hx
  exact h _ (of_decide_eq_true hx) (keyP x) (by simp) rfl
theorem ksIn_pre (sl : List (List UInt8)) {i : Nat} : ∀ {j : Nat}, i ≤ j → ksIn sl i <+: ksIn sl j
  | 0, h => by (obtain rfl : i = 0 := by omega); exact List.prefix_refl _
  | j + 1, h => by
    by_cases hij : i = j + 1
    · subst hij; exact List.prefix_refl _
    · exact (ksIn_pre sl (j := j) (by omega)).trans (List.prefix_append _ _)
theorem ksTo_pre (s : Sto) {i : Nat} : ∀ {j : Nat}, i ≤ j → ksTo s i <+: ksTo s j
  | 0, h => by (obtain rfl : i = 0 := by omega); exact List.prefix_refl _
  | j + 1, h => by
    by_cases hij : i = j + 1
    · subst hij; exact List.prefix_refl _
    · exact (ksTo_pre s (j := j) (by omega)).trans (List.prefix_append _ _)
noncomputable def ksAt (s : Sto) (no i : Nat) : List (Int × Rw) := ksTo s no ++ ksIn (pgE s no).sl i
theorem ksAt_pre (s : Sto) {no i : Nat} (hn : no < 8) (hi : i ≤ 4) : ksAt s no i <+: ksTo s 8 := by
  have h1 : ksAt s no i <+: ksTo s (no + 1) := (List.prefix_append_right_inj _).2 (ksIn_pre _ hi)
  exact h1.trans (ksTo_pre s (by omega))
theorem ksAt_no {s : Sto} {no i : Nat} (h : rowAt ((pgE s no).sl.getD i []) = none) : ksAt s no (i + 1) = ksAt s no i := by
  unfold ksAt
  conv => lhs; unfold ksIn
  rw [h]
  simp
theorem ksAt_row {s : Sto} {no i : Nat} {x : Int × Rw} (h : rowAt ((pgE s no).sl.getD i []) = some x) : ksAt s no (i + 1) = ksAt s no i ++ [x] := by
  unfold ksAt
  conv => lhs; unfold ksIn
  rw [h]
  simp
theorem once_dup {e : Eng} (ho : engOK e = true) {K : List (Int × Rw)} (hK : K <+: ksTo e.s 8) (hd : ¬ (K.map keyP).Nodup) : onceR e = (false, 0) := by
  have h : ¬ (onceR e).1 = true := fun h => hd (((once_law e ho).1 h).sublist (hK.sublist.map _))
  unfold onceR at h ⊢
  rw [if_pos ho] at h ⊢
  rw [Bool.not_eq_true] at h
  exact Prod.ext h rfl
theorem once_all {e : Eng} (ho : engOK e = true) (hd : ((ksTo e.s 8).map keyP).Nodup) : onceR e = (true, 0) := by
  have h := (once_law e ho).2 hd
  unfold onceR at h ⊢
  rw [if_pos ho] at h ⊢
  exact Prod.ext h rfl
noncomputable def k_RowsOncei : Con := .rel r_RowsOnce
noncomputable def A_RowsOncei (e : Eng) : Nat → Ann
  | 0 => .one {no : Nat // no ≤ 8 ∧ ((ksTo e.s no).map keyP).Nodup} (fun x => ⟨[(1, .bref e.ts), (4, .mpr 0), (17, .int .i64 x.1)], [some (.mp2 (gK (ksTo e.s x.1)))]⟩) (fun x => 8 - x.1) [.frz 1, .arr 1] [.arr 0] (fun x => fun
    | 1 => .one {i : Nat // i ≤ 4 ∧ ((ksAt e.s x.1 i).map keyP).Nodup} (fun y => ⟨[(1, .bref e.ts), (4, .mpr 0), (17, .int .i64 x.1), (27, .sl 1 4 (strRow (pgE e.s x.1).sl)), (28, .int .i64 4), (29, .int .i64 y.1)], [some (.mp2 (gK (ksAt e.s x.1 y.1)))]⟩) (fun y => 4 - y.1) [.arr 0] [.arr 0] (fun _ => noAnn)
    | _ => .none)
  | _ => .none
noncomputable def b_RowsOncei : Code := Tryz.f48.body.getD .skip
theorem call_RowsOncei : Callable Tryz.prog 48 := ⟨_, Tryz.func48, by kernel_rfl, by kernel_rfl⟩
theorem v_RowsOncei (e : Eng) (h :
    ∃ (x : r_EngineOK.ι), (((EqG e x) ∧ True) ∧ EngB x) ∧ ((!engOK x) = true → false = (onceR e).fst ∧ (1 : Int) = (onceR e).snd ∧ True) ∧ ((!engOK x) = false → (∃ (x : { no : Nat // no ≤ 8 ∧ (List.map keyP (ksTo e.s no)).Nodup }),
    (TLe (rho [some 1]) (T.bref e.ts) (T.bref e.ts) ∧ True ∧ (0 : Int) = (x.val:Int) ∧ True) ∧ (∀ (a b : Int), false = gK (ksTo e.s x.val) a b) ∧ True) ∧ ∀ (x : { no : Nat // no ≤ 8 ∧ (List.map keyP (ksTo e.s no)).Nodup }), (decide
    ((x.val:Int) < (8 : Int)) = true → ∃ (x_1 : (Sto × Nat)), (((EqS e.s x_1.fst) ∧ (x.val:Int) = (x_1.snd:Int) ∧ True) ∧ stoOK x_1.fst = true ∧ StoR x_1.fst ∧ x_1.snd < 8) ∧ (∃ (x_2 : { i : Nat // i ≤ 4 ∧ (List.map keyP (ksAt e.s
    x.val i)).Nodup }), (TLe (rho [some 0]) (T.bref e.ts) (T.bref e.ts) ∧ True ∧ (x.val:Int) = (x.val:Int) ∧ ((pgE x_1.fst x_1.snd).sl.length = 4 ∧ RowsEq (pgE x_1.fst x_1.snd).sl.length (strRow (pgE x_1.fst x_1.snd).sl) (strRow (pgE
    e.s x.val).sl)) ∧ (↑(pgE x_1.fst x_1.snd).sl.length : Int) = (4 : Int) ∧ (0 : Int) = (x_2.val:Int) ∧ True) ∧ (∀ (a b : Int), gK (ksTo e.s x.val) a b = gK (ksAt e.s x.val x_2.val) a b) ∧ True) ∧ ∀ (x_2 : { i : Nat // i ≤ 4 ∧
    (List.map keyP (ksAt e.s x.val i)).Nodup }), (decide ((x_2.val:Int) < (4 : Int)) = true → InB (x_2.val:Int) 4 ∧ Lt ((pgE e.s x.val).sl.getD (x_2.val:Int).toNat []).length 140737488355329 ∧ ∃ (x_3 : r_ReadRow.ι), (((pgE e.s
    x.val).sl.getD (x_2.val:Int).toNat [] = x_3 ∧ True) ∧ Len9 x_3) ∧ (((rdI x_3).snd.snd != (0 : Int)) = true → Rng .i64 ((x_2.val:Int) + (1 : Int)) ∧ ∃ (y : { i : Nat // i ≤ 4 ∧ (List.map keyP (ksAt e.s x.val i)).Nodup }), ((TLe
    (rho [some 0]) (T.bref e.ts) (T.bref e.ts) ∧ True ∧ (x.val:Int) = (x.val:Int) ∧ (4 = 4 ∧ RowsEq 4 (strRow (pgE e.s x.val).sl) (strRow (pgE e.s x.val).sl)) ∧ (4 : Int) = (4 : Int) ∧ (x_2.val:Int) + (1 : Int) = (y.val:Int) ∧ True) ∧
    (∀ (a b : Int), gK (ksAt e.s x.val x_2.val) a b = gK (ksAt e.s x.val y.val) a b) ∧ True) ∧ Lt (4 - y.val) (4 - x_2.val)) ∧ (((rdI x_3).snd.snd != (0 : Int)) = false → (Rng .i64 (rdI x_3).fst ∧ Rng .i64 (rdI x_3).snd.fst.id) ∧ (gK
    (ksAt e.s x.val x_2.val) (rdI x_3).fst (rdI x_3).snd.fst.id = true → false = (onceR e).fst ∧ (0 : Int) = (onceR e).snd ∧ True) ∧ (gK (ksAt e.s x.val x_2.val) (rdI x_3).fst (rdI x_3).snd.fst.id = false → (Rng .i64 (rdI x_3).fst ∧
    Rng .i64 (rdI x_3).snd.fst.id) ∧ Rng .i64 ((x_2.val:Int) + (1 : Int)) ∧ ∃ (y : { i : Nat // i ≤ 4 ∧ (List.map keyP (ksAt e.s x.val i)).Nodup }), ((TLe (rho [some 0]) (T.bref e.ts) (T.bref e.ts) ∧ True ∧ (x.val:Int) = (x.val:Int) ∧
    (4 = 4 ∧ RowsEq 4 (strRow (pgE e.s x.val).sl) (strRow (pgE e.s x.val).sl)) ∧ (4 : Int) = (4 : Int) ∧ (x_2.val:Int) + (1 : Int) = (y.val:Int) ∧ True) ∧ (∀ (a b : Int), (bif decide (a = (rdI x_3).fst ∧ b = (rdI x_3).snd.fst.id) then
    true else gK (ksAt e.s x.val x_2.val) a b) = gK (ksAt e.s x.val y.val) a b) ∧ True) ∧ Lt (4 - y.val) (4 - x_2.val)))) ∧ (decide ((x_2.val:Int) < (4 : Int)) = false → Rng .i64 ((x.val:Int) + (1 : Int)) ∧ ∃ (y : { no : Nat // no ≤ 8
    ∧ (List.map keyP (ksTo e.s no)).Nodup }), ((TLe (rho [some 0]) (T.bref e.ts) (T.bref e.ts) ∧ True ∧ (x.val:Int) + (1 : Int) = (y.val:Int) ∧ True) ∧ (∀ (a b : Int), gK (ksAt e.s x.val x_2.val) a b = gK (ksTo e.s y.val) a b) ∧ True)
    ∧ Lt (8 - y.val) (8 - x.val))) ∧ (decide ((x.val:Int) < (8 : Int)) = false → true = (onceR e).fst ∧ (0 : Int) = (onceR e).snd ∧ True))) :
    PureFn Tryz.prog 48 [.agg e.ts] (onceT e) :=
  vcR (code := b_RowsOncei) (gC EngineOKi_ok call_EngineOKi (gC page_ok call_page (gC ReadRow_ok call_ReadRow gN))) Tryz.func48 (by kernel_rfl) (by kernel_rfl) (A_RowsOncei e) h (by kernel_rfl)
theorem rowAt_id {d : List UInt8} {x : Int × Rw} (h : rowAt d = some x) : 0 ≤ x.2.id ∧ x.2.id ≤ 1000 := by
  unfold rowAt at h
  split at h
  · cases h
  · rename_i hc
    simp only [Option.some.injEq] at h
    subst h
    simp only [Bool.or_eq_true, Bool.not_eq_true', not_or, Bool.not_eq_false] at hc
    have h2 := hc.2.2
    unfold rowOKb at h2
    simp only [Bool.and_eq_true] at h2
    exact inR_iff.1 h2.1.1.1.1
theorem RowsOncei_ok : ConOk Tryz.prog 48 k_RowsOncei := by
  intro (e : Eng) hB
  refine v_RowsOncei e ⟨e, ⟨⟨(eqG _), trivial⟩, hB⟩, fun hq => ?_, fun hq => ?_⟩
  · rw [once_bad (by simpa using hq)]
    exact ⟨rfl, rfl, trivial⟩
  have ho : engOK e = true := by simpa using hq
  have hs : stoOK e.s = true := by
    unfold engOK at ho
    simp only [Bool.and_eq_true] at ho
    exact ho.1
  have hR := sto_rows hs hB.1.2.2.1.1
  refine ⟨⟨⟨0, by omega, List.nodup_nil⟩, ⟨bref_le _, trivial, rfl, trivial⟩, fun a b => rfl, trivial⟩, fun x => ?_⟩
  obtain ⟨no, hn8, hnd⟩ := x
  dsimp only at hn8 hnd ⊢
  refine ⟨fun hc => ?_, fun hc => ?_⟩
  · have hn : no < 8 := by have := of_decide_eq_true hc; omega
    obtain ⟨p3, p4⟩ := hR.2.2.2 no hn
    have e0 : ksAt e.s no 0 = ksTo e.s no := by simp [ksAt, ksIn]
    refine ⟨(e.s, no), ⟨⟨(eqS _), rfl, trivial⟩, hs, hR, hn⟩, ⟨⟨0, by omega, by rw [e0]; exact hnd⟩, ⟨bref_le _, trivial, rfl, ⟨p3, rowsR _ _⟩, by dsimp only; omega, rfl, trivial⟩, fun a b => by dsimp only; rw [e0], trivial⟩, fun y => ?_⟩
    obtain ⟨i, hi4, hyd⟩ := y
    dsimp only at hi4 hyd ⊢
    refine ⟨fun hy => ?_, fun hy => ?_⟩
    · have hi : i < 4 := by have := of_decide_eq_true hy; omega
      have hl := p4 i hi
      rw [Int.toNat_natCast]
      refine ⟨inB_nat hi, by unfold Lt; omega, _, ⟨⟨rfl, trivial⟩, by unfold Len9; omega⟩, ?_⟩
      rw [rdI_eq (by omega)]
      cases hr : rowAt ((pgE e.s no).sl.getD i []) with
      | none =>
        dsimp only
        exact ⟨fun _ => ⟨i64_rng (by omega), ⟨i + 1, hi, by rw [ksAt_no hr]; exact hyd⟩, ⟨⟨bref_le _, trivial, rfl, ⟨rfl, rowsR _ _⟩, rfl, by dsimp only; omega, trivial⟩, fun a b => by dsimp only; rw [ksAt_no hr], trivial⟩, show 4 - (i + 1) < 4 - i by omega⟩, fun hf => by simp at hf⟩
      | some r =>
        dsimp only
        obtain ⟨a1, a2⟩ := rowAt_in hr
        obtain ⟨a3, a4⟩ := rowAt_id hr
        have hrg : Rng .i64 r.1 ∧ Rng .i64 r.2.id := ⟨i64_rng (by omega), i64_rng (by omega)⟩
        refine ⟨fun hf => by simp at hf, fun _ => ⟨hrg, fun hg => ?_, fun hg => ⟨hrg, i64_rng (by omega), ⟨i + 1, hi, by rw [ksAt_row hr]; exact nodup_app hyd hg⟩, ⟨⟨bref_le _, trivial, rfl, ⟨rfl, rowsR _ _⟩, rfl, by dsimp only; omega, trivial⟩, fun a b => by dsimp only; rw [ksAt_row hr]; exact gK_app _ r a b, trivial⟩, show 4 - (i + 1) < 4 - i by omega⟩⟩⟩
        rw [once_dup ho (ksAt_pre e.s hn (i := i + 1) hi) (by rw [ksAt_row hr]; exact not_nodup hg)]
        exact ⟨rfl, rfl, trivial⟩
    · have hi : i = 4 := by have := of_decide_eq_false hy; omega
      subst hi
      exact ⟨i64_rng (by omega), ⟨no + 1, hn, hyd⟩, ⟨⟨bref_le _, trivial, by dsimp only; omega, trivial⟩, fun a b => rfl, trivial⟩, show 8 - (no + 1) < 8 - no by omega⟩
  · have h8 : no = 8 := by have := of_decide_eq_false hc; omega
    subst h8
    rw [once_all ho hnd]
    exact ⟨rfl, rfl, trivial⟩
end Go.Proofs.YtjbomnjmcbhadaaGreat

