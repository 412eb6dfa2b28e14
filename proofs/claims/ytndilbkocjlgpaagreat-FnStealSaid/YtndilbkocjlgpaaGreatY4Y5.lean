/- A part of the proof. -/
import Derived.Test.YtndilbkocjlgpaaGreatY3
namespace Go.Proofs.YtndilbkocjlgpaaGreat
set_option maxRecDepth 100000
open Go.SS

theorem pgAt_ok {d : Dsk} {no : Nat} (h : (pgAt d no).2 = true) : PgP (pgAt d no).1 := by
 unfold pgAt at h ⊢; by_cases hr : rdAt d (1 + no) = []
 ·rw [if_pos hr]; refine ⟨Int.le_refl _, by decide, rfl, fun i hi => ?_⟩
  match i, hi with
  | 0, _ => exact Nat.zero_le _
  | 1, _ => exact Nat.zero_le _
  | 2, _ => exact Nat.zero_le _
  | 3, _ => exact Nat.zero_le _
 ·rw [if_neg hr] at h ⊢; unfold rdPg at h ⊢; split at h
  ·rename_i hc; rw [if_pos hc]; simp only [Bool.and_eq_true] at h; exact of_decide_eq_true h.2
  ·cases h
theorem fet_fr {s : Sto} {no : Nat} (h : SInv s) (hno : no < 8) (hu : (fetS s no).2.2 = true) : (fetS s no).2.1 < (fetS s no).1.fr.length /\ PgP ((fetS s no).1.fr.getD (fetS s no).2.1 default).pg := by
 by_cases hc : 0 <= frAt s.fr no
 ·rw [(fet_hit 0 hc).1]; exact ⟨frAt_in hc, (h.frp _ (frAt_in hc)).2.2.1⟩
 ·by_cases h3 : s.fr.length = 3
  ·cases ho : (outS s s.hand.toNat).2 with
   | false =>
    rw [(fet_down 0 hc h3 ho).1] at hu; cases hu
   | true =>
    rw [(fet_next 0 hc h3 ho).1]; have hh := h.hd; have hl := (out_rest s s.hand.toNat).1; have hp := (fet_pg h hno hc h3 ho).2.2; unfold nextF; dsimp only; rw [List.length_set, List.getD_eq_getElem?_getD, List.getElem?_set_self (by omega)]
    exact ⟨by omega, pgAt_ok hp⟩
  ·rw [(fet_add 0 hc h3).1]; unfold addF; dsimp only; rw [List.getD_eq_getElem?_getD, List.getElem?_append_right (Nat.le_refl _), List.length_append]
   simp only [Nat.sub_self, List.getElem?_cons_zero, Option.getD_some, List.length_cons, List.length_nil]
   exact ⟨by omega, pgAt_ok (h.pg no hno).1⟩
def chgF (f : Frm) (r : Rec) : Frm := ⟨f.no, ⟨r.l, f.pg.sl.set r.s.toNat r.a⟩, true, if f.dirty = true then f.first else r.l⟩
def setP (a : Sto) (k : Nat) (r : Rec) : Sto := ⟨a.d, a.ep, a.log, a.sure, a.fr.set k (chgF (a.fr.getD k default) r), a.hand⟩
noncomputable def aplS (s : Sto) (r : Rec) : Sto × Bool := if (fetS s r.g.toNat).2.2 = true then (setP (fetS s r.g.toNat).1 (fetS s r.g.toNat).2.1 r, true) else ((fetS s r.g.toNat).1, false)
def AplB (s : Sto) (r : Rec) : Prop := SInv s /\ 0 <= r.g /\ r.g < 8 /\ 0 <= r.s /\ r.s < 4
theorem set_at {L : List Frm} {k : Nat} (f : Frm) (h : k < L.length) : (L.set k f).getD k default = f := by rw [List.getD_eq_getElem?_getD, List.getElem?_set_self h]; rfl
end Go.Proofs.YtndilbkocjlgpaaGreat

namespace Go.Proofs.YtndilbkocjlgpaaGreat
set_option maxRecDepth 100000
open Go.SS

theorem flu_down {s : Sto} {l : Int} (h : (fluS s l).2 = false) : s.sd (fluS s l).1.d = (fluS s l).1 := by
 by_cases hl : l <= s.sure
 ·rw [flu_le hl] at h; cases h
 ·rw [flu_gt hl] at h ⊢; dsimp only at h ⊢; rw [if_neg (by rw [h]; simp)]
  rfl
theorem flu_up {s : Sto} {l : Int} (hl : ¬ l <= s.sure) : (fluS s l).1.d.cache = [] := by
 rw [flu_gt hl]; exact syn_cache _
theorem out_keep {s : Sto} {k : Nat} (h : (outS s k).2 = false) : s.sd (outS s k).1.d = (outS s k).1 := by
 by_cases hd : (s.fr.getD k default).dirty = true
 ·cases hf : (fluS s (s.fr.getD k default).pg.lsn).2 with
  | false =>
   rw [out_down hd hf]; exact flu_down hf
  | true =>
   cases h5 : (syn5 (fluS s (s.fr.getD k default).pg.lsn).1.d).2 with
   | false =>
    rw [out_syn hd hf h5]; by_cases hl : (s.fr.getD k default).pg.lsn <= s.sure
    ·rw [flu_le hl]; rfl
    ·rw [syn5_f (by rw [flu_up hl]; simp)] at h5
     cases h5
   | true =>
    rw [out_up hd hf h5] at h; cases h
 ·rw [out_clean (by simpa using hd)] at h
  cases h
theorem fet_keep {s : Sto} {no : Nat} (h : (fetS s no).2.2 = false) : s.sd (fetS s no).1.d = (fetS s no).1 := by
 by_cases hc : 0 <= frAt s.fr no
 ·rw [(fet_hit 0 hc).1] at h; cases h
 ·by_cases h3 : s.fr.length = 3
  ·cases ho : (outS s s.hand.toNat).2 with
   | false =>
    rw [(fet_down 0 hc h3 ho).1]; exact out_keep ho
   | true =>
    rw [(fet_next 0 hc h3 ho).1] at h; cases h
  ·rw [(fet_add 0 hc h3).1] at h; cases h
theorem sm_set {L : List Frm} {k : Nat} {f : Frm} (h : ∀ i, i < L.length -> SmF (L.getD i default)) (hf : SmF f) : ∀ i, i < (L.set k f).length -> SmF ((L.set k f).getD i default) := fun i hi => by
 rw [List.length_set] at hi; by_cases e : i = k
 ·subst e; rw [set_at _ hi]; exact hf
 ·rw [List.getD_eq_getElem?_getD, List.getElem?_set_ne (Ne.symm e), ← List.getD_eq_getElem?_getD]
  exact h i hi
theorem sm_syn5 {d : Dsk} (h : SmD d) : SmD (syn5 d).1 := by
 unfold syn5; split
 ·exact smS_syn h
 ·exact h
theorem smS_sd {s : Sto} {d : Dsk} (h : SmS s) (hd : SmD d) : SmS (s.sd d) := ⟨hd, h.2⟩
theorem smS_out {s : Sto} {k : Nat} (h : SInv s) (hk : k < s.fr.length) : SmS (outS s k).1 := by
 have hf := h.flu (h.frp k hk).2.2.2; have hS := smS_fluS hf h.sm; have hc := flu_c (l := (s.fr.getD k default).pg.lsn) h.c; have h5 := sm_syn5 hS.1; unfold outS; split
 ·split
  ·split
   ·refine ⟨⟨h5.1, ?_, h5.2.2⟩, hS.2.1, ?_, ?_⟩
    ·have := syn5_c hc; show ((syn5 _).1.cache ++ [_]).length <= _; rw [List.length_append]; simp only [List.length_cons, List.length_nil]; omega
    ·show (List.set _ _ _).length <= _; rw [List.length_set]; exact hS.2.2.1
    ·refine sm_set hS.2.2.2 ?_
     have := hS.2.2.2 k (by rw [flu_fr]; exact hk)
     exact this
   ·exact smS_sd hS h5
  ·exact hS
 ·exact h.sm
theorem sm_pg {d : Dsk} {no : Nat} (h : (pgAt d no).2 = true) : SmF (frmN no (pgAt d no).1) := by
 have := (pgAt_ok h).2.2.1; show (pgAt d no).1.sl.length <= 1048576; omega
theorem smS_fet {s : Sto} {no : Nat} (h : SInv s) (hno : no < 8) : SmS (fetS s no).1 := by
 by_cases hc : 0 <= frAt s.fr no
 ·rw [(fet_hit 0 hc).1]; exact h.sm
 ·by_cases h3 : s.fr.length = 3
  ·have hh := h.hd; have ho := smS_out h (k := s.hand.toNat) (by omega)
   cases hu : (outS s s.hand.toNat).2 with
   | false =>
    rw [(fet_down 0 hc h3 hu).1]; exact ho
   | true =>
    rw [(fet_next 0 hc h3 hu).1]; refine ⟨ho.1, ho.2.1, ?_, ?_⟩
    ·show (List.set _ _ _).length <= _; rw [List.length_set]; exact ho.2.2.1
    ·exact sm_set ho.2.2.2 (sm_pg (fet_pg h hno hc h3 hu).2.2)
  ·rw [(fet_add 0 hc h3).1]; have hl := h.fr3; refine ⟨h.sm.1, h.sm.2.1, ?_, fun i hi => ?_⟩
   ·show (s.fr ++ [_]).length <= _; rw [List.length_append]; simp only [List.length_cons, List.length_nil]; omega
   ·have hi : i < (s.fr ++ [frmN no (pgAt s.d no).1]).length := hi; show SmF ((s.fr ++ [frmN no (pgAt s.d no).1]).getD i default); by_cases e : i < s.fr.length
    ·rw [List.getD_eq_getElem?_getD, List.getElem?_append_left e, ← List.getD_eq_getElem?_getD]
     exact h.sm.2.2.2 i e
    ·have : i = s.fr.length := by rw [List.length_append] at hi; simp only [List.length_cons, List.length_nil] at hi; omega
     subst this; rw [List.getD_eq_getElem?_getD, List.getElem?_append_right (Nat.le_refl _)]
     simp only [Nat.sub_self, List.getElem?_cons_zero, Option.getD_some]
     exact sm_pg (h.pg no hno).1
def pgE : Pg := ⟨0, []⟩
noncomputable def fetPage (s : Sto) (no : Int) : Sto × Pg × Bool × Int := if stoOK s = true then
  if inR no 0 7 = true then
   if (fetS s no.toNat).2.2 = true then ((fetS s no.toNat).1, ((fetS s no.toNat).1.fr.getD (fetS s no.toNat).2.1 default).pg, true, 0) else ((fetS s no.toNat).1, pgE, false, 0)
  else (stoE, pgE, false, 4)
 else (stoE, pgE, false, 1)
def hpP (x : Sto × Pg) : Heap := x.1.hp 0 ++ [strA x.2.sl]
noncomputable def r_FetchPage : Rle := ⟨Sto × Int, fun x => [.agg x.1.ts, .int .i64 x.2], fun _ => [], fun x => .tup [.agg ((fetPage x.1 x.2).1.tm 0), .agg ((fetPage x.1 x.2).2.1.tm 5), .bool (fetPage x.1 x.2).2.2.1, .int .i64 (fetPage x.1 x.2).2.2.2], fun x => hpP ((fetPage x.1 x.2).1, (fetPage x.1 x.2).2.1), fun x => StoB x.1 /\ SmS x.1⟩
noncomputable def k_FetchPagei : Con := .rmk r_FetchPage
noncomputable def b_FetchPagei : Code := Tryz.f29.body.getD .skip
theorem call_FetchPagei : Callable Tryz.prog 29 := ⟨_, Tryz.func29, by kernel_rfl, by kernel_rfl⟩
theorem v_FetchPageY (s : Sto) (no : Int) (h :
  ∃ (x : r_StoreOK.ι), (((EqS s x) /\ True) /\ StoB x) /\ ((!stoOK x) = true -> ((((0 = 0 /\ 0 = (fetPage s no).fst.d.sec.length) /\ (0 = 0 /\ 0 = (fetPage s no).fst.d.cache.length) /\ false = (fetPage s no).fst.d.armed /\ (0 = 0 /\ 0 =
  (fetPage s no).fst.d.keep.length) /\ (0 : Int) = (fetPage s no).fst.ep /\ (0 = 0 /\ 0 = (fetPage s no).fst.log.length) /\ (0 : Int) = (fetPage s no).fst.sure /\ (0 = 0 /\ 0 = (fetPage s no).fst.fr.length) /\ (0 : Int) = (fetPage s
  no).fst.hand /\ True) /\ ((0 : Int) = (fetPage s no).snd.fst.lsn /\ (0 = 0 /\ 0 = (fetPage s no).snd.fst.sl.length) /\ True) /\ false = (fetPage s no).snd.snd.fst /\ (1 : Int) = (fetPage s no).snd.snd.snd /\ True) /\ True) /\ (0 = (fetPage
  s no).fst.d.sec.length /\ RowsEq 0 (fun (x : Nat) => []) (strRow (fetPage s no).fst.d.sec)) /\ (0 = (fetPage s no).fst.d.cache.length /\ RowsEq 0 (fun (x : Nat) => []) (pendRow (fetPage s no).fst.d.cache)) /\ (0 = (fetPage s
  no).fst.d.keep.length /\ RowsEq 0 (fun (x : Nat) => []) (intRow (fetPage s no).fst.d.keep)) /\ (0 = (fetPage s no).fst.log.length /\ RowsEq 0 (fun (x : Nat) => []) (recRow (fetPage s no).fst.log)) /\ (0 = 0 /\ 0 = (fetPage s
  no).fst.fr.length /\ FamEq 0 (fun (x : Nat) => []) (famRow (fetPage s no).fst.fr)) /\ (0 = (fetPage s no).snd.fst.sl.length /\ RowsEq 0 (fun (x : Nat) => []) (strRow (fetPage s no).snd.fst.sl)) /\ True) /\ ((!stoOK x) = false -> Small
  (8 : Int) /\ ((!(decide ((0 : Int) <= no) && decide (no < (8 : Int)))) = true -> ((((0 = 0 /\ 0 = (fetPage s no).fst.d.sec.length) /\ (0 = 0 /\ 0 = (fetPage s no).fst.d.cache.length) /\ false = (fetPage s no).fst.d.armed /\ (0 = 0 /\ 0 =
  (fetPage s no).fst.d.keep.length) /\ (0 : Int) = (fetPage s no).fst.ep /\ (0 = 0 /\ 0 = (fetPage s no).fst.log.length) /\ (0 : Int) = (fetPage s no).fst.sure /\ (0 = 0 /\ 0 = (fetPage s no).fst.fr.length) /\ (0 : Int) = (fetPage s
  no).fst.hand /\ True) /\ ((0 : Int) = (fetPage s no).snd.fst.lsn /\ (0 = 0 /\ 0 = (fetPage s no).snd.fst.sl.length) /\ True) /\ false = (fetPage s no).snd.snd.fst /\ (4 : Int) = (fetPage s no).snd.snd.snd /\ True) /\ True) /\ (0 = (fetPage
  s no).fst.d.sec.length /\ RowsEq 0 (fun (x : Nat) => []) (strRow (fetPage s no).fst.d.sec)) /\ (0 = (fetPage s no).fst.d.cache.length /\ RowsEq 0 (fun (x : Nat) => []) (pendRow (fetPage s no).fst.d.cache)) /\ (0 = (fetPage s
  no).fst.d.keep.length /\ RowsEq 0 (fun (x : Nat) => []) (intRow (fetPage s no).fst.d.keep)) /\ (0 = (fetPage s no).fst.log.length /\ RowsEq 0 (fun (x : Nat) => []) (recRow (fetPage s no).fst.log)) /\ (0 = 0 /\ 0 = (fetPage s
  no).fst.fr.length /\ FamEq 0 (fun (x : Nat) => []) (famRow (fetPage s no).fst.fr)) /\ (0 = (fetPage s no).snd.fst.sl.length /\ RowsEq 0 (fun (x : Nat) => []) (strRow (fetPage s no).snd.fst.sl)) /\ True) /\ ((!(decide ((0 : Int) <= no)
  && decide (no < (8 : Int)))) = false -> ∃ (x : Sto), (((EqS s x) /\ True) /\ SmS x) /\ ∃ (x_1 : (Sto × Nat × Nat)), (((0 = 0 /\ 0 = 0) /\ no = (x_1.snd.fst:Int) /\ True) /\ ((1 = 1 /\ 1 = 1 /\ EqC x x_1.fst) /\ EqH (0) (x_1.snd.snd) x
  x_1.fst) /\ FetB x_1.fst x_1.snd.fst /\ (fetS x_1.fst x_1.snd.fst).snd.snd = true) /\ (false = true -> ∃ (x : (Sto × Sto × Bool)), ((LeS (fetS x_1.fst x_1.snd.fst).fst) /\ ((EqS s x.fst) /\ (EqF (fetS x_1.fst x_1.snd.fst).fst x.snd.fst)
  /\ false = x.snd.snd /\ True) /\ SmS x.fst /\ SmS x.snd.fst) /\ False) /\ (false = false -> ∃ (x : Sto), ((LeS (fetS x_1.fst x_1.snd.fst).fst) /\ ((EqF (fetS x_1.fst x_1.snd.fst).fst x) /\ True) /\ SmS x) /\ Lt (fetS x_1.fst
  x_1.snd.fst).snd.fst (fetS x_1.fst x_1.snd.fst).fst.fr.length /\ ∃ (x_2 : Pg), (PoB (fetV x_1.fst x_1.snd.fst x_1.snd.snd) (fetV x_1.fst x_1.snd.fst x_1.snd.snd) (fetS x_1.fst x_1.snd.fst).snd.fst (fetS x_1.fst
  x_1.snd.fst).fst.fr.length ((fetS x_1.fst x_1.snd.fst).fst.fr.getD (fetS x_1.fst x_1.snd.fst).snd.fst default).pg.sl.length ((fetS x_1.fst x_1.snd.fst).fst.fr.getD (fetS x_1.fst x_1.snd.fst).snd.fst default).pg.sl.length /\
  ((((fetS x_1.fst x_1.snd.fst).fst.fr.getD (fetS x_1.fst x_1.snd.fst).snd.fst default).pg.lsn = x_2.lsn /\ (EqL strRow ((fetS x_1.fst x_1.snd.fst).fst.fr.getD (fetS x_1.fst x_1.snd.fst).snd.fst default).pg.sl x_2.sl) /\ True) /\ True)
  /\ x_2.sl.length <= 1048576) /\ (((EqC x (fetPage s no).fst) /\ (x_2.lsn = (fetPage s no).snd.fst.lsn /\ (0 = 0 /\ x_2.sl.length = (fetPage s no).snd.fst.sl.length) /\ True) /\ true = (fetPage s no).snd.snd.fst /\ (0 : Int) = (fetPage s
  no).snd.snd.snd /\ True) /\ True) /\ (EqL strRow x.d.sec (fetPage s no).fst.d.sec) /\ (EqL pendRow x.d.cache (fetPage s no).fst.d.cache) /\ (EqL intRow x.d.keep (fetPage s no).fst.d.keep) /\ (EqL recRow x.log (fetPage s no).fst.log) /\
  (0 = 0 /\ x.fr.length = (fetPage s no).fst.fr.length /\ FamEq x.fr.length (famRow x.fr) (famRow (fetPage s no).fst.fr)) /\ (EqL strRow x_2.sl (fetPage s no).snd.fst.sl) /\ True)))) :
  EffFn Tryz.prog 29 [.agg s.ts, .int .i64 no] [] (.tup [.agg ((fetPage s no).1.tm 0), .agg ((fetPage s no).2.1.tm 5), .bool (fetPage s no).2.2.1, .int .i64 (fetPage s no).2.2.2]) (hpP ((fetPage s no).1, (fetPage s no).2.1)) :=
 vcG (code := b_FetchPagei) (gC StoreOKi_ok call_StoreOKi (gC isPlace_ok call_isPlace (gC clSto_ok call_clSto (gC fetchY_ok call_fetchY (gC kept_ok call_kept (gC clPg_ok call_clPg gN)))))) Tryz.func29 (by kernel_rfl) (by kernel_rfl) noAnn [[.arr 12, .arr 13, .arr 14, .arr 15, .arr 16, .arr 17], [.nilS 0 [0,0] 0 1, .nilS 0 [0,1] 0 2, .nilS 0 [0,3] 0 1, .nilS 0 [0,5] 0 10, .nilS 0 [0,7] 0 5, .nilS 0 [1,1] 0 1, .fam 7, .arr 3, .arr 4, .arr 5, .arr 6, .arr 7, .arr 8]] h (by kernel_rfl)
theorem v_FetchPageN (s : Sto) (no : Int) (h :
  ∃ (x : r_StoreOK.ι), (((EqS s x) /\ True) /\ StoB x) /\ ((!stoOK x) = true -> ((((0 = 0 /\ 0 = (fetPage s no).fst.d.sec.length) /\ (0 = 0 /\ 0 = (fetPage s no).fst.d.cache.length) /\ false = (fetPage s no).fst.d.armed /\ (0 = 0 /\ 0 =
  (fetPage s no).fst.d.keep.length) /\ (0 : Int) = (fetPage s no).fst.ep /\ (0 = 0 /\ 0 = (fetPage s no).fst.log.length) /\ (0 : Int) = (fetPage s no).fst.sure /\ (0 = 0 /\ 0 = (fetPage s no).fst.fr.length) /\ (0 : Int) = (fetPage s
  no).fst.hand /\ True) /\ ((0 : Int) = (fetPage s no).snd.fst.lsn /\ (0 = 0 /\ 0 = (fetPage s no).snd.fst.sl.length) /\ True) /\ false = (fetPage s no).snd.snd.fst /\ (1 : Int) = (fetPage s no).snd.snd.snd /\ True) /\ True) /\ (0 = (fetPage
  s no).fst.d.sec.length /\ RowsEq 0 (fun (x : Nat) => []) (strRow (fetPage s no).fst.d.sec)) /\ (0 = (fetPage s no).fst.d.cache.length /\ RowsEq 0 (fun (x : Nat) => []) (pendRow (fetPage s no).fst.d.cache)) /\ (0 = (fetPage s
  no).fst.d.keep.length /\ RowsEq 0 (fun (x : Nat) => []) (intRow (fetPage s no).fst.d.keep)) /\ (0 = (fetPage s no).fst.log.length /\ RowsEq 0 (fun (x : Nat) => []) (recRow (fetPage s no).fst.log)) /\ (0 = 0 /\ 0 = (fetPage s
  no).fst.fr.length /\ FamEq 0 (fun (x : Nat) => []) (famRow (fetPage s no).fst.fr)) /\ (0 = (fetPage s no).snd.fst.sl.length /\ RowsEq 0 (fun (x : Nat) => []) (strRow (fetPage s no).snd.fst.sl)) /\ True) /\ ((!stoOK x) = false -> Small
  (8 : Int) /\ ((!(decide ((0 : Int) <= no) && decide (no < (8 : Int)))) = true -> ((((0 = 0 /\ 0 = (fetPage s no).fst.d.sec.length) /\ (0 = 0 /\ 0 = (fetPage s no).fst.d.cache.length) /\ false = (fetPage s no).fst.d.armed /\ (0 = 0 /\ 0 =
  (fetPage s no).fst.d.keep.length) /\ (0 : Int) = (fetPage s no).fst.ep /\ (0 = 0 /\ 0 = (fetPage s no).fst.log.length) /\ (0 : Int) = (fetPage s no).fst.sure /\ (0 = 0 /\ 0 = (fetPage s no).fst.fr.length) /\ (0 : Int) = (fetPage s
  no).fst.hand /\ True) /\ ((0 : Int) = (fetPage s no).snd.fst.lsn /\ (0 = 0 /\ 0 = (fetPage s no).snd.fst.sl.length) /\ True) /\ false = (fetPage s no).snd.snd.fst /\ (4 : Int) = (fetPage s no).snd.snd.snd /\ True) /\ True) /\ (0 = (fetPage
  s no).fst.d.sec.length /\ RowsEq 0 (fun (x : Nat) => []) (strRow (fetPage s no).fst.d.sec)) /\ (0 = (fetPage s no).fst.d.cache.length /\ RowsEq 0 (fun (x : Nat) => []) (pendRow (fetPage s no).fst.d.cache)) /\ (0 = (fetPage s
  no).fst.d.keep.length /\ RowsEq 0 (fun (x : Nat) => []) (intRow (fetPage s no).fst.d.keep)) /\ (0 = (fetPage s no).fst.log.length /\ RowsEq 0 (fun (x : Nat) => []) (recRow (fetPage s no).fst.log)) /\ (0 = 0 /\ 0 = (fetPage s
  no).fst.fr.length /\ FamEq 0 (fun (x : Nat) => []) (famRow (fetPage s no).fst.fr)) /\ (0 = (fetPage s no).snd.fst.sl.length /\ RowsEq 0 (fun (x : Nat) => []) (strRow (fetPage s no).snd.fst.sl)) /\ True) /\ ((!(decide ((0 : Int) <= no)
  && decide (no < (8 : Int)))) = false -> ∃ (x : Sto), (((EqS s x) /\ True) /\ SmS x) /\ ∃ (x_1 : (Sto × Nat × Nat)), (((0 = 0 /\ 0 = 0) /\ no = (x_1.snd.fst:Int) /\ True) /\ ((1 = 1 /\ 1 = 1 /\ EqC x x_1.fst) /\ EqH (0) (x_1.snd.snd) x
  x_1.fst) /\ FetB x_1.fst x_1.snd.fst /\ (fetS x_1.fst x_1.snd.fst).snd.snd = false) /\ (true = true -> ∃ (x : (Sto × Sto × Bool)), ((LeS (fetS x_1.fst x_1.snd.fst).fst) /\ ((EqS s x.fst) /\ (EqF (fetS x_1.fst x_1.snd.fst).fst x.snd.fst)
  /\ false = x.snd.snd /\ True) /\ SmS x.fst /\ SmS x.snd.fst) /\ (((EqC (kepS x.fst x.snd.fst x.snd.snd) (fetPage s no).fst) /\ ((0 : Int) = (fetPage s no).snd.fst.lsn /\ (0 = 0 /\ 0 = (fetPage s no).snd.fst.sl.length) /\ True) /\ false =
  (fetPage s no).snd.snd.fst /\ (0 : Int) = (fetPage s no).snd.snd.snd /\ True) /\ True) /\ (EqL strRow (kepS x.fst x.snd.fst x.snd.snd).d.sec (fetPage s no).fst.d.sec) /\ (EqL pendRow (kepS x.fst x.snd.fst x.snd.snd).d.cache (fetPage s
  no).fst.d.cache) /\ (EqL intRow (kepS x.fst x.snd.fst x.snd.snd).d.keep (fetPage s no).fst.d.keep) /\ (EqL recRow (kepS x.fst x.snd.fst x.snd.snd).log (fetPage s no).fst.log) /\ (0 = 0 /\ (kepS x.fst x.snd.fst x.snd.snd).fr.length =
  (fetPage s no).fst.fr.length /\ FamEq (kepS x.fst x.snd.fst x.snd.snd).fr.length (famRow (kepS x.fst x.snd.fst x.snd.snd).fr) (famRow (fetPage s no).fst.fr)) /\ (0 = (fetPage s no).snd.fst.sl.length /\ RowsEq 0 (fun (x : Nat) => [])
  (strRow (fetPage s no).snd.fst.sl)) /\ True) /\ (true = false -> ∃ (x : Sto), ((LeS (fetS x_1.fst x_1.snd.fst).fst) /\ ((EqF (fetS x_1.fst x_1.snd.fst).fst x) /\ True) /\ SmS x) /\ False)))) :
  EffFn Tryz.prog 29 [.agg s.ts, .int .i64 no] [] (.tup [.agg ((fetPage s no).1.tm 0), .agg ((fetPage s no).2.1.tm 5), .bool (fetPage s no).2.2.1, .int .i64 (fetPage s no).2.2.2]) (hpP ((fetPage s no).1, (fetPage s no).2.1)) :=
 vcG (code := b_FetchPagei) (gC StoreOKi_ok call_StoreOKi (gC isPlace_ok call_isPlace (gC clSto_ok call_clSto (gC fetchN_ok call_fetchN (gC kept_ok call_kept (gC clPg_ok call_clPg gN)))))) Tryz.func29 (by kernel_rfl) (by kernel_rfl) noAnn [[.nilS 0 [1,1] 0 1, .arr 12, .arr 13, .arr 14, .arr 15, .arr 16, .arr 17], [.nilS 0 [0,0] 0 1, .nilS 0 [0,1] 0 2, .nilS 0 [0,3] 0 1, .nilS 0 [0,5] 0 10, .nilS 0 [0,7] 0 5, .nilS 0 [1,1] 0 1, .fam 7, .arr 3, .arr 4, .arr 5, .arr 6, .arr 7, .arr 8]] h (by kernel_rfl)
theorem fetPage_no {s : Sto} {no : Int} (h : (!stoOK s) = true) : fetPage s no = (stoE, pgE, false, 1) := by unfold fetPage; rw [if_neg (by simpa using h)]
theorem fetPage_out {s : Sto} {no : Int} (h : (!stoOK s) = false) (hl : ¬ inR no 0 7 = true) : fetPage s no = (stoE, pgE, false, 4) := by unfold fetPage; rw [if_pos (by simpa using h), if_neg hl]
theorem fetPage_up {s : Sto} {no : Int} (h : stoOK s = true) (hl : inR no 0 7 = true) (hu : (fetS s no.toNat).2.2 = true) : fetPage s no = ((fetS s no.toNat).1, ((fetS s no.toNat).1.fr.getD (fetS s no.toNat).2.1 default).pg, true, 0) := by unfold fetPage; rw [if_pos h, if_pos hl, if_pos hu]
theorem fetPage_down {s : Sto} {no : Int} (h : stoOK s = true) (hl : inR no 0 7 = true) (hu : ¬ (fetS s no.toNat).2.2 = true) : fetPage s no = ((fetS s no.toNat).1, pgE, false, 0) := by unfold fetPage; rw [if_pos h, if_pos hl, if_neg hu]
theorem in8 (no : Int) : (decide (0 <= no) && decide (no < 8)) = inR no 0 7 := by
 unfold inR; rw [show decide (no < 8) = decide (no <= 7) from decide_eq_decide.2 (by omega)]
theorem FetchPagei_ok : ConOk Tryz.prog 29 k_FetchPagei := by
 rintro ⟨s, no⟩ ⟨h1, h2⟩; dsimp only at h1 h2; have h8 : Small 8 := by unfold Small; omega
 by_cases hu : (fetS s no.toNat).2.2 = true
 ·refine ⟨v_FetchPageY s no ⟨s, ⟨⟨eqS _, trivial⟩, h1⟩, fun hq => ?_, fun hq => ⟨h8, fun hr => ?_, fun hr => ?_⟩⟩, rfl, plain_app (plain_sto _ 0) (plain_str _)⟩
  ·rw [fetPage_no hq]; exact ⟨⟨⟨⟨⟨rfl, rfl⟩, ⟨rfl, rfl⟩, rfl, ⟨rfl, rfl⟩, rfl, ⟨rfl, rfl⟩, rfl, ⟨rfl, rfl⟩, rfl, trivial⟩, ⟨rfl, ⟨rfl, rfl⟩, trivial⟩, rfl, rfl, trivial⟩, trivial⟩, ⟨rfl, row0⟩, ⟨rfl, row0⟩, ⟨rfl, row0⟩, ⟨rfl, row0⟩, ⟨rfl, rfl, fun i hi => absurd hi (Nat.not_lt_zero _)⟩, ⟨rfl, row0⟩, trivial⟩
  ·rw [in8] at hr; rw [fetPage_out hq (by simpa using hr)]
   exact ⟨⟨⟨⟨⟨rfl, rfl⟩, ⟨rfl, rfl⟩, rfl, ⟨rfl, rfl⟩, rfl, ⟨rfl, rfl⟩, rfl, ⟨rfl, rfl⟩, rfl, trivial⟩, ⟨rfl, ⟨rfl, rfl⟩, trivial⟩, rfl, rfl, trivial⟩, trivial⟩, ⟨rfl, row0⟩, ⟨rfl, row0⟩, ⟨rfl, row0⟩, ⟨rfl, row0⟩, ⟨rfl, rfl, fun i hi => absurd hi (Nat.not_lt_zero _)⟩, ⟨rfl, row0⟩, trivial⟩
  ·rw [in8] at hr; have ho : stoOK s = true := by simpa using hq
   have hl := inR_nt hr; have hi := sto_inv ho h2; have hno : no.toNat < 8 := by omega
   have hf := fet_fr hi hno hu; rw [fetPage_up ho (by simpa using hr) hu]
   refine ⟨s, ⟨⟨eqS _, trivial⟩, h2⟩, (s, no.toNat, 0), ⟨⟨⟨rfl, rfl⟩, by dsimp only; omega, trivial⟩, ⟨⟨rfl, rfl, ⟨rfl, rfl⟩, ⟨rfl, rfl⟩, rfl, ⟨rfl, rfl⟩, rfl, ⟨rfl, rfl⟩, rfl, ⟨rfl, rfl⟩, rfl, trivial⟩, ⟨rfl, rowsR _ _⟩, ⟨rfl, rowsR _ _⟩, ⟨rfl, rowsR _ _⟩, ⟨rfl, rowsR _ _⟩, ⟨rfl, rfl, famR _⟩, trivial⟩, ⟨hi, hno⟩, hu⟩, fun hb => (by cases hb), fun _ => ⟨(fetS s no.toNat).1, ⟨⟨le0 _, le0 _, le0 _, le0 _, le0 _⟩, ⟨⟨⟨rfl, rowsR _ _⟩, ⟨rfl, rowsR _ _⟩, rfl, ⟨rfl, rowsR _ _⟩, rfl, ⟨rfl, rowsR _ _⟩, rfl, ⟨rfl, fun _ _ => rfl⟩, rfl, trivial⟩, trivial⟩, smS_fet hi hno⟩, hf.1, ((fetS s no.toNat).1.fr.getD (fetS s no.toNat).2.1 default).pg, ⟨⟨rfl, hf.1, Nat.le_refl _⟩, ⟨⟨rfl, ⟨rfl, rowsR _ _⟩, trivial⟩, trivial⟩, ?_⟩, ⟨⟨⟨⟨rfl, rfl⟩, ⟨rfl, rfl⟩, rfl, ⟨rfl, rfl⟩, rfl, ⟨rfl, rfl⟩, rfl, ⟨rfl, rfl⟩, rfl, trivial⟩, ⟨rfl, ⟨rfl, rfl⟩, trivial⟩, rfl, rfl, trivial⟩, trivial⟩, ⟨rfl, rowsR _ _⟩, ⟨rfl, rowsR _ _⟩, ⟨rfl, rowsR _ _⟩, ⟨rfl, rowsR _ _⟩, ⟨rfl, rfl, famR _⟩, ⟨rfl, rowsR _ _⟩, trivial⟩⟩
   have := hf.2.2.2.1; omega
 ·refine ⟨v_FetchPageN s no ⟨s, ⟨⟨eqS _, trivial⟩, h1⟩, fun hq => ?_, fun hq => ⟨h8, fun hr => ?_, fun hr => ?_⟩⟩, rfl, plain_app (plain_sto _ 0) (plain_str _)⟩
  ·rw [fetPage_no hq]; exact ⟨⟨⟨⟨⟨rfl, rfl⟩, ⟨rfl, rfl⟩, rfl, ⟨rfl, rfl⟩, rfl, ⟨rfl, rfl⟩, rfl, ⟨rfl, rfl⟩, rfl, trivial⟩, ⟨rfl, ⟨rfl, rfl⟩, trivial⟩, rfl, rfl, trivial⟩, trivial⟩, ⟨rfl, row0⟩, ⟨rfl, row0⟩, ⟨rfl, row0⟩, ⟨rfl, row0⟩, ⟨rfl, rfl, fun i hi => absurd hi (Nat.not_lt_zero _)⟩, ⟨rfl, row0⟩, trivial⟩
  ·rw [in8] at hr; rw [fetPage_out hq (by simpa using hr)]
   exact ⟨⟨⟨⟨⟨rfl, rfl⟩, ⟨rfl, rfl⟩, rfl, ⟨rfl, rfl⟩, rfl, ⟨rfl, rfl⟩, rfl, ⟨rfl, rfl⟩, rfl, trivial⟩, ⟨rfl, ⟨rfl, rfl⟩, trivial⟩, rfl, rfl, trivial⟩, trivial⟩, ⟨rfl, row0⟩, ⟨rfl, row0⟩, ⟨rfl, row0⟩, ⟨rfl, row0⟩, ⟨rfl, rfl, fun i hi => absurd hi (Nat.not_lt_zero _)⟩, ⟨rfl, row0⟩, trivial⟩
  ·rw [in8] at hr; have ho : stoOK s = true := by simpa using hq
   have hl := inR_nt hr; have hi := sto_inv ho h2; have hno : no.toNat < 8 := by omega
   have hu' : (fetS s no.toNat).2.2 = false := by simpa using hu
   have ek : kepS s (fetS s no.toNat).1 false = (fetS s no.toNat).1 := fet_keep hu'; rw [fetPage_down ho (by simpa using hr) hu]
   refine ⟨s, ⟨⟨eqS _, trivial⟩, h2⟩, (s, no.toNat, 0), ⟨⟨⟨rfl, rfl⟩, by dsimp only; omega, trivial⟩, ⟨⟨rfl, rfl, ⟨rfl, rfl⟩, ⟨rfl, rfl⟩, rfl, ⟨rfl, rfl⟩, rfl, ⟨rfl, rfl⟩, rfl, ⟨rfl, rfl⟩, rfl, trivial⟩, ⟨rfl, rowsR _ _⟩, ⟨rfl, rowsR _ _⟩, ⟨rfl, rowsR _ _⟩, ⟨rfl, rowsR _ _⟩, ⟨rfl, rfl, famR _⟩, trivial⟩, ⟨hi, hno⟩, hu'⟩, fun _ => ⟨(s, (fetS s no.toNat).1, false), ⟨⟨le0 _, le0 _, le0 _, le0 _, le0 _⟩, ⟨eqS _, ⟨⟨rfl, rowsR _ _⟩, ⟨rfl, rowsR _ _⟩, rfl, ⟨rfl, rowsR _ _⟩, rfl, ⟨rfl, rowsR _ _⟩, rfl, ⟨rfl, fun _ _ => rfl⟩, rfl, trivial⟩, rfl, trivial⟩, h2, smS_fet hi hno⟩, ?_⟩, fun hb => (by cases hb)⟩
   dsimp only; rw [ek]; exact ⟨⟨⟨⟨⟨rfl, rfl⟩, ⟨rfl, rfl⟩, rfl, ⟨rfl, rfl⟩, rfl, ⟨rfl, rfl⟩, rfl, ⟨rfl, rfl⟩, rfl, trivial⟩, ⟨rfl, ⟨rfl, rfl⟩, trivial⟩, rfl, rfl, trivial⟩, trivial⟩, ⟨rfl, rowsR _ _⟩, ⟨rfl, rowsR _ _⟩, ⟨rfl, rowsR _ _⟩, ⟨rfl, rowsR _ _⟩, ⟨rfl, rfl, famR _⟩, ⟨rfl, row0⟩, trivial⟩
theorem inv_apl {s : Sto} {lsn : Int} (h : SInv s) (h1 : 1 <= lsn) (h2 : lsn <= s.log.length) : AplB s (s.log.getD (lsn - 1).toNat default) /\ (s.log.getD (lsn - 1).toNat default).l = lsn := by
 obtain ⟨a, b⟩ := areOK_iff.1 h.rc (lsn - 1).toNat (by omega)
 have a := (recOK_iff _).1 a; obtain ⟨_, _, _, _, _, _, _, _, _, _, q1, q2, q3, q4, _⟩ := a; exact ⟨⟨h, q1, by omega, q3, by omega⟩, by omega⟩
end Go.Proofs.YtndilbkocjlgpaaGreat

