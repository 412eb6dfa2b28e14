/- A part of the proof. -/
import Derived.Test.YtndilbkocjlgpaaGreatX14
import Derived.Test.YtndilbkocjlgpaaGreatY4Y5
namespace Go.Proofs.YtndilbkocjlgpaaGreat
set_option maxRecDepth 100000
open Go.SS

noncomputable def k_l05PageD : Con := .rel ⟨Dsk × Nat, fun x => [.agg x.1.ts, .int .i64 x.2], fun x => .tup [.agg (pgAt x.1 x.2).1.ts, .bool (pgAt x.1 x.2).2], DkB⟩
theorem call_l05PageD : Callable Tryz.prog 105 := ⟨_, Tryz.func105, by kernel_rfl, by kernel_rfl⟩
theorem l05PageD_ok : ConOk Tryz.prog 105 k_l05PageD := by
  rintro ⟨d, no⟩ ⟨h1, h2, h3, h4⟩; dsimp only at h1 h2 h3 h4; refine v_l05Page d no ⟨i64_rng (by omega), (d, 1 + no), ⟨⟨eqD _, by simp only; omega, trivial⟩, h1, by simp only; omega⟩, fun h => ⟨(), ⟨trivial, trivial⟩, ?_⟩, fun h => ⟨((no : Int), rdAt d (1 + no)), ⟨⟨rfl, rfl, trivial⟩, h4⟩, ?_⟩⟩
  · have h : rdAt d (1 + no) = [] := by simpa using h
    have e : pgAt d no = (⟨0, [[], [], [], []]⟩, true) := by unfold pgAt; rw [if_pos h]
    rw [e]; exact ⟨⟨rfl, ⟨rfl, rowsR _ _⟩, trivial⟩, rfl, trivial⟩
  · have h : rdAt d (1 + no) ≠ [] := by simpa using h
    have e : pgAt d no = rdPg no (rdAt d (1 + no)) := by unfold pgAt; rw [if_neg h]
    rw [e]; exact ⟨⟨rfl, ⟨rfl, rowsR _ _⟩, trivial⟩, rfl, trivial⟩
theorem app0 {f row : Nat -> List T} : appRow f 0 row = row := funext fun _ => rfl
theorem frm_put {L : List Frm} {k : Nat} (f : Frm) (hk : k < L.length) : RowsEq L.length (setRow (frmRow L) k 0 f.ts) (frmRow (L.set k f)) := fun i _ => by
  have hl : ∀ j, (frmRow L j).length = 5 := fun _ => rfl
  rw [setRow_full (by rw [hl]; rfl)]
  unfold frmRow; by_cases h : i = k
  · subst h; rw [nb_t rfl, set_at _ hk]
  · rw [nb_f h, show (L.set k f).getD i default = L.getD i default by rw [List.getD_eq_getElem?_getD, List.getElem?_set_ne (Ne.symm h), ← List.getD_eq_getElem?_getD]]
theorem frm_cl {L : List Frm} {k : Nat} (hk : k < L.length) : RowsEq L.length (setRow (setRow (frmRow L) k 3 [T.bool false]) k 4 [T.int IntKind.i64 0]) (frmRow (L.set k (clF (L.getD k default)))) := fun i hi => by
  have hl : ∀ j, (frmRow L j).length = 5 := fun _ => rfl
  by_cases h : i = k
  · subst h; unfold setRow; rw [nb_t rfl]; unfold frmRow; rw [set_at _ hk]; rfl
  · rw [setRow_ne (by rw [setRow_length (by rw [hl]; decide), hl]; decide) h, setRow_ne (by rw [hl]; decide) h]
    unfold frmRow; rw [show (L.set k (clF (L.getD k default))).getD i default = L.getD i default by rw [List.getD_eq_getElem?_getD, List.getElem?_set_ne (Ne.symm h), ← List.getD_eq_getElem?_getD]]
theorem frm_add {L : List Frm} (f : Frm) (r : Nat -> List T) (hr : (r 0).length = 5) : RowsEq (L.length + 1) (setRow (appRow (frmRow L) L.length r) L.length 0 f.ts) (frmRow (L ++ [f])) := fun i hi => by
  have hl : (appRow (frmRow L) L.length r i).length = 5 := by
    unfold appRow; by_cases h : i < L.length
    · rw [blt_t h]; rfl
    · rw [blt_f h, show i - L.length = 0 by omega]
      exact hr
  rw [setRow_full (by rw [hl]; rfl)]
  by_cases h : i = L.length
  · subst h; rw [nb_t rfl]; unfold frmRow; rw [show (L ++ [f]).getD L.length default = f by rw [List.getD_eq_getElem?_getD, List.getElem?_append_right (Nat.le_refl _)]; simp]
  · rw [nb_f h]; unfold appRow; rw [blt_t (by omega)]
    unfold frmRow; rw [show (L ++ [f]).getD i default = L.getD i default by rw [List.getD_eq_getElem?_getD, List.getElem?_append_left (by omega), ← List.getD_eq_getElem?_getD]]
def k_l05Out : Con := .rel ⟨Sto × Nat, fun x => [.agg x.1.ts, .int .i64 x.2], fun x => .tup [.agg (outS x.1 x.2).1.ts, .bool (outS x.1 x.2).2], fun x => SInv x.1 /\ x.2 < x.1.fr.length⟩
noncomputable def b_l05Out : Code := Tryz.f148.body.getD .skip
theorem call_l05Out : Callable Tryz.prog 148 := ⟨_, Tryz.func148, by kernel_rfl, by kernel_rfl⟩
theorem v_l05Out (s : Sto) (k : Nat) (h :
    InB (k:Int) s.fr.length /\ ((!(s.fr.getD (k:Int).toNat default).dirty) = true -> (EqS s (outS s k).fst) /\ true = (outS s k).snd /\ True) /\ ((!(s.fr.getD (k:Int).toNat default).dirty) = false -> ∃ (x : (Sto × Int)), (((EqS s x.fst) /\
    (s.fr.getD (k:Int).toNat default).pg.lsn = x.snd /\ True) /\ FluB x.fst x.snd) /\ ((!(fluS x.fst x.snd).snd) = true -> (EqS (fluS x.fst x.snd).fst (outS s k).fst) /\ false = (outS s k).snd /\ True) /\ ((!(fluS x.fst x.snd).snd) = false ->
    (((↑(fluS x.fst x.snd).fst.d.cache.length : Int) == (500 : Int)) = true -> ∃ (x_1 : Dsk), (((EqD (fluS x.fst x.snd).fst.d x_1) /\ True) /\ SmD x_1 /\ PdB x_1) /\ ((!(synD x_1).snd) = true -> ((EqL strRow (synD x_1).fst.sec (outS s
    k).fst.d.sec) /\ (EqL pendRow (synD x_1).fst.cache (outS s k).fst.d.cache) /\ (synD x_1).fst.armed = (outS s k).fst.d.armed /\ (EqL intRow (synD x_1).fst.keep (outS s k).fst.d.keep) /\ (fluS x.fst x.snd).fst.ep = (outS s k).fst.ep /\
    (EqL recRow (fluS x.fst x.snd).fst.log (outS s k).fst.log) /\ (fluS x.fst x.snd).fst.sure = (outS s k).fst.sure /\ (EqL frmRow (fluS x.fst x.snd).fst.fr (outS s k).fst.fr) /\ (fluS x.fst x.snd).fst.hand = (outS s k).fst.hand /\ True)
    /\ false = (outS s k).snd /\ True) /\ ((!(synD x_1).snd) = false -> Rng .i64 ((1 : Int) + (s.fr.getD (k:Int).toNat default).no) /\ ∃ (x_2 : r_l03Bytes.ι), (((s.fr.getD (k:Int).toNat default).no = x_2.fst /\ ((s.fr.getD (k:Int).toNat
    default).pg.lsn = x_2.snd.lsn /\ (EqL strRow (s.fr.getD (k:Int).toNat default).pg.sl x_2.snd.sl) /\ True) /\ True) /\ PgP x_2.snd) /\ ∃ (x_3 : (Dsk × Int × List UInt8)), (((EqD (synD x_1).fst x_3.fst) /\ (1 : Int) + (s.fr.getD
    (k:Int).toNat default).no = x_3.snd.fst /\ pgBytes x_2.fst x_2.snd = x_3.snd.snd /\ True) /\ x_3.fst.cache.length <= 1048576) /\ (Le 0 0 /\ AppB 0 (fluS x.fst x.snd).fst.fr.length 56) /\ InB (k:Int) (0 + (fluS x.fst x.snd).fst.fr.length)
    /\ Lt (0 + (k:Int).toNat) (0 + (fluS x.fst x.snd).fst.fr.length) /\ InB (k:Int) (0 + (fluS x.fst x.snd).fst.fr.length) /\ Lt (0 + (k:Int).toNat) (0 + (fluS x.fst x.snd).fst.fr.length) /\ Le (0 + (0 + (fluS x.fst x.snd).fst.fr.length))
    (0 + (fluS x.fst x.snd).fst.fr.length) /\ ((EqL strRow x_3.fst.sec (outS s k).fst.d.sec) /\ (EqL pendRow (x_3.fst.cache ++ [Pend.mk x_3.snd.fst x_3.snd.snd]) (outS s k).fst.d.cache) /\ x_3.fst.armed = (outS s k).fst.d.armed /\ (EqL
    intRow x_3.fst.keep (outS s k).fst.d.keep) /\ (fluS x.fst x.snd).fst.ep = (outS s k).fst.ep /\ (EqL recRow (fluS x.fst x.snd).fst.log (outS s k).fst.log) /\ (fluS x.fst x.snd).fst.sure = (outS s k).fst.sure /\ (0 + (fluS x.fst
    x.snd).fst.fr.length = (outS s k).fst.fr.length /\ RowsEq (0 + (fluS x.fst x.snd).fst.fr.length) (setRow (setRow (appRow (fun (k : Nat) => List.take 5 (List.drop (k * 5) [])) 0 (frmRow (fluS x.fst x.snd).fst.fr)) (0 +
    (k:Int).toNat) 3 [T.bool false]) (0 + (k:Int).toNat) 4 [T.int .i64 (0 : Int)]) (frmRow (outS s k).fst.fr)) /\ (fluS x.fst x.snd).fst.hand = (outS s k).fst.hand /\ True) /\ true = (outS s k).snd /\ True)) /\ (((↑(fluS x.fst
    x.snd).fst.d.cache.length : Int) == (500 : Int)) = false -> Rng .i64 ((1 : Int) + (s.fr.getD (k:Int).toNat default).no) /\ ∃ (x_1 : r_l03Bytes.ι), (((s.fr.getD (k:Int).toNat default).no = x_1.fst /\ ((s.fr.getD (k:Int).toNat
    default).pg.lsn = x_1.snd.lsn /\ (EqL strRow (s.fr.getD (k:Int).toNat default).pg.sl x_1.snd.sl) /\ True) /\ True) /\ PgP x_1.snd) /\ ∃ (x_2 : (Dsk × Int × List UInt8)), (((EqD (fluS x.fst x.snd).fst.d x_2.fst) /\ (1 : Int) + (s.fr.getD
    (k:Int).toNat default).no = x_2.snd.fst /\ pgBytes x_1.fst x_1.snd = x_2.snd.snd /\ True) /\ x_2.fst.cache.length <= 1048576) /\ (Le 0 0 /\ AppB 0 (fluS x.fst x.snd).fst.fr.length 56) /\ InB (k:Int) (0 + (fluS x.fst x.snd).fst.fr.length)
    /\ Lt (0 + (k:Int).toNat) (0 + (fluS x.fst x.snd).fst.fr.length) /\ InB (k:Int) (0 + (fluS x.fst x.snd).fst.fr.length) /\ Lt (0 + (k:Int).toNat) (0 + (fluS x.fst x.snd).fst.fr.length) /\ Le (0 + (0 + (fluS x.fst x.snd).fst.fr.length))
    (0 + (fluS x.fst x.snd).fst.fr.length) /\ ((EqL strRow x_2.fst.sec (outS s k).fst.d.sec) /\ (EqL pendRow (x_2.fst.cache ++ [Pend.mk x_2.snd.fst x_2.snd.snd]) (outS s k).fst.d.cache) /\ x_2.fst.armed = (outS s k).fst.d.armed /\ (EqL
    intRow x_2.fst.keep (outS s k).fst.d.keep) /\ (fluS x.fst x.snd).fst.ep = (outS s k).fst.ep /\ (EqL recRow (fluS x.fst x.snd).fst.log (outS s k).fst.log) /\ (fluS x.fst x.snd).fst.sure = (outS s k).fst.sure /\ (0 + (fluS x.fst
    x.snd).fst.fr.length = (outS s k).fst.fr.length /\ RowsEq (0 + (fluS x.fst x.snd).fst.fr.length) (setRow (setRow (appRow (fun (k : Nat) => List.take 5 (List.drop (k * 5) [])) 0 (frmRow (fluS x.fst x.snd).fst.fr)) (0 +
    (k:Int).toNat) 3 [T.bool false]) (0 + (k:Int).toNat) 4 [T.int .i64 (0 : Int)]) (frmRow (outS s k).fst.fr)) /\ (fluS x.fst x.snd).fst.hand = (outS s k).fst.hand /\ True) /\ true = (outS s k).snd /\ True)))) :
    PureFn Tryz.prog 148 [.agg s.ts, .int .i64 k] (.tup [.agg (outS s k).1.ts, .bool (outS s k).2]) :=
  vcR (code := b_l05Out) (gC l05Flush_ok call_l05Flush (gC l02Sync_ok call_l02Sync (gC l03Bytes_ok call_l03Bytes (gC l02Write_ok call_l02Write gN)))) Tryz.func148 (by kernel_rfl) (by kernel_rfl) noAnn h (by kernel_rfl)
theorem l05Out_ok : ConOk Tryz.prog 148 k_l05Out := by
  rintro ⟨s, k⟩ ⟨h, hk⟩; dsimp only at h hk; have hfp := h.frp k hk; have hf := h.flu hfp.2.2.2; have hfr := flu_fr s (s.fr.getD k default).pg.lsn; have hS := smS_fluS hf h.sm; have hP := flu_pd (l := (s.fr.getD k default).pg.lsn) h.pd; have hc5 := flu_c (l := (s.fr.getD k default).pg.lsn) h.c; have h3 := h.fr3; have o1 := @out_down s k; have o2 := @out_syn s k; have o3 := @out_up s k; refine v_l05Out s k ?_
  rw [Int.toNat_natCast]; refine ⟨inB_nat hk, fun hd => ?_, fun hd => ⟨(s, (s.fr.getD k default).pg.lsn), ⟨⟨eqS _, rfl, trivial⟩, hf⟩, fun hu => ?_, fun hu => ⟨fun hc => ?_, fun hc => ?_⟩⟩⟩
  · rw [out_clean (by simpa using hd)]
    exact ⟨eqS _, rfl, trivial⟩
  all_goals
    have hd : (s.fr.getD k default).dirty = true := by simpa using hd
    replace o1 := o1 hd; replace o2 := o2 hd; replace o3 := o3 hd; dsimp only at *; generalize fluS s (s.fr.getD k default).pg.lsn = A at *; obtain ⟨a, up⟩ := A; dsimp only at *; rw [← hfr] at hk hfp h3
  · have hu : up = false := (Bool.not_eq_true' _).mp hu; subst hu; rw [o1 rfl]; exact ⟨eqS _, rfl, trivial⟩
  · have hu : up = true := (Bool.not_eq_false' _).mp hu; subst hu; have hc : 500 <= a.d.cache.length := by have := beq_iff_eq.1 hc; omega
    rw [← hfr]; refine ⟨a.d, ⟨⟨eqD _, trivial⟩, hS.1, hP⟩, fun hb => ?_, fun hb => ?_⟩
    · have hb : (synD a.d).2 = false := (Bool.not_eq_true' _).mp hb; rw [o2 rfl (by rw [syn5_t hc]; exact hb), syn5_t hc]
      exact (by repeat' first | exact trivial | exact rfl | exact rowsR _ _ | exact famR _ | exact row0 | exact le0 _ | exact Nat.le_refl _ | exact Nat.zero_le _ | refine And.intro ?_ ?_)
    · have hb : (synD a.d).2 = true := (Bool.not_eq_false' _).mp hb; rw [o3 rfl (by rw [syn5_t hc]; exact hb), syn5_t hc]
      exact ⟨i64_rng (by omega), ((a.fr.getD k default).no, (a.fr.getD k default).pg), ⟨(by repeat' first | exact trivial | exact rfl | exact rowsR _ _ | exact famR _ | exact row0 | exact le0 _ | exact Nat.le_refl _ | exact Nat.zero_le _ | refine And.intro ?_ ?_), hfp.2.2.1⟩, ((synD a.d).1, 1 + (a.fr.getD k default).no, pgBytes (a.fr.getD k default).no (a.fr.getD k default).pg), ⟨(by repeat' first | exact trivial | exact rfl | exact rowsR _ _ | exact famR _ | exact row0 | exact le0 _ | exact Nat.le_refl _ | exact Nat.zero_le _ | refine And.intro ?_ ?_), by show (synD a.d).1.cache.length <= _; rw [syn_cache]; exact Nat.zero_le _⟩, ⟨Nat.le_refl _, by unfold AppB; omega⟩, ⟨by omega, by omega⟩, by unfold Lt; omega, ⟨by omega, by omega⟩, by unfold Lt; omega, by unfold Le; omega, ⟨⟨rfl, rowsR _ _⟩, ⟨rfl, rowsR _ _⟩, rfl, ⟨rfl, rowsR _ _⟩, rfl, ⟨rfl, rowsR _ _⟩, rfl, ⟨by rw [Nat.zero_add]; exact List.length_set.symm, by rw [Nat.zero_add, Nat.zero_add, app0]; exact frm_cl hk⟩, rfl, trivial⟩, rfl, trivial⟩
  · have hu : up = true := (Bool.not_eq_false' _).mp hu; subst hu; have hc : ¬ 500 <= a.d.cache.length := fun e => by have e : (a.d.cache.length : Int) = 500 := (by omega); rw [e] at hc; simp at hc
    rw [← hfr, o3 rfl (by rw [syn5_f hc]), syn5_f hc]
    exact ⟨i64_rng (by omega), ((a.fr.getD k default).no, (a.fr.getD k default).pg), ⟨(by repeat' first | exact trivial | exact rfl | exact rowsR _ _ | exact famR _ | exact row0 | exact le0 _ | exact Nat.le_refl _ | exact Nat.zero_le _ | refine And.intro ?_ ?_), hfp.2.2.1⟩, (a.d, 1 + (a.fr.getD k default).no, pgBytes (a.fr.getD k default).no (a.fr.getD k default).pg), ⟨(by repeat' first | exact trivial | exact rfl | exact rowsR _ _ | exact famR _ | exact row0 | exact le0 _ | exact Nat.le_refl _ | exact Nat.zero_le _ | refine And.intro ?_ ?_), by dsimp only; omega⟩, ⟨Nat.le_refl _, by unfold AppB; omega⟩, ⟨by omega, by omega⟩, by unfold Lt; omega, ⟨by omega, by omega⟩, by unfold Lt; omega, by unfold Le; omega, ⟨⟨rfl, rowsR _ _⟩, ⟨rfl, rowsR _ _⟩, rfl, ⟨rfl, rowsR _ _⟩, rfl, ⟨rfl, rowsR _ _⟩, rfl, ⟨by rw [Nat.zero_add]; exact List.length_set.symm, by rw [Nat.zero_add, Nat.zero_add, app0]; exact frm_cl hk⟩, rfl, trivial⟩, rfl, trivial⟩
noncomputable def k_l05Fetch : Con := .rel ⟨Sto × Nat, fun x => [.agg x.1.ts, .int .i64 x.2], fun x => .tup [.agg (fetS x.1 x.2).1.ts, .int .i64 (fetS x.1 x.2).2.1, .bool (fetS x.1 x.2).2.2], fun x => FetB x.1 x.2⟩
noncomputable def b_l05Fetch : Code := Tryz.f87.body.getD .skip
theorem call_l05Fetch : Callable Tryz.prog 87 := ⟨_, Tryz.func87, by kernel_rfl, by kernel_rfl⟩
theorem v_l05Fetch (s : Sto) (no : Nat) (h :
    ∃ (x : r_l05Frame.ι), (((EqS s x.fst) /\ (no:Int) = x.snd /\ True) /\ Len x.fst.fr.length) /\ (decide (frAt x.fst.fr x.snd ≥ (0 : Int)) = true -> (EqS s (fetS s no).fst) /\ frAt x.fst.fr x.snd = (↑(fetS s no).snd.fst : Int) /\ true =
    (fetS s no).snd.snd /\ True) /\ (decide (frAt x.fst.fr x.snd ≥ (0 : Int)) = false -> (((s.fr.length:Int) == (3 : Int)) = true -> ∃ (x : (Sto × Nat)), (((EqS s x.fst) /\ s.hand = (x.snd:Int) /\ True) /\ SInv x.fst /\ x.snd <
    x.fst.fr.length) /\ ((!(outS x.fst x.snd).snd) = true -> (EqS (outS x.fst x.snd).fst (fetS s no).fst) /\ (0 : Int) = (↑(fetS s no).snd.fst : Int) /\ false = (fetS s no).snd.snd /\ True) /\ ((!(outS x.fst x.snd).snd) = false -> Rng .i64
    ((outS x.fst x.snd).fst.hand + (1 : Int)) /\ Nz (3 : Int) /\ ∃ (x_1 : (Dsk × Nat)), (((EqD (outS x.fst x.snd).fst.d x_1.fst) /\ (no:Int) = (x_1.snd:Int) /\ True) /\ DkB x_1) /\ (Le 0 0 /\ AppB 0 (outS x.fst x.snd).fst.fr.length 56) /\ InB
    s.hand (0 + (outS x.fst x.snd).fst.fr.length) /\ Lt (0 + s.hand.toNat) (0 + (outS x.fst x.snd).fst.fr.length) /\ Le (0 + (0 + (outS x.fst x.snd).fst.fr.length)) (0 + (outS x.fst x.snd).fst.fr.length) /\ ((EqL strRow (outS x.fst
    x.snd).fst.d.sec (fetS s no).fst.d.sec) /\ (EqL pendRow (outS x.fst x.snd).fst.d.cache (fetS s no).fst.d.cache) /\ (outS x.fst x.snd).fst.d.armed = (fetS s no).fst.d.armed /\ (EqL intRow (outS x.fst x.snd).fst.d.keep (fetS s
    no).fst.d.keep) /\ (outS x.fst x.snd).fst.ep = (fetS s no).fst.ep /\ (EqL recRow (outS x.fst x.snd).fst.log (fetS s no).fst.log) /\ (outS x.fst x.snd).fst.sure = (fetS s no).fst.sure /\ (0 + (outS x.fst x.snd).fst.fr.length = (fetS s
    no).fst.fr.length /\ RowsEq (0 + (outS x.fst x.snd).fst.fr.length) (setRow (appRow (fun (k : Nat) => List.take 5 (List.drop (k * 5) [])) 0 (frmRow (outS x.fst x.snd).fst.fr)) (0 + s.hand.toNat) 0 [T.int .i64 (no:Int), T.int .i64
    (pgAt x_1.fst x_1.snd).fst.lsn, T.sl 1 (pgAt x_1.fst x_1.snd).fst.sl.length (strRow (pgAt x_1.fst x_1.snd).fst.sl), T.bool false, T.int .i64 (0 : Int)]) (frmRow (fetS s no).fst.fr)) /\ ((outS x.fst x.snd).fst.hand + (1 : Int)).tmod
    (3 : Int) = (fetS s no).fst.hand /\ True) /\ s.hand = (↑(fetS s no).snd.fst : Int) /\ true = (fetS s no).snd.snd /\ True)) /\ (((s.fr.length:Int) == (3 : Int)) = false -> (Le 0 0 /\ AppB 0 s.fr.length 56) /\ (Le 1 1 /\ Le (0 + s.fr.length)
    (0 + s.fr.length) /\ AppB (0 + s.fr.length) 1 56) /\ ∃ (x : (Dsk × Nat)), (((EqD s.d x.fst) /\ (no:Int) = (x.snd:Int) /\ True) /\ DkB x) /\ (Le (0 + (0 + s.fr.length + 1)) (0 + s.fr.length + 1) /\ Le 0 0 /\ AppB 0 (0 + s.fr.length + 1)
    56) /\ InB (s.fr.length:Int) (0 + (0 + s.fr.length + 1)) /\ Lt (0 + (s.fr.length:Int).toNat) (0 + (0 + s.fr.length + 1)) /\ Le (0 + (0 + (0 + s.fr.length + 1))) (0 + (0 + s.fr.length + 1)) /\ ((EqL strRow s.d.sec (fetS s
    no).fst.d.sec) /\ (EqL pendRow s.d.cache (fetS s no).fst.d.cache) /\ s.d.armed = (fetS s no).fst.d.armed /\ (EqL intRow s.d.keep (fetS s no).fst.d.keep) /\ s.ep = (fetS s no).fst.ep /\ (EqL recRow s.log (fetS s no).fst.log) /\ s.sure =
    (fetS s no).fst.sure /\ (0 + (0 + s.fr.length + 1) = (fetS s no).fst.fr.length /\ RowsEq (0 + (0 + s.fr.length + 1)) (setRow (appRow (fun (k : Nat) => List.take 5 (List.drop (k * 5) [])) 0 (appRow (appRow (fun (k : Nat) => List.take
    5 (List.drop (k * 5) [])) 0 (frmRow s.fr)) (0 + s.fr.length) fun (k : Nat) => List.take 5 (List.drop (k * 5) [T.int .i64 (0 : Int), T.int .i64 (0 : Int), T.v (Value.slice none 0 0), T.bool false, T.int .i64 (0 : Int)]))) (0 +
    (s.fr.length:Int).toNat) 0 [T.int .i64 (no:Int), T.int .i64 (pgAt x.fst x.snd).fst.lsn, T.sl 1 (pgAt x.fst x.snd).fst.sl.length (strRow (pgAt x.fst x.snd).fst.sl), T.bool false, T.int .i64 (0 : Int)]) (frmRow (fetS s no).fst.fr))
    /\ s.hand = (fetS s no).fst.hand /\ True) /\ (s.fr.length:Int) = (↑(fetS s no).snd.fst : Int) /\ true = (fetS s no).snd.snd /\ True))) :
    PureFn Tryz.prog 87 [.agg s.ts, .int .i64 no] (.tup [.agg (fetS s no).1.ts, .int .i64 (fetS s no).2.1, .bool (fetS s no).2.2]) :=
  vcR (code := b_l05Fetch) (gC l05Frame_ok call_l05Frame (gC l05Out_ok call_l05Out (gC l05PageD_ok call_l05PageD gN))) Tryz.func87 (by kernel_rfl) (by kernel_rfl) noAnn h (by kernel_rfl)
theorem l05Fetch_ok : ConOk Tryz.prog 87 k_l05Fetch := by
  rintro ⟨s, no⟩ ⟨h, hno⟩; dsimp only at h hno; have hL : Len s.fr.length := by have := h.fr3; unfold Len; omega
  have hl3 := h.fr3; refine v_l05Fetch s no ⟨(s, (no : Int)), ⟨⟨eqS _, rfl, trivial⟩, hL⟩, fun hc => ?_, fun hc => ⟨fun h3 => ?_, fun h3 => ?_⟩⟩
  · have hc : 0 <= frAt s.fr no := of_decide_eq_true hc; rw [(fet_hit 0 hc).1]; exact ⟨eqS _, by dsimp only; omega, rfl, trivial⟩
  · have hc : ¬ 0 <= frAt s.fr no := of_decide_eq_false hc; have h3 : s.fr.length = 3 := by have := beq_iff_eq.1 h3; omega
    have hh := h.hd; have hk : s.hand.toNat < s.fr.length := by omega
    obtain ⟨r1, r2, _⟩ := out_rest s s.hand.toNat; refine ⟨(s, s.hand.toNat), ⟨⟨eqS _, by dsimp only; omega, trivial⟩, h, hk⟩, fun hu => ?_, fun hu => ?_⟩
    · have hu : (outS s s.hand.toNat).2 = false := (Bool.not_eq_true' _).mp hu; rw [(fet_down 0 hc h3 hu).1]; exact ⟨eqS _, rfl, rfl, trivial⟩
    · have hu : (outS s s.hand.toNat).2 = true := (Bool.not_eq_false' _).mp hu; obtain ⟨d1, _⟩ := fet_pg h hno hc h3 hu; rw [(fet_next 0 hc h3 hu).1]; exact ⟨i64_rng (by dsimp only; omega), by unfold Nz; omega, ((outS s s.hand.toNat).1.d, no), ⟨⟨eqD _, rfl, trivial⟩, d1⟩, ⟨Nat.le_refl _, by unfold AppB; dsimp only; omega⟩, ⟨by omega, by dsimp only; omega⟩, by unfold Lt; dsimp only; omega, by unfold Le; dsimp only; omega, ⟨⟨rfl, rowsR _ _⟩, ⟨rfl, rowsR _ _⟩, rfl, ⟨rfl, rowsR _ _⟩, rfl, ⟨rfl, rowsR _ _⟩, rfl, ⟨by rw [Nat.zero_add]; exact List.length_set.symm, by rw [Nat.zero_add, Nat.zero_add, app0]; exact frm_put (frmN no (pgAt (outS s s.hand.toNat).1.d no).1) (by rw [r1]; exact hk)⟩, rfl, trivial⟩, by dsimp only; omega, rfl, trivial⟩
  · have hc : ¬ 0 <= frAt s.fr no := of_decide_eq_false hc; have h3 : ¬ s.fr.length = 3 := fun e => by rw [e] at h3; simp at h3
    obtain ⟨d1, _⟩ := fet_pg0 h hno; rw [(fet_add 0 hc h3).1]; exact ⟨⟨Nat.le_refl _, by unfold AppB; omega⟩, ⟨Nat.le_refl _, by unfold Le; omega, by unfold AppB; omega⟩, (s.d, no), ⟨⟨eqD _, rfl, trivial⟩, d1⟩, ⟨by unfold Le; omega, Nat.le_refl _, by unfold AppB; omega⟩, ⟨by omega, by omega⟩, by unfold Lt; omega, by unfold Le; omega, ⟨⟨rfl, rowsR _ _⟩, ⟨rfl, rowsR _ _⟩, rfl, ⟨rfl, rowsR _ _⟩, rfl, ⟨rfl, rowsR _ _⟩, rfl, ⟨by unfold addF; simp, by rw [Int.toNat_natCast, Nat.zero_add, Nat.zero_add, app0, app0]; exact frm_add (frmN no (pgAt s.d no).1) _ rfl⟩, rfl, trivial⟩, rfl, rfl, trivial⟩
end Go.Proofs.YtndilbkocjlgpaaGreat

namespace Go.Proofs.YtndilbkocjlgpaaGreat
set_option maxRecDepth 100000
open Go.SS

noncomputable def k_FetchPages : Con := .rmk r_FetchPage
noncomputable def b_FetchPages : Code := Tryz.f36.body.getD .skip
theorem call_FetchPages : Callable Tryz.prog 36 := ⟨_, Tryz.func36, by kernel_rfl, by kernel_rfl⟩
theorem v_FetchPages (s : Sto) (no : Int) (h :
    ∃ (x : r_StoreOK.ι), (((EqS s x) /\ True) /\ StoB x) /\ ((!stoOK x) = true -> ((((0 = 0 /\ 0 = (fetPage s no).fst.d.sec.length) /\ (0 = 0 /\ 0 = (fetPage s no).fst.d.cache.length) /\ false = (fetPage s no).fst.d.armed /\ (0 = 0 /\ 0 =
    (fetPage s no).fst.d.keep.length) /\ (0 : Int) = (fetPage s no).fst.ep /\ (0 = 0 /\ 0 = (fetPage s no).fst.log.length) /\ (0 : Int) = (fetPage s no).fst.sure /\ (0 = 0 /\ 0 = (fetPage s no).fst.fr.length) /\ (0 : Int) = (fetPage s
    no).fst.hand /\ True) /\ ((0 : Int) = (fetPage s no).snd.fst.lsn /\ (0 = 0 /\ 0 = (fetPage s no).snd.fst.sl.length) /\ True) /\ false = (fetPage s no).snd.snd.fst /\ (1 : Int) = (fetPage s no).snd.snd.snd /\ True) /\ True) /\ (0 = (fetPage
    s no).fst.d.sec.length /\ RowsEq 0 (fun (x : Nat) => []) (strRow (fetPage s no).fst.d.sec)) /\ (0 = (fetPage s no).fst.d.cache.length /\ RowsEq 0 (fun (x : Nat) => []) (pendRow (fetPage s no).fst.d.cache)) /\ (0 = (fetPage s
    no).fst.d.keep.length /\ RowsEq 0 (fun (x : Nat) => []) (intRow (fetPage s no).fst.d.keep)) /\ (0 = (fetPage s no).fst.log.length /\ RowsEq 0 (fun (x : Nat) => []) (recRow (fetPage s no).fst.log)) /\ (0 = 0 /\ 0 = (fetPage s
    no).fst.fr.length /\ FamEq 0 (fun (x : Nat) => []) (famRow (fetPage s no).fst.fr)) /\ (0 = (fetPage s no).snd.fst.sl.length /\ RowsEq 0 (fun (x : Nat) => []) (strRow (fetPage s no).snd.fst.sl)) /\ True) /\ ((!stoOK x) = false -> ((!inR
    no (0 : Int) (7 : Int)) = true -> ((((0 = 0 /\ 0 = (fetPage s no).fst.d.sec.length) /\ (0 = 0 /\ 0 = (fetPage s no).fst.d.cache.length) /\ false = (fetPage s no).fst.d.armed /\ (0 = 0 /\ 0 = (fetPage s no).fst.d.keep.length) /\ (0 : Int)
    = (fetPage s no).fst.ep /\ (0 = 0 /\ 0 = (fetPage s no).fst.log.length) /\ (0 : Int) = (fetPage s no).fst.sure /\ (0 = 0 /\ 0 = (fetPage s no).fst.fr.length) /\ (0 : Int) = (fetPage s no).fst.hand /\ True) /\ ((0 : Int) = (fetPage s
    no).snd.fst.lsn /\ (0 = 0 /\ 0 = (fetPage s no).snd.fst.sl.length) /\ True) /\ false = (fetPage s no).snd.snd.fst /\ (4 : Int) = (fetPage s no).snd.snd.snd /\ True) /\ True) /\ (0 = (fetPage s no).fst.d.sec.length /\ RowsEq 0 (fun (x :
    Nat) => []) (strRow (fetPage s no).fst.d.sec)) /\ (0 = (fetPage s no).fst.d.cache.length /\ RowsEq 0 (fun (x : Nat) => []) (pendRow (fetPage s no).fst.d.cache)) /\ (0 = (fetPage s no).fst.d.keep.length /\ RowsEq 0 (fun (x : Nat) =>
    []) (intRow (fetPage s no).fst.d.keep)) /\ (0 = (fetPage s no).fst.log.length /\ RowsEq 0 (fun (x : Nat) => []) (recRow (fetPage s no).fst.log)) /\ (0 = 0 /\ 0 = (fetPage s no).fst.fr.length /\ FamEq 0 (fun (x : Nat) => []) (famRow
    (fetPage s no).fst.fr)) /\ (0 = (fetPage s no).snd.fst.sl.length /\ RowsEq 0 (fun (x : Nat) => []) (strRow (fetPage s no).snd.fst.sl)) /\ True) /\ ((!inR no (0 : Int) (7 : Int)) = false -> ∃ (x : (Sto × Nat)), (((EqS s x.fst) /\ no =
    (x.snd:Int) /\ True) /\ FetB x.fst x.snd) /\ ((!(fetS x.fst x.snd).snd.snd) = true -> ∃ (x_1 : Sto), (((EqS (fetS x.fst x.snd).fst x_1) /\ True) /\ SmS x_1) /\ (((EqC x_1 (fetPage s no).fst) /\ ((0 : Int) = (fetPage s no).snd.fst.lsn /\ (0
    = 0 /\ 0 = (fetPage s no).snd.fst.sl.length) /\ True) /\ false = (fetPage s no).snd.snd.fst /\ (0 : Int) = (fetPage s no).snd.snd.snd /\ True) /\ True) /\ (EqL strRow x_1.d.sec (fetPage s no).fst.d.sec) /\ (EqL pendRow x_1.d.cache
    (fetPage s no).fst.d.cache) /\ (EqL intRow x_1.d.keep (fetPage s no).fst.d.keep) /\ (EqL recRow x_1.log (fetPage s no).fst.log) /\ (0 = 0 /\ x_1.fr.length = (fetPage s no).fst.fr.length /\ FamEq x_1.fr.length (famRow x_1.fr) (famRow
    (fetPage s no).fst.fr)) /\ (0 = (fetPage s no).snd.fst.sl.length /\ RowsEq 0 (fun (x : Nat) => []) (strRow (fetPage s no).snd.fst.sl)) /\ True) /\ ((!(fetS x.fst x.snd).snd.snd) = false -> ∃ (x_1 : Sto), (((EqS (fetS x.fst x.snd).fst
    x_1) /\ True) /\ SmS x_1) /\ InB (↑(fetS x.fst x.snd).snd.fst : Int) (fetS x.fst x.snd).fst.fr.length /\ ∃ (x_2 : Pg), (((((fetS x.fst x.snd).fst.fr.getD (↑(fetS x.fst x.snd).snd.fst : Int).toNat default).pg.lsn = x_2.lsn /\ (EqL
    strRow ((fetS x.fst x.snd).fst.fr.getD (↑(fetS x.fst x.snd).snd.fst : Int).toNat default).pg.sl x_2.sl) /\ True) /\ True) /\ x_2.sl.length <= 1048576) /\ (((EqC x_1 (fetPage s no).fst) /\ (x_2.lsn = (fetPage s no).snd.fst.lsn /\ (0 = 0 /\
    x_2.sl.length = (fetPage s no).snd.fst.sl.length) /\ True) /\ true = (fetPage s no).snd.snd.fst /\ (0 : Int) = (fetPage s no).snd.snd.snd /\ True) /\ True) /\ (EqL strRow x_1.d.sec (fetPage s no).fst.d.sec) /\ (EqL pendRow x_1.d.cache
    (fetPage s no).fst.d.cache) /\ (EqL intRow x_1.d.keep (fetPage s no).fst.d.keep) /\ (EqL recRow x_1.log (fetPage s no).fst.log) /\ (0 = 0 /\ x_1.fr.length = (fetPage s no).fst.fr.length /\ FamEq x_1.fr.length (famRow x_1.fr) (famRow
    (fetPage s no).fst.fr)) /\ (EqL strRow x_2.sl (fetPage s no).snd.fst.sl) /\ True)))) :
    EffFn Tryz.prog 36 [.agg s.ts, .int .i64 no] [] (.tup [.agg ((fetPage s no).1.tm 0), .agg ((fetPage s no).2.1.tm 5), .bool (fetPage s no).2.2.1, .int .i64 (fetPage s no).2.2.2]) (hpP ((fetPage s no).1, (fetPage s no).2.1)) :=
  vcG (code := b_FetchPages) (gC StoreOKs_ok call_StoreOKs (gC l01In_ok call_l01In (gC l05Fetch_ok call_l05Fetch (gC l05Own_ok call_l05Own (gC l03Own_ok call_l03Own gN))))) Tryz.func36 (by kernel_rfl) (by kernel_rfl) noAnn [[.arr 4, .arr 5, .arr 6, .arr 7, .arr 8, .arr 9], [.nilS 0 [1,1] 0 1, .arr 4, .arr 5, .arr 6, .arr 7, .arr 8, .arr 9], [.nilS 0 [0,0] 0 1, .nilS 0 [0,1] 0 2, .nilS 0 [0,3] 0 1, .nilS 0 [0,5] 0 10, .nilS 0 [0,7] 0 5, .nilS 0 [1,1] 0 1, .fam 7, .arr 3, .arr 4, .arr 5, .arr 6, .arr 7, .arr 8]] h (by kernel_rfl)
theorem FetchPages_ok : ConOk Tryz.prog 36 k_FetchPages := by
  rintro ⟨s, no⟩ ⟨h1, h2⟩; dsimp only at h1 h2; refine ⟨v_FetchPages s no ⟨s, ⟨⟨eqS _, trivial⟩, h1⟩, fun hq => ?_, fun hq => ⟨fun hr => ?_, fun hr => ?_⟩⟩, rfl, plain_app (plain_sto _ 0) (plain_str _)⟩
  · rw [fetPage_no hq]; exact ⟨⟨⟨⟨⟨rfl, rfl⟩, ⟨rfl, rfl⟩, rfl, ⟨rfl, rfl⟩, rfl, ⟨rfl, rfl⟩, rfl, ⟨rfl, rfl⟩, rfl, trivial⟩, ⟨rfl, ⟨rfl, rfl⟩, trivial⟩, rfl, rfl, trivial⟩, trivial⟩, ⟨rfl, row0⟩, ⟨rfl, row0⟩, ⟨rfl, row0⟩, ⟨rfl, row0⟩, ⟨rfl, rfl, fun i hi => absurd hi (Nat.not_lt_zero _)⟩, ⟨rfl, row0⟩, trivial⟩
  · rw [fetPage_out hq (by simpa using hr)]
    exact ⟨⟨⟨⟨⟨rfl, rfl⟩, ⟨rfl, rfl⟩, rfl, ⟨rfl, rfl⟩, rfl, ⟨rfl, rfl⟩, rfl, ⟨rfl, rfl⟩, rfl, trivial⟩, ⟨rfl, ⟨rfl, rfl⟩, trivial⟩, rfl, rfl, trivial⟩, trivial⟩, ⟨rfl, row0⟩, ⟨rfl, row0⟩, ⟨rfl, row0⟩, ⟨rfl, row0⟩, ⟨rfl, rfl, fun i hi => absurd hi (Nat.not_lt_zero _)⟩, ⟨rfl, row0⟩, trivial⟩
  · have ho : stoOK s = true := by simpa using hq
    have hl := inR_nt hr; have hi := sto_inv ho h2; have hno : no.toNat < 8 := by omega
    have hf := fet_fr hi hno; have hS := smS_fet hi hno; refine ⟨(s, no.toNat), ⟨⟨eqS _, by dsimp only; omega, trivial⟩, hi, hno⟩, fun hu => ?_, fun hu => ?_⟩
    · have hu : (fetS s no.toNat).2.2 = false := (Bool.not_eq_true' _).mp hu; rw [fetPage_down ho (by simpa using hr) (by rw [hu]; simp)]
      exact ⟨_, ⟨⟨eqS _, trivial⟩, hS⟩, ⟨⟨⟨⟨rfl, rfl⟩, ⟨rfl, rfl⟩, rfl, ⟨rfl, rfl⟩, rfl, ⟨rfl, rfl⟩, rfl, ⟨rfl, rfl⟩, rfl, trivial⟩, ⟨rfl, ⟨rfl, rfl⟩, trivial⟩, rfl, rfl, trivial⟩, trivial⟩, ⟨rfl, rowsR _ _⟩, ⟨rfl, rowsR _ _⟩, ⟨rfl, rowsR _ _⟩, ⟨rfl, rowsR _ _⟩, ⟨rfl, rfl, famR _⟩, ⟨rfl, row0⟩, trivial⟩
    · have hu : (fetS s no.toNat).2.2 = true := (Bool.not_eq_false' _).mp hu; have hf := hf hu; rw [fetPage_up ho (by simpa using hr) hu]
      rw [Int.toNat_natCast]; refine ⟨_, ⟨⟨eqS _, trivial⟩, hS⟩, inB_nat hf.1, ((fetS s no.toNat).1.fr.getD (fetS s no.toNat).2.1 default).pg, ⟨(by repeat' first | exact trivial | exact rfl | exact rowsR _ _ | exact famR _ | exact row0 | exact le0 _ | exact Nat.le_refl _ | exact Nat.zero_le _ | refine And.intro ?_ ?_), ?_⟩, ⟨⟨⟨⟨rfl, rfl⟩, ⟨rfl, rfl⟩, rfl, ⟨rfl, rfl⟩, rfl, ⟨rfl, rfl⟩, rfl, ⟨rfl, rfl⟩, rfl, trivial⟩, ⟨rfl, ⟨rfl, rfl⟩, trivial⟩, rfl, rfl, trivial⟩, trivial⟩, ⟨rfl, rowsR _ _⟩, ⟨rfl, rowsR _ _⟩, ⟨rfl, rowsR _ _⟩, ⟨rfl, rowsR _ _⟩, ⟨rfl, rfl, famR _⟩, ⟨rfl, rowsR _ _⟩, trivial⟩
      have := hf.2.2.2.1; omega
end Go.Proofs.YtndilbkocjlgpaaGreat

