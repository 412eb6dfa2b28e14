/- A part of the proof of a law: what functions of the program compute, shown by a calculus of symbolic states. -/
import Derived.Test.YtjbomnjmcbhadaaGreatF0
namespace Go.Proofs.YtjbomnjmcbhadaaGreat
open Go.SS

theorem rem_neg {left : Int} {a b : Nat} (h : rem left a < 0) (hab : a ≤ b) : rem left b = -1 := by
  refine rem_lt ?_
  by_cases hq : (a : Int) ≤ left
  · rw [rem_ge hq] at h; omega
  · omega
theorem rem_add {left : Int} {a b c : Nat} (h : ¬ rem left a < 0) (hl : Left left) (hc : c = a + b) : rem (rem left a) b = rem left c ∧ Left (rem left a) := by
  by_cases hq : (a : Int) ≤ left
  · rw [rem_ge hq] at h ⊢
    obtain ⟨h0, h1⟩ := hl
    refine ⟨?_, by constructor <;> omega⟩
    by_cases hr : (c : Int) ≤ left
    · rw [rem_ge hr, rem_ge (by omega)]
      omega
    · rw [rem_lt (by omega), rem_lt (by omega)]
  · rw [rem_lt (by omega)] at h
    omega
-- disks
def bulkD (d : Dsk) : Nat := bulkL lenS d.sec + bulkL bulkP d.cache + d.keep.length
def LmL {α : Type} (d : α) (f : α → Prop) (L : List α) : Prop := Lim L.length ∧ ∀ i, i < L.length → f (L.getD i d)
def LmD (d : Dsk) : Prop := LmL [] (fun s => Lim s.length) d.sec ∧ LmL default LmP d.cache ∧ Lim d.keep.length
def SmD (d : Dsk) : Prop := d.sec.length ≤ 1048576 ∧ d.cache.length ≤ 1048576 ∧ d.keep.length ≤ 1048576
def r_szDsk : Rl := ⟨Dsk × Int, fun x => [.agg x.1.ts, .int .i64 x.2], fun x => .int .i64 (rem x.2 (bulkD x.1)), fun x => Left x.2 ∧ LmD x.1⟩
def k_szDsk : Con := .rel r_szDsk
noncomputable def b_szDsk : Code := Tryz.f70.body.getD .skip
theorem call_szDsk : Callable Tryz.prog 70 := ⟨_, Tryz.func70, by kernel_rfl, by kernel_rfl⟩
set_option maxRecDepth 100000 in
theorem v_szDsk (d : Dsk) (left : Int) (h :
    ∃ (x : r_szStrS.ι), (((d.sec.length = x.fst.length ∧ RowsEq d.sec.length (strRow d.sec) (strRow x.fst)) ∧ left = x.snd ∧ True) ∧ Left x.snd ∧ Lim x.fst.length ∧ ∀ (i : Nat), i < x.fst.length → Lim (x.fst.getD i []).length) ∧
    (decide (rem x.snd (bulkL lenS x.fst) < (0 : Int)) = true → (-1 : Int) = rem left (bulkD d)) ∧ (decide (rem x.snd (bulkL lenS x.fst) < (0 : Int)) = false → ∃ (x_1 : r_szPendS.ι), (((d.cache.length = x_1.fst.length ∧ RowsEq
    d.cache.length (pendRow d.cache) (pendRow x_1.fst)) ∧ rem x.snd (bulkL lenS x.fst) = x_1.snd ∧ True) ∧ Left x_1.snd ∧ Lim x_1.fst.length ∧ ∀ (i : Nat), i < x_1.fst.length → LmP (x_1.fst.getD i default)) ∧ (decide (rem x_1.snd
    (bulkL bulkP x_1.fst) < (0 : Int)) = true → (-1 : Int) = rem left (bulkD d)) ∧ (decide (rem x_1.snd (bulkL bulkP x_1.fst) < (0 : Int)) = false → ∃ (x : r_szIntS.ι), (((d.keep.length = x.fst.length ∧ RowsEq d.keep.length (intRow
    d.keep) (intRow x.fst)) ∧ rem x_1.snd (bulkL bulkP x_1.fst) = x.snd ∧ True) ∧ Left x.snd ∧ Lim x.fst.length) ∧ (decide (rem x.snd x.fst.length < (0 : Int)) = true → (-1 : Int) = rem left (bulkD d)) ∧ (decide (rem x.snd
    x.fst.length < (0 : Int)) = false → rem x.snd x.fst.length = rem left (bulkD d))))) :
    PureFn Tryz.prog 70 [.agg d.ts, .int .i64 left] (.int .i64 (rem left (bulkD d))) :=
  fn_vc mixed (cons_ok szStrS_ok (cons_ok szPendS_ok (cons_ok szIntS_ok nil_ok))) (cons_call call_szStrS (cons_call call_szPendS (cons_call call_szIntS nil_call))) Tryz.func70 (by kernel_rfl) (leB (by kernel_rfl)) noAnn (Eq.mp (β := vcFn Tryz.prog [(152, k_szStrS), (153, k_szPendS), (117, k_szIntS)] Tryz.f70.ntmps Tryz.f70.results.toList b_szDsk [.agg d.ts, .int .i64 left] (.int .i64 (rem left (bulkD d))) noAnn) (by kernel_rfl) h)
theorem szDsk_ok : ConOk Tryz.prog 70 k_szDsk := by
  rintro ⟨d, left⟩ ⟨hl, h1, h2, h3⟩
  simp only at hl h1 h2 h3
  have e : bulkD d = bulkL lenS d.sec + bulkL bulkP d.cache + d.keep.length := rfl
  have e1 : bulkL lenS d.sec ≤ bulkD d := by omega
  have e2 : bulkL lenS d.sec + bulkL bulkP d.cache ≤ bulkD d := by omega
  refine v_szDsk d left ⟨(d.sec, left), ⟨⟨⟨rfl, rowsR _ _⟩, rfl, trivial⟩, hl, h1⟩, fun h => (rem_neg (of_decide_eq_true h) e1).symm, fun h => ?_⟩
  obtain ⟨q1, l1⟩ := rem_add (b := bulkL bulkP d.cache) (of_decide_eq_false h) hl rfl
  refine ⟨(d.cache, rem left (bulkL lenS d.sec)), ⟨⟨⟨rfl, rowsR _ _⟩, rfl, trivial⟩, l1, h2⟩, fun g => ?_, fun g => ?_⟩
  · simp only at g
    rw [q1] at g
    exact (rem_neg (of_decide_eq_true g) e2).symm
  · simp only at g ⊢
    rw [q1] at g ⊢
    obtain ⟨q2, l2⟩ := rem_add (b := d.keep.length) (of_decide_eq_false g) hl rfl
    refine ⟨(d.keep, rem left (bulkL lenS d.sec + bulkL bulkP d.cache)), ⟨⟨⟨rfl, rowsR _ _⟩, rfl, trivial⟩, l2, h3⟩, fun f => ?_, fun f => ?_⟩
    · simp only at f
      rw [q2] at f
      exact (rem_neg (of_decide_eq_true f) (Nat.le_refl _)).symm
    · exact q2
def r_toDsk : Rl := ⟨Dsk, fun d => [.agg d.ts], fun d => .agg d.ts, SmD⟩
def k_toDsk : Con := .rel r_toDsk
noncomputable def b_toDsk : Code := Tryz.f74.body.getD .skip
theorem call_toDsk : Callable Tryz.prog 74 := ⟨_, Tryz.func74, by kernel_rfl, by kernel_rfl⟩
set_option maxRecDepth 100000 in
theorem v_toDsk (d : Dsk) (h :
    ∃ (x : r_toStrS.ι), (((d.sec.length = List.length x ∧ RowsEq d.sec.length (strRow d.sec) (strRow x)) ∧ True) ∧ List.length x ≤ (1048576 : Nat)) ∧ ∃ (x_1 : r_toPendS.ι), (((d.cache.length = List.length x_1 ∧ RowsEq d.cache.length
    (pendRow d.cache) (pendRow x_1)) ∧ True) ∧ List.length x_1 ≤ (1048576 : Nat) ∧ ∀ (i : Nat), i < List.length x_1 → SmP (List.getD x_1 i default)) ∧ ∃ (x_2 : r_toIntS.ι), (((d.keep.length = List.length x_2 ∧ RowsEq d.keep.length
    (intRow d.keep) (intRow x_2)) ∧ True) ∧ List.length x_2 ≤ (1048576 : Nat)) ∧ (List.length x = d.sec.length ∧ RowsEq (List.length x) (strRow x) (strRow d.sec)) ∧ (List.length x_1 = d.cache.length ∧ RowsEq (List.length x_1) (pendRow
    x_1) (pendRow d.cache)) ∧ d.armed = d.armed ∧ (List.length x_2 = d.keep.length ∧ RowsEq (List.length x_2) (intRow x_2) (intRow d.keep)) ∧ True) :
    PureFn Tryz.prog 74 [.agg d.ts] (.agg d.ts) :=
  fn_vc mixed (cons_ok toStrS_ok (cons_ok toPendS_ok (cons_ok toIntS_ok nil_ok))) (cons_call call_toStrS (cons_call call_toPendS (cons_call call_toIntS nil_call))) Tryz.func74 (by kernel_rfl) (leB (by kernel_rfl)) noAnn (Eq.mp (β := vcFn Tryz.prog [(156, k_toStrS), (157, k_toPendS), (121, k_toIntS)] Tryz.f74.ntmps Tryz.f74.results.toList b_toDsk [.agg d.ts] (.agg d.ts) noAnn) (by kernel_rfl) h)
theorem toDsk_ok : ConOk Tryz.prog 74 k_toDsk := by
  rintro (d : Dsk) ⟨h1, h2, h3⟩
  exact v_toDsk d ⟨d.sec, ⟨⟨⟨rfl, rowsR _ _⟩, trivial⟩, h1⟩, d.cache, ⟨⟨⟨rfl, rowsR _ _⟩, trivial⟩, h2, fun _ _ => trivial⟩, d.keep, ⟨⟨⟨rfl, rowsR _ _⟩, trivial⟩, h3⟩, ⟨rfl, rowsR _ _⟩, ⟨rfl, rowsR _ _⟩, rfl, ⟨rfl, rowsR _ _⟩, trivial⟩
def r_eqDsk : Rl := ⟨Dsk, fun d => [.agg d.ts, .agg d.ts], fun _ => .bool true, SmD⟩
def k_eqDsk : Con := .rel r_eqDsk
noncomputable def b_eqDsk : Code := Tryz.f78.body.getD .skip
theorem call_eqDsk : Callable Tryz.prog 78 := ⟨_, Tryz.func78, by kernel_rfl, by kernel_rfl⟩
set_option maxRecDepth 100000 in
theorem v_eqDsk (d : Dsk) (h :
    ∃ (x : r_eqStrS.ι), (((d.sec.length = List.length x ∧ RowsEq d.sec.length (strRow d.sec) (strRow x)) ∧ (d.sec.length = List.length x ∧ RowsEq d.sec.length (strRow d.sec) (strRow x)) ∧ True) ∧ List.length x ≤ (1048576 : Nat)) ∧
    (false = true → false = true) ∧ (false = false → ∃ (x : r_eqPendS.ι), (((d.cache.length = List.length x ∧ RowsEq d.cache.length (pendRow d.cache) (pendRow x)) ∧ (d.cache.length = List.length x ∧ RowsEq d.cache.length (pendRow
    d.cache) (pendRow x)) ∧ True) ∧ List.length x ≤ (1048576 : Nat) ∧ ∀ (i : Nat), i < List.length x → SmP (List.getD x i default)) ∧ (false = true → false = true) ∧ (false = false → ((!d.armed == d.armed) = true → false = true) ∧
    ((!d.armed == d.armed) = false → ∃ (x : r_eqIntS.ι), (((d.keep.length = List.length x ∧ RowsEq d.keep.length (intRow d.keep) (intRow x)) ∧ (d.keep.length = List.length x ∧ RowsEq d.keep.length (intRow d.keep) (intRow x)) ∧ True) ∧
    List.length x ≤ (1048576 : Nat)) ∧ (false = true → false = true) ∧ (false = false → true = true))))) :
    PureFn Tryz.prog 78 [.agg d.ts, .agg d.ts] (.bool true) :=
  fn_vc mixed (cons_ok eqStrS_ok (cons_ok eqPendS_ok (cons_ok eqIntS_ok nil_ok))) (cons_call call_eqStrS (cons_call call_eqPendS (cons_call call_eqIntS nil_call))) Tryz.func78 (by kernel_rfl) (leB (by kernel_rfl)) noAnn (Eq.mp (β := vcFn Tryz.prog [(103, k_eqStrS), (160, k_eqPendS), (125, k_eqIntS)] Tryz.f78.ntmps Tryz.f78.results.toList b_eqDsk [.agg d.ts, .agg d.ts] (.bool true) noAnn) (by kernel_rfl) h)
theorem eqDsk_ok : ConOk Tryz.prog 78 k_eqDsk := by
  rintro (d : Dsk) ⟨h1, h2, h3⟩
  exact v_eqDsk d ⟨d.sec, ⟨⟨⟨rfl, rowsR _ _⟩, ⟨rfl, rowsR _ _⟩, trivial⟩, h1⟩, fun h => h, fun _ => ⟨d.cache, ⟨⟨⟨rfl, rowsR _ _⟩, ⟨rfl, rowsR _ _⟩, trivial⟩, h2, fun _ _ => trivial⟩, fun h => h, fun _ => ⟨fun h => by simp at h, fun _ => ⟨d.keep, ⟨⟨⟨rfl, rowsR _ _⟩, ⟨rfl, rowsR _ _⟩, trivial⟩, h3⟩, fun h => h, fun _ => rfl⟩⟩⟩⟩
-- pages, frames
def bulkG (p : Pg) : Nat := bulkL lenS p.sl
def LmG (p : Pg) : Prop := LmL [] (fun s => Lim s.length) p.sl
def SmG (p : Pg) : Prop := p.sl.length ≤ 1048576
def r_szPg : Rl := ⟨Pg × Int, fun x => [.agg x.1.ts, .int .i64 x.2], fun x => .int .i64 (rem x.2 (bulkG x.1)), fun x => Left x.2 ∧ LmG x.1⟩
def k_szPg : Con := .rel r_szPg
noncomputable def b_szPg : Code := Tryz.f227.body.getD .skip
theorem call_szPg : Callable Tryz.prog 227 := ⟨_, Tryz.func227, by kernel_rfl, by kernel_rfl⟩
set_option maxRecDepth 100000 in
theorem v_szPg (p : Pg) (left : Int) (h :
    ∃ (x : r_szStrS.ι), (((p.sl.length = x.fst.length ∧ RowsEq p.sl.length (strRow p.sl) (strRow x.fst)) ∧ left = x.snd ∧ True) ∧ Left x.snd ∧ Lim x.fst.length ∧ ∀ (i : Nat), i < x.fst.length → Lim (x.fst.getD i []).length) ∧ (decide
    (rem x.snd (bulkL lenS x.fst) < (0 : Int)) = true → (-1 : Int) = rem left (bulkG p)) ∧ (decide (rem x.snd (bulkL lenS x.fst) < (0 : Int)) = false → rem x.snd (bulkL lenS x.fst) = rem left (bulkG p))) :
    PureFn Tryz.prog 227 [.agg p.ts, .int .i64 left] (.int .i64 (rem left (bulkG p))) :=
  fn_vc mixed (cons_ok szStrS_ok nil_ok) (cons_call call_szStrS nil_call) Tryz.func227 (by kernel_rfl) (leB (by kernel_rfl)) noAnn (Eq.mp (β := vcFn Tryz.prog [(152, k_szStrS)] Tryz.f227.ntmps Tryz.f227.results.toList b_szPg [.agg p.ts, .int .i64 left] (.int .i64 (rem left (bulkG p))) noAnn) (by kernel_rfl) h)
theorem szPg_ok : ConOk Tryz.prog 227 k_szPg := by
  rintro ⟨p, left⟩ ⟨hl, h1⟩
  exact v_szPg p left ⟨(p.sl, left), ⟨⟨⟨rfl, rowsR _ _⟩, rfl, trivial⟩, hl, h1⟩, fun h => (rem_neg (of_decide_eq_true h) (Nat.le_refl _)).symm, fun _ => rfl⟩
def r_toPg : Rl := ⟨Pg, fun p => [.agg p.ts], fun p => .agg p.ts, SmG⟩
def k_toPg : Con := .rel r_toPg
noncomputable def b_toPg : Code := Tryz.f230.body.getD .skip
theorem call_toPg : Callable Tryz.prog 230 := ⟨_, Tryz.func230, by kernel_rfl, by kernel_rfl⟩
set_option maxRecDepth 100000 in
theorem v_toPg (p : Pg) (h :
    ∃ (x : r_toStrS.ι), (((p.sl.length = List.length x ∧ RowsEq p.sl.length (strRow p.sl) (strRow x)) ∧ True) ∧ List.length x ≤ (1048576 : Nat)) ∧ p.lsn = p.lsn ∧ (List.length x = p.sl.length ∧ RowsEq (List.length x) (strRow x)
    (strRow p.sl)) ∧ True) :
    PureFn Tryz.prog 230 [.agg p.ts] (.agg p.ts) :=
  fn_vc mixed (cons_ok toStrS_ok nil_ok) (cons_call call_toStrS nil_call) Tryz.func230 (by kernel_rfl) (leB (by kernel_rfl)) noAnn (Eq.mp (β := vcFn Tryz.prog [(156, k_toStrS)] Tryz.f230.ntmps Tryz.f230.results.toList b_toPg [.agg p.ts] (.agg p.ts) noAnn) (by kernel_rfl) h)
theorem toPg_ok : ConOk Tryz.prog 230 k_toPg := fun (p : Pg) h1 => v_toPg p ⟨p.sl, ⟨⟨⟨rfl, rowsR _ _⟩, trivial⟩, h1⟩, rfl, ⟨rfl, rowsR _ _⟩, trivial⟩
def r_eqPg : Rl := ⟨Pg, fun p => [.agg p.ts, .agg p.ts], fun _ => .bool true, SmG⟩
def k_eqPg : Con := .rel r_eqPg
noncomputable def b_eqPg : Code := Tryz.f42.body.getD .skip
theorem call_eqPg : Callable Tryz.prog 42 := ⟨_, Tryz.func42, by kernel_rfl, by kernel_rfl⟩
set_option maxRecDepth 100000 in
theorem v_eqPg (p : Pg) (h :
    ((p.lsn != p.lsn) = true → false = true) ∧ ((p.lsn != p.lsn) = false → ∃ (x : r_eqStrS.ι), (((p.sl.length = List.length x ∧ RowsEq p.sl.length (strRow p.sl) (strRow x)) ∧ (p.sl.length = List.length x ∧ RowsEq p.sl.length (strRow
    p.sl) (strRow x)) ∧ True) ∧ List.length x ≤ (1048576 : Nat)) ∧ (false = true → false = true) ∧ (false = false → true = true))) :
    PureFn Tryz.prog 42 [.agg p.ts, .agg p.ts] (.bool true) :=
  fn_vc mixed (cons_ok eqStrS_ok nil_ok) (cons_call call_eqStrS nil_call) Tryz.func42 (by kernel_rfl) (leB (by kernel_rfl)) noAnn (Eq.mp (β := vcFn Tryz.prog [(103, k_eqStrS)] Tryz.f42.ntmps Tryz.f42.results.toList b_eqPg [.agg p.ts, .agg p.ts] (.bool true) noAnn) (by kernel_rfl) h)
theorem eqPg_ok : ConOk Tryz.prog 42 k_eqPg := fun (p : Pg) h1 => v_eqPg p ⟨fun h => by simp at h, fun _ => ⟨p.sl, ⟨⟨⟨rfl, rowsR _ _⟩, ⟨rfl, rowsR _ _⟩, trivial⟩, h1⟩, fun h => h, fun _ => rfl⟩⟩
def bulkF (f : Frm) : Nat := bulkG f.pg
def LmF (f : Frm) : Prop := LmG f.pg
def SmF (f : Frm) : Prop := SmG f.pg
def r_szFrm : Rl := ⟨Frm × Int, fun x => [.agg x.1.ts, .int .i64 x.2], fun x => .int .i64 (rem x.2 (bulkF x.1)), fun x => Left x.2 ∧ LmF x.1⟩
def k_szFrm : Con := .rel r_szFrm
noncomputable def b_szFrm : Code := Tryz.f154.body.getD .skip
theorem call_szFrm : Callable Tryz.prog 154 := ⟨_, Tryz.func154, by kernel_rfl, by kernel_rfl⟩
set_option maxRecDepth 100000 in
theorem v_szFrm (f : Frm) (left : Int) (h :
    ∃ (x : r_szPg.ι), (((f.pg.lsn = x.fst.lsn ∧ (f.pg.sl.length = x.fst.sl.length ∧ RowsEq f.pg.sl.length (strRow f.pg.sl) (strRow x.fst.sl)) ∧ True) ∧ left = x.snd ∧ True) ∧ Left x.snd ∧ LmG x.fst) ∧ (decide (rem x.snd (bulkG x.fst)
    < (0 : Int)) = true → (-1 : Int) = rem left (bulkF f)) ∧ (decide (rem x.snd (bulkG x.fst) < (0 : Int)) = false → rem x.snd (bulkG x.fst) = rem left (bulkF f))) :
    PureFn Tryz.prog 154 [.agg f.ts, .int .i64 left] (.int .i64 (rem left (bulkF f))) :=
  fn_vc mixed (cons_ok szPg_ok nil_ok) (cons_call call_szPg nil_call) Tryz.func154 (by kernel_rfl) (leB (by kernel_rfl)) noAnn (Eq.mp (β := vcFn Tryz.prog [(227, k_szPg)] Tryz.f154.ntmps Tryz.f154.results.toList b_szFrm [.agg f.ts, .int .i64 left] (.int .i64 (rem left (bulkF f))) noAnn) (by kernel_rfl) h)
theorem szFrm_ok : ConOk Tryz.prog 154 k_szFrm := by
  rintro ⟨f, left⟩ ⟨hl, h1⟩
  exact v_szFrm f left ⟨(f.pg, left), ⟨⟨⟨rfl, ⟨rfl, rowsR _ _⟩, trivial⟩, rfl, trivial⟩, hl, h1⟩, fun h => (rem_neg (of_decide_eq_true h) (Nat.le_refl _)).symm, fun _ => rfl⟩
def r_toFrm : Rl := ⟨Frm, fun f => [.agg f.ts], fun f => .agg f.ts, SmF⟩
def k_toFrm : Con := .rel r_toFrm
noncomputable def b_toFrm : Code := Tryz.f158.body.getD .skip
theorem call_toFrm : Callable Tryz.prog 158 := ⟨_, Tryz.func158, by kernel_rfl, by kernel_rfl⟩
set_option maxRecDepth 100000 in
theorem v_toFrm (f : Frm) (h :
    ∃ (x : r_toPg.ι), (((f.pg.lsn = x.lsn ∧ (f.pg.sl.length = x.sl.length ∧ RowsEq f.pg.sl.length (strRow f.pg.sl) (strRow x.sl)) ∧ True) ∧ True) ∧ SmG x) ∧ f.no = f.no ∧ x.lsn = f.pg.lsn ∧ (x.sl.length = f.pg.sl.length ∧ RowsEq
    x.sl.length (strRow x.sl) (strRow f.pg.sl)) ∧ f.dirty = f.dirty ∧ f.first = f.first ∧ True) :
    PureFn Tryz.prog 158 [.agg f.ts] (.agg f.ts) :=
  fn_vc mixed (cons_ok toPg_ok nil_ok) (cons_call call_toPg nil_call) Tryz.func158 (by kernel_rfl) (leB (by kernel_rfl)) noAnn (Eq.mp (β := vcFn Tryz.prog [(230, k_toPg)] Tryz.f158.ntmps Tryz.f158.results.toList b_toFrm [.agg f.ts] (.agg f.ts) noAnn) (by kernel_rfl) h)
theorem toFrm_ok : ConOk Tryz.prog 158 k_toFrm := fun (f : Frm) h1 => v_toFrm f ⟨f.pg, ⟨⟨⟨rfl, ⟨rfl, rowsR _ _⟩, trivial⟩, trivial⟩, h1⟩, rfl, rfl, ⟨rfl, rowsR _ _⟩, rfl, rfl, trivial⟩
def r_eqFrm : Rl := ⟨Frm, fun f => [.agg f.ts, .agg f.ts], fun _ => .bool true, SmF⟩
def k_eqFrm : Con := .rel r_eqFrm
noncomputable def b_eqFrm : Code := Tryz.f162.body.getD .skip
theorem call_eqFrm : Callable Tryz.prog 162 := ⟨_, Tryz.func162, by kernel_rfl, by kernel_rfl⟩
set_option maxRecDepth 100000 in
theorem v_eqFrm (f : Frm) (h :
    ((f.no != f.no) = true → false = true) ∧ ((f.no != f.no) = false → ∃ (x : r_eqPg.ι), (((f.pg.lsn = x.lsn ∧ (f.pg.sl.length = x.sl.length ∧ RowsEq f.pg.sl.length (strRow f.pg.sl) (strRow x.sl)) ∧ True) ∧ (f.pg.lsn = x.lsn ∧
    (f.pg.sl.length = x.sl.length ∧ RowsEq f.pg.sl.length (strRow f.pg.sl) (strRow x.sl)) ∧ True) ∧ True) ∧ SmG x) ∧ (false = true → false = true) ∧ (false = false → ((!f.dirty == f.dirty) = true → false = true) ∧ ((!f.dirty ==
    f.dirty) = false → ((f.first != f.first) = true → false = true) ∧ ((f.first != f.first) = false → true = true))))) :
    PureFn Tryz.prog 162 [.agg f.ts, .agg f.ts] (.bool true) :=
  fn_vc mixed (cons_ok eqPg_ok nil_ok) (cons_call call_eqPg nil_call) Tryz.func162 (by kernel_rfl) (leB (by kernel_rfl)) noAnn (Eq.mp (β := vcFn Tryz.prog [(42, k_eqPg)] Tryz.f162.ntmps Tryz.f162.results.toList b_eqFrm [.agg f.ts, .agg f.ts] (.bool true) noAnn) (by kernel_rfl) h)
theorem eqFrm_ok : ConOk Tryz.prog 162 k_eqFrm := fun (f : Frm) h1 => v_eqFrm f ⟨fun h => by simp at h, fun _ => ⟨f.pg, ⟨⟨⟨rfl, ⟨rfl, rowsR _ _⟩, trivial⟩, ⟨rfl, ⟨rfl, rowsR _ _⟩, trivial⟩, trivial⟩, h1⟩, fun h => h, fun _ => ⟨fun h => by simp at h, fun _ => ⟨fun h => by simp at h, fun _ => rfl⟩⟩⟩⟩
end Go.Proofs.YtjbomnjmcbhadaaGreat

