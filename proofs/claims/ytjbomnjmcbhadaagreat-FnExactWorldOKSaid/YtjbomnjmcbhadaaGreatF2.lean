/- A part of the proof of a law: what functions of the program compute, shown by a calculus of symbolic states. -/
import Derived.Test.YtjbomnjmcbhadaaGreatF1
namespace Go.Proofs.YtjbomnjmcbhadaaGreat
open Go.SS

def r_szFrmS : Rl := ⟨List Frm × Int, fun x => [frmS x.1, .int .i64 x.2], fun x => .int .i64 (rem x.2 (bulkL bulkF x.1)), fun x => Left x.2 ∧ Lim x.1.length ∧ ∀ i, i < x.1.length → LmF (x.1.getD i default)⟩
def k_szFrmS : Con := .rel r_szFrmS
def A_szFrmS (L : List Frm) (left : Int) : Nat → Ann
  | 0 => .one {i : Nat // i ≤ L.length ∧ (bulkTo bulkF L L.length i : Int) ≤ left} (fun x => ⟨[(0, frmS L), (1, .int .i64 (left - bulkTo bulkF L L.length x.1)), (5, .int .i64 x.1)], []⟩) (fun x => L.length - x.1) [] [] (fun _ => noAnn)
  | _ => .none
noncomputable def b_szFrmS : Code := Tryz.f72.body.getD .skip
theorem call_szFrmS : Callable Tryz.prog 72 := ⟨_, Tryz.func72, by kernel_rfl, by kernel_rfl⟩
set_option maxRecDepth 100000 in
theorem v_szFrmS (L : List Frm) (left : Int) (h :
    Rng IntKind.i64 (left - (↑L.length : Int)) ∧ (decide (left - (↑L.length : Int) < (0 : Int)) = true → (-1 : Int) = rem left (bulkL bulkF L)) ∧ (decide (left - (↑L.length : Int) < (0 : Int)) = false → (∃ (x : { i : Nat // i ≤
    L.length ∧ (↑(bulkTo bulkF L L.length i) : Int) ≤ left }), ((L.length = L.length ∧ RowsEq L.length (frmRow L) (frmRow L)) ∧ left - (↑L.length : Int) = left - (↑(bulkTo bulkF L L.length x.val) : Int) ∧ (0 : Int) = (↑x.val : Int) ∧
    True) ∧ True) ∧ ∀ (x : { i : Nat // i ≤ L.length ∧ (↑(bulkTo bulkF L L.length i) : Int) ≤ left }), (decide ((↑x.val : Int) < (↑L.length : Int)) = true → InB (↑x.val : Int) L.length ∧ ∃ (x_1 : r_szFrm.ι), ((((L.getD (↑x.val :
    Int).toNat default).no = x_1.fst.no ∧ (L.getD (↑x.val : Int).toNat default).pg.lsn = x_1.fst.pg.lsn ∧ ((L.getD (↑x.val : Int).toNat default).pg.sl.length = x_1.fst.pg.sl.length ∧ RowsEq (L.getD (↑x.val : Int).toNat
    default).pg.sl.length (strRow (L.getD (↑x.val : Int).toNat default).pg.sl) (strRow x_1.fst.pg.sl)) ∧ (L.getD (↑x.val : Int).toNat default).dirty = x_1.fst.dirty ∧ (L.getD (↑x.val : Int).toNat default).first = x_1.fst.first ∧ True)
    ∧ left - (↑(bulkTo bulkF L L.length x.val) : Int) = x_1.snd ∧ True) ∧ Left x_1.snd ∧ LmF x_1.fst) ∧ (decide (rem x_1.snd (bulkF x_1.fst) < (0 : Int)) = true → (-1 : Int) = rem left (bulkL bulkF L)) ∧ (decide (rem x_1.snd (bulkF
    x_1.fst) < (0 : Int)) = false → Rng IntKind.i64 ((↑x.val : Int) + (1 : Int)) ∧ ∃ (y : { i : Nat // i ≤ L.length ∧ (↑(bulkTo bulkF L L.length i) : Int) ≤ left }), (((L.length = L.length ∧ RowsEq L.length (frmRow L) (frmRow L)) ∧
    rem x_1.snd (bulkF x_1.fst) = left - (↑(bulkTo bulkF L L.length y.val) : Int) ∧ (↑x.val : Int) + (1 : Int) = (↑y.val : Int) ∧ True) ∧ True) ∧ Lt (L.length - y.val) (L.length - x.val))) ∧ (decide ((↑x.val : Int) < (↑L.length :
    Int)) = false → left - (↑(bulkTo bulkF L L.length x.val) : Int) = rem left (bulkL bulkF L)))) :
    PureFn Tryz.prog 72 [frmS L, .int .i64 left] (.int .i64 (rem left (bulkL bulkF L))) :=
  fn_vc mixed (cons_ok szFrm_ok nil_ok) (cons_call call_szFrm nil_call) Tryz.func72 (by kernel_rfl) (leB (by kernel_rfl)) (A_szFrmS L left) (Eq.mp (β := vcFn Tryz.prog [(154, k_szFrm)] Tryz.f72.ntmps Tryz.f72.results.toList b_szFrmS [frmS L, .int .i64 left] (.int .i64 (rem left (bulkL bulkF L))) (A_szFrmS L left)) (by kernel_rfl) h)
theorem szFrmS_ok : ConOk Tryz.prog 72 k_szFrmS := by
  rintro ⟨L, left⟩ ⟨⟨h0, h1⟩, hn, hb⟩
  have hn : L.length ≤ 9223372036854775807 := hn
  simp only at h0 h1 hb
  have hm : ∀ i, i ≤ L.length → bulkTo bulkF L L.length i ≤ bulkL bulkF L := fun i hi => bulkTo_mono _ _ _ hi
  have hz : bulkTo bulkF L L.length 0 = L.length := rfl
  refine v_szFrmS L left ?_
  simp only [rng_i64, decide_eq_true_eq, decide_eq_false_iff_not]
  refine ⟨by omega, fun h => (rem_lt (by have := hm 0 (Nat.zero_le _); omega)).symm, fun h => ⟨⟨⟨0, Nat.zero_le _, by omega⟩, ⟨⟨(by first | rfl | trivial), rowsR _ _⟩, by simp only [hz], rfl, trivial⟩, trivial⟩, fun x => ⟨fun hc => ?_, fun hc => ?_⟩⟩⟩
  · have hlt : x.val < L.length := by omega
    have hx := x.2
    have hs := bulkTo_succ bulkF L L.length default hlt
    have hle := hm (x.val + 1) hlt
    have hbr := hb _ hlt
    refine ⟨inB_nat hlt, (L.getD x.val default, left - (bulkTo bulkF L L.length x.val : Int)), ⟨⟨⟨rfl, rfl, ⟨rfl, rowsR _ _⟩, rfl, rfl, trivial⟩, rfl, trivial⟩, ⟨by simp only; omega, by simp only; omega⟩, hbr⟩, fun hr => ?_, fun hr => ⟨by omega, ⟨x.val + 1, hlt, ?_⟩, ⟨⟨⟨(by first | rfl | trivial), rowsR _ _⟩, ?_, by simp only; omega, trivial⟩, trivial⟩, Cnt.ext_lt hlt⟩⟩
    · simp only at hr
      by_cases hq : (bulkF (L.getD x.val default) : Int) ≤ left - (bulkTo bulkF L L.length x.val : Int)
      · rw [rem_ge hq] at hr
        omega
      · exact (rem_lt (by omega)).symm
    · simp only at hr
      by_cases hq : (bulkF (L.getD x.val default) : Int) ≤ left - (bulkTo bulkF L L.length x.val : Int)
      · omega
      · rw [rem_lt (by omega)] at hr
        omega
    · simp only at hr ⊢
      by_cases hq : (bulkF (L.getD x.val default) : Int) ≤ left - (bulkTo bulkF L L.length x.val : Int)
      · rw [rem_ge hq]
        omega
      · rw [rem_lt (by omega)] at hr
        omega
  · have hx := x.2
    have he : x.val = L.length := by omega
    rw [he] at hx ⊢
    exact (rem_ge hx.2).symm
def r_toFrmS : Rl := ⟨List Frm, fun L => [frmS L], fun L => frmS L, fun L => L.length ≤ 1048576 ∧ ∀ i, i < L.length → SmF (L.getD i default)⟩
def k_toFrmS : Con := .rel r_toFrmS
def A_toFrmS (L : List Frm) : Nat → Ann
  | 0 => .one {i : Nat // i ≤ L.length} (fun x => ⟨[(0, frmS L), (3, .osl 0 0 L.length), (4, .int .i64 x.1)], [some (.arr true 0 5 L.length (upT (frmRow L) [.int .i64 0, .int .i64 0, .v (.slice none 0 0), .bool false, .int .i64 0] x.1))]⟩) (fun x => L.length - x.1) [.arr 0] [.arr 0] (fun _ => noAnn)
  | _ => .none
noncomputable def b_toFrmS : Code := Tryz.f76.body.getD .skip
theorem call_toFrmS : Callable Tryz.prog 76 := ⟨_, Tryz.func76, by kernel_rfl, by kernel_rfl⟩
set_option maxRecDepth 100000 in
theorem v_toFrmS (L : List Frm) (h :
    (Nn (↑L.length : Int) ∧ LeI (↑L.length : Int) (↑L.length : Int) ∧ sizeB (56 : Nat) (↑L.length : Int).toNat (140737488355328 : Nat) ∧ Lt (↑L.length : Int).toNat (9223372036854775808 : Nat)) ∧ (∃ (x : { i : Nat // i ≤ L.length }),
    ((L.length = L.length ∧ RowsEq L.length (frmRow L) (frmRow L)) ∧ ((0 : Nat) = (0 : Nat) ∧ (↑L.length : Int).toNat = L.length) ∧ (0 : Int) = (↑x.val : Int) ∧ True) ∧ ((↑L.length : Int).toNat = L.length ∧ RowsEq (↑L.length :
    Int).toNat (fun (x : Nat) => [T.int IntKind.i64 (0 : Int), T.int IntKind.i64 (0 : Int), T.v (Value.slice none (0 : Nat) (0 : Nat)), T.bool false, T.int IntKind.i64 (0 : Int)]) (upT (frmRow L) [T.int IntKind.i64 (0 : Int), T.int
    IntKind.i64 (0 : Int), T.v (Value.slice none (0 : Nat) (0 : Nat)), T.bool false, T.int IntKind.i64 (0 : Int)] x.val)) ∧ True) ∧ ∀ (x : { i : Nat // i ≤ L.length }), (decide ((↑x.val : Int) < (↑L.length : Int)) = true → InB (↑x.val
    : Int) L.length ∧ ∃ (x_1 : r_toFrm.ι), ((((L.getD (↑x.val : Int).toNat default).no = x_1.no ∧ (L.getD (↑x.val : Int).toNat default).pg.lsn = x_1.pg.lsn ∧ ((L.getD (↑x.val : Int).toNat default).pg.sl.length = x_1.pg.sl.length ∧
    RowsEq (L.getD (↑x.val : Int).toNat default).pg.sl.length (strRow (L.getD (↑x.val : Int).toNat default).pg.sl) (strRow x_1.pg.sl)) ∧ (L.getD (↑x.val : Int).toNat default).dirty = x_1.dirty ∧ (L.getD (↑x.val : Int).toNat
    default).first = x_1.first ∧ True) ∧ True) ∧ SmF x_1) ∧ InB (↑x.val : Int) L.length ∧ Lt ((0 : Nat) + (↑x.val : Int).toNat) L.length ∧ Rng IntKind.i64 ((↑x.val : Int) + (1 : Int)) ∧ ∃ (y : { i : Nat // i ≤ L.length }), (((L.length
    = L.length ∧ RowsEq L.length (frmRow L) (frmRow L)) ∧ ((0 : Nat) = (0 : Nat) ∧ L.length = L.length) ∧ (↑x.val : Int) + (1 : Int) = (↑y.val : Int) ∧ True) ∧ (L.length = L.length ∧ RowsEq L.length (setRow (upT (frmRow L) [T.int
    IntKind.i64 (0 : Int), T.int IntKind.i64 (0 : Int), T.v (Value.slice none (0 : Nat) (0 : Nat)), T.bool false, T.int IntKind.i64 (0 : Int)] x.val) ((0 : Nat) + (↑x.val : Int).toNat) (0 : Nat) [T.int IntKind.i64 x_1.no, T.int
    IntKind.i64 x_1.pg.lsn, T.sl (1 : Nat) x_1.pg.sl.length (strRow x_1.pg.sl), T.bool x_1.dirty, T.int IntKind.i64 x_1.first]) (upT (frmRow L) [T.int IntKind.i64 (0 : Int), T.int IntKind.i64 (0 : Int), T.v (Value.slice none (0 : Nat)
    (0 : Nat)), T.bool false, T.int IntKind.i64 (0 : Int)] y.val)) ∧ True) ∧ Lt (L.length - y.val) (L.length - x.val)) ∧ (decide ((↑x.val : Int) < (↑L.length : Int)) = false → Le ((0 : Nat) + L.length) L.length ∧ L.length = L.length ∧
    RowsEq L.length (upT (frmRow L) [T.int IntKind.i64 (0 : Int), T.int IntKind.i64 (0 : Int), T.v (Value.slice none (0 : Nat) (0 : Nat)), T.bool false, T.int IntKind.i64 (0 : Int)] x.val) (frmRow L))) :
    PureFn Tryz.prog 76 [frmS L] (frmS L) :=
  fn_vc mixed (cons_ok toFrm_ok nil_ok) (cons_call call_toFrm nil_call) Tryz.func76 (by kernel_rfl) (leB (by kernel_rfl)) (A_toFrmS L) (Eq.mp (β := vcFn Tryz.prog [(158, k_toFrm)] Tryz.f76.ntmps Tryz.f76.results.toList b_toFrmS [frmS L] (frmS L) (A_toFrmS L)) (by kernel_rfl) h)
theorem toFrmS_ok : ConOk Tryz.prog 76 k_toFrmS := by
  rintro (L : List Frm) ⟨hL, hb⟩
  refine v_toFrmS L ⟨⟨by unfold Nn; omega, by unfold LeI; omega, by unfold sizeB; omega, by unfold Lt; omega⟩, ⟨⟨0, Nat.zero_le _⟩, ⟨⟨(by first | rfl | trivial), rowsR _ _⟩, ⟨(by first | rfl | trivial), by omega⟩, rfl, trivial⟩, ⟨by omega, upT_zero⟩, trivial⟩, fun x => ⟨fun hc => ?_, fun hc => ?_⟩⟩
  · have hlt := lt_of_dec hc
    refine ⟨inB_nat hlt, L.getD x.val default, ⟨⟨⟨rfl, rfl, ⟨rfl, rowsR _ _⟩, rfl, rfl, trivial⟩, trivial⟩, hb _ hlt⟩, inB_nat hlt, by unfold Lt; omega, add_rng hlt (by omega), ⟨x.val + 1, hlt⟩, ⟨⟨⟨(by first | rfl | trivial), rowsR _ _⟩, ⟨(by first | rfl | trivial), (by first | rfl | trivial)⟩, by simp only; omega, trivial⟩, ⟨(by first | rfl | trivial), fun j hj => ?_⟩, trivial⟩, Cnt.ext_lt hlt⟩
    exact upT_rows (m := 5) (fun _ => rfl) rfl x.val rfl j
  · have hx : x.val = L.length := by have := x.2; have := le_of_not hc; omega
    rw [hx]
    exact ⟨by unfold Le; omega, by omega, fun i hi => upT_end (n := L.length) i (by omega)⟩
def r_eqFrmS : Rl := ⟨List Frm, fun L => [frmS L, frmS L], fun _ => .bool true, fun L => L.length ≤ 1048576 ∧ ∀ i, i < L.length → SmF (L.getD i default)⟩
def k_eqFrmS : Con := .rel r_eqFrmS
def A_eqFrmS (L : List Frm) : Nat → Ann
  | 0 => .one {i : Nat // i ≤ L.length} (fun x => ⟨[(0, frmS L), (1, frmS L), (5, .int .i64 x.1)], []⟩) (fun x => L.length - x.1) [] [] (fun _ => noAnn)
  | _ => .none
noncomputable def b_eqFrmS : Code := Tryz.f80.body.getD .skip
theorem call_eqFrmS : Callable Tryz.prog 80 := ⟨_, Tryz.func80, by kernel_rfl, by kernel_rfl⟩
set_option maxRecDepth 100000 in
theorem v_eqFrmS (L : List Frm) (h :
    (((↑L.length : Int) != (↑L.length : Int)) = true → false = true) ∧ (((↑L.length : Int) != (↑L.length : Int)) = false → (∃ (x : { i : Nat // i ≤ L.length }), ((L.length = L.length ∧ RowsEq L.length (frmRow L) (frmRow L)) ∧
    (L.length = L.length ∧ RowsEq L.length (frmRow L) (frmRow L)) ∧ (0 : Int) = (↑x.val : Int) ∧ True) ∧ True) ∧ ∀ (x : { i : Nat // i ≤ L.length }), (decide ((↑x.val : Int) < (↑L.length : Int)) = true → InB (↑x.val : Int) L.length ∧
    InB (↑x.val : Int) L.length ∧ ∃ (x_1 : r_eqFrm.ι), ((((L.getD (↑x.val : Int).toNat default).no = x_1.no ∧ (L.getD (↑x.val : Int).toNat default).pg.lsn = x_1.pg.lsn ∧ ((L.getD (↑x.val : Int).toNat default).pg.sl.length =
    x_1.pg.sl.length ∧ RowsEq (L.getD (↑x.val : Int).toNat default).pg.sl.length (strRow (L.getD (↑x.val : Int).toNat default).pg.sl) (strRow x_1.pg.sl)) ∧ (L.getD (↑x.val : Int).toNat default).dirty = x_1.dirty ∧ (L.getD (↑x.val :
    Int).toNat default).first = x_1.first ∧ True) ∧ ((L.getD (↑x.val : Int).toNat default).no = x_1.no ∧ (L.getD (↑x.val : Int).toNat default).pg.lsn = x_1.pg.lsn ∧ ((L.getD (↑x.val : Int).toNat default).pg.sl.length =
    x_1.pg.sl.length ∧ RowsEq (L.getD (↑x.val : Int).toNat default).pg.sl.length (strRow (L.getD (↑x.val : Int).toNat default).pg.sl) (strRow x_1.pg.sl)) ∧ (L.getD (↑x.val : Int).toNat default).dirty = x_1.dirty ∧ (L.getD (↑x.val :
    Int).toNat default).first = x_1.first ∧ True) ∧ True) ∧ SmF x_1) ∧ (false = true → false = true) ∧ (false = false → Rng IntKind.i64 ((↑x.val : Int) + (1 : Int)) ∧ ∃ (y : { i : Nat // i ≤ L.length }), (((L.length = L.length ∧
    RowsEq L.length (frmRow L) (frmRow L)) ∧ (L.length = L.length ∧ RowsEq L.length (frmRow L) (frmRow L)) ∧ (↑x.val : Int) + (1 : Int) = (↑y.val : Int) ∧ True) ∧ True) ∧ Lt (L.length - y.val) (L.length - x.val))) ∧ (decide ((↑x.val :
    Int) < (↑L.length : Int)) = false → true = true))) :
    PureFn Tryz.prog 80 [frmS L, frmS L] (.bool true) :=
  fn_vc mixed (cons_ok eqFrm_ok nil_ok) (cons_call call_eqFrm nil_call) Tryz.func80 (by kernel_rfl) (leB (by kernel_rfl)) (A_eqFrmS L) (Eq.mp (β := vcFn Tryz.prog [(162, k_eqFrm)] Tryz.f80.ntmps Tryz.f80.results.toList b_eqFrmS [frmS L, frmS L] (.bool true) (A_eqFrmS L)) (by kernel_rfl) h)
theorem eqFrmS_ok : ConOk Tryz.prog 80 k_eqFrmS := by
  rintro (L : List Frm) ⟨hL, hb⟩
  refine v_eqFrmS L ⟨fun h => by simp at h, fun _ => ⟨⟨⟨0, Nat.zero_le _⟩, ⟨⟨(by first | rfl | trivial), rowsR _ _⟩, ⟨(by first | rfl | trivial), rowsR _ _⟩, rfl, trivial⟩, trivial⟩, fun x => ⟨fun hc => ?_, fun _ => rfl⟩⟩⟩
  have hlt := lt_of_dec hc
  exact ⟨inB_nat hlt, inB_nat hlt, L.getD x.val default, ⟨⟨⟨rfl, rfl, ⟨rfl, rowsR _ _⟩, rfl, rfl, trivial⟩, ⟨rfl, rfl, ⟨rfl, rowsR _ _⟩, rfl, rfl, trivial⟩, trivial⟩, hb _ hlt⟩, fun h => h, fun _ => ⟨add_rng hlt (by omega), ⟨x.val + 1, hlt⟩, ⟨⟨⟨(by first | rfl | trivial), rowsR _ _⟩, ⟨(by first | rfl | trivial), rowsR _ _⟩, by simp only; omega, trivial⟩, trivial⟩, Cnt.ext_lt hlt⟩⟩
-- stores
def bulkS (s : Sto) : Nat := bulkD s.d + bulkL bulkR s.log + bulkL bulkF s.fr
def LmS (s : Sto) : Prop := LmD s.d ∧ (Lim s.log.length ∧ ∀ r ∈ s.log, RecB r) ∧ LmL default LmF s.fr
def SmS (s : Sto) : Prop := SmD s.d ∧ s.log.length ≤ 1048576 ∧ s.fr.length ≤ 1048576 ∧ ∀ i, i < s.fr.length → SmF (s.fr.getD i default)
def r_szSto : Rl := ⟨Sto × Int, fun x => [.agg x.1.ts, .int .i64 x.2], fun x => .int .i64 (rem x.2 (bulkS x.1)), fun x => Left x.2 ∧ LmS x.1⟩
def k_szSto : Con := .rel r_szSto
noncomputable def b_szSto : Code := Tryz.f22.body.getD .skip
theorem call_szSto : Callable Tryz.prog 22 := ⟨_, Tryz.func22, by kernel_rfl, by kernel_rfl⟩
set_option maxRecDepth 100000 in
theorem v_szSto (s : Sto) (left : Int) (h :
    ∃ (x : r_szDsk.ι), ((((s.d.sec.length = x.fst.sec.length ∧ RowsEq s.d.sec.length (strRow s.d.sec) (strRow x.fst.sec)) ∧ (s.d.cache.length = x.fst.cache.length ∧ RowsEq s.d.cache.length (pendRow s.d.cache) (pendRow x.fst.cache)) ∧
    s.d.armed = x.fst.armed ∧ (s.d.keep.length = x.fst.keep.length ∧ RowsEq s.d.keep.length (intRow s.d.keep) (intRow x.fst.keep)) ∧ True) ∧ left = x.snd ∧ True) ∧ Left x.snd ∧ LmD x.fst) ∧ (decide (rem x.snd (bulkD x.fst) < (0 :
    Int)) = true → (-1 : Int) = rem left (bulkS s)) ∧ (decide (rem x.snd (bulkD x.fst) < (0 : Int)) = false → ∃ (x_1 : r_szRecS.ι), (((s.log.length = x_1.fst.length ∧ RowsEq s.log.length (recRow s.log) (recRow x_1.fst)) ∧ rem x.snd
    (bulkD x.fst) = x_1.snd ∧ True) ∧ Left x_1.snd ∧ x_1.fst.length ≤ (9223372036854775807 : Nat) ∧ ∀ (r : Rec), r ∈ x_1.fst → RecB r) ∧ (decide (rem x_1.snd (bulkL bulkR x_1.fst) < (0 : Int)) = true → (-1 : Int) = rem left (bulkS s))
    ∧ (decide (rem x_1.snd (bulkL bulkR x_1.fst) < (0 : Int)) = false → ∃ (x : r_szFrmS.ι), (((s.fr.length = x.fst.length ∧ RowsEq s.fr.length (frmRow s.fr) (frmRow x.fst)) ∧ rem x_1.snd (bulkL bulkR x_1.fst) = x.snd ∧ True) ∧ Left
    x.snd ∧ Lim x.fst.length ∧ ∀ (i : Nat), i < x.fst.length → LmF (x.fst.getD i default)) ∧ (decide (rem x.snd (bulkL bulkF x.fst) < (0 : Int)) = true → (-1 : Int) = rem left (bulkS s)) ∧ (decide (rem x.snd (bulkL bulkF x.fst) < (0 :
    Int)) = false → rem x.snd (bulkL bulkF x.fst) = rem left (bulkS s))))) :
    PureFn Tryz.prog 22 [.agg s.ts, .int .i64 left] (.int .i64 (rem left (bulkS s))) :=
  fn_vc mixed (cons_ok szDsk_ok (cons_ok szRecS_ok (cons_ok szFrmS_ok nil_ok))) (cons_call call_szDsk (cons_call call_szRecS (cons_call call_szFrmS nil_call))) Tryz.func22 (by kernel_rfl) (leB (by kernel_rfl)) noAnn (Eq.mp (β := vcFn Tryz.prog [(70, k_szDsk), (71, k_szRecS), (72, k_szFrmS)] Tryz.f22.ntmps Tryz.f22.results.toList b_szSto [.agg s.ts, .int .i64 left] (.int .i64 (rem left (bulkS s))) noAnn) (by kernel_rfl) h)
theorem szSto_ok : ConOk Tryz.prog 22 k_szSto := by
  rintro ⟨s, left⟩ ⟨hl, h1, h2, h3⟩
  simp only at hl h1 h2 h3
  have e : bulkS s = bulkD s.d + bulkL bulkR s.log + bulkL bulkF s.fr := rfl
  have e1 : bulkD s.d ≤ bulkS s := by omega
  have e2 : bulkD s.d + bulkL bulkR s.log ≤ bulkS s := by omega
  refine v_szSto s left ⟨(s.d, left), ⟨⟨⟨⟨rfl, rowsR _ _⟩, ⟨rfl, rowsR _ _⟩, rfl, ⟨rfl, rowsR _ _⟩, trivial⟩, rfl, trivial⟩, hl, h1⟩, fun h => (rem_neg (of_decide_eq_true h) e1).symm, fun h => ?_⟩
  obtain ⟨q1, l1⟩ := rem_add (b := bulkL bulkR s.log) (of_decide_eq_false h) hl rfl
  refine ⟨(s.log, rem left (bulkD s.d)), ⟨⟨⟨rfl, rowsR _ _⟩, rfl, trivial⟩, l1, h2⟩, fun g => ?_, fun g => ?_⟩
  · simp only at g
    rw [q1] at g
    exact (rem_neg (of_decide_eq_true g) e2).symm
  · simp only at g ⊢
    rw [q1] at g ⊢
    obtain ⟨q2, l2⟩ := rem_add (b := bulkL bulkF s.fr) (of_decide_eq_false g) hl rfl
    refine ⟨(s.fr, rem left (bulkD s.d + bulkL bulkR s.log)), ⟨⟨⟨rfl, rowsR _ _⟩, rfl, trivial⟩, l2, h3⟩, fun f => ?_, fun f => ?_⟩
    · simp only at f
      rw [q2] at f
      exact (rem_neg (of_decide_eq_true f) (Nat.le_refl _)).symm
    · exact q2
def r_toSto : Rl := ⟨Sto, fun s => [.agg s.ts], fun s => .agg s.ts, SmS⟩
def k_toSto : Con := .rel r_toSto
noncomputable def b_toSto : Code := Tryz.f25.body.getD .skip
theorem call_toSto : Callable Tryz.prog 25 := ⟨_, Tryz.func25, by kernel_rfl, by kernel_rfl⟩
set_option maxRecDepth 100000 in
theorem v_toSto (s : Sto) (h :
    ∃ (x : r_toDsk.ι), ((((s.d.sec.length = x.sec.length ∧ RowsEq s.d.sec.length (strRow s.d.sec) (strRow x.sec)) ∧ (s.d.cache.length = x.cache.length ∧ RowsEq s.d.cache.length (pendRow s.d.cache) (pendRow x.cache)) ∧ s.d.armed =
    x.armed ∧ (s.d.keep.length = x.keep.length ∧ RowsEq s.d.keep.length (intRow s.d.keep) (intRow x.keep)) ∧ True) ∧ True) ∧ SmD x) ∧ ∃ (x_1 : r_toRecS.ι), (((s.log.length = List.length x_1 ∧ RowsEq s.log.length (recRow s.log) (recRow
    x_1)) ∧ True) ∧ List.length x_1 ≤ (1048576 : Nat)) ∧ ∃ (x_2 : r_toFrmS.ι), (((s.fr.length = List.length x_2 ∧ RowsEq s.fr.length (frmRow s.fr) (frmRow x_2)) ∧ True) ∧ List.length x_2 ≤ (1048576 : Nat) ∧ ∀ (i : Nat), i <
    List.length x_2 → SmF (List.getD x_2 i default)) ∧ (x.sec.length = s.d.sec.length ∧ RowsEq x.sec.length (strRow x.sec) (strRow s.d.sec)) ∧ (x.cache.length = s.d.cache.length ∧ RowsEq x.cache.length (pendRow x.cache) (pendRow
    s.d.cache)) ∧ x.armed = s.d.armed ∧ (x.keep.length = s.d.keep.length ∧ RowsEq x.keep.length (intRow x.keep) (intRow s.d.keep)) ∧ s.ep = s.ep ∧ (List.length x_1 = s.log.length ∧ RowsEq (List.length x_1) (recRow x_1) (recRow s.log))
    ∧ s.sure = s.sure ∧ (List.length x_2 = s.fr.length ∧ RowsEq (List.length x_2) (frmRow x_2) (frmRow s.fr)) ∧ s.hand = s.hand ∧ True) :
    PureFn Tryz.prog 25 [.agg s.ts] (.agg s.ts) :=
  fn_vc mixed (cons_ok toDsk_ok (cons_ok toRecS_ok (cons_ok toFrmS_ok nil_ok))) (cons_call call_toDsk (cons_call call_toRecS (cons_call call_toFrmS nil_call))) Tryz.func25 (by kernel_rfl) (leB (by kernel_rfl)) noAnn (Eq.mp (β := vcFn Tryz.prog [(74, k_toDsk), (75, k_toRecS), (76, k_toFrmS)] Tryz.f25.ntmps Tryz.f25.results.toList b_toSto [.agg s.ts] (.agg s.ts) noAnn) (by kernel_rfl) h)
theorem toSto_ok : ConOk Tryz.prog 25 k_toSto := by
  rintro (s : Sto) ⟨h1, h2, h3, h4⟩
  exact v_toSto s ⟨s.d, ⟨⟨⟨⟨rfl, rowsR _ _⟩, ⟨rfl, rowsR _ _⟩, rfl, ⟨rfl, rowsR _ _⟩, trivial⟩, trivial⟩, h1⟩, s.log, ⟨⟨⟨rfl, rowsR _ _⟩, trivial⟩, h2⟩, s.fr, ⟨⟨⟨rfl, rowsR _ _⟩, trivial⟩, h3, h4⟩, ⟨rfl, rowsR _ _⟩, ⟨rfl, rowsR _ _⟩, rfl, ⟨rfl, rowsR _ _⟩, rfl, ⟨rfl, rowsR _ _⟩, rfl, ⟨rfl, rowsR _ _⟩, rfl, trivial⟩
def r_eqSto : Rl := ⟨Sto, fun s => [.agg s.ts, .agg s.ts], fun _ => .bool true, SmS⟩
def k_eqSto : Con := .rel r_eqSto
noncomputable def b_eqSto : Code := Tryz.f28.body.getD .skip
theorem call_eqSto : Callable Tryz.prog 28 := ⟨_, Tryz.func28, by kernel_rfl, by kernel_rfl⟩
set_option maxRecDepth 100000 in
theorem v_eqSto (s : Sto) (h :
    ∃ (x : r_eqDsk.ι), ((((s.d.sec.length = x.sec.length ∧ RowsEq s.d.sec.length (strRow s.d.sec) (strRow x.sec)) ∧ (s.d.cache.length = x.cache.length ∧ RowsEq s.d.cache.length (pendRow s.d.cache) (pendRow x.cache)) ∧ s.d.armed =
    x.armed ∧ (s.d.keep.length = x.keep.length ∧ RowsEq s.d.keep.length (intRow s.d.keep) (intRow x.keep)) ∧ True) ∧ ((s.d.sec.length = x.sec.length ∧ RowsEq s.d.sec.length (strRow s.d.sec) (strRow x.sec)) ∧ (s.d.cache.length =
    x.cache.length ∧ RowsEq s.d.cache.length (pendRow s.d.cache) (pendRow x.cache)) ∧ s.d.armed = x.armed ∧ (s.d.keep.length = x.keep.length ∧ RowsEq s.d.keep.length (intRow s.d.keep) (intRow x.keep)) ∧ True) ∧ True) ∧ SmD x) ∧ (false
    = true → false = true) ∧ (false = false → ((s.ep != s.ep) = true → false = true) ∧ ((s.ep != s.ep) = false → ∃ (x : r_eqRecS.ι), (((s.log.length = List.length x ∧ RowsEq s.log.length (recRow s.log) (recRow x)) ∧ (s.log.length =
    List.length x ∧ RowsEq s.log.length (recRow s.log) (recRow x)) ∧ True) ∧ List.length x ≤ (1048576 : Nat)) ∧ (false = true → false = true) ∧ (false = false → ((s.sure != s.sure) = true → false = true) ∧ ((s.sure != s.sure) = false
    → ∃ (x : r_eqFrmS.ι), (((s.fr.length = List.length x ∧ RowsEq s.fr.length (frmRow s.fr) (frmRow x)) ∧ (s.fr.length = List.length x ∧ RowsEq s.fr.length (frmRow s.fr) (frmRow x)) ∧ True) ∧ List.length x ≤ (1048576 : Nat) ∧ ∀ (i :
    Nat), i < List.length x → SmF (List.getD x i default)) ∧ (false = true → false = true) ∧ (false = false → ((s.hand != s.hand) = true → false = true) ∧ ((s.hand != s.hand) = false → true = true))))))) :
    PureFn Tryz.prog 28 [.agg s.ts, .agg s.ts] (.bool true) :=
  fn_vc mixed (cons_ok eqDsk_ok (cons_ok eqRecS_ok (cons_ok eqFrmS_ok nil_ok))) (cons_call call_eqDsk (cons_call call_eqRecS (cons_call call_eqFrmS nil_call))) Tryz.func28 (by kernel_rfl) (leB (by kernel_rfl)) noAnn (Eq.mp (β := vcFn Tryz.prog [(78, k_eqDsk), (79, k_eqRecS), (80, k_eqFrmS)] Tryz.f28.ntmps Tryz.f28.results.toList b_eqSto [.agg s.ts, .agg s.ts] (.bool true) noAnn) (by kernel_rfl) h)
end Go.Proofs.YtjbomnjmcbhadaaGreat

