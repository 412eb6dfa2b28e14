/- A part of the proof of a law: what functions of the program compute, shown by a calculus of symbolic states. -/
import Derived.Test.YtjbomnjmcbhadaaGreatW5
import Derived.Test.YtjbomnjmcbhadaaGreatF2
namespace Go.Proofs.YtjbomnjmcbhadaaGreat
open Go.SS

theorem eqSto_ok : ConOk Tryz.prog 28 k_eqSto := by
  rintro (s : Sto) ⟨h1, h2, h3, h4⟩
  exact v_eqSto s ⟨s.d, ⟨⟨⟨⟨rfl, rowsR _ _⟩, ⟨rfl, rowsR _ _⟩, rfl, ⟨rfl, rowsR _ _⟩, trivial⟩, ⟨⟨rfl, rowsR _ _⟩, ⟨rfl, rowsR _ _⟩, rfl, ⟨rfl, rowsR _ _⟩, trivial⟩, trivial⟩, h1⟩, fun h => h, fun _ => ⟨fun h => by simp at h, fun _ => ⟨s.log, ⟨⟨⟨rfl, rowsR _ _⟩, ⟨rfl, rowsR _ _⟩, trivial⟩, h2⟩, fun h => h, fun _ => ⟨fun h => by simp at h, fun _ => ⟨s.fr, ⟨⟨⟨rfl, rowsR _ _⟩, ⟨rfl, rowsR _ _⟩, trivial⟩, h3, h4⟩, fun h => h, fun _ => ⟨fun h => by simp at h, fun _ => rfl⟩⟩⟩⟩⟩⟩
-- what is of small bulk is small
theorem bulk_len {α : Type} (f : α → Nat) (L : List α) : L.length ≤ bulkL f L := by
  have := bulkTo_mono f L L.length (Nat.zero_le L.length)
  have hz : bulkTo f L L.length 0 = L.length := rfl
  unfold bulkL
  omega
theorem bulk_get {α : Type} (f : α → Nat) (L : List α) (d : α) {i : Nat} (hi : i < L.length) : f (L.getD i d) + L.length ≤ bulkL f L := by
  have h1 := bulkTo_mono f L L.length (show i + 1 ≤ L.length from hi)
  have h2 := bulkTo_succ f L L.length d hi
  have h3 := bulkTo_mono f L L.length (Nat.zero_le i)
  have hz : bulkTo f L L.length 0 = L.length := rfl
  unfold bulkL
  omega
theorem rem_big {left : Int} {n : Nat} (h : ¬ rem left n < 0) : (n : Int) ≤ left := by
  by_cases hq : (n : Int) ≤ left
  · exact hq
  · rw [rem_lt (by omega)] at h
    omega
theorem small_sto {s : Sto} (h : bulkS s ≤ 1048576) : SmS s ∧ StoB s := by
  have e : bulkS s = bulkL lenS s.d.sec + bulkL bulkP s.d.cache + s.d.keep.length + bulkL bulkR s.log + bulkL bulkF s.fr := rfl
  have a1 := bulk_len lenS s.d.sec
  have a2 := bulk_len bulkP s.d.cache
  have a3 := bulk_len bulkR s.log
  have a4 := bulk_len bulkF s.fr
  have f1 : ∀ i, i < s.fr.length → (s.fr.getD i default).pg.sl.length ≤ 1048576 := fun i hi => by
    have h1 := bulk_get bulkF s.fr default hi
    have h2 := bulk_len lenS (s.fr.getD i default).pg.sl
    have h3 : bulkF (s.fr.getD i default) = bulkL lenS (s.fr.getD i default).pg.sl := rfl
    omega
  have l1 : ∀ r ∈ s.log, r.a.length ≤ 1048576 := fun r hr => by
    obtain ⟨i, hi, rfl⟩ := List.mem_iff_getElem.1 hr
    have h1 := bulk_get bulkR s.log default hi
    rw [List.getD_eq_getElem?_getD, List.getElem?_eq_getElem hi, Option.getD_some] at h1
    have h3 : bulkR s.log[i] = s.log[i].b.length + s.log[i].a.length := rfl
    omega
  refine ⟨⟨⟨by omega, by omega, by omega⟩, by omega, by omega, f1⟩, ⟨by unfold Len; omega, by unfold Len; omega, by unfold Len; omega⟩, ⟨by omega, fun r hr => by have := l1 r hr; omega⟩, ⟨by unfold Len; omega, fun i hi => ?_⟩, fun r hr => ?_⟩
  · have := f1 i hi
    show (s.fr.getD i default).pg.sl.length < 1000000000000
    omega
  · have := l1 r hr
    show r.a.length < 1000000000000
    omega

def r_szTxnS : Rl := ⟨List Txn × Int, fun x => [txnS x.1, .int .i64 x.2], fun x => .int .i64 (rem x.2 x.1.length), fun x => Left x.2 ∧ Lim x.1.length⟩
def k_szTxnS : Con := .rel r_szTxnS
noncomputable def b_szTxnS : Code := Tryz.f106.body.getD .skip
theorem call_szTxnS : Callable Tryz.prog 106 := ⟨_, Tryz.func106, by kernel_rfl, by kernel_rfl⟩
set_option maxRecDepth 100000 in
theorem v_szTxnS (L : List Txn) (left : Int) (h :
    Rng .i64 (left - (L.length:Int)) ∧ (decide (left - (L.length:Int) < (0 : Int)) = true → (-1 : Int) = rem left L.length) ∧ (decide (left - (L.length:Int) < (0 : Int)) = false → left - (L.length:Int) = rem left L.length)) :
    PureFn Tryz.prog 106 [txnS L, .int .i64 left] (.int .i64 (rem left L.length)) :=
  fn_vc mixed nil_ok nil_call Tryz.func106 (by kernel_rfl) (leB (by kernel_rfl)) noAnn (Eq.mp (β := vcFn Tryz.prog [] Tryz.f106.ntmps Tryz.f106.results.toList b_szTxnS [txnS L, .int .i64 left] (.int .i64 (rem left L.length)) noAnn) (by kernel_rfl) h)
theorem szTxnS_ok : ConOk Tryz.prog 106 k_szTxnS := by
  rintro ⟨L, left⟩ ⟨⟨h0, h1⟩, hn⟩
  have hn : L.length ≤ 9223372036854775807 := hn
  simp only at h0 h1
  refine v_szTxnS L left ?_
  simp only [rng_i64, decide_eq_true_eq, decide_eq_false_iff_not]
  exact ⟨by omega, fun h => (rem_lt (by omega)).symm, fun h => (rem_ge (by omega)).symm⟩
def r_toTxn : Rl := ⟨Txn, fun r => [.agg r.ts], fun r => .agg r.ts, fun _ => True⟩
def k_toTxn : Con := .rel r_toTxn
noncomputable def b_toTxn : Code := Tryz.f188.body.getD .skip
theorem call_toTxn : Callable Tryz.prog 188 := ⟨_, Tryz.func188, by kernel_rfl, by kernel_rfl⟩
set_option maxRecDepth 100000 in
theorem v_toTxn (r : Txn) (h :
    r.id = r.id ∧ r.last = r.last ∧ True) :
    PureFn Tryz.prog 188 [.agg r.ts] (.agg r.ts) :=
  fn_vc mixed nil_ok nil_call Tryz.func188 (by kernel_rfl) (leB (by kernel_rfl)) noAnn (Eq.mp (β := vcFn Tryz.prog [] Tryz.f188.ntmps Tryz.f188.results.toList b_toTxn [.agg r.ts] (.agg r.ts) noAnn) (by kernel_rfl) h)
theorem toTxn_ok : ConOk Tryz.prog 188 k_toTxn := fun r _ => v_toTxn r ⟨rfl, rfl, trivial⟩
def r_eqTxn : Rl := ⟨Txn, fun r => [.agg r.ts, .agg r.ts], fun _ => .bool true, fun _ => True⟩
def k_eqTxn : Con := .rel r_eqTxn
noncomputable def b_eqTxn : Code := Tryz.f195.body.getD .skip
theorem call_eqTxn : Callable Tryz.prog 195 := ⟨_, Tryz.func195, by kernel_rfl, by kernel_rfl⟩
set_option maxRecDepth 100000 in
theorem v_eqTxn (r : Txn) (h :
    ((r.id != r.id) = true → false = true) ∧ ((r.id != r.id) = false → ((r.last != r.last) = true → false = true) ∧ ((r.last != r.last) = false → true = true))) :
    PureFn Tryz.prog 195 [.agg r.ts, .agg r.ts] (.bool true) :=
  fn_vc mixed nil_ok nil_call Tryz.func195 (by kernel_rfl) (leB (by kernel_rfl)) noAnn (Eq.mp (β := vcFn Tryz.prog [] Tryz.f195.ntmps Tryz.f195.results.toList b_eqTxn [.agg r.ts, .agg r.ts] (.bool true) noAnn) (by kernel_rfl) h)
theorem eqTxn_ok : ConOk Tryz.prog 195 k_eqTxn := by
  intro r _
  refine v_eqTxn r ?_
  simp
def r_toTxnS : Rl := ⟨List Txn, fun L => [txnS L], fun L => txnS L, fun L => L.length ≤ 1048576⟩
def k_toTxnS : Con := .rel r_toTxnS
def A_toTxnS (L : List Txn) : Nat → Ann
  | 0 => .one {i : Nat // i ≤ L.length} (fun x => ⟨[(0, txnS L), (3, .osl 0 0 L.length), (4, .int .i64 x.1)], [some (.arr true 0 2 L.length (upT (txnRow L) [.int .i64 0, .int .i64 0] x.1))]⟩) (fun x => L.length - x.1) [.arr 0] [.arr 0] (fun _ => noAnn)
  | _ => .none
noncomputable def b_toTxnS : Code := Tryz.f110.body.getD .skip
theorem call_toTxnS : Callable Tryz.prog 110 := ⟨_, Tryz.func110, by kernel_rfl, by kernel_rfl⟩
set_option maxRecDepth 100000 in
theorem v_toTxnS (L : List Txn) (h :
    (Nn (L.length:Int) ∧ LeI (L.length:Int) (L.length:Int) ∧ sizeB (16 : Nat) (L.length:Int).toNat (140737488355328 : Nat) ∧ Lt (L.length:Int).toNat (9223372036854775808 : Nat)) ∧ (∃ (x : { i : Nat // i ≤ L.length }), ((L.length =
    L.length ∧ RowsEq L.length (txnRow L) (txnRow L)) ∧ (0 = 0 ∧ (L.length:Int).toNat = L.length) ∧ (0 : Int) = (x.val:Int) ∧ True) ∧ ((L.length:Int).toNat = L.length ∧ RowsEq (L.length:Int).toNat (fun (x : Nat) => [T.int .i64 (0 :
    Int), T.int .i64 (0 : Int)]) (upT (txnRow L) [T.int .i64 (0 : Int), T.int .i64 (0 : Int)] x.val)) ∧ True) ∧ ∀ (x : { i : Nat // i ≤ L.length }), (decide ((x.val:Int) < (L.length:Int)) = true → InB (x.val:Int) L.length ∧ ∃ (x_1 :
    r_toTxn.ι), ((((L.getD (x.val:Int).toNat default).id = x_1.id ∧ (L.getD (x.val:Int).toNat default).last = x_1.last ∧ True) ∧ True) ∧ True) ∧ InB (x.val:Int) L.length ∧ Lt ((0 : Nat) + (x.val:Int).toNat) L.length ∧ Rng .i64
    ((x.val:Int) + (1 : Int)) ∧ ∃ (y : { i : Nat // i ≤ L.length }), (((L.length = L.length ∧ RowsEq L.length (txnRow L) (txnRow L)) ∧ (0 = 0 ∧ L.length = L.length) ∧ (x.val:Int) + (1 : Int) = (y.val:Int) ∧ True) ∧ (L.length =
    L.length ∧ RowsEq L.length (setRow (upT (txnRow L) [T.int .i64 (0 : Int), T.int .i64 (0 : Int)] x.val) ((0 : Nat) + (x.val:Int).toNat) (0 : Nat) [T.int .i64 x_1.id, T.int .i64 x_1.last]) (upT (txnRow L) [T.int .i64 (0 : Int),
    T.int .i64 (0 : Int)] y.val)) ∧ True) ∧ Lt (L.length - y.val) (L.length - x.val)) ∧ (decide ((x.val:Int) < (L.length:Int)) = false → Le ((0 : Nat) + L.length) L.length ∧ L.length = L.length ∧ RowsEq L.length (upT (txnRow L) [T.int
    .i64 (0 : Int), T.int .i64 (0 : Int)] x.val) (txnRow L))) :
    PureFn Tryz.prog 110 [txnS L] (txnS L) :=
  fn_vc mixed (cons_ok toTxn_ok nil_ok) (cons_call call_toTxn nil_call) Tryz.func110 (by kernel_rfl) (leB (by kernel_rfl)) (A_toTxnS L) (Eq.mp (β := vcFn Tryz.prog [(188, k_toTxn)] Tryz.f110.ntmps Tryz.f110.results.toList b_toTxnS [txnS L] (txnS L) (A_toTxnS L)) (by kernel_rfl) h)
theorem toTxnS_ok : ConOk Tryz.prog 110 k_toTxnS := by
  intro (L : List Txn) (hL : L.length ≤ 1048576)
  refine v_toTxnS L ⟨⟨by unfold Nn; omega, by unfold LeI; omega, by unfold sizeB; omega, by unfold Lt; omega⟩, ⟨⟨0, Nat.zero_le _⟩, ⟨⟨(by trivial), rowsR _ _⟩, ⟨(by trivial), by omega⟩, rfl, trivial⟩, ⟨by omega, upT_zero⟩, trivial⟩, fun x => ⟨fun hc => ?_, fun hc => ?_⟩⟩
  · have hlt := lt_of_dec hc
    refine ⟨inB_nat hlt, L.getD x.val default, ⟨⟨⟨rfl, rfl, trivial⟩, trivial⟩, trivial⟩, inB_nat hlt, by unfold Lt; omega, add_rng hlt (by omega), ⟨x.val + 1, hlt⟩, ⟨⟨⟨(by trivial), rowsR _ _⟩, ⟨(by trivial), (by trivial)⟩, by simp only; omega, trivial⟩, ⟨(by trivial), fun j hj => ?_⟩, trivial⟩, Cnt.ext_lt hlt⟩
    exact upT_rows (m := 2) (fun _ => rfl) rfl x.val rfl j
  · have hx : x.val = L.length := by have := x.2; have := le_of_not hc; omega
    rw [hx]
    exact ⟨by unfold Le; omega, by omega, fun i hi => upT_end (n := L.length) i (by omega)⟩
def r_eqTxnS : Rl := ⟨List Txn, fun L => [txnS L, txnS L], fun _ => .bool true, fun L => L.length ≤ 1048576⟩
def k_eqTxnS : Con := .rel r_eqTxnS
def A_eqTxnS (L : List Txn) : Nat → Ann
  | 0 => .one {i : Nat // i ≤ L.length} (fun x => ⟨[(0, txnS L), (1, txnS L), (5, .int .i64 x.1)], []⟩) (fun x => L.length - x.1) [] [] (fun _ => noAnn)
  | _ => .none
noncomputable def b_eqTxnS : Code := Tryz.f115.body.getD .skip
theorem call_eqTxnS : Callable Tryz.prog 115 := ⟨_, Tryz.func115, by kernel_rfl, by kernel_rfl⟩
set_option maxRecDepth 100000 in
theorem v_eqTxnS (L : List Txn) (h :
    (((L.length:Int) != (L.length:Int)) = true → false = true) ∧ (((L.length:Int) != (L.length:Int)) = false → (∃ (x : { i : Nat // i ≤ L.length }), ((L.length = L.length ∧ RowsEq L.length (txnRow L) (txnRow L)) ∧ (L.length = L.length
    ∧ RowsEq L.length (txnRow L) (txnRow L)) ∧ (0 : Int) = (x.val:Int) ∧ True) ∧ True) ∧ ∀ (x : { i : Nat // i ≤ L.length }), (decide ((x.val:Int) < (L.length:Int)) = true → InB (x.val:Int) L.length ∧ InB (x.val:Int) L.length ∧ ∃ (x_1
    : r_eqTxn.ι), ((((L.getD (x.val:Int).toNat default).id = x_1.id ∧ (L.getD (x.val:Int).toNat default).last = x_1.last ∧ True) ∧ ((L.getD (x.val:Int).toNat default).id = x_1.id ∧ (L.getD (x.val:Int).toNat default).last = x_1.last ∧
    True) ∧ True) ∧ True) ∧ (false = true → false = true) ∧ (false = false → Rng .i64 ((x.val:Int) + (1 : Int)) ∧ ∃ (y : { i : Nat // i ≤ L.length }), (((L.length = L.length ∧ RowsEq L.length (txnRow L) (txnRow L)) ∧ (L.length =
    L.length ∧ RowsEq L.length (txnRow L) (txnRow L)) ∧ (x.val:Int) + (1 : Int) = (y.val:Int) ∧ True) ∧ True) ∧ Lt (L.length - y.val) (L.length - x.val))) ∧ (decide ((x.val:Int) < (L.length:Int)) = false → true = true))) :
    PureFn Tryz.prog 115 [txnS L, txnS L] (.bool true) :=
  fn_vc mixed (cons_ok eqTxn_ok nil_ok) (cons_call call_eqTxn nil_call) Tryz.func115 (by kernel_rfl) (leB (by kernel_rfl)) (A_eqTxnS L) (Eq.mp (β := vcFn Tryz.prog [(195, k_eqTxn)] Tryz.f115.ntmps Tryz.f115.results.toList b_eqTxnS [txnS L, txnS L] (.bool true) (A_eqTxnS L)) (by kernel_rfl) h)
theorem eqTxnS_ok : ConOk Tryz.prog 115 k_eqTxnS := by
  intro (L : List Txn) (hL : L.length ≤ 1048576)
  refine v_eqTxnS L ⟨fun h => by simp at h, fun _ => ⟨⟨⟨0, Nat.zero_le _⟩, ⟨⟨(by trivial), rowsR _ _⟩, ⟨(by trivial), rowsR _ _⟩, rfl, trivial⟩, trivial⟩, fun x => ⟨fun hc => ?_, fun _ => rfl⟩⟩⟩
  have hlt := lt_of_dec hc
  exact ⟨inB_nat hlt, inB_nat hlt, L.getD x.val default, ⟨⟨⟨rfl, rfl, trivial⟩, ⟨rfl, rfl, trivial⟩, trivial⟩, trivial⟩, fun h => h, fun _ => ⟨add_rng hlt (by omega), ⟨x.val + 1, hlt⟩, ⟨⟨⟨(by trivial), rowsR _ _⟩, ⟨(by trivial), rowsR _ _⟩, by simp only; omega, trivial⟩, trivial⟩, Cnt.ext_lt hlt⟩⟩
def r_szLckS : Rl := ⟨List Lck × Int, fun x => [lckS x.1, .int .i64 x.2], fun x => .int .i64 (rem x.2 x.1.length), fun x => Left x.2 ∧ Lim x.1.length⟩
def k_szLckS : Con := .rel r_szLckS
noncomputable def b_szLckS : Code := Tryz.f182.body.getD .skip
theorem call_szLckS : Callable Tryz.prog 182 := ⟨_, Tryz.func182, by kernel_rfl, by kernel_rfl⟩
set_option maxRecDepth 100000 in
theorem v_szLckS (L : List Lck) (left : Int) (h :
    Rng .i64 (left - (L.length:Int)) ∧ (decide (left - (L.length:Int) < (0 : Int)) = true → (-1 : Int) = rem left L.length) ∧ (decide (left - (L.length:Int) < (0 : Int)) = false → left - (L.length:Int) = rem left L.length)) :
    PureFn Tryz.prog 182 [lckS L, .int .i64 left] (.int .i64 (rem left L.length)) :=
  fn_vc mixed nil_ok nil_call Tryz.func182 (by kernel_rfl) (leB (by kernel_rfl)) noAnn (Eq.mp (β := vcFn Tryz.prog [] Tryz.f182.ntmps Tryz.f182.results.toList b_szLckS [lckS L, .int .i64 left] (.int .i64 (rem left L.length)) noAnn) (by kernel_rfl) h)
theorem szLckS_ok : ConOk Tryz.prog 182 k_szLckS := by
  rintro ⟨L, left⟩ ⟨⟨h0, h1⟩, hn⟩
  have hn : L.length ≤ 9223372036854775807 := hn
  simp only at h0 h1
  refine v_szLckS L left ?_
  simp only [rng_i64, decide_eq_true_eq, decide_eq_false_iff_not]
  exact ⟨by omega, fun h => (rem_lt (by omega)).symm, fun h => (rem_ge (by omega)).symm⟩
def r_toLck : Rl := ⟨Lck, fun r => [.agg r.ts], fun r => .agg r.ts, fun _ => True⟩
def k_toLck : Con := .rel r_toLck
noncomputable def b_toLck : Code := Tryz.f253.body.getD .skip
theorem call_toLck : Callable Tryz.prog 253 := ⟨_, Tryz.func253, by kernel_rfl, by kernel_rfl⟩
set_option maxRecDepth 100000 in
theorem v_toLck (r : Lck) (h :
    r.tx = r.tx ∧ r.ta = r.ta ∧ r.row = r.row ∧ r.mo = r.mo ∧ True) :
    PureFn Tryz.prog 253 [.agg r.ts] (.agg r.ts) :=
  fn_vc mixed nil_ok nil_call Tryz.func253 (by kernel_rfl) (leB (by kernel_rfl)) noAnn (Eq.mp (β := vcFn Tryz.prog [] Tryz.f253.ntmps Tryz.f253.results.toList b_toLck [.agg r.ts] (.agg r.ts) noAnn) (by kernel_rfl) h)
theorem toLck_ok : ConOk Tryz.prog 253 k_toLck := fun r _ => v_toLck r ⟨rfl, rfl, rfl, rfl, trivial⟩
def r_eqLck : Rl := ⟨Lck, fun r => [.agg r.ts, .agg r.ts], fun _ => .bool true, fun _ => True⟩
def k_eqLck : Con := .rel r_eqLck
noncomputable def b_eqLck : Code := Tryz.f265.body.getD .skip
theorem call_eqLck : Callable Tryz.prog 265 := ⟨_, Tryz.func265, by kernel_rfl, by kernel_rfl⟩
set_option maxRecDepth 100000 in
theorem v_eqLck (r : Lck) (h :
    ((r.tx != r.tx) = true → false = true) ∧ ((r.tx != r.tx) = false → ((r.ta != r.ta) = true → false = true) ∧ ((r.ta != r.ta) = false → ((r.row != r.row) = true → false = true) ∧ ((r.row != r.row) = false → ((r.mo != r.mo) = true →
    false = true) ∧ ((r.mo != r.mo) = false → true = true))))) :
    PureFn Tryz.prog 265 [.agg r.ts, .agg r.ts] (.bool true) :=
  fn_vc mixed nil_ok nil_call Tryz.func265 (by kernel_rfl) (leB (by kernel_rfl)) noAnn (Eq.mp (β := vcFn Tryz.prog [] Tryz.f265.ntmps Tryz.f265.results.toList b_eqLck [.agg r.ts, .agg r.ts] (.bool true) noAnn) (by kernel_rfl) h)
theorem eqLck_ok : ConOk Tryz.prog 265 k_eqLck := by
  intro r _
  refine v_eqLck r ?_
  simp
def r_toLckS : Rl := ⟨List Lck, fun L => [lckS L], fun L => lckS L, fun L => L.length ≤ 1048576⟩
def k_toLckS : Con := .rel r_toLckS
def A_toLckS (L : List Lck) : Nat → Ann
  | 0 => .one {i : Nat // i ≤ L.length} (fun x => ⟨[(0, lckS L), (3, .osl 0 0 L.length), (4, .int .i64 x.1)], [some (.arr true 0 4 L.length (upT (lckRow L) [.int .i64 0, .int .i64 0, .int .i64 0, .int .i64 0] x.1))]⟩) (fun x => L.length - x.1) [.arr 0] [.arr 0] (fun _ => noAnn)
  | _ => .none
noncomputable def b_toLckS : Code := Tryz.f189.body.getD .skip
theorem call_toLckS : Callable Tryz.prog 189 := ⟨_, Tryz.func189, by kernel_rfl, by kernel_rfl⟩
set_option maxRecDepth 100000 in
theorem v_toLckS (L : List Lck) (h :
    (Nn (L.length:Int) ∧ LeI (L.length:Int) (L.length:Int) ∧ sizeB (32 : Nat) (L.length:Int).toNat (140737488355328 : Nat) ∧ Lt (L.length:Int).toNat (9223372036854775808 : Nat)) ∧ (∃ (x : { i : Nat // i ≤ L.length }), ((L.length =
    L.length ∧ RowsEq L.length (lckRow L) (lckRow L)) ∧ (0 = 0 ∧ (L.length:Int).toNat = L.length) ∧ (0 : Int) = (x.val:Int) ∧ True) ∧ ((L.length:Int).toNat = L.length ∧ RowsEq (L.length:Int).toNat (fun (x : Nat) => [T.int .i64 (0 :
    Int), T.int .i64 (0 : Int), T.int .i64 (0 : Int), T.int .i64 (0 : Int)]) (upT (lckRow L) [T.int .i64 (0 : Int), T.int .i64 (0 : Int), T.int .i64 (0 : Int), T.int .i64 (0 : Int)] x.val)) ∧ True) ∧ ∀ (x : { i : Nat // i ≤ L.length
    }), (decide ((x.val:Int) < (L.length:Int)) = true → InB (x.val:Int) L.length ∧ ∃ (x_1 : r_toLck.ι), ((((L.getD (x.val:Int).toNat default).tx = x_1.tx ∧ (L.getD (x.val:Int).toNat default).ta = x_1.ta ∧ (L.getD (x.val:Int).toNat
    default).row = x_1.row ∧ (L.getD (x.val:Int).toNat default).mo = x_1.mo ∧ True) ∧ True) ∧ True) ∧ InB (x.val:Int) L.length ∧ Lt ((0 : Nat) + (x.val:Int).toNat) L.length ∧ Rng .i64 ((x.val:Int) + (1 : Int)) ∧ ∃ (y : { i : Nat // i
    ≤ L.length }), (((L.length = L.length ∧ RowsEq L.length (lckRow L) (lckRow L)) ∧ (0 = 0 ∧ L.length = L.length) ∧ (x.val:Int) + (1 : Int) = (y.val:Int) ∧ True) ∧ (L.length = L.length ∧ RowsEq L.length (setRow (upT (lckRow L) [T.int
    .i64 (0 : Int), T.int .i64 (0 : Int), T.int .i64 (0 : Int), T.int .i64 (0 : Int)] x.val) ((0 : Nat) + (x.val:Int).toNat) (0 : Nat) [T.int .i64 x_1.tx, T.int .i64 x_1.ta, T.int .i64 x_1.row, T.int .i64 x_1.mo]) (upT (lckRow L)
    [T.int .i64 (0 : Int), T.int .i64 (0 : Int), T.int .i64 (0 : Int), T.int .i64 (0 : Int)] y.val)) ∧ True) ∧ Lt (L.length - y.val) (L.length - x.val)) ∧ (decide ((x.val:Int) < (L.length:Int)) = false → Le ((0 : Nat) + L.length)
    L.length ∧ L.length = L.length ∧ RowsEq L.length (upT (lckRow L) [T.int .i64 (0 : Int), T.int .i64 (0 : Int), T.int .i64 (0 : Int), T.int .i64 (0 : Int)] x.val) (lckRow L))) :
    PureFn Tryz.prog 189 [lckS L] (lckS L) :=
  fn_vc mixed (cons_ok toLck_ok nil_ok) (cons_call call_toLck nil_call) Tryz.func189 (by kernel_rfl) (leB (by kernel_rfl)) (A_toLckS L) (Eq.mp (β := vcFn Tryz.prog [(253, k_toLck)] Tryz.f189.ntmps Tryz.f189.results.toList b_toLckS [lckS L] (lckS L) (A_toLckS L)) (by kernel_rfl) h)
theorem toLckS_ok : ConOk Tryz.prog 189 k_toLckS := by
  intro (L : List Lck) (hL : L.length ≤ 1048576)
  refine v_toLckS L ⟨⟨by unfold Nn; omega, by unfold LeI; omega, by unfold sizeB; omega, by unfold Lt; omega⟩, ⟨⟨0, Nat.zero_le _⟩, ⟨⟨(by trivial), rowsR _ _⟩, ⟨(by trivial), by omega⟩, rfl, trivial⟩, ⟨by omega, upT_zero⟩, trivial⟩, fun x => ⟨fun hc => ?_, fun hc => ?_⟩⟩
  · have hlt := lt_of_dec hc
    refine ⟨inB_nat hlt, L.getD x.val default, ⟨⟨⟨rfl, rfl, rfl, rfl, trivial⟩, trivial⟩, trivial⟩, inB_nat hlt, by unfold Lt; omega, add_rng hlt (by omega), ⟨x.val + 1, hlt⟩, ⟨⟨⟨(by trivial), rowsR _ _⟩, ⟨(by trivial), (by trivial)⟩, by simp only; omega, trivial⟩, ⟨(by trivial), fun j hj => ?_⟩, trivial⟩, Cnt.ext_lt hlt⟩
    exact upT_rows (m := 4) (fun _ => rfl) rfl x.val rfl j
  · have hx : x.val = L.length := by have := x.2; have := le_of_not hc; omega
    rw [hx]
    exact ⟨by unfold Le; omega, by omega, fun i hi => upT_end (n := L.length) i (by omega)⟩
def r_eqLckS : Rl := ⟨List Lck, fun L => [lckS L, lckS L], fun _ => .bool true, fun L => L.length ≤ 1048576⟩
def k_eqLckS : Con := .rel r_eqLckS
def A_eqLckS (L : List Lck) : Nat → Ann
  | 0 => .one {i : Nat // i ≤ L.length} (fun x => ⟨[(0, lckS L), (1, lckS L), (5, .int .i64 x.1)], []⟩) (fun x => L.length - x.1) [] [] (fun _ => noAnn)
  | _ => .none
noncomputable def b_eqLckS : Code := Tryz.f196.body.getD .skip
theorem call_eqLckS : Callable Tryz.prog 196 := ⟨_, Tryz.func196, by kernel_rfl, by kernel_rfl⟩
set_option maxRecDepth 100000 in
theorem v_eqLckS (L : List Lck) (h :
    (((L.length:Int) != (L.length:Int)) = true → false = true) ∧ (((L.length:Int) != (L.length:Int)) = false → (∃ (x : { i : Nat // i ≤ L.length }), ((L.length = L.length ∧ RowsEq L.length (lckRow L) (lckRow L)) ∧ (L.length = L.length
    ∧ RowsEq L.length (lckRow L) (lckRow L)) ∧ (0 : Int) = (x.val:Int) ∧ True) ∧ True) ∧ ∀ (x : { i : Nat // i ≤ L.length }), (decide ((x.val:Int) < (L.length:Int)) = true → InB (x.val:Int) L.length ∧ InB (x.val:Int) L.length ∧ ∃ (x_1
    : r_eqLck.ι), ((((L.getD (x.val:Int).toNat default).tx = x_1.tx ∧ (L.getD (x.val:Int).toNat default).ta = x_1.ta ∧ (L.getD (x.val:Int).toNat default).row = x_1.row ∧ (L.getD (x.val:Int).toNat default).mo = x_1.mo ∧ True) ∧
    ((L.getD (x.val:Int).toNat default).tx = x_1.tx ∧ (L.getD (x.val:Int).toNat default).ta = x_1.ta ∧ (L.getD (x.val:Int).toNat default).row = x_1.row ∧ (L.getD (x.val:Int).toNat default).mo = x_1.mo ∧ True) ∧ True) ∧ True) ∧ (false
    = true → false = true) ∧ (false = false → Rng .i64 ((x.val:Int) + (1 : Int)) ∧ ∃ (y : { i : Nat // i ≤ L.length }), (((L.length = L.length ∧ RowsEq L.length (lckRow L) (lckRow L)) ∧ (L.length = L.length ∧ RowsEq L.length (lckRow
    L) (lckRow L)) ∧ (x.val:Int) + (1 : Int) = (y.val:Int) ∧ True) ∧ True) ∧ Lt (L.length - y.val) (L.length - x.val))) ∧ (decide ((x.val:Int) < (L.length:Int)) = false → true = true))) :
    PureFn Tryz.prog 196 [lckS L, lckS L] (.bool true) :=
  fn_vc mixed (cons_ok eqLck_ok nil_ok) (cons_call call_eqLck nil_call) Tryz.func196 (by kernel_rfl) (leB (by kernel_rfl)) (A_eqLckS L) (Eq.mp (β := vcFn Tryz.prog [(265, k_eqLck)] Tryz.f196.ntmps Tryz.f196.results.toList b_eqLckS [lckS L, lckS L] (.bool true) (A_eqLckS L)) (by kernel_rfl) h)
theorem eqLckS_ok : ConOk Tryz.prog 196 k_eqLckS := by
  intro (L : List Lck) (hL : L.length ≤ 1048576)
  refine v_eqLckS L ⟨fun h => by simp at h, fun _ => ⟨⟨⟨0, Nat.zero_le _⟩, ⟨⟨(by trivial), rowsR _ _⟩, ⟨(by trivial), rowsR _ _⟩, rfl, trivial⟩, trivial⟩, fun x => ⟨fun hc => ?_, fun _ => rfl⟩⟩⟩
  have hlt := lt_of_dec hc
  exact ⟨inB_nat hlt, inB_nat hlt, L.getD x.val default, ⟨⟨⟨rfl, rfl, rfl, rfl, trivial⟩, ⟨rfl, rfl, rfl, rfl, trivial⟩, trivial⟩, trivial⟩, fun h => h, fun _ => ⟨add_rng hlt (by omega), ⟨x.val + 1, hlt⟩, ⟨⟨⟨(by trivial), rowsR _ _⟩, ⟨(by trivial), rowsR _ _⟩, by simp only; omega, trivial⟩, trivial⟩, Cnt.ext_lt hlt⟩⟩
def r_szWtS : Rl := ⟨List Wt × Int, fun x => [wtS x.1, .int .i64 x.2], fun x => .int .i64 (rem x.2 x.1.length), fun x => Left x.2 ∧ Lim x.1.length⟩
def k_szWtS : Con := .rel r_szWtS
noncomputable def b_szWtS : Code := Tryz.f183.body.getD .skip
theorem call_szWtS : Callable Tryz.prog 183 := ⟨_, Tryz.func183, by kernel_rfl, by kernel_rfl⟩
set_option maxRecDepth 100000 in
theorem v_szWtS (L : List Wt) (left : Int) (h :
    Rng .i64 (left - (L.length:Int)) ∧ (decide (left - (L.length:Int) < (0 : Int)) = true → (-1 : Int) = rem left L.length) ∧ (decide (left - (L.length:Int) < (0 : Int)) = false → left - (L.length:Int) = rem left L.length)) :
    PureFn Tryz.prog 183 [wtS L, .int .i64 left] (.int .i64 (rem left L.length)) :=
  fn_vc mixed nil_ok nil_call Tryz.func183 (by kernel_rfl) (leB (by kernel_rfl)) noAnn (Eq.mp (β := vcFn Tryz.prog [] Tryz.f183.ntmps Tryz.f183.results.toList b_szWtS [wtS L, .int .i64 left] (.int .i64 (rem left L.length)) noAnn) (by kernel_rfl) h)
theorem szWtS_ok : ConOk Tryz.prog 183 k_szWtS := by
  rintro ⟨L, left⟩ ⟨⟨h0, h1⟩, hn⟩
  have hn : L.length ≤ 9223372036854775807 := hn
  simp only at h0 h1
  refine v_szWtS L left ?_
  simp only [rng_i64, decide_eq_true_eq, decide_eq_false_iff_not]
  exact ⟨by omega, fun h => (rem_lt (by omega)).symm, fun h => (rem_ge (by omega)).symm⟩
def r_toWt : Rl := ⟨Wt, fun r => [.agg r.ts], fun r => .agg r.ts, fun _ => True⟩
def k_toWt : Con := .rel r_toWt
noncomputable def b_toWt : Code := Tryz.f254.body.getD .skip
theorem call_toWt : Callable Tryz.prog 254 := ⟨_, Tryz.func254, by kernel_rfl, by kernel_rfl⟩
set_option maxRecDepth 100000 in
theorem v_toWt (r : Wt) (h :
    r.tx = r.tx ∧ r.fo = r.fo ∧ True) :
    PureFn Tryz.prog 254 [.agg r.ts] (.agg r.ts) :=
  fn_vc mixed nil_ok nil_call Tryz.func254 (by kernel_rfl) (leB (by kernel_rfl)) noAnn (Eq.mp (β := vcFn Tryz.prog [] Tryz.f254.ntmps Tryz.f254.results.toList b_toWt [.agg r.ts] (.agg r.ts) noAnn) (by kernel_rfl) h)
theorem toWt_ok : ConOk Tryz.prog 254 k_toWt := fun r _ => v_toWt r ⟨rfl, rfl, trivial⟩
def r_eqWt : Rl := ⟨Wt, fun r => [.agg r.ts, .agg r.ts], fun _ => .bool true, fun _ => True⟩
def k_eqWt : Con := .rel r_eqWt
noncomputable def b_eqWt : Code := Tryz.f266.body.getD .skip
theorem call_eqWt : Callable Tryz.prog 266 := ⟨_, Tryz.func266, by kernel_rfl, by kernel_rfl⟩
set_option maxRecDepth 100000 in
theorem v_eqWt (r : Wt) (h :
    ((r.tx != r.tx) = true → false = true) ∧ ((r.tx != r.tx) = false → ((r.fo != r.fo) = true → false = true) ∧ ((r.fo != r.fo) = false → true = true))) :
    PureFn Tryz.prog 266 [.agg r.ts, .agg r.ts] (.bool true) :=
  fn_vc mixed nil_ok nil_call Tryz.func266 (by kernel_rfl) (leB (by kernel_rfl)) noAnn (Eq.mp (β := vcFn Tryz.prog [] Tryz.f266.ntmps Tryz.f266.results.toList b_eqWt [.agg r.ts, .agg r.ts] (.bool true) noAnn) (by kernel_rfl) h)
theorem eqWt_ok : ConOk Tryz.prog 266 k_eqWt := by
  intro r _
  refine v_eqWt r ?_
  simp
def r_toWtS : Rl := ⟨List Wt, fun L => [wtS L], fun L => wtS L, fun L => L.length ≤ 1048576⟩
def k_toWtS : Con := .rel r_toWtS
def A_toWtS (L : List Wt) : Nat → Ann
  | 0 => .one {i : Nat // i ≤ L.length} (fun x => ⟨[(0, wtS L), (3, .osl 0 0 L.length), (4, .int .i64 x.1)], [some (.arr true 0 2 L.length (upT (wtRow L) [.int .i64 0, .int .i64 0] x.1))]⟩) (fun x => L.length - x.1) [.arr 0] [.arr 0] (fun _ => noAnn)
  | _ => .none
noncomputable def b_toWtS : Code := Tryz.f190.body.getD .skip
theorem call_toWtS : Callable Tryz.prog 190 := ⟨_, Tryz.func190, by kernel_rfl, by kernel_rfl⟩
set_option maxRecDepth 100000 in
theorem v_toWtS (L : List Wt) (h :
    (Nn (L.length:Int) ∧ LeI (L.length:Int) (L.length:Int) ∧ sizeB (16 : Nat) (L.length:Int).toNat (140737488355328 : Nat) ∧ Lt (L.length:Int).toNat (9223372036854775808 : Nat)) ∧ (∃ (x : { i : Nat // i ≤ L.length }), ((L.length =
    L.length ∧ RowsEq L.length (wtRow L) (wtRow L)) ∧ (0 = 0 ∧ (L.length:Int).toNat = L.length) ∧ (0 : Int) = (x.val:Int) ∧ True) ∧ ((L.length:Int).toNat = L.length ∧ RowsEq (L.length:Int).toNat (fun (x : Nat) => [T.int .i64 (0 :
    Int), T.int .i64 (0 : Int)]) (upT (wtRow L) [T.int .i64 (0 : Int), T.int .i64 (0 : Int)] x.val)) ∧ True) ∧ ∀ (x : { i : Nat // i ≤ L.length }), (decide ((x.val:Int) < (L.length:Int)) = true → InB (x.val:Int) L.length ∧ ∃ (x_1 :
    r_toWt.ι), ((((L.getD (x.val:Int).toNat default).tx = x_1.tx ∧ (L.getD (x.val:Int).toNat default).fo = x_1.fo ∧ True) ∧ True) ∧ True) ∧ InB (x.val:Int) L.length ∧ Lt ((0 : Nat) + (x.val:Int).toNat) L.length ∧ Rng .i64 ((x.val:Int)
    + (1 : Int)) ∧ ∃ (y : { i : Nat // i ≤ L.length }), (((L.length = L.length ∧ RowsEq L.length (wtRow L) (wtRow L)) ∧ (0 = 0 ∧ L.length = L.length) ∧ (x.val:Int) + (1 : Int) = (y.val:Int) ∧ True) ∧ (L.length = L.length ∧ RowsEq
    L.length (setRow (upT (wtRow L) [T.int .i64 (0 : Int), T.int .i64 (0 : Int)] x.val) ((0 : Nat) + (x.val:Int).toNat) (0 : Nat) [T.int .i64 x_1.tx, T.int .i64 x_1.fo]) (upT (wtRow L) [T.int .i64 (0 : Int), T.int .i64 (0 : Int)]
    y.val)) ∧ True) ∧ Lt (L.length - y.val) (L.length - x.val)) ∧ (decide ((x.val:Int) < (L.length:Int)) = false → Le ((0 : Nat) + L.length) L.length ∧ L.length = L.length ∧ RowsEq L.length (upT (wtRow L) [T.int .i64 (0 : Int), T.int
    .i64 (0 : Int)] x.val) (wtRow L))) :
    PureFn Tryz.prog 190 [wtS L] (wtS L) :=
  fn_vc mixed (cons_ok toWt_ok nil_ok) (cons_call call_toWt nil_call) Tryz.func190 (by kernel_rfl) (leB (by kernel_rfl)) (A_toWtS L) (Eq.mp (β := vcFn Tryz.prog [(254, k_toWt)] Tryz.f190.ntmps Tryz.f190.results.toList b_toWtS [wtS L] (wtS L) (A_toWtS L)) (by kernel_rfl) h)
theorem toWtS_ok : ConOk Tryz.prog 190 k_toWtS := by
  intro (L : List Wt) (hL : L.length ≤ 1048576)
  refine v_toWtS L ⟨⟨by unfold Nn; omega, by unfold LeI; omega, by unfold sizeB; omega, by unfold Lt; omega⟩, ⟨⟨0, Nat.zero_le _⟩, ⟨⟨(by trivial), rowsR _ _⟩, ⟨(by trivial), by omega⟩, rfl, trivial⟩, ⟨by omega, upT_zero⟩, trivial⟩, fun x => ⟨fun hc => ?_, fun hc => ?_⟩⟩
  · have hlt := lt_of_dec hc
    refine ⟨inB_nat hlt, L.getD x.val default, ⟨⟨⟨rfl, rfl, trivial⟩, trivial⟩, trivial⟩, inB_nat hlt, by unfold Lt; omega, add_rng hlt (by omega), ⟨x.val + 1, hlt⟩, ⟨⟨⟨(by trivial), rowsR _ _⟩, ⟨(by trivial), (by trivial)⟩, by simp only; omega, trivial⟩, ⟨(by trivial), fun j hj => ?_⟩, trivial⟩, Cnt.ext_lt hlt⟩
    exact upT_rows (m := 2) (fun _ => rfl) rfl x.val rfl j
  · have hx : x.val = L.length := by have := x.2; have := le_of_not hc; omega
    rw [hx]
    exact ⟨by unfold Le; omega, by omega, fun i hi => upT_end (n := L.length) i (by omega)⟩
def r_eqWtS : Rl := ⟨List Wt, fun L => [wtS L, wtS L], fun _ => .bool true, fun L => L.length ≤ 1048576⟩
def k_eqWtS : Con := .rel r_eqWtS
def A_eqWtS (L : List Wt) : Nat → Ann
  | 0 => .one {i : Nat // i ≤ L.length} (fun x => ⟨[(0, wtS L), (1, wtS L), (5, .int .i64 x.1)], []⟩) (fun x => L.length - x.1) [] [] (fun _ => noAnn)
  | _ => .none
noncomputable def b_eqWtS : Code := Tryz.f197.body.getD .skip
theorem call_eqWtS : Callable Tryz.prog 197 := ⟨_, Tryz.func197, by kernel_rfl, by kernel_rfl⟩
set_option maxRecDepth 100000 in
theorem v_eqWtS (L : List Wt) (h :
    (((L.length:Int) != (L.length:Int)) = true → false = true) ∧ (((L.length:Int) != (L.length:Int)) = false → (∃ (x : { i : Nat // i ≤ L.length }), ((L.length = L.length ∧ RowsEq L.length (wtRow L) (wtRow L)) ∧ (L.length = L.length ∧
    RowsEq L.length (wtRow L) (wtRow L)) ∧ (0 : Int) = (x.val:Int) ∧ True) ∧ True) ∧ ∀ (x : { i : Nat // i ≤ L.length }), (decide ((x.val:Int) < (L.length:Int)) = true → InB (x.val:Int) L.length ∧ InB (x.val:Int) L.length ∧ ∃ (x_1 :
    r_eqWt.ι), ((((L.getD (x.val:Int).toNat default).tx = x_1.tx ∧ (L.getD (x.val:Int).toNat default).fo = x_1.fo ∧ True) ∧ ((L.getD (x.val:Int).toNat default).tx = x_1.tx ∧ (L.getD (x.val:Int).toNat default).fo = x_1.fo ∧ True) ∧
    True) ∧ True) ∧ (false = true → false = true) ∧ (false = false → Rng .i64 ((x.val:Int) + (1 : Int)) ∧ ∃ (y : { i : Nat // i ≤ L.length }), (((L.length = L.length ∧ RowsEq L.length (wtRow L) (wtRow L)) ∧ (L.length = L.length ∧
    RowsEq L.length (wtRow L) (wtRow L)) ∧ (x.val:Int) + (1 : Int) = (y.val:Int) ∧ True) ∧ True) ∧ Lt (L.length - y.val) (L.length - x.val))) ∧ (decide ((x.val:Int) < (L.length:Int)) = false → true = true))) :
    PureFn Tryz.prog 197 [wtS L, wtS L] (.bool true) :=
  fn_vc mixed (cons_ok eqWt_ok nil_ok) (cons_call call_eqWt nil_call) Tryz.func197 (by kernel_rfl) (leB (by kernel_rfl)) (A_eqWtS L) (Eq.mp (β := vcFn Tryz.prog [(266, k_eqWt)] Tryz.f197.ntmps Tryz.f197.results.toList b_eqWtS [wtS L, wtS L] (.bool true) (A_eqWtS L)) (by kernel_rfl) h)
theorem eqWtS_ok : ConOk Tryz.prog 197 k_eqWtS := by
  intro (L : List Wt) (hL : L.length ≤ 1048576)
  refine v_eqWtS L ⟨fun h => by simp at h, fun _ => ⟨⟨⟨0, Nat.zero_le _⟩, ⟨⟨(by trivial), rowsR _ _⟩, ⟨(by trivial), rowsR _ _⟩, rfl, trivial⟩, trivial⟩, fun x => ⟨fun hc => ?_, fun _ => rfl⟩⟩⟩
  have hlt := lt_of_dec hc
  exact ⟨inB_nat hlt, inB_nat hlt, L.getD x.val default, ⟨⟨⟨rfl, rfl, trivial⟩, ⟨rfl, rfl, trivial⟩, trivial⟩, trivial⟩, fun h => h, fun _ => ⟨add_rng hlt (by omega), ⟨x.val + 1, hlt⟩, ⟨⟨⟨(by trivial), rowsR _ _⟩, ⟨(by trivial), rowsR _ _⟩, by simp only; omega, trivial⟩, trivial⟩, Cnt.ext_lt hlt⟩⟩
-- values, rows, changes
def LmV (v : Val) : Prop := Lim v.t.length
def r_szVal : Rl := ⟨Val × Int, fun x => [.agg x.1.ts, .int .i64 x.2], fun x => .int .i64 (rem x.2 x.1.t.length), fun x => Left x.2 ∧ LmV x.1⟩
def k_szVal : Con := .rel r_szVal
noncomputable def b_szVal : Code := Tryz.f301.body.getD .skip
theorem call_szVal : Callable Tryz.prog 301 := ⟨_, Tryz.func301, by kernel_rfl, by kernel_rfl⟩
set_option maxRecDepth 100000 in
theorem v_szVal (v : Val) (left : Int) (h :
    Rng .i64 (left - (v.t.length:Int)) ∧ (decide (left - (v.t.length:Int) < (0 : Int)) = true → (-1 : Int) = rem left v.t.length) ∧ (decide (left - (v.t.length:Int) < (0 : Int)) = false → left - (v.t.length:Int) = rem left v.t.length)) :
    PureFn Tryz.prog 301 [.agg v.ts, .int .i64 left] (.int .i64 (rem left v.t.length)) :=
  fn_vc mixed nil_ok nil_call Tryz.func301 (by kernel_rfl) (leB (by kernel_rfl)) noAnn (Eq.mp (β := vcFn Tryz.prog [] Tryz.f301.ntmps Tryz.f301.results.toList b_szVal [.agg v.ts, .int .i64 left] (.int .i64 (rem left v.t.length)) noAnn) (by kernel_rfl) h)
theorem szVal_ok : ConOk Tryz.prog 301 k_szVal := by
  rintro ⟨r, left⟩ ⟨⟨h0, h1⟩, hb⟩
  have hb : r.t.length ≤ 9223372036854775807 := hb
  simp only at h0 h1
  refine v_szVal r left ?_
  simp only [rng_i64, decide_eq_true_eq, decide_eq_false_iff_not]
  exact ⟨by omega, fun h => (rem_lt (by omega)).symm, fun h => by rw [rem_ge (by omega)]⟩
def k_toVal : Con := .rel ⟨Val, fun r => [.agg r.ts], fun r => .agg r.ts, fun _ => True⟩
noncomputable def b_toVal : Code := Tryz.f302.body.getD .skip
theorem call_toVal : Callable Tryz.prog 302 := ⟨_, Tryz.func302, by kernel_rfl, by kernel_rfl⟩
set_option maxRecDepth 100000 in
theorem v_toVal (r : Val) (h :
    r.k = r.k ∧ r.n = r.n ∧ r.t = r.t ∧ True) :
    PureFn Tryz.prog 302 [.agg r.ts] (.agg r.ts) :=
  fn_vc mixed nil_ok nil_call Tryz.func302 (by kernel_rfl) (leB (by kernel_rfl)) noAnn (Eq.mp (β := vcFn Tryz.prog [] Tryz.f302.ntmps Tryz.f302.results.toList b_toVal [.agg r.ts] (.agg r.ts) noAnn) (by kernel_rfl) h)
theorem toVal_ok : ConOk Tryz.prog 302 k_toVal := fun r _ => v_toVal r ⟨rfl, rfl, rfl, trivial⟩
def k_eqVal : Con := .rel ⟨Val, fun r => [.agg r.ts, .agg r.ts], fun _ => .bool true, fun _ => True⟩
noncomputable def b_eqVal : Code := Tryz.f303.body.getD .skip
theorem call_eqVal : Callable Tryz.prog 303 := ⟨_, Tryz.func303, by kernel_rfl, by kernel_rfl⟩
set_option maxRecDepth 100000 in
theorem v_eqVal (r : Val) (h :
    ((r.k != r.k) = true → false = true) ∧ ((r.k != r.k) = false → ((r.n != r.n) = true → false = true) ∧ ((r.n != r.n) = false → ((!r.t == r.t) = true → false = true) ∧ ((!r.t == r.t) = false → true = true)))) :
    PureFn Tryz.prog 303 [.agg r.ts, .agg r.ts] (.bool true) :=
  fn_vc mixed nil_ok nil_call Tryz.func303 (by kernel_rfl) (leB (by kernel_rfl)) noAnn (Eq.mp (β := vcFn Tryz.prog [] Tryz.f303.ntmps Tryz.f303.results.toList b_eqVal [.agg r.ts, .agg r.ts] (.bool true) noAnn) (by kernel_rfl) h)
theorem eqVal_ok : ConOk Tryz.prog 303 k_eqVal := by
  intro r _
  refine v_eqVal r ?_
  simp
def bulkRw (r : Rw) : Nat := r.n.t.length + r.name.t.length
def LmRw (r : Rw) : Prop := LmV r.n ∧ LmV r.name
def k_szRw : Con := .rel ⟨Rw × Int, fun x => [.agg x.1.ts, .int .i64 x.2], fun x => .int .i64 (rem x.2 (bulkRw x.1)), fun x => Left x.2 ∧ LmRw x.1⟩
noncomputable def b_szRw : Code := Tryz.f267.body.getD .skip
theorem call_szRw : Callable Tryz.prog 267 := ⟨_, Tryz.func267, by kernel_rfl, by kernel_rfl⟩
set_option maxRecDepth 100000 in
theorem v_szRw (r : Rw) (left : Int) (h :
    ∃ (x : r_szVal.ι), (((r.n.k = x.fst.k ∧ r.n.n = x.fst.n ∧ r.n.t = x.fst.t ∧ True) ∧ left = x.snd ∧ True) ∧ Left x.snd ∧ LmV x.fst) ∧ (decide (rem x.snd x.fst.t.length < (0 : Int)) = true → (-1 : Int) = rem left (bulkRw r)) ∧
    (decide (rem x.snd x.fst.t.length < (0 : Int)) = false → ∃ (x_1 : r_szVal.ι), (((r.name.k = x_1.fst.k ∧ r.name.n = x_1.fst.n ∧ r.name.t = x_1.fst.t ∧ True) ∧ rem x.snd x.fst.t.length = x_1.snd ∧ True) ∧ Left x_1.snd ∧ LmV x_1.fst)
    ∧ (decide (rem x_1.snd x_1.fst.t.length < (0 : Int)) = true → (-1 : Int) = rem left (bulkRw r)) ∧ (decide (rem x_1.snd x_1.fst.t.length < (0 : Int)) = false → rem x_1.snd x_1.fst.t.length = rem left (bulkRw r)))) :
    PureFn Tryz.prog 267 [.agg r.ts, .int .i64 left] (.int .i64 (rem left (bulkRw r))) :=
  fn_vc mixed (cons_ok szVal_ok nil_ok) (cons_call call_szVal nil_call) Tryz.func267 (by kernel_rfl) (leB (by kernel_rfl)) noAnn (Eq.mp (β := vcFn Tryz.prog [(301, k_szVal)] Tryz.f267.ntmps Tryz.f267.results.toList b_szRw [.agg r.ts, .int .i64 left] (.int .i64 (rem left (bulkRw r))) noAnn) (by kernel_rfl) h)
theorem szRw_ok : ConOk Tryz.prog 267 k_szRw := by
  rintro ⟨r, left⟩ ⟨hl, h1, h2⟩
  simp only at hl h1 h2
  have e : bulkRw r = r.n.t.length + r.name.t.length := rfl
  refine v_szRw r left ⟨(r.n, left), ⟨⟨⟨rfl, rfl, rfl, trivial⟩, rfl, trivial⟩, hl, h1⟩, fun h => (rem_neg (of_decide_eq_true h) (by (try dsimp only); omega)).symm, fun h => ?_⟩
  obtain ⟨q1, l1⟩ := rem_add (b := r.name.t.length) (of_decide_eq_false h) hl rfl
  refine ⟨(r.name, rem left r.n.t.length), ⟨⟨⟨rfl, rfl, rfl, trivial⟩, rfl, trivial⟩, l1, h2⟩, fun g => ?_, fun g => ?_⟩
  · simp only at g
    rw [q1] at g
    exact (rem_neg (of_decide_eq_true g) (by (try dsimp only); omega)).symm
  · exact q1
def k_toRw : Con := .rel ⟨Rw, fun r => [.agg r.ts], fun r => .agg r.ts, fun _ => True⟩
noncomputable def b_toRw : Code := Tryz.f269.body.getD .skip
theorem call_toRw : Callable Tryz.prog 269 := ⟨_, Tryz.func269, by kernel_rfl, by kernel_rfl⟩
set_option maxRecDepth 100000 in
theorem v_toRw (r : Rw) (h :
    ∃ (x : Val), (((r.n.k = x.k ∧ r.n.n = x.n ∧ r.n.t = x.t ∧ True) ∧ True) ∧ True) ∧ ∃ (x_1 : Val), (((r.name.k = x_1.k ∧ r.name.n = x_1.n ∧ r.name.t = x_1.t ∧ True) ∧ True) ∧ True) ∧ r.id = r.id ∧ x.k = r.n.k ∧ x.n = r.n.n ∧ x.t =
    r.n.t ∧ x_1.k = r.name.k ∧ x_1.n = r.name.n ∧ x_1.t = r.name.t ∧ True) :
    PureFn Tryz.prog 269 [.agg r.ts] (.agg r.ts) :=
  fn_vc mixed (cons_ok toVal_ok nil_ok) (cons_call call_toVal nil_call) Tryz.func269 (by kernel_rfl) (leB (by kernel_rfl)) noAnn (Eq.mp (β := vcFn Tryz.prog [(302, k_toVal)] Tryz.f269.ntmps Tryz.f269.results.toList b_toRw [.agg r.ts] (.agg r.ts) noAnn) (by kernel_rfl) h)
theorem toRw_ok : ConOk Tryz.prog 269 k_toRw := fun (r : Rw) _ => v_toRw r ⟨r.n, ⟨⟨⟨rfl, rfl, rfl, trivial⟩, trivial⟩, trivial⟩, r.name, ⟨⟨⟨rfl, rfl, rfl, trivial⟩, trivial⟩, trivial⟩, rfl, rfl, rfl, rfl, rfl, rfl, rfl, trivial⟩
def k_eqRw : Con := .rel ⟨Rw, fun r => [.agg r.ts, .agg r.ts], fun _ => .bool true, fun _ => True⟩
noncomputable def b_eqRw : Code := Tryz.f274.body.getD .skip
theorem call_eqRw : Callable Tryz.prog 274 := ⟨_, Tryz.func274, by kernel_rfl, by kernel_rfl⟩
set_option maxRecDepth 100000 in
theorem v_eqRw (r : Rw) (h :
    ((r.id != r.id) = true → false = true) ∧ ((r.id != r.id) = false → ∃ (x : Val), (((r.n.k = x.k ∧ r.n.n = x.n ∧ r.n.t = x.t ∧ True) ∧ (r.n.k = x.k ∧ r.n.n = x.n ∧ r.n.t = x.t ∧ True) ∧ True) ∧ True) ∧ (false = true → false = true)
    ∧ (false = false → ∃ (x : Val), (((r.name.k = x.k ∧ r.name.n = x.n ∧ r.name.t = x.t ∧ True) ∧ (r.name.k = x.k ∧ r.name.n = x.n ∧ r.name.t = x.t ∧ True) ∧ True) ∧ True) ∧ (false = true → false = true) ∧ (false = false → true =
    true)))) :
    PureFn Tryz.prog 274 [.agg r.ts, .agg r.ts] (.bool true) :=
  fn_vc mixed (cons_ok eqVal_ok nil_ok) (cons_call call_eqVal nil_call) Tryz.func274 (by kernel_rfl) (leB (by kernel_rfl)) noAnn (Eq.mp (β := vcFn Tryz.prog [(303, k_eqVal)] Tryz.f274.ntmps Tryz.f274.results.toList b_eqRw [.agg r.ts, .agg r.ts] (.bool true) noAnn) (by kernel_rfl) h)
theorem eqRw_ok : ConOk Tryz.prog 274 k_eqRw := fun (r : Rw) _ => v_eqRw r ⟨fun h => by simp at h, fun _ => ⟨r.n, ⟨⟨⟨rfl, rfl, rfl, trivial⟩, ⟨rfl, rfl, rfl, trivial⟩, trivial⟩, trivial⟩, fun h => h, fun _ => ⟨r.name, ⟨⟨⟨rfl, rfl, rfl, trivial⟩, ⟨rfl, rfl, rfl, trivial⟩, trivial⟩, trivial⟩, fun h => h, fun _ => rfl⟩⟩⟩
def bulkC (c : Chg) : Nat := bulkRw c.row
def LmC (c : Chg) : Prop := LmRw c.row
def SmC (_ : Chg) : Prop := True
def r_szChg : Rl := ⟨Chg × Int, fun x => [.agg x.1.ts, .int .i64 x.2], fun x => .int .i64 (rem x.2 (bulkC x.1)), fun x => Left x.2 ∧ LmC x.1⟩
def k_szChg : Con := .rel r_szChg
def r_toChg : Rl := ⟨Chg, fun r => [.agg r.ts], fun r => .agg r.ts, SmC⟩
def k_toChg : Con := .rel r_toChg
def r_eqChg : Rl := ⟨Chg, fun r => [.agg r.ts, .agg r.ts], fun _ => .bool true, SmC⟩
def k_eqChg : Con := .rel r_eqChg
noncomputable def b_szChg : Code := Tryz.f198.body.getD .skip
theorem call_szChg : Callable Tryz.prog 198 := ⟨_, Tryz.func198, by kernel_rfl, by kernel_rfl⟩
set_option maxRecDepth 100000 in
theorem v_szChg (c : Chg) (left : Int) (h :
    ∃ (x : (Rw × Int)), (((c.row.id = x.fst.id ∧ c.row.n.k = x.fst.n.k ∧ c.row.n.n = x.fst.n.n ∧ c.row.n.t = x.fst.n.t ∧ c.row.name.k = x.fst.name.k ∧ c.row.name.n = x.fst.name.n ∧ c.row.name.t = x.fst.name.t ∧ True) ∧ left = x.snd ∧
    True) ∧ Left x.snd ∧ LmRw x.fst) ∧ (decide (rem x.snd (bulkRw x.fst) < (0 : Int)) = true → (-1 : Int) = rem left (bulkC c)) ∧ (decide (rem x.snd (bulkRw x.fst) < (0 : Int)) = false → rem x.snd (bulkRw x.fst) = rem left (bulkC c))) :
    PureFn Tryz.prog 198 [.agg c.ts, .int .i64 left] (.int .i64 (rem left (bulkC c))) :=
  fn_vc mixed (cons_ok szRw_ok nil_ok) (cons_call call_szRw nil_call) Tryz.func198 (by kernel_rfl) (leB (by kernel_rfl)) noAnn (Eq.mp (β := vcFn Tryz.prog [(267, k_szRw)] Tryz.f198.ntmps Tryz.f198.results.toList b_szChg [.agg c.ts, .int .i64 left] (.int .i64 (rem left (bulkC c))) noAnn) (by kernel_rfl) h)
theorem szChg_ok : ConOk Tryz.prog 198 k_szChg := by
  rintro ⟨c, left⟩ ⟨hl, h1⟩
  exact v_szChg c left ⟨(c.row, left), ⟨⟨⟨rfl, rfl, rfl, rfl, rfl, rfl, rfl, trivial⟩, rfl, trivial⟩, hl, h1⟩, fun h => (rem_neg (of_decide_eq_true h) (Nat.le_refl _)).symm, fun _ => rfl⟩
noncomputable def b_toChg : Code := Tryz.f200.body.getD .skip
theorem call_toChg : Callable Tryz.prog 200 := ⟨_, Tryz.func200, by kernel_rfl, by kernel_rfl⟩
set_option maxRecDepth 100000 in
theorem v_toChg (c : Chg) (h :
    ∃ (x : Rw), (((c.row.id = x.id ∧ c.row.n.k = x.n.k ∧ c.row.n.n = x.n.n ∧ c.row.n.t = x.n.t ∧ c.row.name.k = x.name.k ∧ c.row.name.n = x.name.n ∧ c.row.name.t = x.name.t ∧ True) ∧ True) ∧ True) ∧ c.se = c.se ∧ c.ta = c.ta ∧ x.id =
    c.row.id ∧ x.n.k = c.row.n.k ∧ x.n.n = c.row.n.n ∧ x.n.t = c.row.n.t ∧ x.name.k = c.row.name.k ∧ x.name.n = c.row.name.n ∧ x.name.t = c.row.name.t ∧ c.gone = c.gone ∧ True) :
    PureFn Tryz.prog 200 [.agg c.ts] (.agg c.ts) :=
  fn_vc mixed (cons_ok toRw_ok nil_ok) (cons_call call_toRw nil_call) Tryz.func200 (by kernel_rfl) (leB (by kernel_rfl)) noAnn (Eq.mp (β := vcFn Tryz.prog [(269, k_toRw)] Tryz.f200.ntmps Tryz.f200.results.toList b_toChg [.agg c.ts] (.agg c.ts) noAnn) (by kernel_rfl) h)
theorem toChg_ok : ConOk Tryz.prog 200 k_toChg := fun (c : Chg) _ => v_toChg c ⟨c.row, ⟨⟨⟨rfl, rfl, rfl, rfl, rfl, rfl, rfl, trivial⟩, trivial⟩, trivial⟩, rfl, rfl, rfl, rfl, rfl, rfl, rfl, rfl, rfl, rfl, trivial⟩
noncomputable def b_eqChg : Code := Tryz.f205.body.getD .skip
theorem call_eqChg : Callable Tryz.prog 205 := ⟨_, Tryz.func205, by kernel_rfl, by kernel_rfl⟩
set_option maxRecDepth 100000 in
theorem v_eqChg (c : Chg) (h :
    ((c.se != c.se) = true → false = true) ∧ ((c.se != c.se) = false → ((c.ta != c.ta) = true → false = true) ∧ ((c.ta != c.ta) = false → ∃ (x : Rw), (((c.row.id = x.id ∧ c.row.n.k = x.n.k ∧ c.row.n.n = x.n.n ∧ c.row.n.t = x.n.t ∧
    c.row.name.k = x.name.k ∧ c.row.name.n = x.name.n ∧ c.row.name.t = x.name.t ∧ True) ∧ (c.row.id = x.id ∧ c.row.n.k = x.n.k ∧ c.row.n.n = x.n.n ∧ c.row.n.t = x.n.t ∧ c.row.name.k = x.name.k ∧ c.row.name.n = x.name.n ∧ c.row.name.t
    = x.name.t ∧ True) ∧ True) ∧ True) ∧ (false = true → false = true) ∧ (false = false → ((!c.gone == c.gone) = true → false = true) ∧ ((!c.gone == c.gone) = false → true = true))))) :
    PureFn Tryz.prog 205 [.agg c.ts, .agg c.ts] (.bool true) :=
  fn_vc mixed (cons_ok eqRw_ok nil_ok) (cons_call call_eqRw nil_call) Tryz.func205 (by kernel_rfl) (leB (by kernel_rfl)) noAnn (Eq.mp (β := vcFn Tryz.prog [(274, k_eqRw)] Tryz.f205.ntmps Tryz.f205.results.toList b_eqChg [.agg c.ts, .agg c.ts] (.bool true) noAnn) (by kernel_rfl) h)
theorem eqChg_ok : ConOk Tryz.prog 205 k_eqChg := fun (c : Chg) _ => v_eqChg c ⟨fun h => by simp at h, fun _ => ⟨fun h => by simp at h, fun _ => ⟨c.row, ⟨⟨⟨rfl, rfl, rfl, rfl, rfl, rfl, rfl, trivial⟩, ⟨rfl, rfl, rfl, rfl, rfl, rfl, rfl, trivial⟩, trivial⟩, trivial⟩, fun h => h, fun _ => ⟨fun h => by simp at h, fun _ => rfl⟩⟩⟩⟩
def r_szChgS : Rl := ⟨List Chg × Int, fun x => [chgS x.1, .int .i64 x.2], fun x => .int .i64 (rem x.2 (bulkL bulkC x.1)), fun x => Left x.2 ∧ Lim x.1.length ∧ ∀ i, i < x.1.length → LmC (x.1.getD i default)⟩
def k_szChgS : Con := .rel r_szChgS
def A_szChgS (L : List Chg) (left : Int) : Nat → Ann
  | 0 => .one {i : Nat // i ≤ L.length ∧ (bulkTo bulkC L L.length i : Int) ≤ left} (fun x => ⟨[(0, chgS L), (1, .int .i64 (left - bulkTo bulkC L L.length x.1)), (5, .int .i64 x.1)], []⟩) (fun x => L.length - x.1) [] [] (fun _ => noAnn)
  | _ => .none
noncomputable def b_szChgS : Code := Tryz.f118.body.getD .skip
theorem call_szChgS : Callable Tryz.prog 118 := ⟨_, Tryz.func118, by kernel_rfl, by kernel_rfl⟩
set_option maxRecDepth 100000 in
theorem v_szChgS (L : List Chg) (left : Int) (h :
    Rng .i64 (left - (L.length:Int)) ∧ (decide (left - (L.length:Int) < (0 : Int)) = true → (-1 : Int) = rem left (bulkL bulkC L)) ∧ (decide (left - (L.length:Int) < (0 : Int)) = false → (∃ (x : { i : Nat // i ≤ L.length ∧ (↑(bulkTo
    bulkC L L.length i) : Int) ≤ left }), ((L.length = L.length ∧ RowsEq L.length (chgRow L) (chgRow L)) ∧ left - (L.length:Int) = left - (↑(bulkTo bulkC L L.length x.val) : Int) ∧ (0 : Int) = (x.val:Int) ∧ True) ∧ True) ∧ ∀ (x : { i
    : Nat // i ≤ L.length ∧ (↑(bulkTo bulkC L L.length i) : Int) ≤ left }), (decide ((x.val:Int) < (L.length:Int)) = true → InB (x.val:Int) L.length ∧ ∃ (x_1 : r_szChg.ι), ((((L.getD (x.val:Int).toNat default).se = x_1.fst.se ∧
    (L.getD (x.val:Int).toNat default).ta = x_1.fst.ta ∧ (L.getD (x.val:Int).toNat default).row.id = x_1.fst.row.id ∧ (L.getD (x.val:Int).toNat default).row.n.k = x_1.fst.row.n.k ∧ (L.getD (x.val:Int).toNat default).row.n.n =
    x_1.fst.row.n.n ∧ (L.getD (x.val:Int).toNat default).row.n.t = x_1.fst.row.n.t ∧ (L.getD (x.val:Int).toNat default).row.name.k = x_1.fst.row.name.k ∧ (L.getD (x.val:Int).toNat default).row.name.n = x_1.fst.row.name.n ∧ (L.getD
    (x.val:Int).toNat default).row.name.t = x_1.fst.row.name.t ∧ (L.getD (x.val:Int).toNat default).gone = x_1.fst.gone ∧ True) ∧ left - (↑(bulkTo bulkC L L.length x.val) : Int) = x_1.snd ∧ True) ∧ Left x_1.snd ∧ LmC x_1.fst) ∧
    (decide (rem x_1.snd (bulkC x_1.fst) < (0 : Int)) = true → (-1 : Int) = rem left (bulkL bulkC L)) ∧ (decide (rem x_1.snd (bulkC x_1.fst) < (0 : Int)) = false → Rng .i64 ((x.val:Int) + (1 : Int)) ∧ ∃ (y : { i : Nat // i ≤ L.length
    ∧ (↑(bulkTo bulkC L L.length i) : Int) ≤ left }), (((L.length = L.length ∧ RowsEq L.length (chgRow L) (chgRow L)) ∧ rem x_1.snd (bulkC x_1.fst) = left - (↑(bulkTo bulkC L L.length y.val) : Int) ∧ (x.val:Int) + (1 : Int) =
    (y.val:Int) ∧ True) ∧ True) ∧ Lt (L.length - y.val) (L.length - x.val))) ∧ (decide ((x.val:Int) < (L.length:Int)) = false → left - (↑(bulkTo bulkC L L.length x.val) : Int) = rem left (bulkL bulkC L)))) :
    PureFn Tryz.prog 118 [chgS L, .int .i64 left] (.int .i64 (rem left (bulkL bulkC L))) :=
  fn_vc mixed (cons_ok szChg_ok nil_ok) (cons_call call_szChg nil_call) Tryz.func118 (by kernel_rfl) (leB (by kernel_rfl)) (A_szChgS L left) (Eq.mp (β := vcFn Tryz.prog [(198, k_szChg)] Tryz.f118.ntmps Tryz.f118.results.toList b_szChgS [chgS L, .int .i64 left] (.int .i64 (rem left (bulkL bulkC L))) (A_szChgS L left)) (by kernel_rfl) h)
theorem szChgS_ok : ConOk Tryz.prog 118 k_szChgS := by
  rintro ⟨L, left⟩ ⟨⟨h0, h1⟩, hn, hb⟩
  have hn : L.length ≤ 9223372036854775807 := hn
  simp only at h0 h1 hb
  have hm : ∀ i, i ≤ L.length → bulkTo bulkC L L.length i ≤ bulkL bulkC L := fun i hi => bulkTo_mono _ _ _ hi
  have hz : bulkTo bulkC L L.length 0 = L.length := rfl
  refine v_szChgS L left ?_
  simp only [rng_i64, decide_eq_true_eq, decide_eq_false_iff_not]
  refine ⟨by omega, fun h => (rem_lt (by have := hm 0 (Nat.zero_le _); omega)).symm, fun h => ⟨⟨⟨0, Nat.zero_le _, by omega⟩, ⟨⟨(by trivial), rowsR _ _⟩, by simp only [hz], rfl, trivial⟩, trivial⟩, fun x => ⟨fun hc => ?_, fun hc => ?_⟩⟩⟩
  · have hlt : x.val < L.length := by omega
    have hx := x.2
    have hs := bulkTo_succ bulkC L L.length default hlt
    have hle := hm (x.val + 1) hlt
    have hbr := hb _ hlt
    refine ⟨inB_nat hlt, (L.getD x.val default, left - (bulkTo bulkC L L.length x.val : Int)), ⟨⟨⟨rfl, rfl, rfl, rfl, rfl, rfl, rfl, rfl, rfl, rfl, trivial⟩, rfl, trivial⟩, ⟨by simp only; omega, by simp only; omega⟩, hbr⟩, fun hr => ?_, fun hr => ⟨by omega, ⟨x.val + 1, hlt, ?_⟩, ⟨⟨⟨(by trivial), rowsR _ _⟩, ?_, by simp only; omega, trivial⟩, trivial⟩, Cnt.ext_lt hlt⟩⟩
    · simp only at hr
      by_cases hq : (bulkC (L.getD x.val default) : Int) ≤ left - (bulkTo bulkC L L.length x.val : Int)
      · rw [rem_ge hq] at hr
        omega
      · exact (rem_lt (by omega)).symm
    · simp only at hr
      by_cases hq : (bulkC (L.getD x.val default) : Int) ≤ left - (bulkTo bulkC L L.length x.val : Int)
      · omega
      · rw [rem_lt (by omega)] at hr
        omega
    · simp only at hr ⊢
      by_cases hq : (bulkC (L.getD x.val default) : Int) ≤ left - (bulkTo bulkC L L.length x.val : Int)
      · rw [rem_ge hq]
        omega
      · rw [rem_lt (by omega)] at hr
        omega
  · have hx := x.2
    have he : x.val = L.length := by omega
    rw [he] at hx ⊢
    exact (rem_ge hx.2).symm
def r_toChgS : Rl := ⟨List Chg, fun L => [chgS L], fun L => chgS L, fun L => L.length ≤ 1048576 ∧ ∀ i, i < L.length → SmC (L.getD i default)⟩
def k_toChgS : Con := .rel r_toChgS
def A_toChgS (L : List Chg) : Nat → Ann
  | 0 => .one {i : Nat // i ≤ L.length} (fun x => ⟨[(0, chgS L), (3, .osl 0 0 L.length), (4, .int .i64 x.1)], [some (.arr true 0 10 L.length (upT (chgRow L) [.int .i64 0, .int .i64 0, .int .i64 0, .int .i64 0, .int .i64 0, .str [], .int .i64 0, .int .i64 0, .str [], .bool false] x.1))]⟩) (fun x => L.length - x.1) [.arr 0] [.arr 0] (fun _ => noAnn)
  | _ => .none
noncomputable def b_toChgS : Code := Tryz.f122.body.getD .skip
theorem call_toChgS : Callable Tryz.prog 122 := ⟨_, Tryz.func122, by kernel_rfl, by kernel_rfl⟩
set_option maxRecDepth 100000 in
theorem v_toChgS (L : List Chg) (h :
    (Nn (L.length:Int) ∧ LeI (L.length:Int) (L.length:Int) ∧ sizeB (96 : Nat) (L.length:Int).toNat (140737488355328 : Nat) ∧ Lt (L.length:Int).toNat (9223372036854775808 : Nat)) ∧ (∃ (x : { i : Nat // i ≤ L.length }), ((L.length =
    L.length ∧ RowsEq L.length (chgRow L) (chgRow L)) ∧ (0 = 0 ∧ (L.length:Int).toNat = L.length) ∧ (0 : Int) = (x.val:Int) ∧ True) ∧ ((L.length:Int).toNat = L.length ∧ RowsEq (L.length:Int).toNat (fun (x : Nat) => [T.int .i64 (0 :
    Int), T.int .i64 (0 : Int), T.int .i64 (0 : Int), T.int .i64 (0 : Int), T.int .i64 (0 : Int), T.str [], T.int .i64 (0 : Int), T.int .i64 (0 : Int), T.str [], T.bool false]) (upT (chgRow L) [T.int .i64 (0 : Int), T.int .i64 (0 :
    Int), T.int .i64 (0 : Int), T.int .i64 (0 : Int), T.int .i64 (0 : Int), T.str [], T.int .i64 (0 : Int), T.int .i64 (0 : Int), T.str [], T.bool false] x.val)) ∧ True) ∧ ∀ (x : { i : Nat // i ≤ L.length }), (decide ((x.val:Int) <
    (L.length:Int)) = true → InB (x.val:Int) L.length ∧ ∃ (x_1 : r_toChg.ι), ((((L.getD (x.val:Int).toNat default).se = x_1.se ∧ (L.getD (x.val:Int).toNat default).ta = x_1.ta ∧ (L.getD (x.val:Int).toNat default).row.id = x_1.row.id ∧
    (L.getD (x.val:Int).toNat default).row.n.k = x_1.row.n.k ∧ (L.getD (x.val:Int).toNat default).row.n.n = x_1.row.n.n ∧ (L.getD (x.val:Int).toNat default).row.n.t = x_1.row.n.t ∧ (L.getD (x.val:Int).toNat default).row.name.k =
    x_1.row.name.k ∧ (L.getD (x.val:Int).toNat default).row.name.n = x_1.row.name.n ∧ (L.getD (x.val:Int).toNat default).row.name.t = x_1.row.name.t ∧ (L.getD (x.val:Int).toNat default).gone = x_1.gone ∧ True) ∧ True) ∧ SmC x_1) ∧ InB
    (x.val:Int) L.length ∧ Lt ((0 : Nat) + (x.val:Int).toNat) L.length ∧ Rng .i64 ((x.val:Int) + (1 : Int)) ∧ ∃ (y : { i : Nat // i ≤ L.length }), (((L.length = L.length ∧ RowsEq L.length (chgRow L) (chgRow L)) ∧ (0 = 0 ∧ L.length =
    L.length) ∧ (x.val:Int) + (1 : Int) = (y.val:Int) ∧ True) ∧ (L.length = L.length ∧ RowsEq L.length (setRow (upT (chgRow L) [T.int .i64 (0 : Int), T.int .i64 (0 : Int), T.int .i64 (0 : Int), T.int .i64 (0 : Int), T.int .i64 (0 :
    Int), T.str [], T.int .i64 (0 : Int), T.int .i64 (0 : Int), T.str [], T.bool false] x.val) ((0 : Nat) + (x.val:Int).toNat) (0 : Nat) [T.int .i64 x_1.se, T.int .i64 x_1.ta, T.int .i64 x_1.row.id, T.int .i64 x_1.row.n.k, T.int .i64
    x_1.row.n.n, T.str x_1.row.n.t, T.int .i64 x_1.row.name.k, T.int .i64 x_1.row.name.n, T.str x_1.row.name.t, T.bool x_1.gone]) (upT (chgRow L) [T.int .i64 (0 : Int), T.int .i64 (0 : Int), T.int .i64 (0 : Int), T.int .i64 (0 : Int),
    T.int .i64 (0 : Int), T.str [], T.int .i64 (0 : Int), T.int .i64 (0 : Int), T.str [], T.bool false] y.val)) ∧ True) ∧ Lt (L.length - y.val) (L.length - x.val)) ∧ (decide ((x.val:Int) < (L.length:Int)) = false → Le ((0 : Nat) +
    L.length) L.length ∧ L.length = L.length ∧ RowsEq L.length (upT (chgRow L) [T.int .i64 (0 : Int), T.int .i64 (0 : Int), T.int .i64 (0 : Int), T.int .i64 (0 : Int), T.int .i64 (0 : Int), T.str [], T.int .i64 (0 : Int), T.int .i64
    (0 : Int), T.str [], T.bool false] x.val) (chgRow L))) :
    PureFn Tryz.prog 122 [chgS L] (chgS L) :=
  fn_vc mixed (cons_ok toChg_ok nil_ok) (cons_call call_toChg nil_call) Tryz.func122 (by kernel_rfl) (leB (by kernel_rfl)) (A_toChgS L) (Eq.mp (β := vcFn Tryz.prog [(200, k_toChg)] Tryz.f122.ntmps Tryz.f122.results.toList b_toChgS [chgS L] (chgS L) (A_toChgS L)) (by kernel_rfl) h)
theorem toChgS_ok : ConOk Tryz.prog 122 k_toChgS := by
  rintro (L : List Chg) ⟨hL, hb⟩
  refine v_toChgS L ⟨⟨by unfold Nn; omega, by unfold LeI; omega, by unfold sizeB; omega, by unfold Lt; omega⟩, ⟨⟨0, Nat.zero_le _⟩, ⟨⟨(by trivial), rowsR _ _⟩, ⟨(by trivial), by omega⟩, rfl, trivial⟩, ⟨by omega, upT_zero⟩, trivial⟩, fun x => ⟨fun hc => ?_, fun hc => ?_⟩⟩
  · have hlt := lt_of_dec hc
    refine ⟨inB_nat hlt, L.getD x.val default, ⟨⟨⟨rfl, rfl, rfl, rfl, rfl, rfl, rfl, rfl, rfl, rfl, trivial⟩, trivial⟩, hb _ hlt⟩, inB_nat hlt, by unfold Lt; omega, add_rng hlt (by omega), ⟨x.val + 1, hlt⟩, ⟨⟨⟨(by trivial), rowsR _ _⟩, ⟨(by trivial), (by trivial)⟩, by simp only; omega, trivial⟩, ⟨(by trivial), fun j hj => ?_⟩, trivial⟩, Cnt.ext_lt hlt⟩
    exact upT_rows (m := 10) (fun _ => rfl) rfl x.val rfl j
  · have hx : x.val = L.length := by have := x.2; have := le_of_not hc; omega
    rw [hx]
    exact ⟨by unfold Le; omega, by omega, fun i hi => upT_end (n := L.length) i (by omega)⟩
def r_eqChgS : Rl := ⟨List Chg, fun L => [chgS L, chgS L], fun _ => .bool true, fun L => L.length ≤ 1048576 ∧ ∀ i, i < L.length → SmC (L.getD i default)⟩
def k_eqChgS : Con := .rel r_eqChgS
def A_eqChgS (L : List Chg) : Nat → Ann
  | 0 => .one {i : Nat // i ≤ L.length} (fun x => ⟨[(0, chgS L), (1, chgS L), (5, .int .i64 x.1)], []⟩) (fun x => L.length - x.1) [] [] (fun _ => noAnn)
  | _ => .none
noncomputable def b_eqChgS : Code := Tryz.f126.body.getD .skip
theorem call_eqChgS : Callable Tryz.prog 126 := ⟨_, Tryz.func126, by kernel_rfl, by kernel_rfl⟩
set_option maxRecDepth 100000 in
theorem v_eqChgS (L : List Chg) (h :
    (((L.length:Int) != (L.length:Int)) = true → false = true) ∧ (((L.length:Int) != (L.length:Int)) = false → (∃ (x : { i : Nat // i ≤ L.length }), ((L.length = L.length ∧ RowsEq L.length (chgRow L) (chgRow L)) ∧ (L.length = L.length
    ∧ RowsEq L.length (chgRow L) (chgRow L)) ∧ (0 : Int) = (x.val:Int) ∧ True) ∧ True) ∧ ∀ (x : { i : Nat // i ≤ L.length }), (decide ((x.val:Int) < (L.length:Int)) = true → InB (x.val:Int) L.length ∧ InB (x.val:Int) L.length ∧ ∃ (x_1
    : r_eqChg.ι), ((((L.getD (x.val:Int).toNat default).se = x_1.se ∧ (L.getD (x.val:Int).toNat default).ta = x_1.ta ∧ (L.getD (x.val:Int).toNat default).row.id = x_1.row.id ∧ (L.getD (x.val:Int).toNat default).row.n.k = x_1.row.n.k ∧
    (L.getD (x.val:Int).toNat default).row.n.n = x_1.row.n.n ∧ (L.getD (x.val:Int).toNat default).row.n.t = x_1.row.n.t ∧ (L.getD (x.val:Int).toNat default).row.name.k = x_1.row.name.k ∧ (L.getD (x.val:Int).toNat default).row.name.n =
    x_1.row.name.n ∧ (L.getD (x.val:Int).toNat default).row.name.t = x_1.row.name.t ∧ (L.getD (x.val:Int).toNat default).gone = x_1.gone ∧ True) ∧ ((L.getD (x.val:Int).toNat default).se = x_1.se ∧ (L.getD (x.val:Int).toNat default).ta
    = x_1.ta ∧ (L.getD (x.val:Int).toNat default).row.id = x_1.row.id ∧ (L.getD (x.val:Int).toNat default).row.n.k = x_1.row.n.k ∧ (L.getD (x.val:Int).toNat default).row.n.n = x_1.row.n.n ∧ (L.getD (x.val:Int).toNat default).row.n.t =
    x_1.row.n.t ∧ (L.getD (x.val:Int).toNat default).row.name.k = x_1.row.name.k ∧ (L.getD (x.val:Int).toNat default).row.name.n = x_1.row.name.n ∧ (L.getD (x.val:Int).toNat default).row.name.t = x_1.row.name.t ∧ (L.getD
    (x.val:Int).toNat default).gone = x_1.gone ∧ True) ∧ True) ∧ SmC x_1) ∧ (false = true → false = true) ∧ (false = false → Rng .i64 ((x.val:Int) + (1 : Int)) ∧ ∃ (y : { i : Nat // i ≤ L.length }), (((L.length = L.length ∧ RowsEq
    L.length (chgRow L) (chgRow L)) ∧ (L.length = L.length ∧ RowsEq L.length (chgRow L) (chgRow L)) ∧ (x.val:Int) + (1 : Int) = (y.val:Int) ∧ True) ∧ True) ∧ Lt (L.length - y.val) (L.length - x.val))) ∧ (decide ((x.val:Int) <
    (L.length:Int)) = false → true = true))) :
    PureFn Tryz.prog 126 [chgS L, chgS L] (.bool true) :=
  fn_vc mixed (cons_ok eqChg_ok nil_ok) (cons_call call_eqChg nil_call) Tryz.func126 (by kernel_rfl) (leB (by kernel_rfl)) (A_eqChgS L) (Eq.mp (β := vcFn Tryz.prog [(205, k_eqChg)] Tryz.f126.ntmps Tryz.f126.results.toList b_eqChgS [chgS L, chgS L] (.bool true) (A_eqChgS L)) (by kernel_rfl) h)
theorem eqChgS_ok : ConOk Tryz.prog 126 k_eqChgS := by
  rintro (L : List Chg) ⟨hL, hb⟩
  refine v_eqChgS L ⟨fun h => by simp at h, fun _ => ⟨⟨⟨0, Nat.zero_le _⟩, ⟨⟨(by trivial), rowsR _ _⟩, ⟨(by trivial), rowsR _ _⟩, rfl, trivial⟩, trivial⟩, fun x => ⟨fun hc => ?_, fun _ => rfl⟩⟩⟩
  have hlt := lt_of_dec hc
  exact ⟨inB_nat hlt, inB_nat hlt, L.getD x.val default, ⟨⟨⟨rfl, rfl, rfl, rfl, rfl, rfl, rfl, rfl, rfl, rfl, trivial⟩, ⟨rfl, rfl, rfl, rfl, rfl, rfl, rfl, rfl, rfl, rfl, trivial⟩, trivial⟩, hb _ hlt⟩, fun h => h, fun _ => ⟨add_rng hlt (by omega), ⟨x.val + 1, hlt⟩, ⟨⟨⟨(by trivial), rowsR _ _⟩, ⟨(by trivial), rowsR _ _⟩, by simp only; omega, trivial⟩, trivial⟩, Cnt.ext_lt hlt⟩⟩
-- locks, engines, worlds
def bulkLks (s : Lks) : Nat := s.held.length + s.waits.length
def LmLks (s : Lks) : Prop := Lim s.held.length ∧ Lim s.waits.length
def SmLks (s : Lks) : Prop := s.held.length ≤ 1048576 ∧ s.waits.length ≤ 1048576
def k_szLks : Con := .rel ⟨Lks × Int, fun x => [.agg x.1.ts, .int .i64 x.2], fun x => .int .i64 (rem x.2 (bulkLks x.1)), fun x => Left x.2 ∧ LmLks x.1⟩
noncomputable def b_szLks : Code := Tryz.f107.body.getD .skip
theorem call_szLks : Callable Tryz.prog 107 := ⟨_, Tryz.func107, by kernel_rfl, by kernel_rfl⟩
set_option maxRecDepth 100000 in
theorem v_szLks (s : Lks) (left : Int) (h :
    ∃ (x : r_szLckS.ι), (((s.held.length = x.fst.length ∧ RowsEq s.held.length (lckRow s.held) (lckRow x.fst)) ∧ left = x.snd ∧ True) ∧ Left x.snd ∧ Lim x.fst.length) ∧ (decide (rem x.snd x.fst.length < (0 : Int)) = true → (-1 : Int)
    = rem left (bulkLks s)) ∧ (decide (rem x.snd x.fst.length < (0 : Int)) = false → ∃ (x_1 : r_szWtS.ι), (((s.waits.length = x_1.fst.length ∧ RowsEq s.waits.length (wtRow s.waits) (wtRow x_1.fst)) ∧ rem x.snd x.fst.length = x_1.snd ∧
    True) ∧ Left x_1.snd ∧ Lim x_1.fst.length) ∧ (decide (rem x_1.snd x_1.fst.length < (0 : Int)) = true → (-1 : Int) = rem left (bulkLks s)) ∧ (decide (rem x_1.snd x_1.fst.length < (0 : Int)) = false → rem x_1.snd x_1.fst.length =
    rem left (bulkLks s)))) :
    PureFn Tryz.prog 107 [.agg s.ts, .int .i64 left] (.int .i64 (rem left (bulkLks s))) :=
  fn_vc mixed (cons_ok szLckS_ok (cons_ok szWtS_ok nil_ok)) (cons_call call_szLckS (cons_call call_szWtS nil_call)) Tryz.func107 (by kernel_rfl) (leB (by kernel_rfl)) noAnn (Eq.mp (β := vcFn Tryz.prog [(182, k_szLckS), (183, k_szWtS)] Tryz.f107.ntmps Tryz.f107.results.toList b_szLks [.agg s.ts, .int .i64 left] (.int .i64 (rem left (bulkLks s))) noAnn) (by kernel_rfl) h)
theorem szLks_ok : ConOk Tryz.prog 107 k_szLks := by
  rintro ⟨s, left⟩ ⟨hl, h0, h1⟩
  simp only at hl h0 h1
  have e : bulkLks s = s.held.length + s.waits.length := rfl
  refine v_szLks s left ⟨(s.held, left), ⟨⟨⟨rfl, rowsR _ _⟩, rfl, trivial⟩, hl, h0⟩, fun h => (rem_neg (of_decide_eq_true h) (by (try dsimp only); omega)).symm, fun h => ?_⟩
  obtain ⟨q1, l1⟩ := rem_add (b := s.waits.length) (of_decide_eq_false h) hl rfl
  refine ⟨(s.waits, rem left (s.held.length)), ⟨⟨⟨rfl, rowsR _ _⟩, rfl, trivial⟩, l1, h1⟩, fun g => ?_, fun g => ?_⟩
  · simp only at g
    rw [q1] at g
    exact (rem_neg (of_decide_eq_true g) (by (try dsimp only); omega)).symm
  exact q1
def k_toLks : Con := .rel ⟨Lks, fun s => [.agg s.ts], fun s => .agg s.ts, SmLks⟩
noncomputable def b_toLks : Code := Tryz.f111.body.getD .skip
theorem call_toLks : Callable Tryz.prog 111 := ⟨_, Tryz.func111, by kernel_rfl, by kernel_rfl⟩
set_option maxRecDepth 100000 in
theorem v_toLks (s : Lks) (h :
    ∃ (x : r_toLckS.ι), (((s.held.length = List.length x ∧ RowsEq s.held.length (lckRow s.held) (lckRow x)) ∧ True) ∧ List.length x ≤ (1048576 : Nat)) ∧ ∃ (x_1 : r_toWtS.ι), (((s.waits.length = List.length x_1 ∧ RowsEq s.waits.length
    (wtRow s.waits) (wtRow x_1)) ∧ True) ∧ List.length x_1 ≤ (1048576 : Nat)) ∧ (List.length x = s.held.length ∧ RowsEq (List.length x) (lckRow x) (lckRow s.held)) ∧ (List.length x_1 = s.waits.length ∧ RowsEq (List.length x_1) (wtRow
    x_1) (wtRow s.waits)) ∧ True) :
    PureFn Tryz.prog 111 [.agg s.ts] (.agg s.ts) :=
  fn_vc mixed (cons_ok toLckS_ok (cons_ok toWtS_ok nil_ok)) (cons_call call_toLckS (cons_call call_toWtS nil_call)) Tryz.func111 (by kernel_rfl) (leB (by kernel_rfl)) noAnn (Eq.mp (β := vcFn Tryz.prog [(189, k_toLckS), (190, k_toWtS)] Tryz.f111.ntmps Tryz.f111.results.toList b_toLks [.agg s.ts] (.agg s.ts) noAnn) (by kernel_rfl) h)
theorem toLks_ok : ConOk Tryz.prog 111 k_toLks := by
  rintro (s : Lks) ⟨h0, h1⟩
  exact v_toLks s ⟨s.held, ⟨⟨⟨rfl, rowsR _ _⟩, trivial⟩, h0⟩, s.waits, ⟨⟨⟨rfl, rowsR _ _⟩, trivial⟩, h1⟩, ⟨rfl, rowsR _ _⟩, ⟨rfl, rowsR _ _⟩, trivial⟩
def k_eqLks : Con := .rel ⟨Lks, fun s => [.agg s.ts, .agg s.ts], fun _ => .bool true, SmLks⟩
noncomputable def b_eqLks : Code := Tryz.f116.body.getD .skip
theorem call_eqLks : Callable Tryz.prog 116 := ⟨_, Tryz.func116, by kernel_rfl, by kernel_rfl⟩
set_option maxRecDepth 100000 in
theorem v_eqLks (s : Lks) (h :
    ∃ (x : r_eqLckS.ι), (((s.held.length = List.length x ∧ RowsEq s.held.length (lckRow s.held) (lckRow x)) ∧ (s.held.length = List.length x ∧ RowsEq s.held.length (lckRow s.held) (lckRow x)) ∧ True) ∧ List.length x ≤ (1048576 : Nat))
    ∧ (false = true → false = true) ∧ (false = false → ∃ (x : r_eqWtS.ι), (((s.waits.length = List.length x ∧ RowsEq s.waits.length (wtRow s.waits) (wtRow x)) ∧ (s.waits.length = List.length x ∧ RowsEq s.waits.length (wtRow s.waits)
    (wtRow x)) ∧ True) ∧ List.length x ≤ (1048576 : Nat)) ∧ (false = true → false = true) ∧ (false = false → true = true))) :
    PureFn Tryz.prog 116 [.agg s.ts, .agg s.ts] (.bool true) :=
  fn_vc mixed (cons_ok eqLckS_ok (cons_ok eqWtS_ok nil_ok)) (cons_call call_eqLckS (cons_call call_eqWtS nil_call)) Tryz.func116 (by kernel_rfl) (leB (by kernel_rfl)) noAnn (Eq.mp (β := vcFn Tryz.prog [(196, k_eqLckS), (197, k_eqWtS)] Tryz.f116.ntmps Tryz.f116.results.toList b_eqLks [.agg s.ts, .agg s.ts] (.bool true) noAnn) (by kernel_rfl) h)
theorem eqLks_ok : ConOk Tryz.prog 116 k_eqLks := by
  rintro (s : Lks) ⟨h0, h1⟩
  exact v_eqLks s ⟨s.held, ⟨⟨⟨rfl, rowsR _ _⟩, ⟨rfl, rowsR _ _⟩, trivial⟩, h0⟩, fun h => h, fun _ => ⟨s.waits, ⟨⟨⟨rfl, rowsR _ _⟩, ⟨rfl, rowsR _ _⟩, trivial⟩, h1⟩, fun h => h, fun _ => rfl⟩⟩
def bulkEng (s : Eng) : Nat := bulkS s.s + s.txs.length + bulkLks s.lk
def LmEng (s : Eng) : Prop := LmS s.s ∧ Lim s.txs.length ∧ LmLks s.lk
def SmEng (s : Eng) : Prop := SmS s.s ∧ s.txs.length ≤ 1048576 ∧ SmLks s.lk
def k_szEng : Con := .rel ⟨Eng × Int, fun x => [.agg x.1.ts, .int .i64 x.2], fun x => .int .i64 (rem x.2 (bulkEng x.1)), fun x => Left x.2 ∧ LmEng x.1⟩
noncomputable def b_szEng : Code := Tryz.f45.body.getD .skip
theorem call_szEng : Callable Tryz.prog 45 := ⟨_, Tryz.func45, by kernel_rfl, by kernel_rfl⟩
set_option maxRecDepth 100000 in
theorem v_szEng (s : Eng) (left : Int) (h :
    ∃ (x : r_szSto.ι), (((EqS s.s x.fst) ∧ left = x.snd ∧ True) ∧ Left x.snd ∧ LmS x.fst) ∧ (decide (rem x.snd (bulkS x.fst) < (0 : Int)) = true → (-1 : Int) = rem left (bulkEng s)) ∧ (decide (rem x.snd (bulkS x.fst) < (0 : Int)) =
    false → ∃ (x_1 : r_szTxnS.ι), (((s.txs.length = x_1.fst.length ∧ RowsEq s.txs.length (txnRow s.txs) (txnRow x_1.fst)) ∧ rem x.snd (bulkS x.fst) = x_1.snd ∧ True) ∧ Left x_1.snd ∧ Lim x_1.fst.length) ∧ (decide (rem x_1.snd
    x_1.fst.length < (0 : Int)) = true → (-1 : Int) = rem left (bulkEng s)) ∧ (decide (rem x_1.snd x_1.fst.length < (0 : Int)) = false → ∃ (x : (Lks × Int)), ((((s.lk.held.length = x.fst.held.length ∧ RowsEq s.lk.held.length (lckRow
    s.lk.held) (lckRow x.fst.held)) ∧ (s.lk.waits.length = x.fst.waits.length ∧ RowsEq s.lk.waits.length (wtRow s.lk.waits) (wtRow x.fst.waits)) ∧ True) ∧ rem x_1.snd x_1.fst.length = x.snd ∧ True) ∧ Left x.snd ∧ LmLks x.fst) ∧
    (decide (rem x.snd (bulkLks x.fst) < (0 : Int)) = true → (-1 : Int) = rem left (bulkEng s)) ∧ (decide (rem x.snd (bulkLks x.fst) < (0 : Int)) = false → rem x.snd (bulkLks x.fst) = rem left (bulkEng s))))) :
    PureFn Tryz.prog 45 [.agg s.ts, .int .i64 left] (.int .i64 (rem left (bulkEng s))) :=
  fn_vc mixed (cons_ok szSto_ok (cons_ok szTxnS_ok (cons_ok szLks_ok nil_ok))) (cons_call call_szSto (cons_call call_szTxnS (cons_call call_szLks nil_call))) Tryz.func45 (by kernel_rfl) (leB (by kernel_rfl)) noAnn (Eq.mp (β := vcFn Tryz.prog [(22, k_szSto), (106, k_szTxnS), (107, k_szLks)] Tryz.f45.ntmps Tryz.f45.results.toList b_szEng [.agg s.ts, .int .i64 left] (.int .i64 (rem left (bulkEng s))) noAnn) (by kernel_rfl) h)
theorem szEng_ok : ConOk Tryz.prog 45 k_szEng := by
  rintro ⟨s, left⟩ ⟨hl, h0, h1, h2⟩
  simp only at hl h0 h1 h2
  have e : bulkEng s = bulkS s.s + s.txs.length + bulkLks s.lk := rfl
  refine v_szEng s left ⟨(s.s, left), ⟨⟨⟨⟨rfl, rowsR _ _⟩, ⟨rfl, rowsR _ _⟩, rfl, ⟨rfl, rowsR _ _⟩, rfl, ⟨rfl, rowsR _ _⟩, rfl, ⟨rfl, rowsR _ _⟩, rfl, trivial⟩, rfl, trivial⟩, hl, h0⟩, fun h => (rem_neg (of_decide_eq_true h) (by (try dsimp only); omega)).symm, fun h => ?_⟩
  obtain ⟨q1, l1⟩ := rem_add (b := s.txs.length) (of_decide_eq_false h) hl rfl
  refine ⟨(s.txs, rem left (bulkS s.s)), ⟨⟨⟨rfl, rowsR _ _⟩, rfl, trivial⟩, l1, h1⟩, fun g => ?_, fun g => ?_⟩
  · simp only at g
    rw [q1] at g
    exact (rem_neg (of_decide_eq_true g) (by (try dsimp only); omega)).symm
  simp only at g ⊢
  rw [q1] at g ⊢
  obtain ⟨q2, l2⟩ := rem_add (b := bulkLks s.lk) (of_decide_eq_false g) hl rfl
  refine ⟨(s.lk, rem left (bulkS s.s + s.txs.length)), ⟨⟨⟨⟨rfl, rowsR _ _⟩, ⟨rfl, rowsR _ _⟩, trivial⟩, rfl, trivial⟩, l2, h2⟩, fun g => ?_, fun g => ?_⟩
  · simp only at g
    rw [q2] at g
    exact (rem_neg (of_decide_eq_true g) (by (try dsimp only); omega)).symm
  exact q2
def k_toEng : Con := .rel ⟨Eng, fun s => [.agg s.ts], fun s => .agg s.ts, SmEng⟩
noncomputable def b_toEng : Code := Tryz.f47.body.getD .skip
theorem call_toEng : Callable Tryz.prog 47 := ⟨_, Tryz.func47, by kernel_rfl, by kernel_rfl⟩
set_option maxRecDepth 100000 in
theorem v_toEng (s : Eng) (h :
    ∃ (x : r_toSto.ι), (((EqS s.s x) ∧ True) ∧ SmS x) ∧ ∃ (x_1 : r_toTxnS.ι), (((s.txs.length = List.length x_1 ∧ RowsEq s.txs.length (txnRow s.txs) (txnRow x_1)) ∧ True) ∧ List.length x_1 ≤ (1048576 : Nat)) ∧ ∃ (x_2 : Lks),
    ((((s.lk.held.length = x_2.held.length ∧ RowsEq s.lk.held.length (lckRow s.lk.held) (lckRow x_2.held)) ∧ (s.lk.waits.length = x_2.waits.length ∧ RowsEq s.lk.waits.length (wtRow s.lk.waits) (wtRow x_2.waits)) ∧ True) ∧ True) ∧
    SmLks x_2) ∧ (x.d.sec.length = s.s.d.sec.length ∧ RowsEq x.d.sec.length (strRow x.d.sec) (strRow s.s.d.sec)) ∧ (x.d.cache.length = s.s.d.cache.length ∧ RowsEq x.d.cache.length (pendRow x.d.cache) (pendRow s.s.d.cache)) ∧ x.d.armed
    = s.s.d.armed ∧ (x.d.keep.length = s.s.d.keep.length ∧ RowsEq x.d.keep.length (intRow x.d.keep) (intRow s.s.d.keep)) ∧ x.ep = s.s.ep ∧ (x.log.length = s.s.log.length ∧ RowsEq x.log.length (recRow x.log) (recRow s.s.log)) ∧ x.sure
    = s.s.sure ∧ (x.fr.length = s.s.fr.length ∧ RowsEq x.fr.length (frmRow x.fr) (frmRow s.s.fr)) ∧ x.hand = s.s.hand ∧ s.up = s.up ∧ (List.length x_1 = s.txs.length ∧ RowsEq (List.length x_1) (txnRow x_1) (txnRow s.txs)) ∧
    (x_2.held.length = s.lk.held.length ∧ RowsEq x_2.held.length (lckRow x_2.held) (lckRow s.lk.held)) ∧ (x_2.waits.length = s.lk.waits.length ∧ RowsEq x_2.waits.length (wtRow x_2.waits) (wtRow s.lk.waits)) ∧ s.next = s.next ∧ True) :
    PureFn Tryz.prog 47 [.agg s.ts] (.agg s.ts) :=
  fn_vc mixed (cons_ok toSto_ok (cons_ok toTxnS_ok (cons_ok toLks_ok nil_ok))) (cons_call call_toSto (cons_call call_toTxnS (cons_call call_toLks nil_call))) Tryz.func47 (by kernel_rfl) (leB (by kernel_rfl)) noAnn (Eq.mp (β := vcFn Tryz.prog [(25, k_toSto), (110, k_toTxnS), (111, k_toLks)] Tryz.f47.ntmps Tryz.f47.results.toList b_toEng [.agg s.ts] (.agg s.ts) noAnn) (by kernel_rfl) h)
theorem toEng_ok : ConOk Tryz.prog 47 k_toEng := by
  rintro (s : Eng) ⟨h0, h1, h2⟩
  exact v_toEng s ⟨s.s, ⟨⟨⟨⟨rfl, rowsR _ _⟩, ⟨rfl, rowsR _ _⟩, rfl, ⟨rfl, rowsR _ _⟩, rfl, ⟨rfl, rowsR _ _⟩, rfl, ⟨rfl, rowsR _ _⟩, rfl, trivial⟩, trivial⟩, h0⟩, s.txs, ⟨⟨⟨rfl, rowsR _ _⟩, trivial⟩, h1⟩, s.lk, ⟨⟨⟨⟨rfl, rowsR _ _⟩, ⟨rfl, rowsR _ _⟩, trivial⟩, trivial⟩, h2⟩, ⟨(by trivial), rowsR _ _⟩, ⟨(by trivial), rowsR _ _⟩, (by trivial), ⟨(by trivial), rowsR _ _⟩, (by trivial), ⟨(by trivial), rowsR _ _⟩, (by trivial), ⟨(by trivial), rowsR _ _⟩, (by trivial), (by trivial), ⟨(by trivial), rowsR _ _⟩, ⟨(by trivial), rowsR _ _⟩, ⟨(by trivial), rowsR _ _⟩, (by trivial), trivial⟩
def k_eqEng : Con := .rel ⟨Eng, fun s => [.agg s.ts, .agg s.ts], fun _ => .bool true, SmEng⟩
noncomputable def b_eqEng : Code := Tryz.f49.body.getD .skip
theorem call_eqEng : Callable Tryz.prog 49 := ⟨_, Tryz.func49, by kernel_rfl, by kernel_rfl⟩
set_option maxRecDepth 100000 in
theorem v_eqEng (s : Eng) (h :
    ∃ (x : r_eqSto.ι), (((EqS s.s x) ∧ (EqS s.s x) ∧ True) ∧ SmS x) ∧ (false = true → false = true) ∧ (false = false → ((!s.up == s.up) = true → false = true) ∧ ((!s.up == s.up) = false → ∃ (x : r_eqTxnS.ι), (((s.txs.length =
    List.length x ∧ RowsEq s.txs.length (txnRow s.txs) (txnRow x)) ∧ (s.txs.length = List.length x ∧ RowsEq s.txs.length (txnRow s.txs) (txnRow x)) ∧ True) ∧ List.length x ≤ (1048576 : Nat)) ∧ (false = true → false = true) ∧ (false =
    false → ∃ (x : Lks), ((((s.lk.held.length = x.held.length ∧ RowsEq s.lk.held.length (lckRow s.lk.held) (lckRow x.held)) ∧ (s.lk.waits.length = x.waits.length ∧ RowsEq s.lk.waits.length (wtRow s.lk.waits) (wtRow x.waits)) ∧ True) ∧
    ((s.lk.held.length = x.held.length ∧ RowsEq s.lk.held.length (lckRow s.lk.held) (lckRow x.held)) ∧ (s.lk.waits.length = x.waits.length ∧ RowsEq s.lk.waits.length (wtRow s.lk.waits) (wtRow x.waits)) ∧ True) ∧ True) ∧ SmLks x) ∧
    (false = true → false = true) ∧ (false = false → ((s.next != s.next) = true → false = true) ∧ ((s.next != s.next) = false → true = true)))))) :
    PureFn Tryz.prog 49 [.agg s.ts, .agg s.ts] (.bool true) :=
  fn_vc mixed (cons_ok eqSto_ok (cons_ok eqTxnS_ok (cons_ok eqLks_ok nil_ok))) (cons_call call_eqSto (cons_call call_eqTxnS (cons_call call_eqLks nil_call))) Tryz.func49 (by kernel_rfl) (leB (by kernel_rfl)) noAnn (Eq.mp (β := vcFn Tryz.prog [(28, k_eqSto), (115, k_eqTxnS), (116, k_eqLks)] Tryz.f49.ntmps Tryz.f49.results.toList b_eqEng [.agg s.ts, .agg s.ts] (.bool true) noAnn) (by kernel_rfl) h)
theorem eqEng_ok : ConOk Tryz.prog 49 k_eqEng := by
  rintro (s : Eng) ⟨h0, h1, h2⟩
  exact v_eqEng s ⟨s.s, ⟨⟨⟨⟨rfl, rowsR _ _⟩, ⟨rfl, rowsR _ _⟩, rfl, ⟨rfl, rowsR _ _⟩, rfl, ⟨rfl, rowsR _ _⟩, rfl, ⟨rfl, rowsR _ _⟩, rfl, trivial⟩, ⟨⟨rfl, rowsR _ _⟩, ⟨rfl, rowsR _ _⟩, rfl, ⟨rfl, rowsR _ _⟩, rfl, ⟨rfl, rowsR _ _⟩, rfl, ⟨rfl, rowsR _ _⟩, rfl, trivial⟩, trivial⟩, h0⟩, fun h => h, fun _ => ⟨fun h => by simp at h, fun _ => ⟨s.txs, ⟨⟨⟨rfl, rowsR _ _⟩, ⟨rfl, rowsR _ _⟩, trivial⟩, h1⟩, fun h => h, fun _ => ⟨s.lk, ⟨⟨⟨⟨rfl, rowsR _ _⟩, ⟨rfl, rowsR _ _⟩, trivial⟩, ⟨⟨rfl, rowsR _ _⟩, ⟨rfl, rowsR _ _⟩, trivial⟩, trivial⟩, h2⟩, fun h => h, fun _ => ⟨fun h => by simp at h, fun _ => rfl⟩⟩⟩⟩⟩
def bulkWrl (s : Wrl) : Nat := bulkEng s.e + s.ses.length + bulkL bulkC s.op + bulkL bulkC s.done + bulkL bulkC s.doubt
def LmWrl (s : Wrl) : Prop := LmEng s.e ∧ Lim s.ses.length ∧ LmL default LmC s.op ∧ LmL default LmC s.done ∧ LmL default LmC s.doubt
def SmWrl (s : Wrl) : Prop := SmEng s.e ∧ s.ses.length ≤ 1048576 ∧ (s.op.length ≤ 1048576 ∧ ∀ i, i < s.op.length → SmC (s.op.getD i default)) ∧ (s.done.length ≤ 1048576 ∧ ∀ i, i < s.done.length → SmC (s.done.getD i default)) ∧ (s.doubt.length ≤ 1048576 ∧ ∀ i, i < s.doubt.length → SmC (s.doubt.getD i default))
def k_szWrl : Con := .rel ⟨Wrl × Int, fun x => [.agg x.1.ts, .int .i64 x.2], fun x => .int .i64 (rem x.2 (bulkWrl x.1)), fun x => Left x.2 ∧ LmWrl x.1⟩
noncomputable def b_szWrl : Code := Tryz.f50.body.getD .skip
theorem call_szWrl : Callable Tryz.prog 50 := ⟨_, Tryz.func50, by kernel_rfl, by kernel_rfl⟩
set_option maxRecDepth 100000 in
theorem v_szWrl (s : Wrl) (left : Int) (h :
    ∃ (x : (Eng × Int)), (((EqG s.e x.fst) ∧ left = x.snd ∧ True) ∧ Left x.snd ∧ LmEng x.fst) ∧ (decide (rem x.snd (bulkEng x.fst) < (0 : Int)) = true → (-1 : Int) = rem left (bulkWrl s)) ∧ (decide (rem x.snd (bulkEng x.fst) < (0 :
    Int)) = false → ∃ (x_1 : r_szIntS.ι), (((s.ses.length = x_1.fst.length ∧ RowsEq s.ses.length (intRow s.ses) (intRow x_1.fst)) ∧ rem x.snd (bulkEng x.fst) = x_1.snd ∧ True) ∧ Left x_1.snd ∧ Lim x_1.fst.length) ∧ (decide (rem
    x_1.snd x_1.fst.length < (0 : Int)) = true → (-1 : Int) = rem left (bulkWrl s)) ∧ (decide (rem x_1.snd x_1.fst.length < (0 : Int)) = false → ∃ (x : r_szChgS.ι), (((s.op.length = x.fst.length ∧ RowsEq s.op.length (chgRow s.op)
    (chgRow x.fst)) ∧ rem x_1.snd x_1.fst.length = x.snd ∧ True) ∧ Left x.snd ∧ Lim x.fst.length ∧ ∀ (i : Nat), i < x.fst.length → LmC (x.fst.getD i default)) ∧ (decide (rem x.snd (bulkL bulkC x.fst) < (0 : Int)) = true → (-1 : Int) =
    rem left (bulkWrl s)) ∧ (decide (rem x.snd (bulkL bulkC x.fst) < (0 : Int)) = false → ∃ (x_2 : r_szChgS.ι), (((s.done.length = x_2.fst.length ∧ RowsEq s.done.length (chgRow s.done) (chgRow x_2.fst)) ∧ rem x.snd (bulkL bulkC x.fst)
    = x_2.snd ∧ True) ∧ Left x_2.snd ∧ Lim x_2.fst.length ∧ ∀ (i : Nat), i < x_2.fst.length → LmC (x_2.fst.getD i default)) ∧ (decide (rem x_2.snd (bulkL bulkC x_2.fst) < (0 : Int)) = true → (-1 : Int) = rem left (bulkWrl s)) ∧
    (decide (rem x_2.snd (bulkL bulkC x_2.fst) < (0 : Int)) = false → ∃ (x : r_szChgS.ι), (((s.doubt.length = x.fst.length ∧ RowsEq s.doubt.length (chgRow s.doubt) (chgRow x.fst)) ∧ rem x_2.snd (bulkL bulkC x_2.fst) = x.snd ∧ True) ∧
    Left x.snd ∧ Lim x.fst.length ∧ ∀ (i : Nat), i < x.fst.length → LmC (x.fst.getD i default)) ∧ (decide (rem x.snd (bulkL bulkC x.fst) < (0 : Int)) = true → (-1 : Int) = rem left (bulkWrl s)) ∧ (decide (rem x.snd (bulkL bulkC x.fst)
    < (0 : Int)) = false → rem x.snd (bulkL bulkC x.fst) = rem left (bulkWrl s))))))) :
    PureFn Tryz.prog 50 [.agg s.ts, .int .i64 left] (.int .i64 (rem left (bulkWrl s))) :=
  fn_vc mixed (cons_ok szEng_ok (cons_ok szIntS_ok (cons_ok szChgS_ok nil_ok))) (cons_call call_szEng (cons_call call_szIntS (cons_call call_szChgS nil_call))) Tryz.func50 (by kernel_rfl) (leB (by kernel_rfl)) noAnn (Eq.mp (β := vcFn Tryz.prog [(45, k_szEng), (117, k_szIntS), (118, k_szChgS)] Tryz.f50.ntmps Tryz.f50.results.toList b_szWrl [.agg s.ts, .int .i64 left] (.int .i64 (rem left (bulkWrl s))) noAnn) (by kernel_rfl) h)
theorem szWrl_ok : ConOk Tryz.prog 50 k_szWrl := by
  rintro ⟨s, left⟩ ⟨hl, h0, h1, h2, h3, h4⟩
  simp only at hl h0 h1 h2 h3 h4
  have e : bulkWrl s = bulkEng s.e + s.ses.length + bulkL bulkC s.op + bulkL bulkC s.done + bulkL bulkC s.doubt := rfl
  refine v_szWrl s left ⟨(s.e, left), ⟨⟨⟨⟨(by trivial), rowsR _ _⟩, ⟨(by trivial), rowsR _ _⟩, (by trivial), ⟨(by trivial), rowsR _ _⟩, (by trivial), ⟨(by trivial), rowsR _ _⟩, (by trivial), ⟨(by trivial), rowsR _ _⟩, (by trivial), (by trivial), ⟨(by trivial), rowsR _ _⟩, ⟨(by trivial), rowsR _ _⟩, ⟨(by trivial), rowsR _ _⟩, (by trivial), trivial⟩, rfl, trivial⟩, hl, h0⟩, fun h => (rem_neg (of_decide_eq_true h) (by (try dsimp only); omega)).symm, fun h => ?_⟩
  obtain ⟨q1, l1⟩ := rem_add (b := s.ses.length) (of_decide_eq_false h) hl rfl
  refine ⟨(s.ses, rem left (bulkEng s.e)), ⟨⟨⟨rfl, rowsR _ _⟩, rfl, trivial⟩, l1, h1⟩, fun g => ?_, fun g => ?_⟩
  · simp only at g
    rw [q1] at g
    exact (rem_neg (of_decide_eq_true g) (by (try dsimp only); omega)).symm
  simp only at g ⊢
  rw [q1] at g ⊢
  obtain ⟨q2, l2⟩ := rem_add (b := bulkL bulkC s.op) (of_decide_eq_false g) hl rfl
  refine ⟨(s.op, rem left (bulkEng s.e + s.ses.length)), ⟨⟨⟨rfl, rowsR _ _⟩, rfl, trivial⟩, l2, h2⟩, fun g => ?_, fun g => ?_⟩
  · simp only at g
    rw [q2] at g
    exact (rem_neg (of_decide_eq_true g) (by (try dsimp only); omega)).symm
  simp only at g ⊢
  rw [q2] at g ⊢
  obtain ⟨q3, l3⟩ := rem_add (b := bulkL bulkC s.done) (of_decide_eq_false g) hl rfl
  refine ⟨(s.done, rem left (bulkEng s.e + s.ses.length + bulkL bulkC s.op)), ⟨⟨⟨rfl, rowsR _ _⟩, rfl, trivial⟩, l3, h3⟩, fun g => ?_, fun g => ?_⟩
  · simp only at g
    rw [q3] at g
    exact (rem_neg (of_decide_eq_true g) (by (try dsimp only); omega)).symm
  simp only at g ⊢
  rw [q3] at g ⊢
  obtain ⟨q4, l4⟩ := rem_add (b := bulkL bulkC s.doubt) (of_decide_eq_false g) hl rfl
  refine ⟨(s.doubt, rem left (bulkEng s.e + s.ses.length + bulkL bulkC s.op + bulkL bulkC s.done)), ⟨⟨⟨rfl, rowsR _ _⟩, rfl, trivial⟩, l4, h4⟩, fun g => ?_, fun g => ?_⟩
  · simp only at g
    rw [q4] at g
    exact (rem_neg (of_decide_eq_true g) (by (try dsimp only); omega)).symm
  exact q4
def k_toWrl : Con := .rel ⟨Wrl, fun s => [.agg s.ts], fun s => .agg s.ts, SmWrl⟩
noncomputable def b_toWrl : Code := Tryz.f52.body.getD .skip
theorem call_toWrl : Callable Tryz.prog 52 := ⟨_, Tryz.func52, by kernel_rfl, by kernel_rfl⟩
set_option maxRecDepth 100000 in
theorem v_toWrl (s : Wrl) (h :
    ∃ (x : Eng), (((EqG s.e x) ∧ True) ∧ SmEng x) ∧ ∃ (x_1 : r_toIntS.ι), (((s.ses.length = List.length x_1 ∧ RowsEq s.ses.length (intRow s.ses) (intRow x_1)) ∧ True) ∧ List.length x_1 ≤ (1048576 : Nat)) ∧ ∃ (x_2 : r_toChgS.ι),
    (((s.op.length = List.length x_2 ∧ RowsEq s.op.length (chgRow s.op) (chgRow x_2)) ∧ True) ∧ List.length x_2 ≤ (1048576 : Nat) ∧ ∀ (i : Nat), i < List.length x_2 → SmC (List.getD x_2 i default)) ∧ ∃ (x_3 : r_toChgS.ι),
    (((s.done.length = List.length x_3 ∧ RowsEq s.done.length (chgRow s.done) (chgRow x_3)) ∧ True) ∧ List.length x_3 ≤ (1048576 : Nat) ∧ ∀ (i : Nat), i < List.length x_3 → SmC (List.getD x_3 i default)) ∧ ∃ (x_4 : r_toChgS.ι),
    (((s.doubt.length = List.length x_4 ∧ RowsEq s.doubt.length (chgRow s.doubt) (chgRow x_4)) ∧ True) ∧ List.length x_4 ≤ (1048576 : Nat) ∧ ∀ (i : Nat), i < List.length x_4 → SmC (List.getD x_4 i default)) ∧ (x.s.d.sec.length =
    s.e.s.d.sec.length ∧ RowsEq x.s.d.sec.length (strRow x.s.d.sec) (strRow s.e.s.d.sec)) ∧ (x.s.d.cache.length = s.e.s.d.cache.length ∧ RowsEq x.s.d.cache.length (pendRow x.s.d.cache) (pendRow s.e.s.d.cache)) ∧ x.s.d.armed =
    s.e.s.d.armed ∧ (x.s.d.keep.length = s.e.s.d.keep.length ∧ RowsEq x.s.d.keep.length (intRow x.s.d.keep) (intRow s.e.s.d.keep)) ∧ x.s.ep = s.e.s.ep ∧ (x.s.log.length = s.e.s.log.length ∧ RowsEq x.s.log.length (recRow x.s.log)
    (recRow s.e.s.log)) ∧ x.s.sure = s.e.s.sure ∧ (x.s.fr.length = s.e.s.fr.length ∧ RowsEq x.s.fr.length (frmRow x.s.fr) (frmRow s.e.s.fr)) ∧ x.s.hand = s.e.s.hand ∧ x.up = s.e.up ∧ (x.txs.length = s.e.txs.length ∧ RowsEq
    x.txs.length (txnRow x.txs) (txnRow s.e.txs)) ∧ (x.lk.held.length = s.e.lk.held.length ∧ RowsEq x.lk.held.length (lckRow x.lk.held) (lckRow s.e.lk.held)) ∧ (x.lk.waits.length = s.e.lk.waits.length ∧ RowsEq x.lk.waits.length (wtRow
    x.lk.waits) (wtRow s.e.lk.waits)) ∧ x.next = s.e.next ∧ (List.length x_1 = s.ses.length ∧ RowsEq (List.length x_1) (intRow x_1) (intRow s.ses)) ∧ (List.length x_2 = s.op.length ∧ RowsEq (List.length x_2) (chgRow x_2) (chgRow
    s.op)) ∧ (List.length x_3 = s.done.length ∧ RowsEq (List.length x_3) (chgRow x_3) (chgRow s.done)) ∧ (List.length x_4 = s.doubt.length ∧ RowsEq (List.length x_4) (chgRow x_4) (chgRow s.doubt)) ∧ s.lost = s.lost ∧ True) :
    PureFn Tryz.prog 52 [.agg s.ts] (.agg s.ts) :=
  fn_vc mixed (cons_ok toEng_ok (cons_ok toIntS_ok (cons_ok toChgS_ok nil_ok))) (cons_call call_toEng (cons_call call_toIntS (cons_call call_toChgS nil_call))) Tryz.func52 (by kernel_rfl) (leB (by kernel_rfl)) noAnn (Eq.mp (β := vcFn Tryz.prog [(47, k_toEng), (121, k_toIntS), (122, k_toChgS)] Tryz.f52.ntmps Tryz.f52.results.toList b_toWrl [.agg s.ts] (.agg s.ts) noAnn) (by kernel_rfl) h)
theorem toWrl_ok : ConOk Tryz.prog 52 k_toWrl := by
  rintro (s : Wrl) ⟨h0, h1, h2, h3, h4⟩
  exact v_toWrl s ⟨s.e, ⟨⟨⟨⟨(by trivial), rowsR _ _⟩, ⟨(by trivial), rowsR _ _⟩, (by trivial), ⟨(by trivial), rowsR _ _⟩, (by trivial), ⟨(by trivial), rowsR _ _⟩, (by trivial), ⟨(by trivial), rowsR _ _⟩, (by trivial), (by trivial), ⟨(by trivial), rowsR _ _⟩, ⟨(by trivial), rowsR _ _⟩, ⟨(by trivial), rowsR _ _⟩, (by trivial), trivial⟩, trivial⟩, h0⟩, s.ses, ⟨⟨⟨rfl, rowsR _ _⟩, trivial⟩, h1⟩, s.op, ⟨⟨⟨rfl, rowsR _ _⟩, trivial⟩, h2⟩, s.done, ⟨⟨⟨rfl, rowsR _ _⟩, trivial⟩, h3⟩, s.doubt, ⟨⟨⟨rfl, rowsR _ _⟩, trivial⟩, h4⟩, ⟨(by trivial), rowsR _ _⟩, ⟨(by trivial), rowsR _ _⟩, (by trivial), ⟨(by trivial), rowsR _ _⟩, (by trivial), ⟨(by trivial), rowsR _ _⟩, (by trivial), ⟨(by trivial), rowsR _ _⟩, (by trivial), (by trivial), ⟨(by trivial), rowsR _ _⟩, ⟨(by trivial), rowsR _ _⟩, ⟨(by trivial), rowsR _ _⟩, (by trivial), ⟨(by trivial), rowsR _ _⟩, ⟨(by trivial), rowsR _ _⟩, ⟨(by trivial), rowsR _ _⟩, ⟨(by trivial), rowsR _ _⟩, (by trivial), trivial⟩
def k_eqWrl : Con := .rel ⟨Wrl, fun s => [.agg s.ts, .agg s.ts], fun _ => .bool true, SmWrl⟩
noncomputable def b_eqWrl : Code := Tryz.f54.body.getD .skip
theorem call_eqWrl : Callable Tryz.prog 54 := ⟨_, Tryz.func54, by kernel_rfl, by kernel_rfl⟩
set_option maxRecDepth 100000 in
theorem v_eqWrl (s : Wrl) (h :
    ∃ (x : Eng), (((EqG s.e x) ∧ (EqG s.e x) ∧ True) ∧ SmEng x) ∧ (false = true → false = true) ∧ (false = false → ∃ (x : r_eqIntS.ι), (((s.ses.length = List.length x ∧ RowsEq s.ses.length (intRow s.ses) (intRow x)) ∧ (s.ses.length =
    List.length x ∧ RowsEq s.ses.length (intRow s.ses) (intRow x)) ∧ True) ∧ List.length x ≤ (1048576 : Nat)) ∧ (false = true → false = true) ∧ (false = false → ∃ (x : r_eqChgS.ι), (((s.op.length = List.length x ∧ RowsEq s.op.length
    (chgRow s.op) (chgRow x)) ∧ (s.op.length = List.length x ∧ RowsEq s.op.length (chgRow s.op) (chgRow x)) ∧ True) ∧ List.length x ≤ (1048576 : Nat) ∧ ∀ (i : Nat), i < List.length x → SmC (List.getD x i default)) ∧ (false = true →
    false = true) ∧ (false = false → ∃ (x : r_eqChgS.ι), (((s.done.length = List.length x ∧ RowsEq s.done.length (chgRow s.done) (chgRow x)) ∧ (s.done.length = List.length x ∧ RowsEq s.done.length (chgRow s.done) (chgRow x)) ∧ True) ∧
    List.length x ≤ (1048576 : Nat) ∧ ∀ (i : Nat), i < List.length x → SmC (List.getD x i default)) ∧ (false = true → false = true) ∧ (false = false → ∃ (x : r_eqChgS.ι), (((s.doubt.length = List.length x ∧ RowsEq s.doubt.length
    (chgRow s.doubt) (chgRow x)) ∧ (s.doubt.length = List.length x ∧ RowsEq s.doubt.length (chgRow s.doubt) (chgRow x)) ∧ True) ∧ List.length x ≤ (1048576 : Nat) ∧ ∀ (i : Nat), i < List.length x → SmC (List.getD x i default)) ∧ (false
    = true → false = true) ∧ (false = false → ((!s.lost == s.lost) = true → false = true) ∧ ((!s.lost == s.lost) = false → true = true))))))) :
    PureFn Tryz.prog 54 [.agg s.ts, .agg s.ts] (.bool true) :=
  fn_vc mixed (cons_ok eqEng_ok (cons_ok eqIntS_ok (cons_ok eqChgS_ok nil_ok))) (cons_call call_eqEng (cons_call call_eqIntS (cons_call call_eqChgS nil_call))) Tryz.func54 (by kernel_rfl) (leB (by kernel_rfl)) noAnn (Eq.mp (β := vcFn Tryz.prog [(49, k_eqEng), (125, k_eqIntS), (126, k_eqChgS)] Tryz.f54.ntmps Tryz.f54.results.toList b_eqWrl [.agg s.ts, .agg s.ts] (.bool true) noAnn) (by kernel_rfl) h)
theorem eqWrl_ok : ConOk Tryz.prog 54 k_eqWrl := by
  rintro (s : Wrl) ⟨h0, h1, h2, h3, h4⟩
  exact v_eqWrl s ⟨s.e, ⟨⟨⟨⟨(by trivial), rowsR _ _⟩, ⟨(by trivial), rowsR _ _⟩, (by trivial), ⟨(by trivial), rowsR _ _⟩, (by trivial), ⟨(by trivial), rowsR _ _⟩, (by trivial), ⟨(by trivial), rowsR _ _⟩, (by trivial), (by trivial), ⟨(by trivial), rowsR _ _⟩, ⟨(by trivial), rowsR _ _⟩, ⟨(by trivial), rowsR _ _⟩, (by trivial), trivial⟩, ⟨⟨(by trivial), rowsR _ _⟩, ⟨(by trivial), rowsR _ _⟩, (by trivial), ⟨(by trivial), rowsR _ _⟩, (by trivial), ⟨(by trivial), rowsR _ _⟩, (by trivial), ⟨(by trivial), rowsR _ _⟩, (by trivial), (by trivial), ⟨(by trivial), rowsR _ _⟩, ⟨(by trivial), rowsR _ _⟩, ⟨(by trivial), rowsR _ _⟩, (by trivial), trivial⟩, trivial⟩, h0⟩, fun h => h, fun _ => ⟨s.ses, ⟨⟨⟨rfl, rowsR _ _⟩, ⟨rfl, rowsR _ _⟩, trivial⟩, h1⟩, fun h => h, fun _ => ⟨s.op, ⟨⟨⟨rfl, rowsR _ _⟩, ⟨rfl, rowsR _ _⟩, trivial⟩, h2⟩, fun h => h, fun _ => ⟨s.done, ⟨⟨⟨rfl, rowsR _ _⟩, ⟨rfl, rowsR _ _⟩, trivial⟩, h3⟩, fun h => h, fun _ => ⟨s.doubt, ⟨⟨⟨rfl, rowsR _ _⟩, ⟨rfl, rowsR _ _⟩, trivial⟩, h4⟩, fun h => h, fun _ => ⟨fun h => by simp at h, fun _ => rfl⟩⟩⟩⟩⟩⟩
end Go.Proofs.YtjbomnjmcbhadaaGreat

