/- A part of the proof. -/
import Derived.Test.YtjbomnjmcbhadaaGreatW4
import Derived.Test.YtjbomnjmcbhadaaGreatF1F2
namespace Go.Proofs.YtjbomnjmcbhadaaGreat
set_option maxRecDepth 100000
open Go.SS

theorem eqSto_ok : ConOk Tryz.prog 28 k_eqSto := by
  rintro (s : Sto) ⟨h1, h2, h3, h4⟩
  exact v_eqSto s ⟨s.d, ⟨⟨(eqD _), (eqD _), trivial⟩, h1⟩, fun h => h, fun _ => ⟨fun h => by simp at h, fun _ => ⟨s.log, ⟨⟨⟨rfl, rowsR _ _⟩, ⟨rfl, rowsR _ _⟩, trivial⟩, h2⟩, fun h => h, fun _ => ⟨fun h => by simp at h, fun _ => ⟨s.fr, ⟨⟨⟨rfl, rowsR _ _⟩, ⟨rfl, rowsR _ _⟩, trivial⟩, h3, h4⟩, fun h => h, fun _ => ⟨fun h => by simp at h, fun _ => rfl⟩⟩⟩⟩⟩⟩
-- what is of small bulk is small
theorem bulk_len {α : Type} (f : α → Nat) (L : List α) : L.length ≤ bulkL f L := by
  have := bulkTo_mono f L L.length (Nat.zero_le L.length)
  have hz : bulkTo f L L.length 0 = L.length := rfl
  unfold bulkL
  omega
theorem bulk_get {α : Type} (f : α → Nat) (L : List α) (d : α) {i : Nat} (hi : i < L.length) : f (L.getD i d) + L.length ≤ bulkL f L := by
  have h1 := bulkTo_mono f L L.length (show i + 1 ≤ L.length from hi)
  have h2 := bulkTo_succ f L L.length d hi
  have h3 := bulkTo_mono f L L.length (Nat.zero_le i)
  have hz : bulkTo f L L.length 0 = L.length := rfl
  unfold bulkL
  omega
theorem rem_big {left : Int} {n : Nat} (h : ¬ rem left n < 0) : (n : Int) ≤ left := by
  by_cases hq : (n : Int) ≤ left
  · exact hq
  · rw [rem_lt (by omega)] at h
    omega
theorem small_sto {s : Sto} (h : bulkS s ≤ 1048576) : SmS s ∧ StoB s := by
  have e : bulkS s = bulkL lenS s.d.sec + bulkL bulkP s.d.cache + s.d.keep.length + bulkL bulkR s.log + bulkL bulkF s.fr := rfl
  have a1 := bulk_len lenS s.d.sec
  have a2 := bulk_len bulkP s.d.cache
  have a3 := bulk_len bulkR s.log
  have a4 := bulk_len bulkF s.fr
  have f1 : ∀ i, i < s.fr.length → (s.fr.getD i default).pg.sl.length ≤ 1048576 := fun i hi => by
    have h1 := bulk_get bulkF s.fr default hi
    have h2 := bulk_len lenS (s.fr.getD i default).pg.sl
    have h3 : bulkF (s.fr.getD i default) = bulkL lenS (s.fr.getD i default).pg.sl := rfl
    omega
  have l1 : ∀ r ∈ s.log, r.a.length ≤ 1048576 := fun r hr => by
    obtain ⟨i, hi, rfl⟩ := List.mem_iff_getElem.1 hr
    have h1 := bulk_get bulkR s.log default hi
    rw [List.getD_eq_getElem?_getD, List.getElem?_eq_getElem hi, Option.getD_some] at h1
    have h3 : bulkR s.log[i] = s.log[i].b.length + s.log[i].a.length := rfl
    omega
  refine ⟨⟨⟨by omega, by omega, by omega⟩, by omega, by omega, f1⟩, ⟨by unfold Len; omega, by unfold Len; omega, by unfold Len; omega⟩, ⟨by omega, fun r hr => by have := l1 r hr; omega⟩, ⟨by unfold Len; omega, fun i hi => ?_⟩, fun r hr => ?_⟩
  · have := f1 i hi
    show (s.fr.getD i default).pg.sl.length < 1000000000000
    omega
  · have := l1 r hr
    show r.a.length < 1000000000000
    omega

def r_szTxnS : Rl := ⟨List Txn × Int, fun x => [txnS x.1, .int .i64 x.2], fun x => .int .i64 (rem x.2 x.1.length), fun x => Left x.2 ∧ Lim x.1.length⟩
def k_szTxnS : Con := .rel r_szTxnS
noncomputable def b_szTxnS : Code := Tryz.f106.body.getD .skip
theorem call_szTxnS : Callable Tryz.prog 106 := ⟨_, Tryz.func106, by kernel_rfl, by kernel_rfl⟩
theorem v_szTxnS (L : List Txn) (left : Int) (h :
    Rng .i64 (left - (L.length:Int)) ∧ (decide (left - (L.length:Int) < (0 : Int)) = true → (-1 : Int) = rem left L.length) ∧ (decide (left - (L.length:Int) < (0 : Int)) = false → left - (L.length:Int) = rem left L.length)) :
    PureFn Tryz.prog 106 [txnS L, .int .i64 left] (.int .i64 (rem left L.length)) :=
  vcR (code := b_szTxnS) gN Tryz.func106 (by kernel_rfl) (by kernel_rfl) noAnn h (by kernel_rfl)
theorem szTxnS_ok : ConOk Tryz.prog 106 k_szTxnS := by
  rintro ⟨L, left⟩ ⟨⟨h0, h1⟩, hn⟩
  have hn : L.length ≤ 9223372036854775807 := hn
  simp only at h0 h1
  refine v_szTxnS L left ?_
  simp only [rng_i64, decide_eq_true_eq, decide_eq_false_iff_not]
  exact ⟨by omega, fun h => (rem_lt (by omega)).symm, fun h => (rem_ge (by omega)).symm⟩
def r_toTxn : Rl := ⟨Txn, fun r => [.agg r.ts], fun r => .agg r.ts, fun _ => True⟩
def k_toTxn : Con := .rel r_toTxn
noncomputable def b_toTxn : Code := Tryz.f188.body.getD .skip
theorem call_toTxn : Callable Tryz.prog 188 := ⟨_, Tryz.func188, by kernel_rfl, by kernel_rfl⟩
theorem v_toTxn (r : Txn) (h :
    r.id = r.id ∧ r.last = r.last ∧ True) :
    PureFn Tryz.prog 188 [.agg r.ts] (.agg r.ts) :=
  vcR (code := b_toTxn) gN Tryz.func188 (by kernel_rfl) (by kernel_rfl) noAnn h (by kernel_rfl)
theorem toTxn_ok : ConOk Tryz.prog 188 k_toTxn := fun r _ => v_toTxn r ⟨rfl, rfl, trivial⟩
def r_eqTxn : Rl := ⟨Txn, fun r => [.agg r.ts, .agg r.ts], fun _ => .bool true, fun _ => True⟩
def k_eqTxn : Con := .rel r_eqTxn
noncomputable def b_eqTxn : Code := Tryz.f195.body.getD .skip
theorem call_eqTxn : Callable Tryz.prog 195 := ⟨_, Tryz.func195, by kernel_rfl, by kernel_rfl⟩
theorem v_eqTxn (r : Txn) (h :
    ((r.id != r.id) = true → false = true) ∧ ((r.id != r.id) = false → ((r.last != r.last) = true → false = true) ∧ ((r.last != r.last) = false → true = true))) :
    PureFn Tryz.prog 195 [.agg r.ts, .agg r.ts] (.bool true) :=
  vcR (code := b_eqTxn) gN Tryz.func195 (by kernel_rfl) (by kernel_rfl) noAnn h (by kernel_rfl)
theorem eqTxn_ok : ConOk Tryz.prog 195 k_eqTxn := by
  intro r _
  refine v_eqTxn r ?_
  simp
def r_toTxnS : Rl := ⟨List Txn, fun L => [txnS L], fun L => txnS L, fun L => L.length ≤ 1048576⟩
def k_toTxnS : Con := .rel r_toTxnS
def A_toTxnS (L : List Txn) : Nat → Ann
  | 0 => .one {i : Nat // i ≤ L.length} (fun x => ⟨[(0, txnS L), (3, .osl 0 0 L.length), (4, .int .i64 x.1)], [some (.arr true 0 2 L.length (upT (txnRow L) [.int .i64 0, .int .i64 0] x.1))]⟩) (fun x => L.length - x.1) [.arr 0] [.arr 0] (fun _ => noAnn)
  | _ => .none
noncomputable def b_toTxnS : Code := Tryz.f110.body.getD .skip
theorem call_toTxnS : Callable Tryz.prog 110 := ⟨_, Tryz.func110, by kernel_rfl, by kernel_rfl⟩
theorem v_toTxnS (L : List Txn) (h :
    (Nn (L.length:Int) ∧ LeI (L.length:Int) (L.length:Int) ∧ sizeB 16 (L.length:Int).toNat 140737488355328 ∧ Lt (L.length:Int).toNat 9223372036854775808) ∧ (∃ (x : { i : Nat // i ≤ L.length }), ((EqL txnRow L L) ∧ (0 = 0 ∧
    (L.length:Int).toNat = L.length) ∧ (0 : Int) = (x.val:Int) ∧ True) ∧ ((L.length:Int).toNat = L.length ∧ RowsEq (L.length:Int).toNat (fun (x : Nat) => [T.int .i64 (0 : Int), T.int .i64 (0 : Int)]) (upT (txnRow L) [T.int .i64 (0 :
    Int), T.int .i64 (0 : Int)] x.val)) ∧ True) ∧ ∀ (x : { i : Nat // i ≤ L.length }), (decide ((x.val:Int) < (L.length:Int)) = true → InB (x.val:Int) L.length ∧ ∃ (x_1 : r_toTxn.ι), ((((L.getD (x.val:Int).toNat default).id = x_1.id ∧
    (L.getD (x.val:Int).toNat default).last = x_1.last ∧ True) ∧ True) ∧ True) ∧ InB (x.val:Int) L.length ∧ Lt (0 + (x.val:Int).toNat) L.length ∧ Rng .i64 ((x.val:Int) + (1 : Int)) ∧ ∃ (y : { i : Nat // i ≤ L.length }), (((EqL txnRow
    L L) ∧ (0 = 0 ∧ L.length = L.length) ∧ (x.val:Int) + (1 : Int) = (y.val:Int) ∧ True) ∧ (L.length = L.length ∧ RowsEq L.length (setRow (upT (txnRow L) [T.int .i64 (0 : Int), T.int .i64 (0 : Int)] x.val) (0 + (x.val:Int).toNat) 0
    [T.int .i64 x_1.id, T.int .i64 x_1.last]) (upT (txnRow L) [T.int .i64 (0 : Int), T.int .i64 (0 : Int)] y.val)) ∧ True) ∧ Lt (L.length - y.val) (L.length - x.val)) ∧ (decide ((x.val:Int) < (L.length:Int)) = false → Le (0 +
    L.length) L.length ∧ L.length = L.length ∧ RowsEq L.length (upT (txnRow L) [T.int .i64 (0 : Int), T.int .i64 (0 : Int)] x.val) (txnRow L))) :
    PureFn Tryz.prog 110 [txnS L] (txnS L) :=
  vcR (code := b_toTxnS) (gC toTxn_ok call_toTxn gN) Tryz.func110 (by kernel_rfl) (by kernel_rfl) (A_toTxnS L) h (by kernel_rfl)
theorem toTxnS_ok : ConOk Tryz.prog 110 k_toTxnS := by
  intro (L : List Txn) (hL : L.length ≤ 1048576)
  refine v_toTxnS L ⟨⟨by unfold Nn; omega, by unfold LeI; omega, by unfold sizeB; omega, by unfold Lt; omega⟩, ⟨⟨0, Nat.zero_le _⟩, ⟨⟨(by trivial), rowsR _ _⟩, ⟨(by trivial), by omega⟩, rfl, trivial⟩, ⟨by omega, upT_zero⟩, trivial⟩, fun x => ⟨fun hc => ?_, fun hc => ?_⟩⟩
  · have hlt := lt_of_dec hc
    refine ⟨inB_nat hlt, L.getD x.val default, ⟨⟨⟨rfl, rfl, trivial⟩, trivial⟩, trivial⟩, inB_nat hlt, by unfold Lt; omega, add_rng hlt (by omega), ⟨x.val + 1, hlt⟩, ⟨⟨⟨(by trivial), rowsR _ _⟩, ⟨(by trivial), (by trivial)⟩, by simp only; omega, trivial⟩, ⟨(by trivial), fun j hj => ?_⟩, trivial⟩, Cnt.ext_lt hlt⟩
    exact upT_rows (m := 2) (fun _ => rfl) rfl x.val rfl j
  · have hx : x.val = L.length := by have := x.2; have := le_of_not hc; omega
    rw [hx]
    exact ⟨by unfold Le; omega, by omega, fun i hi => upT_end (n := L.length) i (by omega)⟩
def r_eqTxnS : Rl := ⟨List Txn, fun L => [txnS L, txnS L], fun _ => .bool true, fun L => L.length ≤ 1048576⟩
def k_eqTxnS : Con := .rel r_eqTxnS
def A_eqTxnS (L : List Txn) : Nat → Ann
  | 0 => .one {i : Nat // i ≤ L.length} (fun x => ⟨[(0, txnS L), (1, txnS L), (5, .int .i64 x.1)], []⟩) (fun x => L.length - x.1) [] [] (fun _ => noAnn)
  | _ => .none
noncomputable def b_eqTxnS : Code := Tryz.f115.body.getD .skip
theorem call_eqTxnS : Callable Tryz.prog 115 := ⟨_, Tryz.func115, by kernel_rfl, by kernel_rfl⟩
theorem v_eqTxnS (L : List Txn) (h :
    (((L.length:Int) != (L.length:Int)) = true → false = true) ∧ (((L.length:Int) != (L.length:Int)) = false → (∃ (x : { i : Nat // i ≤ L.length }), ((EqL txnRow L L) ∧ (EqL txnRow L L) ∧ (0 : Int) = (x.val:Int) ∧ True) ∧ True) ∧ ∀ (x
    : { i : Nat // i ≤ L.length }), (decide ((x.val:Int) < (L.length:Int)) = true → InB (x.val:Int) L.length ∧ InB (x.val:Int) L.length ∧ ∃ (x_1 : r_eqTxn.ι), ((((L.getD (x.val:Int).toNat default).id = x_1.id ∧ (L.getD
    (x.val:Int).toNat default).last = x_1.last ∧ True) ∧ ((L.getD (x.val:Int).toNat default).id = x_1.id ∧ (L.getD (x.val:Int).toNat default).last = x_1.last ∧ True) ∧ True) ∧ True) ∧ (false = true → false = true) ∧ (false = false →
    Rng .i64 ((x.val:Int) + (1 : Int)) ∧ ∃ (y : { i : Nat // i ≤ L.length }), (((EqL txnRow L L) ∧ (EqL txnRow L L) ∧ (x.val:Int) + (1 : Int) = (y.val:Int) ∧ True) ∧ True) ∧ Lt (L.length - y.val) (L.length - x.val))) ∧ (decide
    ((x.val:Int) < (L.length:Int)) = false → true = true))) :
    PureFn Tryz.prog 115 [txnS L, txnS L] (.bool true) :=
  vcR (code := b_eqTxnS) (gC eqTxn_ok call_eqTxn gN) Tryz.func115 (by kernel_rfl) (by kernel_rfl) (A_eqTxnS L) h (by kernel_rfl)
theorem eqTxnS_ok : ConOk Tryz.prog 115 k_eqTxnS := by
  intro (L : List Txn) (hL : L.length ≤ 1048576)
  refine v_eqTxnS L ⟨fun h => by simp at h, fun _ => ⟨⟨⟨0, Nat.zero_le _⟩, ⟨⟨(by trivial), rowsR _ _⟩, ⟨(by trivial), rowsR _ _⟩, rfl, trivial⟩, trivial⟩, fun x => ⟨fun hc => ?_, fun _ => rfl⟩⟩⟩
  have hlt := lt_of_dec hc
  exact ⟨inB_nat hlt, inB_nat hlt, L.getD x.val default, ⟨⟨⟨rfl, rfl, trivial⟩, ⟨rfl, rfl, trivial⟩, trivial⟩, trivial⟩, fun h => h, fun _ => ⟨add_rng hlt (by omega), ⟨x.val + 1, hlt⟩, ⟨⟨⟨(by trivial), rowsR _ _⟩, ⟨(by trivial), rowsR _ _⟩, by simp only; omega, trivial⟩, trivial⟩, Cnt.ext_lt hlt⟩⟩
def r_szLckS : Rl := ⟨List Lck × Int, fun x => [lckS x.1, .int .i64 x.2], fun x => .int .i64 (rem x.2 x.1.length), fun x => Left x.2 ∧ Lim x.1.length⟩
def k_szLckS : Con := .rel r_szLckS
noncomputable def b_szLckS : Code := Tryz.f182.body.getD .skip
theorem call_szLckS : Callable Tryz.prog 182 := ⟨_, Tryz.func182, by kernel_rfl, by kernel_rfl⟩
theorem v_szLckS (L : List Lck) (left : Int) (h :
    Rng .i64 (left - (L.length:Int)) ∧ (decide (left - (L.length:Int) < (0 : Int)) = true → (-1 : Int) = rem left L.length) ∧ (decide (left - (L.length:Int) < (0 : Int)) = false → left - (L.length:Int) = rem left L.length)) :
    PureFn Tryz.prog 182 [lckS L, .int .i64 left] (.int .i64 (rem left L.length)) :=
  vcR (code := b_szLckS) gN Tryz.func182 (by kernel_rfl) (by kernel_rfl) noAnn h (by kernel_rfl)
theorem szLckS_ok : ConOk Tryz.prog 182 k_szLckS := by
  rintro ⟨L, left⟩ ⟨⟨h0, h1⟩, hn⟩
  have hn : L.length ≤ 9223372036854775807 := hn
  simp only at h0 h1
  refine v_szLckS L left ?_
  simp only [rng_i64, decide_eq_true_eq, decide_eq_false_iff_not]
  exact ⟨by omega, fun h => (rem_lt (by omega)).symm, fun h => (rem_ge (by omega)).symm⟩
def r_toLck : Rl := ⟨Lck, fun r => [.agg r.ts], fun r => .agg r.ts, fun _ => True⟩
def k_toLck : Con := .rel r_toLck
noncomputable def b_toLck : Code := Tryz.f253.body.getD .skip
theorem call_toLck : Callable Tryz.prog 253 := ⟨_, Tryz.func253, by kernel_rfl, by kernel_rfl⟩
theorem v_toLck (r : Lck) (h :
    r.tx = r.tx ∧ r.ta = r.ta ∧ r.row = r.row ∧ r.mo = r.mo ∧ True) :
    PureFn Tryz.prog 253 [.agg r.ts] (.agg r.ts) :=
  vcR (code := b_toLck) gN Tryz.func253 (by kernel_rfl) (by kernel_rfl) noAnn h (by kernel_rfl)
theorem toLck_ok : ConOk Tryz.prog 253 k_toLck := fun r _ => v_toLck r ⟨rfl, rfl, rfl, rfl, trivial⟩
def r_eqLck : Rl := ⟨Lck, fun r => [.agg r.ts, .agg r.ts], fun _ => .bool true, fun _ => True⟩
def k_eqLck : Con := .rel r_eqLck
noncomputable def b_eqLck : Code := Tryz.f265.body.getD .skip
theorem call_eqLck : Callable Tryz.prog 265 := ⟨_, Tryz.func265, by kernel_rfl, by kernel_rfl⟩
theorem v_eqLck (r : Lck) (h :
    ((r.tx != r.tx) = true → false = true) ∧ ((r.tx != r.tx) = false → ((r.ta != r.ta) = true → false = true) ∧ ((r.ta != r.ta) = false → ((r.row != r.row) = true → false = true) ∧ ((r.row != r.row) = false → ((r.mo != r.mo) = true →
    false = true) ∧ ((r.mo != r.mo) = false → true = true))))) :
    PureFn Tryz.prog 265 [.agg r.ts, .agg r.ts] (.bool true) :=
  vcR (code := b_eqLck) gN Tryz.func265 (by kernel_rfl) (by kernel_rfl) noAnn h (by kernel_rfl)
theorem eqLck_ok : ConOk Tryz.prog 265 k_eqLck := by
  intro r _
  refine v_eqLck r ?_
  simp
def r_toLckS : Rl := ⟨List Lck, fun L => [lckS L], fun L => lckS L, fun L => L.length ≤ 1048576⟩
def k_toLckS : Con := .rel r_toLckS
def A_toLckS (L : List Lck) : Nat → Ann
  | 0 => .one {i : Nat // i ≤ L.length} (fun x => ⟨[(0, lckS L), (3, .osl 0 0 L.length), (4, .int .i64 x.1)], [some (.arr true 0 4 L.length (upT (lckRow L) [.int .i64 0, .int .i64 0, .int .i64 0, .int .i64 0] x.1))]⟩) (fun x => L.length - x.1) [.arr 0] [.arr 0] (fun _ => noAnn)
  | _ => .none
noncomputable def b_toLckS : Code := Tryz.f189.body.getD .skip
theorem call_toLckS : Callable Tryz.prog 189 := ⟨_, Tryz.func189, by kernel_rfl, by kernel_rfl⟩
theorem v_toLckS (L : List Lck) (h :
    (Nn (L.length:Int) ∧ LeI (L.length:Int) (L.length:Int) ∧ sizeB 32 (L.length:Int).toNat 140737488355328 ∧ Lt (L.length:Int).toNat 9223372036854775808) ∧ (∃ (x : { i : Nat // i ≤ L.length }), ((EqL lckRow L L) ∧ (0 = 0 ∧
    (L.length:Int).toNat = L.length) ∧ (0 : Int) = (x.val:Int) ∧ True) ∧ ((L.length:Int).toNat = L.length ∧ RowsEq (L.length:Int).toNat (fun (x : Nat) => [T.int .i64 (0 : Int), T.int .i64 (0 : Int), T.int .i64 (0 : Int), T.int .i64 (0
    : Int)]) (upT (lckRow L) [T.int .i64 (0 : Int), T.int .i64 (0 : Int), T.int .i64 (0 : Int), T.int .i64 (0 : Int)] x.val)) ∧ True) ∧ ∀ (x : { i : Nat // i ≤ L.length }), (decide ((x.val:Int) < (L.length:Int)) = true → InB
    (x.val:Int) L.length ∧ ∃ (x_1 : r_toLck.ι), ((((L.getD (x.val:Int).toNat default).tx = x_1.tx ∧ (L.getD (x.val:Int).toNat default).ta = x_1.ta ∧ (L.getD (x.val:Int).toNat default).row = x_1.row ∧ (L.getD (x.val:Int).toNat
    default).mo = x_1.mo ∧ True) ∧ True) ∧ True) ∧ InB (x.val:Int) L.length ∧ Lt (0 + (x.val:Int).toNat) L.length ∧ Rng .i64 ((x.val:Int) + (1 : Int)) ∧ ∃ (y : { i : Nat // i ≤ L.length }), (((EqL lckRow L L) ∧ (0 = 0 ∧ L.length =
    L.length) ∧ (x.val:Int) + (1 : Int) = (y.val:Int) ∧ True) ∧ (L.length = L.length ∧ RowsEq L.length (setRow (upT (lckRow L) [T.int .i64 (0 : Int), T.int .i64 (0 : Int), T.int .i64 (0 : Int), T.int .i64 (0 : Int)] x.val) (0 +
    (x.val:Int).toNat) 0 [T.int .i64 x_1.tx, T.int .i64 x_1.ta, T.int .i64 x_1.row, T.int .i64 x_1.mo]) (upT (lckRow L) [T.int .i64 (0 : Int), T.int .i64 (0 : Int), T.int .i64 (0 : Int), T.int .i64 (0 : Int)] y.val)) ∧ True) ∧ Lt
    (L.length - y.val) (L.length - x.val)) ∧ (decide ((x.val:Int) < (L.length:Int)) = false → Le (0 + L.length) L.length ∧ L.length = L.length ∧ RowsEq L.length (upT (lckRow L) [T.int .i64 (0 : Int), T.int .i64 (0 : Int), T.int .i64
    (0 : Int), T.int .i64 (0 : Int)] x.val) (lckRow L))) :
    PureFn Tryz.prog 189 [lckS L] (lckS L) :=
  vcR (code := b_toLckS) (gC toLck_ok call_toLck gN) Tryz.func189 (by kernel_rfl) (by kernel_rfl) (A_toLckS L) h (by kernel_rfl)
theorem toLckS_ok : ConOk Tryz.prog 189 k_toLckS := by
  intro (L : List Lck) (hL : L.length ≤ 1048576)
  refine v_toLckS L ⟨⟨by unfold Nn; omega, by unfold LeI; omega, by unfold sizeB; omega, by unfold Lt; omega⟩, ⟨⟨0, Nat.zero_le _⟩, ⟨⟨(by trivial), rowsR _ _⟩, ⟨(by trivial), by omega⟩, rfl, trivial⟩, ⟨by omega, upT_zero⟩, trivial⟩, fun x => ⟨fun hc => ?_, fun hc => ?_⟩⟩
  · have hlt := lt_of_dec hc
    refine ⟨inB_nat hlt, L.getD x.val default, ⟨⟨⟨rfl, rfl, rfl, rfl, trivial⟩, trivial⟩, trivial⟩, inB_nat hlt, by unfold Lt; omega, add_rng hlt (by omega), ⟨x.val + 1, hlt⟩, ⟨⟨⟨(by trivial), rowsR _ _⟩, ⟨(by trivial), (by trivial)⟩, by simp only; omega, trivial⟩, ⟨(by trivial), fun j hj => ?_⟩, trivial⟩, Cnt.ext_lt hlt⟩
    exact upT_rows (m := 4) (fun _ => rfl) rfl x.val rfl j
  · have hx : x.val = L.length := by have := x.2; have := le_of_not hc; omega
    rw [hx]
    exact ⟨by unfold Le; omega, by omega, fun i hi => upT_end (n := L.length) i (by omega)⟩
def r_eqLckS : Rl := ⟨List Lck, fun L => [lckS L, lckS L], fun _ => .bool true, fun L => L.length ≤ 1048576⟩
def k_eqLckS : Con := .rel r_eqLckS
def A_eqLckS (L : List Lck) : Nat → Ann
  | 0 => .one {i : Nat // i ≤ L.length} (fun x => ⟨[(0, lckS L), (1, lckS L), (5, .int .i64 x.1)], []⟩) (fun x => L.length - x.1) [] [] (fun _ => noAnn)
  | _ => .none
noncomputable def b_eqLckS : Code := Tryz.f196.body.getD .skip
theorem call_eqLckS : Callable Tryz.prog 196 := ⟨_, Tryz.func196, by kernel_rfl, by kernel_rfl⟩
theorem v_eqLckS (L : List Lck) (h :
    (((L.length:Int) != (L.length:Int)) = true → false = true) ∧ (((L.length:Int) != (L.length:Int)) = false → (∃ (x : { i : Nat // i ≤ L.length }), ((EqL lckRow L L) ∧ (EqL lckRow L L) ∧ (0 : Int) = (x.val:Int) ∧ True) ∧ True) ∧ ∀ (x
    : { i : Nat // i ≤ L.length }), (decide ((x.val:Int) < (L.length:Int)) = true → InB (x.val:Int) L.length ∧ InB (x.val:Int) L.length ∧ ∃ (x_1 : r_eqLck.ι), ((((L.getD (x.val:Int).toNat default).tx = x_1.tx ∧ (L.getD
    (x.val:Int).toNat default).ta = x_1.ta ∧ (L.getD (x.val:Int).toNat default).row = x_1.row ∧ (L.getD (x.val:Int).toNat default).mo = x_1.mo ∧ True) ∧ ((L.getD (x.val:Int).toNat default).tx = x_1.tx ∧ (L.getD (x.val:Int).toNat
    default).ta = x_1.ta ∧ (L.getD (x.val:Int).toNat default).row = x_1.row ∧ (L.getD (x.val:Int).toNat default).mo = x_1.mo ∧ True) ∧ True) ∧ True) ∧ (false = true → false = true) ∧ (false = false → Rng .i64 ((x.val:Int) + (1 : Int))
    ∧ ∃ (y : { i : Nat // i ≤ L.length }), (((EqL lckRow L L) ∧ (EqL lckRow L L) ∧ (x.val:Int) + (1 : Int) = (y.val:Int) ∧ True) ∧ True) ∧ Lt (L.length - y.val) (L.length - x.val))) ∧ (decide ((x.val:Int) < (L.length:Int)) = false →
    true = true))) :
    PureFn Tryz.prog 196 [lckS L, lckS L] (.bool true) :=
  vcR (code := b_eqLckS) (gC eqLck_ok call_eqLck gN) Tryz.func196 (by kernel_rfl) (by kernel_rfl) (A_eqLckS L) h (by kernel_rfl)
theorem eqLckS_ok : ConOk Tryz.prog 196 k_eqLckS := by
  intro (L : List Lck) (hL : L.length ≤ 1048576)
  refine v_eqLckS L ⟨fun h => by simp at h, fun _ => ⟨⟨⟨0, Nat.zero_le _⟩, ⟨⟨(by trivial), rowsR _ _⟩, ⟨(by trivial), rowsR _ _⟩, rfl, trivial⟩, trivial⟩, fun x => ⟨fun hc => ?_, fun _ => rfl⟩⟩⟩
  have hlt := lt_of_dec hc
  exact ⟨inB_nat hlt, inB_nat hlt, L.getD x.val default, ⟨⟨⟨rfl, rfl, rfl, rfl, trivial⟩, ⟨rfl, rfl, rfl, rfl, trivial⟩, trivial⟩, trivial⟩, fun h => h, fun _ => ⟨add_rng hlt (by omega), ⟨x.val + 1, hlt⟩, ⟨⟨⟨(by trivial), rowsR _ _⟩, ⟨(by trivial), rowsR _ _⟩, by simp only; omega, trivial⟩, trivial⟩, Cnt.ext_lt hlt⟩⟩
def r_szWtS : Rl := ⟨List Wt × Int, fun x => [wtS x.1, .int .i64 x.2], fun x => .int .i64 (rem x.2 x.1.length), fun x => Left x.2 ∧ Lim x.1.length⟩
def k_szWtS : Con := .rel r_szWtS
noncomputable def b_szWtS : Code := Tryz.f183.body.getD .skip
theorem call_szWtS : Callable Tryz.prog 183 := ⟨_, Tryz.func183, by kernel_rfl, by kernel_rfl⟩
theorem v_szWtS (L : List Wt) (left : Int) (h :
    Rng .i64 (left - (L.length:Int)) ∧ (decide (left - (L.length:Int) < (0 : Int)) = true → (-1 : Int) = rem left L.length) ∧ (decide (left - (L.length:Int) < (0 : Int)) = false → left - (L.length:Int) = rem left L.length)) :
    PureFn Tryz.prog 183 [wtS L, .int .i64 left] (.int .i64 (rem left L.length)) :=
  vcR (code := b_szWtS) gN Tryz.func183 (by kernel_rfl) (by kernel_rfl) noAnn h (by kernel_rfl)
theorem szWtS_ok : ConOk Tryz.prog 183 k_szWtS := by
  rintro ⟨L, left⟩ ⟨⟨h0, h1⟩, hn⟩
  have hn : L.length ≤ 9223372036854775807 := hn
  simp only at h0 h1
  refine v_szWtS L left ?_
  simp only [rng_i64, decide_eq_true_eq, decide_eq_false_iff_not]
  exact ⟨by omega, fun h => (rem_lt (by omega)).symm, fun h => (rem_ge (by omega)).symm⟩
def r_toWt : Rl := ⟨Wt, fun r => [.agg r.ts], fun r => .agg r.ts, fun _ => True⟩
def k_toWt : Con := .rel r_toWt
noncomputable def b_toWt : Code := Tryz.f254.body.getD .skip
theorem call_toWt : Callable Tryz.prog 254 := ⟨_, Tryz.func254, by kernel_rfl, by kernel_rfl⟩
theorem v_toWt (r : Wt) (h :
    r.tx = r.tx ∧ r.fo = r.fo ∧ True) :
    PureFn Tryz.prog 254 [.agg r.ts] (.agg r.ts) :=
  vcR (code := b_toWt) gN Tryz.func254 (by kernel_rfl) (by kernel_rfl) noAnn h (by kernel_rfl)
theorem toWt_ok : ConOk Tryz.prog 254 k_toWt := fun r _ => v_toWt r ⟨rfl, rfl, trivial⟩
def r_eqWt : Rl := ⟨Wt, fun r => [.agg r.ts, .agg r.ts], fun _ => .bool true, fun _ => True⟩
def k_eqWt : Con := .rel r_eqWt
noncomputable def b_eqWt : Code := Tryz.f266.body.getD .skip
theorem call_eqWt : Callable Tryz.prog 266 := ⟨_, Tryz.func266, by kernel_rfl, by kernel_rfl⟩
theorem v_eqWt (r : Wt) (h :
    ((r.tx != r.tx) = true → false = true) ∧ ((r.tx != r.tx) = false → ((r.fo != r.fo) = true → false = true) ∧ ((r.fo != r.fo) = false → true = true))) :
    PureFn Tryz.prog 266 [.agg r.ts, .agg r.ts] (.bool true) :=
  vcR (code := b_eqWt) gN Tryz.func266 (by kernel_rfl) (by kernel_rfl) noAnn h (by kernel_rfl)
theorem eqWt_ok : ConOk Tryz.prog 266 k_eqWt := by
  intro r _
  refine v_eqWt r ?_
  simp
def r_toWtS : Rl := ⟨List Wt, fun L => [wtS L], fun L => wtS L, fun L => L.length ≤ 1048576⟩
def k_toWtS : Con := .rel r_toWtS
def A_toWtS (L : List Wt) : Nat → Ann
  | 0 => .one {i : Nat // i ≤ L.length} (fun x => ⟨[(0, wtS L), (3, .osl 0 0 L.length), (4, .int .i64 x.1)], [some (.arr true 0 2 L.length (upT (wtRow L) [.int .i64 0, .int .i64 0] x.1))]⟩) (fun x => L.length - x.1) [.arr 0] [.arr 0] (fun _ => noAnn)
  | _ => .none
noncomputable def b_toWtS : Code := Tryz.f190.body.getD .skip
theorem call_toWtS : Callable Tryz.prog 190 := ⟨_, Tryz.func190, by kernel_rfl, by kernel_rfl⟩
theorem v_toWtS (L : List Wt) (h :
    (Nn (L.length:Int) ∧ LeI (L.length:Int) (L.length:Int) ∧ sizeB 16 (L.length:Int).toNat 140737488355328 ∧ Lt (L.length:Int).toNat 9223372036854775808) ∧ (∃ (x : { i : Nat // i ≤ L.length }), ((EqL wtRow L L) ∧ (0 = 0 ∧
    (L.length:Int).toNat = L.length) ∧ (0 : Int) = (x.val:Int) ∧ True) ∧ ((L.length:Int).toNat = L.length ∧ RowsEq (L.length:Int).toNat (fun (x : Nat) => [T.int .i64 (0 : Int), T.int .i64 (0 : Int)]) (upT (wtRow L) [T.int .i64 (0 :
    Int), T.int .i64 (0 : Int)] x.val)) ∧ True) ∧ ∀ (x : { i : Nat // i ≤ L.length }), (decide ((x.val:Int) < (L.length:Int)) = true → InB (x.val:Int) L.length ∧ ∃ (x_1 : r_toWt.ι), ((((L.getD (x.val:Int).toNat default).tx = x_1.tx ∧
    (L.getD (x.val:Int).toNat default).fo = x_1.fo ∧ True) ∧ True) ∧ True) ∧ InB (x.val:Int) L.length ∧ Lt (0 + (x.val:Int).toNat) L.length ∧ Rng .i64 ((x.val:Int) + (1 : Int)) ∧ ∃ (y : { i : Nat // i ≤ L.length }), (((EqL wtRow L L)
    ∧ (0 = 0 ∧ L.length = L.length) ∧ (x.val:Int) + (1 : Int) = (y.val:Int) ∧ True) ∧ (L.length = L.length ∧ RowsEq L.length (setRow (upT (wtRow L) [T.int .i64 (0 : Int), T.int .i64 (0 : Int)] x.val) (0 + (x.val:Int).toNat) 0 [T.int
    .i64 x_1.tx, T.int .i64 x_1.fo]) (upT (wtRow L) [T.int .i64 (0 : Int), T.int .i64 (0 : Int)] y.val)) ∧ True) ∧ Lt (L.length - y.val) (L.length - x.val)) ∧ (decide ((x.val:Int) < (L.length:Int)) = false → Le (0 + L.length) L.length
    ∧ L.length = L.length ∧ RowsEq L.length (upT (wtRow L) [T.int .i64 (0 : Int), T.int .i64 (0 : Int)] x.val) (wtRow L))) :
    PureFn Tryz.prog 190 [wtS L] (wtS L) :=
  vcR (code := b_toWtS) (gC toWt_ok call_toWt gN) Tryz.func190 (by kernel_rfl) (by kernel_rfl) (A_toWtS L) h (by kernel_rfl)
theorem toWtS_ok : ConOk Tryz.prog 190 k_toWtS := by
  intro (L : List Wt) (hL : L.length ≤ 1048576)
  refine v_toWtS L ⟨⟨by unfold Nn; omega, by unfold LeI; omega, by unfold sizeB; omega, by unfold Lt; omega⟩, ⟨⟨0, Nat.zero_le _⟩, ⟨⟨(by trivial), rowsR _ _⟩, ⟨(by trivial), by omega⟩, rfl, trivial⟩, ⟨by omega, upT_zero⟩, trivial⟩, fun x => ⟨fun hc => ?_, fun hc => ?_⟩⟩
  · have hlt := lt_of_dec hc
    refine ⟨inB_nat hlt, L.getD x.val default, ⟨⟨⟨rfl, rfl, trivial⟩, trivial⟩, trivial⟩, inB_nat hlt, by unfold Lt; omega, add_rng hlt (by omega), ⟨x.val + 1, hlt⟩, ⟨⟨⟨(by trivial), rowsR _ _⟩, ⟨(by trivial), (by trivial)⟩, by simp only; omega, trivial⟩, ⟨(by trivial), fun j hj => ?_⟩, trivial⟩, Cnt.ext_lt hlt⟩
    exact upT_rows (m := 2) (fun _ => rfl) rfl x.val rfl j
  · have hx : x.val = L.length := by have := x.2; have := le_of_not hc; omega
    rw [hx]
    exact ⟨by unfold Le; omega, by omega, fun i hi => upT_end (n := L.length) i (by omega)⟩
def r_eqWtS : Rl := ⟨List Wt, fun L => [wtS L, wtS L], fun _ => .bool true, fun L => L.length ≤ 1048576⟩
def k_eqWtS : Con := .rel r_eqWtS
def A_eqWtS (L : List Wt) : Nat → Ann
  | 0 => .one {i : Nat // i ≤ L.length} (fun x => ⟨[(0, wtS L), (1, wtS L), (5, .int .i64 x.1)], []⟩) (fun x => L.length - x.1) [] [] (fun _ => noAnn)
  | _ => .none
noncomputable def b_eqWtS : Code := Tryz.f197.body.getD .skip
theorem call_eqWtS : Callable Tryz.prog 197 := ⟨_, Tryz.func197, by kernel_rfl, by kernel_rfl⟩
theorem v_eqWtS (L : List Wt) (h :
    (((L.length:Int) != (L.length:Int)) = true → false = true) ∧ (((L.length:Int) != (L.length:Int)) = false → (∃ (x : { i : Nat // i ≤ L.length }), ((EqL wtRow L L) ∧ (EqL wtRow L L) ∧ (0 : Int) = (x.val:Int) ∧ True) ∧ True) ∧ ∀ (x :
    { i : Nat // i ≤ L.length }), (decide ((x.val:Int) < (L.length:Int)) = true → InB (x.val:Int) L.length ∧ InB (x.val:Int) L.length ∧ ∃ (x_1 : r_eqWt.ι), ((((L.getD (x.val:Int).toNat default).tx = x_1.tx ∧ (L.getD (x.val:Int).toNat
    default).fo = x_1.fo ∧ True) ∧ ((L.getD (x.val:Int).toNat default).tx = x_1.tx ∧ (L.getD (x.val:Int).toNat default).fo = x_1.fo ∧ True) ∧ True) ∧ True) ∧ (false = true → false = true) ∧ (false = false → Rng .i64 ((x.val:Int) + (1
    : Int)) ∧ ∃ (y : { i : Nat // i ≤ L.length }), (((EqL wtRow L L) ∧ (EqL wtRow L L) ∧ (x.val:Int) + (1 : Int) = (y.val:Int) ∧ True) ∧ True) ∧ Lt (L.length - y.val) (L.length - x.val))) ∧ (decide ((x.val:Int) < (L.length:Int)) =
    false → true = true))) :
    PureFn Tryz.prog 197 [wtS L, wtS L] (.bool true) :=
  vcR (code := b_eqWtS) (gC eqWt_ok call_eqWt gN) Tryz.func197 (by kernel_rfl) (by kernel_rfl) (A_eqWtS L) h (by kernel_rfl)
theorem eqWtS_ok : ConOk Tryz.prog 197 k_eqWtS := by
  intro (L : List Wt) (hL : L.length ≤ 1048576)
  refine v_eqWtS L ⟨fun h => by simp at h, fun _ => ⟨⟨⟨0, Nat.zero_le _⟩, ⟨⟨(by trivial), rowsR _ _⟩, ⟨(by trivial), rowsR _ _⟩, rfl, trivial⟩, trivial⟩, fun x => ⟨fun hc => ?_, fun _ => rfl⟩⟩⟩
  have hlt := lt_of_dec hc
  exact ⟨inB_nat hlt, inB_nat hlt, L.getD x.val default, ⟨⟨⟨rfl, rfl, trivial⟩, ⟨rfl, rfl, trivial⟩, trivial⟩, trivial⟩, fun h => h, fun _ => ⟨add_rng hlt (by omega), ⟨x.val + 1, hlt⟩, ⟨⟨⟨(by trivial), rowsR _ _⟩, ⟨(by trivial), rowsR _ _⟩, by simp only; omega, trivial⟩, trivial⟩, Cnt.ext_lt hlt⟩⟩
-- locks, engines, worlds
def bulkLks (s : Lks) : Nat := s.held.length + s.waits.length
def LmLks (s : Lks) : Prop := Lim s.held.length ∧ Lim s.waits.length
def SmLks (s : Lks) : Prop := s.held.length ≤ 1048576 ∧ s.waits.length ≤ 1048576
def k_szLks : Con := .rel ⟨Lks × Int, fun x => [.agg x.1.ts, .int .i64 x.2], fun x => .int .i64 (rem x.2 (bulkLks x.1)), fun x => Left x.2 ∧ LmLks x.1⟩
noncomputable def b_szLks : Code := Tryz.f107.body.getD .skip
theorem call_szLks : Callable Tryz.prog 107 := ⟨_, Tryz.func107, by kernel_rfl, by kernel_rfl⟩
theorem v_szLks (s : Lks) (left : Int) (h :
    ∃ (x : r_szLckS.ι), (((EqL lckRow s.held x.fst) ∧ left = x.snd ∧ True) ∧ Left x.snd ∧ Lim x.fst.length) ∧ (decide (rem x.snd x.fst.length < (0 : Int)) = true → (-1 : Int) = rem left (bulkLks s)) ∧ (decide (rem x.snd x.fst.length <
    (0 : Int)) = false → ∃ (x_1 : r_szWtS.ι), (((EqL wtRow s.waits x_1.fst) ∧ rem x.snd x.fst.length = x_1.snd ∧ True) ∧ Left x_1.snd ∧ Lim x_1.fst.length) ∧ (decide (rem x_1.snd x_1.fst.length < (0 : Int)) = true → (-1 : Int) = rem
    left (bulkLks s)) ∧ (decide (rem x_1.snd x_1.fst.length < (0 : Int)) = false → rem x_1.snd x_1.fst.length = rem left (bulkLks s)))) :
    PureFn Tryz.prog 107 [.agg s.ts, .int .i64 left] (.int .i64 (rem left (bulkLks s))) :=
  vcR (code := b_szLks) (gC szLckS_ok call_szLckS (gC szWtS_ok call_szWtS gN)) Tryz.func107 (by kernel_rfl) (by kernel_rfl) noAnn h (by kernel_rfl)
theorem szLks_ok : ConOk Tryz.prog 107 k_szLks := by
  rintro ⟨s, left⟩ ⟨hl, h0, h1⟩
  simp only at hl h0 h1
  have e : bulkLks s = s.held.length + s.waits.length := rfl
  refine v_szLks s left ⟨(s.held, left), ⟨⟨⟨rfl, rowsR _ _⟩, rfl, trivial⟩, hl, h0⟩, fun h => (rem_neg (of_decide_eq_true h) (by (try dsimp only); omega)).symm, fun h => ?_⟩
  obtain ⟨q1, l1⟩ := rem_add (b := s.waits.length) (of_decide_eq_false h) hl rfl
  refine ⟨(s.waits, rem left (s.held.length)), ⟨⟨⟨rfl, rowsR _ _⟩, rfl, trivial⟩, l1, h1⟩, fun g => ?_, fun g => ?_⟩
  · simp only at g
    rw [q1] at g
    exact (rem_neg (of_decide_eq_true g) (by (try dsimp only); omega)).symm
  exact q1
def k_toLks : Con := .rel ⟨Lks, fun s => [.agg s.ts], fun s => .agg s.ts, SmLks⟩
noncomputable def b_toLks : Code := Tryz.f111.body.getD .skip
theorem call_toLks : Callable Tryz.prog 111 := ⟨_, Tryz.func111, by kernel_rfl, by kernel_rfl⟩
theorem v_toLks (s : Lks) (h :
    ∃ (x : r_toLckS.ι), (((s.held.length = List.length x ∧ RowsEq s.held.length (lckRow s.held) (lckRow x)) ∧ True) ∧ List.length x ≤ 1048576) ∧ ∃ (x_1 : r_toWtS.ι), (((s.waits.length = List.length x_1 ∧ RowsEq s.waits.length (wtRow
    s.waits) (wtRow x_1)) ∧ True) ∧ List.length x_1 ≤ 1048576) ∧ (List.length x = s.held.length ∧ RowsEq (List.length x) (lckRow x) (lckRow s.held)) ∧ (List.length x_1 = s.waits.length ∧ RowsEq (List.length x_1) (wtRow x_1) (wtRow
    s.waits)) ∧ True) :
    PureFn Tryz.prog 111 [.agg s.ts] (.agg s.ts) :=
  vcR (code := b_toLks) (gC toLckS_ok call_toLckS (gC toWtS_ok call_toWtS gN)) Tryz.func111 (by kernel_rfl) (by kernel_rfl) noAnn h (by kernel_rfl)
theorem toLks_ok : ConOk Tryz.prog 111 k_toLks := by
  rintro (s : Lks) ⟨h0, h1⟩
  exact v_toLks s ⟨s.held, ⟨⟨⟨rfl, rowsR _ _⟩, trivial⟩, h0⟩, s.waits, ⟨⟨⟨rfl, rowsR _ _⟩, trivial⟩, h1⟩, ⟨rfl, rowsR _ _⟩, ⟨rfl, rowsR _ _⟩, trivial⟩
def k_eqLks : Con := .rel ⟨Lks, fun s => [.agg s.ts, .agg s.ts], fun _ => .bool true, SmLks⟩
noncomputable def b_eqLks : Code := Tryz.f116.body.getD .skip
theorem call_eqLks : Callable Tryz.prog 116 := ⟨_, Tryz.func116, by kernel_rfl, by kernel_rfl⟩
theorem v_eqLks (s : Lks) (h :
    ∃ (x : r_eqLckS.ι), (((s.held.length = List.length x ∧ RowsEq s.held.length (lckRow s.held) (lckRow x)) ∧ (s.held.length = List.length x ∧ RowsEq s.held.length (lckRow s.held) (lckRow x)) ∧ True) ∧ List.length x ≤ 1048576) ∧
    (false = true → false = true) ∧ (false = false → ∃ (x : r_eqWtS.ι), (((s.waits.length = List.length x ∧ RowsEq s.waits.length (wtRow s.waits) (wtRow x)) ∧ (s.waits.length = List.length x ∧ RowsEq s.waits.length (wtRow s.waits)
    (wtRow x)) ∧ True) ∧ List.length x ≤ 1048576) ∧ (false = true → false = true) ∧ (false = false → true = true))) :
    PureFn Tryz.prog 116 [.agg s.ts, .agg s.ts] (.bool true) :=
  vcR (code := b_eqLks) (gC eqLckS_ok call_eqLckS (gC eqWtS_ok call_eqWtS gN)) Tryz.func116 (by kernel_rfl) (by kernel_rfl) noAnn h (by kernel_rfl)
theorem eqLks_ok : ConOk Tryz.prog 116 k_eqLks := by
  rintro (s : Lks) ⟨h0, h1⟩
  exact v_eqLks s ⟨s.held, ⟨⟨⟨rfl, rowsR _ _⟩, ⟨rfl, rowsR _ _⟩, trivial⟩, h0⟩, fun h => h, fun _ => ⟨s.waits, ⟨⟨⟨rfl, rowsR _ _⟩, ⟨rfl, rowsR _ _⟩, trivial⟩, h1⟩, fun h => h, fun _ => rfl⟩⟩
def bulkEng (s : Eng) : Nat := bulkS s.s + s.txs.length + bulkLks s.lk
def LmEng (s : Eng) : Prop := LmS s.s ∧ Lim s.txs.length ∧ LmLks s.lk
def SmEng (s : Eng) : Prop := SmS s.s ∧ s.txs.length ≤ 1048576 ∧ SmLks s.lk
def k_szEng : Con := .rel ⟨Eng × Int, fun x => [.agg x.1.ts, .int .i64 x.2], fun x => .int .i64 (rem x.2 (bulkEng x.1)), fun x => Left x.2 ∧ LmEng x.1⟩
noncomputable def b_szEng : Code := Tryz.f45.body.getD .skip
theorem call_szEng : Callable Tryz.prog 45 := ⟨_, Tryz.func45, by kernel_rfl, by kernel_rfl⟩
theorem v_szEng (s : Eng) (left : Int) (h :
    ∃ (x : r_szSto.ι), (((EqS s.s x.fst) ∧ left = x.snd ∧ True) ∧ Left x.snd ∧ LmS x.fst) ∧ (decide (rem x.snd (bulkS x.fst) < (0 : Int)) = true → (-1 : Int) = rem left (bulkEng s)) ∧ (decide (rem x.snd (bulkS x.fst) < (0 : Int)) =
    false → ∃ (x_1 : r_szTxnS.ι), (((EqL txnRow s.txs x_1.fst) ∧ rem x.snd (bulkS x.fst) = x_1.snd ∧ True) ∧ Left x_1.snd ∧ Lim x_1.fst.length) ∧ (decide (rem x_1.snd x_1.fst.length < (0 : Int)) = true → (-1 : Int) = rem left (bulkEng
    s)) ∧ (decide (rem x_1.snd x_1.fst.length < (0 : Int)) = false → ∃ (x : (Lks × Int)), ((((EqL lckRow s.lk.held x.fst.held) ∧ (EqL wtRow s.lk.waits x.fst.waits) ∧ True) ∧ rem x_1.snd x_1.fst.length = x.snd ∧ True) ∧ Left x.snd ∧
    LmLks x.fst) ∧ (decide (rem x.snd (bulkLks x.fst) < (0 : Int)) = true → (-1 : Int) = rem left (bulkEng s)) ∧ (decide (rem x.snd (bulkLks x.fst) < (0 : Int)) = false → rem x.snd (bulkLks x.fst) = rem left (bulkEng s))))) :
    PureFn Tryz.prog 45 [.agg s.ts, .int .i64 left] (.int .i64 (rem left (bulkEng s))) :=
  vcR (code := b_szEng) (gC szSto_ok call_szSto (gC szTxnS_ok call_szTxnS (gC szLks_ok call_szLks gN))) Tryz.func45 (by kernel_rfl) (by kernel_rfl) noAnn h (by kernel_rfl)
theorem szEng_ok : ConOk Tryz.prog 45 k_szEng := by
  rintro ⟨s, left⟩ ⟨hl, h0, h1, h2⟩
  simp only at hl h0 h1 h2
  have e : bulkEng s = bulkS s.s + s.txs.length + bulkLks s.lk := rfl
  refine v_szEng s left ⟨(s.s, left), ⟨⟨(eqS _), rfl, trivial⟩, hl, h0⟩, fun h => (rem_neg (of_decide_eq_true h) (by (try dsimp only); omega)).symm, fun h => ?_⟩
  obtain ⟨q1, l1⟩ := rem_add (b := s.txs.length) (of_decide_eq_false h) hl rfl
  refine ⟨(s.txs, rem left (bulkS s.s)), ⟨⟨⟨rfl, rowsR _ _⟩, rfl, trivial⟩, l1, h1⟩, fun g => ?_, fun g => ?_⟩
  · simp only at g
    rw [q1] at g
    exact (rem_neg (of_decide_eq_true g) (by (try dsimp only); omega)).symm
  simp only at g ⊢
  rw [q1] at g ⊢
  obtain ⟨q2, l2⟩ := rem_add (b := bulkLks s.lk) (of_decide_eq_false g) hl rfl
  refine ⟨(s.lk, rem left (bulkS s.s + s.txs.length)), ⟨⟨⟨⟨rfl, rowsR _ _⟩, ⟨rfl, rowsR _ _⟩, trivial⟩, rfl, trivial⟩, l2, h2⟩, fun g => ?_, fun g => ?_⟩
  · simp only at g
    rw [q2] at g
    exact (rem_neg (of_decide_eq_true g) (by (try dsimp only); omega)).symm
  exact q2
def k_toEng : Con := .rel ⟨Eng, fun s => [.agg s.ts], fun s => .agg s.ts, SmEng⟩
noncomputable def b_toEng : Code := Tryz.f47.body.getD .skip
theorem call_toEng : Callable Tryz.prog 47 := ⟨_, Tryz.func47, by kernel_rfl, by kernel_rfl⟩
theorem v_toEng (s : Eng) (h :
    ∃ (x : r_toSto.ι), (((EqS s.s x) ∧ True) ∧ SmS x) ∧ ∃ (x_1 : r_toTxnS.ι), (((s.txs.length = List.length x_1 ∧ RowsEq s.txs.length (txnRow s.txs) (txnRow x_1)) ∧ True) ∧ List.length x_1 ≤ 1048576) ∧ ∃ (x_2 : Lks), ((((EqL lckRow
    s.lk.held x_2.held) ∧ (EqL wtRow s.lk.waits x_2.waits) ∧ True) ∧ True) ∧ SmLks x_2) ∧ (EqL strRow x.d.sec s.s.d.sec) ∧ (EqL pendRow x.d.cache s.s.d.cache) ∧ x.d.armed = s.s.d.armed ∧ (EqL intRow x.d.keep s.s.d.keep) ∧ x.ep =
    s.s.ep ∧ (EqL recRow x.log s.s.log) ∧ x.sure = s.s.sure ∧ (EqL frmRow x.fr s.s.fr) ∧ x.hand = s.s.hand ∧ s.up = s.up ∧ (List.length x_1 = s.txs.length ∧ RowsEq (List.length x_1) (txnRow x_1) (txnRow s.txs)) ∧ (EqL lckRow x_2.held
    s.lk.held) ∧ (EqL wtRow x_2.waits s.lk.waits) ∧ s.next = s.next ∧ True) :
    PureFn Tryz.prog 47 [.agg s.ts] (.agg s.ts) :=
  vcR (code := b_toEng) (gC toSto_ok call_toSto (gC toTxnS_ok call_toTxnS (gC toLks_ok call_toLks gN))) Tryz.func47 (by kernel_rfl) (by kernel_rfl) noAnn h (by kernel_rfl)
theorem toEng_ok : ConOk Tryz.prog 47 k_toEng := by
  rintro (s : Eng) ⟨h0, h1, h2⟩
  exact v_toEng s ⟨s.s, ⟨⟨(eqS _), trivial⟩, h0⟩, s.txs, ⟨⟨⟨rfl, rowsR _ _⟩, trivial⟩, h1⟩, s.lk, ⟨⟨⟨⟨rfl, rowsR _ _⟩, ⟨rfl, rowsR _ _⟩, trivial⟩, trivial⟩, h2⟩, eqG _⟩
def k_eqEng : Con := .rel ⟨Eng, fun s => [.agg s.ts, .agg s.ts], fun _ => .bool true, SmEng⟩
noncomputable def b_eqEng : Code := Tryz.f49.body.getD .skip
theorem call_eqEng : Callable Tryz.prog 49 := ⟨_, Tryz.func49, by kernel_rfl, by kernel_rfl⟩
theorem v_eqEng (s : Eng) (h :
    ∃ (x : r_eqSto.ι), (((EqS s.s x) ∧ (EqS s.s x) ∧ True) ∧ SmS x) ∧ (false = true → false = true) ∧ (false = false → ((!s.up == s.up) = true → false = true) ∧ ((!s.up == s.up) = false → ∃ (x : r_eqTxnS.ι), (((s.txs.length =
    List.length x ∧ RowsEq s.txs.length (txnRow s.txs) (txnRow x)) ∧ (s.txs.length = List.length x ∧ RowsEq s.txs.length (txnRow s.txs) (txnRow x)) ∧ True) ∧ List.length x ≤ 1048576) ∧ (false = true → false = true) ∧ (false = false →
    ∃ (x : Lks), ((((EqL lckRow s.lk.held x.held) ∧ (EqL wtRow s.lk.waits x.waits) ∧ True) ∧ ((EqL lckRow s.lk.held x.held) ∧ (EqL wtRow s.lk.waits x.waits) ∧ True) ∧ True) ∧ SmLks x) ∧ (false = true → false = true) ∧ (false = false →
    ((s.next != s.next) = true → false = true) ∧ ((s.next != s.next) = false → true = true)))))) :
    PureFn Tryz.prog 49 [.agg s.ts, .agg s.ts] (.bool true) :=
  vcR (code := b_eqEng) (gC eqSto_ok call_eqSto (gC eqTxnS_ok call_eqTxnS (gC eqLks_ok call_eqLks gN))) Tryz.func49 (by kernel_rfl) (by kernel_rfl) noAnn h (by kernel_rfl)
theorem eqEng_ok : ConOk Tryz.prog 49 k_eqEng := by
  rintro (s : Eng) ⟨h0, h1, h2⟩
  exact v_eqEng s ⟨s.s, ⟨⟨(eqS _), (eqS _), trivial⟩, h0⟩, fun h => h, fun _ => ⟨fun h => by simp at h, fun _ => ⟨s.txs, ⟨⟨⟨rfl, rowsR _ _⟩, ⟨rfl, rowsR _ _⟩, trivial⟩, h1⟩, fun h => h, fun _ => ⟨s.lk, ⟨⟨⟨⟨rfl, rowsR _ _⟩, ⟨rfl, rowsR _ _⟩, trivial⟩, ⟨⟨rfl, rowsR _ _⟩, ⟨rfl, rowsR _ _⟩, trivial⟩, trivial⟩, h2⟩, fun h => h, fun _ => ⟨fun h => by simp at h, fun _ => rfl⟩⟩⟩⟩⟩
end Go.Proofs.YtjbomnjmcbhadaaGreat

