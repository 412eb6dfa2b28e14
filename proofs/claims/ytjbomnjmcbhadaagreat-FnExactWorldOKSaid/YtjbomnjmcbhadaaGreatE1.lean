/- A part of the proof of a law: what functions of the program compute, shown by a calculus of symbolic states. -/
import Derived.Test.YtjbomnjmcbhadaaGreatD8
import Derived.Laws.BitsLemmas
namespace Go.Proofs.YtjbomnjmcbhadaaGreat
open Go.SS

-- the sum of bytes
theorem xor_lt32 {a b : Nat} (ha : a < 4294967296) (hb : b < 4294967296) : a ^^^ b < 4294967296 := Nat.xor_lt_two_pow (n := 32) ha hb
theorem and_lt32 {a b : Nat} (hb : b < 4294967296) : a &&& b < 4294967296 := Nat.and_lt_two_pow (n := 32) a hb
theorem or_lt32 {a b : Nat} (ha : a < 4294967296) (hb : b < 4294967296) : a ||| b < 4294967296 := Nat.or_lt_two_pow (n := 32) ha hb
theorem ofInt_32 {k : IntKind} (hk : k = .i64 ∨ k = .u32) {n : Nat} (hn : n < 4294967296) : (BitVec.ofInt k.bits (n : Int)).toNat = n := by
  rw [BitVec.ofInt_natCast, BitVec.toNat_ofNat]
  refine Nat.mod_eq_of_lt ?_
  rcases hk with rfl | rfl
  · exact Nat.lt_trans hn (by decide)
  · exact hn
theorem wrap_32 {k : IntKind} (hk : k = .i64 ∨ k = .u32) {n : Nat} (hn : n < 4294967296) : k.wrap (n : Int) = n := by
  rcases hk with rfl | rfl
  · rw [IntKind.wrap_i64]; omega
  · rw [IntKind.wrap_u32]; omega
theorem xor_32 {k : IntKind} (hk : k = .i64 ∨ k = .u32) {a b : Nat} (ha : a < 4294967296) (hb : b < 4294967296) : bits .xor k (a : Int) (b : Int) = ((a ^^^ b : Nat) : Int) := by
  show k.wrap ((BitVec.ofInt k.bits (a : Int) ^^^ BitVec.ofInt k.bits (b : Int)).toNat : Int) = _
  rw [BitVec.toNat_xor, ofInt_32 hk ha, ofInt_32 hk hb, wrap_32 hk (xor_lt32 ha hb)]
theorem and_32 {k : IntKind} (hk : k = .i64 ∨ k = .u32) {a b : Nat} (ha : a < 4294967296) (hb : b < 4294967296) : bits .and k (a : Int) (b : Int) = ((a &&& b : Nat) : Int) := by
  show k.wrap ((BitVec.ofInt k.bits (a : Int) &&& BitVec.ofInt k.bits (b : Int)).toNat : Int) = _
  rw [BitVec.toNat_and, ofInt_32 hk ha, ofInt_32 hk hb, wrap_32 hk (and_lt32 hb)]
theorem or_32 {k : IntKind} (hk : k = .i64 ∨ k = .u32) {a b : Nat} (ha : a < 4294967296) (hb : b < 4294967296) : bits .or k (a : Int) (b : Int) = ((a ||| b : Nat) : Int) := by
  show k.wrap ((BitVec.ofInt k.bits (a : Int) ||| BitVec.ofInt k.bits (b : Int)).toNat : Int) = _
  rw [BitVec.toNat_or, ofInt_32 hk ha, ofInt_32 hk hb, wrap_32 hk (or_lt32 ha hb)]
def crcBit (r : Nat) : Nat := (r / 2) ^^^ (r % 2 * 3988292384)
def crcByte (r c : Nat) : Nat → Nat
  | 0 => r ^^^ c
  | k + 1 => crcBit (crcByte r c k)
def crcAt (l : List UInt8) : Nat → Nat
  | 0 => 4294967295
  | i + 1 => crcByte (crcAt l i) (l.getD i 0).toNat 8
def crc (l : List UInt8) : Nat := crcAt l l.length ^^^ 4294967295
theorem crcBit_lt {r : Nat} (h : r < 4294967296) : crcBit r < 4294967296 := by
  have : r % 2 * 3988292384 < 2 ^ 32 := by have := Nat.mod_lt r (show 0 < 2 by decide); omega
  exact Nat.xor_lt_two_pow (n := 32) (by omega) this
theorem crcByte_lt {r c : Nat} (h : r < 4294967296) (hc : c < 256) : ∀ k, crcByte r c k < 4294967296
  | 0 => Nat.xor_lt_two_pow (n := 32) (by omega) (by omega)
  | k + 1 => crcBit_lt (crcByte_lt h hc k)
theorem byte_lt (l : List UInt8) (i : Nat) : (l.getD i 0).toNat < 256 := (l.getD i 0).toNat_lt
theorem crcAt_lt (l : List UInt8) : ∀ i, crcAt l i < 4294967296
  | 0 => show 4294967295 < 4294967296 by decide
  | i + 1 => crcByte_lt (crcAt_lt l i) (byte_lt l i) 8
theorem crc_lt (l : List UInt8) : crc l < 4294967296 := Nat.xor_lt_two_pow (n := 32) (crcAt_lt l _) (by decide)
def Len31 (l : List UInt8) : Prop := l.length ≤ 1000000000
def r_check (k : IntKind) : Rl := ⟨List UInt8, fun l => [.bys l], fun l => .int k (crc l), Len31⟩
def k_l01Check : Con := .rel (r_check .i64)
def k_check32 : Con := .rel (r_check .u32)
def A_l01Check (l : List UInt8) : Nat → Ann
  | 0 => .one {i : Nat // i ≤ l.length} (fun x => ⟨[(0, .bys l), (3, .int .i64 (crcAt l x.1)), (4, .int .i64 x.1)], []⟩) (fun x => l.length - x.1) [] [] (fun x => fun
    | 1 => .one {k : Nat // k ≤ 8} (fun y => ⟨[(0, .bys l), (3, .int .i64 (crcByte (crcAt l x.1) (l.getD x.1 0).toNat y.1)), (4, .int .i64 x.1), (5, .int .i64 y.1)], []⟩) (fun y => 8 - y.1) [] [] (fun _ => noAnn)
    | _ => .none)
  | _ => .none
noncomputable def b_l01Check : Code := Tryz.f279.body.getD .skip
theorem call_l01Check : Callable Tryz.prog 279 := ⟨_, Tryz.func279, by kernel_rfl, by kernel_rfl⟩
set_option maxRecDepth 100000 in
theorem v_l01Check (l : List UInt8) (h :
    (∃ (x : { i : Nat // i ≤ l.length }), (l = l ∧ (4294967295 : Int) = (↑(crcAt l x.val) : Int) ∧ (0 : Int) = (↑x.val : Int) ∧ True) ∧ True) ∧ ∀ (x : { i : Nat // i ≤ l.length }), (decide ((↑x.val : Int) < (↑l.length : Int)) = true →
    InB (↑x.val : Int) l.length ∧ (∃ (x_1 : { k : Nat // k ≤ (8 : Nat) }), (l = l ∧ bits BinOp.xor IntKind.i64 (↑(crcAt l x.val) : Int) (IntKind.i64.wrap (↑(l.getD (↑x.val : Int).toNat (0 : UInt8)).toNat : Int)) = (↑(crcByte (crcAt l
    x.val) (l.getD x.val (0 : UInt8)).toNat x_1.val) : Int) ∧ (↑x.val : Int) = (↑x.val : Int) ∧ (0 : Int) = (↑x_1.val : Int) ∧ True) ∧ True) ∧ ∀ (x_1 : { k : Nat // k ≤ (8 : Nat) }), (decide ((↑x_1.val : Int) < (8 : Int)) = true → Nn
    (1 : Int) ∧ Rng IntKind.i64 (bits BinOp.and IntKind.i64 (↑(crcByte (crcAt l x.val) (l.getD x.val (0 : UInt8)).toNat x_1.val) : Int) (1 : Int) * (3988292384 : Int)) ∧ Rng IntKind.i64 ((↑x_1.val : Int) + (1 : Int)) ∧ ∃ (y : { k :
    Nat // k ≤ (8 : Nat) }), ((l = l ∧ bits BinOp.xor IntKind.i64 ((↑(crcByte (crcAt l x.val) (l.getD x.val (0 : UInt8)).toNat x_1.val) : Int).fdiv (2 : Int)) (bits BinOp.and IntKind.i64 (↑(crcByte (crcAt l x.val) (l.getD x.val (0 :
    UInt8)).toNat x_1.val) : Int) (1 : Int) * (3988292384 : Int)) = (↑(crcByte (crcAt l x.val) (l.getD x.val (0 : UInt8)).toNat y.val) : Int) ∧ (↑x.val : Int) = (↑x.val : Int) ∧ (↑x_1.val : Int) + (1 : Int) = (↑y.val : Int) ∧ True) ∧
    True) ∧ Lt ((8 : Nat) - y.val) ((8 : Nat) - x_1.val)) ∧ (decide ((↑x_1.val : Int) < (8 : Int)) = false → Rng IntKind.i64 ((↑x.val : Int) + (1 : Int)) ∧ ∃ (y : { i : Nat // i ≤ l.length }), ((l = l ∧ (↑(crcByte (crcAt l x.val)
    (l.getD x.val (0 : UInt8)).toNat x_1.val) : Int) = (↑(crcAt l y.val) : Int) ∧ (↑x.val : Int) + (1 : Int) = (↑y.val : Int) ∧ True) ∧ True) ∧ Lt (l.length - y.val) (l.length - x.val))) ∧ (decide ((↑x.val : Int) < (↑l.length : Int))
    = false → bits BinOp.xor IntKind.i64 (↑(crcAt l x.val) : Int) (4294967295 : Int) = (↑(crc l) : Int))) :
    PureFn Tryz.prog 279 [.bys l] (.int .i64 (crc l)) :=
  fn_vc mixed nil_ok nil_call Tryz.func279 (by kernel_rfl) (leB (by kernel_rfl)) (A_l01Check l) (Eq.mp (β := vcFn Tryz.prog [] Tryz.f279.ntmps Tryz.f279.results.toList b_l01Check [.bys l] (.int .i64 (crc l)) (A_l01Check l)) (by kernel_rfl) h)
def A_check32 (l : List UInt8) : Nat → Ann
  | 0 => .one {i : Nat // i ≤ l.length} (fun x => ⟨[(3, .int .u32 (crcAt l x.1)), (6, .bys l), (7, .int .i64 l.length), (8, .int .i64 x.1)], []⟩) (fun x => l.length - x.1) [] [] (fun x => fun
    | 1 => .one {k : Nat // k ≤ 8} (fun y => ⟨[(3, .int .u32 (crcByte (crcAt l x.1) (l.getD x.1 0).toNat y.1)), (6, .bys l), (7, .int .i64 l.length), (8, .int .i64 x.1), (16, .int .i64 y.1)], []⟩) (fun y => 8 - y.1) [] [] (fun _ => noAnn)
    | _ => .none)
  | _ => .none
noncomputable def b_check32 : Code := Tryz.f150.body.getD .skip
theorem call_check32 : Callable Tryz.prog 150 := ⟨_, Tryz.func150, by kernel_rfl, by kernel_rfl⟩
set_option maxRecDepth 100000 in
theorem v_check32 (l : List UInt8) (h :
    (∃ (x : { i : Nat // i ≤ l.length }), ((4294967295 : Int) = (↑(crcAt l x.val) : Int) ∧ l = l ∧ (↑l.length : Int) = (↑l.length : Int) ∧ (0 : Int) = (↑x.val : Int) ∧ True) ∧ True) ∧ ∀ (x : { i : Nat // i ≤ l.length }), (decide
    ((↑x.val : Int) < (↑l.length : Int)) = true → InB (↑x.val : Int) l.length ∧ (∃ (x_1 : { k : Nat // k ≤ (8 : Nat) }), (bits BinOp.xor IntKind.u32 (↑(crcAt l x.val) : Int) (IntKind.u32.wrap (↑(l.getD (↑x.val : Int).toNat (0 :
    UInt8)).toNat : Int)) = (↑(crcByte (crcAt l x.val) (l.getD x.val (0 : UInt8)).toNat x_1.val) : Int) ∧ l = l ∧ (↑l.length : Int) = (↑l.length : Int) ∧ (↑x.val : Int) = (↑x.val : Int) ∧ (0 : Int) = (↑x_1.val : Int) ∧ True) ∧ True) ∧
    ∀ (x_1 : { k : Nat // k ≤ (8 : Nat) }), (decide ((↑x_1.val : Int) < (8 : Int)) = true → ((bits BinOp.and IntKind.u32 (↑(crcByte (crcAt l x.val) (l.getD x.val (0 : UInt8)).toNat x_1.val) : Int) (1 : Int) == (1 : Int)) = true → Nn
    (1 : Int) ∧ Rng IntKind.i64 ((↑x_1.val : Int) + (1 : Int)) ∧ ∃ (y : { k : Nat // k ≤ (8 : Nat) }), ((bits BinOp.xor IntKind.u32 ((↑(crcByte (crcAt l x.val) (l.getD x.val (0 : UInt8)).toNat x_1.val) : Int).fdiv (2 : Int))
    (3988292384 : Int) = (↑(crcByte (crcAt l x.val) (l.getD x.val (0 : UInt8)).toNat y.val) : Int) ∧ l = l ∧ (↑l.length : Int) = (↑l.length : Int) ∧ (↑x.val : Int) = (↑x.val : Int) ∧ (↑x_1.val : Int) + (1 : Int) = (↑y.val : Int) ∧
    True) ∧ True) ∧ Lt ((8 : Nat) - y.val) ((8 : Nat) - x_1.val)) ∧ ((bits BinOp.and IntKind.u32 (↑(crcByte (crcAt l x.val) (l.getD x.val (0 : UInt8)).toNat x_1.val) : Int) (1 : Int) == (1 : Int)) = false → Nn (1 : Int) ∧ Rng
    IntKind.i64 ((↑x_1.val : Int) + (1 : Int)) ∧ ∃ (y : { k : Nat // k ≤ (8 : Nat) }), (((↑(crcByte (crcAt l x.val) (l.getD x.val (0 : UInt8)).toNat x_1.val) : Int).fdiv (2 : Int) = (↑(crcByte (crcAt l x.val) (l.getD x.val (0 :
    UInt8)).toNat y.val) : Int) ∧ l = l ∧ (↑l.length : Int) = (↑l.length : Int) ∧ (↑x.val : Int) = (↑x.val : Int) ∧ (↑x_1.val : Int) + (1 : Int) = (↑y.val : Int) ∧ True) ∧ True) ∧ Lt ((8 : Nat) - y.val) ((8 : Nat) - x_1.val))) ∧
    (decide ((↑x_1.val : Int) < (8 : Int)) = false → Rng IntKind.i64 ((↑x.val : Int) + (1 : Int)) ∧ ∃ (y : { i : Nat // i ≤ l.length }), (((↑(crcByte (crcAt l x.val) (l.getD x.val (0 : UInt8)).toNat x_1.val) : Int) = (↑(crcAt l y.val)
    : Int) ∧ l = l ∧ (↑l.length : Int) = (↑l.length : Int) ∧ (↑x.val : Int) + (1 : Int) = (↑y.val : Int) ∧ True) ∧ True) ∧ Lt (l.length - y.val) (l.length - x.val))) ∧ (decide ((↑x.val : Int) < (↑l.length : Int)) = false → bits
    BinOp.xor IntKind.u32 (↑(crcAt l x.val) : Int) (4294967295 : Int) = (↑(crc l) : Int))) :
    PureFn Tryz.prog 150 [.bys l] (.int .u32 (crc l)) :=
  fn_vc mixed nil_ok nil_call Tryz.func150 (by kernel_rfl) (leB (by kernel_rfl)) (A_check32 l) (Eq.mp (β := vcFn Tryz.prog [] Tryz.f150.ntmps Tryz.f150.results.toList b_check32 [.bys l] (.int .u32 (crc l)) (A_check32 l)) (by kernel_rfl) h)
theorem and1_32 {k : IntKind} (hk : k = .i64 ∨ k = .u32) {r : Nat} (hr : r < 4294967296) : bits .and k (r : Int) 1 = ((r % 2 : Nat) : Int) := by
  rw [show (1 : Int) = ((1 : Nat) : Int) from rfl, and_32 hk hr (by decide), Nat.and_one_is_mod]
theorem fdiv2 (r : Nat) : (r : Int).fdiv 2 = ((r / 2 : Nat) : Int) := by
  rw [Int.fdiv_eq_ediv_of_nonneg _ (by omega)]
  omega
theorem l01Check_ok : ConOk Tryz.prog 279 k_l01Check := by
  intro (l : List UInt8) (hl : l.length ≤ 1000000000)
  have k1 : IntKind.i64 = .i64 ∨ IntKind.i64 = .u32 := .inl rfl
  refine v_l01Check l ⟨⟨⟨0, Nat.zero_le _⟩, ⟨rfl, rfl, rfl, trivial⟩, trivial⟩, fun x => ⟨fun hc => ?_, fun hc => ?_⟩⟩
  · have hlt := lt_of_dec hc
    have hr := crcAt_lt l x.val
    have hb := byte_lt l x.val
    refine ⟨inB_nat hlt, ⟨⟨0, by omega⟩, ⟨rfl, ?_, rfl, rfl, trivial⟩, trivial⟩, fun y => ⟨fun hd => ?_, fun hd => ?_⟩⟩
    · rw [Int.toNat_natCast, wrap_32 k1 (by omega), xor_32 k1 hr (by omega)]
      rfl
    · have hy : y.val < 8 := by have := of_decide_eq_true hd; omega
      have hq := crcByte_lt hr hb y.val
      have hm : crcByte (crcAt l x.val) (l.getD x.val 0).toNat y.val % 2 * 3988292384 < 4294967296 := by have := Nat.mod_lt (crcByte (crcAt l x.val) (l.getD x.val 0).toNat y.val) (show 0 < 2 by decide); omega
      rw [and1_32 k1 hq, fdiv2, show ((crcByte (crcAt l x.val) (l.getD x.val 0).toNat y.val % 2 : Nat) : Int) * 3988292384 = ((crcByte (crcAt l x.val) (l.getD x.val 0).toNat y.val % 2 * 3988292384 : Nat) : Int) by omega, xor_32 k1 (by omega) hm]
      refine ⟨by unfold Nn; omega, i64_rng (by omega), i64_rng (by omega), ⟨y.val + 1, hy⟩, ⟨⟨rfl, rfl, rfl, by simp only; omega, trivial⟩, trivial⟩, by unfold Lt; simp only; omega⟩
    · have hy : y.val = 8 := by have := y.2; have := of_decide_eq_false hd; omega
      refine ⟨add_rng hlt (by omega), ⟨x.val + 1, hlt⟩, ⟨⟨rfl, ?_, by simp only; omega, trivial⟩, trivial⟩, Cnt.ext_lt hlt⟩
      rw [hy]
      rfl
  · have hx : x.val = l.length := by have := x.2; have := le_of_not hc; omega
    rw [hx, show (4294967295 : Int) = ((4294967295 : Nat) : Int) from rfl, xor_32 k1 (crcAt_lt l _) (by decide)]
    rfl
theorem check32_ok : ConOk Tryz.prog 150 k_check32 := by
  intro (l : List UInt8) (hl : l.length ≤ 1000000000)
  have k1 : IntKind.u32 = .i64 ∨ IntKind.u32 = .u32 := .inr rfl
  refine v_check32 l ⟨⟨⟨0, Nat.zero_le _⟩, ⟨rfl, rfl, rfl, rfl, trivial⟩, trivial⟩, fun x => ⟨fun hc => ?_, fun hc => ?_⟩⟩
  · have hlt := lt_of_dec hc
    have hr := crcAt_lt l x.val
    have hb := byte_lt l x.val
    refine ⟨inB_nat hlt, ⟨⟨0, by omega⟩, ⟨?_, rfl, rfl, rfl, rfl, trivial⟩, trivial⟩, fun y => ⟨fun hd => ?_, fun hd => ?_⟩⟩
    · rw [Int.toNat_natCast, wrap_32 k1 (by omega), xor_32 k1 hr (by omega)]
      rfl
    · have hy : y.val < 8 := by have := of_decide_eq_true hd; omega
      have hq := crcByte_lt hr hb y.val
      rw [and1_32 k1 hq, fdiv2]
      refine ⟨fun ho => ⟨by unfold Nn; omega, i64_rng (by omega), ⟨y.val + 1, hy⟩, ⟨⟨?_, rfl, rfl, rfl, by simp only; omega, trivial⟩, trivial⟩, by unfold Lt; simp only; omega⟩,
        fun ho => ⟨by unfold Nn; omega, i64_rng (by omega), ⟨y.val + 1, hy⟩, ⟨⟨?_, rfl, rfl, rfl, by simp only; omega, trivial⟩, trivial⟩, by unfold Lt; simp only; omega⟩⟩
      · have ho : crcByte (crcAt l x.val) (l.getD x.val 0).toNat y.val % 2 = 1 := by rw [beq_iff_eq] at ho; omega
        rw [show (3988292384 : Int) = ((3988292384 : Nat) : Int) from rfl, xor_32 k1 (by omega) (by decide)]
        simp only [crcByte, crcBit, ho, Nat.one_mul]
      · have ho : crcByte (crcAt l x.val) (l.getD x.val 0).toNat y.val % 2 = 0 := by
          have : ¬ ((crcByte (crcAt l x.val) (l.getD x.val 0).toNat y.val % 2 : Nat) : Int) = 1 := by simpa using ho
          omega
        simp only [crcByte, crcBit, ho, Nat.zero_mul, Nat.xor_zero]
    · have hy : y.val = 8 := by have := y.2; have := of_decide_eq_false hd; omega
      refine ⟨add_rng hlt (by omega), ⟨x.val + 1, hlt⟩, ⟨⟨?_, rfl, rfl, by simp only; omega, trivial⟩, trivial⟩, Cnt.ext_lt hlt⟩
      rw [hy]
      rfl
  · have hx : x.val = l.length := by have := x.2; have := le_of_not hc; omega
    rw [hx, show (4294967295 : Int) = ((4294967295 : Nat) : Int) from rfl, xor_32 k1 (crcAt_lt l _) (by decide)]
    rfl
end Go.Proofs.YtjbomnjmcbhadaaGreat

