/- A part of the proof of a law: what functions of the program compute, shown by a calculus of symbolic states. -/
import Derived.Test.YtjbomnjmcbhadaaGreatE1
namespace Go.Proofs.YtjbomnjmcbhadaaGreat
open Go.SS

-- numbers in bytes
def beAt (l : List UInt8) : Nat → Nat
  | 0 => 0
  | i + 1 => beAt l i * 256 + (l.getD i 0).toNat
def be (l : List UInt8) : Nat := beAt l l.length
def Len4 (l : List UInt8) : Prop := l.length ≤ 4
def r_big : Rl := ⟨List UInt8, fun l => [.bys l], fun l => .int .i64 (be l), Len4⟩
def k_big : Con := .rel r_big
def r_l01Of : Rl := ⟨List UInt8, fun l => [.str l], fun l => .int .i64 (be l), Len4⟩
def k_l01Of : Con := .rel r_l01Of
def A_l01Of (l : List UInt8) : Nat → Ann
  | 0 => .one {i : Nat // i ≤ l.length} (fun x => ⟨[(0, .str l), (3, .int .i64 (beAt l x.1)), (4, .int .i64 x.1)], []⟩) (fun x => l.length - x.1) [] [] (fun _ => noAnn)
  | _ => .none
noncomputable def b_l01Of : Code := Tryz.f277.body.getD .skip
theorem call_l01Of : Callable Tryz.prog 277 := ⟨_, Tryz.func277, by kernel_rfl, by kernel_rfl⟩
set_option maxRecDepth 100000 in
theorem v_l01Of (l : List UInt8) (h :
    (∃ (x : { i : Nat // i ≤ l.length }), (l = l ∧ (0 : Int) = (↑(beAt l x.val) : Int) ∧ (0 : Int) = (↑x.val : Int) ∧ True) ∧ True) ∧ ∀ (x : { i : Nat // i ≤ l.length }), (decide ((↑x.val : Int) < (↑l.length : Int)) = true → Rng
    IntKind.i64 ((↑(beAt l x.val) : Int) * (256 : Int)) ∧ InB (↑x.val : Int) l.length ∧ Rng IntKind.i64 ((↑(beAt l x.val) : Int) * (256 : Int) + IntKind.i64.wrap (↑(l.getD (↑x.val : Int).toNat (0 : UInt8)).toNat : Int)) ∧ Rng
    IntKind.i64 ((↑x.val : Int) + (1 : Int)) ∧ ∃ (y : { i : Nat // i ≤ l.length }), ((l = l ∧ (↑(beAt l x.val) : Int) * (256 : Int) + IntKind.i64.wrap (↑(l.getD (↑x.val : Int).toNat (0 : UInt8)).toNat : Int) = (↑(beAt l y.val) : Int)
    ∧ (↑x.val : Int) + (1 : Int) = (↑y.val : Int) ∧ True) ∧ True) ∧ Lt (l.length - y.val) (l.length - x.val)) ∧ (decide ((↑x.val : Int) < (↑l.length : Int)) = false → (↑(beAt l x.val) : Int) = (↑(be l) : Int))) :
    PureFn Tryz.prog 277 [.str l] (.int .i64 (be l)) :=
  fn_vc mixed nil_ok nil_call Tryz.func277 (by kernel_rfl) (leB (by kernel_rfl)) (A_l01Of l) (Eq.mp (β := vcFn Tryz.prog [] Tryz.f277.ntmps Tryz.f277.results.toList b_l01Of [.str l] (.int .i64 (be l)) (A_l01Of l)) (by kernel_rfl) h)
def A_big (l : List UInt8) : Nat → Ann
  | 0 => .one {i : Nat // i ≤ l.length} (fun x => ⟨[(3, .int .i64 (beAt l x.1)), (6, .bys l), (7, .int .i64 l.length), (8, .int .i64 x.1)], []⟩) (fun x => l.length - x.1) [] [] (fun _ => noAnn)
  | _ => .none
noncomputable def b_big : Code := Tryz.f151.body.getD .skip
theorem call_big : Callable Tryz.prog 151 := ⟨_, Tryz.func151, by kernel_rfl, by kernel_rfl⟩
set_option maxRecDepth 100000 in
theorem v_big (l : List UInt8) (h :
    (∃ (x : { i : Nat // i ≤ l.length }), ((0 : Int) = (↑(beAt l x.val) : Int) ∧ l = l ∧ (↑l.length : Int) = (↑l.length : Int) ∧ (0 : Int) = (↑x.val : Int) ∧ True) ∧ True) ∧ ∀ (x : { i : Nat // i ≤ l.length }), (decide ((↑x.val : Int)
    < (↑l.length : Int)) = true → InB (↑x.val : Int) l.length ∧ Nn (8 : Int) ∧ Rng IntKind.i64 ((↑x.val : Int) + (1 : Int)) ∧ ∃ (y : { i : Nat // i ≤ l.length }), ((bits BinOp.or IntKind.i64 (IntKind.i64.wrap ((↑(beAt l x.val) : Int)
    * (256 : Int))) (IntKind.i64.wrap (↑(l.getD (↑x.val : Int).toNat (0 : UInt8)).toNat : Int)) = (↑(beAt l y.val) : Int) ∧ l = l ∧ (↑l.length : Int) = (↑l.length : Int) ∧ (↑x.val : Int) + (1 : Int) = (↑y.val : Int) ∧ True) ∧ True) ∧
    Lt (l.length - y.val) (l.length - x.val)) ∧ (decide ((↑x.val : Int) < (↑l.length : Int)) = false → (↑(beAt l x.val) : Int) = (↑(be l) : Int))) :
    PureFn Tryz.prog 151 [.bys l] (.int .i64 (be l)) :=
  fn_vc mixed nil_ok nil_call Tryz.func151 (by kernel_rfl) (leB (by kernel_rfl)) (A_big l) (Eq.mp (β := vcFn Tryz.prog [] Tryz.f151.ntmps Tryz.f151.results.toList b_big [.bys l] (.int .i64 (be l)) (A_big l)) (by kernel_rfl) h)
def A_unr (n : Nat) : Nat → Ann
  | 0 => .unr n (fun _ => noAnn)
  | _ => .none
def by4 (n : Nat) : List UInt8 := [ofI (IntKind.u8.wrap ((n : Int).fdiv 16777216)), ofI (IntKind.u8.wrap ((n : Int).fdiv 65536)), ofI (IntKind.u8.wrap ((n : Int).fdiv 256)), ofI (IntKind.u8.wrap ((n : Int).fdiv 1))]
def by2 (n : Nat) : List UInt8 := [ofI (IntKind.u8.wrap ((n : Int).fdiv 256)), ofI (IntKind.u8.wrap ((n : Int).fdiv 1))]
noncomputable def b_l01Number : Code := Tryz.f278.body.getD .skip
theorem call_l01Number : Callable Tryz.prog 278 := ⟨_, Tryz.func278, by kernel_rfl, by kernel_rfl⟩
set_option maxRecDepth 100000 in
theorem v_number4 (n : Nat) (h :
    Rng IntKind.i64 (3 : Int) ∧ (true = true → Rng IntKind.i64 (24 : Int) ∧ Nn (24 : Int) ∧ Rng IntKind.u8 (IntKind.u8.wrap ((↑n : Int).fdiv (16777216 : Int))) ∧ (Le (1 : Nat) (1 : Nat) ∧ Le (0 : Nat) (0 : Nat) ∧ AppB (0 : Nat) (1 :
    Nat) (1 : Nat)) ∧ Rng IntKind.i64 (2 : Int) ∧ (true = true → Rng IntKind.i64 (16 : Int) ∧ Nn (16 : Int) ∧ Rng IntKind.u8 (IntKind.u8.wrap ((↑n : Int).fdiv (65536 : Int))) ∧ (Le ((0 : Nat) + (1 : Nat)) (1 : Nat) ∧ Le ((0 : Nat) +
    (1 : Nat)) (1 : Nat) ∧ AppB ((0 : Nat) + (1 : Nat)) (1 : Nat) (1 : Nat)) ∧ Rng IntKind.i64 (1 : Int) ∧ (true = true → Rng IntKind.i64 (8 : Int) ∧ Nn (8 : Int) ∧ Rng IntKind.u8 (IntKind.u8.wrap ((↑n : Int).fdiv (256 : Int))) ∧ (Le
    ((0 : Nat) + (1 : Nat)) (1 : Nat) ∧ Le ((0 : Nat) + (1 : Nat) + (1 : Nat)) (2 : Nat) ∧ AppB ((0 : Nat) + (1 : Nat) + (1 : Nat)) (1 : Nat) (1 : Nat)) ∧ Rng IntKind.i64 (0 : Int) ∧ (true = true → Rng IntKind.i64 (0 : Int) ∧ Nn (0 :
    Int) ∧ Rng IntKind.u8 (IntKind.u8.wrap ((↑n : Int).fdiv (1 : Int))) ∧ (Le ((0 : Nat) + (1 : Nat)) (1 : Nat) ∧ Le ((0 : Nat) + (1 : Nat) + (1 : Nat) + (1 : Nat)) (3 : Nat) ∧ AppB ((0 : Nat) + (1 : Nat) + (1 : Nat) + (1 : Nat)) (1 :
    Nat) (1 : Nat)) ∧ Rng IntKind.i64 (-1 : Int) ∧ (false = true → Rng IntKind.i64 (-8 : Int) ∧ Nn (18446744073709551608 : Int) ∧ Rng IntKind.u8 (IntKind.u8.wrap ((↑n : Int).fdiv (18446744073709551616 : Int))) ∧ (Le ((0 : Nat) + (1 :
    Nat)) (1 : Nat) ∧ Le ((0 : Nat) + (1 : Nat) + (1 : Nat) + (1 : Nat) + (1 : Nat)) (4 : Nat) ∧ AppB ((0 : Nat) + (1 : Nat) + (1 : Nat) + (1 : Nat) + (1 : Nat)) (1 : Nat) (1 : Nat)) ∧ Rng IntKind.i64 (-2 : Int) ∧ False) ∧ (false =
    false → Le (4 : Nat) (4 : Nat) ∧ List.take ((0 : Nat) + (1 : Nat) + (1 : Nat) + (1 : Nat) + (1 : Nat)) (List.drop (0 : Nat) (List.take ((0 : Nat) + (1 : Nat) + (1 : Nat) + (1 : Nat)) (List.take ((0 : Nat) + (1 : Nat) + (1 : Nat))
    (List.take ((0 : Nat) + (1 : Nat)) (List.take (0 : Nat) (List.map ofI []) ++ List.take (1 : Nat) (List.drop (0 : Nat) (List.map ofI [IntKind.u8.wrap ((↑n : Int).fdiv (16777216 : Int))]))) ++ List.take (1 : Nat) (List.drop (0 :
    Nat) (List.map ofI [IntKind.u8.wrap ((↑n : Int).fdiv (65536 : Int))]))) ++ List.take (1 : Nat) (List.drop (0 : Nat) (List.map ofI [IntKind.u8.wrap ((↑n : Int).fdiv (256 : Int))]))) ++ List.take (1 : Nat) (List.drop (0 : Nat)
    (List.map ofI [IntKind.u8.wrap ((↑n : Int).fdiv (1 : Int))])))) = by4 n)) ∧ (true = false → Le (3 : Nat) (3 : Nat) ∧ List.take ((0 : Nat) + (1 : Nat) + (1 : Nat) + (1 : Nat)) (List.drop (0 : Nat) (List.take ((0 : Nat) + (1 : Nat)
    + (1 : Nat)) (List.take ((0 : Nat) + (1 : Nat)) (List.take (0 : Nat) (List.map ofI []) ++ List.take (1 : Nat) (List.drop (0 : Nat) (List.map ofI [IntKind.u8.wrap ((↑n : Int).fdiv (16777216 : Int))]))) ++ List.take (1 : Nat)
    (List.drop (0 : Nat) (List.map ofI [IntKind.u8.wrap ((↑n : Int).fdiv (65536 : Int))]))) ++ List.take (1 : Nat) (List.drop (0 : Nat) (List.map ofI [IntKind.u8.wrap ((↑n : Int).fdiv (256 : Int))])))) = by4 n)) ∧ (true = false → Le
    (2 : Nat) (2 : Nat) ∧ List.take ((0 : Nat) + (1 : Nat) + (1 : Nat)) (List.drop (0 : Nat) (List.take ((0 : Nat) + (1 : Nat)) (List.take (0 : Nat) (List.map ofI []) ++ List.take (1 : Nat) (List.drop (0 : Nat) (List.map ofI
    [IntKind.u8.wrap ((↑n : Int).fdiv (16777216 : Int))]))) ++ List.take (1 : Nat) (List.drop (0 : Nat) (List.map ofI [IntKind.u8.wrap ((↑n : Int).fdiv (65536 : Int))])))) = by4 n)) ∧ (true = false → Le (1 : Nat) (1 : Nat) ∧ List.take
    ((0 : Nat) + (1 : Nat)) (List.drop (0 : Nat) (List.take (0 : Nat) (List.map ofI []) ++ List.take (1 : Nat) (List.drop (0 : Nat) (List.map ofI [IntKind.u8.wrap ((↑n : Int).fdiv (16777216 : Int))])))) = by4 n)) ∧ (true = false → Le
    (0 : Nat) (0 : Nat) ∧ List.take (0 : Nat) (List.drop (0 : Nat) (List.map ofI [])) = by4 n)) :
    PureFn Tryz.prog 278 [.int .i64 n, .int .i64 4] (.bys (by4 n)) :=
  fn_vc mixed nil_ok nil_call Tryz.func278 (by kernel_rfl) (leB (by kernel_rfl)) (A_unr 5) (Eq.mp (β := vcFn Tryz.prog [] Tryz.f278.ntmps Tryz.f278.results.toList b_l01Number [.int .i64 n, .int .i64 4] (.bys (by4 n)) (A_unr 5)) (by kernel_rfl) h)
set_option maxRecDepth 100000 in
theorem v_number2 (n : Nat) (h :
    Rng IntKind.i64 (1 : Int) ∧ (true = true → Rng IntKind.i64 (8 : Int) ∧ Nn (8 : Int) ∧ Rng IntKind.u8 (IntKind.u8.wrap ((↑n : Int).fdiv (256 : Int))) ∧ (Le (1 : Nat) (1 : Nat) ∧ Le (0 : Nat) (0 : Nat) ∧ AppB (0 : Nat) (1 : Nat) (1
    : Nat)) ∧ Rng IntKind.i64 (0 : Int) ∧ (true = true → Rng IntKind.i64 (0 : Int) ∧ Nn (0 : Int) ∧ Rng IntKind.u8 (IntKind.u8.wrap ((↑n : Int).fdiv (1 : Int))) ∧ (Le ((0 : Nat) + (1 : Nat)) (1 : Nat) ∧ Le ((0 : Nat) + (1 : Nat)) (1 :
    Nat) ∧ AppB ((0 : Nat) + (1 : Nat)) (1 : Nat) (1 : Nat)) ∧ Rng IntKind.i64 (-1 : Int) ∧ (false = true → Rng IntKind.i64 (-8 : Int) ∧ Nn (18446744073709551608 : Int) ∧ Rng IntKind.u8 (IntKind.u8.wrap ((↑n : Int).fdiv
    (18446744073709551616 : Int))) ∧ (Le ((0 : Nat) + (1 : Nat)) (1 : Nat) ∧ Le ((0 : Nat) + (1 : Nat) + (1 : Nat)) (2 : Nat) ∧ AppB ((0 : Nat) + (1 : Nat) + (1 : Nat)) (1 : Nat) (1 : Nat)) ∧ Rng IntKind.i64 (-2 : Int) ∧ False) ∧
    (false = false → Le (2 : Nat) (2 : Nat) ∧ List.take ((0 : Nat) + (1 : Nat) + (1 : Nat)) (List.drop (0 : Nat) (List.take ((0 : Nat) + (1 : Nat)) (List.take (0 : Nat) (List.map ofI []) ++ List.take (1 : Nat) (List.drop (0 : Nat)
    (List.map ofI [IntKind.u8.wrap ((↑n : Int).fdiv (256 : Int))]))) ++ List.take (1 : Nat) (List.drop (0 : Nat) (List.map ofI [IntKind.u8.wrap ((↑n : Int).fdiv (1 : Int))])))) = by2 n)) ∧ (true = false → Le (1 : Nat) (1 : Nat) ∧
    List.take ((0 : Nat) + (1 : Nat)) (List.drop (0 : Nat) (List.take (0 : Nat) (List.map ofI []) ++ List.take (1 : Nat) (List.drop (0 : Nat) (List.map ofI [IntKind.u8.wrap ((↑n : Int).fdiv (256 : Int))])))) = by2 n)) ∧ (true = false
    → Le (0 : Nat) (0 : Nat) ∧ List.take (0 : Nat) (List.drop (0 : Nat) (List.map ofI [])) = by2 n)) :
    PureFn Tryz.prog 278 [.int .i64 n, .int .i64 2] (.bys (by2 n)) :=
  fn_vc mixed nil_ok nil_call Tryz.func278 (by kernel_rfl) (leB (by kernel_rfl)) (A_unr 3) (Eq.mp (β := vcFn Tryz.prog [] Tryz.f278.ntmps Tryz.f278.results.toList b_l01Number [.int .i64 n, .int .i64 2] (.bys (by2 n)) (A_unr 3)) (by kernel_rfl) h)
theorem u8_rng (x : Int) : Rng .u8 (IntKind.u8.wrap x) := by
  rw [IntKind.wrap_u8]
  unfold Rng IntKind.min IntKind.max IntKind.signed IntKind.bits
  have := Int.emod_nonneg x (show (256 : Int) ≠ 0 by decide)
  have := Int.emod_lt_of_pos x (show (0 : Int) < 256 by decide)
  simp
  omega
theorem rng_u8 (n : Int) : Rng .u8 n ↔ (0 ≤ n ∧ n ≤ 255) := by
  unfold Rng IntKind.min IntKind.max IntKind.signed IntKind.bits
  simp
def r_number : Rl := ⟨Nat × Bool, fun x => [.int .i64 x.1, .int .i64 (match x.2 with | true => 4 | false => 2)], fun x => .bys (match x.2 with | true => by4 x.1 | false => by2 x.1), fun _ => True⟩
def k_l01Number : Con := .rel r_number
theorem l01Number_ok : ConOk Tryz.prog 278 k_l01Number := by
  rintro ⟨n, b⟩ _
  cases b
  · refine v_number2 n ?_
    simp [i64_rng, u8_rng, Nn, Le, AppB, by2]
  · refine v_number4 n ?_
    simp [i64_rng, u8_rng, Nn, Le, AppB, by4]
theorem byte_nat (l : List UInt8) (i : Nat) : IntKind.i64.wrap ((l.getD i 0).toNat : Int) = ((l.getD i 0).toNat : Int) := wrap_byte _
theorem beAt_lt (l : List UInt8) : ∀ i, beAt l i < 256 ^ i
  | 0 => by simp [beAt]
  | i + 1 => by
    have h1 := beAt_lt l i
    have h2 := byte_lt l i
    simp only [beAt, Nat.pow_succ]
    omega
theorem beAt_le4 (l : List UInt8) {i : Nat} (h : i ≤ 4) : beAt l i < 4294967296 :=
  Nat.lt_of_lt_of_le (beAt_lt l i) (Nat.pow_le_pow_right (n := 256) (by decide) h)
theorem beAt_le3 (l : List UInt8) {i : Nat} (h : i < 4) : beAt l i < 16777216 :=
  Nat.lt_of_lt_of_le (beAt_lt l i) (Nat.pow_le_pow_right (n := 256) (by decide) (show i ≤ 3 by omega))
theorem l01Of_ok : ConOk Tryz.prog 277 k_l01Of := by
  intro (l : List UInt8) (hl : l.length ≤ 4)
  refine v_l01Of l ⟨⟨⟨0, Nat.zero_le _⟩, ⟨rfl, rfl, rfl, trivial⟩, trivial⟩, fun x => ⟨fun hc => ?_, fun hc => ?_⟩⟩
  · have hlt := lt_of_dec hc
    have hb := byte_lt l x.val
    have hr := beAt_le3 l (show x.val < 4 by omega)
    rw [Int.toNat_natCast, byte_nat]
    refine ⟨i64_rng (by omega), inB_nat hlt, i64_rng (by omega), add_rng hlt (by omega), ⟨x.val + 1, hlt⟩, ⟨⟨rfl, ?_, by simp only; omega, trivial⟩, trivial⟩, Cnt.ext_lt hlt⟩
    simp only [beAt]
    omega
  · have hx : x.val = l.length := by have := x.2; have := le_of_not hc; omega
    rw [hx]
    rfl
theorem big_ok : ConOk Tryz.prog 151 k_big := by
  intro (l : List UInt8) (hl : l.length ≤ 4)
  refine v_big l ⟨⟨⟨0, Nat.zero_le _⟩, ⟨rfl, rfl, rfl, rfl, trivial⟩, trivial⟩, fun x => ⟨fun hc => ?_, fun hc => ?_⟩⟩
  · have hlt := lt_of_dec hc
    have hb := byte_lt l x.val
    have hr := beAt_le3 l (show x.val < 4 by omega)
    rw [Int.toNat_natCast, byte_nat, show ((beAt l x.val : Nat) : Int) * 256 = ((beAt l x.val * 256 : Nat) : Int) by omega, wrap_32 (.inl rfl) (by omega), or_32 (.inl rfl) (by omega) (by omega)]
    refine ⟨inB_nat hlt, by unfold Nn; omega, add_rng hlt (by omega), ⟨x.val + 1, hlt⟩, ⟨⟨?_, rfl, rfl, by simp only; omega, trivial⟩, trivial⟩, Cnt.ext_lt hlt⟩
    have := Nat.two_pow_add_eq_or_of_lt (i := 8) (b := (l.getD x.val 0).toNat) hb (beAt l x.val)
    rw [show beAt l x.val * 256 = 2 ^ 8 * beAt l x.val by omega, ← this]
    simp only [beAt]
    omega
  · have hx : x.val = l.length := by have := x.2; have := le_of_not hc; omega
    rw [hx]
    rfl
-- what is sealed
def unsOK (b : List UInt8) : Bool := decide (4 ≤ b.length) && crc (b.take (b.length - 4)) == be (b.drop (b.length - 4))
def unsB (b : List UInt8) : List UInt8 := if unsOK b then b.take (b.length - 4) else []
def r_unsealed : Rl := ⟨List UInt8, fun b => [.bys b], fun b => .tup [.bys (unsB b), .bool (unsOK b)], Len31⟩
def k_unsealed : Con := .rel r_unsealed
noncomputable def b_unsealed : Code := Tryz.f69.body.getD .skip
theorem call_unsealed : Callable Tryz.prog 69 := ⟨_, Tryz.func69, by kernel_rfl, by kernel_rfl⟩
set_option maxRecDepth 100000 in
theorem v_unsealed (b : List UInt8) (h :
    Rng IntKind.i64 ((↑b.length : Int) - (4 : Int)) ∧ (decide ((↑b.length : Int) - (4 : Int) < (0 : Int)) = false → InC ((↑b.length : Int) - (4 : Int)) b.length) ∧ ∃ (x : (r_check IntKind.u32).ι), (decide ((↑b.length : Int) - (4 :
    Int) < (0 : Int)) = false → (List.take ((↑b.length : Int) - (4 : Int)).toNat b = x ∧ True) ∧ Len31 x) ∧ (decide ((↑b.length : Int) - (4 : Int) < (0 : Int)) = false → InC ((↑b.length : Int) - (4 : Int)) b.length) ∧ ∃ (x_1 :
    r_big.ι), (decide ((↑b.length : Int) - (4 : Int) < (0 : Int)) = false → (List.drop ((↑b.length : Int) - (4 : Int)).toNat b = x_1 ∧ True) ∧ Len4 x_1) ∧ ((decide ((↑b.length : Int) - (4 : Int) < (0 : Int)) || IntKind.i64.wrap (↑(crc
    x) : Int) != (↑(be x_1) : Int)) = true → unsB b = [] ∧ false = unsOK b ∧ True) ∧ ((decide ((↑b.length : Int) - (4 : Int) < (0 : Int)) || IntKind.i64.wrap (↑(crc x) : Int) != (↑(be x_1) : Int)) = false → InC ((↑b.length : Int) - (4
    : Int)) b.length ∧ List.take ((↑b.length : Int) - (4 : Int)).toNat b = unsB b ∧ true = unsOK b ∧ True)) :
    PureFn Tryz.prog 69 [.bys b] (.tup [.bys (unsB b), .bool (unsOK b)]) :=
  fn_vc mixed (cons_ok check32_ok (cons_ok big_ok nil_ok)) (cons_call call_check32 (cons_call call_big nil_call)) Tryz.func69 (by kernel_rfl) (leB (by kernel_rfl)) noAnn (Eq.mp (β := vcFn Tryz.prog [(150, k_check32), (151, k_big)] Tryz.f69.ntmps Tryz.f69.results.toList b_unsealed [.bys b] (.tup [.bys (unsB b), .bool (unsOK b)]) noAnn) (by kernel_rfl) h)
def r_unseal : Rl := ⟨List UInt8, fun b => [.str b], fun b => .tup [.str (unsB b), .bool (unsOK b)], Len31⟩
def k_l03Unseal : Con := .rel r_unseal
noncomputable def b_l03Unseal : Code := Tryz.f275.body.getD .skip
theorem call_l03Unseal : Callable Tryz.prog 275 := ⟨_, Tryz.func275, by kernel_rfl, by kernel_rfl⟩
set_option maxRecDepth 100000 in
theorem v_l03Unseal (b : List UInt8) (h :
    Rng IntKind.i64 ((↑b.length : Int) - (4 : Int)) ∧ (decide ((↑b.length : Int) - (4 : Int) < (0 : Int)) = false → InC ((↑b.length : Int) - (4 : Int)) b.length) ∧ (decide ((↑b.length : Int) - (4 : Int) < (0 : Int)) = false → Lt
    (List.take ((↑b.length : Int) - (4 : Int)).toNat b).length (140737488355329 : Nat)) ∧ ∃ (x : (r_check IntKind.i64).ι), (decide ((↑b.length : Int) - (4 : Int) < (0 : Int)) = false → (List.take ((↑b.length : Int) - (4 : Int)).toNat
    b = x ∧ True) ∧ Len31 x) ∧ (decide ((↑b.length : Int) - (4 : Int) < (0 : Int)) = false → InC ((↑b.length : Int) - (4 : Int)) b.length) ∧ ∃ (x_1 : r_l01Of.ι), (decide ((↑b.length : Int) - (4 : Int) < (0 : Int)) = false → (List.drop
    ((↑b.length : Int) - (4 : Int)).toNat b = x_1 ∧ True) ∧ Len4 x_1) ∧ ((decide ((↑b.length : Int) - (4 : Int) < (0 : Int)) || (↑(crc x) : Int) != (↑(be x_1) : Int)) = true → [] = unsB b ∧ false = unsOK b ∧ True) ∧ ((decide
    ((↑b.length : Int) - (4 : Int) < (0 : Int)) || (↑(crc x) : Int) != (↑(be x_1) : Int)) = false → InC ((↑b.length : Int) - (4 : Int)) b.length ∧ List.take ((↑b.length : Int) - (4 : Int)).toNat b = unsB b ∧ true = unsOK b ∧ True)) :
    PureFn Tryz.prog 275 [.str b] (.tup [.str (unsB b), .bool (unsOK b)]) :=
  fn_vc mixed (cons_ok l01Check_ok (cons_ok l01Of_ok nil_ok)) (cons_call call_l01Check (cons_call call_l01Of nil_call)) Tryz.func275 (by kernel_rfl) (leB (by kernel_rfl)) noAnn (Eq.mp (β := vcFn Tryz.prog [(279, k_l01Check), (277, k_l01Of)] Tryz.f275.ntmps Tryz.f275.results.toList b_l03Unseal [.str b] (.tup [.str (unsB b), .bool (unsOK b)]) noAnn) (by kernel_rfl) h)
theorem unsealed_ok : ConOk Tryz.prog 69 k_unsealed := by
  intro (b : List UInt8) (hl : b.length ≤ 1000000000)
  have hd : ∀ {p : Prop}, (decide ((b.length : Int) - 4 < 0) = false → p) ↔ (4 ≤ b.length → p) := fun {p} => ⟨fun h g => h (decide_eq_false (by omega)), fun h g => h (by have := of_decide_eq_false g; omega)⟩
  refine v_unsealed b ?_
  refine ⟨i64_rng (by omega), hd.2 fun h4 => ⟨by omega, by omega⟩, b.take (b.length - 4), hd.2 ?_, hd.2 fun h4 => ⟨by omega, by omega⟩, b.drop (b.length - 4), hd.2 ?_, ?_⟩
  · exact fun h4 => ⟨⟨by rw [show ((b.length : Int) - 4).toNat = b.length - 4 by omega], trivial⟩, by unfold Len31; simp; omega⟩
  · exact fun h4 => ⟨⟨by rw [show ((b.length : Int) - 4).toNat = b.length - 4 by omega], trivial⟩, by unfold Len4; simp; omega⟩
  have e : (decide ((b.length : Int) - 4 < 0) || IntKind.i64.wrap (crc (b.take (b.length - 4)) : Int) != (be (b.drop (b.length - 4)) : Int)) = !unsOK b := by
    rw [wrap_32 (.inl rfl) (crc_lt _)]
    unfold unsOK
    rw [Bool.eq_iff_iff]
    simp
    omega
  rw [e]
  refine ⟨fun h => ?_, fun h => ?_⟩
  · have h : unsOK b = false := by simpa using h
    exact ⟨by simp [unsB, h], h.symm, trivial⟩
  · have h : unsOK b = true := by simpa using h
    have h4 : 4 ≤ b.length := by simp [unsOK] at h; exact h.1
    exact ⟨⟨by omega, by omega⟩, by rw [show ((b.length : Int) - 4).toNat = b.length - 4 by omega]; simp [unsB, h], h.symm, trivial⟩
theorem l03Unseal_ok : ConOk Tryz.prog 275 k_l03Unseal := by
  intro (b : List UInt8) (hl : b.length ≤ 1000000000)
  have hd : ∀ {p : Prop}, (decide ((b.length : Int) - 4 < 0) = false → p) ↔ (4 ≤ b.length → p) := fun {p} => ⟨fun h g => h (decide_eq_false (by omega)), fun h g => h (by have := of_decide_eq_false g; omega)⟩
  refine v_l03Unseal b ?_
  refine ⟨i64_rng (by omega), hd.2 fun h4 => ⟨by omega, by omega⟩, hd.2 fun h4 => by unfold Lt; simp; omega, b.take (b.length - 4), hd.2 ?_, hd.2 fun h4 => ⟨by omega, by omega⟩, b.drop (b.length - 4), hd.2 ?_, ?_⟩
  · exact fun h4 => ⟨⟨by rw [show ((b.length : Int) - 4).toNat = b.length - 4 by omega], trivial⟩, by unfold Len31; simp; omega⟩
  · exact fun h4 => ⟨⟨by rw [show ((b.length : Int) - 4).toNat = b.length - 4 by omega], trivial⟩, by unfold Len4; simp; omega⟩
  have e : (decide ((b.length : Int) - 4 < 0) || (crc (b.take (b.length - 4)) : Int) != (be (b.drop (b.length - 4)) : Int)) = !unsOK b := by
    unfold unsOK
    rw [Bool.eq_iff_iff]
    simp
    omega
  rw [e]
  refine ⟨fun h => ?_, fun h => ?_⟩
  · have h : unsOK b = false := by simpa using h
    exact ⟨by simp [unsB, h], h.symm, trivial⟩
  · have h : unsOK b = true := by simpa using h
    have h4 : 4 ≤ b.length := by simp [unsOK] at h; exact h.1
    exact ⟨⟨by omega, by omega⟩, by rw [show ((b.length : Int) - 4).toNat = b.length - 4 by omega]; simp [unsB, h], h.symm, trivial⟩
end Go.Proofs.YtjbomnjmcbhadaaGreat

