/- A part of the proof of a law: what functions of the program compute, shown by a calculus of symbolic states. -/
import Derived.Test.YtjbomnjmcbhadaaGreatRows
import Derived.Test.YtjbomnjmcbhadaaGreatSS19
namespace Go.Proofs.YtjbomnjmcbhadaaGreat
open Go.SS

/-- No loop. -/
def noAnn : Nat → Ann := fun _ => .none

theorem mixed : Tryz.prog.follows .mixedOrders = true := by kernel_rfl
theorem leB {a b : Nat} (h : Nat.ble a b = true) : a ≤ b := Nat.le_of_ble_eq_true h
theorem nil_ok : GamOk Tryz.prog [] := fun _ h => by cases h
theorem nil_call : ∀ x ∈ ([] : Gam), Callable Tryz.prog x.1 := fun _ h => by cases h
theorem cons_ok {f : FuncId} {c : Con} {G : Gam} (h : ConOk Tryz.prog f c) (k : GamOk Tryz.prog G) : GamOk Tryz.prog ((f, c) :: G) := fun x hx => by
  rcases List.mem_cons.1 hx with rfl | hx
  · exact h
  · exact k x hx
theorem cons_call {f : FuncId} {c : Con} {G : Gam} (h : Callable Tryz.prog f) (k : ∀ x ∈ G, Callable Tryz.prog x.1) : ∀ x ∈ (f, c) :: G, Callable Tryz.prog x.1 := fun x hx => by
  rcases List.mem_cons.1 hx with rfl | hx
  · exact h
  · exact k x hx
theorem i64_rng {n : Int} (h : -9223372036854775808 ≤ n ∧ n ≤ 9223372036854775807) : Rng .i64 n := by
  unfold Rng
  simp only [IntKind.min, IntKind.max, IntKind.bits, IntKind.signed]
  simp
  omega
theorem rng_i64 (n : Int) : Rng .i64 n ↔ (-9223372036854775808 ≤ n ∧ n ≤ 9223372036854775807) := by
  unfold Rng
  simp only [IntKind.min, IntKind.max, IntKind.bits, IntKind.signed]
  simp
theorem wrap_byte (x : UInt8) : IntKind.i64.wrap (x.toNat : Int) = x.toNat := by
  have := x.toNat_lt
  rw [IntKind.wrap_i64]
  omega
def Small (n : Int) : Prop := -1000000000000000 ≤ n ∧ n ≤ 1000000000000000

-- between
def inR (n lo hi : Int) : Bool := decide (lo ≤ n) && decide (n ≤ hi)
def c_inRange : List T → Option (T × Option Prop)
  | [.int .i64 n, .int .i64 lo, .int .i64 hi] => some (.bool (inR n lo hi), none)
  | _ => none
def k_inRange : Con := .pure c_inRange
noncomputable def b_inRange : Code := Tryz.f57.body.getD .skip
theorem call_inRange : Callable Tryz.prog 57 := ⟨_, Tryz.func57, by kernel_rfl, by kernel_rfl⟩
set_option maxRecDepth 100000 in
theorem v_inRange (n lo hi : Int) (h :
    (decide (lo ≤ n) && decide (n ≤ hi)) = inR n lo hi) :
    PureFn Tryz.prog 57 [.int .i64 n, .int .i64 lo, .int .i64 hi] (.bool (inR n lo hi)) :=
  fn_vc mixed nil_ok nil_call Tryz.func57 (by kernel_rfl) (leB (by kernel_rfl)) noAnn (Eq.mp (β := vcFn Tryz.prog [] Tryz.f57.ntmps Tryz.f57.results.toList b_inRange [.int .i64 n, .int .i64 lo, .int .i64 hi] (.bool (inR n lo hi)) noAnn) (by kernel_rfl) h)
theorem inRange_ok : ConOk Tryz.prog 57 k_inRange := by
  intro args res p h hp
  unfold c_inRange at h
  split at h
  · simp only [Option.some.injEq, Prod.mk.injEq] at h
    obtain ⟨rfl, rfl⟩ := h
    exact v_inRange _ _ _ rfl
  · cases h
def k_l01In : Con := .pure c_inRange
noncomputable def b_l01In : Code := Tryz.f62.body.getD .skip
theorem call_l01In : Callable Tryz.prog 62 := ⟨_, Tryz.func62, by kernel_rfl, by kernel_rfl⟩
set_option maxRecDepth 100000 in
theorem v_l01In (n lo hi : Int) (h :
    (decide (lo ≤ n) && decide (n ≤ hi)) = inR n lo hi) :
    PureFn Tryz.prog 62 [.int .i64 n, .int .i64 lo, .int .i64 hi] (.bool (inR n lo hi)) :=
  fn_vc mixed nil_ok nil_call Tryz.func62 (by kernel_rfl) (leB (by kernel_rfl)) noAnn (Eq.mp (β := vcFn Tryz.prog [] Tryz.f62.ntmps Tryz.f62.results.toList b_l01In [.int .i64 n, .int .i64 lo, .int .i64 hi] (.bool (inR n lo hi)) noAnn) (by kernel_rfl) h)
theorem l01In_ok : ConOk Tryz.prog 62 k_l01In := by
  intro args res p h hp
  unfold c_inRange at h
  split at h
  · simp only [Option.some.injEq, Prod.mk.injEq] at h
    obtain ⟨rfl, rfl⟩ := h
    exact v_l01In _ _ _ rfl
  · cases h
def c_isPlace : List T → Option (T × Option Prop)
  | [.int .i64 n, .int .i64 m] => some (.bool (decide (0 ≤ n) && decide (n < m)), some (Small m))
  | _ => none
def k_isPlace : Con := .pure c_isPlace
noncomputable def b_isPlace : Code := Tryz.f87.body.getD .skip
theorem call_isPlace : Callable Tryz.prog 87 := ⟨_, Tryz.func87, by kernel_rfl, by kernel_rfl⟩
set_option maxRecDepth 100000 in
theorem v_isPlace (n m : Int) (h :
    Rng IntKind.i64 (m - (1 : Int)) ∧ inR n (0 : Int) (m - (1 : Int)) = (decide ((0 : Int) ≤ n) && decide (n < m))) :
    PureFn Tryz.prog 87 [.int .i64 n, .int .i64 m] (.bool (decide (0 ≤ n) && decide (n < m))) :=
  fn_vc mixed (cons_ok inRange_ok nil_ok) (cons_call call_inRange nil_call) Tryz.func87 (by kernel_rfl) (leB (by kernel_rfl)) noAnn (Eq.mp (β := vcFn Tryz.prog [(57, k_inRange)] Tryz.f87.ntmps Tryz.f87.results.toList b_isPlace [.int .i64 n, .int .i64 m] (.bool (decide (0 ≤ n) && decide (n < m))) noAnn) (by kernel_rfl) h)
theorem isPlace_ok : ConOk Tryz.prog 87 k_isPlace := by
  intro args res p h hp
  unfold c_isPlace at h
  split at h
  · simp only [Option.some.injEq, Prod.mk.injEq] at h
    obtain ⟨rfl, rfl⟩ := h
    have hp : Small _ := hp
    unfold Small at hp
    refine v_isPlace _ _ ⟨i64_rng (by omega), ?_⟩
    unfold inR
    congr 1
    exact decide_eq_decide.2 (by omega)
  · cases h
end Go.Proofs.YtjbomnjmcbhadaaGreat

