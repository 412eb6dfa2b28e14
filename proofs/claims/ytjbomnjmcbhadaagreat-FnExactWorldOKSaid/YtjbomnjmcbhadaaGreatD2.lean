/- A part of the proof of a law: what functions of the program compute, shown by a calculus of symbolic states. -/
import Derived.Test.YtjbomnjmcbhadaaGreatD1
namespace Go.Proofs.YtjbomnjmcbhadaaGreat
open Go.SS

/-- A record is right. -/
def RecP (r : Rec) : Prop :=
  1 ≤ r.e ∧ r.e ≤ 60 ∧ 1 ≤ r.l ∧ r.l ≤ 60 ∧ 1 ≤ r.k ∧ r.k ≤ 6 ∧ 0 ≤ r.p ∧ r.p ≤ r.l - 1 ∧ 0 ≤ r.n ∧ r.n ≤ r.l - 1 ∧ 0 ≤ r.g ∧ r.g ≤ 7 ∧ 0 ≤ r.s ∧ r.s ≤ 3 ∧ r.b.length ≤ 30 ∧
  (r.k = 6 → r.t = 0 ∧ r.p = 0 ∧ r.n = 0 ∧ r.g = 0 ∧ r.s = 0 ∧ r.b = [] ∧ chkL r.a r.l = true) ∧
  (r.k ≠ 6 → 1 ≤ r.t ∧ r.t ≤ 60 ∧ r.a.length ≤ 30 ∧ (r.k ≠ 2 → r.k ≠ 3 → r.g = 0 ∧ r.s = 0 ∧ r.b = [] ∧ r.a = []) ∧ (r.k ≠ 3 → r.n = 0) ∧ (r.k = 3 → r.b = []) ∧ (r.k = 1 ↔ r.p = 0))
noncomputable instance (r : Rec) : Decidable (RecP r) := Classical.propDecidable _
noncomputable def recOK (r : Rec) : Bool := decide (RecP r)
theorem recOK_iff (r : Rec) : recOK r = true ↔ RecP r := decide_eq_true_iff
theorem recOK_no {r : Rec} (h : ¬ RecP r) : recOK r = false := decide_eq_false h
def StrB (l : List UInt8) : Prop := l.length < 140737488355329
noncomputable def c_RecordOK : List T → Option (T × Option Prop)
  | [.agg [.int .i64 e, .int .i64 l, .int .i64 t, .int .i64 k, .int .i64 p, .int .i64 n, .int .i64 g, .int .i64 s, .str b, .str a]] => some (.bool (recOK ⟨e, l, t, k, p, n, g, s, b, a⟩), some (StrB a))
  | _ => none
noncomputable def k_RecordOKi : Con := .pure c_RecordOK
noncomputable def b_RecordOKi : Code := Tryz.f159.body.getD .skip
theorem call_RecordOKi : Callable Tryz.prog 159 := ⟨_, Tryz.func159, by kernel_rfl, by kernel_rfl⟩
set_option maxRecDepth 100000 in
theorem v_RecordOKi (r : Rec) (x : Bool) (h :
    ((!inR r.e (1 : Int) (60 : Int) || !inR r.l (1 : Int) (60 : Int)) = true → false = x) ∧ ((!inR r.e (1 : Int) (60 : Int) || !inR r.l (1 : Int) (60 : Int)) = false → ((r.k == (6 : Int)) = true → ((r.t == (0 : Int) && r.p == (0 :
    Int) && (true && (true && (true && (true && (true && (r.n == (0 : Int) && (r.g == (0 : Int) && (r.s == (0 : Int) && (r.b == [] && true)))))))))) = true → StrLsn r.a r.l) ∧ (r.t == (0 : Int) && r.p == (0 : Int) && (true && (true &&
    (true && (true && (true && (r.n == (0 : Int) && (r.g == (0 : Int) && (r.s == (0 : Int) && (r.b == [] && true))))))))) && chkL r.a r.l) = x) ∧ ((r.k == (6 : Int)) = false → ((r.k == (2 : Int)) = true → ((r.k == (2 : Int)) = true →
    Small (8 : Int) ∧ ((decide ((0 : Int) ≤ r.g) && decide (r.g < (8 : Int))) = true → Small (4 : Int)) ∧ ((!(decide ((0 : Int) ≤ r.g) && decide (r.g < (8 : Int)) && (decide ((0 : Int) ≤ r.s) && decide (r.s < (4 : Int)))) || decide
    ((↑r.b.length : Int) > (30 : Int)) || decide ((↑r.a.length : Int) > (30 : Int))) = false → (r.k == (3 : Int)) = true → Rng IntKind.i64 (r.l - (1 : Int))) ∧ ((!(decide ((0 : Int) ≤ r.g) && decide (r.g < (8 : Int)) && (decide ((0 :
    Int) ≤ r.s) && decide (r.s < (4 : Int)))) || decide ((↑r.b.length : Int) > (30 : Int)) || decide ((↑r.a.length : Int) > (30 : Int)) || r.k == (3 : Int) && !inR r.n (0 : Int) (r.l - (1 : Int))) = true → false = x) ∧ ((!(decide ((0
    : Int) ≤ r.g) && decide (r.g < (8 : Int)) && (decide ((0 : Int) ≤ r.s) && decide (r.s < (4 : Int)))) || decide ((↑r.b.length : Int) > (30 : Int)) || decide ((↑r.a.length : Int) > (30 : Int)) || r.k == (3 : Int) && !inR r.n (0 :
    Int) (r.l - (1 : Int))) = false → ((r.k == (2 : Int)) = true → ((inR r.k (1 : Int) (5 : Int) && (true && (true && (true && (true && (true && (r.n == (0 : Int) && true)))))) && inR r.t (1 : Int) (60 : Int)) = true → Rng IntKind.i64
    (r.l - (1 : Int))) ∧ (inR r.k (1 : Int) (5 : Int) && (true && (true && (true && (true && (true && (r.n == (0 : Int) && true)))))) && inR r.t (1 : Int) (60 : Int) && inR r.p (0 : Int) (r.l - (1 : Int)) && (r.p == (0 : Int)) == (r.k
    == (1 : Int))) = x) ∧ ((r.k == (2 : Int)) = false → ((inR r.k (1 : Int) (5 : Int) && (true && (true && (true && (true && (true && (true && (true && (true && (r.b == [] && true))))))))) && inR r.t (1 : Int) (60 : Int)) = true → Rng
    IntKind.i64 (r.l - (1 : Int))) ∧ (inR r.k (1 : Int) (5 : Int) && (true && (true && (true && (true && (true && (true && (true && (true && (r.b == [] && true))))))))) && inR r.t (1 : Int) (60 : Int) && inR r.p (0 : Int) (r.l - (1 :
    Int)) && (r.p == (0 : Int)) == (r.k == (1 : Int))) = x))) ∧ ((r.k == (2 : Int)) = false → ((inR r.k (1 : Int) (5 : Int) && (true && (true && (true && (true && (true && (r.n == (0 : Int) && (r.g == (0 : Int) && (r.s == (0 : Int) &&
    (r.b == [] && (r.a == [] && true)))))))))) && inR r.t (1 : Int) (60 : Int)) = true → Rng IntKind.i64 (r.l - (1 : Int))) ∧ (inR r.k (1 : Int) (5 : Int) && (true && (true && (true && (true && (true && (r.n == (0 : Int) && (r.g == (0
    : Int) && (r.s == (0 : Int) && (r.b == [] && (r.a == [] && true)))))))))) && inR r.t (1 : Int) (60 : Int) && inR r.p (0 : Int) (r.l - (1 : Int)) && (r.p == (0 : Int)) == (r.k == (1 : Int))) = x)) ∧ ((r.k == (2 : Int)) = false →
    ((r.k == (3 : Int)) = true → Small (8 : Int) ∧ ((decide ((0 : Int) ≤ r.g) && decide (r.g < (8 : Int))) = true → Small (4 : Int)) ∧ ((!(decide ((0 : Int) ≤ r.g) && decide (r.g < (8 : Int)) && (decide ((0 : Int) ≤ r.s) && decide
    (r.s < (4 : Int)))) || decide ((↑r.b.length : Int) > (30 : Int)) || decide ((↑r.a.length : Int) > (30 : Int))) = false → (r.k == (3 : Int)) = true → Rng IntKind.i64 (r.l - (1 : Int))) ∧ ((!(decide ((0 : Int) ≤ r.g) && decide (r.g
    < (8 : Int)) && (decide ((0 : Int) ≤ r.s) && decide (r.s < (4 : Int)))) || decide ((↑r.b.length : Int) > (30 : Int)) || decide ((↑r.a.length : Int) > (30 : Int)) || r.k == (3 : Int) && !inR r.n (0 : Int) (r.l - (1 : Int))) = true
    → false = x) ∧ ((!(decide ((0 : Int) ≤ r.g) && decide (r.g < (8 : Int)) && (decide ((0 : Int) ≤ r.s) && decide (r.s < (4 : Int)))) || decide ((↑r.b.length : Int) > (30 : Int)) || decide ((↑r.a.length : Int) > (30 : Int)) || r.k ==
    (3 : Int) && !inR r.n (0 : Int) (r.l - (1 : Int))) = false → ((r.k == (2 : Int)) = true → ((inR r.k (1 : Int) (5 : Int) && (true && (true && (true && (true && (true && (r.n == (0 : Int) && true)))))) && inR r.t (1 : Int) (60 :
    Int)) = true → Rng IntKind.i64 (r.l - (1 : Int))) ∧ (inR r.k (1 : Int) (5 : Int) && (true && (true && (true && (true && (true && (r.n == (0 : Int) && true)))))) && inR r.t (1 : Int) (60 : Int) && inR r.p (0 : Int) (r.l - (1 :
    Int)) && (r.p == (0 : Int)) == (r.k == (1 : Int))) = x) ∧ ((r.k == (2 : Int)) = false → ((inR r.k (1 : Int) (5 : Int) && (true && (true && (true && (true && (true && (true && (true && (true && (r.b == [] && true))))))))) && inR
    r.t (1 : Int) (60 : Int)) = true → Rng IntKind.i64 (r.l - (1 : Int))) ∧ (inR r.k (1 : Int) (5 : Int) && (true && (true && (true && (true && (true && (true && (true && (true && (r.b == [] && true))))))))) && inR r.t (1 : Int) (60 :
    Int) && inR r.p (0 : Int) (r.l - (1 : Int)) && (r.p == (0 : Int)) == (r.k == (1 : Int))) = x))) ∧ ((r.k == (3 : Int)) = false → ((inR r.k (1 : Int) (5 : Int) && (true && (true && (true && (true && (true && (r.n == (0 : Int) &&
    (r.g == (0 : Int) && (r.s == (0 : Int) && (r.b == [] && (r.a == [] && true)))))))))) && inR r.t (1 : Int) (60 : Int)) = true → Rng IntKind.i64 (r.l - (1 : Int))) ∧ (inR r.k (1 : Int) (5 : Int) && (true && (true && (true && (true
    && (true && (r.n == (0 : Int) && (r.g == (0 : Int) && (r.s == (0 : Int) && (r.b == [] && (r.a == [] && true)))))))))) && inR r.t (1 : Int) (60 : Int) && inR r.p (0 : Int) (r.l - (1 : Int)) && (r.p == (0 : Int)) == (r.k == (1 :
    Int))) = x))))) :
    PureFn Tryz.prog 159 [.agg r.ts] (.bool x) :=
  fn_vc mixed (cons_ok isCheck_ok (cons_ok inRange_ok (cons_ok isPlace_ok nil_ok))) (cons_call call_isCheck (cons_call call_inRange (cons_call call_isPlace nil_call))) Tryz.func159 (by kernel_rfl) (leB (by kernel_rfl)) noAnn (Eq.mp (β := vcFn Tryz.prog [(231, k_isCheck), (57, k_inRange), (87, k_isPlace)] Tryz.f159.ntmps Tryz.f159.results.toList b_RecordOKi [.agg r.ts] (.bool x) noAnn) (by kernel_rfl) h)
theorem beqs {p k a b : Int} : ((p == a) = (k == b)) ↔ (k = b ↔ p = a) := by
  rw [Bool.eq_iff_iff, beq_iff_eq, beq_iff_eq]
  exact Iff.comm
theorem bool_eq {a b : Bool} (h : a = true ↔ b = true) : a = b := by cases a <;> cases b <;> simp_all
theorem RecordOKi_ok : ConOk Tryz.prog 159 k_RecordOKi := by
  intro args res p h hp
  unfold c_RecordOK at h
  split at h
  · rename_i e l t k p n g s b a
    simp only [Option.some.injEq, Prod.mk.injEq] at h
    obtain ⟨rfl, rfl⟩ := h
    have hp : a.length < 140737488355329 := hp
    refine v_RecordOKi ⟨e, l, t, k, p, n, g, s, b, a⟩ _ ?_
    simp only [Rec.e, Rec.l, Rec.t, Rec.k, Rec.p, Rec.n, Rec.g, Rec.s, Rec.b, Rec.a]
    have s8 : Small 8 := by unfold Small; omega
    have s4 : Small 4 := by unfold Small; omega
    refine ⟨fun h => ?_, fun h => ?_⟩
    · refine (recOK_no ?_).symm
      simp only [Bool.or_eq_true, Bool.not_eq_true', inR, Bool.and_eq_false_iff, decide_eq_false_iff_not] at h
      unfold RecP
      simp only
      omega
    simp only [Bool.or_eq_false_iff, Bool.not_eq_false', inR, Bool.and_eq_true, decide_eq_true_eq] at h
    have hr : Rng .i64 (l - 1) := i64_rng (by omega)
    have hs : StrLsn a l := ⟨hp, by omega, by omega⟩
    by_cases h6 : k = 6
    · subst h6
      refine ⟨fun _ => ⟨fun _ => hs, bool_eq ?_⟩, fun h => by simp at h⟩
      rw [recOK_iff]
      simp only [RecP, decide_eq_true_eq, Bool.and_eq_true, beq_iff_eq, true_and, and_true]
      constructor
      · rintro ⟨⟨⟨rfl, rfl⟩, rfl, rfl, rfl, rfl⟩, hc⟩
        simp [hc]
        omega
      · rintro ⟨_, _, _, _, _, _, _, _, _, _, _, _, _, _, _, hh, _⟩
        obtain ⟨rfl, rfl, rfl, rfl, rfl, rfl, hc⟩ := hh trivial
        simp [hc]
    refine ⟨fun h => absurd (by simpa using h) h6, fun _ => ?_⟩
    by_cases h2 : k = 2
    · subst h2
      refine ⟨fun _ => ⟨fun _ => ⟨s8, fun _ => s4, fun _ h => by simp at h, fun hb => ?_, fun hb => ⟨fun _ => ⟨fun _ => hr, bool_eq ?_⟩, fun h => by simp at h⟩⟩, fun h => by simp at h⟩, fun h => by simp at h⟩
      · refine (recOK_no ?_).symm
        simp only [Bool.or_eq_true, Bool.not_eq_true', inR, Bool.and_eq_false_iff, decide_eq_false_iff_not, decide_eq_true_eq, Bool.and_eq_true] at hb
        unfold RecP
        simp only
        simp at hb
        omega
      · simp [inR] at hb
        rw [recOK_iff]
        simp only [RecP, decide_eq_true_eq, Bool.and_eq_true, beq_iff_eq, true_and, and_true, inR, beqs]
        simp
        omega
    by_cases h3 : k = 3
    · subst h3
      refine ⟨fun h => by simp at h, fun _ => ⟨fun _ => ⟨s8, fun _ => s4, fun _ _ => hr, fun hb => ?_, fun hb => ⟨fun h => by simp at h, fun _ => ⟨fun _ => hr, bool_eq ?_⟩⟩⟩, fun h => by simp at h⟩⟩
      · refine (recOK_no ?_).symm
        unfold RecP
        simp only
        simp [inR] at hb
        omega
      · simp [inR] at hb
        rw [recOK_iff]
        simp only [RecP, decide_eq_true_eq, Bool.and_eq_true, beq_iff_eq, true_and, and_true, inR, beqs]
        by_cases hbn : b = []
        · subst hbn
          simp
          omega
        · simp [hbn]
    · refine ⟨fun h => absurd (by simpa using h) h2, fun _ => ⟨fun h => absurd (by simpa using h) h3, fun _ => ⟨fun _ => hr, bool_eq ?_⟩⟩⟩
      rw [recOK_iff]
      simp only [RecP, decide_eq_true_eq, Bool.and_eq_true, beq_iff_eq, true_and, and_true, inR, beqs]
      constructor
      · intro hh
        have hb : b.length = 0 := by simp [hh.1.1.1.2.2.2.2.1]
        have ha : a.length = 0 := by simp [hh.1.1.1.2.2.2.2.2]
        simp [h2, h3, h6, hh.1.1.1.2.2.2.2.1, hh.1.1.1.2.2.2.2.2] at hh ⊢
        omega
      · intro hh
        obtain ⟨a1, a2, a3, a4, a5, a6, a7, a8, a9, a10, a11, a12, a13, a14, a15, _, hh⟩ := hh
        obtain ⟨b1, b2, b3, b4, b5, b6, b7⟩ := hh h6
        obtain ⟨c1, c2, c3, c4⟩ := b4 h2 h3
        have c5 := b5 h3
        simp [c1, c2, c3, c4, c5]
        omega
  · cases h
end Go.Proofs.YtjbomnjmcbhadaaGreat

