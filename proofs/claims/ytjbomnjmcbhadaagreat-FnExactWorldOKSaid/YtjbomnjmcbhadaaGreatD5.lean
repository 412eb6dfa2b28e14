/- A part of the proof of a law: what functions of the program compute, shown by a calculus of symbolic states. -/
import Derived.Test.YtjbomnjmcbhadaaGreatD4
namespace Go.Proofs.YtjbomnjmcbhadaaGreat
open Go.SS

def badP (a : List UInt8) (at0 : Nat) (lo hi lsn : Int) (i : Nat) : Bool :=
  !inR (byt a (at0 + 2 * i)) lo hi || !inR (byt a (at0 + 2 * i + 1)) 1 (lsn - 1) || (decide ((i : Int) > 0) && decide (byt a (at0 + 2 * (i - 1)) ≥ byt a (at0 + 2 * i)))
def ckS (a : List UInt8) (lsn : Int) : Bool :=
  rcOK a && decide (rc0 a ≤ 8) && decide (rc1 a ≤ 10) && !anyI (rc0 a) (badP a 1 0 7 lsn) && !anyI (rc1 a) (badP a (2 + 2 * lo0 a) 1 60 lsn)
def LenSm (a : List UInt8) (n : Int) : Prop := a.length < 1000000000000 ∧ -1000000000000 ≤ n ∧ n ≤ 1000000000000
def c_CheckOK : List T → Option (T × Option Prop)
  | [.agg [.int .i64 e, .int .i64 l, .int .i64 t, .int .i64 k, .int .i64 p, .int .i64 n, .int .i64 g, .int .i64 s, .str b, .str a]] => some (.bool (ckS a l), some (LenSm a l))
  | _ => none
def k_CheckOK : Con := .pure c_CheckOK
def B_CheckOK (r : Rec) : Nat → Ann
  | 1 => .one (Cnt (rc1 r.a) (badP r.a (2 + 2 * lo0 r.a) 1 60 r.l)) (fun x => ⟨[(1, .ref 0 0 0), (4, .sl 2 (rc1 r.a) (pairRow r.a (2 + 2 * lo0 r.a))), (7, .int .i64 x.1)], [some (.arr true 1000000 10 1 fun _ => r.ts)]⟩) (fun x => rc1 r.a - x.1) [.arr 0] [.arr 0] (fun _ => noAnn)
  | _ => .none
def A_CheckOK (r : Rec) : Nat → Ann
  | 0 => .one (Cnt (rc0 r.a) (badP r.a 1 0 7 r.l)) (fun x => ⟨[(1, .ref 0 0 0), (3, .sl 2 (rc0 r.a) (pairRow r.a 1)), (4, .sl 2 (rc1 r.a) (pairRow r.a (2 + 2 * lo0 r.a))), (6, .int .i64 x.1)], [some (.arr true 1000000 10 1 fun _ => r.ts)]⟩) (fun x => rc0 r.a - x.1) [.arr 0] [.arr 0] (fun _ => B_CheckOK r)
  | _ => .none
noncomputable def b_CheckOK : Code := Tryz.f155.body.getD .skip
theorem call_CheckOK : Callable Tryz.prog 155 := ⟨_, Tryz.func155, by kernel_rfl, by kernel_rfl⟩
set_option maxRecDepth 100000 in
theorem v_CheckOK (r : Rec) (h :
    Len r.a.length ∧ ((!rcOK r.a || decide ((↑(rc0 r.a) : Int) > (8 : Int)) || decide ((↑(rc1 r.a) : Int) > (10 : Int))) = true → false = ckS r.a r.l) ∧ ((!rcOK r.a || decide ((↑(rc0 r.a) : Int) > (8 : Int)) || decide ((↑(rc1 r.a) :
    Int) > (10 : Int))) = false → (∃ (x : Cnt (rc0 r.a) (badP r.a (1 : Nat) (0 : Int) (7 : Int) r.l)), (((0 : Nat) = (0 : Nat) ∧ (0 : Nat) = (0 : Nat)) ∧ (rc0 r.a = rc0 r.a ∧ RowsEq (rc0 r.a) (pairRow r.a (1 : Nat)) (pairRow r.a (1 :
    Nat))) ∧ (rc1 r.a = rc1 r.a ∧ RowsEq (rc1 r.a) (pairRow r.a ((2 : Nat) + (2 : Nat) * lo0 r.a)) (pairRow r.a ((2 : Nat) + (2 : Nat) * lo0 r.a))) ∧ (0 : Int) = (↑x.val : Int) ∧ True) ∧ ((1 : Nat) = (1 : Nat) ∧ RowsEq (1 : Nat) (fun
    (x : Nat) => [T.int IntKind.i64 r.e, T.int IntKind.i64 r.l, T.int IntKind.i64 r.t, T.int IntKind.i64 r.k, T.int IntKind.i64 r.p, T.int IntKind.i64 r.n, T.int IntKind.i64 r.g, T.int IntKind.i64 r.s, T.str r.b, T.str r.a]) fun (x :
    Nat) => [T.int IntKind.i64 r.e, T.int IntKind.i64 r.l, T.int IntKind.i64 r.t, T.int IntKind.i64 r.k, T.int IntKind.i64 r.p, T.int IntKind.i64 r.n, T.int IntKind.i64 r.g, T.int IntKind.i64 r.s, T.str r.b, T.str r.a]) ∧ True) ∧ ∀ (x
    : Cnt (rc0 r.a) (badP r.a (1 : Nat) (0 : Int) (7 : Int) r.l)), (decide ((↑x.val : Int) < (↑(rc0 r.a) : Int)) = true → InB (↑x.val : Int) (rc0 r.a) ∧ InB (0 : Int) (2 : Nat) ∧ ((!inR (byt r.a ((1 : Nat) + (2 : Nat) * (↑x.val :
    Int).toNat)) (0 : Int) (7 : Int)) = false → InB (↑x.val : Int) (rc0 r.a)) ∧ ((!inR (byt r.a ((1 : Nat) + (2 : Nat) * (↑x.val : Int).toNat)) (0 : Int) (7 : Int)) = false → InB (1 : Int) (2 : Nat)) ∧ ((!inR (byt r.a ((1 : Nat) + (2
    : Nat) * (↑x.val : Int).toNat)) (0 : Int) (7 : Int)) = false → Rng IntKind.i64 (r.l - (1 : Int))) ∧ ((!inR (byt r.a ((1 : Nat) + (2 : Nat) * (↑x.val : Int).toNat)) (0 : Int) (7 : Int) || !inR (byt r.a ((1 : Nat) + (2 : Nat) *
    (↑x.val : Int).toNat + (1 : Nat))) (1 : Int) (r.l - (1 : Int))) = false → decide ((↑x.val : Int) > (0 : Int)) = true → Rng IntKind.i64 ((↑x.val : Int) - (1 : Int))) ∧ ((!inR (byt r.a ((1 : Nat) + (2 : Nat) * (↑x.val : Int).toNat))
    (0 : Int) (7 : Int) || !inR (byt r.a ((1 : Nat) + (2 : Nat) * (↑x.val : Int).toNat + (1 : Nat))) (1 : Int) (r.l - (1 : Int))) = false → decide ((↑x.val : Int) > (0 : Int)) = true → InB ((↑x.val : Int) - (1 : Int)) (rc0 r.a)) ∧
    ((!inR (byt r.a ((1 : Nat) + (2 : Nat) * (↑x.val : Int).toNat)) (0 : Int) (7 : Int) || !inR (byt r.a ((1 : Nat) + (2 : Nat) * (↑x.val : Int).toNat + (1 : Nat))) (1 : Int) (r.l - (1 : Int))) = false → decide ((↑x.val : Int) > (0 :
    Int)) = true → InB (0 : Int) (2 : Nat)) ∧ ((!inR (byt r.a ((1 : Nat) + (2 : Nat) * (↑x.val : Int).toNat)) (0 : Int) (7 : Int) || !inR (byt r.a ((1 : Nat) + (2 : Nat) * (↑x.val : Int).toNat + (1 : Nat))) (1 : Int) (r.l - (1 :
    Int))) = false → decide ((↑x.val : Int) > (0 : Int)) = true → InB (↑x.val : Int) (rc0 r.a)) ∧ ((!inR (byt r.a ((1 : Nat) + (2 : Nat) * (↑x.val : Int).toNat)) (0 : Int) (7 : Int) || !inR (byt r.a ((1 : Nat) + (2 : Nat) * (↑x.val :
    Int).toNat + (1 : Nat))) (1 : Int) (r.l - (1 : Int))) = false → decide ((↑x.val : Int) > (0 : Int)) = true → InB (0 : Int) (2 : Nat)) ∧ ((!inR (byt r.a ((1 : Nat) + (2 : Nat) * (↑x.val : Int).toNat)) (0 : Int) (7 : Int) || !inR
    (byt r.a ((1 : Nat) + (2 : Nat) * (↑x.val : Int).toNat + (1 : Nat))) (1 : Int) (r.l - (1 : Int)) || decide ((↑x.val : Int) > (0 : Int)) && decide (byt r.a ((1 : Nat) + (2 : Nat) * ((↑x.val : Int) - (1 : Int)).toNat) ≥ byt r.a ((1
    : Nat) + (2 : Nat) * (↑x.val : Int).toNat))) = true → false = ckS r.a r.l) ∧ ((!inR (byt r.a ((1 : Nat) + (2 : Nat) * (↑x.val : Int).toNat)) (0 : Int) (7 : Int) || !inR (byt r.a ((1 : Nat) + (2 : Nat) * (↑x.val : Int).toNat + (1 :
    Nat))) (1 : Int) (r.l - (1 : Int)) || decide ((↑x.val : Int) > (0 : Int)) && decide (byt r.a ((1 : Nat) + (2 : Nat) * ((↑x.val : Int) - (1 : Int)).toNat) ≥ byt r.a ((1 : Nat) + (2 : Nat) * (↑x.val : Int).toNat))) = false → Rng
    IntKind.i64 ((↑x.val : Int) + (1 : Int)) ∧ ∃ (y : Cnt (rc0 r.a) (badP r.a (1 : Nat) (0 : Int) (7 : Int) r.l)), ((((0 : Nat) = (0 : Nat) ∧ (0 : Nat) = (0 : Nat)) ∧ (rc0 r.a = rc0 r.a ∧ RowsEq (rc0 r.a) (pairRow r.a (1 : Nat))
    (pairRow r.a (1 : Nat))) ∧ (rc1 r.a = rc1 r.a ∧ RowsEq (rc1 r.a) (pairRow r.a ((2 : Nat) + (2 : Nat) * lo0 r.a)) (pairRow r.a ((2 : Nat) + (2 : Nat) * lo0 r.a))) ∧ (↑x.val : Int) + (1 : Int) = (↑y.val : Int) ∧ True) ∧ ((1 : Nat) =
    (1 : Nat) ∧ RowsEq (1 : Nat) (fun (x : Nat) => [T.int IntKind.i64 r.e, T.int IntKind.i64 r.l, T.int IntKind.i64 r.t, T.int IntKind.i64 r.k, T.int IntKind.i64 r.p, T.int IntKind.i64 r.n, T.int IntKind.i64 r.g, T.int IntKind.i64
    r.s, T.str r.b, T.str r.a]) fun (x : Nat) => [T.int IntKind.i64 r.e, T.int IntKind.i64 r.l, T.int IntKind.i64 r.t, T.int IntKind.i64 r.k, T.int IntKind.i64 r.p, T.int IntKind.i64 r.n, T.int IntKind.i64 r.g, T.int IntKind.i64 r.s,
    T.str r.b, T.str r.a]) ∧ True) ∧ Lt (rc0 r.a - y.val) (rc0 r.a - x.val))) ∧ (decide ((↑x.val : Int) < (↑(rc0 r.a) : Int)) = false → (∃ (x : Cnt (rc1 r.a) (badP r.a ((2 : Nat) + (2 : Nat) * lo0 r.a) (1 : Int) (60 : Int) r.l)), (((0
    : Nat) = (0 : Nat) ∧ (0 : Nat) = (0 : Nat)) ∧ (rc1 r.a = rc1 r.a ∧ RowsEq (rc1 r.a) (pairRow r.a ((2 : Nat) + (2 : Nat) * lo0 r.a)) (pairRow r.a ((2 : Nat) + (2 : Nat) * lo0 r.a))) ∧ (0 : Int) = (↑x.val : Int) ∧ True) ∧ ((1 : Nat)
    = (1 : Nat) ∧ RowsEq (1 : Nat) (fun (x : Nat) => [T.int IntKind.i64 r.e, T.int IntKind.i64 r.l, T.int IntKind.i64 r.t, T.int IntKind.i64 r.k, T.int IntKind.i64 r.p, T.int IntKind.i64 r.n, T.int IntKind.i64 r.g, T.int IntKind.i64
    r.s, T.str r.b, T.str r.a]) fun (x : Nat) => [T.int IntKind.i64 r.e, T.int IntKind.i64 r.l, T.int IntKind.i64 r.t, T.int IntKind.i64 r.k, T.int IntKind.i64 r.p, T.int IntKind.i64 r.n, T.int IntKind.i64 r.g, T.int IntKind.i64 r.s,
    T.str r.b, T.str r.a]) ∧ True) ∧ ∀ (x : Cnt (rc1 r.a) (badP r.a ((2 : Nat) + (2 : Nat) * lo0 r.a) (1 : Int) (60 : Int) r.l)), (decide ((↑x.val : Int) < (↑(rc1 r.a) : Int)) = true → InB (↑x.val : Int) (rc1 r.a) ∧ InB (0 : Int) (2 :
    Nat) ∧ ((!inR (byt r.a ((2 : Nat) + (2 : Nat) * lo0 r.a + (2 : Nat) * (↑x.val : Int).toNat)) (1 : Int) (60 : Int)) = false → InB (↑x.val : Int) (rc1 r.a)) ∧ ((!inR (byt r.a ((2 : Nat) + (2 : Nat) * lo0 r.a + (2 : Nat) * (↑x.val :
    Int).toNat)) (1 : Int) (60 : Int)) = false → InB (1 : Int) (2 : Nat)) ∧ ((!inR (byt r.a ((2 : Nat) + (2 : Nat) * lo0 r.a + (2 : Nat) * (↑x.val : Int).toNat)) (1 : Int) (60 : Int)) = false → Rng IntKind.i64 (r.l - (1 : Int))) ∧
    ((!inR (byt r.a ((2 : Nat) + (2 : Nat) * lo0 r.a + (2 : Nat) * (↑x.val : Int).toNat)) (1 : Int) (60 : Int) || !inR (byt r.a ((2 : Nat) + (2 : Nat) * lo0 r.a + (2 : Nat) * (↑x.val : Int).toNat + (1 : Nat))) (1 : Int) (r.l - (1 :
    Int))) = false → decide ((↑x.val : Int) > (0 : Int)) = true → Rng IntKind.i64 ((↑x.val : Int) - (1 : Int))) ∧ ((!inR (byt r.a ((2 : Nat) + (2 : Nat) * lo0 r.a + (2 : Nat) * (↑x.val : Int).toNat)) (1 : Int) (60 : Int) || !inR (byt
    r.a ((2 : Nat) + (2 : Nat) * lo0 r.a + (2 : Nat) * (↑x.val : Int).toNat + (1 : Nat))) (1 : Int) (r.l - (1 : Int))) = false → decide ((↑x.val : Int) > (0 : Int)) = true → InB ((↑x.val : Int) - (1 : Int)) (rc1 r.a)) ∧ ((!inR (byt
    r.a ((2 : Nat) + (2 : Nat) * lo0 r.a + (2 : Nat) * (↑x.val : Int).toNat)) (1 : Int) (60 : Int) || !inR (byt r.a ((2 : Nat) + (2 : Nat) * lo0 r.a + (2 : Nat) * (↑x.val : Int).toNat + (1 : Nat))) (1 : Int) (r.l - (1 : Int))) = false
    → decide ((↑x.val : Int) > (0 : Int)) = true → InB (0 : Int) (2 : Nat)) ∧ ((!inR (byt r.a ((2 : Nat) + (2 : Nat) * lo0 r.a + (2 : Nat) * (↑x.val : Int).toNat)) (1 : Int) (60 : Int) || !inR (byt r.a ((2 : Nat) + (2 : Nat) * lo0 r.a
    + (2 : Nat) * (↑x.val : Int).toNat + (1 : Nat))) (1 : Int) (r.l - (1 : Int))) = false → decide ((↑x.val : Int) > (0 : Int)) = true → InB (↑x.val : Int) (rc1 r.a)) ∧ ((!inR (byt r.a ((2 : Nat) + (2 : Nat) * lo0 r.a + (2 : Nat) *
    (↑x.val : Int).toNat)) (1 : Int) (60 : Int) || !inR (byt r.a ((2 : Nat) + (2 : Nat) * lo0 r.a + (2 : Nat) * (↑x.val : Int).toNat + (1 : Nat))) (1 : Int) (r.l - (1 : Int))) = false → decide ((↑x.val : Int) > (0 : Int)) = true → InB
    (0 : Int) (2 : Nat)) ∧ ((!inR (byt r.a ((2 : Nat) + (2 : Nat) * lo0 r.a + (2 : Nat) * (↑x.val : Int).toNat)) (1 : Int) (60 : Int) || !inR (byt r.a ((2 : Nat) + (2 : Nat) * lo0 r.a + (2 : Nat) * (↑x.val : Int).toNat + (1 : Nat)))
    (1 : Int) (r.l - (1 : Int)) || decide ((↑x.val : Int) > (0 : Int)) && decide (byt r.a ((2 : Nat) + (2 : Nat) * lo0 r.a + (2 : Nat) * ((↑x.val : Int) - (1 : Int)).toNat) ≥ byt r.a ((2 : Nat) + (2 : Nat) * lo0 r.a + (2 : Nat) *
    (↑x.val : Int).toNat))) = true → false = ckS r.a r.l) ∧ ((!inR (byt r.a ((2 : Nat) + (2 : Nat) * lo0 r.a + (2 : Nat) * (↑x.val : Int).toNat)) (1 : Int) (60 : Int) || !inR (byt r.a ((2 : Nat) + (2 : Nat) * lo0 r.a + (2 : Nat) *
    (↑x.val : Int).toNat + (1 : Nat))) (1 : Int) (r.l - (1 : Int)) || decide ((↑x.val : Int) > (0 : Int)) && decide (byt r.a ((2 : Nat) + (2 : Nat) * lo0 r.a + (2 : Nat) * ((↑x.val : Int) - (1 : Int)).toNat) ≥ byt r.a ((2 : Nat) + (2
    : Nat) * lo0 r.a + (2 : Nat) * (↑x.val : Int).toNat))) = false → Rng IntKind.i64 ((↑x.val : Int) + (1 : Int)) ∧ ∃ (y : Cnt (rc1 r.a) (badP r.a ((2 : Nat) + (2 : Nat) * lo0 r.a) (1 : Int) (60 : Int) r.l)), ((((0 : Nat) = (0 : Nat)
    ∧ (0 : Nat) = (0 : Nat)) ∧ (rc1 r.a = rc1 r.a ∧ RowsEq (rc1 r.a) (pairRow r.a ((2 : Nat) + (2 : Nat) * lo0 r.a)) (pairRow r.a ((2 : Nat) + (2 : Nat) * lo0 r.a))) ∧ (↑x.val : Int) + (1 : Int) = (↑y.val : Int) ∧ True) ∧ ((1 : Nat) =
    (1 : Nat) ∧ RowsEq (1 : Nat) (fun (x : Nat) => [T.int IntKind.i64 r.e, T.int IntKind.i64 r.l, T.int IntKind.i64 r.t, T.int IntKind.i64 r.k, T.int IntKind.i64 r.p, T.int IntKind.i64 r.n, T.int IntKind.i64 r.g, T.int IntKind.i64
    r.s, T.str r.b, T.str r.a]) fun (x : Nat) => [T.int IntKind.i64 r.e, T.int IntKind.i64 r.l, T.int IntKind.i64 r.t, T.int IntKind.i64 r.k, T.int IntKind.i64 r.p, T.int IntKind.i64 r.n, T.int IntKind.i64 r.g, T.int IntKind.i64 r.s,
    T.str r.b, T.str r.a]) ∧ True) ∧ Lt (rc1 r.a - y.val) (rc1 r.a - x.val))) ∧ (decide ((↑x.val : Int) < (↑(rc1 r.a) : Int)) = false → true = ckS r.a r.l)))) :
    PureFn Tryz.prog 155 [.agg r.ts] (.bool (ckS r.a r.l)) :=
  fn_vc mixed (cons_ok ReadCheck_ok (cons_ok l01In_ok nil_ok)) (cons_call call_ReadCheck (cons_call call_l01In nil_call)) Tryz.func155 (by kernel_rfl) (leB (by kernel_rfl)) (A_CheckOK r) (Eq.mp (β := vcFn Tryz.prog [(228, k_ReadCheck), (62, k_l01In)] Tryz.f155.ntmps Tryz.f155.results.toList b_CheckOK [.agg r.ts] (.bool (ckS r.a r.l)) (A_CheckOK r)) (by kernel_rfl) h)
theorem badP_eq (a : List UInt8) (at0 : Nat) (lo hi lsn : Int) (i : Nat) :
    badP a at0 lo hi lsn i = (!inR (byt a (at0 + 2 * (i : Int).toNat)) lo hi || !inR (byt a (at0 + 2 * (i : Int).toNat + 1)) 1 (lsn - 1) || (decide ((i : Int) > 0) && decide (byt a (at0 + 2 * ((i : Int) - 1).toNat) ≥ byt a (at0 + 2 * (i : Int).toNat)))) := by
  unfold badP
  rw [Int.toNat_natCast, show ((i : Int) - 1).toNat = i - 1 by omega]
theorem CheckOK_ok : ConOk Tryz.prog 155 k_CheckOK := by
  intro args res p h hp
  unfold c_CheckOK at h
  split at h
  case h_2 => cases h
  rename_i e l t k p n g s b a
  simp only [Option.some.injEq, Prod.mk.injEq] at h
  obtain ⟨rfl, rfl⟩ := h
  obtain ⟨hn, hl1, hl2⟩ : LenSm a l := hp
  have q0 : rc0 a ≤ a.length := by unfold rc0; split <;> omega
  have q1 : rc1 a ≤ a.length := by unfold rc1; split <;> omega
  have r0 : ∀ (n : Nat) (row : Nat → List T), RowsEq n row row := fun n row i hi => rfl
  refine v_CheckOK ⟨e, l, t, k, p, n, g, s, b, a⟩ ?_
  simp only [Rec.e, Rec.l, Rec.t, Rec.k, Rec.p, Rec.n, Rec.g, Rec.s, Rec.b, Rec.a]
  refine ⟨hn, fun hb => ?_, fun hb => ⟨⟨cnt0, ⟨⟨(by first | rfl | trivial), (by first | rfl | trivial)⟩, ⟨(by first | rfl | trivial), r0 _ _⟩, ⟨(by first | rfl | trivial), r0 _ _⟩, (by first | rfl | trivial), trivial⟩, ⟨(by first | rfl | trivial), r0 _ _⟩, trivial⟩, fun x => ⟨fun hc => ?_, fun hc => ?_⟩⟩⟩
  · unfold ckS
    simp only [Bool.or_eq_true, Bool.not_eq_true', decide_eq_true_eq] at hb
    rcases hb with (hb | hb) | hb
    · rw [hb]; rfl
    · rw [show decide (rc0 a ≤ 8) = false from decide_eq_false (by omega)]; simp
    · rw [show decide (rc1 a ≤ 10) = false from decide_eq_false (by omega)]; simp
  · have hlt := lt_of_dec hc
    have i2 : InB 0 2 := ⟨by omega, by omega⟩
    have i2' : InB 1 2 := ⟨by omega, by omega⟩
    rw [← badP_eq]
    refine ⟨inB_nat hlt, i2, fun _ => inB_nat hlt, fun _ => i2', fun _ => i64_rng (by omega), fun _ _ => i64_rng (by omega), fun _ hh => ?_, fun _ _ => i2, fun _ _ => inB_nat hlt, fun _ _ => i2, fun hp => ?_, fun hp => ⟨add_rng hlt (by omega), x.succ hlt hp, ⟨⟨⟨(by first | rfl | trivial), (by first | rfl | trivial)⟩, ⟨(by first | rfl | trivial), r0 _ _⟩, ⟨(by first | rfl | trivial), r0 _ _⟩, (by first | rfl | trivial), trivial⟩, ⟨(by first | rfl | trivial), r0 _ _⟩, trivial⟩, Cnt.ext_lt hlt⟩⟩
    · have := of_decide_eq_true hh
      exact ⟨by omega, by omega⟩
    · have : anyI (rc0 a) (badP a 1 0 7 l) = true := anyI_iff.2 ⟨x.1, hlt, hp⟩
      simp [ckS, this]
  · have hge := le_of_not hc
    have g0 : anyI (rc0 a) (badP a 1 0 7 l) = false := by
      rw [Bool.eq_false_iff, ne_eq, anyI_iff]
      rintro ⟨i, hi, h⟩
      rw [x.2.2 i (by omega)] at h
      cases h
    refine ⟨⟨cnt0, ⟨⟨(by first | rfl | trivial), (by first | rfl | trivial)⟩, ⟨(by first | rfl | trivial), r0 _ _⟩, (by first | rfl | trivial), trivial⟩, ⟨(by first | rfl | trivial), r0 _ _⟩, trivial⟩, fun y => ⟨fun hc => ?_, fun hc => ?_⟩⟩
    · have hlt := lt_of_dec hc
      have i2 : InB 0 2 := ⟨by omega, by omega⟩
      have i2' : InB 1 2 := ⟨by omega, by omega⟩
      rw [← badP_eq]
      refine ⟨inB_nat hlt, i2, fun _ => inB_nat hlt, fun _ => i2', fun _ => i64_rng (by omega), fun _ _ => i64_rng (by omega), fun _ hh => ?_, fun _ _ => i2, fun _ _ => inB_nat hlt, fun _ _ => i2, fun hp => ?_, fun hp => ⟨add_rng hlt (by omega), y.succ hlt hp, ⟨⟨⟨(by first | rfl | trivial), (by first | rfl | trivial)⟩, ⟨(by first | rfl | trivial), r0 _ _⟩, (by first | rfl | trivial), trivial⟩, ⟨(by first | rfl | trivial), r0 _ _⟩, trivial⟩, Cnt.ext_lt hlt⟩⟩
      · have := of_decide_eq_true hh
        exact ⟨by omega, by omega⟩
      · have : anyI (rc1 a) (badP a (2 + 2 * lo0 a) 1 60 l) = true := anyI_iff.2 ⟨y.1, hlt, hp⟩
        simp [ckS, this]
    · have hge := le_of_not hc
      have g1 : anyI (rc1 a) (badP a (2 + 2 * lo0 a) 1 60 l) = false := by
        rw [Bool.eq_false_iff, ne_eq, anyI_iff]
        rintro ⟨i, hi, h⟩
        rw [y.2.2 i (by omega)] at h
        cases h
      simp only [Bool.or_eq_false_iff, Bool.not_eq_false', decide_eq_false_iff_not] at hb
      unfold ckS
      rw [g0, g1, hb.1.1, show decide (rc0 a ≤ 8) = true from decide_eq_true (by omega), show decide (rc1 a ≤ 10) = true from decide_eq_true (by omega)]
      rfl
end Go.Proofs.YtjbomnjmcbhadaaGreat

