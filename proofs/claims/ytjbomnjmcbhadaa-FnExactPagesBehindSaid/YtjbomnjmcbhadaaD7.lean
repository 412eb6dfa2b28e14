/- A part of the proof of a law: what functions of the program compute, shown by a calculus of symbolic states. -/
import Derived.Test.YtjbomnjmcbhadaaD6
namespace Go.Proofs.Ytjbomnjmcbhadaa
open Go.SS

/-- Of each transaction: its last record, and whether it is over. -/
structure Lks where
  last : Int → Int
  over : Int → Int
def Lks.step (s : Lks) (r : Rec) : Lks :=
  if r.k = 6 then s else ⟨fun i => cond (decide (i = r.t)) r.l (s.last i), fun i => cond (decide (i = r.t)) (cond (r.k == 4 || r.k == 5) 1 0) (s.over i)⟩
def lkGo (L : List Rec) : Nat → Lks
  | 0 => ⟨fun _ => 0, fun _ => 0⟩
  | i + 1 => Lks.step (lkGo L i) (L.getD i default)
def nextT (L : List Rec) (r : Rec) : Int := (L.getD (r.n - 1).toNat default).t
def lkBad (L : List Rec) (i : Nat) : Bool :=
  !(L.getD i default).k == 6 && (decide ((lkGo L i).over (L.getD i default).t ≠ 0) || (L.getD i default).p != (lkGo L i).last (L.getD i default).t || ((L.getD i default).k == 3 && ((L.getD i default).n == 0 || nextT L (L.getD i default) != (L.getD i default).t)))
def linksOK (L : List Rec) : Bool := !anyI L.length (lkBad L)
def LogSm (L : List Rec) : Prop := L.length < 1000000000000 ∧ ∀ r ∈ L, r.a.length < 1000000000000
def linksCode (L : List Rec) (b : Bool) : Int := if 4096 < L.length then 2 else if 60 < L.length then 6 else if b then 0 else 1
noncomputable def linksRes (L : List Rec) : T := .tup [.bool (decide (L.length ≤ 60) && areOK L && linksOK L), .int .i64 (linksCode L (areOK L))]
noncomputable def r_LogLinks : Rl := ⟨List Rec, fun L => [recS L], linksRes, LogSm⟩
noncomputable def k_LogLinksi : Con := .rel r_LogLinks
def A_LogLinksi (L : List Rec) : Nat → Ann
  | 0 => .one (Cnt L.length (lkBad L)) (fun x => ⟨[(0, recS L), (4, .mpr 0), (5, .mpr 1), (22, recS L), (23, .int .i64 L.length), (24, .int .i64 x.1)], [some (.mp false (lkGo L x.1).last), some (.mp true (lkGo L x.1).over)]⟩) (fun x => L.length - x.1) [.arr 0, .arr 1] [.arr 0, .arr 1] (fun _ => noAnn)
  | _ => .none
noncomputable def b_LogLinksi : Code := Try.f8.body.getD .skip
theorem call_LogLinksi : Callable Try.prog 8 := ⟨_, Try.func8, by kernel_rfl, by kernel_rfl⟩
set_option maxRecDepth 100000 in
theorem v_LogLinksi (L : List Rec) (h :
    (decide ((↑L.length : Int) > (4096 : Int)) = true → false = (decide (L.length ≤ (60 : Nat)) && areOK L && linksOK L) ∧ (2 : Int) = linksCode L (areOK L) ∧ True) ∧ (decide ((↑L.length : Int) > (4096 : Int)) = false → (decide
    ((↑L.length : Int) > (60 : Int)) = true → false = (decide (L.length ≤ (60 : Nat)) && areOK L && linksOK L) ∧ (6 : Int) = linksCode L (areOK L) ∧ True) ∧ (decide ((↑L.length : Int) > (60 : Int)) = false → ∃ (x : r_areRecords.ι),
    (((L.length = List.length x ∧ RowsEq L.length (recRow L) (recRow x)) ∧ True) ∧ LogB x) ∧ ((!areOK x) = true → false = (decide (L.length ≤ (60 : Nat)) && areOK L && linksOK L) ∧ (1 : Int) = linksCode L (areOK L) ∧ True) ∧ ((!areOK
    x) = false → (∃ (x : Cnt L.length (lkBad L)), ((L.length = L.length ∧ RowsEq L.length (recRow L) (recRow L)) ∧ True ∧ True ∧ (L.length = L.length ∧ RowsEq L.length (recRow L) (recRow L)) ∧ (↑L.length : Int) = (↑L.length : Int) ∧
    (0 : Int) = (↑x.val : Int) ∧ True) ∧ (∀ (n : Int), (0 : Int) = (lkGo L x.val).last n) ∧ (∀ (n : Int), (0 : Int) = (lkGo L x.val).over n) ∧ True) ∧ ∀ (x : Cnt L.length (lkBad L)), (decide ((↑x.val : Int) < (↑L.length : Int)) = true
    → InB (↑x.val : Int) L.length ∧ (((L.getD (↑x.val : Int).toNat default).k == (6 : Int)) = true → Rng IntKind.i64 ((↑x.val : Int) + (1 : Int)) ∧ ∃ (y : Cnt L.length (lkBad L)), (((L.length = L.length ∧ RowsEq L.length (recRow L)
    (recRow L)) ∧ True ∧ True ∧ (L.length = L.length ∧ RowsEq L.length (recRow L) (recRow L)) ∧ (↑L.length : Int) = (↑L.length : Int) ∧ (↑x.val : Int) + (1 : Int) = (↑y.val : Int) ∧ True) ∧ (∀ (n : Int), (lkGo L x.val).last n = (lkGo
    L y.val).last n) ∧ (∀ (n : Int), (lkGo L x.val).over n = (lkGo L y.val).over n) ∧ True) ∧ Lt (L.length - y.val) (L.length - x.val)) ∧ (((L.getD (↑x.val : Int).toNat default).k == (6 : Int)) = false → ((decide ((lkGo L x.val).over
    (L.getD (↑x.val : Int).toNat default).t ≠ (0 : Int)) || (L.getD (↑x.val : Int).toNat default).p != (lkGo L x.val).last (L.getD (↑x.val : Int).toNat default).t) = false → ((L.getD (↑x.val : Int).toNat default).k == (3 : Int)) =
    true → ((L.getD (↑x.val : Int).toNat default).n == (0 : Int)) = false → Rng IntKind.i64 ((L.getD (↑x.val : Int).toNat default).n - (1 : Int))) ∧ ((decide ((lkGo L x.val).over (L.getD (↑x.val : Int).toNat default).t ≠ (0 : Int)) ||
    (L.getD (↑x.val : Int).toNat default).p != (lkGo L x.val).last (L.getD (↑x.val : Int).toNat default).t) = false → ((L.getD (↑x.val : Int).toNat default).k == (3 : Int)) = true → ((L.getD (↑x.val : Int).toNat default).n == (0 :
    Int)) = false → InB ((L.getD (↑x.val : Int).toNat default).n - (1 : Int)) L.length) ∧ ((decide ((lkGo L x.val).over (L.getD (↑x.val : Int).toNat default).t ≠ (0 : Int)) || (L.getD (↑x.val : Int).toNat default).p != (lkGo L
    x.val).last (L.getD (↑x.val : Int).toNat default).t || (L.getD (↑x.val : Int).toNat default).k == (3 : Int) && ((L.getD (↑x.val : Int).toNat default).n == (0 : Int) || (L.getD ((L.getD (↑x.val : Int).toNat default).n - (1 :
    Int)).toNat default).t != (L.getD (↑x.val : Int).toNat default).t)) = true → false = (decide (L.length ≤ (60 : Nat)) && areOK L && linksOK L) ∧ (0 : Int) = linksCode L (areOK L) ∧ True) ∧ ((decide ((lkGo L x.val).over (L.getD
    (↑x.val : Int).toNat default).t ≠ (0 : Int)) || (L.getD (↑x.val : Int).toNat default).p != (lkGo L x.val).last (L.getD (↑x.val : Int).toNat default).t || (L.getD (↑x.val : Int).toNat default).k == (3 : Int) && ((L.getD (↑x.val :
    Int).toNat default).n == (0 : Int) || (L.getD ((L.getD (↑x.val : Int).toNat default).n - (1 : Int)).toNat default).t != (L.getD (↑x.val : Int).toNat default).t)) = false → Rng IntKind.i64 ((↑x.val : Int) + (1 : Int)) ∧ ∃ (y : Cnt
    L.length (lkBad L)), (((L.length = L.length ∧ RowsEq L.length (recRow L) (recRow L)) ∧ True ∧ True ∧ (L.length = L.length ∧ RowsEq L.length (recRow L) (recRow L)) ∧ (↑L.length : Int) = (↑L.length : Int) ∧ (↑x.val : Int) + (1 :
    Int) = (↑y.val : Int) ∧ True) ∧ (∀ (n : Int), (bif decide (n = (L.getD (↑x.val : Int).toNat default).t) then (L.getD (↑x.val : Int).toNat default).l else (lkGo L x.val).last n) = (lkGo L y.val).last n) ∧ (∀ (n : Int), (bif decide
    (n = (L.getD (↑x.val : Int).toNat default).t) then bif (L.getD (↑x.val : Int).toNat default).k == (4 : Int) || (L.getD (↑x.val : Int).toNat default).k == (5 : Int) then (1 : Int) else (0 : Int) else (lkGo L x.val).over n) = (lkGo
    L y.val).over n) ∧ True) ∧ Lt (L.length - y.val) (L.length - x.val)))) ∧ (decide ((↑x.val : Int) < (↑L.length : Int)) = false → true = (decide (L.length ≤ (60 : Nat)) && areOK L && linksOK L) ∧ (0 : Int) = linksCode L (areOK L) ∧
    True))))) :
    PureFn Try.prog 8 [recS L] (linksRes L) :=
  fn_vc mixed (cons_ok areRecords_ok nil_ok) (cons_call call_areRecords nil_call) Try.func8 (by kernel_rfl) (leB (by kernel_rfl)) (A_LogLinksi L) (Eq.mp (β := vcFn Try.prog [(19, k_areRecords)] Try.f8.ntmps Try.f8.results.toList b_LogLinksi [recS L] (linksRes L) (A_LogLinksi L)) (by kernel_rfl) h)
def LinkP (L : List Rec) : Prop := L.length ≤ 60 ∧ ∀ i, i < L.length → recOK (L.getD i default) = true ∧ (L.getD i default).l = (i : Int) + 1
noncomputable def r_Links : Rl := ⟨List Rec, fun L => [recS L], fun L => .bool (linksOK L), LinkP⟩
noncomputable def k_Links : Con := .rel r_Links
def A_Links (L : List Rec) : Nat → Ann
  | 0 => .one (Cnt L.length (lkBad L)) (fun x => ⟨[(0, recS L), (3, .osl 0 0 61), (4, .osl 1 0 61), (5, .int .i64 x.1)], [some (.arr true 0 1 61 fun j => [.int .i64 ((lkGo L x.1).last j)]), some (.arr true 0 1 61 fun j => [.bool (decide ((lkGo L x.1).over j ≠ 0))])]⟩) (fun x => L.length - x.1) [.arr 0, .arr 1] [.arr 0, .arr 1] (fun _ => noAnn)
  | _ => .none
noncomputable def b_Links : Code := Try.f17.body.getD .skip
theorem call_Links : Callable Try.prog 17 := ⟨_, Try.func17, by kernel_rfl, by kernel_rfl⟩
set_option maxRecDepth 100000 in
theorem v_Links (L : List Rec) (h :
    (Nn (61 : Int) ∧ LeI (61 : Int) (61 : Int) ∧ sizeB (8 : Nat) (61 : Nat) (140737488355328 : Nat) ∧ Lt (61 : Nat) (9223372036854775808 : Nat)) ∧ (Nn (61 : Int) ∧ LeI (61 : Int) (61 : Int) ∧ sizeB (1 : Nat) (61 : Nat)
    (140737488355328 : Nat) ∧ Lt (61 : Nat) (9223372036854775808 : Nat)) ∧ (∃ (x : Cnt L.length (lkBad L)), ((L.length = L.length ∧ RowsEq L.length (recRow L) (recRow L)) ∧ ((0 : Nat) = (0 : Nat) ∧ (61 : Nat) = (61 : Nat)) ∧ ((0 :
    Nat) = (0 : Nat) ∧ (61 : Nat) = (61 : Nat)) ∧ (0 : Int) = (↑x.val : Int) ∧ True) ∧ ((61 : Nat) = (61 : Nat) ∧ RowsEq (61 : Nat) (fun (x : Nat) => [T.int IntKind.i64 (0 : Int)]) fun (j : Nat) => [T.int IntKind.i64 ((lkGo L
    x.val).last (↑j : Int))]) ∧ ((61 : Nat) = (61 : Nat) ∧ RowsEq (61 : Nat) (fun (x : Nat) => [T.bool false]) fun (j : Nat) => [T.bool (decide ((lkGo L x.val).over (↑j : Int) ≠ (0 : Int)))]) ∧ True) ∧ ∀ (x : Cnt L.length (lkBad L)),
    (decide ((↑x.val : Int) < (↑L.length : Int)) = true → InB (↑x.val : Int) L.length ∧ (((L.getD (↑x.val : Int).toNat default).k == (6 : Int)) = true → Rng IntKind.i64 ((↑x.val : Int) + (1 : Int)) ∧ ∃ (y : Cnt L.length (lkBad L)),
    (((L.length = L.length ∧ RowsEq L.length (recRow L) (recRow L)) ∧ ((0 : Nat) = (0 : Nat) ∧ (61 : Nat) = (61 : Nat)) ∧ ((0 : Nat) = (0 : Nat) ∧ (61 : Nat) = (61 : Nat)) ∧ (↑x.val : Int) + (1 : Int) = (↑y.val : Int) ∧ True) ∧ ((61 :
    Nat) = (61 : Nat) ∧ RowsEq (61 : Nat) (fun (j : Nat) => [T.int IntKind.i64 ((lkGo L x.val).last (↑j : Int))]) fun (j : Nat) => [T.int IntKind.i64 ((lkGo L y.val).last (↑j : Int))]) ∧ ((61 : Nat) = (61 : Nat) ∧ RowsEq (61 : Nat)
    (fun (j : Nat) => [T.bool (decide ((lkGo L x.val).over (↑j : Int) ≠ (0 : Int)))]) fun (j : Nat) => [T.bool (decide ((lkGo L y.val).over (↑j : Int) ≠ (0 : Int)))]) ∧ True) ∧ Lt (L.length - y.val) (L.length - x.val)) ∧ (((L.getD
    (↑x.val : Int).toNat default).k == (6 : Int)) = false → InB (L.getD (↑x.val : Int).toNat default).t (61 : Nat) ∧ Lt ((0 : Nat) + (L.getD (↑x.val : Int).toNat default).t.toNat) (61 : Nat) ∧ (decide ((lkGo L x.val).over (↑((0 : Nat)
    + (L.getD (↑x.val : Int).toNat default).t.toNat) : Int) ≠ (0 : Int)) = false → InB (L.getD (↑x.val : Int).toNat default).t (61 : Nat)) ∧ (decide ((lkGo L x.val).over (↑((0 : Nat) + (L.getD (↑x.val : Int).toNat default).t.toNat) :
    Int) ≠ (0 : Int)) = false → Lt ((0 : Nat) + (L.getD (↑x.val : Int).toNat default).t.toNat) (61 : Nat)) ∧ ((decide ((lkGo L x.val).over (↑((0 : Nat) + (L.getD (↑x.val : Int).toNat default).t.toNat) : Int) ≠ (0 : Int)) || (L.getD
    (↑x.val : Int).toNat default).p != (lkGo L x.val).last (↑((0 : Nat) + (L.getD (↑x.val : Int).toNat default).t.toNat) : Int)) = true → false = linksOK L) ∧ ((decide ((lkGo L x.val).over (↑((0 : Nat) + (L.getD (↑x.val : Int).toNat
    default).t.toNat) : Int) ≠ (0 : Int)) || (L.getD (↑x.val : Int).toNat default).p != (lkGo L x.val).last (↑((0 : Nat) + (L.getD (↑x.val : Int).toNat default).t.toNat) : Int)) = false → InB (L.getD (↑x.val : Int).toNat default).t
    (61 : Nat) ∧ Lt ((0 : Nat) + (L.getD (↑x.val : Int).toNat default).t.toNat) (61 : Nat) ∧ InB (L.getD (↑x.val : Int).toNat default).t (61 : Nat) ∧ Lt ((0 : Nat) + (L.getD (↑x.val : Int).toNat default).t.toNat) (61 : Nat) ∧
    (((L.getD (↑x.val : Int).toNat default).k == (3 : Int)) = true → ((L.getD (↑x.val : Int).toNat default).n == (0 : Int)) = false → Rng IntKind.i64 ((L.getD (↑x.val : Int).toNat default).n - (1 : Int))) ∧ (((L.getD (↑x.val :
    Int).toNat default).k == (3 : Int)) = true → ((L.getD (↑x.val : Int).toNat default).n == (0 : Int)) = false → InB ((L.getD (↑x.val : Int).toNat default).n - (1 : Int)) L.length) ∧ (((L.getD (↑x.val : Int).toNat default).k == (3 :
    Int) && ((L.getD (↑x.val : Int).toNat default).n == (0 : Int) || (L.getD ((L.getD (↑x.val : Int).toNat default).n - (1 : Int)).toNat default).t != (L.getD (↑x.val : Int).toNat default).t)) = true → false = linksOK L) ∧ (((L.getD
    (↑x.val : Int).toNat default).k == (3 : Int) && ((L.getD (↑x.val : Int).toNat default).n == (0 : Int) || (L.getD ((L.getD (↑x.val : Int).toNat default).n - (1 : Int)).toNat default).t != (L.getD (↑x.val : Int).toNat default).t)) =
    false → Rng IntKind.i64 ((↑x.val : Int) + (1 : Int)) ∧ ∃ (y : Cnt L.length (lkBad L)), (((L.length = L.length ∧ RowsEq L.length (recRow L) (recRow L)) ∧ ((0 : Nat) = (0 : Nat) ∧ (61 : Nat) = (61 : Nat)) ∧ ((0 : Nat) = (0 : Nat) ∧
    (61 : Nat) = (61 : Nat)) ∧ (↑x.val : Int) + (1 : Int) = (↑y.val : Int) ∧ True) ∧ ((61 : Nat) = (61 : Nat) ∧ RowsEq (61 : Nat) (setRow (fun (j : Nat) => [T.int IntKind.i64 ((lkGo L x.val).last (↑j : Int))]) ((0 : Nat) + (L.getD
    (↑x.val : Int).toNat default).t.toNat) (0 : Nat) [T.int IntKind.i64 (L.getD (↑x.val : Int).toNat default).l]) fun (j : Nat) => [T.int IntKind.i64 ((lkGo L y.val).last (↑j : Int))]) ∧ ((61 : Nat) = (61 : Nat) ∧ RowsEq (61 : Nat)
    (setRow (fun (j : Nat) => [T.bool (decide ((lkGo L x.val).over (↑j : Int) ≠ (0 : Int)))]) ((0 : Nat) + (L.getD (↑x.val : Int).toNat default).t.toNat) (0 : Nat) [T.bool ((L.getD (↑x.val : Int).toNat default).k == (4 : Int) ||
    (L.getD (↑x.val : Int).toNat default).k == (5 : Int))]) fun (j : Nat) => [T.bool (decide ((lkGo L y.val).over (↑j : Int) ≠ (0 : Int)))]) ∧ True) ∧ Lt (L.length - y.val) (L.length - x.val))))) ∧ (decide ((↑x.val : Int) < (↑L.length
    : Int)) = false → true = linksOK L)) :
    PureFn Try.prog 17 [recS L] (.bool (linksOK L)) :=
  fn_vc mixed nil_ok nil_call Try.func17 (by kernel_rfl) (leB (by kernel_rfl)) (A_Links L) (Eq.mp (β := vcFn Try.prog [] Try.f17.ntmps Try.f17.results.toList b_Links [recS L] (.bool (linksOK L)) (A_Links L)) (by kernel_rfl) h)
theorem linksOK_bad {L : List Rec} {i : Nat} (hi : i < L.length) (h : lkBad L i = true) : linksOK L = false := by
  unfold linksOK
  rw [anyI_iff.2 ⟨i, hi, h⟩]
  rfl
theorem linksOK_good {L : List Rec} (h : ∀ j, j < L.length → lkBad L j = false) : linksOK L = true := by
  unfold linksOK
  rw [Bool.not_eq_true', Bool.eq_false_iff, ne_eq, anyI_iff]
  rintro ⟨i, hi, hb⟩
  rw [h i hi] at hb
  cases hb
theorem lkGo_check {L : List Rec} {i : Nat} (h : (L.getD i default).k = 6) : lkGo L (i + 1) = lkGo L i := by
  simp only [lkGo, Lks.step]
  rw [if_pos h]
theorem lkGo_step {L : List Rec} {i : Nat} (h : (L.getD i default).k ≠ 6) : lkGo L (i + 1) = ⟨fun j => cond (decide (j = (L.getD i default).t)) (L.getD i default).l ((lkGo L i).last j), fun j => cond (decide (j = (L.getD i default).t)) (cond ((L.getD i default).k == 4 || (L.getD i default).k == 5) 1 0) ((lkGo L i).over j)⟩ := by
  simp only [lkGo, Lks.step]
  rw [if_neg h]
theorem lkBad_check {L : List Rec} {i : Nat} (h : (L.getD i default).k = 6) : lkBad L i = false := by
  unfold lkBad
  rw [h]
  rfl
theorem lkBad_eq {L : List Rec} {i : Nat} (h : (L.getD i default).k ≠ 6) : lkBad L i = (decide ((lkGo L i).over (L.getD i default).t ≠ 0) || (L.getD i default).p != (lkGo L i).last (L.getD i default).t || ((L.getD i default).k == 3 && ((L.getD i default).n == 0 || nextT L (L.getD i default) != (L.getD i default).t))) := by
  unfold lkBad
  rw [show ((L.getD i default).k == 6) = false from by simpa using h]
  rfl
theorem setRow1 {row : Nat → List T} {i k : Nat} {x y : T} (h : row k = [y]) : setRow row i 0 [x] k = [mrg (Nat.beq k i) x y] := by
  unfold setRow
  rw [h]
  rfl
theorem Links_ok : ConOk Try.prog 17 k_Links := by
  intro L hL
  obtain ⟨h60, hg⟩ : LinkP L := hL
  have r0 : ∀ (n : Nat) (row : Nat → List T), RowsEq n row row := fun n row i hi => rfl
  refine v_Links L ⟨⟨by unfold Nn; omega, by unfold LeI; omega, by unfold sizeB; omega, by unfold Lt; omega⟩, ⟨by unfold Nn; omega, by unfold LeI; omega, by unfold sizeB; omega, by unfold Lt; omega⟩,
    ⟨cnt0, ⟨⟨rfl, r0 _ _⟩, ⟨rfl, rfl⟩, ⟨rfl, rfl⟩, rfl, trivial⟩, ⟨rfl, fun _ _ => rfl⟩, ⟨rfl, fun _ _ => rfl⟩, trivial⟩, fun x => ⟨fun hc => ?_, fun hc => ?_⟩⟩
  · have hlt := lt_of_dec hc
    have hrec := (recOK_iff _).1 (hg x.1 hlt).1
    have hl := (hg x.1 hlt).2
    simp only [Int.toNat_natCast, Nat.zero_add]
    refine ⟨inB_nat hlt, fun h6 => ⟨add_rng hlt (by omega), x.succ hlt (lkBad_check (by simpa using h6)), ⟨⟨⟨(by first | rfl | trivial), r0 _ _⟩, ⟨(by first | rfl | trivial), (by first | rfl | trivial)⟩, ⟨(by first | rfl | trivial), (by first | rfl | trivial)⟩, (by first | rfl | trivial), trivial⟩, ⟨(by first | rfl | trivial), ?_⟩, ⟨(by first | rfl | trivial), ?_⟩, trivial⟩, Cnt.ext_lt hlt⟩, fun h6 => ?_⟩
    · simp only [Cnt.succ, lkGo_check (show (L.getD x.1 default).k = 6 by simpa using h6)]
      exact r0 _ _
    · simp only [Cnt.succ, lkGo_check (show (L.getD x.1 default).k = 6 by simpa using h6)]
      exact r0 _ _
    have h6 : (L.getD x.1 default).k ≠ 6 := by simpa using h6
    have hbad := lkBad_eq h6
    have hstep := lkGo_step h6
    unfold RecP at hrec
    obtain ⟨_, _, _, _, _, _, _, _, n0, n1, _, _, _, _, _, _, hrec⟩ := hrec
    obtain ⟨t1, t2, _⟩ := hrec h6
    unfold nextT at hbad
    generalize L.getD x.1 default = r at *
    have tt : ((r.t.toNat : Nat) : Int) = r.t := by omega
    rw [tt]
    have it : InB r.t 61 := ⟨by omega, by omega⟩
    have lt : Lt r.t.toNat 61 := by unfold Lt; omega
    refine ⟨it, lt, fun _ => it, fun _ => lt, fun hb => ?_, fun hb => ⟨it, lt, it, lt, fun _ _ => i64_rng (by omega), fun _ hn => ?_, fun hc3 => ?_, fun hc3 => ?_⟩⟩
    · exact (linksOK_bad hlt (by rw [hbad, hb]; rfl)).symm
    · have : r.n ≠ 0 := by simpa using hn
      exact ⟨by omega, by omega⟩
    · exact (linksOK_bad hlt (by rw [hbad, hb, hc3]; rfl)).symm
    · refine ⟨add_rng hlt (by omega), x.succ hlt (by rw [hbad, hb, hc3]; rfl), ⟨⟨⟨(by first | rfl | trivial), r0 _ _⟩, ⟨(by first | rfl | trivial), (by first | rfl | trivial)⟩, ⟨(by first | rfl | trivial), (by first | rfl | trivial)⟩, (by first | rfl | trivial), trivial⟩, ⟨(by first | rfl | trivial), fun j hj => ?_⟩, ⟨(by first | rfl | trivial), fun j hj => ?_⟩, trivial⟩, Cnt.ext_lt hlt⟩
      · simp only [Cnt.succ, hstep]
        rw [setRow1 rfl, mrg_int, show Nat.beq j r.t.toNat = decide ((j : Int) = r.t) from by rw [Bool.eq_iff_iff, Nat.beq_eq, decide_eq_true_eq]; omega]
      · simp only [Cnt.succ, hstep]
        rw [setRow1 rfl, show Nat.beq j r.t.toNat = decide ((j : Int) = r.t) from by rw [Bool.eq_iff_iff, Nat.beq_eq, decide_eq_true_eq]; omega]
        cases decide ((j : Int) = r.t) <;> cases (r.k == 4 || r.k == 5) <;> simp [mrg]
  · have hge := le_of_not hc
    exact (linksOK_good fun j hj => x.2.2 j (by omega)).symm
noncomputable def k_LogLinkss : Con := .rel r_LogLinks
noncomputable def A_LogLinkss (L : List Rec) : Nat → Ann
  | 0 => .one (Cnt L.length (badR L)) (fun x => ⟨[(0, recS L), (4, .int .i64 x.1)], []⟩) (fun x => L.length - x.1) [] [] (fun _ => noAnn)
  | _ => .none
noncomputable def b_LogLinkss : Code := Try.f6.body.getD .skip
theorem call_LogLinkss : Callable Try.prog 6 := ⟨_, Try.func6, by kernel_rfl, by kernel_rfl⟩
set_option maxRecDepth 100000 in
theorem v_LogLinkss (L : List Rec) (h :
    (decide ((↑L.length : Int) > (4096 : Int)) = true → false = (decide (L.length ≤ (60 : Nat)) && areOK L && linksOK L) ∧ (2 : Int) = linksCode L (areOK L) ∧ True) ∧ (decide ((↑L.length : Int) > (4096 : Int)) = false → (decide
    ((↑L.length : Int) > (60 : Int)) = true → false = (decide (L.length ≤ (60 : Nat)) && areOK L && linksOK L) ∧ (6 : Int) = linksCode L (areOK L) ∧ True) ∧ (decide ((↑L.length : Int) > (60 : Int)) = false → (∃ (x : Cnt L.length (badR
    L)), ((L.length = L.length ∧ RowsEq L.length (recRow L) (recRow L)) ∧ (0 : Int) = (↑x.val : Int) ∧ True) ∧ True) ∧ ∀ (x : Cnt L.length (badR L)), (decide ((↑x.val : Int) < (↑L.length : Int)) = true → InB (↑x.val : Int) L.length ∧
    Len (L.getD (↑x.val : Int).toNat default).a.length ∧ ((!recOK (Rec.mk (L.getD (↑x.val : Int).toNat default).e (L.getD (↑x.val : Int).toNat default).l (L.getD (↑x.val : Int).toNat default).t (L.getD (↑x.val : Int).toNat default).k
    (L.getD (↑x.val : Int).toNat default).p (L.getD (↑x.val : Int).toNat default).n (L.getD (↑x.val : Int).toNat default).g (L.getD (↑x.val : Int).toNat default).s (L.getD (↑x.val : Int).toNat default).b (L.getD (↑x.val : Int).toNat
    default).a)) = false → InB (↑x.val : Int) L.length) ∧ ((!recOK (Rec.mk (L.getD (↑x.val : Int).toNat default).e (L.getD (↑x.val : Int).toNat default).l (L.getD (↑x.val : Int).toNat default).t (L.getD (↑x.val : Int).toNat default).k
    (L.getD (↑x.val : Int).toNat default).p (L.getD (↑x.val : Int).toNat default).n (L.getD (↑x.val : Int).toNat default).g (L.getD (↑x.val : Int).toNat default).s (L.getD (↑x.val : Int).toNat default).b (L.getD (↑x.val : Int).toNat
    default).a)) = false → Rng IntKind.i64 ((↑x.val : Int) + (1 : Int))) ∧ ((!recOK (Rec.mk (L.getD (↑x.val : Int).toNat default).e (L.getD (↑x.val : Int).toNat default).l (L.getD (↑x.val : Int).toNat default).t (L.getD (↑x.val :
    Int).toNat default).k (L.getD (↑x.val : Int).toNat default).p (L.getD (↑x.val : Int).toNat default).n (L.getD (↑x.val : Int).toNat default).g (L.getD (↑x.val : Int).toNat default).s (L.getD (↑x.val : Int).toNat default).b (L.getD
    (↑x.val : Int).toNat default).a) || (L.getD (↑x.val : Int).toNat default).l != (↑x.val : Int) + (1 : Int)) = true → false = (decide (L.length ≤ (60 : Nat)) && areOK L && linksOK L) ∧ (1 : Int) = linksCode L (areOK L) ∧ True) ∧
    ((!recOK (Rec.mk (L.getD (↑x.val : Int).toNat default).e (L.getD (↑x.val : Int).toNat default).l (L.getD (↑x.val : Int).toNat default).t (L.getD (↑x.val : Int).toNat default).k (L.getD (↑x.val : Int).toNat default).p (L.getD
    (↑x.val : Int).toNat default).n (L.getD (↑x.val : Int).toNat default).g (L.getD (↑x.val : Int).toNat default).s (L.getD (↑x.val : Int).toNat default).b (L.getD (↑x.val : Int).toNat default).a) || (L.getD (↑x.val : Int).toNat
    default).l != (↑x.val : Int) + (1 : Int)) = false → Rng IntKind.i64 ((↑x.val : Int) + (1 : Int)) ∧ ∃ (y : Cnt L.length (badR L)), (((L.length = L.length ∧ RowsEq L.length (recRow L) (recRow L)) ∧ (↑x.val : Int) + (1 : Int) =
    (↑y.val : Int) ∧ True) ∧ True) ∧ Lt (L.length - y.val) (L.length - x.val))) ∧ (decide ((↑x.val : Int) < (↑L.length : Int)) = false → ∃ (x : r_Links.ι), (((L.length = List.length x ∧ RowsEq L.length (recRow L) (recRow x)) ∧ True) ∧
    LinkP x) ∧ linksOK x = (decide (L.length ≤ (60 : Nat)) && areOK L && linksOK L) ∧ (0 : Int) = linksCode L (areOK L) ∧ True)))) :
    PureFn Try.prog 6 [recS L] (linksRes L) :=
  fn_vc mixed (cons_ok RecordOKs_ok (cons_ok Links_ok nil_ok)) (cons_call call_RecordOKs (cons_call call_Links nil_call)) Try.func6 (by kernel_rfl) (leB (by kernel_rfl)) (A_LogLinkss L) (Eq.mp (β := vcFn Try.prog [(16, k_RecordOKs), (17, k_Links)] Try.f6.ntmps Try.f6.results.toList b_LogLinkss [recS L] (linksRes L) (A_LogLinkss L)) (by kernel_rfl) h)
theorem areOK_small {L : List Rec} (h : areOK L = true) (h60 : L.length ≤ 60) : LinkP L := ⟨h60, areOK_iff.1 h⟩
theorem LogLinkss_ok : ConOk Try.prog 6 k_LogLinkss := by
  intro L hL
  obtain ⟨hn, hs⟩ : LogSm L := hL
  have r0 : ∀ (n : Nat) (row : Nat → List T), RowsEq n row row := fun n row i hi => rfl
  refine v_LogLinkss L ⟨fun h => ?_, fun h => ⟨fun h60 => ?_, fun h60 => ⟨⟨cnt0, ⟨⟨rfl, r0 _ _⟩, rfl, trivial⟩, trivial⟩, fun x => ⟨fun hc => ?_, fun hc => ?_⟩⟩⟩⟩
  · have h' : 4096 < L.length := by simp at h; omega
    have : ¬ L.length ≤ 60 := by omega
    simp [linksCode, h', this]
  · have h' : ¬ 4096 < L.length := by simp at h; omega
    have h'' : 60 < L.length := by simp at h60; omega
    have : ¬ L.length ≤ 60 := by omega
    simp [linksCode, h', h'', this]
  · have hlt := lt_of_dec hc
    have h' : ¬ 4096 < L.length := by simp at h; omega
    have h'' : ¬ 60 < L.length := by simp at h60; omega
    refine ⟨inB_nat hlt, hs _ (getD_mem hlt), fun _ => inB_nat hlt, fun _ => add_rng hlt (by omega), fun hp => ?_, fun hp => ⟨add_rng hlt (by omega), x.succ hlt hp, ⟨⟨⟨rfl, r0 _ _⟩, rfl, trivial⟩, trivial⟩, Cnt.ext_lt hlt⟩⟩
    have : areOK L = false := by
      have : anyI L.length (badR L) = true := anyI_iff.2 ⟨x.1, hlt, hp⟩
      unfold areOK
      rw [this]
      rfl
    simp [linksCode, h', h'', this]
  · have hge := le_of_not hc
    have h' : ¬ 4096 < L.length := by simp at h; omega
    have h'' : ¬ 60 < L.length := by simp at h60; omega
    have h3 : L.length ≤ 60 := by omega
    have hgood : areOK L = true := by
      unfold areOK
      rw [Bool.not_eq_true', Bool.eq_false_iff, ne_eq, anyI_iff]
      rintro ⟨i, hi, h⟩
      rw [x.2.2 i (by omega)] at h
      cases h
    refine ⟨L, ⟨⟨⟨rfl, r0 _ _⟩, trivial⟩, areOK_small hgood h3⟩, ?_⟩
    simp [linksCode, h', h'', hgood, h3]
theorem LogLinksi_ok : ConOk Try.prog 8 k_LogLinksi := by
  intro L hL
  obtain ⟨hn, hs⟩ : LogSm L := hL
  have r0 : ∀ (n : Nat) (row : Nat → List T), RowsEq n row row := fun n row i hi => rfl
  refine v_LogLinksi L ⟨fun h => ?_, fun h => ⟨fun h60 => ?_, fun h60 => ⟨L, ⟨⟨⟨rfl, r0 _ _⟩, trivial⟩, ⟨hn, fun r hr => by have := hs r hr; omega⟩⟩, fun ha => ?_, fun ha => ⟨⟨cnt0, ⟨⟨rfl, r0 _ _⟩, trivial, trivial, ⟨rfl, r0 _ _⟩, rfl, rfl, trivial⟩, fun _ => rfl, fun _ => rfl, trivial⟩, fun x => ⟨fun hc => ?_, fun hc => ?_⟩⟩⟩⟩⟩
  · have h' : 4096 < L.length := by simp at h; omega
    have : ¬ L.length ≤ 60 := by omega
    simp [linksCode, h', this]
  · have h' : ¬ 4096 < L.length := by simp at h; omega
    have h'' : 60 < L.length := by simp at h60; omega
    have : ¬ L.length ≤ 60 := by omega
    simp [linksCode, h', h'', this]
  · have h' : ¬ 4096 < L.length := by simp at h; omega
    have h'' : ¬ 60 < L.length := by simp at h60; omega
    have : areOK L = false := by simpa using ha
    simp [linksCode, h', h'', this]
  · have h' : ¬ 4096 < L.length := by simp at h; omega
    have h'' : ¬ 60 < L.length := by simp at h60; omega
    have h3 : L.length ≤ 60 := by omega
    have hgood : areOK L = true := by simpa using ha
    have hlt := lt_of_dec hc
    have hrec := (recOK_iff _).1 (areOK_iff.1 hgood x.1 hlt).1
    have hl := (areOK_iff.1 hgood x.1 hlt).2
    simp only [Int.toNat_natCast]
    refine ⟨inB_nat hlt, fun h6 => ⟨add_rng hlt (by omega), x.succ hlt (lkBad_check (by simpa using h6)), ⟨⟨⟨(by first | rfl | trivial), r0 _ _⟩, trivial, trivial, ⟨(by first | rfl | trivial), r0 _ _⟩, (by first | rfl | trivial), (by first | rfl | trivial), trivial⟩, ?_, ?_, trivial⟩, Cnt.ext_lt hlt⟩, fun h6 => ?_⟩
    · simp only [Cnt.succ, lkGo_check (show (L.getD x.1 default).k = 6 by simpa using h6)]
      exact fun _ => (by first | rfl | trivial)
    · simp only [Cnt.succ, lkGo_check (show (L.getD x.1 default).k = 6 by simpa using h6)]
      exact fun _ => (by first | rfl | trivial)
    have h6 : (L.getD x.1 default).k ≠ 6 := by simpa using h6
    have hbad := lkBad_eq h6
    have hstep := lkGo_step h6
    unfold RecP at hrec
    obtain ⟨_, _, _, _, _, _, _, _, n0, n1, _, _, _, _, _, _, hrec⟩ := hrec
    unfold nextT at hbad
    refine ⟨fun _ _ _ => i64_rng (by omega), fun _ _ hn => ?_, fun hb => ?_, fun hb => ?_⟩
    · have : (L.getD x.1 default).n ≠ 0 := by simpa using hn
      exact ⟨by omega, by omega⟩
    · rw [linksOK_bad hlt (by rw [hbad, hb])]
      simp [linksCode, h', h'', hgood]
    · refine ⟨add_rng hlt (by omega), x.succ hlt (by rw [hbad, hb]), ⟨⟨⟨(by first | rfl | trivial), r0 _ _⟩, trivial, trivial, ⟨(by first | rfl | trivial), r0 _ _⟩, (by first | rfl | trivial), (by first | rfl | trivial), trivial⟩, ?_, ?_, trivial⟩, Cnt.ext_lt hlt⟩
      · simp only [Cnt.succ, hstep]
        exact fun _ => (by first | rfl | trivial)
      · simp only [Cnt.succ, hstep]
        exact fun _ => (by first | rfl | trivial)
  · have hge := le_of_not hc
    have h' : ¬ 4096 < L.length := by simp at h; omega
    have h'' : ¬ 60 < L.length := by simp at h60; omega
    have h3 : L.length ≤ 60 := by omega
    have hgood : areOK L = true := by simpa using ha
    rw [linksOK_good fun j hj => x.2.2 j (by omega)]
    simp [linksCode, h', h'', hgood, h3]
end Go.Proofs.Ytjbomnjmcbhadaa

