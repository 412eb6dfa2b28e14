/- A part of the proof of a law: what functions of the program compute, shown by a calculus of symbolic states. -/
import Derived.Test.YtjbomnjmcbhadaaGreatD2
namespace Go.Proofs.YtjbomnjmcbhadaaGreat
open Go.SS

/-- The first place below n of which p says true, or -1. -/
def fstI (n : Nat) (p : Nat → Bool) : Int := match (List.range n).find? p with | some i => (i : Int) | none => -1
theorem fstI_at {n : Nat} {p : Nat → Bool} {i : Nat} (hi : i < n) (hp : p i = true) (h : ∀ j, j < i → p j = false) : fstI n p = i := by
  have : (List.range n).find? p = some i := by
    rw [List.find?_range_eq_some]
    exact ⟨hp, List.mem_range.2 hi, fun j hj => by simp [h j hj]⟩
  unfold fstI
  rw [this]
theorem fstI_no {n : Nat} {p : Nat → Bool} (h : ∀ j, j < n → p j = false) : fstI n p = -1 := by
  have : (List.range n).find? p = none := by
    rw [List.find?_range_eq_none]
    intro j hj
    simp [h j hj]
  unfold fstI
  rw [this]
def anyI (n : Nat) (p : Nat → Bool) : Bool := (List.range n).any p
theorem anyI_fst (n : Nat) (p : Nat → Bool) : decide (fstI n p ≥ 0) = anyI n p := by
  unfold fstI anyI
  cases h : (List.range n).find? p with
  | none =>
    rw [List.find?_eq_none] at h
    have : (List.range n).any p = false := by
      rw [List.any_eq_false]
      exact h
    rw [this]
    rfl
  | some i =>
    have h1 := List.find?_some h
    have h2 := List.mem_of_find?_eq_some h
    have : (List.range n).any p = true := List.any_eq_true.2 ⟨i, h2, h1⟩
    rw [this]
    simp
theorem anyI_iff {n : Nat} {p : Nat → Bool} : anyI n p = true ↔ ∃ i, i < n ∧ p i = true := by
  unfold anyI
  simp
/-- A loop that counts: i rounds are done, and of each p has said false. -/
def Cnt (n : Nat) (p : Nat → Bool) : Type := {i : Nat // i ≤ n ∧ ∀ j, j < i → p j = false}

theorem Cnt.ext_lt {n : Nat} {i : Nat} (h : i < n) : Lt (n - (i + 1)) (n - i) := by unfold Lt; omega
theorem le_of_not {i n : Nat} (h : decide ((i : Int) < (n : Int)) = false) : n ≤ i := by simpa using h
theorem lt_of_dec {i n : Nat} (h : decide ((i : Int) < (n : Int)) = true) : i < n := by simpa using h
theorem inB_nat {i n : Nat} (h : i < n) : InB (i : Int) n := ⟨by omega, by omega⟩
theorem add_rng {i n : Nat} (h : i < n) (hn : n < 1000000000000000) : Rng .i64 ((i : Int) + 1) := i64_rng (by omega)
def cnt0 {n : Nat} {p : Nat → Bool} : Cnt n p := ⟨0, Nat.zero_le _, fun j hj => absurd hj (Nat.not_lt_zero j)⟩
def Cnt.succ {n : Nat} {p : Nat → Bool} (x : Cnt n p) (h : x.1 < n) (hp : p x.1 = false) : Cnt n p :=
  ⟨x.1 + 1, h, fun j hj => by rcases Nat.lt_or_ge j x.1 with h1 | h1; exact x.2.2 j h1; (obtain rfl : j = x.1 := by omega); exact hp⟩

def recRow (L : List Rec) (i : Nat) : List T := (L.getD i default).ts
def recS (L : List Rec) : T := .sl 10 L.length (recRow L)
def lateR (r : Rec) : Bool := decide (r.l > 60)
def c_areRecords1 : List T → Option (T × Option Prop)
  | [.agg [.int .i64 e, .int .i64 l, .int .i64 t, .int .i64 k, .int .i64 p, .int .i64 n, .int .i64 g, .int .i64 s, .str b, .str a]] => some (.bool (lateR ⟨e, l, t, k, p, n, g, s, b, a⟩), none)
  | _ => none
def k_areRecords1 : Con := .pure c_areRecords1
noncomputable def b_areRecords1 : Code := Tryz.f174.body.getD .skip
theorem call_areRecords1 : Callable Tryz.prog 174 := ⟨_, Tryz.func174, by kernel_rfl, by kernel_rfl⟩
set_option maxRecDepth 100000 in
theorem v_areRecords1 (r : Rec) (h :
    decide (r.l > (60 : Int)) = lateR r) :
    PureFn Tryz.prog 174 [.agg r.ts] (.bool (lateR r)) :=
  fn_vc mixed nil_ok nil_call Tryz.func174 (by kernel_rfl) (leB (by kernel_rfl)) noAnn (Eq.mp (β := vcFn Tryz.prog [] Tryz.f174.ntmps Tryz.f174.results.toList b_areRecords1 [.agg r.ts] (.bool (lateR r)) noAnn) (by kernel_rfl) h)
theorem areRecords1_ok : ConOk Tryz.prog 174 k_areRecords1 := by
  intro args res p h hp
  unfold c_areRecords1 at h
  split at h
  · simp only [Option.some.injEq, Prod.mk.injEq] at h
    obtain ⟨rfl, rfl⟩ := h
    exact v_areRecords1 ⟨_, _, _, _, _, _, _, _, _, _⟩ rfl
  · cases h

def fnT (f : Nat) : T := .v (.func (.func f) #[] #[])
def Len (n : Nat) : Prop := n < 1000000000000
def r_idxRec : Rl := ⟨List Rec, fun L => [recS L, fnT 174], fun L => .int .i64 (fstI L.length fun i => lateR (L.getD i default)), fun L => Len L.length⟩
def k_idxRec : Con := .rel r_idxRec
def A_idxRec (L : List Rec) : Nat → Ann
  | 0 => .one (Cnt L.length fun i => lateR (L.getD i default)) (fun x => ⟨[(0, recS L), (1, fnT 174), (7, .int .i64 L.length), (8, .int .i64 x.1)], []⟩) (fun x => L.length - x.1) [] [] (fun _ => noAnn)
  | _ => .none
noncomputable def b_idxRec : Code := Tryz.f245.body.getD .skip
theorem call_idxRec : Callable Tryz.prog 245 := ⟨_, Tryz.func245, by kernel_rfl, by kernel_rfl⟩
set_option maxRecDepth 100000 in
theorem v_idxRec (L : List Rec) (h :
    (∃ (x : Cnt L.length fun (i : Nat) => lateR (L.getD i default)), ((L.length = L.length ∧ RowsEq L.length (recRow L) (recRow L)) ∧ Value.func (Fn.func (174 : Nat)) #[] #[] = Value.func (Fn.func (174 : Nat)) #[] #[] ∧ (↑L.length :
    Int) = (↑L.length : Int) ∧ (0 : Int) = (↑x.val : Int) ∧ True) ∧ True) ∧ ∀ (x : Cnt L.length fun (i : Nat) => lateR (L.getD i default)), (decide ((↑x.val : Int) < (↑L.length : Int)) = true → InB (↑x.val : Int) L.length ∧ (lateR
    (Rec.mk (L.getD (↑x.val : Int).toNat default).e (L.getD (↑x.val : Int).toNat default).l (L.getD (↑x.val : Int).toNat default).t (L.getD (↑x.val : Int).toNat default).k (L.getD (↑x.val : Int).toNat default).p (L.getD (↑x.val :
    Int).toNat default).n (L.getD (↑x.val : Int).toNat default).g (L.getD (↑x.val : Int).toNat default).s (L.getD (↑x.val : Int).toNat default).b (L.getD (↑x.val : Int).toNat default).a) = true → (↑x.val : Int) = fstI L.length fun (i
    : Nat) => lateR (L.getD i default)) ∧ (lateR (Rec.mk (L.getD (↑x.val : Int).toNat default).e (L.getD (↑x.val : Int).toNat default).l (L.getD (↑x.val : Int).toNat default).t (L.getD (↑x.val : Int).toNat default).k (L.getD (↑x.val :
    Int).toNat default).p (L.getD (↑x.val : Int).toNat default).n (L.getD (↑x.val : Int).toNat default).g (L.getD (↑x.val : Int).toNat default).s (L.getD (↑x.val : Int).toNat default).b (L.getD (↑x.val : Int).toNat default).a) = false
    → Rng IntKind.i64 ((↑x.val : Int) + (1 : Int)) ∧ ∃ (y : Cnt L.length fun (i : Nat) => lateR (L.getD i default)), (((L.length = L.length ∧ RowsEq L.length (recRow L) (recRow L)) ∧ Value.func (Fn.func (174 : Nat)) #[] #[] =
    Value.func (Fn.func (174 : Nat)) #[] #[] ∧ (↑L.length : Int) = (↑L.length : Int) ∧ (↑x.val : Int) + (1 : Int) = (↑y.val : Int) ∧ True) ∧ True) ∧ Lt (L.length - y.val) (L.length - x.val))) ∧ (decide ((↑x.val : Int) < (↑L.length :
    Int)) = false → (-1 : Int) = fstI L.length fun (i : Nat) => lateR (L.getD i default))) :
    PureFn Tryz.prog 245 [recS L, fnT 174] (.int .i64 (fstI L.length fun i => lateR (L.getD i default))) :=
  fn_vc mixed (cons_ok areRecords1_ok nil_ok) (cons_call call_areRecords1 nil_call) Tryz.func245 (by kernel_rfl) (leB (by kernel_rfl)) (A_idxRec L) (Eq.mp (β := vcFn Tryz.prog [(174, k_areRecords1)] Tryz.f245.ntmps Tryz.f245.results.toList b_idxRec [recS L, fnT 174] (.int .i64 (fstI L.length fun i => lateR (L.getD i default))) (A_idxRec L)) (by kernel_rfl) h)
theorem idxRec_ok : ConOk Tryz.prog 245 k_idxRec := by
  intro L hL
  have hL : L.length < 1000000000000 := hL
  refine v_idxRec L ⟨⟨cnt0, ⟨⟨rfl, fun _ _ => rfl⟩, rfl, rfl, rfl, trivial⟩, trivial⟩, fun x => ⟨fun hc => ?_, fun hc => ?_⟩⟩
  · have hlt := lt_of_dec hc
    refine ⟨inB_nat hlt, fun hp => (fstI_at hlt hp x.2.2).symm, fun hp => ⟨add_rng hlt (by omega), x.succ hlt hp, ⟨⟨⟨rfl, fun _ _ => rfl⟩, rfl, rfl, rfl, trivial⟩, trivial⟩, Cnt.ext_lt hlt⟩⟩
  · have hge := le_of_not hc
    exact (fstI_no fun j hj => x.2.2 j (by omega)).symm
def r_anyRec : Rl := ⟨List Rec, fun L => [recS L, fnT 174], fun L => .bool (anyI L.length fun i => lateR (L.getD i default)), fun L => Len L.length⟩
def k_anyRec : Con := .rel r_anyRec
noncomputable def b_anyRec : Code := Tryz.f173.body.getD .skip
theorem call_anyRec : Callable Tryz.prog 173 := ⟨_, Tryz.func173, by kernel_rfl, by kernel_rfl⟩
set_option maxRecDepth 100000 in
theorem v_anyRec (L : List Rec) (h :
    ∃ (x : r_idxRec.ι), (((L.length = List.length x ∧ RowsEq L.length (recRow L) (recRow x)) ∧ Value.func (Fn.func (174 : Nat)) #[] #[] = Value.func (Fn.func (174 : Nat)) #[] #[] ∧ True) ∧ Len (List.length x)) ∧ decide ((fstI
    (List.length x) fun (i : Nat) => lateR (List.getD x i default)) ≥ (0 : Int)) = anyI L.length fun (i : Nat) => lateR (L.getD i default)) :
    PureFn Tryz.prog 173 [recS L, fnT 174] (.bool (anyI L.length fun i => lateR (L.getD i default))) :=
  fn_vc mixed (cons_ok idxRec_ok nil_ok) (cons_call call_idxRec nil_call) Tryz.func173 (by kernel_rfl) (leB (by kernel_rfl)) noAnn (Eq.mp (β := vcFn Tryz.prog [(245, k_idxRec)] Tryz.f173.ntmps Tryz.f173.results.toList b_anyRec [recS L, fnT 174] (.bool (anyI L.length fun i => lateR (L.getD i default))) noAnn) (by kernel_rfl) h)
theorem anyRec_ok : ConOk Tryz.prog 173 k_anyRec := by
  intro L hL
  exact v_anyRec L ⟨L, ⟨⟨⟨rfl, fun _ _ => rfl⟩, rfl, trivial⟩, hL⟩, anyI_fst _ _⟩

/-- Of their places, and right. -/
noncomputable def badR (L : List Rec) (i : Nat) : Bool := !recOK (L.getD i default) || (L.getD i default).l != (i : Int) + 1
noncomputable def areOK (L : List Rec) : Bool := !anyI L.length (badR L)
def LogB (L : List Rec) : Prop := L.length < 1000000000000 ∧ ∀ r ∈ L, r.a.length < 140737488355329
noncomputable def r_areRecords : Rl := ⟨List Rec, fun L => [recS L], fun L => .bool (areOK L), LogB⟩
noncomputable def k_areRecords : Con := .rel r_areRecords
noncomputable def A_areRecords (L : List Rec) : Nat → Ann
  | 0 => .one (Cnt L.length (badR L)) (fun x => ⟨[(0, recS L), (5, recS L), (6, .int .i64 L.length), (7, .int .i64 x.1)], []⟩) (fun x => L.length - x.1) [] [] (fun _ => noAnn)
  | _ => .none
noncomputable def b_areRecords : Code := Tryz.f93.body.getD .skip
theorem call_areRecords : Callable Tryz.prog 93 := ⟨_, Tryz.func93, by kernel_rfl, by kernel_rfl⟩
set_option maxRecDepth 100000 in
theorem v_areRecords (L : List Rec) (h :
    (∃ (x : Cnt L.length (badR L)), ((L.length = L.length ∧ RowsEq L.length (recRow L) (recRow L)) ∧ (L.length = L.length ∧ RowsEq L.length (recRow L) (recRow L)) ∧ (↑L.length : Int) = (↑L.length : Int) ∧ (0 : Int) = (↑x.val : Int) ∧
    True) ∧ True) ∧ ∀ (x : Cnt L.length (badR L)), (decide ((↑x.val : Int) < (↑L.length : Int)) = true → InB (↑x.val : Int) L.length ∧ StrB (L.getD (↑x.val : Int).toNat default).a ∧ ((!recOK (Rec.mk (L.getD (↑x.val : Int).toNat
    default).e (L.getD (↑x.val : Int).toNat default).l (L.getD (↑x.val : Int).toNat default).t (L.getD (↑x.val : Int).toNat default).k (L.getD (↑x.val : Int).toNat default).p (L.getD (↑x.val : Int).toNat default).n (L.getD (↑x.val :
    Int).toNat default).g (L.getD (↑x.val : Int).toNat default).s (L.getD (↑x.val : Int).toNat default).b (L.getD (↑x.val : Int).toNat default).a)) = false → Rng IntKind.i64 ((↑x.val : Int) + (1 : Int))) ∧ ((!recOK (Rec.mk (L.getD
    (↑x.val : Int).toNat default).e (L.getD (↑x.val : Int).toNat default).l (L.getD (↑x.val : Int).toNat default).t (L.getD (↑x.val : Int).toNat default).k (L.getD (↑x.val : Int).toNat default).p (L.getD (↑x.val : Int).toNat
    default).n (L.getD (↑x.val : Int).toNat default).g (L.getD (↑x.val : Int).toNat default).s (L.getD (↑x.val : Int).toNat default).b (L.getD (↑x.val : Int).toNat default).a) || (L.getD (↑x.val : Int).toNat default).l != (↑x.val :
    Int) + (1 : Int)) = true → false = areOK L) ∧ ((!recOK (Rec.mk (L.getD (↑x.val : Int).toNat default).e (L.getD (↑x.val : Int).toNat default).l (L.getD (↑x.val : Int).toNat default).t (L.getD (↑x.val : Int).toNat default).k (L.getD
    (↑x.val : Int).toNat default).p (L.getD (↑x.val : Int).toNat default).n (L.getD (↑x.val : Int).toNat default).g (L.getD (↑x.val : Int).toNat default).s (L.getD (↑x.val : Int).toNat default).b (L.getD (↑x.val : Int).toNat
    default).a) || (L.getD (↑x.val : Int).toNat default).l != (↑x.val : Int) + (1 : Int)) = false → Rng IntKind.i64 ((↑x.val : Int) + (1 : Int)) ∧ ∃ (y : Cnt L.length (badR L)), (((L.length = L.length ∧ RowsEq L.length (recRow L)
    (recRow L)) ∧ (L.length = L.length ∧ RowsEq L.length (recRow L) (recRow L)) ∧ (↑L.length : Int) = (↑L.length : Int) ∧ (↑x.val : Int) + (1 : Int) = (↑y.val : Int) ∧ True) ∧ True) ∧ Lt (L.length - y.val) (L.length - x.val))) ∧
    (decide ((↑x.val : Int) < (↑L.length : Int)) = false → ∃ (x : r_anyRec.ι), (((L.length = List.length x ∧ RowsEq L.length (recRow L) (recRow x)) ∧ Value.func (Fn.func (174 : Nat)) #[] #[] = Value.func (Fn.func (174 : Nat)) #[] #[]
    ∧ True) ∧ Len (List.length x)) ∧ (!anyI (List.length x) fun (i : Nat) => lateR (List.getD x i default)) = areOK L)) :
    PureFn Tryz.prog 93 [recS L] (.bool (areOK L)) :=
  fn_vc mixed (cons_ok RecordOKi_ok (cons_ok anyRec_ok nil_ok)) (cons_call call_RecordOKi (cons_call call_anyRec nil_call)) Tryz.func93 (by kernel_rfl) (leB (by kernel_rfl)) (A_areRecords L) (Eq.mp (β := vcFn Tryz.prog [(159, k_RecordOKi), (173, k_anyRec)] Tryz.f93.ntmps Tryz.f93.results.toList b_areRecords [recS L] (.bool (areOK L)) (A_areRecords L)) (by kernel_rfl) h)
theorem areOK_iff {L : List Rec} : areOK L = true ↔ ∀ i, i < L.length → recOK (L.getD i default) = true ∧ (L.getD i default).l = (i : Int) + 1 := by
  unfold areOK
  rw [Bool.not_eq_true', Bool.eq_false_iff, ne_eq, anyI_iff]
  constructor
  · intro h i hi
    have : ¬ badR L i = true := fun hb => h ⟨i, hi, hb⟩
    simpa [badR] using this
  · rintro h ⟨i, hi, hb⟩
    have := h i hi
    unfold badR at hb
    rw [this.1, this.2] at hb
    simp at hb
theorem getD_mem {L : List Rec} {i : Nat} (h : i < L.length) : L.getD i default ∈ L := by
  rw [List.getD_eq_getElem?_getD, List.getElem?_eq_getElem h]
  exact List.getElem_mem h
theorem areRecords_ok : ConOk Tryz.prog 93 k_areRecords := by
  intro L hL
  obtain ⟨hn, hb⟩ : LogB L := hL
  refine v_areRecords L ⟨⟨cnt0, ⟨⟨rfl, fun _ _ => rfl⟩, ⟨rfl, fun _ _ => rfl⟩, rfl, rfl, trivial⟩, trivial⟩, fun x => ⟨fun hc => ?_, fun hc => ?_⟩⟩
  · have hlt := lt_of_dec hc
    refine ⟨inB_nat hlt, hb _ (getD_mem hlt), fun _ => add_rng hlt (by omega), fun hp => ?_, fun hp => ⟨add_rng hlt (by omega), x.succ hlt hp, ⟨⟨⟨rfl, fun _ _ => rfl⟩, ⟨rfl, fun _ _ => rfl⟩, rfl, rfl, trivial⟩, trivial⟩, Cnt.ext_lt hlt⟩⟩
    have : anyI L.length (badR L) = true := anyI_iff.2 ⟨x.1, hlt, hp⟩
    simp [areOK, this]
  · have hge := le_of_not hc
    have hgood : areOK L = true := by
      unfold areOK
      rw [Bool.not_eq_true', Bool.eq_false_iff, ne_eq, anyI_iff]
      rintro ⟨i, hi, h⟩
      rw [x.2.2 i (by omega)] at h
      cases h
    refine ⟨L, ⟨⟨⟨rfl, fun _ _ => rfl⟩, rfl, trivial⟩, hn⟩, ?_⟩
    rw [hgood, Bool.not_eq_true', Bool.eq_false_iff, ne_eq, anyI_iff]
    rintro ⟨i, hi, h⟩
    have h1 := (recOK_iff _).1 (areOK_iff.1 hgood i hi).1
    obtain ⟨_, _, _, h60, _⟩ := h1
    have : ¬ (L.getD i default).l > 60 := by omega
    simp [lateR] at h
    simp at this
    omega
end Go.Proofs.YtjbomnjmcbhadaaGreat

