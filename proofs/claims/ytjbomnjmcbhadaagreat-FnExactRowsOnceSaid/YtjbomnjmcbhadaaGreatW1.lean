/- A part of the proof. -/
import Derived.Test.YtjbomnjmcbhadaaGreatE8
namespace Go.Proofs.YtjbomnjmcbhadaaGreat
set_option maxRecDepth 100000
open Go.SS

-- values, rows, changes
structure Val where
  k : Int
  n : Int
  t : List UInt8
  deriving Inhabited
def Val.ts (v : Val) : List T := [.int .i64 v.k, .int .i64 v.n, .str v.t]
structure Rw where
  id : Int
  n : Val
  name : Val
  deriving Inhabited
def Rw.ts (r : Rw) : List T := [.int .i64 r.id, .int .i64 r.n.k, .int .i64 r.n.n, .str r.n.t, .int .i64 r.name.k, .int .i64 r.name.n, .str r.name.t]
structure Chg where
  se : Int
  ta : Int
  row : Rw
  gone : Bool
  deriving Inhabited
def Chg.ts (c : Chg) : List T := [.int .i64 c.se, .int .i64 c.ta, .int .i64 c.row.id, .int .i64 c.row.n.k, .int .i64 c.row.n.n, .str c.row.n.t, .int .i64 c.row.name.k, .int .i64 c.row.name.n, .str c.row.name.t, .bool c.gone]
def chgRow (L : List Chg) (i : Nat) : List T := (L.getD i default).ts
def chgS (L : List Chg) : T := .sl 10 L.length (chgRow L)
def letB (c : UInt8) : Bool := decide (c.toNat ≥ 97) && decide (c.toNat ≤ 122)
def badW (t : List UInt8) (i : Nat) : Bool := !letB (t.getD i 0)
def wordOK (t : List UInt8) : Bool := !anyI t.length (badW t) && decide (t.length ≤ 10)
def valOK (v : Val) : Bool := if v.k = 0 then (v.n == 0) && (v.t == []) else if v.k = 1 then inR v.n (-1000000000) 1000000000 && (v.t == []) else (v.k == 2) && (v.n == 0) && wordOK v.t
def rowOKb (r : Rw) : Bool := inR r.id 0 1000 && valOK r.n && (r.n.k != 2) && valOK r.name && (r.name.k != 1)
def badChg (L : List Chg) (i : Nat) : Bool := !inR (L.getD i default).se 0 2 || !inR (L.getD i default).ta 1 3 || !rowOKb (L.getD i default).row
def chgsOK (L : List Chg) : Bool := decide (L.length ≤ 1000) && !anyI L.length (badChg L)

def r_isLetter : Rl := ⟨UInt8, fun c => [.int .u8 c.toNat], fun c => .bool (letB c), fun _ => True⟩
def k_isLetter : Con := .rel r_isLetter
noncomputable def b_isLetter : Code := Tryz.f309.body.getD .skip
theorem call_isLetter : Callable Tryz.prog 309 := ⟨_, Tryz.func309, by kernel_rfl, by kernel_rfl⟩
theorem v_isLetter (c : UInt8) (h :
    (decide ((c.toNat:Int) ≥ (97 : Int)) && decide ((c.toNat:Int) ≤ (122 : Int))) = letB c) :
    PureFn Tryz.prog 309 [.int .u8 c.toNat] (.bool (letB c)) :=
  vcR (code := b_isLetter) gN Tryz.func309 (by kernel_rfl) (by kernel_rfl) noAnn h (by kernel_rfl)
theorem isLetter_ok : ConOk Tryz.prog 309 k_isLetter := fun c _ => v_isLetter c (by unfold letB; congr 1 <;> exact decide_eq_decide.2 (by omega))
def StB (t : List UInt8) : Prop := Len t.length
def r_isWord : Rl := ⟨List UInt8, fun t => [.str t], fun t => .bool (wordOK t), StB⟩
def k_isWord : Con := .rel r_isWord
def A_isWord (t : List UInt8) : Nat → Ann
  | 0 => .one (Cnt t.length (badW t)) (fun x => ⟨[(0, .str t), (5, .int .i64 t.length), (6, .int .i64 x.1)], []⟩) (fun x => t.length - x.1) [] [] (fun _ => noAnn)
  | _ => .none
noncomputable def b_isWord : Code := Tryz.f300.body.getD .skip
theorem call_isWord : Callable Tryz.prog 300 := ⟨_, Tryz.func300, by kernel_rfl, by kernel_rfl⟩
theorem v_isWord (t : List UInt8) (h :
    (∃ (x : Cnt t.length (badW t)), (t = t ∧ (t.length:Int) = (t.length:Int) ∧ (0 : Int) = (x.val:Int) ∧ True) ∧ True) ∧ ∀ (x : Cnt t.length (badW t)), (decide ((x.val:Int) < (t.length:Int)) = true → InB (x.val:Int) t.length ∧ ∃ (x_1
    : r_isLetter.ι), (((↑(t.getD (x.val:Int).toNat (0 : UInt8)).toNat : Int) = (↑(UInt8.toNat x_1) : Int) ∧ True) ∧ True) ∧ ((!letB x_1) = true → false = wordOK t) ∧ ((!letB x_1) = false → Rng .i64 ((x.val:Int) + (1 : Int)) ∧ ∃ (y :
    Cnt t.length (badW t)), ((t = t ∧ (t.length:Int) = (t.length:Int) ∧ (x.val:Int) + (1 : Int) = (y.val:Int) ∧ True) ∧ True) ∧ Lt (t.length - y.val) (t.length - x.val))) ∧ (decide ((x.val:Int) < (t.length:Int)) = false → decide
    ((t.length:Int) ≤ (10 : Int)) = wordOK t)) :
    PureFn Tryz.prog 300 [.str t] (.bool (wordOK t)) :=
  vcR (code := b_isWord) (gC isLetter_ok call_isLetter gN) Tryz.func300 (by kernel_rfl) (by kernel_rfl) (A_isWord t) h (by kernel_rfl)
theorem isWord_ok : ConOk Tryz.prog 300 k_isWord := by
  intro (t : List UInt8) (h : t.length < 1000000000000)
  refine v_isWord t ⟨⟨cnt0, ⟨rfl, rfl, rfl, trivial⟩, trivial⟩, fun x => ⟨fun hc => ?_, fun hc => ?_⟩⟩
  · have hlt := lt_of_dec hc
    refine ⟨inB_nat hlt, t.getD x.val 0, ⟨⟨rfl, trivial⟩, trivial⟩, fun hp => ?_, fun hp => ⟨add_rng hlt (by omega), x.succ hlt hp, ⟨⟨rfl, rfl, by simp only [Cnt.succ]; omega, trivial⟩, trivial⟩, Cnt.ext_lt hlt⟩⟩
    have : anyI t.length (badW t) = true := anyI_iff.2 ⟨x.val, hlt, hp⟩
    unfold wordOK
    rw [this]
    rfl
  · have hge := le_of_not hc
    have : anyI t.length (badW t) = false := anyI_no.2 fun i hi => x.2.2 i (Nat.lt_of_lt_of_le hi hge)
    unfold wordOK
    rw [this]
    show _ = decide (t.length ≤ 10)
    exact decide_eq_decide.2 (by omega)
def k_isNumber : Con := .rel ⟨Int, fun n => [.int .i64 n], fun n => .bool (inR n (-1000000000) 1000000000), fun _ => True⟩
noncomputable def b_isNumber : Code := Tryz.f299.body.getD .skip
theorem call_isNumber : Callable Tryz.prog 299 := ⟨_, Tryz.func299, by kernel_rfl, by kernel_rfl⟩
theorem v_isNumber (n : Int) (h :
    inR n (-1000000000 : Int) (1000000000 : Int) = inR n (-1000000000 : Int) (1000000000 : Int)) :
    PureFn Tryz.prog 299 [.int .i64 n] (.bool (inR n (-1000000000) 1000000000)) :=
  vcR (code := b_isNumber) (gC inRange_ok call_inRange gN) Tryz.func299 (by kernel_rfl) (by kernel_rfl) noAnn h (by kernel_rfl)
theorem isNumber_ok : ConOk Tryz.prog 299 k_isNumber := fun n _ => v_isNumber n rfl
def r_ValueOK : Rl := ⟨Val, fun v => [.agg v.ts], fun v => .bool (valOK v), fun v => StB v.t⟩
def k_ValueOKi : Con := .rel r_ValueOK
def k_ValueOKs : Con := .rel r_ValueOK
noncomputable def b_ValueOKi : Code := Tryz.f264.body.getD .skip
theorem call_ValueOKi : Callable Tryz.prog 264 := ⟨_, Tryz.func264, by kernel_rfl, by kernel_rfl⟩
theorem v_ValueOKi (v : Val) (h :
    ((v.k == (0 : Int)) = true → (v.k == (0 : Int) && (v.n == (0 : Int) && (v.t == [] && true))) = valOK v) ∧ ((v.k == (0 : Int)) = false → ((v.k == (1 : Int)) = true → ∃ (x : Int), ((v.n = x ∧ True) ∧ True) ∧ (inR x (-1000000000 :
    Int) (1000000000 : Int) && v.t == []) = valOK v) ∧ ((v.k == (1 : Int)) = false → ∃ (x : r_isWord.ι), ((v.k == (2 : Int) && v.n == (0 : Int)) = true → (v.t = x ∧ True) ∧ StB x) ∧ (v.k == (2 : Int) && v.n == (0 : Int) && wordOK x) =
    valOK v))) :
    PureFn Tryz.prog 264 [.agg v.ts] (.bool (valOK v)) :=
  vcR (code := b_ValueOKi) (gC isNumber_ok call_isNumber (gC isWord_ok call_isWord gN)) Tryz.func264 (by kernel_rfl) (by kernel_rfl) noAnn h (by kernel_rfl)
theorem ValueOKi_ok : ConOk Tryz.prog 264 k_ValueOKi := by
  intro (v : Val) h
  refine v_ValueOKi v ⟨fun h0 => ?_, fun h0 => ⟨fun h1 => ⟨v.n, ⟨⟨rfl, trivial⟩, trivial⟩, ?_⟩, fun h1 => ⟨v.t, fun _ => ⟨⟨rfl, trivial⟩, h⟩, ?_⟩⟩⟩
  · have h0' : v.k = 0 := by simpa using h0
    unfold valOK
    rw [if_pos h0', h0, Bool.true_and, Bool.and_true]
  · have h0' : v.k ≠ 0 := by simpa using h0
    have h1' : v.k = 1 := by simpa using h1
    unfold valOK
    rw [if_neg h0', if_pos h1']
  · have h0' : v.k ≠ 0 := by simpa using h0
    have h1' : v.k ≠ 1 := by simpa using h1
    unfold valOK
    rw [if_neg h0', if_neg h1']
def valBox (v : Val) : Option Ob := some (.arr true 1000000 3 1 fun _ => v.ts)
def A_ValueOKs (v : Val) : Nat → Ann
  | 0 => .one (Cnt v.t.length (badW v.t)) (fun x => ⟨[(1, .ref 0 0 0), (3, .int .i64 x.1)], [valBox v]⟩) (fun x => v.t.length - x.1) [.box 0] [.box 0] (fun _ => noAnn)
  | _ => .none
noncomputable def b_ValueOKs : Code := Tryz.f268.body.getD .skip
theorem call_ValueOKs : Callable Tryz.prog 268 := ⟨_, Tryz.func268, by kernel_rfl, by kernel_rfl⟩
theorem v_ValueOKs (v : Val) (h :
    ((v.k == (0 : Int)) = true → (v.n == (0 : Int) && v.t == []) = valOK v) ∧ ((v.k == (0 : Int)) = false → ((v.k == (1 : Int)) = true → (inR v.n (-1000000000 : Int) (1000000000 : Int) && v.t == []) = valOK v) ∧ ((v.k == (1 : Int)) =
    false → ((v.k == (2 : Int)) = true → ((v.n != (0 : Int) || decide ((v.t.length:Int) > (10 : Int))) = true → false = valOK v) ∧ ((v.n != (0 : Int) || decide ((v.t.length:Int) > (10 : Int))) = false → (∃ (x : Cnt v.t.length (badW
    v.t)), ((0 = 0 ∧ 0 = 0) ∧ (0 : Int) = (x.val:Int) ∧ True) ∧ (1 = 1 ∧ 1 = 1 ∧ v.k = v.k ∧ v.n = v.n ∧ v.t = v.t ∧ True) ∧ True) ∧ ∀ (x : Cnt v.t.length (badW v.t)), (decide ((x.val:Int) < (v.t.length:Int)) = true → InB (x.val:Int)
    v.t.length ∧ ((!inR (IntKind.i64.wrap (↑(v.t.getD (x.val:Int).toNat (0 : UInt8)).toNat : Int)) (97 : Int) (122 : Int)) = true → false = valOK v) ∧ ((!inR (IntKind.i64.wrap (↑(v.t.getD (x.val:Int).toNat (0 : UInt8)).toNat : Int))
    (97 : Int) (122 : Int)) = false → Rng .i64 ((x.val:Int) + (1 : Int)) ∧ ∃ (y : Cnt v.t.length (badW v.t)), (((0 = 0 ∧ 0 = 0) ∧ (x.val:Int) + (1 : Int) = (y.val:Int) ∧ True) ∧ (1 = 1 ∧ 1 = 1 ∧ v.k = v.k ∧ v.n = v.n ∧ v.t = v.t ∧
    True) ∧ True) ∧ Lt (v.t.length - y.val) (v.t.length - x.val))) ∧ (decide ((x.val:Int) < (v.t.length:Int)) = false → true = valOK v))) ∧ ((v.k == (2 : Int)) = false → false = valOK v)))) :
    PureFn Tryz.prog 268 [.agg v.ts] (.bool (valOK v)) :=
  vcR (code := b_ValueOKs) (gC l01In_ok call_l01In gN) Tryz.func268 (by kernel_rfl) (by kernel_rfl) (A_ValueOKs v) h (by kernel_rfl)
theorem wordS {v : Val} (h : v.k = 2) (hn : v.n = 0) (hl : v.t.length ≤ 10) : valOK v = !anyI v.t.length (badW v.t) := by
  unfold valOK
  rw [if_neg (by omega), if_neg (by omega), h, hn]
  unfold wordOK
  rw [decide_eq_true hl, Bool.and_true]
  rfl
theorem ValueOKs_ok : ConOk Tryz.prog 268 k_ValueOKs := by
  intro (v : Val) (h : v.t.length < 1000000000000)
  refine v_ValueOKs v ⟨fun h0 => ?_, fun h0 => ⟨fun h1 => ?_, fun h1 => ⟨fun h2 => ⟨fun hb => ?_, fun hb => ?_⟩, fun h2 => ?_⟩⟩⟩
  · have h0' : v.k = 0 := by simpa using h0
    unfold valOK
    rw [if_pos h0']
  · have h0' : v.k ≠ 0 := by simpa using h0
    have h1' : v.k = 1 := by simpa using h1
    unfold valOK
    rw [if_neg h0', if_pos h1']
  · have h2' : v.k = 2 := by simpa using h2
    unfold valOK wordOK
    rw [if_neg (by omega), if_neg (by omega)]
    simp only [Bool.or_eq_true, bne_iff_ne, decide_eq_true_eq] at hb
    by_cases hn : v.n = 0
    · rw [decide_eq_false (p := v.t.length ≤ 10) (by rcases hb with hb | hb <;> omega)]
      simp
    · rw [show (v.n == 0) = false by simpa using hn]
      simp
  · have h2' : v.k = 2 := by simpa using h2
    simp only [Bool.or_eq_false_iff, bne_eq_false_iff_eq, decide_eq_false_iff_not] at hb
    obtain ⟨hn, hl⟩ := hb
    have e := wordS h2' hn (by omega)
    refine ⟨⟨cnt0, ⟨⟨rfl, rfl⟩, rfl, trivial⟩, ⟨rfl, rfl, rfl, rfl, rfl, trivial⟩, trivial⟩, fun x => ⟨fun hc => ?_, fun hc => ?_⟩⟩
    · have hlt := lt_of_dec hc
      rw [wrap_byte, Int.toNat_natCast, show inR ((v.t.getD x.val 0).toNat : Int) 97 122 = letB (v.t.getD x.val 0) by unfold inR letB; congr 1 <;> exact decide_eq_decide.2 (by omega)]
      refine ⟨inB_nat hlt, fun hp => ?_, fun hp => ⟨add_rng hlt (by omega), x.succ hlt hp, ⟨⟨⟨rfl, rfl⟩, by simp only [Cnt.succ]; omega, trivial⟩, ⟨rfl, rfl, rfl, rfl, rfl, trivial⟩, trivial⟩, Cnt.ext_lt hlt⟩⟩
      have : anyI v.t.length (badW v.t) = true := anyI_iff.2 ⟨x.val, hlt, hp⟩
      rw [e, this]
      rfl
    · have hge := le_of_not hc
      have : anyI v.t.length (badW v.t) = false := anyI_no.2 fun i hi => x.2.2 i (Nat.lt_of_lt_of_le hi hge)
      rw [e, this]
      rfl
  · have h0' : v.k ≠ 0 := by simpa using h0
    have h1' : v.k ≠ 1 := by simpa using h1
    unfold valOK
    rw [if_neg h0', if_neg h1', h2]
    rfl
def k_isTable : Con := .rel ⟨Int, fun n => [.int .i64 n], fun n => .bool (inR n 1 3), fun _ => True⟩
noncomputable def b_isTable : Code := Tryz.f193.body.getD .skip
theorem call_isTable : Callable Tryz.prog 193 := ⟨_, Tryz.func193, by kernel_rfl, by kernel_rfl⟩
theorem v_isTable (n : Int) (h :
    inR n (1 : Int) (3 : Int) = inR n (1 : Int) (3 : Int)) :
    PureFn Tryz.prog 193 [.int .i64 n] (.bool (inR n 1 3)) :=
  vcR (code := b_isTable) (gC inRange_ok call_inRange gN) Tryz.func193 (by kernel_rfl) (by kernel_rfl) noAnn h (by kernel_rfl)
theorem isTable_ok : ConOk Tryz.prog 193 k_isTable := fun n _ => v_isTable n rfl
def k_isId : Con := .rel ⟨Int, fun n => [.int .i64 n], fun n => .bool (inR n 0 1000), fun _ => True⟩
noncomputable def b_isId : Code := Tryz.f263.body.getD .skip
theorem call_isId : Callable Tryz.prog 263 := ⟨_, Tryz.func263, by kernel_rfl, by kernel_rfl⟩
theorem v_isId (n : Int) (h :
    inR n (0 : Int) (1000 : Int) = inR n (0 : Int) (1000 : Int)) :
    PureFn Tryz.prog 263 [.int .i64 n] (.bool (inR n 0 1000)) :=
  vcR (code := b_isId) (gC inRange_ok call_inRange gN) Tryz.func263 (by kernel_rfl) (by kernel_rfl) noAnn h (by kernel_rfl)
theorem isId_ok : ConOk Tryz.prog 263 k_isId := fun n _ => v_isId n rfl
def RwB (r : Rw) : Prop := StB r.n.t ∧ StB r.name.t
def r_rowOK : Rl := ⟨Rw, fun r => [.agg r.ts], fun r => .bool (rowOKb r), RwB⟩
def k_rowOK : Con := .rel r_rowOK
def k_l07Row : Con := .rel r_rowOK
noncomputable def b_rowOK : Code := Tryz.f194.body.getD .skip
theorem call_rowOK : Callable Tryz.prog 194 := ⟨_, Tryz.func194, by kernel_rfl, by kernel_rfl⟩
theorem v_rowOK (r : Rw) (h :
    ∃ (x : Int), ((r.id = x ∧ True) ∧ True) ∧ ∃ (x_1 : r_ValueOK.ι), (inR x (0 : Int) (1000 : Int) = true → ((r.n.k = x_1.k ∧ r.n.n = x_1.n ∧ r.n.t = x_1.t ∧ True) ∧ True) ∧ StB x_1.t) ∧ ∃ (x_2 : r_ValueOK.ι), ((inR x (0 : Int) (1000
    : Int) && valOK x_1 && r.n.k != (2 : Int)) = true → ((r.name.k = x_2.k ∧ r.name.n = x_2.n ∧ r.name.t = x_2.t ∧ True) ∧ True) ∧ StB x_2.t) ∧ (inR x (0 : Int) (1000 : Int) && valOK x_1 && r.n.k != (2 : Int) && valOK x_2 && r.name.k
    != (1 : Int)) = rowOKb r) :
    PureFn Tryz.prog 194 [.agg r.ts] (.bool (rowOKb r)) :=
  vcR (code := b_rowOK) (gC isId_ok call_isId (gC ValueOKi_ok call_ValueOKi gN)) Tryz.func194 (by kernel_rfl) (by kernel_rfl) noAnn h (by kernel_rfl)
theorem rowOK_ok : ConOk Tryz.prog 194 k_rowOK := by
  rintro (r : Rw) ⟨h1, h2⟩
  exact v_rowOK r ⟨r.id, ⟨⟨rfl, trivial⟩, trivial⟩, r.n, fun _ => ⟨⟨⟨rfl, rfl, rfl, trivial⟩, trivial⟩, h1⟩, r.name, fun _ => ⟨⟨⟨rfl, rfl, rfl, trivial⟩, trivial⟩, h2⟩, rfl⟩
noncomputable def b_l07Row : Code := Tryz.f199.body.getD .skip
theorem call_l07Row : Callable Tryz.prog 199 := ⟨_, Tryz.func199, by kernel_rfl, by kernel_rfl⟩
theorem v_l07Row (r : Rw) (h :
    ∃ (x : r_ValueOK.ι), (inR r.id (0 : Int) (1000 : Int) = true → ((r.n.k = x.k ∧ r.n.n = x.n ∧ r.n.t = x.t ∧ True) ∧ True) ∧ StB x.t) ∧ ∃ (x_1 : r_ValueOK.ι), ((inR r.id (0 : Int) (1000 : Int) && valOK x) = true → ((r.name.k = x_1.k
    ∧ r.name.n = x_1.n ∧ r.name.t = x_1.t ∧ True) ∧ True) ∧ StB x_1.t) ∧ (inR r.id (0 : Int) (1000 : Int) && valOK x && valOK x_1 && r.n.k != (2 : Int) && r.name.k != (1 : Int)) = rowOKb r) :
    PureFn Tryz.prog 199 [.agg r.ts] (.bool (rowOKb r)) :=
  vcR (code := b_l07Row) (gC l01In_ok call_l01In (gC ValueOKs_ok call_ValueOKs gN)) Tryz.func199 (by kernel_rfl) (by kernel_rfl) noAnn h (by kernel_rfl)
theorem l07Row_ok : ConOk Tryz.prog 199 k_l07Row := by
  rintro (r : Rw) ⟨h1, h2⟩
  refine v_l07Row r ⟨r.n, fun _ => ⟨⟨⟨rfl, rfl, rfl, trivial⟩, trivial⟩, h1⟩, r.name, fun _ => ⟨⟨⟨rfl, rfl, rfl, trivial⟩, trivial⟩, h2⟩, ?_⟩
  unfold rowOKb
  generalize inR r.id 0 1000 = a
  generalize valOK r.n = b
  generalize (r.n.k != 2) = c
  generalize valOK r.name = d
  cases a <;> cases b <;> cases c <;> cases d <;> rfl
def ChB (L : List Chg) : Prop := Len L.length ∧ ∀ i, i < L.length → RwB (L.getD i default).row
def r_changesOK1 : Rl := ⟨List Chg × Nat, fun x => [.agg (x.1.getD x.2 default).ts], fun x => .bool (badChg x.1 x.2), fun x => RwB (x.1.getD x.2 default).row⟩
def k_changesOK1 : Con := .rel r_changesOK1
noncomputable def b_changesOK1 : Code := Tryz.f204.body.getD .skip
theorem call_changesOK1 : Callable Tryz.prog 204 := ⟨_, Tryz.func204, by kernel_rfl, by kernel_rfl⟩
theorem v_changesOK1 (L : List Chg) (i : Nat) (h :
    Small (3 : Int) ∧ ∃ (x : Int), ((!(decide ((0 : Int) ≤ (L.getD i default).se) && decide ((L.getD i default).se < (3 : Int)))) = false → ((L.getD i default).ta = x ∧ True) ∧ True) ∧ ∃ (x_1 : r_rowOK.ι), ((!(decide ((0 : Int) ≤
    (L.getD i default).se) && decide ((L.getD i default).se < (3 : Int))) || !inR x (1 : Int) (3 : Int)) = false → (((L.getD i default).row.id = x_1.id ∧ (L.getD i default).row.n.k = x_1.n.k ∧ (L.getD i default).row.n.n = x_1.n.n ∧
    (L.getD i default).row.n.t = x_1.n.t ∧ (L.getD i default).row.name.k = x_1.name.k ∧ (L.getD i default).row.name.n = x_1.name.n ∧ (L.getD i default).row.name.t = x_1.name.t ∧ True) ∧ True) ∧ RwB x_1) ∧ (!(decide ((0 : Int) ≤
    (L.getD i default).se) && decide ((L.getD i default).se < (3 : Int))) || !inR x (1 : Int) (3 : Int) || !rowOKb x_1) = badChg L i) :
    PureFn Tryz.prog 204 [.agg (L.getD i default).ts] (.bool (badChg L i)) :=
  vcR (code := b_changesOK1) (gC isPlace_ok call_isPlace (gC isTable_ok call_isTable (gC rowOK_ok call_rowOK gN))) Tryz.func204 (by kernel_rfl) (by kernel_rfl) noAnn h (by kernel_rfl)
theorem place02 (n : Int) : (decide (0 ≤ n) && decide (n < 3)) = inR n 0 2 := by
  unfold inR
  rw [show decide (n < 3) = decide (n ≤ 2) from decide_eq_decide.2 (by omega)]
theorem changesOK1_ok : ConOk Tryz.prog 204 k_changesOK1 := by
  rintro ⟨L, i⟩ h
  refine v_changesOK1 L i ⟨by unfold Small; omega, (L.getD i default).ta, fun _ => ⟨⟨rfl, trivial⟩, trivial⟩, (L.getD i default).row, fun _ => ⟨⟨⟨rfl, rfl, rfl, rfl, rfl, rfl, rfl, trivial⟩, trivial⟩, h⟩, ?_⟩
  rw [place02]
  rfl
def r_idxChg : Rl := ⟨List Chg, fun L => [chgS L, fnT 204], fun L => .int .i64 (fstI L.length (badChg L)), ChB⟩
def k_idxChg : Con := .rel r_idxChg
def A_idxChg (L : List Chg) : Nat → Ann
  | 0 => .one (Cnt L.length (badChg L)) (fun x => ⟨[(0, chgS L), (1, fnT 204), (7, .int .i64 L.length), (8, .int .i64 x.1)], []⟩) (fun x => L.length - x.1) [] [] (fun _ => noAnn)
  | _ => .none
noncomputable def b_idxChg : Code := Tryz.f273.body.getD .skip
theorem call_idxChg : Callable Tryz.prog 273 := ⟨_, Tryz.func273, by kernel_rfl, by kernel_rfl⟩
theorem v_idxChg (L : List Chg) (h :
    (∃ (x : Cnt L.length (badChg L)), ((EqL chgRow L L) ∧ Value.func (Fn.func 204) #[] #[] = Value.func (Fn.func 204) #[] #[] ∧ (L.length:Int) = (L.length:Int) ∧ (0 : Int) = (x.val:Int) ∧ True) ∧ True) ∧ ∀ (x : Cnt L.length (badChg
    L)), (decide ((x.val:Int) < (L.length:Int)) = true → InB (x.val:Int) L.length ∧ ∃ (x_1 : r_changesOK1.ι), ((((L.getD (x.val:Int).toNat default).se = (x_1.fst.getD x_1.snd default).se ∧ (L.getD (x.val:Int).toNat default).ta =
    (x_1.fst.getD x_1.snd default).ta ∧ (L.getD (x.val:Int).toNat default).row.id = (x_1.fst.getD x_1.snd default).row.id ∧ (L.getD (x.val:Int).toNat default).row.n.k = (x_1.fst.getD x_1.snd default).row.n.k ∧ (L.getD
    (x.val:Int).toNat default).row.n.n = (x_1.fst.getD x_1.snd default).row.n.n ∧ (L.getD (x.val:Int).toNat default).row.n.t = (x_1.fst.getD x_1.snd default).row.n.t ∧ (L.getD (x.val:Int).toNat default).row.name.k = (x_1.fst.getD
    x_1.snd default).row.name.k ∧ (L.getD (x.val:Int).toNat default).row.name.n = (x_1.fst.getD x_1.snd default).row.name.n ∧ (L.getD (x.val:Int).toNat default).row.name.t = (x_1.fst.getD x_1.snd default).row.name.t ∧ (L.getD
    (x.val:Int).toNat default).gone = (x_1.fst.getD x_1.snd default).gone ∧ True) ∧ True) ∧ RwB (x_1.fst.getD x_1.snd default).row) ∧ (badChg x_1.fst x_1.snd = true → (x.val:Int) = fstI L.length (badChg L)) ∧ (badChg x_1.fst x_1.snd =
    false → Rng .i64 ((x.val:Int) + (1 : Int)) ∧ ∃ (y : Cnt L.length (badChg L)), (((EqL chgRow L L) ∧ Value.func (Fn.func 204) #[] #[] = Value.func (Fn.func 204) #[] #[] ∧ (L.length:Int) = (L.length:Int) ∧ (x.val:Int) + (1 : Int) =
    (y.val:Int) ∧ True) ∧ True) ∧ Lt (L.length - y.val) (L.length - x.val))) ∧ (decide ((x.val:Int) < (L.length:Int)) = false → (-1 : Int) = fstI L.length (badChg L))) :
    PureFn Tryz.prog 273 [chgS L, fnT 204] (.int .i64 (fstI L.length (badChg L))) :=
  vcR (code := b_idxChg) (gC changesOK1_ok call_changesOK1 gN) Tryz.func273 (by kernel_rfl) (by kernel_rfl) (A_idxChg L) h (by kernel_rfl)
theorem idxChg_ok : ConOk Tryz.prog 273 k_idxChg := by
  rintro (L : List Chg) ⟨hL, hb⟩
  have hL : L.length < 1000000000000 := hL
  refine v_idxChg L ⟨⟨cnt0, ⟨⟨rfl, rowsR _ _⟩, rfl, rfl, rfl, trivial⟩, trivial⟩, fun x => ⟨fun hc => ?_, fun hc => ?_⟩⟩
  · have hlt := lt_of_dec hc
    refine ⟨inB_nat hlt, (L, x.val), ⟨⟨⟨rfl, rfl, rfl, rfl, rfl, rfl, rfl, rfl, rfl, rfl, trivial⟩, trivial⟩, hb _ hlt⟩, fun hp => (fstI_at hlt hp x.2.2).symm, fun hp => ⟨add_rng hlt (by omega), x.succ hlt hp, ⟨⟨⟨rfl, rowsR _ _⟩, rfl, rfl, by simp only [Cnt.succ]; omega, trivial⟩, trivial⟩, Cnt.ext_lt hlt⟩⟩
  · have hge := le_of_not hc
    exact (fstI_no fun j hj => x.2.2 j (Nat.lt_of_lt_of_le hj hge)).symm
def r_anyChg : Rl := ⟨List Chg, fun L => [chgS L, fnT 204], fun L => .bool (anyI L.length (badChg L)), ChB⟩
def k_anyChg : Con := .rel r_anyChg
noncomputable def b_anyChg : Code := Tryz.f203.body.getD .skip
theorem call_anyChg : Callable Tryz.prog 203 := ⟨_, Tryz.func203, by kernel_rfl, by kernel_rfl⟩
theorem v_anyChg (L : List Chg) (h :
    ∃ (x : r_idxChg.ι), (((L.length = List.length x ∧ RowsEq L.length (chgRow L) (chgRow x)) ∧ Value.func (Fn.func 204) #[] #[] = Value.func (Fn.func 204) #[] #[] ∧ True) ∧ ChB x) ∧ decide (fstI (List.length x) (badChg x) ≥ (0 : Int))
    = anyI L.length (badChg L)) :
    PureFn Tryz.prog 203 [chgS L, fnT 204] (.bool (anyI L.length (badChg L))) :=
  vcR (code := b_anyChg) (gC idxChg_ok call_idxChg gN) Tryz.func203 (by kernel_rfl) (by kernel_rfl) noAnn h (by kernel_rfl)
theorem anyChg_ok : ConOk Tryz.prog 203 k_anyChg := fun (L : List Chg) hL => v_anyChg L ⟨L, ⟨⟨⟨rfl, rowsR _ _⟩, rfl, trivial⟩, hL⟩, anyI_fst _ _⟩
def r_changesOK : Rl := ⟨List Chg, fun L => [chgS L], fun L => .bool (chgsOK L), ChB⟩
def k_changesOK : Con := .rel r_changesOK
def k_l14Changes : Con := .rel r_changesOK
noncomputable def b_changesOK : Code := Tryz.f124.body.getD .skip
theorem call_changesOK : Callable Tryz.prog 124 := ⟨_, Tryz.func124, by kernel_rfl, by kernel_rfl⟩
theorem v_changesOK (L : List Chg) (h :
    ∃ (x : r_anyChg.ι), (decide ((L.length:Int) ≤ (1000 : Int)) = true → ((L.length = List.length x ∧ RowsEq L.length (chgRow L) (chgRow x)) ∧ Value.func (Fn.func 204) #[] #[] = Value.func (Fn.func 204) #[] #[] ∧ True) ∧ ChB x) ∧
    (decide ((L.length:Int) ≤ (1000 : Int)) && !anyI (List.length x) (badChg x)) = chgsOK L) :
    PureFn Tryz.prog 124 [chgS L] (.bool (chgsOK L)) :=
  vcR (code := b_changesOK) (gC anyChg_ok call_anyChg gN) Tryz.func124 (by kernel_rfl) (by kernel_rfl) noAnn h (by kernel_rfl)
theorem changesOK_ok : ConOk Tryz.prog 124 k_changesOK := by
  intro (L : List Chg) hL
  refine v_changesOK L ⟨L, fun _ => ⟨⟨⟨rfl, rowsR _ _⟩, rfl, trivial⟩, hL⟩, ?_⟩
  unfold chgsOK
  congr 1
  exact decide_eq_decide.2 (by omega)
def A_l14Changes (L : List Chg) : Nat → Ann
  | 0 => .one (Cnt L.length (badChg L)) (fun x => ⟨[(0, chgS L), (3, .int .i64 x.1)], []⟩) (fun x => L.length - x.1) [] [] (fun _ => noAnn)
  | _ => .none
noncomputable def b_l14Changes : Code := Tryz.f119.body.getD .skip
theorem call_l14Changes : Callable Tryz.prog 119 := ⟨_, Tryz.func119, by kernel_rfl, by kernel_rfl⟩
theorem v_l14Changes (L : List Chg) (h :
    (decide ((L.length:Int) > (1000 : Int)) = true → false = chgsOK L) ∧ (decide ((L.length:Int) > (1000 : Int)) = false → (∃ (x : Cnt L.length (badChg L)), ((EqL chgRow L L) ∧ (0 : Int) = (x.val:Int) ∧ True) ∧ True) ∧ ∀ (x : Cnt
    L.length (badChg L)), (decide ((x.val:Int) < (L.length:Int)) = true → InB (x.val:Int) L.length ∧ ∃ (x_1 : r_rowOK.ι), ((!inR (L.getD (x.val:Int).toNat default).se (0 : Int) (2 : Int) || !inR (L.getD (x.val:Int).toNat default).ta
    (1 : Int) (3 : Int)) = false → (((L.getD (x.val:Int).toNat default).row.id = x_1.id ∧ (L.getD (x.val:Int).toNat default).row.n.k = x_1.n.k ∧ (L.getD (x.val:Int).toNat default).row.n.n = x_1.n.n ∧ (L.getD (x.val:Int).toNat
    default).row.n.t = x_1.n.t ∧ (L.getD (x.val:Int).toNat default).row.name.k = x_1.name.k ∧ (L.getD (x.val:Int).toNat default).row.name.n = x_1.name.n ∧ (L.getD (x.val:Int).toNat default).row.name.t = x_1.name.t ∧ True) ∧ True) ∧
    RwB x_1) ∧ ((!inR (L.getD (x.val:Int).toNat default).se (0 : Int) (2 : Int) || !inR (L.getD (x.val:Int).toNat default).ta (1 : Int) (3 : Int) || !rowOKb x_1) = true → false = chgsOK L) ∧ ((!inR (L.getD (x.val:Int).toNat
    default).se (0 : Int) (2 : Int) || !inR (L.getD (x.val:Int).toNat default).ta (1 : Int) (3 : Int) || !rowOKb x_1) = false → Rng .i64 ((x.val:Int) + (1 : Int)) ∧ ∃ (y : Cnt L.length (badChg L)), (((EqL chgRow L L) ∧ (x.val:Int) +
    (1 : Int) = (y.val:Int) ∧ True) ∧ True) ∧ Lt (L.length - y.val) (L.length - x.val))) ∧ (decide ((x.val:Int) < (L.length:Int)) = false → true = chgsOK L))) :
    PureFn Tryz.prog 119 [chgS L] (.bool (chgsOK L)) :=
  vcR (code := b_l14Changes) (gC l01In_ok call_l01In (gC l07Row_ok call_l07Row gN)) Tryz.func119 (by kernel_rfl) (by kernel_rfl) (A_l14Changes L) h (by kernel_rfl)
theorem l14Changes_ok : ConOk Tryz.prog 119 k_l14Changes := by
  rintro (L : List Chg) ⟨hL, hb⟩
  have hL : L.length < 1000000000000 := hL
  refine v_l14Changes L ⟨fun h => ?_, fun h => ⟨⟨cnt0, ⟨⟨rfl, rowsR _ _⟩, rfl, trivial⟩, trivial⟩, fun x => ⟨fun hc => ?_, fun hc => ?_⟩⟩⟩
  · have h : (L.length : Int) > 1000 := of_decide_eq_true h
    unfold chgsOK
    rw [decide_eq_false (by omega)]
    rfl
  · have hlt := lt_of_dec hc
    refine ⟨inB_nat hlt, (L.getD x.val default).row, fun _ => ⟨⟨⟨rfl, rfl, rfl, rfl, rfl, rfl, rfl, trivial⟩, trivial⟩, hb _ hlt⟩, fun hp => ?_, fun hp => ⟨add_rng hlt (by omega), x.succ hlt hp, ⟨⟨⟨rfl, rowsR _ _⟩, by simp only [Cnt.succ]; omega, trivial⟩, trivial⟩, Cnt.ext_lt hlt⟩⟩
    have : anyI L.length (badChg L) = true := anyI_iff.2 ⟨x.val, hlt, hp⟩
    unfold chgsOK
    rw [this]
    simp
  · have hge := le_of_not hc
    have h : ¬ (L.length : Int) > 1000 := of_decide_eq_false h
    have : anyI L.length (badChg L) = false := anyI_no.2 fun i hi => x.2.2 i (Nat.lt_of_lt_of_le hi hge)
    unfold chgsOK
    rw [this, decide_eq_true (by omega)]
    rfl
end Go.Proofs.YtjbomnjmcbhadaaGreat

