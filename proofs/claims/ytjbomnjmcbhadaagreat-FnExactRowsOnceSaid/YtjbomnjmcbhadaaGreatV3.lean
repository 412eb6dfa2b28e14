/- A part of the proof. -/
import Derived.Test.YtjbomnjmcbhadaaGreatV1V2
namespace Go.Proofs.YtjbomnjmcbhadaaGreat
set_option maxRecDepth 100000
open Go.SS

-- rows in keys
def row0 : Rw := ⟨0, ⟨0, 0, []⟩, ⟨0, 0, []⟩⟩
def rowL (L : List Val) : Int × Rw := ((L.getD 0 default).n, ⟨(L.getD 1 default).n, L.getD 2 default, L.getD 3 default⟩)
def preL (x : List Val × Bool) : Bool := !x.2 || ((x.1.length : Int) != 4) || ((x.1.getD 0 default).k != 1) || ((x.1.getD 1 default).k != 1)
def rdS (t : List UInt8) : Int × Rw × Bool := if (preL (keyS t) || !inR (rowL (keyS t).1).1 1 3) = true then (0, row0, false) else ((rowL (keyS t).1).1, (rowL (keyS t).1).2, rowOKb (rowL (keyS t).1).2)
def rdI (t : List UInt8) : Int × Rw × Int := if (t.length : Int) > 65536 then (0, row0, 2) else if (preL (keyI t) || (!inR (rowL (keyI t).1).1 1 3 || !rowOKb (rowL (keyI t).1).2)) = true then (0, row0, 3) else ((rowL (keyI t).1).1, (rowL (keyI t).1).2, 0)
def r_ReadRow : Rl := ⟨List UInt8, fun b => [.bys b], fun b => .tup [.int .i64 (rdI b).1, .agg (rdI b).2.1.ts, .int .i64 (rdI b).2.2], Len9⟩
def k_ReadRow : Con := .rel r_ReadRow
noncomputable def b_ReadRow : Code := Tryz.f114.body.getD .skip
theorem call_ReadRow : Callable Tryz.prog 114 := ⟨_, Tryz.func114, by kernel_rfl, by kernel_rfl⟩
theorem v_ReadRow (b : List UInt8) (h :
    (decide ((b.length:Int) > (65536 : Int)) = true → (0 : Int) = (rdI b).fst ∧ ((0 : Int) = (rdI b).snd.fst.id ∧ (0 : Int) = (rdI b).snd.fst.n.k ∧ (0 : Int) = (rdI b).snd.fst.n.n ∧ [] = (rdI b).snd.fst.n.t ∧ (0 : Int) = (rdI
    b).snd.fst.name.k ∧ (0 : Int) = (rdI b).snd.fst.name.n ∧ [] = (rdI b).snd.fst.name.t ∧ True) ∧ (2 : Int) = (rdI b).snd.snd ∧ True) ∧ (decide ((b.length:Int) > (65536 : Int)) = false → ∃ (x : r_readKey.ι), ((b = x ∧ True) ∧ Len9 x)
    ∧ ((!(keyI x).snd || (↑(keyI x).fst.length : Int) != (4 : Int)) = false → InB (0 : Int) (keyI x).fst.length) ∧ ((!(keyI x).snd || (↑(keyI x).fst.length : Int) != (4 : Int) || ((keyI x).fst.getD 0 default).k != (1 : Int)) = false →
    InB (1 : Int) (keyI x).fst.length) ∧ ((!(keyI x).snd || (↑(keyI x).fst.length : Int) != (4 : Int) || ((keyI x).fst.getD 0 default).k != (1 : Int) || ((keyI x).fst.getD 1 default).k != (1 : Int)) = true → (0 : Int) = (rdI b).fst ∧
    ((0 : Int) = (rdI b).snd.fst.id ∧ (0 : Int) = (rdI b).snd.fst.n.k ∧ (0 : Int) = (rdI b).snd.fst.n.n ∧ [] = (rdI b).snd.fst.n.t ∧ (0 : Int) = (rdI b).snd.fst.name.k ∧ (0 : Int) = (rdI b).snd.fst.name.n ∧ [] = (rdI b).snd.fst.name.t
    ∧ True) ∧ (3 : Int) = (rdI b).snd.snd ∧ True) ∧ ((!(keyI x).snd || (↑(keyI x).fst.length : Int) != (4 : Int) || ((keyI x).fst.getD 0 default).k != (1 : Int) || ((keyI x).fst.getD 1 default).k != (1 : Int)) = false → InB (0 : Int)
    (keyI x).fst.length ∧ InB (1 : Int) (keyI x).fst.length ∧ InB (2 : Int) (keyI x).fst.length ∧ InB (3 : Int) (keyI x).fst.length ∧ ∃ (x_1 : Int), ((((keyI x).fst.getD 0 default).n = x_1 ∧ True) ∧ True) ∧ ∃ (x_2 : r_rowOK.ι), ((!inR
    x_1 (1 : Int) (3 : Int)) = false → ((((keyI x).fst.getD 1 default).n = x_2.id ∧ ((keyI x).fst.getD 2 default).k = x_2.n.k ∧ ((keyI x).fst.getD 2 default).n = x_2.n.n ∧ ((keyI x).fst.getD 2 default).t = x_2.n.t ∧ ((keyI x).fst.getD
    3 default).k = x_2.name.k ∧ ((keyI x).fst.getD 3 default).n = x_2.name.n ∧ ((keyI x).fst.getD 3 default).t = x_2.name.t ∧ True) ∧ True) ∧ RwB x_2) ∧ ((!inR x_1 (1 : Int) (3 : Int) || !rowOKb x_2) = true → (0 : Int) = (rdI b).fst ∧
    ((0 : Int) = (rdI b).snd.fst.id ∧ (0 : Int) = (rdI b).snd.fst.n.k ∧ (0 : Int) = (rdI b).snd.fst.n.n ∧ [] = (rdI b).snd.fst.n.t ∧ (0 : Int) = (rdI b).snd.fst.name.k ∧ (0 : Int) = (rdI b).snd.fst.name.n ∧ [] = (rdI b).snd.fst.name.t
    ∧ True) ∧ (3 : Int) = (rdI b).snd.snd ∧ True) ∧ ((!inR x_1 (1 : Int) (3 : Int) || !rowOKb x_2) = false → ((keyI x).fst.getD 0 default).n = (rdI b).fst ∧ (((keyI x).fst.getD 1 default).n = (rdI b).snd.fst.id ∧ ((keyI x).fst.getD 2
    default).k = (rdI b).snd.fst.n.k ∧ ((keyI x).fst.getD 2 default).n = (rdI b).snd.fst.n.n ∧ ((keyI x).fst.getD 2 default).t = (rdI b).snd.fst.n.t ∧ ((keyI x).fst.getD 3 default).k = (rdI b).snd.fst.name.k ∧ ((keyI x).fst.getD 3
    default).n = (rdI b).snd.fst.name.n ∧ ((keyI x).fst.getD 3 default).t = (rdI b).snd.fst.name.t ∧ True) ∧ (0 : Int) = (rdI b).snd.snd ∧ True)))) :
    PureFn Tryz.prog 114 [.bys b] (.tup [.int .i64 (rdI b).1, .agg (rdI b).2.1.ts, .int .i64 (rdI b).2.2]) :=
  vcR (code := b_ReadRow) (gC readKey_ok call_readKey (gC isTable_ok call_isTable (gC rowOK_ok call_rowOK gN))) Tryz.func114 (by kernel_rfl) (by kernel_rfl) noAnn h (by kernel_rfl)
theorem valI_small {l : List UInt8} {B : Nat} (h : l.length ≤ B) : (valI l).1.t.length ≤ B := by
  unfold valI
  split
  · exact Nat.zero_le _
  · split
    · split
      · exact Nat.zero_le _
      · show ((l.drop 1).take _).length ≤ B
        rw [List.length_take, List.length_drop]
        omega
    · exact Nat.zero_le _
theorem keyRun_small {B : Nat} : ∀ (n : Nat) (l : List UInt8) (f : Bool) (acc : List Val), l.length ≤ B → (∀ v ∈ acc, v.t.length ≤ B) → ∀ v ∈ (keyRun n l f acc).1, v.t.length ≤ B := by
  intro n
  induction n with
  | zero => intro l f acc _ h; exact h
  | succ n ih =>
    intro l f acc hl h
    unfold keyRun
    split
    · exact h
    · rename_i hc
      have h0 : l ≠ [] := fun h => hc (.inl h)
      have := valI_len h0
      refine ih _ _ _ (by omega) fun v hv => ?_
      rcases List.mem_append.1 hv with hv | hv
      · exact h v hv
      · rw [List.mem_singleton.1 hv]
        exact valI_small hl
theorem key_small {l : List UInt8} (h : Len9 l) {i : Nat} : StB ((keyI l).1.getD i default).t := by
  have h : l.length ≤ 1000000000 := h
  show _ < 1000000000000
  rw [List.getD_eq_getElem?_getD]
  cases hq : (keyI l).1[i]? with
  | none => show 0 < 1000000000000; omega
  | some v =>
    have := keyRun_small l.length l false [] h (fun v hv => absurd hv (by simp)) v (List.mem_of_getElem? hq)
    show v.t.length < _
    omega
theorem pre4 {x : List Val × Bool} {b : Bool} (h : (!x.2 || ((x.1.length : Int) != 4) || b) = false) : x.1.length = 4 := by
  simp only [Bool.or_eq_false_iff, bne_eq_false_iff_eq] at h
  omega
theorem pre4' {x : List Val × Bool} (h : (!x.2 || ((x.1.length : Int) != 4)) = false) : x.1.length = 4 := pre4 (b := false) (by rw [h]; rfl)
theorem inB4 {n : Nat} (h : n = 4) {i : Int} (h0 : 0 ≤ i) (h3 : i ≤ 3) : InB i n := ⟨h0, by omega⟩
theorem ReadRow_ok : ConOk Tryz.prog 114 k_ReadRow := by
  intro (b : List UInt8) hb
  refine v_ReadRow b ⟨fun h => ?_, fun h => ⟨b, ⟨⟨rfl, trivial⟩, hb⟩, fun h => inB4 (pre4' h) (by omega) (by omega), fun h => inB4 (pre4 h) (by omega) (by omega), fun hq => ?_, fun hq => ?_⟩⟩
  · have e : rdI b = (0, row0, 2) := by unfold rdI; rw [if_pos (of_decide_eq_true h)]
    rw [e]
    exact ⟨rfl, ⟨rfl, rfl, rfl, rfl, rfl, rfl, rfl, trivial⟩, rfl, trivial⟩
  · have e : rdI b = (0, row0, 3) := by
      have hq : preL (keyI b) = true := hq
      unfold rdI
      rw [if_neg (of_decide_eq_false h), hq, Bool.true_or, if_pos rfl]
    rw [e]
    exact ⟨rfl, ⟨rfl, rfl, rfl, rfl, rfl, rfl, rfl, trivial⟩, rfl, trivial⟩
  · have l4 : (keyI b).1.length = 4 := by
      rw [Bool.or_eq_false_iff] at hq
      exact pre4 hq.1
    have hq : preL (keyI b) = false := hq
    refine ⟨inB4 l4 (by omega) (by omega), inB4 l4 (by omega) (by omega), inB4 l4 (by omega) (by omega), inB4 l4 (by omega) (by omega), _, ⟨⟨rfl, trivial⟩, trivial⟩, (rowL (keyI b).1).2, fun _ => ⟨⟨⟨rfl, rfl, rfl, rfl, rfl, rfl, rfl, trivial⟩, trivial⟩, key_small hb, key_small hb⟩, fun hg => ?_, fun hg => ?_⟩
    · have e : rdI b = (0, row0, 3) := by
        have hg : (!inR (rowL (keyI b).1).1 1 3 || !rowOKb (rowL (keyI b).1).2) = true := hg
        unfold rdI
        rw [if_neg (of_decide_eq_false h), hq, hg, Bool.or_true, if_pos rfl]
      rw [e]
      exact ⟨rfl, ⟨rfl, rfl, rfl, rfl, rfl, rfl, rfl, trivial⟩, rfl, trivial⟩
    · have e : rdI b = ((rowL (keyI b).1).1, (rowL (keyI b).1).2, 0) := by
        have hg : (!inR (rowL (keyI b).1).1 1 3 || !rowOKb (rowL (keyI b).1).2) = false := hg
        unfold rdI
        rw [if_neg (of_decide_eq_false h), hq, hg, if_neg (by simp)]
      rw [e]
      exact ⟨rfl, ⟨rfl, rfl, rfl, rfl, rfl, rfl, rfl, trivial⟩, rfl, trivial⟩
def k_l07Read : Con := .rel ⟨List UInt8, fun t => [.str t], fun t => .tup [.int .i64 (rdS t).1, .agg (rdS t).2.1.ts, .bool (rdS t).2.2], Len9⟩
noncomputable def b_l07Read : Code := Tryz.f187.body.getD .skip
theorem call_l07Read : Callable Tryz.prog 187 := ⟨_, Tryz.func187, by kernel_rfl, by kernel_rfl⟩
theorem v_l07Read (t : List UInt8) (h :
    ∃ (x : (List UInt8)), ((t = x ∧ True) ∧ Len9 x) ∧ ((!(keyS x).snd || (↑(keyS x).fst.length : Int) != (4 : Int)) = false → InB (0 : Int) (keyS x).fst.length) ∧ ((!(keyS x).snd || (↑(keyS x).fst.length : Int) != (4 : Int) || ((keyS
    x).fst.getD 0 default).k != (1 : Int)) = false → InB (1 : Int) (keyS x).fst.length) ∧ ((!(keyS x).snd || (↑(keyS x).fst.length : Int) != (4 : Int) || ((keyS x).fst.getD 0 default).k != (1 : Int) || ((keyS x).fst.getD 1 default).k
    != (1 : Int)) = false → InB (0 : Int) (keyS x).fst.length) ∧ ((!(keyS x).snd || (↑(keyS x).fst.length : Int) != (4 : Int) || ((keyS x).fst.getD 0 default).k != (1 : Int) || ((keyS x).fst.getD 1 default).k != (1 : Int) || !inR
    ((keyS x).fst.getD 0 default).n (1 : Int) (3 : Int)) = true → (0 : Int) = (rdS t).fst ∧ ((0 : Int) = (rdS t).snd.fst.id ∧ (0 : Int) = (rdS t).snd.fst.n.k ∧ (0 : Int) = (rdS t).snd.fst.n.n ∧ [] = (rdS t).snd.fst.n.t ∧ (0 : Int) =
    (rdS t).snd.fst.name.k ∧ (0 : Int) = (rdS t).snd.fst.name.n ∧ [] = (rdS t).snd.fst.name.t ∧ True) ∧ false = (rdS t).snd.snd ∧ True) ∧ ((!(keyS x).snd || (↑(keyS x).fst.length : Int) != (4 : Int) || ((keyS x).fst.getD 0 default).k
    != (1 : Int) || ((keyS x).fst.getD 1 default).k != (1 : Int) || !inR ((keyS x).fst.getD 0 default).n (1 : Int) (3 : Int)) = false → InB (1 : Int) (keyS x).fst.length ∧ InB (2 : Int) (keyS x).fst.length ∧ InB (3 : Int) (keyS
    x).fst.length ∧ InB (0 : Int) (keyS x).fst.length ∧ ∃ (x_1 : r_rowOK.ι), (((((keyS x).fst.getD 1 default).n = x_1.id ∧ ((keyS x).fst.getD 2 default).k = x_1.n.k ∧ ((keyS x).fst.getD 2 default).n = x_1.n.n ∧ ((keyS x).fst.getD 2
    default).t = x_1.n.t ∧ ((keyS x).fst.getD 3 default).k = x_1.name.k ∧ ((keyS x).fst.getD 3 default).n = x_1.name.n ∧ ((keyS x).fst.getD 3 default).t = x_1.name.t ∧ True) ∧ True) ∧ RwB x_1) ∧ ((keyS x).fst.getD 0 default).n = (rdS
    t).fst ∧ (((keyS x).fst.getD 1 default).n = (rdS t).snd.fst.id ∧ ((keyS x).fst.getD 2 default).k = (rdS t).snd.fst.n.k ∧ ((keyS x).fst.getD 2 default).n = (rdS t).snd.fst.n.n ∧ ((keyS x).fst.getD 2 default).t = (rdS t).snd.fst.n.t
    ∧ ((keyS x).fst.getD 3 default).k = (rdS t).snd.fst.name.k ∧ ((keyS x).fst.getD 3 default).n = (rdS t).snd.fst.name.n ∧ ((keyS x).fst.getD 3 default).t = (rdS t).snd.fst.name.t ∧ True) ∧ rowOKb x_1 = (rdS t).snd.snd ∧ True)) :
    PureFn Tryz.prog 187 [.str t] (.tup [.int .i64 (rdS t).1, .agg (rdS t).2.1.ts, .bool (rdS t).2.2]) :=
  vcR (code := b_l07Read) (gC l01ReadKey_ok call_l01ReadKey (gC l01In_ok call_l01In (gC l07Row_ok call_l07Row gN))) Tryz.func187 (by kernel_rfl) (by kernel_rfl) noAnn h (by kernel_rfl)
theorem keyS_small {l : List UInt8} (h : Len9 l) {i : Nat} : StB ((keyS l).1.getD i default).t := by
  unfold keyS
  split
  · exact key_small h
  · show 0 < 1000000000000; omega
theorem l07Read_ok : ConOk Tryz.prog 187 k_l07Read := by
  intro (t : List UInt8) hb
  refine v_l07Read t ⟨t, ⟨⟨rfl, trivial⟩, hb⟩, fun h => inB4 (pre4' h) (by omega) (by omega), fun h => inB4 (pre4 h) (by omega) (by omega), fun h => inB4 (by rw [Bool.or_eq_false_iff] at h; exact pre4 h.1) (by omega) (by omega), fun hq => ?_, fun hq => ?_⟩
  · have e : rdS t = (0, row0, false) := by
      have hq : (preL (keyS t) || !inR (rowL (keyS t).1).1 1 3) = true := hq
      unfold rdS
      rw [if_pos hq]
    rw [e]
    exact ⟨rfl, ⟨rfl, rfl, rfl, rfl, rfl, rfl, rfl, trivial⟩, rfl, trivial⟩
  · have l4 : (keyS t).1.length = 4 := by
      rw [Bool.or_eq_false_iff, Bool.or_eq_false_iff] at hq
      exact pre4 hq.1.1
    have e : rdS t = ((rowL (keyS t).1).1, (rowL (keyS t).1).2, rowOKb (rowL (keyS t).1).2) := by
      have hq : (preL (keyS t) || !inR (rowL (keyS t).1).1 1 3) = false := hq
      unfold rdS
      rw [if_neg (by rw [hq]; simp)]
    rw [e]
    exact ⟨inB4 l4 (by omega) (by omega), inB4 l4 (by omega) (by omega), inB4 l4 (by omega) (by omega), inB4 l4 (by omega) (by omega), (rowL (keyS t).1).2, ⟨⟨⟨rfl, rfl, rfl, rfl, rfl, rfl, rfl, trivial⟩, trivial⟩, keyS_small hb, keyS_small hb⟩, rfl, ⟨rfl, rfl, rfl, rfl, rfl, rfl, rfl, trivial⟩, rfl, trivial⟩
/-- A row and its table in a key. -/
def rowAt (t : List UInt8) : Option (Int × Rw) := if (preL (keyI t) || (!inR (rowL (keyI t).1).1 1 3 || !rowOKb (rowL (keyI t).1).2)) = true then none else some (rowL (keyI t).1)
theorem rdI_eq {t : List UInt8} (h : t.length ≤ 65536) : rdI t = match rowAt t with | some x => (x.1, x.2, 0) | none => (0, row0, 3) := by
  unfold rdI rowAt
  rw [if_neg (by omega)]
  split <;> rfl
theorem rdS_eq (t : List UInt8) : (rdS t).2.2 = (rowAt t).isSome ∧ ∀ x, rowAt t = some x → rdS t = (x.1, x.2, true) := by
  have hpre : preL (keyS t) = preL (keyI t) := by
    unfold keyS
    split
    · rfl
    · rename_i h
      unfold preL
      rw [show (keyI t).2 = false by simpa using h]
      rfl
  unfold rdS rowAt
  rw [hpre]
  cases hp : preL (keyI t)
  · have hk : keyS t = keyI t := by
      unfold keyS
      rw [if_pos]
      unfold preL at hp
      simp only [Bool.or_eq_false_iff, Bool.not_eq_false'] at hp
      exact hp.1.1.1
    rw [hk]
    cases hi : inR (rowL (keyI t).1).1 1 3
    · exact ⟨rfl, fun x hx => by cases hx⟩
    · cases hr : rowOKb (rowL (keyI t).1).2
      · exact ⟨rfl, fun x hx => by cases hx⟩
      · refine ⟨rfl, fun x hx => ?_⟩
        cases hx
        rfl
  · exact ⟨rfl, fun x hx => by cases hx⟩
end Go.Proofs.YtjbomnjmcbhadaaGreat

