/- A part of the proof. -/
import Derived.Test.YtjbomnjmcbhadaaGreatW3
namespace Go.Proofs.YtjbomnjmcbhadaaGreat
set_option maxRecDepth 100000
open Go.SS

-- keys: values one behind the other
def valRow (L : List Val) (i : Nat) : List T := (L.getD i default).ts
def valS (L : List Val) : T := .sl 3 L.length (valRow L)
def isZ (l : List UInt8) (i : Nat) : Bool := (0 : Int) == ((l.getD i 0).toNat : Int)
def idx0 (l : List UInt8) : Int := fstI l.length (isZ l)
def k_idxByte : Con := .rel ⟨List UInt8, fun l => [.bys l, .int .u8 0], fun l => .int .i64 (idx0 l), fun l => Len l.length⟩
def A_idxByte (l : List UInt8) : Nat → Ann
  | 0 => .one (Cnt l.length (isZ l)) (fun x => ⟨[(0, .bys l), (1, .int .u8 0), (7, .int .i64 l.length), (8, .int .i64 x.1)], []⟩) (fun x => l.length - x.1) [] [] (fun _ => noAnn)
  | _ => .none
noncomputable def b_idxByte : Code := Tryz.f298.body.getD .skip
theorem call_idxByte : Callable Tryz.prog 298 := ⟨_, Tryz.func298, by kernel_rfl, by kernel_rfl⟩
theorem v_idxByte (l : List UInt8) (h :
    (∃ (x : Cnt l.length (isZ l)), (l = l ∧ (0 : Int) = (0 : Int) ∧ (l.length:Int) = (l.length:Int) ∧ (0 : Int) = (x.val:Int) ∧ True) ∧ True) ∧ ∀ (x : Cnt l.length (isZ l)), (decide ((x.val:Int) < (l.length:Int)) = true → InB
    (x.val:Int) l.length ∧ (((0 : Int) == (↑(l.getD (x.val:Int).toNat (0 : UInt8)).toNat : Int)) = true → (x.val:Int) = idx0 l) ∧ (((0 : Int) == (↑(l.getD (x.val:Int).toNat (0 : UInt8)).toNat : Int)) = false → Rng .i64 ((x.val:Int) +
    (1 : Int)) ∧ ∃ (y : Cnt l.length (isZ l)), ((l = l ∧ (0 : Int) = (0 : Int) ∧ (l.length:Int) = (l.length:Int) ∧ (x.val:Int) + (1 : Int) = (y.val:Int) ∧ True) ∧ True) ∧ Lt (l.length - y.val) (l.length - x.val))) ∧ (decide
    ((x.val:Int) < (l.length:Int)) = false → (-1 : Int) = idx0 l)) :
    PureFn Tryz.prog 298 [.bys l, .int .u8 0] (.int .i64 (idx0 l)) :=
  vcR (code := b_idxByte) gN Tryz.func298 (by kernel_rfl) (by kernel_rfl) (A_idxByte l) h (by kernel_rfl)
theorem beq_neq {a b : Int} (h : (a == b) = false) : a ≠ b := fun e => by rw [e] at h; simp at h
theorem idxByte_ok : ConOk Tryz.prog 298 k_idxByte := by
  intro (l : List UInt8) (hL : l.length < 1000000000000)
  refine v_idxByte l ⟨⟨cnt0, ⟨rfl, rfl, rfl, rfl, trivial⟩, trivial⟩, fun x => ⟨fun hc => ?_, fun hc => ?_⟩⟩
  · have hlt := lt_of_dec hc
    exact ⟨inB_nat hlt, fun hp => (fstI_at hlt hp x.2.2).symm, fun hp => ⟨add_rng hlt (by omega), x.succ hlt hp, ⟨⟨rfl, rfl, rfl, by simp only [Cnt.succ]; omega, trivial⟩, trivial⟩, Cnt.ext_lt hlt⟩⟩
  · have hge := le_of_not hc
    exact (fstI_no fun j hj => x.2.2 j (Nat.lt_of_lt_of_le hj hge)).symm
/-- A value that is taken: it, what remains, whether it lacked or was not right. -/
def valI (l : List UInt8) : Val × List UInt8 × Bool :=
  if numR l - 1 = 1 then (⟨1, be (takeR (l.drop 1) 4) - 1000000000, []⟩, restR (l.drop 1) 4, big (l.drop 1) 4 || !valOK ⟨1, be (takeR (l.drop 1) 4) - 1000000000, []⟩)
  else if numR l - 1 = 2 then
    if idx0 (l.drop 1) < 0 then (⟨2, 0, []⟩, l.drop 1, true)
    else (⟨2, 0, (l.drop 1).take (idx0 (l.drop 1)).toNat⟩, (l.drop 1).drop ((idx0 (l.drop 1)).toNat + 1), !valOK ⟨2, 0, (l.drop 1).take (idx0 (l.drop 1)).toNat⟩)
  else (⟨numR l - 1, 0, []⟩, l.drop 1, !valOK ⟨numR l - 1, 0, []⟩)
def Len9 (l : List UInt8) : Prop := l.length ≤ 1000000000
def r_value : Rle := ⟨List UInt8, fun _ => [.ref 0 0 0], fun l => [rdr l false], fun l => .agg (valI l).1.ts, fun l => [rdr (valI l).2.1 (valI l).2.2], fun l => l ≠ [] ∧ Len9 l⟩
def k_value : Con := .reff r_value
noncomputable def b_value : Code := Tryz.f262.body.getD .skip
theorem call_value : Callable Tryz.prog 262 := ⟨_, Tryz.func262, by kernel_rfl, by kernel_rfl⟩
theorem v_value (l : List UInt8) (h :
    Rng .i64 (numR l - (1 : Int)) ∧ ((numR l - (1 : Int) == (1 : Int)) = true → Small47 (4 : Int) ∧ ∃ (x : r_big.ι), ((takeR (List.drop 1 l) (4 : Int) = x ∧ True) ∧ Len4 x) ∧ Rng .i64 ((↑(be x) : Int) - (1000000000 : Int)) ∧ ∃ (x_1 :
    r_ValueOK.ι), ((false || l.isEmpty || big (List.drop 1 l) (4 : Int)) = false → ((numR l - (1 : Int) = x_1.k ∧ (↑(be x) : Int) - (1000000000 : Int) = x_1.n ∧ [] = x_1.t ∧ True) ∧ True) ∧ StB x_1.t) ∧ (numR l - (1 : Int) = (valI
    l).fst.k ∧ (↑(be x) : Int) - (1000000000 : Int) = (valI l).fst.n ∧ [] = (valI l).fst.t ∧ True) ∧ (1 = 1 ∧ 1 = 1 ∧ restR (List.drop 1 l) (4 : Int) = (valI l).snd.fst ∧ (false || l.isEmpty || big (List.drop 1 l) (4 : Int) || !valOK
    x_1) = (valI l).snd.snd ∧ True) ∧ True) ∧ ((numR l - (1 : Int) == (1 : Int)) = false → ((numR l - (1 : Int) == (2 : Int)) = true → ∃ (x : (List UInt8)), ((List.drop 1 l = x ∧ (0 : Int) = (0 : Int) ∧ True) ∧ Len (List.length x)) ∧
    (decide (idx0 x < (0 : Int)) = true → (numR l - (1 : Int) = (valI l).fst.k ∧ (0 : Int) = (valI l).fst.n ∧ [] = (valI l).fst.t ∧ True) ∧ (1 = 1 ∧ 1 = 1 ∧ List.drop 1 l = (valI l).snd.fst ∧ true = (valI l).snd.snd ∧ True) ∧ True) ∧
    (decide (idx0 x < (0 : Int)) = false → Small47 (idx0 x) ∧ Small47 (1 : Int) ∧ ∃ (x_1 : r_ValueOK.ι), ((false || l.isEmpty || big (List.drop 1 l) (idx0 x) || big (restR (List.drop 1 l) (idx0 x)) (1 : Int)) = false → ((numR l - (1 :
    Int) = x_1.k ∧ (0 : Int) = x_1.n ∧ takeR (List.drop 1 l) (idx0 x) = x_1.t ∧ True) ∧ True) ∧ StB x_1.t) ∧ (numR l - (1 : Int) = (valI l).fst.k ∧ (0 : Int) = (valI l).fst.n ∧ takeR (List.drop 1 l) (idx0 x) = (valI l).fst.t ∧ True) ∧
    (1 = 1 ∧ 1 = 1 ∧ restR (restR (List.drop 1 l) (idx0 x)) (1 : Int) = (valI l).snd.fst ∧ (false || l.isEmpty || big (List.drop 1 l) (idx0 x) || big (restR (List.drop 1 l) (idx0 x)) (1 : Int) || !valOK x_1) = (valI l).snd.snd ∧ True)
    ∧ True)) ∧ ((numR l - (1 : Int) == (2 : Int)) = false → ∃ (x : r_ValueOK.ι), ((false || l.isEmpty) = false → ((numR l - (1 : Int) = x.k ∧ (0 : Int) = x.n ∧ [] = x.t ∧ True) ∧ True) ∧ StB x.t) ∧ (numR l - (1 : Int) = (valI l).fst.k
    ∧ (0 : Int) = (valI l).fst.n ∧ [] = (valI l).fst.t ∧ True) ∧ (1 = 1 ∧ 1 = 1 ∧ List.drop 1 l = (valI l).snd.fst ∧ (false || l.isEmpty || !valOK x) = (valI l).snd.snd ∧ True) ∧ True))) :
    EffFn Tryz.prog 262 [.ref 0 0 0] [rdr l false] (.agg (valI l).1.ts) [rdr (valI l).2.1 (valI l).2.2] :=
  vcE (code := b_value) (gC num_ok call_num (gC take_ok call_take (gC big_ok call_big (gC idxByte_ok call_idxByte (gC ValueOKi_ok call_ValueOKi gN))))) Tryz.func262 (by kernel_rfl) (by kernel_rfl) noAnn (bs := [true]) h (by kernel_rfl)
theorem fstI_lt {n : Nat} {p : Nat → Bool} (h : ¬ fstI n p < 0) : ∃ i, i < n ∧ p i = true ∧ (∀ j, j < i → p j = false) ∧ fstI n p = (i : Int) := by
  cases ha : anyI n p with
  | false => exact absurd (by rw [fstI_no (anyI_no.1 ha)]; omega) h
  | true =>
    obtain ⟨i, hi, hp⟩ := anyI_iff.1 ha
    have key : ∀ m, m ≤ n → (∀ j, j < m → p j = false) ∨ ∃ i, i < n ∧ p i = true ∧ (∀ j, j < i → p j = false) := by
      intro m
      induction m with
      | zero => intro _; exact .inl fun j hj => absurd hj (Nat.not_lt_zero j)
      | succ m ih =>
        intro hm
        rcases ih (by omega) with h0 | h0
        · cases hq : p m with
          | true => exact .inr ⟨m, hm, hq, h0⟩
          | false =>
            refine .inl fun j hj => ?_
            by_cases hjm : j = m
            · rw [hjm]; exact hq
            · exact h0 j (by omega)
        · exact .inr h0
    rcases key n (Nat.le_refl n) with h0 | ⟨k, hk, hpk, hn⟩
    · rw [h0 i hi] at hp; cases hp
    · exact ⟨k, hk, hpk, hn, fstI_at hk hpk hn⟩
theorem value_ok : ConOk Tryz.prog 262 k_value := by
  rintro (l : List UInt8) ⟨h0, (hl : l.length ≤ 1000000000)⟩
  have hn := numR_in l
  have he : l.isEmpty = false := by cases l with | nil => exact absurd rfl h0 | cons => rfl
  have hd : (l.drop 1).length ≤ 1000000000 := by rw [List.length_drop]; omega
  have ht4 : (takeR (l.drop 1) 4).length ≤ 4 := by
    unfold takeR
    split
    · rw [List.length_replicate]; omega
    · rw [List.length_take]; omega
  refine v_value l ⟨i64_rng (by omega), fun hk => ⟨by unfold Small47; omega, takeR (l.drop 1) 4, ⟨⟨rfl, trivial⟩, ht4⟩, ?_, ⟨1, be (takeR (l.drop 1) 4) - 1000000000, []⟩, fun _ => ⟨⟨⟨beq_iff_eq.1 hk, rfl, rfl, trivial⟩, trivial⟩, by unfold StB Len; simp⟩, ?_⟩, fun hk => ⟨fun hk2 => ⟨l.drop 1, ⟨⟨rfl, rfl, trivial⟩, by unfold Len; omega⟩, fun hx => ?_, fun hx => ?_⟩, fun hk2 => ?_⟩⟩
  · have := beAt_le4 (takeR (l.drop 1) 4) ht4
    have e : be (takeR (l.drop 1) 4) = beAt (takeR (l.drop 1) 4) (takeR (l.drop 1) 4).length := rfl
    exact i64_rng (by omega)
  · have hk : numR l - 1 = 1 := beq_iff_eq.1 hk
    unfold valI
    rw [if_pos hk, he]
    exact ⟨⟨hk, rfl, rfl, trivial⟩, ⟨rfl, rfl, rfl, rfl, trivial⟩, trivial⟩
  · have hk' : numR l - 1 ≠ 1 := beq_neq hk
    have hk2 : numR l - 1 = 2 := beq_iff_eq.1 hk2
    have hx : idx0 (l.drop 1) < 0 := of_decide_eq_true hx
    unfold valI
    rw [if_neg hk', if_pos hk2, if_pos hx]
    exact ⟨⟨hk2, rfl, rfl, trivial⟩, ⟨rfl, rfl, rfl, rfl, trivial⟩, trivial⟩
  · have hk' : numR l - 1 ≠ 1 := beq_neq hk
    have hk2 : numR l - 1 = 2 := beq_iff_eq.1 hk2
    have hx : ¬ idx0 (l.drop 1) < 0 := of_decide_eq_false hx
    obtain ⟨i, hi, hz, _, hix⟩ := fstI_lt hx
    have hix : idx0 (l.drop 1) = (i : Int) := hix
    have b1 : big (l.drop 1) (i : Int) = false := by unfold big; rw [decide_eq_false (by omega)]
    have t1 : takeR (l.drop 1) (i : Int) = (l.drop 1).take i := by unfold takeR; rw [b1]; rfl
    have r1 : restR (l.drop 1) (i : Int) = (l.drop 1).drop i := by unfold restR; rw [b1]; rfl
    have b2 : big ((l.drop 1).drop i) 1 = false := by unfold big; rw [decide_eq_false (by rw [List.length_drop]; omega)]
    have r2 : restR ((l.drop 1).drop i) 1 = (l.drop 1).drop (i + 1) := by
      unfold restR
      rw [b2]
      show ((l.drop 1).drop i).drop 1 = _
      rw [List.drop_drop]
    unfold valI
    rw [if_neg hk', if_pos hk2, if_neg hx, hix, t1, r1, r2, b1, b2, he]
    refine ⟨⟨by omega, by omega⟩, by unfold Small47; omega, ⟨2, 0, (l.drop 1).take i⟩, fun _ => ⟨⟨⟨hk2, rfl, rfl, trivial⟩, trivial⟩, by unfold StB Len; rw [List.length_take]; omega⟩, ⟨hk2, rfl, rfl, trivial⟩, ⟨rfl, rfl, rfl, rfl, trivial⟩, trivial⟩
  · have hk' : numR l - 1 ≠ 1 := beq_neq hk
    have hk2' : numR l - 1 ≠ 2 := beq_neq hk2
    unfold valI
    rw [if_neg hk', if_neg hk2', he]
    exact ⟨⟨numR l - 1, 0, []⟩, fun _ => ⟨⟨⟨rfl, rfl, rfl, trivial⟩, trivial⟩, by unfold StB Len; simp⟩, ⟨rfl, rfl, rfl, trivial⟩, ⟨rfl, rfl, rfl, rfl, trivial⟩, trivial⟩
theorem valI_len {l : List UInt8} (h : l ≠ []) : (valI l).2.1.length < l.length := by
  have hp : 0 < l.length := List.length_pos_iff.2 h
  have hd : (l.drop 1).length < l.length := by rw [List.length_drop]; omega
  have hr : ∀ (m : List UInt8) (n : Int), (restR m n).length ≤ m.length := fun m n => by
    unfold restR
    split
    · omega
    · rw [List.length_drop]; omega
  unfold valI
  split
  · exact Nat.lt_of_le_of_lt (hr _ _) hd
  · split
    · split
      · exact hd
      · show ((l.drop 1).drop _).length < _
        rw [List.length_drop]
        omega
    · exact hd
/-- All values that are taken. -/
def keyRun : Nat → List UInt8 → Bool → List Val → List Val × Bool
  | 0, _, f, acc => (acc, !f)
  | n + 1, l, f, acc => if l = [] ∨ f = true then (acc, !f) else keyRun n (valI l).2.1 (valI l).2.2 (acc ++ [(valI l).1])
def keyI (l : List UInt8) : List Val × Bool := keyRun l.length l false []
def r_readKey : Rl := ⟨List UInt8, fun b => [.bys b], fun b => .tup [valS (keyI b).1, .bool (keyI b).2], Len9⟩
def k_readKey : Con := .rel r_readKey
def KeySt (b : List UInt8) : Type := {x : Nat × List UInt8 × Bool × List Val // keyRun x.1 x.2.1 x.2.2.1 x.2.2.2 = keyI b ∧ x.2.1.length ≤ x.1 ∧ x.2.2.2.length + x.1 ≤ b.length}
def A_readKey (b : List UInt8) : Nat → Ann
  | 0 => .one (KeySt b) (fun x => ⟨[(4, .ref 0 0 0), (5, .osl 1 0 x.1.2.2.2.length)], [rdr x.1.2.1 x.1.2.2.1, some (.arr true 0 3 x.1.2.2.2.length (valRow x.1.2.2.2))]⟩) (fun x => x.1.1) [.box 0, .arr 1] [.box 0, .arr 3] (fun _ => noAnn)
  | _ => .none
noncomputable def b_readKey : Code := Tryz.f192.body.getD .skip
theorem call_readKey : Callable Tryz.prog 192 := ⟨_, Tryz.func192, by kernel_rfl, by kernel_rfl⟩
theorem v_readKey (b : List UInt8) (h :
    (∃ (x : KeySt b), ((0 = 0 ∧ 0 = 0) ∧ (0 = 0 ∧ 0 = x.val.snd.snd.snd.length) ∧ True) ∧ (1 = 1 ∧ 1 = 1 ∧ b = x.val.snd.fst ∧ false = x.val.snd.snd.fst ∧ True) ∧ (0 = x.val.snd.snd.snd.length ∧ RowsEq 0 (fun (k : Nat) => List.take 3
    (List.drop (k * 3) [])) (valRow x.val.snd.snd.snd)) ∧ True) ∧ ∀ (x : KeySt b), ((decide ((x.val.snd.fst.length:Int) > (0 : Int)) && !x.val.snd.snd.fst) = true → ∃ (x_1 : r_value.ι), (((0 = 0 ∧ 0 = 0) ∧ True) ∧ ((1 = 1 ∧ RowsEq 1
    (fun (x_2 : Nat) => [T.bys x.val.snd.fst, T.bool x.val.snd.snd.fst]) fun (x : Nat) => [T.bys x_1, T.bool false]) ∧ True) ∧ x_1 ≠ [] ∧ Len9 x_1) ∧ (Le 1 1 ∧ Le x.val.snd.snd.snd.length x.val.snd.snd.snd.length ∧ AppB
    x.val.snd.snd.snd.length 1 32) ∧ ∃ (y : KeySt b), (((0 = 0 ∧ 0 = 0) ∧ (0 = 0 ∧ x.val.snd.snd.snd.length + 1 = y.val.snd.snd.snd.length) ∧ True) ∧ (1 = 1 ∧ 1 = 1 ∧ (valI x_1).snd.fst = y.val.snd.fst ∧ (valI x_1).snd.snd =
    y.val.snd.snd.fst ∧ True) ∧ (x.val.snd.snd.snd.length + 1 = y.val.snd.snd.snd.length ∧ RowsEq (x.val.snd.snd.snd.length + 1) (appRow (valRow x.val.snd.snd.snd) x.val.snd.snd.snd.length fun (k : Nat) => List.take 3 (List.drop (k *
    3) [T.int .i64 (valI x_1).fst.k, T.int .i64 (valI x_1).fst.n, T.str (valI x_1).fst.t])) (valRow y.val.snd.snd.snd)) ∧ True) ∧ Lt y.val.fst x.val.fst) ∧ ((decide ((x.val.snd.fst.length:Int) > (0 : Int)) && !x.val.snd.snd.fst) =
    false → Le (0 + x.val.snd.snd.snd.length) x.val.snd.snd.snd.length ∧ (x.val.snd.snd.snd.length = (keyI b).fst.length ∧ RowsEq x.val.snd.snd.snd.length (valRow x.val.snd.snd.snd) (valRow (keyI b).fst)) ∧ (!x.val.snd.snd.fst) =
    (keyI b).snd ∧ True)) :
    PureFn Tryz.prog 192 [.bys b] (.tup [valS (keyI b).1, .bool (keyI b).2]) :=
  vcR (code := b_readKey) (gC value_ok call_value gN) Tryz.func192 (by kernel_rfl) (by kernel_rfl) (A_readKey b) h (by kernel_rfl)
theorem val_app (L : List Val) (v : Val) : RowsEq (L.length + 1) (appRow (valRow L) L.length fun k => List.take 3 (List.drop (k * 3) v.ts)) (valRow (L ++ [v])) := by
  intro i hi
  by_cases h : i < L.length
  · rw [appRow_lt h]
    simp [valRow, List.getElem?_append_left h]
  · obtain rfl : i = L.length := by omega
    rw [appRow_ge (Nat.le_refl _), Nat.sub_self]
    simp [valRow, Val.ts]
theorem keyRun_go {n : Nat} {l : List UInt8} {acc : List Val} (h : l ≠ []) (hn : l.length ≤ n) : keyRun n l false acc = keyRun (n - 1) (valI l).2.1 (valI l).2.2 (acc ++ [(valI l).1]) := by
  have hp : 0 < l.length := List.length_pos_iff.2 h
  obtain ⟨m, rfl⟩ : ∃ m, n = m + 1 := ⟨n - 1, by omega⟩
  conv => lhs; unfold keyRun
  rw [if_neg (by simp [h])]
  rfl
theorem keyRun_end {n : Nat} {l : List UInt8} {f : Bool} {acc : List Val} (h : l = [] ∨ f = true) : keyRun n l f acc = (acc, !f) := by
  cases n with
  | zero => rfl
  | succ n => unfold keyRun; rw [if_pos h]
theorem readKey_ok : ConOk Tryz.prog 192 k_readKey := by
  intro (b : List UInt8) (hb : b.length ≤ 1000000000)
  refine v_readKey b ⟨⟨⟨(b.length, b, false, []), rfl, Nat.le_refl _, by dsimp only [List.length_nil]; omega⟩, ⟨⟨rfl, rfl⟩, ⟨rfl, rfl⟩, trivial⟩, ⟨rfl, rfl, rfl, rfl, trivial⟩, ⟨rfl, rows0 _ _⟩, trivial⟩, fun x => ?_⟩
  obtain ⟨⟨n, l, f, acc⟩, he, hl, hn⟩ := x
  dsimp only at he hl hn ⊢
  refine ⟨fun hc => ?_, fun hc => ?_⟩
  · simp only [Bool.and_eq_true, decide_eq_true_eq, Bool.not_eq_true'] at hc
    obtain ⟨hp, rfl⟩ := hc
    have h0 : l ≠ [] := fun h => by rw [h] at hp; simp at hp
    have hv := valI_len h0
    rw [keyRun_go h0 hl] at he
    refine ⟨l, ⟨⟨⟨rfl, rfl⟩, trivial⟩, ⟨⟨rfl, fun i hi => by (obtain rfl : i = 0 := by omega); rfl⟩, trivial⟩, h0, by unfold Len9; omega⟩, ⟨Nat.le_refl _, Nat.le_refl _, by unfold AppB; omega⟩, ⟨(n - 1, (valI l).2.1, (valI l).2.2, acc ++ [(valI l).1]), he, by dsimp only; omega, by dsimp only; rw [List.length_append, List.length_singleton]; omega⟩, ⟨⟨⟨rfl, rfl⟩, ⟨rfl, by dsimp only; rw [List.length_append, List.length_singleton]⟩, trivial⟩, ⟨rfl, rfl, rfl, rfl, trivial⟩, ⟨by dsimp only; rw [List.length_append, List.length_singleton], val_app _ _⟩, trivial⟩, show n - 1 < n by omega⟩
  · have hh : l = [] ∨ f = true := by
      cases f with
      | true => exact .inr rfl
      | false =>
        refine .inl (List.length_eq_zero_iff.1 ?_)
        have hc : (decide ((l.length : Int) > 0) && !false) = false := hc
        simp only [Bool.not_false, Bool.and_true, decide_eq_false_iff_not] at hc
        omega
    rw [keyRun_end hh] at he
    rw [← he]
    exact ⟨by unfold Le; omega, ⟨rfl, rowsR _ _⟩, rfl, trivial⟩
end Go.Proofs.YtjbomnjmcbhadaaGreat

namespace Go.Proofs.YtjbomnjmcbhadaaGreat
set_option maxRecDepth 100000
open Go.SS

def keyS (t : List UInt8) : List Val × Bool := if (keyI t).2 = true then keyI t else ([], false)
def k_l01ReadKey : Con := .rel ⟨List UInt8, fun t => [.str t], fun t => .tup [valS (keyS t).1, .bool (keyS t).2], Len9⟩
structure KSt where
  n : Nat
  at_ : Nat
  acc : List Val
def KeySS (t : List UInt8) : Type := {x : KSt // keyRun x.n (t.drop x.at_) false x.acc = keyI t ∧ x.at_ ≤ t.length ∧ t.length - x.at_ ≤ x.n ∧ x.acc.length + x.n ≤ t.length}
def NoZ (t : List UInt8) (a : Nat) : Type := {k : Nat // a ≤ k ∧ k ≤ t.length ∧ ∀ j, a ≤ j → j < k → isZ t j = false}
def knd (t : List UInt8) (a : Nat) : Int := ((t.getD a 0).toNat : Int) - 1
def A_l01ReadKey (t : List UInt8) : Nat → Ann
  | 0 => .one (KeySS t) (fun x => ⟨[(0, .str t), (4, .osl 0 0 x.1.acc.length), (5, .int .i64 x.1.at_)], [some (.arr true 0 3 x.1.acc.length (valRow x.1.acc))]⟩) (fun x => t.length - x.1.at_) [.arr 0] [.arr 3] (fun x => fun
    | 1 => .one (NoZ t (x.1.at_ + 1)) (fun y => ⟨[(0, .str t), (4, .osl 0 0 x.1.acc.length), (5, .int .i64 (x.1.at_ + 1 : Nat)), (6, .ref 1 0 0), (7, .int .i64 y.1)], [some (.arr true 0 3 x.1.acc.length (valRow x.1.acc)), some (.arr true 1000000 3 1 fun _ => [.int .i64 (knd t x.1.at_), .int .i64 0, .str []])]⟩) (fun y => t.length - y.1) [.arr 0, .box 1] [.arr 0, .box 1] (fun _ => noAnn)
    | _ => .none)
  | _ => .none
noncomputable def b_l01ReadKey : Code := Tryz.f252.body.getD .skip
theorem call_l01ReadKey : Callable Tryz.prog 252 := ⟨_, Tryz.func252, by kernel_rfl, by kernel_rfl⟩
theorem v_l01ReadKey (t : List UInt8) (h :
    (∃ (x : KeySS t), (t = t ∧ (0 = 0 ∧ 0 = x.val.acc.length) ∧ (0 : Int) = (x.val.at_:Int) ∧ True) ∧ (0 = x.val.acc.length ∧ RowsEq 0 (fun (k : Nat) => List.take 3 (List.drop (k * 3) [])) (valRow x.val.acc)) ∧ True) ∧ ∀ (x : KeySS
    t), (decide ((x.val.at_:Int) < (t.length:Int)) = true → InB (x.val.at_:Int) t.length ∧ Rng .i64 (IntKind.i64.wrap (↑(t.getD (x.val.at_:Int).toNat (0 : UInt8)).toNat : Int) - (1 : Int)) ∧ Rng .i64 ((x.val.at_:Int) + (1 : Int)) ∧
    ((IntKind.i64.wrap (↑(t.getD (x.val.at_:Int).toNat (0 : UInt8)).toNat : Int) - (1 : Int) == (0 : Int)) = true → ∃ (x_1 : r_ValueOK.ι), (((IntKind.i64.wrap (↑(t.getD (x.val.at_:Int).toNat (0 : UInt8)).toNat : Int) - (1 : Int) =
    x_1.k ∧ (0 : Int) = x_1.n ∧ [] = x_1.t ∧ True) ∧ True) ∧ StB x_1.t) ∧ ((!valOK x_1) = true → Le 0 0 ∧ (0 = (keyS t).fst.length ∧ RowsEq 0 (fun (k : Nat) => List.take 3 (List.drop (k * 3) [])) (valRow (keyS t).fst)) ∧ false = (keyS
    t).snd ∧ True) ∧ ((!valOK x_1) = false → (Le 1 1 ∧ Le x.val.acc.length x.val.acc.length ∧ AppB x.val.acc.length 1 32) ∧ ∃ (y : KeySS t), ((t = t ∧ (0 = 0 ∧ x.val.acc.length + 1 = y.val.acc.length) ∧ (x.val.at_:Int) + (1 : Int) =
    (y.val.at_:Int) ∧ True) ∧ (x.val.acc.length + 1 = y.val.acc.length ∧ RowsEq (x.val.acc.length + 1) (appRow (valRow x.val.acc) x.val.acc.length fun (k : Nat) => List.take 3 (List.drop (k * 3) [T.int .i64 (IntKind.i64.wrap (↑(t.getD
    (x.val.at_:Int).toNat (0 : UInt8)).toNat : Int) - (1 : Int)), T.int .i64 (0 : Int), T.str []])) (valRow y.val.acc)) ∧ True) ∧ Lt (t.length - y.val.at_) (t.length - x.val.at_))) ∧ ((IntKind.i64.wrap (↑(t.getD (x.val.at_:Int).toNat
    (0 : UInt8)).toNat : Int) - (1 : Int) == (0 : Int)) = false → ((IntKind.i64.wrap (↑(t.getD (x.val.at_:Int).toNat (0 : UInt8)).toNat : Int) - (1 : Int) == (1 : Int)) = true → Rng .i64 ((x.val.at_:Int) + (1 : Int) + (4 : Int)) ∧
    (decide ((x.val.at_:Int) + (1 : Int) + (4 : Int) > (t.length:Int)) = true → Le 0 0 ∧ (0 = (keyS t).fst.length ∧ RowsEq 0 (fun (k : Nat) => List.take 3 (List.drop (k * 3) [])) (valRow (keyS t).fst)) ∧ false = (keyS t).snd ∧ True) ∧
    (decide ((x.val.at_:Int) + (1 : Int) + (4 : Int) > (t.length:Int)) = false → Rng .i64 ((x.val.at_:Int) + (1 : Int) + (4 : Int)) ∧ InC2 ((x.val.at_:Int) + (1 : Int)) ((x.val.at_:Int) + (1 : Int) + (4 : Int)) t.length ∧ ∃ (x_1 :
    r_l01Of.ι), ((List.drop ((x.val.at_:Int) + (1 : Int)).toNat (List.take ((x.val.at_:Int) + (1 : Int) + (4 : Int)).toNat t) = x_1 ∧ True) ∧ Len4 x_1) ∧ Rng .i64 ((↑(be x_1) : Int) - (1000000000 : Int)) ∧ Rng .i64 ((x.val.at_:Int) +
    (1 : Int) + (4 : Int)) ∧ ∃ (x_2 : r_ValueOK.ι), (((IntKind.i64.wrap (↑(t.getD (x.val.at_:Int).toNat (0 : UInt8)).toNat : Int) - (1 : Int) = x_2.k ∧ (↑(be x_1) : Int) - (1000000000 : Int) = x_2.n ∧ [] = x_2.t ∧ True) ∧ True) ∧ StB
    x_2.t) ∧ ((!valOK x_2) = true → Le 0 0 ∧ (0 = (keyS t).fst.length ∧ RowsEq 0 (fun (k : Nat) => List.take 3 (List.drop (k * 3) [])) (valRow (keyS t).fst)) ∧ false = (keyS t).snd ∧ True) ∧ ((!valOK x_2) = false → (Le 1 1 ∧ Le
    x.val.acc.length x.val.acc.length ∧ AppB x.val.acc.length 1 32) ∧ ∃ (y : KeySS t), ((t = t ∧ (0 = 0 ∧ x.val.acc.length + 1 = y.val.acc.length) ∧ (x.val.at_:Int) + (1 : Int) + (4 : Int) = (y.val.at_:Int) ∧ True) ∧ (x.val.acc.length
    + 1 = y.val.acc.length ∧ RowsEq (x.val.acc.length + 1) (appRow (valRow x.val.acc) x.val.acc.length fun (k : Nat) => List.take 3 (List.drop (k * 3) [T.int .i64 (IntKind.i64.wrap (↑(t.getD (x.val.at_:Int).toNat (0 : UInt8)).toNat :
    Int) - (1 : Int)), T.int .i64 ((↑(be x_1) : Int) - (1000000000 : Int)), T.str []])) (valRow y.val.acc)) ∧ True) ∧ Lt (t.length - y.val.at_) (t.length - x.val.at_)))) ∧ ((IntKind.i64.wrap (↑(t.getD (x.val.at_:Int).toNat (0 :
    UInt8)).toNat : Int) - (1 : Int) == (1 : Int)) = false → (∃ (x_1 : NoZ t (x.val.at_ + 1)), (t = t ∧ (0 = 0 ∧ x.val.acc.length = x.val.acc.length) ∧ (x.val.at_:Int) + (1 : Int) = (↑(x.val.at_ + 1) : Int) ∧ (0 = 0 ∧ 0 = 0) ∧
    (x.val.at_:Int) + (1 : Int) = (x_1.val:Int) ∧ True) ∧ (EqL valRow x.val.acc x.val.acc) ∧ (1 = 1 ∧ 1 = 1 ∧ IntKind.i64.wrap (↑(t.getD (x.val.at_:Int).toNat (0 : UInt8)).toNat : Int) - (1 : Int) = knd t x.val.at_ ∧ (0 : Int) = (0 :
    Int) ∧ ([] : List UInt8) = [] ∧ True) ∧ True) ∧ ∀ (x_1 : NoZ t (x.val.at_ + 1)), (decide ((x_1.val:Int) < (t.length:Int)) = true → InB (x_1.val:Int) t.length) ∧ ((decide ((x_1.val:Int) < (t.length:Int)) && (↑(t.getD
    (x_1.val:Int).toNat (0 : UInt8)).toNat : Int) != (0 : Int)) = true → Rng .i64 ((x_1.val:Int) + (1 : Int)) ∧ ∃ (y : NoZ t (x.val.at_ + 1)), ((t = t ∧ (0 = 0 ∧ x.val.acc.length = x.val.acc.length) ∧ (↑(x.val.at_ + 1) : Int) =
    (↑(x.val.at_ + 1) : Int) ∧ (0 = 0 ∧ 0 = 0) ∧ (x_1.val:Int) + (1 : Int) = (y.val:Int) ∧ True) ∧ (EqL valRow x.val.acc x.val.acc) ∧ (1 = 1 ∧ 1 = 1 ∧ knd t x.val.at_ = knd t x.val.at_ ∧ (0 : Int) = (0 : Int) ∧ ([] : List UInt8) = []
    ∧ True) ∧ True) ∧ Lt (t.length - y.val) (t.length - x_1.val)) ∧ ((decide ((x_1.val:Int) < (t.length:Int)) && (↑(t.getD (x_1.val:Int).toNat (0 : UInt8)).toNat : Int) != (0 : Int)) = false → (((x_1.val:Int) == (t.length:Int)) = true
    → Le 0 0 ∧ (0 = (keyS t).fst.length ∧ RowsEq 0 (fun (k : Nat) => List.take 3 (List.drop (k * 3) [])) (valRow (keyS t).fst)) ∧ false = (keyS t).snd ∧ True) ∧ (((x_1.val:Int) == (t.length:Int)) = false → InC2 (↑(x.val.at_ + 1) :
    Int) (x_1.val:Int) t.length ∧ Rng .i64 ((x_1.val:Int) + (1 : Int)) ∧ ∃ (x_2 : r_ValueOK.ι), (((knd t x.val.at_ = x_2.k ∧ (0 : Int) = x_2.n ∧ List.drop (↑(x.val.at_ + 1) : Int).toNat (List.take (x_1.val:Int).toNat t) = x_2.t ∧
    True) ∧ True) ∧ StB x_2.t) ∧ ((!valOK x_2) = true → Le 0 0 ∧ (0 = (keyS t).fst.length ∧ RowsEq 0 (fun (k : Nat) => List.take 3 (List.drop (k * 3) [])) (valRow (keyS t).fst)) ∧ false = (keyS t).snd ∧ True) ∧ ((!valOK x_2) = false →
    (Le 1 1 ∧ Le x.val.acc.length x.val.acc.length ∧ AppB x.val.acc.length 1 32) ∧ ∃ (y : KeySS t), ((t = t ∧ (0 = 0 ∧ x.val.acc.length + 1 = y.val.acc.length) ∧ (x_1.val:Int) + (1 : Int) = (y.val.at_:Int) ∧ True) ∧ (x.val.acc.length
    + 1 = y.val.acc.length ∧ RowsEq (x.val.acc.length + 1) (appRow (valRow x.val.acc) x.val.acc.length fun (k : Nat) => List.take 3 (List.drop (k * 3) [T.int .i64 (knd t x.val.at_), T.int .i64 (0 : Int), T.str (List.drop (↑(x.val.at_
    + 1) : Int).toNat (List.take (x_1.val:Int).toNat t))])) (valRow y.val.acc)) ∧ True) ∧ Lt (t.length - y.val.at_) (t.length - x.val.at_))))))) ∧ (decide ((x.val.at_:Int) < (t.length:Int)) = false → Le (0 + x.val.acc.length)
    x.val.acc.length ∧ (x.val.acc.length = (keyS t).fst.length ∧ RowsEq x.val.acc.length (valRow x.val.acc) (valRow (keyS t).fst)) ∧ true = (keyS t).snd ∧ True)) :
    PureFn Tryz.prog 252 [.str t] (.tup [valS (keyS t).1, .bool (keyS t).2]) :=
  vcR (code := b_l01ReadKey) (gC ValueOKs_ok call_ValueOKs (gC l01Of_ok call_l01Of gN)) Tryz.func252 (by kernel_rfl) (by kernel_rfl) (A_l01ReadKey t) h (by kernel_rfl)
theorem key_fail {t : List UInt8} {n : Nat} {l : List UInt8} {acc : List Val} (h : keyRun n l false acc = keyI t) (h0 : l ≠ []) (hl : l.length ≤ n) (hf : (valI l).2.2 = true) : keyS t = ([], false) := by
  rw [keyRun_go h0 hl, hf, keyRun_end (.inr rfl)] at h
  unfold keyS
  rw [← h]
  rfl
theorem key_step {t : List UInt8} {n : Nat} {l : List UInt8} {acc : List Val} (h : keyRun n l false acc = keyI t) (h0 : l ≠ []) (hl : l.length ≤ n) {v : Val} {r : List UInt8} (hv : valI l = (v, r, false)) : keyRun (n - 1) r false (acc ++ [v]) = keyI t := by
  rw [keyRun_go h0 hl, hv] at h
  exact h
theorem val_bad {k n : Int} {s : List UInt8} (h0 : k ≠ 0) (h1 : k ≠ 1) (h2 : k ≠ 2) : valOK ⟨k, n, s⟩ = false := by
  unfold valOK
  dsimp only
  rw [if_neg h0, if_neg h1, show (k == 2) = false from beq_eq_false_iff_ne.2 h2]
  rfl
theorem getD_drop {t : List UInt8} (a i : Nat) : (t.drop a).getD i 0 = t.getD (a + i) 0 := by
  rw [List.getD_eq_getElem?_getD, List.getD_eq_getElem?_getD, List.getElem?_drop]
theorem isZ_drop (t : List UInt8) (a i : Nat) : isZ (t.drop a) i = isZ t (a + i) := by unfold isZ; rw [getD_drop]
theorem isZ_ne (t : List UInt8) (k : Nat) : (((t.getD k 0).toNat : Int) != 0) = !isZ t k := by
  unfold isZ
  rw [show (((t.getD k 0).toNat : Int) != 0) = !(((t.getD k 0).toNat : Int) == 0) from rfl]
  congr 1
  rw [Bool.eq_iff_iff, beq_iff_eq, beq_iff_eq]
  exact eq_comm
theorem l01ReadKey_ok : ConOk Tryz.prog 252 k_l01ReadKey := by
  intro (t : List UInt8) (hb : t.length ≤ 1000000000)
  refine v_l01ReadKey t ⟨⟨⟨⟨t.length, 0, []⟩, rfl, Nat.zero_le _, Nat.le_refl _, by dsimp only [List.length_nil]; omega⟩, ⟨rfl, ⟨rfl, rfl⟩, rfl, trivial⟩, ⟨rfl, rows0 _ _⟩, trivial⟩, fun x => ?_⟩
  obtain ⟨⟨n, a, acc⟩, he, ha, hl, hn⟩ := x
  dsimp only at he ha hl hn ⊢
  rw [Int.toNat_natCast, wrap_byte]
  have hbl := byte_lt t a
  have hL : (t.drop a).length ≤ n := by rw [List.length_drop]; exact hl
  refine ⟨fun hc => ?_, fun hc => ?_⟩
  · have hlt := lt_of_dec hc
    have h0 : t.drop a ≠ [] := fun h => by have := congrArg List.length h; rw [List.length_drop, List.length_nil] at this; omega
    have hk : numR (t.drop a) - 1 = ((t.getD a 0).toNat : Int) - 1 := by unfold numR; rw [getD_drop]; rfl
    have hd : (t.drop a).drop 1 = t.drop (a + 1) := by rw [List.drop_drop]
    have hno : ∀ {P : Prop}, (valI (t.drop a)).2.2 = true → (keyS t = ([], false) → P) → P := fun hf h => h (key_fail he h0 hL hf)
    have fin : (valI (t.drop a)).2.2 = true → Le 0 0 ∧ ((0 : Nat) = (keyS t).fst.length ∧ RowsEq 0 (fun k => List.take 3 (List.drop (k * 3) [])) (valRow (keyS t).fst)) ∧ false = (keyS t).snd ∧ True := fun hf => by
      rw [key_fail he h0 hL hf]
      exact ⟨Nat.le_refl _, ⟨rfl, rows0 _ _⟩, rfl, trivial⟩
    refine ⟨inB_nat hlt, i64_rng (by omega), add_rng hlt (by omega), fun k0 => ?_, fun k0 => ⟨fun k1 => ?_, fun k1 => ?_⟩⟩
    · have k0 : ((t.getD a 0).toNat : Int) - 1 = 0 := beq_iff_eq.1 k0
      have hv : valI (t.drop a) = (⟨0, 0, []⟩, t.drop (a + 1), !valOK ⟨0, 0, []⟩) := by
        unfold valI
        rw [if_neg (by omega), if_neg (by omega), hd, hk, k0]
      rw [k0]
      refine ⟨⟨0, 0, []⟩, ⟨⟨⟨rfl, rfl, rfl, trivial⟩, trivial⟩, by unfold StB Len; simp⟩, fun hq => fin (by rw [hv]; exact hq), fun hq => ⟨⟨Nat.le_refl _, Nat.le_refl _, by unfold AppB; omega⟩, ⟨⟨n - 1, a + 1, acc ++ [(⟨0, 0, []⟩ : Val)]⟩, key_step he h0 hL (by rw [hv, hq]), by dsimp only; omega, by dsimp only; omega, by dsimp only; rw [List.length_append, List.length_singleton]; omega⟩, ⟨⟨rfl, ⟨rfl, by dsimp only; rw [List.length_append, List.length_singleton]⟩, by dsimp only; omega, trivial⟩, ⟨by dsimp only; rw [List.length_append, List.length_singleton], val_app acc ⟨0, 0, []⟩⟩, trivial⟩, show t.length - (a + 1) < t.length - a by omega⟩⟩
    · have k1 : ((t.getD a 0).toNat : Int) - 1 = 1 := beq_iff_eq.1 k1
      have hbig : big (t.drop (a + 1)) 4 = decide ((a : Int) + 1 + 4 > t.length) := by
        unfold big
        rw [List.length_drop]
        exact decide_eq_decide.2 (by omega)
      have hv : valI (t.drop a) = (⟨1, be (takeR (t.drop (a + 1)) 4) - 1000000000, []⟩, restR (t.drop (a + 1)) 4, big (t.drop (a + 1)) 4 || !valOK ⟨1, be (takeR (t.drop (a + 1)) 4) - 1000000000, []⟩) := by
        unfold valI
        rw [if_pos (by omega), hd]
      refine ⟨i64_rng (by omega), fun hg => fin (by rw [hv, hbig, hg]; rfl), fun hg => ?_⟩
      have hg' : ¬ ((a : Int) + 1 + 4 > t.length) := of_decide_eq_false hg
      rw [hg] at hbig
      have ht : takeR (t.drop (a + 1)) 4 = List.drop (a + 1) (List.take (a + 5) t) := by
        unfold takeR
        rw [hbig, List.drop_take, show a + 5 - (a + 1) = 4 by omega]
        rfl
      have hr : restR (t.drop (a + 1)) 4 = t.drop (a + 5) := by
        unfold restR
        rw [hbig]
        show (t.drop (a + 1)).drop 4 = _
        rw [List.drop_drop]
      rw [hbig, ht, hr, Bool.false_or] at hv
      have l4 : (List.drop (a + 1) (List.take (a + 5) t)).length ≤ 4 := by rw [List.length_drop, List.length_take]; omega
      have hbe := beAt_le4 (List.drop (a + 1) (List.take (a + 5) t)) l4
      have ebe : be (List.drop (a + 1) (List.take (a + 5) t)) = beAt (List.drop (a + 1) (List.take (a + 5) t)) (List.drop (a + 1) (List.take (a + 5) t)).length := rfl
      rw [k1, show ((a : Int) + 1 + 4).toNat = a + 5 by omega, show ((a : Int) + 1).toNat = a + 1 by omega]
      refine ⟨i64_rng (by omega), ⟨by omega, by omega, by omega⟩, List.drop (a + 1) (List.take (a + 5) t), ⟨⟨rfl, trivial⟩, l4⟩, i64_rng (by omega), i64_rng (by omega), ⟨1, be (List.drop (a + 1) (List.take (a + 5) t)) - 1000000000, []⟩, ⟨⟨⟨rfl, rfl, rfl, trivial⟩, trivial⟩, by unfold StB Len; simp⟩, fun hq => fin (by rw [hv]; exact hq), fun hq => ⟨⟨Nat.le_refl _, Nat.le_refl _, by unfold AppB; omega⟩, ⟨⟨n - 1, a + 5, acc ++ [⟨1, be (List.drop (a + 1) (List.take (a + 5) t)) - 1000000000, []⟩]⟩, key_step he h0 hL (by rw [hv, hq]), by dsimp only; omega, by dsimp only; omega, by dsimp only; rw [List.length_append, List.length_singleton]; omega⟩, ⟨⟨rfl, ⟨rfl, by dsimp only; rw [List.length_append, List.length_singleton]⟩, by dsimp only; omega, trivial⟩, ⟨by dsimp only; rw [List.length_append, List.length_singleton], val_app acc ⟨1, be (List.drop (a + 1) (List.take (a + 5) t)) - 1000000000, []⟩⟩, trivial⟩, show t.length - (a + 5) < t.length - a by omega⟩⟩
    · have k0 : ((t.getD a 0).toNat : Int) - 1 ≠ 0 := beq_neq k0
      have k1 : ((t.getD a 0).toNat : Int) - 1 ≠ 1 := beq_neq k1
      have hkn : knd t a = ((t.getD a 0).toNat : Int) - 1 := rfl
      refine ⟨⟨⟨a + 1, Nat.le_refl _, hlt, fun j h1 h2 => by omega⟩, ⟨rfl, ⟨rfl, rfl⟩, by omega, ⟨rfl, rfl⟩, by dsimp only; omega, trivial⟩, ⟨rfl, rowsR _ _⟩, ⟨rfl, rfl, rfl, rfl, rfl, trivial⟩, trivial⟩, fun y => ?_⟩
      obtain ⟨k, hk1, hk2, hkz⟩ := y
      dsimp only
      rw [Int.toNat_natCast, Int.toNat_natCast, isZ_ne]
      refine ⟨fun hy => inB_nat (lt_of_dec hy), fun hy => ?_, fun hy => ⟨fun hq => fin ?_, fun hq => ?_⟩⟩
      · simp only [Bool.and_eq_true, decide_eq_true_eq, Bool.not_eq_true'] at hy
        refine ⟨i64_rng (by omega), ⟨k + 1, by omega, by omega, fun j h1 h2 => ?_⟩, ⟨⟨rfl, ⟨rfl, rfl⟩, rfl, ⟨rfl, rfl⟩, by dsimp only; omega, trivial⟩, ⟨rfl, rowsR _ _⟩, ⟨rfl, rfl, rfl, rfl, rfl, trivial⟩, trivial⟩, show t.length - (k + 1) < t.length - k by omega⟩
        by_cases hj : j = k
        · rw [hj]; exact hy.2
        · exact hkz j h1 (by omega)
      · have hq : (k : Int) = t.length := beq_iff_eq.1 hq
        unfold valI
        rw [if_neg (by omega)]
        by_cases k2 : ((t.getD a 0).toNat : Int) - 1 = 2
        · rw [if_pos (by omega), hd]
          have : idx0 (t.drop (a + 1)) = -1 := fstI_no fun j hj => by
            rw [List.length_drop] at hj
            rw [isZ_drop]
            exact hkz _ (by omega) (by omega)
          rw [if_pos (by omega)]
        · rw [if_neg (by omega)]
          dsimp only
          rw [hk, val_bad k0 k1 k2]
          rfl
      · have hq : (k : Int) ≠ t.length := beq_neq hq
        have hkl : k < t.length := by omega
        rw [decide_eq_true (show (k : Int) < t.length by omega), Bool.true_and, Bool.not_eq_false'] at hy
        have e1 : List.drop (a + 1) (List.take k t) = (t.drop (a + 1)).take (k - (a + 1)) := by rw [List.drop_take]
        refine ⟨⟨by omega, by omega, by omega⟩, i64_rng (by omega), ⟨knd t a, 0, List.drop (a + 1) (List.take k t)⟩, ⟨⟨⟨rfl, rfl, rfl, trivial⟩, trivial⟩, by unfold StB Len; rw [List.length_drop, List.length_take]; omega⟩, ?_⟩
        by_cases k2 : ((t.getD a 0).toNat : Int) - 1 = 2
        · have hix : idx0 (t.drop (a + 1)) = ((k - (a + 1) : Nat) : Int) := fstI_at (by rw [List.length_drop]; omega) (by rw [isZ_drop, show a + 1 + (k - (a + 1)) = k by omega]; exact hy) fun j hj => by rw [isZ_drop]; exact hkz _ (by omega) (by omega)
          have hv : valI (t.drop a) = (⟨2, 0, List.drop (a + 1) (List.take k t)⟩, t.drop (k + 1), !valOK ⟨2, 0, List.drop (a + 1) (List.take k t)⟩) := by
            unfold valI
            rw [if_neg (by omega), if_pos (by omega), hd, hix, if_neg (by omega), Int.toNat_natCast, e1, List.drop_drop, show a + 1 + (k - (a + 1) + 1) = k + 1 by omega]
          rw [hkn, k2]
          refine ⟨fun hq => fin (by rw [hv]; exact hq), fun hq => ⟨⟨Nat.le_refl _, Nat.le_refl _, by unfold AppB; omega⟩, ⟨⟨n - 1, k + 1, acc ++ [⟨2, 0, List.drop (a + 1) (List.take k t)⟩]⟩, key_step he h0 hL (by rw [hv, hq]), by dsimp only; omega, by dsimp only; omega, by dsimp only; rw [List.length_append, List.length_singleton]; omega⟩, ⟨⟨rfl, ⟨rfl, by dsimp only; rw [List.length_append, List.length_singleton]⟩, by dsimp only; omega, trivial⟩, ⟨by dsimp only; rw [List.length_append, List.length_singleton], val_app acc ⟨2, 0, List.drop (a + 1) (List.take k t)⟩⟩, trivial⟩, show t.length - (k + 1) < t.length - a by omega⟩⟩
        · have hbad : valOK ⟨knd t a, 0, List.drop (a + 1) (List.take k t)⟩ = false := val_bad k0 k1 k2
          refine ⟨fun _ => fin ?_, fun hq => ?_⟩
          · unfold valI
            rw [if_neg (by omega), if_neg (by omega)]
            dsimp only
            rw [hk, val_bad k0 k1 k2]
            rfl
          · rw [hbad] at hq
            cases hq
  · have hge := le_of_not hc
    have : t.drop a = [] := List.drop_eq_nil_of_le hge
    rw [this, keyRun_end (.inl rfl)] at he
    have e : keyS t = (acc, true) := by unfold keyS; rw [← he]; rfl
    rw [e]
    exact ⟨by unfold Le; omega, ⟨rfl, rowsR _ _⟩, rfl, trivial⟩
end Go.Proofs.YtjbomnjmcbhadaaGreat

