/- A calculus of symbolic states: the operations that leave memory alone do what is said of them. -/
import Derived.Test.YtndilbkocjlgpaaGreatSS2
namespace Go.SS
open Go.RowKit
section
variable {E : Env} {w : World} {P : Program}

theorem wrap_rng {k : IntKind} {n : Int} (h : Rng k n) : k.wrap n = n := by
 obtain ⟨h1, h2⟩ := h; unfold IntKind.wrap; cases k <;> simp only [IntKind.min, IntKind.max, IntKind.signed, IntKind.bits, Bool.true_and, Bool.false_and, if_true, if_false, Bool.false_eq_true, ge_iff_le, decide_eq_true_eq] at * <;> (try split) <;> omega

theorem run_isAgg (t : TypeId) (h : (P.underlying t).isSome = true) : (isAgg t).run P w = .ok (isAggT P t) w := by
 obtain ⟨d, hd⟩ := Option.isSome_iff_exists.1 h; unfold isAgg isAggT; rw [hd]; simp only [Sem.run_bind, run_underlying hd, Result.andThen_ok]; cases d <;> rfl

theorem run_sizeOf (t : TypeId) (h : (P.info? t).isSome = true) : (sizeOf t).run P w = .ok (P.cellsOf t) w := by
 obtain ⟨d, hd⟩ := Option.isSome_iff_exists.1 h; unfold sizeOf Program.cellsOf typeInfo; simp [hd]

theorem info_of_underlying {t : TypeId} (h : (P.underlying t).isSome = true) : (P.info? t).isSome = true := by
 unfold Program.underlying at h; cases hi : P.info? t with
 | none => rw [hi] at h; cases h
 | some i => rfl


theorem part_ok {t : TypeId} {cs : List T} {vs : Array Value} {off : Nat} {x : T} (hx : takeT P t cs off = some x)
  (hl : cs.length = vs.size) (ht : ∀ (i : Nat) (t : T) (x : Value), cs[i]? = some t -> vs[i]? = some x -> Rd E w t x) :
  ∃ v, (part t vs off).run P w = .ok v w /\ Rd E w x v := by
 unfold takeT at hx; unfold part; split at hx
 ·rename_i hu hag; simp only [Sem.run_bind, run_isAgg t hu, Result.andThen_ok]; split at hx
  ·rename_i hb; simp only [Option.some.injEq] at hx; subst hx; have hb' := Nat.le_of_ble_eq_true hb; simp only [hag, if_true, Sem.run_bind, run_sizeOf t (info_of_underlying hu), Result.andThen_ok, Sem.run_pure]; refine ⟨_, rfl, .agg _ _ (by simp; omega) fun i y z hy hz => ?_⟩
   rw [List.getElem?_take] at hy
   rw [Array.getElem?_extract] at hz
   split at hy
   ·rw [List.getElem?_drop] at hy
    split at hz
    ·exact ht (off + i) y z hy hz
    ·cases hz
   ·cases hy
  ·cases hx
 ·rename_i hu hag; simp only [Sem.run_bind, run_isAgg t hu, Result.andThen_ok]; have hlt : off < cs.length := by
   rcases Nat.lt_or_ge off cs.length with h | h
   ·exact h
   ·rw [List.getElem?_eq_none h] at hx; cases hx
  have hv : vs[off]? = some (vs[off]'(by omega)) := Array.getElem?_eq_getElem _
  simp only [hag, Bool.false_eq_true, if_false, hv, Sem.run_pure]; exact ⟨_, rfl, ht off _ _ hx hv⟩
 ·cases hx

theorem cmp_ok {op : BinOp} {a b : Int} {r : Bool} (h : evCmp op a b = some r) : Op.intCmp op a b = pure (.bool r) := by
 unfold evCmp at h; split at h <;> simp only [Option.some.injEq, reduceCtorEq] at h <;> subst h <;> rfl

theorem int_ok {op : BinOp} {k k' : IntKind} {a b : Int} {ty : TypeId} {t : T} {side : Option Prop} (h : evInt op k a b = some (t, side)) (hk : sameKind op k k' = true) (hs : side.getD True) :
  ∃ v, (binOp op ty (.int k a) (.int k' b)).run P w = .ok v w /\ Rd E w t v := by
 have hkk : op ≠ .shl -> op ≠ .shr -> k = k' := by
  intro h1 h2; unfold sameKind at hk; split at hk
  ·exact absurd rfl h1
  ·exact absurd rfl h2
  ·exact of_decide_eq_true hk
 unfold evInt at h; split at h
 case h_1 | h_2 | h_3 =>
  obtain rfl := hkk (by simp) (by simp)
  simp only [Option.some.injEq, Prod.mk.injEq] at h; obtain ⟨rfl, rfl⟩ := h; simp only [Option.getD_some] at hs; simp only [binOp_add, binOp_sub, binOp_mul, Op.intArith, Sem.run_pure, wrap_rng hs]; exact ⟨_, rfl, .int _ _⟩
 case h_4 =>
  obtain rfl := hkk (by simp) (by simp)
  simp only [Option.some.injEq, Prod.mk.injEq] at h; obtain ⟨rfl, rfl⟩ := h; obtain ⟨h1, h2⟩ := hs; simp only [binOp_quo, Op.intDiv]; rw [if_neg h1]; simp only [Sem.run_pure, wrap_rng h2]; exact ⟨_, rfl, .int _ _⟩
 case h_5 =>
  obtain rfl := hkk (by simp) (by simp)
  simp only [Option.some.injEq, Prod.mk.injEq] at h; obtain ⟨rfl, rfl⟩ := h; simp only [binOp_rem, Op.intDiv]; rw [if_neg (show b ≠ 0 from hs)]
  exact ⟨_, rfl, .int _ _⟩
 case h_6 | h_7 | h_8 | h_9 =>
  obtain rfl := hkk (by simp) (by simp)
  simp only [Option.some.injEq, Prod.mk.injEq] at h; obtain ⟨rfl, rfl⟩ := h; simp only [binOp_and, binOp_or, binOp_xor, binOp_andNot, intBits_and, intBits_or, intBits_xor, intBits_andNot]; exact ⟨_, rfl, .int _ _⟩
 case h_10 | h_11 =>
  simp only [Option.some.injEq, Prod.mk.injEq] at h; obtain ⟨rfl, rfl⟩ := h; have hs : 0 <= b := hs; simp only [binOp, Op.shift]; rw [if_neg (by omega)]
  exact ⟨_, rfl, .int _ _⟩
 case h_12 hadd hsub hmul hquo hrem hand hor hxor handn hshl hshr =>
  obtain rfl := hkk hshl hshr; cases hc : evCmp op a b with
  | none => rw [hc] at h; cases h
  | some r =>
   rw [hc] at h; simp only [Option.map_some, Option.some.injEq, Prod.mk.injEq] at h; obtain ⟨rfl, rfl⟩ := h; have he := cmp_ok hc; have : binOp op ty (.int k a) (.int k b) = Op.intCmp op a b := by
    cases op <;> first | rfl | simp_all [binOp]
   rw [this, he]; exact ⟨_, rfl, .bool _⟩

end
end Go.SS
