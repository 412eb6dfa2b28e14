/- A calculus of symbolic states: the operations that leave memory alone do what is said of them, 2. -/
import Derived.Test.YtndilbkocjlgpaaGreatSS3
namespace Go.SS
open Go.RowKit
section
variable {E : Env} {w : World} {P : Program}

theorem str_toList (l : List UInt8) : (ByteArray.mk l.toArray).toList = l := by rw [ByteArray.toList_eq]

theorem str_ok {op : BinOp} {a b : List UInt8} {ty : TypeId} {t : T} {side : Option Prop} (h : evStr op a b = some (t, side)) (hs : side.getD True) :
  ∃ v, (binOp op ty (.string ⟨a.toArray⟩) (.string ⟨b.toArray⟩)).run P w = .ok v w /\ Rd E w t v := by
 unfold evStr at h; split at h <;> simp only [Option.some.injEq, Prod.mk.injEq, reduceCtorEq] at h <;> obtain ⟨rfl, rfl⟩ := h
 ·have hs : a.length + b.length < 9223372036854775808 := hs; have he : (⟨a.toArray⟩ ++ ⟨b.toArray⟩ : ByteArray) = ⟨(a ++ b).toArray⟩ := by
   apply ByteArray.ext
   simp
  simp only [binOp, Op.stringOp]; rw [if_neg (by simp only [ByteArray.size, List.size_toArray, IntKind.max_i64]; omega), he]
  exact ⟨_, rfl, .str _⟩
 all_goals
  simp only [binOp, Op.stringOp, str_toList]; exact ⟨_, rfl, .bool _⟩

theorem eqFs_ok {d : Nat} {xs ys : List T} {us vs : Array Value} {rec : TypeId -> T -> T -> Option Bool}
  (hrec : ∀ t x y r u v, rec t x y = some r -> Rd E w x u -> Rd E w y v -> (Op.equalIn d t u v).run P w = .ok r w)
  (hxl : xs.length = us.size) (hyl : ys.length = vs.size) (hx : ∀ (i : Nat) (t : T) (x : Value), xs[i]? = some t -> us[i]? = some x -> Rd E w t x)
  (hy : ∀ (i : Nat) (t : T) (x : Value), ys[i]? = some t -> vs[i]? = some x -> Rd E w t x) :
  ∀ (fs : List Field) (r : Bool), eqFs P rec xs ys fs = some r -> (Op.eqFields d us vs fs).run P w = .ok r w := by
 intro fs; induction fs with
 | nil =>
  intro r h; simp only [eqFs, Option.some.injEq] at h; subst h; rfl
 | cons f fs ih =>
  intro r h; simp only [eqFs] at h; split at h
  ·rename_i a b hd ha hb; split at h
   ·rename_i p q hp hq; simp only [Option.some.injEq] at h; subst h; have hne : f.name ≠ "_" := of_decide_eq_false hd; obtain ⟨u, hu, hru⟩ := part_ok (P := P) ha hxl hx; obtain ⟨v, hv, hrv⟩ := part_ok (P := P) hb hyl hy; have he := hrec _ _ _ _ _ _ hp hru hrv; simp only [Op.eqFields]; rw [if_pos hne]; simp only [Sem.run_bind, hu, hv, he, Result.andThen_ok]; cases p with
    | true => simpa using ih q hq
    | false => simp
   ·cases h
  ·cases h

theorem eqT_ok : ∀ (d D : Nat) (t : TypeId) (x y : T) (r : Bool) (u v : Value), d <= D -> eqT P d t x y = some r -> Rd E w x u -> Rd E w y v -> (Op.equalIn D t u v).run P w = .ok r w := by
 intro d; induction d with
 | zero => intro D t x y r u v _ h; simp [eqT] at h
 | succ d ih =>
  intro D t x y r u v hD h hx hy; obtain ⟨D, rfl⟩ : ∃ D', D = D' + 1 := ⟨D - 1, by omega⟩
  unfold eqT at h; split at h
  ·rename_i k0 k a k' b hu; split at h
   ·rename_i hk; obtain rfl := of_decide_eq_true hk; simp only [Option.some.injEq] at h; subst h; rw [rd_int hx, rd_int hy]; exact run_equalIn_int w D t k k0 a b hu
   ·cases h
  ·rename_i a b hu; simp only [Option.some.injEq] at h; subst h; rw [rd_bool hx, rd_bool hy]; exact run_equalIn_bool' w D t a b hu
  ·rename_i a b hu; simp only [Option.some.injEq] at h; subst h; rw [rd_str hx, rd_str hy]; have := run_equalIn_string (P := P) w D t ⟨a.toArray⟩ ⟨b.toArray⟩ hu
   rwa [str_toList, str_toList] at this
  ·rename_i fs xs ys hu; split at h
   ·rename_i hst; cases hx with
    | agg _ us hxl hxt =>
     cases hy with
     | agg _ vs hyl hyt =>
      have hf : P.fieldsOf t = fs := by unfold Program.fieldsOf; rw [hu]
      rw [run_equalIn_struct w D t us vs (by rw [hf]; exact hu) hst, hf]
      exact eqFs_ok (fun t x y r u v h1 h2 h3 => ih D t x y r u v (by omega) h1 h2 h3) hxl hyl hxt hyt _ _ h
   ·cases h
  ·cases h

theorem ptr_ok {op : BinOp} {ty : TypeId} {ox oy : Operand} {b : Bool} {t : T} {side : Option Prop} {u v : Value} {a : Option Addr} (h : evPtr P op ty b = some (t, side)) (hb : a.isNone = b) (hu : u = .pointer a) (hv : v = .pointer none) :
  ∃ r, (do eqGuard op ty ox oy u v; binOp op ty u v : Sem Value).run P w = .ok r w /\ Rd E w t r := by
 subst hu; subst hv; unfold evPtr at h; split at h
 ·rename_i e hu; split at h
  ·rename_i he; have hu : P.underlying ty = some (.pointer (P.pointee ty)) := by rw [hu, of_decide_eq_true he]
   simp only [Option.some.injEq, Prod.mk.injEq] at h; obtain ⟨rfl, rfl⟩ := h; simp only [eqGuard_at_pointer, Sem.run_bind, Sem.run_pure, Result.andThen_ok, run_eql_pointer_nil w ty a hu, hb]; exact ⟨_, rfl, .bool _⟩
  ·cases h
 ·rename_i e hu; split at h
  ·rename_i he; have hu : P.underlying ty = some (.pointer (P.pointee ty)) := by rw [hu, of_decide_eq_true he]
   simp only [Option.some.injEq, Prod.mk.injEq] at h; obtain ⟨rfl, rfl⟩ := h; simp only [eqGuard_at_pointer, Sem.run_bind, Sem.run_pure, Result.andThen_ok, run_neq_pointer_nil w ty a hu, hb]; exact ⟨_, rfl, .bool _⟩
  ·cases h
 ·cases h

theorem bin_ok {op : BinOp} {ty : TypeId} {x y : T} {ox oy : Operand} {t : T} {side : Option Prop} {u v : Value} (h : evBin P op ty x y = some (t, side)) (hs : side.getD True)
  (hx : Rd E w x u) (hy : Rd E w y v) :
  ∃ r, (do eqGuard op ty ox oy u v; binOp op ty u v : Sem Value).run P w = .ok r w /\ Rd E w t r := by
 unfold evBin at h; split at h
 ·rename_i k a k' b; split at h
  ·rename_i hk; rw [rd_int hx, rd_int hy]; simp only [eqGuard_at_int, Sem.run_bind, Sem.run_pure, Result.andThen_ok]; exact int_ok h hk hs
  ·cases h
 ·rename_i a b; rw [rd_str hx, rd_str hy]; simp only [eqGuard_at_string, Sem.run_bind, Sem.run_pure, Result.andThen_ok]; exact str_ok h hs
 ·rename_i a b; rw [rd_bool hx, rd_bool hy]; simp only [eqGuard_at_bool, Sem.run_bind, Sem.run_pure, Result.andThen_ok]; split at h
  ·rename_i hu; simp only [Option.some.injEq, Prod.mk.injEq] at h; obtain ⟨rfl, rfl⟩ := h; refine ⟨.bool (a == b), ?_, .bool _⟩
   simp only [binOp]; simp [Op.equal, Op.maxDepth, run_equalIn_bool' w 9999 ty a b hu]
  ·rename_i hu; simp only [Option.some.injEq, Prod.mk.injEq] at h; obtain ⟨rfl, rfl⟩ := h; refine ⟨.bool (!(a == b)), ?_, .bool _⟩
   simp only [binOp]; simp [Op.equal, Op.maxDepth, run_equalIn_bool' w 9999 ty a b hu]
  ·cases h
 ·rename_i xs ys; unfold evEq at h; have hgu : ∃ us, u = .agg us := by cases hx with | agg _ us _ _ => exact ⟨us, rfl⟩
  have hgv : ∃ us, v = .agg us := by cases hy with | agg _ us _ _ => exact ⟨us, rfl⟩
  obtain ⟨us, rfl⟩ := hgu; obtain ⟨vs, rfl⟩ := hgv; split at h
  ·rename_i hg; cases he : eqT P 20 ty (.agg xs) (.agg ys) with
   | none => rw [he] at h; cases h
   | some r =>
    rw [he] at h; simp only [Option.map_some, Option.some.injEq, Prod.mk.injEq] at h; obtain ⟨rfl, rfl⟩ := h; have hr := eqT_ok (P := P) (E := E) (w := w) 20 10000 ty _ _ r _ _ (by omega) he hx hy
    simp only [Sem.run_bind, run_eqGuard_agg w _ ty ox oy us vs hg, Result.andThen_ok, run_eql_struct, hr]; exact ⟨_, rfl, .bool _⟩
  ·rename_i hg; cases he : eqT P 20 ty (.agg xs) (.agg ys) with
   | none => rw [he] at h; cases h
   | some r =>
    rw [he] at h; simp only [Option.map_some, Option.some.injEq, Prod.mk.injEq] at h; obtain ⟨rfl, rfl⟩ := h; have hr := eqT_ok (P := P) (E := E) (w := w) 20 10000 ty _ _ r _ _ (by omega) he hx hy
    simp only [Sem.run_bind, run_eqGuard_agg w _ ty ox oy us vs hg, Result.andThen_ok, run_neq_struct, hr]; exact ⟨_, rfl, .bool _⟩
  ·cases h
 ·cases hx with
  | ref k i j hL => exact ptr_ok h (a := some _) rfl rfl (rd_v hy)
 ·cases hx with
  | pref k v i j z a b hL => exact ptr_ok h (a := some _) rfl rfl (rd_v hy)
 ·exact ptr_ok h (a := none) rfl (rd_v hx) (rd_v hy)
 ·rw [rd_v hx, rd_v hy]; split at h
  ·rename_i hu; simp only [Option.some.injEq, Prod.mk.injEq] at h; obtain ⟨rfl, rfl⟩ := h; simp only [eqGuard_at_slice, binOp]; simp [run_equal_slice_nil w ty _ none 0 0 hu]; exact .bool _
  ·rename_i hu; simp only [Option.some.injEq, Prod.mk.injEq] at h; obtain ⟨rfl, rfl⟩ := h; simp only [eqGuard_at_slice, binOp]; simp [run_equal_slice_nil w ty _ none 0 0 hu]; exact .bool _
  ·cases h
 ·cases h
end
end Go.SS
