/- A calculus of symbolic states: operations that lay or write memory. -/
import Derived.Test.YtjbomnjmcbhadaaSS6
namespace Go.SS
open Go.RowKit

/-- The call in hand: its first world, the elder blocks that it may write, those that it may only read, its temporaries. -/
structure Ctx where
  w0 : World
  X : Nat → Prop
  N0 : Nat → Prop
  nt : Nat
  E0 : Env
  m : Nat

structure Fr (w0 : World) (X : Nat → Prop) (w : World) : Prop where
  os : w.os = w0.os
  tape : w.tape = w0.tape
  output : w.output = w0.output
  size : w0.heap.size ≤ w.heap.size
  block : ∀ b, b < w0.heap.size → ¬ X b → w.heap[b]? = w0.heap[b]?

/-- What was said at the call's start is so still: of what nobody writes to, and of the first m objects. -/
structure Keep (c : Ctx) (E : Env) (w : World) : Prop where
  N : ∀ b, c.E0.N b → E.N b
  L : ∀ k, k < c.m → c.E0.L k → E.L k ∧ E.β k = c.E0.β k ∧ E.κ k = c.E0.κ k ∧ E.z k = c.E0.z k
  same : ∀ b, c.E0.N b → w.heap[b]? = c.w0.heap[b]?

structure Inv (c : Ctx) (E : Env) (H : Heap) (w : World) : Prop where
  heap : HeapOk E w H
  nlt : ∀ b, E.N b → b < w.heap.size
  blt : ∀ k, E.L k → E.β k < w.heap.size
  nnew : ∀ b, E.N b → c.N0 b ∨ c.w0.heap.size ≤ b ∨ c.X b
  bnew : ∀ k ob, getOb H k = some ob → c.w0.heap.size ≤ E.β k ∨ c.X (E.β k)
  fr : Fr c.w0 c.X w
  keep : Keep c E w

/-- A step on: what was laid is laid, what nobody writes to is as it was. -/
structure Step (E : Env) (w : World) (E' : Env) (w' : World) : Prop where
  le : E.le E'
  same : ∀ b, E.N b → w'.heap[b]? = w.heap[b]?

theorem Step.refl (E : Env) (w : World) : Step E w E w := ⟨Env.le.refl E, fun _ _ => rfl⟩
theorem Step.trans {A B C : Env} {u v w : World} (h : Step A u B v) (k : Step B v C w) : Step A u C w :=
  ⟨h.le.trans k.le, fun b hb => (k.same b (h.le.N b hb)).trans (h.same b hb)⟩
theorem Step.rd {E E' : Env} {w w' : World} (h : Step E w E' w') {t : T} {x : Value} (hx : Rd E w t x) : Rd E' w' t x := hx.mono h.le h.same

theorem Keep.step {c : Ctx} {E E' : Env} {w w' : World} (h : Keep c E w) (hs : Step E w E' w') : Keep c E' w' where
  N := fun b hb => hs.le.N b (h.N b hb)
  L := fun k hk hL => by
    obtain ⟨h1, h2, h3, h4⟩ := h.L k hk hL
    exact ⟨hs.le.L k h1, (hs.le.β k h1).trans h2, (hs.le.κ k h1).trans h3, (hs.le.z k h1).trans h4⟩
  same := fun b hb => (hs.same b (h.N b hb)).trans (h.same b hb)

/-- The states that differ in draws alone. -/
theorem Fr.heap {w0 w w' : World} {X : Nat → Prop} (h : Fr w0 X w) (ho : w'.os = w.os) (ht : w'.tape = w.tape) (hp : w'.output = w.output) (hs : w.heap.size ≤ w'.heap.size)
    (hb : ∀ b, b < w0.heap.size → ¬ X b → w'.heap[b]? = w.heap[b]?) : Fr w0 X w' :=
  ⟨ho.trans h.os, ht.trans h.tape, hp.trans h.output, Nat.le_trans h.size hs, fun b h1 h2 => (hb b h1 h2).trans (h.block b h1 h2)⟩

def Env.push (E : Env) (k b κ z : Nat) : Env where
  N := E.N
  L := fun i => E.L i ∨ i = k
  β := fun i => if i = k then b else E.β i
  κ := fun i => if i = k then κ else E.κ i
  z := fun i => if i = k then z else E.z i

theorem Env.push_le {E : Env} {k b κ z : Nat} (h : ¬ E.L k) : E.le (E.push k b κ z) :=
  ⟨fun _ h => h, fun _ h => .inl h, fun i hi => if_neg (by rintro rfl; exact h hi), fun i hi => if_neg (by rintro rfl; exact h hi), fun i hi => if_neg (by rintro rfl; exact h hi)⟩

theorem getOb_append {H : Heap} {x : Option Ob} {k : Nat} : getOb (H ++ [x]) k = if k < H.length then getOb H k else if k = H.length then x else none := by
  unfold getOb
  rw [List.getElem?_append]
  split
  · rfl
  · split
    · rename_i h; subst h; simp
    · rename_i h1 h2
      rw [List.getElem?_eq_none (by simp; omega)]
      rfl

theorem getOb_lt {H : Heap} {k : Nat} {ob : Ob} (h : getOb H k = some ob) : k < H.length := by
  rcases Nat.lt_or_ge k H.length with h' | h'
  · exact h'
  · unfold getOb at h
    rw [List.getElem?_eq_none h'] at h
    cases h

theorem getOb_set {H : Heap} {x : Option Ob} {i k : Nat} (hi : i < H.length) : getOb (H.set i x) k = if k = i then x else getOb H k := by
  unfold getOb
  rw [List.getElem?_set]
  split
  · rename_i h; subst h; simp
  · rename_i h; rw [if_neg (fun e => h e.symm)]

section
variable {c : Ctx} {E : Env} {H : Heap} {w w' : World} {P : Program}

theorem ArrOk.mono {E' : Env} {k k' : Nat} {A : Arr} (h : ArrOk E w k A) (hs : Step E w E' w') (hb : E'.β k' = E.β k) (hκ : E'.κ k' = E.κ k) (hz : E'.z k' = E.z k) (hw : w'.heap[E.β k]? = w.heap[E.β k]?) : ArrOk E' w' k' A := by
  obtain ⟨h1, h2, h3, h3', h4, cs, ty, h5, h6, h7⟩ := h
  refine ⟨hz.trans h1, by rw [hκ]; exact h2, h3, h3', h4, cs, ty, by rw [hb, hw]; exact h5, by rw [hκ]; exact h6, fun i j t hi hj => ?_⟩
  obtain ⟨u, hu, hr⟩ := h7 i j t hi hj
  exact ⟨u, hu, hs.rd hr⟩

theorem ObOk.mono {E' : Env} {k k' : Nat} {ob : Ob} (h : ObOk E w k ob) (hs : Step E w E' w') (hb : E'.β k' = E.β k) (hκ : E'.κ k' = E.κ k) (hz : E'.z k' = E.z k) (hw : w'.heap[E.β k]? = w.heap[E.β k]?) : ObOk E' w' k' ob := by
  cases ob with
  | mp bo get =>
    obtain ⟨es, clock, h1, h2⟩ := h
    exact ⟨es, clock, by rw [hb, hw]; exact h1, h2⟩
  | arr => exact ArrOk.mono h hs hb hκ hz hw
  | bys => exact ArrOk.mono h hs hb hκ hz hw

theorem ArrOk.ob {k : Nat} {ob : Ob} (h : ArrOk E w k ob.toArr) (hi : ob.isArr = true) : ObOk E w k ob := by
  cases ob <;> first | exact h | cases hi

/-- A new block is a new object. -/
theorem Inv.pushO (h : Inv c E H w) (ho : w'.os = w.os) (ht : w'.tape = w.tape) (hp : w'.output = w.output) (hw : ∀ b, b < w.heap.size → w'.heap[b]? = w.heap[b]?)
    (ob : Ob) (b κ : Nat) (hb : w.heap.size ≤ b) (hblt : b < w'.heap.size) (hnew : Step E w (E.push H.length b κ ob.toArr.sz) w' → ObOk (E.push H.length b κ ob.toArr.sz) w' H.length ob) :
    Inv c (E.push H.length b κ ob.toArr.sz) (H ++ [some ob]) w' ∧ Step E w (E.push H.length b κ ob.toArr.sz) w' := by
  have hnL : ¬ E.L H.length := fun hL => by have := h.heap.lt _ hL; omega
  have hle : E.le (E.push H.length b κ ob.toArr.sz) := Env.push_le hnL
  have hstep : Step E w (E.push H.length b κ ob.toArr.sz) w' := ⟨hle, fun b hb => hw b (h.nlt b hb)⟩
  have hsz : w.heap.size ≤ w'.heap.size := by omega
  have hbk : (E.push H.length b κ ob.toArr.sz).β H.length = b := if_pos rfl
  have hold : ∀ k ob', getOb H k = some ob' → (E.push H.length b κ ob.toArr.sz).β k = E.β k ∧ E.β k < w.heap.size ∧ k < H.length := fun k ob' hk =>
    ⟨hle.β k (h.heap.live k ob' hk).1, h.blt k (h.heap.live k ob' hk).1, getOb_lt hk⟩
  refine ⟨⟨⟨fun k ob' hk => ?_, fun k k' o o' hk hk' he => ?_, fun k hk => ?_⟩, fun b hb => by have := h.nlt b hb; omega, fun k hk => ?_, h.nnew, fun k ob' hk => ?_, h.fr.heap ho ht hp hsz (fun b h1 h2 => hw b (by have := h.fr.size; omega)), h.keep.step hstep⟩, hstep⟩
  · rw [getOb_append] at hk
    split at hk
    · obtain ⟨e1, e2, e3⟩ := h.heap.live k ob' hk
      refine ⟨.inl e1, e2.mono hstep (hle.β k e1) (hle.κ k e1) (hle.z k e1) (hw _ (h.blt k e1)), ?_⟩
      rw [hle.β k e1]
      exact e3
    · split at hk
      · rename_i he
        subst he
        simp only [Option.some.injEq] at hk
        subst hk
        refine ⟨.inr rfl, hnew hstep, ?_⟩
        rw [hbk]
        intro hN
        have := h.nlt b hN
        omega
      · cases hk
  · rw [getOb_append] at hk hk'
    split at hk
    · obtain ⟨a1, a2, a3⟩ := hold k o hk
      split at hk'
      · obtain ⟨b1, b2, b3⟩ := hold k' o' hk'
        rw [a1, b1] at he
        exact h.heap.inj k k' o o' hk hk' he
      · split at hk'
        · rename_i hkk
          subst hkk
          rw [a1, hbk] at he
          omega
        · cases hk'
    · split at hk
      · rename_i hkk
        subst hkk
        split at hk'
        · obtain ⟨b1, b2, b3⟩ := hold k' o' hk'
          rw [hbk, b1] at he
          omega
        · split at hk'
          · rename_i hkk; exact hkk.symm
          · cases hk'
      · cases hk
  · rcases hk with hk | hk
    · have := h.heap.lt k hk; simp; omega
    · simp; omega
  · rcases hk with hk | rfl
    · rw [hle.β k hk]; have := h.blt k hk; omega
    · rw [hbk]; exact hblt
  · rw [getOb_append] at hk
    split at hk
    · obtain ⟨a1, _, _⟩ := hold k ob' hk
      rw [a1]
      exact h.bnew k ob' hk
    · split at hk
      · rename_i he
        subst he
        rw [hbk]
        have := h.fr.size
        exact .inl (by omega)
      · cases hk

theorem Inv.push (h : Inv c E H w) (ho : w'.os = w.os) (ht : w'.tape = w.tape) (hp : w'.output = w.output) (hw : ∀ b, b < w.heap.size → w'.heap[b]? = w.heap[b]?)
    (ob : Ob) (b κ : Nat) (cs : Array Value) (ty : TypeId) (hb : w.heap.size ≤ b) (hblk : w'.heap[b]? = some (.cells cs ty (0, 0))) (hcs : cs.size = κ * ob.toArr.sz) (hn : ob.toArr.n ≤ κ)
    (hl : ∀ i, i < ob.toArr.n → (ob.toArr.row i).length = ob.toArr.sz) (h1 : ∀ i t, i < ob.toArr.n → t ∈ ob.toArr.row i → oneT t = true) (hcl : ob.toArr.cl = true → ∀ i t, i < ob.toArr.n → t ∈ ob.toArr.row i → closedT t = true)
    (hr : ∀ i j t, i < ob.toArr.n → (ob.toArr.row i)[j]? = some t → ∃ u, cs[i * ob.toArr.sz + j]? = some u ∧ Rd E w t u) (hia : ob.isArr = true := by rfl) :
    Inv c (E.push H.length b κ ob.toArr.sz) (H ++ [some ob]) w' ∧ Step E w (E.push H.length b κ ob.toArr.sz) w' := by
  have hbk : (E.push H.length b κ ob.toArr.sz).β H.length = b := if_pos rfl
  refine h.pushO ho ht hp hw ob b κ hb (Array.getElem?_eq_some_iff.1 hblk).1 fun hstep => ArrOk.ob ⟨if_pos rfl, by rw [show (E.push H.length b κ ob.toArr.sz).κ H.length = κ from if_pos rfl]; exact hn, hl, h1, hcl, cs, ty, by rw [hbk]; exact hblk,
          by rw [show (E.push H.length b κ ob.toArr.sz).κ H.length = κ from if_pos rfl]; exact hcs, fun i j t hi hj => ?_⟩ hia
  obtain ⟨u, hu, hrd⟩ := hr i j t hi hj
  exact ⟨u, hu, hstep.rd hrd⟩

/-- What a block laid holds. -/
theorem alloc_facts (w : World) (o : Obj) : (w.alloc o).os = w.os ∧ (w.alloc o).tape = w.tape ∧ (w.alloc o).output = w.output ∧ (∀ b, b < w.heap.size → (w.alloc o).heap[b]? = w.heap[b]?) ∧ (w.alloc o).heap[w.heap.size]? = some o :=
  ⟨rfl, rfl, rfl, fun _ hb => heap_alloc_old w o hb, heap_alloc_new w o⟩

theorem makeMap_ok (h : Inv c E H w) {t : TypeId} {y : T} {H' : Heap} (he : evMakeMap P H t = some (y, H')) :
    ∃ r w' E', (Instr.makeMap t none).run P w = .ok r w' ∧ Rd E' w' y r ∧ Inv c E' H' w' ∧ Step E w E' w' := by
  have main : ∀ bo, ∃ r w' E', (Instr.makeMap t none).run P w = .ok r w' ∧ Rd E' w' (.mpr H.length) r ∧ Inv c E' (H ++ [some (.mp bo fun _ => 0)]) w' ∧ Step E w E' w' := by
    intro bo
    obtain ⟨a1, a2, a3, a4, a5⟩ := alloc_facts w (.map #[] 0)
    have := h.pushO (w' := w.alloc (.map #[] 0)) a1 a2 a3 a4 (.mp bo fun _ => 0) w.heap.size 0 (Nat.le_refl _) (by simp) (fun _ => ⟨#[], 0, by rw [show (E.push H.length w.heap.size 0 (Ob.mp bo fun _ => 0).toArr.sz).β H.length = w.heap.size from if_pos rfl]; exact a5, by simp, fun n => rfl⟩)
    refine ⟨_, _, _, rfl, ?_, this.1, this.2⟩
    have hr := Rd.mpr (E := E.push H.length w.heap.size 0 (Ob.mp bo fun _ => 0).toArr.sz) (w := w.alloc (.map #[] 0)) H.length (.inr rfl)
    rw [show (E.push H.length w.heap.size 0 (Ob.mp bo fun _ => 0).toArr.sz).β H.length = w.heap.size from if_pos rfl] at hr
    exact hr
  unfold evMakeMap at he
  split at he
  · simp only [Option.some.injEq, Prod.mk.injEq] at he
    obtain ⟨rfl, rfl⟩ := he
    exact main true
  · simp only [Option.some.injEq, Prod.mk.injEq] at he
    obtain ⟨rfl, rfl⟩ := he
    exact main false
  · cases he

theorem box_ok (h : Inv c E H w) {t : TypeId} {cs : List T} {y : T} {H' : Heap} {side : Option Prop} (he : evBox P H t cs = some (y, H', side)) {vs : Array Value} (hv : RdL E w cs vs) :
    ∃ E', Inv c E' H' (w.alloc (.cells vs t)) ∧ Step E w E' (w.alloc (.cells vs t)) ∧ Rd E' (w.alloc (.cells vs t)) y (.pointer (some ⟨w.heap.size, 0, none⟩)) := by
  unfold evBox at he
  split at he
  · rename_i hone
    simp only [Option.some.injEq, Prod.mk.injEq] at he
    obtain ⟨rfl, rfl, rfl⟩ := he
    obtain ⟨a1, a2, a3, a4, a5⟩ := alloc_facts w (.cells vs t)
    have := h.push a1 a2 a3 a4 (.arr (cs.all closedT) 1000000 cs.length 1 fun _ => cs) w.heap.size 1 vs t (Nat.le_refl _) a5 (by simp only [Ob.toArr, Nat.one_mul]; exact hv.1.symm) (Nat.le_refl 1) (fun _ _ => rfl) (fun i t _ ht => List.all_eq_true.1 hone t ht)
      (fun hcl i t hi ht => List.all_eq_true.1 hcl t ht) (fun i j t hi hj => by
        obtain rfl : i = 0 := by simp only [Ob.toArr] at hi; omega
        have hj' : j < cs.length := (List.getElem?_eq_some_iff.1 hj).1
        have hvj : vs[j]? = some (vs[j]'(by have := hv.1; omega)) := Array.getElem?_eq_getElem _
        exact ⟨_, by rw [Nat.zero_mul, Nat.zero_add]; exact hvj, hv.2 _ _ _ hj hvj⟩)
    refine ⟨_, this.1, this.2, ?_⟩
    have hr := Rd.ref (E := E.push H.length w.heap.size 1 cs.length) (w := w.alloc (.cells vs t)) H.length 0 0 (.inr rfl)
    have hb : (E.push H.length w.heap.size 1 cs.length).β H.length = w.heap.size := if_pos rfl
    rw [hb, Nat.zero_mul, Nat.zero_add] at hr
    exact hr
  · cases he

end
end Go.SS
