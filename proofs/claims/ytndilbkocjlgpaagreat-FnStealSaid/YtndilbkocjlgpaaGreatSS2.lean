/- A calculus of symbolic states: what it means that a tree of data is held by a value in a world; operations that leave memory alone. -/
import Derived.Test.YtndilbkocjlgpaaGreatSS1
namespace Go.SS
open Go.RowKit

structure Env where
 N : Nat -> Prop
 L : Nat -> Prop
 β : Nat -> Nat
 κ : Nat -> Nat
 z : Nat -> Nat
 L2 : Nat -> Nat -> Prop
 b2 : Nat -> Nat -> Nat -> Nat -> Nat
 c2 : Nat -> Nat -> Nat -> Nat -> Nat

inductive Rd (E : Env) (w : World) : T -> Value -> Prop
 | int (k : IntKind) (n : Int) : Rd E w (.int k n) (.int k n)
 | bool (b : Bool) : Rd E w (.bool b) (.bool b)
 | str (l : List UInt8) : Rd E w (.str l) (.string ⟨l.toArray⟩)
 | v (x : Value) : Rd E w (.v x) x
 | slNil (sz : Nat) (row : Nat -> List T) : Rd E w (.sl sz 0 row) (.slice none 0 0)
 | sl (sz n : Nat) (row : Nat -> List T) (b off cap : Nat) (u : Nat -> Nat -> Value) (hN : E.N b) (hc : n <= cap)
   (hl : ∀ i, i < n -> (row i).length = sz) (h1 : ∀ i t, i < n -> t ∈ row i -> oneT t = true /\ closedT t = true)
   (hr : ∀ i j t, i < n -> (row i)[j]? = some t -> w.cell? ⟨b, off + i * sz + j, none⟩ = some (u i j))
   (ht : ∀ i j t, i < n -> (row i)[j]? = some t -> Rd E w t (u i j)) : Rd E w (.sl sz n row) (.slice (some ⟨b, off, none⟩) n cap)
 | bysNil : Rd E w (.bys []) (.slice none 0 0)
 | slEmp (sz : Nat) (row : Nat -> List T) (a : Addr) : Rd E w (.sl sz 0 row) (.slice (some a) 0 0)
 | bysEmp (a : Addr) : Rd E w (.bys []) (.slice (some a) 0 0)
 | bys (l : List UInt8) (b off cap : Nat) (hN : E.N b) (hc : l.length <= cap)
   (hr : ∀ i x, l[i]? = some x -> w.cell? ⟨b, off + i, none⟩ = some (.int .u8 (x.toNat : Int))) : Rd E w (.bys l) (.slice (some ⟨b, off, none⟩) l.length cap)
 | bref (cells : List T) (b off : Nat) (u : Nat -> Value) (hN : E.N b) (h1 : ∀ t, t ∈ cells -> closedT t = true)
   (hr : ∀ j t, cells[j]? = some t -> w.cell? ⟨b, off + j, none⟩ = some (u j))
   (ht : ∀ j t, cells[j]? = some t -> Rd E w t (u j)) : Rd E w (.bref cells) (.pointer (some ⟨b, off, none⟩))
 | ref (k i j : Nat) (hL : E.L k) : Rd E w (.ref k i j) (.pointer (some ⟨E.β k, i * E.z k + j, none⟩))
 | osl (k off n o : Nat) (a : Option Addr) (hL : E.L k) (hn : off + n <= E.κ k) (ho : off < E.κ k ∨ off = 0 -> o = off * E.z k) (ha : E.κ k ≠ 0 -> a = some ⟨E.β k, o, none⟩) : Rd E w (.osl k off n) (.slice a n (E.κ k - off))
 | posl (k v i j n : Nat) (a : Option Addr) (hL : E.L2 k v) (hn : n <= E.c2 k v i j) (ha : E.c2 k v i j ≠ 0 -> a = some ⟨E.b2 k v i j, 0, none⟩) : Rd E w (.posl k v i j n) (.slice a n (E.c2 k v i j))
 | pref (k v i j z a b : Nat) (hL : E.L2 k v) : Rd E w (.pref k v i j z a b) (.pointer (some ⟨E.b2 k v i j, a * z + b, none⟩))
 | agg (cs : List T) (vs : Array Value) (hl : cs.length = vs.size) (ht : ∀ (i : Nat) (t : T) (x : Value), cs[i]? = some t -> vs[i]? = some x -> Rd E w t x) : Rd E w (.agg cs) (.agg vs)
 | tup (cs : List T) (vs : Array Value) (hl : cs.length = vs.size) (ht : ∀ (i : Nat) (t : T) (x : Value), cs[i]? = some t -> vs[i]? = some x -> Rd E w t x) : Rd E w (.tup cs) (.tuple vs)
 | fn (f : Fn) (cs : List T) (vs : Array Value) (hl : cs.length = vs.size) (ht : ∀ (i : Nat) (t : T) (x : Value), cs[i]? = some t -> vs[i]? = some x -> Rd E w t x) : Rd E w (.fn f cs) (.func f #[] vs)
 | mpr (k : Nat) (hL : E.L k) : Rd E w (.mpr k) (.map (some (E.β k)))
 | und (x : Value) : Rd E w .und x

structure Env.le (E E' : Env) : Prop where
 N : ∀ b, E.N b -> E'.N b
 L : ∀ k, E.L k -> E'.L k
 β : ∀ k, E.L k -> E'.β k = E.β k
 κ : ∀ k, E.L k -> E'.κ k = E.κ k
 z : ∀ k, E.L k -> E'.z k = E.z k
 L2 : ∀ k v, E.L2 k v -> E'.L2 k v
 b2 : ∀ k v i j, E.L2 k v -> E'.b2 k v i j = E.b2 k v i j
 c2 : ∀ k v i j, E.L2 k v -> E'.c2 k v i j = E.c2 k v i j

theorem Env.le.refl (E : Env) : E.le E := ⟨fun _ h => h, fun _ h => h, fun _ _ => rfl, fun _ _ => rfl, fun _ _ => rfl, fun _ _ h => h, fun _ _ _ _ _ => rfl, fun _ _ _ _ _ => rfl⟩
theorem Env.le.trans {A B C : Env} (h : A.le B) (k : B.le C) : A.le C :=
 ⟨fun b x => k.N b (h.N b x), fun b x => k.L b (h.L b x), fun b x => (k.β b (h.L b x)).trans (h.β b x), fun b x => (k.κ b (h.L b x)).trans (h.κ b x), fun b x => (k.z b (h.L b x)).trans (h.z b x),
  fun b v x => k.L2 b v (h.L2 b v x), fun b v i j x => (k.b2 b v i j (h.L2 b v x)).trans (h.b2 b v i j x), fun b v i j x => (k.c2 b v i j (h.L2 b v x)).trans (h.c2 b v i j x)⟩

section
variable {E E' : Env} {w w' : World} {P : Program}

theorem Rd.mono (hE : E.le E') (hw : ∀ b, E.N b -> w'.heap[b]? = w.heap[b]?) {t : T} {x : Value} (h : Rd E w t x) : Rd E' w' t x := by
 induction h with
 | int k n => exact .int k n
 | bool b => exact .bool b
 | str l => exact .str l
 | v x => exact .v x
 | slNil sz row => exact .slNil sz row
 | sl sz n row b off cap u hN hc hl h1 hr _ ih =>
  exact .sl sz n row b off cap u (hE.N b hN) hc hl h1 (fun i j t hi hj => by rw [World.cell?_of_block (w := w) (hw b hN)]; exact hr i j t hi hj) ih
 | bysNil => exact .bysNil
 | slEmp sz row a => exact .slEmp sz row a
 | bysEmp a => exact .bysEmp a
 | bys l b off cap hN hc hr => exact .bys l b off cap (hE.N b hN) hc fun i x hx => by rw [World.cell?_of_block (w := w) (hw b hN)]; exact hr i x hx
 | bref cells b off u hN h1 hr _ ih => exact .bref cells b off u (hE.N b hN) h1 (fun j t hj => by rw [World.cell?_of_block (w := w) (hw b hN)]; exact hr j t hj) ih
 | ref k i j hL => rw [← hE.β k hL, ← hE.z k hL]; exact .ref k i j (hE.L k hL)
 | osl k off n o a hL hn ho ha => rw [← hE.κ k hL]; exact .osl k off n o a (hE.L k hL) (by rw [hE.κ k hL]; exact hn) (by rw [hE.κ k hL, hE.z k hL]; exact ho) (by rw [hE.κ k hL, hE.β k hL]; exact ha)
 | posl k v i j n a hL hn ha => rw [← hE.c2 k v i j hL]; exact .posl k v i j n a (hE.L2 k v hL) (by rw [hE.c2 k v i j hL]; exact hn) (by rw [hE.c2 k v i j hL, hE.b2 k v i j hL]; exact ha)
 | pref k v i j z a b hL => rw [← hE.b2 k v i j hL]; exact .pref k v i j z a b (hE.L2 k v hL)
 | agg cs vs hl _ ih => exact .agg cs vs hl ih
 | tup cs vs hl _ ih => exact .tup cs vs hl ih
 | fn f cs vs hl _ ih => exact .fn f cs vs hl ih
 | mpr k hL => rw [← hE.β k hL]; exact .mpr k (hE.L k hL)
 | und x => exact .und x

def ArrOk (E : Env) (w : World) (k : Nat) (A : Arr) : Prop :=
 E.z k = A.sz /\ A.n <= E.κ k /\ (∀ i, i < A.n -> (A.row i).length = A.sz) /\ (∀ i t, i < A.n -> t ∈ A.row i -> oneT t = true) /\ (A.cl = true -> ∀ i t, i < A.n -> t ∈ A.row i -> closedT t = true) /\
   ∃ cs ty, (E.κ k ≠ 0 -> w.heap[E.β k]? = some (.cells cs ty (0, 0))) /\ cs.size = E.κ k * A.sz /\
    ∀ i j t, i < A.n -> (A.row i)[j]? = some t -> ∃ u, cs[i * A.sz + j]? = some u /\ Rd E w t u

def mvalue (bo : Bool) (n : Int) : Value := match bo with
 | true => .bool (decide (n ≠ 0))
 | false => .int .i64 n

def lk (n : Int) : List MapEntry -> Option Value
 | [] => none
 | e :: r => match e.key with
  | .int .i64 m => if n = m then some e.val else lk n r
  | _ => lk n r

def MapI (bo : Bool) (get : Int -> Int) (es : List MapEntry) : Prop :=
 (∀ e ∈ es, ∃ m, e.key = .int .i64 m) /\ ∀ n, match lk n es with
  | some v => v = mvalue bo (get n)
  | none => get n = 0

def MapOk (E : Env) (w : World) (k : Nat) (bo : Bool) (get : Int -> Int) : Prop :=
 E.κ k ≠ 0 /\ ∃ es clock, w.heap[E.β k]? = some (.map es clock) /\ MapI bo get es.toList

def pairV (a b : Int) : Value := .agg #[.int .i64 a, .int .i64 b]

def MapOk2 (E : Env) (w : World) (k : Nat) (get : Int -> Int -> Bool) : Prop :=
 E.κ k ≠ 0 /\ ∃ es clock, w.heap[E.β k]? = some (.map es clock) /\ (∀ e ∈ es.toList, ∃ a b, Rng .i64 a /\ Rng .i64 b /\ e.key = pairV a b /\ e.val = .bool (get a b)) /\
  (∀ a b, get a b = true -> ∃ e ∈ es.toList, e.key = pairV a b) /\ (es.toList.map (·.key)).Nodup

def Env.sub (E : Env) (k v i j z : Nat) : Env := { E with β := fun _ => E.b2 k v i j, κ := fun _ => E.c2 k v i j, z := fun _ => z }

def famT (t : T) : Bool := isOwn t || closedOne t

structure FamOk (E : Env) (w : World) (k v : Nat) (ty : TypeId) (sz n : Nat) (row : Nat -> List T) : Prop where
 l2 : E.L2 k v
 arr : ArrOk E w k ⟨false, ty, sz, n, viewR k v row⟩
 fam : ∀ i t, i < n -> t ∈ row i -> famT t = true
 own : ∀ i j oty osz on orow, i < n -> (row i)[j]? = some (.own oty osz on orow) -> ArrOk (E.sub k v i j osz) w 0 ⟨true, oty, osz, on, orow⟩ /\ (E.c2 k v i j ≠ 0 -> E.κ k ≠ 0 -> E.b2 k v i j ≠ E.β k)
 inj : ∀ i j i' j' oty osz on orow oty' osz' on' orow', i < n -> i' < n -> (row i)[j]? = some (.own oty osz on orow) -> (row i')[j']? = some (.own oty' osz' on' orow') ->
  E.c2 k v i j ≠ 0 -> E.c2 k v i' j' ≠ 0 -> E.b2 k v i j = E.b2 k v i' j' -> i = i' /\ j = j'

def ObOk (E : Env) (w : World) (k : Nat) (ob : Ob) : Prop :=
 match ob with
 | .mp bo get => MapOk E w k bo get
 | .mp2 get => MapOk2 E w k get
 | .fam v ty sz n row => FamOk E w k v ty sz n row
 | ob => ArrOk E w k ob.toArr

def OwnB (E : Env) (k : Nat) (ob : Ob) (b : Nat) : Prop :=
 ∃ v ty sz n row i j oty osz on orow, ob = .fam v ty sz n row /\ i < n /\ (row i)[j]? = some (.own oty osz on orow) /\ E.c2 k v i j ≠ 0 /\ b = E.b2 k v i j

def Blk (E : Env) (k : Nat) (ob : Ob) (b : Nat) : Prop := (E.κ k ≠ 0 /\ b = E.β k) ∨ OwnB E k ob b

structure HeapOk (E : Env) (w : World) (H : Heap) : Prop where
 live : ∀ k ob, getOb H k = some ob -> E.L k /\ ObOk E w k ob /\ ∀ b, Blk E k ob b -> ¬ E.N b
 inj : ∀ k k' ob ob' b, getOb H k = some ob -> getOb H k' = some ob' -> Blk E k ob b -> Blk E k' ob' b -> k = k'
 lt : ∀ k, E.L k -> k < H.length
 l2 : ∀ k v, E.L2 k v -> E.L k
 cur : ∀ k ob v, getOb H k = some ob -> E.L2 k v -> ∃ v0 ty sz n row, ob = .fam v0 ty sz n row /\ v <= v0

theorem OwnB.not {E : Env} {k : Nat} {ob : Ob} {b : Nat} (h : OwnB E k ob b) (hn : ∀ v ty sz n row, ob ≠ .fam v ty sz n row) : False := by
 obtain ⟨v, ty, sz, n, row, _, _, _, _, _, _, he, _⟩ := h; exact hn v ty sz n row he

theorem Blk.arr {E : Env} {k : Nat} {ob : Ob} {b : Nat} (h : Blk E k ob b) (hi : ob.isArr = true) : E.κ k ≠ 0 /\ b = E.β k := by
 rcases h with h | h
 ·exact h
 ·exact (h.not (by rintro v ty sz n row rfl; cases hi)).elim

theorem getElem?_lt {α : Type} {xs : Array α} {i : Nat} {x : α} (h : xs[i]? = some x) : i < xs.size := (Array.getElem?_eq_some_iff.1 h).1

theorem ObOk.blt {E : Env} {w : World} {k : Nat} {ob : Ob} {b : Nat} (h : ObOk E w k ob) (hb : Blk E k ob b) : b < w.heap.size := by
 rcases hb with ⟨hκ, rfl⟩ | ⟨v, ty, sz, n, row, i, j, oty, osz, on, orow, rfl, hi, hj, hc, rfl⟩
 ·cases ob with
  | mp bo get => obtain ⟨_, es, clock, h1, _⟩ := h; exact getElem?_lt h1
  | mp2 get => obtain ⟨_, es, clock, h1, _⟩ := h; exact getElem?_lt h1
  | fam v ty sz n row => obtain ⟨_, _, _, _, _, cs, ty, h1, _⟩ := h.arr; exact getElem?_lt (h1 hκ)
  | arr cl ty sz n row => obtain ⟨_, _, _, _, _, cs, ty, h1, _⟩ := h; exact getElem?_lt (h1 hκ)
  | bys ty l => obtain ⟨_, _, _, _, _, cs, ty, h1, _⟩ := h; exact getElem?_lt (h1 hκ)
 ·obtain ⟨⟨_, _, _, _, _, cs, ty, h1, _⟩, _⟩ := h.own i j oty osz on orow hi hj; exact getElem?_lt (h1 hc)

theorem HeapOk.blt {E : Env} {w : World} {H : Heap} (h : HeapOk E w H) {k : Nat} {ob : Ob} {b : Nat} (hk : getOb H k = some ob) (hb : Blk E k ob b) : b < w.heap.size := (h.live k ob hk).2.1.blt hb

theorem rd_const (c : Value) : Rd E w (ofConst c) c := by
 cases c <;> first | exact .int _ _ | exact .bool _ | exact .v _ | skip
 case string s => exact .str s.data.toList

def Sl (E : Env) (w : World) (a : Act) (s : Slots) (i : Nat) : Prop := Rd E w (slk s i) (a.tmps.getD i undef)

def OpOk (E : Env) (w : World) (a : Act) (s : Slots) (x : Operand) : Prop := Rd E w (opT s x) (a.eval x)

theorem opOk_of {a : Act} {s : Slots} {x : Operand} (h : ∀ t, x = .tmp t -> Sl E w a s t) : OpOk E w a s x := by
 cases x with
 | tmp t => exact h t rfl
 | const c => exact rd_const c
 | func f => exact .v _
 | global g => exact .v _

theorem rd_bool {b : Bool} {x : Value} (h : Rd E w (.bool b) x) : x = .bool b := by cases h; rfl
theorem rd_int {k : IntKind} {n : Int} {x : Value} (h : Rd E w (.int k n) x) : x = .int k n := by cases h; rfl
theorem rd_str {l : List UInt8} {x : Value} (h : Rd E w (.str l) x) : x = .string ⟨l.toArray⟩ := by cases h; rfl
theorem rd_v {y x : Value} (h : Rd E w (.v y) x) : x = y := by cases h; rfl

theorem pick_ok {a : Act} {s : Slots} {c x y : Operand} {t : T} (h : evPick s c x y = some t) (hc : OpOk E w a s c)
  (hx : ∀ b, opT s c = .bool b -> b = true -> OpOk E w a s x) (hy : ∀ b, opT s c = .bool b -> b = false -> OpOk E w a s y) :
  ∃ b, a.eval c = .bool b /\ Rd E w t (if b then a.eval x else a.eval y) := by
 unfold evPick at h; unfold OpOk at hc; split at h
 ·rename_i cb hcb; rw [hcb] at hc; refine ⟨cb, rd_bool hc, ?_⟩
  split at h
  ·split at h
   ·rename_i yb hyb; simp only [Option.some.injEq] at h; subst h; cases cb with
    | true => simp only [Bool.true_or, if_true]; exact .bool true
    | false =>
     have := hy false hcb rfl; unfold OpOk at this; rw [hyb] at this; simp only [Bool.false_or, Bool.false_eq_true, if_false]; exact this
   ·cases h
  ·split at h
   ·rename_i xb hxb; simp only [Option.some.injEq] at h; subst h; cases cb with
    | false => simp only [Bool.false_and, Bool.false_eq_true, if_false]; exact .bool false
    | true =>
     have := hx true hcb rfl; unfold OpOk at this; rw [hxb] at this; simp only [Bool.true_and, if_true]; exact this
   ·cases h
  ·cases h
 ·cases h

end
end Go.SS
