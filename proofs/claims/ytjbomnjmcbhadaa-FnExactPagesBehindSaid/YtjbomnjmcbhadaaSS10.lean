/- A calculus of symbolic states: append, and the bytes of a string. -/
import Derived.Test.YtjbomnjmcbhadaaSS9
namespace Go.SS
open Go.RowKit
section
variable {c : Ctx} {E : Env} {H : Heap} {w w' : World} {P : Program}

/-- What append does: the new slice lies at the head of its block, which holds what was there and what came. -/
structure Appended (w : World) (sz n m : Nat) (old : Nat → Option Value) (news : List Value) (g : Option Nat) (r : Value) (w' : World) : Prop where
  os : w'.os = w.os
  tape : w'.tape = w.tape
  output : w'.output = w.output
  size : w.heap.size ≤ w'.heap.size
  other : ∀ b, b < w.heap.size → some b ≠ g → w'.heap[b]? = w.heap[b]?
  block : ∃ b cap cs tyb, r = .slice (some ⟨b, 0, none⟩) (n + m) cap ∧ n + m ≤ cap ∧ w'.heap[b]? = some (.cells cs tyb (0, 0)) ∧ cs.size = cap * sz ∧ ((w.heap.size ≤ b ∧ ∀ a, a < w.heap.size → w'.heap[a]? = w.heap[a]?) ∨ g = some b) ∧
    (∀ j, j < n * sz → cs[j]? = old j) ∧ ∀ j, j < m * sz → cs[n * sz + j]? = news[j]?

theorem append_core {t tx ty e : TypeId} {i : TypeInfo} {z : Value} (ht : P.underlying t = some (.slice e)) (hi : P.info? e = some i) (hz : i.zero = some z) (hzs : z.cells.size = i.size)
    {x : Value} {m : Nat} {news : List Value} (hs : Go.Src P i.size tx x m news w) (n : Nat) (hb : AppB n m i.bytes)
    (d : Value) (old : Nat → Option Value) (g : Option Nat)
    (hd : (d = .slice none 0 0 ∧ n = 0 ∧ 0 < m ∧ g = none) ∨ ∃ b cap cur tyb, d = .slice (some ⟨b, 0, none⟩) n cap ∧ g = some b ∧ w.heap[b]? = some (.cells cur tyb (0, 0)) ∧ n ≤ cap ∧ cur.size = cap * i.size ∧ ∀ j, j < n * i.size → cur[j]? = old j) :
    ∃ r w', (Builtin.append_ #[t, tx] ty #[d, x]).run P w = .ok r w' ∧ Appended w i.size n m old news g r w' := by
  obtain ⟨hb1, hb2⟩ := hb
  have grow : ∀ (base : Option Addr) (cap : Nat) (olds : List Value), olds.length = n * i.size → (Builtin.firstCells i.size n (.slice base n cap)).run P w.drew = .ok olds.toArray w.drew → cap < n + m →
      (∀ j, j < n * i.size → olds[j]? = old j) → d = .slice base n cap →
      ∃ r w', (Builtin.append_ #[t, tx] ty #[d, x]).run P w = .ok r w' ∧ Appended w i.size n m old news g r w' := by
    intro base cap olds hol hold hcap holds hdd
    have hr := run_append_grow_src (P := P) w t tx ty e i z ht hi hz base n cap olds hold x m news hs hcap (by omega) (growslice_fits hcap hb1)
    rw [hdd]
    have hge := grownCap_ge w (n + m) cap e
    refine ⟨_, _, hr, rfl, rfl, rfl, by simp, fun b hb _ => heap_alloc_old w.drew _ hb, _, _, _, _, rfl, hge, heap_alloc_new w.drew _, ?_, .inl ⟨Nat.le_refl _, fun _ ha => heap_alloc_old w.drew _ ha⟩, fun j hj => ?_, fun j hj => ?_⟩
    · simp only [Array.size_append, List.size_toArray, List.length_append, size_zeroCells, hzs, hol, hs.newsLen, ← Nat.add_mul]
      congr 1
      omega
    · rw [Array.getElem?_append_left (by simp [hol]; omega)]
      rw [List.getElem?_toArray, List.getElem?_append_left (by omega)]
      exact holds j hj
    · have hnl := hs.newsLen
      rw [Array.getElem?_append_left (by simp [hol, hnl]; omega)]
      rw [List.getElem?_toArray, List.getElem?_append_right (by omega), hol]
      congr 1
      omega
  rcases hd with ⟨hdd, hn, hm, hg⟩ | ⟨b, cap, cur, tyb, hdd, hg, hblk, hnc, hcs, hold⟩
  · subst hn
    exact grow none 0 [] (by simp) (run_firstCells_none w.drew i.size 0 0 0) (by omega) (fun j hj => by omega) hdd
  · by_cases hroom : n + m ≤ cap
    · have hcell : ∀ j, w.cell? ⟨b, j, none⟩ = cur[j]? := fun j => cell_of_heap hblk
      have hfit : n * i.size + news.length ≤ cur.size := by rw [hs.newsLen, hcs, ← Nat.add_mul]; exact Nat.mul_le_mul_right _ hroom
      obtain ⟨w', hst, ho, htp, hop, hsize, hoth, cs', hb', hcs', hout, hin⟩ := setCells_same P w b (n * i.size) tyb cur news hblk hfit hs.one
      rw [hdd]
      refine ⟨.slice (some ⟨b, 0, none⟩) (n + m) cap, w', ?_, ho, htp, hop, by omega, fun b' _ hne => hoth b' (fun e => hne (by rw [hg, e])), b, cap, cs', tyb, rfl, hroom, hb', by rw [hcs', hcs], .inr hg, fun j hj => ?_, fun j hj => ?_⟩
      · rcases hs.kind with ⟨e', hk⟩ | hk <;> simp [Builtin.append_, run_underlying ht, run_underlying hk, sizeOf, typeInfo, hi, hs.len, hroom, hs.cells, Addr.add_lit, hst]
      · rw [hout j (.inl hj)]; exact hold j hj
      · exact hin j (by rw [hs.newsLen]; exact hj)
    · have holds : (Builtin.firstCells i.size n (.slice (some ⟨b, 0, none⟩) n cap)).run P w.drew = .ok (cur.toList.take (n * i.size)).toArray w.drew := by
        refine run_firstCells_some w.drew i.size n ⟨b, 0, none⟩ n cap _ (by simp [hcs, Nat.min_eq_left hnc]) (fun j u hj => ?_)
        rw [Addr.add_lit, Nat.zero_add]
        show w.cell? _ = _
        rw [cell_of_heap hblk]
        rw [List.getElem?_take] at hj
        split at hj
        · simpa using hj
        · cases hj
      refine grow (some ⟨b, 0, none⟩) cap _ (by simp [hcs, Nat.min_eq_left hnc]) holds (by omega) (fun j hj => ?_) hdd
      rw [List.getElem?_take, if_pos hj, Array.getElem?_toList]
      exact hold j hj


theorem andS_ok {p : Option Prop} {q : Prop} (h : andS p q) : p.getD True ∧ q := by
  cases p with
  | none => exact ⟨trivial, h⟩
  | some p => exact h

theorem bysCells {l : List UInt8} {b o : Nat} (hr : ∀ i x, l[i]? = some x → w.cell? ⟨b, o + i, none⟩ = some (.int .u8 (x.toNat : Int))) :
    ∀ (j : Nat) (u : Value), (l.map fun x => Value.int .u8 (x.toNat : Int))[j]? = some u → w.cell? (Addr.add ⟨b, o, none⟩ j) = some u := by
  intro j u hj
  simp only [List.getElem?_map, Option.map_eq_some_iff] at hj
  obtain ⟨x, hx, rfl⟩ := hj
  rw [Addr.add_lit]
  exact hr j x hx

theorem oneBytes (l : List UInt8) : ∀ u ∈ l.map (fun x => Value.int .u8 (x.toNat : Int)), u.oneCell' = true := by
  intro u hu
  obtain ⟨x, _, rfl⟩ := List.mem_map.1 hu
  rfl

/-- The bytes of a part of an object of bytes. -/
theorem bys_part (hH : HeapOk E w H) {k off n o : Nat} {ty : TypeId} {l : List UInt8} (hk : getOb H k = some (.bys ty l)) (hle : off + n ≤ l.length) (ho : off < E.κ k ∨ off = 0 → o = off * E.z k) :
    ((l.drop off).take n).length = n ∧ ∀ i x, ((l.drop off).take n)[i]? = some x → w.cell? ⟨E.β k, o + i, none⟩ = some (.int .u8 (x.toNat : Int)) := by
  obtain ⟨hL, ⟨hz, hn, hl, hone, hcl, cs, ty, hb, hsz, hc⟩, hN⟩ := hH.live _ _ hk
  simp only [Ob.toArr] at hz hn hl hone hcl hsz hc
  have hlen : ((l.drop off).take n).length = n := by simp; omega
  refine ⟨hlen, fun i x hx => ?_⟩
  have hi : i < n := by
    rcases Nat.lt_or_ge i n with h' | h'
    · exact h'
    · rw [List.getElem?_eq_none (by omega)] at hx; cases hx
  have hx' : l[off + i]? = some x := by
    rw [List.getElem?_take] at hx
    rw [if_pos hi, List.getElem?_drop] at hx
    exact hx
  have hrow : (byRow l (off + i))[0]? = some (.int .u8 (x.toNat : Int)) := by
    simp [byRow, List.getD, hx']
  obtain ⟨u, hu, hru⟩ := hc (off + i) 0 _ (by omega) hrow
  have hob : o = off := by
    have := ho (.inl (by omega))
    rw [hz, Nat.mul_one] at this
    exact this
  rw [cell_of_heap hb, hob]
  rw [rd_int hru] at hu
  rw [Nat.mul_one, Nat.add_zero] at hu
  exact hu

theorem srcB_ok (hH : HeapOk E w H) {tx : TypeId} {x : T} {v : Value} {l : List UInt8} {side : Option Prop} (h : srcB H (P.underlying tx) x = some (l, side)) (hs : side.getD True) (hx : Rd E w x v) :
    Go.Src P 1 tx v l.length (l.map fun x => Value.int .u8 (x.toNat : Int)) w := by
  unfold srcB at h
  split at h
  · rename_i l' hd
    simp only [Option.some.injEq, Prod.mk.injEq] at h
    obtain ⟨rfl, rfl⟩ := h
    rw [rd_str hx]
    have := Src.ofString (P := P) w hd ⟨l'.toArray⟩
    simpa [byteCells, ByteArray.size] using this
  · rename_i e l' hd
    simp only [Option.some.injEq, Prod.mk.injEq] at h
    obtain ⟨rfl, rfl⟩ := h
    cases hx with
    | bysNil => exact Src.ofNil (P := P) w hd 0
    | bysEmp a => exact Src.ofSlice (P := P) w hd a 0 0 [] (by simp) (fun j u h => by simp at h) (fun _ h => by cases h)
    | bys _ b off cap hN hc hr => exact Src.ofSlice (P := P) w hd _ _ _ _ (by simp) (bysCells hr) (oneBytes _)
  · rename_i e hd
    simp only [Option.some.injEq, Prod.mk.injEq] at h
    obtain ⟨rfl, rfl⟩ := h
    rw [rd_v hx]
    exact Src.ofNil (P := P) w hd 0
  · rename_i e k off n hd
    split at h
    · rename_i ty l' hk
      simp only [Option.some.injEq, Prod.mk.injEq] at h
      obtain ⟨rfl, rfl⟩ := h
      have hle : off + n ≤ l'.length := hs
      cases hx with
      | osl _ _ _ o _ hn ho =>
        obtain ⟨hlen, hcell⟩ := bys_part hH hk hle ho
        have := Src.ofSlice (P := P) (size := 1) w hd ⟨E.β k, o, none⟩ n (E.κ k - off) (((l'.drop off).take n).map fun x => Value.int .u8 (x.toNat : Int)) (by rw [List.length_map, hlen, Nat.mul_one]) (bysCells hcell) (oneBytes _)
        rw [hlen]
        exact this
    · cases h
  · cases h

/-- Rows, laid out cell by cell. -/
theorem rows_flat (n sz : Nat) (u : Nat → Nat → Value) :
    ∃ news : List Value, news.length = n * sz ∧ ∀ i j, i < n → j < sz → news[i * sz + j]? = some (u i j) := by
  have hlen : ∀ n, (((List.range n).map fun i => (List.range sz).map fun j => u i j).flatten).length = n * sz := by
    intro n
    induction n with
    | zero => simp
    | succ n ih => rw [List.range_succ, List.map_append, List.flatten_append, List.length_append, ih, Nat.add_mul]; simp
  refine ⟨((List.range n).map fun i => (List.range sz).map fun j => u i j).flatten, hlen n, ?_⟩
  induction n with
  | zero => intro i j hi; omega
  | succ n ih =>
    intro i j hi hj
    rw [List.range_succ, List.map_append, List.flatten_append]
    by_cases h : i < n
    · rw [List.getElem?_append_left (by rw [hlen]; have : (i + 1) * sz ≤ n * sz := Nat.mul_le_mul_right _ h; rw [Nat.add_mul] at this; omega)]
      exact ih i j h hj
    · obtain rfl : i = n := by omega
      rw [List.getElem?_append_right (by rw [hlen]; omega), hlen]
      simp [hj]

/-- A place in rows laid out. -/
theorem flat_place {n sz j : Nat} (hj : j < n * sz) : j / sz < n ∧ j % sz < sz ∧ j / sz * sz + j % sz = j := by
  have hsz : 0 < sz := by
    rcases Nat.eq_zero_or_pos sz with h | h
    · subst h; simp at hj
    · exact h
  exact ⟨(Nat.div_lt_iff_lt_mul hsz).2 hj, Nat.mod_lt _ hsz, by rw [Nat.mul_comm]; exact Nat.div_add_mod j sz⟩

/-- What is appended out of rows that lie in memory. -/
theorem src_rows {tx e : TypeId} {sz n b o cap : Nat} {row : Nat → List T} {u : Nat → Nat → Value} (hd : P.underlying tx = some (.slice e))
    (hl : ∀ i, i < n → (row i).length = sz) (h1 : ∀ i t, i < n → t ∈ row i → oneT t = true)
    (hr : ∀ i j t, i < n → (row i)[j]? = some t → w.cell? ⟨b, o + i * sz + j, none⟩ = some (u i j)) (ht : ∀ i j t, i < n → (row i)[j]? = some t → Rd E w t (u i j)) :
    ∃ news, Go.Src P sz tx (.slice (some ⟨b, o, none⟩) n cap) n news w ∧ ∀ i j t, i < n → (row i)[j]? = some t → ∃ u, news[i * sz + j]? = some u ∧ Rd E w t u := by
  obtain ⟨news, hlen, hnews⟩ := rows_flat n sz u
  have key : ∀ j v, news[j]? = some v → ∃ i k t, i < n ∧ (row i)[k]? = some t ∧ v = u i k ∧ i * sz + k = j := by
    intro j v hj
    have hlt : j < n * sz := by rw [← hlen]; exact (List.getElem?_eq_some_iff.1 hj).1
    obtain ⟨p1, p2, p3⟩ := flat_place hlt
    have hk : j % sz < (row (j / sz)).length := by rw [hl _ p1]; exact p2
    refine ⟨j / sz, j % sz, _, p1, List.getElem?_eq_getElem hk, ?_, p3⟩
    have := hnews _ _ p1 p2
    rw [p3, hj] at this
    simpa using this
  refine ⟨news, Src.ofSlice (P := P) w hd ⟨b, o, none⟩ n cap news hlen (fun j v hj => ?_) (fun v hv => ?_), fun i j t hi hj => ?_⟩
  · obtain ⟨i, k, t, hi, hk, rfl, rfl⟩ := key j v hj
    rw [Addr.add_lit, ← Nat.add_assoc]
    exact hr i k t hi hk
  · obtain ⟨j, hj, rfl⟩ := List.mem_iff_getElem.1 hv
    obtain ⟨i, k, t, hi, hk, he, _⟩ := key j _ (List.getElem?_eq_getElem hj)
    rw [he]
    exact oneT_ok (ht i k t hi hk) (h1 i t hi (List.mem_of_getElem? hk))
  · have hj' : j < sz := by rw [← hl i hi]; exact (List.getElem?_eq_some_iff.1 hj).1
    exact ⟨_, hnews i j hi hj', ht i j t hi hj⟩

theorem offRow_eq (row : Nat → List T) (off : Nat) : offRow row off = fun i => row (off + i) := by
  cases off with
  | zero => funext i; simp [offRow]
  | succ n => rfl

theorem offSide_ok {off n m : Nat} (h : (offSide off n m).getD True) : off + n ≤ m := h

theorem srcT_ok (hH : HeapOk E w H) {tx : TypeId} {sz : Nat} {x : T} {v : Value} {S : Sr} (h : srcT H (P.underlying tx) sz x = some S) (hs : S.side.getD True) (hx : Rd E w x v) :
    ∃ news, Go.Src P sz tx v S.n news w ∧ (∀ i, i < S.n → (S.row i).length = sz) ∧ (∀ i t, i < S.n → t ∈ S.row i → oneT t = true) ∧ (S.cl = true → ∀ i t, i < S.n → t ∈ S.row i → closedT t = true) ∧
      ∀ i j t, i < S.n → (S.row i)[j]? = some t → ∃ u, news[i * sz + j]? = some u ∧ Rd E w t u := by
  unfold srcT at h
  split at h
  · rename_i e sz' n row hd
    split at h
    · rename_i hbeq
      obtain rfl := Nat.eq_of_beq_eq_true hbeq
      simp only [Option.some.injEq] at h
      subst h
      cases hx with
      | slEmp _ _ a => exact ⟨[], Src.ofSlice (P := P) w hd a 0 0 [] (by simp) (fun j u h => by simp at h) (fun _ h => by cases h), fun i hi => absurd hi (by simp), fun i t hi => absurd hi (by simp), fun _ i t hi => absurd hi (by simp), fun i j t hi => absurd hi (by simp)⟩
      | slNil => exact ⟨[], Src.ofNil (P := P) w hd 0, fun i hi => absurd hi (by simp), fun i t hi => absurd hi (by simp), fun _ i t hi => absurd hi (by simp), fun i j t hi => absurd hi (by simp)⟩
      | sl _ _ _ b off cap u hN hcap hl h1 hr ht =>
        obtain ⟨news, hsrc, hnews⟩ := src_rows (P := P) (cap := cap) hd hl (fun i t hi h => (h1 i t hi h).1) hr ht
        exact ⟨news, hsrc, hl, fun i t hi h => (h1 i t hi h).1, fun _ i t hi h => (h1 i t hi h).2, hnews⟩
    · cases h
  · rename_i e hd
    simp only [Option.some.injEq] at h
    subst h
    rw [rd_v hx]
    exact ⟨[], Src.ofNil (P := P) w hd 0, fun i hi => absurd hi (by simp), fun i t hi => absurd hi (by simp), fun _ i t hi => absurd hi (by simp), fun i j t hi => absurd hi (by simp)⟩
  · rename_i e k off n hd
    split at h
    · rename_i cl ty sz' m row hk
      split at h
      · rename_i hbeq
        obtain rfl := Nat.eq_of_beq_eq_true hbeq
        simp only [Option.some.injEq] at h
        subst h
        have hle := offSide_ok hs
        obtain ⟨hL, ⟨hz, hn, hl, hone, hcl, cs, ty, hb, hsz, hc⟩, hN⟩ := hH.live _ _ hk
        simp only [Ob.toArr] at hz hn hl hone hcl hsz hc
        cases hx with
        | osl _ _ _ o _ hn' ho =>
          simp only [offRow_eq]
          by_cases hn0 : n = 0
          · subst hn0
            refine ⟨[], Src.ofSlice (P := P) w hd _ 0 _ [] (by simp) (fun j u hj => by simp at hj) (fun u hu => by cases hu), fun i hi => absurd hi (by simp), fun i t hi => absurd hi (by simp), fun _ i t hi => absurd hi (by simp), fun i j t hi => absurd hi (by simp)⟩
          · have hob : o = off * sz := by rw [ho (.inl (by omega)), hz]
            obtain ⟨news, hsrc, hnews⟩ := src_rows (P := P) (E := E) (n := n) (cap := E.κ k - off) (b := E.β k) (o := o) (row := fun i => row (off + i)) (u := fun i j => (cs[(off + i) * sz + j]?).getD undef) hd (fun i hi => hl _ (by omega)) (fun i t hi h => hone _ t (by omega) h)
              (fun i j t hi hj => by
                obtain ⟨u, hu, _⟩ := hc (off + i) j t (by omega) hj
                rw [cell_of_heap hb, hob, ← Nat.add_mul, hu]
                rfl)
              (fun i j t hi hj => by
                obtain ⟨u, hu, hr⟩ := hc (off + i) j t (by omega) hj
                rw [hu]
                exact hr)
            exact ⟨news, hsrc, fun i hi => hl _ (by have : i < n := hi; omega), fun i t hi h => hone _ t (by have : i < n := hi; omega) h, fun hc i t hi h => hcl hc _ t (by have : i < n := hi; omega) h, hnews⟩
      · cases h
    · cases h
  · cases h


theorem zeroCells_val {e : TypeId} {i : TypeInfo} {z : List T} (hi : P.info? e = some i) (hz : zeroCells P e = some z) : ∃ v, i.zero = some v ∧ v.cells.size = z.length := by
  obtain ⟨v, _, hrl, i', hi', hzv⟩ := zero_ok (P := P) (E := ⟨fun _ => False, fun _ => False, fun _ => 0, fun _ => 0, fun _ => 0⟩) (w := default) hz
  rw [hi] at hi'
  simp only [Option.some.injEq] at hi'
  subst hi'
  exact ⟨v, hzv, hrl.1.symm⟩

/-- A block that no object has, and that is no old one, becomes an object's. -/
theorem Inv.adopt (h : Inv c E H w) (ho : w'.os = w.os) (ht : w'.tape = w.tape) (hp : w'.output = w.output) (hsz : w.heap.size ≤ w'.heap.size)
    (ob : Ob) (b κ : Nat) (cs : Array Value) (ty : TypeId) (hw : ∀ a, a < w.heap.size → a ≠ b → w'.heap[a]? = w.heap[a]?) (hbN : ¬ E.N b) (hbl : ∀ k o, getOb H k = some o → E.β k ≠ b) (hbx : c.w0.heap.size ≤ b ∨ c.X b)
    (hblk : w'.heap[b]? = some (.cells cs ty (0, 0))) (hcs : cs.size = κ * ob.toArr.sz) (hn : ob.toArr.n ≤ κ)
    (hl : ∀ i, i < ob.toArr.n → (ob.toArr.row i).length = ob.toArr.sz) (h1 : ∀ i t, i < ob.toArr.n → t ∈ ob.toArr.row i → oneT t = true) (hcl : ob.toArr.cl = true → ∀ i t, i < ob.toArr.n → t ∈ ob.toArr.row i → closedT t = true)
    (hr : ∀ i j t, i < ob.toArr.n → (ob.toArr.row i)[j]? = some t → ∃ u, cs[i * ob.toArr.sz + j]? = some u ∧ Rd E w t u) (hia : ob.isArr = true) :
    Inv c (E.push H.length b κ ob.toArr.sz) (H ++ [some ob]) w' ∧ Step E w (E.push H.length b κ ob.toArr.sz) w' := by
  have hnL : ¬ E.L H.length := fun hL => by have := h.heap.lt _ hL; omega
  have hle : E.le (E.push H.length b κ ob.toArr.sz) := Env.push_le hnL
  have hstep : Step E w (E.push H.length b κ ob.toArr.sz) w' := ⟨hle, fun a ha => hw a (h.nlt a ha) (fun e => hbN (e ▸ ha))⟩
  have hblt : b < w'.heap.size := (Array.getElem?_eq_some_iff.1 hblk).1
  have hbk : (E.push H.length b κ ob.toArr.sz).β H.length = b := if_pos rfl
  have hold : ∀ k ob', getOb H k = some ob' → (E.push H.length b κ ob.toArr.sz).β k = E.β k ∧ E.β k < w.heap.size ∧ k < H.length ∧ E.β k ≠ b := fun k ob' hk =>
    ⟨hle.β k (h.heap.live k ob' hk).1, h.blt k (h.heap.live k ob' hk).1, getOb_lt hk, hbl k ob' hk⟩
  refine ⟨⟨⟨fun k ob' hk => ?_, fun k k' o o' hk hk' he => ?_, fun k hk => ?_⟩, fun a ha => by have := h.nlt a ha; omega, fun k hk => ?_, h.nnew, fun k ob' hk => ?_,
    h.fr.heap ho ht hp hsz (fun a p1 p2 => hw a (by have := h.fr.size; omega) (fun e => ?_)), h.keep.step hstep⟩, hstep⟩
  · rw [getOb_append] at hk
    split at hk
    · obtain ⟨e1, e2, e3⟩ := h.heap.live k ob' hk
      refine ⟨.inl e1, e2.mono hstep (hle.β k e1) (hle.κ k e1) (hle.z k e1) (hw _ (h.blt k e1) (hbl k ob' hk)), ?_⟩
      rw [hle.β k e1]
      exact e3
    · split at hk
      · rename_i he
        subst he
        simp only [Option.some.injEq] at hk
        subst hk
        refine ⟨.inr rfl, ArrOk.ob ⟨if_pos rfl, by rw [show (E.push H.length b κ ob.toArr.sz).κ H.length = κ from if_pos rfl]; exact hn, hl, h1, hcl, cs, ty, by rw [hbk]; exact hblk,
          by rw [show (E.push H.length b κ ob.toArr.sz).κ H.length = κ from if_pos rfl]; exact hcs, fun i j t hi hj => ?_⟩ hia, ?_⟩
        · obtain ⟨u, hu, hrd⟩ := hr i j t hi hj
          exact ⟨u, hu, hstep.rd hrd⟩
        · rw [hbk]
          exact hbN
      · cases hk
  · rw [getOb_append] at hk hk'
    split at hk
    · obtain ⟨a1, a2, a3, a4⟩ := hold k o hk
      split at hk'
      · obtain ⟨b1, b2, b3, b4⟩ := hold k' o' hk'
        rw [a1, b1] at he
        exact h.heap.inj k k' o o' hk hk' he
      · split at hk'
        · rename_i hkk
          subst hkk
          rw [a1, hbk] at he
          exact absurd he a4
        · cases hk'
    · split at hk
      · rename_i hkk
        subst hkk
        split at hk'
        · obtain ⟨b1, b2, b3, b4⟩ := hold k' o' hk'
          rw [hbk, b1] at he
          exact absurd he.symm b4
        · split at hk'
          · rename_i hkk; exact hkk.symm
          · cases hk'
      · cases hk
  · rcases hk with hk | hk
    · have := h.heap.lt k hk; simp; omega
    · simp; omega
  · rcases hk with hk | rfl
    · rw [hle.β k hk]; have := h.blt k hk; omega
    · rw [hbk]; exact hblt
  · rw [getOb_append] at hk
    split at hk
    · obtain ⟨a1, _, _, _⟩ := hold k ob' hk
      rw [a1]
      exact h.bnew k ob' hk
    · split at hk
      · rename_i he
        subst he
        rw [hbk]
        exact hbx
      · cases hk
  · subst e
    rcases hbx with h3 | h3
    · omega
    · exact p2 h3

/-- What is appended is a new object, in an old block or in a new one. -/
theorem Inv.appended (h : Inv c E H w) {sz n m : Nat} {old : Nat → Option Value} {news : List Value} {g : Option Nat} {r : Value} {w' : World} (ha : Appended w sz n m old news g r w')
    (H1 : Heap) (hg : (g = none ∧ H1 = H) ∨ ∃ k ob0, getOb H k = some ob0 ∧ g = some (E.β k) ∧ H1 = H.set k none) (ob : Ob) (hsz : ob.toArr.sz = sz) (hn : ob.toArr.n = n + m)
    (hl : ∀ i, i < n + m → (ob.toArr.row i).length = sz) (hone : ∀ i t, i < n + m → t ∈ ob.toArr.row i → oneT t = true) (hcl : ob.toArr.cl = true → ∀ i t, i < n + m → t ∈ ob.toArr.row i → closedT t = true)
    (hold : ∀ i j t, i < n → (ob.toArr.row i)[j]? = some t → ∃ u, old (i * sz + j) = some u ∧ Rd E w t u)
    (hnew : ∀ i j t, i < m → (ob.toArr.row (n + i))[j]? = some t → ∃ u, news[i * sz + j]? = some u ∧ Rd E w t u) (hia : ob.isArr = true := by rfl) :
    ∃ E', Rd E' w' (.osl H.length 0 (n + m)) r ∧ Inv c E' (H1 ++ [some ob]) w' ∧ Step E w E' w' := by
  obtain ⟨ho, ht, hp, hsize, hoth, b, cap, cs, tyb, rfl, hcap, hblk, hcs, hbg, hcold, hcnew⟩ := ha
  have hH1 : Inv c E H1 w ∧ H1.length = H.length ∧ ¬ E.N b ∧ (∀ k o, getOb H1 k = some o → E.β k ≠ b) ∧ (c.w0.heap.size ≤ b ∨ c.X b) ∧ ∀ a, a < w.heap.size → a ≠ b → w'.heap[a]? = w.heap[a]? := by
    rcases hg with ⟨rfl, rfl⟩ | ⟨k, ob0, hk, rfl, rfl⟩
    · have hb : w.heap.size ≤ b := by rcases hbg with hb | hb; exact hb.1; cases hb
      refine ⟨h, rfl, fun hN => by have := h.nlt b hN; omega, fun k o hk => ?_, .inl (by have := h.fr.size; omega), fun a ha _ => hoth a ha (by simp)⟩
      have := h.blt k (h.heap.live k o hk).1
      omega
    · obtain ⟨hL, _, hN⟩ := h.heap.live k ob0 hk
      have hdead : ∀ i o, getOb (H.set k none) i = some o → getOb H i = some o ∧ i ≠ k := by
        intro i o hi
        rw [getOb_set (getOb_lt hk)] at hi
        split at hi
        · cases hi
        · rename_i hne; exact ⟨hi, hne⟩
      rcases hbg with hb | hb
      · refine ⟨h.drop k, by simp, fun hN => by have := h.nlt b hN; omega, fun i o hi => ?_, .inl (by have := h.fr.size; omega), fun a ha _ => hb.2 a ha⟩
        have := h.blt i (h.heap.live i o (hdead i o hi).1).1
        omega
      · simp only [Option.some.injEq] at hb
        subst hb
        refine ⟨h.drop k, by simp, hN, fun i o hi he => ?_, h.bnew k ob0 hk, fun a ha hne => hoth a ha (by simpa using hne)⟩
        obtain ⟨h1, h2⟩ := hdead i o hi
        exact h2 (h.heap.inj i k o ob0 h1 hk he)
  obtain ⟨hI, hlen, hbN, hbl, hbx, hw⟩ := hH1
  have hrow : ∀ i j t, i < ob.toArr.n → (ob.toArr.row i)[j]? = some t → ∃ u, cs[i * ob.toArr.sz + j]? = some u ∧ Rd E w t u := by
    intro i j t hi hj
    rw [hn] at hi
    rw [hsz]
    have hj' : j < sz := by rw [← hl i hi]; exact (List.getElem?_eq_some_iff.1 hj).1
    by_cases hin : i < n
    · obtain ⟨u, hu, hr⟩ := hold i j t hin hj
      have : (i + 1) * sz ≤ n * sz := Nat.mul_le_mul_right _ hin
      rw [Nat.add_mul] at this
      exact ⟨u, by rw [hcold _ (by omega)]; exact hu, hr⟩
    · obtain ⟨u, hu, hr⟩ := hnew (i - n) j t (by omega) (by rw [show n + (i - n) = i by omega]; exact hj)
      have h2 : (i - n + 1) * sz ≤ m * sz := Nat.mul_le_mul_right _ (by omega)
      rw [Nat.add_mul] at h2
      refine ⟨u, ?_, hr⟩
      rw [show i * sz + j = n * sz + ((i - n) * sz + j) by rw [← Nat.add_assoc, ← Nat.add_mul, show n + (i - n) = i by omega]]
      rw [hcnew _ (by omega)]
      exact hu
  have := hI.adopt ho ht hp hsize ob b cap cs tyb hw hbN hbl hbx hblk (by rw [hsz]; exact hcs) (by omega) (fun i hi => by rw [hsz]; exact hl i (by omega)) (fun i t hi => hone i t (by omega)) (fun hc i t hi => hcl hc i t (by omega)) hrow hia
  rw [hlen] at this
  exact ⟨_, rd_new hcap, this.1, this.2⟩


theorem byRow_one (l : List UInt8) (i : Nat) (t : T) (h : t ∈ byRow l i) : oneT t = true ∧ closedT t = true := by
  simp [byRow] at h; subst h; exact ⟨rfl, rfl⟩

theorem byRow_get {l : List UInt8} {i j : Nat} {t : T} (h : (byRow l i)[j]? = some t) : j = 0 ∧ t = .int .u8 ((l.getD i 0).toNat : Int) := by
  have hj : j = 0 := by
    have := (List.getElem?_eq_some_iff.1 h).1
    simp [byRow] at this
    exact this
  subst hj
  simp [byRow] at h
  exact ⟨rfl, h.symm⟩

theorem bytes_new {l : List UInt8} {i : Nat} (hi : i < l.length) : ∃ u, (l.map fun x => Value.int .u8 (x.toNat : Int))[i * 1 + 0]? = some u ∧ Rd E w (.int .u8 ((l.getD i 0).toNat : Int)) u := by
  refine ⟨.int .u8 (l[i].toNat : Int), by simp [hi], ?_⟩
  rw [show l.getD i 0 = l[i] by simp [List.getD, hi]]
  exact .int _ _

theorem append_ok (h : Inv c E H w) {t tx ty : TypeId} {d x : T} {dv xv : Value} {y : T} {H' : Heap} {side : Option Prop} (he : evAppend P H t tx d x = some (y, H', side)) (hs : side.getD True) (hd : Rd E w d dv) (hx : Rd E w x xv) :
    ∃ r w' E', (Builtin.append_ #[t, tx] ty #[dv, xv]).run P w = .ok r w' ∧ Rd E' w' y r ∧ Inv c E' H' w' ∧ Step E w E' w' := by
  unfold evAppend at he
  split at he
  case h_2 => cases he
  rename_i e ht
  split at he
  case h_2 => cases he
  rename_i i z hi hz
  obtain ⟨zv, hzv, hzl⟩ := zeroCells_val hi hz
  split at he
  · -- a nil slice
    rename_i h1 h2
    have hzs : zv.cells.size = i.size := by rw [hzl]; exact Nat.eq_of_beq_eq_true h1
    rw [rd_v hd]
    split at he
    · rename_i hb
      have hz1 := (isByteT_ok hb).2
      rw [hz] at hz1
      simp only [Option.some.injEq] at hz1
      have hs1 : i.size = 1 := by rw [← Nat.eq_of_beq_eq_true h1, hz1]; rfl
      cases hsb : srcB H (P.underlying tx) x with
      | none => rw [hsb] at he; cases he
      | some S =>
        obtain ⟨l, ls⟩ := S
        rw [hsb] at he
        simp only [Option.map_some, Option.some.injEq, Prod.mk.injEq] at he
        obtain ⟨rfl, rfl, rfl⟩ := he
        obtain ⟨hls, hpos, hab⟩ := andS_ok hs
        have hpos : 0 < l.length := hpos
        have hsrc := srcB_ok h.heap hsb hls hx
        obtain ⟨r, w', hrun, ha⟩ := append_core (P := P) (ty := ty) ht hi hzv hzs (by rw [hs1]; exact hsrc) 0 hab (.slice none 0 0) (fun _ => none) none (.inl ⟨rfl, rfl, hpos, rfl⟩)
        rw [hs1] at ha
        have := h.appended ha H (.inl ⟨rfl, rfl⟩) (.bys e l) rfl (by simp [Ob.toArr]) (fun _ _ => rfl) (fun i t _ ht => (byRow_one l i t ht).1) (fun _ i t _ ht => (byRow_one l i t ht).2) (fun i j t hi => absurd hi (by omega))
          (fun i j t hi hj => by
            simp only [Nat.zero_add] at hj
            obtain ⟨rfl, rfl⟩ := byRow_get hj
            exact bytes_new hi)
        obtain ⟨E', hr, hI, hst⟩ := this
        rw [Nat.zero_add] at hr
        exact ⟨r, w', E', hrun, hr, hI, hst⟩
    · cases hsb : srcT H (P.underlying tx) i.size x with
      | none => rw [hsb] at he; cases he
      | some S =>
        rw [hsb] at he
        simp only [Option.map_some, Option.some.injEq, Prod.mk.injEq] at he
        obtain ⟨rfl, rfl, rfl⟩ := he
        obtain ⟨hls, hpos, hab⟩ := andS_ok hs
        have hpos : 0 < S.n := hpos
        obtain ⟨news, hsrc, hl, hone, hcl, hnews⟩ := srcT_ok (P := P) h.heap hsb hls hx
        obtain ⟨r, w', hrun, ha⟩ := append_core (P := P) (ty := ty) ht hi hzv hzs hsrc 0 hab (.slice none 0 0) (fun _ => none) none (.inl ⟨rfl, rfl, hpos, rfl⟩)
        have := h.appended ha H (.inl ⟨rfl, rfl⟩) (.arr S.cl e i.size S.n S.row) rfl (by simp [Ob.toArr]) (fun i hi => hl i (by omega)) (fun i t hi ht => hone i t (by omega) ht) (fun hc i t hi ht => hcl hc i t (by omega) ht) (fun i j t hi => absurd hi (by omega))
          (fun i j t hi hj => by
            simp only [Nat.zero_add] at hj
            exact hnews i j t hi hj)
        obtain ⟨E', hr, hI, hst⟩ := this
        rw [Nat.zero_add] at hr
        exact ⟨r, w', E', hrun, hr, hI, hst⟩
  · rename_i k n h1 h2
    have hzs : zv.cells.size = i.size := by rw [hzl]; exact Nat.eq_of_beq_eq_true h1
    split at he
    · -- bytes
      rename_i tyb l hk
      split at he
      case h_2 => cases he
      rename_i hb
      have hz1 := (isByteT_ok hb).2
      rw [hz] at hz1
      simp only [Option.some.injEq] at hz1
      have hbu : i.size = 1 := by rw [← Nat.eq_of_beq_eq_true h1, hz1]; rfl
      cases hsb : srcB H (P.underlying tx) x with
      | none => rw [hsb] at he; cases he
      | some S =>
        obtain ⟨m, ls⟩ := S
        rw [hsb] at he
        simp only [Option.map_some, Option.some.injEq, Prod.mk.injEq] at he
        obtain ⟨rfl, rfl, rfl⟩ := he
        obtain ⟨hls, hle, hab⟩ := andS_ok hs
        have hle : n ≤ l.length := hle
        have hsrc := srcB_ok h.heap hsb hls hx
        obtain ⟨hL, ⟨hz', hn, hl, hone, hcl, cs, ty', hblk, hcs, hc⟩, hN⟩ := h.heap.live _ _ hk
        simp only [Ob.toArr] at hz' hn hl hone hcl hcs hc
        cases hd with
        | osl _ _ _ o _ hn' ho =>
          obtain rfl : o = 0 := by rw [ho (.inr rfl), Nat.zero_mul]
          rw [Nat.sub_zero]
          obtain ⟨r, w', hrun, ha⟩ := append_core (P := P) (ty := ty) ht hi hzv hzs (by rw [hbu]; exact hsrc) n hab (.slice (some ⟨E.β k, 0, none⟩) n (E.κ k)) (fun j => cs[j]?) (some (E.β k))
            (.inr ⟨_, _, cs, ty', rfl, rfl, hblk, by omega, by rw [hcs, hbu], fun _ _ => rfl⟩)
          rw [hbu] at ha
          have hlen : (l.take n ++ m).length = n + m.length := by simp; omega
          have := h.appended ha (H.set k none) (.inr ⟨k, _, hk, rfl, rfl⟩) (.bys e (l.take n ++ m)) rfl hlen (fun _ _ => rfl) (fun i t _ ht => (byRow_one _ i t ht).1) (fun _ i t _ ht => (byRow_one _ i t ht).2)
            (fun i j t hi hj => by
              obtain ⟨rfl, rfl⟩ := byRow_get hj
              obtain ⟨u, hu, hr⟩ := hc i 0 (.int .u8 ((l.getD i 0).toNat : Int)) (by omega) rfl
              refine ⟨u, hu, ?_⟩
              rw [show (l.take n ++ m).getD i 0 = l.getD i 0 by
                simp only [List.getD]
                rw [List.getElem?_append_left (by simp; omega), List.getElem?_take, if_pos hi]]
              exact hr)
            (fun i j t hi hj => by
              obtain ⟨rfl, rfl⟩ := byRow_get hj
              rw [show (l.take n ++ m).getD (n + i) 0 = m.getD i 0 by
                simp only [List.getD]
                rw [List.getElem?_append_right (by simp; omega)]
                congr 2
                simp
                omega]
              exact bytes_new hi)
          obtain ⟨E', hr, hI, hst⟩ := this
          exact ⟨r, w', E', hrun, hr, hI, hst⟩
    · rename_i cl tyb sz N row hk
      split at he
      case h_2 => cases he
      rename_i hbeq
      obtain rfl := Nat.eq_of_beq_eq_true hbeq
      cases hsb : srcT H (P.underlying tx) i.size x with
      | none => rw [hsb] at he; cases he
      | some S =>
        rw [hsb] at he
        simp only [Option.map_some, Option.some.injEq, Prod.mk.injEq] at he
        obtain ⟨rfl, rfl, rfl⟩ := he
        obtain ⟨hls, hle, hab⟩ := andS_ok hs
        have hle : n ≤ N := hle
        obtain ⟨news, hsrc, hsl, hsone, hscl, hnews⟩ := srcT_ok (P := P) h.heap hsb hls hx
        obtain ⟨hL, ⟨hz', hn, hl, hone, hcl, cs, ty', hblk, hcs, hc⟩, hN⟩ := h.heap.live _ _ hk
        simp only [Ob.toArr] at hz' hn hl hone hcl hcs hc
        cases hd with
        | osl _ _ _ o _ hn' ho =>
          obtain rfl : o = 0 := by rw [ho (.inr rfl), Nat.zero_mul]
          rw [Nat.sub_zero]
          obtain ⟨r, w', hrun, ha⟩ := append_core (P := P) (ty := ty) ht hi hzv hzs hsrc n hab (.slice (some ⟨E.β k, 0, none⟩) n (E.κ k)) (fun j => cs[j]?) (some (E.β k))
            (.inr ⟨_, _, cs, ty', rfl, rfl, hblk, by omega, hcs, fun _ _ => rfl⟩)
          have hr1 : ∀ r, r < n → appRow row n S.row r = row r := fun r hr => by
            unfold appRow
            rw [show Nat.blt r n = true from by simp [Nat.blt]; omega]
          have hr2 : ∀ r, ¬ r < n → appRow row n S.row r = S.row (r - n) := fun r hr => by
            unfold appRow
            rw [show Nat.blt r n = false from Bool.eq_false_iff.2 fun h => hr (Nat.le_of_ble_eq_true h)]
          have := h.appended ha (H.set k none) (.inr ⟨k, _, hk, rfl, rfl⟩) (.arr (cl && S.cl) e i.size (n + S.n) (appRow row n S.row)) rfl rfl
            (fun r hr => by
              simp only [Ob.toArr]
              by_cases h : r < n
              · rw [hr1 r h]; exact hl r (by omega)
              · rw [hr2 r h]; exact hsl _ (by omega))
            (fun r t hr ht => by
              simp only [Ob.toArr] at ht
              by_cases h : r < n
              · rw [hr1 r h] at ht; exact hone r t (by omega) ht
              · rw [hr2 r h] at ht; exact hsone _ t (by omega) ht)
            (fun hcc r t hr ht => by
              simp only [Ob.toArr, Bool.and_eq_true] at ht hcc
              by_cases h : r < n
              · rw [hr1 r h] at ht; exact hcl hcc.1 r t (by omega) ht
              · rw [hr2 r h] at ht; exact hscl hcc.2 _ t (by omega) ht)
            (fun r j t hr hj => by
              simp only [Ob.toArr] at hj
              rw [hr1 r hr] at hj
              exact hc r j t (Nat.lt_of_lt_of_le hr hle) hj)
            (fun r j t hr hj => by
              simp only [Ob.toArr] at hj
              rw [hr2 (n + r) (by omega), show n + r - n = r by omega] at hj
              exact hnews r j t hr hj)
          obtain ⟨E', hr, hI, hst⟩ := this
          exact ⟨r, w', E', hrun, hr, hI, hst⟩
    · cases he
  · cases he

end
end Go.SS
