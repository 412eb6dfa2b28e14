/- A calculus of symbolic states: operations that lay or write memory, 2. -/
import Derived.Test.YtjbomnjmcbhadaaSS7
namespace Go.SS
open Go.RowKit
section
variable {c : Ctx} {E : Env} {H : Heap} {w w' : World} {P : Program}

/-- An object's block is written: its rows are others. -/
theorem Inv.writeO (h : Inv c E H w) {k : Nat} {ob0 : Ob} (hk : getOb H k = some ob0) (ho : w'.os = w.os) (ht : w'.tape = w.tape) (hp : w'.output = w.output) (hs : w.heap.size ≤ w'.heap.size)
    (hw : ∀ b, b < w.heap.size → b ≠ E.β k → w'.heap[b]? = w.heap[b]?) (ob : Ob) (hnew : Step E w E w' → ObOk E w' k ob) :
    Inv c E (H.set k (some ob)) w' ∧ Step E w E w' := by
  obtain ⟨hL, hA, hN⟩ := h.heap.live k ob0 hk
  have hklt := getOb_lt hk
  have hstep : Step E w E w' := ⟨Env.le.refl E, fun b hb => hw b (h.nlt b hb) (fun e => hN (e ▸ hb))⟩
  refine ⟨⟨⟨fun i ob' hi => ?_, fun i i' o o' hi hi' he => ?_, fun i hi => by rw [List.length_set]; exact h.heap.lt i hi⟩, fun b hb => Nat.lt_of_lt_of_le (h.nlt b hb) hs, fun i hi => Nat.lt_of_lt_of_le (h.blt i hi) hs, h.nnew, fun i ob' hi => ?_,
    h.fr.heap ho ht hp hs (fun b h1 h2 => hw b (by have := h.fr.size; omega) (fun e => ?_)), h.keep.step hstep⟩, hstep⟩
  · rw [getOb_set hklt] at hi
    split at hi
    · rename_i he
      subst he
      simp only [Option.some.injEq] at hi
      subst hi
      exact ⟨hL, hnew hstep, hN⟩
    · rename_i hne
      obtain ⟨h1, h2, h3⟩ := h.heap.live i ob' hi
      exact ⟨h1, h2.mono hstep rfl rfl rfl (hw _ (h.blt i h1) (fun e => hne (h.heap.inj i k ob' ob0 hi hk e))), h3⟩
  · have key : ∀ i o, getOb (H.set k (some ob)) i = some o → ∃ o', getOb H i = some o' := by
      intro i o hi
      rw [getOb_set hklt] at hi
      split at hi
      · rename_i he; subst he; exact ⟨_, hk⟩
      · exact ⟨_, hi⟩
    obtain ⟨p, hp⟩ := key i o hi
    obtain ⟨q, hq⟩ := key i' o' hi'
    exact h.heap.inj i i' p q hp hq he
  · rw [getOb_set hklt] at hi
    split at hi
    · rename_i he; subst he; exact h.bnew _ _ hk
    · exact h.bnew i ob' hi
  · rcases h.bnew k ob0 hk with h3 | h3
    · omega
    · exact h2 (e ▸ h3)

theorem Inv.write (h : Inv c E H w) {k : Nat} {ob0 : Ob} (hk : getOb H k = some ob0) (ho : w'.os = w.os) (ht : w'.tape = w.tape) (hp : w'.output = w.output) (hs : w.heap.size ≤ w'.heap.size)
    (hw : ∀ b, b < w.heap.size → b ≠ E.β k → w'.heap[b]? = w.heap[b]?) (ob : Ob) (cs : Array Value) (ty : TypeId) (hblk : w'.heap[E.β k]? = some (.cells cs ty (0, 0)))
    (hz : ob.toArr.sz = E.z k) (hcs : cs.size = E.κ k * E.z k) (hn : ob.toArr.n ≤ E.κ k)
    (hl : ∀ i, i < ob.toArr.n → (ob.toArr.row i).length = ob.toArr.sz) (hone : ∀ i t, i < ob.toArr.n → t ∈ ob.toArr.row i → oneT t = true) (hcl : ob.toArr.cl = true → ∀ i t, i < ob.toArr.n → t ∈ ob.toArr.row i → closedT t = true)
    (hr : ∀ i j t, i < ob.toArr.n → (ob.toArr.row i)[j]? = some t → ∃ u, cs[i * ob.toArr.sz + j]? = some u ∧ Rd E w t u) (hia : ob.isArr = true := by rfl) :
    Inv c E (H.set k (some ob)) w' ∧ Step E w E w' := by
  refine h.writeO hk ho ht hp hs hw ob fun hstep => ArrOk.ob ⟨hz.symm, hn, hl, hone, hcl, cs, ty, hblk, by rw [hz]; exact hcs, fun i j t hi hj => ?_⟩ hia
  obtain ⟨u, hu, hrd⟩ := hr i j t hi hj
  exact ⟨u, hu, hstep.rd hrd⟩

theorem keyThat_int (n : Int) : (Instr.keyThatStays (.int .i64 n) (.int .i64 n)).run P w = .ok (.int .i64 n) w := by
  unfold Instr.keyThatStays
  rw [if_pos (by unfold Instr.sameBits; simp)]
  rfl

theorem mapUp_ok (h : Inv c E H w) {t : TypeId} {m k x : T} {mv kv xv : Value} {H' : Heap} (he : evMapUp P H t m k x = some H') (hm : Rd E w m mv) (hk : Rd E w k kv) (hx : Rd E w x xv) :
    ∃ w', (Instr.mapUpdate t mv kv xv).run P w = .ok () w' ∧ Inv c E H' w' ∧ Step E w E w' := by
  unfold evMapUp at he
  split at he
  · rename_i j n
    split at he
    · rename_i bo get hob
      split at he
      · rename_i v hb hv
        simp only [Option.some.injEq] at he
        subst he
        rw [rd_int hk]
        obtain ⟨kt, et, hu, hku, hz0⟩ := mapB_ok (w := w) hb
        clear hz0
        obtain ⟨hL, ⟨es, clock, hblk, hi, hg⟩, hN⟩ := h.heap.live j _ hob
        have hxv : xv = mvalue bo v := by
          unfold munT at hv
          split at hv
          · cases bo
            · simp only [Option.some.injEq] at hv; subst hv; exact rd_int hx
            · cases hv
          · cases bo
            · cases hv
            · rename_i b
              simp only [Option.some.injEq] at hv; subst hv
              rw [rd_bool hx]
              cases b <;> rfl
          · cases hv
        have hck := checkKey_int (w := w) hku false 9999 n
        cases hm with
        | mpr _ _ =>
          have fin : ∀ (es' : Array MapEntry) (clock' : Nat), MapI bo (fun i => cond (decide (i = n)) v (get i)) es'.toList →
              Inv c E (H.set j (some (.mp bo fun i => cond (decide (i = n)) v (get i)))) { w with heap := w.heap.setIfInBounds (E.β j) (.map es' clock') } ∧ Step E w E { w with heap := w.heap.setIfInBounds (E.β j) (.map es' clock') } := by
            intro es' clock' hI
            have hlt : E.β j < w.heap.size := (Array.getElem?_eq_some_iff.1 hblk).1
            have ho : ∀ b, b ≠ E.β j → (w.heap.setIfInBounds (E.β j) (.map es' clock'))[b]? = w.heap[b]? := fun b hne => by rw [Array.getElem?_setIfInBounds, if_neg (Ne.symm hne)]
            have hn : (w.heap.setIfInBounds (E.β j) (.map es' clock'))[E.β j]? = some (.map es' clock') := by rw [Array.getElem?_setIfInBounds, if_pos rfl, if_pos hlt]
            exact h.writeO (w' := { w with heap := w.heap.setIfInBounds (E.β j) (.map es' clock') }) hob rfl rfl rfl (by simp) (fun b _ hne => ho b hne) (.mp bo fun i => cond (decide (i = n)) v (get i)) fun _ => (⟨es', clock', hn, hI⟩ : MapOk E _ j bo _)
          have hmi : ∀ (l : List MapEntry), (∀ e ∈ l, ∃ m, e.key = .int .i64 m) → (∀ n', lk n' l = if n' = n then some xv else lk n' es.toList) → MapI bo (fun i => cond (decide (i = n)) v (get i)) l := by
            intro l h1 h2
            refine ⟨h1, fun n' => ?_⟩
            rw [h2 n']
            by_cases hn : n' = n
            · rw [if_pos hn]
              simp [hn, hxv]
            · rw [if_neg hn]
              have := hg n'
              simp only [hn, decide_false, cond_false]
              exact this
          cases hl : lk n es.toList with
          | none =>
            have hf := MapKept.run_findKey (w := w) hku (findNow_none es.toList 0 hi hl)
            refine ⟨_, ?_, fin (es.push { key := .int .i64 n, val := xv, born := clock }) (clock + 1) (hmi _ (fun e he => ?_) fun n' => ?_)⟩
            · simp only [Instr.mapUpdate, Sem.run_bind, run_underlying hu, Result.andThen_ok, MapKept.run_getObj_map hblk, hck, hf]
              exact MapKept.run_setObj_map _ hblk
            · simp only [Array.toList_push, List.mem_append, List.mem_singleton] at he
              rcases he with he | rfl
              · exact hi e he
              · exact ⟨n, rfl⟩
            · have key : ∀ l : List MapEntry, (∀ e ∈ l, ∃ m, e.key = .int .i64 m) → lk n l = none → lk n' (l ++ [{ key := .int .i64 n, val := xv, born := clock }]) = if n' = n then some xv else lk n' l := by
                intro l
                induction l with
                | nil => intro _ _; simp [lk]
                | cons e l ih =>
                  intro hi hn
                  obtain ⟨m, hm⟩ := hi e (by simp)
                  simp only [List.cons_append, lk, hm] at hn ⊢
                  split at hn
                  · cases hn
                  · rename_i hne
                    split
                    · rename_i he
                      subst he
                      rw [if_neg (Ne.symm hne)]
                    · exact ih (fun e he => hi e (by simp [he])) hn
              rw [Array.toList_push]
              exact key es.toList hi hl
          | some v0 =>
            obtain ⟨i, e, he, hek, _, hfn, hmod⟩ := findNow_some es.toList 0 hi hl
            obtain ⟨g1, g2⟩ := hmod xv
            have hf := MapKept.run_findKey (w := w) hku hfn
            refine ⟨_, ?_, fin (es.modify i fun e => { e with key := .int .i64 n, val := xv }) clock (hmi _ (fun e he => ?_) fun n' => ?_)⟩
            · have hei : es[i]? = some e := by simpa using he
              simp only [Instr.mapUpdate, Sem.run_bind, run_underlying hu, Result.andThen_ok, MapKept.run_getObj_map hblk, hck, hf, Nat.zero_add, hei, Option.map_some, hek, Option.getD_some, keyThat_int]
              exact MapKept.run_setObj_map _ hblk
            · rw [Array.toList_modify] at he
              exact g1 e he
            · rw [Array.toList_modify]
              exact g2 n'
      · cases he
    · cases he
  · cases he

/-- An object is given up. -/
theorem Inv.drop (h : Inv c E H w) (k : Nat) : Inv c E (H.set k none) w := by
  have key : ∀ i o, getOb (H.set k none) i = some o → getOb H i = some o ∧ i ≠ k := by
    intro i o hi
    by_cases hk : k < H.length
    · rw [getOb_set hk] at hi
      split at hi
      · cases hi
      · rename_i hne; exact ⟨hi, hne⟩
    · rw [List.set_eq_of_length_le (by omega)] at hi
      exact ⟨hi, fun e => by have := getOb_lt hi; omega⟩
  exact ⟨⟨fun i ob hi => h.heap.live i ob (key i ob hi).1, fun i i' o o' hi hi' he => h.heap.inj i i' o o' (key i o hi).1 (key i' o' hi').1 he, fun i hi => by rw [List.length_set]; exact h.heap.lt i hi⟩,
    h.nlt, h.blt, h.nnew, fun i ob hi => h.bnew i ob (key i ob hi).1, h.fr, h.keep⟩

theorem oneT_ok {x : T} {v : Value} (hx : Rd E w x v) (h1 : oneT x = true) : v.oneCell' = true := by
  cases hx with
  | v => cases v <;> first | rfl | (simp [oneT] at h1)
  | agg => simp [oneT] at h1
  | tup => simp [oneT] at h1
  | und => simp [oneT] at h1
  | _ => rfl

theorem setCells_same (P : Program) (w : World) (b o : Nat) (ty : TypeId) (cs : Array Value) (news : List Value) (hb : w.heap[b]? = some (.cells cs ty (0, 0))) (hfit : o + news.length ≤ cs.size) (h1 : ∀ v ∈ news, v.oneCell' = true) :
    ∃ w', (storeCells ⟨b, o, none⟩ news).run P w = .ok () w' ∧ w'.os = w.os ∧ w'.tape = w.tape ∧ w'.output = w.output ∧ w'.heap.size = w.heap.size ∧ (∀ k, k ≠ b → w'.heap[k]? = w.heap[k]?) ∧
      ∃ cs', w'.heap[b]? = some (.cells cs' ty (0, 0)) ∧ cs'.size = cs.size ∧ (∀ i, i < o ∨ o + news.length ≤ i → cs'[i]? = cs[i]?) ∧ ∀ i, i < news.length → cs'[o + i]? = news[i]? := by
  have hst := run_storeCells_at P b o ty news 0 cs w hb (by simpa using hfit) h1
  refine ⟨_, hst, rfl, rfl, rfl, by simp [World.setRow], fun k hk => setRow_other w b k _ hk, _, setRow_heap w b cs _ ty _ hb, ?_, fun i hi => ?_, fun i hi => ?_⟩
  · simp; omega
  · simp only [Nat.add_zero, List.getElem?_toArray, List.getElem?_append, List.length_append, List.length_take, Array.length_toList, List.getElem?_take, List.getElem?_drop]
    rw [Nat.min_eq_left (by omega)]
    rcases hi with hi | hi
    · rw [if_pos (by omega), if_pos hi, if_pos hi]
      simp
    · rw [if_neg (by omega)]
      simp only [Array.getElem?_toList]
      congr 1
      omega
  · simp only [Nat.add_zero, List.getElem?_toArray, List.getElem?_append, List.length_append, List.length_take, Array.length_toList, List.getElem?_take, List.getElem?_drop]
    rw [Nat.min_eq_left (by omega)]
    rw [if_pos (by omega), if_neg (by omega)]
    congr 1
    omega


theorem rows_apart {i r sz j m j' : Nat} (hr : r ≠ i) (hj : j + m ≤ sz) (hj' : j' < sz) : r * sz + j' < i * sz + j ∨ i * sz + j + m ≤ r * sz + j' := by
  rcases Nat.lt_or_gt_of_ne hr with h | h
  · left
    have : (r + 1) * sz ≤ i * sz := Nat.mul_le_mul_right _ h
    rw [Nat.add_mul] at this
    omega
  · right
    have : (i + 1) * sz ≤ r * sz := Nat.mul_le_mul_right _ h
    rw [Nat.add_mul] at this
    omega

theorem row_fits {i n sz j m κ : Nat} (hi : i < n) (hn : n ≤ κ) (hj : j + m ≤ sz) : i * sz + j + m ≤ κ * sz := by
  have : (i + 1) * sz ≤ κ * sz := Nat.mul_le_mul_right _ (by omega)
  rw [Nat.add_mul] at this
  omega

theorem ofI_eq {m : Int} (h : Rng .u8 m) : ((ofI m).toNat : Int) = m := by
  obtain ⟨h1, h2⟩ := h
  have h1' : 0 ≤ m := h1
  have h2' : m ≤ 255 := h2
  unfold ofI
  rw [UInt8.toNat_ofNat']
  omega

theorem mrg_eq (b : Bool) (x y : T) : mrg b x y = match b with | true => x | false => y := by
  unfold mrg
  split
  · rename_i k n k' m
    split
    · rename_i hk
      obtain rfl := of_decide_eq_true hk
      cases b <;> rfl
    · rfl
  · cases b <;> rfl
  · cases b <;> rfl
  · rfl

theorem zipB_eq (b : Bool) : ∀ (xs os : List T), xs.length ≤ os.length → zipB b xs os = match b with | true => xs ++ os.drop xs.length | false => os := by
  intro xs
  induction xs with
  | nil => intro os _; cases b <;> cases os <;> simp [zipB]
  | cons x xs ih =>
    intro os h
    cases os with
    | nil => simp at h
    | cons o os =>
      simp only [zipB, mrg_eq, ih os (by simpa using h)]
      cases b <;> simp

theorem putB_eq (b : Bool) : ∀ (j : Nat) (xs os : List T), j + xs.length ≤ os.length → putB b j xs os = match b with | true => os.take j ++ xs ++ os.drop (j + xs.length) | false => os := by
  intro j
  induction j with
  | zero => intro xs os h; simp only [putB, zipB_eq b xs os (by omega)]; cases b <;> simp
  | succ j ih =>
    intro xs os h
    cases os with
    | nil => simp at h
    | cons o os =>
      simp only [putB, ih xs os (by simp at h; omega)]
      cases b
      · rfl
      · simp only [List.take_succ_cons, List.cons_append]
        rw [show j + 1 + xs.length = (j + xs.length) + 1 by omega, List.drop_succ_cons]

theorem setRow_eq {row : Nat → List T} {i j k : Nat} {cs : List T} (h : j + cs.length ≤ (row k).length) : setRow row i j cs k = match Nat.beq k i with | true => (row k).take j ++ cs ++ (row k).drop (j + cs.length) | false => row k := by
  unfold setRow
  rw [putB_eq _ _ _ _ h]

theorem store_ok (h : Inv c E H w) {t : TypeId} {a x : T} {av xv : Value} {H' : Heap} {side : Option Prop} (he : evStore P H t a x = some (H', side)) (hs : side.getD True) (ha : Rd E w a av) (hx : Rd E w x xv) :
    ∃ w', (Instr.storeAt t av xv).run P w = .ok () w' ∧ Inv c E H' w' ∧ Step E w E w' := by
  unfold evStore at he
  split at he
  · rename_i k i j
    rw [rd_ref ha]
    split at he
    · rename_i cl ty sz n row hk hsz hpx hone
      split at he
      · rename_i hble
        simp only [Option.some.injEq, Prod.mk.injEq] at he
        obtain ⟨rfl, rfl⟩ := he
        have hi := inB_ok hs
        have hj := Nat.le_of_ble_eq_true hble
        obtain ⟨hL, ⟨hz, hn, hl, hold1, hcl, cs, ty', hb, hcs, hr⟩, hN⟩ := h.heap.live _ _ hk
        simp only [Ob.toArr] at hz hn hl hold1 hcl hcs hr
        have hsr : ∀ r, r < n → setRow row i j (cellsT x) r = match Nat.beq r i with | true => (row r).take j ++ cellsT x ++ (row r).drop (j + (cellsT x).length) | false => row r := fun r hr => setRow_eq (by rw [hl r hr]; exact hj)
        obtain ⟨hxl, hxt⟩ := rdL_cells hx hpx
        have hones : ∀ v ∈ xv.cells.toList, v.oneCell' = true := by
          intro v hv
          obtain ⟨m, hm, rfl⟩ := List.mem_iff_getElem.1 hv
          have h1 : m < (cellsT x).length := by simp at hm; omega
          have h2 : xv.cells[m]? = some (xv.cells.toList[m]) := by simp at hm; simp [hm]
          exact oneT_ok (hxt m _ _ (List.getElem?_eq_getElem h1) h2) (List.all_eq_true.1 hone _ (List.getElem_mem h1))
        have hlen : xv.cells.toList.length = (cellsT x).length := by simp [hxl]
        obtain ⟨w', hst, ho, ht, hp, hsize, hoth, cs', hb', hcs', hout, hin⟩ := setCells_same P w (E.β k) (i * E.z k + j) ty' cs xv.cells.toList hb (by rw [hcs, hlen, hz]; exact row_fits hi hn hj) hones
        refine ⟨w', ?_, ?_⟩
        · simp only [Instr.storeAt, Instr.sureAddr, storeVar, Sem.run_bind, Sem.run_pure, Result.andThen_ok, (cellsB_ok (w := w) hsz).1]
          rw [if_neg (by rw [hxl]; simp)]
          exact hst
        · refine h.write hk ho ht hp (by omega) (fun b _ hne => hoth b hne) (.arr _ ty sz n _) cs' ty' hb' hz.symm (by rw [hcs', hcs, hz]) hn (fun r hr' => ?_) (fun r t hr' ht => ?_) (fun hcl' r t hr' ht => ?_) (fun r j' t hr' hj' => ?_)
          · simp only [Ob.toArr] at hr' ⊢
            rw [hsr r hr']
            split
            · rename_i hbeq
              obtain rfl := Nat.eq_of_beq_eq_true hbeq
              simp only [List.length_append, List.length_take, List.length_drop, hl r hi]
              omega
            · exact hl r hr'
          · simp only [Ob.toArr] at ht hr'
            rw [hsr r hr'] at ht
            split at ht
            · rename_i hbeq
              obtain rfl := Nat.eq_of_beq_eq_true hbeq
              simp only [List.mem_append] at ht
              rcases ht with (ht | ht) | ht
              · exact hold1 r t hi (List.mem_of_mem_take ht)
              · exact List.all_eq_true.1 hone t ht
              · exact hold1 r t hi (List.mem_of_mem_drop ht)
            · exact hold1 r t hr' ht
          · simp only [Ob.toArr, Bool.and_eq_true] at hcl'
            simp only [Ob.toArr] at ht hr'
            rw [hsr r hr'] at ht
            split at ht
            · rename_i hbeq
              obtain rfl := Nat.eq_of_beq_eq_true hbeq
              simp only [List.mem_append] at ht
              rcases ht with (ht | ht) | ht
              · exact hcl hcl'.1 r t hi (List.mem_of_mem_take ht)
              · exact List.all_eq_true.1 hcl'.2 t ht
              · exact hcl hcl'.1 r t hi (List.mem_of_mem_drop ht)
            · exact hcl hcl'.1 r t hr' ht
          · simp only [Ob.toArr] at hj' hr' ⊢
            rw [hsr r hr'] at hj'
            split at hj'
            · rename_i hbeq
              obtain rfl := Nat.eq_of_beq_eq_true hbeq
              have hrl := hl r hi
              simp only [List.getElem?_append, List.length_append, List.length_take, List.getElem?_take, List.getElem?_drop] at hj'
              rw [Nat.min_eq_left (by omega)] at hj'
              by_cases h1 : j' < j + (cellsT x).length
              · rw [if_pos h1] at hj'
                by_cases h2 : j' < j
                · rw [if_pos h2, if_pos h2] at hj'
                  obtain ⟨u, hu, hrd⟩ := hr r j' t hi hj'
                  exact ⟨u, by rw [hout _ (.inl (by rw [hz]; omega))]; exact hu, hrd⟩
                · rw [if_neg h2] at hj'
                  have h3 : j' - j < xv.cells.toList.length := by rw [hlen]; omega
                  have h4 := hin (j' - j) h3
                  rw [List.getElem?_eq_getElem h3] at h4
                  refine ⟨_, by rw [← hz, show r * E.z k + j' = r * E.z k + j + (j' - j) by omega]; exact h4, hxt _ _ _ hj' ?_⟩
                  simp
              · rw [if_neg h1] at hj'
                have hj'' : (row r)[j']? = some t := by
                  rw [← hj']
                  congr 1
                  omega
                obtain ⟨u, hu, hrd⟩ := hr r j' t hi hj''
                exact ⟨u, by rw [hout _ (.inr (by rw [hlen, hz]; omega))]; exact hu, hrd⟩
            · rename_i hbeq
              have hne : r ≠ i := Nat.ne_of_beq_eq_false hbeq
              obtain ⟨u, hu, hrd⟩ := hr r j' t hr' hj'
              have hj'' : j' < sz := by
                have := (List.getElem?_eq_some_iff.1 hj').1
                rw [hl r hr'] at this
                exact this
              exact ⟨u, by rw [hout _ (by rw [hlen, hz]; exact rows_apart hne hj hj'')]; exact hu, hrd⟩
      · cases he
    · rename_i ty l hk hsz hpx hone
      split at he
      · rename_i m
        simp only [Option.some.injEq, Prod.mk.injEq] at he
        obtain ⟨rfl, rfl⟩ := he
        obtain ⟨hi, hm⟩ : i < l.length ∧ Rng .u8 m := hs
        obtain ⟨hL, ⟨hz, hn, hl, hold1, hcl, cs, ty', hb, hcs, hr⟩, hN⟩ := h.heap.live _ _ hk
        simp only [Ob.toArr] at hz hn hl hold1 hcl hcs hr
        rw [rd_int hx]
        obtain ⟨w', hst, ho, ht, hp, hsize, hoth, cs', hb', hcs', hout, hin⟩ := setCells_same P w (E.β k) (i * E.z k + 0) ty' cs [.int .u8 m] hb (by simp only [List.length_singleton]; rw [hcs, hz]; omega) (by simp [Value.oneCell'])
        refine ⟨w', ?_, ?_⟩
        · simp only [Instr.storeAt, Instr.sureAddr, storeVar, Sem.run_bind, Sem.run_pure, Result.andThen_ok, (cellsB_ok (w := w) hsz).1]
          simp only [cellsT, Value.cells, List.length_singleton, List.size_toArray, ne_eq, not_true_eq_false, if_false]
          exact hst
        · refine h.write hk ho ht hp (by omega) (fun b _ hne => hoth b hne) (.bys ty (l.set i (ofI m))) cs' ty' hb' (by rw [hz]; rfl) (by rw [hcs', hcs, hz]) (by simp only [Ob.toArr, List.length_set]; exact hn) (fun r hr' => rfl) (fun r t hr' ht => by simp [Ob.toArr, byRow] at ht; subst ht; rfl) (fun _ r t hr' ht => by simp [Ob.toArr, byRow] at ht; subst ht; rfl) (fun r j' t hr' hj' => ?_)
          simp only [Ob.toArr, List.length_set] at hr' hj' ⊢
          have hj0 : j' = 0 := by
            have := (List.getElem?_eq_some_iff.1 hj').1
            simp [byRow] at this
            exact this
          subst hj0
          simp only [byRow, List.getElem?_cons_zero, Option.some.injEq] at hj'
          subst hj'
          by_cases he : r = i
          · subst he
            have h4 := hin 0 (by simp)
            refine ⟨.int .u8 m, ?_, ?_⟩
            · rw [hz] at h4
              simpa using h4
            · rw [show ((l.set r (ofI m)).getD r 0) = ofI m by simp [List.getD, hi], ofI_eq hm]
              exact .int _ _
          · obtain ⟨u, hu, hrd⟩ := hr r 0 _ hr' (by simp [byRow]; rfl)
            refine ⟨u, by rw [hout _ (by rw [hz]; simp only [List.length_singleton]; omega)]; exact hu, ?_⟩
            rw [show ((l.set i (ofI m)).getD r 0) = l.getD r 0 by simp [List.getD, Ne.symm he]]
            exact hrd
      · cases he
    · cases he
  · cases he

end
end Go.SS
