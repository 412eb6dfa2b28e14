/- A calculus of symbolic states: operations that lay or write memory, together. -/
import Derived.Test.YtjbomnjmcbhadaaGreatSS10
namespace Go.SS
open Go.RowKit
section
variable {c : Ctx} {E : Env} {H : Heap} {w w' : World} {P : Program}

def Env.addN (E : Env) (p : Nat → Prop) : Env := { E with N := fun b => E.N b ∨ p b }

theorem Env.addN_le (E : Env) (p : Nat → Prop) : E.le (E.addN p) := ⟨fun _ h => .inl h, fun _ h => h, fun _ _ => rfl, fun _ _ => rfl, fun _ _ => rfl, fun _ _ h => h, fun _ _ _ _ _ => rfl, fun _ _ _ _ _ => rfl⟩

/-- The world has grown by blocks that nobody writes to. -/
theorem Inv.grow (h : Inv c E H w) (ho : w'.os = w.os) (ht : w'.tape = w.tape) (hp : w'.output = w.output) (hsz : w.heap.size ≤ w'.heap.size) (hw : ∀ b, b < w.heap.size → w'.heap[b]? = w.heap[b]?) :
    Inv c (E.addN fun b => w.heap.size ≤ b ∧ b < w'.heap.size) H w' ∧ Step E w (E.addN fun b => w.heap.size ≤ b ∧ b < w'.heap.size) w' := by
  have hstep : Step E w (E.addN fun b => w.heap.size ≤ b ∧ b < w'.heap.size) w' := ⟨E.addN_le _, fun b hb => hw b (h.nlt b hb)⟩
  refine ⟨⟨⟨fun k ob hk => ?_, h.heap.inj, h.heap.lt, h.heap.l2, h.heap.cur⟩, fun b hb => ?_, fun b hb => ?_, h.bnew, h.fr.heap ho ht hp hsz (fun b h1 h2 => hw b (by have := h.fr.size; omega)), h.keep.step hstep⟩, hstep⟩
  · obtain ⟨h1, h2, h3⟩ := h.heap.live k ob hk
    refine ⟨h1, h2.mono h1 hstep (fun b hb => hw b (h2.blt hb)), fun b hb hN => ?_⟩
    have hb : Blk E k ob b := hb
    rcases hN with hN | hN
    · exact h3 b hb hN
    · have := h2.blt hb
      have := hN.1
      omega
  · rcases hb with hb | hb
    · have := h.nlt b hb; omega
    · exact hb.2
  · rcases hb with hb | hb
    · exact h.nnew b hb
    · have := h.fr.size; exact .inr (.inl (by omega))

theorem strBytes_ok (h : Inv c E H w) {src dst e : TypeId} {l : List UInt8} (hs : P.underlying src = some .string) (hd : P.underlying dst = some (.slice e)) (he : isByteT P e = true) :
    ∃ r w' E', (convert src dst (.string ⟨l.toArray⟩)).run P w = .ok r w' ∧ Rd E' w' (.bys l) r ∧ Inv c E' H w' ∧ Step E w E' w' := by
  have hrun := run_bytes_of_string (P := P) w src dst e ⟨l.toArray⟩ hs hd (isByteT_ok he).1
  have hsz : (ByteArray.mk l.toArray).size = l.length := by simp [ByteArray.size]
  rw [hsz] at hrun
  refine ⟨_, _, _, hrun, ?_, h.grow (w' := w.drew.alloc _) rfl rfl rfl (by simp) (fun b hb => heap_alloc_old w.drew _ hb)⟩
  have hge := grownCap_ge w l.length 0 e
  refine .bys l w.heap.size 0 _ (.inr ⟨Nat.le_refl _, by simp⟩) hge (fun i x hx => ?_)
  have hlt : i < l.length := (List.getElem?_eq_some_iff.1 hx).1
  have hnew := heap_alloc_new w.drew (.cells (bytesRow ⟨l.toArray⟩ (grownCap w l.length 0 e)) e ((bytesRow ⟨l.toArray⟩ (grownCap w l.length 0 e)).size, (bytesRow ⟨l.toArray⟩ (grownCap w l.length 0 e)).size + 1))
  have hcell := cell_of_heap (i := 0 + i) hnew
  refine hcell.trans ?_
  rw [Nat.zero_add, bytesRow_at ⟨l.toArray⟩ _ i (by simpa using hlt)]
  simp only [List.getElem_toArray]
  rw [(List.getElem?_eq_some_iff.1 hx).2]

theorem mem_ok (h : Inv c E H w) {a : Act} {s : Slots} {o : Oper} {y : T} {H' : Heap} {side : Option Prop} (he : evMem P s H o.op = some (y, H', side)) (hs : side.getD True) (hop : ∀ x ∈ seen o.op, OpOk E w a s x) :
    ∃ w' E', ((∃ v, (execOp a.eval o).run P w = .ok (.value v) w' ∧ Rd E' w' y v) ∨ ((execOp a.eval o).run P w = .ok .skip w' ∧ y = .und)) ∧ Inv c E' H' w' ∧ Step E w E' w' := by
  have lift : ∀ {m : Sem Value} {v : Value} {w' : World}, m.run P w = .ok v w' → (do pure (Next.value (← m)) : Sem Next).run P w = .ok (.value v) w' := by
    intro m v w' hm
    simp only [Sem.run_bind, hm, Result.andThen_ok, Sem.run_pure]
  obtain ⟨dst, op, ty, pos, after, guard⟩ := o
  simp only at he hop ⊢
  unfold evMem at he
  split at he
  case h_1 t x =>
    split at he
    · rename_i hp
      have hx := hop x (by simp [seen, Op.operands])
      obtain ⟨E', h1, h2, h3⟩ := box_ok h he (rdL_cells hx hp)
      refine ⟨_, E', .inl ⟨_, ?_, h3⟩, h1, h2⟩
      refine lift (m := Instr.box t (a.eval x)) ?_
      simp only [Instr.box, newVar, newRow, Sem.run_bind, run_newObj, Result.andThen_ok, Sem.run_pure]
      rfl
    · cases he
  case h_2 t =>
    split at he
    · rename_i z hz
      obtain ⟨v, hv, hrl, _⟩ := zero_ok (E := E) (w := w) hz
      obtain ⟨E', h1, h2, h3⟩ := box_ok h he hrl
      refine ⟨_, E', .inl ⟨_, ?_, h3⟩, h1, h2⟩
      refine lift (m := Instr.alloc t true (.tuple #[])) ?_
      simp only [Instr.alloc, newVar, newRow, Sem.run_bind, hv, run_newObj, Result.andThen_ok, Sem.run_pure]
      rfl
    · cases he
  case h_3 t ad x =>
    cases hst : evStore P H t (opT s ad) (opT s x) with
    | none => rw [hst] at he; cases he
    | some r =>
      rw [hst] at he
      simp only [Option.map_some, Option.some.injEq, Prod.mk.injEq] at he
      obtain ⟨rfl, rfl, rfl⟩ := he
      obtain ⟨w', E', hrun, h1, h2⟩ := store_ok (P := P) h hst hs (hop ad (by simp [seen, Op.operands])) (hop x (by simp [seen, Op.operands]))
      refine ⟨w', E', .inr ⟨?_, rfl⟩, h1, h2⟩
      simp only [execOp, Sem.run_bind, hrun, Result.andThen_ok, Sem.run_pure]
  case h_4 t l m =>
    obtain ⟨r, w', E', hrun, h1, h2, h3⟩ := make_ok (P := P) h he hs (hop l (by simp [seen, Op.operands])) (hop m (by simp [seen, Op.operands]))
    exact ⟨w', E', .inl ⟨r, lift hrun, h1⟩, h2, h3⟩
  case h_5 t len parts =>
    obtain ⟨r, w', E', hrun, h1, h2, h3⟩ := buildSlice_ok (P := P) (a := a) h he hs (fun p hp => hop p.2 (by simp only [seen, Op.operands, List.mem_map]; exact ⟨p, hp, rfl⟩))
    exact ⟨w', E', .inl ⟨r, lift hrun, h1⟩, h2, h3⟩
  case h_6 src dst' x =>
    split at he
    · rename_i e l hu hd hx
      split at he
      · rename_i hb
        simp only [Option.some.injEq, Prod.mk.injEq] at he
        obtain ⟨rfl, rfl, rfl⟩ := he
        have hxo := hop x (by simp [seen, Op.operands])
        unfold OpOk at hxo
        rw [hx] at hxo
        obtain ⟨r, w', E', hrun, h1, h2, h3⟩ := strBytes_ok (P := P) (l := l) h hu hd hb
        refine ⟨w', E', .inl ⟨r, lift (m := convert src dst' (a.eval x)) ?_, h1⟩, h2, h3⟩
        rw [rd_str hxo]
        exact hrun
      · cases he
    · cases he
  case h_7 args argTypes =>
    split at he
    · rename_i d x t tx ha hat
      obtain rfl : args = #[d, x] := Array.ext' (by simpa using ha)
      obtain rfl : argTypes = #[t, tx] := Array.ext' (by simpa using hat)
      obtain ⟨r, w', E', hrun, h1, h2, h3⟩ := append_ok (P := P) (ty := ty) h he hs (hop d (by simp [seen, Op.operands, Call.operands])) (hop x (by simp [seen, Op.operands, Call.operands]))
      refine ⟨w', E', .inl ⟨r, ?_, h1⟩, h2, h3⟩
      simp [execOp, resolve, invoke, builtin, hrun, Result.andThen]
    · cases he
  case h_8 t =>
    cases hst : evMakeMap P H t with
    | none => rw [hst] at he; cases he
    | some r =>
      rw [hst] at he
      simp only [Option.map_some, Option.some.injEq, Prod.mk.injEq] at he
      obtain ⟨rfl, rfl, rfl⟩ := he
      obtain ⟨r', w', E', hrun, h1, h2, h3⟩ := makeMap_ok (P := P) h hst
      exact ⟨w', E', .inl ⟨r', lift (m := Instr.makeMap t none) hrun, h1⟩, h2, h3⟩
  case h_9 t m k x =>
    cases hst : evMapUp P H t (opT s m) (opT s k) (opT s x) with
    | none => rw [hst] at he; cases he
    | some r =>
      rw [hst] at he
      simp only [Option.map_some, Option.some.injEq, Prod.mk.injEq] at he
      obtain ⟨rfl, rfl, rfl⟩ := he
      obtain ⟨w', hrun, h1, h2⟩ := mapUp_ok (P := P) h hst (hop m (by simp [seen, Op.operands])) (hop k (by simp [seen, Op.operands])) (hop x (by simp [seen, Op.operands]))
      refine ⟨w', E, .inr ⟨?_, rfl⟩, h1, h2⟩
      simp only [execOp, Sem.run_bind, hrun, Result.andThen_ok, Sem.run_pure]
  case h_10 => cases he

end
end Go.SS
