/- A calculus of symbolic states: operations that lay or write memory, together. -/
import Derived.Test.YtndilbkocjlgpaaGreatSS10
namespace Go.SS
open Go.RowKit
section
variable {c : Ctx} {E : Env} {H : Heap} {w w' : World} {P : Program}

def Env.addN (E : Env) (p : Nat -> Prop) : Env := { E with N := fun b => E.N b ∨ p b }

theorem Env.addN_le (E : Env) (p : Nat -> Prop) : E.le (E.addN p) := ⟨fun _ h => .inl h, fun _ h => h, fun _ _ => rfl, fun _ _ => rfl, fun _ _ => rfl, fun _ _ h => h, fun _ _ _ _ _ => rfl, fun _ _ _ _ _ => rfl⟩

theorem Inv.grow (h : Inv c E H w) (ho : w'.os = w.os) (ht : w'.tape = w.tape) (hp : w'.output = w.output) (hsz : w.heap.size <= w'.heap.size) (hw : ∀ b, b < w.heap.size -> w'.heap[b]? = w.heap[b]?) :
  Inv c (E.addN fun b => w.heap.size <= b /\ b < w'.heap.size) H w' /\ Step E w (E.addN fun b => w.heap.size <= b /\ b < w'.heap.size) w' := by
 have hstep : Step E w (E.addN fun b => w.heap.size <= b /\ b < w'.heap.size) w' := ⟨E.addN_le _, fun b hb => hw b (h.nlt b hb), fun _ h => .inl h⟩
 refine ⟨⟨⟨fun k ob hk => ?_, h.heap.inj, h.heap.lt, h.heap.l2, h.heap.cur⟩, fun b hb => ?_, fun b hb => ?_, h.bnew, h.fr.heap ho ht hp hsz (fun b h1 h2 => hw b (by have := h.fr.size; omega)), h.keep.step hstep⟩, hstep⟩
 ·obtain ⟨h1, h2, h3⟩ := h.heap.live k ob hk; refine ⟨h1, h2.mono h1 hstep (fun b hb => hw b (h2.blt hb)), fun b hb hN => ?_⟩
  have hb : Blk E k ob b := hb; rcases hN with hN | hN
  ·exact h3 b hb hN
  ·have := h2.blt hb; have := hN.1; omega
 ·rcases hb with hb | hb
  ·have := h.nlt b hb; omega
  ·exact hb.2
 ·rcases hb with hb | hb
  ·exact h.nnew b hb
  ·have := h.fr.size; exact .inr (.inl (by omega))

theorem strBytes_ok (h : Inv c E H w) {src dst e : TypeId} {l : List UInt8} (hs : P.underlying src = some .string) (hd : P.underlying dst = some (.slice e)) (he : isByteT P e = true) :
  ∃ r w' E', (convert src dst (.string ⟨l.toArray⟩)).run P w = .ok r w' /\ Rd E' w' (.bys l) r /\ Inv c E' H w' /\ Step E w E' w' := by
 have hrun := run_bytes_of_string (P := P) w src dst e ⟨l.toArray⟩ hs hd (isByteT_ok he).1; have hsz : (ByteArray.mk l.toArray).size = l.length := by simp [ByteArray.size]
 rw [hsz] at hrun; refine ⟨_, _, _, hrun, ?_, h.grow (w' := w.drew.alloc _) rfl rfl rfl (by simp) (fun b hb => heap_alloc_old w.drew _ hb)⟩
 have hge := grownCap_ge w l.length 0 e; refine .bys l w.heap.size 0 _ (.inr ⟨Nat.le_refl _, by simp⟩) hge (fun i x hx => ?_)
 have hlt : i < l.length := (List.getElem?_eq_some_iff.1 hx).1
 have hnew := heap_alloc_new w.drew (.cells (bytesRow ⟨l.toArray⟩ (grownCap w l.length 0 e)) e ((bytesRow ⟨l.toArray⟩ (grownCap w l.length 0 e)).size, (bytesRow ⟨l.toArray⟩ (grownCap w l.length 0 e)).size + 1)); have hcell := cell_of_heap (i := 0 + i) hnew; refine hcell.trans ?_
 rw [Nat.zero_add, bytesRow_at ⟨l.toArray⟩ _ i (by simpa using hlt)]
 simp only [List.getElem_toArray]; rw [(List.getElem?_eq_some_iff.1 hx).2]

theorem tmp_ok (h : Inv c E H w) {a : Act} {s : Slots} {t : TypeId} {len : Nat} {parts : Array (Nat × Operand)} {y : T} {side : Option Prop} (he : evTmp P s (.buildSlice t len parts) = some (y, side)) (hop : ∀ p ∈ parts.toList, OpOk E w a s p.2) :
  ∃ r w' E', (Instr.buildSlice t len (parts.map fun (i, x) => (i, a.eval x))).run P w = .ok r w' /\ Rd E' w' y r /\ Inv c E' H w' /\ Step E w E' w' := by
 simp only [evTmp] at he; split at he
 ·rename_i e hu; split at he
  ·rename_i i z hi hz; split at he
   ·rename_i h1 h2 h3; split at he
    ·rename_i cs hfill; split at he
     ·rename_i _ hone hcl; simp only [Option.some.injEq, Prod.mk.injEq] at he; obtain ⟨rfl, rfl⟩ := he; obtain ⟨us, hrun, hout, hcslen⟩ := build_run h hu hi hz h1 h2 h3 hfill hop; obtain ⟨a1, a2, a3, a4, a5⟩ := alloc_facts w (.cells us e); obtain ⟨hI, hS⟩ := h.grow (w' := w.alloc (.cells us e)) a1 a2 a3 (by simp) a4
      have at_ : ∀ r j t, r < len -> ((cs.drop (r * i.size)).take i.size)[j]? = some t -> cs[r * i.size + j]? = some t /\ us[r * i.size + j]? = some (us.getD (r * i.size + j) undef) := by
       intro r j t hr hj; rw [List.getElem?_take] at hj
       split at hj
       ·rw [List.getElem?_drop] at hj
        have hlt := (List.getElem?_eq_some_iff.1 hj).1
        refine ⟨hj, ?_⟩
        have hlu : r * i.size + j < us.size := by have := hout.1; omega
        rw [Array.getD_eq_getD_getElem?, Array.getElem?_eq_getElem hlu]
        rfl
       ·cases hj
      refine ⟨_, _, _, hrun, ?_, hI, hS⟩
      refine .sl i.size len _ w.heap.size 0 len (fun r j => us.getD (r * i.size + j) undef) (.inr ⟨Nat.le_refl _, by simp⟩) (Nat.le_refl _) (fun r hr => ?_) (fun r t hr ht => ?_) (fun r j t hr hj => ?_) (fun r j t hr hj => ?_)
      ·have : (r + 1) * i.size <= len * i.size := Nat.mul_le_mul_right _ hr; rw [Nat.add_mul] at this; simp only [List.length_take, List.length_drop]; omega
      ·have hm := List.mem_of_mem_drop (List.mem_of_mem_take ht); exact ⟨List.all_eq_true.1 hone t hm, List.all_eq_true.1 hcl t hm⟩
      ·rw [Nat.zero_add]; exact (cell_of_heap a5).trans (at_ r j t hr hj).2
      ·obtain ⟨q1, q2⟩ := at_ r j t hr hj; exact hS.rd (hout.2 _ _ _ q1 q2)
     ·cases he
    ·cases he
   ·cases he
  ·cases he
 ·cases he

theorem pushEmp (h : Inv c E H w) (ty : TypeId) (sz : Nat) : Inv c (E.push H.length 0 0 sz) (H ++ [some (.arr true ty sz 0 fun _ => [])]) w /\ Step E w (E.push H.length 0 0 sz) w :=
 h.push (ob := .arr true ty sz 0 fun _ => []) rfl rfl rfl (Nat.le_refl _) (fun _ _ => rfl) 0 0 #[] 0 (fun h => absurd rfl h) (fun h => absurd rfl h) (by simp) (Nat.le_refl 0) (fun i hi => absurd hi (Nat.not_lt_zero _)) (fun i t hi => absurd hi (Nat.not_lt_zero _)) (fun _ i t hi => absurd hi (Nat.not_lt_zero _)) (fun i j t hi => absurd hi (Nat.not_lt_zero _))

theorem rd_emp {k sz : Nat} (a : Option Addr) : Rd (E.push k 0 0 sz) w (.osl k 0 0) (.slice a 0 0) := by
 have := Rd.osl (E := E.push k 0 0 sz) (w := w) k 0 0 0 a (.inr rfl) (Nat.zero_le _) (fun _ => by simp) (fun h => absurd (if_pos rfl) h)
 rwa [show (E.push k 0 0 sz).κ k = 0 from if_pos rfl] at this

theorem isSlT_ok {x : T} {v : Value} (h : isSlT x = true) (hx : Rd E w x v) : ∃ a n m, v = .slice a n m := by
 cases hx with
 | slNil => exact ⟨_, _, _, rfl⟩
 | sl => exact ⟨_, _, _, rfl⟩
 | slEmp => exact ⟨_, _, _, rfl⟩
 | osl => exact ⟨_, _, _, rfl⟩
 | posl => exact ⟨_, _, _, rfl⟩
 | v x =>
  unfold isSlT at h; split at h
  ·rename_i hh; cases hh
  ·rename_i hh; cases hh
  ·rename_i hh; cases hh
  ·rename_i hh; simp only [T.v.injEq] at hh; exact ⟨_, _, _, hh⟩
  ·cases h
 | _ => simp [isSlT] at h

theorem isZ_ok {x : T} {v : Value} (h : isZ x = true) (hx : Rd E w x v) : ∃ k, v = .int k 0 := by
 unfold isZ at h; split at h
 ·rename_i k i; rw [rd_int hx, of_decide_eq_true h]; exact ⟨_, rfl⟩
 ·cases h

theorem slice0_ok (h : Inv c E H w) {t : TypeId} {x hi mx y : T} {lo : Option T} {v hv mv : Value} {lv : Option Value} {H' : Heap} {side : Option Prop} (he : evSlice0 P H t x lo hi mx = some (y, H', side)) (hx : Rd E w x v)
  (hlo : ∀ x, lo = some x -> ∃ v, lv = some v /\ Rd E w x v) (hlo' : lo = none -> lv = none) (hhi : Rd E w hi hv) (hmx : Rd E w mx mv) :
  ∃ r E', (Instr.sliceAt t v lv (some hv) (some mv)).run P w = .ok r w /\ Rd E' w y r /\ Inv c E' H' w /\ Step E w E' w := by
 unfold evSlice0 at he; split at he
 ·rename_i e hu hb; simp only [Bool.and_eq_true] at hb; obtain ⟨⟨⟨b1, b2⟩, b3⟩, b4⟩ := hb; split at he
  ·rename_i i hi; split at he
   ·rename_i hz hc; simp only [Option.some.injEq, Prod.mk.injEq] at he; obtain ⟨rfl, rfl, rfl⟩ := he; obtain ⟨a, n, m, rfl⟩ := isSlT_ok b1 hx; obtain ⟨k1, rfl⟩ := isZ_ok b3 hhi; obtain ⟨k2, rfl⟩ := isZ_ok b4 hmx; have hl : lv = none ∨ ∃ k3, lv = some (.int k3 0) := by
     cases lo with
     | none => exact .inl (hlo' rfl)
     | some t0 =>
      obtain ⟨v0, hv0, hr0⟩ := hlo t0 rfl; obtain ⟨k3, rfl⟩ := isZ_ok b2 hr0; exact .inr ⟨k3, hv0⟩
    obtain ⟨g1, g2⟩ := pushEmp h e i.size; refine ⟨.slice a 0 0, _, ?_, rd_emp a, g1, g2⟩
    rcases hl with rfl | ⟨k3, rfl⟩
    ·simp [Instr.sliceAt, Instr.slice, run_underlying hu, Instr.sliceBounds, Instr.sliceBound, Result.andThen, asIntOf, (cellsB_ok (w := w) hc).1]
    ·simp [Instr.sliceAt, Instr.slice, run_underlying hu, Instr.sliceBounds, Instr.sliceBound, Result.andThen, asIntOf, (cellsB_ok (w := w) hc).1]
   ·cases he
  ·cases he
 ·cases he

theorem mem_ok (h : Inv c E H w) {a : Act} {s : Slots} {o : Oper} {y : T} {H' : Heap} {side : Option Prop} (he : evMem P s H o.op = some (y, H', side)) (hs : side.getD True) (hop : ∀ x ∈ seen o.op, OpOk E w a s x) :
  ∃ w' E', ((∃ v, (execOp a.eval o).run P w = .ok (.value v) w' /\ Rd E' w' y v) ∨ ((execOp a.eval o).run P w = .ok .skip w' /\ y = .und)) /\ Inv c E' H' w' /\ Step E w E' w' := by
 have lift : ∀ {m : Sem Value} {v : Value} {w' : World}, m.run P w = .ok v w' -> (do pure (Next.value (← m)) : Sem Next).run P w = .ok (.value v) w' := by
  intro m v w' hm; simp only [Sem.run_bind, hm, Result.andThen_ok, Sem.run_pure]
 obtain ⟨dst, op, ty, pos, after, guard⟩ := o; simp only at he hop ⊢; unfold evMem at he; split at he
 case h_1 t x =>
  split at he
  ·rename_i hp; have hx := hop x (by simp [seen, Op.operands])
   obtain ⟨E', h1, h2, h3⟩ := box_ok h he (rdL_cells hx hp); refine ⟨_, E', .inl ⟨_, ?_, h3⟩, h1, h2⟩
   refine lift (m := Instr.box t (a.eval x)) ?_
   simp only [Instr.box, newVar, newRow, Sem.run_bind, run_newObj, Result.andThen_ok, Sem.run_pure]; rfl
  ·cases he
 case h_2 t =>
  split at he
  ·rename_i z hz; obtain ⟨v, hv, hrl, _⟩ := zero_ok (E := E) (w := w) hz; obtain ⟨E', h1, h2, h3⟩ := box_ok h he hrl; refine ⟨_, E', .inl ⟨_, ?_, h3⟩, h1, h2⟩
   refine lift (m := Instr.alloc t true (.tuple #[])) ?_
   simp only [Instr.alloc, newVar, newRow, Sem.run_bind, hv, run_newObj, Result.andThen_ok, Sem.run_pure]; rfl
  ·cases he
 case h_3 t ad x =>
  cases hst : evStore P H t (opT s ad) (opT s x) with
  | none => rw [hst] at he; cases he
  | some r =>
   rw [hst] at he; simp only [Option.map_some, Option.some.injEq, Prod.mk.injEq] at he; obtain ⟨rfl, rfl, rfl⟩ := he; obtain ⟨w', E', hrun, h1, h2⟩ := store_ok (P := P) h hst hs (hop ad (by simp [seen, Op.operands])) (hop x (by simp [seen, Op.operands]))
   refine ⟨w', E', .inr ⟨?_, rfl⟩, h1, h2⟩
   simp only [execOp, Sem.run_bind, hrun, Result.andThen_ok, Sem.run_pure]
 case h_4 t l m =>
  obtain ⟨r, w', E', hrun, h1, h2, h3⟩ := make_ok (P := P) h he hs (hop l (by simp [seen, Op.operands])) (hop m (by simp [seen, Op.operands]))
  exact ⟨w', E', .inl ⟨r, lift hrun, h1⟩, h2, h3⟩
 case h_5 t len parts =>
  obtain ⟨r, w', E', hrun, h1, h2, h3⟩ := buildSlice_ok (P := P) (a := a) h he hs (fun p hp => hop p.2 (by simp only [seen, Op.operands, List.mem_map]; exact ⟨p, hp, rfl⟩))
  exact ⟨w', E', .inl ⟨r, lift hrun, h1⟩, h2, h3⟩
 case h_6 src dst' x =>
  split at he
  ·rename_i e l hu hd hx; split at he
   ·rename_i hb; simp only [Option.some.injEq, Prod.mk.injEq] at he; obtain ⟨rfl, rfl, rfl⟩ := he; have hxo := hop x (by simp [seen, Op.operands])
    unfold OpOk at hxo; rw [hx] at hxo; obtain ⟨r, w', E', hrun, h1, h2, h3⟩ := strBytes_ok (P := P) (l := l) h hu hd hb; refine ⟨w', E', .inl ⟨r, lift (m := convert src dst' (a.eval x)) ?_, h1⟩, h2, h3⟩
    rw [rd_str hxo]; exact hrun
   ·cases he
  ·cases he
 case h_7 args argTypes =>
  split at he
  ·rename_i d x t tx ha hat; obtain rfl : args = #[d, x] := Array.ext' (by simpa using ha)
   obtain rfl : argTypes = #[t, tx] := Array.ext' (by simpa using hat)
   obtain ⟨r, w', E', hrun, h1, h2, h3⟩ := append_ok (P := P) (ty := ty) h he hs (hop d (by simp [seen, Op.operands, Call.operands])) (hop x (by simp [seen, Op.operands, Call.operands]))
   refine ⟨w', E', .inl ⟨r, ?_, h1⟩, h2, h3⟩
   simp [execOp, resolve, invoke, builtin, hrun, Result.andThen]
  ·cases he
 case h_8 t =>
  cases hst : evMakeMap P H t with
  | none => rw [hst] at he; cases he
  | some r =>
   rw [hst] at he; simp only [Option.map_some, Option.some.injEq, Prod.mk.injEq] at he; obtain ⟨rfl, rfl, rfl⟩ := he; obtain ⟨r', w', E', hrun, h1, h2, h3⟩ := makeMap_ok (P := P) h hst; exact ⟨w', E', .inl ⟨r', lift (m := Instr.makeMap t none) hrun, h1⟩, h2, h3⟩
 case h_9 t m k x =>
  split at he
  ·rename_i r hst; simp only [Option.some.injEq, Prod.mk.injEq] at he; obtain ⟨rfl, rfl, rfl⟩ := he; obtain ⟨w', hrun, h1, h2⟩ := mapUp_ok (P := P) h hst (hop m (by simp [seen, Op.operands])) (hop k (by simp [seen, Op.operands])) (hop x (by simp [seen, Op.operands]))
   refine ⟨w', E, .inr ⟨?_, rfl⟩, h1, h2⟩
   simp only [execOp, Sem.run_bind, hrun, Result.andThen_ok, Sem.run_pure]
  ·cases hst : evMapUp2 P H t (opT s m) (opT s k) (opT s x) with
   | none => rw [hst] at he; cases he
   | some r =>
    rw [hst] at he; simp only [Option.map_some, Option.some.injEq, Prod.mk.injEq] at he; obtain ⟨rfl, rfl, rfl⟩ := he; obtain ⟨w', hrun, h1, h2⟩ := mapUp2_ok (P := P) h hst hs (hop m (by simp [seen, Op.operands])) (hop k (by simp [seen, Op.operands])) (hop x (by simp [seen, Op.operands]))
    refine ⟨w', E, .inr ⟨?_, rfl⟩, h1, h2⟩
    simp only [execOp, Sem.run_bind, hrun, Result.andThen_ok, Sem.run_pure]
 case h_10 t x lo hi mx =>
  obtain ⟨r, E', hrun, h1, h2, h3⟩ := slice0_ok (P := P) (lv := lo.map a.eval) h he (hop x (by simp [seen, Op.operands])) (fun t ht => by
   cases lo with
   | none => cases ht
   | some q =>
    simp only [Option.map_some, Option.some.injEq] at ht; subst ht; exact ⟨_, rfl, hop q (by simp [seen, Op.operands])⟩) (fun hn => by
   cases lo with
   | none => rfl
   | some q => cases hn) (hop hi (by simp [seen, Op.operands])) (hop mx (by simp [seen, Op.operands]))
  exact ⟨w, E', .inl ⟨r, lift hrun, h1⟩, h2, h3⟩
 case h_11 => cases he

end
end Go.SS
