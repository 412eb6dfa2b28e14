/- A calculus of symbolic states: an operation of whatever kind. -/
import Derived.Test.YtjbomnjmcbhadaaSSR
namespace Go.SS
open Go.RowKit
section
variable {c : Ctx} {E : Env} {H : Heap} {w : World} {P : Program} {G : Gam}

theorem pure_ok (hG : GamOk P G) (h : Inv c E H w) {f : FuncId} {args : List T} {vs : Array Value} {r : T} {p : Option Prop} (he : evPure G H f args = some (r, p)) (hp : p.getD True) (ha : RdL E w args vs) :
    Calls P f vs w fun e w' => ∃ v E', e = .returned v ∧ Inv c E' H w' ∧ Step E w E' w' ∧ Rd E' w' r v := by
  unfold evPure at he
  split at he
  · rename_i hcl
    have hpf := gam_ok hG he hp
    have := hpf { E with L := fun _ => False } w vs (fun _ h => h) h.nlt ⟨ha.1, fun i t x hi hx => Rd.closedD (E := E) (E' := { E with L := fun _ => False }) (fun _ h => h) 6 (ha.2 i t x hi hx) (List.all_eq_true.1 hcl t (List.mem_of_getElem? hi))⟩
    refine this.mono fun e w' hh => ?_
    obtain ⟨v, rfl, hb, hr⟩ := hh
    obtain ⟨h1, h2⟩ := h.grow hb.os hb.tape hb.output hb.size hb.block
    exact ⟨v, _, rfl, h1, h2, Rd.mono (E := ({ E with L := fun _ => False } : Env).addN fun b => w.heap.size ≤ b ∧ b < w'.heap.size) (E' := E.addN fun b => w.heap.size ≤ b ∧ b < w'.heap.size) ⟨fun _ h => h, fun _ h => False.elim h, fun _ h => False.elim h, fun _ h => False.elim h, fun _ h => False.elim h⟩ (fun _ _ => rfl) hr⟩
  · split at he
    · rename_i bs hbs
      split at he
      · rename_i r' p' hg
        split at he
        · rename_i hpl
          simp only [Option.some.injEq, Prod.mk.injEq] at he
          obtain ⟨rfl, rfl⟩ := he
          obtain ⟨hp1, hp2⟩ := andOO_ok hp
          have hpf := gam_ok hG hg hp2
          obtain ⟨b1, b2⟩ := mapO_ok hbs
          have := hpf (E.lent 0 H) w vs (fun _ h => absurd h.2 (Nat.not_lt_zero _)) (fun b hb => by
            rcases hb with hb | ⟨k, ob, _, hk, rfl⟩
            · exact h.nlt b hb
            · exact h.blt k (h.heap.live k ob hk).1) ⟨by simp [b1, ha.1], fun i t x hi hx => by
              simp only [List.getElem?_map, Option.map_eq_some_iff] at hi
              obtain ⟨y, hy, rfl⟩ := hi
              have hlt : i < args.length := by rw [← b1]; exact (List.getElem?_eq_some_iff.1 hy).1
              have hc := List.getElem?_eq_getElem hlt
              exact borrow_ok h 6 (r := y.1) (p := y.2) (b2 i _ y hc hy) (sides_ok hp1 y (List.mem_of_getElem? hy)) (ha.2 i _ x hc hx)⟩
          refine this.mono fun e w' hh => ?_
          obtain ⟨v, rfl, hb, hr⟩ := hh
          obtain ⟨h1, h2⟩ := h.grow hb.os hb.tape hb.output hb.size hb.block
          exact ⟨v, _, rfl, h1, h2, hr.plain 6 hpl⟩
        · cases he
      · cases he
    · cases he

/-- What an operation leaves. -/
def After (c : Ctx) (E : Env) (w : World) (o : Oper) (a : Act) (y : T) (H' : Heap) (K : Act → World → Prop) : Prop :=
  ∀ v w' E', Inv c E' H' w' → Step E w E' w' → Rd E' w' y v → K (a.put o.dst v) w'

theorem value_wp {o : Oper} {a : Act} {K : Act → World → Prop} {Q : Exit → Act → World → Prop} {v : Value} {w' : World} (h : (execOp a.eval o).run P w = .ok (.value v) w') (hk : K (a.put o.dst v) w') : o.wp P a w K Q := by
  unfold Oper.wp
  rw [h]
  exact hk

theorem skip_wp {o : Oper} {a : Act} {K : Act → World → Prop} {Q : Exit → Act → World → Prop} {w' : World} (h : (execOp a.eval o).run P w = .ok .skip w') (hk : K (a.put o.dst undef) w') : o.wp P a w K Q := by
  unfold Oper.wp
  rw [h]
  exact hk

theorem enter_wp {o : Oper} {a : Act} {K : Act → World → Prop} {Q : Exit → Act → World → Prop} {f : FuncId} {vs : Array Value} {w' : World} (h : (execOp a.eval o).run P w = .ok (.enter f vs) w')
    (hk : Calls P f vs w' fun e w'' => ∃ v, e = .returned v ∧ K (a.put o.dst v) w'') : o.wp P a w K Q := by
  unfold Oper.wp
  rw [h, Oper.upon_enter]
  refine hk.mono fun e w'' hh => ?_
  obtain ⟨v, rfl, hv⟩ := hh
  exact hv

theorem fnOf_ok {a : Act} {s : Slots} {x : Operand} {f : FuncId} {cs : List T} (h : fnOf s x = some (f, cs)) (hx : OpOk E w a s x) : ∃ caps, a.eval x = .func (.func f) #[] caps ∧ RdL E w cs caps := by
  unfold fnOf at h
  split at h
  · simp only [Option.some.injEq, Prod.mk.injEq] at h
    obtain ⟨rfl, rfl⟩ := h
    exact ⟨#[], rfl, rfl, fun i t x hi => by simp at hi⟩
  · unfold OpOk at hx
    split at h
    · rename_i g cs' he
      simp only [Option.some.injEq, Prod.mk.injEq] at h
      obtain ⟨rfl, rfl⟩ := h
      rw [he] at hx
      generalize a.eval x = v at hx
      cases hx with
      | fn _ _ vs hl ht => exact ⟨vs, rfl, hl, ht⟩
    · rename_i g first caps he
      rw [he] at hx
      split at h
      · rename_i hf hc
        simp only [Option.some.injEq, Prod.mk.injEq] at h
        obtain ⟨rfl, rfl⟩ := h
        obtain rfl : first = #[] := Array.ext' (by simpa using hf)
        obtain rfl : caps = #[] := Array.ext' (by simpa using hc)
        exact ⟨#[], rd_v hx, rfl, fun i t x hi => by simp at hi⟩
      · cases h
    · cases h

/-- A function of the program that has a body. -/
def Callable (P : Program) (f : FuncId) : Prop := ∃ fn, P.funcs[f]? = some fn ∧ (fn.name == "runtime.NumGoroutine") = false ∧ fn.body.isNone = false

theorem call_run {a : Act} {o : Oper} {x : Operand} {args : Array Operand} {at_ : Array TypeId} {f : FuncId} {caps : Array Value} (ho : o.op = .call { callee := .value x, args := args, argTypes := at_ }) (hf : Callable P f) (hx : a.eval x = .func (.func f) #[] caps) :
    (execOp a.eval o).run P w = .ok (.enter f (args.map a.eval ++ caps)) w := by
  obtain ⟨fn, h1, h2, h3⟩ := hf
  simp only [execOp, ho, resolve, hx, Deferred.ofValue, Sem.run_bind, Sem.run_pure, Result.andThen_ok, invoke, callFunc, run_program, h1, h2, h3]
  simp

theorem rdL_append {as bs : List T} {us vs : Array Value} (h : RdL E w as us) (k : RdL E w bs vs) : RdL E w (as ++ bs) (us ++ vs) := by
  refine ⟨by simp [h.1, k.1], fun i t x hi hx => ?_⟩
  rw [List.getElem?_append] at hi
  rw [Array.getElem?_append] at hx
  rw [← h.1] at hx
  split at hi
  · rename_i hlt
    rw [if_pos hlt] at hx
    exact h.2 i t x hi hx
  · rename_i hlt
    rw [if_neg hlt] at hx
    exact k.2 _ t x hi hx

theorem rdL_ops {a : Act} {s : Slots} {args : Array Operand} (h : ∀ x ∈ args.toList, OpOk E w a s x) : RdL E w (args.toList.map (opT s)) (args.map a.eval) := by
  refine ⟨by simp, fun i t x hi hx => ?_⟩
  simp only [List.getElem?_map, Array.getElem?_map, Option.map_eq_some_iff, Array.getElem?_toList] at hi hx
  obtain ⟨p, hp, rfl⟩ := hi
  obtain ⟨q, hq, rfl⟩ := hx
  rw [hp] at hq
  simp only [Option.some.injEq] at hq
  subst hq
  exact h p (by simpa using Array.mem_of_getElem? hp)

/-- What is there is what is asked: so it is held, too. -/
theorem matV_ok : ∀ (d : Nat) {t t' : T} {E : Env} {w : World} {v : Value}, matV d t t' → Rd E w t v → Rd E w t' v := by
  intro d
  induction d with
  | zero => intro t t' E w v h; exact h.elim
  | succ d ih =>
    have list : ∀ {as bs : List T}, matV.matsV (matV d) as bs → as.length = bs.length ∧ ∀ (i : Nat) (a b : T), as[i]? = some a → bs[i]? = some b → matV d a b := by
      intro as
      induction as with
      | nil =>
        intro bs h
        cases bs with
        | nil => exact ⟨rfl, fun i a b ha => by simp at ha⟩
        | cons => exact h.elim
      | cons a as iha =>
        intro bs h
        cases bs with
        | nil => exact h.elim
        | cons b bs =>
          obtain ⟨h1, h2⟩ := iha h.2
          refine ⟨by simp [h1], fun i x y hx hy => ?_⟩
          cases i with
          | zero => simp at hx hy; subst hx; subst hy; exact h.1
          | succ i => exact h2 i x y (by simpa using hx) (by simpa using hy)
    intro t t' E w v h hx
    have rdl : ∀ {as bs : List T} {vs : Array Value}, matV.matsV (matV d) as bs → as.length = vs.size → (∀ (i : Nat) (t : T) (x : Value), as[i]? = some t → vs[i]? = some x → Rd E w t x) →
        bs.length = vs.size ∧ ∀ (i : Nat) (t : T) (x : Value), bs[i]? = some t → vs[i]? = some x → Rd E w t x := by
      intro as bs vs hm hl ht
      obtain ⟨h1, h2⟩ := list hm
      refine ⟨by omega, fun i t x hi hx => ?_⟩
      have hlt : i < as.length := by rw [h1]; exact (List.getElem?_eq_some_iff.1 hi).1
      exact ih (h2 i _ t (List.getElem?_eq_getElem hlt) hi) (ht i _ x (List.getElem?_eq_getElem hlt) hx)
    unfold matV at h
    split at h
    · exact .und _
    · split at h
      · rename_i hk
        obtain rfl := of_decide_eq_true hk
        subst h
        exact hx
      · exact h.elim
    · subst h; exact hx
    · subst h; exact hx
    · subst h; exact hx
    · subst h; rw [rd_v hx]; exact .slNil _ _
    · subst h; rw [rd_v hx]; exact .bysNil
    · subst h; exact hx
    · split at h
      · rename_i hb
        obtain rfl := Nat.eq_of_beq_eq_true hb
        obtain ⟨rfl, hr⟩ := h
        cases hx with
        | slNil => exact .slNil _ _
        | slEmp => exact .slEmp _ _ _
        | sl _ _ _ b off cap u hN hc hl h1 hr' ht =>
          exact .sl _ _ _ b off cap u hN hc (fun i hi => by rw [← hr i hi]; exact hl i hi) (fun i t hi hm => by rw [← hr i hi] at hm; exact h1 i t hi hm) (fun i j t hi hj => by rw [← hr i hi] at hj; exact hr' i j t hi hj) (fun i j t hi hj => by rw [← hr i hi] at hj; exact ht i j t hi hj)
      · exact h.elim
    · cases hx with
      | agg _ vs hl ht => obtain ⟨a1, a2⟩ := rdl h hl ht; exact .agg _ vs a1 a2
    · cases hx with
      | tup _ vs hl ht => obtain ⟨a1, a2⟩ := rdl h hl ht; exact .tup _ vs a1 a2
    · obtain ⟨rfl, h⟩ := h
      cases hx with
      | fn _ _ vs hl ht => obtain ⟨a1, a2⟩ := rdl h hl ht; exact .fn _ _ vs a1 a2
    · rename_i as bs
      split at h
      · rename_i hcl
        obtain ⟨h1, h2⟩ := list h
        cases hx with
        | bref _ b off u hN hc hr ht =>
          refine .bref _ b off u hN (fun t ht => List.all_eq_true.1 hcl t ht) (fun j t hj => ?_) (fun j t hj => ?_)
          · have hlt : j < as.length := by rw [h1]; exact (List.getElem?_eq_some_iff.1 hj).1
            exact hr j _ (List.getElem?_eq_getElem hlt)
          · have hlt : j < as.length := by rw [h1]; exact (List.getElem?_eq_some_iff.1 hj).1
            exact ih (h2 j _ t (List.getElem?_eq_getElem hlt) hj) (ht j _ (List.getElem?_eq_getElem hlt))
      · exact h.elim
    · exact h.elim

theorem grel_mem : ∀ {G : Gam} {f : FuncId} {r : Rl}, grel G f = some r → (f, Con.rel r) ∈ G ∧ geff G f = none := by
  intro G
  induction G with
  | nil => intro f r h; cases h
  | cons x G ih =>
    intro f r h
    obtain ⟨g, c⟩ := x
    simp only [grel] at h
    split at h
    · rename_i hb
      obtain rfl := Nat.eq_of_beq_eq_true hb
      split at h
      · simp only [Option.some.injEq] at h
        subst h
        refine ⟨by simp, ?_⟩
        simp only [geff, hb]
      · cases h
    · rename_i hb
      obtain ⟨h1, h2⟩ := ih h
      refine ⟨by simp [h1], ?_⟩
      simp only [geff, hb]
      exact h2

/-- What is said of the called functions is so, and they can be called. -/
structure Good (P : Program) (G G' : Gam) : Prop where
  ok : GamOk P G'
  call : ∀ x ∈ G', Callable P x.1
  stays : ∀ op, stays G' op = stays G op

theorem relP_ok (hG : GamOk P G) (hGc : ∀ x ∈ G, Callable P x.1) {s : Slots} {op : Op} {k : Gam → Prop} (h : relP G s op k) : ∃ G', Good P G G' ∧ k G' := by
  unfold relP at h
  split at h
  · exact ⟨G, ⟨hG, hGc, fun _ => rfl⟩, h⟩
  · rename_i f r hr
    obtain ⟨x, hx⟩ := h
    have hgr : grel G f = some r := by
      unfold relOp at hr
      split at hr
      · split at hr
        · simp only [Option.map_eq_some_iff, Prod.mk.injEq] at hr
          obtain ⟨r', h1, rfl, rfl⟩ := hr
          exact h1
        · cases hr
      · cases hr
    obtain ⟨hm, hge⟩ := grel_mem hgr
    refine ⟨_, ⟨fun y hy => ?_, fun y hy => ?_, fun op => ?_⟩, hx⟩
    · rcases List.mem_cons.1 hy with rfl | hy
      · intro as res p he hp
        simp only [Option.some.injEq, Prod.mk.injEq] at he
        obtain ⟨rfl, rfl⟩ := he
        obtain ⟨h1, h2⟩ := hp
        have hpf := hG _ hm x h2
        intro E w vs hL hN ha
        refine hpf E w vs hL hN ?_
        have list : ∀ {as bs : List T}, matV.matsV (matV 6) as bs → as.length = bs.length ∧ ∀ (i : Nat) (a b : T), as[i]? = some a → bs[i]? = some b → matV 6 a b := by
          intro as
          induction as with
          | nil =>
            intro bs h
            cases bs with
            | nil => exact ⟨rfl, fun i a b ha => by simp at ha⟩
            | cons => exact h.elim
          | cons a as iha =>
            intro bs h
            cases bs with
            | nil => exact h.elim
            | cons b bs =>
              obtain ⟨h1, h2⟩ := iha h.2
              refine ⟨by simp [h1], fun i x y hx hy => ?_⟩
              cases i with
              | zero => simp at hx hy; subst hx; subst hy; exact h.1
              | succ i => exact h2 i x y (by simpa using hx) (by simpa using hy)
        obtain ⟨e1, e2⟩ := list h1
        refine ⟨by rw [← e1]; exact ha.1, fun i t v hi hv => ?_⟩
        have hlt : i < as.length := by rw [e1]; exact (List.getElem?_eq_some_iff.1 hi).1
        exact matV_ok 6 (e2 i _ t (List.getElem?_eq_getElem hlt) hi) (ha.2 i _ v (List.getElem?_eq_getElem hlt) hv)
      · exact hG y hy
    · rcases List.mem_cons.1 hy with rfl | hy
      · exact hGc (f, Con.rel r) hm
      · exact hGc y hy
    · have hie : ∀ y : Operand, isEff (inst f r x G) y = isEff G y := by
        intro y
        cases y with
        | func g =>
          simp only [isEff, inst, geff]
          split
          · rename_i hb
            rw [Nat.eq_of_beq_eq_true hb, hge]
          · rfl
        | _ => rfl
      unfold SS.stays
      split <;> first | rfl | rw [hie]

theorem op_ok (hG : GamOk P G) (hGc : ∀ x ∈ G, Callable P x.1) (h : Inv c E H w) {a : Act} {s : Slots} {o : Oper} {y : T} {H' : Heap} {side : Option Prop} (he : evOp P G s H o.op = some (y, H', side)) (hs : side.getD True)
    (hop : ∀ x ∈ seen o.op, OpOk E w a s x)
    (hpk : ∀ c x y, o.op = .pick c x y → (∀ b, opT s c = .bool b → b = true → OpOk E w a s x) ∧ (∀ b, opT s c = .bool b → b = false → OpOk E w a s y))
    {K : Act → World → Prop} {Q : Exit → Act → World → Prop} (hk : After c E w o a y H' K) : o.wp P a w K Q := by
  unfold evOp at he
  split at he
  · rename_i t p hv
    simp only [Option.some.injEq, Prod.mk.injEq] at he
    obtain ⟨rfl, rfl, rfl⟩ := he
    obtain ⟨v, hrun, hr⟩ := val_ok (P := P) hv hs h.heap hop hpk
    exact value_wp hrun (hk v w E h (Step.refl E w) hr)
  · split at he
    · rename_i r hm
      simp only [Option.some.injEq] at he
      subst he
      obtain ⟨w', E', hrun, hI, hst⟩ := mem_ok (P := P) h hm hs hop
      rcases hrun with ⟨v, hrun, hr⟩ | ⟨hrun, rfl⟩
      · exact value_wp hrun (hk v w' E' hI hst hr)
      · exact skip_wp hrun (hk undef w' E' hI hst (.und _))
    · split at he
      · rename_i x args argTypes hoe
        have hmem : ∀ {α : Type} (g : Con → Option α) (sel : Gam → FuncId → Option α), (∀ f, sel [] f = none) → (∀ h c r f, sel ((h, c) :: r) f = match Nat.beq f h with | true => g c | false => sel r f) → ∀ (G : Gam) (f : FuncId) (r : α), sel G f = some r → ∃ x ∈ G, x.1 = f := by
          intro α g sel h1 h2 G
          induction G with
          | nil => intro f r h; rw [h1] at h; cases h
          | cons x G ih =>
            intro f r h
            obtain ⟨a, b⟩ := x
            rw [h2] at h
            split at h
            · rename_i hb
              exact ⟨(a, b), by simp, (Nat.eq_of_beq_eq_true hb).symm⟩
            · obtain ⟨x, hx, he⟩ := ih f r h
              exact ⟨x, by simp [hx], he⟩
        split at he
        · split at he
          · rename_i g hie
            have hcallable : Callable P g := by
              have : ∃ c, geff G g = some c := by
                unfold evEff at he
                split at he
                · exact ⟨_, by assumption⟩
                · cases he
              obtain ⟨c0, hc0⟩ := this
              obtain ⟨y, hy, rfl⟩ := hmem (fun c => match c with | .eff c => some c | _ => none) geff (fun _ => rfl) (fun _ _ _ _ => rfl) G g c0 hc0
              exact hGc y hy
            rw [hoe] at hop
            have hargs := rdL_ops (args := args) (fun x hx => hop x (by simp only [seen, Op.operands, Call.operands, Array.toList_append, List.mem_append]; exact .inr hx))
            have hrun := call_run (P := P) (w := w) (caps := #[]) hoe hcallable (a := a) (x := .func g) rfl
            rw [Array.append_empty] at hrun
            refine enter_wp hrun ((eff_ok hG h he hs hargs).mono fun e w' hh => ?_)
            obtain ⟨v, E', rfl, hI, hst, hr⟩ := hh
            exact ⟨v, rfl, hk v w' E' hI hst hr⟩
          · cases he
        · split at he
          · rename_i g cs hfn
            cases hp : evPure G H g (args.toList.map (opT s) ++ cs) with
            | none => rw [hp] at he; cases he
            | some r =>
              rw [hp] at he
              simp only [Option.map_some, Option.some.injEq, Prod.mk.injEq] at he
              obtain ⟨rfl, rfl, rfl⟩ := he
              rw [hoe] at hop
              obtain ⟨caps, hx, hcaps⟩ := fnOf_ok hfn (hop x (by simp [seen, Op.operands, Call.operands]))
              have hargs := rdL_append (rdL_ops (args := args) (fun x hx => hop x (by simp only [seen, Op.operands, Call.operands, Array.toList_append, List.mem_append]; exact .inr hx))) hcaps
              have hcallable : Callable P g := by
                have : ∃ args r, gam G g args = some r := by
                  unfold evPure at hp
                  split at hp
                  · exact ⟨_, _, hp⟩
                  · split at hp
                    · split at hp
                      · rename_i hg; exact ⟨_, _, hg⟩
                      · cases hp
                    · cases hp
                obtain ⟨as, rr, hg⟩ := this
                obtain ⟨y, hy, rfl⟩ := hmem (fun c => match c with | .pure c => c as | _ => none) (fun G f => gam G f as) (fun _ => rfl) (fun _ _ _ _ => rfl) G g rr hg
                exact hGc y hy
              refine enter_wp (call_run (P := P) (w := w) hoe hcallable hx) ((pure_ok hG h hp hs hargs).mono fun e w' hh => ?_)
              obtain ⟨v, E', rfl, hI, hst, hr⟩ := hh
              exact ⟨v, rfl, hk v w' E' hI hst hr⟩
          · cases he
      · cases he

end
end Go.SS
