/- A calculus of symbolic states: a region, in whatever order: the step and the whole. -/
import Derived.Test.YtjbomnjmcbhadaaGreatSSF
namespace Go.SS
open Go.RowKit

/-- The operands of an operation are as is said, on its way: of those alone that it looks at. -/
theorem paths_ok' {E : Env} {w : World} {s : Slots} {ps : Paths} {a : Act} {pth : Path} {op : Op} (h : ∀ u, Operand.tmp u ∈ op.operands.toList → PathH s (pathOf ps u) → Rd E w (slk s u) (a.tmps.getD u undef)) (hp : PathH s pth) (hop : pathsOk ps pth op = true) :
    (∀ x ∈ seen op, OpOk E w a s x) ∧ ∀ c x y, op = .pick c x y → (∀ b, opT s c = .bool b → b = true → OpOk E w a s x) ∧ (∀ b, opT s c = .bool b → b = false → OpOk E w a s y) := by
  have tmp : ∀ {q : Path} {x : Operand}, x ∈ op.operands.toList → PathH s q → tmpOk ps q x = true → OpOk E w a s x := by
    intro q x hx hq ht
    refine opOk_of fun u hu => ?_
    subst hu
    exact h u hx (suf_ok ht hq)
  by_cases hpk : ∃ c x y, op = .pick c x y
  · obtain ⟨c, x, y, rfl⟩ := hpk
    cases c with
    | tmp t =>
      simp only [pathsOk, Bool.and_eq_true] at hop
      obtain ⟨⟨h1, h2⟩, h3⟩ := hop
      refine ⟨fun z hz => ?_, fun c' x' y' he => ?_⟩
      · simp only [seen, List.mem_singleton] at hz
        subst hz
        exact tmp (by simp [Op.operands]) hp h1
      · cases he
        refine ⟨fun b hb hbt => tmp (by simp [Op.operands]) (fun q hq => ?_) h2, fun b hb hbt => tmp (by simp [Op.operands]) (fun q hq => ?_) h3⟩
        · rcases List.mem_cons.1 hq with rfl | hq
          · exact ⟨b, hb, hbt⟩
          · exact hp q hq
        · rcases List.mem_cons.1 hq with rfl | hq
          · exact ⟨b, hb, hbt⟩
          · exact hp q hq
    | const => simp [pathsOk] at hop
    | global => simp [pathsOk] at hop
    | func => simp [pathsOk] at hop
  · have hs : seen op = op.operands.toList := by
      cases op <;> first | rfl | exact absurd ⟨_, _, _, rfl⟩ hpk
    have hall : op.operands.toList.all (tmpOk ps pth) = true := by
      cases op <;> first | exact hop | exact absurd ⟨_, _, _, rfl⟩ hpk
    exact ⟨fun x hx => tmp (by rw [← hs]; exact hx) hp (List.all_eq_true.1 hall x (by rw [← hs]; exact hx)), fun c x y he => absurd ⟨c, x, y, he⟩ hpk⟩

theorem mem_tmpsOf {u : Nat} : ∀ {l : List Operand}, Operand.tmp u ∈ l → u ∈ tmpsOf l := by
  intro l
  induction l with
  | nil => intro h; cases h
  | cons x l ih =>
    intro h
    cases x with
    | tmp t =>
      simp only [tmpsOf]
      rcases List.mem_cons.1 h with h | h
      · cases h; simp
      · exact List.mem_cons_of_mem _ (ih h)
    | _ =>
      simp only [tmpsOf]
      rcases List.mem_cons.1 h with h | h
      · cases h
      · exact ih h

theorem usesB_ok {u : Nat} {l : List Nat} (h : u ∈ l) : usesB (some u) l = true := by
  simp only [usesB, List.any_eq_true]
  exact ⟨u, h, by simp⟩

/-- A slot while the region runs. -/
def SlotD (all : Array Oper) (s0 : Slots) (y : Nat → T) (p : Nat → Path) (D : Nat → Prop) (E : Env) (w : World) (a : Act) (u : Nat) : Prop :=
  (∀ j o, all[j]? = some o → o.dst = some u → D j → (PathV all y (p j) → Rd E w (y j) (a.tmps.getD u undef)) ∧ (¬ PathV all y (p j) → a.tmps.getD u undef = undef)) ∧
    ((∀ j o, all[j]? = some o → o.dst = some u → ¬ D j) → Rd E w (slk s0 u) (a.tmps.getD u undef))

/-- While the region runs, D being done. -/
def RD (c : Ctx) (G : Gam) (all : Array Oper) (H0 : Heap) (s0 : Slots) (S : Nat → St) (y : Nat → T) (p : Nat → Path) (D : Nat → Prop) (a : Act) (w : World) : Prop :=
  a.defers = [] ∧ a.tmps.size = c.nt ∧ ∃ E e, e ≤ all.size ∧ (∀ x, isM G all x → (D x ↔ x < e)) ∧ Inv c E (HH H0 S e) w ∧ ∀ u, SlotD all s0 y p D E w a u

section
variable {c : Ctx} {P : Program} {G : Gam} {all : Array Oper} {H0 : Heap} {s0 : Slots} {S : Nat → St} {y : Nat → T} {p : Nat → Path} {m : Nat → Nat} {D : Nat → Prop}

/-- The next slots. -/
theorem slotD_put {E E' : Env} {w w' : World} {a : Act} {i : Nat} {o : Oper} (t : Trace P G c.nt all H0 s0 S y p m) (hi : all[i]? = some o) (hsz : a.tmps.size = c.nt) (hst : Step E w E' w') {v : Value}
    (hv : (PathV all y (p i) → Rd E' w' (y i) v) ∧ (¬ PathV all y (p i) → v = undef)) (h : ∀ u, SlotD all s0 y p D E w a u) (u : Nat) : SlotD all s0 y p (fun k => D k ∨ k = i) E' w' (a.put o.dst v) u := by
  have keep : (o.dst ≠ some u) → (a.put o.dst v).tmps.getD u undef = a.tmps.getD u undef := by
    intro hne
    cases hd : o.dst with
    | none => rfl
    | some d =>
      have hdst := (t.step i o hi).dst
      rw [hd] at hdst
      rw [put_get a d v u (by rw [hsz]; exact Nat.le_of_ble_eq_true hdst), if_neg (by rintro rfl; exact hne hd)]
  have new : o.dst = some u → (a.put o.dst v).tmps.getD u undef = v := by
    intro hd
    have hdst := (t.step i o hi).dst
    rw [hd] at hdst ⊢
    rw [put_get a u v u (by rw [hsz]; exact Nat.le_of_ble_eq_true hdst), if_pos rfl]
  refine ⟨fun j oj hj hd hDj => ?_, fun hno => ?_⟩
  · by_cases hji : j = i
    · subst hji
      rw [hj] at hi
      simp only [Option.some.injEq] at hi
      subst hi
      rw [new hd]
      exact hv
    · have hne : o.dst ≠ some u := fun he => hji (t.distinct hj hi hd he)
      rw [keep hne]
      obtain ⟨h1, h2⟩ := (h u).1 j oj hj hd (hDj.resolve_right hji)
      exact ⟨fun hp => hst.rd (h1 hp), h2⟩
  · have hne : o.dst ≠ some u := fun he => hno i o hi he (.inr rfl)
    rw [keep hne]
    exact hst.rd ((h u).2 fun j oj hj hd hDj => hno j oj hj hd (.inl hDj))

theorem op_step (t : Trace P G c.nt all H0 s0 S y p m) (hG : GamOk P G) (hGc : ∀ x ∈ G, Callable P x.1) (hcl : Cl all D) {i : Nat} {o : Oper} (hi : all[i]? = some o) (hni : ¬ D i)
    (hpre : ∀ e ∈ o.after.toList, Region.binds .any e = true → D e.on) {a : Act} {w : World} (hr : RD c G all H0 s0 S y p D a w) {K : Act → World → Prop} {Q : Exit → Act → World → Prop}
    (hK : ∀ a' w', RD c G all H0 s0 S y p (fun k => D k ∨ k = i) a' w' → K a' w') : wpOp P all Q i K a w := by
  obtain ⟨hdef, hsz, E, e, hen, hM, hI, hsl⟩ := hr
  have hst := t.step i o hi
  have hilt : i < all.size := (Array.getElem?_eq_some_iff.1 hi).1
  have hput : ∀ (v : Value), (a.put o.dst v).defers = [] ∧ (a.put o.dst v).tmps.size = c.nt := by
    intro v
    cases o.dst with
    | none => exact ⟨hdef, hsz⟩
    | some d => exact ⟨hdef, by simp [Act.put, hsz]⟩
  have hmask := t.mask_done hcl i o hi hpre
  have hlater : ∀ j oj, all[j]? = some oj → i < j → Nat.testBit (m j) i = true → ¬ D j := fun j oj hj hij hb hDj =>
    hni (t.mask_done hcl j oj hj (fun e he hb' => hcl j oj hDj hj e he hb') i hb)
  -- the slots that it looks at
  have hused : ∀ u, u ∈ usesOf all o → (PathH (S i).s (pathOf (S i).ps u) → Rd E w (slk (S i).s u) (a.tmps.getD u undef)) ∧ (¬ PathH (S i).s (pathOf (S i).ps u) → a.tmps.getD u undef = undef) := by
    intro u hu
    rcases writer_dec all u i with ⟨j, oj, hji, hj, hd⟩ | hno
    · have hpr := t.pair i o j oj hi hj hji
      have hb : Nat.testBit (m i) j = true := by
        unfold pairOk at hpr
        rw [hd, usesB_ok hu] at hpr
        simpa using And.right (by simpa using hpr)
      obtain ⟨e1, e2⟩ := t.slot_some hj hd i hji (Nat.le_of_lt hilt)
      rw [e1, e2]
      have hpl : ∀ z ∈ p j, ∃ k o', k < i ∧ all[k]? = some o' ∧ o'.dst = some z.1 := fun z hz => by
        obtain ⟨k, o', hk, ho', hd'⟩ := t.path_lt j oj hj z hz
        exact ⟨k, o', by omega, ho', hd'⟩
      rw [t.pathV (Nat.le_of_lt hilt) hpl]
      exact (hsl u).1 j oj hj hd (hmask j hb)
    · obtain ⟨e1, e2⟩ := t.slot_none u i (Nat.le_of_lt hilt) hno
      rw [e1, e2]
      refine ⟨fun _ => (hsl u).2 fun j oj hj hd hDj => ?_, fun hn => absurd (fun q hq => by cases hq) hn⟩
      rcases Nat.lt_trichotomy j i with h | h | h
      · exact hno j oj h hj hd
      · subst h; exact hni hDj
      · have hpr := t.pair j oj i o hj hi h
        have hb : Nat.testBit (m j) i = true := by
          unfold pairOk at hpr
          rw [hd, usesB_ok hu] at hpr
          simpa using And.right (by simpa using hpr)
        exact hlater j oj hj h hb hDj
  have huse : ∀ u, Operand.tmp u ∈ o.op.operands.toList → u ∈ usesOf all o := by
    intro u hu
    unfold usesOf
    split
    · exact mem_tmpsOf hu
    · split
      · exact List.mem_cons_of_mem _ (mem_tmpsOf hu)
      · exact mem_tmpsOf hu
  -- the objects
  have hMlt : ∀ x ox, all[x]? = some ox → stays G ox.op = false → D x → x < e := fun x ox hx hs hD => (hM x ⟨ox, hx, hs⟩).1 hD
  have hreader : stays G o.op = true → ∃ G' H' side, Good P G G' ∧ evOp P G' (S i).s (HH H0 S e) o.op = some (y i, H', side) ∧ H' = HH H0 S e ∧ (PathH (S i).s (p i) → side.getD True) := by
    intro hs
    obtain ⟨_, G', H', side, hGG, hev, hside⟩ := hst.reader hs
    by_cases hpu : pureB o.op = true
    · exact ⟨G', _, side, hGG, evOp_pure hpu hev, rfl, hside⟩
    have hpu : pureB o.op = false := Bool.eq_false_iff.2 hpu
    obtain ⟨q, hq, he, hno, hor⟩ := t.hist_at (m i) i (Nat.le_of_lt hilt)
    rw [he] at hev
    have hdone : ∀ x ox, x < q → all[x]? = some ox → stays G ox.op = false → D x := by
      intro x ox hx hox hsx
      rcases hor with rfl | ⟨x0, rfl, ⟨o0, ho0, hs0⟩, hb0⟩
      · omega
      · have hD0 := hmask x0 hb0
        by_cases hxx : x = x0
        · subst hxx; exact hD0
        · have hpr := t.pair x0 o0 x ox ho0 hox (by omega)
          have hb : Nat.testBit (m x0) x = true := by
            unfold pairOk at hpr
            rw [hsx, hs0] at hpr
            simpa using And.right (by simpa using hpr)
          exact t.mask_done hcl x0 o0 ho0 (fun e he hb' => hcl x0 o0 hD0 ho0 e he hb') x hb
    have hkey : ∀ x ox, q ≤ x → x < e → all[x]? = some ox → stays G ox.op = false → growB G ox.op = true ∨ disjB (readB (S i).s o.op) (writeB (HH H0 S x) (S x).s ox.op) = true := by
      intro x ox h1 h2 hox hsx
      have hDx := (hM x ⟨ox, hox, hsx⟩).2 h2
      rcases Nat.lt_trichotomy x i with h | h | h
      · have hb := hno x h1 h ⟨ox, hox, hsx⟩
        have hpr := t.pair i o x ox hi hox h
        unfold pairOk rwOf at hpr
        rw [hb, hsx, hs, hpu] at hpr
        simp only [Bool.false_or, Bool.or_false, Bool.and_eq_true, Bool.or_eq_true] at hpr
        exact hpr.2.2
      · subst h; exact absurd hDx hni
      · have hpr := t.pair x ox i o hox hi h
        unfold pairOk rwOf at hpr
        cases hb : Nat.testBit (m x) i with
        | true => exact absurd hDx (hlater x ox hox h hb)
        | false =>
          rw [hb, hsx, hs, hpu] at hpr
          simp only [Bool.false_or, Bool.or_false, Bool.and_eq_true, Bool.or_eq_true] at hpr
          exact hpr.2.2
    have hback : e ≤ q → HH H0 S q = HH H0 S e := by
      intro hqe
      have := t.hist_same (a := e) q hqe (by omega) (fun x h1 h2 hx => by
        obtain ⟨ox, hox, hsx⟩ := hx
        have := hMlt x ox hox hsx (hdone x ox h2 hox hsx)
        omega)
      simp only [HH, this]
    cases hrd : readB (S i).s o.op with
    | none =>
      have hext : HExt (HH H0 S q) (HH H0 S e) := by
        rcases Nat.le_total q e with hqe | hqe
        · refine t.hist_ext e hqe hen fun x ox h1 h2 hox hsx => ?_
          rcases hkey x ox h1 h2 hox hsx with h | h
          · exact h
          · rw [hrd] at h
            cases h
        · rw [hback hqe]
          exact HExt.refl _
      exact ⟨G', _, side, hGG, evOp_ext hext (by rw [hGG.stays]; exact hs) hev, rfl, hside⟩
    | some R =>
      have hext : ExtOn R (HH H0 S q) (HH H0 S e) := by
        rcases Nat.le_total q e with hqe | hqe
        · refine t.hist_extOn e hqe hen fun x ox h1 h2 hox hsx => ?_
          have := hkey x ox h1 h2 hox hsx
          rw [hrd] at this
          exact this
        · rw [hback hqe]
          exact fun _ _ _ h => h
      exact ⟨G', _, side, hGG, evOp_dep hrd (by rw [hGG.stays]; exact hs) hext hev, rfl, hside⟩
  have hwriter : stays G o.op = false → ∃ G' side, Good P G G' ∧ evOp P G' (S i).s (HH H0 S e) o.op = some (y i, HH H0 S (i + 1), side) ∧ side.getD True ∧ e ≤ i ∧ ∀ x, isM G all x → (D x ∨ x = i ↔ x < i + 1) := by
    intro hs
    obtain ⟨G', H', side, hGG, hev, hh, hside⟩ := hst.writer hs
    have hei : e ≤ i := by
      rcases Nat.lt_or_ge i e with h | h
      · exact absurd ((hM i ⟨o, hi, hs⟩).2 h) hni
      · exact h
    have hbef : ∀ x, isM G all x → x < i → x < e := by
      intro x hx hxi
      obtain ⟨ox, hox, hsx⟩ := hx
      have hpr := t.pair i o x ox hi hox hxi
      have hb : Nat.testBit (m i) x = true := by
        unfold pairOk at hpr
        rw [hsx, hs] at hpr
        simpa using And.right (by simpa using hpr)
      exact (hM x ⟨ox, hox, hsx⟩).1 (hmask x hb)
    have hsame := t.hist_same (a := e) i hei (Nat.le_of_lt hilt) (fun x h1 h2 hx => by have := hbef x hx h2; omega)
    have h1 : hCur H0 (S i).hist = HH H0 S e := by simp only [HH, hsame]
    have h2 : HH H0 S (i + 1) = H' := by simp only [HH, hh, hCur]
    rw [h1] at hev
    rw [h2]
    refine ⟨G', side, hGG, hev, hside, hei, fun x hx => ⟨fun hor => ?_, fun hlt => ?_⟩⟩
    · rcases hor with h | h
      · have := (hM x hx).1 h; omega
      · omega
    · by_cases hxi : x = i
      · exact .inr hxi
      · exact .inl ((hM x hx).2 (hbef x hx (by omega)))
  have hPV : PathH (S i).s (p i) ↔ PathV all y (p i) := t.pathV (Nat.le_of_lt hilt) fun z hz => t.path_lt i o hi z hz
  -- it is done
  have run : PathV all y (p i) → o.wp P a w K Q := by
    intro hpv
    have hph := hPV.2 hpv
    obtain ⟨hop, hpk⟩ := paths_ok' (E := E) (w := w) (a := a) (fun u hu => (hused u (huse u hu)).1) hph hst.paths
    cases hs : stays G o.op with
    | true =>
      obtain ⟨G', H', side, hGG, hev, rfl, hside⟩ := hreader hs
      refine op_ok hGG.ok hGG.call hI hev (hside hph) hop hpk fun v w' E' hI' hst' hrd => hK _ _ ⟨(hput v).1, (hput v).2, E', e, hen, fun x hx => ?_, hI', slotD_put t hi hsz hst' ⟨fun _ => hrd, fun hn => absurd hpv hn⟩ hsl⟩
      have hne : x ≠ i := by
        rintro rfl
        obtain ⟨ox, hox, hsx⟩ := hx
        rw [hi] at hox
        simp only [Option.some.injEq] at hox
        subst hox
        rw [hs] at hsx
        cases hsx
      rw [← hM x hx]
      exact ⟨fun h => h.resolve_right hne, .inl⟩
    | false =>
      obtain ⟨G', side, hGG, hev, hside, hei, hM'⟩ := hwriter hs
      exact op_ok hGG.ok hGG.call hI hev hside hop hpk fun v w' E' hI' hst' hrd => hK _ _ ⟨(hput v).1, (hput v).2, E', i + 1, hilt, hM', hI', slotD_put t hi hsz hst' ⟨fun _ => hrd, fun hn => absurd hpv hn⟩ hsl⟩
  have skip : ¬ PathV all y (p i) → stays G o.op = true → K (a.put o.dst undef) w := by
    intro hn hs
    refine hK _ _ ⟨(hput _).1, (hput _).2, E, e, hen, fun x hx => ?_, hI, slotD_put t hi hsz (Step.refl E w) ⟨fun hp => absurd hp hn, fun _ => rfl⟩ hsl⟩
    have hne : x ≠ i := by
      rintro rfl
      obtain ⟨ox, hox, hsx⟩ := hx
      rw [hi] at hox
      simp only [Option.some.injEq] at hox
      subst hox
      rw [hs] at hsx
      cases hsx
    rw [← hM x hx]
    exact ⟨fun h => h.resolve_right hne, .inl⟩
  unfold wpOp
  simp only [hi]
  cases hg : o.guard with
  | none =>
    have hw : Region.wanted o (yielded all a.tmps) = true := by simp [Region.wanted, hg]
    rw [if_pos hw]
    refine .inl (run ?_)
    rw [(hst.plain hg).1]
    exact fun z hz => by cases hz
  | some gw =>
    obtain ⟨j, want⟩ := gw
    obtain ⟨g, x, hgd, hx, hji, hp, _, hs, _⟩ := hst.guarded j want hg
    have hgu : g ∈ usesOf all o := by
      unfold usesOf
      rw [hg]
      simp only [hgd]
      exact List.mem_cons_self
    have hy : yielded all a.tmps j = match a.tmps[g]? with | some (.bool b) => some b | _ => none := by
      unfold yielded
      rw [hgd]
      rfl
    by_cases hpg : PathH (S i).s (pathOf (S i).ps g)
    · have hv := (hused g hgu).1 hpg
      rw [hx] at hv
      have hv' := rd_bool hv
      have hgv : a.tmps[g]? = some (.bool x) := by
        rw [Array.getD_eq_getD_getElem?] at hv'
        cases hq : a.tmps[g]? with
        | none => rw [hq] at hv'; simp [undef] at hv'
        | some z => rw [hq] at hv'; simp at hv'; rw [hv']
      have hyl : yielded all a.tmps j = some x := by rw [hy, hgv]
      by_cases hxw : x = want
      · have hw : Region.wanted o (yielded all a.tmps) = true := by simp [Region.wanted, hg, hyl, hxw]
        rw [if_pos hw]
        refine .inl (run (hPV.1 ?_))
        rw [hp]
        intro q hq
        rcases List.mem_cons.1 hq with rfl | hq
        · exact ⟨x, hx, hxw⟩
        · exact hpg q hq
      · have hw : ¬ Region.wanted o (yielded all a.tmps) = true := by simp [Region.wanted, hg, hyl, hxw]
        rw [if_neg hw]
        refine skip (fun hpv => ?_) hs
        have hph := hPV.2 hpv
        rw [hp] at hph
        obtain ⟨x', hx', he'⟩ := hph (g, want) (by simp)
        rw [hx] at hx'
        cases hx'
        exact hxw he'
    · have hv' := (hused g hgu).2 hpg
      have hyl : yielded all a.tmps j = none := by
        rw [hy]
        rw [Array.getD_eq_getD_getElem?] at hv'
        cases hq : a.tmps[g]? with
        | none => rfl
        | some z => rw [hq] at hv'; simp at hv'; rw [hv']; rfl
      have hw : ¬ Region.wanted o (yielded all a.tmps) = true := by simp [Region.wanted, hg, hyl]
      rw [if_neg hw]
      refine skip (fun hpv => hpg ?_) hs
      have hph := hPV.2 hpv
      rw [hp] at hph
      exact fun q hq => hph q (by simp [hq])

end
end Go.SS
