/- A calculus of symbolic states: loops with what holds at their heads. -/
import Derived.Test.YtjbomnjmcbhadaaSS17
namespace Go.SS
open Go.RowKit

/-- An object's old name, and how the two are held together: as a box, as rows, with names anew. -/
inductive Lk where
  | no
  | box (m : Nat)
  | arr (m : Nat)
  | ren (m : Nat)

def Lk.old : Lk → Option Nat
  | .no => none
  | .box m | .arr m | .ren m => some m

def olds : List Lk → List (Option Nat)
  | [] => []
  | x :: r => x.old :: olds r

def RowsRen (ρ : Nat → Option Nat) (n : Nat) (row row' : Nat → List T) : Prop := ∀ i, i < n → mapO (renT ρ 6) (row' i) = some (row i)

def obV (ρ : Nat → Option Nat) (H : Heap) (lk : Lk) (o : Option Ob) : Prop :=
  match o with
  | none => True
  | some ob' => match lk with
    | .no => False
    | .box m => match getOb H m, ob' with
      | some (.arr _ _ sz n row), .arr cl' _ sz' n' row' => match Nat.beq sz sz' && (row' 0).all oneT && (!cl' || (row' 0).all closedT) with
        | true => n = 1 ∧ n' = 1 ∧ tleV.tlesV (tleV ρ 6) (row 0) (row' 0)
        | false => False
      | _, _ => False
    | .arr m => match getOb H m, ob' with
      | some (.bys _ l), .bys _ l' => l = l'
      | some (.arr true _ sz n row), .arr true _ sz' n' row' => match Nat.beq sz sz' with
        | true => n = n' ∧ RowsEq n row row'
        | false => False
      | some (.mp bo get), .mp bo' get' => match bo == bo' with
        | true => ∀ n, get n = get' n
        | false => False
      | _, _ => False
    | .ren m => match getOb H m, ob' with
      | some (.arr _ _ sz n row), .arr false _ sz' n' row' => match Nat.beq sz sz' with
        | true => n = n' ∧ RowsRen ρ n row row'
        | false => False
      | _, _ => False

def slotsV (ρ : Nat → Option Nat) (s : Slots) : Slots → Prop
  | [] => True
  | (j, t) :: r => tleV ρ 6 (slk s j) t ∧ slotsV ρ s r

def heapV (ρ : Nat → Option Nat) (H : Heap) : List Lk → Heap → Prop
  | [], [] => True
  | lk :: l, o :: r => obV ρ H lk o ∧ heapV ρ H l r
  | _, _ => False

/-- The first objects keep their names. -/
def idB : Nat → Nat → List (Option Nat) → Bool
  | 0, _, _ => true
  | m + 1, i, some k :: r => Nat.beq i k && idB m (i + 1) r
  | _ + 1, _, _ => false

/-- The one state as the other says it. -/
def subV (m : Nat) (l : List Lk) (σ σ' : Sy) : Prop :=
  match injB (olds l) && idB m 0 (olds l) with
  | true => slotsV (rho (olds l)) σ.s σ'.s ∧ heapV (rho (olds l)) σ.H l σ'.H
  | false => False

def subO (m : Nat) (l : Option (List Lk)) (σ σ' : Sy) : Prop :=
  match l with
  | some l => subV m l σ σ'
  | none => False

/-- Slots, as they are when nobody writes to any object any more. -/
def frz (H : Heap) (s : Slots) : List Nat → Option (Slots × Option Prop)
  | [] => some ([], none)
  | i :: r => match borrow 0 H 6 (slk s i), frz H s r with
    | some (t, p), some (q, p') => some ((i, t) :: q, andOO p p')
    | _, _ => none

/-- 'onef': as 'one', ahead of it no object is written to any more. -/
inductive Ann : Type 1
  | none
  | unr (n : Nat) (sub : Nat → Nat → Ann)
  | one (ι : Type) (I : ι → Sy) (μ : ι → Nat) (lin lback : List Lk) (sub : ι → Nat → Ann)
  | onef (ks : List Nat) (ι : Type) (I : ι → Sy) (μ : ι → Nat) (lback : List Lk) (sub : ι → Nat → Ann)
  | two (ι₁ ι₂ : Type) (I₁ : ι₁ → Sy) (I₂ : ι₂ → Sy) (μ₁ : ι₁ → Nat) (μ₂ : ι₂ → Nat) (l1 l2 l11 l12 l21 l22 : Option (List Lk)) (sub₁ : ι₁ → Nat → Ann) (sub₂ : ι₂ → Nat → Ann)

def nLoops : Code → Nat
  | .seq a b => nLoops a + nLoops b
  | .cond _ a b => nLoops a + nLoops b
  | .block _ b => nLoops b
  | .loop b => nLoops b + 1
  | _ => 0

/-- A loop's rounds, one by one. -/
def rounds (step : Nat → (Sy → Prop) → Sy → Prop) : Nat → Sy → Prop
  | 0, _ => False
  | n + 1, σ => step n (rounds step n) σ

def vcI (P : Program) (G : Gam) (nt m0 : Nat) : Code → Nat → (Exit → Sy → (Nat → Ann) → Prop) → Sy → (Nat → Ann) → Prop
  | .skip, _, Q, σ, A => Q .normal σ A
  | .region _ ops draw, _, Q, σ, A => match draw with
    | false => vcOps P G nt ops ops.toList σ.s [] σ.H fun s H => Q .normal ⟨s, H⟩ A
    | true => vcAny P G nt ops σ.H ops.toList 0 [] [] σ.s [] [] fun s H => Q .normal ⟨s, H⟩ A
  | .seq a b, k, Q, σ, A => vcI P G nt m0 a k (fun e σ' A' => match e with | .normal => vcI P G nt m0 b (k + nLoops a) Q σ' A' | e => Q e σ' A') σ A
  | .cond c x y, k, Q, σ, A => match opT σ.s c with
    | .bool b => (b = true → vcI P G nt m0 x k Q σ A) ∧ (b = false → vcI P G nt m0 y (k + nLoops x) Q σ A)
    | _ => False
  | .block id body, k, Q, σ, A => vcI P G nt m0 body k (fun e σ' A' => match e with | .exit i => (match Nat.beq i id with | true => Q .normal σ' A' | false => Q (.exit i) σ' A') | e => Q e σ' A') σ A
  | .loop body, k, Q, σ, A => match A k with
    | .none => False
    | .unr n sub => rounds (fun m next σ' => vcI P G nt m0 body (k + 1) (fun e σ'' A' => match e with | .normal => next σ'' | e => Q e σ'' A') σ' (sub m)) n σ
    | .one ι I μ lin lback sub => (∃ x, subV m0 lin σ (I x)) ∧ ∀ x : ι, vcI P G nt m0 body (k + 1) (fun e σ' A' => match e with | .normal => ∃ y, subV m0 lback σ' (I y) ∧ Lt (μ y) (μ x) | e => Q e σ' A') (I x) (sub x)
    | .onef ks ι I μ lback sub => (match m0, frz σ.H σ.s ks with
      | 0, some (s', p) => andO p (∃ x, subV 0 [] ⟨s', []⟩ (I x))
      | _, _ => False) ∧ ∀ x : ι, vcI P G nt m0 body (k + 1) (fun e σ' A' => match e with | .normal => ∃ y, subV m0 lback σ' (I y) ∧ Lt (μ y) (μ x) | e => Q e σ' A') (I x) (sub x)
    | .two ι₁ ι₂ I₁ I₂ μ₁ μ₂ l1 l2 l11 l12 l21 l22 sub₁ sub₂ =>
      ((∃ x, subO m0 l1 σ (I₁ x)) ∨ (∃ x, subO m0 l2 σ (I₂ x))) ∧
      (∀ x : ι₁, vcI P G nt m0 body (k + 1) (fun e σ' A' => match e with | .normal => (∃ y, subO m0 l11 σ' (I₁ y) ∧ Lt (μ₁ y) (μ₁ x)) ∨ (∃ y, subO m0 l12 σ' (I₂ y) ∧ Lt (μ₂ y) (μ₁ x)) | e => Q e σ' A') (I₁ x) (sub₁ x)) ∧
      (∀ x : ι₂, vcI P G nt m0 body (k + 1) (fun e σ' A' => match e with | .normal => (∃ y, subO m0 l21 σ' (I₁ y) ∧ Lt (μ₁ y) (μ₂ x)) ∨ (∃ y, subO m0 l22 σ' (I₂ y) ∧ Lt (μ₂ y) (μ₂ x)) | e => Q e σ' A') (I₂ x) (sub₂ x))
  | .exit id, _, Q, σ, A => Q (.exit id) σ A
  | .ret, _, Q, σ, A => Q .ret σ A
  | _, _, _, _, _ => False

section
variable {P : Program} {G : Gam} {nt m : Nat}

theorem tlesV_ok {ρ : Nat → Option Nat} {d : Nat} : ∀ {as bs : List T}, tleV.tlesV (tleV ρ d) as bs → as.length = bs.length ∧ ∀ (j : Nat) (a b : T), as[j]? = some a → bs[j]? = some b → TLe ρ a b := by
  intro as
  induction as with
  | nil =>
    intro bs h
    cases bs with
    | nil => exact ⟨rfl, fun j a b ha => by simp at ha⟩
    | cons => exact h.elim
  | cons a as ih =>
    intro bs h
    cases bs with
    | nil => exact h.elim
    | cons b bs =>
      obtain ⟨h1, h2⟩ := ih h.2
      refine ⟨by simp [h1], fun j x z hx hz => ?_⟩
      cases j with
      | zero => simp at hx hz; subst hx; subst hz; exact tleV_ok h.1
      | succ j => exact h2 j x z (by simpa using hx) (by simpa using hz)

theorem obV_ok {ρ : Nat → Option Nat} {H : Heap} {lk : Lk} {ob' : Ob} (h : obV ρ H lk (some ob')) : ∃ m ob, lk.old = some m ∧ getOb H m = some ob ∧ OLe ρ ob ob' := by
  unfold obV at h
  split at h
  · rename_i hn; cases hn
  · rename_i ob hob
    simp only [Option.some.injEq] at hob
    subst hob
    split at h
    · exact h.elim
    · split at h
      · rename_i m _ _ cl ty sz n row cl' ty' sz' n' row' hm
        split at h
        · rename_i hb
          simp only [Bool.and_eq_true, Bool.or_eq_true, Bool.not_eq_true'] at hb
          obtain ⟨⟨hb1, hb2⟩, hb3⟩ := hb
          obtain ⟨rfl, rfl, h⟩ := h
          obtain rfl := Nat.eq_of_beq_eq_true hb1
          obtain ⟨e1, e2⟩ := tlesV_ok h
          exact ⟨m, _, rfl, hm, .box cl cl' ty ty' sz row row' (fun t ht => List.all_eq_true.1 hb2 t ht) (fun hc t ht => List.all_eq_true.1 (hb3.resolve_left (by simp [hc])) t ht) e1 e2⟩
        · exact h.elim
      · exact h.elim
    · split at h
      · rename_i m _ _ ty l ty' l' hm
        subst h
        exact ⟨m, _, rfl, hm, .bys _ _ _⟩
      · rename_i m _ _ ty sz n row ty' sz' n' row' hm
        split at h
        · rename_i hb
          obtain ⟨rfl, h⟩ := h
          obtain rfl := Nat.eq_of_beq_eq_true hb
          exact ⟨m, _, rfl, hm, .same _ _ _ _ _ _ h⟩
        · exact h.elim
      · rename_i m _ _ bo get bo' get' hm
        split at h
        · rename_i hb
          obtain rfl : bo = bo' := by simpa using hb
          exact ⟨m, _, rfl, hm, .mp _ _ _ h⟩
        · exact h.elim
      · exact h.elim
    · split at h
      · rename_i m _ _ cl ty sz n row ty' sz' n' row' hm
        split at h
        · rename_i hb
          obtain ⟨rfl, h⟩ := h
          obtain rfl := Nat.eq_of_beq_eq_true hb
          exact ⟨m, _, rfl, hm, .ren _ _ _ _ _ _ _ _ (fun hc => by cases hc) h⟩
        · exact h.elim
      · exact h.elim

theorem heapV_ok {ρ : Nat → Option Nat} {H : Heap} : ∀ {l : List Lk} {H' : Heap}, heapV ρ H l H' → (olds l).length = H'.length ∧ ∀ k ob', getOb H' k = some ob' → ∃ m ob, rho (olds l) k = some m ∧ getOb H m = some ob ∧ OLe ρ ob ob' := by
  intro l
  induction l with
  | nil =>
    intro H' h
    cases H' with
    | nil => exact ⟨rfl, fun k ob' hk => by simp [getOb] at hk⟩
    | cons => exact h.elim
  | cons lk l ih =>
    intro H' h
    cases H' with
    | nil => exact h.elim
    | cons o H' =>
      obtain ⟨h1, h2⟩ := ih h.2
      refine ⟨by simp [olds, h1], fun k ob' hk => ?_⟩
      cases k with
      | zero =>
        have : o = some ob' := by simpa [getOb] using hk
        subst this
        exact obV_ok h.1
      | succ k => exact h2 k ob' (by simpa [getOb] using hk)

theorem slotsV_ok {ρ : Nat → Option Nat} {s : Slots} : ∀ {s' : Slots}, slotsV ρ s s' → ∀ p ∈ s', TLe ρ (slk s p.1) p.2 := by
  intro s'
  induction s' with
  | nil => intro _ p hp; cases hp
  | cons x s' ih =>
    intro h p hp
    obtain ⟨j, t⟩ := x
    rcases List.mem_cons.1 hp with rfl | hp
    · exact tleV_ok h.1
    · exact ih h.2 p hp

theorem idB_ok : ∀ {m i : Nat} {l : List (Option Nat)}, idB m i l = true → ∀ k, k < m → rho l k = some (i + k) := by
  intro m
  induction m with
  | zero => intro i l _ k hk; omega
  | succ m ih =>
    intro i l h k hk
    cases l with
    | nil => simp [idB] at h
    | cons x l =>
      cases x with
      | none => simp [idB] at h
      | some x =>
        simp only [idB, Bool.and_eq_true] at h
        cases k with
        | zero => simp only [rho]; rw [← Nat.eq_of_beq_eq_true h.1]; rfl
        | succ k =>
          simp only [rho]
          rw [ih h.2 k (by omega)]
          congr 1
          omega

theorem subV_ok {l : List Lk} {σ σ' : Sy} (h : subV m l σ σ') : Sub m σ σ' := by
  unfold subV at h
  split at h
  · rename_i hi
    simp only [Bool.and_eq_true] at hi
    obtain ⟨h1, h2⟩ := heapV_ok h.2
    intro c a w hm hr
    exact real_ren (ρ := rho (olds l)) (fun k m hk => by rw [← h1]; exact rho_lt hk) (rho_inj hi.1) (slotsV_ok h.1) h2 (fun k hk => by rw [idB_ok hi.2 k (by omega)]; simp) hr
  · exact h.elim

theorem lent0_ok {c : Ctx} {E : Env} {H : Heap} {w : World} (hc0 : c.m = 0) (h : Inv c E H w) : Inv c (E.lent 0 H) [] w := by
  have hn : ∀ k ob, ¬ getOb ([] : Heap) k = some ob := fun k ob hk => by simp [getOb] at hk
  refine ⟨⟨fun k ob hk => absurd hk (hn k ob), fun k k' o o' hk _ _ => absurd hk (hn k o), fun k hk => absurd hk.2 (Nat.not_lt_zero k)⟩, fun x hx => ?_, fun k hk => absurd hk.2 (Nat.not_lt_zero k), fun x hx => ?_, fun k ob hk => absurd hk (hn k ob), h.fr, ⟨fun b hb => .inl (h.keep.N b hb), fun k hk => by omega, h.keep.same⟩⟩
  · rcases hx with hx | ⟨k, ob, _, hob, rfl⟩
    · exact h.nlt x hx
    · exact h.blt k (h.heap.live k ob hob).1
  · rcases hx with hx | ⟨k, ob, hkb, hob, rfl⟩
    · exact h.nnew x hx
    · exact .inr (h.bnew k ob hob)
theorem frz_mem {H : Heap} {s : Slots} : ∀ {ks : List Nat} {s' : Slots} {p : Option Prop}, frz H s ks = some (s', p) → p.getD True → ∀ i, slk s' i = .und ∨ ∃ q, borrow 0 H 6 (slk s i) = some (slk s' i, q) ∧ q.getD True := by
  intro ks
  induction ks with
  | nil =>
    intro s' p h _ i
    simp only [frz, Option.some.injEq, Prod.mk.injEq] at h
    obtain ⟨rfl, _⟩ := h
    exact .inl rfl
  | cons j r ih =>
    intro s' p h hp i
    simp only [frz] at h
    split at h
    · rename_i t q1 q p' h1 h2
      simp only [Option.some.injEq, Prod.mk.injEq] at h
      obtain ⟨rfl, rfl⟩ := h
      obtain ⟨hp1, hp2⟩ := andOO_ok hp
      simp only [slk]
      split
      · rename_i he
        obtain rfl := Nat.eq_of_beq_eq_true he
        exact .inr ⟨_, h1, hp1⟩
      · exact ih h2 hp2 i
    · cases h
theorem frz_ok {σ : Sy} {ks : List Nat} {s' : Slots} {p : Option Prop} (h : frz σ.H σ.s ks = some (s', p)) (hp : p.getD True) : Sub 0 σ ⟨s', []⟩ := by
  intro c a w hc hr
  obtain ⟨E, hr⟩ := hr
  refine ⟨E.lent 0 σ.H, hr.defers, hr.size, ⟨fun i _ => ?_, fun i hx => absurd (fun q hq => by cases hq) hx⟩, lent0_ok hc hr.inv⟩
  rcases frz_mem h hp i with hi | ⟨q, hi, hq⟩
  · show Rd _ w (slk s' i) _
    rw [hi]
    exact .und _
  · exact borrow_ok hr.inv 6 hi hq (hr.slots.on i (fun q hq => by cases hq))
theorem subO_ok {l : Option (List Lk)} {σ σ' : Sy} (h : subO m l σ σ') : Sub m σ σ' := by
  unfold subO at h
  split at h
  · exact subV_ok h
  · exact h.elim

theorem relP_mono {s : Slots} {op : Op} {k k' : Gam → Prop} (hk : ∀ G', k G' → k' G') (h : relP G s op k) : relP G s op k' := by
  unfold relP at h ⊢
  split at h
  · exact hk _ h
  · obtain ⟨x, hx⟩ := h
    exact ⟨x, hk _ hx⟩

theorem vcOps_mono {all : Array Oper} {K K' : Slots → Heap → Prop} (hK : ∀ s H, K s H → K' s H) : ∀ (rest : List Oper) (s : Slots) (ps : Paths) (H : Heap), vcOps P G nt all rest s ps H K → vcOps P G nt all rest s ps H K' := by
  intro rest
  induction rest with
  | nil => intro s ps H h; exact hK _ _ h
  | cons o rest ih =>
    intro s ps H h
    have andp : ∀ {p : Path} {side : Option Prop} {q q' : Prop}, (q → q') → andP s p side q → andP s p side q' := by
      intro p side q q' hq h
      cases side with
      | none => exact hq h
      | some r => exact ⟨h.1, hq h.2⟩
    unfold vcOps at h ⊢
    split at h
    · split at h
      · exact h.elim
      · refine relP_mono (fun G' h => ?_) h
        split at h
        · exact andp (ih _ _ _) h
        · exact h.elim
    · split at h
      · split at h
        · split at h
          · exact h.elim
          · refine relP_mono (fun G' h => ?_) h
            split at h
            · exact andp (ih _ _ _) h
            · exact h.elim
        · exact h.elim
      · exact h.elim

theorem vcAny_mono {all : Array Oper} {H0 : Heap} {K K' : Slots → Heap → Prop} (hK : ∀ s H, K s H → K' s H) : ∀ (rest : List Oper) (i : Nat) (earlier : List (Nat × Oper × RW)) (tab : List Nat) (s : Slots) (ps : Paths) (hist : List (Nat × Heap)),
    vcAny P G nt all H0 rest i earlier tab s ps hist K → vcAny P G nt all H0 rest i earlier tab s ps hist K' := by
  intro rest
  induction rest with
  | nil => intro i earlier tab s ps hist h; exact hK _ _ h
  | cons o rest ih =>
    intro i earlier tab s ps hist h
    have andp : ∀ {p : Path} {side : Option Prop} {q q' : Prop}, (q → q') → andP s p side q → andP s p side q' := by
      intro p side q q' hq h
      cases side with
      | none => exact hq h
      | some r => exact ⟨h.1, hq h.2⟩
    unfold vcAny at h ⊢
    split at h
    · exact h.elim
    · split at h
      · split at h
        · exact h.elim
        · split at h
          · refine relP_mono (fun G' h => ?_) h
            split at h
            · exact andp (ih _ _ _ _ _ _) h
            · exact h.elim
          · split at h
            · exact andp (ih _ _ _ _ _ _) h
            · exact h.elim
      · split at h
        · split at h
          · split at h
            · exact h.elim
            · refine relP_mono (fun G' h => ?_) h
              split at h
              · exact andp (ih _ _ _ _ _ _) h
              · exact h.elim
          · exact h.elim
        · exact h.elim

theorem vcI_ok : ∀ (code : Code) (k : Nat) (Q : Exit → Sy → (Nat → Ann) → Prop) (Q' : Exit → Sy → Prop) (σ : Sy) (A : Nat → Ann), (∀ e σ A, Q e σ A → Q' e σ) → vcI P G nt m code k Q σ A → vc P G nt (Sub m) code Q' σ := by
  intro code
  induction code with
  | skip => intro k Q Q' σ A hQ h; exact hQ _ _ _ h
  | region id ops draw =>
    intro k Q Q' σ A hQ h
    simp only [vcI, vc] at h ⊢
    split at h
    · exact vcOps_mono (fun s H hk => hQ _ _ _ hk) _ _ _ _ h
    · exact vcAny_mono (fun s H hk => hQ _ _ _ hk) _ _ _ _ _ _ _ h
  | seq x y ihx ihy =>
    intro k Q Q' σ A hQ h
    simp only [vcI, vc] at h ⊢
    refine ihx _ _ _ _ _ (fun e σ' A' h' => ?_) h
    cases e with
    | normal => exact ihy _ _ _ _ _ hQ h'
    | _ => exact hQ _ _ _ h'
  | cond cd x y ihx ihy =>
    intro k Q Q' σ A hQ h
    simp only [vcI, vc] at h ⊢
    split at h
    · rename_i b hb0
      rw [hb0]
      exact ⟨fun hb => ihx _ _ _ _ _ hQ (h.1 hb), fun hb => ihy _ _ _ _ _ hQ (h.2 hb)⟩
    · exact h.elim
  | block id body ih =>
    intro k Q Q' σ A hQ h
    simp only [vcI, vc] at h ⊢
    refine ih _ _ _ _ _ (fun e σ' A' h' => ?_) h
    cases e with
    | exit i =>
      simp only at h' ⊢
      split at h'
      · rename_i hb0
        rw [hb0]
        exact hQ _ _ _ h'
      · rename_i hb0
        rw [hb0]
        exact hQ _ _ _ h'
    | _ => exact hQ _ _ _ h'
  | loop body ih =>
    intro k Q Q' σ A hQ h
    simp only [vcI, vc] at h ⊢
    split at h
    · exact h.elim
    · rename_i n sub hA
      refine ⟨{ p : Nat × Sy // rounds (fun r next σ' => vcI P G nt m body (k + 1) (fun e σ'' A' => match e with | .normal => next σ'' | e => Q e σ'' A') σ' (sub r)) p.1 p.2 }, fun p => p.1.2, fun p => p.1.1, ⟨⟨(n, σ), h⟩, fun c a w _ hr => hr⟩, fun x => ?_⟩
      obtain ⟨⟨j, τ⟩, hx⟩ := x
      cases j with
      | zero => exact hx.elim
      | succ j =>
        refine ih _ _ _ _ _ (fun e σ' A' h' => ?_) hx
        cases e with
        | normal => exact ⟨⟨(j, σ'), h'⟩, fun c a w _ hr => hr, Nat.lt_succ_self j⟩
        | _ => exact hQ _ _ _ h'
    · rename_i ι I μ lin lback sub hA
      obtain ⟨⟨x0, h0⟩, hround⟩ := h
      refine ⟨ι, I, μ, ⟨x0, subV_ok h0⟩, fun x => ih _ _ _ _ _ (fun e σ' A' h' => ?_) (hround x)⟩
      cases e with
      | normal => obtain ⟨y, hy, hlt⟩ := h'; exact ⟨y, subV_ok hy, hlt⟩
      | _ => exact hQ _ _ _ h'
    · rename_i ks ι I μ lback sub hA
      obtain ⟨h0, hround⟩ := h
      split at h0
      · rename_i s' p hz
        have h0' : p.getD True ∧ ∃ x, subV 0 [] ⟨s', []⟩ (I x) := by
          cases p with
          | none => exact ⟨trivial, h0⟩
          | some p => exact h0
        obtain ⟨hp, x0, hx0⟩ := h0'
        refine ⟨ι, I, μ, ⟨x0, fun c a w hc hr => subV_ok hx0 c a w hc (frz_ok hz hp c a w hc hr)⟩, fun x => ih _ _ _ _ _ (fun e σ' A' h' => ?_) (hround x)⟩
        cases e with
        | normal => obtain ⟨y, hy, hlt⟩ := h'; exact ⟨y, subV_ok hy, hlt⟩
        | _ => exact hQ _ _ _ h'
      · exact h0.elim
    · rename_i ι₁ ι₂ I₁ I₂ μ₁ μ₂ l1 l2 l11 l12 l21 l22 sub₁ sub₂ hA
      obtain ⟨h0, h1, h2⟩ := h
      refine ⟨ι₁ ⊕ ι₂, fun x => match x with | .inl x => I₁ x | .inr x => I₂ x, fun x => match x with | .inl x => μ₁ x | .inr x => μ₂ x, ?_, fun x => ?_⟩
      · rcases h0 with ⟨x, hx⟩ | ⟨x, hx⟩
        · exact ⟨.inl x, subO_ok hx⟩
        · exact ⟨.inr x, subO_ok hx⟩
      · cases x with
        | inl x =>
          refine ih _ _ _ _ _ (fun e σ' A' h' => ?_) (h1 x)
          cases e with
          | normal =>
            rcases h' with ⟨y, hy, hlt⟩ | ⟨y, hy, hlt⟩
            · exact ⟨.inl y, subO_ok hy, hlt⟩
            · exact ⟨.inr y, subO_ok hy, hlt⟩
          | _ => exact hQ _ _ _ h'
        | inr x =>
          refine ih _ _ _ _ _ (fun e σ' A' h' => ?_) (h2 x)
          cases e with
          | normal =>
            rcases h' with ⟨y, hy, hlt⟩ | ⟨y, hy, hlt⟩
            · exact ⟨.inl y, subO_ok hy, hlt⟩
            · exact ⟨.inr y, subO_ok hy, hlt⟩
          | _ => exact hQ _ _ _ h'
  | exit id => intro k Q Q' σ A hQ h; exact hQ _ _ _ h
  | ret => intro k Q Q' σ A hQ h; exact hQ _ _ _ h
  | _ => intro k Q Q' σ A hQ h; simp [vcI] at h

/-- What a function yields, said plainly. -/
def postV (res r : T) : Prop := tleV (fun _ => none) 6 r res

/-- A function that only reads, with what holds at its loops' heads. -/
def vcFn (P : Program) (G : Gam) (nt : Nat) (rs : List ResultVar) (code : Code) (args : List T) (res : T) (A : Nat → Ann) : Prop :=
  vcI P G nt 0 code 0 (fun e σ _ => retQ P rs (postV res) e σ) ⟨initS 0 args, []⟩ A

theorem fn_vc (hm : P.follows .mixedOrders = true) (hG : GamOk P G) (hGc : ∀ x ∈ G, Callable P x.1) {f : FuncId} {fn : Func} {code : Code} {args : List T} {res : T} (hf : P.funcs[f]? = some fn) (hb : fn.body = some code) (hnt : args.length ≤ fn.ntmps)
    (A : Nat → Ann) (h : vcFn P G fn.ntmps fn.results.toList code args res A) : PureFn P f args res := by
  refine fn_pure hm hG hGc hf hb hnt (vcI_ok _ _ _ _ _ _ (fun e σ A' hq => ?_) h)
  have mono : ∀ {p : Option Prop} {q q' : Prop}, (q → q') → andO p q → andO p q' := by
    intro p q q' hq h
    cases p with
    | none => exact hq h
    | some p => exact ⟨h.1, hq h.2⟩
  unfold retQ at hq ⊢
  split at hq
  · split at hq
    · split at hq
      · exact mono (mono fun h => TLe.rle (tleV_ok h)) hq
      · exact hq.elim
    · exact hq.elim
  · split at hq
    · split at hq
      · exact mono (mono fun h => TLe.rle (tleV_ok h)) hq
      · exact hq.elim
    · exact hq.elim
  · exact hq.elim

end
end Go.SS
