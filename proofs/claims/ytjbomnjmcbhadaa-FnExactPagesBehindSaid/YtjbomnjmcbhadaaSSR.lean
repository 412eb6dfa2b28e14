/- A calculus of symbolic states: objects under other names; calls that write to what they are given. -/
import Derived.Test.YtjbomnjmcbhadaaSS12
namespace Go.SS
open Go.RowKit

def Env.ren (E : Env) (ρ : Nat → Option Nat) (len : Nat) : Env where
  N := E.N
  L := fun k => k < len ∧ ∃ m, ρ k = some m ∧ E.L m
  β := fun k => E.β ((ρ k).getD k)
  κ := fun k => E.κ ((ρ k).getD k)
  z := fun k => E.z ((ρ k).getD k)

section
variable {c : Ctx} {E : Env} {H H' : Heap} {w w' : World} {ρ : Nat → Option Nat} {len : Nat} {P : Program} {G : Gam}

theorem Rd.ren (hlt : ∀ k m, ρ k = some m → k < len) : ∀ (d : Nat) {t t' : T} {x : Value}, renT ρ d t' = some t → Rd E w t x → Rd (E.ren ρ len) w t' x := by
  intro d
  induction d with
  | zero => intro t t' x h; simp [renT] at h
  | succ d ih =>
    intro t t' x h hx
    have list : ∀ (cs cs' : List T) (vs : Array Value), mapO (renT ρ d) cs' = some cs → cs.length = vs.size → (∀ (i : Nat) (t : T) (x : Value), cs[i]? = some t → vs[i]? = some x → Rd E w t x) →
        cs'.length = vs.size ∧ ∀ (i : Nat) (t : T) (x : Value), cs'[i]? = some t → vs[i]? = some x → Rd (E.ren ρ len) w t x := by
      intro cs cs' vs hm hl ht
      obtain ⟨h1, h2⟩ := mapO_ok hm
      refine ⟨by omega, fun i t x hi hx => ?_⟩
      have hlt : i < cs.length := by rw [h1]; exact (List.getElem?_eq_some_iff.1 hi).1
      have hc := List.getElem?_eq_getElem hlt
      exact ih (h2 i t _ hi hc) (ht i _ x hc hx)
    unfold renT at h
    split at h
    · rename_i k i j
      simp only [Option.map_eq_some_iff] at h
      obtain ⟨m, hm, rfl⟩ := h
      cases hx with
      | ref _ _ _ hL =>
        have := Rd.ref (E := E.ren ρ len) (w := w) k i j ⟨hlt k m hm, m, hm, hL⟩
        simpa [Env.ren, hm] using this
    · rename_i k off n
      simp only [Option.map_eq_some_iff] at h
      obtain ⟨m, hm, rfl⟩ := h
      cases hx with
      | osl _ _ _ o hL hn ho =>
        have := Rd.osl (E := E.ren ρ len) (w := w) k off n o ⟨hlt k m hm, m, hm, hL⟩ (by simpa [Env.ren, hm] using hn) (by simpa [Env.ren, hm] using ho)
        simpa [Env.ren, hm] using this
    · rename_i k
      simp only [Option.map_eq_some_iff] at h
      obtain ⟨m, hm, rfl⟩ := h
      cases hx with
      | mpr _ hL =>
        have := Rd.mpr (E := E.ren ρ len) (w := w) k ⟨hlt k m hm, m, hm, hL⟩
        simpa [Env.ren, hm] using this
    · rename_i cs'
      simp only [Option.map_eq_some_iff] at h
      obtain ⟨cs, hm, rfl⟩ := h
      cases hx with
      | agg _ vs hl ht => obtain ⟨a1, a2⟩ := list cs cs' vs hm hl ht; exact .agg _ vs a1 a2
    · rename_i cs'
      simp only [Option.map_eq_some_iff] at h
      obtain ⟨cs, hm, rfl⟩ := h
      cases hx with
      | tup _ vs hl ht => obtain ⟨a1, a2⟩ := list cs cs' vs hm hl ht; exact .tup _ vs a1 a2
    · rename_i f cs'
      simp only [Option.map_eq_some_iff] at h
      obtain ⟨cs, hm, rfl⟩ := h
      cases hx with
      | fn _ _ vs hl ht => obtain ⟨a1, a2⟩ := list cs cs' vs hm hl ht; exact .fn _ _ vs a1 a2
    · rename_i n1 n2 n6 n3 n4 n5
      simp only [Option.some.injEq] at h
      subst h
      have hc : ∀ {t : T} {x : Value}, Rd E w t x → closedT t = true → Rd (E.ren ρ len) w t x := fun hx ht => Rd.closed (E := E) (E' := E.ren ρ len) (fun _ h => h) hx ht
      cases hx with
      | und x => exact .und x
      | ref => exact absurd rfl (n1 _ _ _)
      | osl => exact absurd rfl (n2 _ _ _)
      | mpr => exact absurd rfl (n6 _)
      | agg => exact absurd rfl (n3 _)
      | tup => exact absurd rfl (n4 _)
      | fn => exact absurd rfl (n5 _ _)
      | int => exact .int _ _
      | bool => exact .bool _
      | str => exact .str _
      | v => exact .v _
      | slNil => exact .slNil _ _
      | slEmp => exact .slEmp _ _ _
      | bysEmp => exact .bysEmp _
      | bysNil => exact .bysNil
      | sl sz n row b off cap u h1 h2 h3 h4 h5 h6 => exact hc (.sl sz n row b off cap u h1 h2 h3 h4 h5 h6) rfl
      | bys l b off cap h1 h2 h3 => exact hc (.bys l b off cap h1 h2 h3) rfl
      | bref cells b off u h1 h2 h3 h4 => exact hc (.bref cells b off u h1 h2 h3 h4) rfl

theorem renT_one : ∀ {d : Nat} {t t' : T}, renT ρ d t' = some t → oneT t = true → oneT t' = true := by
  intro d t t' h ht
  cases d with
  | zero => simp [renT] at h
  | succ d =>
    unfold renT at h
    split at h
    · rfl
    · rfl
    · rfl
    · simp only [Option.map_eq_some_iff] at h
      obtain ⟨cs, _, rfl⟩ := h
      simp [oneT] at ht
    · simp only [Option.map_eq_some_iff] at h
      obtain ⟨cs, _, rfl⟩ := h
      simp [oneT] at ht
    · rfl
    · simp only [Option.some.injEq] at h
      subst h
      exact ht


theorem renT_inv {ρ1 ρ2 : Nat → Option Nat} (h : ∀ k i, ρ1 k = some i → ρ2 i = some k) : ∀ {d : Nat} {t t' : T}, renT ρ1 d t = some t' → renT ρ2 d t' = some t := by
  intro d
  induction d with
  | zero => intro t t' ht; simp [renT] at ht
  | succ d ih =>
    have list : ∀ {l q : List T}, mapO (renT ρ1 d) l = some q → mapO (renT ρ2 d) q = some l := by
      intro l
      induction l with
      | nil => intro q hq; simp only [mapO, Option.some.injEq] at hq; subst hq; rfl
      | cons x l ihl =>
        intro q hq
        simp only [mapO] at hq
        split at hq
        · rename_i hb hr
          simp only [Option.some.injEq] at hq
          subst hq
          simp only [mapO, ih hb, ihl hr]
        · cases hq
    intro t t' ht
    unfold renT at ht
    split at ht
    · simp only [Option.map_eq_some_iff] at ht
      obtain ⟨m, hm, rfl⟩ := ht
      simp [renT, h _ _ hm]
    · simp only [Option.map_eq_some_iff] at ht
      obtain ⟨m, hm, rfl⟩ := ht
      simp [renT, h _ _ hm]
    · simp only [Option.map_eq_some_iff] at ht
      obtain ⟨m, hm, rfl⟩ := ht
      simp [renT, h _ _ hm]
    · simp only [Option.map_eq_some_iff] at ht
      obtain ⟨cs, hm, rfl⟩ := ht
      simp [renT, list hm]
    · simp only [Option.map_eq_some_iff] at ht
      obtain ⟨cs, hm, rfl⟩ := ht
      simp [renT, list hm]
    · simp only [Option.map_eq_some_iff] at ht
      obtain ⟨cs, hm, rfl⟩ := ht
      simp [renT, list hm]
    · rename_i n1 n2 n6 n3 n4 n5
      simp only [Option.some.injEq] at ht
      subst ht
      unfold renT
      split
      · exact absurd rfl (n1 _ _ _)
      · exact absurd rfl (n2 _ _ _)
      · exact absurd rfl (n6 _)
      · exact absurd rfl (n3 _)
      · exact absurd rfl (n4 _)
      · exact absurd rfl (n5 _ _)
      · rfl

theorem renT_closed {d : Nat} {t : T} (h : closedT t = true) : renT ρ (d + 1) t = some t := by
  cases t <;> first | rfl | (simp [closedT] at h)

theorem renT_one' {d : Nat} {t t' : T} (h : renT ρ d t = some t') (ht : oneT t = true) : oneT t' = true := by
  cases d with
  | zero => simp [renT] at h
  | succ d =>
    unfold renT at h
    split at h
    · simp only [Option.map_eq_some_iff] at h; obtain ⟨_, _, rfl⟩ := h; rfl
    · simp only [Option.map_eq_some_iff] at h; obtain ⟨_, _, rfl⟩ := h; rfl
    · simp only [Option.map_eq_some_iff] at h; obtain ⟨_, _, rfl⟩ := h; rfl
    · simp [oneT] at ht
    · simp [oneT] at ht
    · simp only [Option.map_eq_some_iff] at h; obtain ⟨_, _, rfl⟩ := h; rfl
    · simp only [Option.some.injEq] at h; subst h; exact ht

/-- An object under its other name. -/
theorem obF_okA {E2 : Env} {k k2 : Nat} {ob ob' : Ob} (h : ArrOk E w k ob.toArr) (hia : ob.isArr = true) (hf : obF ρ ob = some ob') (hrd : ∀ t t' x, renT ρ 6 t = some t' → Rd E w t x → Rd E2 w' t' x)
    (hb : E2.β k2 = E.β k) (hκ : E2.κ k2 = E.κ k) (hz : E2.z k2 = E.z k) (hw : w'.heap[E.β k]? = w.heap[E.β k]?) : ArrOk E2 w' k2 ob'.toArr := by
  obtain ⟨hz0, hn, hl, hone, hcl, cs, ty, hblk, hsz, hc⟩ := h
  have hcl' : ∀ t x, closedT t = true → Rd E w t x → Rd E2 w' t x := fun t x ht hx => hrd t t x (renT_closed ht) hx
  unfold ArrOk
  rw [hb, hκ, hz, hw]
  unfold obF at hf
  split at hf
  · simp only [Option.some.injEq] at hf
    subst hf
    refine ⟨hz0, hn, hl, hone, hcl, cs, ty, hblk, hsz, fun i j t hi hj => ?_⟩
    obtain ⟨u, hu, hr⟩ := hc i j t hi hj
    exact ⟨u, hu, hcl' t u (hcl rfl i t hi (List.mem_of_getElem? hj)) hr⟩
  · simp only [Option.some.injEq] at hf
    subst hf
    refine ⟨hz0, hn, hl, hone, hcl, cs, ty, hblk, hsz, fun i j t hi hj => ?_⟩
    obtain ⟨u, hu, hr⟩ := hc i j t hi hj
    exact ⟨u, hu, hcl' t u (hcl rfl i t hi (List.mem_of_getElem? hj)) hr⟩
  · split at hf
    · rename_i ty0 sz row n0
      simp only [Option.map_eq_some_iff] at hf
      obtain ⟨r, hr, rfl⟩ := hf
      obtain ⟨h1, h2⟩ := mapO_ok hr
      simp only [Ob.toArr] at *
      have hget : ∀ (j : Nat) (t' : T), r[j]? = some t' → ∃ t, (row 0)[j]? = some t ∧ renT ρ 6 t = some t' := by
        intro j t' hj
        have hlt : j < (row 0).length := by rw [← h1]; exact (List.getElem?_eq_some_iff.1 hj).1
        exact ⟨_, List.getElem?_eq_getElem hlt, h2 j _ t' (List.getElem?_eq_getElem hlt) hj⟩
      refine ⟨hz0, hn, fun i hi => ?_, fun i t hi ht => ?_, fun hc' => (by cases hc'), cs, ty, hblk, hsz, fun i j t hi hj => ?_⟩
      · rw [h1]; exact hl 0 (by omega)
      · obtain ⟨j, hj⟩ := List.getElem?_of_mem ht
        obtain ⟨t0, h0, hr0⟩ := hget j t hj
        exact renT_one' hr0 (hone 0 t0 (by omega) (List.mem_of_getElem? h0))
      · obtain rfl : i = 0 := by omega
        obtain ⟨t0, h0, hr0⟩ := hget j t hj
        obtain ⟨u, hu, hr⟩ := hc 0 j t0 (by omega) h0
        exact ⟨u, hu, hrd t0 t u hr0 hr⟩
    · cases hf
  · cases hia

theorem obF_ok {E2 : Env} {k k2 : Nat} {ob ob' : Ob} (h : ObOk E w k ob) (hf : obF ρ ob = some ob') (hrd : ∀ t t' x, renT ρ 6 t = some t' → Rd E w t x → Rd E2 w' t' x)
    (hb : E2.β k2 = E.β k) (hκ : E2.κ k2 = E.κ k) (hz : E2.z k2 = E.z k) (hw : w'.heap[E.β k]? = w.heap[E.β k]?) : ObOk E2 w' k2 ob' := by
  cases ob with
  | mp bo get =>
    simp only [obF, Option.some.injEq] at hf
    subst hf
    obtain ⟨es, clock, h1, h2⟩ := h
    exact ⟨es, clock, by rw [hb, hw]; exact h1, h2⟩
  | arr cl ty sz n row =>
    have hia : ob'.isArr = true := by
      cases cl
      · simp only [obF] at hf
        split at hf
        · simp only [Option.map_eq_some_iff] at hf
          obtain ⟨_, _, rfl⟩ := hf
          rfl
        · cases hf
      · simp only [obF, Option.some.injEq] at hf; subst hf; rfl
    exact ArrOk.ob (obF_okA (ob := .arr cl ty sz n row) h rfl hf hrd hb hκ hz hw) hia
  | bys ty l =>
    have hia : ob'.isArr = true := by simp only [obF, Option.some.injEq] at hf; subst hf; rfl
    exact ArrOk.ob (obF_okA (ob := .bys ty l) h rfl hf hrd hb hκ hz hw) hia

theorem memN_ok {k : Nat} : ∀ {l : List Nat}, memN k l = true ↔ k ∈ l := by
  intro l
  induction l with
  | nil => simp [memN]
  | cons x l ih => simp [memN, ih]

theorem nodupB_ok : ∀ {l : List Nat}, nodupB l = true → l.Nodup := by
  intro l
  induction l with
  | nil => intro _; exact List.nodup_nil
  | cons x l ih =>
    intro h
    simp only [nodupB, Bool.and_eq_true, Bool.not_eq_true'] at h
    refine List.nodup_cons.2 ⟨fun hm => ?_, ih h.2⟩
    rw [memN_ok.2 hm] at h
    cases h.1

theorem nthN_eq : ∀ {l : List Nat} {i : Nat}, nthN l i = l[i]? := by
  intro l
  induction l with
  | nil => intro i; simp [nthN]
  | cons x l ih => intro i; cases i with | zero => simp [nthN] | succ i => simp [nthN, ih]

theorem idxOf_ok {k : Nat} : ∀ {l : List Nat} {n i : Nat}, idxOf k l n = some i → n ≤ i ∧ l[i - n]? = some k := by
  intro l
  induction l with
  | nil => intro n i h; simp [idxOf] at h
  | cons x l ih =>
    intro n i h
    simp only [idxOf] at h
    split at h
    · rename_i hb
      simp only [Option.some.injEq] at h
      subst h
      rw [Nat.eq_of_beq_eq_true hb]
      simp
    · obtain ⟨h1, h2⟩ := ih h
      refine ⟨by omega, ?_⟩
      rw [show i - n = (i - (n + 1)) + 1 by omega]
      simpa using h2

theorem idxOf_of {k : Nat} : ∀ {l : List Nat} {n i : Nat}, l.Nodup → l[i]? = some k → idxOf k l n = some (n + i) := by
  intro l
  induction l with
  | nil => intro n i _ h; simp at h
  | cons x l ih =>
    intro n i hnd h
    obtain ⟨hx, hnd'⟩ := List.nodup_cons.1 hnd
    simp only [idxOf]
    cases i with
    | zero =>
      simp only [List.getElem?_cons_zero, Option.some.injEq] at h
      subst h
      simp
    | succ i =>
      simp only [List.getElem?_cons_succ] at h
      have hne : Nat.beq k x = false := by
        cases hb : Nat.beq k x with
        | false => rfl
        | true => rw [Nat.eq_of_beq_eq_true hb] at h; exact absurd (List.mem_of_getElem? h) hx
      rw [hne]
      simp only
      rw [ih hnd' h]
      congr 1
      omega

theorem setObs_ok : ∀ {ks : List Nat} {os : List (Option Ob)} {H : Heap}, ks.Nodup → (∀ k ∈ ks, k < H.length) → os.length = ks.length → (setObs H ks os).length = H.length ∧
    (∀ (i k : Nat) (o : Option Ob), ks[i]? = some k → os[i]? = some o → getOb (setObs H ks os) k = o) ∧ ∀ k, k ∉ ks → getOb (setObs H ks os) k = getOb H k := by
  intro ks
  induction ks with
  | nil => intro os H _ _ _; exact ⟨by cases os <;> simp [setObs], fun i k o h => by simp at h, fun k _ => by cases os <;> simp [setObs]⟩
  | cons x ks ih =>
    intro os H hnd hlt hlen
    cases os with
    | nil => simp at hlen
    | cons o os =>
      obtain ⟨hx, hnd'⟩ := List.nodup_cons.1 hnd
      have hxl := hlt x (by simp)
      obtain ⟨h1, h2, h3⟩ := ih (os := os) (H := H.set x o) hnd' (fun k hk => by simp; exact hlt k (by simp [hk])) (by simpa using hlen)
      simp only [setObs]
      refine ⟨by simpa using h1, fun i k o' hi ho => ?_, fun k hk => ?_⟩
      · cases i with
        | zero =>
          simp at hi ho
          subst hi; subst ho
          rw [h3 _ hx, getOb_set hxl, if_pos rfl]
        | succ i => exact h2 i k o' (by simpa using hi) (by simpa using ho)
      · simp only [List.mem_cons, not_or] at hk
        rw [h3 k hk.2, getOb_set hxl, if_neg hk.1]

theorem getOb_map {obs : List Ob} {i : Nat} {ob : Ob} : getOb (obs.map some) i = some ob ↔ obs[i]? = some ob := by
  unfold getOb
  simp only [List.getElem?_map]
  cases obs[i]? with
  | none => simp
  | some x => simp

theorem eff_ok (hG : GamOk P G) (h : Inv c E H w) {f : FuncId} {args : List T} {vs : Array Value} {r : T} {p : Option Prop} (he : evEff G H f args = some (r, H', p)) (hp : p.getD True) (ha : RdL E w args vs) :
    Calls P f vs w fun e w' => ∃ v E', e = .returned v ∧ Inv c E' H' w' ∧ Step E w E' w' ∧ Rd E' w' r v := by
  unfold evEff at he
  split at he
  case h_2 => cases he
  rename_i cf hcf
  have hf := geff_ok hG hcf
  generalize reach H 64 (idsT args) [] = ks at he
  unfold evEffAt at he
  split at he
  case h_2 => cases he
  rename_i as obs hnd has hobs
  split at he
  case h_2 => cases he
  rename_i r0 H0' p0 hc
  split at he
  case h_2 => cases he
  rename_i r1 os hlen hr1 hos
  simp only [Option.some.injEq, Prod.mk.injEq] at he
  obtain ⟨rfl, rfl, rfl⟩ := he
  have hlen := Nat.eq_of_beq_eq_true hlen
  have hnodup := nodupB_ok hnd
  have hfn := hf as (obs.map some) r0 H0' p0 hc hp
  obtain ⟨o1, o2⟩ := mapO_ok hobs
  obtain ⟨a1, a2⟩ := mapO_ok has
  obtain ⟨s1, s2⟩ := mapO_ok hos
  -- the names
  have inv1 : ∀ k i, (fun k => idxOf k ks 0) k = some i → nthN ks i = some k := fun k i hk => by
    rw [nthN_eq]; have := (idxOf_ok hk).2; simpa using this
  have inv2 : ∀ i k, nthN ks i = some k → (fun k => idxOf k ks 0) k = some i := fun i k hi => by
    rw [nthN_eq] at hi
    have := idxOf_of (n := 0) hnodup hi
    simpa using this
  have nlt : ∀ i k, nthN ks i = some k → i < ks.length := fun i k hi => by rw [nthN_eq] at hi; exact (List.getElem?_eq_some_iff.1 hi).1
  -- of each name the object
  have hob : ∀ (i k : Nat), ks[i]? = some k → ∃ ob ob', getOb H k = some ob ∧ obs[i]? = some ob' ∧ obF (fun k => idxOf k ks 0) ob = some ob' := by
    intro i k hk
    have hlt : i < obs.length := by rw [o1]; exact (List.getElem?_eq_some_iff.1 hk).1
    have := o2 i k _ hk (List.getElem?_eq_getElem hlt)
    simp only [Option.bind_eq_some_iff] at this
    obtain ⟨ob, hob, hF⟩ := this
    exact ⟨ob, _, hob, List.getElem?_eq_getElem hlt, hF⟩
  have hkL : ∀ (i k : Nat), ks[i]? = some k → E.L k := fun i k hk => by
    obtain ⟨ob, _, hob, _⟩ := hob i k hk
    exact (h.heap.live k ob hob).1
  let E1 := E.ren (nthN ks) ks.length
  have hβ1 : ∀ (i k : Nat), ks[i]? = some k → E1.β i = E.β k ∧ E1.κ i = E.κ k ∧ E1.z i = E.z k ∧ E1.L i := by
    intro i k hk
    have hn : nthN ks i = some k := by rw [nthN_eq]; exact hk
    exact ⟨by simp [E1, Env.ren, hn], by simp [E1, Env.ren, hn], by simp [E1, Env.ren, hn], nlt i k hn, k, hn, hkL i k hk⟩
  have hL1 : ∀ i, E1.L i → ∃ k, ks[i]? = some k := fun i hi => by
    obtain ⟨_, k, hk, _⟩ := hi
    exact ⟨k, by rw [← nthN_eq]; exact hk⟩
  have hrd1 : ∀ t t' x, renT (fun k => idxOf k ks 0) 6 t = some t' → Rd E w t x → Rd E1 w t' x := fun t t' x ht hx => Rd.ren nlt 6 (renT_inv inv1 ht) hx
  have hH1 : HeapOk E1 w (obs.map some) := by
    refine ⟨fun i ob' hi => ?_, fun i i' ob ob' hi hi' he => ?_, fun i hi => ?_⟩
    · rw [getOb_map] at hi
      have hlt : i < ks.length := by rw [← o1]; exact (List.getElem?_eq_some_iff.1 hi).1
      have hk := List.getElem?_eq_getElem hlt
      obtain ⟨ob, ob2, hob', ho2, hF⟩ := hob i _ hk
      rw [hi] at ho2
      simp only [Option.some.injEq] at ho2
      subst ho2
      obtain ⟨b1, b2, b3, b4⟩ := hβ1 i _ hk
      obtain ⟨l1, l2, l3⟩ := h.heap.live _ ob hob'
      exact ⟨b4, obF_ok l2 hF hrd1 b1 b2 b3 rfl, by rw [b1]; exact l3⟩
    · rw [getOb_map] at hi hi'
      have hlt : i < ks.length := by rw [← o1]; exact (List.getElem?_eq_some_iff.1 hi).1
      have hlt' : i' < ks.length := by rw [← o1]; exact (List.getElem?_eq_some_iff.1 hi').1
      have hk := List.getElem?_eq_getElem hlt
      have hk' := List.getElem?_eq_getElem hlt'
      obtain ⟨ob2, _, hob2, _⟩ := hob i _ hk
      obtain ⟨ob3, _, hob3, _⟩ := hob i' _ hk'
      rw [(hβ1 i _ hk).1, (hβ1 i' _ hk').1] at he
      have hee := h.heap.inj _ _ _ _ hob2 hob3 he
      exact (List.getElem?_inj hlt hnodup).1 (by rw [hk, hk', hee])
    · obtain ⟨hlt, _⟩ := hi
      simp [o1]
      exact hlt
  have hval : RdL E1 w as vs := ⟨by rw [a1]; exact ha.1, fun i t x hi hx => by
    have hlt : i < args.length := by rw [← a1]; exact (List.getElem?_eq_some_iff.1 hi).1
    exact hrd1 _ _ x (a2 i _ t (List.getElem?_eq_getElem hlt) hi) (ha.2 i _ x (List.getElem?_eq_getElem hlt) hx)⟩
  refine (hfn E1 w vs hH1 h.nlt (fun i hi => ?_) hval).mono fun e w' hh => ?_
  · obtain ⟨k, hk⟩ := hL1 i hi
    rw [(hβ1 i k hk).1]
    exact h.blt k (hkL i k hk)
  obtain ⟨v, E', rfl, hI, hst, hrd⟩ := hh
  -- the names back
  have hE'L : ∀ i, E'.L i → ∃ k, ks[i]? = some k := fun i hi => by
    have hlt := hI.heap.lt i hi
    rw [hlen] at hlt
    exact ⟨_, List.getElem?_eq_getElem hlt⟩
  have hβ' : ∀ (i k : Nat), ks[i]? = some k → E'.β i = E.β k ∧ E'.κ i = E.κ k ∧ E'.z i = E.z k := by
    intro i k hk
    obtain ⟨b1, b2, b3, b4⟩ := hβ1 i k hk
    exact ⟨(hst.le.β i b4).trans b1, (hst.le.κ i b4).trans b2, (hst.le.z i b4).trans b3⟩
  let E2 : Env := { E with N := E'.N }
  have hstep : Step E w E2 w' := ⟨⟨fun b hb => hst.le.N b hb, fun _ h => h, fun _ _ => rfl, fun _ _ => rfl, fun _ _ => rfl⟩, fun b hb => hst.same b hb⟩
  have hrd2 : ∀ t t' x, renT (nthN ks) 6 t = some t' → Rd E' w' t x → Rd E2 w' t' x := by
    intro t t' x ht hx
    have h1 := Rd.ren (ρ := fun k => idxOf k ks 0) (len := H.length) (fun k i hk => by
      have hk' : ks[i]? = some k := by rw [← nthN_eq]; exact inv1 k i hk
      exact h.heap.lt k (hkL i k hk')) 6 (renT_inv inv2 ht) hx
    refine Rd.mono (w := w') (w' := w') (E := E'.ren (fun k => idxOf k ks 0) H.length) (E' := E2) ⟨fun b hb => hb, fun k hk => ?_, fun k hk => ?_, fun k hk => ?_, fun k hk => ?_⟩ (fun _ _ => rfl) h1 <;>
      (obtain ⟨_, i, hi, hLi⟩ := hk
       have hk' : ks[i]? = some k := by rw [← nthN_eq]; exact inv1 k i hi
       first
         | exact hkL i k hk'
         | (simp only [Env.ren, hi, Option.getD_some]; first | exact (hβ' i k hk').1.symm | exact (hβ' i k hk').2.1.symm | exact (hβ' i k hk').2.2.symm))
  have hksl : ∀ k ∈ ks, k < H.length := fun k hk => by
    obtain ⟨i, hi⟩ := List.getElem?_of_mem hk
    exact h.heap.lt k (hkL i k hi)
  obtain ⟨z1, z2, z3⟩ := setObs_ok (os := os) hnodup hksl (by rw [s1, hlen])
  have hget : ∀ k ob, getOb (setObs H ks os) k = some ob → (∃ i ob', ks[i]? = some k ∧ getOb H0' i = some ob' ∧ obF (nthN ks) ob' = some ob) ∨ (k ∉ ks ∧ getOb H k = some ob) := by
    intro k ob hk
    by_cases hm : k ∈ ks
    · obtain ⟨i, hi⟩ := List.getElem?_of_mem hm
      have hlt : i < os.length := by rw [s1, hlen]; exact (List.getElem?_eq_some_iff.1 hi).1
      have hlt' : i < H0'.length := by rw [hlen]; exact (List.getElem?_eq_some_iff.1 hi).1
      have ho := List.getElem?_eq_getElem hlt
      rw [z2 i k _ hi ho] at hk
      have := s2 i _ _ (List.getElem?_eq_getElem hlt') ho
      rw [hk] at this
      cases hob' : H0'[i] with
      | none => rw [hob'] at this; simp [obB] at this
      | some ob' =>
        rw [hob'] at this
        simp only [obB, Option.map_eq_some_iff, Option.some.injEq] at this
        obtain ⟨ob2, hF, rfl⟩ := this
        refine .inl ⟨i, ob', hi, ?_, hF⟩
        unfold getOb
        rw [List.getElem?_eq_getElem hlt', hob']
        rfl
    · rw [z3 k hm] at hk
      exact .inr ⟨hm, hk⟩
  have hXB : ∀ b, XB E1 (obs.map some) b → ∃ (i k : Nat) (ob : Ob), ks[i]? = some k ∧ getOb H k = some ob ∧ b = E.β k := by
    intro b hb
    obtain ⟨i, ob', hi, rfl⟩ := hb
    rw [getOb_map] at hi
    have hlt : i < ks.length := by rw [← o1]; exact (List.getElem?_eq_some_iff.1 hi).1
    have hk := List.getElem?_eq_getElem hlt
    obtain ⟨ob, _, hob', _⟩ := hob i _ hk
    exact ⟨i, _, ob, hk, hob', (hβ1 i _ hk).1⟩
  have hsize : w.heap.size ≤ w'.heap.size := hI.fr.size
  refine ⟨v, E2, rfl, ⟨⟨fun k ob hk => ?_, fun k k' ob ob' hk hk' he => ?_, fun k hk => by rw [z1]; exact h.heap.lt k hk⟩, hI.nlt, fun k hk => Nat.lt_of_lt_of_le (h.blt k hk) hsize, fun b hb => ?_, fun k ob hk => ?_, ?_, h.keep.step hstep⟩, hstep, hrd2 _ _ v hr1 hrd⟩
  · rcases hget k ob hk with ⟨i, ob', hi, hob', hF⟩ | ⟨hm, hk'⟩
    · obtain ⟨l1, l2, l3⟩ := hI.heap.live i ob' hob'
      obtain ⟨b1, b2, b3⟩ := hβ' i k hi
      exact ⟨hkL i k hi, obF_ok l2 hF hrd2 b1.symm b2.symm b3.symm rfl, by rw [show E2.β k = E'.β i from b1.symm]; exact l3⟩
    · obtain ⟨l1, l2, l3⟩ := h.heap.live k ob hk'
      have hblt := h.blt k l1
      refine ⟨l1, l2.mono hstep rfl rfl rfl (hI.fr.block _ hblt fun hb => ?_), fun hN => ?_⟩
      · obtain ⟨i, k2, ob2, hk2, hob2, he⟩ := hXB _ hb
        have := h.heap.inj k k2 ob ob2 hk' hob2 he
        subst this
        exact hm (List.mem_of_getElem? hk2)
      · rcases hI.nnew _ hN with hN | hN | hN
        · exact l3 hN
        · have : w.heap.size ≤ E.β k := hN
          omega
        · obtain ⟨i, k2, ob2, hk2, hob2, he⟩ := hXB _ hN
          have := h.heap.inj k k2 ob ob2 hk' hob2 he
          subst this
          exact hm (List.mem_of_getElem? hk2)
  · have live : ∀ k ob, getOb (setObs H ks os) k = some ob → ∃ ob0, getOb H k = some ob0 := by
      intro k ob hk
      rcases hget k ob hk with ⟨i, _, hi, _, _⟩ | ⟨_, hk'⟩
      · obtain ⟨ob0, _, hob0, _⟩ := hob i k hi
        exact ⟨ob0, hob0⟩
      · exact ⟨ob, hk'⟩
    obtain ⟨x, hx⟩ := live k ob hk
    obtain ⟨x', hx'⟩ := live k' ob' hk'
    exact h.heap.inj k k' x x' hx hx' he
  · rcases hI.nnew b hb with hN | hN | hN
    · exact h.nnew b hN
    · have : w.heap.size ≤ b := hN
      have := h.fr.size
      exact .inr (.inl (by omega))
    · obtain ⟨i, k, ob, hk, hob', rfl⟩ := hXB b hN
      exact .inr (h.bnew k ob hob')
  · rcases hget k ob hk with ⟨i, _, hi, _, _⟩ | ⟨_, hk'⟩
    · obtain ⟨ob0, _, hob0, _⟩ := hob i k hi
      exact h.bnew k ob0 hob0
    · exact h.bnew k ob hk'
  · refine ⟨hI.fr.os.trans h.fr.os, hI.fr.tape.trans h.fr.tape, hI.fr.output.trans h.fr.output, Nat.le_trans h.fr.size hsize, fun b hb hX => ?_⟩
    have hb' : b < w.heap.size := Nat.lt_of_lt_of_le hb h.fr.size
    refine (hI.fr.block b hb' fun hx => ?_).trans (h.fr.block b hb hX)
    obtain ⟨i, k, ob, hk, hob', rfl⟩ := hXB b hx
    rcases h.bnew k ob hob' with h1 | h1
    · omega
    · exact hX h1

end
end Go.SS
