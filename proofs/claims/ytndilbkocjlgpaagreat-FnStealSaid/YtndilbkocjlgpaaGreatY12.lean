/- A part of the proof. -/
import Derived.Test.YtndilbkocjlgpaaGreatY4Y5
import Derived.WalkKit
import Derived.Deep.RegionLaw
import Derived.Deep.LoopGhost
import Derived.Lib.SliceRun
import Derived.Deep.MidRow
import Derived.Shelf.RegionOpenPlain
import Derived.Laws.IdiomCopy
namespace Go.Proofs.YtndilbkocjlgpaaGreat
open Go.SS Go.RowKit

theorem call_delFrm : Callable Tryz.prog 151 := ⟨_, Tryz.func151, by kernel_rfl, by kernel_rfl⟩
def zFrm : List Value := [.int .i64 0, .int .i64 0, .slice none 0 0, .bool false, .int .i64 0]
theorem info_frm : (Tryz.prog.info? 85).map (fun i => (i.zero, i.size, i.bytes)) = some (some (.agg zFrm.toArray), 5, 56) := by kernel_rfl
theorem under_frm : Tryz.prog.underlying 29 = some (.slice 85) := by kernel_rfl
theorem run_clear_frm (w : World) (ty : TypeId) (b o c : Nat) (hc : ∀ j, j < 5 -> (w.cell? ⟨b, o + j, none⟩).isSome = true) (hf : ∀ j, j < 5 -> w.frozen? ⟨b, o + j, none⟩ = false) :
  (Builtin.clear_ #[29] ty #[.slice (some ⟨b, o, none⟩) 1 c]).run Tryz.prog w = .ok (.tuple #[]) (w.setCells b o zFrm) := by
 obtain ⟨i0, hi0, hz0, _⟩ := info_parts info_frm; have hv : ∀ w, (zeroValue 85).run Tryz.prog w = .ok (.agg zFrm.toArray) w := fun w => by
  simp [zeroValue, typeInfo, hi0, hz0]
 have hst := run_storeCells_cells (P := Tryz.prog) b o zFrm 0 w (fun j (hj : j < 5) => by rw [Nat.add_zero]; exact hc j hj) (fun j (hj : j < 5) => by rw [Nat.add_zero]; exact hf j hj) (by intro v hv'; simp only [zFrm, List.mem_cons, List.not_mem_nil, or_false] at hv'; rcases hv' with rfl | rfl | rfl | rfl | rfl <;> rfl)
 simp only [Nat.add_zero] at hst; have hzc : (Builtin.zeroCells (Value.agg zFrm.toArray).cells 1).toList = zFrm := by kernel_rfl
 simp [Builtin.clear_, run_underlying under_frm, hv, hzc, hst]
set_option maxHeartbeats 4000000 in
set_option maxRecDepth 1000000 in
theorem del_walk (b cap n i j : Nat) (news : List Value) (w : World) (hj1 : j = i + 1) (hj : j <= n) (hn : n <= cap) (hl : news.length = (n - j) * 5) (h1 : ∀ u ∈ news, u.oneCell' = true)
  (hs : ∀ q u, news[q]? = some u -> w.cell? ⟨b, j * 5 + q, none⟩ = some u) (hc : ∀ q, q < n * 5 -> (w.cell? ⟨b, q, none⟩).isSome = true) (hf : ∀ q, q < n * 5 -> w.frozen? ⟨b, q, none⟩ = false) :
  Calls Tryz.prog 151 #[.slice (some ⟨b, 0, none⟩) n cap, .int .i64 i, .int .i64 j] w fun e w' => e = .returned (.slice (some ⟨b, 0, none⟩) (i + (n - j)) cap) /\ w' = (w.drew.setCells b (i * 5) news).setCells b ((i + (n - j)) * 5) zFrm := by
 have mixed : Tryz.prog.follows .mixedOrders = true := by kernel_rfl
 obtain ⟨i0, hi0, hz0, hz1, hz2⟩ := info_parts info_frm; obtain ⟨A, hA, hnews⟩ : ∃ A : Addr, (if cap = j then some (⟨b, 0, none⟩ : Addr) else some ⟨b, j * 5, none⟩) = some A /\ Hid (∀ q u, news[q]? = some u -> w.drew.cell? (A.add q) = some u) := by
  by_cases h : cap = j
  ·refine ⟨⟨b, 0, none⟩, by simp [h], fun q u hu => ?_⟩
   have h0 : news.length = 0 := by rw [hl]; omega
   rw [List.length_eq_zero_iff.1 h0] at hu; simp at hu
  ·exact ⟨⟨b, j * 5, none⟩, by simp [h], fun q u hu => by rw [Addr.add_lit]; exact hs q u hu⟩
 have s1 : Hid (news.length = (n - j) * 5) := hl; have s2 : Hid (∀ u ∈ news, u.oneCell' = true) := h1; have s3 : Hid (∀ q, q < news.length -> (w.drew.cell? ⟨b, 0 + i * 5 + q, none⟩).isSome = true /\ w.drew.frozen? ⟨b, 0 + i * 5 + q, none⟩ = false) := by
  intro q hq; rw [hl] at hq; exact ⟨hc _ (by omega), hf _ (by omega)⟩
 obtain ⟨W1, hW1⟩ : ∃ W1, W1 = w.drew.setCells b (0 + i * 5) news := ⟨_, rfl⟩; have hcl : ∀ ty, (Builtin.clear_ #[29] ty #[.slice (some ⟨b, (i + (n - j)) * 5, none⟩) (n - (i + (n - j))) (cap - (i + (n - j)))]).run Tryz.prog W1 = .ok (.tuple #[]) (W1.setCells b ((i + (n - j)) * 5) zFrm) := by
  intro ty; rw [show n - (i + (n - j)) = 1 by omega]
  refine run_clear_frm W1 ty b _ _ (fun q hq => ?_) (fun q hq => ?_)
  ·rw [hW1]; exact World.isSome_setCells b _ _ _ _ (hc _ (by omega))
  ·rw [hW1, World.frozen?_setCells]
   exact hf _ (by omega)
 have hW : Hid (W1 = w.drew.setCells b (0 + i * 5) news) := hW1; have X : Aside (W1 = w.drew.setCells b (i * 5) news) := by rw [hW1, Nat.zero_add]; exact rfl
 have hic : i <= cap := by omega
 have hjc : j <= cap := by omega
 have hlt : i < j := by omega
 have heq : ¬ i = j := by omega
 have hij : i <= j := by omega
 have hin : i <= n := by omega
 clear hW1 hc hf hs h1 hl hj1
 go_enter Tryz.func151, Tryz.ntmps151
 go_wp2_with fail
 go_region_law_o (refine step_append_room rfl (.tmp 22) (.tmp 25) 29 rfl 85 i0 5 under_frm hi0 hz1 b 0 i cap (by simp [Act.eval, Act.put]) A (n - j) (cap - j) news (by simp [Act.eval, Act.put]) s1.out hnews.out s2.out (by omega) s3.out ?_; rw [← hW.out])
 go_wp2
 go_ret
 exact ⟨rfl, by rw [X]⟩
theorem setCells_facts (w : World) (b o : Nat) (ty : TypeId) (cs : Array Value) (news : List Value) (hb : w.heap[b]? = some (.cells cs ty (0, 0))) (hfit : o + news.length <= cs.size) (h1 : ∀ v ∈ news, v.oneCell' = true) :
  (w.setCells b o news).os = w.os /\ (w.setCells b o news).tape = w.tape /\ (w.setCells b o news).output = w.output /\ (w.setCells b o news).heap.size = w.heap.size /\ (∀ k, k ≠ b -> (w.setCells b o news).heap[k]? = w.heap[k]?) /\
   ∃ cs', (w.setCells b o news).heap[b]? = some (.cells cs' ty (0, 0)) /\ cs'.size = cs.size /\ (∀ i, i < o ∨ o + news.length <= i -> cs'[i]? = cs[i]?) /\ ∀ i, i < news.length -> cs'[o + i]? = news[i]? := by
 obtain ⟨w', hst, h⟩ := setCells_same Tryz.prog w b o ty cs news hb hfit h1; have hr := run_storeCells_cells (P := Tryz.prog) b o news 0 w (fun j hj => by rw [cell_of_heap hb, Array.getElem?_eq_getElem (show o + 0 + j < cs.size by omega)]; rfl) (fun j hj => by simp [World.frozen?, hb]) h1
 rw [Nat.add_zero, hst] at hr; simp only [Result.ok.injEq, true_and] at hr; rw [← hr]; exact h
def shI (k r : Nat) : Nat := if r < k then r else r + 1
theorem erase_len {L : List Frm} {k : Nat} (hk : k < L.length) : (L.eraseIdx k).length = L.length - 1 := by rw [List.length_eraseIdx, if_pos hk]
theorem erase_at (L : List Frm) (k i : Nat) : (L.eraseIdx k).getD i default = L.getD (shI k i) default := by
 rw [List.getD_eq_getElem?_getD, List.getElem?_eraseIdx, List.getD_eq_getElem?_getD]
 unfold shI; split <;> rfl
def k_delFrm : Con := .reff ⟨List Frm × Nat × Nat, fun x => [.osl 0 0 x.1.length, .int .i64 x.2.1, .int .i64 (x.2.1 + 1 : Nat)], fun x => [famA x.2.2 x.1 x.1.length], fun x => .osl 0 0 (x.1.eraseIdx x.2.1).length, fun x => [famA (x.2.2 + 1) (x.1.eraseIdx x.2.1) (x.1.eraseIdx x.2.1).length], fun x => x.2.1 < x.1.length⟩
theorem getOb_one {o : Option Ob} {m : Nat} {x : Ob} (h : getOb [o] m = some x) : m = 0 /\ o = some x := by
 cases m with
 | zero => exact ⟨rfl, by simpa [getOb] using h⟩
 | succ m => simp [getOb] at h
theorem rd_osl_inv {E : Env} {w : World} {k off n : Nat} {v : Value} (h : Rd E w (.osl k off n) v) : ∃ a o, v = .slice a n (E.κ k - off) /\ E.L k /\ off + n <= E.κ k /\ (off < E.κ k ∨ off = 0 -> o = off * E.z k) /\ (E.κ k ≠ 0 -> a = some ⟨E.β k, o, none⟩) := by
 cases h with
 | osl k off n o a h1 h2 h3 h4 => exact ⟨a, o, rfl, h1, h2, h3, h4⟩
theorem delFrm_ok : ConOk Tryz.prog 151 k_delFrm := by
 rintro ⟨L, k, v⟩ (hk : k < L.length); intro E w vs hH hN hr; dsimp only at hH hr ⊢; have hob : getOb [famA v L L.length] 0 = some (.fam v 0 5 L.length (famRow L)) := rfl; obtain ⟨hL, hF, hNb⟩ := hH.live 0 _ hob; have hF : FamOk E w 0 v 0 5 L.length (famRow L) := hF; obtain ⟨e1, e2, e3, e4, _, cs, tyb, e6, e7, e8⟩ := hF.arr; dsimp only at e1 e2 e3 e4 e7 e8; have hκ : E.κ 0 ≠ 0 := by omega
 have e6 := e6 hκ; obtain ⟨hsz, hv⟩ := hr; obtain ⟨v0, v1, v2, rfl⟩ : ∃ v0 v1 v2, vs = #[v0, v1, v2] := by
  have h2 : vs.size = 3 := hsz.symm; exact ⟨vs[0], vs[1], vs[2], by apply Array.ext <;> simp [h2]; intro i hi _; match i, hi with | 0, _ => rfl | 1, _ => rfl | 2, _ => rfl⟩
 obtain rfl := rd_int_inv (hv 1 (.int .i64 k) v1 rfl rfl); obtain rfl := rd_int_inv (hv 2 (.int .i64 (k + 1 : Nat)) v2 rfl rfl); obtain ⟨a, o, rfl, _, _, ho, ha⟩ := rd_osl_inv (hv 0 (.osl 0 0 L.length) v0 rfl rfl); have ho : o = 0 := by have := ho (.inr rfl); omega
 subst ho; rw [ha hκ, Nat.sub_zero]; have hrow : ∀ i q, i < L.length -> q < 5 -> ∃ t u, (famRow L i)[q]? = some t /\ cs[i * 5 + q]? = some u /\ Rd E w (viewT 0 v i q t) u /\ u.oneCell' = true := fun i q hi hq => by
  have h5 : (famRow L i).length = 5 := rfl; obtain ⟨t, ht⟩ : ∃ t, (famRow L i)[q]? = some t := ⟨_, List.getElem?_eq_getElem (by omega)⟩
  have hv : (viewR 0 v (famRow L) i)[q]? = some (viewT 0 v i q t) := by rw [viewR_get, ht]; rfl
  obtain ⟨u, hu, hru⟩ := e8 i q _ hi hv; exact ⟨t, u, ht, hu, hru, oneT_ok hru (e4 i _ hi (List.mem_of_getElem? hv))⟩
 have hcell : ∀ j, j < L.length * 5 -> ∃ u, cs[j]? = some u /\ u.oneCell' = true := fun j hj => by
  obtain ⟨_, u, _, h2, _, h4⟩ := hrow (j / 5) (j % 5) (by omega) (by omega)
  exact ⟨u, by rw [show j = j / 5 * 5 + j % 5 by omega]; exact h2, h4⟩
 have hnl : ((cs.toList.drop ((k + 1) * 5)).take ((L.length - (k + 1)) * 5)).length = (L.length - (k + 1)) * 5 := by
  rw [List.length_take, List.length_drop, Array.length_toList (xs := cs), e7]; omega
 have hng : ∀ q, q < (L.length - (k + 1)) * 5 -> ((cs.toList.drop ((k + 1) * 5)).take ((L.length - (k + 1)) * 5))[q]? = cs[(k + 1) * 5 + q]? := fun q hq => by
  rw [List.getElem?_take, if_pos hq, List.getElem?_drop, Array.getElem?_toList]
 have hn1 : ∀ u ∈ (cs.toList.drop ((k + 1) * 5)).take ((L.length - (k + 1)) * 5), u.oneCell' = true := fun u hu => by
  obtain ⟨q, hq⟩ := List.getElem?_of_mem hu
  have hlt : q < (L.length - (k + 1)) * 5 := by rw [← hnl]; exact (List.getElem?_eq_some_iff.1 hq).1
  rw [hng q hlt] at hq; obtain ⟨u', h1, h2⟩ := hcell ((k + 1) * 5 + q) (by omega)
  rw [h1] at hq; simp only [Option.some.injEq] at hq; rw [← hq]; exact h2
 generalize hnews : (cs.toList.drop ((k + 1) * 5)).take ((L.length - (k + 1)) * 5) = news at hnl hng hn1; have hb : ∀ j, w.cell? ⟨E.β 0, j, none⟩ = cs[j]? := fun j => cell_of_heap e6
 have hs : ∀ q u, news[q]? = some u -> w.cell? ⟨E.β 0, (k + 1) * 5 + q, none⟩ = some u := fun q u hq => by
  have hlt : q < (L.length - (k + 1)) * 5 := by rw [← hnl]; exact (List.getElem?_eq_some_iff.1 hq).1
  rw [hb, ← hng q hlt]; exact hq
 have hc : ∀ q, q < L.length * 5 -> (w.cell? ⟨E.β 0, q, none⟩).isSome = true := fun q hq => by
  obtain ⟨u, h1, _⟩ := hcell q hq; rw [hb, h1]; rfl
 have hf : ∀ q, q < L.length * 5 -> w.frozen? ⟨E.β 0, q, none⟩ = false := fun q _ => by simp [World.frozen?, e6]
 refine (del_walk (E.β 0) (E.κ 0) L.length k (k + 1) news w rfl hk e2 hnl hn1 hs hc hf).mono ?_
 rintro e w' ⟨rfl, hw'⟩; have hd6 : w.drew.heap[E.β 0]? = some (.cells cs tyb (0, 0)) := e6; obtain ⟨a1, a2, a3, a4, a5, cs1, a6, a7, a8, a9⟩ := setCells_facts w.drew (E.β 0) (k * 5) tyb cs news hd6 (by rw [hnl, e7]; omega) hn1
 generalize w.drew.setCells (E.β 0) (k * 5) news = w1 at hw' a1 a2 a3 a4 a5 a6; obtain ⟨b1, b2, b3, b4, b5, cs2, b6, b7, b8, _⟩ := setCells_facts w1 (E.β 0) ((k + (L.length - (k + 1))) * 5) tyb cs1 zFrm a6 (by rw [a7, e7]; show _ + 5 <= _; omega) (by intro v hv'; simp only [zFrm, List.mem_cons, List.not_mem_nil, or_false] at hv'; rcases hv' with rfl | rfl | rfl | rfl | rfl <;> rfl)
 rw [← hw'] at b1 b2 b3 b4 b5 b6; have ho : w'.os = w.os := b1.trans a1; have ht : w'.tape = w.tape := b2.trans a2; have hp : w'.output = w.output := b3.trans a3; have hsz' : w'.heap.size = w.heap.size := b4.trans a4; have hoth : ∀ b, b ≠ E.β 0 -> w'.heap[b]? = w.heap[b]? := fun b hne => (b5 b hne).trans (a5 b hne)
 have hlen := erase_len hk; have hnew : ∀ r q, r < (L.eraseIdx k).length -> q < 5 -> cs2[r * 5 + q]? = cs[shI k r * 5 + q]? := fun r q hr hq => by
  rw [b8 _ (.inl (by omega))]
  unfold shI; by_cases h : r < k
  ·rw [if_pos h, a8 _ (.inl (by omega))]
  ·rw [if_neg h]; have := a9 ((r - k) * 5 + q) (by rw [hnl]; omega)
   rw [show k * 5 + ((r - k) * 5 + q) = r * 5 + q by omega] at this
   rw [this, hng _ (by omega)]
   congr 1
   omega
 have hsh : ∀ r, r < (L.eraseIdx k).length -> shI k r < L.length := fun r hr => by unfold shI; split <;> omega
 have hrw : ∀ r, famRow (L.eraseIdx k) r = famRow L (shI k r) := fun r => by unfold famRow; rw [erase_at]
 have hcur : ∀ u, E.L2 0 u -> u <= v := fun u hu => by
  obtain ⟨v0, _, _, _, _, he, hle⟩ := hH.cur 0 _ u hob hu; cases he; exact hle
 have hle : E.le (E.bump 0 (v + 1) (fun r q => E.b2 0 v (shI k r) q) (fun r q => E.c2 0 v (shI k r) q)) := Env.bump_le fun hu => by have := hcur _ hu; omega
 have hstep : Step E w (E.bump 0 (v + 1) (fun r q => E.b2 0 v (shI k r) q) (fun r q => E.c2 0 v (shI k r) q)) w' := ⟨hle, fun b hb => hoth b fun e => hNb b (.inl ⟨hκ, e⟩) hb, fun _ h => .inl h⟩
 have hap : ∀ b, ((∃ r q, b = E.b2 0 v r q /\ E.c2 0 v r q ≠ 0 /\ OwnB E 0 (.fam v 0 5 L.length (famRow L)) b) ∨ ∃ m o, m ≠ 0 /\ getOb [famA v L L.length] m = some o /\ Blk E m o b) -> b ≠ E.β 0 := by
  rintro b (⟨r, q, rfl, hcq, v0, ty0, sz0, n0, row0, i0, j0, oty, osz, on, orow, hobe, hi0, hj0, hc0, he0⟩ | ⟨m, o, hm, hmo, _⟩)
  ·simp only [Ob.fam.injEq] at hobe; obtain ⟨rfl, rfl, rfl, rfl, rfl⟩ := hobe; rw [he0]; exact (hF.own i0 j0 _ _ _ _ hi0 hj0).2 hc0 hκ
  ·exact absurd (getOb_one hmo).1 hm
 have hinj : ∀ i j, shI k i = shI k j -> i = j := fun i j h => by
  unfold shI at h; split at h <;> split at h <;> omega
 have hFam : FamOk (E.bump 0 (v + 1) (fun r q => E.b2 0 v (shI k r) q) (fun r q => E.c2 0 v (shI k r) q)) w' 0 (v + 1) 0 5 (L.eraseIdx k).length (famRow (L.eraseIdx k)) := by
  refine fam_move (E := E) (w := w) hH hstep hob (fun r q => .inl (shI k r, q)) (.inr ⟨rfl, rfl⟩) (fun r q => if_pos ⟨rfl, rfl⟩) (fun r q => if_pos ⟨rfl, rfl⟩) e1 (show (L.eraseIdx k).length <= E.κ 0 by omega) cs2 tyb (fun _ => b6) (show cs2.size = E.κ 0 * 5 by rw [b7, a7, e7]) (fun r _ => rfl) (fun r q t hr hq => ?_) (fun i1 j1 i2 j2 _ _ _ _ _ _ _ _ _ _ _ _ h => ?_) (fun b hb => hoth b (hap b hb)) (fun b hb _ => hap b hb)
  ·have hq5 : q < 5 := (List.getElem?_eq_some_iff.1 hq).1
   rw [hrw r] at hq; obtain ⟨t', u, h1, h2, h3, _⟩ := hrow (shI k r) q (hsh r hr) hq5; rw [hq] at h1; simp only [Option.some.injEq] at h1; subst h1; refine ⟨u, by rw [hnew r q hr hq5]; exact h2, ?_⟩
   rcases hF.cell (hsh r hr) hq with hcl | ⟨oty, osz, on, orow, rfl⟩
   ·rw [viewT_closed hcl] at h3; exact .inl ⟨hcl, h3⟩
   ·exact .inr ⟨_, _, _, _, rfl, hsh r hr, ⟨_, hq⟩, h3⟩
  ·simp only [Sum.inl.injEq, Prod.mk.injEq] at h; exact ⟨hinj _ _ h.1, h.2⟩
 have h0 : Inv ⟨w, XB E [famA v L L.length], E.N, 0, E, 0⟩ E [famA v L L.length] w := ⟨hH, hN, fun b hb => .inl hb, fun k ob b h1 h2 => .inr ⟨k, ob, h1, h2⟩, ⟨rfl, rfl, rfl, Nat.le_refl _, fun _ _ _ => rfl⟩, ⟨fun _ h => h, fun k hk => absurd hk (Nat.not_lt_zero _), fun _ _ => rfl, fun k v hk => absurd hk (Nat.not_lt_zero _)⟩⟩
 refine ⟨_, _, rfl, h0.to (H' := [famA (v + 1) (L.eraseIdx k) (L.eraseIdx k).length]) ho ht hp (by omega) hstep.stp 0 (fun m => m = 0) (fun _ h => h) (fun i o hi hne => absurd (getOb_one hi).1 hne) (fun o hi => ?_) (fun b hb hn => hoth b fun e => hn 0 _ rfl hob (.inl ⟨hκ, e⟩)) (fun i hi => hH.lt i hi) (fun i u hu => ?_) (fun o i u hi hu => ?_), hstep.stp, ?_⟩
 ·have := (getOb_one hi).2; simp only [famA, Option.some.injEq] at this; subst this; refine ⟨hL, hFam, fun b hb => .inr ⟨0, _, rfl, hob, ?_⟩⟩
  rcases hb with hb | ⟨v0, ty0, sz0, n0, row0, i0, j0, oty, osz, on, orow, hobe, hi0, hj0, hc0, rfl⟩
  ·exact .inl hb
  ·simp only [Ob.fam.injEq] at hobe; obtain ⟨rfl, rfl, rfl, rfl, rfl⟩ := hobe; rw [hrw] at hj0; have g1 : (E.bump 0 (v + 1) (fun r q => E.b2 0 v (shI k r) q) (fun r q => E.c2 0 v (shI k r) q)).b2 0 (v + 1) i0 j0 = E.b2 0 v (shI k i0) j0 := if_pos ⟨rfl, rfl⟩
   have g2 : (E.bump 0 (v + 1) (fun r q => E.b2 0 v (shI k r) q) (fun r q => E.c2 0 v (shI k r) q)).c2 0 (v + 1) i0 j0 = E.c2 0 v (shI k i0) j0 := if_pos ⟨rfl, rfl⟩
   rw [g1]; rw [g2] at hc0; exact .inr ⟨_, _, _, _, _, _, _, _, _, _, _, rfl, hsh _ hi0, hj0, hc0, rfl⟩
 ·rcases hu with hu | ⟨rfl, _⟩
  ·exact hH.l2 i u hu
  ·exact hL
 ·obtain ⟨rfl, ho'⟩ := getOb_one hi; simp only [famA, Option.some.injEq] at ho'; subst ho'; refine ⟨_, _, _, _, _, rfl, ?_⟩
  rcases hu with hu | ⟨_, rfl⟩
  ·have := hcur u hu; omega
  ·exact Nat.le_refl _
 ·have hn' : (L.eraseIdx k).length = k + (L.length - (k + 1)) := by omega
  rw [hn']; exact Rd.osl 0 0 _ 0 (some ⟨E.β 0, 0, none⟩) hL (show 0 + _ <= E.κ 0 by omega) (fun _ => by simp) (fun _ => rfl)
end Go.Proofs.YtndilbkocjlgpaaGreat

