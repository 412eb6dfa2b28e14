/- A calculus of symbolic states: code, loops, functions. -/
import Derived.Test.YtndilbkocjlgpaaGreatSSH
import Derived.Deep.LoopGhost
namespace Go.SS
open Go.RowKit

def Sub (m : Nat) (σ σ' : Sy) : Prop := ∀ c a w, c.m = m -> Real c σ.s σ.H a w -> Real c σ'.s σ'.H a w

section
variable {c : Ctx} {P : Program} {G : Gam}

theorem vc_ok (hm : P.follows .mixedOrders = true) (hG : GamOk P G) (hGc : ∀ x ∈ G, Callable P x.1) : ∀ (code : Code) (Q : Exit -> Sy -> Prop) (σ : Sy) (a : Act) (w : World), vc P G c.nt (Sub c.m) code Q σ -> Real c σ.s σ.H a w ->
  code.wp P (fun e a' w' => ∃ σ', Q e σ' /\ Real c σ'.s σ'.H a' w') a w := by
 intro code; induction code with
 | skip => intro Q σ a w h hr; exact wp_skip ⟨σ, h, hr⟩
 | region id ops draw =>
  intro Q σ a w h hr; simp only [vc] at h; split at h
  ·obtain ⟨E, hE⟩ := hr; exact wp_region_list (vcOps_ok hG hGc (fun s' H' a' w' hk hr' => ⟨⟨s', H'⟩, hk, hr'⟩) _ _ _ _ E a w h hE)
  ·obtain ⟨E, hE⟩ := hr; exact vcAny_ok hm hG hGc (fun s' H' a' w' hk hr' => ⟨⟨s', H'⟩, hk, hr'⟩) h hE
 | seq x y ihx ihy =>
  intro Q σ a w h hr; simp only [vc] at h; refine wp_seq (Code.wp_mono (fun e a' w' hh => ?_) (ihx _ _ _ _ h hr))
  obtain ⟨σ', hq, hr'⟩ := hh; cases e with
  | normal => exact ihy _ _ _ _ hq hr'
  | _ => exact ⟨σ', hq, hr'⟩
 | cond cd x y ihx ihy =>
  intro Q σ a w h hr; simp only [vc] at h; split at h
  ·rename_i b hb; obtain ⟨E, hE⟩ := hr; have hop : OpOk E w a σ.s cd := opOk_of fun t ht => hE.slots.on t (fun q hq => by cases hq)
   unfold OpOk at hop; rw [hb] at hop; refine wp_cond (t := b) (rd_bool hop) ?_
   cases b with
   | true => exact ihx _ _ _ _ (h.1 rfl) ⟨E, hE⟩
   | false => exact ihy _ _ _ _ (h.2 rfl) ⟨E, hE⟩
  ·exact h.elim
 | block id body ih =>
  intro Q σ a w h hr; simp only [vc] at h; refine wp_block (Code.wp_mono (fun e a' w' hh => ?_) (ih _ _ _ _ h hr))
  obtain ⟨σ', hq, hr'⟩ := hh; cases e with
  | exit i =>
   simp only at hq; simp only [Exit.inBlock]; split at hq
   ·rename_i hb; rw [if_pos (Nat.eq_of_beq_eq_true hb)]; exact ⟨σ', hq, hr'⟩
   ·rename_i hb; rw [if_neg (Nat.ne_of_beq_eq_false hb)]; exact ⟨σ', hq, hr'⟩
  | _ => exact ⟨σ', hq, hr'⟩
 | loop body ih =>
  intro Q σ a w h hr; simp only [vc, LoopVC] at h; obtain ⟨ι, I, μ, ⟨x0, h0⟩, hround⟩ := h; refine wp_loop_ghost (fun n a w => ∃ x, μ x = n /\ Real c (I x).s (I x).H a w) (μ x0) ⟨x0, rfl, h0 c a w rfl hr⟩ fun n a w hI => ?_
  obtain ⟨x, hx, hrx⟩ := hI; refine Code.wp_mono (fun e a' w' hh => ?_) (ih _ _ _ _ (hround x) hrx)
  obtain ⟨σ', hq, hr'⟩ := hh; cases e with
  | normal =>
   obtain ⟨y, hy, hlt⟩ := hq; exact ⟨μ y, by omega, y, rfl, hy c a' w' rfl hr'⟩
  | _ => exact ⟨σ', hq, hr'⟩
 | exit id => intro Q σ a w h hr; exact wp_exit ⟨σ, h, hr⟩
 | ret => intro Q σ a w h hr; exact wp_ret ⟨σ, h, hr⟩
 | _ => intro Q σ a w h hr; simp [vc] at h

end
end Go.SS
