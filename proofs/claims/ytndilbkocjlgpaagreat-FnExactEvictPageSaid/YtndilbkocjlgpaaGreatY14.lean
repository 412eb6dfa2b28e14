/- A part of the proof. -/
import Derived.Test.YtndilbkocjlgpaaGreatY6Y13
import Derived.Test.YtndilbkocjlgpaaGreatX4
import Derived.Test.YtndilbkocjlgpaaGreatX7
import Derived.Test.YtndilbkocjlgpaaGreatX8
namespace Go.Proofs.YtndilbkocjlgpaaGreat
set_option maxRecDepth 100000
open Go.SS

noncomputable def b_LawE : Code := Tryz.f7.body.getD .skip
theorem v_LawE (s : Sto) (no : Int) (h :
    ∃ (x : r_szSto.ι), (((EqS s x.fst) /\ (1048576 : Int) = x.snd /\ True) /\ Left x.snd /\ LmS x.fst) /\ (decide (rem x.snd (bulkS x.fst) < (0 : Int)) = true -> true = true) /\ (decide (rem x.snd (bulkS x.fst) < (0 : Int)) = false -> ∃ (x :
    Sto), (((EqS s x) /\ True) /\ SmS x) /\ ∃ (x_1 : r_EvictPage.ι), ((LeS x) /\ ((EqF x x_1.fst) /\ no = x_1.snd /\ True) /\ StoB x_1.fst /\ SmS x_1.fst) /\ ∃ (x : Sto), (((EqS s x) /\ True) /\ SmS x) /\ ∃ (x_2 : r_EvictPage.ι), ((LeS x) /\ ((EqF
    x x_2.fst) /\ no = x_2.snd /\ True) /\ StoB x_2.fst /\ SmS x_2.fst) /\ ∃ (x_3 : r_eqSto.ι), (((LeS (evPage x_2.fst x_2.snd).fst) /\ LeS (evPage x_1.fst x_1.snd).fst) /\ ((EqF (evPage x_2.fst x_2.snd).fst x_3) /\ (EqF (evPage x_1.fst
    x_1.snd).fst x_3) /\ True) /\ SmS x_3) /\ ((false || !(evPage x_2.fst x_2.snd).snd.fst == (evPage x_1.fst x_1.snd).snd.fst || (evPage x_2.fst x_2.snd).snd.snd != (evPage x_1.fst x_1.snd).snd.snd) = true -> false = true) /\ ((false ||
    !(evPage x_2.fst x_2.snd).snd.fst == (evPage x_1.fst x_1.snd).snd.fst || (evPage x_2.fst x_2.snd).snd.snd != (evPage x_1.fst x_1.snd).snd.snd) = false -> ∃ (x_4 : Sto), (((EqS s x_4) /\ True) /\ SmS x_4) /\ ∃ (x_5 : r_eqSto.ι), (((LeS
    x) /\ LeS x_4) /\ ((EqF x x_5) /\ (EqF x_4 x_5) /\ True) /\ SmS x_5) /\ (false = true -> false = true) /\ (false = false -> ∃ (x_6 : (Sto × Nat × Nat)), (((EqC x x_6.fst) /\ (1 : Int) = (x_6.snd.fst:Int) /\ True) /\ (EqH (x.fr.length)
    (x_6.snd.snd) x x_6.fst) /\ KBs x_6.fst x_6.snd.fst) /\ ∃ (x : r_eqSto.ι), (decide ((↑(endS x_6.fst x_6.snd.fst) : Int) < (0 : Int)) = false -> ((LeS (evPage x_2.fst x_2.snd).fst) /\ LeS (evPage x_1.fst x_1.snd).fst) /\ ((EqF (evPage
    x_2.fst x_2.snd).fst x) /\ (EqF (evPage x_1.fst x_1.snd).fst x) /\ True) /\ SmS x) /\ ((decide ((↑(endS x_6.fst x_6.snd.fst) : Int) < (0 : Int)) || false || !(evPage x_2.fst x_2.snd).snd.fst == (evPage x_1.fst x_1.snd).snd.fst ||
    (evPage x_2.fst x_2.snd).snd.snd != (evPage x_1.fst x_1.snd).snd.snd) = true -> false = true) /\ ((decide ((↑(endS x_6.fst x_6.snd.fst) : Int) < (0 : Int)) || false || !(evPage x_2.fst x_2.snd).snd.fst == (evPage x_1.fst
    x_1.snd).snd.fst || (evPage x_2.fst x_2.snd).snd.snd != (evPage x_1.fst x_1.snd).snd.snd) = false -> ∃ (x : (Sto × Nat × Nat)), (((EqC (evPage x_2.fst x_2.snd).fst x.fst) /\ (1 : Int) = (x.snd.fst:Int) /\ True) /\ (EqH (0) (x.snd.snd)
    (evPage x_2.fst x_2.snd).fst x.fst) /\ KBs x.fst x.snd.fst) /\ ∃ (x_7 : (Sto × Nat)), ((Le (0 + (evPage x_2.fst x_2.snd).fst.d.sec.length) (mkS x.fst.d.sec.length x.snd.fst).length /\ Le (0 + (evPage x_2.fst
    x_2.snd).fst.d.cache.length) (mkP x.fst.d.cache.length (x.snd.fst + x.fst.d.sec.length)).length /\ Le (0 + (evPage x_2.fst x_2.snd).fst.d.keep.length) (mkI x.fst.d.keep.length (x.snd.fst + x.fst.d.sec.length + 2 *
    x.fst.d.cache.length)).length /\ Le (0 + (evPage x_2.fst x_2.snd).fst.log.length) (mkR x.fst.log.length (endD x.fst.d x.snd.fst)).length /\ Le (0 + (evPage x_2.fst x_2.snd).fst.fr.length) (mkF x.fst.fr.length (lnOf x.fst.fr) (endD
    x.fst.d x.snd.fst + 10 * x.fst.log.length)).length) /\ ((((evPage x_2.fst x_2.snd).fst.d.sec.length = (mkS x_7.fst.d.sec.length x_7.snd).length /\ RowsEq (evPage x_2.fst x_2.snd).fst.d.sec.length (strRow (mkS x.fst.d.sec.length
    x.snd.fst)) (strRow (mkS x_7.fst.d.sec.length x_7.snd))) /\ ((evPage x_2.fst x_2.snd).fst.d.cache.length = (mkP x_7.fst.d.cache.length (x_7.snd + x_7.fst.d.sec.length)).length /\ RowsEq (evPage x_2.fst x_2.snd).fst.d.cache.length
    (pendRow (mkP x.fst.d.cache.length (x.snd.fst + x.fst.d.sec.length))) (pendRow (mkP x_7.fst.d.cache.length (x_7.snd + x_7.fst.d.sec.length)))) /\ (evPage x_2.fst x_2.snd).fst.d.armed = x_7.fst.d.armed /\ ((evPage x_2.fst
    x_2.snd).fst.d.keep.length = (mkI x_7.fst.d.keep.length (x_7.snd + x_7.fst.d.sec.length + 2 * x_7.fst.d.cache.length)).length /\ RowsEq (evPage x_2.fst x_2.snd).fst.d.keep.length (intRow (mkI x.fst.d.keep.length (x.snd.fst +
    x.fst.d.sec.length + 2 * x.fst.d.cache.length))) (intRow (mkI x_7.fst.d.keep.length (x_7.snd + x_7.fst.d.sec.length + 2 * x_7.fst.d.cache.length)))) /\ (evPage x_2.fst x_2.snd).fst.ep = x_7.fst.ep /\ ((evPage x_2.fst
    x_2.snd).fst.log.length = (mkR x_7.fst.log.length (endD x_7.fst.d x_7.snd)).length /\ RowsEq (evPage x_2.fst x_2.snd).fst.log.length (recRow (mkR x.fst.log.length (endD x.fst.d x.snd.fst))) (recRow (mkR x_7.fst.log.length (endD
    x_7.fst.d x_7.snd)))) /\ (evPage x_2.fst x_2.snd).fst.sure = x_7.fst.sure /\ ((evPage x_2.fst x_2.snd).fst.fr.length = (mkF x_7.fst.fr.length (lnOf x_7.fst.fr) (endD x_7.fst.d x_7.snd + 10 * x_7.fst.log.length)).length /\ RowsEq
    (evPage x_2.fst x_2.snd).fst.fr.length (frzR (famRow (mkF x.fst.fr.length (lnOf x.fst.fr) (endD x.fst.d x.snd.fst + 10 * x.fst.log.length)))) (frmRow (mkF x_7.fst.fr.length (lnOf x_7.fst.fr) (endD x_7.fst.d x_7.snd + 10 *
    x_7.fst.log.length)))) /\ (evPage x_2.fst x_2.snd).fst.hand = x_7.fst.hand /\ True) /\ (1 : Int) = (x_7.snd:Int) /\ True) /\ KBs x_7.fst x_7.snd) /\ (decide ((↑(endS x_7.fst x_7.snd) : Int) < (0 : Int)) = true -> false = true) /\ (decide
    ((↑(endS x_7.fst x_7.snd) : Int) < (0 : Int)) = false -> (((↑(endS x_7.fst x_7.snd) : Int) != (↑(endS x.fst x.snd.fst) : Int)) = true -> false = true) /\ (((↑(endS x_7.fst x_7.snd) : Int) != (↑(endS x.fst x.snd.fst) : Int)) = false ->
    ∃ (x_8 : Sto), (((EqS s x_8) /\ True) /\ SmS x_8) /\ ∃ (x_9 : r_EvictPage.ι), ((LeS x_8) /\ ((EqF x_8 x_9.fst) /\ no = x_9.snd /\ True) /\ StoB x_9.fst /\ SmS x_9.fst) /\ ∃ (x_10 : r_eqSto.ι), (((LeS (evPage x_9.fst x_9.snd).fst) /\ LeS
    (evPage x_1.fst x_1.snd).fst) /\ ((EqF (evPage x_9.fst x_9.snd).fst x_10) /\ (EqF (evPage x_1.fst x_1.snd).fst x_10) /\ True) /\ SmS x_10) /\ ((false || !(evPage x_9.fst x_9.snd).snd.fst == (evPage x_1.fst x_1.snd).snd.fst || (evPage
    x_9.fst x_9.snd).snd.snd != (evPage x_1.fst x_1.snd).snd.snd) = true -> false = true) /\ ((false || !(evPage x_9.fst x_9.snd).snd.fst == (evPage x_1.fst x_1.snd).snd.fst || (evPage x_9.fst x_9.snd).snd.snd != (evPage x_1.fst
    x_1.snd).snd.snd) = false -> ∃ (x_11 : (Sto × Nat)), ((Le (0 + (evPage x_2.fst x_2.snd).fst.d.sec.length) (mkS x.fst.d.sec.length x.snd.fst).length /\ Le (0 + (evPage x_2.fst x_2.snd).fst.d.cache.length) (mkP x.fst.d.cache.length
    (x.snd.fst + x.fst.d.sec.length)).length /\ Le (0 + (evPage x_2.fst x_2.snd).fst.d.keep.length) (mkI x.fst.d.keep.length (x.snd.fst + x.fst.d.sec.length + 2 * x.fst.d.cache.length)).length /\ Le (0 + (evPage x_2.fst
    x_2.snd).fst.log.length) (mkR x.fst.log.length (endD x.fst.d x.snd.fst)).length /\ Le (0 + (evPage x_2.fst x_2.snd).fst.fr.length) (mkF x.fst.fr.length (lnOf x.fst.fr) (endD x.fst.d x.snd.fst + 10 * x.fst.log.length)).length) /\
    ((((evPage x_2.fst x_2.snd).fst.d.sec.length = (mkS x_11.fst.d.sec.length x_11.snd).length /\ RowsEq (evPage x_2.fst x_2.snd).fst.d.sec.length (strRow (mkS x.fst.d.sec.length x.snd.fst)) (strRow (mkS x_11.fst.d.sec.length
    x_11.snd))) /\ ((evPage x_2.fst x_2.snd).fst.d.cache.length = (mkP x_11.fst.d.cache.length (x_11.snd + x_11.fst.d.sec.length)).length /\ RowsEq (evPage x_2.fst x_2.snd).fst.d.cache.length (pendRow (mkP x.fst.d.cache.length
    (x.snd.fst + x.fst.d.sec.length))) (pendRow (mkP x_11.fst.d.cache.length (x_11.snd + x_11.fst.d.sec.length)))) /\ (evPage x_2.fst x_2.snd).fst.d.armed = x_11.fst.d.armed /\ ((evPage x_2.fst x_2.snd).fst.d.keep.length = (mkI
    x_11.fst.d.keep.length (x_11.snd + x_11.fst.d.sec.length + 2 * x_11.fst.d.cache.length)).length /\ RowsEq (evPage x_2.fst x_2.snd).fst.d.keep.length (intRow (mkI x.fst.d.keep.length (x.snd.fst + x.fst.d.sec.length + 2 *
    x.fst.d.cache.length))) (intRow (mkI x_11.fst.d.keep.length (x_11.snd + x_11.fst.d.sec.length + 2 * x_11.fst.d.cache.length)))) /\ (evPage x_2.fst x_2.snd).fst.ep = x_11.fst.ep /\ ((evPage x_2.fst x_2.snd).fst.log.length = (mkR
    x_11.fst.log.length (endD x_11.fst.d x_11.snd)).length /\ RowsEq (evPage x_2.fst x_2.snd).fst.log.length (recRow (mkR x.fst.log.length (endD x.fst.d x.snd.fst))) (recRow (mkR x_11.fst.log.length (endD x_11.fst.d x_11.snd)))) /\
    (evPage x_2.fst x_2.snd).fst.sure = x_11.fst.sure /\ ((evPage x_2.fst x_2.snd).fst.fr.length = (mkF x_11.fst.fr.length (lnOf x_11.fst.fr) (endD x_11.fst.d x_11.snd + 10 * x_11.fst.log.length)).length /\ RowsEq (evPage x_2.fst
    x_2.snd).fst.fr.length (frzR (famRow (mkF x.fst.fr.length (lnOf x.fst.fr) (endD x.fst.d x.snd.fst + 10 * x.fst.log.length)))) (frmRow (mkF x_11.fst.fr.length (lnOf x_11.fst.fr) (endD x_11.fst.d x_11.snd + 10 *
    x_11.fst.log.length)))) /\ (evPage x_2.fst x_2.snd).fst.hand = x_11.fst.hand /\ True) /\ (1 : Int) = (x_11.snd:Int) /\ True) /\ KBs x_11.fst x_11.snd) /\ (decide ((↑(endS x_11.fst x_11.snd) : Int) < (0 : Int)) = true -> false = true) /\
    (decide ((↑(endS x_11.fst x_11.snd) : Int) < (0 : Int)) = false -> (((↑(endS x_11.fst x_11.snd) : Int) != (↑(endS x.fst x.snd.fst) : Int)) = true -> false = true) /\ (((↑(endS x_11.fst x_11.snd) : Int) != (↑(endS x.fst x.snd.fst) :
    Int)) = false -> true = true)))))))))) :
    PureFn Tryz.prog 7 [.agg s.ts, .int .i64 no] (.bool true) :=
  vcR (code := b_LawE) (gC szSto_ok call_szSto (gC moSto_ok call_moSto (gC EvictPages_ok call_EvictPages (gC EvictPagei_ok call_EvictPagei (gC eqSto_ok call_eqSto (gC markSto_ok call_markSto (gC heldSto_ok call_heldSto gN))))))) Tryz.func7 (by kernel_rfl) (by kernel_rfl) noAnn h (by kernel_rfl)
theorem leM {α : Type} (f : Nat -> α) (n : Nat) : Le (0 + n) ((List.range n).map f).length := by rw [mk_len]; exact le0 n
theorem smS_ev {s : Sto} {no : Int} (h : SmS s) : SmS (evPage s no).1 := by
  by_cases ho : stoOK s = true
  · by_cases hl : inR no 0 7 = true
    · by_cases hc : 0 <= frAt s.fr no
      · rw [ev_ok ho hl hc]; exact smS_evi (sto_inv ho h) (frAt_in hc)
      · rw [ev_none ho hl hc]; exact h
    · rw [ev_out (by rw [ho]; rfl) hl]
      exact smE
  · rw [ev_no (by simpa using ho)]
    exact smE
theorem lawE_pure (s : Sto) (no : Int) (h : LmS s) : PureFn Tryz.prog 7 [.agg s.ts, .int .i64 no] (.bool true) := by
  have l0 : Left 1048576 := ⟨by omega, by omega⟩
  refine v_LawE s no ⟨(s, 1048576), ⟨⟨eqS _, rfl, trivial⟩, l0, h⟩, fun _ => rfl, fun hq => ?_⟩
  have hb := rem_big (of_decide_eq_false hq); obtain ⟨hS, hB⟩ := small_sto (s := s) (by have hb : _ <= _ := hb; dsimp only at hb; omega)
  have hO : SmS (evPage s no).1 := smS_ev hS; have hk : KBs s 1 := ⟨hS, Nat.le_refl _, by omega⟩
  have hko : KBs (evPage s no).1 1 := ⟨hO, Nat.le_refl _, by omega⟩
  have hn : ∀ n : Nat, decide ((n : Int) < 0) = false := fun n => decide_eq_false (by omega)
  exact ⟨s, ⟨⟨eqS _, trivial⟩, hS⟩, (s, no), ⟨⟨le0 _, le0 _, le0 _, le0 _, le0 _⟩, ⟨⟨⟨rfl, rowsR _ _⟩, ⟨rfl, rowsR _ _⟩, rfl, ⟨rfl, rowsR _ _⟩, rfl, ⟨rfl, rowsR _ _⟩, rfl, ⟨rfl, fun _ _ => rfl⟩, rfl, trivial⟩, rfl, trivial⟩, hB, hS⟩, s, ⟨⟨eqS _, trivial⟩, hS⟩, (s, no), ⟨⟨le0 _, le0 _, le0 _, le0 _, le0 _⟩, ⟨⟨⟨rfl, rowsR _ _⟩, ⟨rfl, rowsR _ _⟩, rfl, ⟨rfl, rowsR _ _⟩, rfl, ⟨rfl, rowsR _ _⟩, rfl, ⟨rfl, fun _ _ => rfl⟩, rfl, trivial⟩, rfl, trivial⟩, hB, hS⟩,
    (evPage s no).1, ⟨⟨⟨le0 _, le0 _, le0 _, le0 _, le0 _⟩, ⟨le0 _, le0 _, le0 _, le0 _, le0 _⟩⟩, ⟨⟨⟨rfl, rowsR _ _⟩, ⟨rfl, rowsR _ _⟩, rfl, ⟨rfl, rowsR _ _⟩, rfl, ⟨rfl, rowsR _ _⟩, rfl, ⟨rfl, fun _ _ => rfl⟩, rfl, trivial⟩, ⟨⟨rfl, rowsR _ _⟩, ⟨rfl, rowsR _ _⟩, rfl, ⟨rfl, rowsR _ _⟩, rfl, ⟨rfl, rowsR _ _⟩, rfl, ⟨rfl, fun _ _ => rfl⟩, rfl, trivial⟩, trivial⟩, hO⟩, fun he => by simp at he, fun _ => ⟨s, ⟨⟨eqS _, trivial⟩, hS⟩, s, ⟨⟨⟨le0 _, le0 _, le0 _, le0 _, le0 _⟩, ⟨le0 _, le0 _, le0 _, le0 _, le0 _⟩⟩, ⟨⟨⟨rfl, rowsR _ _⟩, ⟨rfl, rowsR _ _⟩, rfl, ⟨rfl, rowsR _ _⟩, rfl, ⟨rfl, rowsR _ _⟩, rfl, ⟨rfl, fun _ _ => rfl⟩, rfl, trivial⟩, ⟨⟨rfl, rowsR _ _⟩, ⟨rfl, rowsR _ _⟩, rfl, ⟨rfl, rowsR _ _⟩, rfl, ⟨rfl, rowsR _ _⟩, rfl, ⟨rfl, fun _ _ => rfl⟩, rfl, trivial⟩, trivial⟩, hS⟩, fun he => he, fun _ =>
    ⟨(s, 1, s.fr.length), ⟨⟨⟨⟨rfl, rfl⟩, ⟨rfl, rfl⟩, rfl, ⟨rfl, rfl⟩, rfl, ⟨rfl, rfl⟩, rfl, ⟨rfl, rfl⟩, rfl, trivial⟩, rfl, trivial⟩, ⟨⟨rfl, rowsR _ _⟩, ⟨rfl, rowsR _ _⟩, ⟨rfl, rowsR _ _⟩, ⟨rfl, rowsR _ _⟩, ⟨rfl, rfl, famR _⟩, trivial⟩, hk⟩, (evPage s no).1, fun _ => ⟨⟨⟨le0 _, le0 _, le0 _, le0 _, le0 _⟩, ⟨le0 _, le0 _, le0 _, le0 _, le0 _⟩⟩, ⟨⟨⟨rfl, rowsR _ _⟩, ⟨rfl, rowsR _ _⟩, rfl, ⟨rfl, rowsR _ _⟩, rfl, ⟨rfl, rowsR _ _⟩, rfl, ⟨rfl, fun _ _ => rfl⟩, rfl, trivial⟩, ⟨⟨rfl, rowsR _ _⟩, ⟨rfl, rowsR _ _⟩, rfl, ⟨rfl, rowsR _ _⟩, rfl, ⟨rfl, rowsR _ _⟩, rfl, ⟨rfl, fun _ _ => rfl⟩, rfl, trivial⟩, trivial⟩, hO⟩, fun he => by rw [hn] at he; simp at he, fun _ =>
    ⟨((evPage s no).1, 1, 0), ⟨⟨⟨⟨rfl, rfl⟩, ⟨rfl, rfl⟩, rfl, ⟨rfl, rfl⟩, rfl, ⟨rfl, rfl⟩, rfl, ⟨rfl, rfl⟩, rfl, trivial⟩, rfl, trivial⟩, ⟨⟨rfl, rowsR _ _⟩, ⟨rfl, rowsR _ _⟩, ⟨rfl, rowsR _ _⟩, ⟨rfl, rowsR _ _⟩, ⟨rfl, rfl, famR _⟩, trivial⟩, hko⟩, ((evPage s no).1, 1), ⟨⟨leM _ _, leM _ _, leM _ _, leM _ _, leM _ _⟩, ⟨⟨⟨(mk_len _ _).symm, rowsR _ _⟩, ⟨(mk_len _ _).symm, rowsR _ _⟩, rfl, ⟨(mk_len _ _).symm, rowsR _ _⟩, rfl, ⟨(mk_len _ _).symm, rowsR _ _⟩, rfl, ⟨(mk_len _ _).symm, fun _ _ => rfl⟩, rfl, trivial⟩, rfl, trivial⟩, hko⟩, fun he => by rw [hn] at he; simp at he, fun _ => ⟨fun he => by simp at he, fun _ =>
    ⟨s, ⟨⟨eqS _, trivial⟩, hS⟩, (s, no), ⟨⟨le0 _, le0 _, le0 _, le0 _, le0 _⟩, ⟨⟨⟨rfl, rowsR _ _⟩, ⟨rfl, rowsR _ _⟩, rfl, ⟨rfl, rowsR _ _⟩, rfl, ⟨rfl, rowsR _ _⟩, rfl, ⟨rfl, fun _ _ => rfl⟩, rfl, trivial⟩, rfl, trivial⟩, hB, hS⟩, (evPage s no).1, ⟨⟨⟨le0 _, le0 _, le0 _, le0 _, le0 _⟩, ⟨le0 _, le0 _, le0 _, le0 _, le0 _⟩⟩, ⟨⟨⟨rfl, rowsR _ _⟩, ⟨rfl, rowsR _ _⟩, rfl, ⟨rfl, rowsR _ _⟩, rfl, ⟨rfl, rowsR _ _⟩, rfl, ⟨rfl, fun _ _ => rfl⟩, rfl, trivial⟩, ⟨⟨rfl, rowsR _ _⟩, ⟨rfl, rowsR _ _⟩, rfl, ⟨rfl, rowsR _ _⟩, rfl, ⟨rfl, rowsR _ _⟩, rfl, ⟨rfl, fun _ _ => rfl⟩, rfl, trivial⟩, trivial⟩, hO⟩, fun he => by simp at he, fun _ => ⟨((evPage s no).1, 1), ⟨⟨leM _ _, leM _ _, leM _ _, leM _ _, leM _ _⟩, ⟨⟨⟨(mk_len _ _).symm, rowsR _ _⟩, ⟨(mk_len _ _).symm, rowsR _ _⟩, rfl, ⟨(mk_len _ _).symm, rowsR _ _⟩, rfl, ⟨(mk_len _ _).symm, rowsR _ _⟩, rfl, ⟨(mk_len _ _).symm, fun _ _ => rfl⟩, rfl, trivial⟩, rfl, trivial⟩, hko⟩, fun he => by rw [hn] at he; simp at he, fun _ => ⟨fun he => by simp at he, fun _ => rfl⟩⟩⟩⟩⟩⟩⟩⟩
end Go.Proofs.YtndilbkocjlgpaaGreat

