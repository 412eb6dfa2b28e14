/- A part of the proof. -/
import Derived.Test.YtndilbkocjlgpaaGreatX1
namespace Go.Proofs.YtndilbkocjlgpaaGreat
set_option maxRecDepth 100000
open Go.SS

-- a store in a box; its arrays
def Sto.tn (s : Sto) (a b c d e : Nat) : List T := [.osl a 0 s.d.sec.length, .osl b 0 s.d.cache.length, .bool s.d.armed, .osl c 0 s.d.keep.length, .int .i64 s.ep, .osl d 0 s.log.length, .int .i64 s.sure, .osl e 0 s.fr.length, .int .i64 s.hand]
def Sto.bx (s : Sto) (v : Nat) : Heap := [stoBx (s.tn 1 2 3 4 5), strA s.d.sec, pendA s.d.cache, intA s.d.keep, recA s.log, famA v s.fr s.fr.length]
def Sto.bxL (s : Sto) (v : Nat) : Heap := [stoBx (s.tn 1 2 3 6 5), strA s.d.sec, pendA s.d.cache, intA s.d.keep, none, famA v s.fr s.fr.length, recA s.log]
-- a record is appended
def appR (s : Sto) (r : Rec) : Rec := ⟨s.ep, (s.log.length : Int) + 1, r.t, r.k, r.p, r.n, r.g, r.s, r.b, r.a⟩
noncomputable def appS (s : Sto) (r : Rec) : Sto := if recOK (appR s r) = true then { s with log := s.log ++ [appR s r] } else s
def SmR (r : Rec) : Prop := r.b.length ≤ 1048576 ∧ r.a.length ≤ 1048576
noncomputable def r_append : Rle := ⟨Sto × Rec × Nat, fun x => [.ref 0 0 0, .agg x.2.1.ts], fun x => x.1.bx x.2.2, fun x => .bool (recOK (appR x.1 x.2.1)), fun x => (appS x.1 x.2.1).bxL x.2.2, fun x => x.1.log.length ≤ 60 ∧ SmR x.2.1⟩
noncomputable def k_append : Con := .reff r_append
noncomputable def b_append : Code := Tryz.f65.body.getD .skip
theorem call_append : Callable Tryz.prog 65 := ⟨_, Tryz.func65, by kernel_rfl, by kernel_rfl⟩
theorem v_append (s : Sto) (r : Rec) (v : Nat) (h :
    Rng .i64 ((s.log.length:Int) + (1 : Int)) ∧ StrB r.a ∧ ((!recOK (Rec.mk s.ep ((s.log.length:Int) + (1 : Int)) r.t r.k r.p r.n r.g r.s r.b r.a)) = true → (false = recOK (appR s r) ∧ True) ∧ (1 = 1 ∧ 1 = 1 ∧ (0 = 0 ∧ s.d.sec.length
    = (appS s r).d.sec.length) ∧ (0 = 0 ∧ s.d.cache.length = (appS s r).d.cache.length) ∧ s.d.armed = (appS s r).d.armed ∧ (0 = 0 ∧ s.d.keep.length = (appS s r).d.keep.length) ∧ s.ep = (appS s r).ep ∧ (0 = 0 ∧ s.log.length = (appS s
    r).log.length) ∧ s.sure = (appS s r).sure ∧ (0 = 0 ∧ s.fr.length = (appS s r).fr.length) ∧ s.hand = (appS s r).hand ∧ True) ∧ (s.d.sec.length = (appS s r).d.sec.length ∧ RowsEq s.d.sec.length (strRow s.d.sec) (strRow (appS s
    r).d.sec)) ∧ (s.d.cache.length = (appS s r).d.cache.length ∧ RowsEq s.d.cache.length (pendRow s.d.cache) (pendRow (appS s r).d.cache)) ∧ (s.d.keep.length = (appS s r).d.keep.length ∧ RowsEq s.d.keep.length (intRow s.d.keep)
    (intRow (appS s r).d.keep)) ∧ True ∧ (v = v ∧ s.fr.length = (appS s r).fr.length ∧ FamEq s.fr.length (famRow s.fr) (famRow (appS s r).fr)) ∧ (s.log.length = (appS s r).log.length ∧ RowsEq s.log.length (recRow s.log) (recRow (appS
    s r).log)) ∧ True) ∧ ((!recOK (Rec.mk s.ep ((s.log.length:Int) + (1 : Int)) r.t r.k r.p r.n r.g r.s r.b r.a)) = false → (Le 1 1 ∧ Le s.log.length s.log.length ∧ AppB s.log.length 1 96) ∧ (true = recOK (appR s r) ∧ True) ∧ (1 = 1 ∧
    1 = 1 ∧ (0 = 0 ∧ s.d.sec.length = (appS s r).d.sec.length) ∧ (0 = 0 ∧ s.d.cache.length = (appS s r).d.cache.length) ∧ s.d.armed = (appS s r).d.armed ∧ (0 = 0 ∧ s.d.keep.length = (appS s r).d.keep.length) ∧ s.ep = (appS s r).ep ∧
    (0 = 0 ∧ s.log.length + 1 = (appS s r).log.length) ∧ s.sure = (appS s r).sure ∧ (0 = 0 ∧ s.fr.length = (appS s r).fr.length) ∧ s.hand = (appS s r).hand ∧ True) ∧ (s.d.sec.length = (appS s r).d.sec.length ∧ RowsEq s.d.sec.length
    (strRow s.d.sec) (strRow (appS s r).d.sec)) ∧ (s.d.cache.length = (appS s r).d.cache.length ∧ RowsEq s.d.cache.length (pendRow s.d.cache) (pendRow (appS s r).d.cache)) ∧ (s.d.keep.length = (appS s r).d.keep.length ∧ RowsEq
    s.d.keep.length (intRow s.d.keep) (intRow (appS s r).d.keep)) ∧ True ∧ (v = v ∧ s.fr.length = (appS s r).fr.length ∧ FamEq s.fr.length (famRow s.fr) (famRow (appS s r).fr)) ∧ (s.log.length + 1 = (appS s r).log.length ∧ RowsEq
    (s.log.length + 1) (appRow (recRow s.log) s.log.length fun (k : Nat) => List.take 10 (List.drop (k * 10) [T.int .i64 s.ep, T.int .i64 ((s.log.length:Int) + (1 : Int)), T.int .i64 r.t, T.int .i64 r.k, T.int .i64 r.p, T.int .i64
    r.n, T.int .i64 r.g, T.int .i64 r.s, T.str r.b, T.str r.a])) (recRow (appS s r).log)) ∧ True)) :
    EffFn Tryz.prog 65 [.ref 0 0 0, .agg r.ts] (s.bx v) (.bool (recOK (appR s r))) ((appS s r).bxL v) :=
  vcG (code := b_append) (gC RecordOKi_ok call_RecordOKi gN) Tryz.func65 (by kernel_rfl) (by kernel_rfl) noAnn [[.box 0, .arr 1, .arr 2, .arr 3, .arr 4, .arr 5, .arr 8], [.box 0, .arr 1, .arr 2, .arr 3, .arr 4, .arr 5, .arr 4]] h (by kernel_rfl)
theorem rec_app (L : List Rec) (r : Rec) : RowsEq (L.length + 1) (appRow (recRow L) L.length fun k => List.take 10 (List.drop (k * 10) r.ts)) (recRow (L ++ [r])) := by
  intro i hi
  unfold appRow recRow
  by_cases h : i < L.length
  · rw [blt_t h, List.getD_eq_getElem?_getD, List.getD_eq_getElem?_getD, List.getElem?_append_left h]
  · have : i = L.length := by omega
    subst this
    rw [blt_f h]
    have : (L ++ [r]).getD L.length default = r := by rw [List.getD_eq_getElem?_getD, List.getElem?_append_right (Nat.le_refl _)]; simp
    rw [this]
    simp [Rec.ts]
theorem append_ok : ConOk Tryz.prog 65 k_append := by
  rintro ⟨s, r, v⟩ ⟨h2, h3, h4⟩
  dsimp only at h2 h3 h4
  refine v_append s r v ⟨i64_rng (by omega), by unfold StrB; omega, fun h => ?_, fun h => ?_⟩
  · have hr : recOK (appR s r) = false := by simpa [appR] using h
    have e : appS s r = s := by unfold appS; rw [if_neg (by rw [hr]; simp)]
    rw [e, hr]
    exact ⟨⟨rfl, trivial⟩, ⟨rfl, rfl, ⟨rfl, rfl⟩, ⟨rfl, rfl⟩, rfl, ⟨rfl, rfl⟩, rfl, ⟨rfl, rfl⟩, rfl, ⟨rfl, rfl⟩, rfl, trivial⟩, ⟨rfl, rowsR _ _⟩, ⟨rfl, rowsR _ _⟩, ⟨rfl, rowsR _ _⟩, trivial, ⟨rfl, rfl, famR _⟩, ⟨rfl, rowsR _ _⟩, trivial⟩
  · have hr : recOK (appR s r) = true := by simpa [appR] using h
    have e : appS s r = { s with log := s.log ++ [appR s r] } := by unfold appS; rw [if_pos hr]
    rw [e, hr]
    have hl : s.log.length + 1 = (s.log ++ [appR s r]).length := by simp
    exact ⟨⟨Nat.le_refl _, Nat.le_refl _, by unfold AppB; omega⟩, ⟨rfl, trivial⟩, ⟨rfl, rfl, ⟨rfl, rfl⟩, ⟨rfl, rfl⟩, rfl, ⟨rfl, rfl⟩, rfl, ⟨rfl, hl⟩, rfl, ⟨rfl, rfl⟩, rfl, trivial⟩, ⟨rfl, rowsR _ _⟩, ⟨rfl, rowsR _ _⟩, ⟨rfl, rowsR _ _⟩, trivial, ⟨rfl, rfl, famR _⟩, ⟨hl, rec_app s.log (appR s r)⟩, trivial⟩
def stoE : Sto := ⟨⟨[], [], false, []⟩, 0, [], 0, [], 0⟩
noncomputable def appLog (s : Sto) (r : Rec) : Sto × Int := if stoOK s = true then (if s.log.length = 60 then (s, 7) else if recOK (appR s r) = true then (appS s r, 0) else (s, 3)) else (stoE, 1)
noncomputable def r_AppendLog : Rle := ⟨Sto × Rec, fun x => [.agg x.1.ts, .agg x.2.ts], fun _ => [], fun x => .tup [.agg ((appLog x.1 x.2).1.tm 0), .int .i64 (appLog x.1 x.2).2], fun x => (appLog x.1 x.2).1.hp 0, fun x => StoB x.1 ∧ SmS x.1 ∧ SmR x.2⟩
noncomputable def k_AppendLogi : Con := .rmk r_AppendLog
noncomputable def b_AppendLogi : Code := Tryz.f25.body.getD .skip
theorem call_AppendLogi : Callable Tryz.prog 25 := ⟨_, Tryz.func25, by kernel_rfl, by kernel_rfl⟩
theorem v_AppendLogi (s : Sto) (r : Rec) (h :
    ∃ (x : r_StoreOK.ι), (((EqS s x) ∧ True) ∧ StoB x) ∧ ((!stoOK x) = true → ((((0 = 0 ∧ 0 = (appLog s r).fst.d.sec.length) ∧ (0 = 0 ∧ 0 = (appLog s r).fst.d.cache.length) ∧ false = (appLog s r).fst.d.armed ∧ (0 = 0 ∧ 0 = (appLog s
    r).fst.d.keep.length) ∧ (0 : Int) = (appLog s r).fst.ep ∧ (0 = 0 ∧ 0 = (appLog s r).fst.log.length) ∧ (0 : Int) = (appLog s r).fst.sure ∧ (0 = 0 ∧ 0 = (appLog s r).fst.fr.length) ∧ (0 : Int) = (appLog s r).fst.hand ∧ True) ∧ (1 :
    Int) = (appLog s r).snd ∧ True) ∧ True) ∧ (0 = (appLog s r).fst.d.sec.length ∧ RowsEq 0 (fun (x : Nat) => []) (strRow (appLog s r).fst.d.sec)) ∧ (0 = (appLog s r).fst.d.cache.length ∧ RowsEq 0 (fun (x : Nat) => []) (pendRow
    (appLog s r).fst.d.cache)) ∧ (0 = (appLog s r).fst.d.keep.length ∧ RowsEq 0 (fun (x : Nat) => []) (intRow (appLog s r).fst.d.keep)) ∧ (0 = (appLog s r).fst.log.length ∧ RowsEq 0 (fun (x : Nat) => []) (recRow (appLog s r).fst.log))
    ∧ (0 = 0 ∧ 0 = (appLog s r).fst.fr.length ∧ FamEq 0 (fun (x : Nat) => []) (famRow (appLog s r).fst.fr)) ∧ True) ∧ ((!stoOK x) = false → ∃ (x : Sto), (((EqS s x) ∧ True) ∧ SmS x) ∧ (((s.log.length:Int) == (60 : Int)) = true → ((((0
    = 0 ∧ x.d.sec.length = (appLog s r).fst.d.sec.length) ∧ (0 = 0 ∧ x.d.cache.length = (appLog s r).fst.d.cache.length) ∧ x.d.armed = (appLog s r).fst.d.armed ∧ (0 = 0 ∧ x.d.keep.length = (appLog s r).fst.d.keep.length) ∧ x.ep =
    (appLog s r).fst.ep ∧ (0 = 0 ∧ x.log.length = (appLog s r).fst.log.length) ∧ x.sure = (appLog s r).fst.sure ∧ (0 = 0 ∧ x.fr.length = (appLog s r).fst.fr.length) ∧ x.hand = (appLog s r).fst.hand ∧ True) ∧ (7 : Int) = (appLog s
    r).snd ∧ True) ∧ True) ∧ (x.d.sec.length = (appLog s r).fst.d.sec.length ∧ RowsEq x.d.sec.length (strRow x.d.sec) (strRow (appLog s r).fst.d.sec)) ∧ (x.d.cache.length = (appLog s r).fst.d.cache.length ∧ RowsEq x.d.cache.length
    (pendRow x.d.cache) (pendRow (appLog s r).fst.d.cache)) ∧ (x.d.keep.length = (appLog s r).fst.d.keep.length ∧ RowsEq x.d.keep.length (intRow x.d.keep) (intRow (appLog s r).fst.d.keep)) ∧ (x.log.length = (appLog s r).fst.log.length
    ∧ RowsEq x.log.length (recRow x.log) (recRow (appLog s r).fst.log)) ∧ (0 = 0 ∧ x.fr.length = (appLog s r).fst.fr.length ∧ FamEq x.fr.length (famRow x.fr) (famRow (appLog s r).fst.fr)) ∧ True) ∧ (((s.log.length:Int) == (60 : Int))
    = false → ∃ (x_1 : r_append.ι), (((0 = 0 ∧ 0 = 0) ∧ (r.e = x_1.snd.fst.e ∧ r.l = x_1.snd.fst.l ∧ r.t = x_1.snd.fst.t ∧ r.k = x_1.snd.fst.k ∧ r.p = x_1.snd.fst.p ∧ r.n = x_1.snd.fst.n ∧ r.g = x_1.snd.fst.g ∧ r.s = x_1.snd.fst.s ∧
    r.b = x_1.snd.fst.b ∧ r.a = x_1.snd.fst.a ∧ True) ∧ True) ∧ ((1 = 1 ∧ 1 = 1 ∧ (0 = 0 ∧ x.d.sec.length = x_1.fst.d.sec.length) ∧ (0 = 0 ∧ x.d.cache.length = x_1.fst.d.cache.length) ∧ x.d.armed = x_1.fst.d.armed ∧ (0 = 0 ∧
    x.d.keep.length = x_1.fst.d.keep.length) ∧ x.ep = x_1.fst.ep ∧ (0 = 0 ∧ x.log.length = x_1.fst.log.length) ∧ x.sure = x_1.fst.sure ∧ (0 = 0 ∧ x.fr.length = x_1.fst.fr.length) ∧ x.hand = x_1.fst.hand ∧ True) ∧ (EqL strRow x.d.sec
    x_1.fst.d.sec) ∧ (EqL pendRow x.d.cache x_1.fst.d.cache) ∧ (EqL intRow x.d.keep x_1.fst.d.keep) ∧ (EqL recRow x.log x_1.fst.log) ∧ (0 = x_1.snd.snd ∧ x.fr.length = x_1.fst.fr.length ∧ FamEq x.fr.length (famRow x.fr) (famRow
    x_1.fst.fr)) ∧ True) ∧ x_1.fst.log.length ≤ 60 ∧ SmR x_1.snd.fst) ∧ ((!recOK (appR x_1.fst x_1.snd.fst)) = true → ((((0 = 0 ∧ (appS x_1.fst x_1.snd.fst).d.sec.length = (appLog s r).fst.d.sec.length) ∧ (0 = 0 ∧ (appS x_1.fst
    x_1.snd.fst).d.cache.length = (appLog s r).fst.d.cache.length) ∧ (appS x_1.fst x_1.snd.fst).d.armed = (appLog s r).fst.d.armed ∧ (0 = 0 ∧ (appS x_1.fst x_1.snd.fst).d.keep.length = (appLog s r).fst.d.keep.length) ∧ (appS x_1.fst
    x_1.snd.fst).ep = (appLog s r).fst.ep ∧ (0 = 0 ∧ (appS x_1.fst x_1.snd.fst).log.length = (appLog s r).fst.log.length) ∧ (appS x_1.fst x_1.snd.fst).sure = (appLog s r).fst.sure ∧ (0 = 0 ∧ (appS x_1.fst x_1.snd.fst).fr.length =
    (appLog s r).fst.fr.length) ∧ (appS x_1.fst x_1.snd.fst).hand = (appLog s r).fst.hand ∧ True) ∧ (3 : Int) = (appLog s r).snd ∧ True) ∧ True) ∧ ((appS x_1.fst x_1.snd.fst).d.sec.length = (appLog s r).fst.d.sec.length ∧ RowsEq (appS
    x_1.fst x_1.snd.fst).d.sec.length (strRow (appS x_1.fst x_1.snd.fst).d.sec) (strRow (appLog s r).fst.d.sec)) ∧ ((appS x_1.fst x_1.snd.fst).d.cache.length = (appLog s r).fst.d.cache.length ∧ RowsEq (appS x_1.fst
    x_1.snd.fst).d.cache.length (pendRow (appS x_1.fst x_1.snd.fst).d.cache) (pendRow (appLog s r).fst.d.cache)) ∧ ((appS x_1.fst x_1.snd.fst).d.keep.length = (appLog s r).fst.d.keep.length ∧ RowsEq (appS x_1.fst
    x_1.snd.fst).d.keep.length (intRow (appS x_1.fst x_1.snd.fst).d.keep) (intRow (appLog s r).fst.d.keep)) ∧ ((appS x_1.fst x_1.snd.fst).log.length = (appLog s r).fst.log.length ∧ RowsEq (appS x_1.fst x_1.snd.fst).log.length (recRow
    (appS x_1.fst x_1.snd.fst).log) (recRow (appLog s r).fst.log)) ∧ (x_1.snd.snd = 0 ∧ (appS x_1.fst x_1.snd.fst).fr.length = (appLog s r).fst.fr.length ∧ FamEq (appS x_1.fst x_1.snd.fst).fr.length (famRow (appS x_1.fst
    x_1.snd.fst).fr) (famRow (appLog s r).fst.fr)) ∧ True) ∧ ((!recOK (appR x_1.fst x_1.snd.fst)) = false → ∃ (x : Sto), ((Le (0 + (appS x_1.fst x_1.snd.fst).d.sec.length) (appS x_1.fst x_1.snd.fst).d.sec.length ∧ Le (0 + (appS
    x_1.fst x_1.snd.fst).d.cache.length) (appS x_1.fst x_1.snd.fst).d.cache.length ∧ Le (0 + (appS x_1.fst x_1.snd.fst).d.keep.length) (appS x_1.fst x_1.snd.fst).d.keep.length ∧ Le (0 + (appS x_1.fst x_1.snd.fst).log.length) (appS
    x_1.fst x_1.snd.fst).log.length ∧ Le (0 + (appS x_1.fst x_1.snd.fst).fr.length) (appS x_1.fst x_1.snd.fst).fr.length) ∧ ((((appS x_1.fst x_1.snd.fst).d.sec.length = x.d.sec.length ∧ RowsEq (appS x_1.fst x_1.snd.fst).d.sec.length
    (strRow (appS x_1.fst x_1.snd.fst).d.sec) (strRow x.d.sec)) ∧ ((appS x_1.fst x_1.snd.fst).d.cache.length = x.d.cache.length ∧ RowsEq (appS x_1.fst x_1.snd.fst).d.cache.length (pendRow (appS x_1.fst x_1.snd.fst).d.cache) (pendRow
    x.d.cache)) ∧ (appS x_1.fst x_1.snd.fst).d.armed = x.d.armed ∧ ((appS x_1.fst x_1.snd.fst).d.keep.length = x.d.keep.length ∧ RowsEq (appS x_1.fst x_1.snd.fst).d.keep.length (intRow (appS x_1.fst x_1.snd.fst).d.keep) (intRow
    x.d.keep)) ∧ (appS x_1.fst x_1.snd.fst).ep = x.ep ∧ ((appS x_1.fst x_1.snd.fst).log.length = x.log.length ∧ RowsEq (appS x_1.fst x_1.snd.fst).log.length (recRow (appS x_1.fst x_1.snd.fst).log) (recRow x.log)) ∧ (appS x_1.fst
    x_1.snd.fst).sure = x.sure ∧ ((appS x_1.fst x_1.snd.fst).fr.length = x.fr.length ∧ RowsEq (appS x_1.fst x_1.snd.fst).fr.length (frzR (famRow (appS x_1.fst x_1.snd.fst).fr)) (frmRow x.fr)) ∧ (appS x_1.fst x_1.snd.fst).hand = x.hand
    ∧ True) ∧ True) ∧ SmS x) ∧ ((((0 = 0 ∧ x.d.sec.length = (appLog s r).fst.d.sec.length) ∧ (0 = 0 ∧ x.d.cache.length = (appLog s r).fst.d.cache.length) ∧ x.d.armed = (appLog s r).fst.d.armed ∧ (0 = 0 ∧ x.d.keep.length = (appLog s
    r).fst.d.keep.length) ∧ x.ep = (appLog s r).fst.ep ∧ (0 = 0 ∧ x.log.length = (appLog s r).fst.log.length) ∧ x.sure = (appLog s r).fst.sure ∧ (0 = 0 ∧ x.fr.length = (appLog s r).fst.fr.length) ∧ x.hand = (appLog s r).fst.hand ∧
    True) ∧ (0 : Int) = (appLog s r).snd ∧ True) ∧ True) ∧ (x.d.sec.length = (appLog s r).fst.d.sec.length ∧ RowsEq x.d.sec.length (strRow x.d.sec) (strRow (appLog s r).fst.d.sec)) ∧ (x.d.cache.length = (appLog s r).fst.d.cache.length
    ∧ RowsEq x.d.cache.length (pendRow x.d.cache) (pendRow (appLog s r).fst.d.cache)) ∧ (x.d.keep.length = (appLog s r).fst.d.keep.length ∧ RowsEq x.d.keep.length (intRow x.d.keep) (intRow (appLog s r).fst.d.keep)) ∧ (x.log.length =
    (appLog s r).fst.log.length ∧ RowsEq x.log.length (recRow x.log) (recRow (appLog s r).fst.log)) ∧ (0 = 0 ∧ x.fr.length = (appLog s r).fst.fr.length ∧ FamEq x.fr.length (famRow x.fr) (famRow (appLog s r).fst.fr)) ∧ True)))) :
    EffFn Tryz.prog 25 [.agg s.ts, .agg r.ts] [] (.tup [.agg ((appLog s r).1.tm 0), .int .i64 (appLog s r).2]) ((appLog s r).1.hp 0) :=
  vcG (code := b_AppendLogi) (gC StoreOKi_ok call_StoreOKi (gC clSto_ok call_clSto (gC append_ok call_append gN))) Tryz.func25 (by kernel_rfl) (by kernel_rfl) noAnn [[.nilS 0 [0,0] 0 1, .nilS 0 [0,1] 0 2, .nilS 0 [0,3] 0 1, .nilS 0 [0,5] 0 10, .nilS 0 [0,7] 0 5, .fam 7, .arr 3, .arr 4, .arr 5, .arr 6, .arr 7], [.arr 10, .arr 11, .arr 12, .arr 13, .arr 14], [.arr 3, .arr 4, .arr 5, .arr 9, .arr 7], [.arr 3, .arr 4, .arr 5, .arr 6, .arr 7]] h (by kernel_rfl)
theorem le0 (n : Nat) : Le (0 + n) n := Nat.le_of_eq (Nat.zero_add n)
theorem row0 {row row' : Nat → List T} : RowsEq 0 row row' := fun i hi => absurd hi (Nat.not_lt_zero _)
theorem sto_60 {s : Sto} (h : stoOK s = true) : s.log.length ≤ 60 := by
  obtain ⟨⟨h1, _⟩, _⟩ := (sto_split s).1 h
  exact ((hdr_split s).1 h1).2.2.2.2
theorem AppendLogi_ok : ConOk Tryz.prog 25 k_AppendLogi := by
  rintro ⟨s, r⟩ ⟨h1, h2, h3⟩
  dsimp only at h1 h2 h3
  have a1 : stoOK s = false → appLog s r = (stoE, 1) := fun h => by unfold appLog; rw [if_neg (by rw [h]; simp)]
  refine ⟨v_AppendLogi s r ⟨s, ⟨⟨eqS _, trivial⟩, h1⟩, fun hq => ?_, fun hq => ⟨s, ⟨⟨eqS _, trivial⟩, h2⟩, fun h60 => ?_, fun h60 => ⟨(s, r, 0), ⟨⟨⟨rfl, rfl⟩, ⟨rfl, rfl, rfl, rfl, rfl, rfl, rfl, rfl, rfl, rfl, trivial⟩, trivial⟩, ⟨⟨rfl, rfl, ⟨rfl, rfl⟩, ⟨rfl, rfl⟩, rfl, ⟨rfl, rfl⟩, rfl, ⟨rfl, rfl⟩, rfl, ⟨rfl, rfl⟩, rfl, trivial⟩, ⟨rfl, rowsR _ _⟩, ⟨rfl, rowsR _ _⟩, ⟨rfl, rowsR _ _⟩, ⟨rfl, rowsR _ _⟩, ⟨rfl, rfl, famR _⟩, trivial⟩, ?_, h3⟩, fun hr => ?_, fun hr => ?_⟩⟩⟩, rfl, plain_sto _ 0⟩
  · rw [a1 (by simpa using hq)]
    exact ⟨⟨⟨⟨⟨rfl, rfl⟩, ⟨rfl, rfl⟩, rfl, ⟨rfl, rfl⟩, rfl, ⟨rfl, rfl⟩, rfl, ⟨rfl, rfl⟩, rfl, trivial⟩, rfl, trivial⟩, trivial⟩, ⟨rfl, row0⟩, ⟨rfl, row0⟩, ⟨rfl, row0⟩, ⟨rfl, row0⟩, ⟨rfl, rfl, fun i hi => absurd hi (Nat.not_lt_zero _)⟩, trivial⟩
  · have ho : stoOK s = true := by simpa using hq
    rw [show appLog s r = (s, 7) by unfold appLog; rw [if_pos ho, if_pos (by have := beq_iff_eq.1 h60; omega)]]
    exact ⟨⟨⟨⟨⟨rfl, rfl⟩, ⟨rfl, rfl⟩, rfl, ⟨rfl, rfl⟩, rfl, ⟨rfl, rfl⟩, rfl, ⟨rfl, rfl⟩, rfl, trivial⟩, rfl, trivial⟩, trivial⟩, ⟨rfl, rowsR _ _⟩, ⟨rfl, rowsR _ _⟩, ⟨rfl, rowsR _ _⟩, ⟨rfl, rowsR _ _⟩, ⟨rfl, rfl, famR _⟩, trivial⟩
  · exact sto_60 (by simpa using hq)
  · have ho : stoOK s = true := by simpa using hq
    have h6 : ¬ s.log.length = 60 := fun e => by rw [e] at h60; simp at h60
    dsimp only at hr ⊢
    have hr : recOK (appR s r) = false := by simpa using hr
    rw [show appLog s r = (s, 3) by unfold appLog; rw [if_pos ho, if_neg h6, if_neg (by rw [hr]; simp)], show appS s r = s by unfold appS; rw [if_neg (by rw [hr]; simp)]]
    exact ⟨⟨⟨⟨⟨rfl, rfl⟩, ⟨rfl, rfl⟩, rfl, ⟨rfl, rfl⟩, rfl, ⟨rfl, rfl⟩, rfl, ⟨rfl, rfl⟩, rfl, trivial⟩, rfl, trivial⟩, trivial⟩, ⟨rfl, rowsR _ _⟩, ⟨rfl, rowsR _ _⟩, ⟨rfl, rowsR _ _⟩, ⟨rfl, rowsR _ _⟩, ⟨rfl, rfl, famR _⟩, trivial⟩
  · have ho : stoOK s = true := by simpa using hq
    have h6 : ¬ s.log.length = 60 := fun e => by rw [e] at h60; simp at h60
    dsimp only at hr ⊢
    have hr : recOK (appR s r) = true := by simpa using hr
    have hl : (appS s r).log.length = s.log.length + 1 := by unfold appS; rw [if_pos hr]; simp
    have hS : SmS (appS s r) := by
      have := sto_60 ho
      obtain ⟨a1, a2, a3, a4⟩ := h2
      refine ⟨?_, by omega, ?_, ?_⟩ <;> (unfold appS; rw [if_pos hr]; assumption)
    rw [show appLog s r = (appS s r, 0) by unfold appLog; rw [if_pos ho, if_neg h6, if_pos hr]]
    exact ⟨appS s r, ⟨⟨le0 _, le0 _, le0 _, le0 _, le0 _⟩, ⟨⟨⟨rfl, rowsR _ _⟩, ⟨rfl, rowsR _ _⟩, rfl, ⟨rfl, rowsR _ _⟩, rfl, ⟨rfl, rowsR _ _⟩, rfl, ⟨rfl, fun _ _ => rfl⟩, rfl, trivial⟩, trivial⟩, hS⟩, ⟨⟨⟨⟨rfl, rfl⟩, ⟨rfl, rfl⟩, rfl, ⟨rfl, rfl⟩, rfl, ⟨rfl, rfl⟩, rfl, ⟨rfl, rfl⟩, rfl, trivial⟩, rfl, trivial⟩, trivial⟩, ⟨rfl, rowsR _ _⟩, ⟨rfl, rowsR _ _⟩, ⟨rfl, rowsR _ _⟩, ⟨rfl, rowsR _ _⟩, ⟨rfl, rfl, famR _⟩, trivial⟩
end Go.Proofs.YtndilbkocjlgpaaGreat

