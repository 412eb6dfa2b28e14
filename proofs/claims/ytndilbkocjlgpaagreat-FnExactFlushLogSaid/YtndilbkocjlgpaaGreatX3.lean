/- A part of the proof. -/
import Derived.Test.YtndilbkocjlgpaaGreatX2
namespace Go.Proofs.YtndilbkocjlgpaaGreat
set_option maxRecDepth 100000
open Go.SS

-- the reference's copies
def k_l02Own : Con := .rmk ⟨Dsk, fun d => [.agg d.ts], fun _ => [], fun d => .agg (d.tm 0), fun d => d.hp, SmD⟩
noncomputable def b_l02Own : Code := Tryz.f109.body.getD .skip
theorem call_l02Own : Callable Tryz.prog 109 := ⟨_, Tryz.func109, by kernel_rfl, by kernel_rfl⟩
theorem v_l02Own (d : Dsk) (h :
    (Le 0 0 ∧ AppB 0 d.sec.length 16) ∧ (Le 0 0 ∧ AppB 0 d.cache.length 24) ∧ (Le 0 0 ∧ AppB 0 d.keep.length 8) ∧ (((0 = 0 ∧ 0 + d.sec.length = d.sec.length) ∧ (0 = 0 ∧ 0 + d.cache.length = d.cache.length) ∧ d.armed = d.armed ∧ (0 = 0
    ∧ 0 + d.keep.length = d.keep.length) ∧ True) ∧ True) ∧ (0 + d.sec.length = d.sec.length ∧ RowsEq (0 + d.sec.length) (appRow (fun (k : Nat) => List.take 1 (List.drop (k * 1) [])) 0 (strRow d.sec)) (strRow d.sec)) ∧ (0 +
    d.cache.length = d.cache.length ∧ RowsEq (0 + d.cache.length) (appRow (fun (k : Nat) => List.take 2 (List.drop (k * 2) [])) 0 (pendRow d.cache)) (pendRow d.cache)) ∧ (0 + d.keep.length = d.keep.length ∧ RowsEq (0 + d.keep.length)
    (appRow (fun (k : Nat) => List.take 1 (List.drop (k * 1) [])) 0 (intRow d.keep)) (intRow d.keep)) ∧ True) :
    EffFn Tryz.prog 109 [.agg d.ts] [] (.agg (d.tm 0)) d.hp :=
  vcG (code := b_l02Own) gN Tryz.func109 (by kernel_rfl) (by kernel_rfl) noAnn [[.arr 3, .arr 5, .arr 7]] h (by kernel_rfl)
theorem l02Own_ok : ConOk Tryz.prog 109 k_l02Own := by
  rintro (d : Dsk) ⟨h1, h2, h3⟩
  exact ⟨v_l02Own d ⟨⟨Nat.le_refl _, by unfold AppB; omega⟩, ⟨Nat.le_refl _, by unfold AppB; omega⟩, ⟨Nat.le_refl _, by unfold AppB; omega⟩, ⟨⟨⟨rfl, by omega⟩, ⟨rfl, by omega⟩, rfl, ⟨rfl, by omega⟩, trivial⟩, trivial⟩, ⟨by omega, app_nil⟩, ⟨by omega, app_nil⟩, ⟨by omega, app_nil⟩, trivial⟩, rfl, plain_dsk d⟩
def k_l03Own : Con := .rmk ⟨Pg, fun p => [.agg p.ts], fun _ => [], fun p => .agg (p.tm 0), fun p => [strA p.sl], fun p => p.sl.length ≤ 1048576⟩
noncomputable def b_l03Own : Code := Tryz.f88.body.getD .skip
theorem call_l03Own : Callable Tryz.prog 88 := ⟨_, Tryz.func88, by kernel_rfl, by kernel_rfl⟩
theorem v_l03Own (p : Pg) (h :
    (Le 0 0 ∧ AppB 0 p.sl.length 16) ∧ ((p.lsn = p.lsn ∧ (0 = 0 ∧ 0 + p.sl.length = p.sl.length) ∧ True) ∧ True) ∧ (0 + p.sl.length = p.sl.length ∧ RowsEq (0 + p.sl.length) (appRow (fun (k : Nat) => List.take 1 (List.drop (k * 1) []))
    0 (strRow p.sl)) (strRow p.sl)) ∧ True) :
    EffFn Tryz.prog 88 [.agg p.ts] [] (.agg (p.tm 0)) [strA p.sl] :=
  vcG (code := b_l03Own) gN Tryz.func88 (by kernel_rfl) (by kernel_rfl) noAnn [[.arr 3]] h (by kernel_rfl)
theorem l03Own_ok : ConOk Tryz.prog 88 k_l03Own := by
  intro (p : Pg) (h1 : p.sl.length ≤ 1048576)
  exact ⟨v_l03Own p ⟨⟨Nat.le_refl _, by unfold AppB; omega⟩, ⟨⟨rfl, ⟨rfl, by omega⟩, trivial⟩, trivial⟩, ⟨by omega, app_nil⟩, trivial⟩, rfl, plain_str _⟩
def k_l05Own : Con := .rmk ⟨Sto, fun s => [.agg s.ts], fun _ => [], fun s => .agg (s.tm 0), fun s => s.hp 0, SmS⟩
def A_l05Own (s : Sto) : Nat → Ann
  | 0 => .one {i : Nat // i ≤ s.fr.length} (fun x => ⟨[(1, .ref 0 0 0), (2, .ref 1 0 0), (3, .osl 6 0 x.1), (4, .int .i64 x.1)], [stoBx [.osl 2 0 s.d.sec.length, .osl 3 0 s.d.cache.length, .bool s.d.armed, .osl 4 0 s.d.keep.length, .int .i64 s.ep, .osl 5 0 s.log.length, .int .i64 s.sure, frmS s.fr, .int .i64 s.hand], stoZb, strA s.d.sec, pendA s.d.cache, intA s.d.keep, recA s.log, famA 0 s.fr x.1]⟩) (fun x => s.fr.length - x.1) [.fam 7, .box 0, .box 1, .arr 2, .arr 3, .arr 4, .arr 6, .arr 7] [.box 0, .box 1, .arr 2, .arr 3, .arr 4, .arr 5, .at_ 3] (fun _ => noAnn)
  | _ => .none
noncomputable def b_l05Own : Code := Tryz.f52.body.getD .skip
theorem call_l05Own : Callable Tryz.prog 52 := ⟨_, Tryz.func52, by kernel_rfl, by kernel_rfl⟩
theorem v_l05Own (s : Sto) (h :
    ∃ (x : Dsk), (((EqD s.d x) ∧ True) ∧ SmD x) ∧ (Le 0 0 ∧ AppB 0 s.log.length 96) ∧ (∃ (x_1 : { i : Nat // i ≤ s.fr.length }), ((0 = 0 ∧ 0 = 0) ∧ (0 = 0 ∧ 0 = 0) ∧ (0 = 0 ∧ 0 = x_1.val) ∧ (0 : Int) = (x_1.val:Int) ∧ True) ∧ (1 = 1 ∧
    1 = 1 ∧ (0 = 0 ∧ x.sec.length = s.d.sec.length) ∧ (0 = 0 ∧ x.cache.length = s.d.cache.length) ∧ x.armed = s.d.armed ∧ (0 = 0 ∧ x.keep.length = s.d.keep.length) ∧ s.ep = s.ep ∧ (0 = 0 ∧ 0 + s.log.length = s.log.length) ∧ s.sure =
    s.sure ∧ (EqL frmRow s.fr s.fr) ∧ s.hand = s.hand ∧ True) ∧ (1 = 1 ∧ 1 = 1 ∧ Value.slice none 0 0 = Value.slice none 0 0 ∧ Value.slice none 0 0 = Value.slice none 0 0 ∧ false = false ∧ Value.slice none 0 0 = Value.slice none 0 0 ∧
    (0 : Int) = (0 : Int) ∧ Value.slice none 0 0 = Value.slice none 0 0 ∧ (0 : Int) = (0 : Int) ∧ Value.slice none 0 0 = Value.slice none 0 0 ∧ (0 : Int) = (0 : Int) ∧ True) ∧ (EqL strRow x.sec s.d.sec) ∧ (EqL pendRow x.cache
    s.d.cache) ∧ (EqL intRow x.keep s.d.keep) ∧ (0 + s.log.length = s.log.length ∧ RowsEq (0 + s.log.length) (appRow (fun (k : Nat) => List.take 10 (List.drop (k * 10) [])) 0 (recRow s.log)) (recRow s.log)) ∧ (0 = 0 ∧ 0 = x_1.val ∧
    FamEq 0 (fun (k : Nat) => List.take 5 (List.drop (k * 5) [])) (famRow s.fr)) ∧ True) ∧ ∀ (x : { i : Nat // i ≤ s.fr.length }), (decide ((x.val:Int) < (s.fr.length:Int)) = true → InB (x.val:Int) s.fr.length ∧ ∃ (x_1 : Pg),
    ((((s.fr.getD (x.val:Int).toNat default).pg.lsn = x_1.lsn ∧ ((s.fr.getD (x.val:Int).toNat default).pg.sl.length = x_1.sl.length ∧ RowsEq (s.fr.getD (x.val:Int).toNat default).pg.sl.length (strRow (s.fr.getD (x.val:Int).toNat
    default).pg.sl) (strRow x_1.sl)) ∧ True) ∧ True) ∧ x_1.sl.length ≤ 1048576) ∧ (Le x_1.sl.length x_1.sl.length ∧ Le x.val x.val ∧ AppB x.val 1 56) ∧ Rng .i64 ((x.val:Int) + (1 : Int)) ∧ ∃ (y : { i : Nat // i ≤ s.fr.length }), (((0
    = 0 ∧ 0 = 0) ∧ (0 = 0 ∧ 0 = 0) ∧ (0 = 0 ∧ x.val + 1 = y.val) ∧ (x.val:Int) + (1 : Int) = (y.val:Int) ∧ True) ∧ (1 = 1 ∧ 1 = 1 ∧ (0 = 0 ∧ s.d.sec.length = s.d.sec.length) ∧ (0 = 0 ∧ s.d.cache.length = s.d.cache.length) ∧ s.d.armed
    = s.d.armed ∧ (0 = 0 ∧ s.d.keep.length = s.d.keep.length) ∧ s.ep = s.ep ∧ (0 = 0 ∧ s.log.length = s.log.length) ∧ s.sure = s.sure ∧ (EqL frmRow s.fr s.fr) ∧ s.hand = s.hand ∧ True) ∧ (1 = 1 ∧ 1 = 1 ∧ Value.slice none 0 0 =
    Value.slice none 0 0 ∧ Value.slice none 0 0 = Value.slice none 0 0 ∧ false = false ∧ Value.slice none 0 0 = Value.slice none 0 0 ∧ (0 : Int) = (0 : Int) ∧ Value.slice none 0 0 = Value.slice none 0 0 ∧ (0 : Int) = (0 : Int) ∧
    Value.slice none 0 0 = Value.slice none 0 0 ∧ (0 : Int) = (0 : Int) ∧ True) ∧ (EqL strRow s.d.sec s.d.sec) ∧ (EqL pendRow s.d.cache s.d.cache) ∧ (EqL intRow s.d.keep s.d.keep) ∧ (EqL recRow s.log s.log) ∧ (0 = 0 ∧ x.val + 1 =
    y.val ∧ FamEq (x.val + 1) (appRow (famRow s.fr) x.val fun (x_2 : Nat) => [T.int .i64 (s.fr.getD (x.val:Int).toNat default).no, T.int .i64 x_1.lsn, T.own 0 1 x_1.sl.length (strRow x_1.sl), T.bool (s.fr.getD (x.val:Int).toNat
    default).dirty, T.int .i64 (s.fr.getD (x.val:Int).toNat default).first]) (famRow s.fr)) ∧ True) ∧ Lt (s.fr.length - y.val) (s.fr.length - x.val)) ∧ (decide ((x.val:Int) < (s.fr.length:Int)) = false → (((0 = 0 ∧ s.d.sec.length =
    s.d.sec.length) ∧ (0 = 0 ∧ s.d.cache.length = s.d.cache.length) ∧ s.d.armed = s.d.armed ∧ (0 = 0 ∧ s.d.keep.length = s.d.keep.length) ∧ s.ep = s.ep ∧ (0 = 0 ∧ s.log.length = s.log.length) ∧ s.sure = s.sure ∧ (0 = 0 ∧ x.val =
    s.fr.length) ∧ s.hand = s.hand ∧ True) ∧ True) ∧ (EqL strRow s.d.sec s.d.sec) ∧ (EqL pendRow s.d.cache s.d.cache) ∧ (EqL intRow s.d.keep s.d.keep) ∧ (EqL recRow s.log s.log) ∧ (0 = 0 ∧ x.val = s.fr.length ∧ FamEq x.val (famRow
    s.fr) (famRow s.fr)) ∧ True)) :
    EffFn Tryz.prog 52 [.agg s.ts] [] (.agg (s.tm 0)) (s.hp 0) :=
  vcG (code := b_l05Own) (gC l02Own_ok call_l02Own (gC l03Own_ok call_l03Own gN)) Tryz.func52 (by kernel_rfl) (by kernel_rfl) (A_l05Own s) [[.arr 2, .arr 3, .arr 4, .arr 5, .arr 6]] h (by kernel_rfl)
theorem l05Own_ok : ConOk Tryz.prog 52 k_l05Own := by
  rintro (s : Sto) ⟨h1, h2, h3, h4⟩
  refine ⟨v_l05Own s ⟨s.d, ⟨⟨eqD _, trivial⟩, h1⟩, ⟨Nat.le_refl _, by unfold AppB; omega⟩, ⟨⟨0, Nat.zero_le _⟩, ⟨⟨rfl, rfl⟩, ⟨rfl, rfl⟩, ⟨rfl, rfl⟩, rfl, trivial⟩, ⟨rfl, rfl, ⟨rfl, rfl⟩, ⟨rfl, rfl⟩, rfl, ⟨rfl, rfl⟩, rfl, ⟨rfl, by omega⟩, rfl, ⟨rfl, rowsR _ _⟩, rfl, trivial⟩, ⟨rfl, rfl, rfl, rfl, rfl, rfl, rfl, rfl, rfl, rfl, rfl, trivial⟩, ⟨rfl, rowsR _ _⟩, ⟨rfl, rowsR _ _⟩, ⟨rfl, rowsR _ _⟩, ⟨by omega, app_nil⟩, ⟨rfl, rfl, fun i hi => absurd hi (Nat.not_lt_zero _)⟩, trivial⟩, fun x => ⟨fun hc => ?_, fun hc => ?_⟩⟩, rfl, plain_sto s 0⟩
  · have hlt := lt_of_dec hc
    rw [Int.toNat_natCast]
    exact ⟨inB_nat hlt, (s.fr.getD x.val default).pg, ⟨⟨⟨rfl, ⟨rfl, rowsR _ _⟩, trivial⟩, trivial⟩, h4 _ hlt⟩, ⟨Nat.le_refl _, Nat.le_refl _, by unfold AppB; omega⟩, i64_rng (by omega), ⟨x.val + 1, hlt⟩, ⟨⟨⟨rfl, rfl⟩, ⟨rfl, rfl⟩, ⟨rfl, rfl⟩, by dsimp only; omega, trivial⟩, ⟨rfl, rfl, ⟨rfl, rfl⟩, ⟨rfl, rfl⟩, rfl, ⟨rfl, rfl⟩, rfl, ⟨rfl, rfl⟩, rfl, ⟨rfl, rowsR _ _⟩, rfl, trivial⟩, ⟨rfl, rfl, rfl, rfl, rfl, rfl, rfl, rfl, rfl, rfl, rfl, trivial⟩, ⟨rfl, rowsR _ _⟩, ⟨rfl, rowsR _ _⟩, ⟨rfl, rowsR _ _⟩, ⟨rfl, rowsR _ _⟩, ⟨rfl, rfl, fam_app⟩, trivial⟩, Cnt.ext_lt hlt⟩
  · have hx : x.val = s.fr.length := by have := x.2; have := le_of_not hc; omega
    rw [hx]
    exact ⟨⟨⟨⟨rfl, rfl⟩, ⟨rfl, rfl⟩, rfl, ⟨rfl, rfl⟩, rfl, ⟨rfl, rfl⟩, rfl, ⟨rfl, rfl⟩, rfl, trivial⟩, trivial⟩, ⟨rfl, rowsR _ _⟩, ⟨rfl, rowsR _ _⟩, ⟨rfl, rowsR _ _⟩, ⟨rfl, rowsR _ _⟩, ⟨rfl, rfl, famR _⟩, trivial⟩
noncomputable def k_AppendLogs : Con := .rmk r_AppendLog
noncomputable def b_AppendLogs : Code := Tryz.f22.body.getD .skip
theorem call_AppendLogs : Callable Tryz.prog 22 := ⟨_, Tryz.func22, by kernel_rfl, by kernel_rfl⟩
theorem v_AppendLogs (s : Sto) (r : Rec) (h :
    ∃ (x : r_StoreOK.ι), (((EqS s x) ∧ True) ∧ StoB x) ∧ ((!stoOK x) = true → ((((0 = 0 ∧ 0 = (appLog s r).fst.d.sec.length) ∧ (0 = 0 ∧ 0 = (appLog s r).fst.d.cache.length) ∧ false = (appLog s r).fst.d.armed ∧ (0 = 0 ∧ 0 = (appLog s
    r).fst.d.keep.length) ∧ (0 : Int) = (appLog s r).fst.ep ∧ (0 = 0 ∧ 0 = (appLog s r).fst.log.length) ∧ (0 : Int) = (appLog s r).fst.sure ∧ (0 = 0 ∧ 0 = (appLog s r).fst.fr.length) ∧ (0 : Int) = (appLog s r).fst.hand ∧ True) ∧ (1 :
    Int) = (appLog s r).snd ∧ True) ∧ True) ∧ (0 = (appLog s r).fst.d.sec.length ∧ RowsEq 0 (fun (x : Nat) => []) (strRow (appLog s r).fst.d.sec)) ∧ (0 = (appLog s r).fst.d.cache.length ∧ RowsEq 0 (fun (x : Nat) => []) (pendRow
    (appLog s r).fst.d.cache)) ∧ (0 = (appLog s r).fst.d.keep.length ∧ RowsEq 0 (fun (x : Nat) => []) (intRow (appLog s r).fst.d.keep)) ∧ (0 = (appLog s r).fst.log.length ∧ RowsEq 0 (fun (x : Nat) => []) (recRow (appLog s r).fst.log))
    ∧ (0 = 0 ∧ 0 = (appLog s r).fst.fr.length ∧ FamEq 0 (fun (x : Nat) => []) (famRow (appLog s r).fst.fr)) ∧ True) ∧ ((!stoOK x) = false → (((s.log.length:Int) == (60 : Int)) = true → ∃ (x : Sto), (((EqS s x) ∧ True) ∧ SmS x) ∧ ((((0
    = 0 ∧ x.d.sec.length = (appLog s r).fst.d.sec.length) ∧ (0 = 0 ∧ x.d.cache.length = (appLog s r).fst.d.cache.length) ∧ x.d.armed = (appLog s r).fst.d.armed ∧ (0 = 0 ∧ x.d.keep.length = (appLog s r).fst.d.keep.length) ∧ x.ep =
    (appLog s r).fst.ep ∧ (0 = 0 ∧ x.log.length = (appLog s r).fst.log.length) ∧ x.sure = (appLog s r).fst.sure ∧ (0 = 0 ∧ x.fr.length = (appLog s r).fst.fr.length) ∧ x.hand = (appLog s r).fst.hand ∧ True) ∧ (7 : Int) = (appLog s
    r).snd ∧ True) ∧ True) ∧ (x.d.sec.length = (appLog s r).fst.d.sec.length ∧ RowsEq x.d.sec.length (strRow x.d.sec) (strRow (appLog s r).fst.d.sec)) ∧ (x.d.cache.length = (appLog s r).fst.d.cache.length ∧ RowsEq x.d.cache.length
    (pendRow x.d.cache) (pendRow (appLog s r).fst.d.cache)) ∧ (x.d.keep.length = (appLog s r).fst.d.keep.length ∧ RowsEq x.d.keep.length (intRow x.d.keep) (intRow (appLog s r).fst.d.keep)) ∧ (x.log.length = (appLog s r).fst.log.length
    ∧ RowsEq x.log.length (recRow x.log) (recRow (appLog s r).fst.log)) ∧ (0 = 0 ∧ x.fr.length = (appLog s r).fst.fr.length ∧ FamEq x.fr.length (famRow x.fr) (famRow (appLog s r).fst.fr)) ∧ True) ∧ (((s.log.length:Int) == (60 : Int))
    = false → Rng .i64 ((s.log.length:Int) + (1 : Int)) ∧ Len r.a.length ∧ ((!recOK (Rec.mk s.ep ((s.log.length:Int) + (1 : Int)) r.t r.k r.p r.n r.g r.s r.b r.a)) = true → ∃ (x : Sto), (((EqS s x) ∧ True) ∧ SmS x) ∧ ((((0 = 0 ∧
    x.d.sec.length = (appLog s r).fst.d.sec.length) ∧ (0 = 0 ∧ x.d.cache.length = (appLog s r).fst.d.cache.length) ∧ x.d.armed = (appLog s r).fst.d.armed ∧ (0 = 0 ∧ x.d.keep.length = (appLog s r).fst.d.keep.length) ∧ x.ep = (appLog s
    r).fst.ep ∧ (0 = 0 ∧ x.log.length = (appLog s r).fst.log.length) ∧ x.sure = (appLog s r).fst.sure ∧ (0 = 0 ∧ x.fr.length = (appLog s r).fst.fr.length) ∧ x.hand = (appLog s r).fst.hand ∧ True) ∧ (3 : Int) = (appLog s r).snd ∧ True)
    ∧ True) ∧ (x.d.sec.length = (appLog s r).fst.d.sec.length ∧ RowsEq x.d.sec.length (strRow x.d.sec) (strRow (appLog s r).fst.d.sec)) ∧ (x.d.cache.length = (appLog s r).fst.d.cache.length ∧ RowsEq x.d.cache.length (pendRow
    x.d.cache) (pendRow (appLog s r).fst.d.cache)) ∧ (x.d.keep.length = (appLog s r).fst.d.keep.length ∧ RowsEq x.d.keep.length (intRow x.d.keep) (intRow (appLog s r).fst.d.keep)) ∧ (x.log.length = (appLog s r).fst.log.length ∧ RowsEq
    x.log.length (recRow x.log) (recRow (appLog s r).fst.log)) ∧ (0 = 0 ∧ x.fr.length = (appLog s r).fst.fr.length ∧ FamEq x.fr.length (famRow x.fr) (famRow (appLog s r).fst.fr)) ∧ True) ∧ ((!recOK (Rec.mk s.ep ((s.log.length:Int) +
    (1 : Int)) r.t r.k r.p r.n r.g r.s r.b r.a)) = false → ∃ (x : Sto), (((EqS s x) ∧ True) ∧ SmS x) ∧ (Le 1 1 ∧ Le x.log.length x.log.length ∧ AppB x.log.length 1 96) ∧ ((((0 = 0 ∧ x.d.sec.length = (appLog s r).fst.d.sec.length) ∧ (0
    = 0 ∧ x.d.cache.length = (appLog s r).fst.d.cache.length) ∧ x.d.armed = (appLog s r).fst.d.armed ∧ (0 = 0 ∧ x.d.keep.length = (appLog s r).fst.d.keep.length) ∧ x.ep = (appLog s r).fst.ep ∧ (0 = 0 ∧ x.log.length + 1 = (appLog s
    r).fst.log.length) ∧ x.sure = (appLog s r).fst.sure ∧ (0 = 0 ∧ x.fr.length = (appLog s r).fst.fr.length) ∧ x.hand = (appLog s r).fst.hand ∧ True) ∧ (0 : Int) = (appLog s r).snd ∧ True) ∧ True) ∧ (x.d.sec.length = (appLog s
    r).fst.d.sec.length ∧ RowsEq x.d.sec.length (strRow x.d.sec) (strRow (appLog s r).fst.d.sec)) ∧ (x.d.cache.length = (appLog s r).fst.d.cache.length ∧ RowsEq x.d.cache.length (pendRow x.d.cache) (pendRow (appLog s r).fst.d.cache))
    ∧ (x.d.keep.length = (appLog s r).fst.d.keep.length ∧ RowsEq x.d.keep.length (intRow x.d.keep) (intRow (appLog s r).fst.d.keep)) ∧ (x.log.length + 1 = (appLog s r).fst.log.length ∧ RowsEq (x.log.length + 1) (appRow (recRow x.log)
    x.log.length fun (k : Nat) => List.take 10 (List.drop (k * 10) [T.int .i64 s.ep, T.int .i64 ((s.log.length:Int) + (1 : Int)), T.int .i64 r.t, T.int .i64 r.k, T.int .i64 r.p, T.int .i64 r.n, T.int .i64 r.g, T.int .i64 r.s, T.str
    r.b, T.str r.a])) (recRow (appLog s r).fst.log)) ∧ (0 = 0 ∧ x.fr.length = (appLog s r).fst.fr.length ∧ FamEq x.fr.length (famRow x.fr) (famRow (appLog s r).fst.fr)) ∧ True)))) :
    EffFn Tryz.prog 22 [.agg s.ts, .agg r.ts] [] (.tup [.agg ((appLog s r).1.tm 0), .int .i64 (appLog s r).2]) ((appLog s r).1.hp 0) :=
  vcG (code := b_AppendLogs) (gC StoreOKs_ok call_StoreOKs (gC l05Own_ok call_l05Own (gC RecordOKs_ok call_RecordOKs gN))) Tryz.func22 (by kernel_rfl) (by kernel_rfl) noAnn [[.nilS 0 [0,0] 0 1, .nilS 0 [0,1] 0 2, .nilS 0 [0,3] 0 1, .nilS 0 [0,5] 0 10, .nilS 0 [0,7] 0 5, .fam 7, .arr 3, .arr 4, .arr 5, .arr 6, .arr 7], [.arr 3, .arr 4, .arr 5, .arr 10, .arr 7], [.arr 3, .arr 4, .arr 5, .arr 6, .arr 7]] h (by kernel_rfl)
theorem AppendLogs_ok : ConOk Tryz.prog 22 k_AppendLogs := by
  rintro ⟨s, r⟩ ⟨h1, h2, h3⟩
  dsimp only at h1 h2 h3
  have a1 : stoOK s = false → appLog s r = (stoE, 1) := fun h => by unfold appLog; rw [if_neg (by rw [h]; simp)]
  refine ⟨v_AppendLogs s r ⟨s, ⟨⟨eqS _, trivial⟩, h1⟩, fun hq => ?_, fun hq => ⟨fun h60 => ?_, fun h60 => ⟨?_, ?_, fun hr => ?_, fun hr => ?_⟩⟩⟩, rfl, plain_sto _ 0⟩
  · rw [a1 (by simpa using hq)]
    exact ⟨⟨⟨⟨⟨rfl, rfl⟩, ⟨rfl, rfl⟩, rfl, ⟨rfl, rfl⟩, rfl, ⟨rfl, rfl⟩, rfl, ⟨rfl, rfl⟩, rfl, trivial⟩, rfl, trivial⟩, trivial⟩, ⟨rfl, row0⟩, ⟨rfl, row0⟩, ⟨rfl, row0⟩, ⟨rfl, row0⟩, ⟨rfl, rfl, fun i hi => absurd hi (Nat.not_lt_zero _)⟩, trivial⟩
  · have ho : stoOK s = true := by simpa using hq
    rw [show appLog s r = (s, 7) by unfold appLog; rw [if_pos ho, if_pos (by have := beq_iff_eq.1 h60; omega)]]
    exact ⟨s, ⟨⟨eqS _, trivial⟩, h2⟩, ⟨⟨⟨⟨rfl, rfl⟩, ⟨rfl, rfl⟩, rfl, ⟨rfl, rfl⟩, rfl, ⟨rfl, rfl⟩, rfl, ⟨rfl, rfl⟩, rfl, trivial⟩, rfl, trivial⟩, trivial⟩, ⟨rfl, rowsR _ _⟩, ⟨rfl, rowsR _ _⟩, ⟨rfl, rowsR _ _⟩, ⟨rfl, rowsR _ _⟩, ⟨rfl, rfl, famR _⟩, trivial⟩
  · have := sto_60 (s := s) (by simpa using hq)
    exact i64_rng (by omega)
  · have := h3.2
    unfold Len
    omega
  · have ho : stoOK s = true := by simpa using hq
    have h6 : ¬ s.log.length = 60 := fun e => by rw [e] at h60; simp at h60
    have hr : recOK (appR s r) = false := by simpa [appR] using hr
    rw [show appLog s r = (s, 3) by unfold appLog; rw [if_pos ho, if_neg h6, if_neg (by rw [hr]; simp)]]
    exact ⟨s, ⟨⟨eqS _, trivial⟩, h2⟩, ⟨⟨⟨⟨rfl, rfl⟩, ⟨rfl, rfl⟩, rfl, ⟨rfl, rfl⟩, rfl, ⟨rfl, rfl⟩, rfl, ⟨rfl, rfl⟩, rfl, trivial⟩, rfl, trivial⟩, trivial⟩, ⟨rfl, rowsR _ _⟩, ⟨rfl, rowsR _ _⟩, ⟨rfl, rowsR _ _⟩, ⟨rfl, rowsR _ _⟩, ⟨rfl, rfl, famR _⟩, trivial⟩
  · have ho : stoOK s = true := by simpa using hq
    have h6 : ¬ s.log.length = 60 := fun e => by rw [e] at h60; simp at h60
    have hr : recOK (appR s r) = true := by simpa [appR] using hr
    have hl : s.log.length + 1 = (s.log ++ [appR s r]).length := by simp
    have hm := sto_60 ho
    rw [show appLog s r = ({ s with log := s.log ++ [appR s r] }, 0) by unfold appLog appS; rw [if_pos ho, if_neg h6, if_pos hr, if_pos hr]]
    exact ⟨s, ⟨⟨eqS _, trivial⟩, h2⟩, ⟨Nat.le_refl _, Nat.le_refl _, by unfold AppB; omega⟩, ⟨⟨⟨⟨rfl, rfl⟩, ⟨rfl, rfl⟩, rfl, ⟨rfl, rfl⟩, rfl, ⟨rfl, hl⟩, rfl, ⟨rfl, rfl⟩, rfl, trivial⟩, rfl, trivial⟩, trivial⟩, ⟨rfl, rowsR _ _⟩, ⟨rfl, rowsR _ _⟩, ⟨rfl, rowsR _ _⟩, ⟨hl, rec_app s.log (appR s r)⟩, ⟨rfl, rfl, famR _⟩, trivial⟩
end Go.Proofs.YtndilbkocjlgpaaGreat

