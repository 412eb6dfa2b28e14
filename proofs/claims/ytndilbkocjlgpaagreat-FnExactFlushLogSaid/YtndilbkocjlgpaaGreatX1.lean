/- A part of the proof. -/
import Derived.Test.YtndilbkocjlgpaaGreatF1F2
namespace Go.Proofs.YtndilbkocjlgpaaGreat
set_option maxRecDepth 100000
open Go.SS

-- what is laid anew is plain
theorem plain_nil : PlainH [] := fun k ob h => by simp [getOb] at h
theorem plain_cons {o : Ob} {H : Heap} (h : PlainOb o) (k : PlainH H) : PlainH (some o :: H) := fun i ob hi => by
  cases i with
  | zero =>
    simp only [getOb, List.getElem?_cons_zero, Option.bind_some, id, Option.some.injEq] at hi
    rw [← hi]; exact h
  | succ i => exact k i ob (by simpa [getOb] using hi)
theorem app_nil {row row' : Nat → List T} {n : Nat} : RowsEq (0 + n) (appRow row 0 row') row' := fun i _ => rfl
-- copies of slices
def pendA (L : List Pend) : Option Ob := some (.arr true 0 2 L.length (pendRow L))
def intA (L : List Int) : Option Ob := some (.arr true 0 1 L.length (intRow L))
def recA (L : List Rec) : Option Ob := some (.arr true 0 10 L.length (recRow L))
theorem plain_str (L : List (List UInt8)) : PlainH [strA L] := plain_cons (fun i _ t ht => by simp only [strRow, List.mem_singleton] at ht; rw [ht]; rfl) plain_nil
theorem plain_pend (L : List Pend) : PlainH [pendA L] := plain_cons (fun i _ t ht => by
  simp only [pendRow, Pend.ts, List.mem_cons, List.not_mem_nil, or_false] at ht
  rcases ht with rfl | rfl <;> rfl) plain_nil
theorem plain_int (L : List Int) : PlainH [intA L] := plain_cons (fun i _ t ht => by simp only [intRow, List.mem_singleton] at ht; rw [ht]; rfl) plain_nil
theorem plain_rec (L : List Rec) : PlainH [recA L] := plain_cons (fun i _ t ht => by
  simp only [recRow, Rec.ts, List.mem_cons, List.not_mem_nil, or_false] at ht
  rcases ht with rfl | rfl | rfl | rfl | rfl | rfl | rfl | rfl | rfl | rfl <;> rfl) plain_nil
def k_clStr : Con := .rmk ⟨List (List UInt8), fun L => [strS L], fun _ => [], fun L => .osl 0 0 L.length, fun L => [strA L], fun L => L.length ≤ 1048576⟩
noncomputable def b_clStr : Code := Tryz.f139.body.getD .skip
theorem call_clStr : Callable Tryz.prog 139 := ⟨_, Tryz.func139, by kernel_rfl, by kernel_rfl⟩
theorem v_clStr (L : List (List UInt8)) (h :
    ∀ (b : Bool), (b = true → L.length = 0) → (b = true → ((0 = 0 ∧ 0 = L.length) ∧ True) ∧ (0 = L.length ∧ RowsEq 0 (fun (x : Nat) => []) (strRow L)) ∧ True) ∧ (b = false → (Le 0 0 ∧ AppB 0 L.length 16) ∧ ((0 = 0 ∧ 0 + L.length =
    L.length) ∧ True) ∧ (0 + L.length = L.length ∧ RowsEq (0 + L.length) (appRow (fun (k : Nat) => List.take 1 (List.drop (k * 1) [])) 0 (strRow L)) (strRow L)) ∧ True)) :
    EffFn Tryz.prog 139 [strS L] [] (.osl 0 0 L.length) [strA L] :=
  vcG (code := b_clStr) gN Tryz.func139 (by kernel_rfl) (by kernel_rfl) noAnn [[.arr 1], [.nilS 0 [] 0 1, .arr 0]] h (by kernel_rfl)
theorem clStr_ok : ConOk Tryz.prog 139 k_clStr := fun (L : List (List UInt8)) (hL : L.length ≤ 1048576) =>
  ⟨v_clStr L (fun b hb => ⟨fun h => ⟨⟨⟨rfl, (hb h).symm⟩, trivial⟩, ⟨(hb h).symm, fun i hi => absurd hi (Nat.not_lt_zero _)⟩, trivial⟩, fun _ => ⟨⟨Nat.le_refl _, by unfold AppB; omega⟩, ⟨⟨rfl, by omega⟩, trivial⟩, ⟨by omega, app_nil⟩, trivial⟩⟩), rfl, plain_str L⟩
def k_clPend : Con := .rmk ⟨List Pend, fun L => [pendS L], fun _ => [], fun L => .osl 0 0 L.length, fun L => [pendA L], fun L => L.length ≤ 1048576⟩
noncomputable def b_clPend : Code := Tryz.f155.body.getD .skip
theorem call_clPend : Callable Tryz.prog 155 := ⟨_, Tryz.func155, by kernel_rfl, by kernel_rfl⟩
theorem v_clPend (L : List Pend) (h :
    ∀ (b : Bool), (b = true → L.length = 0) → (b = true → ((0 = 0 ∧ 0 = L.length) ∧ True) ∧ (0 = L.length ∧ RowsEq 0 (fun (x : Nat) => []) (pendRow L)) ∧ True) ∧ (b = false → (Le 0 0 ∧ AppB 0 L.length 24) ∧ ((0 = 0 ∧ 0 + L.length =
    L.length) ∧ True) ∧ (0 + L.length = L.length ∧ RowsEq (0 + L.length) (appRow (fun (k : Nat) => List.take 2 (List.drop (k * 2) [])) 0 (pendRow L)) (pendRow L)) ∧ True)) :
    EffFn Tryz.prog 155 [pendS L] [] (.osl 0 0 L.length) [pendA L] :=
  vcG (code := b_clPend) gN Tryz.func155 (by kernel_rfl) (by kernel_rfl) noAnn [[.arr 1], [.nilS 0 [] 0 2, .arr 0]] h (by kernel_rfl)
theorem clPend_ok : ConOk Tryz.prog 155 k_clPend := fun (L : List Pend) (hL : L.length ≤ 1048576) =>
  ⟨v_clPend L (fun b hb => ⟨fun h => ⟨⟨⟨rfl, (hb h).symm⟩, trivial⟩, ⟨(hb h).symm, fun i hi => absurd hi (Nat.not_lt_zero _)⟩, trivial⟩, fun _ => ⟨⟨Nat.le_refl _, by unfold AppB; omega⟩, ⟨⟨rfl, by omega⟩, trivial⟩, ⟨by omega, app_nil⟩, trivial⟩⟩), rfl, plain_pend L⟩
def k_clInt : Con := .rmk ⟨List Int, fun L => [intS L], fun _ => [], fun L => .osl 0 0 L.length, fun L => [intA L], fun L => L.length ≤ 1048576⟩
noncomputable def b_clInt : Code := Tryz.f156.body.getD .skip
theorem call_clInt : Callable Tryz.prog 156 := ⟨_, Tryz.func156, by kernel_rfl, by kernel_rfl⟩
theorem v_clInt (L : List Int) (h :
    ∀ (b : Bool), (b = true → L.length = 0) → (b = true → ((0 = 0 ∧ 0 = L.length) ∧ True) ∧ (0 = L.length ∧ RowsEq 0 (fun (x : Nat) => []) (intRow L)) ∧ True) ∧ (b = false → (Le 0 0 ∧ AppB 0 L.length 8) ∧ ((0 = 0 ∧ 0 + L.length =
    L.length) ∧ True) ∧ (0 + L.length = L.length ∧ RowsEq (0 + L.length) (appRow (fun (k : Nat) => List.take 1 (List.drop (k * 1) [])) 0 (intRow L)) (intRow L)) ∧ True)) :
    EffFn Tryz.prog 156 [intS L] [] (.osl 0 0 L.length) [intA L] :=
  vcG (code := b_clInt) gN Tryz.func156 (by kernel_rfl) (by kernel_rfl) noAnn [[.arr 1], [.nilS 0 [] 0 1, .arr 0]] h (by kernel_rfl)
theorem clInt_ok : ConOk Tryz.prog 156 k_clInt := fun (L : List Int) (hL : L.length ≤ 1048576) =>
  ⟨v_clInt L (fun b hb => ⟨fun h => ⟨⟨⟨rfl, (hb h).symm⟩, trivial⟩, ⟨(hb h).symm, fun i hi => absurd hi (Nat.not_lt_zero _)⟩, trivial⟩, fun _ => ⟨⟨Nat.le_refl _, by unfold AppB; omega⟩, ⟨⟨rfl, by omega⟩, trivial⟩, ⟨by omega, app_nil⟩, trivial⟩⟩), rfl, plain_int L⟩
def k_clRec : Con := .rmk ⟨List Rec, fun L => [recS L], fun _ => [], fun L => .osl 0 0 L.length, fun L => [recA L], fun L => L.length ≤ 1048576⟩
noncomputable def b_clRec : Code := Tryz.f99.body.getD .skip
theorem call_clRec : Callable Tryz.prog 99 := ⟨_, Tryz.func99, by kernel_rfl, by kernel_rfl⟩
theorem v_clRec (L : List Rec) (h :
    ∀ (b : Bool), (b = true → L.length = 0) → (b = true → ((0 = 0 ∧ 0 = L.length) ∧ True) ∧ (0 = L.length ∧ RowsEq 0 (fun (x : Nat) => []) (recRow L)) ∧ True) ∧ (b = false → (Le 0 0 ∧ AppB 0 L.length 96) ∧ ((0 = 0 ∧ 0 + L.length =
    L.length) ∧ True) ∧ (0 + L.length = L.length ∧ RowsEq (0 + L.length) (appRow (fun (k : Nat) => List.take 10 (List.drop (k * 10) [])) 0 (recRow L)) (recRow L)) ∧ True)) :
    EffFn Tryz.prog 99 [recS L] [] (.osl 0 0 L.length) [recA L] :=
  vcG (code := b_clRec) gN Tryz.func99 (by kernel_rfl) (by kernel_rfl) noAnn [[.arr 1], [.nilS 0 [] 0 10, .arr 0]] h (by kernel_rfl)
theorem clRec_ok : ConOk Tryz.prog 99 k_clRec := fun (L : List Rec) (hL : L.length ≤ 1048576) =>
  ⟨v_clRec L (fun b hb => ⟨fun h => ⟨⟨⟨rfl, (hb h).symm⟩, trivial⟩, ⟨(hb h).symm, fun i hi => absurd hi (Nat.not_lt_zero _)⟩, trivial⟩, fun _ => ⟨⟨Nat.le_refl _, by unfold AppB; omega⟩, ⟨⟨rfl, by omega⟩, trivial⟩, ⟨by omega, app_nil⟩, trivial⟩⟩), rfl, plain_rec L⟩
-- a disk that may be written to
def Dsk.tm (d : Dsk) (b : Nat) : List T := [.osl b 0 d.sec.length, .osl (b + 1) 0 d.cache.length, .bool d.armed, .osl (b + 2) 0 d.keep.length]
def Dsk.hp (d : Dsk) : Heap := [strA d.sec, pendA d.cache, intA d.keep]
theorem plain_app {H K : Heap} (h : PlainH H) (k : PlainH K) : PlainH (H ++ K) := fun i ob hi => by
  unfold getOb at hi
  rw [List.getElem?_append] at hi
  split at hi
  · exact h i ob hi
  · exact k _ ob hi
theorem plain_dsk (d : Dsk) : PlainH d.hp := plain_app (plain_str _) (plain_app (plain_pend _) (plain_int _))
def k_clDsk : Con := .rmk ⟨Dsk, fun d => [.agg d.ts], fun _ => [], fun d => .agg (d.tm 0), fun d => d.hp, SmD⟩
noncomputable def b_clDsk : Code := Tryz.f98.body.getD .skip
theorem call_clDsk : Callable Tryz.prog 98 := ⟨_, Tryz.func98, by kernel_rfl, by kernel_rfl⟩
theorem v_clDsk (d : Dsk) (h :
    ∃ (x : (List (List UInt8))), (((d.sec.length = List.length x ∧ RowsEq d.sec.length (strRow d.sec) (strRow x)) ∧ True) ∧ List.length x ≤ 1048576) ∧ ∃ (x_1 : (List Pend)), (((d.cache.length = List.length x_1 ∧ RowsEq d.cache.length
    (pendRow d.cache) (pendRow x_1)) ∧ True) ∧ List.length x_1 ≤ 1048576) ∧ ∃ (x_2 : (List Int)), (((d.keep.length = List.length x_2 ∧ RowsEq d.keep.length (intRow d.keep) (intRow x_2)) ∧ True) ∧ List.length x_2 ≤ 1048576) ∧ (((0 = 0
    ∧ List.length x = d.sec.length) ∧ (0 = 0 ∧ List.length x_1 = d.cache.length) ∧ d.armed = d.armed ∧ (0 = 0 ∧ List.length x_2 = d.keep.length) ∧ True) ∧ True) ∧ (List.length x = d.sec.length ∧ RowsEq (List.length x) (strRow x)
    (strRow d.sec)) ∧ (List.length x_1 = d.cache.length ∧ RowsEq (List.length x_1) (pendRow x_1) (pendRow d.cache)) ∧ (List.length x_2 = d.keep.length ∧ RowsEq (List.length x_2) (intRow x_2) (intRow d.keep)) ∧ True) :
    EffFn Tryz.prog 98 [.agg d.ts] [] (.agg (d.tm 0)) d.hp :=
  vcG (code := b_clDsk) (gC clStr_ok call_clStr (gC clPend_ok call_clPend (gC clInt_ok call_clInt gN))) Tryz.func98 (by kernel_rfl) (by kernel_rfl) noAnn [[.arr 2, .arr 3, .arr 4]] h (by kernel_rfl)
theorem clDsk_ok : ConOk Tryz.prog 98 k_clDsk := by
  rintro (d : Dsk) ⟨h1, h2, h3⟩
  exact ⟨v_clDsk d ⟨d.sec, ⟨⟨⟨rfl, rowsR _ _⟩, trivial⟩, h1⟩, d.cache, ⟨⟨⟨rfl, rowsR _ _⟩, trivial⟩, h2⟩, d.keep, ⟨⟨⟨rfl, rowsR _ _⟩, trivial⟩, h3⟩, ⟨⟨⟨rfl, rfl⟩, ⟨rfl, rfl⟩, rfl, ⟨rfl, rfl⟩, trivial⟩, trivial⟩, ⟨rfl, rowsR _ _⟩, ⟨rfl, rowsR _ _⟩, ⟨rfl, rowsR _ _⟩, trivial⟩, rfl, plain_dsk d⟩
-- a page
def Pg.tm (p : Pg) (b : Nat) : List T := [.int .i64 p.lsn, .osl b 0 p.sl.length]
def k_clPg : Con := .rmk ⟨Pg, fun p => [.agg p.ts], fun _ => [], fun p => .agg (p.tm 0), fun p => [strA p.sl], fun p => p.sl.length ≤ 1048576⟩
noncomputable def b_clPg : Code := Tryz.f77.body.getD .skip
theorem call_clPg : Callable Tryz.prog 77 := ⟨_, Tryz.func77, by kernel_rfl, by kernel_rfl⟩
theorem v_clPg (p : Pg) (h :
    ∃ (x : (List (List UInt8))), (((p.sl.length = List.length x ∧ RowsEq p.sl.length (strRow p.sl) (strRow x)) ∧ True) ∧ List.length x ≤ 1048576) ∧ ((p.lsn = p.lsn ∧ (0 = 0 ∧ List.length x = p.sl.length) ∧ True) ∧ True) ∧ (List.length
    x = p.sl.length ∧ RowsEq (List.length x) (strRow x) (strRow p.sl)) ∧ True) :
    EffFn Tryz.prog 77 [.agg p.ts] [] (.agg (p.tm 0)) [strA p.sl] :=
  vcG (code := b_clPg) (gC clStr_ok call_clStr gN) Tryz.func77 (by kernel_rfl) (by kernel_rfl) noAnn [[.arr 2]] h (by kernel_rfl)
theorem clPg_ok : ConOk Tryz.prog 77 k_clPg := by
  intro (p : Pg) (h1 : p.sl.length ≤ 1048576)
  exact ⟨v_clPg p ⟨p.sl, ⟨⟨⟨rfl, rowsR _ _⟩, trivial⟩, h1⟩, ⟨⟨rfl, ⟨rfl, rfl⟩, trivial⟩, trivial⟩, ⟨rfl, rowsR _ _⟩, trivial⟩, rfl, plain_str _⟩
-- a store that may be written to
def famRow (L : List Frm) (i : Nat) : List T := [.int .i64 (L.getD i default).no, .int .i64 (L.getD i default).pg.lsn, .own 0 1 (L.getD i default).pg.sl.length (strRow (L.getD i default).pg.sl), .bool (L.getD i default).dirty, .int .i64 (L.getD i default).first]
def famA (v : Nat) (L : List Frm) (n : Nat) : Option Ob := some (.fam v 0 5 n (famRow L))
def Sto.tm (s : Sto) (b : Nat) : List T := [.osl b 0 s.d.sec.length, .osl (b + 1) 0 s.d.cache.length, .bool s.d.armed, .osl (b + 2) 0 s.d.keep.length, .int .i64 s.ep, .osl (b + 3) 0 s.log.length, .int .i64 s.sure, .osl (b + 4) 0 s.fr.length, .int .i64 s.hand]
def Sto.hp (s : Sto) (v : Nat) : Heap := [strA s.d.sec, pendA s.d.cache, intA s.d.keep, recA s.log, famA v s.fr s.fr.length]
def stoZ : List T := [.v (.slice none 0 0), .v (.slice none 0 0), .bool false, .v (.slice none 0 0), .int .i64 0, .v (.slice none 0 0), .int .i64 0, .v (.slice none 0 0), .int .i64 0]
def stoZb : Option Ob := some (.arr true 1000000 9 1 fun _ => stoZ)
def stoBx (l : List T) : Option Ob := some (.arr false 1000000 9 1 fun _ => l)
theorem famR {L : List Frm} (n : Nat) : FamEq n (famRow L) (famRow L) := fun i _ => by
  refine ⟨?_, ?_, ⟨rfl, rfl, rowsR _ _⟩, ?_, ?_, trivial⟩ <;> rfl
theorem blt_t {i n : Nat} (h : i < n) : Nat.blt i n = true := Nat.ble_eq_true_of_le h
theorem blt_f {i n : Nat} (h : ¬ i < n) : Nat.blt i n = false := by
  cases hb : Nat.blt i n with
  | false => rfl
  | true => exact absurd (Nat.le_of_ble_eq_true hb) h
theorem fam_app {L : List Frm} {i : Nat} : FamEq (i + 1) (appRow (famRow L) i fun _ => famRow L i) (famRow L) := fun j hj => by
  have : appRow (famRow L) i (fun _ => famRow L i) j = famRow L j := by
    unfold appRow
    by_cases hji : j < i
    · rw [blt_t hji]
    · rw [blt_f hji, show i = j by omega]
  rw [this]
  exact famR (j + 1) j (Nat.lt_succ_self j)
theorem plain_fam (v : Nat) (L : List Frm) (n : Nat) : PlainH [famA v L n] := plain_cons (fun i _ t ht => by
  simp only [famRow, List.mem_cons, List.not_mem_nil, or_false] at ht
  rcases ht with rfl | rfl | rfl | rfl | rfl
  · rfl
  · rfl
  · intro j _ t ht; simp only [strRow, List.mem_singleton] at ht; rw [ht]; rfl
  · rfl
  · rfl) plain_nil
theorem plain_sto (s : Sto) (v : Nat) : PlainH (s.hp v) := plain_app (H := s.d.hp) (plain_dsk _) (plain_app (plain_rec _) (plain_fam _ _ _))
theorem famL_refl : ∀ l : List T, famL l l
  | [] => trivial
  | a :: r => ⟨by cases a <;> first | rfl | exact ⟨rfl, rfl, rowsR _ _⟩, famL_refl r⟩
theorem fam_eq {n : Nat} {f g : Nat → List T} (h : ∀ i, i < n → f i = g i) : FamEq n f g := fun i hi => by rw [h i hi]; exact famL_refl _
def k_clSto : Con := .rmk ⟨Sto, fun s => [.agg s.ts], fun _ => [], fun s => .agg (s.tm 0), fun s => s.hp 0, SmS⟩
def A_clSto (s : Sto) : Nat → Ann
  | 0 => .one {i : Nat // i ≤ s.fr.length} (fun x => ⟨[(1, .ref 0 0 0), (2, .ref 1 0 0), (17, frmS s.fr), (18, .int .i64 s.fr.length), (19, .int .i64 x.1)], [stoBx [.osl 2 0 s.d.sec.length, .osl 3 0 s.d.cache.length, .bool s.d.armed, .osl 4 0 s.d.keep.length, .int .i64 s.ep, .osl 5 0 s.log.length, .int .i64 s.sure, .osl 6 0 x.1, .int .i64 s.hand], stoZb, strA s.d.sec, pendA s.d.cache, intA s.d.keep, recA s.log, famA 0 s.fr x.1]⟩) (fun x => s.fr.length - x.1) [.nilC 0 7 0 5, .fam 6, .box 0, .box 1, .arr 2, .arr 3, .arr 4, .arr 5, .arr 6] [.box 0, .box 1, .arr 2, .arr 3, .arr 4, .arr 5, .at_ 31] (fun _ => noAnn)
  | _ => .none
noncomputable def b_clSto : Code := Tryz.f46.body.getD .skip
theorem call_clSto : Callable Tryz.prog 46 := ⟨_, Tryz.func46, by kernel_rfl, by kernel_rfl⟩
theorem v_clSto (s : Sto) (h :
    ∃ (x : Dsk), (((EqD s.d x) ∧ True) ∧ SmD x) ∧ ∃ (x_1 : (List Rec)), (((s.log.length = List.length x_1 ∧ RowsEq s.log.length (recRow s.log) (recRow x_1)) ∧ True) ∧ List.length x_1 ≤ 1048576) ∧ (∃ (x_2 : { i : Nat // i ≤ s.fr.length
    }), ((0 = 0 ∧ 0 = 0) ∧ (0 = 0 ∧ 0 = 0) ∧ (EqL frmRow s.fr s.fr) ∧ (s.fr.length:Int) = (s.fr.length:Int) ∧ (0 : Int) = (x_2.val:Int) ∧ True) ∧ (1 = 1 ∧ 1 = 1 ∧ (0 = 0 ∧ x.sec.length = s.d.sec.length) ∧ (0 = 0 ∧ x.cache.length =
    s.d.cache.length) ∧ x.armed = s.d.armed ∧ (0 = 0 ∧ x.keep.length = s.d.keep.length) ∧ s.ep = s.ep ∧ (0 = 0 ∧ List.length x_1 = s.log.length) ∧ s.sure = s.sure ∧ (0 = 0 ∧ 0 = x_2.val) ∧ s.hand = s.hand ∧ True) ∧ (1 = 1 ∧ 1 = 1 ∧
    Value.slice none 0 0 = Value.slice none 0 0 ∧ Value.slice none 0 0 = Value.slice none 0 0 ∧ false = false ∧ Value.slice none 0 0 = Value.slice none 0 0 ∧ (0 : Int) = (0 : Int) ∧ Value.slice none 0 0 = Value.slice none 0 0 ∧ (0 :
    Int) = (0 : Int) ∧ Value.slice none 0 0 = Value.slice none 0 0 ∧ (0 : Int) = (0 : Int) ∧ True) ∧ (EqL strRow x.sec s.d.sec) ∧ (EqL pendRow x.cache s.d.cache) ∧ (EqL intRow x.keep s.d.keep) ∧ (List.length x_1 = s.log.length ∧
    RowsEq (List.length x_1) (recRow x_1) (recRow s.log)) ∧ (0 = 0 ∧ 0 = x_2.val ∧ FamEq 0 (fun (x : Nat) => []) (famRow s.fr)) ∧ True) ∧ ∀ (x : { i : Nat // i ≤ s.fr.length }), (decide ((x.val:Int) < (s.fr.length:Int)) = true → InB
    (x.val:Int) s.fr.length ∧ ∃ (x_2 : Pg), ((((s.fr.getD (x.val:Int).toNat default).pg.lsn = x_2.lsn ∧ ((s.fr.getD (x.val:Int).toNat default).pg.sl.length = x_2.sl.length ∧ RowsEq (s.fr.getD (x.val:Int).toNat default).pg.sl.length
    (strRow (s.fr.getD (x.val:Int).toNat default).pg.sl) (strRow x_2.sl)) ∧ True) ∧ True) ∧ x_2.sl.length ≤ 1048576) ∧ (Le x_2.sl.length x_2.sl.length ∧ Le x.val x.val ∧ AppB x.val 1 56) ∧ Rng .i64 ((x.val:Int) + (1 : Int)) ∧ ∃ (y : {
    i : Nat // i ≤ s.fr.length }), (((0 = 0 ∧ 0 = 0) ∧ (0 = 0 ∧ 0 = 0) ∧ (EqL frmRow s.fr s.fr) ∧ (s.fr.length:Int) = (s.fr.length:Int) ∧ (x.val:Int) + (1 : Int) = (y.val:Int) ∧ True) ∧ (1 = 1 ∧ 1 = 1 ∧ (0 = 0 ∧ s.d.sec.length =
    s.d.sec.length) ∧ (0 = 0 ∧ s.d.cache.length = s.d.cache.length) ∧ s.d.armed = s.d.armed ∧ (0 = 0 ∧ s.d.keep.length = s.d.keep.length) ∧ s.ep = s.ep ∧ (0 = 0 ∧ s.log.length = s.log.length) ∧ s.sure = s.sure ∧ (0 = 0 ∧ x.val + 1 =
    y.val) ∧ s.hand = s.hand ∧ True) ∧ (1 = 1 ∧ 1 = 1 ∧ Value.slice none 0 0 = Value.slice none 0 0 ∧ Value.slice none 0 0 = Value.slice none 0 0 ∧ false = false ∧ Value.slice none 0 0 = Value.slice none 0 0 ∧ (0 : Int) = (0 : Int) ∧
    Value.slice none 0 0 = Value.slice none 0 0 ∧ (0 : Int) = (0 : Int) ∧ Value.slice none 0 0 = Value.slice none 0 0 ∧ (0 : Int) = (0 : Int) ∧ True) ∧ (EqL strRow s.d.sec s.d.sec) ∧ (EqL pendRow s.d.cache s.d.cache) ∧ (EqL intRow
    s.d.keep s.d.keep) ∧ (EqL recRow s.log s.log) ∧ (0 = 0 ∧ x.val + 1 = y.val ∧ FamEq (x.val + 1) (appRow (famRow s.fr) x.val fun (x_3 : Nat) => [T.int .i64 (s.fr.getD (x.val:Int).toNat default).no, T.int .i64 x_2.lsn, T.own 0 1
    x_2.sl.length (strRow x_2.sl), T.bool (s.fr.getD (x.val:Int).toNat default).dirty, T.int .i64 (s.fr.getD (x.val:Int).toNat default).first]) (famRow s.fr)) ∧ True) ∧ Lt (s.fr.length - y.val) (s.fr.length - x.val)) ∧ (decide
    ((x.val:Int) < (s.fr.length:Int)) = false → (((0 = 0 ∧ s.d.sec.length = s.d.sec.length) ∧ (0 = 0 ∧ s.d.cache.length = s.d.cache.length) ∧ s.d.armed = s.d.armed ∧ (0 = 0 ∧ s.d.keep.length = s.d.keep.length) ∧ s.ep = s.ep ∧ (0 = 0 ∧
    s.log.length = s.log.length) ∧ s.sure = s.sure ∧ (0 = 0 ∧ x.val = s.fr.length) ∧ s.hand = s.hand ∧ True) ∧ True) ∧ (EqL strRow s.d.sec s.d.sec) ∧ (EqL pendRow s.d.cache s.d.cache) ∧ (EqL intRow s.d.keep s.d.keep) ∧ (EqL recRow
    s.log s.log) ∧ (0 = 0 ∧ x.val = s.fr.length ∧ FamEq x.val (famRow s.fr) (famRow s.fr)) ∧ True)) :
    EffFn Tryz.prog 46 [.agg s.ts] [] (.agg (s.tm 0)) (s.hp 0) :=
  vcG (code := b_clSto) (gC clDsk_ok call_clDsk (gC clRec_ok call_clRec (gC clPg_ok call_clPg gN))) Tryz.func46 (by kernel_rfl) (by kernel_rfl) (A_clSto s) [[.arr 2, .arr 3, .arr 4, .arr 5, .arr 6]] h (by kernel_rfl)
theorem clSto_ok : ConOk Tryz.prog 46 k_clSto := by
  rintro (s : Sto) ⟨h1, h2, h3, h4⟩
  refine ⟨v_clSto s ⟨s.d, ⟨⟨eqD _, trivial⟩, h1⟩, s.log, ⟨⟨⟨rfl, rowsR _ _⟩, trivial⟩, h2⟩, ⟨⟨0, Nat.zero_le _⟩, ⟨⟨rfl, rfl⟩, ⟨rfl, rfl⟩, ⟨rfl, rowsR _ _⟩, rfl, rfl, trivial⟩, ⟨rfl, rfl, ⟨rfl, rfl⟩, ⟨rfl, rfl⟩, rfl, ⟨rfl, rfl⟩, rfl, ⟨rfl, rfl⟩, rfl, ⟨rfl, rfl⟩, rfl, trivial⟩, ⟨rfl, rfl, rfl, rfl, rfl, rfl, rfl, rfl, rfl, rfl, rfl, trivial⟩, ⟨rfl, rowsR _ _⟩, ⟨rfl, rowsR _ _⟩, ⟨rfl, rowsR _ _⟩, ⟨rfl, rowsR _ _⟩, ⟨rfl, rfl, fun i hi => absurd hi (Nat.not_lt_zero _)⟩, trivial⟩, fun x => ⟨fun hc => ?_, fun hc => ?_⟩⟩, rfl, ?_⟩
  · have hlt := lt_of_dec hc
    rw [Int.toNat_natCast]
    exact ⟨inB_nat hlt, (s.fr.getD x.val default).pg, ⟨⟨⟨rfl, ⟨rfl, rowsR _ _⟩, trivial⟩, trivial⟩, h4 _ hlt⟩, ⟨Nat.le_refl _, Nat.le_refl _, by unfold AppB; omega⟩, i64_rng (by omega), ⟨x.val + 1, hlt⟩, ⟨⟨⟨rfl, rfl⟩, ⟨rfl, rfl⟩, ⟨rfl, rowsR _ _⟩, rfl, by dsimp only; omega, trivial⟩, ⟨rfl, rfl, ⟨rfl, rfl⟩, ⟨rfl, rfl⟩, rfl, ⟨rfl, rfl⟩, rfl, ⟨rfl, rfl⟩, rfl, ⟨rfl, rfl⟩, rfl, trivial⟩, ⟨rfl, rfl, rfl, rfl, rfl, rfl, rfl, rfl, rfl, rfl, rfl, trivial⟩, ⟨rfl, rowsR _ _⟩, ⟨rfl, rowsR _ _⟩, ⟨rfl, rowsR _ _⟩, ⟨rfl, rowsR _ _⟩, ⟨rfl, rfl, fam_app⟩, trivial⟩, Cnt.ext_lt hlt⟩
  · have hx : x.val = s.fr.length := by have := x.2; have := le_of_not hc; omega
    rw [hx]
    exact ⟨⟨⟨⟨rfl, rfl⟩, ⟨rfl, rfl⟩, rfl, ⟨rfl, rfl⟩, rfl, ⟨rfl, rfl⟩, rfl, ⟨rfl, rfl⟩, rfl, trivial⟩, trivial⟩, ⟨rfl, rowsR _ _⟩, ⟨rfl, rowsR _ _⟩, ⟨rfl, rowsR _ _⟩, ⟨rfl, rowsR _ _⟩, ⟨rfl, rfl, famR _⟩, trivial⟩
  · exact plain_sto s 0
end Go.Proofs.YtndilbkocjlgpaaGreat

