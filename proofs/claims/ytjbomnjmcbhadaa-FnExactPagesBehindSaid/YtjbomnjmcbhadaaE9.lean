/- A part of the proof of a law: what functions of the program compute, shown by a calculus of symbolic states. -/
import Derived.Test.YtjbomnjmcbhadaaE8
namespace Go.Proofs.Ytjbomnjmcbhadaa
open Go.SS

/-- A frame is not as the disk is. -/
noncomputable def badBeh (s : Sto) (i : Nat) : Bool :=
  let f := s.fr.getD i default
  let p := (pgAt s.d f.no.toNat).1
  (!f.dirty && !((p.lsn == f.pg.lsn) && eqS p.sl f.pg.sl)) || (f.dirty && (decide (f.pg.lsn < f.first) || decide (p.lsn ≥ f.first)))
noncomputable def behRes (s : Sto) : Bool × Int := if stoOK s then (!anyI s.fr.length (badBeh s), 0) else (false, 1)
noncomputable def behT (s : Sto) : T := .tup [.bool (behRes s).1, .int .i64 (behRes s).2]
noncomputable def r_PagesBehind : Rl := ⟨Sto, fun s => [.agg s.ts], behT, StoB⟩
noncomputable def k_PagesBehindi : Con := .rel r_PagesBehind
noncomputable def k_PagesBehinds : Con := .rel r_PagesBehind
noncomputable def A_PagesBehindi (s : Sto) : Nat → Ann
  | 0 => .onef [1, 13, 14, 15] (Cnt s.fr.length (badBeh s)) (fun x => ⟨[(1, .bref s.ts), (13, frmS s.fr), (14, .int .i64 s.fr.length), (15, .int .i64 x.1)], []⟩) (fun x => s.fr.length - x.1) [] (fun _ => noAnn)
  | _ => .none
noncomputable def b_PagesBehindi : Code := Try.f13.body.getD .skip
theorem call_PagesBehindi : Callable Try.prog 13 := ⟨_, Try.func13, by kernel_rfl, by kernel_rfl⟩
set_option maxRecDepth 100000 in
theorem v_PagesBehindi (s : Sto) (h :
    ∃ (x : r_StoreOK.ι), ((((s.d.sec.length = x.d.sec.length ∧ RowsEq s.d.sec.length (strRow s.d.sec) (strRow x.d.sec)) ∧ (s.d.cache.length = x.d.cache.length ∧ RowsEq s.d.cache.length (pendRow s.d.cache) (pendRow x.d.cache)) ∧
    s.d.armed = x.d.armed ∧ (s.d.keep.length = x.d.keep.length ∧ RowsEq s.d.keep.length (intRow s.d.keep) (intRow x.d.keep)) ∧ s.ep = x.ep ∧ (s.log.length = x.log.length ∧ RowsEq s.log.length (recRow s.log) (recRow x.log)) ∧ s.sure =
    x.sure ∧ (s.fr.length = x.fr.length ∧ RowsEq s.fr.length (frmRow s.fr) (frmRow x.fr)) ∧ s.hand = x.hand ∧ True) ∧ True) ∧ StoB x) ∧ ((!stoOK x) = true → false = (behRes s).fst ∧ (1 : Int) = (behRes s).snd ∧ True) ∧ ((!stoOK x) =
    false → (∃ (x : Cnt s.fr.length (badBeh s)), (TLe (fun (x : Nat) => none) (T.bref [T.sl (1 : Nat) s.d.sec.length (strRow s.d.sec), T.sl (2 : Nat) s.d.cache.length (pendRow s.d.cache), T.bool s.d.armed, T.sl (1 : Nat)
    s.d.keep.length (intRow s.d.keep), T.int IntKind.i64 s.ep, T.sl (10 : Nat) s.log.length (recRow s.log), T.int IntKind.i64 s.sure, T.sl (5 : Nat) s.fr.length (frmRow s.fr), T.int IntKind.i64 s.hand]) (T.bref [T.sl (1 : Nat)
    s.d.sec.length (strRow s.d.sec), T.sl (2 : Nat) s.d.cache.length (pendRow s.d.cache), T.bool s.d.armed, T.sl (1 : Nat) s.d.keep.length (intRow s.d.keep), T.int IntKind.i64 s.ep, T.sl (10 : Nat) s.log.length (recRow s.log), T.int
    IntKind.i64 s.sure, T.sl (5 : Nat) s.fr.length (frmRow s.fr), T.int IntKind.i64 s.hand]) ∧ (s.fr.length = s.fr.length ∧ RowsEq s.fr.length (frmRow s.fr) (frmRow s.fr)) ∧ (↑s.fr.length : Int) = (↑s.fr.length : Int) ∧ (0 : Int) =
    (↑x.val : Int) ∧ True) ∧ True) ∧ ∀ (x : Cnt s.fr.length (badBeh s)), (decide ((↑x.val : Int) < (↑s.fr.length : Int)) = true → InB (↑x.val : Int) s.fr.length ∧ ∃ (x_1 : r_diskPage.ι), ((((s.d.sec.length = x_1.fst.d.sec.length ∧
    RowsEq s.d.sec.length (strRow s.d.sec) (strRow x_1.fst.d.sec)) ∧ (s.d.cache.length = x_1.fst.d.cache.length ∧ RowsEq s.d.cache.length (pendRow s.d.cache) (pendRow x_1.fst.d.cache)) ∧ s.d.armed = x_1.fst.d.armed ∧ (s.d.keep.length
    = x_1.fst.d.keep.length ∧ RowsEq s.d.keep.length (intRow s.d.keep) (intRow x_1.fst.d.keep)) ∧ s.ep = x_1.fst.ep ∧ (s.log.length = x_1.fst.log.length ∧ RowsEq s.log.length (recRow s.log) (recRow x_1.fst.log)) ∧ s.sure =
    x_1.fst.sure ∧ (s.fr.length = x_1.fst.fr.length ∧ RowsEq s.fr.length (frmRow s.fr) (frmRow x_1.fst.fr)) ∧ s.hand = x_1.fst.hand ∧ True) ∧ (s.fr.getD (↑x.val : Int).toNat default).no = (↑x_1.snd : Int) ∧ True) ∧ PgSide (x_1.fst.d,
    x_1.snd)) ∧ ∃ (x_2 : r_equal.ι), (((pgAtI x_1.fst.d x_1.snd).fst.lsn == (s.fr.getD (↑x.val : Int).toNat default).pg.lsn) = true → (((pgAtI x_1.fst.d x_1.snd).fst.sl.length = x_2.fst.length ∧ RowsEq (pgAtI x_1.fst.d
    x_1.snd).fst.sl.length (strRow (pgAtI x_1.fst.d x_1.snd).fst.sl) (strRow x_2.fst)) ∧ ((s.fr.getD (↑x.val : Int).toNat default).pg.sl.length = x_2.snd.length ∧ RowsEq (s.fr.getD (↑x.val : Int).toNat default).pg.sl.length (strRow
    (s.fr.getD (↑x.val : Int).toNat default).pg.sl) (strRow x_2.snd)) ∧ True) ∧ Len x_2.fst.length) ∧ ((!(s.fr.getD (↑x.val : Int).toNat default).dirty && !((pgAtI x_1.fst.d x_1.snd).fst.lsn == (s.fr.getD (↑x.val : Int).toNat
    default).pg.lsn && eqS x_2.fst x_2.snd) || (s.fr.getD (↑x.val : Int).toNat default).dirty && (decide ((s.fr.getD (↑x.val : Int).toNat default).pg.lsn < (s.fr.getD (↑x.val : Int).toNat default).first) || decide ((pgAtI x_1.fst.d
    x_1.snd).fst.lsn ≥ (s.fr.getD (↑x.val : Int).toNat default).first))) = true → false = (behRes s).fst ∧ (0 : Int) = (behRes s).snd ∧ True) ∧ ((!(s.fr.getD (↑x.val : Int).toNat default).dirty && !((pgAtI x_1.fst.d x_1.snd).fst.lsn
    == (s.fr.getD (↑x.val : Int).toNat default).pg.lsn && eqS x_2.fst x_2.snd) || (s.fr.getD (↑x.val : Int).toNat default).dirty && (decide ((s.fr.getD (↑x.val : Int).toNat default).pg.lsn < (s.fr.getD (↑x.val : Int).toNat
    default).first) || decide ((pgAtI x_1.fst.d x_1.snd).fst.lsn ≥ (s.fr.getD (↑x.val : Int).toNat default).first))) = false → Rng IntKind.i64 ((↑x.val : Int) + (1 : Int)) ∧ ∃ (y : Cnt s.fr.length (badBeh s)), ((TLe (fun (x : Nat) =>
    none) (T.bref [T.sl (1 : Nat) s.d.sec.length (strRow s.d.sec), T.sl (2 : Nat) s.d.cache.length (pendRow s.d.cache), T.bool s.d.armed, T.sl (1 : Nat) s.d.keep.length (intRow s.d.keep), T.int IntKind.i64 s.ep, T.sl (10 : Nat)
    s.log.length (recRow s.log), T.int IntKind.i64 s.sure, T.sl (5 : Nat) s.fr.length (frmRow s.fr), T.int IntKind.i64 s.hand]) (T.bref [T.sl (1 : Nat) s.d.sec.length (strRow s.d.sec), T.sl (2 : Nat) s.d.cache.length (pendRow
    s.d.cache), T.bool s.d.armed, T.sl (1 : Nat) s.d.keep.length (intRow s.d.keep), T.int IntKind.i64 s.ep, T.sl (10 : Nat) s.log.length (recRow s.log), T.int IntKind.i64 s.sure, T.sl (5 : Nat) s.fr.length (frmRow s.fr), T.int
    IntKind.i64 s.hand]) ∧ (s.fr.length = s.fr.length ∧ RowsEq s.fr.length (frmRow s.fr) (frmRow s.fr)) ∧ (↑s.fr.length : Int) = (↑s.fr.length : Int) ∧ (↑x.val : Int) + (1 : Int) = (↑y.val : Int) ∧ True) ∧ True) ∧ Lt (s.fr.length -
    y.val) (s.fr.length - x.val))) ∧ (decide ((↑x.val : Int) < (↑s.fr.length : Int)) = false → true = (behRes s).fst ∧ (0 : Int) = (behRes s).snd ∧ True))) :
    PureFn Try.prog 13 [.agg s.ts] (behT s) :=
  fn_vc mixed (cons_ok StoreOKi_ok (cons_ok diskPage_ok (cons_ok equal_ok nil_ok))) (cons_call call_StoreOKi (cons_call call_diskPage (cons_call call_equal nil_call))) Try.func13 (by kernel_rfl) (leB (by kernel_rfl)) (A_PagesBehindi s) (Eq.mp (β := vcFn Try.prog [(28, k_StoreOKi), (29, k_diskPage), (30, k_equal)] Try.f13.ntmps Try.f13.results.toList b_PagesBehindi [.agg s.ts] (behT s) (A_PagesBehindi s)) (by kernel_rfl) h)
noncomputable def A_PagesBehinds (s : Sto) : Nat → Ann
  | 0 => .onef [1, 4] (Cnt s.fr.length (badBeh s)) (fun x => ⟨[(1, .bref s.ts), (4, .int .i64 x.1)], []⟩) (fun x => s.fr.length - x.1) [] (fun _ => noAnn)
  | _ => .none
noncomputable def b_PagesBehinds : Code := Try.f11.body.getD .skip
theorem call_PagesBehinds : Callable Try.prog 11 := ⟨_, Try.func11, by kernel_rfl, by kernel_rfl⟩
set_option maxRecDepth 100000 in
theorem v_PagesBehinds (s : Sto) (h :
    ∃ (x : r_StoreOK.ι), ((((s.d.sec.length = x.d.sec.length ∧ RowsEq s.d.sec.length (strRow s.d.sec) (strRow x.d.sec)) ∧ (s.d.cache.length = x.d.cache.length ∧ RowsEq s.d.cache.length (pendRow s.d.cache) (pendRow x.d.cache)) ∧
    s.d.armed = x.d.armed ∧ (s.d.keep.length = x.d.keep.length ∧ RowsEq s.d.keep.length (intRow s.d.keep) (intRow x.d.keep)) ∧ s.ep = x.ep ∧ (s.log.length = x.log.length ∧ RowsEq s.log.length (recRow s.log) (recRow x.log)) ∧ s.sure =
    x.sure ∧ (s.fr.length = x.fr.length ∧ RowsEq s.fr.length (frmRow s.fr) (frmRow x.fr)) ∧ s.hand = x.hand ∧ True) ∧ True) ∧ StoB x) ∧ ((!stoOK x) = true → false = (behRes s).fst ∧ (1 : Int) = (behRes s).snd ∧ True) ∧ ((!stoOK x) =
    false → (∃ (x : Cnt s.fr.length (badBeh s)), (TLe (fun (x : Nat) => none) (T.bref [T.sl (1 : Nat) s.d.sec.length (strRow s.d.sec), T.sl (2 : Nat) s.d.cache.length (pendRow s.d.cache), T.bool s.d.armed, T.sl (1 : Nat)
    s.d.keep.length (intRow s.d.keep), T.int IntKind.i64 s.ep, T.sl (10 : Nat) s.log.length (recRow s.log), T.int IntKind.i64 s.sure, T.sl (5 : Nat) s.fr.length (frmRow s.fr), T.int IntKind.i64 s.hand]) (T.bref [T.sl (1 : Nat)
    s.d.sec.length (strRow s.d.sec), T.sl (2 : Nat) s.d.cache.length (pendRow s.d.cache), T.bool s.d.armed, T.sl (1 : Nat) s.d.keep.length (intRow s.d.keep), T.int IntKind.i64 s.ep, T.sl (10 : Nat) s.log.length (recRow s.log), T.int
    IntKind.i64 s.sure, T.sl (5 : Nat) s.fr.length (frmRow s.fr), T.int IntKind.i64 s.hand]) ∧ (0 : Int) = (↑x.val : Int) ∧ True) ∧ True) ∧ ∀ (x : Cnt s.fr.length (badBeh s)), (decide ((↑x.val : Int) < (↑s.fr.length : Int)) = true →
    InB (↑x.val : Int) s.fr.length ∧ ∃ (x_1 : r_l05Page.ι), ((((s.d.sec.length = x_1.fst.sec.length ∧ RowsEq s.d.sec.length (strRow s.d.sec) (strRow x_1.fst.sec)) ∧ (s.d.cache.length = x_1.fst.cache.length ∧ RowsEq s.d.cache.length
    (pendRow s.d.cache) (pendRow x_1.fst.cache)) ∧ s.d.armed = x_1.fst.armed ∧ (s.d.keep.length = x_1.fst.keep.length ∧ RowsEq s.d.keep.length (intRow s.d.keep) (intRow x_1.fst.keep)) ∧ True) ∧ (s.fr.getD (↑x.val : Int).toNat
    default).no = (↑x_1.snd : Int) ∧ True) ∧ PgSide x_1) ∧ ((s.fr.getD (↑x.val : Int).toNat default).dirty = true → ((decide ((s.fr.getD (↑x.val : Int).toNat default).pg.lsn < (s.fr.getD (↑x.val : Int).toNat default).first) || decide
    ((pgAt x_1.fst x_1.snd).fst.lsn ≥ (s.fr.getD (↑x.val : Int).toNat default).first)) = true → false = (behRes s).fst ∧ (0 : Int) = (behRes s).snd ∧ True) ∧ ((decide ((s.fr.getD (↑x.val : Int).toNat default).pg.lsn < (s.fr.getD
    (↑x.val : Int).toNat default).first) || decide ((pgAt x_1.fst x_1.snd).fst.lsn ≥ (s.fr.getD (↑x.val : Int).toNat default).first)) = false → Rng IntKind.i64 ((↑x.val : Int) + (1 : Int)) ∧ ∃ (y : Cnt s.fr.length (badBeh s)), ((TLe
    (fun (x : Nat) => none) (T.bref [T.sl (1 : Nat) s.d.sec.length (strRow s.d.sec), T.sl (2 : Nat) s.d.cache.length (pendRow s.d.cache), T.bool s.d.armed, T.sl (1 : Nat) s.d.keep.length (intRow s.d.keep), T.int IntKind.i64 s.ep, T.sl
    (10 : Nat) s.log.length (recRow s.log), T.int IntKind.i64 s.sure, T.sl (5 : Nat) s.fr.length (frmRow s.fr), T.int IntKind.i64 s.hand]) (T.bref [T.sl (1 : Nat) s.d.sec.length (strRow s.d.sec), T.sl (2 : Nat) s.d.cache.length
    (pendRow s.d.cache), T.bool s.d.armed, T.sl (1 : Nat) s.d.keep.length (intRow s.d.keep), T.int IntKind.i64 s.ep, T.sl (10 : Nat) s.log.length (recRow s.log), T.int IntKind.i64 s.sure, T.sl (5 : Nat) s.fr.length (frmRow s.fr),
    T.int IntKind.i64 s.hand]) ∧ (↑x.val : Int) + (1 : Int) = (↑y.val : Int) ∧ True) ∧ True) ∧ Lt (s.fr.length - y.val) (s.fr.length - x.val))) ∧ ((s.fr.getD (↑x.val : Int).toNat default).dirty = false → ∃ (x_2 : r_l03Bytes.ι),
    (((s.fr.getD (↑x.val : Int).toNat default).no = x_2.fst ∧ ((pgAt x_1.fst x_1.snd).fst.lsn = x_2.snd.lsn ∧ ((pgAt x_1.fst x_1.snd).fst.sl.length = x_2.snd.sl.length ∧ RowsEq (pgAt x_1.fst x_1.snd).fst.sl.length (strRow (pgAt
    x_1.fst x_1.snd).fst.sl) (strRow x_2.snd.sl)) ∧ True) ∧ True) ∧ PgP x_2.snd) ∧ ∃ (x_3 : r_l03Bytes.ι), (((s.fr.getD (↑x.val : Int).toNat default).no = x_3.fst ∧ ((s.fr.getD (↑x.val : Int).toNat default).pg.lsn = x_3.snd.lsn ∧
    ((s.fr.getD (↑x.val : Int).toNat default).pg.sl.length = x_3.snd.sl.length ∧ RowsEq (s.fr.getD (↑x.val : Int).toNat default).pg.sl.length (strRow (s.fr.getD (↑x.val : Int).toNat default).pg.sl) (strRow x_3.snd.sl)) ∧ True) ∧ True)
    ∧ PgP x_3.snd) ∧ ((!pgBytes x_2.fst x_2.snd == pgBytes x_3.fst x_3.snd) = true → false = (behRes s).fst ∧ (0 : Int) = (behRes s).snd ∧ True) ∧ ((!pgBytes x_2.fst x_2.snd == pgBytes x_3.fst x_3.snd) = false → Rng IntKind.i64
    ((↑x.val : Int) + (1 : Int)) ∧ ∃ (y : Cnt s.fr.length (badBeh s)), ((TLe (fun (x : Nat) => none) (T.bref [T.sl (1 : Nat) s.d.sec.length (strRow s.d.sec), T.sl (2 : Nat) s.d.cache.length (pendRow s.d.cache), T.bool s.d.armed, T.sl
    (1 : Nat) s.d.keep.length (intRow s.d.keep), T.int IntKind.i64 s.ep, T.sl (10 : Nat) s.log.length (recRow s.log), T.int IntKind.i64 s.sure, T.sl (5 : Nat) s.fr.length (frmRow s.fr), T.int IntKind.i64 s.hand]) (T.bref [T.sl (1 :
    Nat) s.d.sec.length (strRow s.d.sec), T.sl (2 : Nat) s.d.cache.length (pendRow s.d.cache), T.bool s.d.armed, T.sl (1 : Nat) s.d.keep.length (intRow s.d.keep), T.int IntKind.i64 s.ep, T.sl (10 : Nat) s.log.length (recRow s.log),
    T.int IntKind.i64 s.sure, T.sl (5 : Nat) s.fr.length (frmRow s.fr), T.int IntKind.i64 s.hand]) ∧ (↑x.val : Int) + (1 : Int) = (↑y.val : Int) ∧ True) ∧ True) ∧ Lt (s.fr.length - y.val) (s.fr.length - x.val)))) ∧ (decide ((↑x.val :
    Int) < (↑s.fr.length : Int)) = false → true = (behRes s).fst ∧ (0 : Int) = (behRes s).snd ∧ True))) :
    PureFn Try.prog 11 [.agg s.ts] (behT s) :=
  fn_vc mixed (cons_ok StoreOKs_ok (cons_ok l05Page_ok (cons_ok l03Bytes_ok nil_ok))) (cons_call call_StoreOKs (cons_call call_l05Page (cons_call call_l03Bytes nil_call))) Try.func11 (by kernel_rfl) (leB (by kernel_rfl)) (A_PagesBehinds s) (Eq.mp (β := vcFn Try.prog [(23, k_StoreOKs), (24, k_l05Page), (25, k_l03Bytes)] Try.f11.ntmps Try.f11.results.toList b_PagesBehinds [.agg s.ts] (behT s) (A_PagesBehinds s)) (by kernel_rfl) h)
theorem pg_new : PgP ⟨0, [[], [], [], []]⟩ := by
  refine ⟨by decide, by decide, rfl, fun i hi => ?_⟩
  match i, hi with
  | 0, _ => decide
  | 1, _ => decide
  | 2, _ => decide
  | 3, _ => decide
theorem pgAt_ok {d : Dsk} {no : Nat} (h : (pgAt d no).2 = true) : PgP (pgAt d no).1 := by
  unfold pgAt at h ⊢
  split at h
  · rename_i h0
    rw [if_pos h0]
    exact pg_new
  · rename_i h0
    rw [if_neg h0]
    unfold rdPg at h ⊢
    split at h
    · rename_i h1
      rw [if_pos h1]
      simp only [Bool.and_eq_true] at h
      exact (pgOK_iff _).1 h.2
    · cases h
theorem sto_frame {s : Sto} (h : stoOK s = true) {i : Nat} (hi : i < s.fr.length) : 0 ≤ (s.fr.getD i default).no ∧ (s.fr.getD i default).no ≤ 7 ∧ PgP (s.fr.getD i default).pg ∧ PgSide (s.d, (s.fr.getD i default).no.toNat) ∧ (pgAt s.d (s.fr.getD i default).no.toNat).2 = true := by
  obtain ⟨⟨h1, _⟩, _, h2, h3, _⟩ := (sto_split s).1 h
  obtain ⟨c1, c2, _⟩ := (hdr_split s).1 h1
  unfold frmsOK at h3
  simp only [Bool.and_eq_true, Bool.not_eq_true', anyI_no] at h3
  have h4 := h3.1 i hi
  unfold frmBad at h4
  simp only [Bool.or_eq_false_iff, Bool.not_eq_false', inR, Bool.and_eq_true, decide_eq_true_eq, pgOK_iff] at h4
  obtain ⟨⟨⟨⟨⟨⟨q1, q2⟩, _⟩, q3⟩, _⟩, _⟩, _⟩ := h4
  refine ⟨q1, q2, q3, ⟨c1, by simp only; omega⟩, ?_⟩
  have h5 := h2 (s.fr.getD i default).no.toNat (by omega)
  unfold badPg at h5
  simp only [Bool.or_eq_false_iff, Bool.not_eq_false'] at h5
  exact h5.1
theorem beh_bad {s : Sto} (h : stoOK s = false) : behRes s = (false, 1) := by unfold behRes; rw [h]; rfl
theorem beh_no {s : Sto} (h : stoOK s = true) {i : Nat} (hi : i < s.fr.length) (hb : badBeh s i = true) : behRes s = (false, 0) := by
  unfold behRes
  rw [h, if_pos rfl, anyI_iff.2 ⟨i, hi, hb⟩]
  rfl
theorem beh_yes {s : Sto} (h : stoOK s = true) (hb : ∀ i, i < s.fr.length → badBeh s i = false) : behRes s = (true, 0) := by
  unfold behRes
  rw [h, if_pos rfl, anyI_no.2 hb]
  rfl
theorem PagesBehindi_ok : ConOk Try.prog 13 k_PagesBehindi := by
  rintro (s : Sto) hs
  obtain ⟨hd, hl, hf, hm⟩ := hs
  have hfr : s.fr.length < 1000000000000 := hf.1
  refine v_PagesBehindi s ⟨s, ⟨⟨⟨⟨rfl, rowsR _ _⟩, ⟨rfl, rowsR _ _⟩, rfl, ⟨rfl, rowsR _ _⟩, rfl, ⟨rfl, rowsR _ _⟩, rfl, ⟨rfl, rowsR _ _⟩, rfl, trivial⟩, trivial⟩, hd, hl, hf, hm⟩, fun h => ?_, fun h => ?_⟩
  · have h : stoOK s = false := (Bool.not_eq_true' _).mp h
    rw [beh_bad h]
    exact ⟨rfl, rfl, trivial⟩
  have h : stoOK s = true := (Bool.not_eq_false' _).mp h
  refine ⟨⟨cnt0, ⟨bref_le _, ⟨rfl, rowsR _ _⟩, rfl, rfl, trivial⟩, trivial⟩, fun x => ⟨fun hc => ?_, fun hc => ?_⟩⟩
  · have hlt := lt_of_dec hc
    rw [Int.toNat_natCast]
    obtain ⟨q1, q2, q3, q4, q5⟩ := sto_frame h hlt
    have e := (pgAtI_eq s.d (s.fr.getD x.val default).no.toNat).2 q5
    have hp := pgAt_ok q5
    refine ⟨inB_nat hlt, (s, (s.fr.getD x.val default).no.toNat), ⟨⟨⟨⟨rfl, rowsR _ _⟩, ⟨rfl, rowsR _ _⟩, rfl, ⟨rfl, rowsR _ _⟩, rfl, ⟨rfl, rowsR _ _⟩, rfl, ⟨rfl, rowsR _ _⟩, rfl, trivial⟩, by simp only; omega, trivial⟩, q4⟩, ((pgAt s.d (s.fr.getD x.val default).no.toNat).1.sl, (s.fr.getD x.val default).pg.sl), fun _ => ⟨⟨?_, ⟨rfl, rowsR _ _⟩, trivial⟩, by show (pgAt s.d (s.fr.getD x.val default).no.toNat).1.sl.length < 1000000000000; have := hp.2.2.1; omega⟩, fun hb => ?_, fun hb => ⟨add_rng hlt (by omega), x.succ hlt ?_, ⟨⟨bref_le _, ⟨rfl, rowsR _ _⟩, rfl, by simp only [Cnt.succ]; omega, trivial⟩, trivial⟩, Cnt.ext_lt hlt⟩⟩
    · simp only
      rw [e]
      exact ⟨rfl, rowsR _ _⟩
    · simp only at hb
      rw [e] at hb
      rw [beh_no h hlt hb]
      exact ⟨rfl, rfl, trivial⟩
    · simp only at hb
      rw [e] at hb
      exact hb
  · have hge := le_of_not hc
    rw [beh_yes h fun i hi => x.2.2 i (Nat.lt_of_lt_of_le hi hge)]
    exact ⟨rfl, rfl, trivial⟩
theorem PagesBehinds_ok : ConOk Try.prog 11 k_PagesBehinds := by
  rintro (s : Sto) hs
  obtain ⟨hd, hl, hf, hm⟩ := hs
  have hfr : s.fr.length < 1000000000000 := hf.1
  refine v_PagesBehinds s ⟨s, ⟨⟨⟨⟨rfl, rowsR _ _⟩, ⟨rfl, rowsR _ _⟩, rfl, ⟨rfl, rowsR _ _⟩, rfl, ⟨rfl, rowsR _ _⟩, rfl, ⟨rfl, rowsR _ _⟩, rfl, trivial⟩, trivial⟩, hd, hl, hf, hm⟩, fun h => ?_, fun h => ?_⟩
  · have h : stoOK s = false := (Bool.not_eq_true' _).mp h
    rw [beh_bad h]
    exact ⟨rfl, rfl, trivial⟩
  have h : stoOK s = true := (Bool.not_eq_false' _).mp h
  refine ⟨⟨cnt0, ⟨bref_le _, rfl, trivial⟩, trivial⟩, fun x => ⟨fun hc => ?_, fun hc => ?_⟩⟩
  · have hlt := lt_of_dec hc
    rw [Int.toNat_natCast]
    obtain ⟨q1, q2, q3, q4, q5⟩ := sto_frame h hlt
    have hp := pgAt_ok q5
    have step : badBeh s x.val = false → Rng .i64 ((x.val : Int) + 1) ∧ ∃ (y : Cnt s.fr.length (badBeh s)), ((TLe (fun _ => none) (T.bref s.ts) (T.bref s.ts) ∧ (x.val : Int) + 1 = (y.val : Int) ∧ True) ∧ True) ∧ Lt (s.fr.length - y.val) (s.fr.length - x.val) := fun hb =>
      ⟨add_rng hlt (by omega), x.succ hlt hb, ⟨⟨bref_le _, by simp only [Cnt.succ]; omega, trivial⟩, trivial⟩, Cnt.ext_lt hlt⟩
    have done : badBeh s x.val = true → false = (behRes s).1 ∧ (0 : Int) = (behRes s).2 ∧ True := fun hb => by
      rw [beh_no h hlt hb]
      exact ⟨rfl, rfl, trivial⟩
    refine ⟨inB_nat hlt, (s.d, (s.fr.getD x.val default).no.toNat), ⟨⟨⟨⟨rfl, rowsR _ _⟩, ⟨rfl, rowsR _ _⟩, rfl, ⟨rfl, rowsR _ _⟩, trivial⟩, by simp only; omega, trivial⟩, q4⟩, fun hy => ⟨fun hb => done ?_, fun hb => step ?_⟩, fun hy => ⟨((s.fr.getD x.val default).no, (pgAt s.d (s.fr.getD x.val default).no.toNat).1), ⟨⟨rfl, ⟨rfl, ⟨rfl, rowsR _ _⟩, trivial⟩, trivial⟩, hp⟩, ((s.fr.getD x.val default).no, (s.fr.getD x.val default).pg), ⟨⟨rfl, ⟨rfl, ⟨rfl, rowsR _ _⟩, trivial⟩, trivial⟩, q3⟩, fun hb => done ?_, fun hb => step ?_⟩⟩
    · unfold badBeh
      simp only
      rw [hy]
      simpa using hb
    · unfold badBeh
      simp only
      rw [hy]
      simpa using hb
    · unfold badBeh
      simp only
      rw [hy]
      have hn : ¬ pgBytes (s.fr.getD x.val default).no (pgAt s.d (s.fr.getD x.val default).no.toNat).1 = pgBytes (s.fr.getD x.val default).no (s.fr.getD x.val default).pg := by
        intro he
        simp only at hb
        rw [he] at hb
        simp at hb
      rw [pgBytes_inj hp q3] at hn
      unfold eqS
      simp only [Bool.not_false, Bool.true_and, Bool.false_and, Bool.or_false, Bool.not_eq_true', Bool.and_eq_false_iff, beq_eq_false_iff_ne, ne_eq, decide_eq_false_iff_not]
      by_cases h1 : (pgAt s.d (s.fr.getD x.val default).no.toNat).1.lsn = (s.fr.getD x.val default).pg.lsn
      · exact .inr fun h2 => hn ⟨h1, h2⟩
      · exact .inl h1
    · unfold badBeh
      simp only
      rw [hy]
      have hn : pgBytes (s.fr.getD x.val default).no (pgAt s.d (s.fr.getD x.val default).no.toNat).1 = pgBytes (s.fr.getD x.val default).no (s.fr.getD x.val default).pg := by
        simp only at hb
        have := (Bool.not_eq_false' _).mp hb
        exact eq_of_beq this
      rw [pgBytes_inj hp q3] at hn
      unfold eqS
      rw [hn.1, hn.2]
      simp
  · have hge := le_of_not hc
    rw [beh_yes h fun i hi => x.2.2 i (Nat.lt_of_lt_of_le hi hge)]
    exact ⟨rfl, rfl, trivial⟩
end Go.Proofs.Ytjbomnjmcbhadaa

