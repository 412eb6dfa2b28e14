/- A part of the proof of a law: what functions of the program compute, shown by a calculus of symbolic states. -/
import Derived.Test.YtjbomnjmcbhadaaGreatW4
namespace Go.Proofs.YtjbomnjmcbhadaaGreat
open Go.SS

-- worlds
structure Wrl where
  e : Eng
  ses : List Int
  op : List Chg
  done : List Chg
  doubt : List Chg
  lost : Bool
  deriving Inhabited
def Wrl.ts (w : Wrl) : List T := [strS w.e.s.d.sec, pendS w.e.s.d.cache, .bool w.e.s.d.armed, intS w.e.s.d.keep, .int .i64 w.e.s.ep, recS w.e.s.log, .int .i64 w.e.s.sure, frmS w.e.s.fr, .int .i64 w.e.s.hand, .bool w.e.up, txnS w.e.txs, lckS w.e.lk.held, wtS w.e.lk.waits, .int .i64 w.e.next,
  intS w.ses, chgS w.op, chgS w.done, chgS w.doubt, .bool w.lost]
abbrev EqW (a b : Wrl) : Prop := (a.e.s.d.sec.length = b.e.s.d.sec.length ∧ RowsEq a.e.s.d.sec.length (strRow a.e.s.d.sec) (strRow b.e.s.d.sec)) ∧ (a.e.s.d.cache.length = b.e.s.d.cache.length ∧ RowsEq a.e.s.d.cache.length (pendRow a.e.s.d.cache) (pendRow b.e.s.d.cache)) ∧ a.e.s.d.armed = b.e.s.d.armed ∧ (a.e.s.d.keep.length = b.e.s.d.keep.length ∧ RowsEq a.e.s.d.keep.length (intRow a.e.s.d.keep) (intRow b.e.s.d.keep)) ∧ a.e.s.ep = b.e.s.ep ∧ (a.e.s.log.length = b.e.s.log.length ∧ RowsEq a.e.s.log.length (recRow a.e.s.log) (recRow b.e.s.log)) ∧ a.e.s.sure = b.e.s.sure ∧ (a.e.s.fr.length = b.e.s.fr.length ∧ RowsEq a.e.s.fr.length (frmRow a.e.s.fr) (frmRow b.e.s.fr)) ∧ a.e.s.hand = b.e.s.hand ∧ a.e.up = b.e.up ∧ (a.e.txs.length = b.e.txs.length ∧ RowsEq a.e.txs.length (txnRow a.e.txs) (txnRow b.e.txs)) ∧ (a.e.lk.held.length = b.e.lk.held.length ∧ RowsEq a.e.lk.held.length (lckRow a.e.lk.held) (lckRow b.e.lk.held)) ∧ (a.e.lk.waits.length = b.e.lk.waits.length ∧ RowsEq a.e.lk.waits.length (wtRow a.e.lk.waits) (wtRow b.e.lk.waits)) ∧ a.e.next = b.e.next ∧ (a.ses.length = b.ses.length ∧ RowsEq a.ses.length (intRow a.ses) (intRow b.ses)) ∧ (a.op.length = b.op.length ∧ RowsEq a.op.length (chgRow a.op) (chgRow b.op)) ∧ (a.done.length = b.done.length ∧ RowsEq a.done.length (chgRow a.done) (chgRow b.done)) ∧ (a.doubt.length = b.doubt.length ∧ RowsEq a.doubt.length (chgRow a.doubt) (chgRow b.doubt)) ∧ a.lost = b.lost ∧ True
def wrlBox (w : Wrl) : Option Ob := some (.arr true 1000000 19 1 fun _ => w.ts)
def isI (L : List Int) (v : Int) (i : Nat) : Bool := v == L.getD i 0
def k_idxInt : Con := .rel ⟨List Int × Nat × Int, fun x => [.sl 1 x.2.1 (intRow x.1), .int .i64 x.2.2], fun x => .int .i64 (fstI x.2.1 (isI x.1 x.2.2)), fun x => Len x.2.1⟩
def A_idxInt (L : List Int) (n : Nat) (v : Int) : Nat → Ann
  | 0 => .one (Cnt n (isI L v)) (fun x => ⟨[(0, .sl 1 n (intRow L)), (1, .int .i64 v), (7, .int .i64 n), (8, .int .i64 x.1)], []⟩) (fun x => n - x.1) [] [] (fun _ => noAnn)
  | _ => .none
noncomputable def b_idxInt : Code := Tryz.f272.body.getD .skip
theorem call_idxInt : Callable Tryz.prog 272 := ⟨_, Tryz.func272, by kernel_rfl, by kernel_rfl⟩
set_option maxRecDepth 100000 in
theorem v_idxInt (L : List Int) (n : Nat) (v : Int) (h :
    (∃ (x : Cnt n (isI L v)), ((n = n ∧ RowsEq n (intRow L) (intRow L)) ∧ v = v ∧ (n:Int) = (n:Int) ∧ (0 : Int) = (x.val:Int) ∧ True) ∧ True) ∧ ∀ (x : Cnt n (isI L v)), (decide ((x.val:Int) < (n:Int)) = true → InB (x.val:Int) n ∧ ((v
    == L.getD (x.val:Int).toNat (0 : Int)) = true → (x.val:Int) = fstI n (isI L v)) ∧ ((v == L.getD (x.val:Int).toNat (0 : Int)) = false → Rng .i64 ((x.val:Int) + (1 : Int)) ∧ ∃ (y : Cnt n (isI L v)), (((n = n ∧ RowsEq n (intRow L)
    (intRow L)) ∧ v = v ∧ (n:Int) = (n:Int) ∧ (x.val:Int) + (1 : Int) = (y.val:Int) ∧ True) ∧ True) ∧ Lt (n - y.val) (n - x.val))) ∧ (decide ((x.val:Int) < (n:Int)) = false → (-1 : Int) = fstI n (isI L v))) :
    PureFn Tryz.prog 272 [.sl 1 n (intRow L), .int .i64 v] (.int .i64 (fstI n (isI L v))) :=
  fn_vc mixed nil_ok nil_call Tryz.func272 (by kernel_rfl) (leB (by kernel_rfl)) (A_idxInt L n v) (Eq.mp (β := vcFn Tryz.prog [] Tryz.f272.ntmps Tryz.f272.results.toList b_idxInt [.sl 1 n (intRow L), .int .i64 v] (.int .i64 (fstI n (isI L v))) (A_idxInt L n v)) (by kernel_rfl) h)
theorem idxInt_ok : ConOk Tryz.prog 272 k_idxInt := by
  rintro ⟨L, n, v⟩ (hL : n < 1000000000000)
  refine v_idxInt L n v ⟨⟨cnt0, ⟨⟨rfl, rowsR _ _⟩, rfl, rfl, rfl, trivial⟩, trivial⟩, fun x => ⟨fun hc => ?_, fun hc => ?_⟩⟩
  · have hlt := lt_of_dec hc
    exact ⟨inB_nat hlt, fun hp => (fstI_at hlt hp x.2.2).symm, fun hp => ⟨add_rng hlt (by omega), x.succ hlt hp, ⟨⟨⟨rfl, rowsR _ _⟩, rfl, rfl, by simp only [Cnt.succ]; omega, trivial⟩, trivial⟩, Cnt.ext_lt hlt⟩⟩
  · have hge := le_of_not hc
    exact (fstI_no fun j hj => x.2.2 j (Nat.lt_of_lt_of_le hj hge)).symm
def k_hasInt : Con := .rel ⟨List Int × Nat × Int, fun x => [.sl 1 x.2.1 (intRow x.1), .int .i64 x.2.2], fun x => .bool (anyI x.2.1 (isI x.1 x.2.2)), fun x => Len x.2.1⟩
noncomputable def b_hasInt : Code := Tryz.f202.body.getD .skip
theorem call_hasInt : Callable Tryz.prog 202 := ⟨_, Tryz.func202, by kernel_rfl, by kernel_rfl⟩
set_option maxRecDepth 100000 in
theorem v_hasInt (L : List Int) (n : Nat) (v : Int) (h :
    ∃ (x : (List Int × Nat × Int)), (((n = x.snd.fst ∧ RowsEq n (intRow L) (intRow x.fst)) ∧ v = x.snd.snd ∧ True) ∧ Len x.snd.fst) ∧ decide (fstI x.snd.fst (isI x.fst x.snd.snd) ≥ (0 : Int)) = anyI n (isI L v)) :
    PureFn Tryz.prog 202 [.sl 1 n (intRow L), .int .i64 v] (.bool (anyI n (isI L v))) :=
  fn_vc mixed (cons_ok idxInt_ok nil_ok) (cons_call call_idxInt nil_call) Tryz.func202 (by kernel_rfl) (leB (by kernel_rfl)) noAnn (Eq.mp (β := vcFn Tryz.prog [(272, k_idxInt)] Tryz.f202.ntmps Tryz.f202.results.toList b_hasInt [.sl 1 n (intRow L), .int .i64 v] (.bool (anyI n (isI L v))) noAnn) (by kernel_rfl) h)
theorem hasInt_ok : ConOk Tryz.prog 202 k_hasInt := fun x hL => v_hasInt x.1 x.2.1 x.2.2 ⟨x, ⟨⟨⟨rfl, rowsR _ _⟩, rfl, trivial⟩, hL⟩, anyI_fst _ _⟩
def badSes (w : Wrl) (i : Nat) : Bool := (w.ses.getD i 0 != 0) && (decide (txAt w.e.txs (w.ses.getD i 0) < 0) || anyI i (isI w.ses (w.ses.getD i 0)))
def nzS (L : List Int) : Nat → Nat
  | 0 => 0
  | k + 1 => nzS L k + (if L.getD k 0 = 0 then 0 else 1)
def sesOK (w : Wrl) : Bool := !anyI w.ses.length (badSes w) && (decide (w.ses.length = 3) && decide (nzS w.ses w.ses.length = w.e.txs.length))
def SesL (w : Wrl) : Prop := Len w.ses.length ∧ Len w.e.txs.length
def k_sessionsOK : Con := .rel ⟨Wrl, fun w => [.bref w.ts], fun w => .bool (sesOK w), SesL⟩
def A_sessionsOK (w : Wrl) : Nat → Ann
  | 0 => .one (Cnt w.ses.length (badSes w)) (fun x => ⟨[(0, .bref w.ts), (3, .int .i64 (nzS w.ses x.1)), (9, intS w.ses), (10, .int .i64 w.ses.length), (11, .int .i64 x.1)], []⟩) (fun x => w.ses.length - x.1) [] [] (fun _ => noAnn)
  | _ => .none
noncomputable def b_sessionsOK : Code := Tryz.f123.body.getD .skip
theorem call_sessionsOK : Callable Tryz.prog 123 := ⟨_, Tryz.func123, by kernel_rfl, by kernel_rfl⟩
set_option maxRecDepth 100000 in
theorem v_sessionsOK (w : Wrl) (h :
    (∃ (x : Cnt w.ses.length (badSes w)), (TLe (fun (x : Nat) => none) (T.bref w.ts) (T.bref w.ts) ∧ (0 : Int) = (↑(nzS w.ses x.val) : Int) ∧ (w.ses.length = w.ses.length ∧ RowsEq w.ses.length (intRow w.ses) (intRow w.ses)) ∧
    (w.ses.length:Int) = (w.ses.length:Int) ∧ (0 : Int) = (x.val:Int) ∧ True) ∧ True) ∧ ∀ (x : Cnt w.ses.length (badSes w)), (decide ((x.val:Int) < (w.ses.length:Int)) = true → InB (x.val:Int) w.ses.length ∧ ((w.ses.getD
    (x.val:Int).toNat (0 : Int) == (0 : Int)) = true → Rng .i64 ((x.val:Int) + (1 : Int)) ∧ ∃ (y : Cnt w.ses.length (badSes w)), ((TLe (fun (x : Nat) => none) (T.bref w.ts) (T.bref w.ts) ∧ (↑(nzS w.ses x.val) : Int) = (↑(nzS w.ses
    y.val) : Int) ∧ (w.ses.length = w.ses.length ∧ RowsEq w.ses.length (intRow w.ses) (intRow w.ses)) ∧ (w.ses.length:Int) = (w.ses.length:Int) ∧ (x.val:Int) + (1 : Int) = (y.val:Int) ∧ True) ∧ True) ∧ Lt (w.ses.length - y.val)
    (w.ses.length - x.val)) ∧ ((w.ses.getD (x.val:Int).toNat (0 : Int) == (0 : Int)) = false → ∃ (x_1 : (Eng × Int)), (((EqG w.e x_1.fst) ∧ w.ses.getD (x.val:Int).toNat (0 : Int) = x_1.snd ∧ True) ∧ Len x_1.fst.txs.length) ∧ (decide
    (txAt x_1.fst.txs x_1.snd < (0 : Int)) = false → InC (x.val:Int) w.ses.length) ∧ ∃ (x_2 : (List Int × Nat × Int)), (decide (txAt x_1.fst.txs x_1.snd < (0 : Int)) = false → (((x.val:Int).toNat = x_2.snd.fst ∧ RowsEq
    (x.val:Int).toNat (intRow w.ses) (intRow x_2.fst)) ∧ w.ses.getD (x.val:Int).toNat (0 : Int) = x_2.snd.snd ∧ True) ∧ Len x_2.snd.fst) ∧ ((decide (txAt x_1.fst.txs x_1.snd < (0 : Int)) || anyI x_2.snd.fst (isI x_2.fst x_2.snd.snd))
    = true → false = sesOK w) ∧ ((decide (txAt x_1.fst.txs x_1.snd < (0 : Int)) || anyI x_2.snd.fst (isI x_2.fst x_2.snd.snd)) = false → Rng .i64 ((↑(nzS w.ses x.val) : Int) + (1 : Int)) ∧ Rng .i64 ((x.val:Int) + (1 : Int)) ∧ ∃ (y :
    Cnt w.ses.length (badSes w)), ((TLe (fun (x : Nat) => none) (T.bref w.ts) (T.bref w.ts) ∧ (↑(nzS w.ses x.val) : Int) + (1 : Int) = (↑(nzS w.ses y.val) : Int) ∧ (w.ses.length = w.ses.length ∧ RowsEq w.ses.length (intRow w.ses)
    (intRow w.ses)) ∧ (w.ses.length:Int) = (w.ses.length:Int) ∧ (x.val:Int) + (1 : Int) = (y.val:Int) ∧ True) ∧ True) ∧ Lt (w.ses.length - y.val) (w.ses.length - x.val)))) ∧ (decide ((x.val:Int) < (w.ses.length:Int)) = false →
    ((w.ses.length:Int) == (3 : Int) && (↑(nzS w.ses x.val) : Int) == (w.e.txs.length:Int)) = sesOK w)) :
    PureFn Tryz.prog 123 [.bref w.ts] (.bool (sesOK w)) :=
  fn_vc mixed (cons_ok txAt_ok (cons_ok hasInt_ok nil_ok)) (cons_call call_txAt (cons_call call_hasInt nil_call)) Tryz.func123 (by kernel_rfl) (leB (by kernel_rfl)) (A_sessionsOK w) (Eq.mp (β := vcFn Tryz.prog [(201, k_txAt), (202, k_hasInt)] Tryz.f123.ntmps Tryz.f123.results.toList b_sessionsOK [.bref w.ts] (.bool (sesOK w)) (A_sessionsOK w)) (by kernel_rfl) h)
theorem nzS_le (L : List Int) : ∀ k, nzS L k ≤ k := by
  intro k
  induction k with
  | zero => exact Nat.le_refl 0
  | succ k ih => unfold nzS; split <;> omega
theorem nzS_z {L : List Int} {k : Nat} (h : L.getD k 0 = 0) : nzS L (k + 1) = nzS L k := by
  conv => lhs; unfold nzS
  rw [if_pos h]
  rfl
theorem nzS_n {L : List Int} {k : Nat} (h : L.getD k 0 ≠ 0) : nzS L (k + 1) = nzS L k + 1 := by conv => lhs; unfold nzS; rw [if_neg h]
theorem ses_z {w : Wrl} {i : Nat} (h : w.ses.getD i 0 = 0) : badSes w i = false := by unfold badSes; rw [h]; rfl
theorem ses_n {w : Wrl} {i : Nat} (h : w.ses.getD i 0 ≠ 0) : badSes w i = (decide (txAt w.e.txs (w.ses.getD i 0) < 0) || anyI i (isI w.ses (w.ses.getD i 0))) := by
  unfold badSes
  rw [show (w.ses.getD i 0 != 0) = true from bne_iff_ne.2 h, Bool.true_and]
theorem ses_bad {w : Wrl} {i : Nat} (hi : i < w.ses.length) (h : badSes w i = true) : sesOK w = false := by
  have : anyI w.ses.length (badSes w) = true := anyI_iff.2 ⟨i, hi, h⟩
  unfold sesOK
  rw [this]
  rfl
theorem beq_ne {a b : Int} (h : (a == b) = false) : a ≠ b := fun e => by rw [e] at h; simp at h
theorem sessionsOK_ok : ConOk Tryz.prog 123 k_sessionsOK := by
  rintro (w : Wrl) ⟨hs, ht⟩
  have hs : w.ses.length < 1000000000000 := hs
  refine v_sessionsOK w ⟨⟨cnt0, ⟨bref_le _, rfl, ⟨rfl, rowsR _ _⟩, rfl, rfl, trivial⟩, trivial⟩, fun x => ⟨fun hc => ?_, fun hc => ?_⟩⟩
  · have hlt := lt_of_dec hc
    have hn := nzS_le w.ses x.val
    refine ⟨inB_nat hlt, fun hz => ?_, fun hz => ?_⟩
    · have hz : w.ses.getD x.val 0 = 0 := beq_iff_eq.1 hz
      exact ⟨add_rng hlt (by omega), x.succ hlt (ses_z hz), ⟨⟨bref_le _, congrArg Nat.cast (nzS_z hz).symm, ⟨rfl, rowsR _ _⟩, rfl, by simp only [Cnt.succ]; omega, trivial⟩, trivial⟩, Cnt.ext_lt hlt⟩
    · have hz : w.ses.getD x.val 0 ≠ 0 := beq_ne hz
      refine ⟨(w.e, w.ses.getD x.val 0), ⟨⟨⟨⟨(by trivial), rowsR _ _⟩, ⟨(by trivial), rowsR _ _⟩, (by trivial), ⟨(by trivial), rowsR _ _⟩, (by trivial), ⟨(by trivial), rowsR _ _⟩, (by trivial), ⟨(by trivial), rowsR _ _⟩, (by trivial), (by trivial), ⟨(by trivial), rowsR _ _⟩, ⟨(by trivial), rowsR _ _⟩, ⟨(by trivial), rowsR _ _⟩, (by trivial), trivial⟩, rfl, trivial⟩, ht⟩, fun _ => ⟨by omega, by omega⟩, (w.ses, x.val, w.ses.getD x.val 0), fun _ => ⟨⟨⟨by dsimp only; omega, rowsR _ _⟩, rfl, trivial⟩, by show x.val < 1000000000000; omega⟩, fun hq => ?_, fun hq => ⟨i64_rng (by omega), add_rng hlt (by omega), x.succ hlt ((ses_n hz).trans hq), ⟨⟨bref_le _, ?_, ⟨rfl, rowsR _ _⟩, rfl, by simp only [Cnt.succ]; omega, trivial⟩, trivial⟩, Cnt.ext_lt hlt⟩⟩
      · exact (ses_bad hlt ((ses_n hz).trans hq)).symm
      · show ((nzS w.ses x.val : Nat) : Int) + 1 = (nzS w.ses (x.val + 1) : Nat)
        rw [nzS_n hz]
        omega
  · have hge := le_of_not hc
    have e1 : anyI w.ses.length (badSes w) = false := anyI_no.2 fun i hi => x.2.2 i (Nat.lt_of_lt_of_le hi hge)
    have hx : x.val = w.ses.length := by have := x.2.1; omega
    unfold sesOK
    rw [e1, hx, Bool.eq_iff_iff]
    simp only [Bool.not_false, Bool.true_and, Bool.and_eq_true, beq_iff_eq, decide_eq_true_eq]
    omega
noncomputable def wrlOK (w : Wrl) : Bool := engOK w.e && sesOK w && chgsOK w.op && chgsOK w.done && chgsOK w.doubt
def WrlB (w : Wrl) : Prop := EngB w.e ∧ Len w.ses.length ∧ ChB w.op ∧ ChB w.done ∧ ChB w.doubt
noncomputable def r_WorldOK : Rl := ⟨Wrl, fun w => [.agg w.ts], fun w => .bool (wrlOK w), WrlB⟩
noncomputable def k_WorldOKi : Con := .rel r_WorldOK
noncomputable def k_WorldOKs : Con := .rel r_WorldOK
noncomputable def b_WorldOKi : Code := Tryz.f53.body.getD .skip
theorem call_WorldOKi : Callable Tryz.prog 53 := ⟨_, Tryz.func53, by kernel_rfl, by kernel_rfl⟩
set_option maxRecDepth 100000 in
theorem v_WorldOKi (w : Wrl) (h :
    ∃ (x : r_EngineOK.ι), (((EqG w.e x) ∧ True) ∧ EngB x) ∧ ∃ (x_1 : Wrl), (engOK x = true → ((EqW w x_1) ∧ True) ∧ SesL x_1) ∧ ∃ (x_2 : r_changesOK.ι), ((engOK x && sesOK x_1) = true → ((w.op.length = List.length x_2 ∧ RowsEq
    w.op.length (chgRow w.op) (chgRow x_2)) ∧ True) ∧ ChB x_2) ∧ ∃ (x_3 : r_changesOK.ι), ((engOK x && sesOK x_1 && chgsOK x_2) = true → ((w.done.length = List.length x_3 ∧ RowsEq w.done.length (chgRow w.done) (chgRow x_3)) ∧ True) ∧
    ChB x_3) ∧ ∃ (x_4 : r_changesOK.ι), ((engOK x && sesOK x_1 && chgsOK x_2 && chgsOK x_3) = true → ((w.doubt.length = List.length x_4 ∧ RowsEq w.doubt.length (chgRow w.doubt) (chgRow x_4)) ∧ True) ∧ ChB x_4) ∧ (engOK x && sesOK x_1
    && chgsOK x_2 && chgsOK x_3 && chgsOK x_4) = wrlOK w) :
    PureFn Tryz.prog 53 [.agg w.ts] (.bool (wrlOK w)) :=
  fn_vc mixed (cons_ok EngineOKi_ok (cons_ok sessionsOK_ok (cons_ok changesOK_ok nil_ok))) (cons_call call_EngineOKi (cons_call call_sessionsOK (cons_call call_changesOK nil_call))) Tryz.func53 (by kernel_rfl) (leB (by kernel_rfl)) noAnn (Eq.mp (β := vcFn Tryz.prog [(112, k_EngineOKi), (123, k_sessionsOK), (124, k_changesOK)] Tryz.f53.ntmps Tryz.f53.results.toList b_WorldOKi [.agg w.ts] (.bool (wrlOK w)) noAnn) (by kernel_rfl) h)
theorem WorldOKi_ok : ConOk Tryz.prog 53 k_WorldOKi := by
  rintro (w : Wrl) ⟨h1, h2, h3, h4, h5⟩
  exact v_WorldOKi w ⟨w.e, ⟨⟨⟨⟨(by trivial), rowsR _ _⟩, ⟨(by trivial), rowsR _ _⟩, (by trivial), ⟨(by trivial), rowsR _ _⟩, (by trivial), ⟨(by trivial), rowsR _ _⟩, (by trivial), ⟨(by trivial), rowsR _ _⟩, (by trivial), (by trivial), ⟨(by trivial), rowsR _ _⟩, ⟨(by trivial), rowsR _ _⟩, ⟨(by trivial), rowsR _ _⟩, (by trivial), trivial⟩, trivial⟩, h1⟩, w, fun _ => ⟨⟨⟨⟨(by trivial), rowsR _ _⟩, ⟨(by trivial), rowsR _ _⟩, (by trivial), ⟨(by trivial), rowsR _ _⟩, (by trivial), ⟨(by trivial), rowsR _ _⟩, (by trivial), ⟨(by trivial), rowsR _ _⟩, (by trivial), (by trivial), ⟨(by trivial), rowsR _ _⟩, ⟨(by trivial), rowsR _ _⟩, ⟨(by trivial), rowsR _ _⟩, (by trivial), ⟨(by trivial), rowsR _ _⟩, ⟨(by trivial), rowsR _ _⟩, ⟨(by trivial), rowsR _ _⟩, ⟨(by trivial), rowsR _ _⟩, (by trivial), trivial⟩, trivial⟩, h2, h1.2.2⟩, w.op, fun _ => ⟨⟨⟨rfl, rowsR _ _⟩, trivial⟩, h3⟩, w.done, fun _ => ⟨⟨⟨rfl, rowsR _ _⟩, trivial⟩, h4⟩, w.doubt, fun _ => ⟨⟨⟨rfl, rowsR _ _⟩, trivial⟩, h5⟩, rfl⟩
def A_WorldOKs (w : Wrl) : Nat → Ann
  | 0 => .one (Cnt 3 (badSes w)) (fun x => ⟨[(1, .ref 0 0 0), (3, .int .i64 (nzS w.ses x.1)), (4, .int .i64 x.1)], [wrlBox w]⟩) (fun x => 3 - x.1) [.box 0] [.box 0] (fun x => fun
    | 1 => .one (Cnt x.1 (isI w.ses (w.ses.getD x.1 0))) (fun y => ⟨[(1, .ref 0 0 0), (3, .int .i64 (nzS w.ses (x.1 + 1))), (4, .int .i64 x.1), (5, .int .i64 y.1)], [wrlBox w]⟩) (fun y => x.1 - y.1) [.box 0] [.box 0] (fun _ => noAnn)
    | _ => .none)
  | _ => .none
noncomputable def b_WorldOKs : Code := Tryz.f51.body.getD .skip
theorem call_WorldOKs : Callable Tryz.prog 51 := ⟨_, Tryz.func51, by kernel_rfl, by kernel_rfl⟩
set_option maxRecDepth 100000 in
theorem v_WorldOKs (w : Wrl) (h :
    ∃ (x : r_EngineOK.ι), (((EqG w.e x) ∧ True) ∧ EngB x) ∧ ∃ (x_1 : r_changesOK.ι), ((!engOK x || (w.ses.length:Int) != (3 : Int)) = false → ((w.op.length = List.length x_1 ∧ RowsEq w.op.length (chgRow w.op) (chgRow x_1)) ∧ True) ∧
    ChB x_1) ∧ ∃ (x_2 : r_changesOK.ι), ((!engOK x || (w.ses.length:Int) != (3 : Int) || !chgsOK x_1) = false → ((w.done.length = List.length x_2 ∧ RowsEq w.done.length (chgRow w.done) (chgRow x_2)) ∧ True) ∧ ChB x_2) ∧ ∃ (x_3 :
    r_changesOK.ι), ((!engOK x || (w.ses.length:Int) != (3 : Int) || !chgsOK x_1 || !chgsOK x_2) = false → ((w.doubt.length = List.length x_3 ∧ RowsEq w.doubt.length (chgRow w.doubt) (chgRow x_3)) ∧ True) ∧ ChB x_3) ∧ ((!engOK x ||
    (w.ses.length:Int) != (3 : Int) || !chgsOK x_1 || !chgsOK x_2 || !chgsOK x_3) = true → false = wrlOK w) ∧ ((!engOK x || (w.ses.length:Int) != (3 : Int) || !chgsOK x_1 || !chgsOK x_2 || !chgsOK x_3) = false → (∃ (x : Cnt (3 : Nat)
    (badSes w)), ((0 = 0 ∧ 0 = 0) ∧ (0 : Int) = (↑(nzS w.ses x.val) : Int) ∧ (0 : Int) = (x.val:Int) ∧ True) ∧ (1 = 1 ∧ 1 = 1 ∧ EqW w w) ∧ True) ∧ ∀ (x : Cnt (3 : Nat) (badSes w)), (decide ((x.val:Int) < (3 : Int)) = true → InB
    (x.val:Int) w.ses.length ∧ ((w.ses.getD (x.val:Int).toNat (0 : Int) == (0 : Int)) = true → Rng .i64 ((x.val:Int) + (1 : Int)) ∧ ∃ (y : Cnt (3 : Nat) (badSes w)), (((0 = 0 ∧ 0 = 0) ∧ (↑(nzS w.ses x.val) : Int) = (↑(nzS w.ses y.val)
    : Int) ∧ (x.val:Int) + (1 : Int) = (y.val:Int) ∧ True) ∧ (1 = 1 ∧ 1 = 1 ∧ EqW w w) ∧ True) ∧ Lt ((3 : Nat) - y.val) ((3 : Nat) - x.val)) ∧ ((w.ses.getD (x.val:Int).toNat (0 : Int) == (0 : Int)) = false → Rng .i64 ((↑(nzS w.ses
    x.val) : Int) + (1 : Int)) ∧ InB (x.val:Int) w.ses.length ∧ ∃ (x_4 : (Eng × Int)), (((EqG w.e x_4.fst) ∧ w.ses.getD (x.val:Int).toNat (0 : Int) = x_4.snd ∧ True) ∧ Len x_4.fst.txs.length) ∧ (decide (txAt x_4.fst.txs x_4.snd < (0 :
    Int)) = true → false = wrlOK w) ∧ (decide (txAt x_4.fst.txs x_4.snd < (0 : Int)) = false → (∃ (x_5 : Cnt x.val (isI w.ses (w.ses.getD x.val (0 : Int)))), ((0 = 0 ∧ 0 = 0) ∧ (↑(nzS w.ses x.val) : Int) + (1 : Int) = (↑(nzS w.ses
    (x.val + (1 : Nat))) : Int) ∧ (x.val:Int) = (x.val:Int) ∧ (0 : Int) = (x_5.val:Int) ∧ True) ∧ (1 = 1 ∧ 1 = 1 ∧ EqW w w) ∧ True) ∧ ∀ (x_5 : Cnt x.val (isI w.ses (w.ses.getD x.val (0 : Int)))), (decide ((x_5.val:Int) < (x.val:Int))
    = true → InB (x_5.val:Int) w.ses.length ∧ InB (x.val:Int) w.ses.length ∧ ((w.ses.getD (x_5.val:Int).toNat (0 : Int) == w.ses.getD (x.val:Int).toNat (0 : Int)) = true → false = wrlOK w) ∧ ((w.ses.getD (x_5.val:Int).toNat (0 : Int)
    == w.ses.getD (x.val:Int).toNat (0 : Int)) = false → Rng .i64 ((x_5.val:Int) + (1 : Int)) ∧ ∃ (y : Cnt x.val (isI w.ses (w.ses.getD x.val (0 : Int)))), (((0 = 0 ∧ 0 = 0) ∧ (↑(nzS w.ses (x.val + (1 : Nat))) : Int) = (↑(nzS w.ses
    (x.val + (1 : Nat))) : Int) ∧ (x.val:Int) = (x.val:Int) ∧ (x_5.val:Int) + (1 : Int) = (y.val:Int) ∧ True) ∧ (1 = 1 ∧ 1 = 1 ∧ EqW w w) ∧ True) ∧ Lt (x.val - y.val) (x.val - x_5.val))) ∧ (decide ((x_5.val:Int) < (x.val:Int)) = false
    → Rng .i64 ((x.val:Int) + (1 : Int)) ∧ ∃ (y : Cnt (3 : Nat) (badSes w)), (((0 = 0 ∧ 0 = 0) ∧ (↑(nzS w.ses (x.val + (1 : Nat))) : Int) = (↑(nzS w.ses y.val) : Int) ∧ (x.val:Int) + (1 : Int) = (y.val:Int) ∧ True) ∧ (1 = 1 ∧ 1 = 1 ∧
    EqW w w) ∧ True) ∧ Lt ((3 : Nat) - y.val) ((3 : Nat) - x.val))))) ∧ (decide ((x.val:Int) < (3 : Int)) = false → ((↑(nzS w.ses x.val) : Int) == (w.e.txs.length:Int)) = wrlOK w))) :
    PureFn Tryz.prog 51 [.agg w.ts] (.bool (wrlOK w)) :=
  fn_vc mixed (cons_ok EngineOKs_ok (cons_ok l14Changes_ok (cons_ok l07Tx_ok nil_ok))) (cons_call call_EngineOKs (cons_call call_l14Changes (cons_call call_l07Tx nil_call))) Tryz.func51 (by kernel_rfl) (leB (by kernel_rfl)) (A_WorldOKs w) (Eq.mp (β := vcFn Tryz.prog [(108, k_EngineOKs), (119, k_l14Changes), (120, k_l07Tx)] Tryz.f51.ntmps Tryz.f51.results.toList b_WorldOKs [.agg w.ts] (.bool (wrlOK w)) (A_WorldOKs w)) (by kernel_rfl) h)
theorem isI_symm (L : List Int) (v : Int) (i : Nat) : (L.getD i 0 == v) = isI L v i := by
  unfold isI
  rw [Bool.eq_iff_iff, beq_iff_eq, beq_iff_eq]
  exact eq_comm
theorem WorldOKs_ok : ConOk Tryz.prog 51 k_WorldOKs := by
  rintro (w : Wrl) ⟨h1, h2, h3, h4, h5⟩
  refine v_WorldOKs w ⟨w.e, ⟨⟨⟨⟨(by trivial), rowsR _ _⟩, ⟨(by trivial), rowsR _ _⟩, (by trivial), ⟨(by trivial), rowsR _ _⟩, (by trivial), ⟨(by trivial), rowsR _ _⟩, (by trivial), ⟨(by trivial), rowsR _ _⟩, (by trivial), (by trivial), ⟨(by trivial), rowsR _ _⟩, ⟨(by trivial), rowsR _ _⟩, ⟨(by trivial), rowsR _ _⟩, (by trivial), trivial⟩, trivial⟩, h1⟩, w.op, fun _ => ⟨⟨⟨rfl, rowsR _ _⟩, trivial⟩, h3⟩, w.done, fun _ => ⟨⟨⟨rfl, rowsR _ _⟩, trivial⟩, h4⟩, w.doubt, fun _ => ⟨⟨⟨rfl, rowsR _ _⟩, trivial⟩, h5⟩, fun hq => ?_, fun hq => ?_⟩
  · simp only [Bool.or_eq_true, Bool.not_eq_true', bne_iff_ne] at hq
    unfold wrlOK
    rcases hq with (((hq | hq) | hq) | hq) | hq
    · rw [hq]; rfl
    · have : sesOK w = false := by
        unfold sesOK
        rw [decide_eq_false (p := w.ses.length = 3) (by omega)]
        simp
      rw [this]
      simp
    · rw [hq]; simp
    · rw [hq]; simp
    · rw [hq]; simp
  simp only [Bool.or_eq_false_iff, Bool.not_eq_false', bne_eq_false_iff_eq] at hq
  obtain ⟨⟨⟨⟨q1, q2⟩, q3⟩, q4⟩, q5⟩ := hq
  have h3 : w.ses.length = 3 := by omega
  have eo : wrlOK w = sesOK w := by unfold wrlOK; rw [q1, q3, q4, q5]; simp
  rw [eo]
  refine ⟨⟨cnt0, ⟨⟨rfl, rfl⟩, rfl, rfl, trivial⟩, ⟨rfl, rfl, ⟨(by trivial), rowsR _ _⟩, ⟨(by trivial), rowsR _ _⟩, (by trivial), ⟨(by trivial), rowsR _ _⟩, (by trivial), ⟨(by trivial), rowsR _ _⟩, (by trivial), ⟨(by trivial), rowsR _ _⟩, (by trivial), (by trivial), ⟨(by trivial), rowsR _ _⟩, ⟨(by trivial), rowsR _ _⟩, ⟨(by trivial), rowsR _ _⟩, (by trivial), ⟨(by trivial), rowsR _ _⟩, ⟨(by trivial), rowsR _ _⟩, ⟨(by trivial), rowsR _ _⟩, ⟨(by trivial), rowsR _ _⟩, (by trivial), trivial⟩, trivial⟩, fun x => ⟨fun hc => ?_, fun hc => ?_⟩⟩
  · have hlt : x.val < 3 := by have := of_decide_eq_true hc; omega
    have hls : x.val < w.ses.length := by omega
    have hn := nzS_le w.ses x.val
    refine ⟨inB_nat hls, fun hz => ?_, fun hz => ?_⟩
    · have hz : w.ses.getD x.val 0 = 0 := beq_iff_eq.1 hz
      exact ⟨i64_rng (by omega), x.succ hlt (ses_z hz), ⟨⟨⟨rfl, rfl⟩, congrArg Nat.cast (nzS_z hz).symm, by simp only [Cnt.succ]; omega, trivial⟩, ⟨rfl, rfl, ⟨(by trivial), rowsR _ _⟩, ⟨(by trivial), rowsR _ _⟩, (by trivial), ⟨(by trivial), rowsR _ _⟩, (by trivial), ⟨(by trivial), rowsR _ _⟩, (by trivial), ⟨(by trivial), rowsR _ _⟩, (by trivial), (by trivial), ⟨(by trivial), rowsR _ _⟩, ⟨(by trivial), rowsR _ _⟩, ⟨(by trivial), rowsR _ _⟩, (by trivial), ⟨(by trivial), rowsR _ _⟩, ⟨(by trivial), rowsR _ _⟩, ⟨(by trivial), rowsR _ _⟩, ⟨(by trivial), rowsR _ _⟩, (by trivial), trivial⟩, trivial⟩, Cnt.ext_lt hlt⟩
    · have hz : w.ses.getD x.val 0 ≠ 0 := beq_ne hz
      refine ⟨i64_rng (by omega), inB_nat hls, (w.e, w.ses.getD x.val 0), ⟨⟨⟨⟨(by trivial), rowsR _ _⟩, ⟨(by trivial), rowsR _ _⟩, (by trivial), ⟨(by trivial), rowsR _ _⟩, (by trivial), ⟨(by trivial), rowsR _ _⟩, (by trivial), ⟨(by trivial), rowsR _ _⟩, (by trivial), (by trivial), ⟨(by trivial), rowsR _ _⟩, ⟨(by trivial), rowsR _ _⟩, ⟨(by trivial), rowsR _ _⟩, (by trivial), trivial⟩, rfl, trivial⟩, h1.2.2⟩, fun hq => ?_, fun hq => ⟨⟨cnt0, ⟨⟨rfl, rfl⟩, ?_, rfl, rfl, trivial⟩, ⟨rfl, rfl, ⟨(by trivial), rowsR _ _⟩, ⟨(by trivial), rowsR _ _⟩, (by trivial), ⟨(by trivial), rowsR _ _⟩, (by trivial), ⟨(by trivial), rowsR _ _⟩, (by trivial), ⟨(by trivial), rowsR _ _⟩, (by trivial), (by trivial), ⟨(by trivial), rowsR _ _⟩, ⟨(by trivial), rowsR _ _⟩, ⟨(by trivial), rowsR _ _⟩, (by trivial), ⟨(by trivial), rowsR _ _⟩, ⟨(by trivial), rowsR _ _⟩, ⟨(by trivial), rowsR _ _⟩, ⟨(by trivial), rowsR _ _⟩, (by trivial), trivial⟩, trivial⟩, fun y => ⟨fun hy => ?_, fun hy => ?_⟩⟩⟩
      · refine (ses_bad hls ((ses_n hz).trans ?_)).symm
        have hq : decide (txAt w.e.txs (w.ses.getD x.val 0) < 0) = true := hq
        rw [hq]
        rfl
      · rw [nzS_n hz]
        omega
      · have hyt := lt_of_dec hy
        rw [Int.toNat_natCast, Int.toNat_natCast, isI_symm]
        refine ⟨inB_nat (by omega), inB_nat hls, fun hp => ?_, fun hp => ⟨i64_rng (by omega), y.succ hyt hp, ⟨⟨⟨rfl, rfl⟩, rfl, rfl, by simp only [Cnt.succ]; omega, trivial⟩, ⟨rfl, rfl, ⟨(by trivial), rowsR _ _⟩, ⟨(by trivial), rowsR _ _⟩, (by trivial), ⟨(by trivial), rowsR _ _⟩, (by trivial), ⟨(by trivial), rowsR _ _⟩, (by trivial), ⟨(by trivial), rowsR _ _⟩, (by trivial), (by trivial), ⟨(by trivial), rowsR _ _⟩, ⟨(by trivial), rowsR _ _⟩, ⟨(by trivial), rowsR _ _⟩, (by trivial), ⟨(by trivial), rowsR _ _⟩, ⟨(by trivial), rowsR _ _⟩, ⟨(by trivial), rowsR _ _⟩, ⟨(by trivial), rowsR _ _⟩, (by trivial), trivial⟩, trivial⟩, Cnt.ext_lt hyt⟩⟩
        refine (ses_bad hls ((ses_n hz).trans ?_)).symm
        have : anyI x.val (isI w.ses (w.ses.getD x.val 0)) = true := anyI_iff.2 ⟨y.val, hyt, hp⟩
        rw [this, Bool.or_true]
      · have hge := le_of_not hy
        have e1 : anyI x.val (isI w.ses (w.ses.getD x.val 0)) = false := anyI_no.2 fun i hi => y.2.2 i (Nat.lt_of_lt_of_le hi hge)
        have hq : decide (txAt w.e.txs (w.ses.getD x.val 0) < 0) = false := hq
        exact ⟨i64_rng (by omega), x.succ hlt ((ses_n hz).trans (by rw [hq, e1]; rfl)), ⟨⟨⟨rfl, rfl⟩, rfl, by simp only [Cnt.succ]; omega, trivial⟩, ⟨rfl, rfl, ⟨(by trivial), rowsR _ _⟩, ⟨(by trivial), rowsR _ _⟩, (by trivial), ⟨(by trivial), rowsR _ _⟩, (by trivial), ⟨(by trivial), rowsR _ _⟩, (by trivial), ⟨(by trivial), rowsR _ _⟩, (by trivial), (by trivial), ⟨(by trivial), rowsR _ _⟩, ⟨(by trivial), rowsR _ _⟩, ⟨(by trivial), rowsR _ _⟩, (by trivial), ⟨(by trivial), rowsR _ _⟩, ⟨(by trivial), rowsR _ _⟩, ⟨(by trivial), rowsR _ _⟩, ⟨(by trivial), rowsR _ _⟩, (by trivial), trivial⟩, trivial⟩, Cnt.ext_lt hlt⟩
  · have hge : 3 ≤ x.val := by have := of_decide_eq_false hc; omega
    have hx : x.val = w.ses.length := by have := x.2.1; omega
    have e1 : anyI w.ses.length (badSes w) = false := anyI_no.2 fun i hi => x.2.2 i (by omega)
    unfold sesOK
    rw [e1, hx, Bool.eq_iff_iff, decide_eq_true h3]
    simp only [Bool.not_false, Bool.true_and, beq_iff_eq, decide_eq_true_eq]
    omega
end Go.Proofs.YtjbomnjmcbhadaaGreat

