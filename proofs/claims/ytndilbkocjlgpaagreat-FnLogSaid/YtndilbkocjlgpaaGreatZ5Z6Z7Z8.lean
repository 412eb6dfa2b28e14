/- A part of the proof. -/
import Derived.Test.YtndilbkocjlgpaaGreatZ1Z2Z3Z4
import Derived.Test.YtndilbkocjlgpaaGreatY6Y7Y13
import Derived.Test.YtndilbkocjlgpaaGreatF1F2
import Derived.Test.YtndilbkocjlgpaaGreatX11X11rX12X13
import Derived.Test.YtndilbkocjlgpaaGreatX14
namespace Go.Proofs.YtndilbkocjlgpaaGreat
set_option maxRecDepth 100000
open Go.SS

def k_l05Append : Con := .rel ⟨Sto × Rec, fun x => [.agg x.1.ts, .agg x.2.ts], fun x => .tup [.agg (appX x.1 x.2).ts, .int .i64 (x.1.log.length + 1 : Nat)], fun x => x.1.log.length <= 1000⟩
def k_tmpA : Con := .tmp
theorem call_tmpA : Callable Tryz.prog 11 := ⟨_, Tryz.func11, by kernel_rfl, by kernel_rfl⟩
theorem tmpA_ok : ConOk Tryz.prog 11 k_tmpA := trivial
noncomputable def b_l05Append : Code := Tryz.f97.body.getD .skip
theorem call_l05Append : Callable Tryz.prog 97 := ⟨_, Tryz.func97, by kernel_rfl, by kernel_rfl⟩
theorem v_l05Append (s : Sto) (r : Rec) (h :
    Rng .i64 ((s.log.length:Int) + (1 : Int)) /\ (Le 0 0 /\ AppB 0 s.log.length 96) /\ (Le (0 + s.log.length) (0 + s.log.length) /\ AppB (0 + s.log.length) 1 96) /\ Le (0 + (0 + s.log.length + 1)) (0 + s.log.length + 1) /\ ((EqL strRow
    s.d.sec s.d.sec) /\ (EqL pendRow s.d.cache s.d.cache) /\ s.d.armed = s.d.armed /\ (EqL intRow s.d.keep s.d.keep) /\ s.ep = s.ep /\ (0 + s.log.length + 1 = (s.log ++ [appR s r]).length /\ RowsEq (0 + s.log.length + 1) (appRow (appRow
    (fun (k : Nat) => List.take 10 (List.drop (k * 10) [])) 0 (recRow s.log)) (0 + s.log.length) fun (k : Nat) => List.take 10 (List.drop (k * 10) [T.int .i64 s.ep, T.int .i64 ((s.log.length:Int) + (1 : Int)), T.int .i64 r.t, T.int
    .i64 r.k, T.int .i64 r.p, T.int .i64 r.n, T.int .i64 r.g, T.int .i64 r.s, T.str r.b, T.str r.a])) (recRow (s.log ++ [appR s r]))) /\ s.sure = s.sure /\ (EqL frmRow s.fr s.fr) /\ s.hand = s.hand /\ True) /\ (s.log.length:Int) + (1 :
    Int) = (↑(s.log.length + 1) : Int) /\ True) :
    PureFn Tryz.prog 97 [.agg s.ts, .agg r.ts] (.tup [.agg (appX s r).ts, .int .i64 (s.log.length + 1 : Nat)]) :=
  vcR (code := b_l05Append) (gC tmpA_ok call_tmpA gN) Tryz.func97 (by kernel_rfl) (by kernel_rfl) noAnn h (by kernel_rfl)
theorem l05Append_ok : ConOk Tryz.prog 97 k_l05Append := by
  rintro ⟨s, r⟩ (h : s.log.length <= 1000); have hl : (s.log ++ [appR s r]).length = s.log.length + 1 := by simp
  refine v_l05Append s r ⟨i64_rng (by omega), ⟨Nat.le_refl _, by unfold AppB; omega⟩, ⟨Nat.le_refl _, by unfold AppB; omega⟩, by unfold Le; omega, ⟨(by repeat' first | exact trivial | exact rfl | exact rowsR _ _ | exact famR _ | exact row0 | exact le0 _ | exact Nat.le_refl _ | exact Nat.zero_le _ | refine And.intro ?_ ?_), (by repeat' first | exact trivial | exact rfl | exact rowsR _ _ | exact famR _ | exact row0 | exact le0 _ | exact Nat.le_refl _ | exact Nat.zero_le _ | refine And.intro ?_ ?_), rfl, (by repeat' first | exact trivial | exact rfl | exact rowsR _ _ | exact famR _ | exact row0 | exact le0 _ | exact Nat.le_refl _ | exact Nat.zero_le _ | refine And.intro ?_ ?_), rfl, ⟨by omega, ?_⟩, rfl, (by repeat' first | exact trivial | exact rfl | exact rowsR _ _ | exact famR _ | exact row0 | exact le0 _ | exact Nat.le_refl _ | exact Nat.zero_le _ | refine And.intro ?_ ?_), rfl, trivial⟩, rfl, trivial⟩
  rw [Nat.zero_add, app0]; exact rec_app s.log (appR s r)
def recB : Rec := ⟨0, 0, 1, 1, 0, 0, 0, 0, [], []⟩
def recU (last pg sl : Int) (a : List UInt8) : Rec := ⟨0, 0, 1, 2, last, 0, pg, sl, [111, 108, 100], a⟩
def afts : List (List UInt8) := [[], [114, 101, 99], [114, 101, 99, 111, 114, 100]]
noncomputable def dPut (s : Src) (x : Sto) : Src × Sto :=
  let s2 := nxS s 8; let s3 := nxS s2 4
  let r := if x.log.length = 0 then recB else recU x.log.length (nxV s 8) (nxV s2 4) (afts.getD (nxV s3 3).toNat [])
  (nxS s3 3, if x.log.length = 0 then appX x r else (aplS (appX x r) (appR x r)).1)
noncomputable def dStep (y : Src × Sto) : Src × Sto :=
  let v := nxV y.1 6; let s := nxS y.1 6
  if v = 0 then (nxS s ((y.2.log.length : Int) + 1), (fluS y.2 (nxV s ((y.2.log.length : Int) + 1))).1)
  else if v = 1 then (nxS s 8, (eviR y.2 (nxV s 8).toNat).1)
  else if v = 2 then (nxS s 8, (fetS y.2 (nxV s 8).toNat).1)
  else dPut s y.2
noncomputable def dIter (y : Src × Sto) : Nat -> Src × Sto
  | 0 => y
  | i + 1 => dStep (dIter y i)
def dBeg (c : List UInt8) : Src × Sto := (nxS (srcN c) 14, sto0)
def dMany (c : List UInt8) : Nat := (nxV (srcN c) 14).toNat
noncomputable def dEnd (c : List UInt8) : Src × Sto := dIter (dBeg c) (dMany c)
def St0 : Type := {s : Sto // s = sto0}
def k_NewStore0 : Con := .rel ⟨St0, fun _ => [], fun x => .agg x.1.ts, fun _ => True⟩
theorem call_NewStore0 : Callable Tryz.prog 94 := ⟨_, Tryz.func94, by kernel_rfl, by kernel_rfl⟩
theorem NewStore0_ok : ConOk Tryz.prog 94 k_NewStore0 := fun x _ => by
  obtain ⟨s, rfl⟩ := x; exact NewStores_ok () trivial
noncomputable def aplI (s : Sto) (l : Int) : Sto × Bool := aplS s (s.log.getD (l - 1).toNat default)
noncomputable def k_l05ApplyI : Con := .rel ⟨Sto × Int, fun x => [.agg x.1.ts, .int .i64 x.2], fun x => .tup [.agg (aplI x.1 x.2).1.ts, .bool (aplI x.1 x.2).2], fun x => SInv x.1 /\ 1 <= x.2 /\ x.2 <= x.1.log.length⟩
theorem call_l05ApplyI : Callable Tryz.prog 79 := ⟨_, Tryz.func79, by kernel_rfl, by kernel_rfl⟩
theorem l05ApplyI_ok : ConOk Tryz.prog 79 k_l05ApplyI := l05Apply_ok
noncomputable def b_store : Code := Tryz.f44.body.getD .skip
noncomputable def A_store (K : Nat) (D : Nat -> Src × Sto) : Nat -> Ann
  | 0 => .one {i : Nat // i <= K} (fun x => ⟨[(0, .ref 0 0 0), (2, .ref 1 0 0), (3, .ref 2 0 0), (4, .int .i64 (D x.1).2.log.length), (5, .int .i64 ((K : Int) - x.1))], [srcB (D x.1).1, stoZb, stoBx (D x.1).2.ts]⟩) (fun x => K - x.1) [.box 0, .box 1, .box 2] [.box 0, .box 1, .box 2] (fun _ => noAnn)
  | _ => .none
theorem v_store (s0 : Src) (K : Nat) (D : Nat -> Src × Sto) (h :
    ∃ (x : St0), (True /\ True) /\ ∃ (x_1 : (Src × Int)), (((0 = 0 /\ 0 = 0) /\ (14 : Int) = x_1.snd /\ True) /\ ((1 = 1 /\ RowsEq 1 (fun (x : Nat) => [T.bys s0.c, T.int .i64 (s0.at_:Int), T.int .i64 s0.sd]) fun (x : Nat) => [T.bys
    x_1.fst.c, T.int .i64 (x_1.fst.at_:Int), T.int .i64 x_1.fst.sd]) /\ True) /\ SrcOK x_1.fst 1000000 /\ x_1.snd <= (256 : Int)) /\ (∃ (x_2 : { i : Nat // i <= K }), ((0 = 0 /\ 0 = 0) /\ (0 = 0 /\ 0 = 0) /\ (0 = 0 /\ 0 = 0) /\ (0 : Int) = (↑(D
    x_2.val).snd.log.length : Int) /\ nxV x_1.fst x_1.snd = (K:Int) - (x_2.val:Int) /\ True) /\ (1 = 1 /\ 1 = 1 /\ (nxS x_1.fst x_1.snd).c = (D x_2.val).fst.c /\ (↑(nxS x_1.fst x_1.snd).at_ : Int) = (↑(D x_2.val).fst.at_ : Int) /\ (nxS
    x_1.fst x_1.snd).sd = (D x_2.val).fst.sd /\ True) /\ (1 = 1 /\ 1 = 1 /\ Value.slice none 0 0 = Value.slice none 0 0 /\ Value.slice none 0 0 = Value.slice none 0 0 /\ false = false /\ Value.slice none 0 0 = Value.slice none 0 0 /\ (0 :
    Int) = (0 : Int) /\ Value.slice none 0 0 = Value.slice none 0 0 /\ (0 : Int) = (0 : Int) /\ Value.slice none 0 0 = Value.slice none 0 0 /\ (0 : Int) = (0 : Int) /\ True) /\ (1 = 1 /\ 1 = 1 /\ (EqL strRow x.val.d.sec (D x_2.val).snd.d.sec)
    /\ (EqL pendRow x.val.d.cache (D x_2.val).snd.d.cache) /\ x.val.d.armed = (D x_2.val).snd.d.armed /\ (EqL intRow x.val.d.keep (D x_2.val).snd.d.keep) /\ x.val.ep = (D x_2.val).snd.ep /\ (EqL recRow x.val.log (D x_2.val).snd.log) /\
    x.val.sure = (D x_2.val).snd.sure /\ (EqL frmRow x.val.fr (D x_2.val).snd.fr) /\ x.val.hand = (D x_2.val).snd.hand /\ True) /\ True) /\ ∀ (x : { i : Nat // i <= K }), (decide ((K:Int) - (x.val:Int) > (0 : Int)) = true -> ∃ (x_2 : (Src ×
    Int)), (((0 = 0 /\ 0 = 0) /\ (6 : Int) = x_2.snd /\ True) /\ ((1 = 1 /\ RowsEq 1 (fun (x_3 : Nat) => [T.bys (D x.val).fst.c, T.int .i64 (↑(D x.val).fst.at_ : Int), T.int .i64 (D x.val).fst.sd]) fun (x : Nat) => [T.bys x_2.fst.c, T.int
    .i64 (x_2.fst.at_:Int), T.int .i64 x_2.fst.sd]) /\ True) /\ SrcOK x_2.fst 1000000 /\ x_2.snd <= (256 : Int)) /\ ((nxV x_2.fst x_2.snd == (0 : Int)) = true -> Rng .i64 ((↑(D x.val).snd.log.length : Int) + (1 : Int)) /\ ∃ (x_3 : (Src ×
    Int)), (((0 = 0 /\ 0 = 0) /\ (↑(D x.val).snd.log.length : Int) + (1 : Int) = x_3.snd /\ True) /\ ((1 = 1 /\ RowsEq 1 (fun (x : Nat) => [T.bys (nxS x_2.fst x_2.snd).c, T.int .i64 (↑(nxS x_2.fst x_2.snd).at_ : Int), T.int .i64 (nxS
    x_2.fst x_2.snd).sd]) fun (x : Nat) => [T.bys x_3.fst.c, T.int .i64 (x_3.fst.at_:Int), T.int .i64 x_3.fst.sd]) /\ True) /\ SrcOK x_3.fst 1000000 /\ x_3.snd <= (256 : Int)) /\ ∃ (x_4 : (Sto × Int)), ((((EqL strRow (D x.val).snd.d.sec
    x_4.fst.d.sec) /\ (EqL pendRow (D x.val).snd.d.cache x_4.fst.d.cache) /\ (D x.val).snd.d.armed = x_4.fst.d.armed /\ (EqL intRow (D x.val).snd.d.keep x_4.fst.d.keep) /\ (D x.val).snd.ep = x_4.fst.ep /\ (EqL recRow (D x.val).snd.log
    x_4.fst.log) /\ (D x.val).snd.sure = x_4.fst.sure /\ (EqL frmRow (D x.val).snd.fr x_4.fst.fr) /\ (D x.val).snd.hand = x_4.fst.hand /\ True) /\ nxV x_3.fst x_3.snd = x_4.snd /\ True) /\ FluB x_4.fst x_4.snd) /\ Rng .i64 ((K:Int) -
    (x.val:Int) - (1 : Int)) /\ ∃ (y : { i : Nat // i <= K }), (((0 = 0 /\ 0 = 0) /\ (0 = 0 /\ 0 = 0) /\ (0 = 0 /\ 0 = 0) /\ (↑(D x.val).snd.log.length : Int) = (↑(D y.val).snd.log.length : Int) /\ (K:Int) - (x.val:Int) - (1 : Int) = (K:Int) -
    (y.val:Int) /\ True) /\ (1 = 1 /\ 1 = 1 /\ (nxS x_3.fst x_3.snd).c = (D y.val).fst.c /\ (↑(nxS x_3.fst x_3.snd).at_ : Int) = (↑(D y.val).fst.at_ : Int) /\ (nxS x_3.fst x_3.snd).sd = (D y.val).fst.sd /\ True) /\ (1 = 1 /\ 1 = 1 /\
    Value.slice none 0 0 = Value.slice none 0 0 /\ Value.slice none 0 0 = Value.slice none 0 0 /\ false = false /\ Value.slice none 0 0 = Value.slice none 0 0 /\ (0 : Int) = (0 : Int) /\ Value.slice none 0 0 = Value.slice none 0 0 /\ (0 :
    Int) = (0 : Int) /\ Value.slice none 0 0 = Value.slice none 0 0 /\ (0 : Int) = (0 : Int) /\ True) /\ (1 = 1 /\ 1 = 1 /\ (EqL strRow (fluS x_4.fst x_4.snd).fst.d.sec (D y.val).snd.d.sec) /\ (EqL pendRow (fluS x_4.fst x_4.snd).fst.d.cache
    (D y.val).snd.d.cache) /\ (fluS x_4.fst x_4.snd).fst.d.armed = (D y.val).snd.d.armed /\ (EqL intRow (fluS x_4.fst x_4.snd).fst.d.keep (D y.val).snd.d.keep) /\ (fluS x_4.fst x_4.snd).fst.ep = (D y.val).snd.ep /\ (EqL recRow (fluS
    x_4.fst x_4.snd).fst.log (D y.val).snd.log) /\ (fluS x_4.fst x_4.snd).fst.sure = (D y.val).snd.sure /\ (EqL frmRow (fluS x_4.fst x_4.snd).fst.fr (D y.val).snd.fr) /\ (fluS x_4.fst x_4.snd).fst.hand = (D y.val).snd.hand /\ True) /\
    True) /\ Lt (K - y.val) (K - x.val)) /\ ((nxV x_2.fst x_2.snd == (0 : Int)) = false -> ((nxV x_2.fst x_2.snd == (1 : Int)) = true -> ∃ (x_3 : (Src × Int)), (((0 = 0 /\ 0 = 0) /\ (8 : Int) = x_3.snd /\ True) /\ ((1 = 1 /\ RowsEq 1 (fun (x :
    Nat) => [T.bys (nxS x_2.fst x_2.snd).c, T.int .i64 (↑(nxS x_2.fst x_2.snd).at_ : Int), T.int .i64 (nxS x_2.fst x_2.snd).sd]) fun (x : Nat) => [T.bys x_3.fst.c, T.int .i64 (x_3.fst.at_:Int), T.int .i64 x_3.fst.sd]) /\ True) /\ SrcOK
    x_3.fst 1000000 /\ x_3.snd <= (256 : Int)) /\ ∃ (x_4 : (Sto × Nat)), ((((EqL strRow (D x.val).snd.d.sec x_4.fst.d.sec) /\ (EqL pendRow (D x.val).snd.d.cache x_4.fst.d.cache) /\ (D x.val).snd.d.armed = x_4.fst.d.armed /\ (EqL intRow (D
    x.val).snd.d.keep x_4.fst.d.keep) /\ (D x.val).snd.ep = x_4.fst.ep /\ (EqL recRow (D x.val).snd.log x_4.fst.log) /\ (D x.val).snd.sure = x_4.fst.sure /\ (EqL frmRow (D x.val).snd.fr x_4.fst.fr) /\ (D x.val).snd.hand = x_4.fst.hand /\
    True) /\ nxV x_3.fst x_3.snd = (x_4.snd:Int) /\ True) /\ FetB x_4.fst x_4.snd) /\ Rng .i64 ((K:Int) - (x.val:Int) - (1 : Int)) /\ ∃ (y : { i : Nat // i <= K }), (((0 = 0 /\ 0 = 0) /\ (0 = 0 /\ 0 = 0) /\ (0 = 0 /\ 0 = 0) /\ (↑(D
    x.val).snd.log.length : Int) = (↑(D y.val).snd.log.length : Int) /\ (K:Int) - (x.val:Int) - (1 : Int) = (K:Int) - (y.val:Int) /\ True) /\ (1 = 1 /\ 1 = 1 /\ (nxS x_3.fst x_3.snd).c = (D y.val).fst.c /\ (↑(nxS x_3.fst x_3.snd).at_ : Int)
    = (↑(D y.val).fst.at_ : Int) /\ (nxS x_3.fst x_3.snd).sd = (D y.val).fst.sd /\ True) /\ (1 = 1 /\ 1 = 1 /\ Value.slice none 0 0 = Value.slice none 0 0 /\ Value.slice none 0 0 = Value.slice none 0 0 /\ false = false /\ Value.slice none 0 0
    = Value.slice none 0 0 /\ (0 : Int) = (0 : Int) /\ Value.slice none 0 0 = Value.slice none 0 0 /\ (0 : Int) = (0 : Int) /\ Value.slice none 0 0 = Value.slice none 0 0 /\ (0 : Int) = (0 : Int) /\ True) /\ (1 = 1 /\ 1 = 1 /\ (EqL strRow
    (eviR x_4.fst x_4.snd).fst.d.sec (D y.val).snd.d.sec) /\ (EqL pendRow (eviR x_4.fst x_4.snd).fst.d.cache (D y.val).snd.d.cache) /\ (eviR x_4.fst x_4.snd).fst.d.armed = (D y.val).snd.d.armed /\ (EqL intRow (eviR x_4.fst
    x_4.snd).fst.d.keep (D y.val).snd.d.keep) /\ (eviR x_4.fst x_4.snd).fst.ep = (D y.val).snd.ep /\ (EqL recRow (eviR x_4.fst x_4.snd).fst.log (D y.val).snd.log) /\ (eviR x_4.fst x_4.snd).fst.sure = (D y.val).snd.sure /\ (EqL frmRow
    (eviR x_4.fst x_4.snd).fst.fr (D y.val).snd.fr) /\ (eviR x_4.fst x_4.snd).fst.hand = (D y.val).snd.hand /\ True) /\ True) /\ Lt (K - y.val) (K - x.val)) /\ ((nxV x_2.fst x_2.snd == (1 : Int)) = false -> ((nxV x_2.fst x_2.snd == (2 :
    Int)) = true -> ∃ (x_3 : (Src × Int)), (((0 = 0 /\ 0 = 0) /\ (8 : Int) = x_3.snd /\ True) /\ ((1 = 1 /\ RowsEq 1 (fun (x : Nat) => [T.bys (nxS x_2.fst x_2.snd).c, T.int .i64 (↑(nxS x_2.fst x_2.snd).at_ : Int), T.int .i64 (nxS x_2.fst
    x_2.snd).sd]) fun (x : Nat) => [T.bys x_3.fst.c, T.int .i64 (x_3.fst.at_:Int), T.int .i64 x_3.fst.sd]) /\ True) /\ SrcOK x_3.fst 1000000 /\ x_3.snd <= (256 : Int)) /\ ∃ (x_4 : (Sto × Nat)), ((((EqL strRow (D x.val).snd.d.sec
    x_4.fst.d.sec) /\ (EqL pendRow (D x.val).snd.d.cache x_4.fst.d.cache) /\ (D x.val).snd.d.armed = x_4.fst.d.armed /\ (EqL intRow (D x.val).snd.d.keep x_4.fst.d.keep) /\ (D x.val).snd.ep = x_4.fst.ep /\ (EqL recRow (D x.val).snd.log
    x_4.fst.log) /\ (D x.val).snd.sure = x_4.fst.sure /\ (EqL frmRow (D x.val).snd.fr x_4.fst.fr) /\ (D x.val).snd.hand = x_4.fst.hand /\ True) /\ nxV x_3.fst x_3.snd = (x_4.snd:Int) /\ True) /\ FetB x_4.fst x_4.snd) /\ Rng .i64 ((K:Int) -
    (x.val:Int) - (1 : Int)) /\ ∃ (y : { i : Nat // i <= K }), (((0 = 0 /\ 0 = 0) /\ (0 = 0 /\ 0 = 0) /\ (0 = 0 /\ 0 = 0) /\ (↑(D x.val).snd.log.length : Int) = (↑(D y.val).snd.log.length : Int) /\ (K:Int) - (x.val:Int) - (1 : Int) = (K:Int) -
    (y.val:Int) /\ True) /\ (1 = 1 /\ 1 = 1 /\ (nxS x_3.fst x_3.snd).c = (D y.val).fst.c /\ (↑(nxS x_3.fst x_3.snd).at_ : Int) = (↑(D y.val).fst.at_ : Int) /\ (nxS x_3.fst x_3.snd).sd = (D y.val).fst.sd /\ True) /\ (1 = 1 /\ 1 = 1 /\
    Value.slice none 0 0 = Value.slice none 0 0 /\ Value.slice none 0 0 = Value.slice none 0 0 /\ false = false /\ Value.slice none 0 0 = Value.slice none 0 0 /\ (0 : Int) = (0 : Int) /\ Value.slice none 0 0 = Value.slice none 0 0 /\ (0 :
    Int) = (0 : Int) /\ Value.slice none 0 0 = Value.slice none 0 0 /\ (0 : Int) = (0 : Int) /\ True) /\ (1 = 1 /\ 1 = 1 /\ (EqL strRow (fetS x_4.fst x_4.snd).fst.d.sec (D y.val).snd.d.sec) /\ (EqL pendRow (fetS x_4.fst x_4.snd).fst.d.cache
    (D y.val).snd.d.cache) /\ (fetS x_4.fst x_4.snd).fst.d.armed = (D y.val).snd.d.armed /\ (EqL intRow (fetS x_4.fst x_4.snd).fst.d.keep (D y.val).snd.d.keep) /\ (fetS x_4.fst x_4.snd).fst.ep = (D y.val).snd.ep /\ (EqL recRow (fetS
    x_4.fst x_4.snd).fst.log (D y.val).snd.log) /\ (fetS x_4.fst x_4.snd).fst.sure = (D y.val).snd.sure /\ (EqL frmRow (fetS x_4.fst x_4.snd).fst.fr (D y.val).snd.fr) /\ (fetS x_4.fst x_4.snd).fst.hand = (D y.val).snd.hand /\ True) /\
    True) /\ Lt (K - y.val) (K - x.val)) /\ ((nxV x_2.fst x_2.snd == (2 : Int)) = false -> ∃ (x_3 : (Src × Int)), (((0 = 0 /\ 0 = 0) /\ (8 : Int) = x_3.snd /\ True) /\ ((1 = 1 /\ RowsEq 1 (fun (x : Nat) => [T.bys (nxS x_2.fst x_2.snd).c,
    T.int .i64 (↑(nxS x_2.fst x_2.snd).at_ : Int), T.int .i64 (nxS x_2.fst x_2.snd).sd]) fun (x : Nat) => [T.bys x_3.fst.c, T.int .i64 (x_3.fst.at_:Int), T.int .i64 x_3.fst.sd]) /\ True) /\ SrcOK x_3.fst 1000000 /\ x_3.snd <= (256 : Int))
    /\ ∃ (x_4 : (Src × Int)), (((0 = 0 /\ 0 = 0) /\ (4 : Int) = x_4.snd /\ True) /\ ((1 = 1 /\ RowsEq 1 (fun (x : Nat) => [T.bys (nxS x_3.fst x_3.snd).c, T.int .i64 (↑(nxS x_3.fst x_3.snd).at_ : Int), T.int .i64 (nxS x_3.fst x_3.snd).sd])
    fun (x : Nat) => [T.bys x_4.fst.c, T.int .i64 (x_4.fst.at_:Int), T.int .i64 x_4.fst.sd]) /\ True) /\ SrcOK x_4.fst 1000000 /\ x_4.snd <= (256 : Int)) /\ ∃ (x_5 : (Src × List (List UInt8))), (((0 = 0 /\ 0 = 0) /\ (3 = x_5.snd.length /\
    RowsEq 3 (fun (k : Nat) => List.take 1 (List.drop (k * 1) [T.str [], T.str [(114 : UInt8), (101 : UInt8), (99 : UInt8)], T.str [(114 : UInt8), (101 : UInt8), (99 : UInt8), (111 : UInt8), (114 : UInt8), (100 : UInt8)]])) (strRow
    x_5.snd)) /\ True) /\ ((1 = 1 /\ RowsEq 1 (fun (x : Nat) => [T.bys (nxS x_4.fst x_4.snd).c, T.int .i64 (↑(nxS x_4.fst x_4.snd).at_ : Int), T.int .i64 (nxS x_4.fst x_4.snd).sd]) fun (x : Nat) => [T.bys x_5.fst.c, T.int .i64
    (x_5.fst.at_:Int), T.int .i64 x_5.fst.sd]) /\ True) /\ SrcOK x_5.fst 1000000 /\ 1 <= x_5.snd.length /\ x_5.snd.length <= 256) /\ (((↑(D x.val).snd.log.length : Int) == (0 : Int)) = true -> ∃ (x_6 : (Sto × Rec)), ((((EqL strRow (D
    x.val).snd.d.sec x_6.fst.d.sec) /\ (EqL pendRow (D x.val).snd.d.cache x_6.fst.d.cache) /\ (D x.val).snd.d.armed = x_6.fst.d.armed /\ (EqL intRow (D x.val).snd.d.keep x_6.fst.d.keep) /\ (D x.val).snd.ep = x_6.fst.ep /\ (EqL recRow (D
    x.val).snd.log x_6.fst.log) /\ (D x.val).snd.sure = x_6.fst.sure /\ (EqL frmRow (D x.val).snd.fr x_6.fst.fr) /\ (D x.val).snd.hand = x_6.fst.hand /\ True) /\ ((0 : Int) = x_6.snd.e /\ (0 : Int) = x_6.snd.l /\ (1 : Int) = x_6.snd.t /\ (1 :
    Int) = x_6.snd.k /\ (0 : Int) = x_6.snd.p /\ (0 : Int) = x_6.snd.n /\ (0 : Int) = x_6.snd.g /\ (0 : Int) = x_6.snd.s /\ [] = x_6.snd.b /\ [] = x_6.snd.a /\ True) /\ True) /\ x_6.fst.log.length <= 1000) /\ (false = true -> ∃ (x_7 : (Sto ×
    Int)), ((((EqL strRow x_6.fst.d.sec x_7.fst.d.sec) /\ (EqL pendRow x_6.fst.d.cache x_7.fst.d.cache) /\ x_6.fst.d.armed = x_7.fst.d.armed /\ (EqL intRow x_6.fst.d.keep x_7.fst.d.keep) /\ x_6.fst.ep = x_7.fst.ep /\ (EqL recRow
    (x_6.fst.log ++ [appR x_6.fst x_6.snd]) x_7.fst.log) /\ x_6.fst.sure = x_7.fst.sure /\ (EqL frmRow x_6.fst.fr x_7.fst.fr) /\ x_6.fst.hand = x_7.fst.hand /\ True) /\ (↑(x_6.fst.log.length + 1) : Int) = x_7.snd /\ True) /\ SInv x_7.fst /\
    (1 : Int) <= x_7.snd /\ x_7.snd <= (x_7.fst.log.length:Int)) /\ Rng .i64 ((K:Int) - (x.val:Int) - (1 : Int)) /\ ∃ (y : { i : Nat // i <= K }), (((0 = 0 /\ 0 = 0) /\ (0 = 0 /\ 0 = 0) /\ (0 = 0 /\ 0 = 0) /\ (↑(x_6.fst.log.length + 1) : Int) =
    (↑(D y.val).snd.log.length : Int) /\ (K:Int) - (x.val:Int) - (1 : Int) = (K:Int) - (y.val:Int) /\ True) /\ (1 = 1 /\ 1 = 1 /\ (nxS x_5.fst (x_5.snd.length:Int)).c = (D y.val).fst.c /\ (↑(nxS x_5.fst (x_5.snd.length:Int)).at_ : Int) =
    (↑(D y.val).fst.at_ : Int) /\ (nxS x_5.fst (x_5.snd.length:Int)).sd = (D y.val).fst.sd /\ True) /\ (1 = 1 /\ 1 = 1 /\ Value.slice none 0 0 = Value.slice none 0 0 /\ Value.slice none 0 0 = Value.slice none 0 0 /\ false = false /\
    Value.slice none 0 0 = Value.slice none 0 0 /\ (0 : Int) = (0 : Int) /\ Value.slice none 0 0 = Value.slice none 0 0 /\ (0 : Int) = (0 : Int) /\ Value.slice none 0 0 = Value.slice none 0 0 /\ (0 : Int) = (0 : Int) /\ True) /\ (1 = 1 /\ 1 =
    1 /\ (EqL strRow (aplI x_7.fst x_7.snd).fst.d.sec (D y.val).snd.d.sec) /\ (EqL pendRow (aplI x_7.fst x_7.snd).fst.d.cache (D y.val).snd.d.cache) /\ (aplI x_7.fst x_7.snd).fst.d.armed = (D y.val).snd.d.armed /\ (EqL intRow (aplI
    x_7.fst x_7.snd).fst.d.keep (D y.val).snd.d.keep) /\ (aplI x_7.fst x_7.snd).fst.ep = (D y.val).snd.ep /\ (EqL recRow (aplI x_7.fst x_7.snd).fst.log (D y.val).snd.log) /\ (aplI x_7.fst x_7.snd).fst.sure = (D y.val).snd.sure /\ (EqL
    frmRow (aplI x_7.fst x_7.snd).fst.fr (D y.val).snd.fr) /\ (aplI x_7.fst x_7.snd).fst.hand = (D y.val).snd.hand /\ True) /\ True) /\ Lt (K - y.val) (K - x.val)) /\ (false = false -> Rng .i64 ((K:Int) - (x.val:Int) - (1 : Int)) /\ ∃ (y : {
    i : Nat // i <= K }), (((0 = 0 /\ 0 = 0) /\ (0 = 0 /\ 0 = 0) /\ (0 = 0 /\ 0 = 0) /\ (↑(x_6.fst.log.length + 1) : Int) = (↑(D y.val).snd.log.length : Int) /\ (K:Int) - (x.val:Int) - (1 : Int) = (K:Int) - (y.val:Int) /\ True) /\ (1 = 1 /\ 1 =
    1 /\ (nxS x_5.fst (x_5.snd.length:Int)).c = (D y.val).fst.c /\ (↑(nxS x_5.fst (x_5.snd.length:Int)).at_ : Int) = (↑(D y.val).fst.at_ : Int) /\ (nxS x_5.fst (x_5.snd.length:Int)).sd = (D y.val).fst.sd /\ True) /\ (1 = 1 /\ 1 = 1 /\
    Value.slice none 0 0 = Value.slice none 0 0 /\ Value.slice none 0 0 = Value.slice none 0 0 /\ false = false /\ Value.slice none 0 0 = Value.slice none 0 0 /\ (0 : Int) = (0 : Int) /\ Value.slice none 0 0 = Value.slice none 0 0 /\ (0 :
    Int) = (0 : Int) /\ Value.slice none 0 0 = Value.slice none 0 0 /\ (0 : Int) = (0 : Int) /\ True) /\ (1 = 1 /\ 1 = 1 /\ (EqL strRow x_6.fst.d.sec (D y.val).snd.d.sec) /\ (EqL pendRow x_6.fst.d.cache (D y.val).snd.d.cache) /\
    x_6.fst.d.armed = (D y.val).snd.d.armed /\ (EqL intRow x_6.fst.d.keep (D y.val).snd.d.keep) /\ x_6.fst.ep = (D y.val).snd.ep /\ (EqL recRow (x_6.fst.log ++ [appR x_6.fst x_6.snd]) (D y.val).snd.log) /\ x_6.fst.sure = (D
    y.val).snd.sure /\ (EqL frmRow x_6.fst.fr (D y.val).snd.fr) /\ x_6.fst.hand = (D y.val).snd.hand /\ True) /\ True) /\ Lt (K - y.val) (K - x.val))) /\ (((↑(D x.val).snd.log.length : Int) == (0 : Int)) = false -> ∃ (x_6 : (Sto × Rec)),
    ((((EqL strRow (D x.val).snd.d.sec x_6.fst.d.sec) /\ (EqL pendRow (D x.val).snd.d.cache x_6.fst.d.cache) /\ (D x.val).snd.d.armed = x_6.fst.d.armed /\ (EqL intRow (D x.val).snd.d.keep x_6.fst.d.keep) /\ (D x.val).snd.ep = x_6.fst.ep /\
    (EqL recRow (D x.val).snd.log x_6.fst.log) /\ (D x.val).snd.sure = x_6.fst.sure /\ (EqL frmRow (D x.val).snd.fr x_6.fst.fr) /\ (D x.val).snd.hand = x_6.fst.hand /\ True) /\ ((0 : Int) = x_6.snd.e /\ (0 : Int) = x_6.snd.l /\ (1 : Int) =
    x_6.snd.t /\ (2 : Int) = x_6.snd.k /\ (↑(D x.val).snd.log.length : Int) = x_6.snd.p /\ (0 : Int) = x_6.snd.n /\ nxV x_3.fst x_3.snd = x_6.snd.g /\ nxV x_4.fst x_4.snd = x_6.snd.s /\ [(111 : UInt8), (108 : UInt8), (100 : UInt8)] =
    x_6.snd.b /\ x_5.snd.getD (nxV x_5.fst (x_5.snd.length:Int)).toNat [] = x_6.snd.a /\ True) /\ True) /\ x_6.fst.log.length <= 1000) /\ (true = true -> ∃ (x_7 : (Sto × Int)), ((((EqL strRow x_6.fst.d.sec x_7.fst.d.sec) /\ (EqL pendRow
    x_6.fst.d.cache x_7.fst.d.cache) /\ x_6.fst.d.armed = x_7.fst.d.armed /\ (EqL intRow x_6.fst.d.keep x_7.fst.d.keep) /\ x_6.fst.ep = x_7.fst.ep /\ (EqL recRow (x_6.fst.log ++ [appR x_6.fst x_6.snd]) x_7.fst.log) /\ x_6.fst.sure =
    x_7.fst.sure /\ (EqL frmRow x_6.fst.fr x_7.fst.fr) /\ x_6.fst.hand = x_7.fst.hand /\ True) /\ (↑(x_6.fst.log.length + 1) : Int) = x_7.snd /\ True) /\ SInv x_7.fst /\ (1 : Int) <= x_7.snd /\ x_7.snd <= (x_7.fst.log.length:Int)) /\ Rng .i64
    ((K:Int) - (x.val:Int) - (1 : Int)) /\ ∃ (y : { i : Nat // i <= K }), (((0 = 0 /\ 0 = 0) /\ (0 = 0 /\ 0 = 0) /\ (0 = 0 /\ 0 = 0) /\ (↑(x_6.fst.log.length + 1) : Int) = (↑(D y.val).snd.log.length : Int) /\ (K:Int) - (x.val:Int) - (1 : Int)
    = (K:Int) - (y.val:Int) /\ True) /\ (1 = 1 /\ 1 = 1 /\ (nxS x_5.fst (x_5.snd.length:Int)).c = (D y.val).fst.c /\ (↑(nxS x_5.fst (x_5.snd.length:Int)).at_ : Int) = (↑(D y.val).fst.at_ : Int) /\ (nxS x_5.fst (x_5.snd.length:Int)).sd = (D
    y.val).fst.sd /\ True) /\ (1 = 1 /\ 1 = 1 /\ Value.slice none 0 0 = Value.slice none 0 0 /\ Value.slice none 0 0 = Value.slice none 0 0 /\ false = false /\ Value.slice none 0 0 = Value.slice none 0 0 /\ (0 : Int) = (0 : Int) /\ Value.slice
    none 0 0 = Value.slice none 0 0 /\ (0 : Int) = (0 : Int) /\ Value.slice none 0 0 = Value.slice none 0 0 /\ (0 : Int) = (0 : Int) /\ True) /\ (1 = 1 /\ 1 = 1 /\ (EqL strRow (aplI x_7.fst x_7.snd).fst.d.sec (D y.val).snd.d.sec) /\ (EqL
    pendRow (aplI x_7.fst x_7.snd).fst.d.cache (D y.val).snd.d.cache) /\ (aplI x_7.fst x_7.snd).fst.d.armed = (D y.val).snd.d.armed /\ (EqL intRow (aplI x_7.fst x_7.snd).fst.d.keep (D y.val).snd.d.keep) /\ (aplI x_7.fst x_7.snd).fst.ep =
    (D y.val).snd.ep /\ (EqL recRow (aplI x_7.fst x_7.snd).fst.log (D y.val).snd.log) /\ (aplI x_7.fst x_7.snd).fst.sure = (D y.val).snd.sure /\ (EqL frmRow (aplI x_7.fst x_7.snd).fst.fr (D y.val).snd.fr) /\ (aplI x_7.fst
    x_7.snd).fst.hand = (D y.val).snd.hand /\ True) /\ True) /\ Lt (K - y.val) (K - x.val)) /\ (true = false -> Rng .i64 ((K:Int) - (x.val:Int) - (1 : Int)) /\ ∃ (y : { i : Nat // i <= K }), (((0 = 0 /\ 0 = 0) /\ (0 = 0 /\ 0 = 0) /\ (0 = 0 /\ 0 =
    0) /\ (↑(x_6.fst.log.length + 1) : Int) = (↑(D y.val).snd.log.length : Int) /\ (K:Int) - (x.val:Int) - (1 : Int) = (K:Int) - (y.val:Int) /\ True) /\ (1 = 1 /\ 1 = 1 /\ (nxS x_5.fst (x_5.snd.length:Int)).c = (D y.val).fst.c /\ (↑(nxS
    x_5.fst (x_5.snd.length:Int)).at_ : Int) = (↑(D y.val).fst.at_ : Int) /\ (nxS x_5.fst (x_5.snd.length:Int)).sd = (D y.val).fst.sd /\ True) /\ (1 = 1 /\ 1 = 1 /\ Value.slice none 0 0 = Value.slice none 0 0 /\ Value.slice none 0 0 =
    Value.slice none 0 0 /\ false = false /\ Value.slice none 0 0 = Value.slice none 0 0 /\ (0 : Int) = (0 : Int) /\ Value.slice none 0 0 = Value.slice none 0 0 /\ (0 : Int) = (0 : Int) /\ Value.slice none 0 0 = Value.slice none 0 0 /\ (0 :
    Int) = (0 : Int) /\ True) /\ (1 = 1 /\ 1 = 1 /\ (EqL strRow x_6.fst.d.sec (D y.val).snd.d.sec) /\ (EqL pendRow x_6.fst.d.cache (D y.val).snd.d.cache) /\ x_6.fst.d.armed = (D y.val).snd.d.armed /\ (EqL intRow x_6.fst.d.keep (D
    y.val).snd.d.keep) /\ x_6.fst.ep = (D y.val).snd.ep /\ (EqL recRow (x_6.fst.log ++ [appR x_6.fst x_6.snd]) (D y.val).snd.log) /\ x_6.fst.sure = (D y.val).snd.sure /\ (EqL frmRow x_6.fst.fr (D y.val).snd.fr) /\ x_6.fst.hand = (D
    y.val).snd.hand /\ True) /\ True) /\ Lt (K - y.val) (K - x.val))))))) /\ (decide ((K:Int) - (x.val:Int) > (0 : Int)) = false -> ∃ (x_2 : Sto), ((((EqL strRow (D x.val).snd.d.sec x_2.d.sec) /\ (EqL pendRow (D x.val).snd.d.cache
    x_2.d.cache) /\ (D x.val).snd.d.armed = x_2.d.armed /\ (EqL intRow (D x.val).snd.d.keep x_2.d.keep) /\ (D x.val).snd.ep = x_2.ep /\ (EqL recRow (D x.val).snd.log x_2.log) /\ (D x.val).snd.sure = x_2.sure /\ (EqL frmRow (D x.val).snd.fr
    x_2.fr) /\ (D x.val).snd.hand = x_2.hand /\ True) /\ True) /\ SmS x_2) /\ (((0 = 0 /\ x_2.d.sec.length = (D K).snd.d.sec.length) /\ (0 = 0 /\ x_2.d.cache.length = (D K).snd.d.cache.length) /\ x_2.d.armed = (D K).snd.d.armed /\ (0 = 0 /\
    x_2.d.keep.length = (D K).snd.d.keep.length) /\ x_2.ep = (D K).snd.ep /\ (0 = 0 /\ x_2.log.length = (D K).snd.log.length) /\ x_2.sure = (D K).snd.sure /\ (0 = 0 /\ x_2.fr.length = (D K).snd.fr.length) /\ x_2.hand = (D K).snd.hand /\ True)
    /\ True) /\ (1 = 1 /\ 1 = 1 /\ (D x.val).fst.c = (D K).fst.c /\ (↑(D x.val).fst.at_ : Int) = (↑(D K).fst.at_ : Int) /\ (D x.val).fst.sd = (D K).fst.sd /\ True) /\ (EqL strRow x_2.d.sec (D K).snd.d.sec) /\ (EqL pendRow x_2.d.cache (D
    K).snd.d.cache) /\ (EqL intRow x_2.d.keep (D K).snd.d.keep) /\ (EqL recRow x_2.log (D K).snd.log) /\ (0 = 0 /\ x_2.fr.length = (D K).snd.fr.length /\ FamEq x_2.fr.length (famRow x_2.fr) (famRow (D K).snd.fr)) /\ True)) :
    EffFn Tryz.prog 44 [.ref 0 0 0] [srcB s0] (.agg ((D K).2.tm 1)) ([srcB (D K).1] ++ (D K).2.hp 0) :=
  vcG (code := b_store) (gC tmpA_ok call_tmpA (gC NewStore0_ok call_NewStore0 (gC next_ok call_next (gC pick_ok call_pick (gC l05Flush_ok call_l05Flush (gC l05Evict_ok call_l05Evict (gC l05Fetch_ok call_l05Fetch (gC l05Append_ok call_l05Append (gC l05ApplyI_ok call_l05ApplyI (gC l05Own_ok call_l05Own gN)))))))))) Tryz.func44 (by kernel_rfl) (by kernel_rfl) (A_store K D) [[.box 0, .arr 3, .arr 4, .arr 5, .arr 6, .arr 7]] h (by kernel_rfl)
def DInv (i : Nat) (y : Src × Sto) : Prop := SrcOK y.1 (10 * (i + 1)) /\ GInv y.2 /\ y.2.log.length <= i
theorem SrcOK.le {s : Src} {m n : Nat} (h : SrcOK s m) (hl : m <= n) : SrcOK s n := ⟨Nat.le_trans h.1 hl, h.2⟩
theorem recB_ok {s : Sto} (h : GInv s) (h0 : s.log.length = 0) : recOK (appR s recB) = true := by
  have he := h.ep; refine (recOK_iff _).2 ?_
  unfold RecP appR recB; dsimp only; rw [h0]; refine ⟨he.1, he.2, ?_⟩
  simp
theorem afts_le (i : Nat) : (afts.getD i []).length <= 30 := by
  match i with
  | 0 => decide
  | 1 => decide
  | 2 => decide
  | n + 3 => exact Nat.zero_le _
theorem recU_ok {s : Sto} {pg sl : Int} {a : List UInt8} (h : GInv s) (h0 : s.log.length ≠ 0) (h6 : s.log.length < 60) (hp : 0 <= pg /\ pg < 8) (hs : 0 <= sl /\ sl < 4) (ha : a.length <= 30) : recOK (appR s (recU s.log.length pg sl a)) = true := by
  have he := h.ep; refine (recOK_iff _).2 ?_
  unfold RecP appR recU; dsimp only; refine ⟨he.1, he.2, by omega, by omega, by omega, by omega, by omega, by omega, by omega, by omega, hp.1, by omega, hs.1, by omega, by decide, fun e => by omega, fun _ => ⟨by omega, by omega, ha, fun e => absurd rfl e, fun _ => rfl, fun e => by omega, ⟨fun e => by omega, fun e => by omega⟩⟩⟩
theorem appX_last (s : Sto) (r : Rec) : (appX s r).log.getD s.log.length default = appR s r := by
  unfold appX; dsimp only; rw [List.getD_eq_getElem?_getD, List.getElem?_append_right (Nat.le_refl _)]
  simp
theorem d_put {s : Src} {x : Sto} {m i : Nat} (h : SrcOK s m) (hg : GInv x) (hl : x.log.length <= i) (hi : i < 14) : SrcOK (dPut s x).1 (m + 3) /\ GInv (dPut s x).2 /\ (dPut s x).2.log.length <= i + 1 := by
  have n1 := nx_rng h (n := 8) (by decide)
  have n2 := nx_rng n1.2.2 (n := 4) (by decide)
  have n3 := nx_rng n2.2.2 (n := 3) (by decide)
  unfold dPut; dsimp only; by_cases h0 : x.log.length = 0
  · rw [if_pos h0, if_pos h0]; exact ⟨n3.2.2, g_app hg (by omega) (recB_ok hg h0), by show (x.log ++ [_]).length <= _; rw [List.length_append]; simp; omega⟩
  · rw [if_neg h0, if_neg h0]; have hr := recU_ok hg h0 (by omega) ⟨n1.1, n1.2.1⟩ ⟨n2.1, n2.2.1⟩ (afts_le (nxV (nxS (nxS s 8) 4) 3).toNat)
    have ga := g_app hg (by omega) hr
    have hL : (appX x (recU x.log.length (nxV s 8) (nxV (nxS s 8) 4) (afts.getD (nxV (nxS (nxS s 8) 4) 3).toNat []))).log.length = x.log.length + 1 := by unfold appX; simp
    obtain ⟨g1, _, g3, _⟩ := g_apl ga (r := appR x (recU x.log.length (nxV s 8) (nxV (nxS s 8) 4) (afts.getD (nxV (nxS (nxS s 8) 4) 3).toNat []))) ⟨n1.1, n1.2.1⟩ ⟨n2.1, n2.2.1⟩ ⟨by show (1 : Int) <= (x.log.length : Int) + 1; omega, by show (x.log.length : Int) + 1 <= _; rw [hL]; omega⟩ (afts_le _)
    exact ⟨n3.2.2, g1, by rw [g3, hL]; omega⟩
theorem d_step {y : Src × Sto} {i : Nat} (h : DInv i y) (hi : i < 14) : DInv (i + 1) (dStep y) := by
  obtain ⟨h1, h2, h3⟩ := h; have n1 := nx_rng h1 (n := 6) (by decide)
  have n8 := nx_rng n1.2.2 (n := 8) (by decide)
  have nl := nx_rng n1.2.2 (n := (y.2.log.length : Int) + 1) (by omega)
  unfold dStep DInv; dsimp only; split
  · obtain ⟨_, _, r3, _⟩ := flu_rest y.2 (nxV (nxS y.1 6) ((y.2.log.length : Int) + 1)); exact ⟨nl.2.2.le (by omega), (g_flu h2 (by omega)).1, by rw [r3]; omega⟩
  · split
    · obtain ⟨a, b, _⟩ := g_eviR (no := (nxV (nxS y.1 6) 8).toNat) h2; exact ⟨n8.2.2.le (by omega), a, by rw [b]; omega⟩
    · split
      · obtain ⟨⟨a, _, _, b, _⟩, _⟩ := g_fet (no := (nxV (nxS y.1 6) 8).toNat) h2 (by omega)
        exact ⟨n8.2.2.le (by omega), a, by rw [b]; omega⟩
      · obtain ⟨a, b, c⟩ := d_put n1.2.2 h2 h3 hi; exact ⟨a.le (by omega), b, c⟩
theorem srcN_ok (c : List UInt8) : SrcOK (srcN c) 0 := by
  have := tmod_rng (a := (c.length : Int)) (n := 1000) (by omega) (by decide)
  exact ⟨Nat.le_refl _, this.1, by show (c.length : Int).tmod 1000 < _; omega⟩
theorem rd_sto0 {n : Nat} (h : 1 <= n) : rdAt sto0.d n = [] := by
  show ((secE 69).set 0 (hdB 1)).getD n [] = []; rw [List.getD_eq_getElem?_getD, List.getElem?_set_ne (by omega)]
  unfold secE; rw [List.getElem?_replicate]
  split <;> rfl
theorem g_sto0 : GInv sto0 := by
  have h69 : sto0.d.sec.length = 69 := by
    show ((secE 69).set 0 (hdB 1)).length = 69; rw [List.length_set]; exact List.length_replicate
  have pg : ∀ no, pgAt sto0.d no = (⟨0, [[], [], [], []]⟩, true) := fun no => by
    unfold pgAt; rw [if_pos (rd_sto0 (by omega))]
  refine ⟨⟨rfl, rfl, h69, fun i hi => ?_, fun i hi => absurd hi (Nat.not_lt_zero _)⟩, Nat.zero_le _, ⟨by decide, by decide⟩, Nat.zero_le _, areOK_iff.2 fun i hi => absurd hi (Nat.not_lt_zero _), ⟨Int.le_refl _, Int.le_refl _⟩, fun i hi => absurd hi (Nat.not_lt_zero _), fun no _ => by rw [pg]; exact ⟨rfl, Int.le_refl _⟩, Nat.zero_le _, fun i hi => absurd hi (Nat.not_lt_zero _), fun i j hi => absurd hi (Nat.not_lt_zero _), fun i hi => absurd hi (Nat.not_lt_zero _), ⟨Int.le_refl _, by decide⟩, fun i hi => absurd hi (Nat.not_lt_zero _), fun i _ _ => rd_sto0 (by omega)⟩
  by_cases h : i = 0
  · subst h; show (((secE 69).set 0 (hdB 1)).getD 0 []).length <= 160; rw [List.getD_eq_getElem?_getD]
    rw [List.getElem?_set_self (by unfold secE; simp)]
    show 6 <= 160; decide
  · have : sto0.d.sec.getD i [] = [] := rd_sto0 (by omega)
    rw [this]; exact Nat.zero_le _
theorem d_many (c : List UInt8) : dMany c < 14 /\ (nxV (srcN c) 14 = dMany c) := by
  have n := nx_rng (srcN_ok c) (n := 14) (by decide)
  unfold dMany; omega
theorem d_inv (c : List UInt8) : ∀ i, i <= dMany c -> DInv i (dIter (dBeg c) i)
  | 0, _ => ⟨(nx_rng (srcN_ok c) (n := 14) (by decide)).2.2.le (by omega), g_sto0, Nat.zero_le _⟩
  | i + 1, h => d_step (d_inv c i (by omega)) (by have := (d_many c).1; omega)
noncomputable def k_store : Con := .reff ⟨List UInt8, fun _ => [.ref 0 0 0], fun c => [srcB (srcN c)], fun c => .agg ((dEnd c).2.tm 1), fun c => [srcB (dEnd c).1] ++ (dEnd c).2.hp 0, fun _ => True⟩
theorem store_ok : ConOk Tryz.prog 44 k_store := by
  intro (c : List UInt8) _; obtain ⟨hm, hmv⟩ := d_many c; have n0 := srcN_ok c; have e14 : (14 : Int) <= 256 := by decide
  refine v_store (srcN c) (dMany c) (dIter (dBeg c)) ⟨⟨sto0, rfl⟩, ⟨trivial, trivial⟩, (srcN c, 14), ⟨(by repeat' first | exact trivial | exact rfl | exact rowsR _ _ | exact famR _ | exact row0 | exact le0 _ | exact Nat.le_refl _ | exact Nat.zero_le _ | refine And.intro ?_ ?_), ⟨⟨rfl, fun _ _ => rfl⟩, trivial⟩, n0.le (by omega), e14⟩, ⟨⟨0, Nat.zero_le _⟩, ⟨⟨rfl, rfl⟩, ⟨rfl, rfl⟩, ⟨rfl, rfl⟩, rfl, by dsimp only; rw [hmv]; omega, trivial⟩, ⟨rfl, rfl, rfl, rfl, rfl, trivial⟩, (by repeat' first | exact trivial | exact rfl | exact rowsR _ _ | exact famR _ | exact row0 | exact le0 _ | exact Nat.le_refl _ | exact Nat.zero_le _ | refine And.intro ?_ ?_)⟩, fun x => ⟨fun hc => ?_, fun hc => ?_⟩⟩
  · have hlt : x.val < dMany c := by have := of_decide_eq_true hc; omega
    have I := d_inv c x.val x.2; have e1 : dIter (dBeg c) (x.val + 1) = dStep (dIter (dBeg c) x.val) := rfl; generalize dIter (dBeg c) x.val = y at *; obtain ⟨i1, i2, i3⟩ := I; have n1 := nx_rng i1 (n := 6) (by decide)
    have n8 := nx_rng n1.2.2 (n := 8) (by decide)
    have nl := nx_rng n1.2.2 (n := (y.2.log.length : Int) + 1) (by omega)
    have e6 : (6 : Int) <= 256 := by decide
    have e8 : (8 : Int) <= 256 := by decide
    have e4 : (4 : Int) <= 256 := by decide
    refine ⟨(y.1, 6), ⟨(by repeat' first | exact trivial | exact rfl | exact rowsR _ _ | exact famR _ | exact row0 | exact le0 _ | exact Nat.le_refl _ | exact Nat.zero_le _ | refine And.intro ?_ ?_), ⟨⟨rfl, fun _ _ => rfl⟩, trivial⟩, i1.le (by omega), e6⟩, fun hv => ?_, fun hv => ⟨fun hw => ?_, fun hw => ⟨fun hz => ?_, fun hz => ?_⟩⟩⟩
    · have hv : nxV y.1 6 = 0 := eq_of_beq hv; have es : dStep y = (nxS (nxS y.1 6) ((y.2.log.length : Int) + 1), (fluS y.2 (nxV (nxS y.1 6) ((y.2.log.length : Int) + 1))).1) := by unfold dStep; dsimp only; rw [if_pos hv]
      obtain ⟨_, _, r3, _⟩ := flu_rest y.2 (nxV (nxS y.1 6) ((y.2.log.length : Int) + 1)); refine ⟨i64_rng (by omega), (nxS y.1 6, (y.2.log.length : Int) + 1), ⟨(by repeat' first | exact trivial | exact rfl | exact rowsR _ _ | exact famR _ | exact row0 | exact le0 _ | exact Nat.le_refl _ | exact Nat.zero_le _ | refine And.intro ?_ ?_), ⟨⟨rfl, fun _ _ => rfl⟩, trivial⟩, n1.2.2.le (by omega), by dsimp only; omega⟩, (y.2, nxV (nxS y.1 6) ((y.2.log.length : Int) + 1)), ⟨⟨eqS _, rfl, trivial⟩, i2.inv.flu (by dsimp only; omega)⟩, i64_rng (by omega), ⟨x.val + 1, hlt⟩, ?_, by unfold Lt; dsimp only; omega⟩
      dsimp only; rw [e1, es]; exact ⟨⟨⟨rfl, rfl⟩, ⟨rfl, rfl⟩, ⟨rfl, rfl⟩, by rw [r3], by omega, trivial⟩, (by repeat' first | exact trivial | exact rfl | exact rowsR _ _ | exact famR _ | exact row0 | exact le0 _ | exact Nat.le_refl _ | exact Nat.zero_le _ | refine And.intro ?_ ?_)⟩
    · have hv : ¬ nxV y.1 6 = 0 := fun e => by rw [e] at hv; cases hv
      have hw : nxV y.1 6 = 1 := eq_of_beq hw; have es : dStep y = (nxS (nxS y.1 6) 8, (eviR y.2 (nxV (nxS y.1 6) 8).toNat).1) := by unfold dStep; dsimp only; rw [if_neg hv, if_pos hw]
      obtain ⟨_, r3, _⟩ := g_eviR (no := (nxV (nxS y.1 6) 8).toNat) i2; refine ⟨(nxS y.1 6, 8), ⟨(by repeat' first | exact trivial | exact rfl | exact rowsR _ _ | exact famR _ | exact row0 | exact le0 _ | exact Nat.le_refl _ | exact Nat.zero_le _ | refine And.intro ?_ ?_), ⟨⟨rfl, fun _ _ => rfl⟩, trivial⟩, n1.2.2.le (by omega), e8⟩, (y.2, (nxV (nxS y.1 6) 8).toNat), ⟨⟨eqS _, by dsimp only; omega, trivial⟩, i2.inv, by omega⟩, i64_rng (by omega), ⟨x.val + 1, hlt⟩, ?_, by unfold Lt; dsimp only; omega⟩
      dsimp only; rw [e1, es]; exact ⟨⟨⟨rfl, rfl⟩, ⟨rfl, rfl⟩, ⟨rfl, rfl⟩, by rw [r3], by omega, trivial⟩, (by repeat' first | exact trivial | exact rfl | exact rowsR _ _ | exact famR _ | exact row0 | exact le0 _ | exact Nat.le_refl _ | exact Nat.zero_le _ | refine And.intro ?_ ?_)⟩
    · have hv : ¬ nxV y.1 6 = 0 := fun e => by rw [e] at hv; cases hv
      have hw : ¬ nxV y.1 6 = 1 := fun e => by rw [e] at hw; cases hw
      have hz : nxV y.1 6 = 2 := eq_of_beq hz; have es : dStep y = (nxS (nxS y.1 6) 8, (fetS y.2 (nxV (nxS y.1 6) 8).toNat).1) := by unfold dStep; dsimp only; rw [if_neg hv, if_neg hw, if_pos hz]
      obtain ⟨⟨_, _, _, r3, _⟩, _⟩ := g_fet (no := (nxV (nxS y.1 6) 8).toNat) i2 (by omega)
      refine ⟨(nxS y.1 6, 8), ⟨(by repeat' first | exact trivial | exact rfl | exact rowsR _ _ | exact famR _ | exact row0 | exact le0 _ | exact Nat.le_refl _ | exact Nat.zero_le _ | refine And.intro ?_ ?_), ⟨⟨rfl, fun _ _ => rfl⟩, trivial⟩, n1.2.2.le (by omega), e8⟩, (y.2, (nxV (nxS y.1 6) 8).toNat), ⟨⟨eqS _, by dsimp only; omega, trivial⟩, i2.inv, by omega⟩, i64_rng (by omega), ⟨x.val + 1, hlt⟩, ?_, by unfold Lt; dsimp only; omega⟩
      dsimp only; rw [e1, es]; exact ⟨⟨⟨rfl, rfl⟩, ⟨rfl, rfl⟩, ⟨rfl, rfl⟩, by rw [r3], by omega, trivial⟩, (by repeat' first | exact trivial | exact rfl | exact rowsR _ _ | exact famR _ | exact row0 | exact le0 _ | exact Nat.le_refl _ | exact Nat.zero_le _ | refine And.intro ?_ ?_)⟩
    · have hv : ¬ nxV y.1 6 = 0 := fun e => by rw [e] at hv; cases hv
      have hw : ¬ nxV y.1 6 = 1 := fun e => by rw [e] at hw; cases hw
      have hz : ¬ nxV y.1 6 = 2 := fun e => by rw [e] at hz; cases hz
      have es : dStep y = dPut (nxS y.1 6) y.2 := by unfold dStep; dsimp only; rw [if_neg hv, if_neg hw, if_neg hz]
      have n2 := nx_rng n8.2.2 (n := 4) (by decide)
      have n3 := nx_rng n2.2.2 (n := 3) (by decide)
      have ea : RowsEq 3 (fun (k : Nat) => List.take 1 (List.drop (k * 1) [T.str [], T.str [(114 : UInt8), (101 : UInt8), (99 : UInt8)], T.str [(114 : UInt8), (101 : UInt8), (99 : UInt8), (111 : UInt8), (114 : UInt8), (100 : UInt8)]])) (strRow afts) := fun i hi => by
        match i, hi with
        | 0, _ => rfl
        | 1, _ => rfl
        | 2, _ => rfl
      have l3 : afts.length = 3 := rfl; refine ⟨(nxS y.1 6, 8), ⟨(by repeat' first | exact trivial | exact rfl | exact rowsR _ _ | exact famR _ | exact row0 | exact le0 _ | exact Nat.le_refl _ | exact Nat.zero_le _ | refine And.intro ?_ ?_), ⟨⟨rfl, fun _ _ => rfl⟩, trivial⟩, n1.2.2.le (by omega), e8⟩, (nxS (nxS y.1 6) 8, 4), ⟨(by repeat' first | exact trivial | exact rfl | exact rowsR _ _ | exact famR _ | exact row0 | exact le0 _ | exact Nat.le_refl _ | exact Nat.zero_le _ | refine And.intro ?_ ?_), ⟨⟨rfl, fun _ _ => rfl⟩, trivial⟩, n8.2.2.le (by omega), e4⟩, (nxS (nxS (nxS y.1 6) 8) 4, afts), ⟨⟨⟨rfl, rfl⟩, ⟨rfl, ea⟩, trivial⟩, ⟨⟨rfl, fun _ _ => rfl⟩, trivial⟩, n2.2.2.le (by omega), by dsimp only; omega, by dsimp only; omega⟩, fun h0 => ?_, fun h0 => ?_⟩
      · have h0 : y.2.log.length = 0 := by have := eq_of_beq h0; omega
        have ed : dPut (nxS y.1 6) y.2 = (nxS (nxS (nxS (nxS y.1 6) 8) 4) 3, appX y.2 recB) := by unfold dPut; dsimp only; rw [if_pos h0, if_pos h0]
        refine ⟨(y.2, recB), ⟨⟨eqS _, (by repeat' first | exact trivial | exact rfl | exact rowsR _ _ | exact famR _ | exact row0 | exact le0 _ | exact Nat.le_refl _ | exact Nat.zero_le _ | refine And.intro ?_ ?_)⟩, by dsimp only; omega⟩, fun hb => (by cases hb), fun _ => ⟨i64_rng (by omega), ⟨x.val + 1, hlt⟩, ?_, by unfold Lt; dsimp only; omega⟩⟩
        dsimp only; rw [e1, es, ed]; exact ⟨⟨⟨rfl, rfl⟩, ⟨rfl, rfl⟩, ⟨rfl, rfl⟩, by unfold appX; simp, by omega, trivial⟩, (by repeat' first | exact trivial | exact rfl | exact rowsR _ _ | exact famR _ | exact row0 | exact le0 _ | exact Nat.le_refl _ | exact Nat.zero_le _ | refine And.intro ?_ ?_)⟩
      · have h0 : y.2.log.length ≠ 0 := fun e => by rw [e] at h0; simp at h0
        have ed : dPut (nxS y.1 6) y.2 = (nxS (nxS (nxS (nxS y.1 6) 8) 4) 3, (aplS (appX y.2 (recU y.2.log.length (nxV (nxS y.1 6) 8) (nxV (nxS (nxS y.1 6) 8) 4) (afts.getD (nxV (nxS (nxS (nxS y.1 6) 8) 4) 3).toNat []))) (appR y.2 (recU y.2.log.length (nxV (nxS y.1 6) 8) (nxV (nxS (nxS y.1 6) 8) 4) (afts.getD (nxV (nxS (nxS (nxS y.1 6) 8) 4) 3).toNat [])))).1) := by unfold dPut; dsimp only; rw [if_neg h0, if_neg h0]
        have hr := recU_ok i2 h0 (by omega) ⟨n8.1, n8.2.1⟩ ⟨n2.1, n2.2.1⟩ (afts_le (nxV (nxS (nxS (nxS y.1 6) 8) 4) 3).toNat)
        have ga := g_app i2 (by omega) hr
        have hla := appX_last y.2 (recU y.2.log.length (nxV (nxS y.1 6) 8) (nxV (nxS (nxS y.1 6) 8) 4) (afts.getD (nxV (nxS (nxS (nxS y.1 6) 8) 4) 3).toNat [])); have hL : (appX y.2 (recU y.2.log.length (nxV (nxS y.1 6) 8) (nxV (nxS (nxS y.1 6) 8) 4) (afts.getD (nxV (nxS (nxS (nxS y.1 6) 8) 4) 3).toNat []))).log.length = y.2.log.length + 1 := by unfold appX; simp
        obtain ⟨_, _, g3, _⟩ := g_apl ga (r := appR y.2 (recU y.2.log.length (nxV (nxS y.1 6) 8) (nxV (nxS (nxS y.1 6) 8) 4) (afts.getD (nxV (nxS (nxS (nxS y.1 6) 8) 4) 3).toNat []))) ⟨n8.1, n8.2.1⟩ ⟨n2.1, n2.2.1⟩ ⟨by show (1 : Int) <= (y.2.log.length : Int) + 1; omega, by show (y.2.log.length : Int) + 1 <= _; rw [hL]; omega⟩ (afts_le _)
        refine ⟨(y.2, recU y.2.log.length (nxV (nxS y.1 6) 8) (nxV (nxS (nxS y.1 6) 8) 4) (afts.getD (nxV (nxS (nxS (nxS y.1 6) 8) 4) 3).toNat [])), ⟨⟨eqS _, (by repeat' first | exact trivial | exact rfl | exact rowsR _ _ | exact famR _ | exact row0 | exact le0 _ | exact Nat.le_refl _ | exact Nat.zero_le _ | refine And.intro ?_ ?_)⟩, by dsimp only; omega⟩, fun _ => ⟨(appX y.2 (recU y.2.log.length (nxV (nxS y.1 6) 8) (nxV (nxS (nxS y.1 6) 8) 4) (afts.getD (nxV (nxS (nxS (nxS y.1 6) 8) 4) 3).toNat [])), ((y.2.log.length + 1 : Nat) : Int)), ⟨⟨eqS (appX _ _), rfl, trivial⟩, ga.inv, by dsimp only; omega, by dsimp only; rw [hL]; exact Int.le_refl _⟩, i64_rng (by omega), ⟨x.val + 1, hlt⟩, ?_, by unfold Lt; dsimp only; omega⟩, fun hb => (by cases hb)⟩
        have ei : aplI (appX y.2 (recU y.2.log.length (nxV (nxS y.1 6) 8) (nxV (nxS (nxS y.1 6) 8) 4) (afts.getD (nxV (nxS (nxS (nxS y.1 6) 8) 4) 3).toNat []))) ((y.2.log.length + 1 : Nat) : Int) = aplS (appX y.2 (recU y.2.log.length (nxV (nxS y.1 6) 8) (nxV (nxS (nxS y.1 6) 8) 4) (afts.getD (nxV (nxS (nxS (nxS y.1 6) 8) 4) 3).toNat []))) (appR y.2 (recU y.2.log.length (nxV (nxS y.1 6) 8) (nxV (nxS (nxS y.1 6) 8) 4) (afts.getD (nxV (nxS (nxS (nxS y.1 6) 8) 4) 3).toNat []))) := by
          unfold aplI; rw [show (((y.2.log.length + 1 : Nat) : Int) - 1).toNat = y.2.log.length by omega, hla]
        dsimp only; rw [e1, es, ed, ei]; exact ⟨⟨⟨rfl, rfl⟩, ⟨rfl, rfl⟩, ⟨rfl, rfl⟩, by rw [g3, hL], by omega, trivial⟩, (by repeat' first | exact trivial | exact rfl | exact rowsR _ _ | exact famR _ | exact row0 | exact le0 _ | exact Nat.le_refl _ | exact Nat.zero_le _ | refine And.intro ?_ ?_)⟩
  · have hx : x.val = dMany c := by have := x.2; have := of_decide_eq_false hc; omega
    rw [hx]; have hI := d_inv c (dMany c) (Nat.le_refl _); exact ⟨(dEnd c).2, ⟨⟨eqS _, trivial⟩, hI.2.1.sm⟩, ⟨⟨⟨rfl, rfl⟩, ⟨rfl, rfl⟩, rfl, ⟨rfl, rfl⟩, rfl, ⟨rfl, rfl⟩, rfl, ⟨rfl, rfl⟩, rfl, trivial⟩, trivial⟩, ⟨rfl, rfl, rfl, rfl, rfl, trivial⟩, ⟨rfl, rowsR _ _⟩, ⟨rfl, rowsR _ _⟩, ⟨rfl, rowsR _ _⟩, ⟨rfl, rowsR _ _⟩, ⟨rfl, rfl, famR _⟩, trivial⟩
def StY : Type := {x : List UInt8 × Src × Sto // x.2 = dEnd x.1}
noncomputable def k_storeY : Con := .reff ⟨StY, fun _ => [.ref 0 0 0], fun x => [srcB (srcN x.1.1)], fun x => .agg (x.1.2.2.tm 1), fun x => [srcB x.1.2.1] ++ x.1.2.2.hp 0, fun _ => True⟩
theorem call_storeY : Callable Tryz.prog 44 := ⟨_, Tryz.func44, by kernel_rfl, by kernel_rfl⟩
theorem storeY_ok : ConOk Tryz.prog 44 k_storeY := fun x _ => by
  obtain ⟨⟨c, y⟩, h⟩ := x; dsimp only at h; subst h; exact store_ok c trivial
noncomputable def k_StoreOf : Con := .rmk ⟨List UInt8, fun c => [.bys c], fun _ => [], fun c => .agg ((dEnd c).2.tm 0), fun c => (dEnd c).2.hp 0, fun c => c.length <= 1048576⟩
noncomputable def b_StoreOf : Code := Tryz.f11.body.getD .skip
theorem v_StoreOf (c : List UInt8) (y : Src × Sto) (h :
    ∃ (x : (List UInt8)), ((c = x /\ True) /\ True /\ List.length x <= 1048576) /\ ∃ (x_1 : StY), (((0 = 0 /\ 0 = 0) /\ True) /\ ((1 = 1 /\ RowsEq 1 (fun (x_2 : Nat) => [T.bys x, T.int .i64 (↑(0 : Nat) : Int), T.int .i64 ((↑(List.length x) :
    Int).tmod (1000 : Int))]) fun (x : Nat) => [T.bys x_1.val.fst, T.int .i64 (↑(0 : Nat) : Int), T.int .i64 ((x_1.val.fst.length:Int).tmod (1000 : Int))]) /\ True) /\ True) /\ (((0 = 0 /\ x_1.val.snd.snd.d.sec.length =
    y.snd.d.sec.length) /\ (0 = 0 /\ x_1.val.snd.snd.d.cache.length = y.snd.d.cache.length) /\ x_1.val.snd.snd.d.armed = y.snd.d.armed /\ (0 = 0 /\ x_1.val.snd.snd.d.keep.length = y.snd.d.keep.length) /\ x_1.val.snd.snd.ep = y.snd.ep /\ (0 =
    0 /\ x_1.val.snd.snd.log.length = y.snd.log.length) /\ x_1.val.snd.snd.sure = y.snd.sure /\ (0 = 0 /\ x_1.val.snd.snd.fr.length = y.snd.fr.length) /\ x_1.val.snd.snd.hand = y.snd.hand /\ True) /\ True) /\ (EqL strRow x_1.val.snd.snd.d.sec
    y.snd.d.sec) /\ (EqL pendRow x_1.val.snd.snd.d.cache y.snd.d.cache) /\ (EqL intRow x_1.val.snd.snd.d.keep y.snd.d.keep) /\ (EqL recRow x_1.val.snd.snd.log y.snd.log) /\ (0 = 0 /\ x_1.val.snd.snd.fr.length = y.snd.fr.length /\ FamEq
    x_1.val.snd.snd.fr.length (famRow x_1.val.snd.snd.fr) (famRow y.snd.fr)) /\ True) :
    EffFn Tryz.prog 11 [.bys c] [] (.agg (y.2.tm 0)) (y.2.hp 0) :=
  vcG (code := b_StoreOf) (gC l00Source_ok call_l00Source (gC storeY_ok call_storeY gN)) Tryz.func11 (by kernel_rfl) (by kernel_rfl) noAnn [[.arr 2, .arr 3, .arr 4, .arr 5, .arr 6], [.arr 3, .arr 4, .arr 5, .arr 6, .arr 7]] h (by kernel_rfl)
theorem StoreOf_ok : ConOk Tryz.prog 11 k_StoreOf := fun c _ => ⟨v_StoreOf c (dEnd c) ⟨c, ⟨⟨rfl, trivial⟩, trivial, by assumption⟩, ⟨(c, dEnd c), rfl⟩, ⟨(by repeat' first | exact trivial | exact rfl | exact rowsR _ _ | exact famR _ | exact row0 | exact le0 _ | exact Nat.le_refl _ | exact Nat.zero_le _ | refine And.intro ?_ ?_), ⟨⟨rfl, fun _ _ => rfl⟩, trivial⟩, trivial⟩, ⟨⟨⟨rfl, rfl⟩, ⟨rfl, rfl⟩, rfl, ⟨rfl, rfl⟩, rfl, ⟨rfl, rfl⟩, rfl, ⟨rfl, rfl⟩, rfl, trivial⟩, trivial⟩, ⟨rfl, rowsR _ _⟩, ⟨rfl, rowsR _ _⟩, ⟨rfl, rowsR _ _⟩, ⟨rfl, rowsR _ _⟩, ⟨rfl, rfl, famR _⟩, trivial⟩, rfl, plain_sto _ 0⟩
theorem dEnd_inv (c : List UInt8) : GInv (dEnd c).2 /\ (dEnd c).2.log.length <= 13 := by
  obtain ⟨_, h1, h2⟩ := d_inv c (dMany c) (Nat.le_refl _); exact ⟨h1, by have := (d_many c).1; show (dIter (dBeg c) (dMany c)).2.log.length <= _; omega⟩
end Go.Proofs.YtndilbkocjlgpaaGreat

namespace Go.Proofs.YtndilbkocjlgpaaGreat
set_option maxRecDepth 100000
open Go.SS

def k_sameTexts : Con := .rel r_eqStrS
def A_same (t : T) (n : Nat) : Nat -> Ann
  | 0 => .one {i : Nat // i <= n} (fun x => ⟨[(0, t), (1, t), (5, .int .i64 x.1)], []⟩) (fun x => n - x.1) [] [] (fun _ => noAnn)
  | _ => .none
noncomputable def b_sameTexts : Code := Tryz.f89.body.getD .skip
theorem call_sameTexts : Callable Tryz.prog 89 := ⟨_, Tryz.func89, by kernel_rfl, by kernel_rfl⟩
theorem v_sameTexts (L : List (List UInt8)) (h :
    (((L.length:Int) != (L.length:Int)) = true -> false = true) /\ (((L.length:Int) != (L.length:Int)) = false -> (∃ (x : { i : Nat // i <= L.length }), ((EqL strRow L L) /\ (EqL strRow L L) /\ (0 : Int) = (x.val:Int) /\ True) /\ True) /\ ∀ (x
    : { i : Nat // i <= L.length }), (decide ((x.val:Int) < (L.length:Int)) = true -> InB (x.val:Int) L.length /\ InB (x.val:Int) L.length /\ ((!L.getD (x.val:Int).toNat [] == L.getD (x.val:Int).toNat []) = true -> false = true) /\
    ((!L.getD (x.val:Int).toNat [] == L.getD (x.val:Int).toNat []) = false -> Rng .i64 ((x.val:Int) + (1 : Int)) /\ ∃ (y : { i : Nat // i <= L.length }), (((EqL strRow L L) /\ (EqL strRow L L) /\ (x.val:Int) + (1 : Int) = (y.val:Int) /\
    True) /\ True) /\ Lt (L.length - y.val) (L.length - x.val))) /\ (decide ((x.val:Int) < (L.length:Int)) = false -> true = true))) :
    PureFn Tryz.prog 89 [strS L, strS L] (.bool true) :=
  vcR (code := b_sameTexts) gN Tryz.func89 (by kernel_rfl) (by kernel_rfl) (A_same (strS L) L.length) h (by kernel_rfl)
theorem sameTexts_ok : ConOk Tryz.prog 89 k_sameTexts := by
  intro (L : List (List UInt8)) (hL : L.length <= 1048576); refine v_sameTexts L ⟨fun h => by simp at h, fun _ => ⟨⟨⟨0, Nat.zero_le _⟩, ⟨⟨(by trivial), rowsR _ _⟩, ⟨(by trivial), rowsR _ _⟩, rfl, trivial⟩, trivial⟩, fun x => ⟨fun hc => ?_, fun _ => rfl⟩⟩⟩
  have hlt := lt_of_dec hc; exact ⟨inB_nat hlt, inB_nat hlt, fun h => by simp at h, fun _ => ⟨add_rng hlt (by omega), ⟨x.val + 1, hlt⟩, ⟨⟨⟨(by trivial), rowsR _ _⟩, ⟨(by trivial), rowsR _ _⟩, by simp only; omega, trivial⟩, trivial⟩, Cnt.ext_lt hlt⟩⟩
def k_sameInts : Con := .rel r_eqIntS
noncomputable def b_sameInts : Code := Tryz.f39.body.getD .skip
theorem call_sameInts : Callable Tryz.prog 39 := ⟨_, Tryz.func39, by kernel_rfl, by kernel_rfl⟩
theorem v_sameInts (L : List Int) (h :
    (((L.length:Int) != (L.length:Int)) = true -> false = true) /\ (((L.length:Int) != (L.length:Int)) = false -> (∃ (x : { i : Nat // i <= L.length }), ((EqL intRow L L) /\ (EqL intRow L L) /\ (0 : Int) = (x.val:Int) /\ True) /\ True) /\ ∀ (x
    : { i : Nat // i <= L.length }), (decide ((x.val:Int) < (L.length:Int)) = true -> InB (x.val:Int) L.length /\ InB (x.val:Int) L.length /\ ((L.getD (x.val:Int).toNat (0 : Int) != L.getD (x.val:Int).toNat (0 : Int)) = true -> false =
    true) /\ ((L.getD (x.val:Int).toNat (0 : Int) != L.getD (x.val:Int).toNat (0 : Int)) = false -> Rng .i64 ((x.val:Int) + (1 : Int)) /\ ∃ (y : { i : Nat // i <= L.length }), (((EqL intRow L L) /\ (EqL intRow L L) /\ (x.val:Int) + (1 :
    Int) = (y.val:Int) /\ True) /\ True) /\ Lt (L.length - y.val) (L.length - x.val))) /\ (decide ((x.val:Int) < (L.length:Int)) = false -> true = true))) :
    PureFn Tryz.prog 39 [intS L, intS L] (.bool true) :=
  vcR (code := b_sameInts) gN Tryz.func39 (by kernel_rfl) (by kernel_rfl) (A_same (intS L) L.length) h (by kernel_rfl)
theorem sameInts_ok : ConOk Tryz.prog 39 k_sameInts := by
  intro (L : List (Int)) (hL : L.length <= 1048576); refine v_sameInts L ⟨fun h => by simp at h, fun _ => ⟨⟨⟨0, Nat.zero_le _⟩, ⟨⟨(by trivial), rowsR _ _⟩, ⟨(by trivial), rowsR _ _⟩, rfl, trivial⟩, trivial⟩, fun x => ⟨fun hc => ?_, fun _ => rfl⟩⟩⟩
  have hlt := lt_of_dec hc; exact ⟨inB_nat hlt, inB_nat hlt, fun h => by simp at h, fun _ => ⟨add_rng hlt (by omega), ⟨x.val + 1, hlt⟩, ⟨⟨⟨(by trivial), rowsR _ _⟩, ⟨(by trivial), rowsR _ _⟩, by simp only; omega, trivial⟩, trivial⟩, Cnt.ext_lt hlt⟩⟩
def k_sameLog : Con := .rel r_eqRecS
noncomputable def b_sameLog : Code := Tryz.f19.body.getD .skip
theorem call_sameLog : Callable Tryz.prog 19 := ⟨_, Tryz.func19, by kernel_rfl, by kernel_rfl⟩
theorem v_sameLog (L : List Rec) (h :
    (((L.length:Int) != (L.length:Int)) = true -> false = true) /\ (((L.length:Int) != (L.length:Int)) = false -> (∃ (x : { i : Nat // i <= L.length }), ((EqL recRow L L) /\ (EqL recRow L L) /\ (0 : Int) = (x.val:Int) /\ True) /\ True) /\ ∀ (x
    : { i : Nat // i <= L.length }), (decide ((x.val:Int) < (L.length:Int)) = true -> InB (x.val:Int) L.length /\ InB (x.val:Int) L.length /\ ((!((L.getD (x.val:Int).toNat default).e == (L.getD (x.val:Int).toNat default).e && ((L.getD
    (x.val:Int).toNat default).l == (L.getD (x.val:Int).toNat default).l && ((L.getD (x.val:Int).toNat default).t == (L.getD (x.val:Int).toNat default).t && ((L.getD (x.val:Int).toNat default).k == (L.getD (x.val:Int).toNat default).k
    && ((L.getD (x.val:Int).toNat default).p == (L.getD (x.val:Int).toNat default).p && ((L.getD (x.val:Int).toNat default).n == (L.getD (x.val:Int).toNat default).n && ((L.getD (x.val:Int).toNat default).g == (L.getD
    (x.val:Int).toNat default).g && ((L.getD (x.val:Int).toNat default).s == (L.getD (x.val:Int).toNat default).s && ((L.getD (x.val:Int).toNat default).b == (L.getD (x.val:Int).toNat default).b && ((L.getD (x.val:Int).toNat
    default).a == (L.getD (x.val:Int).toNat default).a && true))))))))))) = true -> false = true) /\ ((!((L.getD (x.val:Int).toNat default).e == (L.getD (x.val:Int).toNat default).e && ((L.getD (x.val:Int).toNat default).l == (L.getD
    (x.val:Int).toNat default).l && ((L.getD (x.val:Int).toNat default).t == (L.getD (x.val:Int).toNat default).t && ((L.getD (x.val:Int).toNat default).k == (L.getD (x.val:Int).toNat default).k && ((L.getD (x.val:Int).toNat
    default).p == (L.getD (x.val:Int).toNat default).p && ((L.getD (x.val:Int).toNat default).n == (L.getD (x.val:Int).toNat default).n && ((L.getD (x.val:Int).toNat default).g == (L.getD (x.val:Int).toNat default).g && ((L.getD
    (x.val:Int).toNat default).s == (L.getD (x.val:Int).toNat default).s && ((L.getD (x.val:Int).toNat default).b == (L.getD (x.val:Int).toNat default).b && ((L.getD (x.val:Int).toNat default).a == (L.getD (x.val:Int).toNat default).a
    && true))))))))))) = false -> Rng .i64 ((x.val:Int) + (1 : Int)) /\ ∃ (y : { i : Nat // i <= L.length }), (((EqL recRow L L) /\ (EqL recRow L L) /\ (x.val:Int) + (1 : Int) = (y.val:Int) /\ True) /\ True) /\ Lt (L.length - y.val) (L.length
    - x.val))) /\ (decide ((x.val:Int) < (L.length:Int)) = false -> true = true))) :
    PureFn Tryz.prog 19 [recS L, recS L] (.bool true) :=
  vcR (code := b_sameLog) gN Tryz.func19 (by kernel_rfl) (by kernel_rfl) (A_same (recS L) L.length) h (by kernel_rfl)
theorem sameLog_ok : ConOk Tryz.prog 19 k_sameLog := by
  intro (L : List (Rec)) (hL : L.length <= 1048576); refine v_sameLog L ⟨fun h => by simp at h, fun _ => ⟨⟨⟨0, Nat.zero_le _⟩, ⟨⟨(by trivial), rowsR _ _⟩, ⟨(by trivial), rowsR _ _⟩, rfl, trivial⟩, trivial⟩, fun x => ⟨fun hc => ?_, fun _ => rfl⟩⟩⟩
  have hlt := lt_of_dec hc; exact ⟨inB_nat hlt, inB_nat hlt, fun h => by simp at h, fun _ => ⟨add_rng hlt (by omega), ⟨x.val + 1, hlt⟩, ⟨⟨⟨(by trivial), rowsR _ _⟩, ⟨(by trivial), rowsR _ _⟩, by simp only; omega, trivial⟩, trivial⟩, Cnt.ext_lt hlt⟩⟩
def k_samePage : Con := .rel r_eqPg
noncomputable def b_samePage : Code := Tryz.f37.body.getD .skip
theorem call_samePage : Callable Tryz.prog 37 := ⟨_, Tryz.func37, by kernel_rfl, by kernel_rfl⟩
theorem v_samePage (p : Pg) (h :
    ∃ (x : r_eqStrS.ι), ((p.lsn == p.lsn) = true -> ((p.sl.length = List.length x /\ RowsEq p.sl.length (strRow p.sl) (strRow x)) /\ (p.sl.length = List.length x /\ RowsEq p.sl.length (strRow p.sl) (strRow x)) /\ True) /\ List.length x <=
    1048576) /\ (p.lsn == p.lsn && true) = true) :
    PureFn Tryz.prog 37 [.agg p.ts, .agg p.ts] (.bool true) :=
  vcR (code := b_samePage) (gC sameTexts_ok call_sameTexts gN) Tryz.func37 (by kernel_rfl) (by kernel_rfl) noAnn h (by kernel_rfl)
theorem samePage_ok : ConOk Tryz.prog 37 k_samePage := fun (p : Pg) h1 => v_samePage p ⟨p.sl, fun _ => ⟨⟨⟨rfl, rowsR _ _⟩, ⟨rfl, rowsR _ _⟩, trivial⟩, h1⟩, by simp⟩
def A_sameDisk (d : Dsk) : Nat -> Ann
  | 0 => .one {i : Nat // i <= d.cache.length} (fun x => ⟨[(2, .ref 0 0 0), (3, .ref 1 0 0), (5, .int .i64 x.1)], [dskBox d, dskBox d]⟩) (fun x => d.cache.length - x.1) [.box 0, .box 1] [.box 0, .box 1] (fun _ => noAnn)
  | _ => .none
def k_sameDisk : Con := .rel r_eqDsk
noncomputable def b_sameDisk : Code := Tryz.f53.body.getD .skip
theorem call_sameDisk : Callable Tryz.prog 53 := ⟨_, Tryz.func53, by kernel_rfl, by kernel_rfl⟩
theorem v_sameDisk (d : Dsk) (h :
    ∃ (x : r_eqStrS.ι), (((d.sec.length = List.length x /\ RowsEq d.sec.length (strRow d.sec) (strRow x)) /\ (d.sec.length = List.length x /\ RowsEq d.sec.length (strRow d.sec) (strRow x)) /\ True) /\ List.length x <= 1048576) /\ ∃ (x :
    r_eqIntS.ι), ((false || (d.cache.length:Int) != (d.cache.length:Int) || !d.armed == d.armed) = false -> ((d.keep.length = List.length x /\ RowsEq d.keep.length (intRow d.keep) (intRow x)) /\ (d.keep.length = List.length x /\ RowsEq
    d.keep.length (intRow d.keep) (intRow x)) /\ True) /\ List.length x <= 1048576) /\ ((false || (d.cache.length:Int) != (d.cache.length:Int) || !d.armed == d.armed || false) = true -> false = true) /\ ((false || (d.cache.length:Int) !=
    (d.cache.length:Int) || !d.armed == d.armed || false) = false -> (∃ (x : { i : Nat // i <= d.cache.length }), ((0 = 0 /\ 0 = 0) /\ (0 = 0 /\ 0 = 0) /\ (0 : Int) = (x.val:Int) /\ True) /\ (1 = 1 /\ 1 = 1 /\ EqD d d) /\ (1 = 1 /\ 1 = 1 /\ EqD d
    d) /\ True) /\ ∀ (x : { i : Nat // i <= d.cache.length }), (decide ((x.val:Int) < (d.cache.length:Int)) = true -> InB (x.val:Int) d.cache.length /\ InB (x.val:Int) d.cache.length /\ ((!((d.cache.getD (x.val:Int).toNat default).at_ ==
    (d.cache.getD (x.val:Int).toNat default).at_ && ((d.cache.getD (x.val:Int).toNat default).d == (d.cache.getD (x.val:Int).toNat default).d && true))) = true -> false = true) /\ ((!((d.cache.getD (x.val:Int).toNat default).at_ ==
    (d.cache.getD (x.val:Int).toNat default).at_ && ((d.cache.getD (x.val:Int).toNat default).d == (d.cache.getD (x.val:Int).toNat default).d && true))) = false -> Rng .i64 ((x.val:Int) + (1 : Int)) /\ ∃ (y : { i : Nat // i <=
    d.cache.length }), (((0 = 0 /\ 0 = 0) /\ (0 = 0 /\ 0 = 0) /\ (x.val:Int) + (1 : Int) = (y.val:Int) /\ True) /\ (1 = 1 /\ 1 = 1 /\ EqD d d) /\ (1 = 1 /\ 1 = 1 /\ EqD d d) /\ True) /\ Lt (d.cache.length - y.val) (d.cache.length - x.val))) /\
    (decide ((x.val:Int) < (d.cache.length:Int)) = false -> true = true))) :
    PureFn Tryz.prog 53 [.agg d.ts, .agg d.ts] (.bool true) :=
  vcR (code := b_sameDisk) (gC sameTexts_ok call_sameTexts (gC sameInts_ok call_sameInts gN)) Tryz.func53 (by kernel_rfl) (by kernel_rfl) (A_sameDisk d) h (by kernel_rfl)
theorem sameDisk_ok : ConOk Tryz.prog 53 k_sameDisk := by
  rintro (d : Dsk) ⟨h1, h2, h3⟩; refine v_sameDisk d ⟨d.sec, ⟨⟨⟨rfl, rowsR _ _⟩, ⟨rfl, rowsR _ _⟩, trivial⟩, h1⟩, d.keep, fun _ => ⟨⟨⟨rfl, rowsR _ _⟩, ⟨rfl, rowsR _ _⟩, trivial⟩, h3⟩, fun h => by simp at h, fun _ => ⟨⟨⟨0, Nat.zero_le _⟩, ⟨⟨rfl, rfl⟩, ⟨rfl, rfl⟩, rfl, trivial⟩, ⟨rfl, rfl, eqD _⟩, ⟨rfl, rfl, eqD _⟩, trivial⟩, fun x => ⟨fun hc => ?_, fun _ => rfl⟩⟩⟩
  have hlt := lt_of_dec hc; exact ⟨inB_nat hlt, inB_nat hlt, fun h => by simp at h, fun _ => ⟨add_rng hlt (by omega), ⟨x.val + 1, hlt⟩, ⟨⟨⟨rfl, rfl⟩, ⟨rfl, rfl⟩, by simp only; omega, trivial⟩, ⟨rfl, rfl, eqD _⟩, ⟨rfl, rfl, eqD _⟩, trivial⟩, Cnt.ext_lt hlt⟩⟩
def A_sameStore (s : Sto) : Nat -> Ann
  | 0 => .one {i : Nat // i <= s.fr.length} (fun x => ⟨[(2, .ref 0 0 0), (3, .ref 1 0 0), (5, .int .i64 x.1)], [stoBox s, stoBox s]⟩) (fun x => s.fr.length - x.1) [.box 0, .box 1] [.box 0, .box 1] (fun _ => noAnn)
  | _ => .none
def k_sameStore : Con := .rel r_eqSto
noncomputable def b_sameStore : Code := Tryz.f14.body.getD .skip
theorem call_sameStore : Callable Tryz.prog 14 := ⟨_, Tryz.func14, by kernel_rfl, by kernel_rfl⟩
theorem v_sameStore (s : Sto) (h :
    ∃ (x : r_eqDsk.ι), (((EqD s.d x) /\ (EqD s.d x) /\ True) /\ SmD x) /\ ∃ (x : r_eqRecS.ι), ((false || s.ep != s.ep) = false -> ((s.log.length = List.length x /\ RowsEq s.log.length (recRow s.log) (recRow x)) /\ (s.log.length = List.length
    x /\ RowsEq s.log.length (recRow s.log) (recRow x)) /\ True) /\ List.length x <= 1048576) /\ ((false || s.ep != s.ep || false || s.sure != s.sure || s.hand != s.hand || (s.fr.length:Int) != (s.fr.length:Int)) = true -> false = true) /\
    ((false || s.ep != s.ep || false || s.sure != s.sure || s.hand != s.hand || (s.fr.length:Int) != (s.fr.length:Int)) = false -> (∃ (x : { i : Nat // i <= s.fr.length }), ((0 = 0 /\ 0 = 0) /\ (0 = 0 /\ 0 = 0) /\ (0 : Int) = (x.val:Int) /\
    True) /\ (1 = 1 /\ 1 = 1 /\ EqS s s) /\ (1 = 1 /\ 1 = 1 /\ EqS s s) /\ True) /\ ∀ (x : { i : Nat // i <= s.fr.length }), (decide ((x.val:Int) < (s.fr.length:Int)) = true -> InB (x.val:Int) s.fr.length /\ InB (x.val:Int) s.fr.length /\ ∃ (x_1
    : r_eqPg.ι), (((s.fr.getD (x.val:Int).toNat default).no != (s.fr.getD (x.val:Int).toNat default).no || !(s.fr.getD (x.val:Int).toNat default).dirty == (s.fr.getD (x.val:Int).toNat default).dirty || (s.fr.getD (x.val:Int).toNat
    default).first != (s.fr.getD (x.val:Int).toNat default).first) = false -> (((s.fr.getD (x.val:Int).toNat default).pg.lsn = x_1.lsn /\ (EqL strRow (s.fr.getD (x.val:Int).toNat default).pg.sl x_1.sl) /\ True) /\ ((s.fr.getD
    (x.val:Int).toNat default).pg.lsn = x_1.lsn /\ (EqL strRow (s.fr.getD (x.val:Int).toNat default).pg.sl x_1.sl) /\ True) /\ True) /\ SmG x_1) /\ (((s.fr.getD (x.val:Int).toNat default).no != (s.fr.getD (x.val:Int).toNat default).no ||
    !(s.fr.getD (x.val:Int).toNat default).dirty == (s.fr.getD (x.val:Int).toNat default).dirty || (s.fr.getD (x.val:Int).toNat default).first != (s.fr.getD (x.val:Int).toNat default).first || false) = true -> false = true) /\
    (((s.fr.getD (x.val:Int).toNat default).no != (s.fr.getD (x.val:Int).toNat default).no || !(s.fr.getD (x.val:Int).toNat default).dirty == (s.fr.getD (x.val:Int).toNat default).dirty || (s.fr.getD (x.val:Int).toNat default).first
    != (s.fr.getD (x.val:Int).toNat default).first || false) = false -> Rng .i64 ((x.val:Int) + (1 : Int)) /\ ∃ (y : { i : Nat // i <= s.fr.length }), (((0 = 0 /\ 0 = 0) /\ (0 = 0 /\ 0 = 0) /\ (x.val:Int) + (1 : Int) = (y.val:Int) /\ True) /\
    (1 = 1 /\ 1 = 1 /\ EqS s s) /\ (1 = 1 /\ 1 = 1 /\ EqS s s) /\ True) /\ Lt (s.fr.length - y.val) (s.fr.length - x.val))) /\ (decide ((x.val:Int) < (s.fr.length:Int)) = false -> true = true))) :
    PureFn Tryz.prog 14 [.agg s.ts, .agg s.ts] (.bool true) :=
  vcR (code := b_sameStore) (gC sameDisk_ok call_sameDisk (gC sameLog_ok call_sameLog (gC samePage_ok call_samePage gN))) Tryz.func14 (by kernel_rfl) (by kernel_rfl) (A_sameStore s) h (by kernel_rfl)
theorem sameStore_ok : ConOk Tryz.prog 14 k_sameStore := by
  rintro (s : Sto) ⟨h1, h2, h3, h4⟩; refine v_sameStore s ⟨s.d, ⟨⟨eqD _, eqD _, trivial⟩, h1⟩, s.log, fun _ => ⟨⟨⟨rfl, rowsR _ _⟩, ⟨rfl, rowsR _ _⟩, trivial⟩, h2⟩, fun h => by simp at h, fun _ => ⟨⟨⟨0, Nat.zero_le _⟩, ⟨⟨rfl, rfl⟩, ⟨rfl, rfl⟩, rfl, trivial⟩, ⟨rfl, rfl, eqS _⟩, ⟨rfl, rfl, eqS _⟩, trivial⟩, fun x => ⟨fun hc => ?_, fun _ => rfl⟩⟩⟩
  have hlt := lt_of_dec hc; exact ⟨inB_nat hlt, inB_nat hlt, (s.fr.getD x.val default).pg, fun _ => ⟨⟨⟨rfl, ⟨rfl, rowsR _ _⟩, trivial⟩, ⟨rfl, ⟨rfl, rowsR _ _⟩, trivial⟩, trivial⟩, h4 _ hlt⟩, fun h => by simp at h, fun _ => ⟨add_rng hlt (by omega), ⟨x.val + 1, hlt⟩, ⟨⟨⟨rfl, rfl⟩, ⟨rfl, rfl⟩, by simp only; omega, trivial⟩, ⟨rfl, rfl, eqS _⟩, ⟨rfl, rfl, eqS _⟩, trivial⟩, Cnt.ext_lt hlt⟩⟩
def atV (l : List UInt8) (i n : Nat) : Int := if n <= 1 then 0 else if l.length = 0 then ((i : Int) * 7).tmod n else
  (((l.getD ((i : Int).tmod l.length).toNat 0).toNat : Int) * 31 + ((l.getD (((i : Int) + 1).tmod l.length).toNat 0).toNat : Int) + (i : Int).tdiv l.length).tmod n
theorem at_rng (l : List UInt8) {i n : Nat} (hn : 1 <= n) : 0 <= atV l i n /\ atV l i n < n := by
  unfold atV; split
  · omega
  · split
    · exact tmod_rng (by omega) (by omega)
    · exact tmod_rng (by have := Int.tdiv_nonneg (a := (i : Int)) (b := (l.length : Int)) (by omega) (by omega); omega) (by omega)
def k_at : Con := .rel ⟨List UInt8 × Nat × Nat, fun x => [.bys x.1, .int .i64 x.2.1, .int .i64 x.2.2], fun x => .int .i64 (atV x.1 x.2.1 x.2.2), fun x => x.2.1 <= 100 /\ x.2.2 <= 1000 /\ x.1.length <= 1048576⟩
noncomputable def b_at : Code := Tryz.f17.body.getD .skip
theorem call_at : Callable Tryz.prog 17 := ⟨_, Tryz.func17, by kernel_rfl, by kernel_rfl⟩
theorem v_at (l : List UInt8) (i n : Nat) (h :
    (decide ((n:Int) <= (1 : Int)) = true -> (0 : Int) = atV l i n) /\ (decide ((n:Int) <= (1 : Int)) = false -> (((l.length:Int) == (0 : Int)) = true -> Rng .i64 ((i:Int) * (7 : Int)) /\ Nz (n:Int) /\ ((i:Int) * (7 : Int)).tmod (n:Int) = atV
    l i n) /\ (((l.length:Int) == (0 : Int)) = false -> Nz (l.length:Int) /\ InB ((i:Int).tmod (l.length:Int)) l.length /\ Rng .i64 (IntKind.i64.wrap (↑(l.getD ((i:Int).tmod (l.length:Int)).toNat (0 : UInt8)).toNat : Int) * (31 : Int)) /\
    Rng .i64 ((i:Int) + (1 : Int)) /\ Nz (l.length:Int) /\ InB (((i:Int) + (1 : Int)).tmod (l.length:Int)) l.length /\ Rng .i64 (IntKind.i64.wrap (↑(l.getD ((i:Int).tmod (l.length:Int)).toNat (0 : UInt8)).toNat : Int) * (31 : Int) +
    IntKind.i64.wrap (↑(l.getD (((i:Int) + (1 : Int)).tmod (l.length:Int)).toNat (0 : UInt8)).toNat : Int)) /\ (Nz (l.length:Int) /\ Rng .i64 ((i:Int).tdiv (l.length:Int))) /\ Rng .i64 (IntKind.i64.wrap (↑(l.getD ((i:Int).tmod
    (l.length:Int)).toNat (0 : UInt8)).toNat : Int) * (31 : Int) + IntKind.i64.wrap (↑(l.getD (((i:Int) + (1 : Int)).tmod (l.length:Int)).toNat (0 : UInt8)).toNat : Int) + (i:Int).tdiv (l.length:Int)) /\ Nz (n:Int) /\ (IntKind.i64.wrap
    (↑(l.getD ((i:Int).tmod (l.length:Int)).toNat (0 : UInt8)).toNat : Int) * (31 : Int) + IntKind.i64.wrap (↑(l.getD (((i:Int) + (1 : Int)).tmod (l.length:Int)).toNat (0 : UInt8)).toNat : Int) + (i:Int).tdiv (l.length:Int)).tmod
    (n:Int) = atV l i n))) :
    PureFn Tryz.prog 17 [.bys l, .int .i64 i, .int .i64 n] (.int .i64 (atV l i n)) :=
  vcR (code := b_at) gN Tryz.func17 (by kernel_rfl) (by kernel_rfl) noAnn h (by kernel_rfl)
theorem at_ok : ConOk Tryz.prog 17 k_at := by
  rintro ⟨l, i, n⟩ ⟨h1, h2, h3⟩; dsimp only at h1 h2 h3; have e1 : n <= 1 -> atV l i n = 0 := fun h => by unfold atV; rw [if_pos h]
  have e2 : ¬ n <= 1 -> l.length = 0 -> atV l i n = ((i : Int) * 7).tmod n := fun h g => by unfold atV; rw [if_neg h, if_pos g]
  have e3 : ¬ n <= 1 -> ¬ l.length = 0 -> atV l i n = (((l.getD ((i : Int).tmod l.length).toNat 0).toNat : Int) * 31 + ((l.getD (((i : Int) + 1).tmod l.length).toNat 0).toNat : Int) + (i : Int).tdiv l.length).tmod n := fun h g => by unfold atV; rw [if_neg h, if_neg g]
  refine v_at l i n ⟨fun hc => ?_, fun hc => ⟨fun hd => ?_, fun hd => ?_⟩⟩
  · have := of_decide_eq_true hc; exact (e1 (by omega)).symm
  · have := of_decide_eq_false hc; have hd := eq_of_beq hd; exact ⟨i64_rng (by omega), by unfold Nz; omega, (e2 (by omega) (by omega)).symm⟩
  · have := of_decide_eq_false hc; have hd : ¬ l.length = 0 := fun e => by rw [e] at hd; cases hd
    have t1 := tmod_rng (a := (i : Int)) (n := (l.length : Int)) (by omega) (by omega)
    have t2 := tmod_rng (a := (i : Int) + 1) (n := (l.length : Int)) (by omega) (by omega)
    have t3 := Int.tdiv_nonneg (a := (i : Int)) (b := (l.length : Int)) (by omega) (by omega)
    have t4 : (i : Int).tdiv l.length <= i := Int.tdiv_le_self _ (by omega)
    have b1 := byte_lt l ((i : Int).tmod l.length).toNat; have b2 := byte_lt l (((i : Int) + 1).tmod l.length).toNat; rw [byte_nat, byte_nat]; exact ⟨by unfold Nz; omega, ⟨by omega, by omega⟩, i64_rng (by omega), i64_rng (by omega), by unfold Nz; omega, ⟨by omega, by omega⟩, i64_rng (by omega), ⟨by unfold Nz; omega, i64_rng (by omega)⟩, i64_rng (by omega), by unfold Nz; omega, (e3 (by omega) hd).symm⟩
end Go.Proofs.YtndilbkocjlgpaaGreat

namespace Go.Proofs.YtndilbkocjlgpaaGreat
set_option maxRecDepth 100000
open Go.SS

def dr (x : List UInt8) : Nat -> List UInt8
  | 0 => x
  | i + 1 => (dr x i).drop 1
def drF (x : List UInt8) : Nat -> Bool
  | 0 => false
  | i + 1 => drF x i || (dr x i).isEmpty
def rcE (x : List UInt8) : Fst := fsEnd (dr x 9) (drF x 9)
def rcX (x : List UInt8) : Rec := ⟨numR (dr x 1), numR (dr x 2), numR (dr x 3), numR (dr x 4), numR (dr x 5), numR (dr x 6), numR (dr x 7), numR (dr x 8), (rcE x).out.getD 0 [], (rcE x).out.getD 1 []⟩
def rcBad (x : List UInt8) : Bool := !(!(rcE x).fl && (rcE x).l.isEmpty) || numR x != 108 || (((rcE x).out.length : Nat) : Int) != 2
def rec0 : Rec := ⟨0, 0, 0, 0, 0, 0, 0, 0, [], []⟩
noncomputable def rdRc (b : List UInt8) : Rec × Int := if unsOK b = true then
    if rcBad (unsB b) = true then (rec0, 3) else if recOK (rcX (unsB b)) = true then (rcX (unsB b), 0) else (rec0, 3)
  else (rec0, 8)
def k_numI : Con := .reff ⟨List UInt8 × Nat, fun _ => [.ref 0 0 0], fun x => [rdr (dr x.1 x.2) (drF x.1 x.2)], fun x => .int .i64 (numR (dr x.1 x.2)), fun x => [rdr (dr x.1 (x.2 + 1)) (drF x.1 (x.2 + 1))], fun _ => True⟩
theorem call_numI : Callable Tryz.prog 167 := ⟨_, Tryz.func167, by kernel_rfl, by kernel_rfl⟩
theorem numI_ok : ConOk Tryz.prog 167 k_numI := fun x _ => num_ok _ _ _ _ none rfl trivial
noncomputable def k_ReadRecord : Con := .rel ⟨List UInt8, fun b => [.bys b], fun b => .tup [.agg (rdRc b).1.ts, .int .i64 (rdRc b).2], RdB⟩
noncomputable def b_ReadRecord : Code := Tryz.f114.body.getD .skip
theorem call_ReadRecord : Callable Tryz.prog 114 := ⟨_, Tryz.func114, by kernel_rfl, by kernel_rfl⟩
theorem v_ReadRecord (b : List UInt8) (h :
    (decide ((b.length:Int) > (65536 : Int)) = true -> ((0 : Int) = (rdRc b).fst.e /\ (0 : Int) = (rdRc b).fst.l /\ (0 : Int) = (rdRc b).fst.t /\ (0 : Int) = (rdRc b).fst.k /\ (0 : Int) = (rdRc b).fst.p /\ (0 : Int) = (rdRc b).fst.n /\ (0 :
    Int) = (rdRc b).fst.g /\ (0 : Int) = (rdRc b).fst.s /\ [] = (rdRc b).fst.b /\ [] = (rdRc b).fst.a /\ True) /\ (2 : Int) = (rdRc b).snd /\ True) /\ (decide ((b.length:Int) > (65536 : Int)) = false -> ∃ (x : r_unsealed.ι), ((b = x /\ True) /\
    Len31 x) /\ ((!unsOK x) = true -> ((0 : Int) = (rdRc b).fst.e /\ (0 : Int) = (rdRc b).fst.l /\ (0 : Int) = (rdRc b).fst.t /\ (0 : Int) = (rdRc b).fst.k /\ (0 : Int) = (rdRc b).fst.p /\ (0 : Int) = (rdRc b).fst.n /\ (0 : Int) = (rdRc
    b).fst.g /\ (0 : Int) = (rdRc b).fst.s /\ [] = (rdRc b).fst.b /\ [] = (rdRc b).fst.a /\ True) /\ (8 : Int) = (rdRc b).snd /\ True) /\ ((!unsOK x) = false -> ∃ (x_1 : (List UInt8 × Nat)), (((0 = 0 /\ 0 = 0) /\ True) /\ ((1 = 1 /\ RowsEq 1 (fun
    (x_2 : Nat) => [T.bys (unsB x), T.bool false]) fun (x : Nat) => [T.bys (dr x_1.fst x_1.snd), T.bool (drF x_1.fst x_1.snd)]) /\ True) /\ True) /\ ∃ (x : (List UInt8 × Nat)), (((0 = 0 /\ 0 = 0) /\ True) /\ ((1 = 1 /\ RowsEq 1 (fun (x :
    Nat) => [T.bys (dr x_1.fst (x_1.snd + 1)), T.bool (drF x_1.fst (x_1.snd + 1))]) fun (x_2 : Nat) => [T.bys (dr x.fst x.snd), T.bool (drF x.fst x.snd)]) /\ True) /\ True) /\ ∃ (x_2 : (List UInt8 × Nat)), (((0 = 0 /\ 0 = 0) /\ True) /\ ((1
    = 1 /\ RowsEq 1 (fun (x_3 : Nat) => [T.bys (dr x.fst (x.snd + 1)), T.bool (drF x.fst (x.snd + 1))]) fun (x : Nat) => [T.bys (dr x_2.fst x_2.snd), T.bool (drF x_2.fst x_2.snd)]) /\ True) /\ True) /\ ∃ (x_3 : (List UInt8 × Nat)), (((0 =
    0 /\ 0 = 0) /\ True) /\ ((1 = 1 /\ RowsEq 1 (fun (x : Nat) => [T.bys (dr x_2.fst (x_2.snd + 1)), T.bool (drF x_2.fst (x_2.snd + 1))]) fun (x : Nat) => [T.bys (dr x_3.fst x_3.snd), T.bool (drF x_3.fst x_3.snd)]) /\ True) /\ True) /\ ∃
    (x_4 : (List UInt8 × Nat)), (((0 = 0 /\ 0 = 0) /\ True) /\ ((1 = 1 /\ RowsEq 1 (fun (x : Nat) => [T.bys (dr x_3.fst (x_3.snd + 1)), T.bool (drF x_3.fst (x_3.snd + 1))]) fun (x : Nat) => [T.bys (dr x_4.fst x_4.snd), T.bool (drF x_4.fst
    x_4.snd)]) /\ True) /\ True) /\ ∃ (x_5 : (List UInt8 × Nat)), (((0 = 0 /\ 0 = 0) /\ True) /\ ((1 = 1 /\ RowsEq 1 (fun (x : Nat) => [T.bys (dr x_4.fst (x_4.snd + 1)), T.bool (drF x_4.fst (x_4.snd + 1))]) fun (x : Nat) => [T.bys (dr
    x_5.fst x_5.snd), T.bool (drF x_5.fst x_5.snd)]) /\ True) /\ True) /\ ∃ (x_6 : (List UInt8 × Nat)), (((0 = 0 /\ 0 = 0) /\ True) /\ ((1 = 1 /\ RowsEq 1 (fun (x : Nat) => [T.bys (dr x_5.fst (x_5.snd + 1)), T.bool (drF x_5.fst (x_5.snd +
    1))]) fun (x : Nat) => [T.bys (dr x_6.fst x_6.snd), T.bool (drF x_6.fst x_6.snd)]) /\ True) /\ True) /\ ∃ (x_7 : (List UInt8 × Nat)), (((0 = 0 /\ 0 = 0) /\ True) /\ ((1 = 1 /\ RowsEq 1 (fun (x : Nat) => [T.bys (dr x_6.fst (x_6.snd + 1)),
    T.bool (drF x_6.fst (x_6.snd + 1))]) fun (x : Nat) => [T.bys (dr x_7.fst x_7.snd), T.bool (drF x_7.fst x_7.snd)]) /\ True) /\ True) /\ ∃ (x_8 : (List UInt8 × Nat)), (((0 = 0 /\ 0 = 0) /\ True) /\ ((1 = 1 /\ RowsEq 1 (fun (x : Nat) =>
    [T.bys (dr x_7.fst (x_7.snd + 1)), T.bool (drF x_7.fst (x_7.snd + 1))]) fun (x : Nat) => [T.bys (dr x_8.fst x_8.snd), T.bool (drF x_8.fst x_8.snd)]) /\ True) /\ True) /\ ((!(!(fsEnd (dr x_8.fst (x_8.snd + 1)) (drF x_8.fst (x_8.snd +
    1))).fl && (fsEnd (dr x_8.fst (x_8.snd + 1)) (drF x_8.fst (x_8.snd + 1))).l.isEmpty) || numR (dr x_1.fst x_1.snd) != (108 : Int) || (↑(fsEnd (dr x_8.fst (x_8.snd + 1)) (drF x_8.fst (x_8.snd + 1))).out.length : Int) != (2 : Int)) =
    true -> ((0 : Int) = (rdRc b).fst.e /\ (0 : Int) = (rdRc b).fst.l /\ (0 : Int) = (rdRc b).fst.t /\ (0 : Int) = (rdRc b).fst.k /\ (0 : Int) = (rdRc b).fst.p /\ (0 : Int) = (rdRc b).fst.n /\ (0 : Int) = (rdRc b).fst.g /\ (0 : Int) = (rdRc
    b).fst.s /\ [] = (rdRc b).fst.b /\ [] = (rdRc b).fst.a /\ True) /\ (3 : Int) = (rdRc b).snd /\ True) /\ ((!(!(fsEnd (dr x_8.fst (x_8.snd + 1)) (drF x_8.fst (x_8.snd + 1))).fl && (fsEnd (dr x_8.fst (x_8.snd + 1)) (drF x_8.fst (x_8.snd +
    1))).l.isEmpty) || numR (dr x_1.fst x_1.snd) != (108 : Int) || (↑(fsEnd (dr x_8.fst (x_8.snd + 1)) (drF x_8.fst (x_8.snd + 1))).out.length : Int) != (2 : Int)) = false -> InB (0 : Int) (fsEnd (dr x_8.fst (x_8.snd + 1)) (drF x_8.fst
    (x_8.snd + 1))).out.length /\ InB (1 : Int) (fsEnd (dr x_8.fst (x_8.snd + 1)) (drF x_8.fst (x_8.snd + 1))).out.length /\ StrB ((fsEnd (dr x_8.fst (x_8.snd + 1)) (drF x_8.fst (x_8.snd + 1))).out.getD 1 []) /\ ((!recOK (Rec.mk (numR
    (dr x.fst x.snd)) (numR (dr x_2.fst x_2.snd)) (numR (dr x_3.fst x_3.snd)) (numR (dr x_4.fst x_4.snd)) (numR (dr x_5.fst x_5.snd)) (numR (dr x_6.fst x_6.snd)) (numR (dr x_7.fst x_7.snd)) (numR (dr x_8.fst x_8.snd)) ((fsEnd (dr
    x_8.fst (x_8.snd + 1)) (drF x_8.fst (x_8.snd + 1))).out.getD 0 []) ((fsEnd (dr x_8.fst (x_8.snd + 1)) (drF x_8.fst (x_8.snd + 1))).out.getD 1 []))) = true -> ((0 : Int) = (rdRc b).fst.e /\ (0 : Int) = (rdRc b).fst.l /\ (0 : Int) =
    (rdRc b).fst.t /\ (0 : Int) = (rdRc b).fst.k /\ (0 : Int) = (rdRc b).fst.p /\ (0 : Int) = (rdRc b).fst.n /\ (0 : Int) = (rdRc b).fst.g /\ (0 : Int) = (rdRc b).fst.s /\ [] = (rdRc b).fst.b /\ [] = (rdRc b).fst.a /\ True) /\ (3 : Int) =
    (rdRc b).snd /\ True) /\ ((!recOK (Rec.mk (numR (dr x.fst x.snd)) (numR (dr x_2.fst x_2.snd)) (numR (dr x_3.fst x_3.snd)) (numR (dr x_4.fst x_4.snd)) (numR (dr x_5.fst x_5.snd)) (numR (dr x_6.fst x_6.snd)) (numR (dr x_7.fst
    x_7.snd)) (numR (dr x_8.fst x_8.snd)) ((fsEnd (dr x_8.fst (x_8.snd + 1)) (drF x_8.fst (x_8.snd + 1))).out.getD 0 []) ((fsEnd (dr x_8.fst (x_8.snd + 1)) (drF x_8.fst (x_8.snd + 1))).out.getD 1 []))) = false -> (numR (dr x.fst x.snd)
    = (rdRc b).fst.e /\ numR (dr x_2.fst x_2.snd) = (rdRc b).fst.l /\ numR (dr x_3.fst x_3.snd) = (rdRc b).fst.t /\ numR (dr x_4.fst x_4.snd) = (rdRc b).fst.k /\ numR (dr x_5.fst x_5.snd) = (rdRc b).fst.p /\ numR (dr x_6.fst x_6.snd) =
    (rdRc b).fst.n /\ numR (dr x_7.fst x_7.snd) = (rdRc b).fst.g /\ numR (dr x_8.fst x_8.snd) = (rdRc b).fst.s /\ (fsEnd (dr x_8.fst (x_8.snd + 1)) (drF x_8.fst (x_8.snd + 1))).out.getD 0 [] = (rdRc b).fst.b /\ (fsEnd (dr x_8.fst (x_8.snd
    + 1)) (drF x_8.fst (x_8.snd + 1))).out.getD 1 [] = (rdRc b).fst.a /\ True) /\ (0 : Int) = (rdRc b).snd /\ True))))) :
    PureFn Tryz.prog 114 [.bys b] (.tup [.agg (rdRc b).1.ts, .int .i64 (rdRc b).2]) :=
  vcR (code := b_ReadRecord) (gC unsealed_ok call_unsealed (gC numI_ok call_numI (gC fields_ok call_fields (gC isDone_ok call_isDone (gC RecordOKi_ok call_RecordOKi gN))))) Tryz.func114 (by kernel_rfl) (by kernel_rfl) noAnn h (by kernel_rfl)
theorem take_le (l : List UInt8) (n : Int) (h0 : 0 <= n) (h : n <= 255) : (takeR l n).length <= 255 := by
  unfold takeR; split
  · rw [List.length_replicate]; omega
  · rw [List.length_take]; omega
theorem fs_le (l : List UInt8) (fl : Bool) : ∀ i j, ((fsN l fl i).out.getD j []).length <= 255
  | 0, j => Nat.zero_le _
  | i + 1, j => by
    have hm := numR_in (fsN l fl i).l; show (((fsN l fl i).out ++ [takeR ((fsN l fl i).l.drop 1) (numR (fsN l fl i).l)]).getD j []).length <= 255; by_cases hj : j < (fsN l fl i).out.length + 1
    · rw [app_at [] _ _ _ hj]; split
      · exact take_le _ _ hm.1 (by omega)
      · exact fs_le l fl i j
    · rw [List.getD_eq_getElem?_getD, List.getElem?_eq_none (by rw [List.length_append]; simp; omega)]
      exact Nat.zero_le _
theorem rd_no {b : List UInt8} (h : unsOK b = false) : rdRc b = (rec0, 8) := by unfold rdRc; rw [if_neg (by rw [h]; simp)]
theorem rd_bad {b : List UInt8} (h : unsOK b = true) (hb : rcBad (unsB b) = true) : rdRc b = (rec0, 3) := by unfold rdRc; rw [if_pos h, if_pos hb]
theorem rd_rno {b : List UInt8} (h : unsOK b = true) (hb : rcBad (unsB b) = false) (hr : recOK (rcX (unsB b)) = false) : rdRc b = (rec0, 3) := by unfold rdRc; rw [if_pos h, if_neg (by rw [hb]; simp), if_neg (by rw [hr]; simp)]
theorem rd_rec {b : List UInt8} (h : unsOK b = true) (hb : rcBad (unsB b) = false) (hr : recOK (rcX (unsB b)) = true) : rdRc b = (rcX (unsB b), 0) := by unfold rdRc; rw [if_pos h, if_neg (by rw [hb]; simp), if_pos hr]
theorem ReadRecord_ok : ConOk Tryz.prog 114 k_ReadRecord := by
  intro (b : List UInt8) (hb : b.length <= 1000); refine v_ReadRecord b ⟨fun h => by have := of_decide_eq_true h; omega, fun _ => ⟨b, ⟨⟨rfl, trivial⟩, by unfold Len31; omega⟩, fun h => ?_, fun h => ⟨(unsB b, 0), ⟨(by repeat' first | exact trivial | exact rfl | exact rowsR _ _ | exact famR _ | exact row0 | exact le0 _ | exact Nat.le_refl _ | exact Nat.zero_le _ | refine And.intro ?_ ?_), ⟨⟨rfl, fun _ _ => rfl⟩, trivial⟩, trivial⟩, (unsB b, 1), ⟨(by repeat' first | exact trivial | exact rfl | exact rowsR _ _ | exact famR _ | exact row0 | exact le0 _ | exact Nat.le_refl _ | exact Nat.zero_le _ | refine And.intro ?_ ?_), ⟨⟨rfl, fun _ _ => rfl⟩, trivial⟩, trivial⟩, (unsB b, 2), ⟨(by repeat' first | exact trivial | exact rfl | exact rowsR _ _ | exact famR _ | exact row0 | exact le0 _ | exact Nat.le_refl _ | exact Nat.zero_le _ | refine And.intro ?_ ?_), ⟨⟨rfl, fun _ _ => rfl⟩, trivial⟩, trivial⟩, (unsB b, 3), ⟨(by repeat' first | exact trivial | exact rfl | exact rowsR _ _ | exact famR _ | exact row0 | exact le0 _ | exact Nat.le_refl _ | exact Nat.zero_le _ | refine And.intro ?_ ?_), ⟨⟨rfl, fun _ _ => rfl⟩, trivial⟩, trivial⟩, (unsB b, 4), ⟨(by repeat' first | exact trivial | exact rfl | exact rowsR _ _ | exact famR _ | exact row0 | exact le0 _ | exact Nat.le_refl _ | exact Nat.zero_le _ | refine And.intro ?_ ?_), ⟨⟨rfl, fun _ _ => rfl⟩, trivial⟩, trivial⟩, (unsB b, 5), ⟨(by repeat' first | exact trivial | exact rfl | exact rowsR _ _ | exact famR _ | exact row0 | exact le0 _ | exact Nat.le_refl _ | exact Nat.zero_le _ | refine And.intro ?_ ?_), ⟨⟨rfl, fun _ _ => rfl⟩, trivial⟩, trivial⟩, (unsB b, 6), ⟨(by repeat' first | exact trivial | exact rfl | exact rowsR _ _ | exact famR _ | exact row0 | exact le0 _ | exact Nat.le_refl _ | exact Nat.zero_le _ | refine And.intro ?_ ?_), ⟨⟨rfl, fun _ _ => rfl⟩, trivial⟩, trivial⟩, (unsB b, 7), ⟨(by repeat' first | exact trivial | exact rfl | exact rowsR _ _ | exact famR _ | exact row0 | exact le0 _ | exact Nat.le_refl _ | exact Nat.zero_le _ | refine And.intro ?_ ?_), ⟨⟨rfl, fun _ _ => rfl⟩, trivial⟩, trivial⟩, (unsB b, 8), ⟨(by repeat' first | exact trivial | exact rfl | exact rowsR _ _ | exact famR _ | exact row0 | exact le0 _ | exact Nat.le_refl _ | exact Nat.zero_le _ | refine And.intro ?_ ?_), ⟨⟨rfl, fun _ _ => rfl⟩, trivial⟩, trivial⟩, fun hc => ?_, fun hc => ?_⟩⟩⟩
  · rw [rd_no (by simpa using h)]
    exact (by repeat' first | exact trivial | exact rfl | exact rowsR _ _ | exact famR _ | exact row0 | exact le0 _ | exact Nat.le_refl _ | exact Nat.zero_le _ | refine And.intro ?_ ?_)
  · rw [rd_bad (by simpa using h) hc]
    exact (by repeat' first | exact trivial | exact rfl | exact rowsR _ _ | exact famR _ | exact row0 | exact le0 _ | exact Nat.le_refl _ | exact Nat.zero_le _ | refine And.intro ?_ ?_)
  · have hu : unsOK b = true := by simpa using h
    have hc : rcBad (unsB b) = false := hc; have h2 : (rcE (unsB b)).out.length = 2 := by
      unfold rcBad at hc; simp only [Bool.or_eq_false_iff, bne_eq_false_iff_eq] at hc; omega
    refine ⟨⟨by omega, by show (0 : Int) < ((rcE (unsB b)).out.length : Int); omega⟩, ⟨by omega, by show (1 : Int) < ((rcE (unsB b)).out.length : Int); omega⟩, by have := fs_le (dr (unsB b) 9) (drF (unsB b) 9) (numR (dr (unsB b) 9)).toNat 1; unfold StrB; show ((fsN (dr (unsB b) 9) (drF (unsB b) 9) (numR (dr (unsB b) 9)).toNat).out.getD 1 []).length < _; omega, fun hr => ?_, fun hr => ?_⟩
    · have hr : (!recOK (rcX (unsB b))) = true := by
        unfold rcX rcE; dsimp only [Nat.reduceAdd] at hr ⊢; exact hr
      have hr : recOK (rcX (unsB b)) = false := by rw [Bool.not_eq_true'] at hr; exact hr
      rw [rd_rno hu hc hr]; exact (by repeat' first | exact trivial | exact rfl | exact rowsR _ _ | exact famR _ | exact row0 | exact le0 _ | exact Nat.le_refl _ | exact Nat.zero_le _ | refine And.intro ?_ ?_)
    · have hr : (!recOK (rcX (unsB b))) = false := by
        unfold rcX rcE; dsimp only [Nat.reduceAdd] at hr ⊢; exact hr
      have hr : recOK (rcX (unsB b)) = true := by rw [Bool.not_eq_false'] at hr; exact hr
      rw [rd_rec hu hc hr]; unfold rcX rcE; dsimp only [Nat.reduceAdd]; exact ⟨⟨rfl, rfl, rfl, rfl, rfl, rfl, rfl, rfl, rfl, rfl, trivial⟩, rfl, trivial⟩
noncomputable def lgR (d : Dsk) (i : Nat) : Rec × Int := rdRc (rdAt d (9 + i))
noncomputable def lgE (d : Dsk) (i : Nat) : Int := if i = 0 then 1 else (lgR d (i - 1)).1.e
noncomputable def lgB (d : Dsk) (ep : Int) (i : Nat) : Bool := ((lgR d i).2 != 0 || (lgR d i).1.l != (i : Int) + 1 || !inR (lgR d i).1.e (lgE d i) ep)
noncomputable def lgL (d : Dsk) (m : Nat) : List Rec := (List.range m).map fun i => (lgR d i).1
noncomputable def lgM (d : Dsk) (ep : Int) : Nat := if fstI (d.sec.length - 9) (lgB d ep) = -1 then d.sec.length - 9 else (fstI (d.sec.length - 9) (lgB d ep)).toNat
def LgS (x : Dsk × Int) : Prop := DskP x.1
noncomputable def A_readLog (d : Dsk) (ep : Int) : Nat -> Ann
  | 0 => .one (Cnt (d.sec.length - 9) (lgB d ep)) (fun x => ⟨[(1, .int .i64 ep), (2, .ref 0 0 0), (5, .osl 1 0 x.1), (6, .int .i64 (lgE d x.1)), (7, .int .i64 (9 + x.1 : Nat))], [dskBox d, recA (lgL d x.1)]⟩) (fun x => d.sec.length - x.1) [.box 0, .arr 1] [.box 0, .arr 3] (fun _ => noAnn)
  | _ => .none
noncomputable def k_readLog : Con := .rmk ⟨Dsk × Int, fun x => [.agg x.1.ts, .int .i64 x.2], fun _ => [], fun x => .osl 0 0 (lgM x.1 x.2), fun x => [recA (lgL x.1 (lgM x.1 x.2))], LgS⟩
noncomputable def b_readLog : Code := Tryz.f55.body.getD .skip
theorem call_readLog : Callable Tryz.prog 55 := ⟨_, Tryz.func55, by kernel_rfl, by kernel_rfl⟩
theorem v_readLog (d : Dsk) (ep : Int) (h :
    (∃ (x : Cnt (d.sec.length - 9) (lgB d ep)), (ep = ep /\ (0 = 0 /\ 0 = 0) /\ (0 = 0 /\ 0 = x.val) /\ (1 : Int) = lgE d x.val /\ (9 : Int) = (↑(9 + x.val) : Int) /\ True) /\ (1 = 1 /\ 1 = 1 /\ EqD d d) /\ (0 = (lgL d x.val).length /\ RowsEq 0
    (fun (k : Nat) => List.take 10 (List.drop (k * 10) [])) (recRow (lgL d x.val))) /\ True) /\ ∀ (x : Cnt (d.sec.length - 9) (lgB d ep)), (decide ((↑(9 + x.val) : Int) < (d.sec.length:Int)) = true -> ∃ (x_1 : r_read.ι), (((EqD d
    x_1.fst) /\ (↑(9 + x.val) : Int) = (x_1.snd:Int) /\ True) /\ AtB x_1) /\ Lt (rdAt x_1.fst x_1.snd).length 140737488355329 /\ ∃ (x_2 : (List UInt8)), ((rdAt x_1.fst x_1.snd = x_2 /\ True) /\ RdB x_2) /\ (((rdRc x_2).snd != (0 : Int)) =
    false -> Rng .i64 ((x.val:Int) + (1 : Int))) /\ (((rdRc x_2).snd != (0 : Int) || (rdRc x_2).fst.l != (x.val:Int) + (1 : Int) || !inR (rdRc x_2).fst.e (lgE d x.val) ep) = true -> ((0 = 0 /\ x.val = lgM d ep) /\ True) /\ (EqL recRow (lgL
    d x.val) (lgL d (lgM d ep))) /\ True) /\ (((rdRc x_2).snd != (0 : Int) || (rdRc x_2).fst.l != (x.val:Int) + (1 : Int) || !inR (rdRc x_2).fst.e (lgE d x.val) ep) = false -> (Le x.val (lgL d x.val).length /\ AppB x.val 1 96) /\ Rng .i64
    ((↑(9 + x.val) : Int) + (1 : Int)) /\ ∃ (y : Cnt (d.sec.length - 9) (lgB d ep)), ((ep = ep /\ (0 = 0 /\ 0 = 0) /\ (0 = 0 /\ x.val + 1 = y.val) /\ (rdRc x_2).fst.e = lgE d y.val /\ (↑(9 + x.val) : Int) + (1 : Int) = (↑(9 + y.val) : Int) /\
    True) /\ (1 = 1 /\ 1 = 1 /\ EqD d d) /\ (x.val + 1 = (lgL d y.val).length /\ RowsEq (x.val + 1) (appRow (recRow (lgL d x.val)) x.val fun (k : Nat) => List.take 10 (List.drop (k * 10) [T.int .i64 (rdRc x_2).fst.e, T.int .i64 (rdRc
    x_2).fst.l, T.int .i64 (rdRc x_2).fst.t, T.int .i64 (rdRc x_2).fst.k, T.int .i64 (rdRc x_2).fst.p, T.int .i64 (rdRc x_2).fst.n, T.int .i64 (rdRc x_2).fst.g, T.int .i64 (rdRc x_2).fst.s, T.str (rdRc x_2).fst.b, T.str (rdRc
    x_2).fst.a])) (recRow (lgL d y.val))) /\ True) /\ Lt (d.sec.length - y.val) (d.sec.length - x.val))) /\ (decide ((↑(9 + x.val) : Int) < (d.sec.length:Int)) = false -> ((0 = 0 /\ x.val = lgM d ep) /\ True) /\ (EqL recRow (lgL d x.val)
    (lgL d (lgM d ep))) /\ True)) :
    EffFn Tryz.prog 55 [.agg d.ts, .int .i64 ep] [] (.osl 0 0 (lgM d ep)) [recA (lgL d (lgM d ep))] :=
  vcG (code := b_readLog) (gC tmpA_ok call_tmpA (gC readi_ok call_readi (gC ReadRecord_ok call_ReadRecord (gC inRange_ok call_inRange gN)))) Tryz.func55 (by kernel_rfl) (by kernel_rfl) (A_readLog d ep) [[.arr 1]] h (by kernel_rfl)
theorem lgL_len (d : Dsk) (m : Nat) : (lgL d m).length = m := by unfold lgL; simp
theorem lgL_at (d : Dsk) {m i : Nat} (h : i < m) : (lgL d m).getD i default = (lgR d i).1 := by
  unfold lgL; rw [List.getD_eq_getElem?_getD, List.getElem?_map, List.getElem?_range h]
  rfl
theorem lgL_succ (d : Dsk) (m : Nat) : lgL d (m + 1) = lgL d m ++ [(lgR d m).1] := by
  unfold lgL; rw [List.range_succ, List.map_append]; rfl
theorem lgM_at {d : Dsk} {ep : Int} {m : Nat} (hm : m < d.sec.length - 9) (h : lgB d ep m = true) (hp : ∀ i, i < m -> lgB d ep i = false) : lgM d ep = m := by
  unfold lgM; rw [fstI_at hm h hp, if_neg (by omega), Int.toNat_natCast]
theorem lgM_all {d : Dsk} {ep : Int} {m : Nat} (hm : m = d.sec.length - 9) (hp : ∀ i, i < m -> lgB d ep i = false) : lgM d ep = m := by
  unfold lgM; rw [fstI_no (fun i hi => hp i (by omega)), if_pos rfl, hm]
theorem readLog_ok : ConOk Tryz.prog 55 k_readLog := by
  rintro ⟨d, ep⟩ (hd : DskP d); have hd' := hd; obtain ⟨q1, q2, q3, q4, _⟩ := hd'; refine ⟨v_readLog d ep ⟨⟨cnt0, ⟨rfl, ⟨rfl, rfl⟩, ⟨rfl, rfl⟩, rfl, rfl, trivial⟩, ⟨rfl, rfl, eqD _⟩, ⟨(lgL_len d 0).symm, row0⟩, trivial⟩, fun x => ⟨fun hc => ?_, fun hc => ?_⟩⟩, rfl, plain_rec _⟩
  · have hc : 9 + x.val < d.sec.length := by have := of_decide_eq_true hc; omega
    have hle := rdAt_le hd hc; have hx := lgL_len d x.val; refine ⟨(d, 9 + x.val), ⟨⟨eqD _, rfl, trivial⟩, hc, by dsimp only; omega⟩, by unfold Lt; dsimp only; omega, rdAt d (9 + x.val), ⟨⟨rfl, trivial⟩, by show (rdAt d (9 + x.val)).length <= 1000; omega⟩, fun _ => i64_rng (by omega), fun hb => ?_, fun hb => ?_⟩
    · have hb : lgB d ep x.val = true := hb; rw [lgM_at (by omega) hb x.2.2]
      exact ⟨⟨⟨rfl, rfl⟩, trivial⟩, ⟨rfl, rowsR _ _⟩, trivial⟩
    · have hb : lgB d ep x.val = false := hb; refine ⟨⟨by rw [hx]; exact Nat.le_refl _, by unfold AppB; omega⟩, i64_rng (by omega), x.succ (by omega) hb, ⟨⟨rfl, ⟨rfl, rfl⟩, ⟨rfl, rfl⟩, ?_, by dsimp only [Cnt.succ]; omega, trivial⟩, ⟨rfl, rfl, eqD _⟩, ⟨(lgL_len d (x.val + 1)).symm, ?_⟩, trivial⟩, by unfold Lt; dsimp only [Cnt.succ]; omega⟩
      · dsimp only [Cnt.succ]; unfold lgE; rw [if_neg (by omega)]
        rfl
      · show RowsEq _ _ (recRow (lgL d (x.val + 1))); rw [lgL_succ]; have := rec_app (lgL d x.val) (lgR d x.val).1; rw [hx] at this; exact this
  · have hx : x.val = d.sec.length - 9 := by have := x.2.1; have := of_decide_eq_false hc; omega
    rw [lgM_all hx x.2.2]; exact ⟨⟨⟨rfl, rfl⟩, trivial⟩, ⟨rfl, rowsR _ _⟩, trivial⟩
noncomputable def k_ReadLog : Con := .rmk ⟨Dsk × Int, fun x => [.agg x.1.ts, .int .i64 x.2], fun _ => [], fun x => .tup [.osl 0 0 (lgM x.1 x.2), .int .i64 0], fun x => [recA (lgL x.1 (lgM x.1 x.2))], fun x => LgS x /\ 0 <= x.2 /\ x.2 <= 60⟩
noncomputable def b_ReadLog : Code := Tryz.f15.body.getD .skip
theorem call_ReadLog : Callable Tryz.prog 15 := ⟨_, Tryz.func15, by kernel_rfl, by kernel_rfl⟩
theorem v_ReadLog (d : Dsk) (ep : Int) (h :
    ∃ (x : r_DiskOK.ι), (((EqD d x) /\ True) /\ DskB x) /\ ((!dskOK x) = true -> ((TLe (rho [some 1]) (T.v (Value.slice none 0 0)) (T.osl 0 0 (lgM d ep)) /\ (1 : Int) = (0 : Int) /\ True) /\ True) /\ False /\ True) /\ ((!dskOK x) = false ->
    ((!inR ep (0 : Int) (60 : Int)) = true -> ((TLe (rho [some 1]) (T.v (Value.slice none 0 0)) (T.osl 0 0 (lgM d ep)) /\ (4 : Int) = (0 : Int) /\ True) /\ True) /\ False /\ True) /\ ((!inR ep (0 : Int) (60 : Int)) = false -> ∃ (x : (Dsk ×
    Int)), (((EqD d x.fst) /\ ep = x.snd /\ True) /\ LgS x) /\ (((0 = 0 /\ lgM x.fst x.snd = lgM d ep) /\ (0 : Int) = (0 : Int) /\ True) /\ True) /\ (EqL recRow (lgL x.fst (lgM x.fst x.snd)) (lgL d (lgM d ep))) /\ True))) :
    EffFn Tryz.prog 15 [.agg d.ts, .int .i64 ep] [] (.tup [.osl 0 0 (lgM d ep), .int .i64 0]) [recA (lgL d (lgM d ep))] :=
  vcG (code := b_ReadLog) (gC DiskOKi_ok call_DiskOKi (gC inRange_ok call_inRange (gC readLog_ok call_readLog gN))) Tryz.func15 (by kernel_rfl) (by kernel_rfl) noAnn [[.arr 1]] h (by kernel_rfl)
theorem ReadLog_ok : ConOk Tryz.prog 15 k_ReadLog := by
  rintro ⟨d, ep⟩ ⟨hd, h1, h2⟩; have hd : DskP d := hd; dsimp only at h1 h2; have hok := (dskOK_iff d).2 hd; have hi : inR ep 0 60 = true := by simp [inR, h1, h2]
  have hd' := hd; obtain ⟨q1, q2, q3, q4, _⟩ := hd'; refine ⟨v_ReadLog d ep ⟨d, ⟨⟨eqD _, trivial⟩, by unfold Len; omega, by unfold Len; omega, by unfold Len; omega⟩, fun h => (by rw [hok] at h; cases h), fun _ => ⟨fun h => (by rw [hi] at h; cases h), fun _ => ⟨(d, ep), ⟨⟨eqD _, rfl, trivial⟩, hd⟩, ⟨⟨⟨rfl, rfl⟩, rfl, trivial⟩, trivial⟩, ⟨rfl, rowsR _ _⟩, trivial⟩⟩⟩, rfl, plain_rec _⟩
def k_headerBytes : Con := .rel ⟨Int, fun e => [.int .i64 e], fun e => .bys (hdB e), fun _ => True⟩
noncomputable def b_headerBytes : Code := Tryz.f56.body.getD .skip
theorem call_headerBytes : Callable Tryz.prog 56 := ⟨_, Tryz.func56, by kernel_rfl, by kernel_rfl⟩
theorem v_headerBytes (e : Int) (h :
    (Rng IntKind.u8 (104 : Int) /\ Rng IntKind.u8 (IntKind.u8.wrap e)) /\ SealB 2 (List.map ofI [(104 : Int), IntKind.u8.wrap e]) /\ List.map ofI [(104 : Int), IntKind.u8.wrap e] ++ by4 (crc (List.map ofI [(104 : Int), IntKind.u8.wrap
    e])) = hdB e) :
    PureFn Tryz.prog 56 [.int .i64 e] (.bys (hdB e)) :=
  vcR (code := b_headerBytes) (gC sealed_ok call_sealed gN) Tryz.func56 (by kernel_rfl) (by kernel_rfl) noAnn h (by kernel_rfl)
theorem headerBytes_ok : ConOk Tryz.prog 56 k_headerBytes := fun e _ => v_headerBytes e ⟨⟨(rng_u8 _).2 (by omega), u8_rng _⟩, ⟨rfl, by show 2 <= 1000000; decide⟩, rfl⟩
def k_HeaderBytes : Con := .rel ⟨Int, fun e => [.int .i64 e], fun e => .tup [.bys (hdB e), .int .i64 0], fun e => 0 <= e /\ e <= 60⟩
noncomputable def b_HeaderBytes : Code := Tryz.f16.body.getD .skip
theorem call_HeaderBytes : Callable Tryz.prog 16 := ⟨_, Tryz.func16, by kernel_rfl, by kernel_rfl⟩
theorem v_HeaderBytes (e : Int) (h :
    ((!inR e (0 : Int) (60 : Int)) = true -> hdB e = [] /\ (4 : Int) = (0 : Int) /\ True) /\ ((!inR e (0 : Int) (60 : Int)) = false -> ∃ (x : Int), ((e = x /\ True) /\ True) /\ hdB x = hdB e /\ (0 : Int) = (0 : Int) /\ True)) :
    PureFn Tryz.prog 16 [.int .i64 e] (.tup [.bys (hdB e), .int .i64 0]) :=
  vcR (code := b_HeaderBytes) (gC inRange_ok call_inRange (gC headerBytes_ok call_headerBytes gN)) Tryz.func16 (by kernel_rfl) (by kernel_rfl) noAnn h (by kernel_rfl)
theorem HeaderBytes_ok : ConOk Tryz.prog 16 k_HeaderBytes := by
  rintro (e : Int) ⟨h1, h2⟩; have hi : inR e 0 60 = true := by simp [inR, h1, h2]
  exact v_HeaderBytes e ⟨fun h => (by rw [hi] at h; cases h), fun _ => ⟨e, ⟨⟨rfl, trivial⟩, trivial⟩, rfl, rfl, trivial⟩⟩
def k_ReadHeader : Con := .rel ⟨Int, fun e => [.bys (hdB e)], fun e => .tup [.int .i64 e, .int .i64 0], fun e => 0 <= e /\ e <= 60⟩
noncomputable def b_ReadHeader : Code := Tryz.f18.body.getD .skip
theorem call_ReadHeader : Callable Tryz.prog 18 := ⟨_, Tryz.func18, by kernel_rfl, by kernel_rfl⟩
theorem v_ReadHeader (e : Int) (b : List UInt8) (h :
    (decide ((b.length:Int) > (65536 : Int)) = true -> (0 : Int) = e /\ (2 : Int) = (0 : Int) /\ True) /\ (decide ((b.length:Int) > (65536 : Int)) = false -> (((b.length:Int) == (0 : Int)) = true -> (0 : Int) = e /\ (0 : Int) = (0 : Int) /\
    True) /\ (((b.length:Int) == (0 : Int)) = false -> ∃ (x : r_unsealed.ι), ((b = x /\ True) /\ Len31 x) /\ ((!unsOK x || (↑(unsB x).length : Int) != (2 : Int)) = false -> InB (0 : Int) (unsB x).length) /\ ((!unsOK x || (↑(unsB x).length :
    Int) != (2 : Int) || (↑((unsB x).getD 0 (0 : UInt8)).toNat : Int) != (104 : Int)) = false -> InB (1 : Int) (unsB x).length) /\ ((!unsOK x || (↑(unsB x).length : Int) != (2 : Int) || (↑((unsB x).getD 0 (0 : UInt8)).toNat : Int) !=
    (104 : Int) || decide ((↑((unsB x).getD 1 (0 : UInt8)).toNat : Int) > (60 : Int))) = true -> (0 : Int) = e /\ (8 : Int) = (0 : Int) /\ True) /\ ((!unsOK x || (↑(unsB x).length : Int) != (2 : Int) || (↑((unsB x).getD 0 (0 :
    UInt8)).toNat : Int) != (104 : Int) || decide ((↑((unsB x).getD 1 (0 : UInt8)).toNat : Int) > (60 : Int))) = false -> InB (1 : Int) (unsB x).length /\ IntKind.i64.wrap (↑((unsB x).getD 1 (0 : UInt8)).toNat : Int) = e /\ (0 : Int) =
    (0 : Int) /\ True)))) :
    PureFn Tryz.prog 18 [.bys b] (.tup [.int .i64 e, .int .i64 0]) :=
  vcR (code := b_ReadHeader) (gC unsealed_ok call_unsealed gN) Tryz.func18 (by kernel_rfl) (by kernel_rfl) noAnn h (by kernel_rfl)
theorem ReadHeader_ok : ConOk Tryz.prog 18 k_ReadHeader := by
  rintro (e : Int) ⟨h1, h2⟩; obtain ⟨u1, u2⟩ := uns_seal [ofI 104, u8b e]; have u1 : unsOK (hdB e) = true := u1; have u2 : unsB (hdB e) = [ofI 104, u8b e] := u2; have hl : (hdB e).length = 6 := rfl; have h0 : ((([ofI 104, u8b e] : List UInt8).getD 0 0).toNat : Int) = 104 := rfl; have hv : ((([ofI 104, u8b e] : List UInt8).getD 1 0).toNat : Int) = e := u8b_in h1 (by omega)
  refine v_ReadHeader e (hdB e) ⟨fun h => (by rw [hl] at h; cases h), fun _ => ⟨fun h => (by rw [hl] at h; cases h), fun _ => ⟨hdB e, ⟨⟨rfl, trivial⟩, by unfold Len31; omega⟩, ?_⟩⟩⟩
  rw [u1, u2, h0, byte_nat, hv]; have i0 : InB 0 ([ofI 104, u8b e] : List UInt8).length := ⟨by decide, by show (0 : Int) < ((2 : Nat) : Int); decide⟩
  have i1 : InB 1 ([ofI 104, u8b e] : List UInt8).length := ⟨by decide, by show (1 : Int) < ((2 : Nat) : Int); decide⟩
  refine ⟨fun _ => i0, fun _ => i1, fun h => ?_, fun _ => ⟨i1, rfl, rfl, trivial⟩⟩
  simp at h
  try omega
end Go.Proofs.YtndilbkocjlgpaaGreat

namespace Go.Proofs.YtndilbkocjlgpaaGreat
set_option maxRecDepth 100000
open Go.SS

theorem rd_rc {r : Rec} (h : recOK r = true) : rdRc (rcBytes r) = (r, 0) := by
  obtain ⟨z1, z2⟩ := rec_sz h; have hp := (recOK_iff r).1 h; unfold RecP at hp; obtain ⟨p1, p2, p3, p4, p5, p6, p7, p8, p9, p10, p11, p12, p13, p14, _, p16, p17⟩ := hp; have ht : 0 <= r.t /\ r.t <= 60 := by
    by_cases hk : r.k = 6
    · have := (p16 hk).1; omega
    · have := p17 hk; omega
  obtain ⟨u1, u2⟩ := uns_seal (rcB0 r); have u1 : unsOK (rcBytes r) = true := u1; have u2 : unsB (rcBytes r) = rcB0 r := u2; have hF : FldOK [r.b, r.a] := ⟨by show 2 <= 100; decide, fun i hi => by
    match i, hi with
    | 0, _ => show r.b.length <= 255; omega
    | 1, _ => show r.a.length <= 255; omega⟩
  have hl : 0 < (fldB [r.b, r.a]).length := by unfold fldB; simp [fldAt]
  have hn : numR (fldB [r.b, r.a]) = 2 := by
    obtain ⟨q, hq⟩ := fld_pre [r.b, r.a] 0 2; have : fldB [r.b, r.a] = u8b 2 :: q := hq; unfold numR; rw [this]; rfl
  have hfl := fl_fld hF 2 (Nat.le_refl _); have hfs := fs_fl (fldB [r.b, r.a]) hl 2; rw [hfl] at hfs; have e9 : dr (rcB0 r) 9 = fldB [r.b, r.a] := rfl; have f9 : drF (rcB0 r) 9 = false := rfl; have hE : rcE (rcB0 r) = ⟨[], false, [r.b, r.a]⟩ := by
    unfold rcE fsEnd; rw [e9, f9, hn, show (2 : Int).toNat = 2 from rfl, hfs.1]
    have : List.drop (fldAt [r.b, r.a] 2).length (fldB [r.b, r.a]) = [] := List.drop_length; rw [this]; rfl
  have n0 : numR (rcB0 r) = 108 := rfl; have hb : rcBad (rcB0 r) = false := by
    unfold rcBad; rw [hE, n0]; rfl
  have hx : rcX (rcB0 r) = r := by
    have c1 : numR (dr (rcB0 r) 1) = r.e := u8b_in (by omega) (by omega)
    have c2 : numR (dr (rcB0 r) 2) = r.l := u8b_in (by omega) (by omega)
    have c3 : numR (dr (rcB0 r) 3) = r.t := u8b_in (by omega) (by omega)
    have c4 : numR (dr (rcB0 r) 4) = r.k := u8b_in (by omega) (by omega)
    have c5 : numR (dr (rcB0 r) 5) = r.p := u8b_in (by omega) (by omega)
    have c6 : numR (dr (rcB0 r) 6) = r.n := u8b_in (by omega) (by omega)
    have c7 : numR (dr (rcB0 r) 7) = r.g := u8b_in (by omega) (by omega)
    have c8 : numR (dr (rcB0 r) 8) = r.s := u8b_in (by omega) (by omega)
    unfold rcX; rw [hE, c1, c2, c3, c4, c5, c6, c7, c8]; rfl
  rw [rd_rec u1 (by rw [u2]; exact hb) (by rw [u2, hx]; exact h), u2, hx]
theorem g_log {s : Sto} (h : GInv s) (hs : s.sure = s.log.length) : lgM s.d s.ep = s.log.length /\ EqL recRow (lgL s.d s.log.length) s.log := by
  have h60 := h.l60; have h69 := h.dg.n69; have hr : ∀ i, i < s.log.length -> lgR s.d i = (s.log.getD i default, 0) := fun i hi => by
    unfold lgR; rw [h.lg i (by omega), rd_rc (areOK_iff.1 h.rc i hi).1]
  have hp : ∀ i, i < s.log.length -> lgB s.d s.ep i = false := fun i hi => by
    unfold lgB; have he : lgE s.d i = prevE s.log i := by
      unfold lgE prevE; split
      · rfl
      · rw [hr (i - 1) (by omega)]
    rw [hr i hi, he]; have h1 := (areOK_iff.1 h.rc i hi).2; have h2 := h.be i hi; unfold badEp at h2; dsimp only; rw [h1, h2]; simp
  have hm : lgM s.d s.ep = s.log.length := by
    by_cases hf : s.log.length = 60
    · exact lgM_all (by omega) hp
    · refine lgM_at (by omega) ?_ hp
      have : lgR s.d s.log.length = (rec0, 8) := by
        unfold lgR; rw [h.lz s.log.length (by omega) (by omega)]
        exact rd_no rfl
      unfold lgB; rw [this]; rfl
  refine ⟨hm, lgL_len _ _, fun i hi => ?_⟩
  rw [lgL_len] at hi; unfold recRow; rw [lgL_at _ hi, hr i hi]
def OfY : Type := {x : List UInt8 × Sto // x.2 = (dEnd x.1).2}
noncomputable def k_StoreOfY : Con := .rmk ⟨OfY, fun x => [.bys x.1.1], fun _ => [], fun x => .agg (x.1.2.tm 0), fun x => x.1.2.hp 0, fun x => x.1.1.length <= 1048576⟩
theorem call_StoreOfY : Callable Tryz.prog 11 := ⟨_, Tryz.func11, by kernel_rfl, by kernel_rfl⟩
theorem StoreOfY_ok : ConOk Tryz.prog 11 k_StoreOfY := by
  rintro ⟨⟨c, s⟩, h⟩ hc; dsimp only at h; subst h; exact StoreOf_ok c hc
noncomputable def b_LawG : Code := Tryz.f3.body.getD .skip
theorem v_LawG (c m : List UInt8) (h :
    ((decide ((c.length:Int) > (1048576 : Int)) || decide ((m.length:Int) > (1048576 : Int))) = true -> true = true) /\ ((decide ((c.length:Int) > (1048576 : Int)) || decide ((m.length:Int) > (1048576 : Int))) = false -> ∃ (x : OfY), ((c
    = x.val.fst /\ True) /\ x.val.fst.length <= 1048576) /\ ∃ (x_1 : r_FlushLog.ι), ((Le (0 + x.val.snd.d.sec.length) x.val.snd.d.sec.length /\ Le (0 + x.val.snd.d.cache.length) x.val.snd.d.cache.length /\ Le (0 + x.val.snd.d.keep.length)
    x.val.snd.d.keep.length /\ Le (0 + x.val.snd.log.length) x.val.snd.log.length /\ Le (0 + x.val.snd.fr.length) x.val.snd.fr.length) /\ (((EqL strRow x.val.snd.d.sec x_1.fst.d.sec) /\ (EqL pendRow x.val.snd.d.cache x_1.fst.d.cache) /\
    x.val.snd.d.armed = x_1.fst.d.armed /\ (EqL intRow x.val.snd.d.keep x_1.fst.d.keep) /\ x.val.snd.ep = x_1.fst.ep /\ (EqL recRow x.val.snd.log x_1.fst.log) /\ x.val.snd.sure = x_1.fst.sure /\ (x.val.snd.fr.length = x_1.fst.fr.length /\
    RowsEq x.val.snd.fr.length (frzR (famRow x.val.snd.fr)) (frmRow x_1.fst.fr)) /\ x.val.snd.hand = x_1.fst.hand /\ True) /\ (x.val.snd.log.length:Int) = x_1.snd /\ True) /\ StoB x_1.fst /\ SmS x_1.fst) /\ ∃ (x_2 : r_FlushLog.ι), ((Le (0 +
    x.val.snd.d.sec.length) x.val.snd.d.sec.length /\ Le (0 + x.val.snd.d.cache.length) x.val.snd.d.cache.length /\ Le (0 + x.val.snd.d.keep.length) x.val.snd.d.keep.length /\ Le (0 + x.val.snd.log.length) x.val.snd.log.length /\ Le (0 +
    x.val.snd.fr.length) x.val.snd.fr.length) /\ (((EqL strRow x.val.snd.d.sec x_2.fst.d.sec) /\ (EqL pendRow x.val.snd.d.cache x_2.fst.d.cache) /\ x.val.snd.d.armed = x_2.fst.d.armed /\ (EqL intRow x.val.snd.d.keep x_2.fst.d.keep) /\
    x.val.snd.ep = x_2.fst.ep /\ (EqL recRow x.val.snd.log x_2.fst.log) /\ x.val.snd.sure = x_2.fst.sure /\ (x.val.snd.fr.length = x_2.fst.fr.length /\ RowsEq x.val.snd.fr.length (frzR (famRow x.val.snd.fr)) (frmRow x_2.fst.fr)) /\
    x.val.snd.hand = x_2.fst.hand /\ True) /\ (x.val.snd.log.length:Int) = x_2.snd /\ True) /\ StoB x_2.fst /\ SmS x_2.fst) /\ ∃ (x_3 : r_eqSto.ι), (((fluLog x_1.fst x_1.snd).snd.snd != (0 : Int) || !(fluLog x_1.fst x_1.snd).snd.fst) =
    false -> ((Le (0 + (fluLog x_1.fst x_1.snd).fst.d.sec.length) (fluLog x_1.fst x_1.snd).fst.d.sec.length /\ Le (0 + (fluLog x_1.fst x_1.snd).fst.d.cache.length) (fluLog x_1.fst x_1.snd).fst.d.cache.length /\ Le (0 + (fluLog x_1.fst
    x_1.snd).fst.d.keep.length) (fluLog x_1.fst x_1.snd).fst.d.keep.length /\ Le (0 + (fluLog x_1.fst x_1.snd).fst.log.length) (fluLog x_1.fst x_1.snd).fst.log.length /\ Le (0 + (fluLog x_1.fst x_1.snd).fst.fr.length) (fluLog x_1.fst
    x_1.snd).fst.fr.length) /\ Le (0 + (fluLog x_2.fst x_2.snd).fst.d.sec.length) (fluLog x_2.fst x_2.snd).fst.d.sec.length /\ Le (0 + (fluLog x_2.fst x_2.snd).fst.d.cache.length) (fluLog x_2.fst x_2.snd).fst.d.cache.length /\ Le (0 +
    (fluLog x_2.fst x_2.snd).fst.d.keep.length) (fluLog x_2.fst x_2.snd).fst.d.keep.length /\ Le (0 + (fluLog x_2.fst x_2.snd).fst.log.length) (fluLog x_2.fst x_2.snd).fst.log.length /\ Le (0 + (fluLog x_2.fst x_2.snd).fst.fr.length)
    (fluLog x_2.fst x_2.snd).fst.fr.length) /\ (((EqL strRow (fluLog x_1.fst x_1.snd).fst.d.sec x_3.d.sec) /\ (EqL pendRow (fluLog x_1.fst x_1.snd).fst.d.cache x_3.d.cache) /\ (fluLog x_1.fst x_1.snd).fst.d.armed = x_3.d.armed /\ (EqL
    intRow (fluLog x_1.fst x_1.snd).fst.d.keep x_3.d.keep) /\ (fluLog x_1.fst x_1.snd).fst.ep = x_3.ep /\ (EqL recRow (fluLog x_1.fst x_1.snd).fst.log x_3.log) /\ (fluLog x_1.fst x_1.snd).fst.sure = x_3.sure /\ ((fluLog x_1.fst
    x_1.snd).fst.fr.length = x_3.fr.length /\ RowsEq (fluLog x_1.fst x_1.snd).fst.fr.length (frzR (famRow (fluLog x_1.fst x_1.snd).fst.fr)) (frmRow x_3.fr)) /\ (fluLog x_1.fst x_1.snd).fst.hand = x_3.hand /\ True) /\ ((EqL strRow (fluLog
    x_2.fst x_2.snd).fst.d.sec x_3.d.sec) /\ (EqL pendRow (fluLog x_2.fst x_2.snd).fst.d.cache x_3.d.cache) /\ (fluLog x_2.fst x_2.snd).fst.d.armed = x_3.d.armed /\ (EqL intRow (fluLog x_2.fst x_2.snd).fst.d.keep x_3.d.keep) /\ (fluLog
    x_2.fst x_2.snd).fst.ep = x_3.ep /\ (EqL recRow (fluLog x_2.fst x_2.snd).fst.log x_3.log) /\ (fluLog x_2.fst x_2.snd).fst.sure = x_3.sure /\ ((fluLog x_2.fst x_2.snd).fst.fr.length = x_3.fr.length /\ RowsEq (fluLog x_2.fst
    x_2.snd).fst.fr.length (frzR (famRow (fluLog x_2.fst x_2.snd).fst.fr)) (frmRow x_3.fr)) /\ (fluLog x_2.fst x_2.snd).fst.hand = x_3.hand /\ True) /\ True) /\ SmS x_3) /\ (((fluLog x_1.fst x_1.snd).snd.snd != (0 : Int) || !(fluLog
    x_1.fst x_1.snd).snd.fst || false || (fluLog x_1.fst x_1.snd).fst.sure != (x.val.snd.log.length:Int)) = true -> false = true) /\ (((fluLog x_1.fst x_1.snd).snd.snd != (0 : Int) || !(fluLog x_1.fst x_1.snd).snd.fst || false ||
    (fluLog x_1.fst x_1.snd).fst.sure != (x.val.snd.log.length:Int)) = false -> ∃ (x_4 : (Dsk × Int)), ((Le (0 + (fluLog x_1.fst x_1.snd).fst.d.sec.length) (fluLog x_1.fst x_1.snd).fst.d.sec.length /\ Le (0 + (fluLog x_1.fst
    x_1.snd).fst.d.cache.length) (fluLog x_1.fst x_1.snd).fst.d.cache.length /\ Le (0 + (fluLog x_1.fst x_1.snd).fst.d.keep.length) (fluLog x_1.fst x_1.snd).fst.d.keep.length) /\ (((EqL strRow (fluLog x_1.fst x_1.snd).fst.d.sec
    x_4.fst.sec) /\ (EqL pendRow (fluLog x_1.fst x_1.snd).fst.d.cache x_4.fst.cache) /\ (fluLog x_1.fst x_1.snd).fst.d.armed = x_4.fst.armed /\ (EqL intRow (fluLog x_1.fst x_1.snd).fst.d.keep x_4.fst.keep) /\ True) /\ x.val.snd.ep =
    x_4.snd /\ True) /\ LgS x_4 /\ (0 : Int) <= x_4.snd /\ x_4.snd <= (60 : Int)) /\ ∃ (x_5 : (List UInt8 × Nat × Nat)), ((m = x_5.fst /\ (0 : Int) = (x_5.snd.fst:Int) /\ (61 : Int) = (x_5.snd.snd:Int) /\ True) /\ x_5.snd.fst <= 100 /\ x_5.snd.snd
    <= 1000 /\ x_5.fst.length <= 1048576) /\ ∃ (x_6 : Int), ((atV x_5.fst x_5.snd.fst x_5.snd.snd = x_6 /\ True) /\ (0 : Int) <= x_6 /\ x_6 <= (60 : Int)) /\ ∃ (x_7 : Int), ((hdB x_6 = hdB x_7 /\ True) /\ (0 : Int) <= x_7 /\ x_7 <= (60 : Int)) /\ ∃
    (x_8 : r_eqRecS.ι), (true = true -> (Le (0 + lgM x_4.fst x_4.snd) (lgL x_4.fst (lgM x_4.fst x_4.snd)).length /\ Le (0 + x.val.snd.log.length) x.val.snd.log.length) /\ ((lgM x_4.fst x_4.snd = List.length x_8 /\ RowsEq (lgM x_4.fst
    x_4.snd) (recRow (lgL x_4.fst (lgM x_4.fst x_4.snd))) (recRow x_8)) /\ (x.val.snd.log.length = List.length x_8 /\ RowsEq x.val.snd.log.length (recRow x.val.snd.log) (recRow x_8)) /\ True) /\ List.length x_8 <= 1048576) /\ ∃ (x : (List
    UInt8 × Nat × Nat)), (true = true -> (m = x.fst /\ (0 : Int) = (x.snd.fst:Int) /\ (61 : Int) = (x.snd.snd:Int) /\ True) /\ x.snd.fst <= 100 /\ x.snd.snd <= 1000 /\ x.fst.length <= 1048576) /\ (true && x_7 == atV x.fst x.snd.fst x.snd.snd) =
    true))) :
    PureFn Tryz.prog 3 [.bys c, .bys m] (.bool true) :=
  vcR (code := b_LawG) (gC StoreOfY_ok call_StoreOfY (gC FlushLogi_ok call_FlushLogi (gC FlushLogs_ok call_FlushLogs (gC sameStore_ok call_sameStore (gC ReadLog_ok call_ReadLog (gC at_ok call_at (gC HeaderBytes_ok call_HeaderBytes (gC ReadHeader_ok call_ReadHeader (gC sameLog_ok call_sameLog gN))))))))) Tryz.func3 (by kernel_rfl) (by kernel_rfl) noAnn h (by kernel_rfl)
theorem GInv.B {s : Sto} (h : GInv s) : StoB s := by
  have h1 := h.dg.n69; have h2 := h.dg.kp; have h3 := h.ca; have h4 := h.l60; have h5 := h.fr3; have key : ∀ r ∈ s.log, r.a.length <= 38 := fun r hr => by
    obtain ⟨i, hi, e⟩ := List.getElem_of_mem hr; have e2 : s.log.getD i default = r := by rw [List.getD_eq_getElem?_getD, List.getElem?_eq_getElem hi, e]; rfl
    have := (rec_sz (areOK_iff.1 h.rc i hi).1).2; rw [e2] at this; exact this
  refine ⟨⟨by unfold Len; omega, by unfold Len; omega, by unfold Len; omega⟩, ?_, ⟨by unfold Len; omega, fun i hi => ?_⟩, fun r hr => by have := key r hr; unfold Len; omega⟩
  · exact ⟨by omega, fun r hr => by have := key r hr; omega⟩
  · have := (h.fp i hi).2.2.1.2.2.1; unfold PgB Len; omega
theorem lawG_pure (c m : List UInt8) : PureFn Tryz.prog 3 [.bys c, .bys m] (.bool true) := by
  refine v_LawG c m ⟨fun _ => rfl, fun hq => ?_⟩
  simp only [Bool.or_eq_false_iff, decide_eq_false_iff_not] at hq; obtain ⟨hI, h13⟩ := dEnd_inv c; obtain ⟨s, hs⟩ : ∃ s, s = (dEnd c).2 := ⟨_, rfl⟩; rw [← hs] at hI h13; have hsu := hI.su; obtain ⟨ga, hu, hle⟩ := g_flu hI (l := (s.log.length : Int)) (Int.le_refl _); obtain ⟨_, _, r3, r4⟩ := flu_rest s (s.log.length : Int); have hin : inR (s.log.length : Int) 0 s.log.length = true := by simp [inR]
  have efl := fluLog_ok hI.ok hin; rw [hu] at efl; generalize (fluS s (s.log.length : Int)).1 = a at *; have hau := ga.su; have hse : a.sure = a.log.length := by rw [r3] at hau ⊢; omega
  obtain ⟨g1, g2⟩ := g_log ga hse; have hep := ga.ep; have h60 := ga.l60; have hat := at_rng m (i := 0) (n := 61) (by decide)
  have c100 : 0 <= 100 := Nat.zero_le _; have c1000 : 61 <= 1000 := by decide
  refine ⟨⟨(c, s), hs⟩, ⟨⟨rfl, trivial⟩, by dsimp only; omega⟩, (s, (s.log.length : Int)), ⟨⟨le0 _, le0 _, le0 _, le0 _, le0 _⟩, ⟨⟨⟨rfl, rowsR _ _⟩, ⟨rfl, rowsR _ _⟩, rfl, ⟨rfl, rowsR _ _⟩, rfl, ⟨rfl, rowsR _ _⟩, rfl, ⟨rfl, fun _ _ => rfl⟩, rfl, trivial⟩, rfl, trivial⟩, hI.B, hI.sm⟩, (s, (s.log.length : Int)), ⟨⟨le0 _, le0 _, le0 _, le0 _, le0 _⟩, ⟨⟨⟨rfl, rowsR _ _⟩, ⟨rfl, rowsR _ _⟩, rfl, ⟨rfl, rowsR _ _⟩, rfl, ⟨rfl, rowsR _ _⟩, rfl, ⟨rfl, fun _ _ => rfl⟩, rfl, trivial⟩, rfl, trivial⟩, hI.B, hI.sm⟩, a, ?_⟩
  dsimp only; rw [efl]; dsimp only; refine ⟨fun _ => ⟨⟨⟨le0 _, le0 _, le0 _, le0 _, le0 _⟩, ⟨le0 _, le0 _, le0 _, le0 _, le0 _⟩⟩, ⟨⟨⟨rfl, rowsR _ _⟩, ⟨rfl, rowsR _ _⟩, rfl, ⟨rfl, rowsR _ _⟩, rfl, ⟨rfl, rowsR _ _⟩, rfl, ⟨rfl, fun _ _ => rfl⟩, rfl, trivial⟩, ⟨⟨rfl, rowsR _ _⟩, ⟨rfl, rowsR _ _⟩, rfl, ⟨rfl, rowsR _ _⟩, rfl, ⟨rfl, rowsR _ _⟩, rfl, ⟨rfl, fun _ _ => rfl⟩, rfl, trivial⟩, trivial⟩, ga.sm⟩, fun h => ?_, fun _ => ⟨(a.d, a.ep), ⟨⟨le0 _, le0 _, le0 _⟩, ⟨(by repeat' first | exact trivial | exact rfl | exact rowsR _ _ | exact famR _ | exact row0 | exact le0 _ | exact Nat.le_refl _ | exact Nat.zero_le _ | refine And.intro ?_ ?_), r4.symm, trivial⟩, ga.dg.P ga.ca, by dsimp only; omega, by dsimp only; omega⟩, (m, 0, 61), ⟨⟨rfl, rfl, rfl, trivial⟩, c100, c1000, by dsimp only; omega⟩, atV m 0 61, ⟨⟨rfl, trivial⟩, hat.1, by omega⟩, atV m 0 61, ⟨⟨rfl, trivial⟩, hat.1, by omega⟩, a.log, fun _ => ⟨⟨?_, le0 _⟩, ⟨⟨?_, ?_⟩, ⟨by rw [r3], by rw [r3]; exact rowsR _ _⟩, trivial⟩, by omega⟩, (m, 0, 61), fun _ => ⟨⟨rfl, rfl, rfl, trivial⟩, c100, c1000, by dsimp only; omega⟩, by simp⟩⟩
  · rw [r3] at hse; simp [hse] at h
  · dsimp only; rw [lgL_len]; exact le0 _
  · exact g1
  · dsimp only; rw [g1]; have := g2.2; rw [lgL_len] at this; exact this
end Go.Proofs.YtndilbkocjlgpaaGreat

