/- A part of the proof. -/
import Derived.Test.YtjbomnjmcbhadaaGreatV3
import Derived.Test.YtjbomnjmcbhadaaGreatW4
namespace Go.Proofs.YtjbomnjmcbhadaaGreat
set_option maxRecDepth 100000
open Go.SS

-- the rows of a table
def rwRow (L : List Rw) (i : Nat) : List T := (L.getD i default).ts
def rwS (L : List Rw) : T := .sl 7 L.length (rwRow L)
def notLt (L : List Rw) (id : Int) (i : Nat) : Bool := !decide ((L.getD i default).id < id)
def posR (L : List Rw) (id : Int) : Nat := if fstI L.length (notLt L id) < 0 then L.length else (fstI L.length (notLt L id)).toNat
def insR (L : List Rw) (r : Rw) : List Rw := L.take (posR L r.id) ++ [r] ++ L.drop (posR L r.id)
def stepR (table : Int) (L : List Rw) (t : List UInt8) : List Rw := match rowAt t with
  | some x => if x.1 = table then insR L x.2 else L
  | none => L
def rowsIn (sl : List (List UInt8)) (table : Int) (L : List Rw) : Nat → List Rw
  | 0 => L
  | i + 1 => stepR table (rowsIn sl table L i) (sl.getD i [])
noncomputable def pgE (s : Sto) (no : Nat) : Pg := if frAt s.fr no < 0 then (pgAt s.d no).1 else (s.fr.getD (frAt s.fr no).toNat default).pg
noncomputable def rowsTo (s : Sto) (table : Int) : Nat → List Rw
  | 0 => []
  | no + 1 => rowsIn (pgE s no).sl table (rowsTo s table no) 4
def StoR (s : Sto) : Prop := DskP s.d ∧ s.d.sec.length = 69 ∧ Len s.fr.length ∧ ∀ no, no < 8 → (pgE s no).sl.length = 4 ∧ ∀ i, i < 4 → ((pgE s no).sl.getD i []).length ≤ 65536
noncomputable def k_l08Rows : Con := .rel ⟨Eng × Int, fun x => [.agg x.1.ts, .int .i64 x.2], fun x => rwS (rowsTo x.1.s x.2 8), fun x => StoR x.1.s⟩
def rwA (L : List Rw) : Option Ob := some (.arr true 0 7 L.length (rwRow L))
def pgBox (p : Pg) : Option Ob := some (.arr true 1000000 2 1 fun _ => p.ts)
def rwBox (r : Rw) : Option Ob := some (.arr true 1000000 7 1 fun _ => r.ts)
noncomputable def rowI (s : Sto) (no i : Nat) : Rw := ((rowAt ((pgE s no).sl.getD i [])).getD default).2
noncomputable def A_l08Rows (e : Eng) (table : Int) : Nat → Ann
  | 0 => .one {no : Nat // no ≤ 8} (fun x => ⟨[(1, .int .i64 table), (2, .ref 0 0 0), (5, .osl 1 0 (rowsTo e.s table x.1).length), (6, .int .i64 x.1)], [engBox e, rwA (rowsTo e.s table x.1)]⟩) (fun x => 8 - x.1) [.box 0, .arr 1] [.box 0, .arr 1] (fun x => fun
    | 1 => .one {i : Nat // i ≤ 4} (fun y => ⟨[(1, .int .i64 table), (2, .ref 0 0 0), (5, .osl 1 0 (rowsIn (pgE e.s x.1).sl table (rowsTo e.s table x.1) y.1).length), (6, .int .i64 x.1), (7, .ref 2 0 0), (10, .int .i64 y.1)], [engBox e, rwA (rowsIn (pgE e.s x.1).sl table (rowsTo e.s table x.1) y.1), pgBox (pgE e.s x.1)]⟩) (fun y => 4 - y.1) [.box 0, .arr 1, .box 2] [.box 0, .at_ 5, .box 2] (fun y => fun
      | 2 => .one {j : Nat // j ≤ (rowsIn (pgE e.s x.1).sl table (rowsTo e.s table x.1) y.1).length ∧ ∀ k, k < j → notLt (rowsIn (pgE e.s x.1).sl table (rowsTo e.s table x.1) y.1) (rowI e.s x.1 y.1).id k = false} (fun z => ⟨[(1, .int .i64 table), (2, .ref 0 0 0), (5, .osl 1 0 (rowsIn (pgE e.s x.1).sl table (rowsTo e.s table x.1) y.1).length), (6, .int .i64 x.1), (7, .ref 2 0 0), (10, .int .i64 y.1), (12, .ref 3 0 0), (14, .int .i64 z.1)], [engBox e, rwA (rowsIn (pgE e.s x.1).sl table (rowsTo e.s table x.1) y.1), pgBox (pgE e.s x.1), rwBox (rowI e.s x.1 y.1)]⟩) (fun z => (rowsIn (pgE e.s x.1).sl table (rowsTo e.s table x.1) y.1).length - z.1) [.box 0, .arr 1, .box 2, .box 3] [.box 0, .arr 1, .box 2, .box 3] (fun _ => noAnn)
      | _ => .none)
    | _ => .none)
  | _ => .none
def k_tmp : Con := .tmp
noncomputable def b_tmp : Code := Tryz.f187.body.getD .skip
theorem call_tmp : Callable Tryz.prog 187 := ⟨_, Tryz.func187, by kernel_rfl, by kernel_rfl⟩
theorem tmp_ok : ConOk Tryz.prog 187 k_tmp := trivial
noncomputable def b_l08Rows : Code := Tryz.f109.body.getD .skip
theorem call_l08Rows : Callable Tryz.prog 109 := ⟨_, Tryz.func109, by kernel_rfl, by kernel_rfl⟩
theorem v_l08Rows (e : Eng) (table : Int) (h :
    (∃ (x : { no : Nat // no ≤ 8 }), (table = table ∧ (0 = 0 ∧ 0 = 0) ∧ (0 = 0 ∧ 0 = (rowsTo e.s table x.val).length) ∧ (0 : Int) = (x.val:Int) ∧ True) ∧ (1 = 1 ∧ 1 = 1 ∧ EqG e e) ∧ (0 = (rowsTo e.s table x.val).length ∧ RowsEq 0 (fun (k : Nat) => List.take 7 (List.drop (k * 7) [])) (rwRow (rowsTo e.s table x.val))) ∧ True) ∧ ∀ (x : { no : Nat // no ≤ 8 }), (decide ((x.val:Int) < (8 : Int)) = true → ∃ (x_1 : r_l05Page.ι), (((EqD e.s.d x_1.fst) ∧ (x.val:Int) = (x_1.snd:Int) ∧ True) ∧ PgSide x_1) ∧ ∃ (x_2 : r_l05Frame.ι), (((EqS e.s x_2.fst) ∧ (x.val:Int) = x_2.snd ∧ True) ∧ Len x_2.fst.fr.length) ∧ (decide (frAt x_2.fst.fr x_2.snd ≥ (0 : Int)) = true → InB (frAt x_2.fst.fr x_2.snd) e.s.fr.length ∧ (∃ (x_3 : { i : Nat // i ≤ 4 }), (table = table ∧ (0 = 0 ∧ 0 = 0) ∧ (0 = 0 ∧ (rowsTo e.s table x.val).length = (rowsIn (pgE e.s x.val).sl table (rowsTo e.s table x.val) x_3.val).length) ∧ (x.val:Int) = (x.val:Int) ∧ (0 = 0 ∧ 0 = 0) ∧ (0 : Int) = (x_3.val:Int) ∧ True) ∧ (1 = 1 ∧ 1 = 1 ∧ EqG e e) ∧ ((rowsTo e.s table x.val).length = (rowsIn (pgE e.s x.val).sl table (rowsTo e.s table x.val) x_3.val).length ∧ RowsEq (rowsTo e.s table x.val).length (rwRow (rowsTo e.s table x.val)) (rwRow (rowsIn (pgE e.s x.val).sl table (rowsTo e.s table x.val) x_3.val))) ∧ (1 = 1 ∧ 1 = 1 ∧ (e.s.fr.getD (frAt x_2.fst.fr x_2.snd).toNat default).pg.lsn = (pgE e.s x.val).lsn ∧ ((e.s.fr.getD (frAt x_2.fst.fr x_2.snd).toNat default).pg.sl.length = (pgE e.s x.val).sl.length ∧ RowsEq (e.s.fr.getD (frAt x_2.fst.fr x_2.snd).toNat default).pg.sl.length (strRow (e.s.fr.getD (frAt x_2.fst.fr x_2.snd).toNat default).pg.sl) (strRow (pgE e.s x.val).sl)) ∧ True) ∧ True) ∧ ∀ (x_3 : { i : Nat // i ≤ 4 }), (decide ((x_3.val:Int) < (4 : Int)) = true → InB (x_3.val:Int) (pgE e.s x.val).sl.length ∧ ∃ (x_4 : (List UInt8)), (((pgE e.s x.val).sl.getD (x_3.val:Int).toNat [] = x_4 ∧ True) ∧ Len9 x_4) ∧ ((!(rdS x_4).snd.snd || (rdS x_4).fst != table) = true → Rng .i64 ((x_3.val:Int) + (1 : Int)) ∧ ∃ (y : { i : Nat // i ≤ 4 }), ((table = table ∧ (0 = 0 ∧ 0 = 0) ∧ (0 = 0 ∧ (rowsIn (pgE e.s x.val).sl table (rowsTo e.s table x.val) x_3.val).length = (rowsIn (pgE e.s x.val).sl table (rowsTo e.s table x.val) y.val).length) ∧ (x.val:Int) = (x.val:Int) ∧ (0 = 0 ∧ 0 = 0) ∧ (x_3.val:Int) + (1 : Int) = (y.val:Int) ∧ True) ∧ (1 = 1 ∧ 1 = 1 ∧ EqG e e) ∧ ((rowsIn (pgE e.s x.val).sl table (rowsTo e.s table x.val) x_3.val).length = (rowsIn (pgE e.s x.val).sl table (rowsTo e.s table x.val) y.val).length ∧ RowsEq (rowsIn (pgE e.s x.val).sl table (rowsTo e.s table x.val) x_3.val).length (rwRow (rowsIn (pgE e.s x.val).sl table (rowsTo e.s table x.val) x_3.val)) (rwRow (rowsIn (pgE e.s x.val).sl table (rowsTo e.s table x.val) y.val))) ∧ (1 = 1 ∧ 1 = 1 ∧ (pgE e.s x.val).lsn = (pgE e.s x.val).lsn ∧ ((pgE e.s x.val).sl.length = (pgE e.s x.val).sl.length ∧ RowsEq (pgE e.s x.val).sl.length (strRow (pgE e.s x.val).sl) (strRow (pgE e.s x.val).sl)) ∧ True) ∧ True) ∧ Lt (4 - y.val) (4 - x_3.val)) ∧ ((!(rdS x_4).snd.snd || (rdS x_4).fst != table) = false → (∃ (x_5 : { j : Nat // j ≤ (rowsIn (pgE e.s x.val).sl table (rowsTo e.s table x.val) x_3.val).length ∧ ∀ (k : Nat), k < j → notLt (rowsIn (pgE e.s x.val).sl table (rowsTo e.s table x.val) x_3.val) (rowI e.s x.val x_3.val).id k = false }), (table = table ∧ (0 = 0 ∧ 0 = 0) ∧ (0 = 0 ∧ (rowsIn (pgE e.s x.val).sl table (rowsTo e.s table x.val) x_3.val).length = (rowsIn (pgE e.s x.val).sl table (rowsTo e.s table x.val) x_3.val).length) ∧ (x.val:Int) = (x.val:Int) ∧ (0 = 0 ∧ 0 = 0) ∧ (x_3.val:Int) = (x_3.val:Int) ∧ (0 = 0 ∧ 0 = 0) ∧ (0 : Int) = (x_5.val:Int) ∧ True) ∧ (1 = 1 ∧ 1 = 1 ∧ EqG e e) ∧ ((rowsIn (pgE e.s x.val).sl table (rowsTo e.s table x.val) x_3.val).length = (rowsIn (pgE e.s x.val).sl table (rowsTo e.s table x.val) x_3.val).length ∧ RowsEq (rowsIn (pgE e.s x.val).sl table (rowsTo e.s table x.val) x_3.val).length (rwRow (rowsIn (pgE e.s x.val).sl table (rowsTo e.s table x.val) x_3.val)) (rwRow (rowsIn (pgE e.s x.val).sl table (rowsTo e.s table x.val) x_3.val))) ∧ (1 = 1 ∧ 1 = 1 ∧ (pgE e.s x.val).lsn = (pgE e.s x.val).lsn ∧ ((pgE e.s x.val).sl.length = (pgE e.s x.val).sl.length ∧ RowsEq (pgE e.s x.val).sl.length (strRow (pgE e.s x.val).sl) (strRow (pgE e.s x.val).sl)) ∧ True) ∧ (1 = 1 ∧ 1 = 1 ∧ (rdS x_4).snd.fst.id = (rowI e.s x.val x_3.val).id ∧ (rdS x_4).snd.fst.n.k = (rowI e.s x.val x_3.val).n.k ∧ (rdS x_4).snd.fst.n.n = (rowI e.s x.val x_3.val).n.n ∧ (rdS x_4).snd.fst.n.t = (rowI e.s x.val x_3.val).n.t ∧ (rdS x_4).snd.fst.name.k = (rowI e.s x.val x_3.val).name.k ∧ (rdS x_4).snd.fst.name.n = (rowI e.s x.val x_3.val).name.n ∧ (rdS x_4).snd.fst.name.t = (rowI e.s x.val x_3.val).name.t ∧ True) ∧ True) ∧ ∀ (x_5 : { j : Nat // j ≤ (rowsIn (pgE e.s x.val).sl table (rowsTo e.s table x.val) x_3.val).length ∧ ∀ (k : Nat), k < j → notLt (rowsIn (pgE e.s x.val).sl table (rowsTo e.s table x.val) x_3.val) (rowI e.s x.val x_3.val).id k = false }), (decide ((x_5.val:Int) < (↑(rowsIn (pgE e.s x.val).sl table (rowsTo e.s table x.val) x_3.val).length : Int)) = true → InB (x_5.val:Int) (rowsIn (pgE e.s x.val).sl table (rowsTo e.s table x.val) x_3.val).length) ∧ (decide ((x_5.val:Int) < (↑(rowsIn (pgE e.s x.val).sl table (rowsTo e.s table x.val) x_3.val).length : Int)) = true → Lt (0 + (x_5.val:Int).toNat) (rowsIn (pgE e.s x.val).sl table (rowsTo e.s table x.val) x_3.val).length) ∧ ((decide ((x_5.val:Int) < (↑(rowsIn (pgE e.s x.val).sl table (rowsTo e.s table x.val) x_3.val).length : Int)) && decide (((rowsIn (pgE e.s x.val).sl table (rowsTo e.s table x.val) x_3.val).getD (0 + (x_5.val:Int).toNat) default).id < (rowI e.s x.val x_3.val).id)) = true → Rng .i64 ((x_5.val:Int) + (1 : Int)) ∧ ∃ (y : { j : Nat // j ≤ (rowsIn (pgE e.s x.val).sl table (rowsTo e.s table x.val) x_3.val).length ∧ ∀ (k : Nat), k < j → notLt (rowsIn (pgE e.s x.val).sl table (rowsTo e.s table x.val) x_3.val) (rowI e.s x.val x_3.val).id k = false }), ((table = table ∧ (0 = 0 ∧ 0 = 0) ∧ (0 = 0 ∧ (rowsIn (pgE e.s x.val).sl table (rowsTo e.s table x.val) x_3.val).length = (rowsIn (pgE e.s x.val).sl table (rowsTo e.s table x.val) x_3.val).length) ∧ (x.val:Int) = (x.val:Int) ∧ (0 = 0 ∧ 0 = 0) ∧ (x_3.val:Int) = (x_3.val:Int) ∧ (0 = 0 ∧ 0 = 0) ∧ (x_5.val:Int) + (1 : Int) = (y.val:Int) ∧ True) ∧ (1 = 1 ∧ 1 = 1 ∧ EqG e e) ∧ ((rowsIn (pgE e.s x.val).sl table (rowsTo e.s table x.val) x_3.val).length = (rowsIn (pgE e.s x.val).sl table (rowsTo e.s table x.val) x_3.val).length ∧ RowsEq (rowsIn (pgE e.s x.val).sl table (rowsTo e.s table x.val) x_3.val).length (rwRow (rowsIn (pgE e.s x.val).sl table (rowsTo e.s table x.val) x_3.val)) (rwRow (rowsIn (pgE e.s x.val).sl table (rowsTo e.s table x.val) x_3.val))) ∧ (1 = 1 ∧ 1 = 1 ∧ (pgE e.s x.val).lsn = (pgE e.s x.val).lsn ∧ ((pgE e.s x.val).sl.length = (pgE e.s x.val).sl.length ∧ RowsEq (pgE e.s x.val).sl.length (strRow (pgE e.s x.val).sl) (strRow (pgE e.s x.val).sl)) ∧ True) ∧ (1 = 1 ∧ 1 = 1 ∧ (rowI e.s x.val x_3.val).id = (rowI e.s x.val x_3.val).id ∧ (rowI e.s x.val x_3.val).n.k = (rowI e.s x.val x_3.val).n.k ∧ (rowI e.s x.val x_3.val).n.n = (rowI e.s x.val x_3.val).n.n ∧ (rowI e.s x.val x_3.val).n.t = (rowI e.s x.val x_3.val).n.t ∧ (rowI e.s x.val x_3.val).name.k = (rowI e.s x.val x_3.val).name.k ∧ (rowI e.s x.val x_3.val).name.n = (rowI e.s x.val x_3.val).name.n ∧ (rowI e.s x.val x_3.val).name.t = (rowI e.s x.val x_3.val).name.t ∧ True) ∧ True) ∧ Lt ((rowsIn (pgE e.s x.val).sl table (rowsTo e.s table x.val) x_3.val).length - y.val) ((rowsIn (pgE e.s x.val).sl table (rowsTo e.s table x.val) x_3.val).length - x_5.val)) ∧ ((decide ((x_5.val:Int) < (↑(rowsIn (pgE e.s x.val).sl table (rowsTo e.s table x.val) x_3.val).length : Int)) && decide (((rowsIn (pgE e.s x.val).sl table (rowsTo e.s table x.val) x_3.val).getD (0 + (x_5.val:Int).toNat) default).id < (rowI e.s x.val x_3.val).id)) = false → InC (x_5.val:Int) (rowsIn (pgE e.s x.val).sl table (rowsTo e.s table x.val) x_3.val).length ∧ (Le (0 + (x_5.val:Int).toNat) (rowsIn (pgE e.s x.val).sl table (rowsTo e.s table x.val) x_3.val).length ∧ Le 0 0 ∧ AppB 0 (x_5.val:Int).toNat 72) ∧ (Le (0 + (x_5.val:Int).toNat) (0 + (x_5.val:Int).toNat) ∧ AppB (0 + (x_5.val:Int).toNat) 1 72) ∧ InC (x_5.val:Int) (rowsIn (pgE e.s x.val).sl table (rowsTo e.s table x.val) x_3.val).length ∧ (Le (0 + (x_5.val:Int).toNat + ((rowsIn (pgE e.s x.val).sl table (rowsTo e.s table x.val) x_3.val).length - (x_5.val:Int).toNat)) (rowsIn (pgE e.s x.val).sl table (rowsTo e.s table x.val) x_3.val).length ∧ Le (0 + (x_5.val:Int).toNat + 1) (0 + (x_5.val:Int).toNat + 1) ∧ AppB (0 + (x_5.val:Int).toNat + 1) ((rowsIn (pgE e.s x.val).sl table (rowsTo e.s table x.val) x_3.val).length - (x_5.val:Int).toNat) 72) ∧ Rng .i64 ((x_3.val:Int) + (1 : Int)) ∧ ∃ (y : { i : Nat // i ≤ 4 }), ((table = table ∧ (0 = 0 ∧ 0 = 0) ∧ (0 = 0 ∧ 0 + (x_5.val:Int).toNat + 1 + ((rowsIn (pgE e.s x.val).sl table (rowsTo e.s table x.val) x_3.val).length - (x_5.val:Int).toNat) = (rowsIn (pgE e.s x.val).sl table (rowsTo e.s table x.val) y.val).length) ∧ (x.val:Int) = (x.val:Int) ∧ (0 = 0 ∧ 0 = 0) ∧ (x_3.val:Int) + (1 : Int) = (y.val:Int) ∧ True) ∧ (1 = 1 ∧ 1 = 1 ∧ EqG e e) ∧ (0 + (x_5.val:Int).toNat + 1 + ((rowsIn (pgE e.s x.val).sl table (rowsTo e.s table x.val) x_3.val).length - (x_5.val:Int).toNat) = (rowsIn (pgE e.s x.val).sl table (rowsTo e.s table x.val) y.val).length ∧ RowsEq (0 + (x_5.val:Int).toNat + 1 + ((rowsIn (pgE e.s x.val).sl table (rowsTo e.s table x.val) x_3.val).length - (x_5.val:Int).toNat)) (appRow (appRow (appRow (fun (k : Nat) => List.take 7 (List.drop (k * 7) [])) 0 (rwRow (rowsIn (pgE e.s x.val).sl table (rowsTo e.s table x.val) x_3.val))) (0 + (x_5.val:Int).toNat) fun (k : Nat) => List.take 7 (List.drop (k * 7) [T.int .i64 (rowI e.s x.val x_3.val).id, T.int .i64 (rowI e.s x.val x_3.val).n.k, T.int .i64 (rowI e.s x.val x_3.val).n.n, T.str (rowI e.s x.val x_3.val).n.t, T.int .i64 (rowI e.s x.val x_3.val).name.k, T.int .i64 (rowI e.s x.val x_3.val).name.n, T.str (rowI e.s x.val x_3.val).name.t])) (0 + (x_5.val:Int).toNat + 1) (match (motive := Nat → Nat → List T) 0 + (x_5.val:Int).toNat with | 0 => rwRow (rowsIn (pgE e.s x.val).sl table (rowsTo e.s table x.val) x_3.val) | off => fun (i : Nat) => [T.int .i64 ((rowsIn (pgE e.s x.val).sl table (rowsTo e.s table x.val) x_3.val).getD (off + i) default).id, T.int .i64 ((rowsIn (pgE e.s x.val).sl table (rowsTo e.s table x.val) x_3.val).getD (off + i) default).n.k, T.int .i64 ((rowsIn (pgE e.s x.val).sl table (rowsTo e.s table x.val) x_3.val).getD (off + i) default).n.n, T.str ((rowsIn (pgE e.s x.val).sl table (rowsTo e.s table x.val) x_3.val).getD (off + i) default).n.t, T.int .i64 ((rowsIn (pgE e.s x.val).sl table (rowsTo e.s table x.val) x_3.val).getD (off + i) default).name.k, T.int .i64 ((rowsIn (pgE e.s x.val).sl table (rowsTo e.s table x.val) x_3.val).getD (off + i) default).name.n, T.str ((rowsIn (pgE e.s x.val).sl table (rowsTo e.s table x.val) x_3.val).getD (off + i) default).name.t])) (rwRow (rowsIn (pgE e.s x.val).sl table (rowsTo e.s table x.val) y.val))) ∧ (1 = 1 ∧ 1 = 1 ∧ (pgE e.s x.val).lsn = (pgE e.s x.val).lsn ∧ ((pgE e.s x.val).sl.length = (pgE e.s x.val).sl.length ∧ RowsEq (pgE e.s x.val).sl.length (strRow (pgE e.s x.val).sl) (strRow (pgE e.s x.val).sl)) ∧ True) ∧ True) ∧ Lt (4 - y.val) (4 - x_3.val)))) ∧ (decide ((x_3.val:Int) < (4 : Int)) = false → Rng .i64 ((x.val:Int) + (1 : Int)) ∧ ∃ (y : { no : Nat // no ≤ 8 }), ((table = table ∧ (0 = 0 ∧ 0 = 0) ∧ (0 = 0 ∧ (rowsIn (pgE e.s x.val).sl table (rowsTo e.s table x.val) x_3.val).length = (rowsTo e.s table y.val).length) ∧ (x.val:Int) + (1 : Int) = (y.val:Int) ∧ True) ∧ (1 = 1 ∧ 1 = 1 ∧ EqG e e) ∧ ((rowsIn (pgE e.s x.val).sl table (rowsTo e.s table x.val) x_3.val).length = (rowsTo e.s table y.val).length ∧ RowsEq (rowsIn (pgE e.s x.val).sl table (rowsTo e.s table x.val) x_3.val).length (rwRow (rowsIn (pgE e.s x.val).sl table (rowsTo e.s table x.val) x_3.val)) (rwRow (rowsTo e.s table y.val))) ∧ True) ∧ Lt (8 - y.val) (8 - x.val))) ∧ (decide (frAt x_2.fst.fr x_2.snd ≥ (0 : Int)) = false → (∃ (x_3 : { i : Nat // i ≤ 4 }), (table = table ∧ (0 = 0 ∧ 0 = 0) ∧ (0 = 0 ∧ (rowsTo e.s table x.val).length = (rowsIn (pgE e.s x.val).sl table (rowsTo e.s table x.val) x_3.val).length) ∧ (x.val:Int) = (x.val:Int) ∧ (0 = 0 ∧ 0 = 0) ∧ (0 : Int) = (x_3.val:Int) ∧ True) ∧ (1 = 1 ∧ 1 = 1 ∧ EqG e e) ∧ ((rowsTo e.s table x.val).length = (rowsIn (pgE e.s x.val).sl table (rowsTo e.s table x.val) x_3.val).length ∧ RowsEq (rowsTo e.s table x.val).length (rwRow (rowsTo e.s table x.val)) (rwRow (rowsIn (pgE e.s x.val).sl table (rowsTo e.s table x.val) x_3.val))) ∧ (1 = 1 ∧ 1 = 1 ∧ (pgAt x_1.fst x_1.snd).fst.lsn = (pgE e.s x.val).lsn ∧ ((pgAt x_1.fst x_1.snd).fst.sl.length = (pgE e.s x.val).sl.length ∧ RowsEq (pgAt x_1.fst x_1.snd).fst.sl.length (strRow (pgAt x_1.fst x_1.snd).fst.sl) (strRow (pgE e.s x.val).sl)) ∧ True) ∧ True) ∧ ∀ (x_3 : { i : Nat // i ≤ 4 }), (decide ((x_3.val:Int) < (4 : Int)) = true → InB (x_3.val:Int) (pgE e.s x.val).sl.length ∧ ∃ (x_4 : (List UInt8)), (((pgE e.s x.val).sl.getD (x_3.val:Int).toNat [] = x_4 ∧ True) ∧ Len9 x_4) ∧ ((!(rdS x_4).snd.snd || (rdS x_4).fst != table) = true → Rng .i64 ((x_3.val:Int) + (1 : Int)) ∧ ∃ (y : { i : Nat // i ≤ 4 }), ((table = table ∧ (0 = 0 ∧ 0 = 0) ∧ (0 = 0 ∧ (rowsIn (pgE e.s x.val).sl table (rowsTo e.s table x.val) x_3.val).length = (rowsIn (pgE e.s x.val).sl table (rowsTo e.s table x.val) y.val).length) ∧ (x.val:Int) = (x.val:Int) ∧ (0 = 0 ∧ 0 = 0) ∧ (x_3.val:Int) + (1 : Int) = (y.val:Int) ∧ True) ∧ (1 = 1 ∧ 1 = 1 ∧ EqG e e) ∧ ((rowsIn (pgE e.s x.val).sl table (rowsTo e.s table x.val) x_3.val).length = (rowsIn (pgE e.s x.val).sl table (rowsTo e.s table x.val) y.val).length ∧ RowsEq (rowsIn (pgE e.s x.val).sl table (rowsTo e.s table x.val) x_3.val).length (rwRow (rowsIn (pgE e.s x.val).sl table (rowsTo e.s table x.val) x_3.val)) (rwRow (rowsIn (pgE e.s x.val).sl table (rowsTo e.s table x.val) y.val))) ∧ (1 = 1 ∧ 1 = 1 ∧ (pgE e.s x.val).lsn = (pgE e.s x.val).lsn ∧ ((pgE e.s x.val).sl.length = (pgE e.s x.val).sl.length ∧ RowsEq (pgE e.s x.val).sl.length (strRow (pgE e.s x.val).sl) (strRow (pgE e.s x.val).sl)) ∧ True) ∧ True) ∧ Lt (4 - y.val) (4 - x_3.val)) ∧ ((!(rdS x_4).snd.snd || (rdS x_4).fst != table) = false → (∃ (x_5 : { j : Nat // j ≤ (rowsIn (pgE e.s x.val).sl table (rowsTo e.s table x.val) x_3.val).length ∧ ∀ (k : Nat), k < j → notLt (rowsIn (pgE e.s x.val).sl table (rowsTo e.s table x.val) x_3.val) (rowI e.s x.val x_3.val).id k = false }), (table = table ∧ (0 = 0 ∧ 0 = 0) ∧ (0 = 0 ∧ (rowsIn (pgE e.s x.val).sl table (rowsTo e.s table x.val) x_3.val).length = (rowsIn (pgE e.s x.val).sl table (rowsTo e.s table x.val) x_3.val).length) ∧ (x.val:Int) = (x.val:Int) ∧ (0 = 0 ∧ 0 = 0) ∧ (x_3.val:Int) = (x_3.val:Int) ∧ (0 = 0 ∧ 0 = 0) ∧ (0 : Int) = (x_5.val:Int) ∧ True) ∧ (1 = 1 ∧ 1 = 1 ∧ EqG e e) ∧ ((rowsIn (pgE e.s x.val).sl table (rowsTo e.s table x.val) x_3.val).length = (rowsIn (pgE e.s x.val).sl table (rowsTo e.s table x.val) x_3.val).length ∧ RowsEq (rowsIn (pgE e.s x.val).sl table (rowsTo e.s table x.val) x_3.val).length (rwRow (rowsIn (pgE e.s x.val).sl table (rowsTo e.s table x.val) x_3.val)) (rwRow (rowsIn (pgE e.s x.val).sl table (rowsTo e.s table x.val) x_3.val))) ∧ (1 = 1 ∧ 1 = 1 ∧ (pgE e.s x.val).lsn = (pgE e.s x.val).lsn ∧ ((pgE e.s x.val).sl.length = (pgE e.s x.val).sl.length ∧ RowsEq (pgE e.s x.val).sl.length (strRow (pgE e.s x.val).sl) (strRow (pgE e.s x.val).sl)) ∧ True) ∧ (1 = 1 ∧ 1 = 1 ∧ (rdS x_4).snd.fst.id = (rowI e.s x.val x_3.val).id ∧ (rdS x_4).snd.fst.n.k = (rowI e.s x.val x_3.val).n.k ∧ (rdS x_4).snd.fst.n.n = (rowI e.s x.val x_3.val).n.n ∧ (rdS x_4).snd.fst.n.t = (rowI e.s x.val x_3.val).n.t ∧ (rdS x_4).snd.fst.name.k = (rowI e.s x.val x_3.val).name.k ∧ (rdS x_4).snd.fst.name.n = (rowI e.s x.val x_3.val).name.n ∧ (rdS x_4).snd.fst.name.t = (rowI e.s x.val x_3.val).name.t ∧ True) ∧ True) ∧ ∀ (x_5 : { j : Nat // j ≤ (rowsIn (pgE e.s x.val).sl table (rowsTo e.s table x.val) x_3.val).length ∧ ∀ (k : Nat), k < j → notLt (rowsIn (pgE e.s x.val).sl table (rowsTo e.s table x.val) x_3.val) (rowI e.s x.val x_3.val).id k = false }), (decide ((x_5.val:Int) < (↑(rowsIn (pgE e.s x.val).sl table (rowsTo e.s table x.val) x_3.val).length : Int)) = true → InB (x_5.val:Int) (rowsIn (pgE e.s x.val).sl table (rowsTo e.s table x.val) x_3.val).length) ∧ (decide ((x_5.val:Int) < (↑(rowsIn (pgE e.s x.val).sl table (rowsTo e.s table x.val) x_3.val).length : Int)) = true → Lt (0 + (x_5.val:Int).toNat) (rowsIn (pgE e.s x.val).sl table (rowsTo e.s table x.val) x_3.val).length) ∧ ((decide ((x_5.val:Int) < (↑(rowsIn (pgE e.s x.val).sl table (rowsTo e.s table x.val) x_3.val).length : Int)) && decide (((rowsIn (pgE e.s x.val).sl table (rowsTo e.s table x.val) x_3.val).getD (0 + (x_5.val:Int).toNat) default).id < (rowI e.s x.val x_3.val).id)) = true → Rng .i64 ((x_5.val:Int) + (1 : Int)) ∧ ∃ (y : { j : Nat // j ≤ (rowsIn (pgE e.s x.val).sl table (rowsTo e.s table x.val) x_3.val).length ∧ ∀ (k : Nat), k < j → notLt (rowsIn (pgE e.s x.val).sl table (rowsTo e.s table x.val) x_3.val) (rowI e.s x.val x_3.val).id k = false }), ((table = table ∧ (0 = 0 ∧ 0 = 0) ∧ (0 = 0 ∧ (rowsIn (pgE e.s x.val).sl table (rowsTo e.s table x.val) x_3.val).length = (rowsIn (pgE e.s x.val).sl table (rowsTo e.s table x.val) x_3.val).length) ∧ (x.val:Int) = (x.val:Int) ∧ (0 = 0 ∧ 0 = 0) ∧ (x_3.val:Int) = (x_3.val:Int) ∧ (0 = 0 ∧ 0 = 0) ∧ (x_5.val:Int) + (1 : Int) = (y.val:Int) ∧ True) ∧ (1 = 1 ∧ 1 = 1 ∧ EqG e e) ∧ ((rowsIn (pgE e.s x.val).sl table (rowsTo e.s table x.val) x_3.val).length = (rowsIn (pgE e.s x.val).sl table (rowsTo e.s table x.val) x_3.val).length ∧ RowsEq (rowsIn (pgE e.s x.val).sl table (rowsTo e.s table x.val) x_3.val).length (rwRow (rowsIn (pgE e.s x.val).sl table (rowsTo e.s table x.val) x_3.val)) (rwRow (rowsIn (pgE e.s x.val).sl table (rowsTo e.s table x.val) x_3.val))) ∧ (1 = 1 ∧ 1 = 1 ∧ (pgE e.s x.val).lsn = (pgE e.s x.val).lsn ∧ ((pgE e.s x.val).sl.length = (pgE e.s x.val).sl.length ∧ RowsEq (pgE e.s x.val).sl.length (strRow (pgE e.s x.val).sl) (strRow (pgE e.s x.val).sl)) ∧ True) ∧ (1 = 1 ∧ 1 = 1 ∧ (rowI e.s x.val x_3.val).id = (rowI e.s x.val x_3.val).id ∧ (rowI e.s x.val x_3.val).n.k = (rowI e.s x.val x_3.val).n.k ∧ (rowI e.s x.val x_3.val).n.n = (rowI e.s x.val x_3.val).n.n ∧ (rowI e.s x.val x_3.val).n.t = (rowI e.s x.val x_3.val).n.t ∧ (rowI e.s x.val x_3.val).name.k = (rowI e.s x.val x_3.val).name.k ∧ (rowI e.s x.val x_3.val).name.n = (rowI e.s x.val x_3.val).name.n ∧ (rowI e.s x.val x_3.val).name.t = (rowI e.s x.val x_3.val).name.t ∧ True) ∧ True) ∧ Lt ((rowsIn (pgE e.s x.val).sl table (rowsTo e.s table x.val) x_3.val).length - y.val) ((rowsIn (pgE e.s x.val).sl table (rowsTo e.s table x.val) x_3.val).length - x_5.val)) ∧ ((decide ((x_5.val:Int) < (↑(rowsIn (pgE e.s x.val).sl table (rowsTo e.s table x.val) x_3.val).length : Int)) && decide (((rowsIn (pgE e.s x.val).sl table (rowsTo e.s table x.val) x_3.val).getD (0 + (x_5.val:Int).toNat) default).id < (rowI e.s x.val x_3.val).id)) = false → InC (x_5.val:Int) (rowsIn (pgE e.s x.val).sl table (rowsTo e.s table x.val) x_3.val).length ∧ (Le (0 + (x_5.val:Int).toNat) (rowsIn (pgE e.s x.val).sl table (rowsTo e.s table x.val) x_3.val).length ∧ Le 0 0 ∧ AppB 0 (x_5.val:Int).toNat 72) ∧ (Le (0 + (x_5.val:Int).toNat) (0 + (x_5.val:Int).toNat) ∧ AppB (0 + (x_5.val:Int).toNat) 1 72) ∧ InC (x_5.val:Int) (rowsIn (pgE e.s x.val).sl table (rowsTo e.s table x.val) x_3.val).length ∧ (Le (0 + (x_5.val:Int).toNat + ((rowsIn (pgE e.s x.val).sl table (rowsTo e.s table x.val) x_3.val).length - (x_5.val:Int).toNat)) (rowsIn (pgE e.s x.val).sl table (rowsTo e.s table x.val) x_3.val).length ∧ Le (0 + (x_5.val:Int).toNat + 1) (0 + (x_5.val:Int).toNat + 1) ∧ AppB (0 + (x_5.val:Int).toNat + 1) ((rowsIn (pgE e.s x.val).sl table (rowsTo e.s table x.val) x_3.val).length - (x_5.val:Int).toNat) 72) ∧ Rng .i64 ((x_3.val:Int) + (1 : Int)) ∧ ∃ (y : { i : Nat // i ≤ 4 }), ((table = table ∧ (0 = 0 ∧ 0 = 0) ∧ (0 = 0 ∧ 0 + (x_5.val:Int).toNat + 1 + ((rowsIn (pgE e.s x.val).sl table (rowsTo e.s table x.val) x_3.val).length - (x_5.val:Int).toNat) = (rowsIn (pgE e.s x.val).sl table (rowsTo e.s table x.val) y.val).length) ∧ (x.val:Int) = (x.val:Int) ∧ (0 = 0 ∧ 0 = 0) ∧ (x_3.val:Int) + (1 : Int) = (y.val:Int) ∧ True) ∧ (1 = 1 ∧ 1 = 1 ∧ EqG e e) ∧ (0 + (x_5.val:Int).toNat + 1 + ((rowsIn (pgE e.s x.val).sl table (rowsTo e.s table x.val) x_3.val).length - (x_5.val:Int).toNat) = (rowsIn (pgE e.s x.val).sl table (rowsTo e.s table x.val) y.val).length ∧ RowsEq (0 + (x_5.val:Int).toNat + 1 + ((rowsIn (pgE e.s x.val).sl table (rowsTo e.s table x.val) x_3.val).length - (x_5.val:Int).toNat)) (appRow (appRow (appRow (fun (k : Nat) => List.take 7 (List.drop (k * 7) [])) 0 (rwRow (rowsIn (pgE e.s x.val).sl table (rowsTo e.s table x.val) x_3.val))) (0 + (x_5.val:Int).toNat) fun (k : Nat) => List.take 7 (List.drop (k * 7) [T.int .i64 (rowI e.s x.val x_3.val).id, T.int .i64 (rowI e.s x.val x_3.val).n.k, T.int .i64 (rowI e.s x.val x_3.val).n.n, T.str (rowI e.s x.val x_3.val).n.t, T.int .i64 (rowI e.s x.val x_3.val).name.k, T.int .i64 (rowI e.s x.val x_3.val).name.n, T.str (rowI e.s x.val x_3.val).name.t])) (0 + (x_5.val:Int).toNat + 1) (match (motive := Nat → Nat → List T) 0 + (x_5.val:Int).toNat with | 0 => rwRow (rowsIn (pgE e.s x.val).sl table (rowsTo e.s table x.val) x_3.val) | off => fun (i : Nat) => [T.int .i64 ((rowsIn (pgE e.s x.val).sl table (rowsTo e.s table x.val) x_3.val).getD (off + i) default).id, T.int .i64 ((rowsIn (pgE e.s x.val).sl table (rowsTo e.s table x.val) x_3.val).getD (off + i) default).n.k, T.int .i64 ((rowsIn (pgE e.s x.val).sl table (rowsTo e.s table x.val) x_3.val).getD (off + i) default).n.n, T.str ((rowsIn (pgE e.s x.val).sl table (rowsTo e.s table x.val) x_3.val).getD (off + i) default).n.t, T.int .i64 ((rowsIn (pgE e.s x.val).sl table (rowsTo e.s table x.val) x_3.val).getD (off + i) default).name.k, T.int .i64 ((rowsIn (pgE e.s x.val).sl table (rowsTo e.s table x.val) x_3.val).getD (off + i) default).name.n, T.str ((rowsIn (pgE e.s x.val).sl table (rowsTo e.s table x.val) x_3.val).getD (off + i) default).name.t])) (rwRow (rowsIn (pgE e.s x.val).sl table (rowsTo e.s table x.val) y.val))) ∧ (1 = 1 ∧ 1 = 1 ∧ (pgE e.s x.val).lsn = (pgE e.s x.val).lsn ∧ ((pgE e.s x.val).sl.length = (pgE e.s x.val).sl.length ∧ RowsEq (pgE e.s x.val).sl.length (strRow (pgE e.s x.val).sl) (strRow (pgE e.s x.val).sl)) ∧ True) ∧ True) ∧ Lt (4 - y.val) (4 - x_3.val)))) ∧ (decide ((x_3.val:Int) < (4 : Int)) = false → Rng .i64 ((x.val:Int) + (1 : Int)) ∧ ∃ (y : { no : Nat // no ≤ 8 }), ((table = table ∧ (0 = 0 ∧ 0 = 0) ∧ (0 = 0 ∧ (rowsIn (pgE e.s x.val).sl table (rowsTo e.s table x.val) x_3.val).length = (rowsTo e.s table y.val).length) ∧ (x.val:Int) + (1 : Int) = (y.val:Int) ∧ True) ∧ (1 = 1 ∧ 1 = 1 ∧ EqG e e) ∧ ((rowsIn (pgE e.s x.val).sl table (rowsTo e.s table x.val) x_3.val).length = (rowsTo e.s table y.val).length ∧ RowsEq (rowsIn (pgE e.s x.val).sl table (rowsTo e.s table x.val) x_3.val).length (rwRow (rowsIn (pgE e.s x.val).sl table (rowsTo e.s table x.val) x_3.val)) (rwRow (rowsTo e.s table y.val))) ∧ True) ∧ Lt (8 - y.val) (8 - x.val)))) ∧ (decide ((x.val:Int) < (8 : Int)) = false → Le (0 + (rowsTo e.s table x.val).length) (rowsTo e.s table x.val).length ∧ (rowsTo e.s table x.val).length = (rowsTo e.s table 8).length ∧ RowsEq (rowsTo e.s table x.val).length (rwRow (rowsTo e.s table x.val)) (rwRow (rowsTo e.s table 8)))) :
    PureFn Tryz.prog 109 [.agg e.ts, .int .i64 table] (rwS (rowsTo e.s table 8)) :=
  vcR (code := b_l08Rows) (gC l05Page_ok call_l05Page (gC l05Frame_ok call_l05Frame (gC l07Read_ok call_l07Read (gC tmp_ok call_tmp gN)))) Tryz.func109 (by kernel_rfl) (by kernel_rfl) (A_l08Rows e table) h (by kernel_rfl)
theorem posR_is {L : List Rw} {id : Int} {m : Nat} (hm : m ≤ L.length) (hz : ∀ k, k < m → notLt L id k = false) (hs : m < L.length → notLt L id m = true) : posR L id = m := by
  unfold posR
  by_cases h : m < L.length
  · have := fstI_at h (hs h) hz
    rw [this, if_neg (by omega), Int.toNat_natCast]
  · have : fstI L.length (notLt L id) = -1 := fstI_no fun k hk => hz k (by omega)
    rw [this, if_pos (by omega)]
    omega
theorem ins_rows (L : List Rw) (r : Rw) {m : Nat} (hm : m ≤ L.length) : RowsEq (0 + m + 1 + (L.length - m)) (appRow (appRow (appRow (fun k => List.take 7 (List.drop (k * 7) [])) 0 (rwRow L)) (0 + m) fun k => List.take 7 (List.drop (k * 7) r.ts)) (0 + m + 1) (offRow (rwRow L) (0 + m))) (rwRow (L.take m ++ [r] ++ L.drop m)) := by
  intro i hi
  rw [Nat.zero_add] at hi ⊢
  have hl : (L.take m).length = m := by rw [List.length_take]; omega
  by_cases h1 : i < m
  · rw [appRow_lt (by omega), appRow_lt h1, appRow_ge (Nat.zero_le _), Nat.sub_zero]
    unfold rwRow
    rw [List.getD_eq_getElem?_getD, List.getD_eq_getElem?_getD, List.append_assoc, List.getElem?_append_left (by omega), List.getElem?_take_of_lt h1]
  · by_cases h2 : i = m
    · subst h2
      rw [appRow_lt (by omega), appRow_ge (Nat.le_refl _), Nat.sub_self]
      unfold rwRow
      rw [List.getD_eq_getElem?_getD, List.append_assoc, List.getElem?_append_right (by omega), hl, Nat.sub_self]
      rfl
    · rw [appRow_ge (by omega)]
      have ho : offRow (rwRow L) m (i - (m + 1)) = rwRow L (i - 1) := by
        unfold offRow
        split
        · rw [show i - (0 + 1) = i - 1 by omega]
        · exact congrArg (rwRow L) (by omega)
      rw [ho]
      unfold rwRow
      rw [List.getD_eq_getElem?_getD, List.getD_eq_getElem?_getD, List.append_assoc, List.getElem?_append_right (by omega), hl, List.getElem?_append_right (by simp; omega), List.getElem?_drop, List.length_singleton, show m + (i - m - 1) = i - 1 by omega]
theorem stepR_len (table : Int) (L : List Rw) (t : List UInt8) : (stepR table L t).length ≤ L.length + 1 := by
  unfold stepR
  split
  · split
    · unfold insR
      simp
      omega
    · omega
  · omega
theorem rowsIn_len (sl : List (List UInt8)) (table : Int) (L : List Rw) : ∀ i, (rowsIn sl table L i).length ≤ L.length + i
  | 0 => Nat.le_refl _
  | i + 1 => by
    have := rowsIn_len sl table L i
    have := stepR_len table (rowsIn sl table L i) (sl.getD i [])
    unfold rowsIn
    omega
theorem rowsTo_len (s : Sto) (table : Int) : ∀ no, (rowsTo s table no).length ≤ 4 * no
  | 0 => Nat.le_refl _
  | no + 1 => by
    have := rowsTo_len s table no
    have := rowsIn_len (pgE s no).sl table (rowsTo s table no) 4
    unfold rowsTo
    omega
theorem l08Rows_ok : ConOk Tryz.prog 109 k_l08Rows := by
  rintro ⟨e, table⟩ ⟨hD, h69, hfl, hpg⟩
  dsimp only at hD h69 hfl hpg
  have hfl' : e.s.fr.length < 1000000000000 := hfl
  refine v_l08Rows e table ⟨⟨⟨0, Nat.zero_le _⟩, ⟨rfl, ⟨rfl, rfl⟩, ⟨rfl, rfl⟩, rfl, trivial⟩, ⟨rfl, rfl, eqG _⟩, ⟨rfl, rows0 _ _⟩, trivial⟩, fun x => ?_⟩
  obtain ⟨no, hno8⟩ := x
  dsimp only at hno8 ⊢
  refine ⟨fun hx => ?_, fun hx => ?_⟩
  · have hno : no < 8 := by have := of_decide_eq_true hx; omega
    have hsl := (hpg no hno).1
    refine ⟨(e.s.d, no), ⟨⟨(eqD _), rfl, trivial⟩, hD, by dsimp only; omega⟩, (e.s, (no : Int)), ⟨⟨(eqS _), rfl, trivial⟩, hfl⟩, fun hf => ?_, fun hf => ?_⟩
    · have hf : frAt e.s.fr (no : Int) ≥ 0 := of_decide_eq_true hf
      obtain ⟨i, hi, _, _, hfi⟩ := fstI_lt (show ¬ frAt e.s.fr (no : Int) < 0 by omega)
      have hfi : frAt e.s.fr (no : Int) = (i : Int) := hfi
      have ep : pgE e.s no = (e.s.fr.getD (frAt e.s.fr (no : Int)).toNat default).pg := by unfold pgE; rw [if_neg (by omega)]
      refine ⟨⟨hf, by rw [show frAt (e.s, (no : Int)).1.fr (e.s, (no : Int)).2 = (i : Int) from hfi]; omega⟩, ⟨⟨0, Nat.zero_le _⟩, ⟨rfl, ⟨rfl, rfl⟩, ⟨rfl, rfl⟩, rfl, ⟨rfl, rfl⟩, rfl, trivial⟩, ⟨rfl, rfl, eqG _⟩, ⟨rfl, rowsR _ _⟩, ⟨rfl, rfl, by rw [ep], ⟨by rw [ep], by rw [ep]; exact rowsR _ _⟩, trivial⟩, trivial⟩, fun y => ?_⟩
      obtain ⟨i, hi⟩ := y
      dsimp only at hi ⊢
      refine ⟨fun hy => ?_, fun hy => ?_⟩
      · have hi4 : i < 4 := by have := of_decide_eq_true hy; omega
        rw [Int.toNat_natCast]
        have hd := (hpg no hno).2 i hi4
        obtain ⟨q1, q2⟩ := rdS_eq ((pgE e.s no).sl.getD i [])
        have hlen := rowsIn_len (pgE e.s no).sl table (rowsTo e.s table no) i
        have hlen2 := rowsTo_len e.s table no
        refine ⟨inB_nat (by rw [hsl]; exact hi4), (pgE e.s no).sl.getD i [], ⟨⟨rfl, trivial⟩, by show _ ≤ 1000000000; omega⟩, fun hq => ?_, fun hq => ?_⟩
        · have e1 : rowsIn (pgE e.s no).sl table (rowsTo e.s table no) (i + 1) = rowsIn (pgE e.s no).sl table (rowsTo e.s table no) i := by
            show stepR table (rowsIn (pgE e.s no).sl table (rowsTo e.s table no) i) ((pgE e.s no).sl.getD i []) = _
            unfold stepR
            cases hr : rowAt ((pgE e.s no).sl.getD i []) with
            | none => rfl
            | some x =>
              have := q2 x hr
              rw [this] at hq
              simp only [Bool.not_true, Bool.false_or, bne_iff_ne, ne_eq] at hq
              show (if x.1 = table then _ else _) = _
              rw [if_neg hq]
          exact ⟨i64_rng (by omega), ⟨i + 1, by omega⟩, ⟨⟨rfl, ⟨rfl, rfl⟩, ⟨rfl, by rw [e1]⟩, rfl, ⟨rfl, rfl⟩, by dsimp only; omega, trivial⟩, ⟨rfl, rfl, eqG _⟩, ⟨by rw [e1], by rw [e1]; exact rowsR _ _⟩, ⟨rfl, rfl, rfl, ⟨rfl, rowsR _ _⟩, trivial⟩, trivial⟩, show 4 - (i + 1) < 4 - i by omega⟩
        · simp only [Bool.or_eq_false_iff, Bool.not_eq_false', bne_eq_false_iff_eq] at hq
          obtain ⟨g1, g2⟩ := hq
          rw [q1] at g1
          obtain ⟨x, hr⟩ := Option.isSome_iff_exists.1 g1
          have hx := q2 x hr
          have eI : rowI e.s no i = x.2 := by unfold rowI; rw [hr]; rfl
          have e1 : rowsIn (pgE e.s no).sl table (rowsTo e.s table no) (i + 1) = insR (rowsIn (pgE e.s no).sl table (rowsTo e.s table no) i) (rowI e.s no i) := by
            show stepR table (rowsIn (pgE e.s no).sl table (rowsTo e.s table no) i) ((pgE e.s no).sl.getD i []) = _
            unfold stepR
            rw [hr, eI]
            show (if x.1 = table then _ else _) = _
            rw [if_pos (by rw [← g2, hx])]
          rw [hx, ← eI]
          generalize hLL : rowsIn (pgE e.s no).sl table (rowsTo e.s table no) i = LL at *
          generalize rowI e.s no i = RI at *
          refine ⟨⟨⟨0, Nat.zero_le _, fun k hk => by omega⟩, ⟨rfl, ⟨rfl, rfl⟩, ⟨rfl, rfl⟩, rfl, ⟨rfl, rfl⟩, rfl, ⟨rfl, rfl⟩, rfl, trivial⟩, ⟨rfl, rfl, eqG _⟩, ⟨rfl, rowsR _ _⟩, ⟨rfl, rfl, rfl, ⟨rfl, rowsR _ _⟩, trivial⟩, ⟨rfl, rfl, rfl, rfl, rfl, rfl, rfl, rfl, rfl, trivial⟩, trivial⟩, fun z => ?_⟩
          obtain ⟨m, hm, hz⟩ := z
          dsimp only at hm hz ⊢
          rw [Int.toNat_natCast, Nat.zero_add]
          refine ⟨fun hc => inB_nat (lt_of_dec hc), fun hc => lt_of_dec hc, fun hc => ?_, fun hc => ?_⟩
          · simp only [Bool.and_eq_true, decide_eq_true_eq] at hc
            refine ⟨i64_rng (by omega), ⟨m + 1, by omega, fun k hk => ?_⟩, ⟨⟨rfl, ⟨rfl, rfl⟩, ⟨rfl, rfl⟩, rfl, ⟨rfl, rfl⟩, rfl, ⟨rfl, rfl⟩, by dsimp only; omega, trivial⟩, ⟨rfl, rfl, eqG _⟩, ⟨rfl, rowsR _ _⟩, ⟨rfl, rfl, rfl, ⟨rfl, rowsR _ _⟩, trivial⟩, ⟨rfl, rfl, rfl, rfl, rfl, rfl, rfl, rfl, rfl, trivial⟩, trivial⟩, show LL.length - (m + 1) < LL.length - m by omega⟩
            by_cases hkm : k = m
            · rw [hkm]
              unfold notLt
              rw [decide_eq_true hc.2]
              rfl
            · exact hz k (by omega)
          · have hpos : posR LL RI.id = m := by
              refine posR_is hm hz fun hlt => ?_
              unfold notLt
              have : (decide ((m : Int) < (LL.length : Int)) && decide ((LL.getD m default).id < RI.id)) = false := hc
              rw [decide_eq_true (by omega), Bool.true_and] at this
              rw [this]
              rfl
            have hins : insR LL RI = LL.take m ++ [RI] ++ LL.drop m := by unfold insR; rw [hpos]
            have hil : (insR LL RI).length = m + 1 + (LL.length - m) := by rw [hins]; simp; omega
            have rows := ins_rows LL RI hm
            rw [Nat.zero_add] at rows
            refine ⟨⟨by omega, by omega⟩, ⟨by unfold Le; omega, Nat.le_refl _, by unfold AppB; omega⟩, ⟨Nat.le_refl _, by unfold AppB; omega⟩, ⟨by omega, by omega⟩, ⟨by unfold Le; omega, Nat.le_refl _, by unfold AppB; omega⟩, i64_rng (by omega), ⟨i + 1, by omega⟩, ⟨⟨rfl, ⟨rfl, rfl⟩, ⟨rfl, by rw [e1, hil]⟩, rfl, ⟨rfl, rfl⟩, by dsimp only; omega, trivial⟩, ⟨rfl, rfl, eqG _⟩, ⟨by rw [e1, hil], by rw [e1, hins]; exact rows⟩, ⟨rfl, rfl, rfl, ⟨rfl, rowsR _ _⟩, trivial⟩, trivial⟩, show 4 - (i + 1) < 4 - i by omega⟩
      · have hi4 : i = 4 := by have := of_decide_eq_false hy; omega
        subst hi4
        exact ⟨i64_rng (by omega), ⟨no + 1, by omega⟩, ⟨⟨rfl, ⟨rfl, rfl⟩, ⟨rfl, rfl⟩, by dsimp only; omega, trivial⟩, ⟨rfl, rfl, eqG _⟩, ⟨rfl, rowsR _ _⟩, trivial⟩, show 8 - (no + 1) < 8 - no by omega⟩
    · have hf : ¬ frAt e.s.fr (no : Int) ≥ 0 := of_decide_eq_false hf
      have ep : pgE e.s no = (pgAt e.s.d no).1 := by unfold pgE; rw [if_pos (by omega)]
      refine ⟨⟨⟨0, Nat.zero_le _⟩, ⟨rfl, ⟨rfl, rfl⟩, ⟨rfl, rfl⟩, rfl, ⟨rfl, rfl⟩, rfl, trivial⟩, ⟨rfl, rfl, eqG _⟩, ⟨rfl, rowsR _ _⟩, ⟨rfl, rfl, by rw [ep], ⟨by rw [ep], by rw [ep]; exact rowsR _ _⟩, trivial⟩, trivial⟩, fun y => ?_⟩
      obtain ⟨i, hi⟩ := y
      dsimp only at hi ⊢
      refine ⟨fun hy => ?_, fun hy => ?_⟩
      · have hi4 : i < 4 := by have := of_decide_eq_true hy; omega
        rw [Int.toNat_natCast]
        have hd := (hpg no hno).2 i hi4
        obtain ⟨q1, q2⟩ := rdS_eq ((pgE e.s no).sl.getD i [])
        have hlen := rowsIn_len (pgE e.s no).sl table (rowsTo e.s table no) i
        have hlen2 := rowsTo_len e.s table no
        refine ⟨inB_nat (by rw [hsl]; exact hi4), (pgE e.s no).sl.getD i [], ⟨⟨rfl, trivial⟩, by show _ ≤ 1000000000; omega⟩, fun hq => ?_, fun hq => ?_⟩
        · have e1 : rowsIn (pgE e.s no).sl table (rowsTo e.s table no) (i + 1) = rowsIn (pgE e.s no).sl table (rowsTo e.s table no) i := by
            show stepR table (rowsIn (pgE e.s no).sl table (rowsTo e.s table no) i) ((pgE e.s no).sl.getD i []) = _
            unfold stepR
            cases hr : rowAt ((pgE e.s no).sl.getD i []) with
            | none => rfl
            | some x =>
              have := q2 x hr
              rw [this] at hq
              simp only [Bool.not_true, Bool.false_or, bne_iff_ne, ne_eq] at hq
              show (if x.1 = table then _ else _) = _
              rw [if_neg hq]
          exact ⟨i64_rng (by omega), ⟨i + 1, by omega⟩, ⟨⟨rfl, ⟨rfl, rfl⟩, ⟨rfl, by rw [e1]⟩, rfl, ⟨rfl, rfl⟩, by dsimp only; omega, trivial⟩, ⟨rfl, rfl, eqG _⟩, ⟨by rw [e1], by rw [e1]; exact rowsR _ _⟩, ⟨rfl, rfl, rfl, ⟨rfl, rowsR _ _⟩, trivial⟩, trivial⟩, show 4 - (i + 1) < 4 - i by omega⟩
        · simp only [Bool.or_eq_false_iff, Bool.not_eq_false', bne_eq_false_iff_eq] at hq
          obtain ⟨g1, g2⟩ := hq
          rw [q1] at g1
          obtain ⟨x, hr⟩ := Option.isSome_iff_exists.1 g1
          have hx := q2 x hr
          have eI : rowI e.s no i = x.2 := by unfold rowI; rw [hr]; rfl
          have e1 : rowsIn (pgE e.s no).sl table (rowsTo e.s table no) (i + 1) = insR (rowsIn (pgE e.s no).sl table (rowsTo e.s table no) i) (rowI e.s no i) := by
            show stepR table (rowsIn (pgE e.s no).sl table (rowsTo e.s table no) i) ((pgE e.s no).sl.getD i []) = _
            unfold stepR
            rw [hr, eI]
            show (if x.1 = table then _ else _) = _
            rw [if_pos (by rw [← g2, hx])]
          rw [hx, ← eI]
          generalize hLL : rowsIn (pgE e.s no).sl table (rowsTo e.s table no) i = LL at *
          generalize rowI e.s no i = RI at *
          refine ⟨⟨⟨0, Nat.zero_le _, fun k hk => by omega⟩, ⟨rfl, ⟨rfl, rfl⟩, ⟨rfl, rfl⟩, rfl, ⟨rfl, rfl⟩, rfl, ⟨rfl, rfl⟩, rfl, trivial⟩, ⟨rfl, rfl, eqG _⟩, ⟨rfl, rowsR _ _⟩, ⟨rfl, rfl, rfl, ⟨rfl, rowsR _ _⟩, trivial⟩, ⟨rfl, rfl, rfl, rfl, rfl, rfl, rfl, rfl, rfl, trivial⟩, trivial⟩, fun z => ?_⟩
          obtain ⟨m, hm, hz⟩ := z
          dsimp only at hm hz ⊢
          rw [Int.toNat_natCast, Nat.zero_add]
          refine ⟨fun hc => inB_nat (lt_of_dec hc), fun hc => lt_of_dec hc, fun hc => ?_, fun hc => ?_⟩
          · simp only [Bool.and_eq_true, decide_eq_true_eq] at hc
            refine ⟨i64_rng (by omega), ⟨m + 1, by omega, fun k hk => ?_⟩, ⟨⟨rfl, ⟨rfl, rfl⟩, ⟨rfl, rfl⟩, rfl, ⟨rfl, rfl⟩, rfl, ⟨rfl, rfl⟩, by dsimp only; omega, trivial⟩, ⟨rfl, rfl, eqG _⟩, ⟨rfl, rowsR _ _⟩, ⟨rfl, rfl, rfl, ⟨rfl, rowsR _ _⟩, trivial⟩, ⟨rfl, rfl, rfl, rfl, rfl, rfl, rfl, rfl, rfl, trivial⟩, trivial⟩, show LL.length - (m + 1) < LL.length - m by omega⟩
            by_cases hkm : k = m
            · rw [hkm]
              unfold notLt
              rw [decide_eq_true hc.2]
              rfl
            · exact hz k (by omega)
          · have hpos : posR LL RI.id = m := by
              refine posR_is hm hz fun hlt => ?_
              unfold notLt
              have : (decide ((m : Int) < (LL.length : Int)) && decide ((LL.getD m default).id < RI.id)) = false := hc
              rw [decide_eq_true (by omega), Bool.true_and] at this
              rw [this]
              rfl
            have hins : insR LL RI = LL.take m ++ [RI] ++ LL.drop m := by unfold insR; rw [hpos]
            have hil : (insR LL RI).length = m + 1 + (LL.length - m) := by rw [hins]; simp; omega
            have rows := ins_rows LL RI hm
            rw [Nat.zero_add] at rows
            refine ⟨⟨by omega, by omega⟩, ⟨by unfold Le; omega, Nat.le_refl _, by unfold AppB; omega⟩, ⟨Nat.le_refl _, by unfold AppB; omega⟩, ⟨by omega, by omega⟩, ⟨by unfold Le; omega, Nat.le_refl _, by unfold AppB; omega⟩, i64_rng (by omega), ⟨i + 1, by omega⟩, ⟨⟨rfl, ⟨rfl, rfl⟩, ⟨rfl, by rw [e1, hil]⟩, rfl, ⟨rfl, rfl⟩, by dsimp only; omega, trivial⟩, ⟨rfl, rfl, eqG _⟩, ⟨by rw [e1, hil], by rw [e1, hins]; exact rows⟩, ⟨rfl, rfl, rfl, ⟨rfl, rowsR _ _⟩, trivial⟩, trivial⟩, show 4 - (i + 1) < 4 - i by omega⟩
      · have hi4 : i = 4 := by have := of_decide_eq_false hy; omega
        subst hi4
        exact ⟨i64_rng (by omega), ⟨no + 1, by omega⟩, ⟨⟨rfl, ⟨rfl, rfl⟩, ⟨rfl, rfl⟩, by dsimp only; omega, trivial⟩, ⟨rfl, rfl, eqG _⟩, ⟨rfl, rowsR _ _⟩, trivial⟩, show 8 - (no + 1) < 8 - no by omega⟩
  · have h8 : no = 8 := by have := of_decide_eq_false hx; omega
    subst h8
    exact ⟨by unfold Le; omega, rfl, rowsR _ _⟩
end Go.Proofs.YtjbomnjmcbhadaaGreat

