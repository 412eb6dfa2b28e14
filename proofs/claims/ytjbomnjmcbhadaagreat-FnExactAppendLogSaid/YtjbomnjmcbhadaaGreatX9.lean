/- A part of the proof. -/
import Derived.Test.YtjbomnjmcbhadaaGreatX2
import Derived.Test.YtjbomnjmcbhadaaGreatX3
import Derived.Test.YtjbomnjmcbhadaaGreatX4
import Derived.Test.YtjbomnjmcbhadaaGreatX8
namespace Go.Proofs.YtjbomnjmcbhadaaGreat
set_option maxRecDepth 100000
open Go.SS

noncomputable def b_LawA : Code := Tryz.f4.body.getD .skip
theorem call_LawA : Callable Tryz.prog 4 := ⟨_, Tryz.func4, by kernel_rfl, by kernel_rfl⟩
theorem v_LawA (s : Sto) (r : Rec) (h :
    ∃ (x : r_szSto.ι), (((EqS s x.fst) ∧ (1048576 : Int) = x.snd ∧ True) ∧ Left x.snd ∧ LmS x.fst) ∧ (decide (rem x.snd (bulkS x.fst) < (0 : Int)) = true → true = true) ∧ (decide (rem x.snd (bulkS x.fst) < (0 : Int)) = false → ∃ (x_1
    : r_szRec.ι), (((r.e = x_1.fst.e ∧ r.l = x_1.fst.l ∧ r.t = x_1.fst.t ∧ r.k = x_1.fst.k ∧ r.p = x_1.fst.p ∧ r.n = x_1.fst.n ∧ r.g = x_1.fst.g ∧ r.s = x_1.fst.s ∧ r.b = x_1.fst.b ∧ r.a = x_1.fst.a ∧ True) ∧ rem x.snd (bulkS x.fst) =
    x_1.snd ∧ True) ∧ Left x_1.snd ∧ RecB x_1.fst) ∧ (decide (rem x_1.snd (bulkR x_1.fst) < (0 : Int)) = true → true = true) ∧ (decide (rem x_1.snd (bulkR x_1.fst) < (0 : Int)) = false → ∃ (x : Sto), (((EqS s x) ∧ True) ∧ SmS x) ∧ ∃
    (x_2 : r_toRec.ι), (((r.e = x_2.e ∧ r.l = x_2.l ∧ r.t = x_2.t ∧ r.k = x_2.k ∧ r.p = x_2.p ∧ r.n = x_2.n ∧ r.g = x_2.g ∧ r.s = x_2.s ∧ r.b = x_2.b ∧ r.a = x_2.a ∧ True) ∧ True) ∧ True) ∧ ∃ (x_3 : r_AppendLog.ι), ((Le (0 +
    x.d.sec.length) x.d.sec.length ∧ Le (0 + x.d.cache.length) x.d.cache.length ∧ Le (0 + x.d.keep.length) x.d.keep.length ∧ Le (0 + x.log.length) x.log.length ∧ Le (0 + x.fr.length) x.fr.length) ∧ (((EqL strRow x.d.sec x_3.fst.d.sec)
    ∧ (EqL pendRow x.d.cache x_3.fst.d.cache) ∧ x.d.armed = x_3.fst.d.armed ∧ (EqL intRow x.d.keep x_3.fst.d.keep) ∧ x.ep = x_3.fst.ep ∧ (EqL recRow x.log x_3.fst.log) ∧ x.sure = x_3.fst.sure ∧ (x.fr.length = x_3.fst.fr.length ∧
    RowsEq x.fr.length (frzR (famRow x.fr)) (frmRow x_3.fst.fr)) ∧ x.hand = x_3.fst.hand ∧ True) ∧ (x_2.e = x_3.snd.e ∧ x_2.l = x_3.snd.l ∧ x_2.t = x_3.snd.t ∧ x_2.k = x_3.snd.k ∧ x_2.p = x_3.snd.p ∧ x_2.n = x_3.snd.n ∧ x_2.g =
    x_3.snd.g ∧ x_2.s = x_3.snd.s ∧ x_2.b = x_3.snd.b ∧ x_2.a = x_3.snd.a ∧ True) ∧ True) ∧ StoB x_3.fst ∧ SmS x_3.fst ∧ SmR x_3.snd) ∧ ∃ (x : Sto), (((EqS s x) ∧ True) ∧ SmS x) ∧ ∃ (x_4 : r_toRec.ι), (((r.e = x_4.e ∧ r.l = x_4.l ∧
    r.t = x_4.t ∧ r.k = x_4.k ∧ r.p = x_4.p ∧ r.n = x_4.n ∧ r.g = x_4.g ∧ r.s = x_4.s ∧ r.b = x_4.b ∧ r.a = x_4.a ∧ True) ∧ True) ∧ True) ∧ ∃ (x_5 : r_AppendLog.ι), ((Le (0 + x.d.sec.length) x.d.sec.length ∧ Le (0 + x.d.cache.length)
    x.d.cache.length ∧ Le (0 + x.d.keep.length) x.d.keep.length ∧ Le (0 + x.log.length) x.log.length ∧ Le (0 + x.fr.length) x.fr.length) ∧ (((EqL strRow x.d.sec x_5.fst.d.sec) ∧ (EqL pendRow x.d.cache x_5.fst.d.cache) ∧ x.d.armed =
    x_5.fst.d.armed ∧ (EqL intRow x.d.keep x_5.fst.d.keep) ∧ x.ep = x_5.fst.ep ∧ (EqL recRow x.log x_5.fst.log) ∧ x.sure = x_5.fst.sure ∧ (x.fr.length = x_5.fst.fr.length ∧ RowsEq x.fr.length (frzR (famRow x.fr)) (frmRow x_5.fst.fr))
    ∧ x.hand = x_5.fst.hand ∧ True) ∧ (x_4.e = x_5.snd.e ∧ x_4.l = x_5.snd.l ∧ x_4.t = x_5.snd.t ∧ x_4.k = x_5.snd.k ∧ x_4.p = x_5.snd.p ∧ x_4.n = x_5.snd.n ∧ x_4.g = x_5.snd.g ∧ x_4.s = x_5.snd.s ∧ x_4.b = x_5.snd.b ∧ x_4.a =
    x_5.snd.a ∧ True) ∧ True) ∧ StoB x_5.fst ∧ SmS x_5.fst ∧ SmR x_5.snd) ∧ ∃ (x_6 : r_eqSto.ι), (((Le (0 + (appLog x_5.fst x_5.snd).fst.d.sec.length) (appLog x_5.fst x_5.snd).fst.d.sec.length ∧ Le (0 + (appLog x_5.fst
    x_5.snd).fst.d.cache.length) (appLog x_5.fst x_5.snd).fst.d.cache.length ∧ Le (0 + (appLog x_5.fst x_5.snd).fst.d.keep.length) (appLog x_5.fst x_5.snd).fst.d.keep.length ∧ Le (0 + (appLog x_5.fst x_5.snd).fst.log.length) (appLog
    x_5.fst x_5.snd).fst.log.length ∧ Le (0 + (appLog x_5.fst x_5.snd).fst.fr.length) (appLog x_5.fst x_5.snd).fst.fr.length) ∧ Le (0 + (appLog x_3.fst x_3.snd).fst.d.sec.length) (appLog x_3.fst x_3.snd).fst.d.sec.length ∧ Le (0 +
    (appLog x_3.fst x_3.snd).fst.d.cache.length) (appLog x_3.fst x_3.snd).fst.d.cache.length ∧ Le (0 + (appLog x_3.fst x_3.snd).fst.d.keep.length) (appLog x_3.fst x_3.snd).fst.d.keep.length ∧ Le (0 + (appLog x_3.fst
    x_3.snd).fst.log.length) (appLog x_3.fst x_3.snd).fst.log.length ∧ Le (0 + (appLog x_3.fst x_3.snd).fst.fr.length) (appLog x_3.fst x_3.snd).fst.fr.length) ∧ ((((appLog x_5.fst x_5.snd).fst.d.sec.length = x_6.d.sec.length ∧ RowsEq
    (appLog x_5.fst x_5.snd).fst.d.sec.length (strRow (appLog x_5.fst x_5.snd).fst.d.sec) (strRow x_6.d.sec)) ∧ ((appLog x_5.fst x_5.snd).fst.d.cache.length = x_6.d.cache.length ∧ RowsEq (appLog x_5.fst x_5.snd).fst.d.cache.length
    (pendRow (appLog x_5.fst x_5.snd).fst.d.cache) (pendRow x_6.d.cache)) ∧ (appLog x_5.fst x_5.snd).fst.d.armed = x_6.d.armed ∧ ((appLog x_5.fst x_5.snd).fst.d.keep.length = x_6.d.keep.length ∧ RowsEq (appLog x_5.fst
    x_5.snd).fst.d.keep.length (intRow (appLog x_5.fst x_5.snd).fst.d.keep) (intRow x_6.d.keep)) ∧ (appLog x_5.fst x_5.snd).fst.ep = x_6.ep ∧ ((appLog x_5.fst x_5.snd).fst.log.length = x_6.log.length ∧ RowsEq (appLog x_5.fst
    x_5.snd).fst.log.length (recRow (appLog x_5.fst x_5.snd).fst.log) (recRow x_6.log)) ∧ (appLog x_5.fst x_5.snd).fst.sure = x_6.sure ∧ ((appLog x_5.fst x_5.snd).fst.fr.length = x_6.fr.length ∧ RowsEq (appLog x_5.fst
    x_5.snd).fst.fr.length (frzR (famRow (appLog x_5.fst x_5.snd).fst.fr)) (frmRow x_6.fr)) ∧ (appLog x_5.fst x_5.snd).fst.hand = x_6.hand ∧ True) ∧ (((appLog x_3.fst x_3.snd).fst.d.sec.length = x_6.d.sec.length ∧ RowsEq (appLog
    x_3.fst x_3.snd).fst.d.sec.length (strRow (appLog x_3.fst x_3.snd).fst.d.sec) (strRow x_6.d.sec)) ∧ ((appLog x_3.fst x_3.snd).fst.d.cache.length = x_6.d.cache.length ∧ RowsEq (appLog x_3.fst x_3.snd).fst.d.cache.length (pendRow
    (appLog x_3.fst x_3.snd).fst.d.cache) (pendRow x_6.d.cache)) ∧ (appLog x_3.fst x_3.snd).fst.d.armed = x_6.d.armed ∧ ((appLog x_3.fst x_3.snd).fst.d.keep.length = x_6.d.keep.length ∧ RowsEq (appLog x_3.fst
    x_3.snd).fst.d.keep.length (intRow (appLog x_3.fst x_3.snd).fst.d.keep) (intRow x_6.d.keep)) ∧ (appLog x_3.fst x_3.snd).fst.ep = x_6.ep ∧ ((appLog x_3.fst x_3.snd).fst.log.length = x_6.log.length ∧ RowsEq (appLog x_3.fst
    x_3.snd).fst.log.length (recRow (appLog x_3.fst x_3.snd).fst.log) (recRow x_6.log)) ∧ (appLog x_3.fst x_3.snd).fst.sure = x_6.sure ∧ ((appLog x_3.fst x_3.snd).fst.fr.length = x_6.fr.length ∧ RowsEq (appLog x_3.fst
    x_3.snd).fst.fr.length (frzR (famRow (appLog x_3.fst x_3.snd).fst.fr)) (frmRow x_6.fr)) ∧ (appLog x_3.fst x_3.snd).fst.hand = x_6.hand ∧ True) ∧ True) ∧ SmS x_6) ∧ ((false || (appLog x_5.fst x_5.snd).snd != (appLog x_3.fst
    x_3.snd).snd) = true → false = true) ∧ ((false || (appLog x_5.fst x_5.snd).snd != (appLog x_3.fst x_3.snd).snd) = false → ∃ (x_7 : Sto), (((EqS s x_7) ∧ True) ∧ SmS x_7) ∧ ∃ (x_8 : r_eqSto.ι), (((Le (0 + x.d.sec.length)
    x.d.sec.length ∧ Le (0 + x.d.cache.length) x.d.cache.length ∧ Le (0 + x.d.keep.length) x.d.keep.length ∧ Le (0 + x.log.length) x.log.length ∧ Le (0 + x.fr.length) x.fr.length) ∧ Le (0 + x_7.d.sec.length) x_7.d.sec.length ∧ Le (0 +
    x_7.d.cache.length) x_7.d.cache.length ∧ Le (0 + x_7.d.keep.length) x_7.d.keep.length ∧ Le (0 + x_7.log.length) x_7.log.length ∧ Le (0 + x_7.fr.length) x_7.fr.length) ∧ (((EqL strRow x.d.sec x_8.d.sec) ∧ (EqL pendRow x.d.cache
    x_8.d.cache) ∧ x.d.armed = x_8.d.armed ∧ (EqL intRow x.d.keep x_8.d.keep) ∧ x.ep = x_8.ep ∧ (EqL recRow x.log x_8.log) ∧ x.sure = x_8.sure ∧ (x.fr.length = x_8.fr.length ∧ RowsEq x.fr.length (frzR (famRow x.fr)) (frmRow x_8.fr)) ∧
    x.hand = x_8.hand ∧ True) ∧ ((EqL strRow x_7.d.sec x_8.d.sec) ∧ (EqL pendRow x_7.d.cache x_8.d.cache) ∧ x_7.d.armed = x_8.d.armed ∧ (EqL intRow x_7.d.keep x_8.d.keep) ∧ x_7.ep = x_8.ep ∧ (EqL recRow x_7.log x_8.log) ∧ x_7.sure =
    x_8.sure ∧ (x_7.fr.length = x_8.fr.length ∧ RowsEq x_7.fr.length (frzR (famRow x_7.fr)) (frmRow x_8.fr)) ∧ x_7.hand = x_8.hand ∧ True) ∧ True) ∧ SmS x_8) ∧ (false = true → false = true) ∧ (false = false → ∃ (x_9 : (Sto × Nat ×
    Nat)), ((((0 = 0 ∧ x.d.sec.length = x_9.fst.d.sec.length) ∧ (0 = 0 ∧ x.d.cache.length = x_9.fst.d.cache.length) ∧ x.d.armed = x_9.fst.d.armed ∧ (0 = 0 ∧ x.d.keep.length = x_9.fst.d.keep.length) ∧ x.ep = x_9.fst.ep ∧ (0 = 0 ∧
    x.log.length = x_9.fst.log.length) ∧ x.sure = x_9.fst.sure ∧ (0 = 0 ∧ x.fr.length = x_9.fst.fr.length) ∧ x.hand = x_9.fst.hand ∧ True) ∧ (1 : Int) = (x_9.snd.fst:Int) ∧ True) ∧ ((EqL strRow x.d.sec x_9.fst.d.sec) ∧ (EqL pendRow
    x.d.cache x_9.fst.d.cache) ∧ (EqL intRow x.d.keep x_9.fst.d.keep) ∧ (EqL recRow x.log x_9.fst.log) ∧ (x.fr.length = x_9.snd.snd ∧ x.fr.length = x_9.fst.fr.length ∧ FamEq x.fr.length (famRow x.fr) (famRow x_9.fst.fr)) ∧ True) ∧ KBs
    x_9.fst x_9.snd.fst) ∧ ∃ (x : r_eqSto.ι), (decide ((↑(endS x_9.fst x_9.snd.fst) : Int) < (0 : Int)) = false → ((Le (0 + (appLog x_5.fst x_5.snd).fst.d.sec.length) (appLog x_5.fst x_5.snd).fst.d.sec.length ∧ Le (0 + (appLog x_5.fst
    x_5.snd).fst.d.cache.length) (appLog x_5.fst x_5.snd).fst.d.cache.length ∧ Le (0 + (appLog x_5.fst x_5.snd).fst.d.keep.length) (appLog x_5.fst x_5.snd).fst.d.keep.length ∧ Le (0 + (appLog x_5.fst x_5.snd).fst.log.length) (appLog
    x_5.fst x_5.snd).fst.log.length ∧ Le (0 + (appLog x_5.fst x_5.snd).fst.fr.length) (appLog x_5.fst x_5.snd).fst.fr.length) ∧ Le (0 + (appLog x_3.fst x_3.snd).fst.d.sec.length) (appLog x_3.fst x_3.snd).fst.d.sec.length ∧ Le (0 +
    (appLog x_3.fst x_3.snd).fst.d.cache.length) (appLog x_3.fst x_3.snd).fst.d.cache.length ∧ Le (0 + (appLog x_3.fst x_3.snd).fst.d.keep.length) (appLog x_3.fst x_3.snd).fst.d.keep.length ∧ Le (0 + (appLog x_3.fst
    x_3.snd).fst.log.length) (appLog x_3.fst x_3.snd).fst.log.length ∧ Le (0 + (appLog x_3.fst x_3.snd).fst.fr.length) (appLog x_3.fst x_3.snd).fst.fr.length) ∧ ((((appLog x_5.fst x_5.snd).fst.d.sec.length = x.d.sec.length ∧ RowsEq
    (appLog x_5.fst x_5.snd).fst.d.sec.length (strRow (appLog x_5.fst x_5.snd).fst.d.sec) (strRow x.d.sec)) ∧ ((appLog x_5.fst x_5.snd).fst.d.cache.length = x.d.cache.length ∧ RowsEq (appLog x_5.fst x_5.snd).fst.d.cache.length
    (pendRow (appLog x_5.fst x_5.snd).fst.d.cache) (pendRow x.d.cache)) ∧ (appLog x_5.fst x_5.snd).fst.d.armed = x.d.armed ∧ ((appLog x_5.fst x_5.snd).fst.d.keep.length = x.d.keep.length ∧ RowsEq (appLog x_5.fst
    x_5.snd).fst.d.keep.length (intRow (appLog x_5.fst x_5.snd).fst.d.keep) (intRow x.d.keep)) ∧ (appLog x_5.fst x_5.snd).fst.ep = x.ep ∧ ((appLog x_5.fst x_5.snd).fst.log.length = x.log.length ∧ RowsEq (appLog x_5.fst
    x_5.snd).fst.log.length (recRow (appLog x_5.fst x_5.snd).fst.log) (recRow x.log)) ∧ (appLog x_5.fst x_5.snd).fst.sure = x.sure ∧ ((appLog x_5.fst x_5.snd).fst.fr.length = x.fr.length ∧ RowsEq (appLog x_5.fst x_5.snd).fst.fr.length
    (frzR (famRow (appLog x_5.fst x_5.snd).fst.fr)) (frmRow x.fr)) ∧ (appLog x_5.fst x_5.snd).fst.hand = x.hand ∧ True) ∧ (((appLog x_3.fst x_3.snd).fst.d.sec.length = x.d.sec.length ∧ RowsEq (appLog x_3.fst x_3.snd).fst.d.sec.length
    (strRow (appLog x_3.fst x_3.snd).fst.d.sec) (strRow x.d.sec)) ∧ ((appLog x_3.fst x_3.snd).fst.d.cache.length = x.d.cache.length ∧ RowsEq (appLog x_3.fst x_3.snd).fst.d.cache.length (pendRow (appLog x_3.fst x_3.snd).fst.d.cache)
    (pendRow x.d.cache)) ∧ (appLog x_3.fst x_3.snd).fst.d.armed = x.d.armed ∧ ((appLog x_3.fst x_3.snd).fst.d.keep.length = x.d.keep.length ∧ RowsEq (appLog x_3.fst x_3.snd).fst.d.keep.length (intRow (appLog x_3.fst
    x_3.snd).fst.d.keep) (intRow x.d.keep)) ∧ (appLog x_3.fst x_3.snd).fst.ep = x.ep ∧ ((appLog x_3.fst x_3.snd).fst.log.length = x.log.length ∧ RowsEq (appLog x_3.fst x_3.snd).fst.log.length (recRow (appLog x_3.fst x_3.snd).fst.log)
    (recRow x.log)) ∧ (appLog x_3.fst x_3.snd).fst.sure = x.sure ∧ ((appLog x_3.fst x_3.snd).fst.fr.length = x.fr.length ∧ RowsEq (appLog x_3.fst x_3.snd).fst.fr.length (frzR (famRow (appLog x_3.fst x_3.snd).fst.fr)) (frmRow x.fr)) ∧
    (appLog x_3.fst x_3.snd).fst.hand = x.hand ∧ True) ∧ True) ∧ SmS x) ∧ ((decide ((↑(endS x_9.fst x_9.snd.fst) : Int) < (0 : Int)) || false || (appLog x_5.fst x_5.snd).snd != (appLog x_3.fst x_3.snd).snd) = true → false = true) ∧
    ((decide ((↑(endS x_9.fst x_9.snd.fst) : Int) < (0 : Int)) || false || (appLog x_5.fst x_5.snd).snd != (appLog x_3.fst x_3.snd).snd) = false → ∃ (x : (Sto × Nat × Nat)), ((((0 = 0 ∧ (appLog x_5.fst x_5.snd).fst.d.sec.length =
    x.fst.d.sec.length) ∧ (0 = 0 ∧ (appLog x_5.fst x_5.snd).fst.d.cache.length = x.fst.d.cache.length) ∧ (appLog x_5.fst x_5.snd).fst.d.armed = x.fst.d.armed ∧ (0 = 0 ∧ (appLog x_5.fst x_5.snd).fst.d.keep.length = x.fst.d.keep.length)
    ∧ (appLog x_5.fst x_5.snd).fst.ep = x.fst.ep ∧ (0 = 0 ∧ (appLog x_5.fst x_5.snd).fst.log.length = x.fst.log.length) ∧ (appLog x_5.fst x_5.snd).fst.sure = x.fst.sure ∧ (0 = 0 ∧ (appLog x_5.fst x_5.snd).fst.fr.length =
    x.fst.fr.length) ∧ (appLog x_5.fst x_5.snd).fst.hand = x.fst.hand ∧ True) ∧ (1 : Int) = (x.snd.fst:Int) ∧ True) ∧ (((appLog x_5.fst x_5.snd).fst.d.sec.length = x.fst.d.sec.length ∧ RowsEq (appLog x_5.fst x_5.snd).fst.d.sec.length
    (strRow (appLog x_5.fst x_5.snd).fst.d.sec) (strRow x.fst.d.sec)) ∧ ((appLog x_5.fst x_5.snd).fst.d.cache.length = x.fst.d.cache.length ∧ RowsEq (appLog x_5.fst x_5.snd).fst.d.cache.length (pendRow (appLog x_5.fst
    x_5.snd).fst.d.cache) (pendRow x.fst.d.cache)) ∧ ((appLog x_5.fst x_5.snd).fst.d.keep.length = x.fst.d.keep.length ∧ RowsEq (appLog x_5.fst x_5.snd).fst.d.keep.length (intRow (appLog x_5.fst x_5.snd).fst.d.keep) (intRow
    x.fst.d.keep)) ∧ ((appLog x_5.fst x_5.snd).fst.log.length = x.fst.log.length ∧ RowsEq (appLog x_5.fst x_5.snd).fst.log.length (recRow (appLog x_5.fst x_5.snd).fst.log) (recRow x.fst.log)) ∧ (0 = x.snd.snd ∧ (appLog x_5.fst
    x_5.snd).fst.fr.length = x.fst.fr.length ∧ FamEq (appLog x_5.fst x_5.snd).fst.fr.length (famRow (appLog x_5.fst x_5.snd).fst.fr) (famRow x.fst.fr)) ∧ True) ∧ KBs x.fst x.snd.fst) ∧ ∃ (x_10 : (Sto × Nat)), ((Le (0 + (appLog x_5.fst
    x_5.snd).fst.d.sec.length) (mkS x.fst.d.sec.length x.snd.fst).length ∧ Le (0 + (appLog x_5.fst x_5.snd).fst.d.cache.length) (mkP x.fst.d.cache.length (x.snd.fst + x.fst.d.sec.length)).length ∧ Le (0 + (appLog x_5.fst
    x_5.snd).fst.d.keep.length) (mkI x.fst.d.keep.length (x.snd.fst + x.fst.d.sec.length + 2 * x.fst.d.cache.length)).length ∧ Le (0 + (appLog x_5.fst x_5.snd).fst.log.length) (mkR x.fst.log.length (endD x.fst.d x.snd.fst)).length ∧
    Le (0 + (appLog x_5.fst x_5.snd).fst.fr.length) (mkF x.fst.fr.length (lnOf x.fst.fr) (endD x.fst.d x.snd.fst + 10 * x.fst.log.length)).length) ∧ ((((appLog x_5.fst x_5.snd).fst.d.sec.length = (mkS x_10.fst.d.sec.length
    x_10.snd).length ∧ RowsEq (appLog x_5.fst x_5.snd).fst.d.sec.length (strRow (mkS x.fst.d.sec.length x.snd.fst)) (strRow (mkS x_10.fst.d.sec.length x_10.snd))) ∧ ((appLog x_5.fst x_5.snd).fst.d.cache.length = (mkP
    x_10.fst.d.cache.length (x_10.snd + x_10.fst.d.sec.length)).length ∧ RowsEq (appLog x_5.fst x_5.snd).fst.d.cache.length (pendRow (mkP x.fst.d.cache.length (x.snd.fst + x.fst.d.sec.length))) (pendRow (mkP x_10.fst.d.cache.length
    (x_10.snd + x_10.fst.d.sec.length)))) ∧ (appLog x_5.fst x_5.snd).fst.d.armed = x_10.fst.d.armed ∧ ((appLog x_5.fst x_5.snd).fst.d.keep.length = (mkI x_10.fst.d.keep.length (x_10.snd + x_10.fst.d.sec.length + 2 *
    x_10.fst.d.cache.length)).length ∧ RowsEq (appLog x_5.fst x_5.snd).fst.d.keep.length (intRow (mkI x.fst.d.keep.length (x.snd.fst + x.fst.d.sec.length + 2 * x.fst.d.cache.length))) (intRow (mkI x_10.fst.d.keep.length (x_10.snd +
    x_10.fst.d.sec.length + 2 * x_10.fst.d.cache.length)))) ∧ (appLog x_5.fst x_5.snd).fst.ep = x_10.fst.ep ∧ ((appLog x_5.fst x_5.snd).fst.log.length = (mkR x_10.fst.log.length (endD x_10.fst.d x_10.snd)).length ∧ RowsEq (appLog
    x_5.fst x_5.snd).fst.log.length (recRow (mkR x.fst.log.length (endD x.fst.d x.snd.fst))) (recRow (mkR x_10.fst.log.length (endD x_10.fst.d x_10.snd)))) ∧ (appLog x_5.fst x_5.snd).fst.sure = x_10.fst.sure ∧ ((appLog x_5.fst
    x_5.snd).fst.fr.length = (mkF x_10.fst.fr.length (lnOf x_10.fst.fr) (endD x_10.fst.d x_10.snd + 10 * x_10.fst.log.length)).length ∧ RowsEq (appLog x_5.fst x_5.snd).fst.fr.length (frzR (famRow (mkF x.fst.fr.length (lnOf x.fst.fr)
    (endD x.fst.d x.snd.fst + 10 * x.fst.log.length)))) (frmRow (mkF x_10.fst.fr.length (lnOf x_10.fst.fr) (endD x_10.fst.d x_10.snd + 10 * x_10.fst.log.length)))) ∧ (appLog x_5.fst x_5.snd).fst.hand = x_10.fst.hand ∧ True) ∧ (1 :
    Int) = (x_10.snd:Int) ∧ True) ∧ KBs x_10.fst x_10.snd) ∧ (decide ((↑(endS x_10.fst x_10.snd) : Int) < (0 : Int)) = true → false = true) ∧ (decide ((↑(endS x_10.fst x_10.snd) : Int) < (0 : Int)) = false → (((↑(endS x_10.fst
    x_10.snd) : Int) != (↑(endS x.fst x.snd.fst) : Int)) = true → false = true) ∧ (((↑(endS x_10.fst x_10.snd) : Int) != (↑(endS x.fst x.snd.fst) : Int)) = false → ∃ (x_11 : Sto), (((EqS s x_11) ∧ True) ∧ SmS x_11) ∧ ∃ (x_12 :
    r_toRec.ι), (((r.e = x_12.e ∧ r.l = x_12.l ∧ r.t = x_12.t ∧ r.k = x_12.k ∧ r.p = x_12.p ∧ r.n = x_12.n ∧ r.g = x_12.g ∧ r.s = x_12.s ∧ r.b = x_12.b ∧ r.a = x_12.a ∧ True) ∧ True) ∧ True) ∧ ∃ (x_13 : r_AppendLog.ι), ((Le (0 +
    x_11.d.sec.length) x_11.d.sec.length ∧ Le (0 + x_11.d.cache.length) x_11.d.cache.length ∧ Le (0 + x_11.d.keep.length) x_11.d.keep.length ∧ Le (0 + x_11.log.length) x_11.log.length ∧ Le (0 + x_11.fr.length) x_11.fr.length) ∧ (((EqL
    strRow x_11.d.sec x_13.fst.d.sec) ∧ (EqL pendRow x_11.d.cache x_13.fst.d.cache) ∧ x_11.d.armed = x_13.fst.d.armed ∧ (EqL intRow x_11.d.keep x_13.fst.d.keep) ∧ x_11.ep = x_13.fst.ep ∧ (EqL recRow x_11.log x_13.fst.log) ∧ x_11.sure
    = x_13.fst.sure ∧ (x_11.fr.length = x_13.fst.fr.length ∧ RowsEq x_11.fr.length (frzR (famRow x_11.fr)) (frmRow x_13.fst.fr)) ∧ x_11.hand = x_13.fst.hand ∧ True) ∧ (x_12.e = x_13.snd.e ∧ x_12.l = x_13.snd.l ∧ x_12.t = x_13.snd.t ∧
    x_12.k = x_13.snd.k ∧ x_12.p = x_13.snd.p ∧ x_12.n = x_13.snd.n ∧ x_12.g = x_13.snd.g ∧ x_12.s = x_13.snd.s ∧ x_12.b = x_13.snd.b ∧ x_12.a = x_13.snd.a ∧ True) ∧ True) ∧ StoB x_13.fst ∧ SmS x_13.fst ∧ SmR x_13.snd) ∧ ∃ (x_14 :
    r_eqSto.ι), (((Le (0 + (appLog x_13.fst x_13.snd).fst.d.sec.length) (appLog x_13.fst x_13.snd).fst.d.sec.length ∧ Le (0 + (appLog x_13.fst x_13.snd).fst.d.cache.length) (appLog x_13.fst x_13.snd).fst.d.cache.length ∧ Le (0 +
    (appLog x_13.fst x_13.snd).fst.d.keep.length) (appLog x_13.fst x_13.snd).fst.d.keep.length ∧ Le (0 + (appLog x_13.fst x_13.snd).fst.log.length) (appLog x_13.fst x_13.snd).fst.log.length ∧ Le (0 + (appLog x_13.fst
    x_13.snd).fst.fr.length) (appLog x_13.fst x_13.snd).fst.fr.length) ∧ Le (0 + (appLog x_3.fst x_3.snd).fst.d.sec.length) (appLog x_3.fst x_3.snd).fst.d.sec.length ∧ Le (0 + (appLog x_3.fst x_3.snd).fst.d.cache.length) (appLog
    x_3.fst x_3.snd).fst.d.cache.length ∧ Le (0 + (appLog x_3.fst x_3.snd).fst.d.keep.length) (appLog x_3.fst x_3.snd).fst.d.keep.length ∧ Le (0 + (appLog x_3.fst x_3.snd).fst.log.length) (appLog x_3.fst x_3.snd).fst.log.length ∧ Le
    (0 + (appLog x_3.fst x_3.snd).fst.fr.length) (appLog x_3.fst x_3.snd).fst.fr.length) ∧ ((((appLog x_13.fst x_13.snd).fst.d.sec.length = x_14.d.sec.length ∧ RowsEq (appLog x_13.fst x_13.snd).fst.d.sec.length (strRow (appLog
    x_13.fst x_13.snd).fst.d.sec) (strRow x_14.d.sec)) ∧ ((appLog x_13.fst x_13.snd).fst.d.cache.length = x_14.d.cache.length ∧ RowsEq (appLog x_13.fst x_13.snd).fst.d.cache.length (pendRow (appLog x_13.fst x_13.snd).fst.d.cache)
    (pendRow x_14.d.cache)) ∧ (appLog x_13.fst x_13.snd).fst.d.armed = x_14.d.armed ∧ ((appLog x_13.fst x_13.snd).fst.d.keep.length = x_14.d.keep.length ∧ RowsEq (appLog x_13.fst x_13.snd).fst.d.keep.length (intRow (appLog x_13.fst
    x_13.snd).fst.d.keep) (intRow x_14.d.keep)) ∧ (appLog x_13.fst x_13.snd).fst.ep = x_14.ep ∧ ((appLog x_13.fst x_13.snd).fst.log.length = x_14.log.length ∧ RowsEq (appLog x_13.fst x_13.snd).fst.log.length (recRow (appLog x_13.fst
    x_13.snd).fst.log) (recRow x_14.log)) ∧ (appLog x_13.fst x_13.snd).fst.sure = x_14.sure ∧ ((appLog x_13.fst x_13.snd).fst.fr.length = x_14.fr.length ∧ RowsEq (appLog x_13.fst x_13.snd).fst.fr.length (frzR (famRow (appLog x_13.fst
    x_13.snd).fst.fr)) (frmRow x_14.fr)) ∧ (appLog x_13.fst x_13.snd).fst.hand = x_14.hand ∧ True) ∧ (((appLog x_3.fst x_3.snd).fst.d.sec.length = x_14.d.sec.length ∧ RowsEq (appLog x_3.fst x_3.snd).fst.d.sec.length (strRow (appLog
    x_3.fst x_3.snd).fst.d.sec) (strRow x_14.d.sec)) ∧ ((appLog x_3.fst x_3.snd).fst.d.cache.length = x_14.d.cache.length ∧ RowsEq (appLog x_3.fst x_3.snd).fst.d.cache.length (pendRow (appLog x_3.fst x_3.snd).fst.d.cache) (pendRow
    x_14.d.cache)) ∧ (appLog x_3.fst x_3.snd).fst.d.armed = x_14.d.armed ∧ ((appLog x_3.fst x_3.snd).fst.d.keep.length = x_14.d.keep.length ∧ RowsEq (appLog x_3.fst x_3.snd).fst.d.keep.length (intRow (appLog x_3.fst
    x_3.snd).fst.d.keep) (intRow x_14.d.keep)) ∧ (appLog x_3.fst x_3.snd).fst.ep = x_14.ep ∧ ((appLog x_3.fst x_3.snd).fst.log.length = x_14.log.length ∧ RowsEq (appLog x_3.fst x_3.snd).fst.log.length (recRow (appLog x_3.fst
    x_3.snd).fst.log) (recRow x_14.log)) ∧ (appLog x_3.fst x_3.snd).fst.sure = x_14.sure ∧ ((appLog x_3.fst x_3.snd).fst.fr.length = x_14.fr.length ∧ RowsEq (appLog x_3.fst x_3.snd).fst.fr.length (frzR (famRow (appLog x_3.fst
    x_3.snd).fst.fr)) (frmRow x_14.fr)) ∧ (appLog x_3.fst x_3.snd).fst.hand = x_14.hand ∧ True) ∧ True) ∧ SmS x_14) ∧ ((false || (appLog x_13.fst x_13.snd).snd != (appLog x_3.fst x_3.snd).snd) = true → false = true) ∧ ((false ||
    (appLog x_13.fst x_13.snd).snd != (appLog x_3.fst x_3.snd).snd) = false → ∃ (x_15 : (Sto × Nat)), ((Le (0 + (appLog x_5.fst x_5.snd).fst.d.sec.length) (mkS x.fst.d.sec.length x.snd.fst).length ∧ Le (0 + (appLog x_5.fst
    x_5.snd).fst.d.cache.length) (mkP x.fst.d.cache.length (x.snd.fst + x.fst.d.sec.length)).length ∧ Le (0 + (appLog x_5.fst x_5.snd).fst.d.keep.length) (mkI x.fst.d.keep.length (x.snd.fst + x.fst.d.sec.length + 2 *
    x.fst.d.cache.length)).length ∧ Le (0 + (appLog x_5.fst x_5.snd).fst.log.length) (mkR x.fst.log.length (endD x.fst.d x.snd.fst)).length ∧ Le (0 + (appLog x_5.fst x_5.snd).fst.fr.length) (mkF x.fst.fr.length (lnOf x.fst.fr) (endD
    x.fst.d x.snd.fst + 10 * x.fst.log.length)).length) ∧ ((((appLog x_5.fst x_5.snd).fst.d.sec.length = (mkS x_15.fst.d.sec.length x_15.snd).length ∧ RowsEq (appLog x_5.fst x_5.snd).fst.d.sec.length (strRow (mkS x.fst.d.sec.length
    x.snd.fst)) (strRow (mkS x_15.fst.d.sec.length x_15.snd))) ∧ ((appLog x_5.fst x_5.snd).fst.d.cache.length = (mkP x_15.fst.d.cache.length (x_15.snd + x_15.fst.d.sec.length)).length ∧ RowsEq (appLog x_5.fst
    x_5.snd).fst.d.cache.length (pendRow (mkP x.fst.d.cache.length (x.snd.fst + x.fst.d.sec.length))) (pendRow (mkP x_15.fst.d.cache.length (x_15.snd + x_15.fst.d.sec.length)))) ∧ (appLog x_5.fst x_5.snd).fst.d.armed =
    x_15.fst.d.armed ∧ ((appLog x_5.fst x_5.snd).fst.d.keep.length = (mkI x_15.fst.d.keep.length (x_15.snd + x_15.fst.d.sec.length + 2 * x_15.fst.d.cache.length)).length ∧ RowsEq (appLog x_5.fst x_5.snd).fst.d.keep.length (intRow (mkI
    x.fst.d.keep.length (x.snd.fst + x.fst.d.sec.length + 2 * x.fst.d.cache.length))) (intRow (mkI x_15.fst.d.keep.length (x_15.snd + x_15.fst.d.sec.length + 2 * x_15.fst.d.cache.length)))) ∧ (appLog x_5.fst x_5.snd).fst.ep =
    x_15.fst.ep ∧ ((appLog x_5.fst x_5.snd).fst.log.length = (mkR x_15.fst.log.length (endD x_15.fst.d x_15.snd)).length ∧ RowsEq (appLog x_5.fst x_5.snd).fst.log.length (recRow (mkR x.fst.log.length (endD x.fst.d x.snd.fst))) (recRow
    (mkR x_15.fst.log.length (endD x_15.fst.d x_15.snd)))) ∧ (appLog x_5.fst x_5.snd).fst.sure = x_15.fst.sure ∧ ((appLog x_5.fst x_5.snd).fst.fr.length = (mkF x_15.fst.fr.length (lnOf x_15.fst.fr) (endD x_15.fst.d x_15.snd + 10 *
    x_15.fst.log.length)).length ∧ RowsEq (appLog x_5.fst x_5.snd).fst.fr.length (frzR (famRow (mkF x.fst.fr.length (lnOf x.fst.fr) (endD x.fst.d x.snd.fst + 10 * x.fst.log.length)))) (frmRow (mkF x_15.fst.fr.length (lnOf x_15.fst.fr)
    (endD x_15.fst.d x_15.snd + 10 * x_15.fst.log.length)))) ∧ (appLog x_5.fst x_5.snd).fst.hand = x_15.fst.hand ∧ True) ∧ (1 : Int) = (x_15.snd:Int) ∧ True) ∧ KBs x_15.fst x_15.snd) ∧ (decide ((↑(endS x_15.fst x_15.snd) : Int) < (0 :
    Int)) = true → false = true) ∧ (decide ((↑(endS x_15.fst x_15.snd) : Int) < (0 : Int)) = false → (((↑(endS x_15.fst x_15.snd) : Int) != (↑(endS x.fst x.snd.fst) : Int)) = true → false = true) ∧ (((↑(endS x_15.fst x_15.snd) : Int)
    != (↑(endS x.fst x.snd.fst) : Int)) = false → true = true))))))))))) :
    PureFn Tryz.prog 4 [.agg s.ts, .agg r.ts] (.bool true) :=
  vcR (code := b_LawA) (gC szSto_ok call_szSto (gC szRec_ok call_szRec (gC moSto_ok call_moSto (gC toRec_ok call_toRec (gC AppendLogs_ok call_AppendLogs (gC AppendLogi_ok call_AppendLogi (gC eqSto_ok call_eqSto (gC markSto_ok call_markSto (gC heldSto_ok call_heldSto gN))))))))) Tryz.func4 (by kernel_rfl) (by kernel_rfl) noAnn h (by kernel_rfl)
theorem leM {α : Type} (f : Nat → α) (n : Nat) : Le (0 + n) ((List.range n).map f).length := by rw [mk_len]; exact le0 n
theorem smS_app {s : Sto} {r : Rec} (h : SmS s) : SmS (appLog s r).1 := by
  have hE : SmS stoE := ⟨⟨Nat.zero_le _, Nat.zero_le _, Nat.zero_le _⟩, Nat.zero_le _, Nat.zero_le _, fun i hi => absurd hi (Nat.not_lt_zero _)⟩
  unfold appLog
  by_cases ho : stoOK s = true
  · have h6 := sto_60 ho
    obtain ⟨a1, a2, a3, a4⟩ := h
    rw [if_pos ho]
    split
    · exact ⟨a1, a2, a3, a4⟩
    · split
      · rename_i hr
        unfold appS
        rw [if_pos hr]
        exact ⟨a1, by simp; omega, a3, a4⟩
      · exact ⟨a1, a2, a3, a4⟩
  · rw [if_neg ho]
    exact hE
-- The law, of a store and a record that are given as data.
theorem lawA_pure (s : Sto) (r : Rec) (h : LmS s) (hr : RecB r) : PureFn Tryz.prog 4 [.agg s.ts, .agg r.ts] (.bool true) := by
  have l0 : Left 1048576 := ⟨by omega, by omega⟩
  refine v_LawA s r ⟨(s, 1048576), ⟨⟨eqS _, rfl, trivial⟩, l0, h⟩, fun _ => rfl, fun hq => ?_⟩
  obtain ⟨q1, l1⟩ := rem_add (b := bulkR r) (of_decide_eq_false hq) l0 rfl
  refine ⟨(r, rem 1048576 (bulkS s)), ⟨⟨⟨rfl, rfl, rfl, rfl, rfl, rfl, rfl, rfl, rfl, rfl, trivial⟩, rfl, trivial⟩, l1, hr⟩, fun _ => rfl, fun hq2 => ?_⟩
  have hb := of_decide_eq_false hq2
  dsimp only at hb
  rw [q1] at hb
  have hb := rem_big hb
  dsimp only at hb
  obtain ⟨hS, hB⟩ := small_sto (s := s) (by omega)
  have hRr : SmR r := by
    have : bulkR r = r.b.length + r.a.length := rfl
    exact ⟨by omega, by omega⟩
  have hO : SmS (appLog s r).1 := smS_app hS
  have hk : KBs s 1 := ⟨hS, Nat.le_refl _, by omega⟩
  have hko : KBs (appLog s r).1 1 := ⟨hO, Nat.le_refl _, by omega⟩
  have hn : ∀ n : Nat, decide ((n : Int) < 0) = false := fun n => decide_eq_false (by omega)
  exact ⟨s, ⟨⟨eqS _, trivial⟩, hS⟩, r, ⟨⟨⟨rfl, rfl, rfl, rfl, rfl, rfl, rfl, rfl, rfl, rfl, trivial⟩, trivial⟩, trivial⟩, (s, r), ⟨⟨le0 _, le0 _, le0 _, le0 _, le0 _⟩, ⟨⟨⟨rfl, rowsR _ _⟩, ⟨rfl, rowsR _ _⟩, rfl, ⟨rfl, rowsR _ _⟩, rfl, ⟨rfl, rowsR _ _⟩, rfl, ⟨rfl, fun _ _ => rfl⟩, rfl, trivial⟩, ⟨rfl, rfl, rfl, rfl, rfl, rfl, rfl, rfl, rfl, rfl, trivial⟩, trivial⟩, hB, hS, hRr⟩, s, ⟨⟨eqS _, trivial⟩, hS⟩, r, ⟨⟨⟨rfl, rfl, rfl, rfl, rfl, rfl, rfl, rfl, rfl, rfl, trivial⟩, trivial⟩, trivial⟩, (s, r), ⟨⟨le0 _, le0 _, le0 _, le0 _, le0 _⟩, ⟨⟨⟨rfl, rowsR _ _⟩, ⟨rfl, rowsR _ _⟩, rfl, ⟨rfl, rowsR _ _⟩, rfl, ⟨rfl, rowsR _ _⟩, rfl, ⟨rfl, fun _ _ => rfl⟩, rfl, trivial⟩, ⟨rfl, rfl, rfl, rfl, rfl, rfl, rfl, rfl, rfl, rfl, trivial⟩, trivial⟩, hB, hS, hRr⟩,
    (appLog s r).1, ⟨⟨⟨le0 _, le0 _, le0 _, le0 _, le0 _⟩, ⟨le0 _, le0 _, le0 _, le0 _, le0 _⟩⟩, ⟨⟨⟨rfl, rowsR _ _⟩, ⟨rfl, rowsR _ _⟩, rfl, ⟨rfl, rowsR _ _⟩, rfl, ⟨rfl, rowsR _ _⟩, rfl, ⟨rfl, fun _ _ => rfl⟩, rfl, trivial⟩, ⟨⟨rfl, rowsR _ _⟩, ⟨rfl, rowsR _ _⟩, rfl, ⟨rfl, rowsR _ _⟩, rfl, ⟨rfl, rowsR _ _⟩, rfl, ⟨rfl, fun _ _ => rfl⟩, rfl, trivial⟩, trivial⟩, hO⟩, fun he => by simp at he, fun _ => ⟨s, ⟨⟨eqS _, trivial⟩, hS⟩, s, ⟨⟨⟨le0 _, le0 _, le0 _, le0 _, le0 _⟩, ⟨le0 _, le0 _, le0 _, le0 _, le0 _⟩⟩, ⟨⟨⟨rfl, rowsR _ _⟩, ⟨rfl, rowsR _ _⟩, rfl, ⟨rfl, rowsR _ _⟩, rfl, ⟨rfl, rowsR _ _⟩, rfl, ⟨rfl, fun _ _ => rfl⟩, rfl, trivial⟩, ⟨⟨rfl, rowsR _ _⟩, ⟨rfl, rowsR _ _⟩, rfl, ⟨rfl, rowsR _ _⟩, rfl, ⟨rfl, rowsR _ _⟩, rfl, ⟨rfl, fun _ _ => rfl⟩, rfl, trivial⟩, trivial⟩, hS⟩, fun he => he, fun _ =>
    ⟨(s, 1, s.fr.length), ⟨⟨⟨⟨rfl, rfl⟩, ⟨rfl, rfl⟩, rfl, ⟨rfl, rfl⟩, rfl, ⟨rfl, rfl⟩, rfl, ⟨rfl, rfl⟩, rfl, trivial⟩, rfl, trivial⟩, ⟨⟨rfl, rowsR _ _⟩, ⟨rfl, rowsR _ _⟩, ⟨rfl, rowsR _ _⟩, ⟨rfl, rowsR _ _⟩, ⟨rfl, rfl, famR _⟩, trivial⟩, hk⟩, (appLog s r).1, fun _ => ⟨⟨⟨le0 _, le0 _, le0 _, le0 _, le0 _⟩, ⟨le0 _, le0 _, le0 _, le0 _, le0 _⟩⟩, ⟨⟨⟨rfl, rowsR _ _⟩, ⟨rfl, rowsR _ _⟩, rfl, ⟨rfl, rowsR _ _⟩, rfl, ⟨rfl, rowsR _ _⟩, rfl, ⟨rfl, fun _ _ => rfl⟩, rfl, trivial⟩, ⟨⟨rfl, rowsR _ _⟩, ⟨rfl, rowsR _ _⟩, rfl, ⟨rfl, rowsR _ _⟩, rfl, ⟨rfl, rowsR _ _⟩, rfl, ⟨rfl, fun _ _ => rfl⟩, rfl, trivial⟩, trivial⟩, hO⟩, fun he => by rw [hn] at he; simp at he, fun _ =>
    ⟨((appLog s r).1, 1, 0), ⟨⟨⟨⟨rfl, rfl⟩, ⟨rfl, rfl⟩, rfl, ⟨rfl, rfl⟩, rfl, ⟨rfl, rfl⟩, rfl, ⟨rfl, rfl⟩, rfl, trivial⟩, rfl, trivial⟩, ⟨⟨rfl, rowsR _ _⟩, ⟨rfl, rowsR _ _⟩, ⟨rfl, rowsR _ _⟩, ⟨rfl, rowsR _ _⟩, ⟨rfl, rfl, famR _⟩, trivial⟩, hko⟩, ((appLog s r).1, 1), ⟨⟨leM _ _, leM _ _, leM _ _, leM _ _, leM _ _⟩, ⟨⟨⟨(mk_len _ _).symm, rowsR _ _⟩, ⟨(mk_len _ _).symm, rowsR _ _⟩, rfl, ⟨(mk_len _ _).symm, rowsR _ _⟩, rfl, ⟨(mk_len _ _).symm, rowsR _ _⟩, rfl, ⟨(mk_len _ _).symm, fun _ _ => rfl⟩, rfl, trivial⟩, rfl, trivial⟩, hko⟩, fun he => by rw [hn] at he; simp at he, fun _ => ⟨fun he => by simp at he, fun _ =>
    ⟨s, ⟨⟨eqS _, trivial⟩, hS⟩, r, ⟨⟨⟨rfl, rfl, rfl, rfl, rfl, rfl, rfl, rfl, rfl, rfl, trivial⟩, trivial⟩, trivial⟩, (s, r), ⟨⟨le0 _, le0 _, le0 _, le0 _, le0 _⟩, ⟨⟨⟨rfl, rowsR _ _⟩, ⟨rfl, rowsR _ _⟩, rfl, ⟨rfl, rowsR _ _⟩, rfl, ⟨rfl, rowsR _ _⟩, rfl, ⟨rfl, fun _ _ => rfl⟩, rfl, trivial⟩, ⟨rfl, rfl, rfl, rfl, rfl, rfl, rfl, rfl, rfl, rfl, trivial⟩, trivial⟩, hB, hS, hRr⟩, (appLog s r).1, ⟨⟨⟨le0 _, le0 _, le0 _, le0 _, le0 _⟩, ⟨le0 _, le0 _, le0 _, le0 _, le0 _⟩⟩, ⟨⟨⟨rfl, rowsR _ _⟩, ⟨rfl, rowsR _ _⟩, rfl, ⟨rfl, rowsR _ _⟩, rfl, ⟨rfl, rowsR _ _⟩, rfl, ⟨rfl, fun _ _ => rfl⟩, rfl, trivial⟩, ⟨⟨rfl, rowsR _ _⟩, ⟨rfl, rowsR _ _⟩, rfl, ⟨rfl, rowsR _ _⟩, rfl, ⟨rfl, rowsR _ _⟩, rfl, ⟨rfl, fun _ _ => rfl⟩, rfl, trivial⟩, trivial⟩, hO⟩, fun he => by simp at he, fun _ => ⟨((appLog s r).1, 1), ⟨⟨leM _ _, leM _ _, leM _ _, leM _ _, leM _ _⟩, ⟨⟨⟨(mk_len _ _).symm, rowsR _ _⟩, ⟨(mk_len _ _).symm, rowsR _ _⟩, rfl, ⟨(mk_len _ _).symm, rowsR _ _⟩, rfl, ⟨(mk_len _ _).symm, rowsR _ _⟩, rfl, ⟨(mk_len _ _).symm, fun _ _ => rfl⟩, rfl, trivial⟩, rfl, trivial⟩, hko⟩, fun he => by rw [hn] at he; simp at he, fun _ => ⟨fun he => by simp at he, fun _ => rfl⟩⟩⟩⟩⟩⟩⟩⟩
end Go.Proofs.YtjbomnjmcbhadaaGreat

