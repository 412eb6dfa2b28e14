/- A part of the proof. -/
import Derived.Test.YtndilbkocjlgpaaGreatY4Y5
import Derived.WalkKit
import Derived.Deep.RegionLaw
import Derived.Deep.LoopGhost
import Derived.Lib.SliceRun
import Derived.Deep.MidRow
import Derived.Shelf.RegionOpenPlain
import Derived.Laws.IdiomCopy
namespace Go.Proofs.YtndilbkocjlgpaaGreat
open Go.SS Go.RowKit

def shI(k r:Nat):Nat:=if r<k then r else r+1
theorem erase_len{L:List Frm}{k:Nat}(hk:k<L.length):(L.eraseIdx k).length=L.length-1:=by rw[List.length_eraseIdx,if_pos hk]
theorem erase_at(L:List Frm)(k i:Nat):(L.eraseIdx k).getD i default=L.getD (shI k i) default:=by
 rw[List.getD_eq_getElem?_getD,List.getElem?_eraseIdx,List.getD_eq_getElem?_getD]
 unfold shI;split<;>rfl
end Go.Proofs.YtndilbkocjlgpaaGreat

