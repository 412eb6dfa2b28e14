/- A part of the proof. -/
import Derived.Test.YtndilbkocjlgpaaGreatD5D6
namespace Go.Proofs.YtndilbkocjlgpaaGreat
set_option maxRecDepth 100000
open Go.SS

def rem(left:Int)(n:Nat):Int:=if 0<=left-n then left-n else-1
theorem setRow_full{row:Nat->List T}{i k:Nat}{cs:List T}(h:cs.length=(row k).length):setRow row i 0 cs k=match Nat.beq k i with|true=>cs|false=>row k:=by
 rw[setRow_eq (by omega)]
 cases Nat.beq k i
 ·rfl
 ·simp[h]
def r_eqRecS:Rl:=⟨List Rec,fun L=>[recS L,recS L],fun _=>.bool true,fun L=>L.length<=1048576⟩
end Go.Proofs.YtndilbkocjlgpaaGreat

