/- A part of the proof. -/
import Derived.Test.YtndilbkocjlgpaaGreatE8
namespace Go.Proofs.YtndilbkocjlgpaaGreat
set_option maxRecDepth 100000
open Go.SS

def r_eqStrS:Rl:=⟨List (List UInt8),fun L=>[strS L,strS L],fun _=>.bool true,fun L=>L.length<=1048576⟩
def r_eqIntS:Rl:=⟨List Int,fun L=>[intS L,intS L],fun _=>.bool true,fun L=>L.length<=1048576⟩
end Go.Proofs.YtndilbkocjlgpaaGreat

