/- A part of the proof. -/
import Derived.Test.YtokaojbaacnngaaGreatE7
namespace Go.Proofs.YtokaojbaacnngaaGreat
set_option maxRecDepth 100000
open Go.SS

end Go.Proofs.YtokaojbaacnngaaGreat

