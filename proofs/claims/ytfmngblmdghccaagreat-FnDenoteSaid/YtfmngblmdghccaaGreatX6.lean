/- A part of the proof. -/
import Derived.Test.YtfmngblmdghccaaGreatX1
import Derived.Test.YtfmngblmdghccaaGreatK20
namespace Go.Proofs.YtfmngblmdghccaaGreat
open Go.SS

end Go.Proofs.YtfmngblmdghccaaGreat

namespace Go.Proofs.YtfmngblmdghccaaGreat
open Go.SS

def Frm.tm(f:Frm)(b:Nat):List T:=[.int .i64 f.no,.int .i64 f.pg.lsn,.osl b 0 f.pg.sl.length,.bool f.dirty,.int .i64 f.first]
end Go.Proofs.YtfmngblmdghccaaGreat

namespace Go.Proofs.YtfmngblmdghccaaGreat
set_option maxRecDepth 100000
open Go.SS Go.RowKit

def ndA(L:List Nd):Option Ob:=some (.arr true 83 7 L.length (ndRow L))
end Go.Proofs.YtfmngblmdghccaaGreat

