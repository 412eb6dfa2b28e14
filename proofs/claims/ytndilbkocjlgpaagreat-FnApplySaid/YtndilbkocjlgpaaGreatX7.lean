/- A part of the proof. -/
import Derived.Test.YtndilbkocjlgpaaGreatX5X6
namespace Go.Proofs.YtndilbkocjlgpaaGreat
set_option maxRecDepth 100000
open Go.SS

def posF(ln:Nat->Nat)(k:Nat):Nat->Nat
 |0=>k
 |i+1=>posF ln k i+(ln i+4)
def lnOf(L:List Frm)(i:Nat):Nat:=(L.getD i default).pg.sl.length
def endD(d:Dsk)(k:Nat):Nat:=k+d.sec.length+2*d.cache.length+d.keep.length
def endS(s:Sto)(k:Nat):Nat:=posF (lnOf s.fr) (endD s.d k+10*s.log.length) s.fr.length
end Go.Proofs.YtndilbkocjlgpaaGreat

