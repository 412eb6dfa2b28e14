/- A part of the proof. -/
import Derived.Test.YtghgljelnhfihaaGreatE7E8
namespace Go.Proofs.YtghgljelnhfihaaGreat
open Go.SS

end Go.Proofs.YtghgljelnhfihaaGreat

namespace Go.Proofs.YtghgljelnhfihaaGreat
open Go.SS

def nD(d:Dsk):Prop:=d.E.length<=1048576/\d.C.length<=1048576/\d.keep.length<=1048576
def SmG(p:Pg):Prop:=p.sl.length<=1048576
def SmF(f:Frm):Prop:=SmG f.pg
end Go.Proofs.YtghgljelnhfihaaGreat

namespace Go.Proofs.YtghgljelnhfihaaGreat
open Go.SS

def SmS(s:Sto):Prop:=nD s.d/\s.L.length<=1048576/\s.fr.length<=1048576/\∀i,i<s.fr.length->SmF (s.fr.getD i dz)
end Go.Proofs.YtghgljelnhfihaaGreat

