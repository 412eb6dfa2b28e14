/- A part of the proof. -/
import Derived.Test.YtndilbkocjlgpaaGreatF0
namespace Go.Proofs.YtndilbkocjlgpaaGreat
set_option maxRecDepth 100000
open Go.SS

def SmD(d:Dsk):Prop:=d.sec.length<=1048576/\d.cache.length<=1048576/\d.keep.length<=1048576
def r_eqDsk:Rl:=⟨Dsk,fun d=>[.agg d.ts,.agg d.ts],fun _=>.bool true,SmD⟩
def SmG(p:Pg):Prop:=p.sl.length<=1048576
def r_eqPg:Rl:=⟨Pg,fun p=>[.agg p.ts,.agg p.ts],fun _=>.bool true,SmG⟩
def SmF(f:Frm):Prop:=SmG f.pg
end Go.Proofs.YtndilbkocjlgpaaGreat

namespace Go.Proofs.YtndilbkocjlgpaaGreat
set_option maxRecDepth 100000
open Go.SS

def SmS(s:Sto):Prop:=SmD s.d/\s.log.length<=1048576/\s.fr.length<=1048576/\∀i,i<s.fr.length->SmF (s.fr.getD i default)
def r_eqSto:Rl:=⟨Sto,fun s=>[.agg s.ts,.agg s.ts],fun _=>.bool true,SmS⟩
end Go.Proofs.YtndilbkocjlgpaaGreat

