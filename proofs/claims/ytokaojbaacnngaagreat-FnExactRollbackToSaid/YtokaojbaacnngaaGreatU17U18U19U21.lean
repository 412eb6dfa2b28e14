/- A part of the proof. -/
import Derived.Test.YtokaojbaacnngaaGreatU13U14U15U16
import Derived.WalkKit
import Derived.Deep.RegionLaw
import Derived.Deep.LoopGhost
import Derived.Lib.SliceRun
import Derived.Deep.MidRow
import Derived.Shelf.RegionOpenPlain
import Derived.Laws.IdiomCopy
import Derived.Test.YtokaojbaacnngaaGreatU3U4U5
import Derived.Test.YtokaojbaacnngaaGreatX11X11rX12X13X14
import Derived.Test.YtokaojbaacnngaaGreatL7L8U10
namespace Go.Proofs.YtokaojbaacnngaaGreat
open Go.SS Go.RowKit

def a7i{α:Type}(L:List α)(k:Nat):List α:=L.take k++L.drop (k+1)
end Go.Proofs.YtokaojbaacnngaaGreat

namespace Go.Proofs.YtokaojbaacnngaaGreat
open Go.SS Go.RowKit

def a5S(o o':Ob):Prop:=o=o'∨∃cl ty sz n n' row row',o= .arr cl ty sz n row/\o'= .arr cl ty sz n' row'/\n'<=n/\∀i,i<n'->row' i=row i
theorem a5S.blk{E:Env}{k:Nat}{o o':Ob}{b:Nat}(h:a5S o o')(hb:G6 E k o' b):G6 E k o b:=by
 rcases h with rfl|⟨cl,ty,sz,n,n',row,row',rfl,rfl,_,_⟩
 ·exact hb
 ·exact .inl (hb.arr rfl)
theorem a5S.ok{E:Env}{w:World}{k:Nat}{o o':Ob}(h:a5S o o')(ho:t9 E w k o):t9 E w k o':=by
 rcases h with rfl|⟨cl,ty,sz,n,n',row,row',rfl,rfl,hn,hr⟩
 ·exact ho
 ·obtain⟨e1,e2,e3,e4,e5,cs,tyb,e6,e7,e8⟩:=(show T7 E w k ⟨cl,ty,sz,n,row⟩ from ho)
  dsimp only at e1 e2 e3 e4 e5 e7 e8;refine(show T7 E w k ⟨cl,ty,sz,n',row'⟩ from⟨e1,Nat.le_trans hn e2,λi hi=> ?_,λi t hi ht=> ?_,λhc i t hi ht=> ?_,cs,tyb,e6,e7,λi j t hi hj=> ?_⟩)
  ·have hi:i<n':=hi;show(row' i).length=sz;rw[hr i hi];exact e3 i (by omega)
  ·have hi:i<n':=hi;have ht:t ∈ row' i:=ht;rw[hr i hi] at ht;exact e4 i t (by omega) ht
  ·have hi:i<n':=hi;have ht:t ∈ row' i:=ht;rw[hr i hi] at ht;exact e5 hc i t (by omega) ht
  ·have hi:i<n':=hi;have hj:(row' i)[j]? =some t:=hj;rw[hr i hi] at hj;exact e8 i j t (by omega) hj
end Go.Proofs.YtokaojbaacnngaaGreat

namespace Go.Proofs.YtokaojbaacnngaaGreat
set_option maxRecDepth 100000
open Go.SS Go.RowKit

def a0l(n:Int):Option Ob:=some (.arr true 1000000 1 1 λ_=>[.int .i64 n])
def d1(L:List Lck)(tx:Int)(i:Nat):Bool:=(L.getD i default).tx==tx
def d2(L:List Wt)(tx:Int)(i:Nat):Bool:=(L.getD i default).tx==tx||(L.getD i default).fo==tx
end Go.Proofs.YtokaojbaacnngaaGreat

namespace Go.Proofs.YtokaojbaacnngaaGreat
set_option maxRecDepth 100000
open Go.SS Go.RowKit

def a96:Con:=.rel ⟨Eng×Int,λx=>[.bref x.1.ts,.int .i64 x.2],λx=>.int .i64 (M5 x.1 x.2).2,λx=>M7 x.1.txs.length⟩
theorem a7P:GK 65 a96:=gk Tryz.func65<|by
 rintro⟨e,tx⟩ (hL:M7 e.txs.length);refine S6 (gC vE gN) Tryz.func65 Z0 (α:=((!e.up)=true->(15:Int)=(M5 e tx).2)/\((!e.up)=false->∃(x:(Eng×Int)),(((y5 e x.1)/\tx=x.2/\True)/\M7 x.1.txs.length)/\(decide (U8 x.1.txs x.2<(0:Int))=true->(19:Int)=(M5 e tx).2)/\(decide (U8 x.1.txs x.2<(0:Int))=false->(0:Int)=(M5 e tx).2))) ⟨λhu=>by rw[b88 hu],λhu=>⟨(e,tx),⟨⟨A4 _,Z9⟩,hL⟩,λhq=>by rw[b9w hu hq],λhq=>by rw[b9m hu hq]⟩⟩
end Go.Proofs.YtokaojbaacnngaaGreat

