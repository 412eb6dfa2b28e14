/- A part of the proof. -/
import Derived.Test.YtokaojbaacnngaaGreatU1U2
import Derived.Test.YtokaojbaacnngaaGreatW7
namespace Go.Proofs.YtokaojbaacnngaaGreat
set_option maxRecDepth 100000
open Go.SS

def Eng.tn(e:Eng)(a b c d f g h i:Nat):List T:=[.osl a 0 e.s.d.sec.length,.osl b 0 e.s.d.cache.length,.bool e.s.d.armed,.osl c 0 e.s.d.keep.length,.int .i64 e.s.ep,.osl d 0 e.s.log.length,.int .i64 e.s.sure,.osl f 0 e.s.fr.length,.int .i64 e.s.hand,.bool e.up,.osl g 0 e.txs.length,.osl h 0 e.lk.held.length,.osl i 0 e.lk.waits.length,.int .i64 e.next]
def engBx(l:List T):Option Ob:=some (.arr false 1000000 14 1 fun _=>l)
def Eng.bx(e:Eng)(v:Nat):Heap:=[engBx (e.tn 1 2 3 4 5 6 7 8),strA e.s.d.sec,pendA e.s.d.cache,intA e.s.d.keep,recA e.s.log,famA v e.s.fr e.s.fr.length,txnA e.txs,lckA e.lk.held,wtA e.lk.waits]
def Eng.nx(e:Eng)(v:Nat):Heap:=[engBx (e.tn 9 10 11 12 13 14 15 16),none,none,none,none,none,none,none,none,strA e.s.d.sec,pendA e.s.d.cache,intA e.s.d.keep,recA e.s.log,famA v e.s.fr e.s.fr.length,txnA e.txs,lckA e.lk.held,wtA e.lk.waits]
def engE:Eng:=⟨stoE,false,[],⟨[],[]⟩,0⟩
end Go.Proofs.YtokaojbaacnngaaGreat

namespace Go.Proofs.YtokaojbaacnngaaGreat
set_option maxRecDepth 100000
open Go.SS

def filR(e:Eng)(k:Nat)(r:Rec):Rec:={r with t:=(e.txs.getD k default).id,p:=(e.txs.getD k default).last}
structure AddB(e:Eng)(tx:Int)(k:Nat)(r:Rec):Prop where
 at_:txAt e.txs tx=k
 lt:k<e.txs.length
 id:(e.txs.getD k default).id=tx
 ok:recOK (appR e.s (filR e k r))=true
 tl:e.txs.length<=1000
 ll:e.s.log.length<=1000
 sm:SmR r
theorem ok_split{e:Eng}(h:engOK e=true):stoOK e.s=true/\engHd e=true/\(if e.up then upE e else noneE e)=true:=by
 unfold engOK engR at h;simp only[Bool.and_eq_true] at h;exact⟨h.1,h.2.1,h.2.2⟩
end Go.Proofs.YtokaojbaacnngaaGreat

