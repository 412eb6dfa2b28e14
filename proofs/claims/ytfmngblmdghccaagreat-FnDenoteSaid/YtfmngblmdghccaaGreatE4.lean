/- A part of the proof. -/
import Derived.Test.YtfmngblmdghccaaGreatD0
import Derived.RangeFuncNested
import Derived.RangeFuncBound
import Derived.RangeFuncCalls
import Derived.RangeFuncBox
import Derived.RangeFuncLeaves
import Derived.Shelf.Abstract
import Derived.WalkKit
import Derived.OwnWalkIn
import Derived.TacticsInMore
import Derived.LoopNIn
import Derived.LoopIn
namespace Go.Proofs.YtfmngblmdghccaaGreat
open Go.SS

structure Pg where
 lsn:Int
 sl:List (List UInt8)
 deriving Inhabited
def Pg.ts(p:Pg):List T:=[.int .i64 p.lsn,strS p.sl]
def PgP(p:Pg):Prop:=0<=p.lsn/\p.lsn<=1000/\p.sl.length=4/\∀i,i<p.sl.length->(p.sl.getD i []).length<=30
noncomputable instance(p:Pg):Decidable (PgP p):=Classical.propDecidable _
theorem anyI_no{n:Nat}{p:Nat->Bool}:anyI n p=false↔∀i,i<n->p i=false:=by
 rw[Bool.eq_false_iff,ne_eq,anyI_iff];constructor
 ·intro h i hi;exact Bool.eq_false_iff.2 fun hp=>h ⟨i,hi,hp⟩
 ·rintro h ⟨i,hi,hp⟩;rw[h i hi] at hp;cases hp
end Go.Proofs.YtfmngblmdghccaaGreat

namespace Go.Proofs.YtfmngblmdghccaaGreat
open Go.SS Go.RowKit Go.Shelf
attribute [local go_sem] Oper.semAt_some

structure Pend where
 at_:Int
 d:List UInt8
 deriving Inhabited
def Pend.ts(p:Pend):List T:=[.int .i64 p.at_,.str p.d]
def Pend.val(p:Pend):Value:=.agg #[.int .i64 p.at_,.string ⟨p.d.toArray⟩]
def KpB(n₀ Bs:Nat)(A B:World):Prop:=Below n₀ A B/\∀v,A.cell? ⟨Bs,0,none⟩=some v->B.cell? ⟨Bs,0,none⟩=some v
theorem KpB.refl(n₀ Bs:Nat)(A:World):KpB n₀ Bs A A:=⟨Below.refl _ _,fun _ h=>h⟩
theorem KpB.trans{n₀ Bs:Nat}{A B C:World}(h:KpB n₀ Bs A B)(k:KpB n₀ Bs B C):KpB n₀ Bs A C:=⟨h.1.trans k.1,fun v hv=>k.2 v (h.2 v hv)⟩
def PendsAt(n₀:Nat)(W:World)(sv:Value)(len:Nat)(ps:Nat->Pend):Prop:=
 (∃a cap,sv= .slice a 0 cap/\len=0)∨∃b off cap,sv= .slice (some ⟨b,off,none⟩) len cap/\b<n₀/\∀j,j<len->W.cell? ⟨b,off+j*2,none⟩=some (.int .i64 (ps j).at_)/\W.cell? ⟨b,off+j*2+1,none⟩=some (.string ⟨(ps j).d.toArray⟩)
theorem PendsAt.mono{n n':Nat}{W:World}{sv:Value}{len:Nat}{ps:Nat->Pend}(h:n<=n'):PendsAt n W sv len ps->PendsAt n' W sv len ps
 | .inl e=>.inl e
 | .inr ⟨b,off,cap,e,hb,hc⟩=>.inr ⟨b,off,cap,e,Nat.lt_of_lt_of_le hb h,hc⟩
structure Dsk where
 sec:List (List UInt8)
 cache:List Pend
 armed:Bool
 keep:List Int
 deriving Inhabited
def pendRow(L:List Pend)(i:Nat):List T:=(L.getD i default).ts
def pendS(L:List Pend):T:=.sl 2 L.length (pendRow L)
def intRow(L:List Int)(i:Nat):List T:=[.int .i64 (L.getD i 0)]
def intS(L:List Int):T:=.sl 1 L.length (intRow L)
def Dsk.ts(d:Dsk):List T:=[strS d.sec,pendS d.cache,.bool d.armed,intS d.keep]
theorem rd_int_inv{E:Env}{w:World}{k:IntKind}{n:Int}{v:Value}(h:Rd E w (.int k n) v):v= .int k n:=by cases h;rfl
end Go.Proofs.YtfmngblmdghccaaGreat

namespace Go.Proofs.YtfmngblmdghccaaGreat
open Go.SS

def badPend(m:Nat)(p:Pend):Bool:= !inR p.at_ 0 ((m:Int)-1)||decide ((p.d.length:Int)>160)
def DskP(d:Dsk):Prop:=1<=d.sec.length/\d.sec.length<=100/\d.cache.length<=500/\d.keep.length<=500/\(d.armed=false->d.keep.length=0)/\(∀i,i<d.sec.length->(d.sec.getD i []).length<=160)/\
 ∀i,i<d.cache.length->badPend d.sec.length (d.cache.getD i default)=false
noncomputable instance(d:Dsk):Decidable (DskP d):=Classical.propDecidable _
end Go.Proofs.YtfmngblmdghccaaGreat

namespace Go.Proofs.YtfmngblmdghccaaGreat
open Go.SS

structure Frm where
 no:Int
 pg:Pg
 dirty:Bool
 first:Int
 deriving Inhabited
def Frm.ts(f:Frm):List T:=[.int .i64 f.no,.int .i64 f.pg.lsn,strS f.pg.sl,.bool f.dirty,.int .i64 f.first]
structure Sto where
 d:Dsk
 ep:Int
 log:List Rec
 sure:Int
 fr:List Frm
 hand:Int
 deriving Inhabited
def frmRow(L:List Frm)(i:Nat):List T:=(L.getD i default).ts
def frmS(L:List Frm):T:=.sl 5 L.length (frmRow L)
def Sto.ts(s:Sto):List T:=[strS s.d.sec,pendS s.d.cache,.bool s.d.armed,intS s.d.keep,.int .i64 s.ep,recS s.log,.int .i64 s.sure,frmS s.fr,.int .i64 s.hand]
end Go.Proofs.YtfmngblmdghccaaGreat

namespace Go.Proofs.YtfmngblmdghccaaGreat
open Go.SS

end Go.Proofs.YtfmngblmdghccaaGreat

namespace Go.Proofs.YtfmngblmdghccaaGreat
open Go.SS

end Go.Proofs.YtfmngblmdghccaaGreat

namespace Go.Proofs.YtfmngblmdghccaaGreat
open Go.SS

end Go.Proofs.YtfmngblmdghccaaGreat

namespace Go.Proofs.YtfmngblmdghccaaGreat
open Go.SS

end Go.Proofs.YtfmngblmdghccaaGreat

