/- The law 'FnAbortSaid' is proved: whatever the input, it returns true and leaves the input as it is; there is no condition. -/
import Derived.Test.YtcobnbfhkpbokaaGreatZ6e
import Derived.Test.YtcobnbfhkpbokaaGreatE4
import Derived.Test.YtcobnbfhkpbokaaGreatSS13
import Derived.Test.YtcobnbfhkpbokaaGreatRows
import Derived.WalkKit
import Derived.ProofKit
import Derived.JoinedOf
import Derived.Handed
import Derived.WideWitness
namespace Go.Proofs.YtcobnbfhkpbokaaGreat.fnAbort
open Go.SS Go.RowKit Go.Proofs.Tryz
set_option maxRecDepth 100000
def vW(P:Program)(t:TypeId):Bool:=match P.underlying t with
 |some (.slice e)=>(match P.underlying e with|some (.int .u8)=>true|_=>false)
 |_=>false
theorem a86{P:Program}{H:Type}{d:Nat}{t:TypeId}{x:DataW H}(hu:vW P t=true):a64 P (d+1) t x= .bys ((sB x).map trT.byD):=by
 unfold vW at hu;unfold a64 trT;split at hu
 ·rename_i e hf;split at hu
  ·rename_i h;rw[hf];simp only[h];rfl
  ·cases hu
 ·cases hu
theorem data{H:Type}{W:World}{e:List (DataW H)}(h:kE prog 6 [22,22] e):∃ts,U5 prog 4 ts (.bool true)/\∀vs:Array Value,tN (E0 W) W (qF prog 6 [22,22] e) vs->tN (E0 W) W ts vs:=by
 obtain⟨x,xs,rfl,g,h⟩:=uO h;obtain⟨X,xs,rfl,f,h⟩:=uO h;obtain rfl:=a0g h;refine⟨_,b03 ((sB x).map trT.byD) ((sB X).map trT.byD),λvs hv=>?_⟩
 have:qF prog 6 [22,22] [x,X]=[a64 prog 6 22 x,a64 prog 6 22 X]:=rfl;rw[this,a86 (d:=5) J1,a86 (d:=5) J1] at hv
 exact hv
theorem lifted(os:Os)(d:os.Started)(H:Type)(enc:TypeId×Value->H):ReturnsInHanded {} Tryz.checked os 4 .any (Rows.fnAbortSpec.pre6 enc prog Tryz.f4 Rows.fnAbortRow.domain false) (Rows.fnAbortSpec.post enc prog Tryz.f4 false true false false):=by
 refine returnsInHanded_of_change (C:=Tryz.checked) own d J1 func4 (ChangeSpec.witness6 (enc:=enc) (C:=Tryz.checked) false ⟨#[], #[.slice none 0 0,.slice none 0 0],[]⟩ 16 J1 J1 J1 J1) ?_
 intro W base args n j e l g _ _;have hp:Tryz.f4.params.toList=[22,22]:=J1
 refine b9G 6 l g rfl (λh=>?_) (tb:=4) J1 J1 J1 (λh=>?_)
 ·rw[hp] at h;obtain⟨x,xs,rfl,i,h⟩:=uO h;obtain⟨X,xs,rfl,f,h⟩:=uO h;obtain rfl:=a0g h;rfl
 ·rw[hp] at h ⊢;exact data h
theorem j0:(Rows.fnAbortRow.wf (OpenSpec.ofChange Rows.fnAbortSpec))=true:=J1
theorem j1:(laidOutB Tryz.checked.prog)=true:=J1
theorem j2:(mapsRowed Tryz.checked.prog)=true:=J1
theorem j9:((Rows.fnAbortRow.inPlace==Tryz.checked.prog.inPlace 4))=true:=J1
theorem j10:((Rows.fnAbortRow.unfollowed==Tryz.checked.prog.unfollowed 4))=true:=J1
theorem j11:((Rows.fnAbortRow.recurses==Tryz.checked.prog.recurses 4))=true:=J1
theorem j12:((Rows.fnAbortRow.named==Tryz.checked.prog.varsNamed 4))=true:=J1
theorem j22:((Rows.fnAbortRow.plainKeys==Tryz.checked.prog.plainKeys))=true:=J1
theorem j24:(Tryz.checked.prog.stopsHeard)=true:=J1
theorem j25:(Tryz.checked.prog.mayEnter)=true:=J1
theorem j26:((Rows.fnAbortRow.lifted==Tryz.checked.prog.liftsFinal))=true:=J1
theorem j27:((Tryz.checked.prog.make==some Rows.fnAbortRow.make))=true:=J1
theorem closed:joinedFacts Tryz.checked.prog 4 Tryz.f4 Rows.fnAbortSpec Rows.fnAbortRow=true:=
 c2Q j0 j1 j2 J1 J1 J1 J1 J1 J1 j9 j10 j11 j12 J1 J1 J1 J1 J1 J1 J1 J1 J1 j22 J1 j24 j25 j26 j27 J1 J1 J1 J1
theorem proved:Rows.FnAbortSaid:=
 OpenClaim.holds_of_wide 4 Tryz.f4 rfl rfl rfl rfl rfl rfl rfl ⟨rfl,rfl,rfl,rfl,rfl⟩ rfl rfl rfl rfl rfl J1 func4 closed
  (B3 J1) (by unfold Func.isWrapper;first|(rw[if_pos (by decide+kernel)];kernel_rfl)|(rw[if_neg (by decide+kernel)];exact Z8))
  (λos d H enc _=>lifted os d H enc)
end Go.Proofs.YtcobnbfhkpbokaaGreat.fnAbort
