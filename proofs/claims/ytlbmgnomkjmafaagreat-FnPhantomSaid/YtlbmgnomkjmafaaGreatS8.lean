/- The law 'FnPhantomSaid' is proved: whatever the input, it returns true and leaves the input as it is; there is no condition. -/
import Derived.Test.YtlbmgnomkjmafaaGreatZ6e
import Derived.Test.YtlbmgnomkjmafaaGreatE4
import Derived.Test.YtlbmgnomkjmafaaGreatSS13
import Derived.Test.YtlbmgnomkjmafaaGreatRows
import Derived.WalkKit
import Derived.ProofKit
import Derived.JoinedOf
import Derived.Handed
import Derived.WideWitness
namespace Go.Proofs.YtlbmgnomkjmafaaGreat.fnPhantom
open Go.SS Go.RowKit Go.Proofs.Tryz
set_option maxRecDepth 100000
def wX(P:Program)(t:TypeId):Bool:=match P.underlying t with
 |some (.slice e)=>(match P.underlying e with|some (.int .u8)=>true|_=>false)
 |_=>false
theorem a8F{P:Program}{H:Type}{d:Nat}{t:TypeId}{x:DataW H}(hu:wX P t=true):a6G P (d+1) t x= .bys ((sV x).map trT.byD):=by
 unfold wX at hu;unfold a6G trT;split at hu
 ·rename_i e hf;split at hu
  ·rename_i h;rw[hf];simp only[h];rfl
  ·cases hu
 ·cases hu
theorem data{H:Type}{W:World}{e:List (DataW H)}(h:lJ prog 6 [22,22] e):∃ts,V2 prog 3 ts (.bool true)/\∀vs:Array Value,uJ (E0 W) W (rA prog 6 [22,22] e) vs->uJ (E0 W) W ts vs:=by
 obtain⟨x,xs,rfl,g,h⟩:=vI h;obtain⟨X,xs,rfl,f,h⟩:=vI h;obtain rfl:=aW h;refine⟨_,b02 ((sV x).map trT.byD) ((sV X).map trT.byD),λvs hv=>?_⟩
 have:rA prog 6 [22,22] [x,X]=[a6G prog 6 22 x,a6G prog 6 22 X]:=rfl;rw[this,a8F (d:=5) P9,a8F (d:=5) P9] at hv
 exact hv
theorem lifted(os:Os)(d:os.Started)(H:Type)(enc:TypeId×Value->H):ReturnsInHanded {} Tryz.checked os 3 .any (Rows.fnPhantomSpec.pre6 enc prog Tryz.f3 Rows.fnPhantomRow.domain false) (Rows.fnPhantomSpec.post enc prog Tryz.f3 false true false false):=by
 refine returnsInHanded_of_change (C:=Tryz.checked) own d P9 func3 (ChangeSpec.witness6 (enc:=enc) (C:=Tryz.checked) false ⟨#[], #[.slice none 0 0,.slice none 0 0],[]⟩ 16 P9 P9 P9 P9) ?_
 intro W base args n j e l g _ _;have hp:Tryz.f3.params.toList=[22,22]:=P9
 refine b8W 6 l g rfl (λh=>?_) (tb:=4) P9 P9 P9 (λh=>?_)
 ·rw[hp] at h;obtain⟨x,xs,rfl,i,h⟩:=vI h;obtain⟨X,xs,rfl,f,h⟩:=vI h;obtain rfl:=aW h;rfl
 ·rw[hp] at h ⊢;exact data h
theorem j0:(Rows.fnPhantomRow.wf (OpenSpec.ofChange Rows.fnPhantomSpec))=true:=P9
theorem j1:(laidOutB Tryz.checked.prog)=true:=P9
theorem j2:(mapsRowed Tryz.checked.prog)=true:=P9
theorem j9:((Rows.fnPhantomRow.inPlace==Tryz.checked.prog.inPlace 3))=true:=P9
theorem j10:((Rows.fnPhantomRow.unfollowed==Tryz.checked.prog.unfollowed 3))=true:=P9
theorem j11:((Rows.fnPhantomRow.recurses==Tryz.checked.prog.recurses 3))=true:=P9
theorem j12:((Rows.fnPhantomRow.named==Tryz.checked.prog.varsNamed 3))=true:=P9
theorem j22:((Rows.fnPhantomRow.plainKeys==Tryz.checked.prog.plainKeys))=true:=P9
theorem j24:(Tryz.checked.prog.stopsHeard)=true:=P9
theorem j25:(Tryz.checked.prog.mayEnter)=true:=P9
theorem j26:((Rows.fnPhantomRow.lifted==Tryz.checked.prog.liftsFinal))=true:=P9
theorem j27:((Tryz.checked.prog.make==some Rows.fnPhantomRow.make))=true:=P9
theorem closed:joinedFacts Tryz.checked.prog 3 Tryz.f3 Rows.fnPhantomSpec Rows.fnPhantomRow=true:=
 c17 j0 j1 j2 P9 P9 P9 P9 P9 P9 j9 j10 j11 j12 P9 P9 P9 P9 P9 P9 P9 P9 P9 j22 P9 j24 j25 j26 j27 P9 P9 P9 P9
theorem proved:Rows.FnPhantomSaid:=
 OpenClaim.holds_of_wide 3 Tryz.f3 rfl rfl rfl rfl rfl rfl rfl ⟨rfl,rfl,rfl,rfl,rfl⟩ rfl rfl rfl rfl rfl P9 func3 closed
  (D4 P9) (by unfold Func.isWrapper;first|(rw[if_pos (by decide+kernel)];kernel_rfl)|(rw[if_neg (by decide+kernel)];exact Z8))
  (λos d H enc _=>lifted os d H enc)
end Go.Proofs.YtlbmgnomkjmafaaGreat.fnPhantom
