/- The law 'FnNeedsSaid' is proved: whatever the input, it returns true and leaves the input as it is; there is no condition. -/
import Derived.Test.YtghgljelnhfihaaGreatN13N14
namespace Go.Proofs.YtghgljelnhfihaaGreat.fnNeeds
open Go.SS Go.RowKit
set_option maxRecDepth 100000
def xR(P:Program)(t:TypeId):Bool:=match P.underlying t with
 |some (.slice e)=>(match P.underlying e with|some (.int .u8)=>true|_=>false)
 |_=>false
theorem b4I{P:Program}{H:Type}{d:Nat}{t:TypeId}{x:DataW H}(hu:xR P t=true):a8E P (d+1) t x= .bys ((rM x).map trT.byD):=by
 unfold xR at hu;unfold a8E trT;split at hu
 ·rename_i e hf;split at hu
  ·rename_i hg;rw[hf];simp only[hg];rfl
  ·cases hu
 ·cases hu
theorem data{H:Type}{W:World}{ds:List (DataW H)}(h:oC Tryz.prog 6 [22] ds):∃ts,U1 Tryz.prog 3 ts (.bool true)/\∀vs:Array Value,vB (E0 W) W (sT Tryz.prog 6 [22] ds) vs->vB (E0 W) W ts vs:=by
 obtain⟨x,xs,rfl,hx,h⟩:=lY h;obtain rfl:=fD h;refine⟨_,a8O ((rM x).map trT.byD),λvs hv=> ?_⟩
 have:sT Tryz.prog 6 [22] [x]=[a8E Tryz.prog 6 22 x]:=rfl;rw[this,b4I (d:=5) (by kernel_rfl)] at hv
 exact hv
theorem lifted(os:Os)(started:os.Started)(H:Type)(enc:TypeId×Value->H):ReturnsInHanded {} Tryz.checked os 3 .any (Rows.fnNeedsSpec.pre6 enc Tryz.prog Tryz.f3 Rows.fnNeedsRow.domain false) (Rows.fnNeedsSpec.post enc Tryz.prog Tryz.f3 false true false false):=by
 refine returnsInHanded_of_change (C:=Tryz.checked) own started (by kernel_rfl) Tryz.func3 (ChangeSpec.witness6 (enc:=enc) (C:=Tryz.checked) false ⟨#[], #[.slice none 0 0],[]⟩ 16 (by kernel_rfl) (by kernel_rfl) (by kernel_rfl) (by kernel_rfl)) ?_
 intro W base args ds gs before hval hW _ _;have hp:Tryz.f3.params.toList=[22]:=by kernel_rfl
 refine b5d 6 hval hW rfl (λh=> ?_) (tb:=4) (by kernel_rfl) (by kernel_rfl) (by kernel_rfl) (λh=> ?_)
 ·rw[hp] at h;obtain⟨x,xs,rfl,hx,h⟩:=lY h;obtain rfl:=fD h;rfl
 ·rw[hp] at h ⊢;exact data h
theorem j0:(Rows.fnNeedsRow.wf (OpenSpec.ofChange Rows.fnNeedsSpec))=true:=by kernel_rfl
theorem j1:(laidOutB Tryz.checked.prog)=true:=by kernel_rfl
theorem j2:(mapsRowed Tryz.checked.prog)=true:=by kernel_rfl
theorem j9:((Rows.fnNeedsRow.inPlace==Tryz.checked.prog.inPlace 3))=true:=by kernel_rfl
theorem j10:((Rows.fnNeedsRow.unfollowed==Tryz.checked.prog.unfollowed 3))=true:=by kernel_rfl
theorem j11:((Rows.fnNeedsRow.recurses==Tryz.checked.prog.recurses 3))=true:=by kernel_rfl
theorem j12:((Rows.fnNeedsRow.named==Tryz.checked.prog.varsNamed 3))=true:=by kernel_rfl
theorem j22:((Rows.fnNeedsRow.plainKeys==Tryz.checked.prog.plainKeys))=true:=by kernel_rfl
theorem j24:(Tryz.checked.prog.stopsHeard)=true:=by kernel_rfl
theorem j25:(Tryz.checked.prog.mayEnter)=true:=by kernel_rfl
theorem j26:((Rows.fnNeedsRow.lifted==Tryz.checked.prog.liftsFinal))=true:=by kernel_rfl
theorem j27:((Tryz.checked.prog.make==some Rows.fnNeedsRow.make))=true:=by kernel_rfl
theorem closed:joinedFacts Tryz.checked.prog 3 Tryz.f3 Rows.fnNeedsSpec Rows.fnNeedsRow=true:=
 b7K j0 j1 j2 (by kernel_rfl) (by kernel_rfl) (by kernel_rfl) (by kernel_rfl) (by kernel_rfl) (by kernel_rfl) j9 j10 j11 j12 (by kernel_rfl) (by kernel_rfl) (by kernel_rfl) (by kernel_rfl) (by kernel_rfl) (by kernel_rfl) (by kernel_rfl) (by kernel_rfl) (by kernel_rfl) j22 (by kernel_rfl) j24 j25 j26 j27 (by kernel_rfl) (by kernel_rfl) (by kernel_rfl) (by kernel_rfl)
theorem proved:Rows.FnNeedsSaid:=
 OpenClaim.holds_of_wide 3 Tryz.f3 rfl rfl rfl rfl rfl rfl rfl ⟨rfl,rfl,rfl,rfl,rfl⟩ rfl rfl rfl rfl rfl (by kernel_rfl) Tryz.func3 closed
  (C7 (by kernel_rfl)) (by unfold Func.isWrapper;first|(rw[if_pos (by decide+kernel)];kernel_rfl)|(rw[if_neg (by decide+kernel)];exact Z8))
  (λos started H enc _=>lifted os started H enc)
end Go.Proofs.YtghgljelnhfihaaGreat.fnNeeds

