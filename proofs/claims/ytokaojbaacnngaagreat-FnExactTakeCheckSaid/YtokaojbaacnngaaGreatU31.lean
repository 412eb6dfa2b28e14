/- The law 'FnExactTakeCheckSaid' is proved: whatever the input, it returns true and leaves the input as it is; there is no condition. -/
import Derived.Test.YtokaojbaacnngaaGreatU6U30
namespace Go.Proofs.YtokaojbaacnngaaGreat.fnExactTakeCheck
open Go.SS Go.RowKit
set_option maxRecDepth 100000
theorem data{H:Type}{W:World}{ds:List (DataW H)}(h:vO Tryz.prog 7 [37] ds):∃ts,Z2 Tryz.prog 8 ts (.bool true)/\∀vs:Array Value,xX (E0 W) W (vM Tryz.prog 7 [37] ds) vs->xX (E0 W) W ts vs:=by
 obtain⟨x,xs,rfl,hx,h⟩:=W2 h;obtain rfl:=fJ h;refine⟨_,b2P (a5M x) (c5f (d:=0) hx),fun vs hv=> ?_⟩
 have:vM Tryz.prog 7 [37] [x]=[b3A Tryz.prog 7 37 x]:=rfl;rw[this,a7L (d:=6) a9f,←N5 (d:=6) a9f,c5l (d:=0)] at hv;exact hv
theorem lifted(os:Os)(started:os.Started)(H:Type)(enc:TypeId×Value->H):ReturnsInHanded {} Tryz.checked os 8 .any (Rows.fnExactTakeCheckSpec.pre6 enc Tryz.prog Tryz.f8 Rows.fnExactTakeCheckRow.domain false) (Rows.fnExactTakeCheckSpec.post enc Tryz.prog Tryz.f8 false true false false):=by
 refine returnsInHanded_of_change (C:=Tryz.checked) own started (by kernel_rfl) Tryz.func8 (ChangeSpec.witness6 (enc:=enc) (C:=Tryz.checked) false ⟨#[], #[.agg #[.slice none 0 0,.slice none 0 0,.bool false,.slice none 0 0,.int .i64 0,.slice none 0 0,.int .i64 0,.slice none 0 0,.int .i64 0,.bool false,.slice none 0 0,.slice none 0 0,.slice none 0 0,.int .i64 0]],[]⟩ 16 (by kernel_rfl) (by kernel_rfl) (by kernel_rfl) (by kernel_rfl)) ?_
 intro W base args ds gs before hval hW _ _;have hp:Tryz.f8.params.toList=[37]:=by kernel_rfl
 refine c0W 7 hval hW rfl (fun h=> ?_) (tb:=4) (by kernel_rfl) (by kernel_rfl) (by kernel_rfl) (fun h=> ?_)
 ·rw[hp] at h;obtain⟨x,xs,rfl,hx,h⟩:=W2 h;obtain rfl:=fJ h;rfl
 ·rw[hp] at h ⊢;exact data h
theorem j0:(Rows.fnExactTakeCheckRow.wf (OpenSpec.ofChange Rows.fnExactTakeCheckSpec))=true:=by kernel_rfl
theorem j1:(laidOutB Tryz.checked.prog)=true:=by kernel_rfl
theorem j2:(mapsRowed Tryz.checked.prog)=true:=by kernel_rfl
theorem j9:((Rows.fnExactTakeCheckRow.inPlace==Tryz.checked.prog.inPlace 8))=true:=by kernel_rfl
theorem j10:((Rows.fnExactTakeCheckRow.unfollowed==Tryz.checked.prog.unfollowed 8))=true:=by kernel_rfl
theorem j11:((Rows.fnExactTakeCheckRow.recurses==Tryz.checked.prog.recurses 8))=true:=by kernel_rfl
theorem j12:((Rows.fnExactTakeCheckRow.named==Tryz.checked.prog.varsNamed 8))=true:=by kernel_rfl
theorem j22:((Rows.fnExactTakeCheckRow.plainKeys==Tryz.checked.prog.plainKeys))=true:=by kernel_rfl
theorem j24:(Tryz.checked.prog.stopsHeard)=true:=by kernel_rfl
theorem j25:(Tryz.checked.prog.mayEnter)=true:=by kernel_rfl
theorem j26:((Rows.fnExactTakeCheckRow.lifted==Tryz.checked.prog.liftsFinal))=true:=by kernel_rfl
theorem j27:((Tryz.checked.prog.make==some Rows.fnExactTakeCheckRow.make))=true:=by kernel_rfl
theorem closed:joinedFacts Tryz.checked.prog 8 Tryz.f8 Rows.fnExactTakeCheckSpec Rows.fnExactTakeCheckRow=true:=
 c45 j0 j1 j2 (by kernel_rfl) (by kernel_rfl) (by kernel_rfl) (by kernel_rfl) (by kernel_rfl) (by kernel_rfl) j9 j10 j11 j12 (by kernel_rfl) (by kernel_rfl) (by kernel_rfl) (by kernel_rfl) (by kernel_rfl) (by kernel_rfl) (by kernel_rfl) (by kernel_rfl) (by kernel_rfl) j22 (by kernel_rfl) j24 j25 j26 j27 (by kernel_rfl) (by kernel_rfl) (by kernel_rfl) (by kernel_rfl)
theorem proved:Rows.FnExactTakeCheckSaid:=
 OpenClaim.holds_of_wide 8 Tryz.f8 rfl rfl rfl rfl rfl rfl rfl ⟨rfl,rfl,rfl,rfl,rfl⟩ rfl rfl rfl rfl rfl (by kernel_rfl) Tryz.func8 closed
  (D8 (by kernel_rfl)) (by unfold Func.isWrapper;first|(rw[if_pos (by decide+kernel)];kernel_rfl)|(rw[if_neg (by decide+kernel)];exact⟨rfl,rfl⟩))
  (fun os started H enc _=>lifted os started H enc)
end Go.Proofs.YtokaojbaacnngaaGreat.fnExactTakeCheck

