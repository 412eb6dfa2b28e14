/- The law 'FnApplySaid' is proved: whatever the input, it returns true and leaves the input as it is; there is no condition. -/
import Derived.Test.YtndilbkocjlgpaaGreatZ5Z6Z7Z8Z10Z11Z12Z13Z14Z16
import Derived.Test.YtndilbkocjlgpaaGreatX8
namespace Go.Proofs.YtndilbkocjlgpaaGreat.fnApply
open Go.SS Go.RowKit
set_option maxRecDepth 100000
def bytesT(P:Program)(t:TypeId):Bool:=match P.underlying t with
 |some (.slice e)=>(match P.underlying e with|some (.int .u8)=>true|_=>false)
 |_=>false
theorem arg_bys{P:Program}{H:Type}{d:Nat}{t:TypeId}{x:DataW H}(hu:bytesT P t=true):argT P (d+1) t x= .bys ((elemsD x).map trT.byD):=by
 unfold bytesT at hu;unfold argT trT;split at hu
 ·rename_i e hf;split at hu
  ·rename_i hg;rw[hf];simp only[hg];rfl
  ·cases hu
 ·cases hu
theorem data{H:Type}{W:World}{ds:List (DataW H)}(h:WfAll Tryz.prog 6 [22,22] ds):∃ts,PureFn Tryz.prog 6 ts (.bool true)/\∀vs:Array Value,RdL (E0 W) W (argTs Tryz.prog 6 [22,22] ds) vs->RdL (E0 W) W ts vs:=by
 obtain⟨x,xs,rfl,hx,h⟩:=wfAll_cons h;obtain⟨x2,xs,rfl,hx2,h⟩:=wfAll_cons h;obtain rfl:=wfAll_nil h;refine⟨_,lawA_pure ((elemsD x).map trT.byD) ((elemsD x2).map trT.byD),fun vs hv=> ?_⟩
 have:argTs Tryz.prog 6 [22,22] [x,x2]=[argT Tryz.prog 6 22 x,argT Tryz.prog 6 22 x2]:=rfl;rw[this,arg_bys (d:=5) (by kernel_rfl),arg_bys (d:=5) (by kernel_rfl)] at hv
 exact hv
theorem lifted(os:Os)(started:os.Started)(H:Type)(enc:TypeId×Value->H):ReturnsInHanded {} Tryz.checked os 6 .any (Rows.fnApplySpec.pre6 enc Tryz.prog Tryz.f6 Rows.fnApplyRow.domain false) (Rows.fnApplySpec.post enc Tryz.prog Tryz.f6 false true false false):=by
 refine returnsInHanded_of_change (C:=Tryz.checked) own started (by kernel_rfl) Tryz.func6 (ChangeSpec.witness6 (enc:=enc) (C:=Tryz.checked) false ⟨#[], #[.slice none 0 0,.slice none 0 0],[]⟩ 16 (by kernel_rfl) (by kernel_rfl) (by kernel_rfl) (by kernel_rfl)) ?_
 intro W base args ds gs before hval hW _ _;have hp:Tryz.f6.params.toList=[22,22]:=by kernel_rfl
 refine law_all 6 hval hW rfl (fun h=> ?_) (tb:=4) (by kernel_rfl) (by kernel_rfl) (by kernel_rfl) (fun h=> ?_)
 ·rw[hp] at h;obtain⟨x,xs,rfl,hx,h⟩:=wfAll_cons h;obtain⟨x2,xs,rfl,hx2,h⟩:=wfAll_cons h;obtain rfl:=wfAll_nil h;rfl
 ·rw[hp] at h ⊢;exact data h
theorem j0:(Rows.fnApplyRow.wf (OpenSpec.ofChange Rows.fnApplySpec))=true:=by kernel_rfl
theorem j1:(laidOutB Tryz.checked.prog)=true:=by kernel_rfl
theorem j2:(mapsRowed Tryz.checked.prog)=true:=by kernel_rfl
theorem j9:((Rows.fnApplyRow.inPlace==Tryz.checked.prog.inPlace 6))=true:=by kernel_rfl
theorem j10:((Rows.fnApplyRow.unfollowed==Tryz.checked.prog.unfollowed 6))=true:=by kernel_rfl
theorem j11:((Rows.fnApplyRow.recurses==Tryz.checked.prog.recurses 6))=true:=by kernel_rfl
theorem j12:((Rows.fnApplyRow.named==Tryz.checked.prog.varsNamed 6))=true:=by kernel_rfl
theorem j22:((Rows.fnApplyRow.plainKeys==Tryz.checked.prog.plainKeys))=true:=by kernel_rfl
theorem j24:(Tryz.checked.prog.stopsHeard)=true:=by kernel_rfl
theorem j25:(Tryz.checked.prog.mayEnter)=true:=by kernel_rfl
theorem j26:((Rows.fnApplyRow.lifted==Tryz.checked.prog.liftsFinal))=true:=by kernel_rfl
theorem j27:((Tryz.checked.prog.make==some Rows.fnApplyRow.make))=true:=by kernel_rfl
theorem closed:joinedFacts Tryz.checked.prog 6 Tryz.f6 Rows.fnApplySpec Rows.fnApplyRow=true:=
 joined j0 j1 j2 (by kernel_rfl) (by kernel_rfl) (by kernel_rfl) (by kernel_rfl) (by kernel_rfl) (by kernel_rfl) j9 j10 j11 j12 (by kernel_rfl) (by kernel_rfl) (by kernel_rfl) (by kernel_rfl) (by kernel_rfl) (by kernel_rfl) (by kernel_rfl) (by kernel_rfl) (by kernel_rfl) j22 (by kernel_rfl) j24 j25 j26 j27 (by kernel_rfl) (by kernel_rfl) (by kernel_rfl) (by kernel_rfl)
theorem proved:Rows.FnApplySaid:=
 OpenClaim.holds_of_wide 6 Tryz.f6 rfl rfl rfl rfl rfl rfl rfl ⟨rfl,rfl,rfl,rfl,rfl⟩ rfl rfl rfl rfl rfl (by kernel_rfl) Tryz.func6 closed
  (of_decide_eq_true (by kernel_rfl)) (by unfold Func.isWrapper;first|(rw[if_pos (by decide+kernel)];kernel_rfl)|(rw[if_neg (by decide+kernel)];exact⟨rfl,rfl⟩))
  (fun os started H enc _=>lifted os started H enc)
end Go.Proofs.YtndilbkocjlgpaaGreat.fnApply

