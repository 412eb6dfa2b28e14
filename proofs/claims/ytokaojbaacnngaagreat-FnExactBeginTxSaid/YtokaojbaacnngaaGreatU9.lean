/- The law 'FnExactBeginTxSaid' is proved: whatever the input, it returns true and leaves the input as it is; there is no condition. -/
import Derived.Test.YtokaojbaacnngaaGreatU8
namespace Go.Proofs.YtokaojbaacnngaaGreat.fnExactBeginTx
open Go.SS Go.RowKit
set_option maxRecDepth 100000
theorem data{H:Type}{W:World}{ds:List (DataW H)}(h:WfAll Tryz.prog 7 [37] ds):∃ts,PureFn Tryz.prog 4 ts (.bool true)/\∀vs:Array Value,RdL (E0 W) W (argTs Tryz.prog 7 [37] ds) vs->RdL (E0 W) W ts vs:=by
 obtain⟨x,xs,rfl,hx,h⟩:=wfAll_cons h;obtain rfl:=wfAll_nil h;refine⟨_,lawB_pure (decEng x) (lm_eng (d:=0) hx),fun vs hv=> ?_⟩
 have:argTs Tryz.prog 7 [37] [x]=[argT Tryz.prog 7 37 x]:=rfl;rw[this,arg_struct (d:=6) stEng,←tr_struct (d:=6) stEng,tr_eng (d:=0)] at hv;exact hv
theorem lifted(os:Os)(started:os.Started)(H:Type)(enc:TypeId×Value->H):ReturnsInHanded {} Tryz.checked os 4 .any (Rows.fnExactBeginTxSpec.pre6 enc Tryz.prog Tryz.f4 Rows.fnExactBeginTxRow.domain false) (Rows.fnExactBeginTxSpec.post enc Tryz.prog Tryz.f4 false true false false):=by
 refine returnsInHanded_of_change (C:=Tryz.checked) own started (by kernel_rfl) Tryz.func4 (ChangeSpec.witness6 (enc:=enc) (C:=Tryz.checked) false ⟨#[], #[.agg #[.slice none 0 0,.slice none 0 0,.bool false,.slice none 0 0,.int .i64 0,.slice none 0 0,.int .i64 0,.slice none 0 0,.int .i64 0,.bool false,.slice none 0 0,.slice none 0 0,.slice none 0 0,.int .i64 0]],[]⟩ 16 (by kernel_rfl) (by kernel_rfl) (by kernel_rfl) (by kernel_rfl)) ?_
 intro W base args ds gs before hval hW _ _;have hp:Tryz.f4.params.toList=[37]:=by kernel_rfl
 refine law_all 7 hval hW rfl (fun h=> ?_) (tb:=4) (by kernel_rfl) (by kernel_rfl) (by kernel_rfl) (fun h=> ?_)
 ·rw[hp] at h;obtain⟨x,xs,rfl,hx,h⟩:=wfAll_cons h;obtain rfl:=wfAll_nil h;rfl
 ·rw[hp] at h ⊢;exact data h
theorem j0:(Rows.fnExactBeginTxRow.wf (OpenSpec.ofChange Rows.fnExactBeginTxSpec))=true:=by kernel_rfl
theorem j1:(laidOutB Tryz.checked.prog)=true:=by kernel_rfl
theorem j2:(mapsRowed Tryz.checked.prog)=true:=by kernel_rfl
theorem j9:((Rows.fnExactBeginTxRow.inPlace==Tryz.checked.prog.inPlace 4))=true:=by kernel_rfl
theorem j10:((Rows.fnExactBeginTxRow.unfollowed==Tryz.checked.prog.unfollowed 4))=true:=by kernel_rfl
theorem j11:((Rows.fnExactBeginTxRow.recurses==Tryz.checked.prog.recurses 4))=true:=by kernel_rfl
theorem j12:((Rows.fnExactBeginTxRow.named==Tryz.checked.prog.varsNamed 4))=true:=by kernel_rfl
theorem j22:((Rows.fnExactBeginTxRow.plainKeys==Tryz.checked.prog.plainKeys))=true:=by kernel_rfl
theorem j24:(Tryz.checked.prog.stopsHeard)=true:=by kernel_rfl
theorem j25:(Tryz.checked.prog.mayEnter)=true:=by kernel_rfl
theorem j26:((Rows.fnExactBeginTxRow.lifted==Tryz.checked.prog.liftsFinal))=true:=by kernel_rfl
theorem j27:((Tryz.checked.prog.make==some Rows.fnExactBeginTxRow.make))=true:=by kernel_rfl
theorem closed:joinedFacts Tryz.checked.prog 4 Tryz.f4 Rows.fnExactBeginTxSpec Rows.fnExactBeginTxRow=true:=
 joined j0 j1 j2 (by kernel_rfl) (by kernel_rfl) (by kernel_rfl) (by kernel_rfl) (by kernel_rfl) (by kernel_rfl) j9 j10 j11 j12 (by kernel_rfl) (by kernel_rfl) (by kernel_rfl) (by kernel_rfl) (by kernel_rfl) (by kernel_rfl) (by kernel_rfl) (by kernel_rfl) (by kernel_rfl) j22 (by kernel_rfl) j24 j25 j26 j27 (by kernel_rfl) (by kernel_rfl) (by kernel_rfl) (by kernel_rfl)
theorem proved:Rows.FnExactBeginTxSaid:=
 OpenClaim.holds_of_wide 4 Tryz.f4 rfl rfl rfl rfl rfl rfl rfl ⟨rfl,rfl,rfl,rfl,rfl⟩ rfl rfl rfl rfl rfl (by kernel_rfl) Tryz.func4 closed
  (of_decide_eq_true (by kernel_rfl)) (by unfold Func.isWrapper;first|(rw[if_pos (by decide+kernel)];kernel_rfl)|(rw[if_neg (by decide+kernel)];exact⟨rfl,rfl⟩))
  (fun os started H enc _=>lifted os started H enc)
end Go.Proofs.YtokaojbaacnngaaGreat.fnExactBeginTx

