/- The law 'FnExactCrashEngineSaid' is proved: whatever the input, it returns true and leaves the input as it is; there is no condition. -/
import Derived.Test.YtokaojbaacnngaaGreatU6U11
namespace Go.Proofs.YtokaojbaacnngaaGreat.fnExactCrashEngine
open Go.SS Go.RowKit
set_option maxRecDepth 100000
theorem arg_ints{H:Type}{d:Nat}(x:DataW H):argT Tryz.prog (d+2) 24 x=intS (decInts x):=by
 have hu:Tryz.prog.underlying 24=some (.slice 3):=by kernel_rfl
 unfold argT;rw[tr_ints,hu];rfl
theorem data{H:Type}{W:World}{ds:List (DataW H)}(h:WfAll Tryz.prog 7 [37,24] ds):∃ts,PureFn Tryz.prog 5 ts (.bool true)/\∀vs:Array Value,RdL (E0 W) W (argTs Tryz.prog 7 [37,24] ds) vs->RdL (E0 W) W ts vs:=by
 obtain⟨x,xs,rfl,hx,h⟩:=wfAll_cons h;obtain⟨x2,xs,rfl,hx2,h⟩:=wfAll_cons h;obtain rfl:=wfAll_nil h;refine⟨_,lawC_pure (decEng x) (decInts x2) (lm_eng (d:=0) hx),fun vs hv=> ?_⟩
 have:argTs Tryz.prog 7 [37,24] [x,x2]=[argT Tryz.prog 7 37 x,argT Tryz.prog 7 24 x2]:=rfl;rw[this,arg_struct (d:=6) stEng,←tr_struct (d:=6) stEng,tr_eng (d:=0),arg_ints (d:=5)] at hv;exact hv
theorem lifted(os:Os)(started:os.Started)(H:Type)(enc:TypeId×Value->H):ReturnsInHanded {} Tryz.checked os 5 .any (Rows.fnExactCrashEngineSpec.pre6 enc Tryz.prog Tryz.f5 Rows.fnExactCrashEngineRow.domain false) (Rows.fnExactCrashEngineSpec.post enc Tryz.prog Tryz.f5 false true false false):=by
 refine returnsInHanded_of_change (C:=Tryz.checked) own started (by kernel_rfl) Tryz.func5 (ChangeSpec.witness6 (enc:=enc) (C:=Tryz.checked) false ⟨#[], #[.agg #[.slice none 0 0,.slice none 0 0,.bool false,.slice none 0 0,.int .i64 0,.slice none 0 0,.int .i64 0,.slice none 0 0,.int .i64 0,.bool false,.slice none 0 0,.slice none 0 0,.slice none 0 0,.int .i64 0],.slice none 0 0],[]⟩ 16 (by kernel_rfl) (by kernel_rfl) (by kernel_rfl) (by kernel_rfl)) ?_
 intro W base args ds gs before hval hW _ _;have hp:Tryz.f5.params.toList=[37,24]:=by kernel_rfl
 refine law_all 7 hval hW rfl (fun h=> ?_) (tb:=4) (by kernel_rfl) (by kernel_rfl) (by kernel_rfl) (fun h=> ?_)
 ·rw[hp] at h;obtain⟨x,xs,rfl,hx,h⟩:=wfAll_cons h;obtain⟨x2,xs,rfl,hx2,h⟩:=wfAll_cons h;obtain rfl:=wfAll_nil h;rfl
 ·rw[hp] at h ⊢;exact data h
theorem j0:(Rows.fnExactCrashEngineRow.wf (OpenSpec.ofChange Rows.fnExactCrashEngineSpec))=true:=by kernel_rfl
theorem j1:(laidOutB Tryz.checked.prog)=true:=by kernel_rfl
theorem j2:(mapsRowed Tryz.checked.prog)=true:=by kernel_rfl
theorem j9:((Rows.fnExactCrashEngineRow.inPlace==Tryz.checked.prog.inPlace 5))=true:=by kernel_rfl
theorem j10:((Rows.fnExactCrashEngineRow.unfollowed==Tryz.checked.prog.unfollowed 5))=true:=by kernel_rfl
theorem j11:((Rows.fnExactCrashEngineRow.recurses==Tryz.checked.prog.recurses 5))=true:=by kernel_rfl
theorem j12:((Rows.fnExactCrashEngineRow.named==Tryz.checked.prog.varsNamed 5))=true:=by kernel_rfl
theorem j22:((Rows.fnExactCrashEngineRow.plainKeys==Tryz.checked.prog.plainKeys))=true:=by kernel_rfl
theorem j24:(Tryz.checked.prog.stopsHeard)=true:=by kernel_rfl
theorem j25:(Tryz.checked.prog.mayEnter)=true:=by kernel_rfl
theorem j26:((Rows.fnExactCrashEngineRow.lifted==Tryz.checked.prog.liftsFinal))=true:=by kernel_rfl
theorem j27:((Tryz.checked.prog.make==some Rows.fnExactCrashEngineRow.make))=true:=by kernel_rfl
theorem closed:joinedFacts Tryz.checked.prog 5 Tryz.f5 Rows.fnExactCrashEngineSpec Rows.fnExactCrashEngineRow=true:=
 joined j0 j1 j2 (by kernel_rfl) (by kernel_rfl) (by kernel_rfl) (by kernel_rfl) (by kernel_rfl) (by kernel_rfl) j9 j10 j11 j12 (by kernel_rfl) (by kernel_rfl) (by kernel_rfl) (by kernel_rfl) (by kernel_rfl) (by kernel_rfl) (by kernel_rfl) (by kernel_rfl) (by kernel_rfl) j22 (by kernel_rfl) j24 j25 j26 j27 (by kernel_rfl) (by kernel_rfl) (by kernel_rfl) (by kernel_rfl)
theorem proved:Rows.FnExactCrashEngineSaid:=
 OpenClaim.holds_of_wide 5 Tryz.f5 rfl rfl rfl rfl rfl rfl rfl ⟨rfl,rfl,rfl,rfl,rfl⟩ rfl rfl rfl rfl rfl (by kernel_rfl) Tryz.func5 closed
  (of_decide_eq_true (by kernel_rfl)) (by unfold Func.isWrapper;first|(rw[if_pos (by decide+kernel)];kernel_rfl)|(rw[if_neg (by decide+kernel)];exact⟨rfl,rfl⟩))
  (fun os started H enc _=>lifted os started H enc)
end Go.Proofs.YtokaojbaacnngaaGreat.fnExactCrashEngine

