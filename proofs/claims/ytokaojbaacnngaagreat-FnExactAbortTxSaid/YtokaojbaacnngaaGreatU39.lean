/- The law 'FnExactAbortTxSaid' is proved: whatever the input, it returns true and leaves the input as it is; there is no condition. -/
import Derived.Test.YtokaojbaacnngaaGreatU6U38
namespace Go.Proofs.YtokaojbaacnngaaGreat.fnExactAbortTx
open Go.SS Go.RowKit
set_option maxRecDepth 100000
theorem b53{P:Program}{H:Type}{d:Nat}{t:TypeId}{x:DataW H}(hu:sE P t=true):dU P (d+1) t x= .int .i64 (dI x):=by
 unfold dU;rw[zX hu];unfold sE at hu;split at hu
 ·rename_i hf;rw[hf];rfl
 ·cases hu
theorem data{H:Type}{W:World}{ds:List (DataW H)}(h:tR Tryz.prog 7 [37,3] ds):∃ts,U3 Tryz.prog 9 ts (.bool true)/\∀vs:Array Value,wQ (E0 W) W (tP Tryz.prog 7 [37,3] ds) vs->wQ (E0 W) W ts vs:=by
 obtain⟨x,xs,rfl,hx,h⟩:=V8 h;obtain⟨x2,xs,rfl,hx2,h⟩:=V8 h;obtain rfl:=hM h;obtain⟨nx2,rfl,_⟩:=b8d (d:=6) hx2 vT;refine⟨_,a2P (a4i x) nx2 (b91 (d:=0) hx),λvs hv=> ?_⟩
 have:tP Tryz.prog 7 [37,3] [x,.lit (.int .i64 nx2)]=[dU Tryz.prog 7 37 x,dU Tryz.prog 7 3 (.lit (.int .i64 nx2))]:=rfl;rw[this,a3R (d:=6) a5c,←L0 (d:=6) a5c,b9w (d:=0),b53 (d:=6) vT] at hv;exact hv
theorem lifted(os:Os)(started:os.Started)(H:Type)(enc:TypeId×Value->H):ReturnsInHanded {} Tryz.checked os 9 .any (Rows.fnExactAbortTxSpec.pre6 enc Tryz.prog Tryz.f9 Rows.fnExactAbortTxRow.domain false) (Rows.fnExactAbortTxSpec.post enc Tryz.prog Tryz.f9 false true false false):=by
 refine returnsInHanded_of_change (C:=Tryz.checked) own started (by kernel_rfl) Tryz.func9 (ChangeSpec.witness6 (enc:=enc) (C:=Tryz.checked) false ⟨#[], #[.agg #[.slice none 0 0,.slice none 0 0,.bool false,.slice none 0 0,.int .i64 0,.slice none 0 0,.int .i64 0,.slice none 0 0,.int .i64 0,.bool false,.slice none 0 0,.slice none 0 0,.slice none 0 0,.int .i64 0],.int .i64 0],[]⟩ 16 (by kernel_rfl) (by kernel_rfl) (by kernel_rfl) (by kernel_rfl)) ?_
 intro W base args ds gs before hval hW _ _;have hp:Tryz.f9.params.toList=[37,3]:=by kernel_rfl
 refine b5w 7 hval hW rfl (λh=> ?_) (tb:=4) (by kernel_rfl) (by kernel_rfl) (by kernel_rfl) (λh=> ?_)
 ·rw[hp] at h;obtain⟨x,xs,rfl,hx,h⟩:=V8 h;obtain⟨x2,xs,rfl,hx2,h⟩:=V8 h;obtain rfl:=hM h;rfl
 ·rw[hp] at h ⊢;exact data h
theorem j0:(Rows.fnExactAbortTxRow.wf (OpenSpec.ofChange Rows.fnExactAbortTxSpec))=true:=by kernel_rfl
theorem j1:(laidOutB Tryz.checked.prog)=true:=by kernel_rfl
theorem j2:(mapsRowed Tryz.checked.prog)=true:=by kernel_rfl
theorem j9:((Rows.fnExactAbortTxRow.inPlace==Tryz.checked.prog.inPlace 9))=true:=by kernel_rfl
theorem j10:((Rows.fnExactAbortTxRow.unfollowed==Tryz.checked.prog.unfollowed 9))=true:=by kernel_rfl
theorem j11:((Rows.fnExactAbortTxRow.recurses==Tryz.checked.prog.recurses 9))=true:=by kernel_rfl
theorem j12:((Rows.fnExactAbortTxRow.named==Tryz.checked.prog.varsNamed 9))=true:=by kernel_rfl
theorem j22:((Rows.fnExactAbortTxRow.plainKeys==Tryz.checked.prog.plainKeys))=true:=by kernel_rfl
theorem j24:(Tryz.checked.prog.stopsHeard)=true:=by kernel_rfl
theorem j25:(Tryz.checked.prog.mayEnter)=true:=by kernel_rfl
theorem j26:((Rows.fnExactAbortTxRow.lifted==Tryz.checked.prog.liftsFinal))=true:=by kernel_rfl
theorem j27:((Tryz.checked.prog.make==some Rows.fnExactAbortTxRow.make))=true:=by kernel_rfl
theorem closed:joinedFacts Tryz.checked.prog 9 Tryz.f9 Rows.fnExactAbortTxSpec Rows.fnExactAbortTxRow=true:=
 b9v j0 j1 j2 (by kernel_rfl) (by kernel_rfl) (by kernel_rfl) (by kernel_rfl) (by kernel_rfl) (by kernel_rfl) j9 j10 j11 j12 (by kernel_rfl) (by kernel_rfl) (by kernel_rfl) (by kernel_rfl) (by kernel_rfl) (by kernel_rfl) (by kernel_rfl) (by kernel_rfl) (by kernel_rfl) j22 (by kernel_rfl) j24 j25 j26 j27 (by kernel_rfl) (by kernel_rfl) (by kernel_rfl) (by kernel_rfl)
theorem proved:Rows.FnExactAbortTxSaid:=
 OpenClaim.holds_of_wide 9 Tryz.f9 rfl rfl rfl rfl rfl rfl rfl ⟨rfl,rfl,rfl,rfl,rfl⟩ rfl rfl rfl rfl rfl (by kernel_rfl) Tryz.func9 closed
  (E9 (by kernel_rfl)) (by unfold Func.isWrapper;first|(rw[if_pos (by decide+kernel)];kernel_rfl)|(rw[if_neg (by decide+kernel)];exact Z7))
  (λos started H enc _=>lifted os started H enc)
end Go.Proofs.YtokaojbaacnngaaGreat.fnExactAbortTx

