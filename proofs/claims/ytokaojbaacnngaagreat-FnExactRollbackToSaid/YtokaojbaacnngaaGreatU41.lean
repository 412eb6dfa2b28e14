/- The law 'FnExactRollbackToSaid' is proved: whatever the input, it returns true and leaves the input as it is; there is no condition. -/
import Derived.Test.YtokaojbaacnngaaGreatU6U40
namespace Go.Proofs.YtokaojbaacnngaaGreat.fnExactRollbackTo
open Go.SS Go.RowKit
set_option maxRecDepth 100000
theorem a5L{P:Program}{H:Type}{d:Nat}{t:TypeId}{x:DataW H}(hu:tQ P t=true):kF P (d+1) t x= .int .i64 (dI x):=by
 unfold kF;rw[i6 hu];unfold tQ at hu;split at hu
 ·rename_i hf;rw[hf];rfl
 ·cases hu
theorem data{H:Type}{W:World}{ds:List (DataW H)}(h:uF Tryz.prog 7 [37,3,3] ds):∃ts,U6 Tryz.prog 7 ts (.bool true)/\∀vs:Array Value,wU (E0 W) W (uB Tryz.prog 7 [37,3,3] ds) vs->wU (E0 W) W ts vs:=by
 obtain⟨x,xs,rfl,hx,h⟩:=W1 h;obtain⟨x2,xs,rfl,hx2,h⟩:=W1 h;obtain⟨x3,xs,rfl,hx3,h⟩:=W1 h;obtain rfl:=iD h;obtain⟨nx2,rfl,_⟩:=a9S (d:=6) hx2 zH;obtain⟨nx3,rfl,_⟩:=a9S (d:=6) hx3 zH;refine⟨_,a1M (a2m x) nx2 nx3 (b8m (d:=0) hx),λvs hv=> ?_⟩
 have:uB Tryz.prog 7 [37,3,3] [x,.lit (.int .i64 nx2),.lit (.int .i64 nx3)]=[kF Tryz.prog 7 37 x,kF Tryz.prog 7 3 (.lit (.int .i64 nx2)),kF Tryz.prog 7 3 (.lit (.int .i64 nx3))]:=rfl;rw[this,a3U (d:=6) a4X,←L7 (d:=6) a4X,b8k (d:=0),a5L (d:=6) zH,a5L (d:=6) zH] at hv;exact hv
theorem lifted(os:Os)(started:os.Started)(H:Type)(enc:TypeId×Value->H):ReturnsInHanded {} Tryz.checked os 7 .any (Rows.fnExactRollbackToSpec.pre6 enc Tryz.prog Tryz.f7 Rows.fnExactRollbackToRow.domain false) (Rows.fnExactRollbackToSpec.post enc Tryz.prog Tryz.f7 false true false false):=by
 refine returnsInHanded_of_change (C:=Tryz.checked) own started (by kernel_rfl) Tryz.func7 (ChangeSpec.witness6 (enc:=enc) (C:=Tryz.checked) false ⟨#[], #[.agg #[.slice none 0 0,.slice none 0 0,.bool false,.slice none 0 0,.int .i64 0,.slice none 0 0,.int .i64 0,.slice none 0 0,.int .i64 0,.bool false,.slice none 0 0,.slice none 0 0,.slice none 0 0,.int .i64 0],.int .i64 0,.int .i64 0],[]⟩ 16 (by kernel_rfl) (by kernel_rfl) (by kernel_rfl) (by kernel_rfl)) ?_
 intro W base args ds gs before hval hW _ _;have hp:Tryz.f7.params.toList=[37,3,3]:=by kernel_rfl
 refine b5d 7 hval hW rfl (λh=> ?_) (tb:=4) (by kernel_rfl) (by kernel_rfl) (by kernel_rfl) (λh=> ?_)
 ·rw[hp] at h;obtain⟨x,xs,rfl,hx,h⟩:=W1 h;obtain⟨x2,xs,rfl,hx2,h⟩:=W1 h;obtain⟨x3,xs,rfl,hx3,h⟩:=W1 h;obtain rfl:=iD h;rfl
 ·rw[hp] at h ⊢;exact data h
theorem j0:(Rows.fnExactRollbackToRow.wf (OpenSpec.ofChange Rows.fnExactRollbackToSpec))=true:=by kernel_rfl
theorem j1:(laidOutB Tryz.checked.prog)=true:=by kernel_rfl
theorem j2:(mapsRowed Tryz.checked.prog)=true:=by kernel_rfl
theorem j9:((Rows.fnExactRollbackToRow.inPlace==Tryz.checked.prog.inPlace 7))=true:=by kernel_rfl
theorem j10:((Rows.fnExactRollbackToRow.unfollowed==Tryz.checked.prog.unfollowed 7))=true:=by kernel_rfl
theorem j11:((Rows.fnExactRollbackToRow.recurses==Tryz.checked.prog.recurses 7))=true:=by kernel_rfl
theorem j12:((Rows.fnExactRollbackToRow.named==Tryz.checked.prog.varsNamed 7))=true:=by kernel_rfl
theorem j22:((Rows.fnExactRollbackToRow.plainKeys==Tryz.checked.prog.plainKeys))=true:=by kernel_rfl
theorem j24:(Tryz.checked.prog.stopsHeard)=true:=by kernel_rfl
theorem j25:(Tryz.checked.prog.mayEnter)=true:=by kernel_rfl
theorem j26:((Rows.fnExactRollbackToRow.lifted==Tryz.checked.prog.liftsFinal))=true:=by kernel_rfl
theorem j27:((Tryz.checked.prog.make==some Rows.fnExactRollbackToRow.make))=true:=by kernel_rfl
theorem closed:joinedFacts Tryz.checked.prog 7 Tryz.f7 Rows.fnExactRollbackToSpec Rows.fnExactRollbackToRow=true:=
 b8e j0 j1 j2 (by kernel_rfl) (by kernel_rfl) (by kernel_rfl) (by kernel_rfl) (by kernel_rfl) (by kernel_rfl) j9 j10 j11 j12 (by kernel_rfl) (by kernel_rfl) (by kernel_rfl) (by kernel_rfl) (by kernel_rfl) (by kernel_rfl) (by kernel_rfl) (by kernel_rfl) (by kernel_rfl) j22 (by kernel_rfl) j24 j25 j26 j27 (by kernel_rfl) (by kernel_rfl) (by kernel_rfl) (by kernel_rfl)
theorem proved:Rows.FnExactRollbackToSaid:=
 OpenClaim.holds_of_wide 7 Tryz.f7 rfl rfl rfl rfl rfl rfl rfl ⟨rfl,rfl,rfl,rfl,rfl⟩ rfl rfl rfl rfl rfl (by kernel_rfl) Tryz.func7 closed
  (F3 (by kernel_rfl)) (by unfold Func.isWrapper;first|(rw[if_pos (by decide+kernel)];kernel_rfl)|(rw[if_neg (by decide+kernel)];exact Z7))
  (λos started H enc _=>lifted os started H enc)
end Go.Proofs.YtokaojbaacnngaaGreat.fnExactRollbackTo

