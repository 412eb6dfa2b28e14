/- The law 'FnExactCommitTxSaid' is proved: whatever the input, it returns true and leaves the input as it is; there is no condition. -/
import Derived.Test.YtokaojbaacnngaaGreatU6U20
namespace Go.Proofs.YtokaojbaacnngaaGreat.fnExactCommitTx
open Go.SS Go.RowKit
set_option maxRecDepth 100000
theorem d0Q{P:Program}{H:Type}{d:Nat}{t:TypeId}{x:DataW H}(hu:a1N P t=true):a7i P (d+1) t x= .int .i64 (dI x):=by
 unfold a7i;rw[s9 hu];unfold a1N at hu;split at hu
 ·rename_i hf;rw[hf];rfl
 ·cases hu
theorem data{H:Type}{W:World}{ds:List (DataW H)}(h:a1x Tryz.prog 7 [37,3] ds):∃ts,Z1 Tryz.prog 6 ts (.bool true)/\∀vs:Array Value,RdL (E0 W) W (a1p Tryz.prog 7 [37,3] ds) vs->RdL (E0 W) W ts vs:=by
 obtain⟨x,xs,rfl,hx,h⟩:=X1 h;obtain⟨x2,xs,rfl,hx2,h⟩:=X1 h;obtain rfl:=a62 h;obtain⟨nx2,rfl,_⟩:=d4w (d:=6) hx2 a0F;refine⟨_,c2H (b7h x) nx2 (d52 (d:=0) hx),fun vs hv=> ?_⟩
 have:a1p Tryz.prog 7 [37,3] [x,.lit (.int .i64 nx2)]=[a7i Tryz.prog 7 37 x,a7i Tryz.prog 7 3 (.lit (.int .i64 nx2))]:=rfl;rw[this,b54 (d:=6) b77,←N6 (d:=6) b77,d5Z (d:=0),d0Q (d:=6) a0F] at hv;exact hv
theorem lifted(os:Os)(started:os.Started)(H:Type)(enc:TypeId×Value->H):ReturnsInHanded {} Tryz.checked os 6 .any (Rows.fnExactCommitTxSpec.pre6 enc Tryz.prog Tryz.f6 Rows.fnExactCommitTxRow.domain false) (Rows.fnExactCommitTxSpec.post enc Tryz.prog Tryz.f6 false true false false):=by
 refine returnsInHanded_of_change (C:=Tryz.checked) own started (by kernel_rfl) Tryz.func6 (ChangeSpec.witness6 (enc:=enc) (C:=Tryz.checked) false ⟨#[], #[.agg #[.slice none 0 0,.slice none 0 0,.bool false,.slice none 0 0,.int .i64 0,.slice none 0 0,.int .i64 0,.slice none 0 0,.int .i64 0,.bool false,.slice none 0 0,.slice none 0 0,.slice none 0 0,.int .i64 0],.int .i64 0],[]⟩ 16 (by kernel_rfl) (by kernel_rfl) (by kernel_rfl) (by kernel_rfl)) ?_
 intro W base args ds gs before hval hW _ _;have hp:Tryz.f6.params.toList=[37,3]:=by kernel_rfl
 refine c9m 7 hval hW rfl (fun h=> ?_) (tb:=4) (by kernel_rfl) (by kernel_rfl) (by kernel_rfl) (fun h=> ?_)
 ·rw[hp] at h;obtain⟨x,xs,rfl,hx,h⟩:=X1 h;obtain⟨x2,xs,rfl,hx2,h⟩:=X1 h;obtain rfl:=a62 h;rfl
 ·rw[hp] at h ⊢;exact data h
theorem j0:(Rows.fnExactCommitTxRow.wf (OpenSpec.ofChange Rows.fnExactCommitTxSpec))=true:=by kernel_rfl
theorem j1:(laidOutB Tryz.checked.prog)=true:=by kernel_rfl
theorem j2:(mapsRowed Tryz.checked.prog)=true:=by kernel_rfl
theorem j9:((Rows.fnExactCommitTxRow.inPlace==Tryz.checked.prog.inPlace 6))=true:=by kernel_rfl
theorem j10:((Rows.fnExactCommitTxRow.unfollowed==Tryz.checked.prog.unfollowed 6))=true:=by kernel_rfl
theorem j11:((Rows.fnExactCommitTxRow.recurses==Tryz.checked.prog.recurses 6))=true:=by kernel_rfl
theorem j12:((Rows.fnExactCommitTxRow.named==Tryz.checked.prog.varsNamed 6))=true:=by kernel_rfl
theorem j22:((Rows.fnExactCommitTxRow.plainKeys==Tryz.checked.prog.plainKeys))=true:=by kernel_rfl
theorem j24:(Tryz.checked.prog.stopsHeard)=true:=by kernel_rfl
theorem j25:(Tryz.checked.prog.mayEnter)=true:=by kernel_rfl
theorem j26:((Rows.fnExactCommitTxRow.lifted==Tryz.checked.prog.liftsFinal))=true:=by kernel_rfl
theorem j27:((Tryz.checked.prog.make==some Rows.fnExactCommitTxRow.make))=true:=by kernel_rfl
theorem closed:joinedFacts Tryz.checked.prog 6 Tryz.f6 Rows.fnExactCommitTxSpec Rows.fnExactCommitTxRow=true:=
 d3V j0 j1 j2 (by kernel_rfl) (by kernel_rfl) (by kernel_rfl) (by kernel_rfl) (by kernel_rfl) (by kernel_rfl) j9 j10 j11 j12 (by kernel_rfl) (by kernel_rfl) (by kernel_rfl) (by kernel_rfl) (by kernel_rfl) (by kernel_rfl) (by kernel_rfl) (by kernel_rfl) (by kernel_rfl) j22 (by kernel_rfl) j24 j25 j26 j27 (by kernel_rfl) (by kernel_rfl) (by kernel_rfl) (by kernel_rfl)
theorem proved:Rows.FnExactCommitTxSaid:=
 OpenClaim.holds_of_wide 6 Tryz.f6 rfl rfl rfl rfl rfl rfl rfl ⟨rfl,rfl,rfl,rfl,rfl⟩ rfl rfl rfl rfl rfl (by kernel_rfl) Tryz.func6 closed
  (of_decide_eq_true (by kernel_rfl)) (by unfold Func.isWrapper;first|(rw[if_pos (by decide+kernel)];kernel_rfl)|(rw[if_neg (by decide+kernel)];exact⟨rfl,rfl⟩))
  (fun os started H enc _=>lifted os started H enc)
end Go.Proofs.YtokaojbaacnngaaGreat.fnExactCommitTx

