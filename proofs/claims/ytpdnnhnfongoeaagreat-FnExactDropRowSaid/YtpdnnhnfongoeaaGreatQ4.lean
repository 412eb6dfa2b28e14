/- The law 'FnExactDropRowSaid' is proved: whatever the input, it returns true and leaves the input as it is; there is no condition. -/
import Derived.Test.YtpdnnhnfongoeaaGreatP12
namespace Go.Proofs.YtpdnnhnfongoeaaGreat.fnExactDropRow
open Go.SS Go.RowKit Go.Proofs.Tryz
set_option maxRecDepth 100000
theorem a2n{P:Program}{H:Type}{d:Nat}{t:TypeId}{x:DataW H}(h:pK P t=true):eU P (d+1) t x= .int .i64 (dI x):=by
 unfold eU;rw[xG h];unfold pK at h;split at h
 ·rename_i f;rw[f];rfl
 ·cases h
theorem data{H:Type}{W:World}{j:List (DataW H)}(h:pU prog 7 [37,3,3,3] j):∃ts,V3 prog 4 ts (.bool true)/\∀vs:Array Value,tB (E0 W) W (pQ prog 7 [37,3,3,3] j) vs->tB (E0 W) W ts vs:=by
 obtain⟨x,xs,rfl,X,h⟩:=V6 h;obtain⟨q,xs,rfl,g,h⟩:=V6 h;obtain⟨o,xs,rfl,f,h⟩:=V6 h;obtain⟨l,xs,rfl,i,h⟩:=V6 h;obtain rfl:=a0h h;obtain⟨n,rfl,_⟩:=a6p (d:=6) g yR;obtain⟨e,rfl,_⟩:=a6p (d:=6) f yR;obtain⟨N,rfl,_⟩:=a6p (d:=6) i yR;refine⟨_,a78 (a76 x) n e N (c5T (d:=0) X),λvs hv=>?_⟩
 have:pQ prog 7 [37,3,3,3] [x,.lit (.int .i64 n),.lit (.int .i64 e),.lit (.int .i64 N)]=[eU prog 7 37 x,eU prog 7 3 (.lit (.int .i64 n)),eU prog 7 3 (.lit (.int .i64 e)),eU prog 7 3 (.lit (.int .i64 N))]:=rfl;rw[this,a60 (d:=6) a9u,←G9 (d:=6) a9u,c6B (d:=0),a2n (d:=6) yR,a2n (d:=6) yR,a2n (d:=6) yR] at hv;exact hv
theorem lifted(os:Os)(d:os.Started)(H:Type)(enc:TypeId×Value->H):ReturnsInHanded {} Tryz.checked os 4 .any (Rows.fnExactDropRowSpec.pre6 enc prog Tryz.f4 Rows.fnExactDropRowRow.domain false) (Rows.fnExactDropRowSpec.post enc prog Tryz.f4 false true false false):=by
 refine returnsInHanded_of_change (C:=Tryz.checked) own d R4 func4 (ChangeSpec.witness6 (enc:=enc) (C:=Tryz.checked) false ⟨#[], #[.agg #[.slice none 0 0,.slice none 0 0,.bool false,.slice none 0 0,.int .i64 0,.slice none 0 0,.int .i64 0,.slice none 0 0,.int .i64 0,.bool false,.slice none 0 0,.slice none 0 0,.slice none 0 0,.int .i64 0],.int .i64 0,.int .i64 0,.int .i64 0],[]⟩ 16 R4 R4 R4 R4) ?_
 intro W base args t r e l j _ _;have hp:Tryz.f4.params.toList=[37,3,3,3]:=R4
 refine c1Q 7 l j rfl (λh=>?_) (tb:=4) R4 R4 R4 (λh=>?_)
 ·rw[hp] at h;obtain⟨x,xs,rfl,q,h⟩:=V6 h;obtain⟨o,xs,rfl,g,h⟩:=V6 h;obtain⟨n,xs,rfl,f,h⟩:=V6 h;obtain⟨X,xs,rfl,i,h⟩:=V6 h;obtain rfl:=a0h h;rfl
 ·rw[hp] at h ⊢;exact data h
theorem j0:(Rows.fnExactDropRowRow.wf (OpenSpec.ofChange Rows.fnExactDropRowSpec))=true:=R4
theorem j1:(laidOutB Tryz.checked.prog)=true:=R4
theorem j2:(mapsRowed Tryz.checked.prog)=true:=R4
theorem j9:((Rows.fnExactDropRowRow.inPlace==Tryz.checked.prog.inPlace 4))=true:=R4
theorem j10:((Rows.fnExactDropRowRow.unfollowed==Tryz.checked.prog.unfollowed 4))=true:=R4
theorem j11:((Rows.fnExactDropRowRow.recurses==Tryz.checked.prog.recurses 4))=true:=R4
theorem j12:((Rows.fnExactDropRowRow.named==Tryz.checked.prog.varsNamed 4))=true:=R4
theorem j22:((Rows.fnExactDropRowRow.plainKeys==Tryz.checked.prog.plainKeys))=true:=R4
theorem j24:(Tryz.checked.prog.stopsHeard)=true:=R4
theorem j25:(Tryz.checked.prog.mayEnter)=true:=R4
theorem j26:((Rows.fnExactDropRowRow.lifted==Tryz.checked.prog.liftsFinal))=true:=R4
theorem j27:((Tryz.checked.prog.make==some Rows.fnExactDropRowRow.make))=true:=R4
theorem closed:joinedFacts Tryz.checked.prog 4 Tryz.f4 Rows.fnExactDropRowSpec Rows.fnExactDropRowRow=true:=
 c5m j0 j1 j2 R4 R4 R4 R4 R4 R4 j9 j10 j11 j12 R4 R4 R4 R4 R4 R4 R4 R4 R4 j22 R4 j24 j25 j26 j27 R4 R4 R4 R4
theorem proved:Rows.FnExactDropRowSaid:=
 OpenClaim.holds_of_wide 4 Tryz.f4 rfl rfl rfl rfl rfl rfl rfl ⟨rfl,rfl,rfl,rfl,rfl⟩ rfl rfl rfl rfl rfl R4 func4 closed
  (G6 R4) (by unfold Func.isWrapper;first|(rw[if_pos (by decide+kernel)];kernel_rfl)|(rw[if_neg (by decide+kernel)];exact Z8))
  (λos d H enc _=>lifted os d H enc)
end Go.Proofs.YtpdnnhnfongoeaaGreat.fnExactDropRow
