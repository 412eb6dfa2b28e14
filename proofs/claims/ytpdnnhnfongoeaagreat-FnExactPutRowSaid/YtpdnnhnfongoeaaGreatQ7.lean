/- The law 'FnExactPutRowSaid' is proved: whatever the input, it returns true and leaves the input as it is; there is no condition. -/
import Derived.Test.YtpdnnhnfongoeaaGreatP12
namespace Go.Proofs.YtpdnnhnfongoeaaGreat.fnExactPutRow
open Go.SS Go.RowKit Go.Proofs.Tryz
set_option maxRecDepth 100000
theorem b03{P:Program}{H:Type}{d:Nat}{t:TypeId}{x:DataW H}(h:pI P t=true):eP P (d+1) t x= .int .i64 (dI x):=by
 unfold eP;rw[h9 h];unfold pI at h;split at h
 ·rename_i f;rw[f];rfl
 ·cases h
def a2B{H:Type}(x:DataW H):Val:=⟨dI (H8 (U6 x) 0),dI (H8 (U6 x) 1),dS (H8 (U6 x) 2)⟩
def b5H{H:Type}(x:DataW H):Rw:=⟨dI (H8 (U6 x) 0),a2B (H8 (U6 x) 1),a2B (H8 (U6 x) 2)⟩
theorem c5c:G9 prog 66=some [3,3,9]:=R4
theorem c2f:G9 prog 68=some [3,66,66]:=R4
theorem a0N:lC prog 9=true:=R4
theorem c6q{H:Type}{d:Nat}(x:DataW H):xR prog (d+2) 66 x=(a2B x).ts:=by
 rw[K0 c5c];simp only[trA,h9 yO,a2E a0N,List.append_nil,List.cons_append,List.nil_append];rfl
theorem c8F{H:Type}{d:Nat}(x:DataW H):xR prog (d+3) 68 x=(b5H x).ts:=by
 rw[K0 c2f];simp only[trA,h9 yO,c6q];rfl
theorem b8I{H:Type}{d:Nat}{x:DataW H}(h:kW prog (d+2) 66 x):LmV (a2B x):=by
 obtain⟨xs,rfl,e⟩:=y9 h c5c;obtain⟨X,xs,rfl,_,e⟩:=W6 e;obtain⟨g,xs,rfl,_,e⟩:=W6 e;obtain⟨i,xs,rfl,f,e⟩:=W6 e;exact fK f
theorem c8E{H:Type}{d:Nat}{x:DataW H}(h:kW prog (d+3) 68 x):c14 (b5H x):=by
 obtain⟨xs,rfl,e⟩:=y9 h c2f;obtain⟨X,xs,rfl,_,e⟩:=W6 e;obtain⟨i,xs,rfl,g,e⟩:=W6 e;obtain⟨j,xs,rfl,f,e⟩:=W6 e;exact⟨b8I g,b8I f⟩
theorem data{H:Type}{W:World}{i:List (DataW H)}(h:pT prog 7 [37,3,3,68] i):∃ts,V4 prog 5 ts (.bool true)/\∀vs:Array Value,tB (E0 W) W (pO prog 7 [37,3,3,68] i) vs->tB (E0 W) W ts vs:=by
 obtain⟨x,xs,rfl,j,h⟩:=W6 h;obtain⟨o,xs,rfl,f,h⟩:=W6 h;obtain⟨l,xs,rfl,e,h⟩:=W6 h;obtain⟨X,xs,rfl,g,h⟩:=W6 h;obtain rfl:=a0m h;obtain⟨n,rfl,_⟩:=b5N (d:=6) f yO;obtain⟨N,rfl,_⟩:=b5N (d:=6) e yO;refine⟨_,a74 (a8c x) n N (b5H X) (c6g (d:=0) j) (c8E (d:=4) g),λvs hv=>?_⟩
 have:pO prog 7 [37,3,3,68] [x,.lit (.int .i64 n),.lit (.int .i64 N),X]=[eP prog 7 37 x,eP prog 7 3 (.lit (.int .i64 n)),eP prog 7 3 (.lit (.int .i64 N)),eP prog 7 68 X]:=rfl;rw[this,fC (d:=6) a9x,←K0 (d:=6) a9x,c60 (d:=0),b03 (d:=6) yO,b03 (d:=6) yO,fC (d:=6) c2f,←K0 (d:=6) c2f,c8F (d:=4)] at hv;exact hv
theorem lifted(os:Os)(d:os.Started)(H:Type)(enc:TypeId×Value->H):ReturnsInHanded {} Tryz.checked os 5 .any (Rows.fnExactPutRowSpec.pre6 enc prog Tryz.f5 Rows.fnExactPutRowRow.domain false) (Rows.fnExactPutRowSpec.post enc prog Tryz.f5 false true false false):=by
 refine returnsInHanded_of_change (C:=Tryz.checked) own d R4 func5 (ChangeSpec.witness6 (enc:=enc) (C:=Tryz.checked) false ⟨#[], #[.agg #[.slice none 0 0,.slice none 0 0,.bool false,.slice none 0 0,.int .i64 0,.slice none 0 0,.int .i64 0,.slice none 0 0,.int .i64 0,.bool false,.slice none 0 0,.slice none 0 0,.slice none 0 0,.int .i64 0],.int .i64 0,.int .i64 0,.agg #[.int .i64 0,.int .i64 0,.int .i64 0,.string ⟨#[]⟩,.int .i64 0,.int .i64 0,.string ⟨#[]⟩]],[]⟩ 16 R4 R4 R4 R4) ?_
 intro W base args t r e l j _ _;have hp:Tryz.f5.params.toList=[37,3,3,68]:=R4
 refine c13 7 l j rfl (λh=>?_) (tb:=4) R4 R4 R4 (λh=>?_)
 ·rw[hp] at h;obtain⟨x,xs,rfl,q,h⟩:=W6 h;obtain⟨o,xs,rfl,g,h⟩:=W6 h;obtain⟨n,xs,rfl,f,h⟩:=W6 h;obtain⟨X,xs,rfl,i,h⟩:=W6 h;obtain rfl:=a0m h;rfl
 ·rw[hp] at h ⊢;exact data h
theorem j0:(Rows.fnExactPutRowRow.wf (OpenSpec.ofChange Rows.fnExactPutRowSpec))=true:=R4
theorem j1:(laidOutB Tryz.checked.prog)=true:=R4
theorem j2:(mapsRowed Tryz.checked.prog)=true:=R4
theorem j9:((Rows.fnExactPutRowRow.inPlace==Tryz.checked.prog.inPlace 5))=true:=R4
theorem j10:((Rows.fnExactPutRowRow.unfollowed==Tryz.checked.prog.unfollowed 5))=true:=R4
theorem j11:((Rows.fnExactPutRowRow.recurses==Tryz.checked.prog.recurses 5))=true:=R4
theorem j12:((Rows.fnExactPutRowRow.named==Tryz.checked.prog.varsNamed 5))=true:=R4
theorem j22:((Rows.fnExactPutRowRow.plainKeys==Tryz.checked.prog.plainKeys))=true:=R4
theorem j24:(Tryz.checked.prog.stopsHeard)=true:=R4
theorem j25:(Tryz.checked.prog.mayEnter)=true:=R4
theorem j26:((Rows.fnExactPutRowRow.lifted==Tryz.checked.prog.liftsFinal))=true:=R4
theorem j27:((Tryz.checked.prog.make==some Rows.fnExactPutRowRow.make))=true:=R4
theorem closed:joinedFacts Tryz.checked.prog 5 Tryz.f5 Rows.fnExactPutRowSpec Rows.fnExactPutRowRow=true:=
 c5I j0 j1 j2 R4 R4 R4 R4 R4 R4 j9 j10 j11 j12 R4 R4 R4 R4 R4 R4 R4 R4 R4 j22 R4 j24 j25 j26 j27 R4 R4 R4 R4
theorem proved:Rows.FnExactPutRowSaid:=
 OpenClaim.holds_of_wide 5 Tryz.f5 rfl rfl rfl rfl rfl rfl rfl ⟨rfl,rfl,rfl,rfl,rfl⟩ rfl rfl rfl rfl rfl R4 func5 closed
  (G5 R4) (by unfold Func.isWrapper;first|(rw[if_pos (by decide+kernel)];kernel_rfl)|(rw[if_neg (by decide+kernel)];exact Z7))
  (λos d H enc _=>lifted os d H enc)
end Go.Proofs.YtpdnnhnfongoeaaGreat.fnExactPutRow
