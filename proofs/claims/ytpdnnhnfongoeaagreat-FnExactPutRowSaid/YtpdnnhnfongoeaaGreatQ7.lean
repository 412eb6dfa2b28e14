/- The law 'FnExactPutRowSaid' is proved: whatever the input, it returns true and leaves the input as it is; there is no condition. -/
import Derived.Test.YtpdnnhnfongoeaaGreatP12
namespace Go.Proofs.YtpdnnhnfongoeaaGreat.fnExactPutRow
open Go.SS Go.RowKit Go.Proofs.Tryz
set_option maxRecDepth 100000
def b02{P:Program}{H:Type}{d:Nat}{t:TypeId}{x:DataW H}(h:pJ P t=true):eP P (d+1) t x= .int .i64 (dI x):=by
 unfold eP;rw[i3 h];unfold pJ at h;split at h
 ·rename_i f;rw[f];rfl
 ·cases h
def a2A{H:Type}(x:DataW H):Val:=⟨dI (I0 (U6 x) 0),dI (I0 (U6 x) 1),dS (I0 (U6 x) 2)⟩
def b5G{H:Type}(x:DataW H):Rw:=⟨dI (I0 (U6 x) 0),a2A (I0 (U6 x) 1),a2A (I0 (U6 x) 2)⟩
def c5b:H4 prog 66=some [3,3,9]:=R5
def c2d:H4 prog 68=some [3,66,66]:=R5
theorem a0M:lC prog 9=true:=R5
def c6p{H:Type}{d:Nat}(x:DataW H):xS prog (d+2) 66 x=(a2A x).ts:=by
 rw[K1 c5b];simp only[trA,i3 yP,a2D a0M,List.append_nil,List.cons_append,List.nil_append];rfl
def c8E{H:Type}{d:Nat}(x:DataW H):xS prog (d+3) 68 x=(b5G x).ts:=by
 rw[K1 c2d];simp only[trA,i3 yP,c6p];rfl
def b8G{H:Type}{d:Nat}{x:DataW H}(h:kW prog (d+2) 66 x):LmV (a2A x):=by
 obtain⟨xs,rfl,e⟩:=z4 h c5b;obtain⟨X,xs,rfl,_,e⟩:=W6 e;obtain⟨g,xs,rfl,_,e⟩:=W6 e;obtain⟨i,xs,rfl,f,e⟩:=W6 e;exact fK f
def c8D{H:Type}{d:Nat}{x:DataW H}(h:kW prog (d+3) 68 x):c12 (b5G x):=by
 obtain⟨xs,rfl,e⟩:=z4 h c2d;obtain⟨X,xs,rfl,_,e⟩:=W6 e;obtain⟨i,xs,rfl,g,e⟩:=W6 e;obtain⟨j,xs,rfl,f,e⟩:=W6 e;exact⟨b8G g,b8G f⟩
def data{H:Type}{W:World}{i:List (DataW H)}(h:pU prog 7 [37,3,3,68] i):∃ts,V4 prog 5 ts (.bool true)/\∀vs:Array Value,tC (E0 W) W (pP prog 7 [37,3,3,68] i) vs->tC (E0 W) W ts vs:=by
 obtain⟨x,xs,rfl,j,h⟩:=W6 h;obtain⟨o,xs,rfl,f,h⟩:=W6 h;obtain⟨l,xs,rfl,e,h⟩:=W6 h;obtain⟨X,xs,rfl,g,h⟩:=W6 h;obtain rfl:=a0l h;obtain⟨n,rfl,_⟩:=b5M (d:=6) f yP;obtain⟨N,rfl,_⟩:=b5M (d:=6) e yP;refine⟨_,a73 (a8b x) n N (b5G X) (c6f (d:=0) j) (c8D (d:=4) g),λvs hv=>?_⟩
 have:pP prog 7 [37,3,3,68] [x,.lit (.int .i64 n),.lit (.int .i64 N),X]=[eP prog 7 37 x,eP prog 7 3 (.lit (.int .i64 n)),eP prog 7 3 (.lit (.int .i64 N)),eP prog 7 68 X]:=rfl;rw[this,fC (d:=6) a9w,←K1 (d:=6) a9w,c6Z (d:=0),b02 (d:=6) yP,b02 (d:=6) yP,fC (d:=6) c2d,←K1 (d:=6) c2d,c8E (d:=4)] at hv;exact hv
def lifted(os:Os)(d:os.Started)(H:Type)(enc:TypeId×Value->H):ReturnsInHanded {} Tryz.checked os 5 .any (Rows.fnExactPutRowSpec.pre6 enc prog Tryz.f5 Rows.fnExactPutRowRow.domain false) (Rows.fnExactPutRowSpec.post enc prog Tryz.f5 false true false false):=by
 refine returnsInHanded_of_change (C:=Tryz.checked) own d R5 func5 (ChangeSpec.witness6 (enc:=enc) (C:=Tryz.checked) false ⟨#[], #[.agg #[.slice none 0 0,.slice none 0 0,.bool false,.slice none 0 0,.int .i64 0,.slice none 0 0,.int .i64 0,.slice none 0 0,.int .i64 0,.bool false,.slice none 0 0,.slice none 0 0,.slice none 0 0,.int .i64 0],.int .i64 0,.int .i64 0,.agg #[.int .i64 0,.int .i64 0,.int .i64 0,.string ⟨#[]⟩,.int .i64 0,.int .i64 0,.string ⟨#[]⟩]],[]⟩ 16 R5 R5 R5 R5) ?_
 intro W base args t r e l j _ _;have hp:Tryz.f5.params.toList=[37,3,3,68]:=R5
 refine c11 7 l j rfl (λh=>?_) (tb:=4) R5 R5 R5 (λh=>?_)
 ·rw[hp] at h;obtain⟨x,xs,rfl,q,h⟩:=W6 h;obtain⟨o,xs,rfl,g,h⟩:=W6 h;obtain⟨n,xs,rfl,f,h⟩:=W6 h;obtain⟨X,xs,rfl,i,h⟩:=W6 h;obtain rfl:=a0l h;rfl
 ·rw[hp] at h ⊢;exact data h
def j0:(Rows.fnExactPutRowRow.wf (OpenSpec.ofChange Rows.fnExactPutRowSpec))=true:=R5
def j1:(laidOutB Tryz.checked.prog)=true:=R5
def j2:(mapsRowed Tryz.checked.prog)=true:=R5
def j9:((Rows.fnExactPutRowRow.inPlace==Tryz.checked.prog.inPlace 5))=true:=R5
def j10:((Rows.fnExactPutRowRow.unfollowed==Tryz.checked.prog.unfollowed 5))=true:=R5
def j11:((Rows.fnExactPutRowRow.recurses==Tryz.checked.prog.recurses 5))=true:=R5
def j12:((Rows.fnExactPutRowRow.named==Tryz.checked.prog.varsNamed 5))=true:=R5
def j22:((Rows.fnExactPutRowRow.plainKeys==Tryz.checked.prog.plainKeys))=true:=R5
def j24:(Tryz.checked.prog.stopsHeard)=true:=R5
def j25:(Tryz.checked.prog.mayEnter)=true:=R5
def j26:((Rows.fnExactPutRowRow.lifted==Tryz.checked.prog.liftsFinal))=true:=R5
def j27:((Tryz.checked.prog.make==some Rows.fnExactPutRowRow.make))=true:=R5
def closed:joinedFacts Tryz.checked.prog 5 Tryz.f5 Rows.fnExactPutRowSpec Rows.fnExactPutRowRow=true:=
 c5H j0 j1 j2 R5 R5 R5 R5 R5 R5 j9 j10 j11 j12 R5 R5 R5 R5 R5 R5 R5 R5 R5 j22 R5 j24 j25 j26 j27 R5 R5 R5 R5
theorem proved:Rows.FnExactPutRowSaid:=
 OpenClaim.holds_of_wide 5 Tryz.f5 rfl rfl rfl rfl rfl rfl rfl ⟨rfl,rfl,rfl,rfl,rfl⟩ rfl rfl rfl rfl rfl R5 func5 closed
  (G7 R5) (by unfold Func.isWrapper;first|(rw[if_pos (by decide+kernel)];kernel_rfl)|(rw[if_neg (by decide+kernel)];exact Z8))
  (λos d H enc _=>lifted os d H enc)
end Go.Proofs.YtpdnnhnfongoeaaGreat.fnExactPutRow
