/- The law 'FnRowsSaid' is proved: whatever the input, it returns true and leaves the input as it is; there is no condition. -/
import Derived.Test.YtlbmgnomkjmafaaGreatT5
import Derived.Test.YtlbmgnomkjmafaaGreatE4
import Derived.Test.YtlbmgnomkjmafaaGreatSS13
import Derived.Test.YtlbmgnomkjmafaaGreatRows
import Derived.WalkKit
import Derived.ProofKit
import Derived.JoinedOf
import Derived.Handed
import Derived.WideWitness
namespace Go.Proofs.YtlbmgnomkjmafaaGreat.fnRows
open Go.SS Go.RowKit Go.Proofs.Tryz
set_option maxRecDepth 100000
def wM(P:Program)(t:TypeId):Bool:=match P.underlying t with
 |some (.slice e)=>(match P.underlying e with|some (.int .u8)=>true|_=>false)
 |_=>false
theorem a8Y{P:Program}{H:Type}{d:Nat}{t:TypeId}{x:DataW H}(hu:wM P t=true):a6T P (d+1) t x= .bys ((sB x).map trT.byD):=by
 unfold wM at hu;unfold a6T trT;split at hu
 ·rename_i e hf;split at hu
  ·rename_i h;rw[hf];simp only[h];rfl
  ·cases hu
 ·cases hu
theorem data{H:Type}{W:World}{e:List (DataW H)}(h:kL prog 6 [22,22] e):∃ts,V4 prog 4 ts (.bool true)/\∀vs:Array Value,tT (E0 W) W (qF prog 6 [22,22] e) vs->tT (E0 W) W ts vs:=by
 obtain⟨x,xs,rfl,hx,h⟩:=uR h;obtain⟨X,xs,rfl,f,h⟩:=uR h;obtain rfl:=aI h;refine⟨_,b2B ((sB x).map trT.byD) ((sB X).map trT.byD),λvs hv=>?_⟩
 have:qF prog 6 [22,22] [x,X]=[a6T prog 6 22 x,a6T prog 6 22 X]:=rfl;rw[this,a8Y (d:=5) O0,a8Y (d:=5) O0] at hv
 exact hv
theorem lifted(os:Os)(d:os.Started)(H:Type)(enc:TypeId×Value->H):ReturnsInHanded {} Tryz.checked os 4 .any (Rows.fnRowsSpec.pre6 enc prog Tryz.f4 Rows.fnRowsRow.domain false) (Rows.fnRowsSpec.post enc prog Tryz.f4 false true false false):=by
 refine returnsInHanded_of_change (C:=Tryz.checked) own d O0 func4 (ChangeSpec.witness6 (enc:=enc) (C:=Tryz.checked) false ⟨#[], #[.slice none 0 0,.slice none 0 0],[]⟩ 16 O0 O0 O0 O0) ?_
 intro W base args j i e l g _ _;have hp:Tryz.f4.params.toList=[22,22]:=O0
 refine b9x 6 l g rfl (λh=>?_) (tb:=4) O0 O0 O0 (λh=>?_)
 ·rw[hp] at h;obtain⟨x,xs,rfl,hx,h⟩:=uR h;obtain⟨X,xs,rfl,f,h⟩:=uR h;obtain rfl:=aI h;rfl
 ·rw[hp] at h ⊢;exact data h
theorem j0:(Rows.fnRowsRow.wf (OpenSpec.ofChange Rows.fnRowsSpec))=true:=O0
theorem j1:(laidOutB Tryz.checked.prog)=true:=O0
theorem j2:(mapsRowed Tryz.checked.prog)=true:=O0
theorem j9:((Rows.fnRowsRow.inPlace==Tryz.checked.prog.inPlace 4))=true:=O0
theorem j10:((Rows.fnRowsRow.unfollowed==Tryz.checked.prog.unfollowed 4))=true:=O0
theorem j11:((Rows.fnRowsRow.recurses==Tryz.checked.prog.recurses 4))=true:=O0
theorem j12:((Rows.fnRowsRow.named==Tryz.checked.prog.varsNamed 4))=true:=O0
theorem j22:((Rows.fnRowsRow.plainKeys==Tryz.checked.prog.plainKeys))=true:=O0
theorem j24:(Tryz.checked.prog.stopsHeard)=true:=O0
theorem j25:(Tryz.checked.prog.mayEnter)=true:=O0
theorem j26:((Rows.fnRowsRow.lifted==Tryz.checked.prog.liftsFinal))=true:=O0
theorem j27:((Tryz.checked.prog.make==some Rows.fnRowsRow.make))=true:=O0
theorem closed:joinedFacts Tryz.checked.prog 4 Tryz.f4 Rows.fnRowsSpec Rows.fnRowsRow=true:=
 c2U j0 j1 j2 O0 O0 O0 O0 O0 O0 j9 j10 j11 j12 O0 O0 O0 O0 O0 O0 O0 O0 O0 j22 O0 j24 j25 j26 j27 O0 O0 O0 O0
theorem proved:Rows.FnRowsSaid:=
 OpenClaim.holds_of_wide 4 Tryz.f4 rfl rfl rfl rfl rfl rfl rfl ⟨rfl,rfl,rfl,rfl,rfl⟩ rfl rfl rfl rfl rfl O0 func4 closed
  (E4 O0) (by unfold Func.isWrapper;first|(rw[if_pos (by decide+kernel)];kernel_rfl)|(rw[if_neg (by decide+kernel)];exact Z8))
  (λos d H enc _=>lifted os d H enc)
end Go.Proofs.YtlbmgnomkjmafaaGreat.fnRows
