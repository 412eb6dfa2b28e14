/- The law 'FnDenoteSaid' is proved: whatever the input, it returns true and leaves the input as it is; there is no condition. -/
import Derived.Test.YtfmngblmdghccaaGreatK27
import Derived.Test.YtfmngblmdghccaaGreatSS13
import Derived.Test.YtfmngblmdghccaaGreatRows
import Derived.WalkKit
import Derived.ProofKit
import Derived.JoinedOf
import Derived.Handed
import Derived.WideWitness
namespace Go.Proofs.YtfmngblmdghccaaGreat
open Go.SS Go.RowKit
set_option maxRecDepth 100000
theorem own:ownKnob Tryz.prog.godebug=none:=by kernel_rfl
theorem joined{P:Program}{f:FuncId}{fn:Func}{s:ChangeSpec}{c:OpenClaim}(h0:c.wf (OpenSpec.ofChange s)=true)(h1:laidOutB P=true)(h2:mapsRowed P=true)
  (h3:fn.params.all (P.readableRec ·)=true) (h4:namedTie P c.named s.vars=true) (h5:(c.stops==[])=true) (h6:(P.stops==[])=true) (h7:(c.knobs==[])=true) (h8:(P.stopKnobs==[])=true)
  (h9:(c.inPlace==P.inPlace f)=true) (h10:(c.unfollowed==P.unfollowed f)=true) (h11:(c.recurses==P.recurses f)=true) (h12:(c.named==P.varsNamed f)=true)
  (h13:(c.maps==(fn.params.toList++s.plain.varTypes P).any (P.mapsRec ·))=true) (h14:(c.ifaces==(fn.params.toList++s.plain.varTypes P).any (P.ifacesRec ·))=true) (h15:(c.mapsOut==P.mapsAmong fn.resultTypes.toList)=true)
  (h16:(c.loops==(fn.params.toList++s.plain.varTypes P).any (P.loopsFrom ·))=true) (h17:(c.wideKeys==(fn.params.toList++s.plain.varTypes P++fn.resultTypes.toList).any (P.wideKeysFrom ·))=true)
  (h18:s.vars.all (P.varReadable ·)=true) (h19:fn.resultTypes.all (fun t=>P.readableRec t&&decide (t<P.types.size))=true) (h20:(c.ifacesOut==fn.resultTypes.toList.any (P.ifacesRec ·))=true)
  (h21:(c.loopsOut==fn.resultTypes.toList.any (P.loopsFrom ·))=true) (h22:(c.plainKeys==P.plainKeys)=true) (h23:c.shortTexts.isNone=true) (h24:P.stopsHeard=true) (h25:P.mayEnter=true)
  (h26:(c.lifted==P.liftsFinal)=true) (h27:(P.make==some c.make)=true) (h28:(c.kinds==(if c.domain.isEmpty then[] else fn.params.toList.map fun t=>match P.underlying t with|some (.int k)=>some k|_=>none))=true) (h29:(c.pinned==c.pinnedBy)=true)
  (h30:(c.veiled==(fn.params.toList++s.plain.varTypes P++fn.resultTypes.toList).any (P.veiledRec ·))=true) (h31:c.veiledFits P fn.params.toList (fn.params.toList++s.plain.varTypes P++fn.resultTypes.toList)=true):joinedFacts P f fn s c=true:=by
 simp only[joinedFacts,Bool.and_eq_true];exact⟨⟨⟨⟨⟨⟨⟨⟨⟨⟨⟨⟨⟨⟨⟨⟨⟨⟨⟨⟨⟨⟨⟨⟨⟨⟨⟨⟨⟨⟨⟨h0,h1⟩,h2⟩,h3⟩,h4⟩,h5⟩,h6⟩,h7⟩,h8⟩,h9⟩,h10⟩,h11⟩,h12⟩,h13⟩,h14⟩,h15⟩,h16⟩,h17⟩,h18⟩,h19⟩,h20⟩,h21⟩,h22⟩,h23⟩,h24⟩,h25⟩,h26⟩,h27⟩,h28⟩,h29⟩,h30⟩,h31⟩
end Go.Proofs.YtfmngblmdghccaaGreat
namespace Go.Proofs.YtfmngblmdghccaaGreat.fnDenote
open Go.SS Go.RowKit
set_option maxRecDepth 100000
def bytesT(P:Program)(t:TypeId):Bool:=match P.underlying t with
 |some (.slice e)=>(match P.underlying e with|some (.int .u8)=>true|_=>false)
 |_=>false
theorem arg_bys{P:Program}{H:Type}{d:Nat}{t:TypeId}{x:DataW H}(hu:bytesT P t=true):argT P (d+1) t x= .bys ((elemsD x).map trT.byD):=by
 unfold bytesT at hu;unfold argT trT;split at hu
 ·rename_i e hf;split at hu
  ·rename_i hg;rw[hf];simp only[hg];rfl
  ·cases hu
 ·cases hu
theorem data{H:Type}{W:World}{ds:List (DataW H)}(h:WfAll Tryz.prog 6 [22,22] ds):∃ts,PureFn Tryz.prog 3 ts (.bool true)/\∀vs:Array Value,RdL (E0 W) W (argTs Tryz.prog 6 [22,22] ds) vs->RdL (E0 W) W ts vs:=by
 obtain⟨x,xs,rfl,hx,h⟩:=wfAll_cons h;obtain⟨x2,xs,rfl,hx2,h⟩:=wfAll_cons h;obtain rfl:=wfAll_nil h;refine⟨_,lawN_pure ((elemsD x).map trT.byD) ((elemsD x2).map trT.byD),fun vs hv=> ?_⟩
 have:argTs Tryz.prog 6 [22,22] [x,x2]=[argT Tryz.prog 6 22 x,argT Tryz.prog 6 22 x2]:=rfl;rw[this,arg_bys (d:=5) (by kernel_rfl),arg_bys (d:=5) (by kernel_rfl)] at hv
 exact hv
theorem lifted(os:Os)(started:os.Started)(H:Type)(enc:TypeId×Value->H):ReturnsInHanded {} Tryz.checked os 3 .any (Rows.fnDenoteSpec.pre6 enc Tryz.prog Tryz.f3 Rows.fnDenoteRow.domain false) (Rows.fnDenoteSpec.post enc Tryz.prog Tryz.f3 false true false false):=by
 refine returnsInHanded_of_change (C:=Tryz.checked) own started (by kernel_rfl) Tryz.func3 (ChangeSpec.witness6 (enc:=enc) (C:=Tryz.checked) false ⟨#[], #[.slice none 0 0,.slice none 0 0],[]⟩ 16 (by kernel_rfl) (by kernel_rfl) (by kernel_rfl) (by kernel_rfl)) ?_
 intro W base args ds gs before hval hW _ _;have hp:Tryz.f3.params.toList=[22,22]:=by kernel_rfl
 refine law_all 6 hval hW rfl (fun h=> ?_) (tb:=4) (by kernel_rfl) (by kernel_rfl) (by kernel_rfl) (fun h=> ?_)
 ·rw[hp] at h;obtain⟨x,xs,rfl,hx,h⟩:=wfAll_cons h;obtain⟨x2,xs,rfl,hx2,h⟩:=wfAll_cons h;obtain rfl:=wfAll_nil h;rfl
 ·rw[hp] at h ⊢;exact data h
theorem j0:(Rows.fnDenoteRow.wf (OpenSpec.ofChange Rows.fnDenoteSpec))=true:=by kernel_rfl
theorem j1:(laidOutB Tryz.checked.prog)=true:=by kernel_rfl
theorem j2:(mapsRowed Tryz.checked.prog)=true:=by kernel_rfl
theorem j9:((Rows.fnDenoteRow.inPlace==Tryz.checked.prog.inPlace 3))=true:=by kernel_rfl
theorem j10:((Rows.fnDenoteRow.unfollowed==Tryz.checked.prog.unfollowed 3))=true:=by kernel_rfl
theorem j11:((Rows.fnDenoteRow.recurses==Tryz.checked.prog.recurses 3))=true:=by kernel_rfl
theorem j12:((Rows.fnDenoteRow.named==Tryz.checked.prog.varsNamed 3))=true:=by kernel_rfl
theorem j22:((Rows.fnDenoteRow.plainKeys==Tryz.checked.prog.plainKeys))=true:=by kernel_rfl
theorem j24:(Tryz.checked.prog.stopsHeard)=true:=by kernel_rfl
theorem j25:(Tryz.checked.prog.mayEnter)=true:=by kernel_rfl
theorem j26:((Rows.fnDenoteRow.lifted==Tryz.checked.prog.liftsFinal))=true:=by kernel_rfl
theorem j27:((Tryz.checked.prog.make==some Rows.fnDenoteRow.make))=true:=by kernel_rfl
theorem closed:joinedFacts Tryz.checked.prog 3 Tryz.f3 Rows.fnDenoteSpec Rows.fnDenoteRow=true:=
 joined j0 j1 j2 (by kernel_rfl) (by kernel_rfl) (by kernel_rfl) (by kernel_rfl) (by kernel_rfl) (by kernel_rfl) j9 j10 j11 j12 (by kernel_rfl) (by kernel_rfl) (by kernel_rfl) (by kernel_rfl) (by kernel_rfl) (by kernel_rfl) (by kernel_rfl) (by kernel_rfl) (by kernel_rfl) j22 (by kernel_rfl) j24 j25 j26 j27 (by kernel_rfl) (by kernel_rfl) (by kernel_rfl) (by kernel_rfl)
theorem proved:Rows.FnDenoteSaid:=
 OpenClaim.holds_of_wide 3 Tryz.f3 rfl rfl rfl rfl rfl rfl rfl ⟨rfl,rfl,rfl,rfl,rfl⟩ rfl rfl rfl rfl rfl (by kernel_rfl) Tryz.func3 closed
  (of_decide_eq_true (by kernel_rfl)) (by unfold Func.isWrapper;first|(rw[if_pos (by decide+kernel)];kernel_rfl)|(rw[if_neg (by decide+kernel)];exact⟨rfl,rfl⟩))
  (fun os started H enc _=>lifted os started H enc)
end Go.Proofs.YtfmngblmdghccaaGreat.fnDenote

