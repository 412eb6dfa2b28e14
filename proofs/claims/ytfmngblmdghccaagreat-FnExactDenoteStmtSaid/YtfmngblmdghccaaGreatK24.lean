/- The law 'FnExactDenoteStmtSaid' is proved: whatever the input, it returns true and leaves the input as it is; there is no condition. -/
import Derived.Test.YtfmngblmdghccaaGreatK23
import Derived.Test.YtfmngblmdghccaaGreatSS13
import Derived.Test.YtfmngblmdghccaaGreatRows
import Derived.WalkKit
import Derived.ProofKit
import Derived.JoinedOf
import Derived.Handed
import Derived.WideWitness
namespace Go.Proofs.YtfmngblmdghccaaGreat
open Go.SS Go.RowKit
set_option maxRecDepth 100000
theorem hiInt:isIntT Tryz.prog 3=true:=by kernel_rfl
theorem hiStr:isStrT Tryz.prog 9=true:=by kernel_rfl
theorem hiBool:isBoolT Tryz.prog 4=true:=by kernel_rfl
theorem wf_len{H:Type}{d:Nat}{x:DataW H}(h:wfD Tryz.prog (d+1) 9 x):(dS x).length<=9223372036854775807:=by
 obtain⟨l,rfl,hl⟩:=wf_str h hiStr;exact hl
def decVal{H:Type}(x:DataW H):Val:=⟨dI (nthD (partsD x) 0),dI (nthD (partsD x) 1),dS (nthD (partsD x) 2)⟩
def decRw{H:Type}(x:DataW H):Rw:=⟨dI (nthD (partsD x) 0),decVal (nthD (partsD x) 1),decVal (nthD (partsD x) 2)⟩
def decRws{H:Type}(x:DataW H):List Rw:=(elemsD x).map decRw
def decNd{H:Type}(x:DataW H):Nd:=⟨dI (nthD (partsD x) 0),dI (nthD (partsD x) 1),dI (nthD (partsD x) 2),dI (nthD (partsD x) 3),decVal (nthD (partsD x) 4)⟩
def decNds{H:Type}(x:DataW H):List Nd:=(elemsD x).map decNd
def decEx{H:Type}(x:DataW H):List Nd:=decNds (nthD (partsD x) 0)
def decStm{H:Type}(x:DataW H):Stm:=⟨dI (nthD (partsD x) 0),dI (nthD (partsD x) 1),decRw (nthD (partsD x) 2),dI (nthD (partsD x) 3),decEx (nthD (partsD x) 4),decEx (nthD (partsD x) 5),dI (nthD (partsD x) 6),dB (nthD (partsD x) 7)⟩
theorem stVal:structT Tryz.prog 42=some [3,3,9]:=by kernel_rfl
theorem stRw:structT Tryz.prog 44=some [3,42,42]:=by kernel_rfl
theorem stNd:structT Tryz.prog 132=some [3,3,3,3,42]:=by kernel_rfl
theorem stEx:structT Tryz.prog 47=some [45]:=by kernel_rfl
theorem stStm:structT Tryz.prog 49=some [3,3,44,3,47,47,3,4]:=by kernel_rfl
theorem slRw:sliceT Tryz.prog 41=some 44:=by kernel_rfl
theorem slNd:sliceT Tryz.prog 45=some 132:=by kernel_rfl
theorem tr_val{H:Type}{d:Nat}(x:DataW H):trT Tryz.prog (d+2) 42 x=(decVal x).ts:=by
 rw[tr_struct stVal];simp only[trA,tr_int hiInt,tr_str hiStr,List.append_nil,List.cons_append,List.nil_append];rfl
theorem tr_rw{H:Type}{d:Nat}(x:DataW H):trT Tryz.prog (d+3) 44 x=(decRw x).ts:=by
 rw[tr_struct stRw];simp only[trA,tr_int hiInt,tr_val];rfl
theorem tr_nd{H:Type}{d:Nat}(x:DataW H):trT Tryz.prog (d+3) 132 x=(decNd x).ts:=by
 rw[tr_struct stNd];simp only[trA,tr_int hiInt,tr_val];rfl
theorem tr_rws{H:Type}{d:Nat}(x:DataW H):trT Tryz.prog (d+4) 41 x=[rwS (decRws x)]:=by
 rw[tr_slice slRw (by kernel_rfl),show Tryz.prog.cellsOf 44=7 by kernel_rfl]
 unfold rwS decRws;rw[List.length_map];congr 2
 funext i
 rw[tr_rw];exact congrArg Rw.ts (map_getD decRw (elemsD x) i (d:=.nil) (d':=default) rfl).symm
theorem tr_nds{H:Type}{d:Nat}(x:DataW H):trT Tryz.prog (d+4) 45 x=[ndS (decNds x)]:=by
 rw[tr_slice slNd (by kernel_rfl),show Tryz.prog.cellsOf 132=7 by kernel_rfl]
 unfold ndS decNds;rw[List.length_map];congr 2
 funext i
 rw[tr_nd];exact congrArg Nd.ts (map_getD decNd (elemsD x) i (d:=.nil) (d':=default) rfl).symm
theorem tr_ex{H:Type}{d:Nat}(x:DataW H):trT Tryz.prog (d+5) 47 x=[ndS (decEx x)]:=by
 rw[tr_struct stEx];simp only[trA,tr_nds,List.append_nil];rfl
theorem tr_stm{H:Type}{d:Nat}(x:DataW H):trT Tryz.prog (d+6) 49 x=(decStm x).ts:=by
 rw[tr_struct stStm];simp only[trA,tr_int hiInt,tr_bool hiBool,tr_rw (d:=d+2),tr_ex];rfl
theorem lm_val{H:Type}{d:Nat}{x:DataW H}(h:wfD Tryz.prog (d+2) 42 x):LmV (decVal x):=by
 obtain⟨xs,rfl,h'⟩:=wf_struct h stVal;obtain⟨x0,xs,rfl,_,h'⟩:=wfAll_cons h';obtain⟨x1,xs,rfl,_,h'⟩:=wfAll_cons h';obtain⟨x2,xs,rfl,h2,h'⟩:=wfAll_cons h';exact wf_len h2
theorem lm_rw{H:Type}{d:Nat}{x:DataW H}(h:wfD Tryz.prog (d+3) 44 x):LmRw (decRw x):=by
 obtain⟨xs,rfl,h'⟩:=wf_struct h stRw;obtain⟨x0,xs,rfl,_,h'⟩:=wfAll_cons h';obtain⟨x1,xs,rfl,h1,h'⟩:=wfAll_cons h';obtain⟨x2,xs,rfl,h2,h'⟩:=wfAll_cons h';exact⟨lm_val h1,lm_val h2⟩
theorem lm_nd{H:Type}{d:Nat}{x:DataW H}(h:wfD Tryz.prog (d+3) 132 x):LmNd (decNd x):=by
 obtain⟨xs,rfl,h'⟩:=wf_struct h stNd;obtain⟨x0,xs,rfl,_,h'⟩:=wfAll_cons h';obtain⟨x1,xs,rfl,_,h'⟩:=wfAll_cons h';obtain⟨x2,xs,rfl,_,h'⟩:=wfAll_cons h';obtain⟨x3,xs,rfl,_,h'⟩:=wfAll_cons h';obtain⟨x4,xs,rfl,h4,h'⟩:=wfAll_cons h';exact lm_val h4
theorem lm_rws{H:Type}{d:Nat}{x:DataW H}(h:wfD Tryz.prog (d+4) 41 x):Lim (decRws x).length/\∀i,i<(decRws x).length->LmRw ((decRws x).getD i default):=by
 obtain⟨_,h2,h3⟩:=wf_slice h slRw;refine⟨by unfold decRws;rw[List.length_map];exact h2,fun i hi=> ?_⟩
 unfold decRws at hi ⊢;rw[List.length_map] at hi;rw[map_getD decRw (elemsD x) i (d:=.nil) (d':=default) rfl,List.getD_eq_getElem?_getD,List.getElem?_eq_getElem hi]
 exact lm_rw (h3 _ (List.getElem_mem hi))
theorem lm_nds{H:Type}{d:Nat}{x:DataW H}(h:wfD Tryz.prog (d+4) 45 x):LmNds (decNds x):=by
 obtain⟨_,h2,h3⟩:=wf_slice h slNd;refine⟨by unfold decNds;rw[List.length_map];exact h2,fun i hi=> ?_⟩
 unfold decNds at hi ⊢;rw[List.length_map] at hi;rw[map_getD decNd (elemsD x) i (d:=.nil) (d':=default) rfl,List.getD_eq_getElem?_getD,List.getElem?_eq_getElem hi]
 exact lm_nd (h3 _ (List.getElem_mem hi))
theorem lm_ex{H:Type}{d:Nat}{x:DataW H}(h:wfD Tryz.prog (d+5) 47 x):LmNds (decEx x):=by
 obtain⟨xs,rfl,h'⟩:=wf_struct h stEx;obtain⟨x0,xs,rfl,h0,h'⟩:=wfAll_cons h';exact lm_nds h0
theorem lm_stm{H:Type}{d:Nat}{x:DataW H}(h:wfD Tryz.prog (d+6) 49 x):LmStm (decStm x):=by
 obtain⟨xs,rfl,h'⟩:=wf_struct h stStm;obtain⟨x0,xs,rfl,_,h'⟩:=wfAll_cons h';obtain⟨x1,xs,rfl,_,h'⟩:=wfAll_cons h';obtain⟨x2,xs,rfl,h2,h'⟩:=wfAll_cons h';obtain⟨x3,xs,rfl,_,h'⟩:=wfAll_cons h';obtain⟨x4,xs,rfl,h4,h'⟩:=wfAll_cons h';obtain⟨x5,xs,rfl,h5,h'⟩:=wfAll_cons h';exact⟨lm_rw (d:=d+2) h2,lm_ex h4,lm_ex h5⟩
theorem own:ownKnob Tryz.prog.godebug=none:=by kernel_rfl
theorem joined{P:Program}{f:FuncId}{fn:Func}{s:ChangeSpec}{c:OpenClaim}(h0:c.wf (OpenSpec.ofChange s)=true)(h1:laidOutB P=true)(h2:mapsRowed P=true)
  (h3:fn.params.all (P.readableRec ·)=true) (h4:namedTie P c.named s.vars=true) (h5:(c.stops==[])=true) (h6:(P.stops==[])=true) (h7:(c.knobs==[])=true) (h8:(P.stopKnobs==[])=true)
  (h9:(c.inPlace==P.inPlace f)=true) (h10:(c.unfollowed==P.unfollowed f)=true) (h11:(c.recurses==P.recurses f)=true) (h12:(c.named==P.varsNamed f)=true)
  (h13:(c.maps==(fn.params.toList++s.plain.varTypes P).any (P.mapsRec ·))=true) (h14:(c.ifaces==(fn.params.toList++s.plain.varTypes P).any (P.ifacesRec ·))=true) (h15:(c.mapsOut==P.mapsAmong fn.resultTypes.toList)=true)
  (h16:(c.loops==(fn.params.toList++s.plain.varTypes P).any (P.loopsFrom ·))=true) (h17:(c.wideKeys==(fn.params.toList++s.plain.varTypes P++fn.resultTypes.toList).any (P.wideKeysFrom ·))=true)
  (h18:s.vars.all (P.varReadable ·)=true) (h19:fn.resultTypes.all (fun t=>P.readableRec t&&decide (t<P.types.size))=true) (h20:(c.ifacesOut==fn.resultTypes.toList.any (P.ifacesRec ·))=true)
  (h21:(c.loopsOut==fn.resultTypes.toList.any (P.loopsFrom ·))=true) (h22:(c.plainKeys==P.plainKeys)=true) (h23:c.shortTexts.isNone=true) (h24:P.stopsHeard=true) (h25:P.mayEnter=true)
  (h26:(c.lifted==P.liftsFinal)=true) (h27:(P.make==some c.make)=true) (h28:(c.kinds==(if c.domain.isEmpty then[] else fn.params.toList.map fun t=>match P.underlying t with|some (.int k)=>some k|_=>none))=true) (h29:(c.pinned==c.pinnedBy)=true)
  (h30:(c.veiled==(fn.params.toList++s.plain.varTypes P++fn.resultTypes.toList).any (P.veiledRec ·))=true) (h31:c.veiledFits P fn.params.toList (fn.params.toList++s.plain.varTypes P++fn.resultTypes.toList)=true):joinedFacts P f fn s c=true:=by
 simp only[joinedFacts,Bool.and_eq_true];exact⟨⟨⟨⟨⟨⟨⟨⟨⟨⟨⟨⟨⟨⟨⟨⟨⟨⟨⟨⟨⟨⟨⟨⟨⟨⟨⟨⟨⟨⟨⟨h0,h1⟩,h2⟩,h3⟩,h4⟩,h5⟩,h6⟩,h7⟩,h8⟩,h9⟩,h10⟩,h11⟩,h12⟩,h13⟩,h14⟩,h15⟩,h16⟩,h17⟩,h18⟩,h19⟩,h20⟩,h21⟩,h22⟩,h23⟩,h24⟩,h25⟩,h26⟩,h27⟩,h28⟩,h29⟩,h30⟩,h31⟩
end Go.Proofs.YtfmngblmdghccaaGreat
namespace Go.Proofs.YtfmngblmdghccaaGreat.fnExactDenoteStmt
open Go.SS Go.RowKit
set_option maxRecDepth 100000
theorem arg_rws{H:Type}{d:Nat}(x:DataW H):argT Tryz.prog (d+4) 41 x=rwS (decRws x):=by
 have hu:Tryz.prog.underlying 41=some (.slice 44):=by kernel_rfl
 unfold argT;rw[tr_rws,hu];rfl
theorem data{H:Type}{W:World}{ds:List (DataW H)}(h:WfAll Tryz.prog 7 [41,49] ds):∃ts,PureFn Tryz.prog 4 ts (.bool true)/\∀vs:Array Value,RdL (E0 W) W (argTs Tryz.prog 7 [41,49] ds) vs->RdL (E0 W) W ts vs:=by
 obtain⟨x,xs,rfl,hx,h⟩:=wfAll_cons h;obtain⟨x2,xs,rfl,hx2,h⟩:=wfAll_cons h;obtain rfl:=wfAll_nil h;refine⟨_,lawD_pure (decRws x) (decStm x2) (lm_rws (d:=3) hx) (lm_stm (d:=1) hx2),fun vs hv=> ?_⟩
 have:argTs Tryz.prog 7 [41,49] [x,x2]=[argT Tryz.prog 7 41 x,argT Tryz.prog 7 49 x2]:=rfl;rw[this,arg_rws (d:=3),arg_struct (d:=6) stStm,←tr_struct (d:=6) stStm,tr_stm (d:=1)] at hv;exact hv
theorem lifted(os:Os)(started:os.Started)(H:Type)(enc:TypeId×Value->H):ReturnsInHanded {} Tryz.checked os 4 .any (Rows.fnExactDenoteStmtSpec.pre6 enc Tryz.prog Tryz.f4 Rows.fnExactDenoteStmtRow.domain false) (Rows.fnExactDenoteStmtSpec.post enc Tryz.prog Tryz.f4 false true false false):=by
 refine returnsInHanded_of_change (C:=Tryz.checked) own started (by kernel_rfl) Tryz.func4 (ChangeSpec.witness6 (enc:=enc) (C:=Tryz.checked) false ⟨#[], #[.slice none 0 0,.agg #[.int .i64 0,.int .i64 0,.int .i64 0,.int .i64 0,.int .i64 0,.string ⟨#[]⟩,.int .i64 0,.int .i64 0,.string ⟨#[]⟩,.int .i64 0,.slice none 0 0,.slice none 0 0,.int .i64 0,.bool false]],[]⟩ 16 (by kernel_rfl) (by kernel_rfl) (by kernel_rfl) (by kernel_rfl)) ?_
 intro W base args ds gs before hval hW _ _;have hp:Tryz.f4.params.toList=[41,49]:=by kernel_rfl
 refine law_all 7 hval hW rfl (fun h=> ?_) (tb:=4) (by kernel_rfl) (by kernel_rfl) (by kernel_rfl) (fun h=> ?_)
 ·rw[hp] at h;obtain⟨x,xs,rfl,hx,h⟩:=wfAll_cons h;obtain⟨x2,xs,rfl,hx2,h⟩:=wfAll_cons h;obtain rfl:=wfAll_nil h;rfl
 ·rw[hp] at h ⊢;exact data h
theorem j0:(Rows.fnExactDenoteStmtRow.wf (OpenSpec.ofChange Rows.fnExactDenoteStmtSpec))=true:=by kernel_rfl
theorem j1:(laidOutB Tryz.checked.prog)=true:=by kernel_rfl
theorem j2:(mapsRowed Tryz.checked.prog)=true:=by kernel_rfl
theorem j9:((Rows.fnExactDenoteStmtRow.inPlace==Tryz.checked.prog.inPlace 4))=true:=by kernel_rfl
theorem j10:((Rows.fnExactDenoteStmtRow.unfollowed==Tryz.checked.prog.unfollowed 4))=true:=by kernel_rfl
theorem j11:((Rows.fnExactDenoteStmtRow.recurses==Tryz.checked.prog.recurses 4))=true:=by kernel_rfl
theorem j12:((Rows.fnExactDenoteStmtRow.named==Tryz.checked.prog.varsNamed 4))=true:=by kernel_rfl
theorem j22:((Rows.fnExactDenoteStmtRow.plainKeys==Tryz.checked.prog.plainKeys))=true:=by kernel_rfl
theorem j24:(Tryz.checked.prog.stopsHeard)=true:=by kernel_rfl
theorem j25:(Tryz.checked.prog.mayEnter)=true:=by kernel_rfl
theorem j26:((Rows.fnExactDenoteStmtRow.lifted==Tryz.checked.prog.liftsFinal))=true:=by kernel_rfl
theorem j27:((Tryz.checked.prog.make==some Rows.fnExactDenoteStmtRow.make))=true:=by kernel_rfl
theorem closed:joinedFacts Tryz.checked.prog 4 Tryz.f4 Rows.fnExactDenoteStmtSpec Rows.fnExactDenoteStmtRow=true:=
 joined j0 j1 j2 (by kernel_rfl) (by kernel_rfl) (by kernel_rfl) (by kernel_rfl) (by kernel_rfl) (by kernel_rfl) j9 j10 j11 j12 (by kernel_rfl) (by kernel_rfl) (by kernel_rfl) (by kernel_rfl) (by kernel_rfl) (by kernel_rfl) (by kernel_rfl) (by kernel_rfl) (by kernel_rfl) j22 (by kernel_rfl) j24 j25 j26 j27 (by kernel_rfl) (by kernel_rfl) (by kernel_rfl) (by kernel_rfl)
theorem proved:Rows.FnExactDenoteStmtSaid:=
 OpenClaim.holds_of_wide 4 Tryz.f4 rfl rfl rfl rfl rfl rfl rfl ⟨rfl,rfl,rfl,rfl,rfl⟩ rfl rfl rfl rfl rfl (by kernel_rfl) Tryz.func4 closed
  (of_decide_eq_true (by kernel_rfl)) (by unfold Func.isWrapper;first|(rw[if_pos (by decide+kernel)];kernel_rfl)|(rw[if_neg (by decide+kernel)];exact⟨rfl,rfl⟩))
  (fun os started H enc _=>lifted os started H enc)
end Go.Proofs.YtfmngblmdghccaaGreat.fnExactDenoteStmt

