/- A part of the proof. -/
import Derived.Test.YtokaojbaacnngaaGreatW6
import Derived.Test.YtokaojbaacnngaaGreatSSW
import Derived.Test.YtokaojbaacnngaaGreatRows
import Derived.WalkKit
import Derived.ProofKit
import Derived.JoinedOf
import Derived.Handed
import Derived.WideWitness

namespace Go.Proofs.YtokaojbaacnngaaGreat
open Go.SS Go.RowKit
def decRec{H:Type}(x:DataW H):Rec:=⟨dI (nthD (partsD x) 0),dI (nthD (partsD x) 1),dI (nthD (partsD x) 2),dI (nthD (partsD x) 3),dI (nthD (partsD x) 4),dI (nthD (partsD x) 5),dI (nthD (partsD x) 6),dI (nthD (partsD x) 7),dS (nthD (partsD x) 8),dS (nthD (partsD x) 9)⟩
set_option maxRecDepth 100000 in
theorem hiInt:isIntT Tryz.prog 3=true:=by kernel_rfl
theorem hiStr:isStrT Tryz.prog 9=true:=by kernel_rfl
theorem hiBool:isBoolT Tryz.prog 4=true:=by kernel_rfl
set_option maxRecDepth 100000 in
theorem stRec:structT Tryz.prog 168=some [3,3,3,3,3,3,3,3,9,9]:=by kernel_rfl
set_option maxRecDepth 100000 in
theorem tr_rec{H:Type}{d:Nat}(x:DataW H):trT Tryz.prog (d+2) 168 x=(decRec x).ts:=by
 rw[tr_struct stRec];simp only[trA,tr_int hiInt,tr_str hiStr,List.append_nil,List.cons_append,List.nil_append];rfl
set_option maxRecDepth 100000 in
theorem wf_len{H:Type}{d:Nat}{x:DataW H}(h:wfD Tryz.prog (d+1) 9 x):(dS x).length<=9223372036854775807:=by
 obtain⟨l,rfl,hl⟩:=wf_str h hiStr;exact hl
set_option maxRecDepth 100000 in
theorem bd_rec{H:Type}{d:Nat}{x:DataW H}(h:wfD Tryz.prog (d+2) 168 x):RecB (decRec x):=by
 obtain⟨xs,rfl,h'⟩:=wf_struct h stRec;obtain⟨x0,xs,rfl,_,h⟩:=wfAll_cons h';obtain⟨x1,xs,rfl,_,h⟩:=wfAll_cons h;obtain⟨x2,xs,rfl,_,h⟩:=wfAll_cons h;obtain⟨x3,xs,rfl,_,h⟩:=wfAll_cons h;obtain⟨x4,xs,rfl,_,h⟩:=wfAll_cons h;obtain⟨x5,xs,rfl,_,h⟩:=wfAll_cons h;obtain⟨x6,xs,rfl,_,h⟩:=wfAll_cons h;obtain⟨x7,xs,rfl,_,h⟩:=wfAll_cons h;obtain⟨x8,xs,rfl,h8,h⟩:=wfAll_cons h;obtain⟨x9,xs,rfl,h9,h⟩:=wfAll_cons h;exact⟨wf_len h8,wf_len h9⟩
set_option maxRecDepth 100000 in
theorem slRec:sliceT Tryz.prog 27=some 168:=by kernel_rfl
set_option maxRecDepth 100000 in
theorem row_rec{H:Type}{d:Nat}(x:DataW H):(T.sl (Tryz.prog.cellsOf 168) (elemsD x).length fun i=>trT Tryz.prog (d+2) 168 ((elemsD x).getD i .nil))=recS ((elemsD x).map decRec):=by
 unfold recS;rw[show Tryz.prog.cellsOf 168=10 by kernel_rfl,List.length_map]
 congr 1
 funext i
 rw[tr_rec];unfold recRow;exact congrArg Rec.ts (map_getD decRec (elemsD x) i (d:=.nil) (d':=default) rfl).symm

def decStrs{H:Type}(x:DataW H):List (List UInt8):=(elemsD x).map dS
def decInts{H:Type}(x:DataW H):List Int:=(elemsD x).map dI
def decPend{H:Type}(x:DataW H):Pend:=⟨dI (nthD (partsD x) 0),dS (nthD (partsD x) 1)⟩
def decDsk{H:Type}(x:DataW H):Dsk:=⟨decStrs (nthD (partsD x) 0),(elemsD (nthD (partsD x) 1)).map decPend,dB (nthD (partsD x) 2),decInts (nthD (partsD x) 3)⟩
def decPg{H:Type}(x:DataW H):Pg:=⟨dI (nthD (partsD x) 0),decStrs (nthD (partsD x) 1)⟩
def decFrm{H:Type}(x:DataW H):Frm:=⟨dI (nthD (partsD x) 0),decPg (nthD (partsD x) 1),dB (nthD (partsD x) 2),dI (nthD (partsD x) 3)⟩
def decSto{H:Type}(x:DataW H):Sto:=⟨decDsk (nthD (partsD x) 0),dI (nthD (partsD x) 1),(elemsD (nthD (partsD x) 2)).map decRec,dI (nthD (partsD x) 3),(elemsD (nthD (partsD x) 4)).map decFrm,dI (nthD (partsD x) 5)⟩
set_option maxRecDepth 100000
theorem slStr:sliceT Tryz.prog 22=some 9:=by kernel_rfl
theorem slInt:sliceT Tryz.prog 24=some 3:=by kernel_rfl
theorem slPend:sliceT Tryz.prog 23=some 226:=by kernel_rfl
theorem slFrm:sliceT Tryz.prog 28=some 172:=by kernel_rfl
theorem stPend:structT Tryz.prog 226=some [3,9]:=by kernel_rfl
theorem stDsk:structT Tryz.prog 26=some [22,23,4,24]:=by kernel_rfl
theorem stPg:structT Tryz.prog 170=some [3,22]:=by kernel_rfl
theorem stFrm:structT Tryz.prog 172=some [3,170,4,3]:=by kernel_rfl
theorem stSto:structT Tryz.prog 30=some [26,3,27,3,28,3]:=by kernel_rfl
theorem tr_strs{H:Type}{d:Nat}(x:DataW H):trT Tryz.prog (d+2) 22 x=[strS (decStrs x)]:=by
 rw[tr_slice slStr (by kernel_rfl),show Tryz.prog.cellsOf 9=1 by kernel_rfl]
 unfold strS decStrs;rw[List.length_map];congr 2
 funext i
 rw[tr_str hiStr];exact congrArg (fun l=>[T.str l]) (map_getD dS (elemsD x) i (d:=.nil) (d':=[]) rfl).symm
theorem tr_ints{H:Type}{d:Nat}(x:DataW H):trT Tryz.prog (d+2) 24 x=[intS (decInts x)]:=by
 rw[tr_slice slInt (by kernel_rfl),show Tryz.prog.cellsOf 3=1 by kernel_rfl]
 unfold intS decInts;rw[List.length_map];congr 2
 funext i
 rw[tr_int hiInt];exact congrArg (fun l=>[T.int .i64 l]) (map_getD dI (elemsD x) i (d:=.nil) (d':=0) rfl).symm
theorem tr_pend{H:Type}{d:Nat}(x:DataW H):trT Tryz.prog (d+2) 226 x=(decPend x).ts:=by
 rw[tr_struct stPend];simp only[trA,tr_int hiInt,tr_str hiStr,List.append_nil,List.cons_append,List.nil_append];rfl
theorem tr_pends{H:Type}{d:Nat}(x:DataW H):trT Tryz.prog (d+3) 23 x=[pendS ((elemsD x).map decPend)]:=by
 rw[tr_slice slPend (by kernel_rfl),show Tryz.prog.cellsOf 226=2 by kernel_rfl]
 unfold pendS;rw[List.length_map];congr 2
 funext i
 rw[tr_pend];exact congrArg Pend.ts (map_getD decPend (elemsD x) i (d:=.nil) (d':=default) rfl).symm
theorem tr_dsk{H:Type}{d:Nat}(x:DataW H):trT Tryz.prog (d+4) 26 x=(decDsk x).ts:=by
 rw[tr_struct stDsk];simp only[trA,tr_bool hiBool,tr_strs (d:=d+1),tr_ints (d:=d+1),tr_pends,List.append_nil,List.cons_append,List.nil_append];rfl
theorem tr_pg{H:Type}{d:Nat}(x:DataW H):trT Tryz.prog (d+3) 170 x=(decPg x).ts:=by
 rw[tr_struct stPg];simp only[trA,tr_int hiInt,tr_strs,List.append_nil,List.cons_append,List.nil_append];rfl
theorem tr_frm{H:Type}{d:Nat}(x:DataW H):trT Tryz.prog (d+4) 172 x=(decFrm x).ts:=by
 rw[tr_struct stFrm];simp only[trA,tr_int hiInt,tr_bool hiBool,tr_pg];rfl
theorem tr_frms{H:Type}{d:Nat}(x:DataW H):trT Tryz.prog (d+5) 28 x=[frmS ((elemsD x).map decFrm)]:=by
 rw[tr_slice slFrm (by kernel_rfl),show Tryz.prog.cellsOf 172=5 by kernel_rfl]
 unfold frmS;rw[List.length_map];congr 2
 funext i
 rw[tr_frm];exact congrArg Frm.ts (map_getD decFrm (elemsD x) i (d:=.nil) (d':=default) rfl).symm
theorem tr_recs{H:Type}{d:Nat}(x:DataW H):trT Tryz.prog (d+3) 27 x=[recS ((elemsD x).map decRec)]:=by
 rw[tr_slice slRec (by kernel_rfl),row_rec]
theorem tr_sto{H:Type}{d:Nat}(x:DataW H):trA Tryz.prog (d+5) [26,3,27,3,28,3] (partsD x)=(decSto x).ts:=by
 simp only[trA,tr_int hiInt,tr_dsk (d:=d+1),tr_recs (d:=d+2),tr_frms];rfl
theorem lm_strs{H:Type}{d:Nat}{x:DataW H}(h:wfD Tryz.prog (d+2) 22 x):LmL [] (fun s=>Lim s.length) (decStrs x):=by
 obtain⟨_,h2,h3⟩:=wf_slice h slStr;refine⟨by unfold decStrs;rw[List.length_map];exact h2,fun i hi=> ?_⟩
 unfold decStrs at hi ⊢;rw[List.length_map] at hi;rw[map_getD dS (elemsD x) i (d:=.nil) (d':=[]) rfl,List.getD_eq_getElem?_getD,List.getElem?_eq_getElem hi]
 exact wf_len (h3 _ (List.getElem_mem hi))
theorem lm_pends{H:Type}{d:Nat}{x:DataW H}(h:wfD Tryz.prog (d+3) 23 x):LmL default LmP ((elemsD x).map decPend):=by
 obtain⟨_,h2,h3⟩:=wf_slice h slPend;refine⟨by rw[List.length_map];exact h2,fun i hi=> ?_⟩
 rw[List.length_map] at hi;rw[map_getD decPend (elemsD x) i (d:=.nil) (d':=default) rfl,List.getD_eq_getElem?_getD,List.getElem?_eq_getElem hi]
 obtain⟨xs,he,h'⟩:=wf_struct (h3 _ (List.getElem_mem hi)) stPend;obtain⟨x0,xs,rfl,_,h'⟩:=wfAll_cons h';obtain⟨x1,xs,rfl,h1,h'⟩:=wfAll_cons h';show(dS (nthD (partsD (elemsD x)[i]) 1)).length<=_;rw[he];exact wf_len h1
theorem lm_dsk{H:Type}{d:Nat}{x:DataW H}(h:wfD Tryz.prog (d+4) 26 x):LmD (decDsk x):=by
 obtain⟨xs,rfl,h'⟩:=wf_struct h stDsk;obtain⟨x0,xs,rfl,h0,h'⟩:=wfAll_cons h';obtain⟨x1,xs,rfl,h1,h'⟩:=wfAll_cons h';obtain⟨x2,xs,rfl,_,h'⟩:=wfAll_cons h';obtain⟨x3,xs,rfl,h3,h'⟩:=wfAll_cons h';refine⟨lm_strs h0,lm_pends h1,?_⟩
 show((elemsD x3).map dI).length<=_;rw[List.length_map];exact(wf_slice h3 slInt).2.1
theorem lm_frm{H:Type}{d:Nat}{x:DataW H}(h:wfD Tryz.prog (d+4) 172 x):LmF (decFrm x):=by
 obtain⟨xs,rfl,h'⟩:=wf_struct h stFrm;obtain⟨x0,xs,rfl,_,h'⟩:=wfAll_cons h';obtain⟨x1,xs,rfl,h1,h'⟩:=wfAll_cons h';obtain⟨ys,rfl,g⟩:=wf_struct h1 stPg;obtain⟨y0,ys,rfl,_,g⟩:=wfAll_cons g;obtain⟨y1,ys,rfl,g1,g⟩:=wfAll_cons g;exact lm_strs g1
theorem lm_sto{H:Type}{d:Nat}{x:DataW H}(h:wfD Tryz.prog (d+6) 30 x):LmS (decSto x):=by
 obtain⟨xs,rfl,h'⟩:=wf_struct h stSto;obtain⟨x0,xs,rfl,h0,h'⟩:=wfAll_cons h';obtain⟨x1,xs,rfl,_,h'⟩:=wfAll_cons h';obtain⟨x2,xs,rfl,h2,h'⟩:=wfAll_cons h';obtain⟨x3,xs,rfl,_,h'⟩:=wfAll_cons h';obtain⟨x4,xs,rfl,h4,h'⟩:=wfAll_cons h';obtain⟨_,r2,r3⟩:=wf_slice h2 slRec;obtain⟨_,f2,f3⟩:=wf_slice h4 slFrm;refine⟨lm_dsk h0,⟨?_,fun r hr=> ?_⟩,⟨?_,fun i hi=> ?_⟩⟩
 ·show((elemsD x2).map decRec).length<=_;rw[List.length_map];exact r2
 ·obtain⟨y,hy,rfl⟩:=List.mem_map.1 hr;exact bd_rec (r3 y hy)
 ·show((elemsD x4).map decFrm).length<=_;rw[List.length_map];exact f2
 ·have hi:i<((elemsD x4).map decFrm).length:=hi;show LmF (((elemsD x4).map decFrm).getD i default);rw[List.length_map] at hi;rw[map_getD decFrm (elemsD x4) i (d:=.nil) (d':=default) rfl,List.getD_eq_getElem?_getD,List.getElem?_eq_getElem hi]
  exact lm_frm (f3 _ (List.getElem_mem hi))

def decTxn{H:Type}(x:DataW H):Txn:=⟨dI (nthD (partsD x) 0),dI (nthD (partsD x) 1)⟩
def decWt{H:Type}(x:DataW H):Wt:=⟨dI (nthD (partsD x) 0),dI (nthD (partsD x) 1)⟩
def decLck{H:Type}(x:DataW H):Lck:=⟨dI (nthD (partsD x) 0),dI (nthD (partsD x) 1),dI (nthD (partsD x) 2),dI (nthD (partsD x) 3)⟩
def decLks{H:Type}(x:DataW H):Lks:=⟨(elemsD (nthD (partsD x) 0)).map decLck,(elemsD (nthD (partsD x) 1)).map decWt⟩
def decEng{H:Type}(x:DataW H):Eng:=⟨decSto (nthD (partsD x) 0),dB (nthD (partsD x) 1),(elemsD (nthD (partsD x) 2)).map decTxn,decLks (nthD (partsD x) 3),dI (nthD (partsD x) 4)⟩
theorem stTxn:structT Tryz.prog 118=some [3,3]:=by kernel_rfl
theorem stWt:structT Tryz.prog 187=some [3,3]:=by kernel_rfl
theorem stLck:structT Tryz.prog 185=some [3,3,3,3]:=by kernel_rfl
theorem stLks:structT Tryz.prog 35=some [32,33]:=by kernel_rfl
theorem stEng:structT Tryz.prog 37=some [30,4,31,35,3]:=by kernel_rfl
theorem slTxn:sliceT Tryz.prog 31=some 118:=by kernel_rfl
theorem slLck:sliceT Tryz.prog 32=some 185:=by kernel_rfl
theorem slWt:sliceT Tryz.prog 33=some 187:=by kernel_rfl
theorem tr_txn{H:Type}{d:Nat}(x:DataW H):trT Tryz.prog (d+2) 118 x=(decTxn x).ts:=by
 rw[tr_struct stTxn];simp only[trA,tr_int hiInt,List.append_nil,List.cons_append,List.nil_append];rfl
theorem tr_txns{H:Type}{d:Nat}(x:DataW H):trT Tryz.prog (d+3) 31 x=[txnS ((elemsD x).map decTxn)]:=by
 rw[tr_slice slTxn (by kernel_rfl),show Tryz.prog.cellsOf 118=2 by kernel_rfl]
 unfold txnS;rw[List.length_map];congr 2
 funext i
 rw[tr_txn];exact congrArg Txn.ts (map_getD decTxn (elemsD x) i (d:=.nil) (d':=default) rfl).symm
theorem tr_wt{H:Type}{d:Nat}(x:DataW H):trT Tryz.prog (d+2) 187 x=(decWt x).ts:=by
 rw[tr_struct stWt];simp only[trA,tr_int hiInt,List.append_nil,List.cons_append,List.nil_append];rfl
theorem tr_wts{H:Type}{d:Nat}(x:DataW H):trT Tryz.prog (d+3) 33 x=[wtS ((elemsD x).map decWt)]:=by
 rw[tr_slice slWt (by kernel_rfl),show Tryz.prog.cellsOf 187=2 by kernel_rfl]
 unfold wtS;rw[List.length_map];congr 2
 funext i
 rw[tr_wt];exact congrArg Wt.ts (map_getD decWt (elemsD x) i (d:=.nil) (d':=default) rfl).symm
theorem tr_lck{H:Type}{d:Nat}(x:DataW H):trT Tryz.prog (d+2) 185 x=(decLck x).ts:=by
 rw[tr_struct stLck];simp only[trA,tr_int hiInt,List.append_nil,List.cons_append,List.nil_append];rfl
theorem tr_lcks{H:Type}{d:Nat}(x:DataW H):trT Tryz.prog (d+3) 32 x=[lckS ((elemsD x).map decLck)]:=by
 rw[tr_slice slLck (by kernel_rfl),show Tryz.prog.cellsOf 185=4 by kernel_rfl]
 unfold lckS;rw[List.length_map];congr 2
 funext i
 rw[tr_lck];exact congrArg Lck.ts (map_getD decLck (elemsD x) i (d:=.nil) (d':=default) rfl).symm
theorem tr_lks{H:Type}{d:Nat}(x:DataW H):trT Tryz.prog (d+4) 35 x=(decLks x).ts:=by
 rw[tr_struct stLks];simp only[trA,tr_lcks,tr_wts,List.append_nil,List.cons_append,List.nil_append];rfl
theorem tr_sto6{H:Type}{d:Nat}(x:DataW H):trT Tryz.prog (d+6) 30 x=(decSto x).ts:=by
 rw[tr_struct stSto];exact tr_sto x
theorem tr_eng{H:Type}{d:Nat}(x:DataW H):trT Tryz.prog (d+7) 37 x=(decEng x).ts:=by
 rw[tr_struct stEng];simp only[trA,tr_int hiInt,tr_bool hiBool,tr_sto6 (d:=d),tr_txns (d:=d+3),tr_lks (d:=d+2)];rfl
theorem lm_lks{H:Type}{d:Nat}{x:DataW H}(h:wfD Tryz.prog (d+4) 35 x):LmLks (decLks x):=by
 obtain⟨xs,rfl,h'⟩:=wf_struct h stLks;obtain⟨x0,xs,rfl,h0,h'⟩:=wfAll_cons h';obtain⟨x1,xs,rfl,h1,h'⟩:=wfAll_cons h';refine⟨?_,?_⟩
 ·show((elemsD x0).map decLck).length<=_;rw[List.length_map];exact(wf_slice h0 slLck).2.1
 ·show((elemsD x1).map decWt).length<=_;rw[List.length_map];exact(wf_slice h1 slWt).2.1
theorem lm_eng{H:Type}{d:Nat}{x:DataW H}(h:wfD Tryz.prog (d+7) 37 x):LmEng (decEng x):=by
 obtain⟨xs,rfl,h'⟩:=wf_struct h stEng;obtain⟨x0,xs,rfl,h0,h'⟩:=wfAll_cons h';obtain⟨x1,xs,rfl,_,h'⟩:=wfAll_cons h';obtain⟨x2,xs,rfl,h2,h'⟩:=wfAll_cons h';obtain⟨x3,xs,rfl,h3,h'⟩:=wfAll_cons h';refine⟨lm_sto (d:=d) h0,?_,lm_lks (d:=d+2) h3⟩
 show((elemsD x2).map decTxn).length<=_;rw[List.length_map];exact(wf_slice (d:=d+5) h2 slTxn).2.1
theorem small_eng{e:Eng}(h:bulkEng e<=1048576):SmEng e/\EngB e:=by
 have h0:bulkEng e=bulkS e.s+e.txs.length+bulkLks e.lk:=rfl;have h1:bulkLks e.lk=e.lk.held.length+e.lk.waits.length:=rfl;obtain⟨s1,s2⟩:=small_sto (s:=e.s) (by omega)
 exact⟨⟨s1,by omega,by omega,by omega⟩,s2,⟨by unfold Len;omega,by unfold Len;omega⟩,by unfold Len;omega⟩
theorem own:ownKnob Tryz.prog.godebug=none:=by kernel_rfl
theorem joined{P:Program}{f:FuncId}{fn:Func}{s:ChangeSpec}{c:OpenClaim}(h0:c.wf (OpenSpec.ofChange s)=true)(h1:laidOutB P=true)(h2:mapsRowed P=true)
  (h3:fn.params.all (P.readableRec ·)=true) (h4:namedTie P c.named s.vars=true) (h5:(c.stops==[])=true) (h6:(P.stops==[])=true) (h7:(c.knobs==[])=true) (h8:(P.stopKnobs==[])=true)
  (h9:(c.inPlace==P.inPlace f)=true) (h10:(c.unfollowed==P.unfollowed f)=true) (h11:(c.recurses==P.recurses f)=true) (h12:(c.named==P.varsNamed f)=true)
  (h13:(c.maps==(fn.params.toList++s.plain.varTypes P).any (P.mapsRec ·))=true) (h14:(c.ifaces==(fn.params.toList++s.plain.varTypes P).any (P.ifacesRec ·))=true) (h15:(c.mapsOut==P.mapsAmong fn.resultTypes.toList)=true)
  (h16:(c.loops==(fn.params.toList++s.plain.varTypes P).any (P.loopsFrom ·))=true) (h17:(c.wideKeys==(fn.params.toList++s.plain.varTypes P++fn.resultTypes.toList).any (P.wideKeysFrom ·))=true)
  (h18:s.vars.all (P.varReadable ·)=true) (h19:fn.resultTypes.all (fun t=>P.readableRec t&&decide (t<P.types.size))=true) (h20:(c.ifacesOut==fn.resultTypes.toList.any (P.ifacesRec ·))=true)
  (h21:(c.loopsOut==fn.resultTypes.toList.any (P.loopsFrom ·))=true) (h22:(c.plainKeys==P.plainKeys)=true) (h23:c.shortTexts.isNone=true) (h24:P.stopsHeard=true) (h25:P.mayEnter=true)
  (h26:(c.lifted==P.liftsFinal)=true) (h27:(P.make==some c.make)=true) (h28:(c.kinds==(if c.domain.isEmpty then[] else fn.params.toList.map fun t=>match P.underlying t with|some (.int k)=>some k|_=>none))=true) (h29:(c.pinned==c.pinnedBy)=true)
  (h30:(c.veiled==(fn.params.toList++s.plain.varTypes P++fn.resultTypes.toList).any (P.veiledRec ·))=true) (h31:c.veiledFits P fn.params.toList (fn.params.toList++s.plain.varTypes P++fn.resultTypes.toList)=true):joinedFacts P f fn s c=true:=by
 simp only[joinedFacts,Bool.and_eq_true];exact⟨⟨⟨⟨⟨⟨⟨⟨⟨⟨⟨⟨⟨⟨⟨⟨⟨⟨⟨⟨⟨⟨⟨⟨⟨⟨⟨⟨⟨⟨⟨h0,h1⟩,h2⟩,h3⟩,h4⟩,h5⟩,h6⟩,h7⟩,h8⟩,h9⟩,h10⟩,h11⟩,h12⟩,h13⟩,h14⟩,h15⟩,h16⟩,h17⟩,h18⟩,h19⟩,h20⟩,h21⟩,h22⟩,h23⟩,h24⟩,h25⟩,h26⟩,h27⟩,h28⟩,h29⟩,h30⟩,h31⟩
end Go.Proofs.YtokaojbaacnngaaGreat

