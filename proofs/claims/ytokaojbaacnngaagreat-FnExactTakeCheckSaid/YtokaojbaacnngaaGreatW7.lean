/- A part of the proof. -/
import Derived.Test.YtokaojbaacnngaaGreatW6
import Derived.Test.YtokaojbaacnngaaGreatSSW
import Derived.Test.YtokaojbaacnngaaGreatRows
import Derived.WalkKit
import Derived.ProofKit
import Derived.JoinedOf
import Derived.Handed
import Derived.WideWitness

namespace Go.Proofs.YtokaojbaacnngaaGreat
open Go.SS Go.RowKit
def uL{H:Type}(x:DataW H):Rec:=⟨dI (M9 (V0 x) 0),dI (M9 (V0 x) 1),dI (M9 (V0 x) 2),dI (M9 (V0 x) 3),dI (M9 (V0 x) 4),dI (M9 (V0 x) 5),dI (M9 (V0 x) 6),dI (M9 (V0 x) 7),dS (M9 (V0 x) 8),dS (M9 (V0 x) 9)⟩
set_option maxRecDepth 100000 in
theorem vP:a7X Tryz.prog 3=true:=by kernel_rfl
theorem a8P:kJ Tryz.prog 9=true:=by kernel_rfl
theorem a7f:bY Tryz.prog 4=true:=by kernel_rfl
set_option maxRecDepth 100000 in
theorem c4G:M0 Tryz.prog 168=some [3,3,3,3,3,3,3,3,9,9]:=by kernel_rfl
set_option maxRecDepth 100000 in
theorem c5d{H:Type}{d:Nat}(x:DataW H):i7 Tryz.prog (d+2) 168 x=(uL x).ts:=by
 rw[N5 c4G];simp only[trA,zX vP,a5t a8P,List.append_nil,List.cons_append,List.nil_append];rfl
set_option maxRecDepth 100000 in
theorem bS{H:Type}{d:Nat}{x:DataW H}(h:mL Tryz.prog (d+1) 9 x):(dS x).length<=9223372036854775807:=by
 obtain⟨l,rfl,hl⟩:=c5T h a8P;exact hl
set_option maxRecDepth 100000 in
theorem c5B{H:Type}{d:Nat}{x:DataW H}(h:mL Tryz.prog (d+2) 168 x):b2x (uL x):=by
 obtain⟨xs,rfl,h'⟩:=C4 h c4G;obtain⟨x0,xs,rfl,_,h⟩:=W2 h';obtain⟨x1,xs,rfl,_,h⟩:=W2 h;obtain⟨x2,xs,rfl,_,h⟩:=W2 h;obtain⟨x3,xs,rfl,_,h⟩:=W2 h;obtain⟨x4,xs,rfl,_,h⟩:=W2 h;obtain⟨x5,xs,rfl,_,h⟩:=W2 h;obtain⟨x6,xs,rfl,_,h⟩:=W2 h;obtain⟨x7,xs,rfl,_,h⟩:=W2 h;obtain⟨x8,xs,rfl,h8,h⟩:=W2 h;obtain⟨x9,xs,rfl,h9,h⟩:=W2 h;exact⟨bS h8,bS h9⟩
set_option maxRecDepth 100000 in
theorem c4T:t7 Tryz.prog 27=some 168:=by kernel_rfl
set_option maxRecDepth 100000 in
theorem c3p{H:Type}{d:Nat}(x:DataW H):(T.sl (Tryz.prog.cellsOf 168) (U9 x).length fun i=>i7 Tryz.prog (d+2) 168 ((U9 x).getD i .nil))=F3 ((U9 x).map uL):=by
 unfold F3;rw[show Tryz.prog.cellsOf 168=10 by kernel_rfl,List.length_map]
 congr 1
 funext i
 rw[c5d];unfold Y5;exact congrArg Rec.ts (F5 uL (U9 x) i (d:=.nil) (d':=default) rfl).symm

def yF{H:Type}(x:DataW H):List (List UInt8):=(U9 x).map dS
def eR{H:Type}(x:DataW H):List Int:=(U9 x).map dI
def wD{H:Type}(x:DataW H):Pend:=⟨dI (M9 (V0 x) 0),dS (M9 (V0 x) 1)⟩
def a4f{H:Type}(x:DataW H):Dsk:=⟨yF (M9 (V0 x) 0),(U9 (M9 (V0 x) 1)).map wD,dB (M9 (V0 x) 2),eR (M9 (V0 x) 3)⟩
def c4v{H:Type}(x:DataW H):Pg:=⟨dI (M9 (V0 x) 0),yF (M9 (V0 x) 1)⟩
def yH{H:Type}(x:DataW H):Frm:=⟨dI (M9 (V0 x) 0),c4v (M9 (V0 x) 1),dB (M9 (V0 x) 2),dI (M9 (V0 x) 3)⟩
def cY{H:Type}(x:DataW H):Sto:=⟨a4f (M9 (V0 x) 0),dI (M9 (V0 x) 1),(U9 (M9 (V0 x) 2)).map uL,dI (M9 (V0 x) 3),(U9 (M9 (V0 x) 4)).map yH,dI (M9 (V0 x) 5)⟩
set_option maxRecDepth 100000
theorem c4r:t7 Tryz.prog 22=some 9:=by kernel_rfl
theorem c41:t7 Tryz.prog 24=some 3:=by kernel_rfl
theorem b65:t7 Tryz.prog 23=some 226:=by kernel_rfl
theorem c4H:t7 Tryz.prog 28=some 172:=by kernel_rfl
theorem b6j:M0 Tryz.prog 226=some [3,9]:=by kernel_rfl
theorem c4w:M0 Tryz.prog 26=some [22,23,4,24]:=by kernel_rfl
theorem c7W:M0 Tryz.prog 170=some [3,22]:=by kernel_rfl
theorem c4D:M0 Tryz.prog 172=some [3,170,4,3]:=by kernel_rfl
theorem c4N:M0 Tryz.prog 30=some [26,3,27,3,28,3]:=by kernel_rfl
theorem a9H{H:Type}{d:Nat}(x:DataW H):i7 Tryz.prog (d+2) 22 x=[L3 (yF x)]:=by
 rw[u9 c4r (by kernel_rfl),show Tryz.prog.cellsOf 9=1 by kernel_rfl]
 unfold L3 yF;rw[List.length_map];congr 2
 funext i
 rw[a5t a8P];exact congrArg (fun l=>[T.str l]) (F5 dS (U9 x) i (d:=.nil) (d':=[]) rfl).symm
theorem c20{H:Type}{d:Nat}(x:DataW H):i7 Tryz.prog (d+2) 24 x=[r7 (eR x)]:=by
 rw[u9 c41 (by kernel_rfl),show Tryz.prog.cellsOf 3=1 by kernel_rfl]
 unfold r7 eR;rw[List.length_map];congr 2
 funext i
 rw[zX vP];exact congrArg (fun l=>[T.int .i64 l]) (F5 dI (U9 x) i (d:=.nil) (d':=0) rfl).symm
theorem c1x{H:Type}{d:Nat}(x:DataW H):i7 Tryz.prog (d+2) 226 x=(wD x).ts:=by
 rw[N5 b6j];simp only[trA,zX vP,a5t a8P,List.append_nil,List.cons_append,List.nil_append];rfl
theorem b6H{H:Type}{d:Nat}(x:DataW H):i7 Tryz.prog (d+3) 23 x=[M4 ((U9 x).map wD)]:=by
 rw[u9 b65 (by kernel_rfl),show Tryz.prog.cellsOf 226=2 by kernel_rfl]
 unfold M4;rw[List.length_map];congr 2
 funext i
 rw[c1x];exact congrArg Pend.ts (F5 wD (U9 x) i (d:=.nil) (d':=default) rfl).symm
theorem c6A{H:Type}{d:Nat}(x:DataW H):i7 Tryz.prog (d+4) 26 x=(a4f x).ts:=by
 rw[N5 c4w];simp only[trA,dR a7f,a9H (d:=d+1),c20 (d:=d+1),b6H,List.append_nil,List.cons_append,List.nil_append];rfl
theorem c7X{H:Type}{d:Nat}(x:DataW H):i7 Tryz.prog (d+3) 170 x=(c4v x).ts:=by
 rw[N5 c7W];simp only[trA,zX vP,a9H,List.append_nil,List.cons_append,List.nil_append];rfl
theorem c6z{H:Type}{d:Nat}(x:DataW H):i7 Tryz.prog (d+4) 172 x=(yH x).ts:=by
 rw[N5 c4D];simp only[trA,zX vP,dR a7f,c7X];rfl
theorem c0y{H:Type}{d:Nat}(x:DataW H):i7 Tryz.prog (d+5) 28 x=[w5 ((U9 x).map yH)]:=by
 rw[u9 c4H (by kernel_rfl),show Tryz.prog.cellsOf 172=5 by kernel_rfl]
 unfold w5;rw[List.length_map];congr 2
 funext i
 rw[c6z];exact congrArg Frm.ts (F5 yH (U9 x) i (d:=.nil) (d':=default) rfl).symm
theorem c18{H:Type}{d:Nat}(x:DataW H):i7 Tryz.prog (d+3) 27 x=[F3 ((U9 x).map uL)]:=by
 rw[u9 c4T (by kernel_rfl),c3p]
theorem c6b{H:Type}{d:Nat}(x:DataW H):trA Tryz.prog (d+5) [26,3,27,3,28,3] (V0 x)=(cY x).ts:=by
 simp only[trA,zX vP,c6A (d:=d+1),c18 (d:=d+2),c0y];rfl
theorem a8T{H:Type}{d:Nat}{x:DataW H}(h:mL Tryz.prog (d+2) 22 x):LmL [] (fun s=>rT s.length) (yF x):=by
 obtain⟨_,h2,h3⟩:=v6 h c4r;refine⟨by unfold yF;rw[List.length_map];exact h2,fun i hi=> ?_⟩
 unfold yF at hi ⊢;rw[List.length_map] at hi;rw[F5 dS (U9 x) i (d:=.nil) (d':=[]) rfl,C0,O1 hi]
 exact bS (h3 _ (List.getElem_mem hi))
theorem b5f{H:Type}{d:Nat}{x:DataW H}(h:mL Tryz.prog (d+3) 23 x):LmL default LmP ((U9 x).map wD):=by
 obtain⟨_,h2,h3⟩:=v6 h b65;refine⟨by rw[List.length_map];exact h2,fun i hi=> ?_⟩
 rw[List.length_map] at hi;rw[F5 wD (U9 x) i (d:=.nil) (d':=default) rfl,C0,O1 hi]
 obtain⟨xs,he,h'⟩:=C4 (h3 _ (List.getElem_mem hi)) b6j;obtain⟨x0,xs,rfl,_,h'⟩:=W2 h';obtain⟨x1,xs,rfl,h1,h'⟩:=W2 h';show(dS (M9 (V0 (U9 x)[i]) 1)).length<=_;rw[he];exact bS h1
theorem c6V{H:Type}{d:Nat}{x:DataW H}(h:mL Tryz.prog (d+4) 26 x):LmD (a4f x):=by
 obtain⟨xs,rfl,h'⟩:=C4 h c4w;obtain⟨x0,xs,rfl,h0,h'⟩:=W2 h';obtain⟨x1,xs,rfl,h1,h'⟩:=W2 h';obtain⟨x2,xs,rfl,_,h'⟩:=W2 h';obtain⟨x3,xs,rfl,h3,h'⟩:=W2 h';refine⟨a8T h0,b5f h1,?_⟩
 show((U9 x3).map dI).length<=_;rw[List.length_map];exact(v6 h3 c41).2.1
theorem c61{H:Type}{d:Nat}{x:DataW H}(h:mL Tryz.prog (d+4) 172 x):LmF (yH x):=by
 obtain⟨xs,rfl,h'⟩:=C4 h c4D;obtain⟨x0,xs,rfl,_,h'⟩:=W2 h';obtain⟨x1,xs,rfl,h1,h'⟩:=W2 h';obtain⟨ys,rfl,g⟩:=C4 h1 c7W;obtain⟨y0,ys,rfl,_,g⟩:=W2 g;obtain⟨y1,ys,rfl,g1,g⟩:=W2 g;exact a8T g1
theorem c5Z{H:Type}{d:Nat}{x:DataW H}(h:mL Tryz.prog (d+6) 30 x):LmS (cY x):=by
 obtain⟨xs,rfl,h'⟩:=C4 h c4N;obtain⟨x0,xs,rfl,h0,h'⟩:=W2 h';obtain⟨x1,xs,rfl,_,h'⟩:=W2 h';obtain⟨x2,xs,rfl,h2,h'⟩:=W2 h';obtain⟨x3,xs,rfl,_,h'⟩:=W2 h';obtain⟨x4,xs,rfl,h4,h'⟩:=W2 h';obtain⟨_,r2,r3⟩:=v6 h2 c4T;obtain⟨_,f2,f3⟩:=v6 h4 c4H;refine⟨c6V h0,⟨?_,fun r hr=> ?_⟩,⟨?_,fun i hi=> ?_⟩⟩
 ·show((U9 x2).map uL).length<=_;rw[List.length_map];exact r2
 ·obtain⟨y,hy,rfl⟩:=List.mem_map.1 hr;exact c5B (r3 y hy)
 ·show((U9 x4).map yH).length<=_;rw[List.length_map];exact f2
 ·have hi:i<((U9 x4).map yH).length:=hi;show LmF (((U9 x4).map yH).getD i default);rw[List.length_map] at hi;rw[F5 yH (U9 x4) i (d:=.nil) (d':=default) rfl,C0,O1 hi]
  exact c61 (f3 _ (List.getElem_mem hi))

def lR{H:Type}(x:DataW H):Txn:=⟨dI (M9 (V0 x) 0),dI (M9 (V0 x) 1)⟩
def a3o{H:Type}(x:DataW H):Wt:=⟨dI (M9 (V0 x) 0),dI (M9 (V0 x) 1)⟩
def kI{H:Type}(x:DataW H):Lck:=⟨dI (M9 (V0 x) 0),dI (M9 (V0 x) 1),dI (M9 (V0 x) 2),dI (M9 (V0 x) 3)⟩
def a64{H:Type}(x:DataW H):Lks:=⟨(U9 (M9 (V0 x) 0)).map kI,(U9 (M9 (V0 x) 1)).map a3o⟩
def a5M{H:Type}(x:DataW H):Eng:=⟨cY (M9 (V0 x) 0),dB (M9 (V0 x) 1),(U9 (M9 (V0 x) 2)).map lR,a64 (M9 (V0 x) 3),dI (M9 (V0 x) 4)⟩
theorem c7V:M0 Tryz.prog 118=some [3,3]:=by kernel_rfl
theorem c8h:M0 Tryz.prog 187=some [3,3]:=by kernel_rfl
theorem c7j:M0 Tryz.prog 185=some [3,3,3,3]:=by kernel_rfl
theorem c4E:M0 Tryz.prog 35=some [32,33]:=by kernel_rfl
theorem a9f:M0 Tryz.prog 37=some [30,4,31,35,3]:=by kernel_rfl
theorem c4P:t7 Tryz.prog 31=some 118:=by kernel_rfl
theorem c4A:t7 Tryz.prog 32=some 185:=by kernel_rfl
theorem c7F:t7 Tryz.prog 33=some 187:=by kernel_rfl
theorem c6d{H:Type}{d:Nat}(x:DataW H):i7 Tryz.prog (d+2) 118 x=(lR x).ts:=by
 rw[N5 c7V];simp only[trA,zX vP,List.append_nil,List.cons_append,List.nil_append];rfl
theorem c3V{H:Type}{d:Nat}(x:DataW H):i7 Tryz.prog (d+3) 31 x=[B4 ((U9 x).map lR)]:=by
 rw[u9 c4P (by kernel_rfl),show Tryz.prog.cellsOf 118=2 by kernel_rfl]
 unfold B4;rw[List.length_map];congr 2
 funext i
 rw[c6d];exact congrArg Txn.ts (F5 lR (U9 x) i (d:=.nil) (d':=default) rfl).symm
theorem c7S{H:Type}{d:Nat}(x:DataW H):i7 Tryz.prog (d+2) 187 x=(a3o x).ts:=by
 rw[N5 c8h];simp only[trA,zX vP,List.append_nil,List.cons_append,List.nil_append];rfl
theorem c6Y{H:Type}{d:Nat}(x:DataW H):i7 Tryz.prog (d+3) 33 x=[tT ((U9 x).map a3o)]:=by
 rw[u9 c7F (by kernel_rfl),show Tryz.prog.cellsOf 187=2 by kernel_rfl]
 unfold tT;rw[List.length_map];congr 2
 funext i
 rw[c7S];exact congrArg Wt.ts (F5 a3o (U9 x) i (d:=.nil) (d':=default) rfl).symm
theorem c5b{H:Type}{d:Nat}(x:DataW H):i7 Tryz.prog (d+2) 185 x=(kI x).ts:=by
 rw[N5 c7j];simp only[trA,zX vP,List.append_nil,List.cons_append,List.nil_append];rfl
theorem c2E{H:Type}{d:Nat}(x:DataW H):i7 Tryz.prog (d+3) 32 x=[w7 ((U9 x).map kI)]:=by
 rw[u9 c4A (by kernel_rfl),show Tryz.prog.cellsOf 185=4 by kernel_rfl]
 unfold w7;rw[List.length_map];congr 2
 funext i
 rw[c5b];exact congrArg Lck.ts (F5 kI (U9 x) i (d:=.nil) (d':=default) rfl).symm
theorem c6Z{H:Type}{d:Nat}(x:DataW H):i7 Tryz.prog (d+4) 35 x=(a64 x).ts:=by
 rw[N5 c4E];simp only[trA,c2E,c6Y,List.append_nil,List.cons_append,List.nil_append];rfl
theorem c13{H:Type}{d:Nat}(x:DataW H):i7 Tryz.prog (d+6) 30 x=(cY x).ts:=by
 rw[N5 c4N];exact c6b x
theorem c5l{H:Type}{d:Nat}(x:DataW H):i7 Tryz.prog (d+7) 37 x=(a5M x).ts:=by
 rw[N5 a9f];simp only[trA,zX vP,dR a7f,c13 (d:=d),c3V (d:=d+3),c6Z (d:=d+2)];rfl
theorem c5c{H:Type}{d:Nat}{x:DataW H}(h:mL Tryz.prog (d+4) 35 x):a9Y (a64 x):=by
 obtain⟨xs,rfl,h'⟩:=C4 h c4E;obtain⟨x0,xs,rfl,h0,h'⟩:=W2 h';obtain⟨x1,xs,rfl,h1,h'⟩:=W2 h';refine⟨?_,?_⟩
 ·show((U9 x0).map kI).length<=_;rw[List.length_map];exact(v6 h0 c4A).2.1
 ·show((U9 x1).map a3o).length<=_;rw[List.length_map];exact(v6 h1 c7F).2.1
theorem c5f{H:Type}{d:Nat}{x:DataW H}(h:mL Tryz.prog (d+7) 37 x):a9l (a5M x):=by
 obtain⟨xs,rfl,h'⟩:=C4 h a9f;obtain⟨x0,xs,rfl,h0,h'⟩:=W2 h';obtain⟨x1,xs,rfl,_,h'⟩:=W2 h';obtain⟨x2,xs,rfl,h2,h'⟩:=W2 h';obtain⟨x3,xs,rfl,h3,h'⟩:=W2 h';refine⟨c5Z (d:=d) h0,?_,c5c (d:=d+2) h3⟩
 show((U9 x2).map lR).length<=_;rw[List.length_map];exact(v6 (d:=d+5) h2 c4P).2.1
theorem b15{e:Eng}(h:B6 e<=1048576):L5 e/\mD e:=by
 have h0:B6 e=B8 e.s+e.txs.length+H4 e.lk:=rfl;have h1:H4 e.lk=e.lk.held.length+e.lk.waits.length:=rfl;obtain⟨s1,s2⟩:=b1D (s:=e.s) (by omega)
 exact⟨⟨s1,by omega,by omega,by omega⟩,s2,⟨by unfold K6;omega,by unfold K6;omega⟩,by unfold K6;omega⟩
theorem own:ownKnob Tryz.prog.godebug=none:=by kernel_rfl
theorem c45{P:Program}{f:FuncId}{fn:Func}{s:ChangeSpec}{c:OpenClaim}(h0:c.wf (OpenSpec.ofChange s)=true)(h1:laidOutB P=true)(h2:mapsRowed P=true)
  (h3:fn.params.all (P.readableRec ·)=true) (h4:namedTie P c.named s.vars=true) (h5:(c.stops==[])=true) (h6:(P.stops==[])=true) (h7:(c.knobs==[])=true) (h8:(P.stopKnobs==[])=true)
  (h9:(c.inPlace==P.inPlace f)=true) (h10:(c.unfollowed==P.unfollowed f)=true) (h11:(c.recurses==P.recurses f)=true) (h12:(c.named==P.varsNamed f)=true)
  (h13:(c.maps==(fn.params.toList++s.plain.varTypes P).any (P.mapsRec ·))=true) (h14:(c.ifaces==(fn.params.toList++s.plain.varTypes P).any (P.ifacesRec ·))=true) (h15:(c.mapsOut==P.mapsAmong fn.resultTypes.toList)=true)
  (h16:(c.loops==(fn.params.toList++s.plain.varTypes P).any (P.loopsFrom ·))=true) (h17:(c.wideKeys==(fn.params.toList++s.plain.varTypes P++fn.resultTypes.toList).any (P.wideKeysFrom ·))=true)
  (h18:s.vars.all (P.varReadable ·)=true) (h19:fn.resultTypes.all (fun t=>P.readableRec t&&decide (t<P.types.size))=true) (h20:(c.ifacesOut==fn.resultTypes.toList.any (P.ifacesRec ·))=true)
  (h21:(c.loopsOut==fn.resultTypes.toList.any (P.loopsFrom ·))=true) (h22:(c.plainKeys==P.plainKeys)=true) (h23:c.shortTexts.isNone=true) (h24:P.stopsHeard=true) (h25:P.mayEnter=true)
  (h26:(c.lifted==P.liftsFinal)=true) (h27:(P.make==some c.make)=true) (h28:(c.kinds==(if c.domain.isEmpty then[] else fn.params.toList.map fun t=>match P.underlying t with|some (.int k)=>some k|_=>none))=true) (h29:(c.pinned==c.pinnedBy)=true)
  (h30:(c.veiled==(fn.params.toList++s.plain.varTypes P++fn.resultTypes.toList).any (P.veiledRec ·))=true) (h31:c.veiledFits P fn.params.toList (fn.params.toList++s.plain.varTypes P++fn.resultTypes.toList)=true):joinedFacts P f fn s c=true:=by
 simp only[joinedFacts,K5];exact⟨⟨⟨⟨⟨⟨⟨⟨⟨⟨⟨⟨⟨⟨⟨⟨⟨⟨⟨⟨⟨⟨⟨⟨⟨⟨⟨⟨⟨⟨⟨h0,h1⟩,h2⟩,h3⟩,h4⟩,h5⟩,h6⟩,h7⟩,h8⟩,h9⟩,h10⟩,h11⟩,h12⟩,h13⟩,h14⟩,h15⟩,h16⟩,h17⟩,h18⟩,h19⟩,h20⟩,h21⟩,h22⟩,h23⟩,h24⟩,h25⟩,h26⟩,h27⟩,h28⟩,h29⟩,h30⟩,h31⟩
end Go.Proofs.YtokaojbaacnngaaGreat

