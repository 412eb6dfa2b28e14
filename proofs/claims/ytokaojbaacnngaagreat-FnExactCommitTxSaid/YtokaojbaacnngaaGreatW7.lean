/- A part of the proof. -/
import Derived.Test.YtokaojbaacnngaaGreatW6
import Derived.Test.YtokaojbaacnngaaGreatSSW
import Derived.Test.YtokaojbaacnngaaGreatRows
import Derived.WalkKit
import Derived.ProofKit
import Derived.JoinedOf
import Derived.Handed
import Derived.WideWitness

namespace Go.Proofs.YtokaojbaacnngaaGreat
open Go.SS Go.RowKit
def a1D{H:Type}(x:DataW H):Rec:=⟨dI (M7 (V1 x) 0),dI (M7 (V1 x) 1),dI (M7 (V1 x) 2),dI (M7 (V1 x) 3),dI (M7 (V1 x) 4),dI (M7 (V1 x) 5),dI (M7 (V1 x) 6),dI (M7 (V1 x) 7),dS (M7 (V1 x) 8),dS (M7 (V1 x) 9)⟩
set_option maxRecDepth 100000 in
theorem a0F:a1N Tryz.prog 3=true:=by kernel_rfl
theorem b7x:a4A Tryz.prog 9=true:=by kernel_rfl
theorem b48:a7j Tryz.prog 4=true:=by kernel_rfl
set_option maxRecDepth 100000 in
theorem d3k:M2 Tryz.prog 168=some [3,3,3,3,3,3,3,3,9,9]:=by kernel_rfl
set_option maxRecDepth 100000 in
theorem d4O{H:Type}{d:Nat}(x:DataW H):m5 Tryz.prog (d+2) 168 x=(a1D x).ts:=by
 rw[N6 d3k];simp only[trA,s9 a0F,b5r b7x,List.append_nil,List.cons_append,List.nil_append];rfl
set_option maxRecDepth 100000 in
theorem a8l{H:Type}{d:Nat}{x:DataW H}(h:wfD Tryz.prog (d+1) 9 x):(dS x).length<=9223372036854775807:=by
 obtain⟨l,rfl,hl⟩:=d51 h b7x;exact hl
set_option maxRecDepth 100000 in
theorem d3Q{H:Type}{d:Nat}{x:DataW H}(h:wfD Tryz.prog (d+2) 168 x):c2f (a1D x):=by
 obtain⟨xs,rfl,h'⟩:=E3 h d3k;obtain⟨x0,xs,rfl,_,h⟩:=X1 h';obtain⟨x1,xs,rfl,_,h⟩:=X1 h;obtain⟨x2,xs,rfl,_,h⟩:=X1 h;obtain⟨x3,xs,rfl,_,h⟩:=X1 h;obtain⟨x4,xs,rfl,_,h⟩:=X1 h;obtain⟨x5,xs,rfl,_,h⟩:=X1 h;obtain⟨x6,xs,rfl,_,h⟩:=X1 h;obtain⟨x7,xs,rfl,_,h⟩:=X1 h;obtain⟨x8,xs,rfl,h8,h⟩:=X1 h;obtain⟨x9,xs,rfl,h9,h⟩:=X1 h;exact⟨a8l h8,a8l h9⟩
set_option maxRecDepth 100000 in
theorem d3I:y7 Tryz.prog 27=some 168:=by kernel_rfl
set_option maxRecDepth 100000 in
theorem c9W{H:Type}{d:Nat}(x:DataW H):(T.sl (Tryz.prog.cellsOf 168) (U8 x).length fun i=>m5 Tryz.prog (d+2) 168 ((U8 x).getD i .nil))=G3 ((U8 x).map a1D):=by
 unfold G3;rw[show Tryz.prog.cellsOf 168=10 by kernel_rfl,List.length_map]
 congr 1
 funext i
 rw[d4O];unfold Y4;exact congrArg Rec.ts (I2 a1D (U8 x) i (d:=.nil) (d':=default) rfl).symm

def a0l{H:Type}(x:DataW H):List (List UInt8):=(U8 x).map dS
def a7N{H:Type}(x:DataW H):List Int:=(U8 x).map dI
def a1k{H:Type}(x:DataW H):Pend:=⟨dI (M7 (V1 x) 0),dS (M7 (V1 x) 1)⟩
def b4D{H:Type}(x:DataW H):Dsk:=⟨a0l (M7 (V1 x) 0),(U8 (M7 (V1 x) 1)).map a1k,dB (M7 (V1 x) 2),a7N (M7 (V1 x) 3)⟩
def d3L{H:Type}(x:DataW H):Pg:=⟨dI (M7 (V1 x) 0),a0l (M7 (V1 x) 1)⟩
def a0A{H:Type}(x:DataW H):Frm:=⟨dI (M7 (V1 x) 0),d3L (M7 (V1 x) 1),dB (M7 (V1 x) 2),dI (M7 (V1 x) 3)⟩
def a88{H:Type}(x:DataW H):Sto:=⟨b4D (M7 (V1 x) 0),dI (M7 (V1 x) 1),(U8 (M7 (V1 x) 2)).map a1D,dI (M7 (V1 x) 3),(U8 (M7 (V1 x) 4)).map a0A,dI (M7 (V1 x) 5)⟩
set_option maxRecDepth 100000
theorem d3m:y7 Tryz.prog 22=some 9:=by kernel_rfl
theorem d3J:y7 Tryz.prog 24=some 3:=by kernel_rfl
theorem c4g:y7 Tryz.prog 23=some 226:=by kernel_rfl
theorem d3s:y7 Tryz.prog 28=some 172:=by kernel_rfl
theorem c7s:M2 Tryz.prog 226=some [3,9]:=by kernel_rfl
theorem d3x:M2 Tryz.prog 26=some [22,23,4,24]:=by kernel_rfl
theorem d6p:M2 Tryz.prog 170=some [3,22]:=by kernel_rfl
theorem d3t:M2 Tryz.prog 172=some [3,170,4,3]:=by kernel_rfl
theorem d3H:M2 Tryz.prog 30=some [26,3,27,3,28,3]:=by kernel_rfl
theorem b8h{H:Type}{d:Nat}(x:DataW H):m5 Tryz.prog (d+2) 22 x=[L6 (a0l x)]:=by
 rw[A2 d3m (by kernel_rfl),show Tryz.prog.cellsOf 9=1 by kernel_rfl]
 unfold L6 a0l;rw[List.length_map];congr 2
 funext i
 rw[b5r b7x];exact congrArg (fun l=>[T.str l]) (I2 dS (U8 x) i (d:=.nil) (d':=[]) rfl).symm
theorem d1E{H:Type}{d:Nat}(x:DataW H):m5 Tryz.prog (d+2) 24 x=[w4 (a7N x)]:=by
 rw[A2 d3J (by kernel_rfl),show Tryz.prog.cellsOf 3=1 by kernel_rfl]
 unfold w4 a7N;rw[List.length_map];congr 2
 funext i
 rw[s9 a0F];exact congrArg (fun l=>[T.int .i64 l]) (I2 dI (U8 x) i (d:=.nil) (d':=0) rfl).symm
theorem c9x{H:Type}{d:Nat}(x:DataW H):m5 Tryz.prog (d+2) 226 x=(a1k x).ts:=by
 rw[N6 c7s];simp only[trA,s9 a0F,b5r b7x,List.append_nil,List.cons_append,List.nil_append];rfl
theorem c3T{H:Type}{d:Nat}(x:DataW H):m5 Tryz.prog (d+3) 23 x=[M0 ((U8 x).map a1k)]:=by
 rw[A2 c4g (by kernel_rfl),show Tryz.prog.cellsOf 226=2 by kernel_rfl]
 unfold M0;rw[List.length_map];congr 2
 funext i
 rw[c9x];exact congrArg Pend.ts (I2 a1k (U8 x) i (d:=.nil) (d':=default) rfl).symm
theorem d5W{H:Type}{d:Nat}(x:DataW H):m5 Tryz.prog (d+4) 26 x=(b4D x).ts:=by
 rw[N6 d3x];simp only[trA,a9r b48,b8h (d:=d+1),d1E (d:=d+1),c3T,List.append_nil,List.cons_append,List.nil_append];rfl
theorem d67{H:Type}{d:Nat}(x:DataW H):m5 Tryz.prog (d+3) 170 x=(d3L x).ts:=by
 rw[N6 d6p];simp only[trA,s9 a0F,b8h,List.append_nil,List.cons_append,List.nil_append];rfl
theorem d4F{H:Type}{d:Nat}(x:DataW H):m5 Tryz.prog (d+4) 172 x=(a0A x).ts:=by
 rw[N6 d3t];simp only[trA,s9 a0F,a9r b48,d67];rfl
theorem d0I{H:Type}{d:Nat}(x:DataW H):m5 Tryz.prog (d+5) 28 x=[y9 ((U8 x).map a0A)]:=by
 rw[A2 d3s (by kernel_rfl),show Tryz.prog.cellsOf 172=5 by kernel_rfl]
 unfold y9;rw[List.length_map];congr 2
 funext i
 rw[d4F];exact congrArg Frm.ts (I2 a0A (U8 x) i (d:=.nil) (d':=default) rfl).symm
theorem d1K{H:Type}{d:Nat}(x:DataW H):m5 Tryz.prog (d+3) 27 x=[G3 ((U8 x).map a1D)]:=by
 rw[A2 d3I (by kernel_rfl),c9W]
theorem d5b{H:Type}{d:Nat}(x:DataW H):trA Tryz.prog (d+5) [26,3,27,3,28,3] (V1 x)=(a88 x).ts:=by
 simp only[trA,s9 a0F,d5W (d:=d+1),d1K (d:=d+2),d0I];rfl
theorem b8o{H:Type}{d:Nat}{x:DataW H}(h:wfD Tryz.prog (d+2) 22 x):LmL [] (fun s=>Lim s.length) (a0l x):=by
 obtain⟨_,h2,h3⟩:=z7 h d3m;refine⟨by unfold a0l;rw[List.length_map];exact h2,fun i hi=> ?_⟩
 unfold a0l at hi ⊢;rw[List.length_map] at hi;rw[I2 dS (U8 x) i (d:=.nil) (d':=[]) rfl,List.getD_eq_getElem?_getD,List.getElem?_eq_getElem hi]
 exact a8l (h3 _ (List.getElem_mem hi))
theorem c6l{H:Type}{d:Nat}{x:DataW H}(h:wfD Tryz.prog (d+3) 23 x):LmL default LmP ((U8 x).map a1k):=by
 obtain⟨_,h2,h3⟩:=z7 h c4g;refine⟨by rw[List.length_map];exact h2,fun i hi=> ?_⟩
 rw[List.length_map] at hi;rw[I2 a1k (U8 x) i (d:=.nil) (d':=default) rfl,List.getD_eq_getElem?_getD,List.getElem?_eq_getElem hi]
 obtain⟨xs,he,h'⟩:=E3 (h3 _ (List.getElem_mem hi)) c7s;obtain⟨x0,xs,rfl,_,h'⟩:=X1 h';obtain⟨x1,xs,rfl,h1,h'⟩:=X1 h';show(dS (M7 (V1 (U8 x)[i]) 1)).length<=_;rw[he];exact a8l h1
theorem d47{H:Type}{d:Nat}{x:DataW H}(h:wfD Tryz.prog (d+4) 26 x):LmD (b4D x):=by
 obtain⟨xs,rfl,h'⟩:=E3 h d3x;obtain⟨x0,xs,rfl,h0,h'⟩:=X1 h';obtain⟨x1,xs,rfl,h1,h'⟩:=X1 h';obtain⟨x2,xs,rfl,_,h'⟩:=X1 h';obtain⟨x3,xs,rfl,h3,h'⟩:=X1 h';refine⟨b8o h0,c6l h1,?_⟩
 show((U8 x3).map dI).length<=_;rw[List.length_map];exact(z7 h3 d3J).2.1
theorem d53{H:Type}{d:Nat}{x:DataW H}(h:wfD Tryz.prog (d+4) 172 x):LmF (a0A x):=by
 obtain⟨xs,rfl,h'⟩:=E3 h d3t;obtain⟨x0,xs,rfl,_,h'⟩:=X1 h';obtain⟨x1,xs,rfl,h1,h'⟩:=X1 h';obtain⟨ys,rfl,g⟩:=E3 h1 d6p;obtain⟨y0,ys,rfl,_,g⟩:=X1 g;obtain⟨y1,ys,rfl,g1,g⟩:=X1 g;exact b8o g1
theorem d56{H:Type}{d:Nat}{x:DataW H}(h:wfD Tryz.prog (d+6) 30 x):LmS (a88 x):=by
 obtain⟨xs,rfl,h'⟩:=E3 h d3H;obtain⟨x0,xs,rfl,h0,h'⟩:=X1 h';obtain⟨x1,xs,rfl,_,h'⟩:=X1 h';obtain⟨x2,xs,rfl,h2,h'⟩:=X1 h';obtain⟨x3,xs,rfl,_,h'⟩:=X1 h';obtain⟨x4,xs,rfl,h4,h'⟩:=X1 h';obtain⟨_,r2,r3⟩:=z7 h2 d3I;obtain⟨_,f2,f3⟩:=z7 h4 d3s;refine⟨d47 h0,⟨?_,fun r hr=> ?_⟩,⟨?_,fun i hi=> ?_⟩⟩
 ·show((U8 x2).map a1D).length<=_;rw[List.length_map];exact r2
 ·obtain⟨y,hy,rfl⟩:=List.mem_map.1 hr;exact d3Q (r3 y hy)
 ·show((U8 x4).map a0A).length<=_;rw[List.length_map];exact f2
 ·have hi:i<((U8 x4).map a0A).length:=hi;show LmF (((U8 x4).map a0A).getD i default);rw[List.length_map] at hi;rw[I2 a0A (U8 x4) i (d:=.nil) (d':=default) rfl,List.getD_eq_getElem?_getD,List.getElem?_eq_getElem hi]
  exact d53 (f3 _ (List.getElem_mem hi))

def a5g{H:Type}(x:DataW H):Txn:=⟨dI (M7 (V1 x) 0),dI (M7 (V1 x) 1)⟩
def b2f{H:Type}(x:DataW H):Wt:=⟨dI (M7 (V1 x) 0),dI (M7 (V1 x) 1)⟩
def a4M{H:Type}(x:DataW H):Lck:=⟨dI (M7 (V1 x) 0),dI (M7 (V1 x) 1),dI (M7 (V1 x) 2),dI (M7 (V1 x) 3)⟩
def b4L{H:Type}(x:DataW H):Lks:=⟨(U8 (M7 (V1 x) 0)).map a4M,(U8 (M7 (V1 x) 1)).map b2f⟩
def b7h{H:Type}(x:DataW H):Eng:=⟨a88 (M7 (V1 x) 0),dB (M7 (V1 x) 1),(U8 (M7 (V1 x) 2)).map a5g,b4L (M7 (V1 x) 3),dI (M7 (V1 x) 4)⟩
theorem d64:M2 Tryz.prog 118=some [3,3]:=by kernel_rfl
theorem d7p:M2 Tryz.prog 187=some [3,3]:=by kernel_rfl
theorem d6c:M2 Tryz.prog 185=some [3,3,3,3]:=by kernel_rfl
theorem d3E:M2 Tryz.prog 35=some [32,33]:=by kernel_rfl
theorem b77:M2 Tryz.prog 37=some [30,4,31,35,3]:=by kernel_rfl
theorem d3q:y7 Tryz.prog 31=some 118:=by kernel_rfl
theorem d3f:y7 Tryz.prog 32=some 185:=by kernel_rfl
theorem d65:y7 Tryz.prog 33=some 187:=by kernel_rfl
theorem d5k{H:Type}{d:Nat}(x:DataW H):m5 Tryz.prog (d+2) 118 x=(a5g x).ts:=by
 rw[N6 d64];simp only[trA,s9 a0F,List.append_nil,List.cons_append,List.nil_append];rfl
theorem d2A{H:Type}{d:Nat}(x:DataW H):m5 Tryz.prog (d+3) 31 x=[v8 ((U8 x).map a5g)]:=by
 rw[A2 d3q (by kernel_rfl),show Tryz.prog.cellsOf 118=2 by kernel_rfl]
 unfold v8;rw[List.length_map];congr 2
 funext i
 rw[d5k];exact congrArg Txn.ts (I2 a5g (U8 x) i (d:=.nil) (d':=default) rfl).symm
theorem d6v{H:Type}{d:Nat}(x:DataW H):m5 Tryz.prog (d+2) 187 x=(b2f x).ts:=by
 rw[N6 d7p];simp only[trA,s9 a0F,List.append_nil,List.cons_append,List.nil_append];rfl
theorem d5g{H:Type}{d:Nat}(x:DataW H):m5 Tryz.prog (d+3) 33 x=[wtS ((U8 x).map b2f)]:=by
 rw[A2 d65 (by kernel_rfl),show Tryz.prog.cellsOf 187=2 by kernel_rfl]
 unfold wtS;rw[List.length_map];congr 2
 funext i
 rw[d6v];exact congrArg Wt.ts (I2 b2f (U8 x) i (d:=.nil) (d':=default) rfl).symm
theorem d4V{H:Type}{d:Nat}(x:DataW H):m5 Tryz.prog (d+2) 185 x=(a4M x).ts:=by
 rw[N6 d6c];simp only[trA,s9 a0F,List.append_nil,List.cons_append,List.nil_append];rfl
theorem d1R{H:Type}{d:Nat}(x:DataW H):m5 Tryz.prog (d+3) 32 x=[D4 ((U8 x).map a4M)]:=by
 rw[A2 d3f (by kernel_rfl),show Tryz.prog.cellsOf 185=4 by kernel_rfl]
 unfold D4;rw[List.length_map];congr 2
 funext i
 rw[d4V];exact congrArg Lck.ts (I2 a4M (U8 x) i (d:=.nil) (d':=default) rfl).symm
theorem d4M{H:Type}{d:Nat}(x:DataW H):m5 Tryz.prog (d+4) 35 x=(b4L x).ts:=by
 rw[N6 d3E];simp only[trA,d1R,d5g,List.append_nil,List.cons_append,List.nil_append];rfl
theorem d0g{H:Type}{d:Nat}(x:DataW H):m5 Tryz.prog (d+6) 30 x=(a88 x).ts:=by
 rw[N6 d3H];exact d5b x
theorem d5Z{H:Type}{d:Nat}(x:DataW H):m5 Tryz.prog (d+7) 37 x=(b7h x).ts:=by
 rw[N6 b77];simp only[trA,s9 a0F,a9r b48,d0g (d:=d),d2A (d:=d+3),d4M (d:=d+2)];rfl
theorem d5t{H:Type}{d:Nat}{x:DataW H}(h:wfD Tryz.prog (d+4) 35 x):b8F (b4L x):=by
 obtain⟨xs,rfl,h'⟩:=E3 h d3E;obtain⟨x0,xs,rfl,h0,h'⟩:=X1 h';obtain⟨x1,xs,rfl,h1,h'⟩:=X1 h';refine⟨?_,?_⟩
 ·show((U8 x0).map a4M).length<=_;rw[List.length_map];exact(z7 h0 d3f).2.1
 ·show((U8 x1).map b2f).length<=_;rw[List.length_map];exact(z7 h1 d65).2.1
theorem d52{H:Type}{d:Nat}{x:DataW H}(h:wfD Tryz.prog (d+7) 37 x):b8H (b7h x):=by
 obtain⟨xs,rfl,h'⟩:=E3 h b77;obtain⟨x0,xs,rfl,h0,h'⟩:=X1 h';obtain⟨x1,xs,rfl,_,h'⟩:=X1 h';obtain⟨x2,xs,rfl,h2,h'⟩:=X1 h';obtain⟨x3,xs,rfl,h3,h'⟩:=X1 h';refine⟨d56 (d:=d) h0,?_,d5t (d:=d+2) h3⟩
 show((U8 x2).map a5g).length<=_;rw[List.length_map];exact(z7 (d:=d+5) h2 d3q).2.1
theorem c2e{e:Eng}(h:D6 e<=1048576):L9 e/\a46 e:=by
 have h0:D6 e=D1 e.s+e.txs.length+I9 e.lk:=rfl;have h1:I9 e.lk=e.lk.held.length+e.lk.waits.length:=rfl;obtain⟨s1,s2⟩:=c24 (s:=e.s) (by omega)
 exact⟨⟨s1,by omega,by omega,by omega⟩,s2,⟨by unfold N8;omega,by unfold N8;omega⟩,by unfold N8;omega⟩
theorem own:ownKnob Tryz.prog.godebug=none:=by kernel_rfl
theorem d3V{P:Program}{f:FuncId}{fn:Func}{s:ChangeSpec}{c:OpenClaim}(h0:c.wf (OpenSpec.ofChange s)=true)(h1:laidOutB P=true)(h2:mapsRowed P=true)
  (h3:fn.params.all (P.readableRec ·)=true) (h4:namedTie P c.named s.vars=true) (h5:(c.stops==[])=true) (h6:(P.stops==[])=true) (h7:(c.knobs==[])=true) (h8:(P.stopKnobs==[])=true)
  (h9:(c.inPlace==P.inPlace f)=true) (h10:(c.unfollowed==P.unfollowed f)=true) (h11:(c.recurses==P.recurses f)=true) (h12:(c.named==P.varsNamed f)=true)
  (h13:(c.maps==(fn.params.toList++s.plain.varTypes P).any (P.mapsRec ·))=true) (h14:(c.ifaces==(fn.params.toList++s.plain.varTypes P).any (P.ifacesRec ·))=true) (h15:(c.mapsOut==P.mapsAmong fn.resultTypes.toList)=true)
  (h16:(c.loops==(fn.params.toList++s.plain.varTypes P).any (P.loopsFrom ·))=true) (h17:(c.wideKeys==(fn.params.toList++s.plain.varTypes P++fn.resultTypes.toList).any (P.wideKeysFrom ·))=true)
  (h18:s.vars.all (P.varReadable ·)=true) (h19:fn.resultTypes.all (fun t=>P.readableRec t&&decide (t<P.types.size))=true) (h20:(c.ifacesOut==fn.resultTypes.toList.any (P.ifacesRec ·))=true)
  (h21:(c.loopsOut==fn.resultTypes.toList.any (P.loopsFrom ·))=true) (h22:(c.plainKeys==P.plainKeys)=true) (h23:c.shortTexts.isNone=true) (h24:P.stopsHeard=true) (h25:P.mayEnter=true)
  (h26:(c.lifted==P.liftsFinal)=true) (h27:(P.make==some c.make)=true) (h28:(c.kinds==(if c.domain.isEmpty then[] else fn.params.toList.map fun t=>match P.underlying t with|some (.int k)=>some k|_=>none))=true) (h29:(c.pinned==c.pinnedBy)=true)
  (h30:(c.veiled==(fn.params.toList++s.plain.varTypes P++fn.resultTypes.toList).any (P.veiledRec ·))=true) (h31:c.veiledFits P fn.params.toList (fn.params.toList++s.plain.varTypes P++fn.resultTypes.toList)=true):joinedFacts P f fn s c=true:=by
 simp only[joinedFacts,Bool.and_eq_true];exact⟨⟨⟨⟨⟨⟨⟨⟨⟨⟨⟨⟨⟨⟨⟨⟨⟨⟨⟨⟨⟨⟨⟨⟨⟨⟨⟨⟨⟨⟨⟨h0,h1⟩,h2⟩,h3⟩,h4⟩,h5⟩,h6⟩,h7⟩,h8⟩,h9⟩,h10⟩,h11⟩,h12⟩,h13⟩,h14⟩,h15⟩,h16⟩,h17⟩,h18⟩,h19⟩,h20⟩,h21⟩,h22⟩,h23⟩,h24⟩,h25⟩,h26⟩,h27⟩,h28⟩,h29⟩,h30⟩,h31⟩
end Go.Proofs.YtokaojbaacnngaaGreat

