/- A part of the proof. -/
import Derived.Test.YtokaojbaacnngaaGreatW6
import Derived.Test.YtokaojbaacnngaaGreatSSW
import Derived.Test.YtokaojbaacnngaaGreatRows
import Derived.WalkKit
import Derived.ProofKit
import Derived.JoinedOf
import Derived.Handed
import Derived.WideWitness

namespace Go.Proofs.YtokaojbaacnngaaGreat
open Go.SS Go.RowKit
def sV{H:Type}(x:DataW H):Rec:=⟨dI (K3 (T8 x) 0),dI (K3 (T8 x) 1),dI (K3 (T8 x) 2),dI (K3 (T8 x) 3),dI (K3 (T8 x) 4),dI (K3 (T8 x) 5),dI (K3 (T8 x) 6),dI (K3 (T8 x) 7),dS (K3 (T8 x) 8),dS (K3 (T8 x) 9)⟩
set_option maxRecDepth 100000 in
theorem vT:sE Tryz.prog 3=true:=by kernel_rfl
theorem a6u:mG Tryz.prog 9=true:=by kernel_rfl
theorem a3A:eB Tryz.prog 4=true:=by kernel_rfl
set_option maxRecDepth 100000 in
theorem b7z:J4 Tryz.prog 168=some [3,3,3,3,3,3,3,3,9,9]:=by kernel_rfl
set_option maxRecDepth 100000 in
theorem b72{H:Type}{d:Nat}(x:DataW H):zK Tryz.prog (d+2) 168 x=(sV x).ts:=by
 rw[L0 b7z];simp only[trA,zX vT,a2I a6u,List.append_nil,List.cons_append,List.nil_append];rfl
set_option maxRecDepth 100000 in
theorem dX{H:Type}{d:Nat}{x:DataW H}(h:oO Tryz.prog (d+1) 9 x):(dS x).length<=9223372036854775807:=by
 obtain⟨l,rfl,hl⟩:=b8P h a6u;exact hl
set_option maxRecDepth 100000 in
theorem b76{H:Type}{d:Nat}{x:DataW H}(h:oO Tryz.prog (d+2) 168 x):a8B (sV x):=by
 obtain⟨xs,rfl,h'⟩:=A2 h b7z;obtain⟨x0,xs,rfl,_,h⟩:=V8 h';obtain⟨x1,xs,rfl,_,h⟩:=V8 h;obtain⟨x2,xs,rfl,_,h⟩:=V8 h;obtain⟨x3,xs,rfl,_,h⟩:=V8 h;obtain⟨x4,xs,rfl,_,h⟩:=V8 h;obtain⟨x5,xs,rfl,_,h⟩:=V8 h;obtain⟨x6,xs,rfl,_,h⟩:=V8 h;obtain⟨x7,xs,rfl,_,h⟩:=V8 h;obtain⟨x8,xs,rfl,h8,h⟩:=V8 h;obtain⟨x9,xs,rfl,h9,h⟩:=V8 h;exact⟨dX h8,dX h9⟩
set_option maxRecDepth 100000 in
theorem b7S:m3 Tryz.prog 27=some 168:=by kernel_rfl
set_option maxRecDepth 100000 in
theorem b6S{H:Type}{d:Nat}(x:DataW H):(T.sl (Tryz.prog.cellsOf 168) (T5 x).length λi=>zK Tryz.prog (d+2) 168 ((T5 x).getD i .nil))=l9 ((T5 x).map sV):=by
 unfold l9;rw[show Tryz.prog.cellsOf 168=10 by kernel_rfl,List.length_map]
 congr 1
 funext i
 rw[b72];unfold Y7;exact congrArg Rec.ts (D8 sV (T5 x) i (d:=.nil) (d':=default) rfl).symm

def xB{H:Type}(x:DataW H):List (List UInt8):=(T5 x).map dS
def dE{H:Type}(x:DataW H):List Int:=(T5 x).map dI
def uF{H:Type}(x:DataW H):Pend:=⟨dI (K3 (T8 x) 0),dS (K3 (T8 x) 1)⟩
def a3P{H:Type}(x:DataW H):Dsk:=⟨xB (K3 (T8 x) 0),(T5 (K3 (T8 x) 1)).map uF,dB (K3 (T8 x) 2),dE (K3 (T8 x) 3)⟩
def b7J{H:Type}(x:DataW H):Pg:=⟨dI (K3 (T8 x) 0),xB (K3 (T8 x) 1)⟩
def wW{H:Type}(x:DataW H):Frm:=⟨dI (K3 (T8 x) 0),b7J (K3 (T8 x) 1),dB (K3 (T8 x) 2),dI (K3 (T8 x) 3)⟩
def cO{H:Type}(x:DataW H):Sto:=⟨a3P (K3 (T8 x) 0),dI (K3 (T8 x) 1),(T5 (K3 (T8 x) 2)).map sV,dI (K3 (T8 x) 3),(T5 (K3 (T8 x) 4)).map wW,dI (K3 (T8 x) 5)⟩
set_option maxRecDepth 100000
theorem b7v:m3 Tryz.prog 22=some 9:=by kernel_rfl
theorem b7s:m3 Tryz.prog 24=some 3:=by kernel_rfl
theorem b3z:m3 Tryz.prog 23=some 226:=by kernel_rfl
theorem b7O:m3 Tryz.prog 28=some 172:=by kernel_rfl
theorem b2J:J4 Tryz.prog 226=some [3,9]:=by kernel_rfl
theorem b7T:J4 Tryz.prog 26=some [22,23,4,24]:=by kernel_rfl
theorem c0c:J4 Tryz.prog 170=some [3,22]:=by kernel_rfl
theorem b7K:J4 Tryz.prog 172=some [3,170,4,3]:=by kernel_rfl
theorem b7L:J4 Tryz.prog 30=some [26,3,27,3,28,3]:=by kernel_rfl
theorem a6h{H:Type}{d:Nat}(x:DataW H):zK Tryz.prog (d+2) 22 x=[B4 (xB x)]:=by
 rw[q7 b7v (by kernel_rfl),show Tryz.prog.cellsOf 9=1 by kernel_rfl]
 unfold B4 xB;rw[List.length_map];congr 2
 funext i
 rw[a2I a6u];exact congrArg (λl=>[T.str l]) (D8 dS (T5 x) i (d:=.nil) (d':=[]) rfl).symm
theorem b5z{H:Type}{d:Nat}(x:DataW H):zK Tryz.prog (d+2) 24 x=[vQ (dE x)]:=by
 rw[q7 b7s (by kernel_rfl),show Tryz.prog.cellsOf 3=1 by kernel_rfl]
 unfold vQ dE;rw[List.length_map];congr 2
 funext i
 rw[zX vT];exact congrArg (λl=>[T.int .i64 l]) (D8 dI (T5 x) i (d:=.nil) (d':=0) rfl).symm
theorem b51{H:Type}{d:Nat}(x:DataW H):zK Tryz.prog (d+2) 226 x=(uF x).ts:=by
 rw[L0 b2J];simp only[trA,zX vT,a2I a6u,List.append_nil,List.cons_append,List.nil_append];rfl
theorem b1i{H:Type}{d:Nat}(x:DataW H):zK Tryz.prog (d+3) 23 x=[C2 ((T5 x).map uF)]:=by
 rw[q7 b3z (by kernel_rfl),show Tryz.prog.cellsOf 226=2 by kernel_rfl]
 unfold C2;rw[List.length_map];congr 2
 funext i
 rw[b51];exact congrArg Pend.ts (D8 uF (T5 x) i (d:=.nil) (d':=default) rfl).symm
theorem b9b{H:Type}{d:Nat}(x:DataW H):zK Tryz.prog (d+4) 26 x=(a3P x).ts:=by
 rw[L0 b7T];simp only[trA,eU a3A,a6h (d:=d+1),b5z (d:=d+1),b1i,List.append_nil,List.cons_append,List.nil_append];rfl
theorem c0r{H:Type}{d:Nat}(x:DataW H):zK Tryz.prog (d+3) 170 x=(b7J x).ts:=by
 rw[L0 c0c];simp only[trA,zX vT,a6h,List.append_nil,List.cons_append,List.nil_append];rfl
theorem b8T{H:Type}{d:Nat}(x:DataW H):zK Tryz.prog (d+4) 172 x=(wW x).ts:=by
 rw[L0 b7K];simp only[trA,zX vT,eU a3A,c0r];rfl
theorem b7f{H:Type}{d:Nat}(x:DataW H):zK Tryz.prog (d+5) 28 x=[wZ ((T5 x).map wW)]:=by
 rw[q7 b7O (by kernel_rfl),show Tryz.prog.cellsOf 172=5 by kernel_rfl]
 unfold wZ;rw[List.length_map];congr 2
 funext i
 rw[b8T];exact congrArg Frm.ts (D8 wW (T5 x) i (d:=.nil) (d':=default) rfl).symm
theorem b6l{H:Type}{d:Nat}(x:DataW H):zK Tryz.prog (d+3) 27 x=[l9 ((T5 x).map sV)]:=by
 rw[q7 b7S (by kernel_rfl),b6S]
theorem b9G{H:Type}{d:Nat}(x:DataW H):trA Tryz.prog (d+5) [26,3,27,3,28,3] (T8 x)=(cO x).ts:=by
 simp only[trA,zX vT,b9b (d:=d+1),b6l (d:=d+2),b7f];rfl
theorem a6p{H:Type}{d:Nat}{x:DataW H}(h:oO Tryz.prog (d+2) 22 x):LmL [] (λs=>qO s.length) (xB x):=by
 obtain⟨_,h2,h3⟩:=t7 h b7v;refine⟨by unfold xB;rw[List.length_map];exact h2,λi hi=> ?_⟩
 unfold xB at hi ⊢;rw[List.length_map] at hi;rw[D8 dS (T5 x) i (d:=.nil) (d':=[]) rfl,N9,L4 hi]
 exact dX (h3 _ (List.getElem_mem hi))
theorem b1S{H:Type}{d:Nat}{x:DataW H}(h:oO Tryz.prog (d+3) 23 x):LmL default LmP ((T5 x).map uF):=by
 obtain⟨_,h2,h3⟩:=t7 h b3z;refine⟨by rw[List.length_map];exact h2,λi hi=> ?_⟩
 rw[List.length_map] at hi;rw[D8 uF (T5 x) i (d:=.nil) (d':=default) rfl,N9,L4 hi]
 obtain⟨xs,he,h'⟩:=A2 (h3 _ (List.getElem_mem hi)) b2J;obtain⟨x0,xs,rfl,_,h'⟩:=V8 h';obtain⟨x1,xs,rfl,h1,h'⟩:=V8 h';show(dS (K3 (T8 (T5 x)[i]) 1)).length<=_;rw[he];exact dX h1
theorem b9P{H:Type}{d:Nat}{x:DataW H}(h:oO Tryz.prog (d+4) 26 x):LmD (a3P x):=by
 obtain⟨xs,rfl,h'⟩:=A2 h b7T;obtain⟨x0,xs,rfl,h0,h'⟩:=V8 h';obtain⟨x1,xs,rfl,h1,h'⟩:=V8 h';obtain⟨x2,xs,rfl,_,h'⟩:=V8 h';obtain⟨x3,xs,rfl,h3,h'⟩:=V8 h';refine⟨a6p h0,b1S h1,?_⟩
 show((T5 x3).map dI).length<=_;rw[List.length_map];exact(t7 h3 b7s).2.1
theorem b90{H:Type}{d:Nat}{x:DataW H}(h:oO Tryz.prog (d+4) 172 x):LmF (wW x):=by
 obtain⟨xs,rfl,h'⟩:=A2 h b7K;obtain⟨x0,xs,rfl,_,h'⟩:=V8 h';obtain⟨x1,xs,rfl,h1,h'⟩:=V8 h';obtain⟨ys,rfl,g⟩:=A2 h1 c0c;obtain⟨y0,ys,rfl,_,g⟩:=V8 g;obtain⟨y1,ys,rfl,g1,g⟩:=V8 g;exact a6p g1
theorem b9k{H:Type}{d:Nat}{x:DataW H}(h:oO Tryz.prog (d+6) 30 x):LmS (cO x):=by
 obtain⟨xs,rfl,h'⟩:=A2 h b7L;obtain⟨x0,xs,rfl,h0,h'⟩:=V8 h';obtain⟨x1,xs,rfl,_,h'⟩:=V8 h';obtain⟨x2,xs,rfl,h2,h'⟩:=V8 h';obtain⟨x3,xs,rfl,_,h'⟩:=V8 h';obtain⟨x4,xs,rfl,h4,h'⟩:=V8 h';obtain⟨_,r2,r3⟩:=t7 h2 b7S;obtain⟨_,f2,f3⟩:=t7 h4 b7O;refine⟨b9P h0,⟨?_,λr hr=> ?_⟩,⟨?_,λi hi=> ?_⟩⟩
 ·show((T5 x2).map sV).length<=_;rw[List.length_map];exact r2
 ·obtain⟨y,hy,rfl⟩:=List.mem_map.1 hr;exact b76 (r3 y hy)
 ·show((T5 x4).map wW).length<=_;rw[List.length_map];exact f2
 ·have hi:i<((T5 x4).map wW).length:=hi;show LmF (((T5 x4).map wW).getD i default);rw[List.length_map] at hi;rw[D8 wW (T5 x4) i (d:=.nil) (d':=default) rfl,N9,L4 hi]
  exact b90 (f3 _ (List.getElem_mem hi))

def nJ{H:Type}(x:DataW H):Txn:=⟨dI (K3 (T8 x) 0),dI (K3 (T8 x) 1)⟩
def a0O{H:Type}(x:DataW H):Wt:=⟨dI (K3 (T8 x) 0),dI (K3 (T8 x) 1)⟩
def kL{H:Type}(x:DataW H):Lck:=⟨dI (K3 (T8 x) 0),dI (K3 (T8 x) 1),dI (K3 (T8 x) 2),dI (K3 (T8 x) 3)⟩
def a3F{H:Type}(x:DataW H):Lks:=⟨(T5 (K3 (T8 x) 0)).map kL,(T5 (K3 (T8 x) 1)).map a0O⟩
def a4i{H:Type}(x:DataW H):Eng:=⟨cO (K3 (T8 x) 0),dB (K3 (T8 x) 1),(T5 (K3 (T8 x) 2)).map nJ,a3F (K3 (T8 x) 3),dI (K3 (T8 x) 4)⟩
theorem c0Z:J4 Tryz.prog 118=some [3,3]:=by kernel_rfl
theorem c1e:J4 Tryz.prog 187=some [3,3]:=by kernel_rfl
theorem c0U:J4 Tryz.prog 185=some [3,3,3,3]:=by kernel_rfl
theorem b7A:J4 Tryz.prog 35=some [32,33]:=by kernel_rfl
theorem a5c:J4 Tryz.prog 37=some [30,4,31,35,3]:=by kernel_rfl
theorem b7N:m3 Tryz.prog 31=some 118:=by kernel_rfl
theorem b7x:m3 Tryz.prog 32=some 185:=by kernel_rfl
theorem c0O:m3 Tryz.prog 33=some 187:=by kernel_rfl
theorem b9D{H:Type}{d:Nat}(x:DataW H):zK Tryz.prog (d+2) 118 x=(nJ x).ts:=by
 rw[L0 c0Z];simp only[trA,zX vT,List.append_nil,List.cons_append,List.nil_append];rfl
theorem b4Y{H:Type}{d:Nat}(x:DataW H):zK Tryz.prog (d+3) 31 x=[vP ((T5 x).map nJ)]:=by
 rw[q7 b7N (by kernel_rfl),show Tryz.prog.cellsOf 118=2 by kernel_rfl]
 unfold vP;rw[List.length_map];congr 2
 funext i
 rw[b9D];exact congrArg Txn.ts (D8 nJ (T5 x) i (d:=.nil) (d':=default) rfl).symm
theorem b99{H:Type}{d:Nat}(x:DataW H):zK Tryz.prog (d+2) 187 x=(a0O x).ts:=by
 rw[L0 c1e];simp only[trA,zX vT,List.append_nil,List.cons_append,List.nil_append];rfl
theorem b8r{H:Type}{d:Nat}(x:DataW H):zK Tryz.prog (d+3) 33 x=[oP ((T5 x).map a0O)]:=by
 rw[q7 c0O (by kernel_rfl),show Tryz.prog.cellsOf 187=2 by kernel_rfl]
 unfold oP;rw[List.length_map];congr 2
 funext i
 rw[b99];exact congrArg Wt.ts (D8 a0O (T5 x) i (d:=.nil) (d':=default) rfl).symm
theorem b9h{H:Type}{d:Nat}(x:DataW H):zK Tryz.prog (d+2) 185 x=(kL x).ts:=by
 rw[L0 c0U];simp only[trA,zX vT,List.append_nil,List.cons_append,List.nil_append];rfl
theorem b62{H:Type}{d:Nat}(x:DataW H):zK Tryz.prog (d+3) 32 x=[zJ ((T5 x).map kL)]:=by
 rw[q7 b7x (by kernel_rfl),show Tryz.prog.cellsOf 185=4 by kernel_rfl]
 unfold zJ;rw[List.length_map];congr 2
 funext i
 rw[b9h];exact congrArg Lck.ts (D8 kL (T5 x) i (d:=.nil) (d':=default) rfl).symm
theorem b79{H:Type}{d:Nat}(x:DataW H):zK Tryz.prog (d+4) 35 x=(a3F x).ts:=by
 rw[L0 b7A];simp only[trA,b62,b8r,List.append_nil,List.cons_append,List.nil_append];rfl
theorem b4B{H:Type}{d:Nat}(x:DataW H):zK Tryz.prog (d+6) 30 x=(cO x).ts:=by
 rw[L0 b7L];exact b9G x
theorem b9w{H:Type}{d:Nat}(x:DataW H):zK Tryz.prog (d+7) 37 x=(a4i x).ts:=by
 rw[L0 a5c];simp only[trA,zX vT,eU a3A,b4B (d:=d),b4Y (d:=d+3),b79 (d:=d+2)];rfl
theorem b8b{H:Type}{d:Nat}{x:DataW H}(h:oO Tryz.prog (d+4) 35 x):a5M (a3F x):=by
 obtain⟨xs,rfl,h'⟩:=A2 h b7A;obtain⟨x0,xs,rfl,h0,h'⟩:=V8 h';obtain⟨x1,xs,rfl,h1,h'⟩:=V8 h';refine⟨?_,?_⟩
 ·show((T5 x0).map kL).length<=_;rw[List.length_map];exact(t7 h0 b7x).2.1
 ·show((T5 x1).map a0O).length<=_;rw[List.length_map];exact(t7 h1 c0O).2.1
theorem b91{H:Type}{d:Nat}{x:DataW H}(h:oO Tryz.prog (d+7) 37 x):a6o (a4i x):=by
 obtain⟨xs,rfl,h'⟩:=A2 h a5c;obtain⟨x0,xs,rfl,h0,h'⟩:=V8 h';obtain⟨x1,xs,rfl,_,h'⟩:=V8 h';obtain⟨x2,xs,rfl,h2,h'⟩:=V8 h';obtain⟨x3,xs,rfl,h3,h'⟩:=V8 h';refine⟨b9k (d:=d) h0,?_,b8b (d:=d+2) h3⟩
 show((T5 x2).map nJ).length<=_;rw[List.length_map];exact(t7 (d:=d+5) h2 b7N).2.1
theorem a6S{e:Eng}(h:u4 e<=1048576):M8 e/\eR e:=by
 have h0:u4 e=w7 e.s+e.txs.length+C6 e.lk:=rfl;have h1:C6 e.lk=e.lk.held.length+e.lk.waits.length:=rfl;obtain⟨s1,s2⟩:=a8V (s:=e.s) (by omega)
 exact⟨⟨s1,by omega,by omega,by omega⟩,s2,⟨by unfold N3;omega,by unfold N3;omega⟩,by unfold N3;omega⟩
theorem own:ownKnob Tryz.prog.godebug=none:=by kernel_rfl
theorem b9v{P:Program}{f:FuncId}{fn:Func}{s:ChangeSpec}{c:OpenClaim}(h0:c.wf (OpenSpec.ofChange s)=true)(h1:laidOutB P=true)(h2:mapsRowed P=true)
  (h3:fn.params.all (P.readableRec ·)=true) (h4:namedTie P c.named s.vars=true) (h5:(c.stops==[])=true) (h6:(P.stops==[])=true) (h7:(c.knobs==[])=true) (h8:(P.stopKnobs==[])=true)
  (h9:(c.inPlace==P.inPlace f)=true) (h10:(c.unfollowed==P.unfollowed f)=true) (h11:(c.recurses==P.recurses f)=true) (h12:(c.named==P.varsNamed f)=true)
  (h13:(c.maps==(fn.params.toList++s.plain.varTypes P).any (P.mapsRec ·))=true) (h14:(c.ifaces==(fn.params.toList++s.plain.varTypes P).any (P.ifacesRec ·))=true) (h15:(c.mapsOut==P.mapsAmong fn.resultTypes.toList)=true)
  (h16:(c.loops==(fn.params.toList++s.plain.varTypes P).any (P.loopsFrom ·))=true) (h17:(c.wideKeys==(fn.params.toList++s.plain.varTypes P++fn.resultTypes.toList).any (P.wideKeysFrom ·))=true)
  (h18:s.vars.all (P.varReadable ·)=true) (h19:fn.resultTypes.all (λt=>P.readableRec t&&decide (t<P.types.size))=true) (h20:(c.ifacesOut==fn.resultTypes.toList.any (P.ifacesRec ·))=true)
  (h21:(c.loopsOut==fn.resultTypes.toList.any (P.loopsFrom ·))=true) (h22:(c.plainKeys==P.plainKeys)=true) (h23:c.shortTexts.isNone=true) (h24:P.stopsHeard=true) (h25:P.mayEnter=true)
  (h26:(c.lifted==P.liftsFinal)=true) (h27:(P.make==some c.make)=true) (h28:(c.kinds==(if c.domain.isEmpty then[] else fn.params.toList.map λt=>match P.underlying t with|some (.int k)=>some k|_=>none))=true) (h29:(c.pinned==c.pinnedBy)=true)
  (h30:(c.veiled==(fn.params.toList++s.plain.varTypes P++fn.resultTypes.toList).any (P.veiledRec ·))=true) (h31:c.veiledFits P fn.params.toList (fn.params.toList++s.plain.varTypes P++fn.resultTypes.toList)=true):joinedFacts P f fn s c=true:=by
 simp only[joinedFacts,I3];exact⟨⟨⟨⟨⟨⟨⟨⟨⟨⟨⟨⟨⟨⟨⟨⟨⟨⟨⟨⟨⟨⟨⟨⟨⟨⟨⟨⟨⟨⟨⟨h0,h1⟩,h2⟩,h3⟩,h4⟩,h5⟩,h6⟩,h7⟩,h8⟩,h9⟩,h10⟩,h11⟩,h12⟩,h13⟩,h14⟩,h15⟩,h16⟩,h17⟩,h18⟩,h19⟩,h20⟩,h21⟩,h22⟩,h23⟩,h24⟩,h25⟩,h26⟩,h27⟩,h28⟩,h29⟩,h30⟩,h31⟩
end Go.Proofs.YtokaojbaacnngaaGreat

