/- A part of the proof. -/
import Derived.Test.YtokaojbaacnngaaGreatW6
import Derived.Test.YtokaojbaacnngaaGreatSSW
import Derived.Test.YtokaojbaacnngaaGreatRows
import Derived.WalkKit
import Derived.ProofKit
import Derived.JoinedOf
import Derived.Handed
import Derived.WideWitness

namespace Go.Proofs.YtokaojbaacnngaaGreat
open Go.SS Go.RowKit
def sS{H:Type}(x:DataW H):Rec:=⟨dI (K9 (U2 x) 0),dI (K9 (U2 x) 1),dI (K9 (U2 x) 2),dI (K9 (U2 x) 3),dI (K9 (U2 x) 4),dI (K9 (U2 x) 5),dI (K9 (U2 x) 6),dI (K9 (U2 x) 7),dS (K9 (U2 x) 8),dS (K9 (U2 x) 9)⟩
set_option maxRecDepth 100000 in
theorem zH:tQ Tryz.prog 3=true:=by kernel_rfl
theorem a52:nC Tryz.prog 9=true:=by kernel_rfl
theorem a2t:fY Tryz.prog 4=true:=by kernel_rfl
set_option maxRecDepth 100000 in
theorem b6y:J9 Tryz.prog 168=some [3,3,3,3,3,3,3,3,9,9]:=by kernel_rfl
set_option maxRecDepth 100000 in
theorem b6Y{H:Type}{d:Nat}(x:DataW H):zR Tryz.prog (d+2) 168 x=(sS x).ts:=by
 rw[L7 b6y];simp only[trA,i6 zH,a3a a52,List.append_nil,List.cons_append,List.nil_append];rfl
set_option maxRecDepth 100000 in
theorem eV{H:Type}{d:Nat}{x:DataW H}(h:pI Tryz.prog (d+1) 9 x):(dS x).length<=9223372036854775807:=by
 obtain⟨l,rfl,hl⟩:=b8P h a52;exact hl
set_option maxRecDepth 100000 in
theorem b7V{H:Type}{d:Nat}{x:DataW H}(h:pI Tryz.prog (d+2) 168 x):a7x (sS x):=by
 obtain⟨xs,rfl,h'⟩:=B0 h b6y;obtain⟨x0,xs,rfl,_,h⟩:=W1 h';obtain⟨x1,xs,rfl,_,h⟩:=W1 h;obtain⟨x2,xs,rfl,_,h⟩:=W1 h;obtain⟨x3,xs,rfl,_,h⟩:=W1 h;obtain⟨x4,xs,rfl,_,h⟩:=W1 h;obtain⟨x5,xs,rfl,_,h⟩:=W1 h;obtain⟨x6,xs,rfl,_,h⟩:=W1 h;obtain⟨x7,xs,rfl,_,h⟩:=W1 h;obtain⟨x8,xs,rfl,h8,h⟩:=W1 h;obtain⟨x9,xs,rfl,h9,h⟩:=W1 h;exact⟨eV h8,eV h9⟩
set_option maxRecDepth 100000 in
theorem b6l:o7 Tryz.prog 27=some 168:=by kernel_rfl
set_option maxRecDepth 100000 in
theorem b4D{H:Type}{d:Nat}(x:DataW H):(T.sl (Tryz.prog.cellsOf 168) (T8 x).length λi=>zR Tryz.prog (d+2) 168 ((T8 x).getD i .nil))=o5 ((T8 x).map sS):=by
 unfold o5;rw[show Tryz.prog.cellsOf 168=10 by kernel_rfl,List.length_map]
 congr 1
 funext i
 rw[b6Y];unfold Y7;exact congrArg Rec.ts (E3 sS (T8 x) i (d:=.nil) (d':=default) rfl).symm

def wI{H:Type}(x:DataW H):List (List UInt8):=(T8 x).map dS
def cU{H:Type}(x:DataW H):List Int:=(T8 x).map dI
def uV{H:Type}(x:DataW H):Pend:=⟨dI (K9 (U2 x) 0),dS (K9 (U2 x) 1)⟩
def a3b{H:Type}(x:DataW H):Dsk:=⟨wI (K9 (U2 x) 0),(T8 (K9 (U2 x) 1)).map uV,dB (K9 (U2 x) 2),cU (K9 (U2 x) 3)⟩
def b6d{H:Type}(x:DataW H):Pg:=⟨dI (K9 (U2 x) 0),wI (K9 (U2 x) 1)⟩
def wX{H:Type}(x:DataW H):Frm:=⟨dI (K9 (U2 x) 0),b6d (K9 (U2 x) 1),dB (K9 (U2 x) 2),dI (K9 (U2 x) 3)⟩
def eK{H:Type}(x:DataW H):Sto:=⟨a3b (K9 (U2 x) 0),dI (K9 (U2 x) 1),(T8 (K9 (U2 x) 2)).map sS,dI (K9 (U2 x) 3),(T8 (K9 (U2 x) 4)).map wX,dI (K9 (U2 x) 5)⟩
set_option maxRecDepth 100000
theorem b6m:o7 Tryz.prog 22=some 9:=by kernel_rfl
theorem b6c:o7 Tryz.prog 24=some 3:=by kernel_rfl
theorem b2f:o7 Tryz.prog 23=some 226:=by kernel_rfl
theorem b6w:o7 Tryz.prog 28=some 172:=by kernel_rfl
theorem b1F:J9 Tryz.prog 226=some [3,9]:=by kernel_rfl
theorem b6v:J9 Tryz.prog 26=some [22,23,4,24]:=by kernel_rfl
theorem b82:J9 Tryz.prog 170=some [3,22]:=by kernel_rfl
theorem b6n:J9 Tryz.prog 172=some [3,170,4,3]:=by kernel_rfl
theorem b6t:J9 Tryz.prog 30=some [26,3,27,3,28,3]:=by kernel_rfl
theorem a5j{H:Type}{d:Nat}(x:DataW H):zR Tryz.prog (d+2) 22 x=[C0 (wI x)]:=by
 rw[t4 b6m (by kernel_rfl),show Tryz.prog.cellsOf 9=1 by kernel_rfl]
 unfold C0 wI;rw[List.length_map];congr 2
 funext i
 rw[a3a a52];exact congrArg (λl=>[T.str l]) (E3 dS (T8 x) i (d:=.nil) (d':=[]) rfl).symm
theorem b3T{H:Type}{d:Nat}(x:DataW H):zR Tryz.prog (d+2) 24 x=[wE (cU x)]:=by
 rw[t4 b6c (by kernel_rfl),show Tryz.prog.cellsOf 3=1 by kernel_rfl]
 unfold wE cU;rw[List.length_map];congr 2
 funext i
 rw[i6 zH];exact congrArg (λl=>[T.int .i64 l]) (E3 dI (T8 x) i (d:=.nil) (d':=0) rfl).symm
theorem b5H{H:Type}{d:Nat}(x:DataW H):zR Tryz.prog (d+2) 226 x=(uV x).ts:=by
 rw[L7 b1F];simp only[trA,i6 zH,a3a a52,List.append_nil,List.cons_append,List.nil_append];rfl
theorem b0E{H:Type}{d:Nat}(x:DataW H):zR Tryz.prog (d+3) 23 x=[C8 ((T8 x).map uV)]:=by
 rw[t4 b2f (by kernel_rfl),show Tryz.prog.cellsOf 226=2 by kernel_rfl]
 unfold C8;rw[List.length_map];congr 2
 funext i
 rw[b5H];exact congrArg Pend.ts (E3 uV (T8 x) i (d:=.nil) (d':=default) rfl).symm
theorem b7U{H:Type}{d:Nat}(x:DataW H):zR Tryz.prog (d+4) 26 x=(a3b x).ts:=by
 rw[L7 b6v];simp only[trA,hC a2t,a5j (d:=d+1),b3T (d:=d+1),b0E,List.append_nil,List.cons_append,List.nil_append];rfl
theorem b8S{H:Type}{d:Nat}(x:DataW H):zR Tryz.prog (d+3) 170 x=(b6d x).ts:=by
 rw[L7 b82];simp only[trA,i6 zH,a5j,List.append_nil,List.cons_append,List.nil_append];rfl
theorem b7i{H:Type}{d:Nat}(x:DataW H):zR Tryz.prog (d+4) 172 x=(wX x).ts:=by
 rw[L7 b6n];simp only[trA,i6 zH,hC a2t,b8S];rfl
theorem b5U{H:Type}{d:Nat}(x:DataW H):zR Tryz.prog (d+5) 28 x=[wL ((T8 x).map wX)]:=by
 rw[t4 b6w (by kernel_rfl),show Tryz.prog.cellsOf 172=5 by kernel_rfl]
 unfold wL;rw[List.length_map];congr 2
 funext i
 rw[b7i];exact congrArg Frm.ts (E3 wX (T8 x) i (d:=.nil) (d':=default) rfl).symm
theorem b5I{H:Type}{d:Nat}(x:DataW H):zR Tryz.prog (d+3) 27 x=[o5 ((T8 x).map sS)]:=by
 rw[t4 b6l (by kernel_rfl),b4D]
theorem b7m{H:Type}{d:Nat}(x:DataW H):trA Tryz.prog (d+5) [26,3,27,3,28,3] (U2 x)=(eK x).ts:=by
 simp only[trA,i6 zH,b7U (d:=d+1),b5I (d:=d+2),b5U];rfl
theorem a4Q{H:Type}{d:Nat}{x:DataW H}(h:pI Tryz.prog (d+2) 22 x):LmL [] (λs=>rE s.length) (wI x):=by
 obtain⟨_,h2,h3⟩:=u4 h b6m;refine⟨by unfold wI;rw[List.length_map];exact h2,λi hi=> ?_⟩
 unfold wI at hi ⊢;rw[List.length_map] at hi;rw[E3 dS (T8 x) i (d:=.nil) (d':=[]) rfl,L5,L4 hi]
 exact eV (h3 _ (List.getElem_mem hi))
theorem b0n{H:Type}{d:Nat}{x:DataW H}(h:pI Tryz.prog (d+3) 23 x):LmL default LmP ((T8 x).map uV):=by
 obtain⟨_,h2,h3⟩:=u4 h b2f;refine⟨by rw[List.length_map];exact h2,λi hi=> ?_⟩
 rw[List.length_map] at hi;rw[E3 uV (T8 x) i (d:=.nil) (d':=default) rfl,L5,L4 hi]
 obtain⟨xs,he,h'⟩:=B0 (h3 _ (List.getElem_mem hi)) b1F;obtain⟨x0,xs,rfl,_,h'⟩:=W1 h';obtain⟨x1,xs,rfl,h1,h'⟩:=W1 h';show(dS (K9 (U2 (T8 x)[i]) 1)).length<=_;rw[he];exact eV h1
theorem b7v{H:Type}{d:Nat}{x:DataW H}(h:pI Tryz.prog (d+4) 26 x):LmD (a3b x):=by
 obtain⟨xs,rfl,h'⟩:=B0 h b6v;obtain⟨x0,xs,rfl,h0,h'⟩:=W1 h';obtain⟨x1,xs,rfl,h1,h'⟩:=W1 h';obtain⟨x2,xs,rfl,_,h'⟩:=W1 h';obtain⟨x3,xs,rfl,h3,h'⟩:=W1 h';refine⟨a4Q h0,b0n h1,?_⟩
 show((T8 x3).map dI).length<=_;rw[List.length_map];exact(u4 h3 b6c).2.1
theorem b8a{H:Type}{d:Nat}{x:DataW H}(h:pI Tryz.prog (d+4) 172 x):LmF (wX x):=by
 obtain⟨xs,rfl,h'⟩:=B0 h b6n;obtain⟨x0,xs,rfl,_,h'⟩:=W1 h';obtain⟨x1,xs,rfl,h1,h'⟩:=W1 h';obtain⟨ys,rfl,g⟩:=B0 h1 b82;obtain⟨y0,ys,rfl,_,g⟩:=W1 g;obtain⟨y1,ys,rfl,g1,g⟩:=W1 g;exact a4Q g1
theorem b8G{H:Type}{d:Nat}{x:DataW H}(h:pI Tryz.prog (d+6) 30 x):LmS (eK x):=by
 obtain⟨xs,rfl,h'⟩:=B0 h b6t;obtain⟨x0,xs,rfl,h0,h'⟩:=W1 h';obtain⟨x1,xs,rfl,_,h'⟩:=W1 h';obtain⟨x2,xs,rfl,h2,h'⟩:=W1 h';obtain⟨x3,xs,rfl,_,h'⟩:=W1 h';obtain⟨x4,xs,rfl,h4,h'⟩:=W1 h';obtain⟨_,r2,r3⟩:=u4 h2 b6l;obtain⟨_,f2,f3⟩:=u4 h4 b6w;refine⟨b7v h0,⟨?_,λr hr=> ?_⟩,⟨?_,λi hi=> ?_⟩⟩
 ·show((T8 x2).map sS).length<=_;rw[List.length_map];exact r2
 ·obtain⟨y,hy,rfl⟩:=List.mem_map.1 hr;exact b7V (r3 y hy)
 ·show((T8 x4).map wX).length<=_;rw[List.length_map];exact f2
 ·have hi:i<((T8 x4).map wX).length:=hi;show LmF (((T8 x4).map wX).getD i default);rw[List.length_map] at hi;rw[E3 wX (T8 x4) i (d:=.nil) (d':=default) rfl,L5,L4 hi]
  exact b8a (f3 _ (List.getElem_mem hi))

def nJ{H:Type}(x:DataW H):Txn:=⟨dI (K9 (U2 x) 0),dI (K9 (U2 x) 1)⟩
def aG{H:Type}(x:DataW H):Wt:=⟨dI (K9 (U2 x) 0),dI (K9 (U2 x) 1)⟩
def mO{H:Type}(x:DataW H):Lck:=⟨dI (K9 (U2 x) 0),dI (K9 (U2 x) 1),dI (K9 (U2 x) 2),dI (K9 (U2 x) 3)⟩
def a4o{H:Type}(x:DataW H):Lks:=⟨(T8 (K9 (U2 x) 0)).map mO,(T8 (K9 (U2 x) 1)).map aG⟩
def a2m{H:Type}(x:DataW H):Eng:=⟨eK (K9 (U2 x) 0),dB (K9 (U2 x) 1),(T8 (K9 (U2 x) 2)).map nJ,a4o (K9 (U2 x) 3),dI (K9 (U2 x) 4)⟩
theorem b8Y:J9 Tryz.prog 118=some [3,3]:=by kernel_rfl
theorem b9M:J9 Tryz.prog 187=some [3,3]:=by kernel_rfl
theorem b9A:J9 Tryz.prog 185=some [3,3,3,3]:=by kernel_rfl
theorem b6f:J9 Tryz.prog 35=some [32,33]:=by kernel_rfl
theorem a4X:J9 Tryz.prog 37=some [30,4,31,35,3]:=by kernel_rfl
theorem b6G:o7 Tryz.prog 31=some 118:=by kernel_rfl
theorem b6u:o7 Tryz.prog 32=some 185:=by kernel_rfl
theorem b87:o7 Tryz.prog 33=some 187:=by kernel_rfl
theorem b7W{H:Type}{d:Nat}(x:DataW H):zR Tryz.prog (d+2) 118 x=(nJ x).ts:=by
 rw[L7 b8Y];simp only[trA,i6 zH,List.append_nil,List.cons_append,List.nil_append];rfl
theorem b4Y{H:Type}{d:Nat}(x:DataW H):zR Tryz.prog (d+3) 31 x=[wF ((T8 x).map nJ)]:=by
 rw[t4 b6G (by kernel_rfl),show Tryz.prog.cellsOf 118=2 by kernel_rfl]
 unfold wF;rw[List.length_map];congr 2
 funext i
 rw[b7W];exact congrArg Txn.ts (E3 nJ (T8 x) i (d:=.nil) (d':=default) rfl).symm
theorem b9b{H:Type}{d:Nat}(x:DataW H):zR Tryz.prog (d+2) 187 x=(aG x).ts:=by
 rw[L7 b9M];simp only[trA,i6 zH,List.append_nil,List.cons_append,List.nil_append];rfl
theorem b6M{H:Type}{d:Nat}(x:DataW H):zR Tryz.prog (d+3) 33 x=[mU ((T8 x).map aG)]:=by
 rw[t4 b87 (by kernel_rfl),show Tryz.prog.cellsOf 187=2 by kernel_rfl]
 unfold mU;rw[List.length_map];congr 2
 funext i
 rw[b9b];exact congrArg Wt.ts (E3 aG (T8 x) i (d:=.nil) (d':=default) rfl).symm
theorem b7D{H:Type}{d:Nat}(x:DataW H):zR Tryz.prog (d+2) 185 x=(mO x).ts:=by
 rw[L7 b9A];simp only[trA,i6 zH,List.append_nil,List.cons_append,List.nil_append];rfl
theorem b54{H:Type}{d:Nat}(x:DataW H):zR Tryz.prog (d+3) 32 x=[yG ((T8 x).map mO)]:=by
 rw[t4 b6u (by kernel_rfl),show Tryz.prog.cellsOf 185=4 by kernel_rfl]
 unfold yG;rw[List.length_map];congr 2
 funext i
 rw[b7D];exact congrArg Lck.ts (E3 mO (T8 x) i (d:=.nil) (d':=default) rfl).symm
theorem b7B{H:Type}{d:Nat}(x:DataW H):zR Tryz.prog (d+4) 35 x=(a4o x).ts:=by
 rw[L7 b6f];simp only[trA,b54,b6M,List.append_nil,List.cons_append,List.nil_append];rfl
theorem b32{H:Type}{d:Nat}(x:DataW H):zR Tryz.prog (d+6) 30 x=(eK x).ts:=by
 rw[L7 b6t];exact b7m x
theorem b8k{H:Type}{d:Nat}(x:DataW H):zR Tryz.prog (d+7) 37 x=(a2m x).ts:=by
 rw[L7 a4X];simp only[trA,i6 zH,hC a2t,b32 (d:=d),b4Y (d:=d+3),b7B (d:=d+2)];rfl
theorem b6U{H:Type}{d:Nat}{x:DataW H}(h:pI Tryz.prog (d+4) 35 x):a4S (a4o x):=by
 obtain⟨xs,rfl,h'⟩:=B0 h b6f;obtain⟨x0,xs,rfl,h0,h'⟩:=W1 h';obtain⟨x1,xs,rfl,h1,h'⟩:=W1 h';refine⟨?_,?_⟩
 ·show((T8 x0).map mO).length<=_;rw[List.length_map];exact(u4 h0 b6u).2.1
 ·show((T8 x1).map aG).length<=_;rw[List.length_map];exact(u4 h1 b87).2.1
theorem b8m{H:Type}{d:Nat}{x:DataW H}(h:pI Tryz.prog (d+7) 37 x):a4P (a2m x):=by
 obtain⟨xs,rfl,h'⟩:=B0 h a4X;obtain⟨x0,xs,rfl,h0,h'⟩:=W1 h';obtain⟨x1,xs,rfl,_,h'⟩:=W1 h';obtain⟨x2,xs,rfl,h2,h'⟩:=W1 h';obtain⟨x3,xs,rfl,h3,h'⟩:=W1 h';refine⟨b8G (d:=d) h0,?_,b6U (d:=d+2) h3⟩
 show((T8 x2).map nJ).length<=_;rw[List.length_map];exact(u4 (d:=d+5) h2 b6G).2.1
theorem a6L{e:Eng}(h:u7 e<=1048576):N8 e/\eG e:=by
 have h0:u7 e=y7 e.s+e.txs.length+D7 e.lk:=rfl;have h1:D7 e.lk=e.lk.held.length+e.lk.waits.length:=rfl;obtain⟨s1,s2⟩:=a8O (s:=e.s) (by omega)
 exact⟨⟨s1,by omega,by omega,by omega⟩,s2,⟨by unfold M7;omega,by unfold M7;omega⟩,by unfold M7;omega⟩
theorem own:ownKnob Tryz.prog.godebug=none:=by kernel_rfl
theorem b8e{P:Program}{f:FuncId}{fn:Func}{s:ChangeSpec}{c:OpenClaim}(h0:c.wf (OpenSpec.ofChange s)=true)(h1:laidOutB P=true)(h2:mapsRowed P=true)
  (h3:fn.params.all (P.readableRec ·)=true) (h4:namedTie P c.named s.vars=true) (h5:(c.stops==[])=true) (h6:(P.stops==[])=true) (h7:(c.knobs==[])=true) (h8:(P.stopKnobs==[])=true)
  (h9:(c.inPlace==P.inPlace f)=true) (h10:(c.unfollowed==P.unfollowed f)=true) (h11:(c.recurses==P.recurses f)=true) (h12:(c.named==P.varsNamed f)=true)
  (h13:(c.maps==(fn.params.toList++s.plain.varTypes P).any (P.mapsRec ·))=true) (h14:(c.ifaces==(fn.params.toList++s.plain.varTypes P).any (P.ifacesRec ·))=true) (h15:(c.mapsOut==P.mapsAmong fn.resultTypes.toList)=true)
  (h16:(c.loops==(fn.params.toList++s.plain.varTypes P).any (P.loopsFrom ·))=true) (h17:(c.wideKeys==(fn.params.toList++s.plain.varTypes P++fn.resultTypes.toList).any (P.wideKeysFrom ·))=true)
  (h18:s.vars.all (P.varReadable ·)=true) (h19:fn.resultTypes.all (λt=>P.readableRec t&&decide (t<P.types.size))=true) (h20:(c.ifacesOut==fn.resultTypes.toList.any (P.ifacesRec ·))=true)
  (h21:(c.loopsOut==fn.resultTypes.toList.any (P.loopsFrom ·))=true) (h22:(c.plainKeys==P.plainKeys)=true) (h23:c.shortTexts.isNone=true) (h24:P.stopsHeard=true) (h25:P.mayEnter=true)
  (h26:(c.lifted==P.liftsFinal)=true) (h27:(P.make==some c.make)=true) (h28:(c.kinds==(if c.domain.isEmpty then[] else fn.params.toList.map λt=>match P.underlying t with|some (.int k)=>some k|_=>none))=true) (h29:(c.pinned==c.pinnedBy)=true)
  (h30:(c.veiled==(fn.params.toList++s.plain.varTypes P++fn.resultTypes.toList).any (P.veiledRec ·))=true) (h31:c.veiledFits P fn.params.toList (fn.params.toList++s.plain.varTypes P++fn.resultTypes.toList)=true):joinedFacts P f fn s c=true:=by
 simp only[joinedFacts,J6];exact⟨⟨⟨⟨⟨⟨⟨⟨⟨⟨⟨⟨⟨⟨⟨⟨⟨⟨⟨⟨⟨⟨⟨⟨⟨⟨⟨⟨⟨⟨⟨h0,h1⟩,h2⟩,h3⟩,h4⟩,h5⟩,h6⟩,h7⟩,h8⟩,h9⟩,h10⟩,h11⟩,h12⟩,h13⟩,h14⟩,h15⟩,h16⟩,h17⟩,h18⟩,h19⟩,h20⟩,h21⟩,h22⟩,h23⟩,h24⟩,h25⟩,h26⟩,h27⟩,h28⟩,h29⟩,h30⟩,h31⟩
end Go.Proofs.YtokaojbaacnngaaGreat

