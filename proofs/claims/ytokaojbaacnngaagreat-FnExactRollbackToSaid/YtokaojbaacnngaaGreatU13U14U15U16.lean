/- A part of the proof. -/
import Derived.Test.YtokaojbaacnngaaGreatL7L8U10
import Derived.Test.YtokaojbaacnngaaGreatU3U4U5
import Derived.Test.YtokaojbaacnngaaGreatX11X11rX12X13X14
namespace Go.Proofs.YtokaojbaacnngaaGreat
set_option maxRecDepth 100000
open Go.SS

def hF(tx:Int)(x:Lck):Bool:=x.tx !=tx
end Go.Proofs.YtokaojbaacnngaaGreat

namespace Go.Proofs.YtokaojbaacnngaaGreat
set_option maxRecDepth 100000
open Go.SS

end Go.Proofs.YtokaojbaacnngaaGreat

namespace Go.Proofs.YtokaojbaacnngaaGreat
set_option maxRecDepth 100000
open Go.SS

def M5(e:Eng)(tx:Int):Int×Int:=if e.up=true then(if U8 e.txs tx<0 then(0,19) else(U8 e.txs tx,0)) else(0,15)
def a3M:Con:=.rel ⟨Eng×Int,λx=>[.agg x.1.ts,.int .i64 x.2],λx=>.tup [.int .i64 (M5 x.1 x.2).1,.int .i64 (M5 x.1 x.2).2],λx=>M7 x.1.txs.length⟩
theorem b88{e:Eng}{tx:Int}(h:(!e.up)=true):M5 e tx=(0,15):=by unfold M5;rw[if_neg (by simpa using h)]
theorem b9w{e:Eng}{tx:Int}(h:(!e.up)=false)(h2:decide (U8 e.txs tx<0)=true):M5 e tx=(0,19):=by unfold M5;rw[if_pos (by simpa using h),if_pos (F3 h2)]
theorem b9m{e:Eng}{tx:Int}(h:(!e.up)=false)(h2:decide (U8 e.txs tx<0)=false):M5 e tx=(U8 e.txs tx,0):=by unfold M5;rw[if_pos (by simpa using h),if_neg (yQ h2)]
theorem a0Q:GK 115 a3M:=gk Tryz.func115<|by
 rintro⟨e,tx⟩ (hL:M7 e.txs.length);refine S6 (gC aF gN) Tryz.func115 Z0 (α:=((!e.up)=true->(0:Int)=(M5 e tx).1/\(15:Int)=(M5 e tx).2/\True)/\((!e.up)=false->∃(x:(Eng×Int)),(((y5 e x.1)/\tx=x.2/\True)/\M7 x.1.txs.length)/\(decide (U8 x.1.txs x.2<(0:Int))=true->(0:Int)=(M5 e tx).1/\(19:Int)=(M5 e tx).2/\True)/\(decide (U8 x.1.txs x.2<(0:Int))=false->U8 x.1.txs x.2=(M5 e tx).1/\(0:Int)=(M5 e tx).2/\True))) ⟨λhu=> ?_,λhu=>⟨(e,tx),⟨⟨A4 _,Z9⟩,hL⟩,λhq=> ?_,λhq=> ?_⟩⟩
 ·rw[b88 hu];exact⟨rfl,Z9⟩
 ·rw[b9w hu hq];exact⟨rfl,Z9⟩
 ·rw[b9m hu hq];exact⟨rfl,Z9⟩
end Go.Proofs.YtokaojbaacnngaaGreat

namespace Go.Proofs.YtokaojbaacnngaaGreat
set_option maxRecDepth 100000
open Go.SS

theorem b3n{r:Rec}(h:R2 r=true):r.b.length<=30/\r.a.length<=38:=by
 have h:=(Q9 r).1 h;unfold zT at h;obtain⟨_,_,_,_,_,_,_,_,_,_,_,_,_,_,hb,h6,h7⟩:=h;refine⟨by omega,?_⟩
 by_cases hk:r.k=6
 ·exact a5w (h6 hk).2.2.2.2.2.2
 ·have:=(h7 hk).2.2.1;omega
theorem b7w{r:Rec}(h:R2 r=true):(M9 r).length<=160:=by
 obtain⟨h1,h2⟩:=b3n h;have e4:(C1 (u3 (a6E r))).length=4:=rfl;have hl:(M9 r).length=16+(r.b.length+r.a.length):=by
  unfold M9 a6E;rw[A3];simp only[T3,W7,A3,List.length_cons,List.length_nil];show _+4=_;simp;omega
 omega
def b0C(d:Dsk):Prop:=d.sec.length=69/\d.keep.length<=500/\(d.armed=false->d.keep.length=0)/\(∀i,i<d.sec.length->(d.sec.getD i []).length<=160)/\∀i,i<d.cache.length->(d.cache.getD i default).d.length<=160
theorem a5T{d:Dsk}(h:b0C d):C5 (V5 d).1/\(V5 d).1.sec.length=69:=by
 obtain⟨h1,h2,h3,h4,h5⟩:=h;unfold V5;split
 ·have hl:(crD d d.keep).sec.length=d.sec.length:=H8 _ _ _ _;refine⟨⟨by dsimp only;omega,by dsimp only;omega,S7 _,S7 _,λ_=>rfl,λi hi=> ?_,λi hi=>absurd hi (F2 _)⟩,by dsimp only;omega⟩
  dsimp only at hi;rw[hl] at hi;exact b0w d.sec d.cache (kp d.keep) h4 h5 _ (V2 _) i hi
 ·have hl:(s6 d.sec d.cache (λ_=>true) d.cache.length).length=d.sec.length:=H8 _ _ _ _
  refine⟨⟨by dsimp only;omega,by dsimp only;omega,S7 _,h2,h3,λi hi=> ?_,λi hi=>absurd hi (F2 _)⟩,by dsimp only;omega⟩
  dsimp only at hi;rw[hl] at hi;exact b0w d.sec d.cache (λ_=>true) h4 h5 _ (V2 _) i hi
theorem b7T{s:Sto}{l:Int}(hd:C5 s.d)(hb:sL s l)(hr:xD s.log):b0C (lI s (O2 s l)):=by
 have h69:=hb.2.2.2.1;refine⟨h69,hd.2.2.2.1,hd.2.2.2.2.1,hd.2.2.2.2.2.1,λi hi=> ?_⟩
 have hi:i<(s.d.cache++List.map (sO s) (List.range (O2 s l))).length:=hi;show((s.d.cache++List.map (sO s) (List.range (O2 s l))).getD i default).d.length<=160;rw[L5]
 by_cases hc:i<s.d.cache.length
 ·rw[oX hc,←L5]
  exact(a0r (hd.2.2.2.2.2.2 i hc)).2.2
 ·rw[iA (by omega),←L5]
  simp only[A3,List.length_map,j_g] at hi;rw[y8 _ (by omega)]
  have hn:=lJ (i:=i-s.d.cache.length) hb (by omega)
  obtain⟨_,_,_,_,b5,_,_,b8,_⟩:=hb;exact b7w ((Q9 _).2 (hr.2 _ (by omega)).1)
theorem a4Y{s:Sto}{l:Int}(hd:C5 s.d)(hb:sL s l)(hr:xD s.log):C5 (X5 s l).1.d/\(X5 s l).1.d.sec.length=69:=by
 by_cases hl:l<=s.sure
 ·rw[zY hl];exact⟨hd,hb.2.2.2.1⟩
 ·rw[g7 hl];exact a5T (b7T hd hb hr)
theorem b3E{e:Eng}(h:M4 e=true)(hu:e.up=true):e.s.log.length+ndE e<=60:=by
 have h3:=(q9 h).2.2;rw[if_pos hu] at h3;unfold upE at h3;simp only[J6,o9] at h3;exact h3.2
theorem fD{e:Eng}(h:M4 e=true)(hu:e.up=true){i:Nat}(hi:i<e.txs.length):1<=(e.txs.getD i default).last/\(e.txs.getD i default).last<=e.s.log.length:=by
 have:=b6E h hu i hi;unfold E4 rB at this;simp only[uL,xO,J6,L9] at this;exact this.2.1
theorem b8D{l:Lks}(h:I1 l=true):l.held.length<=60/\l.waits.length<=100:=by
 unfold I1 at h;simp only[J6,o9] at h;exact h.2.1
theorem a2i{e:Eng}{tx:Int}(h:(M5 e tx).2=0):e.up=true/\∃k:Nat,(M5 e tx).1=(k:Int)/\k<e.txs.length/\(e.txs.getD k default).id=tx/\U8 e.txs tx=k:=by
 revert h;unfold M5;split
 ·rename_i hu;split
  ·intro h;cases h
  ·rename_i h0;intro _;have h0:¬M3 e.txs.length (t7 e.txs tx)<0:=h0;obtain⟨i,hi,hp,_,he⟩:=dC h0;exact⟨hu,i,he,hi,by unfold t7 at hp;simpa using hp,he⟩
 ·intro h;cases h
def b4I(e:Eng)(k:Nat)(r:Rec):Prop:=r.k≠6/\r.k≠1/\1<=r.k/\r.k<=6/\(r.k≠3->r.n=0)/\(r.k≠2->r.k≠3->r.g=0/\r.s=0/\r.b=[]/\r.a=[])/\0<=r.n/\r.n<=(e.s.log.length:Int)/\0<=r.g/\r.g<=7/\0<=r.s/\r.s<=3/\r.b.length<=30/\r.a.length<=30/\(r.k=3->r.b=[])/\k<e.txs.length
theorem b2M{s:Sto}{r:Rec}(hL:xD s.log)(h:R2 (I3 s r)=true)(hl:s.log.length+1<=60):xD (apx s r).log:=by
 have e1:(apx s r).log=s.log++[I3 s r]:=rfl;rw[e1];refine⟨by simp;omega,λi hi=> ?_⟩
 rw[A3,List.length_singleton] at hi;by_cases hc:i<s.log.length
 ·have:(s.log++[I3 s r]).getD i default=s.log.getD i default:=by
   rw[L5,oX hc,←L5]
  rw[this];exact hL.2 i hc
 ·have:i=s.log.length:=by omega
  subst this;have:(s.log++[I3 s r]).getD s.log.length default=I3 s r:=cD s r;rw[this];exact⟨(Q9 _).1 h,rfl⟩
theorem b8p{d:Dsk}(h:C5 d):sQ d:=by
 obtain⟨d1,d2,d3,d4,_⟩:=h;exact⟨by omega,by omega,by omega⟩
theorem b7O{e:Eng}(hd:C5 e.s.d):N8 (a61 e):=by
 have hm:=b7E e.s.d e.s.ep;have h2:=hd.2.1;refine⟨⟨b8p hd,?_,S7 _,λi hi=>absurd hi (F2 _)⟩,S7 _,S7 _,S7 _⟩
 show(v7 _ _).length<=_;rw[l6];omega
end Go.Proofs.YtokaojbaacnngaaGreat

