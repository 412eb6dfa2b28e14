/- A part of the proof. -/
import Derived.Test.YtokaojbaacnngaaGreatU3U4U5
import Derived.Test.YtokaojbaacnngaaGreatU27U29U28
namespace Go.Proofs.YtokaojbaacnngaaGreat
set_option maxRecDepth 100000
open Go.SS

theorem leM{α:Type}(f:Nat->α)(n:Nat):Le (0+n) ((List.range n).map f).length:=by rw[S0];exact S7 n
end Go.Proofs.YtokaojbaacnngaaGreat

namespace Go.Proofs.YtokaojbaacnngaaGreat
set_option maxRecDepth 100000
open Go.SS

noncomputable def c5J:Code:=Tryz.f8.body.getD .skip
theorem c6D(e:Eng)(h:
  ∃(x:(Eng×Int)),(((j6 e x.fst)/\(1048576:Int)=x.snd/\True)/\G6 x.snd/\a9l x.fst)/\(decide (rem x.snd (B6 x.fst)<(0:Int))=true->true=true)/\(decide (rem x.snd (B6 x.fst)<(0:Int))=false->
  ∃(x:Eng),(((j6 e x)/\True)/\L5 x)/\∃(x_1:Eng),((LeG x)/\((jA x x_1)/\True)/\mD x_1/\L5 x_1)/\∃(x:Eng),(((j6 e x)/\True)/\L5 x)/\∃(x_2:a4y.ι),((LeG x)/\((jA x x_2)/\True)/\mD x_2
  /\L5 x_2)/\∃(x_3:Eng),((LeG (X2 x_2).fst)/\((jA (X2 x_2).fst x_3)/\(j6 (X2 x_1).fst x_3)/\True)/\L5 x_3)/\((false||(X2 x_2).snd !=(X2 x_1).snd)=true->false=true)/\((false||(X2 x_2).snd !=
  (X2 x_1).snd)=false->∃(x_4:Eng),(((j6 e x_4)/\True)/\L5 x_4)/\∃(x_5:Eng),(((LeG x)/\LeG x_4)/\((jA x x_5)/\(jA x_4 x_5)/\True)/\L5 x_5)/\(false=true->false=true)/\(false=false->∃(x_6:
  (Eng×Nat×Nat)),(((b10 x x_6.fst)/\(1:Int)=(x_6.snd.fst:Int)/\True)/\(b2Y (x.s.fr.length) (x_6.snd.snd) x x_6.fst)/\KBg x_6.fst x_6.snd.fst)/\∃(x:Eng),(decide ((↑(r9 x_6.fst x_6.snd.fst):Int)<(0:Int))=
  false->(LeG (X2 x_2).fst)/\((jA (X2 x_2).fst x)/\(j6 (X2 x_1).fst x)/\True)/\L5 x)/\((decide ((↑(r9 x_6.fst x_6.snd.fst):Int)<(0:Int))||false||(X2 x_2).snd !=(X2 x_1).snd)=true->false=true)
  /\((decide ((↑(r9 x_6.fst x_6.snd.fst):Int)<(0:Int))||false||(X2 x_2).snd !=(X2 x_1).snd)=false->∃(x:(Eng×Nat×Nat)),(((b10 (X2 x_2).fst x.fst)/\(1:Int)=(x.snd.fst:Int)/\True)/\(b2Y (0)
  (x.snd.snd) (X2 x_2).fst x.fst)/\KBg x.fst x.snd.fst)/\∃(x_7:(Eng×Nat)),((Le (0+(X2 x_2).fst.s.d.sec.length) (y8 x.fst.s.d.sec.length x.snd.fst).length/\Le (0+(X2 x_2).fst.s.d.cache.length) (o4
  x.fst.s.d.cache.length (x.snd.fst+x.fst.s.d.sec.length)).length/\Le (0+(X2 x_2).fst.s.d.keep.length) (j7 x.fst.s.d.keep.length (x.snd.fst+x.fst.s.d.sec.length+2*x.fst.s.d.cache.length)).length/\Le (0+(X2
  x_2).fst.s.log.length) (D9 x.fst.s.log.length (S5 x.fst.s.d x.snd.fst)).length/\Le (0+(X2 x_2).fst.s.fr.length) (t4 x.fst.s.fr.length (R7 x.fst.s.fr) (S5 x.fst.s.d x.snd.fst+10*x.fst.s.log.length)).length/\Le (0
  +(X2 x_2).fst.txs.length) (Q6 x.fst.txs.length (R0 x.fst.s x.snd.fst)).length/\Le (0+(X2 x_2).fst.lk.held.length) (S9 x.fst.lk.held.length (R0 x.fst.s x.snd.fst+2*x.fst.txs.length)).length/\Le (0+(X2
  x_2).fst.lk.waits.length) (M7 x.fst.lk.waits.length (R0 x.fst.s x.snd.fst+2*x.fst.txs.length+4*x.fst.lk.held.length)).length)/\((((X2 x_2).fst.s.d.sec.length=(y8 x_7.fst.s.d.sec.length x_7.snd).length/\Z8
  (X2 x_2).fst.s.d.sec.length (Z6 (y8 x.fst.s.d.sec.length x.snd.fst)) (Z6 (y8 x_7.fst.s.d.sec.length x_7.snd)))/\((X2 x_2).fst.s.d.cache.length=(o4 x_7.fst.s.d.cache.length (x_7.snd+
  x_7.fst.s.d.sec.length)).length/\Z8 (X2 x_2).fst.s.d.cache.length (Z3 (o4 x.fst.s.d.cache.length (x.snd.fst+x.fst.s.d.sec.length))) (Z3 (o4 x_7.fst.s.d.cache.length (x_7.snd+x_7.fst.s.d.sec.length))))/\
  (X2 x_2).fst.s.d.armed=x_7.fst.s.d.armed/\((X2 x_2).fst.s.d.keep.length=(j7 x_7.fst.s.d.keep.length (x_7.snd+x_7.fst.s.d.sec.length+2*x_7.fst.s.d.cache.length)).length/\Z8 (X2 x_2).fst.s.d.keep.length
  (Y8 (j7 x.fst.s.d.keep.length (x.snd.fst+x.fst.s.d.sec.length+2*x.fst.s.d.cache.length))) (Y8 (j7 x_7.fst.s.d.keep.length (x_7.snd+x_7.fst.s.d.sec.length+2*x_7.fst.s.d.cache.length))))/\(X2 x_2).fst.s.ep=
  x_7.fst.s.ep/\((X2 x_2).fst.s.log.length=(D9 x_7.fst.s.log.length (S5 x_7.fst.s.d x_7.snd)).length/\Z8 (X2 x_2).fst.s.log.length (Y5 (D9 x.fst.s.log.length (S5 x.fst.s.d x.snd.fst))) (Y5 (D9
  x_7.fst.s.log.length (S5 x_7.fst.s.d x_7.snd))))/\(X2 x_2).fst.s.sure=x_7.fst.s.sure/\((X2 x_2).fst.s.fr.length=(t4 x_7.fst.s.fr.length (R7 x_7.fst.s.fr) (S5 x_7.fst.s.d x_7.snd+10*
  x_7.fst.s.log.length)).length/\Z8 (X2 x_2).fst.s.fr.length (a0n (X9 (t4 x.fst.s.fr.length (R7 x.fst.s.fr) (S5 x.fst.s.d x.snd.fst+10*x.fst.s.log.length)))) (V6 (t4 x_7.fst.s.fr.length (R7 x_7.fst.s.fr)
  (S5 x_7.fst.s.d x_7.snd+10*x_7.fst.s.log.length))))/\(X2 x_2).fst.s.hand=x_7.fst.s.hand/\(X2 x_2).fst.up=x_7.fst.up/\((X2 x_2).fst.txs.length=(Q6 x_7.fst.txs.length (R0 x_7.fst.s x_7.snd)).length/\Z8
  (X2 x_2).fst.txs.length (Y0 (Q6 x.fst.txs.length (R0 x.fst.s x.snd.fst))) (Y0 (Q6 x_7.fst.txs.length (R0 x_7.fst.s x_7.snd))))/\((X2 x_2).fst.lk.held.length=(S9 x_7.fst.lk.held.length (R0 x_7.fst.s
  x_7.snd+2*x_7.fst.txs.length)).length/\Z8 (X2 x_2).fst.lk.held.length (Y2 (S9 x.fst.lk.held.length (R0 x.fst.s x.snd.fst+2*x.fst.txs.length))) (Y2 (S9 x_7.fst.lk.held.length (R0 x_7.fst.s x_7.snd+
  2*x_7.fst.txs.length))))/\((X2 x_2).fst.lk.waits.length=(M7 x_7.fst.lk.waits.length (R0 x_7.fst.s x_7.snd+2*x_7.fst.txs.length+4*x_7.fst.lk.held.length)).length/\Z8 (X2 x_2).fst.lk.waits.length (X3
  (M7 x.fst.lk.waits.length (R0 x.fst.s x.snd.fst+2*x.fst.txs.length+4*x.fst.lk.held.length))) (X3 (M7 x_7.fst.lk.waits.length (R0 x_7.fst.s x_7.snd+2*x_7.fst.txs.length+4*x_7.fst.lk.held.length))))/\
  (X2 x_2).fst.next=x_7.fst.next/\True)/\(1:Int)=(x_7.snd:Int)/\True)/\KBg x_7.fst x_7.snd)/\(decide ((↑(r9 x_7.fst x_7.snd):Int)<(0:Int))=true->false=true)/\(decide ((↑(r9 x_7.fst x_7.snd):Int)<(0:
  Int))=false->(((↑(r9 x_7.fst x_7.snd):Int) !=(↑(r9 x.fst x.snd.fst):Int))=true->false=true)/\(((↑(r9 x_7.fst x_7.snd):Int) !=(↑(r9 x.fst x.snd.fst):Int))=false->∃(x_8:Eng),(((j6 e x_8)/\True)/\
  L5 x_8)/\∃(x_9:a4y.ι),((LeG x_8)/\((jA x_8 x_9)/\True)/\mD x_9/\L5 x_9)/\∃(x_10:Eng),((LeG (X2 x_9).fst)/\((jA (X2 x_9).fst x_10)/\(j6 (X2 x_1).fst x_10)/\True)/\L5 x_10)/\((false||
  (X2 x_9).snd !=(X2 x_1).snd)=true->false=true)/\((false||(X2 x_9).snd !=(X2 x_1).snd)=false->∃(x_11:(Eng×Nat)),((Le (0+(X2 x_2).fst.s.d.sec.length) (y8 x.fst.s.d.sec.length x.snd.fst).length/\Le (0
  +(X2 x_2).fst.s.d.cache.length) (o4 x.fst.s.d.cache.length (x.snd.fst+x.fst.s.d.sec.length)).length/\Le (0+(X2 x_2).fst.s.d.keep.length) (j7 x.fst.s.d.keep.length (x.snd.fst+x.fst.s.d.sec.length+2*
  x.fst.s.d.cache.length)).length/\Le (0+(X2 x_2).fst.s.log.length) (D9 x.fst.s.log.length (S5 x.fst.s.d x.snd.fst)).length/\Le (0+(X2 x_2).fst.s.fr.length) (t4 x.fst.s.fr.length (R7 x.fst.s.fr) (S5 x.fst.s.d
  x.snd.fst+10*x.fst.s.log.length)).length/\Le (0+(X2 x_2).fst.txs.length) (Q6 x.fst.txs.length (R0 x.fst.s x.snd.fst)).length/\Le (0+(X2 x_2).fst.lk.held.length) (S9 x.fst.lk.held.length (R0 x.fst.s
  x.snd.fst+2*x.fst.txs.length)).length/\Le (0+(X2 x_2).fst.lk.waits.length) (M7 x.fst.lk.waits.length (R0 x.fst.s x.snd.fst+2*x.fst.txs.length+4*x.fst.lk.held.length)).length)/\((((X2 x_2).fst.s.d.sec.length
  =(y8 x_11.fst.s.d.sec.length x_11.snd).length/\Z8 (X2 x_2).fst.s.d.sec.length (Z6 (y8 x.fst.s.d.sec.length x.snd.fst)) (Z6 (y8 x_11.fst.s.d.sec.length x_11.snd)))/\((X2 x_2).fst.s.d.cache.length=(o4
  x_11.fst.s.d.cache.length (x_11.snd+x_11.fst.s.d.sec.length)).length/\Z8 (X2 x_2).fst.s.d.cache.length (Z3 (o4 x.fst.s.d.cache.length (x.snd.fst+x.fst.s.d.sec.length))) (Z3 (o4 x_11.fst.s.d.cache.length
  (x_11.snd+x_11.fst.s.d.sec.length))))/\(X2 x_2).fst.s.d.armed=x_11.fst.s.d.armed/\((X2 x_2).fst.s.d.keep.length=(j7 x_11.fst.s.d.keep.length (x_11.snd+x_11.fst.s.d.sec.length+2*x_11.fst.s.d.cache.length)).length
  /\Z8 (X2 x_2).fst.s.d.keep.length (Y8 (j7 x.fst.s.d.keep.length (x.snd.fst+x.fst.s.d.sec.length+2*x.fst.s.d.cache.length))) (Y8 (j7 x_11.fst.s.d.keep.length (x_11.snd+x_11.fst.s.d.sec.length+2*
  x_11.fst.s.d.cache.length))))/\(X2 x_2).fst.s.ep=x_11.fst.s.ep/\((X2 x_2).fst.s.log.length=(D9 x_11.fst.s.log.length (S5 x_11.fst.s.d x_11.snd)).length/\Z8 (X2 x_2).fst.s.log.length (Y5 (D9
  x.fst.s.log.length (S5 x.fst.s.d x.snd.fst))) (Y5 (D9 x_11.fst.s.log.length (S5 x_11.fst.s.d x_11.snd))))/\(X2 x_2).fst.s.sure=x_11.fst.s.sure/\((X2 x_2).fst.s.fr.length=(t4 x_11.fst.s.fr.length (R7
  x_11.fst.s.fr) (S5 x_11.fst.s.d x_11.snd+10*x_11.fst.s.log.length)).length/\Z8 (X2 x_2).fst.s.fr.length (a0n (X9 (t4 x.fst.s.fr.length (R7 x.fst.s.fr) (S5 x.fst.s.d x.snd.fst+10*x.fst.s.log.length))))
  (V6 (t4 x_11.fst.s.fr.length (R7 x_11.fst.s.fr) (S5 x_11.fst.s.d x_11.snd+10*x_11.fst.s.log.length))))/\(X2 x_2).fst.s.hand=x_11.fst.s.hand/\(X2 x_2).fst.up=x_11.fst.up/\((X2 x_2).fst.txs.length=(Q6
  x_11.fst.txs.length (R0 x_11.fst.s x_11.snd)).length/\Z8 (X2 x_2).fst.txs.length (Y0 (Q6 x.fst.txs.length (R0 x.fst.s x.snd.fst))) (Y0 (Q6 x_11.fst.txs.length (R0 x_11.fst.s x_11.snd))))/\((X2
  x_2).fst.lk.held.length=(S9 x_11.fst.lk.held.length (R0 x_11.fst.s x_11.snd+2*x_11.fst.txs.length)).length/\Z8 (X2 x_2).fst.lk.held.length (Y2 (S9 x.fst.lk.held.length (R0 x.fst.s x.snd.fst+2*
  x.fst.txs.length))) (Y2 (S9 x_11.fst.lk.held.length (R0 x_11.fst.s x_11.snd+2*x_11.fst.txs.length))))/\((X2 x_2).fst.lk.waits.length=(M7 x_11.fst.lk.waits.length (R0 x_11.fst.s x_11.snd+2*
  x_11.fst.txs.length+4*x_11.fst.lk.held.length)).length/\Z8 (X2 x_2).fst.lk.waits.length (X3 (M7 x.fst.lk.waits.length (R0 x.fst.s x.snd.fst+2*x.fst.txs.length+4*x.fst.lk.held.length))) (X3 (M7
  x_11.fst.lk.waits.length (R0 x_11.fst.s x_11.snd+2*x_11.fst.txs.length+4*x_11.fst.lk.held.length))))/\(X2 x_2).fst.next=x_11.fst.next/\True)/\(1:Int)=(x_11.snd:Int)/\True)/\KBg x_11.fst x_11.snd)/\(decide
  ((↑(r9 x_11.fst x_11.snd):Int)<(0:Int))=true->false=true)/\(decide ((↑(r9 x_11.fst x_11.snd):Int)<(0:Int))=false->(((↑(r9 x_11.fst x_11.snd):Int) !=(↑(r9 x.fst x.snd.fst):Int))=true->false=
  true)/\(((↑(r9 x_11.fst x_11.snd):Int) !=(↑(r9 x.fst x.snd.fst):Int))=false->true=true)))))))))):
  Z2 Tryz.prog 8 [.agg e.ts] (.bool true):=
 T4 (code:=c5J) (gC b8b a7a (gC b8q a5U (gC b7P a7c (gC b6X a6j (gC b5L a6x (gC a5L cF (gC a6S cC gN))))))) Tryz.func8 (by kernel_rfl) (by kernel_rfl) Z0 h (by kernel_rfl)
theorem b2P(e:Eng)(h:a9l e):Z2 Tryz.prog 8 [.agg e.ts] (.bool true):=by
 have l0:G6 1048576:=⟨by omega,by omega⟩
 refine c6D e ⟨(e,1048576),⟨⟨u7 _,rfl,trivial⟩,l0,h⟩,fun _=>rfl,fun hq=> ?_⟩
 have hb:=c2l (yQ hq);dsimp only at hb;obtain⟨hS,hB⟩:=b15 (e:=e) (by omega)
 have hO:L5 (X2 e).1:=c3S hS;have hk:KBg e 1:=⟨hS,V5 _,by omega⟩
 have hko:KBg (X2 e).1 1:=⟨hO,V5 _,by omega⟩
 have hn:∀n:Nat,decide ((n:Int)<0)=false:=fun n=>uY (by omega)
 exact⟨e,⟨⟨u7 _,trivial⟩,hS⟩,e,⟨⟨S7 _,S7 _,S7 _,S7 _,S7 _,S7 _,S7 _,S7 _⟩,⟨⟨⟨rfl,Z9 _ _⟩,⟨rfl,Z9 _ _⟩,rfl,⟨rfl,Z9 _ _⟩,rfl,⟨rfl,Z9 _ _⟩,rfl,⟨rfl,fun _ _=>rfl⟩,rfl,rfl,⟨rfl,Z9 _ _⟩,⟨rfl,Z9 _ _⟩,⟨rfl,Z9 _ _⟩,rfl,trivial⟩,trivial⟩,hB,hS⟩,e,⟨⟨u7 _,trivial⟩,hS⟩,e,⟨⟨S7 _,S7 _,S7 _,S7 _,S7 _,S7 _,S7 _,S7 _⟩,⟨⟨⟨rfl,Z9 _ _⟩,⟨rfl,Z9 _ _⟩,rfl,⟨rfl,Z9 _ _⟩,rfl,⟨rfl,Z9 _ _⟩,rfl,⟨rfl,fun _ _=>rfl⟩,rfl,rfl,⟨rfl,Z9 _ _⟩,⟨rfl,Z9 _ _⟩,⟨rfl,Z9 _ _⟩,rfl,trivial⟩,trivial⟩,hB,hS⟩,
  (X2 e).1,⟨⟨S7 _,S7 _,S7 _,S7 _,S7 _,S7 _,S7 _,S7 _⟩,⟨⟨⟨rfl,Z9 _ _⟩,⟨rfl,Z9 _ _⟩,rfl,⟨rfl,Z9 _ _⟩,rfl,⟨rfl,Z9 _ _⟩,rfl,⟨rfl,fun _ _=>rfl⟩,rfl,rfl,⟨rfl,Z9 _ _⟩,⟨rfl,Z9 _ _⟩,⟨rfl,Z9 _ _⟩,rfl,trivial⟩,u7 _,trivial⟩,hO⟩,fun he=>by simp at he,fun _=>⟨e,⟨⟨u7 _,trivial⟩,hS⟩,e,⟨⟨⟨S7 _,S7 _,S7 _,S7 _,S7 _,S7 _,S7 _,S7 _⟩,⟨S7 _,S7 _,S7 _,S7 _,S7 _,S7 _,S7 _,S7 _⟩⟩,⟨⟨⟨rfl,Z9 _ _⟩,⟨rfl,Z9 _ _⟩,rfl,⟨rfl,Z9 _ _⟩,rfl,⟨rfl,Z9 _ _⟩,rfl,⟨rfl,fun _ _=>rfl⟩,rfl,rfl,⟨rfl,Z9 _ _⟩,⟨rfl,Z9 _ _⟩,⟨rfl,Z9 _ _⟩,rfl,trivial⟩,⟨⟨rfl,Z9 _ _⟩,⟨rfl,Z9 _ _⟩,rfl,⟨rfl,Z9 _ _⟩,rfl,⟨rfl,Z9 _ _⟩,rfl,⟨rfl,fun _ _=>rfl⟩,rfl,rfl,⟨rfl,Z9 _ _⟩,⟨rfl,Z9 _ _⟩,⟨rfl,Z9 _ _⟩,rfl,trivial⟩,trivial⟩,hS⟩,fun he=>he,fun _=>
  ⟨(e,1,e.s.fr.length),⟨⟨⟨⟨rfl,rfl⟩,⟨rfl,rfl⟩,rfl,⟨rfl,rfl⟩,rfl,⟨rfl,rfl⟩,rfl,⟨rfl,rfl⟩,rfl,rfl,⟨rfl,rfl⟩,⟨rfl,rfl⟩,⟨rfl,rfl⟩,rfl,trivial⟩,rfl,trivial⟩,⟨⟨rfl,Z9 _ _⟩,⟨rfl,Z9 _ _⟩,⟨rfl,Z9 _ _⟩,⟨rfl,Z9 _ _⟩,⟨rfl,rfl,U3 _⟩,⟨rfl,Z9 _ _⟩,⟨rfl,Z9 _ _⟩,⟨rfl,Z9 _ _⟩,trivial⟩,hk⟩,(X2 e).1,fun _=>⟨⟨S7 _,S7 _,S7 _,S7 _,S7 _,S7 _,S7 _,S7 _⟩,⟨⟨⟨rfl,Z9 _ _⟩,⟨rfl,Z9 _ _⟩,rfl,⟨rfl,Z9 _ _⟩,rfl,⟨rfl,Z9 _ _⟩,rfl,⟨rfl,fun _ _=>rfl⟩,rfl,rfl,⟨rfl,Z9 _ _⟩,⟨rfl,Z9 _ _⟩,⟨rfl,Z9 _ _⟩,rfl,trivial⟩,u7 _,trivial⟩,hO⟩,fun he=>by rw[hn] at he;simp at he,fun _=>
  ⟨((X2 e).1,1,0),⟨⟨⟨⟨rfl,rfl⟩,⟨rfl,rfl⟩,rfl,⟨rfl,rfl⟩,rfl,⟨rfl,rfl⟩,rfl,⟨rfl,rfl⟩,rfl,rfl,⟨rfl,rfl⟩,⟨rfl,rfl⟩,⟨rfl,rfl⟩,rfl,trivial⟩,rfl,trivial⟩,⟨⟨rfl,Z9 _ _⟩,⟨rfl,Z9 _ _⟩,⟨rfl,Z9 _ _⟩,⟨rfl,Z9 _ _⟩,⟨rfl,rfl,U3 _⟩,⟨rfl,Z9 _ _⟩,⟨rfl,Z9 _ _⟩,⟨rfl,Z9 _ _⟩,trivial⟩,hko⟩,((X2 e).1,1),⟨⟨leM _ _,leM _ _,leM _ _,leM _ _,leM _ _,leM _ _,leM _ _,leM _ _⟩,⟨⟨⟨(S0 _ _).symm,Z9 _ _⟩,⟨(S0 _ _).symm,Z9 _ _⟩,rfl,⟨(S0 _ _).symm,Z9 _ _⟩,rfl,⟨(S0 _ _).symm,Z9 _ _⟩,rfl,⟨(S0 _ _).symm,fun _ _=>rfl⟩,rfl,rfl,⟨(S0 _ _).symm,Z9 _ _⟩,⟨(S0 _ _).symm,Z9 _ _⟩,⟨(S0 _ _).symm,Z9 _ _⟩,rfl,trivial⟩,rfl,trivial⟩,hko⟩,fun he=>by rw[hn] at he;simp at he,fun _=>⟨fun he=>by simp at he,fun _=>
  ⟨e,⟨⟨u7 _,trivial⟩,hS⟩,e,⟨⟨S7 _,S7 _,S7 _,S7 _,S7 _,S7 _,S7 _,S7 _⟩,⟨⟨⟨rfl,Z9 _ _⟩,⟨rfl,Z9 _ _⟩,rfl,⟨rfl,Z9 _ _⟩,rfl,⟨rfl,Z9 _ _⟩,rfl,⟨rfl,fun _ _=>rfl⟩,rfl,rfl,⟨rfl,Z9 _ _⟩,⟨rfl,Z9 _ _⟩,⟨rfl,Z9 _ _⟩,rfl,trivial⟩,trivial⟩,hB,hS⟩,(X2 e).1,⟨⟨S7 _,S7 _,S7 _,S7 _,S7 _,S7 _,S7 _,S7 _⟩,⟨⟨⟨rfl,Z9 _ _⟩,⟨rfl,Z9 _ _⟩,rfl,⟨rfl,Z9 _ _⟩,rfl,⟨rfl,Z9 _ _⟩,rfl,⟨rfl,fun _ _=>rfl⟩,rfl,rfl,⟨rfl,Z9 _ _⟩,⟨rfl,Z9 _ _⟩,⟨rfl,Z9 _ _⟩,rfl,trivial⟩,u7 _,trivial⟩,hO⟩,fun he=>by simp at he,fun _=>⟨((X2 e).1,1),⟨⟨leM _ _,leM _ _,leM _ _,leM _ _,leM _ _,leM _ _,leM _ _,leM _ _⟩,⟨⟨⟨(S0 _ _).symm,Z9 _ _⟩,⟨(S0 _ _).symm,Z9 _ _⟩,rfl,⟨(S0 _ _).symm,Z9 _ _⟩,rfl,⟨(S0 _ _).symm,Z9 _ _⟩,rfl,⟨(S0 _ _).symm,fun _ _=>rfl⟩,rfl,rfl,⟨(S0 _ _).symm,Z9 _ _⟩,⟨(S0 _ _).symm,Z9 _ _⟩,⟨(S0 _ _).symm,Z9 _ _⟩,rfl,trivial⟩,rfl,trivial⟩,hko⟩,fun he=>by rw[hn] at he;simp at he,fun _=>⟨fun he=>by simp at he,fun _=>rfl⟩⟩⟩⟩⟩⟩⟩⟩
end Go.Proofs.YtokaojbaacnngaaGreat

