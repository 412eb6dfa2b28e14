/- A part of the proof. -/
import Derived.Test.YtokaojbaacnngaaGreatU3U4U5
import Derived.Test.YtokaojbaacnngaaGreatU18U19U21
namespace Go.Proofs.YtokaojbaacnngaaGreat
set_option maxRecDepth 100000
open Go.SS

theorem leM{α:Type}(f:Nat->α)(n:Nat):Le (0+n) ((List.range n).map f).length:=by rw[R8];exact T3 n
end Go.Proofs.YtokaojbaacnngaaGreat

namespace Go.Proofs.YtokaojbaacnngaaGreat
set_option maxRecDepth 100000
open Go.SS

noncomputable def d4B:Code:=Tryz.f6.body.getD .skip
theorem d33(e:Eng)(tx:Int)(h:
  ∃(x:(Eng×Int)),(((u2 e x.fst)/\(1048576:Int)=x.snd/\True)/\I4 x.snd/\b8H x.fst)/\(decide (rem x.snd (D6 x.fst)<(0:Int))=true->true=true)/\(decide (rem x.snd (D6 x.fst)<(0:Int))=false->
  ∃(x:Eng),(((u2 e x)/\True)/\L9 x)/\∃(x_1:(Eng×Int)),((LeG x)/\((a3F x x_1.fst)/\tx=x_1.snd/\True)/\a46 x_1.fst/\L9 x_1.fst)/\∃(x:Eng),(((u2 e x)/\True)/\L9 x)/\∃(x_2:a8o.ι),((LeG x)
  /\((a3F x x_2.fst)/\tx=x_2.snd/\True)/\a46 x_2.fst/\L9 x_2.fst)/\∃(x_3:Eng),((LeG (X3 x_2.fst x_2.snd).fst)/\((a3F (X3 x_2.fst x_2.snd).fst x_3)/\(u2 (X3 x_1.fst x_1.snd).fst x_3)/\True)/\L9 x_3)/\
  ((false||(X3 x_2.fst x_2.snd).snd !=(X3 x_1.fst x_1.snd).snd)=true->false=true)/\((false||(X3 x_2.fst x_2.snd).snd !=(X3 x_1.fst x_1.snd).snd)=false->∃(x_4:Eng),(((u2 e x_4)/\True)/\L9 x_4)/\∃
  (x_5:Eng),(((LeG x)/\LeG x_4)/\((a3F x x_5)/\(a3F x_4 x_5)/\True)/\L9 x_5)/\(false=true->false=true)/\(false=false->∃(x_6:(Eng×Nat×Nat)),(((b9Q x x_6.fst)/\(1:Int)=(x_6.snd.fst:Int)/\True)/\
  (b88 (x.s.fr.length) (x_6.snd.snd) x x_6.fst)/\KBg x_6.fst x_6.snd.fst)/\∃(x:Eng),(decide ((↑(w6 x_6.fst x_6.snd.fst):Int)<(0:Int))=false->(LeG (X3 x_2.fst x_2.snd).fst)/\((a3F (X3 x_2.fst x_2.snd).fst x)/\
  (u2 (X3 x_1.fst x_1.snd).fst x)/\True)/\L9 x)/\((decide ((↑(w6 x_6.fst x_6.snd.fst):Int)<(0:Int))||false||(X3 x_2.fst x_2.snd).snd !=(X3 x_1.fst x_1.snd).snd)=true->false=true)/\((decide ((↑(w6
  x_6.fst x_6.snd.fst):Int)<(0:Int))||false||(X3 x_2.fst x_2.snd).snd !=(X3 x_1.fst x_1.snd).snd)=false->∃(x:(Eng×Nat×Nat)),(((b9Q (X3 x_2.fst x_2.snd).fst x.fst)/\(1:Int)=(x.snd.fst:Int)/\True)/\
  (b88 (0) (x.snd.snd) (X3 x_2.fst x_2.snd).fst x.fst)/\KBg x.fst x.snd.fst)/\∃(x_7:(Eng×Nat)),((Le (0+(X3 x_2.fst x_2.snd).fst.s.d.sec.length) (B1 x.fst.s.d.sec.length x.snd.fst).length/\Le (0+(X3 x_2.fst
  x_2.snd).fst.s.d.cache.length) (u4 x.fst.s.d.cache.length (x.snd.fst+x.fst.s.d.sec.length)).length/\Le (0+(X3 x_2.fst x_2.snd).fst.s.d.keep.length) (m8 x.fst.s.d.keep.length (x.snd.fst+x.fst.s.d.sec.length+2*
  x.fst.s.d.cache.length)).length/\Le (0+(X3 x_2.fst x_2.snd).fst.s.log.length) (F8 x.fst.s.log.length (S5 x.fst.s.d x.snd.fst)).length/\Le (0+(X3 x_2.fst x_2.snd).fst.s.fr.length) (y3 x.fst.s.fr.length (R7
  x.fst.s.fr) (S5 x.fst.s.d x.snd.fst+10*x.fst.s.log.length)).length/\Le (0+(X3 x_2.fst x_2.snd).fst.txs.length) (Q5 x.fst.txs.length (R0 x.fst.s x.snd.fst)).length/\Le (0+(X3 x_2.fst
  x_2.snd).fst.lk.held.length) (T0 x.fst.lk.held.length (R0 x.fst.s x.snd.fst+2*x.fst.txs.length)).length/\Le (0+(X3 x_2.fst x_2.snd).fst.lk.waits.length) (M6 x.fst.lk.waits.length (R0 x.fst.s x.snd.fst+2*
  x.fst.txs.length+4*x.fst.lk.held.length)).length)/\((((X3 x_2.fst x_2.snd).fst.s.d.sec.length=(B1 x_7.fst.s.d.sec.length x_7.snd).length/\Z7 (X3 x_2.fst x_2.snd).fst.s.d.sec.length (Z6 (B1
  x.fst.s.d.sec.length x.snd.fst)) (Z6 (B1 x_7.fst.s.d.sec.length x_7.snd)))/\((X3 x_2.fst x_2.snd).fst.s.d.cache.length=(u4 x_7.fst.s.d.cache.length (x_7.snd+x_7.fst.s.d.sec.length)).length/\Z7 (X3 x_2.fst
  x_2.snd).fst.s.d.cache.length (Z3 (u4 x.fst.s.d.cache.length (x.snd.fst+x.fst.s.d.sec.length))) (Z3 (u4 x_7.fst.s.d.cache.length (x_7.snd+x_7.fst.s.d.sec.length))))/\(X3 x_2.fst x_2.snd).fst.s.d.armed=
  x_7.fst.s.d.armed/\((X3 x_2.fst x_2.snd).fst.s.d.keep.length=(m8 x_7.fst.s.d.keep.length (x_7.snd+x_7.fst.s.d.sec.length+2*x_7.fst.s.d.cache.length)).length/\Z7 (X3 x_2.fst x_2.snd).fst.s.d.keep.length (Y7
  (m8 x.fst.s.d.keep.length (x.snd.fst+x.fst.s.d.sec.length+2*x.fst.s.d.cache.length))) (Y7 (m8 x_7.fst.s.d.keep.length (x_7.snd+x_7.fst.s.d.sec.length+2*x_7.fst.s.d.cache.length))))/\(X3 x_2.fst
  x_2.snd).fst.s.ep=x_7.fst.s.ep/\((X3 x_2.fst x_2.snd).fst.s.log.length=(F8 x_7.fst.s.log.length (S5 x_7.fst.s.d x_7.snd)).length/\Z7 (X3 x_2.fst x_2.snd).fst.s.log.length (Y4 (F8 x.fst.s.log.length (S5
  x.fst.s.d x.snd.fst))) (Y4 (F8 x_7.fst.s.log.length (S5 x_7.fst.s.d x_7.snd))))/\(X3 x_2.fst x_2.snd).fst.s.sure=x_7.fst.s.sure/\((X3 x_2.fst x_2.snd).fst.s.fr.length=(y3 x_7.fst.s.fr.length (R7 x_7.fst.s.fr)
  (S5 x_7.fst.s.d x_7.snd+10*x_7.fst.s.log.length)).length/\Z7 (X3 x_2.fst x_2.snd).fst.s.fr.length (a9X (Y0 (y3 x.fst.s.fr.length (R7 x.fst.s.fr) (S5 x.fst.s.d x.snd.fst+10*x.fst.s.log.length)))) (V3
  (y3 x_7.fst.s.fr.length (R7 x_7.fst.s.fr) (S5 x_7.fst.s.d x_7.snd+10*x_7.fst.s.log.length))))/\(X3 x_2.fst x_2.snd).fst.s.hand=x_7.fst.s.hand/\(X3 x_2.fst x_2.snd).fst.up=x_7.fst.up/\((X3 x_2.fst
  x_2.snd).fst.txs.length=(Q5 x_7.fst.txs.length (R0 x_7.fst.s x_7.snd)).length/\Z7 (X3 x_2.fst x_2.snd).fst.txs.length (X9 (Q5 x.fst.txs.length (R0 x.fst.s x.snd.fst))) (X9 (Q5 x_7.fst.txs.length (R0
  x_7.fst.s x_7.snd))))/\((X3 x_2.fst x_2.snd).fst.lk.held.length=(T0 x_7.fst.lk.held.length (R0 x_7.fst.s x_7.snd+2*x_7.fst.txs.length)).length/\Z7 (X3 x_2.fst x_2.snd).fst.lk.held.length (Y9 (T0
  x.fst.lk.held.length (R0 x.fst.s x.snd.fst+2*x.fst.txs.length))) (Y9 (T0 x_7.fst.lk.held.length (R0 x_7.fst.s x_7.snd+2*x_7.fst.txs.length))))/\((X3 x_2.fst x_2.snd).fst.lk.waits.length=(M6
  x_7.fst.lk.waits.length (R0 x_7.fst.s x_7.snd+2*x_7.fst.txs.length+4*x_7.fst.lk.held.length)).length/\Z7 (X3 x_2.fst x_2.snd).fst.lk.waits.length (Y1 (M6 x.fst.lk.waits.length (R0 x.fst.s x.snd.fst+2*
  x.fst.txs.length+4*x.fst.lk.held.length))) (Y1 (M6 x_7.fst.lk.waits.length (R0 x_7.fst.s x_7.snd+2*x_7.fst.txs.length+4*x_7.fst.lk.held.length))))/\(X3 x_2.fst x_2.snd).fst.next=x_7.fst.next/\True)/\(1:
  Int)=(x_7.snd:Int)/\True)/\KBg x_7.fst x_7.snd)/\(decide ((↑(w6 x_7.fst x_7.snd):Int)<(0:Int))=true->false=true)/\(decide ((↑(w6 x_7.fst x_7.snd):Int)<(0:Int))=false->(((↑(w6 x_7.fst x_7.snd):Int)
  !=(↑(w6 x.fst x.snd.fst):Int))=true->false=true)/\(((↑(w6 x_7.fst x_7.snd):Int) !=(↑(w6 x.fst x.snd.fst):Int))=false->∃(x_8:Eng),(((u2 e x_8)/\True)/\L9 x_8)/\∃(x_9:a8o.ι),((LeG x_8)/\
  ((a3F x_8 x_9.fst)/\tx=x_9.snd/\True)/\a46 x_9.fst/\L9 x_9.fst)/\∃(x_10:Eng),((LeG (X3 x_9.fst x_9.snd).fst)/\((a3F (X3 x_9.fst x_9.snd).fst x_10)/\(u2 (X3 x_1.fst x_1.snd).fst x_10)/\True)/\L9 x_10)
  /\((false||(X3 x_9.fst x_9.snd).snd !=(X3 x_1.fst x_1.snd).snd)=true->false=true)/\((false||(X3 x_9.fst x_9.snd).snd !=(X3 x_1.fst x_1.snd).snd)=false->∃(x_11:(Eng×Nat)),((Le (0+(X3 x_2.fst
  x_2.snd).fst.s.d.sec.length) (B1 x.fst.s.d.sec.length x.snd.fst).length/\Le (0+(X3 x_2.fst x_2.snd).fst.s.d.cache.length) (u4 x.fst.s.d.cache.length (x.snd.fst+x.fst.s.d.sec.length)).length/\Le (0+(X3 x_2.fst
  x_2.snd).fst.s.d.keep.length) (m8 x.fst.s.d.keep.length (x.snd.fst+x.fst.s.d.sec.length+2*x.fst.s.d.cache.length)).length/\Le (0+(X3 x_2.fst x_2.snd).fst.s.log.length) (F8 x.fst.s.log.length (S5 x.fst.s.d
  x.snd.fst)).length/\Le (0+(X3 x_2.fst x_2.snd).fst.s.fr.length) (y3 x.fst.s.fr.length (R7 x.fst.s.fr) (S5 x.fst.s.d x.snd.fst+10*x.fst.s.log.length)).length/\Le (0+(X3 x_2.fst x_2.snd).fst.txs.length) (Q5
  x.fst.txs.length (R0 x.fst.s x.snd.fst)).length/\Le (0+(X3 x_2.fst x_2.snd).fst.lk.held.length) (T0 x.fst.lk.held.length (R0 x.fst.s x.snd.fst+2*x.fst.txs.length)).length/\Le (0+(X3 x_2.fst
  x_2.snd).fst.lk.waits.length) (M6 x.fst.lk.waits.length (R0 x.fst.s x.snd.fst+2*x.fst.txs.length+4*x.fst.lk.held.length)).length)/\((((X3 x_2.fst x_2.snd).fst.s.d.sec.length=(B1 x_11.fst.s.d.sec.length
  x_11.snd).length/\Z7 (X3 x_2.fst x_2.snd).fst.s.d.sec.length (Z6 (B1 x.fst.s.d.sec.length x.snd.fst)) (Z6 (B1 x_11.fst.s.d.sec.length x_11.snd)))/\((X3 x_2.fst x_2.snd).fst.s.d.cache.length=(u4
  x_11.fst.s.d.cache.length (x_11.snd+x_11.fst.s.d.sec.length)).length/\Z7 (X3 x_2.fst x_2.snd).fst.s.d.cache.length (Z3 (u4 x.fst.s.d.cache.length (x.snd.fst+x.fst.s.d.sec.length))) (Z3 (u4
  x_11.fst.s.d.cache.length (x_11.snd+x_11.fst.s.d.sec.length))))/\(X3 x_2.fst x_2.snd).fst.s.d.armed=x_11.fst.s.d.armed/\((X3 x_2.fst x_2.snd).fst.s.d.keep.length=(m8 x_11.fst.s.d.keep.length (x_11.snd+
  x_11.fst.s.d.sec.length+2*x_11.fst.s.d.cache.length)).length/\Z7 (X3 x_2.fst x_2.snd).fst.s.d.keep.length (Y7 (m8 x.fst.s.d.keep.length (x.snd.fst+x.fst.s.d.sec.length+2*x.fst.s.d.cache.length))) (Y7 (m8
  x_11.fst.s.d.keep.length (x_11.snd+x_11.fst.s.d.sec.length+2*x_11.fst.s.d.cache.length))))/\(X3 x_2.fst x_2.snd).fst.s.ep=x_11.fst.s.ep/\((X3 x_2.fst x_2.snd).fst.s.log.length=(F8 x_11.fst.s.log.length (S5
  x_11.fst.s.d x_11.snd)).length/\Z7 (X3 x_2.fst x_2.snd).fst.s.log.length (Y4 (F8 x.fst.s.log.length (S5 x.fst.s.d x.snd.fst))) (Y4 (F8 x_11.fst.s.log.length (S5 x_11.fst.s.d x_11.snd))))/\(X3 x_2.fst
  x_2.snd).fst.s.sure=x_11.fst.s.sure/\((X3 x_2.fst x_2.snd).fst.s.fr.length=(y3 x_11.fst.s.fr.length (R7 x_11.fst.s.fr) (S5 x_11.fst.s.d x_11.snd+10*x_11.fst.s.log.length)).length/\Z7 (X3 x_2.fst
  x_2.snd).fst.s.fr.length (a9X (Y0 (y3 x.fst.s.fr.length (R7 x.fst.s.fr) (S5 x.fst.s.d x.snd.fst+10*x.fst.s.log.length)))) (V3 (y3 x_11.fst.s.fr.length (R7 x_11.fst.s.fr) (S5 x_11.fst.s.d x_11.snd+10*
  x_11.fst.s.log.length))))/\(X3 x_2.fst x_2.snd).fst.s.hand=x_11.fst.s.hand/\(X3 x_2.fst x_2.snd).fst.up=x_11.fst.up/\((X3 x_2.fst x_2.snd).fst.txs.length=(Q5 x_11.fst.txs.length (R0 x_11.fst.s x_11.snd)).length
  /\Z7 (X3 x_2.fst x_2.snd).fst.txs.length (X9 (Q5 x.fst.txs.length (R0 x.fst.s x.snd.fst))) (X9 (Q5 x_11.fst.txs.length (R0 x_11.fst.s x_11.snd))))/\((X3 x_2.fst x_2.snd).fst.lk.held.length=(T0
  x_11.fst.lk.held.length (R0 x_11.fst.s x_11.snd+2*x_11.fst.txs.length)).length/\Z7 (X3 x_2.fst x_2.snd).fst.lk.held.length (Y9 (T0 x.fst.lk.held.length (R0 x.fst.s x.snd.fst+2*x.fst.txs.length))) (Y9
  (T0 x_11.fst.lk.held.length (R0 x_11.fst.s x_11.snd+2*x_11.fst.txs.length))))/\((X3 x_2.fst x_2.snd).fst.lk.waits.length=(M6 x_11.fst.lk.waits.length (R0 x_11.fst.s x_11.snd+2*x_11.fst.txs.length+4*
  x_11.fst.lk.held.length)).length/\Z7 (X3 x_2.fst x_2.snd).fst.lk.waits.length (Y1 (M6 x.fst.lk.waits.length (R0 x.fst.s x.snd.fst+2*x.fst.txs.length+4*x.fst.lk.held.length))) (Y1 (M6
  x_11.fst.lk.waits.length (R0 x_11.fst.s x_11.snd+2*x_11.fst.txs.length+4*x_11.fst.lk.held.length))))/\(X3 x_2.fst x_2.snd).fst.next=x_11.fst.next/\True)/\(1:Int)=(x_11.snd:Int)/\True)/\KBg x_11.fst x_11.snd)
  /\(decide ((↑(w6 x_11.fst x_11.snd):Int)<(0:Int))=true->false=true)/\(decide ((↑(w6 x_11.fst x_11.snd):Int)<(0:Int))=false->(((↑(w6 x_11.fst x_11.snd):Int) !=(↑(w6 x.fst x.snd.fst):Int))=true->
  false=true)/\(((↑(w6 x_11.fst x_11.snd):Int) !=(↑(w6 x.fst x.snd.fst):Int))=false->true=true)))))))))):
  Z1 Tryz.prog 6 [.agg e.ts,.int .i64 tx] (.bool true):=
 T7 (code:=d4B) (gC c75 b5n (gC c5Y b3v (gC c0o b2a (gC c3v b0d (gC c7o b7a (gC b6C a7l (gC b5G a8k gN))))))) Tryz.func6 (by kernel_rfl) (by kernel_rfl) Z0 h (by kernel_rfl)
theorem c2H(e:Eng)(tx:Int)(h:b8H e):Z1 Tryz.prog 6 [.agg e.ts,.int .i64 tx] (.bool true):=by
 have l0:I4 1048576:=⟨by omega,by omega⟩
 refine d33 e tx ⟨(e,1048576),⟨⟨y8 _,rfl,trivial⟩,l0,h⟩,fun _=>rfl,fun hq=> ?_⟩
 have hb:=d1G (of_decide_eq_false hq);dsimp only at hb;obtain⟨hS,hB⟩:=c2e (e:=e) (by omega)
 have hO:L9 (X3 e tx).1:=d0u hS;have hk:KBg e 1:=⟨hS,Nat.le_refl _,by omega⟩
 have hko:KBg (X3 e tx).1 1:=⟨hO,Nat.le_refl _,by omega⟩
 have hn:∀n:Nat,decide ((n:Int)<0)=false:=fun n=>decide_eq_false (by omega)
 exact⟨e,⟨⟨y8 _,trivial⟩,hS⟩,(e,tx),⟨⟨T3 _,T3 _,T3 _,T3 _,T3 _,T3 _,T3 _,T3 _⟩,⟨⟨⟨rfl,Z9 _ _⟩,⟨rfl,Z9 _ _⟩,rfl,⟨rfl,Z9 _ _⟩,rfl,⟨rfl,Z9 _ _⟩,rfl,⟨rfl,fun _ _=>rfl⟩,rfl,rfl,⟨rfl,Z9 _ _⟩,⟨rfl,Z9 _ _⟩,⟨rfl,Z9 _ _⟩,rfl,trivial⟩,rfl,trivial⟩,hB,hS⟩,e,⟨⟨y8 _,trivial⟩,hS⟩,(e,tx),⟨⟨T3 _,T3 _,T3 _,T3 _,T3 _,T3 _,T3 _,T3 _⟩,⟨⟨⟨rfl,Z9 _ _⟩,⟨rfl,Z9 _ _⟩,rfl,⟨rfl,Z9 _ _⟩,rfl,⟨rfl,Z9 _ _⟩,rfl,⟨rfl,fun _ _=>rfl⟩,rfl,rfl,⟨rfl,Z9 _ _⟩,⟨rfl,Z9 _ _⟩,⟨rfl,Z9 _ _⟩,rfl,trivial⟩,rfl,trivial⟩,hB,hS⟩,
  (X3 e tx).1,⟨⟨T3 _,T3 _,T3 _,T3 _,T3 _,T3 _,T3 _,T3 _⟩,⟨⟨⟨rfl,Z9 _ _⟩,⟨rfl,Z9 _ _⟩,rfl,⟨rfl,Z9 _ _⟩,rfl,⟨rfl,Z9 _ _⟩,rfl,⟨rfl,fun _ _=>rfl⟩,rfl,rfl,⟨rfl,Z9 _ _⟩,⟨rfl,Z9 _ _⟩,⟨rfl,Z9 _ _⟩,rfl,trivial⟩,y8 _,trivial⟩,hO⟩,fun he=>by simp at he,fun _=>⟨e,⟨⟨y8 _,trivial⟩,hS⟩,e,⟨⟨⟨T3 _,T3 _,T3 _,T3 _,T3 _,T3 _,T3 _,T3 _⟩,⟨T3 _,T3 _,T3 _,T3 _,T3 _,T3 _,T3 _,T3 _⟩⟩,⟨⟨⟨rfl,Z9 _ _⟩,⟨rfl,Z9 _ _⟩,rfl,⟨rfl,Z9 _ _⟩,rfl,⟨rfl,Z9 _ _⟩,rfl,⟨rfl,fun _ _=>rfl⟩,rfl,rfl,⟨rfl,Z9 _ _⟩,⟨rfl,Z9 _ _⟩,⟨rfl,Z9 _ _⟩,rfl,trivial⟩,⟨⟨rfl,Z9 _ _⟩,⟨rfl,Z9 _ _⟩,rfl,⟨rfl,Z9 _ _⟩,rfl,⟨rfl,Z9 _ _⟩,rfl,⟨rfl,fun _ _=>rfl⟩,rfl,rfl,⟨rfl,Z9 _ _⟩,⟨rfl,Z9 _ _⟩,⟨rfl,Z9 _ _⟩,rfl,trivial⟩,trivial⟩,hS⟩,fun he=>he,fun _=>
  ⟨(e,1,e.s.fr.length),⟨⟨⟨⟨rfl,rfl⟩,⟨rfl,rfl⟩,rfl,⟨rfl,rfl⟩,rfl,⟨rfl,rfl⟩,rfl,⟨rfl,rfl⟩,rfl,rfl,⟨rfl,rfl⟩,⟨rfl,rfl⟩,⟨rfl,rfl⟩,rfl,trivial⟩,rfl,trivial⟩,⟨⟨rfl,Z9 _ _⟩,⟨rfl,Z9 _ _⟩,⟨rfl,Z9 _ _⟩,⟨rfl,Z9 _ _⟩,⟨rfl,rfl,U4 _⟩,⟨rfl,Z9 _ _⟩,⟨rfl,Z9 _ _⟩,⟨rfl,Z9 _ _⟩,trivial⟩,hk⟩,(X3 e tx).1,fun _=>⟨⟨T3 _,T3 _,T3 _,T3 _,T3 _,T3 _,T3 _,T3 _⟩,⟨⟨⟨rfl,Z9 _ _⟩,⟨rfl,Z9 _ _⟩,rfl,⟨rfl,Z9 _ _⟩,rfl,⟨rfl,Z9 _ _⟩,rfl,⟨rfl,fun _ _=>rfl⟩,rfl,rfl,⟨rfl,Z9 _ _⟩,⟨rfl,Z9 _ _⟩,⟨rfl,Z9 _ _⟩,rfl,trivial⟩,y8 _,trivial⟩,hO⟩,fun he=>by rw[hn] at he;simp at he,fun _=>
  ⟨((X3 e tx).1,1,0),⟨⟨⟨⟨rfl,rfl⟩,⟨rfl,rfl⟩,rfl,⟨rfl,rfl⟩,rfl,⟨rfl,rfl⟩,rfl,⟨rfl,rfl⟩,rfl,rfl,⟨rfl,rfl⟩,⟨rfl,rfl⟩,⟨rfl,rfl⟩,rfl,trivial⟩,rfl,trivial⟩,⟨⟨rfl,Z9 _ _⟩,⟨rfl,Z9 _ _⟩,⟨rfl,Z9 _ _⟩,⟨rfl,Z9 _ _⟩,⟨rfl,rfl,U4 _⟩,⟨rfl,Z9 _ _⟩,⟨rfl,Z9 _ _⟩,⟨rfl,Z9 _ _⟩,trivial⟩,hko⟩,((X3 e tx).1,1),⟨⟨leM _ _,leM _ _,leM _ _,leM _ _,leM _ _,leM _ _,leM _ _,leM _ _⟩,⟨⟨⟨(R8 _ _).symm,Z9 _ _⟩,⟨(R8 _ _).symm,Z9 _ _⟩,rfl,⟨(R8 _ _).symm,Z9 _ _⟩,rfl,⟨(R8 _ _).symm,Z9 _ _⟩,rfl,⟨(R8 _ _).symm,fun _ _=>rfl⟩,rfl,rfl,⟨(R8 _ _).symm,Z9 _ _⟩,⟨(R8 _ _).symm,Z9 _ _⟩,⟨(R8 _ _).symm,Z9 _ _⟩,rfl,trivial⟩,rfl,trivial⟩,hko⟩,fun he=>by rw[hn] at he;simp at he,fun _=>⟨fun he=>by simp at he,fun _=>
  ⟨e,⟨⟨y8 _,trivial⟩,hS⟩,(e,tx),⟨⟨T3 _,T3 _,T3 _,T3 _,T3 _,T3 _,T3 _,T3 _⟩,⟨⟨⟨rfl,Z9 _ _⟩,⟨rfl,Z9 _ _⟩,rfl,⟨rfl,Z9 _ _⟩,rfl,⟨rfl,Z9 _ _⟩,rfl,⟨rfl,fun _ _=>rfl⟩,rfl,rfl,⟨rfl,Z9 _ _⟩,⟨rfl,Z9 _ _⟩,⟨rfl,Z9 _ _⟩,rfl,trivial⟩,rfl,trivial⟩,hB,hS⟩,(X3 e tx).1,⟨⟨T3 _,T3 _,T3 _,T3 _,T3 _,T3 _,T3 _,T3 _⟩,⟨⟨⟨rfl,Z9 _ _⟩,⟨rfl,Z9 _ _⟩,rfl,⟨rfl,Z9 _ _⟩,rfl,⟨rfl,Z9 _ _⟩,rfl,⟨rfl,fun _ _=>rfl⟩,rfl,rfl,⟨rfl,Z9 _ _⟩,⟨rfl,Z9 _ _⟩,⟨rfl,Z9 _ _⟩,rfl,trivial⟩,y8 _,trivial⟩,hO⟩,fun he=>by simp at he,fun _=>⟨((X3 e tx).1,1),⟨⟨leM _ _,leM _ _,leM _ _,leM _ _,leM _ _,leM _ _,leM _ _,leM _ _⟩,⟨⟨⟨(R8 _ _).symm,Z9 _ _⟩,⟨(R8 _ _).symm,Z9 _ _⟩,rfl,⟨(R8 _ _).symm,Z9 _ _⟩,rfl,⟨(R8 _ _).symm,Z9 _ _⟩,rfl,⟨(R8 _ _).symm,fun _ _=>rfl⟩,rfl,rfl,⟨(R8 _ _).symm,Z9 _ _⟩,⟨(R8 _ _).symm,Z9 _ _⟩,⟨(R8 _ _).symm,Z9 _ _⟩,rfl,trivial⟩,rfl,trivial⟩,hko⟩,fun he=>by rw[hn] at he;simp at he,fun _=>⟨fun he=>by simp at he,fun _=>rfl⟩⟩⟩⟩⟩⟩⟩⟩
end Go.Proofs.YtokaojbaacnngaaGreat

