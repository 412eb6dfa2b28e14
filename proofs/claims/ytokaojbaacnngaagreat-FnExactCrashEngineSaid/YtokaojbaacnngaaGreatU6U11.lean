/- A part of the proof. -/
import Derived.Test.YtokaojbaacnngaaGreatU3U4
import Derived.Test.YtokaojbaacnngaaGreatU10
namespace Go.Proofs.YtokaojbaacnngaaGreat
set_option maxRecDepth 100000
open Go.SS

theorem leM{α:Type}(f:Nat->α)(n:Nat):Le (0+n) ((List.range n).map f).length:=by rw[mk_len];exact le0 n
theorem smEs:SmS stoE:=⟨⟨Nat.zero_le _,Nat.zero_le _,Nat.zero_le _⟩,Nat.zero_le _,Nat.zero_le _,fun i hi=>absurd hi (Nat.not_lt_zero _)⟩
theorem smEE:SmEng engE:=⟨smEs,Nat.zero_le _,Nat.zero_le _,Nat.zero_le _⟩
end Go.Proofs.YtokaojbaacnngaaGreat

namespace Go.Proofs.YtokaojbaacnngaaGreat
set_option maxRecDepth 100000
open Go.SS

noncomputable def b_LawC:Code:=Tryz.f5.body.getD .skip
theorem v_LawC(e:Eng)(K:List Int)(h:
  (decide ((K.length:Int)>(1048576:Int))=true->true=true)/\(decide ((K.length:Int)>(1048576:Int))=false->∃(x:(Eng×Int)),(((EqG e x.fst)/\(1048576:Int)=x.snd/\True)/\Left x.snd/\LmEng x.fst)/\(decide
  (rem x.snd (bulkEng x.fst)<(0:Int))=true->true=true)/\(decide (rem x.snd (bulkEng x.fst)<(0:Int))=false->∃(x:Eng),(((EqG e x)/\True)/\SmEng x)/\∃(x_1:(List Int)),(((K.length=List.length x_1/\RowsEq
  K.length (intRow K) (intRow x_1))/\True)/\List.length x_1<=1048576)/\∃(x_2:(Eng×List Int)),(((LeG x)/\Le (0+List.length x_1) (List.length x_1))/\((EqFG x x_2.fst)/\(List.length x_1=x_2.snd.length/\RowsEq
  (List.length x_1) (intRow x_1) (intRow x_2.snd))/\True)/\EngB x_2.fst/\SmEng x_2.fst)/\∃(x:Eng),(((EqG e x)/\True)/\SmEng x)/\∃(x_3:(List Int)),(((K.length=List.length x_3/\RowsEq K.length (intRow K) (intRow
  x_3))/\True)/\List.length x_3<=1048576)/\∃(x_4:r_Crash.ι),(((LeG x)/\Le (0+List.length x_3) (List.length x_3))/\((EqFG x x_4.fst)/\(List.length x_3=x_4.snd.length/\RowsEq (List.length x_3) (intRow x_3) (intRow
  x_4.snd))/\True)/\EngB x_4.fst/\SmEng x_4.fst)/\∃(x_5:Eng),((LeG (craO x_4.fst x_4.snd).fst)/\((EqFG (craO x_4.fst x_4.snd).fst x_5)/\(EqG (craO x_2.fst x_2.snd).fst x_5)/\True)/\SmEng x_5)/\((false||(craO x_4.fst
  x_4.snd).snd !=(craO x_2.fst x_2.snd).snd)=true->false=true)/\((false||(craO x_4.fst x_4.snd).snd !=(craO x_2.fst x_2.snd).snd)=false->∃(x_6:Eng),(((EqG e x_6)/\True)/\SmEng x_6)/\∃(x_7:Eng),(((LeG x)/\LeG
  x_6)/\((EqFG x x_7)/\(EqFG x_6 x_7)/\True)/\SmEng x_7)/\(false=true->false=true)/\(false=false->∃(x_8:(List Int)),(((K.length=List.length x_8/\RowsEq K.length (intRow K) (intRow x_8))/\True)/\List.length x_8
  <=1048576)/\∃(x_9:r_eqIntS.ι),((Le (0+List.length x_3) (List.length x_3)/\Le (0+List.length x_8) (List.length x_8))/\((List.length x_3=List.length x_9/\RowsEq (List.length x_3) (intRow x_3) (intRow x_9))/\
  (List.length x_8=List.length x_9/\RowsEq (List.length x_8) (intRow x_8) (intRow x_9))/\True)/\List.length x_9<=1048576)/\(false=true->false=true)/\(false=false->∃(x_10:(Eng×Nat×Nat)),(((EqCG x x_10.fst)/\
  (1:Int)=(x_10.snd.fst:Int)/\True)/\(EqHG (x.s.fr.length) (x_10.snd.snd) x x_10.fst)/\KBg x_10.fst x_10.snd.fst)/\∃(x:(List Int×Nat)),(((0=0/\List.length x_3=x.fst.length)/\(↑(endG x_10.fst x_10.snd.fst):Int)
  =(x.snd:Int)/\True)/\((List.length x_3=x.fst.length/\RowsEq (List.length x_3) (intRow x_3) (intRow x.fst))/\True)/\KBn x.fst.length x.snd 1)/\∃(x_11:Eng),(decide ((↑(x.snd+x.fst.length):Int)<(0:Int))=false->
  (LeG (craO x_4.fst x_4.snd).fst)/\((EqFG (craO x_4.fst x_4.snd).fst x_11)/\(EqG (craO x_2.fst x_2.snd).fst x_11)/\True)/\SmEng x_11)/\((decide ((↑(x.snd+x.fst.length):Int)<(0:Int))||false||(craO x_4.fst
  x_4.snd).snd !=(craO x_2.fst x_2.snd).snd)=true->false=true)/\((decide ((↑(x.snd+x.fst.length):Int)<(0:Int))||false||(craO x_4.fst x_4.snd).snd !=(craO x_2.fst x_2.snd).snd)=false->∃(x:(Eng×Nat×Nat)),
  (((EqCG (craO x_4.fst x_4.snd).fst x.fst)/\(1:Int)=(x.snd.fst:Int)/\True)/\(EqHG (0) (x.snd.snd) (craO x_4.fst x_4.snd).fst x.fst)/\KBg x.fst x.snd.fst)/\∃(x_12:(Eng×Nat)),((Le (0+(craO x_4.fst
  x_4.snd).fst.s.d.sec.length) (mkS x.fst.s.d.sec.length x.snd.fst).length/\Le (0+(craO x_4.fst x_4.snd).fst.s.d.cache.length) (mkP x.fst.s.d.cache.length (x.snd.fst+x.fst.s.d.sec.length)).length/\Le (0+(craO x_4.fst
  x_4.snd).fst.s.d.keep.length) (mkI x.fst.s.d.keep.length (x.snd.fst+x.fst.s.d.sec.length+2*x.fst.s.d.cache.length)).length/\Le (0+(craO x_4.fst x_4.snd).fst.s.log.length) (mkR x.fst.s.log.length (endD x.fst.s.d
  x.snd.fst)).length/\Le (0+(craO x_4.fst x_4.snd).fst.s.fr.length) (mkF x.fst.s.fr.length (lnOf x.fst.s.fr) (endD x.fst.s.d x.snd.fst+10*x.fst.s.log.length)).length/\Le (0+(craO x_4.fst x_4.snd).fst.txs.length) (mkTxn
  x.fst.txs.length (endS x.fst.s x.snd.fst)).length/\Le (0+(craO x_4.fst x_4.snd).fst.lk.held.length) (mkLck x.fst.lk.held.length (endS x.fst.s x.snd.fst+2*x.fst.txs.length)).length/\Le (0+(craO x_4.fst
  x_4.snd).fst.lk.waits.length) (mkWt x.fst.lk.waits.length (endS x.fst.s x.snd.fst+2*x.fst.txs.length+4*x.fst.lk.held.length)).length)/\((((craO x_4.fst x_4.snd).fst.s.d.sec.length=(mkS x_12.fst.s.d.sec.length
  x_12.snd).length/\RowsEq (craO x_4.fst x_4.snd).fst.s.d.sec.length (strRow (mkS x.fst.s.d.sec.length x.snd.fst)) (strRow (mkS x_12.fst.s.d.sec.length x_12.snd)))/\((craO x_4.fst x_4.snd).fst.s.d.cache.length=(mkP
  x_12.fst.s.d.cache.length (x_12.snd+x_12.fst.s.d.sec.length)).length/\RowsEq (craO x_4.fst x_4.snd).fst.s.d.cache.length (pendRow (mkP x.fst.s.d.cache.length (x.snd.fst+x.fst.s.d.sec.length))) (pendRow (mkP
  x_12.fst.s.d.cache.length (x_12.snd+x_12.fst.s.d.sec.length))))/\(craO x_4.fst x_4.snd).fst.s.d.armed=x_12.fst.s.d.armed/\((craO x_4.fst x_4.snd).fst.s.d.keep.length=(mkI x_12.fst.s.d.keep.length (x_12.snd+
  x_12.fst.s.d.sec.length+2*x_12.fst.s.d.cache.length)).length/\RowsEq (craO x_4.fst x_4.snd).fst.s.d.keep.length (intRow (mkI x.fst.s.d.keep.length (x.snd.fst+x.fst.s.d.sec.length+2*x.fst.s.d.cache.length))) (intRow (mkI
  x_12.fst.s.d.keep.length (x_12.snd+x_12.fst.s.d.sec.length+2*x_12.fst.s.d.cache.length))))/\(craO x_4.fst x_4.snd).fst.s.ep=x_12.fst.s.ep/\((craO x_4.fst x_4.snd).fst.s.log.length=(mkR x_12.fst.s.log.length (endD
  x_12.fst.s.d x_12.snd)).length/\RowsEq (craO x_4.fst x_4.snd).fst.s.log.length (recRow (mkR x.fst.s.log.length (endD x.fst.s.d x.snd.fst))) (recRow (mkR x_12.fst.s.log.length (endD x_12.fst.s.d x_12.snd))))/\(craO x_4.fst
  x_4.snd).fst.s.sure=x_12.fst.s.sure/\((craO x_4.fst x_4.snd).fst.s.fr.length=(mkF x_12.fst.s.fr.length (lnOf x_12.fst.s.fr) (endD x_12.fst.s.d x_12.snd+10*x_12.fst.s.log.length)).length/\RowsEq (craO x_4.fst
  x_4.snd).fst.s.fr.length (frzR (famRow (mkF x.fst.s.fr.length (lnOf x.fst.s.fr) (endD x.fst.s.d x.snd.fst+10*x.fst.s.log.length)))) (frmRow (mkF x_12.fst.s.fr.length (lnOf x_12.fst.s.fr) (endD x_12.fst.s.d x_12.snd+10*
  x_12.fst.s.log.length))))/\(craO x_4.fst x_4.snd).fst.s.hand=x_12.fst.s.hand/\(craO x_4.fst x_4.snd).fst.up=x_12.fst.up/\((craO x_4.fst x_4.snd).fst.txs.length=(mkTxn x_12.fst.txs.length (endS x_12.fst.s x_12.snd)).length
  /\RowsEq (craO x_4.fst x_4.snd).fst.txs.length (txnRow (mkTxn x.fst.txs.length (endS x.fst.s x.snd.fst))) (txnRow (mkTxn x_12.fst.txs.length (endS x_12.fst.s x_12.snd))))/\((craO x_4.fst x_4.snd).fst.lk.held.length=(mkLck
  x_12.fst.lk.held.length (endS x_12.fst.s x_12.snd+2*x_12.fst.txs.length)).length/\RowsEq (craO x_4.fst x_4.snd).fst.lk.held.length (lckRow (mkLck x.fst.lk.held.length (endS x.fst.s x.snd.fst+2*x.fst.txs.length))) (lckRow
  (mkLck x_12.fst.lk.held.length (endS x_12.fst.s x_12.snd+2*x_12.fst.txs.length))))/\((craO x_4.fst x_4.snd).fst.lk.waits.length=(mkWt x_12.fst.lk.waits.length (endS x_12.fst.s x_12.snd+2*x_12.fst.txs.length+4*
  x_12.fst.lk.held.length)).length/\RowsEq (craO x_4.fst x_4.snd).fst.lk.waits.length (wtRow (mkWt x.fst.lk.waits.length (endS x.fst.s x.snd.fst+2*x.fst.txs.length+4*x.fst.lk.held.length))) (wtRow (mkWt
  x_12.fst.lk.waits.length (endS x_12.fst.s x_12.snd+2*x_12.fst.txs.length+4*x_12.fst.lk.held.length))))/\(craO x_4.fst x_4.snd).fst.next=x_12.fst.next/\True)/\(1:Int)=(x_12.snd:Int)/\True)/\KBg x_12.fst x_12.snd)
  /\(decide ((↑(endG x_12.fst x_12.snd):Int)<(0:Int))=true->false=true)/\(decide ((↑(endG x_12.fst x_12.snd):Int)<(0:Int))=false->(((↑(endG x_12.fst x_12.snd):Int) !=(↑(endG x.fst x.snd.fst):Int))=true->
  false=true)/\(((↑(endG x_12.fst x_12.snd):Int) !=(↑(endG x.fst x.snd.fst):Int))=false->∃(x_13:Eng),(((EqG e x_13)/\True)/\SmEng x_13)/\∃(x_14:(List Int)),(((K.length=List.length x_14/\RowsEq K.length
  (intRow K) (intRow x_14))/\True)/\List.length x_14<=1048576)/\∃(x_15:r_Crash.ι),(((LeG x_13)/\Le (0+List.length x_14) (List.length x_14))/\((EqFG x_13 x_15.fst)/\(List.length x_14=x_15.snd.length/\RowsEq
  (List.length x_14) (intRow x_14) (intRow x_15.snd))/\True)/\EngB x_15.fst/\SmEng x_15.fst)/\∃(x_16:Eng),((LeG (craO x_15.fst x_15.snd).fst)/\((EqFG (craO x_15.fst x_15.snd).fst x_16)/\(EqG (craO x_2.fst x_2.snd).fst
  x_16)/\True)/\SmEng x_16)/\((false||(craO x_15.fst x_15.snd).snd !=(craO x_2.fst x_2.snd).snd)=true->false=true)/\((false||(craO x_15.fst x_15.snd).snd !=(craO x_2.fst x_2.snd).snd)=false->∃(x_17:(Eng×Nat)),
  ((Le (0+(craO x_4.fst x_4.snd).fst.s.d.sec.length) (mkS x.fst.s.d.sec.length x.snd.fst).length/\Le (0+(craO x_4.fst x_4.snd).fst.s.d.cache.length) (mkP x.fst.s.d.cache.length (x.snd.fst+x.fst.s.d.sec.length)).length/\Le (0
  +(craO x_4.fst x_4.snd).fst.s.d.keep.length) (mkI x.fst.s.d.keep.length (x.snd.fst+x.fst.s.d.sec.length+2*x.fst.s.d.cache.length)).length/\Le (0+(craO x_4.fst x_4.snd).fst.s.log.length) (mkR x.fst.s.log.length (endD
  x.fst.s.d x.snd.fst)).length/\Le (0+(craO x_4.fst x_4.snd).fst.s.fr.length) (mkF x.fst.s.fr.length (lnOf x.fst.s.fr) (endD x.fst.s.d x.snd.fst+10*x.fst.s.log.length)).length/\Le (0+(craO x_4.fst x_4.snd).fst.txs.length)
  (mkTxn x.fst.txs.length (endS x.fst.s x.snd.fst)).length/\Le (0+(craO x_4.fst x_4.snd).fst.lk.held.length) (mkLck x.fst.lk.held.length (endS x.fst.s x.snd.fst+2*x.fst.txs.length)).length/\Le (0+(craO x_4.fst
  x_4.snd).fst.lk.waits.length) (mkWt x.fst.lk.waits.length (endS x.fst.s x.snd.fst+2*x.fst.txs.length+4*x.fst.lk.held.length)).length)/\((((craO x_4.fst x_4.snd).fst.s.d.sec.length=(mkS x_17.fst.s.d.sec.length
  x_17.snd).length/\RowsEq (craO x_4.fst x_4.snd).fst.s.d.sec.length (strRow (mkS x.fst.s.d.sec.length x.snd.fst)) (strRow (mkS x_17.fst.s.d.sec.length x_17.snd)))/\((craO x_4.fst x_4.snd).fst.s.d.cache.length=(mkP
  x_17.fst.s.d.cache.length (x_17.snd+x_17.fst.s.d.sec.length)).length/\RowsEq (craO x_4.fst x_4.snd).fst.s.d.cache.length (pendRow (mkP x.fst.s.d.cache.length (x.snd.fst+x.fst.s.d.sec.length))) (pendRow (mkP
  x_17.fst.s.d.cache.length (x_17.snd+x_17.fst.s.d.sec.length))))/\(craO x_4.fst x_4.snd).fst.s.d.armed=x_17.fst.s.d.armed/\((craO x_4.fst x_4.snd).fst.s.d.keep.length=(mkI x_17.fst.s.d.keep.length (x_17.snd+
  x_17.fst.s.d.sec.length+2*x_17.fst.s.d.cache.length)).length/\RowsEq (craO x_4.fst x_4.snd).fst.s.d.keep.length (intRow (mkI x.fst.s.d.keep.length (x.snd.fst+x.fst.s.d.sec.length+2*x.fst.s.d.cache.length))) (intRow (mkI
  x_17.fst.s.d.keep.length (x_17.snd+x_17.fst.s.d.sec.length+2*x_17.fst.s.d.cache.length))))/\(craO x_4.fst x_4.snd).fst.s.ep=x_17.fst.s.ep/\((craO x_4.fst x_4.snd).fst.s.log.length=(mkR x_17.fst.s.log.length (endD
  x_17.fst.s.d x_17.snd)).length/\RowsEq (craO x_4.fst x_4.snd).fst.s.log.length (recRow (mkR x.fst.s.log.length (endD x.fst.s.d x.snd.fst))) (recRow (mkR x_17.fst.s.log.length (endD x_17.fst.s.d x_17.snd))))/\(craO x_4.fst
  x_4.snd).fst.s.sure=x_17.fst.s.sure/\((craO x_4.fst x_4.snd).fst.s.fr.length=(mkF x_17.fst.s.fr.length (lnOf x_17.fst.s.fr) (endD x_17.fst.s.d x_17.snd+10*x_17.fst.s.log.length)).length/\RowsEq (craO x_4.fst
  x_4.snd).fst.s.fr.length (frzR (famRow (mkF x.fst.s.fr.length (lnOf x.fst.s.fr) (endD x.fst.s.d x.snd.fst+10*x.fst.s.log.length)))) (frmRow (mkF x_17.fst.s.fr.length (lnOf x_17.fst.s.fr) (endD x_17.fst.s.d x_17.snd+10*
  x_17.fst.s.log.length))))/\(craO x_4.fst x_4.snd).fst.s.hand=x_17.fst.s.hand/\(craO x_4.fst x_4.snd).fst.up=x_17.fst.up/\((craO x_4.fst x_4.snd).fst.txs.length=(mkTxn x_17.fst.txs.length (endS x_17.fst.s x_17.snd)).length
  /\RowsEq (craO x_4.fst x_4.snd).fst.txs.length (txnRow (mkTxn x.fst.txs.length (endS x.fst.s x.snd.fst))) (txnRow (mkTxn x_17.fst.txs.length (endS x_17.fst.s x_17.snd))))/\((craO x_4.fst x_4.snd).fst.lk.held.length=(mkLck
  x_17.fst.lk.held.length (endS x_17.fst.s x_17.snd+2*x_17.fst.txs.length)).length/\RowsEq (craO x_4.fst x_4.snd).fst.lk.held.length (lckRow (mkLck x.fst.lk.held.length (endS x.fst.s x.snd.fst+2*x.fst.txs.length))) (lckRow
  (mkLck x_17.fst.lk.held.length (endS x_17.fst.s x_17.snd+2*x_17.fst.txs.length))))/\((craO x_4.fst x_4.snd).fst.lk.waits.length=(mkWt x_17.fst.lk.waits.length (endS x_17.fst.s x_17.snd+2*x_17.fst.txs.length+4*
  x_17.fst.lk.held.length)).length/\RowsEq (craO x_4.fst x_4.snd).fst.lk.waits.length (wtRow (mkWt x.fst.lk.waits.length (endS x.fst.s x.snd.fst+2*x.fst.txs.length+4*x.fst.lk.held.length))) (wtRow (mkWt
  x_17.fst.lk.waits.length (endS x_17.fst.s x_17.snd+2*x_17.fst.txs.length+4*x_17.fst.lk.held.length))))/\(craO x_4.fst x_4.snd).fst.next=x_17.fst.next/\True)/\(1:Int)=(x_17.snd:Int)/\True)/\KBg x_17.fst x_17.snd)
  /\(decide ((↑(endG x_17.fst x_17.snd):Int)<(0:Int))=true->false=true)/\(decide ((↑(endG x_17.fst x_17.snd):Int)<(0:Int))=false->(((↑(endG x_17.fst x_17.snd):Int) !=(↑(endG x.fst x.snd.fst):Int))=true->
  false=true)/\(((↑(endG x_17.fst x_17.snd):Int) !=(↑(endG x.fst x.snd.fst):Int))=false->true=true)))))))))))):
  PureFn Tryz.prog 5 [.agg e.ts,intS K] (.bool true):=
 vcR (code:=b_LawC) (gC szEng_ok call_szEng (gC moEng_ok call_moEng (gC moIntS_ok call_moIntS (gC Crashs_ok call_Crashs (gC Crashi_ok call_Crashi (gC eqEng_ok call_eqEng (gC eqIntS_ok call_eqIntS (gC markEng_ok call_markEng (gC markIntS_ok call_markIntS (gC heldEng_ok call_heldEng gN)))))))))) Tryz.func5 (by kernel_rfl) (by kernel_rfl) noAnn h (by kernel_rfl)
theorem sm_craO{e:Eng}{K:List Int}(h:SmEng e):SmEng (craO e K).1:=by
 unfold craO;split
 ·exact smEE
 ·split
  ·rename_i ho;exact sm_cra h ho
  ·exact smEE
theorem lawC_pure(e:Eng)(K:List Int)(h:LmEng e):PureFn Tryz.prog 5 [.agg e.ts,intS K] (.bool true):=by
 have l0:Left 1048576:=⟨by omega,by omega⟩
 refine v_LawC e K ⟨fun _=>rfl,fun hK=>⟨(e,1048576),⟨⟨eqG _,rfl,trivial⟩,l0,h⟩,fun _=>rfl,fun hq=> ?_⟩⟩
 have hK:K.length<=1048576:=by have:=of_decide_eq_false hK;omega
 have hb:=rem_big (of_decide_eq_false hq);dsimp only at hb;obtain⟨hS,hB⟩:=small_eng (e:=e) (by omega)
 have hO:SmEng (craO e K).1:=sm_craO hS;have hk:KBg e 1:=⟨hS,Nat.le_refl _,by omega⟩
 have hko:KBg (craO e K).1 1:=⟨hO,Nat.le_refl _,by omega⟩
 have hn:∀n:Nat,decide ((n:Int)<0)=false:=fun n=>decide_eq_false (by omega)
 obtain⟨hp1,hp2⟩:=endG_le hk;exact⟨e,⟨⟨eqG _,trivial⟩,hS⟩,K,⟨⟨⟨rfl,rowsR _ _⟩,trivial⟩,hK⟩,(e,K),⟨⟨⟨le0 _,le0 _,le0 _,le0 _,le0 _,le0 _,le0 _,le0 _⟩,le0 _⟩,⟨⟨⟨rfl,rowsR _ _⟩,⟨rfl,rowsR _ _⟩,rfl,⟨rfl,rowsR _ _⟩,rfl,⟨rfl,rowsR _ _⟩,rfl,⟨rfl,fun _ _=>rfl⟩,rfl,rfl,⟨rfl,rowsR _ _⟩,⟨rfl,rowsR _ _⟩,⟨rfl,rowsR _ _⟩,rfl,trivial⟩,⟨rfl,rowsR _ _⟩,trivial⟩,hB,hS⟩,e,⟨⟨eqG _,trivial⟩,hS⟩,K,⟨⟨⟨rfl,rowsR _ _⟩,trivial⟩,hK⟩,(e,K),⟨⟨⟨le0 _,le0 _,le0 _,le0 _,le0 _,le0 _,le0 _,le0 _⟩,le0 _⟩,⟨⟨⟨rfl,rowsR _ _⟩,⟨rfl,rowsR _ _⟩,rfl,⟨rfl,rowsR _ _⟩,rfl,⟨rfl,rowsR _ _⟩,rfl,⟨rfl,fun _ _=>rfl⟩,rfl,rfl,⟨rfl,rowsR _ _⟩,⟨rfl,rowsR _ _⟩,⟨rfl,rowsR _ _⟩,rfl,trivial⟩,⟨rfl,rowsR _ _⟩,trivial⟩,hB,hS⟩,
  (craO e K).1,⟨⟨le0 _,le0 _,le0 _,le0 _,le0 _,le0 _,le0 _,le0 _⟩,⟨⟨⟨rfl,rowsR _ _⟩,⟨rfl,rowsR _ _⟩,rfl,⟨rfl,rowsR _ _⟩,rfl,⟨rfl,rowsR _ _⟩,rfl,⟨rfl,fun _ _=>rfl⟩,rfl,rfl,⟨rfl,rowsR _ _⟩,⟨rfl,rowsR _ _⟩,⟨rfl,rowsR _ _⟩,rfl,trivial⟩,eqG _,trivial⟩,hO⟩,fun he=>by simp at he,fun _=>⟨e,⟨⟨eqG _,trivial⟩,hS⟩,e,⟨⟨⟨le0 _,le0 _,le0 _,le0 _,le0 _,le0 _,le0 _,le0 _⟩,⟨le0 _,le0 _,le0 _,le0 _,le0 _,le0 _,le0 _,le0 _⟩⟩,⟨⟨⟨rfl,rowsR _ _⟩,⟨rfl,rowsR _ _⟩,rfl,⟨rfl,rowsR _ _⟩,rfl,⟨rfl,rowsR _ _⟩,rfl,⟨rfl,fun _ _=>rfl⟩,rfl,rfl,⟨rfl,rowsR _ _⟩,⟨rfl,rowsR _ _⟩,⟨rfl,rowsR _ _⟩,rfl,trivial⟩,⟨⟨rfl,rowsR _ _⟩,⟨rfl,rowsR _ _⟩,rfl,⟨rfl,rowsR _ _⟩,rfl,⟨rfl,rowsR _ _⟩,rfl,⟨rfl,fun _ _=>rfl⟩,rfl,rfl,⟨rfl,rowsR _ _⟩,⟨rfl,rowsR _ _⟩,⟨rfl,rowsR _ _⟩,rfl,trivial⟩,trivial⟩,hS⟩,fun he=>he,fun _=>⟨K,⟨⟨⟨rfl,rowsR _ _⟩,trivial⟩,hK⟩,K,⟨⟨le0 _,le0 _⟩,⟨⟨rfl,rowsR _ _⟩,⟨rfl,rowsR _ _⟩,trivial⟩,hK⟩,fun he=>he,fun _=>
  ⟨(e,1,e.s.fr.length),⟨⟨⟨⟨rfl,rfl⟩,⟨rfl,rfl⟩,rfl,⟨rfl,rfl⟩,rfl,⟨rfl,rfl⟩,rfl,⟨rfl,rfl⟩,rfl,rfl,⟨rfl,rfl⟩,⟨rfl,rfl⟩,⟨rfl,rfl⟩,rfl,trivial⟩,rfl,trivial⟩,⟨⟨rfl,rowsR _ _⟩,⟨rfl,rowsR _ _⟩,⟨rfl,rowsR _ _⟩,⟨rfl,rowsR _ _⟩,⟨rfl,rfl,famR _⟩,⟨rfl,rowsR _ _⟩,⟨rfl,rowsR _ _⟩,⟨rfl,rowsR _ _⟩,trivial⟩,hk⟩,(K,endG e 1),⟨⟨⟨rfl,rfl⟩,rfl,trivial⟩,⟨⟨rfl,rowsR _ _⟩,trivial⟩,hK,hp1,by dsimp only;omega⟩,(craO e K).1,fun _=>⟨⟨le0 _,le0 _,le0 _,le0 _,le0 _,le0 _,le0 _,le0 _⟩,⟨⟨⟨rfl,rowsR _ _⟩,⟨rfl,rowsR _ _⟩,rfl,⟨rfl,rowsR _ _⟩,rfl,⟨rfl,rowsR _ _⟩,rfl,⟨rfl,fun _ _=>rfl⟩,rfl,rfl,⟨rfl,rowsR _ _⟩,⟨rfl,rowsR _ _⟩,⟨rfl,rowsR _ _⟩,rfl,trivial⟩,eqG _,trivial⟩,hO⟩,fun he=>by rw[hn] at he;simp at he,fun _=>
  ⟨((craO e K).1,1,0),⟨⟨⟨⟨rfl,rfl⟩,⟨rfl,rfl⟩,rfl,⟨rfl,rfl⟩,rfl,⟨rfl,rfl⟩,rfl,⟨rfl,rfl⟩,rfl,rfl,⟨rfl,rfl⟩,⟨rfl,rfl⟩,⟨rfl,rfl⟩,rfl,trivial⟩,rfl,trivial⟩,⟨⟨rfl,rowsR _ _⟩,⟨rfl,rowsR _ _⟩,⟨rfl,rowsR _ _⟩,⟨rfl,rowsR _ _⟩,⟨rfl,rfl,famR _⟩,⟨rfl,rowsR _ _⟩,⟨rfl,rowsR _ _⟩,⟨rfl,rowsR _ _⟩,trivial⟩,hko⟩,((craO e K).1,1),⟨⟨leM _ _,leM _ _,leM _ _,leM _ _,leM _ _,leM _ _,leM _ _,leM _ _⟩,⟨⟨⟨(mk_len _ _).symm,rowsR _ _⟩,⟨(mk_len _ _).symm,rowsR _ _⟩,rfl,⟨(mk_len _ _).symm,rowsR _ _⟩,rfl,⟨(mk_len _ _).symm,rowsR _ _⟩,rfl,⟨(mk_len _ _).symm,fun _ _=>rfl⟩,rfl,rfl,⟨(mk_len _ _).symm,rowsR _ _⟩,⟨(mk_len _ _).symm,rowsR _ _⟩,⟨(mk_len _ _).symm,rowsR _ _⟩,rfl,trivial⟩,rfl,trivial⟩,hko⟩,fun he=>by rw[hn] at he;simp at he,fun _=>⟨fun he=>by simp at he,fun _=>
  ⟨e,⟨⟨eqG _,trivial⟩,hS⟩,K,⟨⟨⟨rfl,rowsR _ _⟩,trivial⟩,hK⟩,(e,K),⟨⟨⟨le0 _,le0 _,le0 _,le0 _,le0 _,le0 _,le0 _,le0 _⟩,le0 _⟩,⟨⟨⟨rfl,rowsR _ _⟩,⟨rfl,rowsR _ _⟩,rfl,⟨rfl,rowsR _ _⟩,rfl,⟨rfl,rowsR _ _⟩,rfl,⟨rfl,fun _ _=>rfl⟩,rfl,rfl,⟨rfl,rowsR _ _⟩,⟨rfl,rowsR _ _⟩,⟨rfl,rowsR _ _⟩,rfl,trivial⟩,⟨rfl,rowsR _ _⟩,trivial⟩,hB,hS⟩,(craO e K).1,⟨⟨le0 _,le0 _,le0 _,le0 _,le0 _,le0 _,le0 _,le0 _⟩,⟨⟨⟨rfl,rowsR _ _⟩,⟨rfl,rowsR _ _⟩,rfl,⟨rfl,rowsR _ _⟩,rfl,⟨rfl,rowsR _ _⟩,rfl,⟨rfl,fun _ _=>rfl⟩,rfl,rfl,⟨rfl,rowsR _ _⟩,⟨rfl,rowsR _ _⟩,⟨rfl,rowsR _ _⟩,rfl,trivial⟩,eqG _,trivial⟩,hO⟩,fun he=>by simp at he,fun _=>⟨((craO e K).1,1),⟨⟨leM _ _,leM _ _,leM _ _,leM _ _,leM _ _,leM _ _,leM _ _,leM _ _⟩,⟨⟨⟨(mk_len _ _).symm,rowsR _ _⟩,⟨(mk_len _ _).symm,rowsR _ _⟩,rfl,⟨(mk_len _ _).symm,rowsR _ _⟩,rfl,⟨(mk_len _ _).symm,rowsR _ _⟩,rfl,⟨(mk_len _ _).symm,fun _ _=>rfl⟩,rfl,rfl,⟨(mk_len _ _).symm,rowsR _ _⟩,⟨(mk_len _ _).symm,rowsR _ _⟩,⟨(mk_len _ _).symm,rowsR _ _⟩,rfl,trivial⟩,rfl,trivial⟩,hko⟩,fun he=>by rw[hn] at he;simp at he,fun _=>⟨fun he=>by simp at he,fun _=>rfl⟩⟩⟩⟩⟩⟩⟩⟩⟩
end Go.Proofs.YtokaojbaacnngaaGreat

