/- A part of the proof. -/
import Derived.Test.YtokaojbaacnngaaGreatU5
import Derived.Test.YtokaojbaacnngaaGreatU6
namespace Go.Proofs.YtokaojbaacnngaaGreat
set_option maxRecDepth 100000
open Go.SS

noncomputable def b_LawB:Code:=Tryz.f4.body.getD .skip
theorem v_LawB(e:Eng)(h:
  ∃(x:(Eng×Int)),(((EqG e x.fst)/\(1048576:Int)=x.snd/\True)/\Left x.snd/\LmEng x.fst)/\(decide (rem x.snd (bulkEng x.fst)<(0:Int))=true->true=true)/\(decide (rem x.snd (bulkEng x.fst)<(0:Int))=false->
  ∃(x:Eng),(((EqG e x)/\True)/\SmEng x)/\∃(x_1:Eng),((LeG x)/\((EqFG x x_1)/\True)/\EngB x_1/\SmEng x_1)/\∃(x:Eng),(((EqG e x)/\True)/\SmEng x)/\∃(x_2:r_BeginTx.ι),((LeG x)/\((EqFG x x_2)/\True)/\EngB
  x_2/\SmEng x_2)/\∃(x_3:Eng),((LeG (begO x_2).fst)/\((EqFG (begO x_2).fst x_3)/\(EqG (begO x_1).fst x_3)/\True)/\SmEng x_3)/\((false||(begO x_2).snd.fst !=(begO x_1).snd.fst||(begO x_2).snd.snd !=(begO
  x_1).snd.snd)=true->false=true)/\((false||(begO x_2).snd.fst !=(begO x_1).snd.fst||(begO x_2).snd.snd !=(begO x_1).snd.snd)=false->∃(x_4:Eng),(((EqG e x_4)/\True)/\SmEng x_4)/\∃(x_5:Eng),(((LeG x)/\LeG
  x_4)/\((EqFG x x_5)/\(EqFG x_4 x_5)/\True)/\SmEng x_5)/\(false=true->false=true)/\(false=false->∃(x_6:(Eng×Nat×Nat)),(((EqCG x x_6.fst)/\(1:Int)=(x_6.snd.fst:Int)/\True)/\(EqHG (x.s.fr.length)
  (x_6.snd.snd) x x_6.fst)/\KBg x_6.fst x_6.snd.fst)/\∃(x:Eng),(decide ((↑(endG x_6.fst x_6.snd.fst):Int)<(0:Int))=false->(LeG (begO x_2).fst)/\((EqFG (begO x_2).fst x)/\(EqG (begO x_1).fst x)/\True)/\SmEng x)/\
  ((decide ((↑(endG x_6.fst x_6.snd.fst):Int)<(0:Int))||false||(begO x_2).snd.fst !=(begO x_1).snd.fst||(begO x_2).snd.snd !=(begO x_1).snd.snd)=true->false=true)/\((decide ((↑(endG x_6.fst x_6.snd.fst):Int)<
  (0:Int))||false||(begO x_2).snd.fst !=(begO x_1).snd.fst||(begO x_2).snd.snd !=(begO x_1).snd.snd)=false->∃(x:(Eng×Nat×Nat)),(((EqCG (begO x_2).fst x.fst)/\(1:Int)=(x.snd.fst:Int)/\True)/\(EqHG (0)
  (x.snd.snd) (begO x_2).fst x.fst)/\KBg x.fst x.snd.fst)/\∃(x_7:(Eng×Nat)),((Le (0+(begO x_2).fst.s.d.sec.length) (mkS x.fst.s.d.sec.length x.snd.fst).length/\Le (0+(begO x_2).fst.s.d.cache.length) (mkP
  x.fst.s.d.cache.length (x.snd.fst+x.fst.s.d.sec.length)).length/\Le (0+(begO x_2).fst.s.d.keep.length) (mkI x.fst.s.d.keep.length (x.snd.fst+x.fst.s.d.sec.length+2*x.fst.s.d.cache.length)).length/\Le (0+(begO
  x_2).fst.s.log.length) (mkR x.fst.s.log.length (endD x.fst.s.d x.snd.fst)).length/\Le (0+(begO x_2).fst.s.fr.length) (mkF x.fst.s.fr.length (lnOf x.fst.s.fr) (endD x.fst.s.d x.snd.fst+10*x.fst.s.log.length)).length/\Le (0
  +(begO x_2).fst.txs.length) (mkTxn x.fst.txs.length (endS x.fst.s x.snd.fst)).length/\Le (0+(begO x_2).fst.lk.held.length) (mkLck x.fst.lk.held.length (endS x.fst.s x.snd.fst+2*x.fst.txs.length)).length/\Le (0+(begO
  x_2).fst.lk.waits.length) (mkWt x.fst.lk.waits.length (endS x.fst.s x.snd.fst+2*x.fst.txs.length+4*x.fst.lk.held.length)).length)/\((((begO x_2).fst.s.d.sec.length=(mkS x_7.fst.s.d.sec.length x_7.snd).length/\RowsEq
  (begO x_2).fst.s.d.sec.length (strRow (mkS x.fst.s.d.sec.length x.snd.fst)) (strRow (mkS x_7.fst.s.d.sec.length x_7.snd)))/\((begO x_2).fst.s.d.cache.length=(mkP x_7.fst.s.d.cache.length (x_7.snd+
  x_7.fst.s.d.sec.length)).length/\RowsEq (begO x_2).fst.s.d.cache.length (pendRow (mkP x.fst.s.d.cache.length (x.snd.fst+x.fst.s.d.sec.length))) (pendRow (mkP x_7.fst.s.d.cache.length (x_7.snd+x_7.fst.s.d.sec.length))))/\
  (begO x_2).fst.s.d.armed=x_7.fst.s.d.armed/\((begO x_2).fst.s.d.keep.length=(mkI x_7.fst.s.d.keep.length (x_7.snd+x_7.fst.s.d.sec.length+2*x_7.fst.s.d.cache.length)).length/\RowsEq (begO x_2).fst.s.d.keep.length
  (intRow (mkI x.fst.s.d.keep.length (x.snd.fst+x.fst.s.d.sec.length+2*x.fst.s.d.cache.length))) (intRow (mkI x_7.fst.s.d.keep.length (x_7.snd+x_7.fst.s.d.sec.length+2*x_7.fst.s.d.cache.length))))/\(begO x_2).fst.s.ep=
  x_7.fst.s.ep/\((begO x_2).fst.s.log.length=(mkR x_7.fst.s.log.length (endD x_7.fst.s.d x_7.snd)).length/\RowsEq (begO x_2).fst.s.log.length (recRow (mkR x.fst.s.log.length (endD x.fst.s.d x.snd.fst))) (recRow (mkR
  x_7.fst.s.log.length (endD x_7.fst.s.d x_7.snd))))/\(begO x_2).fst.s.sure=x_7.fst.s.sure/\((begO x_2).fst.s.fr.length=(mkF x_7.fst.s.fr.length (lnOf x_7.fst.s.fr) (endD x_7.fst.s.d x_7.snd+10*
  x_7.fst.s.log.length)).length/\RowsEq (begO x_2).fst.s.fr.length (frzR (famRow (mkF x.fst.s.fr.length (lnOf x.fst.s.fr) (endD x.fst.s.d x.snd.fst+10*x.fst.s.log.length)))) (frmRow (mkF x_7.fst.s.fr.length (lnOf x_7.fst.s.fr)
  (endD x_7.fst.s.d x_7.snd+10*x_7.fst.s.log.length))))/\(begO x_2).fst.s.hand=x_7.fst.s.hand/\(begO x_2).fst.up=x_7.fst.up/\((begO x_2).fst.txs.length=(mkTxn x_7.fst.txs.length (endS x_7.fst.s x_7.snd)).length/\RowsEq
  (begO x_2).fst.txs.length (txnRow (mkTxn x.fst.txs.length (endS x.fst.s x.snd.fst))) (txnRow (mkTxn x_7.fst.txs.length (endS x_7.fst.s x_7.snd))))/\((begO x_2).fst.lk.held.length=(mkLck x_7.fst.lk.held.length (endS x_7.fst.s
  x_7.snd+2*x_7.fst.txs.length)).length/\RowsEq (begO x_2).fst.lk.held.length (lckRow (mkLck x.fst.lk.held.length (endS x.fst.s x.snd.fst+2*x.fst.txs.length))) (lckRow (mkLck x_7.fst.lk.held.length (endS x_7.fst.s x_7.snd+
  2*x_7.fst.txs.length))))/\((begO x_2).fst.lk.waits.length=(mkWt x_7.fst.lk.waits.length (endS x_7.fst.s x_7.snd+2*x_7.fst.txs.length+4*x_7.fst.lk.held.length)).length/\RowsEq (begO x_2).fst.lk.waits.length (wtRow
  (mkWt x.fst.lk.waits.length (endS x.fst.s x.snd.fst+2*x.fst.txs.length+4*x.fst.lk.held.length))) (wtRow (mkWt x_7.fst.lk.waits.length (endS x_7.fst.s x_7.snd+2*x_7.fst.txs.length+4*x_7.fst.lk.held.length))))/\
  (begO x_2).fst.next=x_7.fst.next/\True)/\(1:Int)=(x_7.snd:Int)/\True)/\KBg x_7.fst x_7.snd)/\(decide ((↑(endG x_7.fst x_7.snd):Int)<(0:Int))=true->false=true)/\(decide ((↑(endG x_7.fst x_7.snd):Int)<(0:
  Int))=false->(((↑(endG x_7.fst x_7.snd):Int) !=(↑(endG x.fst x.snd.fst):Int))=true->false=true)/\(((↑(endG x_7.fst x_7.snd):Int) !=(↑(endG x.fst x.snd.fst):Int))=false->∃(x_8:Eng),(((EqG e x_8)/\True)/\
  SmEng x_8)/\∃(x_9:r_BeginTx.ι),((LeG x_8)/\((EqFG x_8 x_9)/\True)/\EngB x_9/\SmEng x_9)/\∃(x_10:Eng),((LeG (begO x_9).fst)/\((EqFG (begO x_9).fst x_10)/\(EqG (begO x_1).fst x_10)/\True)/\SmEng x_10)/\((false||
  (begO x_9).snd.fst !=(begO x_1).snd.fst||(begO x_9).snd.snd !=(begO x_1).snd.snd)=true->false=true)/\((false||(begO x_9).snd.fst !=(begO x_1).snd.fst||(begO x_9).snd.snd !=(begO x_1).snd.snd)=false->∃(x_11:
  (Eng×Nat)),((Le (0+(begO x_2).fst.s.d.sec.length) (mkS x.fst.s.d.sec.length x.snd.fst).length/\Le (0+(begO x_2).fst.s.d.cache.length) (mkP x.fst.s.d.cache.length (x.snd.fst+x.fst.s.d.sec.length)).length/\Le (0+(begO
  x_2).fst.s.d.keep.length) (mkI x.fst.s.d.keep.length (x.snd.fst+x.fst.s.d.sec.length+2*x.fst.s.d.cache.length)).length/\Le (0+(begO x_2).fst.s.log.length) (mkR x.fst.s.log.length (endD x.fst.s.d x.snd.fst)).length/\Le (0
  +(begO x_2).fst.s.fr.length) (mkF x.fst.s.fr.length (lnOf x.fst.s.fr) (endD x.fst.s.d x.snd.fst+10*x.fst.s.log.length)).length/\Le (0+(begO x_2).fst.txs.length) (mkTxn x.fst.txs.length (endS x.fst.s x.snd.fst)).length/\Le
  (0+(begO x_2).fst.lk.held.length) (mkLck x.fst.lk.held.length (endS x.fst.s x.snd.fst+2*x.fst.txs.length)).length/\Le (0+(begO x_2).fst.lk.waits.length) (mkWt x.fst.lk.waits.length (endS x.fst.s x.snd.fst+2*
  x.fst.txs.length+4*x.fst.lk.held.length)).length)/\((((begO x_2).fst.s.d.sec.length=(mkS x_11.fst.s.d.sec.length x_11.snd).length/\RowsEq (begO x_2).fst.s.d.sec.length (strRow (mkS x.fst.s.d.sec.length x.snd.fst)) (strRow
  (mkS x_11.fst.s.d.sec.length x_11.snd)))/\((begO x_2).fst.s.d.cache.length=(mkP x_11.fst.s.d.cache.length (x_11.snd+x_11.fst.s.d.sec.length)).length/\RowsEq (begO x_2).fst.s.d.cache.length (pendRow (mkP
  x.fst.s.d.cache.length (x.snd.fst+x.fst.s.d.sec.length))) (pendRow (mkP x_11.fst.s.d.cache.length (x_11.snd+x_11.fst.s.d.sec.length))))/\(begO x_2).fst.s.d.armed=x_11.fst.s.d.armed/\((begO x_2).fst.s.d.keep.length=(mkI
  x_11.fst.s.d.keep.length (x_11.snd+x_11.fst.s.d.sec.length+2*x_11.fst.s.d.cache.length)).length/\RowsEq (begO x_2).fst.s.d.keep.length (intRow (mkI x.fst.s.d.keep.length (x.snd.fst+x.fst.s.d.sec.length+2*
  x.fst.s.d.cache.length))) (intRow (mkI x_11.fst.s.d.keep.length (x_11.snd+x_11.fst.s.d.sec.length+2*x_11.fst.s.d.cache.length))))/\(begO x_2).fst.s.ep=x_11.fst.s.ep/\((begO x_2).fst.s.log.length=(mkR
  x_11.fst.s.log.length (endD x_11.fst.s.d x_11.snd)).length/\RowsEq (begO x_2).fst.s.log.length (recRow (mkR x.fst.s.log.length (endD x.fst.s.d x.snd.fst))) (recRow (mkR x_11.fst.s.log.length (endD x_11.fst.s.d x_11.snd))))/\
  (begO x_2).fst.s.sure=x_11.fst.s.sure/\((begO x_2).fst.s.fr.length=(mkF x_11.fst.s.fr.length (lnOf x_11.fst.s.fr) (endD x_11.fst.s.d x_11.snd+10*x_11.fst.s.log.length)).length/\RowsEq (begO x_2).fst.s.fr.length (frzR
  (famRow (mkF x.fst.s.fr.length (lnOf x.fst.s.fr) (endD x.fst.s.d x.snd.fst+10*x.fst.s.log.length)))) (frmRow (mkF x_11.fst.s.fr.length (lnOf x_11.fst.s.fr) (endD x_11.fst.s.d x_11.snd+10*x_11.fst.s.log.length))))/\(begO
  x_2).fst.s.hand=x_11.fst.s.hand/\(begO x_2).fst.up=x_11.fst.up/\((begO x_2).fst.txs.length=(mkTxn x_11.fst.txs.length (endS x_11.fst.s x_11.snd)).length/\RowsEq (begO x_2).fst.txs.length (txnRow (mkTxn x.fst.txs.length
  (endS x.fst.s x.snd.fst))) (txnRow (mkTxn x_11.fst.txs.length (endS x_11.fst.s x_11.snd))))/\((begO x_2).fst.lk.held.length=(mkLck x_11.fst.lk.held.length (endS x_11.fst.s x_11.snd+2*x_11.fst.txs.length)).length/\RowsEq
  (begO x_2).fst.lk.held.length (lckRow (mkLck x.fst.lk.held.length (endS x.fst.s x.snd.fst+2*x.fst.txs.length))) (lckRow (mkLck x_11.fst.lk.held.length (endS x_11.fst.s x_11.snd+2*x_11.fst.txs.length))))/\((begO
  x_2).fst.lk.waits.length=(mkWt x_11.fst.lk.waits.length (endS x_11.fst.s x_11.snd+2*x_11.fst.txs.length+4*x_11.fst.lk.held.length)).length/\RowsEq (begO x_2).fst.lk.waits.length (wtRow (mkWt x.fst.lk.waits.length (endS
  x.fst.s x.snd.fst+2*x.fst.txs.length+4*x.fst.lk.held.length))) (wtRow (mkWt x_11.fst.lk.waits.length (endS x_11.fst.s x_11.snd+2*x_11.fst.txs.length+4*x_11.fst.lk.held.length))))/\(begO x_2).fst.next=
  x_11.fst.next/\True)/\(1:Int)=(x_11.snd:Int)/\True)/\KBg x_11.fst x_11.snd)/\(decide ((↑(endG x_11.fst x_11.snd):Int)<(0:Int))=true->false=true)/\(decide ((↑(endG x_11.fst x_11.snd):Int)<(0:Int))=false
  ->(((↑(endG x_11.fst x_11.snd):Int) !=(↑(endG x.fst x.snd.fst):Int))=true->false=true)/\(((↑(endG x_11.fst x_11.snd):Int) !=(↑(endG x.fst x.snd.fst):Int))=false->true=true)))))))))):
  PureFn Tryz.prog 4 [.agg e.ts] (.bool true):=
 vcR (code:=b_LawB) (gC szEng_ok call_szEng (gC moEng_ok call_moEng (gC BeginTxs_ok call_BeginTxs (gC BeginTxi_ok call_BeginTxi (gC eqEng_ok call_eqEng (gC markEng_ok call_markEng (gC heldEng_ok call_heldEng gN))))))) Tryz.func4 (by kernel_rfl) (by kernel_rfl) noAnn h (by kernel_rfl)
theorem sm_bgn{e:Eng}(h:SmEng e):SmEng (begO e).1:=by
 by_cases ho:engOK e=true
 ·rw[bg2 (by rw[ho];rfl)]
  exact sm_bgO h ho
 ·rw[bg1 (by simpa using ho)]
  exact smEE
theorem lawB_pure(e:Eng)(h:LmEng e):PureFn Tryz.prog 4 [.agg e.ts] (.bool true):=by
 have l0:Left 1048576:=⟨by omega,by omega⟩
 refine v_LawB e ⟨(e,1048576),⟨⟨eqG _,rfl,trivial⟩,l0,h⟩,fun _=>rfl,fun hq=> ?_⟩
 have hb:=rem_big (of_decide_eq_false hq);dsimp only at hb;obtain⟨hS,hB⟩:=small_eng (e:=e) (by omega)
 have hO:SmEng (begO e).1:=sm_bgn hS;have hk:KBg e 1:=⟨hS,Nat.le_refl _,by omega⟩
 have hko:KBg (begO e).1 1:=⟨hO,Nat.le_refl _,by omega⟩
 have hn:∀n:Nat,decide ((n:Int)<0)=false:=fun n=>decide_eq_false (by omega)
 exact⟨e,⟨⟨eqG _,trivial⟩,hS⟩,e,⟨⟨le0 _,le0 _,le0 _,le0 _,le0 _,le0 _,le0 _,le0 _⟩,⟨⟨⟨rfl,rowsR _ _⟩,⟨rfl,rowsR _ _⟩,rfl,⟨rfl,rowsR _ _⟩,rfl,⟨rfl,rowsR _ _⟩,rfl,⟨rfl,fun _ _=>rfl⟩,rfl,rfl,⟨rfl,rowsR _ _⟩,⟨rfl,rowsR _ _⟩,⟨rfl,rowsR _ _⟩,rfl,trivial⟩,trivial⟩,hB,hS⟩,e,⟨⟨eqG _,trivial⟩,hS⟩,e,⟨⟨le0 _,le0 _,le0 _,le0 _,le0 _,le0 _,le0 _,le0 _⟩,⟨⟨⟨rfl,rowsR _ _⟩,⟨rfl,rowsR _ _⟩,rfl,⟨rfl,rowsR _ _⟩,rfl,⟨rfl,rowsR _ _⟩,rfl,⟨rfl,fun _ _=>rfl⟩,rfl,rfl,⟨rfl,rowsR _ _⟩,⟨rfl,rowsR _ _⟩,⟨rfl,rowsR _ _⟩,rfl,trivial⟩,trivial⟩,hB,hS⟩,
  (begO e).1,⟨⟨le0 _,le0 _,le0 _,le0 _,le0 _,le0 _,le0 _,le0 _⟩,⟨⟨⟨rfl,rowsR _ _⟩,⟨rfl,rowsR _ _⟩,rfl,⟨rfl,rowsR _ _⟩,rfl,⟨rfl,rowsR _ _⟩,rfl,⟨rfl,fun _ _=>rfl⟩,rfl,rfl,⟨rfl,rowsR _ _⟩,⟨rfl,rowsR _ _⟩,⟨rfl,rowsR _ _⟩,rfl,trivial⟩,eqG _,trivial⟩,hO⟩,fun he=>by simp at he,fun _=>⟨e,⟨⟨eqG _,trivial⟩,hS⟩,e,⟨⟨⟨le0 _,le0 _,le0 _,le0 _,le0 _,le0 _,le0 _,le0 _⟩,⟨le0 _,le0 _,le0 _,le0 _,le0 _,le0 _,le0 _,le0 _⟩⟩,⟨⟨⟨rfl,rowsR _ _⟩,⟨rfl,rowsR _ _⟩,rfl,⟨rfl,rowsR _ _⟩,rfl,⟨rfl,rowsR _ _⟩,rfl,⟨rfl,fun _ _=>rfl⟩,rfl,rfl,⟨rfl,rowsR _ _⟩,⟨rfl,rowsR _ _⟩,⟨rfl,rowsR _ _⟩,rfl,trivial⟩,⟨⟨rfl,rowsR _ _⟩,⟨rfl,rowsR _ _⟩,rfl,⟨rfl,rowsR _ _⟩,rfl,⟨rfl,rowsR _ _⟩,rfl,⟨rfl,fun _ _=>rfl⟩,rfl,rfl,⟨rfl,rowsR _ _⟩,⟨rfl,rowsR _ _⟩,⟨rfl,rowsR _ _⟩,rfl,trivial⟩,trivial⟩,hS⟩,fun he=>he,fun _=>
  ⟨(e,1,e.s.fr.length),⟨⟨⟨⟨rfl,rfl⟩,⟨rfl,rfl⟩,rfl,⟨rfl,rfl⟩,rfl,⟨rfl,rfl⟩,rfl,⟨rfl,rfl⟩,rfl,rfl,⟨rfl,rfl⟩,⟨rfl,rfl⟩,⟨rfl,rfl⟩,rfl,trivial⟩,rfl,trivial⟩,⟨⟨rfl,rowsR _ _⟩,⟨rfl,rowsR _ _⟩,⟨rfl,rowsR _ _⟩,⟨rfl,rowsR _ _⟩,⟨rfl,rfl,famR _⟩,⟨rfl,rowsR _ _⟩,⟨rfl,rowsR _ _⟩,⟨rfl,rowsR _ _⟩,trivial⟩,hk⟩,(begO e).1,fun _=>⟨⟨le0 _,le0 _,le0 _,le0 _,le0 _,le0 _,le0 _,le0 _⟩,⟨⟨⟨rfl,rowsR _ _⟩,⟨rfl,rowsR _ _⟩,rfl,⟨rfl,rowsR _ _⟩,rfl,⟨rfl,rowsR _ _⟩,rfl,⟨rfl,fun _ _=>rfl⟩,rfl,rfl,⟨rfl,rowsR _ _⟩,⟨rfl,rowsR _ _⟩,⟨rfl,rowsR _ _⟩,rfl,trivial⟩,eqG _,trivial⟩,hO⟩,fun he=>by rw[hn] at he;simp at he,fun _=>
  ⟨((begO e).1,1,0),⟨⟨⟨⟨rfl,rfl⟩,⟨rfl,rfl⟩,rfl,⟨rfl,rfl⟩,rfl,⟨rfl,rfl⟩,rfl,⟨rfl,rfl⟩,rfl,rfl,⟨rfl,rfl⟩,⟨rfl,rfl⟩,⟨rfl,rfl⟩,rfl,trivial⟩,rfl,trivial⟩,⟨⟨rfl,rowsR _ _⟩,⟨rfl,rowsR _ _⟩,⟨rfl,rowsR _ _⟩,⟨rfl,rowsR _ _⟩,⟨rfl,rfl,famR _⟩,⟨rfl,rowsR _ _⟩,⟨rfl,rowsR _ _⟩,⟨rfl,rowsR _ _⟩,trivial⟩,hko⟩,((begO e).1,1),⟨⟨leM _ _,leM _ _,leM _ _,leM _ _,leM _ _,leM _ _,leM _ _,leM _ _⟩,⟨⟨⟨(mk_len _ _).symm,rowsR _ _⟩,⟨(mk_len _ _).symm,rowsR _ _⟩,rfl,⟨(mk_len _ _).symm,rowsR _ _⟩,rfl,⟨(mk_len _ _).symm,rowsR _ _⟩,rfl,⟨(mk_len _ _).symm,fun _ _=>rfl⟩,rfl,rfl,⟨(mk_len _ _).symm,rowsR _ _⟩,⟨(mk_len _ _).symm,rowsR _ _⟩,⟨(mk_len _ _).symm,rowsR _ _⟩,rfl,trivial⟩,rfl,trivial⟩,hko⟩,fun he=>by rw[hn] at he;simp at he,fun _=>⟨fun he=>by simp at he,fun _=>
  ⟨e,⟨⟨eqG _,trivial⟩,hS⟩,e,⟨⟨le0 _,le0 _,le0 _,le0 _,le0 _,le0 _,le0 _,le0 _⟩,⟨⟨⟨rfl,rowsR _ _⟩,⟨rfl,rowsR _ _⟩,rfl,⟨rfl,rowsR _ _⟩,rfl,⟨rfl,rowsR _ _⟩,rfl,⟨rfl,fun _ _=>rfl⟩,rfl,rfl,⟨rfl,rowsR _ _⟩,⟨rfl,rowsR _ _⟩,⟨rfl,rowsR _ _⟩,rfl,trivial⟩,trivial⟩,hB,hS⟩,(begO e).1,⟨⟨le0 _,le0 _,le0 _,le0 _,le0 _,le0 _,le0 _,le0 _⟩,⟨⟨⟨rfl,rowsR _ _⟩,⟨rfl,rowsR _ _⟩,rfl,⟨rfl,rowsR _ _⟩,rfl,⟨rfl,rowsR _ _⟩,rfl,⟨rfl,fun _ _=>rfl⟩,rfl,rfl,⟨rfl,rowsR _ _⟩,⟨rfl,rowsR _ _⟩,⟨rfl,rowsR _ _⟩,rfl,trivial⟩,eqG _,trivial⟩,hO⟩,fun he=>by simp at he,fun _=>⟨((begO e).1,1),⟨⟨leM _ _,leM _ _,leM _ _,leM _ _,leM _ _,leM _ _,leM _ _,leM _ _⟩,⟨⟨⟨(mk_len _ _).symm,rowsR _ _⟩,⟨(mk_len _ _).symm,rowsR _ _⟩,rfl,⟨(mk_len _ _).symm,rowsR _ _⟩,rfl,⟨(mk_len _ _).symm,rowsR _ _⟩,rfl,⟨(mk_len _ _).symm,fun _ _=>rfl⟩,rfl,rfl,⟨(mk_len _ _).symm,rowsR _ _⟩,⟨(mk_len _ _).symm,rowsR _ _⟩,⟨(mk_len _ _).symm,rowsR _ _⟩,rfl,trivial⟩,rfl,trivial⟩,hko⟩,fun he=>by rw[hn] at he;simp at he,fun _=>⟨fun he=>by simp at he,fun _=>rfl⟩⟩⟩⟩⟩⟩⟩⟩
end Go.Proofs.YtokaojbaacnngaaGreat

