/- A part of the proof. -/
import Derived.Test.YtokaojbaacnngaaGreatU4
namespace Go.Proofs.YtokaojbaacnngaaGreat
set_option maxRecDepth 100000
open Go.SS

theorem app0{f g:Nat->List T}:appRow f 0 g=g:=funext fun i=>by unfold appRow;rw[show Nat.blt i 0=false from rfl];rfl
def k_apd:Con:=.rel ⟨Sto×Rec,fun x=>[.agg x.1.ts,.agg x.2.ts],fun x=>.tup [.agg (apx x.1 x.2).ts,.int .i64 (x.1.log.length+1:Nat)],fun x=>x.1.log.length<=1000⟩
noncomputable def b_apd:Code:=Tryz.f126.body.getD .skip
theorem call_apd:Callable Tryz.prog 126:=⟨_,Tryz.func126,by kernel_rfl,by kernel_rfl⟩
theorem v_apd(s:Sto)(r:Rec)(h:
  Rng .i64 ((s.log.length:Int)+(1:Int))/\(Le 0 0/\AppB 0 s.log.length 96)/\(Le (0+s.log.length) (0+s.log.length)/\AppB (0+s.log.length) 1 96)/\Le (0+(0+s.log.length+1)) (0+s.log.length+1)/\((EqL strRow
  s.d.sec s.d.sec)/\(EqL pendRow s.d.cache s.d.cache)/\s.d.armed=s.d.armed/\(EqL intRow s.d.keep s.d.keep)/\s.ep=s.ep/\(0+s.log.length+1=(s.log++[appR s r]).length/\RowsEq (0+s.log.length+1) (appRow (appRow
  (fun(k:Nat)=>List.take 10 (List.drop (k*10) [])) 0 (recRow s.log)) (0+s.log.length) fun(k:Nat)=>List.take 10 (List.drop (k*10) [T.int .i64 s.ep,T.int .i64 ((s.log.length:Int)+(1:Int)),T.int .i64 r.t,T.int
  .i64 r.k,T.int .i64 r.p,T.int .i64 r.n,T.int .i64 r.g,T.int .i64 r.s,T.str r.b,T.str r.a])) (recRow (s.log++[appR s r])))/\s.sure=s.sure/\(EqL frmRow s.fr s.fr)/\s.hand=s.hand/\True)/\(s.log.length:Int)+(1:
  Int)=(↑(s.log.length+1):Int)/\True):
  PureFn Tryz.prog 126 [.agg s.ts,.agg r.ts] (.tup [.agg (apx s r).ts,.int .i64 (s.log.length+1:Nat)]):=
 vcR (code:=b_apd) (gC tmpB_ok call_tmpB gN) Tryz.func126 (by kernel_rfl) (by kernel_rfl) noAnn h (by kernel_rfl)
theorem apd_ok:ConOk Tryz.prog 126 k_apd:=by
 rintro⟨s,r⟩ (h:s.log.length<=1000);have hl:(s.log++[appR s r]).length=s.log.length+1:=by simp
 refine v_apd s r ⟨i64_rng (by omega),⟨Nat.le_refl _,by unfold AppB;omega⟩,⟨Nat.le_refl _,by unfold AppB;omega⟩,by unfold Le;omega,⟨(by repeat' first|exact trivial|exact rfl|exact rowsR _ _|exact famR _|exact row0|exact le0 _|exact Nat.le_refl _|exact Nat.zero_le _|refine And.intro ?_ ?_),(by repeat' first|exact trivial|exact rfl|exact rowsR _ _|exact famR _|exact row0|exact le0 _|exact Nat.le_refl _|exact Nat.zero_le _|refine And.intro ?_ ?_),rfl,(by repeat' first|exact trivial|exact rfl|exact rowsR _ _|exact famR _|exact row0|exact le0 _|exact Nat.le_refl _|exact Nat.zero_le _|refine And.intro ?_ ?_),rfl,⟨by omega,?_⟩,rfl,(by repeat' first|exact trivial|exact rfl|exact rowsR _ _|exact famR _|exact row0|exact le0 _|exact Nat.le_refl _|exact Nat.zero_le _|refine And.intro ?_ ?_),rfl,trivial⟩,rfl,trivial⟩
 rw[Nat.zero_add,app0];exact rec_app s.log (appR s r)
def k_ladd:Con:=.rfz ⟨Eng×Nat×Rec,fun x=>[.agg x.1.ts,.int .i64 x.2.1,.agg x.2.2.ts],fun x=>.tup [.agg (addE x.1 x.2.1 x.2.2).ts,.int .i64 (x.1.s.log.length+1:Nat)],fun x=>x.2.1<x.1.txs.length/\x.1.txs.length<=1000/\x.1.s.log.length<=1000⟩
noncomputable def b_ladd:Code:=Tryz.f109.body.getD .skip
theorem call_ladd:Callable Tryz.prog 109:=⟨_,Tryz.func109,by kernel_rfl,by kernel_rfl⟩
theorem v_ladd(e:Eng)(k:Nat)(r:Rec)(h:
  InB (k:Int) e.txs.length/\InB (k:Int) e.txs.length/\∃(x:(Sto×Rec)),(((EqS e.s x.fst)/\(r.e=x.snd.e/\r.l=x.snd.l/\(e.txs.getD (k:Int).toNat default).id=x.snd.t/\r.k=x.snd.k/\(e.txs.getD (k:Int).toNat
  default).last=x.snd.p/\r.n=x.snd.n/\r.g=x.snd.g/\r.s=x.snd.s/\r.b=x.snd.b/\r.a=x.snd.a/\True)/\True)/\x.fst.log.length<=1000)/\(Le 0 0/\AppB 0 e.txs.length 16)/\InB (k:Int) (0+e.txs.length)/\Lt (0+
  (k:Int).toNat) (0+e.txs.length)/\Le (0+(0+e.txs.length)) (0+e.txs.length)/\((EqL strRow x.fst.d.sec e.s.d.sec)/\(EqL pendRow x.fst.d.cache e.s.d.cache)/\x.fst.d.armed=e.s.d.armed/\(EqL intRow x.fst.d.keep
  e.s.d.keep)/\x.fst.ep=e.s.ep/\(EqL recRow (x.fst.log++[appR x.fst x.snd]) (e.s.log++[appR e.s (filR e k r)]))/\x.fst.sure=e.s.sure/\(EqL frmRow x.fst.fr e.s.fr)/\x.fst.hand=e.s.hand/\e.up=e.up/\(0+e.txs.length
  =(e.txs.set k (Txn.mk (e.txs.getD k default).id ((e.s.log.length:Int)+(1:Int)))).length/\RowsEq (0+e.txs.length) (setRow (appRow (fun(k:Nat)=>List.take 2 (List.drop (k*2) [])) 0 (txnRow e.txs)) (0+(k:Int).toNat) 1
  [T.int .i64 (↑(x.fst.log.length+1):Int)]) (txnRow (e.txs.set k (Txn.mk (e.txs.getD k default).id ((e.s.log.length:Int)+(1:Int))))))/\(EqL lckRow e.lk.held e.lk.held)/\(EqL wtRow e.lk.waits e.lk.waits)/\e.next=e.next/\
  True)/\(↑(x.fst.log.length+1):Int)=(↑(e.s.log.length+1):Int)/\True):
  PureFn Tryz.prog 109 [.agg e.ts,.int .i64 k,.agg r.ts] (.tup [.agg (addE e k r).ts,.int .i64 (e.s.log.length+1:Nat)]):=
 vcR (code:=b_ladd) (gC apd_ok call_apd (gC tmpB_ok call_tmpB gN)) Tryz.func109 (by kernel_rfl) (by kernel_rfl) noAnn h (by kernel_rfl)
theorem ladd_ok:ConOk Tryz.prog 109 k_ladd:=by
 rintro⟨e,k,r⟩ ⟨hk,ht,hl⟩;dsimp only at hk ht hl;refine v_ladd e k r ⟨inB_nat hk,inB_nat hk,(e.s,filR e k r),⟨⟨eqS _,⟨rfl,rfl,by rw[Int.toNat_natCast];rfl,rfl,by rw[Int.toNat_natCast];rfl,rfl,rfl,rfl,rfl,rfl,trivial⟩,trivial⟩,by dsimp only;omega⟩,⟨Nat.le_refl _,by unfold AppB;omega⟩,by rw[Nat.zero_add];exact inB_nat hk,by unfold Lt;omega,by unfold Le;omega,⟨⟨rfl,rowsR _ _⟩,⟨rfl,rowsR _ _⟩,rfl,⟨rfl,rowsR _ _⟩,rfl,⟨rfl,rowsR _ _⟩,rfl,⟨rfl,rowsR _ _⟩,rfl,rfl,⟨by rw[List.length_set];omega,fun j _=> ?_⟩,⟨rfl,rowsR _ _⟩,⟨rfl,rowsR _ _⟩,rfl,trivial⟩,rfl,trivial⟩
 rw[Int.toNat_natCast,Nat.zero_add,app0];exact txn_set hk j
def k_lbeg:Con:=.rel ⟨Eng,fun e=>[.agg e.ts],fun e=>.tup [.agg (begE e).1.ts,.int .i64 (begE e).2.1,.int .i64 (begE e).2.2],fun e=>NdOK e/\0<=e.next/\e.next<=1000⟩
noncomputable def b_lbeg:Code:=Tryz.f53.body.getD .skip
theorem call_lbeg:Callable Tryz.prog 53:=⟨_,Tryz.func53,by kernel_rfl,by kernel_rfl⟩
theorem v_lbeg(e:Eng)(h:
  ((!e.up)=true->(EqG e (begE e).fst)/\(0:Int)=(begE e).snd.fst/\(15:Int)=(begE e).snd.snd/\True)/\((!e.up)=false->((decide (e.next>(60:Int))||(e.txs.length:Int)==(10:Int))=true->(EqG e (begE e).fst)/\
  (0:Int)=(begE e).snd.fst/\(6:Int)=(begE e).snd.snd/\True)/\((decide (e.next>(60:Int))||(e.txs.length:Int)==(10:Int))=false->Rng .i64 ((e.s.log.length:Int)+(1:Int))/\∃(x:Eng),(((EqG e x)/\True)/\
  NdOK x)/\Rng .i64 ((e.s.log.length:Int)+(1:Int)+(↑(ndE x):Int))/\Rng .i64 ((e.s.log.length:Int)+(1:Int)+(↑(ndE x):Int)+(1:Int))/\(decide ((e.s.log.length:Int)+(1:Int)+(↑(ndE x):Int)+(1:Int)>(60
  :Int))=true->(EqG e (begE e).fst)/\(0:Int)=(begE e).snd.fst/\(7:Int)=(begE e).snd.snd/\True)/\(decide ((e.s.log.length:Int)+(1:Int)+(↑(ndE x):Int)+(1:Int)>(60:Int))=false->Rng .i64 (e.next+(1:
  Int))/\(Le 0 0/\AppB 0 e.txs.length 16)/\(Le (0+e.txs.length) (0+e.txs.length)/\AppB (0+e.txs.length) 1 16)/\Rng .i64 ((↑(0+e.txs.length+1):Int)- (1:Int))/\∃(x:(Eng×Nat×Rec)),(Le (0+(0+e.txs.length
  +1)) (0+e.txs.length+1)/\(((EqL strRow e.s.d.sec x.fst.s.d.sec)/\(EqL pendRow e.s.d.cache x.fst.s.d.cache)/\e.s.d.armed=x.fst.s.d.armed/\(EqL intRow e.s.d.keep x.fst.s.d.keep)/\e.s.ep=x.fst.s.ep/\(EqL recRow e.s.log
  x.fst.s.log)/\e.s.sure=x.fst.s.sure/\(EqL frmRow e.s.fr x.fst.s.fr)/\e.s.hand=x.fst.s.hand/\e.up=x.fst.up/\(0+e.txs.length+1=x.fst.txs.length/\RowsEq (0+e.txs.length+1) (appRow (appRow (fun(k:Nat)=>
  List.take 2 (List.drop (k*2) [])) 0 (txnRow e.txs)) (0+e.txs.length) fun(k:Nat)=>List.take 2 (List.drop (k*2) [T.int .i64 e.next,T.int .i64 (0:Int)])) (txnRow x.fst.txs))/\(EqL lckRow e.lk.held x.fst.lk.held)/\(EqL
  wtRow e.lk.waits x.fst.lk.waits)/\e.next+(1:Int)=x.fst.next/\True)/\(↑(0+e.txs.length+1):Int)- (1:Int)=(x.snd.fst:Int)/\((0:Int)=x.snd.snd.e/\(0:Int)=x.snd.snd.l/\(0:Int)=x.snd.snd.t/\(1:Int)
  =x.snd.snd.k/\(0:Int)=x.snd.snd.p/\(0:Int)=x.snd.snd.n/\(0:Int)=x.snd.snd.g/\(0:Int)=x.snd.snd.s/\[]=x.snd.snd.b/\[]=x.snd.snd.a/\True)/\True)/\x.snd.fst<x.fst.txs.length/\x.fst.txs.length<=1000/\
  x.fst.s.log.length<=1000)/\((EqL strRow x.fst.s.d.sec (begE e).fst.s.d.sec)/\(EqL pendRow x.fst.s.d.cache (begE e).fst.s.d.cache)/\x.fst.s.d.armed=(begE e).fst.s.d.armed/\(EqL intRow x.fst.s.d.keep (begE e).fst.s.d.keep)/\
  x.fst.s.ep=(begE e).fst.s.ep/\(EqL recRow (x.fst.s.log++[appR x.fst.s (filR x.fst x.snd.fst x.snd.snd)]) (begE e).fst.s.log)/\x.fst.s.sure=(begE e).fst.s.sure/\(EqL frmRow x.fst.s.fr (begE e).fst.s.fr)/\x.fst.s.hand=
  (begE e).fst.s.hand/\x.fst.up=(begE e).fst.up/\(EqL txnRow (x.fst.txs.set x.snd.fst (Txn.mk (x.fst.txs.getD x.snd.fst default).id ((x.fst.s.log.length:Int)+(1:Int)))) (begE e).fst.txs)/\(EqL lckRow x.fst.lk.held (begE
  e).fst.lk.held)/\(EqL wtRow x.fst.lk.waits (begE e).fst.lk.waits)/\x.fst.next=(begE e).fst.next/\True)/\e.next=(begE e).snd.fst/\(0:Int)=(begE e).snd.snd/\True)))):
  PureFn Tryz.prog 53 [.agg e.ts] (.tup [.agg (begE e).1.ts,.int .i64 (begE e).2.1,.int .i64 (begE e).2.2]):=
 vcR (code:=b_lbeg) (gC l07Reserve_ok call_l07Reserve (gC ladd_ok call_ladd (gC tmpB_ok call_tmpB gN))) Tryz.func53 (by kernel_rfl) (by kernel_rfl) noAnn h (by kernel_rfl)
theorem lbeg_ok:ConOk Tryz.prog 53 k_lbeg:=by
 rintro(e:Eng) ⟨hn,hx0,hx⟩;have hb:=ndS_le e.s.log e.txs e.txs.length;have h1:=hn.1.1;have h2:=hn.2.1;have he:ndE e=ndS e.s.log e.txs e.txs.length:=rfl;refine v_lbeg e ⟨fun hu=> ?_,fun hu=>⟨fun hq=> ?_,fun hq=>⟨i64_rng (by omega),e,⟨⟨eqG _,trivial⟩,hn⟩,i64_rng (by omega),i64_rng (by omega),fun hr=> ?_,fun hr=> ?_⟩⟩⟩
 ·rw[beg1 hu];exact⟨eqG _,rfl,rfl,trivial⟩
 ·rw[beg2 hu hq];exact⟨eqG _,rfl,rfl,trivial⟩
 ·rw[beg3 hu hq (by have:=of_decide_eq_true hr;omega)]
  exact⟨eqG _,rfl,rfl,trivial⟩
 ·have hL:e.txs.length+1=(e.txs++[(⟨e.next,0⟩:Txn)]).length:=by simp
  rw[beg4 hu hq (by have:=of_decide_eq_false hr;omega)]
  refine⟨i64_rng (by omega),⟨Nat.le_refl _,by unfold AppB;omega⟩,⟨Nat.le_refl _,by unfold AppB;omega⟩,i64_rng (by omega),(begN e,e.txs.length,rBeg),⟨by unfold Le;omega,⟨⟨⟨rfl,rowsR _ _⟩,⟨rfl,rowsR _ _⟩,rfl,⟨rfl,rowsR _ _⟩,rfl,⟨rfl,rowsR _ _⟩,rfl,⟨rfl,rowsR _ _⟩,rfl,rfl,⟨by rw[Nat.zero_add];exact hL,?_⟩,⟨rfl,rowsR _ _⟩,⟨rfl,rowsR _ _⟩,rfl,trivial⟩,by dsimp only;omega,⟨rfl,rfl,rfl,rfl,rfl,rfl,rfl,rfl,rfl,rfl,trivial⟩,trivial⟩,by show e.txs.length<(e.txs++[_]).length;omega,by show(e.txs++[_]).length<=_;omega,by show e.s.log.length<=_;omega⟩,eqG (addE (begN e) e.txs.length rBeg),rfl,rfl,trivial⟩
  rw[Nat.zero_add,app0];exact txn_app e.txs ⟨e.next,0⟩
theorem nd_any{e:Eng}(h:engOK e=true):NdOK e:=by
 cases hu:e.up with
 |true=>exact nd_of h hu
 |false=>
  obtain⟨h1,h2,h3⟩:=ok_split h;rw[hu] at h3;have h3:noneE e=true:=h3;unfold noneE at h3;have h3:=of_decide_eq_true h3;exact⟨sto_log h1,by omega,fun i hi=>absurd hi (by omega)⟩
noncomputable def begO(e:Eng):Eng×Int×Int:=if engOK e=true then begE e else(engE,0,1)
noncomputable def r_BeginTx:Rle:=⟨Eng,fun e=>[.agg e.ts],fun _=>[],fun e=>.tup [.agg ((begO e).1.tm 0),.int .i64 (begO e).2.1,.int .i64 (begO e).2.2],fun e=>(begO e).1.hp 0,fun e=>EngB e/\SmEng e⟩
noncomputable def k_BeginTxs:Con:=.rfz ⟨Eng,fun e=>[.agg e.ts],fun e=>.tup [.agg (begO e).1.ts,.int .i64 (begO e).2.1,.int .i64 (begO e).2.2],fun e=>EngB e/\SmEng e⟩
noncomputable def b_BeginTxs:Code:=Tryz.f20.body.getD .skip
theorem call_BeginTxs:Callable Tryz.prog 20:=⟨_,Tryz.func20,by kernel_rfl,by kernel_rfl⟩
theorem v_BeginTxs(e:Eng)(h:
  ∃(x:r_EngineOK.ι),(((EqG e x)/\True)/\EngB x)/\((!engOK x)=true->((begO e).fst.s.d.sec.length=0/\(begO e).fst.s.d.cache.length=0/\false=(begO e).fst.s.d.armed/\(begO e).fst.s.d.keep.length=0/\(0:Int)=
  (begO e).fst.s.ep/\(begO e).fst.s.log.length=0/\(0:Int)=(begO e).fst.s.sure/\(begO e).fst.s.fr.length=0/\(0:Int)=(begO e).fst.s.hand/\false=(begO e).fst.up/\(begO e).fst.txs.length=0/\(begO
  e).fst.lk.held.length=0/\(begO e).fst.lk.waits.length=0/\(0:Int)=(begO e).fst.next/\True)/\(0:Int)=(begO e).snd.fst/\(1:Int)=(begO e).snd.snd/\True)/\((!engOK x)=false->∃(x:Eng),(((EqG e x)/\True)/\
  NdOK x/\(0:Int)<=x.next/\x.next<=(1000:Int))/\∃(x_1:Eng),(((EqG (begE x).fst x_1)/\True)/\SmEng x_1)/\(EqG x_1 (begO e).fst)/\(begE x).snd.fst=(begO e).snd.fst/\(begE x).snd.snd=(begO e).snd.snd/\True)):
  PureFn Tryz.prog 20 [.agg e.ts] (.tup [.agg (begO e).1.ts,.int .i64 (begO e).2.1,.int .i64 (begO e).2.2]):=
 vcR (code:=b_BeginTxs) (gC EngineOKs_ok call_EngineOKs (gC lbeg_ok call_lbeg (gC l07Own_ok call_l07Own gN))) Tryz.func20 (by kernel_rfl) (by kernel_rfl) noAnn h (by kernel_rfl)
noncomputable def k_BeginTxi:Con:=.rmk r_BeginTx
noncomputable def b_BeginTxi:Code:=Tryz.f21.body.getD .skip
theorem call_BeginTxi:Callable Tryz.prog 21:=⟨_,Tryz.func21,by kernel_rfl,by kernel_rfl⟩
theorem v_BeginTxi(e:Eng)(h:
  ∃(x:r_EngineOK.ι),(((EqG e x)/\True)/\EngB x)/\((!engOK x)=true->((((0=0/\0=(begO e).fst.s.d.sec.length)/\(0=0/\0=(begO e).fst.s.d.cache.length)/\false=(begO e).fst.s.d.armed/\(0=0/\0=(begO
  e).fst.s.d.keep.length)/\(0:Int)=(begO e).fst.s.ep/\(0=0/\0=(begO e).fst.s.log.length)/\(0:Int)=(begO e).fst.s.sure/\(0=0/\0=(begO e).fst.s.fr.length)/\(0:Int)=(begO e).fst.s.hand/\false=(begO
  e).fst.up/\(0=0/\0=(begO e).fst.txs.length)/\(0=0/\0=(begO e).fst.lk.held.length)/\(0=0/\0=(begO e).fst.lk.waits.length)/\(0:Int)=(begO e).fst.next/\True)/\(0:Int)=(begO e).snd.fst/\(1:Int)=(begO
  e).snd.snd/\True)/\True)/\(0=(begO e).fst.s.d.sec.length/\RowsEq 0 (fun(x:Nat)=>[]) (strRow (begO e).fst.s.d.sec))/\(0=(begO e).fst.s.d.cache.length/\RowsEq 0 (fun(x:Nat)=>[]) (pendRow (begO e).fst.s.d.cache))
  /\(0=(begO e).fst.s.d.keep.length/\RowsEq 0 (fun(x:Nat)=>[]) (intRow (begO e).fst.s.d.keep))/\(0=(begO e).fst.s.log.length/\RowsEq 0 (fun(x:Nat)=>[]) (recRow (begO e).fst.s.log))/\(0=0/\0=(begO
  e).fst.s.fr.length/\FamEq 0 (fun(x:Nat)=>[]) (famRow (begO e).fst.s.fr))/\(0=(begO e).fst.txs.length/\RowsEq 0 (fun(x:Nat)=>[]) (txnRow (begO e).fst.txs))/\(0=(begO e).fst.lk.held.length/\RowsEq 0 (fun(x:Nat)
  =>[]) (lckRow (begO e).fst.lk.held))/\(0=(begO e).fst.lk.waits.length/\RowsEq 0 (fun(x:Nat)=>[]) (wtRow (begO e).fst.lk.waits))/\True)/\((!engOK x)=false->∃(x:Eng),(((EqG e x)/\True)/\SmEng x)/\∃(x_1:(Eng
  ×Nat)),(((0=0/\0=0)/\True)/\((1=1/\1=1/\EqCG x x_1.fst)/\EqHG (0) (x_1.snd) x x_1.fst)/\engOK x_1.fst=true/\EngB x_1.fst)/\∃(x:Eng),((LeG (begE x_1.fst).fst)/\((EqFG (begE x_1.fst).fst x)/\True)/\SmEng
  x)/\(((EqCG x (begO e).fst)/\(begE x_1.fst).snd.fst=(begO e).snd.fst/\(begE x_1.fst).snd.snd=(begO e).snd.snd/\True)/\True)/\EqHG (0) (0) x (begO e).fst)):
  EffFn Tryz.prog 21 [.agg e.ts] [] (.tup [.agg ((begO e).1.tm 0),.int .i64 (begO e).2.1,.int .i64 (begO e).2.2]) ((begO e).1.hp 0):=
 vcG (code:=b_BeginTxi) (gC EngineOKi_ok call_EngineOKi (gC clEng_ok call_clEng (gC begin_ok call_begin gN))) Tryz.func21 (by kernel_rfl) (by kernel_rfl) noAnn [[.nilS 0 [0,0] 0 1,.nilS 0 [0,1] 0 2,.nilS 0 [0,3] 0 1,.nilS 0 [0,5] 0 10,.nilS 0 [0,7] 0 5,.nilS 0 [0,10] 0 2,.nilS 0 [0,11] 0 4,.nilS 0 [0,12] 0 2,.fav 0 [0,7],.vl 0 [0,0],.vl 0 [0,1],.vl 0 [0,3],.vl 0 [0,5],.vl 0 [0,7],.vl 0 [0,10],.vl 0 [0,11],.vl 0 [0,12]],[.vl 0 [0,0],.vl 0 [0,1],.vl 0 [0,3],.vl 0 [0,5],.vl 0 [0,7],.vl 0 [0,10],.vl 0 [0,11],.vl 0 [0,12]]] h (by kernel_rfl)
theorem sm_beg{e:Eng}(h:SmEng e)(hn:NdOK e):SmEng (begE e).1:=by
 have h1:=hn.1.1;have h2:=hn.2.1;unfold begE;split
 ·split
  ·exact h
  ·split
   ·refine⟨⟨h.1.1,?_,h.1.2.2⟩,?_,h.2.2⟩
    ·show(e.s.log++[_]).length<=_;simp;omega
    ·show((e.txs++[_]).set _ _).length<=_;simp;omega
   ·exact h
 ·exact h
theorem bg1{e:Eng}(h:(!engOK e)=true):begO e=(engE,0,1):=by unfold begO;rw[if_neg (by simpa using h)]
theorem bg2{e:Eng}(h:(!engOK e)=false):begO e=begE e:=by unfold begO;rw[if_pos (by simpa using h)]
theorem beg_dn{e:Eng}(h:e.up=false):begE e=(e,0,15):=beg1 (by rw[h];rfl)
theorem sm_bgO{e:Eng}(h:SmEng e)(ho:engOK e=true):SmEng (begE e).1:=by
 cases hu:e.up with
 |true=>exact sm_beg h (nd_of ho hu)
 |false=>rw[beg_dn hu];exact h
theorem BeginTxi_ok:ConOk Tryz.prog 21 k_BeginTxi:=by
 rintro(e:Eng) ⟨h1,h2⟩;refine⟨v_BeginTxi e ⟨e,⟨⟨eqG _,trivial⟩,h1⟩,fun hq=> ?_,fun hq=> ?_⟩,rfl,plain_eng _ 0⟩
 ·rw[bg1 hq];exact⟨⟨⟨⟨⟨rfl,rfl⟩,⟨rfl,rfl⟩,rfl,⟨rfl,rfl⟩,rfl,⟨rfl,rfl⟩,rfl,⟨rfl,rfl⟩,rfl,rfl,⟨rfl,rfl⟩,⟨rfl,rfl⟩,⟨rfl,rfl⟩,rfl,trivial⟩,rfl,rfl,trivial⟩,trivial⟩,⟨rfl,row0⟩,⟨rfl,row0⟩,⟨rfl,row0⟩,⟨rfl,row0⟩,⟨rfl,rfl,fun i hi=>absurd hi (Nat.not_lt_zero _)⟩,⟨rfl,row0⟩,⟨rfl,row0⟩,⟨rfl,row0⟩,trivial⟩
 ·have ho:engOK e=true:=by simpa using hq
  rw[bg2 hq];exact⟨e,⟨⟨eqG _,trivial⟩,h2⟩,(e,0),⟨⟨⟨rfl,rfl⟩,trivial⟩,⟨⟨rfl,rfl,⟨rfl,rfl⟩,⟨rfl,rfl⟩,rfl,⟨rfl,rfl⟩,rfl,⟨rfl,rfl⟩,rfl,⟨rfl,rfl⟩,rfl,rfl,⟨rfl,rfl⟩,⟨rfl,rfl⟩,⟨rfl,rfl⟩,rfl,trivial⟩,⟨rfl,rowsR _ _⟩,⟨rfl,rowsR _ _⟩,⟨rfl,rowsR _ _⟩,⟨rfl,rowsR _ _⟩,⟨rfl,rfl,famR _⟩,⟨rfl,rowsR _ _⟩,⟨rfl,rowsR _ _⟩,⟨rfl,rowsR _ _⟩,trivial⟩,ho,h1⟩,(begE e).1,⟨⟨le0 _,le0 _,le0 _,le0 _,le0 _,le0 _,le0 _,le0 _⟩,⟨⟨⟨rfl,rowsR _ _⟩,⟨rfl,rowsR _ _⟩,rfl,⟨rfl,rowsR _ _⟩,rfl,⟨rfl,rowsR _ _⟩,rfl,⟨rfl,fun _ _=>rfl⟩,rfl,rfl,⟨rfl,rowsR _ _⟩,⟨rfl,rowsR _ _⟩,⟨rfl,rowsR _ _⟩,rfl,trivial⟩,trivial⟩,sm_bgO h2 ho⟩,⟨⟨⟨⟨rfl,rfl⟩,⟨rfl,rfl⟩,rfl,⟨rfl,rfl⟩,rfl,⟨rfl,rfl⟩,rfl,⟨rfl,rfl⟩,rfl,rfl,⟨rfl,rfl⟩,⟨rfl,rfl⟩,⟨rfl,rfl⟩,rfl,trivial⟩,rfl,rfl,trivial⟩,trivial⟩,⟨rfl,rowsR _ _⟩,⟨rfl,rowsR _ _⟩,⟨rfl,rowsR _ _⟩,⟨rfl,rowsR _ _⟩,⟨rfl,rfl,famR _⟩,⟨rfl,rowsR _ _⟩,⟨rfl,rowsR _ _⟩,⟨rfl,rowsR _ _⟩,trivial⟩
theorem BeginTxs_ok:ConOk Tryz.prog 20 k_BeginTxs:=by
 rintro(e:Eng) ⟨h1,h2⟩;refine v_BeginTxs e ⟨e,⟨⟨eqG _,trivial⟩,h1⟩,fun hq=> ?_,fun hq=> ?_⟩
 ·rw[bg1 hq];exact⟨⟨rfl,rfl,rfl,rfl,rfl,rfl,rfl,rfl,rfl,rfl,rfl,rfl,rfl,rfl,trivial⟩,rfl,rfl,trivial⟩
 ·have ho:engOK e=true:=by simpa using hq
  rw[bg2 hq];exact⟨e,⟨⟨eqG _,trivial⟩,nd_any ho,by have:=hd_split (ok_split ho).2.1;omega,by have:=hd_split (ok_split ho).2.1;omega⟩,(begE e).1,⟨⟨eqG _,trivial⟩,sm_bgO h2 ho⟩,eqG _,rfl,rfl,trivial⟩
end Go.Proofs.YtokaojbaacnngaaGreat

