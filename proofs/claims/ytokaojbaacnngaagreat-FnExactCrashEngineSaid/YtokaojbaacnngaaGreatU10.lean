/- A part of the proof. -/
import Derived.Test.YtokaojbaacnngaaGreatU3U4
import Derived.Test.YtokaojbaacnngaaGreatL7L8
import Derived.Test.YtokaojbaacnngaaGreatX11X11rX12X13
import Derived.Test.YtokaojbaacnngaaGreatX14
namespace Go.Proofs.YtokaojbaacnngaaGreat
set_option maxRecDepth 100000
open Go.SS

noncomputable def losE(e:Eng):Eng:=⟨⟨e.s.d,e.s.ep,lgL e.s.d (lgM e.s.d e.s.ep),(lgM e.s.d e.s.ep:Nat),[],0⟩,false,[],⟨[],[]⟩,e.next⟩
noncomputable def k_lose:Con:=.reff ⟨Eng×Nat,fun x=>[.ref 0 0 0],fun x=>x.1.bx x.2,fun _=>.int .i64 15,fun x=>(losE x.1).nx 0,fun x=>DskP x.1.s.d⟩
noncomputable def b_lose:Code:=Tryz.f114.body.getD .skip
theorem call_lose:Callable Tryz.prog 114:=⟨_,Tryz.func114,by kernel_rfl,by kernel_rfl⟩
theorem v_lose(e:Eng)(v:Nat)(h:
  ∃(x:(Dsk×Int)),((Le (0+e.s.d.sec.length) e.s.d.sec.length/\Le (0+e.s.d.cache.length) e.s.d.cache.length/\Le (0+e.s.d.keep.length) e.s.d.keep.length)/\((EqD e.s.d x.fst)/\e.s.ep=x.snd/\True)/\LgS x)/\((15:
  Int)=(15:Int)/\True)/\(1=1/\1=1/\(0=0/\e.s.d.sec.length=e.s.d.sec.length)/\(0=0/\e.s.d.cache.length=e.s.d.cache.length)/\e.s.d.armed=e.s.d.armed/\(0=0/\e.s.d.keep.length=e.s.d.keep.length)/\e.s.ep
  =e.s.ep/\(0=0/\lgM x.fst x.snd=(lgL e.s.d (lgM e.s.d e.s.ep)).length)/\(↑(lgM x.fst x.snd):Int)=(↑(lgM e.s.d e.s.ep):Int)/\(0=0/\0=0)/\(0:Int)=(0:Int)/\false=false/\(0=0/\0=0)/\(0=0/\0=0)
  /\(0=0/\0=0)/\e.next=e.next/\True)/\True/\True/\True/\True/\True/\True/\True/\True/\(EqL strRow e.s.d.sec e.s.d.sec)/\(EqL pendRow e.s.d.cache e.s.d.cache)/\(EqL intRow e.s.d.keep e.s.d.keep)/\(EqL recRow (lgL
  x.fst (lgM x.fst x.snd)) (lgL e.s.d (lgM e.s.d e.s.ep)))/\(0=0/\0=0/\FamEq 0 (fun(x:Nat)=>[]) (famRow []))/\(0=0/\RowsEq 0 (fun(x:Nat)=>[]) (txnRow []))/\(0=0/\RowsEq 0 (fun(x:Nat)=>[]) (lckRow []))/\
  (0=0/\RowsEq 0 (fun(x:Nat)=>[]) (wtRow []))/\True):
  EffFn Tryz.prog 114 [.ref 0 0 0] (e.bx v) (.int .i64 15) ((losE e).nx 0):=
 vcG (code:=b_lose) (gC readLog_ok call_readLog gN) Tryz.func114 (by kernel_rfl) (by kernel_rfl) noAnn [[.nilC 0 7 0 5,.fac 0 7,.nilC 0 10 0 2,.nilC 0 11 0 4,.nilC 0 12 0 2,.box 0,.arr 1,.arr 2,.arr 3,.arr 4,.arr 5,.arr 6,.arr 7,.arr 8,.cel 0 0,.cel 0 1,.cel 0 3,.cel 0 5,.cel 0 7,.cel 0 10,.cel 0 11,.cel 0 12]] h (by kernel_rfl)
theorem lose_ok:ConOk Tryz.prog 114 k_lose:=by
 rintro⟨e,v⟩ (hd:DskP e.s.d);have hl:=(lgL_len e.s.d (lgM e.s.d e.s.ep)).symm;exact v_lose e v ⟨(e.s.d,e.s.ep),⟨⟨le0 _,le0 _,le0 _⟩,⟨eqD _,rfl,trivial⟩,hd⟩,⟨rfl,trivial⟩,⟨rfl,rfl,⟨rfl,rfl⟩,⟨rfl,rfl⟩,rfl,⟨rfl,rfl⟩,rfl,⟨rfl,hl⟩,rfl,⟨rfl,rfl⟩,rfl,rfl,⟨rfl,rfl⟩,⟨rfl,rfl⟩,⟨rfl,rfl⟩,rfl,trivial⟩,trivial,trivial,trivial,trivial,trivial,trivial,trivial,trivial,⟨rfl,rowsR _ _⟩,⟨rfl,rowsR _ _⟩,⟨rfl,rowsR _ _⟩,⟨rfl,rowsR _ _⟩,⟨rfl,rfl,fun i hi=>absurd hi (Nat.not_lt_zero _)⟩,⟨rfl,row0⟩,⟨rfl,row0⟩,⟨rfl,row0⟩,trivial⟩
def k_crashC:Con:=.reff ⟨Sto×List Int×Nat,fun x=>[.ref 0 0 0,intS x.2.1],fun x=>x.1.bx x.2.2,fun _=>.tup [],fun x=>(x.1.sd (crD x.1.d x.2.1)).bxY x.2.2,fun x=>SmD x.1.d/\PdB x.1.d/\x.2.1.length<=1048576⟩
def A_crashC(s:Sto)(K:List Int)(v:Nat):Nat->Ann
 |0=>.one {i:Nat//i<=s.d.cache.length} (fun x=>⟨[(0,.ref 0 0 0),(1,intS K),(9,.osl 2 0 s.d.cache.length),(10,.int .i64 s.d.cache.length),(11,.int .i64 x.1)],[stoBx (s.tn 1 2 3 4 5),some (.arr true 0 1 s.d.sec.length (strRow (stl s.d.sec s.d.cache (kp K) x.1))),pendA s.d.cache,intA s.d.keep,recA s.log,famA v s.fr s.fr.length]⟩) (fun x=>s.d.cache.length-x.1) [.box 0,.arr 1,.arr 2,.arr 3,.arr 4,.arr 5] [.box 0,.arr 1,.arr 2,.arr 3,.arr 4,.arr 5] (fun _=>noAnn)
 |_=>.none
noncomputable def b_crashC:Code:=Tryz.f113.body.getD .skip
theorem call_crashC:Callable Tryz.prog 113:=⟨_,Tryz.func113,by kernel_rfl,by kernel_rfl⟩
theorem v_crashC(s:Sto)(K:List Int)(v:Nat)(h:
  (∃(x:{i:Nat//i<=s.d.cache.length}),((0=0/\0=0)/\(EqL intRow K K)/\(0=0/\s.d.cache.length=s.d.cache.length)/\(s.d.cache.length:Int)=(s.d.cache.length:Int)/\(0:Int)=(x.val:Int)/\True)/\(1=1/\1=1
  /\EqC s s)/\(s.d.sec.length=s.d.sec.length/\RowsEq s.d.sec.length (strRow s.d.sec) (strRow (stl s.d.sec s.d.cache (kp K) x.val)))/\(EqL pendRow s.d.cache s.d.cache)/\(EqL intRow s.d.keep s.d.keep)/\(EqL recRow s.log s.log)
  /\(v=v/\s.fr.length=s.fr.length/\FamEq s.fr.length (famRow s.fr) (famRow s.fr))/\True)/\∀(x:{i:Nat//i<=s.d.cache.length}),(decide ((x.val:Int)<(s.d.cache.length:Int))=true->InB (x.val:Int) s.d.cache.length
  /\Lt (0+(x.val:Int).toNat) s.d.cache.length/\(decide ((x.val:Int)<(K.length:Int))=true->InB (x.val:Int) K.length)/\((decide ((x.val:Int)<(K.length:Int))&&K.getD (x.val:Int).toNat (0:Int) !=(0:Int))=true->InB
  (s.d.cache.getD (0+(x.val:Int).toNat) default).at_ s.d.sec.length/\Lt (0+(s.d.cache.getD (0+(x.val:Int).toNat) default).at_.toNat) s.d.sec.length/\Rng .i64 ((x.val:Int)+(1:Int))/\∃(y:{i:Nat//i<=
  s.d.cache.length}),(((0=0/\0=0)/\(EqL intRow K K)/\(0=0/\s.d.cache.length=s.d.cache.length)/\(s.d.cache.length:Int)=(s.d.cache.length:Int)/\(x.val:Int)+(1:Int)=(y.val:Int)/\True)/\(1=1/\1=1/\EqC s
  s)/\(s.d.sec.length=s.d.sec.length/\RowsEq s.d.sec.length (setRow (strRow (stl s.d.sec s.d.cache (kp K) x.val)) (0+(s.d.cache.getD (0+(x.val:Int).toNat) default).at_.toNat) 0 [T.str (s.d.cache.getD (0+(x.val:Int).toNat)
  default).d]) (strRow (stl s.d.sec s.d.cache (kp K) y.val)))/\(EqL pendRow s.d.cache s.d.cache)/\(EqL intRow s.d.keep s.d.keep)/\(EqL recRow s.log s.log)/\(v=v/\s.fr.length=s.fr.length/\FamEq s.fr.length (famRow s.fr)
  (famRow s.fr))/\True)/\Lt (s.d.cache.length-y.val) (s.d.cache.length-x.val))/\((decide ((x.val:Int)<(K.length:Int))&&K.getD (x.val:Int).toNat (0:Int) !=(0:Int))=false->Rng .i64 ((x.val:Int)+(1:Int))/\∃(y:
  {i:Nat//i<=s.d.cache.length}),(((0=0/\0=0)/\(EqL intRow K K)/\(0=0/\s.d.cache.length=s.d.cache.length)/\(s.d.cache.length:Int)=(s.d.cache.length:Int)/\(x.val:Int)+(1:Int)=(y.val:Int)/\True)/\(1=1
  /\1=1/\EqC s s)/\(s.d.sec.length=s.d.sec.length/\RowsEq s.d.sec.length (strRow (stl s.d.sec s.d.cache (kp K) x.val)) (strRow (stl s.d.sec s.d.cache (kp K) y.val)))/\(EqL pendRow s.d.cache s.d.cache)/\(EqL intRow s.d.keep
  s.d.keep)/\(EqL recRow s.log s.log)/\(v=v/\s.fr.length=s.fr.length/\FamEq s.fr.length (famRow s.fr) (famRow s.fr))/\True)/\Lt (s.d.cache.length-y.val) (s.d.cache.length-x.val)))/\(decide ((x.val:Int)<
  (s.d.cache.length:Int))=false->(True/\True)/\(1=1/\1=1/\(0=0/\s.d.sec.length=(stl s.d.sec s.d.cache (kp K) s.d.cache.length).length)/\(0=0/\0=0)/\false=false/\(0=0/\0=0)/\s.ep=s.ep/\(0=0/\
  s.log.length=s.log.length)/\s.sure=s.sure/\(0=0/\s.fr.length=s.fr.length)/\s.hand=s.hand/\True)/\(s.d.sec.length=(stl s.d.sec s.d.cache (kp K) s.d.cache.length).length/\RowsEq s.d.sec.length (strRow (stl s.d.sec
  s.d.cache (kp K) x.val)) (strRow (stl s.d.sec s.d.cache (kp K) s.d.cache.length)))/\True/\True/\(EqL recRow s.log s.log)/\(v=v/\s.fr.length=s.fr.length/\FamEq s.fr.length (famRow s.fr) (famRow s.fr))/\(0=0/\RowsEq 0
  (fun(x:Nat)=>[]) (pendRow []))/\(0=0/\RowsEq 0 (fun(x:Nat)=>[]) (intRow []))/\True)):
  EffFn Tryz.prog 113 [.ref 0 0 0,intS K] (s.bx v) (.tup []) ((s.sd (crD s.d K)).bxY v):=
 vcG (code:=b_crashC) gN Tryz.func113 (by kernel_rfl) (by kernel_rfl) (A_crashC s K v) [[.nilC 0 1 0 2,.nilC 0 3 0 1,.box 0,.arr 1,.arr 2,.arr 3,.arr 4,.arr 5,.arr 6,.arr 7]] h (by kernel_rfl)
theorem crashC_ok:ConOk Tryz.prog 113 k_crashC:=by
 rintro⟨s,K,v⟩ ⟨⟨h1,h2,h3⟩,h4,h5⟩;dsimp only at h1 h2 h3 h4 h5;refine v_crashC s K v ⟨⟨⟨0,Nat.zero_le _⟩,⟨⟨rfl,rfl⟩,⟨rfl,rowsR _ _⟩,⟨rfl,rfl⟩,rfl,rfl,trivial⟩,⟨rfl,rfl,⟨rfl,rfl⟩,⟨rfl,rfl⟩,rfl,⟨rfl,rfl⟩,rfl,⟨rfl,rfl⟩,rfl,⟨rfl,rfl⟩,rfl,trivial⟩,⟨rfl,rowsR _ _⟩,⟨rfl,rowsR _ _⟩,⟨rfl,rowsR _ _⟩,⟨rfl,rowsR _ _⟩,⟨rfl,rfl,famR _⟩,trivial⟩,fun x=>⟨fun hc=> ?_,fun hc=> ?_⟩⟩
 ·have hlt:=lt_of_dec hc;have ek:(decide ((x.val:Int)<(K.length:Int))&&K.getD x.val 0 !=0)=kp K x.val:=by
   unfold kp;rw[show decide ((x.val:Int)<(K.length:Int))=decide (x.val<K.length) from decide_eq_decide.2 (by omega)]
  rw[Int.toNat_natCast,show 0+x.val=x.val by omega,ek]
  have ha:=h4 x.val hlt;refine⟨inB_nat hlt,hlt,fun h=>inB_nat (lt_of_dec h),fun hk=> ?_,fun hk=> ?_⟩
  ·exact⟨ha,by unfold Lt;omega,i64_rng (by omega),⟨x.val+1,hlt⟩,⟨⟨⟨rfl,rfl⟩,⟨rfl,rowsR _ _⟩,⟨rfl,rfl⟩,rfl,by dsimp only;omega,trivial⟩,⟨rfl,rfl,⟨rfl,rfl⟩,⟨rfl,rfl⟩,rfl,⟨rfl,rfl⟩,rfl,⟨rfl,rfl⟩,rfl,⟨rfl,rfl⟩,rfl,trivial⟩,⟨rfl,stl_set hk⟩,⟨rfl,rowsR _ _⟩,⟨rfl,rowsR _ _⟩,⟨rfl,rowsR _ _⟩,⟨rfl,rfl,famR _⟩,trivial⟩,Cnt.ext_lt hlt⟩
  ·exact⟨i64_rng (by omega),⟨x.val+1,hlt⟩,⟨⟨⟨rfl,rfl⟩,⟨rfl,rowsR _ _⟩,⟨rfl,rfl⟩,rfl,by dsimp only;omega,trivial⟩,⟨rfl,rfl,⟨rfl,rfl⟩,⟨rfl,rfl⟩,rfl,⟨rfl,rfl⟩,rfl,⟨rfl,rfl⟩,rfl,⟨rfl,rfl⟩,rfl,trivial⟩,⟨rfl,fun j _=>by dsimp only;rw[stl_f hk]⟩,⟨rfl,rowsR _ _⟩,⟨rfl,rowsR _ _⟩,⟨rfl,rowsR _ _⟩,⟨rfl,rfl,famR _⟩,trivial⟩,Cnt.ext_lt hlt⟩
 ·have hx:x.val=s.d.cache.length:=by have:=x.2;have:=le_of_not hc;omega
  rw[hx];have hl:=(stl_len s.d.sec s.d.cache (kp K) s.d.cache.length).symm;exact⟨⟨trivial,trivial⟩,⟨rfl,rfl,⟨rfl,hl⟩,⟨rfl,rfl⟩,rfl,⟨rfl,rfl⟩,rfl,⟨rfl,rfl⟩,rfl,⟨rfl,rfl⟩,rfl,trivial⟩,⟨hl,rowsR _ _⟩,trivial,trivial,⟨rfl,rowsR _ _⟩,⟨rfl,rfl,famR _⟩,⟨rfl,row0⟩,⟨rfl,row0⟩,trivial⟩
def sdE(e:Eng)(d:Dsk):Eng:={e with s:=e.s.sd d}
noncomputable def craE(e:Eng)(K:List Int):Eng:=losE (sdE e (crD e.s.d K))
noncomputable def k_crashE:Con:=.reff ⟨Eng×List Int×Nat,fun x=>[.ref 0 0 0,intS x.2.1],fun x=>x.1.bx x.2.2,fun _=>.tup [],fun x=>(craE x.1 x.2.1).nx 0,fun x=>SmD x.1.s.d/\PdB x.1.s.d/\x.2.1.length<=1048576/\DskP (crD x.1.s.d x.2.1)⟩
noncomputable def b_crashE:Code:=Tryz.f57.body.getD .skip
theorem call_crashE:Callable Tryz.prog 57:=⟨_,Tryz.func57,by kernel_rfl,by kernel_rfl⟩
theorem v_crashE(e:Eng)(K:List Int)(v:Nat)(h:
  ∃(x:(Sto×List Int×Nat)),(((0=0/\0=0)/\(EqL intRow K x.snd.fst)/\True)/\((1=1/\1=1/\EqC e.s x.fst)/\EqH (v) (x.snd.snd) e.s x.fst)/\SmD x.fst.d/\PdB x.fst.d/\x.snd.fst.length<=1048576)/\∃(x_1:(Eng×
  Nat)),(((0=0/\0=0)/\True)/\((1=1/\1=1/\(0=0/\(stl x.fst.d.sec x.fst.d.cache (kp x.snd.fst) x.fst.d.cache.length).length=x_1.fst.s.d.sec.length)/\(0=0/\0=x_1.fst.s.d.cache.length)/\false=
  x_1.fst.s.d.armed/\(0=0/\0=x_1.fst.s.d.keep.length)/\x.fst.ep=x_1.fst.s.ep/\(0=0/\x.fst.log.length=x_1.fst.s.log.length)/\x.fst.sure=x_1.fst.s.sure/\(0=0/\x.fst.fr.length=x_1.fst.s.fr.length)/\x.fst.hand=
  x_1.fst.s.hand/\e.up=x_1.fst.up/\(0=0/\e.txs.length=x_1.fst.txs.length)/\(0=0/\e.lk.held.length=x_1.fst.lk.held.length)/\(0=0/\e.lk.waits.length=x_1.fst.lk.waits.length)/\e.next=x_1.fst.next/\True)/\(EqL
  strRow (stl x.fst.d.sec x.fst.d.cache (kp x.snd.fst) x.fst.d.cache.length) x_1.fst.s.d.sec)/\(0=x_1.fst.s.d.cache.length/\RowsEq 0 (pendRow []) (pendRow x_1.fst.s.d.cache))/\(0=x_1.fst.s.d.keep.length/\RowsEq 0 (intRow [])
  (intRow x_1.fst.s.d.keep))/\(EqL recRow x.fst.log x_1.fst.s.log)/\(x.snd.snd=x_1.snd/\x.fst.fr.length=x_1.fst.s.fr.length/\FamEq x.fst.fr.length (famRow x.fst.fr) (famRow x_1.fst.s.fr))/\(EqL txnRow e.txs x_1.fst.txs)/\
  (EqL lckRow e.lk.held x_1.fst.lk.held)/\(EqL wtRow e.lk.waits x_1.fst.lk.waits)/\True)/\DskP x_1.fst.s.d)/\(True/\True)/\(1=1/\1=1/\(0=0/\x_1.fst.s.d.sec.length=(stl e.s.d.sec e.s.d.cache (kp K)
  e.s.d.cache.length).length)/\(0=0/\x_1.fst.s.d.cache.length=0)/\x_1.fst.s.d.armed=false/\(0=0/\x_1.fst.s.d.keep.length=0)/\x_1.fst.s.ep=e.s.ep/\(0=0/\(lgL x_1.fst.s.d (lgM x_1.fst.s.d x_1.fst.s.ep)).length=
  (lgL (crD e.s.d K) (lgM (crD e.s.d K) e.s.ep)).length)/\(↑(lgM x_1.fst.s.d x_1.fst.s.ep):Int)=(↑(lgM (crD e.s.d K) e.s.ep):Int)/\(0=0/\0=0)/\(0:Int)=(0:Int)/\false=false/\(0=0/\0=0)/\(0=0/\0=0)/\
  (0=0/\0=0)/\x_1.fst.next=e.next/\True)/\True/\True/\True/\True/\True/\True/\True/\True/\(EqL strRow x_1.fst.s.d.sec (stl e.s.d.sec e.s.d.cache (kp K) e.s.d.cache.length))/\(x_1.fst.s.d.cache.length=0/\RowsEq
  x_1.fst.s.d.cache.length (pendRow x_1.fst.s.d.cache) (pendRow []))/\(x_1.fst.s.d.keep.length=0/\RowsEq x_1.fst.s.d.keep.length (intRow x_1.fst.s.d.keep) (intRow []))/\(EqL recRow (lgL x_1.fst.s.d (lgM x_1.fst.s.d
  x_1.fst.s.ep)) (lgL (crD e.s.d K) (lgM (crD e.s.d K) e.s.ep)))/\(0=0/\0=0/\FamEq 0 (famRow []) (famRow []))/\(0=0/\RowsEq 0 (txnRow []) (txnRow []))/\(0=0/\RowsEq 0 (lckRow []) (lckRow []))/\(0=0/\RowsEq 0
  (wtRow []) (wtRow []))/\True):
  EffFn Tryz.prog 57 [.ref 0 0 0,intS K] (e.bx v) (.tup []) ((craE e K).nx 0):=
 vcG (code:=b_crashE) (gC crashC_ok call_crashC (gC lose_ok call_lose gN)) Tryz.func57 (by kernel_rfl) (by kernel_rfl) noAnn [[.box 0,.arr 1,.arr 2,.arr 3,.arr 4,.arr 5,.arr 6,.arr 7,.arr 8,.cel 0 0,.cel 0 1,.cel 0 3,.cel 0 5,.cel 0 7,.cel 0 10,.cel 0 11,.cel 0 12]] h (by kernel_rfl)
theorem crashE_ok:ConOk Tryz.prog 57 k_crashE:=by
 rintro⟨e,K,v⟩ ⟨h1,h2,h3,h4⟩;dsimp only at h1 h2 h3 h4;exact v_crashE e K v ⟨(e.s,K,v),⟨⟨⟨rfl,rfl⟩,⟨rfl,rowsR _ _⟩,trivial⟩,⟨⟨rfl,rfl,⟨rfl,rfl⟩,⟨rfl,rfl⟩,rfl,⟨rfl,rfl⟩,rfl,⟨rfl,rfl⟩,rfl,⟨rfl,rfl⟩,rfl,trivial⟩,⟨rfl,rowsR _ _⟩,⟨rfl,rowsR _ _⟩,⟨rfl,rowsR _ _⟩,⟨rfl,rowsR _ _⟩,⟨rfl,rfl,famR _⟩,trivial⟩,h1,h2,h3⟩,(sdE e (crD e.s.d K),v),⟨⟨⟨rfl,rfl⟩,trivial⟩,⟨⟨rfl,rfl,⟨rfl,rfl⟩,⟨rfl,rfl⟩,rfl,⟨rfl,rfl⟩,rfl,⟨rfl,rfl⟩,rfl,⟨rfl,rfl⟩,rfl,rfl,⟨rfl,rfl⟩,⟨rfl,rfl⟩,⟨rfl,rfl⟩,rfl,trivial⟩,⟨rfl,rowsR _ _⟩,⟨rfl,rowsR _ _⟩,⟨rfl,rowsR _ _⟩,⟨rfl,rowsR _ _⟩,⟨rfl,rfl,famR _⟩,⟨rfl,rowsR _ _⟩,⟨rfl,rowsR _ _⟩,⟨rfl,rowsR _ _⟩,trivial⟩,h4⟩,⟨trivial,trivial⟩,⟨rfl,rfl,⟨rfl,rfl⟩,⟨rfl,rfl⟩,rfl,⟨rfl,rfl⟩,rfl,⟨rfl,rfl⟩,rfl,⟨rfl,rfl⟩,rfl,rfl,⟨rfl,rfl⟩,⟨rfl,rfl⟩,⟨rfl,rfl⟩,rfl,trivial⟩,trivial,trivial,trivial,trivial,trivial,trivial,trivial,trivial,⟨rfl,rowsR _ _⟩,⟨rfl,rowsR _ _⟩,⟨rfl,rowsR _ _⟩,⟨rfl,rowsR _ _⟩,⟨rfl,rfl,famR _⟩,⟨rfl,rowsR _ _⟩,⟨rfl,rowsR _ _⟩,⟨rfl,rowsR _ _⟩,trivial⟩
theorem stl_P(sec:List (List UInt8))(C:List Pend)(Q:Nat->Bool)(h:∀i,i<sec.length->(sec.getD i []).length<=160)(hc:∀i,i<C.length->(C.getD i default).d.length<=160):∀n,n<=C.length->∀i,i<sec.length->((stl sec C Q n).getD i []).length<=160
 |0,_,i,hi=>h i hi
 |n+1,hn,i,hi=>by
  unfold stl;have ih:=stl_P sec C Q h hc n (by omega) i hi
  split
  ·by_cases hj:i=(C.getD n default).at_.toNat
   ·subst hj;rw[List.getD_eq_getElem?_getD,List.getElem?_set_self (by rw[stl_len];exact hi)]
    exact hc n (by omega)
   ·rw[List.getD_eq_getElem?_getD,List.getElem?_set_ne (Ne.symm hj),←List.getD_eq_getElem?_getD]
    exact ih
  ·exact ih
theorem bad_pend{m:Nat}{p:Pend}(h:badPend m p=false):0<=p.at_/\p.at_<m/\p.d.length<=160:=by
 unfold badPend at h;simp only[Bool.or_eq_false_iff,Bool.not_eq_false',inR_iff,decide_eq_false_iff_not] at h;omega
theorem dsk_pd{d:Dsk}(h:DskP d):PdB d:=fun i hi=>by
 have:=bad_pend (h.2.2.2.2.2.2 i hi);exact⟨this.1,this.2.1⟩
theorem dsk_cr{d:Dsk}(h:DskP d)(K:List Int):DskP (crD d K):=by
 have hl:(crD d K).sec.length=d.sec.length:=stl_len _ _ _ _;refine⟨by rw[hl];exact h.1,by rw[hl];exact h.2.1,Nat.zero_le _,Nat.zero_le _,fun _=>rfl,fun i hi=> ?_,fun i hi=>absurd hi (Nat.not_lt_zero _)⟩
 rw[hl] at hi;exact stl_P d.sec d.cache (kp K) h.2.2.2.2.2.1 (fun j hj=>(bad_pend (h.2.2.2.2.2.2 j hj)).2.2) _ (Nat.le_refl _) i hi
theorem eng_dsk{e:Eng}(h:engOK e=true):DskP e.s.d/\e.s.d.sec.length=69:=by
 have:=(hdr_split e.s).1 ((sto_split e.s).1 (ok_split h).1).1.1;exact⟨this.1,this.2.1⟩
theorem fstI_lt{n:Nat}{p:Nat->Bool}(h:¬fstI n p<0):∃i,i<n/\p i=true/\(∀j,j<i->p j=false)/\fstI n p=(i:Int):=by
 cases ha:anyI n p with
 |false=>exact absurd (by rw[fstI_no (anyI_no.1 ha)];omega) h
 |true=>
  obtain⟨i,hi,hp⟩:=anyI_iff.1 ha;have key:∀m,m<=n->(∀j,j<m->p j=false)∨∃i,i<n/\p i=true/\(∀j,j<i->p j=false):=by
   intro m;induction m with
   |zero=>intro _;exact .inl fun j hj=>absurd hj (Nat.not_lt_zero j)
   |succ m ih=>
    intro hm;rcases ih (by omega) with h0|h0
    ·cases hq:p m with
     |true=>exact .inr ⟨m,hm,hq,h0⟩
     |false=>
      refine .inl fun j hj=> ?_
      by_cases hjm:j=m
      ·rw[hjm];exact hq
      ·exact h0 j (by omega)
    ·exact .inr h0
  rcases key n (Nat.le_refl n) with h0|⟨k,hk,hpk,hn⟩
  ·rw[h0 i hi] at hp;cases hp
  ·exact⟨k,hk,hpk,hn,fstI_at hk hpk hn⟩
theorem lgM_le(d:Dsk)(ep:Int):lgM d ep<=d.sec.length-9:=by
 unfold lgM;split
 ·exact Nat.le_refl _
 ·rename_i h;by_cases hn:fstI (d.sec.length-9) (lgB d ep)<0
  ·omega
  ·obtain⟨i,hi,_,_,e⟩:=fstI_lt hn;omega
theorem sm_cra{e:Eng}{K:List Int}(h:SmEng e)(ho:engOK e=true):SmEng (craE e K):=by
 have hl:(crD e.s.d K).sec.length=e.s.d.sec.length:=stl_len _ _ _ _;have hm:=lgM_le (crD e.s.d K) e.s.ep;have hd:=(eng_dsk ho).2;refine⟨⟨⟨by show(crD e.s.d K).sec.length<=_;rw[hl];exact h.1.1.1,Nat.zero_le _,Nat.zero_le _⟩,?_,Nat.zero_le _,fun i hi=>absurd hi (Nat.not_lt_zero _)⟩,Nat.zero_le _,Nat.zero_le _,Nat.zero_le _⟩
 show(lgL _ _).length<=_;rw[lgL_len];show lgM (crD e.s.d K) e.s.ep<=_;omega
noncomputable def k_l07Down:Con:=.rel ⟨Eng×Dsk,fun x=>[.agg x.1.ts,.agg x.2.ts],fun x=>.agg (losE (sdE x.1 x.2)).ts,fun x=>DskP x.2/\x.2.sec.length=69⟩
noncomputable def b_l07Down:Code:=Tryz.f55.body.getD .skip
theorem call_l07Down:Callable Tryz.prog 55:=⟨_,Tryz.func55,by kernel_rfl,by kernel_rfl⟩
theorem v_l07Down(e:Eng)(d:Dsk)(h:
  ∃(x:(Dsk×Int)),(((EqD d x.fst)/\e.s.ep=x.snd/\True)/\DskP x.fst/\x.fst.sec.length=69)/\(EqL strRow d.sec d.sec)/\(EqL pendRow d.cache d.cache)/\d.armed=d.armed/\(EqL intRow d.keep d.keep)/\e.s.ep=e.s.ep/\
  (EqL recRow (lgL x.fst (lgM x.fst x.snd)) (lgL d (lgM d e.s.ep)))/\(↑(lgL x.fst (lgM x.fst x.snd)).length:Int)=(↑(lgM d e.s.ep):Int)/\0=0/\(0:Int)=(0:Int)/\false=false/\0=0/\0=0/\0=0/\e.next=e.next
  /\True):
  PureFn Tryz.prog 55 [.agg e.ts,.agg d.ts] (.agg (losE (sdE e d)).ts):=
 vcR (code:=b_l07Down) (gC l04Log_ok call_l04Log (gC tmpB_ok call_tmpB (gC tmpC_ok call_tmpC gN))) Tryz.func55 (by kernel_rfl) (by kernel_rfl) noAnn h (by kernel_rfl)
theorem l07Down_ok:ConOk Tryz.prog 55 k_l07Down:=by
 rintro⟨e,d⟩ ⟨h1,h2⟩;dsimp only at h1 h2;exact v_l07Down e d ⟨(d,e.s.ep),⟨⟨eqD _,rfl,trivial⟩,h1,h2⟩,⟨rfl,rowsR _ _⟩,⟨rfl,rowsR _ _⟩,rfl,⟨rfl,rowsR _ _⟩,rfl,⟨rfl,rowsR _ _⟩,congrArg _ (lgL_len _ _),rfl,rfl,rfl,rfl,rfl,rfl,rfl,trivial⟩
noncomputable def craO(e:Eng)(K:List Int):Eng×Int:=if K.length>4096 then(engE,2) else if engOK e=true then(craE e K,0) else(engE,1)
noncomputable def r_Crash:Rle:=⟨Eng×List Int,fun x=>[.agg x.1.ts,intS x.2],fun _=>[],fun x=>.tup [.agg ((craO x.1 x.2).1.tm 0),.int .i64 (craO x.1 x.2).2],fun x=>(craO x.1 x.2).1.hp 0,fun x=>EngB x.1/\SmEng x.1⟩
noncomputable def k_Crashi:Con:=.rmk r_Crash
noncomputable def b_Crashi:Code:=Tryz.f23.body.getD .skip
theorem call_Crashi:Callable Tryz.prog 23:=⟨_,Tryz.func23,by kernel_rfl,by kernel_rfl⟩
theorem v_Crashi(e:Eng)(K:List Int)(h:
  (decide ((K.length:Int)>(4096:Int))=true->((((0=0/\0=(craO e K).fst.s.d.sec.length)/\(0=0/\0=(craO e K).fst.s.d.cache.length)/\false=(craO e K).fst.s.d.armed/\(0=0/\0=(craO e K).fst.s.d.keep.length)/\(0
  :Int)=(craO e K).fst.s.ep/\(0=0/\0=(craO e K).fst.s.log.length)/\(0:Int)=(craO e K).fst.s.sure/\(0=0/\0=(craO e K).fst.s.fr.length)/\(0:Int)=(craO e K).fst.s.hand/\false=(craO e K).fst.up/\(0=0/\0=
  (craO e K).fst.txs.length)/\(0=0/\0=(craO e K).fst.lk.held.length)/\(0=0/\0=(craO e K).fst.lk.waits.length)/\(0:Int)=(craO e K).fst.next/\True)/\(2:Int)=(craO e K).snd/\True)/\True)/\(0=(craO e
  K).fst.s.d.sec.length/\RowsEq 0 (fun(x:Nat)=>[]) (strRow (craO e K).fst.s.d.sec))/\(0=(craO e K).fst.s.d.cache.length/\RowsEq 0 (fun(x:Nat)=>[]) (pendRow (craO e K).fst.s.d.cache))/\(0=(craO e
  K).fst.s.d.keep.length/\RowsEq 0 (fun(x:Nat)=>[]) (intRow (craO e K).fst.s.d.keep))/\(0=(craO e K).fst.s.log.length/\RowsEq 0 (fun(x:Nat)=>[]) (recRow (craO e K).fst.s.log))/\(0=0/\0=(craO e K).fst.s.fr.length
  /\FamEq 0 (fun(x:Nat)=>[]) (famRow (craO e K).fst.s.fr))/\(0=(craO e K).fst.txs.length/\RowsEq 0 (fun(x:Nat)=>[]) (txnRow (craO e K).fst.txs))/\(0=(craO e K).fst.lk.held.length/\RowsEq 0 (fun(x:Nat)=>[])
  (lckRow (craO e K).fst.lk.held))/\(0=(craO e K).fst.lk.waits.length/\RowsEq 0 (fun(x:Nat)=>[]) (wtRow (craO e K).fst.lk.waits))/\True)/\(decide ((K.length:Int)>(4096:Int))=false->∃(x:r_EngineOK.ι),(((EqG e x)
  /\True)/\EngB x)/\((!engOK x)=true->((((0=0/\0=(craO e K).fst.s.d.sec.length)/\(0=0/\0=(craO e K).fst.s.d.cache.length)/\false=(craO e K).fst.s.d.armed/\(0=0/\0=(craO e K).fst.s.d.keep.length)/\(0:Int)
  =(craO e K).fst.s.ep/\(0=0/\0=(craO e K).fst.s.log.length)/\(0:Int)=(craO e K).fst.s.sure/\(0=0/\0=(craO e K).fst.s.fr.length)/\(0:Int)=(craO e K).fst.s.hand/\false=(craO e K).fst.up/\(0=0/\0=(craO
  e K).fst.txs.length)/\(0=0/\0=(craO e K).fst.lk.held.length)/\(0=0/\0=(craO e K).fst.lk.waits.length)/\(0:Int)=(craO e K).fst.next/\True)/\(1:Int)=(craO e K).snd/\True)/\True)/\(0=(craO e
  K).fst.s.d.sec.length/\RowsEq 0 (fun(x:Nat)=>[]) (strRow (craO e K).fst.s.d.sec))/\(0=(craO e K).fst.s.d.cache.length/\RowsEq 0 (fun(x:Nat)=>[]) (pendRow (craO e K).fst.s.d.cache))/\(0=(craO e
  K).fst.s.d.keep.length/\RowsEq 0 (fun(x:Nat)=>[]) (intRow (craO e K).fst.s.d.keep))/\(0=(craO e K).fst.s.log.length/\RowsEq 0 (fun(x:Nat)=>[]) (recRow (craO e K).fst.s.log))/\(0=0/\0=(craO e K).fst.s.fr.length
  /\FamEq 0 (fun(x:Nat)=>[]) (famRow (craO e K).fst.s.fr))/\(0=(craO e K).fst.txs.length/\RowsEq 0 (fun(x:Nat)=>[]) (txnRow (craO e K).fst.txs))/\(0=(craO e K).fst.lk.held.length/\RowsEq 0 (fun(x:Nat)=>[])
  (lckRow (craO e K).fst.lk.held))/\(0=(craO e K).fst.lk.waits.length/\RowsEq 0 (fun(x:Nat)=>[]) (wtRow (craO e K).fst.lk.waits))/\True)/\((!engOK x)=false->∃(x:Eng),(((EqG e x)/\True)/\SmEng x)/\∃(x_1:(Eng×
  List Int×Nat)),(((0=0/\0=0)/\(EqL intRow K x_1.snd.fst)/\True)/\((1=1/\1=1/\EqCG x x_1.fst)/\EqHG (0) (x_1.snd.snd) x x_1.fst)/\SmD x_1.fst.s.d/\PdB x_1.fst.s.d/\x_1.snd.fst.length<=1048576/\DskP (crD
  x_1.fst.s.d x_1.snd.fst))/\∃(x:Eng),((Le (0+(stl x_1.fst.s.d.sec x_1.fst.s.d.cache (kp x_1.snd.fst) x_1.fst.s.d.cache.length).length) (stl x_1.fst.s.d.sec x_1.fst.s.d.cache (kp x_1.snd.fst) x_1.fst.s.d.cache.length).length
  /\Le 0 0/\Le 0 0/\Le (0+(lgL (crD x_1.fst.s.d x_1.snd.fst) (lgM (crD x_1.fst.s.d x_1.snd.fst) x_1.fst.s.ep)).length) (lgL (crD x_1.fst.s.d x_1.snd.fst) (lgM (crD x_1.fst.s.d x_1.snd.fst) x_1.fst.s.ep)).length/\Le 0 0/\Le 0 0
  /\Le 0 0/\Le 0 0)/\(((EqL strRow (stl x_1.fst.s.d.sec x_1.fst.s.d.cache (kp x_1.snd.fst) x_1.fst.s.d.cache.length) x.s.d.sec)/\(0=x.s.d.cache.length/\RowsEq 0 (pendRow []) (pendRow x.s.d.cache))/\false=x.s.d.armed/\(0=
  x.s.d.keep.length/\RowsEq 0 (intRow []) (intRow x.s.d.keep))/\x_1.fst.s.ep=x.s.ep/\(EqL recRow (lgL (crD x_1.fst.s.d x_1.snd.fst) (lgM (crD x_1.fst.s.d x_1.snd.fst) x_1.fst.s.ep)) x.s.log)/\(↑(lgM (crD x_1.fst.s.d
  x_1.snd.fst) x_1.fst.s.ep):Int)=x.s.sure/\(0=x.s.fr.length/\RowsEq 0 (frzR (famRow [])) (frmRow x.s.fr))/\(0:Int)=x.s.hand/\false=x.up/\(0=x.txs.length/\RowsEq 0 (txnRow []) (txnRow x.txs))/\(0=
  x.lk.held.length/\RowsEq 0 (lckRow []) (lckRow x.lk.held))/\(0=x.lk.waits.length/\RowsEq 0 (wtRow []) (wtRow x.lk.waits))/\x_1.fst.next=x.next/\True)/\True)/\SmEng x)/\(((EqCG x (craO e K).fst)/\(0:Int)=(craO e
  K).snd/\True)/\True)/\EqHG (0) (0) x (craO e K).fst))):
  EffFn Tryz.prog 23 [.agg e.ts,intS K] [] (.tup [.agg ((craO e K).1.tm 0),.int .i64 (craO e K).2]) ((craO e K).1.hp 0):=
 vcG (code:=b_Crashi) (gC EngineOKi_ok call_EngineOKi (gC clEng_ok call_clEng (gC crashE_ok call_crashE gN))) Tryz.func23 (by kernel_rfl) (by kernel_rfl) noAnn [[.nilS 0 [0,0] 0 1,.nilS 0 [0,1] 0 2,.nilS 0 [0,3] 0 1,.nilS 0 [0,5] 0 10,.nilS 0 [0,7] 0 5,.nilS 0 [0,10] 0 2,.nilS 0 [0,11] 0 4,.nilS 0 [0,12] 0 2,.fav 0 [0,7],.vl 0 [0,0],.vl 0 [0,1],.vl 0 [0,3],.vl 0 [0,5],.vl 0 [0,7],.vl 0 [0,10],.vl 0 [0,11],.vl 0 [0,12]],[.vl 0 [0,0],.vl 0 [0,1],.vl 0 [0,3],.vl 0 [0,5],.vl 0 [0,7],.vl 0 [0,10],.vl 0 [0,11],.vl 0 [0,12]]] h (by kernel_rfl)
theorem cra1{e:Eng}{K:List Int}(h:decide ((K.length:Int)>4096)=true):craO e K=(engE,2):=by unfold craO;rw[if_pos (by have:=of_decide_eq_true h;omega)]
theorem cra2{e:Eng}{K:List Int}(h:decide ((K.length:Int)>4096)=false)(hs:(!engOK e)=true):craO e K=(engE,1):=by unfold craO;rw[if_neg (by have:=of_decide_eq_false h;omega),if_neg (by simpa using hs)]
theorem cra3{e:Eng}{K:List Int}(h:decide ((K.length:Int)>4096)=false)(hs:(!engOK e)=false):craO e K=(craE e K,0):=by unfold craO;rw[if_neg (by have:=of_decide_eq_false h;omega),if_pos (by simpa using hs)]
theorem Crashi_ok:ConOk Tryz.prog 23 k_Crashi:=by
 rintro⟨e,K⟩ ⟨h1,h2⟩;dsimp only at h1 h2;refine⟨v_Crashi e K ⟨fun hq=> ?_,fun hq=>⟨e,⟨⟨eqG _,trivial⟩,h1⟩,fun hs=> ?_,fun hs=> ?_⟩⟩,rfl,plain_eng _ 0⟩
 ·rw[cra1 hq];exact⟨⟨⟨⟨⟨rfl,rfl⟩,⟨rfl,rfl⟩,rfl,⟨rfl,rfl⟩,rfl,⟨rfl,rfl⟩,rfl,⟨rfl,rfl⟩,rfl,rfl,⟨rfl,rfl⟩,⟨rfl,rfl⟩,⟨rfl,rfl⟩,rfl,trivial⟩,rfl,trivial⟩,trivial⟩,⟨rfl,row0⟩,⟨rfl,row0⟩,⟨rfl,row0⟩,⟨rfl,row0⟩,⟨rfl,rfl,fun i hi=>absurd hi (Nat.not_lt_zero _)⟩,⟨rfl,row0⟩,⟨rfl,row0⟩,⟨rfl,row0⟩,trivial⟩
 ·rw[cra2 hq hs];exact⟨⟨⟨⟨⟨rfl,rfl⟩,⟨rfl,rfl⟩,rfl,⟨rfl,rfl⟩,rfl,⟨rfl,rfl⟩,rfl,⟨rfl,rfl⟩,rfl,rfl,⟨rfl,rfl⟩,⟨rfl,rfl⟩,⟨rfl,rfl⟩,rfl,trivial⟩,rfl,trivial⟩,trivial⟩,⟨rfl,row0⟩,⟨rfl,row0⟩,⟨rfl,row0⟩,⟨rfl,row0⟩,⟨rfl,rfl,fun i hi=>absurd hi (Nat.not_lt_zero _)⟩,⟨rfl,row0⟩,⟨rfl,row0⟩,⟨rfl,row0⟩,trivial⟩
 ·have ho:engOK e=true:=by simpa using hs
  have hd:=(eng_dsk ho).1;rw[cra3 hq hs];exact⟨e,⟨⟨eqG _,trivial⟩,h2⟩,(e,K,0),⟨⟨⟨rfl,rfl⟩,⟨rfl,rowsR _ _⟩,trivial⟩,⟨⟨rfl,rfl,⟨rfl,rfl⟩,⟨rfl,rfl⟩,rfl,⟨rfl,rfl⟩,rfl,⟨rfl,rfl⟩,rfl,⟨rfl,rfl⟩,rfl,rfl,⟨rfl,rfl⟩,⟨rfl,rfl⟩,⟨rfl,rfl⟩,rfl,trivial⟩,⟨rfl,rowsR _ _⟩,⟨rfl,rowsR _ _⟩,⟨rfl,rowsR _ _⟩,⟨rfl,rowsR _ _⟩,⟨rfl,rfl,famR _⟩,⟨rfl,rowsR _ _⟩,⟨rfl,rowsR _ _⟩,⟨rfl,rowsR _ _⟩,trivial⟩,h2.1.1,dsk_pd hd,by have:=of_decide_eq_false hq;dsimp only;omega,dsk_cr hd K⟩,craE e K,⟨⟨le0 _,Nat.le_refl _,Nat.le_refl _,le0 _,Nat.le_refl _,Nat.le_refl _,Nat.le_refl _,Nat.le_refl _⟩,⟨⟨⟨rfl,rowsR _ _⟩,⟨rfl,rowsR _ _⟩,rfl,⟨rfl,rowsR _ _⟩,rfl,⟨rfl,rowsR _ _⟩,rfl,⟨rfl,fun _ _=>rfl⟩,rfl,rfl,⟨rfl,rowsR _ _⟩,⟨rfl,rowsR _ _⟩,⟨rfl,rowsR _ _⟩,rfl,trivial⟩,trivial⟩,sm_cra h2 ho⟩,⟨⟨⟨⟨rfl,rfl⟩,⟨rfl,rfl⟩,rfl,⟨rfl,rfl⟩,rfl,⟨rfl,rfl⟩,rfl,⟨rfl,rfl⟩,rfl,rfl,⟨rfl,rfl⟩,⟨rfl,rfl⟩,⟨rfl,rfl⟩,rfl,trivial⟩,rfl,trivial⟩,trivial⟩,⟨rfl,rowsR _ _⟩,⟨rfl,rowsR _ _⟩,⟨rfl,rowsR _ _⟩,⟨rfl,rowsR _ _⟩,⟨rfl,rfl,famR _⟩,⟨rfl,rowsR _ _⟩,⟨rfl,rowsR _ _⟩,⟨rfl,rowsR _ _⟩,trivial⟩
noncomputable def k_Crashs:Con:=.rfz ⟨Eng×List Int,fun x=>[.agg x.1.ts,intS x.2],fun x=>.tup [.agg (craO x.1 x.2).1.ts,.int .i64 (craO x.1 x.2).2],fun x=>EngB x.1/\SmEng x.1⟩
noncomputable def b_Crashs:Code:=Tryz.f22.body.getD .skip
theorem call_Crashs:Callable Tryz.prog 22:=⟨_,Tryz.func22,by kernel_rfl,by kernel_rfl⟩
theorem v_Crashs(e:Eng)(K:List Int)(h:
  (decide ((K.length:Int)>(4096:Int))=true->((craO e K).fst.s.d.sec.length=0/\(craO e K).fst.s.d.cache.length=0/\false=(craO e K).fst.s.d.armed/\(craO e K).fst.s.d.keep.length=0/\(0:Int)=(craO e K).fst.s.ep/\
  (craO e K).fst.s.log.length=0/\(0:Int)=(craO e K).fst.s.sure/\(craO e K).fst.s.fr.length=0/\(0:Int)=(craO e K).fst.s.hand/\false=(craO e K).fst.up/\(craO e K).fst.txs.length=0/\(craO e K).fst.lk.held.length=
  0/\(craO e K).fst.lk.waits.length=0/\(0:Int)=(craO e K).fst.next/\True)/\(2:Int)=(craO e K).snd/\True)/\(decide ((K.length:Int)>(4096:Int))=false->∃(x:r_EngineOK.ι),(((EqG e x)/\True)/\EngB x)/\
  ((!engOK x)=true->((craO e K).fst.s.d.sec.length=0/\(craO e K).fst.s.d.cache.length=0/\false=(craO e K).fst.s.d.armed/\(craO e K).fst.s.d.keep.length=0/\(0:Int)=(craO e K).fst.s.ep/\(craO e K).fst.s.log.length
  =0/\(0:Int)=(craO e K).fst.s.sure/\(craO e K).fst.s.fr.length=0/\(0:Int)=(craO e K).fst.s.hand/\false=(craO e K).fst.up/\(craO e K).fst.txs.length=0/\(craO e K).fst.lk.held.length=0/\(craO e
  K).fst.lk.waits.length=0/\(0:Int)=(craO e K).fst.next/\True)/\(1:Int)=(craO e K).snd/\True)/\((!engOK x)=false->∃(x:(Dsk×List Int)),(((EqD e.s.d x.fst)/\(EqL intRow K x.snd)/\True)/\SmD x.fst/\PdB
  x.fst)/\∃(x_1:(Eng×Dsk)),(((EqG e x_1.fst)/\((EqL strRow (stl x.fst.sec x.fst.cache (kp x.snd) x.fst.cache.length) x_1.snd.sec)/\(0=x_1.snd.cache.length/\RowsEq 0 (pendRow []) (pendRow x_1.snd.cache))/\false=
  x_1.snd.armed/\(0=x_1.snd.keep.length/\RowsEq 0 (intRow []) (intRow x_1.snd.keep))/\True)/\True)/\DskP x_1.snd/\x_1.snd.sec.length=69)/\∃(x:Eng),((((EqL strRow x_1.snd.sec x.s.d.sec)/\(EqL pendRow x_1.snd.cache
  x.s.d.cache)/\x_1.snd.armed=x.s.d.armed/\(EqL intRow x_1.snd.keep x.s.d.keep)/\x_1.fst.s.ep=x.s.ep/\(EqL recRow (lgL x_1.snd (lgM x_1.snd x_1.fst.s.ep)) x.s.log)/\(↑(lgM x_1.snd x_1.fst.s.ep):Int)=x.s.sure/\(0=
  x.s.fr.length/\RowsEq 0 (frmRow []) (frmRow x.s.fr))/\(0:Int)=x.s.hand/\false=x.up/\(0=x.txs.length/\RowsEq 0 (txnRow []) (txnRow x.txs))/\(0=x.lk.held.length/\RowsEq 0 (lckRow []) (lckRow x.lk.held))/\(0=
  x.lk.waits.length/\RowsEq 0 (wtRow []) (wtRow x.lk.waits))/\x_1.fst.next=x.next/\True)/\True)/\SmEng x)/\(EqG x (craO e K).fst)/\(0:Int)=(craO e K).snd/\True))):
  PureFn Tryz.prog 22 [.agg e.ts,intS K] (.tup [.agg (craO e K).1.ts,.int .i64 (craO e K).2]):=
 vcR (code:=b_Crashs) (gC EngineOKs_ok call_EngineOKs (gC l02Crash_ok call_l02Crash (gC l07Down_ok call_l07Down (gC l07Own_ok call_l07Own gN)))) Tryz.func22 (by kernel_rfl) (by kernel_rfl) noAnn h (by kernel_rfl)
theorem Crashs_ok:ConOk Tryz.prog 22 k_Crashs:=by
 rintro⟨e,K⟩ ⟨h1,h2⟩;dsimp only at h1 h2;refine v_Crashs e K ⟨fun hq=> ?_,fun hq=>⟨e,⟨⟨eqG _,trivial⟩,h1⟩,fun hs=> ?_,fun hs=> ?_⟩⟩
 ·rw[cra1 hq];exact⟨⟨rfl,rfl,rfl,rfl,rfl,rfl,rfl,rfl,rfl,rfl,rfl,rfl,rfl,rfl,trivial⟩,rfl,trivial⟩
 ·rw[cra2 hq hs];exact⟨⟨rfl,rfl,rfl,rfl,rfl,rfl,rfl,rfl,rfl,rfl,rfl,rfl,rfl,rfl,trivial⟩,rfl,trivial⟩
 ·have ho:engOK e=true:=by simpa using hs
  obtain⟨hd,h69⟩:=eng_dsk ho;rw[cra3 hq hs];exact⟨(e.s.d,K),⟨⟨eqD _,⟨rfl,rowsR _ _⟩,trivial⟩,h2.1.1,dsk_pd hd⟩,(e,crD e.s.d K),⟨⟨eqG _,eqD (crD e.s.d K),trivial⟩,dsk_cr hd K,(stl_len _ _ _ _).trans h69⟩,craE e K,⟨⟨eqG (craE e K),trivial⟩,sm_cra h2 ho⟩,eqG _,rfl,trivial⟩
end Go.Proofs.YtokaojbaacnngaaGreat

