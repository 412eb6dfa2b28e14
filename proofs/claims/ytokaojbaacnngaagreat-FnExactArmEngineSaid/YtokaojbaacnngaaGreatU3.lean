/- A part of the proof. -/
import Derived.Test.YtokaojbaacnngaaGreatU1U2
import Derived.Test.YtokaojbaacnngaaGreatW7
namespace Go.Proofs.YtokaojbaacnngaaGreat
set_option maxRecDepth 100000
open Go.SS

def Eng.tn(e:Eng)(a b c d f g h i:Nat):List T:=[.osl a 0 e.s.d.sec.length,.osl b 0 e.s.d.cache.length,.bool e.s.d.armed,.osl c 0 e.s.d.keep.length,.int .i64 e.s.ep,.osl d 0 e.s.log.length,.int .i64 e.s.sure,.osl f 0 e.s.fr.length,.int .i64 e.s.hand,.bool e.up,.osl g 0 e.txs.length,.osl h 0 e.lk.held.length,.osl i 0 e.lk.waits.length,.int .i64 e.next]
def engBx(l:List T):Option Ob:=some (.arr false 1000000 14 1 fun _=>l)
def Eng.bx(e:Eng)(v:Nat):Heap:=[engBx (e.tn 1 2 3 4 5 6 7 8),strA e.s.d.sec,pendA e.s.d.cache,intA e.s.d.keep,recA e.s.log,famA v e.s.fr e.s.fr.length,txnA e.txs,lckA e.lk.held,wtA e.lk.waits]
def Eng.nx(e:Eng)(v:Nat):Heap:=[engBx (e.tn 9 10 11 12 13 14 15 16),none,none,none,none,none,none,none,none,strA e.s.d.sec,pendA e.s.d.cache,intA e.s.d.keep,recA e.s.log,famA v e.s.fr e.s.fr.length,txnA e.txs,lckA e.lk.held,wtA e.lk.waits]
def engE:Eng:=⟨stoE,false,[],⟨[],[]⟩,0⟩
def arS(e:Eng)(K:List Int):Eng:={e with s:={e.s with d:={e.s.d with armed:=true,keep:=K}}}
def k_arm:Con:=.reff ⟨Eng×List Int×Nat,fun x=>[.ref 0 0 0,intS x.2.1],fun x=>x.1.bx x.2.2,fun _=>.tup [],fun x=>(arS x.1 x.2.1).nx x.2.2,fun x=>x.2.1.length<=1048576⟩
noncomputable def b_arm:Code:=Tryz.f43.body.getD .skip
theorem call_arm:Callable Tryz.prog 43:=⟨_,Tryz.func43,by kernel_rfl,by kernel_rfl⟩
theorem v_arm(e:Eng)(K:List Int)(v:Nat)(h:
  ∃(x:(List Int)),(((K.length=List.length x/\RowsEq K.length (intRow K) (intRow x))/\True)/\List.length x<=1048576)/\(True/\True)/\(1=1/\1=1/\(0=0/\e.s.d.sec.length=e.s.d.sec.length)/\(0=0/\
  e.s.d.cache.length=e.s.d.cache.length)/\true=true/\(0=0/\List.length x=K.length)/\e.s.ep=e.s.ep/\(0=0/\e.s.log.length=e.s.log.length)/\e.s.sure=e.s.sure/\(0=0/\e.s.fr.length=e.s.fr.length)/\e.s.hand=
  e.s.hand/\e.up=e.up/\(0=0/\e.txs.length=e.txs.length)/\(0=0/\e.lk.held.length=e.lk.held.length)/\(0=0/\e.lk.waits.length=e.lk.waits.length)/\e.next=e.next/\True)/\True/\True/\True/\True/\True/\True/\
  True/\True/\(EqL strRow e.s.d.sec e.s.d.sec)/\(EqL pendRow e.s.d.cache e.s.d.cache)/\(List.length x=K.length/\RowsEq (List.length x) (intRow x) (intRow K))/\(EqL recRow e.s.log e.s.log)/\(v=v/\e.s.fr.length=
  e.s.fr.length/\FamEq e.s.fr.length (famRow e.s.fr) (famRow e.s.fr))/\(EqL txnRow e.txs e.txs)/\(EqL lckRow e.lk.held e.lk.held)/\(EqL wtRow e.lk.waits e.lk.waits)/\True):
  EffFn Tryz.prog 43 [.ref 0 0 0,intS K] (e.bx v) (.tup []) ((arS e K).nx v):=
 vcG (code:=b_arm) (gC clInt_ok call_clInt gN) Tryz.func43 (by kernel_rfl) (by kernel_rfl) noAnn [[.box 0,.arr 1,.arr 2,.arr 3,.arr 4,.arr 5,.arr 6,.arr 7,.arr 8,.cel 0 0,.cel 0 1,.cel 0 3,.cel 0 5,.cel 0 7,.cel 0 10,.cel 0 11,.cel 0 12]] h (by kernel_rfl)
theorem arm_ok:ConOk Tryz.prog 43 k_arm:=by
 rintro⟨e,K,v⟩ (h:K.length<=1048576);exact v_arm e K v ⟨K,⟨⟨⟨rfl,rowsR _ _⟩,trivial⟩,h⟩,⟨trivial,trivial⟩,⟨rfl,rfl,⟨rfl,rfl⟩,⟨rfl,rfl⟩,rfl,⟨rfl,rfl⟩,rfl,⟨rfl,rfl⟩,rfl,⟨rfl,rfl⟩,rfl,rfl,⟨rfl,rfl⟩,⟨rfl,rfl⟩,⟨rfl,rfl⟩,rfl,trivial⟩,trivial,trivial,trivial,trivial,trivial,trivial,trivial,trivial,⟨rfl,rowsR _ _⟩,⟨rfl,rowsR _ _⟩,⟨rfl,rowsR _ _⟩,⟨rfl,rowsR _ _⟩,⟨rfl,rfl,famR _⟩,⟨rfl,rowsR _ _⟩,⟨rfl,rowsR _ _⟩,⟨rfl,rowsR _ _⟩,trivial⟩
noncomputable def armE(e:Eng)(K:List Int):Eng×Int:=if K.length>4096 then(engE,2) else if engOK e=true then(if K.length>500 then(engE,6) else(arS e K,0)) else(engE,1)
noncomputable def r_ArmEngine:Rle:=⟨Eng×List Int,fun x=>[.agg x.1.ts,intS x.2],fun _=>[],fun x=>.tup [.agg ((armE x.1 x.2).1.tm 0),.int .i64 (armE x.1 x.2).2],fun x=>(armE x.1 x.2).1.hp 0,fun x=>EngB x.1/\SmEng x.1⟩
noncomputable def k_ArmEnginei:Con:=.rmk r_ArmEngine
noncomputable def b_ArmEnginei:Code:=Tryz.f14.body.getD .skip
theorem call_ArmEnginei:Callable Tryz.prog 14:=⟨_,Tryz.func14,by kernel_rfl,by kernel_rfl⟩
theorem v_ArmEnginei(e:Eng)(K:List Int)(h:
  (decide ((K.length:Int)>(4096:Int))=true->((((0=0/\0=(armE e K).fst.s.d.sec.length)/\(0=0/\0=(armE e K).fst.s.d.cache.length)/\false=(armE e K).fst.s.d.armed/\(0=0/\0=(armE e K).fst.s.d.keep.length)/\(0
  :Int)=(armE e K).fst.s.ep/\(0=0/\0=(armE e K).fst.s.log.length)/\(0:Int)=(armE e K).fst.s.sure/\(0=0/\0=(armE e K).fst.s.fr.length)/\(0:Int)=(armE e K).fst.s.hand/\false=(armE e K).fst.up/\(0=0/\0=
  (armE e K).fst.txs.length)/\(0=0/\0=(armE e K).fst.lk.held.length)/\(0=0/\0=(armE e K).fst.lk.waits.length)/\(0:Int)=(armE e K).fst.next/\True)/\(2:Int)=(armE e K).snd/\True)/\True)/\(0=(armE e
  K).fst.s.d.sec.length/\RowsEq 0 (fun(x:Nat)=>[]) (strRow (armE e K).fst.s.d.sec))/\(0=(armE e K).fst.s.d.cache.length/\RowsEq 0 (fun(x:Nat)=>[]) (pendRow (armE e K).fst.s.d.cache))/\(0=(armE e
  K).fst.s.d.keep.length/\RowsEq 0 (fun(x:Nat)=>[]) (intRow (armE e K).fst.s.d.keep))/\(0=(armE e K).fst.s.log.length/\RowsEq 0 (fun(x:Nat)=>[]) (recRow (armE e K).fst.s.log))/\(0=0/\0=(armE e K).fst.s.fr.length
  /\FamEq 0 (fun(x:Nat)=>[]) (famRow (armE e K).fst.s.fr))/\(0=(armE e K).fst.txs.length/\RowsEq 0 (fun(x:Nat)=>[]) (txnRow (armE e K).fst.txs))/\(0=(armE e K).fst.lk.held.length/\RowsEq 0 (fun(x:Nat)=>[])
  (lckRow (armE e K).fst.lk.held))/\(0=(armE e K).fst.lk.waits.length/\RowsEq 0 (fun(x:Nat)=>[]) (wtRow (armE e K).fst.lk.waits))/\True)/\(decide ((K.length:Int)>(4096:Int))=false->∃(x:r_EngineOK.ι),(((EqG e x)
  /\True)/\EngB x)/\((!engOK x)=true->((((0=0/\0=(armE e K).fst.s.d.sec.length)/\(0=0/\0=(armE e K).fst.s.d.cache.length)/\false=(armE e K).fst.s.d.armed/\(0=0/\0=(armE e K).fst.s.d.keep.length)/\(0:Int)
  =(armE e K).fst.s.ep/\(0=0/\0=(armE e K).fst.s.log.length)/\(0:Int)=(armE e K).fst.s.sure/\(0=0/\0=(armE e K).fst.s.fr.length)/\(0:Int)=(armE e K).fst.s.hand/\false=(armE e K).fst.up/\(0=0/\0=(armE
  e K).fst.txs.length)/\(0=0/\0=(armE e K).fst.lk.held.length)/\(0=0/\0=(armE e K).fst.lk.waits.length)/\(0:Int)=(armE e K).fst.next/\True)/\(1:Int)=(armE e K).snd/\True)/\True)/\(0=(armE e
  K).fst.s.d.sec.length/\RowsEq 0 (fun(x:Nat)=>[]) (strRow (armE e K).fst.s.d.sec))/\(0=(armE e K).fst.s.d.cache.length/\RowsEq 0 (fun(x:Nat)=>[]) (pendRow (armE e K).fst.s.d.cache))/\(0=(armE e
  K).fst.s.d.keep.length/\RowsEq 0 (fun(x:Nat)=>[]) (intRow (armE e K).fst.s.d.keep))/\(0=(armE e K).fst.s.log.length/\RowsEq 0 (fun(x:Nat)=>[]) (recRow (armE e K).fst.s.log))/\(0=0/\0=(armE e K).fst.s.fr.length
  /\FamEq 0 (fun(x:Nat)=>[]) (famRow (armE e K).fst.s.fr))/\(0=(armE e K).fst.txs.length/\RowsEq 0 (fun(x:Nat)=>[]) (txnRow (armE e K).fst.txs))/\(0=(armE e K).fst.lk.held.length/\RowsEq 0 (fun(x:Nat)=>[])
  (lckRow (armE e K).fst.lk.held))/\(0=(armE e K).fst.lk.waits.length/\RowsEq 0 (fun(x:Nat)=>[]) (wtRow (armE e K).fst.lk.waits))/\True)/\((!engOK x)=false->(decide ((K.length:Int)>(500:Int))=true->((((0=0/\0
  =(armE e K).fst.s.d.sec.length)/\(0=0/\0=(armE e K).fst.s.d.cache.length)/\false=(armE e K).fst.s.d.armed/\(0=0/\0=(armE e K).fst.s.d.keep.length)/\(0:Int)=(armE e K).fst.s.ep/\(0=0/\0=(armE e
  K).fst.s.log.length)/\(0:Int)=(armE e K).fst.s.sure/\(0=0/\0=(armE e K).fst.s.fr.length)/\(0:Int)=(armE e K).fst.s.hand/\false=(armE e K).fst.up/\(0=0/\0=(armE e K).fst.txs.length)/\(0=0/\0=(armE e
  K).fst.lk.held.length)/\(0=0/\0=(armE e K).fst.lk.waits.length)/\(0:Int)=(armE e K).fst.next/\True)/\(6:Int)=(armE e K).snd/\True)/\True)/\(0=(armE e K).fst.s.d.sec.length/\RowsEq 0 (fun(x:Nat)=>[])
  (strRow (armE e K).fst.s.d.sec))/\(0=(armE e K).fst.s.d.cache.length/\RowsEq 0 (fun(x:Nat)=>[]) (pendRow (armE e K).fst.s.d.cache))/\(0=(armE e K).fst.s.d.keep.length/\RowsEq 0 (fun(x:Nat)=>[]) (intRow (armE e
  K).fst.s.d.keep))/\(0=(armE e K).fst.s.log.length/\RowsEq 0 (fun(x:Nat)=>[]) (recRow (armE e K).fst.s.log))/\(0=0/\0=(armE e K).fst.s.fr.length/\FamEq 0 (fun(x:Nat)=>[]) (famRow (armE e K).fst.s.fr))/\(0=
  (armE e K).fst.txs.length/\RowsEq 0 (fun(x:Nat)=>[]) (txnRow (armE e K).fst.txs))/\(0=(armE e K).fst.lk.held.length/\RowsEq 0 (fun(x:Nat)=>[]) (lckRow (armE e K).fst.lk.held))/\(0=(armE e K).fst.lk.waits.length/\
  RowsEq 0 (fun(x:Nat)=>[]) (wtRow (armE e K).fst.lk.waits))/\True)/\(decide ((K.length:Int)>(500:Int))=false->∃(x:Eng),(((EqG e x)/\True)/\SmEng x)/\∃(x_1:(Eng×List Int×Nat)),(((0=0/\0=0)/\(EqL
  intRow K x_1.snd.fst)/\True)/\((1=1/\1=1/\EqCG x x_1.fst)/\EqHG (0) (x_1.snd.snd) x x_1.fst)/\x_1.snd.fst.length<=1048576)/\((((0=0/\x_1.fst.s.d.sec.length=(armE e K).fst.s.d.sec.length)/\(0=0/\
  x_1.fst.s.d.cache.length=(armE e K).fst.s.d.cache.length)/\true=(armE e K).fst.s.d.armed/\(0=0/\x_1.snd.fst.length=(armE e K).fst.s.d.keep.length)/\x_1.fst.s.ep=(armE e K).fst.s.ep/\(0=0/\x_1.fst.s.log.length=
  (armE e K).fst.s.log.length)/\x_1.fst.s.sure=(armE e K).fst.s.sure/\(0=0/\x_1.fst.s.fr.length=(armE e K).fst.s.fr.length)/\x_1.fst.s.hand=(armE e K).fst.s.hand/\x_1.fst.up=(armE e K).fst.up/\(0=0/\
  x_1.fst.txs.length=(armE e K).fst.txs.length)/\(0=0/\x_1.fst.lk.held.length=(armE e K).fst.lk.held.length)/\(0=0/\x_1.fst.lk.waits.length=(armE e K).fst.lk.waits.length)/\x_1.fst.next=(armE e K).fst.next/\True)/\
  (0:Int)=(armE e K).snd/\True)/\True)/\(EqL strRow x_1.fst.s.d.sec (armE e K).fst.s.d.sec)/\(EqL pendRow x_1.fst.s.d.cache (armE e K).fst.s.d.cache)/\(EqL intRow x_1.snd.fst (armE e K).fst.s.d.keep)/\(EqL recRow
  x_1.fst.s.log (armE e K).fst.s.log)/\(x_1.snd.snd=0/\x_1.fst.s.fr.length=(armE e K).fst.s.fr.length/\FamEq x_1.fst.s.fr.length (famRow x_1.fst.s.fr) (famRow (armE e K).fst.s.fr))/\(EqL txnRow x_1.fst.txs (armE e
  K).fst.txs)/\(EqL lckRow x_1.fst.lk.held (armE e K).fst.lk.held)/\(EqL wtRow x_1.fst.lk.waits (armE e K).fst.lk.waits)/\True)))):
  EffFn Tryz.prog 14 [.agg e.ts,intS K] [] (.tup [.agg ((armE e K).1.tm 0),.int .i64 (armE e K).2]) ((armE e K).1.hp 0):=
 vcG (code:=b_ArmEnginei) (gC EngineOKi_ok call_EngineOKi (gC clEng_ok call_clEng (gC arm_ok call_arm gN))) Tryz.func14 (by kernel_rfl) (by kernel_rfl) noAnn [[.nilS 0 [0,0] 0 1,.nilS 0 [0,1] 0 2,.nilS 0 [0,3] 0 1,.nilS 0 [0,5] 0 10,.nilS 0 [0,7] 0 5,.nilS 0 [0,10] 0 2,.nilS 0 [0,11] 0 4,.nilS 0 [0,12] 0 2,.fav 0 [0,7],.vl 0 [0,0],.vl 0 [0,1],.vl 0 [0,3],.vl 0 [0,5],.vl 0 [0,7],.vl 0 [0,10],.vl 0 [0,11],.vl 0 [0,12]],[.vl 0 [0,0],.vl 0 [0,1],.vl 0 [0,3],.vl 0 [0,5],.vl 0 [0,7],.vl 0 [0,10],.vl 0 [0,11],.vl 0 [0,12]]] h (by kernel_rfl)
theorem arm1{e:Eng}{K:List Int}(h:decide ((K.length:Int)>4096)=true):armE e K=(engE,2):=by unfold armE;rw[if_pos (by have:=of_decide_eq_true h;omega)]
theorem arm2{e:Eng}{K:List Int}(h:decide ((K.length:Int)>4096)=false)(hs:(!engOK e)=true):armE e K=(engE,1):=by unfold armE;rw[if_neg (by have:=of_decide_eq_false h;omega),if_neg (by simpa using hs)]
theorem arm3{e:Eng}{K:List Int}(h:decide ((K.length:Int)>4096)=false)(hs:(!engOK e)=false)(hk:decide ((K.length:Int)>500)=true):armE e K=(engE,6):=by unfold armE;rw[if_neg (by have:=of_decide_eq_false h;omega),if_pos (by simpa using hs),if_pos (by have:=of_decide_eq_true hk;omega)]
theorem arm4{e:Eng}{K:List Int}(h:decide ((K.length:Int)>4096)=false)(hs:(!engOK e)=false)(hk:decide ((K.length:Int)>500)=false):armE e K=(arS e K,0):=by unfold armE;rw[if_neg (by have:=of_decide_eq_false h;omega),if_pos (by simpa using hs),if_neg (by have:=of_decide_eq_false hk;omega)]
theorem ArmEnginei_ok:ConOk Tryz.prog 14 k_ArmEnginei:=by
 rintro⟨e,K⟩ ⟨h1,h2⟩;dsimp only at h1 h2;refine⟨v_ArmEnginei e K ⟨fun hq=> ?_,fun hq=>⟨e,⟨⟨eqG _,trivial⟩,h1⟩,fun hs=> ?_,fun hs=>⟨fun hk=> ?_,fun hk=>⟨e,⟨⟨eqG _,trivial⟩,h2⟩,(e,K,0),⟨⟨⟨rfl,rfl⟩,⟨rfl,rowsR _ _⟩,trivial⟩,⟨⟨rfl,rfl,⟨rfl,rfl⟩,⟨rfl,rfl⟩,rfl,⟨rfl,rfl⟩,rfl,⟨rfl,rfl⟩,rfl,⟨rfl,rfl⟩,rfl,rfl,⟨rfl,rfl⟩,⟨rfl,rfl⟩,⟨rfl,rfl⟩,rfl,trivial⟩,⟨rfl,rowsR _ _⟩,⟨rfl,rowsR _ _⟩,⟨rfl,rowsR _ _⟩,⟨rfl,rowsR _ _⟩,⟨rfl,rfl,famR _⟩,⟨rfl,rowsR _ _⟩,⟨rfl,rowsR _ _⟩,⟨rfl,rowsR _ _⟩,trivial⟩,by have:=of_decide_eq_false hk;dsimp only;omega⟩,?_⟩⟩⟩⟩,rfl,plain_eng _ 0⟩
 ·rw[arm1 hq];exact⟨⟨⟨⟨⟨rfl,rfl⟩,⟨rfl,rfl⟩,rfl,⟨rfl,rfl⟩,rfl,⟨rfl,rfl⟩,rfl,⟨rfl,rfl⟩,rfl,rfl,⟨rfl,rfl⟩,⟨rfl,rfl⟩,⟨rfl,rfl⟩,rfl,trivial⟩,rfl,trivial⟩,trivial⟩,⟨rfl,row0⟩,⟨rfl,row0⟩,⟨rfl,row0⟩,⟨rfl,row0⟩,⟨rfl,rfl,fun i hi=>absurd hi (Nat.not_lt_zero _)⟩,⟨rfl,row0⟩,⟨rfl,row0⟩,⟨rfl,row0⟩,trivial⟩
 ·rw[arm2 hq hs];exact⟨⟨⟨⟨⟨rfl,rfl⟩,⟨rfl,rfl⟩,rfl,⟨rfl,rfl⟩,rfl,⟨rfl,rfl⟩,rfl,⟨rfl,rfl⟩,rfl,rfl,⟨rfl,rfl⟩,⟨rfl,rfl⟩,⟨rfl,rfl⟩,rfl,trivial⟩,rfl,trivial⟩,trivial⟩,⟨rfl,row0⟩,⟨rfl,row0⟩,⟨rfl,row0⟩,⟨rfl,row0⟩,⟨rfl,rfl,fun i hi=>absurd hi (Nat.not_lt_zero _)⟩,⟨rfl,row0⟩,⟨rfl,row0⟩,⟨rfl,row0⟩,trivial⟩
 ·rw[arm3 hq hs hk];exact⟨⟨⟨⟨⟨rfl,rfl⟩,⟨rfl,rfl⟩,rfl,⟨rfl,rfl⟩,rfl,⟨rfl,rfl⟩,rfl,⟨rfl,rfl⟩,rfl,rfl,⟨rfl,rfl⟩,⟨rfl,rfl⟩,⟨rfl,rfl⟩,rfl,trivial⟩,rfl,trivial⟩,trivial⟩,⟨rfl,row0⟩,⟨rfl,row0⟩,⟨rfl,row0⟩,⟨rfl,row0⟩,⟨rfl,rfl,fun i hi=>absurd hi (Nat.not_lt_zero _)⟩,⟨rfl,row0⟩,⟨rfl,row0⟩,⟨rfl,row0⟩,trivial⟩
 ·rw[arm4 hq hs hk];exact⟨⟨⟨⟨⟨rfl,rfl⟩,⟨rfl,rfl⟩,rfl,⟨rfl,rfl⟩,rfl,⟨rfl,rfl⟩,rfl,⟨rfl,rfl⟩,rfl,rfl,⟨rfl,rfl⟩,⟨rfl,rfl⟩,⟨rfl,rfl⟩,rfl,trivial⟩,rfl,trivial⟩,trivial⟩,⟨rfl,rowsR _ _⟩,⟨rfl,rowsR _ _⟩,⟨rfl,rowsR _ _⟩,⟨rfl,rowsR _ _⟩,⟨rfl,rfl,famR _⟩,⟨rfl,rowsR _ _⟩,⟨rfl,rowsR _ _⟩,⟨rfl,rowsR _ _⟩,trivial⟩
def arD(d:Dsk)(K:List Int):Dsk:={d with armed:=true,keep:=K}
def k_l02Arm:Con:=.rel ⟨Dsk×List Int,fun x=>[.agg x.1.ts,intS x.2],fun x=>.agg (arD x.1 x.2).ts,fun x=>SmD x.1/\x.2.length<=1048576⟩
noncomputable def b_l02Arm:Code:=Tryz.f36.body.getD .skip
theorem call_l02Arm:Callable Tryz.prog 36:=⟨_,Tryz.func36,by kernel_rfl,by kernel_rfl⟩
theorem v_l02Arm(d:Dsk)(K:List Int)(h:
  ∃(x:Dsk),(((EqD d x)/\True)/\SmD x)/\(Le 0 0/\AppB 0 K.length 8)/\(Le (0+x.sec.length) x.sec.length/\Le (0+x.cache.length) x.cache.length/\Le (0+(0+K.length)) (0+K.length))/\(EqL strRow x.sec d.sec)/\(EqL
  pendRow x.cache d.cache)/\true=true/\(0+K.length=K.length/\RowsEq (0+K.length) (appRow (fun(k:Nat)=>List.take 1 (List.drop (k*1) [])) 0 (intRow K)) (intRow K))/\True):
  PureFn Tryz.prog 36 [.agg d.ts,intS K] (.agg (arD d K).ts):=
 vcR (code:=b_l02Arm) (gC l02Own_ok call_l02Own gN) Tryz.func36 (by kernel_rfl) (by kernel_rfl) noAnn h (by kernel_rfl)
theorem l02Arm_ok:ConOk Tryz.prog 36 k_l02Arm:=by
 rintro⟨d,K⟩ ⟨h1,h2⟩;dsimp only at h1 h2;exact v_l02Arm d K ⟨d,⟨⟨eqD _,trivial⟩,h1⟩,⟨Nat.le_refl _,by unfold AppB;omega⟩,⟨le0 _,le0 _,by unfold Le;omega⟩,⟨rfl,rowsR _ _⟩,⟨rfl,rowsR _ _⟩,rfl,⟨by omega,app_nil⟩,trivial⟩
noncomputable def k_ArmEngines:Con:=.rfz ⟨Eng×List Int,fun x=>[.agg x.1.ts,intS x.2],fun x=>.tup [.agg (armE x.1 x.2).1.ts,.int .i64 (armE x.1 x.2).2],fun x=>EngB x.1/\SmEng x.1⟩
noncomputable def b_ArmEngines:Code:=Tryz.f11.body.getD .skip
theorem call_ArmEngines:Callable Tryz.prog 11:=⟨_,Tryz.func11,by kernel_rfl,by kernel_rfl⟩
theorem v_ArmEngines(e:Eng)(K:List Int)(h:
  (decide ((K.length:Int)>(4096:Int))=true->((armE e K).fst.s.d.sec.length=0/\(armE e K).fst.s.d.cache.length=0/\false=(armE e K).fst.s.d.armed/\(armE e K).fst.s.d.keep.length=0/\(0:Int)=(armE e K).fst.s.ep/\
  (armE e K).fst.s.log.length=0/\(0:Int)=(armE e K).fst.s.sure/\(armE e K).fst.s.fr.length=0/\(0:Int)=(armE e K).fst.s.hand/\false=(armE e K).fst.up/\(armE e K).fst.txs.length=0/\(armE e K).fst.lk.held.length=
  0/\(armE e K).fst.lk.waits.length=0/\(0:Int)=(armE e K).fst.next/\True)/\(2:Int)=(armE e K).snd/\True)/\(decide ((K.length:Int)>(4096:Int))=false->∃(x:r_EngineOK.ι),(((EqG e x)/\True)/\EngB x)/\
  ((!engOK x)=true->((armE e K).fst.s.d.sec.length=0/\(armE e K).fst.s.d.cache.length=0/\false=(armE e K).fst.s.d.armed/\(armE e K).fst.s.d.keep.length=0/\(0:Int)=(armE e K).fst.s.ep/\(armE e K).fst.s.log.length
  =0/\(0:Int)=(armE e K).fst.s.sure/\(armE e K).fst.s.fr.length=0/\(0:Int)=(armE e K).fst.s.hand/\false=(armE e K).fst.up/\(armE e K).fst.txs.length=0/\(armE e K).fst.lk.held.length=0/\(armE e
  K).fst.lk.waits.length=0/\(0:Int)=(armE e K).fst.next/\True)/\(1:Int)=(armE e K).snd/\True)/\((!engOK x)=false->(decide ((K.length:Int)>(500:Int))=true->((armE e K).fst.s.d.sec.length=0/\(armE e
  K).fst.s.d.cache.length=0/\false=(armE e K).fst.s.d.armed/\(armE e K).fst.s.d.keep.length=0/\(0:Int)=(armE e K).fst.s.ep/\(armE e K).fst.s.log.length=0/\(0:Int)=(armE e K).fst.s.sure/\(armE e
  K).fst.s.fr.length=0/\(0:Int)=(armE e K).fst.s.hand/\false=(armE e K).fst.up/\(armE e K).fst.txs.length=0/\(armE e K).fst.lk.held.length=0/\(armE e K).fst.lk.waits.length=0/\(0:Int)=(armE e K).fst.next/\
  True)/\(6:Int)=(armE e K).snd/\True)/\(decide ((K.length:Int)>(500:Int))=false->∃(x:(Dsk×List Int)),(((EqD e.s.d x.fst)/\(EqL intRow K x.snd)/\True)/\SmD x.fst/\x.snd.length<=1048576)/\∃(x_1:Eng),
  ((((EqL strRow x.fst.sec x_1.s.d.sec)/\(EqL pendRow x.fst.cache x_1.s.d.cache)/\true=x_1.s.d.armed/\(EqL intRow x.snd x_1.s.d.keep)/\e.s.ep=x_1.s.ep/\(EqL recRow e.s.log x_1.s.log)/\e.s.sure=x_1.s.sure/\(EqL frmRow
  e.s.fr x_1.s.fr)/\e.s.hand=x_1.s.hand/\e.up=x_1.up/\(EqL txnRow e.txs x_1.txs)/\(EqL lckRow e.lk.held x_1.lk.held)/\(EqL wtRow e.lk.waits x_1.lk.waits)/\e.next=x_1.next/\True)/\True)/\SmEng x_1)/\(EqG x_1 (armE e
  K).fst)/\(0:Int)=(armE e K).snd/\True)))):
  PureFn Tryz.prog 11 [.agg e.ts,intS K] (.tup [.agg (armE e K).1.ts,.int .i64 (armE e K).2]):=
 vcR (code:=b_ArmEngines) (gC EngineOKs_ok call_EngineOKs (gC l02Arm_ok call_l02Arm (gC l07Own_ok call_l07Own gN))) Tryz.func11 (by kernel_rfl) (by kernel_rfl) noAnn h (by kernel_rfl)
theorem ArmEngines_ok:ConOk Tryz.prog 11 k_ArmEngines:=by
 rintro⟨e,K⟩ ⟨h1,h2⟩;dsimp only at h1 h2;refine v_ArmEngines e K ⟨fun hq=> ?_,fun hq=>⟨e,⟨⟨eqG _,trivial⟩,h1⟩,fun hs=> ?_,fun hs=>⟨fun hk=> ?_,fun hk=>⟨(e.s.d,K),⟨⟨eqD _,⟨rfl,rowsR _ _⟩,trivial⟩,h2.1.1,by have:=of_decide_eq_false hk;dsimp only;omega⟩,arS e K,⟨⟨eqG (arS e K),trivial⟩,?_⟩,?_⟩⟩⟩⟩
 ·rw[arm1 hq];exact⟨⟨rfl,rfl,rfl,rfl,rfl,rfl,rfl,rfl,rfl,rfl,rfl,rfl,rfl,rfl,trivial⟩,rfl,trivial⟩
 ·rw[arm2 hq hs];exact⟨⟨rfl,rfl,rfl,rfl,rfl,rfl,rfl,rfl,rfl,rfl,rfl,rfl,rfl,rfl,trivial⟩,rfl,trivial⟩
 ·rw[arm3 hq hs hk];exact⟨⟨rfl,rfl,rfl,rfl,rfl,rfl,rfl,rfl,rfl,rfl,rfl,rfl,rfl,rfl,trivial⟩,rfl,trivial⟩
 ·exact⟨⟨⟨h2.1.1.1,h2.1.1.2.1,by have:=of_decide_eq_false hk;show K.length<=_;omega⟩,h2.1.2⟩,h2.2⟩
 ·rw[arm4 hq hs hk];exact⟨eqG (arS e K),rfl,trivial⟩
end Go.Proofs.YtokaojbaacnngaaGreat

