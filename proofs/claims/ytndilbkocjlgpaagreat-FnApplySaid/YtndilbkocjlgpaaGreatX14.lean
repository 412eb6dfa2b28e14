/- A part of the proof. -/
import Derived.Test.YtndilbkocjlgpaaGreatX11X11rX12X13
namespace Go.Proofs.YtndilbkocjlgpaaGreat
set_option maxRecDepth 100000
open Go.SS

def k_l02Write:Con:=.rel ⟨Dsk×Int×List UInt8,fun x=>[.agg x.1.ts,.int .i64 x.2.1,.str x.2.2],fun x=>.agg (wrD x.1 x.2.1 x.2.2).ts,fun x=>x.1.cache.length<=1048576⟩
noncomputable def b_l02Write:Code:=Tryz.f106.body.getD .skip
theorem call_l02Write:Callable Tryz.prog 106:=⟨_,Tryz.func106,by kernel_rfl,by kernel_rfl⟩
theorem v_l02Write(d:Dsk)(at_:Int)(t:List UInt8)(h:
  (Le 0 0/\AppB 0 d.cache.length 24)/\(Le 1 1/\Le (0+d.cache.length) (0+d.cache.length)/\AppB (0+d.cache.length) 1 24)/\Le (0+(0+d.cache.length+1)) (0+d.cache.length+1)/\(EqL strRow d.sec d.sec)/\(0+
  d.cache.length+1=(d.cache++[Pend.mk at_ t]).length/\RowsEq (0+d.cache.length+1) (appRow (appRow (fun(k:Nat)=>List.take 2 (List.drop (k*2) [])) 0 (pendRow d.cache)) (0+d.cache.length) fun(k:Nat)=>List.take
  2 (List.drop (k*2) [T.int .i64 at_,T.str t])) (pendRow (d.cache++[Pend.mk at_ t])))/\d.armed=d.armed/\(EqL intRow d.keep d.keep)/\True):
  PureFn Tryz.prog 106 [.agg d.ts,.int .i64 at_,.str t] (.agg (wrD d at_ t).ts):=
 vcR (code:=b_l02Write) gN Tryz.func106 (by kernel_rfl) (by kernel_rfl) noAnn h (by kernel_rfl)

theorem l02Write_ok:ConOk Tryz.prog 106 k_l02Write:=by
 rintro⟨d,at_,t⟩ (h:d.cache.length<=1048576);exact v_l02Write d at_ t ⟨⟨Nat.le_refl _,by unfold AppB;omega⟩,⟨Nat.le_refl _,Nat.le_refl _,by unfold AppB;omega⟩,by unfold Le;omega,⟨rfl,rowsR _ _⟩,⟨by simp,by rw[Nat.zero_add];exact pend_app d.cache ⟨at_,t⟩⟩,rfl,⟨rfl,rowsR _ _⟩,trivial⟩
def dskBx(l:List T):Option Ob:=some (.arr false 1000000 4 1 fun _=>l)
def dskBc(l:List T):Option Ob:=some (.arr true 1000000 4 1 fun _=>l)
def dskZ:List T:=[.v (.slice none 0 0),.v (.slice none 0 0),.bool false,.v (.slice none 0 0)]
def k_l02Crash:Con:=.rel ⟨Dsk×List Int,fun x=>[.agg x.1.ts,intS x.2],fun x=>.agg (crD x.1 x.2).ts,fun x=>SmD x.1/\PdB x.1⟩
def A_l02Crash(d:Dsk)(K:List Int):Nat->Ann
 |0=>.one {i:Nat//i<=d.cache.length} (fun x=>⟨[(1,intS K),(2,.ref 0 0 0),(4,.ref 1 0 0),(5,.ref 2 0 0),(6,.int .i64 x.1)],[dskBc d.ts,dskBc dskZ,dskBx (d.tm 3),some (.arr true 0 1 d.sec.length (strRow (stl d.sec d.cache (kp K) x.1))),pendA d.cache,intA d.keep]⟩) (fun x=>d.cache.length-x.1) [.box 0,.box 1,.box 5,.arr 2,.arr 3,.arr 4] [.box 0,.box 1,.box 2,.arr 3,.arr 4,.arr 5] (fun _=>noAnn)
 |_=>.none
noncomputable def b_l02Crash:Code:=Tryz.f164.body.getD .skip
theorem call_l02Crash:Callable Tryz.prog 164:=⟨_,Tryz.func164,by kernel_rfl,by kernel_rfl⟩
theorem v_l02Crash(d:Dsk)(K:List Int)(h:
  ∃(x:Dsk),(((EqD d x)/\True)/\SmD x)/\(∃(x_1:{i:Nat//i<=d.cache.length}),((EqL intRow K K)/\(0=0/\0=0)/\(0=0/\0=0)/\(0=0/\0=0)/\(0:Int)=(x_1.val:Int)/\True)/\(1=1/\1=1/\EqD d d)/\(1
  =1/\1=1/\Value.slice none 0 0=Value.slice none 0 0/\Value.slice none 0 0=Value.slice none 0 0/\false=false/\Value.slice none 0 0=Value.slice none 0 0/\True)/\(1=1/\1=1/\(0=0/\x.sec.length=d.sec.length)
  /\(0=0/\x.cache.length=d.cache.length)/\x.armed=d.armed/\(0=0/\x.keep.length=d.keep.length)/\True)/\(x.sec.length=d.sec.length/\RowsEq x.sec.length (strRow x.sec) (strRow (stl d.sec d.cache (kp K) x_1.val)))/\
  (EqL pendRow x.cache d.cache)/\(EqL intRow x.keep d.keep)/\True)/\∀(x:{i:Nat//i<=d.cache.length}),(decide ((x.val:Int)<(d.cache.length:Int))=true->(decide ((x.val:Int)<(K.length:Int))=true->InB (x.val:Int)
  K.length)/\((decide ((x.val:Int)<(K.length:Int))&&K.getD (x.val:Int).toNat (0:Int) !=(0:Int))=true->InB (x.val:Int) d.cache.length/\InB (x.val:Int) d.cache.length/\InB (d.cache.getD (x.val:Int).toNat default).at_
  d.sec.length/\Lt (0+(d.cache.getD (x.val:Int).toNat default).at_.toNat) d.sec.length/\Rng .i64 ((x.val:Int)+(1:Int))/\∃(y:{i:Nat//i<=d.cache.length}),(((EqL intRow K K)/\(0=0/\0=0)/\(0=0/\0=0)/\(0
  =0/\0=0)/\(x.val:Int)+(1:Int)=(y.val:Int)/\True)/\(1=1/\1=1/\EqD d d)/\(1=1/\1=1/\Value.slice none 0 0=Value.slice none 0 0/\Value.slice none 0 0=Value.slice none 0 0/\false=false/\Value.slice
  none 0 0=Value.slice none 0 0/\True)/\(1=1/\1=1/\(0=0/\d.sec.length=d.sec.length)/\(0=0/\d.cache.length=d.cache.length)/\d.armed=d.armed/\(0=0/\d.keep.length=d.keep.length)/\True)/\(d.sec.length=
  d.sec.length/\RowsEq d.sec.length (setRow (strRow (stl d.sec d.cache (kp K) x.val)) (0+(d.cache.getD (x.val:Int).toNat default).at_.toNat) 0 [T.str (d.cache.getD (x.val:Int).toNat default).d]) (strRow (stl d.sec d.cache (kp K)
  y.val)))/\(EqL pendRow d.cache d.cache)/\(EqL intRow d.keep d.keep)/\True)/\Lt (d.cache.length-y.val) (d.cache.length-x.val))/\((decide ((x.val:Int)<(K.length:Int))&&K.getD (x.val:Int).toNat (0:Int) !=(0:Int))=
  false->Rng .i64 ((x.val:Int)+(1:Int))/\∃(y:{i:Nat//i<=d.cache.length}),(((EqL intRow K K)/\(0=0/\0=0)/\(0=0/\0=0)/\(0=0/\0=0)/\(x.val:Int)+(1:Int)=(y.val:Int)/\True)/\(1=1/\1=1/\
  EqD d d)/\(1=1/\1=1/\Value.slice none 0 0=Value.slice none 0 0/\Value.slice none 0 0=Value.slice none 0 0/\false=false/\Value.slice none 0 0=Value.slice none 0 0/\True)/\(1=1/\1=1/\(0=0/\d.sec.length=
  d.sec.length)/\(0=0/\d.cache.length=d.cache.length)/\d.armed=d.armed/\(0=0/\d.keep.length=d.keep.length)/\True)/\(d.sec.length=d.sec.length/\RowsEq d.sec.length (strRow (stl d.sec d.cache (kp K) x.val)) (strRow
  (stl d.sec d.cache (kp K) y.val)))/\(EqL pendRow d.cache d.cache)/\(EqL intRow d.keep d.keep)/\True)/\Lt (d.cache.length-y.val) (d.cache.length-x.val)))/\(decide ((x.val:Int)<(d.cache.length:Int))=false->(Le (0+
  d.sec.length) d.sec.length/\Le 0 0/\Le 0 0)/\(d.sec.length=(stl d.sec d.cache (kp K) d.cache.length).length/\RowsEq d.sec.length (strRow (stl d.sec d.cache (kp K) x.val)) (strRow (stl d.sec d.cache (kp K) d.cache.length)))/\
  (0=0/\RowsEq 0 (fun(k:Nat)=>List.take 2 (List.drop (k*2) [])) (pendRow []))/\false=false/\(0=0/\RowsEq 0 (fun(k:Nat)=>List.take 1 (List.drop (k*1) [])) (intRow []))/\True)):
  PureFn Tryz.prog 164 [.agg d.ts,intS K] (.agg (crD d K).ts):=
 vcR (code:=b_l02Crash) (gC l02Own_ok call_l02Own gN) Tryz.func164 (by kernel_rfl) (by kernel_rfl) (A_l02Crash d K) h (by kernel_rfl)
theorem l02Crash_ok:ConOk Tryz.prog 164 k_l02Crash:=by
 rintro⟨d,K⟩ ⟨⟨h1,h2,h3⟩,h4⟩;dsimp only at h1 h2 h3 h4;refine v_l02Crash d K ⟨d,⟨⟨eqD _,trivial⟩,h1,h2,h3⟩,⟨⟨0,Nat.zero_le _⟩,(by repeat' first|exact trivial|exact rfl|exact rowsR _ _|exact famR _|exact row0|exact le0 _|exact Nat.le_refl _|exact Nat.zero_le _|refine And.intro ?_ ?_)⟩,fun x=>⟨fun hc=> ?_,fun hc=> ?_⟩⟩
 ·have hlt:=lt_of_dec hc;have ek:(decide ((x.val:Int)<(K.length:Int))&&K.getD x.val 0 !=0)=kp K x.val:=by
   unfold kp;rw[show decide ((x.val:Int)<(K.length:Int))=decide (x.val<K.length) from decide_eq_decide.2 (by omega)]
  have ha:=h4 x.val hlt;rw[Int.toNat_natCast,ek];refine⟨fun h=>inB_nat (lt_of_dec h),fun hk=> ?_,fun hk=> ?_⟩
  ·exact⟨inB_nat hlt,inB_nat hlt,ha,by unfold Lt;omega,i64_rng (by omega),⟨x.val+1,hlt⟩,⟨⟨⟨rfl,rowsR _ _⟩,⟨rfl,rfl⟩,⟨rfl,rfl⟩,⟨rfl,rfl⟩,by dsimp only;omega,trivial⟩,⟨rfl,rfl,eqD _⟩,(by repeat' first|exact trivial|exact rfl|exact rowsR _ _|exact famR _|exact row0|exact le0 _|exact Nat.le_refl _|exact Nat.zero_le _|refine And.intro ?_ ?_),(by repeat' first|exact trivial|exact rfl|exact rowsR _ _|exact famR _|exact row0|exact le0 _|exact Nat.le_refl _|exact Nat.zero_le _|refine And.intro ?_ ?_),⟨rfl,stl_set hk⟩,(by repeat' first|exact trivial|exact rfl|exact rowsR _ _|exact famR _|exact row0|exact le0 _|exact Nat.le_refl _|exact Nat.zero_le _|refine And.intro ?_ ?_)⟩,Cnt.ext_lt hlt⟩
  ·exact⟨i64_rng (by omega),⟨x.val+1,hlt⟩,⟨⟨⟨rfl,rowsR _ _⟩,⟨rfl,rfl⟩,⟨rfl,rfl⟩,⟨rfl,rfl⟩,by dsimp only;omega,trivial⟩,⟨rfl,rfl,eqD _⟩,(by repeat' first|exact trivial|exact rfl|exact rowsR _ _|exact famR _|exact row0|exact le0 _|exact Nat.le_refl _|exact Nat.zero_le _|refine And.intro ?_ ?_),(by repeat' first|exact trivial|exact rfl|exact rowsR _ _|exact famR _|exact row0|exact le0 _|exact Nat.le_refl _|exact Nat.zero_le _|refine And.intro ?_ ?_),⟨rfl,fun j _=>by dsimp only;rw[stl_f hk]⟩,(by repeat' first|exact trivial|exact rfl|exact rowsR _ _|exact famR _|exact row0|exact le0 _|exact Nat.le_refl _|exact Nat.zero_le _|refine And.intro ?_ ?_)⟩,Cnt.ext_lt hlt⟩
 ·have hx:x.val=d.cache.length:=by have:=x.2;have:=le_of_not hc;omega
  rw[hx];exact⟨(by repeat' first|exact trivial|exact rfl|exact rowsR _ _|exact famR _|exact row0|exact le0 _|exact Nat.le_refl _|exact Nat.zero_le _|refine And.intro ?_ ?_),⟨(stl_len _ _ _ _).symm,rowsR _ _⟩,(by repeat' first|exact trivial|exact rfl|exact rowsR _ _|exact famR _|exact row0|exact le0 _|exact Nat.le_refl _|exact Nat.zero_le _|refine And.intro ?_ ?_)⟩
def k_l02Sync:Con:=.rel ⟨Dsk,fun d=>[.agg d.ts],fun d=>.tup [.agg (synD d).1.ts,.bool (synD d).2],fun d=>SmD d/\PdB d⟩
def A_l02Sync(d:Dsk):Nat->Ann
 |0=>.one {i:Nat//i<=d.cache.length} (fun x=>⟨[(1,.ref 0 0 0),(2,.ref 1 0 0),(4,.ref 2 0 0),(5,.int .i64 x.1)],[dskBc d.ts,dskBc dskZ,dskBx (d.tm 3),some (.arr true 0 1 d.sec.length (strRow (stl d.sec d.cache (fun _=>true) x.1))),pendA d.cache,intA d.keep]⟩) (fun x=>d.cache.length-x.1) [.box 0,.box 1,.box 5,.arr 2,.arr 3,.arr 4] [.box 0,.box 1,.box 2,.arr 3,.arr 4,.arr 5] (fun _=>noAnn)
 |_=>.none
noncomputable def b_l02Sync:Code:=Tryz.f108.body.getD .skip
theorem call_l02Sync:Callable Tryz.prog 108:=⟨_,Tryz.func108,by kernel_rfl,by kernel_rfl⟩
theorem v_l02Sync(d:Dsk)(h:
  (d.armed=true->∃(x:(Dsk×List Int)),(((EqD d x.fst)/\(EqL intRow d.keep x.snd)/\True)/\SmD x.fst/\PdB x.fst)/\((EqL strRow (stl x.fst.sec x.fst.cache (kp x.snd) x.fst.cache.length) (synD d).fst.sec)/\(0=(synD
  d).fst.cache.length/\RowsEq 0 (pendRow []) (pendRow (synD d).fst.cache))/\false=(synD d).fst.armed/\(0=(synD d).fst.keep.length/\RowsEq 0 (intRow []) (intRow (synD d).fst.keep))/\True)/\false=(synD d).snd/\True)/\
  (d.armed=false->∃(x:Dsk),(((EqD d x)/\True)/\SmD x)/\(∃(x_1:{i:Nat//i<=d.cache.length}),((0=0/\0=0)/\(0=0/\0=0)/\(0=0/\0=0)/\(0:Int)=(x_1.val:Int)/\True)/\(1=1/\1=1/\EqD d d)/\(1
  =1/\1=1/\Value.slice none 0 0=Value.slice none 0 0/\Value.slice none 0 0=Value.slice none 0 0/\false=false/\Value.slice none 0 0=Value.slice none 0 0/\True)/\(1=1/\1=1/\(0=0/\x.sec.length=d.sec.length)
  /\(0=0/\x.cache.length=d.cache.length)/\x.armed=d.armed/\(0=0/\x.keep.length=d.keep.length)/\True)/\(x.sec.length=d.sec.length/\RowsEq x.sec.length (strRow x.sec) (strRow (stl d.sec d.cache (fun(x:Nat)=>
  true) x_1.val)))/\(EqL pendRow x.cache d.cache)/\(EqL intRow x.keep d.keep)/\True)/\∀(x:{i:Nat//i<=d.cache.length}),(decide ((x.val:Int)<(d.cache.length:Int))=true->InB (x.val:Int) d.cache.length/\InB
  (x.val:Int) d.cache.length/\InB (d.cache.getD (x.val:Int).toNat default).at_ d.sec.length/\Lt (0+(d.cache.getD (x.val:Int).toNat default).at_.toNat) d.sec.length/\Rng .i64 ((x.val:Int)+(1:Int))/\∃(y:{i:Nat//i<=
  d.cache.length}),(((0=0/\0=0)/\(0=0/\0=0)/\(0=0/\0=0)/\(x.val:Int)+(1:Int)=(y.val:Int)/\True)/\(1=1/\1=1/\EqD d d)/\(1=1/\1=1/\Value.slice none 0 0=Value.slice none 0 0/\Value.slice none
  0 0=Value.slice none 0 0/\false=false/\Value.slice none 0 0=Value.slice none 0 0/\True)/\(1=1/\1=1/\(0=0/\d.sec.length=d.sec.length)/\(0=0/\d.cache.length=d.cache.length)/\d.armed=d.armed/\(0=0/\
  d.keep.length=d.keep.length)/\True)/\(d.sec.length=d.sec.length/\RowsEq d.sec.length (setRow (strRow (stl d.sec d.cache (fun(x:Nat)=>true) x.val)) (0+(d.cache.getD (x.val:Int).toNat default).at_.toNat) 0 [T.str
  (d.cache.getD (x.val:Int).toNat default).d]) (strRow (stl d.sec d.cache (fun(x:Nat)=>true) y.val)))/\(EqL pendRow d.cache d.cache)/\(EqL intRow d.keep d.keep)/\True)/\Lt (d.cache.length-y.val) (d.cache.length-x.val))
  /\(decide ((x.val:Int)<(d.cache.length:Int))=false->(Le (0+d.sec.length) d.sec.length/\Le 0 0/\Le (0+d.keep.length) d.keep.length)/\((d.sec.length=(synD d).fst.sec.length/\RowsEq d.sec.length (strRow (stl d.sec
  d.cache (fun(x:Nat)=>true) x.val)) (strRow (synD d).fst.sec))/\(0=(synD d).fst.cache.length/\RowsEq 0 (fun(k:Nat)=>List.take 2 (List.drop (k*2) [])) (pendRow (synD d).fst.cache))/\d.armed=(synD d).fst.armed/\
  (EqL intRow d.keep (synD d).fst.keep)/\True)/\true=(synD d).snd/\True))):
  PureFn Tryz.prog 108 [.agg d.ts] (.tup [.agg (synD d).1.ts,.bool (synD d).2]):=
 vcR (code:=b_l02Sync) (gC l02Crash_ok call_l02Crash (gC l02Own_ok call_l02Own gN)) Tryz.func108 (by kernel_rfl) (by kernel_rfl) (A_l02Sync d) h (by kernel_rfl)
theorem l02Sync_ok:ConOk Tryz.prog 108 k_l02Sync:=by
 rintro(d:Dsk) ⟨⟨h1,h2,h3⟩,h4⟩;refine v_l02Sync d ⟨fun hd=> ?_,fun hd=> ?_⟩
 ·have e:synD d=(crD d d.keep,false):=by unfold synD;rw[if_pos hd]
  rw[e];exact⟨(d,d.keep),⟨⟨eqD _,⟨rfl,rowsR _ _⟩,trivial⟩,⟨h1,h2,h3⟩,h4⟩,(by repeat' first|exact trivial|exact rfl|exact rowsR _ _|exact famR _|exact row0|exact le0 _|exact Nat.le_refl _|exact Nat.zero_le _|refine And.intro ?_ ?_)⟩
 ·have e:synD d=(⟨stl d.sec d.cache (fun _=>true) d.cache.length,[],d.armed,d.keep⟩,true):=by unfold synD;rw[if_neg (by rw[hd];simp)]
  rw[e];refine⟨d,⟨⟨eqD _,trivial⟩,h1,h2,h3⟩,⟨⟨0,Nat.zero_le _⟩,(by repeat' first|exact trivial|exact rfl|exact rowsR _ _|exact famR _|exact row0|exact le0 _|exact Nat.le_refl _|exact Nat.zero_le _|refine And.intro ?_ ?_)⟩,fun x=>⟨fun hc=> ?_,fun hc=> ?_⟩⟩
  ·have hlt:=lt_of_dec hc;have ha:=h4 x.val hlt;rw[Int.toNat_natCast];exact⟨inB_nat hlt,inB_nat hlt,ha,by unfold Lt;omega,i64_rng (by omega),⟨x.val+1,hlt⟩,⟨⟨⟨rfl,rfl⟩,⟨rfl,rfl⟩,⟨rfl,rfl⟩,by dsimp only;omega,trivial⟩,⟨rfl,rfl,eqD _⟩,(by repeat' first|exact trivial|exact rfl|exact rowsR _ _|exact famR _|exact row0|exact le0 _|exact Nat.le_refl _|exact Nat.zero_le _|refine And.intro ?_ ?_),(by repeat' first|exact trivial|exact rfl|exact rowsR _ _|exact famR _|exact row0|exact le0 _|exact Nat.le_refl _|exact Nat.zero_le _|refine And.intro ?_ ?_),⟨rfl,stl_set (Q:=fun _=>true) rfl⟩,(by repeat' first|exact trivial|exact rfl|exact rowsR _ _|exact famR _|exact row0|exact le0 _|exact Nat.le_refl _|exact Nat.zero_le _|refine And.intro ?_ ?_)⟩,Cnt.ext_lt hlt⟩
  ·have hx:x.val=d.cache.length:=by have:=x.2;have:=le_of_not hc;omega
   rw[hx];exact⟨(by repeat' first|exact trivial|exact rfl|exact rowsR _ _|exact famR _|exact row0|exact le0 _|exact Nat.le_refl _|exact Nat.zero_le _|refine And.intro ?_ ?_),⟨⟨(stl_len _ _ _ _).symm,rowsR _ _⟩,(by repeat' first|exact trivial|exact rfl|exact rowsR _ _|exact famR _|exact row0|exact le0 _|exact Nat.le_refl _|exact Nat.zero_le _|refine And.intro ?_ ?_)⟩,(by repeat' first|exact trivial|exact rfl|exact rowsR _ _|exact famR _|exact row0|exact le0 _|exact Nat.le_refl _|exact Nat.zero_le _|refine And.intro ?_ ?_)⟩
def stoBc(l:List T):Option Ob:=some (.arr true 1000000 9 1 fun _=>l)
def k_l05Flush:Con:=.rel ⟨Sto×Int,fun x=>[.agg x.1.ts,.int .i64 x.2],fun x=>.tup [.agg (fluS x.1 x.2).1.ts,.bool (fluS x.1 x.2).2],fun x=>FluB x.1 x.2⟩
def A_l05Flush(s:Sto)(lsn:Int):Nat->Ann
 |0=>.one {i:Nat//i<=fluN s lsn} (fun x=>⟨[(1,.int .i64 lsn),(2,.ref 0 0 0),(4,.ref 1 0 0),(6,.int .i64 (s.sure+x.1+1))],[stoBc (s.sd (wrN s x.1)).ts,stoZb]⟩) (fun x=>fluN s lsn-x.1) [.box 0,.box 1] [.box 0,.box 1] (fun _=>noAnn)
 |_=>.none
noncomputable def b_l05Flush:Code:=Tryz.f51.body.getD .skip
theorem call_l05Flush:Callable Tryz.prog 51:=⟨_,Tryz.func51,by kernel_rfl,by kernel_rfl⟩
theorem v_l05Flush(s:Sto)(lsn:Int)(h:
  (decide (lsn<=s.sure)=true->(EqS s (fluS s lsn).fst)/\true=(fluS s lsn).snd/\True)/\(decide (lsn<=s.sure)=false->Rng .i64 (s.sure+(1:Int))/\(∃(x:{i:Nat//i<=fluN s lsn}),(lsn=lsn/\(0=0/\0=0)/\
  (0=0/\0=0)/\s.sure+(1:Int)=s.sure+(x.val:Int)+(1:Int)/\True)/\(1=1/\1=1/\(EqL strRow s.d.sec s.d.sec)/\(EqL pendRow s.d.cache (s.d.cache++List.map (pdR s) (List.range x.val)))/\s.d.armed=s.d.armed/\
  (EqL intRow s.d.keep s.d.keep)/\s.ep=s.ep/\(EqL recRow s.log s.log)/\s.sure=s.sure/\(EqL frmRow s.fr s.fr)/\s.hand=s.hand/\True)/\(1=1/\1=1/\Value.slice none 0 0=Value.slice none 0 0/\Value.slice none 0 0=
  Value.slice none 0 0/\false=false/\Value.slice none 0 0=Value.slice none 0 0/\(0:Int)=(0:Int)/\Value.slice none 0 0=Value.slice none 0 0/\(0:Int)=(0:Int)/\Value.slice none 0 0=Value.slice none 0 0/\(0:
  Int)=(0:Int)/\True)/\True)/\∀(x:{i:Nat//i<=fluN s lsn}),(decide (s.sure+(x.val:Int)+(1:Int)<=lsn)=true->Rng .i64 ((9:Int)+(s.sure+(x.val:Int)+(1:Int)))/\Rng .i64 ((9:Int)+(s.sure+
  (x.val:Int)+(1:Int))- (1:Int))/\Rng .i64 (s.sure+(x.val:Int)+(1:Int)- (1:Int))/\InB (s.sure+(x.val:Int)+(1:Int)- (1:Int)) s.log.length/\∃(x_1:Rec),(((EqR (s.log.getD (s.sure+(x.val:Int)+(1:
  Int)- (1:Int)).toNat default) x_1)/\True)/\RcSm x_1)/\∃(x_2:(Dsk×Int×List UInt8)),((((EqL strRow s.d.sec x_2.fst.sec)/\(EqL pendRow (s.d.cache++List.map (pdR s) (List.range x.val)) x_2.fst.cache)/\s.d.armed=
  x_2.fst.armed/\(EqL intRow s.d.keep x_2.fst.keep)/\True)/\(9:Int)+(s.sure+(x.val:Int)+(1:Int))- (1:Int)=x_2.snd.fst/\rcBytes x_1=x_2.snd.snd/\True)/\x_2.fst.cache.length<=1048576)/\Rng .i64 (s.sure+
  (x.val:Int)+(1:Int)+(1:Int))/\∃(y:{i:Nat//i<=fluN s lsn}),((lsn=lsn/\(0=0/\0=0)/\(0=0/\0=0)/\s.sure+(x.val:Int)+(1:Int)+(1:Int)=s.sure+(y.val:Int)+(1:Int)/\True)/\(1=1/\1=
  1/\(EqL strRow x_2.fst.sec s.d.sec)/\(EqL pendRow (x_2.fst.cache++[Pend.mk x_2.snd.fst x_2.snd.snd]) (s.d.cache++List.map (pdR s) (List.range y.val)))/\x_2.fst.armed=s.d.armed/\(EqL intRow x_2.fst.keep s.d.keep)/\s.ep=
  s.ep/\(EqL recRow s.log s.log)/\s.sure=s.sure/\(EqL frmRow s.fr s.fr)/\s.hand=s.hand/\True)/\(1=1/\1=1/\Value.slice none 0 0=Value.slice none 0 0/\Value.slice none 0 0=Value.slice none 0 0/\false=false/\
  Value.slice none 0 0=Value.slice none 0 0/\(0:Int)=(0:Int)/\Value.slice none 0 0=Value.slice none 0 0/\(0:Int)=(0:Int)/\Value.slice none 0 0=Value.slice none 0 0/\(0:Int)=(0:Int)/\True)/\True)/\Lt
  (fluN s lsn-y.val) (fluN s lsn-x.val))/\(decide (s.sure+(x.val:Int)+(1:Int)<=lsn)=false->∃(x_1:Dsk),((((EqL strRow s.d.sec x_1.sec)/\(EqL pendRow (s.d.cache++List.map (pdR s) (List.range x.val)) x_1.cache)/\
  s.d.armed=x_1.armed/\(EqL intRow s.d.keep x_1.keep)/\True)/\True)/\SmD x_1/\PdB x_1)/\((synD x_1).snd=true->((EqL strRow (synD x_1).fst.sec (fluS s lsn).fst.d.sec)/\(EqL pendRow (synD x_1).fst.cache (fluS s
  lsn).fst.d.cache)/\(synD x_1).fst.armed=(fluS s lsn).fst.d.armed/\(EqL intRow (synD x_1).fst.keep (fluS s lsn).fst.d.keep)/\s.ep=(fluS s lsn).fst.ep/\(EqL recRow s.log (fluS s lsn).fst.log)/\lsn=(fluS s lsn).fst.sure/\
  (EqL frmRow s.fr (fluS s lsn).fst.fr)/\s.hand=(fluS s lsn).fst.hand/\True)/\(synD x_1).snd=(fluS s lsn).snd/\True)/\((synD x_1).snd=false->((EqL strRow (synD x_1).fst.sec (fluS s lsn).fst.d.sec)/\(EqL pendRow (synD
  x_1).fst.cache (fluS s lsn).fst.d.cache)/\(synD x_1).fst.armed=(fluS s lsn).fst.d.armed/\(EqL intRow (synD x_1).fst.keep (fluS s lsn).fst.d.keep)/\s.ep=(fluS s lsn).fst.ep/\(EqL recRow s.log (fluS s lsn).fst.log)/\s.sure
  =(fluS s lsn).fst.sure/\(EqL frmRow s.fr (fluS s lsn).fst.fr)/\s.hand=(fluS s lsn).fst.hand/\True)/\(synD x_1).snd=(fluS s lsn).snd/\True)))):
  PureFn Tryz.prog 51 [.agg s.ts,.int .i64 lsn] (.tup [.agg (fluS s lsn).1.ts,.bool (fluS s lsn).2]):=
 vcR (code:=b_l05Flush) (gC l04Bytes_ok call_l04Bytes (gC l02Write_ok call_l02Write (gC l02Sync_ok call_l02Sync gN))) Tryz.func51 (by kernel_rfl) (by kernel_rfl) (A_l05Flush s lsn) h (by kernel_rfl)
theorem l05Flush_ok:ConOk Tryz.prog 51 k_l05Flush:=by
 rintro⟨s,lsn⟩ h;dsimp only at h;have hn:=fun i=>flu_nd (i:=i) h
 have hw:=wrN_pd h;obtain⟨⟨a1,a2,a3⟩,h2,h3,h4,h5,h6,h7,h8,h9⟩:=h;have hN:fluN s lsn<=60:=by unfold fluN;omega
 refine v_l05Flush s lsn ⟨fun hc=> ?_,fun hc=> ?_⟩
 ·rw[flu_le (of_decide_eq_true hc)];exact(by repeat' first|exact trivial|exact rfl|exact rowsR _ _|exact famR _|exact row0|exact le0 _|exact Nat.le_refl _|exact Nat.zero_le _|refine And.intro ?_ ?_)
 ·have hc:=of_decide_eq_false hc;refine⟨i64_rng (by omega),⟨⟨0,Nat.zero_le _⟩,⟨rfl,⟨rfl,rfl⟩,⟨rfl,rfl⟩,by dsimp only;omega,trivial⟩,⟨rfl,rfl,⟨rfl,rowsR _ _⟩,⟨by simp,fun i _=>by simp⟩,(by repeat' first|exact trivial|exact rfl|exact rowsR _ _|exact famR _|exact row0|exact le0 _|exact Nat.le_refl _|exact Nat.zero_le _|refine And.intro ?_ ?_)⟩,(by repeat' first|exact trivial|exact rfl|exact rowsR _ _|exact famR _|exact row0|exact le0 _|exact Nat.le_refl _|exact Nat.zero_le _|refine And.intro ?_ ?_)⟩,fun x=>⟨fun hx=> ?_,fun hx=> ?_⟩⟩
  ·have hlt:x.val<fluN s lsn:=by have:=of_decide_eq_true hx;unfold fluN;omega
   obtain⟨e,hb,q⟩:=hn x.val hlt;rw[show(s.sure+(x.val:Int)+1-1).toNat=s.sure.toNat+x.val by omega]
   refine⟨i64_rng (by omega),i64_rng (by omega),i64_rng (by omega),⟨by omega,by omega⟩,_,⟨⟨⟨rfl,rfl,rfl,rfl,rfl,rfl,rfl,rfl,rfl,rfl,trivial⟩,trivial⟩,hb⟩,(wrN s x.val,(pdR s x.val).at_,rcBytes (s.log.getD (s.sure.toNat+x.val) default)),⟨⟨(by repeat' first|exact trivial|exact rfl|exact rowsR _ _|exact famR _|exact row0|exact le0 _|exact Nat.le_refl _|exact Nat.zero_le _|refine And.intro ?_ ?_),by show _=(pdR s x.val).at_;rw[e];omega,rfl,trivial⟩,?_⟩,i64_rng (by omega),⟨x.val+1,hlt⟩,⟨⟨rfl,⟨rfl,rfl⟩,⟨rfl,rfl⟩,by dsimp only;omega,trivial⟩,⟨rfl,rfl,⟨rfl,rowsR _ _⟩,⟨congrArg List.length (wrN_succ s x.val),fun i _=>congrArg (fun L=>pendRow L i) (wrN_succ s x.val)⟩,(by repeat' first|exact trivial|exact rfl|exact rowsR _ _|exact famR _|exact row0|exact le0 _|exact Nat.le_refl _|exact Nat.zero_le _|refine And.intro ?_ ?_)⟩,(by repeat' first|exact trivial|exact rfl|exact rowsR _ _|exact famR _|exact row0|exact le0 _|exact Nat.le_refl _|exact Nat.zero_le _|refine And.intro ?_ ?_)⟩,Cnt.ext_lt hlt⟩
   show(s.d.cache++List.map (pdR s) (List.range _)).length<=1048576;simp only[List.length_append,List.length_map,List.length_range];omega
  ·have hx:x.val=fluN s lsn:=by have:=x.2;have:=of_decide_eq_false hx;unfold fluN at*;omega
   rw[hx,flu_gt hc];refine⟨wrN s (fluN s lsn),⟨⟨(by repeat' first|exact trivial|exact rfl|exact rowsR _ _|exact famR _|exact row0|exact le0 _|exact Nat.le_refl _|exact Nat.zero_le _|refine And.intro ?_ ?_),trivial⟩,hw⟩,fun hy=>⟨⟨⟨rfl,rowsR _ _⟩,⟨rfl,rowsR _ _⟩,rfl,⟨rfl,rowsR _ _⟩,rfl,⟨rfl,rowsR _ _⟩,(if_pos hy).symm,(by repeat' first|exact trivial|exact rfl|exact rowsR _ _|exact famR _|exact row0|exact le0 _|exact Nat.le_refl _|exact Nat.zero_le _|refine And.intro ?_ ?_)⟩,(by repeat' first|exact trivial|exact rfl|exact rowsR _ _|exact famR _|exact row0|exact le0 _|exact Nat.le_refl _|exact Nat.zero_le _|refine And.intro ?_ ?_)⟩,fun hy=>⟨⟨⟨rfl,rowsR _ _⟩,⟨rfl,rowsR _ _⟩,rfl,⟨rfl,rowsR _ _⟩,rfl,⟨rfl,rowsR _ _⟩,(if_neg (by rw[hy];simp)).symm,(by repeat' first|exact trivial|exact rfl|exact rowsR _ _|exact famR _|exact row0|exact le0 _|exact Nat.le_refl _|exact Nat.zero_le _|refine And.intro ?_ ?_)⟩,(by repeat' first|exact trivial|exact rfl|exact rowsR _ _|exact famR _|exact row0|exact le0 _|exact Nat.le_refl _|exact Nat.zero_le _|refine And.intro ?_ ?_)⟩⟩
end Go.Proofs.YtndilbkocjlgpaaGreat

