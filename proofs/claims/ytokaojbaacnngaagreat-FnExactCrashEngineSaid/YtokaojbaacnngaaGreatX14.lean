/- A part of the proof. -/
import Derived.Test.YtokaojbaacnngaaGreatX11X11rX12X13
namespace Go.Proofs.YtokaojbaacnngaaGreat
set_option maxRecDepth 100000
open Go.SS

def dskBx(l:List T):Option Ob:=some (.arr false 1000000 4 1 fun _=>l)
def dskBc(l:List T):Option Ob:=some (.arr true 1000000 4 1 fun _=>l)
def dskZ:List T:=[.v (.slice none 0 0),.v (.slice none 0 0),.bool false,.v (.slice none 0 0)]
def k_l02Crash:Con:=.rel ⟨Dsk×List Int,fun x=>[.agg x.1.ts,intS x.2],fun x=>.agg (crD x.1 x.2).ts,fun x=>SmD x.1/\PdB x.1⟩
def A_l02Crash(d:Dsk)(K:List Int):Nat->Ann
 |0=>.one {i:Nat//i<=d.cache.length} (fun x=>⟨[(1,intS K),(2,.ref 0 0 0),(4,.ref 1 0 0),(5,.ref 2 0 0),(6,.int .i64 x.1)],[dskBc d.ts,dskBc dskZ,dskBx (d.tm 3),some (.arr true 0 1 d.sec.length (strRow (stl d.sec d.cache (kp K) x.1))),pendA d.cache,intA d.keep]⟩) (fun x=>d.cache.length-x.1) [.box 0,.box 1,.box 5,.arr 2,.arr 3,.arr 4] [.box 0,.box 1,.box 2,.arr 3,.arr 4,.arr 5] (fun _=>noAnn)
 |_=>.none
noncomputable def b_l02Crash:Code:=Tryz.f56.body.getD .skip
theorem call_l02Crash:Callable Tryz.prog 56:=⟨_,Tryz.func56,by kernel_rfl,by kernel_rfl⟩
theorem v_l02Crash(d:Dsk)(K:List Int)(h:
  ∃(x:Dsk),(((EqD d x)/\True)/\SmD x)/\(∃(x_1:{i:Nat//i<=d.cache.length}),((EqL intRow K K)/\(0=0/\0=0)/\(0=0/\0=0)/\(0=0/\0=0)/\(0:Int)=(x_1.val:Int)/\True)/\(1=1/\1=1/\EqD d d)/\(1
  =1/\1=1/\Value.slice none 0 0=Value.slice none 0 0/\Value.slice none 0 0=Value.slice none 0 0/\false=false/\Value.slice none 0 0=Value.slice none 0 0/\True)/\(1=1/\1=1/\(0=0/\x.sec.length=d.sec.length)
  /\(0=0/\x.cache.length=d.cache.length)/\x.armed=d.armed/\(0=0/\x.keep.length=d.keep.length)/\True)/\(x.sec.length=d.sec.length/\RowsEq x.sec.length (strRow x.sec) (strRow (stl d.sec d.cache (kp K) x_1.val)))/\
  (EqL pendRow x.cache d.cache)/\(EqL intRow x.keep d.keep)/\True)/\∀(x:{i:Nat//i<=d.cache.length}),(decide ((x.val:Int)<(d.cache.length:Int))=true->(decide ((x.val:Int)<(K.length:Int))=true->InB (x.val:Int)
  K.length)/\((decide ((x.val:Int)<(K.length:Int))&&K.getD (x.val:Int).toNat (0:Int) !=(0:Int))=true->InB (x.val:Int) d.cache.length/\InB (x.val:Int) d.cache.length/\InB (d.cache.getD (x.val:Int).toNat default).at_
  d.sec.length/\Lt (0+(d.cache.getD (x.val:Int).toNat default).at_.toNat) d.sec.length/\Rng .i64 ((x.val:Int)+(1:Int))/\∃(y:{i:Nat//i<=d.cache.length}),(((EqL intRow K K)/\(0=0/\0=0)/\(0=0/\0=0)/\(0
  =0/\0=0)/\(x.val:Int)+(1:Int)=(y.val:Int)/\True)/\(1=1/\1=1/\EqD d d)/\(1=1/\1=1/\Value.slice none 0 0=Value.slice none 0 0/\Value.slice none 0 0=Value.slice none 0 0/\false=false/\Value.slice
  none 0 0=Value.slice none 0 0/\True)/\(1=1/\1=1/\(0=0/\d.sec.length=d.sec.length)/\(0=0/\d.cache.length=d.cache.length)/\d.armed=d.armed/\(0=0/\d.keep.length=d.keep.length)/\True)/\(d.sec.length=
  d.sec.length/\RowsEq d.sec.length (setRow (strRow (stl d.sec d.cache (kp K) x.val)) (0+(d.cache.getD (x.val:Int).toNat default).at_.toNat) 0 [T.str (d.cache.getD (x.val:Int).toNat default).d]) (strRow (stl d.sec d.cache (kp K)
  y.val)))/\(EqL pendRow d.cache d.cache)/\(EqL intRow d.keep d.keep)/\True)/\Lt (d.cache.length-y.val) (d.cache.length-x.val))/\((decide ((x.val:Int)<(K.length:Int))&&K.getD (x.val:Int).toNat (0:Int) !=(0:Int))=
  false->Rng .i64 ((x.val:Int)+(1:Int))/\∃(y:{i:Nat//i<=d.cache.length}),(((EqL intRow K K)/\(0=0/\0=0)/\(0=0/\0=0)/\(0=0/\0=0)/\(x.val:Int)+(1:Int)=(y.val:Int)/\True)/\(1=1/\1=1/\
  EqD d d)/\(1=1/\1=1/\Value.slice none 0 0=Value.slice none 0 0/\Value.slice none 0 0=Value.slice none 0 0/\false=false/\Value.slice none 0 0=Value.slice none 0 0/\True)/\(1=1/\1=1/\(0=0/\d.sec.length=
  d.sec.length)/\(0=0/\d.cache.length=d.cache.length)/\d.armed=d.armed/\(0=0/\d.keep.length=d.keep.length)/\True)/\(d.sec.length=d.sec.length/\RowsEq d.sec.length (strRow (stl d.sec d.cache (kp K) x.val)) (strRow
  (stl d.sec d.cache (kp K) y.val)))/\(EqL pendRow d.cache d.cache)/\(EqL intRow d.keep d.keep)/\True)/\Lt (d.cache.length-y.val) (d.cache.length-x.val)))/\(decide ((x.val:Int)<(d.cache.length:Int))=false->(Le (0+
  d.sec.length) d.sec.length/\Le 0 0/\Le 0 0)/\(d.sec.length=(stl d.sec d.cache (kp K) d.cache.length).length/\RowsEq d.sec.length (strRow (stl d.sec d.cache (kp K) x.val)) (strRow (stl d.sec d.cache (kp K) d.cache.length)))/\
  (0=0/\RowsEq 0 (fun(k:Nat)=>List.take 2 (List.drop (k*2) [])) (pendRow []))/\false=false/\(0=0/\RowsEq 0 (fun(k:Nat)=>List.take 1 (List.drop (k*1) [])) (intRow []))/\True)):
  PureFn Tryz.prog 56 [.agg d.ts,intS K] (.agg (crD d K).ts):=
 vcR (code:=b_l02Crash) (gC l02Own_ok call_l02Own gN) Tryz.func56 (by kernel_rfl) (by kernel_rfl) (A_l02Crash d K) h (by kernel_rfl)
theorem l02Crash_ok:ConOk Tryz.prog 56 k_l02Crash:=by
 rintro⟨d,K⟩ ⟨⟨h1,h2,h3⟩,h4⟩;dsimp only at h1 h2 h3 h4;refine v_l02Crash d K ⟨d,⟨⟨eqD _,trivial⟩,h1,h2,h3⟩,⟨⟨0,Nat.zero_le _⟩,(by repeat' first|exact trivial|exact rfl|exact rowsR _ _|exact famR _|exact row0|exact le0 _|exact Nat.le_refl _|exact Nat.zero_le _|refine And.intro ?_ ?_)⟩,fun x=>⟨fun hc=> ?_,fun hc=> ?_⟩⟩
 ·have hlt:=lt_of_dec hc;have ek:(decide ((x.val:Int)<(K.length:Int))&&K.getD x.val 0 !=0)=kp K x.val:=by
   unfold kp;rw[show decide ((x.val:Int)<(K.length:Int))=decide (x.val<K.length) from decide_eq_decide.2 (by omega)]
  have ha:=h4 x.val hlt;rw[Int.toNat_natCast,ek];refine⟨fun h=>inB_nat (lt_of_dec h),fun hk=> ?_,fun hk=> ?_⟩
  ·exact⟨inB_nat hlt,inB_nat hlt,ha,by unfold Lt;omega,i64_rng (by omega),⟨x.val+1,hlt⟩,⟨⟨⟨rfl,rowsR _ _⟩,⟨rfl,rfl⟩,⟨rfl,rfl⟩,⟨rfl,rfl⟩,by dsimp only;omega,trivial⟩,⟨rfl,rfl,eqD _⟩,(by repeat' first|exact trivial|exact rfl|exact rowsR _ _|exact famR _|exact row0|exact le0 _|exact Nat.le_refl _|exact Nat.zero_le _|refine And.intro ?_ ?_),(by repeat' first|exact trivial|exact rfl|exact rowsR _ _|exact famR _|exact row0|exact le0 _|exact Nat.le_refl _|exact Nat.zero_le _|refine And.intro ?_ ?_),⟨rfl,stl_set hk⟩,(by repeat' first|exact trivial|exact rfl|exact rowsR _ _|exact famR _|exact row0|exact le0 _|exact Nat.le_refl _|exact Nat.zero_le _|refine And.intro ?_ ?_)⟩,Cnt.ext_lt hlt⟩
  ·exact⟨i64_rng (by omega),⟨x.val+1,hlt⟩,⟨⟨⟨rfl,rowsR _ _⟩,⟨rfl,rfl⟩,⟨rfl,rfl⟩,⟨rfl,rfl⟩,by dsimp only;omega,trivial⟩,⟨rfl,rfl,eqD _⟩,(by repeat' first|exact trivial|exact rfl|exact rowsR _ _|exact famR _|exact row0|exact le0 _|exact Nat.le_refl _|exact Nat.zero_le _|refine And.intro ?_ ?_),(by repeat' first|exact trivial|exact rfl|exact rowsR _ _|exact famR _|exact row0|exact le0 _|exact Nat.le_refl _|exact Nat.zero_le _|refine And.intro ?_ ?_),⟨rfl,fun j _=>by dsimp only;rw[stl_f hk]⟩,(by repeat' first|exact trivial|exact rfl|exact rowsR _ _|exact famR _|exact row0|exact le0 _|exact Nat.le_refl _|exact Nat.zero_le _|refine And.intro ?_ ?_)⟩,Cnt.ext_lt hlt⟩
 ·have hx:x.val=d.cache.length:=by have:=x.2;have:=le_of_not hc;omega
  rw[hx];exact⟨(by repeat' first|exact trivial|exact rfl|exact rowsR _ _|exact famR _|exact row0|exact le0 _|exact Nat.le_refl _|exact Nat.zero_le _|refine And.intro ?_ ?_),⟨(stl_len _ _ _ _).symm,rowsR _ _⟩,(by repeat' first|exact trivial|exact rfl|exact rowsR _ _|exact famR _|exact row0|exact le0 _|exact Nat.le_refl _|exact Nat.zero_le _|refine And.intro ?_ ?_)⟩
end Go.Proofs.YtokaojbaacnngaaGreat

