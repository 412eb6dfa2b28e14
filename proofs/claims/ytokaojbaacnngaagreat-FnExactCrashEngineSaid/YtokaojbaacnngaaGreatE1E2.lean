/- A part of the proof. -/
import Derived.Test.YtokaojbaacnngaaGreatD8
import Derived.Laws.BitsLemmas
namespace Go.Proofs.YtokaojbaacnngaaGreat
set_option maxRecDepth 100000
open Go.SS

theorem xor_lt32{a b:Nat}(ha:a<4294967296)(hb:b<4294967296):a ^^^ b<4294967296:=Nat.xor_lt_two_pow (n:=32) ha hb
theorem and_lt32{a b:Nat}(hb:b<4294967296):a&&&b<4294967296:=Nat.and_lt_two_pow (n:=32) a hb
theorem or_lt32{a b:Nat}(ha:a<4294967296)(hb:b<4294967296):a|||b<4294967296:=Nat.or_lt_two_pow (n:=32) ha hb
theorem ofInt_32{k:IntKind}(hk:k= .i64∨k= .u32){n:Nat}(hn:n<4294967296):(BitVec.ofInt k.bits (n:Int)).toNat=n:=by
 rw[BitVec.ofInt_natCast,BitVec.toNat_ofNat];refine Nat.mod_eq_of_lt ?_
 rcases hk with rfl|rfl
 ·exact Nat.lt_trans hn (by decide)
 ·exact hn
theorem wrap_32{k:IntKind}(hk:k= .i64∨k= .u32){n:Nat}(hn:n<4294967296):k.wrap (n:Int)=n:=by
 rcases hk with rfl|rfl
 ·rw[IntKind.wrap_i64];omega
 ·rw[IntKind.wrap_u32];omega
theorem xor_32{k:IntKind}(hk:k= .i64∨k= .u32){a b:Nat}(ha:a<4294967296)(hb:b<4294967296):bits .xor k (a:Int) (b:Int)=((a ^^^ b:Nat):Int):=by
 show k.wrap ((BitVec.ofInt k.bits (a:Int) ^^^ BitVec.ofInt k.bits (b:Int)).toNat:Int)=_;rw[BitVec.toNat_xor,ofInt_32 hk ha,ofInt_32 hk hb,wrap_32 hk (xor_lt32 ha hb)]
theorem and_32{k:IntKind}(hk:k= .i64∨k= .u32){a b:Nat}(ha:a<4294967296)(hb:b<4294967296):bits .and k (a:Int) (b:Int)=((a&&&b:Nat):Int):=by
 show k.wrap ((BitVec.ofInt k.bits (a:Int)&&&BitVec.ofInt k.bits (b:Int)).toNat:Int)=_;rw[BitVec.toNat_and,ofInt_32 hk ha,ofInt_32 hk hb,wrap_32 hk (and_lt32 hb)]
theorem or_32{k:IntKind}(hk:k= .i64∨k= .u32){a b:Nat}(ha:a<4294967296)(hb:b<4294967296):bits .or k (a:Int) (b:Int)=((a|||b:Nat):Int):=by
 show k.wrap ((BitVec.ofInt k.bits (a:Int)|||BitVec.ofInt k.bits (b:Int)).toNat:Int)=_;rw[BitVec.toNat_or,ofInt_32 hk ha,ofInt_32 hk hb,wrap_32 hk (or_lt32 ha hb)]
def crcBit(r:Nat):Nat:=(r/2) ^^^ (r % 2*3988292384)
def crcByte(r c:Nat):Nat->Nat
 |0=>r ^^^ c
 |k+1=>crcBit (crcByte r c k)
def crcAt(l:List UInt8):Nat->Nat
 |0=>4294967295
 |i+1=>crcByte (crcAt l i) (l.getD i 0).toNat 8
def crc(l:List UInt8):Nat:=crcAt l l.length ^^^ 4294967295
theorem crcBit_lt{r:Nat}(h:r<4294967296):crcBit r<4294967296:=by
 have:r % 2*3988292384<2 ^ 32:=by have:=Nat.mod_lt r (show 0<2 by decide);omega
 exact Nat.xor_lt_two_pow (n:=32) (by omega) this
theorem crcByte_lt{r c:Nat}(h:r<4294967296)(hc:c<256):∀k,crcByte r c k<4294967296
 |0=>Nat.xor_lt_two_pow (n:=32) (by omega) (by omega)
 |k+1=>crcBit_lt (crcByte_lt h hc k)
theorem byte_lt(l:List UInt8)(i:Nat):(l.getD i 0).toNat<256:=(l.getD i 0).toNat_lt
theorem crcAt_lt(l:List UInt8):∀i,crcAt l i<4294967296
 |0=>show 4294967295<4294967296 by decide
 |i+1=>crcByte_lt (crcAt_lt l i) (byte_lt l i) 8
theorem crc_lt(l:List UInt8):crc l<4294967296:=Nat.xor_lt_two_pow (n:=32) (crcAt_lt l _) (by decide)
def Len31(l:List UInt8):Prop:=l.length<=1000000000
def r_check(k:IntKind):Rl:=⟨List UInt8,fun l=>[.bys l],fun l=>.int k (crc l),Len31⟩
def k_l01Check:Con:=.rel (r_check .i64)
def k_check32:Con:=.rel (r_check .u32)
def A_l01Check(l:List UInt8):Nat->Ann
 |0=>.one {i:Nat//i<=l.length} (fun x=>⟨[(0,.bys l),(3,.int .i64 (crcAt l x.1)),(4,.int .i64 x.1)],[]⟩) (fun x=>l.length-x.1) [] [] (fun x=>fun
  |1=>.one {k:Nat//k<=8} (fun y=>⟨[(0,.bys l),(3,.int .i64 (crcByte (crcAt l x.1) (l.getD x.1 0).toNat y.1)),(4,.int .i64 x.1),(5,.int .i64 y.1)],[]⟩) (fun y=>8-y.1) [] [] (fun _=>noAnn)
  |_=>.none)
 |_=>.none
noncomputable def b_l01Check:Code:=Tryz.f267.body.getD .skip
theorem call_l01Check:Callable Tryz.prog 267:=⟨_,Tryz.func267,by kernel_rfl,by kernel_rfl⟩
theorem v_l01Check(l:List UInt8)(h:
  (∃(x:{i:Nat//i<=l.length}),(l=l/\(4294967295:Int)=(↑(crcAt l x.val):Int)/\(0:Int)=(x.val:Int)/\True)/\True)/\∀(x:{i:Nat//i<=l.length}),(decide ((x.val:Int)<(l.length:Int))=true->InB
  (x.val:Int) l.length/\(∃(x_1:{k:Nat//k<=8}),(l=l/\bits BinOp.xor IntKind.i64 (↑(crcAt l x.val):Int) (IntKind.i64.wrap (↑(l.getD (x.val:Int).toNat (0:UInt8)).toNat:Int))=(↑(crcByte (crcAt l x.val) (l.getD
  x.val (0:UInt8)).toNat x_1.val):Int)/\(x.val:Int)=(x.val:Int)/\(0:Int)=(x_1.val:Int)/\True)/\True)/\∀(x_1:{k:Nat//k<=8}),(decide ((x_1.val:Int)<(8:Int))=true->Nn (1:Int)/\Rng .i64 (bits
  BinOp.and IntKind.i64 (↑(crcByte (crcAt l x.val) (l.getD x.val (0:UInt8)).toNat x_1.val):Int) (1:Int)*(3988292384:Int))/\Rng .i64 ((x_1.val:Int)+(1:Int))/\∃(y:{k:Nat//k<=8}),((l=l/\bits BinOp.xor
  IntKind.i64 ((↑(crcByte (crcAt l x.val) (l.getD x.val (0:UInt8)).toNat x_1.val):Int).fdiv (2:Int)) (bits BinOp.and IntKind.i64 (↑(crcByte (crcAt l x.val) (l.getD x.val (0:UInt8)).toNat x_1.val):Int) (1:Int)*
  (3988292384:Int))=(↑(crcByte (crcAt l x.val) (l.getD x.val (0:UInt8)).toNat y.val):Int)/\(x.val:Int)=(x.val:Int)/\(x_1.val:Int)+(1:Int)=(y.val:Int)/\True)/\True)/\Lt (8-y.val) (8-x_1.val))/\(decide
  ((x_1.val:Int)<(8:Int))=false->Rng .i64 ((x.val:Int)+(1:Int))/\∃(y:{i:Nat//i<=l.length}),((l=l/\(↑(crcByte (crcAt l x.val) (l.getD x.val (0:UInt8)).toNat x_1.val):Int)=(↑(crcAt l y.val):Int)/\
  (x.val:Int)+(1:Int)=(y.val:Int)/\True)/\True)/\Lt (l.length-y.val) (l.length-x.val)))/\(decide ((x.val:Int)<(l.length:Int))=false->bits BinOp.xor IntKind.i64 (↑(crcAt l x.val):Int) (4294967295:Int)=(↑(crc
  l):Int))):
  PureFn Tryz.prog 267 [.bys l] (.int .i64 (crc l)):=
 vcR (code:=b_l01Check) gN Tryz.func267 (by kernel_rfl) (by kernel_rfl) (A_l01Check l) h (by kernel_rfl)
def A_check32(l:List UInt8):Nat->Ann
 |0=>.one {i:Nat//i<=l.length} (fun x=>⟨[(3,.int .u32 (crcAt l x.1)),(6,.bys l),(7,.int .i64 l.length),(8,.int .i64 x.1)],[]⟩) (fun x=>l.length-x.1) [] [] (fun x=>fun
  |1=>.one {k:Nat//k<=8} (fun y=>⟨[(3,.int .u32 (crcByte (crcAt l x.1) (l.getD x.1 0).toNat y.1)),(6,.bys l),(7,.int .i64 l.length),(8,.int .i64 x.1),(16,.int .i64 y.1)],[]⟩) (fun y=>8-y.1) [] [] (fun _=>noAnn)
  |_=>.none)
 |_=>.none
noncomputable def b_check32:Code:=Tryz.f271.body.getD .skip
theorem call_check32:Callable Tryz.prog 271:=⟨_,Tryz.func271,by kernel_rfl,by kernel_rfl⟩
theorem v_check32(l:List UInt8)(h:
  (∃(x:{i:Nat//i<=l.length}),((4294967295:Int)=(↑(crcAt l x.val):Int)/\l=l/\(l.length:Int)=(l.length:Int)/\(0:Int)=(x.val:Int)/\True)/\True)/\∀(x:{i:Nat//i<=l.length}),(decide ((x.val:Int)<
  (l.length:Int))=true->InB (x.val:Int) l.length/\(∃(x_1:{k:Nat//k<=8}),(bits BinOp.xor IntKind.u32 (↑(crcAt l x.val):Int) (IntKind.u32.wrap (↑(l.getD (x.val:Int).toNat (0:UInt8)).toNat:Int))=(↑(crcByte (crcAt
  l x.val) (l.getD x.val (0:UInt8)).toNat x_1.val):Int)/\l=l/\(l.length:Int)=(l.length:Int)/\(x.val:Int)=(x.val:Int)/\(0:Int)=(x_1.val:Int)/\True)/\True)/\∀(x_1:{k:Nat//k<=8}),(decide ((x_1.val:Int)<
  (8:Int))=true->((bits BinOp.and IntKind.u32 (↑(crcByte (crcAt l x.val) (l.getD x.val (0:UInt8)).toNat x_1.val):Int) (1:Int)==(1:Int))=true->Nn (1:Int)/\Rng .i64 ((x_1.val:Int)+(1:Int))/\∃(y:{k:Nat
  //k<=8}),((bits BinOp.xor IntKind.u32 ((↑(crcByte (crcAt l x.val) (l.getD x.val (0:UInt8)).toNat x_1.val):Int).fdiv (2:Int)) (3988292384:Int)=(↑(crcByte (crcAt l x.val) (l.getD x.val (0:UInt8)).toNat y.val):Int)
  /\l=l/\(l.length:Int)=(l.length:Int)/\(x.val:Int)=(x.val:Int)/\(x_1.val:Int)+(1:Int)=(y.val:Int)/\True)/\True)/\Lt (8-y.val) (8-x_1.val))/\((bits BinOp.and IntKind.u32 (↑(crcByte (crcAt l x.val) (l.getD
  x.val (0:UInt8)).toNat x_1.val):Int) (1:Int)==(1:Int))=false->Nn (1:Int)/\Rng .i64 ((x_1.val:Int)+(1:Int))/\∃(y:{k:Nat//k<=8}),(((↑(crcByte (crcAt l x.val) (l.getD x.val (0:UInt8)).toNat x_1.val)
  :Int).fdiv (2:Int)=(↑(crcByte (crcAt l x.val) (l.getD x.val (0:UInt8)).toNat y.val):Int)/\l=l/\(l.length:Int)=(l.length:Int)/\(x.val:Int)=(x.val:Int)/\(x_1.val:Int)+(1:Int)=(y.val:Int)/\True)/\True)/\Lt
  (8-y.val) (8-x_1.val)))/\(decide ((x_1.val:Int)<(8:Int))=false->Rng .i64 ((x.val:Int)+(1:Int))/\∃(y:{i:Nat//i<=l.length}),(((↑(crcByte (crcAt l x.val) (l.getD x.val (0:UInt8)).toNat x_1.val):Int)=
  (↑(crcAt l y.val):Int)/\l=l/\(l.length:Int)=(l.length:Int)/\(x.val:Int)+(1:Int)=(y.val:Int)/\True)/\True)/\Lt (l.length-y.val) (l.length-x.val)))/\(decide ((x.val:Int)<(l.length:Int))=false->bits
  BinOp.xor IntKind.u32 (↑(crcAt l x.val):Int) (4294967295:Int)=(↑(crc l):Int))):
  PureFn Tryz.prog 271 [.bys l] (.int .u32 (crc l)):=
 vcR (code:=b_check32) gN Tryz.func271 (by kernel_rfl) (by kernel_rfl) (A_check32 l) h (by kernel_rfl)
theorem and1_32{k:IntKind}(hk:k= .i64∨k= .u32){r:Nat}(hr:r<4294967296):bits .and k (r:Int) 1=((r % 2:Nat):Int):=by
 rw[show(1:Int)=((1:Nat):Int) from rfl,and_32 hk hr (by decide),Nat.and_one_is_mod]
theorem fdiv2(r:Nat):(r:Int).fdiv 2=((r/2:Nat):Int):=by
 rw[Int.fdiv_eq_ediv_of_nonneg _ (by omega)]
 omega
theorem l01Check_ok:ConOk Tryz.prog 267 k_l01Check:=by
 intro(l:List UInt8) (hl:l.length<=1000000000);have k1:IntKind.i64= .i64∨IntKind.i64= .u32:=.inl rfl;refine v_l01Check l ⟨⟨⟨0,Nat.zero_le _⟩,⟨rfl,rfl,rfl,trivial⟩,trivial⟩,fun x=>⟨fun hc=> ?_,fun hc=> ?_⟩⟩
 ·have hlt:=lt_of_dec hc;have hr:=crcAt_lt l x.val;have hb:=byte_lt l x.val;refine⟨inB_nat hlt,⟨⟨0,by omega⟩,⟨rfl,?_,rfl,rfl,trivial⟩,trivial⟩,fun y=>⟨fun hd=> ?_,fun hd=> ?_⟩⟩
  ·rw[Int.toNat_natCast,wrap_32 k1 (by omega),xor_32 k1 hr (by omega)]
   rfl
  ·have hy:y.val<8:=by have:=of_decide_eq_true hd;omega
   have hq:=crcByte_lt hr hb y.val;have hm:crcByte (crcAt l x.val) (l.getD x.val 0).toNat y.val % 2*3988292384<4294967296:=by have:=Nat.mod_lt (crcByte (crcAt l x.val) (l.getD x.val 0).toNat y.val) (show 0<2 by decide);omega
   rw[and1_32 k1 hq,fdiv2,show((crcByte (crcAt l x.val) (l.getD x.val 0).toNat y.val % 2:Nat):Int)*3988292384=((crcByte (crcAt l x.val) (l.getD x.val 0).toNat y.val % 2*3988292384:Nat):Int) by omega,xor_32 k1 (by omega) hm]
   refine⟨by unfold Nn;omega,i64_rng (by omega),i64_rng (by omega),⟨y.val+1,hy⟩,⟨⟨rfl,rfl,rfl,by simp only;omega,trivial⟩,trivial⟩,by unfold Lt;simp only;omega⟩
  ·have hy:y.val=8:=by have:=y.2;have:=of_decide_eq_false hd;omega
   refine⟨add_rng hlt (by omega),⟨x.val+1,hlt⟩,⟨⟨rfl,?_,by simp only;omega,trivial⟩,trivial⟩,Cnt.ext_lt hlt⟩
   rw[hy];rfl
 ·have hx:x.val=l.length:=by have:=x.2;have:=le_of_not hc;omega
  rw[hx,show(4294967295:Int)=((4294967295:Nat):Int) from rfl,xor_32 k1 (crcAt_lt l _) (by decide)]
  rfl
theorem check32_ok:ConOk Tryz.prog 271 k_check32:=by
 intro(l:List UInt8) (hl:l.length<=1000000000);have k1:IntKind.u32= .i64∨IntKind.u32= .u32:=.inr rfl;refine v_check32 l ⟨⟨⟨0,Nat.zero_le _⟩,⟨rfl,rfl,rfl,rfl,trivial⟩,trivial⟩,fun x=>⟨fun hc=> ?_,fun hc=> ?_⟩⟩
 ·have hlt:=lt_of_dec hc;have hr:=crcAt_lt l x.val;have hb:=byte_lt l x.val;refine⟨inB_nat hlt,⟨⟨0,by omega⟩,⟨?_,rfl,rfl,rfl,rfl,trivial⟩,trivial⟩,fun y=>⟨fun hd=> ?_,fun hd=> ?_⟩⟩
  ·rw[Int.toNat_natCast,wrap_32 k1 (by omega),xor_32 k1 hr (by omega)]
   rfl
  ·have hy:y.val<8:=by have:=of_decide_eq_true hd;omega
   have hq:=crcByte_lt hr hb y.val;rw[and1_32 k1 hq,fdiv2];refine⟨fun ho=>⟨by unfold Nn;omega,i64_rng (by omega),⟨y.val+1,hy⟩,⟨⟨?_,rfl,rfl,rfl,by simp only;omega,trivial⟩,trivial⟩,by unfold Lt;simp only;omega⟩,
    fun ho=>⟨by unfold Nn;omega,i64_rng (by omega),⟨y.val+1,hy⟩,⟨⟨?_,rfl,rfl,rfl,by simp only;omega,trivial⟩,trivial⟩,by unfold Lt;simp only;omega⟩⟩
   ·have ho:crcByte (crcAt l x.val) (l.getD x.val 0).toNat y.val % 2=1:=by rw[beq_iff_eq] at ho;omega
    rw[show(3988292384:Int)=((3988292384:Nat):Int) from rfl,xor_32 k1 (by omega) (by decide)]
    simp only[crcByte,crcBit,ho,Nat.one_mul]
   ·have ho:crcByte (crcAt l x.val) (l.getD x.val 0).toNat y.val % 2=0:=by
     have:¬ ((crcByte (crcAt l x.val) (l.getD x.val 0).toNat y.val % 2:Nat):Int)=1:=by simpa using ho
     omega
    simp only[crcByte,crcBit,ho,Nat.zero_mul,Nat.xor_zero]
  ·have hy:y.val=8:=by have:=y.2;have:=of_decide_eq_false hd;omega
   refine⟨add_rng hlt (by omega),⟨x.val+1,hlt⟩,⟨⟨?_,rfl,rfl,by simp only;omega,trivial⟩,trivial⟩,Cnt.ext_lt hlt⟩
   rw[hy];rfl
 ·have hx:x.val=l.length:=by have:=x.2;have:=le_of_not hc;omega
  rw[hx,show(4294967295:Int)=((4294967295:Nat):Int) from rfl,xor_32 k1 (crcAt_lt l _) (by decide)]
  rfl
end Go.Proofs.YtokaojbaacnngaaGreat

namespace Go.Proofs.YtokaojbaacnngaaGreat
set_option maxRecDepth 100000
open Go.SS

def beAt(l:List UInt8):Nat->Nat
 |0=>0
 |i+1=>beAt l i*256+(l.getD i 0).toNat
def be(l:List UInt8):Nat:=beAt l l.length
def Len4(l:List UInt8):Prop:=l.length<=4
def r_big:Rl:=⟨List UInt8,fun l=>[.bys l],fun l=>.int .i64 (be l),Len4⟩
def k_big:Con:=.rel r_big
def r_l01Of:Rl:=⟨List UInt8,fun l=>[.str l],fun l=>.int .i64 (be l),Len4⟩
def k_l01Of:Con:=.rel r_l01Of
def A_l01Of(l:List UInt8):Nat->Ann
 |0=>.one {i:Nat//i<=l.length} (fun x=>⟨[(0,.str l),(3,.int .i64 (beAt l x.1)),(4,.int .i64 x.1)],[]⟩) (fun x=>l.length-x.1) [] [] (fun _=>noAnn)
 |_=>.none
noncomputable def b_l01Of:Code:=Tryz.f250.body.getD .skip
theorem call_l01Of:Callable Tryz.prog 250:=⟨_,Tryz.func250,by kernel_rfl,by kernel_rfl⟩
theorem v_l01Of(l:List UInt8)(h:
  (∃(x:{i:Nat//i<=l.length}),(l=l/\(0:Int)=(↑(beAt l x.val):Int)/\(0:Int)=(x.val:Int)/\True)/\True)/\∀(x:{i:Nat//i<=l.length}),(decide ((x.val:Int)<(l.length:Int))=true->Rng .i64 ((↑(beAt
  l x.val):Int)*(256:Int))/\InB (x.val:Int) l.length/\Rng .i64 ((↑(beAt l x.val):Int)*(256:Int)+IntKind.i64.wrap (↑(l.getD (x.val:Int).toNat (0:UInt8)).toNat:Int))/\Rng .i64 ((x.val:Int)+(1:Int))/\∃(y:{
  i:Nat//i<=l.length}),((l=l/\(↑(beAt l x.val):Int)*(256:Int)+IntKind.i64.wrap (↑(l.getD (x.val:Int).toNat (0:UInt8)).toNat:Int)=(↑(beAt l y.val):Int)/\(x.val:Int)+(1:Int)=(y.val:Int)/\True)/\True)
  /\Lt (l.length-y.val) (l.length-x.val))/\(decide ((x.val:Int)<(l.length:Int))=false->(↑(beAt l x.val):Int)=(↑(be l):Int))):
  PureFn Tryz.prog 250 [.str l] (.int .i64 (be l)):=
 vcR (code:=b_l01Of) gN Tryz.func250 (by kernel_rfl) (by kernel_rfl) (A_l01Of l) h (by kernel_rfl)
def A_big(l:List UInt8):Nat->Ann
 |0=>.one {i:Nat//i<=l.length} (fun x=>⟨[(3,.int .i64 (beAt l x.1)),(6,.bys l),(7,.int .i64 l.length),(8,.int .i64 x.1)],[]⟩) (fun x=>l.length-x.1) [] [] (fun _=>noAnn)
 |_=>.none
noncomputable def b_big:Code:=Tryz.f257.body.getD .skip
theorem call_big:Callable Tryz.prog 257:=⟨_,Tryz.func257,by kernel_rfl,by kernel_rfl⟩
theorem v_big(l:List UInt8)(h:
  (∃(x:{i:Nat//i<=l.length}),((0:Int)=(↑(beAt l x.val):Int)/\l=l/\(l.length:Int)=(l.length:Int)/\(0:Int)=(x.val:Int)/\True)/\True)/\∀(x:{i:Nat//i<=l.length}),(decide ((x.val:Int)<
  (l.length:Int))=true->InB (x.val:Int) l.length/\Nn (8:Int)/\Rng .i64 ((x.val:Int)+(1:Int))/\∃(y:{i:Nat//i<=l.length}),((bits BinOp.or IntKind.i64 (IntKind.i64.wrap ((↑(beAt l x.val):Int)*(256:Int)))
  (IntKind.i64.wrap (↑(l.getD (x.val:Int).toNat (0:UInt8)).toNat:Int))=(↑(beAt l y.val):Int)/\l=l/\(l.length:Int)=(l.length:Int)/\(x.val:Int)+(1:Int)=(y.val:Int)/\True)/\True)/\Lt (l.length-y.val) (l.length
  -x.val))/\(decide ((x.val:Int)<(l.length:Int))=false->(↑(beAt l x.val):Int)=(↑(be l):Int))):
  PureFn Tryz.prog 257 [.bys l] (.int .i64 (be l)):=
 vcR (code:=b_big) gN Tryz.func257 (by kernel_rfl) (by kernel_rfl) (A_big l) h (by kernel_rfl)
theorem u8_rng(x:Int):Rng .u8 (IntKind.u8.wrap x):=by
 rw[IntKind.wrap_u8];unfold Rng IntKind.min IntKind.max IntKind.signed IntKind.bits;have:=Int.emod_nonneg x (show(256:Int)≠0 by decide)
 have:=Int.emod_lt_of_pos x (show(0:Int)<256 by decide)
 simp;omega
theorem byte_nat(l:List UInt8)(i:Nat):IntKind.i64.wrap ((l.getD i 0).toNat:Int)=((l.getD i 0).toNat:Int):=wrap_byte _
theorem beAt_lt(l:List UInt8):∀i,beAt l i<256 ^ i
 |0=>by simp[beAt]
 |i+1=>by
  have h1:=beAt_lt l i;have h2:=byte_lt l i;simp only[beAt,Nat.pow_succ];omega
theorem beAt_le3(l:List UInt8){i:Nat}(h:i<4):beAt l i<16777216:=
 Nat.lt_of_lt_of_le (beAt_lt l i) (Nat.pow_le_pow_right (n:=256) (by decide) (show i<=3 by omega))
theorem l01Of_ok:ConOk Tryz.prog 250 k_l01Of:=by
 intro(l:List UInt8) (hl:l.length<=4);refine v_l01Of l ⟨⟨⟨0,Nat.zero_le _⟩,⟨rfl,rfl,rfl,trivial⟩,trivial⟩,fun x=>⟨fun hc=> ?_,fun hc=> ?_⟩⟩
 ·have hlt:=lt_of_dec hc;have hb:=byte_lt l x.val;have hr:=beAt_le3 l (show x.val<4 by omega)
  rw[Int.toNat_natCast,byte_nat];refine⟨i64_rng (by omega),inB_nat hlt,i64_rng (by omega),add_rng hlt (by omega),⟨x.val+1,hlt⟩,⟨⟨rfl,?_,by simp only;omega,trivial⟩,trivial⟩,Cnt.ext_lt hlt⟩
  simp only[beAt];omega
 ·have hx:x.val=l.length:=by have:=x.2;have:=le_of_not hc;omega
  rw[hx];rfl
theorem big_ok:ConOk Tryz.prog 257 k_big:=by
 intro(l:List UInt8) (hl:l.length<=4);refine v_big l ⟨⟨⟨0,Nat.zero_le _⟩,⟨rfl,rfl,rfl,rfl,trivial⟩,trivial⟩,fun x=>⟨fun hc=> ?_,fun hc=> ?_⟩⟩
 ·have hlt:=lt_of_dec hc;have hb:=byte_lt l x.val;have hr:=beAt_le3 l (show x.val<4 by omega)
  rw[Int.toNat_natCast,byte_nat,show((beAt l x.val:Nat):Int)*256=((beAt l x.val*256:Nat):Int) by omega,wrap_32 (.inl rfl) (by omega),or_32 (.inl rfl) (by omega) (by omega)]
  refine⟨inB_nat hlt,by unfold Nn;omega,add_rng hlt (by omega),⟨x.val+1,hlt⟩,⟨⟨?_,rfl,rfl,by simp only;omega,trivial⟩,trivial⟩,Cnt.ext_lt hlt⟩
  have:=Nat.two_pow_add_eq_or_of_lt (i:=8) (b:=(l.getD x.val 0).toNat) hb (beAt l x.val);rw[show beAt l x.val*256=2 ^ 8*beAt l x.val by omega,←this]
  simp only[beAt];omega
 ·have hx:x.val=l.length:=by have:=x.2;have:=le_of_not hc;omega
  rw[hx];rfl
def unsOK(b:List UInt8):Bool:=decide (4<=b.length)&&crc (b.take (b.length-4))==be (b.drop (b.length-4))
def unsB(b:List UInt8):List UInt8:=if unsOK b then b.take (b.length-4) else[]
def r_unsealed:Rl:=⟨List UInt8,fun b=>[.bys b],fun b=>.tup [.bys (unsB b),.bool (unsOK b)],Len31⟩
def k_unsealed:Con:=.rel r_unsealed
noncomputable def b_unsealed:Code:=Tryz.f255.body.getD .skip
theorem call_unsealed:Callable Tryz.prog 255:=⟨_,Tryz.func255,by kernel_rfl,by kernel_rfl⟩
theorem v_unsealed(b:List UInt8)(h:
  Rng .i64 ((b.length:Int)- (4:Int))/\(decide ((b.length:Int)- (4:Int)<(0:Int))=false->InC ((b.length:Int)- (4:Int)) b.length)/\∃(x:(r_check IntKind.u32).ι),(decide ((b.length:Int)- (4:Int)<(0:Int))=
  false->(List.take ((b.length:Int)- (4:Int)).toNat b=x/\True)/\Len31 x)/\(decide ((b.length:Int)- (4:Int)<(0:Int))=false->InC ((b.length:Int)- (4:Int)) b.length)/\∃(x_1:r_big.ι),(decide ((b.length:Int)-
  (4:Int)<(0:Int))=false->(List.drop ((b.length:Int)- (4:Int)).toNat b=x_1/\True)/\Len4 x_1)/\((decide ((b.length:Int)- (4:Int)<(0:Int))||IntKind.i64.wrap (↑(crc x):Int) !=(↑(be x_1):Int))=true->
  unsB b=[]/\false=unsOK b/\True)/\((decide ((b.length:Int)- (4:Int)<(0:Int))||IntKind.i64.wrap (↑(crc x):Int) !=(↑(be x_1):Int))=false->InC ((b.length:Int)- (4:Int)) b.length/\List.take ((b.length:Int)-
  (4:Int)).toNat b=unsB b/\true=unsOK b/\True)):
  PureFn Tryz.prog 255 [.bys b] (.tup [.bys (unsB b),.bool (unsOK b)]):=
 vcR (code:=b_unsealed) (gC check32_ok call_check32 (gC big_ok call_big gN)) Tryz.func255 (by kernel_rfl) (by kernel_rfl) noAnn h (by kernel_rfl)
def r_unseal:Rl:=⟨List UInt8,fun b=>[.str b],fun b=>.tup [.str (unsB b),.bool (unsOK b)],Len31⟩
def k_l03Unseal:Con:=.rel r_unseal
noncomputable def b_l03Unseal:Code:=Tryz.f230.body.getD .skip
theorem call_l03Unseal:Callable Tryz.prog 230:=⟨_,Tryz.func230,by kernel_rfl,by kernel_rfl⟩
theorem v_l03Unseal(b:List UInt8)(h:
  Rng .i64 ((b.length:Int)- (4:Int))/\(decide ((b.length:Int)- (4:Int)<(0:Int))=false->InC ((b.length:Int)- (4:Int)) b.length)/\(decide ((b.length:Int)- (4:Int)<(0:Int))=false->Lt (List.take
  ((b.length:Int)- (4:Int)).toNat b).length 140737488355329)/\∃(x:(r_check IntKind.i64).ι),(decide ((b.length:Int)- (4:Int)<(0:Int))=false->(List.take ((b.length:Int)- (4:Int)).toNat b=x/\True)/\Len31 x)/\
  (decide ((b.length:Int)- (4:Int)<(0:Int))=false->InC ((b.length:Int)- (4:Int)) b.length)/\∃(x_1:r_l01Of.ι),(decide ((b.length:Int)- (4:Int)<(0:Int))=false->(List.drop ((b.length:Int)- (4:Int)).toNat
  b=x_1/\True)/\Len4 x_1)/\((decide ((b.length:Int)- (4:Int)<(0:Int))||(↑(crc x):Int) !=(↑(be x_1):Int))=true->[]=unsB b/\false=unsOK b/\True)/\((decide ((b.length:Int)- (4:Int)<(0:Int))||(↑(crc
  x):Int) !=(↑(be x_1):Int))=false->InC ((b.length:Int)- (4:Int)) b.length/\List.take ((b.length:Int)- (4:Int)).toNat b=unsB b/\true=unsOK b/\True)):
  PureFn Tryz.prog 230 [.str b] (.tup [.str (unsB b),.bool (unsOK b)]):=
 vcR (code:=b_l03Unseal) (gC l01Check_ok call_l01Check (gC l01Of_ok call_l01Of gN)) Tryz.func230 (by kernel_rfl) (by kernel_rfl) noAnn h (by kernel_rfl)
theorem unsealed_ok:ConOk Tryz.prog 255 k_unsealed:=by
 intro(b:List UInt8) (hl:b.length<=1000000000);have hd:∀{p:Prop},(decide ((b.length:Int)-4<0)=false->p)↔(4<=b.length->p):=fun{p}=>⟨fun h g=>h (decide_eq_false (by omega)),fun h g=>h (by have:=of_decide_eq_false g;omega)⟩
 refine v_unsealed b ?_
 refine⟨i64_rng (by omega),hd.2 fun h4=>⟨by omega,by omega⟩,b.take (b.length-4),hd.2 ?_,hd.2 fun h4=>⟨by omega,by omega⟩,b.drop (b.length-4),hd.2 ?_,?_⟩
 ·exact fun h4=>⟨⟨by rw[show((b.length:Int)-4).toNat=b.length-4 by omega],trivial⟩,by unfold Len31;simp;omega⟩
 ·exact fun h4=>⟨⟨by rw[show((b.length:Int)-4).toNat=b.length-4 by omega],trivial⟩,by unfold Len4;simp;omega⟩
 have e:(decide ((b.length:Int)-4<0)||IntKind.i64.wrap (crc (b.take (b.length-4)):Int) !=(be (b.drop (b.length-4)):Int))= !unsOK b:=by
  rw[wrap_32 (.inl rfl) (crc_lt _)];unfold unsOK;rw[Bool.eq_iff_iff];simp;omega
 rw[e];refine⟨fun h=> ?_,fun h=> ?_⟩
 ·have h:unsOK b=false:=by simpa using h
  exact⟨by simp[unsB,h],h.symm,trivial⟩
 ·have h:unsOK b=true:=by simpa using h
  have h4:4<=b.length:=by simp[unsOK] at h;exact h.1
  exact⟨⟨by omega,by omega⟩,by rw[show((b.length:Int)-4).toNat=b.length-4 by omega];simp[unsB,h],h.symm,trivial⟩
theorem l03Unseal_ok:ConOk Tryz.prog 230 k_l03Unseal:=by
 intro(b:List UInt8) (hl:b.length<=1000000000);have hd:∀{p:Prop},(decide ((b.length:Int)-4<0)=false->p)↔(4<=b.length->p):=fun{p}=>⟨fun h g=>h (decide_eq_false (by omega)),fun h g=>h (by have:=of_decide_eq_false g;omega)⟩
 refine v_l03Unseal b ?_
 refine⟨i64_rng (by omega),hd.2 fun h4=>⟨by omega,by omega⟩,hd.2 fun h4=>by unfold Lt;simp;omega,b.take (b.length-4),hd.2 ?_,hd.2 fun h4=>⟨by omega,by omega⟩,b.drop (b.length-4),hd.2 ?_,?_⟩
 ·exact fun h4=>⟨⟨by rw[show((b.length:Int)-4).toNat=b.length-4 by omega],trivial⟩,by unfold Len31;simp;omega⟩
 ·exact fun h4=>⟨⟨by rw[show((b.length:Int)-4).toNat=b.length-4 by omega],trivial⟩,by unfold Len4;simp;omega⟩
 have e:(decide ((b.length:Int)-4<0)||(crc (b.take (b.length-4)):Int) !=(be (b.drop (b.length-4)):Int))= !unsOK b:=by
  unfold unsOK;rw[Bool.eq_iff_iff];simp;omega
 rw[e];refine⟨fun h=> ?_,fun h=> ?_⟩
 ·have h:unsOK b=false:=by simpa using h
  exact⟨by simp[unsB,h],h.symm,trivial⟩
 ·have h:unsOK b=true:=by simpa using h
  have h4:4<=b.length:=by simp[unsOK] at h;exact h.1
  exact⟨⟨by omega,by omega⟩,by rw[show((b.length:Int)-4).toNat=b.length-4 by omega];simp[unsB,h],h.symm,trivial⟩
end Go.Proofs.YtokaojbaacnngaaGreat

