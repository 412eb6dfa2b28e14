/- A part of the proof. -/
import Derived.Test.YtokaojbaacnngaaGreatD8
import Derived.Laws.BitsLemmas
namespace Go.Proofs.YtokaojbaacnngaaGreat
set_option maxRecDepth 100000
open Go.SS

theorem c4x{a b:Nat}(ha:a<4294967296)(hb:b<4294967296):a ^^^ b<4294967296:=Nat.xor_lt_two_pow (n:=32) ha hb
theorem c4l{a b:Nat}(hb:b<4294967296):a&&&b<4294967296:=Nat.and_lt_two_pow (n:=32) a hb
theorem d2u{a b:Nat}(ha:a<4294967296)(hb:b<4294967296):a|||b<4294967296:=Nat.or_lt_two_pow (n:=32) ha hb
theorem g8{k:IntKind}(hk:k= .i64∨k= .u32){n:Nat}(hn:n<4294967296):(BitVec.ofInt k.bits (n:Int)).toNat=n:=by
 rw[BitVec.ofInt_natCast,BitVec.toNat_ofNat];refine Nat.mod_eq_of_lt ?_
 rcases hk with rfl|rfl
 ·exact Nat.lt_trans hn (by decide)
 ·exact hn
theorem a0q{k:IntKind}(hk:k= .i64∨k= .u32){n:Nat}(hn:n<4294967296):k.wrap (n:Int)=n:=by
 rcases hk with rfl|rfl
 ·rw[IntKind.wrap_i64];omega
 ·rw[IntKind.wrap_u32];omega
theorem a2O{k:IntKind}(hk:k= .i64∨k= .u32){a b:Nat}(ha:a<4294967296)(hb:b<4294967296):bits .xor k (a:Int) (b:Int)=((a ^^^ b:Nat):Int):=by
 show k.wrap ((BitVec.ofInt k.bits (a:Int) ^^^ BitVec.ofInt k.bits (b:Int)).toNat:Int)=_;rw[BitVec.toNat_xor,g8 hk ha,g8 hk hb,a0q hk (c4x ha hb)]
theorem d5l{k:IntKind}(hk:k= .i64∨k= .u32){a b:Nat}(ha:a<4294967296)(hb:b<4294967296):bits .and k (a:Int) (b:Int)=((a&&&b:Nat):Int):=by
 show k.wrap ((BitVec.ofInt k.bits (a:Int)&&&BitVec.ofInt k.bits (b:Int)).toNat:Int)=_;rw[BitVec.toNat_and,g8 hk ha,g8 hk hb,a0q hk (c4l hb)]
theorem d6W{k:IntKind}(hk:k= .i64∨k= .u32){a b:Nat}(ha:a<4294967296)(hb:b<4294967296):bits .or k (a:Int) (b:Int)=((a|||b:Nat):Int):=by
 show k.wrap ((BitVec.ofInt k.bits (a:Int)|||BitVec.ofInt k.bits (b:Int)).toNat:Int)=_;rw[BitVec.toNat_or,g8 hk ha,g8 hk hb,a0q hk (d2u ha hb)]
def a8M(r:Nat):Nat:=(r/2) ^^^ (r % 2*3988292384)
def S4(r c:Nat):Nat->Nat
 |0=>r ^^^ c
 |k+1=>a8M (S4 r c k)
def P3(l:List UInt8):Nat->Nat
 |0=>4294967295
 |i+1=>S4 (P3 l i) (l.getD i 0).toNat 8
def crc(l:List UInt8):Nat:=P3 l l.length ^^^ 4294967295
theorem c22{r:Nat}(h:r<4294967296):a8M r<4294967296:=by
 have:r % 2*3988292384<2 ^ 32:=by have:=Nat.mod_lt r (show 0<2 by decide);omega
 exact Nat.xor_lt_two_pow (n:=32) (by omega) this
theorem a0z{r c:Nat}(h:r<4294967296)(hc:c<256):∀k,S4 r c k<4294967296
 |0=>Nat.xor_lt_two_pow (n:=32) (by omega) (by omega)
 |k+1=>c22 (a0z h hc k)
theorem k9(l:List UInt8)(i:Nat):(l.getD i 0).toNat<256:=(l.getD i 0).toNat_lt
theorem i5(l:List UInt8):∀i,P3 l i<4294967296
 |0=>show 4294967295<4294967296 by decide
 |i+1=>a0z (i5 l i) (k9 l i) 8
theorem c66(l:List UInt8):crc l<4294967296:=Nat.xor_lt_two_pow (n:=32) (i5 l _) (by decide)
def I7(l:List UInt8):Prop:=l.length<=1000000000
def a02(k:IntKind):Rl:=⟨List UInt8,fun l=>[.bys l],fun l=>.int k (crc l),I7⟩
def b24:Con:=.rel (a02 .i64)
def c2l:Con:=.rel (a02 .u32)
def b69(l:List UInt8):Nat->Ann
 |0=>.one {i:Nat//i<=l.length} (fun x=>⟨[(0,.bys l),(3,.int .i64 (P3 l x.1)),(4,.int .i64 x.1)],[]⟩) (fun x=>l.length-x.1) [] [] (fun x=>fun
  |1=>.one {k:Nat//k<=8} (fun y=>⟨[(0,.bys l),(3,.int .i64 (S4 (P3 l x.1) (l.getD x.1 0).toNat y.1)),(4,.int .i64 x.1),(5,.int .i64 y.1)],[]⟩) (fun y=>8-y.1) [] [] (fun _=>Z0)
  |_=>.none)
 |_=>.none
noncomputable def b6Y:Code:=Tryz.f267.body.getD .skip
theorem a1w:Z8 Tryz.prog 267:=⟨_,Tryz.func267,by kernel_rfl,by kernel_rfl⟩
theorem b6D(l:List UInt8)(h:
  (∃(x:{i:Nat//i<=l.length}),(l=l/\(4294967295:Int)=(↑(P3 l x.val):Int)/\(0:Int)=(x.val:Int)/\True)/\True)/\∀(x:{i:Nat//i<=l.length}),(decide ((x.val:Int)<(l.length:Int))=true->W7
  (x.val:Int) l.length/\(∃(x_1:{k:Nat//k<=8}),(l=l/\bits BinOp.xor IntKind.i64 (↑(P3 l x.val):Int) (IntKind.i64.wrap (↑(l.getD (x.val:Int).toNat (0:UInt8)).toNat:Int))=(↑(S4 (P3 l x.val) (l.getD
  x.val (0:UInt8)).toNat x_1.val):Int)/\(x.val:Int)=(x.val:Int)/\(0:Int)=(x_1.val:Int)/\True)/\True)/\∀(x_1:{k:Nat//k<=8}),(decide ((x_1.val:Int)<(8:Int))=true->Nn (1:Int)/\X6 .i64 (bits
  BinOp.and IntKind.i64 (↑(S4 (P3 l x.val) (l.getD x.val (0:UInt8)).toNat x_1.val):Int) (1:Int)*(3988292384:Int))/\X6 .i64 ((x_1.val:Int)+(1:Int))/\∃(y:{k:Nat//k<=8}),((l=l/\bits BinOp.xor
  IntKind.i64 ((↑(S4 (P3 l x.val) (l.getD x.val (0:UInt8)).toNat x_1.val):Int).fdiv (2:Int)) (bits BinOp.and IntKind.i64 (↑(S4 (P3 l x.val) (l.getD x.val (0:UInt8)).toNat x_1.val):Int) (1:Int)*
  (3988292384:Int))=(↑(S4 (P3 l x.val) (l.getD x.val (0:UInt8)).toNat y.val):Int)/\(x.val:Int)=(x.val:Int)/\(x_1.val:Int)+(1:Int)=(y.val:Int)/\True)/\True)/\Lt (8-y.val) (8-x_1.val))/\(decide
  ((x_1.val:Int)<(8:Int))=false->X6 .i64 ((x.val:Int)+(1:Int))/\∃(y:{i:Nat//i<=l.length}),((l=l/\(↑(S4 (P3 l x.val) (l.getD x.val (0:UInt8)).toNat x_1.val):Int)=(↑(P3 l y.val):Int)/\
  (x.val:Int)+(1:Int)=(y.val:Int)/\True)/\True)/\Lt (l.length-y.val) (l.length-x.val)))/\(decide ((x.val:Int)<(l.length:Int))=false->bits BinOp.xor IntKind.i64 (↑(P3 l x.val):Int) (4294967295:Int)=(↑(crc
  l):Int))):
  Z1 Tryz.prog 267 [.bys l] (.int .i64 (crc l)):=
 T7 (code:=b6Y) gN Tryz.func267 (by kernel_rfl) (by kernel_rfl) (b69 l) h (by kernel_rfl)
def c1m(l:List UInt8):Nat->Ann
 |0=>.one {i:Nat//i<=l.length} (fun x=>⟨[(3,.int .u32 (P3 l x.1)),(6,.bys l),(7,.int .i64 l.length),(8,.int .i64 x.1)],[]⟩) (fun x=>l.length-x.1) [] [] (fun x=>fun
  |1=>.one {k:Nat//k<=8} (fun y=>⟨[(3,.int .u32 (S4 (P3 l x.1) (l.getD x.1 0).toNat y.1)),(6,.bys l),(7,.int .i64 l.length),(8,.int .i64 x.1),(16,.int .i64 y.1)],[]⟩) (fun y=>8-y.1) [] [] (fun _=>Z0)
  |_=>.none)
 |_=>.none
noncomputable def b9i:Code:=Tryz.f271.body.getD .skip
theorem a2l:Z8 Tryz.prog 271:=⟨_,Tryz.func271,by kernel_rfl,by kernel_rfl⟩
theorem c1s(l:List UInt8)(h:
  (∃(x:{i:Nat//i<=l.length}),((4294967295:Int)=(↑(P3 l x.val):Int)/\l=l/\(l.length:Int)=(l.length:Int)/\(0:Int)=(x.val:Int)/\True)/\True)/\∀(x:{i:Nat//i<=l.length}),(decide ((x.val:Int)<
  (l.length:Int))=true->W7 (x.val:Int) l.length/\(∃(x_1:{k:Nat//k<=8}),(bits BinOp.xor IntKind.u32 (↑(P3 l x.val):Int) (IntKind.u32.wrap (↑(l.getD (x.val:Int).toNat (0:UInt8)).toNat:Int))=(↑(S4 (P3
  l x.val) (l.getD x.val (0:UInt8)).toNat x_1.val):Int)/\l=l/\(l.length:Int)=(l.length:Int)/\(x.val:Int)=(x.val:Int)/\(0:Int)=(x_1.val:Int)/\True)/\True)/\∀(x_1:{k:Nat//k<=8}),(decide ((x_1.val:Int)<
  (8:Int))=true->((bits BinOp.and IntKind.u32 (↑(S4 (P3 l x.val) (l.getD x.val (0:UInt8)).toNat x_1.val):Int) (1:Int)==(1:Int))=true->Nn (1:Int)/\X6 .i64 ((x_1.val:Int)+(1:Int))/\∃(y:{k:Nat
  //k<=8}),((bits BinOp.xor IntKind.u32 ((↑(S4 (P3 l x.val) (l.getD x.val (0:UInt8)).toNat x_1.val):Int).fdiv (2:Int)) (3988292384:Int)=(↑(S4 (P3 l x.val) (l.getD x.val (0:UInt8)).toNat y.val):Int)
  /\l=l/\(l.length:Int)=(l.length:Int)/\(x.val:Int)=(x.val:Int)/\(x_1.val:Int)+(1:Int)=(y.val:Int)/\True)/\True)/\Lt (8-y.val) (8-x_1.val))/\((bits BinOp.and IntKind.u32 (↑(S4 (P3 l x.val) (l.getD
  x.val (0:UInt8)).toNat x_1.val):Int) (1:Int)==(1:Int))=false->Nn (1:Int)/\X6 .i64 ((x_1.val:Int)+(1:Int))/\∃(y:{k:Nat//k<=8}),(((↑(S4 (P3 l x.val) (l.getD x.val (0:UInt8)).toNat x_1.val)
  :Int).fdiv (2:Int)=(↑(S4 (P3 l x.val) (l.getD x.val (0:UInt8)).toNat y.val):Int)/\l=l/\(l.length:Int)=(l.length:Int)/\(x.val:Int)=(x.val:Int)/\(x_1.val:Int)+(1:Int)=(y.val:Int)/\True)/\True)/\Lt
  (8-y.val) (8-x_1.val)))/\(decide ((x_1.val:Int)<(8:Int))=false->X6 .i64 ((x.val:Int)+(1:Int))/\∃(y:{i:Nat//i<=l.length}),(((↑(S4 (P3 l x.val) (l.getD x.val (0:UInt8)).toNat x_1.val):Int)=
  (↑(P3 l y.val):Int)/\l=l/\(l.length:Int)=(l.length:Int)/\(x.val:Int)+(1:Int)=(y.val:Int)/\True)/\True)/\Lt (l.length-y.val) (l.length-x.val)))/\(decide ((x.val:Int)<(l.length:Int))=false->bits
  BinOp.xor IntKind.u32 (↑(P3 l x.val):Int) (4294967295:Int)=(↑(crc l):Int))):
  Z1 Tryz.prog 271 [.bys l] (.int .u32 (crc l)):=
 T7 (code:=b9i) gN Tryz.func271 (by kernel_rfl) (by kernel_rfl) (c1m l) h (by kernel_rfl)
theorem b8c{k:IntKind}(hk:k= .i64∨k= .u32){r:Nat}(hr:r<4294967296):bits .and k (r:Int) 1=((r % 2:Nat):Int):=by
 rw[show(1:Int)=((1:Nat):Int) from rfl,d5l hk hr (by decide),Nat.and_one_is_mod]
theorem d3j(r:Nat):(r:Int).fdiv 2=((r/2:Nat):Int):=by
 rw[Int.fdiv_eq_ediv_of_nonneg _ (by omega)]
 omega
theorem a3d:Z2 Tryz.prog 267 b24:=by
 intro(l:List UInt8) (hl:l.length<=1000000000);have k1:IntKind.i64= .i64∨IntKind.i64= .u32:=.inl rfl;refine b6D l ⟨⟨⟨0,Nat.zero_le _⟩,⟨rfl,rfl,rfl,trivial⟩,trivial⟩,fun x=>⟨fun hc=> ?_,fun hc=> ?_⟩⟩
 ·have hlt:=Y6 hc;have hr:=i5 l x.val;have hb:=k9 l x.val;refine⟨Y8 hlt,⟨⟨0,by omega⟩,⟨rfl,?_,rfl,rfl,trivial⟩,trivial⟩,fun y=>⟨fun hd=> ?_,fun hd=> ?_⟩⟩
  ·rw[Int.toNat_natCast,a0q k1 (by omega),a2O k1 hr (by omega)]
   rfl
  ·have hy:y.val<8:=by have:=of_decide_eq_true hd;omega
   have hq:=a0z hr hb y.val;have hm:S4 (P3 l x.val) (l.getD x.val 0).toNat y.val % 2*3988292384<4294967296:=by have:=Nat.mod_lt (S4 (P3 l x.val) (l.getD x.val 0).toNat y.val) (show 0<2 by decide);omega
   rw[b8c k1 hq,d3j,show((S4 (P3 l x.val) (l.getD x.val 0).toNat y.val % 2:Nat):Int)*3988292384=((S4 (P3 l x.val) (l.getD x.val 0).toNat y.val % 2*3988292384:Nat):Int) by omega,a2O k1 (by omega) hm]
   refine⟨by unfold Nn;omega,Z5 (by omega),Z5 (by omega),⟨y.val+1,hy⟩,⟨⟨rfl,rfl,rfl,by simp only;omega,trivial⟩,trivial⟩,by unfold Lt;simp only;omega⟩
  ·have hy:y.val=8:=by have:=y.2;have:=of_decide_eq_false hd;omega
   refine⟨W8 hlt (by omega),⟨x.val+1,hlt⟩,⟨⟨rfl,?_,by simp only;omega,trivial⟩,trivial⟩,W5.ext_lt hlt⟩
   rw[hy];rfl
 ·have hx:x.val=l.length:=by have:=x.2;have:=Y2 hc;omega
  rw[hx,show(4294967295:Int)=((4294967295:Nat):Int) from rfl,a2O k1 (i5 l _) (by decide)]
  rfl
theorem a33:Z2 Tryz.prog 271 c2l:=by
 intro(l:List UInt8) (hl:l.length<=1000000000);have k1:IntKind.u32= .i64∨IntKind.u32= .u32:=.inr rfl;refine c1s l ⟨⟨⟨0,Nat.zero_le _⟩,⟨rfl,rfl,rfl,rfl,trivial⟩,trivial⟩,fun x=>⟨fun hc=> ?_,fun hc=> ?_⟩⟩
 ·have hlt:=Y6 hc;have hr:=i5 l x.val;have hb:=k9 l x.val;refine⟨Y8 hlt,⟨⟨0,by omega⟩,⟨?_,rfl,rfl,rfl,rfl,trivial⟩,trivial⟩,fun y=>⟨fun hd=> ?_,fun hd=> ?_⟩⟩
  ·rw[Int.toNat_natCast,a0q k1 (by omega),a2O k1 hr (by omega)]
   rfl
  ·have hy:y.val<8:=by have:=of_decide_eq_true hd;omega
   have hq:=a0z hr hb y.val;rw[b8c k1 hq,d3j];refine⟨fun ho=>⟨by unfold Nn;omega,Z5 (by omega),⟨y.val+1,hy⟩,⟨⟨?_,rfl,rfl,rfl,by simp only;omega,trivial⟩,trivial⟩,by unfold Lt;simp only;omega⟩,
    fun ho=>⟨by unfold Nn;omega,Z5 (by omega),⟨y.val+1,hy⟩,⟨⟨?_,rfl,rfl,rfl,by simp only;omega,trivial⟩,trivial⟩,by unfold Lt;simp only;omega⟩⟩
   ·have ho:S4 (P3 l x.val) (l.getD x.val 0).toNat y.val % 2=1:=by rw[beq_iff_eq] at ho;omega
    rw[show(3988292384:Int)=((3988292384:Nat):Int) from rfl,a2O k1 (by omega) (by decide)]
    simp only[S4,a8M,ho,Nat.one_mul]
   ·have ho:S4 (P3 l x.val) (l.getD x.val 0).toNat y.val % 2=0:=by
     have:¬ ((S4 (P3 l x.val) (l.getD x.val 0).toNat y.val % 2:Nat):Int)=1:=by simpa using ho
     omega
    simp only[S4,a8M,ho,Nat.zero_mul,Nat.xor_zero]
  ·have hy:y.val=8:=by have:=y.2;have:=of_decide_eq_false hd;omega
   refine⟨W8 hlt (by omega),⟨x.val+1,hlt⟩,⟨⟨?_,rfl,rfl,by simp only;omega,trivial⟩,trivial⟩,W5.ext_lt hlt⟩
   rw[hy];rfl
 ·have hx:x.val=l.length:=by have:=x.2;have:=Y2 hc;omega
  rw[hx,show(4294967295:Int)=((4294967295:Nat):Int) from rfl,a2O k1 (i5 l _) (by decide)]
  rfl
end Go.Proofs.YtokaojbaacnngaaGreat

namespace Go.Proofs.YtokaojbaacnngaaGreat
set_option maxRecDepth 100000
open Go.SS

def z4(l:List UInt8):Nat->Nat
 |0=>0
 |i+1=>z4 l i*256+(l.getD i 0).toNat
def be(l:List UInt8):Nat:=z4 l l.length
def a5U(l:List UInt8):Prop:=l.length<=4
def c7V:Rl:=⟨List UInt8,fun l=>[.bys l],fun l=>.int .i64 (be l),a5U⟩
def d6S:Con:=.rel c7V
def a8F:Rl:=⟨List UInt8,fun l=>[.str l],fun l=>.int .i64 (be l),a5U⟩
def d1g:Con:=.rel a8F
def d0L(l:List UInt8):Nat->Ann
 |0=>.one {i:Nat//i<=l.length} (fun x=>⟨[(0,.str l),(3,.int .i64 (z4 l x.1)),(4,.int .i64 x.1)],[]⟩) (fun x=>l.length-x.1) [] [] (fun _=>Z0)
 |_=>.none
noncomputable def d2D:Code:=Tryz.f250.body.getD .skip
theorem a32:Z8 Tryz.prog 250:=⟨_,Tryz.func250,by kernel_rfl,by kernel_rfl⟩
theorem c9S(l:List UInt8)(h:
  (∃(x:{i:Nat//i<=l.length}),(l=l/\(0:Int)=(↑(z4 l x.val):Int)/\(0:Int)=(x.val:Int)/\True)/\True)/\∀(x:{i:Nat//i<=l.length}),(decide ((x.val:Int)<(l.length:Int))=true->X6 .i64 ((↑(z4
  l x.val):Int)*(256:Int))/\W7 (x.val:Int) l.length/\X6 .i64 ((↑(z4 l x.val):Int)*(256:Int)+IntKind.i64.wrap (↑(l.getD (x.val:Int).toNat (0:UInt8)).toNat:Int))/\X6 .i64 ((x.val:Int)+(1:Int))/\∃(y:{
  i:Nat//i<=l.length}),((l=l/\(↑(z4 l x.val):Int)*(256:Int)+IntKind.i64.wrap (↑(l.getD (x.val:Int).toNat (0:UInt8)).toNat:Int)=(↑(z4 l y.val):Int)/\(x.val:Int)+(1:Int)=(y.val:Int)/\True)/\True)
  /\Lt (l.length-y.val) (l.length-x.val))/\(decide ((x.val:Int)<(l.length:Int))=false->(↑(z4 l x.val):Int)=(↑(be l):Int))):
  Z1 Tryz.prog 250 [.str l] (.int .i64 (be l)):=
 T7 (code:=d2D) gN Tryz.func250 (by kernel_rfl) (by kernel_rfl) (d0L l) h (by kernel_rfl)
def d6U(l:List UInt8):Nat->Ann
 |0=>.one {i:Nat//i<=l.length} (fun x=>⟨[(3,.int .i64 (z4 l x.1)),(6,.bys l),(7,.int .i64 l.length),(8,.int .i64 x.1)],[]⟩) (fun x=>l.length-x.1) [] [] (fun _=>Z0)
 |_=>.none
noncomputable def d6l:Code:=Tryz.f257.body.getD .skip
theorem b1i:Z8 Tryz.prog 257:=⟨_,Tryz.func257,by kernel_rfl,by kernel_rfl⟩
theorem d6R(l:List UInt8)(h:
  (∃(x:{i:Nat//i<=l.length}),((0:Int)=(↑(z4 l x.val):Int)/\l=l/\(l.length:Int)=(l.length:Int)/\(0:Int)=(x.val:Int)/\True)/\True)/\∀(x:{i:Nat//i<=l.length}),(decide ((x.val:Int)<
  (l.length:Int))=true->W7 (x.val:Int) l.length/\Nn (8:Int)/\X6 .i64 ((x.val:Int)+(1:Int))/\∃(y:{i:Nat//i<=l.length}),((bits BinOp.or IntKind.i64 (IntKind.i64.wrap ((↑(z4 l x.val):Int)*(256:Int)))
  (IntKind.i64.wrap (↑(l.getD (x.val:Int).toNat (0:UInt8)).toNat:Int))=(↑(z4 l y.val):Int)/\l=l/\(l.length:Int)=(l.length:Int)/\(x.val:Int)+(1:Int)=(y.val:Int)/\True)/\True)/\Lt (l.length-y.val) (l.length
  -x.val))/\(decide ((x.val:Int)<(l.length:Int))=false->(↑(z4 l x.val):Int)=(↑(be l):Int))):
  Z1 Tryz.prog 257 [.bys l] (.int .i64 (be l)):=
 T7 (code:=d6l) gN Tryz.func257 (by kernel_rfl) (by kernel_rfl) (d6U l) h (by kernel_rfl)
def c5e(n:Nat):Nat->Ann
 |0=>.unr n (fun _=>Z0)
 |_=>.none
def by4(n:Nat):List UInt8:=[O4 (IntKind.u8.wrap ((n:Int).fdiv 16777216)),O4 (IntKind.u8.wrap ((n:Int).fdiv 65536)),O4 (IntKind.u8.wrap ((n:Int).fdiv 256)),O4 (IntKind.u8.wrap ((n:Int).fdiv 1))]
def by2(n:Nat):List UInt8:=[O4 (IntKind.u8.wrap ((n:Int).fdiv 256)),O4 (IntKind.u8.wrap ((n:Int).fdiv 1))]
noncomputable def a3u:Code:=Tryz.f269.body.getD .skip
theorem a5l:Z8 Tryz.prog 269:=⟨_,Tryz.func269,by kernel_rfl,by kernel_rfl⟩
theorem b9w(n:Nat)(h:
  X6 .i64 (3:Int)/\(true=true->X6 .i64 (24:Int)/\Nn (24:Int)/\X6 IntKind.u8 (IntKind.u8.wrap ((n:Int).fdiv (16777216:Int)))/\(Le 1 1/\Le 0 0/\V6 0 1 1)/\X6 .i64 (2:Int)/\(true=true->X6 .i64 (16:Int)
  /\Nn (16:Int)/\X6 IntKind.u8 (IntKind.u8.wrap ((n:Int).fdiv (65536:Int)))/\(Le (0+1) 1/\Le (0+1) 1/\V6 (0+1) 1 1)/\X6 .i64 (1:Int)/\(true=true->X6 .i64 (8:Int)/\Nn (8:Int)/\X6 IntKind.u8
  (IntKind.u8.wrap ((n:Int).fdiv (256:Int)))/\(Le (0+1) 1/\Le (0+1+1) 2/\V6 (0+1+1) 1 1)/\X6 .i64 (0:Int)/\(true=true->X6 .i64 (0:Int)/\Nn (0:Int)/\X6 IntKind.u8 (IntKind.u8.wrap ((n:Int).fdiv (1:
  Int)))/\(Le (0+1) 1/\Le (0+1+1+1) 3/\V6 (0+1+1+1) 1 1)/\X6 .i64 (-1:Int)/\(false=true->X6 .i64 (-8:Int)/\Nn (18446744073709551608:Int)/\X6 IntKind.u8 (IntKind.u8.wrap ((n:Int).fdiv
  (18446744073709551616:Int)))/\(Le (0+1) 1/\Le (0+1+1+1+1) 4/\V6 (0+1+1+1+1) 1 1)/\X6 .i64 (-2:Int)/\False)/\(false=false->Le 4 4/\List.take (0+1+1+1+1) (List.drop 0 (List.take (0+1+1
  +1) (List.take (0+1+1) (List.take (0+1) (List.take 0 (List.map O4 [])++List.take 1 (List.drop 0 (List.map O4 [IntKind.u8.wrap ((n:Int).fdiv (16777216:Int))])))++List.take 1 (List.drop 0 (List.map O4
  [IntKind.u8.wrap ((n:Int).fdiv (65536:Int))])))++List.take 1 (List.drop 0 (List.map O4 [IntKind.u8.wrap ((n:Int).fdiv (256:Int))])))++List.take 1 (List.drop 0 (List.map O4 [IntKind.u8.wrap ((n:Int).fdiv (1:Int))]))))=
  by4 n))/\(true=false->Le 3 3/\List.take (0+1+1+1) (List.drop 0 (List.take (0+1+1) (List.take (0+1) (List.take 0 (List.map O4 [])++List.take 1 (List.drop 0 (List.map O4 [IntKind.u8.wrap ((n:Int).fdiv (16777216
  :Int))])))++List.take 1 (List.drop 0 (List.map O4 [IntKind.u8.wrap ((n:Int).fdiv (65536:Int))])))++List.take 1 (List.drop 0 (List.map O4 [IntKind.u8.wrap ((n:Int).fdiv (256:Int))]))))=by4 n))/\(true=false->Le 2 2
  /\List.take (0+1+1) (List.drop 0 (List.take (0+1) (List.take 0 (List.map O4 [])++List.take 1 (List.drop 0 (List.map O4 [IntKind.u8.wrap ((n:Int).fdiv (16777216:Int))])))++List.take 1 (List.drop 0 (List.map O4
  [IntKind.u8.wrap ((n:Int).fdiv (65536:Int))]))))=by4 n))/\(true=false->Le 1 1/\List.take (0+1) (List.drop 0 (List.take 0 (List.map O4 [])++List.take 1 (List.drop 0 (List.map O4 [IntKind.u8.wrap ((n:Int).fdiv
  (16777216:Int))]))))=by4 n))/\(true=false->Le 0 0/\List.take 0 (List.drop 0 (List.map O4 []))=by4 n)):
  Z1 Tryz.prog 269 [.int .i64 n,.int .i64 4] (.bys (by4 n)):=
 T7 (code:=a3u) gN Tryz.func269 (by kernel_rfl) (by kernel_rfl) (c5e 5) h (by kernel_rfl)
theorem c2m(n:Nat)(h:
  X6 .i64 (1:Int)/\(true=true->X6 .i64 (8:Int)/\Nn (8:Int)/\X6 IntKind.u8 (IntKind.u8.wrap ((n:Int).fdiv (256:Int)))/\(Le 1 1/\Le 0 0/\V6 0 1 1)/\X6 .i64 (0:Int)/\(true=true->X6 .i64 (0:Int)/\Nn (0
  :Int)/\X6 IntKind.u8 (IntKind.u8.wrap ((n:Int).fdiv (1:Int)))/\(Le (0+1) 1/\Le (0+1) 1/\V6 (0+1) 1 1)/\X6 .i64 (-1:Int)/\(false=true->X6 .i64 (-8:Int)/\Nn (18446744073709551608:Int)/\X6 IntKind.u8
  (IntKind.u8.wrap ((n:Int).fdiv (18446744073709551616:Int)))/\(Le (0+1) 1/\Le (0+1+1) 2/\V6 (0+1+1) 1 1)/\X6 .i64 (-2:Int)/\False)/\(false=false->Le 2 2/\List.take (0+1+1) (List.drop 0 (List.take (0+
  1) (List.take 0 (List.map O4 [])++List.take 1 (List.drop 0 (List.map O4 [IntKind.u8.wrap ((n:Int).fdiv (256:Int))])))++List.take 1 (List.drop 0 (List.map O4 [IntKind.u8.wrap ((n:Int).fdiv (1:Int))]))))=by2 n))/\(true
  =false->Le 1 1/\List.take (0+1) (List.drop 0 (List.take 0 (List.map O4 [])++List.take 1 (List.drop 0 (List.map O4 [IntKind.u8.wrap ((n:Int).fdiv (256:Int))]))))=by2 n))/\(true=false->Le 0 0/\List.take 0
  (List.drop 0 (List.map O4 []))=by2 n)):
  Z1 Tryz.prog 269 [.int .i64 n,.int .i64 2] (.bys (by2 n)):=
 T7 (code:=a3u) gN Tryz.func269 (by kernel_rfl) (by kernel_rfl) (c5e 3) h (by kernel_rfl)
theorem P5(x:Int):X6 .u8 (IntKind.u8.wrap x):=by
 rw[IntKind.wrap_u8];unfold X6 IntKind.min IntKind.max IntKind.signed IntKind.bits;have:=Int.emod_nonneg x (show(256:Int)≠0 by decide)
 have:=Int.emod_lt_of_pos x (show(0:Int)<256 by decide)
 simp;omega
theorem c3X(n:Int):X6 .u8 n↔(0<=n/\n<=255):=by
 unfold X6 IntKind.min IntKind.max IntKind.signed IntKind.bits;simp
def b2x:Rl:=⟨Nat×Bool,fun x=>[.int .i64 x.1,.int .i64 (match x.2 with|true=>4|false=>2)],fun x=>.bys (match x.2 with|true=>by4 x.1|false=>by2 x.1),fun _=>True⟩
def b0r:Con:=.rel b2x
theorem a7P:Z2 Tryz.prog 269 b0r:=by
 rintro⟨n,b⟩ _;cases b
 ·refine c2m n ?_
  simp[Z5,P5,Nn,Le,V6,by2]
 ·refine b9w n ?_
  simp[Z5,P5,Nn,Le,V6,by4]
theorem i6(l:List UInt8)(i:Nat):IntKind.i64.wrap ((l.getD i 0).toNat:Int)=((l.getD i 0).toNat:Int):=a2E _
theorem b8w(l:List UInt8):∀i,z4 l i<256 ^ i
 |0=>by simp[z4]
 |i+1=>by
  have h1:=b8w l i;have h2:=k9 l i;simp only[z4,Nat.pow_succ];omega
theorem b2P(l:List UInt8){i:Nat}(h:i<4):z4 l i<16777216:=
 Nat.lt_of_lt_of_le (b8w l i) (Nat.pow_le_pow_right (n:=256) (by decide) (show i<=3 by omega))
theorem b0s:Z2 Tryz.prog 250 d1g:=by
 intro(l:List UInt8) (hl:l.length<=4);refine c9S l ⟨⟨⟨0,Nat.zero_le _⟩,⟨rfl,rfl,rfl,trivial⟩,trivial⟩,fun x=>⟨fun hc=> ?_,fun hc=> ?_⟩⟩
 ·have hlt:=Y6 hc;have hb:=k9 l x.val;have hr:=b2P l (show x.val<4 by omega)
  rw[Int.toNat_natCast,i6];refine⟨Z5 (by omega),Y8 hlt,Z5 (by omega),W8 hlt (by omega),⟨x.val+1,hlt⟩,⟨⟨rfl,?_,by simp only;omega,trivial⟩,trivial⟩,W5.ext_lt hlt⟩
  simp only[z4];omega
 ·have hx:x.val=l.length:=by have:=x.2;have:=Y2 hc;omega
  rw[hx];rfl
theorem c43:Z2 Tryz.prog 257 d6S:=by
 intro(l:List UInt8) (hl:l.length<=4);refine d6R l ⟨⟨⟨0,Nat.zero_le _⟩,⟨rfl,rfl,rfl,rfl,trivial⟩,trivial⟩,fun x=>⟨fun hc=> ?_,fun hc=> ?_⟩⟩
 ·have hlt:=Y6 hc;have hb:=k9 l x.val;have hr:=b2P l (show x.val<4 by omega)
  rw[Int.toNat_natCast,i6,show((z4 l x.val:Nat):Int)*256=((z4 l x.val*256:Nat):Int) by omega,a0q (.inl rfl) (by omega),d6W (.inl rfl) (by omega) (by omega)]
  refine⟨Y8 hlt,by unfold Nn;omega,W8 hlt (by omega),⟨x.val+1,hlt⟩,⟨⟨?_,rfl,rfl,by simp only;omega,trivial⟩,trivial⟩,W5.ext_lt hlt⟩
  have:=Nat.two_pow_add_eq_or_of_lt (i:=8) (b:=(l.getD x.val 0).toNat) hb (z4 l x.val);rw[show z4 l x.val*256=2 ^ 8*z4 l x.val by omega,←this]
  simp only[z4];omega
 ·have hx:x.val=l.length:=by have:=x.2;have:=Y2 hc;omega
  rw[hx];rfl
def T8(b:List UInt8):Bool:=decide (4<=b.length)&&crc (b.take (b.length-4))==be (b.drop (b.length-4))
def X5(b:List UInt8):List UInt8:=if T8 b then b.take (b.length-4) else[]
def a1E:Rl:=⟨List UInt8,fun b=>[.bys b],fun b=>.tup [.bys (X5 b),.bool (T8 b)],I7⟩
def b4p:Con:=.rel a1E
noncomputable def b3Y:Code:=Tryz.f255.body.getD .skip
theorem a1v:Z8 Tryz.prog 255:=⟨_,Tryz.func255,by kernel_rfl,by kernel_rfl⟩
theorem b35(b:List UInt8)(h:
  X6 .i64 ((b.length:Int)- (4:Int))/\(decide ((b.length:Int)- (4:Int)<(0:Int))=false->InC ((b.length:Int)- (4:Int)) b.length)/\∃(x:(a02 IntKind.u32).ι),(decide ((b.length:Int)- (4:Int)<(0:Int))=
  false->(List.take ((b.length:Int)- (4:Int)).toNat b=x/\True)/\I7 x)/\(decide ((b.length:Int)- (4:Int)<(0:Int))=false->InC ((b.length:Int)- (4:Int)) b.length)/\∃(x_1:c7V.ι),(decide ((b.length:Int)-
  (4:Int)<(0:Int))=false->(List.drop ((b.length:Int)- (4:Int)).toNat b=x_1/\True)/\a5U x_1)/\((decide ((b.length:Int)- (4:Int)<(0:Int))||IntKind.i64.wrap (↑(crc x):Int) !=(↑(be x_1):Int))=true->
  X5 b=[]/\false=T8 b/\True)/\((decide ((b.length:Int)- (4:Int)<(0:Int))||IntKind.i64.wrap (↑(crc x):Int) !=(↑(be x_1):Int))=false->InC ((b.length:Int)- (4:Int)) b.length/\List.take ((b.length:Int)-
  (4:Int)).toNat b=X5 b/\true=T8 b/\True)):
  Z1 Tryz.prog 255 [.bys b] (.tup [.bys (X5 b),.bool (T8 b)]):=
 T7 (code:=b3Y) (gC a33 a2l (gC c43 b1i gN)) Tryz.func255 (by kernel_rfl) (by kernel_rfl) Z0 h (by kernel_rfl)
def b2I:Rl:=⟨List UInt8,fun b=>[.str b],fun b=>.tup [.str (X5 b),.bool (T8 b)],I7⟩
def b17:Con:=.rel b2I
noncomputable def a9R:Code:=Tryz.f230.body.getD .skip
theorem a4n:Z8 Tryz.prog 230:=⟨_,Tryz.func230,by kernel_rfl,by kernel_rfl⟩
theorem a9w(b:List UInt8)(h:
  X6 .i64 ((b.length:Int)- (4:Int))/\(decide ((b.length:Int)- (4:Int)<(0:Int))=false->InC ((b.length:Int)- (4:Int)) b.length)/\(decide ((b.length:Int)- (4:Int)<(0:Int))=false->Lt (List.take
  ((b.length:Int)- (4:Int)).toNat b).length 140737488355329)/\∃(x:(a02 IntKind.i64).ι),(decide ((b.length:Int)- (4:Int)<(0:Int))=false->(List.take ((b.length:Int)- (4:Int)).toNat b=x/\True)/\I7 x)/\
  (decide ((b.length:Int)- (4:Int)<(0:Int))=false->InC ((b.length:Int)- (4:Int)) b.length)/\∃(x_1:a8F.ι),(decide ((b.length:Int)- (4:Int)<(0:Int))=false->(List.drop ((b.length:Int)- (4:Int)).toNat
  b=x_1/\True)/\a5U x_1)/\((decide ((b.length:Int)- (4:Int)<(0:Int))||(↑(crc x):Int) !=(↑(be x_1):Int))=true->[]=X5 b/\false=T8 b/\True)/\((decide ((b.length:Int)- (4:Int)<(0:Int))||(↑(crc
  x):Int) !=(↑(be x_1):Int))=false->InC ((b.length:Int)- (4:Int)) b.length/\List.take ((b.length:Int)- (4:Int)).toNat b=X5 b/\true=T8 b/\True)):
  Z1 Tryz.prog 230 [.str b] (.tup [.str (X5 b),.bool (T8 b)]):=
 T7 (code:=a9R) (gC a3d a1w (gC b0s a32 gN)) Tryz.func230 (by kernel_rfl) (by kernel_rfl) Z0 h (by kernel_rfl)
theorem a27:Z2 Tryz.prog 255 b4p:=by
 intro(b:List UInt8) (hl:b.length<=1000000000);have hd:∀{p:Prop},(decide ((b.length:Int)-4<0)=false->p)↔(4<=b.length->p):=fun{p}=>⟨fun h g=>h (decide_eq_false (by omega)),fun h g=>h (by have:=of_decide_eq_false g;omega)⟩
 refine b35 b ?_
 refine⟨Z5 (by omega),hd.2 fun h4=>⟨by omega,by omega⟩,b.take (b.length-4),hd.2 ?_,hd.2 fun h4=>⟨by omega,by omega⟩,b.drop (b.length-4),hd.2 ?_,?_⟩
 ·exact fun h4=>⟨⟨by rw[show((b.length:Int)-4).toNat=b.length-4 by omega],trivial⟩,by unfold I7;simp;omega⟩
 ·exact fun h4=>⟨⟨by rw[show((b.length:Int)-4).toNat=b.length-4 by omega],trivial⟩,by unfold a5U;simp;omega⟩
 have e:(decide ((b.length:Int)-4<0)||IntKind.i64.wrap (crc (b.take (b.length-4)):Int) !=(be (b.drop (b.length-4)):Int))= !T8 b:=by
  rw[a0q (.inl rfl) (c66 _)];unfold T8;rw[Bool.eq_iff_iff];simp;omega
 rw[e];refine⟨fun h=> ?_,fun h=> ?_⟩
 ·have h:T8 b=false:=by simpa using h
  exact⟨by simp[X5,h],h.symm,trivial⟩
 ·have h:T8 b=true:=by simpa using h
  have h4:4<=b.length:=by simp[T8] at h;exact h.1
  exact⟨⟨by omega,by omega⟩,by rw[show((b.length:Int)-4).toNat=b.length-4 by omega];simp[X5,h],h.symm,trivial⟩
theorem a2h:Z2 Tryz.prog 230 b17:=by
 intro(b:List UInt8) (hl:b.length<=1000000000);have hd:∀{p:Prop},(decide ((b.length:Int)-4<0)=false->p)↔(4<=b.length->p):=fun{p}=>⟨fun h g=>h (decide_eq_false (by omega)),fun h g=>h (by have:=of_decide_eq_false g;omega)⟩
 refine a9w b ?_
 refine⟨Z5 (by omega),hd.2 fun h4=>⟨by omega,by omega⟩,hd.2 fun h4=>by unfold Lt;simp;omega,b.take (b.length-4),hd.2 ?_,hd.2 fun h4=>⟨by omega,by omega⟩,b.drop (b.length-4),hd.2 ?_,?_⟩
 ·exact fun h4=>⟨⟨by rw[show((b.length:Int)-4).toNat=b.length-4 by omega],trivial⟩,by unfold I7;simp;omega⟩
 ·exact fun h4=>⟨⟨by rw[show((b.length:Int)-4).toNat=b.length-4 by omega],trivial⟩,by unfold a5U;simp;omega⟩
 have e:(decide ((b.length:Int)-4<0)||(crc (b.take (b.length-4)):Int) !=(be (b.drop (b.length-4)):Int))= !T8 b:=by
  unfold T8;rw[Bool.eq_iff_iff];simp;omega
 rw[e];refine⟨fun h=> ?_,fun h=> ?_⟩
 ·have h:T8 b=false:=by simpa using h
  exact⟨by simp[X5,h],h.symm,trivial⟩
 ·have h:T8 b=true:=by simpa using h
  have h4:4<=b.length:=by simp[T8] at h;exact h.1
  exact⟨⟨by omega,by omega⟩,by rw[show((b.length:Int)-4).toNat=b.length-4 by omega];simp[X5,h],h.symm,trivial⟩
end Go.Proofs.YtokaojbaacnngaaGreat

