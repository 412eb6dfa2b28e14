/- A part of the proof. -/
import Derived.Test.YtokaojbaacnngaaGreatD8
import Derived.Laws.BitsLemmas
namespace Go.Proofs.YtokaojbaacnngaaGreat
set_option maxRecDepth 100000
open Go.SS

theorem b2S{a b:Nat}(ha:a<4294967296)(hb:b<4294967296):a ^^^ b<4294967296:=Nat.xor_lt_two_pow (n:=32) ha hb
theorem a9T{a b:Nat}(hb:b<4294967296):a&&&b<4294967296:=Nat.and_lt_two_pow (n:=32) a hb
theorem b52{a b:Nat}(ha:a<4294967296)(hb:b<4294967296):a|||b<4294967296:=Nat.or_lt_two_pow (n:=32) ha hb
theorem xY{k:IntKind}(hk:k= .i64∨k= .u32){n:Nat}(hn:n<4294967296):(BitVec.ofInt k.bits (n:Int)).toNat=n:=by
 rw[BitVec.ofInt_natCast,BitVec.toNat_ofNat];refine Nat.mod_eq_of_lt ?_
 rcases hk with rfl|rfl
 ·exact Nat.lt_trans hn (by decide)
 ·exact hn
theorem wO{k:IntKind}(hk:k= .i64∨k= .u32){n:Nat}(hn:n<4294967296):k.wrap (n:Int)=n:=by
 rcases hk with rfl|rfl
 ·rw[IntKind.wrap_i64];omega
 ·rw[IntKind.wrap_u32];omega
theorem qD{k:IntKind}(hk:k= .i64∨k= .u32){a b:Nat}(ha:a<4294967296)(hb:b<4294967296):bits .xor k (a:Int) (b:Int)=((a ^^^ b:Nat):Int):=by
 show k.wrap ((BitVec.ofInt k.bits (a:Int) ^^^ BitVec.ofInt k.bits (b:Int)).toNat:Int)=_;rw[BitVec.toNat_xor,xY hk ha,xY hk hb,wO hk (b2S ha hb)]
theorem b71{k:IntKind}(hk:k= .i64∨k= .u32){a b:Nat}(ha:a<4294967296)(hb:b<4294967296):bits .and k (a:Int) (b:Int)=((a&&&b:Nat):Int):=by
 show k.wrap ((BitVec.ofInt k.bits (a:Int)&&&BitVec.ofInt k.bits (b:Int)).toNat:Int)=_;rw[BitVec.toNat_and,xY hk ha,xY hk hb,wO hk (a9T hb)]
theorem c01{k:IntKind}(hk:k= .i64∨k= .u32){a b:Nat}(ha:a<4294967296)(hb:b<4294967296):bits .or k (a:Int) (b:Int)=((a|||b:Nat):Int):=by
 show k.wrap ((BitVec.ofInt k.bits (a:Int)|||BitVec.ofInt k.bits (b:Int)).toNat:Int)=_;rw[BitVec.toNat_or,xY hk ha,xY hk hb,wO hk (b52 ha hb)]
def cU(r:Nat):Nat:=(r/2) ^^^ (r % 2*3988292384)
def R1(r c:Nat):Nat->Nat
 |0=>r ^^^ c
 |k+1=>cU (R1 r c k)
def M7(l:List UInt8):Nat->Nat
 |0=>4294967295
 |i+1=>R1 (M7 l i) (l.getD i 0).toNat 8
def s5(l:List UInt8):Nat:=M7 l l.length ^^^ 4294967295
theorem a7y{r:Nat}(h:r<4294967296):cU r<4294967296:=by
 have:r % 2*3988292384<2 ^ 32:=by have:=Nat.mod_lt r (show 0<2 by decide);omega
 exact Nat.xor_lt_two_pow (n:=32) (by omega) this
theorem xD{r c:Nat}(h:r<4294967296)(hc:c<256):∀k,R1 r c k<4294967296
 |0=>Nat.xor_lt_two_pow (n:=32) (by omega) (by omega)
 |k+1=>a7y (xD h hc k)
theorem yX(l:List UInt8)(i:Nat):(l.getD i 0).toNat<256:=(l.getD i 0).toNat_lt
theorem yF(l:List UInt8):∀i,M7 l i<4294967296
 |0=>show 4294967295<4294967296 by decide
 |i+1=>xD (yF l i) (yX l i) 8
theorem cZ(l:List UInt8):s5 l<4294967296:=Nat.xor_lt_two_pow (n:=32) (yF l _) (by decide)
def I2(l:List UInt8):Prop:=l.length<=1000000000
def wL(k:IntKind):Rl:=⟨List UInt8,λl=>[.bys l],λl=>.int k (s5 l),I2⟩
def a20:Con:=.rel (wL .i64)
def a7F:Con:=.rel (wL .u32)
def a2G(l:List UInt8):Nat->Ann
 |0=>.one {i:Nat//i<=l.length} (λx=>⟨[(0,.bys l),(3,.int .i64 (M7 l x.1)),(4,.int .i64 x.1)],[]⟩) (λx=>l.length-x.1) [] [] (λx=>fun
  |1=>.one {k:Nat//k<=8} (λy=>⟨[(0,.bys l),(3,.int .i64 (R1 (M7 l x.1) (l.getD x.1 0).toNat y.1)),(4,.int .i64 x.1),(5,.int .i64 y.1)],[]⟩) (λy=>8-y.1) [] [] (λ_=>Z0)
  |_=>.none)
 |_=>.none
def a61(l:List UInt8):Nat->Ann
 |0=>.one {i:Nat//i<=l.length} (λx=>⟨[(3,.int .u32 (M7 l x.1)),(6,.bys l),(7,.int .i64 l.length),(8,.int .i64 x.1)],[]⟩) (λx=>l.length-x.1) [] [] (λx=>fun
  |1=>.one {k:Nat//k<=8} (λy=>⟨[(3,.int .u32 (R1 (M7 l x.1) (l.getD x.1 0).toNat y.1)),(6,.bys l),(7,.int .i64 l.length),(8,.int .i64 x.1),(16,.int .i64 y.1)],[]⟩) (λy=>8-y.1) [] [] (λ_=>Z0)
  |_=>.none)
 |_=>.none
theorem a5Z{k:IntKind}(hk:k= .i64∨k= .u32){r:Nat}(hr:r<4294967296):bits .and k (r:Int) 1=((r % 2:Nat):Int):=by
 rw[show(1:Int)=((1:Nat):Int) from rfl,b71 hk hr (by decide),Nat.and_one_is_mod]
theorem b7q(r:Nat):(r:Int).fdiv 2=((r/2:Nat):Int):=by
 rw[Int.fdiv_eq_ediv_of_nonneg _ (by omega)]
 omega
theorem pJ:GK 267 a20:=gk Tryz.func267<|by
 intro(l:List UInt8) (hl:l.length<=1000000000);have k1:IntKind.i64= .i64∨IntKind.i64= .u32:=.inl rfl;refine S3 gN Tryz.func267 (a2G l) (α:=(∃(x:{i:Nat//i<=l.length}),(l=l/\(4294967295:Int)=(↑(M7 l x.val):Int)/\(0:Int)=(x.val:Int)/\True)/\True)/\∀(x:{i:Nat//i<=l.length}),(decide ((x.val:Int)<(l.length:Int))=true->W2 (x.val:Int) l.length/\(∃(x_1:{k:Nat//k<=8}),(l=l/\bits BinOp.xor IntKind.i64 (↑(M7 l x.val):Int) (IntKind.i64.wrap (↑(l.getD (x.val:Int).toNat (0:UInt8)).toNat:Int))=(↑(R1 (M7 l x.val) (l.getD x.val (0:UInt8)).toNat x_1.val):Int)/\(x.val:Int)=(x.val:Int)/\(0:Int)=(x_1.val:Int)/\True)/\True)/\∀(x_1:{k:Nat//k<=8}),(decide ((x_1.val:Int)<(8:Int))=true->Nn (1:Int)/\X2 .i64 (bits BinOp.and IntKind.i64 (↑(R1 (M7 l x.val) (l.getD x.val (0:UInt8)).toNat x_1.val):Int) (1:Int)*(3988292384:Int))/\X2 .i64 ((x_1.val:Int)+(1:Int))/\∃(y:{k:Nat//k<=8}),((l=l/\bits BinOp.xor IntKind.i64 ((↑(R1 (M7 l x.val) (l.getD x.val (0:UInt8)).toNat x_1.val):Int).fdiv (2:Int)) (bits BinOp.and IntKind.i64 (↑(R1 (M7 l x.val) (l.getD x.val (0:UInt8)).toNat x_1.val):Int) (1:Int)*(3988292384:Int))=(↑(R1 (M7 l x.val) (l.getD x.val (0:UInt8)).toNat y.val):Int)/\(x.val:Int)=(x.val:Int)/\(x_1.val:Int)+(1:Int)=(y.val:Int)/\True)/\True)/\Lt (8-y.val) (8-x_1.val))/\(decide ((x_1.val:Int)<(8:Int))=false->X2 .i64 ((x.val:Int)+(1:Int))/\∃(y:{i:Nat//i<=l.length}),((l=l/\(↑(R1 (M7 l x.val) (l.getD x.val (0:UInt8)).toNat x_1.val):Int)=(↑(M7 l y.val):Int)/\(x.val:Int)+(1:Int)=(y.val:Int)/\True)/\True)/\Lt (l.length-y.val) (l.length-x.val)))/\(decide ((x.val:Int)<(l.length:Int))=false->bits BinOp.xor IntKind.i64 (↑(M7 l x.val):Int) (4294967295:Int)=(↑(s5 l):Int))) ⟨⟨⟨0,S2 _⟩,⟨rfl,rfl,Z9⟩,trivial⟩,λx=>⟨λhc=> ?_,λhc=> ?_⟩⟩
 ·have hlt:=Y1 hc;have hr:=yF l x.val;have hb:=yX l x.val;refine⟨Y3 hlt,⟨⟨0,by omega⟩,⟨rfl,?_,rfl,Z9⟩,trivial⟩,λy=>⟨λhd=> ?_,λhd=> ?_⟩⟩
  ·rw[z7,wO k1 (by omega),qD k1 hr (by omega)]
   rfl
  ·have hy:y.val<8:=by have:=E9 hd;omega
   have hq:=xD hr hb y.val;have hm:R1 (M7 l x.val) (l.getD x.val 0).toNat y.val % 2*3988292384<4294967296:=by have:=Nat.mod_lt (R1 (M7 l x.val) (l.getD x.val 0).toNat y.val) (show 0<2 by decide);omega
   rw[a5Z k1 hq,b7q,show((R1 (M7 l x.val) (l.getD x.val 0).toNat y.val % 2:Nat):Int)*3988292384=((R1 (M7 l x.val) (l.getD x.val 0).toNat y.val % 2*3988292384:Nat):Int) by omega,qD k1 (by omega) hm]
   refine⟨by unfold Nn;omega,Z4 (by omega),Z4 (by omega),⟨y.val+1,hy⟩,⟨⟨rfl,rfl,rfl,by simp only;omega,trivial⟩,trivial⟩,by unfold Lt;simp only;omega⟩
  ·have hy:y.val=8:=by have:=y.2;have:=yG hd;omega
   refine⟨V5 hlt (by omega),⟨x.val+1,hlt⟩,⟨⟨rfl,?_,by simp only;omega,trivial⟩,trivial⟩,V3.ext_lt hlt⟩
   rw[hy];rfl
 ·have hx:x.val=l.length:=by have:=x.2;have:=X9 hc;omega
  rw[hx,show(4294967295:Int)=((4294967295:Nat):Int) from rfl,qD k1 (yF l _) (by decide)]
  rfl
theorem sX:GK 271 a7F:=gk Tryz.func271<|by
 intro(l:List UInt8) (hl:l.length<=1000000000);have k1:IntKind.u32= .i64∨IntKind.u32= .u32:=.inr rfl;refine S3 gN Tryz.func271 (a61 l) (α:=(∃(x:{i:Nat//i<=l.length}),((4294967295:Int)=(↑(M7 l x.val):Int)/\l=l/\(l.length:Int)=(l.length:Int)/\(0:Int)=(x.val:Int)/\True)/\True)/\∀(x:{i:Nat//i<=l.length}),(decide ((x.val:Int)<(l.length:Int))=true->W2 (x.val:Int) l.length/\(∃(x_1:{k:Nat//k<=8}),(bits BinOp.xor IntKind.u32 (↑(M7 l x.val):Int) (IntKind.u32.wrap (↑(l.getD (x.val:Int).toNat (0:UInt8)).toNat:Int))=(↑(R1 (M7 l x.val) (l.getD x.val (0:UInt8)).toNat x_1.val):Int)/\l=l/\(l.length:Int)=(l.length:Int)/\(x.val:Int)=(x.val:Int)/\(0:Int)=(x_1.val:Int)/\True)/\True)/\∀(x_1:{k:Nat//k<=8}),(decide ((x_1.val:Int)<(8:Int))=true->((bits BinOp.and IntKind.u32 (↑(R1 (M7 l x.val) (l.getD x.val (0:UInt8)).toNat x_1.val):Int) (1:Int)==(1:Int))=true->Nn (1:Int)/\X2 .i64 ((x_1.val:Int)+(1:Int))/\∃(y:{k:Nat//k<=8}),((bits BinOp.xor IntKind.u32 ((↑(R1 (M7 l x.val) (l.getD x.val (0:UInt8)).toNat x_1.val):Int).fdiv (2:Int)) (3988292384:Int)=(↑(R1 (M7 l x.val) (l.getD x.val (0:UInt8)).toNat y.val):Int)/\l=l/\(l.length:Int)=(l.length:Int)/\(x.val:Int)=(x.val:Int)/\(x_1.val:Int)+(1:Int)=(y.val:Int)/\True)/\True)/\Lt (8-y.val) (8-x_1.val))/\((bits BinOp.and IntKind.u32 (↑(R1 (M7 l x.val) (l.getD x.val (0:UInt8)).toNat x_1.val):Int) (1:Int)==(1:Int))=false->Nn (1:Int)/\X2 .i64 ((x_1.val:Int)+(1:Int))/\∃(y:{k:Nat//k<=8}),(((↑(R1 (M7 l x.val) (l.getD x.val (0:UInt8)).toNat x_1.val):Int).fdiv (2:Int)=(↑(R1 (M7 l x.val) (l.getD x.val (0:UInt8)).toNat y.val):Int)/\l=l/\(l.length:Int)=(l.length:Int)/\(x.val:Int)=(x.val:Int)/\(x_1.val:Int)+(1:Int)=(y.val:Int)/\True)/\True)/\Lt (8-y.val) (8-x_1.val)))/\(decide ((x_1.val:Int)<(8:Int))=false->X2 .i64 ((x.val:Int)+(1:Int))/\∃(y:{i:Nat//i<=l.length}),(((↑(R1 (M7 l x.val) (l.getD x.val (0:UInt8)).toNat x_1.val):Int)=(↑(M7 l y.val):Int)/\l=l/\(l.length:Int)=(l.length:Int)/\(x.val:Int)+(1:Int)=(y.val:Int)/\True)/\True)/\Lt (l.length-y.val) (l.length-x.val)))/\(decide ((x.val:Int)<(l.length:Int))=false->bits BinOp.xor IntKind.u32 (↑(M7 l x.val):Int) (4294967295:Int)=(↑(s5 l):Int))) ⟨⟨⟨0,S2 _⟩,⟨rfl,rfl,rfl,Z9⟩,trivial⟩,λx=>⟨λhc=> ?_,λhc=> ?_⟩⟩
 ·have hlt:=Y1 hc;have hr:=yF l x.val;have hb:=yX l x.val;refine⟨Y3 hlt,⟨⟨0,by omega⟩,⟨?_,rfl,rfl,rfl,Z9⟩,trivial⟩,λy=>⟨λhd=> ?_,λhd=> ?_⟩⟩
  ·rw[z7,wO k1 (by omega),qD k1 hr (by omega)]
   rfl
  ·have hy:y.val<8:=by have:=E9 hd;omega
   have hq:=xD hr hb y.val;rw[a5Z k1 hq,b7q];refine⟨λho=>⟨by unfold Nn;omega,Z4 (by omega),⟨y.val+1,hy⟩,⟨⟨?_,rfl,rfl,rfl,by simp only;omega,trivial⟩,trivial⟩,by unfold Lt;simp only;omega⟩,
    λho=>⟨by unfold Nn;omega,Z4 (by omega),⟨y.val+1,hy⟩,⟨⟨?_,rfl,rfl,rfl,by simp only;omega,trivial⟩,trivial⟩,by unfold Lt;simp only;omega⟩⟩
   ·have ho:R1 (M7 l x.val) (l.getD x.val 0).toNat y.val % 2=1:=by rw[beq_iff_eq] at ho;omega
    rw[show(3988292384:Int)=((3988292384:Nat):Int) from rfl,qD k1 (by omega) (by decide)]
    simp only[R1,cU,ho,Nat.one_mul]
   ·have ho:R1 (M7 l x.val) (l.getD x.val 0).toNat y.val % 2=0:=by
     have:¬ ((R1 (M7 l x.val) (l.getD x.val 0).toNat y.val % 2:Nat):Int)=1:=by simpa using ho
     omega
    simp only[R1,cU,ho,Nat.zero_mul,Nat.xor_zero]
  ·have hy:y.val=8:=by have:=y.2;have:=yG hd;omega
   refine⟨V5 hlt (by omega),⟨x.val+1,hlt⟩,⟨⟨?_,rfl,rfl,by simp only;omega,trivial⟩,trivial⟩,V3.ext_lt hlt⟩
   rw[hy];rfl
 ·have hx:x.val=l.length:=by have:=x.2;have:=X9 hc;omega
  rw[hx,show(4294967295:Int)=((4294967295:Nat):Int) from rfl,qD k1 (yF l _) (by decide)]
  rfl
end Go.Proofs.YtokaojbaacnngaaGreat

namespace Go.Proofs.YtokaojbaacnngaaGreat
set_option maxRecDepth 100000
open Go.SS

def l8(l:List UInt8):Nat->Nat
 |0=>0
 |i+1=>l8 l i*256+(l.getD i 0).toNat
def be(l:List UInt8):Nat:=l8 l l.length
def oN(l:List UInt8):Prop:=l.length<=4
def a6e:Rl:=⟨List UInt8,λl=>[.bys l],λl=>.int .i64 (be l),oN⟩
def b96:Con:=.rel a6e
def eQ:Rl:=⟨List UInt8,λl=>[.str l],λl=>.int .i64 (be l),oN⟩
def b43:Con:=.rel eQ
def b4m(l:List UInt8):Nat->Ann
 |0=>.one {i:Nat//i<=l.length} (λx=>⟨[(0,.str l),(3,.int .i64 (l8 l x.1)),(4,.int .i64 x.1)],[]⟩) (λx=>l.length-x.1) [] [] (λ_=>Z0)
 |_=>.none
def c0f(l:List UInt8):Nat->Ann
 |0=>.one {i:Nat//i<=l.length} (λx=>⟨[(3,.int .i64 (l8 l x.1)),(6,.bys l),(7,.int .i64 l.length),(8,.int .i64 x.1)],[]⟩) (λx=>l.length-x.1) [] [] (λ_=>Z0)
 |_=>.none
def b2Z(n:Nat):Nat->Ann
 |0=>.unr n (λ_=>Z0)
 |_=>.none
def B7(n:Nat):List UInt8:=[P1 (IntKind.u8.wrap ((n:Int).fdiv 16777216)),P1 (IntKind.u8.wrap ((n:Int).fdiv 65536)),P1 (IntKind.u8.wrap ((n:Int).fdiv 256)),P1 (IntKind.u8.wrap ((n:Int).fdiv 1))]
def zD(n:Nat):List UInt8:=[P1 (IntKind.u8.wrap ((n:Int).fdiv 256)),P1 (IntKind.u8.wrap ((n:Int).fdiv 1))]
theorem Q3(x:Int):X2 .u8 (IntKind.u8.wrap x):=by
 rw[IntKind.wrap_u8];unfold X2 IntKind.min IntKind.max IntKind.signed IntKind.bits;have:=Int.emod_nonneg x (show(256:Int)≠0 by decide)
 have:=Int.emod_lt_of_pos x (show(0:Int)<256 by decide)
 simp;omega
theorem fC(n:Int):X2 .u8 n↔(0<=n/\n<=255):=by
 unfold X2 IntKind.min IntKind.max IntKind.signed IntKind.bits;simp
def lW:Rl:=⟨Nat×Bool,λx=>[.int .i64 x.1,.int .i64 (match x.2 with|true=>4|false=>2)],λx=>.bys (match x.2 with|true=>B7 x.1|false=>zD x.1),λ_=>True⟩
def a1j:Con:=.rel lW
theorem qP:GK 269 a1j:=gk Tryz.func269<|by
 rintro⟨n,b⟩ _;cases b
 ·refine S3 gN Tryz.func269 (b2Z 3) (α:=X2 .i64 (1:Int)/\(true=true->X2 .i64 (8:Int)/\Nn (8:Int)/\X2 IntKind.u8 (IntKind.u8.wrap ((n:Int).fdiv (256:Int)))/\(Le 1 1/\Le 0 0/\V7 0 1 1)/\X2 .i64 (0:Int)/\(true=true->X2 .i64 (0:Int)/\Nn (0:Int)/\X2 IntKind.u8 (IntKind.u8.wrap ((n:Int).fdiv (1:Int)))/\(Le (0+1) 1/\Le (0+1) 1/\V7 (0+1) 1 1)/\X2 .i64 (-1:Int)/\(false=true->X2 .i64 (-8:Int)/\Nn (18446744073709551608:Int)/\X2 IntKind.u8 (IntKind.u8.wrap ((n:Int).fdiv (18446744073709551616:Int)))/\(Le (0+1) 1/\Le (0+1+1) 2/\V7 (0+1+1) 1 1)/\X2 .i64 (-2:Int)/\False)/\(false=false->Le 2 2/\List.take (0+1+1) (List.drop 0 (List.take (0+1) (List.take 0 (List.map P1 [])++List.take 1 (List.drop 0 (List.map P1 [IntKind.u8.wrap ((n:Int).fdiv (256:Int))])))++List.take 1 (List.drop 0 (List.map P1 [IntKind.u8.wrap ((n:Int).fdiv (1:Int))]))))=zD n))/\(true=false->Le 1 1/\List.take (0+1) (List.drop 0 (List.take 0 (List.map P1 [])++List.take 1 (List.drop 0 (List.map P1 [IntKind.u8.wrap ((n:Int).fdiv (256:Int))]))))=zD n))/\(true=false->Le 0 0/\List.take 0 (List.drop 0 (List.map P1 []))=zD n)) ?_
  simp[Z4,Q3,Nn,Le,V7,zD]
 ·refine S3 gN Tryz.func269 (b2Z 5) (α:=X2 .i64 (3:Int)/\(true=true->X2 .i64 (24:Int)/\Nn (24:Int)/\X2 IntKind.u8 (IntKind.u8.wrap ((n:Int).fdiv (16777216:Int)))/\(Le 1 1/\Le 0 0/\V7 0 1 1)/\X2 .i64 (2:Int)/\(true=true->X2 .i64 (16:Int)/\Nn (16:Int)/\X2 IntKind.u8 (IntKind.u8.wrap ((n:Int).fdiv (65536:Int)))/\(Le (0+1) 1/\Le (0+1) 1/\V7 (0+1) 1 1)/\X2 .i64 (1:Int)/\(true=true->X2 .i64 (8:Int)/\Nn (8:Int)/\X2 IntKind.u8 (IntKind.u8.wrap ((n:Int).fdiv (256:Int)))/\(Le (0+1) 1/\Le (0+1+1) 2/\V7 (0+1+1) 1 1)/\X2 .i64 (0:Int)/\(true=true->X2 .i64 (0:Int)/\Nn (0:Int)/\X2 IntKind.u8 (IntKind.u8.wrap ((n:Int).fdiv (1:Int)))/\(Le (0+1) 1/\Le (0+1+1+1) 3/\V7 (0+1+1+1) 1 1)/\X2 .i64 (-1:Int)/\(false=true->X2 .i64 (-8:Int)/\Nn (18446744073709551608:Int)/\X2 IntKind.u8 (IntKind.u8.wrap ((n:Int).fdiv (18446744073709551616:Int)))/\(Le (0+1) 1/\Le (0+1+1+1+1) 4/\V7 (0+1+1+1+1) 1 1)/\X2 .i64 (-2:Int)/\False)/\(false=false->Le 4 4/\List.take (0+1+1+1+1) (List.drop 0 (List.take (0+1+1+1) (List.take (0+1+1) (List.take (0+1) (List.take 0 (List.map P1 [])++List.take 1 (List.drop 0 (List.map P1 [IntKind.u8.wrap ((n:Int).fdiv (16777216:Int))])))++List.take 1 (List.drop 0 (List.map P1 [IntKind.u8.wrap ((n:Int).fdiv (65536:Int))])))++List.take 1 (List.drop 0 (List.map P1 [IntKind.u8.wrap ((n:Int).fdiv (256:Int))])))++List.take 1 (List.drop 0 (List.map P1 [IntKind.u8.wrap ((n:Int).fdiv (1:Int))]))))=B7 n))/\(true=false->Le 3 3/\List.take (0+1+1+1) (List.drop 0 (List.take (0+1+1) (List.take (0+1) (List.take 0 (List.map P1 [])++List.take 1 (List.drop 0 (List.map P1 [IntKind.u8.wrap ((n:Int).fdiv (16777216:Int))])))++List.take 1 (List.drop 0 (List.map P1 [IntKind.u8.wrap ((n:Int).fdiv (65536:Int))])))++List.take 1 (List.drop 0 (List.map P1 [IntKind.u8.wrap ((n:Int).fdiv (256:Int))]))))=B7 n))/\(true=false->Le 2 2/\List.take (0+1+1) (List.drop 0 (List.take (0+1) (List.take 0 (List.map P1 [])++List.take 1 (List.drop 0 (List.map P1 [IntKind.u8.wrap ((n:Int).fdiv (16777216:Int))])))++List.take 1 (List.drop 0 (List.map P1 [IntKind.u8.wrap ((n:Int).fdiv (65536:Int))]))))=B7 n))/\(true=false->Le 1 1/\List.take (0+1) (List.drop 0 (List.take 0 (List.map P1 [])++List.take 1 (List.drop 0 (List.map P1 [IntKind.u8.wrap ((n:Int).fdiv (16777216:Int))]))))=B7 n))/\(true=false->Le 0 0/\List.take 0 (List.drop 0 (List.map P1 []))=B7 n)) ?_
  simp[Z4,Q3,Nn,Le,V7,B7]
theorem xX(l:List UInt8)(i:Nat):IntKind.i64.wrap ((l.getD i 0).toNat:Int)=((l.getD i 0).toNat:Int):=pQ _
theorem a6n(l:List UInt8):∀i,l8 l i<256 ^ i
 |0=>by simp[l8]
 |i+1=>by
  have h1:=a6n l i;have h2:=yX l i;simp only[l8,Nat.pow_succ];omega
theorem aP(l:List UInt8){i:Nat}(h:i<4):l8 l i<16777216:=
 vR (a6n l i) (Nat.pow_le_pow_right (n:=256) (by decide) (show i<=3 by omega))
theorem a04:GK 250 b43:=gk Tryz.func250<|by
 intro(l:List UInt8) (hl:l.length<=4);refine S3 gN Tryz.func250 (b4m l) (α:=(∃(x:{i:Nat//i<=l.length}),(l=l/\(0:Int)=(↑(l8 l x.val):Int)/\(0:Int)=(x.val:Int)/\True)/\True)/\∀(x:{i:Nat//i<=l.length}),(decide ((x.val:Int)<(l.length:Int))=true->X2 .i64 ((↑(l8 l x.val):Int)*(256:Int))/\W2 (x.val:Int) l.length/\X2 .i64 ((↑(l8 l x.val):Int)*(256:Int)+IntKind.i64.wrap (↑(l.getD (x.val:Int).toNat (0:UInt8)).toNat:Int))/\X2 .i64 ((x.val:Int)+(1:Int))/\∃(y:{i:Nat//i<=l.length}),((l=l/\(↑(l8 l x.val):Int)*(256:Int)+IntKind.i64.wrap (↑(l.getD (x.val:Int).toNat (0:UInt8)).toNat:Int)=(↑(l8 l y.val):Int)/\(x.val:Int)+(1:Int)=(y.val:Int)/\True)/\True)/\Lt (l.length-y.val) (l.length-x.val))/\(decide ((x.val:Int)<(l.length:Int))=false->(↑(l8 l x.val):Int)=(↑(be l):Int))) ⟨⟨⟨0,S2 _⟩,⟨rfl,rfl,Z9⟩,trivial⟩,λx=>⟨λhc=> ?_,λhc=> ?_⟩⟩
 ·have hlt:=Y1 hc;have hb:=yX l x.val;have hr:=aP l (show x.val<4 by omega)
  rw[z7,xX];refine⟨Z4 (by omega),Y3 hlt,Z4 (by omega),V5 hlt (by omega),⟨x.val+1,hlt⟩,⟨⟨rfl,?_,by simp only;omega,trivial⟩,trivial⟩,V3.ext_lt hlt⟩
  simp only[l8];omega
 ·have hx:x.val=l.length:=by have:=x.2;have:=X9 hc;omega
  rw[hx];rfl
theorem a4A:GK 257 b96:=gk Tryz.func257<|by
 intro(l:List UInt8) (hl:l.length<=4);refine S3 gN Tryz.func257 (c0f l) (α:=(∃(x:{i:Nat//i<=l.length}),((0:Int)=(↑(l8 l x.val):Int)/\l=l/\(l.length:Int)=(l.length:Int)/\(0:Int)=(x.val:Int)/\True)/\True)/\∀(x:{i:Nat//i<=l.length}),(decide ((x.val:Int)<(l.length:Int))=true->W2 (x.val:Int) l.length/\Nn (8:Int)/\X2 .i64 ((x.val:Int)+(1:Int))/\∃(y:{i:Nat//i<=l.length}),((bits BinOp.or IntKind.i64 (IntKind.i64.wrap ((↑(l8 l x.val):Int)*(256:Int))) (IntKind.i64.wrap (↑(l.getD (x.val:Int).toNat (0:UInt8)).toNat:Int))=(↑(l8 l y.val):Int)/\l=l/\(l.length:Int)=(l.length:Int)/\(x.val:Int)+(1:Int)=(y.val:Int)/\True)/\True)/\Lt (l.length-y.val) (l.length-x.val))/\(decide ((x.val:Int)<(l.length:Int))=false->(↑(l8 l x.val):Int)=(↑(be l):Int))) ⟨⟨⟨0,S2 _⟩,⟨rfl,rfl,rfl,Z9⟩,trivial⟩,λx=>⟨λhc=> ?_,λhc=> ?_⟩⟩
 ·have hlt:=Y1 hc;have hb:=yX l x.val;have hr:=aP l (show x.val<4 by omega)
  rw[z7,xX,show((l8 l x.val:Nat):Int)*256=((l8 l x.val*256:Nat):Int) by omega,wO (.inl rfl) (by omega),c01 (.inl rfl) (by omega) (by omega)]
  refine⟨Y3 hlt,by unfold Nn;omega,V5 hlt (by omega),⟨x.val+1,hlt⟩,⟨⟨?_,rfl,rfl,by simp only;omega,trivial⟩,trivial⟩,V3.ext_lt hlt⟩
  have:=Nat.two_pow_add_eq_or_of_lt (i:=8) (b:=(l.getD x.val 0).toNat) hb (l8 l x.val);rw[show l8 l x.val*256=2 ^ 8*l8 l x.val by omega,←this]
  simp only[l8];omega
 ·have hx:x.val=l.length:=by have:=x.2;have:=X9 hc;omega
  rw[hx];rfl
def T0(b:List UInt8):Bool:=decide (4<=b.length)&&s5 (b.take (b.length-4))==be (b.drop (b.length-4))
def X4(b:List UInt8):List UInt8:=if T0 b then b.take (b.length-4) else[]
def vY:Rl:=⟨List UInt8,λb=>[.bys b],λb=>.tup [.bys (X4 b),.bool (T0 b)],I2⟩
def a3C:Con:=.rel vY
def a1m:Rl:=⟨List UInt8,λb=>[.str b],λb=>.tup [.str (X4 b),.bool (T0 b)],I2⟩
def a1w:Con:=.rel a1m
theorem uY:GK 255 a3C:=gk Tryz.func255<|by
 intro(b:List UInt8) (hl:b.length<=1000000000);have hd:∀{p:Prop},(decide ((b.length:Int)-4<0)=false->p)↔(4<=b.length->p):=λ{p}=>⟨λh g=>h (tW (by omega)),λh g=>h (by have:=yG g;omega)⟩
 refine S3 (gC sX (gC a4A gN)) Tryz.func255 Z0 (α:=X2 .i64 ((b.length:Int)- (4:Int))/\(decide ((b.length:Int)- (4:Int)<(0:Int))=false->jR ((b.length:Int)- (4:Int)) b.length)/\∃(x:(wL IntKind.u32).ι),(decide ((b.length:Int)- (4:Int)<(0:Int))=false->(List.take ((b.length:Int)- (4:Int)).toNat b=x/\True)/\I2 x)/\(decide ((b.length:Int)- (4:Int)<(0:Int))=false->jR ((b.length:Int)- (4:Int)) b.length)/\∃(x_1:a6e.ι),(decide ((b.length:Int)- (4:Int)<(0:Int))=false->(List.drop ((b.length:Int)- (4:Int)).toNat b=x_1/\True)/\oN x_1)/\((decide ((b.length:Int)- (4:Int)<(0:Int))||IntKind.i64.wrap (↑(s5 x):Int) !=(↑(be x_1):Int))=true->X4 b=[]/\false=T0 b/\True)/\((decide ((b.length:Int)- (4:Int)<(0:Int))||IntKind.i64.wrap (↑(s5 x):Int) !=(↑(be x_1):Int))=false->jR ((b.length:Int)- (4:Int)) b.length/\List.take ((b.length:Int)- (4:Int)).toNat b=X4 b/\true=T0 b/\True)) ?_
 refine⟨Z4 (by omega),hd.2 λh4=>⟨by omega,by omega⟩,b.take (b.length-4),hd.2 ?_,hd.2 λh4=>⟨by omega,by omega⟩,b.drop (b.length-4),hd.2 ?_,?_⟩
 ·exact λh4=>⟨⟨by rw[show((b.length:Int)-4).toNat=b.length-4 by omega],trivial⟩,by unfold I2;simp;omega⟩
 ·exact λh4=>⟨⟨by rw[show((b.length:Int)-4).toNat=b.length-4 by omega],trivial⟩,by unfold oN;simp;omega⟩
 have e:(decide ((b.length:Int)-4<0)||IntKind.i64.wrap (s5 (b.take (b.length-4)):Int) !=(be (b.drop (b.length-4)):Int))= !T0 b:=by
  rw[wO (.inl rfl) (cZ _)];unfold T0;rw[Bool.eq_iff_iff];simp;omega
 rw[e];refine⟨λh=> ?_,λh=> ?_⟩
 ·have h:T0 b=false:=by simpa using h
  exact⟨by simp[X4,h],h.symm,trivial⟩
 ·have h:T0 b=true:=by simpa using h
  have h4:4<=b.length:=by simp[T0] at h;exact h.1
  exact⟨⟨by omega,by omega⟩,by rw[show((b.length:Int)-4).toNat=b.length-4 by omega];simp[X4,h],h.symm,trivial⟩
theorem qS:GK 230 a1w:=gk Tryz.func230<|by
 intro(b:List UInt8) (hl:b.length<=1000000000);have hd:∀{p:Prop},(decide ((b.length:Int)-4<0)=false->p)↔(4<=b.length->p):=λ{p}=>⟨λh g=>h (tW (by omega)),λh g=>h (by have:=yG g;omega)⟩
 refine S3 (gC pJ (gC a04 gN)) Tryz.func230 Z0 (α:=X2 .i64 ((b.length:Int)- (4:Int))/\(decide ((b.length:Int)- (4:Int)<(0:Int))=false->jR ((b.length:Int)- (4:Int)) b.length)/\(decide ((b.length:Int)- (4:Int)<(0:Int))=false->Lt (List.take ((b.length:Int)- (4:Int)).toNat b).length 140737488355329)/\∃(x:(wL IntKind.i64).ι),(decide ((b.length:Int)- (4:Int)<(0:Int))=false->(List.take ((b.length:Int)- (4:Int)).toNat b=x/\True)/\I2 x)/\(decide ((b.length:Int)- (4:Int)<(0:Int))=false->jR ((b.length:Int)- (4:Int)) b.length)/\∃(x_1:eQ.ι),(decide ((b.length:Int)- (4:Int)<(0:Int))=false->(List.drop ((b.length:Int)- (4:Int)).toNat b=x_1/\True)/\oN x_1)/\((decide ((b.length:Int)- (4:Int)<(0:Int))||(↑(s5 x):Int) !=(↑(be x_1):Int))=true->[]=X4 b/\false=T0 b/\True)/\((decide ((b.length:Int)- (4:Int)<(0:Int))||(↑(s5 x):Int) !=(↑(be x_1):Int))=false->jR ((b.length:Int)- (4:Int)) b.length/\List.take ((b.length:Int)- (4:Int)).toNat b=X4 b/\true=T0 b/\True)) ?_
 refine⟨Z4 (by omega),hd.2 λh4=>⟨by omega,by omega⟩,hd.2 λh4=>by unfold Lt;simp;omega,b.take (b.length-4),hd.2 ?_,hd.2 λh4=>⟨by omega,by omega⟩,b.drop (b.length-4),hd.2 ?_,?_⟩
 ·exact λh4=>⟨⟨by rw[show((b.length:Int)-4).toNat=b.length-4 by omega],trivial⟩,by unfold I2;simp;omega⟩
 ·exact λh4=>⟨⟨by rw[show((b.length:Int)-4).toNat=b.length-4 by omega],trivial⟩,by unfold oN;simp;omega⟩
 have e:(decide ((b.length:Int)-4<0)||(s5 (b.take (b.length-4)):Int) !=(be (b.drop (b.length-4)):Int))= !T0 b:=by
  unfold T0;rw[Bool.eq_iff_iff];simp;omega
 rw[e];refine⟨λh=> ?_,λh=> ?_⟩
 ·have h:T0 b=false:=by simpa using h
  exact⟨by simp[X4,h],h.symm,trivial⟩
 ·have h:T0 b=true:=by simpa using h
  have h4:4<=b.length:=by simp[T0] at h;exact h.1
  exact⟨⟨by omega,by omega⟩,by rw[show((b.length:Int)-4).toNat=b.length-4 by omega];simp[X4,h],h.symm,trivial⟩
end Go.Proofs.YtokaojbaacnngaaGreat

