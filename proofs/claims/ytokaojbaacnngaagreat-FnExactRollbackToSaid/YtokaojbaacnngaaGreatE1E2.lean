/- A part of the proof. -/
import Derived.Test.YtokaojbaacnngaaGreatD8
import Derived.Laws.BitsLemmas
namespace Go.Proofs.YtokaojbaacnngaaGreat
set_option maxRecDepth 100000
open Go.SS

theorem a9i{a b:Nat}(ha:a<4294967296)(hb:b<4294967296):a ^^^ b<4294967296:=Nat.xor_lt_two_pow (n:=32) ha hb
theorem b1Y{a b:Nat}(hb:b<4294967296):a&&&b<4294967296:=Nat.and_lt_two_pow (n:=32) a hb
theorem b3M{a b:Nat}(ha:a<4294967296)(hb:b<4294967296):a|||b<4294967296:=Nat.or_lt_two_pow (n:=32) ha hb
theorem xU{k:IntKind}(hk:k= .i64∨k= .u32){n:Nat}(hn:n<4294967296):(BitVec.ofInt k.bits (n:Int)).toNat=n:=by
 rw[BitVec.ofInt_natCast,BitVec.toNat_ofNat];refine Nat.mod_eq_of_lt ?_
 rcases hk with rfl|rfl
 ·exact Nat.lt_trans hn (by decide)
 ·exact hn
theorem xJ{k:IntKind}(hk:k= .i64∨k= .u32){n:Nat}(hn:n<4294967296):k.wrap (n:Int)=n:=by
 rcases hk with rfl|rfl
 ·rw[IntKind.wrap_i64];omega
 ·rw[IntKind.wrap_u32];omega
theorem qJ{k:IntKind}(hk:k= .i64∨k= .u32){a b:Nat}(ha:a<4294967296)(hb:b<4294967296):bits .xor k (a:Int) (b:Int)=((a ^^^ b:Nat):Int):=by
 show k.wrap ((BitVec.ofInt k.bits (a:Int) ^^^ BitVec.ofInt k.bits (b:Int)).toNat:Int)=_;rw[BitVec.toNat_xor,xU hk ha,xU hk hb,xJ hk (a9i ha hb)]
theorem b7b{k:IntKind}(hk:k= .i64∨k= .u32){a b:Nat}(ha:a<4294967296)(hb:b<4294967296):bits .and k (a:Int) (b:Int)=((a&&&b:Nat):Int):=by
 show k.wrap ((BitVec.ofInt k.bits (a:Int)&&&BitVec.ofInt k.bits (b:Int)).toNat:Int)=_;rw[BitVec.toNat_and,xU hk ha,xU hk hb,xJ hk (b1Y hb)]
theorem b80{k:IntKind}(hk:k= .i64∨k= .u32){a b:Nat}(ha:a<4294967296)(hb:b<4294967296):bits .or k (a:Int) (b:Int)=((a|||b:Nat):Int):=by
 show k.wrap ((BitVec.ofInt k.bits (a:Int)|||BitVec.ofInt k.bits (b:Int)).toNat:Int)=_;rw[BitVec.toNat_or,xU hk ha,xU hk hb,xJ hk (b3M ha hb)]
def cW(r:Nat):Nat:=(r/2) ^^^ (r % 2*3988292384)
def R6(r c:Nat):Nat->Nat
 |0=>r ^^^ c
 |k+1=>cW (R6 r c k)
def N9(l:List UInt8):Nat->Nat
 |0=>4294967295
 |i+1=>R6 (N9 l i) (l.getD i 0).toNat 8
def u3(l:List UInt8):Nat:=N9 l l.length ^^^ 4294967295
theorem a72{r:Nat}(h:r<4294967296):cW r<4294967296:=by
 have:r % 2*3988292384<2 ^ 32:=by have:=Nat.mod_lt r (show 0<2 by decide);omega
 exact Nat.xor_lt_two_pow (n:=32) (by omega) this
theorem wT{r c:Nat}(h:r<4294967296)(hc:c<256):∀k,R6 r c k<4294967296
 |0=>Nat.xor_lt_two_pow (n:=32) (by omega) (by omega)
 |k+1=>a72 (wT h hc k)
theorem zG(l:List UInt8)(i:Nat):(l.getD i 0).toNat<256:=(l.getD i 0).toNat_lt
theorem yF(l:List UInt8):∀i,N9 l i<4294967296
 |0=>show 4294967295<4294967296 by decide
 |i+1=>wT (yF l i) (zG l i) 8
theorem fU(l:List UInt8):u3 l<4294967296:=Nat.xor_lt_two_pow (n:=32) (yF l _) (by decide)
def J1(l:List UInt8):Prop:=l.length<=1000000000
def xA(k:IntKind):Rl:=⟨List UInt8,λl=>[.bys l],λl=>.int k (u3 l),J1⟩
def a2a:Con:=.rel (xA .i64)
def a6d:Con:=.rel (xA .u32)
def a2V(l:List UInt8):Nat->Ann
 |0=>.one {i:Nat//i<=l.length} (λx=>⟨[(0,.bys l),(3,.int .i64 (N9 l x.1)),(4,.int .i64 x.1)],[]⟩) (λx=>l.length-x.1) [] [] (λx=>fun
  |1=>.one {k:Nat//k<=8} (λy=>⟨[(0,.bys l),(3,.int .i64 (R6 (N9 l x.1) (l.getD x.1 0).toNat y.1)),(4,.int .i64 x.1),(5,.int .i64 y.1)],[]⟩) (λy=>8-y.1) [] [] (λ_=>Z0)
  |_=>.none)
 |_=>.none
def a7S(l:List UInt8):Nat->Ann
 |0=>.one {i:Nat//i<=l.length} (λx=>⟨[(3,.int .u32 (N9 l x.1)),(6,.bys l),(7,.int .i64 l.length),(8,.int .i64 x.1)],[]⟩) (λx=>l.length-x.1) [] [] (λx=>fun
  |1=>.one {k:Nat//k<=8} (λy=>⟨[(3,.int .u32 (R6 (N9 l x.1) (l.getD x.1 0).toNat y.1)),(6,.bys l),(7,.int .i64 l.length),(8,.int .i64 x.1),(16,.int .i64 y.1)],[]⟩) (λy=>8-y.1) [] [] (λ_=>Z0)
  |_=>.none)
 |_=>.none
theorem a5D{k:IntKind}(hk:k= .i64∨k= .u32){r:Nat}(hr:r<4294967296):bits .and k (r:Int) 1=((r % 2:Nat):Int):=by
 rw[show(1:Int)=((1:Nat):Int) from rfl,b7b hk hr (by decide),Nat.and_one_is_mod]
theorem b6K(r:Nat):(r:Int).fdiv 2=((r/2:Nat):Int):=by
 rw[Int.fdiv_eq_ediv_of_nonneg _ (by omega)]
 omega
theorem pO:GK 267 a2a:=gk Tryz.func267<|by
 intro(l:List UInt8) (hl:l.length<=1000000000);have k1:IntKind.i64= .i64∨IntKind.i64= .u32:=.inl rfl;refine S6 gN Tryz.func267 (a2V l) (α:=(∃(x:{i:Nat//i<=l.length}),(l=l/\(4294967295:Int)=(↑(N9 l x.val):Int)/\(0:Int)=(x.val:Int)/\True)/\True)/\∀(x:{i:Nat//i<=l.length}),(decide ((x.val:Int)<(l.length:Int))=true->W4 (x.val:Int) l.length/\(∃(x_1:{k:Nat//k<=8}),(l=l/\bits BinOp.xor IntKind.i64 (↑(N9 l x.val):Int) (IntKind.i64.wrap (↑(l.getD (x.val:Int).toNat (0:UInt8)).toNat:Int))=(↑(R6 (N9 l x.val) (l.getD x.val (0:UInt8)).toNat x_1.val):Int)/\(x.val:Int)=(x.val:Int)/\(0:Int)=(x_1.val:Int)/\True)/\True)/\∀(x_1:{k:Nat//k<=8}),(decide ((x_1.val:Int)<(8:Int))=true->Nn (1:Int)/\X4 .i64 (bits BinOp.and IntKind.i64 (↑(R6 (N9 l x.val) (l.getD x.val (0:UInt8)).toNat x_1.val):Int) (1:Int)*(3988292384:Int))/\X4 .i64 ((x_1.val:Int)+(1:Int))/\∃(y:{k:Nat//k<=8}),((l=l/\bits BinOp.xor IntKind.i64 ((↑(R6 (N9 l x.val) (l.getD x.val (0:UInt8)).toNat x_1.val):Int).fdiv (2:Int)) (bits BinOp.and IntKind.i64 (↑(R6 (N9 l x.val) (l.getD x.val (0:UInt8)).toNat x_1.val):Int) (1:Int)*(3988292384:Int))=(↑(R6 (N9 l x.val) (l.getD x.val (0:UInt8)).toNat y.val):Int)/\(x.val:Int)=(x.val:Int)/\(x_1.val:Int)+(1:Int)=(y.val:Int)/\True)/\True)/\Lt (8-y.val) (8-x_1.val))/\(decide ((x_1.val:Int)<(8:Int))=false->X4 .i64 ((x.val:Int)+(1:Int))/\∃(y:{i:Nat//i<=l.length}),((l=l/\(↑(R6 (N9 l x.val) (l.getD x.val (0:UInt8)).toNat x_1.val):Int)=(↑(N9 l y.val):Int)/\(x.val:Int)+(1:Int)=(y.val:Int)/\True)/\True)/\Lt (l.length-y.val) (l.length-x.val)))/\(decide ((x.val:Int)<(l.length:Int))=false->bits BinOp.xor IntKind.i64 (↑(N9 l x.val):Int) (4294967295:Int)=(↑(u3 l):Int))) ⟨⟨⟨0,S7 _⟩,⟨rfl,rfl,Z9⟩,trivial⟩,λx=>⟨λhc=> ?_,λhc=> ?_⟩⟩
 ·have hlt:=Y1 hc;have hr:=yF l x.val;have hb:=zG l x.val;refine⟨Y2 hlt,⟨⟨0,by omega⟩,⟨rfl,?_,rfl,Z9⟩,trivial⟩,λy=>⟨λhd=> ?_,λhd=> ?_⟩⟩
  ·rw[u9,xJ k1 (by omega),qJ k1 hr (by omega)]
   rfl
  ·have hy:y.val<8:=by have:=F3 hd;omega
   have hq:=wT hr hb y.val;have hm:R6 (N9 l x.val) (l.getD x.val 0).toNat y.val % 2*3988292384<4294967296:=by have:=Nat.mod_lt (R6 (N9 l x.val) (l.getD x.val 0).toNat y.val) (show 0<2 by decide);omega
   rw[a5D k1 hq,b6K,show((R6 (N9 l x.val) (l.getD x.val 0).toNat y.val % 2:Nat):Int)*3988292384=((R6 (N9 l x.val) (l.getD x.val 0).toNat y.val % 2*3988292384:Nat):Int) by omega,qJ k1 (by omega) hm]
   refine⟨by unfold Nn;omega,Z4 (by omega),Z4 (by omega),⟨y.val+1,hy⟩,⟨⟨rfl,rfl,rfl,by simp only;omega,trivial⟩,trivial⟩,by unfold Lt;simp only;omega⟩
  ·have hy:y.val=8:=by have:=y.2;have:=yQ hd;omega
   refine⟨V7 hlt (by omega),⟨x.val+1,hlt⟩,⟨⟨rfl,?_,by simp only;omega,trivial⟩,trivial⟩,V4.ext_lt hlt⟩
   rw[hy];rfl
 ·have hx:x.val=l.length:=by have:=x.2;have:=X9 hc;omega
  rw[hx,show(4294967295:Int)=((4294967295:Nat):Int) from rfl,qJ k1 (yF l _) (by decide)]
  rfl
theorem tJ:GK 271 a6d:=gk Tryz.func271<|by
 intro(l:List UInt8) (hl:l.length<=1000000000);have k1:IntKind.u32= .i64∨IntKind.u32= .u32:=.inr rfl;refine S6 gN Tryz.func271 (a7S l) (α:=(∃(x:{i:Nat//i<=l.length}),((4294967295:Int)=(↑(N9 l x.val):Int)/\l=l/\(l.length:Int)=(l.length:Int)/\(0:Int)=(x.val:Int)/\True)/\True)/\∀(x:{i:Nat//i<=l.length}),(decide ((x.val:Int)<(l.length:Int))=true->W4 (x.val:Int) l.length/\(∃(x_1:{k:Nat//k<=8}),(bits BinOp.xor IntKind.u32 (↑(N9 l x.val):Int) (IntKind.u32.wrap (↑(l.getD (x.val:Int).toNat (0:UInt8)).toNat:Int))=(↑(R6 (N9 l x.val) (l.getD x.val (0:UInt8)).toNat x_1.val):Int)/\l=l/\(l.length:Int)=(l.length:Int)/\(x.val:Int)=(x.val:Int)/\(0:Int)=(x_1.val:Int)/\True)/\True)/\∀(x_1:{k:Nat//k<=8}),(decide ((x_1.val:Int)<(8:Int))=true->((bits BinOp.and IntKind.u32 (↑(R6 (N9 l x.val) (l.getD x.val (0:UInt8)).toNat x_1.val):Int) (1:Int)==(1:Int))=true->Nn (1:Int)/\X4 .i64 ((x_1.val:Int)+(1:Int))/\∃(y:{k:Nat//k<=8}),((bits BinOp.xor IntKind.u32 ((↑(R6 (N9 l x.val) (l.getD x.val (0:UInt8)).toNat x_1.val):Int).fdiv (2:Int)) (3988292384:Int)=(↑(R6 (N9 l x.val) (l.getD x.val (0:UInt8)).toNat y.val):Int)/\l=l/\(l.length:Int)=(l.length:Int)/\(x.val:Int)=(x.val:Int)/\(x_1.val:Int)+(1:Int)=(y.val:Int)/\True)/\True)/\Lt (8-y.val) (8-x_1.val))/\((bits BinOp.and IntKind.u32 (↑(R6 (N9 l x.val) (l.getD x.val (0:UInt8)).toNat x_1.val):Int) (1:Int)==(1:Int))=false->Nn (1:Int)/\X4 .i64 ((x_1.val:Int)+(1:Int))/\∃(y:{k:Nat//k<=8}),(((↑(R6 (N9 l x.val) (l.getD x.val (0:UInt8)).toNat x_1.val):Int).fdiv (2:Int)=(↑(R6 (N9 l x.val) (l.getD x.val (0:UInt8)).toNat y.val):Int)/\l=l/\(l.length:Int)=(l.length:Int)/\(x.val:Int)=(x.val:Int)/\(x_1.val:Int)+(1:Int)=(y.val:Int)/\True)/\True)/\Lt (8-y.val) (8-x_1.val)))/\(decide ((x_1.val:Int)<(8:Int))=false->X4 .i64 ((x.val:Int)+(1:Int))/\∃(y:{i:Nat//i<=l.length}),(((↑(R6 (N9 l x.val) (l.getD x.val (0:UInt8)).toNat x_1.val):Int)=(↑(N9 l y.val):Int)/\l=l/\(l.length:Int)=(l.length:Int)/\(x.val:Int)+(1:Int)=(y.val:Int)/\True)/\True)/\Lt (l.length-y.val) (l.length-x.val)))/\(decide ((x.val:Int)<(l.length:Int))=false->bits BinOp.xor IntKind.u32 (↑(N9 l x.val):Int) (4294967295:Int)=(↑(u3 l):Int))) ⟨⟨⟨0,S7 _⟩,⟨rfl,rfl,rfl,Z9⟩,trivial⟩,λx=>⟨λhc=> ?_,λhc=> ?_⟩⟩
 ·have hlt:=Y1 hc;have hr:=yF l x.val;have hb:=zG l x.val;refine⟨Y2 hlt,⟨⟨0,by omega⟩,⟨?_,rfl,rfl,rfl,Z9⟩,trivial⟩,λy=>⟨λhd=> ?_,λhd=> ?_⟩⟩
  ·rw[u9,xJ k1 (by omega),qJ k1 hr (by omega)]
   rfl
  ·have hy:y.val<8:=by have:=F3 hd;omega
   have hq:=wT hr hb y.val;rw[a5D k1 hq,b6K];refine⟨λho=>⟨by unfold Nn;omega,Z4 (by omega),⟨y.val+1,hy⟩,⟨⟨?_,rfl,rfl,rfl,by simp only;omega,trivial⟩,trivial⟩,by unfold Lt;simp only;omega⟩,
    λho=>⟨by unfold Nn;omega,Z4 (by omega),⟨y.val+1,hy⟩,⟨⟨?_,rfl,rfl,rfl,by simp only;omega,trivial⟩,trivial⟩,by unfold Lt;simp only;omega⟩⟩
   ·have ho:R6 (N9 l x.val) (l.getD x.val 0).toNat y.val % 2=1:=by rw[beq_iff_eq] at ho;omega
    rw[show(3988292384:Int)=((3988292384:Nat):Int) from rfl,qJ k1 (by omega) (by decide)]
    simp only[R6,cW,ho,Nat.one_mul]
   ·have ho:R6 (N9 l x.val) (l.getD x.val 0).toNat y.val % 2=0:=by
     have:¬ ((R6 (N9 l x.val) (l.getD x.val 0).toNat y.val % 2:Nat):Int)=1:=by simpa using ho
     omega
    simp only[R6,cW,ho,Nat.zero_mul,Nat.xor_zero]
  ·have hy:y.val=8:=by have:=y.2;have:=yQ hd;omega
   refine⟨V7 hlt (by omega),⟨x.val+1,hlt⟩,⟨⟨?_,rfl,rfl,by simp only;omega,trivial⟩,trivial⟩,V4.ext_lt hlt⟩
   rw[hy];rfl
 ·have hx:x.val=l.length:=by have:=x.2;have:=X9 hc;omega
  rw[hx,show(4294967295:Int)=((4294967295:Nat):Int) from rfl,qJ k1 (yF l _) (by decide)]
  rfl
end Go.Proofs.YtokaojbaacnngaaGreat

namespace Go.Proofs.YtokaojbaacnngaaGreat
set_option maxRecDepth 100000
open Go.SS

def o6(l:List UInt8):Nat->Nat
 |0=>0
 |i+1=>o6 l i*256+(l.getD i 0).toNat
def be(l:List UInt8):Nat:=o6 l l.length
def pB(l:List UInt8):Prop:=l.length<=4
def a5F:Rl:=⟨List UInt8,λl=>[.bys l],λl=>.int .i64 (be l),pB⟩
def b9E:Con:=.rel a5F
def cV:Rl:=⟨List UInt8,λl=>[.str l],λl=>.int .i64 (be l),pB⟩
def b4B:Con:=.rel cV
def b5o(l:List UInt8):Nat->Ann
 |0=>.one {i:Nat//i<=l.length} (λx=>⟨[(0,.str l),(3,.int .i64 (o6 l x.1)),(4,.int .i64 x.1)],[]⟩) (λx=>l.length-x.1) [] [] (λ_=>Z0)
 |_=>.none
def b81(l:List UInt8):Nat->Ann
 |0=>.one {i:Nat//i<=l.length} (λx=>⟨[(3,.int .i64 (o6 l x.1)),(6,.bys l),(7,.int .i64 l.length),(8,.int .i64 x.1)],[]⟩) (λx=>l.length-x.1) [] [] (λ_=>Z0)
 |_=>.none
def b0v(n:Nat):Nat->Ann
 |0=>.unr n (λ_=>Z0)
 |_=>.none
def C1(n:Nat):List UInt8:=[P6 (IntKind.u8.wrap ((n:Int).fdiv 16777216)),P6 (IntKind.u8.wrap ((n:Int).fdiv 65536)),P6 (IntKind.u8.wrap ((n:Int).fdiv 256)),P6 (IntKind.u8.wrap ((n:Int).fdiv 1))]
def zP(n:Nat):List UInt8:=[P6 (IntKind.u8.wrap ((n:Int).fdiv 256)),P6 (IntKind.u8.wrap ((n:Int).fdiv 1))]
theorem Q6(x:Int):X4 .u8 (IntKind.u8.wrap x):=by
 rw[IntKind.wrap_u8];unfold X4 IntKind.min IntKind.max IntKind.signed IntKind.bits;have:=Int.emod_nonneg x (show(256:Int)≠0 by decide)
 have:=Int.emod_lt_of_pos x (show(0:Int)<256 by decide)
 simp;omega
theorem gY(n:Int):X4 .u8 n↔(0<=n/\n<=255):=by
 unfold X4 IntKind.min IntKind.max IntKind.signed IntKind.bits;simp
def mL:Rl:=⟨Nat×Bool,λx=>[.int .i64 x.1,.int .i64 (match x.2 with|true=>4|false=>2)],λx=>.bys (match x.2 with|true=>C1 x.1|false=>zP x.1),λ_=>True⟩
def aK:Con:=.rel mL
theorem rU:GK 269 aK:=gk Tryz.func269<|by
 rintro⟨n,b⟩ _;cases b
 ·refine S6 gN Tryz.func269 (b0v 3) (α:=X4 .i64 (1:Int)/\(true=true->X4 .i64 (8:Int)/\Nn (8:Int)/\X4 IntKind.u8 (IntKind.u8.wrap ((n:Int).fdiv (256:Int)))/\(Le 1 1/\Le 0 0/\V6 0 1 1)/\X4 .i64 (0:Int)/\(true=true->X4 .i64 (0:Int)/\Nn (0:Int)/\X4 IntKind.u8 (IntKind.u8.wrap ((n:Int).fdiv (1:Int)))/\(Le (0+1) 1/\Le (0+1) 1/\V6 (0+1) 1 1)/\X4 .i64 (-1:Int)/\(false=true->X4 .i64 (-8:Int)/\Nn (18446744073709551608:Int)/\X4 IntKind.u8 (IntKind.u8.wrap ((n:Int).fdiv (18446744073709551616:Int)))/\(Le (0+1) 1/\Le (0+1+1) 2/\V6 (0+1+1) 1 1)/\X4 .i64 (-2:Int)/\False)/\(false=false->Le 2 2/\List.take (0+1+1) (List.drop 0 (List.take (0+1) (List.take 0 (List.map P6 [])++List.take 1 (List.drop 0 (List.map P6 [IntKind.u8.wrap ((n:Int).fdiv (256:Int))])))++List.take 1 (List.drop 0 (List.map P6 [IntKind.u8.wrap ((n:Int).fdiv (1:Int))]))))=zP n))/\(true=false->Le 1 1/\List.take (0+1) (List.drop 0 (List.take 0 (List.map P6 [])++List.take 1 (List.drop 0 (List.map P6 [IntKind.u8.wrap ((n:Int).fdiv (256:Int))]))))=zP n))/\(true=false->Le 0 0/\List.take 0 (List.drop 0 (List.map P6 []))=zP n)) ?_
  simp[Z4,Q6,Nn,Le,V6,zP]
 ·refine S6 gN Tryz.func269 (b0v 5) (α:=X4 .i64 (3:Int)/\(true=true->X4 .i64 (24:Int)/\Nn (24:Int)/\X4 IntKind.u8 (IntKind.u8.wrap ((n:Int).fdiv (16777216:Int)))/\(Le 1 1/\Le 0 0/\V6 0 1 1)/\X4 .i64 (2:Int)/\(true=true->X4 .i64 (16:Int)/\Nn (16:Int)/\X4 IntKind.u8 (IntKind.u8.wrap ((n:Int).fdiv (65536:Int)))/\(Le (0+1) 1/\Le (0+1) 1/\V6 (0+1) 1 1)/\X4 .i64 (1:Int)/\(true=true->X4 .i64 (8:Int)/\Nn (8:Int)/\X4 IntKind.u8 (IntKind.u8.wrap ((n:Int).fdiv (256:Int)))/\(Le (0+1) 1/\Le (0+1+1) 2/\V6 (0+1+1) 1 1)/\X4 .i64 (0:Int)/\(true=true->X4 .i64 (0:Int)/\Nn (0:Int)/\X4 IntKind.u8 (IntKind.u8.wrap ((n:Int).fdiv (1:Int)))/\(Le (0+1) 1/\Le (0+1+1+1) 3/\V6 (0+1+1+1) 1 1)/\X4 .i64 (-1:Int)/\(false=true->X4 .i64 (-8:Int)/\Nn (18446744073709551608:Int)/\X4 IntKind.u8 (IntKind.u8.wrap ((n:Int).fdiv (18446744073709551616:Int)))/\(Le (0+1) 1/\Le (0+1+1+1+1) 4/\V6 (0+1+1+1+1) 1 1)/\X4 .i64 (-2:Int)/\False)/\(false=false->Le 4 4/\List.take (0+1+1+1+1) (List.drop 0 (List.take (0+1+1+1) (List.take (0+1+1) (List.take (0+1) (List.take 0 (List.map P6 [])++List.take 1 (List.drop 0 (List.map P6 [IntKind.u8.wrap ((n:Int).fdiv (16777216:Int))])))++List.take 1 (List.drop 0 (List.map P6 [IntKind.u8.wrap ((n:Int).fdiv (65536:Int))])))++List.take 1 (List.drop 0 (List.map P6 [IntKind.u8.wrap ((n:Int).fdiv (256:Int))])))++List.take 1 (List.drop 0 (List.map P6 [IntKind.u8.wrap ((n:Int).fdiv (1:Int))]))))=C1 n))/\(true=false->Le 3 3/\List.take (0+1+1+1) (List.drop 0 (List.take (0+1+1) (List.take (0+1) (List.take 0 (List.map P6 [])++List.take 1 (List.drop 0 (List.map P6 [IntKind.u8.wrap ((n:Int).fdiv (16777216:Int))])))++List.take 1 (List.drop 0 (List.map P6 [IntKind.u8.wrap ((n:Int).fdiv (65536:Int))])))++List.take 1 (List.drop 0 (List.map P6 [IntKind.u8.wrap ((n:Int).fdiv (256:Int))]))))=C1 n))/\(true=false->Le 2 2/\List.take (0+1+1) (List.drop 0 (List.take (0+1) (List.take 0 (List.map P6 [])++List.take 1 (List.drop 0 (List.map P6 [IntKind.u8.wrap ((n:Int).fdiv (16777216:Int))])))++List.take 1 (List.drop 0 (List.map P6 [IntKind.u8.wrap ((n:Int).fdiv (65536:Int))]))))=C1 n))/\(true=false->Le 1 1/\List.take (0+1) (List.drop 0 (List.take 0 (List.map P6 [])++List.take 1 (List.drop 0 (List.map P6 [IntKind.u8.wrap ((n:Int).fdiv (16777216:Int))]))))=C1 n))/\(true=false->Le 0 0/\List.take 0 (List.drop 0 (List.map P6 []))=C1 n)) ?_
  simp[Z4,Q6,Nn,Le,V6,C1]
theorem yI(l:List UInt8)(i:Nat):IntKind.i64.wrap ((l.getD i 0).toNat:Int)=((l.getD i 0).toNat:Int):=qE _
theorem a5O(l:List UInt8):∀i,o6 l i<256 ^ i
 |0=>by simp[o6]
 |i+1=>by
  have h1:=a5O l i;have h2:=zG l i;simp only[o6,Nat.pow_succ];omega
theorem a0M(l:List UInt8){i:Nat}(h:i<4):o6 l i<16777216:=
 vV (a5O l i) (Nat.pow_le_pow_right (n:=256) (by decide) (show i<=3 by omega))
theorem a1d:GK 250 b4B:=gk Tryz.func250<|by
 intro(l:List UInt8) (hl:l.length<=4);refine S6 gN Tryz.func250 (b5o l) (α:=(∃(x:{i:Nat//i<=l.length}),(l=l/\(0:Int)=(↑(o6 l x.val):Int)/\(0:Int)=(x.val:Int)/\True)/\True)/\∀(x:{i:Nat//i<=l.length}),(decide ((x.val:Int)<(l.length:Int))=true->X4 .i64 ((↑(o6 l x.val):Int)*(256:Int))/\W4 (x.val:Int) l.length/\X4 .i64 ((↑(o6 l x.val):Int)*(256:Int)+IntKind.i64.wrap (↑(l.getD (x.val:Int).toNat (0:UInt8)).toNat:Int))/\X4 .i64 ((x.val:Int)+(1:Int))/\∃(y:{i:Nat//i<=l.length}),((l=l/\(↑(o6 l x.val):Int)*(256:Int)+IntKind.i64.wrap (↑(l.getD (x.val:Int).toNat (0:UInt8)).toNat:Int)=(↑(o6 l y.val):Int)/\(x.val:Int)+(1:Int)=(y.val:Int)/\True)/\True)/\Lt (l.length-y.val) (l.length-x.val))/\(decide ((x.val:Int)<(l.length:Int))=false->(↑(o6 l x.val):Int)=(↑(be l):Int))) ⟨⟨⟨0,S7 _⟩,⟨rfl,rfl,Z9⟩,trivial⟩,λx=>⟨λhc=> ?_,λhc=> ?_⟩⟩
 ·have hlt:=Y1 hc;have hb:=zG l x.val;have hr:=a0M l (show x.val<4 by omega)
  rw[u9,yI];refine⟨Z4 (by omega),Y2 hlt,Z4 (by omega),V7 hlt (by omega),⟨x.val+1,hlt⟩,⟨⟨rfl,?_,by simp only;omega,trivial⟩,trivial⟩,V4.ext_lt hlt⟩
  simp only[o6];omega
 ·have hx:x.val=l.length:=by have:=x.2;have:=X9 hc;omega
  rw[hx];rfl
theorem a38:GK 257 b9E:=gk Tryz.func257<|by
 intro(l:List UInt8) (hl:l.length<=4);refine S6 gN Tryz.func257 (b81 l) (α:=(∃(x:{i:Nat//i<=l.length}),((0:Int)=(↑(o6 l x.val):Int)/\l=l/\(l.length:Int)=(l.length:Int)/\(0:Int)=(x.val:Int)/\True)/\True)/\∀(x:{i:Nat//i<=l.length}),(decide ((x.val:Int)<(l.length:Int))=true->W4 (x.val:Int) l.length/\Nn (8:Int)/\X4 .i64 ((x.val:Int)+(1:Int))/\∃(y:{i:Nat//i<=l.length}),((bits BinOp.or IntKind.i64 (IntKind.i64.wrap ((↑(o6 l x.val):Int)*(256:Int))) (IntKind.i64.wrap (↑(l.getD (x.val:Int).toNat (0:UInt8)).toNat:Int))=(↑(o6 l y.val):Int)/\l=l/\(l.length:Int)=(l.length:Int)/\(x.val:Int)+(1:Int)=(y.val:Int)/\True)/\True)/\Lt (l.length-y.val) (l.length-x.val))/\(decide ((x.val:Int)<(l.length:Int))=false->(↑(o6 l x.val):Int)=(↑(be l):Int))) ⟨⟨⟨0,S7 _⟩,⟨rfl,rfl,rfl,Z9⟩,trivial⟩,λx=>⟨λhc=> ?_,λhc=> ?_⟩⟩
 ·have hlt:=Y1 hc;have hb:=zG l x.val;have hr:=a0M l (show x.val<4 by omega)
  rw[u9,yI,show((o6 l x.val:Nat):Int)*256=((o6 l x.val*256:Nat):Int) by omega,xJ (.inl rfl) (by omega),b80 (.inl rfl) (by omega) (by omega)]
  refine⟨Y2 hlt,by unfold Nn;omega,V7 hlt (by omega),⟨x.val+1,hlt⟩,⟨⟨?_,rfl,rfl,by simp only;omega,trivial⟩,trivial⟩,V4.ext_lt hlt⟩
  have:=Nat.two_pow_add_eq_or_of_lt (i:=8) (b:=(l.getD x.val 0).toNat) hb (o6 l x.val);rw[show o6 l x.val*256=2 ^ 8*o6 l x.val by omega,←this]
  simp only[o6];omega
 ·have hx:x.val=l.length:=by have:=x.2;have:=X9 hc;omega
  rw[hx];rfl
def T4(b:List UInt8):Bool:=decide (4<=b.length)&&u3 (b.take (b.length-4))==be (b.drop (b.length-4))
def X6(b:List UInt8):List UInt8:=if T4 b then b.take (b.length-4) else[]
def xM:Rl:=⟨List UInt8,λb=>[.bys b],λb=>.tup [.bys (X6 b),.bool (T4 b)],J1⟩
def a3F:Con:=.rel xM
def bU:Rl:=⟨List UInt8,λb=>[.str b],λb=>.tup [.str (X6 b),.bool (T4 b)],J1⟩
def aP:Con:=.rel bU
theorem vT:GK 255 a3F:=gk Tryz.func255<|by
 intro(b:List UInt8) (hl:b.length<=1000000000);have hd:∀{p:Prop},(decide ((b.length:Int)-4<0)=false->p)↔(4<=b.length->p):=λ{p}=>⟨λh g=>h (uK (by omega)),λh g=>h (by have:=yQ g;omega)⟩
 refine S6 (gC tJ (gC a38 gN)) Tryz.func255 Z0 (α:=X4 .i64 ((b.length:Int)- (4:Int))/\(decide ((b.length:Int)- (4:Int)<(0:Int))=false->InC ((b.length:Int)- (4:Int)) b.length)/\∃(x:(xA IntKind.u32).ι),(decide ((b.length:Int)- (4:Int)<(0:Int))=false->(List.take ((b.length:Int)- (4:Int)).toNat b=x/\True)/\J1 x)/\(decide ((b.length:Int)- (4:Int)<(0:Int))=false->InC ((b.length:Int)- (4:Int)) b.length)/\∃(x_1:a5F.ι),(decide ((b.length:Int)- (4:Int)<(0:Int))=false->(List.drop ((b.length:Int)- (4:Int)).toNat b=x_1/\True)/\pB x_1)/\((decide ((b.length:Int)- (4:Int)<(0:Int))||IntKind.i64.wrap (↑(u3 x):Int) !=(↑(be x_1):Int))=true->X6 b=[]/\false=T4 b/\True)/\((decide ((b.length:Int)- (4:Int)<(0:Int))||IntKind.i64.wrap (↑(u3 x):Int) !=(↑(be x_1):Int))=false->InC ((b.length:Int)- (4:Int)) b.length/\List.take ((b.length:Int)- (4:Int)).toNat b=X6 b/\true=T4 b/\True)) ?_
 refine⟨Z4 (by omega),hd.2 λh4=>⟨by omega,by omega⟩,b.take (b.length-4),hd.2 ?_,hd.2 λh4=>⟨by omega,by omega⟩,b.drop (b.length-4),hd.2 ?_,?_⟩
 ·exact λh4=>⟨⟨by rw[show((b.length:Int)-4).toNat=b.length-4 by omega],trivial⟩,by unfold J1;simp;omega⟩
 ·exact λh4=>⟨⟨by rw[show((b.length:Int)-4).toNat=b.length-4 by omega],trivial⟩,by unfold pB;simp;omega⟩
 have e:(decide ((b.length:Int)-4<0)||IntKind.i64.wrap (u3 (b.take (b.length-4)):Int) !=(be (b.drop (b.length-4)):Int))= !T4 b:=by
  rw[xJ (.inl rfl) (fU _)];unfold T4;rw[Bool.eq_iff_iff];simp;omega
 rw[e];refine⟨λh=> ?_,λh=> ?_⟩
 ·have h:T4 b=false:=by simpa using h
  exact⟨by simp[X6,h],h.symm,trivial⟩
 ·have h:T4 b=true:=by simpa using h
  have h4:4<=b.length:=by simp[T4] at h;exact h.1
  exact⟨⟨by omega,by omega⟩,by rw[show((b.length:Int)-4).toNat=b.length-4 by omega];simp[X6,h],h.symm,trivial⟩
theorem sC:GK 230 aP:=gk Tryz.func230<|by
 intro(b:List UInt8) (hl:b.length<=1000000000);have hd:∀{p:Prop},(decide ((b.length:Int)-4<0)=false->p)↔(4<=b.length->p):=λ{p}=>⟨λh g=>h (uK (by omega)),λh g=>h (by have:=yQ g;omega)⟩
 refine S6 (gC pO (gC a1d gN)) Tryz.func230 Z0 (α:=X4 .i64 ((b.length:Int)- (4:Int))/\(decide ((b.length:Int)- (4:Int)<(0:Int))=false->InC ((b.length:Int)- (4:Int)) b.length)/\(decide ((b.length:Int)- (4:Int)<(0:Int))=false->Lt (List.take ((b.length:Int)- (4:Int)).toNat b).length 140737488355329)/\∃(x:(xA IntKind.i64).ι),(decide ((b.length:Int)- (4:Int)<(0:Int))=false->(List.take ((b.length:Int)- (4:Int)).toNat b=x/\True)/\J1 x)/\(decide ((b.length:Int)- (4:Int)<(0:Int))=false->InC ((b.length:Int)- (4:Int)) b.length)/\∃(x_1:cV.ι),(decide ((b.length:Int)- (4:Int)<(0:Int))=false->(List.drop ((b.length:Int)- (4:Int)).toNat b=x_1/\True)/\pB x_1)/\((decide ((b.length:Int)- (4:Int)<(0:Int))||(↑(u3 x):Int) !=(↑(be x_1):Int))=true->[]=X6 b/\false=T4 b/\True)/\((decide ((b.length:Int)- (4:Int)<(0:Int))||(↑(u3 x):Int) !=(↑(be x_1):Int))=false->InC ((b.length:Int)- (4:Int)) b.length/\List.take ((b.length:Int)- (4:Int)).toNat b=X6 b/\true=T4 b/\True)) ?_
 refine⟨Z4 (by omega),hd.2 λh4=>⟨by omega,by omega⟩,hd.2 λh4=>by unfold Lt;simp;omega,b.take (b.length-4),hd.2 ?_,hd.2 λh4=>⟨by omega,by omega⟩,b.drop (b.length-4),hd.2 ?_,?_⟩
 ·exact λh4=>⟨⟨by rw[show((b.length:Int)-4).toNat=b.length-4 by omega],trivial⟩,by unfold J1;simp;omega⟩
 ·exact λh4=>⟨⟨by rw[show((b.length:Int)-4).toNat=b.length-4 by omega],trivial⟩,by unfold pB;simp;omega⟩
 have e:(decide ((b.length:Int)-4<0)||(u3 (b.take (b.length-4)):Int) !=(be (b.drop (b.length-4)):Int))= !T4 b:=by
  unfold T4;rw[Bool.eq_iff_iff];simp;omega
 rw[e];refine⟨λh=> ?_,λh=> ?_⟩
 ·have h:T4 b=false:=by simpa using h
  exact⟨by simp[X6,h],h.symm,trivial⟩
 ·have h:T4 b=true:=by simpa using h
  have h4:4<=b.length:=by simp[T4] at h;exact h.1
  exact⟨⟨by omega,by omega⟩,by rw[show((b.length:Int)-4).toNat=b.length-4 by omega];simp[X6,h],h.symm,trivial⟩
end Go.Proofs.YtokaojbaacnngaaGreat

