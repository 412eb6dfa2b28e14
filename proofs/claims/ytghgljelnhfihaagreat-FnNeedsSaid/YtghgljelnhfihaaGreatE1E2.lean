/- A part of the proof. -/
import Derived.Test.YtghgljelnhfihaaGreatD5D6D8
import Derived.Laws.BitsLemmas
namespace Go.Proofs.YtghgljelnhfihaaGreat
set_option maxRecDepth 100000
open Go.SS

theorem b3w{a b:Nat}(ha:a<4294967296)(hb:b<4294967296):a ^^^ b<4294967296:=Nat.xor_lt_two_pow (n:=32) ha hb
theorem b3i{a b:Nat}(hb:b<4294967296):a&&&b<4294967296:=Nat.and_lt_two_pow (n:=32) a hb
theorem b50{a b:Nat}(ha:a<4294967296)(hb:b<4294967296):a|||b<4294967296:=Nat.or_lt_two_pow (n:=32) ha hb
theorem wW{k:IntKind}(hk:k= .i64∨k= .u32){n:Nat}(hn:n<4294967296):(BitVec.ofInt k.bits (n:Int)).toNat=n:=by
 rw[BitVec.ofInt_natCast,BitVec.toNat_ofNat];refine Nat.mod_eq_of_lt ?_
 rcases hk with rfl|rfl
 ·exact Nat.lt_trans hn (by decide)
 ·exact hn
theorem vA{k:IntKind}(hk:k= .i64∨k= .u32){n:Nat}(hn:n<4294967296):k.wrap (n:Int)=n:=by
 rcases hk with rfl|rfl
 ·rw[IntKind.wrap_i64];omega
 ·rw[IntKind.wrap_u32];omega
theorem oN{k:IntKind}(hk:k= .i64∨k= .u32){a b:Nat}(ha:a<4294967296)(hb:b<4294967296):bits .xor k (a:Int) (b:Int)=((a ^^^ b:Nat):Int):=by
 show k.wrap ((BitVec.ofInt k.bits (a:Int) ^^^ BitVec.ofInt k.bits (b:Int)).toNat:Int)=_;rw[BitVec.toNat_xor,wW hk ha,wW hk hb,vA hk (b3w ha hb)]
theorem b7T{k:IntKind}(hk:k= .i64∨k= .u32){a b:Nat}(ha:a<4294967296)(hb:b<4294967296):bits .and k (a:Int) (b:Int)=((a&&&b:Nat):Int):=by
 show k.wrap ((BitVec.ofInt k.bits (a:Int)&&&BitVec.ofInt k.bits (b:Int)).toNat:Int)=_;rw[BitVec.toNat_and,wW hk ha,wW hk hb,vA hk (b3i hb)]
theorem c1A{k:IntKind}(hk:k= .i64∨k= .u32){a b:Nat}(ha:a<4294967296)(hb:b<4294967296):bits .or k (a:Int) (b:Int)=((a|||b:Nat):Int):=by
 show k.wrap ((BitVec.ofInt k.bits (a:Int)|||BitVec.ofInt k.bits (b:Int)).toNat:Int)=_;rw[BitVec.toNat_or,wW hk ha,wW hk hb,vA hk (b50 ha hb)]
def aU(r:Nat):Nat:=(r/2) ^^^ (r % 2*3988292384)
def P5(r c:Nat):Nat->Nat
 |0=>r ^^^ c
 |k+1=>aU (P5 r c k)
def M1(l:List UInt8):Nat->Nat
 |0=>4294967295
 |i+1=>P5 (M1 l i) (l.getD i 0).toNat 8
def t6(l:List UInt8):Nat:=M1 l l.length ^^^ 4294967295
theorem a8f{r:Nat}(h:r<4294967296):aU r<4294967296:=by
 have:r % 2*3988292384<2 ^ 32:=by have:=Nat.mod_lt r (show 0<2 by decide);omega
 exact Nat.xor_lt_two_pow (n:=32) (by omega) this
theorem vE{r c:Nat}(h:r<4294967296)(hc:c<256):∀k,P5 r c k<4294967296
 |0=>Nat.xor_lt_two_pow (n:=32) (by omega) (by omega)
 |k+1=>a8f (vE h hc k)
theorem g9(l:List UInt8)(i:Nat):(l.getD i 0).toNat<256:=(l.getD i 0).toNat_lt
theorem xF(l:List UInt8):∀i,M1 l i<4294967296
 |0=>show 4294967295<4294967296 by decide
 |i+1=>vE (xF l i) (g9 l i) 8
theorem bB(l:List UInt8):t6 l<4294967296:=Nat.xor_lt_two_pow (n:=32) (xF l _) (by decide)
def G4(l:List UInt8):Prop:=l.length<=1000000000
def vZ(k:IntKind):Rl:=⟨List UInt8,λl=>[.bys l],λl=>.int k (t6 l),G4⟩
def a4r:Con:=.rel (vZ .i64)
def a7y:Con:=.rel (vZ .u32)
def a4n(l:List UInt8):Nat->Ann
 |0=>.one {i:Nat//i<=l.length} (λx=>⟨[(0,.bys l),(3,.int .i64 (M1 l x.1)),(4,.int .i64 x.1)],[]⟩) (λx=>l.length-x.1) [] [] (λx=>fun
  |1=>.one {k:Nat//k<=8} (λy=>⟨[(0,.bys l),(3,.int .i64 (P5 (M1 l x.1) (l.getD x.1 0).toNat y.1)),(4,.int .i64 x.1),(5,.int .i64 y.1)],[]⟩) (λy=>8-y.1) [] [] (λ_=>Y5)
  |_=>.none)
 |_=>.none
def a9m(l:List UInt8):Nat->Ann
 |0=>.one {i:Nat//i<=l.length} (λx=>⟨[(3,.int .u32 (M1 l x.1)),(6,.bys l),(7,.int .i64 l.length),(8,.int .i64 x.1)],[]⟩) (λx=>l.length-x.1) [] [] (λx=>fun
  |1=>.one {k:Nat//k<=8} (λy=>⟨[(3,.int .u32 (P5 (M1 l x.1) (l.getD x.1 0).toNat y.1)),(6,.bys l),(7,.int .i64 l.length),(8,.int .i64 x.1),(16,.int .i64 y.1)],[]⟩) (λy=>8-y.1) [] [] (λ_=>Y5)
  |_=>.none)
 |_=>.none
theorem a6n{k:IntKind}(hk:k= .i64∨k= .u32){r:Nat}(hr:r<4294967296):bits .and k (r:Int) 1=((r % 2:Nat):Int):=by
 rw[show(1:Int)=((1:Nat):Int) from rfl,b7T hk hr (by decide),Nat.and_one_is_mod]
theorem b6U(r:Nat):(r:Int).fdiv 2=((r/2:Nat):Int):=by
 rw[Int.fdiv_eq_ediv_of_nonneg _ (by omega)]
 omega
theorem nY:GK 317 a4r:=gk Tryz.func317<|by
 intro(l:List UInt8) (hl:l.length<=1000000000);have k1:IntKind.i64= .i64∨IntKind.i64= .u32:=.inl rfl;refine Q5 gN Tryz.func317 (a4n l) (α:=(∃(x:{i:Nat//i<=l.length}),(l=l/\4294967295=(↑(M1 l x.val):Int)/\0=(x.val:Int)/\True)/\True)/\∀(x:{i:Nat//i<=l.length}),let u:=(M1 l x.val);let r:=(l.getD x.val (0:UInt8)).toNat;let q:=(x.val:Int);let w:=(q<(l.length:Int));(decide w=true->V3 q l.length/\(∃(x_1:{k:Nat//k<=8}),(l=l/\bits BinOp.xor IntKind.i64 (↑u:Int) (IntKind.i64.wrap (↑(l.getD q.toNat (0:UInt8)).toNat:Int))=(↑(P5 u r x_1.val):Int)/\q=q/\0=(x_1.val:Int)/\True)/\True)/\∀(x_1:{k:Nat//k<=8}),let v:=(x_1.val:Int);let p:=(↑(P5 u r x_1.val):Int);let z:=(bits BinOp.and IntKind.i64 p (1:Int)*3988292384);(decide (v<8)=true->Nn (1:Int)/\W7 .i64 z/\W7 .i64 (v+1)/\∃(y:{k:Nat//k<=8}),((l=l/\bits BinOp.xor IntKind.i64 (p.fdiv (2:Int)) z=(↑(P5 u r y.val):Int)/\q=q/\v+1=(y.val:Int)/\True)/\True)/\Lt (8-y.val) (8-x_1.val))/\(decide (v<8)=false->W7 .i64 (q+1)/\∃(y:{i:Nat//i<=l.length}),((l=l/\p=(↑(M1 l y.val):Int)/\q+1=(y.val:Int)/\True)/\True)/\Lt (l.length-y.val) (l.length-x.val)))/\(decide w=false->bits BinOp.xor IntKind.i64 (↑u:Int) 4294967295=(↑(t6 l):Int))) ⟨⟨⟨0,S7 _⟩,⟨rfl,rfl,Z9⟩,trivial⟩,λx=>⟨λhc=> ?_,λhc=> ?_⟩⟩
 ·have hlt:=X6 hc;have hr:=xF l x.val;have hb:=g9 l x.val;refine⟨X8 hlt,⟨⟨0,by omega⟩,⟨rfl,?_,rfl,Z9⟩,trivial⟩,λy=>⟨λhd=> ?_,λhd=> ?_⟩⟩
  ·rw[F5,vA k1 (by omega),oN k1 hr (by omega)]
   rfl
  ·have hy:y.val<8:=by have:=C7 hd;omega
   have hq:=vE hr hb y.val;have hm:P5 (M1 l x.val) (l.getD x.val 0).toNat y.val % 2*3988292384<4294967296:=by have:=Nat.mod_lt (P5 (M1 l x.val) (l.getD x.val 0).toNat y.val) (show 0<2 by decide);omega
   rw[a6n k1 hq,b6U,show((P5 (M1 l x.val) (l.getD x.val 0).toNat y.val % 2:Nat):Int)*3988292384=((P5 (M1 l x.val) (l.getD x.val 0).toNat y.val % 2*3988292384:Nat):Int) by omega,oN k1 (by omega) hm]
   refine⟨by unfold Nn;omega,Z4 (by omega),Z4 (by omega),⟨y.val+1,hy⟩,⟨⟨rfl,rfl,rfl,by simp only;omega,trivial⟩,trivial⟩,by unfold Lt;simp only;omega⟩
  ·have hy:y.val=8:=by have:=y.2;have:=l7 hd;omega
   refine⟨U5 hlt (by omega),⟨x.val+1,hlt⟩,⟨⟨rfl,?_,by simp only;omega,trivial⟩,trivial⟩,V1.ext_lt hlt⟩
   rw[hy];rfl
 ·have hx:x.val=l.length:=by have:=x.2;have:=X4 hc;omega
  rw[hx,show(4294967295:Int)=((4294967295:Nat):Int) from rfl,oN k1 (xF l _) (by decide)]
  rfl
theorem sD:GK 291 a7y:=gk Tryz.func291<|by
 intro(l:List UInt8) (hl:l.length<=1000000000);have k1:IntKind.u32= .i64∨IntKind.u32= .u32:=.inr rfl;refine Q5 gN Tryz.func291 (a9m l) (α:=let q:=(l.length:Int);(∃(x:{i:Nat//i<=l.length}),(4294967295=(↑(M1 l x.val):Int)/\l=l/\q=q/\0=(x.val:Int)/\True)/\True)/\∀(x:{i:Nat//i<=l.length}),let v:=(M1 l x.val);let z:=(l.getD x.val (0:UInt8)).toNat;let r:=(x.val:Int);(decide (r<q)=true->V3 r l.length/\(∃(x_1:{k:Nat//k<=8}),(bits BinOp.xor IntKind.u32 (↑v:Int) (IntKind.u32.wrap (↑(l.getD r.toNat (0:UInt8)).toNat:Int))=(↑(P5 v z x_1.val):Int)/\l=l/\q=q/\r=r/\0=(x_1.val:Int)/\True)/\True)/\∀(x_1:{k:Nat//k<=8}),let u:=(x_1.val:Int);let p:=(↑(P5 v z x_1.val):Int);let w:=(bits BinOp.and IntKind.u32 p (1:Int)==1);(decide (u<8)=true->(w=true->Nn (1:Int)/\W7 .i64 (u+1)/\∃(y:{k:Nat//k<=8}),((bits BinOp.xor IntKind.u32 (p.fdiv (2:Int)) 3988292384=(↑(P5 v z y.val):Int)/\l=l/\q=q/\r=r/\u+1=(y.val:Int)/\True)/\True)/\Lt (8-y.val) (8-x_1.val))/\(w=false->Nn (1:Int)/\W7 .i64 (u+1)/\∃(y:{k:Nat//k<=8}),((p.fdiv 2=(↑(P5 v z y.val):Int)/\l=l/\q=q/\r=r/\u+1=(y.val:Int)/\True)/\True)/\Lt (8-y.val) (8-x_1.val)))/\(decide (u<8)=false->W7 .i64 (r+1)/\∃(y:{i:Nat//i<=l.length}),((p=(↑(M1 l y.val):Int)/\l=l/\q=q/\r+1=(y.val:Int)/\True)/\True)/\Lt (l.length-y.val) (l.length-x.val)))/\(decide (r<q)=false->bits BinOp.xor IntKind.u32 (↑v:Int) 4294967295=(↑(t6 l):Int))) ⟨⟨⟨0,S7 _⟩,⟨rfl,rfl,rfl,Z9⟩,trivial⟩,λx=>⟨λhc=> ?_,λhc=> ?_⟩⟩
 ·have hlt:=X6 hc;have hr:=xF l x.val;have hb:=g9 l x.val;refine⟨X8 hlt,⟨⟨0,by omega⟩,⟨?_,rfl,rfl,rfl,Z9⟩,trivial⟩,λy=>⟨λhd=> ?_,λhd=> ?_⟩⟩
  ·rw[F5,vA k1 (by omega),oN k1 hr (by omega)]
   rfl
  ·have hy:y.val<8:=by have:=C7 hd;omega
   have hq:=vE hr hb y.val;rw[a6n k1 hq,b6U];refine⟨λho=>⟨by unfold Nn;omega,Z4 (by omega),⟨y.val+1,hy⟩,⟨⟨?_,rfl,rfl,rfl,by simp only;omega,trivial⟩,trivial⟩,by unfold Lt;simp only;omega⟩,
    λho=>⟨by unfold Nn;omega,Z4 (by omega),⟨y.val+1,hy⟩,⟨⟨?_,rfl,rfl,rfl,by simp only;omega,trivial⟩,trivial⟩,by unfold Lt;simp only;omega⟩⟩
   ·have ho:P5 (M1 l x.val) (l.getD x.val 0).toNat y.val % 2=1:=by rw[beq_iff_eq] at ho;omega
    rw[show(3988292384:Int)=((3988292384:Nat):Int) from rfl,oN k1 (by omega) (by decide)]
    simp only[P5,aU,ho,Nat.one_mul]
   ·have ho:P5 (M1 l x.val) (l.getD x.val 0).toNat y.val % 2=0:=by
     have:¬ ((P5 (M1 l x.val) (l.getD x.val 0).toNat y.val % 2:Nat):Int)=1:=by simpa using ho
     omega
    simp only[P5,aU,ho,Nat.zero_mul,Nat.xor_zero]
  ·have hy:y.val=8:=by have:=y.2;have:=l7 hd;omega
   refine⟨U5 hlt (by omega),⟨x.val+1,hlt⟩,⟨⟨?_,rfl,rfl,by simp only;omega,trivial⟩,trivial⟩,V1.ext_lt hlt⟩
   rw[hy];rfl
 ·have hx:x.val=l.length:=by have:=x.2;have:=X4 hc;omega
  rw[hx,show(4294967295:Int)=((4294967295:Nat):Int) from rfl,oN k1 (xF l _) (by decide)]
  rfl
end Go.Proofs.YtghgljelnhfihaaGreat

namespace Go.Proofs.YtghgljelnhfihaaGreat
set_option maxRecDepth 100000
open Go.SS

def o7(l:List UInt8):Nat->Nat
 |0=>0
 |i+1=>o7 l i*256+(l.getD i 0).toNat
def be(l:List UInt8):Nat:=o7 l l.length
def oW(l:List UInt8):Prop:=l.length<=4
def a7d:Rl:=⟨List UInt8,λl=>[.bys l],λl=>.int .i64 (be l),oW⟩
def c1l:Con:=.rel a7d
def mV:Rl:=⟨List UInt8,λl=>[.str l],λl=>.int .i64 (be l),oW⟩
def b4U:Con:=.rel mV
def b4x(l:List UInt8):Nat->Ann
 |0=>.one {i:Nat//i<=l.length} (λx=>⟨[(0,.str l),(3,.int .i64 (o7 l x.1)),(4,.int .i64 x.1)],[]⟩) (λx=>l.length-x.1) [] [] (λ_=>Y5)
 |_=>.none
def c05(l:List UInt8):Nat->Ann
 |0=>.one {i:Nat//i<=l.length} (λx=>⟨[(3,.int .i64 (o7 l x.1)),(6,.bys l),(7,.int .i64 l.length),(8,.int .i64 x.1)],[]⟩) (λx=>l.length-x.1) [] [] (λ_=>Y5)
 |_=>.none
def b3c(n:Nat):Nat->Ann
 |0=>.unr n (λ_=>Y5)
 |_=>.none
def E4(n:Nat):List UInt8:=[P2 (IntKind.u8.wrap ((n:Int).fdiv 16777216)),P2 (IntKind.u8.wrap ((n:Int).fdiv 65536)),P2 (IntKind.u8.wrap ((n:Int).fdiv 256)),P2 (IntKind.u8.wrap ((n:Int).fdiv 1))]
def i6(n:Nat):List UInt8:=[P2 (IntKind.u8.wrap ((n:Int).fdiv 256)),P2 (IntKind.u8.wrap ((n:Int).fdiv 1))]
theorem P1(x:Int):W7 .u8 (IntKind.u8.wrap x):=by
 rw[IntKind.wrap_u8];unfold W7 IntKind.min IntKind.max IntKind.signed IntKind.bits;have:=Int.emod_nonneg x (show(256:Int)≠0 by decide)
 have:=Int.emod_lt_of_pos x (show(0:Int)<256 by decide)
 simp;omega
theorem pG(n:Int):W7 .u8 n↔(0<=n/\n<=255):=by
 unfold W7 IntKind.min IntKind.max IntKind.signed IntKind.bits;simp
def rI:Rl:=⟨Nat×Bool,λx=>[.int .i64 x.1,.int .i64 (match x.2 with|true=>4|false=>2)],λx=>.bys (match x.2 with|true=>E4 x.1|false=>i6 x.1),λ_=>True⟩
def a28:Con:=.rel rI
theorem vQ:GK 320 a28:=gk Tryz.func320<|by
 rintro⟨n,b⟩ _;cases b
 ·refine Q5 gN Tryz.func320 (b3c 3) (α:=let q:=(n:Int).fdiv;let p:=(List.take 0 (List.map P2 [])++List.take 1 (List.drop 0 (List.map P2 [IntKind.u8.wrap (q (256:Int))])));W7 .i64 1/\(true=true->W7 .i64 8/\Nn (8:Int)/\W7 IntKind.u8 (IntKind.u8.wrap (q (256:Int)))/\(Le 1 1/\Le 0 0/\W6 0 1 1)/\W7 .i64 0/\(true=true->W7 .i64 0/\Nn (0:Int)/\W7 IntKind.u8 (IntKind.u8.wrap (q (1:Int)))/\(Le (0+1) 1/\Le (0+1) 1/\W6 (0+1) 1 1)/\W7 .i64 (-1:Int)/\(false=true->W7 .i64 (-8:Int)/\Nn (18446744073709551608:Int)/\W7 IntKind.u8 (IntKind.u8.wrap (q (18446744073709551616:Int)))/\(Le (0+1) 1/\Le (0+1+1) 2/\W6 (0+1+1) 1 1)/\W7 .i64 (-2:Int)/\False)/\(false=false->Le 2 2/\List.take (0+1+1) (List.drop 0 (List.take (0+1) p++List.take 1 (List.drop 0 (List.map P2 [IntKind.u8.wrap (q (1:Int))]))))=i6 n))/\(true=false->Le 1 1/\List.take (0+1) (List.drop 0 p)=i6 n))/\(true=false->Le 0 0/\List.take 0 (List.drop 0 (List.map P2 []))=i6 n)) ?_
  simp[Z4,P1,Nn,Le,W6,i6]
 ·refine Q5 gN Tryz.func320 (b3c 5) (α:=let v:=(0+1+1+1+1);let u:=(0+1+1+1);let z:=(n:Int).fdiv;let y:=(z (16777216:Int));let q:=(List.take 0 (List.map P2 [])++List.take 1 (List.drop 0 (List.map P2 [IntKind.u8.wrap y])));let p:=(List.take (0+1) q++List.take 1 (List.drop 0 (List.map P2 [IntKind.u8.wrap (z (65536:Int))])));let r:=(List.take (0+1+1) p++List.take 1 (List.drop 0 (List.map P2 [IntKind.u8.wrap (z (256:Int))])));W7 .i64 3/\(true=true->W7 .i64 24/\Nn (24:Int)/\W7 IntKind.u8 (IntKind.u8.wrap y)/\(Le 1 1/\Le 0 0/\W6 0 1 1)/\W7 .i64 2/\(true=true->W7 .i64 16/\Nn (16:Int)/\W7 IntKind.u8 (IntKind.u8.wrap (z (65536:Int)))/\(Le (0+1) 1/\Le (0+1) 1/\W6 (0+1) 1 1)/\W7 .i64 1/\(true=true->W7 .i64 8/\Nn (8:Int)/\W7 IntKind.u8 (IntKind.u8.wrap (z (256:Int)))/\(Le (0+1) 1/\Le (0+1+1) 2/\W6 (0+1+1) 1 1)/\W7 .i64 0/\(true=true->W7 .i64 0/\Nn (0:Int)/\W7 IntKind.u8 (IntKind.u8.wrap (z (1:Int)))/\(Le (0+1) 1/\Le u 3/\W6 u 1 1)/\W7 .i64 (-1:Int)/\(false=true->W7 .i64 (-8:Int)/\Nn (18446744073709551608:Int)/\W7 IntKind.u8 (IntKind.u8.wrap (z (18446744073709551616:Int)))/\(Le (0+1) 1/\Le v 4/\W6 v 1 1)/\W7 .i64 (-2:Int)/\False)/\(false=false->Le 4 4/\List.take v (List.drop 0 (List.take u r++List.take 1 (List.drop 0 (List.map P2 [IntKind.u8.wrap (z (1:Int))]))))=E4 n))/\(true=false->Le 3 3/\List.take u (List.drop 0 r)=E4 n))/\(true=false->Le 2 2/\List.take (0+1+1) (List.drop 0 p)=E4 n))/\(true=false->Le 1 1/\List.take (0+1) (List.drop 0 q)=E4 n))/\(true=false->Le 0 0/\List.take 0 (List.drop 0 (List.map P2 []))=E4 n)) ?_
  simp[Z4,P1,Nn,Le,W6,E4]
theorem wX(l:List UInt8)(i:Nat):IntKind.i64.wrap ((l.getD i 0).toNat:Int)=((l.getD i 0).toNat:Int):=wP _
theorem a0c(l:List UInt8):∀i,o7 l i<256 ^ i
 |0=>by simp[o7]
 |i+1=>by
  have h1:=a0c l i;have h2:=g9 l i;simp only[o7,Nat.pow_succ];omega
theorem b2A(l:List UInt8){i:Nat}(h:i<=4):o7 l i<4294967296:=
 wM (a0c l i) (Nat.pow_le_pow_right (n:=256) (by decide) h)
theorem a2e(l:List UInt8){i:Nat}(h:i<4):o7 l i<16777216:=
 wM (a0c l i) (Nat.pow_le_pow_right (n:=256) (by decide) (show i<=3 by omega))
theorem iO:GK 318 b4U:=gk Tryz.func318<|by
 intro(l:List UInt8) (hl:l.length<=4);refine Q5 gN Tryz.func318 (b4x l) (α:=(∃(x:{i:Nat//i<=l.length}),(l=l/\0=(↑(o7 l x.val):Int)/\0=(x.val:Int)/\True)/\True)/\∀(x:{i:Nat//i<=l.length}),let q:=(x.val:Int);let z:=(q<(l.length:Int));let r:=(↑(l.getD q.toNat (0:UInt8)).toNat:Int);let p:=(↑(o7 l x.val):Int);(decide z=true->W7 .i64 (p*256)/\V3 q l.length/\W7 .i64 (p*256+IntKind.i64.wrap r)/\W7 .i64 (q+1)/\∃(y:{i:Nat//i<=l.length}),((l=l/\p*256+IntKind.i64.wrap r=(↑(o7 l y.val):Int)/\q+1=(y.val:Int)/\True)/\True)/\Lt (l.length-y.val) (l.length-x.val))/\(decide z=false->p=(↑(be l):Int))) ⟨⟨⟨0,S7 _⟩,⟨rfl,rfl,Z9⟩,trivial⟩,λx=>⟨λhc=> ?_,λhc=> ?_⟩⟩
 ·have hlt:=X6 hc;have hb:=g9 l x.val;have hr:=a2e l (show x.val<4 by omega)
  rw[F5,wX];refine⟨Z4 (by omega),X8 hlt,Z4 (by omega),U5 hlt (by omega),⟨x.val+1,hlt⟩,⟨⟨rfl,?_,by simp only;omega,trivial⟩,trivial⟩,V1.ext_lt hlt⟩
  simp only[o7];omega
 ·have hx:x.val=l.length:=by have:=x.2;have:=X4 hc;omega
  rw[hx];rfl
theorem a5G:GK 278 c1l:=gk Tryz.func278<|by
 intro(l:List UInt8) (hl:l.length<=4);refine Q5 gN Tryz.func278 (c05 l) (α:=let p:=(l.length:Int);(∃(x:{i:Nat//i<=l.length}),(0=(↑(o7 l x.val):Int)/\l=l/\p=p/\0=(x.val:Int)/\True)/\True)/\∀(x:{i:Nat//i<=l.length}),let r:=(↑(o7 l x.val):Int);let q:=(x.val:Int);(decide (q<p)=true->V3 q l.length/\Nn (8:Int)/\W7 .i64 (q+1)/\∃(y:{i:Nat//i<=l.length}),((bits BinOp.or IntKind.i64 (IntKind.i64.wrap (r*256)) (IntKind.i64.wrap (↑(l.getD q.toNat (0:UInt8)).toNat:Int))=(↑(o7 l y.val):Int)/\l=l/\p=p/\q+1=(y.val:Int)/\True)/\True)/\Lt (l.length-y.val) (l.length-x.val))/\(decide (q<p)=false->r=(↑(be l):Int))) ⟨⟨⟨0,S7 _⟩,⟨rfl,rfl,rfl,Z9⟩,trivial⟩,λx=>⟨λhc=> ?_,λhc=> ?_⟩⟩
 ·have hlt:=X6 hc;have hb:=g9 l x.val;have hr:=a2e l (show x.val<4 by omega)
  rw[F5,wX,show((o7 l x.val:Nat):Int)*256=((o7 l x.val*256:Nat):Int) by omega,vA (.inl rfl) (by omega),c1A (.inl rfl) (by omega) (by omega)]
  refine⟨X8 hlt,by unfold Nn;omega,U5 hlt (by omega),⟨x.val+1,hlt⟩,⟨⟨?_,rfl,rfl,by simp only;omega,trivial⟩,trivial⟩,V1.ext_lt hlt⟩
  have:=Nat.two_pow_add_eq_or_of_lt (i:=8) (b:=(l.getD x.val 0).toNat) hb (o7 l x.val);rw[show o7 l x.val*256=2 ^ 8*o7 l x.val by omega,←this]
  simp only[o7];omega
 ·have hx:x.val=l.length:=by have:=x.2;have:=X4 hc;omega
  rw[hx];rfl
def S3(b:List UInt8):Bool:=decide (4<=b.length)&&t6 (b.take (b.length-4))==be (b.drop (b.length-4))
def X1(b:List UInt8):List UInt8:=if S3 b then b.take (b.length-4) else[]
def vG:Rl:=⟨List UInt8,λb=>[.bys b],λb=>.tup [.bys (X1 b),.bool (S3 b)],G4⟩
def a36:Con:=.rel vG
def a2E:Rl:=⟨List UInt8,λb=>[.str b],λb=>.tup [.str (X1 b),.bool (S3 b)],G4⟩
def a1A:Con:=.rel a2E
theorem uS:GK 222 a36:=gk Tryz.func222<|by
 intro(b:List UInt8) (hl:b.length<=1000000000);have hd:∀{p:Prop},(decide ((b.length:Int)-4<0)=false->p)↔(4<=b.length->p):=λ{p}=>⟨λh g=>h (uV (by omega)),λh g=>h (by have:=l7 g;omega)⟩
 refine Q5 (gC sD (gC a5G gN)) Tryz.func222 Y5 (α:=let p:=(b.length:Int);let z:=(p-4).toNat;let r:=(decide (p-4<0)=false->lL (p-4) b.length);W7 .i64 (p-4)/\r/\∃(x:(vZ IntKind.u32).ι),(decide (p-4<0)=false->(List.take z b=x/\True)/\G4 x)/\r/\∃(x_1:a7d.ι),let q:=(decide (p-4<0)||IntKind.i64.wrap (↑(t6 x):Int) !=(↑(be x_1):Int));(decide (p-4<0)=false->(List.drop z b=x_1/\True)/\oW x_1)/\(q=true->X1 b=[]/\false=S3 b/\True)/\(q=false->lL (p-4) b.length/\List.take z b=X1 b/\true=S3 b/\True)) ?_
 refine⟨Z4 (by omega),hd.2 λh4=>⟨by omega,by omega⟩,b.take (b.length-4),hd.2 ?_,hd.2 λh4=>⟨by omega,by omega⟩,b.drop (b.length-4),hd.2 ?_,?_⟩
 ·exact λh4=>⟨⟨by rw[show((b.length:Int)-4).toNat=b.length-4 by omega],trivial⟩,by unfold G4;simp;omega⟩
 ·exact λh4=>⟨⟨by rw[show((b.length:Int)-4).toNat=b.length-4 by omega],trivial⟩,by unfold oW;simp;omega⟩
 have e:(decide ((b.length:Int)-4<0)||IntKind.i64.wrap (t6 (b.take (b.length-4)):Int) !=(be (b.drop (b.length-4)):Int))= !S3 b:=by
  rw[vA (.inl rfl) (bB _)];unfold S3;rw[Bool.eq_iff_iff];simp;omega
 rw[e];refine⟨λh=> ?_,λh=> ?_⟩
 ·have h:S3 b=false:=by simpa using h
  exact⟨by simp[X1,h],h.symm,trivial⟩
 ·have h:S3 b=true:=by simpa using h
  have h4:4<=b.length:=by simp[S3] at h;exact h.1
  exact⟨⟨by omega,by omega⟩,by rw[show((b.length:Int)-4).toNat=b.length-4 by omega];simp[X1,h],h.symm,trivial⟩
theorem qZ:GK 262 a1A:=gk Tryz.func262<|by
 intro(b:List UInt8) (hl:b.length<=1000000000);have hd:∀{p:Prop},(decide ((b.length:Int)-4<0)=false->p)↔(4<=b.length->p):=λ{p}=>⟨λh g=>h (uV (by omega)),λh g=>h (by have:=l7 g;omega)⟩
 refine Q5 (gC nY (gC iO gN)) Tryz.func262 Y5 (α:=let p:=(b.length:Int);let z:=(p-4).toNat;let r:=(decide (p-4<0)=false->lL (p-4) b.length);W7 .i64 (p-4)/\r/\(decide (p-4<0)=false->Lt (List.take z b).length 140737488355329)/\∃(x:(vZ IntKind.i64).ι),(decide (p-4<0)=false->(List.take z b=x/\True)/\G4 x)/\r/\∃(x_1:mV.ι),let q:=(decide (p-4<0)||(↑(t6 x):Int) !=(↑(be x_1):Int));(decide (p-4<0)=false->(List.drop z b=x_1/\True)/\oW x_1)/\(q=true->[]=X1 b/\false=S3 b/\True)/\(q=false->lL (p-4) b.length/\List.take z b=X1 b/\true=S3 b/\True)) ?_
 refine⟨Z4 (by omega),hd.2 λh4=>⟨by omega,by omega⟩,hd.2 λh4=>by unfold Lt;simp;omega,b.take (b.length-4),hd.2 ?_,hd.2 λh4=>⟨by omega,by omega⟩,b.drop (b.length-4),hd.2 ?_,?_⟩
 ·exact λh4=>⟨⟨by rw[show((b.length:Int)-4).toNat=b.length-4 by omega],trivial⟩,by unfold G4;simp;omega⟩
 ·exact λh4=>⟨⟨by rw[show((b.length:Int)-4).toNat=b.length-4 by omega],trivial⟩,by unfold oW;simp;omega⟩
 have e:(decide ((b.length:Int)-4<0)||(t6 (b.take (b.length-4)):Int) !=(be (b.drop (b.length-4)):Int))= !S3 b:=by
  unfold S3;rw[Bool.eq_iff_iff];simp;omega
 rw[e];refine⟨λh=> ?_,λh=> ?_⟩
 ·have h:S3 b=false:=by simpa using h
  exact⟨by simp[X1,h],h.symm,trivial⟩
 ·have h:S3 b=true:=by simpa using h
  have h4:4<=b.length:=by simp[S3] at h;exact h.1
  exact⟨⟨by omega,by omega⟩,by rw[show((b.length:Int)-4).toNat=b.length-4 by omega];simp[X1,h],h.symm,trivial⟩
end Go.Proofs.YtghgljelnhfihaaGreat

