/- A part of the proof. -/
import Derived.Test.YtpdnnhnfongoeaaGreatD0
import Derived.Laws.BitsLemmas
namespace Go.Proofs.YtpdnnhnfongoeaaGreat
set_option maxRecDepth 100000
open Go.SS Go.Proofs.Tryz
def b9L{a b:Nat}(h:a<4294967296)(B:b<4294967296):a ^^^ b<4294967296:=Nat.xor_lt_two_pow (n:=32) h B
def b9l{a b:Nat}(h:b<4294967296):a&&&b<4294967296:=Nat.and_lt_two_pow (n:=32) a h
def c20{a b:Nat}(h:a<4294967296)(B:b<4294967296):a|||b<4294967296:=Nat.or_lt_two_pow (n:=32) h B
def uV{k:IntKind}(d:k= .i64∨k= .u32){n:Nat}(h:n<4294967296):(BitVec.ofInt k.bits (n:Int)).toNat=n:=by
 rw[BitVec.ofInt_natCast,BitVec.toNat_ofNat];refine Nat.mod_eq_of_lt ?_
 rcases d with rfl|rfl
 ·exact Nat.lt_trans h M4
 ·exact h
def tA{k:IntKind}(h:k= .i64∨k= .u32){n:Nat}(N:n<4294967296):k.wrap (n:Int)=n:=by
 rcases h with rfl|rfl
 ·rw[IntKind.wrap_i64];omega
 ·rw[IntKind.wrap_u32];omega
def kK{k:IntKind}(h:k= .i64∨k= .u32){a b:Nat}(A:a<4294967296)(B:b<4294967296):bits .xor k (a:Int) (b:Int)=((a ^^^ b:Nat):Int):=by
 show k.wrap ((BitVec.ofInt k.bits (a:Int) ^^^ BitVec.ofInt k.bits (b:Int)).toNat:Int)=_;rw[BitVec.toNat_xor,uV h A,uV h B,tA h (b9L A B)]
def c5P{k:IntKind}(h:k= .i64∨k= .u32){a b:Nat}(A:a<4294967296)(B:b<4294967296):bits .and k (a:Int) (b:Int)=((a&&&b:Nat):Int):=by
 show k.wrap ((BitVec.ofInt k.bits (a:Int)&&&BitVec.ofInt k.bits (b:Int)).toNat:Int)=_;rw[BitVec.toNat_and,uV h A,uV h B,tA h (b9l B)]
def c9p{k:IntKind}(h:k= .i64∨k= .u32){a b:Nat}(A:a<4294967296)(B:b<4294967296):bits .or k (a:Int) (b:Int)=((a|||b:Nat):Int):=by
 show k.wrap ((BitVec.ofInt k.bits (a:Int)|||BitVec.ofInt k.bits (b:Int)).toNat:Int)=_;rw[BitVec.toNat_or,uV h A,uV h B,tA h (c20 A B)]
def a12(r:Nat):Nat:=(r/2) ^^^ (r % 2*3988292384)
def O6(r c:Nat):Nat->Nat
 |0=>r ^^^ c
 |k+1=>a12 (O6 r c k)
def I2(l:Bz):Nat->Nat
 |0=>4294967295
 |i+1=>O6 (I2 l i) (l.getD i 0).toNat 8
def zO(l:Bz):Nat:=I2 l l.length ^^^ 4294967295
def b2s{r:Nat}(h:r<4294967296):a12 r<4294967296:=by
 have:r % 2*3988292384<2 ^ 32:=by have:=Nat.mod_lt r (show 0<2 by decide);omega
 exact Nat.xor_lt_two_pow (n:=32) Z9 this
def tE{r c:Nat}(h:r<4294967296)(C:c<256):∀k,O6 r c k<4294967296
 |0=>Nat.xor_lt_two_pow (n:=32) Z9 Z9
 |k+1=>b2s (tE h C k)
def yL(l:Bz)(i:Nat):(l.getD i 0).toNat<256:=(l.getD i 0).toNat_lt
def vC(l:Bz):∀i,I2 l i<4294967296
 |0=>show 4294967295<4294967296 by decide
 |i+1=>tE (vC l i) (yL l i) 8
def a1W(l:Bz):zO l<4294967296:=Nat.xor_lt_two_pow (n:=32) (vC l _) M4
def v5(l:Bz):Prop:=l.length<=1000000000
def a0W{p:Prop}(h:p:=by unfold v5;omega):p:=h
def tY(k:IntKind):Rl:=⟨Bz,λl=>[.bys l],λl=>.int k (zO l),v5⟩
def a7r:Con:=.rel (tY .i64)
def b1C:Con:=.rel (tY .u32)
def a7m(l:Bz):Nat->Ann
 |0=>.one (Up l.length) (λx=>⟨[(0,.bys l),(3,Ji (I2 l x.1)),(4,Ji x.1)],[]⟩) (λx=>l.length-x.1) [] [] (λx=>fun
  |1=>.one {k:Nat//k<=8} (λy=>⟨[(0,.bys l),(3,Ji (O6 (I2 l x.1) (l.getD x.1 0).toNat y.1)),(4,Ji x.1),(5,Ji y.1)],[]⟩) (λy=>8-y.1) [] [] (λ_=>Z3)
  |_=>.none)
 |_=>.none
def b3V(l:Bz):Nat->Ann
 |0=>.one (Up l.length) (λx=>⟨[(3,.int .u32 (I2 l x.1)),(6,.bys l),(7,Ji l.length),(8,Ji x.1)],[]⟩) (λx=>l.length-x.1) [] [] (λx=>fun
  |1=>.one {k:Nat//k<=8} (λy=>⟨[(3,.int .u32 (O6 (I2 l x.1) (l.getD x.1 0).toNat y.1)),(6,.bys l),(7,Ji l.length),(8,Ji x.1),(16,Ji y.1)],[]⟩) (λy=>8-y.1) [] [] (λ_=>Z3)
  |_=>.none)
 |_=>.none
def a95{k:IntKind}(d:k= .i64∨k= .u32){r:Nat}(h:r<4294967296):bits .and k (r:Int) 1=((r % 2:Nat):Int):=by
 rw[show(1:Int)=((1:Nat):Int) from rfl,c5P d h M4,Nat.and_one_is_mod]
def c4x(r:Nat):(r:Int).fdiv 2=((r/2:Nat):Int):=by
 rw[Int.fdiv_eq_ediv_of_nonneg _ Z9]
 omega
def jO:GK 297 a7r:=gk func297<|by
 intro(l:Bz) (hl:l.length<=1000000000);have k1:IntKind.i64= .i64∨IntKind.i64= .u32:=.inl rfl;refine U5 gN func297 (a7m l) (α:=(∃(x:Up l.length),(l=l/\4294967295=(↑(I2 l x.1):Int)/\0=(x.1:Int)/\True)/\True)/\∀(x:Up l.length),let u:=(I2 l x.1);let r:=(l.getD x.1 (0:UInt8)).toNat;let q:=(x.1:Int);bd (q<(l.length:Int)) (W9 q l.length/\(∃(X:{k:Nat//k<=8}),(l=l/\bits BinOp.xor IntKind.i64 (↑u:Int) (IntKind.i64.wrap (↑(l.getD q.toNat (0:UInt8)).toNat:Int))=(↑(O6 u r X.val):Int)/\q=q/\0=(X.val:Int)/\True)/\True)/\∀(X:{k:Nat//k<=8}),let v:=(X.val:Int);let p:=(↑(O6 u r X.val):Int);let z:=(bits BinOp.and IntKind.i64 p (1:Int)*3988292384);bd (v<8) (Nn (1:Int)/\Ri z/\Ri (v+1)/\∃(y:{k:Nat//k<=8}),((l=l/\bits BinOp.xor IntKind.i64 (p.fdiv (2:Int)) z=(↑(O6 u r y.1):Int)/\q=q/\v+1=(y.1:Int)/\True)/\True)/\Lt (8-y.1) (8-X.val)) (Ri (q+1)/\∃(y:Up l.length),((l=l/\p=(↑(I2 l y.1):Int)/\q+1=(y.1:Int)/\True)/\True)/\Lt (l.length-y.1) (l.length-x.1))) (bits BinOp.xor IntKind.i64 (↑u:Int) 4294967295=(↑(zO l):Int))) ⟨⟨⟨0,N4 _⟩,X7⟩,λx=>⟨λhc=>?_,λhc=>?_⟩⟩
 ·have hlt:=Y2 hc;have hr:=vC l x.1;have hb:=yL l x.1;refine⟨Y6 hlt,⟨⟨0,Z9⟩,⟨rfl,?_,X7⟩,Z6⟩,λy=>⟨λhd=>?_,λhd=>?_⟩⟩
  ·rw[E3,tA k1 Z9,kK k1 hr Z9]
   rfl
  ·have hy:y.1<8:=by have:=G7 hd;omega
   have q:=tE hr hb y.1;have h:O6 (I2 l x.1) (l.getD x.1 0).toNat y.1 % 2*3988292384<4294967296:=by have:=Nat.mod_lt (O6 (I2 l x.1) (l.getD x.1 0).toNat y.1) (show 0<2 by decide);omega
   rw[a95 k1 q,c4x,show((O6 (I2 l x.1) (l.getD x.1 0).toNat y.1 % 2:Nat):Int)*3988292384=((O6 (I2 l x.1) (l.getD x.1 0).toNat y.1 % 2*3988292384:Nat):Int) by omega,kK k1 Z9 h]
   refine⟨m3,Z4 Z9,Z4 Z9,⟨y.1+1,hy⟩,⟨⟨rfl,rfl,rfl,M0,Z6⟩,Z6⟩,nC⟩
  ·have hy:y.1=8:=by have:=y.2;have:=r9 hd;omega
   refine⟨W2 hlt Z9,⟨x.1+1,hlt⟩,⟨⟨rfl,?_,M0,Z6⟩,Z6⟩,V5.ext_lt hlt⟩
   rw[hy];rfl
 ·have hx:x.1=l.length:=by have:=x.2;have:=Y0 hc;omega
  rw[hx,show(4294967295:Int)=((4294967295:Nat):Int) from rfl,kK k1 (vC l _) M4]
  rfl
def oS:GK 318 b1C:=gk func318<|by
 intro(l:Bz) (hl:l.length<=1000000000);have k1:IntKind.u32= .i64∨IntKind.u32= .u32:=.inr rfl;refine U5 gN func318 (b3V l) (α:=let q:=(l.length:Int);(∃(x:Up l.length),(4294967295=(↑(I2 l x.1):Int)/\l=l/\q=q/\0=(x.1:Int)/\True)/\True)/\∀(x:Up l.length),let u:=(I2 l x.1);let z:=(l.getD x.1 (0:UInt8)).toNat;let r:=(x.1:Int);bd (r<q) (W9 r l.length/\(∃(X:{k:Nat//k<=8}),(bits BinOp.xor IntKind.u32 (↑u:Int) (IntKind.u32.wrap (↑(l.getD r.toNat (0:UInt8)).toNat:Int))=(↑(O6 u z X.val):Int)/\l=l/\q=q/\r=r/\0=(X.val:Int)/\True)/\True)/\∀(X:{k:Nat//k<=8}),let v:=(X.val:Int);let p:=(↑(O6 u z X.val):Int);bd (v<8) (br (bits BinOp.and IntKind.u32 p (1:Int)==1) (Nn (1:Int)/\Ri (v+1)/\∃(y:{k:Nat//k<=8}),((bits BinOp.xor IntKind.u32 (p.fdiv (2:Int)) 3988292384=(↑(O6 u z y.1):Int)/\l=l/\q=q/\r=r/\v+1=(y.1:Int)/\True)/\True)/\Lt (8-y.1) (8-X.val)) (Nn (1:Int)/\Ri (v+1)/\∃(y:{k:Nat//k<=8}),((p.fdiv 2=(↑(O6 u z y.1):Int)/\l=l/\q=q/\r=r/\v+1=(y.1:Int)/\True)/\True)/\Lt (8-y.1) (8-X.val))) (Ri (r+1)/\∃(y:Up l.length),((p=(↑(I2 l y.1):Int)/\l=l/\q=q/\r+1=(y.1:Int)/\True)/\True)/\Lt (l.length-y.1) (l.length-x.1))) (bits BinOp.xor IntKind.u32 (↑u:Int) 4294967295=(↑(zO l):Int))) ⟨⟨⟨0,N4 _⟩,X7⟩,λx=>⟨λhc=>?_,λhc=>?_⟩⟩
 ·have hlt:=Y2 hc;have hr:=vC l x.1;have hb:=yL l x.1;refine⟨Y6 hlt,⟨⟨0,Z9⟩,⟨?_,X7⟩,Z6⟩,λy=>⟨λhd=>?_,λhd=>?_⟩⟩
  ·rw[E3,tA k1 Z9,kK k1 hr Z9]
   rfl
  ·have hy:y.1<8:=by have:=G7 hd;omega
   have h:=tE hr hb y.1;rw[a95 k1 h,c4x];refine⟨λho=>⟨m3,Z4 Z9,⟨y.1+1,hy⟩,⟨⟨?_,rfl,rfl,rfl,M0,Z6⟩,Z6⟩,nC⟩,
    λho=>⟨m3,Z4 Z9,⟨y.1+1,hy⟩,⟨⟨?_,rfl,rfl,rfl,M0,Z6⟩,Z6⟩,nC⟩⟩
   ·have ho:O6 (I2 l x.1) (l.getD x.1 0).toNat y.1 % 2=1:=by rw[beq_iff_eq] at ho;omega
    rw[show(3988292384:Int)=((3988292384:Nat):Int) from rfl,kK k1 Z9 M4]
    simp only[O6,a12,ho,Nat.one_mul]
   ·have ho:O6 (I2 l x.1) (l.getD x.1 0).toNat y.1 % 2=0:=by
     have:¬ ((O6 (I2 l x.1) (l.getD x.1 0).toNat y.1 % 2:Nat):Int)=1:=by simpa using ho
     omega
    simp only[O6,a12,ho,Nat.zero_mul,Nat.xor_zero]
  ·have hy:y.1=8:=by have:=y.2;have:=r9 hd;omega
   refine⟨W2 hlt Z9,⟨x.1+1,hlt⟩,⟨⟨?_,rfl,rfl,M0,Z6⟩,Z6⟩,V5.ext_lt hlt⟩
   rw[hy];rfl
 ·have hx:x.1=l.length:=by have:=x.2;have:=Y0 hc;omega
  rw[hx,show(4294967295:Int)=((4294967295:Nat):Int) from rfl,kK k1 (vC l _) M4]
  rfl
def j5(l:Bz):Nat->Nat
 |0=>0
 |i+1=>j5 l i*256+(l.getD i 0).toNat
def be(l:Bz):Nat:=j5 l l.length
def mL(l:Bz):Prop:=l.length<=4
def a5L:Rl:=⟨Bz,λl=>[.bys l],λl=>Ji (be l),mL⟩
def c9e:Con:=.rel a5L
def iI:Rl:=⟨Bz,λl=>[.str l],λl=>Ji (be l),mL⟩
def c1I:Con:=.rel iI
def c08(l:Bz):Nat->Ann
 |0=>.one (Up l.length) (λx=>⟨[(0,.str l),(3,Ji (j5 l x.1)),(4,Ji x.1)],[]⟩) (λx=>l.length-x.1) [] [] (λ_=>Z3)
 |_=>.none
def c81(l:Bz):Nat->Ann
 |0=>.one (Up l.length) (λx=>⟨[(3,Ji (j5 l x.1)),(6,.bys l),(7,Ji l.length),(8,Ji x.1)],[]⟩) (λx=>l.length-x.1) [] [] (λ_=>Z3)
 |_=>.none
def b9c(n:Nat):Nat->Ann
 |0=>.unr n (λ_=>Z3)
 |_=>.none
def z8(n:Nat):Bz:=[R1 (IntKind.u8.wrap ((n:Int).fdiv 16777216)),R1 (IntKind.u8.wrap ((n:Int).fdiv 65536)),R1 (IntKind.u8.wrap ((n:Int).fdiv 256)),R1 (IntKind.u8.wrap ((n:Int).fdiv 1))]
def yX(n:Nat):Bz:=[R1 (IntKind.u8.wrap ((n:Int).fdiv 256)),R1 (IntKind.u8.wrap ((n:Int).fdiv 1))]
def O7(x:Int):R2 .u8 (IntKind.u8.wrap x):=by
 rw[IntKind.wrap_u8];unfold R2 IntKind.min IntKind.max IntKind.signed IntKind.bits;have:=Int.emod_nonneg x (show(256:Int)≠0 by decide)
 have:=Int.emod_lt_of_pos x (show(0:Int)<256 by decide)
 simp;omega
def pI(n:Int):R2 .u8 n↔(0<=n/\n<=255):=by
 unfold R2 IntKind.min IntKind.max IntKind.signed IntKind.bits;simp
def nL:Rl:=⟨Nat×Bool,λx=>[Ji x.1,Ji (match x.2 with|true=>4|false=>2)],λx=>.bys (match x.2 with|true=>z8 x.1|false=>yX x.1),λ_=>True⟩
def a5E:Con:=.rel nL
def tP:GK 299 a5E:=gk func299<|by
 rintro⟨n,b⟩ _;cases b
 ·refine U5 gN func299 (b9c 3) (α:=let q:=(n:Int).fdiv;let p:=(List.take 0 (List.map R1 [])++List.take 1 (List.drop 0 (List.map R1 [IntKind.u8.wrap (q (256:Int))])));R2 .i64 1/\(true=true->R2 .i64 8/\Nn (8:Int)/\R2 IntKind.u8 (IntKind.u8.wrap (q (256:Int)))/\(Le 1 1/\Le 0 0/\U8 0 1 1)/\R2 .i64 0/\(true=true->R2 .i64 0/\Nn (0:Int)/\R2 IntKind.u8 (IntKind.u8.wrap (q (1:Int)))/\(Le (0+1) 1/\Le (0+1) 1/\U8 (0+1) 1 1)/\R2 .i64 (-1:Int)/\(false=true->R2 .i64 (-8:Int)/\Nn (18446744073709551608:Int)/\R2 IntKind.u8 (IntKind.u8.wrap (q (18446744073709551616:Int)))/\(Le (0+1) 1/\Le (0+1+1) 2/\U8 (0+1+1) 1 1)/\R2 .i64 (-2:Int)/\False)/\(false=false->Le 2 2/\List.take (0+1+1) (List.drop 0 (List.take (0+1) p++List.take 1 (List.drop 0 (List.map R1 [IntKind.u8.wrap (q (1:Int))]))))=yX n))/\(true=false->Le 1 1/\List.take (0+1) (List.drop 0 p)=yX n))/\(true=false->Le 0 0/\List.take 0 (List.drop 0 (List.map R1 []))=yX n)) ?_
  simp[Z4,O7,Nn,Le,U8,yX]
 ·refine U5 gN func299 (b9c 5) (α:=let v:=(0+1+1+1+1);let u:=(0+1+1+1);let z:=(n:Int).fdiv;let y:=(z (16777216:Int));let q:=(List.take 0 (List.map R1 [])++List.take 1 (List.drop 0 (List.map R1 [IntKind.u8.wrap y])));let p:=(List.take (0+1) q++List.take 1 (List.drop 0 (List.map R1 [IntKind.u8.wrap (z (65536:Int))])));let r:=(List.take (0+1+1) p++List.take 1 (List.drop 0 (List.map R1 [IntKind.u8.wrap (z (256:Int))])));R2 .i64 3/\(true=true->R2 .i64 24/\Nn (24:Int)/\R2 IntKind.u8 (IntKind.u8.wrap y)/\(Le 1 1/\Le 0 0/\U8 0 1 1)/\R2 .i64 2/\(true=true->R2 .i64 16/\Nn (16:Int)/\R2 IntKind.u8 (IntKind.u8.wrap (z (65536:Int)))/\(Le (0+1) 1/\Le (0+1) 1/\U8 (0+1) 1 1)/\R2 .i64 1/\(true=true->R2 .i64 8/\Nn (8:Int)/\R2 IntKind.u8 (IntKind.u8.wrap (z (256:Int)))/\(Le (0+1) 1/\Le (0+1+1) 2/\U8 (0+1+1) 1 1)/\R2 .i64 0/\(true=true->R2 .i64 0/\Nn (0:Int)/\R2 IntKind.u8 (IntKind.u8.wrap (z (1:Int)))/\(Le (0+1) 1/\Le u 3/\U8 u 1 1)/\R2 .i64 (-1:Int)/\(false=true->R2 .i64 (-8:Int)/\Nn (18446744073709551608:Int)/\R2 IntKind.u8 (IntKind.u8.wrap (z (18446744073709551616:Int)))/\(Le (0+1) 1/\Le v 4/\U8 v 1 1)/\R2 .i64 (-2:Int)/\False)/\(false=false->Le 4 4/\List.take v (List.drop 0 (List.take u r++List.take 1 (List.drop 0 (List.map R1 [IntKind.u8.wrap (z (1:Int))]))))=z8 n))/\(true=false->Le 3 3/\List.take u (List.drop 0 r)=z8 n))/\(true=false->Le 2 2/\List.take (0+1+1) (List.drop 0 p)=z8 n))/\(true=false->Le 1 1/\List.take (0+1) (List.drop 0 q)=z8 n))/\(true=false->Le 0 0/\List.take 0 (List.drop 0 (List.map R1 []))=z8 n)) ?_
  simp[Z4,O7,Nn,Le,U8,z8]
def uW(l:Bz)(i:Nat):IntKind.i64.wrap ((l.getD i 0).toNat:Int)=((l.getD i 0).toNat:Int):=uN _
def a2n(l:Bz):∀i,j5 l i<256 ^ i
 |0=>by simp[j5]
 |i+1=>by
  have h:=a2n l i;have d:=yL l i;simp only[j5,Nat.pow_succ];omega
def a4K(l:Bz){i:Nat}(h:i<=4):j5 l i<4294967296:=
 xY (a2n l i) (Nat.pow_le_pow_right (n:=256) M4 h)
def a4z(l:Bz){i:Nat}(h:i<4):j5 l i<16777216:=
 xY (a2n l i) (Nat.pow_le_pow_right (n:=256) M4 (show i<=3 by omega))
def cC:GK 265 c1I:=gk func265<|by
 intro(l:Bz) (hl:l.length<=4);refine U5 gN func265 (c08 l) (α:=(∃(x:Up l.length),(l=l/\0=(↑(j5 l x.1):Int)/\0=(x.1:Int)/\True)/\True)/\∀(x:Up l.length),let r:=(x.1:Int);let q:=(↑(l.getD r.toNat (0:UInt8)).toNat:Int);let p:=(↑(j5 l x.1):Int);bd (r<(l.length:Int)) (Ri (p*256)/\W9 r l.length/\Ri (p*256+IntKind.i64.wrap q)/\Ri (r+1)/\∃(y:Up l.length),((l=l/\p*256+IntKind.i64.wrap q=(↑(j5 l y.1):Int)/\r+1=(y.1:Int)/\True)/\True)/\Lt (l.length-y.1) (l.length-x.1)) (p=(↑(be l):Int))) ⟨⟨⟨0,N4 _⟩,X7⟩,λx=>⟨λhc=>?_,λhc=>?_⟩⟩
 ·have hlt:=Y2 hc;have hb:=yL l x.1;have hr:=a4z l (show x.1<4 by omega)
  rw[E3,uW];refine⟨Z4 Z9,Y6 hlt,Z4 Z9,W2 hlt Z9,⟨x.1+1,hlt⟩,⟨⟨rfl,?_,M0,Z6⟩,Z6⟩,V5.ext_lt hlt⟩
  simp only[j5];omega
 ·have hx:x.1=l.length:=by have:=x.2;have:=Y0 hc;omega
  rw[hx];rfl
def a2J:GK 319 c9e:=gk func319<|by
 intro(l:Bz) (hl:l.length<=4);refine U5 gN func319 (c81 l) (α:=let p:=(l.length:Int);(∃(x:Up l.length),(0=(↑(j5 l x.1):Int)/\l=l/\p=p/\0=(x.1:Int)/\True)/\True)/\∀(x:Up l.length),let r:=(↑(j5 l x.1):Int);let q:=(x.1:Int);bd (q<p) (W9 q l.length/\Nn (8:Int)/\Ri (q+1)/\∃(y:Up l.length),((bits BinOp.or IntKind.i64 (IntKind.i64.wrap (r*256)) (IntKind.i64.wrap (↑(l.getD q.toNat (0:UInt8)).toNat:Int))=(↑(j5 l y.1):Int)/\l=l/\p=p/\q+1=(y.1:Int)/\True)/\True)/\Lt (l.length-y.1) (l.length-x.1)) (r=(↑(be l):Int))) ⟨⟨⟨0,N4 _⟩,X7⟩,λx=>⟨λhc=>?_,λhc=>?_⟩⟩
 ·have hlt:=Y2 hc;have hb:=yL l x.1;have hr:=a4z l (show x.1<4 by omega)
  rw[E3,uW,show((j5 l x.1:Nat):Int)*256=((j5 l x.1*256:Nat):Int) by omega,tA (.inl rfl) Z9,c9p (.inl rfl) Z9 Z9]
  refine⟨Y6 hlt,m3,W2 hlt Z9,⟨x.1+1,hlt⟩,⟨⟨?_,rfl,rfl,M0,Z6⟩,Z6⟩,V5.ext_lt hlt⟩
  have:=Nat.two_pow_add_eq_or_of_lt (i:=8) (b:=(l.getD x.1 0).toNat) hb (j5 l x.1);rw[show j5 l x.1*256=2 ^ 8*j5 l x.1 by omega,←this]
  simp only[j5];omega
 ·have hx:x.1=l.length:=by have:=x.2;have:=Y0 hc;omega
  rw[hx];rfl
def S0(b:Bz):Bool:=decide (4<=b.length)&&zO (b.take (b.length-4))==be (b.drop (b.length-4))
def X1(b:Bz):Bz:=if S0 b then b.take (b.length-4) else[]
def tG:Rl:=⟨Bz,λb=>[.bys b],λb=>.tup [.bys (X1 b),.bool (S0 b)],v5⟩
def a65:Con:=.rel tG
def a48:Rl:=⟨Bz,λb=>[.str b],λb=>.tup [.str (X1 b),.bool (S0 b)],v5⟩
def a30:Con:=.rel a48
def sK:GK 236 a65:=gk func236<|by
 intro(b:Bz) (hl:b.length<=1000000000);have hd:∀{p:Prop},(decide ((b.length:Int)-4<0)=false->p)↔(4<=b.length->p):=λ{p}=>⟨λh g=>h (tQ Z9),λh g=>h a44⟩
 refine U5 (gC oS (gC a2J gN)) func236 Z3 (α:=let p:=(b.length:Int);let z:=(p-4).toNat;let r:=(decide (p-4<0)=false->jX (p-4) b.length);R2 .i64 (p-4)/\r/\∃(x:(tY IntKind.u32).ι),(decide (p-4<0)=false->(List.take z b=x/\True)/\v5 x)/\r/\∃(X:a5L.ι),let q:=(decide (p-4<0)||IntKind.i64.wrap (↑(zO x):Int) !=(↑(be X):Int));(decide (p-4<0)=false->(List.drop z b=X/\True)/\mL X)/\(q=true->X1 b=[]/\false=S0 b/\True)/\(q=false->jX (p-4) b.length/\List.take z b=X1 b/\true=S0 b/\True)) ?_
 refine⟨Z4 Z9,hd.2 λd=>⟨Z9,Z9⟩,b.take (b.length-4),hd.2 ?_,hd.2 λd=>⟨Z9,Z9⟩,b.drop (b.length-4),hd.2 ?_,?_⟩
 ·exact λd=>⟨⟨a9F,Z6⟩,by unfold v5;simp;omega⟩
 ·exact λd=>⟨⟨a9F,Z6⟩,by unfold mL;simp;omega⟩
 have e:(decide ((b.length:Int)-4<0)||IntKind.i64.wrap (zO (b.take (b.length-4)):Int) !=(be (b.drop (b.length-4)):Int))= !S0 b:=by
  rw[tA (.inl rfl) (a1W _)];unfold S0;rw[Bool.eq_iff_iff];simp;omega
 rw[e];refine⟨λh=>?_,λh=>?_⟩
 ·have h:S0 b=false:=by simpa using h
  exact⟨by simp[X1,h],h.symm,Z6⟩
 ·have h:S0 b=true:=by simpa using h
  have d:4<=b.length:=by simp[S0] at h;exact h.1
  exact⟨⟨Z9,Z9⟩,by rw[show((b.length:Int)-4).toNat=b.length-4 by omega];simp[X1,h],h.symm,Z6⟩
def mX:GK 217 a30:=gk func217<|by
 intro(b:Bz) (hl:b.length<=1000000000);have hd:∀{p:Prop},(decide ((b.length:Int)-4<0)=false->p)↔(4<=b.length->p):=λ{p}=>⟨λh g=>h (tQ Z9),λh g=>h a44⟩
 refine U5 (gC jO (gC cC gN)) func217 Z3 (α:=let p:=(b.length:Int);let z:=(p-4).toNat;let r:=(decide (p-4<0)=false->jX (p-4) b.length);R2 .i64 (p-4)/\r/\(decide (p-4<0)=false->Lt (List.take z b).length 140737488355329)/\∃(x:(tY IntKind.i64).ι),(decide (p-4<0)=false->(List.take z b=x/\True)/\v5 x)/\r/\∃(X:iI.ι),let q:=(decide (p-4<0)||(↑(zO x):Int) !=(↑(be X):Int));(decide (p-4<0)=false->(List.drop z b=X/\True)/\mL X)/\(q=true->[]=X1 b/\false=S0 b/\True)/\(q=false->jX (p-4) b.length/\List.take z b=X1 b/\true=S0 b/\True)) ?_
 refine⟨Z4 Z9,hd.2 λd=>⟨Z9,Z9⟩,hd.2 λd=>by unfold Lt;simp;omega,b.take (b.length-4),hd.2 ?_,hd.2 λd=>⟨Z9,Z9⟩,b.drop (b.length-4),hd.2 ?_,?_⟩
 ·exact λd=>⟨⟨a9F,Z6⟩,by unfold v5;simp;omega⟩
 ·exact λd=>⟨⟨a9F,Z6⟩,by unfold mL;simp;omega⟩
 have e:(decide ((b.length:Int)-4<0)||(zO (b.take (b.length-4)):Int) !=(be (b.drop (b.length-4)):Int))= !S0 b:=by
  unfold S0;rw[Bool.eq_iff_iff];simp;omega
 rw[e];refine⟨λh=>?_,λh=>?_⟩
 ·have h:S0 b=false:=by simpa using h
  exact⟨by simp[X1,h],h.symm,Z6⟩
 ·have h:S0 b=true:=by simpa using h
  have d:4<=b.length:=by simp[S0] at h;exact h.1
  exact⟨⟨Z9,Z9⟩,by rw[show((b.length:Int)-4).toNat=b.length-4 by omega];simp[X1,h],h.symm,Z6⟩
def Z5(L:List (Bz))(i:Nat):List T:=[.str (L.getD i [])]
def u2(L:List (Bz)):T:=.sl 1 L.length (Z5 L)
def A1(L:List (Bz)):Option Ob:=some (.arr true 0 1 L.length (Z5 L))
structure Fst where
 l:Bz
 fl:Bool
 out:List (Bz)
def Fst.step(s:Fst):Fst:=⟨Q8 (s.l.drop 1) (numR s.l),(s.fl||s.l.isEmpty)||big (s.l.drop 1) (numR s.l),s.out++[T4 (s.l.drop 1) (numR s.l)]⟩
def Fst.go(s:Fst):Nat->Fst
 |0=>s
 |n+1=>Fst.step (Fst.go s n)
def fs0(l:Bz)(fl:Bool):Fst:=⟨l.drop 1,fl||l.isEmpty,[]⟩
def F2(l:Bz)(fl:Bool)(i:Nat):Fst:=Fst.go (fs0 l fl) i
def U1(l:Bz)(fl:Bool):Fst:=F2 l fl (numR l).toNat
def uG(l:Bz)(fl:Bool):∀i,(F2 l fl i).out.length=i
 |0=>rfl
 |i+1=>by
  have:=uG l fl i;simp only[F2] at this ⊢;simp[Fst.go,Fst.step,this]
def a3T:List T->X9->Option (T×X9×Option Prop)
 | [.ref 0 0 0],[some (.arr true _ 2 1 row)]=>match row 0 with
  | [.bys l,.bool fl]=>some (u2 (U1 l fl).out,[rdr (U1 l fl).l (U1 l fl).fl],none)
  |_=>none
 |_,_=>none
def b93:Con:=.eff a3T
def a5l(l:Bz)(fl:Bool):Nat->Ann
 |0=>.one (Up ((numR l).toNat)) (λx=>⟨[(0,.ref 0 0 0),(3,.osl 1 0 (F2 l fl x.1).out.length),(6,Ji (numR l)),(7,Ji x.1)],[rdr (F2 l fl x.1).l (F2 l fl x.1).fl,A1 (F2 l fl x.1).out]⟩) (λx=>(numR l).toNat-x.1) b5o [.box 0,.arr 3] (λ_=>Z3)
 |_=>.none
def xK(t:Bz):Nat->Option (Nat×List (Bz))
 |0=>some (1,[])
 |i+1=>match xK t i with
  |some (p,out)=>if p<t.length/\p+1+(t.getD p 0).toNat<=t.length then some (p+1+(t.getD p 0).toNat,out++[List.drop (p+1) (List.take (p+1+(t.getD p 0).toNat) t)]) else none
  |none=>none
def C2(t:Bz):Nat:=(t.getD 0 0).toNat
def Q3(t:Bz):Option (List (Bz)):=if t.length=0∨C2 t>100 then none else match xK t (C2 t) with
 |some (p,out)=>if p=t.length then some out else none
 |none=>none
def aB:Rl:=⟨Bz,λt=>[.str t],λt=>.tup [u2 ((Q3 t).getD []),.bool (Q3 t).isSome],v5⟩
def b3H:Con:=.rel aB
def c1k(t:Bz):Type:={x:Nat×Nat×List (Bz)//x.1<=C2 t/\xK t x.1=some x.2}
def b2b(t:Bz):Nat->Ann
 |0=>.one (c1k t) (λx=>⟨[(0,.str t),(4,.osl 0 0 x.1.2.2.length),(5,Ji x.1.2.1),(6,Ji (C2 t-x.1.1:Int))],[A1 x.1.2.2]⟩) (λx=>C2 t-x.1.1) [.arr 0] [.arr 2] (λ_=>Z3)
 |_=>.none
def nE(row row':Nat->List T):Z7 0 row row':=λi hi=>absurd hi (D2 i)
def X6(n:Nat)(row:Nat->List T):Z7 n row row:=λi _=>rfl
def a2G(L:List (Bz))(s:Bz):Z7 (L.length+1) (X4 (Z5 L) L.length λk=>List.take 1 (List.drop (k*1) [T.str s])) (Z5 (L++[s])):=by
 intro i hi;by_cases h:i<L.length
 ·rw[M8 h];simp[Z5,rL h]
 ·obtain rfl:i=L.length:=by omega
  rw[N3 (U9 _),j_h];simp[Z5]
def aT:GK 322 b93:=gk func322<|by
 intro args H res H' p h hp;unfold a3T at h;split at h
 ·rename_i ty row;split at h
  ·rename_i l fl hrow;simp only[X0,U4] at h;obtain⟨rfl,rfl,rfl⟩:=h;refine qZ (iP hrow) ?_
   have N:=r6 l;refine vcE (gC eI (gC qI gN)) func322 (a5l l fl) (bs:=[true]) (α:=(∃(x:Up ((numR l).toNat)),let q:=(F2 l fl x.1);((0=0/\0=0)/\(0=0/\0=q.out.length)/\numR l=numR l/\0=(x.1:Int)/\True)/\(1=1/\1=1/\List.drop 1 l=q.l/\(fl||l.isEmpty)=q.fl/\True)/\(0=q.out.length/\Z7 0 (λ(k:Nat)=>List.take 1 (List.drop (k*1) [])) (Z5 q.out))/\True)/\∀(x:Up ((numR l).toNat)),let w:=(x.1:Int);let p:=(F2 l fl x.1);let v:=(numR p.l);let u:=(List.drop 1 p.l);let z:=p.out.length;bd (w<numR l) (r8 v/\(Le 1 1/\Le p.out.length z/\U8 p.out.length 1 16)/\Ri (w+1)/\∃(y:Up ((numR l).toNat)),let r:=(F2 l fl y.1);(((0=0/\0=0)/\(0=0/\z+1=r.out.length)/\numR l=numR l/\w+1=(y.1:Int)/\True)/\(1=1/\1=1/\Q8 u v=r.l/\(p.fl||p.l.isEmpty||big u v)=r.fl/\True)/\(z+1=r.out.length/\Z7 (z+1) (X4 (Z5 p.out) p.out.length λ(k:Nat)=>List.take 1 (List.drop (k*1) [T.str (T4 u v)])) (Z5 r.out))/\True)/\Lt ((numR l).toNat-y.1) ((numR l).toNat-x.1)) (Le (0+z) z/\(Z0 Z5 p.out (U1 l fl).out)/\(1=1/\1=1/\p.l=(U1 l fl).l/\p.fl=(U1 l fl).fl/\True)/\True)) ⟨⟨⟨0,N4 _⟩,X7,X7,⟨rfl,nE _ _⟩,Z6⟩,λx=>⟨λhc=>?_,λhc=>?_⟩⟩
   ·have t:(x.1:Int)<numR l:=G7 hc;have n:=uG l fl x.1;have M:=r6 (F2 l fl x.1).l;refine⟨⟨M.1,Z9⟩,⟨U9 _,U9 _,Z9,Z9⟩,Z4 Z9,⟨x.1+1,Z9⟩,⟨⟨X7,⟨rfl,(congrArg (· +1) n).trans (uG l fl (x.1+1)).symm⟩,rfl,M0,Z6⟩,X7,⟨(congrArg (· +1) n).trans (uG l fl (x.1+1)).symm,a2G _ _⟩,Z6⟩,nC⟩
   ·have hge:¬ (x.1:Int)<numR l:=r9 hc;have hx:=x.2;have he:x.1=(numR l).toNat:=by omega
    rw[he];exact⟨K0,X7⟩
  ·cases h
 ·cases h
def fO{t:Bz}:∀{i:Nat} {x:Nat×List (Bz)},xK t i=some x->x.2.length=i
 |0,x,h=>by simp only[xK,X0] at h;subst h;rfl
 |i+1,x,h=>by
  simp only[xK] at h;split at h
  ·rename_i p out ho;split at h
   ·simp only[X0] at h;subst h;simp[fO ho]
   ·cases h
  ·cases h
def a9N{t:Bz}{i p:Nat}{out:List (Bz)}(h:xK t i=some (p,out)):xK t (i+1)=if p<t.length/\p+1+(t.getD p 0).toNat<=t.length then some (p+1+(t.getD p 0).toNat,out++[List.drop (p+1) (List.take (p+1+(t.getD p 0).toNat) t)]) else none:=by
 simp only[xK,h]
def a1A{t:Bz}{i:Nat}(h:xK t i=none):∀j,xK t (i+j)=none
 |0=>h
 |j+1=>by
  have:=a1A h j;rw[show i+(j+1)=(i+j)+1 by omega]
  simp only[xK,this]
def fJ:GK 298 b3H:=gk func298<|by
 intro(t:Bz) (hl:t.length<=1000000000);have B:=yL t;have N:((t.getD 0 0).toNat:Int)=(C2 t:Int):=rfl;have d:(t==[])=false->0<t.length:=λh=>List.length_pos_iff.2 x5
 refine U5 gN func298 (b2b t) (α:=let g:=((Q3 t).getD []);let n:=(↑(t.getD 0 (0:UInt8)).toNat:Int);let j:=(λ(k:Nat)=>List.take 1 (List.drop (k*1) []));let w:=(↑(C2 t):Int);let v:=(t.length:Int);let q:=(Le 0 0/\(0=g.length/\Z7 0 j (Z5 g))/\false=(Q3 t).isSome/\True);((t==[])=false->W9 (0:Int) t.length)/\br (t==[]||decide (n>100)) q (W9 (0:Int) t.length/\(∃(x:c1k t),(t=t/\(0=0/\0=x.1.2.2.length)/\1=(x.1.2.1:Int)/\IntKind.i64.wrap n=w- (x.1.1:Int)/\True)/\(0=x.1.2.2.length/\Z7 0 j (Z5 x.1.2.2))/\True)/\∀(x:c1k t),let f:=x.1;let z:=f.2.2.length;let r:=(f.2.1:Int);let p:=(↑(t.getD r.toNat (0:UInt8)).toNat:Int);let m:=(1+IntKind.i64.wrap p);let u:=(r+1+IntKind.i64.wrap p);bd (w- (f.1:Int)>0) ((decide (r≥v)=false->Ri (r+1))/\(decide (r≥v)=false->W9 r t.length)/\(decide (r≥v)=false->Ri u)/\br (decide (r≥v)||decide (r+1+IntKind.i64.wrap p>v)) q (W9 r t.length/\Ri (r+1)/\Ri (r+1)/\Ri u/\b1Q (r+1) u t.length/\(Le 1 1/\Le f.2.2.length z/\U8 f.2.2.length 1 16)/\Ri m/\Ri (r+m)/\Ri (w- (f.1:Int)-1)/\∃(y:c1k t),((t=t/\(0=0/\z+1=y.1.2.2.length)/\r+m=(y.1.2.1:Int)/\w- (f.1:Int)-1=w- (y.1.1:Int)/\True)/\(z+1=y.1.2.2.length/\Z7 (z+1) (X4 (Z5 f.2.2) f.2.2.length λ(k:Nat)=>List.take 1 (List.drop (k*1) [T.str (List.drop (r+1).toNat (List.take u.toNat t))])) (Z5 y.1.2.2))/\True)/\Lt (C2 t-y.1.1) (C2 t-f.1))) (br (r !=v) q (Le (0+z) z/\(Z0 Z5 f.2.2 g)/\true=(Q3 t).isSome/\True)))) ⟨λh=>⟨Z9,by have:=d h;omega⟩,λh=>?_,λh=>?_⟩
 ·have n:Q3 t=none:=by
   unfold Q3;rw[if_pos];simp only[nT,beq_iff_eq,o8] at h;rcases h with h|h
   ·exact .inl dH
   ·exact .inr Z9
  rw[n];exact⟨U9 _,⟨rfl,nE _ _⟩,X7⟩
 simp only[wS,uH] at h;have e:0<t.length:=d h.1;have l:Q3 t=match xK t (C2 t) with
  |some (p,out)=>if p=t.length then some out else none
  |none=>none:=by
  unfold Q3;rw[if_neg Z9]
 refine⟨⟨Z9,Z9⟩,⟨⟨(0,1,[]),X7⟩,⟨rfl,X7,rfl,by rw[uW,N];simp,Z6⟩,⟨rfl,nE _ _⟩,Z6⟩,λx=>?_⟩
 obtain⟨⟨i,p,out⟩,hi,X⟩:=x;simp only at hi X ⊢;have f:out.length=i:=fO X;rw[E3,uW];have j:=B p;refine⟨λhc=>?_,λhc=>?_⟩
 ·have hlt:i<C2 t:=by have:=G7 hc;omega
  have hst:=a9N X;refine⟨λg=>Z4 a44,λg=>⟨Z9,a44⟩,λg=>Z4 a44,λg=>?_,λg=>?_⟩
  ·have n:Q3 t=none:=by
    rw[if_neg (by simp only[nT,o8] at g;omega)] at hst
    rw[l];have:=a1A hst (C2 t- (i+1));rw[show i+1+(C2 t- (i+1))=C2 t by omega] at this
    rw[this]
   rw[n];exact⟨U9 _,⟨rfl,nE _ _⟩,X7⟩
  ·simp only[wS,uH] at g;rw[if_pos Z9] at hst
   refine⟨⟨Z9,Z9⟩,Z4 Z9,Z4 Z9,Z4 Z9,⟨Z9,Z9,Z9⟩,⟨U9 _,U9 _,Z9,Z9⟩,Z4 Z9,Z4 Z9,Z4 Z9,
    ⟨(i+1,_,_),hlt,hst⟩,⟨⟨S7,⟨S7,W7⟩,M0,M0,Z6⟩,⟨W7,?_⟩,Z6⟩,nC⟩
   rw[show((p:Int)+1).toNat=p+1 by omega,show((p:Int)+1+((t.getD p 0).toNat:Int)).toNat=p+1+(t.getD p 0).toNat by omega]
   exact a2G _ _
 ·have he:i=C2 t:=by have:=r9 hc;omega
  subst he;rw[X] at l;simp only at l;refine⟨λg=>?_,λg=>?_⟩
  ·have n:Q3 t=none:=by
    rw[l,if_neg (by simp only[bne_iff_ne,ne_eq] at g;omega)]
   rw[n];exact⟨U9 _,⟨rfl,nE _ _⟩,X7⟩
  ·have n:Q3 t=some out:=by
    rw[l,if_pos (by simp only[bne_eq_false_iff_eq] at g;omega)]
   rw[n];exact⟨K0,X7⟩
end Go.Proofs.YtpdnnhnfongoeaaGreat
