/- A part of the proof. -/
import Derived.Test.YtokaojbaacnngaaGreatD8
import Derived.Laws.BitsLemmas
namespace Go.Proofs.YtokaojbaacnngaaGreat
set_option maxRecDepth 100000
open Go.SS

theorem b4U{a b:Nat}(ha:a<4294967296)(hb:b<4294967296):a ^^^ b<4294967296:=Nat.xor_lt_two_pow (n:=32) ha hb
theorem b7Y{a b:Nat}(hb:b<4294967296):a&&&b<4294967296:=Nat.and_lt_two_pow (n:=32) a hb
theorem c1z{a b:Nat}(ha:a<4294967296)(hb:b<4294967296):a|||b<4294967296:=Nat.or_lt_two_pow (n:=32) ha hb
theorem yS{k:IntKind}(hk:k= .i64∨k= .u32){n:Nat}(hn:n<4294967296):(BitVec.ofInt k.bits (n:Int)).toNat=n:=by
 rw[BitVec.ofInt_natCast,BitVec.toNat_ofNat];refine Nat.mod_eq_of_lt ?_
 rcases hk with rfl|rfl
 ·exact Nat.lt_trans hn (by decide)
 ·exact hn
theorem yN{k:IntKind}(hk:k= .i64∨k= .u32){n:Nat}(hn:n<4294967296):k.wrap (n:Int)=n:=by
 rcases hk with rfl|rfl
 ·rw[IntKind.wrap_i64];omega
 ·rw[IntKind.wrap_u32];omega
theorem rF{k:IntKind}(hk:k= .i64∨k= .u32){a b:Nat}(ha:a<4294967296)(hb:b<4294967296):bits .xor k (a:Int) (b:Int)=((a ^^^ b:Nat):Int):=by
 show k.wrap ((BitVec.ofInt k.bits (a:Int) ^^^ BitVec.ofInt k.bits (b:Int)).toNat:Int)=_;rw[BitVec.toNat_xor,yS hk ha,yS hk hb,yN hk (b4U ha hb)]
theorem c5X{k:IntKind}(hk:k= .i64∨k= .u32){a b:Nat}(ha:a<4294967296)(hb:b<4294967296):bits .and k (a:Int) (b:Int)=((a&&&b:Nat):Int):=by
 show k.wrap ((BitVec.ofInt k.bits (a:Int)&&&BitVec.ofInt k.bits (b:Int)).toNat:Int)=_;rw[BitVec.toNat_and,yS hk ha,yS hk hb,yN hk (b7Y hb)]
theorem c70{k:IntKind}(hk:k= .i64∨k= .u32){a b:Nat}(ha:a<4294967296)(hb:b<4294967296):bits .or k (a:Int) (b:Int)=((a|||b:Nat):Int):=by
 show k.wrap ((BitVec.ofInt k.bits (a:Int)|||BitVec.ofInt k.bits (b:Int)).toNat:Int)=_;rw[BitVec.toNat_or,yS hk ha,yS hk hb,yN hk (c1z ha hb)]
def dN(r:Nat):Nat:=(r/2) ^^^ (r % 2*3988292384)
def S4(r c:Nat):Nat->Nat
 |0=>r ^^^ c
 |k+1=>dN (S4 r c k)
def P1(l:List UInt8):Nat->Nat
 |0=>4294967295
 |i+1=>S4 (P1 l i) (l.getD i 0).toNat 8
def xK(l:List UInt8):Nat:=P1 l l.length ^^^ 4294967295
theorem b2r{r:Nat}(h:r<4294967296):dN r<4294967296:=by
 have:r % 2*3988292384<2 ^ 32:=by have:=Nat.mod_lt r (show 0<2 by decide);omega
 exact Nat.xor_lt_two_pow (n:=32) (by omega) this
theorem yB{r c:Nat}(h:r<4294967296)(hc:c<256):∀k,S4 r c k<4294967296
 |0=>Nat.xor_lt_two_pow (n:=32) (by omega) (by omega)
 |k+1=>b2r (yB h hc k)
theorem d5(l:List UInt8)(i:Nat):(l.getD i 0).toNat<256:=(l.getD i 0).toNat_lt
theorem yV(l:List UInt8):∀i,P1 l i<4294967296
 |0=>show 4294967295<4294967296 by decide
 |i+1=>yB (yV l i) (d5 l i) 8
theorem b8D(l:List UInt8):xK l<4294967296:=Nat.xor_lt_two_pow (n:=32) (yV l _) (by decide)
def G9(l:List UInt8):Prop:=l.length<=1000000000
def wJ(k:IntKind):Rl:=⟨List UInt8,fun l=>[.bys l],fun l=>.int k (xK l),G9⟩
def a68:Con:=.rel (wJ .i64)
def b3h:Con:=.rel (wJ .u32)
def a5V(l:List UInt8):Nat->Ann
 |0=>.one {i:Nat//i<=l.length} (fun x=>⟨[(0,.bys l),(3,.int .i64 (P1 l x.1)),(4,.int .i64 x.1)],[]⟩) (fun x=>l.length-x.1) [] [] (fun x=>fun
  |1=>.one {k:Nat//k<=8} (fun y=>⟨[(0,.bys l),(3,.int .i64 (S4 (P1 l x.1) (l.getD x.1 0).toNat y.1)),(4,.int .i64 x.1),(5,.int .i64 y.1)],[]⟩) (fun y=>8-y.1) [] [] (fun _=>Z0)
  |_=>.none)
 |_=>.none
noncomputable def a7N:Code:=Tryz.f267.body.getD .skip
theorem vK:Z7 Tryz.prog 267:=⟨_,Tryz.func267,by kernel_rfl,by kernel_rfl⟩
theorem a70(l:List UInt8)(h:
  (∃(x:{i:Nat//i<=l.length}),(l=l/\(4294967295:Int)=(↑(P1 l x.val):Int)/\(0:Int)=(x.val:Int)/\True)/\True)/\∀(x:{i:Nat//i<=l.length}),(decide ((x.val:Int)<(l.length:Int))=true->X0
  (x.val:Int) l.length/\(∃(x_1:{k:Nat//k<=8}),(l=l/\bits BinOp.xor IntKind.i64 (↑(P1 l x.val):Int) (IntKind.i64.wrap (↑(l.getD (x.val:Int).toNat (0:UInt8)).toNat:Int))=(↑(S4 (P1 l x.val) (l.getD
  x.val (0:UInt8)).toNat x_1.val):Int)/\(x.val:Int)=(x.val:Int)/\(0:Int)=(x_1.val:Int)/\True)/\True)/\∀(x_1:{k:Nat//k<=8}),(decide ((x_1.val:Int)<(8:Int))=true->Nn (1:Int)/\X8 .i64 (bits
  BinOp.and IntKind.i64 (↑(S4 (P1 l x.val) (l.getD x.val (0:UInt8)).toNat x_1.val):Int) (1:Int)*(3988292384:Int))/\X8 .i64 ((x_1.val:Int)+(1:Int))/\∃(y:{k:Nat//k<=8}),((l=l/\bits BinOp.xor
  IntKind.i64 ((↑(S4 (P1 l x.val) (l.getD x.val (0:UInt8)).toNat x_1.val):Int).fdiv (2:Int)) (bits BinOp.and IntKind.i64 (↑(S4 (P1 l x.val) (l.getD x.val (0:UInt8)).toNat x_1.val):Int) (1:Int)*
  (3988292384:Int))=(↑(S4 (P1 l x.val) (l.getD x.val (0:UInt8)).toNat y.val):Int)/\(x.val:Int)=(x.val:Int)/\(x_1.val:Int)+(1:Int)=(y.val:Int)/\True)/\True)/\Lt (8-y.val) (8-x_1.val))/\(decide
  ((x_1.val:Int)<(8:Int))=false->X8 .i64 ((x.val:Int)+(1:Int))/\∃(y:{i:Nat//i<=l.length}),((l=l/\(↑(S4 (P1 l x.val) (l.getD x.val (0:UInt8)).toNat x_1.val):Int)=(↑(P1 l y.val):Int)/\
  (x.val:Int)+(1:Int)=(y.val:Int)/\True)/\True)/\Lt (l.length-y.val) (l.length-x.val)))/\(decide ((x.val:Int)<(l.length:Int))=false->bits BinOp.xor IntKind.i64 (↑(P1 l x.val):Int) (4294967295:Int)=(↑(xK
  l):Int))):
  Z2 Tryz.prog 267 [.bys l] (.int .i64 (xK l)):=
 T4 (code:=a7N) gN Tryz.func267 (by kernel_rfl) (by kernel_rfl) (a5V l) h (by kernel_rfl)
def b4r(l:List UInt8):Nat->Ann
 |0=>.one {i:Nat//i<=l.length} (fun x=>⟨[(3,.int .u32 (P1 l x.1)),(6,.bys l),(7,.int .i64 l.length),(8,.int .i64 x.1)],[]⟩) (fun x=>l.length-x.1) [] [] (fun x=>fun
  |1=>.one {k:Nat//k<=8} (fun y=>⟨[(3,.int .u32 (S4 (P1 l x.1) (l.getD x.1 0).toNat y.1)),(6,.bys l),(7,.int .i64 l.length),(8,.int .i64 x.1),(16,.int .i64 y.1)],[]⟩) (fun y=>8-y.1) [] [] (fun _=>Z0)
  |_=>.none)
 |_=>.none
noncomputable def b3y:Code:=Tryz.f271.body.getD .skip
theorem tH:Z7 Tryz.prog 271:=⟨_,Tryz.func271,by kernel_rfl,by kernel_rfl⟩
theorem b09(l:List UInt8)(h:
  (∃(x:{i:Nat//i<=l.length}),((4294967295:Int)=(↑(P1 l x.val):Int)/\l=l/\(l.length:Int)=(l.length:Int)/\(0:Int)=(x.val:Int)/\True)/\True)/\∀(x:{i:Nat//i<=l.length}),(decide ((x.val:Int)<
  (l.length:Int))=true->X0 (x.val:Int) l.length/\(∃(x_1:{k:Nat//k<=8}),(bits BinOp.xor IntKind.u32 (↑(P1 l x.val):Int) (IntKind.u32.wrap (↑(l.getD (x.val:Int).toNat (0:UInt8)).toNat:Int))=(↑(S4 (P1
  l x.val) (l.getD x.val (0:UInt8)).toNat x_1.val):Int)/\l=l/\(l.length:Int)=(l.length:Int)/\(x.val:Int)=(x.val:Int)/\(0:Int)=(x_1.val:Int)/\True)/\True)/\∀(x_1:{k:Nat//k<=8}),(decide ((x_1.val:Int)<
  (8:Int))=true->((bits BinOp.and IntKind.u32 (↑(S4 (P1 l x.val) (l.getD x.val (0:UInt8)).toNat x_1.val):Int) (1:Int)==(1:Int))=true->Nn (1:Int)/\X8 .i64 ((x_1.val:Int)+(1:Int))/\∃(y:{k:Nat
  //k<=8}),((bits BinOp.xor IntKind.u32 ((↑(S4 (P1 l x.val) (l.getD x.val (0:UInt8)).toNat x_1.val):Int).fdiv (2:Int)) (3988292384:Int)=(↑(S4 (P1 l x.val) (l.getD x.val (0:UInt8)).toNat y.val):Int)
  /\l=l/\(l.length:Int)=(l.length:Int)/\(x.val:Int)=(x.val:Int)/\(x_1.val:Int)+(1:Int)=(y.val:Int)/\True)/\True)/\Lt (8-y.val) (8-x_1.val))/\((bits BinOp.and IntKind.u32 (↑(S4 (P1 l x.val) (l.getD
  x.val (0:UInt8)).toNat x_1.val):Int) (1:Int)==(1:Int))=false->Nn (1:Int)/\X8 .i64 ((x_1.val:Int)+(1:Int))/\∃(y:{k:Nat//k<=8}),(((↑(S4 (P1 l x.val) (l.getD x.val (0:UInt8)).toNat x_1.val)
  :Int).fdiv (2:Int)=(↑(S4 (P1 l x.val) (l.getD x.val (0:UInt8)).toNat y.val):Int)/\l=l/\(l.length:Int)=(l.length:Int)/\(x.val:Int)=(x.val:Int)/\(x_1.val:Int)+(1:Int)=(y.val:Int)/\True)/\True)/\Lt
  (8-y.val) (8-x_1.val)))/\(decide ((x_1.val:Int)<(8:Int))=false->X8 .i64 ((x.val:Int)+(1:Int))/\∃(y:{i:Nat//i<=l.length}),(((↑(S4 (P1 l x.val) (l.getD x.val (0:UInt8)).toNat x_1.val):Int)=
  (↑(P1 l y.val):Int)/\l=l/\(l.length:Int)=(l.length:Int)/\(x.val:Int)+(1:Int)=(y.val:Int)/\True)/\True)/\Lt (l.length-y.val) (l.length-x.val)))/\(decide ((x.val:Int)<(l.length:Int))=false->bits
  BinOp.xor IntKind.u32 (↑(P1 l x.val):Int) (4294967295:Int)=(↑(xK l):Int))):
  Z2 Tryz.prog 271 [.bys l] (.int .u32 (xK l)):=
 T4 (code:=b3y) gN Tryz.func271 (by kernel_rfl) (by kernel_rfl) (b4r l) h (by kernel_rfl)
theorem a9M{k:IntKind}(hk:k= .i64∨k= .u32){r:Nat}(hr:r<4294967296):bits .and k (r:Int) 1=((r % 2:Nat):Int):=by
 rw[show(1:Int)=((1:Nat):Int) from rfl,c5X hk hr (by decide),Nat.and_one_is_mod]
theorem c4J(r:Nat):(r:Int).fdiv 2=((r/2:Nat):Int):=by
 rw[Int.fdiv_eq_ediv_of_nonneg _ (by omega)]
 omega
theorem pT:Z1 Tryz.prog 267 a68:=by
 intro(l:List UInt8) (hl:l.length<=1000000000);have k1:IntKind.i64= .i64∨IntKind.i64= .u32:=.inl rfl;refine a70 l ⟨⟨⟨0,T0 _⟩,⟨rfl,rfl,rfl,trivial⟩,trivial⟩,fun x=>⟨fun hc=> ?_,fun hc=> ?_⟩⟩
 ·have hlt:=Y9 hc;have hr:=yV l x.val;have hb:=d5 l x.val;refine⟨Y7 hlt,⟨⟨0,by omega⟩,⟨rfl,?_,rfl,rfl,trivial⟩,trivial⟩,fun y=>⟨fun hd=> ?_,fun hd=> ?_⟩⟩
  ·rw[v4,yN k1 (by omega),rF k1 hr (by omega)]
   rfl
  ·have hy:y.val<8:=by have:=D8 hd;omega
   have hq:=yB hr hb y.val;have hm:S4 (P1 l x.val) (l.getD x.val 0).toNat y.val % 2*3988292384<4294967296:=by have:=Nat.mod_lt (S4 (P1 l x.val) (l.getD x.val 0).toNat y.val) (show 0<2 by decide);omega
   rw[a9M k1 hq,c4J,show((S4 (P1 l x.val) (l.getD x.val 0).toNat y.val % 2:Nat):Int)*3988292384=((S4 (P1 l x.val) (l.getD x.val 0).toNat y.val % 2*3988292384:Nat):Int) by omega,rF k1 (by omega) hm]
   refine⟨by unfold Nn;omega,Z5 (by omega),Z5 (by omega),⟨y.val+1,hy⟩,⟨⟨rfl,rfl,rfl,by simp only;omega,trivial⟩,trivial⟩,by unfold Lt;simp only;omega⟩
  ·have hy:y.val=8:=by have:=y.2;have:=yQ hd;omega
   refine⟨W4 hlt (by omega),⟨x.val+1,hlt⟩,⟨⟨rfl,?_,by simp only;omega,trivial⟩,trivial⟩,V9.ext_lt hlt⟩
   rw[hy];rfl
 ·have hx:x.val=l.length:=by have:=x.2;have:=Y3 hc;omega
  rw[hx,show(4294967295:Int)=((4294967295:Nat):Int) from rfl,rF k1 (yV l _) (by decide)]
  rfl
theorem lC:Z1 Tryz.prog 271 b3h:=by
 intro(l:List UInt8) (hl:l.length<=1000000000);have k1:IntKind.u32= .i64∨IntKind.u32= .u32:=.inr rfl;refine b09 l ⟨⟨⟨0,T0 _⟩,⟨rfl,rfl,rfl,rfl,trivial⟩,trivial⟩,fun x=>⟨fun hc=> ?_,fun hc=> ?_⟩⟩
 ·have hlt:=Y9 hc;have hr:=yV l x.val;have hb:=d5 l x.val;refine⟨Y7 hlt,⟨⟨0,by omega⟩,⟨?_,rfl,rfl,rfl,rfl,trivial⟩,trivial⟩,fun y=>⟨fun hd=> ?_,fun hd=> ?_⟩⟩
  ·rw[v4,yN k1 (by omega),rF k1 hr (by omega)]
   rfl
  ·have hy:y.val<8:=by have:=D8 hd;omega
   have hq:=yB hr hb y.val;rw[a9M k1 hq,c4J];refine⟨fun ho=>⟨by unfold Nn;omega,Z5 (by omega),⟨y.val+1,hy⟩,⟨⟨?_,rfl,rfl,rfl,by simp only;omega,trivial⟩,trivial⟩,by unfold Lt;simp only;omega⟩,
    fun ho=>⟨by unfold Nn;omega,Z5 (by omega),⟨y.val+1,hy⟩,⟨⟨?_,rfl,rfl,rfl,by simp only;omega,trivial⟩,trivial⟩,by unfold Lt;simp only;omega⟩⟩
   ·have ho:S4 (P1 l x.val) (l.getD x.val 0).toNat y.val % 2=1:=by rw[beq_iff_eq] at ho;omega
    rw[show(3988292384:Int)=((3988292384:Nat):Int) from rfl,rF k1 (by omega) (by decide)]
    simp only[S4,dN,ho,Nat.one_mul]
   ·have ho:S4 (P1 l x.val) (l.getD x.val 0).toNat y.val % 2=0:=by
     have:¬ ((S4 (P1 l x.val) (l.getD x.val 0).toNat y.val % 2:Nat):Int)=1:=by simpa using ho
     omega
    simp only[S4,dN,ho,Nat.zero_mul,Nat.xor_zero]
  ·have hy:y.val=8:=by have:=y.2;have:=yQ hd;omega
   refine⟨W4 hlt (by omega),⟨x.val+1,hlt⟩,⟨⟨?_,rfl,rfl,by simp only;omega,trivial⟩,trivial⟩,V9.ext_lt hlt⟩
   rw[hy];rfl
 ·have hx:x.val=l.length:=by have:=x.2;have:=Y3 hc;omega
  rw[hx,show(4294967295:Int)=((4294967295:Nat):Int) from rfl,rF k1 (yV l _) (by decide)]
  rfl
end Go.Proofs.YtokaojbaacnngaaGreat

namespace Go.Proofs.YtokaojbaacnngaaGreat
set_option maxRecDepth 100000
open Go.SS

def t6(l:List UInt8):Nat->Nat
 |0=>0
 |i+1=>t6 l i*256+(l.getD i 0).toNat
def be(l:List UInt8):Nat:=t6 l l.length
def hZ(l:List UInt8):Prop:=l.length<=4
def b9m:Rl:=⟨List UInt8,fun l=>[.bys l],fun l=>.int .i64 (be l),hZ⟩
def c71:Con:=.rel b9m
def dF:Rl:=⟨List UInt8,fun l=>[.str l],fun l=>.int .i64 (be l),hZ⟩
def c3H:Con:=.rel dF
def c3U(l:List UInt8):Nat->Ann
 |0=>.one {i:Nat//i<=l.length} (fun x=>⟨[(0,.str l),(3,.int .i64 (t6 l x.1)),(4,.int .i64 x.1)],[]⟩) (fun x=>l.length-x.1) [] [] (fun _=>Z0)
 |_=>.none
noncomputable def c2f:Code:=Tryz.f250.body.getD .skip
theorem lH:Z7 Tryz.prog 250:=⟨_,Tryz.func250,by kernel_rfl,by kernel_rfl⟩
theorem c26(l:List UInt8)(h:
  (∃(x:{i:Nat//i<=l.length}),(l=l/\(0:Int)=(↑(t6 l x.val):Int)/\(0:Int)=(x.val:Int)/\True)/\True)/\∀(x:{i:Nat//i<=l.length}),(decide ((x.val:Int)<(l.length:Int))=true->X8 .i64 ((↑(t6
  l x.val):Int)*(256:Int))/\X0 (x.val:Int) l.length/\X8 .i64 ((↑(t6 l x.val):Int)*(256:Int)+IntKind.i64.wrap (↑(l.getD (x.val:Int).toNat (0:UInt8)).toNat:Int))/\X8 .i64 ((x.val:Int)+(1:Int))/\∃(y:{
  i:Nat//i<=l.length}),((l=l/\(↑(t6 l x.val):Int)*(256:Int)+IntKind.i64.wrap (↑(l.getD (x.val:Int).toNat (0:UInt8)).toNat:Int)=(↑(t6 l y.val):Int)/\(x.val:Int)+(1:Int)=(y.val:Int)/\True)/\True)
  /\Lt (l.length-y.val) (l.length-x.val))/\(decide ((x.val:Int)<(l.length:Int))=false->(↑(t6 l x.val):Int)=(↑(be l):Int))):
  Z2 Tryz.prog 250 [.str l] (.int .i64 (be l)):=
 T4 (code:=c2f) gN Tryz.func250 (by kernel_rfl) (by kernel_rfl) (c3U l) h (by kernel_rfl)
def c7m(l:List UInt8):Nat->Ann
 |0=>.one {i:Nat//i<=l.length} (fun x=>⟨[(3,.int .i64 (t6 l x.1)),(6,.bys l),(7,.int .i64 l.length),(8,.int .i64 x.1)],[]⟩) (fun x=>l.length-x.1) [] [] (fun _=>Z0)
 |_=>.none
noncomputable def c77:Code:=Tryz.f257.body.getD .skip
theorem a1V:Z7 Tryz.prog 257:=⟨_,Tryz.func257,by kernel_rfl,by kernel_rfl⟩
theorem c7l(l:List UInt8)(h:
  (∃(x:{i:Nat//i<=l.length}),((0:Int)=(↑(t6 l x.val):Int)/\l=l/\(l.length:Int)=(l.length:Int)/\(0:Int)=(x.val:Int)/\True)/\True)/\∀(x:{i:Nat//i<=l.length}),(decide ((x.val:Int)<
  (l.length:Int))=true->X0 (x.val:Int) l.length/\Nn (8:Int)/\X8 .i64 ((x.val:Int)+(1:Int))/\∃(y:{i:Nat//i<=l.length}),((bits BinOp.or IntKind.i64 (IntKind.i64.wrap ((↑(t6 l x.val):Int)*(256:Int)))
  (IntKind.i64.wrap (↑(l.getD (x.val:Int).toNat (0:UInt8)).toNat:Int))=(↑(t6 l y.val):Int)/\l=l/\(l.length:Int)=(l.length:Int)/\(x.val:Int)+(1:Int)=(y.val:Int)/\True)/\True)/\Lt (l.length-y.val) (l.length
  -x.val))/\(decide ((x.val:Int)<(l.length:Int))=false->(↑(t6 l x.val):Int)=(↑(be l):Int))):
  Z2 Tryz.prog 257 [.bys l] (.int .i64 (be l)):=
 T4 (code:=c77) gN Tryz.func257 (by kernel_rfl) (by kernel_rfl) (c7m l) h (by kernel_rfl)
def b8M(n:Nat):Nat->Ann
 |0=>.unr n (fun _=>Z0)
 |_=>.none
def xQ(n:Nat):List UInt8:=[P4 (IntKind.u8.wrap ((n:Int).fdiv 16777216)),P4 (IntKind.u8.wrap ((n:Int).fdiv 65536)),P4 (IntKind.u8.wrap ((n:Int).fdiv 256)),P4 (IntKind.u8.wrap ((n:Int).fdiv 1))]
def by2(n:Nat):List UInt8:=[P4 (IntKind.u8.wrap ((n:Int).fdiv 256)),P4 (IntKind.u8.wrap ((n:Int).fdiv 1))]
noncomputable def qA:Code:=Tryz.f269.body.getD .skip
theorem lN:Z7 Tryz.prog 269:=⟨_,Tryz.func269,by kernel_rfl,by kernel_rfl⟩
theorem b1O(n:Nat)(h:
  X8 .i64 (3:Int)/\(true=true->X8 .i64 (24:Int)/\Nn (24:Int)/\X8 IntKind.u8 (IntKind.u8.wrap ((n:Int).fdiv (16777216:Int)))/\(Le 1 1/\Le 0 0/\V7 0 1 1)/\X8 .i64 (2:Int)/\(true=true->X8 .i64 (16:Int)
  /\Nn (16:Int)/\X8 IntKind.u8 (IntKind.u8.wrap ((n:Int).fdiv (65536:Int)))/\(Le (0+1) 1/\Le (0+1) 1/\V7 (0+1) 1 1)/\X8 .i64 (1:Int)/\(true=true->X8 .i64 (8:Int)/\Nn (8:Int)/\X8 IntKind.u8
  (IntKind.u8.wrap ((n:Int).fdiv (256:Int)))/\(Le (0+1) 1/\Le (0+1+1) 2/\V7 (0+1+1) 1 1)/\X8 .i64 (0:Int)/\(true=true->X8 .i64 (0:Int)/\Nn (0:Int)/\X8 IntKind.u8 (IntKind.u8.wrap ((n:Int).fdiv (1:
  Int)))/\(Le (0+1) 1/\Le (0+1+1+1) 3/\V7 (0+1+1+1) 1 1)/\X8 .i64 (-1:Int)/\(false=true->X8 .i64 (-8:Int)/\Nn (18446744073709551608:Int)/\X8 IntKind.u8 (IntKind.u8.wrap ((n:Int).fdiv
  (18446744073709551616:Int)))/\(Le (0+1) 1/\Le (0+1+1+1+1) 4/\V7 (0+1+1+1+1) 1 1)/\X8 .i64 (-2:Int)/\False)/\(false=false->Le 4 4/\List.take (0+1+1+1+1) (List.drop 0 (List.take (0+1+1
  +1) (List.take (0+1+1) (List.take (0+1) (List.take 0 (List.map P4 [])++List.take 1 (List.drop 0 (List.map P4 [IntKind.u8.wrap ((n:Int).fdiv (16777216:Int))])))++List.take 1 (List.drop 0 (List.map P4
  [IntKind.u8.wrap ((n:Int).fdiv (65536:Int))])))++List.take 1 (List.drop 0 (List.map P4 [IntKind.u8.wrap ((n:Int).fdiv (256:Int))])))++List.take 1 (List.drop 0 (List.map P4 [IntKind.u8.wrap ((n:Int).fdiv (1:Int))]))))=
  xQ n))/\(true=false->Le 3 3/\List.take (0+1+1+1) (List.drop 0 (List.take (0+1+1) (List.take (0+1) (List.take 0 (List.map P4 [])++List.take 1 (List.drop 0 (List.map P4 [IntKind.u8.wrap ((n:Int).fdiv (16777216
  :Int))])))++List.take 1 (List.drop 0 (List.map P4 [IntKind.u8.wrap ((n:Int).fdiv (65536:Int))])))++List.take 1 (List.drop 0 (List.map P4 [IntKind.u8.wrap ((n:Int).fdiv (256:Int))]))))=xQ n))/\(true=false->Le 2 2
  /\List.take (0+1+1) (List.drop 0 (List.take (0+1) (List.take 0 (List.map P4 [])++List.take 1 (List.drop 0 (List.map P4 [IntKind.u8.wrap ((n:Int).fdiv (16777216:Int))])))++List.take 1 (List.drop 0 (List.map P4
  [IntKind.u8.wrap ((n:Int).fdiv (65536:Int))]))))=xQ n))/\(true=false->Le 1 1/\List.take (0+1) (List.drop 0 (List.take 0 (List.map P4 [])++List.take 1 (List.drop 0 (List.map P4 [IntKind.u8.wrap ((n:Int).fdiv
  (16777216:Int))]))))=xQ n))/\(true=false->Le 0 0/\List.take 0 (List.drop 0 (List.map P4 []))=xQ n)):
  Z2 Tryz.prog 269 [.int .i64 n,.int .i64 4] (.bys (xQ n)):=
 T4 (code:=qA) gN Tryz.func269 (by kernel_rfl) (by kernel_rfl) (b8M 5) h (by kernel_rfl)
theorem b1l(n:Nat)(h:
  X8 .i64 (1:Int)/\(true=true->X8 .i64 (8:Int)/\Nn (8:Int)/\X8 IntKind.u8 (IntKind.u8.wrap ((n:Int).fdiv (256:Int)))/\(Le 1 1/\Le 0 0/\V7 0 1 1)/\X8 .i64 (0:Int)/\(true=true->X8 .i64 (0:Int)/\Nn (0
  :Int)/\X8 IntKind.u8 (IntKind.u8.wrap ((n:Int).fdiv (1:Int)))/\(Le (0+1) 1/\Le (0+1) 1/\V7 (0+1) 1 1)/\X8 .i64 (-1:Int)/\(false=true->X8 .i64 (-8:Int)/\Nn (18446744073709551608:Int)/\X8 IntKind.u8
  (IntKind.u8.wrap ((n:Int).fdiv (18446744073709551616:Int)))/\(Le (0+1) 1/\Le (0+1+1) 2/\V7 (0+1+1) 1 1)/\X8 .i64 (-2:Int)/\False)/\(false=false->Le 2 2/\List.take (0+1+1) (List.drop 0 (List.take (0+
  1) (List.take 0 (List.map P4 [])++List.take 1 (List.drop 0 (List.map P4 [IntKind.u8.wrap ((n:Int).fdiv (256:Int))])))++List.take 1 (List.drop 0 (List.map P4 [IntKind.u8.wrap ((n:Int).fdiv (1:Int))]))))=by2 n))/\(true
  =false->Le 1 1/\List.take (0+1) (List.drop 0 (List.take 0 (List.map P4 [])++List.take 1 (List.drop 0 (List.map P4 [IntKind.u8.wrap ((n:Int).fdiv (256:Int))]))))=by2 n))/\(true=false->Le 0 0/\List.take 0
  (List.drop 0 (List.map P4 []))=by2 n)):
  Z2 Tryz.prog 269 [.int .i64 n,.int .i64 2] (.bys (by2 n)):=
 T4 (code:=qA) gN Tryz.func269 (by kernel_rfl) (by kernel_rfl) (b8M 3) h (by kernel_rfl)
theorem T3(x:Int):X8 .u8 (IntKind.u8.wrap x):=by
 rw[IntKind.wrap_u8];unfold X8 IntKind.min IntKind.max IntKind.signed IntKind.bits;have:=Int.emod_nonneg x (show(256:Int)≠0 by decide)
 have:=Int.emod_lt_of_pos x (show(0:Int)<256 by decide)
 simp;omega
theorem b5a(n:Int):X8 .u8 n↔(0<=n/\n<=255):=by
 unfold X8 IntKind.min IntKind.max IntKind.signed IntKind.bits;simp
def a1C:Rl:=⟨Nat×Bool,fun x=>[.int .i64 x.1,.int .i64 (match x.2 with|true=>4|false=>2)],fun x=>.bys (match x.2 with|true=>xQ x.1|false=>by2 x.1),fun _=>True⟩
def a2Q:Con:=.rel a1C
theorem aA:Z1 Tryz.prog 269 a2Q:=by
 rintro⟨n,b⟩ _;cases b
 ·refine b1l n ?_
  simp[Z5,T3,Nn,Le,V7,by2]
 ·refine b1O n ?_
  simp[Z5,T3,Nn,Le,V7,xQ]
theorem zA(l:List UInt8)(i:Nat):IntKind.i64.wrap ((l.getD i 0).toNat:Int)=((l.getD i 0).toNat:Int):=qR _
theorem a9a(l:List UInt8):∀i,t6 l i<256 ^ i
 |0=>by simp[t6]
 |i+1=>by
  have h1:=a9a l i;have h2:=d5 l i;simp only[t6,Nat.pow_succ];omega
theorem a3e(l:List UInt8){i:Nat}(h:i<4):t6 l i<16777216:=
 xF (a9a l i) (Nat.pow_le_pow_right (n:=256) (by decide) (show i<=3 by omega))
theorem a2J:Z1 Tryz.prog 250 c3H:=by
 intro(l:List UInt8) (hl:l.length<=4);refine c26 l ⟨⟨⟨0,T0 _⟩,⟨rfl,rfl,rfl,trivial⟩,trivial⟩,fun x=>⟨fun hc=> ?_,fun hc=> ?_⟩⟩
 ·have hlt:=Y9 hc;have hb:=d5 l x.val;have hr:=a3e l (show x.val<4 by omega)
  rw[v4,zA];refine⟨Z5 (by omega),Y7 hlt,Z5 (by omega),W4 hlt (by omega),⟨x.val+1,hlt⟩,⟨⟨rfl,?_,by simp only;omega,trivial⟩,trivial⟩,V9.ext_lt hlt⟩
  simp only[t6];omega
 ·have hx:x.val=l.length:=by have:=x.2;have:=Y3 hc;omega
  rw[hx];rfl
theorem c0i:Z1 Tryz.prog 257 c71:=by
 intro(l:List UInt8) (hl:l.length<=4);refine c7l l ⟨⟨⟨0,T0 _⟩,⟨rfl,rfl,rfl,rfl,trivial⟩,trivial⟩,fun x=>⟨fun hc=> ?_,fun hc=> ?_⟩⟩
 ·have hlt:=Y9 hc;have hb:=d5 l x.val;have hr:=a3e l (show x.val<4 by omega)
  rw[v4,zA,show((t6 l x.val:Nat):Int)*256=((t6 l x.val*256:Nat):Int) by omega,yN (.inl rfl) (by omega),c70 (.inl rfl) (by omega) (by omega)]
  refine⟨Y7 hlt,by unfold Nn;omega,W4 hlt (by omega),⟨x.val+1,hlt⟩,⟨⟨?_,rfl,rfl,by simp only;omega,trivial⟩,trivial⟩,V9.ext_lt hlt⟩
  have:=Nat.two_pow_add_eq_or_of_lt (i:=8) (b:=(l.getD x.val 0).toNat) hb (t6 l x.val);rw[show t6 l x.val*256=2 ^ 8*t6 l x.val by omega,←this]
  simp only[t6];omega
 ·have hx:x.val=l.length:=by have:=x.2;have:=Y3 hc;omega
  rw[hx];rfl
def T6(b:List UInt8):Bool:=decide (4<=b.length)&&xK (b.take (b.length-4))==be (b.drop (b.length-4))
def X5(b:List UInt8):List UInt8:=if T6 b then b.take (b.length-4) else[]
def uP:Rl:=⟨List UInt8,fun b=>[.bys b],fun b=>.tup [.bys (X5 b),.bool (T6 b)],G9⟩
def a6r:Con:=.rel uP
noncomputable def a53:Code:=Tryz.f255.body.getD .skip
theorem vB:Z7 Tryz.prog 255:=⟨_,Tryz.func255,by kernel_rfl,by kernel_rfl⟩
theorem a8m(b:List UInt8)(h:
  X8 .i64 ((b.length:Int)- (4:Int))/\(decide ((b.length:Int)- (4:Int)<(0:Int))=false->InC ((b.length:Int)- (4:Int)) b.length)/\∃(x:(wJ IntKind.u32).ι),(decide ((b.length:Int)- (4:Int)<(0:Int))=
  false->(List.take ((b.length:Int)- (4:Int)).toNat b=x/\True)/\G9 x)/\(decide ((b.length:Int)- (4:Int)<(0:Int))=false->InC ((b.length:Int)- (4:Int)) b.length)/\∃(x_1:b9m.ι),(decide ((b.length:Int)-
  (4:Int)<(0:Int))=false->(List.drop ((b.length:Int)- (4:Int)).toNat b=x_1/\True)/\hZ x_1)/\((decide ((b.length:Int)- (4:Int)<(0:Int))||IntKind.i64.wrap (↑(xK x):Int) !=(↑(be x_1):Int))=true->
  X5 b=[]/\false=T6 b/\True)/\((decide ((b.length:Int)- (4:Int)<(0:Int))||IntKind.i64.wrap (↑(xK x):Int) !=(↑(be x_1):Int))=false->InC ((b.length:Int)- (4:Int)) b.length/\List.take ((b.length:Int)-
  (4:Int)).toNat b=X5 b/\true=T6 b/\True)):
  Z2 Tryz.prog 255 [.bys b] (.tup [.bys (X5 b),.bool (T6 b)]):=
 T4 (code:=a53) (gC lC tH (gC c0i a1V gN)) Tryz.func255 (by kernel_rfl) (by kernel_rfl) Z0 h (by kernel_rfl)
def a2P:Rl:=⟨List UInt8,fun b=>[.str b],fun b=>.tup [.str (X5 b),.bool (T6 b)],G9⟩
def a3y:Con:=.rel a2P
noncomputable def a2c:Code:=Tryz.f230.body.getD .skip
theorem nZ:Z7 Tryz.prog 230:=⟨_,Tryz.func230,by kernel_rfl,by kernel_rfl⟩
theorem a2G(b:List UInt8)(h:
  X8 .i64 ((b.length:Int)- (4:Int))/\(decide ((b.length:Int)- (4:Int)<(0:Int))=false->InC ((b.length:Int)- (4:Int)) b.length)/\(decide ((b.length:Int)- (4:Int)<(0:Int))=false->Lt (List.take
  ((b.length:Int)- (4:Int)).toNat b).length 140737488355329)/\∃(x:(wJ IntKind.i64).ι),(decide ((b.length:Int)- (4:Int)<(0:Int))=false->(List.take ((b.length:Int)- (4:Int)).toNat b=x/\True)/\G9 x)/\
  (decide ((b.length:Int)- (4:Int)<(0:Int))=false->InC ((b.length:Int)- (4:Int)) b.length)/\∃(x_1:dF.ι),(decide ((b.length:Int)- (4:Int)<(0:Int))=false->(List.drop ((b.length:Int)- (4:Int)).toNat
  b=x_1/\True)/\hZ x_1)/\((decide ((b.length:Int)- (4:Int)<(0:Int))||(↑(xK x):Int) !=(↑(be x_1):Int))=true->[]=X5 b/\false=T6 b/\True)/\((decide ((b.length:Int)- (4:Int)<(0:Int))||(↑(xK
  x):Int) !=(↑(be x_1):Int))=false->InC ((b.length:Int)- (4:Int)) b.length/\List.take ((b.length:Int)- (4:Int)).toNat b=X5 b/\true=T6 b/\True)):
  Z2 Tryz.prog 230 [.str b] (.tup [.str (X5 b),.bool (T6 b)]):=
 T4 (code:=a2c) (gC pT vK (gC a2J lH gN)) Tryz.func230 (by kernel_rfl) (by kernel_rfl) Z0 h (by kernel_rfl)
theorem qH:Z1 Tryz.prog 255 a6r:=by
 intro(b:List UInt8) (hl:b.length<=1000000000);have hd:∀{p:Prop},(decide ((b.length:Int)-4<0)=false->p)↔(4<=b.length->p):=fun{p}=>⟨fun h g=>h (uY (by omega)),fun h g=>h (by have:=yQ g;omega)⟩
 refine a8m b ?_
 refine⟨Z5 (by omega),hd.2 fun h4=>⟨by omega,by omega⟩,b.take (b.length-4),hd.2 ?_,hd.2 fun h4=>⟨by omega,by omega⟩,b.drop (b.length-4),hd.2 ?_,?_⟩
 ·exact fun h4=>⟨⟨by rw[show((b.length:Int)-4).toNat=b.length-4 by omega],trivial⟩,by unfold G9;simp;omega⟩
 ·exact fun h4=>⟨⟨by rw[show((b.length:Int)-4).toNat=b.length-4 by omega],trivial⟩,by unfold hZ;simp;omega⟩
 have e:(decide ((b.length:Int)-4<0)||IntKind.i64.wrap (xK (b.take (b.length-4)):Int) !=(be (b.drop (b.length-4)):Int))= !T6 b:=by
  rw[yN (.inl rfl) (b8D _)];unfold T6;rw[Bool.eq_iff_iff];simp;omega
 rw[e];refine⟨fun h=> ?_,fun h=> ?_⟩
 ·have h:T6 b=false:=by simpa using h
  exact⟨by simp[X5,h],h.symm,trivial⟩
 ·have h:T6 b=true:=by simpa using h
  have h4:4<=b.length:=by simp[T6] at h;exact h.1
  exact⟨⟨by omega,by omega⟩,by rw[show((b.length:Int)-4).toNat=b.length-4 by omega];simp[X5,h],h.symm,trivial⟩
theorem tO:Z1 Tryz.prog 230 a3y:=by
 intro(b:List UInt8) (hl:b.length<=1000000000);have hd:∀{p:Prop},(decide ((b.length:Int)-4<0)=false->p)↔(4<=b.length->p):=fun{p}=>⟨fun h g=>h (uY (by omega)),fun h g=>h (by have:=yQ g;omega)⟩
 refine a2G b ?_
 refine⟨Z5 (by omega),hd.2 fun h4=>⟨by omega,by omega⟩,hd.2 fun h4=>by unfold Lt;simp;omega,b.take (b.length-4),hd.2 ?_,hd.2 fun h4=>⟨by omega,by omega⟩,b.drop (b.length-4),hd.2 ?_,?_⟩
 ·exact fun h4=>⟨⟨by rw[show((b.length:Int)-4).toNat=b.length-4 by omega],trivial⟩,by unfold G9;simp;omega⟩
 ·exact fun h4=>⟨⟨by rw[show((b.length:Int)-4).toNat=b.length-4 by omega],trivial⟩,by unfold hZ;simp;omega⟩
 have e:(decide ((b.length:Int)-4<0)||(xK (b.take (b.length-4)):Int) !=(be (b.drop (b.length-4)):Int))= !T6 b:=by
  unfold T6;rw[Bool.eq_iff_iff];simp;omega
 rw[e];refine⟨fun h=> ?_,fun h=> ?_⟩
 ·have h:T6 b=false:=by simpa using h
  exact⟨by simp[X5,h],h.symm,trivial⟩
 ·have h:T6 b=true:=by simpa using h
  have h4:4<=b.length:=by simp[T6] at h;exact h.1
  exact⟨⟨by omega,by omega⟩,by rw[show((b.length:Int)-4).toNat=b.length-4 by omega];simp[X5,h],h.symm,trivial⟩
end Go.Proofs.YtokaojbaacnngaaGreat

