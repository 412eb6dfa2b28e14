/- A part of the proof. -/
import Derived.Test.YtokaojbaacnngaaGreatX1X2X3
namespace Go.Proofs.YtokaojbaacnngaaGreat
set_option maxRecDepth 100000
open Go.SS

def c6U:Con:=.rmk ⟨List (List UInt8),fun L=>[L6 L],fun _=>[],fun L=>.osl 0 0 L.length,fun L=>[I6 L],fun L=>L.length<=1048576⟩
noncomputable def c6L:Code:=Tryz.f145.body.getD .skip
theorem a3q:Z8 Tryz.prog 145:=⟨_,Tryz.func145,by kernel_rfl,by kernel_rfl⟩
theorem c8f(L:List (List UInt8))(h:
  (Nn (L.length:Int)/\LeI (L.length:Int) (L.length:Int)/\J8 16 (L.length:Int).toNat 140737488355328/\Lt (L.length:Int).toNat 9223372036854775808)/\(∃(x:{i:Nat//i<=L.length}),((Y3 Z6 L L)/\(0=0/\
  (L.length:Int).toNat=L.length)/\(0:Int)=(x.val:Int)/\True)/\((L.length:Int).toNat=L.length/\Z7 (L.length:Int).toNat (fun(x:Nat)=>[T.str []]) (u5 (Z6 L) [T.str []] x.val))/\True)/\∀(x:{i:Nat//i<=
  L.length}),(decide ((x.val:Int)<(L.length:Int))=true->W7 (x.val:Int) L.length/\W7 (x.val:Int) L.length/\Lt (0+(x.val:Int).toNat) L.length/\X6 .i64 ((x.val:Int)+(1:Int))/\∃(y:{i:Nat//i<=L.length}),
  (((Y3 Z6 L L)/\(0=0/\L.length=L.length)/\(x.val:Int)+(1:Int)=(y.val:Int)/\True)/\(L.length=L.length/\Z7 L.length (setRow (u5 (Z6 L) [T.str []] x.val) (0+(x.val:Int).toNat) 0 [T.str (L.getD
  (x.val:Int).toNat [])]) (u5 (Z6 L) [T.str []] y.val))/\True)/\Lt (L.length-y.val) (L.length-x.val))/\(decide ((x.val:Int)<(L.length:Int))=false->((0=0/\L.length=L.length)/\True)/\(L.length=L.length/\
  Z7 L.length (u5 (Z6 L) [T.str []] x.val) (Z6 L))/\True)):
  V7 Tryz.prog 145 [L6 L] [] (.osl 0 0 L.length) [I6 L]:=
 C4 (code:=c6L) gN Tryz.func145 (by kernel_rfl) (by kernel_rfl) (c5W L) [[.arr 0]] h (by kernel_rfl)
theorem a67:Z2 Tryz.prog 145 c6U:=by
 intro(L:List (List UInt8)) (hL:L.length<=1048576);refine⟨c8f L ⟨⟨by unfold Nn;omega,by unfold LeI;omega,by unfold J8;omega,by unfold Lt;omega⟩,⟨⟨0,Nat.zero_le _⟩,⟨⟨(by trivial),Z9 _ _⟩,⟨(by trivial),by omega⟩,rfl,trivial⟩,⟨by omega,i7⟩,trivial⟩,fun x=>⟨fun hc=> ?_,fun hc=> ?_⟩⟩,rfl,B5 L⟩
 ·have hlt:=Y6 hc;refine⟨Y8 hlt,Y8 hlt,by unfold Lt;omega,W8 hlt (by omega),⟨x.val+1,hlt⟩,⟨⟨⟨(by trivial),Z9 _ _⟩,⟨(by trivial),(by trivial)⟩,by simp only;omega,trivial⟩,⟨(by trivial),fun j hj=> ?_⟩,trivial⟩,W5.ext_lt hlt⟩
  exact q7 (m:=1) (fun _=>rfl) rfl x.val rfl j
 ·have hx:x.val=L.length:=by have:=x.2;have:=Y2 hc;omega
  rw[hx];exact⟨⟨⟨rfl,rfl⟩,trivial⟩,⟨rfl,fun i hi=>a0w (n:=L.length) i (by omega)⟩,trivial⟩
def c55:Con:=.rmk ⟨List Int,fun L=>[w4 L],fun _=>[],fun L=>.osl 0 0 L.length,fun L=>[C9 L],fun L=>L.length<=1048576⟩
noncomputable def c6D:Code:=Tryz.f13.body.getD .skip
theorem b0b:Z8 Tryz.prog 13:=⟨_,Tryz.func13,by kernel_rfl,by kernel_rfl⟩
theorem c72(L:List Int)(h:
  (Nn (L.length:Int)/\LeI (L.length:Int) (L.length:Int)/\J8 8 (L.length:Int).toNat 140737488355328/\Lt (L.length:Int).toNat 9223372036854775808)/\(∃(x:{i:Nat//i<=L.length}),((Y3 Y7 L L)/\(0=0/\
  (L.length:Int).toNat=L.length)/\(0:Int)=(x.val:Int)/\True)/\((L.length:Int).toNat=L.length/\Z7 (L.length:Int).toNat (fun(x:Nat)=>[T.int .i64 (0:Int)]) (u5 (Y7 L) [T.int .i64 (0:Int)] x.val))/\True)/\
  ∀(x:{i:Nat//i<=L.length}),(decide ((x.val:Int)<(L.length:Int))=true->W7 (x.val:Int) L.length/\W7 (x.val:Int) L.length/\Lt (0+(x.val:Int).toNat) L.length/\X6 .i64 ((x.val:Int)+(1:Int))/\∃(y:{i:Nat
  //i<=L.length}),(((Y3 Y7 L L)/\(0=0/\L.length=L.length)/\(x.val:Int)+(1:Int)=(y.val:Int)/\True)/\(L.length=L.length/\Z7 L.length (setRow (u5 (Y7 L) [T.int .i64 (0:Int)] x.val) (0+
  (x.val:Int).toNat) 0 [T.int .i64 (L.getD (x.val:Int).toNat (0:Int))]) (u5 (Y7 L) [T.int .i64 (0:Int)] y.val))/\True)/\Lt (L.length-y.val) (L.length-x.val))/\(decide ((x.val:Int)<(L.length:Int))=false->((0=0
  /\L.length=L.length)/\True)/\(L.length=L.length/\Z7 L.length (u5 (Y7 L) [T.int .i64 (0:Int)] x.val) (Y7 L))/\True)):
  V7 Tryz.prog 13 [w4 L] [] (.osl 0 0 L.length) [C9 L]:=
 C4 (code:=c6D) gN Tryz.func13 (by kernel_rfl) (by kernel_rfl) (c8o L) [[.arr 0]] h (by kernel_rfl)
theorem b98:Z2 Tryz.prog 13 c55:=by
 intro(L:List Int) (hL:L.length<=1048576);refine⟨c72 L ⟨⟨by unfold Nn;omega,by unfold LeI;omega,by unfold J8;omega,by unfold Lt;omega⟩,⟨⟨0,Nat.zero_le _⟩,⟨⟨(by trivial),Z9 _ _⟩,⟨(by trivial),by omega⟩,rfl,trivial⟩,⟨by omega,i7⟩,trivial⟩,fun x=>⟨fun hc=> ?_,fun hc=> ?_⟩⟩,rfl,a21 L⟩
 ·have hlt:=Y6 hc;refine⟨Y8 hlt,Y8 hlt,by unfold Lt;omega,W8 hlt (by omega),⟨x.val+1,hlt⟩,⟨⟨⟨(by trivial),Z9 _ _⟩,⟨(by trivial),(by trivial)⟩,by simp only;omega,trivial⟩,⟨(by trivial),fun j hj=> ?_⟩,trivial⟩,W5.ext_lt hlt⟩
  exact q7 (m:=1) (fun _=>rfl) rfl x.val rfl j
 ·have hx:x.val=L.length:=by have:=x.2;have:=Y2 hc;omega
  rw[hx];exact⟨⟨⟨rfl,rfl⟩,trivial⟩,⟨rfl,fun i hi=>a0w (n:=L.length) i (by omega)⟩,trivial⟩
def b9p:Con:=.rmk ⟨List Pend,fun L=>[M0 L],fun _=>[],fun L=>.osl 0 0 L.length,fun L=>[J4 L],fun L=>L.length<=1048576⟩
noncomputable def c1a:Code:=Tryz.f146.body.getD .skip
theorem a7S:Z8 Tryz.prog 146:=⟨_,Tryz.func146,by kernel_rfl,by kernel_rfl⟩
theorem c2C(L:List Pend)(h:
  (Nn (L.length:Int)/\LeI (L.length:Int) (L.length:Int)/\J8 24 (L.length:Int).toNat 140737488355328/\Lt (L.length:Int).toNat 9223372036854775808)/\(∃(x:{i:Nat//i<=L.length}),((Y3 Z3 L L)/\(0=0/\
  (L.length:Int).toNat=L.length)/\(0:Int)=(x.val:Int)/\True)/\((L.length:Int).toNat=L.length/\Z7 (L.length:Int).toNat (fun(x:Nat)=>[T.int .i64 (0:Int),T.str []]) (u5 (Z3 L) [T.int .i64 (0:Int),T.str
  []] x.val))/\True)/\∀(x:{i:Nat//i<=L.length}),(decide ((x.val:Int)<(L.length:Int))=true->W7 (x.val:Int) L.length/\∃(x_1:b2R.ι),((((L.getD (x.val:Int).toNat default).at_=x_1.at_/\(L.getD
  (x.val:Int).toNat default).d=x_1.d/\True)/\True)/\SmP x_1)/\W7 (x.val:Int) L.length/\Lt (0+(x.val:Int).toNat) L.length/\X6 .i64 ((x.val:Int)+(1:Int))/\∃(y:{i:Nat//i<=L.length}),(((Y3 Z3 L L)/\(0
  =0/\L.length=L.length)/\(x.val:Int)+(1:Int)=(y.val:Int)/\True)/\(L.length=L.length/\Z7 L.length (setRow (u5 (Z3 L) [T.int .i64 (0:Int),T.str []] x.val) (0+(x.val:Int).toNat) 0 [T.int .i64 x_1.at_,
  T.str x_1.d]) (u5 (Z3 L) [T.int .i64 (0:Int),T.str []] y.val))/\True)/\Lt (L.length-y.val) (L.length-x.val))/\(decide ((x.val:Int)<(L.length:Int))=false->((0=0/\L.length=L.length)/\True)/\(L.length=
  L.length/\Z7 L.length (u5 (Z3 L) [T.int .i64 (0:Int),T.str []] x.val) (Z3 L))/\True)):
  V7 Tryz.prog 146 [M0 L] [] (.osl 0 0 L.length) [J4 L]:=
 C4 (code:=c1a) (gC c1V a9M gN) Tryz.func146 (by kernel_rfl) (by kernel_rfl) (b9Z L) [[.arr 0]] h (by kernel_rfl)
theorem b38:Z2 Tryz.prog 146 b9p:=by
 intro(L:List Pend) (hL:L.length<=1048576);refine⟨c2C L ⟨⟨by unfold Nn;omega,by unfold LeI;omega,by unfold J8;omega,by unfold Lt;omega⟩,⟨⟨0,Nat.zero_le _⟩,⟨⟨(by trivial),Z9 _ _⟩,⟨(by trivial),by omega⟩,rfl,trivial⟩,⟨by omega,i7⟩,trivial⟩,fun x=>⟨fun hc=> ?_,fun hc=> ?_⟩⟩,rfl,a1S L⟩
 ·have hlt:=Y6 hc;refine⟨Y8 hlt,L.getD x.val default,⟨⟨⟨rfl,rfl,trivial⟩,trivial⟩,trivial⟩,Y8 hlt,by unfold Lt;omega,W8 hlt (by omega),⟨x.val+1,hlt⟩,⟨⟨⟨(by trivial),Z9 _ _⟩,⟨(by trivial),(by trivial)⟩,by simp only;omega,trivial⟩,⟨(by trivial),fun j hj=> ?_⟩,trivial⟩,W5.ext_lt hlt⟩
  exact q7 (m:=2) (fun _=>rfl) rfl x.val rfl j
 ·have hx:x.val=L.length:=by have:=x.2;have:=Y2 hc;omega
  rw[hx];exact⟨⟨⟨rfl,rfl⟩,trivial⟩,⟨rfl,fun i hi=>a0w (n:=L.length) i (by omega)⟩,trivial⟩
def c5I:Con:=.rmk ⟨List Rec,fun L=>[G3 L],fun _=>[],fun L=>.osl 0 0 L.length,fun L=>[A1 L],fun L=>L.length<=1048576⟩
noncomputable def c5n:Code:=Tryz.f82.body.getD .skip
theorem b2b:Z8 Tryz.prog 82:=⟨_,Tryz.func82,by kernel_rfl,by kernel_rfl⟩
theorem c6O(L:List Rec)(h:
  (Nn (L.length:Int)/\LeI (L.length:Int) (L.length:Int)/\J8 96 (L.length:Int).toNat 140737488355328/\Lt (L.length:Int).toNat 9223372036854775808)/\(∃(x:{i:Nat//i<=L.length}),((Y3 Y4 L L)/\(0=0/\
  (L.length:Int).toNat=L.length)/\(0:Int)=(x.val:Int)/\True)/\((L.length:Int).toNat=L.length/\Z7 (L.length:Int).toNat (fun(x:Nat)=>[T.int .i64 (0:Int),T.int .i64 (0:Int),T.int .i64 (0:Int),T.int .i64 (0
  :Int),T.int .i64 (0:Int),T.int .i64 (0:Int),T.int .i64 (0:Int),T.int .i64 (0:Int),T.str [],T.str []]) fun(j:Nat)=>[T.int .i64 (N5 default R4 L x.val j).e,T.int .i64 (N5 default R4 L x.val j).l,T.int
  .i64 (N5 default R4 L x.val j).t,T.int .i64 (N5 default R4 L x.val j).k,T.int .i64 (N5 default R4 L x.val j).p,T.int .i64 (N5 default R4 L x.val j).n,T.int .i64 (N5 default R4 L x.val j).g,T.int .i64
  (N5 default R4 L x.val j).s,T.str (N5 default R4 L x.val j).b,T.str (N5 default R4 L x.val j).a])/\True)/\∀(x:{i:Nat//i<=L.length}),(decide ((x.val:Int)<(L.length:Int))=true->W7 (x.val:Int)
  L.length/\∃(x_1:b7v.ι),(((EqR (L.getD (x.val:Int).toNat default) x_1)/\True)/\True)/\W7 (x.val:Int) L.length/\Lt (0+(x.val:Int).toNat) L.length/\X6 .i64 ((x.val:Int)+(1:Int))/\∃(y:{i:Nat//i<=
  L.length}),(((Y3 Y4 L L)/\(0=0/\L.length=L.length)/\(x.val:Int)+(1:Int)=(y.val:Int)/\True)/\(L.length=L.length/\Z7 L.length (setRow (fun(j:Nat)=>[T.int .i64 (N5 default R4 L x.val j).e,T.int
  .i64 (N5 default R4 L x.val j).l,T.int .i64 (N5 default R4 L x.val j).t,T.int .i64 (N5 default R4 L x.val j).k,T.int .i64 (N5 default R4 L x.val j).p,T.int .i64 (N5 default R4 L x.val j).n,T.int .i64
  (N5 default R4 L x.val j).g,T.int .i64 (N5 default R4 L x.val j).s,T.str (N5 default R4 L x.val j).b,T.str (N5 default R4 L x.val j).a]) (0+(x.val:Int).toNat) 0 [T.int .i64 x_1.e,T.int .i64 x_1.l,T.int
  .i64 x_1.t,T.int .i64 x_1.k,T.int .i64 x_1.p,T.int .i64 x_1.n,T.int .i64 x_1.g,T.int .i64 x_1.s,T.str x_1.b,T.str x_1.a]) fun(j:Nat)=>[T.int .i64 (N5 default R4 L y.val j).e,T.int .i64 (N5 default R4 L y.val
  j).l,T.int .i64 (N5 default R4 L y.val j).t,T.int .i64 (N5 default R4 L y.val j).k,T.int .i64 (N5 default R4 L y.val j).p,T.int .i64 (N5 default R4 L y.val j).n,T.int .i64 (N5 default R4 L y.val j).g,
  T.int .i64 (N5 default R4 L y.val j).s,T.str (N5 default R4 L y.val j).b,T.str (N5 default R4 L y.val j).a])/\True)/\Lt (L.length-y.val) (L.length-x.val))/\(decide ((x.val:Int)<(L.length:Int))=false->
  ((0=0/\L.length=L.length)/\True)/\(L.length=L.length/\Z7 L.length (fun(j:Nat)=>[T.int .i64 (N5 default R4 L x.val j).e,T.int .i64 (N5 default R4 L x.val j).l,T.int .i64 (N5 default R4 L x.val
  j).t,T.int .i64 (N5 default R4 L x.val j).k,T.int .i64 (N5 default R4 L x.val j).p,T.int .i64 (N5 default R4 L x.val j).n,T.int .i64 (N5 default R4 L x.val j).g,T.int .i64 (N5 default R4 L x.val j).s,
  T.str (N5 default R4 L x.val j).b,T.str (N5 default R4 L x.val j).a]) (Y4 L))/\True)):
  V7 Tryz.prog 82 [G3 L] [] (.osl 0 0 L.length) [A1 L]:=
 C4 (code:=c5n) (gC c5G b6R gN) Tryz.func82 (by kernel_rfl) (by kernel_rfl) (c3Z L) [[.arr 0]] h (by kernel_rfl)
theorem b8W:Z2 Tryz.prog 82 c5I:=by
 intro(L:List Rec) (hL:L.length<=1048576);refine⟨c6O L ⟨⟨by unfold Nn;omega,by unfold LeI;omega,by unfold J8;omega,by unfold Lt;omega⟩,⟨⟨0,Nat.zero_le _⟩,⟨⟨(by trivial),Z9 _ _⟩,⟨(by trivial),by omega⟩,rfl,trivial⟩,⟨by omega,fun j hj=>rfl⟩,trivial⟩,fun x=>⟨fun hc=> ?_,fun hc=> ?_⟩⟩,rfl,a1f L⟩
 ·have hlt:=Y6 hc;refine⟨Y8 hlt,L.getD x.val default,⟨⟨⟨rfl,rfl,rfl,rfl,rfl,rfl,rfl,rfl,rfl,rfl,trivial⟩,trivial⟩,trivial⟩,Y8 hlt,by unfold Lt;omega,W8 hlt (by omega),⟨x.val+1,hlt⟩,⟨⟨⟨(by trivial),Z9 _ _⟩,⟨(by trivial),(by trivial)⟩,by simp only;omega,trivial⟩,⟨(by trivial),fun j hj=> ?_⟩,trivial⟩,W5.ext_lt hlt⟩
  exact c9T Rec.ts 10 (fun _=>rfl) default R4 L x.val j
 ·have hx:x.val=L.length:=by have:=x.2;have:=Y2 hc;omega
  refine⟨⟨⟨rfl,rfl⟩,trivial⟩,⟨rfl,fun j hj=> ?_⟩,trivial⟩
  have:N5 default R4 L x.val j=L.getD j default:=by unfold N5;rw[if_pos (by omega)]
  exact congrArg Rec.ts this
def d0n:Con:=.rmk ⟨Dsk,fun d=>[.agg d.ts],fun _=>[],fun d=>.agg (d.tm 0),fun d=>d.hp,SmD⟩
noncomputable def d1L:Code:=Tryz.f81.body.getD .skip
theorem b4Y:Z8 Tryz.prog 81:=⟨_,Tryz.func81,by kernel_rfl,by kernel_rfl⟩
theorem d10(d:Dsk)(h:
  ∃(x:(List (List UInt8))),(((d.sec.length=List.length x/\Z7 d.sec.length (Z6 d.sec) (Z6 x))/\True)/\List.length x<=1048576)/\∃(x_1:(List Pend)),(((d.cache.length=List.length x_1/\Z7 d.cache.length
  (Z3 d.cache) (Z3 x_1))/\True)/\List.length x_1<=1048576)/\∃(x_2:(List Int)),(((d.keep.length=List.length x_2/\Z7 d.keep.length (Y7 d.keep) (Y7 x_2))/\True)/\List.length x_2<=1048576)/\(((0=0
  /\List.length x=d.sec.length)/\(0=0/\List.length x_1=d.cache.length)/\d.armed=d.armed/\(0=0/\List.length x_2=d.keep.length)/\True)/\True)/\(List.length x=d.sec.length/\Z7 (List.length x) (Z6 x)
  (Z6 d.sec))/\(List.length x_1=d.cache.length/\Z7 (List.length x_1) (Z3 x_1) (Z3 d.cache))/\(List.length x_2=d.keep.length/\Z7 (List.length x_2) (Y7 x_2) (Y7 d.keep))/\True):
  V7 Tryz.prog 81 [.agg d.ts] [] (.agg (d.tm 0)) d.hp:=
 C4 (code:=d1L) (gC a67 a3q (gC b38 a7S (gC b98 b0b gN))) Tryz.func81 (by kernel_rfl) (by kernel_rfl) Z0 [[.arr 3,.arr 4,.arr 5]] h (by kernel_rfl)
theorem c6N:Z2 Tryz.prog 81 d0n:=by
 rintro(d:Dsk) ⟨h1,h2,h3⟩;exact⟨d10 d ⟨d.sec,⟨⟨⟨rfl,Z9 _ _⟩,trivial⟩,h1⟩,d.cache,⟨⟨⟨rfl,Z9 _ _⟩,trivial⟩,h2⟩,d.keep,⟨⟨⟨rfl,Z9 _ _⟩,trivial⟩,h3⟩,⟨⟨⟨rfl,rfl⟩,⟨rfl,rfl⟩,rfl,⟨rfl,rfl⟩,trivial⟩,trivial⟩,⟨rfl,Z9 _ _⟩,⟨rfl,Z9 _ _⟩,⟨rfl,Z9 _ _⟩,trivial⟩,rfl,a1e d⟩
def d4e:Con:=.rmk ⟨Pg,fun p=>[.agg p.ts],fun _=>[],fun p=>.agg (p.tm 0),fun p=>[I6 p.sl],SmG⟩
noncomputable def d5I:Code:=Tryz.f205.body.getD .skip
theorem c0e:Z8 Tryz.prog 205:=⟨_,Tryz.func205,by kernel_rfl,by kernel_rfl⟩
theorem d3S(p:Pg)(h:
  ∃(x:(List (List UInt8))),(((p.sl.length=List.length x/\Z7 p.sl.length (Z6 p.sl) (Z6 x))/\True)/\List.length x<=1048576)/\((p.lsn=p.lsn/\(0=0/\List.length x=p.sl.length)/\True)/\True)/\(List.length
  x=p.sl.length/\Z7 (List.length x) (Z6 x) (Z6 p.sl))/\True):
  V7 Tryz.prog 205 [.agg p.ts] [] (.agg (p.tm 0)) [I6 p.sl]:=
 C4 (code:=d5I) (gC a67 a3q gN) Tryz.func205 (by kernel_rfl) (by kernel_rfl) Z0 [[.arr 3]] h (by kernel_rfl)
theorem d0T:Z2 Tryz.prog 205 d4e:=by
 intro(p:Pg) h1;exact⟨d3S p ⟨p.sl,⟨⟨⟨rfl,Z9 _ _⟩,trivial⟩,h1⟩,⟨⟨rfl,⟨rfl,rfl⟩,trivial⟩,trivial⟩,⟨rfl,Z9 _ _⟩,trivial⟩,rfl,B5 p.sl⟩
def Frm.tm(f:Frm)(b:Nat):List T:=[.int .i64 f.no,.int .i64 f.pg.lsn,.osl b 0 f.pg.sl.length,.bool f.dirty,.int .i64 f.first]
def d2Y:Con:=.rmk ⟨Frm,fun f=>[.agg f.ts],fun _=>[],fun f=>.agg (f.tm 0),fun f=>[I6 f.pg.sl],SmF⟩
noncomputable def c9y:Code:=Tryz.f148.body.getD .skip
theorem b6r:Z8 Tryz.prog 148:=⟨_,Tryz.func148,by kernel_rfl,by kernel_rfl⟩
theorem d2I(f:Frm)(h:
  ∃(x:Pg),(((f.pg.lsn=x.lsn/\(Y3 Z6 f.pg.sl x.sl)/\True)/\True)/\SmG x)/\((f.no=f.no/\x.lsn=f.pg.lsn/\(0=0/\x.sl.length=f.pg.sl.length)/\f.dirty=f.dirty/\f.first=f.first/\True)/\True)/\(Y3 Z6
  x.sl f.pg.sl)/\True):
  V7 Tryz.prog 148 [.agg f.ts] [] (.agg (f.tm 0)) [I6 f.pg.sl]:=
 C4 (code:=c9y) (gC d0T c0e gN) Tryz.func148 (by kernel_rfl) (by kernel_rfl) Z0 [[.arr 3]] h (by kernel_rfl)
theorem c5E:Z2 Tryz.prog 148 d2Y:=by
 intro(f:Frm) h1;exact⟨d2I f ⟨f.pg,⟨⟨⟨rfl,⟨rfl,Z9 _ _⟩,trivial⟩,trivial⟩,h1⟩,⟨⟨rfl,rfl,⟨rfl,rfl⟩,rfl,rfl,trivial⟩,trivial⟩,⟨rfl,Z9 _ _⟩,trivial⟩,rfl,B5 f.pg.sl⟩
def d7j:List T:=[.int .i64 0,.int .i64 0,.v (.slice none 0 0),.bool false,.int .i64 0]
def c4t:Con:=.rmk ⟨List Frm,fun L=>[y9 L],fun _=>[],fun L=>.osl 0 0 L.length,fun L=>[c8 L.length L L.length],fun L=>L.length<=1048576/\∀i,i<L.length->SmF (L.getD i default)⟩
def c39(L:List Frm):Nat->Ann
 |0=>.one {i:Nat//i<=L.length} (fun x=>⟨[(0,y9 L),(3,.osl 0 0 L.length),(4,.int .i64 x.1)],[some (.fam x.1 0 5 L.length (u5 (Y0 L) d7j x.1))]⟩) (fun x=>L.length-x.1) [.fam 0,.arr 0] [.arr 0] (fun _=>Z0)
 |_=>.none
noncomputable def c8O:Code:=Tryz.f83.body.getD .skip
theorem a97:Z8 Tryz.prog 83:=⟨_,Tryz.func83,by kernel_rfl,by kernel_rfl⟩
theorem c3O(L:List Frm)(h:
  (Nn (L.length:Int)/\LeI (L.length:Int) (L.length:Int)/\J8 56 (L.length:Int).toNat 140737488355328/\Lt (L.length:Int).toNat 9223372036854775808)/\(∃(x:{i:Nat//i<=L.length}),((Y3 V3 L L)/\(0=0/\
  (L.length:Int).toNat=L.length)/\(0:Int)=(x.val:Int)/\True)/\(0=x.val/\(L.length:Int).toNat=L.length/\T9 (L.length:Int).toNat (fun(x:Nat)=>[T.int .i64 (0:Int),T.int .i64 (0:Int),T.v (Value.slice none 0
  0),T.bool false,T.int .i64 (0:Int)]) (u5 (Y0 L) [T.int .i64 (0:Int),T.int .i64 (0:Int),T.v (Value.slice none 0 0),T.bool false,T.int .i64 (0:Int)] x.val))/\True)/\∀(x:{i:Nat//i<=L.length}),(decide
  ((x.val:Int)<(L.length:Int))=true->W7 (x.val:Int) L.length/\∃(x_1:Frm),((((L.getD (x.val:Int).toNat default).no=x_1.no/\(L.getD (x.val:Int).toNat default).pg.lsn=x_1.pg.lsn/\(Y3 Z6 (L.getD (x.val:Int).toNat
  default).pg.sl x_1.pg.sl)/\(L.getD (x.val:Int).toNat default).dirty=x_1.dirty/\(L.getD (x.val:Int).toNat default).first=x_1.first/\True)/\True)/\SmF x_1)/\W7 (x.val:Int) L.length/\(0+(x.val:Int).toNat<L.length/\Le
  x_1.pg.sl.length x_1.pg.sl.length)/\X6 .i64 ((x.val:Int)+(1:Int))/\∃(y:{i:Nat//i<=L.length}),(((Y3 V3 L L)/\(0=0/\L.length=L.length)/\(x.val:Int)+(1:Int)=(y.val:Int)/\True)/\(x.val+1=y.val
  /\L.length=L.length/\T9 L.length (setRow (u5 (Y0 L) [T.int .i64 (0:Int),T.int .i64 (0:Int),T.v (Value.slice none 0 0),T.bool false,T.int .i64 (0:Int)] x.val) (0+(x.val:Int).toNat) 0 [T.int .i64 x_1.no,T.int
  .i64 x_1.pg.lsn,T.own 0 1 x_1.pg.sl.length (Z6 x_1.pg.sl),T.bool x_1.dirty,T.int .i64 x_1.first]) (u5 (Y0 L) [T.int .i64 (0:Int),T.int .i64 (0:Int),T.v (Value.slice none 0 0),T.bool false,T.int .i64 (0:Int)]
  y.val))/\True)/\Lt (L.length-y.val) (L.length-x.val))/\(decide ((x.val:Int)<(L.length:Int))=false->((0=0/\L.length=L.length)/\True)/\(x.val=L.length/\L.length=L.length/\T9 L.length (u5 (Y0 L)
  [T.int .i64 (0:Int),T.int .i64 (0:Int),T.v (Value.slice none 0 0),T.bool false,T.int .i64 (0:Int)] x.val) (Y0 L))/\True)):
  V7 Tryz.prog 83 [y9 L] [] (.osl 0 0 L.length) [c8 L.length L L.length]:=
 C4 (code:=c8O) (gC c5E b6r gN) Tryz.func83 (by kernel_rfl) (by kernel_rfl) (c39 L) [[.arr 0]] h (by kernel_rfl)
theorem c3n:Z2 Tryz.prog 83 c4t:=by
 rintro(L:List Frm) ⟨hL,hb⟩;refine⟨c3O L ⟨⟨by unfold Nn;omega,by unfold LeI;omega,by unfold J8;omega,by unfold Lt;omega⟩,⟨⟨0,Nat.zero_le _⟩,⟨⟨rfl,Z9 _ _⟩,⟨rfl,by omega⟩,rfl,trivial⟩,⟨rfl,by omega,a2L fun i _=>rfl⟩,trivial⟩,fun x=>⟨fun hc=> ?_,fun hc=> ?_⟩⟩,rfl,a6t _ _ _⟩
 ·have hlt:=Y6 hc;exact⟨Y8 hlt,L.getD x.val default,⟨⟨⟨rfl,rfl,⟨rfl,Z9 _ _⟩,rfl,rfl,trivial⟩,trivial⟩,hb _ hlt⟩,Y8 hlt,⟨by omega,Nat.le_refl _⟩,W8 hlt (by omega),⟨x.val+1,hlt⟩,⟨⟨⟨rfl,Z9 _ _⟩,⟨rfl,rfl⟩,by dsimp only;omega,trivial⟩,⟨rfl,rfl,a2L fun j _=>q7 (m:=5) (fun _=>rfl) rfl x.val rfl j⟩,trivial⟩,W5.ext_lt hlt⟩
 ·have hx:x.val=L.length:=by have:=x.2;have:=Y2 hc;omega
  rw[hx];exact⟨⟨⟨rfl,rfl⟩,trivial⟩,⟨rfl,rfl,a2L fun i hi=>a0w (n:=L.length) i hi⟩,trivial⟩
def d2U:Con:=.rmk ⟨Sto,fun s=>[.agg s.ts],fun _=>[],fun s=>.agg (s.tm 0),fun s=>s.hp s.fr.length,SmS⟩
noncomputable def d2J:Code:=Tryz.f38.body.getD .skip
theorem b4N:Z8 Tryz.prog 38:=⟨_,Tryz.func38,by kernel_rfl,by kernel_rfl⟩
theorem c98(s:Sto)(h:
  ∃(x:Dsk),(((EqD s.d x)/\True)/\SmD x)/\∃(x_1:(List Rec)),(((s.log.length=List.length x_1/\Z7 s.log.length (Y4 s.log) (Y4 x_1))/\True)/\List.length x_1<=1048576)/\∃(x_2:(List Frm)),(((s.fr.length=
  List.length x_2/\Z7 s.fr.length (V3 s.fr) (V3 x_2))/\True)/\List.length x_2<=1048576/\∀(i:Nat),i<List.length x_2->SmF (List.getD x_2 i default))/\(((0=0/\x.sec.length=s.d.sec.length)/\(0=0/\
  x.cache.length=s.d.cache.length)/\x.armed=s.d.armed/\(0=0/\x.keep.length=s.d.keep.length)/\s.ep=s.ep/\(0=0/\List.length x_1=s.log.length)/\s.sure=s.sure/\(0=0/\List.length x_2=s.fr.length)/\s.hand=
  s.hand/\True)/\True)/\(Y3 Z6 x.sec s.d.sec)/\(Y3 Z3 x.cache s.d.cache)/\(Y3 Y7 x.keep s.d.keep)/\(List.length x_1=s.log.length/\Z7 (List.length x_1) (Y4 x_1) (Y4 s.log))/\(List.length x_2=
  s.fr.length/\List.length x_2=s.fr.length/\T9 (List.length x_2) (Y0 x_2) (Y0 s.fr))/\True):
  V7 Tryz.prog 38 [.agg s.ts] [] (.agg (s.tm 0)) (s.hp s.fr.length):=
 C4 (code:=d2J) (gC c6N b4Y (gC b8W b2b (gC c3n a97 gN))) Tryz.func38 (by kernel_rfl) (by kernel_rfl) Z0 [[.arr 3,.arr 4,.arr 5,.arr 6,.arr 7]] h (by kernel_rfl)
theorem c8P:Z2 Tryz.prog 38 d2U:=by
 rintro(s:Sto) ⟨h1,h2,h3,h4⟩;exact⟨c98 s ⟨s.d,⟨⟨eqD _,trivial⟩,h1⟩,s.log,⟨⟨⟨rfl,Z9 _ _⟩,trivial⟩,h2⟩,s.fr,⟨⟨⟨rfl,Z9 _ _⟩,trivial⟩,h3,h4⟩,⟨⟨⟨rfl,rfl⟩,⟨rfl,rfl⟩,rfl,⟨rfl,rfl⟩,rfl,⟨rfl,rfl⟩,rfl,⟨rfl,rfl⟩,rfl,trivial⟩,trivial⟩,⟨rfl,Z9 _ _⟩,⟨rfl,Z9 _ _⟩,⟨rfl,Z9 _ _⟩,⟨rfl,Z9 _ _⟩,⟨rfl,rfl,U4 _⟩,trivial⟩,rfl,a1h s _⟩
end Go.Proofs.YtokaojbaacnngaaGreat

