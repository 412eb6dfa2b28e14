/- A part of the proof. -/
import Derived.Test.YtokaojbaacnngaaGreatX1X2X3
namespace Go.Proofs.YtokaojbaacnngaaGreat
set_option maxRecDepth 100000
open Go.SS

def b5S:Con:=.rmk ⟨List (List UInt8),fun L=>[L3 L],fun _=>[],fun L=>.osl 0 0 L.length,fun L=>[G8 L],fun L=>L.length<=1048576⟩
noncomputable def b8a:Code:=Tryz.f145.body.getD .skip
theorem qD:Z7 Tryz.prog 145:=⟨_,Tryz.func145,by kernel_rfl,by kernel_rfl⟩
theorem b8l(L:List (List UInt8))(h:
  (Nn (L.length:Int)/\kF (L.length:Int) (L.length:Int)/\I4 16 (L.length:Int).toNat 140737488355328/\Lt (L.length:Int).toNat 9223372036854775808)/\(∃(x:{i:Nat//i<=L.length}),((Y4 Z6 L L)/\(0=0/\
  (L.length:Int).toNat=L.length)/\(0:Int)=(x.val:Int)/\True)/\((L.length:Int).toNat=L.length/\Z8 (L.length:Int).toNat (fun(x:Nat)=>[T.str []]) (o7 (Z6 L) [T.str []] x.val))/\True)/\∀(x:{i:Nat//i<=
  L.length}),(decide ((x.val:Int)<(L.length:Int))=true->X0 (x.val:Int) L.length/\X0 (x.val:Int) L.length/\Lt (0+(x.val:Int).toNat) L.length/\X8 .i64 ((x.val:Int)+(1:Int))/\∃(y:{i:Nat//i<=L.length}),
  (((Y4 Z6 L L)/\(0=0/\L.length=L.length)/\(x.val:Int)+(1:Int)=(y.val:Int)/\True)/\(L.length=L.length/\Z8 L.length (setRow (o7 (Z6 L) [T.str []] x.val) (0+(x.val:Int).toNat) 0 [T.str (L.getD
  (x.val:Int).toNat [])]) (o7 (Z6 L) [T.str []] y.val))/\True)/\Lt (L.length-y.val) (L.length-x.val))/\(decide ((x.val:Int)<(L.length:Int))=false->((0=0/\L.length=L.length)/\True)/\(L.length=L.length/\
  Z8 L.length (o7 (Z6 L) [T.str []] x.val) (Z6 L))/\True)):
  V3 Tryz.prog 145 [L3 L] [] (.osl 0 0 L.length) [G8 L]:=
 v5 (code:=b8a) gN Tryz.func145 (by kernel_rfl) (by kernel_rfl) (b8T L) [[.arr 0]] h (by kernel_rfl)
theorem fM:Z1 Tryz.prog 145 b5S:=by
 intro(L:List (List UInt8)) (hL:L.length<=1048576);refine⟨b8l L ⟨⟨by unfold Nn;omega,by unfold kF;omega,by unfold I4;omega,by unfold Lt;omega⟩,⟨⟨0,T0 _⟩,⟨⟨(by trivial),Z9 _ _⟩,⟨(by trivial),by omega⟩,rfl,trivial⟩,⟨by omega,yX⟩,trivial⟩,fun x=>⟨fun hc=> ?_,fun hc=> ?_⟩⟩,rfl,A3 L⟩
 ·have hlt:=Y9 hc;refine⟨Y7 hlt,Y7 hlt,by unfold Lt;omega,W4 hlt (by omega),⟨x.val+1,hlt⟩,⟨⟨⟨(by trivial),Z9 _ _⟩,⟨(by trivial),(by trivial)⟩,by simp only;omega,trivial⟩,⟨(by trivial),fun j hj=> ?_⟩,trivial⟩,V9.ext_lt hlt⟩
  exact l6 (m:=1) (fun _=>rfl) rfl x.val rfl j
 ·have hx:x.val=L.length:=by have:=x.2;have:=Y3 hc;omega
  rw[hx];exact⟨⟨⟨rfl,rfl⟩,trivial⟩,⟨rfl,fun i hi=>xT (n:=L.length) i (by omega)⟩,trivial⟩
def b9N:Con:=.rmk ⟨List Int,fun L=>[r7 L],fun _=>[],fun L=>.osl 0 0 L.length,fun L=>[B2 L],fun L=>L.length<=1048576⟩
noncomputable def b7a:Code:=Tryz.f13.body.getD .skip
theorem a2v:Z7 Tryz.prog 13:=⟨_,Tryz.func13,by kernel_rfl,by kernel_rfl⟩
theorem b5J(L:List Int)(h:
  (Nn (L.length:Int)/\kF (L.length:Int) (L.length:Int)/\I4 8 (L.length:Int).toNat 140737488355328/\Lt (L.length:Int).toNat 9223372036854775808)/\(∃(x:{i:Nat//i<=L.length}),((Y4 Y8 L L)/\(0=0/\
  (L.length:Int).toNat=L.length)/\(0:Int)=(x.val:Int)/\True)/\((L.length:Int).toNat=L.length/\Z8 (L.length:Int).toNat (fun(x:Nat)=>[T.int .i64 (0:Int)]) (o7 (Y8 L) [T.int .i64 (0:Int)] x.val))/\True)/\
  ∀(x:{i:Nat//i<=L.length}),(decide ((x.val:Int)<(L.length:Int))=true->X0 (x.val:Int) L.length/\X0 (x.val:Int) L.length/\Lt (0+(x.val:Int).toNat) L.length/\X8 .i64 ((x.val:Int)+(1:Int))/\∃(y:{i:Nat
  //i<=L.length}),(((Y4 Y8 L L)/\(0=0/\L.length=L.length)/\(x.val:Int)+(1:Int)=(y.val:Int)/\True)/\(L.length=L.length/\Z8 L.length (setRow (o7 (Y8 L) [T.int .i64 (0:Int)] x.val) (0+
  (x.val:Int).toNat) 0 [T.int .i64 (L.getD (x.val:Int).toNat (0:Int))]) (o7 (Y8 L) [T.int .i64 (0:Int)] y.val))/\True)/\Lt (L.length-y.val) (L.length-x.val))/\(decide ((x.val:Int)<(L.length:Int))=false->((0=0
  /\L.length=L.length)/\True)/\(L.length=L.length/\Z8 L.length (o7 (Y8 L) [T.int .i64 (0:Int)] x.val) (Y8 L))/\True)):
  V3 Tryz.prog 13 [r7 L] [] (.osl 0 0 L.length) [B2 L]:=
 v5 (code:=b7a) gN Tryz.func13 (by kernel_rfl) (by kernel_rfl) (b50 L) [[.arr 0]] h (by kernel_rfl)
theorem b2p:Z1 Tryz.prog 13 b9N:=by
 intro(L:List Int) (hL:L.length<=1048576);refine⟨b5J L ⟨⟨by unfold Nn;omega,by unfold kF;omega,by unfold I4;omega,by unfold Lt;omega⟩,⟨⟨0,T0 _⟩,⟨⟨(by trivial),Z9 _ _⟩,⟨(by trivial),by omega⟩,rfl,trivial⟩,⟨by omega,yX⟩,trivial⟩,fun x=>⟨fun hc=> ?_,fun hc=> ?_⟩⟩,rfl,rH L⟩
 ·have hlt:=Y9 hc;refine⟨Y7 hlt,Y7 hlt,by unfold Lt;omega,W4 hlt (by omega),⟨x.val+1,hlt⟩,⟨⟨⟨(by trivial),Z9 _ _⟩,⟨(by trivial),(by trivial)⟩,by simp only;omega,trivial⟩,⟨(by trivial),fun j hj=> ?_⟩,trivial⟩,V9.ext_lt hlt⟩
  exact l6 (m:=1) (fun _=>rfl) rfl x.val rfl j
 ·have hx:x.val=L.length:=by have:=x.2;have:=Y3 hc;omega
  rw[hx];exact⟨⟨⟨rfl,rfl⟩,trivial⟩,⟨rfl,fun i hi=>xT (n:=L.length) i (by omega)⟩,trivial⟩
def b0K:Con:=.rmk ⟨List Pend,fun L=>[M4 L],fun _=>[],fun L=>.osl 0 0 L.length,fun L=>[I8 L],fun L=>L.length<=1048576⟩
noncomputable def b2R:Code:=Tryz.f146.body.getD .skip
theorem cT:Z7 Tryz.prog 146:=⟨_,Tryz.func146,by kernel_rfl,by kernel_rfl⟩
theorem b26(L:List Pend)(h:
  (Nn (L.length:Int)/\kF (L.length:Int) (L.length:Int)/\I4 24 (L.length:Int).toNat 140737488355328/\Lt (L.length:Int).toNat 9223372036854775808)/\(∃(x:{i:Nat//i<=L.length}),((Y4 Z3 L L)/\(0=0/\
  (L.length:Int).toNat=L.length)/\(0:Int)=(x.val:Int)/\True)/\((L.length:Int).toNat=L.length/\Z8 (L.length:Int).toNat (fun(x:Nat)=>[T.int .i64 (0:Int),T.str []]) (o7 (Z3 L) [T.int .i64 (0:Int),T.str
  []] x.val))/\True)/\∀(x:{i:Nat//i<=L.length}),(decide ((x.val:Int)<(L.length:Int))=true->X0 (x.val:Int) L.length/\∃(x_1:a1u.ι),((((L.getD (x.val:Int).toNat default).at_=x_1.at_/\(L.getD
  (x.val:Int).toNat default).d=x_1.d/\True)/\True)/\SmP x_1)/\X0 (x.val:Int) L.length/\Lt (0+(x.val:Int).toNat) L.length/\X8 .i64 ((x.val:Int)+(1:Int))/\∃(y:{i:Nat//i<=L.length}),(((Y4 Z3 L L)/\(0
  =0/\L.length=L.length)/\(x.val:Int)+(1:Int)=(y.val:Int)/\True)/\(L.length=L.length/\Z8 L.length (setRow (o7 (Z3 L) [T.int .i64 (0:Int),T.str []] x.val) (0+(x.val:Int).toNat) 0 [T.int .i64 x_1.at_,
  T.str x_1.d]) (o7 (Z3 L) [T.int .i64 (0:Int),T.str []] y.val))/\True)/\Lt (L.length-y.val) (L.length-x.val))/\(decide ((x.val:Int)<(L.length:Int))=false->((0=0/\L.length=L.length)/\True)/\(L.length=
  L.length/\Z8 L.length (o7 (Z3 L) [T.int .i64 (0:Int),T.str []] x.val) (Z3 L))/\True)):
  V3 Tryz.prog 146 [M4 L] [] (.osl 0 0 L.length) [I8 L]:=
 v5 (code:=b2R) (gC b0J a00 gN) Tryz.func146 (by kernel_rfl) (by kernel_rfl) (b4y L) [[.arr 0]] h (by kernel_rfl)
theorem a6t:Z1 Tryz.prog 146 b0K:=by
 intro(L:List Pend) (hL:L.length<=1048576);refine⟨b26 L ⟨⟨by unfold Nn;omega,by unfold kF;omega,by unfold I4;omega,by unfold Lt;omega⟩,⟨⟨0,T0 _⟩,⟨⟨(by trivial),Z9 _ _⟩,⟨(by trivial),by omega⟩,rfl,trivial⟩,⟨by omega,yX⟩,trivial⟩,fun x=>⟨fun hc=> ?_,fun hc=> ?_⟩⟩,rfl,uC L⟩
 ·have hlt:=Y9 hc;refine⟨Y7 hlt,L.getD x.val default,⟨⟨⟨rfl,rfl,trivial⟩,trivial⟩,trivial⟩,Y7 hlt,by unfold Lt;omega,W4 hlt (by omega),⟨x.val+1,hlt⟩,⟨⟨⟨(by trivial),Z9 _ _⟩,⟨(by trivial),(by trivial)⟩,by simp only;omega,trivial⟩,⟨(by trivial),fun j hj=> ?_⟩,trivial⟩,V9.ext_lt hlt⟩
  exact l6 (m:=2) (fun _=>rfl) rfl x.val rfl j
 ·have hx:x.val=L.length:=by have:=x.2;have:=Y3 hc;omega
  rw[hx];exact⟨⟨⟨rfl,rfl⟩,trivial⟩,⟨rfl,fun i hi=>xT (n:=L.length) i (by omega)⟩,trivial⟩
def b6c:Con:=.rmk ⟨List Rec,fun L=>[F3 L],fun _=>[],fun L=>.osl 0 0 L.length,fun L=>[w9 L],fun L=>L.length<=1048576⟩
noncomputable def b54:Code:=Tryz.f82.body.getD .skip
theorem a3X:Z7 Tryz.prog 82:=⟨_,Tryz.func82,by kernel_rfl,by kernel_rfl⟩
theorem b67(L:List Rec)(h:
  (Nn (L.length:Int)/\kF (L.length:Int) (L.length:Int)/\I4 96 (L.length:Int).toNat 140737488355328/\Lt (L.length:Int).toNat 9223372036854775808)/\(∃(x:{i:Nat//i<=L.length}),((Y4 Y5 L L)/\(0=0/\
  (L.length:Int).toNat=L.length)/\(0:Int)=(x.val:Int)/\True)/\((L.length:Int).toNat=L.length/\Z8 (L.length:Int).toNat (fun(x:Nat)=>[T.int .i64 (0:Int),T.int .i64 (0:Int),T.int .i64 (0:Int),T.int .i64 (0
  :Int),T.int .i64 (0:Int),T.int .i64 (0:Int),T.int .i64 (0:Int),T.int .i64 (0:Int),T.str [],T.str []]) fun(j:Nat)=>[T.int .i64 (N6 default R4 L x.val j).e,T.int .i64 (N6 default R4 L x.val j).l,T.int
  .i64 (N6 default R4 L x.val j).t,T.int .i64 (N6 default R4 L x.val j).k,T.int .i64 (N6 default R4 L x.val j).p,T.int .i64 (N6 default R4 L x.val j).n,T.int .i64 (N6 default R4 L x.val j).g,T.int .i64
  (N6 default R4 L x.val j).s,T.str (N6 default R4 L x.val j).b,T.str (N6 default R4 L x.val j).a])/\True)/\∀(x:{i:Nat//i<=L.length}),(decide ((x.val:Int)<(L.length:Int))=true->X0 (x.val:Int)
  L.length/\∃(x_1:a9j.ι),(((EqR (L.getD (x.val:Int).toNat default) x_1)/\True)/\True)/\X0 (x.val:Int) L.length/\Lt (0+(x.val:Int).toNat) L.length/\X8 .i64 ((x.val:Int)+(1:Int))/\∃(y:{i:Nat//i<=
  L.length}),(((Y4 Y5 L L)/\(0=0/\L.length=L.length)/\(x.val:Int)+(1:Int)=(y.val:Int)/\True)/\(L.length=L.length/\Z8 L.length (setRow (fun(j:Nat)=>[T.int .i64 (N6 default R4 L x.val j).e,T.int
  .i64 (N6 default R4 L x.val j).l,T.int .i64 (N6 default R4 L x.val j).t,T.int .i64 (N6 default R4 L x.val j).k,T.int .i64 (N6 default R4 L x.val j).p,T.int .i64 (N6 default R4 L x.val j).n,T.int .i64
  (N6 default R4 L x.val j).g,T.int .i64 (N6 default R4 L x.val j).s,T.str (N6 default R4 L x.val j).b,T.str (N6 default R4 L x.val j).a]) (0+(x.val:Int).toNat) 0 [T.int .i64 x_1.e,T.int .i64 x_1.l,T.int
  .i64 x_1.t,T.int .i64 x_1.k,T.int .i64 x_1.p,T.int .i64 x_1.n,T.int .i64 x_1.g,T.int .i64 x_1.s,T.str x_1.b,T.str x_1.a]) fun(j:Nat)=>[T.int .i64 (N6 default R4 L y.val j).e,T.int .i64 (N6 default R4 L y.val
  j).l,T.int .i64 (N6 default R4 L y.val j).t,T.int .i64 (N6 default R4 L y.val j).k,T.int .i64 (N6 default R4 L y.val j).p,T.int .i64 (N6 default R4 L y.val j).n,T.int .i64 (N6 default R4 L y.val j).g,
  T.int .i64 (N6 default R4 L y.val j).s,T.str (N6 default R4 L y.val j).b,T.str (N6 default R4 L y.val j).a])/\True)/\Lt (L.length-y.val) (L.length-x.val))/\(decide ((x.val:Int)<(L.length:Int))=false->
  ((0=0/\L.length=L.length)/\True)/\(L.length=L.length/\Z8 L.length (fun(j:Nat)=>[T.int .i64 (N6 default R4 L x.val j).e,T.int .i64 (N6 default R4 L x.val j).l,T.int .i64 (N6 default R4 L x.val
  j).t,T.int .i64 (N6 default R4 L x.val j).k,T.int .i64 (N6 default R4 L x.val j).p,T.int .i64 (N6 default R4 L x.val j).n,T.int .i64 (N6 default R4 L x.val j).g,T.int .i64 (N6 default R4 L x.val j).s,
  T.str (N6 default R4 L x.val j).b,T.str (N6 default R4 L x.val j).a]) (Y5 L))/\True)):
  V3 Tryz.prog 82 [F3 L] [] (.osl 0 0 L.length) [w9 L]:=
 v5 (code:=b54) (gC b5Y a4J gN) Tryz.func82 (by kernel_rfl) (by kernel_rfl) (b6k L) [[.arr 0]] h (by kernel_rfl)
theorem b08:Z1 Tryz.prog 82 b6c:=by
 intro(L:List Rec) (hL:L.length<=1048576);refine⟨b67 L ⟨⟨by unfold Nn;omega,by unfold kF;omega,by unfold I4;omega,by unfold Lt;omega⟩,⟨⟨0,T0 _⟩,⟨⟨(by trivial),Z9 _ _⟩,⟨(by trivial),by omega⟩,rfl,trivial⟩,⟨by omega,fun j hj=>rfl⟩,trivial⟩,fun x=>⟨fun hc=> ?_,fun hc=> ?_⟩⟩,rfl,vW L⟩
 ·have hlt:=Y9 hc;refine⟨Y7 hlt,L.getD x.val default,⟨⟨⟨rfl,rfl,rfl,rfl,rfl,rfl,rfl,rfl,rfl,rfl,trivial⟩,trivial⟩,trivial⟩,Y7 hlt,by unfold Lt;omega,W4 hlt (by omega),⟨x.val+1,hlt⟩,⟨⟨⟨(by trivial),Z9 _ _⟩,⟨(by trivial),(by trivial)⟩,by simp only;omega,trivial⟩,⟨(by trivial),fun j hj=> ?_⟩,trivial⟩,V9.ext_lt hlt⟩
  exact c0Q Rec.ts 10 (fun _=>rfl) default R4 L x.val j
 ·have hx:x.val=L.length:=by have:=x.2;have:=Y3 hc;omega
  refine⟨⟨⟨rfl,rfl⟩,trivial⟩,⟨rfl,fun j hj=> ?_⟩,trivial⟩
  have:N6 default R4 L x.val j=L.getD j default:=by unfold N6;rw[if_pos (by omega)]
  exact congrArg Rec.ts this
def c4i:Con:=.rmk ⟨Dsk,fun d=>[.agg d.ts],fun _=>[],fun d=>.agg (d.tm 0),fun d=>d.hp,pD⟩
noncomputable def c3x:Code:=Tryz.f81.body.getD .skip
theorem a5A:Z7 Tryz.prog 81:=⟨_,Tryz.func81,by kernel_rfl,by kernel_rfl⟩
theorem c3r(d:Dsk)(h:
  ∃(x:(List (List UInt8))),(((d.sec.length=List.length x/\Z8 d.sec.length (Z6 d.sec) (Z6 x))/\True)/\List.length x<=1048576)/\∃(x_1:(List Pend)),(((d.cache.length=List.length x_1/\Z8 d.cache.length
  (Z3 d.cache) (Z3 x_1))/\True)/\List.length x_1<=1048576)/\∃(x_2:(List Int)),(((d.keep.length=List.length x_2/\Z8 d.keep.length (Y8 d.keep) (Y8 x_2))/\True)/\List.length x_2<=1048576)/\(((0=0
  /\List.length x=d.sec.length)/\(0=0/\List.length x_1=d.cache.length)/\d.armed=d.armed/\(0=0/\List.length x_2=d.keep.length)/\True)/\True)/\(List.length x=d.sec.length/\Z8 (List.length x) (Z6 x)
  (Z6 d.sec))/\(List.length x_1=d.cache.length/\Z8 (List.length x_1) (Z3 x_1) (Z3 d.cache))/\(List.length x_2=d.keep.length/\Z8 (List.length x_2) (Y8 x_2) (Y8 d.keep))/\True):
  V3 Tryz.prog 81 [.agg d.ts] [] (.agg (d.tm 0)) d.hp:=
 v5 (code:=c3x) (gC fM qD (gC a6t cT (gC b2p a2v gN))) Tryz.func81 (by kernel_rfl) (by kernel_rfl) Z0 [[.arr 3,.arr 4,.arr 5]] h (by kernel_rfl)
theorem b7E:Z1 Tryz.prog 81 c4i:=by
 rintro(d:Dsk) ⟨h1,h2,h3⟩;exact⟨c3r d ⟨d.sec,⟨⟨⟨rfl,Z9 _ _⟩,trivial⟩,h1⟩,d.cache,⟨⟨⟨rfl,Z9 _ _⟩,trivial⟩,h2⟩,d.keep,⟨⟨⟨rfl,Z9 _ _⟩,trivial⟩,h3⟩,⟨⟨⟨rfl,rfl⟩,⟨rfl,rfl⟩,rfl,⟨rfl,rfl⟩,trivial⟩,trivial⟩,⟨rfl,Z9 _ _⟩,⟨rfl,Z9 _ _⟩,⟨rfl,Z9 _ _⟩,trivial⟩,rfl,wG d⟩
def c54:Con:=.rmk ⟨Pg,fun p=>[.agg p.ts],fun _=>[],fun p=>.agg (p.tm 0),fun p=>[G8 p.sl],SmG⟩
noncomputable def c6m:Code:=Tryz.f205.body.getD .skip
theorem b16:Z7 Tryz.prog 205:=⟨_,Tryz.func205,by kernel_rfl,by kernel_rfl⟩
theorem c5j(p:Pg)(h:
  ∃(x:(List (List UInt8))),(((p.sl.length=List.length x/\Z8 p.sl.length (Z6 p.sl) (Z6 x))/\True)/\List.length x<=1048576)/\((p.lsn=p.lsn/\(0=0/\List.length x=p.sl.length)/\True)/\True)/\(List.length
  x=p.sl.length/\Z8 (List.length x) (Z6 x) (Z6 p.sl))/\True):
  V3 Tryz.prog 205 [.agg p.ts] [] (.agg (p.tm 0)) [G8 p.sl]:=
 v5 (code:=c6m) (gC fM qD gN) Tryz.func205 (by kernel_rfl) (by kernel_rfl) Z0 [[.arr 3]] h (by kernel_rfl)
theorem c1R:Z1 Tryz.prog 205 c54:=by
 intro(p:Pg) h1;exact⟨c5j p ⟨p.sl,⟨⟨⟨rfl,Z9 _ _⟩,trivial⟩,h1⟩,⟨⟨rfl,⟨rfl,rfl⟩,trivial⟩,trivial⟩,⟨rfl,Z9 _ _⟩,trivial⟩,rfl,A3 p.sl⟩
def Frm.tm(f:Frm)(b:Nat):List T:=[.int .i64 f.no,.int .i64 f.pg.lsn,.osl b 0 f.pg.sl.length,.bool f.dirty,.int .i64 f.first]
def c39:Con:=.rmk ⟨Frm,fun f=>[.agg f.ts],fun _=>[],fun f=>.agg (f.tm 0),fun f=>[G8 f.pg.sl],SmF⟩
noncomputable def c2O:Code:=Tryz.f148.body.getD .skip
theorem a35:Z7 Tryz.prog 148:=⟨_,Tryz.func148,by kernel_rfl,by kernel_rfl⟩
theorem c1Y(f:Frm)(h:
  ∃(x:Pg),(((f.pg.lsn=x.lsn/\(Y4 Z6 f.pg.sl x.sl)/\True)/\True)/\SmG x)/\((f.no=f.no/\x.lsn=f.pg.lsn/\(0=0/\x.sl.length=f.pg.sl.length)/\f.dirty=f.dirty/\f.first=f.first/\True)/\True)/\(Y4 Z6
  x.sl f.pg.sl)/\True):
  V3 Tryz.prog 148 [.agg f.ts] [] (.agg (f.tm 0)) [G8 f.pg.sl]:=
 v5 (code:=c2O) (gC c1R b16 gN) Tryz.func148 (by kernel_rfl) (by kernel_rfl) Z0 [[.arr 3]] h (by kernel_rfl)
theorem b5T:Z1 Tryz.prog 148 c39:=by
 intro(f:Frm) h1;exact⟨c1Y f ⟨f.pg,⟨⟨⟨rfl,⟨rfl,Z9 _ _⟩,trivial⟩,trivial⟩,h1⟩,⟨⟨rfl,rfl,⟨rfl,rfl⟩,rfl,rfl,trivial⟩,trivial⟩,⟨rfl,Z9 _ _⟩,trivial⟩,rfl,A3 f.pg.sl⟩
def c8c:List T:=[.int .i64 0,.int .i64 0,.v (.slice none 0 0),.bool false,.int .i64 0]
def c0h:Con:=.rmk ⟨List Frm,fun L=>[w5 L],fun _=>[],fun L=>.osl 0 0 L.length,fun L=>[yU L.length L L.length],fun L=>L.length<=1048576/\∀i,i<L.length->SmF (L.getD i default)⟩
def b51(L:List Frm):Nat->Ann
 |0=>.one {i:Nat//i<=L.length} (fun x=>⟨[(0,w5 L),(3,.osl 0 0 L.length),(4,.int .i64 x.1)],[some (.fam x.1 0 5 L.length (o7 (X9 L) c8c x.1))]⟩) (fun x=>L.length-x.1) [.fam 0,.arr 0] [.arr 0] (fun _=>Z0)
 |_=>.none
noncomputable def b7U:Code:=Tryz.f83.body.getD .skip
theorem a1R:Z7 Tryz.prog 83:=⟨_,Tryz.func83,by kernel_rfl,by kernel_rfl⟩
theorem b95(L:List Frm)(h:
  (Nn (L.length:Int)/\kF (L.length:Int) (L.length:Int)/\I4 56 (L.length:Int).toNat 140737488355328/\Lt (L.length:Int).toNat 9223372036854775808)/\(∃(x:{i:Nat//i<=L.length}),((Y4 V6 L L)/\(0=0/\
  (L.length:Int).toNat=L.length)/\(0:Int)=(x.val:Int)/\True)/\(0=x.val/\(L.length:Int).toNat=L.length/\T5 (L.length:Int).toNat (fun(x:Nat)=>[T.int .i64 (0:Int),T.int .i64 (0:Int),T.v (Value.slice none 0
  0),T.bool false,T.int .i64 (0:Int)]) (o7 (X9 L) [T.int .i64 (0:Int),T.int .i64 (0:Int),T.v (Value.slice none 0 0),T.bool false,T.int .i64 (0:Int)] x.val))/\True)/\∀(x:{i:Nat//i<=L.length}),(decide
  ((x.val:Int)<(L.length:Int))=true->X0 (x.val:Int) L.length/\∃(x_1:Frm),((((L.getD (x.val:Int).toNat default).no=x_1.no/\(L.getD (x.val:Int).toNat default).pg.lsn=x_1.pg.lsn/\(Y4 Z6 (L.getD (x.val:Int).toNat
  default).pg.sl x_1.pg.sl)/\(L.getD (x.val:Int).toNat default).dirty=x_1.dirty/\(L.getD (x.val:Int).toNat default).first=x_1.first/\True)/\True)/\SmF x_1)/\X0 (x.val:Int) L.length/\(0+(x.val:Int).toNat<L.length/\Le
  x_1.pg.sl.length x_1.pg.sl.length)/\X8 .i64 ((x.val:Int)+(1:Int))/\∃(y:{i:Nat//i<=L.length}),(((Y4 V6 L L)/\(0=0/\L.length=L.length)/\(x.val:Int)+(1:Int)=(y.val:Int)/\True)/\(x.val+1=y.val
  /\L.length=L.length/\T5 L.length (setRow (o7 (X9 L) [T.int .i64 (0:Int),T.int .i64 (0:Int),T.v (Value.slice none 0 0),T.bool false,T.int .i64 (0:Int)] x.val) (0+(x.val:Int).toNat) 0 [T.int .i64 x_1.no,T.int
  .i64 x_1.pg.lsn,T.own 0 1 x_1.pg.sl.length (Z6 x_1.pg.sl),T.bool x_1.dirty,T.int .i64 x_1.first]) (o7 (X9 L) [T.int .i64 (0:Int),T.int .i64 (0:Int),T.v (Value.slice none 0 0),T.bool false,T.int .i64 (0:Int)]
  y.val))/\True)/\Lt (L.length-y.val) (L.length-x.val))/\(decide ((x.val:Int)<(L.length:Int))=false->((0=0/\L.length=L.length)/\True)/\(x.val=L.length/\L.length=L.length/\T5 L.length (o7 (X9 L)
  [T.int .i64 (0:Int),T.int .i64 (0:Int),T.v (Value.slice none 0 0),T.bool false,T.int .i64 (0:Int)] x.val) (X9 L))/\True)):
  V3 Tryz.prog 83 [w5 L] [] (.osl 0 0 L.length) [yU L.length L L.length]:=
 v5 (code:=b7U) (gC b5T a35 gN) Tryz.func83 (by kernel_rfl) (by kernel_rfl) (b51 L) [[.arr 0]] h (by kernel_rfl)
theorem b2y:Z1 Tryz.prog 83 c0h:=by
 rintro(L:List Frm) ⟨hL,hb⟩;refine⟨b95 L ⟨⟨by unfold Nn;omega,by unfold kF;omega,by unfold I4;omega,by unfold Lt;omega⟩,⟨⟨0,T0 _⟩,⟨⟨rfl,Z9 _ _⟩,⟨rfl,by omega⟩,rfl,trivial⟩,⟨rfl,by omega,qU fun i _=>rfl⟩,trivial⟩,fun x=>⟨fun hc=> ?_,fun hc=> ?_⟩⟩,rfl,fE _ _ _⟩
 ·have hlt:=Y9 hc;exact⟨Y7 hlt,L.getD x.val default,⟨⟨⟨rfl,rfl,⟨rfl,Z9 _ _⟩,rfl,rfl,trivial⟩,trivial⟩,hb _ hlt⟩,Y7 hlt,⟨by omega,V5 _⟩,W4 hlt (by omega),⟨x.val+1,hlt⟩,⟨⟨⟨rfl,Z9 _ _⟩,⟨rfl,rfl⟩,by dsimp only;omega,trivial⟩,⟨rfl,rfl,qU fun j _=>l6 (m:=5) (fun _=>rfl) rfl x.val rfl j⟩,trivial⟩,V9.ext_lt hlt⟩
 ·have hx:x.val=L.length:=by have:=x.2;have:=Y3 hc;omega
  rw[hx];exact⟨⟨⟨rfl,rfl⟩,trivial⟩,⟨rfl,rfl,qU fun i hi=>xT (n:=L.length) i hi⟩,trivial⟩
def c0B:Con:=.rmk ⟨Sto,fun s=>[.agg s.ts],fun _=>[],fun s=>.agg (s.tm 0),fun s=>s.hp s.fr.length,SmS⟩
noncomputable def c3g:Code:=Tryz.f38.body.getD .skip
theorem a8A:Z7 Tryz.prog 38:=⟨_,Tryz.func38,by kernel_rfl,by kernel_rfl⟩
theorem c2X(s:Sto)(h:
  ∃(x:Dsk),(((zR s.d x)/\True)/\pD x)/\∃(x_1:(List Rec)),(((s.log.length=List.length x_1/\Z8 s.log.length (Y5 s.log) (Y5 x_1))/\True)/\List.length x_1<=1048576)/\∃(x_2:(List Frm)),(((s.fr.length=
  List.length x_2/\Z8 s.fr.length (V6 s.fr) (V6 x_2))/\True)/\List.length x_2<=1048576/\∀(i:Nat),i<List.length x_2->SmF (List.getD x_2 i default))/\(((0=0/\x.sec.length=s.d.sec.length)/\(0=0/\
  x.cache.length=s.d.cache.length)/\x.armed=s.d.armed/\(0=0/\x.keep.length=s.d.keep.length)/\s.ep=s.ep/\(0=0/\List.length x_1=s.log.length)/\s.sure=s.sure/\(0=0/\List.length x_2=s.fr.length)/\s.hand=
  s.hand/\True)/\True)/\(Y4 Z6 x.sec s.d.sec)/\(Y4 Z3 x.cache s.d.cache)/\(Y4 Y8 x.keep s.d.keep)/\(List.length x_1=s.log.length/\Z8 (List.length x_1) (Y5 x_1) (Y5 s.log))/\(List.length x_2=
  s.fr.length/\List.length x_2=s.fr.length/\T5 (List.length x_2) (X9 x_2) (X9 s.fr))/\True):
  V3 Tryz.prog 38 [.agg s.ts] [] (.agg (s.tm 0)) (s.hp s.fr.length):=
 v5 (code:=c3g) (gC b7E a5A (gC b08 a3X (gC b2y a1R gN))) Tryz.func38 (by kernel_rfl) (by kernel_rfl) Z0 [[.arr 3,.arr 4,.arr 5,.arr 6,.arr 7]] h (by kernel_rfl)
theorem b9c:Z1 Tryz.prog 38 c0B:=by
 rintro(s:Sto) ⟨h1,h2,h3,h4⟩;exact⟨c2X s ⟨s.d,⟨⟨xL _,trivial⟩,h1⟩,s.log,⟨⟨⟨rfl,Z9 _ _⟩,trivial⟩,h2⟩,s.fr,⟨⟨⟨rfl,Z9 _ _⟩,trivial⟩,h3,h4⟩,⟨⟨⟨rfl,rfl⟩,⟨rfl,rfl⟩,rfl,⟨rfl,rfl⟩,rfl,⟨rfl,rfl⟩,rfl,⟨rfl,rfl⟩,rfl,trivial⟩,trivial⟩,⟨rfl,Z9 _ _⟩,⟨rfl,Z9 _ _⟩,⟨rfl,Z9 _ _⟩,⟨rfl,Z9 _ _⟩,⟨rfl,rfl,U3 _⟩,trivial⟩,rfl,wA s _⟩
end Go.Proofs.YtokaojbaacnngaaGreat

