/- A part of the proof. -/
import Derived.Test.YtokaojbaacnngaaGreatX7
import Derived.Test.YtokaojbaacnngaaGreatW6
import Derived.Test.YtokaojbaacnngaaGreatX1X2X3
import Derived.Test.YtokaojbaacnngaaGreatX4
namespace Go.Proofs.YtokaojbaacnngaaGreat
set_option maxRecDepth 100000
open Go.SS

def qM(L:List Txn):Option Ob:=some (.arr true 0 2 L.length (Y0 L))
theorem rG(L:List Txn):K7 [qM L]:=F6 (fun i _ t ht=>by
 simp only[Y0,Txn.ts,zJ,j_j,or_false] at ht;rcases ht with rfl|rfl<;>rfl) C5
def c2D:Con:=.rmk ⟨List Txn,fun L=>[B4 L],fun _=>[],fun L=>.osl 0 0 L.length,fun L=>[qM L],fun L=>L.length<=1048576⟩
noncomputable def c3P:Code:=Tryz.f90.body.getD .skip
theorem a44:Z7 Tryz.prog 90:=⟨_,Tryz.func90,by kernel_rfl,by kernel_rfl⟩
theorem c2r(L:List Txn)(h:
  ∀(b:Bool),(b=true->L.length=0)->(b=true->((0=0/\0=L.length)/\True)/\(0=L.length/\Z8 0 (fun(x:Nat)=>[]) (Y0 L))/\True)/\(b=false->(Le 0 0/\V7 0 L.length 16)/\((0=0/\0+L.length=
  L.length)/\True)/\(0+L.length=L.length/\Z8 (0+L.length) (W6 (fun(k:Nat)=>List.take 2 (List.drop (k*2) [])) 0 (Y0 L)) (Y0 L))/\True)):
  V3 Tryz.prog 90 [B4 L] [] (.osl 0 0 L.length) [qM L]:=
 v5 (code:=c3P) gN Tryz.func90 (by kernel_rfl) (by kernel_rfl) Z0 [[.arr 1],[.nilS 0 [] 0 2,.arr 0]] h (by kernel_rfl)
theorem b5H:Z1 Tryz.prog 90 c2D:=fun(L:List Txn) (hL:L.length<=1048576)=>
 ⟨c2r L (fun b hb=>⟨fun h=>⟨⟨⟨rfl,(hb h).symm⟩,trivial⟩,⟨(hb h).symm,fun i hi=>absurd hi (J2 _)⟩,trivial⟩,fun _=>⟨⟨V5 _,by unfold V7;omega⟩,⟨⟨rfl,by omega⟩,trivial⟩,⟨by omega,E7⟩,trivial⟩⟩),rfl,rG L⟩
def b6f:Con:=.rmk ⟨List Txn,fun L=>[B4 L],fun _=>[],fun L=>.osl 0 0 L.length,fun L=>[qM L],fun L=>L.length<=1048576⟩
noncomputable def b5g:Code:=Tryz.f39.body.getD .skip
theorem a1Z:Z7 Tryz.prog 39:=⟨_,Tryz.func39,by kernel_rfl,by kernel_rfl⟩
theorem b86(L:List Txn)(h:
  (Nn (L.length:Int)/\kF (L.length:Int) (L.length:Int)/\I4 16 (L.length:Int).toNat 140737488355328/\Lt (L.length:Int).toNat 9223372036854775808)/\(∃(x:{i:Nat//i<=L.length}),((Y4 Y0 L L)/\(0=0/\
  (L.length:Int).toNat=L.length)/\(0:Int)=(x.val:Int)/\True)/\((L.length:Int).toNat=L.length/\Z8 (L.length:Int).toNat (fun(x:Nat)=>[T.int .i64 (0:Int),T.int .i64 (0:Int)]) (o7 (Y0 L) [T.int .i64 (0:
  Int),T.int .i64 (0:Int)] x.val))/\True)/\∀(x:{i:Nat//i<=L.length}),(decide ((x.val:Int)<(L.length:Int))=true->X0 (x.val:Int) L.length/\∃(x_1:a8U.ι),((((L.getD (x.val:Int).toNat default).id=x_1.id/\
  (L.getD (x.val:Int).toNat default).last=x_1.last/\True)/\True)/\True)/\X0 (x.val:Int) L.length/\Lt (0+(x.val:Int).toNat) L.length/\X8 .i64 ((x.val:Int)+(1:Int))/\∃(y:{i:Nat//i<=L.length}),(((Y4 Y0
  L L)/\(0=0/\L.length=L.length)/\(x.val:Int)+(1:Int)=(y.val:Int)/\True)/\(L.length=L.length/\Z8 L.length (setRow (o7 (Y0 L) [T.int .i64 (0:Int),T.int .i64 (0:Int)] x.val) (0+(x.val:Int).toNat) 0
  [T.int .i64 x_1.id,T.int .i64 x_1.last]) (o7 (Y0 L) [T.int .i64 (0:Int),T.int .i64 (0:Int)] y.val))/\True)/\Lt (L.length-y.val) (L.length-x.val))/\(decide ((x.val:Int)<(L.length:Int))=false->((0=0/\
  L.length=L.length)/\True)/\(L.length=L.length/\Z8 L.length (o7 (Y0 L) [T.int .i64 (0:Int),T.int .i64 (0:Int)] x.val) (Y0 L))/\True)):
  V3 Tryz.prog 39 [B4 L] [] (.osl 0 0 L.length) [qM L]:=
 v5 (code:=b5g) (gC b5v a7E gN) Tryz.func39 (by kernel_rfl) (by kernel_rfl) (b8v L) [[.arr 0]] h (by kernel_rfl)
theorem b3p:Z1 Tryz.prog 39 b6f:=by
 intro(L:List Txn) (hL:L.length<=1048576);refine⟨b86 L ⟨⟨by unfold Nn;omega,by unfold kF;omega,by unfold I4;omega,by unfold Lt;omega⟩,⟨⟨0,T0 _⟩,⟨⟨(by trivial),Z9 _ _⟩,⟨(by trivial),by omega⟩,rfl,trivial⟩,⟨by omega,yX⟩,trivial⟩,fun x=>⟨fun hc=> ?_,fun hc=> ?_⟩⟩,rfl,rG L⟩
 ·have hlt:=Y9 hc;refine⟨Y7 hlt,L.getD x.val default,⟨⟨⟨rfl,rfl,trivial⟩,trivial⟩,trivial⟩,Y7 hlt,by unfold Lt;omega,W4 hlt (by omega),⟨x.val+1,hlt⟩,⟨⟨⟨(by trivial),Z9 _ _⟩,⟨(by trivial),(by trivial)⟩,by simp only;omega,trivial⟩,⟨(by trivial),fun j hj=> ?_⟩,trivial⟩,V9.ext_lt hlt⟩
  exact l6 (m:=2) (fun _=>rfl) rfl x.val rfl j
 ·have hx:x.val=L.length:=by have:=x.2;have:=Y3 hc;omega
  rw[hx];exact⟨⟨⟨rfl,rfl⟩,trivial⟩,⟨rfl,fun i hi=>xT (n:=L.length) i (by omega)⟩,trivial⟩
def Q6(n k:Nat):List Txn:=(List.range n).map fun i=>⟨((k+2*i:Nat):Int),((k+2*i:Nat):Int)+1⟩
def a77:Con:=.reff ⟨List Txn×Nat,fun x=>[.osl 0 0 x.1.length,.int .i64 x.2],fun x=>[qM x.1],fun x=>.int .i64 (x.2+2*x.1.length:Nat),fun x=>[qM (Q6 x.1.length x.2)],fun x=>tS x.1.length x.2 2⟩
def a4p(L:List Txn)(k:Nat):Nat->Ann
 |0=>.one {i:Nat//i<=L.length} (fun x=>⟨[(0,.osl 0 0 L.length),(1,.int .i64 (k+2*x.1:Nat)),(5,.int .i64 x.1)],[some (.arr true 0 2 L.length (z8 (Y0 (Q6 L.length k)) (Y0 L) x.1))]⟩) (fun x=>L.length-x.1) [.arr 0] [.arr 0] (fun _=>Z0)
 |_=>.none
noncomputable def a8u:Code:=Tryz.f48.body.getD .skip
theorem jR:Z7 Tryz.prog 48:=⟨_,Tryz.func48,by kernel_rfl,by kernel_rfl⟩
theorem a7r(L:List Txn)(k:Nat)(h:
  (∃(x:{i:Nat//i<=L.length}),((0=0/\L.length=L.length)/\(k:Int)=(↑(k+2*x.val):Int)/\(0:Int)=(x.val:Int)/\True)/\(L.length=L.length/\Z8 L.length (Y0 L) (z8 (Y0 (Q6 L.length k))
  (Y0 L) x.val))/\True)/\∀(x:{i:Nat//i<=L.length}),(decide ((x.val:Int)<(L.length:Int))=true->X0 (x.val:Int) L.length/\Lt (0+(x.val:Int).toNat) L.length/\X8 .i64 ((↑(k+2*x.val):Int)+(1:Int))/\
  X0 (x.val:Int) L.length/\Lt (0+(x.val:Int).toNat) L.length/\X8 .i64 ((↑(k+2*x.val):Int)+(1:Int)+(1:Int))/\X8 .i64 ((x.val:Int)+(1:Int))/\∃(y:{i:Nat//i<=L.length}),(((0=0/\L.length=
  L.length)/\(↑(k+2*x.val):Int)+(1:Int)+(1:Int)=(↑(k+2*y.val):Int)/\(x.val:Int)+(1:Int)=(y.val:Int)/\True)/\(L.length=L.length/\Z8 L.length (setRow (setRow (z8 (Y0 (Q6 L.length k))
  (Y0 L) x.val) (0+(x.val:Int).toNat) 0 [T.int .i64 (↑(k+2*x.val):Int)]) (0+(x.val:Int).toNat) 1 [T.int .i64 ((↑(k+2*x.val):Int)+(1:Int))]) (z8 (Y0 (Q6 L.length k)) (Y0 L) y.val))/\True)/\Lt
  (L.length-y.val) (L.length-x.val))/\(decide ((x.val:Int)<(L.length:Int))=false->((↑(k+2*x.val):Int)=(↑(k+2*L.length):Int)/\True)/\(L.length=(Q6 L.length k).length/\Z8 L.length (z8 (Y0
  (Q6 L.length k)) (Y0 L) x.val) (Y0 (Q6 L.length k)))/\True)):
  V3 Tryz.prog 48 [.osl 0 0 L.length,.int .i64 k] [qM L] (.int .i64 (k+2*L.length:Nat)) [qM (Q6 L.length k)]:=
 v5 (code:=a8u) gN Tryz.func48 (by kernel_rfl) (by kernel_rfl) (a4p L k) [[.arr 0]] h (by kernel_rfl)
theorem a0R:Z1 Tryz.prog 48 a77:=by
 rintro⟨L,k⟩ ⟨h1,h2,h3⟩;dsimp only at h1 h2 h3;refine a7r L k ⟨⟨⟨0,T0 _⟩,⟨⟨rfl,rfl⟩,rfl,rfl,trivial⟩,⟨rfl,k7⟩,trivial⟩,fun x=>⟨fun hc=> ?_,fun hc=> ?_⟩⟩
 ·have hlt:=Y9 hc;have ib:=Y7 hlt;have lt:Lt (0+(x.val:Int).toNat) L.length:=by unfold Lt;omega
  refine⟨ib,lt,Z5 (by omega),ib,lt,Z5 (by omega),Z5 (by omega),⟨x.val+1,hlt⟩,⟨⟨⟨rfl,rfl⟩,by dsimp only;omega,by dsimp only;omega,trivial⟩,⟨rfl,fun j _=> ?_⟩,trivial⟩,V9.ext_lt hlt⟩
  exact yW (m:=2) (fun _=>rfl) (fun _=>rfl) x.val [(0,.int .i64 (((k+2*x.val:Nat):Int))),(1,.int .i64 (((k+2*x.val:Nat):Int)+1))] (by simp) (by unfold Y0 Q6;rw[A6 _ hlt];rfl) j
 ·have hx:x.val=L.length:=by have:=x.2;have:=Y3 hc;omega
  rw[hx];exact⟨⟨rfl,trivial⟩,⟨(S0 _ _).symm,xZ⟩,trivial⟩
def a4i:Con:=.rel ⟨Nat×Nat,fun x=>[B4 (Q6 x.1 x.2),.int .i64 x.2],fun x=>.int .i64 (x.2+2*x.1:Nat),fun x=>tS x.1 x.2 2⟩
def a4b(n k:Nat):Nat->Ann
 |0=>.one {i:Nat//i<=n} (fun x=>⟨[(0,B4 (Q6 n k)),(1,.int .i64 (k+2*x.1:Nat)),(5,.int .i64 x.1)],[]⟩) (fun x=>n-x.1) [] [] (fun _=>Z0)
 |_=>.none
noncomputable def a72:Code:=Tryz.f51.body.getD .skip
theorem jO:Z7 Tryz.prog 51:=⟨_,Tryz.func51,by kernel_rfl,by kernel_rfl⟩
theorem a6Q(n k:Nat)(h:
  (∃(x:{i:Nat//i<=n}),((Y4 Y0 (Q6 n k) (Q6 n k))/\(k:Int)=(↑(k+2*x.val):Int)/\(0:Int)=(x.val:Int)/\True)/\True)/\∀(x:{i:Nat//i<=n}),(decide ((x.val:Int)<(↑(Q6 n k).length:
  Int))=true->X0 (x.val:Int) (Q6 n k).length/\((((Q6 n k).getD (x.val:Int).toNat default).id !=(↑(k+2*x.val):Int))=true->(-1:Int)=(↑(k+2*n):Int))/\((((Q6 n k).getD (x.val:Int).toNat default).id !=
  (↑(k+2*x.val):Int))=false->X8 .i64 ((↑(k+2*x.val):Int)+(1:Int))/\X0 (x.val:Int) (Q6 n k).length/\((((Q6 n k).getD (x.val:Int).toNat default).last !=(↑(k+2*x.val):Int)+(1:Int))=true->(-1:
  Int)=(↑(k+2*n):Int))/\((((Q6 n k).getD (x.val:Int).toNat default).last !=(↑(k+2*x.val):Int)+(1:Int))=false->X8 .i64 ((↑(k+2*x.val):Int)+(1:Int)+(1:Int))/\X8 .i64 ((x.val:Int)+(1:Int))
  /\∃(y:{i:Nat//i<=n}),(((Y4 Y0 (Q6 n k) (Q6 n k))/\(↑(k+2*x.val):Int)+(1:Int)+(1:Int)=(↑(k+2*y.val):Int)/\(x.val:Int)+(1:Int)=(y.val:Int)/\True)/\True)/\Lt (n-y.val) (n-
  x.val))))/\(decide ((x.val:Int)<(↑(Q6 n k).length:Int))=false->(↑(k+2*x.val):Int)=(↑(k+2*n):Int))):
  Z2 Tryz.prog 51 [B4 (Q6 n k),.int .i64 k] (.int .i64 (k+2*n:Nat)):=
 T4 (code:=a72) gN Tryz.func51 (by kernel_rfl) (by kernel_rfl) (a4b n k) h (by kernel_rfl)
theorem a2n:Z1 Tryz.prog 51 a4i:=by
 rintro⟨n,k⟩ ⟨h1,h2,h3⟩;dsimp only at h1 h2 h3;have hn:(Q6 n k).length=n:=S0 _ _;refine a6Q n k ⟨⟨⟨0,T0 _⟩,⟨⟨rfl,Z9 _ _⟩,rfl,rfl,trivial⟩,trivial⟩,fun x=>⟨fun hc=> ?_,fun hc=> ?_⟩⟩
 ·have hlt:=Y9 hc;have hlt':x.val<n:=by omega
  have e:(Q6 n k).getD (x.val:Int).toNat default=⟨((k+2*x.val:Nat):Int),((k+2*x.val:Nat):Int)+1⟩:=by rw[v4];exact A6 _ hlt' _
  rw[e];have ib:=Y7 hlt;exact⟨ib,fun h=>by simp at h,fun _=>⟨Z5 (by omega),ib,fun h=>by simp at h,fun _=>⟨Z5 (by omega),Z5 (by omega),⟨x.val+1,hlt'⟩,⟨⟨⟨rfl,Z9 _ _⟩,by dsimp only;omega,by dsimp only;omega,trivial⟩,trivial⟩,V9.ext_lt hlt'⟩⟩⟩
 ·have hx:x.val=n:=by have:=x.2;have:=Y3 hc;omega
  rw[hx]
def rI(L:List Lck):Option Ob:=some (.arr true 0 4 L.length (Y2 L))
theorem qZ(L:List Lck):K7 [rI L]:=F6 (fun i _ t ht=>by
 simp only[Y2,Lck.ts,zJ,j_j,or_false] at ht;rcases ht with rfl|rfl|rfl|rfl<;>rfl) C5
def c3h:Con:=.rmk ⟨List Lck,fun L=>[w7 L],fun _=>[],fun L=>.osl 0 0 L.length,fun L=>[rI L],fun L=>L.length<=1048576⟩
noncomputable def c2M:Code:=Tryz.f165.body.getD .skip
theorem a76:Z7 Tryz.prog 165:=⟨_,Tryz.func165,by kernel_rfl,by kernel_rfl⟩
theorem c0N(L:List Lck)(h:
  ∀(b:Bool),(b=true->L.length=0)->(b=true->((0=0/\0=L.length)/\True)/\(0=L.length/\Z8 0 (fun(x:Nat)=>[]) (Y2 L))/\True)/\(b=false->(Le 0 0/\V7 0 L.length 32)/\((0=0/\0+L.length=
  L.length)/\True)/\(0+L.length=L.length/\Z8 (0+L.length) (W6 (fun(k:Nat)=>List.take 4 (List.drop (k*4) [])) 0 (Y2 L)) (Y2 L))/\True)):
  V3 Tryz.prog 165 [w7 L] [] (.osl 0 0 L.length) [rI L]:=
 v5 (code:=c2M) gN Tryz.func165 (by kernel_rfl) (by kernel_rfl) Z0 [[.arr 1],[.nilS 0 [] 0 4,.arr 0]] h (by kernel_rfl)
theorem b60:Z1 Tryz.prog 165 c3h:=fun(L:List Lck) (hL:L.length<=1048576)=>
 ⟨c0N L (fun b hb=>⟨fun h=>⟨⟨⟨rfl,(hb h).symm⟩,trivial⟩,⟨(hb h).symm,fun i hi=>absurd hi (J2 _)⟩,trivial⟩,fun _=>⟨⟨V5 _,by unfold V7;omega⟩,⟨⟨rfl,by omega⟩,trivial⟩,⟨by omega,E7⟩,trivial⟩⟩),rfl,qZ L⟩
def b9a:Con:=.rmk ⟨List Lck,fun L=>[w7 L],fun _=>[],fun L=>.osl 0 0 L.length,fun L=>[rI L],fun L=>L.length<=1048576⟩
noncomputable def b9P:Code:=Tryz.f85.body.getD .skip
theorem a1d:Z7 Tryz.prog 85:=⟨_,Tryz.func85,by kernel_rfl,by kernel_rfl⟩
theorem b8G(L:List Lck)(h:
  (Nn (L.length:Int)/\kF (L.length:Int) (L.length:Int)/\I4 32 (L.length:Int).toNat 140737488355328/\Lt (L.length:Int).toNat 9223372036854775808)/\(∃(x:{i:Nat//i<=L.length}),((Y4 Y2 L L)/\(0=0/\
  (L.length:Int).toNat=L.length)/\(0:Int)=(x.val:Int)/\True)/\((L.length:Int).toNat=L.length/\Z8 (L.length:Int).toNat (fun(x:Nat)=>[T.int .i64 (0:Int),T.int .i64 (0:Int),T.int .i64 (0:Int),T.int .i64 (0
  :Int)]) (o7 (Y2 L) [T.int .i64 (0:Int),T.int .i64 (0:Int),T.int .i64 (0:Int),T.int .i64 (0:Int)] x.val))/\True)/\∀(x:{i:Nat//i<=L.length}),(decide ((x.val:Int)<(L.length:Int))=true->X0
  (x.val:Int) L.length/\∃(x_1:a9Q.ι),((((L.getD (x.val:Int).toNat default).tx=x_1.tx/\(L.getD (x.val:Int).toNat default).ta=x_1.ta/\(L.getD (x.val:Int).toNat default).row=x_1.row/\(L.getD (x.val:Int).toNat
  default).mo=x_1.mo/\True)/\True)/\True)/\X0 (x.val:Int) L.length/\Lt (0+(x.val:Int).toNat) L.length/\X8 .i64 ((x.val:Int)+(1:Int))/\∃(y:{i:Nat//i<=L.length}),(((Y4 Y2 L L)/\(0=0/\L.length=
  L.length)/\(x.val:Int)+(1:Int)=(y.val:Int)/\True)/\(L.length=L.length/\Z8 L.length (setRow (o7 (Y2 L) [T.int .i64 (0:Int),T.int .i64 (0:Int),T.int .i64 (0:Int),T.int .i64 (0:Int)] x.val) (0+
  (x.val:Int).toNat) 0 [T.int .i64 x_1.tx,T.int .i64 x_1.ta,T.int .i64 x_1.row,T.int .i64 x_1.mo]) (o7 (Y2 L) [T.int .i64 (0:Int),T.int .i64 (0:Int),T.int .i64 (0:Int),T.int .i64 (0:Int)] y.val))/\True)/\Lt
  (L.length-y.val) (L.length-x.val))/\(decide ((x.val:Int)<(L.length:Int))=false->((0=0/\L.length=L.length)/\True)/\(L.length=L.length/\Z8 L.length (o7 (Y2 L) [T.int .i64 (0:Int),T.int .i64 (0:Int),
  T.int .i64 (0:Int),T.int .i64 (0:Int)] x.val) (Y2 L))/\True)):
  V3 Tryz.prog 85 [w7 L] [] (.osl 0 0 L.length) [rI L]:=
 v5 (code:=b9P) (gC c0a a7A gN) Tryz.func85 (by kernel_rfl) (by kernel_rfl) (b82 L) [[.arr 0]] h (by kernel_rfl)
theorem a94:Z1 Tryz.prog 85 b9a:=by
 intro(L:List Lck) (hL:L.length<=1048576);refine⟨b8G L ⟨⟨by unfold Nn;omega,by unfold kF;omega,by unfold I4;omega,by unfold Lt;omega⟩,⟨⟨0,T0 _⟩,⟨⟨(by trivial),Z9 _ _⟩,⟨(by trivial),by omega⟩,rfl,trivial⟩,⟨by omega,yX⟩,trivial⟩,fun x=>⟨fun hc=> ?_,fun hc=> ?_⟩⟩,rfl,qZ L⟩
 ·have hlt:=Y9 hc;refine⟨Y7 hlt,L.getD x.val default,⟨⟨⟨rfl,rfl,rfl,rfl,trivial⟩,trivial⟩,trivial⟩,Y7 hlt,by unfold Lt;omega,W4 hlt (by omega),⟨x.val+1,hlt⟩,⟨⟨⟨(by trivial),Z9 _ _⟩,⟨(by trivial),(by trivial)⟩,by simp only;omega,trivial⟩,⟨(by trivial),fun j hj=> ?_⟩,trivial⟩,V9.ext_lt hlt⟩
  exact l6 (m:=4) (fun _=>rfl) rfl x.val rfl j
 ·have hx:x.val=L.length:=by have:=x.2;have:=Y3 hc;omega
  rw[hx];exact⟨⟨⟨rfl,rfl⟩,trivial⟩,⟨rfl,fun i hi=>xT (n:=L.length) i (by omega)⟩,trivial⟩
def S9(n k:Nat):List Lck:=(List.range n).map fun i=>⟨((k+4*i:Nat):Int),((k+4*i:Nat):Int)+1,((k+4*i:Nat):Int)+1+1,((k+4*i:Nat):Int)+1+1+1⟩
def a4A:Con:=.reff ⟨List Lck×Nat,fun x=>[.osl 0 0 x.1.length,.int .i64 x.2],fun x=>[rI x.1],fun x=>.int .i64 (x.2+4*x.1.length:Nat),fun x=>[rI (S9 x.1.length x.2)],fun x=>tS x.1.length x.2 4⟩
def a8y(L:List Lck)(k:Nat):Nat->Ann
 |0=>.one {i:Nat//i<=L.length} (fun x=>⟨[(0,.osl 0 0 L.length),(1,.int .i64 (k+4*x.1:Nat)),(5,.int .i64 x.1)],[some (.arr true 0 4 L.length (z8 (Y2 (S9 L.length k)) (Y2 L) x.1))]⟩) (fun x=>L.length-x.1) [.arr 0] [.arr 0] (fun _=>Z0)
 |_=>.none
noncomputable def a6g:Code:=Tryz.f102.body.getD .skip
theorem jJ:Z7 Tryz.prog 102:=⟨_,Tryz.func102,by kernel_rfl,by kernel_rfl⟩
theorem a5P(L:List Lck)(k:Nat)(h:
  (∃(x:{i:Nat//i<=L.length}),((0=0/\L.length=L.length)/\(k:Int)=(↑(k+4*x.val):Int)/\(0:Int)=(x.val:Int)/\True)/\(L.length=L.length/\Z8 L.length (Y2 L) (z8 (Y2 (S9 L.length k))
  (Y2 L) x.val))/\True)/\∀(x:{i:Nat//i<=L.length}),(decide ((x.val:Int)<(L.length:Int))=true->X0 (x.val:Int) L.length/\Lt (0+(x.val:Int).toNat) L.length/\X8 .i64 ((↑(k+4*x.val):Int)+(1:Int))/\
  X0 (x.val:Int) L.length/\Lt (0+(x.val:Int).toNat) L.length/\X8 .i64 ((↑(k+4*x.val):Int)+(1:Int)+(1:Int))/\X0 (x.val:Int) L.length/\Lt (0+(x.val:Int).toNat) L.length/\X8 .i64 ((↑(k+4*x.val):Int)+
  (1:Int)+(1:Int)+(1:Int))/\X0 (x.val:Int) L.length/\Lt (0+(x.val:Int).toNat) L.length/\X8 .i64 ((↑(k+4*x.val):Int)+(1:Int)+(1:Int)+(1:Int)+(1:Int))/\X8 .i64 ((x.val:Int)+(1:Int))/\∃(y
  :{i:Nat//i<=L.length}),(((0=0/\L.length=L.length)/\(↑(k+4*x.val):Int)+(1:Int)+(1:Int)+(1:Int)+(1:Int)=(↑(k+4*y.val):Int)/\(x.val:Int)+(1:Int)=(y.val:Int)/\True)/\(L.length=
  L.length/\Z8 L.length (setRow (setRow (setRow (setRow (z8 (Y2 (S9 L.length k)) (Y2 L) x.val) (0+(x.val:Int).toNat) 0 [T.int .i64 (↑(k+4*x.val):Int)]) (0+(x.val:Int).toNat) 1 [T.int .i64 ((↑(k+4*
  x.val):Int)+(1:Int))]) (0+(x.val:Int).toNat) 2 [T.int .i64 ((↑(k+4*x.val):Int)+(1:Int)+(1:Int))]) (0+(x.val:Int).toNat) 3 [T.int .i64 ((↑(k+4*x.val):Int)+(1:Int)+(1:Int)+(1:Int))]) (z8
  (Y2 (S9 L.length k)) (Y2 L) y.val))/\True)/\Lt (L.length-y.val) (L.length-x.val))/\(decide ((x.val:Int)<(L.length:Int))=false->((↑(k+4*x.val):Int)=(↑(k+4*L.length):Int)/\True)/\(L.length=
  (S9 L.length k).length/\Z8 L.length (z8 (Y2 (S9 L.length k)) (Y2 L) x.val) (Y2 (S9 L.length k)))/\True)):
  V3 Tryz.prog 102 [.osl 0 0 L.length,.int .i64 k] [rI L] (.int .i64 (k+4*L.length:Nat)) [rI (S9 L.length k)]:=
 v5 (code:=a6g) gN Tryz.func102 (by kernel_rfl) (by kernel_rfl) (a8y L k) [[.arr 0]] h (by kernel_rfl)
theorem a2I:Z1 Tryz.prog 102 a4A:=by
 rintro⟨L,k⟩ ⟨h1,h2,h3⟩;dsimp only at h1 h2 h3;refine a5P L k ⟨⟨⟨0,T0 _⟩,⟨⟨rfl,rfl⟩,rfl,rfl,trivial⟩,⟨rfl,k7⟩,trivial⟩,fun x=>⟨fun hc=> ?_,fun hc=> ?_⟩⟩
 ·have hlt:=Y9 hc;have ib:=Y7 hlt;have lt:Lt (0+(x.val:Int).toNat) L.length:=by unfold Lt;omega
  refine⟨ib,lt,Z5 (by omega),ib,lt,Z5 (by omega),ib,lt,Z5 (by omega),ib,lt,Z5 (by omega),Z5 (by omega),⟨x.val+1,hlt⟩,⟨⟨⟨rfl,rfl⟩,by dsimp only;omega,by dsimp only;omega,trivial⟩,⟨rfl,fun j _=> ?_⟩,trivial⟩,V9.ext_lt hlt⟩
  exact yW (m:=4) (fun _=>rfl) (fun _=>rfl) x.val [(0,.int .i64 (((k+4*x.val:Nat):Int))),(1,.int .i64 (((k+4*x.val:Nat):Int)+1)),(2,.int .i64 (((k+4*x.val:Nat):Int)+1+1)),(3,.int .i64 (((k+4*x.val:Nat):Int)+1+1+1))] (by simp) (by unfold Y2 S9;rw[A6 _ hlt];rfl) j
 ·have hx:x.val=L.length:=by have:=x.2;have:=Y3 hc;omega
  rw[hx];exact⟨⟨rfl,trivial⟩,⟨(S0 _ _).symm,xZ⟩,trivial⟩
def a4r:Con:=.rel ⟨Nat×Nat,fun x=>[w7 (S9 x.1 x.2),.int .i64 x.2],fun x=>.int .i64 (x.2+4*x.1:Nat),fun x=>tS x.1 x.2 4⟩
def a7k(n k:Nat):Nat->Ann
 |0=>.one {i:Nat//i<=n} (fun x=>⟨[(0,w7 (S9 n k)),(1,.int .i64 (k+4*x.1:Nat)),(5,.int .i64 x.1)],[]⟩) (fun x=>n-x.1) [] [] (fun _=>Z0)
 |_=>.none
noncomputable def a7b:Code:=Tryz.f107.body.getD .skip
theorem jD:Z7 Tryz.prog 107:=⟨_,Tryz.func107,by kernel_rfl,by kernel_rfl⟩
theorem a7t(n k:Nat)(h:
  (∃(x:{i:Nat//i<=n}),((Y4 Y2 (S9 n k) (S9 n k))/\(k:Int)=(↑(k+4*x.val):Int)/\(0:Int)=(x.val:Int)/\True)/\True)/\∀(x:{i:Nat//i<=n}),(decide ((x.val:Int)<(↑(S9 n k).length:
  Int))=true->X0 (x.val:Int) (S9 n k).length/\((((S9 n k).getD (x.val:Int).toNat default).tx !=(↑(k+4*x.val):Int))=true->(-1:Int)=(↑(k+4*n):Int))/\((((S9 n k).getD (x.val:Int).toNat default).tx !=
  (↑(k+4*x.val):Int))=false->X8 .i64 ((↑(k+4*x.val):Int)+(1:Int))/\X0 (x.val:Int) (S9 n k).length/\((((S9 n k).getD (x.val:Int).toNat default).ta !=(↑(k+4*x.val):Int)+(1:Int))=true->(-1:
  Int)=(↑(k+4*n):Int))/\((((S9 n k).getD (x.val:Int).toNat default).ta !=(↑(k+4*x.val):Int)+(1:Int))=false->X8 .i64 ((↑(k+4*x.val):Int)+(1:Int)+(1:Int))/\X0 (x.val:Int) (S9 n k).length/\
  ((((S9 n k).getD (x.val:Int).toNat default).row !=(↑(k+4*x.val):Int)+(1:Int)+(1:Int))=true->(-1:Int)=(↑(k+4*n):Int))/\((((S9 n k).getD (x.val:Int).toNat default).row !=(↑(k+4*x.val):Int)+
  (1:Int)+(1:Int))=false->X8 .i64 ((↑(k+4*x.val):Int)+(1:Int)+(1:Int)+(1:Int))/\X0 (x.val:Int) (S9 n k).length/\((((S9 n k).getD (x.val:Int).toNat default).mo !=(↑(k+4*x.val):Int)+(1:
  Int)+(1:Int)+(1:Int))=true->(-1:Int)=(↑(k+4*n):Int))/\((((S9 n k).getD (x.val:Int).toNat default).mo !=(↑(k+4*x.val):Int)+(1:Int)+(1:Int)+(1:Int))=false->X8 .i64 ((↑(k+4*x.val):
  Int)+(1:Int)+(1:Int)+(1:Int)+(1:Int))/\X8 .i64 ((x.val:Int)+(1:Int))/\∃(y:{i:Nat//i<=n}),(((Y4 Y2 (S9 n k) (S9 n k))/\(↑(k+4*x.val):Int)+(1:Int)+(1:Int)+(1:Int)+(1
  :Int)=(↑(k+4*y.val):Int)/\(x.val:Int)+(1:Int)=(y.val:Int)/\True)/\True)/\Lt (n-y.val) (n-x.val))))))/\(decide ((x.val:Int)<(↑(S9 n k).length:Int))=false->(↑(k+4*x.val):Int)=(↑(k+4*n):
  Int))):
  Z2 Tryz.prog 107 [w7 (S9 n k),.int .i64 k] (.int .i64 (k+4*n:Nat)):=
 T4 (code:=a7b) gN Tryz.func107 (by kernel_rfl) (by kernel_rfl) (a7k n k) h (by kernel_rfl)
theorem a03:Z1 Tryz.prog 107 a4r:=by
 rintro⟨n,k⟩ ⟨h1,h2,h3⟩;dsimp only at h1 h2 h3;have hn:(S9 n k).length=n:=S0 _ _;refine a7t n k ⟨⟨⟨0,T0 _⟩,⟨⟨rfl,Z9 _ _⟩,rfl,rfl,trivial⟩,trivial⟩,fun x=>⟨fun hc=> ?_,fun hc=> ?_⟩⟩
 ·have hlt:=Y9 hc;have hlt':x.val<n:=by omega
  have e:(S9 n k).getD (x.val:Int).toNat default=⟨((k+4*x.val:Nat):Int),((k+4*x.val:Nat):Int)+1,((k+4*x.val:Nat):Int)+1+1,((k+4*x.val:Nat):Int)+1+1+1⟩:=by rw[v4];exact A6 _ hlt' _
  rw[e];have ib:=Y7 hlt;exact⟨ib,fun h=>by simp at h,fun _=>⟨Z5 (by omega),ib,fun h=>by simp at h,fun _=>⟨Z5 (by omega),ib,fun h=>by simp at h,fun _=>⟨Z5 (by omega),ib,fun h=>by simp at h,fun _=>⟨Z5 (by omega),Z5 (by omega),⟨x.val+1,hlt'⟩,⟨⟨⟨rfl,Z9 _ _⟩,by dsimp only;omega,by dsimp only;omega,trivial⟩,trivial⟩,V9.ext_lt hlt'⟩⟩⟩⟩⟩
 ·have hx:x.val=n:=by have:=x.2;have:=Y3 hc;omega
  rw[hx]
def wtA(L:List Wt):Option Ob:=some (.arr true 0 2 L.length (X3 L))
theorem mV(L:List Wt):K7 [wtA L]:=F6 (fun i _ t ht=>by
 simp only[X3,Wt.ts,zJ,j_j,or_false] at ht;rcases ht with rfl|rfl<;>rfl) C5
def c6w:Con:=.rmk ⟨List Wt,fun L=>[tT L],fun _=>[],fun L=>.osl 0 0 L.length,fun L=>[wtA L],fun L=>L.length<=1048576⟩
noncomputable def c6C:Code:=Tryz.f166.body.getD .skip
theorem b2q:Z7 Tryz.prog 166:=⟨_,Tryz.func166,by kernel_rfl,by kernel_rfl⟩
theorem c6K(L:List Wt)(h:
  ∀(b:Bool),(b=true->L.length=0)->(b=true->((0=0/\0=L.length)/\True)/\(0=L.length/\Z8 0 (fun(x:Nat)=>[]) (X3 L))/\True)/\(b=false->(Le 0 0/\V7 0 L.length 16)/\((0=0/\0+L.length=
  L.length)/\True)/\(0+L.length=L.length/\Z8 (0+L.length) (W6 (fun(k:Nat)=>List.take 2 (List.drop (k*2) [])) 0 (X3 L)) (X3 L))/\True)):
  V3 Tryz.prog 166 [tT L] [] (.osl 0 0 L.length) [wtA L]:=
 v5 (code:=c6C) gN Tryz.func166 (by kernel_rfl) (by kernel_rfl) Z0 [[.arr 1],[.nilS 0 [] 0 2,.arr 0]] h (by kernel_rfl)
theorem c3C:Z1 Tryz.prog 166 c6w:=fun(L:List Wt) (hL:L.length<=1048576)=>
 ⟨c6K L (fun b hb=>⟨fun h=>⟨⟨⟨rfl,(hb h).symm⟩,trivial⟩,⟨(hb h).symm,fun i hi=>absurd hi (J2 _)⟩,trivial⟩,fun _=>⟨⟨V5 _,by unfold V7;omega⟩,⟨⟨rfl,by omega⟩,trivial⟩,⟨by omega,E7⟩,trivial⟩⟩),rfl,mV L⟩
def c0T:Con:=.rmk ⟨List Wt,fun L=>[tT L],fun _=>[],fun L=>.osl 0 0 L.length,fun L=>[wtA L],fun L=>L.length<=1048576⟩
noncomputable def c1i:Code:=Tryz.f86.body.getD .skip
theorem a8c:Z7 Tryz.prog 86:=⟨_,Tryz.func86,by kernel_rfl,by kernel_rfl⟩
theorem c2W(L:List Wt)(h:
  (Nn (L.length:Int)/\kF (L.length:Int) (L.length:Int)/\I4 16 (L.length:Int).toNat 140737488355328/\Lt (L.length:Int).toNat 9223372036854775808)/\(∃(x:{i:Nat//i<=L.length}),((Y4 X3 L L)/\(0=0/\
  (L.length:Int).toNat=L.length)/\(0:Int)=(x.val:Int)/\True)/\((L.length:Int).toNat=L.length/\Z8 (L.length:Int).toNat (fun(x:Nat)=>[T.int .i64 (0:Int),T.int .i64 (0:Int)]) (o7 (X3 L) [T.int .i64 (0:
  Int),T.int .i64 (0:Int)] x.val))/\True)/\∀(x:{i:Nat//i<=L.length}),(decide ((x.val:Int)<(L.length:Int))=true->X0 (x.val:Int) L.length/\∃(x_1:b7c.ι),((((L.getD (x.val:Int).toNat default).tx=x_1.tx/\
  (L.getD (x.val:Int).toNat default).fo=x_1.fo/\True)/\True)/\True)/\X0 (x.val:Int) L.length/\Lt (0+(x.val:Int).toNat) L.length/\X8 .i64 ((x.val:Int)+(1:Int))/\∃(y:{i:Nat//i<=L.length}),(((Y4 X3 L L)
  /\(0=0/\L.length=L.length)/\(x.val:Int)+(1:Int)=(y.val:Int)/\True)/\(L.length=L.length/\Z8 L.length (setRow (o7 (X3 L) [T.int .i64 (0:Int),T.int .i64 (0:Int)] x.val) (0+(x.val:Int).toNat) 0 [T.int
  .i64 x_1.tx,T.int .i64 x_1.fo]) (o7 (X3 L) [T.int .i64 (0:Int),T.int .i64 (0:Int)] y.val))/\True)/\Lt (L.length-y.val) (L.length-x.val))/\(decide ((x.val:Int)<(L.length:Int))=false->((0=0/\L.length=
  L.length)/\True)/\(L.length=L.length/\Z8 L.length (o7 (X3 L) [T.int .i64 (0:Int),T.int .i64 (0:Int)] x.val) (X3 L))/\True)):
  V3 Tryz.prog 86 [tT L] [] (.osl 0 0 L.length) [wtA L]:=
 v5 (code:=c1i) (gC c4j b4x gN) Tryz.func86 (by kernel_rfl) (by kernel_rfl) (c3k L) [[.arr 0]] h (by kernel_rfl)
theorem b7q:Z1 Tryz.prog 86 c0T:=by
 intro(L:List Wt) (hL:L.length<=1048576);refine⟨c2W L ⟨⟨by unfold Nn;omega,by unfold kF;omega,by unfold I4;omega,by unfold Lt;omega⟩,⟨⟨0,T0 _⟩,⟨⟨(by trivial),Z9 _ _⟩,⟨(by trivial),by omega⟩,rfl,trivial⟩,⟨by omega,yX⟩,trivial⟩,fun x=>⟨fun hc=> ?_,fun hc=> ?_⟩⟩,rfl,mV L⟩
 ·have hlt:=Y9 hc;refine⟨Y7 hlt,L.getD x.val default,⟨⟨⟨rfl,rfl,trivial⟩,trivial⟩,trivial⟩,Y7 hlt,by unfold Lt;omega,W4 hlt (by omega),⟨x.val+1,hlt⟩,⟨⟨⟨(by trivial),Z9 _ _⟩,⟨(by trivial),(by trivial)⟩,by simp only;omega,trivial⟩,⟨(by trivial),fun j hj=> ?_⟩,trivial⟩,V9.ext_lt hlt⟩
  exact l6 (m:=2) (fun _=>rfl) rfl x.val rfl j
 ·have hx:x.val=L.length:=by have:=x.2;have:=Y3 hc;omega
  rw[hx];exact⟨⟨⟨rfl,rfl⟩,trivial⟩,⟨rfl,fun i hi=>xT (n:=L.length) i (by omega)⟩,trivial⟩
def M7(n k:Nat):List Wt:=(List.range n).map fun i=>⟨((k+2*i:Nat):Int),((k+2*i:Nat):Int)+1⟩
def b0o:Con:=.reff ⟨List Wt×Nat,fun x=>[.osl 0 0 x.1.length,.int .i64 x.2],fun x=>[wtA x.1],fun x=>.int .i64 (x.2+2*x.1.length:Nat),fun x=>[wtA (M7 x.1.length x.2)],fun x=>tS x.1.length x.2 2⟩
def b4j(L:List Wt)(k:Nat):Nat->Ann
 |0=>.one {i:Nat//i<=L.length} (fun x=>⟨[(0,.osl 0 0 L.length),(1,.int .i64 (k+2*x.1:Nat)),(5,.int .i64 x.1)],[some (.arr true 0 2 L.length (z8 (X3 (M7 L.length k)) (X3 L) x.1))]⟩) (fun x=>L.length-x.1) [.arr 0] [.arr 0] (fun _=>Z0)
 |_=>.none
noncomputable def b2W:Code:=Tryz.f103.body.getD .skip
theorem cD:Z7 Tryz.prog 103:=⟨_,Tryz.func103,by kernel_rfl,by kernel_rfl⟩
theorem b4c(L:List Wt)(k:Nat)(h:
  (∃(x:{i:Nat//i<=L.length}),((0=0/\L.length=L.length)/\(k:Int)=(↑(k+2*x.val):Int)/\(0:Int)=(x.val:Int)/\True)/\(L.length=L.length/\Z8 L.length (X3 L) (z8 (X3 (M7 L.length k)) (X3
  L) x.val))/\True)/\∀(x:{i:Nat//i<=L.length}),(decide ((x.val:Int)<(L.length:Int))=true->X0 (x.val:Int) L.length/\Lt (0+(x.val:Int).toNat) L.length/\X8 .i64 ((↑(k+2*x.val):Int)+(1:Int))/\X0
  (x.val:Int) L.length/\Lt (0+(x.val:Int).toNat) L.length/\X8 .i64 ((↑(k+2*x.val):Int)+(1:Int)+(1:Int))/\X8 .i64 ((x.val:Int)+(1:Int))/\∃(y:{i:Nat//i<=L.length}),(((0=0/\L.length=L.length)/\
  (↑(k+2*x.val):Int)+(1:Int)+(1:Int)=(↑(k+2*y.val):Int)/\(x.val:Int)+(1:Int)=(y.val:Int)/\True)/\(L.length=L.length/\Z8 L.length (setRow (setRow (z8 (X3 (M7 L.length k)) (X3 L) x.val)
  (0+(x.val:Int).toNat) 0 [T.int .i64 (↑(k+2*x.val):Int)]) (0+(x.val:Int).toNat) 1 [T.int .i64 ((↑(k+2*x.val):Int)+(1:Int))]) (z8 (X3 (M7 L.length k)) (X3 L) y.val))/\True)/\Lt (L.length-y.val)
  (L.length-x.val))/\(decide ((x.val:Int)<(L.length:Int))=false->((↑(k+2*x.val):Int)=(↑(k+2*L.length):Int)/\True)/\(L.length=(M7 L.length k).length/\Z8 L.length (z8 (X3 (M7 L.length k)) (X3
  L) x.val) (X3 (M7 L.length k)))/\True)):
  V3 Tryz.prog 103 [.osl 0 0 L.length,.int .i64 k] [wtA L] (.int .i64 (k+2*L.length:Nat)) [wtA (M7 L.length k)]:=
 v5 (code:=b2W) gN Tryz.func103 (by kernel_rfl) (by kernel_rfl) (b4j L k) [[.arr 0]] h (by kernel_rfl)
theorem a63:Z1 Tryz.prog 103 b0o:=by
 rintro⟨L,k⟩ ⟨h1,h2,h3⟩;dsimp only at h1 h2 h3;refine b4c L k ⟨⟨⟨0,T0 _⟩,⟨⟨rfl,rfl⟩,rfl,rfl,trivial⟩,⟨rfl,k7⟩,trivial⟩,fun x=>⟨fun hc=> ?_,fun hc=> ?_⟩⟩
 ·have hlt:=Y9 hc;have ib:=Y7 hlt;have lt:Lt (0+(x.val:Int).toNat) L.length:=by unfold Lt;omega
  refine⟨ib,lt,Z5 (by omega),ib,lt,Z5 (by omega),Z5 (by omega),⟨x.val+1,hlt⟩,⟨⟨⟨rfl,rfl⟩,by dsimp only;omega,by dsimp only;omega,trivial⟩,⟨rfl,fun j _=> ?_⟩,trivial⟩,V9.ext_lt hlt⟩
  exact yW (m:=2) (fun _=>rfl) (fun _=>rfl) x.val [(0,.int .i64 (((k+2*x.val:Nat):Int))),(1,.int .i64 (((k+2*x.val:Nat):Int)+1))] (by simp) (by unfold X3 M7;rw[A6 _ hlt];rfl) j
 ·have hx:x.val=L.length:=by have:=x.2;have:=Y3 hc;omega
  rw[hx];exact⟨⟨rfl,trivial⟩,⟨(S0 _ _).symm,xZ⟩,trivial⟩
def b2v:Con:=.rel ⟨Nat×Nat,fun x=>[tT (M7 x.1 x.2),.int .i64 x.2],fun x=>.int .i64 (x.2+2*x.1:Nat),fun x=>tS x.1 x.2 2⟩
def b2O(n k:Nat):Nat->Ann
 |0=>.one {i:Nat//i<=n} (fun x=>⟨[(0,tT (M7 n k)),(1,.int .i64 (k+2*x.1:Nat)),(5,.int .i64 x.1)],[]⟩) (fun x=>n-x.1) [] [] (fun _=>Z0)
 |_=>.none
noncomputable def b1Q:Code:=Tryz.f108.body.getD .skip
theorem aB:Z7 Tryz.prog 108:=⟨_,Tryz.func108,by kernel_rfl,by kernel_rfl⟩
theorem b3o(n k:Nat)(h:
  (∃(x:{i:Nat//i<=n}),((Y4 X3 (M7 n k) (M7 n k))/\(k:Int)=(↑(k+2*x.val):Int)/\(0:Int)=(x.val:Int)/\True)/\True)/\∀(x:{i:Nat//i<=n}),(decide ((x.val:Int)<(↑(M7 n k).length:Int))=
  true->X0 (x.val:Int) (M7 n k).length/\((((M7 n k).getD (x.val:Int).toNat default).tx !=(↑(k+2*x.val):Int))=true->(-1:Int)=(↑(k+2*n):Int))/\((((M7 n k).getD (x.val:Int).toNat default).tx !=(↑(k+2*
  x.val):Int))=false->X8 .i64 ((↑(k+2*x.val):Int)+(1:Int))/\X0 (x.val:Int) (M7 n k).length/\((((M7 n k).getD (x.val:Int).toNat default).fo !=(↑(k+2*x.val):Int)+(1:Int))=true->(-1:Int)=(↑(k+
  2*n):Int))/\((((M7 n k).getD (x.val:Int).toNat default).fo !=(↑(k+2*x.val):Int)+(1:Int))=false->X8 .i64 ((↑(k+2*x.val):Int)+(1:Int)+(1:Int))/\X8 .i64 ((x.val:Int)+(1:Int))/\∃(y:{i:
  Nat//i<=n}),(((Y4 X3 (M7 n k) (M7 n k))/\(↑(k+2*x.val):Int)+(1:Int)+(1:Int)=(↑(k+2*y.val):Int)/\(x.val:Int)+(1:Int)=(y.val:Int)/\True)/\True)/\Lt (n-y.val) (n-x.val))))/\(decide
  ((x.val:Int)<(↑(M7 n k).length:Int))=false->(↑(k+2*x.val):Int)=(↑(k+2*n):Int))):
  Z2 Tryz.prog 108 [tT (M7 n k),.int .i64 k] (.int .i64 (k+2*n:Nat)):=
 T4 (code:=b1Q) gN Tryz.func108 (by kernel_rfl) (by kernel_rfl) (b2O n k) h (by kernel_rfl)
theorem a7W:Z1 Tryz.prog 108 b2v:=by
 rintro⟨n,k⟩ ⟨h1,h2,h3⟩;dsimp only at h1 h2 h3;have hn:(M7 n k).length=n:=S0 _ _;refine b3o n k ⟨⟨⟨0,T0 _⟩,⟨⟨rfl,Z9 _ _⟩,rfl,rfl,trivial⟩,trivial⟩,fun x=>⟨fun hc=> ?_,fun hc=> ?_⟩⟩
 ·have hlt:=Y9 hc;have hlt':x.val<n:=by omega
  have e:(M7 n k).getD (x.val:Int).toNat default=⟨((k+2*x.val:Nat):Int),((k+2*x.val:Nat):Int)+1⟩:=by rw[v4];exact A6 _ hlt' _
  rw[e];have ib:=Y7 hlt;exact⟨ib,fun h=>by simp at h,fun _=>⟨Z5 (by omega),ib,fun h=>by simp at h,fun _=>⟨Z5 (by omega),Z5 (by omega),⟨x.val+1,hlt'⟩,⟨⟨⟨rfl,Z9 _ _⟩,by dsimp only;omega,by dsimp only;omega,trivial⟩,trivial⟩,V9.ext_lt hlt'⟩⟩⟩
 ·have hx:x.val=n:=by have:=x.2;have:=Y3 hc;omega
  rw[hx]
def c6o:Con:=.tmp
theorem zN:Z7 Tryz.prog 37:=⟨_,Tryz.func37,by kernel_rfl,by kernel_rfl⟩
theorem sL:Z1 Tryz.prog 37 c6o:=trivial
def c7e:Con:=.tmp
theorem fU:Z7 Tryz.prog 185:=⟨_,Tryz.func185,by kernel_rfl,by kernel_rfl⟩
theorem a9W:Z1 Tryz.prog 185 c7e:=trivial
def c5k:Con:=.tmp
theorem b2f:Z7 Tryz.prog 109:=⟨_,Tryz.func109,by kernel_rfl,by kernel_rfl⟩
theorem c3W:Z1 Tryz.prog 109 c5k:=trivial
def Lks.tm(l:Lks)(b:Nat):List T:=[.osl b 0 l.held.length,.osl (b+1) 0 l.waits.length]
def Lks.hp(l:Lks):Y6:=[rI l.held,wtA l.waits]
theorem rA(l:Lks):K7 l.hp:=z7 (qZ _) (mV _)
def c1F:Con:=.rmk ⟨Lks,fun l=>[.agg l.ts],fun _=>[],fun l=>.agg (l.tm 0),fun l=>l.hp,vE⟩
noncomputable def c11:Code:=Tryz.f91.body.getD .skip
theorem a6O:Z7 Tryz.prog 91:=⟨_,Tryz.func91,by kernel_rfl,by kernel_rfl⟩
theorem c2K(l:Lks)(h:
  ∃(x:(List Lck)),(((l.held.length=List.length x/\Z8 l.held.length (Y2 l.held) (Y2 x))/\True)/\List.length x<=1048576)/\∃(x_1:(List Wt)),(((l.waits.length=List.length x_1/\Z8 l.waits.length (X3
  l.waits) (X3 x_1))/\True)/\List.length x_1<=1048576)/\(((0=0/\List.length x=l.held.length)/\(0=0/\List.length x_1=l.waits.length)/\True)/\True)/\(List.length x=l.held.length/\Z8 (List.length x) (Y2
  x) (Y2 l.held))/\(List.length x_1=l.waits.length/\Z8 (List.length x_1) (X3 x_1) (X3 l.waits))/\True):
  V3 Tryz.prog 91 [.agg l.ts] [] (.agg (l.tm 0)) l.hp:=
 v5 (code:=c11) (gC b60 a76 (gC c3C b2q gN)) Tryz.func91 (by kernel_rfl) (by kernel_rfl) Z0 [[.arr 2,.arr 3]] h (by kernel_rfl)
theorem b8Z:Z1 Tryz.prog 91 c1F:=by
 rintro(l:Lks) ⟨h1,h2⟩;exact⟨c2K l ⟨l.held,⟨⟨⟨rfl,Z9 _ _⟩,trivial⟩,h1⟩,l.waits,⟨⟨⟨rfl,Z9 _ _⟩,trivial⟩,h2⟩,⟨⟨⟨rfl,rfl⟩,⟨rfl,rfl⟩,trivial⟩,trivial⟩,⟨rfl,Z9 _ _⟩,⟨rfl,Z9 _ _⟩,trivial⟩,rfl,rA l⟩
def b5P:Con:=.rel ⟨Lks,fun l=>[.agg l.ts],fun l=>.agg l.ts,vE⟩
noncomputable def b9E:Code:=Tryz.f80.body.getD .skip
theorem a1H:Z7 Tryz.prog 80:=⟨_,Tryz.func80,by kernel_rfl,by kernel_rfl⟩
theorem b6N(l:Lks)(h:
  V7 0 l.held.length 32/\V7 0 l.waits.length 16/\(Y4 Y2 l.held l.held)/\(Y4 X3 l.waits l.waits)/\True):
  Z2 Tryz.prog 80 [.agg l.ts] (.agg l.ts):=
 T4 (code:=b9E) (gC sL zN (gC a9W fU (gC c3W b2f gN))) Tryz.func80 (by kernel_rfl) (by kernel_rfl) Z0 h (by kernel_rfl)
theorem b0W:Z1 Tryz.prog 80 b5P:=by
 rintro(l:Lks) ⟨h1,h2⟩;exact b6N l ⟨by unfold V7;omega,by unfold V7;omega,⟨rfl,Z9 _ _⟩,⟨rfl,Z9 _ _⟩,trivial⟩
def c3O:Con:=.rmk ⟨Lks,fun l=>[.agg l.ts],fun _=>[],fun l=>.agg (l.tm 0),fun l=>l.hp,vE⟩
noncomputable def c1Q:Code:=Tryz.f40.body.getD .skip
theorem a7H:Z7 Tryz.prog 40:=⟨_,Tryz.func40,by kernel_rfl,by kernel_rfl⟩
theorem c1h(l:Lks)(h:
  ∃(x:(List Lck)),(((l.held.length=List.length x/\Z8 l.held.length (Y2 l.held) (Y2 x))/\True)/\List.length x<=1048576)/\∃(x_1:(List Wt)),(((l.waits.length=List.length x_1/\Z8 l.waits.length (X3
  l.waits) (X3 x_1))/\True)/\List.length x_1<=1048576)/\(((0=0/\List.length x=l.held.length)/\(0=0/\List.length x_1=l.waits.length)/\True)/\True)/\(List.length x=l.held.length/\Z8 (List.length x) (Y2
  x) (Y2 l.held))/\(List.length x_1=l.waits.length/\Z8 (List.length x_1) (X3 x_1) (X3 l.waits))/\True):
  V3 Tryz.prog 40 [.agg l.ts] [] (.agg (l.tm 0)) l.hp:=
 v5 (code:=c1Q) (gC a94 a1d (gC b7q a8c gN)) Tryz.func40 (by kernel_rfl) (by kernel_rfl) Z0 [[.arr 3,.arr 4]] h (by kernel_rfl)
theorem b7p:Z1 Tryz.prog 40 c3O:=by
 rintro(l:Lks) ⟨h1,h2⟩;exact⟨c1h l ⟨l.held,⟨⟨⟨rfl,Z9 _ _⟩,trivial⟩,h1⟩,l.waits,⟨⟨⟨rfl,Z9 _ _⟩,trivial⟩,h2⟩,⟨⟨⟨rfl,rfl⟩,⟨rfl,rfl⟩,trivial⟩,trivial⟩,⟨rfl,Z9 _ _⟩,⟨rfl,Z9 _ _⟩,trivial⟩,rfl,rA l⟩
def a18(l:Lks)(k:Nat):Lks:=⟨S9 l.held.length k,M7 l.waits.length (k+4*l.held.length)⟩
def qP(l:Lks)(k:Nat):Nat:=k+4*l.held.length+2*l.waits.length
def KBl(l:Lks)(k:Nat):Prop:=vE l/\1<=k/\k<=9000000000000
def b1d:Con:=.reff ⟨Lks×Nat,fun x=>[.agg (x.1.tm 0),.int .i64 x.2],fun x=>x.1.hp,fun x=>.int .i64 (qP x.1 x.2),fun x=>(a18 x.1 x.2).hp,fun x=>KBl x.1 x.2⟩
noncomputable def a95:Code:=Tryz.f49.body.getD .skip
theorem bB:Z7 Tryz.prog 49:=⟨_,Tryz.func49,by kernel_rfl,by kernel_rfl⟩
theorem b1S(l:Lks)(k:Nat)(h:
  ∃(x:(List Lck×Nat)),(((0=0/\l.held.length=x.fst.length)/\(k:Int)=(x.snd:Int)/\True)/\((Y4 Y2 l.held x.fst)/\True)/\tS x.fst.length x.snd 4)/\∃(x_1:(List Wt×Nat)),(((0=0/\l.waits.length=
  x_1.fst.length)/\(↑(x.snd+4*x.fst.length):Int)=(x_1.snd:Int)/\True)/\((Y4 X3 l.waits x_1.fst)/\True)/\tS x_1.fst.length x_1.snd 2)/\((↑(x_1.snd+2*x_1.fst.length):Int)=(↑(qP l k):Int)/\True)/\(Y4
  Y2 (S9 x.fst.length x.snd) (S9 l.held.length k))/\(Y4 X3 (M7 x_1.fst.length x_1.snd) (M7 l.waits.length (k+4*l.held.length)))/\True):
  V3 Tryz.prog 49 [.agg (l.tm 0),.int .i64 k] l.hp (.int .i64 (qP l k)) (a18 l k).hp:=
 v5 (code:=a95) (gC a2I jJ (gC a63 cD gN)) Tryz.func49 (by kernel_rfl) (by kernel_rfl) Z0 [[.arr 0,.arr 1]] h (by kernel_rfl)
theorem a4K:Z1 Tryz.prog 49 b1d:=by
 rintro⟨l,k⟩ ⟨⟨h1,h2⟩,h4,h5⟩;dsimp only at h1 h2 h4 h5;exact b1S l k ⟨(l.held,k),⟨⟨⟨rfl,rfl⟩,rfl,trivial⟩,⟨⟨rfl,Z9 _ _⟩,trivial⟩,h1,h4,by dsimp only;omega⟩,(l.waits,k+4*l.held.length),⟨⟨⟨rfl,rfl⟩,rfl,trivial⟩,⟨⟨rfl,Z9 _ _⟩,trivial⟩,h2,by dsimp only;omega,by dsimp only;omega⟩,⟨rfl,trivial⟩,⟨rfl,Z9 _ _⟩,⟨rfl,Z9 _ _⟩,trivial⟩
def b0L:Con:=.rel ⟨Lks×Nat,fun x=>[.agg (a18 x.1 x.2).ts,.int .i64 x.2],fun x=>.int .i64 (qP x.1 x.2),fun x=>KBl x.1 x.2⟩
noncomputable def b4A:Code:=Tryz.f52.body.getD .skip
theorem a0u:Z7 Tryz.prog 52:=⟨_,Tryz.func52,by kernel_rfl,by kernel_rfl⟩
theorem b1C(l:Lks)(k:Nat)(h:
  ∃(x:(Nat×Nat)),(((Y4 Y2 (S9 l.held.length k) (S9 x.fst x.snd))/\(k:Int)=(x.snd:Int)/\True)/\tS x.fst x.snd 4)/\(decide ((↑(x.snd+4*x.fst):Int)<(0:Int))=true->(-1:Int)=(↑(qP l k):Int))/\
  (decide ((↑(x.snd+4*x.fst):Int)<(0:Int))=false->∃(x_1:(Nat×Nat)),(((Y4 X3 (M7 l.waits.length (k+4*l.held.length)) (M7 x_1.fst x_1.snd))/\(↑(x.snd+4*x.fst):Int)=(x_1.snd:Int)/\True)/\tS
  x_1.fst x_1.snd 2)/\(decide ((↑(x_1.snd+2*x_1.fst):Int)<(0:Int))=true->(-1:Int)=(↑(qP l k):Int))/\(decide ((↑(x_1.snd+2*x_1.fst):Int)<(0:Int))=false->(↑(x_1.snd+2*x_1.fst):Int)=(↑(qP l
  k):Int)))):
  Z2 Tryz.prog 52 [.agg (a18 l k).ts,.int .i64 k] (.int .i64 (qP l k)):=
 T4 (code:=b4A) (gC a03 jD (gC a7W aB gN)) Tryz.func52 (by kernel_rfl) (by kernel_rfl) Z0 h (by kernel_rfl)
theorem ngN(n:Nat)(h:decide ((n:Int)<0)=true){p:Prop}:p:=absurd (D8 h) (by omega)
theorem a6i:Z1 Tryz.prog 52 b0L:=by
 rintro⟨l,k⟩ ⟨⟨h1,h2⟩,h4,h5⟩;dsimp only at h1 h2 h4 h5;exact b1C l k ⟨(l.held.length,k),⟨⟨⟨rfl,Z9 _ _⟩,rfl,trivial⟩,h1,h4,by dsimp only;omega⟩,fun h=>ngN _ h,fun _=>⟨(l.waits.length,k+4*l.held.length),⟨⟨⟨rfl,Z9 _ _⟩,rfl,trivial⟩,h2,by dsimp only;omega,by dsimp only;omega⟩,fun h=>ngN _ h,fun _=>rfl⟩⟩
end Go.Proofs.YtokaojbaacnngaaGreat

namespace Go.Proofs.YtokaojbaacnngaaGreat
set_option maxRecDepth 100000
open Go.SS

def Eng.tm(e:Eng)(b:Nat):List T:=[.osl b 0 e.s.d.sec.length,.osl (b+1) 0 e.s.d.cache.length,.bool e.s.d.armed,.osl (b+2) 0 e.s.d.keep.length,.int .i64 e.s.ep,.osl (b+3) 0 e.s.log.length,.int .i64 e.s.sure,.osl (b+4) 0 e.s.fr.length,.int .i64 e.s.hand,.bool e.up,.osl (b+5) 0 e.txs.length,.osl (b+6) 0 e.lk.held.length,.osl (b+7) 0 e.lk.waits.length,.int .i64 e.next]
def Eng.hp(e:Eng)(v:Nat):Y6:=[G8 e.s.d.sec,I8 e.s.d.cache,B2 e.s.d.keep,w9 e.s.log,yU v e.s.fr e.s.fr.length,qM e.txs,rI e.lk.held,wtA e.lk.waits]
abbrev jA(a b:Eng):Prop:=Y4 Z6 a.s.d.sec b.s.d.sec/\Y4 Z3 a.s.d.cache b.s.d.cache/\a.s.d.armed=b.s.d.armed/\Y4 Y8 a.s.d.keep b.s.d.keep/\a.s.ep=b.s.ep/\Y4 Y5 a.s.log b.s.log/\a.s.sure=b.s.sure/\(a.s.fr.length=b.s.fr.length/\Z8 a.s.fr.length (a0n (X9 a.s.fr)) (V6 b.s.fr))/\a.s.hand=b.s.hand/\a.up=b.up/\Y4 Y0 a.txs b.txs/\Y4 Y2 a.lk.held b.lk.held/\Y4 X3 a.lk.waits b.lk.waits/\a.next=b.next/\True
abbrev b10(a b:Eng):Prop:=((0:Nat)=0/\a.s.d.sec.length=b.s.d.sec.length)/\((0:Nat)=0/\a.s.d.cache.length=b.s.d.cache.length)/\a.s.d.armed=b.s.d.armed/\((0:Nat)=0/\a.s.d.keep.length=b.s.d.keep.length)/\a.s.ep=b.s.ep/\((0:Nat)=0/\a.s.log.length=b.s.log.length)/\a.s.sure=b.s.sure/\((0:Nat)=0/\a.s.fr.length=b.s.fr.length)/\a.s.hand=b.s.hand/\a.up=b.up/\((0:Nat)=0/\a.txs.length=b.txs.length)/\((0:Nat)=0/\a.lk.held.length=b.lk.held.length)/\((0:Nat)=0/\a.lk.waits.length=b.lk.waits.length)/\a.next=b.next/\True
abbrev b2Y(v u:Nat)(a b:Eng):Prop:=Y4 Z6 a.s.d.sec b.s.d.sec/\Y4 Z3 a.s.d.cache b.s.d.cache/\Y4 Y8 a.s.d.keep b.s.d.keep/\Y4 Y5 a.s.log b.s.log/\(v=u/\a.s.fr.length=b.s.fr.length/\T5 a.s.fr.length (X9 a.s.fr) (X9 b.s.fr))/\Y4 Y0 a.txs b.txs/\Y4 Y2 a.lk.held b.lk.held/\Y4 X3 a.lk.waits b.lk.waits/\True
abbrev LeG(a:Eng):Prop:=Le (0+a.s.d.sec.length) a.s.d.sec.length/\Le (0+a.s.d.cache.length) a.s.d.cache.length/\Le (0+a.s.d.keep.length) a.s.d.keep.length/\Le (0+a.s.log.length) a.s.log.length/\Le (0+a.s.fr.length) a.s.fr.length/\Le (0+a.txs.length) a.txs.length/\Le (0+a.lk.held.length) a.lk.held.length/\Le (0+a.lk.waits.length) a.lk.waits.length
theorem rD(e:Eng)(v:Nat):K7 (e.hp v):=z7 (H:=e.s.hp v) (wA _ _) (z7 (H:=[qM e.txs]) (rG _) (rA e.lk))
def c1U:Con:=.rmk ⟨Eng,fun e=>[.agg e.ts],fun _=>[],fun e=>.agg (e.tm 0),fun e=>e.hp 0,L5⟩
noncomputable def c10:Code:=Tryz.f42.body.getD .skip
theorem a8d:Z7 Tryz.prog 42:=⟨_,Tryz.func42,by kernel_rfl,by kernel_rfl⟩
theorem c15(e:Eng)(h:
  ∃(x:Sto),(((xM e.s x)/\True)/\SmS x)/\∃(x_1:(List Txn)),(((e.txs.length=List.length x_1/\Z8 e.txs.length (Y0 e.txs) (Y0 x_1))/\True)/\List.length x_1<=1048576)/\∃(x_2:Lks),((((Y4 Y2
  e.lk.held x_2.held)/\(Y4 X3 e.lk.waits x_2.waits)/\True)/\True)/\vE x_2)/\(((0=0/\x.d.sec.length=e.s.d.sec.length)/\(0=0/\x.d.cache.length=e.s.d.cache.length)/\x.d.armed=e.s.d.armed/\(0=0/\
  x.d.keep.length=e.s.d.keep.length)/\x.ep=e.s.ep/\(0=0/\x.log.length=e.s.log.length)/\x.sure=e.s.sure/\(0=0/\x.fr.length=e.s.fr.length)/\x.hand=e.s.hand/\e.up=e.up/\(0=0/\List.length x_1=
  e.txs.length)/\(0=0/\x_2.held.length=e.lk.held.length)/\(0=0/\x_2.waits.length=e.lk.waits.length)/\e.next=e.next/\True)/\True)/\(Y4 Z6 x.d.sec e.s.d.sec)/\(Y4 Z3 x.d.cache e.s.d.cache)/\(Y4 Y8
  x.d.keep e.s.d.keep)/\(Y4 Y5 x.log e.s.log)/\(0=0/\x.fr.length=e.s.fr.length/\T5 x.fr.length (X9 x.fr) (X9 e.s.fr))/\(List.length x_1=e.txs.length/\Z8 (List.length x_1) (Y0 x_1) (Y0 e.txs))
  /\(Y4 Y2 x_2.held e.lk.held)/\(Y4 X3 x_2.waits e.lk.waits)/\True):
  V3 Tryz.prog 42 [.agg e.ts] [] (.agg (e.tm 0)) (e.hp 0):=
 v5 (code:=c10) (gC b94 a4k (gC b5H a44 (gC b8Z a6O gN))) Tryz.func42 (by kernel_rfl) (by kernel_rfl) Z0 [[.arr 2,.arr 3,.arr 4,.arr 5,.arr 6,.arr 7,.arr 8,.arr 9]] h (by kernel_rfl)
theorem b9J:Z1 Tryz.prog 42 c1U:=by
 rintro(e:Eng) ⟨h1,h2,h3⟩;exact⟨c15 e ⟨e.s,⟨⟨(wS _),trivial⟩,h1⟩,e.txs,⟨⟨⟨rfl,Z9 _ _⟩,trivial⟩,h2⟩,e.lk,⟨⟨⟨⟨rfl,Z9 _ _⟩,⟨rfl,Z9 _ _⟩,trivial⟩,trivial⟩,h3⟩,⟨⟨⟨rfl,rfl⟩,⟨rfl,rfl⟩,rfl,⟨rfl,rfl⟩,rfl,⟨rfl,rfl⟩,rfl,⟨rfl,rfl⟩,rfl,rfl,⟨rfl,rfl⟩,⟨rfl,rfl⟩,⟨rfl,rfl⟩,rfl,trivial⟩,trivial⟩,⟨rfl,Z9 _ _⟩,⟨rfl,Z9 _ _⟩,⟨rfl,Z9 _ _⟩,⟨rfl,Z9 _ _⟩,⟨rfl,rfl,U3 _⟩,⟨rfl,Z9 _ _⟩,⟨rfl,Z9 _ _⟩,⟨rfl,Z9 _ _⟩,trivial⟩,rfl,rD e 0⟩
def b8Y:Con:=.rel ⟨Eng,fun e=>[.agg e.ts],fun e=>.agg e.ts,L5⟩
noncomputable def b66:Code:=Tryz.f37.body.getD .skip
theorem a0U:Z7 Tryz.prog 37:=⟨_,Tryz.func37,by kernel_rfl,by kernel_rfl⟩
theorem b4P(e:Eng)(h:
  ∃(x:Sto),(((xM e.s x)/\True)/\SmS x)/\(Le 0 0/\V7 0 e.txs.length 16)/\∃(x_1:Lks),((((Y4 Y2 e.lk.held x_1.held)/\(Y4 X3 e.lk.waits x_1.waits)/\True)/\True)/\vE x_1)/\(Le (0+x.d.sec.length)
  x.d.sec.length/\Le (0+x.d.cache.length) x.d.cache.length/\Le (0+x.d.keep.length) x.d.keep.length/\Le (0+x.log.length) x.log.length/\Le (0+x.fr.length) x.fr.length/\Le (0+(0+e.txs.length)) (0+e.txs.length))/\
  (Y4 Z6 x.d.sec e.s.d.sec)/\(Y4 Z3 x.d.cache e.s.d.cache)/\x.d.armed=e.s.d.armed/\(Y4 Y8 x.d.keep e.s.d.keep)/\x.ep=e.s.ep/\(Y4 Y5 x.log e.s.log)/\x.sure=e.s.sure/\(x.fr.length=e.s.fr.length/\
  Z8 x.fr.length (a0n (X9 x.fr)) (V6 e.s.fr))/\x.hand=e.s.hand/\e.up=e.up/\(0+e.txs.length=e.txs.length/\Z8 (0+e.txs.length) (W6 (fun(k:Nat)=>List.take 2 (List.drop (k*2) [])) 0 (Y0
  e.txs)) (Y0 e.txs))/\(Y4 Y2 x_1.held e.lk.held)/\(Y4 X3 x_1.waits e.lk.waits)/\e.next=e.next/\True):
  Z2 Tryz.prog 37 [.agg e.ts] (.agg e.ts):=
 T4 (code:=b66) (gC b0B a3f (gC b0W a1H gN)) Tryz.func37 (by kernel_rfl) (by kernel_rfl) Z0 h (by kernel_rfl)
theorem b2s:Z1 Tryz.prog 37 b8Y:=by
 rintro(e:Eng) ⟨h1,h2,h3⟩;exact b4P e ⟨e.s,⟨⟨(wS _),trivial⟩,h1⟩,⟨V5 _,by unfold V7;omega⟩,e.lk,⟨⟨⟨⟨rfl,Z9 _ _⟩,⟨rfl,Z9 _ _⟩,trivial⟩,trivial⟩,h3⟩,⟨S7 _,S7 _,S7 _,S7 _,S7 _,by unfold Le;omega⟩,⟨rfl,Z9 _ _⟩,⟨rfl,Z9 _ _⟩,rfl,⟨rfl,Z9 _ _⟩,rfl,⟨rfl,Z9 _ _⟩,rfl,⟨rfl,fun _ _=>rfl⟩,rfl,rfl,⟨by omega,E7⟩,⟨rfl,Z9 _ _⟩,⟨rfl,Z9 _ _⟩,rfl,trivial⟩
def c4k:Con:=.rmk ⟨Eng,fun e=>[.agg e.ts],fun _=>[],fun e=>.agg (e.tm 0),fun e=>e.hp e.s.fr.length,L5⟩
noncomputable def c2d:Code:=Tryz.f12.body.getD .skip
theorem a5U:Z7 Tryz.prog 12:=⟨_,Tryz.func12,by kernel_rfl,by kernel_rfl⟩
theorem c1u(e:Eng)(h:
  ∃(x:Sto),(((xM e.s x)/\True)/\SmS x)/\∃(x_1:(List Txn)),(((e.txs.length=List.length x_1/\Z8 e.txs.length (Y0 e.txs) (Y0 x_1))/\True)/\List.length x_1<=1048576)/\∃(x_2:Lks),((((Y4 Y2
  e.lk.held x_2.held)/\(Y4 X3 e.lk.waits x_2.waits)/\True)/\True)/\vE x_2)/\(((0=0/\x.d.sec.length=e.s.d.sec.length)/\(0=0/\x.d.cache.length=e.s.d.cache.length)/\x.d.armed=e.s.d.armed/\(0=0/\
  x.d.keep.length=e.s.d.keep.length)/\x.ep=e.s.ep/\(0=0/\x.log.length=e.s.log.length)/\x.sure=e.s.sure/\(0=0/\x.fr.length=e.s.fr.length)/\x.hand=e.s.hand/\e.up=e.up/\(0=0/\List.length x_1=
  e.txs.length)/\(0=0/\x_2.held.length=e.lk.held.length)/\(0=0/\x_2.waits.length=e.lk.waits.length)/\e.next=e.next/\True)/\True)/\(Y4 Z6 x.d.sec e.s.d.sec)/\(Y4 Z3 x.d.cache e.s.d.cache)/\(Y4 Y8
  x.d.keep e.s.d.keep)/\(Y4 Y5 x.log e.s.log)/\(x.fr.length=e.s.fr.length/\x.fr.length=e.s.fr.length/\T5 x.fr.length (X9 x.fr) (X9 e.s.fr))/\(List.length x_1=e.txs.length/\Z8 (List.length x_1) (Y0
  x_1) (Y0 e.txs))/\(Y4 Y2 x_2.held e.lk.held)/\(Y4 X3 x_2.waits e.lk.waits)/\True):
  V3 Tryz.prog 12 [.agg e.ts] [] (.agg (e.tm 0)) (e.hp e.s.fr.length):=
 v5 (code:=c2d) (gC b9c a8A (gC b3p a1Z (gC b7p a7H gN))) Tryz.func12 (by kernel_rfl) (by kernel_rfl) Z0 [[.arr 3,.arr 4,.arr 5,.arr 6,.arr 7,.arr 8,.arr 9,.arr 10]] h (by kernel_rfl)
theorem b8q:Z1 Tryz.prog 12 c4k:=by
 rintro(e:Eng) ⟨h1,h2,h3⟩;exact⟨c1u e ⟨e.s,⟨⟨(wS _),trivial⟩,h1⟩,e.txs,⟨⟨⟨rfl,Z9 _ _⟩,trivial⟩,h2⟩,e.lk,⟨⟨⟨⟨rfl,Z9 _ _⟩,⟨rfl,Z9 _ _⟩,trivial⟩,trivial⟩,h3⟩,⟨⟨⟨rfl,rfl⟩,⟨rfl,rfl⟩,rfl,⟨rfl,rfl⟩,rfl,⟨rfl,rfl⟩,rfl,⟨rfl,rfl⟩,rfl,rfl,⟨rfl,rfl⟩,⟨rfl,rfl⟩,⟨rfl,rfl⟩,rfl,trivial⟩,trivial⟩,⟨rfl,Z9 _ _⟩,⟨rfl,Z9 _ _⟩,⟨rfl,Z9 _ _⟩,⟨rfl,Z9 _ _⟩,⟨rfl,rfl,U3 _⟩,⟨rfl,Z9 _ _⟩,⟨rfl,Z9 _ _⟩,⟨rfl,Z9 _ _⟩,trivial⟩,rfl,rD e _⟩
def c27(e:Eng)(k:Nat):Eng:={e with s:=b6q e.s k,txs:=Q6 e.txs.length (R0 e.s k),lk:=a18 e.lk (R0 e.s k+2*e.txs.length)}
def r9(e:Eng)(k:Nat):Nat:=qP e.lk (R0 e.s k+2*e.txs.length)
def KBg(e:Eng)(k:Nat):Prop:=L5 e/\1<=k/\k<=100000000
theorem a85{s:Sto}{k:Nat}(h:KBs s k):1<=R0 s k/\R0 s k<=5000000000000:=by
 obtain⟨⟨h1,h2,h3,h4⟩,h6,h7⟩:=h;have hd:S5 s.d k<=110000000:=by unfold S5;obtain⟨a1,a2,a3⟩:=h1;omega
 have hd1:1<=S5 s.d k:=by unfold S5;omega
 have hp:=oR (R7 s.fr) (S5 s.d k+10*s.log.length) (n:=s.fr.length) h4;have hq:S5 s.d k+10*s.log.length<=R6 (R7 s.fr) (S5 s.d k+10*s.log.length) s.fr.length:=o5 (R7 s.fr) (S5 s.d k+10*s.log.length) (i:=0) (T0 _);unfold R0;omega
def b20:Con:=.reff ⟨Eng×Nat×Nat,fun x=>[.agg (x.1.tm 0),.int .i64 x.2.1],fun x=>x.1.hp x.2.2,fun x=>.int .i64 (r9 x.1 x.2.1),fun x=>(c27 x.1 x.2.1).hp x.2.2,fun x=>KBg x.1 x.2.1⟩
noncomputable def b1V:Code:=Tryz.f17.body.getD .skip
theorem cF:Z7 Tryz.prog 17:=⟨_,Tryz.func17,by kernel_rfl,by kernel_rfl⟩
theorem b4h(e:Eng)(k v:Nat)(h:
  ∃(x:(Sto×Nat×Nat)),((((0=0/\e.s.d.sec.length=x.fst.d.sec.length)/\(0=0/\e.s.d.cache.length=x.fst.d.cache.length)/\e.s.d.armed=x.fst.d.armed/\(0=0/\e.s.d.keep.length=x.fst.d.keep.length)/\e.s.ep=
  x.fst.ep/\(0=0/\e.s.log.length=x.fst.log.length)/\e.s.sure=x.fst.sure/\(0=0/\e.s.fr.length=x.fst.fr.length)/\e.s.hand=x.fst.hand/\True)/\(k:Int)=(x.snd.fst:Int)/\True)/\((Y4 Z6 e.s.d.sec x.fst.d.sec)/\
  (Y4 Z3 e.s.d.cache x.fst.d.cache)/\(Y4 Y8 e.s.d.keep x.fst.d.keep)/\(Y4 Y5 e.s.log x.fst.log)/\(v=x.snd.snd/\e.s.fr.length=x.fst.fr.length/\T5 e.s.fr.length (X9 e.s.fr) (X9 x.fst.fr))/\True)/\
  KBs x.fst x.snd.fst)/\∃(x_1:(List Txn×Nat)),(((0=0/\e.txs.length=x_1.fst.length)/\(↑(R0 x.fst x.snd.fst):Int)=(x_1.snd:Int)/\True)/\((Y4 Y0 e.txs x_1.fst)/\True)/\tS x_1.fst.length x_1.snd 2)/\∃(x_2
  :(Lks×Nat)),((((0=0/\e.lk.held.length=x_2.fst.held.length)/\(0=0/\e.lk.waits.length=x_2.fst.waits.length)/\True)/\(↑(x_1.snd+2*x_1.fst.length):Int)=(x_2.snd:Int)/\True)/\((Y4 Y2 e.lk.held
  x_2.fst.held)/\(Y4 X3 e.lk.waits x_2.fst.waits)/\True)/\KBl x_2.fst x_2.snd)/\((↑(qP x_2.fst x_2.snd):Int)=(↑(r9 e k):Int)/\True)/\(Y4 Z6 (y8 x.fst.d.sec.length x.snd.fst) (y8 e.s.d.sec.length k))/\(Y4
  Z3 (o4 x.fst.d.cache.length (x.snd.fst+x.fst.d.sec.length)) (o4 e.s.d.cache.length (k+e.s.d.sec.length)))/\(Y4 Y8 (j7 x.fst.d.keep.length (x.snd.fst+x.fst.d.sec.length+2*x.fst.d.cache.length)) (j7
  e.s.d.keep.length (k+e.s.d.sec.length+2*e.s.d.cache.length)))/\(Y4 Y5 (D9 x.fst.log.length (S5 x.fst.d x.snd.fst)) (D9 e.s.log.length (S5 e.s.d k)))/\(x.snd.snd=v/\(t4 x.fst.fr.length (R7 x.fst.fr) (S5
  x.fst.d x.snd.fst+10*x.fst.log.length)).length=(t4 e.s.fr.length (R7 e.s.fr) (S5 e.s.d k+10*e.s.log.length)).length/\T5 (t4 x.fst.fr.length (R7 x.fst.fr) (S5 x.fst.d x.snd.fst+10*
  x.fst.log.length)).length (X9 (t4 x.fst.fr.length (R7 x.fst.fr) (S5 x.fst.d x.snd.fst+10*x.fst.log.length))) (X9 (t4 e.s.fr.length (R7 e.s.fr) (S5 e.s.d k+10*e.s.log.length))))/\(Y4 Y0 (Q6
  x_1.fst.length x_1.snd) (Q6 e.txs.length (R0 e.s k)))/\(Y4 Y2 (S9 x_2.fst.held.length x_2.snd) (S9 e.lk.held.length (R0 e.s k+2*e.txs.length)))/\(Y4 X3 (M7 x_2.fst.waits.length (x_2.snd+4*
  x_2.fst.held.length)) (M7 e.lk.waits.length (R0 e.s k+2*e.txs.length+4*e.lk.held.length)))/\True):
  V3 Tryz.prog 17 [.agg (e.tm 0),.int .i64 k] (e.hp v) (.int .i64 (r9 e k)) ((c27 e k).hp v):=
 v5 (code:=b1V) (gC a5h eB (gC a0R jR (gC a4K bB gN))) Tryz.func17 (by kernel_rfl) (by kernel_rfl) Z0 [[.arr 0,.arr 1,.arr 2,.arr 3,.arr 4,.arr 5,.arr 6,.arr 7]] h (by kernel_rfl)
theorem a5L:Z1 Tryz.prog 17 b20:=by
 rintro⟨e,k,v⟩ ⟨⟨h1,h2,h3⟩,h6,h7⟩;dsimp only at h1 h2 h3 h6 h7;have hk:KBs e.s k:=⟨h1,h6,h7⟩;obtain⟨g1,g2⟩:=a85 hk;exact b4h e k v ⟨(e.s,k,v),⟨⟨⟨⟨rfl,rfl⟩,⟨rfl,rfl⟩,rfl,⟨rfl,rfl⟩,rfl,⟨rfl,rfl⟩,rfl,⟨rfl,rfl⟩,rfl,trivial⟩,rfl,trivial⟩,⟨⟨rfl,Z9 _ _⟩,⟨rfl,Z9 _ _⟩,⟨rfl,Z9 _ _⟩,⟨rfl,Z9 _ _⟩,⟨rfl,rfl,U3 _⟩,trivial⟩,hk⟩,(e.txs,R0 e.s k),⟨⟨⟨rfl,rfl⟩,rfl,trivial⟩,⟨⟨rfl,Z9 _ _⟩,trivial⟩,h2,g1,by dsimp only;omega⟩,(e.lk,R0 e.s k+2*e.txs.length),⟨⟨⟨⟨rfl,rfl⟩,⟨rfl,rfl⟩,trivial⟩,rfl,trivial⟩,⟨⟨rfl,Z9 _ _⟩,⟨rfl,Z9 _ _⟩,trivial⟩,h3,by dsimp only;omega,by dsimp only;omega⟩,⟨rfl,trivial⟩,⟨rfl,Z9 _ _⟩,⟨rfl,Z9 _ _⟩,⟨rfl,Z9 _ _⟩,⟨rfl,Z9 _ _⟩,⟨rfl,rfl,U3 _⟩,⟨rfl,Z9 _ _⟩,⟨rfl,Z9 _ _⟩,⟨rfl,Z9 _ _⟩,trivial⟩
def b3k:Con:=.rel ⟨Eng×Nat,fun x=>[.agg (c27 x.1 x.2).ts,.int .i64 x.2],fun x=>.int .i64 (r9 x.1 x.2),fun x=>KBg x.1 x.2⟩
noncomputable def b1A:Code:=Tryz.f19.body.getD .skip
theorem cC:Z7 Tryz.prog 19:=⟨_,Tryz.func19,by kernel_rfl,by kernel_rfl⟩
theorem b2E(e:Eng)(k:Nat)(h:
  ∃(x:(Sto×Nat)),((((Y4 Z6 (y8 e.s.d.sec.length k) (y8 x.fst.d.sec.length x.snd))/\(Y4 Z3 (o4 e.s.d.cache.length (k+e.s.d.sec.length)) (o4 x.fst.d.cache.length (x.snd+x.fst.d.sec.length)))/\e.s.d.armed=
  x.fst.d.armed/\(Y4 Y8 (j7 e.s.d.keep.length (k+e.s.d.sec.length+2*e.s.d.cache.length)) (j7 x.fst.d.keep.length (x.snd+x.fst.d.sec.length+2*x.fst.d.cache.length)))/\e.s.ep=x.fst.ep/\(Y4 Y5 (D9
  e.s.log.length (S5 e.s.d k)) (D9 x.fst.log.length (S5 x.fst.d x.snd)))/\e.s.sure=x.fst.sure/\(Y4 V6 (t4 e.s.fr.length (R7 e.s.fr) (S5 e.s.d k+10*e.s.log.length)) (t4 x.fst.fr.length (R7 x.fst.fr) (S5
  x.fst.d x.snd+10*x.fst.log.length)))/\e.s.hand=x.fst.hand/\True)/\(k:Int)=(x.snd:Int)/\True)/\KBs x.fst x.snd)/\(decide ((↑(R0 x.fst x.snd):Int)<(0:Int))=true->(-1:Int)=(↑(r9 e k):Int))/\(decide
  ((↑(R0 x.fst x.snd):Int)<(0:Int))=false->∃(x_1:(Nat×Nat)),(((Y4 Y0 (Q6 e.txs.length (R0 e.s k)) (Q6 x_1.fst x_1.snd))/\(↑(R0 x.fst x.snd):Int)=(x_1.snd:Int)/\True)/\tS x_1.fst x_1.snd 2)/\
  (decide ((↑(x_1.snd+2*x_1.fst):Int)<(0:Int))=true->(-1:Int)=(↑(r9 e k):Int))/\(decide ((↑(x_1.snd+2*x_1.fst):Int)<(0:Int))=false->∃(x:(Lks×Nat)),((((Y4 Y2 (S9 e.lk.held.length (R0
  e.s k+2*e.txs.length)) (S9 x.fst.held.length x.snd))/\(Y4 X3 (M7 e.lk.waits.length (R0 e.s k+2*e.txs.length+4*e.lk.held.length)) (M7 x.fst.waits.length (x.snd+4*x.fst.held.length)))/\True)/\
  (↑(x_1.snd+2*x_1.fst):Int)=(x.snd:Int)/\True)/\KBl x.fst x.snd)/\(decide ((↑(qP x.fst x.snd):Int)<(0:Int))=true->(-1:Int)=(↑(r9 e k):Int))/\(decide ((↑(qP x.fst x.snd):Int)<(0:Int))=false->
  (↑(qP x.fst x.snd):Int)=(↑(r9 e k):Int))))):
  Z2 Tryz.prog 19 [.agg (c27 e k).ts,.int .i64 k] (.int .i64 (r9 e k)):=
 T4 (code:=b1A) (gC a52 aF (gC a2n jO (gC a6i a0u gN))) Tryz.func19 (by kernel_rfl) (by kernel_rfl) Z0 h (by kernel_rfl)
theorem a6S:Z1 Tryz.prog 19 b3k:=by
 rintro⟨e,k⟩ ⟨⟨h1,h2,h3⟩,h6,h7⟩;dsimp only at h1 h2 h3 h6 h7;have hk:KBs e.s k:=⟨h1,h6,h7⟩;obtain⟨g1,g2⟩:=a85 hk;exact b2E e k ⟨(e.s,k),⟨⟨⟨⟨rfl,Z9 _ _⟩,⟨rfl,Z9 _ _⟩,rfl,⟨rfl,Z9 _ _⟩,rfl,⟨rfl,Z9 _ _⟩,rfl,⟨rfl,Z9 _ _⟩,rfl,trivial⟩,rfl,trivial⟩,hk⟩,fun h=>ngN _ h,fun _=>⟨(e.txs.length,R0 e.s k),⟨⟨⟨rfl,Z9 _ _⟩,rfl,trivial⟩,h2,g1,by dsimp only;omega⟩,fun h=>ngN _ h,fun _=>⟨(e.lk,R0 e.s k+2*e.txs.length),⟨⟨⟨⟨rfl,Z9 _ _⟩,⟨rfl,Z9 _ _⟩,trivial⟩,rfl,trivial⟩,h3,by dsimp only;omega,by dsimp only;omega⟩,fun h=>ngN _ h,fun _=>rfl⟩⟩⟩
end Go.Proofs.YtokaojbaacnngaaGreat

