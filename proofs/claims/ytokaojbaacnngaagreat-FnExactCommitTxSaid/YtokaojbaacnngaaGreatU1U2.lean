/- A part of the proof. -/
import Derived.Test.YtokaojbaacnngaaGreatX7
import Derived.Test.YtokaojbaacnngaaGreatW6
import Derived.Test.YtokaojbaacnngaaGreatX1X2X3
import Derived.Test.YtokaojbaacnngaaGreatX4
namespace Go.Proofs.YtokaojbaacnngaaGreat
set_option maxRecDepth 100000
open Go.SS

def a1l(L:List Txn):Option Ob:=some (.arr true 0 2 L.length (X9 L))
theorem a2G(L:List Txn):L1 [a1l L]:=H5 (fun i _ t ht=>by
 simp only[X9,Txn.ts,List.mem_cons,List.not_mem_nil,or_false] at ht;rcases ht with rfl|rfl<;>rfl) E4
def d2s:Con:=.rmk ⟨List Txn,fun L=>[v8 L],fun _=>[],fun L=>.osl 0 0 L.length,fun L=>[a1l L],fun L=>L.length<=1048576⟩
noncomputable def d11:Code:=Tryz.f90.body.getD .skip
theorem b5g:Z8 Tryz.prog 90:=⟨_,Tryz.func90,by kernel_rfl,by kernel_rfl⟩
theorem d2c(L:List Txn)(h:
  ∀(b:Bool),(b=true->L.length=0)->(b=true->((0=0/\0=L.length)/\True)/\(0=L.length/\Z7 0 (fun(x:Nat)=>[]) (X9 L))/\True)/\(b=false->(Le 0 0/\V6 0 L.length 16)/\((0=0/\0+L.length=
  L.length)/\True)/\(0+L.length=L.length/\Z7 (0+L.length) (W4 (fun(k:Nat)=>List.take 2 (List.drop (k*2) [])) 0 (X9 L)) (X9 L))/\True)):
  V7 Tryz.prog 90 [v8 L] [] (.osl 0 0 L.length) [a1l L]:=
 C4 (code:=d11) gN Tryz.func90 (by kernel_rfl) (by kernel_rfl) Z0 [[.arr 1],[.nilS 0 [] 0 2,.arr 0]] h (by kernel_rfl)
theorem c6e:Z2 Tryz.prog 90 d2s:=fun(L:List Txn) (hL:L.length<=1048576)=>
 ⟨d2c L (fun b hb=>⟨fun h=>⟨⟨⟨rfl,(hb h).symm⟩,trivial⟩,⟨(hb h).symm,fun i hi=>absurd hi (Nat.not_lt_zero _)⟩,trivial⟩,fun _=>⟨⟨Nat.le_refl _,by unfold V6;omega⟩,⟨⟨rfl,by omega⟩,trivial⟩,⟨by omega,G4⟩,trivial⟩⟩),rfl,a2G L⟩
def c4k:Con:=.rmk ⟨List Txn,fun L=>[v8 L],fun _=>[],fun L=>.osl 0 0 L.length,fun L=>[a1l L],fun L=>L.length<=1048576⟩
noncomputable def c4z:Code:=Tryz.f39.body.getD .skip
theorem b1C:Z8 Tryz.prog 39:=⟨_,Tryz.func39,by kernel_rfl,by kernel_rfl⟩
theorem c8I(L:List Txn)(h:
  (Nn (L.length:Int)/\LeI (L.length:Int) (L.length:Int)/\J8 16 (L.length:Int).toNat 140737488355328/\Lt (L.length:Int).toNat 9223372036854775808)/\(∃(x:{i:Nat//i<=L.length}),((Y3 X9 L L)/\(0=0/\
  (L.length:Int).toNat=L.length)/\(0:Int)=(x.val:Int)/\True)/\((L.length:Int).toNat=L.length/\Z7 (L.length:Int).toNat (fun(x:Nat)=>[T.int .i64 (0:Int),T.int .i64 (0:Int)]) (u5 (X9 L) [T.int .i64 (0:
  Int),T.int .i64 (0:Int)] x.val))/\True)/\∀(x:{i:Nat//i<=L.length}),(decide ((x.val:Int)<(L.length:Int))=true->W7 (x.val:Int) L.length/\∃(x_1:b8I.ι),((((L.getD (x.val:Int).toNat default).id=x_1.id/\
  (L.getD (x.val:Int).toNat default).last=x_1.last/\True)/\True)/\True)/\W7 (x.val:Int) L.length/\Lt (0+(x.val:Int).toNat) L.length/\X6 .i64 ((x.val:Int)+(1:Int))/\∃(y:{i:Nat//i<=L.length}),(((Y3 X9
  L L)/\(0=0/\L.length=L.length)/\(x.val:Int)+(1:Int)=(y.val:Int)/\True)/\(L.length=L.length/\Z7 L.length (setRow (u5 (X9 L) [T.int .i64 (0:Int),T.int .i64 (0:Int)] x.val) (0+(x.val:Int).toNat) 0
  [T.int .i64 x_1.id,T.int .i64 x_1.last]) (u5 (X9 L) [T.int .i64 (0:Int),T.int .i64 (0:Int)] y.val))/\True)/\Lt (L.length-y.val) (L.length-x.val))/\(decide ((x.val:Int)<(L.length:Int))=false->((0=0/\
  L.length=L.length)/\True)/\(L.length=L.length/\Z7 L.length (u5 (X9 L) [T.int .i64 (0:Int),T.int .i64 (0:Int)] x.val) (X9 L))/\True)):
  V7 Tryz.prog 39 [v8 L] [] (.osl 0 0 L.length) [a1l L]:=
 C4 (code:=c4z) (gC c51 b30 gN) Tryz.func39 (by kernel_rfl) (by kernel_rfl) (c7K L) [[.arr 0]] h (by kernel_rfl)
theorem b8N:Z2 Tryz.prog 39 c4k:=by
 intro(L:List Txn) (hL:L.length<=1048576);refine⟨c8I L ⟨⟨by unfold Nn;omega,by unfold LeI;omega,by unfold J8;omega,by unfold Lt;omega⟩,⟨⟨0,Nat.zero_le _⟩,⟨⟨(by trivial),Z9 _ _⟩,⟨(by trivial),by omega⟩,rfl,trivial⟩,⟨by omega,i7⟩,trivial⟩,fun x=>⟨fun hc=> ?_,fun hc=> ?_⟩⟩,rfl,a2G L⟩
 ·have hlt:=Y6 hc;refine⟨Y8 hlt,L.getD x.val default,⟨⟨⟨rfl,rfl,trivial⟩,trivial⟩,trivial⟩,Y8 hlt,by unfold Lt;omega,W8 hlt (by omega),⟨x.val+1,hlt⟩,⟨⟨⟨(by trivial),Z9 _ _⟩,⟨(by trivial),(by trivial)⟩,by simp only;omega,trivial⟩,⟨(by trivial),fun j hj=> ?_⟩,trivial⟩,W5.ext_lt hlt⟩
  exact q7 (m:=2) (fun _=>rfl) rfl x.val rfl j
 ·have hx:x.val=L.length:=by have:=x.2;have:=Y2 hc;omega
  rw[hx];exact⟨⟨⟨rfl,rfl⟩,trivial⟩,⟨rfl,fun i hi=>a0w (n:=L.length) i (by omega)⟩,trivial⟩
def Q5(n k:Nat):List Txn:=(List.range n).map fun i=>⟨((k+2*i:Nat):Int),((k+2*i:Nat):Int)+1⟩
def b44:Con:=.reff ⟨List Txn×Nat,fun x=>[.osl 0 0 x.1.length,.int .i64 x.2],fun x=>[a1l x.1],fun x=>.int .i64 (x.2+2*x.1.length:Nat),fun x=>[a1l (Q5 x.1.length x.2)],fun x=>KBn x.1.length x.2 2⟩
def b3Q(L:List Txn)(k:Nat):Nat->Ann
 |0=>.one {i:Nat//i<=L.length} (fun x=>⟨[(0,.osl 0 0 L.length),(1,.int .i64 (k+2*x.1:Nat)),(5,.int .i64 x.1)],[some (.arr true 0 2 L.length (B7 (X9 (Q5 L.length k)) (X9 L) x.1))]⟩) (fun x=>L.length-x.1) [.arr 0] [.arr 0] (fun _=>Z0)
 |_=>.none
noncomputable def b58:Code:=Tryz.f48.body.getD .skip
theorem a5x:Z8 Tryz.prog 48:=⟨_,Tryz.func48,by kernel_rfl,by kernel_rfl⟩
theorem b55(L:List Txn)(k:Nat)(h:
  (∃(x:{i:Nat//i<=L.length}),((0=0/\L.length=L.length)/\(k:Int)=(↑(k+2*x.val):Int)/\(0:Int)=(x.val:Int)/\True)/\(L.length=L.length/\Z7 L.length (X9 L) (B7 (X9 (Q5 L.length k))
  (X9 L) x.val))/\True)/\∀(x:{i:Nat//i<=L.length}),(decide ((x.val:Int)<(L.length:Int))=true->W7 (x.val:Int) L.length/\Lt (0+(x.val:Int).toNat) L.length/\X6 .i64 ((↑(k+2*x.val):Int)+(1:Int))/\
  W7 (x.val:Int) L.length/\Lt (0+(x.val:Int).toNat) L.length/\X6 .i64 ((↑(k+2*x.val):Int)+(1:Int)+(1:Int))/\X6 .i64 ((x.val:Int)+(1:Int))/\∃(y:{i:Nat//i<=L.length}),(((0=0/\L.length=
  L.length)/\(↑(k+2*x.val):Int)+(1:Int)+(1:Int)=(↑(k+2*y.val):Int)/\(x.val:Int)+(1:Int)=(y.val:Int)/\True)/\(L.length=L.length/\Z7 L.length (setRow (setRow (B7 (X9 (Q5 L.length k))
  (X9 L) x.val) (0+(x.val:Int).toNat) 0 [T.int .i64 (↑(k+2*x.val):Int)]) (0+(x.val:Int).toNat) 1 [T.int .i64 ((↑(k+2*x.val):Int)+(1:Int))]) (B7 (X9 (Q5 L.length k)) (X9 L) y.val))/\True)/\Lt
  (L.length-y.val) (L.length-x.val))/\(decide ((x.val:Int)<(L.length:Int))=false->((↑(k+2*x.val):Int)=(↑(k+2*L.length):Int)/\True)/\(L.length=(Q5 L.length k).length/\Z7 L.length (B7 (X9
  (Q5 L.length k)) (X9 L) x.val) (X9 (Q5 L.length k)))/\True)):
  V7 Tryz.prog 48 [.osl 0 0 L.length,.int .i64 k] [a1l L] (.int .i64 (k+2*L.length:Nat)) [a1l (Q5 L.length k)]:=
 C4 (code:=b58) gN Tryz.func48 (by kernel_rfl) (by kernel_rfl) (b3Q L k) [[.arr 0]] h (by kernel_rfl)
theorem b1M:Z2 Tryz.prog 48 b44:=by
 rintro⟨L,k⟩ ⟨h1,h2,h3⟩;dsimp only at h1 h2 h3;refine b55 L k ⟨⟨⟨0,Nat.zero_le _⟩,⟨⟨rfl,rfl⟩,rfl,rfl,trivial⟩,⟨rfl,s7⟩,trivial⟩,fun x=>⟨fun hc=> ?_,fun hc=> ?_⟩⟩
 ·have hlt:=Y6 hc;have ib:=Y8 hlt;have lt:Lt (0+(x.val:Int).toNat) L.length:=by unfold Lt;omega
  refine⟨ib,lt,Z5 (by omega),ib,lt,Z5 (by omega),Z5 (by omega),⟨x.val+1,hlt⟩,⟨⟨⟨rfl,rfl⟩,by dsimp only;omega,by dsimp only;omega,trivial⟩,⟨rfl,fun j _=> ?_⟩,trivial⟩,W5.ext_lt hlt⟩
  exact a0f (m:=2) (fun _=>rfl) (fun _=>rfl) x.val [(0,.int .i64 (((k+2*x.val:Nat):Int))),(1,.int .i64 (((k+2*x.val:Nat):Int)+1))] (by simp) (by unfold X9 Q5;rw[C3 _ hlt];rfl) j
 ·have hx:x.val=L.length:=by have:=x.2;have:=Y2 hc;omega
  rw[hx];exact⟨⟨rfl,trivial⟩,⟨(R8 _ _).symm,a0D⟩,trivial⟩
def b6v:Con:=.rel ⟨Nat×Nat,fun x=>[v8 (Q5 x.1 x.2),.int .i64 x.2],fun x=>.int .i64 (x.2+2*x.1:Nat),fun x=>KBn x.1 x.2 2⟩
def b4B(n k:Nat):Nat->Ann
 |0=>.one {i:Nat//i<=n} (fun x=>⟨[(0,v8 (Q5 n k)),(1,.int .i64 (k+2*x.1:Nat)),(5,.int .i64 x.1)],[]⟩) (fun x=>n-x.1) [] [] (fun _=>Z0)
 |_=>.none
noncomputable def b53:Code:=Tryz.f51.body.getD .skip
theorem a5Z:Z8 Tryz.prog 51:=⟨_,Tryz.func51,by kernel_rfl,by kernel_rfl⟩
theorem b64(n k:Nat)(h:
  (∃(x:{i:Nat//i<=n}),((Y3 X9 (Q5 n k) (Q5 n k))/\(k:Int)=(↑(k+2*x.val):Int)/\(0:Int)=(x.val:Int)/\True)/\True)/\∀(x:{i:Nat//i<=n}),(decide ((x.val:Int)<(↑(Q5 n k).length:
  Int))=true->W7 (x.val:Int) (Q5 n k).length/\((((Q5 n k).getD (x.val:Int).toNat default).id !=(↑(k+2*x.val):Int))=true->(-1:Int)=(↑(k+2*n):Int))/\((((Q5 n k).getD (x.val:Int).toNat default).id !=
  (↑(k+2*x.val):Int))=false->X6 .i64 ((↑(k+2*x.val):Int)+(1:Int))/\W7 (x.val:Int) (Q5 n k).length/\((((Q5 n k).getD (x.val:Int).toNat default).last !=(↑(k+2*x.val):Int)+(1:Int))=true->(-1:
  Int)=(↑(k+2*n):Int))/\((((Q5 n k).getD (x.val:Int).toNat default).last !=(↑(k+2*x.val):Int)+(1:Int))=false->X6 .i64 ((↑(k+2*x.val):Int)+(1:Int)+(1:Int))/\X6 .i64 ((x.val:Int)+(1:Int))
  /\∃(y:{i:Nat//i<=n}),(((Y3 X9 (Q5 n k) (Q5 n k))/\(↑(k+2*x.val):Int)+(1:Int)+(1:Int)=(↑(k+2*y.val):Int)/\(x.val:Int)+(1:Int)=(y.val:Int)/\True)/\True)/\Lt (n-y.val) (n-
  x.val))))/\(decide ((x.val:Int)<(↑(Q5 n k).length:Int))=false->(↑(k+2*x.val):Int)=(↑(k+2*n):Int))):
  Z1 Tryz.prog 51 [v8 (Q5 n k),.int .i64 k] (.int .i64 (k+2*n:Nat)):=
 T7 (code:=b53) gN Tryz.func51 (by kernel_rfl) (by kernel_rfl) (b4B n k) h (by kernel_rfl)
theorem b1P:Z2 Tryz.prog 51 b6v:=by
 rintro⟨n,k⟩ ⟨h1,h2,h3⟩;dsimp only at h1 h2 h3;have hn:(Q5 n k).length=n:=R8 _ _;refine b64 n k ⟨⟨⟨0,Nat.zero_le _⟩,⟨⟨rfl,Z9 _ _⟩,rfl,rfl,trivial⟩,trivial⟩,fun x=>⟨fun hc=> ?_,fun hc=> ?_⟩⟩
 ·have hlt:=Y6 hc;have hlt':x.val<n:=by omega
  have e:(Q5 n k).getD (x.val:Int).toNat default=⟨((k+2*x.val:Nat):Int),((k+2*x.val:Nat):Int)+1⟩:=by rw[Int.toNat_natCast];exact C3 _ hlt' _
  rw[e];have ib:=Y8 hlt;exact⟨ib,fun h=>by simp at h,fun _=>⟨Z5 (by omega),ib,fun h=>by simp at h,fun _=>⟨Z5 (by omega),Z5 (by omega),⟨x.val+1,hlt'⟩,⟨⟨⟨rfl,Z9 _ _⟩,by dsimp only;omega,by dsimp only;omega,trivial⟩,trivial⟩,W5.ext_lt hlt'⟩⟩⟩
 ·have hx:x.val=n:=by have:=x.2;have:=Y2 hc;omega
  rw[hx]
def a0E(L:List Lck):Option Ob:=some (.arr true 0 4 L.length (Y9 L))
theorem a22(L:List Lck):L1 [a0E L]:=H5 (fun i _ t ht=>by
 simp only[Y9,Lck.ts,List.mem_cons,List.not_mem_nil,or_false] at ht;rcases ht with rfl|rfl|rfl|rfl<;>rfl) E4
def d0l:Con:=.rmk ⟨List Lck,fun L=>[D4 L],fun _=>[],fun L=>.osl 0 0 L.length,fun L=>[a0E L],fun L=>L.length<=1048576⟩
noncomputable def d0A:Code:=Tryz.f165.body.getD .skip
theorem b6b:Z8 Tryz.prog 165:=⟨_,Tryz.func165,by kernel_rfl,by kernel_rfl⟩
theorem c9p(L:List Lck)(h:
  ∀(b:Bool),(b=true->L.length=0)->(b=true->((0=0/\0=L.length)/\True)/\(0=L.length/\Z7 0 (fun(x:Nat)=>[]) (Y9 L))/\True)/\(b=false->(Le 0 0/\V6 0 L.length 32)/\((0=0/\0+L.length=
  L.length)/\True)/\(0+L.length=L.length/\Z7 (0+L.length) (W4 (fun(k:Nat)=>List.take 4 (List.drop (k*4) [])) 0 (Y9 L)) (Y9 L))/\True)):
  V7 Tryz.prog 165 [D4 L] [] (.osl 0 0 L.length) [a0E L]:=
 C4 (code:=d0A) gN Tryz.func165 (by kernel_rfl) (by kernel_rfl) Z0 [[.arr 1],[.nilS 0 [] 0 4,.arr 0]] h (by kernel_rfl)
theorem c5H:Z2 Tryz.prog 165 d0l:=fun(L:List Lck) (hL:L.length<=1048576)=>
 ⟨c9p L (fun b hb=>⟨fun h=>⟨⟨⟨rfl,(hb h).symm⟩,trivial⟩,⟨(hb h).symm,fun i hi=>absurd hi (Nat.not_lt_zero _)⟩,trivial⟩,fun _=>⟨⟨Nat.le_refl _,by unfold V6;omega⟩,⟨⟨rfl,by omega⟩,trivial⟩,⟨by omega,G4⟩,trivial⟩⟩),rfl,a22 L⟩
def c3P:Con:=.rmk ⟨List Lck,fun L=>[D4 L],fun _=>[],fun L=>.osl 0 0 L.length,fun L=>[a0E L],fun L=>L.length<=1048576⟩
noncomputable def c50:Code:=Tryz.f85.body.getD .skip
theorem b0N:Z8 Tryz.prog 85:=⟨_,Tryz.func85,by kernel_rfl,by kernel_rfl⟩
theorem c7w(L:List Lck)(h:
  (Nn (L.length:Int)/\LeI (L.length:Int) (L.length:Int)/\J8 32 (L.length:Int).toNat 140737488355328/\Lt (L.length:Int).toNat 9223372036854775808)/\(∃(x:{i:Nat//i<=L.length}),((Y3 Y9 L L)/\(0=0/\
  (L.length:Int).toNat=L.length)/\(0:Int)=(x.val:Int)/\True)/\((L.length:Int).toNat=L.length/\Z7 (L.length:Int).toNat (fun(x:Nat)=>[T.int .i64 (0:Int),T.int .i64 (0:Int),T.int .i64 (0:Int),T.int .i64 (0
  :Int)]) (u5 (Y9 L) [T.int .i64 (0:Int),T.int .i64 (0:Int),T.int .i64 (0:Int),T.int .i64 (0:Int)] x.val))/\True)/\∀(x:{i:Nat//i<=L.length}),(decide ((x.val:Int)<(L.length:Int))=true->W7
  (x.val:Int) L.length/\∃(x_1:b8A.ι),((((L.getD (x.val:Int).toNat default).tx=x_1.tx/\(L.getD (x.val:Int).toNat default).ta=x_1.ta/\(L.getD (x.val:Int).toNat default).row=x_1.row/\(L.getD (x.val:Int).toNat
  default).mo=x_1.mo/\True)/\True)/\True)/\W7 (x.val:Int) L.length/\Lt (0+(x.val:Int).toNat) L.length/\X6 .i64 ((x.val:Int)+(1:Int))/\∃(y:{i:Nat//i<=L.length}),(((Y3 Y9 L L)/\(0=0/\L.length=
  L.length)/\(x.val:Int)+(1:Int)=(y.val:Int)/\True)/\(L.length=L.length/\Z7 L.length (setRow (u5 (Y9 L) [T.int .i64 (0:Int),T.int .i64 (0:Int),T.int .i64 (0:Int),T.int .i64 (0:Int)] x.val) (0+
  (x.val:Int).toNat) 0 [T.int .i64 x_1.tx,T.int .i64 x_1.ta,T.int .i64 x_1.row,T.int .i64 x_1.mo]) (u5 (Y9 L) [T.int .i64 (0:Int),T.int .i64 (0:Int),T.int .i64 (0:Int),T.int .i64 (0:Int)] y.val))/\True)/\Lt
  (L.length-y.val) (L.length-x.val))/\(decide ((x.val:Int)<(L.length:Int))=false->((0=0/\L.length=L.length)/\True)/\(L.length=L.length/\Z7 L.length (u5 (Y9 L) [T.int .i64 (0:Int),T.int .i64 (0:Int),
  T.int .i64 (0:Int),T.int .i64 (0:Int)] x.val) (Y9 L))/\True)):
  V7 Tryz.prog 85 [D4 L] [] (.osl 0 0 L.length) [a0E L]:=
 C4 (code:=c50) (gC c6P b6J gN) Tryz.func85 (by kernel_rfl) (by kernel_rfl) (c5h L) [[.arr 0]] h (by kernel_rfl)
theorem c1p:Z2 Tryz.prog 85 c3P:=by
 intro(L:List Lck) (hL:L.length<=1048576);refine⟨c7w L ⟨⟨by unfold Nn;omega,by unfold LeI;omega,by unfold J8;omega,by unfold Lt;omega⟩,⟨⟨0,Nat.zero_le _⟩,⟨⟨(by trivial),Z9 _ _⟩,⟨(by trivial),by omega⟩,rfl,trivial⟩,⟨by omega,i7⟩,trivial⟩,fun x=>⟨fun hc=> ?_,fun hc=> ?_⟩⟩,rfl,a22 L⟩
 ·have hlt:=Y6 hc;refine⟨Y8 hlt,L.getD x.val default,⟨⟨⟨rfl,rfl,rfl,rfl,trivial⟩,trivial⟩,trivial⟩,Y8 hlt,by unfold Lt;omega,W8 hlt (by omega),⟨x.val+1,hlt⟩,⟨⟨⟨(by trivial),Z9 _ _⟩,⟨(by trivial),(by trivial)⟩,by simp only;omega,trivial⟩,⟨(by trivial),fun j hj=> ?_⟩,trivial⟩,W5.ext_lt hlt⟩
  exact q7 (m:=4) (fun _=>rfl) rfl x.val rfl j
 ·have hx:x.val=L.length:=by have:=x.2;have:=Y2 hc;omega
  rw[hx];exact⟨⟨⟨rfl,rfl⟩,trivial⟩,⟨rfl,fun i hi=>a0w (n:=L.length) i (by omega)⟩,trivial⟩
def T0(n k:Nat):List Lck:=(List.range n).map fun i=>⟨((k+4*i:Nat):Int),((k+4*i:Nat):Int)+1,((k+4*i:Nat):Int)+1+1,((k+4*i:Nat):Int)+1+1+1⟩
def b5T:Con:=.reff ⟨List Lck×Nat,fun x=>[.osl 0 0 x.1.length,.int .i64 x.2],fun x=>[a0E x.1],fun x=>.int .i64 (x.2+4*x.1.length:Nat),fun x=>[a0E (T0 x.1.length x.2)],fun x=>KBn x.1.length x.2 4⟩
def b6E(L:List Lck)(k:Nat):Nat->Ann
 |0=>.one {i:Nat//i<=L.length} (fun x=>⟨[(0,.osl 0 0 L.length),(1,.int .i64 (k+4*x.1:Nat)),(5,.int .i64 x.1)],[some (.arr true 0 4 L.length (B7 (Y9 (T0 L.length k)) (Y9 L) x.1))]⟩) (fun x=>L.length-x.1) [.arr 0] [.arr 0] (fun _=>Z0)
 |_=>.none
noncomputable def b3q:Code:=Tryz.f102.body.getD .skip
theorem a5N:Z8 Tryz.prog 102:=⟨_,Tryz.func102,by kernel_rfl,by kernel_rfl⟩
theorem b3C(L:List Lck)(k:Nat)(h:
  (∃(x:{i:Nat//i<=L.length}),((0=0/\L.length=L.length)/\(k:Int)=(↑(k+4*x.val):Int)/\(0:Int)=(x.val:Int)/\True)/\(L.length=L.length/\Z7 L.length (Y9 L) (B7 (Y9 (T0 L.length k))
  (Y9 L) x.val))/\True)/\∀(x:{i:Nat//i<=L.length}),(decide ((x.val:Int)<(L.length:Int))=true->W7 (x.val:Int) L.length/\Lt (0+(x.val:Int).toNat) L.length/\X6 .i64 ((↑(k+4*x.val):Int)+(1:Int))/\
  W7 (x.val:Int) L.length/\Lt (0+(x.val:Int).toNat) L.length/\X6 .i64 ((↑(k+4*x.val):Int)+(1:Int)+(1:Int))/\W7 (x.val:Int) L.length/\Lt (0+(x.val:Int).toNat) L.length/\X6 .i64 ((↑(k+4*x.val):Int)+
  (1:Int)+(1:Int)+(1:Int))/\W7 (x.val:Int) L.length/\Lt (0+(x.val:Int).toNat) L.length/\X6 .i64 ((↑(k+4*x.val):Int)+(1:Int)+(1:Int)+(1:Int)+(1:Int))/\X6 .i64 ((x.val:Int)+(1:Int))/\∃(y
  :{i:Nat//i<=L.length}),(((0=0/\L.length=L.length)/\(↑(k+4*x.val):Int)+(1:Int)+(1:Int)+(1:Int)+(1:Int)=(↑(k+4*y.val):Int)/\(x.val:Int)+(1:Int)=(y.val:Int)/\True)/\(L.length=
  L.length/\Z7 L.length (setRow (setRow (setRow (setRow (B7 (Y9 (T0 L.length k)) (Y9 L) x.val) (0+(x.val:Int).toNat) 0 [T.int .i64 (↑(k+4*x.val):Int)]) (0+(x.val:Int).toNat) 1 [T.int .i64 ((↑(k+4*
  x.val):Int)+(1:Int))]) (0+(x.val:Int).toNat) 2 [T.int .i64 ((↑(k+4*x.val):Int)+(1:Int)+(1:Int))]) (0+(x.val:Int).toNat) 3 [T.int .i64 ((↑(k+4*x.val):Int)+(1:Int)+(1:Int)+(1:Int))]) (B7
  (Y9 (T0 L.length k)) (Y9 L) y.val))/\True)/\Lt (L.length-y.val) (L.length-x.val))/\(decide ((x.val:Int)<(L.length:Int))=false->((↑(k+4*x.val):Int)=(↑(k+4*L.length):Int)/\True)/\(L.length=
  (T0 L.length k).length/\Z7 L.length (B7 (Y9 (T0 L.length k)) (Y9 L) x.val) (Y9 (T0 L.length k)))/\True)):
  V7 Tryz.prog 102 [.osl 0 0 L.length,.int .i64 k] [a0E L] (.int .i64 (k+4*L.length:Nat)) [a0E (T0 L.length k)]:=
 C4 (code:=b3q) gN Tryz.func102 (by kernel_rfl) (by kernel_rfl) (b6E L k) [[.arr 0]] h (by kernel_rfl)
theorem a9u:Z2 Tryz.prog 102 b5T:=by
 rintro⟨L,k⟩ ⟨h1,h2,h3⟩;dsimp only at h1 h2 h3;refine b3C L k ⟨⟨⟨0,Nat.zero_le _⟩,⟨⟨rfl,rfl⟩,rfl,rfl,trivial⟩,⟨rfl,s7⟩,trivial⟩,fun x=>⟨fun hc=> ?_,fun hc=> ?_⟩⟩
 ·have hlt:=Y6 hc;have ib:=Y8 hlt;have lt:Lt (0+(x.val:Int).toNat) L.length:=by unfold Lt;omega
  refine⟨ib,lt,Z5 (by omega),ib,lt,Z5 (by omega),ib,lt,Z5 (by omega),ib,lt,Z5 (by omega),Z5 (by omega),⟨x.val+1,hlt⟩,⟨⟨⟨rfl,rfl⟩,by dsimp only;omega,by dsimp only;omega,trivial⟩,⟨rfl,fun j _=> ?_⟩,trivial⟩,W5.ext_lt hlt⟩
  exact a0f (m:=4) (fun _=>rfl) (fun _=>rfl) x.val [(0,.int .i64 (((k+4*x.val:Nat):Int))),(1,.int .i64 (((k+4*x.val:Nat):Int)+1)),(2,.int .i64 (((k+4*x.val:Nat):Int)+1+1)),(3,.int .i64 (((k+4*x.val:Nat):Int)+1+1+1))] (by simp) (by unfold Y9 T0;rw[C3 _ hlt];rfl) j
 ·have hx:x.val=L.length:=by have:=x.2;have:=Y2 hc;omega
  rw[hx];exact⟨⟨rfl,trivial⟩,⟨(R8 _ _).symm,a0D⟩,trivial⟩
def b6B:Con:=.rel ⟨Nat×Nat,fun x=>[D4 (T0 x.1 x.2),.int .i64 x.2],fun x=>.int .i64 (x.2+4*x.1:Nat),fun x=>KBn x.1 x.2 4⟩
def b6N(n k:Nat):Nat->Ann
 |0=>.one {i:Nat//i<=n} (fun x=>⟨[(0,D4 (T0 n k)),(1,.int .i64 (k+4*x.1:Nat)),(5,.int .i64 x.1)],[]⟩) (fun x=>n-x.1) [] [] (fun _=>Z0)
 |_=>.none
noncomputable def b4n:Code:=Tryz.f107.body.getD .skip
theorem a5B:Z8 Tryz.prog 107:=⟨_,Tryz.func107,by kernel_rfl,by kernel_rfl⟩
theorem b6m(n k:Nat)(h:
  (∃(x:{i:Nat//i<=n}),((Y3 Y9 (T0 n k) (T0 n k))/\(k:Int)=(↑(k+4*x.val):Int)/\(0:Int)=(x.val:Int)/\True)/\True)/\∀(x:{i:Nat//i<=n}),(decide ((x.val:Int)<(↑(T0 n k).length:
  Int))=true->W7 (x.val:Int) (T0 n k).length/\((((T0 n k).getD (x.val:Int).toNat default).tx !=(↑(k+4*x.val):Int))=true->(-1:Int)=(↑(k+4*n):Int))/\((((T0 n k).getD (x.val:Int).toNat default).tx !=
  (↑(k+4*x.val):Int))=false->X6 .i64 ((↑(k+4*x.val):Int)+(1:Int))/\W7 (x.val:Int) (T0 n k).length/\((((T0 n k).getD (x.val:Int).toNat default).ta !=(↑(k+4*x.val):Int)+(1:Int))=true->(-1:
  Int)=(↑(k+4*n):Int))/\((((T0 n k).getD (x.val:Int).toNat default).ta !=(↑(k+4*x.val):Int)+(1:Int))=false->X6 .i64 ((↑(k+4*x.val):Int)+(1:Int)+(1:Int))/\W7 (x.val:Int) (T0 n k).length/\
  ((((T0 n k).getD (x.val:Int).toNat default).row !=(↑(k+4*x.val):Int)+(1:Int)+(1:Int))=true->(-1:Int)=(↑(k+4*n):Int))/\((((T0 n k).getD (x.val:Int).toNat default).row !=(↑(k+4*x.val):Int)+
  (1:Int)+(1:Int))=false->X6 .i64 ((↑(k+4*x.val):Int)+(1:Int)+(1:Int)+(1:Int))/\W7 (x.val:Int) (T0 n k).length/\((((T0 n k).getD (x.val:Int).toNat default).mo !=(↑(k+4*x.val):Int)+(1:
  Int)+(1:Int)+(1:Int))=true->(-1:Int)=(↑(k+4*n):Int))/\((((T0 n k).getD (x.val:Int).toNat default).mo !=(↑(k+4*x.val):Int)+(1:Int)+(1:Int)+(1:Int))=false->X6 .i64 ((↑(k+4*x.val):
  Int)+(1:Int)+(1:Int)+(1:Int)+(1:Int))/\X6 .i64 ((x.val:Int)+(1:Int))/\∃(y:{i:Nat//i<=n}),(((Y3 Y9 (T0 n k) (T0 n k))/\(↑(k+4*x.val):Int)+(1:Int)+(1:Int)+(1:Int)+(1
  :Int)=(↑(k+4*y.val):Int)/\(x.val:Int)+(1:Int)=(y.val:Int)/\True)/\True)/\Lt (n-y.val) (n-x.val))))))/\(decide ((x.val:Int)<(↑(T0 n k).length:Int))=false->(↑(k+4*x.val):Int)=(↑(k+4*n):
  Int))):
  Z1 Tryz.prog 107 [D4 (T0 n k),.int .i64 k] (.int .i64 (k+4*n:Nat)):=
 T7 (code:=b4n) gN Tryz.func107 (by kernel_rfl) (by kernel_rfl) (b6N n k) h (by kernel_rfl)
theorem b0y:Z2 Tryz.prog 107 b6B:=by
 rintro⟨n,k⟩ ⟨h1,h2,h3⟩;dsimp only at h1 h2 h3;have hn:(T0 n k).length=n:=R8 _ _;refine b6m n k ⟨⟨⟨0,Nat.zero_le _⟩,⟨⟨rfl,Z9 _ _⟩,rfl,rfl,trivial⟩,trivial⟩,fun x=>⟨fun hc=> ?_,fun hc=> ?_⟩⟩
 ·have hlt:=Y6 hc;have hlt':x.val<n:=by omega
  have e:(T0 n k).getD (x.val:Int).toNat default=⟨((k+4*x.val:Nat):Int),((k+4*x.val:Nat):Int)+1,((k+4*x.val:Nat):Int)+1+1,((k+4*x.val:Nat):Int)+1+1+1⟩:=by rw[Int.toNat_natCast];exact C3 _ hlt' _
  rw[e];have ib:=Y8 hlt;exact⟨ib,fun h=>by simp at h,fun _=>⟨Z5 (by omega),ib,fun h=>by simp at h,fun _=>⟨Z5 (by omega),ib,fun h=>by simp at h,fun _=>⟨Z5 (by omega),ib,fun h=>by simp at h,fun _=>⟨Z5 (by omega),Z5 (by omega),⟨x.val+1,hlt'⟩,⟨⟨⟨rfl,Z9 _ _⟩,by dsimp only;omega,by dsimp only;omega,trivial⟩,trivial⟩,W5.ext_lt hlt'⟩⟩⟩⟩⟩
 ·have hx:x.val=n:=by have:=x.2;have:=Y2 hc;omega
  rw[hx]
def wtA(L:List Wt):Option Ob:=some (.arr true 0 2 L.length (Y1 L))
theorem a5d(L:List Wt):L1 [wtA L]:=H5 (fun i _ t ht=>by
 simp only[Y1,Wt.ts,List.mem_cons,List.not_mem_nil,or_false] at ht;rcases ht with rfl|rfl<;>rfl) E4
def d3T:Con:=.rmk ⟨List Wt,fun L=>[wtS L],fun _=>[],fun L=>.osl 0 0 L.length,fun L=>[wtA L],fun L=>L.length<=1048576⟩
noncomputable def d4t:Code:=Tryz.f166.body.getD .skip
theorem b9q:Z8 Tryz.prog 166:=⟨_,Tryz.func166,by kernel_rfl,by kernel_rfl⟩
theorem d46(L:List Wt)(h:
  ∀(b:Bool),(b=true->L.length=0)->(b=true->((0=0/\0=L.length)/\True)/\(0=L.length/\Z7 0 (fun(x:Nat)=>[]) (Y1 L))/\True)/\(b=false->(Le 0 0/\V6 0 L.length 16)/\((0=0/\0+L.length=
  L.length)/\True)/\(0+L.length=L.length/\Z7 (0+L.length) (W4 (fun(k:Nat)=>List.take 2 (List.drop (k*2) [])) 0 (Y1 L)) (Y1 L))/\True)):
  V7 Tryz.prog 166 [wtS L] [] (.osl 0 0 L.length) [wtA L]:=
 C4 (code:=d4t) gN Tryz.func166 (by kernel_rfl) (by kernel_rfl) Z0 [[.arr 1],[.nilS 0 [] 0 2,.arr 0]] h (by kernel_rfl)
theorem c9D:Z2 Tryz.prog 166 d3T:=fun(L:List Wt) (hL:L.length<=1048576)=>
 ⟨d46 L (fun b hb=>⟨fun h=>⟨⟨⟨rfl,(hb h).symm⟩,trivial⟩,⟨(hb h).symm,fun i hi=>absurd hi (Nat.not_lt_zero _)⟩,trivial⟩,fun _=>⟨⟨Nat.le_refl _,by unfold V6;omega⟩,⟨⟨rfl,by omega⟩,trivial⟩,⟨by omega,G4⟩,trivial⟩⟩),rfl,a5d L⟩
def d2B:Con:=.rmk ⟨List Wt,fun L=>[wtS L],fun _=>[],fun L=>.osl 0 0 L.length,fun L=>[wtA L],fun L=>L.length<=1048576⟩
noncomputable def d1B:Code:=Tryz.f86.body.getD .skip
theorem b5L:Z8 Tryz.prog 86:=⟨_,Tryz.func86,by kernel_rfl,by kernel_rfl⟩
theorem d0W(L:List Wt)(h:
  (Nn (L.length:Int)/\LeI (L.length:Int) (L.length:Int)/\J8 16 (L.length:Int).toNat 140737488355328/\Lt (L.length:Int).toNat 9223372036854775808)/\(∃(x:{i:Nat//i<=L.length}),((Y3 Y1 L L)/\(0=0/\
  (L.length:Int).toNat=L.length)/\(0:Int)=(x.val:Int)/\True)/\((L.length:Int).toNat=L.length/\Z7 (L.length:Int).toNat (fun(x:Nat)=>[T.int .i64 (0:Int),T.int .i64 (0:Int)]) (u5 (Y1 L) [T.int .i64 (0:
  Int),T.int .i64 (0:Int)] x.val))/\True)/\∀(x:{i:Nat//i<=L.length}),(decide ((x.val:Int)<(L.length:Int))=true->W7 (x.val:Int) L.length/\∃(x_1:c4v.ι),((((L.getD (x.val:Int).toNat default).tx=x_1.tx/\
  (L.getD (x.val:Int).toNat default).fo=x_1.fo/\True)/\True)/\True)/\W7 (x.val:Int) L.length/\Lt (0+(x.val:Int).toNat) L.length/\X6 .i64 ((x.val:Int)+(1:Int))/\∃(y:{i:Nat//i<=L.length}),(((Y3 Y1 L L)
  /\(0=0/\L.length=L.length)/\(x.val:Int)+(1:Int)=(y.val:Int)/\True)/\(L.length=L.length/\Z7 L.length (setRow (u5 (Y1 L) [T.int .i64 (0:Int),T.int .i64 (0:Int)] x.val) (0+(x.val:Int).toNat) 0 [T.int
  .i64 x_1.tx,T.int .i64 x_1.fo]) (u5 (Y1 L) [T.int .i64 (0:Int),T.int .i64 (0:Int)] y.val))/\True)/\Lt (L.length-y.val) (L.length-x.val))/\(decide ((x.val:Int)<(L.length:Int))=false->((0=0/\L.length=
  L.length)/\True)/\(L.length=L.length/\Z7 L.length (u5 (Y1 L) [T.int .i64 (0:Int),T.int .i64 (0:Int)] x.val) (Y1 L))/\True)):
  V7 Tryz.prog 86 [wtS L] [] (.osl 0 0 L.length) [wtA L]:=
 C4 (code:=d1B) (gC d1I c12 gN) Tryz.func86 (by kernel_rfl) (by kernel_rfl) (c9v L) [[.arr 0]] h (by kernel_rfl)
theorem c5S:Z2 Tryz.prog 86 d2B:=by
 intro(L:List Wt) (hL:L.length<=1048576);refine⟨d0W L ⟨⟨by unfold Nn;omega,by unfold LeI;omega,by unfold J8;omega,by unfold Lt;omega⟩,⟨⟨0,Nat.zero_le _⟩,⟨⟨(by trivial),Z9 _ _⟩,⟨(by trivial),by omega⟩,rfl,trivial⟩,⟨by omega,i7⟩,trivial⟩,fun x=>⟨fun hc=> ?_,fun hc=> ?_⟩⟩,rfl,a5d L⟩
 ·have hlt:=Y6 hc;refine⟨Y8 hlt,L.getD x.val default,⟨⟨⟨rfl,rfl,trivial⟩,trivial⟩,trivial⟩,Y8 hlt,by unfold Lt;omega,W8 hlt (by omega),⟨x.val+1,hlt⟩,⟨⟨⟨(by trivial),Z9 _ _⟩,⟨(by trivial),(by trivial)⟩,by simp only;omega,trivial⟩,⟨(by trivial),fun j hj=> ?_⟩,trivial⟩,W5.ext_lt hlt⟩
  exact q7 (m:=2) (fun _=>rfl) rfl x.val rfl j
 ·have hx:x.val=L.length:=by have:=x.2;have:=Y2 hc;omega
  rw[hx];exact⟨⟨⟨rfl,rfl⟩,trivial⟩,⟨rfl,fun i hi=>a0w (n:=L.length) i (by omega)⟩,trivial⟩
def M6(n k:Nat):List Wt:=(List.range n).map fun i=>⟨((k+2*i:Nat):Int),((k+2*i:Nat):Int)+1⟩
def c0c:Con:=.reff ⟨List Wt×Nat,fun x=>[.osl 0 0 x.1.length,.int .i64 x.2],fun x=>[wtA x.1],fun x=>.int .i64 (x.2+2*x.1.length:Nat),fun x=>[wtA (M6 x.1.length x.2)],fun x=>KBn x.1.length x.2 2⟩
def c0l(L:List Wt)(k:Nat):Nat->Ann
 |0=>.one {i:Nat//i<=L.length} (fun x=>⟨[(0,.osl 0 0 L.length),(1,.int .i64 (k+2*x.1:Nat)),(5,.int .i64 x.1)],[some (.arr true 0 2 L.length (B7 (Y1 (M6 L.length k)) (Y1 L) x.1))]⟩) (fun x=>L.length-x.1) [.arr 0] [.arr 0] (fun _=>Z0)
 |_=>.none
noncomputable def b9h:Code:=Tryz.f103.body.getD .skip
theorem a9e:Z8 Tryz.prog 103:=⟨_,Tryz.func103,by kernel_rfl,by kernel_rfl⟩
theorem c3o(L:List Wt)(k:Nat)(h:
  (∃(x:{i:Nat//i<=L.length}),((0=0/\L.length=L.length)/\(k:Int)=(↑(k+2*x.val):Int)/\(0:Int)=(x.val:Int)/\True)/\(L.length=L.length/\Z7 L.length (Y1 L) (B7 (Y1 (M6 L.length k)) (Y1
  L) x.val))/\True)/\∀(x:{i:Nat//i<=L.length}),(decide ((x.val:Int)<(L.length:Int))=true->W7 (x.val:Int) L.length/\Lt (0+(x.val:Int).toNat) L.length/\X6 .i64 ((↑(k+2*x.val):Int)+(1:Int))/\W7
  (x.val:Int) L.length/\Lt (0+(x.val:Int).toNat) L.length/\X6 .i64 ((↑(k+2*x.val):Int)+(1:Int)+(1:Int))/\X6 .i64 ((x.val:Int)+(1:Int))/\∃(y:{i:Nat//i<=L.length}),(((0=0/\L.length=L.length)/\
  (↑(k+2*x.val):Int)+(1:Int)+(1:Int)=(↑(k+2*y.val):Int)/\(x.val:Int)+(1:Int)=(y.val:Int)/\True)/\(L.length=L.length/\Z7 L.length (setRow (setRow (B7 (Y1 (M6 L.length k)) (Y1 L) x.val)
  (0+(x.val:Int).toNat) 0 [T.int .i64 (↑(k+2*x.val):Int)]) (0+(x.val:Int).toNat) 1 [T.int .i64 ((↑(k+2*x.val):Int)+(1:Int))]) (B7 (Y1 (M6 L.length k)) (Y1 L) y.val))/\True)/\Lt (L.length-y.val)
  (L.length-x.val))/\(decide ((x.val:Int)<(L.length:Int))=false->((↑(k+2*x.val):Int)=(↑(k+2*L.length):Int)/\True)/\(L.length=(M6 L.length k).length/\Z7 L.length (B7 (Y1 (M6 L.length k)) (Y1
  L) x.val) (Y1 (M6 L.length k)))/\True)):
  V7 Tryz.prog 103 [.osl 0 0 L.length,.int .i64 k] [wtA L] (.int .i64 (k+2*L.length:Nat)) [wtA (M6 L.length k)]:=
 C4 (code:=b9h) gN Tryz.func103 (by kernel_rfl) (by kernel_rfl) (c0l L k) [[.arr 0]] h (by kernel_rfl)
theorem b5x:Z2 Tryz.prog 103 c0c:=by
 rintro⟨L,k⟩ ⟨h1,h2,h3⟩;dsimp only at h1 h2 h3;refine c3o L k ⟨⟨⟨0,Nat.zero_le _⟩,⟨⟨rfl,rfl⟩,rfl,rfl,trivial⟩,⟨rfl,s7⟩,trivial⟩,fun x=>⟨fun hc=> ?_,fun hc=> ?_⟩⟩
 ·have hlt:=Y6 hc;have ib:=Y8 hlt;have lt:Lt (0+(x.val:Int).toNat) L.length:=by unfold Lt;omega
  refine⟨ib,lt,Z5 (by omega),ib,lt,Z5 (by omega),Z5 (by omega),⟨x.val+1,hlt⟩,⟨⟨⟨rfl,rfl⟩,by dsimp only;omega,by dsimp only;omega,trivial⟩,⟨rfl,fun j _=> ?_⟩,trivial⟩,W5.ext_lt hlt⟩
  exact a0f (m:=2) (fun _=>rfl) (fun _=>rfl) x.val [(0,.int .i64 (((k+2*x.val:Nat):Int))),(1,.int .i64 (((k+2*x.val:Nat):Int)+1))] (by simp) (by unfold Y1 M6;rw[C3 _ hlt];rfl) j
 ·have hx:x.val=L.length:=by have:=x.2;have:=Y2 hc;omega
  rw[hx];exact⟨⟨rfl,trivial⟩,⟨(R8 _ _).symm,a0D⟩,trivial⟩
def c3m:Con:=.rel ⟨Nat×Nat,fun x=>[wtS (M6 x.1 x.2),.int .i64 x.2],fun x=>.int .i64 (x.2+2*x.1:Nat),fun x=>KBn x.1 x.2 2⟩
def c3i(n k:Nat):Nat->Ann
 |0=>.one {i:Nat//i<=n} (fun x=>⟨[(0,wtS (M6 n k)),(1,.int .i64 (k+2*x.1:Nat)),(5,.int .i64 x.1)],[]⟩) (fun x=>n-x.1) [] [] (fun _=>Z0)
 |_=>.none
noncomputable def c11:Code:=Tryz.f108.body.getD .skip
theorem a9n:Z8 Tryz.prog 108:=⟨_,Tryz.func108,by kernel_rfl,by kernel_rfl⟩
theorem c23(n k:Nat)(h:
  (∃(x:{i:Nat//i<=n}),((Y3 Y1 (M6 n k) (M6 n k))/\(k:Int)=(↑(k+2*x.val):Int)/\(0:Int)=(x.val:Int)/\True)/\True)/\∀(x:{i:Nat//i<=n}),(decide ((x.val:Int)<(↑(M6 n k).length:Int))=
  true->W7 (x.val:Int) (M6 n k).length/\((((M6 n k).getD (x.val:Int).toNat default).tx !=(↑(k+2*x.val):Int))=true->(-1:Int)=(↑(k+2*n):Int))/\((((M6 n k).getD (x.val:Int).toNat default).tx !=(↑(k+2*
  x.val):Int))=false->X6 .i64 ((↑(k+2*x.val):Int)+(1:Int))/\W7 (x.val:Int) (M6 n k).length/\((((M6 n k).getD (x.val:Int).toNat default).fo !=(↑(k+2*x.val):Int)+(1:Int))=true->(-1:Int)=(↑(k+
  2*n):Int))/\((((M6 n k).getD (x.val:Int).toNat default).fo !=(↑(k+2*x.val):Int)+(1:Int))=false->X6 .i64 ((↑(k+2*x.val):Int)+(1:Int)+(1:Int))/\X6 .i64 ((x.val:Int)+(1:Int))/\∃(y:{i:
  Nat//i<=n}),(((Y3 Y1 (M6 n k) (M6 n k))/\(↑(k+2*x.val):Int)+(1:Int)+(1:Int)=(↑(k+2*y.val):Int)/\(x.val:Int)+(1:Int)=(y.val:Int)/\True)/\True)/\Lt (n-y.val) (n-x.val))))/\(decide
  ((x.val:Int)<(↑(M6 n k).length:Int))=false->(↑(k+2*x.val):Int)=(↑(k+2*n):Int))):
  Z1 Tryz.prog 108 [wtS (M6 n k),.int .i64 k] (.int .i64 (k+2*n:Nat)):=
 T7 (code:=c11) gN Tryz.func108 (by kernel_rfl) (by kernel_rfl) (c3i n k) h (by kernel_rfl)
theorem b59:Z2 Tryz.prog 108 c3m:=by
 rintro⟨n,k⟩ ⟨h1,h2,h3⟩;dsimp only at h1 h2 h3;have hn:(M6 n k).length=n:=R8 _ _;refine c23 n k ⟨⟨⟨0,Nat.zero_le _⟩,⟨⟨rfl,Z9 _ _⟩,rfl,rfl,trivial⟩,trivial⟩,fun x=>⟨fun hc=> ?_,fun hc=> ?_⟩⟩
 ·have hlt:=Y6 hc;have hlt':x.val<n:=by omega
  have e:(M6 n k).getD (x.val:Int).toNat default=⟨((k+2*x.val:Nat):Int),((k+2*x.val:Nat):Int)+1⟩:=by rw[Int.toNat_natCast];exact C3 _ hlt' _
  rw[e];have ib:=Y8 hlt;exact⟨ib,fun h=>by simp at h,fun _=>⟨Z5 (by omega),ib,fun h=>by simp at h,fun _=>⟨Z5 (by omega),Z5 (by omega),⟨x.val+1,hlt'⟩,⟨⟨⟨rfl,Z9 _ _⟩,by dsimp only;omega,by dsimp only;omega,trivial⟩,trivial⟩,W5.ext_lt hlt'⟩⟩⟩
 ·have hx:x.val=n:=by have:=x.2;have:=Y2 hc;omega
  rw[hx]
def d30:Con:=.tmp
theorem E9:Z8 Tryz.prog 37:=⟨_,Tryz.func37,by kernel_rfl,by kernel_rfl⟩
theorem l7:Z2 Tryz.prog 37 d30:=trivial
def d5d:Con:=.tmp
theorem a6F:Z8 Tryz.prog 185:=⟨_,Tryz.func185,by kernel_rfl,by kernel_rfl⟩
theorem b7X:Z2 Tryz.prog 185 d5d:=trivial
def d35:Con:=.tmp
theorem c3k:Z8 Tryz.prog 109:=⟨_,Tryz.func109,by kernel_rfl,by kernel_rfl⟩
theorem d2S:Z2 Tryz.prog 109 d35:=trivial
def Lks.tm(l:Lks)(b:Nat):List T:=[.osl b 0 l.held.length,.osl (b+1) 0 l.waits.length]
def Lks.hp(l:Lks):Y5:=[a0E l.held,wtA l.waits]
theorem a2P(l:Lks):L1 l.hp:=B4 (a22 _) (a5d _)
def d1O:Con:=.rmk ⟨Lks,fun l=>[.agg l.ts],fun _=>[],fun l=>.agg (l.tm 0),fun l=>l.hp,a1q⟩
noncomputable def d2f:Code:=Tryz.f91.body.getD .skip
theorem b3S:Z8 Tryz.prog 91:=⟨_,Tryz.func91,by kernel_rfl,by kernel_rfl⟩
theorem d02(l:Lks)(h:
  ∃(x:(List Lck)),(((l.held.length=List.length x/\Z7 l.held.length (Y9 l.held) (Y9 x))/\True)/\List.length x<=1048576)/\∃(x_1:(List Wt)),(((l.waits.length=List.length x_1/\Z7 l.waits.length (Y1
  l.waits) (Y1 x_1))/\True)/\List.length x_1<=1048576)/\(((0=0/\List.length x=l.held.length)/\(0=0/\List.length x_1=l.waits.length)/\True)/\True)/\(List.length x=l.held.length/\Z7 (List.length x) (Y9
  x) (Y9 l.held))/\(List.length x_1=l.waits.length/\Z7 (List.length x_1) (Y1 x_1) (Y1 l.waits))/\True):
  V7 Tryz.prog 91 [.agg l.ts] [] (.agg (l.tm 0)) l.hp:=
 C4 (code:=d2f) (gC c5H b6b (gC c9D b9q gN)) Tryz.func91 (by kernel_rfl) (by kernel_rfl) Z0 [[.arr 2,.arr 3]] h (by kernel_rfl)
theorem c7B:Z2 Tryz.prog 91 d1O:=by
 rintro(l:Lks) ⟨h1,h2⟩;exact⟨d02 l ⟨l.held,⟨⟨⟨rfl,Z9 _ _⟩,trivial⟩,h1⟩,l.waits,⟨⟨⟨rfl,Z9 _ _⟩,trivial⟩,h2⟩,⟨⟨⟨rfl,rfl⟩,⟨rfl,rfl⟩,trivial⟩,trivial⟩,⟨rfl,Z9 _ _⟩,⟨rfl,Z9 _ _⟩,trivial⟩,rfl,a2P l⟩
def c5i:Con:=.rel ⟨Lks,fun l=>[.agg l.ts],fun l=>.agg l.ts,a1q⟩
noncomputable def c6I:Code:=Tryz.f80.body.getD .skip
theorem b2Q:Z8 Tryz.prog 80:=⟨_,Tryz.func80,by kernel_rfl,by kernel_rfl⟩
theorem c48(l:Lks)(h:
  V6 0 l.held.length 32/\V6 0 l.waits.length 16/\(Y3 Y9 l.held l.held)/\(Y3 Y1 l.waits l.waits)/\True):
  Z1 Tryz.prog 80 [.agg l.ts] (.agg l.ts):=
 T7 (code:=c6I) (gC l7 E9 (gC b7X a6F (gC d2S c3k gN))) Tryz.func80 (by kernel_rfl) (by kernel_rfl) Z0 h (by kernel_rfl)
theorem b9a:Z2 Tryz.prog 80 c5i:=by
 rintro(l:Lks) ⟨h1,h2⟩;exact c48 l ⟨by unfold V6;omega,by unfold V6;omega,⟨rfl,Z9 _ _⟩,⟨rfl,Z9 _ _⟩,trivial⟩
def c97:Con:=.rmk ⟨Lks,fun l=>[.agg l.ts],fun _=>[],fun l=>.agg (l.tm 0),fun l=>l.hp,a1q⟩
noncomputable def d1F:Code:=Tryz.f40.body.getD .skip
theorem b6q:Z8 Tryz.prog 40:=⟨_,Tryz.func40,by kernel_rfl,by kernel_rfl⟩
theorem d0b(l:Lks)(h:
  ∃(x:(List Lck)),(((l.held.length=List.length x/\Z7 l.held.length (Y9 l.held) (Y9 x))/\True)/\List.length x<=1048576)/\∃(x_1:(List Wt)),(((l.waits.length=List.length x_1/\Z7 l.waits.length (Y1
  l.waits) (Y1 x_1))/\True)/\List.length x_1<=1048576)/\(((0=0/\List.length x=l.held.length)/\(0=0/\List.length x_1=l.waits.length)/\True)/\True)/\(List.length x=l.held.length/\Z7 (List.length x) (Y9
  x) (Y9 l.held))/\(List.length x_1=l.waits.length/\Z7 (List.length x_1) (Y1 x_1) (Y1 l.waits))/\True):
  V7 Tryz.prog 40 [.agg l.ts] [] (.agg (l.tm 0)) l.hp:=
 C4 (code:=d1F) (gC c1p b0N (gC c5S b5L gN)) Tryz.func40 (by kernel_rfl) (by kernel_rfl) Z0 [[.arr 3,.arr 4]] h (by kernel_rfl)
theorem c5y:Z2 Tryz.prog 40 c97:=by
 rintro(l:Lks) ⟨h1,h2⟩;exact⟨d0b l ⟨l.held,⟨⟨⟨rfl,Z9 _ _⟩,trivial⟩,h1⟩,l.waits,⟨⟨⟨rfl,Z9 _ _⟩,trivial⟩,h2⟩,⟨⟨⟨rfl,rfl⟩,⟨rfl,rfl⟩,trivial⟩,trivial⟩,⟨rfl,Z9 _ _⟩,⟨rfl,Z9 _ _⟩,trivial⟩,rfl,a2P l⟩
def b1q(l:Lks)(k:Nat):Lks:=⟨T0 l.held.length k,M6 l.waits.length (k+4*l.held.length)⟩
def a2N(l:Lks)(k:Nat):Nat:=k+4*l.held.length+2*l.waits.length
def KBl(l:Lks)(k:Nat):Prop:=a1q l/\1<=k/\k<=9000000000000
def c3l:Con:=.reff ⟨Lks×Nat,fun x=>[.agg (x.1.tm 0),.int .i64 x.2],fun x=>x.1.hp,fun x=>.int .i64 (a2N x.1 x.2),fun x=>(b1q x.1 x.2).hp,fun x=>KBl x.1 x.2⟩
noncomputable def c0A:Code:=Tryz.f49.body.getD .skip
theorem a8d:Z8 Tryz.prog 49:=⟨_,Tryz.func49,by kernel_rfl,by kernel_rfl⟩
theorem c1M(l:Lks)(k:Nat)(h:
  ∃(x:(List Lck×Nat)),(((0=0/\l.held.length=x.fst.length)/\(k:Int)=(x.snd:Int)/\True)/\((Y3 Y9 l.held x.fst)/\True)/\KBn x.fst.length x.snd 4)/\∃(x_1:(List Wt×Nat)),(((0=0/\l.waits.length=
  x_1.fst.length)/\(↑(x.snd+4*x.fst.length):Int)=(x_1.snd:Int)/\True)/\((Y3 Y1 l.waits x_1.fst)/\True)/\KBn x_1.fst.length x_1.snd 2)/\((↑(x_1.snd+2*x_1.fst.length):Int)=(↑(a2N l k):Int)/\True)/\(Y3
  Y9 (T0 x.fst.length x.snd) (T0 l.held.length k))/\(Y3 Y1 (M6 x_1.fst.length x_1.snd) (M6 l.waits.length (k+4*l.held.length)))/\True):
  V7 Tryz.prog 49 [.agg (l.tm 0),.int .i64 k] l.hp (.int .i64 (a2N l k)) (b1q l k).hp:=
 C4 (code:=c0A) (gC a9u a5N (gC b5x a9e gN)) Tryz.func49 (by kernel_rfl) (by kernel_rfl) Z0 [[.arr 0,.arr 1]] h (by kernel_rfl)
theorem b3J:Z2 Tryz.prog 49 c3l:=by
 rintro⟨l,k⟩ ⟨⟨h1,h2⟩,h4,h5⟩;dsimp only at h1 h2 h4 h5;exact c1M l k ⟨(l.held,k),⟨⟨⟨rfl,rfl⟩,rfl,trivial⟩,⟨⟨rfl,Z9 _ _⟩,trivial⟩,h1,h4,by dsimp only;omega⟩,(l.waits,k+4*l.held.length),⟨⟨⟨rfl,rfl⟩,rfl,trivial⟩,⟨⟨rfl,Z9 _ _⟩,trivial⟩,h2,by dsimp only;omega,by dsimp only;omega⟩,⟨rfl,trivial⟩,⟨rfl,Z9 _ _⟩,⟨rfl,Z9 _ _⟩,trivial⟩
def c1O:Con:=.rel ⟨Lks×Nat,fun x=>[.agg (b1q x.1 x.2).ts,.int .i64 x.2],fun x=>.int .i64 (a2N x.1 x.2),fun x=>KBl x.1 x.2⟩
noncomputable def c2P:Code:=Tryz.f52.body.getD .skip
theorem a7U:Z8 Tryz.prog 52:=⟨_,Tryz.func52,by kernel_rfl,by kernel_rfl⟩
theorem c1z(l:Lks)(k:Nat)(h:
  ∃(x:(Nat×Nat)),(((Y3 Y9 (T0 l.held.length k) (T0 x.fst x.snd))/\(k:Int)=(x.snd:Int)/\True)/\KBn x.fst x.snd 4)/\(decide ((↑(x.snd+4*x.fst):Int)<(0:Int))=true->(-1:Int)=(↑(a2N l k):Int))/\
  (decide ((↑(x.snd+4*x.fst):Int)<(0:Int))=false->∃(x_1:(Nat×Nat)),(((Y3 Y1 (M6 l.waits.length (k+4*l.held.length)) (M6 x_1.fst x_1.snd))/\(↑(x.snd+4*x.fst):Int)=(x_1.snd:Int)/\True)/\KBn
  x_1.fst x_1.snd 2)/\(decide ((↑(x_1.snd+2*x_1.fst):Int)<(0:Int))=true->(-1:Int)=(↑(a2N l k):Int))/\(decide ((↑(x_1.snd+2*x_1.fst):Int)<(0:Int))=false->(↑(x_1.snd+2*x_1.fst):Int)=(↑(a2N l
  k):Int)))):
  Z1 Tryz.prog 52 [.agg (b1q l k).ts,.int .i64 k] (.int .i64 (a2N l k)):=
 T7 (code:=c2P) (gC b0y a5B (gC b59 a9n gN)) Tryz.func52 (by kernel_rfl) (by kernel_rfl) Z0 h (by kernel_rfl)
theorem ngN(n:Nat)(h:decide ((n:Int)<0)=true){p:Prop}:p:=absurd (of_decide_eq_true h) (by omega)
theorem b5v:Z2 Tryz.prog 52 c1O:=by
 rintro⟨l,k⟩ ⟨⟨h1,h2⟩,h4,h5⟩;dsimp only at h1 h2 h4 h5;exact c1z l k ⟨(l.held.length,k),⟨⟨⟨rfl,Z9 _ _⟩,rfl,trivial⟩,h1,h4,by dsimp only;omega⟩,fun h=>ngN _ h,fun _=>⟨(l.waits.length,k+4*l.held.length),⟨⟨⟨rfl,Z9 _ _⟩,rfl,trivial⟩,h2,by dsimp only;omega,by dsimp only;omega⟩,fun h=>ngN _ h,fun _=>rfl⟩⟩
end Go.Proofs.YtokaojbaacnngaaGreat

namespace Go.Proofs.YtokaojbaacnngaaGreat
set_option maxRecDepth 100000
open Go.SS

def Eng.tm(e:Eng)(b:Nat):List T:=[.osl b 0 e.s.d.sec.length,.osl (b+1) 0 e.s.d.cache.length,.bool e.s.d.armed,.osl (b+2) 0 e.s.d.keep.length,.int .i64 e.s.ep,.osl (b+3) 0 e.s.log.length,.int .i64 e.s.sure,.osl (b+4) 0 e.s.fr.length,.int .i64 e.s.hand,.bool e.up,.osl (b+5) 0 e.txs.length,.osl (b+6) 0 e.lk.held.length,.osl (b+7) 0 e.lk.waits.length,.int .i64 e.next]
def Eng.hp(e:Eng)(v:Nat):Y5:=[I6 e.s.d.sec,J4 e.s.d.cache,C9 e.s.d.keep,A1 e.s.log,c8 v e.s.fr e.s.fr.length,a1l e.txs,a0E e.lk.held,wtA e.lk.waits]
abbrev a3F(a b:Eng):Prop:=Y3 Z6 a.s.d.sec b.s.d.sec/\Y3 Z3 a.s.d.cache b.s.d.cache/\a.s.d.armed=b.s.d.armed/\Y3 Y7 a.s.d.keep b.s.d.keep/\a.s.ep=b.s.ep/\Y3 Y4 a.s.log b.s.log/\a.s.sure=b.s.sure/\(a.s.fr.length=b.s.fr.length/\Z7 a.s.fr.length (a9X (Y0 a.s.fr)) (V3 b.s.fr))/\a.s.hand=b.s.hand/\a.up=b.up/\Y3 X9 a.txs b.txs/\Y3 Y9 a.lk.held b.lk.held/\Y3 Y1 a.lk.waits b.lk.waits/\a.next=b.next/\True
abbrev b9Q(a b:Eng):Prop:=((0:Nat)=0/\a.s.d.sec.length=b.s.d.sec.length)/\((0:Nat)=0/\a.s.d.cache.length=b.s.d.cache.length)/\a.s.d.armed=b.s.d.armed/\((0:Nat)=0/\a.s.d.keep.length=b.s.d.keep.length)/\a.s.ep=b.s.ep/\((0:Nat)=0/\a.s.log.length=b.s.log.length)/\a.s.sure=b.s.sure/\((0:Nat)=0/\a.s.fr.length=b.s.fr.length)/\a.s.hand=b.s.hand/\a.up=b.up/\((0:Nat)=0/\a.txs.length=b.txs.length)/\((0:Nat)=0/\a.lk.held.length=b.lk.held.length)/\((0:Nat)=0/\a.lk.waits.length=b.lk.waits.length)/\a.next=b.next/\True
abbrev b88(v u:Nat)(a b:Eng):Prop:=Y3 Z6 a.s.d.sec b.s.d.sec/\Y3 Z3 a.s.d.cache b.s.d.cache/\Y3 Y7 a.s.d.keep b.s.d.keep/\Y3 Y4 a.s.log b.s.log/\(v=u/\a.s.fr.length=b.s.fr.length/\T9 a.s.fr.length (Y0 a.s.fr) (Y0 b.s.fr))/\Y3 X9 a.txs b.txs/\Y3 Y9 a.lk.held b.lk.held/\Y3 Y1 a.lk.waits b.lk.waits/\True
abbrev LeG(a:Eng):Prop:=Le (0+a.s.d.sec.length) a.s.d.sec.length/\Le (0+a.s.d.cache.length) a.s.d.cache.length/\Le (0+a.s.d.keep.length) a.s.d.keep.length/\Le (0+a.s.log.length) a.s.log.length/\Le (0+a.s.fr.length) a.s.fr.length/\Le (0+a.txs.length) a.txs.length/\Le (0+a.lk.held.length) a.lk.held.length/\Le (0+a.lk.waits.length) a.lk.waits.length
theorem a2K(e:Eng)(v:Nat):L1 (e.hp v):=B4 (H:=e.s.hp v) (a1h _ _) (B4 (H:=[a1l e.txs]) (a2G _) (a2P e.lk))
def d2i:Con:=.rmk ⟨Eng,fun e=>[.agg e.ts],fun _=>[],fun e=>.agg (e.tm 0),fun e=>e.hp 0,L9⟩
noncomputable def d3c:Code:=Tryz.f42.body.getD .skip
theorem b5Z:Z8 Tryz.prog 42:=⟨_,Tryz.func42,by kernel_rfl,by kernel_rfl⟩
theorem d1z(e:Eng)(h:
  ∃(x:Sto),(((EqS e.s x)/\True)/\SmS x)/\∃(x_1:(List Txn)),(((e.txs.length=List.length x_1/\Z7 e.txs.length (X9 e.txs) (X9 x_1))/\True)/\List.length x_1<=1048576)/\∃(x_2:Lks),((((Y3 Y9
  e.lk.held x_2.held)/\(Y3 Y1 e.lk.waits x_2.waits)/\True)/\True)/\a1q x_2)/\(((0=0/\x.d.sec.length=e.s.d.sec.length)/\(0=0/\x.d.cache.length=e.s.d.cache.length)/\x.d.armed=e.s.d.armed/\(0=0/\
  x.d.keep.length=e.s.d.keep.length)/\x.ep=e.s.ep/\(0=0/\x.log.length=e.s.log.length)/\x.sure=e.s.sure/\(0=0/\x.fr.length=e.s.fr.length)/\x.hand=e.s.hand/\e.up=e.up/\(0=0/\List.length x_1=
  e.txs.length)/\(0=0/\x_2.held.length=e.lk.held.length)/\(0=0/\x_2.waits.length=e.lk.waits.length)/\e.next=e.next/\True)/\True)/\(Y3 Z6 x.d.sec e.s.d.sec)/\(Y3 Z3 x.d.cache e.s.d.cache)/\(Y3 Y7
  x.d.keep e.s.d.keep)/\(Y3 Y4 x.log e.s.log)/\(0=0/\x.fr.length=e.s.fr.length/\T9 x.fr.length (Y0 x.fr) (Y0 e.s.fr))/\(List.length x_1=e.txs.length/\Z7 (List.length x_1) (X9 x_1) (X9 e.txs))
  /\(Y3 Y9 x_2.held e.lk.held)/\(Y3 Y1 x_2.waits e.lk.waits)/\True):
  V7 Tryz.prog 42 [.agg e.ts] [] (.agg (e.tm 0)) (e.hp 0):=
 C4 (code:=d3c) (gC c5d b3w (gC c6e b5g (gC c7B b3S gN))) Tryz.func42 (by kernel_rfl) (by kernel_rfl) Z0 [[.arr 2,.arr 3,.arr 4,.arr 5,.arr 6,.arr 7,.arr 8,.arr 9]] h (by kernel_rfl)
theorem c6J:Z2 Tryz.prog 42 d2i:=by
 rintro(e:Eng) ⟨h1,h2,h3⟩;exact⟨d1z e ⟨e.s,⟨⟨(eqS _),trivial⟩,h1⟩,e.txs,⟨⟨⟨rfl,Z9 _ _⟩,trivial⟩,h2⟩,e.lk,⟨⟨⟨⟨rfl,Z9 _ _⟩,⟨rfl,Z9 _ _⟩,trivial⟩,trivial⟩,h3⟩,⟨⟨⟨rfl,rfl⟩,⟨rfl,rfl⟩,rfl,⟨rfl,rfl⟩,rfl,⟨rfl,rfl⟩,rfl,⟨rfl,rfl⟩,rfl,rfl,⟨rfl,rfl⟩,⟨rfl,rfl⟩,⟨rfl,rfl⟩,rfl,trivial⟩,trivial⟩,⟨rfl,Z9 _ _⟩,⟨rfl,Z9 _ _⟩,⟨rfl,Z9 _ _⟩,⟨rfl,Z9 _ _⟩,⟨rfl,rfl,U4 _⟩,⟨rfl,Z9 _ _⟩,⟨rfl,Z9 _ _⟩,⟨rfl,Z9 _ _⟩,trivial⟩,rfl,a2K e 0⟩
def c5D:Con:=.rel ⟨Eng,fun e=>[.agg e.ts],fun e=>.agg e.ts,L9⟩
noncomputable def c59:Code:=Tryz.f37.body.getD .skip
theorem b0U:Z8 Tryz.prog 37:=⟨_,Tryz.func37,by kernel_rfl,by kernel_rfl⟩
theorem c4I(e:Eng)(h:
  ∃(x:Sto),(((EqS e.s x)/\True)/\SmS x)/\(Le 0 0/\V6 0 e.txs.length 16)/\∃(x_1:Lks),((((Y3 Y9 e.lk.held x_1.held)/\(Y3 Y1 e.lk.waits x_1.waits)/\True)/\True)/\a1q x_1)/\(Le (0+x.d.sec.length)
  x.d.sec.length/\Le (0+x.d.cache.length) x.d.cache.length/\Le (0+x.d.keep.length) x.d.keep.length/\Le (0+x.log.length) x.log.length/\Le (0+x.fr.length) x.fr.length/\Le (0+(0+e.txs.length)) (0+e.txs.length))/\
  (Y3 Z6 x.d.sec e.s.d.sec)/\(Y3 Z3 x.d.cache e.s.d.cache)/\x.d.armed=e.s.d.armed/\(Y3 Y7 x.d.keep e.s.d.keep)/\x.ep=e.s.ep/\(Y3 Y4 x.log e.s.log)/\x.sure=e.s.sure/\(x.fr.length=e.s.fr.length/\
  Z7 x.fr.length (a9X (Y0 x.fr)) (V3 e.s.fr))/\x.hand=e.s.hand/\e.up=e.up/\(0+e.txs.length=e.txs.length/\Z7 (0+e.txs.length) (W4 (fun(k:Nat)=>List.take 2 (List.drop (k*2) [])) 0 (X9
  e.txs)) (X9 e.txs))/\(Y3 Y9 x_1.held e.lk.held)/\(Y3 Y1 x_1.waits e.lk.waits)/\e.next=e.next/\True):
  Z1 Tryz.prog 37 [.agg e.ts] (.agg e.ts):=
 T7 (code:=c59) (gC c2R b2E (gC b9a b2Q gN)) Tryz.func37 (by kernel_rfl) (by kernel_rfl) Z0 h (by kernel_rfl)
theorem c1P:Z2 Tryz.prog 37 c5D:=by
 rintro(e:Eng) ⟨h1,h2,h3⟩;exact c4I e ⟨e.s,⟨⟨(eqS _),trivial⟩,h1⟩,⟨Nat.le_refl _,by unfold V6;omega⟩,e.lk,⟨⟨⟨⟨rfl,Z9 _ _⟩,⟨rfl,Z9 _ _⟩,trivial⟩,trivial⟩,h3⟩,⟨T3 _,T3 _,T3 _,T3 _,T3 _,by unfold Le;omega⟩,⟨rfl,Z9 _ _⟩,⟨rfl,Z9 _ _⟩,rfl,⟨rfl,Z9 _ _⟩,rfl,⟨rfl,Z9 _ _⟩,rfl,⟨rfl,fun _ _=>rfl⟩,rfl,rfl,⟨by omega,G4⟩,⟨rfl,Z9 _ _⟩,⟨rfl,Z9 _ _⟩,rfl,trivial⟩
def c9K:Con:=.rmk ⟨Eng,fun e=>[.agg e.ts],fun _=>[],fun e=>.agg (e.tm 0),fun e=>e.hp e.s.fr.length,L9⟩
noncomputable def d08:Code:=Tryz.f12.body.getD .skip
theorem b3v:Z8 Tryz.prog 12:=⟨_,Tryz.func12,by kernel_rfl,by kernel_rfl⟩
theorem d24(e:Eng)(h:
  ∃(x:Sto),(((EqS e.s x)/\True)/\SmS x)/\∃(x_1:(List Txn)),(((e.txs.length=List.length x_1/\Z7 e.txs.length (X9 e.txs) (X9 x_1))/\True)/\List.length x_1<=1048576)/\∃(x_2:Lks),((((Y3 Y9
  e.lk.held x_2.held)/\(Y3 Y1 e.lk.waits x_2.waits)/\True)/\True)/\a1q x_2)/\(((0=0/\x.d.sec.length=e.s.d.sec.length)/\(0=0/\x.d.cache.length=e.s.d.cache.length)/\x.d.armed=e.s.d.armed/\(0=0/\
  x.d.keep.length=e.s.d.keep.length)/\x.ep=e.s.ep/\(0=0/\x.log.length=e.s.log.length)/\x.sure=e.s.sure/\(0=0/\x.fr.length=e.s.fr.length)/\x.hand=e.s.hand/\e.up=e.up/\(0=0/\List.length x_1=
  e.txs.length)/\(0=0/\x_2.held.length=e.lk.held.length)/\(0=0/\x_2.waits.length=e.lk.waits.length)/\e.next=e.next/\True)/\True)/\(Y3 Z6 x.d.sec e.s.d.sec)/\(Y3 Z3 x.d.cache e.s.d.cache)/\(Y3 Y7
  x.d.keep e.s.d.keep)/\(Y3 Y4 x.log e.s.log)/\(x.fr.length=e.s.fr.length/\x.fr.length=e.s.fr.length/\T9 x.fr.length (Y0 x.fr) (Y0 e.s.fr))/\(List.length x_1=e.txs.length/\Z7 (List.length x_1) (X9
  x_1) (X9 e.txs))/\(Y3 Y9 x_2.held e.lk.held)/\(Y3 Y1 x_2.waits e.lk.waits)/\True):
  V7 Tryz.prog 12 [.agg e.ts] [] (.agg (e.tm 0)) (e.hp e.s.fr.length):=
 C4 (code:=d08) (gC c8P b4N (gC b8N b1C (gC c5y b6q gN))) Tryz.func12 (by kernel_rfl) (by kernel_rfl) Z0 [[.arr 3,.arr 4,.arr 5,.arr 6,.arr 7,.arr 8,.arr 9,.arr 10]] h (by kernel_rfl)
theorem c5Y:Z2 Tryz.prog 12 c9K:=by
 rintro(e:Eng) ⟨h1,h2,h3⟩;exact⟨d24 e ⟨e.s,⟨⟨(eqS _),trivial⟩,h1⟩,e.txs,⟨⟨⟨rfl,Z9 _ _⟩,trivial⟩,h2⟩,e.lk,⟨⟨⟨⟨rfl,Z9 _ _⟩,⟨rfl,Z9 _ _⟩,trivial⟩,trivial⟩,h3⟩,⟨⟨⟨rfl,rfl⟩,⟨rfl,rfl⟩,rfl,⟨rfl,rfl⟩,rfl,⟨rfl,rfl⟩,rfl,⟨rfl,rfl⟩,rfl,rfl,⟨rfl,rfl⟩,⟨rfl,rfl⟩,⟨rfl,rfl⟩,rfl,trivial⟩,trivial⟩,⟨rfl,Z9 _ _⟩,⟨rfl,Z9 _ _⟩,⟨rfl,Z9 _ _⟩,⟨rfl,Z9 _ _⟩,⟨rfl,rfl,U4 _⟩,⟨rfl,Z9 _ _⟩,⟨rfl,Z9 _ _⟩,⟨rfl,Z9 _ _⟩,trivial⟩,rfl,a2K e _⟩
def d0P(e:Eng)(k:Nat):Eng:={e with s:=c4K e.s k,txs:=Q5 e.txs.length (R0 e.s k),lk:=b1q e.lk (R0 e.s k+2*e.txs.length)}
def w6(e:Eng)(k:Nat):Nat:=a2N e.lk (R0 e.s k+2*e.txs.length)
def KBg(e:Eng)(k:Nat):Prop:=L9 e/\1<=k/\k<=100000000
theorem b74{s:Sto}{k:Nat}(h:KBs s k):1<=R0 s k/\R0 s k<=5000000000000:=by
 obtain⟨⟨h1,h2,h3,h4⟩,h6,h7⟩:=h;have hd:S5 s.d k<=110000000:=by unfold S5;obtain⟨a1,a2,a3⟩:=h1;omega
 have hd1:1<=S5 s.d k:=by unfold S5;omega
 have hp:=a3S (R7 s.fr) (S5 s.d k+10*s.log.length) (n:=s.fr.length) h4;have hq:S5 s.d k+10*s.log.length<=R6 (R7 s.fr) (S5 s.d k+10*s.log.length) s.fr.length:=u3 (R7 s.fr) (S5 s.d k+10*s.log.length) (i:=0) (Nat.zero_le _);unfold R0;omega
def c2t:Con:=.reff ⟨Eng×Nat×Nat,fun x=>[.agg (x.1.tm 0),.int .i64 x.2.1],fun x=>x.1.hp x.2.2,fun x=>.int .i64 (w6 x.1 x.2.1),fun x=>(d0P x.1 x.2.1).hp x.2.2,fun x=>KBg x.1 x.2.1⟩
noncomputable def b9k:Code:=Tryz.f17.body.getD .skip
theorem a7l:Z8 Tryz.prog 17:=⟨_,Tryz.func17,by kernel_rfl,by kernel_rfl⟩
theorem c2N(e:Eng)(k v:Nat)(h:
  ∃(x:(Sto×Nat×Nat)),((((0=0/\e.s.d.sec.length=x.fst.d.sec.length)/\(0=0/\e.s.d.cache.length=x.fst.d.cache.length)/\e.s.d.armed=x.fst.d.armed/\(0=0/\e.s.d.keep.length=x.fst.d.keep.length)/\e.s.ep=
  x.fst.ep/\(0=0/\e.s.log.length=x.fst.log.length)/\e.s.sure=x.fst.sure/\(0=0/\e.s.fr.length=x.fst.fr.length)/\e.s.hand=x.fst.hand/\True)/\(k:Int)=(x.snd.fst:Int)/\True)/\((Y3 Z6 e.s.d.sec x.fst.d.sec)/\
  (Y3 Z3 e.s.d.cache x.fst.d.cache)/\(Y3 Y7 e.s.d.keep x.fst.d.keep)/\(Y3 Y4 e.s.log x.fst.log)/\(v=x.snd.snd/\e.s.fr.length=x.fst.fr.length/\T9 e.s.fr.length (Y0 e.s.fr) (Y0 x.fst.fr))/\True)/\
  KBs x.fst x.snd.fst)/\∃(x_1:(List Txn×Nat)),(((0=0/\e.txs.length=x_1.fst.length)/\(↑(R0 x.fst x.snd.fst):Int)=(x_1.snd:Int)/\True)/\((Y3 X9 e.txs x_1.fst)/\True)/\KBn x_1.fst.length x_1.snd 2)/\∃(x_2
  :(Lks×Nat)),((((0=0/\e.lk.held.length=x_2.fst.held.length)/\(0=0/\e.lk.waits.length=x_2.fst.waits.length)/\True)/\(↑(x_1.snd+2*x_1.fst.length):Int)=(x_2.snd:Int)/\True)/\((Y3 Y9 e.lk.held
  x_2.fst.held)/\(Y3 Y1 e.lk.waits x_2.fst.waits)/\True)/\KBl x_2.fst x_2.snd)/\((↑(a2N x_2.fst x_2.snd):Int)=(↑(w6 e k):Int)/\True)/\(Y3 Z6 (B1 x.fst.d.sec.length x.snd.fst) (B1 e.s.d.sec.length k))/\(Y3
  Z3 (u4 x.fst.d.cache.length (x.snd.fst+x.fst.d.sec.length)) (u4 e.s.d.cache.length (k+e.s.d.sec.length)))/\(Y3 Y7 (m8 x.fst.d.keep.length (x.snd.fst+x.fst.d.sec.length+2*x.fst.d.cache.length)) (m8
  e.s.d.keep.length (k+e.s.d.sec.length+2*e.s.d.cache.length)))/\(Y3 Y4 (F8 x.fst.log.length (S5 x.fst.d x.snd.fst)) (F8 e.s.log.length (S5 e.s.d k)))/\(x.snd.snd=v/\(y3 x.fst.fr.length (R7 x.fst.fr) (S5
  x.fst.d x.snd.fst+10*x.fst.log.length)).length=(y3 e.s.fr.length (R7 e.s.fr) (S5 e.s.d k+10*e.s.log.length)).length/\T9 (y3 x.fst.fr.length (R7 x.fst.fr) (S5 x.fst.d x.snd.fst+10*
  x.fst.log.length)).length (Y0 (y3 x.fst.fr.length (R7 x.fst.fr) (S5 x.fst.d x.snd.fst+10*x.fst.log.length))) (Y0 (y3 e.s.fr.length (R7 e.s.fr) (S5 e.s.d k+10*e.s.log.length))))/\(Y3 X9 (Q5
  x_1.fst.length x_1.snd) (Q5 e.txs.length (R0 e.s k)))/\(Y3 Y9 (T0 x_2.fst.held.length x_2.snd) (T0 e.lk.held.length (R0 e.s k+2*e.txs.length)))/\(Y3 Y1 (M6 x_2.fst.waits.length (x_2.snd+4*
  x_2.fst.held.length)) (M6 e.lk.waits.length (R0 e.s k+2*e.txs.length+4*e.lk.held.length)))/\True):
  V7 Tryz.prog 17 [.agg (e.tm 0),.int .i64 k] (e.hp v) (.int .i64 (w6 e k)) ((d0P e k).hp v):=
 C4 (code:=b9k) (gC b6l a7e (gC b1M a5x (gC b3J a8d gN))) Tryz.func17 (by kernel_rfl) (by kernel_rfl) Z0 [[.arr 0,.arr 1,.arr 2,.arr 3,.arr 4,.arr 5,.arr 6,.arr 7]] h (by kernel_rfl)
theorem b6C:Z2 Tryz.prog 17 c2t:=by
 rintro⟨e,k,v⟩ ⟨⟨h1,h2,h3⟩,h6,h7⟩;dsimp only at h1 h2 h3 h6 h7;have hk:KBs e.s k:=⟨h1,h6,h7⟩;obtain⟨g1,g2⟩:=b74 hk;exact c2N e k v ⟨(e.s,k,v),⟨⟨⟨⟨rfl,rfl⟩,⟨rfl,rfl⟩,rfl,⟨rfl,rfl⟩,rfl,⟨rfl,rfl⟩,rfl,⟨rfl,rfl⟩,rfl,trivial⟩,rfl,trivial⟩,⟨⟨rfl,Z9 _ _⟩,⟨rfl,Z9 _ _⟩,⟨rfl,Z9 _ _⟩,⟨rfl,Z9 _ _⟩,⟨rfl,rfl,U4 _⟩,trivial⟩,hk⟩,(e.txs,R0 e.s k),⟨⟨⟨rfl,rfl⟩,rfl,trivial⟩,⟨⟨rfl,Z9 _ _⟩,trivial⟩,h2,g1,by dsimp only;omega⟩,(e.lk,R0 e.s k+2*e.txs.length),⟨⟨⟨⟨rfl,rfl⟩,⟨rfl,rfl⟩,trivial⟩,rfl,trivial⟩,⟨⟨rfl,Z9 _ _⟩,⟨rfl,Z9 _ _⟩,trivial⟩,h3,by dsimp only;omega,by dsimp only;omega⟩,⟨rfl,trivial⟩,⟨rfl,Z9 _ _⟩,⟨rfl,Z9 _ _⟩,⟨rfl,Z9 _ _⟩,⟨rfl,Z9 _ _⟩,⟨rfl,rfl,U4 _⟩,⟨rfl,Z9 _ _⟩,⟨rfl,Z9 _ _⟩,⟨rfl,Z9 _ _⟩,trivial⟩
def c2u:Con:=.rel ⟨Eng×Nat,fun x=>[.agg (d0P x.1 x.2).ts,.int .i64 x.2],fun x=>.int .i64 (w6 x.1 x.2),fun x=>KBg x.1 x.2⟩
noncomputable def b89:Code:=Tryz.f19.body.getD .skip
theorem a8k:Z8 Tryz.prog 19:=⟨_,Tryz.func19,by kernel_rfl,by kernel_rfl⟩
theorem c2Y(e:Eng)(k:Nat)(h:
  ∃(x:(Sto×Nat)),((((Y3 Z6 (B1 e.s.d.sec.length k) (B1 x.fst.d.sec.length x.snd))/\(Y3 Z3 (u4 e.s.d.cache.length (k+e.s.d.sec.length)) (u4 x.fst.d.cache.length (x.snd+x.fst.d.sec.length)))/\e.s.d.armed=
  x.fst.d.armed/\(Y3 Y7 (m8 e.s.d.keep.length (k+e.s.d.sec.length+2*e.s.d.cache.length)) (m8 x.fst.d.keep.length (x.snd+x.fst.d.sec.length+2*x.fst.d.cache.length)))/\e.s.ep=x.fst.ep/\(Y3 Y4 (F8
  e.s.log.length (S5 e.s.d k)) (F8 x.fst.log.length (S5 x.fst.d x.snd)))/\e.s.sure=x.fst.sure/\(Y3 V3 (y3 e.s.fr.length (R7 e.s.fr) (S5 e.s.d k+10*e.s.log.length)) (y3 x.fst.fr.length (R7 x.fst.fr) (S5
  x.fst.d x.snd+10*x.fst.log.length)))/\e.s.hand=x.fst.hand/\True)/\(k:Int)=(x.snd:Int)/\True)/\KBs x.fst x.snd)/\(decide ((↑(R0 x.fst x.snd):Int)<(0:Int))=true->(-1:Int)=(↑(w6 e k):Int))/\(decide
  ((↑(R0 x.fst x.snd):Int)<(0:Int))=false->∃(x_1:(Nat×Nat)),(((Y3 X9 (Q5 e.txs.length (R0 e.s k)) (Q5 x_1.fst x_1.snd))/\(↑(R0 x.fst x.snd):Int)=(x_1.snd:Int)/\True)/\KBn x_1.fst x_1.snd 2)/\
  (decide ((↑(x_1.snd+2*x_1.fst):Int)<(0:Int))=true->(-1:Int)=(↑(w6 e k):Int))/\(decide ((↑(x_1.snd+2*x_1.fst):Int)<(0:Int))=false->∃(x:(Lks×Nat)),((((Y3 Y9 (T0 e.lk.held.length (R0
  e.s k+2*e.txs.length)) (T0 x.fst.held.length x.snd))/\(Y3 Y1 (M6 e.lk.waits.length (R0 e.s k+2*e.txs.length+4*e.lk.held.length)) (M6 x.fst.waits.length (x.snd+4*x.fst.held.length)))/\True)/\
  (↑(x_1.snd+2*x_1.fst):Int)=(x.snd:Int)/\True)/\KBl x.fst x.snd)/\(decide ((↑(a2N x.fst x.snd):Int)<(0:Int))=true->(-1:Int)=(↑(w6 e k):Int))/\(decide ((↑(a2N x.fst x.snd):Int)<(0:Int))=false->
  (↑(a2N x.fst x.snd):Int)=(↑(w6 e k):Int))))):
  Z1 Tryz.prog 19 [.agg (d0P e k).ts,.int .i64 k] (.int .i64 (w6 e k)):=
 T7 (code:=b89) (gC b5S a8a (gC b1P a5Z (gC b5v a7U gN))) Tryz.func19 (by kernel_rfl) (by kernel_rfl) Z0 h (by kernel_rfl)
theorem b5G:Z2 Tryz.prog 19 c2u:=by
 rintro⟨e,k⟩ ⟨⟨h1,h2,h3⟩,h6,h7⟩;dsimp only at h1 h2 h3 h6 h7;have hk:KBs e.s k:=⟨h1,h6,h7⟩;obtain⟨g1,g2⟩:=b74 hk;exact c2Y e k ⟨(e.s,k),⟨⟨⟨⟨rfl,Z9 _ _⟩,⟨rfl,Z9 _ _⟩,rfl,⟨rfl,Z9 _ _⟩,rfl,⟨rfl,Z9 _ _⟩,rfl,⟨rfl,Z9 _ _⟩,rfl,trivial⟩,rfl,trivial⟩,hk⟩,fun h=>ngN _ h,fun _=>⟨(e.txs.length,R0 e.s k),⟨⟨⟨rfl,Z9 _ _⟩,rfl,trivial⟩,h2,g1,by dsimp only;omega⟩,fun h=>ngN _ h,fun _=>⟨(e.lk,R0 e.s k+2*e.txs.length),⟨⟨⟨⟨rfl,Z9 _ _⟩,⟨rfl,Z9 _ _⟩,trivial⟩,rfl,trivial⟩,h3,by dsimp only;omega,by dsimp only;omega⟩,fun h=>ngN _ h,fun _=>rfl⟩⟩⟩
end Go.Proofs.YtokaojbaacnngaaGreat

