/- A part of the proof. -/
import Derived.Test.YtokaojbaacnngaaGreatD2D3
namespace Go.Proofs.YtokaojbaacnngaaGreat
set_option maxRecDepth 100000
open Go.SS

def E3(a:List UInt8)(i:Nat):Int:=((a.getD i 0).toNat:Int)
def X7(a:List UInt8)(at0:Nat)(r:Nat):List T:=[.int .i64 (E3 a (at0+2*r)),.int .i64 (E3 a (at0+2*r+1))]
def lo0(a:List UInt8):Nat:=(E3 a 0).toNat
def A7(a:List UInt8):Nat:=(E3 a (1+2*lo0 a)).toNat
noncomputable def a0H:Code:=Tryz.f249.body.getD .skip
theorem mY:Z7 Tryz.prog 249:=⟨_,Tryz.func249,by kernel_rfl,by kernel_rfl⟩
def j5(a:List UInt8):Nat:=if 0<a.length/\1+2*lo0 a<=a.length then lo0 a else 0
def A1(a:List UInt8):Nat:=if 0<a.length/\1+2*lo0 a<a.length/\2+2*lo0 a+2*A7 a<=a.length then A7 a else 0
def zF(a:List UInt8):Bool:=decide (0<a.length/\1+2*lo0 a<a.length/\2+2*lo0 a+2*A7 a=a.length)
def c4Y(a:List UInt8):T:=.tup [.sl 2 (j5 a) (X7 a 1),.sl 2 (A1 a) (X7 a (2+2*lo0 a)),.bool (zF a)]
def c4b(n:Nat)(row:Nat->List T):Option Ob:=some (.arr true 0 2 n row)
def c4s(k0 k1 n0 n1:Nat):Option Ob:=some (.arr false 0 1 2 fun r=>match r with|0=>[.osl k0 0 n0]|_=>[.osl k1 0 n1])
def a2o(a:List UInt8):Nat->Ann
 |0=>.unr 3 (fun m=>fun
  |1=>match m with
   |2=>.one {i:Nat//i<=lo0 a} (fun x=>⟨[(0,.str a),(5,.osl 2 0 2),(6,.int .i64 (1+2*x.1)),(7,.int .i64 0),(8,.int .i64 (lo0 a)),(9,.int .i64 x.1)],[c4b x.1 (X7 a 1),c4b 0 (X7 a 0),c4s 0 1 x.1 0]⟩) (fun x=>lo0 a-x.1) [.arr 0,.arr 1,.ren 2] [.arr 4,.arr 1,.ren 2] (fun _=>Z0)
   |_=>.one {i:Nat//i<=A7 a} (fun x=>⟨[(0,.str a),(5,.osl 2 0 2),(6,.int .i64 (2+2*lo0 a+2*x.1)),(7,.int .i64 1),(8,.int .i64 (A7 a)),(9,.int .i64 x.1)],[c4b (lo0 a) (X7 a 1),c4b x.1 (X7 a (2+2*lo0 a)),c4s 0 1 (lo0 a) x.1]⟩) (fun x=>A7 a-x.1) [.arr 0,.arr 1,.ren 2] [.arr 0,.arr 4,.ren 2] (fun _=>Z0)
  |_=>.none)
 |_=>.none
theorem a28(a:List UInt8)(h:
  (true=true->(decide ((0:Int)≥(a.length:Int))=true->X0 (0:Int) 2/\Lt 0 2/\X0 (1:Int) 2/\Lt 1 2/\(Le 0 0/\Le 0 0)/\(0=j5 a/\Z8 0 (fun(k:Nat)=>List.take 2 (List.drop (k*2) [])) (X7 a 1))/\(0=A1 a/\Z8 0 (fun(k:Nat)=>List.take 2 (List.drop (k*2) [])) (X7 a (2+2*lo0 a)))/\false=zF a/\True)/\(decide ((0:Int)≥(a.length:Int))=false->X0 (0:Int) a.length/\X8 .i64 (1:Int)/\X8 .i64 ((2:Int)*IntKind.i64.wrap (↑(a.getD 0 (0:UInt8)).toNat:Int))/\X8 .i64 ((1:Int)+(2:Int)*IntKind.i64.wrap (↑(a.getD 0 (0:UInt8)).toNat:Int))/\(decide ((1:Int)+(2:Int)*IntKind.i64.wrap (↑(a.getD 0 (0:UInt8)).toNat:Int)>(a.length:Int))=true->X0 (0:Int) 2/\Lt 0 2/\X0 (1:Int) 2/\Lt 1 2/\(Le 0 0/\Le 0 0)/\(0=j5 a/\Z8 0 (fun(k:Nat)=>List.take 2 (List.drop (k*2) [])) (X7 a 1))/\(0=A1 a/\Z8 0 (fun(k:Nat)=>List.take 2 (List.drop (k*2) [])) (X7 a (2+2*lo0 a)))/\false=zF a/\True)/\(decide ((1:Int)+(2:Int)*IntKind.i64.wrap (↑(a.getD 0 (0:UInt8)).toNat:Int)>(a.length:Int))=false->(∃(x:{i:Nat//i<=lo0 a}),(a=a/\(0=0/\2=2)/\(1:Int)=(1:Int)+(2:Int)*(x.val:Int)/\(0:Int)=(0:Int)/\IntKind.i64.wrap (↑(a.getD 0 (0:UInt8)).toNat:Int)=(↑(lo0 a):Int)/\(0:Int)=(x.val:Int)/\True)/\(0=x.val/\Z8 0 (fun(k:Nat)=>List.take 2 (List.drop (k*2) [])) (X7 a 1))/\(0=0/\Z8 0 (fun(k:Nat)=>List.take 2 (List.drop (k*2) [])) (X7 a 0))/\(2=2/\i3 (A5 [some 0,some 1,some 2]) 2 (fun(k:Nat)=>List.take 1 (List.drop (k*1) [T.osl 0 0 0,T.osl 1 0 0])) fun(r:Nat)=>match r with|0=>[T.osl 0 0 x.val]|x=>[T.osl 1 0 0])/\True)/\∀(x:{i:Nat//i<=lo0 a}),(decide ((x.val:Int)<(↑(lo0 a):Int))=true->X0 (0:Int) 2/\Lt 0 2/\X0 ((1:Int)+(2:Int)*(x.val:Int)) a.length/\X8 .i64 ((1:Int)+(2:Int)*(x.val:Int)+(1:Int))/\X0 ((1:Int)+(2:Int)*(x.val:Int)+(1:Int)) a.length/\(Le 1 1/\Le x.val x.val/\V7 x.val 1 16)/\X0 (0:Int) 2/\Lt 0 2/\X8 .i64 ((1:Int)+(2:Int)*(x.val:Int)+(2:Int))/\X8 .i64 ((x.val:Int)+(1:Int))/\∃(y:{i:Nat//i<=lo0 a}),((a=a/\(0=0/\2=2)/\(1:Int)+(2:Int)*(x.val:Int)+(2:Int)=(1:Int)+(2:Int)*(y.val:Int)/\(0:Int)=(0:Int)/\(↑(lo0 a):Int)=(↑(lo0 a):Int)/\(x.val:Int)+(1:Int)=(y.val:Int)/\True)/\(x.val+1=y.val/\Z8 (x.val+1) (W6 (X7 a 1) x.val fun(k:Nat)=>List.take 2 (List.drop (k*2) [T.int .i64 (IntKind.i64.wrap (↑(a.getD ((1:Int)+(2:Int)*(x.val:Int)).toNat (0:UInt8)).toNat:Int)),T.int .i64 (IntKind.i64.wrap (↑(a.getD ((1:Int)+(2:Int)*(x.val:Int)+(1:Int)).toNat (0:UInt8)).toNat:Int))])) (X7 a 1))/\(0=0/\Z8 0 (X7 a 0) (X7 a 0))/\(2=2/\i3 (A5 [some 4,some 1,some 2]) 2 (setRow (fun(r:Nat)=>match r with|0=>[T.osl 0 0 x.val]|x=>[T.osl 1 0 0]) 0 0 [T.osl 4 0 (x.val+1)]) fun(r:Nat)=>match r with|0=>[T.osl 0 0 y.val]|x=>[T.osl 1 0 0])/\True)/\Lt (lo0 a-y.val) (lo0 a-x.val))/\(decide ((x.val:Int)<(↑(lo0 a):Int))=false->X8 .i64 (1:Int)/\(true=true->(decide ((1:Int)+(2:Int)*(x.val:Int)≥(a.length:Int))=true->X0 (0:Int) 2/\Lt 0 2/\X0 (1:Int) 2/\Lt 1 2/\(Le (0+x.val) x.val/\Le 0 0)/\(x.val=j5 a/\Z8 x.val (X7 a 1) (X7 a 1))/\(0=A1 a/\Z8 0 (X7 a 0) (X7 a (2+2*lo0 a)))/\false=zF a/\True)/\(decide ((1:Int)+(2:Int)*(x.val:Int)≥(a.length:Int))=false->X0 ((1:Int)+(2:Int)*(x.val:Int)) a.length/\X8 .i64 ((1:Int)+(2:Int)*(x.val:Int)+(1:Int))/\X8 .i64 ((2:Int)*IntKind.i64.wrap (↑(a.getD ((1:Int)+(2:Int)*(x.val:Int)).toNat (0:UInt8)).toNat:Int))/\X8 .i64 ((1:Int)+(2:Int)*(x.val:Int)+(1:Int)+(2:Int)*IntKind.i64.wrap (↑(a.getD ((1:Int)+(2:Int)*(x.val:Int)).toNat (0:UInt8)).toNat:Int))/\(decide ((1:Int)+(2:Int)*(x.val:Int)+(1:Int)+(2:Int)*IntKind.i64.wrap (↑(a.getD ((1:Int)+(2:Int)*(x.val:Int)).toNat (0:UInt8)).toNat:Int)>(a.length:Int))=true->X0 (0:Int) 2/\Lt 0 2/\X0 (1:Int) 2/\Lt 1 2/\(Le (0+x.val) x.val/\Le 0 0)/\(x.val=j5 a/\Z8 x.val (X7 a 1) (X7 a 1))/\(0=A1 a/\Z8 0 (X7 a 0) (X7 a (2+2*lo0 a)))/\false=zF a/\True)/\(decide ((1:Int)+(2:Int)*(x.val:Int)+(1:Int)+(2:Int)*IntKind.i64.wrap (↑(a.getD ((1:Int)+(2:Int)*(x.val:Int)).toNat (0:UInt8)).toNat:Int)>(a.length:Int))=false->(∃(x_1:{i:Nat//i<=A7 a}),(a=a/\(0=0/\2=2)/\(1:Int)+(2:Int)*(x.val:Int)+(1:Int)=(2:Int)+(2:Int)*(↑(lo0 a):Int)+(2:Int)*(x_1.val:Int)/\(1:Int)=(1:Int)/\IntKind.i64.wrap (↑(a.getD ((1:Int)+(2:Int)*(x.val:Int)).toNat (0:UInt8)).toNat:Int)=(↑(A7 a):Int)/\(0:Int)=(x_1.val:Int)/\True)/\(x.val=lo0 a/\Z8 x.val (X7 a 1) (X7 a 1))/\(0=x_1.val/\Z8 0 (X7 a 0) (X7 a (2+2*lo0 a)))/\(2=2/\i3 (A5 [some 0,some 1,some 2]) 2 (fun(r:Nat)=>match r with|0=>[T.osl 0 0 x.val]|x=>[T.osl 1 0 0]) fun(r:Nat)=>match r with|0=>[T.osl 0 0 (lo0 a)]|x=>[T.osl 1 0 x_1.val])/\True)/\∀(x:{i:Nat//i<=A7 a}),(decide ((x.val:Int)<(↑(A7 a):Int))=true->X0 (1:Int) 2/\Lt 1 2/\X0 ((2:Int)+(2:Int)*(↑(lo0 a):Int)+(2:Int)*(x.val:Int)) a.length/\X8 .i64 ((2:Int)+(2:Int)*(↑(lo0 a):Int)+(2:Int)*(x.val:Int)+(1:Int))/\X0 ((2:Int)+(2:Int)*(↑(lo0 a):Int)+(2:Int)*(x.val:Int)+(1:Int)) a.length/\(Le 1 1/\Le x.val x.val/\V7 x.val 1 16)/\X0 (1:Int) 2/\Lt 1 2/\X8 .i64 ((2:Int)+(2:Int)*(↑(lo0 a):Int)+(2:Int)*(x.val:Int)+(2:Int))/\X8 .i64 ((x.val:Int)+(1:Int))/\∃(y:{i:Nat//i<=A7 a}),((a=a/\(0=0/\2=2)/\(2:Int)+(2:Int)*(↑(lo0 a):Int)+(2:Int)*(x.val:Int)+(2:Int)=(2:Int)+(2:Int)*(↑(lo0 a):Int)+(2:Int)*(y.val:Int)/\(1:Int)=(1:Int)/\(↑(A7 a):Int)=(↑(A7 a):Int)/\(x.val:Int)+(1:Int)=(y.val:Int)/\True)/\(lo0 a=lo0 a/\Z8 (lo0 a) (X7 a 1) (X7 a 1))/\(x.val+1=y.val/\Z8 (x.val+1) (W6 (X7 a (2+2*lo0 a)) x.val fun(k:Nat)=>List.take 2 (List.drop (k*2) [T.int .i64 (IntKind.i64.wrap (↑(a.getD ((2:Int)+(2:Int)*(↑(lo0 a):Int)+(2:Int)*(x.val:Int)).toNat (0:UInt8)).toNat:Int)),T.int .i64 (IntKind.i64.wrap (↑(a.getD ((2:Int)+(2:Int)*(↑(lo0 a):Int)+(2:Int)*(x.val:Int)+(1:Int)).toNat (0:UInt8)).toNat:Int))])) (X7 a (2+2*lo0 a)))/\(2=2/\i3 (A5 [some 0,some 4,some 2]) 2 (setRow (fun(r:Nat)=>match r with|0=>[T.osl 0 0 (lo0 a)]|x_1=>[T.osl 1 0 x.val]) 1 0 [T.osl 4 0 (x.val+1)]) fun(r:Nat)=>match r with|0=>[T.osl 0 0 (lo0 a)]|x=>[T.osl 1 0 y.val])/\True)/\Lt (A7 a-y.val) (A7 a-x.val))/\(decide ((x.val:Int)<(↑(A7 a):Int))=false->X8 .i64 (2:Int)/\(false=true->(decide ((2:Int)+(2:Int)*(↑(lo0 a):Int)+(2:Int)*(x.val:Int)≥(a.length:Int))=true->X0 (0:Int) 2/\Lt 0 2/\X0 (1:Int) 2/\Lt 1 2/\(Le (0+lo0 a) (lo0 a)/\Le (0+x.val) x.val)/\(lo0 a=j5 a/\Z8 (lo0 a) (X7 a 1) (X7 a 1))/\(x.val=A1 a/\Z8 x.val (X7 a (2+2*lo0 a)) (X7 a (2+2*lo0 a)))/\false=zF a/\True)/\(decide ((2:Int)+(2:Int)*(↑(lo0 a):Int)+(2:Int)*(x.val:Int)≥(a.length:Int))=false->X0 ((2:Int)+(2:Int)*(↑(lo0 a):Int)+(2:Int)*(x.val:Int)) a.length/\X8 .i64 ((2:Int)+(2:Int)*(↑(lo0 a):Int)+(2:Int)*(x.val:Int)+(1:Int))/\X8 .i64 ((2:Int)*IntKind.i64.wrap (↑(a.getD ((2:Int)+(2:Int)*(↑(lo0 a):Int)+(2:Int)*(x.val:Int)).toNat (0:UInt8)).toNat:Int))/\X8 .i64 ((2:Int)+(2:Int)*(↑(lo0 a):Int)+(2:Int)*(x.val:Int)+(1:Int)+(2:Int)*IntKind.i64.wrap (↑(a.getD ((2:Int)+(2:Int)*(↑(lo0 a):Int)+(2:Int)*(x.val:Int)).toNat (0:UInt8)).toNat:Int))/\(decide ((2:Int)+(2:Int)*(↑(lo0 a):Int)+(2:Int)*(x.val:Int)+(1:Int)+(2:Int)*IntKind.i64.wrap (↑(a.getD ((2:Int)+(2:Int)*(↑(lo0 a):Int)+(2:Int)*(x.val:Int)).toNat (0:UInt8)).toNat:Int)>(a.length:Int))=true->X0 (0:Int) 2/\Lt 0 2/\X0 (1:Int) 2/\Lt 1 2/\(Le (0+lo0 a) (lo0 a)/\Le (0+x.val) x.val)/\(lo0 a=j5 a/\Z8 (lo0 a) (X7 a 1) (X7 a 1))/\(x.val=A1 a/\Z8 x.val (X7 a (2+2*lo0 a)) (X7 a (2+2*lo0 a)))/\false=zF a/\True)/\(decide ((2:Int)+(2:Int)*(↑(lo0 a):Int)+(2:Int)*(x.val:Int)+(1:Int)+(2:Int)*IntKind.i64.wrap (↑(a.getD ((2:Int)+(2:Int)*(↑(lo0 a):Int)+(2:Int)*(x.val:Int)).toNat (0:UInt8)).toNat:Int)>(a.length:Int))=false->(∃(x_1:{i:Nat//i<=A7 a}),(a=a/\(0=0/\2=2)/\(2:Int)+(2:Int)*(↑(lo0 a):Int)+(2:Int)*(x.val:Int)+(1:Int)=(2:Int)+(2:Int)*(↑(lo0 a):Int)+(2:Int)*(x_1.val:Int)/\(2:Int)=(1:Int)/\IntKind.i64.wrap (↑(a.getD ((2:Int)+(2:Int)*(↑(lo0 a):Int)+(2:Int)*(x.val:Int)).toNat (0:UInt8)).toNat:Int)=(↑(A7 a):Int)/\(0:Int)=(x_1.val:Int)/\True)/\(lo0 a=lo0 a/\Z8 (lo0 a) (X7 a 1) (X7 a 1))/\(x.val=x_1.val/\Z8 x.val (X7 a (2+2*lo0 a)) (X7 a (2+2*lo0 a)))/\(2=2/\i3 (A5 [some 0,some 1,some 2]) 2 (fun(r:Nat)=>match r with|0=>[T.osl 0 0 (lo0 a)]|x_2=>[T.osl 1 0 x.val]) fun(r:Nat)=>match r with|0=>[T.osl 0 0 (lo0 a)]|x=>[T.osl 1 0 x_1.val])/\True)/\∀(x:{i:Nat//i<=A7 a}),(decide ((x.val:Int)<(↑(A7 a):Int))=true->X0 (1:Int) 2/\Lt 1 2/\X0 ((2:Int)+(2:Int)*(↑(lo0 a):Int)+(2:Int)*(x.val:Int)) a.length/\X8 .i64 ((2:Int)+(2:Int)*(↑(lo0 a):Int)+(2:Int)*(x.val:Int)+(1:Int))/\X0 ((2:Int)+(2:Int)*(↑(lo0 a):Int)+(2:Int)*(x.val:Int)+(1:Int)) a.length/\(Le 1 1/\Le x.val x.val/\V7 x.val 1 16)/\X0 (1:Int) 2/\Lt 1 2/\X8 .i64 ((2:Int)+(2:Int)*(↑(lo0 a):Int)+(2:Int)*(x.val:Int)+(2:Int))/\X8 .i64 ((x.val:Int)+(1:Int))/\∃(y:{i:Nat//i<=A7 a}),((a=a/\(0=0/\2=2)/\(2:Int)+(2:Int)*(↑(lo0 a):Int)+(2:Int)*(x.val:Int)+(2:Int)=(2:Int)+(2:Int)*(↑(lo0 a):Int)+(2:Int)*(y.val:Int)/\(1:Int)=(1:Int)/\(↑(A7 a):Int)=(↑(A7 a):Int)/\(x.val:Int)+(1:Int)=(y.val:Int)/\True)/\(lo0 a=lo0 a/\Z8 (lo0 a) (X7 a 1) (X7 a 1))/\(x.val+1=y.val/\Z8 (x.val+1) (W6 (X7 a (2+2*lo0 a)) x.val fun(k:Nat)=>List.take 2 (List.drop (k*2) [T.int .i64 (IntKind.i64.wrap (↑(a.getD ((2:Int)+(2:Int)*(↑(lo0 a):Int)+(2:Int)*(x.val:Int)).toNat (0:UInt8)).toNat:Int)),T.int .i64 (IntKind.i64.wrap (↑(a.getD ((2:Int)+(2:Int)*(↑(lo0 a):Int)+(2:Int)*(x.val:Int)+(1:Int)).toNat (0:UInt8)).toNat:Int))])) (X7 a (2+2*lo0 a)))/\(2=2/\i3 (A5 [some 0,some 4,some 2]) 2 (setRow (fun(r:Nat)=>match r with|0=>[T.osl 0 0 (lo0 a)]|x_1=>[T.osl 1 0 x.val]) 1 0 [T.osl 4 0 (x.val+1)]) fun(r:Nat)=>match r with|0=>[T.osl 0 0 (lo0 a)]|x=>[T.osl 1 0 y.val])/\True)/\Lt (A7 a-y.val) (A7 a-x.val))/\(decide ((x.val:Int)<(↑(A7 a):Int))=false->X8 .i64 (2:Int)/\False))))/\(false=false->X0 (0:Int) 2/\Lt 0 2/\X0 (1:Int) 2/\Lt 1 2/\(Le (0+lo0 a) (lo0 a)/\Le (0+x.val) x.val)/\(lo0 a=j5 a/\Z8 (lo0 a) (X7 a 1) (X7 a 1))/\(x.val=A1 a/\Z8 x.val (X7 a (2+2*lo0 a)) (X7 a (2+2*lo0 a)))/\((2:Int)+(2:Int)*(↑(lo0 a):Int)+(2:Int)*(x.val:Int)==(a.length:Int))=zF a/\True)))))/\(true=false->X0 (0:Int) 2/\Lt 0 2/\X0 (1:Int) 2/\Lt 1 2/\(Le (0+x.val) x.val/\Le 0 0)/\(x.val=j5 a/\Z8 x.val (X7 a 1) (X7 a 1))/\(0=A1 a/\Z8 0 (X7 a 0) (X7 a (2+2*lo0 a)))/\((1:Int)+(2:Int)*(x.val:Int)==(a.length:Int))=zF a/\True)))))/\(true=false->X0 (0:Int) 2/\Lt 0 2/\X0 (1:Int) 2/\Lt 1 2/\(Le 0 0/\Le 0 0)/\(0=j5 a/\Z8 0 (fun(k:Nat)=>List.take 2 (List.drop (k*2) [])) (X7 a 1))/\(0=A1 a/\Z8 0 (fun(k:Nat)=>List.take 2 (List.drop (k*2) [])) (X7 a (2+2*lo0 a)))/\((0:Int)==(a.length:Int))=zF a/\True)):
  Z2 Tryz.prog 249 [.str a] (c4Y a):=
 T4 (code:=a0H) gN Tryz.func249 (by kernel_rfl) (by kernel_rfl) (a2o a) h (by kernel_rfl)
def qF:List T->Option (T×Option Prop)
 | [.str a]=>some (c4Y a,some (K6 a.length))
 |_=>none
def a3S:Con:=.pure qF
theorem E6{row row':Nat->List T}{n i:Nat}(h:i<n):W6 row n row' i=row i:=by
 unfold W6;rw[show Nat.blt i n=true from by simp[Nat.blt];omega]
theorem F0{row row':Nat->List T}{n i:Nat}(h:n<=i):W6 row n row' i=row' (i-n):=by
 unfold W6;rw[show Nat.blt i n=false from Bool.eq_false_iff.2 fun hb=>by have:=vS hb;omega]
theorem a0e:Z1 Tryz.prog 249 a3S:=by
 intro args res p h hp;unfold qF at h;split at h
 case h_2=>cases h
 rename_i a;simp only[X6,V1] at h;obtain⟨rfl,rfl⟩:=h;have hp:a.length<1000000000000:=hp;have h0:((a.getD 0 0).toNat:Int)=(lo0 a:Int):=by simp[lo0,E3]
 have h1:((a.getD (1+2*lo0 a) 0).toNat:Int)=(A7 a:Int):=by simp[A7,E3]
 have b0:lo0 a<=255:=by have:=(a.getD 0 0).toNat_lt;omega
 have b1:A7 a<=255:=by have:=(a.getD (1+2*lo0 a) 0).toNat_lt;omega
 have t0:(1+2*(lo0 a:Int)).toNat=1+2*lo0 a:=by omega
 have none0:∀row row':Nat->List T,Z8 0 row row':=fun row row' i hi=>absurd hi (J2 i)
 have refl0:∀(n:Nat) (row:Nat->List T),Z8 n row row:=fun n row i hi=>rfl
 have c2q:∀(at0 i:Nat),Z8 (i+1) (W6 (X7 a at0) i fun k=>List.take 2 (List.drop (k*2) [T.int .i64 ((a.getD (at0+2*i) 0).toNat:Int),T.int .i64 ((a.getD (at0+2*i+1) 0).toNat:Int)])) (X7 a at0):=by
  intro at0 i j hj;by_cases hlt:j<i
  ·rw[E6 hlt]
  ·obtain rfl:j=i:=by omega
   rw[F0 (V5 _),j_k];rfl
 have two:∀{ρ:Nat->Option Nat} {row row':Nat->List T},Q9 (U5 ρ 6) (row' 0)=some (row 0)->Q9 (U5 ρ 6) (row' 1)=some (row 1)->i3 ρ 2 row row':=by
  intro ρ row row' e0 e1 i hi;rcases Nat.lt_or_ge i 1 with h|h
  ·obtain rfl:i=0:=by omega
   exact e0
  ·obtain rfl:i=1:=by omega
   exact e1
 refine a28 a ?_
 simp only[B3,X0,Lt,Le,V7,qR];simp only[h0];refine⟨fun _=>⟨fun hz=> ?_,fun hz=> ?_⟩,fun h=>by cases h⟩
 ·have hz':¬0<a.length:=by simp at hz;simp[hz]
  refine⟨by omega,by omega,by omega,by omega,by omega,⟨by simp[j5,hz'],none0 _ _⟩,⟨by simp[A1,hz'],none0 _ _⟩,by simp[zF,hz'],trivial⟩
 have hz':0<a.length:=by simp at hz;exact List.length_pos_iff.2 hz
 refine⟨⟨by omega,by omega⟩,by omega,by omega,by omega,fun hgt=> ?_,fun hle=> ?_⟩
 ·have hgt':¬1+2*lo0 a<=a.length:=by simp at hgt;omega
  have hgt'':¬1+2*lo0 a<a.length:=by omega
  refine⟨by omega,by omega,by omega,by omega,by omega,⟨by simp[j5,hgt'],none0 _ _⟩,⟨by simp[A1,hgt''],none0 _ _⟩,by simp[zF,hgt''],trivial⟩
 have hle':1+2*lo0 a<=a.length:=by simp at hle;omega
 have e0:j5 a=lo0 a:=by simp[j5,hz',hle']
 refine⟨⟨⟨0,T0 _⟩,⟨trivial,⟨trivial,trivial⟩,rfl,trivial,trivial,rfl,trivial⟩,⟨rfl,none0 _ _⟩,⟨trivial,none0 _ _⟩,⟨trivial,two rfl rfl⟩,trivial⟩,fun x=>⟨fun hx=> ?_,fun hx=> ?_⟩⟩
 ·have hx':x.val<lo0 a:=by simpa using hx
  rw[show(1+2*(x.val:Int)).toNat=1+2*x.val by omega,show(1+2*(x.val:Int)+1).toNat=1+2*x.val+1 by omega]
  refine⟨by omega,by omega,by omega,by omega,by omega,by omega,by omega,by omega,by omega,by omega,⟨x.val+1,hx'⟩,⟨⟨trivial,⟨trivial,trivial⟩,by simp only;omega,trivial,trivial,by simp only;omega,trivial⟩,⟨rfl,c2q 1 _⟩,⟨trivial,none0 _ _⟩,⟨trivial,two rfl rfl⟩,trivial⟩,by simp only;omega⟩
 have hx':x.val=lo0 a:=by have:=x.2;simp at hx;omega
 rw[hx',t0,h1];refine⟨by omega,fun _=>⟨fun hz1=> ?_,fun hz1=>⟨?_,by omega,by omega,by omega,fun hg1=> ?_,fun hl1=> ?_⟩⟩,fun h=>by cases h⟩
 ·have hz1':¬1+2*lo0 a<a.length:=by simp at hz1;omega
  refine⟨by omega,by omega,by omega,by omega,by omega,⟨e0.symm,refl0 _ _⟩,⟨by simp[A1,hz1'],none0 _ _⟩,by simp[zF,hz1'],trivial⟩
 ·simp at hz1;omega
 ·have hz1':1+2*lo0 a<a.length:=by simp at hz1;omega
  have hg1':¬2+2*lo0 a+2*A7 a<=a.length:=by simp at hg1;omega
  have hg1'':¬2+2*lo0 a+2*A7 a=a.length:=by omega
  refine⟨by omega,by omega,by omega,by omega,by omega,⟨e0.symm,refl0 _ _⟩,⟨by simp[A1,hg1'],none0 _ _⟩,by simp[zF,hg1''],trivial⟩
 have hz1':1+2*lo0 a<a.length:=by simp at hz1;omega
 have hl1':2+2*lo0 a+2*A7 a<=a.length:=by simp at hl1;omega
 have e1:A1 a=A7 a:=by simp[A1,hz',hz1',hl1']
 refine⟨⟨⟨0,T0 _⟩,⟨trivial,⟨trivial,trivial⟩,by simp only;omega,trivial,rfl,rfl,trivial⟩,⟨rfl,refl0 _ _⟩,⟨rfl,none0 _ _⟩,⟨trivial,two rfl rfl⟩,trivial⟩,fun y=>⟨fun hy=> ?_,fun hy=> ?_⟩⟩
 ·have hy':y.val<A7 a:=by simpa using hy
  rw[show(2+2*(lo0 a:Int)+2*(y.val:Int)).toNat=2+2*lo0 a+2*y.val by omega,show(2+2*(lo0 a:Int)+2*(y.val:Int)+1).toNat=2+2*lo0 a+2*y.val+1 by omega]
  refine⟨by omega,by omega,by omega,by omega,by omega,by omega,by omega,by omega,by omega,by omega,⟨y.val+1,hy'⟩,⟨⟨trivial,⟨trivial,trivial⟩,by simp only;omega,trivial,trivial,by simp only;omega,trivial⟩,⟨trivial,refl0 _ _⟩,⟨rfl,c2q _ _⟩,⟨trivial,two rfl rfl⟩,trivial⟩,by simp only;omega⟩
 have hy':y.val=A7 a:=by have:=y.2;simp at hy;omega
 rw[hy'];refine⟨by omega,(fun h=>by cases h),fun _=>⟨by omega,by omega,by omega,by omega,by omega,⟨e0.symm,refl0 _ _⟩,⟨e1.symm,refl0 _ _⟩,?_,trivial⟩⟩
 unfold zF;rw[Bool.eq_iff_iff,beq_iff_eq,t9];omega
end Go.Proofs.YtokaojbaacnngaaGreat

