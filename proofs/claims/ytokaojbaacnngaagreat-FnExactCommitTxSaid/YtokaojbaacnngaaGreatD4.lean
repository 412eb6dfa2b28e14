/- A part of the proof. -/
import Derived.Test.YtokaojbaacnngaaGreatD2D3
namespace Go.Proofs.YtokaojbaacnngaaGreat
set_option maxRecDepth 100000
open Go.SS

def F9(a:List UInt8)(i:Nat):Int:=((a.getD i 0).toNat:Int)
def X8(a:List UInt8)(at0:Nat)(r:Nat):List T:=[.int .i64 (F9 a (at0+2*r)),.int .i64 (F9 a (at0+2*r+1))]
def V2(a:List UInt8):Nat:=(F9 a 0).toNat
def C6(a:List UInt8):Nat:=(F9 a (1+2*V2 a)).toNat
noncomputable def b2e:Code:=Tryz.f249.body.getD .skip
theorem a5p:Z8 Tryz.prog 249:=⟨_,Tryz.func249,by kernel_rfl,by kernel_rfl⟩
def m9(a:List UInt8):Nat:=if 0<a.length/\1+2*V2 a<=a.length then V2 a else 0
def C1(a:List UInt8):Nat:=if 0<a.length/\1+2*V2 a<a.length/\2+2*V2 a+2*C6 a<=a.length then C6 a else 0
def c9(a:List UInt8):Bool:=decide (0<a.length/\1+2*V2 a<a.length/\2+2*V2 a+2*C6 a=a.length)
def d3u(a:List UInt8):T:=.tup [.sl 2 (m9 a) (X8 a 1),.sl 2 (C1 a) (X8 a (2+2*V2 a)),.bool (c9 a)]
def d2L(n:Nat)(row:Nat->List T):Option Ob:=some (.arr true 0 2 n row)
def d3n(k0 k1 n0 n1:Nat):Option Ob:=some (.arr false 0 1 2 fun r=>match r with|0=>[.osl k0 0 n0]|_=>[.osl k1 0 n1])
def a9W(a:List UInt8):Nat->Ann
 |0=>.unr 3 (fun m=>fun
  |1=>match m with
   |2=>.one {i:Nat//i<=V2 a} (fun x=>⟨[(0,.str a),(5,.osl 2 0 2),(6,.int .i64 (1+2*x.1)),(7,.int .i64 0),(8,.int .i64 (V2 a)),(9,.int .i64 x.1)],[d2L x.1 (X8 a 1),d2L 0 (X8 a 0),d3n 0 1 x.1 0]⟩) (fun x=>V2 a-x.1) [.arr 0,.arr 1,.ren 2] [.arr 4,.arr 1,.ren 2] (fun _=>Z0)
   |_=>.one {i:Nat//i<=C6 a} (fun x=>⟨[(0,.str a),(5,.osl 2 0 2),(6,.int .i64 (2+2*V2 a+2*x.1)),(7,.int .i64 1),(8,.int .i64 (C6 a)),(9,.int .i64 x.1)],[d2L (V2 a) (X8 a 1),d2L x.1 (X8 a (2+2*V2 a)),d3n 0 1 (V2 a) x.1]⟩) (fun x=>C6 a-x.1) [.arr 0,.arr 1,.ren 2] [.arr 0,.arr 4,.ren 2] (fun _=>Z0)
  |_=>.none)
 |_=>.none
theorem b2F(a:List UInt8)(h:
  (true=true->(decide ((0:Int)≥(a.length:Int))=true->W7 (0:Int) 2/\Lt 0 2/\W7 (1:Int) 2/\Lt 1 2/\(Le 0 0/\Le 0 0)/\(0=m9 a/\Z7 0 (fun(k:Nat)=>List.take 2 (List.drop (k*2) [])) (X8 a 1))/\(0=C1 a/\Z7 0 (fun(k:Nat)=>List.take 2 (List.drop (k*2) [])) (X8 a (2+2*V2 a)))/\false=c9 a/\True)/\(decide ((0:Int)≥(a.length:Int))=false->W7 (0:Int) a.length/\X6 .i64 (1:Int)/\X6 .i64 ((2:Int)*IntKind.i64.wrap (↑(a.getD 0 (0:UInt8)).toNat:Int))/\X6 .i64 ((1:Int)+(2:Int)*IntKind.i64.wrap (↑(a.getD 0 (0:UInt8)).toNat:Int))/\(decide ((1:Int)+(2:Int)*IntKind.i64.wrap (↑(a.getD 0 (0:UInt8)).toNat:Int)>(a.length:Int))=true->W7 (0:Int) 2/\Lt 0 2/\W7 (1:Int) 2/\Lt 1 2/\(Le 0 0/\Le 0 0)/\(0=m9 a/\Z7 0 (fun(k:Nat)=>List.take 2 (List.drop (k*2) [])) (X8 a 1))/\(0=C1 a/\Z7 0 (fun(k:Nat)=>List.take 2 (List.drop (k*2) [])) (X8 a (2+2*V2 a)))/\false=c9 a/\True)/\(decide ((1:Int)+(2:Int)*IntKind.i64.wrap (↑(a.getD 0 (0:UInt8)).toNat:Int)>(a.length:Int))=false->(∃(x:{i:Nat//i<=V2 a}),(a=a/\(0=0/\2=2)/\(1:Int)=(1:Int)+(2:Int)*(x.val:Int)/\(0:Int)=(0:Int)/\IntKind.i64.wrap (↑(a.getD 0 (0:UInt8)).toNat:Int)=(↑(V2 a):Int)/\(0:Int)=(x.val:Int)/\True)/\(0=x.val/\Z7 0 (fun(k:Nat)=>List.take 2 (List.drop (k*2) [])) (X8 a 1))/\(0=0/\Z7 0 (fun(k:Nat)=>List.take 2 (List.drop (k*2) [])) (X8 a 0))/\(2=2/\k8 (y4 [some 0,some 1,some 2]) 2 (fun(k:Nat)=>List.take 1 (List.drop (k*1) [T.osl 0 0 0,T.osl 1 0 0])) fun(r:Nat)=>match r with|0=>[T.osl 0 0 x.val]|x=>[T.osl 1 0 0])/\True)/\∀(x:{i:Nat//i<=V2 a}),(decide ((x.val:Int)<(↑(V2 a):Int))=true->W7 (0:Int) 2/\Lt 0 2/\W7 ((1:Int)+(2:Int)*(x.val:Int)) a.length/\X6 .i64 ((1:Int)+(2:Int)*(x.val:Int)+(1:Int))/\W7 ((1:Int)+(2:Int)*(x.val:Int)+(1:Int)) a.length/\(Le 1 1/\Le x.val x.val/\V6 x.val 1 16)/\W7 (0:Int) 2/\Lt 0 2/\X6 .i64 ((1:Int)+(2:Int)*(x.val:Int)+(2:Int))/\X6 .i64 ((x.val:Int)+(1:Int))/\∃(y:{i:Nat//i<=V2 a}),((a=a/\(0=0/\2=2)/\(1:Int)+(2:Int)*(x.val:Int)+(2:Int)=(1:Int)+(2:Int)*(y.val:Int)/\(0:Int)=(0:Int)/\(↑(V2 a):Int)=(↑(V2 a):Int)/\(x.val:Int)+(1:Int)=(y.val:Int)/\True)/\(x.val+1=y.val/\Z7 (x.val+1) (W4 (X8 a 1) x.val fun(k:Nat)=>List.take 2 (List.drop (k*2) [T.int .i64 (IntKind.i64.wrap (↑(a.getD ((1:Int)+(2:Int)*(x.val:Int)).toNat (0:UInt8)).toNat:Int)),T.int .i64 (IntKind.i64.wrap (↑(a.getD ((1:Int)+(2:Int)*(x.val:Int)+(1:Int)).toNat (0:UInt8)).toNat:Int))])) (X8 a 1))/\(0=0/\Z7 0 (X8 a 0) (X8 a 0))/\(2=2/\k8 (y4 [some 4,some 1,some 2]) 2 (setRow (fun(r:Nat)=>match r with|0=>[T.osl 0 0 x.val]|x=>[T.osl 1 0 0]) 0 0 [T.osl 4 0 (x.val+1)]) fun(r:Nat)=>match r with|0=>[T.osl 0 0 y.val]|x=>[T.osl 1 0 0])/\True)/\Lt (V2 a-y.val) (V2 a-x.val))/\(decide ((x.val:Int)<(↑(V2 a):Int))=false->X6 .i64 (1:Int)/\(true=true->(decide ((1:Int)+(2:Int)*(x.val:Int)≥(a.length:Int))=true->W7 (0:Int) 2/\Lt 0 2/\W7 (1:Int) 2/\Lt 1 2/\(Le (0+x.val) x.val/\Le 0 0)/\(x.val=m9 a/\Z7 x.val (X8 a 1) (X8 a 1))/\(0=C1 a/\Z7 0 (X8 a 0) (X8 a (2+2*V2 a)))/\false=c9 a/\True)/\(decide ((1:Int)+(2:Int)*(x.val:Int)≥(a.length:Int))=false->W7 ((1:Int)+(2:Int)*(x.val:Int)) a.length/\X6 .i64 ((1:Int)+(2:Int)*(x.val:Int)+(1:Int))/\X6 .i64 ((2:Int)*IntKind.i64.wrap (↑(a.getD ((1:Int)+(2:Int)*(x.val:Int)).toNat (0:UInt8)).toNat:Int))/\X6 .i64 ((1:Int)+(2:Int)*(x.val:Int)+(1:Int)+(2:Int)*IntKind.i64.wrap (↑(a.getD ((1:Int)+(2:Int)*(x.val:Int)).toNat (0:UInt8)).toNat:Int))/\(decide ((1:Int)+(2:Int)*(x.val:Int)+(1:Int)+(2:Int)*IntKind.i64.wrap (↑(a.getD ((1:Int)+(2:Int)*(x.val:Int)).toNat (0:UInt8)).toNat:Int)>(a.length:Int))=true->W7 (0:Int) 2/\Lt 0 2/\W7 (1:Int) 2/\Lt 1 2/\(Le (0+x.val) x.val/\Le 0 0)/\(x.val=m9 a/\Z7 x.val (X8 a 1) (X8 a 1))/\(0=C1 a/\Z7 0 (X8 a 0) (X8 a (2+2*V2 a)))/\false=c9 a/\True)/\(decide ((1:Int)+(2:Int)*(x.val:Int)+(1:Int)+(2:Int)*IntKind.i64.wrap (↑(a.getD ((1:Int)+(2:Int)*(x.val:Int)).toNat (0:UInt8)).toNat:Int)>(a.length:Int))=false->(∃(x_1:{i:Nat//i<=C6 a}),(a=a/\(0=0/\2=2)/\(1:Int)+(2:Int)*(x.val:Int)+(1:Int)=(2:Int)+(2:Int)*(↑(V2 a):Int)+(2:Int)*(x_1.val:Int)/\(1:Int)=(1:Int)/\IntKind.i64.wrap (↑(a.getD ((1:Int)+(2:Int)*(x.val:Int)).toNat (0:UInt8)).toNat:Int)=(↑(C6 a):Int)/\(0:Int)=(x_1.val:Int)/\True)/\(x.val=V2 a/\Z7 x.val (X8 a 1) (X8 a 1))/\(0=x_1.val/\Z7 0 (X8 a 0) (X8 a (2+2*V2 a)))/\(2=2/\k8 (y4 [some 0,some 1,some 2]) 2 (fun(r:Nat)=>match r with|0=>[T.osl 0 0 x.val]|x=>[T.osl 1 0 0]) fun(r:Nat)=>match r with|0=>[T.osl 0 0 (V2 a)]|x=>[T.osl 1 0 x_1.val])/\True)/\∀(x:{i:Nat//i<=C6 a}),(decide ((x.val:Int)<(↑(C6 a):Int))=true->W7 (1:Int) 2/\Lt 1 2/\W7 ((2:Int)+(2:Int)*(↑(V2 a):Int)+(2:Int)*(x.val:Int)) a.length/\X6 .i64 ((2:Int)+(2:Int)*(↑(V2 a):Int)+(2:Int)*(x.val:Int)+(1:Int))/\W7 ((2:Int)+(2:Int)*(↑(V2 a):Int)+(2:Int)*(x.val:Int)+(1:Int)) a.length/\(Le 1 1/\Le x.val x.val/\V6 x.val 1 16)/\W7 (1:Int) 2/\Lt 1 2/\X6 .i64 ((2:Int)+(2:Int)*(↑(V2 a):Int)+(2:Int)*(x.val:Int)+(2:Int))/\X6 .i64 ((x.val:Int)+(1:Int))/\∃(y:{i:Nat//i<=C6 a}),((a=a/\(0=0/\2=2)/\(2:Int)+(2:Int)*(↑(V2 a):Int)+(2:Int)*(x.val:Int)+(2:Int)=(2:Int)+(2:Int)*(↑(V2 a):Int)+(2:Int)*(y.val:Int)/\(1:Int)=(1:Int)/\(↑(C6 a):Int)=(↑(C6 a):Int)/\(x.val:Int)+(1:Int)=(y.val:Int)/\True)/\(V2 a=V2 a/\Z7 (V2 a) (X8 a 1) (X8 a 1))/\(x.val+1=y.val/\Z7 (x.val+1) (W4 (X8 a (2+2*V2 a)) x.val fun(k:Nat)=>List.take 2 (List.drop (k*2) [T.int .i64 (IntKind.i64.wrap (↑(a.getD ((2:Int)+(2:Int)*(↑(V2 a):Int)+(2:Int)*(x.val:Int)).toNat (0:UInt8)).toNat:Int)),T.int .i64 (IntKind.i64.wrap (↑(a.getD ((2:Int)+(2:Int)*(↑(V2 a):Int)+(2:Int)*(x.val:Int)+(1:Int)).toNat (0:UInt8)).toNat:Int))])) (X8 a (2+2*V2 a)))/\(2=2/\k8 (y4 [some 0,some 4,some 2]) 2 (setRow (fun(r:Nat)=>match r with|0=>[T.osl 0 0 (V2 a)]|x_1=>[T.osl 1 0 x.val]) 1 0 [T.osl 4 0 (x.val+1)]) fun(r:Nat)=>match r with|0=>[T.osl 0 0 (V2 a)]|x=>[T.osl 1 0 y.val])/\True)/\Lt (C6 a-y.val) (C6 a-x.val))/\(decide ((x.val:Int)<(↑(C6 a):Int))=false->X6 .i64 (2:Int)/\(false=true->(decide ((2:Int)+(2:Int)*(↑(V2 a):Int)+(2:Int)*(x.val:Int)≥(a.length:Int))=true->W7 (0:Int) 2/\Lt 0 2/\W7 (1:Int) 2/\Lt 1 2/\(Le (0+V2 a) (V2 a)/\Le (0+x.val) x.val)/\(V2 a=m9 a/\Z7 (V2 a) (X8 a 1) (X8 a 1))/\(x.val=C1 a/\Z7 x.val (X8 a (2+2*V2 a)) (X8 a (2+2*V2 a)))/\false=c9 a/\True)/\(decide ((2:Int)+(2:Int)*(↑(V2 a):Int)+(2:Int)*(x.val:Int)≥(a.length:Int))=false->W7 ((2:Int)+(2:Int)*(↑(V2 a):Int)+(2:Int)*(x.val:Int)) a.length/\X6 .i64 ((2:Int)+(2:Int)*(↑(V2 a):Int)+(2:Int)*(x.val:Int)+(1:Int))/\X6 .i64 ((2:Int)*IntKind.i64.wrap (↑(a.getD ((2:Int)+(2:Int)*(↑(V2 a):Int)+(2:Int)*(x.val:Int)).toNat (0:UInt8)).toNat:Int))/\X6 .i64 ((2:Int)+(2:Int)*(↑(V2 a):Int)+(2:Int)*(x.val:Int)+(1:Int)+(2:Int)*IntKind.i64.wrap (↑(a.getD ((2:Int)+(2:Int)*(↑(V2 a):Int)+(2:Int)*(x.val:Int)).toNat (0:UInt8)).toNat:Int))/\(decide ((2:Int)+(2:Int)*(↑(V2 a):Int)+(2:Int)*(x.val:Int)+(1:Int)+(2:Int)*IntKind.i64.wrap (↑(a.getD ((2:Int)+(2:Int)*(↑(V2 a):Int)+(2:Int)*(x.val:Int)).toNat (0:UInt8)).toNat:Int)>(a.length:Int))=true->W7 (0:Int) 2/\Lt 0 2/\W7 (1:Int) 2/\Lt 1 2/\(Le (0+V2 a) (V2 a)/\Le (0+x.val) x.val)/\(V2 a=m9 a/\Z7 (V2 a) (X8 a 1) (X8 a 1))/\(x.val=C1 a/\Z7 x.val (X8 a (2+2*V2 a)) (X8 a (2+2*V2 a)))/\false=c9 a/\True)/\(decide ((2:Int)+(2:Int)*(↑(V2 a):Int)+(2:Int)*(x.val:Int)+(1:Int)+(2:Int)*IntKind.i64.wrap (↑(a.getD ((2:Int)+(2:Int)*(↑(V2 a):Int)+(2:Int)*(x.val:Int)).toNat (0:UInt8)).toNat:Int)>(a.length:Int))=false->(∃(x_1:{i:Nat//i<=C6 a}),(a=a/\(0=0/\2=2)/\(2:Int)+(2:Int)*(↑(V2 a):Int)+(2:Int)*(x.val:Int)+(1:Int)=(2:Int)+(2:Int)*(↑(V2 a):Int)+(2:Int)*(x_1.val:Int)/\(2:Int)=(1:Int)/\IntKind.i64.wrap (↑(a.getD ((2:Int)+(2:Int)*(↑(V2 a):Int)+(2:Int)*(x.val:Int)).toNat (0:UInt8)).toNat:Int)=(↑(C6 a):Int)/\(0:Int)=(x_1.val:Int)/\True)/\(V2 a=V2 a/\Z7 (V2 a) (X8 a 1) (X8 a 1))/\(x.val=x_1.val/\Z7 x.val (X8 a (2+2*V2 a)) (X8 a (2+2*V2 a)))/\(2=2/\k8 (y4 [some 0,some 1,some 2]) 2 (fun(r:Nat)=>match r with|0=>[T.osl 0 0 (V2 a)]|x_2=>[T.osl 1 0 x.val]) fun(r:Nat)=>match r with|0=>[T.osl 0 0 (V2 a)]|x=>[T.osl 1 0 x_1.val])/\True)/\∀(x:{i:Nat//i<=C6 a}),(decide ((x.val:Int)<(↑(C6 a):Int))=true->W7 (1:Int) 2/\Lt 1 2/\W7 ((2:Int)+(2:Int)*(↑(V2 a):Int)+(2:Int)*(x.val:Int)) a.length/\X6 .i64 ((2:Int)+(2:Int)*(↑(V2 a):Int)+(2:Int)*(x.val:Int)+(1:Int))/\W7 ((2:Int)+(2:Int)*(↑(V2 a):Int)+(2:Int)*(x.val:Int)+(1:Int)) a.length/\(Le 1 1/\Le x.val x.val/\V6 x.val 1 16)/\W7 (1:Int) 2/\Lt 1 2/\X6 .i64 ((2:Int)+(2:Int)*(↑(V2 a):Int)+(2:Int)*(x.val:Int)+(2:Int))/\X6 .i64 ((x.val:Int)+(1:Int))/\∃(y:{i:Nat//i<=C6 a}),((a=a/\(0=0/\2=2)/\(2:Int)+(2:Int)*(↑(V2 a):Int)+(2:Int)*(x.val:Int)+(2:Int)=(2:Int)+(2:Int)*(↑(V2 a):Int)+(2:Int)*(y.val:Int)/\(1:Int)=(1:Int)/\(↑(C6 a):Int)=(↑(C6 a):Int)/\(x.val:Int)+(1:Int)=(y.val:Int)/\True)/\(V2 a=V2 a/\Z7 (V2 a) (X8 a 1) (X8 a 1))/\(x.val+1=y.val/\Z7 (x.val+1) (W4 (X8 a (2+2*V2 a)) x.val fun(k:Nat)=>List.take 2 (List.drop (k*2) [T.int .i64 (IntKind.i64.wrap (↑(a.getD ((2:Int)+(2:Int)*(↑(V2 a):Int)+(2:Int)*(x.val:Int)).toNat (0:UInt8)).toNat:Int)),T.int .i64 (IntKind.i64.wrap (↑(a.getD ((2:Int)+(2:Int)*(↑(V2 a):Int)+(2:Int)*(x.val:Int)+(1:Int)).toNat (0:UInt8)).toNat:Int))])) (X8 a (2+2*V2 a)))/\(2=2/\k8 (y4 [some 0,some 4,some 2]) 2 (setRow (fun(r:Nat)=>match r with|0=>[T.osl 0 0 (V2 a)]|x_1=>[T.osl 1 0 x.val]) 1 0 [T.osl 4 0 (x.val+1)]) fun(r:Nat)=>match r with|0=>[T.osl 0 0 (V2 a)]|x=>[T.osl 1 0 y.val])/\True)/\Lt (C6 a-y.val) (C6 a-x.val))/\(decide ((x.val:Int)<(↑(C6 a):Int))=false->X6 .i64 (2:Int)/\False))))/\(false=false->W7 (0:Int) 2/\Lt 0 2/\W7 (1:Int) 2/\Lt 1 2/\(Le (0+V2 a) (V2 a)/\Le (0+x.val) x.val)/\(V2 a=m9 a/\Z7 (V2 a) (X8 a 1) (X8 a 1))/\(x.val=C1 a/\Z7 x.val (X8 a (2+2*V2 a)) (X8 a (2+2*V2 a)))/\((2:Int)+(2:Int)*(↑(V2 a):Int)+(2:Int)*(x.val:Int)==(a.length:Int))=c9 a/\True)))))/\(true=false->W7 (0:Int) 2/\Lt 0 2/\W7 (1:Int) 2/\Lt 1 2/\(Le (0+x.val) x.val/\Le 0 0)/\(x.val=m9 a/\Z7 x.val (X8 a 1) (X8 a 1))/\(0=C1 a/\Z7 0 (X8 a 0) (X8 a (2+2*V2 a)))/\((1:Int)+(2:Int)*(x.val:Int)==(a.length:Int))=c9 a/\True)))))/\(true=false->W7 (0:Int) 2/\Lt 0 2/\W7 (1:Int) 2/\Lt 1 2/\(Le 0 0/\Le 0 0)/\(0=m9 a/\Z7 0 (fun(k:Nat)=>List.take 2 (List.drop (k*2) [])) (X8 a 1))/\(0=C1 a/\Z7 0 (fun(k:Nat)=>List.take 2 (List.drop (k*2) [])) (X8 a (2+2*V2 a)))/\((0:Int)==(a.length:Int))=c9 a/\True)):
  Z1 Tryz.prog 249 [.str a] (d3u a):=
 T7 (code:=b2e) gN Tryz.func249 (by kernel_rfl) (by kernel_rfl) (a9W a) h (by kernel_rfl)
def a3l:List T->Option (T×Option Prop)
 | [.str a]=>some (d3u a,some (N8 a.length))
 |_=>none
def a9v:Con:=.pure a3l
theorem G1{row row':Nat->List T}{n i:Nat}(h:i<n):W4 row n row' i=row i:=by
 unfold W4;rw[show Nat.blt i n=true from by simp[Nat.blt];omega]
theorem G2{row row':Nat->List T}{n i:Nat}(h:n<=i):W4 row n row' i=row' (i-n):=by
 unfold W4;rw[show Nat.blt i n=false from Bool.eq_false_iff.2 fun hb=>by have:=Nat.le_of_ble_eq_true hb;omega]
theorem a7A:Z2 Tryz.prog 249 a9v:=by
 intro args res p h hp;unfold a3l at h;split at h
 case h_2=>cases h
 rename_i a;simp only[Option.some.injEq,Prod.mk.injEq] at h;obtain⟨rfl,rfl⟩:=h;have hp:a.length<1000000000000:=hp;have h0:((a.getD 0 0).toNat:Int)=(V2 a:Int):=by simp[V2,F9]
 have h1:((a.getD (1+2*V2 a) 0).toNat:Int)=(C6 a:Int):=by simp[C6,F9]
 have b0:V2 a<=255:=by have:=(a.getD 0 0).toNat_lt;omega
 have b1:C6 a<=255:=by have:=(a.getD (1+2*V2 a) 0).toNat_lt;omega
 have t0:(1+2*(V2 a:Int)).toNat=1+2*V2 a:=by omega
 have none0:∀row row':Nat->List T,Z7 0 row row':=fun row row' i hi=>absurd hi (Nat.not_lt_zero i)
 have refl0:∀(n:Nat) (row:Nat->List T),Z7 n row row:=fun n row i hi=>rfl
 have b99:∀(at0 i:Nat),Z7 (i+1) (W4 (X8 a at0) i fun k=>List.take 2 (List.drop (k*2) [T.int .i64 ((a.getD (at0+2*i) 0).toNat:Int),T.int .i64 ((a.getD (at0+2*i+1) 0).toNat:Int)])) (X8 a at0):=by
  intro at0 i j hj;by_cases hlt:j<i
  ·rw[G1 hlt]
  ·obtain rfl:j=i:=by omega
   rw[G2 (Nat.le_refl _),Nat.sub_self];rfl
 have two:∀{ρ:Nat->Option Nat} {row row':Nat->List T},Q9 (U6 ρ 6) (row' 0)=some (row 0)->Q9 (U6 ρ 6) (row' 1)=some (row 1)->k8 ρ 2 row row':=by
  intro ρ row row' e0 e1 i hi;rcases Nat.lt_or_ge i 1 with h|h
  ·obtain rfl:i=0:=by omega
   exact e0
  ·obtain rfl:i=1:=by omega
   exact e1
 refine b2F a ?_
 simp only[D3,W7,Lt,Le,V6,a2E];simp only[h0];refine⟨fun _=>⟨fun hz=> ?_,fun hz=> ?_⟩,fun h=>by cases h⟩
 ·have hz':¬0<a.length:=by simp at hz;simp[hz]
  refine⟨by omega,by omega,by omega,by omega,by omega,⟨by simp[m9,hz'],none0 _ _⟩,⟨by simp[C1,hz'],none0 _ _⟩,by simp[c9,hz'],trivial⟩
 have hz':0<a.length:=by simp at hz;exact List.length_pos_iff.2 hz
 refine⟨⟨by omega,by omega⟩,by omega,by omega,by omega,fun hgt=> ?_,fun hle=> ?_⟩
 ·have hgt':¬1+2*V2 a<=a.length:=by simp at hgt;omega
  have hgt'':¬1+2*V2 a<a.length:=by omega
  refine⟨by omega,by omega,by omega,by omega,by omega,⟨by simp[m9,hgt'],none0 _ _⟩,⟨by simp[C1,hgt''],none0 _ _⟩,by simp[c9,hgt''],trivial⟩
 have hle':1+2*V2 a<=a.length:=by simp at hle;omega
 have e0:m9 a=V2 a:=by simp[m9,hz',hle']
 refine⟨⟨⟨0,Nat.zero_le _⟩,⟨trivial,⟨trivial,trivial⟩,rfl,trivial,trivial,rfl,trivial⟩,⟨rfl,none0 _ _⟩,⟨trivial,none0 _ _⟩,⟨trivial,two rfl rfl⟩,trivial⟩,fun x=>⟨fun hx=> ?_,fun hx=> ?_⟩⟩
 ·have hx':x.val<V2 a:=by simpa using hx
  rw[show(1+2*(x.val:Int)).toNat=1+2*x.val by omega,show(1+2*(x.val:Int)+1).toNat=1+2*x.val+1 by omega]
  refine⟨by omega,by omega,by omega,by omega,by omega,by omega,by omega,by omega,by omega,by omega,⟨x.val+1,hx'⟩,⟨⟨trivial,⟨trivial,trivial⟩,by simp only;omega,trivial,trivial,by simp only;omega,trivial⟩,⟨rfl,b99 1 _⟩,⟨trivial,none0 _ _⟩,⟨trivial,two rfl rfl⟩,trivial⟩,by simp only;omega⟩
 have hx':x.val=V2 a:=by have:=x.2;simp at hx;omega
 rw[hx',t0,h1];refine⟨by omega,fun _=>⟨fun hz1=> ?_,fun hz1=>⟨?_,by omega,by omega,by omega,fun hg1=> ?_,fun hl1=> ?_⟩⟩,fun h=>by cases h⟩
 ·have hz1':¬1+2*V2 a<a.length:=by simp at hz1;omega
  refine⟨by omega,by omega,by omega,by omega,by omega,⟨e0.symm,refl0 _ _⟩,⟨by simp[C1,hz1'],none0 _ _⟩,by simp[c9,hz1'],trivial⟩
 ·simp at hz1;omega
 ·have hz1':1+2*V2 a<a.length:=by simp at hz1;omega
  have hg1':¬2+2*V2 a+2*C6 a<=a.length:=by simp at hg1;omega
  have hg1'':¬2+2*V2 a+2*C6 a=a.length:=by omega
  refine⟨by omega,by omega,by omega,by omega,by omega,⟨e0.symm,refl0 _ _⟩,⟨by simp[C1,hg1'],none0 _ _⟩,by simp[c9,hg1''],trivial⟩
 have hz1':1+2*V2 a<a.length:=by simp at hz1;omega
 have hl1':2+2*V2 a+2*C6 a<=a.length:=by simp at hl1;omega
 have e1:C1 a=C6 a:=by simp[C1,hz',hz1',hl1']
 refine⟨⟨⟨0,Nat.zero_le _⟩,⟨trivial,⟨trivial,trivial⟩,by simp only;omega,trivial,rfl,rfl,trivial⟩,⟨rfl,refl0 _ _⟩,⟨rfl,none0 _ _⟩,⟨trivial,two rfl rfl⟩,trivial⟩,fun y=>⟨fun hy=> ?_,fun hy=> ?_⟩⟩
 ·have hy':y.val<C6 a:=by simpa using hy
  rw[show(2+2*(V2 a:Int)+2*(y.val:Int)).toNat=2+2*V2 a+2*y.val by omega,show(2+2*(V2 a:Int)+2*(y.val:Int)+1).toNat=2+2*V2 a+2*y.val+1 by omega]
  refine⟨by omega,by omega,by omega,by omega,by omega,by omega,by omega,by omega,by omega,by omega,⟨y.val+1,hy'⟩,⟨⟨trivial,⟨trivial,trivial⟩,by simp only;omega,trivial,trivial,by simp only;omega,trivial⟩,⟨trivial,refl0 _ _⟩,⟨rfl,b99 _ _⟩,⟨trivial,two rfl rfl⟩,trivial⟩,by simp only;omega⟩
 have hy':y.val=C6 a:=by have:=y.2;simp at hy;omega
 rw[hy'];refine⟨by omega,(fun h=>by cases h),fun _=>⟨by omega,by omega,by omega,by omega,by omega,⟨e0.symm,refl0 _ _⟩,⟨e1.symm,refl0 _ _⟩,?_,trivial⟩⟩
 unfold c9;rw[Bool.eq_iff_iff,beq_iff_eq,decide_eq_true_eq];omega
end Go.Proofs.YtokaojbaacnngaaGreat

