/- A part of the proof. -/
import Derived.Test.YtghgljelnhfihaaGreatD0D1D2D3
namespace Go.Proofs.YtghgljelnhfihaaGreat
set_option maxRecDepth 100000
open Go.SS

def B3(a:List UInt8)(i:Nat):Int:=((a.getD i 0).toNat:Int)
def W9(a:List UInt8)(at0:Nat)(r:Nat):List T:=[.int .i64 (B3 a (at0+2*r)),.int .i64 (B3 a (at0+2*r+1))]
def T2(a:List UInt8):Nat:=(B3 a 0).toNat
def v5(a:List UInt8):Nat:=(B3 a (1+2*T2 a)).toNat
def yK(a:List UInt8):Nat:=if 0<a.length/\1+2*T2 a<=a.length then T2 a else 0
def o6(a:List UInt8):Nat:=if 0<a.length/\1+2*T2 a<a.length/\2+2*T2 a+2*v5 a<=a.length then v5 a else 0
def xA(a:List UInt8):Bool:=decide (0<a.length/\1+2*T2 a<a.length/\2+2*T2 a+2*v5 a=a.length)
def c1M(a:List UInt8):T:=.tup [.sl 2 (yK a) (W9 a 1),.sl 2 (o6 a) (W9 a (2+2*T2 a)),.bool (xA a)]
def b4v(n:Nat)(row:Nat->List T):Option Ob:=some (.arr true 0 2 n row)
def b7v(k0 k1 n0 n1:Nat):Option Ob:=some (.arr false 0 1 2 λr=>match r with|0=>[.osl k0 0 n0]|_=>[.osl k1 0 n1])
def a2c(a:List UInt8):Nat->Ann
 |0=>.unr 3 (λm=>fun
  |1=>match m with
   |2=>.one {i:Nat//i<=T2 a} (λx=>⟨[(0,.str a),(5,.osl 2 0 2),(6,.int .i64 (1+2*x.1)),(7,.int .i64 0),(8,.int .i64 (T2 a)),(9,.int .i64 x.1)],[b4v x.1 (W9 a 1),b4v 0 (W9 a 0),b7v 0 1 x.1 0]⟩) (λx=>T2 a-x.1) [.arr 0,.arr 1,.ren 2] [.arr 4,.arr 1,.ren 2] (λ_=>Y5)
   |_=>.one {i:Nat//i<=v5 a} (λx=>⟨[(0,.str a),(5,.osl 2 0 2),(6,.int .i64 (2+2*T2 a+2*x.1)),(7,.int .i64 1),(8,.int .i64 (v5 a)),(9,.int .i64 x.1)],[b4v (T2 a) (W9 a 1),b4v x.1 (W9 a (2+2*T2 a)),b7v 0 1 (T2 a) x.1]⟩) (λx=>v5 a-x.1) [.arr 0,.arr 1,.ren 2] [.arr 0,.arr 4,.ren 2] (λ_=>Y5)
  |_=>.none)
 |_=>.none
def nP:List T->Option (T×Option Prop)
 | [.str a]=>some (c1M a,some (O6 a.length))
 |_=>none
def a09:Con:=.pure nP
theorem D7{row row':Nat->List T}{n i:Nat}(h:i<n):X3 row n row' i=row i:=by
 unfold X3;rw[show Nat.blt i n=true from by simp[Nat.blt];omega]
theorem D8{row row':Nat->List T}{n i:Nat}(h:n<=i):X3 row n row' i=row' (i-n):=by
 unfold X3;rw[show Nat.blt i n=false from Bool.eq_false_iff.2 λhb=>by have:=v6 hb;omega]
theorem dA:GK 165 a09:=gk Tryz.func165<|by
 intro args res p h hp;unfold nP at h;split at h
 case h_2=>cases h
 rename_i a;simp only[W8,T5] at h;obtain⟨rfl,rfl⟩:=h;have hp:a.length<1000000000000:=hp;have h0:((a.getD 0 0).toNat:Int)=(T2 a:Int):=by simp[T2,B3]
 have h1:((a.getD (1+2*T2 a) 0).toNat:Int)=(v5 a:Int):=by simp[v5,B3]
 have b0:T2 a<=255:=by have:=(a.getD 0 0).toNat_lt;omega
 have b1:v5 a<=255:=by have:=(a.getD (1+2*T2 a) 0).toNat_lt;omega
 have t0:(1+2*(T2 a:Int)).toNat=1+2*T2 a:=by omega
 have none0:∀row row':Nat->List T,Z6 0 row row':=λrow row' i hi=>absurd hi (J5 i)
 have refl0:∀(n:Nat) (row:Nat->List T),Z6 n row row:=λn row i hi=>rfl
 have tA:∀(at0 i:Nat),Z6 (i+1) (X3 (W9 a at0) i λk=>List.take 2 (List.drop (k*2) [T.int .i64 ((a.getD (at0+2*i) 0).toNat:Int),T.int .i64 ((a.getD (at0+2*i+1) 0).toNat:Int)])) (W9 a at0):=by
  intro at0 i j hj;by_cases hlt:j<i
  ·rw[D7 hlt]
  ·obtain rfl:j=i:=by omega
   rw[D8 (W4 _),j_h];rfl
 have two:∀{ρ:Nat->Option Nat} {row row':Nat->List T},O5 (S4 ρ 6) (row' 0)=some (row 0)->O5 (S4 ρ 6) (row' 1)=some (row 1)->yC ρ 2 row row':=by
  intro ρ row row' e0 e1 i hi;rcases Nat.lt_or_ge i 1 with h|h
  ·obtain rfl:i=0:=by omega
   exact e0
  ·obtain rfl:i=1:=by omega
   exact e1
 refine Q5 gN Tryz.func165 (a2c a) (α:=(true=true->(decide ((0:Int)≥(a.length:Int))=true->V3 (0:Int) 2/\Lt 0 2/\V3 (1:Int) 2/\Lt 1 2/\(Le 0 0/\Le 0 0)/\(0=yK a/\Z6 0 (λ(k:Nat)=>List.take 2 (List.drop (k*2) [])) (W9 a 1))/\(0=o6 a/\Z6 0 (λ(k:Nat)=>List.take 2 (List.drop (k*2) [])) (W9 a (2+2*T2 a)))/\false=xA a/\True)/\(decide ((0:Int)≥(a.length:Int))=false->V3 (0:Int) a.length/\W7 .i64 1/\W7 .i64 ((2:Int)*IntKind.i64.wrap (↑(a.getD 0 (0:UInt8)).toNat:Int))/\W7 .i64 ((1:Int)+2*IntKind.i64.wrap (↑(a.getD 0 (0:UInt8)).toNat:Int))/\(decide ((1:Int)+2*IntKind.i64.wrap (↑(a.getD 0 (0:UInt8)).toNat:Int)>(a.length:Int))=true->V3 (0:Int) 2/\Lt 0 2/\V3 (1:Int) 2/\Lt 1 2/\(Le 0 0/\Le 0 0)/\(0=yK a/\Z6 0 (λ(k:Nat)=>List.take 2 (List.drop (k*2) [])) (W9 a 1))/\(0=o6 a/\Z6 0 (λ(k:Nat)=>List.take 2 (List.drop (k*2) [])) (W9 a (2+2*T2 a)))/\false=xA a/\True)/\(decide ((1:Int)+2*IntKind.i64.wrap (↑(a.getD 0 (0:UInt8)).toNat:Int)>(a.length:Int))=false->(∃(x:{i:Nat//i<=T2 a}),(a=a/\(0=0/\2=2)/\(1:Int)=1+2*(x.val:Int)/\(0:Int)=0/\IntKind.i64.wrap (↑(a.getD 0 (0:UInt8)).toNat:Int)=(↑(T2 a):Int)/\0=(x.val:Int)/\True)/\(0=x.val/\Z6 0 (λ(k:Nat)=>List.take 2 (List.drop (k*2) [])) (W9 a 1))/\(0=0/\Z6 0 (λ(k:Nat)=>List.take 2 (List.drop (k*2) [])) (W9 a 0))/\(2=2/\yC (q9 [some 0,some 1,some 2]) 2 (λ(k:Nat)=>List.take 1 (List.drop (k*1) [T.osl 0 0 0,T.osl 1 0 0])) λ(r:Nat)=>match r with|0=>[T.osl 0 0 x.val]|x=>[T.osl 1 0 0])/\True)/\∀(x:{i:Nat//i<=T2 a}),(decide ((x.val:Int)<(↑(T2 a):Int))=true->V3 (0:Int) 2/\Lt 0 2/\V3 ((1:Int)+2*(x.val:Int)) a.length/\W7 .i64 ((1:Int)+2*(x.val:Int)+1)/\V3 ((1:Int)+2*(x.val:Int)+1) a.length/\(Le 1 1/\Le x.val x.val/\W6 x.val 1 16)/\V3 (0:Int) 2/\Lt 0 2/\W7 .i64 ((1:Int)+2*(x.val:Int)+2)/\W7 .i64 ((x.val:Int)+1)/\∃(y:{i:Nat//i<=T2 a}),((a=a/\(0=0/\2=2)/\(1:Int)+2*(x.val:Int)+2=1+2*(y.val:Int)/\(0:Int)=0/\(↑(T2 a):Int)=(↑(T2 a):Int)/\(x.val:Int)+1=(y.val:Int)/\True)/\(x.val+1=y.val/\Z6 (x.val+1) (X3 (W9 a 1) x.val λ(k:Nat)=>List.take 2 (List.drop (k*2) [T.int .i64 (IntKind.i64.wrap (↑(a.getD ((1:Int)+2*(x.val:Int)).toNat (0:UInt8)).toNat:Int)),T.int .i64 (IntKind.i64.wrap (↑(a.getD ((1:Int)+2*(x.val:Int)+1).toNat (0:UInt8)).toNat:Int))])) (W9 a 1))/\(0=0/\Z6 0 (W9 a 0) (W9 a 0))/\(2=2/\yC (q9 [some 4,some 1,some 2]) 2 (setRow (λ(r:Nat)=>match r with|0=>[T.osl 0 0 x.val]|x=>[T.osl 1 0 0]) 0 0 [T.osl 4 0 (x.val+1)]) λ(r:Nat)=>match r with|0=>[T.osl 0 0 y.val]|x=>[T.osl 1 0 0])/\True)/\Lt (T2 a-y.val) (T2 a-x.val))/\(decide ((x.val:Int)<(↑(T2 a):Int))=false->W7 .i64 1/\(true=true->(decide ((1:Int)+2*(x.val:Int)≥(a.length:Int))=true->V3 (0:Int) 2/\Lt 0 2/\V3 (1:Int) 2/\Lt 1 2/\(Le (0+x.val) x.val/\Le 0 0)/\(x.val=yK a/\Z6 x.val (W9 a 1) (W9 a 1))/\(0=o6 a/\Z6 0 (W9 a 0) (W9 a (2+2*T2 a)))/\false=xA a/\True)/\(decide ((1:Int)+2*(x.val:Int)≥(a.length:Int))=false->V3 ((1:Int)+2*(x.val:Int)) a.length/\W7 .i64 ((1:Int)+2*(x.val:Int)+1)/\W7 .i64 ((2:Int)*IntKind.i64.wrap (↑(a.getD ((1:Int)+2*(x.val:Int)).toNat (0:UInt8)).toNat:Int))/\W7 .i64 ((1:Int)+2*(x.val:Int)+1+2*IntKind.i64.wrap (↑(a.getD ((1:Int)+2*(x.val:Int)).toNat (0:UInt8)).toNat:Int))/\(decide ((1:Int)+2*(x.val:Int)+1+2*IntKind.i64.wrap (↑(a.getD ((1:Int)+2*(x.val:Int)).toNat (0:UInt8)).toNat:Int)>(a.length:Int))=true->V3 (0:Int) 2/\Lt 0 2/\V3 (1:Int) 2/\Lt 1 2/\(Le (0+x.val) x.val/\Le 0 0)/\(x.val=yK a/\Z6 x.val (W9 a 1) (W9 a 1))/\(0=o6 a/\Z6 0 (W9 a 0) (W9 a (2+2*T2 a)))/\false=xA a/\True)/\(decide ((1:Int)+2*(x.val:Int)+1+2*IntKind.i64.wrap (↑(a.getD ((1:Int)+2*(x.val:Int)).toNat (0:UInt8)).toNat:Int)>(a.length:Int))=false->(∃(x_1:{i:Nat//i<=v5 a}),(a=a/\(0=0/\2=2)/\(1:Int)+2*(x.val:Int)+1=2+2*(↑(T2 a):Int)+2*(x_1.val:Int)/\(1:Int)=1/\IntKind.i64.wrap (↑(a.getD ((1:Int)+2*(x.val:Int)).toNat (0:UInt8)).toNat:Int)=(↑(v5 a):Int)/\0=(x_1.val:Int)/\True)/\(x.val=T2 a/\Z6 x.val (W9 a 1) (W9 a 1))/\(0=x_1.val/\Z6 0 (W9 a 0) (W9 a (2+2*T2 a)))/\(2=2/\yC (q9 [some 0,some 1,some 2]) 2 (λ(r:Nat)=>match r with|0=>[T.osl 0 0 x.val]|x=>[T.osl 1 0 0]) λ(r:Nat)=>match r with|0=>[T.osl 0 0 (T2 a)]|x=>[T.osl 1 0 x_1.val])/\True)/\∀(x:{i:Nat//i<=v5 a}),(decide ((x.val:Int)<(↑(v5 a):Int))=true->V3 (1:Int) 2/\Lt 1 2/\V3 ((2:Int)+2*(↑(T2 a):Int)+2*(x.val:Int)) a.length/\W7 .i64 ((2:Int)+2*(↑(T2 a):Int)+2*(x.val:Int)+1)/\V3 ((2:Int)+2*(↑(T2 a):Int)+2*(x.val:Int)+1) a.length/\(Le 1 1/\Le x.val x.val/\W6 x.val 1 16)/\V3 (1:Int) 2/\Lt 1 2/\W7 .i64 ((2:Int)+2*(↑(T2 a):Int)+2*(x.val:Int)+2)/\W7 .i64 ((x.val:Int)+1)/\∃(y:{i:Nat//i<=v5 a}),((a=a/\(0=0/\2=2)/\(2:Int)+2*(↑(T2 a):Int)+2*(x.val:Int)+2=2+2*(↑(T2 a):Int)+2*(y.val:Int)/\(1:Int)=1/\(↑(v5 a):Int)=(↑(v5 a):Int)/\(x.val:Int)+1=(y.val:Int)/\True)/\(T2 a=T2 a/\Z6 (T2 a) (W9 a 1) (W9 a 1))/\(x.val+1=y.val/\Z6 (x.val+1) (X3 (W9 a (2+2*T2 a)) x.val λ(k:Nat)=>List.take 2 (List.drop (k*2) [T.int .i64 (IntKind.i64.wrap (↑(a.getD ((2:Int)+2*(↑(T2 a):Int)+2*(x.val:Int)).toNat (0:UInt8)).toNat:Int)),T.int .i64 (IntKind.i64.wrap (↑(a.getD ((2:Int)+2*(↑(T2 a):Int)+2*(x.val:Int)+1).toNat (0:UInt8)).toNat:Int))])) (W9 a (2+2*T2 a)))/\(2=2/\yC (q9 [some 0,some 4,some 2]) 2 (setRow (λ(r:Nat)=>match r with|0=>[T.osl 0 0 (T2 a)]|x_1=>[T.osl 1 0 x.val]) 1 0 [T.osl 4 0 (x.val+1)]) λ(r:Nat)=>match r with|0=>[T.osl 0 0 (T2 a)]|x=>[T.osl 1 0 y.val])/\True)/\Lt (v5 a-y.val) (v5 a-x.val))/\(decide ((x.val:Int)<(↑(v5 a):Int))=false->W7 .i64 2/\(false=true->(decide ((2:Int)+2*(↑(T2 a):Int)+2*(x.val:Int)≥(a.length:Int))=true->V3 (0:Int) 2/\Lt 0 2/\V3 (1:Int) 2/\Lt 1 2/\(Le (0+T2 a) (T2 a)/\Le (0+x.val) x.val)/\(T2 a=yK a/\Z6 (T2 a) (W9 a 1) (W9 a 1))/\(x.val=o6 a/\Z6 x.val (W9 a (2+2*T2 a)) (W9 a (2+2*T2 a)))/\false=xA a/\True)/\(decide ((2:Int)+2*(↑(T2 a):Int)+2*(x.val:Int)≥(a.length:Int))=false->V3 ((2:Int)+2*(↑(T2 a):Int)+2*(x.val:Int)) a.length/\W7 .i64 ((2:Int)+2*(↑(T2 a):Int)+2*(x.val:Int)+1)/\W7 .i64 ((2:Int)*IntKind.i64.wrap (↑(a.getD ((2:Int)+2*(↑(T2 a):Int)+2*(x.val:Int)).toNat (0:UInt8)).toNat:Int))/\W7 .i64 ((2:Int)+2*(↑(T2 a):Int)+2*(x.val:Int)+1+2*IntKind.i64.wrap (↑(a.getD ((2:Int)+2*(↑(T2 a):Int)+2*(x.val:Int)).toNat (0:UInt8)).toNat:Int))/\(decide ((2:Int)+2*(↑(T2 a):Int)+2*(x.val:Int)+1+2*IntKind.i64.wrap (↑(a.getD ((2:Int)+2*(↑(T2 a):Int)+2*(x.val:Int)).toNat (0:UInt8)).toNat:Int)>(a.length:Int))=true->V3 (0:Int) 2/\Lt 0 2/\V3 (1:Int) 2/\Lt 1 2/\(Le (0+T2 a) (T2 a)/\Le (0+x.val) x.val)/\(T2 a=yK a/\Z6 (T2 a) (W9 a 1) (W9 a 1))/\(x.val=o6 a/\Z6 x.val (W9 a (2+2*T2 a)) (W9 a (2+2*T2 a)))/\false=xA a/\True)/\(decide ((2:Int)+2*(↑(T2 a):Int)+2*(x.val:Int)+1+2*IntKind.i64.wrap (↑(a.getD ((2:Int)+2*(↑(T2 a):Int)+2*(x.val:Int)).toNat (0:UInt8)).toNat:Int)>(a.length:Int))=false->(∃(x_1:{i:Nat//i<=v5 a}),(a=a/\(0=0/\2=2)/\(2:Int)+2*(↑(T2 a):Int)+2*(x.val:Int)+1=2+2*(↑(T2 a):Int)+2*(x_1.val:Int)/\(2:Int)=1/\IntKind.i64.wrap (↑(a.getD ((2:Int)+2*(↑(T2 a):Int)+2*(x.val:Int)).toNat (0:UInt8)).toNat:Int)=(↑(v5 a):Int)/\0=(x_1.val:Int)/\True)/\(T2 a=T2 a/\Z6 (T2 a) (W9 a 1) (W9 a 1))/\(x.val=x_1.val/\Z6 x.val (W9 a (2+2*T2 a)) (W9 a (2+2*T2 a)))/\(2=2/\yC (q9 [some 0,some 1,some 2]) 2 (λ(r:Nat)=>match r with|0=>[T.osl 0 0 (T2 a)]|x_2=>[T.osl 1 0 x.val]) λ(r:Nat)=>match r with|0=>[T.osl 0 0 (T2 a)]|x=>[T.osl 1 0 x_1.val])/\True)/\∀(x:{i:Nat//i<=v5 a}),(decide ((x.val:Int)<(↑(v5 a):Int))=true->V3 (1:Int) 2/\Lt 1 2/\V3 ((2:Int)+2*(↑(T2 a):Int)+2*(x.val:Int)) a.length/\W7 .i64 ((2:Int)+2*(↑(T2 a):Int)+2*(x.val:Int)+1)/\V3 ((2:Int)+2*(↑(T2 a):Int)+2*(x.val:Int)+1) a.length/\(Le 1 1/\Le x.val x.val/\W6 x.val 1 16)/\V3 (1:Int) 2/\Lt 1 2/\W7 .i64 ((2:Int)+2*(↑(T2 a):Int)+2*(x.val:Int)+2)/\W7 .i64 ((x.val:Int)+1)/\∃(y:{i:Nat//i<=v5 a}),((a=a/\(0=0/\2=2)/\(2:Int)+2*(↑(T2 a):Int)+2*(x.val:Int)+2=2+2*(↑(T2 a):Int)+2*(y.val:Int)/\(1:Int)=1/\(↑(v5 a):Int)=(↑(v5 a):Int)/\(x.val:Int)+1=(y.val:Int)/\True)/\(T2 a=T2 a/\Z6 (T2 a) (W9 a 1) (W9 a 1))/\(x.val+1=y.val/\Z6 (x.val+1) (X3 (W9 a (2+2*T2 a)) x.val λ(k:Nat)=>List.take 2 (List.drop (k*2) [T.int .i64 (IntKind.i64.wrap (↑(a.getD ((2:Int)+2*(↑(T2 a):Int)+2*(x.val:Int)).toNat (0:UInt8)).toNat:Int)),T.int .i64 (IntKind.i64.wrap (↑(a.getD ((2:Int)+2*(↑(T2 a):Int)+2*(x.val:Int)+1).toNat (0:UInt8)).toNat:Int))])) (W9 a (2+2*T2 a)))/\(2=2/\yC (q9 [some 0,some 4,some 2]) 2 (setRow (λ(r:Nat)=>match r with|0=>[T.osl 0 0 (T2 a)]|x_1=>[T.osl 1 0 x.val]) 1 0 [T.osl 4 0 (x.val+1)]) λ(r:Nat)=>match r with|0=>[T.osl 0 0 (T2 a)]|x=>[T.osl 1 0 y.val])/\True)/\Lt (v5 a-y.val) (v5 a-x.val))/\(decide ((x.val:Int)<(↑(v5 a):Int))=false->W7 .i64 2/\False))))/\(false=false->V3 (0:Int) 2/\Lt 0 2/\V3 (1:Int) 2/\Lt 1 2/\(Le (0+T2 a) (T2 a)/\Le (0+x.val) x.val)/\(T2 a=yK a/\Z6 (T2 a) (W9 a 1) (W9 a 1))/\(x.val=o6 a/\Z6 x.val (W9 a (2+2*T2 a)) (W9 a (2+2*T2 a)))/\((2:Int)+2*(↑(T2 a):Int)+2*(x.val:Int)==(a.length:Int))=xA a/\True)))))/\(true=false->V3 (0:Int) 2/\Lt 0 2/\V3 (1:Int) 2/\Lt 1 2/\(Le (0+x.val) x.val/\Le 0 0)/\(x.val=yK a/\Z6 x.val (W9 a 1) (W9 a 1))/\(0=o6 a/\Z6 0 (W9 a 0) (W9 a (2+2*T2 a)))/\((1:Int)+2*(x.val:Int)==(a.length:Int))=xA a/\True)))))/\(true=false->V3 (0:Int) 2/\Lt 0 2/\V3 (1:Int) 2/\Lt 1 2/\(Le 0 0/\Le 0 0)/\(0=yK a/\Z6 0 (λ(k:Nat)=>List.take 2 (List.drop (k*2) [])) (W9 a 1))/\(0=o6 a/\Z6 0 (λ(k:Nat)=>List.take 2 (List.drop (k*2) [])) (W9 a (2+2*T2 a)))/\((0:Int)==(a.length:Int))=xA a/\True)) ?_
 simp only[b6q,V3,Lt,Le,W6,wP];simp only[h0];refine⟨λ_=>⟨λhz=> ?_,λhz=> ?_⟩,λh=>by cases h⟩
 ·have hz':¬0<a.length:=by simp at hz;simp[hz]
  refine⟨by omega,by omega,by omega,by omega,by omega,⟨by simp[yK,hz'],none0 _ _⟩,⟨by simp[o6,hz'],none0 _ _⟩,by simp[xA,hz'],trivial⟩
 have hz':0<a.length:=by simp at hz;exact List.length_pos_iff.2 hz
 refine⟨⟨by omega,by omega⟩,by omega,by omega,by omega,λhgt=> ?_,λhle=> ?_⟩
 ·have hgt':¬1+2*T2 a<=a.length:=by simp at hgt;omega
  have hgt'':¬1+2*T2 a<a.length:=by omega
  refine⟨by omega,by omega,by omega,by omega,by omega,⟨by simp[yK,hgt'],none0 _ _⟩,⟨by simp[o6,hgt''],none0 _ _⟩,by simp[xA,hgt''],trivial⟩
 have hle':1+2*T2 a<=a.length:=by simp at hle;omega
 have e0:yK a=T2 a:=by simp[yK,hz',hle']
 refine⟨⟨⟨0,S7 _⟩,⟨trivial,A7,rfl,trivial,trivial,Z9⟩,⟨rfl,none0 _ _⟩,⟨trivial,none0 _ _⟩,⟨trivial,two rfl rfl⟩,trivial⟩,λx=>⟨λhx=> ?_,λhx=> ?_⟩⟩
 ·have hx':x.val<T2 a:=by simpa using hx
  rw[show(1+2*(x.val:Int)).toNat=1+2*x.val by omega,show(1+2*(x.val:Int)+1).toNat=1+2*x.val+1 by omega]
  refine⟨by omega,by omega,by omega,by omega,by omega,by omega,by omega,by omega,by omega,by omega,⟨x.val+1,hx'⟩,⟨⟨trivial,A7,by simp only;omega,trivial,trivial,by simp only;omega,trivial⟩,⟨rfl,tA 1 _⟩,⟨trivial,none0 _ _⟩,⟨trivial,two rfl rfl⟩,trivial⟩,by simp only;omega⟩
 have hx':x.val=T2 a:=by have:=x.2;simp at hx;omega
 rw[hx',t0,h1];refine⟨by omega,λ_=>⟨λhz1=> ?_,λhz1=>⟨?_,by omega,by omega,by omega,λhg1=> ?_,λhl1=> ?_⟩⟩,λh=>by cases h⟩
 ·have hz1':¬1+2*T2 a<a.length:=by simp at hz1;omega
  refine⟨by omega,by omega,by omega,by omega,by omega,⟨e0.symm,refl0 _ _⟩,⟨by simp[o6,hz1'],none0 _ _⟩,by simp[xA,hz1'],trivial⟩
 ·simp at hz1;omega
 ·have hz1':1+2*T2 a<a.length:=by simp at hz1;omega
  have hg1':¬2+2*T2 a+2*v5 a<=a.length:=by simp at hg1;omega
  have hg1'':¬2+2*T2 a+2*v5 a=a.length:=by omega
  refine⟨by omega,by omega,by omega,by omega,by omega,⟨e0.symm,refl0 _ _⟩,⟨by simp[o6,hg1'],none0 _ _⟩,by simp[xA,hg1''],trivial⟩
 have hz1':1+2*T2 a<a.length:=by simp at hz1;omega
 have hl1':2+2*T2 a+2*v5 a<=a.length:=by simp at hl1;omega
 have e1:o6 a=v5 a:=by simp[o6,hz',hz1',hl1']
 refine⟨⟨⟨0,S7 _⟩,⟨trivial,A7,by simp only;omega,trivial,rfl,rfl,trivial⟩,⟨rfl,refl0 _ _⟩,⟨rfl,none0 _ _⟩,⟨trivial,two rfl rfl⟩,trivial⟩,λy=>⟨λhy=> ?_,λhy=> ?_⟩⟩
 ·have hy':y.val<v5 a:=by simpa using hy
  rw[show(2+2*(T2 a:Int)+2*(y.val:Int)).toNat=2+2*T2 a+2*y.val by omega,show(2+2*(T2 a:Int)+2*(y.val:Int)+1).toNat=2+2*T2 a+2*y.val+1 by omega]
  refine⟨by omega,by omega,by omega,by omega,by omega,by omega,by omega,by omega,by omega,by omega,⟨y.val+1,hy'⟩,⟨⟨trivial,A7,by simp only;omega,trivial,trivial,by simp only;omega,trivial⟩,⟨trivial,refl0 _ _⟩,⟨rfl,tA _ _⟩,⟨trivial,two rfl rfl⟩,trivial⟩,by simp only;omega⟩
 have hy':y.val=v5 a:=by have:=y.2;simp at hy;omega
 rw[hy'];refine⟨by omega,(λh=>by cases h),λ_=>⟨by omega,by omega,by omega,by omega,by omega,⟨e0.symm,refl0 _ _⟩,⟨e1.symm,refl0 _ _⟩,?_,trivial⟩⟩
 unfold xA;rw[Bool.eq_iff_iff,beq_iff_eq,k4];omega
end Go.Proofs.YtghgljelnhfihaaGreat

