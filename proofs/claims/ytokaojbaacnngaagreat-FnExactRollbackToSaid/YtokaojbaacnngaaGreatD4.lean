/- A part of the proof. -/
import Derived.Test.YtokaojbaacnngaaGreatD2D3
namespace Go.Proofs.YtokaojbaacnngaaGreat
set_option maxRecDepth 100000
open Go.SS

def C7(a:List UInt8)(i:Nat):Int:=((a.getD i 0).toNat:Int)
def X2(a:List UInt8)(at0:Nat)(r:Nat):List T:=[.int .i64 (C7 a (at0+2*r)),.int .i64 (C7 a (at0+2*r+1))]
def U3(a:List UInt8):Nat:=(C7 a 0).toNat
def y9(a:List UInt8):Nat:=(C7 a (1+2*U3 a)).toNat
def zU(a:List UInt8):Nat:=if 0<a.length/\1+2*U3 a<=a.length then U3 a else 0
def w7(a:List UInt8):Nat:=if 0<a.length/\1+2*U3 a<a.length/\2+2*U3 a+2*y9 a<=a.length then y9 a else 0
def xS(a:List UInt8):Bool:=decide (0<a.length/\1+2*U3 a<a.length/\2+2*U3 a+2*y9 a=a.length)
def b9j(a:List UInt8):T:=.tup [.sl 2 (zU a) (X2 a 1),.sl 2 (w7 a) (X2 a (2+2*U3 a)),.bool (xS a)]
def b4M(n:Nat)(row:Nat->List T):Option Ob:=some (.arr true 0 2 n row)
def b6e(k0 k1 n0 n1:Nat):Option Ob:=some (.arr false 0 1 2 λr=>match r with|0=>[.osl k0 0 n0]|_=>[.osl k1 0 n1])
def a0H(a:List UInt8):Nat->Ann
 |0=>.unr 3 (λm=>fun
  |1=>match m with
   |2=>.one {i:Nat//i<=U3 a} (λx=>⟨[(0,.str a),(5,.osl 2 0 2),(6,.int .i64 (1+2*x.1)),(7,.int .i64 0),(8,.int .i64 (U3 a)),(9,.int .i64 x.1)],[b4M x.1 (X2 a 1),b4M 0 (X2 a 0),b6e 0 1 x.1 0]⟩) (λx=>U3 a-x.1) [.arr 0,.arr 1,.ren 2] [.arr 4,.arr 1,.ren 2] (λ_=>Z0)
   |_=>.one {i:Nat//i<=y9 a} (λx=>⟨[(0,.str a),(5,.osl 2 0 2),(6,.int .i64 (2+2*U3 a+2*x.1)),(7,.int .i64 1),(8,.int .i64 (y9 a)),(9,.int .i64 x.1)],[b4M (U3 a) (X2 a 1),b4M x.1 (X2 a (2+2*U3 a)),b6e 0 1 (U3 a) x.1]⟩) (λx=>y9 a-x.1) [.arr 0,.arr 1,.ren 2] [.arr 0,.arr 4,.ren 2] (λ_=>Z0)
  |_=>.none)
 |_=>.none
def qD:List T->Option (T×Option Prop)
 | [.str a]=>some (b9j a,some (M7 a.length))
 |_=>none
def a0p:Con:=.pure qD
theorem D4{row row':Nat->List T}{n i:Nat}(h:i<n):W6 row n row' i=row i:=by
 unfold W6;rw[show Nat.blt i n=true from by simp[Nat.blt];omega]
theorem D2{row row':Nat->List T}{n i:Nat}(h:n<=i):W6 row n row' i=row' (i-n):=by
 unfold W6;rw[show Nat.blt i n=false from Bool.eq_false_iff.2 λhb=>by have:=m5 hb;omega]
theorem fG:GK 249 a0p:=gk Tryz.func249<|by
 intro args res p h hp;unfold qD at h;split at h
 case h_2=>cases h
 rename_i a;simp only[X1,U4] at h;obtain⟨rfl,rfl⟩:=h;have hp:a.length<1000000000000:=hp;have h0:((a.getD 0 0).toNat:Int)=(U3 a:Int):=by simp[U3,C7]
 have h1:((a.getD (1+2*U3 a) 0).toNat:Int)=(y9 a:Int):=by simp[y9,C7]
 have b0:U3 a<=255:=by have:=(a.getD 0 0).toNat_lt;omega
 have b1:y9 a<=255:=by have:=(a.getD (1+2*U3 a) 0).toNat_lt;omega
 have t0:(1+2*(U3 a:Int)).toNat=1+2*U3 a:=by omega
 have none0:∀row row':Nat->List T,Z6 0 row row':=λrow row' i hi=>absurd hi (F2 i)
 have refl0:∀(n:Nat) (row:Nat->List T),Z6 n row row:=λn row i hi=>rfl
 have qG:∀(at0 i:Nat),Z6 (i+1) (W6 (X2 a at0) i λk=>List.take 2 (List.drop (k*2) [T.int .i64 ((a.getD (at0+2*i) 0).toNat:Int),T.int .i64 ((a.getD (at0+2*i+1) 0).toNat:Int)])) (X2 a at0):=by
  intro at0 i j hj;by_cases hlt:j<i
  ·rw[D4 hlt]
  ·obtain rfl:j=i:=by omega
   rw[D2 (V2 _),j_h];rfl
 have two:∀{ρ:Nat->Option Nat} {row row':Nat->List T},P7 (T5 ρ 6) (row' 0)=some (row 0)->P7 (T5 ρ 6) (row' 1)=some (row 1)->zE ρ 2 row row':=by
  intro ρ row row' e0 e1 i hi;rcases Nat.lt_or_ge i 1 with h|h
  ·obtain rfl:i=0:=by omega
   exact e0
  ·obtain rfl:i=1:=by omega
   exact e1
 refine S6 gN Tryz.func249 (a0H a) (α:=(true=true->(decide ((0:Int)≥(a.length:Int))=true->W4 (0:Int) 2/\Lt 0 2/\W4 (1:Int) 2/\Lt 1 2/\(Le 0 0/\Le 0 0)/\(0=zU a/\Z6 0 (λ(k:Nat)=>List.take 2 (List.drop (k*2) [])) (X2 a 1))/\(0=w7 a/\Z6 0 (λ(k:Nat)=>List.take 2 (List.drop (k*2) [])) (X2 a (2+2*U3 a)))/\false=xS a/\True)/\(decide ((0:Int)≥(a.length:Int))=false->W4 (0:Int) a.length/\X4 .i64 (1:Int)/\X4 .i64 ((2:Int)*IntKind.i64.wrap (↑(a.getD 0 (0:UInt8)).toNat:Int))/\X4 .i64 ((1:Int)+(2:Int)*IntKind.i64.wrap (↑(a.getD 0 (0:UInt8)).toNat:Int))/\(decide ((1:Int)+(2:Int)*IntKind.i64.wrap (↑(a.getD 0 (0:UInt8)).toNat:Int)>(a.length:Int))=true->W4 (0:Int) 2/\Lt 0 2/\W4 (1:Int) 2/\Lt 1 2/\(Le 0 0/\Le 0 0)/\(0=zU a/\Z6 0 (λ(k:Nat)=>List.take 2 (List.drop (k*2) [])) (X2 a 1))/\(0=w7 a/\Z6 0 (λ(k:Nat)=>List.take 2 (List.drop (k*2) [])) (X2 a (2+2*U3 a)))/\false=xS a/\True)/\(decide ((1:Int)+(2:Int)*IntKind.i64.wrap (↑(a.getD 0 (0:UInt8)).toNat:Int)>(a.length:Int))=false->(∃(x:{i:Nat//i<=U3 a}),(a=a/\(0=0/\2=2)/\(1:Int)=(1:Int)+(2:Int)*(x.val:Int)/\(0:Int)=(0:Int)/\IntKind.i64.wrap (↑(a.getD 0 (0:UInt8)).toNat:Int)=(↑(U3 a):Int)/\(0:Int)=(x.val:Int)/\True)/\(0=x.val/\Z6 0 (λ(k:Nat)=>List.take 2 (List.drop (k*2) [])) (X2 a 1))/\(0=0/\Z6 0 (λ(k:Nat)=>List.take 2 (List.drop (k*2) [])) (X2 a 0))/\(2=2/\zE (v9 [some 0,some 1,some 2]) 2 (λ(k:Nat)=>List.take 1 (List.drop (k*1) [T.osl 0 0 0,T.osl 1 0 0])) λ(r:Nat)=>match r with|0=>[T.osl 0 0 x.val]|x=>[T.osl 1 0 0])/\True)/\∀(x:{i:Nat//i<=U3 a}),(decide ((x.val:Int)<(↑(U3 a):Int))=true->W4 (0:Int) 2/\Lt 0 2/\W4 ((1:Int)+(2:Int)*(x.val:Int)) a.length/\X4 .i64 ((1:Int)+(2:Int)*(x.val:Int)+(1:Int))/\W4 ((1:Int)+(2:Int)*(x.val:Int)+(1:Int)) a.length/\(Le 1 1/\Le x.val x.val/\V6 x.val 1 16)/\W4 (0:Int) 2/\Lt 0 2/\X4 .i64 ((1:Int)+(2:Int)*(x.val:Int)+(2:Int))/\X4 .i64 ((x.val:Int)+(1:Int))/\∃(y:{i:Nat//i<=U3 a}),((a=a/\(0=0/\2=2)/\(1:Int)+(2:Int)*(x.val:Int)+(2:Int)=(1:Int)+(2:Int)*(y.val:Int)/\(0:Int)=(0:Int)/\(↑(U3 a):Int)=(↑(U3 a):Int)/\(x.val:Int)+(1:Int)=(y.val:Int)/\True)/\(x.val+1=y.val/\Z6 (x.val+1) (W6 (X2 a 1) x.val λ(k:Nat)=>List.take 2 (List.drop (k*2) [T.int .i64 (IntKind.i64.wrap (↑(a.getD ((1:Int)+(2:Int)*(x.val:Int)).toNat (0:UInt8)).toNat:Int)),T.int .i64 (IntKind.i64.wrap (↑(a.getD ((1:Int)+(2:Int)*(x.val:Int)+(1:Int)).toNat (0:UInt8)).toNat:Int))])) (X2 a 1))/\(0=0/\Z6 0 (X2 a 0) (X2 a 0))/\(2=2/\zE (v9 [some 4,some 1,some 2]) 2 (setRow (λ(r:Nat)=>match r with|0=>[T.osl 0 0 x.val]|x=>[T.osl 1 0 0]) 0 0 [T.osl 4 0 (x.val+1)]) λ(r:Nat)=>match r with|0=>[T.osl 0 0 y.val]|x=>[T.osl 1 0 0])/\True)/\Lt (U3 a-y.val) (U3 a-x.val))/\(decide ((x.val:Int)<(↑(U3 a):Int))=false->X4 .i64 (1:Int)/\(true=true->(decide ((1:Int)+(2:Int)*(x.val:Int)≥(a.length:Int))=true->W4 (0:Int) 2/\Lt 0 2/\W4 (1:Int) 2/\Lt 1 2/\(Le (0+x.val) x.val/\Le 0 0)/\(x.val=zU a/\Z6 x.val (X2 a 1) (X2 a 1))/\(0=w7 a/\Z6 0 (X2 a 0) (X2 a (2+2*U3 a)))/\false=xS a/\True)/\(decide ((1:Int)+(2:Int)*(x.val:Int)≥(a.length:Int))=false->W4 ((1:Int)+(2:Int)*(x.val:Int)) a.length/\X4 .i64 ((1:Int)+(2:Int)*(x.val:Int)+(1:Int))/\X4 .i64 ((2:Int)*IntKind.i64.wrap (↑(a.getD ((1:Int)+(2:Int)*(x.val:Int)).toNat (0:UInt8)).toNat:Int))/\X4 .i64 ((1:Int)+(2:Int)*(x.val:Int)+(1:Int)+(2:Int)*IntKind.i64.wrap (↑(a.getD ((1:Int)+(2:Int)*(x.val:Int)).toNat (0:UInt8)).toNat:Int))/\(decide ((1:Int)+(2:Int)*(x.val:Int)+(1:Int)+(2:Int)*IntKind.i64.wrap (↑(a.getD ((1:Int)+(2:Int)*(x.val:Int)).toNat (0:UInt8)).toNat:Int)>(a.length:Int))=true->W4 (0:Int) 2/\Lt 0 2/\W4 (1:Int) 2/\Lt 1 2/\(Le (0+x.val) x.val/\Le 0 0)/\(x.val=zU a/\Z6 x.val (X2 a 1) (X2 a 1))/\(0=w7 a/\Z6 0 (X2 a 0) (X2 a (2+2*U3 a)))/\false=xS a/\True)/\(decide ((1:Int)+(2:Int)*(x.val:Int)+(1:Int)+(2:Int)*IntKind.i64.wrap (↑(a.getD ((1:Int)+(2:Int)*(x.val:Int)).toNat (0:UInt8)).toNat:Int)>(a.length:Int))=false->(∃(x_1:{i:Nat//i<=y9 a}),(a=a/\(0=0/\2=2)/\(1:Int)+(2:Int)*(x.val:Int)+(1:Int)=(2:Int)+(2:Int)*(↑(U3 a):Int)+(2:Int)*(x_1.val:Int)/\(1:Int)=(1:Int)/\IntKind.i64.wrap (↑(a.getD ((1:Int)+(2:Int)*(x.val:Int)).toNat (0:UInt8)).toNat:Int)=(↑(y9 a):Int)/\(0:Int)=(x_1.val:Int)/\True)/\(x.val=U3 a/\Z6 x.val (X2 a 1) (X2 a 1))/\(0=x_1.val/\Z6 0 (X2 a 0) (X2 a (2+2*U3 a)))/\(2=2/\zE (v9 [some 0,some 1,some 2]) 2 (λ(r:Nat)=>match r with|0=>[T.osl 0 0 x.val]|x=>[T.osl 1 0 0]) λ(r:Nat)=>match r with|0=>[T.osl 0 0 (U3 a)]|x=>[T.osl 1 0 x_1.val])/\True)/\∀(x:{i:Nat//i<=y9 a}),(decide ((x.val:Int)<(↑(y9 a):Int))=true->W4 (1:Int) 2/\Lt 1 2/\W4 ((2:Int)+(2:Int)*(↑(U3 a):Int)+(2:Int)*(x.val:Int)) a.length/\X4 .i64 ((2:Int)+(2:Int)*(↑(U3 a):Int)+(2:Int)*(x.val:Int)+(1:Int))/\W4 ((2:Int)+(2:Int)*(↑(U3 a):Int)+(2:Int)*(x.val:Int)+(1:Int)) a.length/\(Le 1 1/\Le x.val x.val/\V6 x.val 1 16)/\W4 (1:Int) 2/\Lt 1 2/\X4 .i64 ((2:Int)+(2:Int)*(↑(U3 a):Int)+(2:Int)*(x.val:Int)+(2:Int))/\X4 .i64 ((x.val:Int)+(1:Int))/\∃(y:{i:Nat//i<=y9 a}),((a=a/\(0=0/\2=2)/\(2:Int)+(2:Int)*(↑(U3 a):Int)+(2:Int)*(x.val:Int)+(2:Int)=(2:Int)+(2:Int)*(↑(U3 a):Int)+(2:Int)*(y.val:Int)/\(1:Int)=(1:Int)/\(↑(y9 a):Int)=(↑(y9 a):Int)/\(x.val:Int)+(1:Int)=(y.val:Int)/\True)/\(U3 a=U3 a/\Z6 (U3 a) (X2 a 1) (X2 a 1))/\(x.val+1=y.val/\Z6 (x.val+1) (W6 (X2 a (2+2*U3 a)) x.val λ(k:Nat)=>List.take 2 (List.drop (k*2) [T.int .i64 (IntKind.i64.wrap (↑(a.getD ((2:Int)+(2:Int)*(↑(U3 a):Int)+(2:Int)*(x.val:Int)).toNat (0:UInt8)).toNat:Int)),T.int .i64 (IntKind.i64.wrap (↑(a.getD ((2:Int)+(2:Int)*(↑(U3 a):Int)+(2:Int)*(x.val:Int)+(1:Int)).toNat (0:UInt8)).toNat:Int))])) (X2 a (2+2*U3 a)))/\(2=2/\zE (v9 [some 0,some 4,some 2]) 2 (setRow (λ(r:Nat)=>match r with|0=>[T.osl 0 0 (U3 a)]|x_1=>[T.osl 1 0 x.val]) 1 0 [T.osl 4 0 (x.val+1)]) λ(r:Nat)=>match r with|0=>[T.osl 0 0 (U3 a)]|x=>[T.osl 1 0 y.val])/\True)/\Lt (y9 a-y.val) (y9 a-x.val))/\(decide ((x.val:Int)<(↑(y9 a):Int))=false->X4 .i64 (2:Int)/\(false=true->(decide ((2:Int)+(2:Int)*(↑(U3 a):Int)+(2:Int)*(x.val:Int)≥(a.length:Int))=true->W4 (0:Int) 2/\Lt 0 2/\W4 (1:Int) 2/\Lt 1 2/\(Le (0+U3 a) (U3 a)/\Le (0+x.val) x.val)/\(U3 a=zU a/\Z6 (U3 a) (X2 a 1) (X2 a 1))/\(x.val=w7 a/\Z6 x.val (X2 a (2+2*U3 a)) (X2 a (2+2*U3 a)))/\false=xS a/\True)/\(decide ((2:Int)+(2:Int)*(↑(U3 a):Int)+(2:Int)*(x.val:Int)≥(a.length:Int))=false->W4 ((2:Int)+(2:Int)*(↑(U3 a):Int)+(2:Int)*(x.val:Int)) a.length/\X4 .i64 ((2:Int)+(2:Int)*(↑(U3 a):Int)+(2:Int)*(x.val:Int)+(1:Int))/\X4 .i64 ((2:Int)*IntKind.i64.wrap (↑(a.getD ((2:Int)+(2:Int)*(↑(U3 a):Int)+(2:Int)*(x.val:Int)).toNat (0:UInt8)).toNat:Int))/\X4 .i64 ((2:Int)+(2:Int)*(↑(U3 a):Int)+(2:Int)*(x.val:Int)+(1:Int)+(2:Int)*IntKind.i64.wrap (↑(a.getD ((2:Int)+(2:Int)*(↑(U3 a):Int)+(2:Int)*(x.val:Int)).toNat (0:UInt8)).toNat:Int))/\(decide ((2:Int)+(2:Int)*(↑(U3 a):Int)+(2:Int)*(x.val:Int)+(1:Int)+(2:Int)*IntKind.i64.wrap (↑(a.getD ((2:Int)+(2:Int)*(↑(U3 a):Int)+(2:Int)*(x.val:Int)).toNat (0:UInt8)).toNat:Int)>(a.length:Int))=true->W4 (0:Int) 2/\Lt 0 2/\W4 (1:Int) 2/\Lt 1 2/\(Le (0+U3 a) (U3 a)/\Le (0+x.val) x.val)/\(U3 a=zU a/\Z6 (U3 a) (X2 a 1) (X2 a 1))/\(x.val=w7 a/\Z6 x.val (X2 a (2+2*U3 a)) (X2 a (2+2*U3 a)))/\false=xS a/\True)/\(decide ((2:Int)+(2:Int)*(↑(U3 a):Int)+(2:Int)*(x.val:Int)+(1:Int)+(2:Int)*IntKind.i64.wrap (↑(a.getD ((2:Int)+(2:Int)*(↑(U3 a):Int)+(2:Int)*(x.val:Int)).toNat (0:UInt8)).toNat:Int)>(a.length:Int))=false->(∃(x_1:{i:Nat//i<=y9 a}),(a=a/\(0=0/\2=2)/\(2:Int)+(2:Int)*(↑(U3 a):Int)+(2:Int)*(x.val:Int)+(1:Int)=(2:Int)+(2:Int)*(↑(U3 a):Int)+(2:Int)*(x_1.val:Int)/\(2:Int)=(1:Int)/\IntKind.i64.wrap (↑(a.getD ((2:Int)+(2:Int)*(↑(U3 a):Int)+(2:Int)*(x.val:Int)).toNat (0:UInt8)).toNat:Int)=(↑(y9 a):Int)/\(0:Int)=(x_1.val:Int)/\True)/\(U3 a=U3 a/\Z6 (U3 a) (X2 a 1) (X2 a 1))/\(x.val=x_1.val/\Z6 x.val (X2 a (2+2*U3 a)) (X2 a (2+2*U3 a)))/\(2=2/\zE (v9 [some 0,some 1,some 2]) 2 (λ(r:Nat)=>match r with|0=>[T.osl 0 0 (U3 a)]|x_2=>[T.osl 1 0 x.val]) λ(r:Nat)=>match r with|0=>[T.osl 0 0 (U3 a)]|x=>[T.osl 1 0 x_1.val])/\True)/\∀(x:{i:Nat//i<=y9 a}),(decide ((x.val:Int)<(↑(y9 a):Int))=true->W4 (1:Int) 2/\Lt 1 2/\W4 ((2:Int)+(2:Int)*(↑(U3 a):Int)+(2:Int)*(x.val:Int)) a.length/\X4 .i64 ((2:Int)+(2:Int)*(↑(U3 a):Int)+(2:Int)*(x.val:Int)+(1:Int))/\W4 ((2:Int)+(2:Int)*(↑(U3 a):Int)+(2:Int)*(x.val:Int)+(1:Int)) a.length/\(Le 1 1/\Le x.val x.val/\V6 x.val 1 16)/\W4 (1:Int) 2/\Lt 1 2/\X4 .i64 ((2:Int)+(2:Int)*(↑(U3 a):Int)+(2:Int)*(x.val:Int)+(2:Int))/\X4 .i64 ((x.val:Int)+(1:Int))/\∃(y:{i:Nat//i<=y9 a}),((a=a/\(0=0/\2=2)/\(2:Int)+(2:Int)*(↑(U3 a):Int)+(2:Int)*(x.val:Int)+(2:Int)=(2:Int)+(2:Int)*(↑(U3 a):Int)+(2:Int)*(y.val:Int)/\(1:Int)=(1:Int)/\(↑(y9 a):Int)=(↑(y9 a):Int)/\(x.val:Int)+(1:Int)=(y.val:Int)/\True)/\(U3 a=U3 a/\Z6 (U3 a) (X2 a 1) (X2 a 1))/\(x.val+1=y.val/\Z6 (x.val+1) (W6 (X2 a (2+2*U3 a)) x.val λ(k:Nat)=>List.take 2 (List.drop (k*2) [T.int .i64 (IntKind.i64.wrap (↑(a.getD ((2:Int)+(2:Int)*(↑(U3 a):Int)+(2:Int)*(x.val:Int)).toNat (0:UInt8)).toNat:Int)),T.int .i64 (IntKind.i64.wrap (↑(a.getD ((2:Int)+(2:Int)*(↑(U3 a):Int)+(2:Int)*(x.val:Int)+(1:Int)).toNat (0:UInt8)).toNat:Int))])) (X2 a (2+2*U3 a)))/\(2=2/\zE (v9 [some 0,some 4,some 2]) 2 (setRow (λ(r:Nat)=>match r with|0=>[T.osl 0 0 (U3 a)]|x_1=>[T.osl 1 0 x.val]) 1 0 [T.osl 4 0 (x.val+1)]) λ(r:Nat)=>match r with|0=>[T.osl 0 0 (U3 a)]|x=>[T.osl 1 0 y.val])/\True)/\Lt (y9 a-y.val) (y9 a-x.val))/\(decide ((x.val:Int)<(↑(y9 a):Int))=false->X4 .i64 (2:Int)/\False))))/\(false=false->W4 (0:Int) 2/\Lt 0 2/\W4 (1:Int) 2/\Lt 1 2/\(Le (0+U3 a) (U3 a)/\Le (0+x.val) x.val)/\(U3 a=zU a/\Z6 (U3 a) (X2 a 1) (X2 a 1))/\(x.val=w7 a/\Z6 x.val (X2 a (2+2*U3 a)) (X2 a (2+2*U3 a)))/\((2:Int)+(2:Int)*(↑(U3 a):Int)+(2:Int)*(x.val:Int)==(a.length:Int))=xS a/\True)))))/\(true=false->W4 (0:Int) 2/\Lt 0 2/\W4 (1:Int) 2/\Lt 1 2/\(Le (0+x.val) x.val/\Le 0 0)/\(x.val=zU a/\Z6 x.val (X2 a 1) (X2 a 1))/\(0=w7 a/\Z6 0 (X2 a 0) (X2 a (2+2*U3 a)))/\((1:Int)+(2:Int)*(x.val:Int)==(a.length:Int))=xS a/\True)))))/\(true=false->W4 (0:Int) 2/\Lt 0 2/\W4 (1:Int) 2/\Lt 1 2/\(Le 0 0/\Le 0 0)/\(0=zU a/\Z6 0 (λ(k:Nat)=>List.take 2 (List.drop (k*2) [])) (X2 a 1))/\(0=w7 a/\Z6 0 (λ(k:Nat)=>List.take 2 (List.drop (k*2) [])) (X2 a (2+2*U3 a)))/\((0:Int)==(a.length:Int))=xS a/\True)) ?_
 simp only[z9,W4,Lt,Le,V6,qE];simp only[h0];refine⟨λ_=>⟨λhz=> ?_,λhz=> ?_⟩,λh=>by cases h⟩
 ·have hz':¬0<a.length:=by simp at hz;simp[hz]
  refine⟨by omega,by omega,by omega,by omega,by omega,⟨by simp[zU,hz'],none0 _ _⟩,⟨by simp[w7,hz'],none0 _ _⟩,by simp[xS,hz'],trivial⟩
 have hz':0<a.length:=by simp at hz;exact List.length_pos_iff.2 hz
 refine⟨⟨by omega,by omega⟩,by omega,by omega,by omega,λhgt=> ?_,λhle=> ?_⟩
 ·have hgt':¬1+2*U3 a<=a.length:=by simp at hgt;omega
  have hgt'':¬1+2*U3 a<a.length:=by omega
  refine⟨by omega,by omega,by omega,by omega,by omega,⟨by simp[zU,hgt'],none0 _ _⟩,⟨by simp[w7,hgt''],none0 _ _⟩,by simp[xS,hgt''],trivial⟩
 have hle':1+2*U3 a<=a.length:=by simp at hle;omega
 have e0:zU a=U3 a:=by simp[zU,hz',hle']
 refine⟨⟨⟨0,S7 _⟩,⟨trivial,v5,rfl,trivial,trivial,Z9⟩,⟨rfl,none0 _ _⟩,⟨trivial,none0 _ _⟩,⟨trivial,two rfl rfl⟩,trivial⟩,λx=>⟨λhx=> ?_,λhx=> ?_⟩⟩
 ·have hx':x.val<U3 a:=by simpa using hx
  rw[show(1+2*(x.val:Int)).toNat=1+2*x.val by omega,show(1+2*(x.val:Int)+1).toNat=1+2*x.val+1 by omega]
  refine⟨by omega,by omega,by omega,by omega,by omega,by omega,by omega,by omega,by omega,by omega,⟨x.val+1,hx'⟩,⟨⟨trivial,v5,by simp only;omega,trivial,trivial,by simp only;omega,trivial⟩,⟨rfl,qG 1 _⟩,⟨trivial,none0 _ _⟩,⟨trivial,two rfl rfl⟩,trivial⟩,by simp only;omega⟩
 have hx':x.val=U3 a:=by have:=x.2;simp at hx;omega
 rw[hx',t0,h1];refine⟨by omega,λ_=>⟨λhz1=> ?_,λhz1=>⟨?_,by omega,by omega,by omega,λhg1=> ?_,λhl1=> ?_⟩⟩,λh=>by cases h⟩
 ·have hz1':¬1+2*U3 a<a.length:=by simp at hz1;omega
  refine⟨by omega,by omega,by omega,by omega,by omega,⟨e0.symm,refl0 _ _⟩,⟨by simp[w7,hz1'],none0 _ _⟩,by simp[xS,hz1'],trivial⟩
 ·simp at hz1;omega
 ·have hz1':1+2*U3 a<a.length:=by simp at hz1;omega
  have hg1':¬2+2*U3 a+2*y9 a<=a.length:=by simp at hg1;omega
  have hg1'':¬2+2*U3 a+2*y9 a=a.length:=by omega
  refine⟨by omega,by omega,by omega,by omega,by omega,⟨e0.symm,refl0 _ _⟩,⟨by simp[w7,hg1'],none0 _ _⟩,by simp[xS,hg1''],trivial⟩
 have hz1':1+2*U3 a<a.length:=by simp at hz1;omega
 have hl1':2+2*U3 a+2*y9 a<=a.length:=by simp at hl1;omega
 have e1:w7 a=y9 a:=by simp[w7,hz',hz1',hl1']
 refine⟨⟨⟨0,S7 _⟩,⟨trivial,v5,by simp only;omega,trivial,rfl,rfl,trivial⟩,⟨rfl,refl0 _ _⟩,⟨rfl,none0 _ _⟩,⟨trivial,two rfl rfl⟩,trivial⟩,λy=>⟨λhy=> ?_,λhy=> ?_⟩⟩
 ·have hy':y.val<y9 a:=by simpa using hy
  rw[show(2+2*(U3 a:Int)+2*(y.val:Int)).toNat=2+2*U3 a+2*y.val by omega,show(2+2*(U3 a:Int)+2*(y.val:Int)+1).toNat=2+2*U3 a+2*y.val+1 by omega]
  refine⟨by omega,by omega,by omega,by omega,by omega,by omega,by omega,by omega,by omega,by omega,⟨y.val+1,hy'⟩,⟨⟨trivial,v5,by simp only;omega,trivial,trivial,by simp only;omega,trivial⟩,⟨trivial,refl0 _ _⟩,⟨rfl,qG _ _⟩,⟨trivial,two rfl rfl⟩,trivial⟩,by simp only;omega⟩
 have hy':y.val=y9 a:=by have:=y.2;simp at hy;omega
 rw[hy'];refine⟨by omega,(λh=>by cases h),λ_=>⟨by omega,by omega,by omega,by omega,by omega,⟨e0.symm,refl0 _ _⟩,⟨e1.symm,refl0 _ _⟩,?_,trivial⟩⟩
 unfold xS;rw[Bool.eq_iff_iff,beq_iff_eq,o9];omega
end Go.Proofs.YtokaojbaacnngaaGreat

