/- A part of the proof. -/
import Derived.Test.YtghgljelnhfihaaGreatW3
import Derived.Test.YtghgljelnhfihaaGreatF0F1F2
import Derived.Test.YtghgljelnhfihaaGreatSSW
import Derived.Test.YtghgljelnhfihaaGreatRows
import Derived.WalkKit
import Derived.ProofKit
import Derived.JoinedOf
import Derived.Handed
import Derived.WideWitness
namespace Go.Proofs.YtghgljelnhfihaaGreat
set_option maxRecDepth 100000
open Go.SS

def A0(L:List Rec)(T:List Txn):Nat->Nat
 |0=>0
 |k+1=>A0 L T k+(1+und L 61 (T.getD k dz).Z)
def C4(e:Eng):Nat:=A0 e.s.L e.X e.X.length
def uK(e:Eng):Prop:=q8 e.s.L/\e.X.length<=10/\∀i,i<e.X.length->(e.X.getD i dz).Z<=(e.s.L.length:Int)
theorem jG(L:List Rec)(T:List Txn):∀k,A0 L T k<=62*k:=by
 intro k;induction k with
 |zero=>exact W4 0
 |succ k ih=>unfold A0;have:=bH L 61 (T.getD k dz).Z;omega
def b3V:Con:=.rel ⟨Eng,λe=>[.bref e.ts],λe=>.int .i64 (C4 e),uK⟩
def b3e(e:Eng):Nat->Ann
 |0=>.one {i:Nat//i<=e.X.length} (λx=>⟨[(0,.bref e.ts),(3,.int .i64 (A0 e.s.L e.X x.1)),(9,a4a e.X),(10,.int .i64 e.X.length),(11,.int .i64 x.1)],[]⟩) (λx=>e.X.length-x.1) [] [] (λ_=>Y5)
 |_=>.none
theorem a3b{L:List Rec}{T:List Txn}{i:Nat}:((A0 L T i:Nat):Int)+((1+und L 61 (T.getD i dz).Z:Nat):Int)=(A0 L T (i+1):Nat):=by
 conv=>rhs;unfold A0
 omega
theorem eH:GK 46 b3V:=gk Tryz.func46<|by
 rintro(e:Eng) ⟨hL,h10,hb⟩;refine Q5 (gC a8J gN) Tryz.func46 (b3e e) (α:=let z:=(T.bref e.ts);let p:=(e.X.length:Int);(∃(x:{i:Nat//i<=e.X.length}),(L4 (λ(x:Nat)=>none) z z/\0=(↑(A0 e.s.L e.X x.val):Int)/\(Y8 X0 e.X e.X)/\p=p/\0=(x.val:Int)/\True)/\True)/\∀(x:{i:Nat//i<=e.X.length}),let r:=(x.val:Int);let q:=(↑(A0 e.s.L e.X x.val):Int);(decide (r<p)=true->V3 r e.X.length/\∃(x_1:(Sto×Int)),let u:=(↑(1+und x_1.1.L 61 x_1.2):Int);(((yL e.s x_1.1)/\(e.X.getD r.toNat dz).Z=x_1.2/\True)/\oL x_1.1.L x_1.2)/\W7 .i64 (q+u)/\W7 .i64 (r+1)/\∃(y:{i:Nat//i<=e.X.length}),((L4 (λ(x:Nat)=>none) z z/\q+u=(↑(A0 e.s.L e.X y.val):Int)/\(Y8 X0 e.X e.X)/\p=p/\r+1=(y.val:Int)/\True)/\True)/\Lt (e.X.length-y.val) (e.X.length-x.val))/\(decide (r<p)=false->q=(↑(C4 e):Int))) ⟨⟨⟨0,S7 _⟩,⟨R2 _,rfl,Z7,rfl,Z9⟩,trivial⟩,λx=>⟨λhc=> ?_,λhc=> ?_⟩⟩
 ·have hlt:=X6 hc;have h1:=jG e.s.L e.X x.val;have h2:=bH e.s.L 61 (e.X.getD x.val dz).Z;refine⟨X8 hlt,(e.s,(e.X.getD x.val dz).Z),⟨⟨(zE _),Z9⟩,hL,hb _ hlt⟩,Z4 (by dsimp only;omega),U5 hlt (by omega),⟨x.val+1,hlt⟩,⟨⟨R2 _,a3b,⟨rfl,Z2 _ _⟩,rfl,by dsimp only;omega,trivial⟩,trivial⟩,V1.ext_lt hlt⟩
 ·have hx:x.val=e.X.length:=by have:=x.2;have:=X4 hc;omega
  rw[hx];rfl
def a8q:Con:=.rel ⟨Eng×Int,λx=>[.bref x.1.ts,.int .i64 x.2],λx=>.bool (decide ((x.1.s.L.length:Int)+C4 x.1+x.2<=60)),λx=>uK x.1/\l8 x.2⟩
theorem a3n:GK 110 a8q:=gk Tryz.func110<|by
 rintro⟨e,m⟩ ⟨hn,h1,h2⟩;dsimp only at hn h1 h2;have hb:=jG e.s.L e.X e.X.length;have hb2:=hn.2.1;have hb3:=hn.1.1;have he:C4 e=A0 e.s.L e.X e.X.length:=rfl;exact Q5 (gC eH gN) Tryz.func110 Y5 (α:=let p:=(e.s.L.length:Int);∃(x:Eng),let q:=(↑(C4 x):Int);(((R8 e x)/\True)/\uK x)/\W7 .i64 (p+q)/\W7 .i64 (p+q+m)/\decide (p+q+m<=60)=decide (p+(↑(C4 e):Int)+m<=60)) ⟨e,⟨⟨(R4 _),trivial⟩,hn⟩,Z4 (by omega),Z4 (by omega),rfl⟩
def aL:Con:=.rel ⟨Eng,λe=>[.agg e.ts],λe=>.int .i64 (C4 e),uK⟩
def aX(e:Eng):Nat->Ann
 |0=>.one {i:Nat//i<=e.X.length} (λx=>⟨[(1,.ref 0 0 0),(3,.int .i64 (A0 e.s.L e.X x.1)),(4,.int .i64 x.1)],[B9 e]⟩) (λx=>e.X.length-x.1) [.box 0] [.box 0] (λ_=>Y5)
 |_=>.none
theorem m8:GK 48 aL:=gk Tryz.func48<|by
 rintro(e:Eng) ⟨hL,h10,hb⟩;refine Q5 (gC a4Q gN) Tryz.func48 (aX e) (α:=let u:=(1=1/\1=1/\R8 e e);(∃(x:{i:Nat//i<=e.X.length}),((0=0/\0=0)/\0=(↑(A0 e.s.L e.X x.val):Int)/\0=(x.val:Int)/\True)/\u/\True)/\∀(x:{i:Nat//i<=e.X.length}),let q:=(x.val:Int);let z:=(q<(e.X.length:Int));let p:=(↑(A0 e.s.L e.X x.val):Int);(decide z=true->V3 q e.X.length/\∃(x_1:(Sto×Int)),let r:=(↑(1+und x_1.1.L 61 x_1.2):Int);(((yL e.s x_1.1)/\(e.X.getD q.toNat dz).Z=x_1.2/\True)/\oL x_1.1.L x_1.2)/\W7 .i64 (p+r)/\W7 .i64 (q+1)/\∃(y:{i:Nat//i<=e.X.length}),(((0=0/\0=0)/\p+r=(↑(A0 e.s.L e.X y.val):Int)/\q+1=(y.val:Int)/\True)/\u/\True)/\Lt (e.X.length-y.val) (e.X.length-x.val))/\(decide z=false->p=(↑(C4 e):Int))) ⟨⟨⟨0,S7 _⟩,⟨Z8,rfl,Z9⟩,⟨rfl,rfl,R4 _⟩,trivial⟩,λx=>⟨λhc=> ?_,λhc=> ?_⟩⟩
 ·have hlt:=X6 hc;have h1:=jG e.s.L e.X x.val;have h2:=bH e.s.L 61 (e.X.getD x.val dz).Z;refine⟨X8 hlt,(e.s,(e.X.getD x.val dz).Z),⟨⟨(zE _),Z9⟩,hL,hb _ hlt⟩,Z4 (by dsimp only;omega),U5 hlt (by omega),⟨x.val+1,hlt⟩,⟨⟨⟨rfl,rfl⟩,a3b,by dsimp only;omega,trivial⟩,⟨rfl,rfl,R4 _⟩,trivial⟩,V1.ext_lt hlt⟩
 ·have hx:x.val=e.X.length:=by have:=x.2;have:=X4 hc;omega
  rw[hx];rfl
def eQ(L:List Rec)(r:Rec):Bool:=decide (r.n>0)&&((Z3 L r.n).t==r.t)&&decide ((Z3 L r.n).k<=3)
def a7V:Con:=.rel ⟨Sto×Rec,λx=>[.agg x.1.ts,.agg x.2.ts],λx=>.bool (eQ x.1.L x.2),λx=>x.2.n<=(x.1.L.length:Int)/\O6 x.1.L.length⟩
theorem a5y:GK 99 a7V:=gk Tryz.func99<|by
 rintro⟨s,r⟩ ⟨h1,h2⟩;have h2:s.L.length<1000000000000:=h2;dsimp only at h1;have k1:decide (r.n>(0:Int))=true->W7 .i64 (r.n-1)/\V3 (r.n-1) s.L.length:=λh=>by
  have h:=C7 h;exact⟨Z4 (by omega),by omega,by omega⟩
 exact Q5 gN Tryz.func99 Y5 (α:=let p:=(s.L.getD (r.n-1).toNat dz);let q:=(decide (r.n>0)&&p.t==r.t);(decide (r.n>0)=true->W7 .i64 (r.n-1))/\(decide (r.n>0)=true->V3 (r.n-1) s.L.length)/\(q=true->W7 .i64 (r.n-1))/\(q=true->V3 (r.n-1) s.L.length)/\(decide (r.n>0)&&p.t==r.t&&decide (p.k<=3))=eQ s.L r) ⟨λh=>(k1 h).1,λh=>(k1 h).2,λh=>(k1 (Bool.and_eq_true_iff.1 h).1).1,λh=>(k1 (Bool.and_eq_true_iff.1 h).1).2,rfl⟩
def yZ(e:Eng)(i:Nat):Bool:=decide (U4 e.X (e.lk.H.getD i dz).tx<0)
def B2(e:Eng)(i:Nat):Bool:=decide (U4 e.X (e.lk.W.getD i dz).tx<0)||decide (U4 e.X (e.lk.W.getD i dz).fo<0)
def TxL(e:Eng):Prop:=O6 e.X.length
def a18:Con:=.rel ⟨Eng×Lck,λx=>[.agg x.2.ts,.bref [.bref x.1.ts]],λx=>.bool (decide (U4 x.1.X x.2.tx<0)),λx=>TxL x.1⟩
theorem a26(e:Eng)(l:Lck)(h:
  ∃(x:(Eng×Int)),(((R8 e x.1)/\l.tx=x.2/\True)/\O6 x.1.X.length)/\decide (U4 x.1.X x.2<(0:Int))=decide (U4 e.X l.tx<(0:Int))):
  U1 Tryz.prog 148 [.agg l.ts,.bref [.bref e.ts]] (.bool (decide (U4 e.X l.tx<0))):=
 Q5 (gC tP gN) Tryz.func148 Y5 h
theorem cD:GK 148 a18:=gk Tryz.func148<|λx h=>a26 x.1 x.2 ⟨(x.1,x.2.tx),⟨⟨(R4 _),Z9⟩,h⟩,rfl⟩
def a0W:Con:=.rel ⟨Eng×Wt,λx=>[.agg x.2.ts,.bref [.bref x.1.ts]],λx=>.bool (decide (U4 x.1.X x.2.tx<0)||decide (U4 x.1.X x.2.fo<0)),λx=>TxL x.1⟩
theorem a2D(e:Eng)(l:Wt)(h:
  ∃(x:(Eng×Int)),(((R8 e x.1)/\l.tx=x.2/\True)/\O6 x.1.X.length)/\∃(x_1:(Eng×Int)),(decide (U4 x.1.X x.2<(0:Int))=false->((R8 e x_1.1)/\l.fo=x_1.2/\True)/\O6 x_1.1.X.length)
  /\(decide (U4 x.1.X x.2<(0:Int))||decide (U4 x_1.1.X x_1.2<(0:Int)))=(decide (U4 e.X l.tx<(0:Int))||decide (U4 e.X l.fo<(0:Int)))):
  U1 Tryz.prog 150 [.agg l.ts,.bref [.bref e.ts]] (.bool (decide (U4 e.X l.tx<0)||decide (U4 e.X l.fo<0))):=
 Q5 (gC tP gN) Tryz.func150 Y5 h
theorem aR:GK 150 a0W:=gk Tryz.func150<|λx h=>a2D x.1 x.2 ⟨(x.1,x.2.tx),⟨⟨(R4 _),Z9⟩,h⟩,(x.1,x.2.fo),λ_=>⟨⟨(R4 _),Z9⟩,h⟩,rfl⟩
def eF1(e:Eng):T:=.fn (.func 148) [.bref [.bref e.ts]]
def eF2(e:Eng):T:=.fn (.func 150) [.bref [.bref e.ts]]
def HlL(e:Eng):Prop:=TxL e/\O6 e.lk.H.length/\O6 e.lk.W.length
def a75:Con:=.rel ⟨Eng,λe=>[jQ e.lk.H,eF1 e],λe=>.int .i64 (P9 e.lk.H.length (yZ e)),HlL⟩
def a8X(e:Eng):Nat->Ann
 |0=>.one (V1 e.lk.H.length (yZ e)) (λx=>⟨[(0,jQ e.lk.H),(1,eF1 e),(7,.int .i64 e.lk.H.length),(8,.int .i64 x.1)],[]⟩) (λx=>e.lk.H.length-x.1) [] [] (λ_=>Y5)
 |_=>.none
theorem a5r:GK 249 a75:=gk Tryz.func249<|by
 rintro(e:Eng) ⟨ht,h1,h2⟩;have h1:e.lk.H.length<1000000000000:=h1;have h2:e.lk.W.length<1000000000000:=h2;refine Q5 (gC cD gN) Tryz.func249 (a8X e) (α:=let v:=(Y8 Y7 e.lk.H e.lk.H);let r:=(T.bref [T.bref e.ts]);let q:=(e.lk.H.length:Int);(∃(x:V1 e.lk.H.length (yZ e)),(v/\(Fn.func 148=Fn.func 148/\L4 (λ(x:Nat)=>none) r r/\True)/\q=q/\0=(x.val:Int)/\True)/\True)/\∀(x:V1 e.lk.H.length (yZ e)),let z:=(x.val:Int);let p:=(e.lk.H.getD z.toNat dz);(decide (z<q)=true->V3 z e.lk.H.length/\∃(x_1:(Eng×Lck)),let u:=(U4 x_1.1.X x_1.2.tx<0);(((p.tx=x_1.2.tx/\p.ta=x_1.2.ta/\p.row=x_1.2.row/\p.mo=x_1.2.mo/\True)/\((R8 e x_1.1)/\True)/\True)/\TxL x_1.1)/\(decide u=true->z=P9 e.lk.H.length (yZ e))/\(decide u=false->W7 .i64 (z+1)/\∃(y:V1 e.lk.H.length (yZ e)),((v/\(Fn.func 148=Fn.func 148/\L4 (λ(x:Nat)=>none) r r/\True)/\q=q/\z+1=(y.val:Int)/\True)/\True)/\Lt (e.lk.H.length-y.val) (e.lk.H.length-x.val)))/\(decide (z<q)=false->(-1:Int)=P9 e.lk.H.length (yZ e))) ⟨⟨F7,⟨Z7,⟨rfl,R2 _,trivial⟩,rfl,Z9⟩,trivial⟩,λx=>⟨λhc=> ?_,λhc=> ?_⟩⟩
 ·have hlt:=X6 hc;refine⟨X8 hlt,(e,e.lk.H.getD x.val dz),⟨⟨⟨rfl,rfl,rfl,Z9⟩,⟨(R4 _),trivial⟩,trivial⟩,ht⟩,λhp=>(M6 hlt hp x.2.2).symm,λhp=>⟨U5 hlt (by omega),x.succ hlt hp,⟨⟨Z7,⟨rfl,R2 _,trivial⟩,rfl,by simp only[V1.succ];omega,trivial⟩,trivial⟩,V1.ext_lt hlt⟩⟩
 ·have hge:=X4 hc;exact(J1 λj hj=>x.2.2 j (wM hj hge)).symm
def a8y:Con:=.rel ⟨Eng,λe=>[jQ e.lk.H,eF1 e],λe=>.bool (anyI e.lk.H.length (yZ e)),HlL⟩
theorem a7X(e:Eng)(h:
  ∃(x:Eng),(((Y8 Y7 e.lk.H x.lk.H)/\(Fn.func 148=Fn.func 148/\((R8 e x)/\True)/\True)/\True)/\HlL x)/\decide (P9 x.lk.H.length (yZ x)≥(0:Int))=anyI e.lk.H.length (yZ e)):
  U1 Tryz.prog 147 [jQ e.lk.H,eF1 e] (.bool (anyI e.lk.H.length (yZ e))):=
 Q5 (gC a5r gN) Tryz.func147 Y5 h
theorem a49:GK 147 a8y:=gk Tryz.func147<|λ(e:Eng) h=>a7X e ⟨e,⟨⟨Z7,⟨rfl,⟨(R4 _),trivial⟩,trivial⟩,trivial⟩,h⟩,A5 _ _⟩
def b2Y:Con:=.rel ⟨Eng,λe=>[wtS e.lk.W,eF2 e],λe=>.int .i64 (P9 e.lk.W.length (B2 e)),HlL⟩
def b0A(e:Eng):Nat->Ann
 |0=>.one (V1 e.lk.W.length (B2 e)) (λx=>⟨[(0,wtS e.lk.W),(1,eF2 e),(7,.int .i64 e.lk.W.length),(8,.int .i64 x.1)],[]⟩) (λx=>e.lk.W.length-x.1) [] [] (λ_=>Y5)
 |_=>.none
theorem a9E:GK 250 b2Y:=gk Tryz.func250<|by
 rintro(e:Eng) ⟨ht,h1,h2⟩;have h1:e.lk.H.length<1000000000000:=h1;have h2:e.lk.W.length<1000000000000:=h2;refine Q5 (gC aR gN) Tryz.func250 (b0A e) (α:=let v:=(Y8 Y0 e.lk.W e.lk.W);let z:=(T.bref [T.bref e.ts]);let p:=(e.lk.W.length:Int);(∃(x:V1 e.lk.W.length (B2 e)),(v/\(Fn.func 150=Fn.func 150/\L4 (λ(x:Nat)=>none) z z/\True)/\p=p/\0=(x.val:Int)/\True)/\True)/\∀(x:V1 e.lk.W.length (B2 e)),let q:=(x.val:Int);let u:=(e.lk.W.getD q.toNat dz);(decide (q<p)=true->V3 q e.lk.W.length/\∃(x_1:(Eng×Wt)),let r:=(decide (U4 x_1.1.X x_1.2.tx<0)||decide (U4 x_1.1.X x_1.2.fo<0));(((u.tx=x_1.2.tx/\u.fo=x_1.2.fo/\True)/\((R8 e x_1.1)/\True)/\True)/\TxL x_1.1)/\(r=true->q=P9 e.lk.W.length (B2 e))/\(r=false->W7 .i64 (q+1)/\∃(y:V1 e.lk.W.length (B2 e)),((v/\(Fn.func 150=Fn.func 150/\L4 (λ(x:Nat)=>none) z z/\True)/\p=p/\q+1=(y.val:Int)/\True)/\True)/\Lt (e.lk.W.length-y.val) (e.lk.W.length-x.val)))/\(decide (q<p)=false->(-1:Int)=P9 e.lk.W.length (B2 e))) ⟨⟨F7,⟨Z7,⟨rfl,R2 _,trivial⟩,rfl,Z9⟩,trivial⟩,λx=>⟨λhc=> ?_,λhc=> ?_⟩⟩
 ·have hlt:=X6 hc;refine⟨X8 hlt,(e,e.lk.W.getD x.val dz),⟨⟨⟨rfl,Z9⟩,⟨(R4 _),trivial⟩,trivial⟩,ht⟩,λhp=>(M6 hlt hp x.2.2).symm,λhp=>⟨U5 hlt (by omega),x.succ hlt hp,⟨⟨Z7,⟨rfl,R2 _,trivial⟩,rfl,by simp only[V1.succ];omega,trivial⟩,trivial⟩,V1.ext_lt hlt⟩⟩
 ·have hge:=X4 hc;exact(J1 λj hj=>x.2.2 j (wM hj hge)).symm
def b0Y:Con:=.rel ⟨Eng,λe=>[wtS e.lk.W,eF2 e],λe=>.bool (anyI e.lk.W.length (B2 e)),HlL⟩
theorem b1a(e:Eng)(h:
  ∃(x:Eng),(((Y8 Y0 e.lk.W x.lk.W)/\(Fn.func 150=Fn.func 150/\((R8 e x)/\True)/\True)/\True)/\HlL x)/\decide (P9 x.lk.W.length (B2 x)≥(0:Int))=anyI e.lk.W.length (B2 e)):
  U1 Tryz.prog 149 [wtS e.lk.W,eF2 e] (.bool (anyI e.lk.W.length (B2 e))):=
 Q5 (gC a9E gN) Tryz.func149 Y5 h
theorem a7B:GK 149 b0Y:=gk Tryz.func149<|λ(e:Eng) h=>b1a e ⟨e,⟨⟨Z7,⟨rfl,⟨(R4 _),trivial⟩,trivial⟩,trivial⟩,h⟩,A5 _ _⟩
def D1(e:Eng)(i:Nat):Bool:= !V9 (e.X.getD i dz).id 1 (e.N-1)||(decide ((i:Int)>0)&&decide ((e.X.getD (i-1) dz).id≥(e.X.getD i dz).id))|| !sN e.s.L (e.X.getD i dz)
def xY(e:Eng):Bool:=decide (e.X.length<=10)&&V9 e.N 1 61&&K0 e.lk
def a1X(e:Eng):Bool:=decide (e.X.length+e.lk.H.length+e.lk.W.length+e.s.fr.length=0)
def upE(e:Eng):Bool:= !anyI e.X.length (D1 e)&& !anyI e.lk.H.length (yZ e)&& !anyI e.lk.W.length (B2 e)&&decide (e.s.L.length+C4 e<=60)
def uW(e:Eng):Bool:=xY e&&(if e.up then upE e else a1X e)
def c0m(e:Eng):Prop:=q8 e.s.L/\b19 e.lk/\O6 e.X.length/\O6 e.s.fr.length
def a3x:Con:=.rel ⟨Eng,λe=>[.bref e.ts],λe=>.bool (uW e),c0m⟩
def b8i(e:Eng):Option Ob:=some (.arr true 1000000 1 1 λ_=>[.bref e.ts])
def a4k(e:Eng):Nat->Ann
 |0=>.one (V1 e.X.length (D1 e)) (λx=>⟨[(1,.ref 0 0 0),(62,a4a e.X),(63,.int .i64 e.X.length),(64,.int .i64 x.1)],[b8i e]⟩) (λx=>e.X.length-x.1) [.box 0] [.box 0] (λ_=>Y5)
 |_=>.none
theorem b2o(e:Eng):(decide ((e.X.length:Int)>10)|| !V9 e.N 1 61|| !K0 e.lk)= !xY e:=by
 unfold xY;rw[Bool.not_and,Bool.not_and,←decide_not];congr 2
 exact decide_eq_decide.2 (by omega)
theorem a6N{e:Eng}(h:xY e=false):uW e=false:=by unfold uW;rw[h];rfl
theorem a7f{e:Eng}(h:xY e=true)(hu:e.up=true):uW e=upE e:=by unfold uW;rw[h,if_pos hu];rfl
theorem a6t{e:Eng}(h:xY e=true)(hu:e.up=false):uW e=a1X e:=by unfold uW;rw[h,hu];rfl
theorem a5F{e:Eng}{i:Nat}(hi:i<e.X.length)(h:D1 e i=true):upE e=false:=by
 have:anyI e.X.length (D1 e)=true:=Q9.2 ⟨i,hi,h⟩;unfold upE;rw[this];rfl
theorem b8G{e:Eng}{i:Nat}(hi:i<e.lk.H.length)(h:yZ e i=true):upE e=false:=by
 have:anyI e.lk.H.length (yZ e)=true:=Q9.2 ⟨i,hi,h⟩;unfold upE;rw[this];simp
theorem b9n{e:Eng}{i:Nat}(hi:i<e.lk.W.length)(h:B2 e i=true):upE e=false:=by
 have:anyI e.lk.W.length (B2 e)=true:=Q9.2 ⟨i,hi,h⟩;unfold upE;rw[this];simp
theorem k8{e:Eng}(h:xY e=true):e.X.length<=10/\1<=e.N/\e.N<=61/\K0 e.lk=true:=by
 unfold xY at h;simp only[L3,k4,Q1] at h;exact⟨h.1.1,h.1.2.1,h.1.2.2,h.2⟩
theorem b62{e:Eng}(hL:q8 e.s.L)(h:xY e=true)(hb:∀i,i<e.X.length->D1 e i=false):uK e:=by
 refine⟨hL,(k8 h).1,λi hi=> ?_⟩
 have:=hb i hi;unfold D1 at this;simp only[yP,yT] at this;have:=this.2;unfold sN at this;simp only[L3,Q1] at this;exact this.1.2
theorem a1c:GK 72 a3x:=gk Tryz.func72<|by
 rintro(e:Eng) ⟨hL,hk,ht,hf⟩;have ht:e.X.length<1000000000000:=ht;have hf:e.s.fr.length<1000000000000:=hf;have hk1:e.lk.H.length<1000000000000:=hk.1;have hk2:e.lk.W.length<1000000000000:=hk.2;refine Q5 (gC M5 (gC a0T (gC a5n (gC a49 (gC a7B (gC a3n gN)))))) Tryz.func72 (a4k e) (α:=let f:=(e.s.fr.length:Int);let m:=(e.lk.W.length:Int);let w:=(e.lk.H.length:Int);let u:=(1=1/\1=1/\L4 (q9 [some 0]) (T.bref e.ts) (T.bref e.ts)/\True);let q:=(e.X.length:Int);∃(x:tS.ι),let j:=(decide (q>10)|| !V9 e.N (1:Int) (61:Int)|| !K0 x);((decide (q>10)|| !V9 e.N (1:Int) (61:Int))=false->(((Y8 Y7 e.lk.H x.H)/\(Y8 Y0 e.lk.W x.W)/\True)/\True)/\b19 x)/\(j=true->false=uW e)/\(j=false->((!e.up)=true->W7 .i64 (q+w)/\W7 .i64 (q+w+m)/\W7 .i64 (q+w+m+f)/\(q+w+m+f==0)=uW e)/\((!e.up)=false->(∃(x:V1 e.X.length (D1 e)),((0=0/\0=0)/\(Y8 X0 e.X e.X)/\q=q/\0=(x.val:Int)/\True)/\u/\True)/\∀(x:V1 e.X.length (D1 e)),let r:=(x.val:Int);let p:=(e.X.getD r.toNat dz);let n:=(!V9 p.id (1:Int) (e.N-1));let k:=((e.X.getD (r-1).toNat dz).id≥p.id);(decide (r<q)=true->V3 r e.X.length/\W7 .i64 (e.N-1)/\(n=false->decide (r>0)=true->W7 .i64 (r-1))/\(n=false->decide (r>0)=true->V3 (r-1) e.X.length)/\∃(x_1:(Sto×Txn)),let z:=(!V9 p.id (1:Int) (e.N-1)||decide (r>0)&&decide k|| !sN x_1.1.L x_1.2);((!V9 p.id (1:Int) (e.N-1)||decide (r>0)&&decide k)=false->((yL e.s x_1.1)/\(p.id=x_1.2.id/\p.Z=x_1.2.Z/\True)/\True)/\q8 x_1.1.L)/\(z=true->false=uW e)/\(z=false->W7 .i64 (r+1)/\∃(y:V1 e.X.length (D1 e)),(((0=0/\0=0)/\(Y8 X0 e.X e.X)/\q=q/\r+1=(y.val:Int)/\True)/\u/\True)/\Lt (e.X.length-y.val) (e.X.length-x.val)))/\(decide (r<q)=false->∃(x:Eng),(((Y8 Y7 e.lk.H x.lk.H)/\(Fn.func 148=Fn.func 148/\((R8 e x)/\True)/\True)/\True)/\HlL x)/\∃(x_1:Eng),let v:=(anyI x.lk.H.length (yZ x)||anyI x_1.lk.W.length (B2 x_1));(anyI x.lk.H.length (yZ x)=false->((Y8 Y0 e.lk.W x_1.lk.W)/\(Fn.func 150=Fn.func 150/\((R8 e x_1)/\True)/\True)/\True)/\HlL x_1)/\(v=true->false=uW e)/\(v=false->∃(x:(Eng×Int)),(((R8 e x.1)/\0=x.2/\True)/\uK x.1/\l8 x.2)/\decide ((x.1.s.L.length:Int)+(↑(C4 x.1):Int)+x.2<=60)=uW e))))) ⟨e.lk,λ_=>⟨⟨⟨Z7,X5⟩,trivial⟩,hk⟩,λhb=> ?_,λhb=>⟨λhu=> ?_,λhu=> ?_⟩⟩
 ·rw[b2o] at hb;rw[a6N (by simpa using hb)]
 ·rw[b2o] at hb;rw[a6t (by simpa using hb) (by simpa using hu)]
  refine⟨Z4 (by omega),Z4 (by omega),Z4 (by omega),?_⟩
  unfold a1X;rw[Bool.eq_iff_iff,beq_iff_eq,k4];omega
 ·rw[b2o] at hb;have hh:xY e=true:=by simpa using hb
  have hu':e.up=true:=by simpa using hu
  obtain⟨q1,q2,q3,q4⟩:=k8 hh;rw[a7f hh hu'];refine⟨⟨F7,⟨Z8,Z7,rfl,Z9⟩,⟨rfl,rfl,R2 _,trivial⟩,trivial⟩,λx=>⟨λhc=> ?_,λhc=> ?_⟩⟩
  ·have hlt:=X6 hc;refine⟨X8 hlt,Z4 (by omega),λ_ _=>Z4 (by omega),λ_ h0=>⟨by have:=C7 h0;omega,by omega⟩,(e.s,e.X.getD x.val dz),λ_=>⟨⟨(zE _),⟨rfl,Z9⟩,trivial⟩,hL⟩,λhq=> ?_,λhq=> ?_⟩
   ·rw[F5,show((x.val:Int)-1).toNat=x.val-1 by omega] at hq
    exact(a5F hlt hq).symm
   ·rw[F5,show((x.val:Int)-1).toNat=x.val-1 by omega] at hq
    exact⟨U5 hlt (by omega),x.succ hlt hq,⟨⟨Z8,Z7,rfl,by simp only[V1.succ];omega,trivial⟩,⟨rfl,rfl,R2 _,trivial⟩,trivial⟩,V1.ext_lt hlt⟩
  ·have hge:=X4 hc;have hno:∀i,i<e.X.length->D1 e i=false:=λi hi=>x.2.2 i (wM hi hge)
   have hn:=b62 hL hh hno;have e1:anyI e.X.length (D1 e)=false:=Q8.2 hno;refine⟨e,⟨⟨Z7,⟨rfl,⟨(R4 _),trivial⟩,trivial⟩,trivial⟩,ht,hk1,hk2⟩,e,λ_=>⟨⟨Z7,⟨rfl,⟨(R4 _),trivial⟩,trivial⟩,trivial⟩,ht,hk1,hk2⟩,λhq=> ?_,λhq=>⟨(e,0),⟨⟨(R4 _),Z9⟩,hn,by unfold l8;dsimp only;omega⟩,?_⟩⟩
   ·unfold upE;rw[e1];simp only[pP] at hq;rcases hq with hq|hq<;>rw[hq]<;>simp
   ·simp only[yP] at hq;unfold upE;rw[e1,hq.1,hq.2];simp only[Bool.not_false,Bool.true_and];exact decide_eq_decide.2 (by omega)
noncomputable def N6(e:Eng):Bool:=J8 e.s&&uW e
def b0F(e:Eng):Prop:=b1U e.s/\b19 e.lk/\O6 e.X.length
noncomputable def zF:Rl:=⟨Eng,λe=>[.agg e.ts],λe=>.bool (N6 e),b0F⟩
noncomputable def a25:Con:=.rel zF
noncomputable def a16:Con:=.rel zF
theorem pR{s:Sto}(h:J8 s=true):q8 s.L:=by
 obtain⟨⟨h1,h2,_⟩,_⟩:=(M2 s).1 h;exact⟨((B7 s).1 h1).2.2.2.2,λi hi=>by
  obtain⟨a,b⟩:=J6.1 h2 i hi;exact⟨(R7 _).1 a,b⟩⟩
theorem qI:GK 29 a25:=gk Tryz.func29<|by
 rintro(e:Eng) ⟨h1,h2,h3⟩;exact Q5 (gC a1b (gC a1c gN)) Tryz.func29 Y5 (α:=∃(x:tD.ι),(((yL e.s x)/\True)/\b1U x)/\∃(x_1:Eng),(J8 x=true->((R8 e x_1)/\True)/\c0m x_1)/\(J8 x&&uW x_1)=N6 e) ⟨e.s,⟨⟨(zE _),trivial⟩,h1⟩,e,λhs=>⟨⟨(R4 _),trivial⟩,pR hs,h2,h3,h1.2.2.1.1⟩,rfl⟩
def Chs(L:List Rec)(t:Txn):Type:={x:Nat×Int//(decide (x.2<=0)||chn L t.id x.1 x.2)=sN L t/\x.2<=(L.length:Int)/\x.2.toNat<x.1}
def a0X(e:Eng):Nat->Ann
 |0=>.one (V1 e.X.length (D1 e)) (λx=>⟨[(1,.ref 0 0 0),(3,.int .i64 x.1)],[B9 e]⟩) (λx=>e.X.length-x.1) [.box 0] [.box 0] (λx=>fun
  |1=>.one (Chs e.s.L (e.X.getD x.1 dz)) (λy=>⟨[(1,.ref 0 0 0),(3,.int .i64 x.1),(4,.ref 1 0 0),(5,.int .i64 y.1.2)],[B9 e,b0v (e.X.getD x.1 dz)]⟩) (λy=>y.1.1) [.box 0,.box 1] [.box 0,.box 1] (λ_=>Y5)
  |2=>.one (V1 e.lk.H.length (yZ e)) (λy=>⟨[(1,.ref 0 0 0),(7,.int .i64 y.1)],[B9 e]⟩) (λy=>e.lk.H.length-y.1) [.box 0] [.box 0] (λ_=>fun
   |3=>.one (V1 e.lk.W.length (B2 e)) (λz=>⟨[(1,.ref 0 0 0),(8,.int .i64 z.1)],[B9 e]⟩) (λz=>e.lk.W.length-z.1) [.box 0] [.box 0] (λ_=>Y5)
   |_=>.none)
  |_=>.none)
 |_=>.none
theorem c1X{L:List Rec}(hL:q8 L)(id:Int){at_:Int}(h1:1<=at_)(h2:at_<=L.length):
  ((Z3 L at_).t !=id||(Z3 L at_).k==4||(Z3 L at_).k==5||(Z3 L at_).k==6||(Z3 L at_).k==3&& !eQ L (Z3 L at_))= !okR L id at_:=by
 obtain⟨hr,hl⟩:=hL.at h1 h2;obtain⟨p1,p2,p3,p4⟩:=hL.prev h1 h2;obtain⟨_,_,_,_,k1,k2,_⟩:=hr;unfold okR ownR;rw[Q1.2 ⟨h1,h2⟩,Bool.true_and];by_cases ht:(Z3 L at_).t=id
 ·rw[show((Z3 L at_).t !=id)=false by simpa using ht,show((Z3 L at_).t==id)=true by simpa using ht,Bool.false_or,Bool.true_and]
  by_cases hk:(Z3 L at_).k<=3
  ·rw[Q1.2 ⟨k1,hk⟩,show((Z3 L at_).k==4)=false by rw[beq_eq_false_iff_ne];omega,show((Z3 L at_).k==5)=false by rw[beq_eq_false_iff_ne];omega,show((Z3 L at_).k==6)=false by rw[beq_eq_false_iff_ne];omega]
   simp only[Bool.false_or,Bool.true_and];by_cases h3:(Z3 L at_).k=3
   ·rw[show((Z3 L at_).k==3)=true by simpa using h3,show((Z3 L at_).k !=3)=false by simpa using h3,Bool.true_and,Bool.false_or]
    congr 1
    unfold eQ;by_cases hn:(Z3 L at_).n>0
    ·obtain⟨hr2,_⟩:=hL.at (show 1<=(Z3 L at_).n by omega) (by omega)
     have k3:1<=(Z3 L (Z3 L at_).n).k:=hr2.2.2.2.2.1;rw[pO hn,Q1.2 (show 1<=(Z3 L at_).n/\(Z3 L at_).n<=(L.length:Int) by omega),Bool.true_and,Bool.true_and,ht]
     congr 1
     unfold V9;rw[pO k3,Bool.true_and]
    ·rw[uV hn,show V9 (Z3 L at_).n 1 L.length=false from Bool.eq_false_iff.2 λh=>by have:=Q1.1 h;omega]
     rfl
   ·rw[show((Z3 L at_).k==3)=false by simpa using h3,show((Z3 L at_).k !=3)=true by simpa using h3]
    rfl
  ·rw[show V9 (Z3 L at_).k 1 3=false from Bool.eq_false_iff.2 λh=>by have:=Q1.1 h;omega]
   simp only[Bool.false_and,Bool.not_false,pP,beq_iff_eq];exact .inl (by omega)
 ·rw[show((Z3 L at_).t !=id)=true by simpa using ht,show((Z3 L at_).t==id)=false by simpa using ht]
  rfl
theorem b12(e:Eng):(!J8 e.s||decide ((e.X.length:Int)>10)|| !K0 e.lk|| !V9 e.N 1 61)= !(J8 e.s&&xY e):=by
 unfold xY;rw[show decide ((e.X.length:Int)>10)= !decide (e.X.length<=10) by rw[←decide_not];exact decide_eq_decide.2 (by omega)]
 cases J8 e.s<;>cases decide (e.X.length<=10)<;>cases K0 e.lk<;>cases V9 e.N 1 61<;>rfl
theorem dE:GK 47 a16:=gk Tryz.func47<|by
 rintro(e:Eng) ⟨hS,hk,ht⟩;have ht:e.X.length<1000000000000:=ht;have hk1:e.lk.H.length<1000000000000:=hk.1;have hk2:e.lk.W.length<1000000000000:=hk.2;refine Q5 (gC a00 (gC a3f (gC E3 (gC a5y (gC a2Z (gC m8 gN)))))) Tryz.func47 (a0X e) (α:=let pf:=(e.s.L.length:Int);let pe:=(e.lk.W.length:Int);let pd:=(e.lk.H.length:Int);let i:=(e.X.length:Int);let m:=(0=0/\0=0);let w:=(1=1/\1=1/\R8 e e);∃(x:tD.ι),(((yL e.s x)/\True)/\b1U x)/\∃(x_1:tS.ι),let j:=(!J8 x||decide (i>10)|| !K0 x_1|| !V9 e.N (1:Int) (61:Int));((!J8 x||decide (i>10))=false->(((Y8 Y7 e.lk.H x_1.H)/\(Y8 Y0 e.lk.W x_1.W)/\True)/\True)/\b19 x_1)/\(j=true->false=N6 e)/\(j=false->((!e.up)=true->(i==0&&pd==0&&pe==0&&(e.s.fr.length:Int)==0)=N6 e)/\((!e.up)=false->(∃(x:V1 e.X.length (D1 e)),(m/\0=(x.val:Int)/\True)/\w/\True)/\∀(x:V1 e.X.length (D1 e)),let u:=(e.X.getD x.val dz);let z:=(x.val:Int);let r:=(e.X.getD z.toNat dz);let pg:=(!V9 r.id (1:Int) (e.N-1));let v:=(!V9 r.id (1:Int) (e.N-1)||decide (z>0)&&decide ((e.X.getD (z-1).toNat dz).id≥r.id)|| !V9 r.Z (1:Int) pf);(decide (z<i)=true->V3 z e.X.length/\W7 .i64 (e.N-1)/\(pg=false->decide (z>0)=true->W7 .i64 (z-1))/\(pg=false->decide (z>0)=true->V3 (z-1) e.X.length)/\(v=true->false=N6 e)/\(v=false->(∃(x_2:Chs e.s.L (e.X.getD x.val dz)),(m/\z=z/\m/\r.Z=x_2.val.2/\True)/\w/\(1=1/\1=1/\r.id=u.id/\r.Z=u.Z/\True)/\True)/\∀(x_2:Chs e.s.L (e.X.getD x.val dz)),let pb:=(x_2.val.2-1);let q:=(e.s.L.getD pb.toNat dz);(decide (x_2.val.2>0)=true->W7 .i64 pb/\V3 pb e.s.L.length/\∃(x_3:(Sto×Rec)),let pi:=x_3.2;let d:=(q.t !=u.id||q.k==4||q.k==5||q.k==6||q.k==3&& !eQ x_3.1.L pi);((q.t !=u.id||q.k==4||q.k==5||q.k==6)=false->(q.k==3)=true->((yL e.s x_3.1)/\(q.e=pi.e/\q.l=pi.l/\q.t=pi.t/\q.k=pi.k/\q.p=pi.p/\q.n=pi.n/\q.g=pi.g/\q.s=pi.s/\q.b=pi.b/\q.a=pi.a/\True)/\True)/\pi.n<=(x_3.1.L.length:Int)/\O6 x_3.1.L.length)/\(d=true->false=N6 e)/\(d=false->W7 .i64 pb/\V3 pb e.s.L.length/\∃(y:Chs e.s.L (e.X.getD x.val dz)),((m/\z=z/\m/\q.p=y.val.2/\True)/\w/\(1=1/\1=1/\u.id=u.id/\u.Z=u.Z/\True)/\True)/\Lt y.val.1 x_2.val.1))/\(decide (x_2.val.2>0)=false->W7 .i64 (z+1)/\∃(y:V1 e.X.length (D1 e)),((m/\z+1=(y.val:Int)/\True)/\w/\True)/\Lt (e.X.length-y.val) (e.X.length-x.val))))/\(decide (z<i)=false->(∃(x:V1 e.lk.H.length (yZ e)),(m/\0=(x.val:Int)/\True)/\w/\True)/\∀(x:V1 e.lk.H.length (yZ e)),let pc:=(x.val:Int);(decide (pc<pd)=true->V3 pc e.lk.H.length/\∃(x_2:(Eng×Int)),let ph:=(U4 x_2.1.X x_2.2<(0:Int));(((R8 e x_2.1)/\(e.lk.H.getD pc.toNat dz).tx=x_2.2/\True)/\O6 x_2.1.X.length)/\(decide ph=true->false=N6 e)/\(decide ph=false->W7 .i64 (pc+1)/\∃(y:V1 e.lk.H.length (yZ e)),((m/\pc+1=(y.val:Int)/\True)/\w/\True)/\Lt (e.lk.H.length-y.val) (e.lk.H.length-x.val)))/\(decide (pc<pd)=false->(∃(x:V1 e.lk.W.length (B2 e)),(m/\0=(x.val:Int)/\True)/\w/\True)/\∀(x:V1 e.lk.W.length (B2 e)),let c:=(x.val:Int);let pj:=(e.lk.W.getD c.toNat dz);(decide (c<pe)=true->V3 c e.lk.W.length/\∃(x_2:(Eng×Int)),let f:=(U4 x_2.1.X x_2.2<(0:Int));(((R8 e x_2.1)/\pj.tx=x_2.2/\True)/\O6 x_2.1.X.length)/\(decide f=false->V3 c e.lk.W.length)/\∃(x_3:(Eng×Int)),let pa:=(decide f||decide (U4 x_3.1.X x_3.2<(0:Int)));(decide f=false->((R8 e x_3.1)/\pj.fo=x_3.2/\True)/\O6 x_3.1.X.length)/\(pa=true->false=N6 e)/\(pa=false->W7 .i64 (c+1)/\∃(y:V1 e.lk.W.length (B2 e)),((m/\c+1=(y.val:Int)/\True)/\w/\True)/\Lt (e.lk.W.length-y.val) (e.lk.W.length-x.val)))/\(decide (c<pe)=false->∃(x:Eng),(((R8 e x)/\True)/\uK x)/\W7 .i64 (pf+(↑(C4 x):Int))/\decide (pf+(↑(C4 x):Int)<=60)=N6 e)))))) ⟨e.s,⟨⟨(zE _),trivial⟩,hS⟩,e.lk,λ_=>⟨⟨⟨Z7,X5⟩,trivial⟩,hk⟩,λhb=> ?_,λhb=> ?_⟩
 ·rw[b12] at hb;unfold N6;cases h1:J8 e.s
  ·rfl
  ·rw[h1] at hb;rw[a6N (by simpa using hb)]
   rfl
 rw[b12] at hb;simp only[yT,L3] at hb;obtain⟨hs,hh⟩:=hb;have hL:=pR hs;have h60:=hL.1;obtain⟨q1,q2,q3,q4⟩:=k8 hh;have eo:N6 e=uW e:=by unfold N6;rw[hs,Bool.true_and]
 refine⟨λhu=> ?_,λhu=> ?_⟩
 ·rw[eo,a6t hh (by simpa using hu)]
  unfold a1X;rw[Bool.eq_iff_iff];simp only[L3,beq_iff_eq,k4];omega
 ·have hu':e.up=true:=by simpa using hu
  rw[eo,a7f hh hu'];refine⟨⟨F7,⟨Z8,Z9⟩,⟨rfl,rfl,R4 _⟩,trivial⟩,λx=>⟨λhc=> ?_,λhc=> ?_⟩⟩
  ·have hlt:=X6 hc;rw[F5,show((x.val:Int)-1).toNat=x.val-1 by omega]
   refine⟨X8 hlt,Z4 (by omega),λ_ _=>Z4 (by omega),λ_ h0=>⟨by have:=C7 h0;omega,by omega⟩,λhq=> ?_,λhq=> ?_⟩
   ·refine(a5F hlt ?_).symm
    unfold D1 sN;rw[Bool.not_and,←Bool.or_assoc,hq];rfl
   ·simp only[yP,yT] at hq;obtain⟨⟨r1,r2⟩,r3⟩:=hq;obtain⟨l1,l2⟩:=Q1.1 r3;refine⟨⟨⟨(61,(e.X.getD x.val dz).Z),?_,l2,by dsimp only;omega⟩,⟨⟨rfl,rfl⟩,rfl,⟨rfl,rfl⟩,rfl,trivial⟩,⟨rfl,rfl,R4 _⟩,⟨rfl,rfl,rfl,rfl,trivial⟩,trivial⟩,λy=> ?_⟩
    ·dsimp only;unfold sN;rw[uV (by omega),r3]
     rfl
    obtain⟨⟨f,at_⟩,he,hle,hf⟩:=y;dsimp only at he hle hf ⊢;refine⟨λhy=> ?_,λhy=> ?_⟩
    ·have h0:at_>0:=C7 hy;have h1:1<=at_:=by omega
     obtain⟨p1,p2,p3,p4⟩:=hL.prev h1 hle;rw[uV (by omega),Bool.false_or,lJ _ _ (by omega) h1] at he
     have es:=c1X hL (e.X.getD x.val dz).id h1 hle;refine⟨Z4 (by omega),⟨by omega,by omega⟩,(e.s,Z3 e.s.L at_),λ_ _=>⟨⟨(zE _),⟨rfl,rfl,rfl,rfl,rfl,rfl,rfl,rfl,rfl,Z9⟩,trivial⟩,by dsimp only;omega,by unfold O6;dsimp only;omega⟩,λhq=> ?_,λhq=> ?_⟩
     ·have hq:=es.symm.trans hq;refine(a5F hlt ?_).symm
      rw[show okR e.s.L (e.X.getD x.val dz).id at_=false by simpa using hq] at he
      unfold D1;rw[←he];simp
     ·have hq:=es.symm.trans hq;rw[show okR e.s.L (e.X.getD x.val dz).id at_=true by simpa using hq,Bool.true_and] at he
      refine⟨Z4 (by omega),⟨by omega,by omega⟩,⟨(f-1,(Z3 e.s.L at_).p),?_,by dsimp only;omega,by dsimp only;omega⟩,⟨⟨⟨rfl,rfl⟩,rfl,⟨rfl,rfl⟩,rfl,trivial⟩,⟨rfl,rfl,R4 _⟩,⟨rfl,rfl,rfl,rfl,trivial⟩,trivial⟩,show f-1<f by omega⟩
      dsimp only;rw[←he];by_cases hp:(Z3 e.s.L at_).p<=0
      ·rw[a1I _ _ _ hp,Bool.or_true]
      ·rw[uV hp,Bool.false_or]
    ·have h0:at_<=0:=by have:=l7 hy;omega
     rw[pO h0,Bool.true_or] at he;exact⟨U5 hlt (by omega),x.succ hlt (by unfold D1;rw[←he,r1,r2];rfl),⟨⟨⟨rfl,rfl⟩,by simp only[V1.succ];omega,trivial⟩,⟨rfl,rfl,R4 _⟩,trivial⟩,V1.ext_lt hlt⟩
  ·have hge:=X4 hc;have hno:∀i,i<e.X.length->D1 e i=false:=λi hi=>x.2.2 i (wM hi hge)
   have hn:=b62 hL hh hno;refine⟨⟨F7,⟨Z8,Z9⟩,⟨rfl,rfl,R4 _⟩,trivial⟩,λy=>⟨λhy=> ?_,λhy=>⟨⟨F7,⟨Z8,Z9⟩,⟨rfl,rfl,R4 _⟩,trivial⟩,λz=>⟨λhz=> ?_,λhz=> ?_⟩⟩⟩⟩
   ·have hlt:=X6 hy;exact⟨X8 hlt,(e,(e.lk.H.getD y.val dz).tx),⟨⟨(R4 _),Z9⟩,ht⟩,λhq=>(b8G hlt hq).symm,λhq=>⟨U5 hlt (by omega),y.succ hlt hq,⟨⟨Z8,by simp only[V1.succ];omega,trivial⟩,⟨rfl,rfl,R4 _⟩,trivial⟩,V1.ext_lt hlt⟩⟩
   ·have hlt:=X6 hz;exact⟨X8 hlt,(e,(e.lk.W.getD z.val dz).tx),⟨⟨(R4 _),Z9⟩,ht⟩,λ_=>X8 hlt,(e,(e.lk.W.getD z.val dz).fo),λ_=>⟨⟨(R4 _),Z9⟩,ht⟩,λhq=>(b9n hlt hq).symm,λhq=>⟨U5 hlt (by omega),z.succ hlt hq,⟨⟨Z8,by simp only[V1.succ];omega,trivial⟩,⟨rfl,rfl,R4 _⟩,trivial⟩,V1.ext_lt hlt⟩⟩
   ·have g1:=X4 hy;have g2:=X4 hz;have hb:=jG e.s.L e.X e.X.length;have he:C4 e=A0 e.s.L e.X e.X.length:=rfl;refine⟨e,⟨⟨(R4 _),trivial⟩,hn⟩,Z4 (by omega),?_⟩
    have e1:anyI e.X.length (D1 e)=false:=Q8.2 hno;have e2:anyI e.lk.H.length (yZ e)=false:=Q8.2 λi hi=>y.2.2 i (wM hi g1)
    have e3:anyI e.lk.W.length (B2 e)=false:=Q8.2 λi hi=>z.2.2 i (wM hi g2)
    unfold upE;rw[e1,e2,e3];simp only[Bool.not_false,Bool.true_and];exact decide_eq_decide.2 (by omega)
end Go.Proofs.YtghgljelnhfihaaGreat

namespace Go.Proofs.YtghgljelnhfihaaGreat
open Go.SS

def oD(s:Lks):Prop:=s.H.length<=1048576/\s.W.length<=1048576
def y8(s:Eng):Prop:=SmS s.s/\s.X.length<=1048576/\oD s.lk
end Go.Proofs.YtghgljelnhfihaaGreat


namespace Go.Proofs.YtghgljelnhfihaaGreat
open Go.SS Go.RowKit
set_option maxRecDepth 100000
theorem own:ownKnob Tryz.prog.godebug=none:=by kernel_rfl
theorem b7K{P:Program}{f:FuncId}{fn:Func}{s:ChangeSpec}{c:OpenClaim}(h0:c.wf (OpenSpec.ofChange s)=true)(h1:laidOutB P=true)(h2:mapsRowed P=true)
  (h3:fn.params.all (P.readableRec ·)=true) (h4:namedTie P c.named s.vars=true) (h5:(c.stops==[])=true) (h6:(P.stops==[])=true) (h7:(c.knobs==[])=true) (h8:(P.stopKnobs==[])=true)
  (h9:(c.inPlace==P.inPlace f)=true) (h10:(c.unfollowed==P.unfollowed f)=true) (h11:(c.recurses==P.recurses f)=true) (h12:(c.named==P.varsNamed f)=true)
  (h13:(c.maps==(fn.params.toList++s.plain.varTypes P).any (P.mapsRec ·))=true) (h14:(c.ifaces==(fn.params.toList++s.plain.varTypes P).any (P.ifacesRec ·))=true) (h15:(c.mapsOut==P.mapsAmong fn.resultTypes.toList)=true)
  (h16:(c.loops==(fn.params.toList++s.plain.varTypes P).any (P.loopsFrom ·))=true) (h17:(c.wideKeys==(fn.params.toList++s.plain.varTypes P++fn.resultTypes.toList).any (P.wideKeysFrom ·))=true)
  (h18:s.vars.all (P.varReadable ·)=true) (h19:fn.resultTypes.all (λt=>P.readableRec t&&decide (t<P.types.size))=true) (h20:(c.ifacesOut==fn.resultTypes.toList.any (P.ifacesRec ·))=true)
  (h21:(c.loopsOut==fn.resultTypes.toList.any (P.loopsFrom ·))=true) (h22:(c.plainKeys==P.plainKeys)=true) (h23:c.shortTexts.isNone=true) (h24:P.stopsHeard=true) (h25:P.mayEnter=true)
  (h26:(c.lifted==P.liftsFinal)=true) (h27:(P.make==some c.make)=true) (h28:(c.kinds==(if c.domain.isEmpty then[] else fn.params.toList.map λt=>match P.underlying t with|some (.int k)=>some k|_=>none))=true) (h29:(c.pinned==c.pinnedBy)=true)
  (h30:(c.veiled==(fn.params.toList++s.plain.varTypes P++fn.resultTypes.toList).any (P.veiledRec ·))=true) (h31:c.veiledFits P fn.params.toList (fn.params.toList++s.plain.varTypes P++fn.resultTypes.toList)=true):joinedFacts P f fn s c=true:=by
 simp only[joinedFacts,L3];exact⟨⟨⟨⟨⟨⟨⟨⟨⟨⟨⟨⟨⟨⟨⟨⟨⟨⟨⟨⟨⟨⟨⟨⟨⟨⟨⟨⟨⟨⟨⟨h0,h1⟩,h2⟩,h3⟩,h4⟩,h5⟩,h6⟩,h7⟩,h8⟩,h9⟩,h10⟩,h11⟩,h12⟩,h13⟩,h14⟩,h15⟩,h16⟩,h17⟩,h18⟩,h19⟩,h20⟩,h21⟩,h22⟩,h23⟩,h24⟩,h25⟩,h26⟩,h27⟩,h28⟩,h29⟩,h30⟩,h31⟩
end Go.Proofs.YtghgljelnhfihaaGreat

