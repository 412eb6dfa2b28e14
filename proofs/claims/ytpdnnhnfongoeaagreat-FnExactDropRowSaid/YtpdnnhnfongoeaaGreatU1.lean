/- A part of the proof. -/
import Derived.Test.YtpdnnhnfongoeaaGreatX1
import Derived.Test.YtpdnnhnfongoeaaGreatW1
import Derived.WalkKit
import Derived.Deep.RegionLaw
import Derived.Deep.LoopGhost
import Derived.Lib.SliceRun
import Derived.Deep.MidRow
import Derived.Shelf.RegionOpenPlain
import Derived.Laws.IdiomCopy
namespace Go.Proofs.YtpdnnhnfongoeaaGreat
set_option maxRecDepth 100000
open Go.SS Go.Proofs.Tryz
noncomputable section
def sQ(L:List Txn):Option Ob:=some (.arr true 0 2 L.length (X2 L))
theorem kW(L:List Txn):D0 [sQ L]:=B4 (λi _ t h=>by
 simp only[X2,Txn.ts,vO,j_i,or_false] at h;rcases h with rfl|rfl<;>rfl) w7
def c2s:Con:=.rmk ⟨List Txn,λL=>[tV L],λ_=>[],λL=>.osl 0 0 L.length,λL=>[sQ L],λL=>L.length<=1048576⟩
theorem c1S(L:List Txn)(h:
  ∀(b:Bool),(b=true->L.length=0)->br b (((0=0/\0=L.length)/\True)/\(0=L.length/\Z7 0 (λ(x:Nat)=>[]) (X2 L))/\True) ((Le 0 0/\U8 0 L.length 16)/\((0=0/\0+L.length=L.length)/\True)/\(0+L.length=L.length/\Z7 (0+L.length) (X4 (λ(k:Nat)=>List.take 2 (List.drop (k*2) [])) 0 (X2 L)) (X2 L))/\True)):
  F8 prog 93 [tV L] [] (.osl 0 0 L.length) [sQ L]:=
 C7 gN func93 Z3 b6v h
theorem b7z:GK 93 c2s:=gk func93<|λ(L:List Txn) (hL:L.length<=1048576)=>
 ⟨c1S L (λb B=>⟨λh=>⟨⟨⟨rfl,(B h).symm⟩,Z6⟩,⟨(B h).symm,λi hi=>absurd hi (D4 _)⟩,Z6⟩,λ_=>⟨⟨U9 _,R0⟩,⟨⟨rfl,Z9⟩,Z6⟩,⟨Z9,w6⟩,Z6⟩⟩),rfl,kW L⟩
def b6y:Con:=.rmk ⟨List Txn,λL=>[tV L],λ_=>[],λL=>.osl 0 0 L.length,λL=>[sQ L],λL=>L.length<=1048576⟩
theorem b2N:GK 37 b6y:=gk func37<|by
 intro(L:List Txn) (hL:L.length<=1048576);refine⟨C7 (gC b5b gN) func37 (b61 L) pZ (α:=let z:=(0=0/\L.length=L.length);let p:=(L.length:Int);(Nn p/\LeI p p/\yQ 16 p.toNat 140737488355328/\Lt p.toNat 9223372036854775808)/\(∃(x:Up L.length),((Z0 X2 L L)/\(0=0/\p.toNat=L.length)/\0=(x.1:Int)/\True)/\(p.toNat=L.length/\Z7 p.toNat (λ(x:Nat)=>[Ji 0,Ji 0]) (yA (X2 L) [Ji 0,Ji 0] x.1))/\True)/\∀(x:Up L.length),let r:=(yA (X2 L) [Ji 0,Ji 0] x.1);let q:=(x.1:Int);let u:=(L.getD q.toNat dz);bd (q<p) (W9 q L.length/\∃(X:a9p.ι),(((u.id=X.id/\u.Z=X.Z/\True)/\True)/\True)/\W9 q L.length/\Lt (0+q.toNat) L.length/\Ri (q+1)/\∃(y:Up L.length),(((Z0 X2 L L)/\z/\q+1=(y.1:Int)/\True)/\(L.length=L.length/\Z7 L.length (setRow r (0+q.toNat) 0 [Ji X.id,Ji X.Z]) (yA (X2 L) [Ji 0,Ji 0] y.1))/\True)/\Lt (L.length-y.1) (L.length-x.1)) ((z/\True)/\(L.length=L.length/\Z7 L.length r (X2 L))/\True)) ⟨⟨m5,sG,sW,Q2⟩,⟨⟨0,N5 _⟩,⟨⟨S7,X6 _ _⟩,⟨S7,Z9⟩,Z8⟩,⟨Z9,uV⟩,Z6⟩,λx=>⟨λhc=>?_,λhc=>?_⟩⟩,rfl,kW L⟩
 ·have hlt:=Y2 hc;refine⟨Y6 hlt,L.getD x.1 dz,Z8,Y6 hlt,Q2,W4 hlt Z9,⟨x.1+1,hlt⟩,⟨⟨⟨S7,X6 _ _⟩,⟨S7,S7⟩,M3,Z6⟩,⟨S7,λj hj=>?_⟩,Z6⟩,V5.ext_lt hlt⟩
  exact wZ (m:=2) (λ_=>rfl) rfl x.1 rfl j
 ·have hx:x.1=L.length:=by have:=x.2;have:=Y0 hc;omega
  rw[hx];exact⟨Z8,⟨rfl,λi hi=>uF (n:=L.length) i Z9⟩,Z6⟩
def I8(n k:Nat):List Txn:=(List.range n).map λi=>⟨((k+2*i:Nat):Int),((k+2*i:Nat):Int)+1⟩
def a6k:Con:=.reff ⟨List Txn×Nat,λx=>[.osl 0 0 x.1.length,Ji x.2],λx=>[sQ x.1],λx=>Ji (x.2+2*x.1.length:Nat),λx=>[sQ (I8 x.1.length x.2)],λx=>nT x.1.length x.2 2⟩
def a8m(L:List Txn)(k:Nat):Nat->Ann
 |0=>.one (Up L.length) (λx=>⟨[(0,.osl 0 0 L.length),(1,Ji (k+2*x.1:Nat)),(5,Ji x.1)],[some (.arr true 0 2 L.length (j3 (X2 (I8 L.length k)) (X2 L) x.1))]⟩) (λx=>L.length-x.1) [.arr 0] [.arr 0] (λ_=>Z3)
 |_=>.none
theorem a3r:GK 49 a6k:=gk func49<|by
 rintro⟨L,k⟩ ⟨d,h,e⟩;dsimp only at d h e;refine C7 gN func49 (a8m L k) pZ (α:=let u:=(0=0/\L.length=L.length);let q:=(X2 (I8 L.length k));(∃(x:Up L.length),(u/\(k:Int)=(↑(k+2*x.1):Int)/\0=(x.1:Int)/\True)/\(L.length=L.length/\Z7 L.length (X2 L) (j3 q (X2 L) x.1))/\True)/\∀(x:Up L.length),let v:=(j3 q (X2 L) x.1);let r:=(x.1:Int);let z:=(0+r.toNat);let p:=(↑(k+2*x.1):Int);bd (r<(L.length:Int)) (W9 r L.length/\Lt z L.length/\Ri (p+1)/\W9 r L.length/\Lt z L.length/\Ri (p+1+1)/\Ri (r+1)/\∃(y:Up L.length),((u/\p+1+1=(↑(k+2*y.1):Int)/\r+1=(y.1:Int)/\True)/\(L.length=L.length/\Z7 L.length (setRow (setRow v z 0 [Ji p]) z 1 [Ji (p+1)]) (j3 q (X2 L) y.1))/\True)/\Lt (L.length-y.1) (L.length-x.1)) ((p=(↑(k+2*L.length):Int)/\True)/\(L.length=(I8 L.length k).length/\Z7 L.length v q)/\True)) ⟨⟨⟨0,N5 _⟩,Z8,⟨rfl,xA⟩,Z6⟩,λx=>⟨λhc=>?_,λhc=>?_⟩⟩
 ·have hlt:=Y2 hc;have ib:=Y6 hlt;have lt:Lt (0+(x.1:Int).toNat) L.length:=by unfold Lt;omega
  refine⟨ib,lt,Z4 Z9,ib,lt,Z4 Z9,Z4 Z9,⟨x.1+1,hlt⟩,⟨⟨Z8,X5,X5,Z6⟩,⟨rfl,λj _=>?_⟩,Z6⟩,V5.ext_lt hlt⟩
  exact vA (m:=2) (λ_=>rfl) (λ_=>rfl) x.1 [(0,Ji (((k+2*x.1:Nat):Int))),(1,Ji (((k+2*x.1:Nat):Int)+1))] W7 (by unfold X2 I8;rw[j7 _ hlt];rfl) j
 ·have hx:x.1=L.length:=by have:=x.2;have:=Y0 hc;omega
  rw[hx];exact⟨Z8,⟨(O4 _ _).symm,uE⟩,Z6⟩
def a6h:Con:=.rel ⟨Nat×Nat,λx=>[tV (I8 x.1 x.2),Ji x.2],λx=>Ji (x.2+2*x.1:Nat),λx=>nT x.1 x.2 2⟩
def a6j(n k:Nat):Nat->Ann
 |0=>.one (Up n) (λx=>⟨[(0,tV (I8 n k)),(1,Ji (k+2*x.1:Nat)),(5,Ji x.1)],[]⟩) (λx=>n-x.1) [] [] (λ_=>Z3)
 |_=>.none
theorem a3R:GK 52 a6h:=gk func52<|by
 rintro⟨n,k⟩ ⟨g,d,f⟩;dsimp only at g d f;have N:(I8 n k).length=n:=O4 _ _;refine U6 gN func52 (a6j n k) (α:=let v:=(Z0 X2 (I8 n k) (I8 n k));let z:=(I8 n k).length;let r:=(↑(k+2*n):Int);(∃(x:Up n),(v/\(k:Int)=(↑(k+2*x.1):Int)/\0=(x.1:Int)/\True)/\True)/\∀(x:Up n),let q:=(x.1:Int);let u:=((I8 n k).getD q.toNat dz);let p:=(↑(k+2*x.1):Int);bd (q<(↑z:Int)) (W9 q z/\br (u.id !=p) ((-1:Int)=r) (Ri (p+1)/\W9 q z/\br (u.Z !=p+1) ((-1:Int)=r) (Ri (p+1+1)/\Ri (q+1)/\∃(y:Up n),((v/\p+1+1=(↑(k+2*y.1):Int)/\q+1=(y.1:Int)/\True)/\True)/\Lt (n-y.1) (n-x.1)))) (p=r)) ⟨⟨⟨0,N5 _⟩,Z8⟩,λx=>⟨λhc=>?_,λhc=>?_⟩⟩
 ·have hlt:=Y2 hc;have hlt':x.1<n:=by omega
  have e:(I8 n k).getD (x.1:Int).toNat dz=⟨((k+2*x.1:Nat):Int),((k+2*x.1:Nat):Int)+1⟩:=by rw[E4];exact j7 _ hlt' _
  rw[e];have i:=Y6 hlt;exact⟨i,λh=>L6,λ_=>⟨Z4 Z9,i,λh=>L6,λ_=>⟨Z4 Z9,Z4 Z9,⟨x.1+1,hlt'⟩,⟨⟨Z8,X5,X5,Z6⟩,Z6⟩,V5.ext_lt hlt'⟩⟩⟩
 ·have hx:x.1=n:=by have:=x.2;have:=Y0 hc;omega
  rw[hx]
def zB(L:List Lck):Option Ob:=some (.arr true 0 4 L.length (Z2 L))
theorem kI(L:List Lck):D0 [zB L]:=B4 (λi _ t h=>by
 simp only[Z2,Lck.ts,vO,j_i,or_false] at h;rcases h with rfl|rfl|rfl|rfl<;>rfl) w7
def c0N:Con:=.rmk ⟨List Lck,λL=>[wO L],λ_=>[],λL=>.osl 0 0 L.length,λL=>[zB L],λL=>L.length<=1048576⟩
theorem c0J(L:List Lck)(h:
  ∀(b:Bool),(b=true->L.length=0)->br b (((0=0/\0=L.length)/\True)/\(0=L.length/\Z7 0 (λ(x:Nat)=>[]) (Z2 L))/\True) ((Le 0 0/\U8 0 L.length 32)/\((0=0/\0+L.length=L.length)/\True)/\(0+L.length=L.length/\Z7 (0+L.length) (X4 (λ(k:Nat)=>List.take 4 (List.drop (k*4) [])) 0 (Z2 L)) (Z2 L))/\True)):
  F8 prog 181 [wO L] [] (.osl 0 0 L.length) [zB L]:=
 C7 gN func181 Z3 [[.arr 1],[.nilS 0 [] 0 4,.arr 0]] h
theorem b6f:GK 181 c0N:=gk func181<|λ(L:List Lck) (hL:L.length<=1048576)=>
 ⟨c0J L (λb B=>⟨λh=>⟨⟨⟨rfl,(B h).symm⟩,Z6⟩,⟨(B h).symm,λi hi=>absurd hi (D4 _)⟩,Z6⟩,λ_=>⟨⟨U9 _,R0⟩,⟨⟨rfl,Z9⟩,Z6⟩,⟨Z9,w6⟩,Z6⟩⟩),rfl,kI L⟩
def b6B:Con:=.rmk ⟨List Lck,λL=>[wO L],λ_=>[],λL=>.osl 0 0 L.length,λL=>[zB L],λL=>L.length<=1048576⟩
theorem b1I:GK 89 b6B:=gk func89<|by
 intro(L:List Lck) (hL:L.length<=1048576);refine⟨C7 (gC b5j gN) func89 (b91 L) pZ (α:=let u:=(0=0/\L.length=L.length);let p:=(L.length:Int);(Nn p/\LeI p p/\yQ 32 p.toNat 140737488355328/\Lt p.toNat 9223372036854775808)/\(∃(x:Up L.length),((Z0 Z2 L L)/\(0=0/\p.toNat=L.length)/\0=(x.1:Int)/\True)/\(p.toNat=L.length/\Z7 p.toNat (λ(x:Nat)=>[Ji 0,Ji 0,Ji 0,Ji 0]) (yA (Z2 L) [Ji 0,Ji 0,Ji 0,Ji 0] x.1))/\True)/\∀(x:Up L.length),let r:=(yA (Z2 L) [Ji 0,Ji 0,Ji 0,Ji 0] x.1);let q:=(x.1:Int);let z:=(L.getD q.toNat dz);bd (q<p) (W9 q L.length/\∃(X:a9G.ι),(((z.tx=X.tx/\z.ta=X.ta/\z.row=X.row/\z.mo=X.mo/\True)/\True)/\True)/\W9 q L.length/\Lt (0+q.toNat) L.length/\Ri (q+1)/\∃(y:Up L.length),(((Z0 Z2 L L)/\u/\q+1=(y.1:Int)/\True)/\(L.length=L.length/\Z7 L.length (setRow r (0+q.toNat) 0 [Ji X.tx,Ji X.ta,Ji X.row,Ji X.mo]) (yA (Z2 L) [Ji 0,Ji 0,Ji 0,Ji 0] y.1))/\True)/\Lt (L.length-y.1) (L.length-x.1)) ((u/\True)/\(L.length=L.length/\Z7 L.length r (Z2 L))/\True)) ⟨⟨m5,sG,sW,Q2⟩,⟨⟨0,N5 _⟩,⟨⟨S7,X6 _ _⟩,⟨S7,Z9⟩,Z8⟩,⟨Z9,uV⟩,Z6⟩,λx=>⟨λhc=>?_,λhc=>?_⟩⟩,rfl,kI L⟩
 ·have hlt:=Y2 hc;refine⟨Y6 hlt,L.getD x.1 dz,Z8,Y6 hlt,Q2,W4 hlt Z9,⟨x.1+1,hlt⟩,⟨⟨⟨S7,X6 _ _⟩,⟨S7,S7⟩,M3,Z6⟩,⟨S7,λj hj=>?_⟩,Z6⟩,V5.ext_lt hlt⟩
  exact wZ (m:=4) (λ_=>rfl) rfl x.1 rfl j
 ·have hx:x.1=L.length:=by have:=x.2;have:=Y0 hc;omega
  rw[hx];exact⟨Z8,⟨rfl,λi hi=>uF (n:=L.length) i Z9⟩,Z6⟩
def M6(n k:Nat):List Lck:=(List.range n).map λi=>⟨((k+4*i:Nat):Int),((k+4*i:Nat):Int)+1,((k+4*i:Nat):Int)+1+1,((k+4*i:Nat):Int)+1+1+1⟩
def a6q:Con:=.reff ⟨List Lck×Nat,λx=>[.osl 0 0 x.1.length,Ji x.2],λx=>[zB x.1],λx=>Ji (x.2+4*x.1.length:Nat),λx=>[zB (M6 x.1.length x.2)],λx=>nT x.1.length x.2 4⟩
def a88(L:List Lck)(k:Nat):Nat->Ann
 |0=>.one (Up L.length) (λx=>⟨[(0,.osl 0 0 L.length),(1,Ji (k+4*x.1:Nat)),(5,Ji x.1)],[some (.arr true 0 4 L.length (j3 (Z2 (M6 L.length k)) (Z2 L) x.1))]⟩) (λx=>L.length-x.1) [.arr 0] [.arr 0] (λ_=>Z3)
 |_=>.none
theorem a5z:GK 109 a6q:=gk func109<|by
 rintro⟨L,k⟩ ⟨d,h,e⟩;dsimp only at d h e;refine C7 gN func109 (a88 L k) pZ (α:=let u:=(0=0/\L.length=L.length);let r:=(Z2 (M6 L.length k));(∃(x:Up L.length),(u/\(k:Int)=(↑(k+4*x.1):Int)/\0=(x.1:Int)/\True)/\(L.length=L.length/\Z7 L.length (Z2 L) (j3 r (Z2 L) x.1))/\True)/\∀(x:Up L.length),let v:=(j3 r (Z2 L) x.1);let z:=(x.1:Int);let q:=(0+z.toNat);let p:=(↑(k+4*x.1):Int);bd (z<(L.length:Int)) (W9 z L.length/\Lt q L.length/\Ri (p+1)/\W9 z L.length/\Lt q L.length/\Ri (p+1+1)/\W9 z L.length/\Lt q L.length/\Ri (p+1+1+1)/\W9 z L.length/\Lt q L.length/\Ri (p+1+1+1+1)/\Ri (z+1)/\∃(y:Up L.length),((u/\p+1+1+1+1=(↑(k+4*y.1):Int)/\z+1=(y.1:Int)/\True)/\(L.length=L.length/\Z7 L.length (setRow (setRow (setRow (setRow v q 0 [Ji p]) q 1 [Ji (p+1)]) q 2 [Ji (p+1+1)]) q 3 [Ji (p+1+1+1)]) (j3 r (Z2 L) y.1))/\True)/\Lt (L.length-y.1) (L.length-x.1)) ((p=(↑(k+4*L.length):Int)/\True)/\(L.length=(M6 L.length k).length/\Z7 L.length v r)/\True)) ⟨⟨⟨0,N5 _⟩,Z8,⟨rfl,xA⟩,Z6⟩,λx=>⟨λhc=>?_,λhc=>?_⟩⟩
 ·have hlt:=Y2 hc;have ib:=Y6 hlt;have lt:Lt (0+(x.1:Int).toNat) L.length:=by unfold Lt;omega
  refine⟨ib,lt,Z4 Z9,ib,lt,Z4 Z9,ib,lt,Z4 Z9,ib,lt,Z4 Z9,Z4 Z9,⟨x.1+1,hlt⟩,⟨⟨Z8,X5,X5,Z6⟩,⟨rfl,λj _=>?_⟩,Z6⟩,V5.ext_lt hlt⟩
  exact vA (m:=4) (λ_=>rfl) (λ_=>rfl) x.1 [(0,Ji (((k+4*x.1:Nat):Int))),(1,Ji (((k+4*x.1:Nat):Int)+1)),(2,Ji (((k+4*x.1:Nat):Int)+1+1)),(3,Ji (((k+4*x.1:Nat):Int)+1+1+1))] W7 (by unfold Z2 M6;rw[j7 _ hlt];rfl) j
 ·have hx:x.1=L.length:=by have:=x.2;have:=Y0 hc;omega
  rw[hx];exact⟨Z8,⟨(O4 _ _).symm,uE⟩,Z6⟩
def a7X:Con:=.rel ⟨Nat×Nat,λx=>[wO (M6 x.1 x.2),Ji x.2],λx=>Ji (x.2+4*x.1:Nat),λx=>nT x.1 x.2 4⟩
def a6U(n k:Nat):Nat->Ann
 |0=>.one (Up n) (λx=>⟨[(0,wO (M6 n k)),(1,Ji (k+4*x.1:Nat)),(5,Ji x.1)],[]⟩) (λx=>n-x.1) [] [] (λ_=>Z3)
 |_=>.none
theorem a25:GK 114 a7X:=gk func114<|by
 rintro⟨n,k⟩ ⟨g,d,f⟩;dsimp only at g d f;have N:(M6 n k).length=n:=O4 _ _;refine U6 gN func114 (a6U n k) (α:=let v:=(Z0 Z2 (M6 n k) (M6 n k));let u:=(M6 n k).length;let r:=((-1:Int)=(↑(k+4*n):Int));(∃(x:Up n),(v/\(k:Int)=(↑(k+4*x.1):Int)/\0=(x.1:Int)/\True)/\True)/\∀(x:Up n),let z:=(x.1:Int);let q:=((M6 n k).getD z.toNat dz);let p:=(↑(k+4*x.1):Int);bd (z<(↑u:Int)) (W9 z u/\br (q.tx !=p) r (Ri (p+1)/\W9 z u/\br (q.ta !=p+1) r (Ri (p+1+1)/\W9 z u/\br (q.row !=p+1+1) r (Ri (p+1+1+1)/\W9 z u/\br (q.mo !=p+1+1+1) r (Ri (p+1+1+1+1)/\Ri (z+1)/\∃(y:Up n),((v/\p+1+1+1+1=(↑(k+4*y.1):Int)/\z+1=(y.1:Int)/\True)/\True)/\Lt (n-y.1) (n-x.1)))))) (p=(↑(k+4*n):Int))) ⟨⟨⟨0,N5 _⟩,Z8⟩,λx=>⟨λhc=>?_,λhc=>?_⟩⟩
 ·have hlt:=Y2 hc;have hlt':x.1<n:=by omega
  have e:(M6 n k).getD (x.1:Int).toNat dz=⟨((k+4*x.1:Nat):Int),((k+4*x.1:Nat):Int)+1,((k+4*x.1:Nat):Int)+1+1,((k+4*x.1:Nat):Int)+1+1+1⟩:=by rw[E4];exact j7 _ hlt' _
  rw[e];have i:=Y6 hlt;exact⟨i,λh=>L6,λ_=>⟨Z4 Z9,i,λh=>L6,λ_=>⟨Z4 Z9,i,λh=>L6,λ_=>⟨Z4 Z9,i,λh=>L6,λ_=>⟨Z4 Z9,Z4 Z9,⟨x.1+1,hlt'⟩,⟨⟨Z8,X5,X5,Z6⟩,Z6⟩,V5.ext_lt hlt'⟩⟩⟩⟩⟩
 ·have hx:x.1=n:=by have:=x.2;have:=Y0 hc;omega
  rw[hx]
def sT(L:List Wt):Option Ob:=some (.arr true 0 2 L.length (Y7 L))
theorem rZ(L:List Wt):D0 [sT L]:=B4 (λi _ t h=>by
 simp only[Y7,Wt.ts,vO,j_i,or_false] at h;rcases h with rfl|rfl<;>rfl) w7
def c5N:Con:=.rmk ⟨List Wt,λL=>[nI L],λ_=>[],λL=>.osl 0 0 L.length,λL=>[sT L],λL=>L.length<=1048576⟩
theorem c6r(L:List Wt)(h:
  ∀(b:Bool),(b=true->L.length=0)->br b (((0=0/\0=L.length)/\True)/\(0=L.length/\Z7 0 (λ(x:Nat)=>[]) (Y7 L))/\True) ((Le 0 0/\U8 0 L.length 16)/\((0=0/\0+L.length=L.length)/\True)/\(0+L.length=L.length/\Z7 (0+L.length) (X4 (λ(k:Nat)=>List.take 2 (List.drop (k*2) [])) 0 (Y7 L)) (Y7 L))/\True)):
  F8 prog 182 [nI L] [] (.osl 0 0 L.length) [sT L]:=
 C7 gN func182 Z3 b6v h
theorem c1u:GK 182 c5N:=gk func182<|λ(L:List Wt) (hL:L.length<=1048576)=>
 ⟨c6r L (λb B=>⟨λh=>⟨⟨⟨rfl,(B h).symm⟩,Z6⟩,⟨(B h).symm,λi hi=>absurd hi (D4 _)⟩,Z6⟩,λ_=>⟨⟨U9 _,R0⟩,⟨⟨rfl,Z9⟩,Z6⟩,⟨Z9,w6⟩,Z6⟩⟩),rfl,rZ L⟩
def c0U:Con:=.rmk ⟨List Wt,λL=>[nI L],λ_=>[],λL=>.osl 0 0 L.length,λL=>[sT L],λL=>L.length<=1048576⟩
theorem b5c:GK 90 c0U:=gk func90<|by
 intro(L:List Wt) (hL:L.length<=1048576);refine⟨C7 (gC c3D gN) func90 (c2O L) pZ (α:=let z:=(0=0/\L.length=L.length);let p:=(L.length:Int);(Nn p/\LeI p p/\yQ 16 p.toNat 140737488355328/\Lt p.toNat 9223372036854775808)/\(∃(x:Up L.length),((Z0 Y7 L L)/\(0=0/\p.toNat=L.length)/\0=(x.1:Int)/\True)/\(p.toNat=L.length/\Z7 p.toNat (λ(x:Nat)=>[Ji 0,Ji 0]) (yA (Y7 L) [Ji 0,Ji 0] x.1))/\True)/\∀(x:Up L.length),let r:=(yA (Y7 L) [Ji 0,Ji 0] x.1);let q:=(x.1:Int);let u:=(L.getD q.toNat dz);bd (q<p) (W9 q L.length/\∃(X:b7n.ι),(((u.tx=X.tx/\u.fo=X.fo/\True)/\True)/\True)/\W9 q L.length/\Lt (0+q.toNat) L.length/\Ri (q+1)/\∃(y:Up L.length),(((Z0 Y7 L L)/\z/\q+1=(y.1:Int)/\True)/\(L.length=L.length/\Z7 L.length (setRow r (0+q.toNat) 0 [Ji X.tx,Ji X.fo]) (yA (Y7 L) [Ji 0,Ji 0] y.1))/\True)/\Lt (L.length-y.1) (L.length-x.1)) ((z/\True)/\(L.length=L.length/\Z7 L.length r (Y7 L))/\True)) ⟨⟨m5,sG,sW,Q2⟩,⟨⟨0,N5 _⟩,⟨⟨S7,X6 _ _⟩,⟨S7,Z9⟩,Z8⟩,⟨Z9,uV⟩,Z6⟩,λx=>⟨λhc=>?_,λhc=>?_⟩⟩,rfl,rZ L⟩
 ·have hlt:=Y2 hc;refine⟨Y6 hlt,L.getD x.1 dz,Z8,Y6 hlt,Q2,W4 hlt Z9,⟨x.1+1,hlt⟩,⟨⟨⟨S7,X6 _ _⟩,⟨S7,S7⟩,M3,Z6⟩,⟨S7,λj hj=>?_⟩,Z6⟩,V5.ext_lt hlt⟩
  exact wZ (m:=2) (λ_=>rfl) rfl x.1 rfl j
 ·have hx:x.1=L.length:=by have:=x.2;have:=Y0 hc;omega
  rw[hx];exact⟨Z8,⟨rfl,λi hi=>uF (n:=L.length) i Z9⟩,Z6⟩
def B3(n k:Nat):List Wt:=(List.range n).map λi=>⟨((k+2*i:Nat):Int),((k+2*i:Nat):Int)+1⟩
def b4n:Con:=.reff ⟨List Wt×Nat,λx=>[.osl 0 0 x.1.length,Ji x.2],λx=>[sT x.1],λx=>Ji (x.2+2*x.1.length:Nat),λx=>[sT (B3 x.1.length x.2)],λx=>nT x.1.length x.2 2⟩
def b11(L:List Wt)(k:Nat):Nat->Ann
 |0=>.one (Up L.length) (λx=>⟨[(0,.osl 0 0 L.length),(1,Ji (k+2*x.1:Nat)),(5,Ji x.1)],[some (.arr true 0 2 L.length (j3 (Y7 (B3 L.length k)) (Y7 L) x.1))]⟩) (λx=>L.length-x.1) [.arr 0] [.arr 0] (λ_=>Z3)
 |_=>.none
theorem a7b:GK 110 b4n:=gk func110<|by
 rintro⟨L,k⟩ ⟨d,h,e⟩;dsimp only at d h e;refine C7 gN func110 (b11 L k) pZ (α:=let u:=(0=0/\L.length=L.length);let q:=(Y7 (B3 L.length k));(∃(x:Up L.length),(u/\(k:Int)=(↑(k+2*x.1):Int)/\0=(x.1:Int)/\True)/\(L.length=L.length/\Z7 L.length (Y7 L) (j3 q (Y7 L) x.1))/\True)/\∀(x:Up L.length),let v:=(j3 q (Y7 L) x.1);let r:=(x.1:Int);let z:=(0+r.toNat);let p:=(↑(k+2*x.1):Int);bd (r<(L.length:Int)) (W9 r L.length/\Lt z L.length/\Ri (p+1)/\W9 r L.length/\Lt z L.length/\Ri (p+1+1)/\Ri (r+1)/\∃(y:Up L.length),((u/\p+1+1=(↑(k+2*y.1):Int)/\r+1=(y.1:Int)/\True)/\(L.length=L.length/\Z7 L.length (setRow (setRow v z 0 [Ji p]) z 1 [Ji (p+1)]) (j3 q (Y7 L) y.1))/\True)/\Lt (L.length-y.1) (L.length-x.1)) ((p=(↑(k+2*L.length):Int)/\True)/\(L.length=(B3 L.length k).length/\Z7 L.length v q)/\True)) ⟨⟨⟨0,N5 _⟩,Z8,⟨rfl,xA⟩,Z6⟩,λx=>⟨λhc=>?_,λhc=>?_⟩⟩
 ·have hlt:=Y2 hc;have ib:=Y6 hlt;have lt:Lt (0+(x.1:Int).toNat) L.length:=by unfold Lt;omega
  refine⟨ib,lt,Z4 Z9,ib,lt,Z4 Z9,Z4 Z9,⟨x.1+1,hlt⟩,⟨⟨Z8,X5,X5,Z6⟩,⟨rfl,λj _=>?_⟩,Z6⟩,V5.ext_lt hlt⟩
  exact vA (m:=2) (λ_=>rfl) (λ_=>rfl) x.1 [(0,Ji (((k+2*x.1:Nat):Int))),(1,Ji (((k+2*x.1:Nat):Int)+1))] W7 (by unfold Y7 B3;rw[j7 _ hlt];rfl) j
 ·have hx:x.1=L.length:=by have:=x.2;have:=Y0 hc;omega
  rw[hx];exact⟨Z8,⟨(O4 _ _).symm,uE⟩,Z6⟩
def b2j:Con:=.rel ⟨Nat×Nat,λx=>[nI (B3 x.1 x.2),Ji x.2],λx=>Ji (x.2+2*x.1:Nat),λx=>nT x.1 x.2 2⟩
def b3S(n k:Nat):Nat->Ann
 |0=>.one (Up n) (λx=>⟨[(0,nI (B3 n k)),(1,Ji (k+2*x.1:Nat)),(5,Ji x.1)],[]⟩) (λx=>n-x.1) [] [] (λ_=>Z3)
 |_=>.none
theorem a8J:GK 115 b2j:=gk func115<|by
 rintro⟨n,k⟩ ⟨g,d,f⟩;dsimp only at g d f;have N:(B3 n k).length=n:=O4 _ _;refine U6 gN func115 (b3S n k) (α:=let v:=(Z0 Y7 (B3 n k) (B3 n k));let z:=(B3 n k).length;let r:=(↑(k+2*n):Int);(∃(x:Up n),(v/\(k:Int)=(↑(k+2*x.1):Int)/\0=(x.1:Int)/\True)/\True)/\∀(x:Up n),let q:=(x.1:Int);let u:=((B3 n k).getD q.toNat dz);let p:=(↑(k+2*x.1):Int);bd (q<(↑z:Int)) (W9 q z/\br (u.tx !=p) ((-1:Int)=r) (Ri (p+1)/\W9 q z/\br (u.fo !=p+1) ((-1:Int)=r) (Ri (p+1+1)/\Ri (q+1)/\∃(y:Up n),((v/\p+1+1=(↑(k+2*y.1):Int)/\q+1=(y.1:Int)/\True)/\True)/\Lt (n-y.1) (n-x.1)))) (p=r)) ⟨⟨⟨0,N5 _⟩,Z8⟩,λx=>⟨λhc=>?_,λhc=>?_⟩⟩
 ·have hlt:=Y2 hc;have hlt':x.1<n:=by omega
  have e:(B3 n k).getD (x.1:Int).toNat dz=⟨((k+2*x.1:Nat):Int),((k+2*x.1:Nat):Int)+1⟩:=by rw[E4];exact j7 _ hlt' _
  rw[e];have i:=Y6 hlt;exact⟨i,λh=>L6,λ_=>⟨Z4 Z9,i,λh=>L6,λ_=>⟨Z4 Z9,Z4 Z9,⟨x.1+1,hlt'⟩,⟨⟨Z8,X5,X5,Z6⟩,Z6⟩,V5.ext_lt hlt'⟩⟩⟩
 ·have hx:x.1=n:=by have:=x.2;have:=Y0 hc;omega
  rw[hx]
def c7K:Con:=.tmp
theorem P6:GK 35 c7K:=gk func35<|trivial
def c6J:Con:=.tmp
theorem b0e:GK 302 c6J:=gk func302<|trivial
def c7r:Con:=.tmp
theorem c3C:GK 223 c7r:=gk func223<|trivial
def Lks.tm(l:Lks)(b:Nat):List T:=[.osl b 0 l.H.length,.osl (b+1) 0 l.W.length]
def Lks.hp(l:Lks):X9:=[zB l.H,sT l.W]
theorem rD(l:Lks):D0 l.hp:=i7 (kI _) (rZ _)
def c13:Con:=.rmk ⟨Lks,λl=>[.agg l.ts],λ_=>[],λl=>.agg (l.tm 0),λl=>l.hp,uZ⟩
theorem b5l:GK 94 c13:=gk func94<|by
 rintro(l:Lks) ⟨h1,h2⟩;exact⟨C7 (gC b6f (gC c1u gN)) func94 Z3 [[.arr 2,.arr 3]] (α:=∃(x:(List Lck)),let p:=x.length;(((Z0 Z2 l.H x)/\True)/\p<=1048576)/\∃(X:(List Wt)),(((Z0 Y7 l.W X)/\True)/\X.length<=1048576)/\(((0=0/\p=l.H.length)/\(0=0/\X.length=l.W.length)/\True)/\True)/\(p=l.H.length/\Z7 (p) (Z2 x) (Z2 l.H))/\(X.length=l.W.length/\Z7 (X.length) (Y7 X) (Y7 l.W))/\True) ⟨l.H,⟨Z8,h1⟩,l.W,⟨Z8,h2⟩,Z8⟩,rfl,rD l⟩
def b9D:Con:=.rel ⟨Lks,λl=>[.agg l.ts],λl=>.agg l.ts,uZ⟩
theorem b3r:GK 84 b9D:=gk func84<|by
 rintro(l:Lks) ⟨h1,h2⟩;exact U6 (gC P6 (gC b0e (gC c3C gN))) func84 Z3 (α:=U8 0 l.H.length 32/\U8 0 l.W.length 16/\(Z0 Z2 l.H l.H)/\(Z0 Y7 l.W l.W)/\True) ⟨R0,R0,Z8⟩
def c3M:Con:=.rmk ⟨Lks,λl=>[.agg l.ts],λ_=>[],λl=>.agg (l.tm 0),λl=>l.hp,uZ⟩
theorem b6t:GK 38 c3M:=gk func38<|by
 rintro(l:Lks) ⟨h1,h2⟩;exact⟨C7 (gC b1I (gC b5c gN)) func38 Z3 [[.arr 3,.arr 4]] (α:=∃(x:(List Lck)),let p:=x.length;(((Z0 Z2 l.H x)/\True)/\p<=1048576)/\∃(X:(List Wt)),(((Z0 Y7 l.W X)/\True)/\X.length<=1048576)/\(((0=0/\p=l.H.length)/\(0=0/\X.length=l.W.length)/\True)/\True)/\(p=l.H.length/\Z7 (p) (Z2 x) (Z2 l.H))/\(X.length=l.W.length/\Z7 (X.length) (Y7 X) (Y7 l.W))/\True) ⟨l.H,⟨Z8,h1⟩,l.W,⟨Z8,h2⟩,Z8⟩,rfl,rD l⟩
def b6X(l:Lks)(k:Nat):Lks:=⟨M6 l.H.length k,B3 l.W.length (k+4*l.H.length)⟩
def bJ(l:Lks)(k:Nat):Nat:=k+4*l.H.length+2*l.W.length
def KBl(l:Lks)(k:Nat):Prop:=uZ l/\1<=k/\k<=9000000000000
def b3b:Con:=.reff ⟨Lks×Nat,λx=>[.agg (x.1.tm 0),Ji x.2],λx=>x.1.hp,λx=>Ji (bJ x.1 x.2),λx=>(b6X x.1 x.2).hp,λx=>KBl x.1 x.2⟩
theorem a5V:GK 50 b3b:=gk func50<|by
 rintro⟨l,k⟩ ⟨⟨e,h⟩,d,f⟩;dsimp only at e h d f;exact C7 (gC a5z (gC a7b gN)) func50 Z3 [[.arr 0,.arr 1]] (α:=∃(x:(List Lck×Nat)),(((0=0/\l.H.length=x.1.length)/\(k:Int)=(x.2:Int)/\True)/\((Z0 Z2 l.H x.1)/\True)/\nT x.1.length x.2 4)/\∃(X:(List Wt×Nat)),(((0=0/\l.W.length=X.1.length)/\(↑(x.2+4*x.1.length):Int)=(X.2:Int)/\True)/\((Z0 Y7 l.W X.1)/\True)/\nT X.1.length X.2 2)/\((↑(X.2+2*X.1.length):Int)=(↑(bJ l k):Int)/\True)/\(Z0 Z2 (M6 x.1.length x.2) (M6 l.H.length k))/\(Z0 Y7 (B3 X.1.length X.2) (B3 l.W.length (k+4*l.H.length)))/\True) ⟨(l.H,k),⟨Z8,Z8,e,d,X5⟩,(l.W,k+4*l.H.length),⟨Z8,Z8,h,X5,X5⟩,Z8⟩
def b2B:Con:=.rel ⟨Lks×Nat,λx=>[.agg (b6X x.1 x.2).ts,Ji x.2],λx=>Ji (bJ x.1 x.2),λx=>KBl x.1 x.2⟩
theorem ngN(n:Nat)(h:decide ((n:Int)<0)=true){p:Prop}:p:=absurd (G6 h) Z9
theorem a82:GK 53 b2B:=gk func53<|by
 rintro⟨l,k⟩ ⟨⟨f,d⟩,e,g⟩;dsimp only at f d e g;exact U6 (gC a25 (gC a8J gN)) func53 Z3 (α:=let p:=(↑(bJ l k):Int);∃(x:(Nat×Nat)),let q:=(↑(x.2+4*x.1):Int);(((Z0 Z2 (M6 l.H.length k) (M6 x.1 x.2))/\(k:Int)=(x.2:Int)/\True)/\nT x.1 x.2 4)/\bd (q<0) ((-1:Int)=p) (∃(X:(Nat×Nat)),let r:=(↑(X.2+2*X.1):Int);(((Z0 Y7 (B3 l.W.length (k+4*l.H.length)) (B3 X.1 X.2))/\q=(X.2:Int)/\True)/\nT X.1 X.2 2)/\bd (r<0) ((-1:Int)=p) (r=p))) ⟨(l.H.length,k),⟨Z8,f,e,X5⟩,λh=>ngN _ h,λ_=>⟨(l.W.length,k+4*l.H.length),⟨Z8,d,X5,X5⟩,λh=>ngN _ h,λ_=>rfl⟩⟩
def Eng.tm(e:Eng)(b:Nat):List T:=[.osl b 0 e.s.d.E.length,.osl (b+1) 0 e.s.d.C.length,.bool e.s.d.A,.osl (b+2) 0 e.s.d.keep.length,Ji e.s.ep,.osl (b+3) 0 e.s.L.length,Ji e.s.S,.osl (b+4) 0 e.s.fr.length,Ji e.s.J,.bool e.up,.osl (b+5) 0 e.X.length,.osl (b+6) 0 e.lk.H.length,.osl (b+7) 0 e.lk.W.length,Ji e.N]
def Eng.hp(e:Eng)(v:Nat):X9:=[A4 e.s.d.E,D5 e.s.d.C,A3 e.s.d.keep,k4 e.s.L,xD v e.s.fr e.s.fr.length,sQ e.X,zB e.lk.H,sT e.lk.W]
abbrev qD(a b:Eng):Prop:=Z0 Z5 a.s.d.E b.s.d.E/\Z0 Z1 a.s.d.C b.s.d.C/\a.s.d.A=b.s.d.A/\Z0 Y9 a.s.d.keep b.s.d.keep/\a.s.ep=b.s.ep/\Z0 Y1 a.s.L b.s.L/\a.s.S=b.s.S/\(a.s.fr.length=b.s.fr.length/\Z7 a.s.fr.length (a1y (Y5 a.s.fr)) (W2 b.s.fr))/\a.s.J=b.s.J/\a.up=b.up/\Z0 X2 a.X b.X/\Z0 Z2 a.lk.H b.lk.H/\Z0 Y7 a.lk.W b.lk.W/\a.N=b.N/\True
abbrev c0h(a b:Eng):Prop:=((0:Nat)=0/\a.s.d.E.length=b.s.d.E.length)/\((0:Nat)=0/\a.s.d.C.length=b.s.d.C.length)/\a.s.d.A=b.s.d.A/\((0:Nat)=0/\a.s.d.keep.length=b.s.d.keep.length)/\a.s.ep=b.s.ep/\((0:Nat)=0/\a.s.L.length=b.s.L.length)/\a.s.S=b.s.S/\((0:Nat)=0/\a.s.fr.length=b.s.fr.length)/\a.s.J=b.s.J/\a.up=b.up/\((0:Nat)=0/\a.X.length=b.X.length)/\((0:Nat)=0/\a.lk.H.length=b.lk.H.length)/\((0:Nat)=0/\a.lk.W.length=b.lk.W.length)/\a.N=b.N/\True
abbrev uL(v u:Nat)(a b:Eng):Prop:=Z0 Z5 a.s.d.E b.s.d.E/\Z0 Z1 a.s.d.C b.s.d.C/\Z0 Y9 a.s.d.keep b.s.d.keep/\Z0 Y1 a.s.L b.s.L/\(v=u/\a.s.fr.length=b.s.fr.length/\V2 a.s.fr.length (Y5 a.s.fr) (Y5 b.s.fr))/\Z0 X2 a.X b.X/\Z0 Z2 a.lk.H b.lk.H/\Z0 Y7 a.lk.W b.lk.W/\True
abbrev BxG(a b:Eng):Prop:=(1:Nat)=1/\(1:Nat)=1/\c0h a b
abbrev iQ(v u:Nat)(a b:Eng):Prop:=BxG a b/\uL v u a b
abbrev lP(v u:Nat)(a b:Eng):Prop:=BxG a b/\True/\True/\True/\True/\True/\True/\True/\True/\uL v u a b
abbrev LeG(a:Eng):Prop:=Le (0+a.s.d.E.length) a.s.d.E.length/\Le (0+a.s.d.C.length) a.s.d.C.length/\Le (0+a.s.d.keep.length) a.s.d.keep.length/\Le (0+a.s.L.length) a.s.L.length/\Le (0+a.s.fr.length) a.s.fr.length/\Le (0+a.X.length) a.X.length/\Le (0+a.lk.H.length) a.lk.H.length/\Le (0+a.lk.W.length) a.lk.W.length
theorem kK(e:Eng)(v:Nat):D0 (e.hp v):=i7 (H:=e.s.hp v) (rG _ _) (i7 (H:=[sQ e.X]) (kW _) (rD e.lk))
def c1Z:Con:=.rmk ⟨Eng,λe=>[.agg e.ts],λ_=>[],λe=>.agg (e.tm 0),λe=>e.hp 0,M2⟩
theorem b8P:GK 42 c1Z:=gk func42<|by
 rintro(e:Eng) ⟨h1,h2,h3⟩;exact⟨C7 (gC b40 (gC b7z (gC b5l gN))) func42 Z3 [[.arr 2,.arr 3,.arr 4,.arr 5,.arr 6,.arr 7,.arr 8,.arr 9]] (α:=∃(x:Sto),(((yU e.s x)/\True)/\iH x)/\∃(f:(List Txn)),let p:=f.length;(((Z0 X2 e.X f)/\True)/\p<=1048576)/\∃(X:Lks),((((Z0 Z2 e.lk.H X.H)/\(Z0 Y7 e.lk.W X.W)/\True)/\True)/\uZ X)/\(((0=0/\x.d.E.length=e.s.d.E.length)/\(0=0/\x.d.C.length=e.s.d.C.length)/\x.d.A=e.s.d.A/\(0=0/\x.d.keep.length=e.s.d.keep.length)/\x.ep=e.s.ep/\(0=0/\x.L.length=e.s.L.length)/\x.S=e.s.S/\(0=0/\x.fr.length=e.s.fr.length)/\x.J=e.s.J/\e.up=e.up/\(0=0/\p=e.X.length)/\(0=0/\X.H.length=e.lk.H.length)/\(0=0/\X.W.length=e.lk.W.length)/\e.N=e.N/\True)/\True)/\(Z0 Z5 x.d.E e.s.d.E)/\(Z0 Z1 x.d.C e.s.d.C)/\(Z0 Y9 x.d.keep e.s.d.keep)/\(Z0 Y1 x.L e.s.L)/\(0=0/\x.fr.length=e.s.fr.length/\V2 x.fr.length (Y5 x.fr) (Y5 e.s.fr))/\(p=e.X.length/\Z7 (p) (X2 f) (X2 e.X))/\(Z0 Z2 X.H e.lk.H)/\(Z0 Y7 X.W e.lk.W)/\True) ⟨e.s,⟨⟨(jV _),Z6⟩,h1⟩,e.X,⟨Z8,h2⟩,e.lk,⟨Z8,h3⟩,Z8⟩,rfl,kK e 0⟩
def b55:Con:=.rel ⟨Eng,λe=>[.agg e.ts],λe=>.agg e.ts,M2⟩
theorem b2T:GK 35 b55:=gk func35<|by
 rintro(e:Eng) ⟨h1,h2,h3⟩;exact U6 (gC b2v (gC b3r gN)) func35 Z3 (α:=let p:=(0+e.X.length);∃(x:Sto),let q:=x.fr.length;(((yU e.s x)/\True)/\iH x)/\(Le 0 0/\U8 0 e.X.length 16)/\∃(X:Lks),((((Z0 Z2 e.lk.H X.H)/\(Z0 Y7 e.lk.W X.W)/\True)/\True)/\uZ X)/\(Le (0+x.d.E.length) x.d.E.length/\Le (0+x.d.C.length) x.d.C.length/\Le (0+x.d.keep.length) x.d.keep.length/\Le (0+x.L.length) x.L.length/\Le (0+q) q/\Le (0+p) p)/\(Z0 Z5 x.d.E e.s.d.E)/\(Z0 Z1 x.d.C e.s.d.C)/\x.d.A=e.s.d.A/\(Z0 Y9 x.d.keep e.s.d.keep)/\x.ep=e.s.ep/\(Z0 Y1 x.L e.s.L)/\x.S=e.s.S/\(q=e.s.fr.length/\Z7 x.fr.length (a1y (Y5 x.fr)) (W2 e.s.fr))/\x.J=e.s.J/\e.up=e.up/\(0+e.X.length=e.X.length/\Z7 p (X4 (λ(k:Nat)=>List.take 2 (List.drop (k*2) [])) 0 (X2 e.X)) (X2 e.X))/\(Z0 Z2 X.H e.lk.H)/\(Z0 Y7 X.W e.lk.W)/\e.N=e.N/\True) ⟨e.s,⟨⟨(jV _),Z6⟩,h1⟩,⟨U9 _,R0⟩,e.lk,⟨Z8,h3⟩,⟨uA _,uA _,uA _,uA _,uA _,K2⟩,Z8,Z8,rfl,Z8,rfl,Z8,rfl,Z8,rfl,rfl,⟨Z9,w6⟩,Z8⟩
def c2y:Con:=.rmk ⟨Eng,λe=>[.agg e.ts],λ_=>[],λe=>.agg (e.tm 0),λe=>e.hp e.s.fr.length,M2⟩
theorem b8n:GK 10 c2y:=gk func10<|by
 rintro(e:Eng) ⟨h1,h2,h3⟩;exact⟨C7 (gC b9U (gC b2N (gC b6t gN))) func10 Z3 [[.arr 3,.arr 4,.arr 5,.arr 6,.arr 7,.arr 8,.arr 9,.arr 10]] (α:=∃(x:Sto),let q:=x.fr.length;(((yU e.s x)/\True)/\iH x)/\∃(f:(List Txn)),let p:=f.length;(((Z0 X2 e.X f)/\True)/\p<=1048576)/\∃(X:Lks),((((Z0 Z2 e.lk.H X.H)/\(Z0 Y7 e.lk.W X.W)/\True)/\True)/\uZ X)/\(((0=0/\x.d.E.length=e.s.d.E.length)/\(0=0/\x.d.C.length=e.s.d.C.length)/\x.d.A=e.s.d.A/\(0=0/\x.d.keep.length=e.s.d.keep.length)/\x.ep=e.s.ep/\(0=0/\x.L.length=e.s.L.length)/\x.S=e.s.S/\(0=0/\q=e.s.fr.length)/\x.J=e.s.J/\e.up=e.up/\(0=0/\p=e.X.length)/\(0=0/\X.H.length=e.lk.H.length)/\(0=0/\X.W.length=e.lk.W.length)/\e.N=e.N/\True)/\True)/\(Z0 Z5 x.d.E e.s.d.E)/\(Z0 Z1 x.d.C e.s.d.C)/\(Z0 Y9 x.d.keep e.s.d.keep)/\(Z0 Y1 x.L e.s.L)/\(q=e.s.fr.length/\q=e.s.fr.length/\V2 x.fr.length (Y5 x.fr) (Y5 e.s.fr))/\(p=e.X.length/\Z7 (p) (X2 f) (X2 e.X))/\(Z0 Z2 X.H e.lk.H)/\(Z0 Y7 X.W e.lk.W)/\True) ⟨e.s,⟨⟨(jV _),Z6⟩,h1⟩,e.X,⟨Z8,h2⟩,e.lk,⟨Z8,h3⟩,Z8⟩,rfl,kK e _⟩
def c89(e:Eng)(k:Nat):Eng:={e with s:=c5Q e.s k,X:=I8 e.X.length (K9 e.s k),lk:=b6X e.lk (K9 e.s k+2*e.X.length)}
def oR(e:Eng)(k:Nat):Nat:=bJ e.lk (K9 e.s k+2*e.X.length)
def KBg(e:Eng)(k:Nat):Prop:=M2 e/\1<=k/\k<=100000000
theorem a9Q{s:Sto}{k:Nat}(h:KBs s k):1<=K9 s k/\K9 s k<=5000000000000:=by
 obtain⟨⟨g,l,t,f⟩,j,r⟩:=h;have hd:O5 s.d k<=110000000:=by unfold O5;obtain⟨A,o,u⟩:=g;omega
 have e:1<=O5 s.d k:=by unfold O5;omega
 have hp:=iC (N6 s.fr) (O5 s.d k+10*s.L.length) (n:=s.fr.length) f;have q:O5 s.d k+10*s.L.length<=M0 (N6 s.fr) (O5 s.d k+10*s.L.length) s.fr.length:=yD (N6 s.fr) (O5 s.d k+10*s.L.length) (i:=0) (N5 _);unfold K9;omega
def b2t:Con:=.reff ⟨Eng×Nat×Nat,λx=>[.agg (x.1.tm 0),Ji x.2.1],λx=>x.1.hp x.2.2,λx=>Ji (oR x.1 x.2.1),λx=>(c89 x.1 x.2.1).hp x.2.2,λx=>KBg x.1 x.2.1⟩
theorem a6O:GK 14 b2t:=gk func14<|by
 rintro⟨e,k,v⟩ ⟨⟨j,i,n⟩,h,l⟩;dsimp only at j i n h l;have g:KBs e.s k:=⟨j,h,l⟩;obtain⟨o,q⟩:=a9Q g;exact C7 (gC a8p (gC a3r (gC a5V gN))) func14 Z3 [[.arr 0,.arr 1,.arr 2,.arr 3,.arr 4,.arr 5,.arr 6,.arr 7]] (α:=let q:=(vP e.s.fr.length (N6 e.s.fr) (O5 e.s.d k+10*e.s.L.length));∃(x:(Sto×Nat×Nat)),let u:=x.1.fr;let z:=x.2.1;let r:=x.1.d;let y:=r.E.length;let p:=(vP u.length (N6 u) (O5 x.1.d z+10*x.1.L.length));((((0=0/\e.s.d.E.length=y)/\(0=0/\e.s.d.C.length=r.C.length)/\e.s.d.A=r.A/\(0=0/\e.s.d.keep.length=r.keep.length)/\e.s.ep=x.1.ep/\(0=0/\e.s.L.length=x.1.L.length)/\e.s.S=x.1.S/\(0=0/\e.s.fr.length=u.length)/\e.s.J=x.1.J/\True)/\(k:Int)=(z:Int)/\True)/\((Z0 Z5 e.s.d.E r.E)/\(Z0 Z1 e.s.d.C r.C)/\(Z0 Y9 e.s.d.keep r.keep)/\(Z0 Y1 e.s.L x.1.L)/\(v=x.2.2/\e.s.fr.length=u.length/\V2 e.s.fr.length (Y5 e.s.fr) (Y5 u))/\True)/\KBs x.1 z)/\∃(f:(List Txn×Nat)),(((0=0/\e.X.length=f.1.length)/\(↑(K9 x.1 z):Int)=(f.2:Int)/\True)/\((Z0 X2 e.X f.1)/\True)/\nT f.1.length f.2 2)/\∃(X:(Lks×Nat)),((((0=0/\e.lk.H.length=X.1.H.length)/\(0=0/\e.lk.W.length=X.1.W.length)/\True)/\(↑(f.2+2*f.1.length):Int)=(X.2:Int)/\True)/\((Z0 Z2 e.lk.H X.1.H)/\(Z0 Y7 e.lk.W X.1.W)/\True)/\KBl X.1 X.2)/\((↑(bJ X.1 X.2):Int)=(↑(oR e k):Int)/\True)/\(Z0 Z5 (yT r.E.length z) (yT e.s.d.E.length k))/\(Z0 Z1 (vI r.C.length (z+y)) (vI e.s.d.C.length (k+e.s.d.E.length)))/\(Z0 Y9 (vG r.keep.length (z+y+2*r.C.length)) (vG e.s.d.keep.length (k+e.s.d.E.length+2*e.s.d.C.length)))/\(Z0 Y1 (i4 x.1.L.length (O5 x.1.d z)) (i4 e.s.L.length (O5 e.s.d k)))/\(x.2.2=v/\p.length=q.length/\V2 p.length (Y5 p) (Y5 q))/\(Z0 X2 (I8 f.1.length f.2) (I8 e.X.length (K9 e.s k)))/\(Z0 Z2 (M6 X.1.H.length X.2) (M6 e.lk.H.length (K9 e.s k+2*e.X.length)))/\(Z0 Y7 (B3 X.1.W.length (X.2+4*X.1.H.length)) (B3 e.lk.W.length (K9 e.s k+2*e.X.length+4*e.lk.H.length)))/\True) ⟨(e.s,k,v),⟨Z8,Z8,g⟩,(e.X,K9 e.s k),⟨Z8,Z8,i,o,X5⟩,(e.lk,K9 e.s k+2*e.X.length),⟨Z8,Z8,n,X5,X5⟩,Z8⟩
def b2I:Con:=.rel ⟨Eng×Nat,λx=>[.agg (c89 x.1 x.2).ts,Ji x.2],λx=>Ji (oR x.1 x.2),λx=>KBg x.1 x.2⟩
theorem a87:GK 15 b2I:=gk func15<|by
 rintro⟨e,k⟩ ⟨⟨j,i,n⟩,f,l⟩;dsimp only at j i n f l;have g:KBs e.s k:=⟨j,f,l⟩;obtain⟨o,q⟩:=a9Q g;exact U6 (gC a6b (gC a3R (gC a82 gN))) func15 Z3 (α:=let p:=((-1:Int)=(↑(oR e k):Int));∃(x:(Sto×Nat)),let u:=x.1.d;let q:=(↑(K9 x.1 x.2):Int);((((Z0 Z5 (yT e.s.d.E.length k) (yT u.E.length x.2))/\(Z0 Z1 (vI e.s.d.C.length (k+e.s.d.E.length)) (vI u.C.length (x.2+u.E.length)))/\e.s.d.A=u.A/\(Z0 Y9 (vG e.s.d.keep.length (k+e.s.d.E.length+2*e.s.d.C.length)) (vG u.keep.length (x.2+u.E.length+2*u.C.length)))/\e.s.ep=x.1.ep/\(Z0 Y1 (i4 e.s.L.length (O5 e.s.d k)) (i4 x.1.L.length (O5 x.1.d x.2)))/\e.s.S=x.1.S/\(Z0 W2 (vP e.s.fr.length (N6 e.s.fr) (O5 e.s.d k+10*e.s.L.length)) (vP x.1.fr.length (N6 x.1.fr) (O5 x.1.d x.2+10*x.1.L.length)))/\e.s.J=x.1.J/\True)/\(k:Int)=(x.2:Int)/\True)/\KBs x.1 x.2)/\bd (q<0) p (∃(X:(Nat×Nat)),let z:=(↑(X.2+2*X.1):Int);(((Z0 X2 (I8 e.X.length (K9 e.s k)) (I8 X.1 X.2))/\q=(X.2:Int)/\True)/\nT X.1 X.2 2)/\bd (z<0) p (∃(x:(Lks×Nat)),let r:=(↑(bJ x.1 x.2):Int);((((Z0 Z2 (M6 e.lk.H.length (K9 e.s k+2*e.X.length)) (M6 x.1.H.length x.2))/\(Z0 Y7 (B3 e.lk.W.length (K9 e.s k+2*e.X.length+4*e.lk.H.length)) (B3 x.1.W.length (x.2+4*x.1.H.length)))/\True)/\z=(x.2:Int)/\True)/\KBl x.1 x.2)/\bd (r<0) p (r=(↑(oR e k):Int))))) ⟨(e.s,k),⟨Z8,g⟩,λh=>ngN _ h,λ_=>⟨(e.X.length,K9 e.s k),⟨Z8,i,o,X5⟩,λh=>ngN _ h,λ_=>⟨(e.lk,K9 e.s k+2*e.X.length),⟨Z8,n,X5,X5⟩,λh=>ngN _ h,λ_=>rfl⟩⟩⟩
def Eng.tn(e:Eng)(a b c d f g h i:Nat):List T:=[.osl a 0 e.s.d.E.length,.osl b 0 e.s.d.C.length,.bool e.s.d.A,.osl c 0 e.s.d.keep.length,Ji e.s.ep,.osl d 0 e.s.L.length,Ji e.s.S,.osl f 0 e.s.fr.length,Ji e.s.J,.bool e.up,.osl g 0 e.X.length,.osl h 0 e.lk.H.length,.osl i 0 e.lk.W.length,Ji e.N]
def gS(l:List T):Option Ob:=some (.arr false 1000000 14 1 λ_=>l)
def Eng.bx(e:Eng)(v:Nat):X9:=[gS (e.tn 1 2 3 4 5 6 7 8),A4 e.s.d.E,D5 e.s.d.C,A3 e.s.d.keep,k4 e.s.L,xD v e.s.fr e.s.fr.length,sQ e.X,zB e.lk.H,sT e.lk.W]
def Eng.nx(e:Eng)(v:Nat):X9:=[gS (e.tn 9 10 11 12 13 14 15 16),none,none,none,none,none,none,none,none,A4 e.s.d.E,D5 e.s.d.C,A3 e.s.d.keep,k4 e.s.L,xD v e.s.fr e.s.fr.length,sQ e.X,zB e.lk.H,sT e.lk.W]
def uW:Eng:=⟨c9d,false,[],⟨[],[]⟩,0⟩
def apx(s:Sto)(r:Rec):Sto:=⟨s.d,s.ep,s.L++[P9 s r],s.S,s.fr,s.J⟩
def C1(e:Eng)(k:Nat)(r:Rec):Rec:={r with t:=(e.X.getD k dz).id,p:=(e.X.getD k dz).Z}
def F1(e:Eng)(k:Nat)(r:Rec):Eng:={e with s:=apx e.s (C1 e k r),X:=e.X.set k ⟨(e.X.getD k dz).id,(e.s.L.length:Int)+1⟩}
structure AddB(e:Eng)(tx:Int)(k:Nat)(r:Rec):Prop where
 at_:T9 e.X tx=k
 lt:k<e.X.length
 id:(e.X.getD k dz).id=tx
 ok:P0 (P9 e.s (C1 e k r))=true
 tl:e.X.length<=1000
 ll:e.s.L.length<=1000
 sm:SmR r
def c82:Con:=.reff ⟨Eng×Int×Rec×Nat×Nat,λx=>[.ref 0 0 0,Ji x.2.1,.agg x.2.2.1.ts],λx=>x.1.bx x.2.2.2.2,λx=>.agg (P9 x.1.s (C1 x.1 x.2.2.2.1 x.2.2.1)).ts,λx=>(F1 x.1 x.2.2.2.1 x.2.2.1).nx x.2.2.2.2,λx=>AddB x.1 x.2.1 x.2.2.2.1 x.2.2.1⟩
theorem a9J{L:List Txn}{k:Nat}{n:Int}(d:k<L.length)(j:Nat):setRow (X2 L) k 1 [Ji n] j=X2 (L.set k ⟨(L.getD k dz).id,n⟩) j:=by
 by_cases h:j=k
 ·subst h;rw[pE (by show 1<2;decide)]
  unfold X2;rw[P4 (l:=L.set j _),j_j d]
  rfl
 ·rw[L8 (by show 1+1<=2;decide) h]
  unfold X2;rw[P4 (l:=L.set k _),j_k (Ne.symm h),←P4]
theorem c2F{s:Sto}{r:Rec}(h:P0 (P9 s r)=true):Q5 s r=apx s r:=by unfold Q5;rw[if_pos h];rfl
theorem a4M(s:Sto)(r:Rec):(apx s r).L.getD s.L.length dz=P9 s r:=by
 show(s.L++[P9 s r]).getD _ _=_;rw[P4,qA (U9 _)]
 simp
theorem a5R:GK 119 c82:=gk func119<|by
 rintro⟨e,tx,r,k,v⟩ ⟨A,h,i,f,q,L,M⟩;dsimp only at A h i f q L M;have u:(apx e.s (C1 e k r)).L.length=e.s.L.length+1:=by show(e.s.L++[_]).length=_;simp
 have o:e.s.L.length<=60:=by
  have:=(Q4 _).1 f;have:=this.2.2.2.1;have B:(P9 e.s (C1 e k r)).l=(e.s.L.length:Int)+1:=rfl;omega
 refine C7 (gC qU (gC kJ gN)) func119 Z3 bC (α:=let c:=(e.s.L.length:Int);let f:=(e.s.L++[P9 e.s (C1 e k r)]);let m:=(e.X.getD k dz);let w:=(e.X.set k (Txn.mk m.id (c+1)));∃(x:(Eng×Int)),let y:=(0+(T9 x.1.X x.2).toNat);((LeG e)/\((qD e x.1)/\tx=x.2/\True)/\L7 x.1.X.length)/\W9 (T9 x.1.X x.2) e.X.length/\Lt y e.X.length/\∃(X:a5a.ι),let z:=(Q5 X.1 X.2.1);let j:=z.L.length;let q:=((bif y.beq y then(↑j:Int) else(e.X.getD y dz).Z)-1);let u:=(z.L.getD (0+q.toNat) dz);(((0=0/\0=0)/\(r.e=X.2.1.e/\r.l=X.2.1.l/\tx=X.2.1.t/\r.k=X.2.1.k/\(e.X.getD y dz).Z=X.2.1.p/\r.n=X.2.1.n/\r.g=X.2.1.g/\r.s=X.2.1.s/\r.b=X.2.1.b/\r.a=X.2.1.a/\True)/\True)/\(LnS (v) (X.2.2) e.s X.1)/\X.1.L.length<=60/\SmR X.2.1)/\Lt y e.X.length/\Lt y e.X.length/\Ri q/\W9 q j/\Lt (0+q.toNat) j/\((u.e=e.s.ep/\u.l=c+1/\u.t=m.id/\u.k=r.k/\u.p=m.Z/\u.n=r.n/\u.g=r.g/\u.s=r.s/\u.b=r.b/\u.a=r.a/\True)/\True)/\(1=1/\1=1/\(0=0/\z.d.E.length=e.s.d.E.length)/\(0=0/\z.d.C.length=e.s.d.C.length)/\z.d.A=e.s.d.A/\(0=0/\z.d.keep.length=e.s.d.keep.length)/\z.ep=e.s.ep/\(0=0/\j=f.length)/\z.S=e.s.S/\(0=0/\z.fr.length=e.s.fr.length)/\z.J=e.s.J/\e.up=e.up/\(0=0/\e.X.length=w.length)/\(0=0/\e.lk.H.length=e.lk.H.length)/\(0=0/\e.lk.W.length=e.lk.W.length)/\e.N=e.N/\True)/\True/\True/\True/\True/\True/\True/\True/\True/\(Z0 Z5 z.d.E e.s.d.E)/\(Z0 Z1 z.d.C e.s.d.C)/\(Z0 Y9 z.d.keep e.s.d.keep)/\(Z0 Y1 z.L f)/\(X.2.2=v/\z.fr.length=e.s.fr.length/\V2 z.fr.length (Y5 z.fr) (Y5 e.s.fr))/\(e.X.length=w.length/\Z7 e.X.length (setRow (X2 e.X) y 1 [Ji (↑j:Int)]) (X2 w))/\(Z0 Z2 e.lk.H e.lk.H)/\(Z0 Y7 e.lk.W e.lk.W)/\True) ⟨(e,tx),⟨Z8,Z8,rT⟩,?_⟩
 dsimp only;rw[A,E4,D6];refine⟨Y6 h,h,(e.s,C1 e k r,v),⟨⟨Z8,⟨rfl,rfl,i.symm,Z8⟩,Z6⟩,Z8,o,M⟩,h,h,?_⟩
 dsimp only;rw[c2F f,Nat.beq_refl,cond_true];have z:(0+(((apx e.s (C1 e k r)).L.length:Int)-1).toNat)=e.s.L.length:=Z9
 rw[z,a4M];refine⟨Z4 Z9,⟨Z9,Z9⟩,Q2,Z8,⟨rfl,rfl,Z8,Z8,rfl,Z8,rfl,Z8,rfl,Z8,rfl,rfl,⟨rfl,(b9 ..).symm⟩,Z8⟩,Z6,Z6,Z6,Z6,Z6,Z6,Z6,Z6,Z8,Z8,Z8,Z8,Z8,⟨(b9 ..).symm,λj _=>?_⟩,Z8⟩
 rw[a9J h,u];rfl
theorem u6{e:Eng}(h:R2 e=true):G2 e.s=true/\wD e=true/\(if e.up then upE e else a4h e)=true:=by
 unfold R2 sP at h;simp only[I4] at h;exact⟨h.1,h.2.1,h.2.2⟩
theorem c4e{e:Eng}(h:R2 e=true)(u:e.up=true):∀i,i<e.X.length->z4 e i=false:=by
 have d:=(u6 h).2.2;rw[if_pos u] at d;unfold upE at d;simp only[I4,wA] at d;exact P5.1 d.1.1.1
theorem c8Q{e:Eng}(h:R2 e=true)(u:e.up=true){i:Nat}(hi:i<e.X.length):1<=(e.X.getD i dz).id/\(e.X.getD i dz).id<=e.N-1:=by
 have:=c4e h u i hi;unfold z4 at this;simp only[wU,wX,K7] at this;exact this.1.1
theorem c6Z{s:Sto}(h:G2 s=true):1<=s.ep/\s.ep<=60:=by
 obtain⟨⟨d,_⟩,_⟩:=(G8 s).1 h;obtain⟨_,_,a,b,_⟩:=(o8 s).1 d;exact⟨a,b⟩
theorem lT{f g:Nat->List T}:X4 f 0 g=g:=funext λi=>by unfold X4;rw[show Nat.blt i 0=false from rfl];rfl
def c8I:Con:=.rel ⟨Sto×Rec,λx=>[.agg x.1.ts,.agg x.2.ts],λx=>.tup [.agg (apx x.1 x.2).ts,Ji (x.1.L.length+1:Nat)],λx=>x.1.L.length<=1000⟩
theorem c5E:GK 301 c8I:=gk func301<|by
 rintro⟨s,r⟩ (h:s.L.length<=1000);have l:(s.L++[P9 s r]).length=s.L.length+1:=W7
 refine U6 (gC P6 gN) func301 Z3 (α:=let u:=(0+s.L.length+1);let z:=(s.L.length:Int);let q:=(0+s.L.length);Ri (z+1)/\(Le 0 0/\U8 0 s.L.length 96)/\(Le q q/\U8 q 1 96)/\Le (0+u) u/\((Z0 Z5 s.d.E s.d.E)/\(Z0 Z1 s.d.C s.d.C)/\s.d.A=s.d.A/\(Z0 Y9 s.d.keep s.d.keep)/\s.ep=s.ep/\(0+s.L.length+1=(s.L++[P9 s r]).length/\Z7 u (X4 (X4 (λ(k:Nat)=>List.take 10 (List.drop (k*10) [])) 0 (Y1 s.L)) q λ(k:Nat)=>List.take 10 (List.drop (k*10) [Ji s.ep,Ji (z+1),Ji r.t,Ji r.k,Ji r.p,Ji r.n,Ji r.g,Ji r.s,T.str r.b,T.str r.a])) (Y1 (s.L++[P9 s r])))/\s.S=s.S/\(Z0 W2 s.fr s.fr)/\s.J=s.J/\True)/\z+1=(↑(s.L.length+1):Int)/\True) ⟨Z4 Z9,⟨U9 _,R0⟩,⟨U9 _,R0⟩,K2,⟨L0,L0,rfl,L0,rfl,⟨Z9,?_⟩,rfl,L0,Z8⟩,Z8⟩
 rw[D6,lT];exact iB s.L (P9 s r)
def c5i:Con:=.rfz ⟨Eng×Nat×Rec,λx=>[.agg x.1.ts,Ji x.2.1,.agg x.2.2.ts],λx=>.tup [.agg (F1 x.1 x.2.1 x.2.2).ts,Ji (x.1.s.L.length+1:Nat)],λx=>x.2.1<x.1.X.length/\x.1.X.length<=1000/\x.1.s.L.length<=1000⟩
theorem a1C:GK 223 c5i:=gk func223<|by
 rintro⟨e,k,r⟩ ⟨h,f,L⟩;dsimp only at h f L;refine U6 (gC c5E (gC P6 gN)) func223 Z3 (α:=let u:=(k:Int).toNat;let z:=(0+e.X.length);let q:=(e.X.set k (Txn.mk (e.X.getD k dz).id ((e.s.L.length:Int)+1)));W9 (k:Int) e.X.length/\W9 (k:Int) e.X.length/\∃(x:(Sto×Rec)),let v:=(↑(x.1.L.length+1):Int);(((yU e.s x.1)/\(r.e=x.2.e/\r.l=x.2.l/\(e.X.getD u dz).id=x.2.t/\r.k=x.2.k/\(e.X.getD u dz).Z=x.2.p/\r.n=x.2.n/\r.g=x.2.g/\r.s=x.2.s/\r.b=x.2.b/\r.a=x.2.a/\True)/\True)/\x.1.L.length<=1000)/\(Le 0 0/\U8 0 e.X.length 16)/\W9 (k:Int) z/\Lt (0+u) z/\Le (0+z) z/\((Z0 Z5 x.1.d.E e.s.d.E)/\(Z0 Z1 x.1.d.C e.s.d.C)/\x.1.d.A=e.s.d.A/\(Z0 Y9 x.1.d.keep e.s.d.keep)/\x.1.ep=e.s.ep/\(Z0 Y1 (x.1.L++[P9 x.1 x.2]) (e.s.L++[P9 e.s (C1 e k r)]))/\x.1.S=e.s.S/\(Z0 W2 x.1.fr e.s.fr)/\x.1.J=e.s.J/\e.up=e.up/\(0+e.X.length=q.length/\Z7 z (setRow (X4 (λ(k:Nat)=>List.take 2 (List.drop (k*2) [])) 0 (X2 e.X)) (0+u) 1 [Ji v]) (X2 q))/\(Z0 Z2 e.lk.H e.lk.H)/\(Z0 Y7 e.lk.W e.lk.W)/\e.N=e.N/\True)/\v=(↑(e.s.L.length+1):Int)/\True) ⟨Y6 h,Y6 h,(e.s,C1 e k r),⟨⟨jV _,⟨rfl,rfl,by rw[E4];rfl,rfl,by rw[E4];rfl,rfl,rfl,rfl,rfl,rfl,Z6⟩,Z6⟩,X5⟩,⟨U9 _,R0⟩,by rw[D6];exact Y6 h,Q2,K2,⟨Z8,Z8,rfl,Z8,rfl,Z8,rfl,Z8,rfl,rfl,⟨by rw[b9];omega,λj _=>?_⟩,Z8⟩,Z8⟩
 rw[E4,D6,lT];exact a9J h j
theorem leM{α:Type}(f:Nat->α)(n:Nat):Le (0+n) ((List.range n).map f).length:=by rw[O4];exact uA n
def dr(x:Bz):Nat->Bz
 |0=>x
 |i+1=>(dr x i).drop 1
def sK(x:Bz):Nat->Bool
 |0=>false
 |i+1=>sK x i||(dr x i).isEmpty
def rcE(x:Bz):Fst:=U2 (dr x 9) (sK x 9)
def rcX(x:Bz):Rec:=⟨numR (dr x 1),numR (dr x 2),numR (dr x 3),numR (dr x 4),numR (dr x 5),numR (dr x 6),numR (dr x 7),numR (dr x 8),(rcE x).out.getD 0 [],(rcE x).out.getD 1 []⟩
def q7(x:Bz):Bool:= !(!(rcE x).fl&&(rcE x).l.isEmpty)||numR x !=108||(((rcE x).out.length:Nat):Int) !=2
def a1v:Rec:=⟨0,0,0,0,0,0,0,0,[],[]⟩
def R8(b:Bz):Rec×Int:=if S0 b=true then
  if q7 (X1 b)=true then(a1v,3) else if P0 (rcX (X1 b))=true then(rcX (X1 b),0) else(a1v,3)
 else(a1v,8)
def c6F:Con:=.reff ⟨Bz×Nat,λ_=>[.ref 0 0 0],λx=>[rdr (dr x.1 x.2) (sK x.1 x.2)],λx=>Ji (numR (dr x.1 x.2)),λx=>[rdr (dr x.1 (x.2+1)) (sK x.1 (x.2+1))],λ_=>True⟩
theorem c1D:GK 321 c6F:=gk func321<|λx _=>eN.1 _ _ _ _ none rfl trivial
def a2y:Con:=.rel ⟨Bz,λb=>[.bys b],λb=>.tup [.agg (R8 b).1.ts,Ji (R8 b).2],RdB⟩
theorem c26(l:Bz)(n:Int)(d:0<=n)(h:n<=255):(T5 l n).length<=255:=by
 unfold T5;split
 ·rw[List.length_replicate];omega
 ·rw[List.length_take];omega
theorem cT{α:Type}(d:α)(L:List α)(x:α)(i:Nat)(hi:i<L.length+1):(L++[x]).getD i d=if i=L.length then x else L.getD i d:=by
 by_cases h:i=L.length
 ·subst h;rw[if_pos rfl,P4,qA (U9 _)]
  simp
 ·rw[if_neg h,P4,rL Z9,←P4]
theorem b9e(l:Bz)(fl:Bool):∀i j,((F5 l fl i).out.getD j []).length<=255
 |0,j=>N5 _
 |i+1,j=>by
  have h:=r9 (F5 l fl i).l;show(((F5 l fl i).out++[T5 ((F5 l fl i).l.drop 1) (numR (F5 l fl i).l)]).getD j []).length<=255;by_cases hj:j<(F5 l fl i).out.length+1
  ·rw[cT [] _ _ _ hj];split
   ·exact c26 _ _ h.1 Z9
   ·exact b9e l fl i j
  ·rw[P4,List.getElem?_eq_none (by rw[F6];simp;omega)]
   exact N5 _
theorem c4K{b:Bz}(h:S0 b=false):R8 b=(a1v,8):=by unfold R8;rw[if_neg cW]
theorem b7I{b:Bz}(h:S0 b=true)(B:q7 (X1 b)=true):R8 b=(a1v,3):=by unfold R8;rw[if_pos h,if_pos B]
theorem b6R{b:Bz}(h:S0 b=true)(B:q7 (X1 b)=false)(r:P0 (rcX (X1 b))=false):R8 b=(a1v,3):=by unfold R8;rw[if_pos h,if_neg (by rw[B];simp),if_neg (by rw[r];simp)]
theorem a8Z{b:Bz}(h:S0 b=true)(B:q7 (X1 b)=false)(r:P0 (rcX (X1 b))=true):R8 b=(rcX (X1 b),0):=by unfold R8;rw[if_pos h,if_neg (by rw[B];simp),if_pos r]
theorem bW:GK 238 a2y:=gk func238<|by
 intro(b:Bz) (hb:b.length<=1000);refine U6 (gC sJ (gC c1D (gC aY (gC qQ (gC tL gN))))) func238 Z3 (α:=let v:=((0=0/\0=0)/\True);let z:=(0=(R8 b).1.e/\0=(R8 b).1.l/\0=(R8 b).1.t/\0=(R8 b).1.k/\0=(R8 b).1.p/\0=(R8 b).1.n/\0=(R8 b).1.g/\0=(R8 b).1.s/\[]=(R8 b).1.b/\[]=(R8 b).1.a/\True);let pf:=(z/\3=(R8 b).2/\True);bd ((b.length:Int)>65536) (z/\2=(R8 b).2/\True) (∃(x:tF.ι),((b=x/\True)/\v7 x)/\br (!S0 x) (z/\8=(R8 b).2/\True) (∃(r:(Bz×Nat)),(v/\((1=1/\Z7 1 (λ(d:Nat)=>[T.bys (X1 x),T.bool false]) λ(x:Nat)=>[T.bys (dr r.1 r.2),T.bool (sK r.1 r.2)])/\True)/\True)/\∃(x:(Bz×Nat)),let w:=(dr x.1 x.2);(v/\((1=1/\Z7 1 (λ(x:Nat)=>[T.bys (dr r.1 (r.2+1)),T.bool (sK r.1 (r.2+1))]) λ(d:Nat)=>[T.bys w,T.bool (sK x.1 x.2)])/\True)/\True)/\∃(d:(Bz×Nat)),let m:=(dr d.1 d.2);(v/\((1=1/\Z7 1 (λ(f:Nat)=>[T.bys (dr x.1 (x.2+1)),T.bool (sK x.1 (x.2+1))]) λ(x:Nat)=>[T.bys m,T.bool (sK d.1 d.2)])/\True)/\True)/\∃(f:(Bz×Nat)),let c:=(dr f.1 f.2);(v/\((1=1/\Z7 1 (λ(x:Nat)=>[T.bys (dr d.1 (d.2+1)),T.bool (sK d.1 (d.2+1))]) λ(x:Nat)=>[T.bys c,T.bool (sK f.1 f.2)])/\True)/\True)/\∃(q:(Bz×Nat)),let pa:=(dr q.1 q.2);(v/\((1=1/\Z7 1 (λ(x:Nat)=>[T.bys (dr f.1 (f.2+1)),T.bool (sK f.1 (f.2+1))]) λ(x:Nat)=>[T.bys pa,T.bool (sK q.1 q.2)])/\True)/\True)/\∃(o:(Bz×Nat)),let pb:=(dr o.1 o.2);(v/\((1=1/\Z7 1 (λ(x:Nat)=>[T.bys (dr q.1 (q.2+1)),T.bool (sK q.1 (q.2+1))]) λ(x:Nat)=>[T.bys pb,T.bool (sK o.1 o.2)])/\True)/\True)/\∃(i:(Bz×Nat)),let pc:=(dr i.1 i.2);(v/\((1=1/\Z7 1 (λ(x:Nat)=>[T.bys (dr o.1 (o.2+1)),T.bool (sK o.1 (o.2+1))]) λ(x:Nat)=>[T.bys pc,T.bool (sK i.1 i.2)])/\True)/\True)/\∃(j:(Bz×Nat)),let pd:=(dr j.1 j.2);(v/\((1=1/\Z7 1 (λ(x:Nat)=>[T.bys (dr i.1 (i.2+1)),T.bool (sK i.1 (i.2+1))]) λ(x:Nat)=>[T.bys pd,T.bool (sK j.1 j.2)])/\True)/\True)/\∃(X:(Bz×Nat)),let pe:=(dr X.1 X.2);let u:=(U2 (dr X.1 (X.2+1)) (sK X.1 (X.2+1)));let y:=u.out;(v/\((1=1/\Z7 1 (λ(x:Nat)=>[T.bys (dr j.1 (j.2+1)),T.bool (sK j.1 (j.2+1))]) λ(x:Nat)=>[T.bys pe,T.bool (sK X.1 X.2)])/\True)/\True)/\br (!(! u.fl&&u.l.isEmpty)||numR (dr r.1 r.2) !=108||(↑y.length:Int) !=2) pf (W9 (0:Int) y.length/\W9 (1:Int) y.length/\b3G (y.getD 1 [])/\br (!P0 (Rec.mk (numR w) (numR m) (numR c) (numR pa) (numR pb) (numR pc) (numR pd) (numR pe) (y.getD 0 []) (y.getD 1 []))) pf ((numR w=(R8 b).1.e/\numR m=(R8 b).1.l/\numR c=(R8 b).1.t/\numR pa=(R8 b).1.k/\numR pb=(R8 b).1.p/\numR pc=(R8 b).1.n/\numR pd=(R8 b).1.g/\numR pe=(R8 b).1.s/\y.getD 0 []=(R8 b).1.b/\y.getD 1 []=(R8 b).1.a/\True)/\0=(R8 b).2/\True))))) ⟨λh=>by have:=G6 h;omega,λ_=>⟨b,⟨Z8,aC⟩,λh=>?_,λh=>⟨(X1 b,0),⟨L0,Z8⟩,(X1 b,1),⟨L0,Z8⟩,(X1 b,2),⟨L0,Z8⟩,(X1 b,3),⟨L0,Z8⟩,(X1 b,4),⟨L0,Z8⟩,(X1 b,5),⟨L0,Z8⟩,(X1 b,6),⟨L0,Z8⟩,(X1 b,7),⟨L0,Z8⟩,(X1 b,8),⟨L0,Z8⟩,λhc=>?_,λhc=>?_⟩⟩⟩
 ·rw[c4K x8]
  exact L0
 ·rw[b7I x8 hc]
  exact L0
 ·have hu:S0 b=true:=by simpa using h
  have hc:q7 (X1 b)=false:=hc;have u:(rcE (X1 b)).out.length=2:=by
   unfold q7 at hc;simp only[wU,bne_eq_false_iff_eq] at hc;omega
  refine⟨⟨Z9,by show(0:Int)<((rcE (X1 b)).out.length:Int);omega⟩,⟨Z9,by show(1:Int)<((rcE (X1 b)).out.length:Int);omega⟩,by have:=b9e (dr (X1 b) 9) (sK (X1 b) 9) (numR (dr (X1 b) 9)).toNat 1;unfold b3G;show((F5 (dr (X1 b) 9) (sK (X1 b) 9) (numR (dr (X1 b) 9)).toNat).out.getD 1 []).length<_;omega,λR=>?_,λR=>?_⟩
  ·have R:(!P0 (rcX (X1 b)))=true:=by
    unfold rcX rcE;dsimp only[Nat.reduceAdd] at R ⊢;exact R
   have R:P0 (rcX (X1 b))=false:=by rw[wA] at R;exact R
   rw[b6R hu hc R];exact L0
  ·have R:(!P0 (rcX (X1 b)))=false:=by
    unfold rcX rcE;dsimp only[Nat.reduceAdd] at R ⊢;exact R
   have R:P0 (rcX (X1 b))=true:=by rw[wX] at R;exact R
   rw[a8Z hu hc R];unfold rcX rcE;dsimp only[Nat.reduceAdd];exact Z8
def lgR(d:Dsk)(i:Nat):Rec×Int:=R8 (S1 d (9+i))
def lgE(d:Dsk)(i:Nat):Int:=if i=0 then 1 else(lgR d (i-1)).1.e
def lgB(d:Dsk)(ep:Int)(i:Nat):Bool:=((lgR d i).2 !=0||(lgR d i).1.l !=(i:Int)+1|| !V9 (lgR d i).1.e (lgE d i) ep)
def zE(d:Dsk)(m:Nat):List Rec:=(List.range m).map λi=>(lgR d i).1
def nR(d:Dsk)(ep:Int):Nat:=if S6 (d.E.length-9) (lgB d ep)= -1 then d.E.length-9 else(S6 (d.E.length-9) (lgB d ep)).toNat
def LgS(x:Dsk×Int):Prop:=G4 x.1
def b2i(d:Dsk)(ep:Int):Nat->Ann
 |0=>.one (V5 (d.E.length-9) (lgB d ep)) (λx=>⟨[(1,Ji ep),(2,.ref 0 0 0),(5,.osl 1 0 x.1),(6,Ji (lgE d x.1)),(7,Ji (9+x.1:Nat))],[dH d,k4 (zE d x.1)]⟩) (λx=>d.E.length-x.1) b5m [.box 0,.arr 3] (λ_=>Z3)
 |_=>.none
def b29:Con:=.rmk ⟨Dsk×Int,λx=>[.agg x.1.ts,Ji x.2],λ_=>[],λx=>.osl 0 0 (nR x.1 x.2),λx=>[k4 (zE x.1 (nR x.1 x.2))],LgS⟩
theorem yE(d:Dsk)(m:Nat):(zE d m).length=m:=by unfold zE;simp
theorem c6e(d:Dsk){m i:Nat}(h:i<m):(zE d m).getD i dz=(lgR d i).1:=by
 unfold zE;rw[P4,oG,List.getElem?_range h]
 rfl
theorem a4f(d:Dsk)(m:Nat):zE d (m+1)=zE d m++[(lgR d m).1]:=by
 unfold zE;rw[List.range_succ,List.map_append];rfl
theorem b72{d:Dsk}{ep:Int}{m:Nat}(M:m<d.E.length-9)(h:lgB d ep m=true)(hp:∀i,i<m->lgB d ep i=false):nR d ep=m:=by
 unfold nR;rw[O0 M h hp,if_neg Z9,E4]
theorem b1l{d:Dsk}{ep:Int}{m:Nat}(h:m=d.E.length-9)(hp:∀i,i<m->lgB d ep i=false):nR d ep=m:=by
 unfold nR;rw[K4 (λi hi=>hp i Z9),if_pos rfl,h]
theorem a9h:GK 143 b29:=gk func143<|by
 rintro⟨d,ep⟩ (hd:G4 d);have h:=hd;obtain⟨Q,o,j,q,_⟩:=h;refine⟨C7 (gC P6 (gC dQ (gC bW (gC O3 gN)))) func143 (b2i d ep) [[.arr 1]] (α:=let u:=(1=1/\1=1/\zN d d);(∃(x:V5 (d.E.length-9) (lgB d ep)),(ep=ep/\(0=0/\0=0)/\(0=0/\0=x.1)/\1=lgE d x.1/\9=(↑(9+x.1):Int)/\True)/\u/\(0=(zE d x.1).length/\Z7 0 (λ(k:Nat)=>List.take 10 (List.drop (k*10) [])) (Y1 (zE d x.1)))/\True)/\∀(x:V5 (d.E.length-9) (lgB d ep)),let z:=x.1;let r:=(↑(9+z):Int);let q:=(((0=0/\z=nR d ep)/\True)/\(Z0 Y1 (zE d z) (zE d (nR d ep)))/\True);bd (r<(d.E.length:Int)) (∃(f:oH.ι),(((zN d f.1)/\r=(f.2:Int)/\True)/\AtB f)/\Lt (S1 f.1 f.2).length 140737488355329/\∃(X:(Bz)),let v:=(R8 X).1.e;((S1 f.1 f.2=X/\True)/\RdB X)/\(((R8 X).2 !=0)=false->Ri ((z:Int)+1))/\br ((R8 X).2 !=0||(R8 X).1.l !=(z:Int)+1|| !V9 v (lgE d z) ep) q ((Le x.1 (zE d z).length/\U8 x.1 1 96)/\Ri (r+1)/\∃(y:V5 (d.E.length-9) (lgB d ep)),((ep=ep/\(0=0/\0=0)/\(0=0/\z+1=y.1)/\v=lgE d y.1/\r+1=(↑(9+y.1):Int)/\True)/\u/\(z+1=(zE d y.1).length/\Z7 (z+1) (X4 (Y1 (zE d z)) x.1 λ(k:Nat)=>List.take 10 (List.drop (k*10) [Ji v,Ji (R8 X).1.l,Ji (R8 X).1.t,Ji (R8 X).1.k,Ji (R8 X).1.p,Ji (R8 X).1.n,Ji (R8 X).1.g,Ji (R8 X).1.s,T.str (R8 X).1.b,T.str (R8 X).1.a])) (Y1 (zE d y.1)))/\True)/\Lt (d.E.length-y.1) (d.E.length-z))) q) ⟨⟨F9,Z8,Z8,⟨(yE d 0).symm,P1⟩,Z6⟩,λx=>⟨λhc=>?_,λhc=>?_⟩⟩,rfl,qH _⟩
 ·have hc:9+x.1<d.E.length:=by have:=G6 hc;omega
  have i:=lY hd hc;have hx:=yE d x.1;refine⟨(d,9+x.1),⟨Z8,hc,X5⟩,K0,S1 d (9+x.1),⟨Z8,by show(S1 d (9+x.1)).length<=1000;omega⟩,λ_=>Z4 Z9,λhb=>?_,λhb=>?_⟩
  ·have hb:lgB d ep x.1=true:=hb;rw[b72 Z9 hb x.2.2]
   exact Z8
  ·have hb:lgB d ep x.1=false:=hb;refine⟨⟨by rw[hx];exact U9 _,R0⟩,Z4 Z9,x.succ Z9 hb,⟨⟨rfl,Z8,Z8,?_,by dsimp only[V5.succ];omega,Z6⟩,⟨rfl,rfl,eqD _⟩,⟨(yE d (x.1+1)).symm,?_⟩,Z6⟩,by unfold Lt;dsimp only[V5.succ];omega⟩
   ·dsimp only[V5.succ];unfold lgE;rw[if_neg Z9]
    rfl
   ·show Z7 _ _ (Y1 (zE d (x.1+1)));rw[a4f];have:=iB (zE d x.1) (lgR d x.1).1;rw[hx] at this;exact this
 ·have hx:x.1=d.E.length-9:=by have:=x.2.1;have:=m9 hc;omega
  rw[b1l hx x.2.2];exact Z8
theorem c7P{r:Bz}(R:0<r.length):(∃out,Q3 r=some out/\out.length=2/\U2 r false=⟨[],false,out⟩)∨((∀out,Q3 r=some out->out.length≠2)/\(!(!(U2 r false).fl&&(U2 r false).l.isEmpty)||(((U2 r false).out.length:Nat):Int) !=2)=true):=by
 have d:=b5C r R (C4 r);have n:(numR r).toNat=C4 r:=by unfold numR C4;exact E4 _
 have e:U2 r false=F5 r false (C4 r):=by unfold U2;rw[n]
 have hall:Q3 r=if C4 r>100 then none else match xO r (C4 r) with
   |some (p,out)=>if p=r.length then some out else none
   |none=>none:=by
  unfold Q3;by_cases hc:C4 r>100
  ·rw[if_pos (.inr hc),if_pos hc]
  ·rw[if_neg Z9,if_neg hc]
   rfl
 rw[e];cases f:xO r (C4 r) with
 |none=>
  rw[f] at d hall;simp only at d;have hall:Q3 r=none:=by rw[hall];split<;>rfl
  refine .inr ⟨λout h=>(by rw[hall] at h;cases h),?_⟩
  rw[d];rfl
 |some y=>
  obtain⟨p,out⟩:=y;rw[f] at d hall;simp only at d hall;obtain⟨d,L⟩:=d;rw[d];have O:out.length=C4 r:=fS f;by_cases hp:p=r.length
  ·have hem:r.drop p=[]:=by rw[List.drop_eq_nil_iff];omega
   rw[if_pos hp] at hall;by_cases g:out.length=2
   ·rw[if_neg Z9] at hall
    exact .inl ⟨out,hall,g,by rw[hem]⟩
   ·refine .inr ⟨λo h=>?_,?_⟩
    ·rw[hall] at h;split at h
     ·cases h
     ·cases h;exact g
    ·simp only[bne_iff_ne.2 (show((out.length:Nat):Int)≠2 by omega),Bool.or_true]
  ·have hem:(r.drop p).isEmpty=false:=by
    rw[Bool.eq_false_iff,ne_eq,List.isEmpty_iff,List.drop_eq_nil_iff];omega
   have hall:Q3 r=none:=by rw[hall,if_neg hp];split<;>rfl
   refine .inr ⟨λout h=>(by rw[hall] at h;cases h),?_⟩
   simp[hem]
theorem mY(x:Bz):∀i,dr x i=x.drop i
 |0=>rfl
 |i+1=>by
  show(dr x i).drop 1=_;rw[mY x i,List.drop_drop]
theorem a1s(x:Bz):∀i,sK x i=decide (x.length<i)
 |0=>rfl
 |i+1=>by
  show(sK x i||(dr x i).isEmpty)=_;rw[a1s x i,mY,Bool.eq_iff_iff,nV,q8,List.isEmpty_iff,List.drop_eq_nil_iff,q8];omega
theorem b36{x:Bz}(h:x.length<10):q7 x=true:=by
 have f:(rcE x).fl=true:=by
  unfold rcE;rw[mY,a1s];by_cases d:x.length=9
  ·rw[List.drop_eq_nil_iff.2 Z9]
   exact a7u _ _
  ·rw[mR Z9]
   exact a14 _ _
 unfold q7;rw[f];rfl
def wM(t:Bz):{r:Bz×Bool//r=(X1 t,S0 t)}:=Classical.choice ⟨⟨_,rfl⟩⟩
def a1l:Con:=.rel ⟨Bz,λt=>[.str t],λt=>.tup [.str (wM t).1.1,.bool (wM t).1.2],v7⟩
theorem bQ:GK 217 a1l:=gk func217<|by
 intro(t:Bz) ht;have h:=mZ.1 t ht;have d:(wM t).1.1=X1 t:=by rw[(wM t).2]
 have e:(wM t).1.2=S0 t:=by rw[(wM t).2]
 show V3 _ _ _ (.tup [.str (wM t).1.1,.bool (wM t).1.2]);rw[d,e];exact h
def bP(t:Bz):{r:List (Bz)×Bool//r=((Q3 t).getD [],(Q3 t).isSome)}:=Classical.choice ⟨⟨_,rfl⟩⟩
def a8j:Con:=.rel ⟨Bz,λt=>[.str t],λt=>.tup [u4 (bP t).1.1,.bool (bP t).1.2],v7⟩
theorem a5N:GK 298 a8j:=gk func298<|by
 intro(t:Bz) ht;have h:=fN.1 t ht;have d:(bP t).1.1=(Q3 t).getD []:=by rw[(bP t).2]
 have e:(bP t).1.2=(Q3 t).isSome:=by rw[(bP t).2]
 show V3 _ _ _ (.tup [u4 (bP t).1.1,.bool (bP t).1.2]);rw[d,e];exact h
def l4p(t:Bz):{r:Rec×Bool//r=(if S0 t=true/\q7 (X1 t)=false then rcX (X1 t) else a1v,(R8 t).2==0)}:=Classical.choice ⟨⟨_,rfl⟩⟩
def y4(t:Bz):Rec:=(l4p t).1.1
def l4k(t:Bz):Bool:=(l4p t).1.2
theorem b8a(t:Bz):y4 t=if S0 t=true/\q7 (X1 t)=false then rcX (X1 t) else a1v:=by unfold y4;rw[(l4p t).2]
theorem a6w(t:Bz):l4k t=((R8 t).2==0):=by unfold l4k;rw[(l4p t).2]
def b3e:Con:=.rel ⟨Bz,λt=>[.str t],λt=>.tup [.agg (y4 t).ts,.bool (l4k t)],RdB⟩
theorem b9X{x:Bz}(h:10<=x.length):rcE x=U2 (x.drop 9) false:=by
 unfold rcE;rw[mY,a1s,tQ Z9]
theorem c5W(x:Bz)(i:Nat):IntKind.i64.wrap ((x.getD i 0).toNat:Int)=numR (dr x i):=by
 rw[uP,mY];unfold numR;rw[P4,P4,List.getElem?_drop,Nat.add_zero]
theorem b79{t:Bz}(h:¬ (S0 t=true/\q7 (X1 t)=false)):y4 t=a1v/\l4k t=false:=by
 rw[b8a,a6w,if_neg h];refine⟨rfl,?_⟩
 cases u:S0 t with
 |false=>rw[c4K u];rfl
 |true=>
  cases B:q7 (X1 t) with
  |true=>rw[b7I u B];rfl
  |false=>exact absurd ⟨u,B⟩ h
theorem a8F{t:Bz}(h:S0 t=true)(B:q7 (X1 t)=false):y4 t=rcX (X1 t)/\l4k t=P0 (rcX (X1 t)):=by
 rw[b8a,a6w,if_pos ⟨h,B⟩];refine⟨rfl,?_⟩
 cases r:P0 (rcX (X1 t)) with
 |true=>rw[a8Z h B r];rfl
 |false=>rw[b6R h B r];rfl
theorem c5p(t:Bz):(X1 t).length<=t.length:=by
 unfold X1;split
 ·rw[List.length_take];omega
 ·exact N5 _
theorem a5O:GK 218 b3e:=gk func218<|by
 intro(t:Bz) (hb:t.length<=1000);have v:=c5p t;have o:(wM t).1.1=X1 t:=by rw[(wM t).2]
 have u:(wM t).1.2=S0 t:=by rw[(wM t).2]
 have z:∀{p:Bool},(¬ (S0 t=true/\q7 (X1 t)=false))->((0:Int)=(y4 t).e/\(0:Int)=(y4 t).l/\(0:Int)=(y4 t).t/\(0:Int)=(y4 t).k/\(0:Int)=(y4 t).p/\(0:Int)=(y4 t).n/\(0:Int)=(y4 t).g/\(0:Int)=(y4 t).s/\[]=(y4 t).b/\[]=(y4 t).a/\True)/\false=l4k t/\True:=λh=>by
  rw[(b79 h).1,(b79 h).2];exact Z8
 refine U6 (gC bQ (gC a5N (gC lU gN))) func218 Z3 (α:=let u:=(0:UInt8);let z:=((0=(y4 t).e/\0=(y4 t).l/\0=(y4 t).t/\0=(y4 t).k/\0=(y4 t).p/\0=(y4 t).n/\0=(y4 t).g/\0=(y4 t).s/\[]=(y4 t).b/\[]=(y4 t).a/\True)/\false=l4k t/\True);∃(x:(Bz)),let r:=(wM x).val.fst.length;let q:=(wM x).val.fst.getD;let pa:=(↑(q 8 u).toNat:Int);let i:=(↑(q 7 u).toNat:Int);let d:=(↑(q 6 u).toNat:Int);let c:=(↑(q 5 u).toNat:Int);let f:=(↑(q 4 u).toNat:Int);let m:=(↑(q 3 u).toNat:Int);let j:=(↑(q 2 u).toNat:Int);let w:=(↑(q 1 u).toNat:Int);((t=x/\True)/\v7 x)/\((!(wM x).val.snd||decide ((↑r:Int)<10))=false->W9 (0:Int) r)/\br (!(wM x).val.snd||decide ((↑r:Int)<10)||(↑(q 0 u).toNat:Int) !=108) z (kB (9:Int) r/\∃(X:(Bz)),let y:=(bP X).val.fst.length;let v:=(bP X).val.fst.getD;((List.drop 9 (wM x).val.fst=X/\True)/\v7 X)/\br (!(bP X).val.snd||(↑y:Int) !=2) z (W9 (1:Int) r/\W9 (2:Int) r/\W9 (3:Int) r/\W9 (4:Int) r/\W9 (5:Int) r/\W9 (6:Int) r/\W9 (7:Int) r/\W9 (8:Int) r/\W9 (0:Int) y/\W9 (1:Int) y/\L7 (v 1 []).length/\(IntKind.i64.wrap w=(y4 t).e/\IntKind.i64.wrap j=(y4 t).l/\IntKind.i64.wrap m=(y4 t).t/\IntKind.i64.wrap f=(y4 t).k/\IntKind.i64.wrap c=(y4 t).p/\IntKind.i64.wrap d=(y4 t).n/\IntKind.i64.wrap i=(y4 t).g/\IntKind.i64.wrap pa=(y4 t).s/\v 0 []=(y4 t).b/\v 1 []=(y4 t).a/\True)/\P0 (Rec.mk (IntKind.i64.wrap w) (IntKind.i64.wrap j) (IntKind.i64.wrap m) (IntKind.i64.wrap f) (IntKind.i64.wrap c) (IntKind.i64.wrap d) (IntKind.i64.wrap i) (IntKind.i64.wrap pa) (v 0 []) (v 1 []))=l4k t/\True))) ⟨t,⟨Z8,aC⟩,?_⟩
 rw[o,u];refine⟨λh=>?_,λh=>z (p:=true) λq=>?_,λh=>?_⟩
 ·simp only[wU,uI] at h;exact⟨Z9,Z9⟩
 ·obtain⟨hu,R⟩:=q;have hl:10<=(X1 t).length:=by
   by_cases hl:(X1 t).length<10
   ·rw[b36 hl] at R;cases R
   ·omega
  have h108:numR (X1 t)=108:=by
   unfold q7 at R;simp only[wU,bne_eq_false_iff_eq] at R;exact R.1.2
  have h108:(((X1 t).getD 0 0).toNat:Int)=108:=h108;rw[hu,h108,tQ Z9] at h
  cases h
 ·simp only[wU,uI,wX,bne_eq_false_iff_eq] at h;obtain⟨⟨hu,hl⟩,h108⟩:=h;have hl:10<=(X1 t).length:=by omega
  have N:numR (X1 t)=108:=h108;have j:(bP ((X1 t).drop 9)).1.1=(Q3 ((X1 t).drop 9)).getD []:=by rw[(bP _).2]
  have F:(bP ((X1 t).drop 9)).1.2=(Q3 ((X1 t).drop 9)).isSome:=by rw[(bP _).2]
  have hd:((X1 t).drop 9).length=(X1 t).length-9:=List.length_drop;refine⟨⟨Z9,Z9⟩,(X1 t).drop 9,⟨Z8,aC⟩,?_⟩
  rw[j,F];have hbad:q7 (X1 t)=(!(!(U2 ((X1 t).drop 9) false).fl&&(U2 ((X1 t).drop 9) false).l.isEmpty)||(((U2 ((X1 t).drop 9) false).out.length:Nat):Int) !=2):=by
   unfold q7;rw[b9X hl,N];simp
  rcases c7P (r:=(X1 t).drop 9) Z9 with⟨out,A,h2,hf⟩|⟨A,hf⟩
  ·have hg:q7 (X1 t)=false:=by rw[hbad,hf,h2];rfl
   have d:(rcE (X1 t)).out=out:=by rw[b9X hl,hf]
   have f:=b9e (dr (X1 t) 9) (sK (X1 t) 9) (numR (dr (X1 t) 9)).toNat 1;have f:(out.getD 1 []).length<=255:=by rw[←d];exact f
   rw[A];refine⟨λC=>?_,λ_=>?_⟩
   ·simp[h2] at C
   ·simp only[c5W];rw[(a8F hu hg).1,(a8F hu hg).2];unfold rcX;rw[d];show _/\_/\_/\_/\_/\_/\_/\_/\W9 0 out.length/\W9 1 out.length/\_;exact⟨⟨Z9,Z9⟩,⟨Z9,Z9⟩,⟨Z9,Z9⟩,⟨Z9,Z9⟩,⟨Z9,Z9⟩,⟨Z9,Z9⟩,⟨Z9,Z9⟩,⟨Z9,Z9⟩,⟨Z9,Z9⟩,⟨Z9,Z9⟩,by show(out.getD 1 []).length<_;omega,⟨rfl,rfl,rfl,rfl,rfl,rfl,rfl,rfl,rfl,rfl,Z6⟩,rfl,Z6⟩
  ·have hg:q7 (X1 t)=true:=by rw[hbad];exact hf
   refine⟨λ_=>z (p:=true) λq=>(by rw[hg] at q;cases q.2),λC=>?_⟩
   cases i:Q3 ((X1 t).drop 9) with
   |none=>rw[i] at C;simp at C
   |some out=>
    rw[i] at C;have:=A out i;simp at C;omega
def b7W:Con:=.rel ⟨Dsk×Int,λx=>[.agg x.1.ts,Ji x.2],λx=>zH (zE x.1 (nR x.1 x.2)),λx=>G4 x.1/\x.1.E.length=69⟩
def b7f(d:Dsk)(ep:Int):Nat->Ann
 |0=>.one (V5 (d.E.length-9) (lgB d ep)) (λx=>⟨[(1,Ji ep),(2,.ref 0 0 0),(5,.osl 1 0 x.1),(6,Ji (x.1+1:Nat))],[dH d,k4 (zE d x.1)]⟩) (λx=>d.E.length-x.1) b5m b7N (λ_=>Z3)
 |_=>.none
theorem c73{t:Bz}(h:l4k t=true):R8 t=(y4 t,0)/\P0 (y4 t)=true:=by
 by_cases q:S0 t=true/\q7 (X1 t)=false
 ·obtain⟨d,e⟩:=a8F q.1 q.2;rw[e] at h;rw[d];exact⟨a8Z q.1 q.2 h,h⟩
 ·rw[(b79 q).2] at h;cases h
theorem c8f{r:Rec}(h:P0 r=true):1<=r.e:=by
 have:=(Q4 r).1 h;unfold zK at this;exact this.1
theorem b0q{d:Dsk}{ep:Int}{x:Nat}:(!l4k (S1 d (9+x))||(y4 (S1 d (9+x))).l !=((x+1:Nat):Int)||decide ((y4 (S1 d (9+x))).e>ep)||decide (((x+1:Nat):Int)>1)&&decide (((zE d x).getD (0+(((x+1:Nat):Int)-2).toNat) dz).e>(y4 (S1 d (9+x))).e))=lgB d ep x:=by
 cases f:l4k (S1 d (9+x)) with
 |false=>
  have g:((lgR d x).2==0)=false:=by rw[←f,a6w];rfl
  unfold lgB bne;rw[g];rfl
 |true=>
  obtain⟨h,o⟩:=c73 f;have i:=c8f o;have h:lgR d x=(y4 (S1 d (9+x)),0):=h;unfold lgB;rw[h];by_cases hx:x=0
  ·subst hx;have h1:lgE d 0=1:=by unfold lgE;rw[if_pos rfl]
   rw[h1];simp only[Bool.not_true,Bool.false_or,bne_self_eq_false];rw[Bool.eq_iff_iff];simp only[nV,I4,wA,←Bool.not_eq_true,bne_iff_ne,q8,ne_eq,K7];omega
  ·have L:(zE d x).getD (0+(((x+1:Nat):Int)-2).toNat) dz=(lgR d (x-1)).1:=by
    rw[show 0+(((x+1:Nat):Int)-2).toNat=x-1 by omega]
    exact c6e d Z9
   rw[L];simp only[Bool.not_true,Bool.false_or,bne_self_eq_false];rw[Bool.eq_iff_iff];simp only[lgE,if_neg hx,nV,I4,wA,←Bool.not_eq_true,bne_iff_ne,q8,ne_eq,K7];omega
theorem b33:GK 130 b7W:=gk func130<|by
 rintro⟨d,ep⟩ ⟨hd,j⟩;dsimp only at hd j;refine U6 (gC dR (gC a5O (gC P6 gN))) func130 (b7f d ep) (α:=let w:=(1=1/\1=1/\zN d d);(∃(x:V5 (d.E.length-9) (lgB d ep)),(ep=ep/\(0=0/\0=0)/\(0=0/\0=x.1)/\1=(↑(x.1+1):Int)/\True)/\w/\(0=(zE d x.1).length/\Z7 0 (λ(k:Nat)=>List.take 10 (List.drop (k*10) [])) (Y1 (zE d x.1)))/\True)/\∀(x:V5 (d.E.length-9) (lgB d ep)),let v:=x.1;let u:=(zE d v);let r:=(Le (0+v) u.length/\v=(zE d (nR d ep)).length/\Z7 x.1 (Y1 u) (Y1 (zE d (nR d ep))));let q:=(↑(v+1):Int);(decide (q<=60)=true->Ri (9+q))/\(decide (q<=60)=true->Ri (9+q-1))/\br (decide (q<=60)&&decide (9+q-1<(d.E.length:Int))) (Ri (9+q)/\Ri (9+q-1)/\∃(f:oH.ι),(((zN d f.1)/\9+q-1=(f.2:Int)/\True)/\AtB f)/\∃(X:(Bz)),let z:=(!l4k X||(y4 X).l !=q||decide ((y4 X).e>ep));((S1 f.1 f.2=X/\True)/\RdB X)/\(z=false->decide (q>1)=true->Ri (q-2))/\(z=false->decide (q>1)=true->W9 (q-2) v)/\(z=false->decide (q>1)=true->Lt (0+(q-2).toNat) u.length)/\br (!l4k X||(y4 X).l !=q||decide ((y4 X).e>ep)||decide (q>1)&&decide ((u.getD (0+(q-2).toNat) dz).e>(y4 X).e)) r ((Le x.1 u.length/\U8 x.1 1 96)/\Ri (q+1)/\∃(y:V5 (d.E.length-9) (lgB d ep)),((ep=ep/\(0=0/\0=0)/\(0=0/\v+1=y.1)/\q+1=(↑(y.1+1):Int)/\True)/\w/\(v+1=(zE d y.1).length/\Z7 (v+1) (X4 (Y1 u) x.1 λ(k:Nat)=>List.take 10 (List.drop (k*10) [Ji (y4 X).e,Ji (y4 X).l,Ji (y4 X).t,Ji (y4 X).k,Ji (y4 X).p,Ji (y4 X).n,Ji (y4 X).g,Ji (y4 X).s,T.str (y4 X).b,T.str (y4 X).a])) (Y1 (zE d y.1)))/\True)/\Lt (d.E.length-y.1) (d.E.length-v))) r) ⟨⟨F9,Z8,Z8,⟨(yE d 0).symm,P1⟩,Z6⟩,λx=>?_⟩
 have L:=x.2.1;have C:=hd.2.2.1;have i:=yE d x.1;refine⟨λ_=>Z4 Z9,λ_=>Z4 Z9,λhc=>?_,λhc=>?_⟩
 ·have hc:9+x.1<d.E.length:=by
   simp only[I4,q8] at hc;omega
  have u:=lY hd hc;refine⟨Z4 Z9,Z4 Z9,(d,9+x.1),⟨⟨eqD _,X5,Z6⟩,hc,X5⟩,S1 d (9+x.1),⟨Z8,by show(S1 d (9+x.1)).length<=1000;omega⟩,λ_ h=>Z4 Z9,λ_ h=>?_,λ_ h=>?_,?_⟩
  ·have:=G6 h;exact⟨Z9,Z9⟩
  ·have:=G6 h;unfold Lt;omega
  rw[b0q (d:=d) (ep:=ep)];refine⟨λhb=>?_,λhb=>?_⟩
  ·rw[b72 Z9 hb x.2.2]
   exact⟨K2,i.symm,X6 _ _⟩
  ·refine⟨⟨K2,R0⟩,Z4 Z9,x.succ Z9 hb,⟨⟨rfl,Z8,Z8,by dsimp only[V5.succ];omega,Z6⟩,⟨rfl,rfl,eqD _⟩,⟨(yE d (x.1+1)).symm,?_⟩,Z6⟩,by unfold Lt;dsimp only[V5.succ];omega⟩
   show Z7 _ _ (Y1 (zE d (x.1+1)));have o:=iB (zE d x.1) (lgR d x.1).1;have q:l4k (S1 d (9+x.1))=true:=by
    rw[←b0q] at hb;simp only[wU,wX] at hb;exact hb.1.1.1
   have r:(lgR d x.1).1=y4 (S1 d (9+x.1)):=by
    show(R8 (S1 d (9+x.1))).1=_;rw[(c73 q).1]
   rw[a4f,r];rw[i,r] at o;exact o
 ·have Q:x.1=d.E.length-9:=by
   by_cases N:x.1=d.E.length-9
   ·exact N
   ·rw[mR (show((x.1+1:Nat):Int)<=60 by omega),mR (show(9:Int)+((x.1+1:Nat):Int)-1<(d.E.length:Int) by omega)] at hc
    cases hc
  rw[b1l Q x.2.2];exact⟨K2,i.symm,X6 _ _⟩
def k6(e:Eng):Eng:=⟨⟨e.s.d,e.s.ep,zE e.s.d (nR e.s.d e.s.ep),(nR e.s.d e.s.ep:Nat),[],0⟩,false,[],⟨[],[]⟩,e.N⟩
def c5y:Con:=.reff ⟨Eng×Nat,λx=>[.ref 0 0 0],λx=>x.1.bx x.2,λ_=>.int .i64 15,λx=>(k6 x.1).nx 0,λx=>G4 x.1.s.d⟩
theorem a95:GK 97 c5y:=gk func97<|by
 rintro⟨e,v⟩ (hd:G4 e.s.d);have h:=(yE e.s.d (nR e.s.d e.s.ep)).symm;exact C7 (gC a9h gN) func97 Z3 [[.nilC 0 7 0 5,.fac 0 7,.nilC 0 10 0 2,.nilC 0 11 0 4,.nilC 0 12 0 2,.box 0,.arr 1,.arr 2,.arr 3,.arr 4,.arr 5,.arr 6,.arr 7,.arr 8,.cel 0 0,.cel 0 1,.cel 0 3,.cel 0 5,.cel 0 7,.cel 0 10,.cel 0 11,.cel 0 12]] (α:=let r:=(0=0/\0=0);let q:=(nR e.s.d e.s.ep);∃(x:(Dsk×Int)),let p:=(λ(x:Nat)=>[]);((Le (0+e.s.d.E.length) e.s.d.E.length/\Le (0+e.s.d.C.length) e.s.d.C.length/\Le (0+e.s.d.keep.length) e.s.d.keep.length)/\((zN e.s.d x.1)/\e.s.ep=x.2/\True)/\LgS x)/\((15:Int)=15/\True)/\(1=1/\1=1/\(0=0/\e.s.d.E.length=e.s.d.E.length)/\(0=0/\e.s.d.C.length=e.s.d.C.length)/\e.s.d.A=e.s.d.A/\(0=0/\e.s.d.keep.length=e.s.d.keep.length)/\e.s.ep=e.s.ep/\(0=0/\nR x.1 x.2=(zE e.s.d q).length)/\(↑(nR x.1 x.2):Int)=(↑q:Int)/\r/\(0:Int)=0/\false=false/\r/\r/\r/\e.N=e.N/\True)/\True/\True/\True/\True/\True/\True/\True/\True/\(Z0 Z5 e.s.d.E e.s.d.E)/\(Z0 Z1 e.s.d.C e.s.d.C)/\(Z0 Y9 e.s.d.keep e.s.d.keep)/\(Z0 Y1 (zE x.1 (nR x.1 x.2)) (zE e.s.d q))/\(0=0/\0=0/\V2 0 p (Y5 []))/\(0=0/\Z7 0 p (X2 []))/\(0=0/\Z7 0 p (Z2 []))/\(0=0/\Z7 0 p (Y7 []))/\True) ⟨(e.s.d,e.s.ep),⟨Z8,Z8,hd⟩,Z8,⟨rfl,rfl,Z8,Z8,rfl,Z8,rfl,⟨rfl,h⟩,Z8⟩,Z6,Z6,Z6,Z6,Z6,Z6,Z6,Z6,Z8,Z8,Z8,Z8,⟨rfl,rfl,λi hi=>absurd hi (D4 _)⟩,⟨rfl,P1⟩,⟨rfl,P1⟩,⟨rfl,P1⟩,Z6⟩
def sdE(e:Eng)(d:Dsk):Eng:={e with s:=e.s.sd d}
theorem b6S(sec:List (Bz))(C:List Pend)(Q:Nat->Bool)(h:∀i,i<sec.length->(sec.getD i []).length<=160)(e:∀i,i<C.length->(C.getD i dz).d.length<=160):∀n,n<=C.length->∀i,i<sec.length->((zU sec C Q n).getD i []).length<=160
 |0,_,i,hi=>h i hi
 |n+1,hn,i,hi=>by
  unfold zU;have I:=b6S sec C Q h e n Z9 i hi
  split
  ·by_cases hj:i=(C.getD n dz).at_.toNat
   ·subst hj;rw[P4,j_j (by rw[B1];exact hi)]
    exact e n Z9
   ·rw[P4,j_k (Ne.symm hj),←P4]
    exact I
  ·exact I
theorem a4j{m:Nat}{p:Pend}(h:P3 m p=false):0<=p.at_/\p.at_<m/\p.d.length<=160:=by
 unfold P3 at h;simp only[wU,wX,K7,uI] at h;omega
theorem lZ{n:Nat}{p:Nat->Bool}(h:¬S6 n p<0):∃i,i<n/\p i=true/\(∀j,j<i->p j=false)/\S6 n p=(i:Int):=by
 cases A:anyI n p with
 |false=>exact absurd (by rw[K4 (P5.1 A)];omega) h
 |true=>
  obtain⟨i,hi,hp⟩:=R9.1 A;have key:∀m,m<=n->(∀j,j<m->p j=false)∨∃i,i<n/\p i=true/\(∀j,j<i->p j=false):=by
   intro m;induction m with
   |zero=>intro _;exact .inl λj J=>absurd J (D4 j)
   |succ m I=>
    intro d;rcases I Z9 with h0|h0
    ·cases hq:p m with
     |true=>exact .inr ⟨m,d,hq,h0⟩
     |false=>
      refine .inl λj J=>?_
      by_cases M:j=m
      ·rw[M];exact hq
      ·exact h0 j Z9
    ·exact .inr h0
  rcases key n (U9 n) with h0|⟨k,hk,hpk,hn⟩
  ·rw[h0 i hi] at hp;cases hp
  ·exact⟨k,hk,hpk,hn,O0 hk hpk hn⟩
theorem c6E(d:Dsk)(ep:Int):nR d ep<=d.E.length-9:=by
 unfold nR;split
 ·exact U9 _
 ·rename_i h;by_cases hn:S6 (d.E.length-9) (lgB d ep)<0
  ·omega
  ·obtain⟨i,hi,_,_,e⟩:=lZ hn;omega
def b3I:Con:=.rel ⟨Eng×Dsk,λx=>[.agg x.1.ts,.agg x.2.ts],λx=>.agg (k6 (sdE x.1 x.2)).ts,λx=>G4 x.2/\x.2.E.length=69⟩
theorem oI:GK 80 b3I:=gk func80<|by
 rintro⟨e,d⟩ ⟨h,f⟩;dsimp only at h f;exact U6 (gC b33 (gC P6 (gC b0e gN))) func80 Z3 (α:=∃(x:(Dsk×Int)),let p:=(zE x.1 (nR x.1 x.2));(((zN d x.1)/\e.s.ep=x.2/\True)/\G4 x.1/\x.1.E.length=69)/\(Z0 Z5 d.E d.E)/\(Z0 Z1 d.C d.C)/\d.A=d.A/\(Z0 Y9 d.keep d.keep)/\e.s.ep=e.s.ep/\(Z0 Y1 p (zE d (nR d e.s.ep)))/\(↑p.length:Int)=(↑(nR d e.s.ep):Int)/\0=0/\(0:Int)=0/\false=false/\0=0/\0=0/\0=0/\e.N=e.N/\True) ⟨(d,e.s.ep),⟨Z8,h,f⟩,Z8,Z8,rfl,Z8,rfl,Z8,congrArg _ (yE _ _),Z8⟩
def X8{α:Type}[Inhabited α](f:α->Bool)(L:List α):Nat->List α
 |0=>[]
 |i+1=>if f (L.getD i dz)=true then X8 f L i++[L.getD i dz] else X8 f L i
def hF(tx:Int)(x:Lck):Bool:=x.tx !=tx
def wF(tx:Int)(w:Wt):Bool:=w.tx !=tx&&w.fo !=tx
def frK(l:Lks)(tx:Int):Lks:=⟨X8 (hF tx) l.H l.H.length,X8 (wF tx) l.W l.W.length⟩
def b3c:Con:=.rel ⟨Lks×Int,λx=>[.agg x.1.ts,Ji x.2],λx=>.agg (frK x.1 x.2).ts,λx=>x.1.H.length<=1000000/\x.1.W.length<=1000000⟩
def lkB(l:Lks):Option Ob:=some (.arr true 1000000 2 1 λ_=>l.ts)
def lkO(a n b m:Nat):Option Ob:=some (.arr false 1000000 2 1 λ_=>[.osl a 0 n,.osl b 0 m])
def b2h(l:Lks)(tx:Int):Nat->Ann
 |1=>.one (Up l.W.length) (λx=>⟨[(1,Ji tx),(2,.ref 0 0 0),(4,.ref 1 0 0),(5,.ref 2 0 0),(7,Ji x.1)],[lkB l,lkB ⟨[],[]⟩,lkO 3 (frK l tx).H.length 4 (X8 (wF tx) l.W x.1).length,zB (frK l tx).H,sT (X8 (wF tx) l.W x.1)]⟩) (λx=>l.W.length-x.1) b7g b7g (λ_=>Z3)
 |2=>.one (Up l.W.length) (λx=>⟨[(1,Ji tx),(2,.ref 0 0 0),(4,.ref 1 0 0),(5,.ref 2 0 0),(7,Ji x.1)],[lkB l,lkB ⟨[],[]⟩,lkO 3 (frK l tx).H.length 4 (X8 (wF tx) l.W x.1).length,zB (frK l tx).H,sT (X8 (wF tx) l.W x.1)]⟩) (λx=>l.W.length-x.1) b7g b7g (λ_=>Z3)
 |_=>.none
def b1E(l:Lks)(tx:Int):Nat->Ann
 |0=>.one (Up l.H.length) (λx=>⟨[(1,Ji tx),(2,.ref 0 0 0),(4,.ref 1 0 0),(5,.ref 2 0 0),(6,Ji x.1)],[lkB l,lkB ⟨[],[]⟩,lkO 3 (X8 (hF tx) l.H x.1).length 4 0,zB (X8 (hF tx) l.H x.1),sT []]⟩) (λx=>l.H.length-x.1) [.box 0,.box 1,.box 4,.arr 2,.arr 3] b7g (λ_=>b2h l tx)
 |_=>.none
theorem zZ{α:Type}[Inhabited α](f:α->List T)(n:Nat)(F:∀a,(f a).length=n)(L:List α)(x:α):Z7 (L.length+1) (X4 (λi=>f (L.getD i dz)) L.length λk=>List.take n (List.drop (k*n) (f x))) (λi=>f ((L++[x]).getD i dz)):=by
 intro i hi;unfold X4;by_cases h:i<L.length
 ·rw[rW h];dsimp only;rw[P4,P4,rL h]
 ·have:i=L.length:=by omega
  subst this;rw[mK h];dsimp only;have:(L++[x]).getD L.length dz=x:=by rw[P4,qA (U9 _)];simp
  rw[this,j_h,Nat.zero_mul,List.drop_zero,List.take_of_length_le (by rw[F];exact U9 _)]
theorem aL{α:Type}[Inhabited α]{f:α->Bool}{L:List α}{i:Nat}(h:f (L.getD i dz)=true):X8 f L (i+1)=X8 f L i++[L.getD i dz]:=by
 conv=>lhs;unfold X8
 rw[if_pos h]
theorem pR{α:Type}[Inhabited α]{f:α->Bool}{L:List α}{i:Nat}(h:f (L.getD i dz)=false):X8 f L (i+1)=X8 f L i:=by
 conv=>lhs;unfold X8
 rw[if_neg cW]
theorem r5{α:Type}[Inhabited α](f:α->Bool)(L:List α):∀i,(X8 f L i).length<=i
 |0=>U9 _
 |i+1=>by
  have:=r5 f L i;unfold X8;split
  ·rw[F6,List.length_singleton];omega
  ·omega
theorem rE{α:Type}[Inhabited α]{f:α->Bool}{L:List α}{i:Nat}(h:f (L.getD i dz)=true):(X8 f L i).length+1=(X8 f L (i+1)).length:=by
 rw[aL h,F6,List.length_singleton]
theorem a7P:GK 302 b3c:=gk func302<|by
 rintro⟨l,tx⟩ ⟨d,h⟩;dsimp only at d h;refine U6 (gC P6 gN) func302 (b1E l tx) (α:=let g:=(0=0/\Z7 0 (Y7 []) (Y7 []));let v:=(0=0/\0=0);let z:=(1=1/\1=1/\(Z0 Z2 l.H l.H)/\(Z0 Y7 l.W l.W)/\True);let q:=(1=1/\1=1/\(0=0/\Z7 0 (Z2 []) (Z2 []))/\g/\True);let p:=(X8 (hF tx) l.H l.H.length);let i:=p.length;(∃(x:Up l.H.length),let a:=(X8 (hF tx) l.H x.1);(tx=tx/\v/\v/\v/\0=(x.1:Int)/\True)/\z/\(1=1/\1=1/\0=0/\0=0/\True)/\(1=1/\1=1/\(0=0/\0=a.length)/\v/\True)/\(0=a.length/\Z7 0 (λ(k:Nat)=>List.take 4 (List.drop (k*4) [])) (Z2 a))/\(0=0/\Z7 0 (λ(k:Nat)=>List.take 2 (List.drop (k*2) [])) (Y7 []))/\True)/\∀(x:Up l.H.length),let n:=(x.1:Int);let w:=(l.H.getD n.toNat dz);let u:=(X8 (hF tx) l.H x.1);let t:=u.length;bd (n<(l.H.length:Int)) (W9 n l.H.length/\br (w.tx !=tx) (W9 n l.H.length/\(Le u.length t/\U8 u.length 1 32)/\Ri (n+1)/\∃(y:Up l.H.length),let b:=(X8 (hF tx) l.H y.1);((tx=tx/\v/\v/\v/\n+1=(y.1:Int)/\True)/\z/\q/\(1=1/\1=1/\(0=0/\t+1=b.length)/\v/\True)/\(t+1=b.length/\Z7 (t+1) (X4 (Z2 u) u.length λ(k:Nat)=>List.take 4 (List.drop (k*4) [Ji w.tx,Ji w.ta,Ji w.row,Ji w.mo])) (Z2 b))/\g/\True)/\Lt (l.H.length-y.1) (l.H.length-x.1)) (Ri (n+1)/\∃(y:Up l.H.length),let pa:=(X8 (hF tx) l.H y.1);((tx=tx/\v/\v/\v/\n+1=(y.1:Int)/\True)/\z/\q/\(1=1/\1=1/\(0=0/\t=pa.length)/\v/\True)/\(Z0 Z2 u pa)/\g/\True)/\Lt (l.H.length-y.1) (l.H.length-x.1))) ((∃(X:Up l.W.length),let c:=(X8 (wF tx) l.W X.val);(tx=tx/\v/\v/\v/\0=(X.val:Int)/\True)/\z/\q/\(1=1/\1=1/\(0=0/\t=i)/\(0=0/\0=c.length)/\True)/\(Z0 Z2 u p)/\(0=c.length/\Z7 0 (Y7 []) (Y7 c))/\True)/\∀(x:Up l.W.length),let f:=(X8 (wF tx) l.W x.1);let m:=(x.1:Int);let j:=(l.W.getD m.toNat dz);let r:=f.length;bd (m<(l.W.length:Int)) (W9 m l.W.length/\((j.tx !=tx)=true->W9 m l.W.length)/\br (j.tx !=tx&&j.fo !=tx) (W9 m l.W.length/\(Le r r/\U8 r 1 16)/\Ri (m+1)/\∃(y:Up l.W.length),let d:=(X8 (wF tx) l.W y.1);((tx=tx/\v/\v/\v/\m+1=(y.1:Int)/\True)/\z/\q/\(1=1/\1=1/\(0=0/\i=i)/\(0=0/\r+1=d.length)/\True)/\(Z0 Z2 p p)/\(r+1=d.length/\Z7 (r+1) (X4 (Y7 f) r λ(k:Nat)=>List.take 2 (List.drop (k*2) [Ji j.tx,Ji j.fo])) (Y7 d))/\True)/\Lt (l.W.length-y.1) (l.W.length-x.1)) (Ri (m+1)/\∃(y:Up l.W.length),let pb:=(X8 (wF tx) l.W y.1);((tx=tx/\v/\v/\v/\m+1=(y.1:Int)/\True)/\z/\q/\(1=1/\1=1/\(0=0/\i=i)/\(0=0/\r=pb.length)/\True)/\(Z0 Z2 p p)/\(Z0 Y7 f pb)/\True)/\Lt (l.W.length-y.1) (l.W.length-x.1))) ((Le (0+i) i/\Le (0+r) r)/\(Z0 Z2 p p)/\(Z0 Y7 f (X8 (wF tx) l.W l.W.length))/\True))) ⟨⟨⟨0,N5 _⟩,L0⟩,λx=>⟨λhc=>?_,λhc=>?_⟩⟩
 ·have hlt:=Y2 hc;have hle:=r5 (hF tx) l.H x.1;rw[E4];refine⟨Y6 hlt,λhq=>?_,λhq=>?_⟩
  ·have hn:=rE (f:=hF tx) hq;refine⟨Y6 hlt,⟨U9 _,R0⟩,Z4 Z9,⟨x.1+1,hlt⟩,⟨⟨rfl,Z8,Z8,Z8,X5,Z6⟩,Z8,⟨rfl,rfl,⟨rfl,P1⟩,⟨rfl,P1⟩,Z6⟩,⟨rfl,rfl,⟨rfl,hn⟩,Z8⟩,⟨hn,?_⟩,⟨rfl,P1⟩,Z6⟩,V5.ext_lt hlt⟩
   dsimp only;rw[aL (f:=hF tx) hq];exact zZ Lck.ts 4 (λ_=>rfl) _ _
  ·have hn:=pR (f:=hF tx) hq;refine⟨Z4 Z9,⟨x.1+1,hlt⟩,?_,V5.ext_lt hlt⟩
   dsimp only;rw[hn];exact⟨⟨rfl,Z8,Z8,Z8,Z9,Z6⟩,Z8,⟨rfl,rfl,⟨rfl,P1⟩,⟨rfl,P1⟩,Z6⟩,Z8,Z8,⟨rfl,P1⟩,Z6⟩
 ·have hx:x.1=l.H.length:=by have:=x.2;have:=Y0 hc;omega
  rw[hx];refine⟨⟨⟨0,N5 _⟩,L0⟩,λy=>⟨λhc=>?_,λhc=>?_⟩⟩
  ·have hlt:=Y2 hc;have hle:=r5 (wF tx) l.W y.1;rw[E4];refine⟨Y6 hlt,λ_=>Y6 hlt,λhq=>?_,λhq=>?_⟩
   ·have hn:=rE (f:=wF tx) hq;refine⟨Y6 hlt,⟨U9 _,R0⟩,Z4 Z9,⟨y.1+1,hlt⟩,⟨⟨rfl,Z8,Z8,Z8,X5,Z6⟩,Z8,⟨rfl,rfl,⟨rfl,P1⟩,⟨rfl,P1⟩,Z6⟩,⟨rfl,rfl,Z8,⟨rfl,hn⟩,Z6⟩,Z8,⟨hn,?_⟩,Z6⟩,V5.ext_lt hlt⟩
    dsimp only;rw[aL (f:=wF tx) hq];exact zZ Wt.ts 2 (λ_=>rfl) _ _
   ·have hn:=pR (f:=wF tx) hq;refine⟨Z4 Z9,⟨y.1+1,hlt⟩,?_,V5.ext_lt hlt⟩
    dsimp only;rw[hn];exact⟨⟨rfl,Z8,Z8,Z8,Z9,Z6⟩,Z8,⟨rfl,rfl,⟨rfl,P1⟩,⟨rfl,P1⟩,Z6⟩,Z8⟩
  ·have hy:y.1=l.W.length:=by have:=y.2;have:=Y0 hc;omega
   rw[hy];exact Z8
def b2f(e:Eng)(k:Nat):Eng:={e with X:=e.X.take k++e.X.drop (k+1),lk:=frK e.lk (e.X.getD k dz).id}
def b1v:Con:=.rel ⟨Eng×Nat,λx=>[.agg x.1.ts,Ji x.2],λx=>.agg (b2f x.1 x.2).ts,λx=>x.2<x.1.X.length/\x.1.X.length<=1000/\x.1.lk.H.length<=1000000/\x.1.lk.W.length<=1000000⟩
theorem b59{L:List Txn}{k:Nat}(d:k<L.length):Z7 (k+(L.length- (k+1))) (X4 (X2 L) k λi=>(L.getD (k+1+i) dz).ts) (X2 (L.take k++L.drop (k+1))):=by
 intro i hi;have l:(L.take k).length=k:=by rw[List.length_take];omega
 unfold X4 X2;by_cases h:i<k
 ·rw[rW h];dsimp only;rw[P4,P4,rL Z9,List.getElem?_take_of_lt h]
 ·rw[mK h];dsimp only;rw[P4,P4,qA Z9,l,List.getElem?_drop]
theorem a8B:GK 224 b1v:=gk func224<|by
 rintro⟨e,k⟩ ⟨h,l,g,f⟩;dsimp only at h l g f;have j:((k:Nat):Int).toNat=k:=E4 k;have n:((k:Int)+1).toNat=k+1:=Z9
 refine U6 (gC a7P (gC P6 gN)) func224 Z3 (α:=W9 (k:Int) e.X.length/\∃(x:(Lks×Int)),((((Z0 Z2 e.lk.H x.1.H)/\(Z0 Y7 e.lk.W x.1.W)/\True)/\(e.X.getD (k:Int).toNat dz).id=x.2/\True)/\x.1.H.length<=1000000/\x.1.W.length<=1000000)/\kB (k:Int) e.X.length/\(Le 0 0/\U8 0 (k:Int).toNat 16)/\R3 .i64 ((k:Int)+(1:Int))/\kB ((k:Int)+(1:Int)) e.X.length/\(Le (0+(k:Int).toNat) (0+(k:Int).toNat)/\U8 (0+(k:Int).toNat) (e.X.length- ((k:Int)+(1:Int)).toNat) 16)/\Le (0+(0+(k:Int).toNat+(e.X.length- ((k:Int)+(1:Int)).toNat))) (0+(k:Int).toNat+(e.X.length- ((k:Int)+(1:Int)).toNat))/\(Z0 Z5 e.s.d.E e.s.d.E)/\(Z0 Z1 e.s.d.C e.s.d.C)/\e.s.d.A=e.s.d.A/\(Z0 Y9 e.s.d.keep e.s.d.keep)/\e.s.ep=e.s.ep/\(Z0 Y1 e.s.L e.s.L)/\e.s.S=e.s.S/\(Z0 W2 e.s.fr e.s.fr)/\e.s.J=e.s.J/\e.up=e.up/\(0+(k:Int).toNat+(e.X.length- ((k:Int)+(1:Int)).toNat)=(List.take k e.X++List.drop (k+1) e.X).length/\Z7 (0+(k:Int).toNat+(e.X.length- ((k:Int)+(1:Int)).toNat)) (X4 (X4 (λ(k:Nat)=>List.take 2 (List.drop (k*2) [])) 0 (X2 e.X)) (0+(k:Int).toNat) λ(i:Nat)=>[Ji (e.X.getD (((k:Int)+(1:Int)).toNat+i) dz).id,Ji (e.X.getD (((k:Int)+(1:Int)).toNat+i) dz).Z]) (X2 (List.take k e.X++List.drop (k+1) e.X)))/\(Z0 Z2 (X8 (hF x.2) x.1.H x.1.H.length) (X8 (hF (e.X.getD k dz).id) e.lk.H e.lk.H.length))/\(Z0 Y7 (X8 (wF x.2) x.1.W x.1.W.length) (X8 (wF (e.X.getD k dz).id) e.lk.W e.lk.W.length))/\e.N=e.N/\True) ?_
 rw[j,n,D6,lT];refine⟨Y6 h,(e.lk,(e.X.getD k dz).id),⟨Z8,g,f⟩,⟨Z9,Z9⟩,⟨U9 _,R0⟩,Z4 Z9,⟨Z9,Z9⟩,⟨K2,R0⟩,K2,Z8,Z8,rfl,Z8,rfl,Z8,rfl,Z8,rfl,rfl,⟨?_,b59 h⟩,Z8⟩
 rw[F6,List.length_take,List.length_drop];omega
def H3(e:Eng)(tx:Int):Int×Int:=if e.up=true then(if T9 e.X tx<0 then(0,19) else(T9 e.X tx,0)) else(0,15)
def a7q:Con:=.rel ⟨Eng×Int,λx=>[.agg x.1.ts,Ji x.2],λx=>.tup [Ji (H3 x.1 x.2).1,Ji (H3 x.1 x.2).2],λx=>L7 x.1.X.length⟩
theorem c8h{e:Eng}{tx:Int}(h:(!e.up)=true):H3 e tx=(0,15):=by unfold H3;rw[if_neg x8]
theorem c8z{e:Eng}{tx:Int}(h:(!e.up)=false)(d:decide (T9 e.X tx<0)=true):H3 e tx=(0,19):=by unfold H3;rw[if_pos x8,if_pos (G6 d)]
theorem c8c{e:Eng}{tx:Int}(h:(!e.up)=false)(d:decide (T9 e.X tx<0)=false):H3 e tx=(T9 e.X tx,0):=by unfold H3;rw[if_pos x8,if_neg (m9 d)]
theorem a3D:GK 77 a7q:=gk func77<|by
 rintro⟨e,tx⟩ (hL:L7 e.X.length);refine U6 (gC a5n gN) func77 Z3 (α:=let p:=(H3 e tx);br (!e.up) (0=p.1/\15=p.2/\True) (∃(x:(Eng×Int)),(((L4 e x.1)/\tx=x.2/\True)/\L7 x.1.X.length)/\bd (T9 x.1.X x.2<0) (0=p.1/\19=p.2/\True) (T9 x.1.X x.2=p.1/\0=p.2/\True))) ⟨λh=>?_,λh=>⟨(e,tx),⟨Z8,hL⟩,λq=>?_,λq=>?_⟩⟩
 ·rw[c8h h];exact Z8
 ·rw[c8z h q];exact Z8
 ·rw[c8c h q];exact Z8
theorem c1V{r:Rec}(h:P0 r=true):r.b.length<=30/\r.a.length<=38:=by
 have h:=(Q4 r).1 h;unfold zK at h;obtain⟨_,_,_,_,_,_,_,_,_,_,_,_,_,_,B,f,e⟩:=h;refine⟨Z9,?_⟩
 by_cases d:r.k=6
 ·exact a1j (f d).2.2.2.2.2.2
 ·have:=(e d).2.2.1;omega
theorem c7B{r:Rec}(h:P0 r=true):(J7 r).length<=160:=by
 obtain⟨d,e⟩:=c1V h;have f:(z8 (zS (b4M r))).length=4:=rfl;have l:(J7 r).length=16+(r.b.length+r.a.length):=by
  unfold J7 b4M;rw[F6];simp only[S5,V7,F6,List.length_cons,List.length_nil];show _+4=_;simp;omega
 omega
def b9H(d:Dsk):Prop:=d.E.length=69/\d.keep.length<=500/\(d.A=false->d.keep.length=0)/\(∀i,i<d.E.length->(d.E.getD i []).length<=160)/\∀i,i<d.C.length->(d.C.getD i dz).d.length<=160
theorem b0Y{d:Dsk}(h:b9H d):G4 (U4 d).1/\(U4 d).1.E.length=69:=by
 obtain⟨l,g,j,e,f⟩:=h;unfold U4;split
 ·have hl:(crD d d.keep).E.length=d.E.length:=B1 _ _ _ _;refine⟨⟨X5,X5,N5 _,N5 _,λ_=>rfl,λi hi=>?_,λi hi=>absurd hi (D4 _)⟩,X5⟩
  dsimp only at hi;rw[hl] at hi;exact b6S d.E d.C (kp d.keep) e f _ (U9 _) i hi
 ·have hl:(zU d.E d.C (λ_=>true) d.C.length).length=d.E.length:=B1 _ _ _ _
  refine⟨⟨X5,X5,N5 _,g,j,λi hi=>?_,λi hi=>absurd hi (D4 _)⟩,X5⟩
  dsimp only at hi;rw[hl] at hi;exact b6S d.E d.C (λ_=>true) e f _ (U9 _) i hi
theorem c7O{s:Sto}{l:Int}(hd:G4 s.d)(B:mG s l)(r:xL s.L):b9H (cY s (J3 s l)):=by
 have h:=B.2.2.2.1;refine⟨h,hd.2.2.2.1,hd.2.2.2.2.1,hd.2.2.2.2.2.1,λi hi=>?_⟩
 have hi:i<(s.d.C++List.map (nU s) (List.range (J3 s l))).length:=hi;show((s.d.C++List.map (nU s) (List.range (J3 s l))).getD i dz).d.length<=160;rw[P4]
 by_cases hc:i<s.d.C.length
 ·rw[rL hc,←P4]
  exact(a4j (hd.2.2.2.2.2.2 i hc)).2.2
 ·rw[qA Z9,←P4]
  simp only[F6,List.length_map,j_g] at hi;rw[j7 _ Z9]
  have n:=gD (i:=i-s.d.C.length) B Z9
  obtain⟨_,_,_,_,e,_,_,f,_⟩:=B;exact c7B ((Q4 _).2 (r.2 _ Z9).1)
theorem b0M{s:Sto}{l:Int}(hd:G4 s.d)(h:mG s l)(r:xL s.L):G4 (V8 s l).1.d/\(V8 s l).1.d.E.length=69:=by
 by_cases L:l<=s.S
 ·rw[xI L];exact⟨hd,h.2.2.2.1⟩
 ·rw[xV L];exact b0Y (c7O hd h r)
theorem c0Y{e:Eng}(h:R2 e=true)(u:e.up=true):e.s.L.length+nM e<=60:=by
 have d:=(u6 h).2.2;rw[if_pos u] at d;unfold upE at d;simp only[I4,q8] at d;exact d.2
theorem a9n{e:Eng}(h:R2 e=true)(u:e.up=true){i:Nat}(hi:i<e.X.length):1<=(e.X.getD i dz).Z/\(e.X.getD i dz).Z<=e.s.L.length:=by
 have:=c4e h u i hi;unfold z4 nF at this;simp only[wU,wX,I4,K7] at this;exact this.2.1
theorem b6x{l:Lks}(h:C0 l=true):l.H.length<=60/\l.W.length<=100:=by
 unfold C0 at h;simp only[I4,q8] at h;exact h.2.1
theorem a1A{e:Eng}{tx:Int}(h:(H3 e tx).2=0):e.up=true/\∃k:Nat,(H3 e tx).1=(k:Int)/\k<e.X.length/\(e.X.getD k dz).id=tx/\T9 e.X tx=k:=by
 revert h;unfold H3;split
 ·rename_i hu;split
  ·intro h;cases h
  ·rename_i d;intro _;have d:¬S6 e.X.length (x9 e.X tx)<0:=d;obtain⟨i,hi,hp,_,f⟩:=lZ d;exact⟨hu,i,f,hi,by unfold x9 at hp;simpa using hp,f⟩
 ·intro h;cases h
def a3x(e:Eng)(k:Nat)(r:Rec):Prop:=r.k≠6/\r.k≠1/\1<=r.k/\r.k<=6/\(r.k≠3->r.n=0)/\(r.k≠2->r.k≠3->r.g=0/\r.s=0/\r.b=[]/\r.a=[])/\0<=r.n/\r.n<=(e.s.L.length:Int)/\0<=r.g/\r.g<=7/\0<=r.s/\r.s<=3/\r.b.length<=30/\r.a.length<=30/\(r.k=3->r.b=[])/\k<e.X.length
theorem b7X{s:Sto}{r:Rec}(L:xL s.L)(h:P0 (P9 s r)=true)(l:s.L.length+1<=60):xL (apx s r).L:=by
 have e:(apx s r).L=s.L++[P9 s r]:=rfl;rw[e];refine⟨C8,λi hi=>?_⟩
 rw[F6,List.length_singleton] at hi;by_cases C:i<s.L.length
 ·have:(s.L++[P9 s r]).getD i dz=s.L.getD i dz:=by
   rw[P4,rL C,←P4]
  rw[this];exact L.2 i C
 ·have:i=s.L.length:=by omega
  subst this;have:(s.L++[P9 s r]).getD s.L.length dz=P9 s r:=a4M s r;rw[this];exact⟨(Q4 _).1 h,rfl⟩
theorem c6R{d:Dsk}(h:G4 d):nP d:=by
 obtain⟨d1,d2,f,e,_⟩:=h;exact⟨Z9,Z9,Z9⟩
theorem a09{e:Eng}(hd:G4 e.s.d):M2 (k6 e):=by
 have M:=c6E e.s.d e.s.ep;have h:=hd.2.1;refine⟨⟨c6R hd,?_,N5 _,λi hi=>absurd hi (D4 _)⟩,Z8⟩
 show(zE _ _).length<=_;rw[yE];omega
open Go.SS Go.RowKit Go.Proofs.Tryz
def jB:List Value:=[.int .i64 0,.int .i64 0]
theorem a4g:(prog.info? 118).map (λi=>(i.zero,i.size,i.bytes))=some (some (.agg jB.toArray),2,16):=R4
theorem a0I:prog.underlying 46=some (.slice 118):=R4
theorem cC(w:World)(ty:TypeId)(b o c:Nat)(g:∀j,j<2->(w.cell? ⟨b,o+j,none⟩).isSome=true)(f:∀j,j<2->w.frozen? ⟨b,o+j,none⟩=false):
  (Builtin.clear_ #[46] ty #[.slice (some ⟨b,o,none⟩) 1 c]).run prog w= .ok (.tuple #[]) (w.setCells b o jB):=by
 obtain⟨i,e,d,_⟩:=info_parts a4g;have hv:∀w,(zeroValue 118).run prog w= .ok (.agg jB.toArray) w:=λw=>by
  simp[zeroValue,typeInfo,e,d]
 have t:=run_storeCells_cells (P:=prog) b o jB 0 w (λj (hj:j<2)=>by rw[Nat.add_zero];exact g j hj) (λj (hj:j<2)=>by rw[Nat.add_zero];exact f j hj) (by intro v h;simp only[jB,vO,j_i,or_false] at h;rcases h with rfl|rfl<;>rfl)
 simp only[Nat.add_zero] at t;have C:(Builtin.zeroCells (Value.agg jB.toArray).cells 1).toList=jB:=R4
 simp[Builtin.clear_,run_underlying a0I,hv,C,t]
set_option maxHeartbeats 4000000 in
set_option maxRecDepth 1000000 in
theorem b20(b cap n i j:Nat)(news:List Value)(w:World)(hj1:j=i+1)(hj:j<=n)(hn:n<=cap)(hl:news.length=(n-j)*2)(h1:∀u ∈ news,u.oneCell'=true)
  (hs:∀q u,news[q]? =some u->w.cell? ⟨b,j*2+q,none⟩=some u) (hc:∀q,q<n*2->(w.cell? ⟨b,q,none⟩).isSome=true) (hf:∀q,q<n*2->w.frozen? ⟨b,q,none⟩=false):
  Calls prog 252 #[.slice (some ⟨b,0,none⟩) n cap,.int .i64 i,.int .i64 j] w λe w'=>e= .returned (.slice (some ⟨b,0,none⟩) (i+(n-j)) cap)/\w'=(w.drew.setCells b (i*2) news).setCells b ((i+(n-j))*2) jB:=by
 have a9K:prog.follows .mixedOrders=true:=R4
 obtain⟨i0,hi0,hz0,hz1,hz2⟩:=info_parts a4g;obtain⟨A,hA,hnews⟩:∃A:Addr,(if cap=j then some (⟨b,0,none⟩:Addr) else some ⟨b,j*2,none⟩)=some A/\Hid (∀q u,news[q]? =some u->w.drew.cell? (A.add q)=some u):=by
  by_cases h:cap=j
  ·refine⟨⟨b,0,none⟩,dM,λq u hu=>?_⟩
   have h0:news.length=0:=by rw[hl];omega
   rw[List.length_eq_zero_iff.1 h0] at hu;simp at hu
  ·exact⟨⟨b,j*2,none⟩,dM,λq u hu=>by rw[Addr.add_lit];exact hs q u hu⟩
 have s1:Hid (news.length=(n-j)*2):=hl;have s2:Hid (∀u ∈ news,u.oneCell'=true):=h1;have s3:Hid (∀q,q<news.length->(w.drew.cell? ⟨b,0+i*2+q,none⟩).isSome=true/\w.drew.frozen? ⟨b,0+i*2+q,none⟩=false):=by
  intro q hq;rw[hl] at hq;exact⟨hc _ Z9,hf _ Z9⟩
 obtain⟨W1,hW1⟩:∃W1,W1=w.drew.setCells b (0+i*2) news:=⟨_,rfl⟩;have hcl:∀ty,(Builtin.clear_ #[46] ty #[.slice (some ⟨b,(i+(n-j))*2,none⟩) (n- (i+(n-j))) (cap- (i+(n-j)))]).run prog W1= .ok (.tuple #[]) (W1.setCells b ((i+(n-j))*2) jB):=by
  intro ty;rw[show n- (i+(n-j))=1 by omega]
  refine cC W1 ty b _ _ (λq hq=>?_) (λq hq=>?_)
  ·rw[hW1];exact World.isSome_setCells b _ _ _ _ (hc _ Z9)
  ·rw[hW1,World.frozen?_setCells]
   exact hf _ Z9
 have hW:Hid (W1=w.drew.setCells b (0+i*2) news):=hW1;have X:Aside (W1=w.drew.setCells b (i*2) news):=by rw[hW1,D6];exact rfl
 have hic:i<=cap:=Z9
 have hjc:j<=cap:=Z9
 have hlt:i<j:=Z9
 have heq:¬i=j:=Z9
 have hij:i<=j:=Z9
 have hin:i<=n:=Z9
 clear hW1 hc hf hs h1 hl hj1
 go_enter func252,Tryz.ntmps252
 go_wp2_with fail
 go_region_law_o (refine step_append_room rfl (.tmp 22) (.tmp 25) 46 rfl 118 i0 2 a0I hi0 hz1 b 0 i cap (by simp[Act.eval,Act.put]) A (n-j) (cap-j) news (by simp[Act.eval,Act.put]) s1.out hnews.out s2.out Z9 s3.out ?_;rw[←hW.out])
 go_wp2
 go_ret
 exact⟨rfl,by rw[X]⟩
theorem pO(w:World)(b o:Nat)(ty:TypeId)(cs:Array Value)(news:List Value)(B:w.heap[b]? =some (.cells cs ty (0,0)))(t:o+news.length<=cs.size)(e:∀v ∈ news,v.oneCell'=true):
  (w.setCells b o news).os=w.os/\(w.setCells b o news).tape=w.tape/\(w.setCells b o news).output=w.output/\(w.setCells b o news).heap.size=w.heap.size/\(∀k,k≠b->(w.setCells b o news).heap[k]? =w.heap[k]?)/\
   ∃cs',(w.setCells b o news).heap[b]? =some (.cells cs' ty (0,0))/\cs'.size=cs.size/\(∀i,i<o∨o+news.length<=i->cs'[i]? =cs[i]?)/\∀i,i<news.length->cs'[o+i]? =news[i]? :=by
 obtain⟨w',d,h⟩:=u5 prog w b o ty cs news B t e;have r:=run_storeCells_cells (P:=prog) b o news 0 w (λj J=>by rw[S2 B,tA (show o+0+j<cs.size by omega)];rfl) (λj J=>by simp[World.frozen?,B]) e
 rw[Nat.add_zero,d] at r;simp only[Result.ok.injEq,true_and] at r;rw[←r];exact h
def shJ(k r:Nat):Nat:=if r<k then r else r+1
def xH{α:Type}(L:List α)(k:Nat):List α:=L.take k++L.drop (k+1)
theorem c1q{α:Type}{L:List α}{k:Nat}(h:k<L.length):(xH L k).length=k+(L.length- (k+1)):=by
 unfold xH;rw[F6,List.length_take,List.length_drop];omega
theorem c6I{α:Type}[Inhabited α]{L:List α}{k:Nat}(d:k<L.length)(i:Nat):(xH L k).getD i dz=L.getD (shJ k i) dz:=by
 have l:(L.take k).length=k:=by rw[List.length_take];omega
 unfold xH shJ;rw[P4,P4]
 split
 ·rename_i h;rw[rL Z9,List.getElem?_take_of_lt h]
 ·rename_i h;rw[qA Z9,l,List.getElem?_drop,show k+1+(i-k)=i+1 by omega]
def b64:Con:=.reff ⟨List Txn×Nat,λx=>[.osl 0 0 x.1.length,Ji x.2,Ji (x.2+1:Nat)],λx=>[sQ x.1],λx=>.osl 0 0 (xH x.1 x.2).length,λx=>[sQ (xH x.1 x.2)],λx=>x.2<x.1.length⟩
theorem a9j{E:Env}{w:World}{k off n:Nat}{v:Value}(h:Rd E w (.osl k off n) v):∃a o,v= .slice a n (E.κ k-off)/\E.L k/\off+n<=E.κ k/\(off<E.κ k∨off=0->o=off*(E.z k).1)/\(E.κ k≠0->a=some ⟨E.β k,o,none⟩):=by
 cases h with
 |osl k off n o a f d g e=>exact⟨a,o,rfl,f,d,g,e⟩
theorem c9c{E:Env}{w:World}{H:X9}(f:HeapOk E w H)(i:∀b,E.N b->b<w.heap.size):Inv ⟨w,XB E H,E.N,0,E,0⟩ E H w:=⟨f,i,λb B=>.inl B,λk ob b g e=>.inr ⟨k,ob,g,e⟩,⟨rfl,rfl,rfl,U9 _,λ_ _ _=>rfl⟩,⟨λ_ h=>h,λk d=>absurd d (D4 _),λ_ _=>rfl,λk v d=>absurd d (D4 _)⟩⟩
theorem b16:GK 252 b64:=gk func252<|by
 rintro⟨L,k⟩ (hk:k<L.length);intro E w vs hH hN X;dsimp only at hH X ⊢;have O:Y4 [sQ L] 0=some (.arr true 0 2 L.length (X2 L)):=rfl;obtain⟨hL,hF,aj⟩:=hH.live 0 _ O;obtain⟨e1,e2,e3,e4,_,cs,B,M,e7,e8⟩:=(show T6 E w 0 ⟨true,0,2,L.length,X2 L⟩ from hF)
 dsimp only at e1 e2 e3 e4 e7 e8;have hκ:E.κ 0≠0:=Z9
 have M:=M hκ;have ai:=e7.le;obtain⟨aa,hv⟩:=X;obtain⟨v0,Z,v2,rfl⟩:∃v0 Z v2,vs= #[v0,Z,v2]:=by
  have f:vs.size=3:=aa.symm;exact⟨vs[0],vs[1],vs[2],by apply Array.ext<;>simp[f];intro i hi _;match i,hi with|0,_=>rfl|1,_=>rfl|2,_=>rfl⟩
 obtain rfl:=tH (hv 1 (.int .i64 k) Z rfl rfl);obtain rfl:=tH (hv 2 (.int .i64 (k+1:Nat)) v2 rfl rfl);obtain⟨a,o,rfl,_,_,ho,ha⟩:=a9j (hv 0 (.osl 0 0 L.length) v0 rfl rfl);have ho:o=0:=by have:=ho (.inr rfl);omega
 subst ho;rw[ha hκ,Nat.sub_zero];have W:∀i q,i<L.length->q<2->∃t u,(X2 L i)[q]? =some t/\cs[i*2+q]? =some u/\Rd E w t u/\u.oneCell'=true:=λi q hi Q=>by
  have h5:(X2 L i).length=2:=rfl;obtain⟨t,d⟩:∃t,(X2 L i)[q]? =some t:=⟨_,I3 Z9⟩
  obtain⟨u,hu,U⟩:=e8 i q _ hi d;exact⟨t,u,d,hu,U,iR U (e4 i _ hi (y7 d))⟩
 have l:∀j,j<L.length*2->∃u,cs[j]? =some u/\u.oneCell'=true:=λj J=>by
  obtain⟨_,u,_,f,_,h4⟩:=W (j/2) (j % 2) Z9 Z9
  exact⟨u,by rw[show j=j/2*2+j % 2 by omega];exact f,h4⟩
 have ah:L.length*2<=cs.size:=Z9
 have hnl:((cs.toList.drop ((k+1)*2)).take ((L.length- (k+1))*2)).length=(L.length- (k+1))*2:=by
  rw[List.length_take,List.length_drop,Array.length_toList (xs:=cs)];omega
 have g:∀q,q<(L.length- (k+1))*2->((cs.toList.drop ((k+1)*2)).take ((L.length- (k+1))*2))[q]? =cs[(k+1)*2+q]? :=λq Q=>by
  rw[List.getElem?_take,if_pos Q,List.getElem?_drop,Array.getElem?_toList]
 have n:∀u ∈ (cs.toList.drop ((k+1)*2)).take ((L.length- (k+1))*2),u.oneCell'=true:=λu hu=>by
  obtain⟨q,Q⟩:=List.getElem?_of_mem hu
  have x:q<(L.length- (k+1))*2:=by rw[←hnl];exact(u9.1 Q).1
  rw[g q x] at Q;obtain⟨u',z,f⟩:=l ((k+1)*2+q) Z9
  rw[z] at Q;simp only[X0] at Q;rw[←Q];exact f
 generalize ad:(cs.toList.drop ((k+1)*2)).take ((L.length- (k+1))*2)=news at hnl g n;have hb:∀j,w.cell? ⟨E.β 0,j,none⟩=cs[j]? :=λj=>S2 M
 have hs:∀q u,news[q]? =some u->w.cell? ⟨E.β 0,(k+1)*2+q,none⟩=some u:=λq u Q=>by
  have x:q<(L.length- (k+1))*2:=by rw[←hnl];exact(u9.1 Q).1
  rw[hb,←g q x];exact Q
 have hc:∀q,q<L.length*2->(w.cell? ⟨E.β 0,q,none⟩).isSome=true:=λq Q=>by
  obtain⟨u,z,_⟩:=l q Q;rw[hb,z];rfl
 have hf:∀q,q<L.length*2->w.frozen? ⟨E.β 0,q,none⟩=false:=λq _=>by simp[World.frozen?,M]
 refine(b20 (E.β 0) (E.κ 0) L.length k (k+1) news w rfl hk e2 hnl n hs hc hf).mono ?_
 rintro e w' ⟨rfl,F⟩;have ac:w.drew.heap[E.β 0]? =some (.cells cs B (0,0)):=M;obtain⟨a1,a2,a3,a4,a5,af,a6,a7,a8,a9⟩:=pO w.drew (E.β 0) (k*2) B cs news ac (by rw[hnl];omega) n
 generalize w.drew.setCells (E.β 0) (k*2) news=w1 at F a1 a2 a3 a4 a5 a6;obtain⟨b1,b2,b3,b4,b5,C,b6,b7,b8,_⟩:=pO w1 (E.β 0) ((k+(L.length- (k+1)))*2) B af jB a6 (by rw[a7];show _+2<=_;omega) (by intro v I;simp only[jB,vO,j_i,or_false] at I;rcases I with rfl|rfl<;>rfl)
 rw[←F] at b1 b2 b3 b4 b5 b6;have N:(xH L k).length=k+(L.length- (k+1)):=c1q hk;have ab:jB.length=2:=rfl;have R:∀r q,r<(xH L k).length->q<2->C[r*2+q]? =cs[shJ k r*2+q]? :=λr q X Q=>by
  rw[b8 _ (.inl Z9)]
  unfold shJ;by_cases h:r<k
  ·rw[if_pos h,a8 _ (.inl Z9)]
  ·rw[if_neg h];have:=a9 ((r-k)*2+q) (by rw[hnl];omega)
   rw[show k*2+((r-k)*2+q)=r*2+q by omega] at this
   rw[this,g _ Z9]
   congr 1
   omega
 have ag:∀r,r<(xH L k).length->shJ k r<L.length:=λr X=>by unfold shJ;split<;>omega
 have Y:∀r,X2 (xH L k) r=X2 L (shJ k r):=λr=>by unfold X2;rw[c6I hk]
 obtain⟨hI,ae⟩:=(c9c hH hN).write (w':=w') O rfl (b1.trans a1) (b2.trans a2) (b3.trans a3) (Nat.le_of_eq (b4.trans a4).symm) (λb _ A=>(b5 b A).trans (a5 b A)) hκ (.arr true 0 2 (xH L k).length (X2 (xH L k))) C B b6 e1.symm (by
   rw[e1];refine e7.keep (b7.trans a7) λq Q=>?_
   rw[b8 q (.inr (by rw[ab];omega)),a8 q (.inr (by rw[hnl];omega))]) (show(xH L k).length<=E.κ 0 by omega) (λi _=>rfl) (λi t _ d=>by
   simp only[Ob.toArr,X2,Txn.ts,vO,j_i,or_false] at d;rcases d with rfl|rfl<;>rfl) (λ_ i t _ d=>by
   simp only[Ob.toArr,X2,Txn.ts,vO,j_i,or_false] at d;rcases d with rfl|rfl<;>rfl) (λi j t hi J=>by
   have hi:i<(xH L k).length:=hi;have J:(X2 (xH L k) i)[j]? =some t:=J;have V:j<2:=(u9.1 J).1
   rw[Y i] at J;obtain⟨t',u,z,f,h3,_⟩:=W (shJ k i) j (ag i hi) V;rw[J] at z;simp only[X0] at z;subst z;exact⟨u,by show C[i*2+j]? =_;rw[R i j hi V];exact f,h3⟩)
 refine⟨_,_,rfl,hI,ae.stp,?_⟩
 rw[N];have:=Rd.osl (E:=E) (w:=w') 0 0 (k+(L.length- (k+1))) 0 (some ⟨E.β 0,0,none⟩) hL (show 0+_<=E.κ 0 by omega) (λ_=>W7) (λ_=>rfl)
 rw[Nat.sub_zero] at this;exact this
def aP(o o':Ob):Prop:=o=o'∨∃cl ty sz n n' row row',o= .arr cl ty sz n row/\o'= .arr cl ty sz n' row'/\n'<=n/\∀i,i<n'->row' i=row i
def c7p(H H':X9):Prop:=H'.length=H.length/\∀k o',Y4 H' k=some o'->∃o,Y4 H k=some o/\aP o o'
theorem aP.blk{E:Env}{k:Nat}{o o':Ob}{b:Nat}(h:aP o o')(B:A6 E k o' b):A6 E k o b:=by
 rcases h with rfl|⟨cl,ty,sz,n,n',row,row',rfl,rfl,_,_⟩
 ·exact B
 ·exact .inl (B.arr rfl)
theorem aP.ok{E:Env}{w:World}{k:Nat}{o o':Ob}(h:aP o o')(ho:e9 E w k o):e9 E w k o':=by
 rcases h with rfl|⟨cl,ty,sz,n,n',row,row',rfl,rfl,hn,hr⟩
 ·exact ho
 ·obtain⟨e1,e2,e3,e4,e5,cs,tyb,e6,e7,e8⟩:=(show T6 E w k ⟨cl,ty,sz,n,row⟩ from ho)
  dsimp only at e1 e2 e3 e4 e5 e7 e8;refine(show T6 E w k ⟨cl,ty,sz,n',row'⟩ from⟨e1,Nat.le_trans hn e2,λi hi=>?_,λi t hi d=>?_,λC i t hi d=>?_,cs,tyb,e6,e7,λi j t hi J=>?_⟩)
  ·have hi:i<n':=hi;show(row' i).length=sz;rw[hr i hi];exact e3 i Z9
  ·have hi:i<n':=hi;have d:t ∈ row' i:=d;rw[hr i hi] at d;exact e4 i t Z9 d
  ·have hi:i<n':=hi;have d:t ∈ row' i:=d;rw[hr i hi] at d;exact e5 C i t Z9 d
  ·have hi:i<n':=hi;have J:(row' i)[j]? =some t:=J;rw[hr i hi] at J;exact e8 i j t Z9 J
theorem hM{P:Program}{f:FuncId}{args:List T}{H H1 H2:X9}{res:T}(h:F8 P f args H res H1)(hc:c7p H1 H2):F8 P f args H res H2:=by
 intro E w vs q N r;refine(h E w vs q N r).mono ?_
 rintro e w' ⟨v,E',rfl,hI,t,g⟩;refine⟨v,E',rfl,⟨⟨λk o hk=>?_,λk k' o o' b hk i B j=>?_,λk hk=>by rw[hc.1];exact hI.heap.lt k hk,hI.heap.l2,λk o v hk hv=>?_⟩,hI.nlt,hI.nnew,λk o b hk B=>?_,hI.fr,hI.keep⟩,t,g⟩
 ·obtain⟨o0,h0,hcut⟩:=hc.2 k o hk;obtain⟨u,x,A⟩:=hI.heap.live k o0 h0;exact⟨u,hcut.ok x,λb B=>A b (hcut.blk B)⟩
 ·obtain⟨o0,h0,hcut⟩:=hc.2 k o hk;obtain⟨O,l,d⟩:=hc.2 k' o' i;exact hI.heap.inj k k' o0 O b h0 l (hcut.blk B) (d.blk j)
 ·obtain⟨o0,h0,hcut⟩:=hc.2 k o hk;obtain⟨v0,ty,sz,n,row,rfl,hle⟩:=hI.heap.cur k o0 v h0 hv;rcases hcut with rfl|⟨_,_,_,_,_,_,_,e,_⟩
  ·exact⟨v0,ty,sz,n,row,rfl,hle⟩
  ·cases e
 ·obtain⟨o0,h0,hcut⟩:=hc.2 k o hk;exact hI.bnew k o0 b h0 (hcut.blk B)
theorem c1o{a b c:Option Ob}(h:∀o',c=some o'->∃o,a=some o/\aP o o'):c7p [a,b] [c,b]:=by
 refine⟨rfl,λk o' d=>?_⟩
 match k,d with
 |0,d=>exact h o' d
 |1,d=>exact⟨o',d,.inl rfl⟩
 |k+2,d=>simp[Y4] at d
def E3{α:Type}[Inhabited α](f:α->Bool)(L:List α)(j:Nat):List α:=X8 f L j++L.drop (X8 f L j).length
theorem b6l{α:Type}[Inhabited α]{f:α->Bool}{L:List α}{j q:Nat}(h:(X8 f L j).length<=q):(E3 f L j).getD q dz=L.getD q dz:=by
 unfold E3;rw[P4,qA h,List.getElem?_drop,←P4]
 congr 1
 omega
theorem c8t{α:Type}[Inhabited α]{f:α->Bool}{L:List α}{j q:Nat}(h:q<(X8 f L j).length):(E3 f L j).getD q dz=(X8 f L j).getD q dz:=by
 unfold E3;rw[P4,rL h,←P4]
theorem b3i{α:Type}[Inhabited α]{f:α->Bool}{L:List α}{j:Nat}(h:f (L.getD j dz)=false):E3 f L (j+1)=E3 f L j:=by
 unfold E3;rw[pR h]
theorem c9r{α:Type}[Inhabited α]{f:α->Bool}{L:List α}{j:Nat}(h:f (L.getD j dz)=true)(q:Nat):(E3 f L (j+1)).getD q dz=if q=(X8 f L j).length then L.getD j dz else(E3 f L j).getD q dz:=by
 have e:E3 f L (j+1)=X8 f L j++(L.getD j dz::L.drop ((X8 f L j).length+1)):=by
  unfold E3;rw[aL h,F6,List.length_singleton,List.append_assoc];rfl
 rw[e];unfold E3;generalize X8 f L j=A;generalize L.getD j dz=x;rcases Nat.lt_trichotomy q A.length with h1|h1|h1
 ·rw[if_neg Z9,P4,P4,rL h1,rL h1]
 ·rw[if_pos h1,P4,h1,qA (U9 _),j_h]
  rfl
 ·rw[if_neg Z9,P4,P4,qA Z9,qA Z9]
  obtain⟨d,hd⟩:∃d,q-A.length=d+1:=⟨q-A.length-1,Z9⟩
  rw[hd,List.getElem?_cons_succ,List.getElem?_drop,List.getElem?_drop]
  congr 2
  omega
theorem b0B{α:Type}[Inhabited α]{f:α->Bool}{L:List α}:∀j,j<=L.length->(∀q,q<j->f (L.getD q dz)=true)->X8 f L j=L.take j
 |0,_,_=>by simp[X8]
 |j+1,hj,h=>by
  rw[aL (h j Z9),b0B j Z9 λq Q=>h q Z9,List.take_add_one,P4,I3 (show j<L.length by omega)]
  rfl
theorem lM{α:Type}[Inhabited α]{f:α->Bool}{L:List α}{j:Nat}(J:j<=L.length)(h:∀q,q<j->f (L.getD q dz)=true):(X8 f L j).length=j/\E3 f L j=L:=by
 have e:=b0B j J h;have l:(L.take j).length=j:=by rw[List.length_take];omega
 unfold E3;rw[e,l];exact⟨rfl,List.take_append_drop j L⟩
def sL(n:Int):Option Ob:=some (.arr true 1000000 1 1 λ_=>[Ji n])
def c3k:Con:=.rel ⟨Lck×Int,λx=>[.agg x.1.ts,.bref [Ji x.2]],λx=>.bool (x.1.tx==x.2),λ_=>True⟩
theorem c1J(x:Lck)(tx:Int)(h:
  (x.tx==tx)=(x.tx==tx)):
  V3 prog 368 [.agg x.ts,.bref [Ji tx]] (.bool (x.tx==tx)):=
 U6 gN func368 Z3 h
theorem a46:GK 368 c3k:=gk func368<|λx _=>c1J x.1 x.2 rfl
def c1B:Con:=.rel ⟨Wt×Int,λx=>[.agg x.1.ts,.bref [Ji x.2]],λx=>.bool (x.1.tx==x.2||x.1.fo==x.2),λ_=>True⟩
theorem c1X(x:Wt)(tx:Int)(h:
let p:=(x.tx==tx||x.fo==tx);  p=p):
  V3 prog 369 [.agg x.ts,.bref [Ji tx]] (.bool (x.tx==tx||x.fo==tx)):=
 U6 gN func369 Z3 h
theorem a4a:GK 369 c1B:=gk func369<|λx _=>c1X x.1 x.2 rfl
def c86(tx:Int):T:=.fn (.func 368) [.bref [Ji tx]]
def c8p(tx:Int):T:=.fn (.func 369) [.bref [Ji tx]]
def d1(L:List Lck)(tx:Int)(i:Nat):Bool:=(L.getD i dz).tx==tx
def d2(L:List Wt)(tx:Int)(i:Nat):Bool:=(L.getD i dz).tx==tx||(L.getD i dz).fo==tx
def b17:Con:=.rel ⟨List Lck×Int,λx=>[wO x.1,c86 x.2],λx=>Ji (S6 x.1.length (d1 x.1 x.2)),λx=>L7 x.1.length⟩
def b4D(L:List Lck)(tx:Int):Nat->Ann
 |0=>.one (V5 L.length (d1 L tx)) (λx=>⟨[(0,wO L),(1,c86 tx),(7,Ji L.length),(8,Ji x.1)],[]⟩) (λx=>L.length-x.1) [] [] (λ_=>Z3)
 |_=>.none
theorem a7J:GK 316 b17:=gk func316<|by
 rintro⟨L,tx⟩ (hL:L.length<1000000000000);refine U6 (gC a46 gN) func316 (b4D L tx) (α:=let r:=(L.length:Int);let q:=(T.bref [Ji tx]);(∃(x:V5 L.length (d1 L tx)),((Z0 Z2 L L)/\(Fn.func 368=Fn.func 368/\J9 (λ(x:Nat)=>none) q q/\True)/\r=r/\0=(x.1:Int)/\True)/\True)/\∀(x:V5 L.length (d1 L tx)),let z:=(x.1:Int);let p:=(L.getD z.toNat dz);bd (z<r) (W9 z L.length/\∃(X:(Lck×Int)),(((p.tx=X.1.tx/\p.ta=X.1.ta/\p.row=X.1.row/\p.mo=X.1.mo/\True)/\(tx=X.2/\True)/\True)/\True)/\br (X.1.tx==X.2) (z=S6 L.length (d1 L tx)) (Ri (z+1)/\∃(y:V5 L.length (d1 L tx)),(((Z0 Z2 L L)/\(Fn.func 368=Fn.func 368/\J9 (λ(x:Nat)=>none) q q/\True)/\r=r/\z+1=(y.1:Int)/\True)/\True)/\Lt (L.length-y.1) (L.length-x.1))) ((-1:Int)=S6 L.length (d1 L tx))) ⟨⟨F9,⟨Z8,⟨rfl,U1 _,Z6⟩,Z8⟩,Z6⟩,λx=>⟨λC=>?_,λC=>?_⟩⟩
 ·have h:=Y2 C;refine⟨Y6 h,(L.getD x.1 dz,tx),Z8,λhp=>(O0 h hp x.2.2).symm,λhp=>⟨W4 h Z9,x.succ h hp,⟨⟨Z8,⟨rfl,U1 _,Z6⟩,rfl,J2,Z6⟩,Z6⟩,V5.ext_lt h⟩⟩
 ·have e:=Y0 C;exact(K4 λj J=>x.2.2 j (yB J e)).symm
def b9O:Con:=.rel ⟨List Wt×Int,λx=>[nI x.1,c8p x.2],λx=>Ji (S6 x.1.length (d2 x.1 x.2)),λx=>L7 x.1.length⟩
def b7m(L:List Wt)(tx:Int):Nat->Ann
 |0=>.one (V5 L.length (d2 L tx)) (λx=>⟨[(0,nI L),(1,c8p tx),(7,Ji L.length),(8,Ji x.1)],[]⟩) (λx=>L.length-x.1) [] [] (λ_=>Z3)
 |_=>.none
theorem b2o:GK 317 b9O:=gk func317<|by
 rintro⟨L,tx⟩ (hL:L.length<1000000000000);refine U6 (gC a4a gN) func317 (b7m L tx) (α:=let r:=(L.length:Int);let p:=(T.bref [Ji tx]);(∃(x:V5 L.length (d2 L tx)),((Z0 Y7 L L)/\(Fn.func 369=Fn.func 369/\J9 (λ(x:Nat)=>none) p p/\True)/\r=r/\0=(x.1:Int)/\True)/\True)/\∀(x:V5 L.length (d2 L tx)),let q:=(x.1:Int);let z:=(L.getD q.toNat dz);bd (q<r) (W9 q L.length/\∃(X:(Wt×Int)),(((z.tx=X.1.tx/\z.fo=X.1.fo/\True)/\(tx=X.2/\True)/\True)/\True)/\br (X.1.tx==X.2||X.1.fo==X.2) (q=S6 L.length (d2 L tx)) (Ri (q+1)/\∃(y:V5 L.length (d2 L tx)),(((Z0 Y7 L L)/\(Fn.func 369=Fn.func 369/\J9 (λ(x:Nat)=>none) p p/\True)/\r=r/\q+1=(y.1:Int)/\True)/\True)/\Lt (L.length-y.1) (L.length-x.1))) ((-1:Int)=S6 L.length (d2 L tx))) ⟨⟨F9,⟨Z8,⟨rfl,U1 _,Z6⟩,Z8⟩,Z6⟩,λx=>⟨λC=>?_,λC=>?_⟩⟩
 ·have h:=Y2 C;refine⟨Y6 h,(L.getD x.1 dz,tx),Z8,λhp=>(O0 h hp x.2.2).symm,λhp=>⟨W4 h Z9,x.succ h hp,⟨⟨Z8,⟨rfl,U1 _,Z6⟩,rfl,J2,Z6⟩,Z6⟩,V5.ext_lt h⟩⟩
 ·have e:=Y0 C;exact(K4 λj J=>x.2.2 j (yB J e)).symm
def c70:List T:=[Ji 0,Ji 0,Ji 0,Ji 0]
def zWt:List T:=[Ji 0,Ji 0]
def c8A(L:List Lck)(tx:Int):Option Ob:=some (.arr true 0 4 L.length (I1 (Z2 (E3 (hF tx) L L.length)) (X8 (hF tx) L L.length).length (L.length- (X8 (hF tx) L L.length).length) c70))
def c9b(L:List Wt)(tx:Int):Option Ob:=some (.arr true 0 2 L.length (I1 (Y7 (E3 (wF tx) L L.length)) (X8 (wF tx) L L.length).length (L.length- (X8 (wF tx) L L.length).length) zWt))
def b9r:Con:=.reff ⟨List Lck×Int,λx=>[.osl 0 0 x.1.length,.fn (.func 368) [.ref 1 0 0]],λx=>[zB x.1,sL x.2],λx=>.osl 0 0 (X8 (hF x.2) x.1 x.1.length).length,λx=>[zB (X8 (hF x.2) x.1 x.1.length),sL x.2],λx=>x.1.length<=1048576⟩
def b5E(L:List Lck)(tx:Int):Nat->Ann
 |0=>.one {j:Nat//j<=L.length} (λx=>⟨[(0,.osl 0 0 L.length),(1,.fn (.func 368) [.ref 1 0 0]),(5,Ji (X8 (hF tx) L x.1).length),(6,Ji x.1)],[some (.arr true 0 4 L.length (Z2 (E3 (hF tx) L x.1))),sL tx]⟩) (λx=>L.length-x.1) cL cL (λ_=>Z3)
 |_=>.none
theorem b5I(L:List Lck)(tx:Int)(h:
  ∃(x:(List Lck×Int)),(Le (0+L.length) L.length/\((Z0 Z2 L x.1)/\(Fn.func 368=Fn.func 368/\(tx=x.2/\True)/\True)/\True)/\L7 x.1.length)/\br (S6 x.1.length (d1 x.1 x.2)==(-1:Int)) (((0=0/\L.length=(X8 (hF tx) L L.length).length)/\True)/\(L.length=L.length/\Z7 L.length (Z2 L) λ(j:Nat)=>match(X8 (hF tx) L L.length).length.ble j&&j.blt ((X8 (hF tx) L L.length).length+(L.length- (X8 (hF tx) L L.length).length)) with|true=>[Ji 0,Ji 0,Ji 0,Ji 0]|false=>[Ji ((E3 (hF tx) L L.length).getD j dz).tx,Ji ((E3 (hF tx) L L.length).getD j dz).ta,Ji ((E3 (hF tx) L L.length).getD j dz).row,Ji ((E3 (hF tx) L L.length).getD j dz).mo])/\(1=1/\1=1/\tx=tx/\True)/\True) (Ri (S6 x.1.length (d1 x.1 x.2)+1)/\(∃(X:{j:Nat//j<=L.length}),((0=0/\L.length=L.length)/\(Fn.func 368=Fn.func 368/\(0=0/\0=0)/\True)/\S6 x.1.length (d1 x.1 x.2)=(↑(X8 (hF tx) L X.val).length:Int)/\S6 x.1.length (d1 x.1 x.2)+1=(X.val:Int)/\True)/\(L.length=L.length/\Z7 L.length (Z2 L) (Z2 (E3 (hF tx) L X.val)))/\(1=1/\1=1/\tx=tx/\True)/\True)/\∀(x:{j:Nat//j<=L.length}),bd ((x.1:Int)<(L.length:Int)) (W9 (x.1:Int) L.length/\Lt (0+(x.1:Int).toNat) L.length/\∃(X:(Lck×Int)),(((((E3 (hF tx) L x.1).getD (0+(x.1:Int).toNat) dz).tx=X.1.tx/\((E3 (hF tx) L x.1).getD (0+(x.1:Int).toNat) dz).ta=X.1.ta/\((E3 (hF tx) L x.1).getD (0+(x.1:Int).toNat) dz).row=X.1.row/\((E3 (hF tx) L x.1).getD (0+(x.1:Int).toNat) dz).mo=X.1.mo/\True)/\(tx=X.2/\True)/\True)/\True)/\br (!X.1.tx==X.2) (W9 (↑(X8 (hF tx) L x.1).length:Int) L.length/\Lt (0+(↑(X8 (hF tx) L x.1).length:Int).toNat) L.length/\Ri ((↑(X8 (hF tx) L x.1).length:Int)+1)/\Ri ((x.1:Int)+1)/\∃(y:{j:Nat//j<=L.length}),(((0=0/\L.length=L.length)/\(Fn.func 368=Fn.func 368/\(0=0/\0=0)/\True)/\(↑(X8 (hF tx) L x.1).length:Int)+1=(↑(X8 (hF tx) L y.1).length:Int)/\(x.1:Int)+1=(y.1:Int)/\True)/\(L.length=L.length/\Z7 L.length (setRow (Z2 (E3 (hF tx) L x.1)) (0+(↑(X8 (hF tx) L x.1).length:Int).toNat) 0 [Ji ((E3 (hF tx) L x.1).getD (0+(x.1:Int).toNat) dz).tx,Ji ((E3 (hF tx) L x.1).getD (0+(x.1:Int).toNat) dz).ta,Ji ((E3 (hF tx) L x.1).getD (0+(x.1:Int).toNat) dz).row,Ji ((E3 (hF tx) L x.1).getD (0+(x.1:Int).toNat) dz).mo]) (Z2 (E3 (hF tx) L y.1)))/\(1=1/\1=1/\tx=tx/\True)/\True)/\Lt (L.length-y.1) (L.length-x.1)) (Ri ((x.1:Int)+1)/\∃(y:{j:Nat//j<=L.length}),(((0=0/\L.length=L.length)/\(Fn.func 368=Fn.func 368/\(0=0/\0=0)/\True)/\(↑(X8 (hF tx) L x.1).length:Int)=(↑(X8 (hF tx) L y.1).length:Int)/\(x.1:Int)+1=(y.1:Int)/\True)/\(L.length=L.length/\Z7 L.length (Z2 (E3 (hF tx) L x.1)) (Z2 (E3 (hF tx) L y.1)))/\(1=1/\1=1/\tx=tx/\True)/\True)/\Lt (L.length-y.1) (L.length-x.1))) (kB (↑(X8 (hF tx) L x.1).length:Int) L.length/\Le (0+(↑(X8 (hF tx) L x.1).length:Int).toNat+(L.length- (↑(X8 (hF tx) L x.1).length:Int).toNat)) L.length/\kB (↑(X8 (hF tx) L x.1).length:Int) L.length/\((0=0/\(↑(X8 (hF tx) L x.1).length:Int).toNat=(X8 (hF tx) L L.length).length)/\True)/\(L.length=L.length/\Z7 L.length (λ(j:Nat)=>match(0+(↑(X8 (hF tx) L x.1).length:Int).toNat).ble j&&j.blt (0+(↑(X8 (hF tx) L x.1).length:Int).toNat+(L.length- (↑(X8 (hF tx) L x.1).length:Int).toNat)) with|true=>[Ji 0,Ji 0,Ji 0,Ji 0]|false=>[Ji ((E3 (hF tx) L x.1).getD j dz).tx,Ji ((E3 (hF tx) L x.1).getD j dz).ta,Ji ((E3 (hF tx) L x.1).getD j dz).row,Ji ((E3 (hF tx) L x.1).getD j dz).mo]) λ(j:Nat)=>match(X8 (hF tx) L L.length).length.ble j&&j.blt ((X8 (hF tx) L L.length).length+(L.length- (X8 (hF tx) L L.length).length)) with|true=>[Ji 0,Ji 0,Ji 0,Ji 0]|false=>[Ji ((E3 (hF tx) L L.length).getD j dz).tx,Ji ((E3 (hF tx) L L.length).getD j dz).ta,Ji ((E3 (hF tx) L L.length).getD j dz).row,Ji ((E3 (hF tx) L L.length).getD j dz).mo])/\(1=1/\1=1/\tx=tx/\True)/\True))):
  F8 prog 367 [.osl 0 0 L.length,.fn (.func 368) [.ref 1 0 0]] [zB L,sL tx] (.osl 0 0 (X8 (hF tx) L L.length).length) [c8A L tx,sL tx]:=
 C7 (gC a7J (gC a46 gN)) func367 (b5E L tx) [cL] h
def c0T:Con:=.reff ⟨List Wt×Int,λx=>[.osl 0 0 x.1.length,.fn (.func 369) [.ref 1 0 0]],λx=>[sT x.1,sL x.2],λx=>.osl 0 0 (X8 (wF x.2) x.1 x.1.length).length,λx=>[sT (X8 (wF x.2) x.1 x.1.length),sL x.2],λx=>x.1.length<=1048576⟩
def c2V(L:List Wt)(tx:Int):Nat->Ann
 |0=>.one {j:Nat//j<=L.length} (λx=>⟨[(0,.osl 0 0 L.length),(1,.fn (.func 369) [.ref 1 0 0]),(5,Ji (X8 (wF tx) L x.1).length),(6,Ji x.1)],[some (.arr true 0 2 L.length (Y7 (E3 (wF tx) L x.1))),sL tx]⟩) (λx=>L.length-x.1) cL cL (λ_=>Z3)
 |_=>.none
theorem c0S(L:List Wt)(tx:Int)(h:
  ∃(x:(List Wt×Int)),(Le (0+L.length) L.length/\((Z0 Y7 L x.1)/\(Fn.func 369=Fn.func 369/\(tx=x.2/\True)/\True)/\True)/\L7 x.1.length)/\br (S6 x.1.length (d2 x.1 x.2)==(-1:Int)) (((0=0/\L.length=(X8 (wF tx) L L.length).length)/\True)/\(L.length=L.length/\Z7 L.length (Y7 L) λ(j:Nat)=>match(X8 (wF tx) L L.length).length.ble j&&j.blt ((X8 (wF tx) L L.length).length+(L.length- (X8 (wF tx) L L.length).length)) with|true=>[Ji 0,Ji 0]|false=>[Ji ((E3 (wF tx) L L.length).getD j dz).tx,Ji ((E3 (wF tx) L L.length).getD j dz).fo])/\(1=1/\1=1/\tx=tx/\True)/\True) (Ri (S6 x.1.length (d2 x.1 x.2)+1)/\(∃(X:{j:Nat//j<=L.length}),((0=0/\L.length=L.length)/\(Fn.func 369=Fn.func 369/\(0=0/\0=0)/\True)/\S6 x.1.length (d2 x.1 x.2)=(↑(X8 (wF tx) L X.val).length:Int)/\S6 x.1.length (d2 x.1 x.2)+1=(X.val:Int)/\True)/\(L.length=L.length/\Z7 L.length (Y7 L) (Y7 (E3 (wF tx) L X.val)))/\(1=1/\1=1/\tx=tx/\True)/\True)/\∀(x:{j:Nat//j<=L.length}),bd ((x.1:Int)<(L.length:Int)) (W9 (x.1:Int) L.length/\Lt (0+(x.1:Int).toNat) L.length/\∃(X:(Wt×Int)),(((((E3 (wF tx) L x.1).getD (0+(x.1:Int).toNat) dz).tx=X.1.tx/\((E3 (wF tx) L x.1).getD (0+(x.1:Int).toNat) dz).fo=X.1.fo/\True)/\(tx=X.2/\True)/\True)/\True)/\br (!(X.1.tx==X.2||X.1.fo==X.2)) (W9 (↑(X8 (wF tx) L x.1).length:Int) L.length/\Lt (0+(↑(X8 (wF tx) L x.1).length:Int).toNat) L.length/\Ri ((↑(X8 (wF tx) L x.1).length:Int)+1)/\Ri ((x.1:Int)+1)/\∃(y:{j:Nat//j<=L.length}),(((0=0/\L.length=L.length)/\(Fn.func 369=Fn.func 369/\(0=0/\0=0)/\True)/\(↑(X8 (wF tx) L x.1).length:Int)+1=(↑(X8 (wF tx) L y.1).length:Int)/\(x.1:Int)+1=(y.1:Int)/\True)/\(L.length=L.length/\Z7 L.length (setRow (Y7 (E3 (wF tx) L x.1)) (0+(↑(X8 (wF tx) L x.1).length:Int).toNat) 0 [Ji ((E3 (wF tx) L x.1).getD (0+(x.1:Int).toNat) dz).tx,Ji ((E3 (wF tx) L x.1).getD (0+(x.1:Int).toNat) dz).fo]) (Y7 (E3 (wF tx) L y.1)))/\(1=1/\1=1/\tx=tx/\True)/\True)/\Lt (L.length-y.1) (L.length-x.1)) (Ri ((x.1:Int)+1)/\∃(y:{j:Nat//j<=L.length}),(((0=0/\L.length=L.length)/\(Fn.func 369=Fn.func 369/\(0=0/\0=0)/\True)/\(↑(X8 (wF tx) L x.1).length:Int)=(↑(X8 (wF tx) L y.1).length:Int)/\(x.1:Int)+1=(y.1:Int)/\True)/\(L.length=L.length/\Z7 L.length (Y7 (E3 (wF tx) L x.1)) (Y7 (E3 (wF tx) L y.1)))/\(1=1/\1=1/\tx=tx/\True)/\True)/\Lt (L.length-y.1) (L.length-x.1))) (kB (↑(X8 (wF tx) L x.1).length:Int) L.length/\Le (0+(↑(X8 (wF tx) L x.1).length:Int).toNat+(L.length- (↑(X8 (wF tx) L x.1).length:Int).toNat)) L.length/\kB (↑(X8 (wF tx) L x.1).length:Int) L.length/\((0=0/\(↑(X8 (wF tx) L x.1).length:Int).toNat=(X8 (wF tx) L L.length).length)/\True)/\(L.length=L.length/\Z7 L.length (λ(j:Nat)=>match(0+(↑(X8 (wF tx) L x.1).length:Int).toNat).ble j&&j.blt (0+(↑(X8 (wF tx) L x.1).length:Int).toNat+(L.length- (↑(X8 (wF tx) L x.1).length:Int).toNat)) with|true=>[Ji 0,Ji 0]|false=>[Ji ((E3 (wF tx) L x.1).getD j dz).tx,Ji ((E3 (wF tx) L x.1).getD j dz).fo]) λ(j:Nat)=>match(X8 (wF tx) L L.length).length.ble j&&j.blt ((X8 (wF tx) L L.length).length+(L.length- (X8 (wF tx) L L.length).length)) with|true=>[Ji 0,Ji 0]|false=>[Ji ((E3 (wF tx) L L.length).getD j dz).tx,Ji ((E3 (wF tx) L L.length).getD j dz).fo])/\(1=1/\1=1/\tx=tx/\True)/\True))):
  F8 prog 285 [.osl 0 0 L.length,.fn (.func 369) [.ref 1 0 0]] [sT L,sL tx] (.osl 0 0 (X8 (wF tx) L L.length).length) [c9b L tx,sL tx]:=
 C7 (gC b2o (gC a4a gN)) func285 (c2V L tx) [cL] h
theorem a15{n:Nat}{p:Nat->Bool}(h:S6 n p= -1):∀q,q<n->p q=false:=by
 intro q;induction q using Nat.strongRecOn with
 |ind q i=>
  intro Q;cases hp:p q with
  |false=>rfl
  |true=>
   have:=O0 Q hp λj J=>i j J Z9
   rw[this] at h;omega
theorem fQ{n:Nat}{p:Nat->Bool}(h:(S6 n p==(-1:Int))=false):∃i,i<n/\p i=true/\(∀j,j<i->p j=false)/\S6 n p=(i:Int):=by
 refine lZ λN=>?_
 cases A:anyI n p with
 |false=>
  rw[K4 (P5.1 A)] at h;cases h
 |true=>
  obtain⟨i,hi,hp⟩:=R9.1 A;have f:∃i,i<n/\p i=true/\∀j,j<i->p j=false:=by
   induction i using Nat.strongRecOn with
   |ind i I=>
    by_cases d:∃j,j<i/\p j=true
    ·obtain⟨j,d,J⟩:=d;exact I j d Z9 J
    ·refine⟨i,hi,hp,λj hj'=>?_⟩
     cases J:p j with
     |false=>rfl
     |true=>exact absurd ⟨j,hj',J⟩ d
  obtain⟨i,hi,hp,l⟩:=f;rw[O0 hi hp l] at N;omega
theorem a10{α:Type}[Inhabited α]{ts:α->List T}{m:Nat}(M:∀a,(ts a).length=m){f:α->Bool}{L:List α}{j:Nat}(h:f (L.getD j dz)=true):Z7 L.length (setRow (λi=>ts ((E3 f L j).getD i dz)) (X8 f L j).length 0 (ts (L.getD j dz))) λi=>ts ((E3 f L (j+1)).getD i dz):=λi _=>by
 rw[E8 (by rw[M,M])]
 dsimp only;rw[c9r h];cases B:Nat.beq i (X8 f L j).length with
 |true=>
  rw[if_pos (G0 B)]
 |false=>
  rw[if_neg λe=>by rw[e,Nat.beq_refl] at B;cases B]
theorem eM{row row':Nat->List T}{n m:Nat}{z:List T}(h:∀i,i<n->row i=row' i)(M:n<=m):Z7 n row (I1 row' m (n-m) z):=λi hi=>by
 unfold I1;cases B:Nat.ble m i with
 |true=>exact absurd (yY B) Z9
 |false=>exact h i hi
theorem a2q{α:Type}[Inhabited α]{ts:α->List T}{sz:Nat}{f:α->Bool}{L:List α}{z:List T}{b:Option Ob}(h:(X8 f L L.length).length<=L.length):c7p [some (.arr true 0 sz L.length (I1 (λi=>ts ((E3 f L L.length).getD i dz)) (X8 f L L.length).length (L.length- (X8 f L L.length).length) z)),b] [some (.arr true 0 sz (X8 f L L.length).length (λi=>ts ((X8 f L L.length).getD i dz))),b]:=c1o λo' o=>by
 simp only[X0] at o;subst o;refine⟨_,rfl,.inr ⟨_,_,_,_,_,_,_,rfl,rfl,h,λi hi=>?_⟩⟩
 unfold I1;cases B:Nat.ble (X8 f L L.length).length i with
 |true=>exact absurd (yY B) Z9
 |false=>exact(congrArg ts (c8t hi)).symm
theorem b3B:GK 367 b9r:=gk func367<|by
 rintro⟨L,tx⟩ (hL:L.length<=1048576);have l:=r5 (hF tx) L L.length;refine hM (b5I L tx ⟨(L,tx),⟨uA _,Z8,rT⟩,λn=>?_,λn=>?_⟩) (a2q (ts:=Lck.ts) l)
 ·obtain⟨e,d⟩:=lM (f:=hF tx) (U9 L.length) λq Q=>by
   have:=a15 (beq_iff_eq.1 n) q Q;unfold d1 at this;unfold hF bne;rw[this];rfl
  refine⟨⟨⟨rfl,e.symm⟩,Z6⟩,⟨rfl,?_⟩,Z8⟩
  exact eM (row:=Z2 L) (row':=Z2 (E3 (hF tx) L L.length)) (z:=c70) (λi _=>by rw[d]) (Nat.le_of_eq e.symm)
 ·obtain⟨i,hi,hp,g,h⟩:=fQ n;have hi:i<L.length:=hi;obtain⟨e,d⟩:=lM (f:=hF tx) (L:=L) (j:=i) Z9 λq Q=>by
   have:=g q Q;unfold d1 at this;unfold hF bne;rw[this];rfl
  have I:hF tx (L.getD i dz)=false:=by
   unfold d1 at hp;unfold hF bne;rw[hp];rfl
  have o:(X8 (hF tx) L (i+1)).length=i:=by rw[pR I];exact e
  have r:E3 (hF tx) L (i+1)=L:=by rw[b3i I];exact d
  have h:S6 L.length (d1 L tx)=(i:Int):=h;refine⟨?_,⟨⟨i+1,hi⟩,⟨Z8,Z8,?_,?_,Z6⟩,⟨rfl,?_⟩,Z8⟩,λx=>⟨λhc=>?_,λhc=>?_⟩⟩
  ·dsimp only;rw[h];exact Z4 Z9
  ·dsimp only;rw[h,o]
  ·dsimp only;rw[h];omega
  ·dsimp only;rw[r];exact X6 _ _
  ·have hlt:=Y2 hc;have hle:=r5 (hF tx) L x.1;have e0:(E3 (hF tx) L x.1).getD x.1 dz=L.getD x.1 dz:=b6l hle;rw[E4,E4,D6,D6,e0];refine⟨Y6 hlt,hlt,(L.getD x.1 dz,tx),Z8,λhd=>?_,λhd=>?_⟩
   ·have hd:hF tx (L.getD x.1 dz)=true:=by
     exact hd
    exact⟨Y6 Z9,Q2,Z4 Z9,Z4 Z9,⟨x.1+1,hlt⟩,⟨⟨Z8,Z8,congrArg Int.ofNat (rE hd),X5,Z6⟩,⟨rfl,a10 (m:=4) (ts:=Lck.ts) (λ_=>rfl) hd⟩,Z8⟩,V5.ext_lt hlt⟩
   ·have hd:hF tx (L.getD x.1 dz)=false:=by
     exact hd
    refine⟨Z4 Z9,⟨x.1+1,hlt⟩,⟨⟨Z8,Z8,?_,X5,Z6⟩,⟨rfl,?_⟩,Z8⟩,V5.ext_lt hlt⟩
    ·dsimp only;rw[pR hd]
    ·dsimp only;rw[b3i hd];exact X6 _ _
  ·have hx:x.1=L.length:=by have:=x.2;have:=Y0 hc;omega
   rw[hx,E4,D6];exact⟨⟨Z9,Z9⟩,K2,⟨Z9,Z9⟩,Z8⟩
theorem b9j:GK 285 c0T:=gk func285<|by
 rintro⟨L,tx⟩ (hL:L.length<=1048576);have l:=r5 (wF tx) L L.length;refine hM (c0S L tx ⟨(L,tx),⟨uA _,Z8,rT⟩,λn=>?_,λn=>?_⟩) (a2q (ts:=Wt.ts) l)
 ·obtain⟨e,d⟩:=lM (f:=wF tx) (U9 L.length) λq Q=>by
   have:=a15 (beq_iff_eq.1 n) q Q;unfold d2 at this;unfold wF bne;rw[←Bool.not_or,this];rfl
  refine⟨⟨⟨rfl,e.symm⟩,Z6⟩,⟨rfl,?_⟩,Z8⟩
  exact eM (row:=Y7 L) (row':=Y7 (E3 (wF tx) L L.length)) (z:=zWt) (λi _=>by rw[d]) (Nat.le_of_eq e.symm)
 ·obtain⟨i,hi,hp,g,h⟩:=fQ n;have hi:i<L.length:=hi;obtain⟨e,d⟩:=lM (f:=wF tx) (L:=L) (j:=i) Z9 λq Q=>by
   have:=g q Q;unfold d2 at this;unfold wF bne;rw[←Bool.not_or,this];rfl
  have I:wF tx (L.getD i dz)=false:=by
   unfold d2 at hp;unfold wF bne;rw[←Bool.not_or,hp];rfl
  have o:(X8 (wF tx) L (i+1)).length=i:=by rw[pR I];exact e
  have r:E3 (wF tx) L (i+1)=L:=by rw[b3i I];exact d
  have h:S6 L.length (d2 L tx)=(i:Int):=h;refine⟨?_,⟨⟨i+1,hi⟩,⟨Z8,Z8,?_,?_,Z6⟩,⟨rfl,?_⟩,Z8⟩,λx=>⟨λhc=>?_,λhc=>?_⟩⟩
  ·dsimp only;rw[h];exact Z4 Z9
  ·dsimp only;rw[h,o]
  ·dsimp only;rw[h];omega
  ·dsimp only;rw[r];exact X6 _ _
  ·have hlt:=Y2 hc;have hle:=r5 (wF tx) L x.1;have e0:(E3 (wF tx) L x.1).getD x.1 dz=L.getD x.1 dz:=b6l hle;rw[E4,E4,D6,D6,e0];refine⟨Y6 hlt,hlt,(L.getD x.1 dz,tx),Z8,λhd=>?_,λhd=>?_⟩
   ·have hd:wF tx (L.getD x.1 dz)=true:=by
     unfold wF bne;rw[←Bool.not_or];exact hd
    exact⟨Y6 Z9,Q2,Z4 Z9,Z4 Z9,⟨x.1+1,hlt⟩,⟨⟨Z8,Z8,congrArg Int.ofNat (rE hd),X5,Z6⟩,⟨rfl,a10 (m:=2) (ts:=Wt.ts) (λ_=>rfl) hd⟩,Z8⟩,V5.ext_lt hlt⟩
   ·have hd:wF tx (L.getD x.1 dz)=false:=by
     unfold wF bne;rw[←Bool.not_or];exact hd
    refine⟨Z4 Z9,⟨x.1+1,hlt⟩,⟨⟨Z8,Z8,?_,X5,Z6⟩,⟨rfl,?_⟩,Z8⟩,V5.ext_lt hlt⟩
    ·dsimp only;rw[pR hd]
    ·dsimp only;rw[b3i hd];exact X6 _ _
  ·have hx:x.1=L.length:=by have:=x.2;have:=Y0 hc;omega
   rw[hx,E4,D6];exact⟨⟨Z9,Z9⟩,K2,⟨Z9,Z9⟩,Z8⟩
def frE(e:Eng)(tx:Int):Eng:={e with lk:=frK e.lk tx}
def c49:Con:=.reff ⟨Eng×Int×Nat,λx=>[.ref 0 0 11,Ji x.2.1],λx=>x.1.bx x.2.2,λ_=>.tup [],λx=>(frE x.1 x.2.1).nx x.2.2,λx=>x.1.lk.H.length<=1048576/\x.1.lk.W.length<=1048576⟩
theorem c0I:GK 331 c49:=gk func331<|by
 rintro⟨e,tx,v⟩ ⟨h,f⟩;dsimp only at h f;exact C7 (gC b3B (gC b9j gN)) func331 Z3 bC (α:=let q:=(X8 (wF tx) e.lk.W e.lk.W.length);let p:=(X8 (hF tx) e.lk.H e.lk.H.length);∃(x:(List Lck×Int)),let u:=x.1.length;let r:=(X8 (hF x.2) x.1 u);(((0=0/\e.lk.H.length=u)/\(Fn.func 368=Fn.func 368/\(0=0/\0=0)/\True)/\True)/\((Z0 Z2 e.lk.H x.1)/\(1=1/\Z7 1 (λ(x:Nat)=>[Ji tx]) λ(X:Nat)=>[Ji x.2])/\True)/\u<=1048576)/\∃(X:(List Wt×Int)),let z:=(X8 (wF X.2) X.1 X.1.length);(((0=0/\e.lk.W.length=X.1.length)/\(Fn.func 369=Fn.func 369/\(0=0/\0=0)/\True)/\True)/\((Z0 Y7 e.lk.W X.1)/\(1=1/\Z7 1 (λ(x_2:Nat)=>[Ji x.2]) λ(x:Nat)=>[Ji X.2])/\True)/\X.1.length<=1048576)/\(True/\True)/\(1=1/\1=1/\(0=0/\e.s.d.E.length=e.s.d.E.length)/\(0=0/\e.s.d.C.length=e.s.d.C.length)/\e.s.d.A=e.s.d.A/\(0=0/\e.s.d.keep.length=e.s.d.keep.length)/\e.s.ep=e.s.ep/\(0=0/\e.s.L.length=e.s.L.length)/\e.s.S=e.s.S/\(0=0/\e.s.fr.length=e.s.fr.length)/\e.s.J=e.s.J/\e.up=e.up/\(0=0/\e.X.length=e.X.length)/\(0=0/\r.length=p.length)/\(0=0/\z.length=q.length)/\e.N=e.N/\True)/\True/\True/\True/\True/\True/\True/\True/\True/\(Z0 Z5 e.s.d.E e.s.d.E)/\(Z0 Z1 e.s.d.C e.s.d.C)/\(Z0 Y9 e.s.d.keep e.s.d.keep)/\(Z0 Y1 e.s.L e.s.L)/\(v=v/\e.s.fr.length=e.s.fr.length/\V2 e.s.fr.length (Y5 e.s.fr) (Y5 e.s.fr))/\(Z0 X2 e.X e.X)/\(Z0 Z2 r p)/\(Z0 Y7 z q)/\True) ⟨(e.lk.H,tx),⟨Z8,Z8,h⟩,(e.lk.W,tx),⟨Z8,Z8,f⟩,Z8⟩
def OvB(e:Eng)(tx:Int)(k:Nat):Prop:=T9 e.X tx=k/\k<e.X.length/\(e.X.getD k dz).id=tx/\e.X.length<=1000/\e.lk.H.length<=1048576/\e.lk.W.length<=1048576
def c7t:Con:=.reff ⟨Eng×Int×Nat×Nat,λx=>[.ref 0 0 0,Ji x.2.1],λx=>x.1.bx x.2.2.2,λ_=>.tup [],λx=>(b2f x.1 x.2.2.1).nx x.2.2.2,λx=>OvB x.1 x.2.1 x.2.2.1⟩
theorem c7o(e:Eng)(tx:Int)(k v:Nat)(h:
let u:=(List.take k e.X++List.drop (k+1) e.X);let p:=(e.X.getD k dz).id;let w:=(X8 (wF p) e.lk.W e.lk.W.length);let y:=(X8 (hF p) e.lk.H e.lk.H.length);  ∃(x:(Eng×Int)),((LeG e)/\((qD e x.1)/\tx=x.2/\True)/\L7 x.1.X.length)/\Ri (T9 x.1.X x.2+1)/\∃(X:(List Txn×Nat)),(((0=0/\e.X.length=X.1.length)/\T9 x.1.X x.2=(X.2:Int)/\T9 x.1.X x.2+1=(↑(X.2+1):Int)/\True)/\((Z0 X2 e.X X.1)/\True)/\X.2<X.1.length)/\∃(x:(Eng×Int×Nat)),let j:=x.1.lk;let z:=(X8 (wF x.2.1) j.W j.W.length);let r:=(X8 (hF x.2.1) j.H j.H.length);let q:=x.1.s;(((0=0/\11=11)/\tx=x.2.1/\True)/\(iQ (v) (x.2.2) {e with X:=(xH X.1 X.2)} x.1)/\j.H.length<=1048576/\j.W.length<=1048576)/\(True/\True)/\(1=1/\1=1/\(0=0/\q.d.E.length=e.s.d.E.length)/\(0=0/\q.d.C.length=e.s.d.C.length)/\q.d.A=e.s.d.A/\(0=0/\q.d.keep.length=e.s.d.keep.length)/\q.ep=e.s.ep/\(0=0/\q.L.length=e.s.L.length)/\q.S=e.s.S/\(0=0/\q.fr.length=e.s.fr.length)/\q.J=e.s.J/\x.1.up=e.up/\(0=0/\x.1.X.length=u.length)/\(0=0/\r.length=y.length)/\(0=0/\z.length=w.length)/\x.1.N=e.N/\True)/\True/\True/\True/\True/\True/\True/\True/\True/\(Z0 Z5 q.d.E e.s.d.E)/\(Z0 Z1 q.d.C e.s.d.C)/\(Z0 Y9 q.d.keep e.s.d.keep)/\(Z0 Y1 q.L e.s.L)/\(x.2.2=v/\q.fr.length=e.s.fr.length/\V2 q.fr.length (Y5 q.fr) (Y5 e.s.fr))/\(Z0 X2 x.1.X u)/\(Z0 Z2 r y)/\(Z0 Y7 z w)/\True):
  F8 prog 251 [.ref 0 0 0,Ji tx] (e.bx v) (.tup []) ((b2f e k).nx v):=
 C7 (gC qU (gC b16 (gC c0I gN))) func251 Z3 bC h
theorem c2h:GK 251 c7t:=gk func251<|by
 rintro⟨e,tx,k,v⟩ ⟨h,d,hi,i,f,g⟩;dsimp only at h d hi i f g;subst hi;refine c7o e _ k v ⟨(e,_),⟨Z8,Z8,rT⟩,by rw[h];exact Z4 Z9,(e.X,k),⟨⟨Z8,h,by rw[h];rfl,Z6⟩,⟨⟨rfl,X6 _ _⟩,Z6⟩,d⟩,({e with X:=xH e.X k},_,v),⟨Z8,Z8,f,g⟩,Z8⟩
def b8f:Con:=.rel ⟨Eng×Int,λx=>[.bref x.1.ts,Ji x.2],λx=>Ji (H3 x.1 x.2).2,λx=>L7 x.1.X.length⟩
theorem b1t:GK 124 b8f:=gk func124<|by
 rintro⟨e,tx⟩ (hL:L7 e.X.length);refine U6 (gC qU gN) func124 Z3 (α:=let p:=(H3 e tx).2;br (!e.up) (15=p) (∃(x:(Eng×Int)),(((L4 e x.1)/\tx=x.2/\True)/\L7 x.1.X.length)/\bd (T9 x.1.X x.2<0) (19=p) (0=p))) ⟨λh=>by rw[c8h h],λh=>⟨(e,tx),⟨Z8,hL⟩,λq=>by rw[c8z h q],λq=>by rw[c8c h q]⟩⟩
end
end Go.Proofs.YtpdnnhnfongoeaaGreat
