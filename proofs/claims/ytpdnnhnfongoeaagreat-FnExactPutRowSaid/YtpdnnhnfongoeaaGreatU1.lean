/- A part of the proof. -/
import Derived.Test.YtpdnnhnfongoeaaGreatX1
import Derived.Test.YtpdnnhnfongoeaaGreatW1
import Derived.WalkKit
import Derived.Deep.RegionLaw
import Derived.Deep.LoopGhost
import Derived.Lib.SliceRun
import Derived.Deep.MidRow
import Derived.Shelf.RegionOpenPlain
import Derived.Laws.IdiomCopy
namespace Go.Proofs.YtpdnnhnfongoeaaGreat
set_option maxRecDepth 100000
open Go.SS Go.Proofs.Tryz
noncomputable section
def sR(L:List Txn):Option Ob:=some (.arr true 0 2 L.length (X2 L))
def kT(L:List Txn):C8 [sR L]:=B2 (λi _ t h=>by
 simp only[X2,Txn.ts,vN,j_i,or_false] at h;rcases h with rfl|rfl<;>rfl) v9
def c2E:Con:=.rmk ⟨List Txn,λL=>[tV L],λ_=>[],λL=>.osl 0 0 L.length,λL=>[sR L],λL=>L.length<=1048576⟩
def c14(L:List Txn)(h:
  ∀(b:Bool),(b=true->L.length=0)->br b (((0=0/\0=L.length)/\True)/\(0=L.length/\Z7 0 (λ(x:Nat)=>[]) (X2 L))/\True) ((Le 0 0/\U8 0 L.length 16)/\((0=0/\0+L.length=L.length)/\True)/\(0+L.length=L.length/\Z7 (0+L.length) (X4 (λ(k:Nat)=>List.take 2 (List.drop (k*2) [])) 0 (X2 L)) (X2 L))/\True)):
  G3 prog 93 [tV L] [] (.osl 0 0 L.length) [sR L]:=
 C6 gN func93 Z3 b6z h
def b7H:GK 93 c2E:=gk func93<|λ(L:List Txn) (hL:L.length<=1048576)=>
 ⟨c14 L (λb B=>⟨λh=>⟨⟨⟨rfl,(B h).symm⟩,Z6⟩,⟨(B h).symm,λi hi=>absurd hi (D2 _)⟩,Z6⟩,λ_=>⟨⟨U9 _,R0⟩,⟨⟨rfl,Z9⟩,Z6⟩,⟨Z9,v8⟩,Z6⟩⟩),rfl,kT L⟩
def b6C:Con:=.rmk ⟨List Txn,λL=>[tV L],λ_=>[],λL=>.osl 0 0 L.length,λL=>[sR L],λL=>L.length<=1048576⟩
def b2P:GK 37 b6C:=gk func37<|by
 intro(L:List Txn) (hL:L.length<=1048576);refine⟨C6 (gC b5d gN) func37 (b68 L) pZ (α:=let z:=(0=0/\L.length=L.length);let p:=(L.length:Int);(Nn p/\LeI p p/\yO 16 p.toNat 140737488355328/\Lt p.toNat 9223372036854775808)/\(∃(x:Up L.length),((Z0 X2 L L)/\(0=0/\p.toNat=L.length)/\0=(x.1:Int)/\True)/\(p.toNat=L.length/\Z7 p.toNat (λ(x:Nat)=>[Ji 0,Ji 0]) (xX (X2 L) [Ji 0,Ji 0] x.1))/\True)/\∀(x:Up L.length),let r:=(xX (X2 L) [Ji 0,Ji 0] x.1);let q:=(x.1:Int);let u:=(L.getD q.toNat dz);bd (q<p) (W9 q L.length/\∃(X:a9r.ι),(((u.id=X.id/\u.Z=X.Z/\True)/\True)/\True)/\W9 q L.length/\Lt (0+q.toNat) L.length/\Ri (q+1)/\∃(y:Up L.length),(((Z0 X2 L L)/\z/\q+1=(y.1:Int)/\True)/\(L.length=L.length/\Z7 L.length (setRow r (0+q.toNat) 0 [Ji X.id,Ji X.Z]) (xX (X2 L) [Ji 0,Ji 0] y.1))/\True)/\Lt (L.length-y.1) (L.length-x.1)) ((z/\True)/\(L.length=L.length/\Z7 L.length r (X2 L))/\True)) ⟨⟨m3,sH,sX,Q2⟩,⟨⟨0,N4 _⟩,⟨⟨S7,X6 _ _⟩,⟨S7,Z9⟩,Z8⟩,⟨Z9,uT⟩,Z6⟩,λx=>⟨λhc=>?_,λhc=>?_⟩⟩,rfl,kT L⟩
 ·have hlt:=Y2 hc;refine⟨Y6 hlt,L.getD x.1 dz,Z8,Y6 hlt,Q2,W2 hlt Z9,⟨x.1+1,hlt⟩,⟨⟨⟨S7,X6 _ _⟩,⟨S7,S7⟩,M0,Z6⟩,⟨S7,λj hj=>?_⟩,Z6⟩,V5.ext_lt hlt⟩
  exact wW (m:=2) (λ_=>rfl) rfl x.1 rfl j
 ·have hx:x.1=L.length:=by have:=x.2;have:=Y0 hc;omega
  rw[hx];exact⟨Z8,⟨rfl,λi hi=>uE (n:=L.length) i Z9⟩,Z6⟩
def I4(n k:Nat):List Txn:=(List.range n).map λi=>⟨((k+2*i:Nat):Int),((k+2*i:Nat):Int)+1⟩
def a6q:Con:=.reff ⟨List Txn×Nat,λx=>[.osl 0 0 x.1.length,Ji x.2],λx=>[sR x.1],λx=>Ji (x.2+2*x.1.length:Nat),λx=>[sR (I4 x.1.length x.2)],λx=>nR x.1.length x.2 2⟩
def a8q(L:List Txn)(k:Nat):Nat->Ann
 |0=>.one (Up L.length) (λx=>⟨[(0,.osl 0 0 L.length),(1,Ji (k+2*x.1:Nat)),(5,Ji x.1)],[some (.arr true 0 2 L.length (i8 (X2 (I4 L.length k)) (X2 L) x.1))]⟩) (λx=>L.length-x.1) [.arr 0] [.arr 0] (λ_=>Z3)
 |_=>.none
def a3y:GK 49 a6q:=gk func49<|by
 rintro⟨L,k⟩ ⟨d,h,e⟩;dsimp only at d h e;refine C6 gN func49 (a8q L k) pZ (α:=let u:=(0=0/\L.length=L.length);let q:=(X2 (I4 L.length k));(∃(x:Up L.length),(u/\(k:Int)=(↑(k+2*x.1):Int)/\0=(x.1:Int)/\True)/\(L.length=L.length/\Z7 L.length (X2 L) (i8 q (X2 L) x.1))/\True)/\∀(x:Up L.length),let v:=(i8 q (X2 L) x.1);let r:=(x.1:Int);let z:=(0+r.toNat);let p:=(↑(k+2*x.1):Int);bd (r<(L.length:Int)) (W9 r L.length/\Lt z L.length/\Ri (p+1)/\W9 r L.length/\Lt z L.length/\Ri (p+1+1)/\Ri (r+1)/\∃(y:Up L.length),((u/\p+1+1=(↑(k+2*y.1):Int)/\r+1=(y.1:Int)/\True)/\(L.length=L.length/\Z7 L.length (setRow (setRow v z 0 [Ji p]) z 1 [Ji (p+1)]) (i8 q (X2 L) y.1))/\True)/\Lt (L.length-y.1) (L.length-x.1)) ((p=(↑(k+2*L.length):Int)/\True)/\(L.length=(I4 L.length k).length/\Z7 L.length v q)/\True)) ⟨⟨⟨0,N4 _⟩,Z8,⟨rfl,wX⟩,Z6⟩,λx=>⟨λhc=>?_,λhc=>?_⟩⟩
 ·have hlt:=Y2 hc;have ib:=Y6 hlt;have lt:Lt (0+(x.1:Int).toNat) L.length:=by unfold Lt;omega
  refine⟨ib,lt,Z4 Z9,ib,lt,Z4 Z9,Z4 Z9,⟨x.1+1,hlt⟩,⟨⟨Z8,X5,X5,Z6⟩,⟨rfl,λj _=>?_⟩,Z6⟩,V5.ext_lt hlt⟩
  exact uY (m:=2) (λ_=>rfl) (λ_=>rfl) x.1 [(0,Ji (((k+2*x.1:Nat):Int))),(1,Ji (((k+2*x.1:Nat):Int)+1))] W7 (by unfold X2 I4;rw[j4 _ hlt];rfl) j
 ·have hx:x.1=L.length:=by have:=x.2;have:=Y0 hc;omega
  rw[hx];exact⟨Z8,⟨(O3 _ _).symm,uD⟩,Z6⟩
def a6n:Con:=.rel ⟨Nat×Nat,λx=>[tV (I4 x.1 x.2),Ji x.2],λx=>Ji (x.2+2*x.1:Nat),λx=>nR x.1 x.2 2⟩
def a6p(n k:Nat):Nat->Ann
 |0=>.one (Up n) (λx=>⟨[(0,tV (I4 n k)),(1,Ji (k+2*x.1:Nat)),(5,Ji x.1)],[]⟩) (λx=>n-x.1) [] [] (λ_=>Z3)
 |_=>.none
def a3Y:GK 52 a6n:=gk func52<|by
 rintro⟨n,k⟩ ⟨g,d,f⟩;dsimp only at g d f;have N:(I4 n k).length=n:=O3 _ _;refine U5 gN func52 (a6p n k) (α:=let v:=(Z0 X2 (I4 n k) (I4 n k));let z:=(I4 n k).length;let r:=(↑(k+2*n):Int);(∃(x:Up n),(v/\(k:Int)=(↑(k+2*x.1):Int)/\0=(x.1:Int)/\True)/\True)/\∀(x:Up n),let q:=(x.1:Int);let u:=((I4 n k).getD q.toNat dz);let p:=(↑(k+2*x.1):Int);bd (q<(↑z:Int)) (W9 q z/\br (u.id !=p) ((-1:Int)=r) (Ri (p+1)/\W9 q z/\br (u.Z !=p+1) ((-1:Int)=r) (Ri (p+1+1)/\Ri (q+1)/\∃(y:Up n),((v/\p+1+1=(↑(k+2*y.1):Int)/\q+1=(y.1:Int)/\True)/\True)/\Lt (n-y.1) (n-x.1)))) (p=r)) ⟨⟨⟨0,N4 _⟩,Z8⟩,λx=>⟨λhc=>?_,λhc=>?_⟩⟩
 ·have hlt:=Y2 hc;have hlt':x.1<n:=by omega
  have e:(I4 n k).getD (x.1:Int).toNat dz=⟨((k+2*x.1:Nat):Int),((k+2*x.1:Nat):Int)+1⟩:=by rw[E3];exact j4 _ hlt' _
  rw[e];have i:=Y6 hlt;exact⟨i,λh=>L4,λ_=>⟨Z4 Z9,i,λh=>L4,λ_=>⟨Z4 Z9,Z4 Z9,⟨x.1+1,hlt'⟩,⟨⟨Z8,X5,X5,Z6⟩,Z6⟩,V5.ext_lt hlt'⟩⟩⟩
 ·have hx:x.1=n:=by have:=x.2;have:=Y0 hc;omega
  rw[hx]
def yY(L:List Lck):Option Ob:=some (.arr true 0 4 L.length (Z2 L))
def kE(L:List Lck):C8 [yY L]:=B2 (λi _ t h=>by
 simp only[Z2,Lck.ts,vN,j_i,or_false] at h;rcases h with rfl|rfl|rfl|rfl<;>rfl) v9
def c0W:Con:=.rmk ⟨List Lck,λL=>[wN L],λ_=>[],λL=>.osl 0 0 L.length,λL=>[yY L],λL=>L.length<=1048576⟩
def c0S(L:List Lck)(h:
  ∀(b:Bool),(b=true->L.length=0)->br b (((0=0/\0=L.length)/\True)/\(0=L.length/\Z7 0 (λ(x:Nat)=>[]) (Z2 L))/\True) ((Le 0 0/\U8 0 L.length 32)/\((0=0/\0+L.length=L.length)/\True)/\(0+L.length=L.length/\Z7 (0+L.length) (X4 (λ(k:Nat)=>List.take 4 (List.drop (k*4) [])) 0 (Z2 L)) (Z2 L))/\True)):
  G3 prog 181 [wN L] [] (.osl 0 0 L.length) [yY L]:=
 C6 gN func181 Z3 [[.arr 1],[.nilS 0 [] 0 4,.arr 0]] h
def b6j:GK 181 c0W:=gk func181<|λ(L:List Lck) (hL:L.length<=1048576)=>
 ⟨c0S L (λb B=>⟨λh=>⟨⟨⟨rfl,(B h).symm⟩,Z6⟩,⟨(B h).symm,λi hi=>absurd hi (D2 _)⟩,Z6⟩,λ_=>⟨⟨U9 _,R0⟩,⟨⟨rfl,Z9⟩,Z6⟩,⟨Z9,v8⟩,Z6⟩⟩),rfl,kE L⟩
def b6G:Con:=.rmk ⟨List Lck,λL=>[wN L],λ_=>[],λL=>.osl 0 0 L.length,λL=>[yY L],λL=>L.length<=1048576⟩
def b1K:GK 89 b6G:=gk func89<|by
 intro(L:List Lck) (hL:L.length<=1048576);refine⟨C6 (gC b5l gN) func89 (b98 L) pZ (α:=let u:=(0=0/\L.length=L.length);let p:=(L.length:Int);(Nn p/\LeI p p/\yO 32 p.toNat 140737488355328/\Lt p.toNat 9223372036854775808)/\(∃(x:Up L.length),((Z0 Z2 L L)/\(0=0/\p.toNat=L.length)/\0=(x.1:Int)/\True)/\(p.toNat=L.length/\Z7 p.toNat (λ(x:Nat)=>[Ji 0,Ji 0,Ji 0,Ji 0]) (xX (Z2 L) [Ji 0,Ji 0,Ji 0,Ji 0] x.1))/\True)/\∀(x:Up L.length),let r:=(xX (Z2 L) [Ji 0,Ji 0,Ji 0,Ji 0] x.1);let q:=(x.1:Int);let z:=(L.getD q.toNat dz);bd (q<p) (W9 q L.length/\∃(X:a9I.ι),(((z.tx=X.tx/\z.ta=X.ta/\z.row=X.row/\z.mo=X.mo/\True)/\True)/\True)/\W9 q L.length/\Lt (0+q.toNat) L.length/\Ri (q+1)/\∃(y:Up L.length),(((Z0 Z2 L L)/\u/\q+1=(y.1:Int)/\True)/\(L.length=L.length/\Z7 L.length (setRow r (0+q.toNat) 0 [Ji X.tx,Ji X.ta,Ji X.row,Ji X.mo]) (xX (Z2 L) [Ji 0,Ji 0,Ji 0,Ji 0] y.1))/\True)/\Lt (L.length-y.1) (L.length-x.1)) ((u/\True)/\(L.length=L.length/\Z7 L.length r (Z2 L))/\True)) ⟨⟨m3,sH,sX,Q2⟩,⟨⟨0,N4 _⟩,⟨⟨S7,X6 _ _⟩,⟨S7,Z9⟩,Z8⟩,⟨Z9,uT⟩,Z6⟩,λx=>⟨λhc=>?_,λhc=>?_⟩⟩,rfl,kE L⟩
 ·have hlt:=Y2 hc;refine⟨Y6 hlt,L.getD x.1 dz,Z8,Y6 hlt,Q2,W2 hlt Z9,⟨x.1+1,hlt⟩,⟨⟨⟨S7,X6 _ _⟩,⟨S7,S7⟩,M0,Z6⟩,⟨S7,λj hj=>?_⟩,Z6⟩,V5.ext_lt hlt⟩
  exact wW (m:=4) (λ_=>rfl) rfl x.1 rfl j
 ·have hx:x.1=L.length:=by have:=x.2;have:=Y0 hc;omega
  rw[hx];exact⟨Z8,⟨rfl,λi hi=>uE (n:=L.length) i Z9⟩,Z6⟩
def M3(n k:Nat):List Lck:=(List.range n).map λi=>⟨((k+4*i:Nat):Int),((k+4*i:Nat):Int)+1,((k+4*i:Nat):Int)+1+1,((k+4*i:Nat):Int)+1+1+1⟩
def a6v:Con:=.reff ⟨List Lck×Nat,λx=>[.osl 0 0 x.1.length,Ji x.2],λx=>[yY x.1],λx=>Ji (x.2+4*x.1.length:Nat),λx=>[yY (M3 x.1.length x.2)],λx=>nR x.1.length x.2 4⟩
def a9a(L:List Lck)(k:Nat):Nat->Ann
 |0=>.one (Up L.length) (λx=>⟨[(0,.osl 0 0 L.length),(1,Ji (k+4*x.1:Nat)),(5,Ji x.1)],[some (.arr true 0 4 L.length (i8 (Z2 (M3 L.length k)) (Z2 L) x.1))]⟩) (λx=>L.length-x.1) [.arr 0] [.arr 0] (λ_=>Z3)
 |_=>.none
def a5G:GK 109 a6v:=gk func109<|by
 rintro⟨L,k⟩ ⟨d,h,e⟩;dsimp only at d h e;refine C6 gN func109 (a9a L k) pZ (α:=let u:=(0=0/\L.length=L.length);let r:=(Z2 (M3 L.length k));(∃(x:Up L.length),(u/\(k:Int)=(↑(k+4*x.1):Int)/\0=(x.1:Int)/\True)/\(L.length=L.length/\Z7 L.length (Z2 L) (i8 r (Z2 L) x.1))/\True)/\∀(x:Up L.length),let v:=(i8 r (Z2 L) x.1);let z:=(x.1:Int);let q:=(0+z.toNat);let p:=(↑(k+4*x.1):Int);bd (z<(L.length:Int)) (W9 z L.length/\Lt q L.length/\Ri (p+1)/\W9 z L.length/\Lt q L.length/\Ri (p+1+1)/\W9 z L.length/\Lt q L.length/\Ri (p+1+1+1)/\W9 z L.length/\Lt q L.length/\Ri (p+1+1+1+1)/\Ri (z+1)/\∃(y:Up L.length),((u/\p+1+1+1+1=(↑(k+4*y.1):Int)/\z+1=(y.1:Int)/\True)/\(L.length=L.length/\Z7 L.length (setRow (setRow (setRow (setRow v q 0 [Ji p]) q 1 [Ji (p+1)]) q 2 [Ji (p+1+1)]) q 3 [Ji (p+1+1+1)]) (i8 r (Z2 L) y.1))/\True)/\Lt (L.length-y.1) (L.length-x.1)) ((p=(↑(k+4*L.length):Int)/\True)/\(L.length=(M3 L.length k).length/\Z7 L.length v r)/\True)) ⟨⟨⟨0,N4 _⟩,Z8,⟨rfl,wX⟩,Z6⟩,λx=>⟨λhc=>?_,λhc=>?_⟩⟩
 ·have hlt:=Y2 hc;have ib:=Y6 hlt;have lt:Lt (0+(x.1:Int).toNat) L.length:=by unfold Lt;omega
  refine⟨ib,lt,Z4 Z9,ib,lt,Z4 Z9,ib,lt,Z4 Z9,ib,lt,Z4 Z9,Z4 Z9,⟨x.1+1,hlt⟩,⟨⟨Z8,X5,X5,Z6⟩,⟨rfl,λj _=>?_⟩,Z6⟩,V5.ext_lt hlt⟩
  exact uY (m:=4) (λ_=>rfl) (λ_=>rfl) x.1 [(0,Ji (((k+4*x.1:Nat):Int))),(1,Ji (((k+4*x.1:Nat):Int)+1)),(2,Ji (((k+4*x.1:Nat):Int)+1+1)),(3,Ji (((k+4*x.1:Nat):Int)+1+1+1))] W7 (by unfold Z2 M3;rw[j4 _ hlt];rfl) j
 ·have hx:x.1=L.length:=by have:=x.2;have:=Y0 hc;omega
  rw[hx];exact⟨Z8,⟨(O3 _ _).symm,uD⟩,Z6⟩
def a71:Con:=.rel ⟨Nat×Nat,λx=>[wN (M3 x.1 x.2),Ji x.2],λx=>Ji (x.2+4*x.1:Nat),λx=>nR x.1 x.2 4⟩
def a6Z(n k:Nat):Nat->Ann
 |0=>.one (Up n) (λx=>⟨[(0,wN (M3 n k)),(1,Ji (k+4*x.1:Nat)),(5,Ji x.1)],[]⟩) (λx=>n-x.1) [] [] (λ_=>Z3)
 |_=>.none
def a3c:GK 114 a71:=gk func114<|by
 rintro⟨n,k⟩ ⟨g,d,f⟩;dsimp only at g d f;have N:(M3 n k).length=n:=O3 _ _;refine U5 gN func114 (a6Z n k) (α:=let v:=(Z0 Z2 (M3 n k) (M3 n k));let u:=(M3 n k).length;let r:=((-1:Int)=(↑(k+4*n):Int));(∃(x:Up n),(v/\(k:Int)=(↑(k+4*x.1):Int)/\0=(x.1:Int)/\True)/\True)/\∀(x:Up n),let z:=(x.1:Int);let q:=((M3 n k).getD z.toNat dz);let p:=(↑(k+4*x.1):Int);bd (z<(↑u:Int)) (W9 z u/\br (q.tx !=p) r (Ri (p+1)/\W9 z u/\br (q.ta !=p+1) r (Ri (p+1+1)/\W9 z u/\br (q.row !=p+1+1) r (Ri (p+1+1+1)/\W9 z u/\br (q.mo !=p+1+1+1) r (Ri (p+1+1+1+1)/\Ri (z+1)/\∃(y:Up n),((v/\p+1+1+1+1=(↑(k+4*y.1):Int)/\z+1=(y.1:Int)/\True)/\True)/\Lt (n-y.1) (n-x.1)))))) (p=(↑(k+4*n):Int))) ⟨⟨⟨0,N4 _⟩,Z8⟩,λx=>⟨λhc=>?_,λhc=>?_⟩⟩
 ·have hlt:=Y2 hc;have hlt':x.1<n:=by omega
  have e:(M3 n k).getD (x.1:Int).toNat dz=⟨((k+4*x.1:Nat):Int),((k+4*x.1:Nat):Int)+1,((k+4*x.1:Nat):Int)+1+1,((k+4*x.1:Nat):Int)+1+1+1⟩:=by rw[E3];exact j4 _ hlt' _
  rw[e];have i:=Y6 hlt;exact⟨i,λh=>L4,λ_=>⟨Z4 Z9,i,λh=>L4,λ_=>⟨Z4 Z9,i,λh=>L4,λ_=>⟨Z4 Z9,i,λh=>L4,λ_=>⟨Z4 Z9,Z4 Z9,⟨x.1+1,hlt'⟩,⟨⟨Z8,X5,X5,Z6⟩,Z6⟩,V5.ext_lt hlt'⟩⟩⟩⟩⟩
 ·have hx:x.1=n:=by have:=x.2;have:=Y0 hc;omega
  rw[hx]
def sU(L:List Wt):Option Ob:=some (.arr true 0 2 L.length (Y7 L))
def sA(L:List Wt):C8 [sU L]:=B2 (λi _ t h=>by
 simp only[Y7,Wt.ts,vN,j_i,or_false] at h;rcases h with rfl|rfl<;>rfl) v9
def c58:Con:=.rmk ⟨List Wt,λL=>[nG L],λ_=>[],λL=>.osl 0 0 L.length,λL=>[sU L],λL=>L.length<=1048576⟩
def c6P(L:List Wt)(h:
  ∀(b:Bool),(b=true->L.length=0)->br b (((0=0/\0=L.length)/\True)/\(0=L.length/\Z7 0 (λ(x:Nat)=>[]) (Y7 L))/\True) ((Le 0 0/\U8 0 L.length 16)/\((0=0/\0+L.length=L.length)/\True)/\(0+L.length=L.length/\Z7 (0+L.length) (X4 (λ(k:Nat)=>List.take 2 (List.drop (k*2) [])) 0 (Y7 L)) (Y7 L))/\True)):
  G3 prog 182 [nG L] [] (.osl 0 0 L.length) [sU L]:=
 C6 gN func182 Z3 b6z h
def c1F:GK 182 c58:=gk func182<|λ(L:List Wt) (hL:L.length<=1048576)=>
 ⟨c6P L (λb B=>⟨λh=>⟨⟨⟨rfl,(B h).symm⟩,Z6⟩,⟨(B h).symm,λi hi=>absurd hi (D2 _)⟩,Z6⟩,λ_=>⟨⟨U9 _,R0⟩,⟨⟨rfl,Z9⟩,Z6⟩,⟨Z9,v8⟩,Z6⟩⟩),rfl,sA L⟩
def c03:Con:=.rmk ⟨List Wt,λL=>[nG L],λ_=>[],λL=>.osl 0 0 L.length,λL=>[sU L],λL=>L.length<=1048576⟩
def b5e:GK 90 c03:=gk func90<|by
 intro(L:List Wt) (hL:L.length<=1048576);refine⟨C6 (gC c3T gN) func90 (c23 L) pZ (α:=let z:=(0=0/\L.length=L.length);let p:=(L.length:Int);(Nn p/\LeI p p/\yO 16 p.toNat 140737488355328/\Lt p.toNat 9223372036854775808)/\(∃(x:Up L.length),((Z0 Y7 L L)/\(0=0/\p.toNat=L.length)/\0=(x.1:Int)/\True)/\(p.toNat=L.length/\Z7 p.toNat (λ(x:Nat)=>[Ji 0,Ji 0]) (xX (Y7 L) [Ji 0,Ji 0] x.1))/\True)/\∀(x:Up L.length),let r:=(xX (Y7 L) [Ji 0,Ji 0] x.1);let q:=(x.1:Int);let u:=(L.getD q.toNat dz);bd (q<p) (W9 q L.length/\∃(X:b7u.ι),(((u.tx=X.tx/\u.fo=X.fo/\True)/\True)/\True)/\W9 q L.length/\Lt (0+q.toNat) L.length/\Ri (q+1)/\∃(y:Up L.length),(((Z0 Y7 L L)/\z/\q+1=(y.1:Int)/\True)/\(L.length=L.length/\Z7 L.length (setRow r (0+q.toNat) 0 [Ji X.tx,Ji X.fo]) (xX (Y7 L) [Ji 0,Ji 0] y.1))/\True)/\Lt (L.length-y.1) (L.length-x.1)) ((z/\True)/\(L.length=L.length/\Z7 L.length r (Y7 L))/\True)) ⟨⟨m3,sH,sX,Q2⟩,⟨⟨0,N4 _⟩,⟨⟨S7,X6 _ _⟩,⟨S7,Z9⟩,Z8⟩,⟨Z9,uT⟩,Z6⟩,λx=>⟨λhc=>?_,λhc=>?_⟩⟩,rfl,sA L⟩
 ·have hlt:=Y2 hc;refine⟨Y6 hlt,L.getD x.1 dz,Z8,Y6 hlt,Q2,W2 hlt Z9,⟨x.1+1,hlt⟩,⟨⟨⟨S7,X6 _ _⟩,⟨S7,S7⟩,M0,Z6⟩,⟨S7,λj hj=>?_⟩,Z6⟩,V5.ext_lt hlt⟩
  exact wW (m:=2) (λ_=>rfl) rfl x.1 rfl j
 ·have hx:x.1=L.length:=by have:=x.2;have:=Y0 hc;omega
  rw[hx];exact⟨Z8,⟨rfl,λi hi=>uE (n:=L.length) i Z9⟩,Z6⟩
def B1(n k:Nat):List Wt:=(List.range n).map λi=>⟨((k+2*i:Nat):Int),((k+2*i:Nat):Int)+1⟩
def b4p:Con:=.reff ⟨List Wt×Nat,λx=>[.osl 0 0 x.1.length,Ji x.2],λx=>[sU x.1],λx=>Ji (x.2+2*x.1.length:Nat),λx=>[sU (B1 x.1.length x.2)],λx=>nR x.1.length x.2 2⟩
def b13(L:List Wt)(k:Nat):Nat->Ann
 |0=>.one (Up L.length) (λx=>⟨[(0,.osl 0 0 L.length),(1,Ji (k+2*x.1:Nat)),(5,Ji x.1)],[some (.arr true 0 2 L.length (i8 (Y7 (B1 L.length k)) (Y7 L) x.1))]⟩) (λx=>L.length-x.1) [.arr 0] [.arr 0] (λ_=>Z3)
 |_=>.none
def a7f:GK 110 b4p:=gk func110<|by
 rintro⟨L,k⟩ ⟨d,h,e⟩;dsimp only at d h e;refine C6 gN func110 (b13 L k) pZ (α:=let u:=(0=0/\L.length=L.length);let q:=(Y7 (B1 L.length k));(∃(x:Up L.length),(u/\(k:Int)=(↑(k+2*x.1):Int)/\0=(x.1:Int)/\True)/\(L.length=L.length/\Z7 L.length (Y7 L) (i8 q (Y7 L) x.1))/\True)/\∀(x:Up L.length),let v:=(i8 q (Y7 L) x.1);let r:=(x.1:Int);let z:=(0+r.toNat);let p:=(↑(k+2*x.1):Int);bd (r<(L.length:Int)) (W9 r L.length/\Lt z L.length/\Ri (p+1)/\W9 r L.length/\Lt z L.length/\Ri (p+1+1)/\Ri (r+1)/\∃(y:Up L.length),((u/\p+1+1=(↑(k+2*y.1):Int)/\r+1=(y.1:Int)/\True)/\(L.length=L.length/\Z7 L.length (setRow (setRow v z 0 [Ji p]) z 1 [Ji (p+1)]) (i8 q (Y7 L) y.1))/\True)/\Lt (L.length-y.1) (L.length-x.1)) ((p=(↑(k+2*L.length):Int)/\True)/\(L.length=(B1 L.length k).length/\Z7 L.length v q)/\True)) ⟨⟨⟨0,N4 _⟩,Z8,⟨rfl,wX⟩,Z6⟩,λx=>⟨λhc=>?_,λhc=>?_⟩⟩
 ·have hlt:=Y2 hc;have ib:=Y6 hlt;have lt:Lt (0+(x.1:Int).toNat) L.length:=by unfold Lt;omega
  refine⟨ib,lt,Z4 Z9,ib,lt,Z4 Z9,Z4 Z9,⟨x.1+1,hlt⟩,⟨⟨Z8,X5,X5,Z6⟩,⟨rfl,λj _=>?_⟩,Z6⟩,V5.ext_lt hlt⟩
  exact uY (m:=2) (λ_=>rfl) (λ_=>rfl) x.1 [(0,Ji (((k+2*x.1:Nat):Int))),(1,Ji (((k+2*x.1:Nat):Int)+1))] W7 (by unfold Y7 B1;rw[j4 _ hlt];rfl) j
 ·have hx:x.1=L.length:=by have:=x.2;have:=Y0 hc;omega
  rw[hx];exact⟨Z8,⟨(O3 _ _).symm,uD⟩,Z6⟩
def b2l:Con:=.rel ⟨Nat×Nat,λx=>[nG (B1 x.1 x.2),Ji x.2],λx=>Ji (x.2+2*x.1:Nat),λx=>nR x.1 x.2 2⟩
def b3U(n k:Nat):Nat->Ann
 |0=>.one (Up n) (λx=>⟨[(0,nG (B1 n k)),(1,Ji (k+2*x.1:Nat)),(5,Ji x.1)],[]⟩) (λx=>n-x.1) [] [] (λ_=>Z3)
 |_=>.none
def a8N:GK 115 b2l:=gk func115<|by
 rintro⟨n,k⟩ ⟨g,d,f⟩;dsimp only at g d f;have N:(B1 n k).length=n:=O3 _ _;refine U5 gN func115 (b3U n k) (α:=let v:=(Z0 Y7 (B1 n k) (B1 n k));let z:=(B1 n k).length;let r:=(↑(k+2*n):Int);(∃(x:Up n),(v/\(k:Int)=(↑(k+2*x.1):Int)/\0=(x.1:Int)/\True)/\True)/\∀(x:Up n),let q:=(x.1:Int);let u:=((B1 n k).getD q.toNat dz);let p:=(↑(k+2*x.1):Int);bd (q<(↑z:Int)) (W9 q z/\br (u.tx !=p) ((-1:Int)=r) (Ri (p+1)/\W9 q z/\br (u.fo !=p+1) ((-1:Int)=r) (Ri (p+1+1)/\Ri (q+1)/\∃(y:Up n),((v/\p+1+1=(↑(k+2*y.1):Int)/\q+1=(y.1:Int)/\True)/\True)/\Lt (n-y.1) (n-x.1)))) (p=r)) ⟨⟨⟨0,N4 _⟩,Z8⟩,λx=>⟨λhc=>?_,λhc=>?_⟩⟩
 ·have hlt:=Y2 hc;have hlt':x.1<n:=by omega
  have e:(B1 n k).getD (x.1:Int).toNat dz=⟨((k+2*x.1:Nat):Int),((k+2*x.1:Nat):Int)+1⟩:=by rw[E3];exact j4 _ hlt' _
  rw[e];have i:=Y6 hlt;exact⟨i,λh=>L4,λ_=>⟨Z4 Z9,i,λh=>L4,λ_=>⟨Z4 Z9,Z4 Z9,⟨x.1+1,hlt'⟩,⟨⟨Z8,X5,X5,Z6⟩,Z6⟩,V5.ext_lt hlt'⟩⟩⟩
 ·have hx:x.1=n:=by have:=x.2;have:=Y0 hc;omega
  rw[hx]
def c8b:Con:=.tmp
def P6:GK 35 c8b:=gk func35<|trivial
def c67:Con:=.tmp
def b0g:GK 302 c67:=gk func302<|trivial
def c7P:Con:=.tmp
def c3S:GK 223 c7P:=gk func223<|trivial
def Lks.tm(l:Lks)(b:Nat):List T:=[.osl b 0 l.H.length,.osl (b+1) 0 l.W.length]
def Lks.hp(l:Lks):X9:=[yY l.H,sU l.W]
def rD(l:Lks):C8 l.hp:=i4 (kE _) (sA _)
def c2g:Con:=.rmk ⟨Lks,λl=>[.agg l.ts],λ_=>[],λl=>.agg (l.tm 0),λl=>l.hp,uX⟩
def b5n:GK 94 c2g:=gk func94<|by
 rintro(l:Lks) ⟨h1,h2⟩;exact⟨C6 (gC b6j (gC c1F gN)) func94 Z3 [[.arr 2,.arr 3]] (α:=∃(x:(List Lck)),let p:=x.length;(((Z0 Z2 l.H x)/\True)/\p<=1048576)/\∃(X:(List Wt)),(((Z0 Y7 l.W X)/\True)/\X.length<=1048576)/\(((0=0/\p=l.H.length)/\(0=0/\X.length=l.W.length)/\True)/\True)/\(p=l.H.length/\Z7 (p) (Z2 x) (Z2 l.H))/\(X.length=l.W.length/\Z7 (X.length) (Y7 X) (Y7 l.W))/\True) ⟨l.H,⟨Z8,h1⟩,l.W,⟨Z8,h2⟩,Z8⟩,rfl,rD l⟩
def b9M:Con:=.rel ⟨Lks,λl=>[.agg l.ts],λl=>.agg l.ts,uX⟩
def b3t:GK 84 b9M:=gk func84<|by
 rintro(l:Lks) ⟨h1,h2⟩;exact U5 (gC P6 (gC b0g (gC c3S gN))) func84 Z3 (α:=U8 0 l.H.length 32/\U8 0 l.W.length 16/\(Z0 Z2 l.H l.H)/\(Z0 Y7 l.W l.W)/\True) ⟨R0,R0,Z8⟩
def c32:Con:=.rmk ⟨Lks,λl=>[.agg l.ts],λ_=>[],λl=>.agg (l.tm 0),λl=>l.hp,uX⟩
def b6x:GK 38 c32:=gk func38<|by
 rintro(l:Lks) ⟨h1,h2⟩;exact⟨C6 (gC b1K (gC b5e gN)) func38 Z3 [[.arr 3,.arr 4]] (α:=∃(x:(List Lck)),let p:=x.length;(((Z0 Z2 l.H x)/\True)/\p<=1048576)/\∃(X:(List Wt)),(((Z0 Y7 l.W X)/\True)/\X.length<=1048576)/\(((0=0/\p=l.H.length)/\(0=0/\X.length=l.W.length)/\True)/\True)/\(p=l.H.length/\Z7 (p) (Z2 x) (Z2 l.H))/\(X.length=l.W.length/\Z7 (X.length) (Y7 X) (Y7 l.W))/\True) ⟨l.H,⟨Z8,h1⟩,l.W,⟨Z8,h2⟩,Z8⟩,rfl,rD l⟩
def b63(l:Lks)(k:Nat):Lks:=⟨M3 l.H.length k,B1 l.W.length (k+4*l.H.length)⟩
def bE(l:Lks)(k:Nat):Nat:=k+4*l.H.length+2*l.W.length
def KBl(l:Lks)(k:Nat):Prop:=uX l/\1<=k/\k<=9000000000000
def b3d:Con:=.reff ⟨Lks×Nat,λx=>[.agg (x.1.tm 0),Ji x.2],λx=>x.1.hp,λx=>Ji (bE x.1 x.2),λx=>(b63 x.1 x.2).hp,λx=>KBl x.1 x.2⟩
def a52:GK 50 b3d:=gk func50<|by
 rintro⟨l,k⟩ ⟨⟨e,h⟩,d,f⟩;dsimp only at e h d f;exact C6 (gC a5G (gC a7f gN)) func50 Z3 [[.arr 0,.arr 1]] (α:=∃(x:(List Lck×Nat)),(((0=0/\l.H.length=x.1.length)/\(k:Int)=(x.2:Int)/\True)/\((Z0 Z2 l.H x.1)/\True)/\nR x.1.length x.2 4)/\∃(X:(List Wt×Nat)),(((0=0/\l.W.length=X.1.length)/\(↑(x.2+4*x.1.length):Int)=(X.2:Int)/\True)/\((Z0 Y7 l.W X.1)/\True)/\nR X.1.length X.2 2)/\((↑(X.2+2*X.1.length):Int)=(↑(bE l k):Int)/\True)/\(Z0 Z2 (M3 x.1.length x.2) (M3 l.H.length k))/\(Z0 Y7 (B1 X.1.length X.2) (B1 l.W.length (k+4*l.H.length)))/\True) ⟨(l.H,k),⟨Z8,Z8,e,d,X5⟩,(l.W,k+4*l.H.length),⟨Z8,Z8,h,X5,X5⟩,Z8⟩
def b2D:Con:=.rel ⟨Lks×Nat,λx=>[.agg (b63 x.1 x.2).ts,Ji x.2],λx=>Ji (bE x.1 x.2),λx=>KBl x.1 x.2⟩
def ngN(n:Nat)(h:decide ((n:Int)<0)=true){p:Prop}:p:=absurd (G7 h) Z9
def a84:GK 53 b2D:=gk func53<|by
 rintro⟨l,k⟩ ⟨⟨f,d⟩,e,g⟩;dsimp only at f d e g;exact U5 (gC a3c (gC a8N gN)) func53 Z3 (α:=let p:=(↑(bE l k):Int);∃(x:(Nat×Nat)),let q:=(↑(x.2+4*x.1):Int);(((Z0 Z2 (M3 l.H.length k) (M3 x.1 x.2))/\(k:Int)=(x.2:Int)/\True)/\nR x.1 x.2 4)/\bd (q<0) ((-1:Int)=p) (∃(X:(Nat×Nat)),let r:=(↑(X.2+2*X.1):Int);(((Z0 Y7 (B1 l.W.length (k+4*l.H.length)) (B1 X.1 X.2))/\q=(X.2:Int)/\True)/\nR X.1 X.2 2)/\bd (r<0) ((-1:Int)=p) (r=p))) ⟨(l.H.length,k),⟨Z8,f,e,X5⟩,λh=>ngN _ h,λ_=>⟨(l.W.length,k+4*l.H.length),⟨Z8,d,X5,X5⟩,λh=>ngN _ h,λ_=>rfl⟩⟩
def Eng.tm(e:Eng)(b:Nat):List T:=[.osl b 0 e.s.d.E.length,.osl (b+1) 0 e.s.d.C.length,.bool e.s.d.A,.osl (b+2) 0 e.s.d.keep.length,Ji e.s.ep,.osl (b+3) 0 e.s.L.length,Ji e.s.S,.osl (b+4) 0 e.s.fr.length,Ji e.s.J,.bool e.up,.osl (b+5) 0 e.X.length,.osl (b+6) 0 e.lk.H.length,.osl (b+7) 0 e.lk.W.length,Ji e.N]
def Eng.hp(e:Eng)(v:Nat):X9:=[A1 e.s.d.E,D3 e.s.d.C,A0 e.s.d.keep,j6 e.s.L,xA v e.s.fr e.s.fr.length,sR e.X,yY e.lk.H,sU e.lk.W]
abbrev oM(a b:Eng):Prop:=Z0 Z5 a.s.d.E b.s.d.E/\Z0 Z1 a.s.d.C b.s.d.C/\a.s.d.A=b.s.d.A/\Z0 Y9 a.s.d.keep b.s.d.keep/\a.s.ep=b.s.ep/\Z0 Y1 a.s.L b.s.L/\a.s.S=b.s.S/\(a.s.fr.length=b.s.fr.length/\Z7 a.s.fr.length (a1C (Y5 a.s.fr)) (V9 b.s.fr))/\a.s.J=b.s.J/\a.up=b.up/\Z0 X2 a.X b.X/\Z0 Z2 a.lk.H b.lk.H/\Z0 Y7 a.lk.W b.lk.W/\a.N=b.N/\True
abbrev b44(a b:Eng):Prop:=((0:Nat)=0/\a.s.d.E.length=b.s.d.E.length)/\((0:Nat)=0/\a.s.d.C.length=b.s.d.C.length)/\a.s.d.A=b.s.d.A/\((0:Nat)=0/\a.s.d.keep.length=b.s.d.keep.length)/\a.s.ep=b.s.ep/\((0:Nat)=0/\a.s.L.length=b.s.L.length)/\a.s.S=b.s.S/\((0:Nat)=0/\a.s.fr.length=b.s.fr.length)/\a.s.J=b.s.J/\a.up=b.up/\((0:Nat)=0/\a.X.length=b.X.length)/\((0:Nat)=0/\a.lk.H.length=b.lk.H.length)/\((0:Nat)=0/\a.lk.W.length=b.lk.W.length)/\a.N=b.N/\True
abbrev vF(v u:Nat)(a b:Eng):Prop:=Z0 Z5 a.s.d.E b.s.d.E/\Z0 Z1 a.s.d.C b.s.d.C/\Z0 Y9 a.s.d.keep b.s.d.keep/\Z0 Y1 a.s.L b.s.L/\(v=u/\a.s.fr.length=b.s.fr.length/\V2 a.s.fr.length (Y5 a.s.fr) (Y5 b.s.fr))/\Z0 X2 a.X b.X/\Z0 Z2 a.lk.H b.lk.H/\Z0 Y7 a.lk.W b.lk.W/\True
abbrev BxG(a b:Eng):Prop:=(1:Nat)=1/\(1:Nat)=1/\b44 a b
abbrev iM(v u:Nat)(a b:Eng):Prop:=BxG a b/\vF v u a b
abbrev lO(v u:Nat)(a b:Eng):Prop:=BxG a b/\True/\True/\True/\True/\True/\True/\True/\True/\vF v u a b
abbrev LeG(a:Eng):Prop:=Le (0+a.s.d.E.length) a.s.d.E.length/\Le (0+a.s.d.C.length) a.s.d.C.length/\Le (0+a.s.d.keep.length) a.s.d.keep.length/\Le (0+a.s.L.length) a.s.L.length/\Le (0+a.s.fr.length) a.s.fr.length/\Le (0+a.X.length) a.X.length/\Le (0+a.lk.H.length) a.lk.H.length/\Le (0+a.lk.W.length) a.lk.W.length
def kG(e:Eng)(v:Nat):C8 (e.hp v):=i4 (H:=e.s.hp v) (rG _ _) (i4 (H:=[sR e.X]) (kT _) (rD e.lk))
def c2b:Con:=.rmk ⟨Eng,λe=>[.agg e.ts],λ_=>[],λe=>.agg (e.tm 0),λe=>e.hp 0,M7⟩
def b8X:GK 42 c2b:=gk func42<|by
 rintro(e:Eng) ⟨h1,h2,h3⟩;exact⟨C6 (gC b41 (gC b7H (gC b5n gN))) func42 Z3 [[.arr 2,.arr 3,.arr 4,.arr 5,.arr 6,.arr 7,.arr 8,.arr 9]] (α:=∃(x:Sto),(((yS e.s x)/\True)/\iC x)/\∃(f:(List Txn)),let p:=f.length;(((Z0 X2 e.X f)/\True)/\p<=1048576)/\∃(X:Lks),((((Z0 Z2 e.lk.H X.H)/\(Z0 Y7 e.lk.W X.W)/\True)/\True)/\uX X)/\(((0=0/\x.d.E.length=e.s.d.E.length)/\(0=0/\x.d.C.length=e.s.d.C.length)/\x.d.A=e.s.d.A/\(0=0/\x.d.keep.length=e.s.d.keep.length)/\x.ep=e.s.ep/\(0=0/\x.L.length=e.s.L.length)/\x.S=e.s.S/\(0=0/\x.fr.length=e.s.fr.length)/\x.J=e.s.J/\e.up=e.up/\(0=0/\p=e.X.length)/\(0=0/\X.H.length=e.lk.H.length)/\(0=0/\X.W.length=e.lk.W.length)/\e.N=e.N/\True)/\True)/\(Z0 Z5 x.d.E e.s.d.E)/\(Z0 Z1 x.d.C e.s.d.C)/\(Z0 Y9 x.d.keep e.s.d.keep)/\(Z0 Y1 x.L e.s.L)/\(0=0/\x.fr.length=e.s.fr.length/\V2 x.fr.length (Y5 x.fr) (Y5 e.s.fr))/\(p=e.X.length/\Z7 (p) (X2 f) (X2 e.X))/\(Z0 Z2 X.H e.lk.H)/\(Z0 Y7 X.W e.lk.W)/\True) ⟨e.s,⟨⟨(jR _),Z6⟩,h1⟩,e.X,⟨Z8,h2⟩,e.lk,⟨Z8,h3⟩,Z8⟩,rfl,kG e 0⟩
def b59:Con:=.rel ⟨Eng,λe=>[.agg e.ts],λe=>.agg e.ts,M7⟩
def b2V:GK 35 b59:=gk func35<|by
 rintro(e:Eng) ⟨h1,h2,h3⟩;exact U5 (gC b2x (gC b3t gN)) func35 Z3 (α:=let p:=(0+e.X.length);∃(x:Sto),let q:=x.fr.length;(((yS e.s x)/\True)/\iC x)/\(Le 0 0/\U8 0 e.X.length 16)/\∃(X:Lks),((((Z0 Z2 e.lk.H X.H)/\(Z0 Y7 e.lk.W X.W)/\True)/\True)/\uX X)/\(Le (0+x.d.E.length) x.d.E.length/\Le (0+x.d.C.length) x.d.C.length/\Le (0+x.d.keep.length) x.d.keep.length/\Le (0+x.L.length) x.L.length/\Le (0+q) q/\Le (0+p) p)/\(Z0 Z5 x.d.E e.s.d.E)/\(Z0 Z1 x.d.C e.s.d.C)/\x.d.A=e.s.d.A/\(Z0 Y9 x.d.keep e.s.d.keep)/\x.ep=e.s.ep/\(Z0 Y1 x.L e.s.L)/\x.S=e.s.S/\(q=e.s.fr.length/\Z7 x.fr.length (a1C (Y5 x.fr)) (V9 e.s.fr))/\x.J=e.s.J/\e.up=e.up/\(0+e.X.length=e.X.length/\Z7 p (X4 (λ(k:Nat)=>List.take 2 (List.drop (k*2) [])) 0 (X2 e.X)) (X2 e.X))/\(Z0 Z2 X.H e.lk.H)/\(Z0 Y7 X.W e.lk.W)/\e.N=e.N/\True) ⟨e.s,⟨⟨(jR _),Z6⟩,h1⟩,⟨U9 _,R0⟩,e.lk,⟨Z8,h3⟩,⟨uA _,uA _,uA _,uA _,uA _,K0⟩,Z8,Z8,rfl,Z8,rfl,Z8,rfl,Z8,rfl,rfl,⟨Z9,v8⟩,Z8⟩
def c2L:Con:=.rmk ⟨Eng,λe=>[.agg e.ts],λ_=>[],λe=>.agg (e.tm 0),λe=>e.hp e.s.fr.length,M7⟩
def b8v:GK 10 c2L:=gk func10<|by
 rintro(e:Eng) ⟨h1,h2,h3⟩;exact⟨C6 (gC b92 (gC b2P (gC b6x gN))) func10 Z3 [[.arr 3,.arr 4,.arr 5,.arr 6,.arr 7,.arr 8,.arr 9,.arr 10]] (α:=∃(x:Sto),let q:=x.fr.length;(((yS e.s x)/\True)/\iC x)/\∃(f:(List Txn)),let p:=f.length;(((Z0 X2 e.X f)/\True)/\p<=1048576)/\∃(X:Lks),((((Z0 Z2 e.lk.H X.H)/\(Z0 Y7 e.lk.W X.W)/\True)/\True)/\uX X)/\(((0=0/\x.d.E.length=e.s.d.E.length)/\(0=0/\x.d.C.length=e.s.d.C.length)/\x.d.A=e.s.d.A/\(0=0/\x.d.keep.length=e.s.d.keep.length)/\x.ep=e.s.ep/\(0=0/\x.L.length=e.s.L.length)/\x.S=e.s.S/\(0=0/\q=e.s.fr.length)/\x.J=e.s.J/\e.up=e.up/\(0=0/\p=e.X.length)/\(0=0/\X.H.length=e.lk.H.length)/\(0=0/\X.W.length=e.lk.W.length)/\e.N=e.N/\True)/\True)/\(Z0 Z5 x.d.E e.s.d.E)/\(Z0 Z1 x.d.C e.s.d.C)/\(Z0 Y9 x.d.keep e.s.d.keep)/\(Z0 Y1 x.L e.s.L)/\(q=e.s.fr.length/\q=e.s.fr.length/\V2 x.fr.length (Y5 x.fr) (Y5 e.s.fr))/\(p=e.X.length/\Z7 (p) (X2 f) (X2 e.X))/\(Z0 Z2 X.H e.lk.H)/\(Z0 Y7 X.W e.lk.W)/\True) ⟨e.s,⟨⟨(jR _),Z6⟩,h1⟩,e.X,⟨Z8,h2⟩,e.lk,⟨Z8,h3⟩,Z8⟩,rfl,kG e _⟩
def c9B(e:Eng)(k:Nat):Eng:={e with s:=c6c e.s k,X:=I4 e.X.length (K7 e.s k),lk:=b63 e.lk (K7 e.s k+2*e.X.length)}
def oQ(e:Eng)(k:Nat):Nat:=bE e.lk (K7 e.s k+2*e.X.length)
def KBg(e:Eng)(k:Nat):Prop:=M7 e/\1<=k/\k<=100000000
def a9S{s:Sto}{k:Nat}(h:KBs s k):1<=K7 s k/\K7 s k<=5000000000000:=by
 obtain⟨⟨g,l,t,f⟩,j,r⟩:=h;have hd:O4 s.d k<=110000000:=by unfold O4;obtain⟨A,o,u⟩:=g;omega
 have e:1<=O4 s.d k:=by unfold O4;omega
 have hp:=hM (N5 s.fr) (O4 s.d k+10*s.L.length) (n:=s.fr.length) f;have q:O4 s.d k+10*s.L.length<=L7 (N5 s.fr) (O4 s.d k+10*s.L.length) s.fr.length:=yA (N5 s.fr) (O4 s.d k+10*s.L.length) (i:=0) (N4 _);unfold K7;omega
def b2v:Con:=.reff ⟨Eng×Nat×Nat,λx=>[.agg (x.1.tm 0),Ji x.2.1],λx=>x.1.hp x.2.2,λx=>Ji (oQ x.1 x.2.1),λx=>(c9B x.1 x.2.1).hp x.2.2,λx=>KBg x.1 x.2.1⟩
def a6T:GK 14 b2v:=gk func14<|by
 rintro⟨e,k,v⟩ ⟨⟨j,i,n⟩,h,l⟩;dsimp only at j i n h l;have g:KBs e.s k:=⟨j,h,l⟩;obtain⟨o,q⟩:=a9S g;exact C6 (gC a8t (gC a3y (gC a52 gN))) func14 Z3 [[.arr 0,.arr 1,.arr 2,.arr 3,.arr 4,.arr 5,.arr 6,.arr 7]] (α:=let q:=(vO e.s.fr.length (N5 e.s.fr) (O4 e.s.d k+10*e.s.L.length));∃(x:(Sto×Nat×Nat)),let u:=x.1.fr;let z:=x.2.1;let r:=x.1.d;let y:=r.E.length;let p:=(vO u.length (N5 u) (O4 x.1.d z+10*x.1.L.length));((((0=0/\e.s.d.E.length=y)/\(0=0/\e.s.d.C.length=r.C.length)/\e.s.d.A=r.A/\(0=0/\e.s.d.keep.length=r.keep.length)/\e.s.ep=x.1.ep/\(0=0/\e.s.L.length=x.1.L.length)/\e.s.S=x.1.S/\(0=0/\e.s.fr.length=u.length)/\e.s.J=x.1.J/\True)/\(k:Int)=(z:Int)/\True)/\((Z0 Z5 e.s.d.E r.E)/\(Z0 Z1 e.s.d.C r.C)/\(Z0 Y9 e.s.d.keep r.keep)/\(Z0 Y1 e.s.L x.1.L)/\(v=x.2.2/\e.s.fr.length=u.length/\V2 e.s.fr.length (Y5 e.s.fr) (Y5 u))/\True)/\KBs x.1 z)/\∃(f:(List Txn×Nat)),(((0=0/\e.X.length=f.1.length)/\(↑(K7 x.1 z):Int)=(f.2:Int)/\True)/\((Z0 X2 e.X f.1)/\True)/\nR f.1.length f.2 2)/\∃(X:(Lks×Nat)),((((0=0/\e.lk.H.length=X.1.H.length)/\(0=0/\e.lk.W.length=X.1.W.length)/\True)/\(↑(f.2+2*f.1.length):Int)=(X.2:Int)/\True)/\((Z0 Z2 e.lk.H X.1.H)/\(Z0 Y7 e.lk.W X.1.W)/\True)/\KBl X.1 X.2)/\((↑(bE X.1 X.2):Int)=(↑(oQ e k):Int)/\True)/\(Z0 Z5 (yR r.E.length z) (yR e.s.d.E.length k))/\(Z0 Z1 (vH r.C.length (z+y)) (vH e.s.d.C.length (k+e.s.d.E.length)))/\(Z0 Y9 (vE r.keep.length (z+y+2*r.C.length)) (vE e.s.d.keep.length (k+e.s.d.E.length+2*e.s.d.C.length)))/\(Z0 Y1 (g8 x.1.L.length (O4 x.1.d z)) (g8 e.s.L.length (O4 e.s.d k)))/\(x.2.2=v/\p.length=q.length/\V2 p.length (Y5 p) (Y5 q))/\(Z0 X2 (I4 f.1.length f.2) (I4 e.X.length (K7 e.s k)))/\(Z0 Z2 (M3 X.1.H.length X.2) (M3 e.lk.H.length (K7 e.s k+2*e.X.length)))/\(Z0 Y7 (B1 X.1.W.length (X.2+4*X.1.H.length)) (B1 e.lk.W.length (K7 e.s k+2*e.X.length+4*e.lk.H.length)))/\True) ⟨(e.s,k,v),⟨Z8,Z8,g⟩,(e.X,K7 e.s k),⟨Z8,Z8,i,o,X5⟩,(e.lk,K7 e.s k+2*e.X.length),⟨Z8,Z8,n,X5,X5⟩,Z8⟩
def b2K:Con:=.rel ⟨Eng×Nat,λx=>[.agg (c9B x.1 x.2).ts,Ji x.2],λx=>Ji (oQ x.1 x.2),λx=>KBg x.1 x.2⟩
def a89:GK 15 b2K:=gk func15<|by
 rintro⟨e,k⟩ ⟨⟨j,i,n⟩,f,l⟩;dsimp only at j i n f l;have g:KBs e.s k:=⟨j,f,l⟩;obtain⟨o,q⟩:=a9S g;exact U5 (gC a6h (gC a3Y (gC a84 gN))) func15 Z3 (α:=let p:=((-1:Int)=(↑(oQ e k):Int));∃(x:(Sto×Nat)),let u:=x.1.d;let q:=(↑(K7 x.1 x.2):Int);((((Z0 Z5 (yR e.s.d.E.length k) (yR u.E.length x.2))/\(Z0 Z1 (vH e.s.d.C.length (k+e.s.d.E.length)) (vH u.C.length (x.2+u.E.length)))/\e.s.d.A=u.A/\(Z0 Y9 (vE e.s.d.keep.length (k+e.s.d.E.length+2*e.s.d.C.length)) (vE u.keep.length (x.2+u.E.length+2*u.C.length)))/\e.s.ep=x.1.ep/\(Z0 Y1 (g8 e.s.L.length (O4 e.s.d k)) (g8 x.1.L.length (O4 x.1.d x.2)))/\e.s.S=x.1.S/\(Z0 V9 (vO e.s.fr.length (N5 e.s.fr) (O4 e.s.d k+10*e.s.L.length)) (vO x.1.fr.length (N5 x.1.fr) (O4 x.1.d x.2+10*x.1.L.length)))/\e.s.J=x.1.J/\True)/\(k:Int)=(x.2:Int)/\True)/\KBs x.1 x.2)/\bd (q<0) p (∃(X:(Nat×Nat)),let z:=(↑(X.2+2*X.1):Int);(((Z0 X2 (I4 e.X.length (K7 e.s k)) (I4 X.1 X.2))/\q=(X.2:Int)/\True)/\nR X.1 X.2 2)/\bd (z<0) p (∃(x:(Lks×Nat)),let r:=(↑(bE x.1 x.2):Int);((((Z0 Z2 (M3 e.lk.H.length (K7 e.s k+2*e.X.length)) (M3 x.1.H.length x.2))/\(Z0 Y7 (B1 e.lk.W.length (K7 e.s k+2*e.X.length+4*e.lk.H.length)) (B1 x.1.W.length (x.2+4*x.1.H.length)))/\True)/\z=(x.2:Int)/\True)/\KBl x.1 x.2)/\bd (r<0) p (r=(↑(oQ e k):Int))))) ⟨(e.s,k),⟨Z8,g⟩,λh=>ngN _ h,λ_=>⟨(e.X.length,K7 e.s k),⟨Z8,i,o,X5⟩,λh=>ngN _ h,λ_=>⟨(e.lk,K7 e.s k+2*e.X.length),⟨Z8,n,X5,X5⟩,λh=>ngN _ h,λ_=>rfl⟩⟩⟩
def Eng.tn(e:Eng)(a b c d f g h i:Nat):List T:=[.osl a 0 e.s.d.E.length,.osl b 0 e.s.d.C.length,.bool e.s.d.A,.osl c 0 e.s.d.keep.length,Ji e.s.ep,.osl d 0 e.s.L.length,Ji e.s.S,.osl f 0 e.s.fr.length,Ji e.s.J,.bool e.up,.osl g 0 e.X.length,.osl h 0 e.lk.H.length,.osl i 0 e.lk.W.length,Ji e.N]
def gO(l:List T):Option Ob:=some (.arr false 1000000 14 1 λ_=>l)
def Eng.bx(e:Eng)(v:Nat):X9:=[gO (e.tn 1 2 3 4 5 6 7 8),A1 e.s.d.E,D3 e.s.d.C,A0 e.s.d.keep,j6 e.s.L,xA v e.s.fr e.s.fr.length,sR e.X,yY e.lk.H,sU e.lk.W]
def Eng.nx(e:Eng)(v:Nat):X9:=[gO (e.tn 9 10 11 12 13 14 15 16),none,none,none,none,none,none,none,none,A1 e.s.d.E,D3 e.s.d.C,A0 e.s.d.keep,j6 e.s.L,xA v e.s.fr e.s.fr.length,sR e.X,yY e.lk.H,sU e.lk.W]
def uU:Eng:=⟨c9E,false,[],⟨[],[]⟩,0⟩
def apx(s:Sto)(r:Rec):Sto:=⟨s.d,s.ep,s.L++[P9 s r],s.S,s.fr,s.J⟩
def B9(e:Eng)(k:Nat)(r:Rec):Rec:={r with t:=(e.X.getD k dz).id,p:=(e.X.getD k dz).Z}
def E9(e:Eng)(k:Nat)(r:Rec):Eng:={e with s:=apx e.s (B9 e k r),X:=e.X.set k ⟨(e.X.getD k dz).id,(e.s.L.length:Int)+1⟩}
structure AddB(e:Eng)(tx:Int)(k:Nat)(r:Rec):Prop where
 at_:T8 e.X tx=k
 lt:k<e.X.length
 id:(e.X.getD k dz).id=tx
 ok:O9 (P9 e.s (B9 e k r))=true
 tl:e.X.length<=1000
 ll:e.s.L.length<=1000
 sm:SmR r
def c9u:Con:=.reff ⟨Eng×Int×Rec×Nat×Nat,λx=>[.ref 0 0 0,Ji x.2.1,.agg x.2.2.1.ts],λx=>x.1.bx x.2.2.2.2,λx=>.agg (P9 x.1.s (B9 x.1 x.2.2.2.1 x.2.2.1)).ts,λx=>(E9 x.1 x.2.2.2.1 x.2.2.1).nx x.2.2.2.2,λx=>AddB x.1 x.2.1 x.2.2.2.1 x.2.2.1⟩
def a9L{L:List Txn}{k:Nat}{n:Int}(d:k<L.length)(j:Nat):setRow (X2 L) k 1 [Ji n] j=X2 (L.set k ⟨(L.getD k dz).id,n⟩) j:=by
 by_cases h:j=k
 ·subst h;rw[pD (by show 1<2;decide)]
  unfold X2;rw[P4 (l:=L.set j _),j_j d]
  rfl
 ·rw[L5 (by show 1+1<=2;decide) h]
  unfold X2;rw[P4 (l:=L.set k _),j_k (Ne.symm h),←P4]
def c2S{s:Sto}{r:Rec}(h:O9 (P9 s r)=true):Q5 s r=apx s r:=by unfold Q5;rw[if_pos h];rfl
def a4T(s:Sto)(r:Rec):(apx s r).L.getD s.L.length dz=P9 s r:=by
 show(s.L++[P9 s r]).getD _ _=_;rw[P4,qA (U9 _)]
 simp
def a5Y:GK 119 c9u:=gk func119<|by
 rintro⟨e,tx,r,k,v⟩ ⟨A,h,i,f,q,L,M⟩;dsimp only at A h i f q L M;have u:(apx e.s (B9 e k r)).L.length=e.s.L.length+1:=by show(e.s.L++[_]).length=_;simp
 have o:e.s.L.length<=60:=by
  have:=(Q4 _).1 f;have:=this.2.2.2.1;have B:(P9 e.s (B9 e k r)).l=(e.s.L.length:Int)+1:=rfl;omega
 refine C6 (gC qT (gC kF gN)) func119 Z3 aW (α:=let c:=(e.s.L.length:Int);let f:=(e.s.L++[P9 e.s (B9 e k r)]);let m:=(e.X.getD k dz);let w:=(e.X.set k (Txn.mk m.id (c+1)));∃(x:(Eng×Int)),let y:=(0+(T8 x.1.X x.2).toNat);((LeG e)/\((oM e x.1)/\tx=x.2/\True)/\L9 x.1.X.length)/\W9 (T8 x.1.X x.2) e.X.length/\Lt y e.X.length/\∃(X:a5h.ι),let z:=(Q5 X.1 X.2.1);let j:=z.L.length;let q:=((bif y.beq y then(↑j:Int) else(e.X.getD y dz).Z)-1);let u:=(z.L.getD (0+q.toNat) dz);(((0=0/\0=0)/\(r.e=X.2.1.e/\r.l=X.2.1.l/\tx=X.2.1.t/\r.k=X.2.1.k/\(e.X.getD y dz).Z=X.2.1.p/\r.n=X.2.1.n/\r.g=X.2.1.g/\r.s=X.2.1.s/\r.b=X.2.1.b/\r.a=X.2.1.a/\True)/\True)/\(LnS (v) (X.2.2) e.s X.1)/\X.1.L.length<=60/\SmR X.2.1)/\Lt y e.X.length/\Lt y e.X.length/\Ri q/\W9 q j/\Lt (0+q.toNat) j/\((u.e=e.s.ep/\u.l=c+1/\u.t=m.id/\u.k=r.k/\u.p=m.Z/\u.n=r.n/\u.g=r.g/\u.s=r.s/\u.b=r.b/\u.a=r.a/\True)/\True)/\(1=1/\1=1/\(0=0/\z.d.E.length=e.s.d.E.length)/\(0=0/\z.d.C.length=e.s.d.C.length)/\z.d.A=e.s.d.A/\(0=0/\z.d.keep.length=e.s.d.keep.length)/\z.ep=e.s.ep/\(0=0/\j=f.length)/\z.S=e.s.S/\(0=0/\z.fr.length=e.s.fr.length)/\z.J=e.s.J/\e.up=e.up/\(0=0/\e.X.length=w.length)/\(0=0/\e.lk.H.length=e.lk.H.length)/\(0=0/\e.lk.W.length=e.lk.W.length)/\e.N=e.N/\True)/\True/\True/\True/\True/\True/\True/\True/\True/\(Z0 Z5 z.d.E e.s.d.E)/\(Z0 Z1 z.d.C e.s.d.C)/\(Z0 Y9 z.d.keep e.s.d.keep)/\(Z0 Y1 z.L f)/\(X.2.2=v/\z.fr.length=e.s.fr.length/\V2 z.fr.length (Y5 z.fr) (Y5 e.s.fr))/\(e.X.length=w.length/\Z7 e.X.length (setRow (X2 e.X) y 1 [Ji (↑j:Int)]) (X2 w))/\(Z0 Z2 e.lk.H e.lk.H)/\(Z0 Y7 e.lk.W e.lk.W)/\True) ⟨(e,tx),⟨Z8,Z8,rU⟩,?_⟩
 dsimp only;rw[A,E3,D4];refine⟨Y6 h,h,(e.s,B9 e k r,v),⟨⟨Z8,⟨rfl,rfl,i.symm,Z8⟩,Z6⟩,Z8,o,M⟩,h,h,?_⟩
 dsimp only;rw[c2S f,Nat.beq_refl,cond_true];have z:(0+(((apx e.s (B9 e k r)).L.length:Int)-1).toNat)=e.s.L.length:=Z9
 rw[z,a4T];refine⟨Z4 Z9,⟨Z9,Z9⟩,Q2,Z8,⟨rfl,rfl,Z8,Z8,rfl,Z8,rfl,Z8,rfl,Z8,rfl,rfl,⟨rfl,(zW ..).symm⟩,Z8⟩,Z6,Z6,Z6,Z6,Z6,Z6,Z6,Z6,Z8,Z8,Z8,Z8,Z8,⟨(zW ..).symm,λj _=>?_⟩,Z8⟩
 rw[a9L h,u];rfl
def u4{e:Eng}(h:R3 e=true):F7 e.s=true/\wC e=true/\(if e.up then upE e else a4o e)=true:=by
 unfold R3 sQ at h;simp only[J5] at h;exact⟨h.1,h.2.1,h.2.2⟩
def c4u{e:Eng}(h:R3 e=true)(u:e.up=true):∀i,i<e.X.length->y7 e i=false:=by
 have d:=(u4 h).2.2;rw[if_pos u] at d;unfold upE at d;simp only[J5,vZ] at d;exact P5.1 d.1.1.1
def c9j{e:Eng}(h:R3 e=true)(u:e.up=true){i:Nat}(hi:i<e.X.length):1<=(e.X.getD i dz).id/\(e.X.getD i dz).id<=e.N-1:=by
 have:=c4u h u i hi;unfold y7 at this;simp only[wS,wU,K5] at this;exact this.1.1
def c7n{s:Sto}(h:F7 s=true):1<=s.ep/\s.ep<=60:=by
 obtain⟨⟨d,_⟩,_⟩:=(G4 s).1 h;obtain⟨_,_,a,b,_⟩:=(o5 s).1 d;exact⟨a,b⟩
theorem lR{f g:Nat->List T}:X4 f 0 g=g:=funext λi=>by unfold X4;rw[show Nat.blt i 0=false from rfl];rfl
def c9b:Con:=.rel ⟨Sto×Rec,λx=>[.agg x.1.ts,.agg x.2.ts],λx=>.tup [.agg (apx x.1 x.2).ts,Ji (x.1.L.length+1:Nat)],λx=>x.1.L.length<=1000⟩
def c5Z:GK 301 c9b:=gk func301<|by
 rintro⟨s,r⟩ (h:s.L.length<=1000);have l:(s.L++[P9 s r]).length=s.L.length+1:=W7
 refine U5 (gC P6 gN) func301 Z3 (α:=let u:=(0+s.L.length+1);let z:=(s.L.length:Int);let q:=(0+s.L.length);Ri (z+1)/\(Le 0 0/\U8 0 s.L.length 96)/\(Le q q/\U8 q 1 96)/\Le (0+u) u/\((Z0 Z5 s.d.E s.d.E)/\(Z0 Z1 s.d.C s.d.C)/\s.d.A=s.d.A/\(Z0 Y9 s.d.keep s.d.keep)/\s.ep=s.ep/\(0+s.L.length+1=(s.L++[P9 s r]).length/\Z7 u (X4 (X4 (λ(k:Nat)=>List.take 10 (List.drop (k*10) [])) 0 (Y1 s.L)) q λ(k:Nat)=>List.take 10 (List.drop (k*10) [Ji s.ep,Ji (z+1),Ji r.t,Ji r.k,Ji r.p,Ji r.n,Ji r.g,Ji r.s,T.str r.b,T.str r.a])) (Y1 (s.L++[P9 s r])))/\s.S=s.S/\(Z0 V9 s.fr s.fr)/\s.J=s.J/\True)/\z+1=(↑(s.L.length+1):Int)/\True) ⟨Z4 Z9,⟨U9 _,R0⟩,⟨U9 _,R0⟩,K0,⟨K8,K8,rfl,K8,rfl,⟨Z9,?_⟩,rfl,K8,Z8⟩,Z8⟩
 rw[D4,lR];exact hJ s.L (P9 s r)
def c5C:Con:=.rfz ⟨Eng×Nat×Rec,λx=>[.agg x.1.ts,Ji x.2.1,.agg x.2.2.ts],λx=>.tup [.agg (E9 x.1 x.2.1 x.2.2).ts,Ji (x.1.s.L.length+1:Nat)],λx=>x.2.1<x.1.X.length/\x.1.X.length<=1000/\x.1.s.L.length<=1000⟩
def a1G:GK 223 c5C:=gk func223<|by
 rintro⟨e,k,r⟩ ⟨h,f,L⟩;dsimp only at h f L;refine U5 (gC c5Z (gC P6 gN)) func223 Z3 (α:=let u:=(k:Int).toNat;let z:=(0+e.X.length);let q:=(e.X.set k (Txn.mk (e.X.getD k dz).id ((e.s.L.length:Int)+1)));W9 (k:Int) e.X.length/\W9 (k:Int) e.X.length/\∃(x:(Sto×Rec)),let v:=(↑(x.1.L.length+1):Int);(((yS e.s x.1)/\(r.e=x.2.e/\r.l=x.2.l/\(e.X.getD u dz).id=x.2.t/\r.k=x.2.k/\(e.X.getD u dz).Z=x.2.p/\r.n=x.2.n/\r.g=x.2.g/\r.s=x.2.s/\r.b=x.2.b/\r.a=x.2.a/\True)/\True)/\x.1.L.length<=1000)/\(Le 0 0/\U8 0 e.X.length 16)/\W9 (k:Int) z/\Lt (0+u) z/\Le (0+z) z/\((Z0 Z5 x.1.d.E e.s.d.E)/\(Z0 Z1 x.1.d.C e.s.d.C)/\x.1.d.A=e.s.d.A/\(Z0 Y9 x.1.d.keep e.s.d.keep)/\x.1.ep=e.s.ep/\(Z0 Y1 (x.1.L++[P9 x.1 x.2]) (e.s.L++[P9 e.s (B9 e k r)]))/\x.1.S=e.s.S/\(Z0 V9 x.1.fr e.s.fr)/\x.1.J=e.s.J/\e.up=e.up/\(0+e.X.length=q.length/\Z7 z (setRow (X4 (λ(k:Nat)=>List.take 2 (List.drop (k*2) [])) 0 (X2 e.X)) (0+u) 1 [Ji v]) (X2 q))/\(Z0 Z2 e.lk.H e.lk.H)/\(Z0 Y7 e.lk.W e.lk.W)/\e.N=e.N/\True)/\v=(↑(e.s.L.length+1):Int)/\True) ⟨Y6 h,Y6 h,(e.s,B9 e k r),⟨⟨jR _,⟨rfl,rfl,by rw[E3];rfl,rfl,by rw[E3];rfl,rfl,rfl,rfl,rfl,rfl,Z6⟩,Z6⟩,X5⟩,⟨U9 _,R0⟩,by rw[D4];exact Y6 h,Q2,K0,⟨Z8,Z8,rfl,Z8,rfl,Z8,rfl,Z8,rfl,rfl,⟨by rw[zW];omega,λj _=>?_⟩,Z8⟩,Z8⟩
 rw[E3,D4,lR];exact a9L h j
def leM{α:Type}(f:Nat->α)(n:Nat):Le (0+n) ((List.range n).map f).length:=by rw[O3];exact uA n
def dr(x:Bz):Nat->Bz
 |0=>x
 |i+1=>(dr x i).drop 1
def sL(x:Bz):Nat->Bool
 |0=>false
 |i+1=>sL x i||(dr x i).isEmpty
def rcE(x:Bz):Fst:=U1 (dr x 9) (sL x 9)
def rcX(x:Bz):Rec:=⟨numR (dr x 1),numR (dr x 2),numR (dr x 3),numR (dr x 4),numR (dr x 5),numR (dr x 6),numR (dr x 7),numR (dr x 8),(rcE x).out.getD 0 [],(rcE x).out.getD 1 []⟩
def o7(x:Bz):Bool:= !(!(rcE x).fl&&(rcE x).l.isEmpty)||numR x !=108||(((rcE x).out.length:Nat):Int) !=2
def a1z:Rec:=⟨0,0,0,0,0,0,0,0,[],[]⟩
def R8(b:Bz):Rec×Int:=if S0 b=true then
  if o7 (X1 b)=true then(a1z,3) else if O9 (rcX (X1 b))=true then(rcX (X1 b),0) else(a1z,3)
 else(a1z,8)
def c63:Con:=.reff ⟨Bz×Nat,λ_=>[.ref 0 0 0],λx=>[rdr (dr x.1 x.2) (sL x.1 x.2)],λx=>Ji (numR (dr x.1 x.2)),λx=>[rdr (dr x.1 (x.2+1)) (sL x.1 (x.2+1))],λ_=>True⟩
def c1O:GK 321 c63:=gk func321<|λx _=>eI.1 _ _ _ _ none rfl trivial
def a2E:Con:=.rel ⟨Bz,λb=>[.bys b],λb=>.tup [.agg (R8 b).1.ts,Ji (R8 b).2],RdB⟩
def c3m(l:Bz)(n:Int)(d:0<=n)(h:n<=255):(T4 l n).length<=255:=by
 unfold T4;split
 ·rw[List.length_replicate];omega
 ·rw[List.length_take];omega
def cM{α:Type}(d:α)(L:List α)(x:α)(i:Nat)(hi:i<L.length+1):(L++[x]).getD i d=if i=L.length then x else L.getD i d:=by
 by_cases h:i=L.length
 ·subst h;rw[if_pos rfl,P4,qA (U9 _)]
  simp
 ·rw[if_neg h,P4,rL Z9,←P4]
def b9m(l:Bz)(fl:Bool):∀i j,((F2 l fl i).out.getD j []).length<=255
 |0,j=>N4 _
 |i+1,j=>by
  have h:=r6 (F2 l fl i).l;show(((F2 l fl i).out++[T4 ((F2 l fl i).l.drop 1) (numR (F2 l fl i).l)]).getD j []).length<=255;by_cases hj:j<(F2 l fl i).out.length+1
  ·rw[cM [] _ _ _ hj];split
   ·exact c3m _ _ h.1 Z9
   ·exact b9m l fl i j
  ·rw[P4,List.getElem?_eq_none (by rw[F9];simp;omega)]
   exact N4 _
def c40{b:Bz}(h:S0 b=false):R8 b=(a1z,8):=by unfold R8;rw[if_neg cY]
def b7Q{b:Bz}(h:S0 b=true)(B:o7 (X1 b)=true):R8 b=(a1z,3):=by unfold R8;rw[if_pos h,if_pos B]
def b6X{b:Bz}(h:S0 b=true)(B:o7 (X1 b)=false)(r:O9 (rcX (X1 b))=false):R8 b=(a1z,3):=by unfold R8;rw[if_pos h,if_neg (by rw[B];simp),if_neg (by rw[r];simp)]
def a81{b:Bz}(h:S0 b=true)(B:o7 (X1 b)=false)(r:O9 (rcX (X1 b))=true):R8 b=(rcX (X1 b),0):=by unfold R8;rw[if_pos h,if_neg (by rw[B];simp),if_pos r]
def bQ:GK 238 a2E:=gk func238<|by
 intro(b:Bz) (hb:b.length<=1000);refine U5 (gC sK (gC c1O (gC aT (gC qP (gC tL gN))))) func238 Z3 (α:=let v:=((0=0/\0=0)/\True);let z:=(0=(R8 b).1.e/\0=(R8 b).1.l/\0=(R8 b).1.t/\0=(R8 b).1.k/\0=(R8 b).1.p/\0=(R8 b).1.n/\0=(R8 b).1.g/\0=(R8 b).1.s/\[]=(R8 b).1.b/\[]=(R8 b).1.a/\True);let pf:=(z/\3=(R8 b).2/\True);bd ((b.length:Int)>65536) (z/\2=(R8 b).2/\True) (∃(x:tG.ι),((b=x/\True)/\v5 x)/\br (!S0 x) (z/\8=(R8 b).2/\True) (∃(r:(Bz×Nat)),(v/\((1=1/\Z7 1 (λ(d:Nat)=>[T.bys (X1 x),T.bool false]) λ(x:Nat)=>[T.bys (dr r.1 r.2),T.bool (sL r.1 r.2)])/\True)/\True)/\∃(x:(Bz×Nat)),let w:=(dr x.1 x.2);(v/\((1=1/\Z7 1 (λ(x:Nat)=>[T.bys (dr r.1 (r.2+1)),T.bool (sL r.1 (r.2+1))]) λ(d:Nat)=>[T.bys w,T.bool (sL x.1 x.2)])/\True)/\True)/\∃(d:(Bz×Nat)),let m:=(dr d.1 d.2);(v/\((1=1/\Z7 1 (λ(f:Nat)=>[T.bys (dr x.1 (x.2+1)),T.bool (sL x.1 (x.2+1))]) λ(x:Nat)=>[T.bys m,T.bool (sL d.1 d.2)])/\True)/\True)/\∃(f:(Bz×Nat)),let c:=(dr f.1 f.2);(v/\((1=1/\Z7 1 (λ(x:Nat)=>[T.bys (dr d.1 (d.2+1)),T.bool (sL d.1 (d.2+1))]) λ(x:Nat)=>[T.bys c,T.bool (sL f.1 f.2)])/\True)/\True)/\∃(q:(Bz×Nat)),let pa:=(dr q.1 q.2);(v/\((1=1/\Z7 1 (λ(x:Nat)=>[T.bys (dr f.1 (f.2+1)),T.bool (sL f.1 (f.2+1))]) λ(x:Nat)=>[T.bys pa,T.bool (sL q.1 q.2)])/\True)/\True)/\∃(o:(Bz×Nat)),let pb:=(dr o.1 o.2);(v/\((1=1/\Z7 1 (λ(x:Nat)=>[T.bys (dr q.1 (q.2+1)),T.bool (sL q.1 (q.2+1))]) λ(x:Nat)=>[T.bys pb,T.bool (sL o.1 o.2)])/\True)/\True)/\∃(i:(Bz×Nat)),let pc:=(dr i.1 i.2);(v/\((1=1/\Z7 1 (λ(x:Nat)=>[T.bys (dr o.1 (o.2+1)),T.bool (sL o.1 (o.2+1))]) λ(x:Nat)=>[T.bys pc,T.bool (sL i.1 i.2)])/\True)/\True)/\∃(j:(Bz×Nat)),let pd:=(dr j.1 j.2);(v/\((1=1/\Z7 1 (λ(x:Nat)=>[T.bys (dr i.1 (i.2+1)),T.bool (sL i.1 (i.2+1))]) λ(x:Nat)=>[T.bys pd,T.bool (sL j.1 j.2)])/\True)/\True)/\∃(X:(Bz×Nat)),let pe:=(dr X.1 X.2);let u:=(U1 (dr X.1 (X.2+1)) (sL X.1 (X.2+1)));let y:=u.out;(v/\((1=1/\Z7 1 (λ(x:Nat)=>[T.bys (dr j.1 (j.2+1)),T.bool (sL j.1 (j.2+1))]) λ(x:Nat)=>[T.bys pe,T.bool (sL X.1 X.2)])/\True)/\True)/\br (!(! u.fl&&u.l.isEmpty)||numR (dr r.1 r.2) !=108||(↑y.length:Int) !=2) pf (W9 (0:Int) y.length/\W9 (1:Int) y.length/\b3I (y.getD 1 [])/\br (!O9 (Rec.mk (numR w) (numR m) (numR c) (numR pa) (numR pb) (numR pc) (numR pd) (numR pe) (y.getD 0 []) (y.getD 1 []))) pf ((numR w=(R8 b).1.e/\numR m=(R8 b).1.l/\numR c=(R8 b).1.t/\numR pa=(R8 b).1.k/\numR pb=(R8 b).1.p/\numR pc=(R8 b).1.n/\numR pd=(R8 b).1.g/\numR pe=(R8 b).1.s/\y.getD 0 []=(R8 b).1.b/\y.getD 1 []=(R8 b).1.a/\True)/\0=(R8 b).2/\True))))) ⟨λh=>by have:=G7 h;omega,λ_=>⟨b,⟨Z8,a0W⟩,λh=>?_,λh=>⟨(X1 b,0),⟨K8,Z8⟩,(X1 b,1),⟨K8,Z8⟩,(X1 b,2),⟨K8,Z8⟩,(X1 b,3),⟨K8,Z8⟩,(X1 b,4),⟨K8,Z8⟩,(X1 b,5),⟨K8,Z8⟩,(X1 b,6),⟨K8,Z8⟩,(X1 b,7),⟨K8,Z8⟩,(X1 b,8),⟨K8,Z8⟩,λhc=>?_,λhc=>?_⟩⟩⟩
 ·rw[c40 x5]
  exact K8
 ·rw[b7Q x5 hc]
  exact K8
 ·have hu:S0 b=true:=by simpa using h
  have hc:o7 (X1 b)=false:=hc;have u:(rcE (X1 b)).out.length=2:=by
   unfold o7 at hc;simp only[wS,bne_eq_false_iff_eq] at hc;omega
  refine⟨⟨Z9,by show(0:Int)<((rcE (X1 b)).out.length:Int);omega⟩,⟨Z9,by show(1:Int)<((rcE (X1 b)).out.length:Int);omega⟩,by have:=b9m (dr (X1 b) 9) (sL (X1 b) 9) (numR (dr (X1 b) 9)).toNat 1;unfold b3I;show((F2 (dr (X1 b) 9) (sL (X1 b) 9) (numR (dr (X1 b) 9)).toNat).out.getD 1 []).length<_;omega,λR=>?_,λR=>?_⟩
  ·have R:(!O9 (rcX (X1 b)))=true:=by
    unfold rcX rcE;dsimp only[Nat.reduceAdd] at R ⊢;exact R
   have R:O9 (rcX (X1 b))=false:=by rw[vZ] at R;exact R
   rw[b6X hu hc R];exact K8
  ·have R:(!O9 (rcX (X1 b)))=false:=by
    unfold rcX rcE;dsimp only[Nat.reduceAdd] at R ⊢;exact R
   have R:O9 (rcX (X1 b))=true:=by rw[wU] at R;exact R
   rw[a81 hu hc R];unfold rcX rcE;dsimp only[Nat.reduceAdd];exact Z8
def lgR(d:Dsk)(i:Nat):Rec×Int:=R8 (S1 d (9+i))
def lgE(d:Dsk)(i:Nat):Int:=if i=0 then 1 else(lgR d (i-1)).1.e
def lgB(d:Dsk)(ep:Int)(i:Nat):Bool:=((lgR d i).2 !=0||(lgR d i).1.l !=(i:Int)+1|| !V6 (lgR d i).1.e (lgE d i) ep)
def zB(d:Dsk)(m:Nat):List Rec:=(List.range m).map λi=>(lgR d i).1
def nP(d:Dsk)(ep:Int):Nat:=if S6 (d.E.length-9) (lgB d ep)= -1 then d.E.length-9 else(S6 (d.E.length-9) (lgB d ep)).toNat
def LgS(x:Dsk×Int):Prop:=G0 x.1
def b2k(d:Dsk)(ep:Int):Nat->Ann
 |0=>.one (V5 (d.E.length-9) (lgB d ep)) (λx=>⟨[(1,Ji ep),(2,.ref 0 0 0),(5,.osl 1 0 x.1),(6,Ji (lgE d x.1)),(7,Ji (9+x.1:Nat))],[dD d,j6 (zB d x.1)]⟩) (λx=>d.E.length-x.1) b5o [.box 0,.arr 3] (λ_=>Z3)
 |_=>.none
def b3b:Con:=.rmk ⟨Dsk×Int,λx=>[.agg x.1.ts,Ji x.2],λ_=>[],λx=>.osl 0 0 (nP x.1 x.2),λx=>[j6 (zB x.1 (nP x.1 x.2))],LgS⟩
def yB(d:Dsk)(m:Nat):(zB d m).length=m:=by unfold zB;simp
def c6A(d:Dsk){m i:Nat}(h:i<m):(zB d m).getD i dz=(lgR d i).1:=by
 unfold zB;rw[P4,oE,List.getElem?_range h]
 rfl
def a4m(d:Dsk)(m:Nat):zB d (m+1)=zB d m++[(lgR d m).1]:=by
 unfold zB;rw[List.range_succ,List.map_append];rfl
def b8a{d:Dsk}{ep:Int}{m:Nat}(M:m<d.E.length-9)(h:lgB d ep m=true)(hp:∀i,i<m->lgB d ep i=false):nP d ep=m:=by
 unfold nP;rw[N9 M h hp,if_neg Z9,E3]
def b1n{d:Dsk}{ep:Int}{m:Nat}(h:m=d.E.length-9)(hp:∀i,i<m->lgB d ep i=false):nP d ep=m:=by
 unfold nP;rw[K2 (λi hi=>hp i Z9),if_pos rfl,h]
def a9j:GK 143 b3b:=gk func143<|by
 rintro⟨d,ep⟩ (hd:G0 d);have h:=hd;obtain⟨Q,o,j,q,_⟩:=h;refine⟨C6 (gC P6 (gC dM (gC bQ (gC O1 gN)))) func143 (b2k d ep) [[.arr 1]] (α:=let u:=(1=1/\1=1/\zJ d d);(∃(x:V5 (d.E.length-9) (lgB d ep)),(ep=ep/\(0=0/\0=0)/\(0=0/\0=x.1)/\1=lgE d x.1/\9=(↑(9+x.1):Int)/\True)/\u/\(0=(zB d x.1).length/\Z7 0 (λ(k:Nat)=>List.take 10 (List.drop (k*10) [])) (Y1 (zB d x.1)))/\True)/\∀(x:V5 (d.E.length-9) (lgB d ep)),let z:=x.1;let r:=(↑(9+z):Int);let q:=(((0=0/\z=nP d ep)/\True)/\(Z0 Y1 (zB d z) (zB d (nP d ep)))/\True);bd (r<(d.E.length:Int)) (∃(f:oF.ι),(((zJ d f.1)/\r=(f.2:Int)/\True)/\AtB f)/\Lt (S1 f.1 f.2).length 140737488355329/\∃(X:(Bz)),let v:=(R8 X).1.e;((S1 f.1 f.2=X/\True)/\RdB X)/\(((R8 X).2 !=0)=false->Ri ((z:Int)+1))/\br ((R8 X).2 !=0||(R8 X).1.l !=(z:Int)+1|| !V6 v (lgE d z) ep) q ((Le x.1 (zB d z).length/\U8 x.1 1 96)/\Ri (r+1)/\∃(y:V5 (d.E.length-9) (lgB d ep)),((ep=ep/\(0=0/\0=0)/\(0=0/\z+1=y.1)/\v=lgE d y.1/\r+1=(↑(9+y.1):Int)/\True)/\u/\(z+1=(zB d y.1).length/\Z7 (z+1) (X4 (Y1 (zB d z)) x.1 λ(k:Nat)=>List.take 10 (List.drop (k*10) [Ji v,Ji (R8 X).1.l,Ji (R8 X).1.t,Ji (R8 X).1.k,Ji (R8 X).1.p,Ji (R8 X).1.n,Ji (R8 X).1.g,Ji (R8 X).1.s,T.str (R8 X).1.b,T.str (R8 X).1.a])) (Y1 (zB d y.1)))/\True)/\Lt (d.E.length-y.1) (d.E.length-z))) q) ⟨⟨F4,Z8,Z8,⟨(yB d 0).symm,P1⟩,Z6⟩,λx=>⟨λhc=>?_,λhc=>?_⟩⟩,rfl,qG _⟩
 ·have hc:9+x.1<d.E.length:=by have:=G7 hc;omega
  have i:=lW hd hc;have hx:=yB d x.1;refine⟨(d,9+x.1),⟨Z8,hc,X5⟩,J8,S1 d (9+x.1),⟨Z8,by show(S1 d (9+x.1)).length<=1000;omega⟩,λ_=>Z4 Z9,λhb=>?_,λhb=>?_⟩
  ·have hb:lgB d ep x.1=true:=hb;rw[b8a Z9 hb x.2.2]
   exact Z8
  ·have hb:lgB d ep x.1=false:=hb;refine⟨⟨by rw[hx];exact U9 _,R0⟩,Z4 Z9,x.succ Z9 hb,⟨⟨rfl,Z8,Z8,?_,by dsimp only[V5.succ];omega,Z6⟩,⟨rfl,rfl,eqD _⟩,⟨(yB d (x.1+1)).symm,?_⟩,Z6⟩,by unfold Lt;dsimp only[V5.succ];omega⟩
   ·dsimp only[V5.succ];unfold lgE;rw[if_neg Z9]
    rfl
   ·show Z7 _ _ (Y1 (zB d (x.1+1)));rw[a4m];have:=hJ (zB d x.1) (lgR d x.1).1;rw[hx] at this;exact this
 ·have hx:x.1=d.E.length-9:=by have:=x.2.1;have:=r9 hc;omega
  rw[b1n hx x.2.2];exact Z8
def c8g{r:Bz}(R:0<r.length):(∃out,Q3 r=some out/\out.length=2/\U1 r false=⟨[],false,out⟩)∨((∀out,Q3 r=some out->out.length≠2)/\(!(!(U1 r false).fl&&(U1 r false).l.isEmpty)||(((U1 r false).out.length:Nat):Int) !=2)=true):=by
 have d:=b5E r R (C2 r);have n:(numR r).toNat=C2 r:=by unfold numR C2;exact E3 _
 have e:U1 r false=F2 r false (C2 r):=by unfold U1;rw[n]
 have hall:Q3 r=if C2 r>100 then none else match xK r (C2 r) with
   |some (p,out)=>if p=r.length then some out else none
   |none=>none:=by
  unfold Q3;by_cases hc:C2 r>100
  ·rw[if_pos (.inr hc),if_pos hc]
  ·rw[if_neg Z9,if_neg hc]
   rfl
 rw[e];cases f:xK r (C2 r) with
 |none=>
  rw[f] at d hall;simp only at d;have hall:Q3 r=none:=by rw[hall];split<;>rfl
  refine .inr ⟨λout h=>(by rw[hall] at h;cases h),?_⟩
  rw[d];rfl
 |some y=>
  obtain⟨p,out⟩:=y;rw[f] at d hall;simp only at d hall;obtain⟨d,L⟩:=d;rw[d];have O:out.length=C2 r:=fO f;by_cases hp:p=r.length
  ·have hem:r.drop p=[]:=by rw[List.drop_eq_nil_iff];omega
   rw[if_pos hp] at hall;by_cases g:out.length=2
   ·rw[if_neg Z9] at hall
    exact .inl ⟨out,hall,g,by rw[hem]⟩
   ·refine .inr ⟨λo h=>?_,?_⟩
    ·rw[hall] at h;split at h
     ·cases h
     ·cases h;exact g
    ·simp only[bne_iff_ne.2 (show((out.length:Nat):Int)≠2 by omega),Bool.or_true]
  ·have hem:(r.drop p).isEmpty=false:=by
    rw[Bool.eq_false_iff,ne_eq,List.isEmpty_iff,List.drop_eq_nil_iff];omega
   have hall:Q3 r=none:=by rw[hall,if_neg hp];split<;>rfl
   refine .inr ⟨λout h=>(by rw[hall] at h;cases h),?_⟩
   simp[hem]
def mW(x:Bz):∀i,dr x i=x.drop i
 |0=>rfl
 |i+1=>by
  show(dr x i).drop 1=_;rw[mW x i,List.drop_drop]
def a1w(x:Bz):∀i,sL x i=decide (x.length<i)
 |0=>rfl
 |i+1=>by
  show(sL x i||(dr x i).isEmpty)=_;rw[a1w x i,mW,Bool.eq_iff_iff,nT,o8,List.isEmpty_iff,List.drop_eq_nil_iff,o8];omega
def b38{x:Bz}(h:x.length<10):o7 x=true:=by
 have f:(rcE x).fl=true:=by
  unfold rcE;rw[mW,a1w];by_cases d:x.length=9
  ·rw[List.drop_eq_nil_iff.2 Z9]
   exact a7y _ _
  ·rw[mO Z9]
   exact a18 _ _
 unfold o7;rw[f];rfl
def wL(t:Bz):{r:Bz×Bool//r=(X1 t,S0 t)}:=Classical.choice ⟨⟨_,rfl⟩⟩
def a1p:Con:=.rel ⟨Bz,λt=>[.str t],λt=>.tup [.str (wL t).1.1,.bool (wL t).1.2],v5⟩
def bK:GK 217 a1p:=gk func217<|by
 intro(t:Bz) ht;have h:=mX.1 t ht;have d:(wL t).1.1=X1 t:=by rw[(wL t).2]
 have e:(wL t).1.2=S0 t:=by rw[(wL t).2]
 show V4 _ _ _ (.tup [.str (wL t).1.1,.bool (wL t).1.2]);rw[d,e];exact h
def bJ(t:Bz):{r:List (Bz)×Bool//r=((Q3 t).getD [],(Q3 t).isSome)}:=Classical.choice ⟨⟨_,rfl⟩⟩
def a8n:Con:=.rel ⟨Bz,λt=>[.str t],λt=>.tup [u2 (bJ t).1.1,.bool (bJ t).1.2],v5⟩
def a5U:GK 298 a8n:=gk func298<|by
 intro(t:Bz) ht;have h:=fJ.1 t ht;have d:(bJ t).1.1=(Q3 t).getD []:=by rw[(bJ t).2]
 have e:(bJ t).1.2=(Q3 t).isSome:=by rw[(bJ t).2]
 show V4 _ _ _ (.tup [u2 (bJ t).1.1,.bool (bJ t).1.2]);rw[d,e];exact h
def l4p(t:Bz):{r:Rec×Bool//r=(if S0 t=true/\o7 (X1 t)=false then rcX (X1 t) else a1z,(R8 t).2==0)}:=Classical.choice ⟨⟨_,rfl⟩⟩
def x9(t:Bz):Rec:=(l4p t).1.1
def l4k(t:Bz):Bool:=(l4p t).1.2
def b8i(t:Bz):x9 t=if S0 t=true/\o7 (X1 t)=false then rcX (X1 t) else a1z:=by unfold x9;rw[(l4p t).2]
def a6B(t:Bz):l4k t=((R8 t).2==0):=by unfold l4k;rw[(l4p t).2]
def b3g:Con:=.rel ⟨Bz,λt=>[.str t],λt=>.tup [.agg (x9 t).ts,.bool (l4k t)],RdB⟩
def b95{x:Bz}(h:10<=x.length):rcE x=U1 (x.drop 9) false:=by
 unfold rcE;rw[mW,a1w,tQ Z9]
def c6i(x:Bz)(i:Nat):IntKind.i64.wrap ((x.getD i 0).toNat:Int)=numR (dr x i):=by
 rw[uN,mW];unfold numR;rw[P4,P4,List.getElem?_drop,Nat.add_zero]
def b8h{t:Bz}(h:¬ (S0 t=true/\o7 (X1 t)=false)):x9 t=a1z/\l4k t=false:=by
 rw[b8i,a6B,if_neg h];refine⟨rfl,?_⟩
 cases u:S0 t with
 |false=>rw[c40 u];rfl
 |true=>
  cases B:o7 (X1 t) with
  |true=>rw[b7Q u B];rfl
  |false=>exact absurd ⟨u,B⟩ h
def a8J{t:Bz}(h:S0 t=true)(B:o7 (X1 t)=false):x9 t=rcX (X1 t)/\l4k t=O9 (rcX (X1 t)):=by
 rw[b8i,a6B,if_pos ⟨h,B⟩];refine⟨rfl,?_⟩
 cases r:O9 (rcX (X1 t)) with
 |true=>rw[a81 h B r];rfl
 |false=>rw[b6X h B r];rfl
def c5K(t:Bz):(X1 t).length<=t.length:=by
 unfold X1;split
 ·rw[List.length_take];omega
 ·exact N4 _
def a5V:GK 218 b3g:=gk func218<|by
 intro(t:Bz) (hb:t.length<=1000);have v:=c5K t;have o:(wL t).1.1=X1 t:=by rw[(wL t).2]
 have u:(wL t).1.2=S0 t:=by rw[(wL t).2]
 have z:∀{p:Bool},(¬ (S0 t=true/\o7 (X1 t)=false))->((0:Int)=(x9 t).e/\(0:Int)=(x9 t).l/\(0:Int)=(x9 t).t/\(0:Int)=(x9 t).k/\(0:Int)=(x9 t).p/\(0:Int)=(x9 t).n/\(0:Int)=(x9 t).g/\(0:Int)=(x9 t).s/\[]=(x9 t).b/\[]=(x9 t).a/\True)/\false=l4k t/\True:=λh=>by
  rw[(b8h h).1,(b8h h).2];exact Z8
 refine U5 (gC bK (gC a5U (gC lS gN))) func218 Z3 (α:=let u:=(0:UInt8);let z:=((0=(x9 t).e/\0=(x9 t).l/\0=(x9 t).t/\0=(x9 t).k/\0=(x9 t).p/\0=(x9 t).n/\0=(x9 t).g/\0=(x9 t).s/\[]=(x9 t).b/\[]=(x9 t).a/\True)/\false=l4k t/\True);∃(x:(Bz)),let r:=(wL x).val.fst.length;let q:=(wL x).val.fst.getD;let pa:=(↑(q 8 u).toNat:Int);let i:=(↑(q 7 u).toNat:Int);let d:=(↑(q 6 u).toNat:Int);let c:=(↑(q 5 u).toNat:Int);let f:=(↑(q 4 u).toNat:Int);let m:=(↑(q 3 u).toNat:Int);let j:=(↑(q 2 u).toNat:Int);let w:=(↑(q 1 u).toNat:Int);((t=x/\True)/\v5 x)/\((!(wL x).val.snd||decide ((↑r:Int)<10))=false->W9 (0:Int) r)/\br (!(wL x).val.snd||decide ((↑r:Int)<10)||(↑(q 0 u).toNat:Int) !=108) z (jX (9:Int) r/\∃(X:(Bz)),let y:=(bJ X).val.fst.length;let v:=(bJ X).val.fst.getD;((List.drop 9 (wL x).val.fst=X/\True)/\v5 X)/\br (!(bJ X).val.snd||(↑y:Int) !=2) z (W9 (1:Int) r/\W9 (2:Int) r/\W9 (3:Int) r/\W9 (4:Int) r/\W9 (5:Int) r/\W9 (6:Int) r/\W9 (7:Int) r/\W9 (8:Int) r/\W9 (0:Int) y/\W9 (1:Int) y/\L9 (v 1 []).length/\(IntKind.i64.wrap w=(x9 t).e/\IntKind.i64.wrap j=(x9 t).l/\IntKind.i64.wrap m=(x9 t).t/\IntKind.i64.wrap f=(x9 t).k/\IntKind.i64.wrap c=(x9 t).p/\IntKind.i64.wrap d=(x9 t).n/\IntKind.i64.wrap i=(x9 t).g/\IntKind.i64.wrap pa=(x9 t).s/\v 0 []=(x9 t).b/\v 1 []=(x9 t).a/\True)/\O9 (Rec.mk (IntKind.i64.wrap w) (IntKind.i64.wrap j) (IntKind.i64.wrap m) (IntKind.i64.wrap f) (IntKind.i64.wrap c) (IntKind.i64.wrap d) (IntKind.i64.wrap i) (IntKind.i64.wrap pa) (v 0 []) (v 1 []))=l4k t/\True))) ⟨t,⟨Z8,a0W⟩,?_⟩
 rw[o,u];refine⟨λh=>?_,λh=>z (p:=true) λq=>?_,λh=>?_⟩
 ·simp only[wS,uH] at h;exact⟨Z9,Z9⟩
 ·obtain⟨hu,R⟩:=q;have hl:10<=(X1 t).length:=by
   by_cases hl:(X1 t).length<10
   ·rw[b38 hl] at R;cases R
   ·omega
  have h108:numR (X1 t)=108:=by
   unfold o7 at R;simp only[wS,bne_eq_false_iff_eq] at R;exact R.1.2
  have h108:(((X1 t).getD 0 0).toNat:Int)=108:=h108;rw[hu,h108,tQ Z9] at h
  cases h
 ·simp only[wS,uH,wU,bne_eq_false_iff_eq] at h;obtain⟨⟨hu,hl⟩,h108⟩:=h;have hl:10<=(X1 t).length:=by omega
  have N:numR (X1 t)=108:=h108;have j:(bJ ((X1 t).drop 9)).1.1=(Q3 ((X1 t).drop 9)).getD []:=by rw[(bJ _).2]
  have F:(bJ ((X1 t).drop 9)).1.2=(Q3 ((X1 t).drop 9)).isSome:=by rw[(bJ _).2]
  have hd:((X1 t).drop 9).length=(X1 t).length-9:=List.length_drop;refine⟨⟨Z9,Z9⟩,(X1 t).drop 9,⟨Z8,a0W⟩,?_⟩
  rw[j,F];have hbad:o7 (X1 t)=(!(!(U1 ((X1 t).drop 9) false).fl&&(U1 ((X1 t).drop 9) false).l.isEmpty)||(((U1 ((X1 t).drop 9) false).out.length:Nat):Int) !=2):=by
   unfold o7;rw[b95 hl,N];simp
  rcases c8g (r:=(X1 t).drop 9) Z9 with⟨out,A,h2,hf⟩|⟨A,hf⟩
  ·have hg:o7 (X1 t)=false:=by rw[hbad,hf,h2];rfl
   have d:(rcE (X1 t)).out=out:=by rw[b95 hl,hf]
   have f:=b9m (dr (X1 t) 9) (sL (X1 t) 9) (numR (dr (X1 t) 9)).toNat 1;have f:(out.getD 1 []).length<=255:=by rw[←d];exact f
   rw[A];refine⟨λC=>?_,λ_=>?_⟩
   ·simp[h2] at C
   ·simp only[c6i];rw[(a8J hu hg).1,(a8J hu hg).2];unfold rcX;rw[d];show _/\_/\_/\_/\_/\_/\_/\_/\W9 0 out.length/\W9 1 out.length/\_;exact⟨⟨Z9,Z9⟩,⟨Z9,Z9⟩,⟨Z9,Z9⟩,⟨Z9,Z9⟩,⟨Z9,Z9⟩,⟨Z9,Z9⟩,⟨Z9,Z9⟩,⟨Z9,Z9⟩,⟨Z9,Z9⟩,⟨Z9,Z9⟩,by show(out.getD 1 []).length<_;omega,⟨rfl,rfl,rfl,rfl,rfl,rfl,rfl,rfl,rfl,rfl,Z6⟩,rfl,Z6⟩
  ·have hg:o7 (X1 t)=true:=by rw[hbad];exact hf
   refine⟨λ_=>z (p:=true) λq=>(by rw[hg] at q;cases q.2),λC=>?_⟩
   cases i:Q3 ((X1 t).drop 9) with
   |none=>rw[i] at C;simp at C
   |some out=>
    rw[i] at C;have:=A out i;simp at C;omega
def b74:Con:=.rel ⟨Dsk×Int,λx=>[.agg x.1.ts,Ji x.2],λx=>zE (zB x.1 (nP x.1 x.2)),λx=>G0 x.1/\x.1.E.length=69⟩
def b7m(d:Dsk)(ep:Int):Nat->Ann
 |0=>.one (V5 (d.E.length-9) (lgB d ep)) (λx=>⟨[(1,Ji ep),(2,.ref 0 0 0),(5,.osl 1 0 x.1),(6,Ji (x.1+1:Nat))],[dD d,j6 (zB d x.1)]⟩) (λx=>d.E.length-x.1) b5o b7V (λ_=>Z3)
 |_=>.none
def c8t{t:Bz}(h:l4k t=true):R8 t=(x9 t,0)/\O9 (x9 t)=true:=by
 by_cases q:S0 t=true/\o7 (X1 t)=false
 ·obtain⟨d,e⟩:=a8J q.1 q.2;rw[e] at h;rw[d];exact⟨a81 q.1 q.2 h,h⟩
 ·rw[(b8h q).2] at h;cases h
def c8I{r:Rec}(h:O9 r=true):1<=r.e:=by
 have:=(Q4 r).1 h;unfold zG at this;exact this.1
def b0s{d:Dsk}{ep:Int}{x:Nat}:(!l4k (S1 d (9+x))||(x9 (S1 d (9+x))).l !=((x+1:Nat):Int)||decide ((x9 (S1 d (9+x))).e>ep)||decide (((x+1:Nat):Int)>1)&&decide (((zB d x).getD (0+(((x+1:Nat):Int)-2).toNat) dz).e>(x9 (S1 d (9+x))).e))=lgB d ep x:=by
 cases f:l4k (S1 d (9+x)) with
 |false=>
  have g:((lgR d x).2==0)=false:=by rw[←f,a6B];rfl
  unfold lgB bne;rw[g];rfl
 |true=>
  obtain⟨h,o⟩:=c8t f;have i:=c8I o;have h:lgR d x=(x9 (S1 d (9+x)),0):=h;unfold lgB;rw[h];by_cases hx:x=0
  ·subst hx;have h1:lgE d 0=1:=by unfold lgE;rw[if_pos rfl]
   rw[h1];simp only[Bool.not_true,Bool.false_or,bne_self_eq_false];rw[Bool.eq_iff_iff];simp only[nT,J5,vZ,←Bool.not_eq_true,bne_iff_ne,o8,ne_eq,K5];omega
  ·have L:(zB d x).getD (0+(((x+1:Nat):Int)-2).toNat) dz=(lgR d (x-1)).1:=by
    rw[show 0+(((x+1:Nat):Int)-2).toNat=x-1 by omega]
    exact c6A d Z9
   rw[L];simp only[Bool.not_true,Bool.false_or,bne_self_eq_false];rw[Bool.eq_iff_iff];simp only[lgE,if_neg hx,nT,J5,vZ,←Bool.not_eq_true,bne_iff_ne,o8,ne_eq,K5];omega
def b35:GK 130 b74:=gk func130<|by
 rintro⟨d,ep⟩ ⟨hd,j⟩;dsimp only at hd j;refine U5 (gC dN (gC a5V (gC P6 gN))) func130 (b7m d ep) (α:=let w:=(1=1/\1=1/\zJ d d);(∃(x:V5 (d.E.length-9) (lgB d ep)),(ep=ep/\(0=0/\0=0)/\(0=0/\0=x.1)/\1=(↑(x.1+1):Int)/\True)/\w/\(0=(zB d x.1).length/\Z7 0 (λ(k:Nat)=>List.take 10 (List.drop (k*10) [])) (Y1 (zB d x.1)))/\True)/\∀(x:V5 (d.E.length-9) (lgB d ep)),let v:=x.1;let u:=(zB d v);let r:=(Le (0+v) u.length/\v=(zB d (nP d ep)).length/\Z7 x.1 (Y1 u) (Y1 (zB d (nP d ep))));let q:=(↑(v+1):Int);(decide (q<=60)=true->Ri (9+q))/\(decide (q<=60)=true->Ri (9+q-1))/\br (decide (q<=60)&&decide (9+q-1<(d.E.length:Int))) (Ri (9+q)/\Ri (9+q-1)/\∃(f:oF.ι),(((zJ d f.1)/\9+q-1=(f.2:Int)/\True)/\AtB f)/\∃(X:(Bz)),let z:=(!l4k X||(x9 X).l !=q||decide ((x9 X).e>ep));((S1 f.1 f.2=X/\True)/\RdB X)/\(z=false->decide (q>1)=true->Ri (q-2))/\(z=false->decide (q>1)=true->W9 (q-2) v)/\(z=false->decide (q>1)=true->Lt (0+(q-2).toNat) u.length)/\br (!l4k X||(x9 X).l !=q||decide ((x9 X).e>ep)||decide (q>1)&&decide ((u.getD (0+(q-2).toNat) dz).e>(x9 X).e)) r ((Le x.1 u.length/\U8 x.1 1 96)/\Ri (q+1)/\∃(y:V5 (d.E.length-9) (lgB d ep)),((ep=ep/\(0=0/\0=0)/\(0=0/\v+1=y.1)/\q+1=(↑(y.1+1):Int)/\True)/\w/\(v+1=(zB d y.1).length/\Z7 (v+1) (X4 (Y1 u) x.1 λ(k:Nat)=>List.take 10 (List.drop (k*10) [Ji (x9 X).e,Ji (x9 X).l,Ji (x9 X).t,Ji (x9 X).k,Ji (x9 X).p,Ji (x9 X).n,Ji (x9 X).g,Ji (x9 X).s,T.str (x9 X).b,T.str (x9 X).a])) (Y1 (zB d y.1)))/\True)/\Lt (d.E.length-y.1) (d.E.length-v))) r) ⟨⟨F4,Z8,Z8,⟨(yB d 0).symm,P1⟩,Z6⟩,λx=>?_⟩
 have L:=x.2.1;have C:=hd.2.2.1;have i:=yB d x.1;refine⟨λ_=>Z4 Z9,λ_=>Z4 Z9,λhc=>?_,λhc=>?_⟩
 ·have hc:9+x.1<d.E.length:=by
   simp only[J5,o8] at hc;omega
  have u:=lW hd hc;refine⟨Z4 Z9,Z4 Z9,(d,9+x.1),⟨⟨eqD _,X5,Z6⟩,hc,X5⟩,S1 d (9+x.1),⟨Z8,by show(S1 d (9+x.1)).length<=1000;omega⟩,λ_ h=>Z4 Z9,λ_ h=>?_,λ_ h=>?_,?_⟩
  ·have:=G7 h;exact⟨Z9,Z9⟩
  ·have:=G7 h;unfold Lt;omega
  rw[b0s (d:=d) (ep:=ep)];refine⟨λhb=>?_,λhb=>?_⟩
  ·rw[b8a Z9 hb x.2.2]
   exact⟨K0,i.symm,X6 _ _⟩
  ·refine⟨⟨K0,R0⟩,Z4 Z9,x.succ Z9 hb,⟨⟨rfl,Z8,Z8,by dsimp only[V5.succ];omega,Z6⟩,⟨rfl,rfl,eqD _⟩,⟨(yB d (x.1+1)).symm,?_⟩,Z6⟩,by unfold Lt;dsimp only[V5.succ];omega⟩
   show Z7 _ _ (Y1 (zB d (x.1+1)));have o:=hJ (zB d x.1) (lgR d x.1).1;have q:l4k (S1 d (9+x.1))=true:=by
    rw[←b0s] at hb;simp only[wS,wU] at hb;exact hb.1.1.1
   have r:(lgR d x.1).1=x9 (S1 d (9+x.1)):=by
    show(R8 (S1 d (9+x.1))).1=_;rw[(c8t q).1]
   rw[a4m,r];rw[i,r] at o;exact o
 ·have Q:x.1=d.E.length-9:=by
   by_cases N:x.1=d.E.length-9
   ·exact N
   ·rw[mO (show((x.1+1:Nat):Int)<=60 by omega),mO (show(9:Int)+((x.1+1:Nat):Int)-1<(d.E.length:Int) by omega)] at hc
    cases hc
  rw[b1n Q x.2.2];exact⟨K0,i.symm,X6 _ _⟩
def j8(e:Eng):Eng:=⟨⟨e.s.d,e.s.ep,zB e.s.d (nP e.s.d e.s.ep),(nP e.s.d e.s.ep:Nat),[],0⟩,false,[],⟨[],[]⟩,e.N⟩
def c5T:Con:=.reff ⟨Eng×Nat,λx=>[.ref 0 0 0],λx=>x.1.bx x.2,λ_=>.int .i64 15,λx=>(j8 x.1).nx 0,λx=>G0 x.1.s.d⟩
def a97:GK 97 c5T:=gk func97<|by
 rintro⟨e,v⟩ (hd:G0 e.s.d);have h:=(yB e.s.d (nP e.s.d e.s.ep)).symm;exact C6 (gC a9j gN) func97 Z3 [[.nilC 0 7 0 5,.fac 0 7,.nilC 0 10 0 2,.nilC 0 11 0 4,.nilC 0 12 0 2,.box 0,.arr 1,.arr 2,.arr 3,.arr 4,.arr 5,.arr 6,.arr 7,.arr 8,.cel 0 0,.cel 0 1,.cel 0 3,.cel 0 5,.cel 0 7,.cel 0 10,.cel 0 11,.cel 0 12]] (α:=let r:=(0=0/\0=0);let q:=(nP e.s.d e.s.ep);∃(x:(Dsk×Int)),let p:=(λ(x:Nat)=>[]);((Le (0+e.s.d.E.length) e.s.d.E.length/\Le (0+e.s.d.C.length) e.s.d.C.length/\Le (0+e.s.d.keep.length) e.s.d.keep.length)/\((zJ e.s.d x.1)/\e.s.ep=x.2/\True)/\LgS x)/\((15:Int)=15/\True)/\(1=1/\1=1/\(0=0/\e.s.d.E.length=e.s.d.E.length)/\(0=0/\e.s.d.C.length=e.s.d.C.length)/\e.s.d.A=e.s.d.A/\(0=0/\e.s.d.keep.length=e.s.d.keep.length)/\e.s.ep=e.s.ep/\(0=0/\nP x.1 x.2=(zB e.s.d q).length)/\(↑(nP x.1 x.2):Int)=(↑q:Int)/\r/\(0:Int)=0/\false=false/\r/\r/\r/\e.N=e.N/\True)/\True/\True/\True/\True/\True/\True/\True/\True/\(Z0 Z5 e.s.d.E e.s.d.E)/\(Z0 Z1 e.s.d.C e.s.d.C)/\(Z0 Y9 e.s.d.keep e.s.d.keep)/\(Z0 Y1 (zB x.1 (nP x.1 x.2)) (zB e.s.d q))/\(0=0/\0=0/\V2 0 p (Y5 []))/\(0=0/\Z7 0 p (X2 []))/\(0=0/\Z7 0 p (Z2 []))/\(0=0/\Z7 0 p (Y7 []))/\True) ⟨(e.s.d,e.s.ep),⟨Z8,Z8,hd⟩,Z8,⟨rfl,rfl,Z8,Z8,rfl,Z8,rfl,⟨rfl,h⟩,Z8⟩,Z6,Z6,Z6,Z6,Z6,Z6,Z6,Z6,Z8,Z8,Z8,Z8,⟨rfl,rfl,λi hi=>absurd hi (D2 _)⟩,⟨rfl,P1⟩,⟨rfl,P1⟩,⟨rfl,P1⟩,Z6⟩
def sdE(e:Eng)(d:Dsk):Eng:={e with s:=e.s.sd d}
def b6Y(sec:List (Bz))(C:List Pend)(Q:Nat->Bool)(h:∀i,i<sec.length->(sec.getD i []).length<=160)(e:∀i,i<C.length->(C.getD i dz).d.length<=160):∀n,n<=C.length->∀i,i<sec.length->((zQ sec C Q n).getD i []).length<=160
 |0,_,i,hi=>h i hi
 |n+1,hn,i,hi=>by
  unfold zQ;have I:=b6Y sec C Q h e n Z9 i hi
  split
  ·by_cases hj:i=(C.getD n dz).at_.toNat
   ·subst hj;rw[P4,j_j (by rw[A8];exact hi)]
    exact e n Z9
   ·rw[P4,j_k (Ne.symm hj),←P4]
    exact I
  ·exact I
def a4q{m:Nat}{p:Pend}(h:P3 m p=false):0<=p.at_/\p.at_<m/\p.d.length<=160:=by
 unfold P3 at h;simp only[wS,wU,K5,uH] at h;omega
def lX{n:Nat}{p:Nat->Bool}(h:¬S6 n p<0):∃i,i<n/\p i=true/\(∀j,j<i->p j=false)/\S6 n p=(i:Int):=by
 cases A:anyI n p with
 |false=>exact absurd (by rw[K2 (P5.1 A)];omega) h
 |true=>
  obtain⟨i,hi,hp⟩:=R9.1 A;have key:∀m,m<=n->(∀j,j<m->p j=false)∨∃i,i<n/\p i=true/\(∀j,j<i->p j=false):=by
   intro m;induction m with
   |zero=>intro _;exact .inl λj J=>absurd J (D2 j)
   |succ m I=>
    intro d;rcases I Z9 with h0|h0
    ·cases hq:p m with
     |true=>exact .inr ⟨m,d,hq,h0⟩
     |false=>
      refine .inl λj J=>?_
      by_cases M:j=m
      ·rw[M];exact hq
      ·exact h0 j Z9
    ·exact .inr h0
  rcases key n (U9 n) with h0|⟨k,hk,hpk,hn⟩
  ·rw[h0 i hi] at hp;cases hp
  ·exact⟨k,hk,hpk,hn,N9 hk hpk hn⟩
def c62(d:Dsk)(ep:Int):nP d ep<=d.E.length-9:=by
 unfold nP;split
 ·exact U9 _
 ·rename_i h;by_cases hn:S6 (d.E.length-9) (lgB d ep)<0
  ·omega
  ·obtain⟨i,hi,_,_,e⟩:=lX hn;omega
def b3K:Con:=.rel ⟨Eng×Dsk,λx=>[.agg x.1.ts,.agg x.2.ts],λx=>.agg (j8 (sdE x.1 x.2)).ts,λx=>G0 x.2/\x.2.E.length=69⟩
def oG:GK 80 b3K:=gk func80<|by
 rintro⟨e,d⟩ ⟨h,f⟩;dsimp only at h f;exact U5 (gC b35 (gC P6 (gC b0g gN))) func80 Z3 (α:=∃(x:(Dsk×Int)),let p:=(zB x.1 (nP x.1 x.2));(((zJ d x.1)/\e.s.ep=x.2/\True)/\G0 x.1/\x.1.E.length=69)/\(Z0 Z5 d.E d.E)/\(Z0 Z1 d.C d.C)/\d.A=d.A/\(Z0 Y9 d.keep d.keep)/\e.s.ep=e.s.ep/\(Z0 Y1 p (zB d (nP d e.s.ep)))/\(↑p.length:Int)=(↑(nP d e.s.ep):Int)/\0=0/\(0:Int)=0/\false=false/\0=0/\0=0/\0=0/\e.N=e.N/\True) ⟨(d,e.s.ep),⟨Z8,h,f⟩,Z8,Z8,rfl,Z8,rfl,Z8,congrArg _ (yB _ _),Z8⟩
def X8{α:Type}[Inhabited α](f:α->Bool)(L:List α):Nat->List α
 |0=>[]
 |i+1=>if f (L.getD i dz)=true then X8 f L i++[L.getD i dz] else X8 f L i
def hF(tx:Int)(x:Lck):Bool:=x.tx !=tx
def wF(tx:Int)(w:Wt):Bool:=w.tx !=tx&&w.fo !=tx
def frK(l:Lks)(tx:Int):Lks:=⟨X8 (hF tx) l.H l.H.length,X8 (wF tx) l.W l.W.length⟩
def b3e:Con:=.rel ⟨Lks×Int,λx=>[.agg x.1.ts,Ji x.2],λx=>.agg (frK x.1 x.2).ts,λx=>x.1.H.length<=1000000/\x.1.W.length<=1000000⟩
def lkB(l:Lks):Option Ob:=some (.arr true 1000000 2 1 λ_=>l.ts)
def lkO(a n b m:Nat):Option Ob:=some (.arr false 1000000 2 1 λ_=>[.osl a 0 n,.osl b 0 m])
def b2j(l:Lks)(tx:Int):Nat->Ann
 |1=>.one (Up l.W.length) (λx=>⟨[(1,Ji tx),(2,.ref 0 0 0),(4,.ref 1 0 0),(5,.ref 2 0 0),(7,Ji x.1)],[lkB l,lkB ⟨[],[]⟩,lkO 3 (frK l tx).H.length 4 (X8 (wF tx) l.W x.1).length,yY (frK l tx).H,sU (X8 (wF tx) l.W x.1)]⟩) (λx=>l.W.length-x.1) b7n b7n (λ_=>Z3)
 |2=>.one (Up l.W.length) (λx=>⟨[(1,Ji tx),(2,.ref 0 0 0),(4,.ref 1 0 0),(5,.ref 2 0 0),(7,Ji x.1)],[lkB l,lkB ⟨[],[]⟩,lkO 3 (frK l tx).H.length 4 (X8 (wF tx) l.W x.1).length,yY (frK l tx).H,sU (X8 (wF tx) l.W x.1)]⟩) (λx=>l.W.length-x.1) b7n b7n (λ_=>Z3)
 |_=>.none
def b1G(l:Lks)(tx:Int):Nat->Ann
 |0=>.one (Up l.H.length) (λx=>⟨[(1,Ji tx),(2,.ref 0 0 0),(4,.ref 1 0 0),(5,.ref 2 0 0),(6,Ji x.1)],[lkB l,lkB ⟨[],[]⟩,lkO 3 (X8 (hF tx) l.H x.1).length 4 0,yY (X8 (hF tx) l.H x.1),sU []]⟩) (λx=>l.H.length-x.1) [.box 0,.box 1,.box 4,.arr 2,.arr 3] b7n (λ_=>b2j l tx)
 |_=>.none
def zV{α:Type}[Inhabited α](f:α->List T)(n:Nat)(F:∀a,(f a).length=n)(L:List α)(x:α):Z7 (L.length+1) (X4 (λi=>f (L.getD i dz)) L.length λk=>List.take n (List.drop (k*n) (f x))) (λi=>f ((L++[x]).getD i dz)):=by
 intro i hi;unfold X4;by_cases h:i<L.length
 ·rw[rX h];dsimp only;rw[P4,P4,rL h]
 ·have:i=L.length:=by omega
  subst this;rw[mH h];dsimp only;have:(L++[x]).getD L.length dz=x:=by rw[P4,qA (U9 _)];simp
  rw[this,j_h,Nat.zero_mul,List.drop_zero,List.take_of_length_le (by rw[F];exact U9 _)]
def aG{α:Type}[Inhabited α]{f:α->Bool}{L:List α}{i:Nat}(h:f (L.getD i dz)=true):X8 f L (i+1)=X8 f L i++[L.getD i dz]:=by
 conv=>lhs;unfold X8
 rw[if_pos h]
def pR{α:Type}[Inhabited α]{f:α->Bool}{L:List α}{i:Nat}(h:f (L.getD i dz)=false):X8 f L (i+1)=X8 f L i:=by
 conv=>lhs;unfold X8
 rw[if_neg cY]
def q7{α:Type}[Inhabited α](f:α->Bool)(L:List α):∀i,(X8 f L i).length<=i
 |0=>U9 _
 |i+1=>by
  have:=q7 f L i;unfold X8;split
  ·rw[F9,List.length_singleton];omega
  ·omega
def rE{α:Type}[Inhabited α]{f:α->Bool}{L:List α}{i:Nat}(h:f (L.getD i dz)=true):(X8 f L i).length+1=(X8 f L (i+1)).length:=by
 rw[aG h,F9,List.length_singleton]
def a7T:GK 302 b3e:=gk func302<|by
 rintro⟨l,tx⟩ ⟨d,h⟩;dsimp only at d h;refine U5 (gC P6 gN) func302 (b1G l tx) (α:=let g:=(0=0/\Z7 0 (Y7 []) (Y7 []));let v:=(0=0/\0=0);let z:=(1=1/\1=1/\(Z0 Z2 l.H l.H)/\(Z0 Y7 l.W l.W)/\True);let q:=(1=1/\1=1/\(0=0/\Z7 0 (Z2 []) (Z2 []))/\g/\True);let p:=(X8 (hF tx) l.H l.H.length);let i:=p.length;(∃(x:Up l.H.length),let a:=(X8 (hF tx) l.H x.1);(tx=tx/\v/\v/\v/\0=(x.1:Int)/\True)/\z/\(1=1/\1=1/\0=0/\0=0/\True)/\(1=1/\1=1/\(0=0/\0=a.length)/\v/\True)/\(0=a.length/\Z7 0 (λ(k:Nat)=>List.take 4 (List.drop (k*4) [])) (Z2 a))/\(0=0/\Z7 0 (λ(k:Nat)=>List.take 2 (List.drop (k*2) [])) (Y7 []))/\True)/\∀(x:Up l.H.length),let n:=(x.1:Int);let w:=(l.H.getD n.toNat dz);let u:=(X8 (hF tx) l.H x.1);let t:=u.length;bd (n<(l.H.length:Int)) (W9 n l.H.length/\br (w.tx !=tx) (W9 n l.H.length/\(Le u.length t/\U8 u.length 1 32)/\Ri (n+1)/\∃(y:Up l.H.length),let b:=(X8 (hF tx) l.H y.1);((tx=tx/\v/\v/\v/\n+1=(y.1:Int)/\True)/\z/\q/\(1=1/\1=1/\(0=0/\t+1=b.length)/\v/\True)/\(t+1=b.length/\Z7 (t+1) (X4 (Z2 u) u.length λ(k:Nat)=>List.take 4 (List.drop (k*4) [Ji w.tx,Ji w.ta,Ji w.row,Ji w.mo])) (Z2 b))/\g/\True)/\Lt (l.H.length-y.1) (l.H.length-x.1)) (Ri (n+1)/\∃(y:Up l.H.length),let pa:=(X8 (hF tx) l.H y.1);((tx=tx/\v/\v/\v/\n+1=(y.1:Int)/\True)/\z/\q/\(1=1/\1=1/\(0=0/\t=pa.length)/\v/\True)/\(Z0 Z2 u pa)/\g/\True)/\Lt (l.H.length-y.1) (l.H.length-x.1))) ((∃(X:Up l.W.length),let c:=(X8 (wF tx) l.W X.val);(tx=tx/\v/\v/\v/\0=(X.val:Int)/\True)/\z/\q/\(1=1/\1=1/\(0=0/\t=i)/\(0=0/\0=c.length)/\True)/\(Z0 Z2 u p)/\(0=c.length/\Z7 0 (Y7 []) (Y7 c))/\True)/\∀(x:Up l.W.length),let f:=(X8 (wF tx) l.W x.1);let m:=(x.1:Int);let j:=(l.W.getD m.toNat dz);let r:=f.length;bd (m<(l.W.length:Int)) (W9 m l.W.length/\((j.tx !=tx)=true->W9 m l.W.length)/\br (j.tx !=tx&&j.fo !=tx) (W9 m l.W.length/\(Le r r/\U8 r 1 16)/\Ri (m+1)/\∃(y:Up l.W.length),let d:=(X8 (wF tx) l.W y.1);((tx=tx/\v/\v/\v/\m+1=(y.1:Int)/\True)/\z/\q/\(1=1/\1=1/\(0=0/\i=i)/\(0=0/\r+1=d.length)/\True)/\(Z0 Z2 p p)/\(r+1=d.length/\Z7 (r+1) (X4 (Y7 f) r λ(k:Nat)=>List.take 2 (List.drop (k*2) [Ji j.tx,Ji j.fo])) (Y7 d))/\True)/\Lt (l.W.length-y.1) (l.W.length-x.1)) (Ri (m+1)/\∃(y:Up l.W.length),let pb:=(X8 (wF tx) l.W y.1);((tx=tx/\v/\v/\v/\m+1=(y.1:Int)/\True)/\z/\q/\(1=1/\1=1/\(0=0/\i=i)/\(0=0/\r=pb.length)/\True)/\(Z0 Z2 p p)/\(Z0 Y7 f pb)/\True)/\Lt (l.W.length-y.1) (l.W.length-x.1))) ((Le (0+i) i/\Le (0+r) r)/\(Z0 Z2 p p)/\(Z0 Y7 f (X8 (wF tx) l.W l.W.length))/\True))) ⟨⟨⟨0,N4 _⟩,K8⟩,λx=>⟨λhc=>?_,λhc=>?_⟩⟩
 ·have hlt:=Y2 hc;have hle:=q7 (hF tx) l.H x.1;rw[E3];refine⟨Y6 hlt,λhq=>?_,λhq=>?_⟩
  ·have hn:=rE (f:=hF tx) hq;refine⟨Y6 hlt,⟨U9 _,R0⟩,Z4 Z9,⟨x.1+1,hlt⟩,⟨⟨rfl,Z8,Z8,Z8,X5,Z6⟩,Z8,⟨rfl,rfl,⟨rfl,P1⟩,⟨rfl,P1⟩,Z6⟩,⟨rfl,rfl,⟨rfl,hn⟩,Z8⟩,⟨hn,?_⟩,⟨rfl,P1⟩,Z6⟩,V5.ext_lt hlt⟩
   dsimp only;rw[aG (f:=hF tx) hq];exact zV Lck.ts 4 (λ_=>rfl) _ _
  ·have hn:=pR (f:=hF tx) hq;refine⟨Z4 Z9,⟨x.1+1,hlt⟩,?_,V5.ext_lt hlt⟩
   dsimp only;rw[hn];exact⟨⟨rfl,Z8,Z8,Z8,Z9,Z6⟩,Z8,⟨rfl,rfl,⟨rfl,P1⟩,⟨rfl,P1⟩,Z6⟩,Z8,Z8,⟨rfl,P1⟩,Z6⟩
 ·have hx:x.1=l.H.length:=by have:=x.2;have:=Y0 hc;omega
  rw[hx];refine⟨⟨⟨0,N4 _⟩,K8⟩,λy=>⟨λhc=>?_,λhc=>?_⟩⟩
  ·have hlt:=Y2 hc;have hle:=q7 (wF tx) l.W y.1;rw[E3];refine⟨Y6 hlt,λ_=>Y6 hlt,λhq=>?_,λhq=>?_⟩
   ·have hn:=rE (f:=wF tx) hq;refine⟨Y6 hlt,⟨U9 _,R0⟩,Z4 Z9,⟨y.1+1,hlt⟩,⟨⟨rfl,Z8,Z8,Z8,X5,Z6⟩,Z8,⟨rfl,rfl,⟨rfl,P1⟩,⟨rfl,P1⟩,Z6⟩,⟨rfl,rfl,Z8,⟨rfl,hn⟩,Z6⟩,Z8,⟨hn,?_⟩,Z6⟩,V5.ext_lt hlt⟩
    dsimp only;rw[aG (f:=wF tx) hq];exact zV Wt.ts 2 (λ_=>rfl) _ _
   ·have hn:=pR (f:=wF tx) hq;refine⟨Z4 Z9,⟨y.1+1,hlt⟩,?_,V5.ext_lt hlt⟩
    dsimp only;rw[hn];exact⟨⟨rfl,Z8,Z8,Z8,Z9,Z6⟩,Z8,⟨rfl,rfl,⟨rfl,P1⟩,⟨rfl,P1⟩,Z6⟩,Z8⟩
  ·have hy:y.1=l.W.length:=by have:=y.2;have:=Y0 hc;omega
   rw[hy];exact Z8
def b2h(e:Eng)(k:Nat):Eng:={e with X:=e.X.take k++e.X.drop (k+1),lk:=frK e.lk (e.X.getD k dz).id}
def b1x:Con:=.rel ⟨Eng×Nat,λx=>[.agg x.1.ts,Ji x.2],λx=>.agg (b2h x.1 x.2).ts,λx=>x.2<x.1.X.length/\x.1.X.length<=1000/\x.1.lk.H.length<=1000000/\x.1.lk.W.length<=1000000⟩
def b6d{L:List Txn}{k:Nat}(d:k<L.length):Z7 (k+(L.length- (k+1))) (X4 (X2 L) k λi=>(L.getD (k+1+i) dz).ts) (X2 (L.take k++L.drop (k+1))):=by
 intro i hi;have l:(L.take k).length=k:=by rw[List.length_take];omega
 unfold X4 X2;by_cases h:i<k
 ·rw[rX h];dsimp only;rw[P4,P4,rL Z9,List.getElem?_take_of_lt h]
 ·rw[mH h];dsimp only;rw[P4,P4,qA Z9,l,List.getElem?_drop]
def a8F:GK 224 b1x:=gk func224<|by
 rintro⟨e,k⟩ ⟨h,l,g,f⟩;dsimp only at h l g f;have j:((k:Nat):Int).toNat=k:=E3 k;have n:((k:Int)+1).toNat=k+1:=Z9
 refine U5 (gC a7T (gC P6 gN)) func224 Z3 (α:=W9 (k:Int) e.X.length/\∃(x:(Lks×Int)),((((Z0 Z2 e.lk.H x.1.H)/\(Z0 Y7 e.lk.W x.1.W)/\True)/\(e.X.getD (k:Int).toNat dz).id=x.2/\True)/\x.1.H.length<=1000000/\x.1.W.length<=1000000)/\jX (k:Int) e.X.length/\(Le 0 0/\U8 0 (k:Int).toNat 16)/\R2 .i64 ((k:Int)+(1:Int))/\jX ((k:Int)+(1:Int)) e.X.length/\(Le (0+(k:Int).toNat) (0+(k:Int).toNat)/\U8 (0+(k:Int).toNat) (e.X.length- ((k:Int)+(1:Int)).toNat) 16)/\Le (0+(0+(k:Int).toNat+(e.X.length- ((k:Int)+(1:Int)).toNat))) (0+(k:Int).toNat+(e.X.length- ((k:Int)+(1:Int)).toNat))/\(Z0 Z5 e.s.d.E e.s.d.E)/\(Z0 Z1 e.s.d.C e.s.d.C)/\e.s.d.A=e.s.d.A/\(Z0 Y9 e.s.d.keep e.s.d.keep)/\e.s.ep=e.s.ep/\(Z0 Y1 e.s.L e.s.L)/\e.s.S=e.s.S/\(Z0 V9 e.s.fr e.s.fr)/\e.s.J=e.s.J/\e.up=e.up/\(0+(k:Int).toNat+(e.X.length- ((k:Int)+(1:Int)).toNat)=(List.take k e.X++List.drop (k+1) e.X).length/\Z7 (0+(k:Int).toNat+(e.X.length- ((k:Int)+(1:Int)).toNat)) (X4 (X4 (λ(k:Nat)=>List.take 2 (List.drop (k*2) [])) 0 (X2 e.X)) (0+(k:Int).toNat) λ(i:Nat)=>[Ji (e.X.getD (((k:Int)+(1:Int)).toNat+i) dz).id,Ji (e.X.getD (((k:Int)+(1:Int)).toNat+i) dz).Z]) (X2 (List.take k e.X++List.drop (k+1) e.X)))/\(Z0 Z2 (X8 (hF x.2) x.1.H x.1.H.length) (X8 (hF (e.X.getD k dz).id) e.lk.H e.lk.H.length))/\(Z0 Y7 (X8 (wF x.2) x.1.W x.1.W.length) (X8 (wF (e.X.getD k dz).id) e.lk.W e.lk.W.length))/\e.N=e.N/\True) ?_
 rw[j,n,D4,lR];refine⟨Y6 h,(e.lk,(e.X.getD k dz).id),⟨Z8,g,f⟩,⟨Z9,Z9⟩,⟨U9 _,R0⟩,Z4 Z9,⟨Z9,Z9⟩,⟨K0,R0⟩,K0,Z8,Z8,rfl,Z8,rfl,Z8,rfl,Z8,rfl,rfl,⟨?_,b6d h⟩,Z8⟩
 rw[F9,List.length_take,List.length_drop];omega
def G5(e:Eng)(tx:Int):Int×Int:=if e.up=true then(if T8 e.X tx<0 then(0,19) else(T8 e.X tx,0)) else(0,15)
def a7u:Con:=.rel ⟨Eng×Int,λx=>[.agg x.1.ts,Ji x.2],λx=>.tup [Ji (G5 x.1 x.2).1,Ji (G5 x.1 x.2).2],λx=>L9 x.1.X.length⟩
def c8K{e:Eng}{tx:Int}(h:(!e.up)=true):G5 e tx=(0,15):=by unfold G5;rw[if_neg x5]
def c82{e:Eng}{tx:Int}(h:(!e.up)=false)(d:decide (T8 e.X tx<0)=true):G5 e tx=(0,19):=by unfold G5;rw[if_pos x5,if_pos (G7 d)]
def c8F{e:Eng}{tx:Int}(h:(!e.up)=false)(d:decide (T8 e.X tx<0)=false):G5 e tx=(T8 e.X tx,0):=by unfold G5;rw[if_pos x5,if_neg (r9 d)]
def a3K:GK 77 a7u:=gk func77<|by
 rintro⟨e,tx⟩ (hL:L9 e.X.length);refine U5 (gC a5u gN) func77 Z3 (α:=let p:=(G5 e tx);br (!e.up) (0=p.1/\15=p.2/\True) (∃(x:(Eng×Int)),(((L0 e x.1)/\tx=x.2/\True)/\L9 x.1.X.length)/\bd (T8 x.1.X x.2<0) (0=p.1/\19=p.2/\True) (T8 x.1.X x.2=p.1/\0=p.2/\True))) ⟨λh=>?_,λh=>⟨(e,tx),⟨Z8,hL⟩,λq=>?_,λq=>?_⟩⟩
 ·rw[c8K h];exact Z8
 ·rw[c82 h q];exact Z8
 ·rw[c8F h q];exact Z8
def c17{r:Rec}(h:O9 r=true):r.b.length<=30/\r.a.length<=38:=by
 have h:=(Q4 r).1 h;unfold zG at h;obtain⟨_,_,_,_,_,_,_,_,_,_,_,_,_,_,B,f,e⟩:=h;refine⟨Z9,?_⟩
 by_cases d:r.k=6
 ·exact a1o (f d).2.2.2.2.2.2
 ·have:=(e d).2.2.1;omega
def c71{r:Rec}(h:O9 r=true):(J4 r).length<=160:=by
 obtain⟨d,e⟩:=c17 h;have f:(z8 (zO (b4N r))).length=4:=rfl;have l:(J4 r).length=16+(r.b.length+r.a.length):=by
  unfold J4 b4N;rw[F9];simp only[S5,V7,F9,List.length_cons,List.length_nil];show _+4=_;simp;omega
 omega
def b9Q(d:Dsk):Prop:=d.E.length=69/\d.keep.length<=500/\(d.A=false->d.keep.length=0)/\(∀i,i<d.E.length->(d.E.getD i []).length<=160)/\∀i,i<d.C.length->(d.C.getD i dz).d.length<=160
def b00{d:Dsk}(h:b9Q d):G0 (U3 d).1/\(U3 d).1.E.length=69:=by
 obtain⟨l,g,j,e,f⟩:=h;unfold U3;split
 ·have hl:(crD d d.keep).E.length=d.E.length:=A8 _ _ _ _;refine⟨⟨X5,X5,N4 _,N4 _,λ_=>rfl,λi hi=>?_,λi hi=>absurd hi (D2 _)⟩,X5⟩
  dsimp only at hi;rw[hl] at hi;exact b6Y d.E d.C (kp d.keep) e f _ (U9 _) i hi
 ·have hl:(zQ d.E d.C (λ_=>true) d.C.length).length=d.E.length:=A8 _ _ _ _
  refine⟨⟨X5,X5,N4 _,g,j,λi hi=>?_,λi hi=>absurd hi (D2 _)⟩,X5⟩
  dsimp only at hi;rw[hl] at hi;exact b6Y d.E d.C (λ_=>true) e f _ (U9 _) i hi
def c8f{s:Sto}{l:Int}(hd:G0 s.d)(B:mD s l)(r:xH s.L):b9Q (cT s (J0 s l)):=by
 have h:=B.2.2.2.1;refine⟨h,hd.2.2.2.1,hd.2.2.2.2.1,hd.2.2.2.2.2.1,λi hi=>?_⟩
 have hi:i<(s.d.C++List.map (nS s) (List.range (J0 s l))).length:=hi;show((s.d.C++List.map (nS s) (List.range (J0 s l))).getD i dz).d.length<=160;rw[P4]
 by_cases hc:i<s.d.C.length
 ·rw[rL hc,←P4]
  exact(a4q (hd.2.2.2.2.2.2 i hc)).2.2
 ·rw[qA Z9,←P4]
  simp only[F9,List.length_map,j_g] at hi;rw[j4 _ Z9]
  have n:=fY (i:=i-s.d.C.length) B Z9
  obtain⟨_,_,_,_,e,_,_,f,_⟩:=B;exact c71 ((Q4 _).2 (r.2 _ Z9).1)
def b0O{s:Sto}{l:Int}(hd:G0 s.d)(h:mD s l)(r:xH s.L):G0 (V8 s l).1.d/\(V8 s l).1.d.E.length=69:=by
 by_cases L:l<=s.S
 ·rw[xE L];exact⟨hd,h.2.2.2.1⟩
 ·rw[xR L];exact b00 (c8f hd h r)
def c07{e:Eng}(h:R3 e=true)(u:e.up=true):e.s.L.length+nK e<=60:=by
 have d:=(u4 h).2.2;rw[if_pos u] at d;unfold upE at d;simp only[J5,o8] at d;exact d.2
def a9p{e:Eng}(h:R3 e=true)(u:e.up=true){i:Nat}(hi:i<e.X.length):1<=(e.X.getD i dz).Z/\(e.X.getD i dz).Z<=e.s.L.length:=by
 have:=c4u h u i hi;unfold y7 nD at this;simp only[wS,wU,J5,K5] at this;exact this.2.1
def b6B{l:Lks}(h:B8 l=true):l.H.length<=60/\l.W.length<=100:=by
 unfold B8 at h;simp only[J5,o8] at h;exact h.2.1
def a1E{e:Eng}{tx:Int}(h:(G5 e tx).2=0):e.up=true/\∃k:Nat,(G5 e tx).1=(k:Int)/\k<e.X.length/\(e.X.getD k dz).id=tx/\T8 e.X tx=k:=by
 revert h;unfold G5;split
 ·rename_i hu;split
  ·intro h;cases h
  ·rename_i d;intro _;have d:¬S6 e.X.length (x6 e.X tx)<0:=d;obtain⟨i,hi,hp,_,f⟩:=lX d;exact⟨hu,i,f,hi,by unfold x6 at hp;simpa using hp,f⟩
 ·intro h;cases h
def a3E(e:Eng)(k:Nat)(r:Rec):Prop:=r.k≠6/\r.k≠1/\1<=r.k/\r.k<=6/\(r.k≠3->r.n=0)/\(r.k≠2->r.k≠3->r.g=0/\r.s=0/\r.b=[]/\r.a=[])/\0<=r.n/\r.n<=(e.s.L.length:Int)/\0<=r.g/\r.g<=7/\0<=r.s/\r.s<=3/\r.b.length<=30/\r.a.length<=30/\(r.k=3->r.b=[])/\k<e.X.length
def b75{s:Sto}{r:Rec}(L:xH s.L)(h:O9 (P9 s r)=true)(l:s.L.length+1<=60):xH (apx s r).L:=by
 have e:(apx s r).L=s.L++[P9 s r]:=rfl;rw[e];refine⟨C7,λi hi=>?_⟩
 rw[F9,List.length_singleton] at hi;by_cases C:i<s.L.length
 ·have:(s.L++[P9 s r]).getD i dz=s.L.getD i dz:=by
   rw[P4,rL C,←P4]
  rw[this];exact L.2 i C
 ·have:i=s.L.length:=by omega
  subst this;have:(s.L++[P9 s r]).getD s.L.length dz=P9 s r:=a4T s r;rw[this];exact⟨(Q4 _).1 h,rfl⟩
def c7f{d:Dsk}(h:G0 d):nN d:=by
 obtain⟨d1,d2,f,e,_⟩:=h;exact⟨Z9,Z9,Z9⟩
def a1f{e:Eng}(hd:G0 e.s.d):M7 (j8 e):=by
 have M:=c62 e.s.d e.s.ep;have h:=hd.2.1;refine⟨⟨c7f hd,?_,N4 _,λi hi=>absurd hi (D2 _)⟩,Z8⟩
 show(zB _ _).length<=_;rw[yB];omega
open Go.SS Go.RowKit Go.Proofs.Tryz
def iV:List Value:=[.int .i64 0,.int .i64 0]
def a4n:(prog.info? 118).map (λi=>(i.zero,i.size,i.bytes))=some (some (.agg iV.toArray),2,16):=R5
def a0N:prog.underlying 46=some (.slice 118):=R5
def bV(w:World)(ty:TypeId)(b o c:Nat)(g:∀j,j<2->(w.cell? ⟨b,o+j,none⟩).isSome=true)(f:∀j,j<2->w.frozen? ⟨b,o+j,none⟩=false):
  (Builtin.clear_ #[46] ty #[.slice (some ⟨b,o,none⟩) 1 c]).run prog w= .ok (.tuple #[]) (w.setCells b o iV):=by
 obtain⟨i,e,d,_⟩:=info_parts a4n;have hv:∀w,(zeroValue 118).run prog w= .ok (.agg iV.toArray) w:=λw=>by
  simp[zeroValue,typeInfo,e,d]
 have t:=run_storeCells_cells (P:=prog) b o iV 0 w (λj (hj:j<2)=>by rw[Nat.add_zero];exact g j hj) (λj (hj:j<2)=>by rw[Nat.add_zero];exact f j hj) (by intro v h;simp only[iV,vN,j_i,or_false] at h;rcases h with rfl|rfl<;>rfl)
 simp only[Nat.add_zero] at t;have C:(Builtin.zeroCells (Value.agg iV.toArray).cells 1).toList=iV:=R5
 simp[Builtin.clear_,run_underlying a0N,hv,C,t]
set_option maxHeartbeats 4000000 in
set_option maxRecDepth 1000000 in
def b22(b cap n i j:Nat)(news:List Value)(w:World)(hj1:j=i+1)(hj:j<=n)(hn:n<=cap)(hl:news.length=(n-j)*2)(h1:∀u ∈ news,u.oneCell'=true)
  (hs:∀q u,news[q]? =some u->w.cell? ⟨b,j*2+q,none⟩=some u) (hc:∀q,q<n*2->(w.cell? ⟨b,q,none⟩).isSome=true) (hf:∀q,q<n*2->w.frozen? ⟨b,q,none⟩=false):
  Calls prog 252 #[.slice (some ⟨b,0,none⟩) n cap,.int .i64 i,.int .i64 j] w λe w'=>e= .returned (.slice (some ⟨b,0,none⟩) (i+(n-j)) cap)/\w'=(w.drew.setCells b (i*2) news).setCells b ((i+(n-j))*2) iV:=by
 have a9M:prog.follows .mixedOrders=true:=R5
 obtain⟨i0,hi0,hz0,hz1,hz2⟩:=info_parts a4n;obtain⟨A,hA,hnews⟩:∃A:Addr,(if cap=j then some (⟨b,0,none⟩:Addr) else some ⟨b,j*2,none⟩)=some A/\Hid (∀q u,news[q]? =some u->w.drew.cell? (A.add q)=some u):=by
  by_cases h:cap=j
  ·refine⟨⟨b,0,none⟩,dH,λq u hu=>?_⟩
   have h0:news.length=0:=by rw[hl];omega
   rw[List.length_eq_zero_iff.1 h0] at hu;simp at hu
  ·exact⟨⟨b,j*2,none⟩,dH,λq u hu=>by rw[Addr.add_lit];exact hs q u hu⟩
 have s1:Hid (news.length=(n-j)*2):=hl;have s2:Hid (∀u ∈ news,u.oneCell'=true):=h1;have s3:Hid (∀q,q<news.length->(w.drew.cell? ⟨b,0+i*2+q,none⟩).isSome=true/\w.drew.frozen? ⟨b,0+i*2+q,none⟩=false):=by
  intro q hq;rw[hl] at hq;exact⟨hc _ Z9,hf _ Z9⟩
 obtain⟨W1,hW1⟩:∃W1,W1=w.drew.setCells b (0+i*2) news:=⟨_,rfl⟩;have hcl:∀ty,(Builtin.clear_ #[46] ty #[.slice (some ⟨b,(i+(n-j))*2,none⟩) (n- (i+(n-j))) (cap- (i+(n-j)))]).run prog W1= .ok (.tuple #[]) (W1.setCells b ((i+(n-j))*2) iV):=by
  intro ty;rw[show n- (i+(n-j))=1 by omega]
  refine bV W1 ty b _ _ (λq hq=>?_) (λq hq=>?_)
  ·rw[hW1];exact World.isSome_setCells b _ _ _ _ (hc _ Z9)
  ·rw[hW1,World.frozen?_setCells]
   exact hf _ Z9
 have hW:Hid (W1=w.drew.setCells b (0+i*2) news):=hW1;have X:Aside (W1=w.drew.setCells b (i*2) news):=by rw[hW1,D4];exact rfl
 have hic:i<=cap:=Z9
 have hjc:j<=cap:=Z9
 have hlt:i<j:=Z9
 have heq:¬i=j:=Z9
 have hij:i<=j:=Z9
 have hin:i<=n:=Z9
 clear hW1 hc hf hs h1 hl hj1
 go_enter func252,Tryz.ntmps252
 go_wp2_with fail
 go_region_law_o (refine step_append_room rfl (.tmp 22) (.tmp 25) 46 rfl 118 i0 2 a0N hi0 hz1 b 0 i cap (by simp[Act.eval,Act.put]) A (n-j) (cap-j) news (by simp[Act.eval,Act.put]) s1.out hnews.out s2.out Z9 s3.out ?_;rw[←hW.out])
 go_wp2
 go_ret
 exact⟨rfl,by rw[X]⟩
def pN(w:World)(b o:Nat)(ty:TypeId)(cs:Array Value)(news:List Value)(B:w.heap[b]? =some (.cells cs ty (0,0)))(t:o+news.length<=cs.size)(e:∀v ∈ news,v.oneCell'=true):
  (w.setCells b o news).os=w.os/\(w.setCells b o news).tape=w.tape/\(w.setCells b o news).output=w.output/\(w.setCells b o news).heap.size=w.heap.size/\(∀k,k≠b->(w.setCells b o news).heap[k]? =w.heap[k]?)/\
   ∃cs',(w.setCells b o news).heap[b]? =some (.cells cs' ty (0,0))/\cs'.size=cs.size/\(∀i,i<o∨o+news.length<=i->cs'[i]? =cs[i]?)/\∀i,i<news.length->cs'[o+i]? =news[i]? :=by
 obtain⟨w',d,h⟩:=u3 prog w b o ty cs news B t e;have r:=run_storeCells_cells (P:=prog) b o news 0 w (λj J=>by rw[S2 B,tB (show o+0+j<cs.size by omega)];rfl) (λj J=>by simp[World.frozen?,B]) e
 rw[Nat.add_zero,d] at r;simp only[Result.ok.injEq,true_and] at r;rw[←r];exact h
def shJ(k r:Nat):Nat:=if r<k then r else r+1
def xD{α:Type}(L:List α)(k:Nat):List α:=L.take k++L.drop (k+1)
def c1A{α:Type}{L:List α}{k:Nat}(h:k<L.length):(xD L k).length=k+(L.length- (k+1)):=by
 unfold xD;rw[F9,List.length_take,List.length_drop];omega
def c66{α:Type}[Inhabited α]{L:List α}{k:Nat}(d:k<L.length)(i:Nat):(xD L k).getD i dz=L.getD (shJ k i) dz:=by
 have l:(L.take k).length=k:=by rw[List.length_take];omega
 unfold xD shJ;rw[P4,P4]
 split
 ·rename_i h;rw[rL Z9,List.getElem?_take_of_lt h]
 ·rename_i h;rw[qA Z9,l,List.getElem?_drop,show k+1+(i-k)=i+1 by omega]
def b7b:Con:=.reff ⟨List Txn×Nat,λx=>[.osl 0 0 x.1.length,Ji x.2,Ji (x.2+1:Nat)],λx=>[sR x.1],λx=>.osl 0 0 (xD x.1 x.2).length,λx=>[sR (xD x.1 x.2)],λx=>x.2<x.1.length⟩
def a9l{E:Env}{w:World}{k off n:Nat}{v:Value}(h:Rd E w (.osl k off n) v):∃a o,v= .slice a n (E.κ k-off)/\E.L k/\off+n<=E.κ k/\(off<E.κ k∨off=0->o=off*(E.z k).1)/\(E.κ k≠0->a=some ⟨E.β k,o,none⟩):=by
 cases h with
 |osl k off n o a f d g e=>exact⟨a,o,rfl,f,d,g,e⟩
def c8v{E:Env}{w:World}{H:X9}(f:HeapOk E w H)(i:∀b,E.N b->b<w.heap.size):Inv ⟨w,XB E H,E.N,0,E,0⟩ E H w:=⟨f,i,λb B=>.inl B,λk ob b g e=>.inr ⟨k,ob,g,e⟩,⟨rfl,rfl,rfl,U9 _,λ_ _ _=>rfl⟩,⟨λ_ h=>h,λk d=>absurd d (D2 _),λ_ _=>rfl,λk v d=>absurd d (D2 _)⟩⟩
def b18:GK 252 b7b:=gk func252<|by
 rintro⟨L,k⟩ (hk:k<L.length);intro E w vs hH hN X;dsimp only at hH X ⊢;have O:Y4 [sR L] 0=some (.arr true 0 2 L.length (X2 L)):=rfl;obtain⟨hL,hF,aj⟩:=hH.live 0 _ O;obtain⟨e1,e2,e3,e4,_,cs,B,M,e7,e8⟩:=(show T5 E w 0 ⟨true,0,2,L.length,X2 L⟩ from hF)
 dsimp only at e1 e2 e3 e4 e7 e8;have hκ:E.κ 0≠0:=Z9
 have M:=M hκ;have ai:=e7.le;obtain⟨aa,hv⟩:=X;obtain⟨v0,Z,v2,rfl⟩:∃v0 Z v2,vs= #[v0,Z,v2]:=by
  have f:vs.size=3:=aa.symm;exact⟨vs[0],vs[1],vs[2],by apply Array.ext<;>simp[f];intro i hi _;match i,hi with|0,_=>rfl|1,_=>rfl|2,_=>rfl⟩
 obtain rfl:=tH (hv 1 (.int .i64 k) Z rfl rfl);obtain rfl:=tH (hv 2 (.int .i64 (k+1:Nat)) v2 rfl rfl);obtain⟨a,o,rfl,_,_,ho,ha⟩:=a9l (hv 0 (.osl 0 0 L.length) v0 rfl rfl);have ho:o=0:=by have:=ho (.inr rfl);omega
 subst ho;rw[ha hκ,Nat.sub_zero];have W:∀i q,i<L.length->q<2->∃t u,(X2 L i)[q]? =some t/\cs[i*2+q]? =some u/\Rd E w t u/\u.oneCell'=true:=λi q hi Q=>by
  have h5:(X2 L i).length=2:=rfl;obtain⟨t,d⟩:∃t,(X2 L i)[q]? =some t:=⟨_,I1 Z9⟩
  obtain⟨u,hu,U⟩:=e8 i q _ hi d;exact⟨t,u,d,hu,U,iN U (e4 i _ hi (y4 d))⟩
 have l:∀j,j<L.length*2->∃u,cs[j]? =some u/\u.oneCell'=true:=λj J=>by
  obtain⟨_,u,_,f,_,h4⟩:=W (j/2) (j % 2) Z9 Z9
  exact⟨u,by rw[show j=j/2*2+j % 2 by omega];exact f,h4⟩
 have ah:L.length*2<=cs.size:=Z9
 have hnl:((cs.toList.drop ((k+1)*2)).take ((L.length- (k+1))*2)).length=(L.length- (k+1))*2:=by
  rw[List.length_take,List.length_drop,Array.length_toList (xs:=cs)];omega
 have g:∀q,q<(L.length- (k+1))*2->((cs.toList.drop ((k+1)*2)).take ((L.length- (k+1))*2))[q]? =cs[(k+1)*2+q]? :=λq Q=>by
  rw[List.getElem?_take,if_pos Q,List.getElem?_drop,Array.getElem?_toList]
 have n:∀u ∈ (cs.toList.drop ((k+1)*2)).take ((L.length- (k+1))*2),u.oneCell'=true:=λu hu=>by
  obtain⟨q,Q⟩:=List.getElem?_of_mem hu
  have x:q<(L.length- (k+1))*2:=by rw[←hnl];exact(u6.1 Q).1
  rw[g q x] at Q;obtain⟨u',z,f⟩:=l ((k+1)*2+q) Z9
  rw[z] at Q;simp only[X0] at Q;rw[←Q];exact f
 generalize ad:(cs.toList.drop ((k+1)*2)).take ((L.length- (k+1))*2)=news at hnl g n;have hb:∀j,w.cell? ⟨E.β 0,j,none⟩=cs[j]? :=λj=>S2 M
 have hs:∀q u,news[q]? =some u->w.cell? ⟨E.β 0,(k+1)*2+q,none⟩=some u:=λq u Q=>by
  have x:q<(L.length- (k+1))*2:=by rw[←hnl];exact(u6.1 Q).1
  rw[hb,←g q x];exact Q
 have hc:∀q,q<L.length*2->(w.cell? ⟨E.β 0,q,none⟩).isSome=true:=λq Q=>by
  obtain⟨u,z,_⟩:=l q Q;rw[hb,z];rfl
 have hf:∀q,q<L.length*2->w.frozen? ⟨E.β 0,q,none⟩=false:=λq _=>by simp[World.frozen?,M]
 refine(b22 (E.β 0) (E.κ 0) L.length k (k+1) news w rfl hk e2 hnl n hs hc hf).mono ?_
 rintro e w' ⟨rfl,F⟩;have ac:w.drew.heap[E.β 0]? =some (.cells cs B (0,0)):=M;obtain⟨a1,a2,a3,a4,a5,af,a6,a7,a8,a9⟩:=pN w.drew (E.β 0) (k*2) B cs news ac (by rw[hnl];omega) n
 generalize w.drew.setCells (E.β 0) (k*2) news=w1 at F a1 a2 a3 a4 a5 a6;obtain⟨b1,b2,b3,b4,b5,C,b6,b7,b8,_⟩:=pN w1 (E.β 0) ((k+(L.length- (k+1)))*2) B af iV a6 (by rw[a7];show _+2<=_;omega) (by intro v I;simp only[iV,vN,j_i,or_false] at I;rcases I with rfl|rfl<;>rfl)
 rw[←F] at b1 b2 b3 b4 b5 b6;have N:(xD L k).length=k+(L.length- (k+1)):=c1A hk;have ab:iV.length=2:=rfl;have R:∀r q,r<(xD L k).length->q<2->C[r*2+q]? =cs[shJ k r*2+q]? :=λr q X Q=>by
  rw[b8 _ (.inl Z9)]
  unfold shJ;by_cases h:r<k
  ·rw[if_pos h,a8 _ (.inl Z9)]
  ·rw[if_neg h];have:=a9 ((r-k)*2+q) (by rw[hnl];omega)
   rw[show k*2+((r-k)*2+q)=r*2+q by omega] at this
   rw[this,g _ Z9]
   congr 1
   omega
 have ag:∀r,r<(xD L k).length->shJ k r<L.length:=λr X=>by unfold shJ;split<;>omega
 have Y:∀r,X2 (xD L k) r=X2 L (shJ k r):=λr=>by unfold X2;rw[c66 hk]
 obtain⟨hI,ae⟩:=(c8v hH hN).write (w':=w') O rfl (b1.trans a1) (b2.trans a2) (b3.trans a3) (Nat.le_of_eq (b4.trans a4).symm) (λb _ A=>(b5 b A).trans (a5 b A)) hκ (.arr true 0 2 (xD L k).length (X2 (xD L k))) C B b6 e1.symm (by
   rw[e1];refine e7.keep (b7.trans a7) λq Q=>?_
   rw[b8 q (.inr (by rw[ab];omega)),a8 q (.inr (by rw[hnl];omega))]) (show(xD L k).length<=E.κ 0 by omega) (λi _=>rfl) (λi t _ d=>by
   simp only[Ob.toArr,X2,Txn.ts,vN,j_i,or_false] at d;rcases d with rfl|rfl<;>rfl) (λ_ i t _ d=>by
   simp only[Ob.toArr,X2,Txn.ts,vN,j_i,or_false] at d;rcases d with rfl|rfl<;>rfl) (λi j t hi J=>by
   have hi:i<(xD L k).length:=hi;have J:(X2 (xD L k) i)[j]? =some t:=J;have V:j<2:=(u6.1 J).1
   rw[Y i] at J;obtain⟨t',u,z,f,h3,_⟩:=W (shJ k i) j (ag i hi) V;rw[J] at z;simp only[X0] at z;subst z;exact⟨u,by show C[i*2+j]? =_;rw[R i j hi V];exact f,h3⟩)
 refine⟨_,_,rfl,hI,ae.stp,?_⟩
 rw[N];have:=Rd.osl (E:=E) (w:=w') 0 0 (k+(L.length- (k+1))) 0 (some ⟨E.β 0,0,none⟩) hL (show 0+_<=E.κ 0 by omega) (λ_=>W7) (λ_=>rfl)
 rw[Nat.sub_zero] at this;exact this
def aK(o o':Ob):Prop:=o=o'∨∃cl ty sz n n' row row',o= .arr cl ty sz n row/\o'= .arr cl ty sz n' row'/\n'<=n/\∀i,i<n'->row' i=row i
def c7N(H H':X9):Prop:=H'.length=H.length/\∀k o',Y4 H' k=some o'->∃o,Y4 H k=some o/\aK o o'
def aK.blk{E:Env}{k:Nat}{o o':Ob}{b:Nat}(h:aK o o')(B:A3 E k o' b):A3 E k o b:=by
 rcases h with rfl|⟨cl,ty,sz,n,n',row,row',rfl,rfl,_,_⟩
 ·exact B
 ·exact .inl (B.arr rfl)
def aK.ok{E:Env}{w:World}{k:Nat}{o o':Ob}(h:aK o o')(ho:zZ E w k o):zZ E w k o':=by
 rcases h with rfl|⟨cl,ty,sz,n,n',row,row',rfl,rfl,hn,hr⟩
 ·exact ho
 ·obtain⟨e1,e2,e3,e4,e5,cs,tyb,e6,e7,e8⟩:=(show T5 E w k ⟨cl,ty,sz,n,row⟩ from ho)
  dsimp only at e1 e2 e3 e4 e5 e7 e8;refine(show T5 E w k ⟨cl,ty,sz,n',row'⟩ from⟨e1,Nat.le_trans hn e2,λi hi=>?_,λi t hi d=>?_,λC i t hi d=>?_,cs,tyb,e6,e7,λi j t hi J=>?_⟩)
  ·have hi:i<n':=hi;show(row' i).length=sz;rw[hr i hi];exact e3 i Z9
  ·have hi:i<n':=hi;have d:t ∈ row' i:=d;rw[hr i hi] at d;exact e4 i t Z9 d
  ·have hi:i<n':=hi;have d:t ∈ row' i:=d;rw[hr i hi] at d;exact e5 C i t Z9 d
  ·have hi:i<n':=hi;have J:(row' i)[j]? =some t:=J;rw[hr i hi] at J;exact e8 i j t Z9 J
def gW{P:Program}{f:FuncId}{args:List T}{H H1 H2:X9}{res:T}(h:G3 P f args H res H1)(hc:c7N H1 H2):G3 P f args H res H2:=by
 intro E w vs q N r;refine(h E w vs q N r).mono ?_
 rintro e w' ⟨v,E',rfl,hI,t,g⟩;refine⟨v,E',rfl,⟨⟨λk o hk=>?_,λk k' o o' b hk i B j=>?_,λk hk=>by rw[hc.1];exact hI.heap.lt k hk,hI.heap.l2,λk o v hk hv=>?_⟩,hI.nlt,hI.nnew,λk o b hk B=>?_,hI.fr,hI.keep⟩,t,g⟩
 ·obtain⟨o0,h0,hcut⟩:=hc.2 k o hk;obtain⟨u,x,A⟩:=hI.heap.live k o0 h0;exact⟨u,hcut.ok x,λb B=>A b (hcut.blk B)⟩
 ·obtain⟨o0,h0,hcut⟩:=hc.2 k o hk;obtain⟨O,l,d⟩:=hc.2 k' o' i;exact hI.heap.inj k k' o0 O b h0 l (hcut.blk B) (d.blk j)
 ·obtain⟨o0,h0,hcut⟩:=hc.2 k o hk;obtain⟨v0,ty,sz,n,row,rfl,hle⟩:=hI.heap.cur k o0 v h0 hv;rcases hcut with rfl|⟨_,_,_,_,_,_,_,e,_⟩
  ·exact⟨v0,ty,sz,n,row,rfl,hle⟩
  ·cases e
 ·obtain⟨o0,h0,hcut⟩:=hc.2 k o hk;exact hI.bnew k o0 b h0 (hcut.blk B)
def c1x{a b c:Option Ob}(h:∀o',c=some o'->∃o,a=some o/\aK o o'):c7N [a,b] [c,b]:=by
 refine⟨rfl,λk o' d=>?_⟩
 match k,d with
 |0,d=>exact h o' d
 |1,d=>exact⟨o',d,.inl rfl⟩
 |k+2,d=>simp[Y4] at d
def D8{α:Type}[Inhabited α](f:α->Bool)(L:List α)(j:Nat):List α:=X8 f L j++L.drop (X8 f L j).length
def b6p{α:Type}[Inhabited α]{f:α->Bool}{L:List α}{j q:Nat}(h:(X8 f L j).length<=q):(D8 f L j).getD q dz=L.getD q dz:=by
 unfold D8;rw[P4,qA h,List.getElem?_drop,←P4]
 congr 1
 omega
def c8W{α:Type}[Inhabited α]{f:α->Bool}{L:List α}{j q:Nat}(h:q<(X8 f L j).length):(D8 f L j).getD q dz=(X8 f L j).getD q dz:=by
 unfold D8;rw[P4,rL h,←P4]
def b3k{α:Type}[Inhabited α]{f:α->Bool}{L:List α}{j:Nat}(h:f (L.getD j dz)=false):D8 f L (j+1)=D8 f L j:=by
 unfold D8;rw[pR h]
def c9S{α:Type}[Inhabited α]{f:α->Bool}{L:List α}{j:Nat}(h:f (L.getD j dz)=true)(q:Nat):(D8 f L (j+1)).getD q dz=if q=(X8 f L j).length then L.getD j dz else(D8 f L j).getD q dz:=by
 have e:D8 f L (j+1)=X8 f L j++(L.getD j dz::L.drop ((X8 f L j).length+1)):=by
  unfold D8;rw[aG h,F9,List.length_singleton,List.append_assoc];rfl
 rw[e];unfold D8;generalize X8 f L j=A;generalize L.getD j dz=x;rcases Nat.lt_trichotomy q A.length with h1|h1|h1
 ·rw[if_neg Z9,P4,P4,rL h1,rL h1]
 ·rw[if_pos h1,P4,h1,qA (U9 _),j_h]
  rfl
 ·rw[if_neg Z9,P4,P4,qA Z9,qA Z9]
  obtain⟨d,hd⟩:∃d,q-A.length=d+1:=⟨q-A.length-1,Z9⟩
  rw[hd,List.getElem?_cons_succ,List.getElem?_drop,List.getElem?_drop]
  congr 2
  omega
def b0D{α:Type}[Inhabited α]{f:α->Bool}{L:List α}:∀j,j<=L.length->(∀q,q<j->f (L.getD q dz)=true)->X8 f L j=L.take j
 |0,_,_=>by simp[X8]
 |j+1,hj,h=>by
  rw[aG (h j Z9),b0D j Z9 λq Q=>h q Z9,List.take_add_one,P4,I1 (show j<L.length by omega)]
  rfl
def lL{α:Type}[Inhabited α]{f:α->Bool}{L:List α}{j:Nat}(J:j<=L.length)(h:∀q,q<j->f (L.getD q dz)=true):(X8 f L j).length=j/\D8 f L j=L:=by
 have e:=b0D j J h;have l:(L.take j).length=j:=by rw[List.length_take];omega
 unfold D8;rw[e,l];exact⟨rfl,List.take_append_drop j L⟩
def sM(n:Int):Option Ob:=some (.arr true 1000000 1 1 λ_=>[Ji n])
def c3A:Con:=.rel ⟨Lck×Int,λx=>[.agg x.1.ts,.bref [Ji x.2]],λx=>.bool (x.1.tx==x.2),λ_=>True⟩
def c1U(x:Lck)(tx:Int)(h:
  (x.tx==tx)=(x.tx==tx)):
  V4 prog 368 [.agg x.ts,.bref [Ji tx]] (.bool (x.tx==tx)):=
 U5 gN func368 Z3 h
def a5d:GK 368 c3A:=gk func368<|λx _=>c1U x.1 x.2 rfl
def c1M:Con:=.rel ⟨Wt×Int,λx=>[.agg x.1.ts,.bref [Ji x.2]],λx=>.bool (x.1.tx==x.2||x.1.fo==x.2),λ_=>True⟩
def c19(x:Wt)(tx:Int)(h:
let p:=(x.tx==tx||x.fo==tx);  p=p):
  V4 prog 369 [.agg x.ts,.bref [Ji tx]] (.bool (x.tx==tx||x.fo==tx)):=
 U5 gN func369 Z3 h
def a4h:GK 369 c1M:=gk func369<|λx _=>c19 x.1 x.2 rfl
def c9y(tx:Int):T:=.fn (.func 368) [.bref [Ji tx]]
def c8S(tx:Int):T:=.fn (.func 369) [.bref [Ji tx]]
def d1(L:List Lck)(tx:Int)(i:Nat):Bool:=(L.getD i dz).tx==tx
def d2(L:List Wt)(tx:Int)(i:Nat):Bool:=(L.getD i dz).tx==tx||(L.getD i dz).fo==tx
def b19:Con:=.rel ⟨List Lck×Int,λx=>[wN x.1,c9y x.2],λx=>Ji (S6 x.1.length (d1 x.1 x.2)),λx=>L9 x.1.length⟩
def b4E(L:List Lck)(tx:Int):Nat->Ann
 |0=>.one (V5 L.length (d1 L tx)) (λx=>⟨[(0,wN L),(1,c9y tx),(7,Ji L.length),(8,Ji x.1)],[]⟩) (λx=>L.length-x.1) [] [] (λ_=>Z3)
 |_=>.none
def a7N:GK 316 b19:=gk func316<|by
 rintro⟨L,tx⟩ (hL:L.length<1000000000000);refine U5 (gC a5d gN) func316 (b4E L tx) (α:=let r:=(L.length:Int);let q:=(T.bref [Ji tx]);(∃(x:V5 L.length (d1 L tx)),((Z0 Z2 L L)/\(Fn.func 368=Fn.func 368/\J7 (λ(x:Nat)=>none) q q/\True)/\r=r/\0=(x.1:Int)/\True)/\True)/\∀(x:V5 L.length (d1 L tx)),let z:=(x.1:Int);let p:=(L.getD z.toNat dz);bd (z<r) (W9 z L.length/\∃(X:(Lck×Int)),(((p.tx=X.1.tx/\p.ta=X.1.ta/\p.row=X.1.row/\p.mo=X.1.mo/\True)/\(tx=X.2/\True)/\True)/\True)/\br (X.1.tx==X.2) (z=S6 L.length (d1 L tx)) (Ri (z+1)/\∃(y:V5 L.length (d1 L tx)),(((Z0 Z2 L L)/\(Fn.func 368=Fn.func 368/\J7 (λ(x:Nat)=>none) q q/\True)/\r=r/\z+1=(y.1:Int)/\True)/\True)/\Lt (L.length-y.1) (L.length-x.1))) ((-1:Int)=S6 L.length (d1 L tx))) ⟨⟨F4,⟨Z8,⟨rfl,U0 _,Z6⟩,Z8⟩,Z6⟩,λx=>⟨λC=>?_,λC=>?_⟩⟩
 ·have h:=Y2 C;refine⟨Y6 h,(L.getD x.1 dz,tx),Z8,λhp=>(N9 h hp x.2.2).symm,λhp=>⟨W2 h Z9,x.succ h hp,⟨⟨Z8,⟨rfl,U0 _,Z6⟩,rfl,I9,Z6⟩,Z6⟩,V5.ext_lt h⟩⟩
 ·have e:=Y0 C;exact(K2 λj J=>x.2.2 j (xY J e)).symm
def b9W:Con:=.rel ⟨List Wt×Int,λx=>[nG x.1,c8S x.2],λx=>Ji (S6 x.1.length (d2 x.1 x.2)),λx=>L9 x.1.length⟩
def b7t(L:List Wt)(tx:Int):Nat->Ann
 |0=>.one (V5 L.length (d2 L tx)) (λx=>⟨[(0,nG L),(1,c8S tx),(7,Ji L.length),(8,Ji x.1)],[]⟩) (λx=>L.length-x.1) [] [] (λ_=>Z3)
 |_=>.none
def b2q:GK 317 b9W:=gk func317<|by
 rintro⟨L,tx⟩ (hL:L.length<1000000000000);refine U5 (gC a4h gN) func317 (b7t L tx) (α:=let r:=(L.length:Int);let p:=(T.bref [Ji tx]);(∃(x:V5 L.length (d2 L tx)),((Z0 Y7 L L)/\(Fn.func 369=Fn.func 369/\J7 (λ(x:Nat)=>none) p p/\True)/\r=r/\0=(x.1:Int)/\True)/\True)/\∀(x:V5 L.length (d2 L tx)),let q:=(x.1:Int);let z:=(L.getD q.toNat dz);bd (q<r) (W9 q L.length/\∃(X:(Wt×Int)),(((z.tx=X.1.tx/\z.fo=X.1.fo/\True)/\(tx=X.2/\True)/\True)/\True)/\br (X.1.tx==X.2||X.1.fo==X.2) (q=S6 L.length (d2 L tx)) (Ri (q+1)/\∃(y:V5 L.length (d2 L tx)),(((Z0 Y7 L L)/\(Fn.func 369=Fn.func 369/\J7 (λ(x:Nat)=>none) p p/\True)/\r=r/\q+1=(y.1:Int)/\True)/\True)/\Lt (L.length-y.1) (L.length-x.1))) ((-1:Int)=S6 L.length (d2 L tx))) ⟨⟨F4,⟨Z8,⟨rfl,U0 _,Z6⟩,Z8⟩,Z6⟩,λx=>⟨λC=>?_,λC=>?_⟩⟩
 ·have h:=Y2 C;refine⟨Y6 h,(L.getD x.1 dz,tx),Z8,λhp=>(N9 h hp x.2.2).symm,λhp=>⟨W2 h Z9,x.succ h hp,⟨⟨Z8,⟨rfl,U0 _,Z6⟩,rfl,I9,Z6⟩,Z6⟩,V5.ext_lt h⟩⟩
 ·have e:=Y0 C;exact(K2 λj J=>x.2.2 j (xY J e)).symm
def c8q:List T:=[Ji 0,Ji 0,Ji 0,Ji 0]
def zWt:List T:=[Ji 0,Ji 0]
def c83(L:List Lck)(tx:Int):Option Ob:=some (.arr true 0 4 L.length (H8 (Z2 (D8 (hF tx) L L.length)) (X8 (hF tx) L L.length).length (L.length- (X8 (hF tx) L L.length).length) c8q))
def c9D(L:List Wt)(tx:Int):Option Ob:=some (.arr true 0 2 L.length (H8 (Y7 (D8 (wF tx) L L.length)) (X8 (wF tx) L L.length).length (L.length- (X8 (wF tx) L L.length).length) zWt))
def b9z:Con:=.reff ⟨List Lck×Int,λx=>[.osl 0 0 x.1.length,.fn (.func 368) [.ref 1 0 0]],λx=>[yY x.1,sM x.2],λx=>.osl 0 0 (X8 (hF x.2) x.1 x.1.length).length,λx=>[yY (X8 (hF x.2) x.1 x.1.length),sM x.2],λx=>x.1.length<=1048576⟩
def b5H(L:List Lck)(tx:Int):Nat->Ann
 |0=>.one {j:Nat//j<=L.length} (λx=>⟨[(0,.osl 0 0 L.length),(1,.fn (.func 368) [.ref 1 0 0]),(5,Ji (X8 (hF tx) L x.1).length),(6,Ji x.1)],[some (.arr true 0 4 L.length (Z2 (D8 (hF tx) L x.1))),sM tx]⟩) (λx=>L.length-x.1) cG cG (λ_=>Z3)
 |_=>.none
def b5L(L:List Lck)(tx:Int)(h:
  ∃(x:(List Lck×Int)),(Le (0+L.length) L.length/\((Z0 Z2 L x.1)/\(Fn.func 368=Fn.func 368/\(tx=x.2/\True)/\True)/\True)/\L9 x.1.length)/\br (S6 x.1.length (d1 x.1 x.2)==(-1:Int)) (((0=0/\L.length=(X8 (hF tx) L L.length).length)/\True)/\(L.length=L.length/\Z7 L.length (Z2 L) λ(j:Nat)=>match(X8 (hF tx) L L.length).length.ble j&&j.blt ((X8 (hF tx) L L.length).length+(L.length- (X8 (hF tx) L L.length).length)) with|true=>[Ji 0,Ji 0,Ji 0,Ji 0]|false=>[Ji ((D8 (hF tx) L L.length).getD j dz).tx,Ji ((D8 (hF tx) L L.length).getD j dz).ta,Ji ((D8 (hF tx) L L.length).getD j dz).row,Ji ((D8 (hF tx) L L.length).getD j dz).mo])/\(1=1/\1=1/\tx=tx/\True)/\True) (Ri (S6 x.1.length (d1 x.1 x.2)+1)/\(∃(X:{j:Nat//j<=L.length}),((0=0/\L.length=L.length)/\(Fn.func 368=Fn.func 368/\(0=0/\0=0)/\True)/\S6 x.1.length (d1 x.1 x.2)=(↑(X8 (hF tx) L X.val).length:Int)/\S6 x.1.length (d1 x.1 x.2)+1=(X.val:Int)/\True)/\(L.length=L.length/\Z7 L.length (Z2 L) (Z2 (D8 (hF tx) L X.val)))/\(1=1/\1=1/\tx=tx/\True)/\True)/\∀(x:{j:Nat//j<=L.length}),bd ((x.1:Int)<(L.length:Int)) (W9 (x.1:Int) L.length/\Lt (0+(x.1:Int).toNat) L.length/\∃(X:(Lck×Int)),(((((D8 (hF tx) L x.1).getD (0+(x.1:Int).toNat) dz).tx=X.1.tx/\((D8 (hF tx) L x.1).getD (0+(x.1:Int).toNat) dz).ta=X.1.ta/\((D8 (hF tx) L x.1).getD (0+(x.1:Int).toNat) dz).row=X.1.row/\((D8 (hF tx) L x.1).getD (0+(x.1:Int).toNat) dz).mo=X.1.mo/\True)/\(tx=X.2/\True)/\True)/\True)/\br (!X.1.tx==X.2) (W9 (↑(X8 (hF tx) L x.1).length:Int) L.length/\Lt (0+(↑(X8 (hF tx) L x.1).length:Int).toNat) L.length/\Ri ((↑(X8 (hF tx) L x.1).length:Int)+1)/\Ri ((x.1:Int)+1)/\∃(y:{j:Nat//j<=L.length}),(((0=0/\L.length=L.length)/\(Fn.func 368=Fn.func 368/\(0=0/\0=0)/\True)/\(↑(X8 (hF tx) L x.1).length:Int)+1=(↑(X8 (hF tx) L y.1).length:Int)/\(x.1:Int)+1=(y.1:Int)/\True)/\(L.length=L.length/\Z7 L.length (setRow (Z2 (D8 (hF tx) L x.1)) (0+(↑(X8 (hF tx) L x.1).length:Int).toNat) 0 [Ji ((D8 (hF tx) L x.1).getD (0+(x.1:Int).toNat) dz).tx,Ji ((D8 (hF tx) L x.1).getD (0+(x.1:Int).toNat) dz).ta,Ji ((D8 (hF tx) L x.1).getD (0+(x.1:Int).toNat) dz).row,Ji ((D8 (hF tx) L x.1).getD (0+(x.1:Int).toNat) dz).mo]) (Z2 (D8 (hF tx) L y.1)))/\(1=1/\1=1/\tx=tx/\True)/\True)/\Lt (L.length-y.1) (L.length-x.1)) (Ri ((x.1:Int)+1)/\∃(y:{j:Nat//j<=L.length}),(((0=0/\L.length=L.length)/\(Fn.func 368=Fn.func 368/\(0=0/\0=0)/\True)/\(↑(X8 (hF tx) L x.1).length:Int)=(↑(X8 (hF tx) L y.1).length:Int)/\(x.1:Int)+1=(y.1:Int)/\True)/\(L.length=L.length/\Z7 L.length (Z2 (D8 (hF tx) L x.1)) (Z2 (D8 (hF tx) L y.1)))/\(1=1/\1=1/\tx=tx/\True)/\True)/\Lt (L.length-y.1) (L.length-x.1))) (jX (↑(X8 (hF tx) L x.1).length:Int) L.length/\Le (0+(↑(X8 (hF tx) L x.1).length:Int).toNat+(L.length- (↑(X8 (hF tx) L x.1).length:Int).toNat)) L.length/\jX (↑(X8 (hF tx) L x.1).length:Int) L.length/\((0=0/\(↑(X8 (hF tx) L x.1).length:Int).toNat=(X8 (hF tx) L L.length).length)/\True)/\(L.length=L.length/\Z7 L.length (λ(j:Nat)=>match(0+(↑(X8 (hF tx) L x.1).length:Int).toNat).ble j&&j.blt (0+(↑(X8 (hF tx) L x.1).length:Int).toNat+(L.length- (↑(X8 (hF tx) L x.1).length:Int).toNat)) with|true=>[Ji 0,Ji 0,Ji 0,Ji 0]|false=>[Ji ((D8 (hF tx) L x.1).getD j dz).tx,Ji ((D8 (hF tx) L x.1).getD j dz).ta,Ji ((D8 (hF tx) L x.1).getD j dz).row,Ji ((D8 (hF tx) L x.1).getD j dz).mo]) λ(j:Nat)=>match(X8 (hF tx) L L.length).length.ble j&&j.blt ((X8 (hF tx) L L.length).length+(L.length- (X8 (hF tx) L L.length).length)) with|true=>[Ji 0,Ji 0,Ji 0,Ji 0]|false=>[Ji ((D8 (hF tx) L L.length).getD j dz).tx,Ji ((D8 (hF tx) L L.length).getD j dz).ta,Ji ((D8 (hF tx) L L.length).getD j dz).row,Ji ((D8 (hF tx) L L.length).getD j dz).mo])/\(1=1/\1=1/\tx=tx/\True)/\True))):
  G3 prog 367 [.osl 0 0 L.length,.fn (.func 368) [.ref 1 0 0]] [yY L,sM tx] (.osl 0 0 (X8 (hF tx) L L.length).length) [c83 L tx,sM tx]:=
 C6 (gC a7N (gC a5d gN)) func367 (b5H L tx) [cG] h
def c02:Con:=.reff ⟨List Wt×Int,λx=>[.osl 0 0 x.1.length,.fn (.func 369) [.ref 1 0 0]],λx=>[sU x.1,sM x.2],λx=>.osl 0 0 (X8 (wF x.2) x.1 x.1.length).length,λx=>[sU (X8 (wF x.2) x.1 x.1.length),sM x.2],λx=>x.1.length<=1048576⟩
def c3a(L:List Wt)(tx:Int):Nat->Ann
 |0=>.one {j:Nat//j<=L.length} (λx=>⟨[(0,.osl 0 0 L.length),(1,.fn (.func 369) [.ref 1 0 0]),(5,Ji (X8 (wF tx) L x.1).length),(6,Ji x.1)],[some (.arr true 0 2 L.length (Y7 (D8 (wF tx) L x.1))),sM tx]⟩) (λx=>L.length-x.1) cG cG (λ_=>Z3)
 |_=>.none
def c01(L:List Wt)(tx:Int)(h:
  ∃(x:(List Wt×Int)),(Le (0+L.length) L.length/\((Z0 Y7 L x.1)/\(Fn.func 369=Fn.func 369/\(tx=x.2/\True)/\True)/\True)/\L9 x.1.length)/\br (S6 x.1.length (d2 x.1 x.2)==(-1:Int)) (((0=0/\L.length=(X8 (wF tx) L L.length).length)/\True)/\(L.length=L.length/\Z7 L.length (Y7 L) λ(j:Nat)=>match(X8 (wF tx) L L.length).length.ble j&&j.blt ((X8 (wF tx) L L.length).length+(L.length- (X8 (wF tx) L L.length).length)) with|true=>[Ji 0,Ji 0]|false=>[Ji ((D8 (wF tx) L L.length).getD j dz).tx,Ji ((D8 (wF tx) L L.length).getD j dz).fo])/\(1=1/\1=1/\tx=tx/\True)/\True) (Ri (S6 x.1.length (d2 x.1 x.2)+1)/\(∃(X:{j:Nat//j<=L.length}),((0=0/\L.length=L.length)/\(Fn.func 369=Fn.func 369/\(0=0/\0=0)/\True)/\S6 x.1.length (d2 x.1 x.2)=(↑(X8 (wF tx) L X.val).length:Int)/\S6 x.1.length (d2 x.1 x.2)+1=(X.val:Int)/\True)/\(L.length=L.length/\Z7 L.length (Y7 L) (Y7 (D8 (wF tx) L X.val)))/\(1=1/\1=1/\tx=tx/\True)/\True)/\∀(x:{j:Nat//j<=L.length}),bd ((x.1:Int)<(L.length:Int)) (W9 (x.1:Int) L.length/\Lt (0+(x.1:Int).toNat) L.length/\∃(X:(Wt×Int)),(((((D8 (wF tx) L x.1).getD (0+(x.1:Int).toNat) dz).tx=X.1.tx/\((D8 (wF tx) L x.1).getD (0+(x.1:Int).toNat) dz).fo=X.1.fo/\True)/\(tx=X.2/\True)/\True)/\True)/\br (!(X.1.tx==X.2||X.1.fo==X.2)) (W9 (↑(X8 (wF tx) L x.1).length:Int) L.length/\Lt (0+(↑(X8 (wF tx) L x.1).length:Int).toNat) L.length/\Ri ((↑(X8 (wF tx) L x.1).length:Int)+1)/\Ri ((x.1:Int)+1)/\∃(y:{j:Nat//j<=L.length}),(((0=0/\L.length=L.length)/\(Fn.func 369=Fn.func 369/\(0=0/\0=0)/\True)/\(↑(X8 (wF tx) L x.1).length:Int)+1=(↑(X8 (wF tx) L y.1).length:Int)/\(x.1:Int)+1=(y.1:Int)/\True)/\(L.length=L.length/\Z7 L.length (setRow (Y7 (D8 (wF tx) L x.1)) (0+(↑(X8 (wF tx) L x.1).length:Int).toNat) 0 [Ji ((D8 (wF tx) L x.1).getD (0+(x.1:Int).toNat) dz).tx,Ji ((D8 (wF tx) L x.1).getD (0+(x.1:Int).toNat) dz).fo]) (Y7 (D8 (wF tx) L y.1)))/\(1=1/\1=1/\tx=tx/\True)/\True)/\Lt (L.length-y.1) (L.length-x.1)) (Ri ((x.1:Int)+1)/\∃(y:{j:Nat//j<=L.length}),(((0=0/\L.length=L.length)/\(Fn.func 369=Fn.func 369/\(0=0/\0=0)/\True)/\(↑(X8 (wF tx) L x.1).length:Int)=(↑(X8 (wF tx) L y.1).length:Int)/\(x.1:Int)+1=(y.1:Int)/\True)/\(L.length=L.length/\Z7 L.length (Y7 (D8 (wF tx) L x.1)) (Y7 (D8 (wF tx) L y.1)))/\(1=1/\1=1/\tx=tx/\True)/\True)/\Lt (L.length-y.1) (L.length-x.1))) (jX (↑(X8 (wF tx) L x.1).length:Int) L.length/\Le (0+(↑(X8 (wF tx) L x.1).length:Int).toNat+(L.length- (↑(X8 (wF tx) L x.1).length:Int).toNat)) L.length/\jX (↑(X8 (wF tx) L x.1).length:Int) L.length/\((0=0/\(↑(X8 (wF tx) L x.1).length:Int).toNat=(X8 (wF tx) L L.length).length)/\True)/\(L.length=L.length/\Z7 L.length (λ(j:Nat)=>match(0+(↑(X8 (wF tx) L x.1).length:Int).toNat).ble j&&j.blt (0+(↑(X8 (wF tx) L x.1).length:Int).toNat+(L.length- (↑(X8 (wF tx) L x.1).length:Int).toNat)) with|true=>[Ji 0,Ji 0]|false=>[Ji ((D8 (wF tx) L x.1).getD j dz).tx,Ji ((D8 (wF tx) L x.1).getD j dz).fo]) λ(j:Nat)=>match(X8 (wF tx) L L.length).length.ble j&&j.blt ((X8 (wF tx) L L.length).length+(L.length- (X8 (wF tx) L L.length).length)) with|true=>[Ji 0,Ji 0]|false=>[Ji ((D8 (wF tx) L L.length).getD j dz).tx,Ji ((D8 (wF tx) L L.length).getD j dz).fo])/\(1=1/\1=1/\tx=tx/\True)/\True))):
  G3 prog 285 [.osl 0 0 L.length,.fn (.func 369) [.ref 1 0 0]] [sU L,sM tx] (.osl 0 0 (X8 (wF tx) L L.length).length) [c9D L tx,sM tx]:=
 C6 (gC b2q (gC a4h gN)) func285 (c3a L tx) [cG] h
def a19{n:Nat}{p:Nat->Bool}(h:S6 n p= -1):∀q,q<n->p q=false:=by
 intro q;induction q using Nat.strongRecOn with
 |ind q i=>
  intro Q;cases hp:p q with
  |false=>rfl
  |true=>
   have:=N9 Q hp λj J=>i j J Z9
   rw[this] at h;omega
def fN{n:Nat}{p:Nat->Bool}(h:(S6 n p==(-1:Int))=false):∃i,i<n/\p i=true/\(∀j,j<i->p j=false)/\S6 n p=(i:Int):=by
 refine lX λN=>?_
 cases A:anyI n p with
 |false=>
  rw[K2 (P5.1 A)] at h;cases h
 |true=>
  obtain⟨i,hi,hp⟩:=R9.1 A;have f:∃i,i<n/\p i=true/\∀j,j<i->p j=false:=by
   induction i using Nat.strongRecOn with
   |ind i I=>
    by_cases d:∃j,j<i/\p j=true
    ·obtain⟨j,d,J⟩:=d;exact I j d Z9 J
    ·refine⟨i,hi,hp,λj hj'=>?_⟩
     cases J:p j with
     |false=>rfl
     |true=>exact absurd ⟨j,hj',J⟩ d
  obtain⟨i,hi,hp,l⟩:=f;rw[N9 hi hp l] at N;omega
def a14{α:Type}[Inhabited α]{ts:α->List T}{m:Nat}(M:∀a,(ts a).length=m){f:α->Bool}{L:List α}{j:Nat}(h:f (L.getD j dz)=true):Z7 L.length (setRow (λi=>ts ((D8 f L j).getD i dz)) (X8 f L j).length 0 (ts (L.getD j dz))) λi=>ts ((D8 f L (j+1)).getD i dz):=λi _=>by
 rw[E6 (by rw[M,M])]
 dsimp only;rw[c9S h];cases B:Nat.beq i (X8 f L j).length with
 |true=>
  rw[if_pos (F5 B)]
 |false=>
  rw[if_neg λe=>by rw[e,Nat.beq_refl] at B;cases B]
def eH{row row':Nat->List T}{n m:Nat}{z:List T}(h:∀i,i<n->row i=row' i)(M:n<=m):Z7 n row (H8 row' m (n-m) z):=λi hi=>by
 unfold H8;cases B:Nat.ble m i with
 |true=>exact absurd (yH B) Z9
 |false=>exact h i hi
def a2u{α:Type}[Inhabited α]{ts:α->List T}{sz:Nat}{f:α->Bool}{L:List α}{z:List T}{b:Option Ob}(h:(X8 f L L.length).length<=L.length):c7N [some (.arr true 0 sz L.length (H8 (λi=>ts ((D8 f L L.length).getD i dz)) (X8 f L L.length).length (L.length- (X8 f L L.length).length) z)),b] [some (.arr true 0 sz (X8 f L L.length).length (λi=>ts ((X8 f L L.length).getD i dz))),b]:=c1x λo' o=>by
 simp only[X0] at o;subst o;refine⟨_,rfl,.inr ⟨_,_,_,_,_,_,_,rfl,rfl,h,λi hi=>?_⟩⟩
 unfold H8;cases B:Nat.ble (X8 f L L.length).length i with
 |true=>exact absurd (yH B) Z9
 |false=>exact(congrArg ts (c8W hi)).symm
def b3D:GK 367 b9z:=gk func367<|by
 rintro⟨L,tx⟩ (hL:L.length<=1048576);have l:=q7 (hF tx) L L.length;refine gW (b5L L tx ⟨(L,tx),⟨uA _,Z8,rU⟩,λn=>?_,λn=>?_⟩) (a2u (ts:=Lck.ts) l)
 ·obtain⟨e,d⟩:=lL (f:=hF tx) (U9 L.length) λq Q=>by
   have:=a19 (beq_iff_eq.1 n) q Q;unfold d1 at this;unfold hF bne;rw[this];rfl
  refine⟨⟨⟨rfl,e.symm⟩,Z6⟩,⟨rfl,?_⟩,Z8⟩
  exact eH (row:=Z2 L) (row':=Z2 (D8 (hF tx) L L.length)) (z:=c8q) (λi _=>by rw[d]) (Nat.le_of_eq e.symm)
 ·obtain⟨i,hi,hp,g,h⟩:=fN n;have hi:i<L.length:=hi;obtain⟨e,d⟩:=lL (f:=hF tx) (L:=L) (j:=i) Z9 λq Q=>by
   have:=g q Q;unfold d1 at this;unfold hF bne;rw[this];rfl
  have I:hF tx (L.getD i dz)=false:=by
   unfold d1 at hp;unfold hF bne;rw[hp];rfl
  have o:(X8 (hF tx) L (i+1)).length=i:=by rw[pR I];exact e
  have r:D8 (hF tx) L (i+1)=L:=by rw[b3k I];exact d
  have h:S6 L.length (d1 L tx)=(i:Int):=h;refine⟨?_,⟨⟨i+1,hi⟩,⟨Z8,Z8,?_,?_,Z6⟩,⟨rfl,?_⟩,Z8⟩,λx=>⟨λhc=>?_,λhc=>?_⟩⟩
  ·dsimp only;rw[h];exact Z4 Z9
  ·dsimp only;rw[h,o]
  ·dsimp only;rw[h];omega
  ·dsimp only;rw[r];exact X6 _ _
  ·have hlt:=Y2 hc;have hle:=q7 (hF tx) L x.1;have e0:(D8 (hF tx) L x.1).getD x.1 dz=L.getD x.1 dz:=b6p hle;rw[E3,E3,D4,D4,e0];refine⟨Y6 hlt,hlt,(L.getD x.1 dz,tx),Z8,λhd=>?_,λhd=>?_⟩
   ·have hd:hF tx (L.getD x.1 dz)=true:=by
     exact hd
    exact⟨Y6 Z9,Q2,Z4 Z9,Z4 Z9,⟨x.1+1,hlt⟩,⟨⟨Z8,Z8,congrArg Int.ofNat (rE hd),X5,Z6⟩,⟨rfl,a14 (m:=4) (ts:=Lck.ts) (λ_=>rfl) hd⟩,Z8⟩,V5.ext_lt hlt⟩
   ·have hd:hF tx (L.getD x.1 dz)=false:=by
     exact hd
    refine⟨Z4 Z9,⟨x.1+1,hlt⟩,⟨⟨Z8,Z8,?_,X5,Z6⟩,⟨rfl,?_⟩,Z8⟩,V5.ext_lt hlt⟩
    ·dsimp only;rw[pR hd]
    ·dsimp only;rw[b3k hd];exact X6 _ _
  ·have hx:x.1=L.length:=by have:=x.2;have:=Y0 hc;omega
   rw[hx,E3,D4];exact⟨⟨Z9,Z9⟩,K0,⟨Z9,Z9⟩,Z8⟩
def b9r:GK 285 c02:=gk func285<|by
 rintro⟨L,tx⟩ (hL:L.length<=1048576);have l:=q7 (wF tx) L L.length;refine gW (c01 L tx ⟨(L,tx),⟨uA _,Z8,rU⟩,λn=>?_,λn=>?_⟩) (a2u (ts:=Wt.ts) l)
 ·obtain⟨e,d⟩:=lL (f:=wF tx) (U9 L.length) λq Q=>by
   have:=a19 (beq_iff_eq.1 n) q Q;unfold d2 at this;unfold wF bne;rw[←Bool.not_or,this];rfl
  refine⟨⟨⟨rfl,e.symm⟩,Z6⟩,⟨rfl,?_⟩,Z8⟩
  exact eH (row:=Y7 L) (row':=Y7 (D8 (wF tx) L L.length)) (z:=zWt) (λi _=>by rw[d]) (Nat.le_of_eq e.symm)
 ·obtain⟨i,hi,hp,g,h⟩:=fN n;have hi:i<L.length:=hi;obtain⟨e,d⟩:=lL (f:=wF tx) (L:=L) (j:=i) Z9 λq Q=>by
   have:=g q Q;unfold d2 at this;unfold wF bne;rw[←Bool.not_or,this];rfl
  have I:wF tx (L.getD i dz)=false:=by
   unfold d2 at hp;unfold wF bne;rw[←Bool.not_or,hp];rfl
  have o:(X8 (wF tx) L (i+1)).length=i:=by rw[pR I];exact e
  have r:D8 (wF tx) L (i+1)=L:=by rw[b3k I];exact d
  have h:S6 L.length (d2 L tx)=(i:Int):=h;refine⟨?_,⟨⟨i+1,hi⟩,⟨Z8,Z8,?_,?_,Z6⟩,⟨rfl,?_⟩,Z8⟩,λx=>⟨λhc=>?_,λhc=>?_⟩⟩
  ·dsimp only;rw[h];exact Z4 Z9
  ·dsimp only;rw[h,o]
  ·dsimp only;rw[h];omega
  ·dsimp only;rw[r];exact X6 _ _
  ·have hlt:=Y2 hc;have hle:=q7 (wF tx) L x.1;have e0:(D8 (wF tx) L x.1).getD x.1 dz=L.getD x.1 dz:=b6p hle;rw[E3,E3,D4,D4,e0];refine⟨Y6 hlt,hlt,(L.getD x.1 dz,tx),Z8,λhd=>?_,λhd=>?_⟩
   ·have hd:wF tx (L.getD x.1 dz)=true:=by
     unfold wF bne;rw[←Bool.not_or];exact hd
    exact⟨Y6 Z9,Q2,Z4 Z9,Z4 Z9,⟨x.1+1,hlt⟩,⟨⟨Z8,Z8,congrArg Int.ofNat (rE hd),X5,Z6⟩,⟨rfl,a14 (m:=2) (ts:=Wt.ts) (λ_=>rfl) hd⟩,Z8⟩,V5.ext_lt hlt⟩
   ·have hd:wF tx (L.getD x.1 dz)=false:=by
     unfold wF bne;rw[←Bool.not_or];exact hd
    refine⟨Z4 Z9,⟨x.1+1,hlt⟩,⟨⟨Z8,Z8,?_,X5,Z6⟩,⟨rfl,?_⟩,Z8⟩,V5.ext_lt hlt⟩
    ·dsimp only;rw[pR hd]
    ·dsimp only;rw[b3k hd];exact X6 _ _
  ·have hx:x.1=L.length:=by have:=x.2;have:=Y0 hc;omega
   rw[hx,E3,D4];exact⟨⟨Z9,Z9⟩,K0,⟨Z9,Z9⟩,Z8⟩
def frE(e:Eng)(tx:Int):Eng:={e with lk:=frK e.lk tx}
def c5t:Con:=.reff ⟨Eng×Int×Nat,λx=>[.ref 0 0 11,Ji x.2.1],λx=>x.1.bx x.2.2,λ_=>.tup [],λx=>(frE x.1 x.2.1).nx x.2.2,λx=>x.1.lk.H.length<=1048576/\x.1.lk.W.length<=1048576⟩
def c0P:GK 331 c5t:=gk func331<|by
 rintro⟨e,tx,v⟩ ⟨h,f⟩;dsimp only at h f;exact C6 (gC b3D (gC b9r gN)) func331 Z3 aW (α:=let q:=(X8 (wF tx) e.lk.W e.lk.W.length);let p:=(X8 (hF tx) e.lk.H e.lk.H.length);∃(x:(List Lck×Int)),let u:=x.1.length;let r:=(X8 (hF x.2) x.1 u);(((0=0/\e.lk.H.length=u)/\(Fn.func 368=Fn.func 368/\(0=0/\0=0)/\True)/\True)/\((Z0 Z2 e.lk.H x.1)/\(1=1/\Z7 1 (λ(x:Nat)=>[Ji tx]) λ(X:Nat)=>[Ji x.2])/\True)/\u<=1048576)/\∃(X:(List Wt×Int)),let z:=(X8 (wF X.2) X.1 X.1.length);(((0=0/\e.lk.W.length=X.1.length)/\(Fn.func 369=Fn.func 369/\(0=0/\0=0)/\True)/\True)/\((Z0 Y7 e.lk.W X.1)/\(1=1/\Z7 1 (λ(x_2:Nat)=>[Ji x.2]) λ(x:Nat)=>[Ji X.2])/\True)/\X.1.length<=1048576)/\(True/\True)/\(1=1/\1=1/\(0=0/\e.s.d.E.length=e.s.d.E.length)/\(0=0/\e.s.d.C.length=e.s.d.C.length)/\e.s.d.A=e.s.d.A/\(0=0/\e.s.d.keep.length=e.s.d.keep.length)/\e.s.ep=e.s.ep/\(0=0/\e.s.L.length=e.s.L.length)/\e.s.S=e.s.S/\(0=0/\e.s.fr.length=e.s.fr.length)/\e.s.J=e.s.J/\e.up=e.up/\(0=0/\e.X.length=e.X.length)/\(0=0/\r.length=p.length)/\(0=0/\z.length=q.length)/\e.N=e.N/\True)/\True/\True/\True/\True/\True/\True/\True/\True/\(Z0 Z5 e.s.d.E e.s.d.E)/\(Z0 Z1 e.s.d.C e.s.d.C)/\(Z0 Y9 e.s.d.keep e.s.d.keep)/\(Z0 Y1 e.s.L e.s.L)/\(v=v/\e.s.fr.length=e.s.fr.length/\V2 e.s.fr.length (Y5 e.s.fr) (Y5 e.s.fr))/\(Z0 X2 e.X e.X)/\(Z0 Z2 r p)/\(Z0 Y7 z q)/\True) ⟨(e.lk.H,tx),⟨Z8,Z8,h⟩,(e.lk.W,tx),⟨Z8,Z8,f⟩,Z8⟩
def OvB(e:Eng)(tx:Int)(k:Nat):Prop:=T8 e.X tx=k/\k<e.X.length/\(e.X.getD k dz).id=tx/\e.X.length<=1000/\e.lk.H.length<=1048576/\e.lk.W.length<=1048576
def c7R:Con:=.reff ⟨Eng×Int×Nat×Nat,λx=>[.ref 0 0 0,Ji x.2.1],λx=>x.1.bx x.2.2.2,λ_=>.tup [],λx=>(b2h x.1 x.2.2.1).nx x.2.2.2,λx=>OvB x.1 x.2.1 x.2.2.1⟩
def c7M(e:Eng)(tx:Int)(k v:Nat)(h:
let u:=(List.take k e.X++List.drop (k+1) e.X);let p:=(e.X.getD k dz).id;let w:=(X8 (wF p) e.lk.W e.lk.W.length);let y:=(X8 (hF p) e.lk.H e.lk.H.length);  ∃(x:(Eng×Int)),((LeG e)/\((oM e x.1)/\tx=x.2/\True)/\L9 x.1.X.length)/\Ri (T8 x.1.X x.2+1)/\∃(X:(List Txn×Nat)),(((0=0/\e.X.length=X.1.length)/\T8 x.1.X x.2=(X.2:Int)/\T8 x.1.X x.2+1=(↑(X.2+1):Int)/\True)/\((Z0 X2 e.X X.1)/\True)/\X.2<X.1.length)/\∃(x:(Eng×Int×Nat)),let j:=x.1.lk;let z:=(X8 (wF x.2.1) j.W j.W.length);let r:=(X8 (hF x.2.1) j.H j.H.length);let q:=x.1.s;(((0=0/\11=11)/\tx=x.2.1/\True)/\(iM (v) (x.2.2) {e with X:=(xD X.1 X.2)} x.1)/\j.H.length<=1048576/\j.W.length<=1048576)/\(True/\True)/\(1=1/\1=1/\(0=0/\q.d.E.length=e.s.d.E.length)/\(0=0/\q.d.C.length=e.s.d.C.length)/\q.d.A=e.s.d.A/\(0=0/\q.d.keep.length=e.s.d.keep.length)/\q.ep=e.s.ep/\(0=0/\q.L.length=e.s.L.length)/\q.S=e.s.S/\(0=0/\q.fr.length=e.s.fr.length)/\q.J=e.s.J/\x.1.up=e.up/\(0=0/\x.1.X.length=u.length)/\(0=0/\r.length=y.length)/\(0=0/\z.length=w.length)/\x.1.N=e.N/\True)/\True/\True/\True/\True/\True/\True/\True/\True/\(Z0 Z5 q.d.E e.s.d.E)/\(Z0 Z1 q.d.C e.s.d.C)/\(Z0 Y9 q.d.keep e.s.d.keep)/\(Z0 Y1 q.L e.s.L)/\(x.2.2=v/\q.fr.length=e.s.fr.length/\V2 q.fr.length (Y5 q.fr) (Y5 e.s.fr))/\(Z0 X2 x.1.X u)/\(Z0 Z2 r y)/\(Z0 Y7 z w)/\True):
  G3 prog 251 [.ref 0 0 0,Ji tx] (e.bx v) (.tup []) ((b2h e k).nx v):=
 C6 (gC qT (gC b18 (gC c0P gN))) func251 Z3 aW h
def c2u:GK 251 c7R:=gk func251<|by
 rintro⟨e,tx,k,v⟩ ⟨h,d,hi,i,f,g⟩;dsimp only at h d hi i f g;subst hi;refine c7M e _ k v ⟨(e,_),⟨Z8,Z8,rU⟩,by rw[h];exact Z4 Z9,(e.X,k),⟨⟨Z8,h,by rw[h];rfl,Z6⟩,⟨⟨rfl,X6 _ _⟩,Z6⟩,d⟩,({e with X:=xD e.X k},_,v),⟨Z8,Z8,f,g⟩,Z8⟩
def b8n:Con:=.rel ⟨Eng×Int,λx=>[.bref x.1.ts,Ji x.2],λx=>Ji (G5 x.1 x.2).2,λx=>L9 x.1.X.length⟩
def b1v:GK 124 b8n:=gk func124<|by
 rintro⟨e,tx⟩ (hL:L9 e.X.length);refine U5 (gC qT gN) func124 Z3 (α:=let p:=(G5 e tx).2;br (!e.up) (15=p) (∃(x:(Eng×Int)),(((L0 e x.1)/\tx=x.2/\True)/\L9 x.1.X.length)/\bd (T8 x.1.X x.2<0) (19=p) (0=p))) ⟨λh=>by rw[c8K h],λh=>⟨(e,tx),⟨Z8,hL⟩,λq=>by rw[c82 h q],λq=>by rw[c8F h q]⟩⟩
end
end Go.Proofs.YtpdnnhnfongoeaaGreat
