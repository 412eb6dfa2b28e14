/- A part of the proof. -/
import Derived.Test.YtpdnnhnfongoeaaGreatX1
import Derived.Test.YtpdnnhnfongoeaaGreatE4
import Derived.WalkKit
import Derived.Deep.RegionLaw
import Derived.Deep.LoopGhost
import Derived.Lib.SliceRun
import Derived.Deep.MidRow
import Derived.Shelf.RegionOpenPlain
import Derived.Laws.IdiomCopy
namespace Go.Proofs.YtpdnnhnfongoeaaGreat
set_option maxRecDepth 100000
open Go.SS Go.Proofs.Tryz
noncomputable section
def sQ(L:List Txn):Option Ob:=some (.arr true 0 2 L.length (X2 L))
theorem kT(L:List Txn):C6 [sQ L]:=B0 (λi _ t h=>by
 simp only[X2,Txn.ts,vM,j_i,or_false] at h;rcases h with rfl|rfl<;>rfl) v7
def c2G:Con:=.rmk ⟨List Txn,λL=>[tU L],λ_=>[],λL=>.osl 0 0 L.length,λL=>[sQ L],λL=>L.length<=1048576⟩
theorem c16(L:List Txn)(h:
  ∀(b:Bool),(b=true->L.length=0)->br b (((0=0/\0=L.length)/\True)/\(0=L.length/\Z8 0 (λ(x:Nat)=>[]) (X2 L))/\True) ((Le 0 0/\U8 0 L.length 16)/\((0=0/\0+L.length=L.length)/\True)/\(0+L.length=L.length/\Z8 (0+L.length) (X4 (tk 2 []) 0 (X2 L)) (X2 L))/\True)):
  G1 prog 93 [tU L] [] (.osl 0 0 L.length) [sQ L]:=
 C4 gN func93 Z3 b6A h
theorem b7J:GK 93 c2G:=gk func93<|λ(L:List Txn) (hL:L.length<=1048576)=>
 ⟨c16 L (λb B=>⟨λh=>⟨⟨⟨rfl,(B h).symm⟩,Z6⟩,⟨(B h).symm,λi hi=>absurd hi (D0 _)⟩,Z6⟩,λ_=>⟨⟨U9 _,Q9⟩,⟨⟨rfl,Z9⟩,Z6⟩,⟨Z9,v6⟩,Z6⟩⟩),rfl,kT L⟩
def b6D:Con:=.rmk ⟨List Txn,λL=>[tU L],λ_=>[],λL=>.osl 0 0 L.length,λL=>[sQ L],λL=>L.length<=1048576⟩
theorem b2Q:GK 37 b6D:=gk func37<|by
 intro(L:List Txn) (hL:L.length<=1048576);refine⟨C4 (gC b5e gN) func37 (b7a L) pY (α:=let z:=(0=0/\L.length=L.length);let p:=(L.length:Int);(Nn p/\LeI p p/\yN 16 p.toNat 140737488355328/\Lt p.toNat 9223372036854775808)/\(∃(x:Up L.length),((Z0 X2 L L)/\(0=0/\p.toNat=L.length)/\0=(x.1:Int)/\True)/\(p.toNat=L.length/\Z8 p.toNat (λ(x:Nat)=>[Ji 0,Ji 0]) (xW (X2 L) [Ji 0,Ji 0] x.1))/\True)/\∀(x:Up L.length),let r:=(xW (X2 L) [Ji 0,Ji 0] x.1);let q:=(x.1:Int);let u:=(L.getD q.toNat dz);bd (q<p) (W9 q L.length/\∃(X:a9s.ι),(((u.id=X.id/\u.Z=X.Z/\True)/\True)/\True)/\W9 q L.length/\Lt (0+q.toNat) L.length/\Ri (q+1)/\∃(y:Up L.length),(((Z0 X2 L L)/\z/\q+1=(y.1:Int)/\True)/\(L.length=L.length/\Z8 L.length (setRow r (0+q.toNat) 0 [Ji X.id,Ji X.Z]) (xW (X2 L) [Ji 0,Ji 0] y.1))/\True)/\Lt (L.length-y.1) (L.length-x.1)) ((z/\True)/\(L.length=L.length/\Z8 L.length r (X2 L))/\True)) ⟨⟨m0,sG,sW,Q1⟩,⟨⟨0,N7 _⟩,⟨⟨S6,X6 _ _⟩,⟨S6,Z9⟩,Z7⟩,⟨Z9,uS⟩,Z6⟩,λx=>⟨λhc=>?_,λhc=>?_⟩⟩,rfl,kT L⟩
 ·have hlt:=Y2 hc;refine⟨Y6 hlt,L.getD x.1 dz,Z7,Y6 hlt,Q1,W2 hlt Z9,⟨x.1+1,hlt⟩,⟨⟨⟨S6,X6 _ _⟩,⟨S6,S6⟩,L9,Z6⟩,⟨S6,λj hj=>?_⟩,Z6⟩,V5.ext_lt hlt⟩
  exact wV (m:=2) (λ_=>rfl) rfl x.1 rfl j
 ·have hx:x.1=L.length:=by have:=x.2;have:=X9 hc;omega
  rw[hx];exact⟨Z7,⟨rfl,λi hi=>uD (n:=L.length) i Z9⟩,Z6⟩
def I3(n k:Nat):List Txn:=(List.range n).map λi=>⟨((k+2*i:Nat):Int),((k+2*i:Nat):Int)+1⟩
def a6r:Con:=.reff ⟨List Txn×Nat,λx=>[.osl 0 0 x.1.length,Ji x.2],λx=>[sQ x.1],λx=>Ji (x.2+2*x.1.length:Nat),λx=>[sQ (I3 x.1.length x.2)],λx=>nQ x.1.length x.2 2⟩
def a8r(L:List Txn)(k:Nat):Nat->Ann
 |0=>.one (Up L.length) (λx=>⟨[(0,.osl 0 0 L.length),(1,Ji (k+2*x.1:Nat)),(5,Ji x.1)],[some (.arr true 0 2 L.length (i7 (X2 (I3 L.length k)) (X2 L) x.1))]⟩) (λx=>L.length-x.1) [.arr 0] [.arr 0] (λ_=>Z3)
 |_=>.none
theorem a3z:GK 49 a6r:=gk func49<|by
 rintro⟨L,k⟩ ⟨d,h,e⟩;dsimp only at d h e;refine C4 gN func49 (a8r L k) pY (α:=let u:=(0=0/\L.length=L.length);let q:=(X2 (I3 L.length k));(∃(x:Up L.length),(u/\(k:Int)=(↑(k+2*x.1):Int)/\0=(x.1:Int)/\True)/\(L.length=L.length/\Z8 L.length (X2 L) (i7 q (X2 L) x.1))/\True)/\∀(x:Up L.length),let v:=(i7 q (X2 L) x.1);let r:=(x.1:Int);let z:=(0+r.toNat);let p:=(↑(k+2*x.1):Int);bd (r<(L.length:Int)) (W9 r L.length/\Lt z L.length/\Ri (p+1)/\W9 r L.length/\Lt z L.length/\Ri (p+1+1)/\Ri (r+1)/\∃(y:Up L.length),((u/\p+1+1=(↑(k+2*y.1):Int)/\r+1=(y.1:Int)/\True)/\(L.length=L.length/\Z8 L.length (setRow (setRow v z 0 [Ji p]) z 1 [Ji (p+1)]) (i7 q (X2 L) y.1))/\True)/\Lt (L.length-y.1) (L.length-x.1)) ((p=(↑(k+2*L.length):Int)/\True)/\(L.length=(I3 L.length k).length/\Z8 L.length v q)/\True)) ⟨⟨⟨0,N7 _⟩,Z7,⟨rfl,wW⟩,Z6⟩,λx=>⟨λhc=>?_,λhc=>?_⟩⟩
 ·have hlt:=Y2 hc;have ib:=Y6 hlt;have lt:Lt (0+(x.1:Int).toNat) L.length:=by unfold Lt;omega
  refine⟨ib,lt,Z4 Z9,ib,lt,Z4 Z9,Z4 Z9,⟨x.1+1,hlt⟩,⟨⟨Z7,X5,X5,Z6⟩,⟨rfl,λj _=>?_⟩,Z6⟩,V5.ext_lt hlt⟩
  exact uX (m:=2) (λ_=>rfl) (λ_=>rfl) x.1 [(0,Ji (((k+2*x.1:Nat):Int))),(1,Ji (((k+2*x.1:Nat):Int)+1))] W7 (by unfold X2 I3;rw[j3 _ hlt];rfl) j
 ·have hx:x.1=L.length:=by have:=x.2;have:=X9 hc;omega
  rw[hx];exact⟨Z7,⟨(O2 _ _).symm,uC⟩,Z6⟩
def a6o:Con:=.rel ⟨Nat×Nat,λx=>[tU (I3 x.1 x.2),Ji x.2],λx=>Ji (x.2+2*x.1:Nat),λx=>nQ x.1 x.2 2⟩
def a6q(n k:Nat):Nat->Ann
 |0=>.one (Up n) (λx=>⟨[(0,tU (I3 n k)),(1,Ji (k+2*x.1:Nat)),(5,Ji x.1)],[]⟩) (λx=>n-x.1) [] [] (λ_=>Z3)
 |_=>.none
theorem a3Z:GK 52 a6o:=gk func52<|by
 rintro⟨n,k⟩ ⟨g,d,f⟩;dsimp only at g d f;have N:(I3 n k).length=n:=O2 _ _;refine U5 gN func52 (a6q n k) (α:=let v:=(Z0 X2 (I3 n k) (I3 n k));let z:=(I3 n k).length;let r:=(↑(k+2*n):Int);(∃(x:Up n),(v/\(k:Int)=(↑(k+2*x.1):Int)/\0=(x.1:Int)/\True)/\True)/\∀(x:Up n),let q:=(x.1:Int);let u:=((I3 n k).getD q.toNat dz);let p:=(↑(k+2*x.1):Int);bd (q<(↑z:Int)) (W9 q z/\br (u.id !=p) ((-1:Int)=r) (Ri (p+1)/\W9 q z/\br (u.Z !=p+1) ((-1:Int)=r) (Ri (p+1+1)/\Ri (q+1)/\∃(y:Up n),((v/\p+1+1=(↑(k+2*y.1):Int)/\q+1=(y.1:Int)/\True)/\True)/\Lt (n-y.1) (n-x.1)))) (p=r)) ⟨⟨⟨0,N7 _⟩,Z7⟩,λx=>⟨λhc=>?_,λhc=>?_⟩⟩
 ·have hlt:=Y2 hc;have hlt':x.1<n:=by omega
  have e:(I3 n k).getD (x.1:Int).toNat dz=⟨((k+2*x.1:Nat):Int),((k+2*x.1:Nat):Int)+1⟩:=by rw[D8];exact j3 _ hlt' _
  rw[e];have i:=Y6 hlt;exact⟨i,λh=>L3,λ_=>⟨Z4 Z9,i,λh=>L3,λ_=>⟨Z4 Z9,Z4 Z9,⟨x.1+1,hlt'⟩,⟨⟨Z7,X5,X5,Z6⟩,Z6⟩,V5.ext_lt hlt'⟩⟩⟩
 ·have hx:x.1=n:=by have:=x.2;have:=X9 hc;omega
  rw[hx]
def yX(L:List Lck):Option Ob:=some (.arr true 0 4 L.length (Z2 L))
theorem kE(L:List Lck):C6 [yX L]:=B0 (λi _ t h=>by
 simp only[Z2,Lck.ts,vM,j_i,or_false] at h;rcases h with rfl|rfl|rfl|rfl<;>rfl) v7
def c0Y:Con:=.rmk ⟨List Lck,λL=>[wM L],λ_=>[],λL=>.osl 0 0 L.length,λL=>[yX L],λL=>L.length<=1048576⟩
theorem c0U(L:List Lck)(h:
  ∀(b:Bool),(b=true->L.length=0)->br b (((0=0/\0=L.length)/\True)/\(0=L.length/\Z8 0 (λ(x:Nat)=>[]) (Z2 L))/\True) ((Le 0 0/\U8 0 L.length 32)/\((0=0/\0+L.length=L.length)/\True)/\(0+L.length=L.length/\Z8 (0+L.length) (X4 (tk 4 []) 0 (Z2 L)) (Z2 L))/\True)):
  G1 prog 181 [wM L] [] (.osl 0 0 L.length) [yX L]:=
 C4 gN func181 Z3 [[.arr 1],[.nilS 0 [] 0 4,.arr 0]] h
theorem b6k:GK 181 c0Y:=gk func181<|λ(L:List Lck) (hL:L.length<=1048576)=>
 ⟨c0U L (λb B=>⟨λh=>⟨⟨⟨rfl,(B h).symm⟩,Z6⟩,⟨(B h).symm,λi hi=>absurd hi (D0 _)⟩,Z6⟩,λ_=>⟨⟨U9 _,Q9⟩,⟨⟨rfl,Z9⟩,Z6⟩,⟨Z9,v6⟩,Z6⟩⟩),rfl,kE L⟩
def b6I:Con:=.rmk ⟨List Lck,λL=>[wM L],λ_=>[],λL=>.osl 0 0 L.length,λL=>[yX L],λL=>L.length<=1048576⟩
theorem b1L:GK 89 b6I:=gk func89<|by
 intro(L:List Lck) (hL:L.length<=1048576);refine⟨C4 (gC b5m gN) func89 (c0a L) pY (α:=let u:=(0=0/\L.length=L.length);let p:=(L.length:Int);(Nn p/\LeI p p/\yN 32 p.toNat 140737488355328/\Lt p.toNat 9223372036854775808)/\(∃(x:Up L.length),((Z0 Z2 L L)/\(0=0/\p.toNat=L.length)/\0=(x.1:Int)/\True)/\(p.toNat=L.length/\Z8 p.toNat (λ(x:Nat)=>[Ji 0,Ji 0,Ji 0,Ji 0]) (xW (Z2 L) [Ji 0,Ji 0,Ji 0,Ji 0] x.1))/\True)/\∀(x:Up L.length),let r:=(xW (Z2 L) [Ji 0,Ji 0,Ji 0,Ji 0] x.1);let q:=(x.1:Int);let z:=(L.getD q.toNat dz);bd (q<p) (W9 q L.length/\∃(X:a9J.ι),(((z.tx=X.tx/\z.ta=X.ta/\z.row=X.row/\z.mo=X.mo/\True)/\True)/\True)/\W9 q L.length/\Lt (0+q.toNat) L.length/\Ri (q+1)/\∃(y:Up L.length),(((Z0 Z2 L L)/\u/\q+1=(y.1:Int)/\True)/\(L.length=L.length/\Z8 L.length (setRow r (0+q.toNat) 0 [Ji X.tx,Ji X.ta,Ji X.row,Ji X.mo]) (xW (Z2 L) [Ji 0,Ji 0,Ji 0,Ji 0] y.1))/\True)/\Lt (L.length-y.1) (L.length-x.1)) ((u/\True)/\(L.length=L.length/\Z8 L.length r (Z2 L))/\True)) ⟨⟨m0,sG,sW,Q1⟩,⟨⟨0,N7 _⟩,⟨⟨S6,X6 _ _⟩,⟨S6,Z9⟩,Z7⟩,⟨Z9,uS⟩,Z6⟩,λx=>⟨λhc=>?_,λhc=>?_⟩⟩,rfl,kE L⟩
 ·have hlt:=Y2 hc;refine⟨Y6 hlt,L.getD x.1 dz,Z7,Y6 hlt,Q1,W2 hlt Z9,⟨x.1+1,hlt⟩,⟨⟨⟨S6,X6 _ _⟩,⟨S6,S6⟩,L9,Z6⟩,⟨S6,λj hj=>?_⟩,Z6⟩,V5.ext_lt hlt⟩
  exact wV (m:=4) (λ_=>rfl) rfl x.1 rfl j
 ·have hx:x.1=L.length:=by have:=x.2;have:=X9 hc;omega
  rw[hx];exact⟨Z7,⟨rfl,λi hi=>uD (n:=L.length) i Z9⟩,Z6⟩
def M2(n k:Nat):List Lck:=(List.range n).map λi=>⟨((k+4*i:Nat):Int),((k+4*i:Nat):Int)+1,((k+4*i:Nat):Int)+1+1,((k+4*i:Nat):Int)+1+1+1⟩
def a6w:Con:=.reff ⟨List Lck×Nat,λx=>[.osl 0 0 x.1.length,Ji x.2],λx=>[yX x.1],λx=>Ji (x.2+4*x.1.length:Nat),λx=>[yX (M2 x.1.length x.2)],λx=>nQ x.1.length x.2 4⟩
def a9b(L:List Lck)(k:Nat):Nat->Ann
 |0=>.one (Up L.length) (λx=>⟨[(0,.osl 0 0 L.length),(1,Ji (k+4*x.1:Nat)),(5,Ji x.1)],[some (.arr true 0 4 L.length (i7 (Z2 (M2 L.length k)) (Z2 L) x.1))]⟩) (λx=>L.length-x.1) [.arr 0] [.arr 0] (λ_=>Z3)
 |_=>.none
theorem a5H:GK 109 a6w:=gk func109<|by
 rintro⟨L,k⟩ ⟨d,h,e⟩;dsimp only at d h e;refine C4 gN func109 (a9b L k) pY (α:=let u:=(0=0/\L.length=L.length);let r:=(Z2 (M2 L.length k));(∃(x:Up L.length),(u/\(k:Int)=(↑(k+4*x.1):Int)/\0=(x.1:Int)/\True)/\(L.length=L.length/\Z8 L.length (Z2 L) (i7 r (Z2 L) x.1))/\True)/\∀(x:Up L.length),let v:=(i7 r (Z2 L) x.1);let z:=(x.1:Int);let q:=(0+z.toNat);let p:=(↑(k+4*x.1):Int);bd (z<(L.length:Int)) (W9 z L.length/\Lt q L.length/\Ri (p+1)/\W9 z L.length/\Lt q L.length/\Ri (p+1+1)/\W9 z L.length/\Lt q L.length/\Ri (p+1+1+1)/\W9 z L.length/\Lt q L.length/\Ri (p+1+1+1+1)/\Ri (z+1)/\∃(y:Up L.length),((u/\p+1+1+1+1=(↑(k+4*y.1):Int)/\z+1=(y.1:Int)/\True)/\(L.length=L.length/\Z8 L.length (setRow (setRow (setRow (setRow v q 0 [Ji p]) q 1 [Ji (p+1)]) q 2 [Ji (p+1+1)]) q 3 [Ji (p+1+1+1)]) (i7 r (Z2 L) y.1))/\True)/\Lt (L.length-y.1) (L.length-x.1)) ((p=(↑(k+4*L.length):Int)/\True)/\(L.length=(M2 L.length k).length/\Z8 L.length v r)/\True)) ⟨⟨⟨0,N7 _⟩,Z7,⟨rfl,wW⟩,Z6⟩,λx=>⟨λhc=>?_,λhc=>?_⟩⟩
 ·have hlt:=Y2 hc;have ib:=Y6 hlt;have lt:Lt (0+(x.1:Int).toNat) L.length:=by unfold Lt;omega
  refine⟨ib,lt,Z4 Z9,ib,lt,Z4 Z9,ib,lt,Z4 Z9,ib,lt,Z4 Z9,Z4 Z9,⟨x.1+1,hlt⟩,⟨⟨Z7,X5,X5,Z6⟩,⟨rfl,λj _=>?_⟩,Z6⟩,V5.ext_lt hlt⟩
  exact uX (m:=4) (λ_=>rfl) (λ_=>rfl) x.1 [(0,Ji (((k+4*x.1:Nat):Int))),(1,Ji (((k+4*x.1:Nat):Int)+1)),(2,Ji (((k+4*x.1:Nat):Int)+1+1)),(3,Ji (((k+4*x.1:Nat):Int)+1+1+1))] W7 (by unfold Z2 M2;rw[j3 _ hlt];rfl) j
 ·have hx:x.1=L.length:=by have:=x.2;have:=X9 hc;omega
  rw[hx];exact⟨Z7,⟨(O2 _ _).symm,uC⟩,Z6⟩
def a72:Con:=.rel ⟨Nat×Nat,λx=>[wM (M2 x.1 x.2),Ji x.2],λx=>Ji (x.2+4*x.1:Nat),λx=>nQ x.1 x.2 4⟩
def a60(n k:Nat):Nat->Ann
 |0=>.one (Up n) (λx=>⟨[(0,wM (M2 n k)),(1,Ji (k+4*x.1:Nat)),(5,Ji x.1)],[]⟩) (λx=>n-x.1) [] [] (λ_=>Z3)
 |_=>.none
theorem a3d:GK 114 a72:=gk func114<|by
 rintro⟨n,k⟩ ⟨g,d,f⟩;dsimp only at g d f;have N:(M2 n k).length=n:=O2 _ _;refine U5 gN func114 (a60 n k) (α:=let w:=(↑(k+4*n):Int);let v:=(Z0 Z2 (M2 n k) (M2 n k));let u:=(M2 n k).length;let r:=((-1:Int)=w);(∃(x:Up n),(v/\(k:Int)=(↑(k+4*x.1):Int)/\0=(x.1:Int)/\True)/\True)/\∀(x:Up n),let z:=(x.1:Int);let q:=((M2 n k).getD z.toNat dz);let p:=(↑(k+4*x.1):Int);bd (z<(↑u:Int)) (W9 z u/\br (q.tx !=p) r (Ri (p+1)/\W9 z u/\br (q.ta !=p+1) r (Ri (p+1+1)/\W9 z u/\br (q.row !=p+1+1) r (Ri (p+1+1+1)/\W9 z u/\br (q.mo !=p+1+1+1) r (Ri (p+1+1+1+1)/\Ri (z+1)/\∃(y:Up n),((v/\p+1+1+1+1=(↑(k+4*y.1):Int)/\z+1=(y.1:Int)/\True)/\True)/\Lt (n-y.1) (n-x.1)))))) (p=w)) ⟨⟨⟨0,N7 _⟩,Z7⟩,λx=>⟨λhc=>?_,λhc=>?_⟩⟩
 ·have hlt:=Y2 hc;have hlt':x.1<n:=by omega
  have e:(M2 n k).getD (x.1:Int).toNat dz=⟨((k+4*x.1:Nat):Int),((k+4*x.1:Nat):Int)+1,((k+4*x.1:Nat):Int)+1+1,((k+4*x.1:Nat):Int)+1+1+1⟩:=by rw[D8];exact j3 _ hlt' _
  rw[e];have i:=Y6 hlt;exact⟨i,λh=>L3,λ_=>⟨Z4 Z9,i,λh=>L3,λ_=>⟨Z4 Z9,i,λh=>L3,λ_=>⟨Z4 Z9,i,λh=>L3,λ_=>⟨Z4 Z9,Z4 Z9,⟨x.1+1,hlt'⟩,⟨⟨Z7,X5,X5,Z6⟩,Z6⟩,V5.ext_lt hlt'⟩⟩⟩⟩⟩
 ·have hx:x.1=n:=by have:=x.2;have:=X9 hc;omega
  rw[hx]
def sT(L:List Wt):Option Ob:=some (.arr true 0 2 L.length (Y7 L))
theorem rZ(L:List Wt):C6 [sT L]:=B0 (λi _ t h=>by
 simp only[Y7,Wt.ts,vM,j_i,or_false] at h;rcases h with rfl|rfl<;>rfl) v7
def c59:Con:=.rmk ⟨List Wt,λL=>[nF L],λ_=>[],λL=>.osl 0 0 L.length,λL=>[sT L],λL=>L.length<=1048576⟩
theorem c6Q(L:List Wt)(h:
  ∀(b:Bool),(b=true->L.length=0)->br b (((0=0/\0=L.length)/\True)/\(0=L.length/\Z8 0 (λ(x:Nat)=>[]) (Y7 L))/\True) ((Le 0 0/\U8 0 L.length 16)/\((0=0/\0+L.length=L.length)/\True)/\(0+L.length=L.length/\Z8 (0+L.length) (X4 (tk 2 []) 0 (Y7 L)) (Y7 L))/\True)):
  G1 prog 182 [nF L] [] (.osl 0 0 L.length) [sT L]:=
 C4 gN func182 Z3 b6A h
theorem c1H:GK 182 c59:=gk func182<|λ(L:List Wt) (hL:L.length<=1048576)=>
 ⟨c6Q L (λb B=>⟨λh=>⟨⟨⟨rfl,(B h).symm⟩,Z6⟩,⟨(B h).symm,λi hi=>absurd hi (D0 _)⟩,Z6⟩,λ_=>⟨⟨U9 _,Q9⟩,⟨⟨rfl,Z9⟩,Z6⟩,⟨Z9,v6⟩,Z6⟩⟩),rfl,rZ L⟩
def c05:Con:=.rmk ⟨List Wt,λL=>[nF L],λ_=>[],λL=>.osl 0 0 L.length,λL=>[sT L],λL=>L.length<=1048576⟩
theorem b5f:GK 90 c05:=gk func90<|by
 intro(L:List Wt) (hL:L.length<=1048576);refine⟨C4 (gC c3U gN) func90 (c25 L) pY (α:=let z:=(0=0/\L.length=L.length);let p:=(L.length:Int);(Nn p/\LeI p p/\yN 16 p.toNat 140737488355328/\Lt p.toNat 9223372036854775808)/\(∃(x:Up L.length),((Z0 Y7 L L)/\(0=0/\p.toNat=L.length)/\0=(x.1:Int)/\True)/\(p.toNat=L.length/\Z8 p.toNat (λ(x:Nat)=>[Ji 0,Ji 0]) (xW (Y7 L) [Ji 0,Ji 0] x.1))/\True)/\∀(x:Up L.length),let r:=(xW (Y7 L) [Ji 0,Ji 0] x.1);let q:=(x.1:Int);let u:=(L.getD q.toNat dz);bd (q<p) (W9 q L.length/\∃(X:b7w.ι),(((u.tx=X.tx/\u.fo=X.fo/\True)/\True)/\True)/\W9 q L.length/\Lt (0+q.toNat) L.length/\Ri (q+1)/\∃(y:Up L.length),(((Z0 Y7 L L)/\z/\q+1=(y.1:Int)/\True)/\(L.length=L.length/\Z8 L.length (setRow r (0+q.toNat) 0 [Ji X.tx,Ji X.fo]) (xW (Y7 L) [Ji 0,Ji 0] y.1))/\True)/\Lt (L.length-y.1) (L.length-x.1)) ((z/\True)/\(L.length=L.length/\Z8 L.length r (Y7 L))/\True)) ⟨⟨m0,sG,sW,Q1⟩,⟨⟨0,N7 _⟩,⟨⟨S6,X6 _ _⟩,⟨S6,Z9⟩,Z7⟩,⟨Z9,uS⟩,Z6⟩,λx=>⟨λhc=>?_,λhc=>?_⟩⟩,rfl,rZ L⟩
 ·have hlt:=Y2 hc;refine⟨Y6 hlt,L.getD x.1 dz,Z7,Y6 hlt,Q1,W2 hlt Z9,⟨x.1+1,hlt⟩,⟨⟨⟨S6,X6 _ _⟩,⟨S6,S6⟩,L9,Z6⟩,⟨S6,λj hj=>?_⟩,Z6⟩,V5.ext_lt hlt⟩
  exact wV (m:=2) (λ_=>rfl) rfl x.1 rfl j
 ·have hx:x.1=L.length:=by have:=x.2;have:=X9 hc;omega
  rw[hx];exact⟨Z7,⟨rfl,λi hi=>uD (n:=L.length) i Z9⟩,Z6⟩
def A9(n k:Nat):List Wt:=(List.range n).map λi=>⟨((k+2*i:Nat):Int),((k+2*i:Nat):Int)+1⟩
def b4q:Con:=.reff ⟨List Wt×Nat,λx=>[.osl 0 0 x.1.length,Ji x.2],λx=>[sT x.1],λx=>Ji (x.2+2*x.1.length:Nat),λx=>[sT (A9 x.1.length x.2)],λx=>nQ x.1.length x.2 2⟩
def b14(L:List Wt)(k:Nat):Nat->Ann
 |0=>.one (Up L.length) (λx=>⟨[(0,.osl 0 0 L.length),(1,Ji (k+2*x.1:Nat)),(5,Ji x.1)],[some (.arr true 0 2 L.length (i7 (Y7 (A9 L.length k)) (Y7 L) x.1))]⟩) (λx=>L.length-x.1) [.arr 0] [.arr 0] (λ_=>Z3)
 |_=>.none
theorem a7g:GK 110 b4q:=gk func110<|by
 rintro⟨L,k⟩ ⟨d,h,e⟩;dsimp only at d h e;refine C4 gN func110 (b14 L k) pY (α:=let u:=(0=0/\L.length=L.length);let q:=(Y7 (A9 L.length k));(∃(x:Up L.length),(u/\(k:Int)=(↑(k+2*x.1):Int)/\0=(x.1:Int)/\True)/\(L.length=L.length/\Z8 L.length (Y7 L) (i7 q (Y7 L) x.1))/\True)/\∀(x:Up L.length),let v:=(i7 q (Y7 L) x.1);let r:=(x.1:Int);let z:=(0+r.toNat);let p:=(↑(k+2*x.1):Int);bd (r<(L.length:Int)) (W9 r L.length/\Lt z L.length/\Ri (p+1)/\W9 r L.length/\Lt z L.length/\Ri (p+1+1)/\Ri (r+1)/\∃(y:Up L.length),((u/\p+1+1=(↑(k+2*y.1):Int)/\r+1=(y.1:Int)/\True)/\(L.length=L.length/\Z8 L.length (setRow (setRow v z 0 [Ji p]) z 1 [Ji (p+1)]) (i7 q (Y7 L) y.1))/\True)/\Lt (L.length-y.1) (L.length-x.1)) ((p=(↑(k+2*L.length):Int)/\True)/\(L.length=(A9 L.length k).length/\Z8 L.length v q)/\True)) ⟨⟨⟨0,N7 _⟩,Z7,⟨rfl,wW⟩,Z6⟩,λx=>⟨λhc=>?_,λhc=>?_⟩⟩
 ·have hlt:=Y2 hc;have ib:=Y6 hlt;have lt:Lt (0+(x.1:Int).toNat) L.length:=by unfold Lt;omega
  refine⟨ib,lt,Z4 Z9,ib,lt,Z4 Z9,Z4 Z9,⟨x.1+1,hlt⟩,⟨⟨Z7,X5,X5,Z6⟩,⟨rfl,λj _=>?_⟩,Z6⟩,V5.ext_lt hlt⟩
  exact uX (m:=2) (λ_=>rfl) (λ_=>rfl) x.1 [(0,Ji (((k+2*x.1:Nat):Int))),(1,Ji (((k+2*x.1:Nat):Int)+1))] W7 (by unfold Y7 A9;rw[j3 _ hlt];rfl) j
 ·have hx:x.1=L.length:=by have:=x.2;have:=X9 hc;omega
  rw[hx];exact⟨Z7,⟨(O2 _ _).symm,uC⟩,Z6⟩
def b2m:Con:=.rel ⟨Nat×Nat,λx=>[nF (A9 x.1 x.2),Ji x.2],λx=>Ji (x.2+2*x.1:Nat),λx=>nQ x.1 x.2 2⟩
def b3V(n k:Nat):Nat->Ann
 |0=>.one (Up n) (λx=>⟨[(0,nF (A9 n k)),(1,Ji (k+2*x.1:Nat)),(5,Ji x.1)],[]⟩) (λx=>n-x.1) [] [] (λ_=>Z3)
 |_=>.none
theorem a8O:GK 115 b2m:=gk func115<|by
 rintro⟨n,k⟩ ⟨g,d,f⟩;dsimp only at g d f;have N:(A9 n k).length=n:=O2 _ _;refine U5 gN func115 (b3V n k) (α:=let v:=(Z0 Y7 (A9 n k) (A9 n k));let z:=(A9 n k).length;let r:=(↑(k+2*n):Int);(∃(x:Up n),(v/\(k:Int)=(↑(k+2*x.1):Int)/\0=(x.1:Int)/\True)/\True)/\∀(x:Up n),let q:=(x.1:Int);let u:=((A9 n k).getD q.toNat dz);let p:=(↑(k+2*x.1):Int);bd (q<(↑z:Int)) (W9 q z/\br (u.tx !=p) ((-1:Int)=r) (Ri (p+1)/\W9 q z/\br (u.fo !=p+1) ((-1:Int)=r) (Ri (p+1+1)/\Ri (q+1)/\∃(y:Up n),((v/\p+1+1=(↑(k+2*y.1):Int)/\q+1=(y.1:Int)/\True)/\True)/\Lt (n-y.1) (n-x.1)))) (p=r)) ⟨⟨⟨0,N7 _⟩,Z7⟩,λx=>⟨λhc=>?_,λhc=>?_⟩⟩
 ·have hlt:=Y2 hc;have hlt':x.1<n:=by omega
  have e:(A9 n k).getD (x.1:Int).toNat dz=⟨((k+2*x.1:Nat):Int),((k+2*x.1:Nat):Int)+1⟩:=by rw[D8];exact j3 _ hlt' _
  rw[e];have i:=Y6 hlt;exact⟨i,λh=>L3,λ_=>⟨Z4 Z9,i,λh=>L3,λ_=>⟨Z4 Z9,Z4 Z9,⟨x.1+1,hlt'⟩,⟨⟨Z7,X5,X5,Z6⟩,Z6⟩,V5.ext_lt hlt'⟩⟩⟩
 ·have hx:x.1=n:=by have:=x.2;have:=X9 hc;omega
  rw[hx]
def c8c:Con:=.tmp
theorem P5:GK 35 c8c:=gk func35<|trivial
def c68:Con:=.tmp
theorem b0h:GK 302 c68:=gk func302<|trivial
def c7Q:Con:=.tmp
theorem c3T:GK 223 c7Q:=gk func223<|trivial
def Lks.tm(l:Lks)(b:Nat):List T:=[.osl b 0 l.H.length,.osl (b+1) 0 l.W.length]
def Lks.hp(l:Lks):X8:=[yX l.H,sT l.W]
theorem rC(l:Lks):C6 l.hp:=i3 (kE _) (rZ _)
def c2i:Con:=.rmk ⟨Lks,λl=>[.agg l.ts],λ_=>[],λl=>.agg (l.tm 0),λl=>l.hp,uW⟩
theorem b5o:GK 94 c2i:=gk func94<|by
 rintro(l:Lks) ⟨h1,h2⟩;exact⟨C4 (gC b6k (gC c1H gN)) func94 Z3 [[.arr 2,.arr 3]] (α:=∃(x:(List Lck)),let p:=x.length;(((Z0 Z2 l.H x)/\True)/\p<=1048576)/\∃(X:(List Wt)),(((Z0 Y7 l.W X)/\True)/\X.length<=1048576)/\(((0=0/\p=l.H.length)/\(0=0/\X.length=l.W.length)/\True)/\True)/\(p=l.H.length/\Z8 (p) (Z2 x) (Z2 l.H))/\(X.length=l.W.length/\Z8 (X.length) (Y7 X) (Y7 l.W))/\True) ⟨l.H,⟨Z7,h1⟩,l.W,⟨Z7,h2⟩,Z7⟩,rfl,rC l⟩
def b9O:Con:=.rel ⟨Lks,λl=>[.agg l.ts],λl=>.agg l.ts,uW⟩
theorem b3u:GK 84 b9O:=gk func84<|by
 rintro(l:Lks) ⟨h1,h2⟩;exact U5 (gC P5 (gC b0h (gC c3T gN))) func84 Z3 (α:=U8 0 l.H.length 32/\U8 0 l.W.length 16/\(Z0 Z2 l.H l.H)/\(Z0 Y7 l.W l.W)/\True) ⟨Q9,Q9,Z7⟩
def c33:Con:=.rmk ⟨Lks,λl=>[.agg l.ts],λ_=>[],λl=>.agg (l.tm 0),λl=>l.hp,uW⟩
theorem b6y:GK 38 c33:=gk func38<|by
 rintro(l:Lks) ⟨h1,h2⟩;exact⟨C4 (gC b1L (gC b5f gN)) func38 Z3 [[.arr 3,.arr 4]] (α:=∃(x:(List Lck)),let p:=x.length;(((Z0 Z2 l.H x)/\True)/\p<=1048576)/\∃(X:(List Wt)),(((Z0 Y7 l.W X)/\True)/\X.length<=1048576)/\(((0=0/\p=l.H.length)/\(0=0/\X.length=l.W.length)/\True)/\True)/\(p=l.H.length/\Z8 (p) (Z2 x) (Z2 l.H))/\(X.length=l.W.length/\Z8 (X.length) (Y7 X) (Y7 l.W))/\True) ⟨l.H,⟨Z7,h1⟩,l.W,⟨Z7,h2⟩,Z7⟩,rfl,rC l⟩
def b65(l:Lks)(k:Nat):Lks:=⟨M2 l.H.length k,A9 l.W.length (k+4*l.H.length)⟩
def bE(l:Lks)(k:Nat):Nat:=k+4*l.H.length+2*l.W.length
def KBl(l:Lks)(k:Nat):Prop:=uW l/\1<=k/\k<=9000000000000
def b3e:Con:=.reff ⟨Lks×Nat,λx=>[.agg (x.1.tm 0),Ji x.2],λx=>x.1.hp,λx=>Ji (bE x.1 x.2),λx=>(b65 x.1 x.2).hp,λx=>KBl x.1 x.2⟩
theorem a53:GK 50 b3e:=gk func50<|by
 rintro⟨l,k⟩ ⟨⟨e,h⟩,d,f⟩;dsimp only at e h d f;exact C4 (gC a5H (gC a7g gN)) func50 Z3 [[.arr 0,.arr 1]] (α:=∃(x:(List Lck×Nat)),(((0=0/\l.H.length=x.1.length)/\(k:Int)=(x.2:Int)/\True)/\((Z0 Z2 l.H x.1)/\True)/\nQ x.1.length x.2 4)/\∃(X:(List Wt×Nat)),(((0=0/\l.W.length=X.1.length)/\(↑(x.2+4*x.1.length):Int)=(X.2:Int)/\True)/\((Z0 Y7 l.W X.1)/\True)/\nQ X.1.length X.2 2)/\((↑(X.2+2*X.1.length):Int)=(↑(bE l k):Int)/\True)/\(Z0 Z2 (M2 x.1.length x.2) (M2 l.H.length k))/\(Z0 Y7 (A9 X.1.length X.2) (A9 l.W.length (k+4*l.H.length)))/\True) ⟨(l.H,k),⟨Z7,Z7,e,d,X5⟩,(l.W,k+4*l.H.length),⟨Z7,Z7,h,X5,X5⟩,Z7⟩
def b2E:Con:=.rel ⟨Lks×Nat,λx=>[.agg (b65 x.1 x.2).ts,Ji x.2],λx=>Ji (bE x.1 x.2),λx=>KBl x.1 x.2⟩
theorem ngN(n:Nat)(h:decide ((n:Int)<0)=true){p:Prop}:p:=absurd (G5 h) Z9
theorem a85:GK 53 b2E:=gk func53<|by
 rintro⟨l,k⟩ ⟨⟨f,d⟩,e,g⟩;dsimp only at f d e g;exact U5 (gC a3d (gC a8O gN)) func53 Z3 (α:=let p:=(↑(bE l k):Int);∃(x:(Nat×Nat)),let q:=(↑(x.2+4*x.1):Int);(((Z0 Z2 (M2 l.H.length k) (M2 x.1 x.2))/\(k:Int)=(x.2:Int)/\True)/\nQ x.1 x.2 4)/\bd (q<0) ((-1:Int)=p) (∃(X:(Nat×Nat)),let r:=(↑(X.2+2*X.1):Int);(((Z0 Y7 (A9 l.W.length (k+4*l.H.length)) (A9 X.1 X.2))/\q=(X.2:Int)/\True)/\nQ X.1 X.2 2)/\bd (r<0) ((-1:Int)=p) (r=p))) ⟨(l.H.length,k),⟨Z7,f,e,X5⟩,λh=>ngN _ h,λ_=>⟨(l.W.length,k+4*l.H.length),⟨Z7,d,X5,X5⟩,λh=>ngN _ h,λ_=>rfl⟩⟩
def Eng.tm(e:Eng)(b:Nat):List T:=[.osl b 0 e.s.d.E.length,.osl (b+1) 0 e.s.d.C.length,.bool e.s.d.A,.osl (b+2) 0 e.s.d.keep.length,Ji e.s.ep,.osl (b+3) 0 e.s.L.length,Ji e.s.S,.osl (b+4) 0 e.s.fr.length,Ji e.s.J,.bool e.up,.osl (b+5) 0 e.X.length,.osl (b+6) 0 e.lk.H.length,.osl (b+7) 0 e.lk.W.length,Ji e.N]
def Eng.hp(e:Eng)(v:Nat):X8:=[z9 e.s.d.E,D1 e.s.d.C,z8 e.s.d.keep,j5 e.s.L,wZ v e.s.fr e.s.fr.length,sQ e.X,yX e.lk.H,sT e.lk.W]
abbrev oL(a b:Eng):Prop:=Z0 Z5 a.s.d.E b.s.d.E/\Z0 Z1 a.s.d.C b.s.d.C/\a.s.d.A=b.s.d.A/\Z0 Y9 a.s.d.keep b.s.d.keep/\a.s.ep=b.s.ep/\Z0 Y0 a.s.L b.s.L/\a.s.S=b.s.S/\(a.s.fr.length=b.s.fr.length/\Z8 a.s.fr.length (a1D (Y5 a.s.fr)) (V9 b.s.fr))/\a.s.J=b.s.J/\a.up=b.up/\Z0 X2 a.X b.X/\Z0 Z2 a.lk.H b.lk.H/\Z0 Y7 a.lk.W b.lk.W/\a.N=b.N/\True
abbrev b45(a b:Eng):Prop:=((0:Nat)=0/\a.s.d.E.length=b.s.d.E.length)/\((0:Nat)=0/\a.s.d.C.length=b.s.d.C.length)/\a.s.d.A=b.s.d.A/\((0:Nat)=0/\a.s.d.keep.length=b.s.d.keep.length)/\a.s.ep=b.s.ep/\((0:Nat)=0/\a.s.L.length=b.s.L.length)/\a.s.S=b.s.S/\((0:Nat)=0/\a.s.fr.length=b.s.fr.length)/\a.s.J=b.s.J/\a.up=b.up/\((0:Nat)=0/\a.X.length=b.X.length)/\((0:Nat)=0/\a.lk.H.length=b.lk.H.length)/\((0:Nat)=0/\a.lk.W.length=b.lk.W.length)/\a.N=b.N/\True
abbrev vE(v u:Nat)(a b:Eng):Prop:=Z0 Z5 a.s.d.E b.s.d.E/\Z0 Z1 a.s.d.C b.s.d.C/\Z0 Y9 a.s.d.keep b.s.d.keep/\Z0 Y0 a.s.L b.s.L/\(v=u/\a.s.fr.length=b.s.fr.length/\V2 a.s.fr.length (Y5 a.s.fr) (Y5 b.s.fr))/\Z0 X2 a.X b.X/\Z0 Z2 a.lk.H b.lk.H/\Z0 Y7 a.lk.W b.lk.W/\True
abbrev BxG(a b:Eng):Prop:=(1:Nat)=1/\(1:Nat)=1/\b45 a b
abbrev iM(v u:Nat)(a b:Eng):Prop:=BxG a b/\vE v u a b
abbrev lO(v u:Nat)(a b:Eng):Prop:=BxG a b/\True/\True/\True/\True/\True/\True/\True/\True/\vE v u a b
abbrev LeG(a:Eng):Prop:=Le (0+a.s.d.E.length) a.s.d.E.length/\Le (0+a.s.d.C.length) a.s.d.C.length/\Le (0+a.s.d.keep.length) a.s.d.keep.length/\Le (0+a.s.L.length) a.s.L.length/\Le (0+a.s.fr.length) a.s.fr.length/\Le (0+a.X.length) a.X.length/\Le (0+a.lk.H.length) a.lk.H.length/\Le (0+a.lk.W.length) a.lk.W.length
theorem kG(e:Eng)(v:Nat):C6 (e.hp v):=i3 (H:=e.s.hp v) (rF _ _) (i3 (H:=[sQ e.X]) (kT _) (rC e.lk))
def c2d:Con:=.rmk ⟨Eng,λe=>[.agg e.ts],λ_=>[],λe=>.agg (e.tm 0),λe=>e.hp 0,M6⟩
theorem b8Z:GK 42 c2d:=gk func42<|by
 rintro(e:Eng) ⟨h1,h2,h3⟩;exact⟨C4 (gC b42 (gC b7J (gC b5o gN))) func42 Z3 [[.arr 2,.arr 3,.arr 4,.arr 5,.arr 6,.arr 7,.arr 8,.arr 9]] (α:=∃(x:Sto),(((yR e.s x)/\True)/\iC x)/\∃(f:(List Txn)),let p:=f.length;(((Z0 X2 e.X f)/\True)/\p<=1048576)/\∃(X:Lks),((((Z0 Z2 e.lk.H X.H)/\(Z0 Y7 e.lk.W X.W)/\True)/\True)/\uW X)/\(((0=0/\x.d.E.length=e.s.d.E.length)/\(0=0/\x.d.C.length=e.s.d.C.length)/\x.d.A=e.s.d.A/\(0=0/\x.d.keep.length=e.s.d.keep.length)/\x.ep=e.s.ep/\(0=0/\x.L.length=e.s.L.length)/\x.S=e.s.S/\(0=0/\x.fr.length=e.s.fr.length)/\x.J=e.s.J/\e.up=e.up/\(0=0/\p=e.X.length)/\(0=0/\X.H.length=e.lk.H.length)/\(0=0/\X.W.length=e.lk.W.length)/\e.N=e.N/\True)/\True)/\(Z0 Z5 x.d.E e.s.d.E)/\(Z0 Z1 x.d.C e.s.d.C)/\(Z0 Y9 x.d.keep e.s.d.keep)/\(Z0 Y0 x.L e.s.L)/\(0=0/\x.fr.length=e.s.fr.length/\V2 x.fr.length (Y5 x.fr) (Y5 e.s.fr))/\(p=e.X.length/\Z8 (p) (X2 f) (X2 e.X))/\(Z0 Z2 X.H e.lk.H)/\(Z0 Y7 X.W e.lk.W)/\True) ⟨e.s,⟨⟨(jR _),Z6⟩,h1⟩,e.X,⟨Z7,h2⟩,e.lk,⟨Z7,h3⟩,Z7⟩,rfl,kG e 0⟩
def b6a:Con:=.rel ⟨Eng,λe=>[.agg e.ts],λe=>.agg e.ts,M6⟩
theorem b2W:GK 35 b6a:=gk func35<|by
 rintro(e:Eng) ⟨h1,h2,h3⟩;exact U5 (gC b2y (gC b3u gN)) func35 Z3 (α:=let p:=(0+e.X.length);∃(x:Sto),let q:=x.fr.length;(((yR e.s x)/\True)/\iC x)/\(Le 0 0/\U8 0 e.X.length 16)/\∃(X:Lks),((((Z0 Z2 e.lk.H X.H)/\(Z0 Y7 e.lk.W X.W)/\True)/\True)/\uW X)/\(Le (0+x.d.E.length) x.d.E.length/\Le (0+x.d.C.length) x.d.C.length/\Le (0+x.d.keep.length) x.d.keep.length/\Le (0+x.L.length) x.L.length/\Le (0+q) q/\Le (0+p) p)/\(Z0 Z5 x.d.E e.s.d.E)/\(Z0 Z1 x.d.C e.s.d.C)/\x.d.A=e.s.d.A/\(Z0 Y9 x.d.keep e.s.d.keep)/\x.ep=e.s.ep/\(Z0 Y0 x.L e.s.L)/\x.S=e.s.S/\(q=e.s.fr.length/\Z8 x.fr.length (a1D (Y5 x.fr)) (V9 e.s.fr))/\x.J=e.s.J/\e.up=e.up/\(0+e.X.length=e.X.length/\Z8 p (X4 (tk 2 []) 0 (X2 e.X)) (X2 e.X))/\(Z0 Z2 X.H e.lk.H)/\(Z0 Y7 X.W e.lk.W)/\e.N=e.N/\True) ⟨e.s,⟨⟨(jR _),Z6⟩,h1⟩,⟨U9 _,Q9⟩,e.lk,⟨Z7,h3⟩,⟨tZ _,tZ _,tZ _,tZ _,tZ _,J9⟩,Z7,Z7,rfl,Z7,rfl,Z7,rfl,Z7,rfl,rfl,⟨Z9,v6⟩,Z7⟩
def c2N:Con:=.rmk ⟨Eng,λe=>[.agg e.ts],λ_=>[],λe=>.agg (e.tm 0),λe=>e.hp e.s.fr.length,M6⟩
theorem b8x:GK 10 c2N:=gk func10<|by
 rintro(e:Eng) ⟨h1,h2,h3⟩;exact⟨C4 (gC b94 (gC b2Q (gC b6y gN))) func10 Z3 [[.arr 3,.arr 4,.arr 5,.arr 6,.arr 7,.arr 8,.arr 9,.arr 10]] (α:=∃(x:Sto),let q:=x.fr.length;(((yR e.s x)/\True)/\iC x)/\∃(f:(List Txn)),let p:=f.length;(((Z0 X2 e.X f)/\True)/\p<=1048576)/\∃(X:Lks),((((Z0 Z2 e.lk.H X.H)/\(Z0 Y7 e.lk.W X.W)/\True)/\True)/\uW X)/\(((0=0/\x.d.E.length=e.s.d.E.length)/\(0=0/\x.d.C.length=e.s.d.C.length)/\x.d.A=e.s.d.A/\(0=0/\x.d.keep.length=e.s.d.keep.length)/\x.ep=e.s.ep/\(0=0/\x.L.length=e.s.L.length)/\x.S=e.s.S/\(0=0/\q=e.s.fr.length)/\x.J=e.s.J/\e.up=e.up/\(0=0/\p=e.X.length)/\(0=0/\X.H.length=e.lk.H.length)/\(0=0/\X.W.length=e.lk.W.length)/\e.N=e.N/\True)/\True)/\(Z0 Z5 x.d.E e.s.d.E)/\(Z0 Z1 x.d.C e.s.d.C)/\(Z0 Y9 x.d.keep e.s.d.keep)/\(Z0 Y0 x.L e.s.L)/\(q=e.s.fr.length/\q=e.s.fr.length/\V2 x.fr.length (Y5 x.fr) (Y5 e.s.fr))/\(p=e.X.length/\Z8 (p) (X2 f) (X2 e.X))/\(Z0 Z2 X.H e.lk.H)/\(Z0 Y7 X.W e.lk.W)/\True) ⟨e.s,⟨⟨(jR _),Z6⟩,h1⟩,e.X,⟨Z7,h2⟩,e.lk,⟨Z7,h3⟩,Z7⟩,rfl,kG e _⟩
def c9C(e:Eng)(k:Nat):Eng:={e with s:=c6d e.s k,X:=I3 e.X.length (K6 e.s k),lk:=b65 e.lk (K6 e.s k+2*e.X.length)}
def oP(e:Eng)(k:Nat):Nat:=bE e.lk (K6 e.s k+2*e.X.length)
def KBg(e:Eng)(k:Nat):Prop:=M6 e/\1<=k/\k<=100000000
theorem a9T{s:Sto}{k:Nat}(h:KBs s k):1<=K6 s k/\K6 s k<=5000000000000:=by
 obtain⟨⟨g,l,t,f⟩,j,r⟩:=h;have hd:O3 s.d k<=110000000:=by unfold O3;obtain⟨A,o,u⟩:=g;omega
 have e:1<=O3 s.d k:=by unfold O3;omega
 have hp:=hM (N3 s.fr) (O3 s.d k+10*s.L.length) (n:=s.fr.length) f;have q:O3 s.d k+10*s.L.length<=L6 (N3 s.fr) (O3 s.d k+10*s.L.length) s.fr.length:=xZ (N3 s.fr) (O3 s.d k+10*s.L.length) (i:=0) (N7 _);unfold K6;omega
def b2w:Con:=.reff ⟨Eng×Nat×Nat,λx=>[.agg (x.1.tm 0),Ji x.2.1],λx=>x.1.hp x.2.2,λx=>Ji (oP x.1 x.2.1),λx=>(c9C x.1 x.2.1).hp x.2.2,λx=>KBg x.1 x.2.1⟩
theorem a6U:GK 14 b2w:=gk func14<|by
 rintro⟨e,k,v⟩ ⟨⟨j,i,n⟩,h,l⟩;dsimp only at j i n h l;have g:KBs e.s k:=⟨j,h,l⟩;obtain⟨o,q⟩:=a9T g;exact C4 (gC a8u (gC a3z (gC a53 gN))) func14 Z3 [[.arr 0,.arr 1,.arr 2,.arr 3,.arr 4,.arr 5,.arr 6,.arr 7]] (α:=let q:=(vN e.s.fr.length (N3 e.s.fr) (O3 e.s.d k+10*e.s.L.length));∃(x:(Sto×Nat×Nat)),let u:=x.1.fr;let z:=x.2.1;let r:=x.1.d;let y:=r.E.length;let p:=(vN u.length (N3 u) (O3 x.1.d z+10*x.1.L.length));((((0=0/\e.s.d.E.length=y)/\(0=0/\e.s.d.C.length=r.C.length)/\e.s.d.A=r.A/\(0=0/\e.s.d.keep.length=r.keep.length)/\e.s.ep=x.1.ep/\(0=0/\e.s.L.length=x.1.L.length)/\e.s.S=x.1.S/\(0=0/\e.s.fr.length=u.length)/\e.s.J=x.1.J/\True)/\(k:Int)=(z:Int)/\True)/\((Z0 Z5 e.s.d.E r.E)/\(Z0 Z1 e.s.d.C r.C)/\(Z0 Y9 e.s.d.keep r.keep)/\(Z0 Y0 e.s.L x.1.L)/\(v=x.2.2/\e.s.fr.length=u.length/\V2 e.s.fr.length (Y5 e.s.fr) (Y5 u))/\True)/\KBs x.1 z)/\∃(f:(List Txn×Nat)),(((0=0/\e.X.length=f.1.length)/\(↑(K6 x.1 z):Int)=(f.2:Int)/\True)/\((Z0 X2 e.X f.1)/\True)/\nQ f.1.length f.2 2)/\∃(X:(Lks×Nat)),((((0=0/\e.lk.H.length=X.1.H.length)/\(0=0/\e.lk.W.length=X.1.W.length)/\True)/\(↑(f.2+2*f.1.length):Int)=(X.2:Int)/\True)/\((Z0 Z2 e.lk.H X.1.H)/\(Z0 Y7 e.lk.W X.1.W)/\True)/\KBl X.1 X.2)/\((↑(bE X.1 X.2):Int)=(↑(oP e k):Int)/\True)/\(Z0 Z5 (yQ r.E.length z) (yQ e.s.d.E.length k))/\(Z0 Z1 (vG r.C.length (z+y)) (vG e.s.d.C.length (k+e.s.d.E.length)))/\(Z0 Y9 (vD r.keep.length (z+y+2*r.C.length)) (vD e.s.d.keep.length (k+e.s.d.E.length+2*e.s.d.C.length)))/\(Z0 Y0 (g7 x.1.L.length (O3 x.1.d z)) (g7 e.s.L.length (O3 e.s.d k)))/\(x.2.2=v/\p.length=q.length/\V2 p.length (Y5 p) (Y5 q))/\(Z0 X2 (I3 f.1.length f.2) (I3 e.X.length (K6 e.s k)))/\(Z0 Z2 (M2 X.1.H.length X.2) (M2 e.lk.H.length (K6 e.s k+2*e.X.length)))/\(Z0 Y7 (A9 X.1.W.length (X.2+4*X.1.H.length)) (A9 e.lk.W.length (K6 e.s k+2*e.X.length+4*e.lk.H.length)))/\True) ⟨(e.s,k,v),⟨Z7,Z7,g⟩,(e.X,K6 e.s k),⟨Z7,Z7,i,o,X5⟩,(e.lk,K6 e.s k+2*e.X.length),⟨Z7,Z7,n,X5,X5⟩,Z7⟩
def b2L:Con:=.rel ⟨Eng×Nat,λx=>[.agg (c9C x.1 x.2).ts,Ji x.2],λx=>Ji (oP x.1 x.2),λx=>KBg x.1 x.2⟩
theorem a9a:GK 15 b2L:=gk func15<|by
 rintro⟨e,k⟩ ⟨⟨j,i,n⟩,f,l⟩;dsimp only at j i n f l;have g:KBs e.s k:=⟨j,f,l⟩;obtain⟨o,q⟩:=a9T g;exact U5 (gC a6i (gC a3Z (gC a85 gN))) func15 Z3 (α:=let v:=(↑(oP e k):Int);let p:=((-1:Int)=v);∃(x:(Sto×Nat)),let u:=x.1.d;let q:=(↑(K6 x.1 x.2):Int);((((Z0 Z5 (yQ e.s.d.E.length k) (yQ u.E.length x.2))/\(Z0 Z1 (vG e.s.d.C.length (k+e.s.d.E.length)) (vG u.C.length (x.2+u.E.length)))/\e.s.d.A=u.A/\(Z0 Y9 (vD e.s.d.keep.length (k+e.s.d.E.length+2*e.s.d.C.length)) (vD u.keep.length (x.2+u.E.length+2*u.C.length)))/\e.s.ep=x.1.ep/\(Z0 Y0 (g7 e.s.L.length (O3 e.s.d k)) (g7 x.1.L.length (O3 x.1.d x.2)))/\e.s.S=x.1.S/\(Z0 V9 (vN e.s.fr.length (N3 e.s.fr) (O3 e.s.d k+10*e.s.L.length)) (vN x.1.fr.length (N3 x.1.fr) (O3 x.1.d x.2+10*x.1.L.length)))/\e.s.J=x.1.J/\True)/\(k:Int)=(x.2:Int)/\True)/\KBs x.1 x.2)/\bd (q<0) p (∃(X:(Nat×Nat)),let z:=(↑(X.2+2*X.1):Int);(((Z0 X2 (I3 e.X.length (K6 e.s k)) (I3 X.1 X.2))/\q=(X.2:Int)/\True)/\nQ X.1 X.2 2)/\bd (z<0) p (∃(x:(Lks×Nat)),let r:=(↑(bE x.1 x.2):Int);((((Z0 Z2 (M2 e.lk.H.length (K6 e.s k+2*e.X.length)) (M2 x.1.H.length x.2))/\(Z0 Y7 (A9 e.lk.W.length (K6 e.s k+2*e.X.length+4*e.lk.H.length)) (A9 x.1.W.length (x.2+4*x.1.H.length)))/\True)/\z=(x.2:Int)/\True)/\KBl x.1 x.2)/\bd (r<0) p (r=v)))) ⟨(e.s,k),⟨Z7,g⟩,λh=>ngN _ h,λ_=>⟨(e.X.length,K6 e.s k),⟨Z7,i,o,X5⟩,λh=>ngN _ h,λ_=>⟨(e.lk,K6 e.s k+2*e.X.length),⟨Z7,n,X5,X5⟩,λh=>ngN _ h,λ_=>rfl⟩⟩⟩
def Eng.tn(e:Eng)(a b c d f g h i:Nat):List T:=[.osl a 0 e.s.d.E.length,.osl b 0 e.s.d.C.length,.bool e.s.d.A,.osl c 0 e.s.d.keep.length,Ji e.s.ep,.osl d 0 e.s.L.length,Ji e.s.S,.osl f 0 e.s.fr.length,Ji e.s.J,.bool e.up,.osl g 0 e.X.length,.osl h 0 e.lk.H.length,.osl i 0 e.lk.W.length,Ji e.N]
def gO(l:List T):Option Ob:=some (.arr false 1000000 14 1 λ_=>l)
def Eng.bx(e:Eng)(v:Nat):X8:=[gO (e.tn 1 2 3 4 5 6 7 8),z9 e.s.d.E,D1 e.s.d.C,z8 e.s.d.keep,j5 e.s.L,wZ v e.s.fr e.s.fr.length,sQ e.X,yX e.lk.H,sT e.lk.W]
def Eng.nx(e:Eng)(v:Nat):X8:=[gO (e.tn 9 10 11 12 13 14 15 16),none,none,none,none,none,none,none,none,z9 e.s.d.E,D1 e.s.d.C,z8 e.s.d.keep,j5 e.s.L,wZ v e.s.fr e.s.fr.length,sQ e.X,yX e.lk.H,sT e.lk.W]
def uT:Eng:=⟨c9F,false,[],⟨[],[]⟩,0⟩
def apx(s:Sto)(r:Rec):Sto:=⟨s.d,s.ep,s.L++[P8 s r],s.S,s.fr,s.J⟩
def B7(e:Eng)(k:Nat)(r:Rec):Rec:={r with t:=(e.X.getD k dz).id,p:=(e.X.getD k dz).Z}
def E7(e:Eng)(k:Nat)(r:Rec):Eng:={e with s:=apx e.s (B7 e k r),X:=e.X.set k ⟨(e.X.getD k dz).id,(e.s.L.length:Int)+1⟩}
structure AddB(e:Eng)(tx:Int)(k:Nat)(r:Rec):Prop where
 at_:T7 e.X tx=k
 lt:k<e.X.length
 id:(e.X.getD k dz).id=tx
 ok:O8 (P8 e.s (B7 e k r))=true
 tl:e.X.length<=1000
 ll:e.s.L.length<=1000
 sm:SmR r
def c9v:Con:=.reff ⟨Eng×Int×Rec×Nat×Nat,λx=>[.ref 0 0 0,Ji x.2.1,.agg x.2.2.1.ts],λx=>x.1.bx x.2.2.2.2,λx=>.agg (P8 x.1.s (B7 x.1 x.2.2.2.1 x.2.2.1)).ts,λx=>(E7 x.1 x.2.2.2.1 x.2.2.1).nx x.2.2.2.2,λx=>AddB x.1 x.2.1 x.2.2.2.1 x.2.2.1⟩
theorem a9M{L:List Txn}{k:Nat}{n:Int}(d:k<L.length)(j:Nat):setRow (X2 L) k 1 [Ji n] j=X2 (L.set k ⟨(L.getD k dz).id,n⟩) j:=by
 by_cases h:j=k
 ·subst h;rw[pC (by show 1<2;decide)]
  unfold X2;rw[P3 (l:=L.set j _),j_j d]
  rfl
 ·rw[L4 (by show 1+1<=2;decide) h]
  unfold X2;rw[P3 (l:=L.set k _),j_k (Ne.symm h),←P3]
theorem c2U{s:Sto}{r:Rec}(h:O8 (P8 s r)=true):Q4 s r=apx s r:=by unfold Q4;rw[if_pos h];rfl
theorem a4U(s:Sto)(r:Rec):(apx s r).L.getD s.L.length dz=P8 s r:=by
 show(s.L++[P8 s r]).getD _ _=_;rw[P3,pZ (U9 _)]
 simp
theorem a5Z:GK 119 c9v:=gk func119<|by
 rintro⟨e,tx,r,k,v⟩ ⟨A,h,i,f,q,L,M⟩;dsimp only at A h i f q L M;have u:(apx e.s (B7 e k r)).L.length=e.s.L.length+1:=by show(e.s.L++[_]).length=_;simp
 have o:e.s.L.length<=60:=by
  have:=(Q3 _).1 f;have:=this.2.2.2.1;have B:(P8 e.s (B7 e k r)).l=(e.s.L.length:Int)+1:=rfl;omega
 refine C4 (gC qS (gC kF gN)) func119 Z3 aW (α:=let c:=(e.s.L.length:Int);let f:=(e.s.L++[P8 e.s (B7 e k r)]);let m:=(e.X.getD k dz);let w:=(e.X.set k (Txn.mk m.id (c+1)));∃(x:(Eng×Int)),let y:=(0+(T7 x.1.X x.2).toNat);let i:=(e.X.getD y dz).Z;((LeG e)/\((oL e x.1)/\tx=x.2/\True)/\L8 x.1.X.length)/\W9 (T7 x.1.X x.2) e.X.length/\Lt y e.X.length/\∃(X:a5i.ι),let z:=(Q4 X.1 X.2.1);let j:=z.L.length;let q:=((bif y.beq y then(↑j:Int) else i)-1);let u:=(z.L.getD (0+q.toNat) dz);(((0=0/\0=0)/\(r.e=X.2.1.e/\r.l=X.2.1.l/\tx=X.2.1.t/\r.k=X.2.1.k/\i=X.2.1.p/\r.n=X.2.1.n/\r.g=X.2.1.g/\r.s=X.2.1.s/\r.b=X.2.1.b/\r.a=X.2.1.a/\True)/\True)/\(LnS (v) (X.2.2) e.s X.1)/\X.1.L.length<=60/\SmR X.2.1)/\Lt y e.X.length/\Lt y e.X.length/\Ri q/\W9 q j/\Lt (0+q.toNat) j/\((u.e=e.s.ep/\u.l=c+1/\u.t=m.id/\u.k=r.k/\u.p=m.Z/\u.n=r.n/\u.g=r.g/\u.s=r.s/\u.b=r.b/\u.a=r.a/\True)/\True)/\(oo ((0=0/\z.d.E.length=e.s.d.E.length)/\(0=0/\z.d.C.length=e.s.d.C.length)/\z.d.A=e.s.d.A/\(0=0/\z.d.keep.length=e.s.d.keep.length)/\z.ep=e.s.ep/\(0=0/\j=f.length)/\z.S=e.s.S/\(0=0/\z.fr.length=e.s.fr.length)/\z.J=e.s.J/\e.up=e.up/\(0=0/\e.X.length=w.length)/\(0=0/\e.lk.H.length=e.lk.H.length)/\(0=0/\e.lk.W.length=e.lk.W.length)/\e.N=e.N/\True))/\T8 ((Z0 Z5 z.d.E e.s.d.E)/\(Z0 Z1 z.d.C e.s.d.C)/\(Z0 Y9 z.d.keep e.s.d.keep)/\(Z0 Y0 z.L f)/\(X.2.2=v/\z.fr.length=e.s.fr.length/\V2 z.fr.length (Y5 z.fr) (Y5 e.s.fr))/\(e.X.length=w.length/\Z8 e.X.length (setRow (X2 e.X) y 1 [Ji (↑j:Int)]) (X2 w))/\(Z0 Z2 e.lk.H e.lk.H)/\(Z0 Y7 e.lk.W e.lk.W)/\True)) ⟨(e,tx),⟨Z7,Z7,rT⟩,?_⟩
 dsimp only;rw[A,D8,D2];refine⟨Y6 h,h,(e.s,B7 e k r,v),⟨⟨Z7,⟨rfl,rfl,i.symm,Z7⟩,Z6⟩,Z7,o,M⟩,h,h,?_⟩
 dsimp only;rw[c2U f,Nat.beq_refl,cond_true];have z:(0+(((apx e.s (B7 e k r)).L.length:Int)-1).toNat)=e.s.L.length:=Z9
 rw[z,a4U];refine⟨Z4 Z9,⟨Z9,Z9⟩,Q1,Z7,⟨rfl,rfl,Z7,Z7,rfl,Z7,rfl,Z7,rfl,Z7,rfl,rfl,⟨rfl,(zV ..).symm⟩,Z7⟩,Z6,Z6,Z6,Z6,Z6,Z6,Z6,Z6,Z7,Z7,Z7,Z7,Z7,⟨(zV ..).symm,λj _=>?_⟩,Z7⟩
 rw[a9M h,u];rfl
theorem u3{e:Eng}(h:R2 e=true):F5 e.s=true/\wB e=true/\(if e.up then upE e else a4p e)=true:=by
 unfold R2 sP at h;simp only[J4] at h;exact⟨h.1,h.2.1,h.2.2⟩
theorem c4v{e:Eng}(h:R2 e=true)(u:e.up=true):∀i,i<e.X.length->y5 e i=false:=by
 have d:=(u3 h).2.2;rw[if_pos u] at d;unfold upE at d;simp only[J4,vY] at d;exact P4.1 d.1.1.1
theorem c9k{e:Eng}(h:R2 e=true)(u:e.up=true){i:Nat}(hi:i<e.X.length):1<=(e.X.getD i dz).id/\(e.X.getD i dz).id<=e.N-1:=by
 have:=c4v h u i hi;unfold y5 at this;simp only[wR,wT,K4] at this;exact this.1.1
theorem c7o{s:Sto}(h:F5 s=true):1<=s.ep/\s.ep<=60:=by
 obtain⟨⟨d,_⟩,_⟩:=(G2 s).1 h;obtain⟨_,_,a,b,_⟩:=(o4 s).1 d;exact⟨a,b⟩
theorem b6E{f g:Nat->List T}:X4 f 0 g=g:=funext λi=>by unfold X4;rw[show Nat.blt i 0=false from rfl];rfl
def c9c:Con:=.rel ⟨Sto×Rec,λx=>[.agg x.1.ts,.agg x.2.ts],λx=>.tup [.agg (apx x.1 x.2).ts,Ji (x.1.L.length+1:Nat)],λx=>x.1.L.length<=1000⟩
theorem c50:GK 301 c9c:=gk func301<|by
 rintro⟨s,r⟩ (h:s.L.length<=1000);have l:(s.L++[P8 s r]).length=s.L.length+1:=W7
 refine U5 (gC P5 gN) func301 Z3 (α:=let u:=(0+s.L.length+1);let z:=(s.L.length:Int);let q:=(0+s.L.length);Ri (z+1)/\(Le 0 0/\U8 0 s.L.length 96)/\(Le q q/\U8 q 1 96)/\Le (0+u) u/\((Z0 Z5 s.d.E s.d.E)/\(Z0 Z1 s.d.C s.d.C)/\s.d.A=s.d.A/\(Z0 Y9 s.d.keep s.d.keep)/\s.ep=s.ep/\(0+s.L.length+1=(s.L++[P8 s r]).length/\Z8 u (X4 (X4 (tk 10 []) 0 (Y0 s.L)) q (tk 10 [Ji s.ep,Ji (z+1),Ji r.t,Ji r.k,Ji r.p,Ji r.n,Ji r.g,Ji r.s,T.str r.b,T.str r.a])) (Y0 (s.L++[P8 s r])))/\s.S=s.S/\(Z0 V9 s.fr s.fr)/\s.J=s.J/\True)/\z+1=(↑(s.L.length+1):Int)/\True) ⟨Z4 Z9,⟨U9 _,Q9⟩,⟨U9 _,Q9⟩,J9,⟨K7,K7,rfl,K7,rfl,⟨Z9,?_⟩,rfl,K7,Z7⟩,Z7⟩
 rw[D2,b6E];exact hJ s.L (P8 s r)
def c5D:Con:=.rfz ⟨Eng×Nat×Rec,λx=>[.agg x.1.ts,Ji x.2.1,.agg x.2.2.ts],λx=>.tup [.agg (E7 x.1 x.2.1 x.2.2).ts,Ji (x.1.s.L.length+1:Nat)],λx=>x.2.1<x.1.X.length/\x.1.X.length<=1000/\x.1.s.L.length<=1000⟩
theorem a1H:GK 223 c5D:=gk func223<|by
 rintro⟨e,k,r⟩ ⟨h,f,L⟩;dsimp only at h f L;refine U5 (gC c50 (gC P5 gN)) func223 Z3 (α:=let u:=(k:Int).toNat;let z:=(0+e.X.length);let q:=(e.X.set k (Txn.mk (e.X.getD k dz).id ((e.s.L.length:Int)+1)));W9 (k:Int) e.X.length/\W9 (k:Int) e.X.length/\∃(x:(Sto×Rec)),let v:=(↑(x.1.L.length+1):Int);(((yR e.s x.1)/\(r.e=x.2.e/\r.l=x.2.l/\(e.X.getD u dz).id=x.2.t/\r.k=x.2.k/\(e.X.getD u dz).Z=x.2.p/\r.n=x.2.n/\r.g=x.2.g/\r.s=x.2.s/\r.b=x.2.b/\r.a=x.2.a/\True)/\True)/\x.1.L.length<=1000)/\(Le 0 0/\U8 0 e.X.length 16)/\W9 (k:Int) z/\Lt (0+u) z/\Le (0+z) z/\((Z0 Z5 x.1.d.E e.s.d.E)/\(Z0 Z1 x.1.d.C e.s.d.C)/\x.1.d.A=e.s.d.A/\(Z0 Y9 x.1.d.keep e.s.d.keep)/\x.1.ep=e.s.ep/\(Z0 Y0 (x.1.L++[P8 x.1 x.2]) (e.s.L++[P8 e.s (B7 e k r)]))/\x.1.S=e.s.S/\(Z0 V9 x.1.fr e.s.fr)/\x.1.J=e.s.J/\e.up=e.up/\(0+e.X.length=q.length/\Z8 z (setRow (X4 (tk 2 []) 0 (X2 e.X)) (0+u) 1 [Ji v]) (X2 q))/\(Z0 Z2 e.lk.H e.lk.H)/\(Z0 Y7 e.lk.W e.lk.W)/\e.N=e.N/\True)/\v=(↑(e.s.L.length+1):Int)/\True) ⟨Y6 h,Y6 h,(e.s,B7 e k r),⟨⟨jR _,⟨rfl,rfl,by rw[D8];rfl,rfl,by rw[D8];rfl,rfl,rfl,rfl,rfl,rfl,Z6⟩,Z6⟩,X5⟩,⟨U9 _,Q9⟩,by rw[D2];exact Y6 h,Q1,J9,⟨Z7,Z7,rfl,Z7,rfl,Z7,rfl,Z7,rfl,rfl,⟨by rw[zV];omega,λj _=>?_⟩,Z7⟩,Z7⟩
 rw[D8,D2,b6E];exact a9M h j
theorem leM{α:Type}(f:Nat->α)(n:Nat):Le (0+n) ((List.range n).map f).length:=by rw[O2];exact tZ n
def dr(x:Bz):Nat->Bz
 |0=>x
 |i+1=>(dr x i).drop 1
def sK(x:Bz):Nat->Bool
 |0=>false
 |i+1=>sK x i||(dr x i).isEmpty
def rcE(x:Bz):Fst:=U1 (dr x 9) (sK x 9)
def rcX(x:Bz):Rec:=⟨numR (dr x 1),numR (dr x 2),numR (dr x 3),numR (dr x 4),numR (dr x 5),numR (dr x 6),numR (dr x 7),numR (dr x 8),(rcE x).out.getD 0 [],(rcE x).out.getD 1 []⟩
def o6(x:Bz):Bool:= !(!(rcE x).fl&&(rcE x).l.isEmpty)||numR x !=108||(((rcE x).out.length:Nat):Int) !=2
def a1A:Rec:=⟨0,0,0,0,0,0,0,0,[],[]⟩
def R7(b:Bz):Rec×Int:=if R9 b=true then
  if o6 (X1 b)=true then(a1A,3) else if O8 (rcX (X1 b))=true then(rcX (X1 b),0) else(a1A,3)
 else(a1A,8)
def c64:Con:=.reff ⟨Bz×Nat,λ_=>[.ref 0 0 0],λx=>[rdr (dr x.1 x.2) (sK x.1 x.2)],λx=>Ji (numR (dr x.1 x.2)),λx=>[rdr (dr x.1 (x.2+1)) (sK x.1 (x.2+1))],λ_=>True⟩
theorem c1Q:GK 321 c64:=gk func321<|λx _=>eI.1 _ _ _ _ none rfl trivial
def a2F:Con:=.rel ⟨Bz,λb=>[.bys b],λb=>.tup [.agg (R7 b).1.ts,Ji (R7 b).2],RdB⟩
theorem c3o(l:Bz)(n:Int)(d:0<=n)(h:n<=255):(T3 l n).length<=255:=by
 unfold T3;split
 ·rw[List.length_replicate];omega
 ·rw[List.length_take];omega
theorem cM{α:Type}(d:α)(L:List α)(x:α)(i:Nat)(hi:i<L.length+1):(L++[x]).getD i d=if i=L.length then x else L.getD i d:=by
 by_cases h:i=L.length
 ·subst h;rw[if_pos rfl,P3,pZ (U9 _)]
  simp
 ·rw[if_neg h,P3,rK Z9,←P3]
theorem b9o(l:Bz)(fl:Bool):∀i j,((F0 l fl i).out.getD j []).length<=255
 |0,j=>N7 _
 |i+1,j=>by
  have h:=r5 (F0 l fl i).l;show(((F0 l fl i).out++[T3 ((F0 l fl i).l.drop 1) (numR (F0 l fl i).l)]).getD j []).length<=255;by_cases hj:j<(F0 l fl i).out.length+1
  ·rw[cM [] _ _ _ hj];split
   ·exact c3o _ _ h.1 Z9
   ·exact b9o l fl i j
  ·rw[P3,List.getElem?_eq_none (by rw[F7];simp;omega)]
   exact N7 _
theorem c41{b:Bz}(h:R9 b=false):R7 b=(a1A,8):=by unfold R7;rw[if_neg cY]
theorem b7S{b:Bz}(h:R9 b=true)(B:o6 (X1 b)=true):R7 b=(a1A,3):=by unfold R7;rw[if_pos h,if_pos B]
theorem b6Z{b:Bz}(h:R9 b=true)(B:o6 (X1 b)=false)(r:O8 (rcX (X1 b))=false):R7 b=(a1A,3):=by unfold R7;rw[if_pos h,if_neg (by rw[B];simp),if_neg (by rw[r];simp)]
theorem a82{b:Bz}(h:R9 b=true)(B:o6 (X1 b)=false)(r:O8 (rcX (X1 b))=true):R7 b=(rcX (X1 b),0):=by unfold R7;rw[if_pos h,if_neg (by rw[B];simp),if_pos r]
theorem bQ:GK 238 a2F:=gk func238<|by
 intro(b:Bz) (hb:b.length<=1000);refine U5 (gC sJ (gC c1Q (gC aS (gC qO (gC tK gN))))) func238 Z3 (α:=let v:=((0=0/\0=0)/\True);let z:=(0=(R7 b).1.e/\0=(R7 b).1.l/\0=(R7 b).1.t/\0=(R7 b).1.k/\0=(R7 b).1.p/\0=(R7 b).1.n/\0=(R7 b).1.g/\0=(R7 b).1.s/\[]=(R7 b).1.b/\[]=(R7 b).1.a/\True);let pf:=(z/\3=(R7 b).2/\True);bd ((b.length:Int)>65536) (z/\2=(R7 b).2/\True) (∃(x:tF.ι),((b=x/\True)/\u9 x)/\br (!R9 x) (z/\8=(R7 b).2/\True) (∃(r:(Bz×Nat)),(v/\((1=1/\Z8 1 (λ(d:Nat)=>[T.bys (X1 x),T.bool false]) λ(x:Nat)=>[T.bys (dr r.1 r.2),T.bool (sK r.1 r.2)])/\True)/\True)/\∃(x:(Bz×Nat)),let w:=(dr x.1 x.2);(v/\((1=1/\Z8 1 (λ(x:Nat)=>[T.bys (dr r.1 (r.2+1)),T.bool (sK r.1 (r.2+1))]) λ(d:Nat)=>[T.bys w,T.bool (sK x.1 x.2)])/\True)/\True)/\∃(d:(Bz×Nat)),let m:=(dr d.1 d.2);(v/\((1=1/\Z8 1 (λ(f:Nat)=>[T.bys (dr x.1 (x.2+1)),T.bool (sK x.1 (x.2+1))]) λ(x:Nat)=>[T.bys m,T.bool (sK d.1 d.2)])/\True)/\True)/\∃(f:(Bz×Nat)),let c:=(dr f.1 f.2);(v/\((1=1/\Z8 1 (λ(x:Nat)=>[T.bys (dr d.1 (d.2+1)),T.bool (sK d.1 (d.2+1))]) λ(x:Nat)=>[T.bys c,T.bool (sK f.1 f.2)])/\True)/\True)/\∃(q:(Bz×Nat)),let pa:=(dr q.1 q.2);(v/\((1=1/\Z8 1 (λ(x:Nat)=>[T.bys (dr f.1 (f.2+1)),T.bool (sK f.1 (f.2+1))]) λ(x:Nat)=>[T.bys pa,T.bool (sK q.1 q.2)])/\True)/\True)/\∃(o:(Bz×Nat)),let pb:=(dr o.1 o.2);(v/\((1=1/\Z8 1 (λ(x:Nat)=>[T.bys (dr q.1 (q.2+1)),T.bool (sK q.1 (q.2+1))]) λ(x:Nat)=>[T.bys pb,T.bool (sK o.1 o.2)])/\True)/\True)/\∃(i:(Bz×Nat)),let pc:=(dr i.1 i.2);(v/\((1=1/\Z8 1 (λ(x:Nat)=>[T.bys (dr o.1 (o.2+1)),T.bool (sK o.1 (o.2+1))]) λ(x:Nat)=>[T.bys pc,T.bool (sK i.1 i.2)])/\True)/\True)/\∃(j:(Bz×Nat)),let pd:=(dr j.1 j.2);(v/\((1=1/\Z8 1 (λ(x:Nat)=>[T.bys (dr i.1 (i.2+1)),T.bool (sK i.1 (i.2+1))]) λ(x:Nat)=>[T.bys pd,T.bool (sK j.1 j.2)])/\True)/\True)/\∃(X:(Bz×Nat)),let pe:=(dr X.1 X.2);let u:=(U1 (dr X.1 (X.2+1)) (sK X.1 (X.2+1)));let y:=u.out;(v/\((1=1/\Z8 1 (λ(x:Nat)=>[T.bys (dr j.1 (j.2+1)),T.bool (sK j.1 (j.2+1))]) λ(x:Nat)=>[T.bys pe,T.bool (sK X.1 X.2)])/\True)/\True)/\br (!(! u.fl&&u.l.isEmpty)||numR (dr r.1 r.2) !=108||(↑y.length:Int) !=2) pf (W9 (0:Int) y.length/\W9 (1:Int) y.length/\b3J (y.getD 1 [])/\br (!O8 (Rec.mk (numR w) (numR m) (numR c) (numR pa) (numR pb) (numR pc) (numR pd) (numR pe) (y.getD 0 []) (y.getD 1 []))) pf ((numR w=(R7 b).1.e/\numR m=(R7 b).1.l/\numR c=(R7 b).1.t/\numR pa=(R7 b).1.k/\numR pb=(R7 b).1.p/\numR pc=(R7 b).1.n/\numR pd=(R7 b).1.g/\numR pe=(R7 b).1.s/\y.getD 0 []=(R7 b).1.b/\y.getD 1 []=(R7 b).1.a/\True)/\0=(R7 b).2/\True))))) ⟨λh=>by have:=G5 h;omega,λ_=>⟨b,⟨Z7,a0X⟩,λh=>?_,λh=>⟨(X1 b,0),⟨K7,Z7⟩,(X1 b,1),⟨K7,Z7⟩,(X1 b,2),⟨K7,Z7⟩,(X1 b,3),⟨K7,Z7⟩,(X1 b,4),⟨K7,Z7⟩,(X1 b,5),⟨K7,Z7⟩,(X1 b,6),⟨K7,Z7⟩,(X1 b,7),⟨K7,Z7⟩,(X1 b,8),⟨K7,Z7⟩,λhc=>?_,λhc=>?_⟩⟩⟩
 ·rw[c41 w9]
  exact K7
 ·rw[b7S w9 hc]
  exact K7
 ·have hu:R9 b=true:=by simpa using h
  have hc:o6 (X1 b)=false:=hc;have u:(rcE (X1 b)).out.length=2:=by
   unfold o6 at hc;simp only[wR,bne_eq_false_iff_eq] at hc;omega
  refine⟨⟨Z9,by show(0:Int)<((rcE (X1 b)).out.length:Int);omega⟩,⟨Z9,by show(1:Int)<((rcE (X1 b)).out.length:Int);omega⟩,by have:=b9o (dr (X1 b) 9) (sK (X1 b) 9) (numR (dr (X1 b) 9)).toNat 1;unfold b3J;show((F0 (dr (X1 b) 9) (sK (X1 b) 9) (numR (dr (X1 b) 9)).toNat).out.getD 1 []).length<_;omega,λR=>?_,λR=>?_⟩
  ·have R:(!O8 (rcX (X1 b)))=true:=by
    unfold rcX rcE;dsimp only[Nat.reduceAdd] at R ⊢;exact R
   have R:O8 (rcX (X1 b))=false:=by rw[vY] at R;exact R
   rw[b6Z hu hc R];exact K7
  ·have R:(!O8 (rcX (X1 b)))=false:=by
    unfold rcX rcE;dsimp only[Nat.reduceAdd] at R ⊢;exact R
   have R:O8 (rcX (X1 b))=true:=by rw[wT] at R;exact R
   rw[a82 hu hc R];unfold rcX rcE;dsimp only[Nat.reduceAdd];exact Z7
def lgR(d:Dsk)(i:Nat):Rec×Int:=R7 (S0 d (9+i))
def lgE(d:Dsk)(i:Nat):Int:=if i=0 then 1 else(lgR d (i-1)).1.e
def lgB(d:Dsk)(ep:Int)(i:Nat):Bool:=((lgR d i).2 !=0||(lgR d i).1.l !=(i:Int)+1|| !V6 (lgR d i).1.e (lgE d i) ep)
def zA(d:Dsk)(m:Nat):List Rec:=(List.range m).map λi=>(lgR d i).1
def nO(d:Dsk)(ep:Int):Nat:=if S5 (d.E.length-9) (lgB d ep)= -1 then d.E.length-9 else(S5 (d.E.length-9) (lgB d ep)).toNat
def LgS(x:Dsk×Int):Prop:=F8 x.1
def b2l(d:Dsk)(ep:Int):Nat->Ann
 |0=>.one (V5 (d.E.length-9) (lgB d ep)) (λx=>⟨[(1,Ji ep),(2,.ref 0 0 0),(5,.osl 1 0 x.1),(6,Ji (lgE d x.1)),(7,Ji (9+x.1:Nat))],[dD d,j5 (zA d x.1)]⟩) (λx=>d.E.length-x.1) b5p [.box 0,.arr 3] (λ_=>Z3)
 |_=>.none
def b3c:Con:=.rmk ⟨Dsk×Int,λx=>[.agg x.1.ts,Ji x.2],λ_=>[],λx=>.osl 0 0 (nO x.1 x.2),λx=>[j5 (zA x.1 (nO x.1 x.2))],LgS⟩
theorem yA(d:Dsk)(m:Nat):(zA d m).length=m:=by unfold zA;simp
theorem c6B(d:Dsk){m i:Nat}(h:i<m):(zA d m).getD i dz=(lgR d i).1:=by
 unfold zA;rw[P3,oD,List.getElem?_range h]
 rfl
theorem a4n(d:Dsk)(m:Nat):zA d (m+1)=zA d m++[(lgR d m).1]:=by
 unfold zA;rw[List.range_succ,List.map_append];rfl
theorem b8c{d:Dsk}{ep:Int}{m:Nat}(M:m<d.E.length-9)(h:lgB d ep m=true)(hp:∀i,i<m->lgB d ep i=false):nO d ep=m:=by
 unfold nO;rw[N8 M h hp,if_neg Z9,D8]
theorem b1o{d:Dsk}{ep:Int}{m:Nat}(h:m=d.E.length-9)(hp:∀i,i<m->lgB d ep i=false):nO d ep=m:=by
 unfold nO;rw[K1 (λi hi=>hp i Z9),if_pos rfl,h]
theorem a9k:GK 143 b3c:=gk func143<|by
 rintro⟨d,ep⟩ (hd:F8 d);have h:=hd;obtain⟨Q,o,j,q,_⟩:=h;refine⟨C4 (gC P5 (gC dM (gC bQ (gC O0 gN)))) func143 (b2l d ep) [[.arr 1]] (α:=(∃(x:V5 (d.E.length-9) (lgB d ep)),(ep=ep/\(0=0/\0=0)/\(0=0/\0=x.1)/\1=lgE d x.1/\9=(↑(9+x.1):Int)/\True)/\(oo (zI d d))/\(0=(zA d x.1).length/\Z8 0 (tk 10 []) (Y0 (zA d x.1)))/\True)/\∀(x:V5 (d.E.length-9) (lgB d ep)),let z:=x.1;let r:=(↑(9+z):Int);let q:=(((0=0/\z=nO d ep)/\True)/\(Z0 Y0 (zA d z) (zA d (nO d ep)))/\True);bd (r<(d.E.length:Int)) (∃(f:oE.ι),(((zI d f.1)/\r=(f.2:Int)/\True)/\AtB f)/\Lt (S0 f.1 f.2).length 140737488355329/\∃(X:(Bz)),let u:=(R7 X).1.e;((S0 f.1 f.2=X/\True)/\RdB X)/\(((R7 X).2 !=0)=false->Ri ((z:Int)+1))/\br ((R7 X).2 !=0||(R7 X).1.l !=(z:Int)+1|| !V6 u (lgE d z) ep) q ((Le x.1 (zA d z).length/\U8 x.1 1 96)/\Ri (r+1)/\∃(y:V5 (d.E.length-9) (lgB d ep)),let v:=y.1;((ep=ep/\(0=0/\0=0)/\(0=0/\z+1=v)/\u=lgE d v/\r+1=(↑(9+v):Int)/\True)/\(oo (zI d d))/\(z+1=(zA d v).length/\Z8 (z+1) (X4 (Y0 (zA d z)) x.1 (tk 10 [Ji u,Ji (R7 X).1.l,Ji (R7 X).1.t,Ji (R7 X).1.k,Ji (R7 X).1.p,Ji (R7 X).1.n,Ji (R7 X).1.g,Ji (R7 X).1.s,T.str (R7 X).1.b,T.str (R7 X).1.a])) (Y0 (zA d v)))/\True)/\Lt (d.E.length-v) (d.E.length-z))) q) ⟨⟨F2,Z7,Z7,⟨(yA d 0).symm,P0⟩,Z6⟩,λx=>⟨λhc=>?_,λhc=>?_⟩⟩,rfl,qF _⟩
 ·have hc:9+x.1<d.E.length:=by have:=G5 hc;omega
  have i:=lV hd hc;have hx:=yA d x.1;refine⟨(d,9+x.1),⟨Z7,hc,X5⟩,J7,S0 d (9+x.1),⟨Z7,by show(S0 d (9+x.1)).length<=1000;omega⟩,λ_=>Z4 Z9,λhb=>?_,λhb=>?_⟩
  ·have hb:lgB d ep x.1=true:=hb;rw[b8c Z9 hb x.2.2]
   exact Z7
  ·have hb:lgB d ep x.1=false:=hb;refine⟨⟨by rw[hx];exact U9 _,Q9⟩,Z4 Z9,x.succ Z9 hb,⟨⟨rfl,Z7,Z7,?_,by dsimp only[V5.succ];omega,Z6⟩,⟨rfl,rfl,eqD _⟩,⟨(yA d (x.1+1)).symm,?_⟩,Z6⟩,by unfold Lt;dsimp only[V5.succ];omega⟩
   ·dsimp only[V5.succ];unfold lgE;rw[if_neg Z9]
    rfl
   ·show Z8 _ _ (Y0 (zA d (x.1+1)));rw[a4n];have:=hJ (zA d x.1) (lgR d x.1).1;rw[hx] at this;exact this
 ·have hx:x.1=d.E.length-9:=by have:=x.2.1;have:=r8 hc;omega
  rw[b1o hx x.2.2];exact Z7
theorem c8h{r:Bz}(R:0<r.length):(∃out,Q2 r=some out/\out.length=2/\U1 r false=⟨[],false,out⟩)∨((∀out,Q2 r=some out->out.length≠2)/\(!(!(U1 r false).fl&&(U1 r false).l.isEmpty)||(((U1 r false).out.length:Nat):Int) !=2)=true):=by
 have d:=b5F r R (C0 r);have n:(numR r).toNat=C0 r:=by unfold numR C0;exact D8 _
 have e:U1 r false=F0 r false (C0 r):=by unfold U1;rw[n]
 have hall:Q2 r=if C0 r>100 then none else match xJ r (C0 r) with
   |some (p,out)=>if p=r.length then some out else none
   |none=>none:=by
  unfold Q2;by_cases hc:C0 r>100
  ·rw[if_pos (.inr hc),if_pos hc]
  ·rw[if_neg Z9,if_neg hc]
   rfl
 rw[e];cases f:xJ r (C0 r) with
 |none=>
  rw[f] at d hall;simp only at d;have hall:Q2 r=none:=by rw[hall];split<;>rfl
  refine .inr ⟨λout h=>(by rw[hall] at h;cases h),?_⟩
  rw[d];rfl
 |some y=>
  obtain⟨p,out⟩:=y;rw[f] at d hall;simp only at d hall;obtain⟨d,L⟩:=d;rw[d];have O:out.length=C0 r:=fO f;by_cases hp:p=r.length
  ·have hem:r.drop p=[]:=by rw[List.drop_eq_nil_iff];omega
   rw[if_pos hp] at hall;by_cases g:out.length=2
   ·rw[if_neg Z9] at hall
    exact .inl ⟨out,hall,g,by rw[hem]⟩
   ·refine .inr ⟨λo h=>?_,?_⟩
    ·rw[hall] at h;split at h
     ·cases h
     ·cases h;exact g
    ·simp only[bne_iff_ne.2 (show((out.length:Nat):Int)≠2 by omega),Bool.or_true]
  ·have hem:(r.drop p).isEmpty=false:=by
    rw[Bool.eq_false_iff,ne_eq,List.isEmpty_iff,List.drop_eq_nil_iff];omega
   have hall:Q2 r=none:=by rw[hall,if_neg hp];split<;>rfl
   refine .inr ⟨λout h=>(by rw[hall] at h;cases h),?_⟩
   simp[hem]
theorem mV(x:Bz):∀i,dr x i=x.drop i
 |0=>rfl
 |i+1=>by
  show(dr x i).drop 1=_;rw[mV x i,List.drop_drop]
theorem a1x(x:Bz):∀i,sK x i=decide (x.length<i)
 |0=>rfl
 |i+1=>by
  show(sK x i||(dr x i).isEmpty)=_;rw[a1x x i,mV,Bool.eq_iff_iff,nS,o7,List.isEmpty_iff,List.drop_eq_nil_iff,o7];omega
theorem b39{x:Bz}(h:x.length<10):o6 x=true:=by
 have f:(rcE x).fl=true:=by
  unfold rcE;rw[mV,a1x];by_cases d:x.length=9
  ·rw[List.drop_eq_nil_iff.2 Z9]
   exact a7z _ _
  ·rw[mN Z9]
   exact a19 _ _
 unfold o6;rw[f];rfl
def wK(t:Bz):{r:Bz×Bool//r=(X1 t,R9 t)}:=Classical.choice ⟨⟨_,rfl⟩⟩
def a1q:Con:=.rel ⟨Bz,λt=>[.str t],λt=>.tup [.str (wK t).1.1,.bool (wK t).1.2],u9⟩
theorem bK:GK 217 a1q:=gk func217<|by
 intro(t:Bz) ht;have h:=mW.1 t ht;have d:(wK t).1.1=X1 t:=by rw[(wK t).2]
 have e:(wK t).1.2=R9 t:=by rw[(wK t).2]
 show V4 _ _ _ (.tup [.str (wK t).1.1,.bool (wK t).1.2]);rw[d,e];exact h
def bJ(t:Bz):{r:List (Bz)×Bool//r=((Q2 t).getD [],(Q2 t).isSome)}:=Classical.choice ⟨⟨_,rfl⟩⟩
def a8o:Con:=.rel ⟨Bz,λt=>[.str t],λt=>.tup [s9 (bJ t).1.1,.bool (bJ t).1.2],u9⟩
theorem a5V:GK 298 a8o:=gk func298<|by
 intro(t:Bz) ht;have h:=fJ.1 t ht;have d:(bJ t).1.1=(Q2 t).getD []:=by rw[(bJ t).2]
 have e:(bJ t).1.2=(Q2 t).isSome:=by rw[(bJ t).2]
 show V4 _ _ _ (.tup [s9 (bJ t).1.1,.bool (bJ t).1.2]);rw[d,e];exact h
def l4p(t:Bz):{r:Rec×Bool//r=(if R9 t=true/\o6 (X1 t)=false then rcX (X1 t) else a1A,(R7 t).2==0)}:=Classical.choice ⟨⟨_,rfl⟩⟩
def x7(t:Bz):Rec:=(l4p t).1.1
def l4k(t:Bz):Bool:=(l4p t).1.2
theorem b8k(t:Bz):x7 t=if R9 t=true/\o6 (X1 t)=false then rcX (X1 t) else a1A:=by unfold x7;rw[(l4p t).2]
theorem a6C(t:Bz):l4k t=((R7 t).2==0):=by unfold l4k;rw[(l4p t).2]
def b3h:Con:=.rel ⟨Bz,λt=>[.str t],λt=>.tup [.agg (x7 t).ts,.bool (l4k t)],RdB⟩
theorem b97{x:Bz}(h:10<=x.length):rcE x=U1 (x.drop 9) false:=by
 unfold rcE;rw[mV,a1x,tP Z9]
theorem c6j(x:Bz)(i:Nat):IntKind.i64.wrap ((x.getD i 0).toNat:Int)=numR (dr x i):=by
 rw[uM,mV];unfold numR;rw[P3,P3,List.getElem?_drop,Nat.add_zero]
theorem b8j{t:Bz}(h:¬ (R9 t=true/\o6 (X1 t)=false)):x7 t=a1A/\l4k t=false:=by
 rw[b8k,a6C,if_neg h];refine⟨rfl,?_⟩
 cases u:R9 t with
 |false=>rw[c41 u];rfl
 |true=>
  cases B:o6 (X1 t) with
  |true=>rw[b7S u B];rfl
  |false=>exact absurd ⟨u,B⟩ h
theorem a8K{t:Bz}(h:R9 t=true)(B:o6 (X1 t)=false):x7 t=rcX (X1 t)/\l4k t=O8 (rcX (X1 t)):=by
 rw[b8k,a6C,if_pos ⟨h,B⟩];refine⟨rfl,?_⟩
 cases r:O8 (rcX (X1 t)) with
 |true=>rw[a82 h B r];rfl
 |false=>rw[b6Z h B r];rfl
theorem c5L(t:Bz):(X1 t).length<=t.length:=by
 unfold X1;split
 ·rw[List.length_take];omega
 ·exact N7 _
theorem a5W:GK 218 b3h:=gk func218<|by
 intro(t:Bz) (hb:t.length<=1000);have v:=c5L t;have o:(wK t).1.1=X1 t:=by rw[(wK t).2]
 have u:(wK t).1.2=R9 t:=by rw[(wK t).2]
 have z:∀{p:Bool},(¬ (R9 t=true/\o6 (X1 t)=false))->((0:Int)=(x7 t).e/\(0:Int)=(x7 t).l/\(0:Int)=(x7 t).t/\(0:Int)=(x7 t).k/\(0:Int)=(x7 t).p/\(0:Int)=(x7 t).n/\(0:Int)=(x7 t).g/\(0:Int)=(x7 t).s/\[]=(x7 t).b/\[]=(x7 t).a/\True)/\false=l4k t/\True:=λh=>by
  rw[(b8j h).1,(b8j h).2];exact Z7
 refine U5 (gC bK (gC a5V (gC lR gN))) func218 Z3 (α:=let u:=(0:UInt8);let z:=((0=(x7 t).e/\0=(x7 t).l/\0=(x7 t).t/\0=(x7 t).k/\0=(x7 t).p/\0=(x7 t).n/\0=(x7 t).g/\0=(x7 t).s/\[]=(x7 t).b/\[]=(x7 t).a/\True)/\false=l4k t/\True);∃(x:(Bz)),let r:=(wK x).val.fst.length;let q:=(wK x).val.fst.getD;let pa:=(↑(q 8 u).toNat:Int);let i:=(↑(q 7 u).toNat:Int);let d:=(↑(q 6 u).toNat:Int);let c:=(↑(q 5 u).toNat:Int);let f:=(↑(q 4 u).toNat:Int);let m:=(↑(q 3 u).toNat:Int);let j:=(↑(q 2 u).toNat:Int);let w:=(↑(q 1 u).toNat:Int);((t=x/\True)/\u9 x)/\((!(wK x).val.snd||decide ((↑r:Int)<10))=false->W9 (0:Int) r)/\br (!(wK x).val.snd||decide ((↑r:Int)<10)||(↑(q 0 u).toNat:Int) !=108) z (jX (9:Int) r/\∃(X:(Bz)),let y:=(bJ X).val.fst.length;let v:=(bJ X).val.fst.getD;((List.drop 9 (wK x).val.fst=X/\True)/\u9 X)/\br (!(bJ X).val.snd||(↑y:Int) !=2) z (W9 (1:Int) r/\W9 (2:Int) r/\W9 (3:Int) r/\W9 (4:Int) r/\W9 (5:Int) r/\W9 (6:Int) r/\W9 (7:Int) r/\W9 (8:Int) r/\W9 (0:Int) y/\W9 (1:Int) y/\L8 (v 1 []).length/\(IntKind.i64.wrap w=(x7 t).e/\IntKind.i64.wrap j=(x7 t).l/\IntKind.i64.wrap m=(x7 t).t/\IntKind.i64.wrap f=(x7 t).k/\IntKind.i64.wrap c=(x7 t).p/\IntKind.i64.wrap d=(x7 t).n/\IntKind.i64.wrap i=(x7 t).g/\IntKind.i64.wrap pa=(x7 t).s/\v 0 []=(x7 t).b/\v 1 []=(x7 t).a/\True)/\O8 (Rec.mk (IntKind.i64.wrap w) (IntKind.i64.wrap j) (IntKind.i64.wrap m) (IntKind.i64.wrap f) (IntKind.i64.wrap c) (IntKind.i64.wrap d) (IntKind.i64.wrap i) (IntKind.i64.wrap pa) (v 0 []) (v 1 []))=l4k t/\True))) ⟨t,⟨Z7,a0X⟩,?_⟩
 rw[o,u];refine⟨λh=>?_,λh=>z (p:=true) λq=>?_,λh=>?_⟩
 ·simp only[wR,uG] at h;exact⟨Z9,Z9⟩
 ·obtain⟨hu,R⟩:=q;have hl:10<=(X1 t).length:=by
   by_cases hl:(X1 t).length<10
   ·rw[b39 hl] at R;cases R
   ·omega
  have h108:numR (X1 t)=108:=by
   unfold o6 at R;simp only[wR,bne_eq_false_iff_eq] at R;exact R.1.2
  have h108:(((X1 t).getD 0 0).toNat:Int)=108:=h108;rw[hu,h108,tP Z9] at h
  cases h
 ·simp only[wR,uG,wT,bne_eq_false_iff_eq] at h;obtain⟨⟨hu,hl⟩,h108⟩:=h;have hl:10<=(X1 t).length:=by omega
  have N:numR (X1 t)=108:=h108;have j:(bJ ((X1 t).drop 9)).1.1=(Q2 ((X1 t).drop 9)).getD []:=by rw[(bJ _).2]
  have F:(bJ ((X1 t).drop 9)).1.2=(Q2 ((X1 t).drop 9)).isSome:=by rw[(bJ _).2]
  have hd:((X1 t).drop 9).length=(X1 t).length-9:=List.length_drop;refine⟨⟨Z9,Z9⟩,(X1 t).drop 9,⟨Z7,a0X⟩,?_⟩
  rw[j,F];have hbad:o6 (X1 t)=(!(!(U1 ((X1 t).drop 9) false).fl&&(U1 ((X1 t).drop 9) false).l.isEmpty)||(((U1 ((X1 t).drop 9) false).out.length:Nat):Int) !=2):=by
   unfold o6;rw[b97 hl,N];simp
  rcases c8h (r:=(X1 t).drop 9) Z9 with⟨out,A,h2,hf⟩|⟨A,hf⟩
  ·have hg:o6 (X1 t)=false:=by rw[hbad,hf,h2];rfl
   have d:(rcE (X1 t)).out=out:=by rw[b97 hl,hf]
   have f:=b9o (dr (X1 t) 9) (sK (X1 t) 9) (numR (dr (X1 t) 9)).toNat 1;have f:(out.getD 1 []).length<=255:=by rw[←d];exact f
   rw[A];refine⟨λC=>?_,λ_=>?_⟩
   ·simp[h2] at C
   ·simp only[c6j];rw[(a8K hu hg).1,(a8K hu hg).2];unfold rcX;rw[d];show _/\_/\_/\_/\_/\_/\_/\_/\W9 0 out.length/\W9 1 out.length/\_;exact⟨⟨Z9,Z9⟩,⟨Z9,Z9⟩,⟨Z9,Z9⟩,⟨Z9,Z9⟩,⟨Z9,Z9⟩,⟨Z9,Z9⟩,⟨Z9,Z9⟩,⟨Z9,Z9⟩,⟨Z9,Z9⟩,⟨Z9,Z9⟩,by show(out.getD 1 []).length<_;omega,⟨rfl,rfl,rfl,rfl,rfl,rfl,rfl,rfl,rfl,rfl,Z6⟩,rfl,Z6⟩
  ·have hg:o6 (X1 t)=true:=by rw[hbad];exact hf
   refine⟨λ_=>z (p:=true) λq=>(by rw[hg] at q;cases q.2),λC=>?_⟩
   cases i:Q2 ((X1 t).drop 9) with
   |none=>rw[i] at C;simp at C
   |some out=>
    rw[i] at C;have:=A out i;simp at C;omega
def b76:Con:=.rel ⟨Dsk×Int,λx=>[.agg x.1.ts,Ji x.2],λx=>zD (zA x.1 (nO x.1 x.2)),λx=>F8 x.1/\x.1.E.length=69⟩
def b7o(d:Dsk)(ep:Int):Nat->Ann
 |0=>.one (V5 (d.E.length-9) (lgB d ep)) (λx=>⟨[(1,Ji ep),(2,.ref 0 0 0),(5,.osl 1 0 x.1),(6,Ji (x.1+1:Nat))],[dD d,j5 (zA d x.1)]⟩) (λx=>d.E.length-x.1) b5p b7X (λ_=>Z3)
 |_=>.none
theorem c8u{t:Bz}(h:l4k t=true):R7 t=(x7 t,0)/\O8 (x7 t)=true:=by
 by_cases q:R9 t=true/\o6 (X1 t)=false
 ·obtain⟨d,e⟩:=a8K q.1 q.2;rw[e] at h;rw[d];exact⟨a82 q.1 q.2 h,h⟩
 ·rw[(b8j q).2] at h;cases h
theorem c8J{r:Rec}(h:O8 r=true):1<=r.e:=by
 have:=(Q3 r).1 h;unfold zF at this;exact this.1
theorem b0t{d:Dsk}{ep:Int}{x:Nat}:(!l4k (S0 d (9+x))||(x7 (S0 d (9+x))).l !=((x+1:Nat):Int)||decide ((x7 (S0 d (9+x))).e>ep)||decide (((x+1:Nat):Int)>1)&&decide (((zA d x).getD (0+(((x+1:Nat):Int)-2).toNat) dz).e>(x7 (S0 d (9+x))).e))=lgB d ep x:=by
 cases f:l4k (S0 d (9+x)) with
 |false=>
  have g:((lgR d x).2==0)=false:=by rw[←f,a6C];rfl
  unfold lgB bne;rw[g];rfl
 |true=>
  obtain⟨h,o⟩:=c8u f;have i:=c8J o;have h:lgR d x=(x7 (S0 d (9+x)),0):=h;unfold lgB;rw[h];by_cases hx:x=0
  ·subst hx;have h1:lgE d 0=1:=by unfold lgE;rw[if_pos rfl]
   rw[h1];simp only[Bool.not_true,Bool.false_or,bne_self_eq_false];rw[Bool.eq_iff_iff];simp only[nS,J4,vY,←Bool.not_eq_true,bne_iff_ne,o7,ne_eq,K4];omega
  ·have L:(zA d x).getD (0+(((x+1:Nat):Int)-2).toNat) dz=(lgR d (x-1)).1:=by
    rw[show 0+(((x+1:Nat):Int)-2).toNat=x-1 by omega]
    exact c6B d Z9
   rw[L];simp only[Bool.not_true,Bool.false_or,bne_self_eq_false];rw[Bool.eq_iff_iff];simp only[lgE,if_neg hx,nS,J4,vY,←Bool.not_eq_true,bne_iff_ne,o7,ne_eq,K4];omega
theorem b36:GK 130 b76:=gk func130<|by
 rintro⟨d,ep⟩ ⟨hd,j⟩;dsimp only at hd j;refine U5 (gC dN (gC a5W (gC P5 gN))) func130 (b7o d ep) (α:=let w:=(zA d (nO d ep));(∃(x:V5 (d.E.length-9) (lgB d ep)),(ep=ep/\(0=0/\0=0)/\(0=0/\0=x.1)/\1=(↑(x.1+1):Int)/\True)/\(oo (zI d d))/\(0=(zA d x.1).length/\Z8 0 (tk 10 []) (Y0 (zA d x.1)))/\True)/\∀(x:V5 (d.E.length-9) (lgB d ep)),let v:=x.1;let u:=(zA d v);let r:=(Le (0+v) u.length/\v=w.length/\Z8 x.1 (Y0 u) (Y0 w));let q:=(↑(v+1):Int);(decide (q<=60)=true->Ri (9+q))/\(decide (q<=60)=true->Ri (9+q-1))/\br (decide (q<=60)&&decide (9+q-1<(d.E.length:Int))) (Ri (9+q)/\Ri (9+q-1)/\∃(f:oE.ι),(((zI d f.1)/\9+q-1=(f.2:Int)/\True)/\AtB f)/\∃(X:(Bz)),let z:=(!l4k X||(x7 X).l !=q||decide ((x7 X).e>ep));((S0 f.1 f.2=X/\True)/\RdB X)/\(z=false->decide (q>1)=true->Ri (q-2))/\(z=false->decide (q>1)=true->W9 (q-2) v)/\(z=false->decide (q>1)=true->Lt (0+(q-2).toNat) u.length)/\br (!l4k X||(x7 X).l !=q||decide ((x7 X).e>ep)||decide (q>1)&&decide ((u.getD (0+(q-2).toNat) dz).e>(x7 X).e)) r ((Le x.1 u.length/\U8 x.1 1 96)/\Ri (q+1)/\∃(y:V5 (d.E.length-9) (lgB d ep)),((ep=ep/\(0=0/\0=0)/\(0=0/\v+1=y.1)/\q+1=(↑(y.1+1):Int)/\True)/\(oo (zI d d))/\(v+1=(zA d y.1).length/\Z8 (v+1) (X4 (Y0 u) x.1 (tk 10 [Ji (x7 X).e,Ji (x7 X).l,Ji (x7 X).t,Ji (x7 X).k,Ji (x7 X).p,Ji (x7 X).n,Ji (x7 X).g,Ji (x7 X).s,T.str (x7 X).b,T.str (x7 X).a])) (Y0 (zA d y.1)))/\True)/\Lt (d.E.length-y.1) (d.E.length-v))) r) ⟨⟨F2,Z7,Z7,⟨(yA d 0).symm,P0⟩,Z6⟩,λx=>?_⟩
 have L:=x.2.1;have C:=hd.2.2.1;have i:=yA d x.1;refine⟨λ_=>Z4 Z9,λ_=>Z4 Z9,λhc=>?_,λhc=>?_⟩
 ·have hc:9+x.1<d.E.length:=by
   simp only[J4,o7] at hc;omega
  have u:=lV hd hc;refine⟨Z4 Z9,Z4 Z9,(d,9+x.1),⟨⟨eqD _,X5,Z6⟩,hc,X5⟩,S0 d (9+x.1),⟨Z7,by show(S0 d (9+x.1)).length<=1000;omega⟩,λ_ h=>Z4 Z9,λ_ h=>?_,λ_ h=>?_,?_⟩
  ·have:=G5 h;exact⟨Z9,Z9⟩
  ·have:=G5 h;unfold Lt;omega
  rw[b0t (d:=d) (ep:=ep)];refine⟨λhb=>?_,λhb=>?_⟩
  ·rw[b8c Z9 hb x.2.2]
   exact⟨J9,i.symm,X6 _ _⟩
  ·refine⟨⟨J9,Q9⟩,Z4 Z9,x.succ Z9 hb,⟨⟨rfl,Z7,Z7,by dsimp only[V5.succ];omega,Z6⟩,⟨rfl,rfl,eqD _⟩,⟨(yA d (x.1+1)).symm,?_⟩,Z6⟩,by unfold Lt;dsimp only[V5.succ];omega⟩
   show Z8 _ _ (Y0 (zA d (x.1+1)));have o:=hJ (zA d x.1) (lgR d x.1).1;have q:l4k (S0 d (9+x.1))=true:=by
    rw[←b0t] at hb;simp only[wR,wT] at hb;exact hb.1.1.1
   have r:(lgR d x.1).1=x7 (S0 d (9+x.1)):=by
    show(R7 (S0 d (9+x.1))).1=_;rw[(c8u q).1]
   rw[a4n,r];rw[i,r] at o;exact o
 ·have Q:x.1=d.E.length-9:=by
   by_cases N:x.1=d.E.length-9
   ·exact N
   ·rw[mN (show((x.1+1:Nat):Int)<=60 by omega),mN (show(9:Int)+((x.1+1:Nat):Int)-1<(d.E.length:Int) by omega)] at hc
    cases hc
  rw[b1o Q x.2.2];exact⟨J9,i.symm,X6 _ _⟩
def j7(e:Eng):Eng:=⟨⟨e.s.d,e.s.ep,zA e.s.d (nO e.s.d e.s.ep),(nO e.s.d e.s.ep:Nat),[],0⟩,false,[],⟨[],[]⟩,e.N⟩
def c5U:Con:=.reff ⟨Eng×Nat,λx=>[.ref 0 0 0],λx=>x.1.bx x.2,λ_=>.int .i64 15,λx=>(j7 x.1).nx 0,λx=>F8 x.1.s.d⟩
theorem a98:GK 97 c5U:=gk func97<|by
 rintro⟨e,v⟩ (hd:F8 e.s.d);have h:=(yA e.s.d (nO e.s.d e.s.ep)).symm;exact C4 (gC a9k gN) func97 Z3 [[.nilC 0 7 0 5,.fac 0 7,.nilC 0 10 0 2,.nilC 0 11 0 4,.nilC 0 12 0 2,.box 0,.arr 1,.arr 2,.arr 3,.arr 4,.arr 5,.arr 6,.arr 7,.arr 8,.cel 0 0,.cel 0 1,.cel 0 3,.cel 0 5,.cel 0 7,.cel 0 10,.cel 0 11,.cel 0 12]] (α:=let r:=(0=0/\0=0);let q:=(nO e.s.d e.s.ep);∃(x:(Dsk×Int)),let p:=(λ(x:Nat)=>[]);((Le (0+e.s.d.E.length) e.s.d.E.length/\Le (0+e.s.d.C.length) e.s.d.C.length/\Le (0+e.s.d.keep.length) e.s.d.keep.length)/\((zI e.s.d x.1)/\e.s.ep=x.2/\True)/\LgS x)/\((15:Int)=15/\True)/\(oo ((0=0/\e.s.d.E.length=e.s.d.E.length)/\(0=0/\e.s.d.C.length=e.s.d.C.length)/\e.s.d.A=e.s.d.A/\(0=0/\e.s.d.keep.length=e.s.d.keep.length)/\e.s.ep=e.s.ep/\(0=0/\nO x.1 x.2=(zA e.s.d q).length)/\(↑(nO x.1 x.2):Int)=(↑q:Int)/\r/\(0:Int)=0/\false=false/\r/\r/\r/\e.N=e.N/\True))/\T8 ((Z0 Z5 e.s.d.E e.s.d.E)/\(Z0 Z1 e.s.d.C e.s.d.C)/\(Z0 Y9 e.s.d.keep e.s.d.keep)/\(Z0 Y0 (zA x.1 (nO x.1 x.2)) (zA e.s.d q))/\(0=0/\0=0/\V2 0 p (Y5 []))/\(0=0/\Z8 0 p (X2 []))/\(0=0/\Z8 0 p (Z2 []))/\(0=0/\Z8 0 p (Y7 []))/\True)) ⟨(e.s.d,e.s.ep),⟨Z7,Z7,hd⟩,Z7,⟨rfl,rfl,Z7,Z7,rfl,Z7,rfl,⟨rfl,h⟩,Z7⟩,Z6,Z6,Z6,Z6,Z6,Z6,Z6,Z6,Z7,Z7,Z7,Z7,⟨rfl,rfl,λi hi=>absurd hi (D0 _)⟩,⟨rfl,P0⟩,⟨rfl,P0⟩,⟨rfl,P0⟩,Z6⟩
def sdE(e:Eng)(d:Dsk):Eng:={e with s:=e.s.sd d}
theorem b60(sec:List (Bz))(C:List Pend)(Q:Nat->Bool)(h:∀i,i<sec.length->(sec.getD i []).length<=160)(e:∀i,i<C.length->(C.getD i dz).d.length<=160):∀n,n<=C.length->∀i,i<sec.length->((zP sec C Q n).getD i []).length<=160
 |0,_,i,hi=>h i hi
 |n+1,hn,i,hi=>by
  unfold zP;have I:=b60 sec C Q h e n Z9 i hi
  split
  ·by_cases hj:i=(C.getD n dz).at_.toNat
   ·subst hj;rw[P3,j_j (by rw[A6];exact hi)]
    exact e n Z9
   ·rw[P3,j_k (Ne.symm hj),←P3]
    exact I
  ·exact I
theorem a4r{m:Nat}{p:Pend}(h:P2 m p=false):0<=p.at_/\p.at_<m/\p.d.length<=160:=by
 unfold P2 at h;simp only[wR,wT,K4,uG] at h;omega
theorem lW{n:Nat}{p:Nat->Bool}(h:¬S5 n p<0):∃i,i<n/\p i=true/\(∀j,j<i->p j=false)/\S5 n p=(i:Int):=by
 cases A:anyI n p with
 |false=>exact absurd (by rw[K1 (P4.1 A)];omega) h
 |true=>
  obtain⟨i,hi,hp⟩:=R8.1 A;have key:∀m,m<=n->(∀j,j<m->p j=false)∨∃i,i<n/\p i=true/\(∀j,j<i->p j=false):=by
   intro m;induction m with
   |zero=>intro _;exact .inl λj J=>absurd J (D0 j)
   |succ m I=>
    intro d;rcases I Z9 with h0|h0
    ·cases hq:p m with
     |true=>exact .inr ⟨m,d,hq,h0⟩
     |false=>
      refine .inl λj J=>?_
      by_cases M:j=m
      ·rw[M];exact hq
      ·exact h0 j Z9
    ·exact .inr h0
  rcases key n (U9 n) with h0|⟨k,hk,hpk,hn⟩
  ·rw[h0 i hi] at hp;cases hp
  ·exact⟨k,hk,hpk,hn,N8 hk hpk hn⟩
theorem c63(d:Dsk)(ep:Int):nO d ep<=d.E.length-9:=by
 unfold nO;split
 ·exact U9 _
 ·rename_i h;by_cases hn:S5 (d.E.length-9) (lgB d ep)<0
  ·omega
  ·obtain⟨i,hi,_,_,e⟩:=lW hn;omega
def b3L:Con:=.rel ⟨Eng×Dsk,λx=>[.agg x.1.ts,.agg x.2.ts],λx=>.agg (j7 (sdE x.1 x.2)).ts,λx=>F8 x.2/\x.2.E.length=69⟩
theorem oF:GK 80 b3L:=gk func80<|by
 rintro⟨e,d⟩ ⟨h,f⟩;dsimp only at h f;exact U5 (gC b36 (gC P5 (gC b0h gN))) func80 Z3 (α:=∃(x:(Dsk×Int)),let p:=(zA x.1 (nO x.1 x.2));(((zI d x.1)/\e.s.ep=x.2/\True)/\F8 x.1/\x.1.E.length=69)/\(Z0 Z5 d.E d.E)/\(Z0 Z1 d.C d.C)/\d.A=d.A/\(Z0 Y9 d.keep d.keep)/\e.s.ep=e.s.ep/\(Z0 Y0 p (zA d (nO d e.s.ep)))/\(↑p.length:Int)=(↑(nO d e.s.ep):Int)/\0=0/\(0:Int)=0/\false=false/\0=0/\0=0/\0=0/\e.N=e.N/\True) ⟨(d,e.s.ep),⟨Z7,h,f⟩,Z7,Z7,rfl,Z7,rfl,Z7,congrArg _ (yA _ _),Z7⟩
def X7{α:Type}[Inhabited α](f:α->Bool)(L:List α):Nat->List α
 |0=>[]
 |i+1=>if f (L.getD i dz)=true then X7 f L i++[L.getD i dz] else X7 f L i
def hF(tx:Int)(x:Lck):Bool:=x.tx !=tx
def wF(tx:Int)(w:Wt):Bool:=w.tx !=tx&&w.fo !=tx
def frK(l:Lks)(tx:Int):Lks:=⟨X7 (hF tx) l.H l.H.length,X7 (wF tx) l.W l.W.length⟩
def b3f:Con:=.rel ⟨Lks×Int,λx=>[.agg x.1.ts,Ji x.2],λx=>.agg (frK x.1 x.2).ts,λx=>x.1.H.length<=1000000/\x.1.W.length<=1000000⟩
def lkB(l:Lks):Option Ob:=some (.arr true 1000000 2 1 λ_=>l.ts)
def lkO(a n b m:Nat):Option Ob:=some (.arr false 1000000 2 1 λ_=>[.osl a 0 n,.osl b 0 m])
def b2k(l:Lks)(tx:Int):Nat->Ann
 |1=>.one (Up l.W.length) (λx=>⟨[(1,Ji tx),(2,.ref 0 0 0),(4,.ref 1 0 0),(5,.ref 2 0 0),(7,Ji x.1)],[lkB l,lkB ⟨[],[]⟩,lkO 3 (frK l tx).H.length 4 (X7 (wF tx) l.W x.1).length,yX (frK l tx).H,sT (X7 (wF tx) l.W x.1)]⟩) (λx=>l.W.length-x.1) b7p b7p (λ_=>Z3)
 |2=>.one (Up l.W.length) (λx=>⟨[(1,Ji tx),(2,.ref 0 0 0),(4,.ref 1 0 0),(5,.ref 2 0 0),(7,Ji x.1)],[lkB l,lkB ⟨[],[]⟩,lkO 3 (frK l tx).H.length 4 (X7 (wF tx) l.W x.1).length,yX (frK l tx).H,sT (X7 (wF tx) l.W x.1)]⟩) (λx=>l.W.length-x.1) b7p b7p (λ_=>Z3)
 |_=>.none
def b1H(l:Lks)(tx:Int):Nat->Ann
 |0=>.one (Up l.H.length) (λx=>⟨[(1,Ji tx),(2,.ref 0 0 0),(4,.ref 1 0 0),(5,.ref 2 0 0),(6,Ji x.1)],[lkB l,lkB ⟨[],[]⟩,lkO 3 (X7 (hF tx) l.H x.1).length 4 0,yX (X7 (hF tx) l.H x.1),sT []]⟩) (λx=>l.H.length-x.1) [.box 0,.box 1,.box 4,.arr 2,.arr 3] b7p (λ_=>b2k l tx)
 |_=>.none
theorem zU{α:Type}[Inhabited α](f:α->List T)(n:Nat)(F:∀a,(f a).length=n)(L:List α)(x:α):Z8 (L.length+1) (X4 (λi=>f (L.getD i dz)) L.length λk=>List.take n (List.drop (k*n) (f x))) (λi=>f ((L++[x]).getD i dz)):=by
 intro i hi;unfold X4;by_cases h:i<L.length
 ·rw[rW h];dsimp only;rw[P3,P3,rK h]
 ·have:i=L.length:=by omega
  subst this;rw[mG h];dsimp only;have:(L++[x]).getD L.length dz=x:=by rw[P3,pZ (U9 _)];simp
  rw[this,j_h,Nat.zero_mul,List.drop_zero,List.take_of_length_le (by rw[F];exact U9 _)]
theorem aF{α:Type}[Inhabited α]{f:α->Bool}{L:List α}{i:Nat}(h:f (L.getD i dz)=true):X7 f L (i+1)=X7 f L i++[L.getD i dz]:=by
 conv=>lhs;unfold X7
 rw[if_pos h]
theorem pQ{α:Type}[Inhabited α]{f:α->Bool}{L:List α}{i:Nat}(h:f (L.getD i dz)=false):X7 f L (i+1)=X7 f L i:=by
 conv=>lhs;unfold X7
 rw[if_neg cY]
theorem o9{α:Type}[Inhabited α](f:α->Bool)(L:List α):∀i,(X7 f L i).length<=i
 |0=>U9 _
 |i+1=>by
  have:=o9 f L i;unfold X7;split
  ·rw[F7,List.length_singleton];omega
  ·omega
theorem rD{α:Type}[Inhabited α]{f:α->Bool}{L:List α}{i:Nat}(h:f (L.getD i dz)=true):(X7 f L i).length+1=(X7 f L (i+1)).length:=by
 rw[aF h,F7,List.length_singleton]
theorem a7U:GK 302 b3f:=gk func302<|by
 rintro⟨l,tx⟩ ⟨d,h⟩;dsimp only at d h;refine U5 (gC P5 gN) func302 (b1H l tx) (α:=let f:=(0=0/\Z8 0 (Y7 []) (Y7 []));let v:=(0=0/\0=0);let u:=(oo ((Z0 Z2 l.H l.H)/\(Z0 Y7 l.W l.W)/\True));let q:=(oo ((0=0/\Z8 0 (Z2 []) (Z2 []))/\f/\True));let p:=(X7 (hF tx) l.H l.H.length);let pb:=(Z0 Z2 p p);let d:=p.length;(∃(x:Up l.H.length),let g:=(X7 (hF tx) l.H x.1);(tx=tx/\v/\v/\v/\0=(x.1:Int)/\True)/\u/\(oo (0=0/\0=0/\True))/\(oo ((0=0/\0=g.length)/\v/\True))/\(0=g.length/\Z8 0 (tk 4 []) (Z2 g))/\(0=0/\Z8 0 (tk 2 []) (Y7 []))/\True)/\∀(x:Up l.H.length),let m:=(x.1:Int);let w:=(l.H.getD m.toNat dz);let z:=(X7 (hF tx) l.H x.1);let i:=z.length;bd (m<(l.H.length:Int)) (W9 m l.H.length/\br (w.tx !=tx) (W9 m l.H.length/\(Le z.length i/\U8 z.length 1 32)/\Ri (m+1)/\∃(y:Up l.H.length),let a:=(X7 (hF tx) l.H y.1);((tx=tx/\v/\v/\v/\m+1=(y.1:Int)/\True)/\u/\q/\(oo ((0=0/\i+1=a.length)/\v/\True))/\(i+1=a.length/\Z8 (i+1) (X4 (Z2 z) z.length (tk 4 [Ji w.tx,Ji w.ta,Ji w.row,Ji w.mo])) (Z2 a))/\f/\True)/\Lt (l.H.length-y.1) (l.H.length-x.1)) (Ri (m+1)/\∃(y:Up l.H.length),let t:=(X7 (hF tx) l.H y.1);((tx=tx/\v/\v/\v/\m+1=(y.1:Int)/\True)/\u/\q/\(oo ((0=0/\i=t.length)/\v/\True))/\(Z0 Z2 z t)/\f/\True)/\Lt (l.H.length-y.1) (l.H.length-x.1))) ((∃(X:Up l.W.length),let b:=(X7 (wF tx) l.W X.val);(tx=tx/\v/\v/\v/\0=(X.val:Int)/\True)/\u/\q/\(oo ((0=0/\i=d)/\(0=0/\0=b.length)/\True))/\(Z0 Z2 z p)/\(0=b.length/\Z8 0 (Y7 []) (Y7 b))/\True)/\∀(x:Up l.W.length),let n:=(X7 (wF tx) l.W x.1);let k:=(x.1:Int);let j:=(l.W.getD k.toNat dz);let r:=n.length;bd (k<(l.W.length:Int)) (W9 k l.W.length/\((j.tx !=tx)=true->W9 k l.W.length)/\br (j.tx !=tx&&j.fo !=tx) (W9 k l.W.length/\(Le r r/\U8 r 1 16)/\Ri (k+1)/\∃(y:Up l.W.length),let c:=(X7 (wF tx) l.W y.1);((tx=tx/\v/\v/\v/\k+1=(y.1:Int)/\True)/\u/\q/\(oo ((0=0/\d=d)/\(0=0/\r+1=c.length)/\True))/\pb/\(r+1=c.length/\Z8 (r+1) (X4 (Y7 n) r (tk 2 [Ji j.tx,Ji j.fo])) (Y7 c))/\True)/\Lt (l.W.length-y.1) (l.W.length-x.1)) (Ri (k+1)/\∃(y:Up l.W.length),let pa:=(X7 (wF tx) l.W y.1);((tx=tx/\v/\v/\v/\k+1=(y.1:Int)/\True)/\u/\q/\(oo ((0=0/\d=d)/\(0=0/\r=pa.length)/\True))/\pb/\(Z0 Y7 n pa)/\True)/\Lt (l.W.length-y.1) (l.W.length-x.1))) ((Le (0+d) d/\Le (0+r) r)/\pb/\(Z0 Y7 n (X7 (wF tx) l.W l.W.length))/\True))) ⟨⟨⟨0,N7 _⟩,K7⟩,λx=>⟨λhc=>?_,λhc=>?_⟩⟩
 ·have hlt:=Y2 hc;have hle:=o9 (hF tx) l.H x.1;rw[D8];refine⟨Y6 hlt,λhq=>?_,λhq=>?_⟩
  ·have hn:=rD (f:=hF tx) hq;refine⟨Y6 hlt,⟨U9 _,Q9⟩,Z4 Z9,⟨x.1+1,hlt⟩,⟨⟨rfl,Z7,Z7,Z7,X5,Z6⟩,Z7,⟨rfl,rfl,⟨rfl,P0⟩,⟨rfl,P0⟩,Z6⟩,⟨rfl,rfl,⟨rfl,hn⟩,Z7⟩,⟨hn,?_⟩,⟨rfl,P0⟩,Z6⟩,V5.ext_lt hlt⟩
   dsimp only;rw[aF (f:=hF tx) hq];exact zU Lck.ts 4 (λ_=>rfl) _ _
  ·have hn:=pQ (f:=hF tx) hq;refine⟨Z4 Z9,⟨x.1+1,hlt⟩,?_,V5.ext_lt hlt⟩
   dsimp only;rw[hn];exact⟨⟨rfl,Z7,Z7,Z7,Z9,Z6⟩,Z7,⟨rfl,rfl,⟨rfl,P0⟩,⟨rfl,P0⟩,Z6⟩,Z7,Z7,⟨rfl,P0⟩,Z6⟩
 ·have hx:x.1=l.H.length:=by have:=x.2;have:=X9 hc;omega
  rw[hx];refine⟨⟨⟨0,N7 _⟩,K7⟩,λy=>⟨λhc=>?_,λhc=>?_⟩⟩
  ·have hlt:=Y2 hc;have hle:=o9 (wF tx) l.W y.1;rw[D8];refine⟨Y6 hlt,λ_=>Y6 hlt,λhq=>?_,λhq=>?_⟩
   ·have hn:=rD (f:=wF tx) hq;refine⟨Y6 hlt,⟨U9 _,Q9⟩,Z4 Z9,⟨y.1+1,hlt⟩,⟨⟨rfl,Z7,Z7,Z7,X5,Z6⟩,Z7,⟨rfl,rfl,⟨rfl,P0⟩,⟨rfl,P0⟩,Z6⟩,⟨rfl,rfl,Z7,⟨rfl,hn⟩,Z6⟩,Z7,⟨hn,?_⟩,Z6⟩,V5.ext_lt hlt⟩
    dsimp only;rw[aF (f:=wF tx) hq];exact zU Wt.ts 2 (λ_=>rfl) _ _
   ·have hn:=pQ (f:=wF tx) hq;refine⟨Z4 Z9,⟨y.1+1,hlt⟩,?_,V5.ext_lt hlt⟩
    dsimp only;rw[hn];exact⟨⟨rfl,Z7,Z7,Z7,Z9,Z6⟩,Z7,⟨rfl,rfl,⟨rfl,P0⟩,⟨rfl,P0⟩,Z6⟩,Z7⟩
  ·have hy:y.1=l.W.length:=by have:=y.2;have:=X9 hc;omega
   rw[hy];exact Z7
def b2i(e:Eng)(k:Nat):Eng:={e with X:=e.X.take k++e.X.drop (k+1),lk:=frK e.lk (e.X.getD k dz).id}
def b1y:Con:=.rel ⟨Eng×Nat,λx=>[.agg x.1.ts,Ji x.2],λx=>.agg (b2i x.1 x.2).ts,λx=>x.2<x.1.X.length/\x.1.X.length<=1000/\x.1.lk.H.length<=1000000/\x.1.lk.W.length<=1000000⟩
theorem b6e{L:List Txn}{k:Nat}(d:k<L.length):Z8 (k+(L.length- (k+1))) (X4 (X2 L) k λi=>(L.getD (k+1+i) dz).ts) (X2 (L.take k++L.drop (k+1))):=by
 intro i hi;have l:(L.take k).length=k:=by rw[List.length_take];omega
 unfold X4 X2;by_cases h:i<k
 ·rw[rW h];dsimp only;rw[P3,P3,rK Z9,List.getElem?_take_of_lt h]
 ·rw[mG h];dsimp only;rw[P3,P3,pZ Z9,l,List.getElem?_drop]
theorem a8G:GK 224 b1y:=gk func224<|by
 rintro⟨e,k⟩ ⟨h,l,g,f⟩;dsimp only at h l g f;have j:((k:Nat):Int).toNat=k:=D8 k;have n:((k:Int)+1).toNat=k+1:=Z9
 refine U5 (gC a7U (gC P5 gN)) func224 Z3 (α:=W9 (k:Int) e.X.length/\∃(x:(Lks×Int)),((((Z0 Z2 e.lk.H x.1.H)/\(Z0 Y7 e.lk.W x.1.W)/\True)/\(e.X.getD (k:Int).toNat dz).id=x.2/\True)/\x.1.H.length<=1000000/\x.1.W.length<=1000000)/\jX (k:Int) e.X.length/\(Le 0 0/\U8 0 (k:Int).toNat 16)/\R1 .i64 ((k:Int)+(1:Int))/\jX ((k:Int)+(1:Int)) e.X.length/\(Le (0+(k:Int).toNat) (0+(k:Int).toNat)/\U8 (0+(k:Int).toNat) (e.X.length- ((k:Int)+(1:Int)).toNat) 16)/\Le (0+(0+(k:Int).toNat+(e.X.length- ((k:Int)+(1:Int)).toNat))) (0+(k:Int).toNat+(e.X.length- ((k:Int)+(1:Int)).toNat))/\(Z0 Z5 e.s.d.E e.s.d.E)/\(Z0 Z1 e.s.d.C e.s.d.C)/\e.s.d.A=e.s.d.A/\(Z0 Y9 e.s.d.keep e.s.d.keep)/\e.s.ep=e.s.ep/\(Z0 Y0 e.s.L e.s.L)/\e.s.S=e.s.S/\(Z0 V9 e.s.fr e.s.fr)/\e.s.J=e.s.J/\e.up=e.up/\(0+(k:Int).toNat+(e.X.length- ((k:Int)+(1:Int)).toNat)=(List.take k e.X++List.drop (k+1) e.X).length/\Z8 (0+(k:Int).toNat+(e.X.length- ((k:Int)+(1:Int)).toNat)) (X4 (X4 (tk 2 []) 0 (X2 e.X)) (0+(k:Int).toNat) λ(i:Nat)=>[Ji (e.X.getD (((k:Int)+(1:Int)).toNat+i) dz).id,Ji (e.X.getD (((k:Int)+(1:Int)).toNat+i) dz).Z]) (X2 (List.take k e.X++List.drop (k+1) e.X)))/\(Z0 Z2 (X7 (hF x.2) x.1.H x.1.H.length) (X7 (hF (e.X.getD k dz).id) e.lk.H e.lk.H.length))/\(Z0 Y7 (X7 (wF x.2) x.1.W x.1.W.length) (X7 (wF (e.X.getD k dz).id) e.lk.W e.lk.W.length))/\e.N=e.N/\True) ?_
 rw[j,n,D2,b6E];refine⟨Y6 h,(e.lk,(e.X.getD k dz).id),⟨Z7,g,f⟩,⟨Z9,Z9⟩,⟨U9 _,Q9⟩,Z4 Z9,⟨Z9,Z9⟩,⟨J9,Q9⟩,J9,Z7,Z7,rfl,Z7,rfl,Z7,rfl,Z7,rfl,rfl,⟨?_,b6e h⟩,Z7⟩
 rw[F7,List.length_take,List.length_drop];omega
def G3(e:Eng)(tx:Int):Int×Int:=if e.up=true then(if T7 e.X tx<0 then(0,19) else(T7 e.X tx,0)) else(0,15)
def a7v:Con:=.rel ⟨Eng×Int,λx=>[.agg x.1.ts,Ji x.2],λx=>.tup [Ji (G3 x.1 x.2).1,Ji (G3 x.1 x.2).2],λx=>L8 x.1.X.length⟩
theorem c8L{e:Eng}{tx:Int}(h:(!e.up)=true):G3 e tx=(0,15):=by unfold G3;rw[if_neg w9]
theorem c83{e:Eng}{tx:Int}(h:(!e.up)=false)(d:decide (T7 e.X tx<0)=true):G3 e tx=(0,19):=by unfold G3;rw[if_pos w9,if_pos (G5 d)]
theorem c8G{e:Eng}{tx:Int}(h:(!e.up)=false)(d:decide (T7 e.X tx<0)=false):G3 e tx=(T7 e.X tx,0):=by unfold G3;rw[if_pos w9,if_neg (r8 d)]
theorem a3L:GK 77 a7v:=gk func77<|by
 rintro⟨e,tx⟩ (hL:L8 e.X.length);refine U5 (gC a5v gN) func77 Z3 (α:=let p:=(G3 e tx);br (!e.up) (0=p.1/\15=p.2/\True) (∃(x:(Eng×Int)),(((K9 e x.1)/\tx=x.2/\True)/\L8 x.1.X.length)/\bd (T7 x.1.X x.2<0) (0=p.1/\19=p.2/\True) (T7 x.1.X x.2=p.1/\0=p.2/\True))) ⟨λh=>?_,λh=>⟨(e,tx),⟨Z7,hL⟩,λq=>?_,λq=>?_⟩⟩
 ·rw[c8L h];exact Z7
 ·rw[c83 h q];exact Z7
 ·rw[c8G h q];exact Z7
theorem c19{r:Rec}(h:O8 r=true):r.b.length<=30/\r.a.length<=38:=by
 have h:=(Q3 r).1 h;unfold zF at h;obtain⟨_,_,_,_,_,_,_,_,_,_,_,_,_,_,B,f,e⟩:=h;refine⟨Z9,?_⟩
 by_cases d:r.k=6
 ·exact a1p (f d).2.2.2.2.2.2
 ·have:=(e d).2.2.1;omega
theorem c72{r:Rec}(h:O8 r=true):(J3 r).length<=160:=by
 obtain⟨d,e⟩:=c19 h;have f:(z6 (zN (b4O r))).length=4:=rfl;have l:(J3 r).length=16+(r.b.length+r.a.length):=by
  unfold J3 b4O;rw[F7];simp only[S4,V7,F7,List.length_cons,List.length_nil];show _+4=_;simp;omega
 omega
def b9S(d:Dsk):Prop:=d.E.length=69/\d.keep.length<=500/\(d.A=false->d.keep.length=0)/\(∀i,i<d.E.length->(d.E.getD i []).length<=160)/\∀i,i<d.C.length->(d.C.getD i dz).d.length<=160
theorem b01{d:Dsk}(h:b9S d):F8 (U3 d).1/\(U3 d).1.E.length=69:=by
 obtain⟨l,g,j,e,f⟩:=h;unfold U3;split
 ·have hl:(crD d d.keep).E.length=d.E.length:=A6 _ _ _ _;refine⟨⟨X5,X5,N7 _,N7 _,λ_=>rfl,λi hi=>?_,λi hi=>absurd hi (D0 _)⟩,X5⟩
  dsimp only at hi;rw[hl] at hi;exact b60 d.E d.C (kp d.keep) e f _ (U9 _) i hi
 ·have hl:(zP d.E d.C (λ_=>true) d.C.length).length=d.E.length:=A6 _ _ _ _
  refine⟨⟨X5,X5,N7 _,g,j,λi hi=>?_,λi hi=>absurd hi (D0 _)⟩,X5⟩
  dsimp only at hi;rw[hl] at hi;exact b60 d.E d.C (λ_=>true) e f _ (U9 _) i hi
theorem c8g{s:Sto}{l:Int}(hd:F8 s.d)(B:mC s l)(r:xG s.L):b9S (cT s (I9 s l)):=by
 have h:=B.2.2.2.1;refine⟨h,hd.2.2.2.1,hd.2.2.2.2.1,hd.2.2.2.2.2.1,λi hi=>?_⟩
 have hi:i<(s.d.C++List.map (nR s) (List.range (I9 s l))).length:=hi;show((s.d.C++List.map (nR s) (List.range (I9 s l))).getD i dz).d.length<=160;rw[P3]
 by_cases hc:i<s.d.C.length
 ·rw[rK hc,←P3]
  exact(a4r (hd.2.2.2.2.2.2 i hc)).2.2
 ·rw[pZ Z9,←P3]
  simp only[F7,List.length_map,j_g] at hi;rw[j3 _ Z9]
  have n:=fY (i:=i-s.d.C.length) B Z9
  obtain⟨_,_,_,_,e,_,_,f,_⟩:=B;exact c72 ((Q3 _).2 (r.2 _ Z9).1)
theorem b0P{s:Sto}{l:Int}(hd:F8 s.d)(h:mC s l)(r:xG s.L):F8 (V8 s l).1.d/\(V8 s l).1.d.E.length=69:=by
 by_cases L:l<=s.S
 ·rw[xD L];exact⟨hd,h.2.2.2.1⟩
 ·rw[xQ L];exact b01 (c8g hd h r)
theorem c09{e:Eng}(h:R2 e=true)(u:e.up=true):e.s.L.length+nJ e<=60:=by
 have d:=(u3 h).2.2;rw[if_pos u] at d;unfold upE at d;simp only[J4,o7] at d;exact d.2
theorem a9q{e:Eng}(h:R2 e=true)(u:e.up=true){i:Nat}(hi:i<e.X.length):1<=(e.X.getD i dz).Z/\(e.X.getD i dz).Z<=e.s.L.length:=by
 have:=c4v h u i hi;unfold y5 nC at this;simp only[wR,wT,J4,K4] at this;exact this.2.1
theorem b6C{l:Lks}(h:B6 l=true):l.H.length<=60/\l.W.length<=100:=by
 unfold B6 at h;simp only[J4,o7] at h;exact h.2.1
theorem a1F{e:Eng}{tx:Int}(h:(G3 e tx).2=0):e.up=true/\∃k:Nat,(G3 e tx).1=(k:Int)/\k<e.X.length/\(e.X.getD k dz).id=tx/\T7 e.X tx=k:=by
 revert h;unfold G3;split
 ·rename_i hu;split
  ·intro h;cases h
  ·rename_i d;intro _;have d:¬S5 e.X.length (x1 e.X tx)<0:=d;obtain⟨i,hi,hp,_,f⟩:=lW d;exact⟨hu,i,f,hi,by unfold x1 at hp;simpa using hp,f⟩
 ·intro h;cases h
def a3F(e:Eng)(k:Nat)(r:Rec):Prop:=r.k≠6/\r.k≠1/\1<=r.k/\r.k<=6/\(r.k≠3->r.n=0)/\(r.k≠2->r.k≠3->r.g=0/\r.s=0/\r.b=[]/\r.a=[])/\0<=r.n/\r.n<=(e.s.L.length:Int)/\0<=r.g/\r.g<=7/\0<=r.s/\r.s<=3/\r.b.length<=30/\r.a.length<=30/\(r.k=3->r.b=[])/\k<e.X.length
theorem b77{s:Sto}{r:Rec}(L:xG s.L)(h:O8 (P8 s r)=true)(l:s.L.length+1<=60):xG (apx s r).L:=by
 have e:(apx s r).L=s.L++[P8 s r]:=rfl;rw[e];refine⟨C5,λi hi=>?_⟩
 rw[F7,List.length_singleton] at hi;by_cases C:i<s.L.length
 ·have:(s.L++[P8 s r]).getD i dz=s.L.getD i dz:=by
   rw[P3,rK C,←P3]
  rw[this];exact L.2 i C
 ·have:i=s.L.length:=by omega
  subst this;have:(s.L++[P8 s r]).getD s.L.length dz=P8 s r:=a4U s r;rw[this];exact⟨(Q3 _).1 h,rfl⟩
theorem c7g{d:Dsk}(h:F8 d):nM d:=by
 obtain⟨d1,d2,f,e,_⟩:=h;exact⟨Z9,Z9,Z9⟩
theorem a1g{e:Eng}(hd:F8 e.s.d):M6 (j7 e):=by
 have M:=c63 e.s.d e.s.ep;have h:=hd.2.1;refine⟨⟨c7g hd,?_,N7 _,λi hi=>absurd hi (D0 _)⟩,Z7⟩
 show(zA _ _).length<=_;rw[yA];omega
open Go.SS Go.RowKit Go.Proofs.Tryz
def iV:List Value:=[.int .i64 0,.int .i64 0]
theorem a4o:(prog.info? 118).map (λi=>(i.zero,i.size,i.bytes))=some (some (.agg iV.toArray),2,16):=R4
theorem a0O:prog.underlying 46=some (.slice 118):=R4
theorem bV(w:World)(ty:TypeId)(b o c:Nat)(g:∀j,j<2->(w.cell? ⟨b,o+j,none⟩).isSome=true)(f:∀j,j<2->w.frozen? ⟨b,o+j,none⟩=false):
  (Builtin.clear_ #[46] ty #[.slice (some ⟨b,o,none⟩) 1 c]).run prog w= .ok (.tuple #[]) (w.setCells b o iV):=by
 obtain⟨i,e,d,_⟩:=info_parts a4o;have hv:∀w,(zeroValue 118).run prog w= .ok (.agg iV.toArray) w:=λw=>by
  simp[zeroValue,typeInfo,e,d]
 have t:=run_storeCells_cells (P:=prog) b o iV 0 w (λj (hj:j<2)=>by rw[Nat.add_zero];exact g j hj) (λj (hj:j<2)=>by rw[Nat.add_zero];exact f j hj) (by intro v h;simp only[iV,vM,j_i,or_false] at h;rcases h with rfl|rfl<;>rfl)
 simp only[Nat.add_zero] at t;have C:(Builtin.zeroCells (Value.agg iV.toArray).cells 1).toList=iV:=R4
 simp[Builtin.clear_,run_underlying a0O,hv,C,t]
set_option maxHeartbeats 4000000 in
set_option maxRecDepth 1000000 in
theorem b23(b cap n i j:Nat)(news:List Value)(w:World)(hj1:j=i+1)(hj:j<=n)(hn:n<=cap)(hl:news.length=(n-j)*2)(h1:∀u ∈ news,u.oneCell'=true)
  (hs:∀q u,news[q]? =some u->w.cell? ⟨b,j*2+q,none⟩=some u) (hc:∀q,q<n*2->(w.cell? ⟨b,q,none⟩).isSome=true) (hf:∀q,q<n*2->w.frozen? ⟨b,q,none⟩=false):
  Calls prog 252 #[.slice (some ⟨b,0,none⟩) n cap,.int .i64 i,.int .i64 j] w λe w'=>e= .returned (.slice (some ⟨b,0,none⟩) (i+(n-j)) cap)/\w'=(w.drew.setCells b (i*2) news).setCells b ((i+(n-j))*2) iV:=by
 have a9N:prog.follows .mixedOrders=true:=R4
 obtain⟨i0,hi0,hz0,hz1,hz2⟩:=info_parts a4o;obtain⟨A,hA,hnews⟩:∃A:Addr,(if cap=j then some (⟨b,0,none⟩:Addr) else some ⟨b,j*2,none⟩)=some A/\Hid (∀q u,news[q]? =some u->w.drew.cell? (A.add q)=some u):=by
  by_cases h:cap=j
  ·refine⟨⟨b,0,none⟩,dH,λq u hu=>?_⟩
   have h0:news.length=0:=by rw[hl];omega
   rw[List.length_eq_zero_iff.1 h0] at hu;simp at hu
  ·exact⟨⟨b,j*2,none⟩,dH,λq u hu=>by rw[Addr.add_lit];exact hs q u hu⟩
 have s1:Hid (news.length=(n-j)*2):=hl;have s2:Hid (∀u ∈ news,u.oneCell'=true):=h1;have s3:Hid (∀q,q<news.length->(w.drew.cell? ⟨b,0+i*2+q,none⟩).isSome=true/\w.drew.frozen? ⟨b,0+i*2+q,none⟩=false):=by
  intro q hq;rw[hl] at hq;exact⟨hc _ Z9,hf _ Z9⟩
 obtain⟨W1,hW1⟩:∃W1,W1=w.drew.setCells b (0+i*2) news:=⟨_,rfl⟩;have hcl:∀ty,(Builtin.clear_ #[46] ty #[.slice (some ⟨b,(i+(n-j))*2,none⟩) (n- (i+(n-j))) (cap- (i+(n-j)))]).run prog W1= .ok (.tuple #[]) (W1.setCells b ((i+(n-j))*2) iV):=by
  intro ty;rw[show n- (i+(n-j))=1 by omega]
  refine bV W1 ty b _ _ (λq hq=>?_) (λq hq=>?_)
  ·rw[hW1];exact World.isSome_setCells b _ _ _ _ (hc _ Z9)
  ·rw[hW1,World.frozen?_setCells]
   exact hf _ Z9
 have hW:Hid (W1=w.drew.setCells b (0+i*2) news):=hW1;have X:Aside (W1=w.drew.setCells b (i*2) news):=by rw[hW1,D2];exact rfl
 have hic:i<=cap:=Z9
 have hjc:j<=cap:=Z9
 have hlt:i<j:=Z9
 have heq:¬i=j:=Z9
 have hij:i<=j:=Z9
 have hin:i<=n:=Z9
 clear hW1 hc hf hs h1 hl hj1
 go_enter func252,Tryz.ntmps252
 go_wp2_with fail
 go_region_law_o (refine step_append_room rfl (.tmp 22) (.tmp 25) 46 rfl 118 i0 2 a0O hi0 hz1 b 0 i cap (by simp[Act.eval,Act.put]) A (n-j) (cap-j) news (by simp[Act.eval,Act.put]) s1.out hnews.out s2.out Z9 s3.out ?_;rw[←hW.out])
 go_wp2
 go_ret
 exact⟨rfl,by rw[X]⟩
theorem pM(w:World)(b o:Nat)(ty:TypeId)(cs:Array Value)(news:List Value)(B:w.heap[b]? =some (.cells cs ty (0,0)))(t:o+news.length<=cs.size)(e:∀v ∈ news,v.oneCell'=true):
  (w.setCells b o news).os=w.os/\(w.setCells b o news).tape=w.tape/\(w.setCells b o news).output=w.output/\(w.setCells b o news).heap.size=w.heap.size/\(∀k,k≠b->(w.setCells b o news).heap[k]? =w.heap[k]?)/\
   ∃cs',(w.setCells b o news).heap[b]? =some (.cells cs' ty (0,0))/\cs'.size=cs.size/\(∀i,i<o∨o+news.length<=i->cs'[i]? =cs[i]?)/\∀i,i<news.length->cs'[o+i]? =news[i]? :=by
 obtain⟨w',d,h⟩:=u2 prog w b o ty cs news B t e;have r:=run_storeCells_cells (P:=prog) b o news 0 w (λj J=>by rw[S1 B,tA (show o+0+j<cs.size by omega)];rfl) (λj J=>by simp[World.frozen?,B]) e
 rw[Nat.add_zero,d] at r;simp only[Result.ok.injEq,true_and] at r;rw[←r];exact h
def shJ(k r:Nat):Nat:=if r<k then r else r+1
def xC{α:Type}(L:List α)(k:Nat):List α:=L.take k++L.drop (k+1)
theorem c1C{α:Type}{L:List α}{k:Nat}(h:k<L.length):(xC L k).length=k+(L.length- (k+1)):=by
 unfold xC;rw[F7,List.length_take,List.length_drop];omega
theorem c67{α:Type}[Inhabited α]{L:List α}{k:Nat}(d:k<L.length)(i:Nat):(xC L k).getD i dz=L.getD (shJ k i) dz:=by
 have l:(L.take k).length=k:=by rw[List.length_take];omega
 unfold xC shJ;rw[P3,P3]
 split
 ·rename_i h;rw[rK Z9,List.getElem?_take_of_lt h]
 ·rename_i h;rw[pZ Z9,l,List.getElem?_drop,show k+1+(i-k)=i+1 by omega]
def b7d:Con:=.reff ⟨List Txn×Nat,λx=>[.osl 0 0 x.1.length,Ji x.2,Ji (x.2+1:Nat)],λx=>[sQ x.1],λx=>.osl 0 0 (xC x.1 x.2).length,λx=>[sQ (xC x.1 x.2)],λx=>x.2<x.1.length⟩
theorem a9m{E:Env}{w:World}{k off n:Nat}{v:Value}(h:Rd E w (.osl k off n) v):∃a o,v= .slice a n (E.κ k-off)/\E.L k/\off+n<=E.κ k/\(off<E.κ k∨off=0->o=off*(E.z k).1)/\(E.κ k≠0->a=some ⟨E.β k,o,none⟩):=by
 cases h with
 |osl k off n o a f d g e=>exact⟨a,o,rfl,f,d,g,e⟩
theorem c8w{E:Env}{w:World}{H:X8}(f:HeapOk E w H)(i:∀b,E.N b->b<w.heap.size):Inv ⟨w,XB E H,E.N,0,E,0⟩ E H w:=⟨f,i,λb B=>.inl B,λk ob b g e=>.inr ⟨k,ob,g,e⟩,⟨rfl,rfl,rfl,U9 _,λ_ _ _=>rfl⟩,⟨λ_ h=>h,λk d=>absurd d (D0 _),λ_ _=>rfl,λk v d=>absurd d (D0 _)⟩⟩
theorem b19:GK 252 b7d:=gk func252<|by
 rintro⟨L,k⟩ (hk:k<L.length);intro E w vs hH hN X;dsimp only at hH X ⊢;have O:Y4 [sQ L] 0=some (.arr true 0 2 L.length (X2 L)):=rfl;obtain⟨hL,hF,aj⟩:=hH.live 0 _ O;obtain⟨e1,e2,e3,e4,_,cs,B,M,e7,e8⟩:=(show T4 E w 0 ⟨true,0,2,L.length,X2 L⟩ from hF)
 dsimp only at e1 e2 e3 e4 e7 e8;have hκ:E.κ 0≠0:=Z9
 have M:=M hκ;have ai:=e7.le;obtain⟨aa,hv⟩:=X;obtain⟨v0,Z,v2,rfl⟩:∃v0 Z v2,vs= #[v0,Z,v2]:=by
  have f:vs.size=3:=aa.symm;exact⟨vs[0],vs[1],vs[2],by apply Array.ext<;>simp[f];intro i hi _;match i,hi with|0,_=>rfl|1,_=>rfl|2,_=>rfl⟩
 obtain rfl:=tG (hv 1 (.int .i64 k) Z rfl rfl);obtain rfl:=tG (hv 2 (.int .i64 (k+1:Nat)) v2 rfl rfl);obtain⟨a,o,rfl,_,_,ho,ha⟩:=a9m (hv 0 (.osl 0 0 L.length) v0 rfl rfl);have ho:o=0:=by have:=ho (.inr rfl);omega
 subst ho;rw[ha hκ,Nat.sub_zero];have W:∀i q,i<L.length->q<2->∃t u,(X2 L i)[q]? =some t/\cs[i*2+q]? =some u/\Rd E w t u/\u.oneCell'=true:=λi q hi Q=>by
  have h5:(X2 L i).length=2:=rfl;obtain⟨t,d⟩:∃t,(X2 L i)[q]? =some t:=⟨_,I0 Z9⟩
  obtain⟨u,hu,U⟩:=e8 i q _ hi d;exact⟨t,u,d,hu,U,iN U (e4 i _ hi (y0 d))⟩
 have l:∀j,j<L.length*2->∃u,cs[j]? =some u/\u.oneCell'=true:=λj J=>by
  obtain⟨_,u,_,f,_,h4⟩:=W (j/2) (j % 2) Z9 Z9
  exact⟨u,by rw[show j=j/2*2+j % 2 by omega];exact f,h4⟩
 have ah:L.length*2<=cs.size:=Z9
 have hnl:((cs.toList.drop ((k+1)*2)).take ((L.length- (k+1))*2)).length=(L.length- (k+1))*2:=by
  rw[List.length_take,List.length_drop,Array.length_toList (xs:=cs)];omega
 have g:∀q,q<(L.length- (k+1))*2->((cs.toList.drop ((k+1)*2)).take ((L.length- (k+1))*2))[q]? =cs[(k+1)*2+q]? :=λq Q=>by
  rw[List.getElem?_take,if_pos Q,List.getElem?_drop,Array.getElem?_toList]
 have n:∀u ∈ (cs.toList.drop ((k+1)*2)).take ((L.length- (k+1))*2),u.oneCell'=true:=λu hu=>by
  obtain⟨q,Q⟩:=List.getElem?_of_mem hu
  have x:q<(L.length- (k+1))*2:=by rw[←hnl];exact(u4.1 Q).1
  rw[g q x] at Q;obtain⟨u',z,f⟩:=l ((k+1)*2+q) Z9
  rw[z] at Q;simp only[X0] at Q;rw[←Q];exact f
 generalize ad:(cs.toList.drop ((k+1)*2)).take ((L.length- (k+1))*2)=news at hnl g n;have hb:∀j,w.cell? ⟨E.β 0,j,none⟩=cs[j]? :=λj=>S1 M
 have hs:∀q u,news[q]? =some u->w.cell? ⟨E.β 0,(k+1)*2+q,none⟩=some u:=λq u Q=>by
  have x:q<(L.length- (k+1))*2:=by rw[←hnl];exact(u4.1 Q).1
  rw[hb,←g q x];exact Q
 have hc:∀q,q<L.length*2->(w.cell? ⟨E.β 0,q,none⟩).isSome=true:=λq Q=>by
  obtain⟨u,z,_⟩:=l q Q;rw[hb,z];rfl
 have hf:∀q,q<L.length*2->w.frozen? ⟨E.β 0,q,none⟩=false:=λq _=>by simp[World.frozen?,M]
 refine(b23 (E.β 0) (E.κ 0) L.length k (k+1) news w rfl hk e2 hnl n hs hc hf).mono ?_
 rintro e w' ⟨rfl,F⟩;have ac:w.drew.heap[E.β 0]? =some (.cells cs B (0,0)):=M;obtain⟨a1,a2,a3,a4,a5,af,a6,a7,a8,a9⟩:=pM w.drew (E.β 0) (k*2) B cs news ac (by rw[hnl];omega) n
 generalize w.drew.setCells (E.β 0) (k*2) news=w1 at F a1 a2 a3 a4 a5 a6;obtain⟨b1,b2,b3,b4,b5,C,b6,b7,b8,_⟩:=pM w1 (E.β 0) ((k+(L.length- (k+1)))*2) B af iV a6 (by rw[a7];show _+2<=_;omega) (by intro v I;simp only[iV,vM,j_i,or_false] at I;rcases I with rfl|rfl<;>rfl)
 rw[←F] at b1 b2 b3 b4 b5 b6;have N:(xC L k).length=k+(L.length- (k+1)):=c1C hk;have ab:iV.length=2:=rfl;have R:∀r q,r<(xC L k).length->q<2->C[r*2+q]? =cs[shJ k r*2+q]? :=λr q X Q=>by
  rw[b8 _ (.inl Z9)]
  unfold shJ;by_cases h:r<k
  ·rw[if_pos h,a8 _ (.inl Z9)]
  ·rw[if_neg h];have:=a9 ((r-k)*2+q) (by rw[hnl];omega)
   rw[show k*2+((r-k)*2+q)=r*2+q by omega] at this
   rw[this,g _ Z9]
   congr 1
   omega
 have ag:∀r,r<(xC L k).length->shJ k r<L.length:=λr X=>by unfold shJ;split<;>omega
 have Y:∀r,X2 (xC L k) r=X2 L (shJ k r):=λr=>by unfold X2;rw[c67 hk]
 obtain⟨hI,ae⟩:=(c8w hH hN).write (w':=w') O rfl (b1.trans a1) (b2.trans a2) (b3.trans a3) (Nat.le_of_eq (b4.trans a4).symm) (λb _ A=>(b5 b A).trans (a5 b A)) hκ (.arr true 0 2 (xC L k).length (X2 (xC L k))) C B b6 e1.symm (by
   rw[e1];refine e7.keep (b7.trans a7) λq Q=>?_
   rw[b8 q (.inr (by rw[ab];omega)),a8 q (.inr (by rw[hnl];omega))]) (show(xC L k).length<=E.κ 0 by omega) (λi _=>rfl) (λi t _ d=>by
   simp only[Ob.toArr,X2,Txn.ts,vM,j_i,or_false] at d;rcases d with rfl|rfl<;>rfl) (λ_ i t _ d=>by
   simp only[Ob.toArr,X2,Txn.ts,vM,j_i,or_false] at d;rcases d with rfl|rfl<;>rfl) (λi j t hi J=>by
   have hi:i<(xC L k).length:=hi;have J:(X2 (xC L k) i)[j]? =some t:=J;have V:j<2:=(u4.1 J).1
   rw[Y i] at J;obtain⟨t',u,z,f,h3,_⟩:=W (shJ k i) j (ag i hi) V;rw[J] at z;simp only[X0] at z;subst z;exact⟨u,by show C[i*2+j]? =_;rw[R i j hi V];exact f,h3⟩)
 refine⟨_,_,rfl,hI,ae.stp,?_⟩
 rw[N];have:=Rd.osl (E:=E) (w:=w') 0 0 (k+(L.length- (k+1))) 0 (some ⟨E.β 0,0,none⟩) hL (show 0+_<=E.κ 0 by omega) (λ_=>W7) (λ_=>rfl)
 rw[Nat.sub_zero] at this;exact this
def aJ(o o':Ob):Prop:=o=o'∨∃cl ty sz n n' row row',o= .arr cl ty sz n row/\o'= .arr cl ty sz n' row'/\n'<=n/\∀i,i<n'->row' i=row i
def c7O(H H':X8):Prop:=H'.length=H.length/\∀k o',Y4 H' k=some o'->∃o,Y4 H k=some o/\aJ o o'
theorem aJ.blk{E:Env}{k:Nat}{o o':Ob}{b:Nat}(h:aJ o o')(B:A1 E k o' b):A1 E k o b:=by
 rcases h with rfl|⟨cl,ty,sz,n,n',row,row',rfl,rfl,_,_⟩
 ·exact B
 ·exact .inl (B.arr rfl)
theorem aJ.ok{E:Env}{w:World}{k:Nat}{o o':Ob}(h:aJ o o')(ho:zY E w k o):zY E w k o':=by
 rcases h with rfl|⟨cl,ty,sz,n,n',row,row',rfl,rfl,hn,hr⟩
 ·exact ho
 ·obtain⟨e1,e2,e3,e4,e5,cs,tyb,e6,e7,e8⟩:=(show T4 E w k ⟨cl,ty,sz,n,row⟩ from ho)
  dsimp only at e1 e2 e3 e4 e5 e7 e8;refine(show T4 E w k ⟨cl,ty,sz,n',row'⟩ from⟨e1,Nat.le_trans hn e2,λi hi=>?_,λi t hi d=>?_,λC i t hi d=>?_,cs,tyb,e6,e7,λi j t hi J=>?_⟩)
  ·have hi:i<n':=hi;show(row' i).length=sz;rw[hr i hi];exact e3 i Z9
  ·have hi:i<n':=hi;have d:t ∈ row' i:=d;rw[hr i hi] at d;exact e4 i t Z9 d
  ·have hi:i<n':=hi;have d:t ∈ row' i:=d;rw[hr i hi] at d;exact e5 C i t Z9 d
  ·have hi:i<n':=hi;have J:(row' i)[j]? =some t:=J;rw[hr i hi] at J;exact e8 i j t Z9 J
theorem gW{P:Program}{f:FuncId}{args:List T}{H H1 H2:X8}{res:T}(h:G1 P f args H res H1)(hc:c7O H1 H2):G1 P f args H res H2:=by
 intro E w vs q N r;refine(h E w vs q N r).mono ?_
 rintro e w' ⟨v,E',rfl,hI,t,g⟩;refine⟨v,E',rfl,⟨⟨λk o hk=>?_,λk k' o o' b hk i B j=>?_,λk hk=>by rw[hc.1];exact hI.heap.lt k hk,hI.heap.l2,λk o v hk hv=>?_⟩,hI.nlt,hI.nnew,λk o b hk B=>?_,hI.fr,hI.keep⟩,t,g⟩
 ·obtain⟨o0,h0,hcut⟩:=hc.2 k o hk;obtain⟨u,x,A⟩:=hI.heap.live k o0 h0;exact⟨u,hcut.ok x,λb B=>A b (hcut.blk B)⟩
 ·obtain⟨o0,h0,hcut⟩:=hc.2 k o hk;obtain⟨O,l,d⟩:=hc.2 k' o' i;exact hI.heap.inj k k' o0 O b h0 l (hcut.blk B) (d.blk j)
 ·obtain⟨o0,h0,hcut⟩:=hc.2 k o hk;obtain⟨v0,ty,sz,n,row,rfl,hle⟩:=hI.heap.cur k o0 v h0 hv;rcases hcut with rfl|⟨_,_,_,_,_,_,_,e,_⟩
  ·exact⟨v0,ty,sz,n,row,rfl,hle⟩
  ·cases e
 ·obtain⟨o0,h0,hcut⟩:=hc.2 k o hk;exact hI.bnew k o0 b h0 (hcut.blk B)
theorem c1z{a b c:Option Ob}(h:∀o',c=some o'->∃o,a=some o/\aJ o o'):c7O [a,b] [c,b]:=by
 refine⟨rfl,λk o' d=>?_⟩
 match k,d with
 |0,d=>exact h o' d
 |1,d=>exact⟨o',d,.inl rfl⟩
 |k+2,d=>simp[Y4] at d
def D6{α:Type}[Inhabited α](f:α->Bool)(L:List α)(j:Nat):List α:=X7 f L j++L.drop (X7 f L j).length
theorem b6q{α:Type}[Inhabited α]{f:α->Bool}{L:List α}{j q:Nat}(h:(X7 f L j).length<=q):(D6 f L j).getD q dz=L.getD q dz:=by
 unfold D6;rw[P3,pZ h,List.getElem?_drop,←P3]
 congr 1
 omega
theorem c8X{α:Type}[Inhabited α]{f:α->Bool}{L:List α}{j q:Nat}(h:q<(X7 f L j).length):(D6 f L j).getD q dz=(X7 f L j).getD q dz:=by
 unfold D6;rw[P3,rK h,←P3]
theorem b3l{α:Type}[Inhabited α]{f:α->Bool}{L:List α}{j:Nat}(h:f (L.getD j dz)=false):D6 f L (j+1)=D6 f L j:=by
 unfold D6;rw[pQ h]
theorem c9T{α:Type}[Inhabited α]{f:α->Bool}{L:List α}{j:Nat}(h:f (L.getD j dz)=true)(q:Nat):(D6 f L (j+1)).getD q dz=if q=(X7 f L j).length then L.getD j dz else(D6 f L j).getD q dz:=by
 have e:D6 f L (j+1)=X7 f L j++(L.getD j dz::L.drop ((X7 f L j).length+1)):=by
  unfold D6;rw[aF h,F7,List.length_singleton,List.append_assoc];rfl
 rw[e];unfold D6;generalize X7 f L j=A;generalize L.getD j dz=x;rcases Nat.lt_trichotomy q A.length with h1|h1|h1
 ·rw[if_neg Z9,P3,P3,rK h1,rK h1]
 ·rw[if_pos h1,P3,h1,pZ (U9 _),j_h]
  rfl
 ·rw[if_neg Z9,P3,P3,pZ Z9,pZ Z9]
  obtain⟨d,hd⟩:∃d,q-A.length=d+1:=⟨q-A.length-1,Z9⟩
  rw[hd,List.getElem?_cons_succ,List.getElem?_drop,List.getElem?_drop]
  congr 2
  omega
theorem b0E{α:Type}[Inhabited α]{f:α->Bool}{L:List α}:∀j,j<=L.length->(∀q,q<j->f (L.getD q dz)=true)->X7 f L j=L.take j
 |0,_,_=>by simp[X7]
 |j+1,hj,h=>by
  rw[aF (h j Z9),b0E j Z9 λq Q=>h q Z9,List.take_add_one,P3,I0 (show j<L.length by omega)]
  rfl
theorem lL{α:Type}[Inhabited α]{f:α->Bool}{L:List α}{j:Nat}(J:j<=L.length)(h:∀q,q<j->f (L.getD q dz)=true):(X7 f L j).length=j/\D6 f L j=L:=by
 have e:=b0E j J h;have l:(L.take j).length=j:=by rw[List.length_take];omega
 unfold D6;rw[e,l];exact⟨rfl,List.take_append_drop j L⟩
def sL(n:Int):Option Ob:=some (.arr true 1000000 1 1 λ_=>[Ji n])
def c3B:Con:=.rel ⟨Lck×Int,λx=>[.agg x.1.ts,.bref [Ji x.2]],λx=>.bool (x.1.tx==x.2),λ_=>True⟩
theorem c1W(x:Lck)(tx:Int)(h:
  (x.tx==tx)=(x.tx==tx)):
  V4 prog 368 [.agg x.ts,.bref [Ji tx]] (.bool (x.tx==tx)):=
 U5 gN func368 Z3 h
theorem a5e:GK 368 c3B:=gk func368<|λx _=>c1W x.1 x.2 rfl
def c1O:Con:=.rel ⟨Wt×Int,λx=>[.agg x.1.ts,.bref [Ji x.2]],λx=>.bool (x.1.tx==x.2||x.1.fo==x.2),λ_=>True⟩
theorem c2b(x:Wt)(tx:Int)(h:
let p:=(x.tx==tx||x.fo==tx);  p=p):
  V4 prog 369 [.agg x.ts,.bref [Ji tx]] (.bool (x.tx==tx||x.fo==tx)):=
 U5 gN func369 Z3 h
theorem a4i:GK 369 c1O:=gk func369<|λx _=>c2b x.1 x.2 rfl
def c9z(tx:Int):T:=.fn (.func 368) [.bref [Ji tx]]
def c8T(tx:Int):T:=.fn (.func 369) [.bref [Ji tx]]
def d1(L:List Lck)(tx:Int)(i:Nat):Bool:=(L.getD i dz).tx==tx
def d2(L:List Wt)(tx:Int)(i:Nat):Bool:=(L.getD i dz).tx==tx||(L.getD i dz).fo==tx
def b2a:Con:=.rel ⟨List Lck×Int,λx=>[wM x.1,c9z x.2],λx=>Ji (S5 x.1.length (d1 x.1 x.2)),λx=>L8 x.1.length⟩
def b4F(L:List Lck)(tx:Int):Nat->Ann
 |0=>.one (V5 L.length (d1 L tx)) (λx=>⟨[(0,wM L),(1,c9z tx),(7,Ji L.length),(8,Ji x.1)],[]⟩) (λx=>L.length-x.1) [] [] (λ_=>Z3)
 |_=>.none
theorem a7O:GK 316 b2a:=gk func316<|by
 rintro⟨L,tx⟩ (hL:L.length<1000000000000);refine U5 (gC a5e gN) func316 (b4F L tx) (α:=let r:=(L.length:Int);let q:=(T.bref [Ji tx]);(∃(x:V5 L.length (d1 L tx)),((Z0 Z2 L L)/\(Fn.func 368=Fn.func 368/\J6 (λ(x:Nat)=>none) q q/\True)/\r=r/\0=(x.1:Int)/\True)/\True)/\∀(x:V5 L.length (d1 L tx)),let z:=(x.1:Int);let p:=(L.getD z.toNat dz);bd (z<r) (W9 z L.length/\∃(X:(Lck×Int)),(((p.tx=X.1.tx/\p.ta=X.1.ta/\p.row=X.1.row/\p.mo=X.1.mo/\True)/\(tx=X.2/\True)/\True)/\True)/\br (X.1.tx==X.2) (z=S5 L.length (d1 L tx)) (Ri (z+1)/\∃(y:V5 L.length (d1 L tx)),(((Z0 Z2 L L)/\(Fn.func 368=Fn.func 368/\J6 (λ(x:Nat)=>none) q q/\True)/\r=r/\z+1=(y.1:Int)/\True)/\True)/\Lt (L.length-y.1) (L.length-x.1))) ((-1:Int)=S5 L.length (d1 L tx))) ⟨⟨F2,⟨Z7,⟨rfl,U0 _,Z6⟩,Z7⟩,Z6⟩,λx=>⟨λC=>?_,λC=>?_⟩⟩
 ·have h:=Y2 C;refine⟨Y6 h,(L.getD x.1 dz,tx),Z7,λhp=>(N8 h hp x.2.2).symm,λhp=>⟨W2 h Z9,x.succ h hp,⟨⟨Z7,⟨rfl,U0 _,Z6⟩,rfl,I8,Z6⟩,Z6⟩,V5.ext_lt h⟩⟩
 ·have e:=X9 C;exact(K1 λj J=>x.2.2 j (xX J e)).symm
def b9Y:Con:=.rel ⟨List Wt×Int,λx=>[nF x.1,c8T x.2],λx=>Ji (S5 x.1.length (d2 x.1 x.2)),λx=>L8 x.1.length⟩
def b7v(L:List Wt)(tx:Int):Nat->Ann
 |0=>.one (V5 L.length (d2 L tx)) (λx=>⟨[(0,nF L),(1,c8T tx),(7,Ji L.length),(8,Ji x.1)],[]⟩) (λx=>L.length-x.1) [] [] (λ_=>Z3)
 |_=>.none
theorem b2r:GK 317 b9Y:=gk func317<|by
 rintro⟨L,tx⟩ (hL:L.length<1000000000000);refine U5 (gC a4i gN) func317 (b7v L tx) (α:=let r:=(L.length:Int);let p:=(T.bref [Ji tx]);(∃(x:V5 L.length (d2 L tx)),((Z0 Y7 L L)/\(Fn.func 369=Fn.func 369/\J6 (λ(x:Nat)=>none) p p/\True)/\r=r/\0=(x.1:Int)/\True)/\True)/\∀(x:V5 L.length (d2 L tx)),let q:=(x.1:Int);let z:=(L.getD q.toNat dz);bd (q<r) (W9 q L.length/\∃(X:(Wt×Int)),(((z.tx=X.1.tx/\z.fo=X.1.fo/\True)/\(tx=X.2/\True)/\True)/\True)/\br (X.1.tx==X.2||X.1.fo==X.2) (q=S5 L.length (d2 L tx)) (Ri (q+1)/\∃(y:V5 L.length (d2 L tx)),(((Z0 Y7 L L)/\(Fn.func 369=Fn.func 369/\J6 (λ(x:Nat)=>none) p p/\True)/\r=r/\q+1=(y.1:Int)/\True)/\True)/\Lt (L.length-y.1) (L.length-x.1))) ((-1:Int)=S5 L.length (d2 L tx))) ⟨⟨F2,⟨Z7,⟨rfl,U0 _,Z6⟩,Z7⟩,Z6⟩,λx=>⟨λC=>?_,λC=>?_⟩⟩
 ·have h:=Y2 C;refine⟨Y6 h,(L.getD x.1 dz,tx),Z7,λhp=>(N8 h hp x.2.2).symm,λhp=>⟨W2 h Z9,x.succ h hp,⟨⟨Z7,⟨rfl,U0 _,Z6⟩,rfl,I8,Z6⟩,Z6⟩,V5.ext_lt h⟩⟩
 ·have e:=X9 C;exact(K1 λj J=>x.2.2 j (xX J e)).symm
def c8r:List T:=[Ji 0,Ji 0,Ji 0,Ji 0]
def zWt:List T:=[Ji 0,Ji 0]
def c84(L:List Lck)(tx:Int):Option Ob:=some (.arr true 0 4 L.length (H6 (Z2 (D6 (hF tx) L L.length)) (X7 (hF tx) L L.length).length (L.length- (X7 (hF tx) L L.length).length) c8r))
def c9E(L:List Wt)(tx:Int):Option Ob:=some (.arr true 0 2 L.length (H6 (Y7 (D6 (wF tx) L L.length)) (X7 (wF tx) L L.length).length (L.length- (X7 (wF tx) L L.length).length) zWt))
def b9B:Con:=.reff ⟨List Lck×Int,λx=>[.osl 0 0 x.1.length,.fn (.func 368) [.ref 1 0 0]],λx=>[yX x.1,sL x.2],λx=>.osl 0 0 (X7 (hF x.2) x.1 x.1.length).length,λx=>[yX (X7 (hF x.2) x.1 x.1.length),sL x.2],λx=>x.1.length<=1048576⟩
def b5I(L:List Lck)(tx:Int):Nat->Ann
 |0=>.one {j:Nat//j<=L.length} (λx=>⟨[(0,.osl 0 0 L.length),(1,.fn (.func 368) [.ref 1 0 0]),(5,Ji (X7 (hF tx) L x.1).length),(6,Ji x.1)],[some (.arr true 0 4 L.length (Z2 (D6 (hF tx) L x.1))),sL tx]⟩) (λx=>L.length-x.1) cG cG (λ_=>Z3)
 |_=>.none
theorem b5M(L:List Lck)(tx:Int)(h:
  ∃(x:(List Lck×Int)),(Le (0+L.length) L.length/\((Z0 Z2 L x.1)/\(Fn.func 368=Fn.func 368/\(tx=x.2/\True)/\True)/\True)/\L8 x.1.length)/\br (S5 x.1.length (d1 x.1 x.2)==(-1:Int)) (((0=0/\L.length=(X7 (hF tx) L L.length).length)/\True)/\(L.length=L.length/\Z8 L.length (Z2 L) λ(j:Nat)=>match(X7 (hF tx) L L.length).length.ble j&&j.blt ((X7 (hF tx) L L.length).length+(L.length- (X7 (hF tx) L L.length).length)) with|true=>[Ji 0,Ji 0,Ji 0,Ji 0]|false=>[Ji ((D6 (hF tx) L L.length).getD j dz).tx,Ji ((D6 (hF tx) L L.length).getD j dz).ta,Ji ((D6 (hF tx) L L.length).getD j dz).row,Ji ((D6 (hF tx) L L.length).getD j dz).mo])/\(oo (tx=tx/\True))/\True) (Ri (S5 x.1.length (d1 x.1 x.2)+1)/\(∃(X:{j:Nat//j<=L.length}),((0=0/\L.length=L.length)/\(Fn.func 368=Fn.func 368/\(0=0/\0=0)/\True)/\S5 x.1.length (d1 x.1 x.2)=(↑(X7 (hF tx) L X.val).length:Int)/\S5 x.1.length (d1 x.1 x.2)+1=(X.val:Int)/\True)/\(L.length=L.length/\Z8 L.length (Z2 L) (Z2 (D6 (hF tx) L X.val)))/\(oo (tx=tx/\True))/\True)/\∀(x:{j:Nat//j<=L.length}),bd ((x.1:Int)<(L.length:Int)) (W9 (x.1:Int) L.length/\Lt (0+(x.1:Int).toNat) L.length/\∃(X:(Lck×Int)),(((((D6 (hF tx) L x.1).getD (0+(x.1:Int).toNat) dz).tx=X.1.tx/\((D6 (hF tx) L x.1).getD (0+(x.1:Int).toNat) dz).ta=X.1.ta/\((D6 (hF tx) L x.1).getD (0+(x.1:Int).toNat) dz).row=X.1.row/\((D6 (hF tx) L x.1).getD (0+(x.1:Int).toNat) dz).mo=X.1.mo/\True)/\(tx=X.2/\True)/\True)/\True)/\br (!X.1.tx==X.2) (W9 (↑(X7 (hF tx) L x.1).length:Int) L.length/\Lt (0+(↑(X7 (hF tx) L x.1).length:Int).toNat) L.length/\Ri ((↑(X7 (hF tx) L x.1).length:Int)+1)/\Ri ((x.1:Int)+1)/\∃(y:{j:Nat//j<=L.length}),(((0=0/\L.length=L.length)/\(Fn.func 368=Fn.func 368/\(0=0/\0=0)/\True)/\(↑(X7 (hF tx) L x.1).length:Int)+1=(↑(X7 (hF tx) L y.1).length:Int)/\(x.1:Int)+1=(y.1:Int)/\True)/\(L.length=L.length/\Z8 L.length (setRow (Z2 (D6 (hF tx) L x.1)) (0+(↑(X7 (hF tx) L x.1).length:Int).toNat) 0 [Ji ((D6 (hF tx) L x.1).getD (0+(x.1:Int).toNat) dz).tx,Ji ((D6 (hF tx) L x.1).getD (0+(x.1:Int).toNat) dz).ta,Ji ((D6 (hF tx) L x.1).getD (0+(x.1:Int).toNat) dz).row,Ji ((D6 (hF tx) L x.1).getD (0+(x.1:Int).toNat) dz).mo]) (Z2 (D6 (hF tx) L y.1)))/\(oo (tx=tx/\True))/\True)/\Lt (L.length-y.1) (L.length-x.1)) (Ri ((x.1:Int)+1)/\∃(y:{j:Nat//j<=L.length}),(((0=0/\L.length=L.length)/\(Fn.func 368=Fn.func 368/\(0=0/\0=0)/\True)/\(↑(X7 (hF tx) L x.1).length:Int)=(↑(X7 (hF tx) L y.1).length:Int)/\(x.1:Int)+1=(y.1:Int)/\True)/\(L.length=L.length/\Z8 L.length (Z2 (D6 (hF tx) L x.1)) (Z2 (D6 (hF tx) L y.1)))/\(oo (tx=tx/\True))/\True)/\Lt (L.length-y.1) (L.length-x.1))) (jX (↑(X7 (hF tx) L x.1).length:Int) L.length/\Le (0+(↑(X7 (hF tx) L x.1).length:Int).toNat+(L.length- (↑(X7 (hF tx) L x.1).length:Int).toNat)) L.length/\jX (↑(X7 (hF tx) L x.1).length:Int) L.length/\((0=0/\(↑(X7 (hF tx) L x.1).length:Int).toNat=(X7 (hF tx) L L.length).length)/\True)/\(L.length=L.length/\Z8 L.length (λ(j:Nat)=>match(0+(↑(X7 (hF tx) L x.1).length:Int).toNat).ble j&&j.blt (0+(↑(X7 (hF tx) L x.1).length:Int).toNat+(L.length- (↑(X7 (hF tx) L x.1).length:Int).toNat)) with|true=>[Ji 0,Ji 0,Ji 0,Ji 0]|false=>[Ji ((D6 (hF tx) L x.1).getD j dz).tx,Ji ((D6 (hF tx) L x.1).getD j dz).ta,Ji ((D6 (hF tx) L x.1).getD j dz).row,Ji ((D6 (hF tx) L x.1).getD j dz).mo]) λ(j:Nat)=>match(X7 (hF tx) L L.length).length.ble j&&j.blt ((X7 (hF tx) L L.length).length+(L.length- (X7 (hF tx) L L.length).length)) with|true=>[Ji 0,Ji 0,Ji 0,Ji 0]|false=>[Ji ((D6 (hF tx) L L.length).getD j dz).tx,Ji ((D6 (hF tx) L L.length).getD j dz).ta,Ji ((D6 (hF tx) L L.length).getD j dz).row,Ji ((D6 (hF tx) L L.length).getD j dz).mo])/\(oo (tx=tx/\True))/\True))):
  G1 prog 367 [.osl 0 0 L.length,.fn (.func 368) [.ref 1 0 0]] [yX L,sL tx] (.osl 0 0 (X7 (hF tx) L L.length).length) [c84 L tx,sL tx]:=
 C4 (gC a7O (gC a5e gN)) func367 (b5I L tx) [cG] h
def c04:Con:=.reff ⟨List Wt×Int,λx=>[.osl 0 0 x.1.length,.fn (.func 369) [.ref 1 0 0]],λx=>[sT x.1,sL x.2],λx=>.osl 0 0 (X7 (wF x.2) x.1 x.1.length).length,λx=>[sT (X7 (wF x.2) x.1 x.1.length),sL x.2],λx=>x.1.length<=1048576⟩
def c3c(L:List Wt)(tx:Int):Nat->Ann
 |0=>.one {j:Nat//j<=L.length} (λx=>⟨[(0,.osl 0 0 L.length),(1,.fn (.func 369) [.ref 1 0 0]),(5,Ji (X7 (wF tx) L x.1).length),(6,Ji x.1)],[some (.arr true 0 2 L.length (Y7 (D6 (wF tx) L x.1))),sL tx]⟩) (λx=>L.length-x.1) cG cG (λ_=>Z3)
 |_=>.none
theorem c03(L:List Wt)(tx:Int)(h:
  ∃(x:(List Wt×Int)),(Le (0+L.length) L.length/\((Z0 Y7 L x.1)/\(Fn.func 369=Fn.func 369/\(tx=x.2/\True)/\True)/\True)/\L8 x.1.length)/\br (S5 x.1.length (d2 x.1 x.2)==(-1:Int)) (((0=0/\L.length=(X7 (wF tx) L L.length).length)/\True)/\(L.length=L.length/\Z8 L.length (Y7 L) λ(j:Nat)=>match(X7 (wF tx) L L.length).length.ble j&&j.blt ((X7 (wF tx) L L.length).length+(L.length- (X7 (wF tx) L L.length).length)) with|true=>[Ji 0,Ji 0]|false=>[Ji ((D6 (wF tx) L L.length).getD j dz).tx,Ji ((D6 (wF tx) L L.length).getD j dz).fo])/\(oo (tx=tx/\True))/\True) (Ri (S5 x.1.length (d2 x.1 x.2)+1)/\(∃(X:{j:Nat//j<=L.length}),((0=0/\L.length=L.length)/\(Fn.func 369=Fn.func 369/\(0=0/\0=0)/\True)/\S5 x.1.length (d2 x.1 x.2)=(↑(X7 (wF tx) L X.val).length:Int)/\S5 x.1.length (d2 x.1 x.2)+1=(X.val:Int)/\True)/\(L.length=L.length/\Z8 L.length (Y7 L) (Y7 (D6 (wF tx) L X.val)))/\(oo (tx=tx/\True))/\True)/\∀(x:{j:Nat//j<=L.length}),bd ((x.1:Int)<(L.length:Int)) (W9 (x.1:Int) L.length/\Lt (0+(x.1:Int).toNat) L.length/\∃(X:(Wt×Int)),(((((D6 (wF tx) L x.1).getD (0+(x.1:Int).toNat) dz).tx=X.1.tx/\((D6 (wF tx) L x.1).getD (0+(x.1:Int).toNat) dz).fo=X.1.fo/\True)/\(tx=X.2/\True)/\True)/\True)/\br (!(X.1.tx==X.2||X.1.fo==X.2)) (W9 (↑(X7 (wF tx) L x.1).length:Int) L.length/\Lt (0+(↑(X7 (wF tx) L x.1).length:Int).toNat) L.length/\Ri ((↑(X7 (wF tx) L x.1).length:Int)+1)/\Ri ((x.1:Int)+1)/\∃(y:{j:Nat//j<=L.length}),(((0=0/\L.length=L.length)/\(Fn.func 369=Fn.func 369/\(0=0/\0=0)/\True)/\(↑(X7 (wF tx) L x.1).length:Int)+1=(↑(X7 (wF tx) L y.1).length:Int)/\(x.1:Int)+1=(y.1:Int)/\True)/\(L.length=L.length/\Z8 L.length (setRow (Y7 (D6 (wF tx) L x.1)) (0+(↑(X7 (wF tx) L x.1).length:Int).toNat) 0 [Ji ((D6 (wF tx) L x.1).getD (0+(x.1:Int).toNat) dz).tx,Ji ((D6 (wF tx) L x.1).getD (0+(x.1:Int).toNat) dz).fo]) (Y7 (D6 (wF tx) L y.1)))/\(oo (tx=tx/\True))/\True)/\Lt (L.length-y.1) (L.length-x.1)) (Ri ((x.1:Int)+1)/\∃(y:{j:Nat//j<=L.length}),(((0=0/\L.length=L.length)/\(Fn.func 369=Fn.func 369/\(0=0/\0=0)/\True)/\(↑(X7 (wF tx) L x.1).length:Int)=(↑(X7 (wF tx) L y.1).length:Int)/\(x.1:Int)+1=(y.1:Int)/\True)/\(L.length=L.length/\Z8 L.length (Y7 (D6 (wF tx) L x.1)) (Y7 (D6 (wF tx) L y.1)))/\(oo (tx=tx/\True))/\True)/\Lt (L.length-y.1) (L.length-x.1))) (jX (↑(X7 (wF tx) L x.1).length:Int) L.length/\Le (0+(↑(X7 (wF tx) L x.1).length:Int).toNat+(L.length- (↑(X7 (wF tx) L x.1).length:Int).toNat)) L.length/\jX (↑(X7 (wF tx) L x.1).length:Int) L.length/\((0=0/\(↑(X7 (wF tx) L x.1).length:Int).toNat=(X7 (wF tx) L L.length).length)/\True)/\(L.length=L.length/\Z8 L.length (λ(j:Nat)=>match(0+(↑(X7 (wF tx) L x.1).length:Int).toNat).ble j&&j.blt (0+(↑(X7 (wF tx) L x.1).length:Int).toNat+(L.length- (↑(X7 (wF tx) L x.1).length:Int).toNat)) with|true=>[Ji 0,Ji 0]|false=>[Ji ((D6 (wF tx) L x.1).getD j dz).tx,Ji ((D6 (wF tx) L x.1).getD j dz).fo]) λ(j:Nat)=>match(X7 (wF tx) L L.length).length.ble j&&j.blt ((X7 (wF tx) L L.length).length+(L.length- (X7 (wF tx) L L.length).length)) with|true=>[Ji 0,Ji 0]|false=>[Ji ((D6 (wF tx) L L.length).getD j dz).tx,Ji ((D6 (wF tx) L L.length).getD j dz).fo])/\(oo (tx=tx/\True))/\True))):
  G1 prog 285 [.osl 0 0 L.length,.fn (.func 369) [.ref 1 0 0]] [sT L,sL tx] (.osl 0 0 (X7 (wF tx) L L.length).length) [c9E L tx,sL tx]:=
 C4 (gC b2r (gC a4i gN)) func285 (c3c L tx) [cG] h
theorem a2a{n:Nat}{p:Nat->Bool}(h:S5 n p= -1):∀q,q<n->p q=false:=by
 intro q;induction q using Nat.strongRecOn with
 |ind q i=>
  intro Q;cases hp:p q with
  |false=>rfl
  |true=>
   have:=N8 Q hp λj J=>i j J Z9
   rw[this] at h;omega
theorem fN{n:Nat}{p:Nat->Bool}(h:(S5 n p==(-1:Int))=false):∃i,i<n/\p i=true/\(∀j,j<i->p j=false)/\S5 n p=(i:Int):=by
 refine lW λN=>?_
 cases A:anyI n p with
 |false=>
  rw[K1 (P4.1 A)] at h;cases h
 |true=>
  obtain⟨i,hi,hp⟩:=R8.1 A;have f:∃i,i<n/\p i=true/\∀j,j<i->p j=false:=by
   induction i using Nat.strongRecOn with
   |ind i I=>
    by_cases d:∃j,j<i/\p j=true
    ·obtain⟨j,d,J⟩:=d;exact I j d Z9 J
    ·refine⟨i,hi,hp,λj hj'=>?_⟩
     cases J:p j with
     |false=>rfl
     |true=>exact absurd ⟨j,hj',J⟩ d
  obtain⟨i,hi,hp,l⟩:=f;rw[N8 hi hp l] at N;omega
theorem a15{α:Type}[Inhabited α]{ts:α->List T}{m:Nat}(M:∀a,(ts a).length=m){f:α->Bool}{L:List α}{j:Nat}(h:f (L.getD j dz)=true):Z8 L.length (setRow (λi=>ts ((D6 f L j).getD i dz)) (X7 f L j).length 0 (ts (L.getD j dz))) λi=>ts ((D6 f L (j+1)).getD i dz):=λi _=>by
 rw[E4 (by rw[M,M])]
 dsimp only;rw[c9T h];cases B:Nat.beq i (X7 f L j).length with
 |true=>
  rw[if_pos (F3 B)]
 |false=>
  rw[if_neg λe=>by rw[e,Nat.beq_refl] at B;cases B]
theorem eH{row row':Nat->List T}{n m:Nat}{z:List T}(h:∀i,i<n->row i=row' i)(M:n<=m):Z8 n row (H6 row' m (n-m) z):=λi hi=>by
 unfold H6;cases B:Nat.ble m i with
 |true=>exact absurd (yG B) Z9
 |false=>exact h i hi
theorem a2v{α:Type}[Inhabited α]{ts:α->List T}{sz:Nat}{f:α->Bool}{L:List α}{z:List T}{b:Option Ob}(h:(X7 f L L.length).length<=L.length):c7O [some (.arr true 0 sz L.length (H6 (λi=>ts ((D6 f L L.length).getD i dz)) (X7 f L L.length).length (L.length- (X7 f L L.length).length) z)),b] [some (.arr true 0 sz (X7 f L L.length).length (λi=>ts ((X7 f L L.length).getD i dz))),b]:=c1z λo' o=>by
 simp only[X0] at o;subst o;refine⟨_,rfl,.inr ⟨_,_,_,_,_,_,_,rfl,rfl,h,λi hi=>?_⟩⟩
 unfold H6;cases B:Nat.ble (X7 f L L.length).length i with
 |true=>exact absurd (yG B) Z9
 |false=>exact(congrArg ts (c8X hi)).symm
theorem b3E:GK 367 b9B:=gk func367<|by
 rintro⟨L,tx⟩ (hL:L.length<=1048576);have l:=o9 (hF tx) L L.length;refine gW (b5M L tx ⟨(L,tx),⟨tZ _,Z7,rT⟩,λn=>?_,λn=>?_⟩) (a2v (ts:=Lck.ts) l)
 ·obtain⟨e,d⟩:=lL (f:=hF tx) (U9 L.length) λq Q=>by
   have:=a2a (beq_iff_eq.1 n) q Q;unfold d1 at this;unfold hF bne;rw[this];rfl
  refine⟨⟨⟨rfl,e.symm⟩,Z6⟩,⟨rfl,?_⟩,Z7⟩
  exact eH (row:=Z2 L) (row':=Z2 (D6 (hF tx) L L.length)) (z:=c8r) (λi _=>by rw[d]) (Nat.le_of_eq e.symm)
 ·obtain⟨i,hi,hp,g,h⟩:=fN n;have hi:i<L.length:=hi;obtain⟨e,d⟩:=lL (f:=hF tx) (L:=L) (j:=i) Z9 λq Q=>by
   have:=g q Q;unfold d1 at this;unfold hF bne;rw[this];rfl
  have I:hF tx (L.getD i dz)=false:=by
   unfold d1 at hp;unfold hF bne;rw[hp];rfl
  have o:(X7 (hF tx) L (i+1)).length=i:=by rw[pQ I];exact e
  have r:D6 (hF tx) L (i+1)=L:=by rw[b3l I];exact d
  have h:S5 L.length (d1 L tx)=(i:Int):=h;refine⟨?_,⟨⟨i+1,hi⟩,⟨Z7,Z7,?_,?_,Z6⟩,⟨rfl,?_⟩,Z7⟩,λx=>⟨λhc=>?_,λhc=>?_⟩⟩
  ·dsimp only;rw[h];exact Z4 Z9
  ·dsimp only;rw[h,o]
  ·dsimp only;rw[h];omega
  ·dsimp only;rw[r];exact X6 _ _
  ·have hlt:=Y2 hc;have hle:=o9 (hF tx) L x.1;have e0:(D6 (hF tx) L x.1).getD x.1 dz=L.getD x.1 dz:=b6q hle;rw[D8,D8,D2,D2,e0];refine⟨Y6 hlt,hlt,(L.getD x.1 dz,tx),Z7,λhd=>?_,λhd=>?_⟩
   ·have hd:hF tx (L.getD x.1 dz)=true:=by
     exact hd
    exact⟨Y6 Z9,Q1,Z4 Z9,Z4 Z9,⟨x.1+1,hlt⟩,⟨⟨Z7,Z7,congrArg Int.ofNat (rD hd),X5,Z6⟩,⟨rfl,a15 (m:=4) (ts:=Lck.ts) (λ_=>rfl) hd⟩,Z7⟩,V5.ext_lt hlt⟩
   ·have hd:hF tx (L.getD x.1 dz)=false:=by
     exact hd
    refine⟨Z4 Z9,⟨x.1+1,hlt⟩,⟨⟨Z7,Z7,?_,X5,Z6⟩,⟨rfl,?_⟩,Z7⟩,V5.ext_lt hlt⟩
    ·dsimp only;rw[pQ hd]
    ·dsimp only;rw[b3l hd];exact X6 _ _
  ·have hx:x.1=L.length:=by have:=x.2;have:=X9 hc;omega
   rw[hx,D8,D2];exact⟨⟨Z9,Z9⟩,J9,⟨Z9,Z9⟩,Z7⟩
theorem b9t:GK 285 c04:=gk func285<|by
 rintro⟨L,tx⟩ (hL:L.length<=1048576);have l:=o9 (wF tx) L L.length;refine gW (c03 L tx ⟨(L,tx),⟨tZ _,Z7,rT⟩,λn=>?_,λn=>?_⟩) (a2v (ts:=Wt.ts) l)
 ·obtain⟨e,d⟩:=lL (f:=wF tx) (U9 L.length) λq Q=>by
   have:=a2a (beq_iff_eq.1 n) q Q;unfold d2 at this;unfold wF bne;rw[←Bool.not_or,this];rfl
  refine⟨⟨⟨rfl,e.symm⟩,Z6⟩,⟨rfl,?_⟩,Z7⟩
  exact eH (row:=Y7 L) (row':=Y7 (D6 (wF tx) L L.length)) (z:=zWt) (λi _=>by rw[d]) (Nat.le_of_eq e.symm)
 ·obtain⟨i,hi,hp,g,h⟩:=fN n;have hi:i<L.length:=hi;obtain⟨e,d⟩:=lL (f:=wF tx) (L:=L) (j:=i) Z9 λq Q=>by
   have:=g q Q;unfold d2 at this;unfold wF bne;rw[←Bool.not_or,this];rfl
  have I:wF tx (L.getD i dz)=false:=by
   unfold d2 at hp;unfold wF bne;rw[←Bool.not_or,hp];rfl
  have o:(X7 (wF tx) L (i+1)).length=i:=by rw[pQ I];exact e
  have r:D6 (wF tx) L (i+1)=L:=by rw[b3l I];exact d
  have h:S5 L.length (d2 L tx)=(i:Int):=h;refine⟨?_,⟨⟨i+1,hi⟩,⟨Z7,Z7,?_,?_,Z6⟩,⟨rfl,?_⟩,Z7⟩,λx=>⟨λhc=>?_,λhc=>?_⟩⟩
  ·dsimp only;rw[h];exact Z4 Z9
  ·dsimp only;rw[h,o]
  ·dsimp only;rw[h];omega
  ·dsimp only;rw[r];exact X6 _ _
  ·have hlt:=Y2 hc;have hle:=o9 (wF tx) L x.1;have e0:(D6 (wF tx) L x.1).getD x.1 dz=L.getD x.1 dz:=b6q hle;rw[D8,D8,D2,D2,e0];refine⟨Y6 hlt,hlt,(L.getD x.1 dz,tx),Z7,λhd=>?_,λhd=>?_⟩
   ·have hd:wF tx (L.getD x.1 dz)=true:=by
     unfold wF bne;rw[←Bool.not_or];exact hd
    exact⟨Y6 Z9,Q1,Z4 Z9,Z4 Z9,⟨x.1+1,hlt⟩,⟨⟨Z7,Z7,congrArg Int.ofNat (rD hd),X5,Z6⟩,⟨rfl,a15 (m:=2) (ts:=Wt.ts) (λ_=>rfl) hd⟩,Z7⟩,V5.ext_lt hlt⟩
   ·have hd:wF tx (L.getD x.1 dz)=false:=by
     unfold wF bne;rw[←Bool.not_or];exact hd
    refine⟨Z4 Z9,⟨x.1+1,hlt⟩,⟨⟨Z7,Z7,?_,X5,Z6⟩,⟨rfl,?_⟩,Z7⟩,V5.ext_lt hlt⟩
    ·dsimp only;rw[pQ hd]
    ·dsimp only;rw[b3l hd];exact X6 _ _
  ·have hx:x.1=L.length:=by have:=x.2;have:=X9 hc;omega
   rw[hx,D8,D2];exact⟨⟨Z9,Z9⟩,J9,⟨Z9,Z9⟩,Z7⟩
def frE(e:Eng)(tx:Int):Eng:={e with lk:=frK e.lk tx}
def c5u:Con:=.reff ⟨Eng×Int×Nat,λx=>[.ref 0 0 11,Ji x.2.1],λx=>x.1.bx x.2.2,λ_=>.tup [],λx=>(frE x.1 x.2.1).nx x.2.2,λx=>x.1.lk.H.length<=1048576/\x.1.lk.W.length<=1048576⟩
theorem c0R:GK 331 c5u:=gk func331<|by
 rintro⟨e,tx,v⟩ ⟨h,f⟩;dsimp only at h f;exact C4 (gC b3E (gC b9t gN)) func331 Z3 aW (α:=let q:=(X7 (wF tx) e.lk.W e.lk.W.length);let p:=(X7 (hF tx) e.lk.H e.lk.H.length);∃(x:(List Lck×Int)),let u:=x.1.length;let r:=(X7 (hF x.2) x.1 u);(((0=0/\e.lk.H.length=u)/\(Fn.func 368=Fn.func 368/\(0=0/\0=0)/\True)/\True)/\((Z0 Z2 e.lk.H x.1)/\(1=1/\Z8 1 (λ(x:Nat)=>[Ji tx]) λ(X:Nat)=>[Ji x.2])/\True)/\u<=1048576)/\∃(X:(List Wt×Int)),let z:=(X7 (wF X.2) X.1 X.1.length);(((0=0/\e.lk.W.length=X.1.length)/\(Fn.func 369=Fn.func 369/\(0=0/\0=0)/\True)/\True)/\((Z0 Y7 e.lk.W X.1)/\(1=1/\Z8 1 (λ(x_2:Nat)=>[Ji x.2]) λ(x:Nat)=>[Ji X.2])/\True)/\X.1.length<=1048576)/\(True/\True)/\(oo ((0=0/\e.s.d.E.length=e.s.d.E.length)/\(0=0/\e.s.d.C.length=e.s.d.C.length)/\e.s.d.A=e.s.d.A/\(0=0/\e.s.d.keep.length=e.s.d.keep.length)/\e.s.ep=e.s.ep/\(0=0/\e.s.L.length=e.s.L.length)/\e.s.S=e.s.S/\(0=0/\e.s.fr.length=e.s.fr.length)/\e.s.J=e.s.J/\e.up=e.up/\(0=0/\e.X.length=e.X.length)/\(0=0/\r.length=p.length)/\(0=0/\z.length=q.length)/\e.N=e.N/\True))/\T8 ((Z0 Z5 e.s.d.E e.s.d.E)/\(Z0 Z1 e.s.d.C e.s.d.C)/\(Z0 Y9 e.s.d.keep e.s.d.keep)/\(Z0 Y0 e.s.L e.s.L)/\(v=v/\e.s.fr.length=e.s.fr.length/\V2 e.s.fr.length (Y5 e.s.fr) (Y5 e.s.fr))/\(Z0 X2 e.X e.X)/\(Z0 Z2 r p)/\(Z0 Y7 z q)/\True)) ⟨(e.lk.H,tx),⟨Z7,Z7,h⟩,(e.lk.W,tx),⟨Z7,Z7,f⟩,Z7⟩
def OvB(e:Eng)(tx:Int)(k:Nat):Prop:=T7 e.X tx=k/\k<e.X.length/\(e.X.getD k dz).id=tx/\e.X.length<=1000/\e.lk.H.length<=1048576/\e.lk.W.length<=1048576
def c7S:Con:=.reff ⟨Eng×Int×Nat×Nat,λx=>[.ref 0 0 0,Ji x.2.1],λx=>x.1.bx x.2.2.2,λ_=>.tup [],λx=>(b2i x.1 x.2.2.1).nx x.2.2.2,λx=>OvB x.1 x.2.1 x.2.2.1⟩
theorem c7N(e:Eng)(tx:Int)(k v:Nat)(h:
let u:=(List.take k e.X++List.drop (k+1) e.X);let p:=(e.X.getD k dz).id;let w:=(X7 (wF p) e.lk.W e.lk.W.length);let y:=(X7 (hF p) e.lk.H e.lk.H.length);  ∃(x:(Eng×Int)),((LeG e)/\((oL e x.1)/\tx=x.2/\True)/\L8 x.1.X.length)/\Ri (T7 x.1.X x.2+1)/\∃(X:(List Txn×Nat)),(((0=0/\e.X.length=X.1.length)/\T7 x.1.X x.2=(X.2:Int)/\T7 x.1.X x.2+1=(↑(X.2+1):Int)/\True)/\((Z0 X2 e.X X.1)/\True)/\X.2<X.1.length)/\∃(x:(Eng×Int×Nat)),let j:=x.1.lk;let z:=(X7 (wF x.2.1) j.W j.W.length);let r:=(X7 (hF x.2.1) j.H j.H.length);let q:=x.1.s;(((0=0/\11=11)/\tx=x.2.1/\True)/\(iM (v) (x.2.2) {e with X:=(xC X.1 X.2)} x.1)/\j.H.length<=1048576/\j.W.length<=1048576)/\(True/\True)/\(oo ((0=0/\q.d.E.length=e.s.d.E.length)/\(0=0/\q.d.C.length=e.s.d.C.length)/\q.d.A=e.s.d.A/\(0=0/\q.d.keep.length=e.s.d.keep.length)/\q.ep=e.s.ep/\(0=0/\q.L.length=e.s.L.length)/\q.S=e.s.S/\(0=0/\q.fr.length=e.s.fr.length)/\q.J=e.s.J/\x.1.up=e.up/\(0=0/\x.1.X.length=u.length)/\(0=0/\r.length=y.length)/\(0=0/\z.length=w.length)/\x.1.N=e.N/\True))/\T8 ((Z0 Z5 q.d.E e.s.d.E)/\(Z0 Z1 q.d.C e.s.d.C)/\(Z0 Y9 q.d.keep e.s.d.keep)/\(Z0 Y0 q.L e.s.L)/\(x.2.2=v/\q.fr.length=e.s.fr.length/\V2 q.fr.length (Y5 q.fr) (Y5 e.s.fr))/\(Z0 X2 x.1.X u)/\(Z0 Z2 r y)/\(Z0 Y7 z w)/\True)):
  G1 prog 251 [.ref 0 0 0,Ji tx] (e.bx v) (.tup []) ((b2i e k).nx v):=
 C4 (gC qS (gC b19 (gC c0R gN))) func251 Z3 aW h
theorem c2w:GK 251 c7S:=gk func251<|by
 rintro⟨e,tx,k,v⟩ ⟨h,d,hi,i,f,g⟩;dsimp only at h d hi i f g;subst hi;refine c7N e _ k v ⟨(e,_),⟨Z7,Z7,rT⟩,by rw[h];exact Z4 Z9,(e.X,k),⟨⟨Z7,h,by rw[h];rfl,Z6⟩,⟨⟨rfl,X6 _ _⟩,Z6⟩,d⟩,({e with X:=xC e.X k},_,v),⟨Z7,Z7,f,g⟩,Z7⟩
def b8p:Con:=.rel ⟨Eng×Int,λx=>[.bref x.1.ts,Ji x.2],λx=>Ji (G3 x.1 x.2).2,λx=>L8 x.1.X.length⟩
theorem b1w:GK 124 b8p:=gk func124<|by
 rintro⟨e,tx⟩ (hL:L8 e.X.length);refine U5 (gC qS gN) func124 Z3 (α:=let p:=(G3 e tx).2;br (!e.up) (15=p) (∃(x:(Eng×Int)),(((K9 e x.1)/\tx=x.2/\True)/\L8 x.1.X.length)/\bd (T7 x.1.X x.2<0) (19=p) (0=p))) ⟨λh=>by rw[c8L h],λh=>⟨(e,tx),⟨Z7,hL⟩,λq=>by rw[c83 h q],λq=>by rw[c8G h q]⟩⟩
theorem tC(n:Int):((yI n).toNat:Int)=n % 256:=by
 unfold yI;rw[a2u (O6 _),IntKind.wrap_u8]
theorem a76{n:Int}(h:0<=n)(d:n<=255):((yI n).toNat:Int)=n:=by
 rw[tC];omega
theorem c7z{n:Nat}(h:n<65536):be (yW n)=n:=by
 have d:=tC ((n:Int).fdiv 256);have e:=tC ((n:Int).fdiv 1);rw[Int.fdiv_eq_ediv_of_nonneg _ M3] at d e
 show(0*256+(yI ((n:Int).fdiv 256)).toNat)*256+(yI ((n:Int).fdiv 1)).toNat=n;rw[Int.fdiv_eq_ediv_of_nonneg _ M3,Int.fdiv_eq_ediv_of_nonneg _ M3]
 omega
theorem c8a{n:Nat}(h:n<4294967296):be (z6 n)=n:=by
 have e:=tC ((n:Int).fdiv 16777216);have f:=tC ((n:Int).fdiv 65536);have d:=tC ((n:Int).fdiv 256);have g:=tC ((n:Int).fdiv 1);rw[Int.fdiv_eq_ediv_of_nonneg _ M3] at e f d g
 show(((0*256+(yI ((n:Int).fdiv 16777216)).toNat)*256+(yI ((n:Int).fdiv 65536)).toNat)*256+(yI ((n:Int).fdiv 256)).toNat)*256+(yI ((n:Int).fdiv 1)).toNat=n;rw[Int.fdiv_eq_ediv_of_nonneg _ M3,Int.fdiv_eq_ediv_of_nonneg _ M3,Int.fdiv_eq_ediv_of_nonneg _ M3,Int.fdiv_eq_ediv_of_nonneg _ M3]
 omega
theorem b8F(l:Bz):R9 (l++z6 (zN l))=true/\X1 (l++z6 (zN l))=l:=by
 have d:(z6 (zN l)).length=4:=rfl;have L:(l++z6 (zN l)).length-4=l.length:=by rw[F7,d];omega
 have h:(l++z6 (zN l)).take l.length=l:=List.take_left;have hd:(l++z6 (zN l)).drop l.length=z6 (zN l):=List.drop_left;have ok:R9 (l++z6 (zN l))=true:=by
  unfold R9;rw[L,h,hd,c8a (a1X l),F7,d];simp
 refine⟨ok,?_⟩
 unfold X1;rw[if_pos ok,L,h]
def b7I(L:List (Bz)):Prop:=L.length<=100/\∀i,i<L.length->(L.getD i []).length<=255
theorem iO(L:List (Bz))(i:Nat):∀k,∃r,V7 L (i+k)=V7 L i++r
 |0=>⟨[],W7⟩
 |k+1=>by
  obtain⟨r,h⟩:=iO L i k;refine⟨r++[yI (L.getD (i+k) []).length]++L.getD (i+k) [],?_⟩
  show V7 L (i+k)++[yI (L.getD (i+k) []).length]++L.getD (i+k) []=_;rw[h];simp only[List.append_assoc]
theorem a88{α:Type}(d:α)(L:List α){i:Nat}(h:i<L.length):L.take (i+1)=L.take i++[L.getD i d]:=by
 rw[List.take_add_one,P3,I0 h]
 rfl
theorem b44{L:List (Bz)}(h:b7I L):∀i,i<=L.length->xJ (S4 L) i=some ((V7 L i).length,L.take i)
 |0,_=>rfl
 |i+1,hi=>by
  obtain⟨r,R⟩:=iO L (i+1) (L.length- (i+1));rw[show i+1+(L.length- (i+1))=L.length by omega] at R
  have C:((yI (L.getD i []).length).toNat:Int)=(L.getD i []).length:=a76 Z9 (by have:=h.2 i Z9;omega)
  have B:S4 L=V7 L i++([yI (L.getD i []).length]++(L.getD i []++r)):=by
   unfold S4;rw[R];show V7 L i++[yI (L.getD i []).length]++L.getD i []++r=_;simp only[List.append_assoc]
  have g:(S4 L).getD (V7 L i).length 0=yI (L.getD i []).length:=by
   rw[B,P3,pZ (U9 _)]
   simp
  have l:(S4 L).length=(V7 L i).length+(1+((L.getD i []).length+r.length)):=by rw[B];simp only[F7,List.length_cons,List.length_nil]
  have n:(yI (L.getD i []).length).toNat=(L.getD i []).length:=Z9
  have e:List.drop ((V7 L i).length+1) (List.take ((V7 L i).length+1+(L.getD i []).length) (S4 L))=L.getD i []:=by
   rw[B,←List.append_assoc,←List.append_assoc];rw[List.take_left' (by simp only[F7,List.length_cons,List.length_nil]),List.drop_left' (by simp only[F7,List.length_cons,List.length_nil])]
  conv=>lhs;unfold xJ
  rw[b44 h i Z9]
  dsimp only;rw[g,n,if_pos ⟨Z9,Z9⟩,e,a88 [] L Z9]
  congr 2
  simp only[V7,F7,List.length_cons,List.length_nil]
theorem a01{L:List (Bz)}(h:b7I L):Q2 (S4 L)=some L:=by
 obtain⟨r,R⟩:=iO L 0 L.length;rw[D2] at R;have C:((yI L.length).toNat:Int)=L.length:=a76 Z9 (by have:=h.1;omega)
 have f:C0 (S4 L)=L.length:=by
  unfold C0 S4;rw[R];show(yI L.length).toNat=_;omega
 have l:(S4 L).length≠0:=by
  unfold S4;rw[R];simp[V7]
 unfold Q2;rw[f,if_neg (by have:=h.1;omega),b44 h _ (U9 _)]
 dsimp only;rw[show(V7 L L.length).length=(S4 L).length from rfl,if_pos rfl,j_l]
theorem c9g{no:Int}{p:Pg}(h:PgP p)(t:0<=no)(v:no<=255):E3 no (S3 no p)=(p,true):=by
 obtain⟨l,q,j,d⟩:=h;obtain⟨U,u⟩:=b8F (sC no p);have hF:b7I p.sl:=⟨Z9,λi hi=>Nat.le_trans (d i hi) M3⟩
 obtain⟨r,R⟩:=iO p.sl 0 p.sl.length;have n:1<=(S4 p.sl).length:=by
  unfold S4;rw[←D2 p.sl.length,R];simp[V7]
 have f:sC no p=R0 112::yI no::(yW p.Q.toNat++S4 p.sl):=by unfold sC;simp
 have e:(yW p.Q.toNat).length=2:=rfl;have o:uR no (sC no p)=true:=by
  unfold uR;rw[f];simp only[List.length_cons,F7,e,J4,o7];exact⟨Z9,rfl,a76 t v⟩
 have g:(sC no p).drop 4=S4 p.sl:=by
  unfold sC;exact List.drop_left' (by simp[e])
 have d2:((sC no p).drop 2).take 2=yW p.Q.toNat:=by
  rw[f];exact List.take_left' e
 have x:pgX (sC no p)=p:=by
  unfold pgX;rw[g,d2,a01 hF,c7z Z9,Option.getD_some,show((p.Q.toNat:Nat):Int)=p.Q by omega]
 have ok:j8 p=true:=mN ⟨l,q,j,d⟩;unfold E3 S3;rw[U,u,o,x,g,a01 hF,ok];rfl
theorem b9w(L:List (Bz))(h:∀i,i<L.length->(L.getD i []).length<=30):∀i,i<=L.length->(V7 L i).length<=1+31*i
 |0,_=>by simp[V7]
 |i+1,hi=>by
  have d:=b9w L h i Z9
  have e:=h i Z9
  simp only[V7,F7,List.length_cons,List.length_nil];omega
theorem c8B{no:Int}{p:Pg}(h:PgP p):(S3 no p).length<=160/\S3 no p≠[]:=by
 obtain⟨j,n,i,d⟩:=h;have:=b9w p.sl d p.sl.length (U9 _);have f:(z6 (zN (sC no p))).length=4:=rfl;have g:(yW p.Q.toNat).length=2:=rfl;have l:(S3 no p).length=8+(S4 p.sl).length:=by
  unfold S3;rw[F7,f];unfold sC;simp only[F7,List.length_cons,List.length_nil,g];omega
 refine⟨by rw[l];unfold S4;omega,λe=>?_⟩
 rw[e] at l;simp at l;omega
structure SI(s:Sto):Prop where
 iv:SInv s
 dw:b9S s.d
 pl:∀no,no<8->(P6 s.d no).1.Q<=s.L.length
theorem c0V{s:Sto}(h:SInv s)(W:b9S s.d):F8 s.d:=by
 obtain⟨l,g,f,e,j⟩:=W;refine⟨Z9,Z9,h.c,g,f,e,λi hi=>?_⟩
 have:=h.pd i hi;have:=j i hi;unfold P2;rw[K4.2 Z9,tP Z9]
 rfl
theorem SI.dk{s:Sto}(h:SI s):F8 s.d:=c0V h.iv h.dw
theorem dW{d:Dsk}(h:F8 d)(e:d.E.length=69):b9S d:=by
 obtain⟨o,n,q,g,l,f,j⟩:=h;exact⟨e,g,l,f,λi hi=>(a4r (j i hi)).2.2⟩
theorem SI.logP{s:Sto}(h:SI s):xG s.L:=⟨h.iv.l60,λi hi=>by
 obtain⟨a,b⟩:=C2.1 h.iv.rc i hi;exact⟨(Q3 _).1 a,b⟩⟩
theorem c49{s:Sto}(h:F5 s=true)(M:iC s):SI s:=by
 have hd:=((o4 s).1 ((G2 s).1 h).1.1);refine⟨a9t h M,dW hd.1 hd.2.1,λno n=>?_⟩
 have B:=((G2 s).1 h).2.2.1 no n;have d:=pP ((G2 s).1 h).1.2.2;unfold zW at B;simp only[wR,uG] at B;omega
theorem a8A{s:Sto}{r:Rec}(h:SI s)(R:O8 (P8 s r)=true)(l:s.L.length+1<=60):SI (apx s r):=by
 have e:(apx s r).L.length=s.L.length+1:=by show(s.L++[_]).length=_;simp
 have L:=b77 h.logP R l;have hi:=h.iv;have u:=hi.su;refine⟨⟨⟨hi.sm.1,Z9,hi.sm.2.2⟩,hi.c,hi.pd,hi.n69,⟨u.1,by have:(apx s r).S=s.S:=rfl;omega⟩,Z9,C2.2 λi hi=>⟨(Q3 _).2 (L.2 i hi).1,(L.2 i hi).2⟩,hi.fr3,λi f=>?_,hi.hd,hi.pg⟩,h.dw,λno n=>?_⟩
 ·obtain⟨a,b,c,d⟩:=hi.frp i f;exact⟨a,b,c,by have:((apx s r).fr.getD i dz).pg.Q<=s.L.length:=d;omega⟩
 ·have:(P6 (apx s r).d no).1.Q<=s.L.length:=h.pl no n;omega
theorem a2G{L:List Frm}{k:Nat}(f:Frm)(i:Nat)(hk:k<L.length):(L.set k f).getD i dz=if i=k then f else L.getD i dz:=by
 by_cases h:i=k
 ·subst h;rw[if_pos rfl,P3,j_j hk]
  rfl
 ·rw[if_neg h,P3,j_k (Ne.symm h),←P3]
theorem b40{d:Dsk}(h:F8 d)(e:d.E.length=69):F8 (y7 d).1/\(y7 d).1.E.length=69:=by
 unfold y7;split
 ·exact b01 (dW h e)
 ·exact⟨h,e⟩
theorem c0L{s:Sto}{l:Int}(h:mC s l)(e:0<=l):0<=(V8 s l).1.S/\(V8 s l).1.S<=s.L.length:=by
 obtain⟨_,_,_,_,B,d,_,f,_⟩:=h;by_cases hl:l<=s.S
 ·rw[xD hl];exact⟨B,d⟩
 ·rw[xQ hl];dsimp only;split
  ·exact⟨e,f⟩
  ·exact⟨B,d⟩
theorem c7K{s:Sto}{k:Nat}(h:SI s)(g:k<s.fr.length)(u:(X3 s k).2=false):F8 (X3 s k).1.d/\(X3 s k).1.d.E.length=69:=by
 obtain⟨j,i,l,F⟩:=h.iv.frp k g;have f:=h.iv.flu F;have e:=b0P h.dk f h.logP;cases hd:(s.fr.getD k dz).D with
 |false=>rw[uH hd] at u;cases u
 |true=>
  cases hF:(V8 s (s.fr.getD k dz).pg.Q).2 with
  |false=>rw[rN hd hF];exact e
  |true=>
   cases B:(y7 (V8 s (s.fr.getD k dz).pg.Q).1.d).2 with
   |false=>rw[mR hd hF B];exact b40 e.1 e.2
   |true=>rw[eT hd hF B] at u;cases u
theorem c5z{s:Sto}{k:Nat}(h:SI s)(hk:k<s.fr.length)(u:(X3 s k).2=true):SI (X3 s k).1/\(X3 s k).1.L=s.L/\(X3 s k).1.fr.length=s.fr.length/\(X3 s k).1.J=s.J:=by
 obtain⟨r1,A,r3,V,I⟩:=s6 s k;refine⟨?_,r3,r1,A⟩
 cases hd:(s.fr.getD k dz).D with
 |false=>rw[uH hd];exact h
 |true=>
  have hi:=h.iv;obtain⟨x,J,F,v⟩:=hi.frp k hk;have z:=hi.flu v;have j:=b0P h.dk z h.logP;have r:=a4P s (s.fr.getD k dz).pg.Q;have f:=c0L z F.1;have M:=a9X hi hk;have e:=λno o q=>a5c (no:=no) hi hk o q u
  have t:=a17 (l:=(s.fr.getD k dz).pg.Q) hi.pd;cases hF:(V8 s (s.fr.getD k dz).pg.Q).2 with
  |false=>rw[rN hd hF] at u;cases u
  |true=>
   cases B:(y7 (V8 s (s.fr.getD k dz).pg.Q).1.d).2 with
   |false=>rw[mR hd hF B] at u;cases u
   |true=>
    have hw:=b40 j.1 j.2;have hpd5:aL (y7 (V8 s (s.fr.getD k dz).pg.Q).1.d).1:=by
     unfold y7;split
     ·exact b98 (xT _)
     ·exact t
    have L:(X3 s k).1.d.C.length<=500:=by
     by_cases O:(s.fr.getD k dz).no=0
     ·exact(e 1 Z9 Z9).2
     ·exact(e 0 Z9 Z9).2
    obtain⟨C,Z⟩:=c8B (no:=(s.fr.getD k dz).no) F;have n:(X3 s k).1=wrF ((V8 s (s.fr.getD k dz).pg.Q).1.sd (y7 (V8 s (s.fr.getD k dz).pg.Q).1.d).1) k:=by rw[eT hd hF B]
    have efr:(X3 s k).1.fr=s.fr.set k (clF (s.fr.getD k dz)):=by
     rw[n];show(V8 s _).1.fr.set k (clF ((V8 s _).1.fr.getD k dz))=_;rw[r.1]
    have ed:(X3 s k).1.d=wrD (y7 (V8 s (s.fr.getD k dz).pg.Q).1.d).1 (1+(s.fr.getD k dz).no) (S3 (s.fr.getD k dz).no (s.fr.getD k dz).pg):=by
     rw[n];show wrD _ (1+((V8 s _).1.fr.getD k dz).no) (S3 ((V8 s _).1.fr.getD k dz).no ((V8 s _).1.fr.getD k dz).pg)=_;rw[r.1];rfl
    have U:(X3 s k).1.S=(V8 s (s.fr.getD k dz).pg.Q).1.S:=by rw[n];rfl
    have g:∀no,no<8->(P6 (X3 s k).1.d no).2=true/\(S0 (X3 s k).1.d (1+no)).length<=1000/\(P6 (X3 s k).1.d no).1.Q<=s.L.length:=λno o=>by
     by_cases N:(s.fr.getD k dz).no=no
     ·have R:S0 (X3 s k).1.d (1+no)=S3 (s.fr.getD k dz).no (s.fr.getD k dz).pg:=by
       rw[ed,a6S,if_pos Z9]
      have hp:P6 (X3 s k).1.d no=((s.fr.getD k dz).pg,true):=by
       unfold P6;rw[R,if_neg Z,←N];exact c9g F x Z9
      rw[hp,R];exact⟨rfl,Z9,v⟩
     ·have Q:=(e no o N).1;have hp:=(cU (d:=(X3 s k).1.d) (d':=s.d) (no:=no) Q).1;rw[hp,Q];exact⟨(hi.pg no o).1,(hi.pg no o).2,h.pl no o⟩
    refine⟨⟨M,L,?_,by rw[I];exact hi.n69,⟨by rw[U];exact f.1,by rw[U,r3];exact f.2⟩,by rw[r3];exact hi.l60,by rw[r3];exact hi.rc,by rw[r1];exact hi.fr3,λi hi'=>?_,by rw[A];exact hi.hd,λno o=>⟨(g no o).1,(g no o).2.1⟩⟩,?_,λno o=>by rw[r3];exact(g no o).2.2⟩
    ·rw[ed];intro i hi';have hi':i<((y7 (V8 s (s.fr.getD k dz).pg.Q).1.d).1.C++[(⟨1+(s.fr.getD k dz).no,S3 (s.fr.getD k dz).no (s.fr.getD k dz).pg⟩:Pend)]).length:=hi';rw[F7,List.length_singleton] at hi';show 0<=(((y7 (V8 s (s.fr.getD k dz).pg.Q).1.d).1.C++[(⟨1+(s.fr.getD k dz).no,S3 (s.fr.getD k dz).no (s.fr.getD k dz).pg⟩:Pend)]).getD i dz).at_/\(((y7 (V8 s (s.fr.getD k dz).pg.Q).1.d).1.C++[(⟨1+(s.fr.getD k dz).no,S3 (s.fr.getD k dz).no (s.fr.getD k dz).pg⟩:Pend)]).getD i dz).at_<((y7 (V8 s (s.fr.getD k dz).pg.Q).1.d).1.E.length:Int);rw[cM dz _ _ i hi',hw.2];split
     ·exact⟨X5,X5⟩
     ·have:=hpd5 i Z9
      rw[hw.2] at this;exact this
    ·rw[r1] at hi';rw[efr,a2G _ _ hk,r3];split
     ·exact⟨x,J,F,v⟩
     ·exact hi.frp i hi'
    ·rw[ed];obtain⟨w1,w2,w3,w4,w5⟩:=dW hw.1 hw.2;refine⟨w1,w2,w3,w4,λi hi'=>?_⟩
     have hi':i<((y7 (V8 s (s.fr.getD k dz).pg.Q).1.d).1.C++[(⟨1+(s.fr.getD k dz).no,S3 (s.fr.getD k dz).no (s.fr.getD k dz).pg⟩:Pend)]).length:=hi';rw[F7,List.length_singleton] at hi';show(((y7 (V8 s (s.fr.getD k dz).pg.Q).1.d).1.C++[(⟨1+(s.fr.getD k dz).no,S3 (s.fr.getD k dz).no (s.fr.getD k dz).pg⟩:Pend)]).getD i dz).d.length<=160;rw[cM dz _ _ i hi'];split
     ·exact C
     ·exact w5 i Z9
theorem b6f{s:Sto}{no:Nat}(h:SI s)(o:no<8):0<=(oY no (P6 s.d no).1).no/\(oY no (P6 s.d no).1).no<=7/\PgP (oY no (P6 s.d no).1).pg/\(oY no (P6 s.d no).1).pg.Q<=s.L.length:=⟨by show(0:Int)<=no;omega,by show(no:Int)<=7;omega,iG (h.iv.pg no o).1,h.pl no o⟩
theorem b6n{s:Sto}{L:List Frm}{hand:Int}(h:SI s)(M:iC ⟨s.d,s.ep,s.L,s.S,L,hand⟩)(g:L.length<=3)(f:∀i,i<L.length->0<=(L.getD i dz).no/\(L.getD i dz).no<=7/\PgP (L.getD i dz).pg/\(L.getD i dz).pg.Q<=s.L.length)(e:0<=hand/\hand<=2):SI ⟨s.d,s.ep,s.L,s.S,L,hand⟩:=
 ⟨⟨M,h.iv.c,h.iv.pd,h.iv.n69,h.iv.su,h.iv.l60,h.iv.rc,g,f,e,h.iv.pg⟩,h.dw,h.pl⟩
theorem c8P{a:Int}(h:0<=a):0<=a.tmod 3/\a.tmod 3<=2:=by
 rw[Int.tmod_eq_emod_of_nonneg h];omega
theorem rM{s:Sto}{no:Nat}(h:SI s)(u:(Y3 s no).2.2=false):F8 (Y3 s no).1.d/\(Y3 s no).1.d.E.length=69:=by
 by_cases C:0<=frAt s.fr no
 ·rw[(yJ 0 C).1] at u;cases u
 ·by_cases h3:s.fr.length=3
  ·have hh:=h.iv.hd;cases ho:(X3 s s.J.toNat).2 with
   |true=>rw[(m3 0 C h3 ho).1] at u;cases u
   |false=>
    rw[(l9 0 C h3 ho).1];exact c7K h Z9 ho
  ·rw[(yB 0 C h3).1] at u;cases u
theorem rQ{s:Sto}{no:Nat}(h:SI s)(o:no<8)(u:(Y3 s no).2.2=true):SI (Y3 s no).1/\(Y3 s no).1.L=s.L:=by
 have hm:=a91 h.iv o;have f:=h.iv.hd;have g:=h.iv.fr3;by_cases hc:0<=frAt s.fr no
 ·rw[(yJ 0 hc).1];exact⟨h,rfl⟩
 ·by_cases h3:s.fr.length=3
  ·cases ho:(X3 s s.J.toNat).2 with
   |false=>rw[(l9 0 hc h3 ho).1] at u;cases u
   |true=>
    obtain⟨O,l,e,j⟩:=c5z h (show s.J.toNat<s.fr.length by omega) ho
    rw[(m3 0 hc h3 ho).1] at hm ⊢;have hlen:((X3 s s.J.toNat).1.fr.set s.J.toNat (oY no (P6 (X3 s s.J.toNat).1.d no).1)).length=3:=by rw[zV,e];exact h3
    refine⟨b6n O hm Z9 (λi hi=>?_) (by rw[j];exact c8P Z9),l⟩
    rw[a2G _ _ Z9]
    split
    ·exact b6f O o
    ·exact O.iv.frp i Z9
  ·rw[(yB 0 hc h3).1] at hm ⊢;have hlen:(s.fr++[oY no (P6 s.d no).1]).length=s.fr.length+1:=by rw[F7];rfl
   refine⟨b6n h hm Z9 (λi hi=>?_) f,rfl⟩
   rw[cM dz _ _ i Z9]
   split
   ·exact b6f h o
   ·exact h.iv.frp i Z9
theorem b7W{s:Sto}{r:Rec}(h:SI s)(u:(T9 s r).2=false):F8 (T9 s r).1.d/\(T9 s r).1.d.E.length=69:=by
 cases f:(Y3 s r.g.toNat).2.2 with
 |true=>
  unfold T9 at u;rw[if_pos f] at u;cases u
 |false=>
  have e:T9 s r=((Y3 s r.g.toNat).1,false):=if_neg (by rw[f];simp)
  rw[e];exact rM h f
theorem b6m{s:Sto}{r:Rec}(h:SI s)(B:mB s r)(hl:0<=r.l/\r.l<=s.L.length)(A:r.a.length<=30)(u:(T9 s r).2=true):SI (T9 s r).1/\(T9 s r).1.L=s.L:=by
 have M:=c3g B;obtain⟨_,v,C,F,q⟩:=B;have o:r.g.toNat<8:=Z9
 cases f:(Y3 s r.g.toNat).2.2 with
 |false=>
  unfold T9 at u;rw[if_neg (by rw[f];simp)] at u
  cases u
 |true=>
  have e:T9 s r=(c2l (Y3 s r.g.toNat).1 (Y3 s r.g.toNat).2.1 r,true):=if_pos f;obtain⟨i1,I⟩:=rQ h o f;obtain⟨k1,t,x,d,n⟩:=xH h.iv o f;have z:=i1.iv.fr3;rw[e] at M ⊢;refine⟨b6n i1 M (by rw[zV];omega) (λi hi=>?_) i1.iv.hd,I⟩
  rw[zV] at hi;rw[a2G _ _ k1];split
  ·obtain⟨b1,b2,b3,b4⟩:=i1.iv.frp _ k1;refine⟨b1,b2,⟨hl.1,?_,?_,λj hj=>?_⟩,?_⟩
   ·have:=h.iv.l60;show r.l<=_;omega
   ·show(List.set _ _ _).length=_;rw[zV];exact d
   ·show((List.set _ _ _).getD j []).length<=30;have hj:j<(List.set ((Y3 s r.g.toNat).1.fr.getD (Y3 s r.g.toNat).2.1 dz).pg.sl r.s.toNat r.a).length:=hj;rw[zV] at hj;by_cases hjs:j=r.s.toNat
    ·subst hjs;rw[P3,j_j hj]
     exact A
    ·rw[P3,j_k (Ne.symm hjs),←P3]
     exact n j hj
   ·rw[I];exact hl.2
  ·exact i1.iv.frp i hi
theorem a0t{L:List Txn}{id n:Int}{k:Nat}(hk:k<L.length)(A:T7 L id=k):T7 (L.set k ⟨(L.getD k dz).id,n⟩) id=k:=by
 have g:¬S5 L.length (x1 L id)<0:=by
  have:S5 L.length (x1 L id)=k:=A;omega
 obtain⟨i,hi,hp,f,o⟩:=lW g;have d:i=k:=by
  have:S5 L.length (x1 L id)=k:=A;omega
 subst d;have e:∀j,x1 (L.set i ⟨(L.getD i dz).id,n⟩) id j=x1 L id j:=λj=>by
  unfold x1;by_cases h:j=i
  ·subst h;rw[P3 (l:=L.set j _),j_j hk]
   rfl
  ·rw[P3 (l:=L.set i _),j_k (Ne.symm h),←P3]
 unfold T7;rw[zV];exact N8 hi (by rw[e];exact hp) λj J=>by rw[e];exact f j J
theorem b0K{L:List Txn}{n:Int}{k:Nat}(h:k<L.length):((L.set k ⟨(L.getD k dz).id,n⟩).getD k dz).id=(L.getD k dz).id:=by
 rw[P3 (l:=L.set k _),j_j h]
 rfl
theorem c7R(s:Sto)(r:Rec):(T9 s r).1.ep=s.ep:=by
 have hF:(Y3 s r.g.toNat).1.ep=s.ep:=by
  by_cases h:0<=frAt s.fr r.g.toNat
  ·rw[(yJ 0 h).1]
  ·by_cases h3:s.fr.length=3
   ·cases ho:(X3 s s.J.toNat).2 with
    |true=>rw[(m3 0 h h3 ho).1];exact(s6 s s.J.toNat).2.2.2.1
    |false=>rw[(l9 0 h h3 ho).1];exact(s6 s s.J.toNat).2.2.2.1
   ·rw[(yB 0 h h3).1];rfl
 unfold T9;split
 ·exact hF
 ·exact hF
def wX(r:Rec):Rec:=⟨0,0,0,3,0,r.p,r.g,r.s,[],r.b⟩
def dO(e:Eng)(k:Nat)(r:Rec):Rec:=P8 e.s (B7 e k (wX r))
def B1(e:Eng)(k:Nat)(r:Rec):Eng×Bool:=({E7 e k (wX r) with s:=(T9 (E7 e k (wX r)).s (dO e k r)).1},(T9 (E7 e k (wX r)).s (dO e k r)).2)
def bP(e:Eng)(k:Nat)(r:Rec)(v:Nat):Nat:=P7 (E7 e k (wX r)).s r.g.toNat v
def G7(k:Nat)(to:Int):Nat->Eng->Nat->Int->(Eng×Nat)×Bool
 |0,e,v,_=>((e,v),true)
 |f+1,e,v,a=>if a<=to then((e,v),true) else if(Y8 e.s.L a).k=3 then G7 k to f e v (Y8 e.s.L a).n
  else if(Y8 e.s.L a).k=2 then(if(B1 e k (Y8 e.s.L a)).2=true then G7 k to f (B1 e k (Y8 e.s.L a)).1 (bP e k (Y8 e.s.L a) v) (Y8 e.s.L a).p else(((B1 e k (Y8 e.s.L a)).1,bP e k (Y8 e.s.L a) v),false))
  else G7 k to f e v (Y8 e.s.L a).p
structure UE(e:Eng)(k:Nat)(tx:Int):Prop where
 si:SI e.s
 at_:T7 e.X tx=k
 lt:k<e.X.length
 id:(e.X.getD k dz).id=tx
 txr:1<=tx/\tx<=60
 la:1<=(e.X.getD k dz).Z/\(e.X.getD k dz).Z<=e.s.L.length
 ep:1<=e.s.ep/\e.s.ep<=60
 t10:e.X.length<=10
 lk:e.lk.H.length<=60/\e.lk.W.length<=100
 rm:e.s.L.length+1<=60
structure UI(e:Eng)(k:Nat)(tx a:Int):Prop where
 u:UE e k tx
 ar:0<=a/\a<=(e.s.L.length:Int)
 fu:∃f,a.toNat<f/\e.s.L.length+1+und e.s.L f a<=60
theorem a4q{e:Eng}{k:Nat}{tx:Int}{r:Rec}(h:UE e k tx)(l:a3F e k r):AddB e tx k r/\O8 (P8 e.s (B7 e k r))=true:=by
 have f:=h.id;have x:=h.txr;have L:=h.la;have M:=h.rm;have B:=h.t10;have g:=h.ep;obtain⟨j,o,A,F,v,n,I,J,C,u,z,t,i,q,R,_⟩:=l;have d:O8 (P8 e.s (B7 e k r))=true:=by
  refine(Q3 _).2 ?_
  unfold zF P8 B7;dsimp only;refine⟨g.1,g.2,Z9,Z9,Z9,Z9,Z9,Z9,Z9,Z9,Z9,Z9,Z9,Z9,Z9,λe=>absurd e j,λ_=>⟨Z9,Z9,Z9,n,v,R,⟨λe=>absurd e o,λe=>Z9⟩⟩⟩
 exact⟨⟨h.at_,h.lt,f,d,Z9,Z9,⟨Z9,Z9⟩⟩,d⟩
theorem a09{L:List Rec}{x:Rec}(d:xG L):∀(f:Nat) (a:Int),a<=L.length->und (L++[x]) f a=und L f a
 |0,_,_=>rfl
 |f+1,a,ha=>by
  unfold und;by_cases h:a<=0
  ·rw[if_pos h,if_pos h]
  ·have e:Y8 (L++[x]) a=Y8 L a:=by
    unfold Y8;rw[P3,rK Z9,←P3]
   obtain⟨j,l,g,i⟩:=d.prev (show 1<=a by omega) ha
   rw[if_neg h,if_neg h,e,a09 d f _ Z9,a09 d f _ Z9]
theorem sF(e:Eng)(k:Nat)(r:Rec):(E7 e k r).s.L.length=e.s.L.length+1:=by
 show(e.s.L++[_]).length=_;simp
theorem a9S{e:Eng}{k:Nat}{tx a:Int}(h:UE e k tx)(n:1<=a)(i:a<=e.s.L.length)(z:(Y8 e.s.L a).k=2):a3F e k (wX (Y8 e.s.L a))/\mB (E7 e k (wX (Y8 e.s.L a))).s (dO e k (Y8 e.s.L a))/\(Y8 e.s.L a).b.length<=30/\SI (E7 e k (wX (Y8 e.s.L a))).s:=by
 have L:=h.si.logP;obtain⟨r,_⟩:=L.at n i;obtain⟨v,x,t,u⟩:=L.prev n i;obtain⟨_,_,_,_,_,_,_,_,_,_,f,o,j,q,B,_,_⟩:=r;have R:a3F e k (wX (Y8 e.s.L a)):=by
  unfold a3F wX;dsimp only;exact⟨Z9,Z9,Z9,Z9,λh=>absurd rfl h,λ_ h=>absurd rfl h,Z9,Z9,f,o,j,q,M3,B,λ_=>rfl,h.lt⟩
 have d:=(a4q h R).2;have l:SI (E7 e k (wX (Y8 e.s.L a))).s:=a8A h.si d h.rm;exact⟨R,⟨l.iv,f,by show(Y8 e.s.L a).g<8;omega,j,by show(Y8 e.s.L a).s<4;omega⟩,B,l⟩
theorem c5H{e:Eng}{k:Nat}{tx a:Int}(h:UE e k tx)(g:1<=a)(f:a<=e.s.L.length)(i:(Y8 e.s.L a).k=2)(u:(B1 e k (Y8 e.s.L a)).2=false):F8 (B1 e k (Y8 e.s.L a)).1.s.d/\(B1 e k (Y8 e.s.L a)).1.s.d.E.length=69:=
 b7W (a9S h g f i).2.2.2 u
theorem a9j{e:Eng}{k:Nat}{tx a:Int}(h:UI e k tx a)(l:1<=a)(j:(Y8 e.s.L a).k=2)(u:(B1 e k (Y8 e.s.L a)).2=true):UI (B1 e k (Y8 e.s.L a)).1 k tx (Y8 e.s.L a).p:=by
 obtain⟨d,⟨R,A⟩,f,F,Q⟩:=h;have L:=d.si.logP;obtain⟨o,O,C,I⟩:=L.prev l A;obtain⟨U,z,B,v⟩:=a9S d l A j;have M:=d.rm;have N:=sF e k (wX (Y8 e.s.L a));obtain⟨q,r⟩:=b6m v z ⟨by show(0:Int)<=(e.s.L.length:Int)+1;omega,by show(e.s.L.length:Int)+1<=_;omega⟩ B u
 have g:(B1 e k (Y8 e.s.L a)).1.s.L=e.s.L++[dO e k (Y8 e.s.L a)]:=r;have n:(B1 e k (Y8 e.s.L a)).1.s.L.length=e.s.L.length+1:=by rw[g];simp
 have i:(B1 e k (Y8 e.s.L a)).1.s.ep=e.s.ep:=c7R (E7 e k (wX (Y8 e.s.L a))).s (dO e k (Y8 e.s.L a));have x:(B1 e k (Y8 e.s.L a)).1.X=e.X.set k ⟨(e.X.getD k dz).id,(e.s.L.length:Int)+1⟩:=rfl;have J:und e.s.L f a=1+und e.s.L (f-1) (Y8 e.s.L a).p:=by
  rw[iK Z9 F Z9,if_pos j]
 have t:und (e.s.L++[dO e k (Y8 e.s.L a)]) (f-1) (Y8 e.s.L a).p=und e.s.L (f-1) (Y8 e.s.L a).p:=a09 L _ _ Z9
 refine⟨⟨q,by rw[x];exact a0t d.lt d.at_,by rw[x,zV];exact d.lt,by rw[x];exact(b0K d.lt).trans d.id,d.txr,?_,by rw[i];exact d.ep,by rw[x,zV];exact d.t10,d.lk,by rw[n];omega⟩,⟨o,by rw[n];omega⟩,f-1,Z9,by rw[n,g,t];omega⟩
 rw[x,n,P3,j_j d.lt]
 show 1<=(e.s.L.length:Int)+1/\(e.s.L.length:Int)+1<=_;omega
theorem c6Z{e:Eng}{k:Nat}{tx a:Int}(h:UI e k tx a)(i:1<=a)(j:(Y8 e.s.L a).k=3):UI e k tx (Y8 e.s.L a).n:=by
 obtain⟨d,⟨r,A⟩,f,F,l⟩:=h;obtain⟨o,u,g,q⟩:=d.si.logP.prev i A;have t:=a2m (L:=e.s.L) Z9 F j
 exact⟨d,⟨g,Z9⟩,f-1,Z9,Z9⟩
theorem c6v{e:Eng}{k:Nat}{tx a:Int}(h:UI e k tx a)(i:1<=a)(j:(Y8 e.s.L a).k≠3):UI e k tx (Y8 e.s.L a).p:=by
 obtain⟨d,⟨q,A⟩,f,F,l⟩:=h;obtain⟨g,t,n,o⟩:=d.si.logP.prev i A;have r:=iK (L:=e.s.L) Z9 F j
 exact⟨d,⟨g,Z9⟩,f-1,Z9,Z9⟩
theorem rY{k:Nat}{to a:Int}{f:Nat}{e:Eng}{v:Nat}(h:a<=to):G7 k to f e v a=((e,v),true):=by
 cases f with
 |zero=>rfl
 |succ f=>unfold G7;rw[if_pos h]
theorem a8d{k:Nat}{to a:Int}{f:Nat}{e:Eng}{v:Nat}(h:¬a<=to)(F:0<f)(d:(Y8 e.s.L a).k=3):G7 k to f e v a=G7 k to (f-1) e v (Y8 e.s.L a).n:=by
 obtain⟨g,rfl⟩:∃g,f=g+1:=⟨f-1,Z9⟩
 conv=>lhs;unfold G7
 rw[if_neg h,if_pos d];rfl
theorem a75{k:Nat}{to a:Int}{f:Nat}{e:Eng}{v:Nat}(h:¬a<=to)(F:0<f)(i:(Y8 e.s.L a).k≠3)(d:(Y8 e.s.L a).k≠2):G7 k to f e v a=G7 k to (f-1) e v (Y8 e.s.L a).p:=by
 obtain⟨g,rfl⟩:∃g,f=g+1:=⟨f-1,Z9⟩
 conv=>lhs;unfold G7
 rw[if_neg h,if_neg i,if_neg d];rfl
theorem a8V{k:Nat}{to a:Int}{f:Nat}{e:Eng}{v:Nat}(h:¬a<=to)(F:0<f)(d:(Y8 e.s.L a).k=2)(u:(B1 e k (Y8 e.s.L a)).2=true):G7 k to f e v a=G7 k to (f-1) (B1 e k (Y8 e.s.L a)).1 (bP e k (Y8 e.s.L a) v) (Y8 e.s.L a).p:=by
 obtain⟨g,rfl⟩:∃g,f=g+1:=⟨f-1,Z9⟩
 conv=>lhs;unfold G7
 rw[if_neg h,if_neg Z9,if_pos d,if_pos u]
 rfl
theorem a6f{k:Nat}{to a:Int}{f:Nat}{e:Eng}{v:Nat}(h:¬a<=to)(F:0<f)(d:(Y8 e.s.L a).k=2)(u:(B1 e k (Y8 e.s.L a)).2=false):G7 k to f e v a=(((B1 e k (Y8 e.s.L a)).1,bP e k (Y8 e.s.L a) v),false):=by
 obtain⟨g,rfl⟩:∃g,f=g+1:=⟨f-1,Z9⟩
 conv=>lhs;unfold G7
 rw[if_neg h,if_neg Z9,if_pos d,if_neg (by rw[u];simp)]
def c0z(u:(Eng×Nat)×Bool)(k:Nat)(tx:Int):Prop:=(u.2=true->UE u.1.1 k tx)/\(u.2=false->F8 u.1.1.s.d/\u.1.1.s.d.E.length=69)
theorem a9B{k:Nat}{tx to:Int}(d:0<=to):∀(f:Nat) (e:Eng) (v:Nat) (a:Int),a.toNat<f->UI e k tx a->c0z (G7 k to f e v a) k tx
 |0,_,_,_,hf,_=>absurd hf (D0 _)
 |f+1,e,v,a,hf,h=>by
  by_cases ht:a<=to
  ·rw[rY ht];exact⟨λ_=>h.u,λe=>by cases e⟩
  ·have h1:1<=a:=by omega
   obtain⟨j,l,g,i⟩:=h.u.si.logP.prev h1 h.ar.2;by_cases h3:(Y8 e.s.L a).k=3
   ·rw[a8d ht Z9 h3]
    exact a9B d f _ _ _ Z9 (c6Z h h1 h3)
   ·by_cases h2:(Y8 e.s.L a).k=2
    ·cases hu:(B1 e k (Y8 e.s.L a)).2 with
     |true=>
      rw[a8V ht Z9 h2 hu]
      exact a9B d f _ _ _ Z9 (a9j h h1 h2 hu)
     |false=>
      rw[a6f ht Z9 h2 hu]
      exact⟨λe=>(by cases e),λ_=>c5H h.u h1 h.ar.2 h2 hu⟩
    ·rw[a75 ht Z9 h3 h2]
     exact a9B d f _ _ _ Z9 (c6v h h1 h3)
theorem c0c{L:List Rec}{T:List Txn}{k:Nat}:∀n,k<n->1+und L 61 (T.getD k dz).Z<=tQ L T n
 |0,h=>absurd h (D0 k)
 |n+1,h=>by
  unfold tQ;by_cases e:k=n
  ·subst e;omega
  ·have:=c0c (L:=L) (T:=T) (k:=k) n Z9
   omega
theorem c4M{e:Eng}{tx:Int}{k:Nat}(h:R2 e=true)(M:M6 e)(u:e.up=true)(j:T7 e.X tx=k)(f:k<e.X.length)(hi:(e.X.getD k dz).id=tx):UI e k tx (e.X.getD k dz).Z:=by
 obtain⟨i,q,r,A⟩:=xF (u3 h).2.1;have l:=a9q h u f;have n:=c9k h u f;have o:=c09 h u;have d:=c0c (L:=e.s.L) (T:=e.X) e.X.length f;have d:1+und e.s.L 61 (e.X.getD k dz).Z<=nJ e:=d;have g:=(a2J (u3 h).1).1;exact⟨⟨c49 (u3 h).1 M.1,j,f,hi,Z9,l,c7o (u3 h).1,i,b6C A,Z9⟩,Z9,61,Z9,Z9⟩
def b0T(k:Nat):Option Ob:=some (.arr false 1000000 1 1 λ_=>[.ref k 0 0])
def fF(b:Bool):Option Ob:=some (.arr true 1000000 1 1 λ_=>[.bool b])
def qC(e:Eng)(k:Nat)(r:Rec)(lsn:Int)(v:Nat):(Eng×Nat)×Bool×Bool:=if r.l<=lsn then((e,v),true,false) else(((B1 e k r).1,bP e k r v),(B1 e k r).2,(B1 e k r).2)
def Eng.ux(e:Eng)(v:Nat)(lsn tx:Int)(b:Bool):X8:=[sL lsn,b0T 2,gO (e.tn 3 4 5 6 7 8 9 10),z9 e.s.d.E,D1 e.s.d.C,z8 e.s.d.keep,j5 e.s.L,wZ v e.s.fr e.s.fr.length,sQ e.X,yX e.lk.H,sT e.lk.W,sL tx,fF b]
def Eng.uy(e:Eng)(v:Nat)(lsn tx:Int)(b:Bool):X8:=[sL lsn,b0T 2,gO (e.tn 13 14 15 16 17 18 19 20),none,none,none,none,none,none,none,none,sL tx,fF b,z9 e.s.d.E,D1 e.s.d.C,z8 e.s.d.keep,j5 e.s.L,wZ v e.s.fr e.s.fr.length,sQ e.X,yX e.lk.H,sT e.lk.W]
def c1g:Con:=.reff ⟨Eng×Rec×Int×Int×Nat×Nat,λx=>[.agg x.2.1.ts,.ref 0 0 0,.ref 1 0 0,.ref 11 0 0,.ref 12 0 0],λx=>x.1.ux x.2.2.2.2.2 x.2.2.1 x.2.2.2.1 true,λx=>.bool (qC x.1 x.2.2.2.2.1 x.2.1 x.2.2.1 x.2.2.2.2.2).2.2,λx=>(qC x.1 x.2.2.2.2.1 x.2.1 x.2.2.1 x.2.2.2.2.2).1.1.uy (qC x.1 x.2.2.2.2.1 x.2.1 x.2.2.1 x.2.2.2.2.2).1.2 x.2.2.1 x.2.2.2.1 (qC x.1 x.2.2.2.2.1 x.2.1 x.2.2.1 x.2.2.2.2.2).2.1,
 λx=>x.2.2.1<x.2.1.l->(AddB x.1 x.2.2.2.1 x.2.2.2.2.1 (wX x.2.1)/\mB (E7 x.1 x.2.2.2.2.1 (wX x.2.1)).s (dO x.1 x.2.2.2.2.1 x.2.1))⟩
theorem b5n:GK 346 c1g:=gk func346<|by
 rintro⟨e,r,lsn,tx,k,v⟩ h;dsimp only at h;refine C4 (gC a5Z (gC a5g gN)) func346 Z3 [[.box 0,.box 1,.box 2,.arr 3,.arr 4,.arr 5,.arr 6,.arr 7,.arr 8,.arr 9,.arr 10,.box 11,.box 12,.cel 2 0,.cel 2 1,.cel 2 3,.cel 2 5,.cel 2 7,.cel 2 10,.cel 2 11,.cel 2 12]] (α:=let i:=(oo (lsn=lsn/\True));let c:=(0=0/\0=0);let q:=(qC e k r lsn v);bd (r.l<=lsn) ((false=q.2.2/\True)/\i/\(oo (c/\True))/\BxG e q.1.1/\T8 ((oo (tx=tx/\True))/\(oo (true=q.2.1/\True))/\vE (v) (q.1.2) e q.1.1)) (∃(x:(Eng×Int×Rec×Nat×Nat)),let f:=x.2.2.2;let m:=x.1.s;let y:=(x.1.X.getD f.1 dz);let u:=(x.1.X.set f.1 (Txn.mk y.id ((m.L.length:Int)+1)));let z:=x.2.2.1;let w:=(m.L++[P8 x.1.s (B7 x.1 f.1 z)]);((c/\tx=x.2.1/\(0=z.e/\0=z.l/\0=z.t/\3=z.k/\0=z.p/\r.p=z.n/\r.g=z.g/\r.s=z.s/\[]=z.b/\r.b=z.a/\True)/\True)/\(iM (v) (f.2) e x.1)/\AddB x.1 x.2.1 f.1 z)/\∃(X:(Sto×Rec×Nat)),let j:=(T9 X.1 X.2.1);((c/\(m.ep=X.2.1.e/\(m.L.length:Int)+1=X.2.1.l/\y.id=X.2.1.t/\z.k=X.2.1.k/\y.Z=X.2.1.p/\z.n=X.2.1.n/\z.g=X.2.1.g/\z.s=X.2.1.s/\z.b=X.2.1.b/\z.a=X.2.1.a/\True)/\True)/\(nN {x.1.s with L:=w} X.1/\(Z0 Z5 m.d.E X.1.d.E)/\(Z0 Z1 m.d.C X.1.d.C)/\(Z0 Y9 m.d.keep X.1.d.keep)/\(Z0 Y0 w X.1.L)/\(f.2=X.2.2/\m.fr.length=X.1.fr.length/\V2 m.fr.length (Y5 m.fr) (Y5 X.1.fr))/\True)/\mB X.1 X.2.1)/\(j.2=q.2.2/\True)/\i/\(oo (c/\True))/\BxG {x.1 with s:=j.1,X:=u} q.1.1/\T8 ((oo (tx=tx/\True))/\(oo (j.2=q.2.1/\True))/\vE (P7 X.1 X.2.1.g.toNat X.2.2) (q.1.2) {x.1 with s:=j.1,X:=u} q.1.1))) ⟨λhc=>?_,λhc=>?_⟩
 ·have f:qC e k r lsn v=((e,v),true,false):=if_pos (G5 hc);rw[f];exact Z7
 ·have hc:=r8 hc;obtain⟨hA,hP⟩:=h Z9
  have f:qC e k r lsn v=(((B1 e k r).1,bP e k r v),(B1 e k r).2,(B1 e k r).2):=if_neg hc;rw[f];exact⟨(e,tx,wX r,k,v),⟨Z7,Z7,hA⟩,((E7 e k (wX r)).s,dO e k r,v),⟨Z7,Z7,hP⟩,Z7⟩
def Eng.vx(e:Eng)(v:Nat)(lsn tx:Int):X8:=[gO (e.tn 1 2 3 4 5 6 7 8),z9 e.s.d.E,D1 e.s.d.C,z8 e.s.d.keep,j5 e.s.L,wZ v e.s.fr e.s.fr.length,sQ e.X,yX e.lk.H,sT e.lk.W,sL lsn,b0T 0,sL tx,fF true]
def Eng.vy(e:Eng)(v:Nat)(lsn tx:Int)(b:Bool):X8:=[gO (e.tn 13 14 15 16 17 18 19 20),none,none,none,none,none,none,none,none,sL lsn,b0T 0,sL tx,fF b,z9 e.s.d.E,D1 e.s.d.C,z8 e.s.d.keep,j5 e.s.L,wZ v e.s.fr e.s.fr.length,sQ e.X,yX e.lk.H,sT e.lk.W]
def c7G:Con:=.reff ⟨Eng×Int×Int×Int×Nat×Nat,λx=>[.ref 0 0 0,Ji x.2.1,.fn (.func 346) [.ref 9 0 0,.ref 10 0 0,.ref 11 0 0,.ref 12 0 0]],λx=>x.1.vx x.2.2.2.2.2 x.2.2.1 x.2.2.2.1,λ_=>.tup [],λx=>(G7 x.2.2.2.2.1 x.2.2.1 61 x.1 x.2.2.2.2.2 x.2.1).1.1.vy (G7 x.2.2.2.2.1 x.2.2.1 61 x.1 x.2.2.2.2.2 x.2.1).1.2 x.2.2.1 x.2.2.2.1 (G7 x.2.2.2.2.1 x.2.2.1 61 x.1 x.2.2.2.2.2 x.2.1).2,λx=>UI x.1 x.2.2.2.2.1 x.2.2.2.1 x.2.1/\0<=x.2.2.1⟩
structure UdI(u0:(Eng×Nat)×Bool)(k:Nat)(tx to:Int) where
 e:Eng
 v:Nat
 a:Int
 f:Nat
 h:UI e k tx a
 hf:a.toNat<f
 eq:G7 k to f e v a=u0
def c6r(e:Eng)(F lsn tx:Int)(k v:Nat):Nat->Ann
 |0=>.one (UdI (G7 k lsn 61 e v F) k tx lsn) (λx=>⟨[(0,.ref 0 0 0),(1,Ji x.a),(2,.fn (.func 346) [.ref 9 0 0,.ref 10 0 0,.ref 11 0 0,.ref 12 0 0])],x.e.vy x.v lsn tx true⟩) (λx=>x.f) a8S a8S (λ_=>Z3)
 |_=>.none
theorem c9W{k:Nat}{to a:Int}{f:Nat}{e:Eng}{v:Nat}(F:0<f)(d:(Y8 e.s.L a).k=3)(N:(Y8 e.s.L a).n<=a):G7 k to (f-1) e v (Y8 e.s.L a).n=G7 k to f e v a:=by
 by_cases h:a<=to
 ·rw[rY h,rY Z9]
 ·rw[a8d h F d]
theorem c9V{k:Nat}{to a:Int}{f:Nat}{e:Eng}{v:Nat}(F:0<f)(g:(Y8 e.s.L a).k≠3)(d:(Y8 e.s.L a).k≠2)(n:(Y8 e.s.L a).p<=a):G7 k to (f-1) e v (Y8 e.s.L a).p=G7 k to f e v a:=by
 by_cases h:a<=to
 ·rw[rY h,rY Z9]
 ·rw[a75 h F g d]
theorem c3A:GK 268 c7G:=gk func268<|by
 rintro⟨e,F,lsn,tx,k,v⟩ ⟨i,o⟩;dsimp only at i o;have j:=i.u.rm;have r:=i.ar;refine C4 (gC b5n gN) func268 (c6r e F lsn tx k v) [a8S] (α:=let c:=(oo (true=true/\True));let b:=(oo (tx=tx/\True));let g:=(oo (lsn=lsn/\True));let j:=(G7 k lsn 61 e v F);let z:=(0=0/\0=0);let m:=(oo (z/\True));let w:=(Fn.func 346=Fn.func 346/\z/\z/\z/\z/\True);(∃(x:UdI (G7 k lsn 61 e v F) k tx lsn),(z/\F=x.a/\w/\True)/\BxG e x.e/\T8 (g/\m/\b/\c/\vE (v) (x.v) e x.e))/\∀(x:UdI (G7 k lsn 61 e v F) k tx lsn),let i:=x.e.s;let u:=((True/\True)/\BxG x.e j.1.1/\T8 (g/\m/\b/\(oo (true=j.2/\True))/\vE (x.v) (j.1.2) x.e j.1.1));let r:=(i.L.getD (0+(x.a-1).toNat) dz);bd (x.a>0) (Ri (x.a-1)/\W9 (x.a-1) i.L.length/\Lt (0+(x.a-1).toNat) i.L.length/\br (r.k==3) (∃(y:UdI (G7 k lsn 61 e v F) k tx lsn),((z/\r.n=y.a/\w/\True)/\BxG x.e y.e/\T8 (g/\m/\b/\c/\vE (x.v) (y.v) x.e y.e))/\Lt y.f x.f) (∃(X:(Eng×Rec×Int×Int×Nat×Nat)),let pa:=(oo (X.2.2.1=lsn/\True));let t:=(oo (X.2.2.2.1=tx/\True));let q:=(qC X.1 X.2.2.2.2.1 X.2.1 X.2.2.1 X.2.2.2.2.2);((r.k==2)=true->((EqR r X.2.1)/\z/\z/\z/\z/\True)/\((1=1/\Z8 1 (λ(x:Nat)=>[Ji lsn]) λ(x:Nat)=>[Ji X.2.2.1])/\m/\BxG x.e X.1/\(Z0 Z5 i.d.E X.1.s.d.E)/\(Z0 Z1 i.d.C X.1.s.d.C)/\(Z0 Y9 i.d.keep X.1.s.d.keep)/\(Z0 Y0 i.L X.1.s.L)/\(x.v=X.2.2.2.2.2/\i.fr.length=X.1.s.fr.length/\V2 i.fr.length (Y5 i.fr) (Y5 X.1.s.fr))/\(Z0 X2 x.e.X X.1.X)/\(Z0 Z2 x.e.lk.H X.1.lk.H)/\(Z0 Y7 x.e.lk.W X.1.lk.W)/\(1=1/\Z8 1 (λ(x:Nat)=>[Ji tx]) λ(x:Nat)=>[Ji X.2.2.2.1])/\(1=1/\Z8 1 (λ(x:Nat)=>[T.bool true]) λ(x:Nat)=>[T.bool true])/\True)/\(X.2.2.1<X.2.1.l->AddB X.1 X.2.2.2.1 X.2.2.2.2.1 (wX X.2.1)/\mB (apx X.1.s (B7 X.1 X.2.2.2.2.1 (wX X.2.1))) (dO X.1 X.2.2.2.2.1 X.2.1)))/\((r.k==2)=true->br (r.k==2&& ! q.2.2) ((True/\True)/\BxG q.1.1 j.1.1/\T8 (pa/\m/\t/\(oo (q.2.1=j.2/\True))/\vE (q.1.2) (j.1.2) q.1.1 j.1.1)) (∃(y:UdI (G7 k lsn 61 e v F) k tx lsn),((z/\r.p=y.a/\w/\True)/\BxG q.1.1 y.e/\T8 (pa/\m/\t/\(oo (q.2.1=true/\True))/\vE (q.1.2) (y.v) q.1.1 y.e))/\Lt y.f x.f))/\(((r.k==2)=true->False)->br (r.k==2&& ! q.2.2) u (∃(y:UdI (G7 k lsn 61 e v F) k tx lsn),((z/\r.p=y.a/\w/\True)/\BxG x.e y.e/\T8 (g/\m/\b/\c/\vE (x.v) (y.v) x.e y.e))/\Lt y.f x.f)))) u) ⟨⟨⟨e,v,F,61,i,Z9,rfl⟩,Z7⟩,λx=>?_⟩
 obtain⟨e',v',a,f,h,C,q⟩:=x;dsimp only;have j:=h.u.rm;have r:=h.ar;refine⟨λhc=>?_,λhc=>?_⟩
 ·have h1:1<=a:=by have:=G5 hc;omega
  obtain⟨J,L⟩:=h.u.si.logP.at h1 r.2;obtain⟨I,B,t,z⟩:=h.u.si.logP.prev h1 r.2;rw[D2];refine⟨Z4 Z9,⟨Z9,Z9⟩,Q1,λg=>?_,λg=>?_⟩
  ·have g:(Y8 e'.s.L a).k=3:=beq_iff_eq.1 g;exact⟨⟨e',v',(Y8 e'.s.L a).n,f-1,c6Z h h1 g,Z9,(c9W Z9 g Z9).trans q⟩,Z7,J7⟩
  ·have g:(Y8 e'.s.L a).k≠3:=λe=>by
    have g:((Y8 e'.s.L a).k==3)=false:=g;rw[e] at g;cases g
   refine⟨(e',Y8 e'.s.L a,lsn,tx,k,v'),λh2=>⟨Z7,Z7,λ_=>?_⟩,λh2=>⟨λhq=>?_,λhq=>?_⟩,λh2=>⟨λhq=>?_,λhq=>?_⟩⟩
   ·have h2:(Y8 e'.s.L a).k=2:=beq_iff_eq.1 h2;obtain⟨R,A,_⟩:=a9S h.u h1 r.2 h2;exact⟨(a4q h.u R).1,A⟩
   ·have h2:(Y8 e'.s.L a).k=2:=beq_iff_eq.1 h2;by_cases ht:a<=lsn
    ·have e0:qC e' k (Y8 e'.s.L a) lsn v'=((e',v'),true,false):=if_pos Z9
     dsimp only;rw[e0,←q,rY ht];exact Z7
    ·have e0:qC e' k (Y8 e'.s.L a) lsn v'=(((B1 e' k (Y8 e'.s.L a)).1,bP e' k (Y8 e'.s.L a) v'),(B1 e' k (Y8 e'.s.L a)).2,(B1 e' k (Y8 e'.s.L a)).2):=if_neg Z9
     have U:(B1 e' k (Y8 e'.s.L a)).2=false:=by
      have hq:((Y8 e'.s.L a).k==2&& !(qC e' k (Y8 e'.s.L a) lsn v').2.2)=true:=hq;rw[e0,h2] at hq
      simpa using hq
     dsimp only;rw[e0,←q,a6f ht Z9 h2 U]
     exact⟨Z7,Z7,Z6,Z6,Z6,Z6,Z6,Z6,Z6,Z6,Z7,Z7,Z7,⟨rfl,rfl,U,Z6⟩,Z7⟩
   ·have h2:(Y8 e'.s.L a).k=2:=beq_iff_eq.1 h2;have hq:((Y8 e'.s.L a).k==2&& !(qC e' k (Y8 e'.s.L a) lsn v').2.2)=false:=hq;by_cases ht:a<=lsn
    ·have e0:qC e' k (Y8 e'.s.L a) lsn v'=((e',v'),true,false):=if_pos Z9
     rw[e0,h2] at hq;cases hq
    ·have e0:qC e' k (Y8 e'.s.L a) lsn v'=(((B1 e' k (Y8 e'.s.L a)).1,bP e' k (Y8 e'.s.L a) v'),(B1 e' k (Y8 e'.s.L a)).2,(B1 e' k (Y8 e'.s.L a)).2):=if_neg Z9
     have U:(B1 e' k (Y8 e'.s.L a)).2=true:=by
      rw[e0,h2] at hq
      simpa using hq
     dsimp only;rw[e0];exact⟨⟨(B1 e' k (Y8 e'.s.L a)).1,bP e' k (Y8 e'.s.L a) v',(Y8 e'.s.L a).p,f-1,a9j h h1 h2 U,Z9,(a8V ht Z9 h2 U).symm.trans q⟩,⟨Z7,Z7,Z6,Z6,Z6,Z6,Z6,Z6,Z6,Z6,Z7,Z7,Z7,⟨rfl,rfl,U,Z6⟩,Z7⟩,J7⟩
   ·have h2:((Y8 e'.s.L a).k==2)=true->False:=h2;have hq:((Y8 e'.s.L a).k==2&& !(qC e' k (Y8 e'.s.L a) lsn v').2.2)=true:=hq;simp only[J4] at hq;exact absurd hq.1 h2
   ·have h2:(Y8 e'.s.L a).k≠2:=λe=>h2 (beq_iff_eq.2 e)
    exact⟨⟨e',v',(Y8 e'.s.L a).p,f-1,c6v h h1 g,Z9,(c9V Z9 g h2 Z9).trans q⟩,Z7,J7⟩
 ·have ha:a<=lsn:=by have:=r8 hc;omega
  rw[←q,rY ha];exact Z7
def Q8(e:Eng)(k:Nat)(lsn:Int):(Eng×Nat)×Bool:=G7 k lsn 61 e 0 (e.X.getD k dz).Z
def u5(e:Eng)(k:Nat)(lsn:Int):(Eng×Nat)×Int:=if(Q8 e k lsn).2=true then((Q8 e k lsn).1,0) else((j7 (Q8 e k lsn).1.1,0),15)
theorem b1d{e:Eng}{k:Nat}{tx lsn:Int}(h:UI e k tx (e.X.getD k dz).Z)(d:0<=lsn):c0z (Q8 e k lsn) k tx:=by
 have:=h.ar;have:=h.u.rm;exact a9B d 61 e 0 _ Z9 h
theorem a0P{e:Eng}{k:Nat}{lsn:Int}(h:(Q8 e k lsn).2=true):u5 e k lsn=((Q8 e k lsn).1,0):=if_pos h
theorem a0E{e:Eng}{k:Nat}{lsn:Int}(h:(Q8 e k lsn).2=false):u5 e k lsn=((j7 (Q8 e k lsn).1.1,0),15):=if_neg cY
theorem b7D{e:Eng}{k:Nat}{lsn:Int}(h:(u5 e k lsn).2=0):(Q8 e k lsn).2=true:=by
 cases u:(Q8 e k lsn).2 with
 |true=>rfl
 |false=>rw[a0E u] at h;cases h
def c6R:Con:=.reff ⟨Eng×Int×Int×Nat,λx=>[.ref 0 0 0,Ji x.2.1,Ji x.2.2.1],λx=>x.1.bx 0,λx=>Ji (u5 x.1 x.2.2.2 x.2.2.1).2,λx=>(u5 x.1 x.2.2.2 x.2.2.1).1.1.nx (u5 x.1 x.2.2.2 x.2.2.1).1.2,λx=>UI x.1 x.2.2.2 x.2.1 (x.1.X.getD x.2.2.2 dz).Z/\0<=x.2.2.1⟩
theorem c2R:GK 292 c6R:=gk func292<|by
 rintro⟨e,tx,lsn,k⟩ ⟨h,f⟩;dsimp only at h f;have A:=h.u.at_;have g:=h.u.lt;have t:=h.u.t10;have R:=b1d h f;refine C4 (gC qS (gC c3A (gC a98 gN))) func292 Z3 aW (α:=let r:=(0=0/\0=0);let q:=(u5 e k lsn);∃(x:(Eng×Int)),let z:=(T7 x.1.X x.2);((LeG e)/\((oL e x.1)/\tx=x.2/\True)/\L8 x.1.X.length)/\W9 z e.X.length/\Lt (0+z.toNat) e.X.length/\∃(X:(Eng×Int×Int×Int×Nat×Nat)),let p:=(G7 X.2.2.2.2.1 X.2.2.1 61 X.1 X.2.2.2.2.2 X.2.1);((r/\(e.X.getD (0+z.toNat) dz).Z=X.2.1/\(Fn.func 346=Fn.func 346/\r/\r/\r/\r/\True)/\True)/\(BxG e X.1/\(Z0 Z5 e.s.d.E X.1.s.d.E)/\(Z0 Z1 e.s.d.C X.1.s.d.C)/\(Z0 Y9 e.s.d.keep X.1.s.d.keep)/\(Z0 Y0 e.s.L X.1.s.L)/\(0=X.2.2.2.2.2/\e.s.fr.length=X.1.s.fr.length/\V2 e.s.fr.length (Y5 e.s.fr) (Y5 X.1.s.fr))/\(Z0 X2 e.X X.1.X)/\(Z0 Z2 e.lk.H X.1.lk.H)/\(Z0 Y7 e.lk.W X.1.lk.W)/\(1=1/\Z8 1 (λ(x:Nat)=>[Ji lsn]) λ(x:Nat)=>[Ji X.2.2.1])/\(oo (r/\True))/\(1=1/\Z8 1 (λ(x:Nat)=>[Ji tx]) λ(x:Nat)=>[Ji X.2.2.2.1])/\(1=1/\Z8 1 (setRow (λ(x:Nat)=>[T.bool false]) 0 0 [T.bool true]) λ(x:Nat)=>[T.bool true])/\True)/\UI X.1 X.2.2.2.2.1 X.2.2.2.1 X.2.1/\0<=X.2.2.1)/\br (! p.2) (∃(x:(Eng×Nat)),((r/\True)/\(iM (p.1.2) (x.2) p.1.1 x.1)/\F8 x.1.s.d)/\(15=q.2/\True)/\lO (0) (q.1.2) (j7 x.1) q.1.1) ((0=q.2/\True)/\lO (p.1.2) (q.1.2) p.1.1 q.1.1)) ⟨(e,tx),⟨Z7,Z7,rT⟩,?_⟩
 dsimp only;rw[A,D8,D2];refine⟨Y6 g,g,(e,(e.X.getD k dz).Z,lsn,tx,k,0),⟨Z7,⟨Z7,Z7,Z7,Z7,Z7,Z7,Z7,Z7,Z7,Z7,Z7,Z7,⟨rfl,λi hi=>by match i,hi with|0,_=>rfl⟩,Z6⟩,h,f⟩,λhy=>?_,λhy=>?_⟩
 ·have hy:(!(Q8 e k lsn).2)=true:=hy;have hy:(Q8 e k lsn).2=false:=by simpa using hy
  rw[a0E hy];exact⟨((Q8 e k lsn).1.1,(Q8 e k lsn).1.2),⟨Z7,Z7,(R.2 hy).1⟩,Z7⟩
 ·have hy:(!(Q8 e k lsn).2)=false:=hy;have hy:(Q8 e k lsn).2=true:=by simpa using hy
  rw[a0P hy];exact Z7
def pX:Rec:=⟨0,0,0,5,0,0,0,0,[],[]⟩
def I5(e:Eng)(k:Nat):(Eng×Nat)×Int:=if(u5 e k 0).2=0 then((b2i (E7 (u5 e k 0).1.1 k pX) k,(u5 e k 0).1.2),0) else((u5 e k 0).1,(u5 e k 0).2)
theorem c4B{e:Eng}{k:Nat}{tx:Int}(h:UE e k tx):a3F e k pX:=by
 unfold a3F pX;dsimp only;exact⟨Z9,Z9,Z9,Z9,λ_=>rfl,λ_ _=>Z7,Z9,Z9,Z9,Z9,Z9,Z9,M3,M3,λ_=>rfl,h.lt⟩
theorem b6s{e:Eng}{k:Nat}(h:¬ (u5 e k 0).2=0):I5 e k=((u5 e k 0).1,(u5 e k 0).2):=if_neg h
theorem b5A{e:Eng}{k:Nat}(h:(u5 e k 0).2=0):I5 e k=((b2i (E7 (Q8 e k 0).1.1 k pX) k,(Q8 e k 0).1.2),0):=by
 unfold I5;rw[if_pos h,a0P (b7D h)]
def c0A:Con:=.reff ⟨Eng×Int×Nat,λx=>[.ref 0 0 0,Ji x.2.1],λx=>x.1.bx 0,λx=>Ji (I5 x.1 x.2.2).2,λx=>(I5 x.1 x.2.2).1.1.nx (I5 x.1 x.2.2).1.2,λx=>UI x.1 x.2.2 x.2.1 (x.1.X.getD x.2.2 dz).Z⟩
theorem b9F:GK 212 c0A:=gk func212<|by
 rintro⟨e,tx,k⟩ U;dsimp only at U;have R:=b1d U (Int.le_refl 0);refine C4 (gC c2R (gC a5Z (gC c2w gN))) func212 Z3 aW (α:=let w:=(0=0/\0=0);∃(x:(Eng×Int×Int×Nat)),let j:=x.2.2;let q:=(u5 x.1 j.2 j.1);((w/\tx=x.2.1/\0=j.1/\True)/\(iM (0) (0) e x.1)/\UI x.1 j.2 x.2.1 (x.1.X.getD j.2 dz).Z/\0<=j.1)/\br (q.2 !=0) ((q.2=(I5 e k).2/\True)/\lO (q.1.2) ((I5 e k).1.2) q.1.1 (I5 e k).1.1) (∃(X:(Eng×Int×Rec×Nat×Nat)),((w/\tx=X.2.1/\(0=X.2.2.1.e/\0=X.2.2.1.l/\0=X.2.2.1.t/\5=X.2.2.1.k/\0=X.2.2.1.p/\0=X.2.2.1.n/\0=X.2.2.1.g/\0=X.2.2.1.s/\[]=X.2.2.1.b/\[]=X.2.2.1.a/\True)/\True)/\(iM (q.1.2) (X.2.2.2.2) q.1.1 X.1)/\AddB X.1 X.2.1 X.2.2.2.1 X.2.2.1)/\∃(x:(Eng×Int×Nat×Nat)),let m:=x.2.2;let y:=x.1.s;let z:=(List.take m.1 x.1.X++List.drop (m.1+1) x.1.X);let r:=(x.1.X.getD m.1 dz).id;let v:=(X7 (wF r) x.1.lk.W x.1.lk.W.length);let u:=(X7 (hF r) x.1.lk.H x.1.lk.H.length);((w/\tx=x.2.1/\True)/\(iM (X.2.2.2.2) (m.2) {X.1 with s:={X.1.s with L:=(X.1.s.L++[P8 X.1.s (B7 X.1 X.2.2.2.1 X.2.2.1)])},X:=(X.1.X.set X.2.2.2.1 (Txn.mk (X.1.X.getD X.2.2.2.1 dz).id ((X.1.s.L.length:Int)+1)))} x.1)/\OvB x.1 x.2.1 m.1)/\(0=(I5 e k).2/\True)/\BxG {x.1 with X:=z,lk:=⟨u,v⟩} (I5 e k).1.1/\T8 ((Z0 Z5 y.d.E (I5 e k).1.1.s.d.E)/\(Z0 Z1 y.d.C (I5 e k).1.1.s.d.C)/\(Z0 Y9 y.d.keep (I5 e k).1.1.s.d.keep)/\(Z0 Y0 y.L (I5 e k).1.1.s.L)/\(m.2=(I5 e k).1.2/\y.fr.length=(I5 e k).1.1.s.fr.length/\V2 y.fr.length (Y5 y.fr) (Y5 (I5 e k).1.1.s.fr))/\(Z0 X2 z (I5 e k).1.1.X)/\(Z0 Z2 u (I5 e k).1.1.lk.H)/\(Z0 Y7 v (I5 e k).1.1.lk.W)/\True))) ⟨(e,tx,0,k),⟨Z7,Z7,U,Int.le_refl _⟩,λhq=>?_,λhq=>?_⟩
 ·have h0:¬ (u5 e k 0).2=0:=by simpa using hq
  rw[b6s h0];exact Z7
 ·have h0:(u5 e k 0).2=0:=by simpa using hq
  have u:=b7D h0;have h:=R.1 u;have A:=(a4q h (c4B h)).1;have f:=h.lk;have i:=h.t10;rw[b5A h0];dsimp only;rw[a0P u];have N:(E7 (Q8 e k 0).1.1 k pX).X.length=(Q8 e k 0).1.1.X.length:=zV;exact⟨((Q8 e k 0).1.1,tx,pX,k,(Q8 e k 0).1.2),⟨Z7,Z7,A⟩,(E7 (Q8 e k 0).1.1 k pX,tx,k,(Q8 e k 0).1.2),⟨Z7,Z7,a0t h.lt h.at_,by dsimp only;rw[N];exact h.lt,(b0K h.lt).trans h.id,X5,by show(Q8 e k 0).1.1.lk.H.length<=_;omega,by show(Q8 e k 0).1.1.lk.W.length<=_;omega⟩,⟨rfl,Z6⟩,⟨rfl,rfl,⟨rfl,rfl⟩,⟨rfl,rfl⟩,rfl,⟨rfl,rfl⟩,rfl,⟨rfl,rfl⟩,rfl,⟨rfl,rfl⟩,rfl,rfl,⟨rfl,rfl⟩,⟨rfl,rfl⟩,⟨rfl,rfl⟩,rfl,Z6⟩,Z6,Z6,Z6,Z6,Z6,Z6,Z6,Z6,⟨rfl,X6 _ _⟩,⟨rfl,X6 _ _⟩,⟨rfl,X6 _ _⟩,⟨rfl,X6 _ _⟩,⟨rfl,rfl,mT _⟩,⟨rfl,X6 _ _⟩,⟨rfl,X6 _ _⟩,⟨rfl,X6 _ _⟩,Z6⟩
theorem uQ{a:Bool}(h:(!a)=true):a=false:=by cases a with|true=>cases h|false=>rfl
theorem c45{e:Eng}{k:Nat}{tx:Int}(h:UE e k tx):M6 e:=by
 have d:=h.t10;have f:=h.lk;exact⟨h.si.iv.sm,Z9,Z9,Z9⟩
theorem c6F{e:Eng}{k:Nat}{tx lsn:Int}(R:c0z (Q8 e k lsn) k tx):M6 (u5 e k lsn).1.1:=by
 cases h:(Q8 e k lsn).2 with
 |true=>rw[a0P h];exact c45 (R.1 h)
 |false=>rw[a0E h];exact a1g (R.2 h).1
theorem c7v{e:Eng}{k:Nat}{tx:Int}(hR:c0z (Q8 e k 0) k tx):M6 (I5 e k).1.1:=by
 by_cases h0:(u5 e k 0).2=0
 ·have hE:=hR.1 (b7D h0);have hA:=a4q hE (c4B hE);have hS:=a8A hE.si hA.2 hE.rm;have h10:=hE.t10;have hlk:=hE.lk;rw[b5A h0];have b1:=o9 (hF ((E7 (Q8 e k 0).1.1 k pX).X.getD k dz).id) (Q8 e k 0).1.1.lk.H (Q8 e k 0).1.1.lk.H.length;have b2:=o9 (wF ((E7 (Q8 e k 0).1.1 k pX).X.getD k dz).id) (Q8 e k 0).1.1.lk.W (Q8 e k 0).1.1.lk.W.length;have hlen:(E7 (Q8 e k 0).1.1 k pX).X.length=(Q8 e k 0).1.1.X.length:=zV;refine⟨hS.iv.sm,?_,?_,?_⟩
  ·show(List.take k (E7 (Q8 e k 0).1.1 k pX).X++List.drop (k+1) (E7 (Q8 e k 0).1.1 k pX).X).length<=_;rw[F7,List.length_take,List.length_drop,hlen];omega
  ·show(X7 _ (Q8 e k 0).1.1.lk.H (Q8 e k 0).1.1.lk.H.length).length<=_;omega
  ·show(X7 _ (Q8 e k 0).1.1.lk.W (Q8 e k 0).1.1.lk.W.length).length<=_;omega
 ·rw[b6s h0];exact c6F hR
theorem b85:M6 uT:=⟨⟨Z7,N7 _,N7 _,λi hi=>absurd hi (D0 _)⟩,Z7⟩
def c6p:Con:=.rel ⟨Eng×Nat×Int×Int,λx=>[.agg x.1.ts,Ji x.2.1,Ji x.2.2.1],λx=>.tup [.agg (Q8 x.1 x.2.1 x.2.2.1).1.1.ts,.bool (Q8 x.1 x.2.1 x.2.2.1).2],λx=>UI x.1 x.2.1 x.2.2.2 (x.1.X.getD x.2.1 dz).Z/\0<=x.2.2.1⟩
def c5C(e:Eng)(k:Nat)(to tx:Int):Nat->Ann
 |0=>.one (UdI (Q8 e k to) k tx to) (λx=>⟨[(1,Ji k),(2,Ji to),(3,.ref 0 0 0),(6,.ref 1 0 0),(7,.bool false),(8,Ji x.a)],[l7 x.e,l7 uT]⟩) (λx=>x.f) iQ iQ (λ_=>Z3)
 |_=>.none
theorem c3n(e:Eng)(k:Nat)(r:Rec):(E7 e k (wX r)).s.L.getD (((e.s.L.length+1:Nat):Int)-1).toNat dz=dO e k r:=by
 have d:(((e.s.L.length+1:Nat):Int)-1).toNat=e.s.L.length:=Z9
 rw[d,P3]
 show((e.s.L++[dO e k r])[e.s.L.length]?).getD dz=_;rw[List.getElem?_concat_length]
 rfl
theorem c3Q:GK 263 c6p:=gk func263<|by
 rintro⟨e,k,to,tx⟩ ⟨U,r⟩;dsimp only at U r;have har:=U.ar;have M:=U.u.rm;refine U5 (gC a1H (gC jL (gC P5 gN))) func263 (c5C e k to tx) (α:=let w:=(Q8 e k to);let v:=(0=0/\0=0);let q:=(oo ((0=0/\Z8 0 (Z5 []) (Z5 []))/\(0=0/\Z8 0 (Z1 []) (Z1 []))/\false=false/\(0=0/\Z8 0 (Y9 []) (Y9 []))/\(0:Int)=0/\(0=0/\Z8 0 (Y0 []) (Y0 []))/\(0:Int)=0/\(0=0/\Z8 0 (V9 []) (V9 []))/\(0:Int)=0/\false=false/\(0=0/\Z8 0 (X2 []) (X2 []))/\(0=0/\Z8 0 (Z2 []) (Z2 []))/\(0=0/\Z8 0 (Y7 []) (Y7 []))/\(0:Int)=0/\True));W9 (k:Int) e.X.length/\(∃(x:UdI (Q8 e k to) k tx to),((k:Int)=(k:Int)/\to=to/\v/\v/\false=false/\(e.X.getD (k:Int).toNat dz).Z=x.a/\True)/\(oo (K9 e x.e))/\(oo (0=0/\0=0/\false=false/\0=0/\(0:Int)=0/\0=0/\(0:Int)=0/\0=0/\(0:Int)=0/\false=false/\0=0/\0=0/\0=0/\(0:Int)=0/\True))/\True)/\∀(x:UdI (Q8 e k to) k tx to),let r:=(x.e.s.L.getD (x.a-1).toNat dz);bd (x.a>to) (Ri (x.a-1)/\W9 (x.a-1) x.e.s.L.length/\br (r.k==3) (∃(y:UdI (Q8 e k to) k tx to),(((k:Int)=(k:Int)/\to=to/\v/\v/\false=false/\r.n=y.a/\True)/\(oo (K9 x.e y.e))/\q/\True)/\Lt y.f x.f) (br (r.k==2) (∃(X:(Eng×Nat×Rec)),let z:=(X.1.X.set X.2.1 (Txn.mk (X.1.X.getD X.2.1 dz).id ((X.1.s.L.length:Int)+1)));(((K9 x.e X.1)/\(k:Int)=(X.2.1:Int)/\(0=X.2.2.e/\0=X.2.2.l/\0=X.2.2.t/\3=X.2.2.k/\0=X.2.2.p/\r.p=X.2.2.n/\r.g=X.2.2.g/\r.s=X.2.2.s/\[]=X.2.2.b/\r.b=X.2.2.a/\True)/\True)/\X.2.1<X.1.X.length/\X.1.X.length<=1000/\X.1.s.L.length<=1000)/\∃(d:(Sto×Int)),let u:=(T9 d.1 (d.1.L.getD (d.2-1).toNat dz));(((yR {X.1.s with L:=(X.1.s.L++[P8 X.1.s (B7 X.1 X.2.1 X.2.2)])} d.1)/\(↑(X.1.s.L.length+1):Int)=d.2/\True)/\SInv d.1/\1<=d.2/\d.2<=(d.1.L.length:Int))/\br (! u.2) ((K9 {X.1 with s:=u.1,X:=z} w.1.1)/\false=w.2/\True) (∃(y:UdI (Q8 e k to) k tx to),(((k:Int)=(k:Int)/\to=to/\v/\v/\false=false/\r.p=y.a/\True)/\(oo (K9 {X.1 with s:=u.1,X:=z} y.e))/\q/\True)/\Lt y.f x.f)) (∃(y:UdI (Q8 e k to) k tx to),(((k:Int)=(k:Int)/\to=to/\v/\v/\false=false/\r.p=y.a/\True)/\(oo (K9 x.e y.e))/\q/\True)/\Lt y.f x.f))) ((K9 x.e w.1.1)/\true=w.2/\True)) ⟨Y6 U.u.lt,⟨⟨e,0,(e.X.getD k dz).Z,61,U,Z9,rfl⟩,Z7⟩,λx=>?_⟩
 obtain⟨e',V,a,f,h,F,q⟩:=x;dsimp only;have o:=h.u.rm;have har:=h.ar;refine⟨λhc=>?_,λhc=>?_⟩
 ·have h1:1<=a:=by have:=G5 hc;omega
  have j:¬a<=to:=by have:=G5 hc;omega
  obtain⟨I,C,A,B⟩:=h.u.si.logP.prev h1 har.2;refine⟨Z4 Z9,⟨Z9,Z9⟩,λi=>?_,λi=>⟨λh2=>?_,λh2=>?_⟩⟩
  ·have i:(Y8 e'.s.L a).k=3:=beq_iff_eq.1 i;exact⟨⟨e',V,(Y8 e'.s.L a).n,f-1,c6Z h h1 i,Z9,(a8d j Z9 i).symm.trans q⟩,Z7,J7⟩
  ·have h2:(Y8 e'.s.L a).k=2:=beq_iff_eq.1 h2;obtain⟨hR,hA,hb,hS⟩:=a9S h.u h1 har.2 h2;have e1:=c3n e' k (Y8 e'.s.L a);refine⟨(e',k,wX (Y8 e'.s.L a)),⟨Z7,h.u.lt,by have:=h.u.t10;dsimp only;omega,X5⟩,((E7 e' k (wX (Y8 e'.s.L a))).s,((e'.s.L.length+1:Nat):Int)),⟨⟨jR (E7 e' k (wX (Y8 e'.s.L a))).s,rfl,Z6⟩,hS.iv,X5,by rw[sF];exact Int.le_refl _⟩,λhu=>?_,λhu=>?_⟩
   ·dsimp only at hu ⊢;rw[e1] at hu ⊢;have hu:(B1 e' k (Y8 e'.s.L a)).2=false:=by
     have hu:(!(B1 e' k (Y8 e'.s.L a)).2)=true:=hu
     simpa using hu
    have z:=(a6f (v:=V) j Z9 h2 hu).symm.trans q
    rw[←z];exact⟨vQ (B1 e' k (Y8 e'.s.L a)).1,Z7⟩
   ·dsimp only at hu ⊢;rw[e1] at hu ⊢;have hu:(B1 e' k (Y8 e'.s.L a)).2=true:=by
     have hu:(!(B1 e' k (Y8 e'.s.L a)).2)=false:=hu
     simpa using hu
    exact⟨⟨(B1 e' k (Y8 e'.s.L a)).1,bP e' k (Y8 e'.s.L a) V,(Y8 e'.s.L a).p,f-1,a9j h h1 h2 hu,Z9,(a8V j Z9 h2 hu).symm.trans q⟩,⟨Z7,⟨rfl,rfl,vQ (B1 e' k (Y8 e'.s.L a)).1⟩,Z7⟩,J7⟩
  ·have i:(Y8 e'.s.L a).k≠3:=λe=>by
    have i:((Y8 e'.s.L a).k==3)=false:=i;rw[e] at i;cases i
   have h2:(Y8 e'.s.L a).k≠2:=λe=>by
    have h2:((Y8 e'.s.L a).k==2)=false:=h2;rw[e] at h2;cases h2
   exact⟨⟨e',V,(Y8 e'.s.L a).p,f-1,c6v h h1 i,Z9,(a75 j Z9 i h2).symm.trans q⟩,Z7,J7⟩
 ·have ha:a<=to:=by have:=r8 hc;omega
  rw[←q,rY ha];exact Z7
def c5F:Con:=.rel ⟨Eng×Nat×Int,λx=>[.agg x.1.ts,Ji x.2.1],λx=>.tup [.agg (I5 x.1 x.2.1).1.1.ts,.bool ((I5 x.1 x.2.1).2==0)],λx=>UI x.1 x.2.1 x.2.2 (x.1.X.getD x.2.1 dz).Z⟩
theorem c4e:GK 166 c5F:=gk func166<|by
 rintro⟨e,k,tx⟩ U;dsimp only at U;have R:=b1d U (Int.le_refl 0);refine U5 (gC c3Q (gC a1H (gC oF (gC a8G gN)))) func166 Z3 (α:=∃(x:(Eng×Nat×Int×Int)),let q:=(Q8 x.1 x.2.1 x.2.2.1);(((K9 e x.1)/\(k:Int)=(x.2.1:Int)/\0=x.2.2.1/\True)/\UI x.1 x.2.1 x.2.2.2 (x.1.X.getD x.2.1 dz).Z/\0<=x.2.2.1)/\br (! q.2) (∃(X:(Eng×Dsk)),(((K9 q.1.1 X.1)/\(zI q.1.1.s.d X.2)/\True)/\F8 X.2/\X.2.E.length=69)/\(K9 (j7 (sdE X.1 X.2)) (I5 e k).1.1)/\false=((I5 e k).2==0)/\True) (∃(X:(Eng×Nat×Rec)),(((K9 q.1.1 X.1)/\(k:Int)=(X.2.1:Int)/\(0=X.2.2.e/\0=X.2.2.l/\0=X.2.2.t/\5=X.2.2.k/\0=X.2.2.p/\0=X.2.2.n/\0=X.2.2.g/\0=X.2.2.s/\[]=X.2.2.b/\[]=X.2.2.a/\True)/\True)/\X.2.1<X.1.X.length/\X.1.X.length<=1000/\X.1.s.L.length<=1000)/\∃(x:(Eng×Nat)),let z:=x.1.lk;let r:=(x.1.X.getD x.2 dz).id;(((K9 {X.1 with s:={X.1.s with L:=(X.1.s.L++[P8 X.1.s (B7 X.1 X.2.1 X.2.2)])},X:=(X.1.X.set X.2.1 (Txn.mk (X.1.X.getD X.2.1 dz).id ((X.1.s.L.length:Int)+1)))} x.1)/\(k:Int)=(x.2:Int)/\True)/\x.2<x.1.X.length/\x.1.X.length<=1000/\z.H.length<=1000000/\z.W.length<=1000000)/\(K9 {x.1 with X:=(List.take x.2 x.1.X++List.drop (x.2+1) x.1.X),lk:=⟨(X7 (hF r) z.H z.H.length),(X7 (wF r) z.W z.W.length)⟩} (I5 e k).1.1)/\true=((I5 e k).2==0)/\True)) ⟨(e,k,0,tx),⟨Z7,U,Int.le_refl _⟩,λhq=>?_,λhq=>?_⟩
 ·have hu:(Q8 e k 0).2=false:=by simpa using hq
  have f:I5 e k=((j7 (Q8 e k 0).1.1,0),15):=by rw[b6s (by rw[a0E hu];simp),a0E hu]
  rw[f];exact⟨((Q8 e k 0).1.1,(Q8 e k 0).1.1.s.d),⟨⟨vQ (Q8 e k 0).1.1,Z7⟩,(R.2 hu).1,(R.2 hu).2⟩,Z7⟩
 ·have hu:(Q8 e k 0).2=true:=by simpa using hq
  have h:=R.1 hu;have i:=h.lt;have j:=h.t10;have o:=h.rm;have q:=h.lk;have r:=sF (Q8 e k 0).1.1 k pX;have L:((Q8 e k 0).1.1.X.set k ⟨((Q8 e k 0).1.1.X.getD k dz).id,((Q8 e k 0).1.1.s.L.length:Int)+1⟩).length=(Q8 e k 0).1.1.X.length:=zV;rw[b5A (by rw[a0P hu])]
  exact⟨((Q8 e k 0).1.1,k,pX),⟨⟨vQ (Q8 e k 0).1.1,Z7⟩,i,X5,X5⟩,(E7 (Q8 e k 0).1.1 k pX,k),⟨Z7,by show k<List.length (List.set _ _ _);omega,by show List.length (List.set _ _ _)<=_;omega,by show(Q8 e k 0).1.1.lk.H.length<=_;omega,by show(Q8 e k 0).1.1.lk.W.length<=_;omega⟩,vQ (b2i (E7 (Q8 e k 0).1.1 k pX) k),rfl,Z6⟩
theorem c8n(e:Eng)(k:Nat)(lsn:Int):(u5 e k lsn).2=0∨(u5 e k lsn).2=15:=by
 cases h:(Q8 e k lsn).2 with
 |true=>rw[a0P h];exact .inl rfl
 |false=>rw[a0E h];exact .inr rfl
theorem c9e(e:Eng)(k:Nat):(I5 e k).2=0∨(I5 e k).2=15:=by
 unfold I5;split
 ·exact .inl rfl
 ·exact c8n e k 0
end
end Go.Proofs.YtpdnnhnfongoeaaGreat
