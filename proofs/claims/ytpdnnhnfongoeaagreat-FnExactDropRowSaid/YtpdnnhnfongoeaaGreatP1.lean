/- A part of the proof. -/
import Derived.Test.YtpdnnhnfongoeaaGreatN8
import Derived.Test.YtpdnnhnfongoeaaGreatU32
namespace Go.Proofs.YtpdnnhnfongoeaaGreat
set_option maxRecDepth 100000
open Go.SS Go.Proofs.Tryz
noncomputable section
def hsB(g x:Lck):Bool:=(g.tx==x.tx)&&rX g x&&((g.mo==4)||(x.mo==1)||(g.mo==x.mo))
def hsI(L:List Lck)(x:Lck)(i:Nat):Bool:=hsB (L.getD i dz) x
def c7j:Con:=.rel ⟨Lck×Lck,λx=>[.agg x.1.ts,.bref x.2.ts],λx=>.bool (hsB x.1 x.2),λ_=>True⟩
theorem c6P(g x:Lck)(h:
  ∃(X:(Lck×Lck)),((g.tx==x.tx)=true->((g.tx=X.1.tx/\g.ta=X.1.ta/\g.row=X.1.row/\g.mo=X.1.mo/\True)/\(x.tx=X.2.tx/\x.ta=X.2.ta/\x.row=X.2.row/\x.mo=X.2.mo/\True)/\True)/\True)/\(g.tx==x.tx&&rX X.1 X.2&&(g.mo==4||x.mo==1||g.mo==x.mo))=hsB g x):
  V3 prog 340 [.agg g.ts,.bref x.ts] (.bool (hsB g x)):=
 U6 (gC pN gN) func340 Z3 h
theorem c3v:GK 340 c7j:=gk func340<|λx _=>c6P x.1 x.2 ⟨(x.1,x.2),λ_=>Z8,rfl⟩
def c2p(x:Lck):T:=.fn (.func 340) [.bref x.ts]
def b4y:Con:=.rel ⟨List Lck×Lck,λx=>[.sl 4 x.1.length (Z2 x.1),c2p x.2],λx=>Ji (S6 x.1.length (hsI x.1 x.2)),λx=>L7 x.1.length⟩
def b4F(L:List Lck)(a:Lck):Nat->Ann
 |0=>.one (V5 L.length (hsI L a)) (λx=>⟨[(0,.sl 4 L.length (Z2 L)),(1,c2p a),(7,Ji L.length),(8,Ji x.1)],[]⟩) (λx=>L.length-x.1) [] [] (λ_=>Z3)
 |_=>.none
theorem a7H:GK 316 b4y:=gk func316<|by
 rintro⟨L,a⟩ (hL:L.length<1000000000000);refine U6 (gC c3v gN) func316 (b4F L a) (α:=let r:=(L.length:Int);let p:=(T.bref [Ji a.tx,Ji a.ta,Ji a.row,Ji a.mo]);(∃(x:V5 L.length (hsI L a)),((Z0 Z2 L L)/\(Fn.func 340=Fn.func 340/\J9 (λ(x:Nat)=>none) p p/\True)/\r=r/\0=(x.1:Int)/\True)/\True)/\∀(x:V5 L.length (hsI L a)),let z:=(x.1:Int);let q:=(L.getD z.toNat dz);bd (z<r) (W9 z L.length/\∃(X:(Lck×Lck)),(((q.tx=X.1.tx/\q.ta=X.1.ta/\q.row=X.1.row/\q.mo=X.1.mo/\True)/\(a.tx=X.2.tx/\a.ta=X.2.ta/\a.row=X.2.row/\a.mo=X.2.mo/\True)/\True)/\True)/\br (hsB X.1 X.2) (z=S6 L.length (hsI L a)) (Ri (z+1)/\∃(y:V5 L.length (hsI L a)),(((Z0 Z2 L L)/\(Fn.func 340=Fn.func 340/\J9 (λ(x:Nat)=>none) p p/\True)/\r=r/\z+1=(y.1:Int)/\True)/\True)/\Lt (L.length-y.1) (L.length-x.1))) ((-1:Int)=S6 L.length (hsI L a))) ⟨⟨F9,⟨Z8,⟨rfl,U1 _,Z6⟩,Z8⟩,Z6⟩,λx=>⟨λC=>?_,λC=>?_⟩⟩
 ·have h:=Y2 C;refine⟨Y6 h,(L.getD x.1 dz,a),Z8,λhp=>(O0 h hp x.2.2).symm,λhp=>⟨W4 h Z9,x.succ h hp,⟨⟨Z8,⟨rfl,U1 _,Z6⟩,rfl,J2,Z6⟩,Z6⟩,V5.ext_lt h⟩⟩
 ·have e:=Y0 C;exact(K4 λj J=>x.2.2 j (yB J e)).symm
def b4q:Con:=.rel ⟨List Lck×Lck,λx=>[.sl 4 x.1.length (Z2 x.1),c2p x.2],λx=>.bool (anyI x.1.length (hsI x.1 x.2)),λx=>L7 x.1.length⟩
theorem b2k(L:List Lck)(a:Lck)(h:
  ∃(x:(List Lck×Lck)),(((Z0 Z2 L x.1)/\(Fn.func 340=Fn.func 340/\(a.tx=x.2.tx/\a.ta=x.2.ta/\a.row=x.2.row/\a.mo=x.2.mo/\True)/\True)/\True)/\L7 x.1.length)/\decide (S6 x.1.length (hsI x.1 x.2)≥(0:Int))=anyI L.length (hsI L a)):
  V3 prog 232 [.sl 4 L.length (Z2 L),c2p a] (.bool (anyI L.length (hsI L a))):=
 U6 (gC a7H gN) func232 Z3 h
theorem a5S:GK 232 b4q:=gk func232<|λx h=>b2k x.1 x.2 ⟨x,⟨Z8,h⟩,D1 _ _⟩
def c8P:Con:=.rel ⟨Lks×Lck,λx=>[.agg x.1.ts,.agg x.2.ts],λx=>.bool (anyI x.1.H.length (hsI x.1.H x.2)),λx=>L7 x.1.H.length⟩
theorem c8E(l:Lks)(x:Lck)(h:
  ∃(X:(List Lck×Lck)),(((Z0 Z2 l.H X.1)/\(Fn.func 340=Fn.func 340/\(x.tx=X.2.tx/\x.ta=X.2.ta/\x.row=X.2.row/\x.mo=X.2.mo/\True)/\True)/\True)/\L7 X.1.length)/\anyI X.1.length (hsI X.1 X.2)=anyI l.H.length (hsI l.H x)):
  V3 prog 287 [.agg l.ts,.agg x.ts] (.bool (anyI l.H.length (hsI l.H x))):=
 U6 (gC a5S gN) func287 Z3 h
theorem c6g:GK 287 c8P:=gk func287<|λx h=>c8E x.1 x.2 ⟨(x.1.H,x.2),⟨Z8,h⟩,rfl⟩
def rR(L:List Int)(v:Int)(i:Nat):Bool:=v==L.getD i 0
def b3g:Con:=.rel ⟨List Int×Nat×Int,λx=>[.sl 1 x.2.1 (Y9 x.1),Ji x.2.2],λx=>Ji (S6 x.2.1 (rR x.1 x.2.2)),λx=>L7 x.2.1⟩
def b3W(L:List Int)(n:Nat)(v:Int):Nat->Ann
 |0=>.one (V5 n (rR L v)) (λx=>⟨[(0,.sl 1 n (Y9 L)),(1,Ji v),(7,Ji n),(8,Ji x.1)],[]⟩) (λx=>n-x.1) [] [] (λ_=>Z3)
 |_=>.none
theorem a6a:GK 371 b3g:=gk func371<|by
 rintro⟨L,n,v⟩ (hL:n<1000000000000);refine U6 gN func371 (b3W L n v) (α:=let q:=(n=n/\Z7 n (Y9 L) (Y9 L));(∃(x:V5 n (rR L v)),(q/\v=v/\(n:Int)=(n:Int)/\0=(x.1:Int)/\True)/\True)/\∀(x:V5 n (rR L v)),let p:=(x.1:Int);bd (p<(n:Int)) (W9 p n/\br (v==L.getD p.toNat (0:Int)) (p=S6 n (rR L v)) (Ri (p+1)/\∃(y:V5 n (rR L v)),((q/\v=v/\(n:Int)=(n:Int)/\p+1=(y.1:Int)/\True)/\True)/\Lt (n-y.1) (n-x.1))) ((-1:Int)=S6 n (rR L v))) ⟨⟨F9,Z8⟩,λx=>⟨λC=>?_,λC=>?_⟩⟩
 ·have h:=Y2 C;exact⟨Y6 h,λhp=>(O0 h hp x.2.2).symm,λhp=>⟨W4 h Z9,x.succ h hp,⟨⟨Z8,rfl,rfl,J2,Z6⟩,Z6⟩,V5.ext_lt h⟩⟩
 ·have e:=Y0 C;exact(K4 λj J=>x.2.2 j (yB J e)).symm
def b4R:Con:=.rel ⟨List Int×Nat×Int,λx=>[.sl 1 x.2.1 (Y9 x.1),Ji x.2.2],λx=>.bool (anyI x.2.1 (rR x.1 x.2.2)),λx=>L7 x.2.1⟩
theorem b3A(L:List Int)(n:Nat)(v:Int)(h:
  ∃(x:(List Int×Nat×Int)),(((n=x.2.1/\Z7 n (Y9 L) (Y9 x.1))/\v=x.2.2/\True)/\L7 x.2.1)/\decide (S6 x.2.1 (rR x.1 x.2.2)≥(0:Int))=anyI n (rR L v)):
  V3 prog 345 [.sl 1 n (Y9 L),Ji v] (.bool (anyI n (rR L v))):=
 U6 (gC a6a gN) func345 Z3 h
theorem a65:GK 345 b4R:=gk func345<|λx h=>b3A x.1 x.2.1 x.2.2 ⟨x,⟨Z8,h⟩,D1 _ _⟩
def isW(L:List Wt)(v:Wt)(i:Nat):Bool:=(v.tx==(L.getD i dz).tx)&&((v.fo==(L.getD i dz).fo)&&true)
def wtB(v:Wt):Option Ob:=some (.arr true 1000000 2 1 λ_=>v.ts)
def b8o:Con:=.rel ⟨List Wt×Nat×Wt,λx=>[.sl 2 x.2.1 (Y7 x.1),.agg x.2.2.ts],λx=>Ji (S6 x.2.1 (isW x.1 x.2.2)),λx=>L7 x.2.1⟩
def b5q(L:List Wt)(n:Nat)(v:Wt):Nat->Ann
 |0=>.one (V5 n (isW L v)) (λx=>⟨[(0,.sl 2 n (Y7 L)),(3,.ref 0 0 0),(7,Ji n),(8,Ji x.1)],[wtB v]⟩) (λx=>n-x.1) [.box 0] [.box 0] (λ_=>Z3)
 |_=>.none
theorem b3k:GK 343 b8o:=gk func343<|by
 rintro⟨L,n,v⟩ (hL:n<1000000000000);refine U6 gN func343 (b5q L n v) (α:=let r:=(n=n/\Z7 n (Y7 L) (Y7 L));let q:=(1=1/\1=1/\v.tx=v.tx/\v.fo=v.fo/\True);(∃(x:V5 n (isW L v)),(r/\(0=0/\0=0)/\(n:Int)=(n:Int)/\0=(x.1:Int)/\True)/\q/\True)/\∀(x:V5 n (isW L v)),let p:=(x.1:Int);let z:=(L.getD p.toNat dz);bd (p<(n:Int)) (W9 p n/\br (v.tx==z.tx&&(v.fo==z.fo&&true)) (p=S6 n (isW L v)) (Ri (p+1)/\∃(y:V5 n (isW L v)),((r/\(0=0/\0=0)/\(n:Int)=(n:Int)/\p+1=(y.1:Int)/\True)/\q/\True)/\Lt (n-y.1) (n-x.1))) ((-1:Int)=S6 n (isW L v))) ⟨⟨F9,Z8⟩,λx=>⟨λC=>?_,λC=>?_⟩⟩
 ·have h:=Y2 C;exact⟨Y6 h,λhp=>(O0 h hp x.2.2).symm,λhp=>⟨W4 h Z9,x.succ h hp,⟨⟨Z8,Z8,rfl,J2,Z6⟩,Z8⟩,V5.ext_lt h⟩⟩
 ·have e:=Y0 C;exact(K4 λj J=>x.2.2 j (yB J e)).symm
def b8B:Con:=.rel ⟨List Wt×Nat×Wt,λx=>[.sl 2 x.2.1 (Y7 x.1),.agg x.2.2.ts],λx=>.bool (anyI x.2.1 (isW x.1 x.2.2)),λx=>L7 x.2.1⟩
theorem b47(L:List Wt)(n:Nat)(v:Wt)(h:
  ∃(x:(List Wt×Nat×Wt)),(((n=x.2.1/\Z7 n (Y7 L) (Y7 x.1))/\(v.tx=x.2.2.tx/\v.fo=x.2.2.fo/\True)/\True)/\L7 x.2.1)/\decide (S6 x.2.1 (isW x.1 x.2.2)≥(0:Int))=anyI n (isW L v)):
  V3 prog 289 [.sl 2 n (Y7 L),.agg v.ts] (.bool (anyI n (isW L v))):=
 U6 (gC b3k gN) func289 Z3 h
theorem b1U:GK 289 b8B:=gk func289<|λx h=>b47 x.1 x.2.1 x.2.2 ⟨x,⟨Z8,h⟩,D1 _ _⟩
def x1(x:Lck)(w:Wt):Bool:=w.tx !=x.tx
def aU(x:Lck):Option Ob:=some (.arr true 1000000 4 1 λ_=>x.ts)
def c0v:Con:=.rel ⟨Wt×Lck,λx=>[.agg x.1.ts,.bref x.2.ts],λx=>.bool (x.1.tx==x.2.tx),λ_=>True⟩
theorem c3d(w:Wt)(x:Lck)(h:
  (w.tx==x.tx)=(w.tx==x.tx)):
  V3 prog 286 [.agg w.ts,.bref x.ts] (.bool (w.tx==x.tx)):=
 U6 gN func286 Z3 h
theorem gM:GK 286 c0v:=gk func286<|λx _=>c3d x.1 x.2 rfl
def tkF(x:Lck):T:=.fn (.func 286) [.bref x.ts]
def d3W(L:List Wt)(x:Lck)(i:Nat):Bool:=(L.getD i dz).tx==x.tx
def b6O:Con:=.rel ⟨List Wt×Lck,λx=>[nI x.1,tkF x.2],λx=>Ji (S6 x.1.length (d3W x.1 x.2)),λx=>L7 x.1.length⟩
def b9a(L:List Wt)(tx:Lck):Nat->Ann
 |0=>.one (V5 L.length (d3W L tx)) (λx=>⟨[(0,nI L),(1,tkF tx),(7,Ji L.length),(8,Ji x.1)],[]⟩) (λx=>L.length-x.1) [] [] (λ_=>Z3)
 |_=>.none
theorem b4K:GK 317 b6O:=gk func317<|by
 rintro⟨L,tx⟩ (hL:L.length<1000000000000);refine U6 (gC gM gN) func317 (b9a L tx) (α:=let r:=(L.length:Int);let p:=(T.bref [Ji tx.tx,Ji tx.ta,Ji tx.row,Ji tx.mo]);(∃(x:V5 L.length (d3W L tx)),((Z0 Y7 L L)/\(Fn.func 286=Fn.func 286/\J9 (λ(x:Nat)=>none) p p/\True)/\r=r/\0=(x.1:Int)/\True)/\True)/\∀(x:V5 L.length (d3W L tx)),let q:=(x.1:Int);let z:=(L.getD q.toNat dz);bd (q<r) (W9 q L.length/\∃(X:(Wt×Lck)),(((z.tx=X.1.tx/\z.fo=X.1.fo/\True)/\(tx.tx=X.2.tx/\tx.ta=X.2.ta/\tx.row=X.2.row/\tx.mo=X.2.mo/\True)/\True)/\True)/\br (X.1.tx==X.2.tx) (q=S6 L.length (d3W L tx)) (Ri (q+1)/\∃(y:V5 L.length (d3W L tx)),(((Z0 Y7 L L)/\(Fn.func 286=Fn.func 286/\J9 (λ(x:Nat)=>none) p p/\True)/\r=r/\q+1=(y.1:Int)/\True)/\True)/\Lt (L.length-y.1) (L.length-x.1))) ((-1:Int)=S6 L.length (d3W L tx))) ⟨⟨F9,⟨Z8,⟨rfl,U1 _,Z6⟩,Z8⟩,Z6⟩,λx=>⟨λC=>?_,λC=>?_⟩⟩
 ·have h:=Y2 C;refine⟨Y6 h,(L.getD x.1 dz,tx),Z8,λhp=>(O0 h hp x.2.2).symm,λhp=>⟨W4 h Z9,x.succ h hp,⟨⟨Z8,⟨rfl,U1 _,Z6⟩,rfl,J2,Z6⟩,Z6⟩,V5.ext_lt h⟩⟩
 ·have e:=Y0 C;exact(K4 λj J=>x.2.2 j (yB J e)).symm
def c8C(L:List Wt)(tx:Lck):Option Ob:=some (.arr true 0 2 L.length (I1 (Y7 (E3 (x1 tx) L L.length)) (X8 (x1 tx) L L.length).length (L.length- (X8 (x1 tx) L L.length).length) zWt))
def b6r:Con:=.reff ⟨List Wt×Lck,λx=>[.osl 0 0 x.1.length,.fn (.func 286) [.ref 1 0 0]],λx=>[sT x.1,aU x.2],λx=>.osl 0 0 (X8 (x1 x.2) x.1 x.1.length).length,λx=>[sT (X8 (x1 x.2) x.1 x.1.length),aU x.2],λx=>x.1.length<=1048576⟩
def b5s(L:List Wt)(tx:Lck):Nat->Ann
 |0=>.one {j:Nat//j<=L.length} (λx=>⟨[(0,.osl 0 0 L.length),(1,.fn (.func 286) [.ref 1 0 0]),(5,Ji (X8 (x1 tx) L x.1).length),(6,Ji x.1)],[some (.arr true 0 2 L.length (Y7 (E3 (x1 tx) L x.1))),aU tx]⟩) (λx=>L.length-x.1) cL cL (λ_=>Z3)
 |_=>.none
theorem b7Z(L:List Wt)(tx:Lck)(h:
  ∃(x:(List Wt×Lck)),(Le (0+L.length) L.length/\((Z0 Y7 L x.1)/\(Fn.func 286=Fn.func 286/\(tx.tx=x.2.tx/\tx.ta=x.2.ta/\tx.row=x.2.row/\tx.mo=x.2.mo/\True)/\True)/\True)/\L7 x.1.length)/\br (S6 x.1.length (d3W x.1 x.2)==(-1:Int)) (((0=0/\L.length=(X8 (x1 tx) L L.length).length)/\True)/\(L.length=L.length/\Z7 L.length (Y7 L) λ(j:Nat)=>match(X8 (x1 tx) L L.length).length.ble j&&j.blt ((X8 (x1 tx) L L.length).length+(L.length- (X8 (x1 tx) L L.length).length)) with|true=>[Ji 0,Ji 0]|false=>[Ji ((E3 (x1 tx) L L.length).getD j dz).tx,Ji ((E3 (x1 tx) L L.length).getD j dz).fo])/\(1=1/\1=1/\tx.tx=tx.tx/\tx.ta=tx.ta/\tx.row=tx.row/\tx.mo=tx.mo/\True)/\True) (Ri (S6 x.1.length (d3W x.1 x.2)+1)/\(∃(X:{j:Nat//j<=L.length}),((0=0/\L.length=L.length)/\(Fn.func 286=Fn.func 286/\(0=0/\0=0)/\True)/\S6 x.1.length (d3W x.1 x.2)=(↑(X8 (x1 tx) L X.val).length:Int)/\S6 x.1.length (d3W x.1 x.2)+1=(X.val:Int)/\True)/\(L.length=L.length/\Z7 L.length (Y7 L) (Y7 (E3 (x1 tx) L X.val)))/\(1=1/\1=1/\tx.tx=tx.tx/\tx.ta=tx.ta/\tx.row=tx.row/\tx.mo=tx.mo/\True)/\True)/\∀(x:{j:Nat//j<=L.length}),bd ((x.1:Int)<(L.length:Int)) (W9 (x.1:Int) L.length/\Lt (0+(x.1:Int).toNat) L.length/\∃(X:(Wt×Lck)),(((((E3 (x1 tx) L x.1).getD (0+(x.1:Int).toNat) dz).tx=X.1.tx/\((E3 (x1 tx) L x.1).getD (0+(x.1:Int).toNat) dz).fo=X.1.fo/\True)/\(tx.tx=X.2.tx/\tx.ta=X.2.ta/\tx.row=X.2.row/\tx.mo=X.2.mo/\True)/\True)/\True)/\br (!X.1.tx==X.2.tx) (W9 (↑(X8 (x1 tx) L x.1).length:Int) L.length/\Lt (0+(↑(X8 (x1 tx) L x.1).length:Int).toNat) L.length/\Ri ((↑(X8 (x1 tx) L x.1).length:Int)+1)/\Ri ((x.1:Int)+1)/\∃(y:{j:Nat//j<=L.length}),(((0=0/\L.length=L.length)/\(Fn.func 286=Fn.func 286/\(0=0/\0=0)/\True)/\(↑(X8 (x1 tx) L x.1).length:Int)+1=(↑(X8 (x1 tx) L y.1).length:Int)/\(x.1:Int)+1=(y.1:Int)/\True)/\(L.length=L.length/\Z7 L.length (setRow (Y7 (E3 (x1 tx) L x.1)) (0+(↑(X8 (x1 tx) L x.1).length:Int).toNat) 0 [Ji ((E3 (x1 tx) L x.1).getD (0+(x.1:Int).toNat) dz).tx,Ji ((E3 (x1 tx) L x.1).getD (0+(x.1:Int).toNat) dz).fo]) (Y7 (E3 (x1 tx) L y.1)))/\(1=1/\1=1/\tx.tx=tx.tx/\tx.ta=tx.ta/\tx.row=tx.row/\tx.mo=tx.mo/\True)/\True)/\Lt (L.length-y.1) (L.length-x.1)) (Ri ((x.1:Int)+1)/\∃(y:{j:Nat//j<=L.length}),(((0=0/\L.length=L.length)/\(Fn.func 286=Fn.func 286/\(0=0/\0=0)/\True)/\(↑(X8 (x1 tx) L x.1).length:Int)=(↑(X8 (x1 tx) L y.1).length:Int)/\(x.1:Int)+1=(y.1:Int)/\True)/\(L.length=L.length/\Z7 L.length (Y7 (E3 (x1 tx) L x.1)) (Y7 (E3 (x1 tx) L y.1)))/\(1=1/\1=1/\tx.tx=tx.tx/\tx.ta=tx.ta/\tx.row=tx.row/\tx.mo=tx.mo/\True)/\True)/\Lt (L.length-y.1) (L.length-x.1))) (kB (↑(X8 (x1 tx) L x.1).length:Int) L.length/\Le (0+(↑(X8 (x1 tx) L x.1).length:Int).toNat+(L.length- (↑(X8 (x1 tx) L x.1).length:Int).toNat)) L.length/\kB (↑(X8 (x1 tx) L x.1).length:Int) L.length/\((0=0/\(↑(X8 (x1 tx) L x.1).length:Int).toNat=(X8 (x1 tx) L L.length).length)/\True)/\(L.length=L.length/\Z7 L.length (λ(j:Nat)=>match(0+(↑(X8 (x1 tx) L x.1).length:Int).toNat).ble j&&j.blt (0+(↑(X8 (x1 tx) L x.1).length:Int).toNat+(L.length- (↑(X8 (x1 tx) L x.1).length:Int).toNat)) with|true=>[Ji 0,Ji 0]|false=>[Ji ((E3 (x1 tx) L x.1).getD j dz).tx,Ji ((E3 (x1 tx) L x.1).getD j dz).fo]) λ(j:Nat)=>match(X8 (x1 tx) L L.length).length.ble j&&j.blt ((X8 (x1 tx) L L.length).length+(L.length- (X8 (x1 tx) L L.length).length)) with|true=>[Ji 0,Ji 0]|false=>[Ji ((E3 (x1 tx) L L.length).getD j dz).tx,Ji ((E3 (x1 tx) L L.length).getD j dz).fo])/\(1=1/\1=1/\tx.tx=tx.tx/\tx.ta=tx.ta/\tx.row=tx.row/\tx.mo=tx.mo/\True)/\True))):
  F8 prog 285 [.osl 0 0 L.length,.fn (.func 286) [.ref 1 0 0]] [sT L,aU tx] (.osl 0 0 (X8 (x1 tx) L L.length).length) [c8C L tx,aU tx]:=
 C7 (gC b4K (gC gM gN)) func285 (b5s L tx) [cL] h
theorem b2g:GK 285 b6r:=gk func285<|by
 rintro⟨L,tx⟩ (hL:L.length<=1048576);have l:=r5 (x1 tx) L L.length;refine hM (b7Z L tx ⟨(L,tx),⟨uA _,Z8,rT⟩,λn=>?_,λn=>?_⟩) (a2q (ts:=Wt.ts) l)
 ·obtain⟨e,d⟩:=lM (f:=x1 tx) (U9 L.length) λq Q=>by
   have:=a15 (beq_iff_eq.1 n) q Q;unfold d3W at this;unfold x1 bne;rw[this];rfl
  refine⟨⟨⟨rfl,e.symm⟩,Z6⟩,⟨rfl,?_⟩,Z8⟩
  exact eM (row:=Y7 L) (row':=Y7 (E3 (x1 tx) L L.length)) (z:=zWt) (λi _=>by rw[d]) (Nat.le_of_eq e.symm)
 ·obtain⟨i,hi,hp,g,h⟩:=fQ n;have hi:i<L.length:=hi;obtain⟨e,d⟩:=lM (f:=x1 tx) (L:=L) (j:=i) Z9 λq Q=>by
   have:=g q Q;unfold d3W at this;unfold x1 bne;rw[this];rfl
  have I:x1 tx (L.getD i dz)=false:=by
   unfold d3W at hp;unfold x1 bne;rw[hp];rfl
  have o:(X8 (x1 tx) L (i+1)).length=i:=by rw[pR I];exact e
  have r:E3 (x1 tx) L (i+1)=L:=by rw[b3i I];exact d
  have h:S6 L.length (d3W L tx)=(i:Int):=h;refine⟨?_,⟨⟨i+1,hi⟩,⟨Z8,Z8,?_,?_,Z6⟩,⟨rfl,?_⟩,Z8⟩,λx=>⟨λhc=>?_,λhc=>?_⟩⟩
  ·dsimp only;rw[h];exact Z4 Z9
  ·dsimp only;rw[h,o]
  ·dsimp only;rw[h];omega
  ·dsimp only;rw[r];exact X6 _ _
  ·have hlt:=Y2 hc;have hle:=r5 (x1 tx) L x.1;have e0:(E3 (x1 tx) L x.1).getD x.1 dz=L.getD x.1 dz:=b6l hle;rw[E4,E4,D6,D6,e0];refine⟨Y6 hlt,hlt,(L.getD x.1 dz,tx),Z8,λhd=>?_,λhd=>?_⟩
   ·have hd:x1 tx (L.getD x.1 dz)=true:=by
     unfold x1 bne
     skip
     exact hd
    exact⟨Y6 Z9,Q2,Z4 Z9,Z4 Z9,⟨x.1+1,hlt⟩,⟨⟨Z8,Z8,congrArg Int.ofNat (rE hd),X5,Z6⟩,⟨rfl,a10 (m:=2) (ts:=Wt.ts) (λ_=>rfl) hd⟩,Z8⟩,V5.ext_lt hlt⟩
   ·have hd:x1 tx (L.getD x.1 dz)=false:=by
     unfold x1 bne
     skip
     exact hd
    refine⟨Z4 Z9,⟨x.1+1,hlt⟩,⟨⟨Z8,Z8,?_,X5,Z6⟩,⟨rfl,?_⟩,Z8⟩,V5.ext_lt hlt⟩
    ·dsimp only;rw[pR hd]
    ·dsimp only;rw[b3i hd];exact X6 _ _
  ·have hx:x.1=L.length:=by have:=x.2;have:=Y0 hc;omega
   rw[hx,E4,D6];exact⟨⟨Z9,Z9⟩,K2,⟨Z9,Z9⟩,Z8⟩
def TdS(W:List Wt)(tx:Int):Type:={x:(Nat×Nat×List Int)×List Int//a1R W tx x.1.1 x.1.2.1 (tx::x.1.2.2)=rnd W tx/\a5i W (tx::x.1.2.2)+(x.1.2.2.length+1)<=x.1.2.1+x.1.1/\x.1.2.1<=x.1.2.2.length+1/\x.1.1+x.1.2.1=200/\tx ∉ x.1.2.2/\x.2.length<=x.1.2.1}
def TdI(W:List Wt)(tx a:Int)(R:List Int)(n:Nat):Type:={y:(Nat×List Int)×List Int//y.1.1<=W.length/\scn W tx a R y.1.1=some (tx::y.1.2)/\tx ∉ y.1.2/\y.2.length<=n}
def c1j(l:Lks)(tx:Int):Nat->Ann
 |0=>.one (TdS l.W tx) (λx=>⟨[(1,Ji tx),(2,Ji tx),(3,.ref 0 0 0),(7,.osl 1 0 x.1.1.2.2.length),(8,.osl 2 x.1.2.length (x.1.1.2.2.length+1-x.1.1.2.1))],[lkB l,A3 x.1.1.2.2,A3 (x.1.2++(tx::x.1.1.2.2).drop x.1.1.2.1)]⟩) (λx=>x.1.1.1) c2E c2E (λx=>fun
  |1=>.one (TdI l.W tx ((tx::x.1.1.2.2).getD x.1.1.2.1 0) (tx::x.1.1.2.2) (x.1.1.2.1+1)) (λy=>⟨[(1,Ji tx),(2,Ji tx),(3,.ref 0 0 0),(7,.osl 1 0 y.1.1.2.length),(8,.osl 2 y.1.2.length (y.1.1.2.length-x.1.1.2.1)),(9,Ji ((tx::x.1.1.2.2).getD x.1.1.2.1 0)),(24,nI l.W),(25,Ji l.W.length),(26,Ji y.1.1.1)],[lkB l,A3 y.1.1.2,A3 (y.1.2++y.1.1.2.drop x.1.1.2.1)]⟩) (λy=>l.W.length-y.1.1.1) c2E c2E (λ_=>Z3)
  |_=>.none)
 |_=>.none
def c31:Con:=.rel ⟨Lks×Int,λx=>[.agg x.1.ts,Ji x.2,Ji x.2],λx=>.bool (rnd x.1.W x.2),λx=>x.1.W.length<=100⟩
theorem c6D{tx v:Int}{S:List Int}:anyI (tx::S).length (thr (tx::S) v)=((tx==v)||anyI S.length (rR S v)):=by
 rw[Bool.eq_iff_iff,nV,R9,R9];constructor
 ·rintro⟨i,hi,hp⟩;cases i with
  |zero=>exact .inl hp
  |succ i=>
   refine .inr ⟨i,by simp at hi;omega,?_⟩
   have hp:(S.getD i 0==v)=true:=hp;unfold rR;rw[beq_iff_eq] at hp ⊢;exact hp.symm
 ·rintro(h|⟨i,hi,hp⟩)
  ·exact⟨0,W7,h⟩
  ·refine⟨i+1,C8,?_⟩
   show(S.getD i 0==v)=true;unfold rR at hp;rw[beq_iff_eq] at hp ⊢;exact hp.symm
theorem b8R{v:Int}{S:List Int}(h:anyI S.length (rR S v)=true):v ∈ S:=by
 obtain⟨i,hi,hp⟩:=R9.1 h;unfold rR at hp;rw[beq_iff_eq] at hp;rw[hp,P4,I3 hi]
 exact List.getElem_mem hi
theorem a2c{L:List Int}{v:Int}{r:Nat->List T}(h:∀j,j<L.length->r j=Y9 L j):Z7 (L.length+1) (X4 r L.length λk=>[Ji ([v].getD k 0)]) (Y9 (L++[v])):=by
 intro j J;unfold X4;by_cases d:j<L.length
 ·rw[rW d];dsimp only;rw[h j d];unfold Y9;rw[P4,P4,rL d]
 ·obtain rfl:j=L.length:=by omega
  rw[mK d];dsimp only;unfold Y9;rw[j_h,P4 (l:=L++[v]),List.getElem?_concat_length]
  rfl
theorem b66:GK 291 c31:=gk func291<|by
 rintro⟨l,tx⟩ (h:l.W.length<=100);have W:∀R,a5i l.W R<=100:=λR=>Nat.le_trans (List.length_filter_le _ _) h
 refine U6 (gC a65 (gC P6 (gC P6 (gC P6 (gC P6 (gC P6 (gC P6 (gC P6 (gC P6 (gC P6 gN)))))))))) func291 (c1j l tx) (α:=let t:=(0=0/\0=0);let a:=(Z0 Y7 l.W l.W);let v:=(l.W.length:Int);let r:=(1=1/\1=1/\(Z0 Z2 l.H l.H)/\a/\True);(∃(x:TdS l.W tx),let g:=x.1.1.2;let pa:=(x.1.2++List.drop g.1 (tx::g.2));(tx=tx/\tx=tx/\t/\(0=0/\0=g.2.length)/\(0=x.1.2.length/\1=g.2.length+1-g.1)/\True)/\r/\(0=g.2.length/\Z7 0 (λ(k:Nat)=>List.take 1 (List.drop (k*1) [])) (Y9 g.2))/\(1=pa.length/\Z7 1 (λ(k:Nat)=>List.take 1 (List.drop (k*1) [Ji tx])) (Y9 pa))/\True)/\∀(x:TdS l.W tx),let pe:=x.1.2.length;let p:=x.1.1.2;let pb:=(p.2.length+1-p.1);let m:=(x.1.2++List.drop p.1 (tx::p.2));let j:=(tx::p.2).getD;bd ((↑pb:Int)>0) (W9 (0:Int) pb/\Lt (pe+0) m.length/\kB (1:Int) pb/\(∃(X:TdI l.W tx ((tx::x.1.1.2.2).getD x.1.1.2.1 (0:Int)) (tx::x.1.1.2.2) (x.1.1.2.1+1)),(tx=tx/\tx=tx/\t/\(0=0/\p.2.length=X.val.1.2.length)/\(pe+1=X.val.2.length/\p.2.length+1-p.1-1=X.val.1.2.length-p.1)/\m.getD (pe+0) 0=j p.1 (0:Int)/\a/\v=v/\0=(X.val.1.1:Int)/\True)/\r/\(Z0 Y9 p.2 X.val.1.2)/\(Z0 Y9 m (X.val.2++List.drop p.1 X.val.1.2))/\True)/\∀(X:TdI l.W tx ((tx::x.1.1.2.2).getD x.1.1.2.1 (0:Int)) (tx::x.1.1.2.2) (x.1.1.2.1+1)),let pg:=(l.W.length-X.val.1.1);let w:=(X.val.1.1:Int);let u:=(X.val.1.2.length-p.1);let pc:=(X.val.2.length+u);let z:=(X.val.2++List.drop p.1 X.val.1.2);let q:=(l.W.getD w.toNat dz);bd (w<v) (W9 w l.W.length/\∃(n:(List Int×Nat×Int)),((q.tx !=j p.1 (0:Int))=false->Le (0+X.val.1.2.length) X.val.1.2.length/\((X.val.1.2.length=n.2.1/\Z7 X.val.1.2.length (Y9 X.val.1.2) (Y9 n.1))/\q.fo=n.2.2/\True)/\L7 n.2.1)/\br (q.tx !=j p.1 (0:Int)||anyI n.2.1 (rR n.1 n.2.2)) (Ri (w+1)/\∃(y:TdI l.W tx ((tx::x.1.1.2.2).getD x.1.1.2.1 (0:Int)) (tx::x.1.1.2.2) (x.1.1.2.1+1)),let pf:=y.1.1;((tx=tx/\tx=tx/\t/\(0=0/\X.val.1.2.length=pf.2.length)/\(X.val.2.length=y.1.2.length/\X.val.1.2.length-p.1=pf.2.length-p.1)/\j p.1 0=j p.1 (0:Int)/\a/\v=v/\w+1=(pf.1:Int)/\True)/\r/\(Z0 Y9 X.val.1.2 pf.2)/\(Z0 Y9 z (y.1.2++List.drop p.1 pf.2))/\True)/\Lt (l.W.length-pf.1) pg) (br (q.fo==tx) (true=rnd l.W tx) ((Le X.val.1.2.length X.val.1.2.length/\U8 X.val.1.2.length 1 8)/\∀(b:Bool),let f:=(bif b then X.val.1.2.length-p.1+1 else X.val.2.length+u+1);(Le pc z.length/\Lt 0 1/\U8 pc 1 8)/\Ri (w+1)/\∃(y:TdI l.W tx ((tx::x.1.1.2.2).getD x.1.1.2.1 (0:Int)) (tx::x.1.1.2.2) (x.1.1.2.1+1)),let c:=y.1.1;let pd:=(y.1.2++List.drop p.1 c.2);((tx=tx/\tx=tx/\t/\(0=0/\X.val.1.2.length+1=c.2.length)/\((bif b then 0 else X.val.2.length)=y.1.2.length/\X.val.1.2.length-p.1+1=c.2.length-p.1)/\j p.1 0=j p.1 (0:Int)/\a/\v=v/\w+1=(c.1:Int)/\True)/\r/\(X.val.1.2.length+1=c.2.length/\Z7 (X.val.1.2.length+1) (X4 (Y9 X.val.1.2) X.val.1.2.length λ(k:Nat)=>[Ji ([q.fo].getD k (0:Int))]) (Y9 c.2))/\(f=pd.length/\Z7 f (bif b then X4 (λ(i:Nat)=>[Ji (z.getD (X.val.2.length+i) (0:Int))]) u λ(k:Nat)=>[Ji ([q.fo].getD k (0:Int))] else X4 (Y9 z) pc λ(k:Nat)=>[Ji ([q.fo].getD k (0:Int))]) (Y9 pd))/\True)/\Lt (l.W.length-c.1) pg))) (∃(y:TdS l.W tx),let d:=y.1.1.2;((tx=tx/\tx=tx/\t/\(0=0/\X.val.1.2.length=d.2.length)/\(X.val.2.length=y.1.2.length/\X.val.1.2.length-p.1=d.2.length+1-d.1)/\True)/\r/\(Z0 Y9 X.val.1.2 d.2)/\(Z0 Y9 z (y.1.2++List.drop d.1 (tx::d.2)))/\True)/\Lt y.1.1.1 x.1.1.1)) (false=rnd l.W tx)) ⟨⟨⟨((200,0,[]),[]),rfl,by have:=W [tx];dsimp only[List.length_nil];omega,N5 _,rfl,W7,N5 _⟩,⟨rfl,rfl,⟨rfl,rfl⟩,⟨rfl,rfl⟩,⟨rfl,rfl⟩,Z6⟩,⟨rfl,rfl,⟨rfl,X6 _ _⟩,⟨rfl,X6 _ _⟩,Z6⟩,⟨rfl,λj J=>absurd J (D4 _)⟩,⟨rfl,λj J=>by(obtain rfl:j=0:=by omega);rfl⟩,Z6⟩,λx=>?_⟩
 obtain⟨⟨⟨f,i,S⟩,pre⟩,u,Q,hi,L,I,hp⟩:=x;dsimp only at u Q hi L I hp ⊢;have V:=W (tx::S);refine⟨λhc=>?_,λhc=>?_⟩
 ·have hlt:i<S.length+1:=by have:=G6 hc;omega
  have o:i<(tx::S).length:=hlt;obtain⟨g,rfl⟩:∃g,f=g+1:=⟨f-1,Z9⟩
  rw[c48 o] at u;have z:(tx::S).drop i=(tx::S).getD i 0::S.drop i:=by
   rw[List.drop_eq_getElem_cons o,P4,I3 o]
   rfl
  have t:pre++(tx::S).drop i=(pre++[(tx::S).getD i 0])++S.drop i:=by rw[z,List.append_assoc];rfl
  have A:(pre++(tx::S).drop i).getD (pre.length+0) 0=(tx::S).getD i 0:=by
   rw[Nat.add_zero,P4,qA (U9 _),j_h,z]
   rfl
  refine⟨⟨Z9,Z9⟩,by unfold Lt;rw[F6,List.length_drop];simp only[List.length_cons];omega,⟨Z9,Z9⟩,⟨⟨((0,S),pre++[(tx::S).getD i 0]),N5 _,rfl,I,C8⟩,⟨rfl,rfl,⟨rfl,rfl⟩,⟨rfl,rfl⟩,⟨W7,X5⟩,A,⟨rfl,X6 _ _⟩,rfl,rfl,Z6⟩,⟨rfl,rfl,⟨rfl,X6 _ _⟩,⟨rfl,X6 _ _⟩,Z6⟩,⟨rfl,X6 _ _⟩,⟨by rw[t],by rw[t];exact X6 _ _⟩,Z6⟩,λy=>?_⟩
  obtain⟨⟨⟨k,S'⟩,d⟩,F,hs,q,r⟩:=y;dsimp only at F hs q r ⊢;obtain⟨Y,M,U⟩:=a7Q k (tx::S') F hs;simp only[List.length_cons] at M U;have O:=W (tx::S');rw[E4];refine⟨λhc2=>?_,λhc2=>?_⟩
  ·have hkt:=Y2 hc2;have hss:=dY hs;rw[c6D] at hss;refine⟨Y6 hkt,(S',S'.length,(l.W.getD k dz).fo),λ_=>⟨K2,Z8,rT⟩,λhq=>?_,λhq=>⟨λhb=>?_,λhb=>⟨⟨U9 _,R0⟩,λb=>?_⟩⟩⟩
   ·have B:scn l.W tx ((tx::S).getD i 0) (tx::S) (k+1)=some (tx::S'):=by
     rw[hss];split
     ·rename_i ha;simp only[nV] at hq;have hany:=hq.resolve_left (by rw[ha];simp)
      rw[if_neg (λe:(l.W.getD k dz).fo=tx=>q (by have:=b8R hany;rwa [e] at this)),if_pos (by rw[hany];simp)]
     ·rfl
    exact⟨Z4 Z9,⟨((k+1,S'),d),hkt,B,q,r⟩,⟨⟨rfl,rfl,Z8,Z8,Z8,rfl,Z8,rfl,X5,Z6⟩,Z8⟩,K0⟩
   ·simp only[wU,bne_eq_false_iff_eq] at hq;rw[if_pos hq.1,if_pos (beq_iff_eq.1 hb)] at hss;have:=mD hss (l.W.length- (k+1));rw[show k+1+(l.W.length- (k+1))=l.W.length by omega] at this
    rw[this] at u;exact u
   ·simp only[wU,bne_eq_false_iff_eq] at hq;have hft:¬ (l.W.getD k dz).fo=tx:=λe=>by rw[e] at hb;simp at hb
    rw[if_pos hq.1,if_neg hft,if_neg (by rw[hq.2];simp;exact λe=>hft e.symm)] at hss
    generalize (l.W.getD k dz).fo=v at*;have hd2:(S'++[v]).drop i=S'.drop i++[v]:=List.drop_append_of_le_length Z9
    have N:(d++S'.drop i).length=d.length+(S'.length-i):=by rw[F6,List.length_drop]
    have C:(S'.drop i).length=S'.length-i:=List.length_drop;refine⟨⟨K2,Q2,R0⟩,Z4 Z9,⟨((k+1,S'++[v]),bif b then[] else d),hkt,hss,(by simp only[List.mem_append,List.mem_singleton];rintro(e|e);exact q e;exact hft e.symm),by cases b<;>simp<;>omega⟩,⟨⟨rfl,rfl,⟨rfl,rfl⟩,⟨rfl,W7⟩,⟨by cases b<;>rfl,a3X⟩,rfl,⟨rfl,X6 _ _⟩,rfl,X5,Z6⟩,⟨rfl,rfl,⟨rfl,X6 _ _⟩,⟨rfl,X6 _ _⟩,Z6⟩,⟨W7,a2c λ_ _=>rfl⟩,⟨?_,?_⟩,Z6⟩,K0⟩
    ·dsimp only;rw[hd2];cases b with
     |true=>simp
     |false=>simp only[cond_false,F6,List.length_drop,List.length_singleton];omega
    ·dsimp only;rw[hd2];cases b with
     |true=>
      simp only[cond_true,List.nil_append];rw[←C];refine a2c λj J=>?_
      unfold Y9;rw[P4,P4,qA Z9,show d.length+j-d.length=j by omega]
     |false=>
      simp only[cond_false];rw[←N,←List.append_assoc];exact a2c λ_ _=>rfl
  ·obtain rfl:k=l.W.length:=by have:=Y0 hc2;omega
   rw[hs] at u;exact⟨⟨((g,i+1,S'),d),u,X5,X5,X5,q,r⟩,⟨⟨rfl,rfl,Z8,Z8,⟨rfl,X5⟩,Z6⟩,Z8⟩,K0⟩
 ·have hge:¬i<(tx::S).length:=by have:=m9 hc;simp only[List.length_cons];omega
  rw[←u];exact(c40 hge).symm
def sA(L:List (List Wt))(i:Nat):List T:=[nI (L.getD i [])]
def c1C(L:List (List Wt)):T:=.sl 1 L.length (sA L)
def G3(L:List (List Wt)):Nat->List Wt
 |0=>[]
 |i+1=>G3 L i++L.getD i []
def c6d:Con:=.rmk ⟨Nat,λn=>[.v (.slice none 0 0),Ji n],λ_=>[],λ_=>.osl 0 0 0,λ_=>[sT []],λn=>1<=n/\n<=1000000⟩
theorem c5q(n:Nat)(h:
let q:=((n:Int)-0);let p:=q.toNat;  (decide ((n:Int)<0)=true->False)/\(decide ((n:Int)<0)=false->Ri (0:Int)/\Ri q/\bd ((n:Int)-0>0) (kB (0:Int) 0/\(Nn q/\Lt 0 p/\U8 0 p 16)/\kB (0:Int) p/\((0=0/\Int.toNat (0:Int)=0)/\True)/\(p=n/\Z7 p (λ(x:Nat)=>[Ji 0,Ji 0]) λ(x:Nat)=>[Ji 0,Ji 0])/\True) ((J9 (o5 [none]) (T.v (Value.slice none 0 0)) (T.osl 0 0 0)/\True)/\False/\True))):
  F8 prog 344 [.v (.slice none 0 0),Ji n] [] (.osl 0 0 0) [some (.arr true 0 2 n λ_=>zWt)]:=
 C7 gN func344 Z3 [[.vl 0 []]] h
def c8b:Con:=.rmk ⟨List (List Wt),λL=>[c1C L],λ_=>[],λL=>.osl 0 0 (G3 L L.length).length,λL=>[sT (G3 L L.length)],λL=>L.length<=100/\1<=(G3 L L.length).length/\(G3 L L.length).length<=1000000⟩
def c7Z(L:List (List Wt)):Nat->Ann
 |0=>.one (Up L.length) (λx=>⟨[(0,c1C L),(3,Ji (G3 L x.1).length),(9,c1C L),(10,Ji L.length),(11,Ji x.1)],[]⟩) (λx=>L.length-x.1) [] [] (λ_=>fun
  |1=>.one (Up L.length) (λx=>⟨[(6,.osl 0 0 (G3 L x.1).length),(25,c1C L),(26,Ji L.length),(27,Ji x.1)],[sT (G3 L x.1)]⟩) (λx=>L.length-x.1) [.at_ 6] [.at_ 6] (λ_=>Z3)
  |_=>.none)
 |_=>.none
theorem c3N:GK 344 c6d:=gk func344<|by
 rintro n ⟨e,d⟩;refine⟨hM (c5q n ⟨λq=>(by have:=G6 q;omega),λ_=>⟨Z4 Z9,Z4 Z9,λ_=>⟨⟨Z9,Z9⟩,⟨m5,Q2,R0⟩,⟨Z9,Z9⟩,Z8,⟨Z9,X6 _ _⟩,Z6⟩,λq=>(by have:=m9 q;omega)⟩⟩) ?_,rfl,rZ []⟩
 refine⟨rfl,λk o' h=>?_⟩
 cases k with
 |zero=>
  have h:sT []=some o':=h;unfold sT at h;simp only[X0] at h;refine⟨_,rfl,.inr ⟨_,_,_,_,_,_,_,rfl,h.symm,N5 _,λi hi=>absurd hi (D4 _)⟩⟩
 |succ k=>simp[Y4] at h
theorem b8s(L:List (List Wt))(i:Nat):∀d,(G3 L i).length<=(G3 L (i+d)).length
 |0=>U9 _
 |d+1=>by
  have:=b8s L i d;show _<=(G3 L (i+d)++L.getD (i+d) []).length;rw[F6];omega
theorem c7y:GK 290 c8b:=gk func290<|by
 rintro L ⟨l,f,g⟩;have e:∀i,i<=L.length->(G3 L i).length<=1000000:=λi hi=>by
  have:=b8s L i (L.length-i);rw[show i+(L.length-i)=L.length by omega] at this
  omega
 have d:∀i,(G3 L (i+1)).length=(G3 L i).length+(L.getD i []).length:=λi=>F6
 refine⟨C7 (gC c3N gN) func290 (c7Z L) [[.vl 0 []]] (α:=let v:=(Z0 sA L L);let q:=(L.length:Int);(∃(x:Up L.length),(v/\0=(↑(G3 L x.1).length:Int)/\v/\q=q/\0=(x.1:Int)/\True)/\True)/\∀(x:Up L.length),let w:=(x.1:Int);let u:=(↑(G3 L x.1).length:Int);let z:=(↑(L.getD w.toNat []).length:Int);bd (w<q) (W9 w L.length/\Ri (u+z)/\bd (u+z<0) False (Ri (w+1)/\∃(y:Up L.length),((v/\u+z=(↑(G3 L y.1).length:Int)/\v/\q=q/\w+1=(y.1:Int)/\True)/\True)/\Lt (L.length-y.1) (L.length-x.1))) (∃(X:Nat),((Value.slice none 0 0=Value.slice none 0 0/\u=(X:Int)/\True)/\1<=X/\X<=1000000)/\(∃(x:Up L.length),let k:=(G3 L x.1);((0=0/\0=k.length)/\v/\q=q/\0=(x.1:Int)/\True)/\(0=k.length/\Z7 0 (Y7 []) (Y7 k))/\True)/\∀(x:Up L.length),let m:=(G3 L x.1);let j:=(x.1:Int);let r:=(L.getD j.toNat []);let p:=m.length;bd (j<q) (W9 j L.length/\(Le p p/\U8 p r.length 16)/\Ri (j+1)/\∃(y:Up L.length),let n:=(G3 L y.1);(((0=0/\p+r.length=n.length)/\v/\q=q/\j+1=(y.1:Int)/\True)/\(p+r.length=n.length/\Z7 (p+r.length) (X4 (Y7 m) p (Y7 r)) (Y7 n))/\True)/\Lt (L.length-y.1) (L.length-x.1)) (((0=0/\p=(G3 L L.length).length)/\True)/\(Z0 Y7 m (G3 L L.length))/\True))) ⟨⟨⟨0,N5 _⟩,Z8⟩,λx=>⟨λhc=>?_,λhc=>?_⟩⟩,rfl,rZ _⟩
 ·have h:=Y2 hc;have j:=e (x.1+1) h;have A:=d x.1;rw[E4];exact⟨Y6 h,Z4 Z9,λq=>(by have:=G6 q;omega),λ_=>⟨Z4 Z9,⟨x.1+1,h⟩,⟨⟨Z8,X5,Z8,rfl,X5,Z6⟩,Z6⟩,K0⟩⟩
 ·have hx:x.1=L.length:=by have:=x.2;have:=Y0 hc;omega
  refine⟨(G3 L L.length).length,⟨⟨rfl,by rw[hx],Z6⟩,f,g⟩,⟨⟨0,N5 _⟩,⟨⟨rfl,rfl⟩,⟨rfl,X6 _ _⟩,rfl,rfl,Z6⟩,⟨rfl,X6 _ _⟩,Z6⟩,λy=>⟨λhc2=>?_,λhc2=>?_⟩⟩
  ·have h:=Y2 hc2;have j:=e (y.1+1) h;have A:=d y.1;rw[E4];exact⟨Y6 h,⟨U9 _,R0⟩,Z4 Z9,⟨y.1+1,h⟩,⟨⟨⟨rfl,A.symm⟩,Z8,rfl,X5,Z6⟩,⟨A.symm,a52 _ _⟩,Z6⟩,K0⟩
  ·have hy:y.1=L.length:=by have:=y.2;have:=Y0 hc2;omega
   rw[hy];exact Z8
def tkX(e:Eng)(x:Lck):Eng:={e with lk:=(T7 e.lk x).1}
def c9o(e:Eng)(tx:Int):Eng:={e with lk:=J4 e.lk tx}
def c06:Con:=.reff ⟨Eng×Lck×Nat,λx=>[.ref 0 0 11,.agg x.2.1.ts],λx=>x.1.bx x.2.2,λx=>Ji (T7 x.1.lk x.2.1).2,λx=>(tkX x.1 x.2.1).nx x.2.2,λx=>x.1.lk.H.length<=60/\x.1.lk.W.length<=100⟩
def c1v(e:Eng)(x:Lck)(v:Nat):Nat->Ann
 |0=>.one (Up e.lk.H.length) (λi=>⟨[(0,.ref 0 0 11),(3,.ref 9 0 0),(4,Ji 0),(5,.osl 10 0 (V1 e.lk.H x i.1).length),(28,.osl 7 0 e.lk.H.length),(29,Ji e.lk.H.length),(30,Ji i.1)],(c9o e x.tx).bx v++[aU x,sT (V1 e.lk.H x i.1)]⟩) (λi=>e.lk.H.length-i.1) c47 c47 (λ_=>Z3)
 |_=>.none
theorem b5D(L:List Lck)(x:Lck)(i:Nat):hsI L x i=qC L x i:=by
 unfold hsI hsB qC b18 rX;rw[Bool.eq_iff_iff];simp only[I4,nV,beq_iff_eq];constructor
 ·rintro⟨⟨a,b,c⟩,(d|d)|d⟩
  ·exact⟨⟨⟨a,b⟩,c⟩,.inl (.inr d)⟩
  ·exact⟨⟨⟨a,b⟩,c⟩,.inr d⟩
  ·exact⟨⟨⟨a,b⟩,c⟩,.inl (.inl d)⟩
 ·rintro⟨⟨⟨a,b⟩,c⟩,(d|d)|d⟩
  ·exact⟨⟨a,b,c⟩,.inr d⟩
  ·exact⟨⟨a,b,c⟩,.inl (.inl d)⟩
  ·exact⟨⟨a,b,c⟩,.inl (.inr d)⟩
theorem b5Q(L:List Wt)(w:Wt)(i:Nat):isW L w i=dD L w i:=by
 unfold isW dD;rw[show(w.tx==(L.getD i dz).tx)=((L.getD i dz).tx==w.tx) from Bool.eq_iff_iff.2 (by simp only[beq_iff_eq];exact eq_comm),show(w.fo==(L.getD i dz).fo)=((L.getD i dz).fo==w.fo) from Bool.eq_iff_iff.2 (by simp only[beq_iff_eq];exact eq_comm)]
theorem a0Y{n:Nat}{p q:Nat->Bool}(h:∀i,p i=q i):anyI n p=anyI n q:=by rw[show p=q from funext h]
theorem b6M:GK 211 c06:=gk func211<|by
 rintro⟨e,x,v⟩ ⟨A,z⟩;dsimp only at A z;have o:(X8 (cF x.tx) e.lk.W e.lk.W.length).length<=e.lk.W.length:=r5 (cF x.tx) e.lk.W e.lk.W.length;have q:=λn=>a7e (L:=e.lk.H) (x:=x) n
 refine C7 (gC b2g (gC gM (gC c6g (gC cJ (gC b1U (gC c7y (gC b66 gN))))))) func211 (c1v e x v) bC (α:=let py:=(0=0/\11=11);let pw:=(0=0/\0=0);let pq:=(Z0 Z2 e.lk.H e.lk.H);let pm:=(1=1/\1=1/\x.tx=x.tx/\x.ta=x.ta/\x.row=x.row/\x.mo=x.mo/\True);let ph:=(Z0 X2 e.X e.X);let pg:=(e.lk.H.length:Int);let pf:=(Z0 Y1 e.s.L e.s.L);let pe:=(0=0/\e.lk.H.length=e.lk.H.length);let pd:=(0=0/\e.X.length=e.X.length);let pc:=(Z0 Z1 e.s.d.C e.s.d.C);let pb:=(Z0 Z5 e.s.d.E e.s.d.E);let pa:=(0=0/\e.s.L.length=e.s.L.length);let l:=(0=0/\e.s.fr.length=e.s.fr.length);let i:=(0=0/\e.s.d.C.length=e.s.d.C.length);let c:=(0=0/\e.s.d.E.length=e.s.d.E.length);let a:=(Z0 Y9 e.s.d.keep e.s.d.keep);let n:=(0=0/\e.s.d.keep.length=e.s.d.keep.length);let m:=(T7 e.lk x);let qa:=m.1.H.length;let pt:=m.1.W.length;let po:=(Z0 Z2 e.lk.H m.1.H);let pk:=(0=0/\e.lk.H.length=qa);let r:=(v=v/\e.s.fr.length=e.s.fr.length/\V2 e.s.fr.length (Y5 e.s.fr) (Y5 e.s.fr));let q:=(X8 (cF x.tx) e.lk.W e.lk.W.length);let pu:=(Z0 Y7 q m.1.W);let pp:=q.length;let u:=(1=1/\1=1/\c/\i/\e.s.d.A=e.s.d.A/\n/\e.s.ep=e.s.ep/\pa/\e.s.S=e.s.S/\l/\e.s.J=e.s.J/\e.up=e.up/\pd/\pe/\(0=0/\pp=pp)/\e.N=e.N/\True);let p:=(1=1/\1=1/\c/\i/\e.s.d.A=e.s.d.A/\n/\e.s.ep=e.s.ep/\pa/\e.s.S=e.s.S/\l/\e.s.J=e.s.J/\e.up=e.up/\pd/\pk/\(0=0/\pp=pt)/\e.N=e.N/\True);let w:=((7=m.2/\True)/\p/\True/\True/\True/\True/\True/\True/\True/\True/\pb/\pc/\a/\pf/\r/\ph/\po/\pu/\True);∃(f:(List Wt×Lck)),let t:=(X8 (x1 f.2) f.1 f.1.length);(((0=0/\e.lk.W.length=f.1.length)/\(Fn.func 286=Fn.func 286/\pw/\True)/\True)/\((Z0 Y7 e.lk.W f.1)/\(1=1/\Z7 1 (λ(j:Nat)=>[Ji x.tx,Ji x.ta,Ji x.row,Ji x.mo]) λ(x:Nat)=>[Ji f.2.tx,Ji f.2.ta,Ji f.2.row,Ji f.2.mo])/\True)/\f.1.length<=1048576)/\∃(j:(Lks×Lck)),((Le (0+e.lk.H.length) e.lk.H.length/\Le (0+t.length) t.length)/\(((Z0 Z2 e.lk.H j.1.H)/\(Z0 Y7 t j.1.W)/\True)/\(f.2.tx=j.2.tx/\f.2.ta=j.2.ta/\f.2.row=j.2.row/\f.2.mo=j.2.mo/\True)/\True)/\L7 j.1.H.length)/\br (anyI j.1.H.length (hsI j.1.H j.2)) ((0=m.2/\True)/\(1=1/\1=1/\c/\i/\e.s.d.A=e.s.d.A/\n/\e.s.ep=e.s.ep/\pa/\e.s.S=e.s.S/\l/\e.s.J=e.s.J/\e.up=e.up/\pd/\pk/\(0=0/\t.length=pt)/\e.N=e.N/\True)/\True/\True/\True/\True/\True/\True/\True/\True/\pb/\pc/\a/\pf/\r/\ph/\po/\(Z0 Y7 t m.1.W)/\True) ((∃(X:Up e.lk.H.length),let pr:=(V1 e.lk.H x X.val);(py/\pw/\(0:Int)=0/\(0=0/\0=pr.length)/\pe/\pg=pg/\0=(X.val:Int)/\True)/\(1=1/\1=1/\c/\i/\e.s.d.A=e.s.d.A/\n/\e.s.ep=e.s.ep/\pa/\e.s.S=e.s.S/\l/\e.s.J=e.s.J/\e.up=e.up/\pd/\pe/\(0=0/\t.length=pp)/\e.N=e.N/\True)/\pb/\pc/\a/\pf/\r/\ph/\pq/\(Z0 Y7 t q)/\(1=1/\1=1/\f.2.tx=x.tx/\f.2.ta=x.ta/\f.2.row=x.row/\f.2.mo=x.mo/\True)/\(0=pr.length/\Z7 0 (λ(k:Nat)=>List.take 2 (List.drop (k*2) [])) (Y7 pr))/\True)/\∀(X:Up e.lk.H.length),let pz:=(e.lk.H.length-X.val);let pn:=(X.val:Int);let pj:=(V1 e.lk.H x X.val);let b:=(e.lk.H.getD (0+pn.toNat) dz);let z:=pj.length;let px:=(↑z:Int);bd (pn<pg) (W9 pn e.lk.H.length/\Lt (0+pn.toNat) e.lk.H.length/\∃(g:(Lck×Lck)),(((b.tx=g.1.tx/\b.ta=g.1.ta/\b.row=g.1.row/\b.mo=g.1.mo/\True)/\(x.tx=g.2.tx/\x.ta=g.2.ta/\x.row=g.2.row/\x.mo=g.2.mo/\True)/\True)/\True)/\∃(h:(List Wt×Nat×Wt)),(clash g.1 g.2=true->Le (0+z) z/\((z=h.2.1/\Z7 z (Y7 pj) (Y7 h.1))/\(x.tx=h.2.2.tx/\b.tx=h.2.2.fo/\True)/\True)/\L7 h.2.1)/\br (clash g.1 g.2&& !anyI h.2.1 (isW h.1 h.2.2)) ((Le 1 1/\Le z z/\U8 z 1 16)/\Ri (pn+1)/\∃(y:Up e.lk.H.length),let ps:=(V1 e.lk.H x y.1);((py/\pw/\(0:Int)=0/\(0=0/\z+1=ps.length)/\pe/\pg=pg/\pn+1=(y.1:Int)/\True)/\u/\pb/\pc/\a/\pf/\r/\ph/\pq/\(Z0 Y7 q q)/\pm/\(z+1=ps.length/\Z7 (z+1) (X4 (Y7 pj) z λ(k:Nat)=>List.take 2 (List.drop (k*2) [Ji x.tx,Ji b.tx])) (Y7 ps))/\True)/\Lt (e.lk.H.length-y.1) pz) (Ri (pn+1)/\∃(y:Up e.lk.H.length),((py/\pw/\(0:Int)=0/\(0=0/\z=(V1 e.lk.H x y.1).length)/\pe/\pg=pg/\pn+1=(y.1:Int)/\True)/\u/\pb/\pc/\a/\pf/\r/\ph/\pq/\(Z0 Y7 q q)/\pm/\(Z0 Y7 pj (V1 e.lk.H x y.1))/\True)/\Lt (e.lk.H.length-y.1) pz)) (br (px==0&&pg==60) w (br (px==0) ((Le 1 1/\Le e.lk.H.length e.lk.H.length/\U8 e.lk.H.length 1 32)/\(0=m.2/\True)/\(1=1/\1=1/\c/\i/\e.s.d.A=e.s.d.A/\n/\e.s.ep=e.s.ep/\pa/\e.s.S=e.s.S/\l/\e.s.J=e.s.J/\e.up=e.up/\pd/\(0=0/\e.lk.H.length+1=qa)/\(0=0/\pp=pt)/\e.N=e.N/\True)/\True/\True/\True/\True/\True/\True/\True/\True/\pb/\pc/\a/\pf/\r/\ph/\(e.lk.H.length+1=qa/\Z7 (e.lk.H.length+1) (X4 (Z2 e.lk.H) e.lk.H.length λ(k:Nat)=>List.take 4 (List.drop (k*4) [Ji x.tx,Ji x.ta,Ji x.row,Ji x.mo])) (Z2 m.1.H))/\pu/\True) (Ri ((↑pp:Int)+px)/\bd ((↑pp:Int)+px>100) w (∃(g:(List (List Wt))),let pi:=(G3 g (g.length));let pv:=pi.length;((Le (0+pp) pp/\Le (0+z) z)/\((2=g.length/\Z7 2 (eE [T.sl 2 q.length (Y7 q)] [T.sl 2 z (Y7 pj)]) (sA g))/\True)/\g.length<=100/\1<=pv/\pv<=1000000)/\∃(h:(Lks×Int)),((Le (0+e.lk.H.length) e.lk.H.length/\Le (0+pv) pv)/\(((Z0 Z2 e.lk.H h.1.H)/\(Z0 Y7 pi h.1.W)/\True)/\x.tx=h.2/\x.tx=h.2/\True)/\h.1.W.length<=100)/\br (rnd h.1.W h.2) ((14=m.2/\True)/\p/\True/\True/\True/\True/\True/\True/\True/\True/\pb/\pc/\a/\pf/\r/\ph/\po/\pu/\True) ((13=m.2/\True)/\(1=1/\1=1/\c/\i/\e.s.d.A=e.s.d.A/\n/\e.s.ep=e.s.ep/\pa/\e.s.S=e.s.S/\l/\e.s.J=e.s.J/\e.up=e.up/\pd/\pk/\(0=0/\pv=pt)/\e.N=e.N/\True)/\True/\True/\True/\True/\True/\True/\True/\True/\pb/\pc/\a/\pf/\r/\ph/\po/\(Z0 Y7 pi m.1.W)/\True))))))) ⟨(e.lk.W,x),⟨Z8,Z8,X5⟩,(J4 e.lk x.tx,x),⟨⟨K2,K2⟩,Z8,by unfold L7 J4;dsimp only;omega⟩,λhh=>?_,λhh=>⟨⟨⟨0,N5 _⟩,Z8,Z8,Z8,Z8,Z8,Z8,Z8,Z8,Z8,Z8,Z8,⟨rfl,P1⟩,Z6⟩,λy=>?_⟩⟩
 ·have hh:anyI e.lk.H.length (qC e.lk.H x)=true:=by rw[←a0Y (b5D e.lk.H x)];exact hh
  have e1:T7 e.lk x=(J4 e.lk x.tx,0):=by unfold T7;rw[if_pos hh]
  rw[e1];exact Z8
 have hh:¬anyI e.lk.H.length (qC e.lk.H x)=true:=by
  have hh:anyI e.lk.H.length (hsI e.lk.H x)=false:=hh;rw[←a0Y (b5D e.lk.H x),hh];simp
 obtain⟨i,hi⟩:=y;dsimp only at hi ⊢;have I:=q i;rw[E4,D6];refine⟨λhc=>?_,λhc=>?_⟩
 ·have hlt:=Y2 hc;have hw1:=c4F (L:=e.lk.H) (x:=x) (i:=i);refine⟨Y6 hlt,hlt,(e.lk.H.getD i dz,x),Z8,(V1 e.lk.H x i,(V1 e.lk.H x i).length,⟨x.tx,(e.lk.H.getD i dz).tx⟩),λ_=>⟨K2,Z8,rT⟩,λhq=>?_,λhq=>?_⟩
  ·dsimp only at hq;rw[a0Y (b5Q _ _)] at hq;simp only[I4,wA] at hq;rw[if_pos hq.1,if_neg (by rw[hq.2];simp)] at hw1
   have N:(V1 e.lk.H x i).length+1=(V1 e.lk.H x (i+1)).length:=by rw[hw1];simp
   refine⟨⟨U9 _,U9 _,R0⟩,Z4 Z9,⟨i+1,hlt⟩,⟨⟨Z8,Z8,rfl,⟨rfl,N⟩,Z8,rfl,X5,Z6⟩,Z8,Z8,Z8,Z8,Z8,Z8,Z8,Z8,Z8,Z8,⟨N,?_⟩,Z6⟩,K0⟩
   dsimp only;rw[hw1];exact zZ Wt.ts 2 (λ_=>rfl) (V1 e.lk.H x i) ⟨x.tx,(e.lk.H.getD i dz).tx⟩
  ·dsimp only at hq;rw[a0Y (b5Q _ _)] at hq;have r:V1 e.lk.H x (i+1)=V1 e.lk.H x i:=by
    rw[hw1];split
    ·rename_i o;rw[o,Bool.true_and,wX] at hq;rw[if_pos hq]
    ·rfl
   refine⟨Z4 Z9,⟨i+1,hlt⟩,?_,K0⟩
   dsimp only;rw[r];exact⟨⟨Z8,Z8,rfl,Z8,Z8,rfl,Z9,Z6⟩,Z8⟩
 ·obtain rfl:i=e.lk.H.length:=by have:=Y0 hc;omega
  refine⟨λh60=>?_,λh60=>⟨λh0=>?_,λh0=>⟨Z4 Z9,λB=>?_,λB=>?_⟩⟩⟩
  ·simp only[I4,beq_iff_eq] at h60;have h0:(C2 e.lk x).length=0:=by have:=h60.1;unfold C2;omega
   have e1:T7 e.lk x=(J4 e.lk x.tx,7):=by unfold T7;rw[if_neg hh,if_pos h0,if_pos Z9]
   rw[e1];exact Z8
  ·have h0':(C2 e.lk x).length=0:=by have:=beq_iff_eq.1 h0;unfold C2;omega
   have h60:¬e.lk.H.length=60:=λl=>by rw[h0,l] at h60;cases h60
   have e1:T7 e.lk x=(⟨e.lk.H++[x],(J4 e.lk x.tx).W⟩,0):=by unfold T7;rw[if_neg hh,if_pos h0',if_neg h60]
   rw[e1];exact⟨⟨U9 _,U9 _,R0⟩,Z8,⟨rfl,rfl,Z8,Z8,rfl,Z8,rfl,Z8,rfl,Z8,rfl,rfl,Z8,⟨rfl,W7⟩,Z8⟩,Z6,Z6,Z6,Z6,Z6,Z6,Z6,Z6,Z8,Z8,Z8,Z8,Z8,Z8,⟨W7,zZ Lck.ts 4 (λ_=>rfl) _ x⟩,Z8⟩
  ·have h0':¬ (C2 e.lk x).length=0:=λl=>by
    have l:(V1 e.lk.H x e.lk.H.length).length=0:=l;rw[l] at h0;cases h0
   have hb':(J4 e.lk x.tx).W.length+(C2 e.lk x).length>100:=by have:=G6 B;unfold C2 J4;dsimp only;omega
   have e1:T7 e.lk x=(J4 e.lk x.tx,7):=by unfold T7;rw[if_neg hh,if_neg h0',if_pos hb']
   rw[e1];exact Z8
  ·have t:¬ (V1 e.lk.H x e.lk.H.length).length=0:=λl=>by
    rw[l] at h0;cases h0
   have h0':¬ (C2 e.lk x).length=0:=t;have F:(X8 (cF x.tx) e.lk.W e.lk.W.length).length+(V1 e.lk.H x e.lk.H.length).length<=100:=by have:=m9 B;omega
   have hb':¬ (J4 e.lk x.tx).W.length+(C2 e.lk x).length>100:=by unfold C2 J4;dsimp only;omega
   have u:G3 [X8 (cF x.tx) e.lk.W e.lk.W.length,V1 e.lk.H x e.lk.H.length] 2=(J4 e.lk x.tx).W++C2 e.lk x:=rfl;have C:((J4 e.lk x.tx).W++C2 e.lk x).length=(X8 (cF x.tx) e.lk.W e.lk.W.length).length+(V1 e.lk.H x e.lk.H.length).length:=F6;refine⟨[X8 (cF x.tx) e.lk.W e.lk.W.length,V1 e.lk.H x e.lk.H.length],⟨⟨K2,K2⟩,⟨⟨rfl,λi hi=>by match i,hi with|0,_=>rfl|1,_=>rfl⟩,Z6⟩,by show 2<=100;omega,?_,?_⟩,(⟨e.lk.H,(J4 e.lk x.tx).W++C2 e.lk x⟩,x.tx),⟨⟨K2,K2⟩,⟨⟨⟨rfl,X6 _ _⟩,⟨rfl,X6 _ _⟩,Z6⟩,rfl,rfl,Z6⟩,X5⟩,λhr=>?_,λhr=>?_⟩
   ·show 1<=((J4 e.lk x.tx).W++C2 e.lk x).length;omega
   ·show((J4 e.lk x.tx).W++C2 e.lk x).length<=1000000;omega
   ·have hr:rnd ((J4 e.lk x.tx).W++C2 e.lk x) x.tx=true:=hr;have e1:T7 e.lk x=(J4 e.lk x.tx,14):=by unfold T7;rw[if_neg hh,if_neg h0',if_neg hb',if_pos hr]
    rw[e1];exact Z8
   ·have hr:¬rnd ((J4 e.lk x.tx).W++C2 e.lk x) x.tx=true:=by
     have hr:rnd ((J4 e.lk x.tx).W++C2 e.lk x) x.tx=false:=hr;rw[hr];simp
    have e1:T7 e.lk x=(⟨e.lk.H,(J4 e.lk x.tx).W++C2 e.lk x⟩,13):=by unfold T7;rw[if_neg hh,if_neg h0',if_neg hb',if_neg hr]
    rw[e1];exact Z8
def vB(e:Eng)(k:Nat)(ta row mo:Int):Nat:=if(T7 e.lk (qF e k ta row mo)).2=14 then(J0 (pF e k ta row mo) k).1.2 else 0
def c3J:Con:=.reff ⟨Eng×Nat×Int×Int×Int×Int,λx=>[.ref 0 0 0,Ji x.2.2.2.2.2,Ji x.2.2.1,Ji x.2.2.2.1,Ji x.2.2.2.2.1],λx=>x.1.bx 0,λx=>Ji (R5 x.1 x.2.1 x.2.2.1 x.2.2.2.1 x.2.2.2.2.1).2,λx=>(R5 x.1 x.2.1 x.2.2.1 x.2.2.2.1 x.2.2.2.2.1).1.nx (vB x.1 x.2.1 x.2.2.1 x.2.2.2.1 x.2.2.2.2.1),λx=>XI x.1 x.2.1 x.2.2.2.2.2⟩
theorem b1e{a:Int}(h:(a !=0)=true):¬a=0:=x8
theorem a3g{a:Int}(h:(a !=0)=false):a=0:=x8
theorem b5N:GK 125 c3J:=gk func125<|by
 rintro⟨e,k,ta,row,mo,tx⟩ h;dsimp only at h;have ht:=sI h ta row mo;have d:=h.u.u.id;have f:qF e k ta row mo=⟨tx,ta,row,mo⟩:=by unfold qF;rw[d]
 refine C7 (gC b6M (gC b9v gN)) func125 Z3 bC (α:=let z:=(vB e k ta row mo);let p:=(R5 e k ta row mo);∃(x:(Eng×Lck×Nat)),let q:=(T7 x.1.lk x.2.1);(((0=0/\11=11)/\(tx=x.2.1.tx/\ta=x.2.1.ta/\row=x.2.1.row/\mo=x.2.1.mo/\True)/\True)/\(iQ (0) (x.2.2) e x.1)/\x.1.lk.H.length<=60/\x.1.lk.W.length<=100)/\br (q.2==14) (∃(X:(Eng×Int×Nat)),let r:=(J0 X.1 X.2.2);(((0=0/\0=0)/\tx=X.2.1/\True)/\(iQ (x.2.2) (0) {x.1 with lk:=q.1} X.1)/\UI X.1 X.2.2 X.2.1 (X.1.X.getD X.2.2 dz).Z)/\br (r.2 !=0) ((r.2=p.2/\True)/\lP (r.1.2) z r.1.1 p.1) ((q.2=p.2/\True)/\lP (r.1.2) z r.1.1 p.1)) ((q.2=p.2/\True)/\lP (x.2.2) z {x.1 with lk:=q.1} p.1)) ⟨(e,qF e k ta row mo,0),⟨⟨Z8,⟨d.symm,Z8⟩,Z6⟩,Z8,h.u.u.lk.1,h.u.u.lk.2⟩,λhq=>?_,λhq=>?_⟩
 ·have hq:(T7 e.lk (qF e k ta row mo)).2=14:=beq_iff_eq.1 hq;have ev:vB e k ta row mo=(J0 (pF e k ta row mo) k).1.2:=if_pos hq;refine⟨(pF e k ta row mo,tx,k),⟨Z8,Z8,ht.u⟩,λhn=>?_,λhn=>?_⟩
  ·have hn:¬ (J0 (pF e k ta row mo) k).2=0:=b1e hn;have hc:=(c8K (pF e k ta row mo) k).resolve_left hn;have e1:R5 e k ta row mo=((J0 (pF e k ta row mo) k).1.1,15):=by unfold R5;rw[if_pos hq,if_neg hn]
   rw[e1,ev];exact⟨⟨hc,Z6⟩,Z8⟩
  ·have hn:(J0 (pF e k ta row mo) k).2=0:=a3g hn;have e1:R5 e k ta row mo=((J0 (pF e k ta row mo) k).1.1,14):=by unfold R5;rw[if_pos hq,if_pos hn]
   rw[e1,ev];exact⟨⟨hq,Z6⟩,Z8⟩
 ·have hq:¬ (T7 e.lk (qF e k ta row mo)).2=14:=λe1=>by
   have hq:((T7 e.lk (qF e k ta row mo)).2==14)=false:=hq;rw[e1] at hq;cases hq
  have ev:vB e k ta row mo=0:=if_neg hq;have e1:R5 e k ta row mo=(pF e k ta row mo,(T7 e.lk (qF e k ta row mo)).2):=by unfold R5;rw[if_neg hq]
  rw[e1,ev];exact Z8
def a45(g s:Int):Option Ob:=some (.arr true 1000000 2 1 λ_=>[Ji g,Ji s])
def hitB(r:Rec)(g s:Int):Bool:=(r.g==g)&&(r.s==s)
def c02:Con:=.reff ⟨Rec×Int×Int×Bool,λx=>[.agg x.1.ts,.ref 0 0 0,.ref 1 0 0],λx=>[fJ x.2.2.2,a45 x.2.1 x.2.2.1],λ_=>.bool true,λx=>[fJ (x.2.2.2||hitB x.1 x.2.1 x.2.2.1),a45 x.2.1 x.2.2.1],λ_=>True⟩
theorem c09(r:Rec)(g s:Int)(b:Bool)(h:
  (true=true/\True)/\(1=1/\1=1/\(b||r.g==g&&r.s==s)=(b||hitB r g s)/\True)/\(1=1/\1=1/\g=g/\s=s/\True)/\True):
  F8 prog 269 [.agg r.ts,.ref 0 0 0,.ref 1 0 0] [fJ b,a45 g s] (.bool true) [fJ (b||hitB r g s),a45 g s]:=
 C7 gN func269 Z3 [iV] h
theorem b7S:GK 269 c02:=gk func269<|λx _=>c09 x.1 x.2.1 x.2.2.1 x.2.2.2 Z8
def c5w:Con:=.reff ⟨Sto×Int×Int×Int,λx=>[.bref x.1.ts,Ji x.2.1,.fn (.func 269) [.ref 0 0 0,.ref 1 0 0]],λx=>[fJ false,a45 x.2.2.1 x.2.2.2],λ_=>.tup [],λx=>[fJ (kepA x.1.L x.2.2.1 x.2.2.2 61 x.2.1),a45 x.2.2.1 x.2.2.2],λx=>rH x.1.L x.2.1⟩
def KpU(L:List Rec)(g s f:Int):Type:={x:Nat×Int×Bool//(x.2.2||kepA L g s x.1 x.2.1)=kepA L g s 61 f/\x.2.1<=(L.length:Int)/\x.2.1.toNat<x.1}
def c5s(t:Sto)(f g s:Int):Nat->Ann
 |0=>.one (KpU t.L g s f) (λx=>⟨[(0,.bref t.ts),(1,Ji x.1.2.1),(2,.fn (.func 269) [.ref 0 0 0,.ref 1 0 0])],[fJ x.1.2.2,a45 g s]⟩) (λx=>x.1.1) iV iV (λ_=>Z3)
 |_=>.none
theorem c32:GK 268 c5w:=gk func268<|by
 rintro⟨t,F,g,s⟩ ⟨L,o⟩;dsimp only at L o;have q:=L.1;refine C7 (gC b7S gN) func268 (c5s t F g s) [iV] (α:=let b:=(0=0/\0=0);let w:=(o5 [some 0,some 1]);let u:=(T.bref t.ts);let z:=(1=1/\1=1/\g=g/\s=s/\True);let r:=(Fn.func 269=Fn.func 269/\b/\b/\True);(∃(x:KpU t.L g s F),(J9 w u u/\F=x.1.2.1/\r/\True)/\(1=1/\1=1/\false=x.1.2.2/\True)/\z/\True)/\∀(x:KpU t.L g s F),let a:=x.1.2;let j:=(a.1- (1:Int));let v:=((True/\True)/\(1=1/\1=1/\a.2=kepA t.L g s 61 F/\True)/\z/\True);let q:=(t.L.getD j.toNat dz);bd (a.1>(0:Int)) (Ri j/\W9 j t.L.length/\br (q.k==3) (∃(y:KpU t.L g s F),((J9 w u u/\q.n=y.1.2.1/\r/\True)/\(1=1/\1=1/\a.2=y.1.2.2/\True)/\z/\True)/\Lt y.1.1 x.1.1) (∃(X:(Rec×Int×Int×Bool)),let f:=(X.2.2.2||hitB X.1 X.2.1 X.2.2.1);let m:=(1=1/\1=1/\X.2.1=g/\X.2.2.1=s/\True);((q.k==2)=true->((EqR q X.1)/\b/\b/\True)/\((1=1/\Z7 1 (λ(x_2:Nat)=>[T.bool a.2]) λ(x:Nat)=>[T.bool X.2.2.2])/\(1=1/\Z7 1 (λ(x:Nat)=>[Ji g,Ji s]) λ(x:Nat)=>[Ji X.2.1,Ji X.2.2.1])/\True)/\True)/\((q.k==2)=true->br (q.k==2&&false) ((True/\True)/\(1=1/\1=1/\f=kepA t.L g s 61 F/\True)/\m/\True) (∃(y:KpU t.L g s F),((J9 w u u/\q.p=y.1.2.1/\r/\True)/\(1=1/\1=1/\f=y.1.2.2/\True)/\m/\True)/\Lt y.1.1 x.1.1))/\(((q.k==2)=true->False)->br (q.k==2&&false) v (∃(y:KpU t.L g s F),((J9 w u u/\q.p=y.1.2.1/\r/\True)/\(1=1/\1=1/\a.2=y.1.2.2/\True)/\z/\True)/\Lt y.1.1 x.1.1)))) v) ⟨⟨⟨(61,F,false),Bool.false_or _,o,X5⟩,⟨U1 _,Z8⟩,Z8⟩,λx=>?_⟩
 obtain⟨⟨f,a,b⟩,e,j,r⟩:=x;dsimp only at e j r ⊢;refine⟨λhc=>?_,λhc=>?_⟩
 ·have h0:a>0:=G6 hc;have h0':¬a<=0:=by omega
  obtain⟨C,A,v,z⟩:=L.prev (show 1<=a by omega) j
  obtain⟨f,rfl⟩:∃u,f=u+1:=⟨f-1,Z9⟩
  rw[c4i h0'] at e;refine⟨Z4 Z9,⟨Z9,Z9⟩,λd=>?_,λd=>?_⟩
  ·have d:(Y8 t.L a).k=3:=beq_iff_eq.1 d;rw[if_pos d] at e;exact⟨⟨(f,(Y8 t.L a).n,b),e,X5,X5⟩,⟨⟨U1 _,Z8⟩,Z8⟩,K0⟩
  ·have d:(Y8 t.L a).k≠3:=λh=>by
    have d:((Y8 t.L a).k==3)=false:=d;rw[h] at d;cases d
   rw[if_neg d] at e;refine⟨(Y8 t.L a,g,s,b),λ_=>Z8,λh2=>⟨λi=>?_,λ_=>?_⟩,λh2=>⟨λi=>?_,λ_=>?_⟩⟩
   ·rw[Bool.and_false] at i;cases i
   ·have h2:(Y8 t.L a).k=2:=beq_iff_eq.1 h2;have l:((b||hitB (Y8 t.L a) g s)||kepA t.L g s f (Y8 t.L a).p)=kepA t.L g s 61 F:=by
     rw[←e];unfold hitB;by_cases hg:(Y8 t.L a).g=g/\(Y8 t.L a).s=s
     ·rw[if_pos ⟨h2,hg⟩,hg.1,hg.2];simp
     ·rw[if_neg λh=>hg h.2]
      have:((Y8 t.L a).g==g&&(Y8 t.L a).s==s)=false:=by
       cases B:((Y8 t.L a).g==g&&(Y8 t.L a).s==s) with
       |false=>rfl
       |true=>
        simp only[I4,beq_iff_eq] at B;exact absurd B hg
      rw[this,Bool.or_false]
    exact⟨⟨(f,(Y8 t.L a).p,b||hitB (Y8 t.L a) g s),l,X5,X5⟩,⟨⟨U1 _,Z8⟩,Z8⟩,K0⟩
   ·rw[Bool.and_false] at i;cases i
   ·have h2:¬ (Y8 t.L a).k=2:=λh=>h2 (beq_iff_eq.2 h)
    rw[if_neg λh=>h2 h.1] at e
    exact⟨⟨(f,(Y8 t.L a).p,b),e,X5,X5⟩,⟨⟨U1 _,Z8⟩,Z8⟩,K0⟩
 ·have h0:a<=0:=by have:=m9 hc;omega
  rw[c4c h0,Bool.or_false] at e;exact⟨Z8,⟨rfl,rfl,e,Z6⟩,Z8⟩
def b75:Con:=.rel ⟨Eng×Int×Int×Int,λx=>[.bref x.1.ts,Ji x.2.1,.agg [Ji x.2.2.1,Ji x.2.2.2]],λx=>.bool (lN x.1 x.2.1 x.2.2.1 x.2.2.2),λx=>wT x.1⟩
def b67(e:Eng)(tx g s:Int):Nat->Ann
 |0=>.one (V5 e.X.length (oQ e tx g s)) (λx=>⟨[(0,.bref e.ts),(1,Ji tx),(5,.ref 0 0 0),(13,tV e.X),(14,Ji e.X.length),(15,Ji x.1)],[a45 g s]⟩) (λx=>e.X.length-x.1) [.box 0] [.box 0] (λ_=>Z3)
 |_=>.none
theorem b3t:GK 184 b75:=gk func184<|by
 rintro⟨e,tx,g,s⟩ ⟨hL,d,hb⟩;dsimp only at hL d hb;refine U6 (gC c32 gN) func184 (b67 e tx g s) (α:=let z:=(0=0/\0=0);let r:=(T.bref e.ts);let p:=(e.X.length:Int);(∃(x:V5 e.X.length (oQ e tx g s)),(J9 (o5 [some 0]) r r/\tx=tx/\z/\(Z0 X2 e.X e.X)/\p=p/\0=(x.1:Int)/\True)/\(1=1/\1=1/\g=g/\s=s/\True)/\True)/\∀(x:V5 e.X.length (oQ e tx g s)),let q:=(x.1:Int);let u:=(e.X.getD q.toNat dz);bd (q<p) (W9 q e.X.length/\∃(X:(Sto×Int×Int×Int)),(((yU e.s X.1)/\u.Z=X.2.1/\(Fn.func 269=Fn.func 269/\z/\z/\True)/\True)/\((1=1/\Z7 1 (setRow (λ(x:Nat)=>[T.bool false]) 0 0 [T.bool false]) λ(x:Nat)=>[T.bool false])/\(1=1/\Z7 1 (λ(x:Nat)=>[Ji g,Ji s]) λ(x:Nat)=>[Ji X.2.2.1,Ji X.2.2.2])/\True)/\rH X.1.L X.2.1)/\br (kepA X.1.L X.2.2.1 X.2.2.2 61 X.2.1&&u.id !=tx) (true=lN e tx g s) (Ri (q+1)/\∃(y:V5 e.X.length (oQ e tx g s)),((J9 (o5 [some 0]) r r/\tx=tx/\z/\(Z0 X2 e.X e.X)/\p=p/\q+1=(y.1:Int)/\True)/\(1=1/\1=1/\X.2.2.1=g/\X.2.2.2=s/\True)/\True)/\Lt (e.X.length-y.1) (e.X.length-x.1))) (false=lN e tx g s)) ⟨⟨F9,⟨U1 _,Z8⟩,Z8⟩,λx=>⟨λhc=>?_,λhc=>?_⟩⟩
 ·have hlt:=Y2 hc;have hx:=hb x.1 hlt;rw[E4];have hkb:(kepA e.s.L g s 61 (e.X.getD x.1 dz).Z&&(e.X.getD x.1 dz).id !=tx)=oQ e tx g s x.1:=Bool.and_comm _ _;refine⟨Y6 hlt,(e.s,(e.X.getD x.1 dz).Z,g,s),⟨⟨(jV _),Z8⟩,⟨⟨rfl,λi hi=>b97⟩,Z8⟩,hL,hx⟩,λhq=>?_,λhq=>?_⟩
  ·exact(R9.2 ⟨x.1,hlt,hkb.symm.trans hq⟩).symm
  ·exact⟨W4 hlt Z9,x.succ hlt (hkb.symm.trans hq),⟨⟨U1 _,rfl,Z8,Z8,rfl,J2,Z6⟩,Z8⟩,V5.ext_lt hlt⟩
 ·have h:=Y0 hc;exact(P5.2 λj J=>x.2.2 j (yB J h)).symm
def c11:Con:=.rel ⟨Bz×Int×Int,λx=>[.str x.1,Ji x.2.1,Ji x.2.2],λx=>.bool (a1G x.1 x.2.1 x.2.2),λx=>x.1.length<=1000⟩
theorem b6G:GK 183 c11:=gk func183<|by
 rintro⟨b,ta,id⟩ (h:b.length<=1000);have I:=c51 (t:=b) Z9
 obtain⟨d,e⟩:=c5j b;refine U6 (gC a83 gN) func183 Z3 (α:=Lt b.length 140737488355329/\∃(x:a0r.ι),((b=x/\True)/\lJ x)/\((zM x).2.2==(0:Int)&&(zM x).1==ta&&(zM x).2.1.id==id)=a1G b ta id) ⟨Q2,b,⟨Z8,by show b.length<=_;omega⟩,?_⟩
 unfold a1G;cases r:a0D b with
 |none=>
  rw[r] at I d;rw[I,d];rfl
 |some x=>
  rw[r] at I;rw[I,e x r];rfl
def plI(a b:Int):Option Ob:=some (.arr true 1000000 2 1 λ_=>[Ji a,Ji b])
def Eng.fy(e:Eng)(v:Nat)(A:Plc):X9:=[gS (e.tn 13 14 15 16 17 18 19 20),none,none,none,none,none,none,none,none,plI 0 0,plI 0 0,plI A.a A.b,plI A.c A.d,A4 e.s.d.E,D5 e.s.d.C,A3 e.s.d.keep,k4 e.s.L,xD v e.s.fr e.s.fr.length,sQ e.X,zB e.lk.H,sT e.lk.W]
def sO(e:Eng)(tx ta id:Int):Nat->Nat
 |0=>0
 |n+1=>if(T2 e tx ta id n).2.2=true then P8 (T2 e tx ta id n).1 n (sO e tx ta id n) else sO e tx ta id n
def slI(a b:Int):Int:=if a<0 then 0 else b
def nX(A:Plc):Plc:=⟨A.a,slI A.a A.b,A.c,slI A.c A.d⟩
def r7(e:Eng)(tx ta id:Int):{y:(Eng×Nat)×Plc×Bool//y=((R7 e (T2 e tx ta id 8).1,sO e tx ta id 8),nX (T2 e tx ta id 8).2.1,(T2 e tx ta id 8).2.2)}:=Classical.choice ⟨⟨_,rfl⟩⟩
def c5L:Con:=.reff ⟨Eng×Int×Int×Int,λx=>[.ref 0 0 0,Ji x.2.1,Ji x.2.2.1,Ji x.2.2.2],λx=>x.1.bx 0,λx=>.tup [.agg [Ji (r7 x.1 x.2.1 x.2.2.1 x.2.2.2).1.2.1.a,Ji (r7 x.1 x.2.1 x.2.2.1 x.2.2.2).1.2.1.b],.agg [Ji (r7 x.1 x.2.1 x.2.2.1 x.2.2.2).1.2.1.c,Ji (r7 x.1 x.2.1 x.2.2.1 x.2.2.2).1.2.1.d],.bool (r7 x.1 x.2.1 x.2.2.1 x.2.2.2).1.2.2],λx=>(r7 x.1 x.2.1 x.2.2.1 x.2.2.2).1.1.1.nx (r7 x.1 x.2.1 x.2.2.1 x.2.2.2).1.1.2,λx=>SI x.1.s/\wT x.1⟩
def c6k(tx ta id:Int)(F:Nat->Eng)(V:Nat->Nat)(A:Nat->Plc)(B:Nat->Bool)(X:Nat->Nat)(I:Nat->Nat->Plc):Nat->Ann
 |0=>.one (FdI B) (λx=>⟨[(0,.ref 0 0 0),(1,Ji tx),(2,Ji ta),(3,Ji id),(8,.ref 9 0 0),(9,.ref 10 0 0),(11,.ref 11 0 0),(12,.ref 12 0 0),(20,Ji x.1)],(F x.1).fy (V x.1) (A x.1)⟩) (λx=>8-x.1) a8N a8N (λx=>fun
  |1=>.one (Up 4) (λy=>⟨[(0,.ref 0 0 0),(1,Ji tx),(2,Ji ta),(3,Ji id),(8,.ref 9 0 0),(9,.ref 10 0 0),(11,.ref 11 0 0),(12,.ref 12 0 0),(13,Ji x.1),(20,Ji x.1),(36,.posl 17 (V (x.1+1)) (X x.1) 2 4),(37,Ji 4),(38,Ji y.1)],(F (x.1+1)).fy (V (x.1+1)) (I x.1 y.1)⟩) (λy=>4-y.1) a8N a8N (λ_=>Z3)
  |_=>.none)
 |_=>.none
theorem c7C(e:Eng)(tx ta id:Int)(F:Nat->Eng)(V:Nat->Nat)(A:Nat->Plc)(B:Nat->Bool)(X:Nat->Nat)(I:Nat->Nat->Plc)(h:
let r:=(0=0/\0=0);let p:=(1=1/\1=1/\(0:Int)=0/\(0:Int)=0/\True);  (∃(x:FdI B),let pi:=(A x.1);(r/\tx=tx/\ta=ta/\id=id/\r/\r/\r/\r/\0=(x.1:Int)/\True)/\BxG e (F x.1)/\True/\True/\True/\True/\True/\True/\True/\True/\p/\p/\(1=1/\1=1/\(-1:Int)=pi.a/\0=pi.b/\True)/\(1=1/\1=1/\(-1:Int)=pi.c/\0=pi.d/\True)/\uL (0) (V x.1) e (F x.1))/\∀(x:FdI B),let q:=x.1;let pb:=((A q).c=(A 8).c/\(A q).d=(A 8).d/\True);let pa:=((A q).a=(A 8).a/\(A q).b=(A 8).b/\True);let n:=(V (q+1));let m:=(V (q+1)=V (q+1)/\X q=X q/\2=2/\4=4);let k:=((pa/\pb/\false=B 8/\True)/\True);let u:=(F (q+1));let ph:=(u.s.fr.getD (X q) dz);let l:=ph.pg.sl.getD;bd ((q:Int)<8) ((∃(f:(Sto×Nat×Nat)),let w:=(Y3 f.1 f.2.1);let pf:=(w.1.fr.getD w.2.1 dz).pg.sl.length;((r/\(q:Int)=(f.2.1:Int)/\True)/\(LnS (V q) (f.2.2) (F q).s f.1)/\iX f.1 f.2.1/\w.2.2=true)/\br false (k/\lP (P8 f.1 f.2.1 f.2.2) (V 8) {(F q) with s:=w.1} (F 8)) (Lt w.2.1 w.1.fr.length/\(∃(g:Up 4),let t:=(I x.1 g.val);(r/\tx=tx/\ta=ta/\id=id/\r/\r/\r/\r/\(q:Int)=(q:Int)/\(q:Int)=(q:Int)/\(P8 f.1 f.2.1 f.2.2=V (q+1)/\w.2.1=X q/\2=2/\pf=4)/\(↑pf:Int)=4/\0=(g.val:Int)/\True)/\BxG {(F q) with s:=w.1} u/\True/\True/\True/\True/\True/\True/\True/\True/\p/\p/\(1=1/\1=1/\(A q).a=t.a/\(A q).b=t.b/\True)/\(1=1/\1=1/\(A q).c=t.c/\(A q).d=t.d/\True)/\uL (P8 f.1 f.2.1 f.2.2) n {(F q) with s:=w.1} u)/\∀(g:Up 4),let v:=(g.val:Int);let z:=(I x.1 g.val);bd (v<4) (W9 v 4/\PfB n n (X q) u.s.fr.length v.toNat ph.pg.sl.length/\∃(j:(Bz×Int×Int)),(decide (z.a<0)=true->(l v.toNat []=j.1/\ta=j.2.1/\id=j.2.2/\True)/\j.1.length<=1000)/\br (decide (z.a<0)&&a1G j.1 j.2.1 j.2.2) (Ri (v+1)/\∃(y:Up 4),let pc:=(I x.1 y.1);((r/\tx=tx/\ta=ta/\id=id/\r/\r/\r/\r/\(q:Int)=(q:Int)/\(q:Int)=(q:Int)/\m/\(4:Int)=4/\v+1=(y.1:Int)/\True)/\BxG u u/\True/\True/\True/\True/\True/\True/\True/\True/\p/\p/\(1=1/\1=1/\(q:Int)=pc.a/\v=pc.b/\True)/\(1=1/\1=1/\z.c=pc.c/\z.d=pc.d/\True)/\uL n n u u)/\Lt (4-y.1) (4-g.val)) (∃(i:(Eng×Int×Int×Int)),((decide (z.c<0)&&l v.toNat []==[])=true->(LeG u)/\((qD u i.1)/\tx=i.2.1/\((q:Int)=i.2.2.1/\v=i.2.2.2/\True)/\True)/\wT i.1)/\br (decide (z.c<0)&&l v.toNat []==[]&& !lN i.1 i.2.1 i.2.2.1 i.2.2.2) (Ri (v+1)/\∃(y:Up 4),let pd:=(I x.1 y.1);((r/\tx=tx/\ta=ta/\id=id/\r/\r/\r/\r/\(q:Int)=(q:Int)/\(q:Int)=(q:Int)/\m/\(4:Int)=4/\v+1=(y.1:Int)/\True)/\BxG u u/\True/\True/\True/\True/\True/\True/\True/\True/\p/\p/\(1=1/\1=1/\z.a=pd.a/\z.b=pd.b/\True)/\(1=1/\1=1/\(q:Int)=pd.c/\v=pd.d/\True)/\uL n n u u)/\Lt (4-y.1) (4-g.val)) (Ri (v+1)/\∃(y:Up 4),let pe:=(I x.1 y.1);((r/\tx=tx/\ta=ta/\id=id/\r/\r/\r/\r/\(q:Int)=(q:Int)/\(q:Int)=(q:Int)/\m/\(4:Int)=4/\v+1=(y.1:Int)/\True)/\BxG u u/\True/\True/\True/\True/\True/\True/\True/\True/\p/\p/\(1=1/\1=1/\z.a=pe.a/\z.b=pe.b/\True)/\(1=1/\1=1/\z.c=pe.c/\z.d=pe.d/\True)/\uL n n u u)/\Lt (4-y.1) (4-g.val)))) (Ri ((q:Int)+1)/\∃(y:FdI B),let pj:=(A y.1);((r/\tx=tx/\ta=ta/\id=id/\r/\r/\r/\r/\(q:Int)+1=(y.1:Int)/\True)/\BxG u (F y.1)/\True/\True/\True/\True/\True/\True/\True/\True/\p/\p/\(1=1/\1=1/\z.a=pj.a/\z.b=pj.b/\True)/\(1=1/\1=1/\z.c=pj.c/\z.d=pj.d/\True)/\uL n (V y.1) u (F y.1))/\Lt (8-y.1) (8-q))))∨∃(f:(Sto×Nat×Nat)),((r/\(q:Int)=(f.2.1:Int)/\True)/\(LnS (V q) (f.2.2) (F q).s f.1)/\iX f.1 f.2.1/\(Y3 f.1 f.2.1).2.2=false)/\br true (k/\lP (P8 f.1 f.2.1 f.2.2) (V 8) {(F q) with s:=(Y3 f.1 f.2.1).1} (F 8)) False) (((pa/\pb/\true=B 8/\True)/\True)/\lP (V q) (V 8) (F q) (F 8))):
  F8 prog 96 [.ref 0 0 0,Ji tx,Ji ta,Ji id] (e.bx 0) (.tup [.agg [Ji (A 8).a,Ji (A 8).b],.agg [Ji (A 8).c,Ji (A 8).d],.bool (B 8)]) ((F 8).nx (V 8)):=
 C7 (gC lH (gC lI (gC b6G (gC b3t gN)))) func96 (c6k tx ta id F V A B X I) bC h
theorem c6c{e:Eng}{tx ta id:Int}{n:Nat}(h:(T2 e tx ta id n).2.2=true):sO e tx ta id (n+1)=P8 (T2 e tx ta id n).1 n (sO e tx ta id n):=by
 conv=>lhs;unfold sO
 rw[if_pos h]
theorem b0N{e:Eng}{tx ta id:Int}{n:Nat}(h:(T2 e tx ta id n).2.2=false):∀m,sO e tx ta id (n+m)=sO e tx ta id n
 |0=>rfl
 |m+1=>by
  have i:=b0N h m;show(if(T2 e tx ta id (n+m)).2.2=true then _ else sO e tx ta id (n+m))=_
  rw[a04 h m,if_neg cW]
  exact i
theorem c69(ta id:Int):a1G [] ta id=false:=rfl
theorem c6Y{A:Plc}{n i:Nat}:nX ⟨n,i,A.c,A.d⟩=⟨n,i,A.c,slI A.c A.d⟩:=by
 unfold nX slI;rw[if_neg (show ¬ ((n:Int)<0) by omega)]
theorem c7i{A:Plc}{n i:Nat}:nX ⟨A.a,A.b,n,i⟩=⟨A.a,slI A.a A.b,n,i⟩:=by
 unfold nX slI;rw[if_neg (show ¬ ((n:Int)<0) by omega)]
theorem c3l:GK 96 c5L:=gk func96<|by
 rintro⟨e,tx,ta,id⟩ ⟨h,N⟩;dsimp only at h N;show F8 _ _ _ _ (.tup [.agg [Ji (r7 e tx ta id).1.2.1.a,Ji (r7 e tx ta id).1.2.1.b],.agg [Ji (r7 e tx ta id).1.2.1.c,Ji (r7 e tx ta id).1.2.1.d],.bool (r7 e tx ta id).1.2.2]) ((r7 e tx ta id).1.1.1.nx (r7 e tx ta id).1.1.2);rw[(r7 e tx ta id).2];refine c7C e tx ta id (λn=>R7 e (T2 e tx ta id n).1) (sO e tx ta id) (λn=>nX (T2 e tx ta id n).2.1) (λn=>(T2 e tx ta id n).2.2) (λn=>(Y3 (T2 e tx ta id n).1 n).2.1) (λn i=>nX (vJ e tx ta id n (fpg e tx ta id n) (T2 e tx ta id n).2.1 i)) ⟨⟨⟨0,Z8⟩,Z8⟩,λx=>?_⟩
 obtain⟨n,B,hv⟩:=x;dsimp only at B hv ⊢;refine⟨λhc=>?_,λhc=>?_⟩
 ·have hlt:n<8:=by have:=G6 hc;omega
  obtain⟨q,J,U⟩:=(b4b h tx ta id n B).lv hv;have l:=c6c hv;cases u:(Y3 (T2 e tx ta id n).1 n).2.2 with
  |false=>
   have j:=c4m hv u;have z:=a04 (n:=n+1) lV (8- (n+1))
   have v:=b0N (n:=n+1) lV (8- (n+1))
   rw[show n+1+(8- (n+1))=8 by omega] at z v
   refine .inr ⟨((T2 e tx ta id n).1,n,sO e tx ta id n),⟨Z8,Z8,⟨q.iv,hlt⟩,u⟩,λ_=>?_,λF=>(by cases F)⟩
   rw[z,v,j,l];exact Z8
  |true=>
   have j:=c4T hv u;obtain⟨C,_,_,r,ps⟩:=xM q.iv hlt u;have f:(Y3 (T2 e tx ta id n).1 n).1.L=e.s.L:=(rQ q hlt u).2.trans J;have t:wT (R7 e (Y3 (T2 e tx ta id n).1 n).1):=by
    refine⟨?_,N.2.1,?_⟩
    ·show xL (Y3 (T2 e tx ta id n).1 n).1.L;rw[f];exact N.1
    ·show ∀i,i<e.X.length->(e.X.getD i dz).Z<=((Y3 (T2 e tx ta id n).1 n).1.L.length:Int);rw[f];exact N.2.2
   have hK:=λg sl=>b0l f tx g sl
   have r:(fpg e tx ta id n).sl.length=4:=r;have ps:∀i,i<4->((fpg e tx ta id n).sl.getD i []).length<=30:=λi hi=>ps i (by show i<(fpg e tx ta id n).sl.length;omega)
   have hp:((Y3 (T2 e tx ta id n).1 n).1.fr.getD (Y3 (T2 e tx ta id n).1 n).2.1 dz).pg=fpg e tx ta id n:=rfl;have O:=b7H e tx ta id n (fpg e tx ta id n) (T2 e tx ta id n).2.1;have o:vJ e tx ta id n (fpg e tx ta id n) (T2 e tx ta id n).2.1 0=(T2 e tx ta id n).2.1:=rfl;refine .inl ⟨((T2 e tx ta id n).1,n,sO e tx ta id n),⟨Z8,Z8,⟨q.iv,hlt⟩,u⟩,λF=>(by cases F),λ_=>?_⟩
   rw[j,l];have R:(T2 e tx ta id (n+1)).2.2=true:=lV
   have M:(T2 e tx ta id (n+1)).2.1=vJ e tx ta id n (fpg e tx ta id n) (T2 e tx ta id n).2.1 4:=lV
   have hF:(T2 e tx ta id (n+1)).1=(Y3 (T2 e tx ta id n).1 n).1:=lV
   clear j;dsimp only;have L:(((R7 e (Y3 (T2 e tx ta id n).1 n).1).s.fr.getD (Y3 (T2 e tx ta id n).1 n).2.1 dz).pg)=fpg e tx ta id n:=rfl;rw[L,hp];generalize fpg e tx ta id n=p at*;generalize (T2 e tx ta id n).2.1=A at*;generalize vJ e tx ta id n p A=I at*;refine⟨C,⟨⟨0,N5 _⟩,⟨Z8,rfl,rfl,rfl,Z8,Z8,Z8,Z8,rfl,rfl,⟨rfl,rfl,rfl,r⟩,Z9,Z8⟩,Z8,Z6,Z6,Z6,Z6,Z6,Z6,Z6,Z6,Z8,Z8,⟨rfl,rfl,by rw[o],by rw[o],Z6⟩,⟨rfl,rfl,by rw[o],by rw[o],Z6⟩,⟨rfl,X6 _ _⟩,⟨rfl,X6 _ _⟩,⟨rfl,X6 _ _⟩,⟨rfl,X6 _ _⟩,⟨rfl,rfl,mW _⟩,⟨rfl,X6 _ _⟩,⟨rfl,X6 _ _⟩,⟨rfl,X6 _ _⟩,Z6⟩,λy=>?_⟩
   obtain⟨i,hi⟩:=y;dsimp only at hi ⊢;refine⟨λhc2=>?_,λhc2=>?_⟩
   ·have hit:i<4:=by have:=G6 hc2;omega
    have hIi:=O i;have Q:=ps i hit;rw[E4];refine⟨⟨Z9,Z9⟩,⟨rfl,C,Z9⟩,(p.sl.getD i [],ta,id),λ_=>⟨Z8,X5⟩,λhq=>?_,λhq=>⟨(R7 e (Y3 (T2 e tx ta id n).1 n).1,tx,n,i),λ_=>⟨Z8,Z8,t⟩,λhr=>?_,λhr=>?_⟩⟩
    ·simp only[I4,q8] at hq;have hz:¬p.sl.getD i []=[]:=λhz=>by
      have:=hq.2;rw[hz,c69] at this;cases this
     rw[if_neg hz,if_pos ⟨hq.2,hq.1⟩] at hIi;have e1:nX (I (i+1))=⟨n,i,(I i).c,slI (I i).c (I i).d⟩:=by rw[hIi];exact c6Y
     exact⟨Z4 Z9,⟨i+1,hit⟩,⟨⟨Z8,rfl,rfl,rfl,Z8,Z8,Z8,Z8,rfl,rfl,Z8,rfl,X5,Z6⟩,Z8,Z6,Z6,Z6,Z6,Z6,Z6,Z6,Z6,Z8,Z8,⟨rfl,rfl,jX,jX,Z6⟩,⟨rfl,rfl,by rw[e1];rfl,by rw[e1];rfl,Z6⟩,⟨rfl,X6 _ _⟩,⟨rfl,X6 _ _⟩,⟨rfl,X6 _ _⟩,⟨rfl,X6 _ _⟩,⟨rfl,rfl,mW _⟩,⟨rfl,X6 _ _⟩,⟨rfl,X6 _ _⟩,⟨rfl,X6 _ _⟩,Z6⟩,K0⟩
    ·dsimp only at hr;rw[hK] at hr;simp only[I4,q8,wA,beq_iff_eq] at hr;rw[if_pos hr.1.2,if_pos ⟨hr.1.1,hr.2⟩] at hIi;have e1:nX (I (i+1))=⟨(I i).a,slI (I i).a (I i).b,n,i⟩:=by rw[hIi];exact c7i
     exact⟨Z4 Z9,⟨i+1,hit⟩,⟨⟨Z8,rfl,rfl,rfl,Z8,Z8,Z8,Z8,rfl,rfl,Z8,rfl,X5,Z6⟩,Z8,Z6,Z6,Z6,Z6,Z6,Z6,Z6,Z6,Z8,Z8,⟨rfl,rfl,by rw[e1];rfl,by rw[e1];rfl,Z6⟩,⟨rfl,rfl,jX,jX,Z6⟩,⟨rfl,X6 _ _⟩,⟨rfl,X6 _ _⟩,⟨rfl,X6 _ _⟩,⟨rfl,X6 _ _⟩,⟨rfl,rfl,mW _⟩,⟨rfl,X6 _ _⟩,⟨rfl,X6 _ _⟩,⟨rfl,X6 _ _⟩,Z6⟩,K0⟩
    ·dsimp only at hr;rw[hK] at hr;have e1:I (i+1)=I i:=by
      rw[hIi];split
      ·rename_i hz;rw[if_neg];rintro⟨a1,a2⟩;rw[hz,mR (show(nX (I i)).c<0 from a1),a2] at hr
       cases hr
      ·rw[if_neg];rintro⟨a1,a2⟩;rw[a1,mR (show(nX (I i)).a<0 from a2)] at hq
       cases hq
     exact⟨Z4 Z9,⟨i+1,hit⟩,⟨⟨Z8,rfl,rfl,rfl,Z8,Z8,Z8,Z8,rfl,rfl,Z8,rfl,X5,Z6⟩,Z8,Z6,Z6,Z6,Z6,Z6,Z6,Z6,Z6,Z8,Z8,⟨rfl,rfl,jX,jX,Z6⟩,⟨rfl,rfl,jX,jX,Z6⟩,Z8⟩,K0⟩
   ·obtain rfl:i=4:=by have:=m9 hc2;omega
    refine⟨Z4 Z9,⟨n+1,hlt,R⟩,?_,K0⟩
    dsimp only;rw[M,hF,l];exact⟨⟨Z8,rfl,rfl,rfl,Z8,Z8,Z8,Z8,Z9,Z6⟩,Z8⟩
 ·obtain rfl:n=8:=by have:=m9 hc;omega
  exact⟨⟨⟨Z8,Z8,hv.symm,Z6⟩,Z6⟩,Z8⟩
def c1G:Con:=.rel ⟨List Val,λL=>[b4C L],λL=>.bys (Q7 L L.length),λL=>L.length<=100/\∀i,i<L.length->cB (L.getD i dz)⟩
def c2A(L:List Val):Nat->Ann
 |0=>.one (Up L.length) (λx=>⟨[(3,.osl 0 0 (Q7 L x.1).length),(7,b4C L),(8,Ji L.length),(9,Ji x.1)],[some (.bys 5 (Q7 L x.1))]⟩) (λx=>L.length-x.1) [.at_ 3] [.at_ 3] (λ_=>Z3)
 |_=>.none
def c6o:Con:=.rel ⟨Int,λn=>[Ji n],λn=>.agg [Ji 1,Ji n,.str []],λ_=>True⟩
theorem c5A(n:Int)(h:
  (1:Int)=1/\n=n/\([]:Bz)=[]/\True):
  V3 prog 205 [Ji n] (.agg [Ji 1,Ji n,.str []]):=
 U6 gN func205 Z3 h
theorem c3E:GK 205 c6o:=gk func205<|λn _=>c5A n Z8
theorem b8O:GK 204 c1G:=gk func204<|by
 rintro(L:List Val) ⟨hL,hk⟩;refine U6 (gC a2M gN) func204 (c2A L) (α:=let f:=(Z0 Q1 L L);let z:=(L.length:Int);(∃(x:Up L.length),((0=0/\0=(Q7 L x.1).length)/\f/\z=z/\0=(x.1:Int)/\True)/\List.map R1 []=Q7 L x.1/\True)/\∀(x:Up L.length),let j:=(L.length-x.1);let w:=(Q7 L x.1);let u:=(x.1:Int);let r:=w.length;let q:=(L.getD u.toNat dz);let m:=(r+1+q.t.length);let v:=(List.drop 0 (List.map R1 [IntKind.u8.wrap (q.k+1)]));let p:=(List.take r w++List.take 1 v);let g:=(List.take (r+1) p++q.t);bd (u<z) (W9 u L.length/\Ri (q.k+1)/\R3 IntKind.u8 (IntKind.u8.wrap (q.k+1))/\(Le 1 1/\Le r r/\U8 r 1 1)/\br (q.k==1) (Ri (q.n+1000000000)/\∃(X:Nat),((q.n+1000000000=(X:Int)/\True)/\X<4294967296)/\(Le (r+1) p.length/\U8 (r+1) 4 1)/\Ri (u+1)/\∃(y:Up L.length),(((0=0/\r+1+4=(Q7 L y.1).length)/\f/\z=z/\u+1=(y.1:Int)/\True)/\List.take (r+1) p++z8 X=Q7 L y.1/\True)/\Lt (L.length-y.1) j) (br (q.k==2) ((Le (r+1) p.length/\U8 (r+1) q.t.length 1)/\R3 IntKind.u8 (0:Int)/\(Le 1 1/\Le m g.length/\U8 m 1 1)/\Ri (u+1)/\∃(y:Up L.length),(((0=0/\r+1+q.t.length+1=(Q7 L y.1).length)/\f/\z=z/\u+1=(y.1:Int)/\True)/\List.take m g++List.take 1 (List.drop 0 (List.map R1 [(0:Int)]))=Q7 L y.1/\True)/\Lt (L.length-y.1) j) (Ri (u+1)/\∃(y:Up L.length),(((0=0/\r+1=(Q7 L y.1).length)/\f/\z=z/\u+1=(y.1:Int)/\True)/\List.take r w++List.take 1 v=Q7 L y.1/\True)/\Lt (L.length-y.1) j))) (Le (0+r) r/\List.take r (List.drop 0 w)=Q7 L L.length)) ⟨⟨⟨0,N5 _⟩,Z8⟩,λx=>⟨λhc=>?_,λhc=>?_⟩⟩
 ·have hlt:=Y2 hc;have h1:=eQ hk x.1 Z9
  have hv:=hk x.1 hlt;have u:=gU hv;rw[E4];have i:Q7 L (x.1+1)=Q7 L x.1++zJ (L.getD x.1 dz):=rfl;generalize L.getD x.1 dz=v at*;obtain⟨z,h3⟩:=hv;have e:v.k=0∨v.k=1∨v.k=2:=by
   rcases h3 with h|h|h
   ·exact .inl h
   ·exact .inr (.inl h.1)
   ·exact .inr (.inr h)
  have r:R3 IntKind.u8 (IntKind.u8.wrap (v.k+1)):=by
   rcases e with h|h|h<;>rw[h]<;>exact(pJ _).2 ⟨K3,K3⟩
  have o:List.take (Q7 L x.1).length (Q7 L x.1)++List.take 1 (List.drop 0 (List.map R1 [IntKind.u8.wrap (v.k+(1:Int))]))=Q7 L x.1++[R1 (IntKind.u8.wrap (v.k+1))]:=by rw[j_l];rfl
  rw[o];generalize A:Q7 L x.1=B at*;have j:List.take (B.length+1) (B++[R1 (IntKind.u8.wrap (v.k+1))])=B++[R1 (IntKind.u8.wrap (v.k+1))]:=List.take_of_length_le W7
  refine⟨Y6 hlt,Z4 Z9,r,⟨U9 _,U9 _,R0⟩,λhq=>?_,λhq=>⟨λd=>?_,λd=>?_⟩⟩
  ·have hq:v.k=1:=beq_iff_eq.1 hq;have hn:=(h3.resolve_left Z9).resolve_right Z9
   have g:zJ v=R1 (IntKind.u8.wrap (v.k+1))::z8 (v.n+1000000000).toNat:=by
    unfold zJ;rw[if_neg Z9,if_pos hq,hq]
    rfl
   have f:Q7 L (x.1+1)=(B++[R1 (IntKind.u8.wrap (v.k+1))])++z8 (v.n+1000000000).toNat:=by rw[i,g,List.append_assoc];rfl
   refine⟨Z4 Z9,(v.n+1000000000).toNat,⟨⟨Z9,Z6⟩,Z9⟩,⟨by unfold Le;simp,R0⟩,Z4 Z9,⟨x.1+1,hlt⟩,⟨⟨⟨rfl,?_⟩,⟨rfl,X6 _ _⟩,rfl,X5,Z6⟩,by dsimp only;rw[f,j],Z6⟩,V5.ext_lt hlt⟩
   dsimp only;rw[f,F6,F6,List.length_singleton];rfl
  ·have d:v.k=2:=beq_iff_eq.1 d;have g:zJ v=R1 (IntKind.u8.wrap (v.k+1))::(v.t++[0]):=by
    unfold zJ;rw[if_neg Z9,if_neg Z9,d]
    rfl
   have f:Q7 L (x.1+1)=((B++[R1 (IntKind.u8.wrap (v.k+1))])++v.t)++[0]:=by rw[i,g];simp
   have q:List.take (B.length+1+v.t.length) ((B++[R1 (IntKind.u8.wrap (v.k+1))])++v.t)=(B++[R1 (IntKind.u8.wrap (v.k+1))])++v.t:=List.take_of_length_le C8
   refine⟨⟨by unfold Le;simp,R0⟩,(pJ _).2 ⟨K3,K3⟩,⟨U9 _,by rw[j];unfold Le;simp;omega,R0⟩,Z4 Z9,⟨x.1+1,hlt⟩,⟨⟨⟨rfl,?_⟩,⟨rfl,X6 _ _⟩,rfl,X5,Z6⟩,by dsimp only;rw[f,j,q];rfl,Z6⟩,V5.ext_lt hlt⟩
   dsimp only;rw[f];simp;omega
  ·have l:v.k=0:=by
    rcases e with h|h|h
    ·exact h
    ·rw[h] at hq;cases hq
    ·rw[h] at d;cases d
   have g:zJ v=[R1 (IntKind.u8.wrap (v.k+1))]:=by
    unfold zJ;rw[if_pos l,l];rfl
   have f:Q7 L (x.1+1)=B++[R1 (IntKind.u8.wrap (v.k+1))]:=by rw[i,g]
   refine⟨Z4 Z9,⟨x.1+1,hlt⟩,⟨⟨⟨rfl,?_⟩,Z8,rfl,X5,Z6⟩,by dsimp only;rw[f],Z6⟩,V5.ext_lt hlt⟩
   dsimp only;rw[f,F6,List.length_singleton]
 ·have hx:x.1=L.length:=by have:=x.2;have:=Y0 hc;omega
  rw[hx];exact⟨K2,cN⟩
def c1s:Con:=.rel ⟨Int×Rw,λx=>[Ji x.1,.agg x.2.ts],λx=>.bys (sV x.1 x.2),λx=>RwK x.2/\1<=x.1/\x.1<=3⟩
theorem b8m:GK 117 c1s:=gk func117<|by
 rintro⟨ta,r⟩ ⟨⟨e,h,l,g⟩,j,f⟩;dsimp only at e h l g j f;refine U6 (gC c3E (gC b8O (gC P6 gN))) func117 Z3 (α:=∃(x:Int),((ta=x/\True)/\True)/\∃(d:Int),((r.id=d/\True)/\True)/\∃(X:(List Val)),(((4=X.length/\Z7 4 (λ(k:Nat)=>List.take 3 (List.drop (k*3) [Ji 1,Ji x,T.str [],Ji 1,Ji d,T.str [],Ji r.n.k,Ji r.n.n,T.str r.n.t,Ji r.name.k,Ji r.name.n,T.str r.name.t])) (Q1 X))/\True)/\X.length<=100/\∀(i:Nat),i<X.length->cB (List.getD X i dz))/\Q7 X (X.length)=sV ta r) ⟨ta,Z8,r.id,Z8,[⟨1,ta,[]⟩,⟨1,r.id,[]⟩,r.n,r.name],⟨⟨⟨rfl,λi hi=>?_⟩,Z6⟩,by show 4<=100;omega,λi hi=>?_⟩,rfl⟩
 ·match i,hi with
  |0,_=>rfl
  |1,_=>rfl
  |2,_=>rfl
  |3,_=>rfl
 ·match i,hi with
  |0,_=>exact⟨a9N,.inr (.inl ⟨rfl,by show-1000000000<=ta;omega,by show ta<=_;omega⟩)⟩
  |1,_=>exact⟨a9N,.inr (.inl ⟨rfl,by show-1000000000<=r.id;omega,by show r.id<=_;omega⟩)⟩
  |2,_=>exact e
  |3,_=>exact h
theorem c7F{a:Int}(h:(a !=0)=true):¬a=0:=x8
theorem c2b{a:Int}(h:(a !=0)=false):a=0:=x8
def wS(id:Int):Rw:=⟨id,⟨0,0,[]⟩,⟨0,0,[]⟩⟩
def zF(e:Eng)(k:Nat)(ta tm id rm:Int):(Eng×Nat)×Int:=
 if(R5 e k ta (-1) tm).2=0 then(((R5 (R5 e k ta (-1) tm).1 k ta id rm).1,vB (R5 e k ta (-1) tm).1 k ta id rm),(R5 (R5 e k ta (-1) tm).1 k ta id rm).2)
 else(((R5 e k ta (-1) tm).1,vB e k ta (-1) tm),(R5 e k ta (-1) tm).2)
def zW(e:Eng)(tx ta tm id rm:Int):(Eng×Nat)×Int:=if(H3 e tx).2=0 then zF e (H3 e tx).1.toNat ta tm id rm else((e,0),(H3 e tx).2)
theorem b7t{e:Eng}{k:Nat}{ta row mo:Int}(h:(R5 e k ta row mo).2=0):vB e k ta row mo=0:=by
 unfold vB;rw[if_neg];intro d;unfold R5 at h;rw[if_pos d] at h;dsimp only at h;split at h<;>cases h
theorem c4Q{e:Eng}{k:Nat}{ta tm id rm:Int}(h:(zF e k ta tm id rm).2=0):zF e k ta tm id rm=((pF (pF e k ta (-1) tm) k ta id rm,0),0):=by
 unfold zF at h ⊢;split at h
 ·rename_i d;have f:=a0i d;rw[if_pos d,f];rw[f] at h;dsimp only at h ⊢;rw[a0i h,b7t h]
 ·rename_i d;exact absurd h d
def b89:Con:=.reff ⟨Eng×Int×Int×Int×Int×Int,λx=>[.ref 0 0 0,Ji x.2.1,Ji x.2.2.1,Ji x.2.2.2.1,Ji x.2.2.2.2.1,Ji x.2.2.2.2.2],λx=>x.1.bx 0,λx=>Ji (zW x.1 x.2.1 x.2.2.1 x.2.2.2.1 x.2.2.2.2.1 x.2.2.2.2.2).2,λx=>(zW x.1 x.2.1 x.2.2.1 x.2.2.2.1 x.2.2.2.2.1 x.2.2.2.2.2).1.1.nx (zW x.1 x.2.1 x.2.2.1 x.2.2.2.1 x.2.2.2.2.1 x.2.2.2.2.2).1.2,λx=>R2 x.1=true/\M2 x.1⟩
theorem a7p{e:Eng}{tx ta tm id rm:Int}(h:¬ (H3 e tx).2=0):zW e tx ta tm id rm=((e,0),(H3 e tx).2):=if_neg h
theorem a2f{e:Eng}{tx ta tm id rm:Int}{k:Nat}(h:(H3 e tx).2=0)(d:(H3 e tx).1=k):zW e tx ta tm id rm=zF e k ta tm id rm:=by
 unfold zW;rw[if_pos h,d,E4]
theorem b2p:GK 95 b89:=gk func95<|by
 rintro⟨e,tx,ta,tm,id,rm⟩ ⟨ho,hm⟩;dsimp only at ho hm;have h:=(xK (u6 ho).2.1).1;refine C7 (gC b1t (gC b5N gN)) func95 Z3 bC (α:=let p:=(zW e tx ta tm id rm);∃(x:(Eng×Int)),((LeG e)/\((qD e x.1)/\tx=x.2/\True)/\L7 x.1.X.length)/\br ((H3 x.1 x.2).2 !=0) (((H3 x.1 x.2).2=p.2/\True)/\lP (0) (p.1.2) e p.1.1) (∃(x:(Eng×Nat×Int×Int×Int×Int)),let r:=x.2.2.2;let u:=(vB x.1 x.2.1 x.2.2.1 r.1 r.2.1);let q:=(R5 x.1 x.2.1 x.2.2.1 r.1 r.2.1);(((0=0/\0=0)/\tx=r.2.2/\ta=x.2.2.1/\(-1:Int)=r.1/\tm=r.2.1/\True)/\(iQ (0) (0) e x.1)/\XI x.1 x.2.1 r.2.2)/\br (q.2 !=0) ((q.2=p.2/\True)/\lP u (p.1.2) q.1 p.1.1) (∃(X:(Eng×Nat×Int×Int×Int×Int)),let z:=(R5 X.1 X.2.1 X.2.2.1 X.2.2.2.1 X.2.2.2.2.1);(((0=0/\0=0)/\tx=X.2.2.2.2.2/\ta=X.2.2.1/\id=X.2.2.2.1/\rm=X.2.2.2.2.1/\True)/\(iQ u (0) q.1 X.1)/\XI X.1 X.2.1 X.2.2.2.2.2)/\(z.2=p.2/\True)/\lP (vB X.1 X.2.1 X.2.2.1 X.2.2.2.1 X.2.2.2.2.1) (p.1.2) z.1 p.1.1))) ⟨(e,tx),⟨Z8,Z8,rT⟩,λhq=>?_,λhq=>?_⟩
 ·rw[a7p (b1e hq)];exact Z8
 ·obtain⟨hu,k,e1,hk,hi,ha⟩:=a1A (a3g hq);have hX:=b0u ho hm hu ha hk hi;rw[a2f (a3g hq) e1];refine⟨(e,k,ta,-1,tm,tx),⟨Z8,Z8,hX⟩,λhq=>?_,λhq=>?_⟩
  ·have d:zF e k ta tm id rm=(((R5 e k ta (-1) tm).1,vB e k ta (-1) tm),(R5 e k ta (-1) tm).2):=if_neg (b1e hq);rw[d];exact Z8
  ·have hq:=a3g hq;have d:zF e k ta tm id rm=(((R5 (R5 e k ta (-1) tm).1 k ta id rm).1,vB (R5 e k ta (-1) tm).1 k ta id rm),(R5 (R5 e k ta (-1) tm).1 k ta id rm).2):=if_pos hq;have f:=a0i hq;have g:=b7t hq;rw[d];dsimp only;rw[f,g];exact⟨(pF e k ta (-1) tm,k,ta,id,rm,tx),⟨Z8,Z8,sI hX ta (-1) tm⟩,Z8⟩
end
end Go.Proofs.YtpdnnhnfongoeaaGreat
