/- A part of the proof. -/
import Derived.Test.YtokaojbaacnngaaGreatX5X6
namespace Go.Proofs.YtokaojbaacnngaaGreat
set_option maxRecDepth 100000
open Go.SS

def R6(ln:Nat->Nat)(k:Nat):Nat->Nat
 |0=>k
 |i+1=>R6 ln k i+(ln i+4)
theorem a3S(ln:Nat->Nat)(k:Nat):∀{n:Nat},(∀i,i<n->ln i<=1048576)->R6 ln k n<=k+n*1048580
 |0,_=>by show k<=_;omega
 |n+1,h=>by
  have h1:=a3S ln k (n:=n) fun i hi=>h i (by omega)
  have h2:=h n (Nat.lt_succ_self n);show R6 ln k n+(ln n+4)<=_;omega
theorem u3(ln:Nat->Nat)(k:Nat){i:Nat}:∀{j:Nat},i<=j->R6 ln k i<=R6 ln k j
 |0,h=>by(obtain rfl:i=0:=by omega);exact Nat.le_refl _
 |j+1,h=>by
  by_cases hij:i=j+1
  ·rw[hij];exact Nat.le_refl _
  ·have:=u3 ln k (i:=i) (j:=j) (by omega)
   show R6 ln k i<=R6 ln k j+(ln j+4);omega
def b63(q n:Nat):Frm:=⟨(q:Int),⟨(q:Int)+1,B1 n (q+2)⟩,((q+2+n:Nat):Int).tmod 3==0,((q+2+n:Nat):Int)+1⟩
def y3(n:Nat)(ln:Nat->Nat)(k:Nat):List Frm:=(List.range n).map fun i=>b63 (R6 ln k i) (ln i)
def R7(L:List Frm)(i:Nat):Nat:=(L.getD i default).pg.sl.length
def k4(L:List Frm)(k x j:Nat):Frm:=if j<x then b63 (R6 (R7 L) k j) (R7 L j) else L.getD j default
def fcs(f:Frm):List T:=[.int .i64 f.no,.int .i64 f.pg.lsn,.own 0 1 f.pg.sl.length (Z6 f.pg.sl),.bool f.dirty,.int .i64 f.first]
def KBf(n:Nat)(ln:Nat->Nat)(k:Nat):Prop:=n<=1048576/\1<=k/\R6 ln k n<=10000000000000/\∀i,i<n->ln i<=1048576
def b4M:Con:=.reff ⟨List Frm×Nat×Nat,fun x=>[.osl 0 0 x.1.length,.int .i64 x.2.1],fun x=>[c8 x.2.2 x.1 x.1.length],fun x=>.int .i64 (R6 (R7 x.1) x.2.1 x.1.length),fun x=>[c8 x.2.2 (y3 x.1.length (R7 x.1) x.2.1) x.1.length],fun x=>KBf x.1.length (R7 x.1) x.2.1⟩
def b3r(L:List Frm)(k v:Nat):Nat->Ann
 |0=>.one {i:Nat//i<=L.length} (fun x=>⟨[(0,.osl 0 0 L.length),(1,.int .i64 (R6 (R7 L) k x.1)),(5,.int .i64 x.1)],[some (.fam v 0 5 L.length fun j=>fcs (k4 L k x.1 j))]⟩) (fun x=>L.length-x.1) [.arr 0] [.arr 0] (fun _=>Z0)
 |_=>.none
noncomputable def b4O:Code:=Tryz.f101.body.getD .skip
theorem a6i:Z8 Tryz.prog 101:=⟨_,Tryz.func101,by kernel_rfl,by kernel_rfl⟩
theorem b7b(L:List Frm)(k v:Nat)(h:
  (∃(x:{i:Nat//i<=L.length}),((0=0/\L.length=L.length)/\(k:Int)=(↑(R6 (R7 L) k x.val):Int)/\(0:Int)=(x.val:Int)/\True)/\(v=v/\L.length=L.length/\T9 L.length (Y0 L) fun(j:Nat)=>[T.int
  .i64 (k4 L k x.val j).no,T.int .i64 (k4 L k x.val j).pg.lsn,T.own 0 1 (k4 L k x.val j).pg.sl.length (Z6 (k4 L k x.val j).pg.sl),T.bool (k4 L k x.val j).dirty,T.int .i64 (k4 L k x.val j).first])/\True)/\∀(x:{i:
  Nat//i<=L.length}),(decide ((x.val:Int)<(L.length:Int))=true->W7 (x.val:Int) L.length/\c3z (0+(x.val:Int).toNat) L.length [T.int .i64 (k4 L k x.val (0+(x.val:Int).toNat)).no]/\X6 .i64 ((↑(R6 (R7 L) k x.val)
  :Int)+(1:Int))/\W7 (x.val:Int) L.length/\c3z (0+(x.val:Int).toNat) L.length [T.int .i64 (k4 L k x.val (0+(x.val:Int).toNat)).pg.lsn]/\X6 .i64 ((↑(R6 (R7 L) k x.val):Int)+(1:Int)+(1:Int))/\W7
  (x.val:Int) L.length/\Lt (0+(x.val:Int).toNat) L.length/\∃(x_1:(List (List UInt8)×Nat)),((((0=0/\(k4 L k x.val (0+(x.val:Int).toNat)).pg.sl.length=x_1.fst.length)/\(↑(R6 (R7 L) k x.val):Int)+(1:Int)+
  (1:Int)=(x_1.snd:Int)/\True)/\((Y3 Z6 (k4 L k x.val (0+(x.val:Int).toNat)).pg.sl x_1.fst)/\True)/\KBn x_1.fst.length x_1.snd 1)/\d6O v v (0+(x.val:Int).toNat) L.length (k4 L k x.val (0+
  (x.val:Int).toNat)).pg.sl.length (k4 L k x.val (0+(x.val:Int).toNat)).pg.sl.length (B1 x_1.fst.length x_1.snd).length (Z6 (B1 x_1.fst.length x_1.snd)))/\Nz (3:Int)/\W7 (x.val:Int) L.length/\c3z (0+
  (x.val:Int).toNat) L.length [T.bool (k4 L k x.val (0+(x.val:Int).toNat)).dirty]/\X6 .i64 ((↑(x_1.snd+x_1.fst.length):Int)+(1:Int))/\W7 (x.val:Int) L.length/\c3z (0+(x.val:Int).toNat) L.length [T.int .i64 (k4 L
  k x.val (0+(x.val:Int).toNat)).first]/\X6 .i64 ((↑(x_1.snd+x_1.fst.length):Int)+(1:Int)+(1:Int))/\X6 .i64 ((x.val:Int)+(1:Int))/\∃(y:{i:Nat//i<=L.length}),(((0=0/\L.length=L.length)/\
  (↑(x_1.snd+x_1.fst.length):Int)+(1:Int)+(1:Int)=(↑(R6 (R7 L) k y.val):Int)/\(x.val:Int)+(1:Int)=(y.val:Int)/\True)/\(v=v/\L.length=L.length/\T9 L.length (setRow (setRow (setRow (setRow (setRow
  (fun(j:Nat)=>[T.int .i64 (k4 L k x.val j).no,T.int .i64 (k4 L k x.val j).pg.lsn,T.own 0 1 (k4 L k x.val j).pg.sl.length (Z6 (k4 L k x.val j).pg.sl),T.bool (k4 L k x.val j).dirty,T.int .i64 (k4 L k x.val
  j).first]) (0+(x.val:Int).toNat) 0 [T.int .i64 (↑(R6 (R7 L) k x.val):Int)]) (0+(x.val:Int).toNat) 1 [T.int .i64 ((↑(R6 (R7 L) k x.val):Int)+(1:Int))]) (0+(x.val:Int).toNat) 2 [T.own 0 1 (B1 x_1.fst.length
  x_1.snd).length (Z6 (B1 x_1.fst.length x_1.snd))]) (0+(x.val:Int).toNat) 3 [T.bool ((↑(x_1.snd+x_1.fst.length):Int).tmod (3:Int)==(0:Int))]) (0+(x.val:Int).toNat) 4 [T.int .i64 ((↑(x_1.snd+x_1.fst.length):
  Int)+(1:Int))]) fun(j:Nat)=>[T.int .i64 (k4 L k y.val j).no,T.int .i64 (k4 L k y.val j).pg.lsn,T.own 0 1 (k4 L k y.val j).pg.sl.length (Z6 (k4 L k y.val j).pg.sl),T.bool (k4 L k y.val j).dirty,T.int .i64 (k4
  L k y.val j).first])/\True)/\Lt (L.length-y.val) (L.length-x.val))/\(decide ((x.val:Int)<(L.length:Int))=false->((↑(R6 (R7 L) k x.val):Int)=(↑(R6 (R7 L) k L.length):Int)/\True)/\(v=v/\L.length=
  L.length/\T9 L.length (fun(j:Nat)=>[T.int .i64 (k4 L k x.val j).no,T.int .i64 (k4 L k x.val j).pg.lsn,T.own 0 1 (k4 L k x.val j).pg.sl.length (Z6 (k4 L k x.val j).pg.sl),T.bool (k4 L k x.val j).dirty,T.int
  .i64 (k4 L k x.val j).first]) (Y0 (y3 L.length (R7 L) k)))/\True)):
  V7 Tryz.prog 101 [.osl 0 0 L.length,.int .i64 k] [c8 v L L.length] (.int .i64 (R6 (R7 L) k L.length)) [c8 v (y3 L.length (R7 L) k) L.length]:=
 C4 (code:=b4O) (gC a3e a1y gN) Tryz.func101 (by kernel_rfl) (by kernel_rfl) (b3r L k v) [[.arr 0]] h (by kernel_rfl)
theorem d1d{L:List Frm}{k x:Nat}(j:Nat):a3b (fun j=>fcs (k4 L k x j)) x [(0,.int .i64 (R6 (R7 L) k x)),(1,.int .i64 ((R6 (R7 L) k x:Int)+1)),(2,.own 0 1 (B1 (L.getD x default).pg.sl.length (R6 (R7 L) k x+2)).length (Z6 (B1 (L.getD x default).pg.sl.length (R6 (R7 L) k x+2)))),(3,.bool (((R6 (R7 L) k x+2+(L.getD x default).pg.sl.length:Nat):Int).tmod 3==0)),(4,.int .i64 (((R6 (R7 L) k x+2+(L.getD x default).pg.sl.length:Nat):Int)+1))] j=fcs (k4 L k (x+1) j):=by
 by_cases hj:j=x
 ·subst hj;rw[a39 (by simp[fcs]),show k4 L k (j+1) j=b63 (R6 (R7 L) k j) (R7 L j) by unfold k4;rw[if_pos (Nat.lt_succ_self _)]]
  rfl
 ·rw[a4w hj (by simp[fcs])]
  have:k4 L k x j=k4 L k (x+1) j:=by
   unfold k4;by_cases h:j<x
   ·rw[if_pos h,if_pos (by omega)]
   ·rw[if_neg h,if_neg (by omega)]
  rw[this]
theorem a9Z:Z2 Tryz.prog 101 b4M:=by
 rintro⟨L,k,v⟩ ⟨h1,h2,h3,h4⟩;dsimp only at h1 h2 h3 h4;refine b7b L k v ⟨⟨⟨0,Nat.zero_le _⟩,⟨⟨rfl,rfl⟩,rfl,rfl,trivial⟩,⟨rfl,rfl,a2L fun i _=>rfl⟩,trivial⟩,fun x=>⟨fun hc=> ?_,fun hc=> ?_⟩⟩
 ·have hlt:=Y6 hc;have ib:=Y8 hlt;have hm:=u3 (R7 L) k (i:=x.val+1) (j:=L.length) hlt;have hk:=u3 (R7 L) k (i:=0) (j:=x.val) (Nat.zero_le _);have hp:R6 (R7 L) k (x.val+1)=R6 (R7 L) k x.val+((L.getD x.val default).pg.sl.length+4):=rfl;have h0:R6 (R7 L) k 0=k:=rfl;have hx4:(L.getD x.val default).pg.sl.length<=1048576:=h4 _ hlt;have eu:k4 L k x.val x.val=L.getD x.val default:=by unfold k4;rw[if_neg (Nat.lt_irrefl _)]
  rw[Int.toNat_natCast,Nat.zero_add,eu];refine⟨ib,⟨hlt,rfl⟩,Z5 (by omega),ib,⟨hlt,rfl⟩,Z5 (by omega),ib,hlt,((L.getD x.val default).pg.sl,R6 (R7 L) k x.val+2),⟨⟨⟨⟨rfl,rfl⟩,by dsimp only;omega,trivial⟩,⟨⟨rfl,Z9 _ _⟩,trivial⟩,hx4,by dsimp only;omega,by dsimp only;omega⟩,rfl,hlt,Nat.le_refl _,R8 _ _,fun r _ t ht=> ?_⟩,by unfold Nz;omega,ib,⟨hlt,rfl⟩,Z5 (by dsimp only;omega),ib,⟨hlt,rfl⟩,Z5 (by dsimp only;omega),Z5 (by omega),⟨x.val+1,hlt⟩,⟨⟨⟨rfl,rfl⟩,by dsimp only;omega,by dsimp only;omega,trivial⟩,⟨rfl,rfl,a2L fun j _=> ?_⟩,trivial⟩,W5.ext_lt hlt⟩
  ·simp only[Z6,List.mem_singleton] at ht;rw[ht];rfl
  ·exact d1d j
 ·have hx:x.val=L.length:=by have:=x.2;have:=Y2 hc;omega
  rw[hx];refine⟨⟨rfl,trivial⟩,⟨rfl,rfl,a2L fun i hi=> ?_⟩,trivial⟩
  have e1:k4 L k L.length i=b63 (R6 (R7 L) k i) (R7 L i):=by unfold k4;rw[if_pos hi]
  have e2:(y3 L.length (R7 L) k).getD i default=b63 (R6 (R7 L) k i) (R7 L i):=C3 _ hi _;rw[e1];unfold Y0;rw[e2]
def b3G:Con:=.rel ⟨Nat×(Nat->Nat)×Nat,fun x=>[y9 (y3 x.1 x.2.1 x.2.2),.int .i64 x.2.2],fun x=>.int .i64 (R6 x.2.1 x.2.2 x.1),fun x=>KBf x.1 x.2.1 x.2.2⟩
def b3d(n:Nat)(ln:Nat->Nat)(k:Nat):Nat->Ann
 |0=>.one {i:Nat//i<=n} (fun x=>⟨[(0,y9 (y3 n ln k)),(1,.int .i64 (R6 ln k x.1)),(5,.int .i64 x.1)],[]⟩) (fun x=>n-x.1) [] [] (fun _=>Z0)
 |_=>.none
noncomputable def b6e:Code:=Tryz.f106.body.getD .skip
theorem a6f:Z8 Tryz.prog 106:=⟨_,Tryz.func106,by kernel_rfl,by kernel_rfl⟩
theorem b4o(n:Nat)(ln:Nat->Nat)(k:Nat)(h:
  (∃(x:{i:Nat//i<=n}),((Y3 V3 (y3 n ln k) (y3 n ln k))/\(k:Int)=(↑(R6 ln k x.val):Int)/\(0:Int)=(x.val:Int)/\True)/\True)/\∀(x:{i:Nat//i<=n}),(decide ((x.val:Int)<(↑(y3 n ln k).length:
  Int))=true->W7 (x.val:Int) (y3 n ln k).length/\((((y3 n ln k).getD (x.val:Int).toNat default).no !=(↑(R6 ln k x.val):Int))=true->(-1:Int)=(↑(R6 ln k n):Int))/\((((y3 n ln k).getD (x.val:Int).toNat
  default).no !=(↑(R6 ln k x.val):Int))=false->X6 .i64 ((↑(R6 ln k x.val):Int)+(1:Int))/\W7 (x.val:Int) (y3 n ln k).length/\((((y3 n ln k).getD (x.val:Int).toNat default).pg.lsn !=(↑(R6 ln k x.val):Int)+
  (1:Int))=true->(-1:Int)=(↑(R6 ln k n):Int))/\((((y3 n ln k).getD (x.val:Int).toNat default).pg.lsn !=(↑(R6 ln k x.val):Int)+(1:Int))=false->X6 .i64 ((↑(R6 ln k x.val):Int)+(1:Int)+(1:Int))/\
  W7 (x.val:Int) (y3 n ln k).length/\∃(x_1:(Nat×Nat)),(((Y3 Z6 ((y3 n ln k).getD (x.val:Int).toNat default).pg.sl (B1 x_1.fst x_1.snd))/\(↑(R6 ln k x.val):Int)+(1:Int)+(1:Int)=(x_1.snd:Int)/\True)/\
  KBn x_1.fst x_1.snd 1)/\(decide ((↑(x_1.snd+x_1.fst):Int)<(0:Int))=true->(-1:Int)=(↑(R6 ln k n):Int))/\(decide ((↑(x_1.snd+x_1.fst):Int)<(0:Int))=false->W7 (x.val:Int) (y3 n ln k).length/\Nz (3:
  Int)/\((!((y3 n ln k).getD (x.val:Int).toNat default).dirty==((↑(x_1.snd+x_1.fst):Int).tmod (3:Int)==(0:Int)))=true->(-1:Int)=(↑(R6 ln k n):Int))/\((!((y3 n ln k).getD (x.val:Int).toNat default).dirty==
  ((↑(x_1.snd+x_1.fst):Int).tmod (3:Int)==(0:Int)))=false->X6 .i64 ((↑(x_1.snd+x_1.fst):Int)+(1:Int))/\W7 (x.val:Int) (y3 n ln k).length/\((((y3 n ln k).getD (x.val:Int).toNat default).first !=(↑(x_1.snd
  +x_1.fst):Int)+(1:Int))=true->(-1:Int)=(↑(R6 ln k n):Int))/\((((y3 n ln k).getD (x.val:Int).toNat default).first !=(↑(x_1.snd+x_1.fst):Int)+(1:Int))=false->X6 .i64 ((↑(x_1.snd+x_1.fst):Int)+
  (1:Int)+(1:Int))/\X6 .i64 ((x.val:Int)+(1:Int))/\∃(y:{i:Nat//i<=n}),(((Y3 V3 (y3 n ln k) (y3 n ln k))/\(↑(x_1.snd+x_1.fst):Int)+(1:Int)+(1:Int)=(↑(R6 ln k y.val):Int)/\(x.val:Int)
  +(1:Int)=(y.val:Int)/\True)/\True)/\Lt (n-y.val) (n-x.val)))))))/\(decide ((x.val:Int)<(↑(y3 n ln k).length:Int))=false->(↑(R6 ln k x.val):Int)=(↑(R6 ln k n):Int))):
  Z1 Tryz.prog 106 [y9 (y3 n ln k),.int .i64 k] (.int .i64 (R6 ln k n)):=
 T7 (code:=b6e) (gC a3r a1m gN) Tryz.func106 (by kernel_rfl) (by kernel_rfl) (b3d n ln k) h (by kernel_rfl)
theorem b08:Z2 Tryz.prog 106 b3G:=by
 rintro⟨n,ln,k⟩ ⟨h1,h2,h3,h4⟩;dsimp only at h1 h2 h3 h4;have hn:(y3 n ln k).length=n:=R8 _ _;refine b4o n ln k ⟨⟨⟨0,Nat.zero_le _⟩,⟨⟨rfl,Z9 _ _⟩,rfl,rfl,trivial⟩,trivial⟩,fun x=>⟨fun hc=> ?_,fun hc=> ?_⟩⟩
 ·have hlt:=Y6 hc;have hlt':x.val<n:=by omega
  have ib:=Y8 hlt;have e:(y3 n ln k).getD (x.val:Int).toNat default=b63 (R6 ln k x.val) (ln x.val):=by rw[Int.toNat_natCast];exact C3 _ hlt' _
  rw[e];have hm:=u3 ln k (i:=x.val+1) (j:=n) hlt';have hk:=u3 ln k (i:=0) (j:=x.val) (Nat.zero_le _);have hp:R6 ln k (x.val+1)=R6 ln k x.val+(ln x.val+4):=rfl;have h0:R6 ln k 0=k:=rfl;have hx4:=h4 _ hlt';unfold b63;exact⟨ib,fun h=>by simp at h,fun _=>⟨Z5 (by omega),ib,fun h=>by simp at h,fun _=>⟨Z5 (by omega),ib,(ln x.val,R6 ln k x.val+2),⟨⟨⟨rfl,Z9 _ _⟩,by dsimp only;omega,trivial⟩,hx4,by dsimp only;omega,by dsimp only;omega⟩,fun h=>by(have:=of_decide_eq_true h;dsimp only at this;omega),fun _=>⟨ib,by unfold Nz;omega,fun h=>by simp at h,fun _=>⟨Z5 (by dsimp only;omega),ib,fun h=>by simp at h,fun _=>⟨Z5 (by dsimp only;omega),Z5 (by omega),⟨x.val+1,hlt'⟩,⟨⟨⟨rfl,Z9 _ _⟩,by dsimp only;omega,by dsimp only;omega,trivial⟩,trivial⟩,W5.ext_lt hlt'⟩⟩⟩⟩⟩⟩
 ·have hx:x.val=n:=by have:=x.2;have:=Y2 hc;omega
  rw[hx]
def mkD(d:Dsk)(k:Nat):Dsk:={d with sec:=B1 d.sec.length k,cache:=u4 d.cache.length (k+d.sec.length),keep:=m8 d.keep.length (k+d.sec.length+2*d.cache.length)}
def S5(d:Dsk)(k:Nat):Nat:=k+d.sec.length+2*d.cache.length+d.keep.length
def KBd(d:Dsk)(k:Nat):Prop:=SmD d/\1<=k/\k<=100000000
def c0w:Con:=.reff ⟨Dsk×Nat,fun x=>[.agg (x.1.tm 0),.int .i64 x.2],fun x=>x.1.hp,fun x=>.int .i64 (S5 x.1 x.2),fun x=>(mkD x.1 x.2).hp,fun x=>KBd x.1 x.2⟩
noncomputable def b9b:Code:=Tryz.f99.body.getD .skip
theorem a8K:Z8 Tryz.prog 99:=⟨_,Tryz.func99,by kernel_rfl,by kernel_rfl⟩
theorem b86(d:Dsk)(k:Nat)(h:
  ∃(x:(List (List UInt8)×Nat)),(((0=0/\d.sec.length=x.fst.length)/\(k:Int)=(x.snd:Int)/\True)/\((Y3 Z6 d.sec x.fst)/\True)/\KBn x.fst.length x.snd 1)/\∃(x_1:(List Pend×Nat)),(((0=0/\d.cache.length=
  x_1.fst.length)/\(↑(x.snd+x.fst.length):Int)=(x_1.snd:Int)/\True)/\((Y3 Z3 d.cache x_1.fst)/\True)/\KBn x_1.fst.length x_1.snd 2)/\∃(x_2:(List Int×Nat)),(((0=0/\d.keep.length=x_2.fst.length)/\
  (↑(x_1.snd+2*x_1.fst.length):Int)=(x_2.snd:Int)/\True)/\((Y3 Y7 d.keep x_2.fst)/\True)/\KBn x_2.fst.length x_2.snd 1)/\((↑(x_2.snd+x_2.fst.length):Int)=(↑(S5 d k):Int)/\True)/\(Y3 Z6 (B1
  x.fst.length x.snd) (B1 d.sec.length k))/\(Y3 Z3 (u4 x_1.fst.length x_1.snd) (u4 d.cache.length (k+d.sec.length)))/\(Y3 Y7 (m8 x_2.fst.length x_2.snd) (m8 d.keep.length (k+d.sec.length+2*d.cache.length)))
  /\True):
  V7 Tryz.prog 99 [.agg (d.tm 0),.int .i64 k] d.hp (.int .i64 (S5 d k)) (mkD d k).hp:=
 C4 (code:=b9b) (gC a3e a1y (gC a8Y a4O (gC a9J a6m gN))) Tryz.func99 (by kernel_rfl) (by kernel_rfl) Z0 [[.arr 0,.arr 1,.arr 2]] h (by kernel_rfl)
theorem b5h:Z2 Tryz.prog 99 c0w:=by
 rintro⟨d,k⟩ ⟨⟨h1,h2,h3⟩,h4,h5⟩;dsimp only at h1 h2 h3 h4 h5;exact b86 d k ⟨(d.sec,k),⟨⟨⟨rfl,rfl⟩,rfl,trivial⟩,⟨⟨rfl,Z9 _ _⟩,trivial⟩,h1,h4,by dsimp only;omega⟩,(d.cache,k+d.sec.length),⟨⟨⟨rfl,rfl⟩,rfl,trivial⟩,⟨⟨rfl,Z9 _ _⟩,trivial⟩,h2,by dsimp only;omega,by dsimp only;omega⟩,(d.keep,k+d.sec.length+2*d.cache.length),⟨⟨⟨rfl,rfl⟩,rfl,trivial⟩,⟨⟨rfl,Z9 _ _⟩,trivial⟩,h3,by dsimp only;omega,by dsimp only;omega⟩,⟨rfl,trivial⟩,⟨rfl,Z9 _ _⟩,⟨rfl,Z9 _ _⟩,⟨rfl,Z9 _ _⟩,trivial⟩
def c01:Con:=.rel ⟨Dsk×Nat,fun x=>[.agg (mkD x.1 x.2).ts,.int .i64 x.2],fun x=>.int .i64 (S5 x.1 x.2),fun x=>KBd x.1 x.2⟩
noncomputable def c1o:Code:=Tryz.f104.body.getD .skip
theorem a7W:Z8 Tryz.prog 104:=⟨_,Tryz.func104,by kernel_rfl,by kernel_rfl⟩
theorem c1x(d:Dsk)(k:Nat)(h:
  ∃(x:(Nat×Nat)),(((Y3 Z6 (B1 d.sec.length k) (B1 x.fst x.snd))/\(k:Int)=(x.snd:Int)/\True)/\KBn x.fst x.snd 1)/\(decide ((↑(x.snd+x.fst):Int)<(0:Int))=true->(-1:Int)=(↑(S5 d k):Int))/\(decide
  ((↑(x.snd+x.fst):Int)<(0:Int))=false->∃(x_1:(Nat×Nat)),(((Y3 Z3 (u4 d.cache.length (k+d.sec.length)) (u4 x_1.fst x_1.snd))/\(↑(x.snd+x.fst):Int)=(x_1.snd:Int)/\True)/\KBn x_1.fst x_1.snd 2)/\
  (decide ((↑(x_1.snd+2*x_1.fst):Int)<(0:Int))=true->(-1:Int)=(↑(S5 d k):Int))/\(decide ((↑(x_1.snd+2*x_1.fst):Int)<(0:Int))=false->∃(x:(Nat×Nat)),(((Y3 Y7 (m8 d.keep.length (k+
  d.sec.length+2*d.cache.length)) (m8 x.fst x.snd))/\(↑(x_1.snd+2*x_1.fst):Int)=(x.snd:Int)/\True)/\KBn x.fst x.snd 1)/\(decide ((↑(x.snd+x.fst):Int)<(0:Int))=true->(-1:Int)=(↑(S5 d k):Int))/\
  (decide ((↑(x.snd+x.fst):Int)<(0:Int))=false->(↑(x.snd+x.fst):Int)=(↑(S5 d k):Int))))):
  Z1 Tryz.prog 104 [.agg (mkD d k).ts,.int .i64 k] (.int .i64 (S5 d k)):=
 T7 (code:=c1o) (gC a3r a1m (gC a7a a4u (gC b1w a5J gN))) Tryz.func104 (by kernel_rfl) (by kernel_rfl) Z0 h (by kernel_rfl)
theorem b5m:Z2 Tryz.prog 104 c01:=by
 rintro⟨d,k⟩ ⟨⟨h1,h2,h3⟩,h4,h5⟩;dsimp only at h1 h2 h3 h4 h5;have ng:∀n:Nat,decide ((n:Int)<0)=true->∀{p:Prop},p:=fun n h=>absurd (of_decide_eq_true h) (by omega)
 exact c1x d k ⟨(d.sec.length,k),⟨⟨⟨rfl,Z9 _ _⟩,rfl,trivial⟩,h1,h4,by dsimp only;omega⟩,fun h=>ng _ h,fun _=>⟨(d.cache.length,k+d.sec.length),⟨⟨⟨rfl,Z9 _ _⟩,rfl,trivial⟩,h2,by dsimp only;omega,by dsimp only;omega⟩,fun h=>ng _ h,fun _=>⟨(d.keep.length,k+d.sec.length+2*d.cache.length),⟨⟨⟨rfl,Z9 _ _⟩,rfl,trivial⟩,h3,by dsimp only;omega,by dsimp only;omega⟩,fun h=>ng _ h,fun _=>rfl⟩⟩⟩
def c4K(s:Sto)(k:Nat):Sto:={s with d:=mkD s.d k,log:=F8 s.log.length (S5 s.d k),fr:=y3 s.fr.length (R7 s.fr) (S5 s.d k+10*s.log.length)}
def R0(s:Sto)(k:Nat):Nat:=R6 (R7 s.fr) (S5 s.d k+10*s.log.length) s.fr.length
def KBs(s:Sto)(k:Nat):Prop:=SmS s/\1<=k/\k<=100000000
def b9o:Con:=.reff ⟨Sto×Nat×Nat,fun x=>[.agg (x.1.tm 0),.int .i64 x.2.1],fun x=>x.1.hp x.2.2,fun x=>.int .i64 (R0 x.1 x.2.1),fun x=>(c4K x.1 x.2.1).hp x.2.2,fun x=>KBs x.1 x.2.1⟩
noncomputable def c2Q:Code:=Tryz.f47.body.getD .skip
theorem a7e:Z8 Tryz.prog 47:=⟨_,Tryz.func47,by kernel_rfl,by kernel_rfl⟩
theorem c1K(s:Sto)(k v:Nat)(h:
  ∃(x:(Dsk×Nat)),((((0=0/\s.d.sec.length=x.fst.sec.length)/\(0=0/\s.d.cache.length=x.fst.cache.length)/\s.d.armed=x.fst.armed/\(0=0/\s.d.keep.length=x.fst.keep.length)/\True)/\(k:Int)=(x.snd:Int)/\
  True)/\((Y3 Z6 s.d.sec x.fst.sec)/\(Y3 Z3 s.d.cache x.fst.cache)/\(Y3 Y7 s.d.keep x.fst.keep)/\True)/\KBd x.fst x.snd)/\∃(x_1:(List Rec×Nat)),(((0=0/\s.log.length=x_1.fst.length)/\(↑(S5 x.fst
  x.snd):Int)=(x_1.snd:Int)/\True)/\((Y3 Y4 s.log x_1.fst)/\True)/\KBn x_1.fst.length x_1.snd 10)/\∃(x_2:(List Frm×Nat×Nat)),(((0=0/\s.fr.length=x_2.fst.length)/\(↑(x_1.snd+10*x_1.fst.length):Int)=
  (x_2.snd.fst:Int)/\True)/\((v=x_2.snd.snd/\s.fr.length=x_2.fst.length/\T9 s.fr.length (Y0 s.fr) (Y0 x_2.fst))/\True)/\KBf x_2.fst.length (R7 x_2.fst) x_2.snd.fst)/\((↑(R6 (R7 x_2.fst) x_2.snd.fst
  x_2.fst.length):Int)=(↑(R0 s k):Int)/\True)/\(Y3 Z6 (B1 x.fst.sec.length x.snd) (B1 s.d.sec.length k))/\(Y3 Z3 (u4 x.fst.cache.length (x.snd+x.fst.sec.length)) (u4 s.d.cache.length (k+
  s.d.sec.length)))/\(Y3 Y7 (m8 x.fst.keep.length (x.snd+x.fst.sec.length+2*x.fst.cache.length)) (m8 s.d.keep.length (k+s.d.sec.length+2*s.d.cache.length)))/\(Y3 Y4 (F8 x_1.fst.length x_1.snd) (F8
  s.log.length (S5 s.d k)))/\(x_2.snd.snd=v/\x_2.fst.length=(y3 s.fr.length (R7 s.fr) (S5 s.d k+10*s.log.length)).length/\T9 x_2.fst.length (Y0 (y3 x_2.fst.length (R7 x_2.fst) x_2.snd.fst)) (Y0 (y3
  s.fr.length (R7 s.fr) (S5 s.d k+10*s.log.length))))/\True):
  V7 Tryz.prog 47 [.agg (s.tm 0),.int .i64 k] (s.hp v) (.int .i64 (R0 s k)) ((c4K s k).hp v):=
 C4 (code:=c2Q) (gC b5h a8K (gC b2Z a5P (gC a9Z a6i gN))) Tryz.func47 (by kernel_rfl) (by kernel_rfl) Z0 [[.arr 0,.arr 1,.arr 2,.arr 3,.arr 4]] h (by kernel_rfl)
theorem b6l:Z2 Tryz.prog 47 b9o:=by
 rintro⟨s,k,v⟩ ⟨⟨h1,h2,h3,h4⟩,h6,h7⟩;dsimp only at h1 h2 h3 h4 h6 h7;have hd:S5 s.d k<=110000000:=by unfold S5;obtain⟨a1,a2,a3⟩:=h1;omega
 have hd1:1<=S5 s.d k:=by unfold S5;omega
 have hp:=a3S (R7 s.fr) (S5 s.d k+10*s.log.length) (n:=s.fr.length) h4;have hp2:R6 (R7 s.fr) (S5 s.d k+10*s.log.length) s.fr.length<=10000000000000:=by omega
 exact c1K s k v ⟨(s.d,k),⟨⟨⟨⟨rfl,rfl⟩,⟨rfl,rfl⟩,rfl,⟨rfl,rfl⟩,trivial⟩,rfl,trivial⟩,⟨⟨rfl,Z9 _ _⟩,⟨rfl,Z9 _ _⟩,⟨rfl,Z9 _ _⟩,trivial⟩,h1,h6,h7⟩,(s.log,S5 s.d k),⟨⟨⟨rfl,rfl⟩,rfl,trivial⟩,⟨⟨rfl,Z9 _ _⟩,trivial⟩,h2,hd1,by dsimp only;omega⟩,(s.fr,S5 s.d k+10*s.log.length,v),⟨⟨⟨rfl,rfl⟩,rfl,trivial⟩,⟨⟨rfl,rfl,U4 _⟩,trivial⟩,h3,by dsimp only;omega,hp2,h4⟩,⟨rfl,trivial⟩,⟨rfl,Z9 _ _⟩,⟨rfl,Z9 _ _⟩,⟨rfl,Z9 _ _⟩,⟨rfl,Z9 _ _⟩,⟨rfl,(R8 _ _).symm,U4 _⟩,trivial⟩
def b8Z:Con:=.rel ⟨Sto×Nat,fun x=>[.agg (c4K x.1 x.2).ts,.int .i64 x.2],fun x=>.int .i64 (R0 x.1 x.2),fun x=>KBs x.1 x.2⟩
noncomputable def c0Y:Code:=Tryz.f50.body.getD .skip
theorem a8a:Z8 Tryz.prog 50:=⟨_,Tryz.func50,by kernel_rfl,by kernel_rfl⟩
theorem c3p(s:Sto)(k:Nat)(h:
  ∃(x:(Dsk×Nat)),((((Y3 Z6 (B1 s.d.sec.length k) (B1 x.fst.sec.length x.snd))/\(Y3 Z3 (u4 s.d.cache.length (k+s.d.sec.length)) (u4 x.fst.cache.length (x.snd+x.fst.sec.length)))/\s.d.armed=x.fst.armed/\
  (Y3 Y7 (m8 s.d.keep.length (k+s.d.sec.length+2*s.d.cache.length)) (m8 x.fst.keep.length (x.snd+x.fst.sec.length+2*x.fst.cache.length)))/\True)/\(k:Int)=(x.snd:Int)/\True)/\KBd x.fst x.snd)/\(decide
  ((↑(S5 x.fst x.snd):Int)<(0:Int))=true->(-1:Int)=(↑(R0 s k):Int))/\(decide ((↑(S5 x.fst x.snd):Int)<(0:Int))=false->∃(x_1:(Nat×Nat)),(((Y3 Y4 (F8 s.log.length (S5 s.d k)) (F8 x_1.fst
  x_1.snd))/\(↑(S5 x.fst x.snd):Int)=(x_1.snd:Int)/\True)/\KBn x_1.fst x_1.snd 10)/\(decide ((↑(x_1.snd+10*x_1.fst):Int)<(0:Int))=true->(-1:Int)=(↑(R0 s k):Int))/\(decide ((↑(x_1.snd+10*x_1.fst):
  Int)<(0:Int))=false->∃(x:(Nat×(Nat->Nat)×Nat)),(((Y3 V3 (y3 s.fr.length (R7 s.fr) (S5 s.d k+10*s.log.length)) (y3 x.fst x.snd.fst x.snd.snd))/\(↑(x_1.snd+10*x_1.fst):Int)=(x.snd.snd:Int)/\
  True)/\KBf x.fst x.snd.fst x.snd.snd)/\(decide ((↑(R6 x.snd.fst x.snd.snd x.fst):Int)<(0:Int))=true->(-1:Int)=(↑(R0 s k):Int))/\(decide ((↑(R6 x.snd.fst x.snd.snd x.fst):Int)<(0:Int))=false->
  (↑(R6 x.snd.fst x.snd.snd x.fst):Int)=(↑(R0 s k):Int))))):
  Z1 Tryz.prog 50 [.agg (c4K s k).ts,.int .i64 k] (.int .i64 (R0 s k)):=
 T7 (code:=c0Y) (gC b5m a7W (gC b1H a5L (gC b08 a6f gN))) Tryz.func50 (by kernel_rfl) (by kernel_rfl) Z0 h (by kernel_rfl)
theorem b5S:Z2 Tryz.prog 50 b8Z:=by
 rintro⟨s,k⟩ ⟨⟨h1,h2,h3,h4⟩,h6,h7⟩;dsimp only at h1 h2 h3 h4 h6 h7;have hd:S5 s.d k<=110000000:=by unfold S5;obtain⟨a1,a2,a3⟩:=h1;omega
 have hd1:1<=S5 s.d k:=by unfold S5;omega
 have hp:=a3S (R7 s.fr) (S5 s.d k+10*s.log.length) (n:=s.fr.length) h4;have hp2:R6 (R7 s.fr) (S5 s.d k+10*s.log.length) s.fr.length<=10000000000000:=by omega
 have ng:∀n:Nat,decide ((n:Int)<0)=true->∀{p:Prop},p:=fun n h=>absurd (of_decide_eq_true h) (by omega)
 exact c3p s k ⟨(s.d,k),⟨⟨⟨⟨rfl,Z9 _ _⟩,⟨rfl,Z9 _ _⟩,rfl,⟨rfl,Z9 _ _⟩,trivial⟩,rfl,trivial⟩,h1,h6,h7⟩,fun h=>ng _ h,fun _=>⟨(s.log.length,S5 s.d k),⟨⟨⟨rfl,Z9 _ _⟩,rfl,trivial⟩,h2,hd1,by dsimp only;omega⟩,fun h=>ng _ h,fun _=>⟨(s.fr.length,R7 s.fr,S5 s.d k+10*s.log.length),⟨⟨⟨rfl,Z9 _ _⟩,rfl,trivial⟩,h3,by dsimp only;omega,hp2,h4⟩,fun h=>ng _ h,fun _=>rfl⟩⟩⟩
end Go.Proofs.YtokaojbaacnngaaGreat

