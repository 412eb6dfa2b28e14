/- A part of the proof. -/
import Derived.Test.YtokaojbaacnngaaGreatX5X6
namespace Go.Proofs.YtokaojbaacnngaaGreat
set_option maxRecDepth 100000
open Go.SS

def R6(ln:Nat->Nat)(k:Nat):Nat->Nat
 |0=>k
 |i+1=>R6 ln k i+(ln i+4)
theorem oR(ln:Nat->Nat)(k:Nat):∀{n:Nat},(∀i,i<n->ln i<=1048576)->R6 ln k n<=k+n*1048580
 |0,_=>by show k<=_;omega
 |n+1,h=>by
  have h1:=oR ln k (n:=n) fun i hi=>h i (by omega)
  have h2:=h n (Nat.lt_succ_self n);show R6 ln k n+(ln n+4)<=_;omega
theorem o5(ln:Nat->Nat)(k:Nat){i:Nat}:∀{j:Nat},i<=j->R6 ln k i<=R6 ln k j
 |0,h=>by(obtain rfl:i=0:=by omega);exact V5 _
 |j+1,h=>by
  by_cases hij:i=j+1
  ·rw[hij];exact V5 _
  ·have:=o5 ln k (i:=i) (j:=j) (by omega)
   show R6 ln k i<=R6 ln k j+(ln j+4);omega
def a75(q n:Nat):Frm:=⟨(q:Int),⟨(q:Int)+1,y8 n (q+2)⟩,((q+2+n:Nat):Int).tmod 3==0,((q+2+n:Nat):Int)+1⟩
def t4(n:Nat)(ln:Nat->Nat)(k:Nat):List Frm:=(List.range n).map fun i=>a75 (R6 ln k i) (ln i)
def R7(L:List Frm)(i:Nat):Nat:=(L.getD i default).pg.sl.length
def i5(L:List Frm)(k x j:Nat):Frm:=if j<x then a75 (R6 (R7 L) k j) (R7 L j) else L.getD j default
def fcs(f:Frm):List T:=[.int .i64 f.no,.int .i64 f.pg.lsn,.own 0 1 f.pg.sl.length (Z6 f.pg.sl),.bool f.dirty,.int .i64 f.first]
def KBf(n:Nat)(ln:Nat->Nat)(k:Nat):Prop:=n<=1048576/\1<=k/\R6 ln k n<=10000000000000/\∀i,i<n->ln i<=1048576
def a4L:Con:=.reff ⟨List Frm×Nat×Nat,fun x=>[.osl 0 0 x.1.length,.int .i64 x.2.1],fun x=>[yU x.2.2 x.1 x.1.length],fun x=>.int .i64 (R6 (R7 x.1) x.2.1 x.1.length),fun x=>[yU x.2.2 (t4 x.1.length (R7 x.1) x.2.1) x.1.length],fun x=>KBf x.1.length (R7 x.1) x.2.1⟩
def a5e(L:List Frm)(k v:Nat):Nat->Ann
 |0=>.one {i:Nat//i<=L.length} (fun x=>⟨[(0,.osl 0 0 L.length),(1,.int .i64 (R6 (R7 L) k x.1)),(5,.int .i64 x.1)],[some (.fam v 0 5 L.length fun j=>fcs (i5 L k x.1 j))]⟩) (fun x=>L.length-x.1) [.arr 0] [.arr 0] (fun _=>Z0)
 |_=>.none
noncomputable def a5r:Code:=Tryz.f101.body.getD .skip
theorem kC:Z7 Tryz.prog 101:=⟨_,Tryz.func101,by kernel_rfl,by kernel_rfl⟩
theorem a5S(L:List Frm)(k v:Nat)(h:
  (∃(x:{i:Nat//i<=L.length}),((0=0/\L.length=L.length)/\(k:Int)=(↑(R6 (R7 L) k x.val):Int)/\(0:Int)=(x.val:Int)/\True)/\(v=v/\L.length=L.length/\T5 L.length (X9 L) fun(j:Nat)=>[T.int
  .i64 (i5 L k x.val j).no,T.int .i64 (i5 L k x.val j).pg.lsn,T.own 0 1 (i5 L k x.val j).pg.sl.length (Z6 (i5 L k x.val j).pg.sl),T.bool (i5 L k x.val j).dirty,T.int .i64 (i5 L k x.val j).first])/\True)/\∀(x:{i:
  Nat//i<=L.length}),(decide ((x.val:Int)<(L.length:Int))=true->X0 (x.val:Int) L.length/\b2Z (0+(x.val:Int).toNat) L.length [T.int .i64 (i5 L k x.val (0+(x.val:Int).toNat)).no]/\X8 .i64 ((↑(R6 (R7 L) k x.val)
  :Int)+(1:Int))/\X0 (x.val:Int) L.length/\b2Z (0+(x.val:Int).toNat) L.length [T.int .i64 (i5 L k x.val (0+(x.val:Int).toNat)).pg.lsn]/\X8 .i64 ((↑(R6 (R7 L) k x.val):Int)+(1:Int)+(1:Int))/\X0
  (x.val:Int) L.length/\Lt (0+(x.val:Int).toNat) L.length/\∃(x_1:(List (List UInt8)×Nat)),((((0=0/\(i5 L k x.val (0+(x.val:Int).toNat)).pg.sl.length=x_1.fst.length)/\(↑(R6 (R7 L) k x.val):Int)+(1:Int)+
  (1:Int)=(x_1.snd:Int)/\True)/\((Y4 Z6 (i5 L k x.val (0+(x.val:Int).toNat)).pg.sl x_1.fst)/\True)/\tS x_1.fst.length x_1.snd 1)/\c7Z v v (0+(x.val:Int).toNat) L.length (i5 L k x.val (0+
  (x.val:Int).toNat)).pg.sl.length (i5 L k x.val (0+(x.val:Int).toNat)).pg.sl.length (y8 x_1.fst.length x_1.snd).length (Z6 (y8 x_1.fst.length x_1.snd)))/\Nz (3:Int)/\X0 (x.val:Int) L.length/\b2Z (0+
  (x.val:Int).toNat) L.length [T.bool (i5 L k x.val (0+(x.val:Int).toNat)).dirty]/\X8 .i64 ((↑(x_1.snd+x_1.fst.length):Int)+(1:Int))/\X0 (x.val:Int) L.length/\b2Z (0+(x.val:Int).toNat) L.length [T.int .i64 (i5 L
  k x.val (0+(x.val:Int).toNat)).first]/\X8 .i64 ((↑(x_1.snd+x_1.fst.length):Int)+(1:Int)+(1:Int))/\X8 .i64 ((x.val:Int)+(1:Int))/\∃(y:{i:Nat//i<=L.length}),(((0=0/\L.length=L.length)/\
  (↑(x_1.snd+x_1.fst.length):Int)+(1:Int)+(1:Int)=(↑(R6 (R7 L) k y.val):Int)/\(x.val:Int)+(1:Int)=(y.val:Int)/\True)/\(v=v/\L.length=L.length/\T5 L.length (setRow (setRow (setRow (setRow (setRow
  (fun(j:Nat)=>[T.int .i64 (i5 L k x.val j).no,T.int .i64 (i5 L k x.val j).pg.lsn,T.own 0 1 (i5 L k x.val j).pg.sl.length (Z6 (i5 L k x.val j).pg.sl),T.bool (i5 L k x.val j).dirty,T.int .i64 (i5 L k x.val
  j).first]) (0+(x.val:Int).toNat) 0 [T.int .i64 (↑(R6 (R7 L) k x.val):Int)]) (0+(x.val:Int).toNat) 1 [T.int .i64 ((↑(R6 (R7 L) k x.val):Int)+(1:Int))]) (0+(x.val:Int).toNat) 2 [T.own 0 1 (y8 x_1.fst.length
  x_1.snd).length (Z6 (y8 x_1.fst.length x_1.snd))]) (0+(x.val:Int).toNat) 3 [T.bool ((↑(x_1.snd+x_1.fst.length):Int).tmod (3:Int)==(0:Int))]) (0+(x.val:Int).toNat) 4 [T.int .i64 ((↑(x_1.snd+x_1.fst.length):
  Int)+(1:Int))]) fun(j:Nat)=>[T.int .i64 (i5 L k y.val j).no,T.int .i64 (i5 L k y.val j).pg.lsn,T.own 0 1 (i5 L k y.val j).pg.sl.length (Z6 (i5 L k y.val j).pg.sl),T.bool (i5 L k y.val j).dirty,T.int .i64 (i5
  L k y.val j).first])/\True)/\Lt (L.length-y.val) (L.length-x.val))/\(decide ((x.val:Int)<(L.length:Int))=false->((↑(R6 (R7 L) k x.val):Int)=(↑(R6 (R7 L) k L.length):Int)/\True)/\(v=v/\L.length=
  L.length/\T5 L.length (fun(j:Nat)=>[T.int .i64 (i5 L k x.val j).no,T.int .i64 (i5 L k x.val j).pg.lsn,T.own 0 1 (i5 L k x.val j).pg.sl.length (Z6 (i5 L k x.val j).pg.sl),T.bool (i5 L k x.val j).dirty,T.int
  .i64 (i5 L k x.val j).first]) (X9 (t4 L.length (R7 L) k)))/\True)):
  V3 Tryz.prog 101 [.osl 0 0 L.length,.int .i64 k] [yU v L L.length] (.int .i64 (R6 (R7 L) k L.length)) [yU v (t4 L.length (R7 L) k) L.length]:=
 v5 (code:=a5r) (gC qJ vL gN) Tryz.func101 (by kernel_rfl) (by kernel_rfl) (a5e L k v) [[.arr 0]] h (by kernel_rfl)
theorem c23{L:List Frm}{k x:Nat}(j:Nat):qI (fun j=>fcs (i5 L k x j)) x [(0,.int .i64 (R6 (R7 L) k x)),(1,.int .i64 ((R6 (R7 L) k x:Int)+1)),(2,.own 0 1 (y8 (L.getD x default).pg.sl.length (R6 (R7 L) k x+2)).length (Z6 (y8 (L.getD x default).pg.sl.length (R6 (R7 L) k x+2)))),(3,.bool (((R6 (R7 L) k x+2+(L.getD x default).pg.sl.length:Nat):Int).tmod 3==0)),(4,.int .i64 (((R6 (R7 L) k x+2+(L.getD x default).pg.sl.length:Nat):Int)+1))] j=fcs (i5 L k (x+1) j):=by
 by_cases hj:j=x
 ·subst hj;rw[lI (by simp[fcs]),show i5 L k (j+1) j=a75 (R6 (R7 L) k j) (R7 L j) by unfold i5;rw[if_pos (Nat.lt_succ_self _)]]
  rfl
 ·rw[mP hj (by simp[fcs])]
  have:i5 L k x j=i5 L k (x+1) j:=by
   unfold i5;by_cases h:j<x
   ·rw[if_pos h,if_pos (by omega)]
   ·rw[if_neg h,if_neg (by omega)]
  rw[this]
theorem a1T:Z1 Tryz.prog 101 a4L:=by
 rintro⟨L,k,v⟩ ⟨h1,h2,h3,h4⟩;dsimp only at h1 h2 h3 h4;refine a5S L k v ⟨⟨⟨0,T0 _⟩,⟨⟨rfl,rfl⟩,rfl,rfl,trivial⟩,⟨rfl,rfl,qU fun i _=>rfl⟩,trivial⟩,fun x=>⟨fun hc=> ?_,fun hc=> ?_⟩⟩
 ·have hlt:=Y9 hc;have ib:=Y7 hlt;have hm:=o5 (R7 L) k (i:=x.val+1) (j:=L.length) hlt;have hk:=o5 (R7 L) k (i:=0) (j:=x.val) (T0 _);have hp:R6 (R7 L) k (x.val+1)=R6 (R7 L) k x.val+((L.getD x.val default).pg.sl.length+4):=rfl;have h0:R6 (R7 L) k 0=k:=rfl;have hx4:(L.getD x.val default).pg.sl.length<=1048576:=h4 _ hlt;have eu:i5 L k x.val x.val=L.getD x.val default:=by unfold i5;rw[if_neg (Nat.lt_irrefl _)]
  rw[v4,yO,eu];refine⟨ib,⟨hlt,rfl⟩,Z5 (by omega),ib,⟨hlt,rfl⟩,Z5 (by omega),ib,hlt,((L.getD x.val default).pg.sl,R6 (R7 L) k x.val+2),⟨⟨⟨⟨rfl,rfl⟩,by dsimp only;omega,trivial⟩,⟨⟨rfl,Z9 _ _⟩,trivial⟩,hx4,by dsimp only;omega,by dsimp only;omega⟩,rfl,hlt,V5 _,S0 _ _,fun r _ t ht=> ?_⟩,by unfold Nz;omega,ib,⟨hlt,rfl⟩,Z5 (by dsimp only;omega),ib,⟨hlt,rfl⟩,Z5 (by dsimp only;omega),Z5 (by omega),⟨x.val+1,hlt⟩,⟨⟨⟨rfl,rfl⟩,by dsimp only;omega,by dsimp only;omega,trivial⟩,⟨rfl,rfl,qU fun j _=> ?_⟩,trivial⟩,V9.ext_lt hlt⟩
  ·simp only[Z6,List.mem_singleton] at ht;rw[ht];rfl
  ·exact c23 j
 ·have hx:x.val=L.length:=by have:=x.2;have:=Y3 hc;omega
  rw[hx];refine⟨⟨rfl,trivial⟩,⟨rfl,rfl,qU fun i hi=> ?_⟩,trivial⟩
  have e1:i5 L k L.length i=a75 (R6 (R7 L) k i) (R7 L i):=by unfold i5;rw[if_pos hi]
  have e2:(t4 L.length (R7 L) k).getD i default=a75 (R6 (R7 L) k i) (R7 L i):=A6 _ hi _;rw[e1];unfold X9;rw[e2]
def a6H:Con:=.rel ⟨Nat×(Nat->Nat)×Nat,fun x=>[w5 (t4 x.1 x.2.1 x.2.2),.int .i64 x.2.2],fun x=>.int .i64 (R6 x.2.1 x.2.2 x.1),fun x=>KBf x.1 x.2.1 x.2.2⟩
def a8p(n:Nat)(ln:Nat->Nat)(k:Nat):Nat->Ann
 |0=>.one {i:Nat//i<=n} (fun x=>⟨[(0,w5 (t4 n ln k)),(1,.int .i64 (R6 ln k x.1)),(5,.int .i64 x.1)],[]⟩) (fun x=>n-x.1) [] [] (fun _=>Z0)
 |_=>.none
noncomputable def a4o:Code:=Tryz.f106.body.getD .skip
theorem jY:Z7 Tryz.prog 106:=⟨_,Tryz.func106,by kernel_rfl,by kernel_rfl⟩
theorem a7n(n:Nat)(ln:Nat->Nat)(k:Nat)(h:
  (∃(x:{i:Nat//i<=n}),((Y4 V6 (t4 n ln k) (t4 n ln k))/\(k:Int)=(↑(R6 ln k x.val):Int)/\(0:Int)=(x.val:Int)/\True)/\True)/\∀(x:{i:Nat//i<=n}),(decide ((x.val:Int)<(↑(t4 n ln k).length:
  Int))=true->X0 (x.val:Int) (t4 n ln k).length/\((((t4 n ln k).getD (x.val:Int).toNat default).no !=(↑(R6 ln k x.val):Int))=true->(-1:Int)=(↑(R6 ln k n):Int))/\((((t4 n ln k).getD (x.val:Int).toNat
  default).no !=(↑(R6 ln k x.val):Int))=false->X8 .i64 ((↑(R6 ln k x.val):Int)+(1:Int))/\X0 (x.val:Int) (t4 n ln k).length/\((((t4 n ln k).getD (x.val:Int).toNat default).pg.lsn !=(↑(R6 ln k x.val):Int)+
  (1:Int))=true->(-1:Int)=(↑(R6 ln k n):Int))/\((((t4 n ln k).getD (x.val:Int).toNat default).pg.lsn !=(↑(R6 ln k x.val):Int)+(1:Int))=false->X8 .i64 ((↑(R6 ln k x.val):Int)+(1:Int)+(1:Int))/\
  X0 (x.val:Int) (t4 n ln k).length/\∃(x_1:(Nat×Nat)),(((Y4 Z6 ((t4 n ln k).getD (x.val:Int).toNat default).pg.sl (y8 x_1.fst x_1.snd))/\(↑(R6 ln k x.val):Int)+(1:Int)+(1:Int)=(x_1.snd:Int)/\True)/\
  tS x_1.fst x_1.snd 1)/\(decide ((↑(x_1.snd+x_1.fst):Int)<(0:Int))=true->(-1:Int)=(↑(R6 ln k n):Int))/\(decide ((↑(x_1.snd+x_1.fst):Int)<(0:Int))=false->X0 (x.val:Int) (t4 n ln k).length/\Nz (3:
  Int)/\((!((t4 n ln k).getD (x.val:Int).toNat default).dirty==((↑(x_1.snd+x_1.fst):Int).tmod (3:Int)==(0:Int)))=true->(-1:Int)=(↑(R6 ln k n):Int))/\((!((t4 n ln k).getD (x.val:Int).toNat default).dirty==
  ((↑(x_1.snd+x_1.fst):Int).tmod (3:Int)==(0:Int)))=false->X8 .i64 ((↑(x_1.snd+x_1.fst):Int)+(1:Int))/\X0 (x.val:Int) (t4 n ln k).length/\((((t4 n ln k).getD (x.val:Int).toNat default).first !=(↑(x_1.snd
  +x_1.fst):Int)+(1:Int))=true->(-1:Int)=(↑(R6 ln k n):Int))/\((((t4 n ln k).getD (x.val:Int).toNat default).first !=(↑(x_1.snd+x_1.fst):Int)+(1:Int))=false->X8 .i64 ((↑(x_1.snd+x_1.fst):Int)+
  (1:Int)+(1:Int))/\X8 .i64 ((x.val:Int)+(1:Int))/\∃(y:{i:Nat//i<=n}),(((Y4 V6 (t4 n ln k) (t4 n ln k))/\(↑(x_1.snd+x_1.fst):Int)+(1:Int)+(1:Int)=(↑(R6 ln k y.val):Int)/\(x.val:Int)
  +(1:Int)=(y.val:Int)/\True)/\True)/\Lt (n-y.val) (n-x.val)))))))/\(decide ((x.val:Int)<(↑(t4 n ln k).length:Int))=false->(↑(R6 ln k x.val):Int)=(↑(R6 ln k n):Int))):
  Z2 Tryz.prog 106 [w5 (t4 n ln k),.int .i64 k] (.int .i64 (R6 ln k n)):=
 T4 (code:=a4o) (gC pV uX gN) Tryz.func106 (by kernel_rfl) (by kernel_rfl) (a8p n ln k) h (by kernel_rfl)
theorem a1G:Z1 Tryz.prog 106 a6H:=by
 rintro⟨n,ln,k⟩ ⟨h1,h2,h3,h4⟩;dsimp only at h1 h2 h3 h4;have hn:(t4 n ln k).length=n:=S0 _ _;refine a7n n ln k ⟨⟨⟨0,T0 _⟩,⟨⟨rfl,Z9 _ _⟩,rfl,rfl,trivial⟩,trivial⟩,fun x=>⟨fun hc=> ?_,fun hc=> ?_⟩⟩
 ·have hlt:=Y9 hc;have hlt':x.val<n:=by omega
  have ib:=Y7 hlt;have e:(t4 n ln k).getD (x.val:Int).toNat default=a75 (R6 ln k x.val) (ln x.val):=by rw[v4];exact A6 _ hlt' _
  rw[e];have hm:=o5 ln k (i:=x.val+1) (j:=n) hlt';have hk:=o5 ln k (i:=0) (j:=x.val) (T0 _);have hp:R6 ln k (x.val+1)=R6 ln k x.val+(ln x.val+4):=rfl;have h0:R6 ln k 0=k:=rfl;have hx4:=h4 _ hlt';unfold a75;exact⟨ib,fun h=>by simp at h,fun _=>⟨Z5 (by omega),ib,fun h=>by simp at h,fun _=>⟨Z5 (by omega),ib,(ln x.val,R6 ln k x.val+2),⟨⟨⟨rfl,Z9 _ _⟩,by dsimp only;omega,trivial⟩,hx4,by dsimp only;omega,by dsimp only;omega⟩,fun h=>by(have:=D8 h;dsimp only at this;omega),fun _=>⟨ib,by unfold Nz;omega,fun h=>by simp at h,fun _=>⟨Z5 (by dsimp only;omega),ib,fun h=>by simp at h,fun _=>⟨Z5 (by dsimp only;omega),Z5 (by omega),⟨x.val+1,hlt'⟩,⟨⟨⟨rfl,Z9 _ _⟩,by dsimp only;omega,by dsimp only;omega,trivial⟩,trivial⟩,V9.ext_lt hlt'⟩⟩⟩⟩⟩⟩
 ·have hx:x.val=n:=by have:=x.2;have:=Y3 hc;omega
  rw[hx]
def mkD(d:Dsk)(k:Nat):Dsk:={d with sec:=y8 d.sec.length k,cache:=o4 d.cache.length (k+d.sec.length),keep:=j7 d.keep.length (k+d.sec.length+2*d.cache.length)}
def S5(d:Dsk)(k:Nat):Nat:=k+d.sec.length+2*d.cache.length+d.keep.length
def KBd(d:Dsk)(k:Nat):Prop:=pD d/\1<=k/\k<=100000000
def b1N:Con:=.reff ⟨Dsk×Nat,fun x=>[.agg (x.1.tm 0),.int .i64 x.2],fun x=>x.1.hp,fun x=>.int .i64 (S5 x.1 x.2),fun x=>(mkD x.1 x.2).hp,fun x=>KBd x.1 x.2⟩
noncomputable def b2g:Code:=Tryz.f99.body.getD .skip
theorem aW:Z7 Tryz.prog 99:=⟨_,Tryz.func99,by kernel_rfl,by kernel_rfl⟩
theorem b1i(d:Dsk)(k:Nat)(h:
  ∃(x:(List (List UInt8)×Nat)),(((0=0/\d.sec.length=x.fst.length)/\(k:Int)=(x.snd:Int)/\True)/\((Y4 Z6 d.sec x.fst)/\True)/\tS x.fst.length x.snd 1)/\∃(x_1:(List Pend×Nat)),(((0=0/\d.cache.length=
  x_1.fst.length)/\(↑(x.snd+x.fst.length):Int)=(x_1.snd:Int)/\True)/\((Y4 Z3 d.cache x_1.fst)/\True)/\tS x_1.fst.length x_1.snd 2)/\∃(x_2:(List Int×Nat)),(((0=0/\d.keep.length=x_2.fst.length)/\
  (↑(x_1.snd+2*x_1.fst.length):Int)=(x_2.snd:Int)/\True)/\((Y4 Y8 d.keep x_2.fst)/\True)/\tS x_2.fst.length x_2.snd 1)/\((↑(x_2.snd+x_2.fst.length):Int)=(↑(S5 d k):Int)/\True)/\(Y4 Z6 (y8
  x.fst.length x.snd) (y8 d.sec.length k))/\(Y4 Z3 (o4 x_1.fst.length x_1.snd) (o4 d.cache.length (k+d.sec.length)))/\(Y4 Y8 (j7 x_2.fst.length x_2.snd) (j7 d.keep.length (k+d.sec.length+2*d.cache.length)))
  /\True):
  V3 Tryz.prog 99 [.agg (d.tm 0),.int .i64 k] d.hp (.int .i64 (S5 d k)) (mkD d k).hp:=
 v5 (code:=b2g) (gC qJ vL (gC dA kV (gC a0T iU gN))) Tryz.func99 (by kernel_rfl) (by kernel_rfl) Z0 [[.arr 0,.arr 1,.arr 2]] h (by kernel_rfl)
theorem a62:Z1 Tryz.prog 99 b1N:=by
 rintro⟨d,k⟩ ⟨⟨h1,h2,h3⟩,h4,h5⟩;dsimp only at h1 h2 h3 h4 h5;exact b1i d k ⟨(d.sec,k),⟨⟨⟨rfl,rfl⟩,rfl,trivial⟩,⟨⟨rfl,Z9 _ _⟩,trivial⟩,h1,h4,by dsimp only;omega⟩,(d.cache,k+d.sec.length),⟨⟨⟨rfl,rfl⟩,rfl,trivial⟩,⟨⟨rfl,Z9 _ _⟩,trivial⟩,h2,by dsimp only;omega,by dsimp only;omega⟩,(d.keep,k+d.sec.length+2*d.cache.length),⟨⟨⟨rfl,rfl⟩,rfl,trivial⟩,⟨⟨rfl,Z9 _ _⟩,trivial⟩,h3,by dsimp only;omega,by dsimp only;omega⟩,⟨rfl,trivial⟩,⟨rfl,Z9 _ _⟩,⟨rfl,Z9 _ _⟩,⟨rfl,Z9 _ _⟩,trivial⟩
def a98:Con:=.rel ⟨Dsk×Nat,fun x=>[.agg (mkD x.1 x.2).ts,.int .i64 x.2],fun x=>.int .i64 (S5 x.1 x.2),fun x=>KBd x.1 x.2⟩
noncomputable def b3w:Code:=Tryz.f104.body.getD .skip
theorem cH:Z7 Tryz.prog 104:=⟨_,Tryz.func104,by kernel_rfl,by kernel_rfl⟩
theorem b2u(d:Dsk)(k:Nat)(h:
  ∃(x:(Nat×Nat)),(((Y4 Z6 (y8 d.sec.length k) (y8 x.fst x.snd))/\(k:Int)=(x.snd:Int)/\True)/\tS x.fst x.snd 1)/\(decide ((↑(x.snd+x.fst):Int)<(0:Int))=true->(-1:Int)=(↑(S5 d k):Int))/\(decide
  ((↑(x.snd+x.fst):Int)<(0:Int))=false->∃(x_1:(Nat×Nat)),(((Y4 Z3 (o4 d.cache.length (k+d.sec.length)) (o4 x_1.fst x_1.snd))/\(↑(x.snd+x.fst):Int)=(x_1.snd:Int)/\True)/\tS x_1.fst x_1.snd 2)/\
  (decide ((↑(x_1.snd+2*x_1.fst):Int)<(0:Int))=true->(-1:Int)=(↑(S5 d k):Int))/\(decide ((↑(x_1.snd+2*x_1.fst):Int)<(0:Int))=false->∃(x:(Nat×Nat)),(((Y4 Y8 (j7 d.keep.length (k+
  d.sec.length+2*d.cache.length)) (j7 x.fst x.snd))/\(↑(x_1.snd+2*x_1.fst):Int)=(x.snd:Int)/\True)/\tS x.fst x.snd 1)/\(decide ((↑(x.snd+x.fst):Int)<(0:Int))=true->(-1:Int)=(↑(S5 d k):Int))/\
  (decide ((↑(x.snd+x.fst):Int)<(0:Int))=false->(↑(x.snd+x.fst):Int)=(↑(S5 d k):Int))))):
  Z2 Tryz.prog 104 [.agg (mkD d k).ts,.int .i64 k] (.int .i64 (S5 d k)):=
 T4 (code:=b3w) (gC pV uX (gC a0x nR (gC a1q jP gN))) Tryz.func104 (by kernel_rfl) (by kernel_rfl) Z0 h (by kernel_rfl)
theorem a5x:Z1 Tryz.prog 104 a98:=by
 rintro⟨d,k⟩ ⟨⟨h1,h2,h3⟩,h4,h5⟩;dsimp only at h1 h2 h3 h4 h5;have ng:∀n:Nat,decide ((n:Int)<0)=true->∀{p:Prop},p:=fun n h=>absurd (D8 h) (by omega)
 exact b2u d k ⟨(d.sec.length,k),⟨⟨⟨rfl,Z9 _ _⟩,rfl,trivial⟩,h1,h4,by dsimp only;omega⟩,fun h=>ng _ h,fun _=>⟨(d.cache.length,k+d.sec.length),⟨⟨⟨rfl,Z9 _ _⟩,rfl,trivial⟩,h2,by dsimp only;omega,by dsimp only;omega⟩,fun h=>ng _ h,fun _=>⟨(d.keep.length,k+d.sec.length+2*d.cache.length),⟨⟨⟨rfl,Z9 _ _⟩,rfl,trivial⟩,h3,by dsimp only;omega,by dsimp only;omega⟩,fun h=>ng _ h,fun _=>rfl⟩⟩⟩
def b6q(s:Sto)(k:Nat):Sto:={s with d:=mkD s.d k,log:=D9 s.log.length (S5 s.d k),fr:=t4 s.fr.length (R7 s.fr) (S5 s.d k+10*s.log.length)}
def R0(s:Sto)(k:Nat):Nat:=R6 (R7 s.fr) (S5 s.d k+10*s.log.length) s.fr.length
def KBs(s:Sto)(k:Nat):Prop:=SmS s/\1<=k/\k<=100000000
def b31:Con:=.reff ⟨Sto×Nat×Nat,fun x=>[.agg (x.1.tm 0),.int .i64 x.2.1],fun x=>x.1.hp x.2.2,fun x=>.int .i64 (R0 x.1 x.2.1),fun x=>(b6q x.1 x.2.1).hp x.2.2,fun x=>KBs x.1 x.2.1⟩
noncomputable def b1U:Code:=Tryz.f47.body.getD .skip
theorem eB:Z7 Tryz.prog 47:=⟨_,Tryz.func47,by kernel_rfl,by kernel_rfl⟩
theorem b0V(s:Sto)(k v:Nat)(h:
  ∃(x:(Dsk×Nat)),((((0=0/\s.d.sec.length=x.fst.sec.length)/\(0=0/\s.d.cache.length=x.fst.cache.length)/\s.d.armed=x.fst.armed/\(0=0/\s.d.keep.length=x.fst.keep.length)/\True)/\(k:Int)=(x.snd:Int)/\
  True)/\((Y4 Z6 s.d.sec x.fst.sec)/\(Y4 Z3 s.d.cache x.fst.cache)/\(Y4 Y8 s.d.keep x.fst.keep)/\True)/\KBd x.fst x.snd)/\∃(x_1:(List Rec×Nat)),(((0=0/\s.log.length=x_1.fst.length)/\(↑(S5 x.fst
  x.snd):Int)=(x_1.snd:Int)/\True)/\((Y4 Y5 s.log x_1.fst)/\True)/\tS x_1.fst.length x_1.snd 10)/\∃(x_2:(List Frm×Nat×Nat)),(((0=0/\s.fr.length=x_2.fst.length)/\(↑(x_1.snd+10*x_1.fst.length):Int)=
  (x_2.snd.fst:Int)/\True)/\((v=x_2.snd.snd/\s.fr.length=x_2.fst.length/\T5 s.fr.length (X9 s.fr) (X9 x_2.fst))/\True)/\KBf x_2.fst.length (R7 x_2.fst) x_2.snd.fst)/\((↑(R6 (R7 x_2.fst) x_2.snd.fst
  x_2.fst.length):Int)=(↑(R0 s k):Int)/\True)/\(Y4 Z6 (y8 x.fst.sec.length x.snd) (y8 s.d.sec.length k))/\(Y4 Z3 (o4 x.fst.cache.length (x.snd+x.fst.sec.length)) (o4 s.d.cache.length (k+
  s.d.sec.length)))/\(Y4 Y8 (j7 x.fst.keep.length (x.snd+x.fst.sec.length+2*x.fst.cache.length)) (j7 s.d.keep.length (k+s.d.sec.length+2*s.d.cache.length)))/\(Y4 Y5 (D9 x_1.fst.length x_1.snd) (D9
  s.log.length (S5 s.d k)))/\(x_2.snd.snd=v/\x_2.fst.length=(t4 s.fr.length (R7 s.fr) (S5 s.d k+10*s.log.length)).length/\T5 x_2.fst.length (X9 (t4 x_2.fst.length (R7 x_2.fst) x_2.snd.fst)) (X9 (t4
  s.fr.length (R7 s.fr) (S5 s.d k+10*s.log.length))))/\True):
  V3 Tryz.prog 47 [.agg (s.tm 0),.int .i64 k] (s.hp v) (.int .i64 (R0 s k)) ((b6q s k).hp v):=
 v5 (code:=b1U) (gC a62 aW (gC a1P iM (gC a1T kC gN))) Tryz.func47 (by kernel_rfl) (by kernel_rfl) Z0 [[.arr 0,.arr 1,.arr 2,.arr 3,.arr 4]] h (by kernel_rfl)
theorem a5h:Z1 Tryz.prog 47 b31:=by
 rintro⟨s,k,v⟩ ⟨⟨h1,h2,h3,h4⟩,h6,h7⟩;dsimp only at h1 h2 h3 h4 h6 h7;have hd:S5 s.d k<=110000000:=by unfold S5;obtain⟨a1,a2,a3⟩:=h1;omega
 have hd1:1<=S5 s.d k:=by unfold S5;omega
 have hp:=oR (R7 s.fr) (S5 s.d k+10*s.log.length) (n:=s.fr.length) h4;have hp2:R6 (R7 s.fr) (S5 s.d k+10*s.log.length) s.fr.length<=10000000000000:=by omega
 exact b0V s k v ⟨(s.d,k),⟨⟨⟨⟨rfl,rfl⟩,⟨rfl,rfl⟩,rfl,⟨rfl,rfl⟩,trivial⟩,rfl,trivial⟩,⟨⟨rfl,Z9 _ _⟩,⟨rfl,Z9 _ _⟩,⟨rfl,Z9 _ _⟩,trivial⟩,h1,h6,h7⟩,(s.log,S5 s.d k),⟨⟨⟨rfl,rfl⟩,rfl,trivial⟩,⟨⟨rfl,Z9 _ _⟩,trivial⟩,h2,hd1,by dsimp only;omega⟩,(s.fr,S5 s.d k+10*s.log.length,v),⟨⟨⟨rfl,rfl⟩,rfl,trivial⟩,⟨⟨rfl,rfl,U3 _⟩,trivial⟩,h3,by dsimp only;omega,hp2,h4⟩,⟨rfl,trivial⟩,⟨rfl,Z9 _ _⟩,⟨rfl,Z9 _ _⟩,⟨rfl,Z9 _ _⟩,⟨rfl,Z9 _ _⟩,⟨rfl,(S0 _ _).symm,U3 _⟩,trivial⟩
def b3S:Con:=.rel ⟨Sto×Nat,fun x=>[.agg (b6q x.1 x.2).ts,.int .i64 x.2],fun x=>.int .i64 (R0 x.1 x.2),fun x=>KBs x.1 x.2⟩
noncomputable def b4o:Code:=Tryz.f50.body.getD .skip
theorem aF:Z7 Tryz.prog 50:=⟨_,Tryz.func50,by kernel_rfl,by kernel_rfl⟩
theorem b38(s:Sto)(k:Nat)(h:
  ∃(x:(Dsk×Nat)),((((Y4 Z6 (y8 s.d.sec.length k) (y8 x.fst.sec.length x.snd))/\(Y4 Z3 (o4 s.d.cache.length (k+s.d.sec.length)) (o4 x.fst.cache.length (x.snd+x.fst.sec.length)))/\s.d.armed=x.fst.armed/\
  (Y4 Y8 (j7 s.d.keep.length (k+s.d.sec.length+2*s.d.cache.length)) (j7 x.fst.keep.length (x.snd+x.fst.sec.length+2*x.fst.cache.length)))/\True)/\(k:Int)=(x.snd:Int)/\True)/\KBd x.fst x.snd)/\(decide
  ((↑(S5 x.fst x.snd):Int)<(0:Int))=true->(-1:Int)=(↑(R0 s k):Int))/\(decide ((↑(S5 x.fst x.snd):Int)<(0:Int))=false->∃(x_1:(Nat×Nat)),(((Y4 Y5 (D9 s.log.length (S5 s.d k)) (D9 x_1.fst
  x_1.snd))/\(↑(S5 x.fst x.snd):Int)=(x_1.snd:Int)/\True)/\tS x_1.fst x_1.snd 10)/\(decide ((↑(x_1.snd+10*x_1.fst):Int)<(0:Int))=true->(-1:Int)=(↑(R0 s k):Int))/\(decide ((↑(x_1.snd+10*x_1.fst):
  Int)<(0:Int))=false->∃(x:(Nat×(Nat->Nat)×Nat)),(((Y4 V6 (t4 s.fr.length (R7 s.fr) (S5 s.d k+10*s.log.length)) (t4 x.fst x.snd.fst x.snd.snd))/\(↑(x_1.snd+10*x_1.fst):Int)=(x.snd.snd:Int)/\
  True)/\KBf x.fst x.snd.fst x.snd.snd)/\(decide ((↑(R6 x.snd.fst x.snd.snd x.fst):Int)<(0:Int))=true->(-1:Int)=(↑(R0 s k):Int))/\(decide ((↑(R6 x.snd.fst x.snd.snd x.fst):Int)<(0:Int))=false->
  (↑(R6 x.snd.fst x.snd.snd x.fst):Int)=(↑(R0 s k):Int))))):
  Z2 Tryz.prog 50 [.agg (b6q s k).ts,.int .i64 k] (.int .i64 (R0 s k)):=
 T4 (code:=b4o) (gC a5x cH (gC a2W kD (gC a1G jY gN))) Tryz.func50 (by kernel_rfl) (by kernel_rfl) Z0 h (by kernel_rfl)
theorem a52:Z1 Tryz.prog 50 b3S:=by
 rintro⟨s,k⟩ ⟨⟨h1,h2,h3,h4⟩,h6,h7⟩;dsimp only at h1 h2 h3 h4 h6 h7;have hd:S5 s.d k<=110000000:=by unfold S5;obtain⟨a1,a2,a3⟩:=h1;omega
 have hd1:1<=S5 s.d k:=by unfold S5;omega
 have hp:=oR (R7 s.fr) (S5 s.d k+10*s.log.length) (n:=s.fr.length) h4;have hp2:R6 (R7 s.fr) (S5 s.d k+10*s.log.length) s.fr.length<=10000000000000:=by omega
 have ng:∀n:Nat,decide ((n:Int)<0)=true->∀{p:Prop},p:=fun n h=>absurd (D8 h) (by omega)
 exact b38 s k ⟨(s.d,k),⟨⟨⟨⟨rfl,Z9 _ _⟩,⟨rfl,Z9 _ _⟩,rfl,⟨rfl,Z9 _ _⟩,trivial⟩,rfl,trivial⟩,h1,h6,h7⟩,fun h=>ng _ h,fun _=>⟨(s.log.length,S5 s.d k),⟨⟨⟨rfl,Z9 _ _⟩,rfl,trivial⟩,h2,hd1,by dsimp only;omega⟩,fun h=>ng _ h,fun _=>⟨(s.fr.length,R7 s.fr,S5 s.d k+10*s.log.length),⟨⟨⟨rfl,Z9 _ _⟩,rfl,trivial⟩,h3,by dsimp only;omega,hp2,h4⟩,fun h=>ng _ h,fun _=>rfl⟩⟩⟩
end Go.Proofs.YtokaojbaacnngaaGreat

