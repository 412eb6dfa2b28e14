/- A part of the proof. -/
import Derived.Test.YtokaojbaacnngaaGreatX5X6
namespace Go.Proofs.YtokaojbaacnngaaGreat
set_option maxRecDepth 100000
open Go.SS

def posF(ln:Nat->Nat)(k:Nat):Nat->Nat
 |0=>k
 |i+1=>posF ln k i+(ln i+4)
theorem posF_le(ln:Nat->Nat)(k:Nat):∀{n:Nat},(∀i,i<n->ln i<=1048576)->posF ln k n<=k+n*1048580
 |0,_=>by show k<=_;omega
 |n+1,h=>by
  have h1:=posF_le ln k (n:=n) fun i hi=>h i (by omega)
  have h2:=h n (Nat.lt_succ_self n);show posF ln k n+(ln n+4)<=_;omega
theorem posF_mono(ln:Nat->Nat)(k:Nat){i:Nat}:∀{j:Nat},i<=j->posF ln k i<=posF ln k j
 |0,h=>by(obtain rfl:i=0:=by omega);exact Nat.le_refl _
 |j+1,h=>by
  by_cases hij:i=j+1
  ·rw[hij];exact Nat.le_refl _
  ·have:=posF_mono ln k (i:=i) (j:=j) (by omega)
   show posF ln k i<=posF ln k j+(ln j+4);omega
def mkFr(q n:Nat):Frm:=⟨(q:Int),⟨(q:Int)+1,mkS n (q+2)⟩,((q+2+n:Nat):Int).tmod 3==0,((q+2+n:Nat):Int)+1⟩
def mkF(n:Nat)(ln:Nat->Nat)(k:Nat):List Frm:=(List.range n).map fun i=>mkFr (posF ln k i) (ln i)
def lnOf(L:List Frm)(i:Nat):Nat:=(L.getD i default).pg.sl.length
def upM(L:List Frm)(k x j:Nat):Frm:=if j<x then mkFr (posF (lnOf L) k j) (lnOf L j) else L.getD j default
def fcs(f:Frm):List T:=[.int .i64 f.no,.int .i64 f.pg.lsn,.own 0 1 f.pg.sl.length (strRow f.pg.sl),.bool f.dirty,.int .i64 f.first]
def KBf(n:Nat)(ln:Nat->Nat)(k:Nat):Prop:=n<=1048576/\1<=k/\posF ln k n<=10000000000000/\∀i,i<n->ln i<=1048576
def k_markFrmS:Con:=.reff ⟨List Frm×Nat×Nat,fun x=>[.osl 0 0 x.1.length,.int .i64 x.2.1],fun x=>[famA x.2.2 x.1 x.1.length],fun x=>.int .i64 (posF (lnOf x.1) x.2.1 x.1.length),fun x=>[famA x.2.2 (mkF x.1.length (lnOf x.1) x.2.1) x.1.length],fun x=>KBf x.1.length (lnOf x.1) x.2.1⟩
def A_markFrmS(L:List Frm)(k v:Nat):Nat->Ann
 |0=>.one {i:Nat//i<=L.length} (fun x=>⟨[(0,.osl 0 0 L.length),(1,.int .i64 (posF (lnOf L) k x.1)),(5,.int .i64 x.1)],[some (.fam v 0 5 L.length fun j=>fcs (upM L k x.1 j))]⟩) (fun x=>L.length-x.1) [.arr 0] [.arr 0] (fun _=>noAnn)
 |_=>.none
noncomputable def b_markFrmS:Code:=Tryz.f101.body.getD .skip
theorem call_markFrmS:Callable Tryz.prog 101:=⟨_,Tryz.func101,by kernel_rfl,by kernel_rfl⟩
theorem v_markFrmS(L:List Frm)(k v:Nat)(h:
  (∃(x:{i:Nat//i<=L.length}),((0=0/\L.length=L.length)/\(k:Int)=(↑(posF (lnOf L) k x.val):Int)/\(0:Int)=(x.val:Int)/\True)/\(v=v/\L.length=L.length/\FamEq L.length (famRow L) fun(j:Nat)=>[T.int
  .i64 (upM L k x.val j).no,T.int .i64 (upM L k x.val j).pg.lsn,T.own 0 1 (upM L k x.val j).pg.sl.length (strRow (upM L k x.val j).pg.sl),T.bool (upM L k x.val j).dirty,T.int .i64 (upM L k x.val j).first])/\True)/\∀(x:{i:
  Nat//i<=L.length}),(decide ((x.val:Int)<(L.length:Int))=true->InB (x.val:Int) L.length/\FamB (0+(x.val:Int).toNat) L.length [T.int .i64 (upM L k x.val (0+(x.val:Int).toNat)).no]/\Rng .i64 ((↑(posF (lnOf L) k x.val)
  :Int)+(1:Int))/\InB (x.val:Int) L.length/\FamB (0+(x.val:Int).toNat) L.length [T.int .i64 (upM L k x.val (0+(x.val:Int).toNat)).pg.lsn]/\Rng .i64 ((↑(posF (lnOf L) k x.val):Int)+(1:Int)+(1:Int))/\InB
  (x.val:Int) L.length/\Lt (0+(x.val:Int).toNat) L.length/\∃(x_1:(List (List UInt8)×Nat)),((((0=0/\(upM L k x.val (0+(x.val:Int).toNat)).pg.sl.length=x_1.fst.length)/\(↑(posF (lnOf L) k x.val):Int)+(1:Int)+
  (1:Int)=(x_1.snd:Int)/\True)/\((EqL strRow (upM L k x.val (0+(x.val:Int).toNat)).pg.sl x_1.fst)/\True)/\KBn x_1.fst.length x_1.snd 1)/\SubB v v (0+(x.val:Int).toNat) L.length (upM L k x.val (0+
  (x.val:Int).toNat)).pg.sl.length (upM L k x.val (0+(x.val:Int).toNat)).pg.sl.length (mkS x_1.fst.length x_1.snd).length (strRow (mkS x_1.fst.length x_1.snd)))/\Nz (3:Int)/\InB (x.val:Int) L.length/\FamB (0+
  (x.val:Int).toNat) L.length [T.bool (upM L k x.val (0+(x.val:Int).toNat)).dirty]/\Rng .i64 ((↑(x_1.snd+x_1.fst.length):Int)+(1:Int))/\InB (x.val:Int) L.length/\FamB (0+(x.val:Int).toNat) L.length [T.int .i64 (upM L
  k x.val (0+(x.val:Int).toNat)).first]/\Rng .i64 ((↑(x_1.snd+x_1.fst.length):Int)+(1:Int)+(1:Int))/\Rng .i64 ((x.val:Int)+(1:Int))/\∃(y:{i:Nat//i<=L.length}),(((0=0/\L.length=L.length)/\
  (↑(x_1.snd+x_1.fst.length):Int)+(1:Int)+(1:Int)=(↑(posF (lnOf L) k y.val):Int)/\(x.val:Int)+(1:Int)=(y.val:Int)/\True)/\(v=v/\L.length=L.length/\FamEq L.length (setRow (setRow (setRow (setRow (setRow
  (fun(j:Nat)=>[T.int .i64 (upM L k x.val j).no,T.int .i64 (upM L k x.val j).pg.lsn,T.own 0 1 (upM L k x.val j).pg.sl.length (strRow (upM L k x.val j).pg.sl),T.bool (upM L k x.val j).dirty,T.int .i64 (upM L k x.val
  j).first]) (0+(x.val:Int).toNat) 0 [T.int .i64 (↑(posF (lnOf L) k x.val):Int)]) (0+(x.val:Int).toNat) 1 [T.int .i64 ((↑(posF (lnOf L) k x.val):Int)+(1:Int))]) (0+(x.val:Int).toNat) 2 [T.own 0 1 (mkS x_1.fst.length
  x_1.snd).length (strRow (mkS x_1.fst.length x_1.snd))]) (0+(x.val:Int).toNat) 3 [T.bool ((↑(x_1.snd+x_1.fst.length):Int).tmod (3:Int)==(0:Int))]) (0+(x.val:Int).toNat) 4 [T.int .i64 ((↑(x_1.snd+x_1.fst.length):
  Int)+(1:Int))]) fun(j:Nat)=>[T.int .i64 (upM L k y.val j).no,T.int .i64 (upM L k y.val j).pg.lsn,T.own 0 1 (upM L k y.val j).pg.sl.length (strRow (upM L k y.val j).pg.sl),T.bool (upM L k y.val j).dirty,T.int .i64 (upM
  L k y.val j).first])/\True)/\Lt (L.length-y.val) (L.length-x.val))/\(decide ((x.val:Int)<(L.length:Int))=false->((↑(posF (lnOf L) k x.val):Int)=(↑(posF (lnOf L) k L.length):Int)/\True)/\(v=v/\L.length=
  L.length/\FamEq L.length (fun(j:Nat)=>[T.int .i64 (upM L k x.val j).no,T.int .i64 (upM L k x.val j).pg.lsn,T.own 0 1 (upM L k x.val j).pg.sl.length (strRow (upM L k x.val j).pg.sl),T.bool (upM L k x.val j).dirty,T.int
  .i64 (upM L k x.val j).first]) (famRow (mkF L.length (lnOf L) k)))/\True)):
  EffFn Tryz.prog 101 [.osl 0 0 L.length,.int .i64 k] [famA v L L.length] (.int .i64 (posF (lnOf L) k L.length)) [famA v (mkF L.length (lnOf L) k) L.length]:=
 vcG (code:=b_markFrmS) (gC markStrS_ok call_markStrS gN) Tryz.func101 (by kernel_rfl) (by kernel_rfl) (A_markFrmS L k v) [[.arr 0]] h (by kernel_rfl)
theorem upM_set{L:List Frm}{k x:Nat}(j:Nat):setCs (fun j=>fcs (upM L k x j)) x [(0,.int .i64 (posF (lnOf L) k x)),(1,.int .i64 ((posF (lnOf L) k x:Int)+1)),(2,.own 0 1 (mkS (L.getD x default).pg.sl.length (posF (lnOf L) k x+2)).length (strRow (mkS (L.getD x default).pg.sl.length (posF (lnOf L) k x+2)))),(3,.bool (((posF (lnOf L) k x+2+(L.getD x default).pg.sl.length:Nat):Int).tmod 3==0)),(4,.int .i64 (((posF (lnOf L) k x+2+(L.getD x default).pg.sl.length:Nat):Int)+1))] j=fcs (upM L k (x+1) j):=by
 by_cases hj:j=x
 ·subst hj;rw[setCs_at (by simp[fcs]),show upM L k (j+1) j=mkFr (posF (lnOf L) k j) (lnOf L j) by unfold upM;rw[if_pos (Nat.lt_succ_self _)]]
  rfl
 ·rw[setCs_ne hj (by simp[fcs])]
  have:upM L k x j=upM L k (x+1) j:=by
   unfold upM;by_cases h:j<x
   ·rw[if_pos h,if_pos (by omega)]
   ·rw[if_neg h,if_neg (by omega)]
  rw[this]
theorem markFrmS_ok:ConOk Tryz.prog 101 k_markFrmS:=by
 rintro⟨L,k,v⟩ ⟨h1,h2,h3,h4⟩;dsimp only at h1 h2 h3 h4;refine v_markFrmS L k v ⟨⟨⟨0,Nat.zero_le _⟩,⟨⟨rfl,rfl⟩,rfl,rfl,trivial⟩,⟨rfl,rfl,fam_eq fun i _=>rfl⟩,trivial⟩,fun x=>⟨fun hc=> ?_,fun hc=> ?_⟩⟩
 ·have hlt:=lt_of_dec hc;have ib:=inB_nat hlt;have hm:=posF_mono (lnOf L) k (i:=x.val+1) (j:=L.length) hlt;have hk:=posF_mono (lnOf L) k (i:=0) (j:=x.val) (Nat.zero_le _);have hp:posF (lnOf L) k (x.val+1)=posF (lnOf L) k x.val+((L.getD x.val default).pg.sl.length+4):=rfl;have h0:posF (lnOf L) k 0=k:=rfl;have hx4:(L.getD x.val default).pg.sl.length<=1048576:=h4 _ hlt;have eu:upM L k x.val x.val=L.getD x.val default:=by unfold upM;rw[if_neg (Nat.lt_irrefl _)]
  rw[Int.toNat_natCast,Nat.zero_add,eu];refine⟨ib,⟨hlt,rfl⟩,i64_rng (by omega),ib,⟨hlt,rfl⟩,i64_rng (by omega),ib,hlt,((L.getD x.val default).pg.sl,posF (lnOf L) k x.val+2),⟨⟨⟨⟨rfl,rfl⟩,by dsimp only;omega,trivial⟩,⟨⟨rfl,rowsR _ _⟩,trivial⟩,hx4,by dsimp only;omega,by dsimp only;omega⟩,rfl,hlt,Nat.le_refl _,mk_len _ _,fun r _ t ht=> ?_⟩,by unfold Nz;omega,ib,⟨hlt,rfl⟩,i64_rng (by dsimp only;omega),ib,⟨hlt,rfl⟩,i64_rng (by dsimp only;omega),i64_rng (by omega),⟨x.val+1,hlt⟩,⟨⟨⟨rfl,rfl⟩,by dsimp only;omega,by dsimp only;omega,trivial⟩,⟨rfl,rfl,fam_eq fun j _=> ?_⟩,trivial⟩,Cnt.ext_lt hlt⟩
  ·simp only[strRow,List.mem_singleton] at ht;rw[ht];rfl
  ·exact upM_set j
 ·have hx:x.val=L.length:=by have:=x.2;have:=le_of_not hc;omega
  rw[hx];refine⟨⟨rfl,trivial⟩,⟨rfl,rfl,fam_eq fun i hi=> ?_⟩,trivial⟩
  have e1:upM L k L.length i=mkFr (posF (lnOf L) k i) (lnOf L i):=by unfold upM;rw[if_pos hi]
  have e2:(mkF L.length (lnOf L) k).getD i default=mkFr (posF (lnOf L) k i) (lnOf L i):=mk_at _ hi _;rw[e1];unfold famRow;rw[e2]
def k_heldFrmS:Con:=.rel ⟨Nat×(Nat->Nat)×Nat,fun x=>[frmS (mkF x.1 x.2.1 x.2.2),.int .i64 x.2.2],fun x=>.int .i64 (posF x.2.1 x.2.2 x.1),fun x=>KBf x.1 x.2.1 x.2.2⟩
def A_heldFrmS(n:Nat)(ln:Nat->Nat)(k:Nat):Nat->Ann
 |0=>.one {i:Nat//i<=n} (fun x=>⟨[(0,frmS (mkF n ln k)),(1,.int .i64 (posF ln k x.1)),(5,.int .i64 x.1)],[]⟩) (fun x=>n-x.1) [] [] (fun _=>noAnn)
 |_=>.none
noncomputable def b_heldFrmS:Code:=Tryz.f106.body.getD .skip
theorem call_heldFrmS:Callable Tryz.prog 106:=⟨_,Tryz.func106,by kernel_rfl,by kernel_rfl⟩
theorem v_heldFrmS(n:Nat)(ln:Nat->Nat)(k:Nat)(h:
  (∃(x:{i:Nat//i<=n}),((EqL frmRow (mkF n ln k) (mkF n ln k))/\(k:Int)=(↑(posF ln k x.val):Int)/\(0:Int)=(x.val:Int)/\True)/\True)/\∀(x:{i:Nat//i<=n}),(decide ((x.val:Int)<(↑(mkF n ln k).length:
  Int))=true->InB (x.val:Int) (mkF n ln k).length/\((((mkF n ln k).getD (x.val:Int).toNat default).no !=(↑(posF ln k x.val):Int))=true->(-1:Int)=(↑(posF ln k n):Int))/\((((mkF n ln k).getD (x.val:Int).toNat
  default).no !=(↑(posF ln k x.val):Int))=false->Rng .i64 ((↑(posF ln k x.val):Int)+(1:Int))/\InB (x.val:Int) (mkF n ln k).length/\((((mkF n ln k).getD (x.val:Int).toNat default).pg.lsn !=(↑(posF ln k x.val):Int)+
  (1:Int))=true->(-1:Int)=(↑(posF ln k n):Int))/\((((mkF n ln k).getD (x.val:Int).toNat default).pg.lsn !=(↑(posF ln k x.val):Int)+(1:Int))=false->Rng .i64 ((↑(posF ln k x.val):Int)+(1:Int)+(1:Int))/\
  InB (x.val:Int) (mkF n ln k).length/\∃(x_1:(Nat×Nat)),(((EqL strRow ((mkF n ln k).getD (x.val:Int).toNat default).pg.sl (mkS x_1.fst x_1.snd))/\(↑(posF ln k x.val):Int)+(1:Int)+(1:Int)=(x_1.snd:Int)/\True)/\
  KBn x_1.fst x_1.snd 1)/\(decide ((↑(x_1.snd+x_1.fst):Int)<(0:Int))=true->(-1:Int)=(↑(posF ln k n):Int))/\(decide ((↑(x_1.snd+x_1.fst):Int)<(0:Int))=false->InB (x.val:Int) (mkF n ln k).length/\Nz (3:
  Int)/\((!((mkF n ln k).getD (x.val:Int).toNat default).dirty==((↑(x_1.snd+x_1.fst):Int).tmod (3:Int)==(0:Int)))=true->(-1:Int)=(↑(posF ln k n):Int))/\((!((mkF n ln k).getD (x.val:Int).toNat default).dirty==
  ((↑(x_1.snd+x_1.fst):Int).tmod (3:Int)==(0:Int)))=false->Rng .i64 ((↑(x_1.snd+x_1.fst):Int)+(1:Int))/\InB (x.val:Int) (mkF n ln k).length/\((((mkF n ln k).getD (x.val:Int).toNat default).first !=(↑(x_1.snd
  +x_1.fst):Int)+(1:Int))=true->(-1:Int)=(↑(posF ln k n):Int))/\((((mkF n ln k).getD (x.val:Int).toNat default).first !=(↑(x_1.snd+x_1.fst):Int)+(1:Int))=false->Rng .i64 ((↑(x_1.snd+x_1.fst):Int)+
  (1:Int)+(1:Int))/\Rng .i64 ((x.val:Int)+(1:Int))/\∃(y:{i:Nat//i<=n}),(((EqL frmRow (mkF n ln k) (mkF n ln k))/\(↑(x_1.snd+x_1.fst):Int)+(1:Int)+(1:Int)=(↑(posF ln k y.val):Int)/\(x.val:Int)
  +(1:Int)=(y.val:Int)/\True)/\True)/\Lt (n-y.val) (n-x.val)))))))/\(decide ((x.val:Int)<(↑(mkF n ln k).length:Int))=false->(↑(posF ln k x.val):Int)=(↑(posF ln k n):Int))):
  PureFn Tryz.prog 106 [frmS (mkF n ln k),.int .i64 k] (.int .i64 (posF ln k n)):=
 vcR (code:=b_heldFrmS) (gC heldStrS_ok call_heldStrS gN) Tryz.func106 (by kernel_rfl) (by kernel_rfl) (A_heldFrmS n ln k) h (by kernel_rfl)
theorem heldFrmS_ok:ConOk Tryz.prog 106 k_heldFrmS:=by
 rintro⟨n,ln,k⟩ ⟨h1,h2,h3,h4⟩;dsimp only at h1 h2 h3 h4;have hn:(mkF n ln k).length=n:=mk_len _ _;refine v_heldFrmS n ln k ⟨⟨⟨0,Nat.zero_le _⟩,⟨⟨rfl,rowsR _ _⟩,rfl,rfl,trivial⟩,trivial⟩,fun x=>⟨fun hc=> ?_,fun hc=> ?_⟩⟩
 ·have hlt:=lt_of_dec hc;have hlt':x.val<n:=by omega
  have ib:=inB_nat hlt;have e:(mkF n ln k).getD (x.val:Int).toNat default=mkFr (posF ln k x.val) (ln x.val):=by rw[Int.toNat_natCast];exact mk_at _ hlt' _
  rw[e];have hm:=posF_mono ln k (i:=x.val+1) (j:=n) hlt';have hk:=posF_mono ln k (i:=0) (j:=x.val) (Nat.zero_le _);have hp:posF ln k (x.val+1)=posF ln k x.val+(ln x.val+4):=rfl;have h0:posF ln k 0=k:=rfl;have hx4:=h4 _ hlt';unfold mkFr;exact⟨ib,fun h=>by simp at h,fun _=>⟨i64_rng (by omega),ib,fun h=>by simp at h,fun _=>⟨i64_rng (by omega),ib,(ln x.val,posF ln k x.val+2),⟨⟨⟨rfl,rowsR _ _⟩,by dsimp only;omega,trivial⟩,hx4,by dsimp only;omega,by dsimp only;omega⟩,fun h=>by(have:=of_decide_eq_true h;dsimp only at this;omega),fun _=>⟨ib,by unfold Nz;omega,fun h=>by simp at h,fun _=>⟨i64_rng (by dsimp only;omega),ib,fun h=>by simp at h,fun _=>⟨i64_rng (by dsimp only;omega),i64_rng (by omega),⟨x.val+1,hlt'⟩,⟨⟨⟨rfl,rowsR _ _⟩,by dsimp only;omega,by dsimp only;omega,trivial⟩,trivial⟩,Cnt.ext_lt hlt'⟩⟩⟩⟩⟩⟩
 ·have hx:x.val=n:=by have:=x.2;have:=le_of_not hc;omega
  rw[hx]
def mkD(d:Dsk)(k:Nat):Dsk:={d with sec:=mkS d.sec.length k,cache:=mkP d.cache.length (k+d.sec.length),keep:=mkI d.keep.length (k+d.sec.length+2*d.cache.length)}
def endD(d:Dsk)(k:Nat):Nat:=k+d.sec.length+2*d.cache.length+d.keep.length
def KBd(d:Dsk)(k:Nat):Prop:=SmD d/\1<=k/\k<=100000000
def k_markDsk:Con:=.reff ⟨Dsk×Nat,fun x=>[.agg (x.1.tm 0),.int .i64 x.2],fun x=>x.1.hp,fun x=>.int .i64 (endD x.1 x.2),fun x=>(mkD x.1 x.2).hp,fun x=>KBd x.1 x.2⟩
noncomputable def b_markDsk:Code:=Tryz.f99.body.getD .skip
theorem call_markDsk:Callable Tryz.prog 99:=⟨_,Tryz.func99,by kernel_rfl,by kernel_rfl⟩
theorem v_markDsk(d:Dsk)(k:Nat)(h:
  ∃(x:(List (List UInt8)×Nat)),(((0=0/\d.sec.length=x.fst.length)/\(k:Int)=(x.snd:Int)/\True)/\((EqL strRow d.sec x.fst)/\True)/\KBn x.fst.length x.snd 1)/\∃(x_1:(List Pend×Nat)),(((0=0/\d.cache.length=
  x_1.fst.length)/\(↑(x.snd+x.fst.length):Int)=(x_1.snd:Int)/\True)/\((EqL pendRow d.cache x_1.fst)/\True)/\KBn x_1.fst.length x_1.snd 2)/\∃(x_2:(List Int×Nat)),(((0=0/\d.keep.length=x_2.fst.length)/\
  (↑(x_1.snd+2*x_1.fst.length):Int)=(x_2.snd:Int)/\True)/\((EqL intRow d.keep x_2.fst)/\True)/\KBn x_2.fst.length x_2.snd 1)/\((↑(x_2.snd+x_2.fst.length):Int)=(↑(endD d k):Int)/\True)/\(EqL strRow (mkS
  x.fst.length x.snd) (mkS d.sec.length k))/\(EqL pendRow (mkP x_1.fst.length x_1.snd) (mkP d.cache.length (k+d.sec.length)))/\(EqL intRow (mkI x_2.fst.length x_2.snd) (mkI d.keep.length (k+d.sec.length+2*d.cache.length)))
  /\True):
  EffFn Tryz.prog 99 [.agg (d.tm 0),.int .i64 k] d.hp (.int .i64 (endD d k)) (mkD d k).hp:=
 vcG (code:=b_markDsk) (gC markStrS_ok call_markStrS (gC markPendS_ok call_markPendS (gC markIntS_ok call_markIntS gN))) Tryz.func99 (by kernel_rfl) (by kernel_rfl) noAnn [[.arr 0,.arr 1,.arr 2]] h (by kernel_rfl)
theorem markDsk_ok:ConOk Tryz.prog 99 k_markDsk:=by
 rintro⟨d,k⟩ ⟨⟨h1,h2,h3⟩,h4,h5⟩;dsimp only at h1 h2 h3 h4 h5;exact v_markDsk d k ⟨(d.sec,k),⟨⟨⟨rfl,rfl⟩,rfl,trivial⟩,⟨⟨rfl,rowsR _ _⟩,trivial⟩,h1,h4,by dsimp only;omega⟩,(d.cache,k+d.sec.length),⟨⟨⟨rfl,rfl⟩,rfl,trivial⟩,⟨⟨rfl,rowsR _ _⟩,trivial⟩,h2,by dsimp only;omega,by dsimp only;omega⟩,(d.keep,k+d.sec.length+2*d.cache.length),⟨⟨⟨rfl,rfl⟩,rfl,trivial⟩,⟨⟨rfl,rowsR _ _⟩,trivial⟩,h3,by dsimp only;omega,by dsimp only;omega⟩,⟨rfl,trivial⟩,⟨rfl,rowsR _ _⟩,⟨rfl,rowsR _ _⟩,⟨rfl,rowsR _ _⟩,trivial⟩
def k_heldDsk:Con:=.rel ⟨Dsk×Nat,fun x=>[.agg (mkD x.1 x.2).ts,.int .i64 x.2],fun x=>.int .i64 (endD x.1 x.2),fun x=>KBd x.1 x.2⟩
noncomputable def b_heldDsk:Code:=Tryz.f104.body.getD .skip
theorem call_heldDsk:Callable Tryz.prog 104:=⟨_,Tryz.func104,by kernel_rfl,by kernel_rfl⟩
theorem v_heldDsk(d:Dsk)(k:Nat)(h:
  ∃(x:(Nat×Nat)),(((EqL strRow (mkS d.sec.length k) (mkS x.fst x.snd))/\(k:Int)=(x.snd:Int)/\True)/\KBn x.fst x.snd 1)/\(decide ((↑(x.snd+x.fst):Int)<(0:Int))=true->(-1:Int)=(↑(endD d k):Int))/\(decide
  ((↑(x.snd+x.fst):Int)<(0:Int))=false->∃(x_1:(Nat×Nat)),(((EqL pendRow (mkP d.cache.length (k+d.sec.length)) (mkP x_1.fst x_1.snd))/\(↑(x.snd+x.fst):Int)=(x_1.snd:Int)/\True)/\KBn x_1.fst x_1.snd 2)/\
  (decide ((↑(x_1.snd+2*x_1.fst):Int)<(0:Int))=true->(-1:Int)=(↑(endD d k):Int))/\(decide ((↑(x_1.snd+2*x_1.fst):Int)<(0:Int))=false->∃(x:(Nat×Nat)),(((EqL intRow (mkI d.keep.length (k+
  d.sec.length+2*d.cache.length)) (mkI x.fst x.snd))/\(↑(x_1.snd+2*x_1.fst):Int)=(x.snd:Int)/\True)/\KBn x.fst x.snd 1)/\(decide ((↑(x.snd+x.fst):Int)<(0:Int))=true->(-1:Int)=(↑(endD d k):Int))/\
  (decide ((↑(x.snd+x.fst):Int)<(0:Int))=false->(↑(x.snd+x.fst):Int)=(↑(endD d k):Int))))):
  PureFn Tryz.prog 104 [.agg (mkD d k).ts,.int .i64 k] (.int .i64 (endD d k)):=
 vcR (code:=b_heldDsk) (gC heldStrS_ok call_heldStrS (gC heldPendS_ok call_heldPendS (gC heldIntS_ok call_heldIntS gN))) Tryz.func104 (by kernel_rfl) (by kernel_rfl) noAnn h (by kernel_rfl)
theorem heldDsk_ok:ConOk Tryz.prog 104 k_heldDsk:=by
 rintro⟨d,k⟩ ⟨⟨h1,h2,h3⟩,h4,h5⟩;dsimp only at h1 h2 h3 h4 h5;have ng:∀n:Nat,decide ((n:Int)<0)=true->∀{p:Prop},p:=fun n h=>absurd (of_decide_eq_true h) (by omega)
 exact v_heldDsk d k ⟨(d.sec.length,k),⟨⟨⟨rfl,rowsR _ _⟩,rfl,trivial⟩,h1,h4,by dsimp only;omega⟩,fun h=>ng _ h,fun _=>⟨(d.cache.length,k+d.sec.length),⟨⟨⟨rfl,rowsR _ _⟩,rfl,trivial⟩,h2,by dsimp only;omega,by dsimp only;omega⟩,fun h=>ng _ h,fun _=>⟨(d.keep.length,k+d.sec.length+2*d.cache.length),⟨⟨⟨rfl,rowsR _ _⟩,rfl,trivial⟩,h3,by dsimp only;omega,by dsimp only;omega⟩,fun h=>ng _ h,fun _=>rfl⟩⟩⟩
def mkSt(s:Sto)(k:Nat):Sto:={s with d:=mkD s.d k,log:=mkR s.log.length (endD s.d k),fr:=mkF s.fr.length (lnOf s.fr) (endD s.d k+10*s.log.length)}
def endS(s:Sto)(k:Nat):Nat:=posF (lnOf s.fr) (endD s.d k+10*s.log.length) s.fr.length
def KBs(s:Sto)(k:Nat):Prop:=SmS s/\1<=k/\k<=100000000
def k_markSto:Con:=.reff ⟨Sto×Nat×Nat,fun x=>[.agg (x.1.tm 0),.int .i64 x.2.1],fun x=>x.1.hp x.2.2,fun x=>.int .i64 (endS x.1 x.2.1),fun x=>(mkSt x.1 x.2.1).hp x.2.2,fun x=>KBs x.1 x.2.1⟩
noncomputable def b_markSto:Code:=Tryz.f47.body.getD .skip
theorem call_markSto:Callable Tryz.prog 47:=⟨_,Tryz.func47,by kernel_rfl,by kernel_rfl⟩
theorem v_markSto(s:Sto)(k v:Nat)(h:
  ∃(x:(Dsk×Nat)),((((0=0/\s.d.sec.length=x.fst.sec.length)/\(0=0/\s.d.cache.length=x.fst.cache.length)/\s.d.armed=x.fst.armed/\(0=0/\s.d.keep.length=x.fst.keep.length)/\True)/\(k:Int)=(x.snd:Int)/\
  True)/\((EqL strRow s.d.sec x.fst.sec)/\(EqL pendRow s.d.cache x.fst.cache)/\(EqL intRow s.d.keep x.fst.keep)/\True)/\KBd x.fst x.snd)/\∃(x_1:(List Rec×Nat)),(((0=0/\s.log.length=x_1.fst.length)/\(↑(endD x.fst
  x.snd):Int)=(x_1.snd:Int)/\True)/\((EqL recRow s.log x_1.fst)/\True)/\KBn x_1.fst.length x_1.snd 10)/\∃(x_2:(List Frm×Nat×Nat)),(((0=0/\s.fr.length=x_2.fst.length)/\(↑(x_1.snd+10*x_1.fst.length):Int)=
  (x_2.snd.fst:Int)/\True)/\((v=x_2.snd.snd/\s.fr.length=x_2.fst.length/\FamEq s.fr.length (famRow s.fr) (famRow x_2.fst))/\True)/\KBf x_2.fst.length (lnOf x_2.fst) x_2.snd.fst)/\((↑(posF (lnOf x_2.fst) x_2.snd.fst
  x_2.fst.length):Int)=(↑(endS s k):Int)/\True)/\(EqL strRow (mkS x.fst.sec.length x.snd) (mkS s.d.sec.length k))/\(EqL pendRow (mkP x.fst.cache.length (x.snd+x.fst.sec.length)) (mkP s.d.cache.length (k+
  s.d.sec.length)))/\(EqL intRow (mkI x.fst.keep.length (x.snd+x.fst.sec.length+2*x.fst.cache.length)) (mkI s.d.keep.length (k+s.d.sec.length+2*s.d.cache.length)))/\(EqL recRow (mkR x_1.fst.length x_1.snd) (mkR
  s.log.length (endD s.d k)))/\(x_2.snd.snd=v/\x_2.fst.length=(mkF s.fr.length (lnOf s.fr) (endD s.d k+10*s.log.length)).length/\FamEq x_2.fst.length (famRow (mkF x_2.fst.length (lnOf x_2.fst) x_2.snd.fst)) (famRow (mkF
  s.fr.length (lnOf s.fr) (endD s.d k+10*s.log.length))))/\True):
  EffFn Tryz.prog 47 [.agg (s.tm 0),.int .i64 k] (s.hp v) (.int .i64 (endS s k)) ((mkSt s k).hp v):=
 vcG (code:=b_markSto) (gC markDsk_ok call_markDsk (gC markRecS_ok call_markRecS (gC markFrmS_ok call_markFrmS gN))) Tryz.func47 (by kernel_rfl) (by kernel_rfl) noAnn [[.arr 0,.arr 1,.arr 2,.arr 3,.arr 4]] h (by kernel_rfl)
theorem markSto_ok:ConOk Tryz.prog 47 k_markSto:=by
 rintro⟨s,k,v⟩ ⟨⟨h1,h2,h3,h4⟩,h6,h7⟩;dsimp only at h1 h2 h3 h4 h6 h7;have hd:endD s.d k<=110000000:=by unfold endD;obtain⟨a1,a2,a3⟩:=h1;omega
 have hd1:1<=endD s.d k:=by unfold endD;omega
 have hp:=posF_le (lnOf s.fr) (endD s.d k+10*s.log.length) (n:=s.fr.length) h4;have hp2:posF (lnOf s.fr) (endD s.d k+10*s.log.length) s.fr.length<=10000000000000:=by omega
 exact v_markSto s k v ⟨(s.d,k),⟨⟨⟨⟨rfl,rfl⟩,⟨rfl,rfl⟩,rfl,⟨rfl,rfl⟩,trivial⟩,rfl,trivial⟩,⟨⟨rfl,rowsR _ _⟩,⟨rfl,rowsR _ _⟩,⟨rfl,rowsR _ _⟩,trivial⟩,h1,h6,h7⟩,(s.log,endD s.d k),⟨⟨⟨rfl,rfl⟩,rfl,trivial⟩,⟨⟨rfl,rowsR _ _⟩,trivial⟩,h2,hd1,by dsimp only;omega⟩,(s.fr,endD s.d k+10*s.log.length,v),⟨⟨⟨rfl,rfl⟩,rfl,trivial⟩,⟨⟨rfl,rfl,famR _⟩,trivial⟩,h3,by dsimp only;omega,hp2,h4⟩,⟨rfl,trivial⟩,⟨rfl,rowsR _ _⟩,⟨rfl,rowsR _ _⟩,⟨rfl,rowsR _ _⟩,⟨rfl,rowsR _ _⟩,⟨rfl,(mk_len _ _).symm,famR _⟩,trivial⟩
def k_heldSto:Con:=.rel ⟨Sto×Nat,fun x=>[.agg (mkSt x.1 x.2).ts,.int .i64 x.2],fun x=>.int .i64 (endS x.1 x.2),fun x=>KBs x.1 x.2⟩
noncomputable def b_heldSto:Code:=Tryz.f50.body.getD .skip
theorem call_heldSto:Callable Tryz.prog 50:=⟨_,Tryz.func50,by kernel_rfl,by kernel_rfl⟩
theorem v_heldSto(s:Sto)(k:Nat)(h:
  ∃(x:(Dsk×Nat)),((((EqL strRow (mkS s.d.sec.length k) (mkS x.fst.sec.length x.snd))/\(EqL pendRow (mkP s.d.cache.length (k+s.d.sec.length)) (mkP x.fst.cache.length (x.snd+x.fst.sec.length)))/\s.d.armed=x.fst.armed/\
  (EqL intRow (mkI s.d.keep.length (k+s.d.sec.length+2*s.d.cache.length)) (mkI x.fst.keep.length (x.snd+x.fst.sec.length+2*x.fst.cache.length)))/\True)/\(k:Int)=(x.snd:Int)/\True)/\KBd x.fst x.snd)/\(decide
  ((↑(endD x.fst x.snd):Int)<(0:Int))=true->(-1:Int)=(↑(endS s k):Int))/\(decide ((↑(endD x.fst x.snd):Int)<(0:Int))=false->∃(x_1:(Nat×Nat)),(((EqL recRow (mkR s.log.length (endD s.d k)) (mkR x_1.fst
  x_1.snd))/\(↑(endD x.fst x.snd):Int)=(x_1.snd:Int)/\True)/\KBn x_1.fst x_1.snd 10)/\(decide ((↑(x_1.snd+10*x_1.fst):Int)<(0:Int))=true->(-1:Int)=(↑(endS s k):Int))/\(decide ((↑(x_1.snd+10*x_1.fst):
  Int)<(0:Int))=false->∃(x:(Nat×(Nat->Nat)×Nat)),(((EqL frmRow (mkF s.fr.length (lnOf s.fr) (endD s.d k+10*s.log.length)) (mkF x.fst x.snd.fst x.snd.snd))/\(↑(x_1.snd+10*x_1.fst):Int)=(x.snd.snd:Int)/\
  True)/\KBf x.fst x.snd.fst x.snd.snd)/\(decide ((↑(posF x.snd.fst x.snd.snd x.fst):Int)<(0:Int))=true->(-1:Int)=(↑(endS s k):Int))/\(decide ((↑(posF x.snd.fst x.snd.snd x.fst):Int)<(0:Int))=false->
  (↑(posF x.snd.fst x.snd.snd x.fst):Int)=(↑(endS s k):Int))))):
  PureFn Tryz.prog 50 [.agg (mkSt s k).ts,.int .i64 k] (.int .i64 (endS s k)):=
 vcR (code:=b_heldSto) (gC heldDsk_ok call_heldDsk (gC heldRecS_ok call_heldRecS (gC heldFrmS_ok call_heldFrmS gN))) Tryz.func50 (by kernel_rfl) (by kernel_rfl) noAnn h (by kernel_rfl)
theorem heldSto_ok:ConOk Tryz.prog 50 k_heldSto:=by
 rintro⟨s,k⟩ ⟨⟨h1,h2,h3,h4⟩,h6,h7⟩;dsimp only at h1 h2 h3 h4 h6 h7;have hd:endD s.d k<=110000000:=by unfold endD;obtain⟨a1,a2,a3⟩:=h1;omega
 have hd1:1<=endD s.d k:=by unfold endD;omega
 have hp:=posF_le (lnOf s.fr) (endD s.d k+10*s.log.length) (n:=s.fr.length) h4;have hp2:posF (lnOf s.fr) (endD s.d k+10*s.log.length) s.fr.length<=10000000000000:=by omega
 have ng:∀n:Nat,decide ((n:Int)<0)=true->∀{p:Prop},p:=fun n h=>absurd (of_decide_eq_true h) (by omega)
 exact v_heldSto s k ⟨(s.d,k),⟨⟨⟨⟨rfl,rowsR _ _⟩,⟨rfl,rowsR _ _⟩,rfl,⟨rfl,rowsR _ _⟩,trivial⟩,rfl,trivial⟩,h1,h6,h7⟩,fun h=>ng _ h,fun _=>⟨(s.log.length,endD s.d k),⟨⟨⟨rfl,rowsR _ _⟩,rfl,trivial⟩,h2,hd1,by dsimp only;omega⟩,fun h=>ng _ h,fun _=>⟨(s.fr.length,lnOf s.fr,endD s.d k+10*s.log.length),⟨⟨⟨rfl,rowsR _ _⟩,rfl,trivial⟩,h3,by dsimp only;omega,hp2,h4⟩,fun h=>ng _ h,fun _=>rfl⟩⟩⟩
end Go.Proofs.YtokaojbaacnngaaGreat

