/- A part of the proof. -/
import Derived.Test.YtokaojbaacnngaaGreatX1X2X3
namespace Go.Proofs.YtokaojbaacnngaaGreat
set_option maxRecDepth 100000
open Go.SS

def dig(k:Nat):UInt8:=ofI (IntKind.u8.wrap (48+(k:Int).tmod 10))
def dgs(k:Nat)(acc:List UInt8):List UInt8:=if h:k=0 then acc else dgs (k/10) (dig k::acc)
termination_by k
decreasing_by omega
theorem dgs_pos{k:Nat}(acc:List UInt8)(h:k≠0):dgs k acc=dgs (k/10) (dig k::acc):=by
 rw[dgs];simp[h]
theorem dgs_zero(acc:List UInt8):dgs 0 acc=acc:=by
 rw[dgs];simp
def mkT(k:Nat):List UInt8:=ofI 109::dgs k []
def KB(n:Nat):Prop:=1<=n/\n<=10000000000000
def k_markText:Con:=.rel ⟨Nat,fun k=>[.int .i64 k],fun k=>.str (mkT k),KB⟩
def MtIx(k:Nat):Type:={p:Nat×List UInt8//dgs p.1 p.2=dgs k []/\p.2.length+p.1<=k}
def A_markText(k:Nat):Nat->Ann
 |0=>.one (MtIx k) (fun x=>⟨[(0,.int .i64 x.1.1),(3,.str x.1.2)],[]⟩) (fun x=>x.1.1) [] [] (fun _=>noAnn)
 |_=>.none
noncomputable def b_markText:Code:=Tryz.f175.body.getD .skip
theorem call_markText:Callable Tryz.prog 175:=⟨_,Tryz.func175,by kernel_rfl,by kernel_rfl⟩
theorem v_markText(k:Nat)(h:
  (decide ((k:Int)<=(0:Int))=true->[(109:UInt8),(48:UInt8)]=mkT k)/\(decide ((k:Int)<=(0:Int))=false->(∃(x:MtIx k),((k:Int)=(x.val.fst:Int)/\[]=x.val.snd/\True)/\True)/\∀(x:MtIx k),(decide
  ((x.val.fst:Int)>(0:Int))=true->Nz (10:Int)/\Rng .i64 ((48:Int)+(x.val.fst:Int).tmod (10:Int))/\Rng IntKind.u8 (IntKind.u8.wrap ((48:Int)+(x.val.fst:Int).tmod (10:Int)))/\Le 1 1/\Lt (1+x.val.snd.length)
  9223372036854775808/\(Nz (10:Int)/\Rng .i64 ((x.val.fst:Int).tdiv (10:Int)))/\∃(y:MtIx k),(((x.val.fst:Int).tdiv (10:Int)=(y.val.fst:Int)/\List.take 1 (List.drop 0 (List.map ofI [IntKind.u8.wrap ((48:Int)+
  (x.val.fst:Int).tmod (10:Int))]))++x.val.snd=y.val.snd/\True)/\True)/\Lt y.val.fst x.val.fst)/\(decide ((x.val.fst:Int)>(0:Int))=false->Lt (1+x.val.snd.length) 9223372036854775808/\[(109:UInt8)]++x.val.snd
  =mkT k))):
  PureFn Tryz.prog 175 [.int .i64 k] (.str (mkT k)):=
 vcR (code:=b_markText) gN Tryz.func175 (by kernel_rfl) (by kernel_rfl) (A_markText k) h (by kernel_rfl)
theorem markText_ok:ConOk Tryz.prog 175 k_markText:=by
 rintro(k:Nat) ⟨h1,h2⟩;have hz:Nz 10:=by unfold Nz;omega
 refine v_markText k ⟨fun h=>absurd (of_decide_eq_true h) (by omega),fun _=>⟨⟨⟨(k,[]),rfl,by simp⟩,⟨rfl,rfl,trivial⟩,trivial⟩,fun x=> ?_⟩⟩
 obtain⟨⟨q,acc⟩,hd,hl⟩:=x;dsimp only at hd hl ⊢;have t1:(q:Int).tmod 10=((q % 10:Nat):Int):=by rw[Int.tmod_eq_emod_of_nonneg (by omega)];omega
 have t2:(q:Int).tdiv 10=((q/10:Nat):Int):=by rw[Int.tdiv_eq_ediv_of_nonneg (by omega)];omega
 refine⟨fun hc=> ?_,fun hc=> ?_⟩
 ·have hq:0<q:=by have:=of_decide_eq_true hc;omega
  refine⟨hz,i64_rng (by rw[t1];omega),u8_rng _,Nat.le_refl _,by unfold Lt;omega,⟨hz,i64_rng (by rw[t2];omega)⟩,⟨(q/10,dig q::acc),by rw[←hd];exact(dgs_pos acc (by omega)).symm,by simp only[List.length_cons];omega⟩,⟨⟨t2,rfl,trivial⟩,trivial⟩,show q/10<q by omega⟩
 ·have hq:q=0:=by have:=of_decide_eq_false hc;omega
  subst hq;rw[dgs_zero] at hd;refine⟨by unfold Lt;omega,?_⟩
  rw[hd];rfl
def upR(new old:Nat->List T)(x j:Nat):List T:=if j<x then new j else old j
theorem upR_zero{new old:Nat->List T}{n:Nat}:RowsEq n old (upR new old 0):=fun i _=>by unfold upR;rw[if_neg (Nat.not_lt_zero _)]
theorem upR_end{new old:Nat->List T}{n:Nat}:RowsEq n (upR new old n) new:=fun i hi=>by unfold upR;rw[if_pos hi]
theorem upR_step{new old:Nat->List T}{x:Nat}{f:Nat->List T}(h1:∀j,j≠x->f j=upR new old x j)(h2:f x=new x)(j:Nat):f j=upR new old (x+1) j:=by
 by_cases hj:j=x
 ·rw[hj,h2];unfold upR;rw[if_pos (Nat.lt_succ_self _)]
 ·rw[h1 j hj];unfold upR;by_cases h:j<x
  ·rw[if_pos h,if_pos (by omega)]
  ·rw[if_neg h,if_neg (by omega)]
theorem nb_f{a b:Nat}(h:a≠b):Nat.beq a b=false:=by
 cases hb:Nat.beq a b with
 |false=>rfl
 |true=>exact absurd (Nat.eq_of_beq_eq_true hb) h
theorem nb_t{a b:Nat}(h:a=b):Nat.beq a b=true:=by subst h;exact Nat.beq_refl a
theorem upR_set{new old:Nat->List T}{cs:List T}{m:Nat}(hn:∀j,(new j).length=m)(ho:∀j,(old j).length=m)(x:Nat)(hc:cs=new x)(j:Nat):setRow (upR new old x) (0+(x:Int).toNat) 0 cs j=upR new old (x+1) j:=by
 have hl:∀j,(upR new old x j).length=m:=fun j=>by unfold upR;split<;>simp only[hn,ho]
 refine upR_step (f:=setRow (upR new old x) (0+(x:Int).toNat) 0 cs) (fun i hi=> ?_) ?_ j
 ·rw[setRow_full (by rw[hl,hc,hn]),show Nat.beq i (0+(x:Int).toNat)=false from nb_f (by omega)]
 ·rw[setRow_full (by rw[hl,hc,hn]),show Nat.beq x (0+(x:Int).toNat)=true from nb_t (by omega),hc]
def mkS(n k:Nat):List (List UInt8):=(List.range n).map fun i=>mkT (k+i)
def mkP(n k:Nat):List Pend:=(List.range n).map fun i=>⟨((k+2*i:Nat):Int),mkT (k+2*i+1)⟩
def mkI(n k:Nat):List Int:=(List.range n).map fun i=>((k+i:Nat):Int)
def mkRc(k:Nat):Rec:=⟨(k:Int),(k:Int)+1,(k:Int)+1+1,(k:Int)+1+1+1,(k:Int)+1+1+1+1,(k:Int)+1+1+1+1+1,(k:Int)+1+1+1+1+1+1,(k:Int)+1+1+1+1+1+1+1,mkT (k+8),mkT (k+9)⟩
def mkR(n k:Nat):List Rec:=(List.range n).map fun i=>mkRc (k+10*i)
theorem mk_at{α:Type}(f:Nat->α){n i:Nat}(h:i<n)(d:α):((List.range n).map f).getD i d=f i:=by
 rw[List.getD_eq_getElem?_getD,List.getElem?_map,List.getElem?_range h]
 rfl
theorem mk_len{α:Type}(f:Nat->α)(n:Nat):((List.range n).map f).length=n:=by simp
def KBn(n k m:Nat):Prop:=n<=1048576/\1<=k/\k+m*n<=10000000000000
def k_markStrS:Con:=.reff ⟨List (List UInt8)×Nat,fun x=>[.osl 0 0 x.1.length,.int .i64 x.2],fun x=>[strA x.1],fun x=>.int .i64 (x.2+x.1.length:Nat),fun x=>[strA (mkS x.1.length x.2)],fun x=>KBn x.1.length x.2 1⟩
def A_markStrS(L:List (List UInt8))(k:Nat):Nat->Ann
 |0=>.one {i:Nat//i<=L.length} (fun x=>⟨[(0,.osl 0 0 L.length),(1,.int .i64 (k+x.1:Nat)),(5,.int .i64 x.1)],[some (.arr true 0 1 L.length (upR (strRow (mkS L.length k)) (strRow L) x.1))]⟩) (fun x=>L.length-x.1) [.arr 0] [.arr 0] (fun _=>noAnn)
 |_=>.none
noncomputable def b_markStrS:Code:=Tryz.f173.body.getD .skip
theorem call_markStrS:Callable Tryz.prog 173:=⟨_,Tryz.func173,by kernel_rfl,by kernel_rfl⟩
theorem v_markStrS(L:List (List UInt8))(k:Nat)(h:
  (∃(x:{i:Nat//i<=L.length}),((0=0/\L.length=L.length)/\(k:Int)=(↑(k+x.val):Int)/\(0:Int)=(x.val:Int)/\True)/\(L.length=L.length/\RowsEq L.length (strRow L) (upR (strRow (mkS L.length k)) (strRow L)
  x.val))/\True)/\∀(x:{i:Nat//i<=L.length}),(decide ((x.val:Int)<(L.length:Int))=true->∃(x_1:Nat),(((↑(k+x.val):Int)=(x_1:Int)/\True)/\KB x_1)/\InB (x.val:Int) L.length/\Lt (0+(x.val:Int).toNat)
  L.length/\Rng .i64 ((↑(k+x.val):Int)+(1:Int))/\Rng .i64 ((x.val:Int)+(1:Int))/\∃(y:{i:Nat//i<=L.length}),(((0=0/\L.length=L.length)/\(↑(k+x.val):Int)+(1:Int)=(↑(k+y.val):Int)/\
  (x.val:Int)+(1:Int)=(y.val:Int)/\True)/\(L.length=L.length/\RowsEq L.length (setRow (upR (strRow (mkS L.length k)) (strRow L) x.val) (0+(x.val:Int).toNat) 0 [T.str (mkT x_1)]) (upR (strRow (mkS L.length k)) (strRow L)
  y.val))/\True)/\Lt (L.length-y.val) (L.length-x.val))/\(decide ((x.val:Int)<(L.length:Int))=false->((↑(k+x.val):Int)=(↑(k+L.length):Int)/\True)/\(L.length=(mkS L.length k).length/\RowsEq L.length (upR
  (strRow (mkS L.length k)) (strRow L) x.val) (strRow (mkS L.length k)))/\True)):
  EffFn Tryz.prog 173 [.osl 0 0 L.length,.int .i64 k] [strA L] (.int .i64 (k+L.length:Nat)) [strA (mkS L.length k)]:=
 vcG (code:=b_markStrS) (gC markText_ok call_markText gN) Tryz.func173 (by kernel_rfl) (by kernel_rfl) (A_markStrS L k) [[.arr 0]] h (by kernel_rfl)
theorem markStrS_ok:ConOk Tryz.prog 173 k_markStrS:=by
 rintro⟨L,k⟩ ⟨h1,h2,h3⟩;dsimp only at h1 h2 h3;refine v_markStrS L k ⟨⟨⟨0,Nat.zero_le _⟩,⟨⟨rfl,rfl⟩,rfl,rfl,trivial⟩,⟨rfl,upR_zero⟩,trivial⟩,fun x=>⟨fun hc=> ?_,fun hc=> ?_⟩⟩
 ·have hlt:=lt_of_dec hc;refine⟨k+x.val,⟨⟨rfl,trivial⟩,by omega,by omega⟩,inB_nat hlt,by unfold Lt;omega,i64_rng (by omega),i64_rng (by omega),⟨x.val+1,hlt⟩,⟨⟨⟨rfl,rfl⟩,by dsimp only;omega,by dsimp only;omega,trivial⟩,⟨rfl,fun j _=> ?_⟩,trivial⟩,Cnt.ext_lt hlt⟩
  exact upR_set (m:=1) (fun _=>rfl) (fun _=>rfl) x.val (show[T.str (mkT (k+x.val))]=strRow (mkS L.length k) x.val by unfold strRow mkS;rw[mk_at _ hlt]) j
 ·have hx:x.val=L.length:=by have:=x.2;have:=le_of_not hc;omega
  rw[hx];exact⟨⟨rfl,trivial⟩,⟨(mk_len _ _).symm,upR_end⟩,trivial⟩
def k_heldStrS:Con:=.rel ⟨Nat×Nat,fun x=>[strS (mkS x.1 x.2),.int .i64 x.2],fun x=>.int .i64 (x.2+x.1:Nat),fun x=>KBn x.1 x.2 1⟩
def A_heldStrS(n k:Nat):Nat->Ann
 |0=>.one {i:Nat//i<=n} (fun x=>⟨[(0,strS (mkS n k)),(1,.int .i64 (k+x.1:Nat)),(5,.int .i64 x.1)],[]⟩) (fun x=>n-x.1) [] [] (fun _=>noAnn)
 |_=>.none
noncomputable def b_heldStrS:Code:=Tryz.f176.body.getD .skip
theorem call_heldStrS:Callable Tryz.prog 176:=⟨_,Tryz.func176,by kernel_rfl,by kernel_rfl⟩
theorem v_heldStrS(n k:Nat)(h:
  (∃(x:{i:Nat//i<=n}),((EqL strRow (mkS n k) (mkS n k))/\(k:Int)=(↑(k+x.val):Int)/\(0:Int)=(x.val:Int)/\True)/\True)/\∀(x:{i:Nat//i<=n}),(decide ((x.val:Int)<(↑(mkS n k).length:Int))=true->
  InB (x.val:Int) (mkS n k).length/\∃(x_1:Nat),(((↑(k+x.val):Int)=(x_1:Int)/\True)/\KB x_1)/\((!(mkS n k).getD (x.val:Int).toNat []==mkT x_1)=true->(-1:Int)=(↑(k+n):Int))/\((!(mkS n k).getD
  (x.val:Int).toNat []==mkT x_1)=false->Rng .i64 ((↑(k+x.val):Int)+(1:Int))/\Rng .i64 ((x.val:Int)+(1:Int))/\∃(y:{i:Nat//i<=n}),(((EqL strRow (mkS n k) (mkS n k))/\(↑(k+x.val):Int)+(1:Int)=
  (↑(k+y.val):Int)/\(x.val:Int)+(1:Int)=(y.val:Int)/\True)/\True)/\Lt (n-y.val) (n-x.val)))/\(decide ((x.val:Int)<(↑(mkS n k).length:Int))=false->(↑(k+x.val):Int)=(↑(k+n):Int))):
  PureFn Tryz.prog 176 [strS (mkS n k),.int .i64 k] (.int .i64 (k+n:Nat)):=
 vcR (code:=b_heldStrS) (gC markText_ok call_markText gN) Tryz.func176 (by kernel_rfl) (by kernel_rfl) (A_heldStrS n k) h (by kernel_rfl)
theorem heldStrS_ok:ConOk Tryz.prog 176 k_heldStrS:=by
 rintro⟨n,k⟩ ⟨h1,h2,h3⟩;dsimp only at h1 h2 h3;have hn:(mkS n k).length=n:=mk_len _ _;refine v_heldStrS n k ⟨⟨⟨0,Nat.zero_le _⟩,⟨⟨rfl,rowsR _ _⟩,rfl,rfl,trivial⟩,trivial⟩,fun x=>⟨fun hc=> ?_,fun hc=> ?_⟩⟩
 ·have hlt:=lt_of_dec hc;have hlt':x.val<n:=by omega
  have e:(mkS n k).getD (x.val:Int).toNat []=mkT (k+x.val):=by rw[Int.toNat_natCast];exact mk_at _ hlt' _
  exact⟨inB_nat hlt,k+x.val,⟨⟨rfl,trivial⟩,by omega,by omega⟩,fun h=>by rw[e] at h;simp at h,fun _=>⟨i64_rng (by omega),i64_rng (by omega),⟨x.val+1,hlt'⟩,⟨⟨⟨rfl,rowsR _ _⟩,by dsimp only;omega,by dsimp only;omega,trivial⟩,trivial⟩,Cnt.ext_lt hlt'⟩⟩
 ·have hx:x.val=n:=by have:=x.2;have:=le_of_not hc;omega
  rw[hx]
end Go.Proofs.YtokaojbaacnngaaGreat

namespace Go.Proofs.YtokaojbaacnngaaGreat
set_option maxRecDepth 100000
open Go.SS

def setCs(row:Nat->List T)(i:Nat):List (Nat×T)->Nat->List T
 | []=>row
 |(j,t)::r=>setCs (setRow row i j [t]) i r
theorem setRow_ne{row:Nat->List T}{i j k:Nat}{cs:List T}(h:j+cs.length<=(row k).length)(hk:k≠i):setRow row i j cs k=row k:=by
 rw[setRow_eq h,nb_f hk]
theorem setRow_one{row:Nat->List T}{i j:Nat}{t:T}(h:j<(row i).length):setRow row i j [t] i=(row i).set j t:=by
 rw[setRow_eq (by simp;omega),nb_t rfl]
 rw[List.set_eq_take_append_cons_drop,if_pos h];simp
theorem setCs_ne{i k:Nat}(hk:k≠i):∀{l:List (Nat×T)} {row:Nat->List T},(∀p ∈ l,p.1<(row k).length)->setCs row i l k=row k
 | [],row,_=>rfl
 |(j,t)::r,row,h=>by
  have h1:setRow row i j [t] k=row k:=setRow_ne (by have:=h (j,t) (by simp);simp only[List.length_singleton];omega) hk
  show setCs (setRow row i j [t]) i r k=row k;rw[setCs_ne hk (fun p hp=>by rw[h1];exact h p (by simp[hp])),h1]
theorem setCs_at{i:Nat}:∀{l:List (Nat×T)} {row:Nat->List T},(∀p ∈ l,p.1<(row i).length)->setCs row i l i=l.foldl (fun c p=>c.set p.1 p.2) (row i)
 | [],row,_=>rfl
 |(j,t)::r,row,h=>by
  have h1:setRow row i j [t] i=(row i).set j t:=setRow_one (h (j,t) (by simp))
  show setCs (setRow row i j [t]) i r i=r.foldl (fun c p=>c.set p.1 p.2) ((row i).set j t)
  rw[setCs_at (fun p hp=>by rw[h1,List.length_set];exact h p (by simp[hp])),h1]
theorem upR_setCs{new old:Nat->List T}{m:Nat}(hn:∀j,(new j).length=m)(ho:∀j,(old j).length=m)(x:Nat)(l:List (Nat×T))(hl:∀p ∈ l,p.1<m)(hc:l.foldl (fun c p=>c.set p.1 p.2) (old x)=new x)(j:Nat):setCs (upR new old x) (0+(x:Int).toNat) l j=upR new old (x+1) j:=by
 have hw:∀j,(upR new old x j).length=m:=fun j=>by unfold upR;split<;>simp only[hn,ho]
 have hx:0+(x:Int).toNat=x:=by omega
 rw[hx];refine upR_step (f:=setCs (upR new old x) x l) (fun i hi=> ?_) ?_ j
 ·exact setCs_ne hi fun p hp=>by rw[hw];exact hl p hp
 ·rw[setCs_at fun p hp=>by rw[hw];exact hl p hp,show upR new old x x=old x by unfold upR;rw[if_neg (Nat.lt_irrefl x)],hc]
def k_markIntS:Con:=.reff ⟨List Int×Nat,fun x=>[.osl 0 0 x.1.length,.int .i64 x.2],fun x=>[intA x.1],fun x=>.int .i64 (x.2+x.1.length:Nat),fun x=>[intA (mkI x.1.length x.2)],fun x=>KBn x.1.length x.2 1⟩
def A_markIntS(L:List Int)(k:Nat):Nat->Ann
 |0=>.one {i:Nat//i<=L.length} (fun x=>⟨[(0,.osl 0 0 L.length),(1,.int .i64 (k+x.1:Nat)),(5,.int .i64 x.1)],[some (.arr true 0 1 L.length (upR (intRow (mkI L.length k)) (intRow L) x.1))]⟩) (fun x=>L.length-x.1) [.arr 0] [.arr 0] (fun _=>noAnn)
 |_=>.none
noncomputable def b_markIntS:Code:=Tryz.f18.body.getD .skip
theorem call_markIntS:Callable Tryz.prog 18:=⟨_,Tryz.func18,by kernel_rfl,by kernel_rfl⟩
theorem v_markIntS(L:List Int)(k:Nat)(h:
  (∃(x:{i:Nat//i<=L.length}),((0=0/\L.length=L.length)/\(k:Int)=(↑(k+x.val):Int)/\(0:Int)=(x.val:Int)/\True)/\(L.length=L.length/\RowsEq L.length (intRow L) (upR (intRow (mkI L.length k)) (intRow L)
  x.val))/\True)/\∀(x:{i:Nat//i<=L.length}),(decide ((x.val:Int)<(L.length:Int))=true->InB (x.val:Int) L.length/\Lt (0+(x.val:Int).toNat) L.length/\Rng .i64 ((↑(k+x.val):Int)+(1:Int))/\Rng .i64
  ((x.val:Int)+(1:Int))/\∃(y:{i:Nat//i<=L.length}),(((0=0/\L.length=L.length)/\(↑(k+x.val):Int)+(1:Int)=(↑(k+y.val):Int)/\(x.val:Int)+(1:Int)=(y.val:Int)/\True)/\(L.length=L.length/\
  RowsEq L.length (setRow (upR (intRow (mkI L.length k)) (intRow L) x.val) (0+(x.val:Int).toNat) 0 [T.int .i64 (↑(k+x.val):Int)]) (upR (intRow (mkI L.length k)) (intRow L) y.val))/\True)/\Lt (L.length-y.val) (L.length-
  x.val))/\(decide ((x.val:Int)<(L.length:Int))=false->((↑(k+x.val):Int)=(↑(k+L.length):Int)/\True)/\(L.length=(mkI L.length k).length/\RowsEq L.length (upR (intRow (mkI L.length k)) (intRow L) x.val) (intRow
  (mkI L.length k)))/\True)):
  EffFn Tryz.prog 18 [.osl 0 0 L.length,.int .i64 k] [intA L] (.int .i64 (k+L.length:Nat)) [intA (mkI L.length k)]:=
 vcG (code:=b_markIntS) gN Tryz.func18 (by kernel_rfl) (by kernel_rfl) (A_markIntS L k) [[.arr 0]] h (by kernel_rfl)
theorem markIntS_ok:ConOk Tryz.prog 18 k_markIntS:=by
 rintro⟨L,k⟩ ⟨h1,h2,h3⟩;dsimp only at h1 h2 h3;refine v_markIntS L k ⟨⟨⟨0,Nat.zero_le _⟩,⟨⟨rfl,rfl⟩,rfl,rfl,trivial⟩,⟨rfl,upR_zero⟩,trivial⟩,fun x=>⟨fun hc=> ?_,fun hc=> ?_⟩⟩
 ·have hlt:=lt_of_dec hc;refine⟨inB_nat hlt,by unfold Lt;omega,i64_rng (by omega),i64_rng (by omega),⟨x.val+1,hlt⟩,⟨⟨⟨rfl,rfl⟩,by dsimp only;omega,by dsimp only;omega,trivial⟩,⟨rfl,fun j _=> ?_⟩,trivial⟩,Cnt.ext_lt hlt⟩
  exact upR_set (m:=1) (fun _=>rfl) (fun _=>rfl) x.val (show[T.int .i64 ((k+x.val:Nat):Int)]=intRow (mkI L.length k) x.val by unfold intRow mkI;rw[mk_at _ hlt]) j
 ·have hx:x.val=L.length:=by have:=x.2;have:=le_of_not hc;omega
  rw[hx];exact⟨⟨rfl,trivial⟩,⟨(mk_len _ _).symm,upR_end⟩,trivial⟩
def k_heldIntS:Con:=.rel ⟨Nat×Nat,fun x=>[intS (mkI x.1 x.2),.int .i64 x.2],fun x=>.int .i64 (x.2+x.1:Nat),fun x=>KBn x.1 x.2 1⟩
def A_heldIntS(n k:Nat):Nat->Ann
 |0=>.one {i:Nat//i<=n} (fun x=>⟨[(0,intS (mkI n k)),(1,.int .i64 (k+x.1:Nat)),(5,.int .i64 x.1)],[]⟩) (fun x=>n-x.1) [] [] (fun _=>noAnn)
 |_=>.none
noncomputable def b_heldIntS:Code:=Tryz.f178.body.getD .skip
theorem call_heldIntS:Callable Tryz.prog 178:=⟨_,Tryz.func178,by kernel_rfl,by kernel_rfl⟩
theorem v_heldIntS(n k:Nat)(h:
  (∃(x:{i:Nat//i<=n}),((EqL intRow (mkI n k) (mkI n k))/\(k:Int)=(↑(k+x.val):Int)/\(0:Int)=(x.val:Int)/\True)/\True)/\∀(x:{i:Nat//i<=n}),(decide ((x.val:Int)<(↑(mkI n k).length:Int))=true->
  InB (x.val:Int) (mkI n k).length/\(((mkI n k).getD (x.val:Int).toNat (0:Int) !=(↑(k+x.val):Int))=true->(-1:Int)=(↑(k+n):Int))/\(((mkI n k).getD (x.val:Int).toNat (0:Int) !=(↑(k+x.val):Int))=false->Rng
  .i64 ((↑(k+x.val):Int)+(1:Int))/\Rng .i64 ((x.val:Int)+(1:Int))/\∃(y:{i:Nat//i<=n}),(((EqL intRow (mkI n k) (mkI n k))/\(↑(k+x.val):Int)+(1:Int)=(↑(k+y.val):Int)/\(x.val:Int)+(1:Int)=
  (y.val:Int)/\True)/\True)/\Lt (n-y.val) (n-x.val)))/\(decide ((x.val:Int)<(↑(mkI n k).length:Int))=false->(↑(k+x.val):Int)=(↑(k+n):Int))):
  PureFn Tryz.prog 178 [intS (mkI n k),.int .i64 k] (.int .i64 (k+n:Nat)):=
 vcR (code:=b_heldIntS) gN Tryz.func178 (by kernel_rfl) (by kernel_rfl) (A_heldIntS n k) h (by kernel_rfl)
theorem heldIntS_ok:ConOk Tryz.prog 178 k_heldIntS:=by
 rintro⟨n,k⟩ ⟨h1,h2,h3⟩;dsimp only at h1 h2 h3;have hn:(mkI n k).length=n:=mk_len _ _;refine v_heldIntS n k ⟨⟨⟨0,Nat.zero_le _⟩,⟨⟨rfl,rowsR _ _⟩,rfl,rfl,trivial⟩,trivial⟩,fun x=>⟨fun hc=> ?_,fun hc=> ?_⟩⟩
 ·have hlt:=lt_of_dec hc;have hlt':x.val<n:=by omega
  have e:(mkI n k).getD (x.val:Int).toNat 0=((k+x.val:Nat):Int):=by rw[Int.toNat_natCast];exact mk_at _ hlt' _
  exact⟨inB_nat hlt,fun h=>by rw[e] at h;simp at h,fun _=>⟨i64_rng (by omega),i64_rng (by omega),⟨x.val+1,hlt'⟩,⟨⟨⟨rfl,rowsR _ _⟩,by dsimp only;omega,by dsimp only;omega,trivial⟩,trivial⟩,Cnt.ext_lt hlt'⟩⟩
 ·have hx:x.val=n:=by have:=x.2;have:=le_of_not hc;omega
  rw[hx]
def k_markPendS:Con:=.reff ⟨List Pend×Nat,fun x=>[.osl 0 0 x.1.length,.int .i64 x.2],fun x=>[pendA x.1],fun x=>.int .i64 (x.2+2*x.1.length:Nat),fun x=>[pendA (mkP x.1.length x.2)],fun x=>KBn x.1.length x.2 2⟩
def A_markPendS(L:List Pend)(k:Nat):Nat->Ann
 |0=>.one {i:Nat//i<=L.length} (fun x=>⟨[(0,.osl 0 0 L.length),(1,.int .i64 (k+2*x.1:Nat)),(5,.int .i64 x.1)],[some (.arr true 0 2 L.length (upR (pendRow (mkP L.length k)) (pendRow L) x.1))]⟩) (fun x=>L.length-x.1) [.arr 0] [.arr 0] (fun _=>noAnn)
 |_=>.none
noncomputable def b_markPendS:Code:=Tryz.f174.body.getD .skip
theorem call_markPendS:Callable Tryz.prog 174:=⟨_,Tryz.func174,by kernel_rfl,by kernel_rfl⟩
theorem v_markPendS(L:List Pend)(k:Nat)(h:
  (∃(x:{i:Nat//i<=L.length}),((0=0/\L.length=L.length)/\(k:Int)=(↑(k+2*x.val):Int)/\(0:Int)=(x.val:Int)/\True)/\(L.length=L.length/\RowsEq L.length (pendRow L) (upR (pendRow (mkP L.length k))
  (pendRow L) x.val))/\True)/\∀(x:{i:Nat//i<=L.length}),(decide ((x.val:Int)<(L.length:Int))=true->InB (x.val:Int) L.length/\Lt (0+(x.val:Int).toNat) L.length/\Rng .i64 ((↑(k+2*x.val):Int)+(1:Int))/\
  ∃(x_1:Nat),(((↑(k+2*x.val):Int)+(1:Int)=(x_1:Int)/\True)/\KB x_1)/\InB (x.val:Int) L.length/\Lt (0+(x.val:Int).toNat) L.length/\Rng .i64 ((↑(k+2*x.val):Int)+(1:Int)+(1:Int))/\Rng .i64
  ((x.val:Int)+(1:Int))/\∃(y:{i:Nat//i<=L.length}),(((0=0/\L.length=L.length)/\(↑(k+2*x.val):Int)+(1:Int)+(1:Int)=(↑(k+2*y.val):Int)/\(x.val:Int)+(1:Int)=(y.val:Int)/\True)/\
  (L.length=L.length/\RowsEq L.length (setRow (setRow (upR (pendRow (mkP L.length k)) (pendRow L) x.val) (0+(x.val:Int).toNat) 0 [T.int .i64 (↑(k+2*x.val):Int)]) (0+(x.val:Int).toNat) 1 [T.str (mkT x_1)]) (upR (pendRow
  (mkP L.length k)) (pendRow L) y.val))/\True)/\Lt (L.length-y.val) (L.length-x.val))/\(decide ((x.val:Int)<(L.length:Int))=false->((↑(k+2*x.val):Int)=(↑(k+2*L.length):Int)/\True)/\(L.length=(mkP
  L.length k).length/\RowsEq L.length (upR (pendRow (mkP L.length k)) (pendRow L) x.val) (pendRow (mkP L.length k)))/\True)):
  EffFn Tryz.prog 174 [.osl 0 0 L.length,.int .i64 k] [pendA L] (.int .i64 (k+2*L.length:Nat)) [pendA (mkP L.length k)]:=
 vcG (code:=b_markPendS) (gC markText_ok call_markText gN) Tryz.func174 (by kernel_rfl) (by kernel_rfl) (A_markPendS L k) [[.arr 0]] h (by kernel_rfl)
theorem markPendS_ok:ConOk Tryz.prog 174 k_markPendS:=by
 rintro⟨L,k⟩ ⟨h1,h2,h3⟩;dsimp only at h1 h2 h3;refine v_markPendS L k ⟨⟨⟨0,Nat.zero_le _⟩,⟨⟨rfl,rfl⟩,rfl,rfl,trivial⟩,⟨rfl,upR_zero⟩,trivial⟩,fun x=>⟨fun hc=> ?_,fun hc=> ?_⟩⟩
 ·have hlt:=lt_of_dec hc;have ib:=inB_nat hlt;have lt:Lt (0+(x.val:Int).toNat) L.length:=by unfold Lt;omega
  refine⟨ib,lt,i64_rng (by omega),k+2*x.val+1,⟨⟨by omega,trivial⟩,by omega,by omega⟩,ib,lt,i64_rng (by omega),i64_rng (by omega),⟨x.val+1,hlt⟩,⟨⟨⟨rfl,rfl⟩,by dsimp only;omega,by dsimp only;omega,trivial⟩,⟨rfl,fun j _=> ?_⟩,trivial⟩,Cnt.ext_lt hlt⟩
  exact upR_setCs (m:=2) (fun _=>rfl) (fun _=>rfl) x.val [(0,.int .i64 (k+2*x.val:Nat)),(1,.str (mkT (k+2*x.val+1)))] (by simp) (by unfold pendRow mkP;rw[mk_at _ hlt];rfl) j
 ·have hx:x.val=L.length:=by have:=x.2;have:=le_of_not hc;omega
  rw[hx];exact⟨⟨rfl,trivial⟩,⟨(mk_len _ _).symm,upR_end⟩,trivial⟩
def k_heldPendS:Con:=.rel ⟨Nat×Nat,fun x=>[pendS (mkP x.1 x.2),.int .i64 x.2],fun x=>.int .i64 (x.2+2*x.1:Nat),fun x=>KBn x.1 x.2 2⟩
def A_heldPendS(n k:Nat):Nat->Ann
 |0=>.one {i:Nat//i<=n} (fun x=>⟨[(0,pendS (mkP n k)),(1,.int .i64 (k+2*x.1:Nat)),(5,.int .i64 x.1)],[]⟩) (fun x=>n-x.1) [] [] (fun _=>noAnn)
 |_=>.none
noncomputable def b_heldPendS:Code:=Tryz.f177.body.getD .skip
theorem call_heldPendS:Callable Tryz.prog 177:=⟨_,Tryz.func177,by kernel_rfl,by kernel_rfl⟩
theorem v_heldPendS(n k:Nat)(h:
  (∃(x:{i:Nat//i<=n}),((EqL pendRow (mkP n k) (mkP n k))/\(k:Int)=(↑(k+2*x.val):Int)/\(0:Int)=(x.val:Int)/\True)/\True)/\∀(x:{i:Nat//i<=n}),(decide ((x.val:Int)<(↑(mkP n k).length:Int))=
  true->InB (x.val:Int) (mkP n k).length/\((((mkP n k).getD (x.val:Int).toNat default).at_ !=(↑(k+2*x.val):Int))=true->(-1:Int)=(↑(k+2*n):Int))/\((((mkP n k).getD (x.val:Int).toNat default).at_ !=(↑(k+2*
  x.val):Int))=false->Rng .i64 ((↑(k+2*x.val):Int)+(1:Int))/\InB (x.val:Int) (mkP n k).length/\∃(x_1:Nat),(((↑(k+2*x.val):Int)+(1:Int)=(x_1:Int)/\True)/\KB x_1)/\((!((mkP n k).getD
  (x.val:Int).toNat default).d==mkT x_1)=true->(-1:Int)=(↑(k+2*n):Int))/\((!((mkP n k).getD (x.val:Int).toNat default).d==mkT x_1)=false->Rng .i64 ((↑(k+2*x.val):Int)+(1:Int)+(1:Int))/\Rng .i64
  ((x.val:Int)+(1:Int))/\∃(y:{i:Nat//i<=n}),(((EqL pendRow (mkP n k) (mkP n k))/\(↑(k+2*x.val):Int)+(1:Int)+(1:Int)=(↑(k+2*y.val):Int)/\(x.val:Int)+(1:Int)=(y.val:Int)/\True)/\True)/\
  Lt (n-y.val) (n-x.val))))/\(decide ((x.val:Int)<(↑(mkP n k).length:Int))=false->(↑(k+2*x.val):Int)=(↑(k+2*n):Int))):
  PureFn Tryz.prog 177 [pendS (mkP n k),.int .i64 k] (.int .i64 (k+2*n:Nat)):=
 vcR (code:=b_heldPendS) (gC markText_ok call_markText gN) Tryz.func177 (by kernel_rfl) (by kernel_rfl) (A_heldPendS n k) h (by kernel_rfl)
theorem heldPendS_ok:ConOk Tryz.prog 177 k_heldPendS:=by
 rintro⟨n,k⟩ ⟨h1,h2,h3⟩;dsimp only at h1 h2 h3;have hn:(mkP n k).length=n:=mk_len _ _;refine v_heldPendS n k ⟨⟨⟨0,Nat.zero_le _⟩,⟨⟨rfl,rowsR _ _⟩,rfl,rfl,trivial⟩,trivial⟩,fun x=>⟨fun hc=> ?_,fun hc=> ?_⟩⟩
 ·have hlt:=lt_of_dec hc;have hlt':x.val<n:=by omega
  have e:(mkP n k).getD (x.val:Int).toNat default=⟨((k+2*x.val:Nat):Int),mkT (k+2*x.val+1)⟩:=by rw[Int.toNat_natCast];exact mk_at _ hlt' _
  rw[e];have ib:=inB_nat hlt;exact⟨ib,fun h=>by simp at h,fun _=>⟨i64_rng (by omega),ib,k+2*x.val+1,⟨⟨by omega,trivial⟩,by omega,by omega⟩,fun h=>by simp at h,fun _=>⟨i64_rng (by omega),i64_rng (by omega),⟨x.val+1,hlt'⟩,⟨⟨⟨rfl,rowsR _ _⟩,by dsimp only;omega,by dsimp only;omega,trivial⟩,trivial⟩,Cnt.ext_lt hlt'⟩⟩⟩
 ·have hx:x.val=n:=by have:=x.2;have:=le_of_not hc;omega
  rw[hx]
def k_markRecS:Con:=.reff ⟨List Rec×Nat,fun x=>[.osl 0 0 x.1.length,.int .i64 x.2],fun x=>[recA x.1],fun x=>.int .i64 (x.2+10*x.1.length:Nat),fun x=>[recA (mkR x.1.length x.2)],fun x=>KBn x.1.length x.2 10⟩
def A_markRecS(L:List Rec)(k:Nat):Nat->Ann
 |0=>.one {i:Nat//i<=L.length} (fun x=>⟨[(0,.osl 0 0 L.length),(1,.int .i64 (k+10*x.1:Nat)),(5,.int .i64 x.1)],[some (.arr true 0 10 L.length (upR (recRow (mkR L.length k)) (recRow L) x.1))]⟩) (fun x=>L.length-x.1) [.arr 0] [.arr 0] (fun _=>noAnn)
 |_=>.none
noncomputable def b_markRecS:Code:=Tryz.f100.body.getD .skip
theorem call_markRecS:Callable Tryz.prog 100:=⟨_,Tryz.func100,by kernel_rfl,by kernel_rfl⟩
theorem v_markRecS(L:List Rec)(k:Nat)(h:
  (∃(x:{i:Nat//i<=L.length}),((0=0/\L.length=L.length)/\(k:Int)=(↑(k+10*x.val):Int)/\(0:Int)=(x.val:Int)/\True)/\(L.length=L.length/\RowsEq L.length (recRow L) (upR (recRow (mkR L.length k))
  (recRow L) x.val))/\True)/\∀(x:{i:Nat//i<=L.length}),(decide ((x.val:Int)<(L.length:Int))=true->InB (x.val:Int) L.length/\Lt (0+(x.val:Int).toNat) L.length/\Rng .i64 ((↑(k+10*x.val):Int)+(1:Int))/\
  InB (x.val:Int) L.length/\Lt (0+(x.val:Int).toNat) L.length/\Rng .i64 ((↑(k+10*x.val):Int)+(1:Int)+(1:Int))/\InB (x.val:Int) L.length/\Lt (0+(x.val:Int).toNat) L.length/\Rng .i64 ((↑(k+10*x.val):Int)+
  (1:Int)+(1:Int)+(1:Int))/\InB (x.val:Int) L.length/\Lt (0+(x.val:Int).toNat) L.length/\Rng .i64 ((↑(k+10*x.val):Int)+(1:Int)+(1:Int)+(1:Int)+(1:Int))/\InB (x.val:Int) L.length/\Lt (0+
  (x.val:Int).toNat) L.length/\Rng .i64 ((↑(k+10*x.val):Int)+(1:Int)+(1:Int)+(1:Int)+(1:Int)+(1:Int))/\InB (x.val:Int) L.length/\Lt (0+(x.val:Int).toNat) L.length/\Rng .i64 ((↑(k+10*x.val):Int)
  +(1:Int)+(1:Int)+(1:Int)+(1:Int)+(1:Int)+(1:Int))/\InB (x.val:Int) L.length/\Lt (0+(x.val:Int).toNat) L.length/\Rng .i64 ((↑(k+10*x.val):Int)+(1:Int)+(1:Int)+(1:Int)+(1:Int)+(1:
  Int)+(1:Int)+(1:Int))/\InB (x.val:Int) L.length/\Lt (0+(x.val:Int).toNat) L.length/\Rng .i64 ((↑(k+10*x.val):Int)+(1:Int)+(1:Int)+(1:Int)+(1:Int)+(1:Int)+(1:Int)+(1:Int)+(1:Int))
  /\∃(x_1:Nat),(((↑(k+10*x.val):Int)+(1:Int)+(1:Int)+(1:Int)+(1:Int)+(1:Int)+(1:Int)+(1:Int)+(1:Int)=(x_1:Int)/\True)/\KB x_1)/\InB (x.val:Int) L.length/\Lt (0+(x.val:Int).toNat)
  L.length/\Rng .i64 ((↑(k+10*x.val):Int)+(1:Int)+(1:Int)+(1:Int)+(1:Int)+(1:Int)+(1:Int)+(1:Int)+(1:Int)+(1:Int))/\∃(x_2:Nat),(((↑(k+10*x.val):Int)+(1:Int)+(1:Int)+(1
  :Int)+(1:Int)+(1:Int)+(1:Int)+(1:Int)+(1:Int)+(1:Int)=(x_2:Int)/\True)/\KB x_2)/\InB (x.val:Int) L.length/\Lt (0+(x.val:Int).toNat) L.length/\Rng .i64 ((↑(k+10*x.val):Int)+(1:Int)+(1:
  Int)+(1:Int)+(1:Int)+(1:Int)+(1:Int)+(1:Int)+(1:Int)+(1:Int)+(1:Int))/\Rng .i64 ((x.val:Int)+(1:Int))/\∃(y:{i:Nat//i<=L.length}),(((0=0/\L.length=L.length)/\(↑(k+10*x.val)
  :Int)+(1:Int)+(1:Int)+(1:Int)+(1:Int)+(1:Int)+(1:Int)+(1:Int)+(1:Int)+(1:Int)+(1:Int)=(↑(k+10*y.val):Int)/\(x.val:Int)+(1:Int)=(y.val:Int)/\True)/\(L.length=L.length/\
  RowsEq L.length (setRow (setRow (setRow (setRow (setRow (setRow (setRow (setRow (setRow (setRow (upR (recRow (mkR L.length k)) (recRow L) x.val) (0+(x.val:Int).toNat) 0 [T.int .i64 (↑(k+10*x.val):Int)]) (0+
  (x.val:Int).toNat) 1 [T.int .i64 ((↑(k+10*x.val):Int)+(1:Int))]) (0+(x.val:Int).toNat) 2 [T.int .i64 ((↑(k+10*x.val):Int)+(1:Int)+(1:Int))]) (0+(x.val:Int).toNat) 3 [T.int .i64 ((↑(k+10*x.val):
  Int)+(1:Int)+(1:Int)+(1:Int))]) (0+(x.val:Int).toNat) 4 [T.int .i64 ((↑(k+10*x.val):Int)+(1:Int)+(1:Int)+(1:Int)+(1:Int))]) (0+(x.val:Int).toNat) 5 [T.int .i64 ((↑(k+10*x.val):Int)+(1
  :Int)+(1:Int)+(1:Int)+(1:Int)+(1:Int))]) (0+(x.val:Int).toNat) 6 [T.int .i64 ((↑(k+10*x.val):Int)+(1:Int)+(1:Int)+(1:Int)+(1:Int)+(1:Int)+(1:Int))]) (0+(x.val:Int).toNat) 7 [T.int
  .i64 ((↑(k+10*x.val):Int)+(1:Int)+(1:Int)+(1:Int)+(1:Int)+(1:Int)+(1:Int)+(1:Int))]) (0+(x.val:Int).toNat) 8 [T.str (mkT x_1)]) (0+(x.val:Int).toNat) 9 [T.str (mkT x_2)]) (upR (recRow (mkR
  L.length k)) (recRow L) y.val))/\True)/\Lt (L.length-y.val) (L.length-x.val))/\(decide ((x.val:Int)<(L.length:Int))=false->((↑(k+10*x.val):Int)=(↑(k+10*L.length):Int)/\True)/\(L.length=(mkR L.length
  k).length/\RowsEq L.length (upR (recRow (mkR L.length k)) (recRow L) x.val) (recRow (mkR L.length k)))/\True)):
  EffFn Tryz.prog 100 [.osl 0 0 L.length,.int .i64 k] [recA L] (.int .i64 (k+10*L.length:Nat)) [recA (mkR L.length k)]:=
 vcG (code:=b_markRecS) (gC markText_ok call_markText gN) Tryz.func100 (by kernel_rfl) (by kernel_rfl) (A_markRecS L k) [[.arr 0]] h (by kernel_rfl)
theorem markRecS_ok:ConOk Tryz.prog 100 k_markRecS:=by
 rintro⟨L,k⟩ ⟨h1,h2,h3⟩;dsimp only at h1 h2 h3;refine v_markRecS L k ⟨⟨⟨0,Nat.zero_le _⟩,⟨⟨rfl,rfl⟩,rfl,rfl,trivial⟩,⟨rfl,upR_zero⟩,trivial⟩,fun x=>⟨fun hc=> ?_,fun hc=> ?_⟩⟩
 ·have hlt:=lt_of_dec hc;have ib:=inB_nat hlt;have lt:Lt (0+(x.val:Int).toNat) L.length:=by unfold Lt;omega
  refine⟨ib,lt,i64_rng (by omega),ib,lt,i64_rng (by omega),ib,lt,i64_rng (by omega),ib,lt,i64_rng (by omega),ib,lt,i64_rng (by omega),ib,lt,i64_rng (by omega),ib,lt,i64_rng (by omega),ib,lt,i64_rng (by omega),k+10*x.val+8,⟨⟨by omega,trivial⟩,by omega,by omega⟩,ib,lt,i64_rng (by omega),k+10*x.val+9,⟨⟨by omega,trivial⟩,by omega,by omega⟩,ib,lt,i64_rng (by omega),i64_rng (by omega),⟨x.val+1,hlt⟩,⟨⟨⟨rfl,rfl⟩,by dsimp only;omega,by dsimp only;omega,trivial⟩,⟨rfl,fun j _=> ?_⟩,trivial⟩,Cnt.ext_lt hlt⟩
  exact upR_setCs (m:=10) (fun _=>rfl) (fun _=>rfl) x.val [(0,.int .i64 (((k+10*x.val:Nat):Int))),(1,.int .i64 (((k+10*x.val:Nat):Int)+1)),(2,.int .i64 (((k+10*x.val:Nat):Int)+1+1)),(3,.int .i64 (((k+10*x.val:Nat):Int)+1+1+1)),(4,.int .i64 (((k+10*x.val:Nat):Int)+1+1+1+1)),(5,.int .i64 (((k+10*x.val:Nat):Int)+1+1+1+1+1)),(6,.int .i64 (((k+10*x.val:Nat):Int)+1+1+1+1+1+1)),(7,.int .i64 (((k+10*x.val:Nat):Int)+1+1+1+1+1+1+1)),(8,.str (mkT (k+10*x.val+8))),(9,.str (mkT (k+10*x.val+9)))] (by simp) (by unfold recRow mkR;rw[mk_at _ hlt];rfl) j
 ·have hx:x.val=L.length:=by have:=x.2;have:=le_of_not hc;omega
  rw[hx];exact⟨⟨rfl,trivial⟩,⟨(mk_len _ _).symm,upR_end⟩,trivial⟩
def k_heldRecS:Con:=.rel ⟨Nat×Nat,fun x=>[recS (mkR x.1 x.2),.int .i64 x.2],fun x=>.int .i64 (x.2+10*x.1:Nat),fun x=>KBn x.1 x.2 10⟩
def A_heldRecS(n k:Nat):Nat->Ann
 |0=>.one {i:Nat//i<=n} (fun x=>⟨[(0,recS (mkR n k)),(1,.int .i64 (k+10*x.1:Nat)),(5,.int .i64 x.1)],[]⟩) (fun x=>n-x.1) [] [] (fun _=>noAnn)
 |_=>.none
noncomputable def b_heldRecS:Code:=Tryz.f105.body.getD .skip
theorem call_heldRecS:Callable Tryz.prog 105:=⟨_,Tryz.func105,by kernel_rfl,by kernel_rfl⟩
theorem v_heldRecS(n k:Nat)(h:
  (∃(x:{i:Nat//i<=n}),((EqL recRow (mkR n k) (mkR n k))/\(k:Int)=(↑(k+10*x.val):Int)/\(0:Int)=(x.val:Int)/\True)/\True)/\∀(x:{i:Nat//i<=n}),(decide ((x.val:Int)<(↑(mkR n k).length:Int))=
  true->InB (x.val:Int) (mkR n k).length/\((((mkR n k).getD (x.val:Int).toNat default).e !=(↑(k+10*x.val):Int))=true->(-1:Int)=(↑(k+10*n):Int))/\((((mkR n k).getD (x.val:Int).toNat default).e !=(↑(k+10*
  x.val):Int))=false->Rng .i64 ((↑(k+10*x.val):Int)+(1:Int))/\InB (x.val:Int) (mkR n k).length/\((((mkR n k).getD (x.val:Int).toNat default).l !=(↑(k+10*x.val):Int)+(1:Int))=true->(-1:Int)=(↑(k+
  10*n):Int))/\((((mkR n k).getD (x.val:Int).toNat default).l !=(↑(k+10*x.val):Int)+(1:Int))=false->Rng .i64 ((↑(k+10*x.val):Int)+(1:Int)+(1:Int))/\InB (x.val:Int) (mkR n k).length/\((((mkR n
  k).getD (x.val:Int).toNat default).t !=(↑(k+10*x.val):Int)+(1:Int)+(1:Int))=true->(-1:Int)=(↑(k+10*n):Int))/\((((mkR n k).getD (x.val:Int).toNat default).t !=(↑(k+10*x.val):Int)+(1:Int)+(1
  :Int))=false->Rng .i64 ((↑(k+10*x.val):Int)+(1:Int)+(1:Int)+(1:Int))/\InB (x.val:Int) (mkR n k).length/\((((mkR n k).getD (x.val:Int).toNat default).k !=(↑(k+10*x.val):Int)+(1:Int)+(1:Int)+
  (1:Int))=true->(-1:Int)=(↑(k+10*n):Int))/\((((mkR n k).getD (x.val:Int).toNat default).k !=(↑(k+10*x.val):Int)+(1:Int)+(1:Int)+(1:Int))=false->Rng .i64 ((↑(k+10*x.val):Int)+(1:Int)+
  (1:Int)+(1:Int)+(1:Int))/\InB (x.val:Int) (mkR n k).length/\((((mkR n k).getD (x.val:Int).toNat default).p !=(↑(k+10*x.val):Int)+(1:Int)+(1:Int)+(1:Int)+(1:Int))=true->(-1:Int)=(↑(k+10*
  n):Int))/\((((mkR n k).getD (x.val:Int).toNat default).p !=(↑(k+10*x.val):Int)+(1:Int)+(1:Int)+(1:Int)+(1:Int))=false->Rng .i64 ((↑(k+10*x.val):Int)+(1:Int)+(1:Int)+(1:Int)+(1:
  Int)+(1:Int))/\InB (x.val:Int) (mkR n k).length/\((((mkR n k).getD (x.val:Int).toNat default).n !=(↑(k+10*x.val):Int)+(1:Int)+(1:Int)+(1:Int)+(1:Int)+(1:Int))=true->(-1:Int)=(↑(k+10*n):
  Int))/\((((mkR n k).getD (x.val:Int).toNat default).n !=(↑(k+10*x.val):Int)+(1:Int)+(1:Int)+(1:Int)+(1:Int)+(1:Int))=false->Rng .i64 ((↑(k+10*x.val):Int)+(1:Int)+(1:Int)+(1:Int)+
  (1:Int)+(1:Int)+(1:Int))/\InB (x.val:Int) (mkR n k).length/\((((mkR n k).getD (x.val:Int).toNat default).g !=(↑(k+10*x.val):Int)+(1:Int)+(1:Int)+(1:Int)+(1:Int)+(1:Int)+(1:Int))=true->
  (-1:Int)=(↑(k+10*n):Int))/\((((mkR n k).getD (x.val:Int).toNat default).g !=(↑(k+10*x.val):Int)+(1:Int)+(1:Int)+(1:Int)+(1:Int)+(1:Int)+(1:Int))=false->Rng .i64 ((↑(k+10*x.val):
  Int)+(1:Int)+(1:Int)+(1:Int)+(1:Int)+(1:Int)+(1:Int)+(1:Int))/\InB (x.val:Int) (mkR n k).length/\((((mkR n k).getD (x.val:Int).toNat default).s !=(↑(k+10*x.val):Int)+(1:Int)+(1:Int)+
  (1:Int)+(1:Int)+(1:Int)+(1:Int)+(1:Int))=true->(-1:Int)=(↑(k+10*n):Int))/\((((mkR n k).getD (x.val:Int).toNat default).s !=(↑(k+10*x.val):Int)+(1:Int)+(1:Int)+(1:Int)+(1:Int)
  +(1:Int)+(1:Int)+(1:Int))=false->Rng .i64 ((↑(k+10*x.val):Int)+(1:Int)+(1:Int)+(1:Int)+(1:Int)+(1:Int)+(1:Int)+(1:Int)+(1:Int))/\InB (x.val:Int) (mkR n k).length/\∃(x_1:
  Nat),(((↑(k+10*x.val):Int)+(1:Int)+(1:Int)+(1:Int)+(1:Int)+(1:Int)+(1:Int)+(1:Int)+(1:Int)=(x_1:Int)/\True)/\KB x_1)/\((!((mkR n k).getD (x.val:Int).toNat default).b==mkT x_1)=true->
  (-1:Int)=(↑(k+10*n):Int))/\((!((mkR n k).getD (x.val:Int).toNat default).b==mkT x_1)=false->Rng .i64 ((↑(k+10*x.val):Int)+(1:Int)+(1:Int)+(1:Int)+(1:Int)+(1:Int)+(1:Int)+(1:Int)+
  (1:Int)+(1:Int))/\InB (x.val:Int) (mkR n k).length/\∃(x_2:Nat),(((↑(k+10*x.val):Int)+(1:Int)+(1:Int)+(1:Int)+(1:Int)+(1:Int)+(1:Int)+(1:Int)+(1:Int)+(1:Int)=(x_2:Int)/\True)
  /\KB x_2)/\((!((mkR n k).getD (x.val:Int).toNat default).a==mkT x_2)=true->(-1:Int)=(↑(k+10*n):Int))/\((!((mkR n k).getD (x.val:Int).toNat default).a==mkT x_2)=false->Rng .i64 ((↑(k+10*x.val):Int)+(1
  :Int)+(1:Int)+(1:Int)+(1:Int)+(1:Int)+(1:Int)+(1:Int)+(1:Int)+(1:Int)+(1:Int))/\Rng .i64 ((x.val:Int)+(1:Int))/\∃(y:{i:Nat//i<=n}),(((EqL recRow (mkR n k) (mkR n k))/\(↑(k+
  10*x.val):Int)+(1:Int)+(1:Int)+(1:Int)+(1:Int)+(1:Int)+(1:Int)+(1:Int)+(1:Int)+(1:Int)+(1:Int)=(↑(k+10*y.val):Int)/\(x.val:Int)+(1:Int)=(y.val:Int)/\True)/\True)/\Lt (n
  -y.val) (n-x.val))))))))))))/\(decide ((x.val:Int)<(↑(mkR n k).length:Int))=false->(↑(k+10*x.val):Int)=(↑(k+10*n):Int))):
  PureFn Tryz.prog 105 [recS (mkR n k),.int .i64 k] (.int .i64 (k+10*n:Nat)):=
 vcR (code:=b_heldRecS) (gC markText_ok call_markText gN) Tryz.func105 (by kernel_rfl) (by kernel_rfl) (A_heldRecS n k) h (by kernel_rfl)
theorem heldRecS_ok:ConOk Tryz.prog 105 k_heldRecS:=by
 rintro⟨n,k⟩ ⟨h1,h2,h3⟩;dsimp only at h1 h2 h3;have hn:(mkR n k).length=n:=mk_len _ _;refine v_heldRecS n k ⟨⟨⟨0,Nat.zero_le _⟩,⟨⟨rfl,rowsR _ _⟩,rfl,rfl,trivial⟩,trivial⟩,fun x=>⟨fun hc=> ?_,fun hc=> ?_⟩⟩
 ·have hlt:=lt_of_dec hc;have hlt':x.val<n:=by omega
  have e:(mkR n k).getD (x.val:Int).toNat default=mkRc (k+10*x.val):=by rw[Int.toNat_natCast];exact mk_at _ hlt' _
  rw[e];have ib:=inB_nat hlt;unfold mkRc;exact⟨ib,fun h=>by simp at h,fun _=>⟨i64_rng (by omega),ib,fun h=>by simp at h,fun _=>⟨i64_rng (by omega),ib,fun h=>by simp at h,fun _=>⟨i64_rng (by omega),ib,fun h=>by simp at h,fun _=>⟨i64_rng (by omega),ib,fun h=>by simp at h,fun _=>⟨i64_rng (by omega),ib,fun h=>by simp at h,fun _=>⟨i64_rng (by omega),ib,fun h=>by simp at h,fun _=>⟨i64_rng (by omega),ib,fun h=>by simp at h,fun _=>⟨i64_rng (by omega),ib,k+10*x.val+8,⟨⟨by omega,trivial⟩,by omega,by omega⟩,fun h=>by simp at h,fun _=>⟨i64_rng (by omega),ib,k+10*x.val+9,⟨⟨by omega,trivial⟩,by omega,by omega⟩,fun h=>by simp at h,fun _=>⟨i64_rng (by omega),i64_rng (by omega),⟨x.val+1,hlt'⟩,⟨⟨⟨rfl,rowsR _ _⟩,by dsimp only;omega,by dsimp only;omega,trivial⟩,trivial⟩,Cnt.ext_lt hlt'⟩⟩⟩⟩⟩⟩⟩⟩⟩⟩⟩
 ·have hx:x.val=n:=by have:=x.2;have:=le_of_not hc;omega
  rw[hx]
end Go.Proofs.YtokaojbaacnngaaGreat

