/- A part of the proof. -/
import Derived.Test.YtokaojbaacnngaaGreatX1X2X3
namespace Go.Proofs.YtokaojbaacnngaaGreat
set_option maxRecDepth 100000
open Go.SS

def dig(k:Nat):UInt8:=O4 (IntKind.u8.wrap (48+(k:Int).tmod 10))
def dgs(k:Nat)(acc:List UInt8):List UInt8:=if h:k=0 then acc else dgs (k/10) (dig k::acc)
termination_by k
decreasing_by omega
theorem d2M{k:Nat}(acc:List UInt8)(h:k≠0):dgs k acc=dgs (k/10) (dig k::acc):=by
 rw[dgs];simp[h]
theorem c68(acc:List UInt8):dgs 0 acc=acc:=by
 rw[dgs];simp
def mkT(k:Nat):List UInt8:=O4 109::dgs k []
def KB(n:Nat):Prop:=1<=n/\n<=10000000000000
def b67:Con:=.rel ⟨Nat,fun k=>[.int .i64 k],fun k=>.str (mkT k),KB⟩
def c95(k:Nat):Type:={p:Nat×List UInt8//dgs p.1 p.2=dgs k []/\p.2.length+p.1<=k}
def b32(k:Nat):Nat->Ann
 |0=>.one (c95 k) (fun x=>⟨[(0,.int .i64 x.1.1),(3,.str x.1.2)],[]⟩) (fun x=>x.1.1) [] [] (fun _=>Z0)
 |_=>.none
noncomputable def b6F:Code:=Tryz.f175.body.getD .skip
theorem J3:Z8 Tryz.prog 175:=⟨_,Tryz.func175,by kernel_rfl,by kernel_rfl⟩
theorem b6d(k:Nat)(h:
  (decide ((k:Int)<=(0:Int))=true->[(109:UInt8),(48:UInt8)]=mkT k)/\(decide ((k:Int)<=(0:Int))=false->(∃(x:c95 k),((k:Int)=(x.val.fst:Int)/\[]=x.val.snd/\True)/\True)/\∀(x:c95 k),(decide
  ((x.val.fst:Int)>(0:Int))=true->Nz (10:Int)/\X6 .i64 ((48:Int)+(x.val.fst:Int).tmod (10:Int))/\X6 IntKind.u8 (IntKind.u8.wrap ((48:Int)+(x.val.fst:Int).tmod (10:Int)))/\Le 1 1/\Lt (1+x.val.snd.length)
  9223372036854775808/\(Nz (10:Int)/\X6 .i64 ((x.val.fst:Int).tdiv (10:Int)))/\∃(y:c95 k),(((x.val.fst:Int).tdiv (10:Int)=(y.val.fst:Int)/\List.take 1 (List.drop 0 (List.map O4 [IntKind.u8.wrap ((48:Int)+
  (x.val.fst:Int).tmod (10:Int))]))++x.val.snd=y.val.snd/\True)/\True)/\Lt y.val.fst x.val.fst)/\(decide ((x.val.fst:Int)>(0:Int))=false->Lt (1+x.val.snd.length) 9223372036854775808/\[(109:UInt8)]++x.val.snd
  =mkT k))):
  Z1 Tryz.prog 175 [.int .i64 k] (.str (mkT k)):=
 T7 (code:=b6F) gN Tryz.func175 (by kernel_rfl) (by kernel_rfl) (b32 k) h (by kernel_rfl)
theorem D9:Z2 Tryz.prog 175 b67:=by
 rintro(k:Nat) ⟨h1,h2⟩;have hz:Nz 10:=by unfold Nz;omega
 refine b6d k ⟨fun h=>absurd (of_decide_eq_true h) (by omega),fun _=>⟨⟨⟨(k,[]),rfl,by simp⟩,⟨rfl,rfl,trivial⟩,trivial⟩,fun x=> ?_⟩⟩
 obtain⟨⟨q,acc⟩,hd,hl⟩:=x;dsimp only at hd hl ⊢;have t1:(q:Int).tmod 10=((q % 10:Nat):Int):=by rw[Int.tmod_eq_emod_of_nonneg (by omega)];omega
 have t2:(q:Int).tdiv 10=((q/10:Nat):Int):=by rw[Int.tdiv_eq_ediv_of_nonneg (by omega)];omega
 refine⟨fun hc=> ?_,fun hc=> ?_⟩
 ·have hq:0<q:=by have:=of_decide_eq_true hc;omega
  refine⟨hz,Z5 (by rw[t1];omega),P5 _,Nat.le_refl _,by unfold Lt;omega,⟨hz,Z5 (by rw[t2];omega)⟩,⟨(q/10,dig q::acc),by rw[←hd];exact(d2M acc (by omega)).symm,by simp only[List.length_cons];omega⟩,⟨⟨t2,rfl,trivial⟩,trivial⟩,show q/10<q by omega⟩
 ·have hq:q=0:=by have:=of_decide_eq_false hc;omega
  subst hq;rw[c68] at hd;refine⟨by unfold Lt;omega,?_⟩
  rw[hd];rfl
def B7(new old:Nat->List T)(x j:Nat):List T:=if j<x then new j else old j
theorem s7{new old:Nat->List T}{n:Nat}:Z7 n old (B7 new old 0):=fun i _=>by unfold B7;rw[if_neg (Nat.not_lt_zero _)]
theorem a0D{new old:Nat->List T}{n:Nat}:Z7 n (B7 new old n) new:=fun i hi=>by unfold B7;rw[if_pos hi]
theorem b1p{new old:Nat->List T}{x:Nat}{f:Nat->List T}(h1:∀j,j≠x->f j=B7 new old x j)(h2:f x=new x)(j:Nat):f j=B7 new old (x+1) j:=by
 by_cases hj:j=x
 ·rw[hj,h2];unfold B7;rw[if_pos (Nat.lt_succ_self _)]
 ·rw[h1 j hj];unfold B7;by_cases h:j<x
  ·rw[if_pos h,if_pos (by omega)]
  ·rw[if_neg h,if_neg (by omega)]
theorem d6V{a b:Nat}(h:a≠b):Nat.beq a b=false:=by
 cases hb:Nat.beq a b with
 |false=>rfl
 |true=>exact absurd (Nat.eq_of_beq_eq_true hb) h
theorem d6Y{a b:Nat}(h:a=b):Nat.beq a b=true:=by subst h;exact Nat.beq_refl a
theorem b8s{new old:Nat->List T}{cs:List T}{m:Nat}(hn:∀j,(new j).length=m)(ho:∀j,(old j).length=m)(x:Nat)(hc:cs=new x)(j:Nat):setRow (B7 new old x) (0+(x:Int).toNat) 0 cs j=B7 new old (x+1) j:=by
 have hl:∀j,(B7 new old x j).length=m:=fun j=>by unfold B7;split<;>simp only[hn,ho]
 refine b1p (f:=setRow (B7 new old x) (0+(x:Int).toNat) 0 cs) (fun i hi=> ?_) ?_ j
 ·rw[z9 (by rw[hl,hc,hn]),show Nat.beq i (0+(x:Int).toNat)=false from d6V (by omega)]
 ·rw[z9 (by rw[hl,hc,hn]),show Nat.beq x (0+(x:Int).toNat)=true from d6Y (by omega),hc]
def B1(n k:Nat):List (List UInt8):=(List.range n).map fun i=>mkT (k+i)
def u4(n k:Nat):List Pend:=(List.range n).map fun i=>⟨((k+2*i:Nat):Int),mkT (k+2*i+1)⟩
def m8(n k:Nat):List Int:=(List.range n).map fun i=>((k+i:Nat):Int)
def d4Q(k:Nat):Rec:=⟨(k:Int),(k:Int)+1,(k:Int)+1+1,(k:Int)+1+1+1,(k:Int)+1+1+1+1,(k:Int)+1+1+1+1+1,(k:Int)+1+1+1+1+1+1,(k:Int)+1+1+1+1+1+1+1,mkT (k+8),mkT (k+9)⟩
def F8(n k:Nat):List Rec:=(List.range n).map fun i=>d4Q (k+10*i)
theorem C3{α:Type}(f:Nat->α){n i:Nat}(h:i<n)(d:α):((List.range n).map f).getD i d=f i:=by
 rw[List.getD_eq_getElem?_getD,List.getElem?_map,List.getElem?_range h]
 rfl
theorem R8{α:Type}(f:Nat->α)(n:Nat):((List.range n).map f).length=n:=by simp
def KBn(n k m:Nat):Prop:=n<=1048576/\1<=k/\k+m*n<=10000000000000
def b4b:Con:=.reff ⟨List (List UInt8)×Nat,fun x=>[.osl 0 0 x.1.length,.int .i64 x.2],fun x=>[I6 x.1],fun x=>.int .i64 (x.2+x.1.length:Nat),fun x=>[I6 (B1 x.1.length x.2)],fun x=>KBn x.1.length x.2 1⟩
def b31(L:List (List UInt8))(k:Nat):Nat->Ann
 |0=>.one {i:Nat//i<=L.length} (fun x=>⟨[(0,.osl 0 0 L.length),(1,.int .i64 (k+x.1:Nat)),(5,.int .i64 x.1)],[some (.arr true 0 1 L.length (B7 (Z6 (B1 L.length k)) (Z6 L) x.1))]⟩) (fun x=>L.length-x.1) [.arr 0] [.arr 0] (fun _=>Z0)
 |_=>.none
noncomputable def b3L:Code:=Tryz.f173.body.getD .skip
theorem a1y:Z8 Tryz.prog 173:=⟨_,Tryz.func173,by kernel_rfl,by kernel_rfl⟩
theorem b4u(L:List (List UInt8))(k:Nat)(h:
  (∃(x:{i:Nat//i<=L.length}),((0=0/\L.length=L.length)/\(k:Int)=(↑(k+x.val):Int)/\(0:Int)=(x.val:Int)/\True)/\(L.length=L.length/\Z7 L.length (Z6 L) (B7 (Z6 (B1 L.length k)) (Z6 L)
  x.val))/\True)/\∀(x:{i:Nat//i<=L.length}),(decide ((x.val:Int)<(L.length:Int))=true->∃(x_1:Nat),(((↑(k+x.val):Int)=(x_1:Int)/\True)/\KB x_1)/\W7 (x.val:Int) L.length/\Lt (0+(x.val:Int).toNat)
  L.length/\X6 .i64 ((↑(k+x.val):Int)+(1:Int))/\X6 .i64 ((x.val:Int)+(1:Int))/\∃(y:{i:Nat//i<=L.length}),(((0=0/\L.length=L.length)/\(↑(k+x.val):Int)+(1:Int)=(↑(k+y.val):Int)/\
  (x.val:Int)+(1:Int)=(y.val:Int)/\True)/\(L.length=L.length/\Z7 L.length (setRow (B7 (Z6 (B1 L.length k)) (Z6 L) x.val) (0+(x.val:Int).toNat) 0 [T.str (mkT x_1)]) (B7 (Z6 (B1 L.length k)) (Z6 L)
  y.val))/\True)/\Lt (L.length-y.val) (L.length-x.val))/\(decide ((x.val:Int)<(L.length:Int))=false->((↑(k+x.val):Int)=(↑(k+L.length):Int)/\True)/\(L.length=(B1 L.length k).length/\Z7 L.length (B7
  (Z6 (B1 L.length k)) (Z6 L) x.val) (Z6 (B1 L.length k)))/\True)):
  V7 Tryz.prog 173 [.osl 0 0 L.length,.int .i64 k] [I6 L] (.int .i64 (k+L.length:Nat)) [I6 (B1 L.length k)]:=
 C4 (code:=b3L) (gC D9 J3 gN) Tryz.func173 (by kernel_rfl) (by kernel_rfl) (b31 L k) [[.arr 0]] h (by kernel_rfl)
theorem a3e:Z2 Tryz.prog 173 b4b:=by
 rintro⟨L,k⟩ ⟨h1,h2,h3⟩;dsimp only at h1 h2 h3;refine b4u L k ⟨⟨⟨0,Nat.zero_le _⟩,⟨⟨rfl,rfl⟩,rfl,rfl,trivial⟩,⟨rfl,s7⟩,trivial⟩,fun x=>⟨fun hc=> ?_,fun hc=> ?_⟩⟩
 ·have hlt:=Y6 hc;refine⟨k+x.val,⟨⟨rfl,trivial⟩,by omega,by omega⟩,Y8 hlt,by unfold Lt;omega,Z5 (by omega),Z5 (by omega),⟨x.val+1,hlt⟩,⟨⟨⟨rfl,rfl⟩,by dsimp only;omega,by dsimp only;omega,trivial⟩,⟨rfl,fun j _=> ?_⟩,trivial⟩,W5.ext_lt hlt⟩
  exact b8s (m:=1) (fun _=>rfl) (fun _=>rfl) x.val (show[T.str (mkT (k+x.val))]=Z6 (B1 L.length k) x.val by unfold Z6 B1;rw[C3 _ hlt]) j
 ·have hx:x.val=L.length:=by have:=x.2;have:=Y2 hc;omega
  rw[hx];exact⟨⟨rfl,trivial⟩,⟨(R8 _ _).symm,a0D⟩,trivial⟩
def b4x:Con:=.rel ⟨Nat×Nat,fun x=>[L6 (B1 x.1 x.2),.int .i64 x.2],fun x=>.int .i64 (x.2+x.1:Nat),fun x=>KBn x.1 x.2 1⟩
def b7p(n k:Nat):Nat->Ann
 |0=>.one {i:Nat//i<=n} (fun x=>⟨[(0,L6 (B1 n k)),(1,.int .i64 (k+x.1:Nat)),(5,.int .i64 x.1)],[]⟩) (fun x=>n-x.1) [] [] (fun _=>Z0)
 |_=>.none
noncomputable def b5a:Code:=Tryz.f176.body.getD .skip
theorem a1m:Z8 Tryz.prog 176:=⟨_,Tryz.func176,by kernel_rfl,by kernel_rfl⟩
theorem b34(n k:Nat)(h:
  (∃(x:{i:Nat//i<=n}),((Y3 Z6 (B1 n k) (B1 n k))/\(k:Int)=(↑(k+x.val):Int)/\(0:Int)=(x.val:Int)/\True)/\True)/\∀(x:{i:Nat//i<=n}),(decide ((x.val:Int)<(↑(B1 n k).length:Int))=true->
  W7 (x.val:Int) (B1 n k).length/\∃(x_1:Nat),(((↑(k+x.val):Int)=(x_1:Int)/\True)/\KB x_1)/\((!(B1 n k).getD (x.val:Int).toNat []==mkT x_1)=true->(-1:Int)=(↑(k+n):Int))/\((!(B1 n k).getD
  (x.val:Int).toNat []==mkT x_1)=false->X6 .i64 ((↑(k+x.val):Int)+(1:Int))/\X6 .i64 ((x.val:Int)+(1:Int))/\∃(y:{i:Nat//i<=n}),(((Y3 Z6 (B1 n k) (B1 n k))/\(↑(k+x.val):Int)+(1:Int)=
  (↑(k+y.val):Int)/\(x.val:Int)+(1:Int)=(y.val:Int)/\True)/\True)/\Lt (n-y.val) (n-x.val)))/\(decide ((x.val:Int)<(↑(B1 n k).length:Int))=false->(↑(k+x.val):Int)=(↑(k+n):Int))):
  Z1 Tryz.prog 176 [L6 (B1 n k),.int .i64 k] (.int .i64 (k+n:Nat)):=
 T7 (code:=b5a) (gC D9 J3 gN) Tryz.func176 (by kernel_rfl) (by kernel_rfl) (b7p n k) h (by kernel_rfl)
theorem a3r:Z2 Tryz.prog 176 b4x:=by
 rintro⟨n,k⟩ ⟨h1,h2,h3⟩;dsimp only at h1 h2 h3;have hn:(B1 n k).length=n:=R8 _ _;refine b34 n k ⟨⟨⟨0,Nat.zero_le _⟩,⟨⟨rfl,Z9 _ _⟩,rfl,rfl,trivial⟩,trivial⟩,fun x=>⟨fun hc=> ?_,fun hc=> ?_⟩⟩
 ·have hlt:=Y6 hc;have hlt':x.val<n:=by omega
  have e:(B1 n k).getD (x.val:Int).toNat []=mkT (k+x.val):=by rw[Int.toNat_natCast];exact C3 _ hlt' _
  exact⟨Y8 hlt,k+x.val,⟨⟨rfl,trivial⟩,by omega,by omega⟩,fun h=>by rw[e] at h;simp at h,fun _=>⟨Z5 (by omega),Z5 (by omega),⟨x.val+1,hlt'⟩,⟨⟨⟨rfl,Z9 _ _⟩,by dsimp only;omega,by dsimp only;omega,trivial⟩,trivial⟩,W5.ext_lt hlt'⟩⟩
 ·have hx:x.val=n:=by have:=x.2;have:=Y2 hc;omega
  rw[hx]
end Go.Proofs.YtokaojbaacnngaaGreat

namespace Go.Proofs.YtokaojbaacnngaaGreat
set_option maxRecDepth 100000
open Go.SS

def a3b(row:Nat->List T)(i:Nat):List (Nat×T)->Nat->List T
 | []=>row
 |(j,t)::r=>a3b (setRow row i j [t]) i r
theorem a2F{row:Nat->List T}{i j k:Nat}{cs:List T}(h:j+cs.length<=(row k).length)(hk:k≠i):setRow row i j cs k=row k:=by
 rw[B9 h,d6V hk]
theorem a1C{row:Nat->List T}{i j:Nat}{t:T}(h:j<(row i).length):setRow row i j [t] i=(row i).set j t:=by
 rw[B9 (by simp;omega),d6Y rfl]
 rw[List.set_eq_take_append_cons_drop,if_pos h];simp
theorem a4w{i k:Nat}(hk:k≠i):∀{l:List (Nat×T)} {row:Nat->List T},(∀p ∈ l,p.1<(row k).length)->a3b row i l k=row k
 | [],row,_=>rfl
 |(j,t)::r,row,h=>by
  have h1:setRow row i j [t] k=row k:=a2F (by have:=h (j,t) (by simp);simp only[List.length_singleton];omega) hk
  show a3b (setRow row i j [t]) i r k=row k;rw[a4w hk (fun p hp=>by rw[h1];exact h p (by simp[hp])),h1]
theorem a39{i:Nat}:∀{l:List (Nat×T)} {row:Nat->List T},(∀p ∈ l,p.1<(row i).length)->a3b row i l i=l.foldl (fun c p=>c.set p.1 p.2) (row i)
 | [],row,_=>rfl
 |(j,t)::r,row,h=>by
  have h1:setRow row i j [t] i=(row i).set j t:=a1C (h (j,t) (by simp))
  show a3b (setRow row i j [t]) i r i=r.foldl (fun c p=>c.set p.1 p.2) ((row i).set j t)
  rw[a39 (fun p hp=>by rw[h1,List.length_set];exact h p (by simp[hp])),h1]
theorem a0f{new old:Nat->List T}{m:Nat}(hn:∀j,(new j).length=m)(ho:∀j,(old j).length=m)(x:Nat)(l:List (Nat×T))(hl:∀p ∈ l,p.1<m)(hc:l.foldl (fun c p=>c.set p.1 p.2) (old x)=new x)(j:Nat):a3b (B7 new old x) (0+(x:Int).toNat) l j=B7 new old (x+1) j:=by
 have hw:∀j,(B7 new old x j).length=m:=fun j=>by unfold B7;split<;>simp only[hn,ho]
 have hx:0+(x:Int).toNat=x:=by omega
 rw[hx];refine b1p (f:=a3b (B7 new old x) x l) (fun i hi=> ?_) ?_ j
 ·exact a4w hi fun p hp=>by rw[hw];exact hl p hp
 ·rw[a39 fun p hp=>by rw[hw];exact hl p hp,show B7 new old x x=old x by unfold B7;rw[if_neg (Nat.lt_irrefl x)],hc]
def b4F:Con:=.reff ⟨List Int×Nat,fun x=>[.osl 0 0 x.1.length,.int .i64 x.2],fun x=>[C9 x.1],fun x=>.int .i64 (x.2+x.1.length:Nat),fun x=>[C9 (m8 x.1.length x.2)],fun x=>KBn x.1.length x.2 1⟩
def b37(L:List Int)(k:Nat):Nat->Ann
 |0=>.one {i:Nat//i<=L.length} (fun x=>⟨[(0,.osl 0 0 L.length),(1,.int .i64 (k+x.1:Nat)),(5,.int .i64 x.1)],[some (.arr true 0 1 L.length (B7 (Y7 (m8 L.length k)) (Y7 L) x.1))]⟩) (fun x=>L.length-x.1) [.arr 0] [.arr 0] (fun _=>Z0)
 |_=>.none
noncomputable def b3s:Code:=Tryz.f18.body.getD .skip
theorem a6m:Z8 Tryz.prog 18:=⟨_,Tryz.func18,by kernel_rfl,by kernel_rfl⟩
theorem b26(L:List Int)(k:Nat)(h:
  (∃(x:{i:Nat//i<=L.length}),((0=0/\L.length=L.length)/\(k:Int)=(↑(k+x.val):Int)/\(0:Int)=(x.val:Int)/\True)/\(L.length=L.length/\Z7 L.length (Y7 L) (B7 (Y7 (m8 L.length k)) (Y7 L)
  x.val))/\True)/\∀(x:{i:Nat//i<=L.length}),(decide ((x.val:Int)<(L.length:Int))=true->W7 (x.val:Int) L.length/\Lt (0+(x.val:Int).toNat) L.length/\X6 .i64 ((↑(k+x.val):Int)+(1:Int))/\X6 .i64
  ((x.val:Int)+(1:Int))/\∃(y:{i:Nat//i<=L.length}),(((0=0/\L.length=L.length)/\(↑(k+x.val):Int)+(1:Int)=(↑(k+y.val):Int)/\(x.val:Int)+(1:Int)=(y.val:Int)/\True)/\(L.length=L.length/\
  Z7 L.length (setRow (B7 (Y7 (m8 L.length k)) (Y7 L) x.val) (0+(x.val:Int).toNat) 0 [T.int .i64 (↑(k+x.val):Int)]) (B7 (Y7 (m8 L.length k)) (Y7 L) y.val))/\True)/\Lt (L.length-y.val) (L.length-
  x.val))/\(decide ((x.val:Int)<(L.length:Int))=false->((↑(k+x.val):Int)=(↑(k+L.length):Int)/\True)/\(L.length=(m8 L.length k).length/\Z7 L.length (B7 (Y7 (m8 L.length k)) (Y7 L) x.val) (Y7
  (m8 L.length k)))/\True)):
  V7 Tryz.prog 18 [.osl 0 0 L.length,.int .i64 k] [C9 L] (.int .i64 (k+L.length:Nat)) [C9 (m8 L.length k)]:=
 C4 (code:=b3s) gN Tryz.func18 (by kernel_rfl) (by kernel_rfl) (b37 L k) [[.arr 0]] h (by kernel_rfl)
theorem a9J:Z2 Tryz.prog 18 b4F:=by
 rintro⟨L,k⟩ ⟨h1,h2,h3⟩;dsimp only at h1 h2 h3;refine b26 L k ⟨⟨⟨0,Nat.zero_le _⟩,⟨⟨rfl,rfl⟩,rfl,rfl,trivial⟩,⟨rfl,s7⟩,trivial⟩,fun x=>⟨fun hc=> ?_,fun hc=> ?_⟩⟩
 ·have hlt:=Y6 hc;refine⟨Y8 hlt,by unfold Lt;omega,Z5 (by omega),Z5 (by omega),⟨x.val+1,hlt⟩,⟨⟨⟨rfl,rfl⟩,by dsimp only;omega,by dsimp only;omega,trivial⟩,⟨rfl,fun j _=> ?_⟩,trivial⟩,W5.ext_lt hlt⟩
  exact b8s (m:=1) (fun _=>rfl) (fun _=>rfl) x.val (show[T.int .i64 ((k+x.val:Nat):Int)]=Y7 (m8 L.length k) x.val by unfold Y7 m8;rw[C3 _ hlt]) j
 ·have hx:x.val=L.length:=by have:=x.2;have:=Y2 hc;omega
  rw[hx];exact⟨⟨rfl,trivial⟩,⟨(R8 _ _).symm,a0D⟩,trivial⟩
def b5w:Con:=.rel ⟨Nat×Nat,fun x=>[w4 (m8 x.1 x.2),.int .i64 x.2],fun x=>.int .i64 (x.2+x.1:Nat),fun x=>KBn x.1 x.2 1⟩
def b6z(n k:Nat):Nat->Ann
 |0=>.one {i:Nat//i<=n} (fun x=>⟨[(0,w4 (m8 n k)),(1,.int .i64 (k+x.1:Nat)),(5,.int .i64 x.1)],[]⟩) (fun x=>n-x.1) [] [] (fun _=>Z0)
 |_=>.none
noncomputable def b3x:Code:=Tryz.f178.body.getD .skip
theorem a5J:Z8 Tryz.prog 178:=⟨_,Tryz.func178,by kernel_rfl,by kernel_rfl⟩
theorem b3t(n k:Nat)(h:
  (∃(x:{i:Nat//i<=n}),((Y3 Y7 (m8 n k) (m8 n k))/\(k:Int)=(↑(k+x.val):Int)/\(0:Int)=(x.val:Int)/\True)/\True)/\∀(x:{i:Nat//i<=n}),(decide ((x.val:Int)<(↑(m8 n k).length:Int))=true->
  W7 (x.val:Int) (m8 n k).length/\(((m8 n k).getD (x.val:Int).toNat (0:Int) !=(↑(k+x.val):Int))=true->(-1:Int)=(↑(k+n):Int))/\(((m8 n k).getD (x.val:Int).toNat (0:Int) !=(↑(k+x.val):Int))=false->X6
  .i64 ((↑(k+x.val):Int)+(1:Int))/\X6 .i64 ((x.val:Int)+(1:Int))/\∃(y:{i:Nat//i<=n}),(((Y3 Y7 (m8 n k) (m8 n k))/\(↑(k+x.val):Int)+(1:Int)=(↑(k+y.val):Int)/\(x.val:Int)+(1:Int)=
  (y.val:Int)/\True)/\True)/\Lt (n-y.val) (n-x.val)))/\(decide ((x.val:Int)<(↑(m8 n k).length:Int))=false->(↑(k+x.val):Int)=(↑(k+n):Int))):
  Z1 Tryz.prog 178 [w4 (m8 n k),.int .i64 k] (.int .i64 (k+n:Nat)):=
 T7 (code:=b3x) gN Tryz.func178 (by kernel_rfl) (by kernel_rfl) (b6z n k) h (by kernel_rfl)
theorem b1w:Z2 Tryz.prog 178 b5w:=by
 rintro⟨n,k⟩ ⟨h1,h2,h3⟩;dsimp only at h1 h2 h3;have hn:(m8 n k).length=n:=R8 _ _;refine b3t n k ⟨⟨⟨0,Nat.zero_le _⟩,⟨⟨rfl,Z9 _ _⟩,rfl,rfl,trivial⟩,trivial⟩,fun x=>⟨fun hc=> ?_,fun hc=> ?_⟩⟩
 ·have hlt:=Y6 hc;have hlt':x.val<n:=by omega
  have e:(m8 n k).getD (x.val:Int).toNat 0=((k+x.val:Nat):Int):=by rw[Int.toNat_natCast];exact C3 _ hlt' _
  exact⟨Y8 hlt,fun h=>by rw[e] at h;simp at h,fun _=>⟨Z5 (by omega),Z5 (by omega),⟨x.val+1,hlt'⟩,⟨⟨⟨rfl,Z9 _ _⟩,by dsimp only;omega,by dsimp only;omega,trivial⟩,trivial⟩,W5.ext_lt hlt'⟩⟩
 ·have hx:x.val=n:=by have:=x.2;have:=Y2 hc;omega
  rw[hx]
def b0Z:Con:=.reff ⟨List Pend×Nat,fun x=>[.osl 0 0 x.1.length,.int .i64 x.2],fun x=>[J4 x.1],fun x=>.int .i64 (x.2+2*x.1.length:Nat),fun x=>[J4 (u4 x.1.length x.2)],fun x=>KBn x.1.length x.2 2⟩
def b02(L:List Pend)(k:Nat):Nat->Ann
 |0=>.one {i:Nat//i<=L.length} (fun x=>⟨[(0,.osl 0 0 L.length),(1,.int .i64 (k+2*x.1:Nat)),(5,.int .i64 x.1)],[some (.arr true 0 2 L.length (B7 (Z3 (u4 L.length k)) (Z3 L) x.1))]⟩) (fun x=>L.length-x.1) [.arr 0] [.arr 0] (fun _=>Z0)
 |_=>.none
noncomputable def b00:Code:=Tryz.f174.body.getD .skip
theorem a4O:Z8 Tryz.prog 174:=⟨_,Tryz.func174,by kernel_rfl,by kernel_rfl⟩
theorem b22(L:List Pend)(k:Nat)(h:
  (∃(x:{i:Nat//i<=L.length}),((0=0/\L.length=L.length)/\(k:Int)=(↑(k+2*x.val):Int)/\(0:Int)=(x.val:Int)/\True)/\(L.length=L.length/\Z7 L.length (Z3 L) (B7 (Z3 (u4 L.length k))
  (Z3 L) x.val))/\True)/\∀(x:{i:Nat//i<=L.length}),(decide ((x.val:Int)<(L.length:Int))=true->W7 (x.val:Int) L.length/\Lt (0+(x.val:Int).toNat) L.length/\X6 .i64 ((↑(k+2*x.val):Int)+(1:Int))/\
  ∃(x_1:Nat),(((↑(k+2*x.val):Int)+(1:Int)=(x_1:Int)/\True)/\KB x_1)/\W7 (x.val:Int) L.length/\Lt (0+(x.val:Int).toNat) L.length/\X6 .i64 ((↑(k+2*x.val):Int)+(1:Int)+(1:Int))/\X6 .i64
  ((x.val:Int)+(1:Int))/\∃(y:{i:Nat//i<=L.length}),(((0=0/\L.length=L.length)/\(↑(k+2*x.val):Int)+(1:Int)+(1:Int)=(↑(k+2*y.val):Int)/\(x.val:Int)+(1:Int)=(y.val:Int)/\True)/\
  (L.length=L.length/\Z7 L.length (setRow (setRow (B7 (Z3 (u4 L.length k)) (Z3 L) x.val) (0+(x.val:Int).toNat) 0 [T.int .i64 (↑(k+2*x.val):Int)]) (0+(x.val:Int).toNat) 1 [T.str (mkT x_1)]) (B7 (Z3
  (u4 L.length k)) (Z3 L) y.val))/\True)/\Lt (L.length-y.val) (L.length-x.val))/\(decide ((x.val:Int)<(L.length:Int))=false->((↑(k+2*x.val):Int)=(↑(k+2*L.length):Int)/\True)/\(L.length=(u4
  L.length k).length/\Z7 L.length (B7 (Z3 (u4 L.length k)) (Z3 L) x.val) (Z3 (u4 L.length k)))/\True)):
  V7 Tryz.prog 174 [.osl 0 0 L.length,.int .i64 k] [J4 L] (.int .i64 (k+2*L.length:Nat)) [J4 (u4 L.length k)]:=
 C4 (code:=b00) (gC D9 J3 gN) Tryz.func174 (by kernel_rfl) (by kernel_rfl) (b02 L k) [[.arr 0]] h (by kernel_rfl)
theorem a8Y:Z2 Tryz.prog 174 b0Z:=by
 rintro⟨L,k⟩ ⟨h1,h2,h3⟩;dsimp only at h1 h2 h3;refine b22 L k ⟨⟨⟨0,Nat.zero_le _⟩,⟨⟨rfl,rfl⟩,rfl,rfl,trivial⟩,⟨rfl,s7⟩,trivial⟩,fun x=>⟨fun hc=> ?_,fun hc=> ?_⟩⟩
 ·have hlt:=Y6 hc;have ib:=Y8 hlt;have lt:Lt (0+(x.val:Int).toNat) L.length:=by unfold Lt;omega
  refine⟨ib,lt,Z5 (by omega),k+2*x.val+1,⟨⟨by omega,trivial⟩,by omega,by omega⟩,ib,lt,Z5 (by omega),Z5 (by omega),⟨x.val+1,hlt⟩,⟨⟨⟨rfl,rfl⟩,by dsimp only;omega,by dsimp only;omega,trivial⟩,⟨rfl,fun j _=> ?_⟩,trivial⟩,W5.ext_lt hlt⟩
  exact a0f (m:=2) (fun _=>rfl) (fun _=>rfl) x.val [(0,.int .i64 (k+2*x.val:Nat)),(1,.str (mkT (k+2*x.val+1)))] (by simp) (by unfold Z3 u4;rw[C3 _ hlt];rfl) j
 ·have hx:x.val=L.length:=by have:=x.2;have:=Y2 hc;omega
  rw[hx];exact⟨⟨rfl,trivial⟩,⟨(R8 _ _).symm,a0D⟩,trivial⟩
def b0J:Con:=.rel ⟨Nat×Nat,fun x=>[M0 (u4 x.1 x.2),.int .i64 x.2],fun x=>.int .i64 (x.2+2*x.1:Nat),fun x=>KBn x.1 x.2 2⟩
def b2o(n k:Nat):Nat->Ann
 |0=>.one {i:Nat//i<=n} (fun x=>⟨[(0,M0 (u4 n k)),(1,.int .i64 (k+2*x.1:Nat)),(5,.int .i64 x.1)],[]⟩) (fun x=>n-x.1) [] [] (fun _=>Z0)
 |_=>.none
noncomputable def b2N:Code:=Tryz.f177.body.getD .skip
theorem a4u:Z8 Tryz.prog 177:=⟨_,Tryz.func177,by kernel_rfl,by kernel_rfl⟩
theorem b2w(n k:Nat)(h:
  (∃(x:{i:Nat//i<=n}),((Y3 Z3 (u4 n k) (u4 n k))/\(k:Int)=(↑(k+2*x.val):Int)/\(0:Int)=(x.val:Int)/\True)/\True)/\∀(x:{i:Nat//i<=n}),(decide ((x.val:Int)<(↑(u4 n k).length:Int))=
  true->W7 (x.val:Int) (u4 n k).length/\((((u4 n k).getD (x.val:Int).toNat default).at_ !=(↑(k+2*x.val):Int))=true->(-1:Int)=(↑(k+2*n):Int))/\((((u4 n k).getD (x.val:Int).toNat default).at_ !=(↑(k+2*
  x.val):Int))=false->X6 .i64 ((↑(k+2*x.val):Int)+(1:Int))/\W7 (x.val:Int) (u4 n k).length/\∃(x_1:Nat),(((↑(k+2*x.val):Int)+(1:Int)=(x_1:Int)/\True)/\KB x_1)/\((!((u4 n k).getD
  (x.val:Int).toNat default).d==mkT x_1)=true->(-1:Int)=(↑(k+2*n):Int))/\((!((u4 n k).getD (x.val:Int).toNat default).d==mkT x_1)=false->X6 .i64 ((↑(k+2*x.val):Int)+(1:Int)+(1:Int))/\X6 .i64
  ((x.val:Int)+(1:Int))/\∃(y:{i:Nat//i<=n}),(((Y3 Z3 (u4 n k) (u4 n k))/\(↑(k+2*x.val):Int)+(1:Int)+(1:Int)=(↑(k+2*y.val):Int)/\(x.val:Int)+(1:Int)=(y.val:Int)/\True)/\True)/\
  Lt (n-y.val) (n-x.val))))/\(decide ((x.val:Int)<(↑(u4 n k).length:Int))=false->(↑(k+2*x.val):Int)=(↑(k+2*n):Int))):
  Z1 Tryz.prog 177 [M0 (u4 n k),.int .i64 k] (.int .i64 (k+2*n:Nat)):=
 T7 (code:=b2N) (gC D9 J3 gN) Tryz.func177 (by kernel_rfl) (by kernel_rfl) (b2o n k) h (by kernel_rfl)
theorem a7a:Z2 Tryz.prog 177 b0J:=by
 rintro⟨n,k⟩ ⟨h1,h2,h3⟩;dsimp only at h1 h2 h3;have hn:(u4 n k).length=n:=R8 _ _;refine b2w n k ⟨⟨⟨0,Nat.zero_le _⟩,⟨⟨rfl,Z9 _ _⟩,rfl,rfl,trivial⟩,trivial⟩,fun x=>⟨fun hc=> ?_,fun hc=> ?_⟩⟩
 ·have hlt:=Y6 hc;have hlt':x.val<n:=by omega
  have e:(u4 n k).getD (x.val:Int).toNat default=⟨((k+2*x.val:Nat):Int),mkT (k+2*x.val+1)⟩:=by rw[Int.toNat_natCast];exact C3 _ hlt' _
  rw[e];have ib:=Y8 hlt;exact⟨ib,fun h=>by simp at h,fun _=>⟨Z5 (by omega),ib,k+2*x.val+1,⟨⟨by omega,trivial⟩,by omega,by omega⟩,fun h=>by simp at h,fun _=>⟨Z5 (by omega),Z5 (by omega),⟨x.val+1,hlt'⟩,⟨⟨⟨rfl,Z9 _ _⟩,by dsimp only;omega,by dsimp only;omega,trivial⟩,trivial⟩,W5.ext_lt hlt'⟩⟩⟩
 ·have hx:x.val=n:=by have:=x.2;have:=Y2 hc;omega
  rw[hx]
def b3D:Con:=.reff ⟨List Rec×Nat,fun x=>[.osl 0 0 x.1.length,.int .i64 x.2],fun x=>[A1 x.1],fun x=>.int .i64 (x.2+10*x.1.length:Nat),fun x=>[A1 (F8 x.1.length x.2)],fun x=>KBn x.1.length x.2 10⟩
def b4X(L:List Rec)(k:Nat):Nat->Ann
 |0=>.one {i:Nat//i<=L.length} (fun x=>⟨[(0,.osl 0 0 L.length),(1,.int .i64 (k+10*x.1:Nat)),(5,.int .i64 x.1)],[some (.arr true 0 10 L.length (B7 (Y4 (F8 L.length k)) (Y4 L) x.1))]⟩) (fun x=>L.length-x.1) [.arr 0] [.arr 0] (fun _=>Z0)
 |_=>.none
noncomputable def b46:Code:=Tryz.f100.body.getD .skip
theorem a5P:Z8 Tryz.prog 100:=⟨_,Tryz.func100,by kernel_rfl,by kernel_rfl⟩
theorem b5y(L:List Rec)(k:Nat)(h:
  (∃(x:{i:Nat//i<=L.length}),((0=0/\L.length=L.length)/\(k:Int)=(↑(k+10*x.val):Int)/\(0:Int)=(x.val:Int)/\True)/\(L.length=L.length/\Z7 L.length (Y4 L) (B7 (Y4 (F8 L.length k))
  (Y4 L) x.val))/\True)/\∀(x:{i:Nat//i<=L.length}),(decide ((x.val:Int)<(L.length:Int))=true->W7 (x.val:Int) L.length/\Lt (0+(x.val:Int).toNat) L.length/\X6 .i64 ((↑(k+10*x.val):Int)+(1:Int))/\
  W7 (x.val:Int) L.length/\Lt (0+(x.val:Int).toNat) L.length/\X6 .i64 ((↑(k+10*x.val):Int)+(1:Int)+(1:Int))/\W7 (x.val:Int) L.length/\Lt (0+(x.val:Int).toNat) L.length/\X6 .i64 ((↑(k+10*x.val):Int)+
  (1:Int)+(1:Int)+(1:Int))/\W7 (x.val:Int) L.length/\Lt (0+(x.val:Int).toNat) L.length/\X6 .i64 ((↑(k+10*x.val):Int)+(1:Int)+(1:Int)+(1:Int)+(1:Int))/\W7 (x.val:Int) L.length/\Lt (0+
  (x.val:Int).toNat) L.length/\X6 .i64 ((↑(k+10*x.val):Int)+(1:Int)+(1:Int)+(1:Int)+(1:Int)+(1:Int))/\W7 (x.val:Int) L.length/\Lt (0+(x.val:Int).toNat) L.length/\X6 .i64 ((↑(k+10*x.val):Int)
  +(1:Int)+(1:Int)+(1:Int)+(1:Int)+(1:Int)+(1:Int))/\W7 (x.val:Int) L.length/\Lt (0+(x.val:Int).toNat) L.length/\X6 .i64 ((↑(k+10*x.val):Int)+(1:Int)+(1:Int)+(1:Int)+(1:Int)+(1:
  Int)+(1:Int)+(1:Int))/\W7 (x.val:Int) L.length/\Lt (0+(x.val:Int).toNat) L.length/\X6 .i64 ((↑(k+10*x.val):Int)+(1:Int)+(1:Int)+(1:Int)+(1:Int)+(1:Int)+(1:Int)+(1:Int)+(1:Int))
  /\∃(x_1:Nat),(((↑(k+10*x.val):Int)+(1:Int)+(1:Int)+(1:Int)+(1:Int)+(1:Int)+(1:Int)+(1:Int)+(1:Int)=(x_1:Int)/\True)/\KB x_1)/\W7 (x.val:Int) L.length/\Lt (0+(x.val:Int).toNat)
  L.length/\X6 .i64 ((↑(k+10*x.val):Int)+(1:Int)+(1:Int)+(1:Int)+(1:Int)+(1:Int)+(1:Int)+(1:Int)+(1:Int)+(1:Int))/\∃(x_2:Nat),(((↑(k+10*x.val):Int)+(1:Int)+(1:Int)+(1
  :Int)+(1:Int)+(1:Int)+(1:Int)+(1:Int)+(1:Int)+(1:Int)=(x_2:Int)/\True)/\KB x_2)/\W7 (x.val:Int) L.length/\Lt (0+(x.val:Int).toNat) L.length/\X6 .i64 ((↑(k+10*x.val):Int)+(1:Int)+(1:
  Int)+(1:Int)+(1:Int)+(1:Int)+(1:Int)+(1:Int)+(1:Int)+(1:Int)+(1:Int))/\X6 .i64 ((x.val:Int)+(1:Int))/\∃(y:{i:Nat//i<=L.length}),(((0=0/\L.length=L.length)/\(↑(k+10*x.val)
  :Int)+(1:Int)+(1:Int)+(1:Int)+(1:Int)+(1:Int)+(1:Int)+(1:Int)+(1:Int)+(1:Int)+(1:Int)=(↑(k+10*y.val):Int)/\(x.val:Int)+(1:Int)=(y.val:Int)/\True)/\(L.length=L.length/\
  Z7 L.length (setRow (setRow (setRow (setRow (setRow (setRow (setRow (setRow (setRow (setRow (B7 (Y4 (F8 L.length k)) (Y4 L) x.val) (0+(x.val:Int).toNat) 0 [T.int .i64 (↑(k+10*x.val):Int)]) (0+
  (x.val:Int).toNat) 1 [T.int .i64 ((↑(k+10*x.val):Int)+(1:Int))]) (0+(x.val:Int).toNat) 2 [T.int .i64 ((↑(k+10*x.val):Int)+(1:Int)+(1:Int))]) (0+(x.val:Int).toNat) 3 [T.int .i64 ((↑(k+10*x.val):
  Int)+(1:Int)+(1:Int)+(1:Int))]) (0+(x.val:Int).toNat) 4 [T.int .i64 ((↑(k+10*x.val):Int)+(1:Int)+(1:Int)+(1:Int)+(1:Int))]) (0+(x.val:Int).toNat) 5 [T.int .i64 ((↑(k+10*x.val):Int)+(1
  :Int)+(1:Int)+(1:Int)+(1:Int)+(1:Int))]) (0+(x.val:Int).toNat) 6 [T.int .i64 ((↑(k+10*x.val):Int)+(1:Int)+(1:Int)+(1:Int)+(1:Int)+(1:Int)+(1:Int))]) (0+(x.val:Int).toNat) 7 [T.int
  .i64 ((↑(k+10*x.val):Int)+(1:Int)+(1:Int)+(1:Int)+(1:Int)+(1:Int)+(1:Int)+(1:Int))]) (0+(x.val:Int).toNat) 8 [T.str (mkT x_1)]) (0+(x.val:Int).toNat) 9 [T.str (mkT x_2)]) (B7 (Y4 (F8
  L.length k)) (Y4 L) y.val))/\True)/\Lt (L.length-y.val) (L.length-x.val))/\(decide ((x.val:Int)<(L.length:Int))=false->((↑(k+10*x.val):Int)=(↑(k+10*L.length):Int)/\True)/\(L.length=(F8 L.length
  k).length/\Z7 L.length (B7 (Y4 (F8 L.length k)) (Y4 L) x.val) (Y4 (F8 L.length k)))/\True)):
  V7 Tryz.prog 100 [.osl 0 0 L.length,.int .i64 k] [A1 L] (.int .i64 (k+10*L.length:Nat)) [A1 (F8 L.length k)]:=
 C4 (code:=b46) (gC D9 J3 gN) Tryz.func100 (by kernel_rfl) (by kernel_rfl) (b4X L k) [[.arr 0]] h (by kernel_rfl)
theorem b2Z:Z2 Tryz.prog 100 b3D:=by
 rintro⟨L,k⟩ ⟨h1,h2,h3⟩;dsimp only at h1 h2 h3;refine b5y L k ⟨⟨⟨0,Nat.zero_le _⟩,⟨⟨rfl,rfl⟩,rfl,rfl,trivial⟩,⟨rfl,s7⟩,trivial⟩,fun x=>⟨fun hc=> ?_,fun hc=> ?_⟩⟩
 ·have hlt:=Y6 hc;have ib:=Y8 hlt;have lt:Lt (0+(x.val:Int).toNat) L.length:=by unfold Lt;omega
  refine⟨ib,lt,Z5 (by omega),ib,lt,Z5 (by omega),ib,lt,Z5 (by omega),ib,lt,Z5 (by omega),ib,lt,Z5 (by omega),ib,lt,Z5 (by omega),ib,lt,Z5 (by omega),ib,lt,Z5 (by omega),k+10*x.val+8,⟨⟨by omega,trivial⟩,by omega,by omega⟩,ib,lt,Z5 (by omega),k+10*x.val+9,⟨⟨by omega,trivial⟩,by omega,by omega⟩,ib,lt,Z5 (by omega),Z5 (by omega),⟨x.val+1,hlt⟩,⟨⟨⟨rfl,rfl⟩,by dsimp only;omega,by dsimp only;omega,trivial⟩,⟨rfl,fun j _=> ?_⟩,trivial⟩,W5.ext_lt hlt⟩
  exact a0f (m:=10) (fun _=>rfl) (fun _=>rfl) x.val [(0,.int .i64 (((k+10*x.val:Nat):Int))),(1,.int .i64 (((k+10*x.val:Nat):Int)+1)),(2,.int .i64 (((k+10*x.val:Nat):Int)+1+1)),(3,.int .i64 (((k+10*x.val:Nat):Int)+1+1+1)),(4,.int .i64 (((k+10*x.val:Nat):Int)+1+1+1+1)),(5,.int .i64 (((k+10*x.val:Nat):Int)+1+1+1+1+1)),(6,.int .i64 (((k+10*x.val:Nat):Int)+1+1+1+1+1+1)),(7,.int .i64 (((k+10*x.val:Nat):Int)+1+1+1+1+1+1+1)),(8,.str (mkT (k+10*x.val+8))),(9,.str (mkT (k+10*x.val+9)))] (by simp) (by unfold Y4 F8;rw[C3 _ hlt];rfl) j
 ·have hx:x.val=L.length:=by have:=x.2;have:=Y2 hc;omega
  rw[hx];exact⟨⟨rfl,trivial⟩,⟨(R8 _ _).symm,a0D⟩,trivial⟩
def b4U:Con:=.rel ⟨Nat×Nat,fun x=>[G3 (F8 x.1 x.2),.int .i64 x.2],fun x=>.int .i64 (x.2+10*x.1:Nat),fun x=>KBn x.1 x.2 10⟩
def b5b(n k:Nat):Nat->Ann
 |0=>.one {i:Nat//i<=n} (fun x=>⟨[(0,G3 (F8 n k)),(1,.int .i64 (k+10*x.1:Nat)),(5,.int .i64 x.1)],[]⟩) (fun x=>n-x.1) [] [] (fun _=>Z0)
 |_=>.none
noncomputable def b4y:Code:=Tryz.f105.body.getD .skip
theorem a5L:Z8 Tryz.prog 105:=⟨_,Tryz.func105,by kernel_rfl,by kernel_rfl⟩
theorem b5u(n k:Nat)(h:
  (∃(x:{i:Nat//i<=n}),((Y3 Y4 (F8 n k) (F8 n k))/\(k:Int)=(↑(k+10*x.val):Int)/\(0:Int)=(x.val:Int)/\True)/\True)/\∀(x:{i:Nat//i<=n}),(decide ((x.val:Int)<(↑(F8 n k).length:Int))=
  true->W7 (x.val:Int) (F8 n k).length/\((((F8 n k).getD (x.val:Int).toNat default).e !=(↑(k+10*x.val):Int))=true->(-1:Int)=(↑(k+10*n):Int))/\((((F8 n k).getD (x.val:Int).toNat default).e !=(↑(k+10*
  x.val):Int))=false->X6 .i64 ((↑(k+10*x.val):Int)+(1:Int))/\W7 (x.val:Int) (F8 n k).length/\((((F8 n k).getD (x.val:Int).toNat default).l !=(↑(k+10*x.val):Int)+(1:Int))=true->(-1:Int)=(↑(k+
  10*n):Int))/\((((F8 n k).getD (x.val:Int).toNat default).l !=(↑(k+10*x.val):Int)+(1:Int))=false->X6 .i64 ((↑(k+10*x.val):Int)+(1:Int)+(1:Int))/\W7 (x.val:Int) (F8 n k).length/\((((F8 n
  k).getD (x.val:Int).toNat default).t !=(↑(k+10*x.val):Int)+(1:Int)+(1:Int))=true->(-1:Int)=(↑(k+10*n):Int))/\((((F8 n k).getD (x.val:Int).toNat default).t !=(↑(k+10*x.val):Int)+(1:Int)+(1
  :Int))=false->X6 .i64 ((↑(k+10*x.val):Int)+(1:Int)+(1:Int)+(1:Int))/\W7 (x.val:Int) (F8 n k).length/\((((F8 n k).getD (x.val:Int).toNat default).k !=(↑(k+10*x.val):Int)+(1:Int)+(1:Int)+
  (1:Int))=true->(-1:Int)=(↑(k+10*n):Int))/\((((F8 n k).getD (x.val:Int).toNat default).k !=(↑(k+10*x.val):Int)+(1:Int)+(1:Int)+(1:Int))=false->X6 .i64 ((↑(k+10*x.val):Int)+(1:Int)+
  (1:Int)+(1:Int)+(1:Int))/\W7 (x.val:Int) (F8 n k).length/\((((F8 n k).getD (x.val:Int).toNat default).p !=(↑(k+10*x.val):Int)+(1:Int)+(1:Int)+(1:Int)+(1:Int))=true->(-1:Int)=(↑(k+10*
  n):Int))/\((((F8 n k).getD (x.val:Int).toNat default).p !=(↑(k+10*x.val):Int)+(1:Int)+(1:Int)+(1:Int)+(1:Int))=false->X6 .i64 ((↑(k+10*x.val):Int)+(1:Int)+(1:Int)+(1:Int)+(1:
  Int)+(1:Int))/\W7 (x.val:Int) (F8 n k).length/\((((F8 n k).getD (x.val:Int).toNat default).n !=(↑(k+10*x.val):Int)+(1:Int)+(1:Int)+(1:Int)+(1:Int)+(1:Int))=true->(-1:Int)=(↑(k+10*n):
  Int))/\((((F8 n k).getD (x.val:Int).toNat default).n !=(↑(k+10*x.val):Int)+(1:Int)+(1:Int)+(1:Int)+(1:Int)+(1:Int))=false->X6 .i64 ((↑(k+10*x.val):Int)+(1:Int)+(1:Int)+(1:Int)+
  (1:Int)+(1:Int)+(1:Int))/\W7 (x.val:Int) (F8 n k).length/\((((F8 n k).getD (x.val:Int).toNat default).g !=(↑(k+10*x.val):Int)+(1:Int)+(1:Int)+(1:Int)+(1:Int)+(1:Int)+(1:Int))=true->
  (-1:Int)=(↑(k+10*n):Int))/\((((F8 n k).getD (x.val:Int).toNat default).g !=(↑(k+10*x.val):Int)+(1:Int)+(1:Int)+(1:Int)+(1:Int)+(1:Int)+(1:Int))=false->X6 .i64 ((↑(k+10*x.val):
  Int)+(1:Int)+(1:Int)+(1:Int)+(1:Int)+(1:Int)+(1:Int)+(1:Int))/\W7 (x.val:Int) (F8 n k).length/\((((F8 n k).getD (x.val:Int).toNat default).s !=(↑(k+10*x.val):Int)+(1:Int)+(1:Int)+
  (1:Int)+(1:Int)+(1:Int)+(1:Int)+(1:Int))=true->(-1:Int)=(↑(k+10*n):Int))/\((((F8 n k).getD (x.val:Int).toNat default).s !=(↑(k+10*x.val):Int)+(1:Int)+(1:Int)+(1:Int)+(1:Int)
  +(1:Int)+(1:Int)+(1:Int))=false->X6 .i64 ((↑(k+10*x.val):Int)+(1:Int)+(1:Int)+(1:Int)+(1:Int)+(1:Int)+(1:Int)+(1:Int)+(1:Int))/\W7 (x.val:Int) (F8 n k).length/\∃(x_1:
  Nat),(((↑(k+10*x.val):Int)+(1:Int)+(1:Int)+(1:Int)+(1:Int)+(1:Int)+(1:Int)+(1:Int)+(1:Int)=(x_1:Int)/\True)/\KB x_1)/\((!((F8 n k).getD (x.val:Int).toNat default).b==mkT x_1)=true->
  (-1:Int)=(↑(k+10*n):Int))/\((!((F8 n k).getD (x.val:Int).toNat default).b==mkT x_1)=false->X6 .i64 ((↑(k+10*x.val):Int)+(1:Int)+(1:Int)+(1:Int)+(1:Int)+(1:Int)+(1:Int)+(1:Int)+
  (1:Int)+(1:Int))/\W7 (x.val:Int) (F8 n k).length/\∃(x_2:Nat),(((↑(k+10*x.val):Int)+(1:Int)+(1:Int)+(1:Int)+(1:Int)+(1:Int)+(1:Int)+(1:Int)+(1:Int)+(1:Int)=(x_2:Int)/\True)
  /\KB x_2)/\((!((F8 n k).getD (x.val:Int).toNat default).a==mkT x_2)=true->(-1:Int)=(↑(k+10*n):Int))/\((!((F8 n k).getD (x.val:Int).toNat default).a==mkT x_2)=false->X6 .i64 ((↑(k+10*x.val):Int)+(1
  :Int)+(1:Int)+(1:Int)+(1:Int)+(1:Int)+(1:Int)+(1:Int)+(1:Int)+(1:Int)+(1:Int))/\X6 .i64 ((x.val:Int)+(1:Int))/\∃(y:{i:Nat//i<=n}),(((Y3 Y4 (F8 n k) (F8 n k))/\(↑(k+
  10*x.val):Int)+(1:Int)+(1:Int)+(1:Int)+(1:Int)+(1:Int)+(1:Int)+(1:Int)+(1:Int)+(1:Int)+(1:Int)=(↑(k+10*y.val):Int)/\(x.val:Int)+(1:Int)=(y.val:Int)/\True)/\True)/\Lt (n
  -y.val) (n-x.val))))))))))))/\(decide ((x.val:Int)<(↑(F8 n k).length:Int))=false->(↑(k+10*x.val):Int)=(↑(k+10*n):Int))):
  Z1 Tryz.prog 105 [G3 (F8 n k),.int .i64 k] (.int .i64 (k+10*n:Nat)):=
 T7 (code:=b4y) (gC D9 J3 gN) Tryz.func105 (by kernel_rfl) (by kernel_rfl) (b5b n k) h (by kernel_rfl)
theorem b1H:Z2 Tryz.prog 105 b4U:=by
 rintro⟨n,k⟩ ⟨h1,h2,h3⟩;dsimp only at h1 h2 h3;have hn:(F8 n k).length=n:=R8 _ _;refine b5u n k ⟨⟨⟨0,Nat.zero_le _⟩,⟨⟨rfl,Z9 _ _⟩,rfl,rfl,trivial⟩,trivial⟩,fun x=>⟨fun hc=> ?_,fun hc=> ?_⟩⟩
 ·have hlt:=Y6 hc;have hlt':x.val<n:=by omega
  have e:(F8 n k).getD (x.val:Int).toNat default=d4Q (k+10*x.val):=by rw[Int.toNat_natCast];exact C3 _ hlt' _
  rw[e];have ib:=Y8 hlt;unfold d4Q;exact⟨ib,fun h=>by simp at h,fun _=>⟨Z5 (by omega),ib,fun h=>by simp at h,fun _=>⟨Z5 (by omega),ib,fun h=>by simp at h,fun _=>⟨Z5 (by omega),ib,fun h=>by simp at h,fun _=>⟨Z5 (by omega),ib,fun h=>by simp at h,fun _=>⟨Z5 (by omega),ib,fun h=>by simp at h,fun _=>⟨Z5 (by omega),ib,fun h=>by simp at h,fun _=>⟨Z5 (by omega),ib,fun h=>by simp at h,fun _=>⟨Z5 (by omega),ib,k+10*x.val+8,⟨⟨by omega,trivial⟩,by omega,by omega⟩,fun h=>by simp at h,fun _=>⟨Z5 (by omega),ib,k+10*x.val+9,⟨⟨by omega,trivial⟩,by omega,by omega⟩,fun h=>by simp at h,fun _=>⟨Z5 (by omega),Z5 (by omega),⟨x.val+1,hlt'⟩,⟨⟨⟨rfl,Z9 _ _⟩,by dsimp only;omega,by dsimp only;omega,trivial⟩,trivial⟩,W5.ext_lt hlt'⟩⟩⟩⟩⟩⟩⟩⟩⟩⟩⟩
 ·have hx:x.val=n:=by have:=x.2;have:=Y2 hc;omega
  rw[hx]
end Go.Proofs.YtokaojbaacnngaaGreat

