/- A part of the proof. -/
import Derived.Test.YtokaojbaacnngaaGreatX1X2X3
namespace Go.Proofs.YtokaojbaacnngaaGreat
set_option maxRecDepth 100000
open Go.SS

def dig(k:Nat):UInt8:=P4 (IntKind.u8.wrap (48+(k:Int).tmod 10))
def dgs(k:Nat)(acc:List UInt8):List UInt8:=if h:k=0 then acc else dgs (k/10) (dig k::acc)
termination_by k
decreasing_by omega
theorem c3l{k:Nat}(acc:List UInt8)(h:k≠0):dgs k acc=dgs (k/10) (dig k::acc):=by
 rw[dgs];simp[h]
theorem b45(acc:List UInt8):dgs 0 acc=acc:=by
 rw[dgs];simp
def pQ(k:Nat):List UInt8:=P4 109::dgs k []
def KB(n:Nat):Prop:=1<=n/\n<=10000000000000
def a8g:Con:=.rel ⟨Nat,fun k=>[.int .i64 k],fun k=>.str (pQ k),KB⟩
def c22(k:Nat):Type:={p:Nat×List UInt8//dgs p.1 p.2=dgs k []/\p.2.length+p.1<=k}
def a4F(k:Nat):Nat->Ann
 |0=>.one (c22 k) (fun x=>⟨[(0,.int .i64 x.1.1),(3,.str x.1.2)],[]⟩) (fun x=>x.1.1) [] [] (fun _=>Z0)
 |_=>.none
noncomputable def a4X:Code:=Tryz.f175.body.getD .skip
theorem I0:Z7 Tryz.prog 175:=⟨_,Tryz.func175,by kernel_rfl,by kernel_rfl⟩
theorem a6z(k:Nat)(h:
  (decide ((k:Int)<=(0:Int))=true->[(109:UInt8),(48:UInt8)]=pQ k)/\(decide ((k:Int)<=(0:Int))=false->(∃(x:c22 k),((k:Int)=(x.val.fst:Int)/\[]=x.val.snd/\True)/\True)/\∀(x:c22 k),(decide
  ((x.val.fst:Int)>(0:Int))=true->Nz (10:Int)/\X8 .i64 ((48:Int)+(x.val.fst:Int).tmod (10:Int))/\X8 IntKind.u8 (IntKind.u8.wrap ((48:Int)+(x.val.fst:Int).tmod (10:Int)))/\Le 1 1/\Lt (1+x.val.snd.length)
  9223372036854775808/\(Nz (10:Int)/\X8 .i64 ((x.val.fst:Int).tdiv (10:Int)))/\∃(y:c22 k),(((x.val.fst:Int).tdiv (10:Int)=(y.val.fst:Int)/\List.take 1 (List.drop 0 (List.map P4 [IntKind.u8.wrap ((48:Int)+
  (x.val.fst:Int).tmod (10:Int))]))++x.val.snd=y.val.snd/\True)/\True)/\Lt y.val.fst x.val.fst)/\(decide ((x.val.fst:Int)>(0:Int))=false->Lt (1+x.val.snd.length) 9223372036854775808/\[(109:UInt8)]++x.val.snd
  =pQ k))):
  Z2 Tryz.prog 175 [.int .i64 k] (.str (pQ k)):=
 T4 (code:=a4X) gN Tryz.func175 (by kernel_rfl) (by kernel_rfl) (a4F k) h (by kernel_rfl)
theorem C9:Z1 Tryz.prog 175 a8g:=by
 rintro(k:Nat) ⟨h1,h2⟩;have hz:Nz 10:=by unfold Nz;omega
 refine a6z k ⟨fun h=>absurd (D8 h) (by omega),fun _=>⟨⟨⟨(k,[]),rfl,by simp⟩,⟨rfl,rfl,trivial⟩,trivial⟩,fun x=> ?_⟩⟩
 obtain⟨⟨q,acc⟩,hd,hl⟩:=x;dsimp only at hd hl ⊢;have t1:(q:Int).tmod 10=((q % 10:Nat):Int):=by rw[Int.tmod_eq_emod_of_nonneg (by omega)];omega
 have t2:(q:Int).tdiv 10=((q/10:Nat):Int):=by rw[Int.tdiv_eq_ediv_of_nonneg (by omega)];omega
 refine⟨fun hc=> ?_,fun hc=> ?_⟩
 ·have hq:0<q:=by have:=D8 hc;omega
  refine⟨hz,Z5 (by rw[t1];omega),T3 _,V5 _,by unfold Lt;omega,⟨hz,Z5 (by rw[t2];omega)⟩,⟨(q/10,dig q::acc),by rw[←hd];exact(c3l acc (by omega)).symm,by simp only[List.length_cons];omega⟩,⟨⟨t2,rfl,trivial⟩,trivial⟩,show q/10<q by omega⟩
 ·have hq:q=0:=by have:=yQ hc;omega
  subst hq;rw[b45] at hd;refine⟨by unfold Lt;omega,?_⟩
  rw[hd];rfl
def z8(new old:Nat->List T)(x j:Nat):List T:=if j<x then new j else old j
theorem k7{new old:Nat->List T}{n:Nat}:Z8 n old (z8 new old 0):=fun i _=>by unfold z8;rw[if_neg (J2 _)]
theorem xZ{new old:Nat->List T}{n:Nat}:Z8 n (z8 new old n) new:=fun i hi=>by unfold z8;rw[if_pos hi]
theorem a3w{new old:Nat->List T}{x:Nat}{f:Nat->List T}(h1:∀j,j≠x->f j=z8 new old x j)(h2:f x=new x)(j:Nat):f j=z8 new old (x+1) j:=by
 by_cases hj:j=x
 ·rw[hj,h2];unfold z8;rw[if_pos (Nat.lt_succ_self _)]
 ·rw[h1 j hj];unfold z8;by_cases h:j<x
  ·rw[if_pos h,if_pos (by omega)]
  ·rw[if_neg h,if_neg (by omega)]
theorem c7B{a b:Nat}(h:a≠b):Nat.beq a b=false:=by
 cases hb:Nat.beq a b with
 |false=>rfl
 |true=>exact absurd (K1 hb) h
theorem c7y{a b:Nat}(h:a=b):Nat.beq a b=true:=by subst h;exact Nat.beq_refl a
theorem a9i{new old:Nat->List T}{cs:List T}{m:Nat}(hn:∀j,(new j).length=m)(ho:∀j,(old j).length=m)(x:Nat)(hc:cs=new x)(j:Nat):setRow (z8 new old x) (0+(x:Int).toNat) 0 cs j=z8 new old (x+1) j:=by
 have hl:∀j,(z8 new old x j).length=m:=fun j=>by unfold z8;split<;>simp only[hn,ho]
 refine a3w (f:=setRow (z8 new old x) (0+(x:Int).toNat) 0 cs) (fun i hi=> ?_) ?_ j
 ·rw[c8 (by rw[hl,hc,hn]),show Nat.beq i (0+(x:Int).toNat)=false from c7B (by omega)]
 ·rw[c8 (by rw[hl,hc,hn]),show Nat.beq x (0+(x:Int).toNat)=true from c7y (by omega),hc]
def y8(n k:Nat):List (List UInt8):=(List.range n).map fun i=>pQ (k+i)
def o4(n k:Nat):List Pend:=(List.range n).map fun i=>⟨((k+2*i:Nat):Int),pQ (k+2*i+1)⟩
def j7(n k:Nat):List Int:=(List.range n).map fun i=>((k+i:Nat):Int)
def c5O(k:Nat):Rec:=⟨(k:Int),(k:Int)+1,(k:Int)+1+1,(k:Int)+1+1+1,(k:Int)+1+1+1+1,(k:Int)+1+1+1+1+1,(k:Int)+1+1+1+1+1+1,(k:Int)+1+1+1+1+1+1+1,pQ (k+8),pQ (k+9)⟩
def D9(n k:Nat):List Rec:=(List.range n).map fun i=>c5O (k+10*i)
theorem A6{α:Type}(f:Nat->α){n i:Nat}(h:i<n)(d:α):((List.range n).map f).getD i d=f i:=by
 rw[C0,sJ,List.getElem?_range h]
 rfl
theorem S0{α:Type}(f:Nat->α)(n:Nat):((List.range n).map f).length=n:=by simp
def tS(n k m:Nat):Prop:=n<=1048576/\1<=k/\k+m*n<=10000000000000
def a4z:Con:=.reff ⟨List (List UInt8)×Nat,fun x=>[.osl 0 0 x.1.length,.int .i64 x.2],fun x=>[G8 x.1],fun x=>.int .i64 (x.2+x.1.length:Nat),fun x=>[G8 (y8 x.1.length x.2)],fun x=>tS x.1.length x.2 1⟩
def a5o(L:List (List UInt8))(k:Nat):Nat->Ann
 |0=>.one {i:Nat//i<=L.length} (fun x=>⟨[(0,.osl 0 0 L.length),(1,.int .i64 (k+x.1:Nat)),(5,.int .i64 x.1)],[some (.arr true 0 1 L.length (z8 (Z6 (y8 L.length k)) (Z6 L) x.1))]⟩) (fun x=>L.length-x.1) [.arr 0] [.arr 0] (fun _=>Z0)
 |_=>.none
noncomputable def a6b:Code:=Tryz.f173.body.getD .skip
theorem vL:Z7 Tryz.prog 173:=⟨_,Tryz.func173,by kernel_rfl,by kernel_rfl⟩
theorem a8E(L:List (List UInt8))(k:Nat)(h:
  (∃(x:{i:Nat//i<=L.length}),((0=0/\L.length=L.length)/\(k:Int)=(↑(k+x.val):Int)/\(0:Int)=(x.val:Int)/\True)/\(L.length=L.length/\Z8 L.length (Z6 L) (z8 (Z6 (y8 L.length k)) (Z6 L)
  x.val))/\True)/\∀(x:{i:Nat//i<=L.length}),(decide ((x.val:Int)<(L.length:Int))=true->∃(x_1:Nat),(((↑(k+x.val):Int)=(x_1:Int)/\True)/\KB x_1)/\X0 (x.val:Int) L.length/\Lt (0+(x.val:Int).toNat)
  L.length/\X8 .i64 ((↑(k+x.val):Int)+(1:Int))/\X8 .i64 ((x.val:Int)+(1:Int))/\∃(y:{i:Nat//i<=L.length}),(((0=0/\L.length=L.length)/\(↑(k+x.val):Int)+(1:Int)=(↑(k+y.val):Int)/\
  (x.val:Int)+(1:Int)=(y.val:Int)/\True)/\(L.length=L.length/\Z8 L.length (setRow (z8 (Z6 (y8 L.length k)) (Z6 L) x.val) (0+(x.val:Int).toNat) 0 [T.str (pQ x_1)]) (z8 (Z6 (y8 L.length k)) (Z6 L)
  y.val))/\True)/\Lt (L.length-y.val) (L.length-x.val))/\(decide ((x.val:Int)<(L.length:Int))=false->((↑(k+x.val):Int)=(↑(k+L.length):Int)/\True)/\(L.length=(y8 L.length k).length/\Z8 L.length (z8
  (Z6 (y8 L.length k)) (Z6 L) x.val) (Z6 (y8 L.length k)))/\True)):
  V3 Tryz.prog 173 [.osl 0 0 L.length,.int .i64 k] [G8 L] (.int .i64 (k+L.length:Nat)) [G8 (y8 L.length k)]:=
 v5 (code:=a6b) (gC C9 I0 gN) Tryz.func173 (by kernel_rfl) (by kernel_rfl) (a5o L k) [[.arr 0]] h (by kernel_rfl)
theorem qJ:Z1 Tryz.prog 173 a4z:=by
 rintro⟨L,k⟩ ⟨h1,h2,h3⟩;dsimp only at h1 h2 h3;refine a8E L k ⟨⟨⟨0,T0 _⟩,⟨⟨rfl,rfl⟩,rfl,rfl,trivial⟩,⟨rfl,k7⟩,trivial⟩,fun x=>⟨fun hc=> ?_,fun hc=> ?_⟩⟩
 ·have hlt:=Y9 hc;refine⟨k+x.val,⟨⟨rfl,trivial⟩,by omega,by omega⟩,Y7 hlt,by unfold Lt;omega,Z5 (by omega),Z5 (by omega),⟨x.val+1,hlt⟩,⟨⟨⟨rfl,rfl⟩,by dsimp only;omega,by dsimp only;omega,trivial⟩,⟨rfl,fun j _=> ?_⟩,trivial⟩,V9.ext_lt hlt⟩
  exact a9i (m:=1) (fun _=>rfl) (fun _=>rfl) x.val (show[T.str (pQ (k+x.val))]=Z6 (y8 L.length k) x.val by unfold Z6 y8;rw[A6 _ hlt]) j
 ·have hx:x.val=L.length:=by have:=x.2;have:=Y3 hc;omega
  rw[hx];exact⟨⟨rfl,trivial⟩,⟨(S0 _ _).symm,xZ⟩,trivial⟩
def a38:Con:=.rel ⟨Nat×Nat,fun x=>[L3 (y8 x.1 x.2),.int .i64 x.2],fun x=>.int .i64 (x.2+x.1:Nat),fun x=>tS x.1 x.2 1⟩
def a6c(n k:Nat):Nat->Ann
 |0=>.one {i:Nat//i<=n} (fun x=>⟨[(0,L3 (y8 n k)),(1,.int .i64 (k+x.1:Nat)),(5,.int .i64 x.1)],[]⟩) (fun x=>n-x.1) [] [] (fun _=>Z0)
 |_=>.none
noncomputable def a6h:Code:=Tryz.f176.body.getD .skip
theorem uX:Z7 Tryz.prog 176:=⟨_,Tryz.func176,by kernel_rfl,by kernel_rfl⟩
theorem a56(n k:Nat)(h:
  (∃(x:{i:Nat//i<=n}),((Y4 Z6 (y8 n k) (y8 n k))/\(k:Int)=(↑(k+x.val):Int)/\(0:Int)=(x.val:Int)/\True)/\True)/\∀(x:{i:Nat//i<=n}),(decide ((x.val:Int)<(↑(y8 n k).length:Int))=true->
  X0 (x.val:Int) (y8 n k).length/\∃(x_1:Nat),(((↑(k+x.val):Int)=(x_1:Int)/\True)/\KB x_1)/\((!(y8 n k).getD (x.val:Int).toNat []==pQ x_1)=true->(-1:Int)=(↑(k+n):Int))/\((!(y8 n k).getD
  (x.val:Int).toNat []==pQ x_1)=false->X8 .i64 ((↑(k+x.val):Int)+(1:Int))/\X8 .i64 ((x.val:Int)+(1:Int))/\∃(y:{i:Nat//i<=n}),(((Y4 Z6 (y8 n k) (y8 n k))/\(↑(k+x.val):Int)+(1:Int)=
  (↑(k+y.val):Int)/\(x.val:Int)+(1:Int)=(y.val:Int)/\True)/\True)/\Lt (n-y.val) (n-x.val)))/\(decide ((x.val:Int)<(↑(y8 n k).length:Int))=false->(↑(k+x.val):Int)=(↑(k+n):Int))):
  Z2 Tryz.prog 176 [L3 (y8 n k),.int .i64 k] (.int .i64 (k+n:Nat)):=
 T4 (code:=a6h) (gC C9 I0 gN) Tryz.func176 (by kernel_rfl) (by kernel_rfl) (a6c n k) h (by kernel_rfl)
theorem pV:Z1 Tryz.prog 176 a38:=by
 rintro⟨n,k⟩ ⟨h1,h2,h3⟩;dsimp only at h1 h2 h3;have hn:(y8 n k).length=n:=S0 _ _;refine a56 n k ⟨⟨⟨0,T0 _⟩,⟨⟨rfl,Z9 _ _⟩,rfl,rfl,trivial⟩,trivial⟩,fun x=>⟨fun hc=> ?_,fun hc=> ?_⟩⟩
 ·have hlt:=Y9 hc;have hlt':x.val<n:=by omega
  have e:(y8 n k).getD (x.val:Int).toNat []=pQ (k+x.val):=by rw[v4];exact A6 _ hlt' _
  exact⟨Y7 hlt,k+x.val,⟨⟨rfl,trivial⟩,by omega,by omega⟩,fun h=>by rw[e] at h;simp at h,fun _=>⟨Z5 (by omega),Z5 (by omega),⟨x.val+1,hlt'⟩,⟨⟨⟨rfl,Z9 _ _⟩,by dsimp only;omega,by dsimp only;omega,trivial⟩,trivial⟩,V9.ext_lt hlt'⟩⟩
 ·have hx:x.val=n:=by have:=x.2;have:=Y3 hc;omega
  rw[hx]
end Go.Proofs.YtokaojbaacnngaaGreat

namespace Go.Proofs.YtokaojbaacnngaaGreat
set_option maxRecDepth 100000
open Go.SS

def qI(row:Nat->List T)(i:Nat):List (Nat×T)->Nat->List T
 | []=>row
 |(j,t)::r=>qI (setRow row i j [t]) i r
theorem fD{row:Nat->List T}{i j k:Nat}{cs:List T}(h:j+cs.length<=(row k).length)(hk:k≠i):setRow row i j cs k=row k:=by
 rw[A2 h,c7B hk]
theorem nD{row:Nat->List T}{i j:Nat}{t:T}(h:j<(row i).length):setRow row i j [t] i=(row i).set j t:=by
 rw[A2 (by simp;omega),c7y rfl]
 rw[List.set_eq_take_append_cons_drop,if_pos h];simp
theorem mP{i k:Nat}(hk:k≠i):∀{l:List (Nat×T)} {row:Nat->List T},(∀p ∈ l,p.1<(row k).length)->qI row i l k=row k
 | [],row,_=>rfl
 |(j,t)::r,row,h=>by
  have h1:setRow row i j [t] k=row k:=fD (by have:=h (j,t) (by simp);simp only[List.length_singleton];omega) hk
  show qI (setRow row i j [t]) i r k=row k;rw[mP hk (fun p hp=>by rw[h1];exact h p (by simp[hp])),h1]
theorem lI{i:Nat}:∀{l:List (Nat×T)} {row:Nat->List T},(∀p ∈ l,p.1<(row i).length)->qI row i l i=l.foldl (fun c p=>c.set p.1 p.2) (row i)
 | [],row,_=>rfl
 |(j,t)::r,row,h=>by
  have h1:setRow row i j [t] i=(row i).set j t:=nD (h (j,t) (by simp))
  show qI (setRow row i j [t]) i r i=r.foldl (fun c p=>c.set p.1 p.2) ((row i).set j t)
  rw[lI (fun p hp=>by rw[h1,j_l];exact h p (by simp[hp])),h1]
theorem yW{new old:Nat->List T}{m:Nat}(hn:∀j,(new j).length=m)(ho:∀j,(old j).length=m)(x:Nat)(l:List (Nat×T))(hl:∀p ∈ l,p.1<m)(hc:l.foldl (fun c p=>c.set p.1 p.2) (old x)=new x)(j:Nat):qI (z8 new old x) (0+(x:Int).toNat) l j=z8 new old (x+1) j:=by
 have hw:∀j,(z8 new old x j).length=m:=fun j=>by unfold z8;split<;>simp only[hn,ho]
 have hx:0+(x:Int).toNat=x:=by omega
 rw[hx];refine a3w (f:=qI (z8 new old x) x l) (fun i hi=> ?_) ?_ j
 ·exact mP hi fun p hp=>by rw[hw];exact hl p hp
 ·rw[lI fun p hp=>by rw[hw];exact hl p hp,show z8 new old x x=old x by unfold z8;rw[if_neg (Nat.lt_irrefl x)],hc]
def a5X:Con:=.reff ⟨List Int×Nat,fun x=>[.osl 0 0 x.1.length,.int .i64 x.2],fun x=>[B2 x.1],fun x=>.int .i64 (x.2+x.1.length:Nat),fun x=>[B2 (j7 x.1.length x.2)],fun x=>tS x.1.length x.2 1⟩
def a7D(L:List Int)(k:Nat):Nat->Ann
 |0=>.one {i:Nat//i<=L.length} (fun x=>⟨[(0,.osl 0 0 L.length),(1,.int .i64 (k+x.1:Nat)),(5,.int .i64 x.1)],[some (.arr true 0 1 L.length (z8 (Y8 (j7 L.length k)) (Y8 L) x.1))]⟩) (fun x=>L.length-x.1) [.arr 0] [.arr 0] (fun _=>Z0)
 |_=>.none
noncomputable def a79:Code:=Tryz.f18.body.getD .skip
theorem iU:Z7 Tryz.prog 18:=⟨_,Tryz.func18,by kernel_rfl,by kernel_rfl⟩
theorem a4G(L:List Int)(k:Nat)(h:
  (∃(x:{i:Nat//i<=L.length}),((0=0/\L.length=L.length)/\(k:Int)=(↑(k+x.val):Int)/\(0:Int)=(x.val:Int)/\True)/\(L.length=L.length/\Z8 L.length (Y8 L) (z8 (Y8 (j7 L.length k)) (Y8 L)
  x.val))/\True)/\∀(x:{i:Nat//i<=L.length}),(decide ((x.val:Int)<(L.length:Int))=true->X0 (x.val:Int) L.length/\Lt (0+(x.val:Int).toNat) L.length/\X8 .i64 ((↑(k+x.val):Int)+(1:Int))/\X8 .i64
  ((x.val:Int)+(1:Int))/\∃(y:{i:Nat//i<=L.length}),(((0=0/\L.length=L.length)/\(↑(k+x.val):Int)+(1:Int)=(↑(k+y.val):Int)/\(x.val:Int)+(1:Int)=(y.val:Int)/\True)/\(L.length=L.length/\
  Z8 L.length (setRow (z8 (Y8 (j7 L.length k)) (Y8 L) x.val) (0+(x.val:Int).toNat) 0 [T.int .i64 (↑(k+x.val):Int)]) (z8 (Y8 (j7 L.length k)) (Y8 L) y.val))/\True)/\Lt (L.length-y.val) (L.length-
  x.val))/\(decide ((x.val:Int)<(L.length:Int))=false->((↑(k+x.val):Int)=(↑(k+L.length):Int)/\True)/\(L.length=(j7 L.length k).length/\Z8 L.length (z8 (Y8 (j7 L.length k)) (Y8 L) x.val) (Y8
  (j7 L.length k)))/\True)):
  V3 Tryz.prog 18 [.osl 0 0 L.length,.int .i64 k] [B2 L] (.int .i64 (k+L.length:Nat)) [B2 (j7 L.length k)]:=
 v5 (code:=a79) gN Tryz.func18 (by kernel_rfl) (by kernel_rfl) (a7D L k) [[.arr 0]] h (by kernel_rfl)
theorem a0T:Z1 Tryz.prog 18 a5X:=by
 rintro⟨L,k⟩ ⟨h1,h2,h3⟩;dsimp only at h1 h2 h3;refine a4G L k ⟨⟨⟨0,T0 _⟩,⟨⟨rfl,rfl⟩,rfl,rfl,trivial⟩,⟨rfl,k7⟩,trivial⟩,fun x=>⟨fun hc=> ?_,fun hc=> ?_⟩⟩
 ·have hlt:=Y9 hc;refine⟨Y7 hlt,by unfold Lt;omega,Z5 (by omega),Z5 (by omega),⟨x.val+1,hlt⟩,⟨⟨⟨rfl,rfl⟩,by dsimp only;omega,by dsimp only;omega,trivial⟩,⟨rfl,fun j _=> ?_⟩,trivial⟩,V9.ext_lt hlt⟩
  exact a9i (m:=1) (fun _=>rfl) (fun _=>rfl) x.val (show[T.int .i64 ((k+x.val:Nat):Int)]=Y8 (j7 L.length k) x.val by unfold Y8 j7;rw[A6 _ hlt]) j
 ·have hx:x.val=L.length:=by have:=x.2;have:=Y3 hc;omega
  rw[hx];exact⟨⟨rfl,trivial⟩,⟨(S0 _ _).symm,xZ⟩,trivial⟩
def a6L:Con:=.rel ⟨Nat×Nat,fun x=>[r7 (j7 x.1 x.2),.int .i64 x.2],fun x=>.int .i64 (x.2+x.1:Nat),fun x=>tS x.1 x.2 1⟩
def a55(n k:Nat):Nat->Ann
 |0=>.one {i:Nat//i<=n} (fun x=>⟨[(0,r7 (j7 n k)),(1,.int .i64 (k+x.1:Nat)),(5,.int .i64 x.1)],[]⟩) (fun x=>n-x.1) [] [] (fun _=>Z0)
 |_=>.none
noncomputable def a5K:Code:=Tryz.f178.body.getD .skip
theorem jP:Z7 Tryz.prog 178:=⟨_,Tryz.func178,by kernel_rfl,by kernel_rfl⟩
theorem a6A(n k:Nat)(h:
  (∃(x:{i:Nat//i<=n}),((Y4 Y8 (j7 n k) (j7 n k))/\(k:Int)=(↑(k+x.val):Int)/\(0:Int)=(x.val:Int)/\True)/\True)/\∀(x:{i:Nat//i<=n}),(decide ((x.val:Int)<(↑(j7 n k).length:Int))=true->
  X0 (x.val:Int) (j7 n k).length/\(((j7 n k).getD (x.val:Int).toNat (0:Int) !=(↑(k+x.val):Int))=true->(-1:Int)=(↑(k+n):Int))/\(((j7 n k).getD (x.val:Int).toNat (0:Int) !=(↑(k+x.val):Int))=false->X8
  .i64 ((↑(k+x.val):Int)+(1:Int))/\X8 .i64 ((x.val:Int)+(1:Int))/\∃(y:{i:Nat//i<=n}),(((Y4 Y8 (j7 n k) (j7 n k))/\(↑(k+x.val):Int)+(1:Int)=(↑(k+y.val):Int)/\(x.val:Int)+(1:Int)=
  (y.val:Int)/\True)/\True)/\Lt (n-y.val) (n-x.val)))/\(decide ((x.val:Int)<(↑(j7 n k).length:Int))=false->(↑(k+x.val):Int)=(↑(k+n):Int))):
  Z2 Tryz.prog 178 [r7 (j7 n k),.int .i64 k] (.int .i64 (k+n:Nat)):=
 T4 (code:=a5K) gN Tryz.func178 (by kernel_rfl) (by kernel_rfl) (a55 n k) h (by kernel_rfl)
theorem a1q:Z1 Tryz.prog 178 a6L:=by
 rintro⟨n,k⟩ ⟨h1,h2,h3⟩;dsimp only at h1 h2 h3;have hn:(j7 n k).length=n:=S0 _ _;refine a6A n k ⟨⟨⟨0,T0 _⟩,⟨⟨rfl,Z9 _ _⟩,rfl,rfl,trivial⟩,trivial⟩,fun x=>⟨fun hc=> ?_,fun hc=> ?_⟩⟩
 ·have hlt:=Y9 hc;have hlt':x.val<n:=by omega
  have e:(j7 n k).getD (x.val:Int).toNat 0=((k+x.val:Nat):Int):=by rw[v4];exact A6 _ hlt' _
  exact⟨Y7 hlt,fun h=>by rw[e] at h;simp at h,fun _=>⟨Z5 (by omega),Z5 (by omega),⟨x.val+1,hlt'⟩,⟨⟨⟨rfl,Z9 _ _⟩,by dsimp only;omega,by dsimp only;omega,trivial⟩,trivial⟩,V9.ext_lt hlt'⟩⟩
 ·have hx:x.val=n:=by have:=x.2;have:=Y3 hc;omega
  rw[hx]
def a2p:Con:=.reff ⟨List Pend×Nat,fun x=>[.osl 0 0 x.1.length,.int .i64 x.2],fun x=>[I8 x.1],fun x=>.int .i64 (x.2+2*x.1.length:Nat),fun x=>[I8 (o4 x.1.length x.2)],fun x=>tS x.1.length x.2 2⟩
def a2i(L:List Pend)(k:Nat):Nat->Ann
 |0=>.one {i:Nat//i<=L.length} (fun x=>⟨[(0,.osl 0 0 L.length),(1,.int .i64 (k+2*x.1:Nat)),(5,.int .i64 x.1)],[some (.arr true 0 2 L.length (z8 (Z3 (o4 L.length k)) (Z3 L) x.1))]⟩) (fun x=>L.length-x.1) [.arr 0] [.arr 0] (fun _=>Z0)
 |_=>.none
noncomputable def a3W:Code:=Tryz.f174.body.getD .skip
theorem kV:Z7 Tryz.prog 174:=⟨_,Tryz.func174,by kernel_rfl,by kernel_rfl⟩
theorem a1a(L:List Pend)(k:Nat)(h:
  (∃(x:{i:Nat//i<=L.length}),((0=0/\L.length=L.length)/\(k:Int)=(↑(k+2*x.val):Int)/\(0:Int)=(x.val:Int)/\True)/\(L.length=L.length/\Z8 L.length (Z3 L) (z8 (Z3 (o4 L.length k))
  (Z3 L) x.val))/\True)/\∀(x:{i:Nat//i<=L.length}),(decide ((x.val:Int)<(L.length:Int))=true->X0 (x.val:Int) L.length/\Lt (0+(x.val:Int).toNat) L.length/\X8 .i64 ((↑(k+2*x.val):Int)+(1:Int))/\
  ∃(x_1:Nat),(((↑(k+2*x.val):Int)+(1:Int)=(x_1:Int)/\True)/\KB x_1)/\X0 (x.val:Int) L.length/\Lt (0+(x.val:Int).toNat) L.length/\X8 .i64 ((↑(k+2*x.val):Int)+(1:Int)+(1:Int))/\X8 .i64
  ((x.val:Int)+(1:Int))/\∃(y:{i:Nat//i<=L.length}),(((0=0/\L.length=L.length)/\(↑(k+2*x.val):Int)+(1:Int)+(1:Int)=(↑(k+2*y.val):Int)/\(x.val:Int)+(1:Int)=(y.val:Int)/\True)/\
  (L.length=L.length/\Z8 L.length (setRow (setRow (z8 (Z3 (o4 L.length k)) (Z3 L) x.val) (0+(x.val:Int).toNat) 0 [T.int .i64 (↑(k+2*x.val):Int)]) (0+(x.val:Int).toNat) 1 [T.str (pQ x_1)]) (z8 (Z3
  (o4 L.length k)) (Z3 L) y.val))/\True)/\Lt (L.length-y.val) (L.length-x.val))/\(decide ((x.val:Int)<(L.length:Int))=false->((↑(k+2*x.val):Int)=(↑(k+2*L.length):Int)/\True)/\(L.length=(o4
  L.length k).length/\Z8 L.length (z8 (Z3 (o4 L.length k)) (Z3 L) x.val) (Z3 (o4 L.length k)))/\True)):
  V3 Tryz.prog 174 [.osl 0 0 L.length,.int .i64 k] [I8 L] (.int .i64 (k+2*L.length:Nat)) [I8 (o4 L.length k)]:=
 v5 (code:=a3W) (gC C9 I0 gN) Tryz.func174 (by kernel_rfl) (by kernel_rfl) (a2i L k) [[.arr 0]] h (by kernel_rfl)
theorem dA:Z1 Tryz.prog 174 a2p:=by
 rintro⟨L,k⟩ ⟨h1,h2,h3⟩;dsimp only at h1 h2 h3;refine a1a L k ⟨⟨⟨0,T0 _⟩,⟨⟨rfl,rfl⟩,rfl,rfl,trivial⟩,⟨rfl,k7⟩,trivial⟩,fun x=>⟨fun hc=> ?_,fun hc=> ?_⟩⟩
 ·have hlt:=Y9 hc;have ib:=Y7 hlt;have lt:Lt (0+(x.val:Int).toNat) L.length:=by unfold Lt;omega
  refine⟨ib,lt,Z5 (by omega),k+2*x.val+1,⟨⟨by omega,trivial⟩,by omega,by omega⟩,ib,lt,Z5 (by omega),Z5 (by omega),⟨x.val+1,hlt⟩,⟨⟨⟨rfl,rfl⟩,by dsimp only;omega,by dsimp only;omega,trivial⟩,⟨rfl,fun j _=> ?_⟩,trivial⟩,V9.ext_lt hlt⟩
  exact yW (m:=2) (fun _=>rfl) (fun _=>rfl) x.val [(0,.int .i64 (k+2*x.val:Nat)),(1,.str (pQ (k+2*x.val+1)))] (by simp) (by unfold Z3 o4;rw[A6 _ hlt];rfl) j
 ·have hx:x.val=L.length:=by have:=x.2;have:=Y3 hc;omega
  rw[hx];exact⟨⟨rfl,trivial⟩,⟨(S0 _ _).symm,xZ⟩,trivial⟩
def a3t:Con:=.rel ⟨Nat×Nat,fun x=>[M4 (o4 x.1 x.2),.int .i64 x.2],fun x=>.int .i64 (x.2+2*x.1:Nat),fun x=>tS x.1 x.2 2⟩
def a2R(n k:Nat):Nat->Ann
 |0=>.one {i:Nat//i<=n} (fun x=>⟨[(0,M4 (o4 n k)),(1,.int .i64 (k+2*x.1:Nat)),(5,.int .i64 x.1)],[]⟩) (fun x=>n-x.1) [] [] (fun _=>Z0)
 |_=>.none
noncomputable def a3T:Code:=Tryz.f177.body.getD .skip
theorem nR:Z7 Tryz.prog 177:=⟨_,Tryz.func177,by kernel_rfl,by kernel_rfl⟩
theorem a1i(n k:Nat)(h:
  (∃(x:{i:Nat//i<=n}),((Y4 Z3 (o4 n k) (o4 n k))/\(k:Int)=(↑(k+2*x.val):Int)/\(0:Int)=(x.val:Int)/\True)/\True)/\∀(x:{i:Nat//i<=n}),(decide ((x.val:Int)<(↑(o4 n k).length:Int))=
  true->X0 (x.val:Int) (o4 n k).length/\((((o4 n k).getD (x.val:Int).toNat default).at_ !=(↑(k+2*x.val):Int))=true->(-1:Int)=(↑(k+2*n):Int))/\((((o4 n k).getD (x.val:Int).toNat default).at_ !=(↑(k+2*
  x.val):Int))=false->X8 .i64 ((↑(k+2*x.val):Int)+(1:Int))/\X0 (x.val:Int) (o4 n k).length/\∃(x_1:Nat),(((↑(k+2*x.val):Int)+(1:Int)=(x_1:Int)/\True)/\KB x_1)/\((!((o4 n k).getD
  (x.val:Int).toNat default).d==pQ x_1)=true->(-1:Int)=(↑(k+2*n):Int))/\((!((o4 n k).getD (x.val:Int).toNat default).d==pQ x_1)=false->X8 .i64 ((↑(k+2*x.val):Int)+(1:Int)+(1:Int))/\X8 .i64
  ((x.val:Int)+(1:Int))/\∃(y:{i:Nat//i<=n}),(((Y4 Z3 (o4 n k) (o4 n k))/\(↑(k+2*x.val):Int)+(1:Int)+(1:Int)=(↑(k+2*y.val):Int)/\(x.val:Int)+(1:Int)=(y.val:Int)/\True)/\True)/\
  Lt (n-y.val) (n-x.val))))/\(decide ((x.val:Int)<(↑(o4 n k).length:Int))=false->(↑(k+2*x.val):Int)=(↑(k+2*n):Int))):
  Z2 Tryz.prog 177 [M4 (o4 n k),.int .i64 k] (.int .i64 (k+2*n:Nat)):=
 T4 (code:=a3T) (gC C9 I0 gN) Tryz.func177 (by kernel_rfl) (by kernel_rfl) (a2R n k) h (by kernel_rfl)
theorem a0x:Z1 Tryz.prog 177 a3t:=by
 rintro⟨n,k⟩ ⟨h1,h2,h3⟩;dsimp only at h1 h2 h3;have hn:(o4 n k).length=n:=S0 _ _;refine a1i n k ⟨⟨⟨0,T0 _⟩,⟨⟨rfl,Z9 _ _⟩,rfl,rfl,trivial⟩,trivial⟩,fun x=>⟨fun hc=> ?_,fun hc=> ?_⟩⟩
 ·have hlt:=Y9 hc;have hlt':x.val<n:=by omega
  have e:(o4 n k).getD (x.val:Int).toNat default=⟨((k+2*x.val:Nat):Int),pQ (k+2*x.val+1)⟩:=by rw[v4];exact A6 _ hlt' _
  rw[e];have ib:=Y7 hlt;exact⟨ib,fun h=>by simp at h,fun _=>⟨Z5 (by omega),ib,k+2*x.val+1,⟨⟨by omega,trivial⟩,by omega,by omega⟩,fun h=>by simp at h,fun _=>⟨Z5 (by omega),Z5 (by omega),⟨x.val+1,hlt'⟩,⟨⟨⟨rfl,Z9 _ _⟩,by dsimp only;omega,by dsimp only;omega,trivial⟩,trivial⟩,V9.ext_lt hlt'⟩⟩⟩
 ·have hx:x.val=n:=by have:=x.2;have:=Y3 hc;omega
  rw[hx]
def a8h:Con:=.reff ⟨List Rec×Nat,fun x=>[.osl 0 0 x.1.length,.int .i64 x.2],fun x=>[w9 x.1],fun x=>.int .i64 (x.2+10*x.1.length:Nat),fun x=>[w9 (D9 x.1.length x.2)],fun x=>tS x.1.length x.2 10⟩
def a6a(L:List Rec)(k:Nat):Nat->Ann
 |0=>.one {i:Nat//i<=L.length} (fun x=>⟨[(0,.osl 0 0 L.length),(1,.int .i64 (k+10*x.1:Nat)),(5,.int .i64 x.1)],[some (.arr true 0 10 L.length (z8 (Y5 (D9 L.length k)) (Y5 L) x.1))]⟩) (fun x=>L.length-x.1) [.arr 0] [.arr 0] (fun _=>Z0)
 |_=>.none
noncomputable def a6T:Code:=Tryz.f100.body.getD .skip
theorem iM:Z7 Tryz.prog 100:=⟨_,Tryz.func100,by kernel_rfl,by kernel_rfl⟩
theorem a4u(L:List Rec)(k:Nat)(h:
  (∃(x:{i:Nat//i<=L.length}),((0=0/\L.length=L.length)/\(k:Int)=(↑(k+10*x.val):Int)/\(0:Int)=(x.val:Int)/\True)/\(L.length=L.length/\Z8 L.length (Y5 L) (z8 (Y5 (D9 L.length k))
  (Y5 L) x.val))/\True)/\∀(x:{i:Nat//i<=L.length}),(decide ((x.val:Int)<(L.length:Int))=true->X0 (x.val:Int) L.length/\Lt (0+(x.val:Int).toNat) L.length/\X8 .i64 ((↑(k+10*x.val):Int)+(1:Int))/\
  X0 (x.val:Int) L.length/\Lt (0+(x.val:Int).toNat) L.length/\X8 .i64 ((↑(k+10*x.val):Int)+(1:Int)+(1:Int))/\X0 (x.val:Int) L.length/\Lt (0+(x.val:Int).toNat) L.length/\X8 .i64 ((↑(k+10*x.val):Int)+
  (1:Int)+(1:Int)+(1:Int))/\X0 (x.val:Int) L.length/\Lt (0+(x.val:Int).toNat) L.length/\X8 .i64 ((↑(k+10*x.val):Int)+(1:Int)+(1:Int)+(1:Int)+(1:Int))/\X0 (x.val:Int) L.length/\Lt (0+
  (x.val:Int).toNat) L.length/\X8 .i64 ((↑(k+10*x.val):Int)+(1:Int)+(1:Int)+(1:Int)+(1:Int)+(1:Int))/\X0 (x.val:Int) L.length/\Lt (0+(x.val:Int).toNat) L.length/\X8 .i64 ((↑(k+10*x.val):Int)
  +(1:Int)+(1:Int)+(1:Int)+(1:Int)+(1:Int)+(1:Int))/\X0 (x.val:Int) L.length/\Lt (0+(x.val:Int).toNat) L.length/\X8 .i64 ((↑(k+10*x.val):Int)+(1:Int)+(1:Int)+(1:Int)+(1:Int)+(1:
  Int)+(1:Int)+(1:Int))/\X0 (x.val:Int) L.length/\Lt (0+(x.val:Int).toNat) L.length/\X8 .i64 ((↑(k+10*x.val):Int)+(1:Int)+(1:Int)+(1:Int)+(1:Int)+(1:Int)+(1:Int)+(1:Int)+(1:Int))
  /\∃(x_1:Nat),(((↑(k+10*x.val):Int)+(1:Int)+(1:Int)+(1:Int)+(1:Int)+(1:Int)+(1:Int)+(1:Int)+(1:Int)=(x_1:Int)/\True)/\KB x_1)/\X0 (x.val:Int) L.length/\Lt (0+(x.val:Int).toNat)
  L.length/\X8 .i64 ((↑(k+10*x.val):Int)+(1:Int)+(1:Int)+(1:Int)+(1:Int)+(1:Int)+(1:Int)+(1:Int)+(1:Int)+(1:Int))/\∃(x_2:Nat),(((↑(k+10*x.val):Int)+(1:Int)+(1:Int)+(1
  :Int)+(1:Int)+(1:Int)+(1:Int)+(1:Int)+(1:Int)+(1:Int)=(x_2:Int)/\True)/\KB x_2)/\X0 (x.val:Int) L.length/\Lt (0+(x.val:Int).toNat) L.length/\X8 .i64 ((↑(k+10*x.val):Int)+(1:Int)+(1:
  Int)+(1:Int)+(1:Int)+(1:Int)+(1:Int)+(1:Int)+(1:Int)+(1:Int)+(1:Int))/\X8 .i64 ((x.val:Int)+(1:Int))/\∃(y:{i:Nat//i<=L.length}),(((0=0/\L.length=L.length)/\(↑(k+10*x.val)
  :Int)+(1:Int)+(1:Int)+(1:Int)+(1:Int)+(1:Int)+(1:Int)+(1:Int)+(1:Int)+(1:Int)+(1:Int)=(↑(k+10*y.val):Int)/\(x.val:Int)+(1:Int)=(y.val:Int)/\True)/\(L.length=L.length/\
  Z8 L.length (setRow (setRow (setRow (setRow (setRow (setRow (setRow (setRow (setRow (setRow (z8 (Y5 (D9 L.length k)) (Y5 L) x.val) (0+(x.val:Int).toNat) 0 [T.int .i64 (↑(k+10*x.val):Int)]) (0+
  (x.val:Int).toNat) 1 [T.int .i64 ((↑(k+10*x.val):Int)+(1:Int))]) (0+(x.val:Int).toNat) 2 [T.int .i64 ((↑(k+10*x.val):Int)+(1:Int)+(1:Int))]) (0+(x.val:Int).toNat) 3 [T.int .i64 ((↑(k+10*x.val):
  Int)+(1:Int)+(1:Int)+(1:Int))]) (0+(x.val:Int).toNat) 4 [T.int .i64 ((↑(k+10*x.val):Int)+(1:Int)+(1:Int)+(1:Int)+(1:Int))]) (0+(x.val:Int).toNat) 5 [T.int .i64 ((↑(k+10*x.val):Int)+(1
  :Int)+(1:Int)+(1:Int)+(1:Int)+(1:Int))]) (0+(x.val:Int).toNat) 6 [T.int .i64 ((↑(k+10*x.val):Int)+(1:Int)+(1:Int)+(1:Int)+(1:Int)+(1:Int)+(1:Int))]) (0+(x.val:Int).toNat) 7 [T.int
  .i64 ((↑(k+10*x.val):Int)+(1:Int)+(1:Int)+(1:Int)+(1:Int)+(1:Int)+(1:Int)+(1:Int))]) (0+(x.val:Int).toNat) 8 [T.str (pQ x_1)]) (0+(x.val:Int).toNat) 9 [T.str (pQ x_2)]) (z8 (Y5 (D9
  L.length k)) (Y5 L) y.val))/\True)/\Lt (L.length-y.val) (L.length-x.val))/\(decide ((x.val:Int)<(L.length:Int))=false->((↑(k+10*x.val):Int)=(↑(k+10*L.length):Int)/\True)/\(L.length=(D9 L.length
  k).length/\Z8 L.length (z8 (Y5 (D9 L.length k)) (Y5 L) x.val) (Y5 (D9 L.length k)))/\True)):
  V3 Tryz.prog 100 [.osl 0 0 L.length,.int .i64 k] [w9 L] (.int .i64 (k+10*L.length:Nat)) [w9 (D9 L.length k)]:=
 v5 (code:=a6T) (gC C9 I0 gN) Tryz.func100 (by kernel_rfl) (by kernel_rfl) (a6a L k) [[.arr 0]] h (by kernel_rfl)
theorem a1P:Z1 Tryz.prog 100 a8h:=by
 rintro⟨L,k⟩ ⟨h1,h2,h3⟩;dsimp only at h1 h2 h3;refine a4u L k ⟨⟨⟨0,T0 _⟩,⟨⟨rfl,rfl⟩,rfl,rfl,trivial⟩,⟨rfl,k7⟩,trivial⟩,fun x=>⟨fun hc=> ?_,fun hc=> ?_⟩⟩
 ·have hlt:=Y9 hc;have ib:=Y7 hlt;have lt:Lt (0+(x.val:Int).toNat) L.length:=by unfold Lt;omega
  refine⟨ib,lt,Z5 (by omega),ib,lt,Z5 (by omega),ib,lt,Z5 (by omega),ib,lt,Z5 (by omega),ib,lt,Z5 (by omega),ib,lt,Z5 (by omega),ib,lt,Z5 (by omega),ib,lt,Z5 (by omega),k+10*x.val+8,⟨⟨by omega,trivial⟩,by omega,by omega⟩,ib,lt,Z5 (by omega),k+10*x.val+9,⟨⟨by omega,trivial⟩,by omega,by omega⟩,ib,lt,Z5 (by omega),Z5 (by omega),⟨x.val+1,hlt⟩,⟨⟨⟨rfl,rfl⟩,by dsimp only;omega,by dsimp only;omega,trivial⟩,⟨rfl,fun j _=> ?_⟩,trivial⟩,V9.ext_lt hlt⟩
  exact yW (m:=10) (fun _=>rfl) (fun _=>rfl) x.val [(0,.int .i64 (((k+10*x.val:Nat):Int))),(1,.int .i64 (((k+10*x.val:Nat):Int)+1)),(2,.int .i64 (((k+10*x.val:Nat):Int)+1+1)),(3,.int .i64 (((k+10*x.val:Nat):Int)+1+1+1)),(4,.int .i64 (((k+10*x.val:Nat):Int)+1+1+1+1)),(5,.int .i64 (((k+10*x.val:Nat):Int)+1+1+1+1+1)),(6,.int .i64 (((k+10*x.val:Nat):Int)+1+1+1+1+1+1)),(7,.int .i64 (((k+10*x.val:Nat):Int)+1+1+1+1+1+1+1)),(8,.str (pQ (k+10*x.val+8))),(9,.str (pQ (k+10*x.val+9)))] (by simp) (by unfold Y5 D9;rw[A6 _ hlt];rfl) j
 ·have hx:x.val=L.length:=by have:=x.2;have:=Y3 hc;omega
  rw[hx];exact⟨⟨rfl,trivial⟩,⟨(S0 _ _).symm,xZ⟩,trivial⟩
def a6u:Con:=.rel ⟨Nat×Nat,fun x=>[F3 (D9 x.1 x.2),.int .i64 x.2],fun x=>.int .i64 (x.2+10*x.1:Nat),fun x=>tS x.1 x.2 10⟩
def a4Y(n k:Nat):Nat->Ann
 |0=>.one {i:Nat//i<=n} (fun x=>⟨[(0,F3 (D9 n k)),(1,.int .i64 (k+10*x.1:Nat)),(5,.int .i64 x.1)],[]⟩) (fun x=>n-x.1) [] [] (fun _=>Z0)
 |_=>.none
noncomputable def a7G:Code:=Tryz.f105.body.getD .skip
theorem kD:Z7 Tryz.prog 105:=⟨_,Tryz.func105,by kernel_rfl,by kernel_rfl⟩
theorem a4j(n k:Nat)(h:
  (∃(x:{i:Nat//i<=n}),((Y4 Y5 (D9 n k) (D9 n k))/\(k:Int)=(↑(k+10*x.val):Int)/\(0:Int)=(x.val:Int)/\True)/\True)/\∀(x:{i:Nat//i<=n}),(decide ((x.val:Int)<(↑(D9 n k).length:Int))=
  true->X0 (x.val:Int) (D9 n k).length/\((((D9 n k).getD (x.val:Int).toNat default).e !=(↑(k+10*x.val):Int))=true->(-1:Int)=(↑(k+10*n):Int))/\((((D9 n k).getD (x.val:Int).toNat default).e !=(↑(k+10*
  x.val):Int))=false->X8 .i64 ((↑(k+10*x.val):Int)+(1:Int))/\X0 (x.val:Int) (D9 n k).length/\((((D9 n k).getD (x.val:Int).toNat default).l !=(↑(k+10*x.val):Int)+(1:Int))=true->(-1:Int)=(↑(k+
  10*n):Int))/\((((D9 n k).getD (x.val:Int).toNat default).l !=(↑(k+10*x.val):Int)+(1:Int))=false->X8 .i64 ((↑(k+10*x.val):Int)+(1:Int)+(1:Int))/\X0 (x.val:Int) (D9 n k).length/\((((D9 n
  k).getD (x.val:Int).toNat default).t !=(↑(k+10*x.val):Int)+(1:Int)+(1:Int))=true->(-1:Int)=(↑(k+10*n):Int))/\((((D9 n k).getD (x.val:Int).toNat default).t !=(↑(k+10*x.val):Int)+(1:Int)+(1
  :Int))=false->X8 .i64 ((↑(k+10*x.val):Int)+(1:Int)+(1:Int)+(1:Int))/\X0 (x.val:Int) (D9 n k).length/\((((D9 n k).getD (x.val:Int).toNat default).k !=(↑(k+10*x.val):Int)+(1:Int)+(1:Int)+
  (1:Int))=true->(-1:Int)=(↑(k+10*n):Int))/\((((D9 n k).getD (x.val:Int).toNat default).k !=(↑(k+10*x.val):Int)+(1:Int)+(1:Int)+(1:Int))=false->X8 .i64 ((↑(k+10*x.val):Int)+(1:Int)+
  (1:Int)+(1:Int)+(1:Int))/\X0 (x.val:Int) (D9 n k).length/\((((D9 n k).getD (x.val:Int).toNat default).p !=(↑(k+10*x.val):Int)+(1:Int)+(1:Int)+(1:Int)+(1:Int))=true->(-1:Int)=(↑(k+10*
  n):Int))/\((((D9 n k).getD (x.val:Int).toNat default).p !=(↑(k+10*x.val):Int)+(1:Int)+(1:Int)+(1:Int)+(1:Int))=false->X8 .i64 ((↑(k+10*x.val):Int)+(1:Int)+(1:Int)+(1:Int)+(1:
  Int)+(1:Int))/\X0 (x.val:Int) (D9 n k).length/\((((D9 n k).getD (x.val:Int).toNat default).n !=(↑(k+10*x.val):Int)+(1:Int)+(1:Int)+(1:Int)+(1:Int)+(1:Int))=true->(-1:Int)=(↑(k+10*n):
  Int))/\((((D9 n k).getD (x.val:Int).toNat default).n !=(↑(k+10*x.val):Int)+(1:Int)+(1:Int)+(1:Int)+(1:Int)+(1:Int))=false->X8 .i64 ((↑(k+10*x.val):Int)+(1:Int)+(1:Int)+(1:Int)+
  (1:Int)+(1:Int)+(1:Int))/\X0 (x.val:Int) (D9 n k).length/\((((D9 n k).getD (x.val:Int).toNat default).g !=(↑(k+10*x.val):Int)+(1:Int)+(1:Int)+(1:Int)+(1:Int)+(1:Int)+(1:Int))=true->
  (-1:Int)=(↑(k+10*n):Int))/\((((D9 n k).getD (x.val:Int).toNat default).g !=(↑(k+10*x.val):Int)+(1:Int)+(1:Int)+(1:Int)+(1:Int)+(1:Int)+(1:Int))=false->X8 .i64 ((↑(k+10*x.val):
  Int)+(1:Int)+(1:Int)+(1:Int)+(1:Int)+(1:Int)+(1:Int)+(1:Int))/\X0 (x.val:Int) (D9 n k).length/\((((D9 n k).getD (x.val:Int).toNat default).s !=(↑(k+10*x.val):Int)+(1:Int)+(1:Int)+
  (1:Int)+(1:Int)+(1:Int)+(1:Int)+(1:Int))=true->(-1:Int)=(↑(k+10*n):Int))/\((((D9 n k).getD (x.val:Int).toNat default).s !=(↑(k+10*x.val):Int)+(1:Int)+(1:Int)+(1:Int)+(1:Int)
  +(1:Int)+(1:Int)+(1:Int))=false->X8 .i64 ((↑(k+10*x.val):Int)+(1:Int)+(1:Int)+(1:Int)+(1:Int)+(1:Int)+(1:Int)+(1:Int)+(1:Int))/\X0 (x.val:Int) (D9 n k).length/\∃(x_1:
  Nat),(((↑(k+10*x.val):Int)+(1:Int)+(1:Int)+(1:Int)+(1:Int)+(1:Int)+(1:Int)+(1:Int)+(1:Int)=(x_1:Int)/\True)/\KB x_1)/\((!((D9 n k).getD (x.val:Int).toNat default).b==pQ x_1)=true->
  (-1:Int)=(↑(k+10*n):Int))/\((!((D9 n k).getD (x.val:Int).toNat default).b==pQ x_1)=false->X8 .i64 ((↑(k+10*x.val):Int)+(1:Int)+(1:Int)+(1:Int)+(1:Int)+(1:Int)+(1:Int)+(1:Int)+
  (1:Int)+(1:Int))/\X0 (x.val:Int) (D9 n k).length/\∃(x_2:Nat),(((↑(k+10*x.val):Int)+(1:Int)+(1:Int)+(1:Int)+(1:Int)+(1:Int)+(1:Int)+(1:Int)+(1:Int)+(1:Int)=(x_2:Int)/\True)
  /\KB x_2)/\((!((D9 n k).getD (x.val:Int).toNat default).a==pQ x_2)=true->(-1:Int)=(↑(k+10*n):Int))/\((!((D9 n k).getD (x.val:Int).toNat default).a==pQ x_2)=false->X8 .i64 ((↑(k+10*x.val):Int)+(1
  :Int)+(1:Int)+(1:Int)+(1:Int)+(1:Int)+(1:Int)+(1:Int)+(1:Int)+(1:Int)+(1:Int))/\X8 .i64 ((x.val:Int)+(1:Int))/\∃(y:{i:Nat//i<=n}),(((Y4 Y5 (D9 n k) (D9 n k))/\(↑(k+
  10*x.val):Int)+(1:Int)+(1:Int)+(1:Int)+(1:Int)+(1:Int)+(1:Int)+(1:Int)+(1:Int)+(1:Int)+(1:Int)=(↑(k+10*y.val):Int)/\(x.val:Int)+(1:Int)=(y.val:Int)/\True)/\True)/\Lt (n
  -y.val) (n-x.val))))))))))))/\(decide ((x.val:Int)<(↑(D9 n k).length:Int))=false->(↑(k+10*x.val):Int)=(↑(k+10*n):Int))):
  Z2 Tryz.prog 105 [F3 (D9 n k),.int .i64 k] (.int .i64 (k+10*n:Nat)):=
 T4 (code:=a7G) (gC C9 I0 gN) Tryz.func105 (by kernel_rfl) (by kernel_rfl) (a4Y n k) h (by kernel_rfl)
theorem a2W:Z1 Tryz.prog 105 a6u:=by
 rintro⟨n,k⟩ ⟨h1,h2,h3⟩;dsimp only at h1 h2 h3;have hn:(D9 n k).length=n:=S0 _ _;refine a4j n k ⟨⟨⟨0,T0 _⟩,⟨⟨rfl,Z9 _ _⟩,rfl,rfl,trivial⟩,trivial⟩,fun x=>⟨fun hc=> ?_,fun hc=> ?_⟩⟩
 ·have hlt:=Y9 hc;have hlt':x.val<n:=by omega
  have e:(D9 n k).getD (x.val:Int).toNat default=c5O (k+10*x.val):=by rw[v4];exact A6 _ hlt' _
  rw[e];have ib:=Y7 hlt;unfold c5O;exact⟨ib,fun h=>by simp at h,fun _=>⟨Z5 (by omega),ib,fun h=>by simp at h,fun _=>⟨Z5 (by omega),ib,fun h=>by simp at h,fun _=>⟨Z5 (by omega),ib,fun h=>by simp at h,fun _=>⟨Z5 (by omega),ib,fun h=>by simp at h,fun _=>⟨Z5 (by omega),ib,fun h=>by simp at h,fun _=>⟨Z5 (by omega),ib,fun h=>by simp at h,fun _=>⟨Z5 (by omega),ib,fun h=>by simp at h,fun _=>⟨Z5 (by omega),ib,k+10*x.val+8,⟨⟨by omega,trivial⟩,by omega,by omega⟩,fun h=>by simp at h,fun _=>⟨Z5 (by omega),ib,k+10*x.val+9,⟨⟨by omega,trivial⟩,by omega,by omega⟩,fun h=>by simp at h,fun _=>⟨Z5 (by omega),Z5 (by omega),⟨x.val+1,hlt'⟩,⟨⟨⟨rfl,Z9 _ _⟩,by dsimp only;omega,by dsimp only;omega,trivial⟩,trivial⟩,V9.ext_lt hlt'⟩⟩⟩⟩⟩⟩⟩⟩⟩⟩⟩
 ·have hx:x.val=n:=by have:=x.2;have:=Y3 hc;omega
  rw[hx]
end Go.Proofs.YtokaojbaacnngaaGreat

