/- A part of the proof. -/
import Derived.Test.YtokaojbaacnngaaGreatU10
import Derived.Test.YtokaojbaacnngaaGreatU3U4U5
import Derived.Test.YtokaojbaacnngaaGreatX11X11rX12X13X14
namespace Go.Proofs.YtokaojbaacnngaaGreat
set_option maxRecDepth 100000
open Go.SS

def X7{α:Type}[Inhabited α](f:α->Bool)(L:List α):Nat->List α
 |0=>[]
 |i+1=>if f (L.getD i default)=true then X7 f L i++[L.getD i default] else X7 f L i
def hF(tx:Int)(x:Lck):Bool:=x.tx !=tx
def wF(tx:Int)(w:Wt):Bool:=w.tx !=tx&&w.fo !=tx
def frK(l:Lks)(tx:Int):Lks:=⟨X7 (hF tx) l.held l.held.length,X7 (wF tx) l.waits l.waits.length⟩
def c2S:Con:=.rel ⟨Lks×Int,fun x=>[.agg x.1.ts,.int .i64 x.2],fun x=>.agg (frK x.1 x.2).ts,fun x=>x.1.held.length<=1000000/\x.1.waits.length<=1000000⟩
def lkB(l:Lks):Option Ob:=some (.arr true 1000000 2 1 fun _=>l.ts)
def lkO(a n b m:Nat):Option Ob:=some (.arr false 1000000 2 1 fun _=>[.osl a 0 n,.osl b 0 m])
def c3d(l:Lks)(tx:Int):Nat->Ann
 |1=>.one {i:Nat//i<=l.waits.length} (fun x=>⟨[(1,.int .i64 tx),(2,.ref 0 0 0),(4,.ref 1 0 0),(5,.ref 2 0 0),(7,.int .i64 x.1)],[lkB l,lkB ⟨[],[]⟩,lkO 3 (frK l tx).held.length 4 (X7 (wF tx) l.waits x.1).length,a0E (frK l tx).held,wtA (X7 (wF tx) l.waits x.1)]⟩) (fun x=>l.waits.length-x.1) [.box 0,.box 1,.box 2,.cel 2 0,.cel 2 1] [.box 0,.box 1,.box 2,.cel 2 0,.cel 2 1] (fun _=>Z0)
 |2=>.one {i:Nat//i<=l.waits.length} (fun x=>⟨[(1,.int .i64 tx),(2,.ref 0 0 0),(4,.ref 1 0 0),(5,.ref 2 0 0),(7,.int .i64 x.1)],[lkB l,lkB ⟨[],[]⟩,lkO 3 (frK l tx).held.length 4 (X7 (wF tx) l.waits x.1).length,a0E (frK l tx).held,wtA (X7 (wF tx) l.waits x.1)]⟩) (fun x=>l.waits.length-x.1) [.box 0,.box 1,.box 2,.cel 2 0,.cel 2 1] [.box 0,.box 1,.box 2,.cel 2 0,.cel 2 1] (fun _=>Z0)
 |_=>.none
def b9D(l:Lks)(tx:Int):Nat->Ann
 |0=>.one {i:Nat//i<=l.held.length} (fun x=>⟨[(1,.int .i64 tx),(2,.ref 0 0 0),(4,.ref 1 0 0),(5,.ref 2 0 0),(6,.int .i64 x.1)],[lkB l,lkB ⟨[],[]⟩,lkO 3 (X7 (hF tx) l.held x.1).length 4 0,a0E (X7 (hF tx) l.held x.1),wtA []]⟩) (fun x=>l.held.length-x.1) [.box 0,.box 1,.box 4,.arr 2,.arr 3] [.box 0,.box 1,.box 2,.cel 2 0,.cel 2 1] (fun _=>c3d l tx)
 |_=>.none
noncomputable def c0R:Code:=Tryz.f185.body.getD .skip
theorem a8I:Z8 Tryz.prog 185:=⟨_,Tryz.func185,by kernel_rfl,by kernel_rfl⟩
theorem b9R(l:Lks)(tx:Int)(h:
  (∃(x:{i:Nat//i<=l.held.length}),(tx=tx/\(0=0/\0=0)/\(0=0/\0=0)/\(0=0/\0=0)/\(0:Int)=(x.val:Int)/\True)/\(1=1/\1=1/\(Y3 Y9 l.held l.held)/\(Y3 Y1 l.waits l.waits)/\True)/\(1=
  1/\1=1/\0=0/\0=0/\True)/\(1=1/\1=1/\(0=0/\0=(X7 (hF tx) l.held x.val).length)/\(0=0/\0=0)/\True)/\(0=(X7 (hF tx) l.held x.val).length/\Z7 0 (fun(k:Nat)=>List.take 4 (List.drop (k*4)
  [])) (Y9 (X7 (hF tx) l.held x.val)))/\(0=0/\Z7 0 (fun(k:Nat)=>List.take 2 (List.drop (k*2) [])) (Y1 []))/\True)/\∀(x:{i:Nat//i<=l.held.length}),(decide ((x.val:Int)<(l.held.length:Int))=
  true->W7 (x.val:Int) l.held.length/\(((l.held.getD (x.val:Int).toNat default).tx !=tx)=true->W7 (x.val:Int) l.held.length/\(Le (X7 (hF tx) l.held x.val).length (X7 (hF tx) l.held x.val).length/\V6 (X7 (hF tx)
  l.held x.val).length 1 32)/\X6 .i64 ((x.val:Int)+(1:Int))/\∃(y:{i:Nat//i<=l.held.length}),((tx=tx/\(0=0/\0=0)/\(0=0/\0=0)/\(0=0/\0=0)/\(x.val:Int)+(1:Int)=(y.val:Int)/\True)/\(1=1/\
  1=1/\(Y3 Y9 l.held l.held)/\(Y3 Y1 l.waits l.waits)/\True)/\(1=1/\1=1/\(0=0/\Z7 0 (Y9 []) (Y9 []))/\(0=0/\Z7 0 (Y1 []) (Y1 []))/\True)/\(1=1/\1=1/\(0=0/\(X7 (hF tx)
  l.held x.val).length+1=(X7 (hF tx) l.held y.val).length)/\(0=0/\0=0)/\True)/\((X7 (hF tx) l.held x.val).length+1=(X7 (hF tx) l.held y.val).length/\Z7 ((X7 (hF tx) l.held x.val).length+1) (W4
  (Y9 (X7 (hF tx) l.held x.val)) (X7 (hF tx) l.held x.val).length fun(k:Nat)=>List.take 4 (List.drop (k*4) [T.int .i64 (l.held.getD (x.val:Int).toNat default).tx,T.int .i64 (l.held.getD (x.val:Int).toNat default).ta,
  T.int .i64 (l.held.getD (x.val:Int).toNat default).row,T.int .i64 (l.held.getD (x.val:Int).toNat default).mo])) (Y9 (X7 (hF tx) l.held y.val)))/\(0=0/\Z7 0 (Y1 []) (Y1 []))/\True)/\Lt (l.held.length-y.val)
  (l.held.length-x.val))/\(((l.held.getD (x.val:Int).toNat default).tx !=tx)=false->X6 .i64 ((x.val:Int)+(1:Int))/\∃(y:{i:Nat//i<=l.held.length}),((tx=tx/\(0=0/\0=0)/\(0=0/\0=0)/\(0=0/\0=
  0)/\(x.val:Int)+(1:Int)=(y.val:Int)/\True)/\(1=1/\1=1/\(Y3 Y9 l.held l.held)/\(Y3 Y1 l.waits l.waits)/\True)/\(1=1/\1=1/\(0=0/\Z7 0 (Y9 []) (Y9 []))/\(0=0/\Z7 0 (Y1 [])
  (Y1 []))/\True)/\(1=1/\1=1/\(0=0/\(X7 (hF tx) l.held x.val).length=(X7 (hF tx) l.held y.val).length)/\(0=0/\0=0)/\True)/\(Y3 Y9 (X7 (hF tx) l.held x.val) (X7 (hF tx) l.held y.val))/\(0=0/\
  Z7 0 (Y1 []) (Y1 []))/\True)/\Lt (l.held.length-y.val) (l.held.length-x.val)))/\(decide ((x.val:Int)<(l.held.length:Int))=false->(∃(x_1:{i:Nat//i<=l.waits.length}),(tx=tx/\(0=0/\0=0)/\(0=
  0/\0=0)/\(0=0/\0=0)/\(0:Int)=(x_1.val:Int)/\True)/\(1=1/\1=1/\(Y3 Y9 l.held l.held)/\(Y3 Y1 l.waits l.waits)/\True)/\(1=1/\1=1/\(0=0/\Z7 0 (Y9 []) (Y9 []))/\(0=0/\Z7 0
  (Y1 []) (Y1 []))/\True)/\(1=1/\1=1/\(0=0/\(X7 (hF tx) l.held x.val).length=(X7 (hF tx) l.held l.held.length).length)/\(0=0/\0=(X7 (wF tx) l.waits x_1.val).length)/\True)/\(Y3 Y9 (X7 (hF tx)
  l.held x.val) (X7 (hF tx) l.held l.held.length))/\(0=(X7 (wF tx) l.waits x_1.val).length/\Z7 0 (Y1 []) (Y1 (X7 (wF tx) l.waits x_1.val)))/\True)/\∀(x:{i:Nat//i<=l.waits.length}),(decide
  ((x.val:Int)<(l.waits.length:Int))=true->W7 (x.val:Int) l.waits.length/\(((l.waits.getD (x.val:Int).toNat default).tx !=tx)=true->W7 (x.val:Int) l.waits.length)/\(((l.waits.getD (x.val:Int).toNat default).tx !=tx&&
  (l.waits.getD (x.val:Int).toNat default).fo !=tx)=true->W7 (x.val:Int) l.waits.length/\(Le (X7 (wF tx) l.waits x.val).length (X7 (wF tx) l.waits x.val).length/\V6 (X7 (wF tx) l.waits x.val).length 1 16)/\X6 .i64
  ((x.val:Int)+(1:Int))/\∃(y:{i:Nat//i<=l.waits.length}),((tx=tx/\(0=0/\0=0)/\(0=0/\0=0)/\(0=0/\0=0)/\(x.val:Int)+(1:Int)=(y.val:Int)/\True)/\(1=1/\1=1/\(Y3 Y9 l.held l.held)/\
  (Y3 Y1 l.waits l.waits)/\True)/\(1=1/\1=1/\(0=0/\Z7 0 (Y9 []) (Y9 []))/\(0=0/\Z7 0 (Y1 []) (Y1 []))/\True)/\(1=1/\1=1/\(0=0/\(X7 (hF tx) l.held l.held.length).length=(X7
  (hF tx) l.held l.held.length).length)/\(0=0/\(X7 (wF tx) l.waits x.val).length+1=(X7 (wF tx) l.waits y.val).length)/\True)/\(Y3 Y9 (X7 (hF tx) l.held l.held.length) (X7 (hF tx) l.held l.held.length))/\
  ((X7 (wF tx) l.waits x.val).length+1=(X7 (wF tx) l.waits y.val).length/\Z7 ((X7 (wF tx) l.waits x.val).length+1) (W4 (Y1 (X7 (wF tx) l.waits x.val)) (X7 (wF tx) l.waits x.val).length fun(k:Nat)=>
  List.take 2 (List.drop (k*2) [T.int .i64 (l.waits.getD (x.val:Int).toNat default).tx,T.int .i64 (l.waits.getD (x.val:Int).toNat default).fo])) (Y1 (X7 (wF tx) l.waits y.val)))/\True)/\Lt (l.waits.length-y.val)
  (l.waits.length-x.val))/\(((l.waits.getD (x.val:Int).toNat default).tx !=tx&&(l.waits.getD (x.val:Int).toNat default).fo !=tx)=false->X6 .i64 ((x.val:Int)+(1:Int))/\∃(y:{i:Nat//i<=l.waits.length}),((tx=
  tx/\(0=0/\0=0)/\(0=0/\0=0)/\(0=0/\0=0)/\(x.val:Int)+(1:Int)=(y.val:Int)/\True)/\(1=1/\1=1/\(Y3 Y9 l.held l.held)/\(Y3 Y1 l.waits l.waits)/\True)/\(1=1/\1=1/\(0=0/\Z7 0
  (Y9 []) (Y9 []))/\(0=0/\Z7 0 (Y1 []) (Y1 []))/\True)/\(1=1/\1=1/\(0=0/\(X7 (hF tx) l.held l.held.length).length=(X7 (hF tx) l.held l.held.length).length)/\(0=0/\(X7 (wF tx) l.waits
  x.val).length=(X7 (wF tx) l.waits y.val).length)/\True)/\(Y3 Y9 (X7 (hF tx) l.held l.held.length) (X7 (hF tx) l.held l.held.length))/\(Y3 Y1 (X7 (wF tx) l.waits x.val) (X7 (wF tx) l.waits y.val))/\True)/\
  Lt (l.waits.length-y.val) (l.waits.length-x.val)))/\(decide ((x.val:Int)<(l.waits.length:Int))=false->(Le (0+(X7 (hF tx) l.held l.held.length).length) (X7 (hF tx) l.held l.held.length).length/\Le (0+(X7 (wF
  tx) l.waits x.val).length) (X7 (wF tx) l.waits x.val).length)/\(Y3 Y9 (X7 (hF tx) l.held l.held.length) (X7 (hF tx) l.held l.held.length))/\(Y3 Y1 (X7 (wF tx) l.waits x.val) (X7 (wF tx) l.waits
  l.waits.length))/\True))):
  Z1 Tryz.prog 185 [.agg l.ts,.int .i64 tx] (.agg (frK l tx).ts):=
 T7 (code:=c0R) (gC l7 E9 gN) Tryz.func185 (by kernel_rfl) (by kernel_rfl) (b9D l tx) h (by kernel_rfl)
theorem b2K{α:Type}[Inhabited α](f:α->List T)(n:Nat)(hf:∀a,(f a).length=n)(L:List α)(x:α):Z7 (L.length+1) (W4 (fun i=>f (L.getD i default)) L.length fun k=>List.take n (List.drop (k*n) (f x))) (fun i=>f ((L++[x]).getD i default)):=by
 intro i hi;unfold W4;by_cases h:i<L.length
 ·rw[b1b h];dsimp only;rw[List.getD_eq_getElem?_getD,List.getD_eq_getElem?_getD,List.getElem?_append_left h]
 ·have:i=L.length:=by omega
  subst this;rw[a95 h];dsimp only;have:(L++[x]).getD L.length default=x:=by rw[List.getD_eq_getElem?_getD,List.getElem?_append_right (Nat.le_refl _)];simp
  rw[this,Nat.sub_self,Nat.zero_mul,List.drop_zero,List.take_of_length_le (by rw[hf];exact Nat.le_refl _)]
theorem b0O{α:Type}[Inhabited α]{f:α->Bool}{L:List α}{i:Nat}(h:f (L.getD i default)=true):X7 f L (i+1)=X7 f L i++[L.getD i default]:=by
 conv=>lhs;unfold X7
 rw[if_pos h]
theorem a4c{α:Type}[Inhabited α]{f:α->Bool}{L:List α}{i:Nat}(h:f (L.getD i default)=false):X7 f L (i+1)=X7 f L i:=by
 conv=>lhs;unfold X7
 rw[if_neg (by rw[h];simp)]
theorem a0j{α:Type}[Inhabited α](f:α->Bool)(L:List α):∀i,(X7 f L i).length<=i
 |0=>Nat.le_refl _
 |i+1=>by
  have:=a0j f L i;unfold X7;split
  ·rw[List.length_append,List.length_singleton];omega
  ·omega
theorem a3J{α:Type}[Inhabited α]{f:α->Bool}{L:List α}{i:Nat}(h:f (L.getD i default)=true):(X7 f L i).length+1=(X7 f L (i+1)).length:=by
 rw[b0O h,List.length_append,List.length_singleton]
theorem b5N:Z2 Tryz.prog 185 c2S:=by
 rintro⟨l,tx⟩ ⟨h1,h2⟩;dsimp only at h1 h2;refine b9R l tx ⟨⟨⟨0,Nat.zero_le _⟩,(by repeat' first|exact trivial|exact rfl|exact Z9 _ _|exact U4 _|exact V0|exact T3 _|exact Nat.le_refl _|exact Nat.zero_le _|refine And.intro ?_ ?_)⟩,fun x=>⟨fun hc=> ?_,fun hc=> ?_⟩⟩
 ·have hlt:=Y6 hc;have hle:=a0j (hF tx) l.held x.val;rw[Int.toNat_natCast];refine⟨Y8 hlt,fun hq=> ?_,fun hq=> ?_⟩
  ·have hn:=a3J (f:=hF tx) hq;refine⟨Y8 hlt,⟨Nat.le_refl _,by unfold V6;omega⟩,Z5 (by omega),⟨x.val+1,hlt⟩,⟨⟨rfl,⟨rfl,rfl⟩,⟨rfl,rfl⟩,⟨rfl,rfl⟩,by dsimp only;omega,trivial⟩,⟨rfl,rfl,⟨rfl,Z9 _ _⟩,⟨rfl,Z9 _ _⟩,trivial⟩,⟨rfl,rfl,⟨rfl,V0⟩,⟨rfl,V0⟩,trivial⟩,⟨rfl,rfl,⟨rfl,hn⟩,⟨rfl,rfl⟩,trivial⟩,⟨hn,?_⟩,⟨rfl,V0⟩,trivial⟩,W5.ext_lt hlt⟩
   dsimp only;rw[b0O (f:=hF tx) hq];exact b2K Lck.ts 4 (fun _=>rfl) _ _
  ·have hn:=a4c (f:=hF tx) hq;refine⟨Z5 (by omega),⟨x.val+1,hlt⟩,?_,W5.ext_lt hlt⟩
   dsimp only;rw[hn];exact⟨⟨rfl,⟨rfl,rfl⟩,⟨rfl,rfl⟩,⟨rfl,rfl⟩,by omega,trivial⟩,⟨rfl,rfl,⟨rfl,Z9 _ _⟩,⟨rfl,Z9 _ _⟩,trivial⟩,⟨rfl,rfl,⟨rfl,V0⟩,⟨rfl,V0⟩,trivial⟩,⟨rfl,rfl,⟨rfl,rfl⟩,⟨rfl,rfl⟩,trivial⟩,⟨rfl,Z9 _ _⟩,⟨rfl,V0⟩,trivial⟩
 ·have hx:x.val=l.held.length:=by have:=x.2;have:=Y2 hc;omega
  rw[hx];refine⟨⟨⟨0,Nat.zero_le _⟩,(by repeat' first|exact trivial|exact rfl|exact Z9 _ _|exact U4 _|exact V0|exact T3 _|exact Nat.le_refl _|exact Nat.zero_le _|refine And.intro ?_ ?_)⟩,fun y=>⟨fun hc=> ?_,fun hc=> ?_⟩⟩
  ·have hlt:=Y6 hc;have hle:=a0j (wF tx) l.waits y.val;rw[Int.toNat_natCast];refine⟨Y8 hlt,fun _=>Y8 hlt,fun hq=> ?_,fun hq=> ?_⟩
   ·have hn:=a3J (f:=wF tx) hq;refine⟨Y8 hlt,⟨Nat.le_refl _,by unfold V6;omega⟩,Z5 (by omega),⟨y.val+1,hlt⟩,⟨⟨rfl,⟨rfl,rfl⟩,⟨rfl,rfl⟩,⟨rfl,rfl⟩,by dsimp only;omega,trivial⟩,⟨rfl,rfl,⟨rfl,Z9 _ _⟩,⟨rfl,Z9 _ _⟩,trivial⟩,⟨rfl,rfl,⟨rfl,V0⟩,⟨rfl,V0⟩,trivial⟩,⟨rfl,rfl,⟨rfl,rfl⟩,⟨rfl,hn⟩,trivial⟩,⟨rfl,Z9 _ _⟩,⟨hn,?_⟩,trivial⟩,W5.ext_lt hlt⟩
    dsimp only;rw[b0O (f:=wF tx) hq];exact b2K Wt.ts 2 (fun _=>rfl) _ _
   ·have hn:=a4c (f:=wF tx) hq;refine⟨Z5 (by omega),⟨y.val+1,hlt⟩,?_,W5.ext_lt hlt⟩
    dsimp only;rw[hn];exact⟨⟨rfl,⟨rfl,rfl⟩,⟨rfl,rfl⟩,⟨rfl,rfl⟩,by omega,trivial⟩,⟨rfl,rfl,⟨rfl,Z9 _ _⟩,⟨rfl,Z9 _ _⟩,trivial⟩,⟨rfl,rfl,⟨rfl,V0⟩,⟨rfl,V0⟩,trivial⟩,⟨rfl,rfl,⟨rfl,rfl⟩,⟨rfl,rfl⟩,trivial⟩,⟨rfl,Z9 _ _⟩,⟨rfl,Z9 _ _⟩,trivial⟩
  ·have hy:y.val=l.waits.length:=by have:=y.2;have:=Y2 hc;omega
   rw[hy];exact⟨⟨T3 _,T3 _⟩,⟨rfl,Z9 _ _⟩,⟨rfl,Z9 _ _⟩,trivial⟩
end Go.Proofs.YtokaojbaacnngaaGreat

namespace Go.Proofs.YtokaojbaacnngaaGreat
set_option maxRecDepth 100000
open Go.SS

def b0a(e:Eng)(k:Nat):Eng:={e with txs:=e.txs.take k++e.txs.drop (k+1),lk:=frK e.lk (e.txs.getD k default).id}
def b9c:Con:=.rel ⟨Eng×Nat,fun x=>[.agg x.1.ts,.int .i64 x.2],fun x=>.agg (b0a x.1 x.2).ts,fun x=>x.2<x.1.txs.length/\x.1.txs.length<=1000/\x.1.lk.held.length<=1000000/\x.1.lk.waits.length<=1000000⟩
noncomputable def c0L:Code:=Tryz.f117.body.getD .skip
theorem a7E:Z8 Tryz.prog 117:=⟨_,Tryz.func117,by kernel_rfl,by kernel_rfl⟩
theorem c0B(e:Eng)(k:Nat)(h:
  W7 (k:Int) e.txs.length/\∃(x:(Lks×Int)),((((Y3 Y9 e.lk.held x.fst.held)/\(Y3 Y1 e.lk.waits x.fst.waits)/\True)/\(e.txs.getD (k:Int).toNat default).id=x.snd/\True)/\x.fst.held.length<=1000000/\
  x.fst.waits.length<=1000000)/\InC (k:Int) e.txs.length/\(Le 0 0/\V6 0 (k:Int).toNat 16)/\X6 .i64 ((k:Int)+(1:Int))/\InC ((k:Int)+(1:Int)) e.txs.length/\(Le (0+(k:Int).toNat) (0+(k:Int).toNat)/\V6 (0+
  (k:Int).toNat) (e.txs.length- ((k:Int)+(1:Int)).toNat) 16)/\Le (0+(0+(k:Int).toNat+(e.txs.length- ((k:Int)+(1:Int)).toNat))) (0+(k:Int).toNat+(e.txs.length- ((k:Int)+(1:Int)).toNat))/\(Y3 Z6
  e.s.d.sec e.s.d.sec)/\(Y3 Z3 e.s.d.cache e.s.d.cache)/\e.s.d.armed=e.s.d.armed/\(Y3 Y7 e.s.d.keep e.s.d.keep)/\e.s.ep=e.s.ep/\(Y3 Y4 e.s.log e.s.log)/\e.s.sure=e.s.sure/\(Y3 V3 e.s.fr e.s.fr)/\
  e.s.hand=e.s.hand/\e.up=e.up/\(0+(k:Int).toNat+(e.txs.length- ((k:Int)+(1:Int)).toNat)=(List.take k e.txs++List.drop (k+1) e.txs).length/\Z7 (0+(k:Int).toNat+(e.txs.length- ((k:Int)+(1:
  Int)).toNat)) (W4 (W4 (fun(k:Nat)=>List.take 2 (List.drop (k*2) [])) 0 (X9 e.txs)) (0+(k:Int).toNat) fun(i:Nat)=>[T.int .i64 (e.txs.getD (((k:Int)+(1:Int)).toNat+i) default).id,T.int .i64
  (e.txs.getD (((k:Int)+(1:Int)).toNat+i) default).last]) (X9 (List.take k e.txs++List.drop (k+1) e.txs)))/\(Y3 Y9 (X7 (hF x.snd) x.fst.held x.fst.held.length) (X7 (hF (e.txs.getD k default).id) e.lk.held
  e.lk.held.length))/\(Y3 Y1 (X7 (wF x.snd) x.fst.waits x.fst.waits.length) (X7 (wF (e.txs.getD k default).id) e.lk.waits e.lk.waits.length))/\e.next=e.next/\True):
  Z1 Tryz.prog 117 [.agg e.ts,.int .i64 k] (.agg (b0a e k).ts):=
 T7 (code:=c0L) (gC b5N a8I (gC l7 E9 gN)) Tryz.func117 (by kernel_rfl) (by kernel_rfl) Z0 h (by kernel_rfl)
theorem c5q{L:List Txn}{k:Nat}(hk:k<L.length):Z7 (k+(L.length- (k+1))) (W4 (X9 L) k fun i=>(L.getD (k+1+i) default).ts) (X9 (L.take k++L.drop (k+1))):=by
 intro i hi;have hl:(L.take k).length=k:=by rw[List.length_take];omega
 unfold W4 X9;by_cases h:i<k
 ·rw[b1b h];dsimp only;rw[List.getD_eq_getElem?_getD,List.getD_eq_getElem?_getD,List.getElem?_append_left (by omega),List.getElem?_take_of_lt h]
 ·rw[a95 h];dsimp only;rw[List.getD_eq_getElem?_getD,List.getD_eq_getElem?_getD,List.getElem?_append_right (by omega),hl,List.getElem?_drop]
theorem b3B:Z2 Tryz.prog 117 b9c:=by
 rintro⟨e,k⟩ ⟨hk,h2,h3,h4⟩;dsimp only at hk h2 h3 h4;have e1:((k:Nat):Int).toNat=k:=Int.toNat_natCast k;have e2:((k:Int)+1).toNat=k+1:=by omega
 refine c0B e k ?_
 rw[e1,e2,Nat.zero_add,b99];refine⟨Y8 hk,(e.lk,(e.txs.getD k default).id),⟨⟨⟨⟨rfl,Z9 _ _⟩,⟨rfl,Z9 _ _⟩,trivial⟩,rfl,trivial⟩,h3,h4⟩,⟨by omega,by omega⟩,⟨Nat.le_refl _,by unfold V6;omega⟩,Z5 (by omega),⟨by omega,by omega⟩,⟨by unfold Le;omega,by unfold V6;omega⟩,by unfold Le;omega,⟨rfl,Z9 _ _⟩,⟨rfl,Z9 _ _⟩,rfl,⟨rfl,Z9 _ _⟩,rfl,⟨rfl,Z9 _ _⟩,rfl,⟨rfl,Z9 _ _⟩,rfl,rfl,⟨?_,c5q hk⟩,⟨rfl,Z9 _ _⟩,⟨rfl,Z9 _ _⟩,rfl,trivial⟩
 rw[List.length_append,List.length_take,List.length_drop];omega
end Go.Proofs.YtokaojbaacnngaaGreat

namespace Go.Proofs.YtokaojbaacnngaaGreat
set_option maxRecDepth 100000
open Go.SS

def c40:Rec:=⟨0,0,0,4,0,0,0,0,[],[]⟩
def T2(e:Eng)(tx:Int):Int×Int:=if e.up=true then(if V5 e.txs tx<0 then(0,19) else(V5 e.txs tx,0)) else(0,15)
def b5X:Con:=.rel ⟨Eng×Int,fun x=>[.agg x.1.ts,.int .i64 x.2],fun x=>.tup [.int .i64 (T2 x.1 x.2).1,.int .i64 (T2 x.1 x.2).2],fun x=>N8 x.1.txs.length⟩
noncomputable def b6g:Code:=Tryz.f115.body.getD .skip
theorem a6k:Z8 Tryz.prog 115:=⟨_,Tryz.func115,by kernel_rfl,by kernel_rfl⟩
theorem b5J(e:Eng)(tx:Int)(h:
  ((!e.up)=true->(0:Int)=(T2 e tx).fst/\(15:Int)=(T2 e tx).snd/\True)/\((!e.up)=false->∃(x:(Eng×Int)),(((u2 e x.fst)/\tx=x.snd/\True)/\N8 x.fst.txs.length)/\(decide (V5 x.fst.txs x.snd<(0:
  Int))=true->(0:Int)=(T2 e tx).fst/\(19:Int)=(T2 e tx).snd/\True)/\(decide (V5 x.fst.txs x.snd<(0:Int))=false->V5 x.fst.txs x.snd=(T2 e tx).fst/\(0:Int)=(T2 e tx).snd/\True))):
  Z1 Tryz.prog 115 [.agg e.ts,.int .i64 tx] (.tup [.int .i64 (T2 e tx).1,.int .i64 (T2 e tx).2]):=
 T7 (code:=b6g) (gC b0h a5b gN) Tryz.func115 (by kernel_rfl) (by kernel_rfl) Z0 h (by kernel_rfl)
theorem d6T{e:Eng}{tx:Int}(h:(!e.up)=true):T2 e tx=(0,15):=by unfold T2;rw[if_neg (by simpa using h)]
theorem d6M{e:Eng}{tx:Int}(h:(!e.up)=false)(h2:decide (V5 e.txs tx<0)=true):T2 e tx=(0,19):=by unfold T2;rw[if_pos (by simpa using h),if_pos (of_decide_eq_true h2)]
theorem d6G{e:Eng}{tx:Int}(h:(!e.up)=false)(h2:decide (V5 e.txs tx<0)=false):T2 e tx=(V5 e.txs tx,0):=by unfold T2;rw[if_pos (by simpa using h),if_neg (of_decide_eq_false h2)]
theorem b0k:Z2 Tryz.prog 115 b5X:=by
 rintro⟨e,tx⟩ (hL:N8 e.txs.length);refine b5J e tx ⟨fun hu=> ?_,fun hu=>⟨(e,tx),⟨⟨y8 _,rfl,trivial⟩,hL⟩,fun hq=> ?_,fun hq=> ?_⟩⟩
 ·rw[d6T hu];exact⟨rfl,rfl,trivial⟩
 ·rw[d6M hu hq];exact⟨rfl,rfl,trivial⟩
 ·rw[d6G hu hq];exact⟨rfl,rfl,trivial⟩
def a2D(e:Eng)(k:Nat):Eng:=c7X e k c40
def o6(e:Eng)(k:Nat):Sto×Bool:=W2 (a2D e k).s (e.s.log.length+1:Nat)
def b9(e:Eng)(k:Nat):Eng:={a2D e k with s:=(o6 e k).1}
noncomputable def V8(e:Eng)(tx:Int):Eng×Int:=if(T2 e tx).2=0 then(if(o6 e (T2 e tx).1.toNat).2=true then(b0a (b9 e (T2 e tx).1.toNat) (T2 e tx).1.toNat,0) else(a7f (b9 e (T2 e tx).1.toNat),15)) else(e,(T2 e tx).2)
def d4Y(e:Eng)(tx:Int):Prop:=N8 e.txs.length/\((T2 e tx).2=0->(T2 e tx).1.toNat<e.txs.length/\e.txs.length<=1000/\e.s.log.length<=1000/\a3D (a2D e (T2 e tx).1.toNat).s (e.s.log.length+1:Nat)/\C7 (o6 e (T2 e tx).1.toNat).1.d/\(o6 e (T2 e tx).1.toNat).1.d.sec.length=69/\e.lk.held.length<=1000000/\e.lk.waits.length<=1000000)
noncomputable def b07:Con:=.rel ⟨Eng×Int,fun x=>[.agg x.1.ts,.int .i64 x.2],fun x=>.tup [.agg (V8 x.1 x.2).1.ts,.int .i64 (V8 x.1 x.2).2],fun x=>d4Y x.1 x.2⟩
noncomputable def b0n:Code:=Tryz.f58.body.getD .skip
theorem a4q:Z8 Tryz.prog 58:=⟨_,Tryz.func58,by kernel_rfl,by kernel_rfl⟩
theorem b0A(e:Eng)(tx:Int)(h:
  ∃(x:(Eng×Int)),(((u2 e x.fst)/\tx=x.snd/\True)/\N8 x.fst.txs.length)/\(((T2 x.fst x.snd).snd !=(0:Int))=true->(u2 e (V8 e tx).fst)/\(T2 x.fst x.snd).snd=(V8 e tx).snd/\True)/\(((T2 x.fst
  x.snd).snd !=(0:Int))=false->∃(x_1:(Eng×Nat×Rec)),(((u2 e x_1.fst)/\(T2 x.fst x.snd).fst=(x_1.snd.fst:Int)/\((0:Int)=x_1.snd.snd.e/\(0:Int)=x_1.snd.snd.l/\(0:Int)=x_1.snd.snd.t/\(4:Int)=
  x_1.snd.snd.k/\(0:Int)=x_1.snd.snd.p/\(0:Int)=x_1.snd.snd.n/\(0:Int)=x_1.snd.snd.g/\(0:Int)=x_1.snd.snd.s/\[]=x_1.snd.snd.b/\[]=x_1.snd.snd.a/\True)/\True)/\x_1.snd.fst<x_1.fst.txs.length/\
  x_1.fst.txs.length<=1000/\x_1.fst.s.log.length<=1000)/\∃(x_2:(Sto×Int)),((((Y3 Z6 x_1.fst.s.d.sec x_2.fst.d.sec)/\(Y3 Z3 x_1.fst.s.d.cache x_2.fst.d.cache)/\x_1.fst.s.d.armed=x_2.fst.d.armed/\(Y3 Y7
  x_1.fst.s.d.keep x_2.fst.d.keep)/\x_1.fst.s.ep=x_2.fst.ep/\(Y3 Y4 (x_1.fst.s.log++[K9 x_1.fst.s (a0G x_1.fst x_1.snd.fst x_1.snd.snd)]) x_2.fst.log)/\x_1.fst.s.sure=x_2.fst.sure/\(Y3 V3 x_1.fst.s.fr
  x_2.fst.fr)/\x_1.fst.s.hand=x_2.fst.hand/\True)/\(↑(x_1.fst.s.log.length+1):Int)=x_2.snd/\True)/\a3D x_2.fst x_2.snd)/\((!(W2 x_2.fst x_2.snd).snd)=true->∃(x:(Eng×Dsk)),((((Y3 Z6 (W2 x_2.fst
  x_2.snd).fst.d.sec x.fst.s.d.sec)/\(Y3 Z3 (W2 x_2.fst x_2.snd).fst.d.cache x.fst.s.d.cache)/\(W2 x_2.fst x_2.snd).fst.d.armed=x.fst.s.d.armed/\(Y3 Y7 (W2 x_2.fst x_2.snd).fst.d.keep x.fst.s.d.keep)/\(W2
  x_2.fst x_2.snd).fst.ep=x.fst.s.ep/\(Y3 Y4 (W2 x_2.fst x_2.snd).fst.log x.fst.s.log)/\(W2 x_2.fst x_2.snd).fst.sure=x.fst.s.sure/\(Y3 V3 (W2 x_2.fst x_2.snd).fst.fr x.fst.s.fr)/\(W2 x_2.fst
  x_2.snd).fst.hand=x.fst.s.hand/\x_1.fst.up=x.fst.up/\(Y3 X9 (x_1.fst.txs.set x_1.snd.fst (Txn.mk (x_1.fst.txs.getD x_1.snd.fst default).id ((x_1.fst.s.log.length:Int)+(1:Int)))) x.fst.txs)/\(Y3 Y9
  x_1.fst.lk.held x.fst.lk.held)/\(Y3 Y1 x_1.fst.lk.waits x.fst.lk.waits)/\x_1.fst.next=x.fst.next/\True)/\(EqD (W2 x_2.fst x_2.snd).fst.d x.snd)/\True)/\C7 x.snd/\x.snd.sec.length=69)/\((Y3 Z6 x.snd.sec
  (V8 e tx).fst.s.d.sec)/\(Y3 Z3 x.snd.cache (V8 e tx).fst.s.d.cache)/\x.snd.armed=(V8 e tx).fst.s.d.armed/\(Y3 Y7 x.snd.keep (V8 e tx).fst.s.d.keep)/\x.fst.s.ep=(V8 e tx).fst.s.ep/\(Y3 Y4 (C5
  x.snd (lgM x.snd x.fst.s.ep)) (V8 e tx).fst.s.log)/\(↑(lgM x.snd x.fst.s.ep):Int)=(V8 e tx).fst.s.sure/\(0=(V8 e tx).fst.s.fr.length/\Z7 0 (V3 []) (V3 (V8 e tx).fst.s.fr))/\(0:Int)=(V8 e
  tx).fst.s.hand/\false=(V8 e tx).fst.up/\(0=(V8 e tx).fst.txs.length/\Z7 0 (X9 []) (X9 (V8 e tx).fst.txs))/\(0=(V8 e tx).fst.lk.held.length/\Z7 0 (Y9 []) (Y9 (V8 e tx).fst.lk.held))/\(0
  =(V8 e tx).fst.lk.waits.length/\Z7 0 (Y1 []) (Y1 (V8 e tx).fst.lk.waits))/\x.fst.next=(V8 e tx).fst.next/\True)/\(15:Int)=(V8 e tx).snd/\True)/\((!(W2 x_2.fst x_2.snd).snd)=false->∃(x_3:(Eng
  ×Nat)),((((Y3 Z6 (W2 x_2.fst x_2.snd).fst.d.sec x_3.fst.s.d.sec)/\(Y3 Z3 (W2 x_2.fst x_2.snd).fst.d.cache x_3.fst.s.d.cache)/\(W2 x_2.fst x_2.snd).fst.d.armed=x_3.fst.s.d.armed/\(Y3 Y7 (W2 x_2.fst
  x_2.snd).fst.d.keep x_3.fst.s.d.keep)/\(W2 x_2.fst x_2.snd).fst.ep=x_3.fst.s.ep/\(Y3 Y4 (W2 x_2.fst x_2.snd).fst.log x_3.fst.s.log)/\(W2 x_2.fst x_2.snd).fst.sure=x_3.fst.s.sure/\(Y3 V3 (W2 x_2.fst
  x_2.snd).fst.fr x_3.fst.s.fr)/\(W2 x_2.fst x_2.snd).fst.hand=x_3.fst.s.hand/\x_1.fst.up=x_3.fst.up/\(Y3 X9 (x_1.fst.txs.set x_1.snd.fst (Txn.mk (x_1.fst.txs.getD x_1.snd.fst default).id ((x_1.fst.s.log.length:Int)+
  (1:Int)))) x_3.fst.txs)/\(Y3 Y9 x_1.fst.lk.held x_3.fst.lk.held)/\(Y3 Y1 x_1.fst.lk.waits x_3.fst.lk.waits)/\x_1.fst.next=x_3.fst.next/\True)/\(T2 x.fst x.snd).fst=(x_3.snd:Int)/\True)/\x_3.snd<
  x_3.fst.txs.length/\x_3.fst.txs.length<=1000/\x_3.fst.lk.held.length<=1000000/\x_3.fst.lk.waits.length<=1000000)/\((Y3 Z6 x_3.fst.s.d.sec (V8 e tx).fst.s.d.sec)/\(Y3 Z3 x_3.fst.s.d.cache (V8 e
  tx).fst.s.d.cache)/\x_3.fst.s.d.armed=(V8 e tx).fst.s.d.armed/\(Y3 Y7 x_3.fst.s.d.keep (V8 e tx).fst.s.d.keep)/\x_3.fst.s.ep=(V8 e tx).fst.s.ep/\(Y3 Y4 x_3.fst.s.log (V8 e tx).fst.s.log)/\x_3.fst.s.sure
  =(V8 e tx).fst.s.sure/\(Y3 V3 x_3.fst.s.fr (V8 e tx).fst.s.fr)/\x_3.fst.s.hand=(V8 e tx).fst.s.hand/\x_3.fst.up=(V8 e tx).fst.up/\(Y3 X9 (List.take x_3.snd x_3.fst.txs++List.drop (x_3.snd+1)
  x_3.fst.txs) (V8 e tx).fst.txs)/\(Y3 Y9 (X7 (hF (x_3.fst.txs.getD x_3.snd default).id) x_3.fst.lk.held x_3.fst.lk.held.length) (V8 e tx).fst.lk.held)/\(Y3 Y1 (X7 (wF (x_3.fst.txs.getD x_3.snd default).id)
  x_3.fst.lk.waits x_3.fst.lk.waits.length) (V8 e tx).fst.lk.waits)/\x_3.fst.next=(V8 e tx).fst.next/\True)/\(0:Int)=(V8 e tx).snd/\True))):
  Z1 Tryz.prog 58 [.agg e.ts,.int .i64 tx] (.tup [.agg (V8 e tx).1.ts,.int .i64 (V8 e tx).2]):=
 T7 (code:=b0n) (gC b0k a6k (gC d0z c2D (gC b2k a53 (gC b6Q a7d (gC b3B a7E gN))))) Tryz.func58 (by kernel_rfl) (by kernel_rfl) Z0 h (by kernel_rfl)
theorem d57{e:Eng}{tx:Int}(h:(T2 e tx).2=0):(T2 e tx).1=(((T2 e tx).1.toNat:Nat):Int):=by
 have:0<=(T2 e tx).1:=by
  revert h;unfold T2;split
  ·split
   ·intro h;cases h
   ·intro _;dsimp only;omega
  ·intro h;cases h
 omega
theorem a9c:Z2 Tryz.prog 58 b07:=by
 rintro⟨e,tx⟩ ⟨hL,hB⟩;dsimp only at hL hB;refine b0A e tx ⟨(e,tx),⟨⟨y8 _,rfl,trivial⟩,hL⟩,fun hq=> ?_,fun hq=> ?_⟩
 ·have h0:¬ (T2 e tx).2=0:=by simpa using hq
  have e0:V8 e tx=(e,(T2 e tx).2):=by unfold V8;rw[if_neg h0]
  rw[e0];exact⟨y8 _,rfl,trivial⟩
 ·have h0:(T2 e tx).2=0:=by simpa using hq
  obtain⟨b1,b2,b3,b4,b5,b6,b7,b8⟩:=hB h0;have hk:=d57 h0;have hl:(e.txs.set (T2 e tx).1.toNat ⟨(e.txs.getD (T2 e tx).1.toNat default).id,(e.s.log.length:Int)+1⟩).length=e.txs.length:=List.length_set;refine⟨(e,(T2 e tx).1.toNat,c40),⟨⟨y8 _,hk,⟨rfl,rfl,rfl,rfl,rfl,rfl,rfl,rfl,rfl,rfl,trivial⟩,trivial⟩,b1,b2,b3⟩,((a2D e (T2 e tx).1.toNat).s,(e.s.log.length+1:Nat)),⟨⟨eqS (a2D e (T2 e tx).1.toNat).s,rfl,trivial⟩,b4⟩,fun hf=> ?_,fun hf=> ?_⟩
  ·have hf:¬ (o6 e (T2 e tx).1.toNat).2=true:=fun h=>by
    have hf:(!(o6 e (T2 e tx).1.toNat).2)=true:=hf;rw[h] at hf;cases hf
   have e0:V8 e tx=(a7f (b9 e (T2 e tx).1.toNat),15):=by unfold V8;rw[if_pos h0,if_neg hf]
   rw[e0];exact⟨(b9 e (T2 e tx).1.toNat,(o6 e (T2 e tx).1.toNat).1.d),⟨⟨y8 (b9 e (T2 e tx).1.toNat),eqD (o6 e (T2 e tx).1.toNat).1.d,trivial⟩,b5,b6⟩,y8 (a7f (b9 e (T2 e tx).1.toNat)),rfl,trivial⟩
  ·have hf:(o6 e (T2 e tx).1.toNat).2=true:=by
    have hf:(!(o6 e (T2 e tx).1.toNat).2)=false:=hf
    simpa using hf
   have e0:V8 e tx=(b0a (b9 e (T2 e tx).1.toNat) (T2 e tx).1.toNat,0):=by unfold V8;rw[if_pos h0,if_pos hf]
   rw[e0];exact⟨(b9 e (T2 e tx).1.toNat,(T2 e tx).1.toNat),⟨⟨y8 (b9 e (T2 e tx).1.toNat),hk,trivial⟩,by show _<(e.txs.set _ _).length;omega,by show(e.txs.set _ _).length<=_;omega,b7,b8⟩,y8 (b0a (b9 e (T2 e tx).1.toNat) (T2 e tx).1.toNat),rfl,trivial⟩
end Go.Proofs.YtokaojbaacnngaaGreat

namespace Go.Proofs.YtokaojbaacnngaaGreat
set_option maxRecDepth 100000
open Go.SS

theorem d1Q{r:Rec}(h:S2 r=true):r.b.length<=30/\r.a.length<=38:=by
 have h:=(Q8 r).1 h;unfold m7 at h;obtain⟨_,_,_,_,_,_,_,_,_,_,_,_,_,_,hb,h6,h7⟩:=h;refine⟨by omega,?_⟩
 by_cases hk:r.k=6
 ·exact b7Q (h6 hk).2.2.2.2.2.2
 ·have:=(h7 hk).2.2.1;omega
theorem d5G{r:Rec}(h:S2 r=true):(P9 r).length<=160:=by
 obtain⟨h1,h2⟩:=d1Q h;have e4:(by4 (crc (b9f r))).length=4:=rfl;have hl:(P9 r).length=16+(r.b.length+r.a.length):=by
  unfold P9 b9f;rw[List.length_append];simp only[P0,U7,List.length_append,List.length_cons,List.length_nil];show _+4=_;simp;omega
 omega
def d63(d:Dsk):Prop:=d.sec.length=69/\d.keep.length<=500/\(d.armed=false->d.keep.length=0)/\(∀i,i<d.sec.length->(d.sec.getD i []).length<=160)/\∀i,i<d.cache.length->(d.cache.getD i default).d.length<=160
theorem d1Y{d:Dsk}(h:d63 d):C7 (U2 d).1/\(U2 d).1.sec.length=69:=by
 obtain⟨h1,h2,h3,h4,h5⟩:=h;unfold U2;split
 ·have hl:(crD d d.keep).sec.length=d.sec.length:=B2 _ _ _ _;refine⟨⟨by dsimp only;omega,by dsimp only;omega,Nat.zero_le _,Nat.zero_le _,fun _=>rfl,fun i hi=> ?_,fun i hi=>absurd hi (Nat.not_lt_zero _)⟩,by dsimp only;omega⟩
  dsimp only at hi;rw[hl] at hi;exact c67 d.sec d.cache (kp d.keep) h4 h5 _ (Nat.le_refl _) i hi
 ·have hl:(y6 d.sec d.cache (fun _=>true) d.cache.length).length=d.sec.length:=B2 _ _ _ _
  refine⟨⟨by dsimp only;omega,by dsimp only;omega,Nat.zero_le _,h2,h3,fun i hi=> ?_,fun i hi=>absurd hi (Nat.not_lt_zero _)⟩,by dsimp only;omega⟩
  dsimp only at hi;rw[hl] at hi;exact c67 d.sec d.cache (fun _=>true) h4 h5 _ (Nat.le_refl _) i hi
theorem d3W{s:Sto}{l:Int}(hd:C7 s.d)(hb:a3D s l)(hr:a0d s.log):d63 (wrN s (P8 s l)):=by
 have h69:=hb.2.2.2.1;refine⟨h69,hd.2.2.2.1,hd.2.2.2.2.1,hd.2.2.2.2.2.1,fun i hi=> ?_⟩
 have hi:i<(s.d.cache++List.map (pdR s) (List.range (P8 s l))).length:=hi;show((s.d.cache++List.map (pdR s) (List.range (P8 s l))).getD i default).d.length<=160;rw[List.getD_eq_getElem?_getD]
 by_cases hc:i<s.d.cache.length
 ·rw[List.getElem?_append_left hc,←List.getD_eq_getElem?_getD]
  exact(b0E (hd.2.2.2.2.2.2 i hc)).2.2
 ·rw[List.getElem?_append_right (by omega),←List.getD_eq_getElem?_getD]
  simp only[List.length_append,List.length_map,List.length_range] at hi;rw[C3 _ (by omega)]
  have hn:=a8m (i:=i-s.d.cache.length) hb (by omega)
  obtain⟨_,_,_,_,b5,_,_,b8,_⟩:=hb;exact d5G ((Q8 _).2 (hr.2 _ (by omega)).1)
theorem d1c{s:Sto}{l:Int}(hd:C7 s.d)(hb:a3D s l)(hr:a0d s.log):C7 (W2 s l).1.d/\(W2 s l).1.d.sec.length=69:=by
 by_cases hl:l<=s.sure
 ·rw[a72 hl];exact⟨hd,hb.2.2.2.1⟩
 ·rw[a9j hl];exact d1Y (d3W hd hb hr)
theorem c4H(s:Sto)(l:Int):(W2 s l).1.log=s.log/\(W2 s l).1.fr=s.fr:=by
 by_cases hl:l<=s.sure
 ·rw[a72 hl];exact⟨rfl,rfl⟩
 ·rw[a9j hl];exact⟨rfl,rfl⟩
theorem d0p{e:Eng}(h:P1 e=true)(hu:e.up=true):e.s.log.length+ndE e<=60:=by
 have h3:=(G8 h).2.2;rw[if_pos hu] at h3;unfold upE at h3;simp only[Bool.and_eq_true,decide_eq_true_eq] at h3;exact h3.2
theorem d4Z{e:Eng}{k:Nat}(hk:k<e.txs.length):1<=ndE e:=by
 unfold ndE;cases he:e.txs.length with
 |zero=>omega
 |succ n=>unfold ndS;omega
theorem d0d{e:Eng}(h:P1 e=true)(hu:e.up=true){i:Nat}(hi:i<e.txs.length):1<=(e.txs.getD i default).last/\(e.txs.getD i default).last<=e.s.log.length:=by
 have:=d3z h hu i hi;unfold I0 a2b at this;simp only[Bool.or_eq_false_iff,Bool.not_eq_false',Bool.and_eq_true,N3] at this;exact this.2.1
theorem b4a{l:Lks}(h:L8 l=true):l.held.length<=60/\l.waits.length<=100:=by
 unfold L8 at h;simp only[Bool.and_eq_true,decide_eq_true_eq] at h;exact h.2.1
theorem b6L{e:Eng}{tx:Int}(h:(T2 e tx).2=0):e.up=true/\∃k:Nat,(T2 e tx).1=(k:Int)/\k<e.txs.length/\(e.txs.getD k default).id=tx/\V5 e.txs tx=k:=by
 revert h;unfold T2;split
 ·rename_i hu;split
  ·intro h;cases h
  ·rename_i h0;intro _;have h0:¬T4 e.txs.length (A9 e.txs tx)<0:=h0;obtain⟨i,hi,hp,_,he⟩:=a3I h0;exact⟨hu,i,he,hi,by unfold A9 at hp;simpa using hp,he⟩
 ·intro h;cases h
def d4o(e:Eng)(k:Nat)(r:Rec):Prop:=r.k≠6/\r.k≠1/\1<=r.k/\r.k<=6/\(r.k≠3->r.n=0)/\(r.k≠2->r.k≠3->r.g=0/\r.s=0/\r.b=[]/\r.a=[])/\0<=r.n/\r.n<=(e.s.log.length:Int)/\0<=r.g/\r.g<=7/\0<=r.s/\r.s<=3/\r.b.length<=30/\r.a.length<=30/\(r.k=3->r.b=[])/\k<e.txs.length
theorem d3B{e:Eng}{tx:Int}{k:Nat}{r:Rec}(ho:P1 e=true)(hu:e.up=true)(ha:V5 e.txs tx=k)(hk:k<e.txs.length)(hi:(e.txs.getD k default).id=tx)(hr:d4o e k r):AddB e tx k r/\(S2 (K9 e.s (a0G e k r))=true/\e.s.log.length+1<=60):=by
 obtain⟨a1,a2,a3,_⟩:=o7 (G8 ho).2.1;have he:=d4y (G8 ho).1;have hl:=d0d ho hu hk;have hid:=d6C ho hu hk;have hro:=d0p ho hu;have hn:=d4Z hk;obtain⟨r1,r2,r3,r4,r5,r6,r7,r8,r9,r10,r11,r12,r13,r14,r15,_⟩:=hr;have hok:S2 (K9 e.s (a0G e k r))=true:=by
  refine(Q8 _).2 ?_
  unfold m7 K9 a0G;dsimp only;refine⟨he.1,he.2,by omega,by omega,by omega,by omega,by omega,by omega,by omega,by omega,by omega,by omega,by omega,by omega,by omega,fun e=>absurd e r1,fun _=>⟨by omega,by omega,by omega,r6,r5,r15,⟨fun e=>absurd e r2,fun e=>by omega⟩⟩⟩
 exact⟨⟨ha,hk,hi,hok,by omega,by omega,⟨by omega,by omega⟩⟩,hok,by omega⟩
theorem c31{s:Sto}{r:Rec}(hL:a0d s.log)(h:S2 (K9 s r)=true)(hl:s.log.length+1<=60):a0d (apx s r).log:=by
 have e1:(apx s r).log=s.log++[K9 s r]:=rfl;rw[e1];refine⟨by simp;omega,fun i hi=> ?_⟩
 rw[List.length_append,List.length_singleton] at hi;by_cases hc:i<s.log.length
 ·have:(s.log++[K9 s r]).getD i default=s.log.getD i default:=by
   rw[List.getD_eq_getElem?_getD,List.getElem?_append_left hc,←List.getD_eq_getElem?_getD]
  rw[this];exact hL.2 i hc
 ·have:i=s.log.length:=by omega
  subst this;have:(s.log++[K9 s r]).getD s.log.length default=K9 s r:=b0q s r;rw[this];exact⟨(Q8 _).1 h,rfl⟩
theorem d4L{s:Sto}{l:Int}(hd:C7 s.d)(h69:s.d.sec.length=69)(hr:a0d s.log)(h0:0<=s.sure)(h1:s.sure<=s.log.length)(hl:l<=s.log.length):a3D s l:=by
 have hp:=d32 hd;obtain⟨d1,d2,d3,d4,_⟩:=hd;refine⟨⟨by omega,by omega,by omega⟩,by omega,hp,h69,h0,h1,hr.1,hl,fun i hi=> ?_⟩
 obtain⟨a,b⟩:=hr.2 i hi;exact⟨b,d5E ((Q8 _).2 a)⟩
theorem c5R{e:Eng}{k:Nat}(hk:k<e.txs.length):d4o e k c40:=by
 unfold d4o c40;dsimp only;exact⟨by omega,by omega,by omega,by omega,fun _=>rfl,fun _ _=>⟨rfl,rfl,rfl,rfl⟩,by omega,by omega,by omega,by omega,by omega,by omega,by decide,by decide,fun _=>rfl,hk⟩
theorem a8L{e:Eng}{tx:Int}{k:Nat}(ho:P1 e=true)(hu:e.up=true)(ha:V5 e.txs tx=k)(hk:k<e.txs.length)(hi:(e.txs.getD k default).id=tx):a0d (a2D e k).s.log/\a3D (a2D e k).s (e.s.log.length+1:Nat)/\C7 (o6 e k).1.d/\(o6 e k).1.d.sec.length=69:=by
 obtain⟨_,hok,hl⟩:=d3B ho hu ha hk hi (c5R hk);obtain⟨hd,h69⟩:=d2v ho;have hL:=c31 (a3M (G8 ho).1) hok hl;have hL:a0d (a2D e k).s.log:=hL;have hlen:(a2D e k).s.log.length=e.s.log.length+1:=by show(e.s.log++[_]).length=_;simp
 have hs:=d7a ((G7 e.s).1 (G8 ho).1).1.2.2;have hf:a3D (a2D e k).s (e.s.log.length+1:Nat):=d4L hd h69 hL hs.1 (by have:(a2D e k).s.sure=e.s.sure:=rfl;omega) (by omega)
 exact⟨hL,hf,d1c hd hf hL⟩
theorem d3p{e:Eng}(tx:Int)(ho:P1 e=true):d4Y e tx:=by
 obtain⟨a1,a2,a3,a4⟩:=o7 (G8 ho).2.1;obtain⟨l1,l2⟩:=b4a a4;refine⟨by unfold N8;omega,fun h0=> ?_⟩
 obtain⟨hu,k,e1,hk,hi,ha⟩:=b6L h0;rw[e1,Int.toNat_natCast];obtain⟨_,hf,hd,h69⟩:=a8L ho hu ha hk hi;exact⟨hk,by omega,by have:=(a3M (G8 ho).1).1;omega,hf,hd,h69,by omega,by omega⟩
noncomputable def X3(e:Eng)(tx:Int):Eng×Int:=if P1 e=true then V8 e tx else(d6I,1)
theorem c8v{d:Dsk}(h:C7 d):SmD d:=by
 obtain⟨d1,d2,d3,d4,_⟩:=h;exact⟨by omega,by omega,by omega⟩
theorem d4N{e:Eng}(hd:C7 e.s.d):L9 (a7f e):=by
 have hm:=d5M e.s.d e.s.ep;have h2:=hd.2.1;refine⟨⟨c8v hd,?_,Nat.zero_le _,fun i hi=>absurd hi (Nat.not_lt_zero _)⟩,Nat.zero_le _,Nat.zero_le _,Nat.zero_le _⟩
 show(C5 _ _).length<=_;rw[v4];omega
theorem a7O{e:Eng}{tx:Int}(h:L9 e)(ho:P1 e=true):L9 (V8 e tx).1:=by
 unfold V8;split
 ·rename_i h0;obtain⟨hu,k,e1,hk,hi,ha⟩:=b6L h0;rw[e1,Int.toNat_natCast];obtain⟨hL,hf,hd,h69⟩:=a8L ho hu ha hk hi;obtain⟨a1,a2,a3,a4⟩:=o7 (G8 ho).2.1;obtain⟨l1,l2⟩:=b4a a4;split
  ·obtain⟨f1,f2⟩:=c4H (a2D e k).s (e.s.log.length+1:Nat);have b1:=a0j (hF ((b9 e k).txs.getD k default).id) e.lk.held e.lk.held.length;have b2:=a0j (wF ((b9 e k).txs.getD k default).id) e.lk.waits e.lk.waits.length;refine⟨⟨c8v hd,?_,?_,?_⟩,?_,?_,?_⟩
   ·show(o6 e k).1.log.length<=_;unfold o6;rw[f1];have:=hL.1;omega
   ·show(o6 e k).1.fr.length<=_;unfold o6;rw[f2];exact h.1.2.2.1
   ·show ∀i,i<(o6 e k).1.fr.length->SmF ((o6 e k).1.fr.getD i default);unfold o6;rw[f2];exact h.1.2.2.2
   ·show(List.take k (b9 e k).txs++List.drop (k+1) (b9 e k).txs).length<=_;have:(b9 e k).txs.length=e.txs.length:=List.length_set;rw[List.length_append,List.length_take,List.length_drop,this];omega
   ·show(X7 _ e.lk.held e.lk.held.length).length<=_;omega
   ·show(X7 _ e.lk.waits e.lk.waits.length).length<=_;omega
  ·exact d4N hd
 ·exact h
theorem d0u{e:Eng}{tx:Int}(h:L9 e):L9 (X3 e tx).1:=by
 unfold X3;split
 ·rename_i ho;exact a7O h ho
 ·exact⟨⟨⟨Nat.zero_le _,Nat.zero_le _,Nat.zero_le _⟩,Nat.zero_le _,Nat.zero_le _,fun i hi=>absurd hi (Nat.not_lt_zero _)⟩,Nat.zero_le _,Nat.zero_le _,Nat.zero_le _⟩
noncomputable def c4e:Con:=.rfz ⟨Eng×Int,fun x=>[.agg x.1.ts,.int .i64 x.2],fun x=>.tup [.agg (X3 x.1 x.2).1.ts,.int .i64 (X3 x.1 x.2).2],fun x=>a46 x.1/\L9 x.1⟩
noncomputable def c3G:Code:=Tryz.f24.body.getD .skip
theorem b2a:Z8 Tryz.prog 24:=⟨_,Tryz.func24,by kernel_rfl,by kernel_rfl⟩
theorem c8F(e:Eng)(tx:Int)(h:
  ∃(x:a0x.ι),(((u2 e x)/\True)/\a46 x)/\((!P1 x)=true->((X3 e tx).fst.s.d.sec.length=0/\(X3 e tx).fst.s.d.cache.length=0/\false=(X3 e tx).fst.s.d.armed/\(X3 e tx).fst.s.d.keep.length=0/\(0:
  Int)=(X3 e tx).fst.s.ep/\(X3 e tx).fst.s.log.length=0/\(0:Int)=(X3 e tx).fst.s.sure/\(X3 e tx).fst.s.fr.length=0/\(0:Int)=(X3 e tx).fst.s.hand/\false=(X3 e tx).fst.up/\(X3 e tx).fst.txs.length=
  0/\(X3 e tx).fst.lk.held.length=0/\(X3 e tx).fst.lk.waits.length=0/\(0:Int)=(X3 e tx).fst.next/\True)/\(1:Int)=(X3 e tx).snd/\True)/\((!P1 x)=false->∃(x:(Eng×Int)),(((u2 e x.fst)/\tx=
  x.snd/\True)/\d4Y x.fst x.snd)/\∃(x_1:Eng),(((u2 (V8 x.fst x.snd).fst x_1)/\True)/\L9 x_1)/\(u2 x_1 (X3 e tx).fst)/\(V8 x.fst x.snd).snd=(X3 e tx).snd/\True)):
  Z1 Tryz.prog 24 [.agg e.ts,.int .i64 tx] (.tup [.agg (X3 e tx).1.ts,.int .i64 (X3 e tx).2]):=
 T7 (code:=c3G) (gC a7b a4g (gC a9c a4q (gC c1P b0U gN))) Tryz.func24 (by kernel_rfl) (by kernel_rfl) Z0 h (by kernel_rfl)
theorem d6z{e:Eng}{tx:Int}(h:(!P1 e)=true):X3 e tx=(d6I,1):=by unfold X3;rw[if_neg (by simpa using h)]
theorem d6x{e:Eng}{tx:Int}(h:(!P1 e)=false):X3 e tx=V8 e tx:=by unfold X3;rw[if_pos (by simpa using h)]
theorem c0o:Z2 Tryz.prog 24 c4e:=by
 rintro⟨e,tx⟩ ⟨h1,h2⟩;dsimp only at h1 h2;refine c8F e tx ⟨e,⟨⟨y8 _,trivial⟩,h1⟩,fun hq=> ?_,fun hq=> ?_⟩
 ·rw[d6z hq];exact⟨⟨rfl,rfl,rfl,rfl,rfl,rfl,rfl,rfl,rfl,rfl,rfl,rfl,rfl,rfl,trivial⟩,rfl,trivial⟩
 ·have ho:P1 e=true:=by simpa using hq
  rw[d6x hq];exact⟨(e,tx),⟨⟨y8 _,rfl,trivial⟩,d3p tx ho⟩,(V8 e tx).1,⟨⟨y8 _,trivial⟩,a7O h2 ho⟩,y8 _,rfl,trivial⟩
end Go.Proofs.YtokaojbaacnngaaGreat

