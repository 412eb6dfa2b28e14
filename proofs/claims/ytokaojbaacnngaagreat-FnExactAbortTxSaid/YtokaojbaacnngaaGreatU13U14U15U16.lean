/- A part of the proof. -/
import Derived.Test.YtokaojbaacnngaaGreatL7L8U10
import Derived.Test.YtokaojbaacnngaaGreatU3U4U5
import Derived.Test.YtokaojbaacnngaaGreatX11X11rX12X13X14
namespace Go.Proofs.YtokaojbaacnngaaGreat
set_option maxRecDepth 100000
open Go.SS

def W9{α:Type}[Inhabited α](f:α->Bool)(L:List α):Nat->List α
 |0=>[]
 |i+1=>if f (L.getD i default)=true then W9 f L i++[L.getD i default] else W9 f L i
def hF(tx:Int)(x:Lck):Bool:=x.tx !=tx
def wF(tx:Int)(w:Wt):Bool:=w.tx !=tx&&w.fo !=tx
def frK(l:Lks)(tx:Int):Lks:=⟨W9 (hF tx) l.held l.held.length,W9 (wF tx) l.waits l.waits.length⟩
def a6T:Con:=.rel ⟨Lks×Int,λx=>[.agg x.1.ts,.int .i64 x.2],λx=>.agg (frK x.1 x.2).ts,λx=>x.1.held.length<=1000000/\x.1.waits.length<=1000000⟩
def lkB(l:Lks):Option Ob:=some (.arr true 1000000 2 1 λ_=>l.ts)
def lkO(a n b m:Nat):Option Ob:=some (.arr false 1000000 2 1 λ_=>[.osl a 0 n,.osl b 0 m])
def a6U(l:Lks)(tx:Int):Nat->Ann
 |1=>.one {i:Nat//i<=l.waits.length} (λx=>⟨[(1,.int .i64 tx),(2,.ref 0 0 0),(4,.ref 1 0 0),(5,.ref 2 0 0),(7,.int .i64 x.1)],[lkB l,lkB ⟨[],[]⟩,lkO 3 (frK l tx).held.length 4 (W9 (wF tx) l.waits x.1).length,xJ (frK l tx).held,iE (W9 (wF tx) l.waits x.1)]⟩) (λx=>l.waits.length-x.1) [.box 0,.box 1,.box 2,.cel 2 0,.cel 2 1] [.box 0,.box 1,.box 2,.cel 2 0,.cel 2 1] (λ_=>Z0)
 |2=>.one {i:Nat//i<=l.waits.length} (λx=>⟨[(1,.int .i64 tx),(2,.ref 0 0 0),(4,.ref 1 0 0),(5,.ref 2 0 0),(7,.int .i64 x.1)],[lkB l,lkB ⟨[],[]⟩,lkO 3 (frK l tx).held.length 4 (W9 (wF tx) l.waits x.1).length,xJ (frK l tx).held,iE (W9 (wF tx) l.waits x.1)]⟩) (λx=>l.waits.length-x.1) [.box 0,.box 1,.box 2,.cel 2 0,.cel 2 1] [.box 0,.box 1,.box 2,.cel 2 0,.cel 2 1] (λ_=>Z0)
 |_=>.none
def a9C(l:Lks)(tx:Int):Nat->Ann
 |0=>.one {i:Nat//i<=l.held.length} (λx=>⟨[(1,.int .i64 tx),(2,.ref 0 0 0),(4,.ref 1 0 0),(5,.ref 2 0 0),(6,.int .i64 x.1)],[lkB l,lkB ⟨[],[]⟩,lkO 3 (W9 (hF tx) l.held x.1).length 4 0,xJ (W9 (hF tx) l.held x.1),iE []]⟩) (λx=>l.held.length-x.1) [.box 0,.box 1,.box 4,.arr 2,.arr 3] [.box 0,.box 1,.box 2,.cel 2 0,.cel 2 1] (λ_=>a6U l tx)
 |_=>.none
theorem aW{α:Type}[Inhabited α](f:α->List T)(n:Nat)(hf:∀a,(f a).length=n)(L:List α)(x:α):Z6 (L.length+1) (W7 (λi=>f (L.getD i default)) L.length λk=>List.take n (List.drop (k*n) (f x))) (λi=>f ((L++[x]).getD i default)):=by
 intro i hi;unfold W7;by_cases h:i<L.length
 ·rw[rM h];dsimp only;rw[N9,N9,sC h]
 ·have:i=L.length:=by omega
  subst this;rw[nB h];dsimp only;have:(L++[x]).getD L.length default=x:=by rw[N9,qK (V1 _)];simp
  rw[this,j_h,Nat.zero_mul,List.drop_zero,List.take_of_length_le (by rw[hf];exact V1 _)]
theorem a0x{α:Type}[Inhabited α]{f:α->Bool}{L:List α}{i:Nat}(h:f (L.getD i default)=true):W9 f L (i+1)=W9 f L i++[L.getD i default]:=by
 conv=>lhs;unfold W9
 rw[if_pos h]
theorem lX{α:Type}[Inhabited α]{f:α->Bool}{L:List α}{i:Nat}(h:f (L.getD i default)=false):W9 f L (i+1)=W9 f L i:=by
 conv=>lhs;unfold W9
 rw[if_neg (by rw[h];simp)]
theorem wR{α:Type}[Inhabited α](f:α->Bool)(L:List α):∀i,(W9 f L i).length<=i
 |0=>V1 _
 |i+1=>by
  have:=wR f L i;unfold W9;split
  ·rw[B8,List.length_singleton];omega
  ·omega
theorem oB{α:Type}[Inhabited α]{f:α->Bool}{L:List α}{i:Nat}(h:f (L.getD i default)=true):(W9 f L i).length+1=(W9 f L (i+1)).length:=by
 rw[a0x h,B8,List.length_singleton]
theorem a4z:GK 185 a6T:=gk Tryz.func185<|by
 rintro⟨l,tx⟩ ⟨h1,h2⟩;dsimp only at h1 h2;refine S3 (gC k6 gN) Tryz.func185 (a9C l tx) (α:=(∃(x:{i:Nat//i<=l.held.length}),(tx=tx/\(0=0/\0=0)/\(0=0/\0=0)/\(0=0/\0=0)/\(0:Int)=(x.val:Int)/\True)/\(1=1/\1=1/\(Y6 Y5 l.held l.held)/\(Y6 X6 l.waits l.waits)/\True)/\(1=1/\1=1/\0=0/\0=0/\True)/\(1=1/\1=1/\(0=0/\0=(W9 (hF tx) l.held x.val).length)/\(0=0/\0=0)/\True)/\(0=(W9 (hF tx) l.held x.val).length/\Z6 0 (λ(k:Nat)=>List.take 4 (List.drop (k*4) [])) (Y5 (W9 (hF tx) l.held x.val)))/\(0=0/\Z6 0 (λ(k:Nat)=>List.take 2 (List.drop (k*2) [])) (X6 []))/\True)/\∀(x:{i:Nat//i<=l.held.length}),(decide ((x.val:Int)<(l.held.length:Int))=true->W2 (x.val:Int) l.held.length/\(((l.held.getD (x.val:Int).toNat default).tx !=tx)=true->W2 (x.val:Int) l.held.length/\(Le (W9 (hF tx) l.held x.val).length (W9 (hF tx) l.held x.val).length/\V7 (W9 (hF tx) l.held x.val).length 1 32)/\X2 .i64 ((x.val:Int)+(1:Int))/\∃(y:{i:Nat//i<=l.held.length}),((tx=tx/\(0=0/\0=0)/\(0=0/\0=0)/\(0=0/\0=0)/\(x.val:Int)+(1:Int)=(y.val:Int)/\True)/\(1=1/\1=1/\(Y6 Y5 l.held l.held)/\(Y6 X6 l.waits l.waits)/\True)/\(1=1/\1=1/\(0=0/\Z6 0 (Y5 []) (Y5 []))/\(0=0/\Z6 0 (X6 []) (X6 []))/\True)/\(1=1/\1=1/\(0=0/\(W9 (hF tx) l.held x.val).length+1=(W9 (hF tx) l.held y.val).length)/\(0=0/\0=0)/\True)/\((W9 (hF tx) l.held x.val).length+1=(W9 (hF tx) l.held y.val).length/\Z6 ((W9 (hF tx) l.held x.val).length+1) (W7 (Y5 (W9 (hF tx) l.held x.val)) (W9 (hF tx) l.held x.val).length λ(k:Nat)=>List.take 4 (List.drop (k*4) [T.int .i64 (l.held.getD (x.val:Int).toNat default).tx,T.int .i64 (l.held.getD (x.val:Int).toNat default).ta,T.int .i64 (l.held.getD (x.val:Int).toNat default).row,T.int .i64 (l.held.getD (x.val:Int).toNat default).mo])) (Y5 (W9 (hF tx) l.held y.val)))/\(0=0/\Z6 0 (X6 []) (X6 []))/\True)/\Lt (l.held.length-y.val) (l.held.length-x.val))/\(((l.held.getD (x.val:Int).toNat default).tx !=tx)=false->X2 .i64 ((x.val:Int)+(1:Int))/\∃(y:{i:Nat//i<=l.held.length}),((tx=tx/\(0=0/\0=0)/\(0=0/\0=0)/\(0=0/\0=0)/\(x.val:Int)+(1:Int)=(y.val:Int)/\True)/\(1=1/\1=1/\(Y6 Y5 l.held l.held)/\(Y6 X6 l.waits l.waits)/\True)/\(1=1/\1=1/\(0=0/\Z6 0 (Y5 []) (Y5 []))/\(0=0/\Z6 0 (X6 []) (X6 []))/\True)/\(1=1/\1=1/\(0=0/\(W9 (hF tx) l.held x.val).length=(W9 (hF tx) l.held y.val).length)/\(0=0/\0=0)/\True)/\(Y6 Y5 (W9 (hF tx) l.held x.val) (W9 (hF tx) l.held y.val))/\(0=0/\Z6 0 (X6 []) (X6 []))/\True)/\Lt (l.held.length-y.val) (l.held.length-x.val)))/\(decide ((x.val:Int)<(l.held.length:Int))=false->(∃(x_1:{i:Nat//i<=l.waits.length}),(tx=tx/\(0=0/\0=0)/\(0=0/\0=0)/\(0=0/\0=0)/\(0:Int)=(x_1.val:Int)/\True)/\(1=1/\1=1/\(Y6 Y5 l.held l.held)/\(Y6 X6 l.waits l.waits)/\True)/\(1=1/\1=1/\(0=0/\Z6 0 (Y5 []) (Y5 []))/\(0=0/\Z6 0 (X6 []) (X6 []))/\True)/\(1=1/\1=1/\(0=0/\(W9 (hF tx) l.held x.val).length=(W9 (hF tx) l.held l.held.length).length)/\(0=0/\0=(W9 (wF tx) l.waits x_1.val).length)/\True)/\(Y6 Y5 (W9 (hF tx) l.held x.val) (W9 (hF tx) l.held l.held.length))/\(0=(W9 (wF tx) l.waits x_1.val).length/\Z6 0 (X6 []) (X6 (W9 (wF tx) l.waits x_1.val)))/\True)/\∀(x:{i:Nat//i<=l.waits.length}),(decide ((x.val:Int)<(l.waits.length:Int))=true->W2 (x.val:Int) l.waits.length/\(((l.waits.getD (x.val:Int).toNat default).tx !=tx)=true->W2 (x.val:Int) l.waits.length)/\(((l.waits.getD (x.val:Int).toNat default).tx !=tx&&(l.waits.getD (x.val:Int).toNat default).fo !=tx)=true->W2 (x.val:Int) l.waits.length/\(Le (W9 (wF tx) l.waits x.val).length (W9 (wF tx) l.waits x.val).length/\V7 (W9 (wF tx) l.waits x.val).length 1 16)/\X2 .i64 ((x.val:Int)+(1:Int))/\∃(y:{i:Nat//i<=l.waits.length}),((tx=tx/\(0=0/\0=0)/\(0=0/\0=0)/\(0=0/\0=0)/\(x.val:Int)+(1:Int)=(y.val:Int)/\True)/\(1=1/\1=1/\(Y6 Y5 l.held l.held)/\(Y6 X6 l.waits l.waits)/\True)/\(1=1/\1=1/\(0=0/\Z6 0 (Y5 []) (Y5 []))/\(0=0/\Z6 0 (X6 []) (X6 []))/\True)/\(1=1/\1=1/\(0=0/\(W9 (hF tx) l.held l.held.length).length=(W9 (hF tx) l.held l.held.length).length)/\(0=0/\(W9 (wF tx) l.waits x.val).length+1=(W9 (wF tx) l.waits y.val).length)/\True)/\(Y6 Y5 (W9 (hF tx) l.held l.held.length) (W9 (hF tx) l.held l.held.length))/\((W9 (wF tx) l.waits x.val).length+1=(W9 (wF tx) l.waits y.val).length/\Z6 ((W9 (wF tx) l.waits x.val).length+1) (W7 (X6 (W9 (wF tx) l.waits x.val)) (W9 (wF tx) l.waits x.val).length λ(k:Nat)=>List.take 2 (List.drop (k*2) [T.int .i64 (l.waits.getD (x.val:Int).toNat default).tx,T.int .i64 (l.waits.getD (x.val:Int).toNat default).fo])) (X6 (W9 (wF tx) l.waits y.val)))/\True)/\Lt (l.waits.length-y.val) (l.waits.length-x.val))/\(((l.waits.getD (x.val:Int).toNat default).tx !=tx&&(l.waits.getD (x.val:Int).toNat default).fo !=tx)=false->X2 .i64 ((x.val:Int)+(1:Int))/\∃(y:{i:Nat//i<=l.waits.length}),((tx=tx/\(0=0/\0=0)/\(0=0/\0=0)/\(0=0/\0=0)/\(x.val:Int)+(1:Int)=(y.val:Int)/\True)/\(1=1/\1=1/\(Y6 Y5 l.held l.held)/\(Y6 X6 l.waits l.waits)/\True)/\(1=1/\1=1/\(0=0/\Z6 0 (Y5 []) (Y5 []))/\(0=0/\Z6 0 (X6 []) (X6 []))/\True)/\(1=1/\1=1/\(0=0/\(W9 (hF tx) l.held l.held.length).length=(W9 (hF tx) l.held l.held.length).length)/\(0=0/\(W9 (wF tx) l.waits x.val).length=(W9 (wF tx) l.waits y.val).length)/\True)/\(Y6 Y5 (W9 (hF tx) l.held l.held.length) (W9 (hF tx) l.held l.held.length))/\(Y6 X6 (W9 (wF tx) l.waits x.val) (W9 (wF tx) l.waits y.val))/\True)/\Lt (l.waits.length-y.val) (l.waits.length-x.val)))/\(decide ((x.val:Int)<(l.waits.length:Int))=false->(Le (0+(W9 (hF tx) l.held l.held.length).length) (W9 (hF tx) l.held l.held.length).length/\Le (0+(W9 (wF tx) l.waits x.val).length) (W9 (wF tx) l.waits x.val).length)/\(Y6 Y5 (W9 (hF tx) l.held l.held.length) (W9 (hF tx) l.held l.held.length))/\(Y6 X6 (W9 (wF tx) l.waits x.val) (W9 (wF tx) l.waits l.waits.length))/\True))) ⟨⟨⟨0,S2 _⟩,(by repeat' first|exact trivial|exact rfl|exact Z2 _ _|exact R9 _|exact U5|exact U2 _|exact V1 _|exact S2 _|refine And.intro ?_ ?_)⟩,λx=>⟨λhc=> ?_,λhc=> ?_⟩⟩
 ·have hlt:=Y1 hc;have hle:=wR (hF tx) l.held x.val;rw[z7];refine⟨Y3 hlt,λhq=> ?_,λhq=> ?_⟩
  ·have hn:=oB (f:=hF tx) hq;refine⟨Y3 hlt,⟨V1 _,by unfold V7;omega⟩,Z4 (by omega),⟨x.val+1,hlt⟩,⟨⟨rfl,Z7,Z7,Z7,by dsimp only;omega,trivial⟩,⟨rfl,rfl,⟨rfl,Z2 _ _⟩,⟨rfl,Z2 _ _⟩,trivial⟩,⟨rfl,rfl,⟨rfl,U5⟩,⟨rfl,U5⟩,trivial⟩,⟨rfl,rfl,⟨rfl,hn⟩,⟨rfl,rfl⟩,trivial⟩,⟨hn,?_⟩,⟨rfl,U5⟩,trivial⟩,V3.ext_lt hlt⟩
   dsimp only;rw[a0x (f:=hF tx) hq];exact aW Lck.ts 4 (λ_=>rfl) _ _
  ·have hn:=lX (f:=hF tx) hq;refine⟨Z4 (by omega),⟨x.val+1,hlt⟩,?_,V3.ext_lt hlt⟩
   dsimp only;rw[hn];exact⟨⟨rfl,Z7,Z7,Z7,by omega,trivial⟩,⟨rfl,rfl,Z8,X8⟩,⟨rfl,rfl,⟨rfl,U5⟩,⟨rfl,U5⟩,trivial⟩,⟨rfl,rfl,Z7,U6⟩,Z8,⟨rfl,U5⟩,trivial⟩
 ·have hx:x.val=l.held.length:=by have:=x.2;have:=X9 hc;omega
  rw[hx];refine⟨⟨⟨0,S2 _⟩,(by repeat' first|exact trivial|exact rfl|exact Z2 _ _|exact R9 _|exact U5|exact U2 _|exact V1 _|exact S2 _|refine And.intro ?_ ?_)⟩,λy=>⟨λhc=> ?_,λhc=> ?_⟩⟩
  ·have hlt:=Y1 hc;have hle:=wR (wF tx) l.waits y.val;rw[z7];refine⟨Y3 hlt,λ_=>Y3 hlt,λhq=> ?_,λhq=> ?_⟩
   ·have hn:=oB (f:=wF tx) hq;refine⟨Y3 hlt,⟨V1 _,by unfold V7;omega⟩,Z4 (by omega),⟨y.val+1,hlt⟩,⟨⟨rfl,Z7,Z7,Z7,by dsimp only;omega,trivial⟩,⟨rfl,rfl,⟨rfl,Z2 _ _⟩,⟨rfl,Z2 _ _⟩,trivial⟩,⟨rfl,rfl,⟨rfl,U5⟩,⟨rfl,U5⟩,trivial⟩,⟨rfl,rfl,⟨rfl,rfl⟩,⟨rfl,hn⟩,trivial⟩,⟨rfl,Z2 _ _⟩,⟨hn,?_⟩,trivial⟩,V3.ext_lt hlt⟩
    dsimp only;rw[a0x (f:=wF tx) hq];exact aW Wt.ts 2 (λ_=>rfl) _ _
   ·have hn:=lX (f:=wF tx) hq;refine⟨Z4 (by omega),⟨y.val+1,hlt⟩,?_,V3.ext_lt hlt⟩
    dsimp only;rw[hn];exact⟨⟨rfl,Z7,Z7,Z7,by omega,trivial⟩,⟨rfl,rfl,Z8,X8⟩,⟨rfl,rfl,⟨rfl,U5⟩,⟨rfl,U5⟩,trivial⟩,⟨rfl,rfl,Z7,U6⟩,Z8,X8⟩
  ·have hy:y.val=l.waits.length:=by have:=y.2;have:=X9 hc;omega
   rw[hy];exact⟨⟨U2 _,U2 _⟩,Z8,X8⟩
end Go.Proofs.YtokaojbaacnngaaGreat

namespace Go.Proofs.YtokaojbaacnngaaGreat
set_option maxRecDepth 100000
open Go.SS

def a8X(e:Eng)(k:Nat):Eng:={e with txs:=e.txs.take k++e.txs.drop (k+1),lk:=frK e.lk (e.txs.getD k default).id}
def a8N:Con:=.rel ⟨Eng×Nat,λx=>[.agg x.1.ts,.int .i64 x.2],λx=>.agg (a8X x.1 x.2).ts,λx=>x.2<x.1.txs.length/\x.1.txs.length<=1000/\x.1.lk.held.length<=1000000/\x.1.lk.waits.length<=1000000⟩
theorem b1L{L:List Txn}{k:Nat}(hk:k<L.length):Z6 (k+(L.length- (k+1))) (W7 (X5 L) k λi=>(L.getD (k+1+i) default).ts) (X5 (L.take k++L.drop (k+1))):=by
 intro i hi;have hl:(L.take k).length=k:=by rw[List.length_take];omega
 unfold W7 X5;by_cases h:i<k
 ·rw[rM h];dsimp only;rw[N9,N9,sC (by omega),List.getElem?_take_of_lt h]
 ·rw[nB h];dsimp only;rw[N9,N9,qK (by omega),hl,List.getElem?_drop]
theorem a3n:GK 117 a8N:=gk Tryz.func117<|by
 rintro⟨e,k⟩ ⟨hk,h2,h3,h4⟩;dsimp only at hk h2 h3 h4;have e1:((k:Nat):Int).toNat=k:=z7 k;have e2:((k:Int)+1).toNat=k+1:=by omega
 refine S3 (gC a4z (gC k6 gN)) Tryz.func117 Z0 (α:=W2 (k:Int) e.txs.length/\∃(x:(Lks×Int)),((((Y6 Y5 e.lk.held x.1.held)/\(Y6 X6 e.lk.waits x.1.waits)/\True)/\(e.txs.getD (k:Int).toNat default).id=x.2/\True)/\x.1.held.length<=1000000/\x.1.waits.length<=1000000)/\jR (k:Int) e.txs.length/\(Le 0 0/\V7 0 (k:Int).toNat 16)/\X2 .i64 ((k:Int)+(1:Int))/\jR ((k:Int)+(1:Int)) e.txs.length/\(Le (0+(k:Int).toNat) (0+(k:Int).toNat)/\V7 (0+(k:Int).toNat) (e.txs.length- ((k:Int)+(1:Int)).toNat) 16)/\Le (0+(0+(k:Int).toNat+(e.txs.length- ((k:Int)+(1:Int)).toNat))) (0+(k:Int).toNat+(e.txs.length- ((k:Int)+(1:Int)).toNat))/\(Y6 Z5 e.s.d.sec e.s.d.sec)/\(Y6 Z3 e.s.d.cache e.s.d.cache)/\e.s.d.armed=e.s.d.armed/\(Y6 Y9 e.s.d.keep e.s.d.keep)/\e.s.ep=e.s.ep/\(Y6 Y7 e.s.log e.s.log)/\e.s.sure=e.s.sure/\(Y6 X1 e.s.fr e.s.fr)/\e.s.hand=e.s.hand/\e.up=e.up/\(0+(k:Int).toNat+(e.txs.length- ((k:Int)+(1:Int)).toNat)=(List.take k e.txs++List.drop (k+1) e.txs).length/\Z6 (0+(k:Int).toNat+(e.txs.length- ((k:Int)+(1:Int)).toNat)) (W7 (W7 (λ(k:Nat)=>List.take 2 (List.drop (k*2) [])) 0 (X5 e.txs)) (0+(k:Int).toNat) λ(i:Nat)=>[T.int .i64 (e.txs.getD (((k:Int)+(1:Int)).toNat+i) default).id,T.int .i64 (e.txs.getD (((k:Int)+(1:Int)).toNat+i) default).last]) (X5 (List.take k e.txs++List.drop (k+1) e.txs)))/\(Y6 Y5 (W9 (hF x.2) x.1.held x.1.held.length) (W9 (hF (e.txs.getD k default).id) e.lk.held e.lk.held.length))/\(Y6 X6 (W9 (wF x.2) x.1.waits x.1.waits.length) (W9 (wF (e.txs.getD k default).id) e.lk.waits e.lk.waits.length))/\e.next=e.next/\True) ?_
 rw[e1,e2,E6,qQ];refine⟨Y3 hk,(e.lk,(e.txs.getD k default).id),⟨⟨⟨Z8,X8⟩,Z9⟩,h3,h4⟩,⟨by omega,by omega⟩,⟨V1 _,by unfold V7;omega⟩,Z4 (by omega),⟨by omega,by omega⟩,⟨by unfold Le;omega,by unfold V7;omega⟩,by unfold Le;omega,Z8,Z8,rfl,Z8,rfl,Z8,rfl,Z8,rfl,rfl,⟨?_,b1L hk⟩,Z8,Z8,Z9⟩
 rw[B8,List.length_take,List.length_drop];omega
end Go.Proofs.YtokaojbaacnngaaGreat

namespace Go.Proofs.YtokaojbaacnngaaGreat
set_option maxRecDepth 100000
open Go.SS

def I8(e:Eng)(tx:Int):Int×Int:=if e.up=true then(if U4 e.txs tx<0 then(0,19) else(U4 e.txs tx,0)) else(0,15)
def a2j:Con:=.rel ⟨Eng×Int,λx=>[.agg x.1.ts,.int .i64 x.2],λx=>.tup [.int .i64 (I8 x.1 x.2).1,.int .i64 (I8 x.1 x.2).2],λx=>N3 x.1.txs.length⟩
theorem c0n{e:Eng}{tx:Int}(h:(!e.up)=true):I8 e tx=(0,15):=by unfold I8;rw[if_neg (by simpa using h)]
theorem c0B{e:Eng}{tx:Int}(h:(!e.up)=false)(h2:decide (U4 e.txs tx<0)=true):I8 e tx=(0,19):=by unfold I8;rw[if_pos (by simpa using h),if_pos (E9 h2)]
theorem c0I{e:Eng}{tx:Int}(h:(!e.up)=false)(h2:decide (U4 e.txs tx<0)=false):I8 e tx=(U4 e.txs tx,0):=by unfold I8;rw[if_pos (by simpa using h),if_neg (yG h2)]
theorem a1J:GK 115 a2j:=gk Tryz.func115<|by
 rintro⟨e,tx⟩ (hL:N3 e.txs.length);refine S3 (gC aR gN) Tryz.func115 Z0 (α:=((!e.up)=true->(0:Int)=(I8 e tx).1/\(15:Int)=(I8 e tx).2/\True)/\((!e.up)=false->∃(x:(Eng×Int)),(((y5 e x.1)/\tx=x.2/\True)/\N3 x.1.txs.length)/\(decide (U4 x.1.txs x.2<(0:Int))=true->(0:Int)=(I8 e tx).1/\(19:Int)=(I8 e tx).2/\True)/\(decide (U4 x.1.txs x.2<(0:Int))=false->U4 x.1.txs x.2=(I8 e tx).1/\(0:Int)=(I8 e tx).2/\True))) ⟨λhu=> ?_,λhu=>⟨(e,tx),⟨⟨B5 _,Z9⟩,hL⟩,λhq=> ?_,λhq=> ?_⟩⟩
 ·rw[c0n hu];exact⟨rfl,Z9⟩
 ·rw[c0B hu hq];exact⟨rfl,Z9⟩
 ·rw[c0I hu hq];exact⟨rfl,Z9⟩
end Go.Proofs.YtokaojbaacnngaaGreat

namespace Go.Proofs.YtokaojbaacnngaaGreat
set_option maxRecDepth 100000
open Go.SS

theorem b6M{r:Rec}(h:Q6 r=true):r.b.length<=30/\r.a.length<=38:=by
 have h:=(Q1 r).1 h;unfold zF at h;obtain⟨_,_,_,_,_,_,_,_,_,_,_,_,_,_,hb,h6,h7⟩:=h;refine⟨by omega,?_⟩
 by_cases hk:r.k=6
 ·exact a6H (h6 hk).2.2.2.2.2.2
 ·have:=(h7 hk).2.2.1;omega
theorem b9C{r:Rec}(h:Q6 r=true):(M1 r).length<=160:=by
 obtain⟨h1,h2⟩:=b6M h;have e4:(B7 (s5 (a7Z r))).length=4:=rfl;have hl:(M1 r).length=16+(r.b.length+r.a.length):=by
  unfold M1 a7Z;rw[B8];simp only[S9,W5,B8,List.length_cons,List.length_nil];show _+4=_;simp;omega
 omega
def b3q(d:Dsk):Prop:=d.sec.length=69/\d.keep.length<=500/\(d.armed=false->d.keep.length=0)/\(∀i,i<d.sec.length->(d.sec.getD i []).length<=160)/\∀i,i<d.cache.length->(d.cache.getD i default).d.length<=160
theorem a5g{d:Dsk}(h:b3q d):B9 (V2 d).1/\(V2 d).1.sec.length=69:=by
 obtain⟨h1,h2,h3,h4,h5⟩:=h;unfold V2;split
 ·have hl:(crD d d.keep).sec.length=d.sec.length:=G7 _ _ _ _;refine⟨⟨by dsimp only;omega,by dsimp only;omega,S2 _,S2 _,λ_=>rfl,λi hi=> ?_,λi hi=>absurd hi (F3 _)⟩,by dsimp only;omega⟩
  dsimp only at hi;rw[hl] at hi;exact b0y d.sec d.cache (kp d.keep) h4 h5 _ (V1 _) i hi
 ·have hl:(o6 d.sec d.cache (λ_=>true) d.cache.length).length=d.sec.length:=G7 _ _ _ _
  refine⟨⟨by dsimp only;omega,by dsimp only;omega,S2 _,h2,h3,λi hi=> ?_,λi hi=>absurd hi (F3 _)⟩,by dsimp only;omega⟩
  dsimp only at hi;rw[hl] at hi;exact b0y d.sec d.cache (λ_=>true) h4 h5 _ (V1 _) i hi
theorem b9i{s:Sto}{l:Int}(hd:B9 s.d)(hb:qR s l)(hr:wV s.log):b3q (kP s (N6 s l)):=by
 have h69:=hb.2.2.2.1;refine⟨h69,hd.2.2.2.1,hd.2.2.2.2.1,hd.2.2.2.2.2.1,λi hi=> ?_⟩
 have hi:i<(s.d.cache++List.map (rZ s) (List.range (N6 s l))).length:=hi;show((s.d.cache++List.map (rZ s) (List.range (N6 s l))).getD i default).d.length<=160;rw[N9]
 by_cases hc:i<s.d.cache.length
 ·rw[sC hc,←N9]
  exact(a0W (hd.2.2.2.2.2.2 i hc)).2.2
 ·rw[qK (by omega),←N9]
  simp only[B8,List.length_map,j_g] at hi;rw[w8 _ (by omega)]
  have hn:=mQ (i:=i-s.d.cache.length) hb (by omega)
  obtain⟨_,_,_,_,b5,_,_,b8,_⟩:=hb;exact b9C ((Q1 _).2 (hr.2 _ (by omega)).1)
theorem a6J{s:Sto}{l:Int}(hd:B9 s.d)(hb:qR s l)(hr:wV s.log):B9 (X3 s l).1.d/\(X3 s l).1.d.sec.length=69:=by
 by_cases hl:l<=s.sure
 ·rw[zZ hl];exact⟨hd,hb.2.2.2.1⟩
 ·rw[c9 hl];exact a5g (b9i hd hb hr)
theorem b7d{e:Eng}(h:K8 e=true)(hu:e.up=true):e.s.log.length+ndE e<=60:=by
 have h3:=(t9 h).2.2;rw[if_pos hu] at h3;unfold upE at h3;simp only[I3,m5] at h3;exact h3.2
theorem b55{e:Eng}(h:K8 e=true)(hu:e.up=true){i:Nat}(hi:i<e.txs.length):1<=(e.txs.getD i default).last/\(e.txs.getD i default).last<=e.s.log.length:=by
 have:=b7C h hu i hi;unfold D7 qF at this;simp only[tU,xE,I3,L7] at this;exact this.2.1
theorem b8i{l:Lks}(h:H5 l=true):l.held.length<=60/\l.waits.length<=100:=by
 unfold H5 at h;simp only[I3,m5] at h;exact h.2.1
theorem a3b{e:Eng}{tx:Int}(h:(I8 e tx).2=0):e.up=true/\∃k:Nat,(I8 e tx).1=(k:Int)/\k<e.txs.length/\(e.txs.getD k default).id=tx/\U4 e.txs tx=k:=by
 revert h;unfold I8;split
 ·rename_i hu;split
  ·intro h;cases h
  ·rename_i h0;intro _;have h0:¬R0 e.txs.length (t6 e.txs tx)<0:=h0;obtain⟨i,hi,hp,_,he⟩:=oA h0;exact⟨hu,i,he,hi,by unfold t6 at hp;simpa using hp,he⟩
 ·intro h;cases h
def a9L(e:Eng)(k:Nat)(r:Rec):Prop:=r.k≠6/\r.k≠1/\1<=r.k/\r.k<=6/\(r.k≠3->r.n=0)/\(r.k≠2->r.k≠3->r.g=0/\r.s=0/\r.b=[]/\r.a=[])/\0<=r.n/\r.n<=(e.s.log.length:Int)/\0<=r.g/\r.g<=7/\0<=r.s/\r.s<=3/\r.b.length<=30/\r.a.length<=30/\(r.k=3->r.b=[])/\k<e.txs.length
theorem b1O{s:Sto}{r:Rec}(hL:wV s.log)(h:Q6 (J2 s r)=true)(hl:s.log.length+1<=60):wV (apx s r).log:=by
 have e1:(apx s r).log=s.log++[J2 s r]:=rfl;rw[e1];refine⟨by simp;omega,λi hi=> ?_⟩
 rw[B8,List.length_singleton] at hi;by_cases hc:i<s.log.length
 ·have:(s.log++[J2 s r]).getD i default=s.log.getD i default:=by
   rw[N9,sC hc,←N9]
  rw[this];exact hL.2 i hc
 ·have:i=s.log.length:=by omega
  subst this;have:(s.log++[J2 s r]).getD s.log.length default=J2 s r:=a0c s r;rw[this];exact⟨(Q1 _).1 h,rfl⟩
theorem b8k{d:Dsk}(h:B9 d):sA d:=by
 obtain⟨d1,d2,d3,d4,_⟩:=h;exact⟨by omega,by omega,by omega⟩
theorem b8n{e:Eng}(hd:B9 e.s.d):M8 (a3V e):=by
 have hm:=b77 e.s.d e.s.ep;have h2:=hd.2.1;refine⟨⟨b8k hd,?_,S2 _,λi hi=>absurd hi (F3 _)⟩,S2 _,S2 _,S2 _⟩
 show(u6 _ _).length<=_;rw[j3];omega
end Go.Proofs.YtokaojbaacnngaaGreat

