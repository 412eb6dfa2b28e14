/- A part of the proof. -/
import Derived.Test.YtghgljelnhfihaaGreatL7L8U10
import Derived.Test.YtghgljelnhfihaaGreatU3U4U5
import Derived.Test.YtghgljelnhfihaaGreatX11X11rX12X13X14
namespace Go.Proofs.YtghgljelnhfihaaGreat
set_option maxRecDepth 100000
open Go.SS

def X9{α:Type}[Inhabited α](f:α->Bool)(L:List α):Nat->List α
 |0=>[]
 |i+1=>if f (L.getD i dz)=true then X9 f L i++[L.getD i dz] else X9 f L i
def hF(tx:Int)(x:Lck):Bool:=x.tx !=tx
def wF(tx:Int)(w:Wt):Bool:=w.tx !=tx&&w.fo !=tx
def frK(l:Lks)(tx:Int):Lks:=⟨X9 (hF tx) l.H l.H.length,X9 (wF tx) l.W l.W.length⟩
def a8R:Con:=.rel ⟨Lks×Int,λx=>[.agg x.1.ts,.int .i64 x.2],λx=>.agg (frK x.1 x.2).ts,λx=>x.1.H.length<=1000000/\x.1.W.length<=1000000⟩
def lkB(l:Lks):Option Ob:=some (.arr true 1000000 2 1 λ_=>l.ts)
def lkO(a n b m:Nat):Option Ob:=some (.arr false 1000000 2 1 λ_=>[.osl a 0 n,.osl b 0 m])
def a77(l:Lks)(tx:Int):Nat->Ann
 |1=>.one {i:Nat//i<=l.W.length} (λx=>⟨[(1,.int .i64 tx),(2,.ref 0 0 0),(4,.ref 1 0 0),(5,.ref 2 0 0),(7,.int .i64 x.1)],[lkB l,lkB ⟨[],[]⟩,lkO 3 (frK l tx).H.length 4 (X9 (wF tx) l.W x.1).length,xH (frK l tx).H,nC (X9 (wF tx) l.W x.1)]⟩) (λx=>l.W.length-x.1) [.box 0,.box 1,.box 2,.cel 2 0,.cel 2 1] [.box 0,.box 1,.box 2,.cel 2 0,.cel 2 1] (λ_=>Y5)
 |2=>.one {i:Nat//i<=l.W.length} (λx=>⟨[(1,.int .i64 tx),(2,.ref 0 0 0),(4,.ref 1 0 0),(5,.ref 2 0 0),(7,.int .i64 x.1)],[lkB l,lkB ⟨[],[]⟩,lkO 3 (frK l tx).H.length 4 (X9 (wF tx) l.W x.1).length,xH (frK l tx).H,nC (X9 (wF tx) l.W x.1)]⟩) (λx=>l.W.length-x.1) [.box 0,.box 1,.box 2,.cel 2 0,.cel 2 1] [.box 0,.box 1,.box 2,.cel 2 0,.cel 2 1] (λ_=>Y5)
 |_=>.none
def a7D(l:Lks)(tx:Int):Nat->Ann
 |0=>.one {i:Nat//i<=l.H.length} (λx=>⟨[(1,.int .i64 tx),(2,.ref 0 0 0),(4,.ref 1 0 0),(5,.ref 2 0 0),(6,.int .i64 x.1)],[lkB l,lkB ⟨[],[]⟩,lkO 3 (X9 (hF tx) l.H x.1).length 4 0,xH (X9 (hF tx) l.H x.1),nC []]⟩) (λx=>l.H.length-x.1) [.box 0,.box 1,.box 4,.arr 2,.arr 3] [.box 0,.box 1,.box 2,.cel 2 0,.cel 2 1] (λ_=>a77 l tx)
 |_=>.none
theorem wZ{α:Type}[Inhabited α](f:α->List T)(n:Nat)(hf:∀a,(f a).length=n)(L:List α)(x:α):Z6 (L.length+1) (X3 (λi=>f (L.getD i dz)) L.length λk=>List.take n (List.drop (k*n) (f x))) (λi=>f ((L++[x]).getD i dz)):=by
 intro i hi;unfold X3;by_cases h:i<L.length
 ·rw[uY h];dsimp only;rw[P8,P8,tX h]
 ·have:i=L.length:=by omega
  subst this;rw[sW h];dsimp only;have:(L++[x]).getD L.length dz=x:=by rw[P8,rK (W4 _)];simp
  rw[this,j_h,Nat.zero_mul,List.drop_zero,List.take_of_length_le (by rw[hf];exact W4 _)]
theorem fS{α:Type}[Inhabited α]{f:α->Bool}{L:List α}{i:Nat}(h:f (L.getD i dz)=true):X9 f L (i+1)=X9 f L i++[L.getD i dz]:=by
 conv=>lhs;unfold X9
 rw[if_pos h]
theorem oA{α:Type}[Inhabited α]{f:α->Bool}{L:List α}{i:Nat}(h:f (L.getD i dz)=false):X9 f L (i+1)=X9 f L i:=by
 conv=>lhs;unfold X9
 rw[if_neg (by rw[h];simp)]
theorem yW{α:Type}[Inhabited α](f:α->Bool)(L:List α):∀i,(X9 f L i).length<=i
 |0=>W4 _
 |i+1=>by
  have:=yW f L i;unfold X9;split
  ·rw[K6,List.length_singleton];omega
  ·omega
theorem rD{α:Type}[Inhabited α]{f:α->Bool}{L:List α}{i:Nat}(h:f (L.getD i dz)=true):(X9 f L i).length+1=(X9 f L (i+1)).length:=by
 rw[fS h,K6,List.length_singleton]
theorem a4P:GK 321 a8R:=gk Tryz.func321<|by
 rintro⟨l,tx⟩ ⟨h1,h2⟩;dsimp only at h1 h2;refine Q5 (gC N5 gN) Tryz.func321 (a7D l tx) (α:=let g:=(0=0/\Z6 0 (Y0 []) (Y0 []));let w:=(0=0/\0=0);let z:=(1=1/\1=1/\(Y8 Y7 l.H l.H)/\(Y8 Y0 l.W l.W)/\True);let q:=(1=1/\1=1/\(0=0/\Z6 0 (Y7 []) (Y7 []))/\g/\True);let p:=(X9 (hF tx) l.H l.H.length);let t:=p.length;(∃(x:{i:Nat//i<=l.H.length}),let b:=(X9 (hF tx) l.H x.val);(tx=tx/\w/\w/\w/\0=(x.val:Int)/\True)/\z/\(1=1/\1=1/\0=0/\0=0/\True)/\(1=1/\1=1/\(0=0/\0=b.length)/\w/\True)/\(0=b.length/\Z6 0 (λ(k:Nat)=>List.take 4 (List.drop (k*4) [])) (Y7 b))/\(0=0/\Z6 0 (λ(k:Nat)=>List.take 2 (List.drop (k*2) [])) (Y0 []))/\True)/\∀(x:{i:Nat//i<=l.H.length}),let n:=(x.val:Int);let j:=(l.H.getD n.toNat dz);let u:=(X9 (hF tx) l.H x.val);let pa:=u.length;(decide (n<(l.H.length:Int))=true->V3 n l.H.length/\((j.tx !=tx)=true->V3 n l.H.length/\(Le u.length pa/\W6 u.length 1 32)/\W7 .i64 (n+1)/\∃(y:{i:Nat//i<=l.H.length}),let c:=(X9 (hF tx) l.H y.val);((tx=tx/\w/\w/\w/\n+1=(y.val:Int)/\True)/\z/\q/\(1=1/\1=1/\(0=0/\pa+1=c.length)/\w/\True)/\(pa+1=c.length/\Z6 (pa+1) (X3 (Y7 u) u.length λ(k:Nat)=>List.take 4 (List.drop (k*4) [T.int .i64 j.tx,T.int .i64 j.ta,T.int .i64 j.row,T.int .i64 j.mo])) (Y7 c))/\g/\True)/\Lt (l.H.length-y.val) (l.H.length-x.val))/\((j.tx !=tx)=false->W7 .i64 (n+1)/\∃(y:{i:Nat//i<=l.H.length}),let pb:=(X9 (hF tx) l.H y.val);((tx=tx/\w/\w/\w/\n+1=(y.val:Int)/\True)/\z/\q/\(1=1/\1=1/\(0=0/\pa=pb.length)/\w/\True)/\(Y8 Y7 u pb)/\g/\True)/\Lt (l.H.length-y.val) (l.H.length-x.val)))/\(decide (n<(l.H.length:Int))=false->(∃(x_1:{i:Nat//i<=l.W.length}),let a:=(X9 (wF tx) l.W x_1.val);(tx=tx/\w/\w/\w/\0=(x_1.val:Int)/\True)/\z/\q/\(1=1/\1=1/\(0=0/\pa=t)/\(0=0/\0=a.length)/\True)/\(Y8 Y7 u p)/\(0=a.length/\Z6 0 (Y0 []) (Y0 a))/\True)/\∀(x:{i:Nat//i<=l.W.length}),let f:=(X9 (wF tx) l.W x.val);let m:=(x.val:Int);let v:=(l.W.getD m.toNat dz);let pc:=(v.tx !=tx&&v.fo !=tx);let r:=f.length;(decide (m<(l.W.length:Int))=true->V3 m l.W.length/\((v.tx !=tx)=true->V3 m l.W.length)/\(pc=true->V3 m l.W.length/\(Le r r/\W6 r 1 16)/\W7 .i64 (m+1)/\∃(y:{i:Nat//i<=l.W.length}),let d:=(X9 (wF tx) l.W y.val);((tx=tx/\w/\w/\w/\m+1=(y.val:Int)/\True)/\z/\q/\(1=1/\1=1/\(0=0/\t=t)/\(0=0/\r+1=d.length)/\True)/\(Y8 Y7 p p)/\(r+1=d.length/\Z6 (r+1) (X3 (Y0 f) r λ(k:Nat)=>List.take 2 (List.drop (k*2) [T.int .i64 v.tx,T.int .i64 v.fo])) (Y0 d))/\True)/\Lt (l.W.length-y.val) (l.W.length-x.val))/\(pc=false->W7 .i64 (m+1)/\∃(y:{i:Nat//i<=l.W.length}),let pd:=(X9 (wF tx) l.W y.val);((tx=tx/\w/\w/\w/\m+1=(y.val:Int)/\True)/\z/\q/\(1=1/\1=1/\(0=0/\t=t)/\(0=0/\r=pd.length)/\True)/\(Y8 Y7 p p)/\(Y8 Y0 f pd)/\True)/\Lt (l.W.length-y.val) (l.W.length-x.val)))/\(decide (m<(l.W.length:Int))=false->(Le (0+t) t/\Le (0+r) r)/\(Y8 Y7 p p)/\(Y8 Y0 f (X9 (wF tx) l.W l.W.length))/\True))) ⟨⟨⟨0,S7 _⟩,(by repeat' first|exact trivial|exact rfl|exact Z2 _ _|exact U2 _|exact V7|exact S8 _|exact W4 _|exact S7 _|refine And.intro ?_ ?_)⟩,λx=>⟨λhc=> ?_,λhc=> ?_⟩⟩
 ·have hlt:=X6 hc;have hle:=yW (hF tx) l.H x.val;rw[F5];refine⟨X8 hlt,λhq=> ?_,λhq=> ?_⟩
  ·have hn:=rD (f:=hF tx) hq;refine⟨X8 hlt,⟨W4 _,by unfold W6;omega⟩,Z4 (by omega),⟨x.val+1,hlt⟩,⟨⟨rfl,Z8,Z8,Z8,by dsimp only;omega,trivial⟩,⟨rfl,rfl,⟨rfl,Z2 _ _⟩,⟨rfl,Z2 _ _⟩,trivial⟩,⟨rfl,rfl,⟨rfl,V7⟩,⟨rfl,V7⟩,trivial⟩,⟨rfl,rfl,⟨rfl,hn⟩,⟨rfl,rfl⟩,trivial⟩,⟨hn,?_⟩,⟨rfl,V7⟩,trivial⟩,V1.ext_lt hlt⟩
   dsimp only;rw[fS (f:=hF tx) hq];exact wZ Lck.ts 4 (λ_=>rfl) _ _
  ·have hn:=oA (f:=hF tx) hq;refine⟨Z4 (by omega),⟨x.val+1,hlt⟩,?_,V1.ext_lt hlt⟩
   dsimp only;rw[hn];exact⟨⟨rfl,Z8,Z8,Z8,by omega,trivial⟩,⟨rfl,rfl,Z7,X5⟩,⟨rfl,rfl,⟨rfl,V7⟩,⟨rfl,V7⟩,trivial⟩,⟨rfl,rfl,Z8,U3⟩,Z7,⟨rfl,V7⟩,trivial⟩
 ·have hx:x.val=l.H.length:=by have:=x.2;have:=X4 hc;omega
  rw[hx];refine⟨⟨⟨0,S7 _⟩,(by repeat' first|exact trivial|exact rfl|exact Z2 _ _|exact U2 _|exact V7|exact S8 _|exact W4 _|exact S7 _|refine And.intro ?_ ?_)⟩,λy=>⟨λhc=> ?_,λhc=> ?_⟩⟩
  ·have hlt:=X6 hc;have hle:=yW (wF tx) l.W y.val;rw[F5];refine⟨X8 hlt,λ_=>X8 hlt,λhq=> ?_,λhq=> ?_⟩
   ·have hn:=rD (f:=wF tx) hq;refine⟨X8 hlt,⟨W4 _,by unfold W6;omega⟩,Z4 (by omega),⟨y.val+1,hlt⟩,⟨⟨rfl,Z8,Z8,Z8,by dsimp only;omega,trivial⟩,⟨rfl,rfl,⟨rfl,Z2 _ _⟩,⟨rfl,Z2 _ _⟩,trivial⟩,⟨rfl,rfl,⟨rfl,V7⟩,⟨rfl,V7⟩,trivial⟩,⟨rfl,rfl,⟨rfl,rfl⟩,⟨rfl,hn⟩,trivial⟩,⟨rfl,Z2 _ _⟩,⟨hn,?_⟩,trivial⟩,V1.ext_lt hlt⟩
    dsimp only;rw[fS (f:=wF tx) hq];exact wZ Wt.ts 2 (λ_=>rfl) _ _
   ·have hn:=oA (f:=wF tx) hq;refine⟨Z4 (by omega),⟨y.val+1,hlt⟩,?_,V1.ext_lt hlt⟩
    dsimp only;rw[hn];exact⟨⟨rfl,Z8,Z8,Z8,by omega,trivial⟩,⟨rfl,rfl,Z7,X5⟩,⟨rfl,rfl,⟨rfl,V7⟩,⟨rfl,V7⟩,trivial⟩,⟨rfl,rfl,Z8,U3⟩,Z7,X5⟩
  ·have hy:y.val=l.W.length:=by have:=y.2;have:=X4 hc;omega
   rw[hy];exact⟨⟨S8 _,S8 _⟩,Z7,X5⟩
end Go.Proofs.YtghgljelnhfihaaGreat

namespace Go.Proofs.YtghgljelnhfihaaGreat
set_option maxRecDepth 100000
open Go.SS

def qU(e:Eng)(k:Nat):Eng:={e with X:=e.X.take k++e.X.drop (k+1),lk:=frK e.lk (e.X.getD k dz).id}
def a7u:Con:=.rel ⟨Eng×Nat,λx=>[.agg x.1.ts,.int .i64 x.2],λx=>.agg (qU x.1 x.2).ts,λx=>x.2<x.1.X.length/\x.1.X.length<=1000/\x.1.lk.H.length<=1000000/\x.1.lk.W.length<=1000000⟩
theorem b03{L:List Txn}{k:Nat}(hk:k<L.length):Z6 (k+(L.length- (k+1))) (X3 (X0 L) k λi=>(L.getD (k+1+i) dz).ts) (X0 (L.take k++L.drop (k+1))):=by
 intro i hi;have hl:(L.take k).length=k:=by rw[List.length_take];omega
 unfold X3 X0;by_cases h:i<k
 ·rw[uY h];dsimp only;rw[P8,P8,tX (by omega),List.getElem?_take_of_lt h]
 ·rw[sW h];dsimp only;rw[P8,P8,rK (by omega),hl,List.getElem?_drop]
theorem jF:GK 266 a7u:=gk Tryz.func266<|by
 rintro⟨e,k⟩ ⟨hk,h2,h3,h4⟩;dsimp only at hk h2 h3 h4;have e1:((k:Nat):Int).toNat=k:=F5 k;have e2:((k:Int)+1).toNat=k+1:=by omega
 refine Q5 (gC a4P (gC N5 gN)) Tryz.func266 Y5 (α:=V3 (k:Int) e.X.length/\∃(x:(Lks×Int)),((((Y8 Y7 e.lk.H x.1.H)/\(Y8 Y0 e.lk.W x.1.W)/\True)/\(e.X.getD (k:Int).toNat dz).id=x.2/\True)/\x.1.H.length<=1000000/\x.1.W.length<=1000000)/\lL (k:Int) e.X.length/\(Le 0 0/\W6 0 (k:Int).toNat 16)/\W7 .i64 ((k:Int)+(1:Int))/\lL ((k:Int)+(1:Int)) e.X.length/\(Le (0+(k:Int).toNat) (0+(k:Int).toNat)/\W6 (0+(k:Int).toNat) (e.X.length- ((k:Int)+(1:Int)).toNat) 16)/\Le (0+(0+(k:Int).toNat+(e.X.length- ((k:Int)+(1:Int)).toNat))) (0+(k:Int).toNat+(e.X.length- ((k:Int)+(1:Int)).toNat))/\(Y8 Z5 e.s.d.E e.s.d.E)/\(Y8 Y9 e.s.d.C e.s.d.C)/\e.s.d.A=e.s.d.A/\(Y8 Y6 e.s.d.keep e.s.d.keep)/\e.s.ep=e.s.ep/\(Y8 Y3 e.s.L e.s.L)/\e.s.S=e.s.S/\(Y8 X2 e.s.fr e.s.fr)/\e.s.J=e.s.J/\e.up=e.up/\(0+(k:Int).toNat+(e.X.length- ((k:Int)+(1:Int)).toNat)=(List.take k e.X++List.drop (k+1) e.X).length/\Z6 (0+(k:Int).toNat+(e.X.length- ((k:Int)+(1:Int)).toNat)) (X3 (X3 (λ(k:Nat)=>List.take 2 (List.drop (k*2) [])) 0 (X0 e.X)) (0+(k:Int).toNat) λ(i:Nat)=>[T.int .i64 (e.X.getD (((k:Int)+(1:Int)).toNat+i) dz).id,T.int .i64 (e.X.getD (((k:Int)+(1:Int)).toNat+i) dz).Z]) (X0 (List.take k e.X++List.drop (k+1) e.X)))/\(Y8 Y7 (X9 (hF x.2) x.1.H x.1.H.length) (X9 (hF (e.X.getD k dz).id) e.lk.H e.lk.H.length))/\(Y8 Y0 (X9 (wF x.2) x.1.W x.1.W.length) (X9 (wF (e.X.getD k dz).id) e.lk.W e.lk.W.length))/\e.N=e.N/\True) ?_
 rw[e1,e2,G9,tA];refine⟨X8 hk,(e.lk,(e.X.getD k dz).id),⟨⟨⟨Z7,X5⟩,Z9⟩,h3,h4⟩,⟨by omega,by omega⟩,⟨W4 _,by unfold W6;omega⟩,Z4 (by omega),⟨by omega,by omega⟩,⟨by unfold Le;omega,by unfold W6;omega⟩,by unfold Le;omega,Z7,Z7,rfl,Z7,rfl,Z7,rfl,Z7,rfl,rfl,⟨?_,b03 hk⟩,Z7,Z7,Z9⟩
 rw[K6,List.length_take,List.length_drop];omega
end Go.Proofs.YtghgljelnhfihaaGreat

namespace Go.Proofs.YtghgljelnhfihaaGreat
set_option maxRecDepth 100000
open Go.SS

def a9f:Rec:=⟨0,0,0,4,0,0,0,0,[],[]⟩
def V4(e:Eng)(tx:Int):Int×Int:=if e.up=true then(if U4 e.X tx<0 then(0,19) else(U4 e.X tx,0)) else(0,15)
def a4u:Con:=.rel ⟨Eng×Int,λx=>[.agg x.1.ts,.int .i64 x.2],λx=>.tup [.int .i64 (V4 x.1 x.2).1,.int .i64 (V4 x.1 x.2).2],λx=>O6 x.1.X.length⟩
theorem c0K{e:Eng}{tx:Int}(h:(!e.up)=true):V4 e tx=(0,15):=by unfold V4;rw[if_neg (by simpa using h)]
theorem c06{e:Eng}{tx:Int}(h:(!e.up)=false)(h2:decide (U4 e.X tx<0)=true):V4 e tx=(0,19):=by unfold V4;rw[if_pos (by simpa using h),if_pos (C7 h2)]
theorem c0H{e:Eng}{tx:Int}(h:(!e.up)=false)(h2:decide (U4 e.X tx<0)=false):V4 e tx=(U4 e.X tx,0):=by unfold V4;rw[if_pos (by simpa using h),if_neg (l7 h2)]
theorem y6:GK 133 a4u:=gk Tryz.func133<|by
 rintro⟨e,tx⟩ (hL:O6 e.X.length);refine Q5 (gC a2Z gN) Tryz.func133 Y5 (α:=let p:=(V4 e tx);((!e.up)=true->0=p.1/\15=p.2/\True)/\((!e.up)=false->∃(x:(Eng×Int)),(((R8 e x.1)/\tx=x.2/\True)/\O6 x.1.X.length)/\(decide (U4 x.1.X x.2<0)=true->0=p.1/\19=p.2/\True)/\(decide (U4 x.1.X x.2<0)=false->U4 x.1.X x.2=p.1/\0=p.2/\True))) ⟨λhu=> ?_,λhu=>⟨(e,tx),⟨⟨R4 _,Z9⟩,hL⟩,λhq=> ?_,λhq=> ?_⟩⟩
 ·rw[c0K hu];exact⟨rfl,Z9⟩
 ·rw[c06 hu hq];exact⟨rfl,Z9⟩
 ·rw[c0H hu hq];exact⟨rfl,Z9⟩
def mB(e:Eng)(k:Nat):Eng:=J0 e k a9f
def oU(e:Eng)(k:Nat):Sto×Bool:=X7 (mB e k).s (e.s.L.length+1:Nat)
def iA(e:Eng)(k:Nat):Eng:={mB e k with s:=(oU e k).1}
noncomputable def K9(e:Eng)(tx:Int):Eng×Int:=if(V4 e tx).2=0 then(if(oU e (V4 e tx).1.toNat).2=true then(qU (iA e (V4 e tx).1.toNat) (V4 e tx).1.toNat,0) else(nH (iA e (V4 e tx).1.toNat),15)) else(e,(V4 e tx).2)
def b4i(e:Eng)(tx:Int):Prop:=O6 e.X.length/\((V4 e tx).2=0->(V4 e tx).1.toNat<e.X.length/\e.X.length<=1000/\e.s.L.length<=1000/\wU (mB e (V4 e tx).1.toNat).s (e.s.L.length+1:Nat)/\G5 (oU e (V4 e tx).1.toNat).1.d/\(oU e (V4 e tx).1.toNat).1.d.E.length=69/\e.lk.H.length<=1000000/\e.lk.W.length<=1000000)
noncomputable def a08:Con:=.rel ⟨Eng×Int,λx=>[.agg x.1.ts,.int .i64 x.2],λx=>.tup [.agg (K9 x.1 x.2).1.ts,.int .i64 (K9 x.1 x.2).2],λx=>b4i x.1 x.2⟩
theorem b9j{e:Eng}{tx:Int}(h:(V4 e tx).2=0):(V4 e tx).1=(((V4 e tx).1.toNat:Nat):Int):=by
 have:0<=(V4 e tx).1:=by
  revert h;unfold V4;split
  ·split
   ·intro h;cases h
   ·intro _;dsimp only;omega
  ·intro h;cases h
 omega
theorem a0g:GK 188 a08:=gk Tryz.func188<|by
 rintro⟨e,tx⟩ ⟨hL,hB⟩;dsimp only at hL hB;refine Q5 (gC y6 (gC qO (gC oB (gC rU (gC jF gN))))) Tryz.func188 Y5 (α:=let r:=(K9 e tx);let y:=r.1.s;∃(x:(Eng×Int)),let j:=(V4 x.1 x.2);(((R8 e x.1)/\tx=x.2/\True)/\O6 x.1.X.length)/\((j.2 !=0)=true->(R8 e r.1)/\j.2=r.2/\True)/\((j.2 !=0)=false->∃(x_1:(Eng×Nat×Rec)),let w:=x_1.2.2;let v:=x_1.1;let pb:=v.s.L.length;let u:=(v.X.set x_1.2.1 (Txn.mk (v.X.getD x_1.2.1 dz).id ((pb:Int)+1)));(((R8 e v)/\j.1=(x_1.2.1:Int)/\(0=w.e/\0=w.l/\0=w.t/\4=w.k/\0=w.p/\0=w.n/\0=w.g/\0=w.s/\[]=w.b/\[]=w.a/\True)/\True)/\x_1.2.1<v.X.length/\v.X.length<=1000/\pb<=1000)/\∃(x_2:(Sto×Int)),let f:=x_2.1;let q:=(X7 x_2.1 x_2.2);let c:=q.1.d;((((Y8 Z5 v.s.d.E f.d.E)/\(Y8 Y9 v.s.d.C f.d.C)/\v.s.d.A=f.d.A/\(Y8 Y6 v.s.d.keep f.d.keep)/\v.s.ep=f.ep/\(Y8 Y3 (v.s.L++[R9 v.s (M3 x_1.1 x_1.2.1 w)]) f.L)/\v.s.S=f.S/\(Y8 X2 v.s.fr f.fr)/\v.s.J=f.J/\True)/\(↑(pb+1):Int)=x_2.2/\True)/\wU x_2.1 x_2.2)/\((! q.2)=true->∃(x:(Eng×Dsk)),let m:=x.1.s;((((Y8 Z5 c.E m.d.E)/\(Y8 Y9 c.C m.d.C)/\c.A=m.d.A/\(Y8 Y6 c.keep m.d.keep)/\q.1.ep=m.ep/\(Y8 Y3 q.1.L m.L)/\q.1.S=m.S/\(Y8 X2 q.1.fr m.fr)/\q.1.J=m.J/\v.up=x.1.up/\(Y8 X0 u x.1.X)/\(Y8 Y7 v.lk.H x.1.lk.H)/\(Y8 Y0 v.lk.W x.1.lk.W)/\v.N=x.1.N/\True)/\(yM q.1.d x.2)/\True)/\G5 x.2/\x.2.E.length=69)/\((Y8 Z5 x.2.E y.d.E)/\(Y8 Y9 x.2.C y.d.C)/\x.2.A=y.d.A/\(Y8 Y6 x.2.keep y.d.keep)/\m.ep=y.ep/\(Y8 Y3 (v3 x.2 (vJ x.2 m.ep)) y.L)/\(↑(vJ x.2 m.ep):Int)=y.S/\(0=y.fr.length/\Z6 0 (X2 []) (X2 y.fr))/\0=y.J/\false=r.1.up/\(0=r.1.X.length/\Z6 0 (X0 []) (X0 r.1.X))/\(0=r.1.lk.H.length/\Z6 0 (Y7 []) (Y7 r.1.lk.H))/\(0=r.1.lk.W.length/\Z6 0 (Y0 []) (Y0 r.1.lk.W))/\x.1.N=r.1.N/\True)/\15=r.2/\True)/\((! q.2)=false->∃(x_3:(Eng×Nat)),let z:=x_3.1;let pa:=(z.X.getD x_3.2 dz).id;let i:=z.s.d;((((Y8 Z5 c.E i.E)/\(Y8 Y9 c.C i.C)/\c.A=i.A/\(Y8 Y6 c.keep i.keep)/\q.1.ep=z.s.ep/\(Y8 Y3 q.1.L z.s.L)/\q.1.S=z.s.S/\(Y8 X2 q.1.fr z.s.fr)/\q.1.J=z.s.J/\v.up=z.up/\(Y8 X0 u z.X)/\(Y8 Y7 v.lk.H z.lk.H)/\(Y8 Y0 v.lk.W z.lk.W)/\v.N=z.N/\True)/\j.1=(x_3.2:Int)/\True)/\x_3.2<z.X.length/\z.X.length<=1000/\z.lk.H.length<=1000000/\z.lk.W.length<=1000000)/\((Y8 Z5 i.E y.d.E)/\(Y8 Y9 i.C y.d.C)/\i.A=y.d.A/\(Y8 Y6 i.keep y.d.keep)/\z.s.ep=y.ep/\(Y8 Y3 z.s.L y.L)/\z.s.S=y.S/\(Y8 X2 z.s.fr y.fr)/\z.s.J=y.J/\z.up=r.1.up/\(Y8 X0 (List.take x_3.2 z.X++List.drop (x_3.2+1) z.X) r.1.X)/\(Y8 Y7 (X9 (hF pa) z.lk.H z.lk.H.length) r.1.lk.H)/\(Y8 Y0 (X9 (wF pa) z.lk.W z.lk.W.length) r.1.lk.W)/\z.N=r.1.N/\True)/\0=r.2/\True))) ⟨(e,tx),⟨⟨R4 _,Z9⟩,hL⟩,λhq=> ?_,λhq=> ?_⟩
 ·have h0:¬ (V4 e tx).2=0:=by simpa using hq
  have e0:K9 e tx=(e,(V4 e tx).2):=by unfold K9;rw[if_neg h0]
  rw[e0];exact⟨R4 _,Z9⟩
 ·have h0:(V4 e tx).2=0:=by simpa using hq
  obtain⟨b1,b2,b3,b4,b5,b6,b7,b8⟩:=hB h0;have hk:=b9j h0;have hl:(e.X.set (V4 e tx).1.toNat ⟨(e.X.getD (V4 e tx).1.toNat dz).id,(e.s.L.length:Int)+1⟩).length=e.X.length:=B1;refine⟨(e,(V4 e tx).1.toNat,a9f),⟨⟨R4 _,hk,⟨rfl,rfl,rfl,rfl,rfl,rfl,rfl,rfl,rfl,Z9⟩,trivial⟩,b1,b2,b3⟩,((mB e (V4 e tx).1.toNat).s,(e.s.L.length+1:Nat)),⟨⟨zE (mB e (V4 e tx).1.toNat).s,Z9⟩,b4⟩,λhf=> ?_,λhf=> ?_⟩
  ·have hf:¬ (oU e (V4 e tx).1.toNat).2=true:=λh=>by
    have hf:(!(oU e (V4 e tx).1.toNat).2)=true:=hf;rw[h] at hf;cases hf
   have e0:K9 e tx=(nH (iA e (V4 e tx).1.toNat),15):=by unfold K9;rw[if_pos h0,if_neg hf]
   rw[e0];exact⟨(iA e (V4 e tx).1.toNat,(oU e (V4 e tx).1.toNat).1.d),⟨⟨R4 (iA e (V4 e tx).1.toNat),uX (oU e (V4 e tx).1.toNat).1.d,trivial⟩,b5,b6⟩,R4 (nH (iA e (V4 e tx).1.toNat)),Z9⟩
  ·have hf:(oU e (V4 e tx).1.toNat).2=true:=by
    have hf:(!(oU e (V4 e tx).1.toNat).2)=false:=hf
    simpa using hf
   have e0:K9 e tx=(qU (iA e (V4 e tx).1.toNat) (V4 e tx).1.toNat,0):=by unfold K9;rw[if_pos h0,if_pos hf]
   rw[e0];exact⟨(iA e (V4 e tx).1.toNat,(V4 e tx).1.toNat),⟨⟨R4 (iA e (V4 e tx).1.toNat),hk,trivial⟩,by show _<(e.X.set _ _).length;omega,by show(e.X.set _ _).length<=_;omega,b7,b8⟩,R4 (qU (iA e (V4 e tx).1.toNat) (V4 e tx).1.toNat),rfl,trivial⟩
end Go.Proofs.YtghgljelnhfihaaGreat

namespace Go.Proofs.YtghgljelnhfihaaGreat
open Go.SS

theorem b5k{r:Rec}(h:R1 r=true):r.b.length<=30/\r.a.length<=38:=by
 have h:=(R7 r).1 h;unfold F8 at h;obtain⟨_,_,_,_,_,_,_,_,_,_,_,_,_,_,hb,h6,h7⟩:=h;refine⟨by omega,?_⟩
 by_cases hk:r.k=6
 ·exact cJ (h6 hk).2.2.2.2.2.2
 ·have:=(h7 hk).2.2.1;omega
theorem b9Z{r:Rec}(h:R1 r=true):(Q3 r).length<=160:=by
 obtain⟨h1,h2⟩:=b5k h;have e4:(E4 (t6 (a29 r))).length=4:=rfl;have hl:(Q3 r).length=16+(r.b.length+r.a.length):=by
  unfold Q3 a29;rw[K6];simp only[S2,W2,K6,List.length_cons,List.length_nil];show _+4=_;simp;omega
 omega
def b3D(d:Dsk):Prop:=d.E.length=69/\d.keep.length<=500/\(d.A=false->d.keep.length=0)/\(∀i,i<d.E.length->(d.E.getD i []).length<=160)/\∀i,i<d.C.length->(d.C.getD i dz).d.length<=160
theorem a61{d:Dsk}(h:b3D d):G5 (V6 d).1/\(V6 d).1.E.length=69:=by
 obtain⟨h1,h2,h3,h4,h5⟩:=h;unfold V6;split
 ·have hl:(crD d d.keep).E.length=d.E.length:=F2 _ _ _ _;refine⟨⟨by dsimp only;omega,by dsimp only;omega,S7 _,S7 _,λ_=>rfl,λi hi=> ?_,λi hi=>absurd hi (J5 _)⟩,by dsimp only;omega⟩
  dsimp only at hi;rw[hl] at hi;exact b1u d.E d.C (kp d.keep) h4 h5 _ (W4 _) i hi
 ·have hl:(k6 d.E d.C (λ_=>true) d.C.length).length=d.E.length:=F2 _ _ _ _
  refine⟨⟨by dsimp only;omega,by dsimp only;omega,S7 _,h2,h3,λi hi=> ?_,λi hi=>absurd hi (J5 _)⟩,by dsimp only;omega⟩
  dsimp only at hi;rw[hl] at hi;exact b1u d.E d.C (λ_=>true) h4 h5 _ (W4 _) i hi
theorem c0b{s:Sto}{l:Int}(hd:G5 s.d)(hb:wU s l)(hr:q8 s.L):b3D (sP s (O0 s l)):=by
 have h69:=hb.2.2.2.1;refine⟨h69,hd.2.2.2.1,hd.2.2.2.2.1,hd.2.2.2.2.2.1,λi hi=> ?_⟩
 have hi:i<(s.d.C++List.map (sX s) (List.range (O0 s l))).length:=hi;show((s.d.C++List.map (sX s) (List.range (O0 s l))).getD i dz).d.length<=160;rw[P8]
 by_cases hc:i<s.d.C.length
 ·rw[tX hc,←P8]
  exact(kC (hd.2.2.2.2.2.2 i hc)).2.2
 ·rw[rK (by omega),←P8]
  simp only[K6,List.length_map,j_g] at hi;rw[b6X _ (by omega)]
  have hn:=pD (i:=i-s.d.C.length) hb (by omega)
  obtain⟨_,_,_,_,b5,_,_,b8,_⟩:=hb;exact b9Z ((R7 _).2 (hr.2 _ (by omega)).1)
theorem a0a{s:Sto}{l:Int}(hd:G5 s.d)(hb:wU s l)(hr:q8 s.L):G5 (X7 s l).1.d/\(X7 s l).1.d.E.length=69:=by
 by_cases hl:l<=s.S
 ·rw[q7 hl];exact⟨hd,hb.2.2.2.1⟩
 ·rw[j6 hl];exact a61 (c0b hd hb hr)
theorem a53{e:Eng}(h:N6 e=true)(hu:e.up=true):e.s.L.length+C4 e<=60:=by
 have h3:=(J4 h).2.2;rw[if_pos hu] at h3;unfold upE at h3;simp only[L3,k4] at h3;exact h3.2
theorem b75{e:Eng}{k:Nat}(hk:k<e.X.length):1<=C4 e:=by
 unfold C4;cases he:e.X.length with
 |zero=>omega
 |succ n=>unfold A0;omega
theorem dD{e:Eng}(h:N6 e=true)(hu:e.up=true){i:Nat}(hi:i<e.X.length):1<=(e.X.getD i dz).Z/\(e.X.getD i dz).Z<=e.s.L.length:=by
 have:=b6R h hu i hi;unfold D1 sN at this;simp only[yP,yT,L3,Q1] at this;exact this.2.1
theorem a30{l:Lks}(h:K0 l=true):l.H.length<=60/\l.W.length<=100:=by
 unfold K0 at h;simp only[L3,k4] at h;exact h.2.1
theorem x4{e:Eng}{tx:Int}(h:(V4 e tx).2=0):e.up=true/\∃k:Nat,(V4 e tx).1=(k:Int)/\k<e.X.length/\(e.X.getD k dz).id=tx/\U4 e.X tx=k:=by
 revert h;unfold V4;split
 ·rename_i hu;split
  ·intro h;cases h
  ·rename_i h0;intro _;have h0:¬P9 e.X.length (C9 e.X tx)<0:=h0;obtain⟨i,hi,hp,_,he⟩:=mO h0;exact⟨hu,i,he,hi,by unfold C9 at hp;simpa using hp,he⟩
 ·intro h;cases h
def cK(e:Eng)(k:Nat)(r:Rec):Prop:=r.k≠6/\r.k≠1/\1<=r.k/\r.k<=6/\(r.k≠3->r.n=0)/\(r.k≠2->r.k≠3->r.g=0/\r.s=0/\r.b=[]/\r.a=[])/\0<=r.n/\r.n<=(e.s.L.length:Int)/\0<=r.g/\r.g<=7/\0<=r.s/\r.s<=3/\r.b.length<=30/\r.a.length<=30/\(r.k=3->r.b=[])/\k<e.X.length
theorem c0A{e:Eng}{tx:Int}{k:Nat}{r:Rec}(ho:N6 e=true)(hu:e.up=true)(ha:U4 e.X tx=k)(hk:k<e.X.length)(hi:(e.X.getD k dz).id=tx)(hr:cK e k r):AddB e tx k r/\(R1 (R9 e.s (M3 e k r))=true/\e.s.L.length+1<=60):=by
 obtain⟨a1,a2,a3,_⟩:=k8 (J4 ho).2.1;have he:=b2T (J4 ho).1;have hl:=dD ho hu hk;have hid:=b7j ho hu hk;have hro:=a53 ho hu;have hn:=b75 hk;obtain⟨r1,r2,r3,r4,r5,r6,r7,r8,r9,r10,r11,r12,r13,r14,r15,_⟩:=hr;have hok:R1 (R9 e.s (M3 e k r))=true:=by
  refine(R7 _).2 ?_
  unfold F8 R9 M3;dsimp only;refine⟨he.1,he.2,by omega,by omega,by omega,by omega,by omega,by omega,by omega,by omega,by omega,by omega,by omega,by omega,by omega,λe=>absurd e r1,λ_=>⟨by omega,by omega,by omega,r6,r5,r15,⟨λe=>absurd e r2,λe=>by omega⟩⟩⟩
 exact⟨⟨ha,hk,hi,hok,by omega,by omega,⟨by omega,by omega⟩⟩,hok,by omega⟩
theorem a2a{s:Sto}{r:Rec}(hL:q8 s.L)(h:R1 (R9 s r)=true)(hl:s.L.length+1<=60):q8 (apx s r).L:=by
 have e1:(apx s r).L=s.L++[R9 s r]:=rfl;rw[e1];refine⟨by simp;omega,λi hi=> ?_⟩
 rw[K6,List.length_singleton] at hi;by_cases hc:i<s.L.length
 ·have:(s.L++[R9 s r]).getD i dz=s.L.getD i dz:=by
   rw[P8,tX hc,←P8]
  rw[this];exact hL.2 i hc
 ·have:i=s.L.length:=by omega
  subst this;have:(s.L++[R9 s r]).getD s.L.length dz=R9 s r:=a2r s r;rw[this];exact⟨(R7 _).1 h,rfl⟩
theorem b8o{s:Sto}{l:Int}(hd:G5 s.d)(h69:s.d.E.length=69)(hr:q8 s.L)(h0:0<=s.S)(h1:s.S<=s.L.length)(hl:l<=s.L.length):wU s l:=by
 have hp:=b9k hd;obtain⟨d1,d2,d3,d4,_⟩:=hd;refine⟨⟨by omega,by omega,by omega⟩,by omega,hp,h69,h0,h1,hr.1,hl,λi hi=> ?_⟩
 obtain⟨a,b⟩:=hr.2 i hi;exact⟨b,a5D ((R7 _).2 a)⟩
theorem b9w{e:Eng}{k:Nat}(hk:k<e.X.length):cK e k a9f:=by
 unfold cK a9f;dsimp only;exact⟨by omega,by omega,by omega,by omega,λ_=>rfl,λ_ _=>⟨rfl,rfl,rfl,rfl⟩,by omega,by omega,by omega,by omega,by omega,by omega,by decide,by decide,λ_=>rfl,hk⟩
theorem b4h{e:Eng}{tx:Int}{k:Nat}(ho:N6 e=true)(hu:e.up=true)(ha:U4 e.X tx=k)(hk:k<e.X.length)(hi:(e.X.getD k dz).id=tx):q8 (mB e k).s.L/\wU (mB e k).s (e.s.L.length+1:Nat)/\G5 (oU e k).1.d/\(oU e k).1.d.E.length=69:=by
 obtain⟨_,hok,hl⟩:=c0A ho hu ha hk hi (b9w hk);obtain⟨hd,h69⟩:=b5g ho;have hL:=a2a (pR (J4 ho).1) hok hl;have hL:q8 (mB e k).s.L:=hL;have hlen:(mB e k).s.L.length=e.s.L.length+1:=by show(e.s.L++[_]).length=_;simp
 have hs:=sU ((M2 e.s).1 (J4 ho).1).1.2.2;have hf:wU (mB e k).s (e.s.L.length+1:Nat):=b8o hd h69 hL hs.1 (by have:(mB e k).s.S=e.s.S:=rfl;omega) (by omega)
 exact⟨hL,hf,a0a hd hf hL⟩
theorem c1g{e:Eng}(tx:Int)(ho:N6 e=true):b4i e tx:=by
 obtain⟨a1,a2,a3,a4⟩:=k8 (J4 ho).2.1;obtain⟨l1,l2⟩:=a30 a4;refine⟨by unfold O6;omega,λh0=> ?_⟩
 obtain⟨hu,k,e1,hk,hi,ha⟩:=x4 h0;rw[e1,F5];obtain⟨_,hf,hd,h69⟩:=b4h ho hu ha hk hi;exact⟨hk,by omega,by have:=(pR (J4 ho).1).1;omega,hf,hd,h69,by omega,by omega⟩
theorem b9a{d:Dsk}(h:G5 d):nD d:=by
 obtain⟨d1,d2,d3,d4,_⟩:=h;exact⟨by omega,by omega,by omega⟩
theorem b7R{e:Eng}(hd:G5 e.s.d):y8 (nH e):=by
 have hm:=b8Z e.s.d e.s.ep;have h2:=hd.2.1;refine⟨⟨b9a hd,?_,S7 _,λi hi=>absurd hi (J5 _)⟩,S7 _,S7 _,S7 _⟩
 show(v3 _ _).length<=_;rw[zV];omega
end Go.Proofs.YtghgljelnhfihaaGreat

