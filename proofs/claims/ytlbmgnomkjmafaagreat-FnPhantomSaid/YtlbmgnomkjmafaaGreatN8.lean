/- A part of the proof. -/
import Derived.Test.YtlbmgnomkjmafaaGreatV1e
import Derived.Test.YtlbmgnomkjmafaaGreatU1
namespace Go.Proofs.YtlbmgnomkjmafaaGreat
set_option maxRecDepth 100000
open Go.SS Go.Proofs.Tryz
noncomputable section
def a2j:Con:=.rel ⟨Int×Int,λx=>[Ji x.1,Ji x.2],λx=>.bool (a5N x.1 x.2),λ_=>True⟩
theorem a3m(a b:Int)(h:
  (a==b||a==4||b==1)=a5N a b):
  V2 prog 281 [Ji a,Ji b] (.bool (a5N a b)):=
 S2 gN func281 Y7 h
theorem a1H:GK 281 a2j:=gk func281<|λx _=>a3m x.1 x.2 rfl
def a7V:Con:=.rel ⟨Lks×Lck,λx=>.agg x.1.ts::x.2.ts,λx=>.bool (anyI x.1.H.length (uX x.1.H x.2)),λx=>N6 x.1.H.length⟩
def a6j(l:Lks)(x:Lck):Nat->Ann
 |0=>.one (V0 l.H.length (uX l.H x)) (λy=>⟨[(1,Ji x.tx),(2,Ji x.ta),(3,Ji x.row),(4,Ji x.mo),(5,.ref 0 0 0),(11,Ji y.1)],[lkB l]⟩) (λy=>l.H.length-y.1) [.box 0] [.box 0] (λ_=>Y7)
 |_=>.none
theorem a35:GK 262 a7V:=gk func262<|by
 rintro⟨l,x⟩ (hL:l.H.length<1000000000000);refine S2 (gC a1H gN) func262 (a6j l x) (α:=let q:=(oo ((Z2 Y6 l.H l.H)/\(Z2 Y4 l.W l.W)/\True));(∃(X:V0 l.H.length (uX l.H x)),(x.tx=x.tx/\x.ta=x.ta/\x.row=x.row/\x.mo=x.mo/\(0=0/\0=0)/\0=(X.val:Int)/\True)/\q/\True)/\∀(X:V0 l.H.length (uX l.H x)),let r:=(X.val:Int);let p:=(l.H.getD r.toNat dz);bd (r<(l.H.length:Int)) (V6 r l.H.length/\∃(d:(Int×Int)),((p.tx==x.tx&&p.ta==x.ta&&p.row==x.row)=true->(p.mo=d.1/\x.mo=d.2/\True)/\True)/\br (p.tx==x.tx&&p.ta==x.ta&&p.row==x.row&&a5N d.1 d.2) (true=anyI l.H.length (uX l.H x)) (Ri (r+1)/\∃(y:V0 l.H.length (uX l.H x)),((x.tx=x.tx/\x.ta=x.ta/\x.row=x.row/\x.mo=x.mo/\(0=0/\0=0)/\r+1=(y.1:Int)/\True)/\q/\True)/\Lt (l.H.length-y.1) (l.H.length-X.val))) (false=anyI l.H.length (uX l.H x))) ⟨⟨H5,Z8⟩,λy=>⟨λC=>?_,λC=>?_⟩⟩
 ·have h:=Y2 C;exact⟨Y1 h,((l.H.getD y.1 dz).mo,x.mo),λ_=>Z8,λhp=>(S8.2 ⟨y.1,h,hp⟩).symm,λhp=>⟨V8 h Z9,y.succ h hp,⟨⟨rfl,rfl,rfl,rfl,Z8,L3,Z6⟩,Z8⟩,V0.ext_lt h⟩⟩
 ·have e:=X7 C;exact(R8.2 λj J=>y.2.2 j (zH J e)).symm
def c35:Con:=.rmk ⟨Lks,λl=>[.agg l.ts],λ_=>[],λl=>.agg (l.tm 0),λl=>l.hp,lM⟩
theorem c0g:GK 79 c35:=gk func79<|by
 rintro(l:Lks) ⟨h1,h2⟩;exact⟨w3 (gC M8 (gC M8 (gC M8 (gC M8 (gC M8 (gC M8 (gC M8 (gC M8 gN)))))))) func79 Y7 [[.arr 2,.arr 3]] (α:=U8 0 l.H.length 32/\U8 0 l.W.length 16/\(((0=0/\l.H.length=l.H.length)/\(0=0/\l.W.length=l.W.length)/\True)/\True)/\(Z2 Y6 l.H l.H)/\(Z2 Y4 l.W l.W)/\True) ⟨Q5,Q5,Z8⟩,rfl,nA l⟩
def c38:Con:=.reff ⟨Lks×Int,λx=>[.agg (x.1.tm 0),Ji x.2],λx=>x.1.hp,λx=>.agg [.osl 0 0 x.1.H.length,.osl 2 0 (K6 x.1 x.2).W.length],λx=>[uG x.1.H,qU x.1.W,qU (K6 x.1 x.2).W],λx=>x.1.W.length<=1000000⟩
def c10(l:Lks)(tx:Int):Nat->Ann
 |0=>.one (Up l.W.length) (λx=>⟨[(1,Ji tx),(2,.ref 2 0 0),(4,.ref 3 0 0),(5,.osl 4 0 (X8 (cF tx) l.W x.1).length),(6,Ji x.1)],[uG l.H,qU l.W,some (.arr false 1000000 2 1 λ_=>l.tm 0),lkB ⟨[],[]⟩,qU (X8 (cF tx) l.W x.1)]⟩) (λx=>l.W.length-x.1) c01 c01 (λ_=>Y7)
 |_=>.none
theorem c0j:GK 261 c38:=gk func261<|by
 rintro⟨l,tx⟩ (h1:l.W.length<=1000000);refine w3 gN func261 (c10 l tx) [[.arr 0,.arr 1,.vl 0 [1]]] (α:=let g:=(X8 (cF tx) l.W l.W.length);let f:=(0=0/\l.H.length=l.H.length);let m:=(Z2 Y4 l.W l.W);let k:=(Z2 Y6 l.H l.H);let v:=(0=0/\0=0);let z:=(oo ((0=0/\Z7 0 (Y6 []) (Y6 []))/\(0=0/\Z7 0 (Y4 []) (Y4 []))/\True));let q:=(oo (f/\(0=0/\l.W.length=l.W.length)/\True));(∃(x:Up l.W.length),let w:=(X8 (cF tx) l.W x.1);(tx=tx/\v/\v/\(0=0/\0=w.length)/\0=(x.1:Int)/\True)/\k/\m/\q/\(oo (0=0/\0=0/\True))/\(0=w.length/\Z7 0 (tk 2 []) (Y4 w))/\True)/\∀(x:Up l.W.length),let c:=(l.W.length-x.1);let r:=(x.1:Int);let b:=(0+r.toNat);let u:=(l.W.getD b dz);let p:=(X8 (cF tx) l.W x.1);let n:=p.length;bd (r<(l.W.length:Int)) (V6 r l.W.length/\Lt b l.W.length/\br (u.tx !=tx) (V6 r l.W.length/\Lt b l.W.length/\(Le 1 1/\Le p.length n/\U8 p.length 1 16)/\Ri (r+1)/\∃(y:Up l.W.length),let j:=(X8 (cF tx) l.W y.1);((tx=tx/\v/\v/\(0=0/\n+1=j.length)/\r+1=(y.1:Int)/\True)/\k/\m/\q/\z/\(n+1=j.length/\Z7 (n+1) (X6 (Y4 p) p.length (tk 2 [Ji u.tx,Ji u.fo])) (Y4 j))/\True)/\Lt (l.W.length-y.1) c) (Ri (r+1)/\∃(y:Up l.W.length),let a:=(X8 (cF tx) l.W y.1);((tx=tx/\v/\v/\(0=0/\n=a.length)/\r+1=(y.1:Int)/\True)/\k/\m/\q/\z/\(Z2 Y4 p a)/\True)/\Lt (l.W.length-y.1) c)) (((f/\(0=0/\n=g.length)/\True)/\True)/\k/\m/\(Z2 Y4 p g)/\True)) ⟨⟨⟨0,N7 _⟩,Z8,Z8,Z8,Z8,Z8,⟨rfl,K0⟩,Z6⟩,λx=>⟨λhc=>?_,λhc=>?_⟩⟩
 ·have hlt:=Y2 hc;have hle:=zW (cF tx) l.W x.1;rw[E8,E5];refine⟨Y1 hlt,hlt,λhq=>?_,λhq=>?_⟩
  ·have hn:=kF (f:=cF tx) hq;refine⟨Y1 hlt,hlt,⟨U9 _,U9 _,Q5⟩,Z3 Z9,⟨x.1+1,hlt⟩,⟨⟨rfl,Z8,Z8,⟨rfl,hn⟩,X0,Z6⟩,Z8,Z8,Z8,⟨rfl,rfl,⟨rfl,K0⟩,⟨rfl,K0⟩,Z6⟩,⟨hn,?_⟩,Z6⟩,V0.ext_lt hlt⟩
   dsimp only;rw[a8B (f:=cF tx) hq];exact yP Wt.ts 2 (λ_=>rfl) _ _
  ·have hn:=lI (f:=cF tx) hq;refine⟨Z3 Z9,⟨x.1+1,hlt⟩,?_,V0.ext_lt hlt⟩
   dsimp only;rw[hn];exact⟨⟨rfl,Z8,Z8,Z8,Z9,Z6⟩,Z8,Z8,Z8,⟨rfl,rfl,⟨rfl,K0⟩,⟨rfl,K0⟩,Z6⟩,Z8⟩
 ·have hx:x.1=l.W.length:=by have:=x.2;have:=X7 hc;omega
  rw[hx];exact Z8
def a4B(W:List Wt)(R:List Int):Nat:=(W.filter λw=> !R.contains w.fo).length
def RnS(W:List Wt)(tx:Int):Type:={x:Nat×Nat×List Int//a1j W tx x.1 x.2.1 x.2.2=rnd W tx/\a4B W x.2.2+x.2.2.length<=x.2.1+x.1/\x.2.1<=x.2.2.length/\x.1+x.2.1=200}
def ScS(W:List Wt)(tx a:Int)(R:List Int):Type:={x:Nat×List Int//x.1<=W.length/\scn W tx a R x.1=some x.2}
def a6O:Con:=.rel ⟨Lks×Int,λx=>[.agg x.1.ts,Ji x.2],λx=>.bool (rnd x.1.W x.2),λx=>x.1.W.length<=100⟩
def a7P(l:Lks)(tx:Int):Nat->Ann
 |0=>.one (RnS l.W tx) (λx=>⟨[(1,Ji tx),(2,.ref 0 0 0),(5,.osl 1 0 x.1.2.2.length),(6,Ji x.1.2.1)],[lkB l,z6 x.1.2.2]⟩) (λx=>x.1.1) c0p c0p (λx=>fun
  |1=>.one (ScS l.W tx (x.1.2.2.getD x.1.2.1 0) x.1.2.2) (λy=>⟨[(1,Ji tx),(2,.ref 0 0 0),(5,.osl 1 0 y.1.2.length),(6,Ji x.1.2.1),(7,Ji y.1.1)],[lkB l,z6 y.1.2]⟩) (λy=>l.W.length-y.1.1) c0p c0p (λy=>fun
   |2=>.one {j:Nat//j<=y.1.2.length} (λz=>⟨[(1,Ji tx),(2,.ref 0 0 0),(5,.osl 1 0 y.1.2.length),(6,Ji x.1.2.1),(7,Ji y.1.1),(8,.ref 2 0 0),(9,.bool (anyI z.1 (thr y.1.2 (l.W.getD y.1.1 dz).fo))),(10,Ji z.1)],[lkB l,z6 y.1.2,some (.arr true 1000000 2 1 λ_=>(l.W.getD y.1.1 dz).ts)]⟩) (λz=>y.1.2.length-z.1) [.box 0,.at_ 5,.box 2] [.box 0,.at_ 5,.box 2] (λ_=>Y7)
   |_=>.none)
  |_=>.none)
 |_=>.none
theorem b4Z{n:Nat}{p:Nat->Bool}:anyI (n+1) p=(anyI n p||p n):=by
 unfold anyI;rw[List.range_succ,List.any_append];simp
theorem a4h{α:Type}{p q:α->Bool}(h:∀b,q b=true->p b=true):∀L:List α,(L.filter q).length<=(L.filter p).length
 | []=>U9 _
 |b::L=>by
  have i:=a4h h L;cases Q:q b with
  |true=>rw[List.filter_cons_of_pos Q,List.filter_cons_of_pos (h b Q)];simp only[List.length_cons];omega
  |false=>
   rw[List.filter_cons_of_neg (by rw[Q];simp)]
   cases hp:p b with
   |true=>rw[List.filter_cons_of_pos hp];simp only[List.length_cons];omega
   |false=>rw[List.filter_cons_of_neg (by rw[hp];simp)];exact i
theorem a2Y{α:Type}{p q:α->Bool}(h:∀b,q b=true->p b=true){a:α}(hp:p a=true)(hq:q a=false):∀L:List α,a ∈ L->(L.filter q).length+1<=(L.filter p).length
 |b::L,ha=>by
  have M:=a4h h L;by_cases e:b=a
  ·subst e;rw[List.filter_cons_of_pos hp,List.filter_cons_of_neg (by rw[hq];simp)]
   simp only[List.length_cons];omega
  ·have ih:=a2Y h hp hq L ((xX.1 ha).resolve_left λe'=>e e'.symm)
   cases B:q b with
   |true=>rw[List.filter_cons_of_pos B,List.filter_cons_of_pos (h b B)];simp only[List.length_cons];omega
   |false=>
    rw[List.filter_cons_of_neg (by rw[B];simp)]
    cases d:p b with
    |true=>rw[List.filter_cons_of_pos d];simp only[List.length_cons];omega
    |false=>rw[List.filter_cons_of_neg (by rw[d];simp)];exact ih
theorem b7E{Q:List Int}{a:Int}(h:anyI Q.length (thr Q a)=false):a ∉ Q:=λM=>by
 obtain⟨i,hi,e⟩:=List.getElem_of_mem M;have:=R8.1 h i hi;unfold thr at this;rw[Q2,J5 hi,e,Option.getD_some] at this
 simp at this
theorem b99{W:List Wt}{Q:List Int}{k:Nat}(d:k<W.length)(h:anyI Q.length (thr Q (W.getD k dz).fo)=false):a4B W (Q++[(W.getD k dz).fo])+1<=a4B W Q:=by
 have M:=b7E h;refine a2Y (λb B=>?_) (a:=W.getD k dz) ?_ ?_ W (zK d)
 ·simp only[xO,List.contains_eq_mem,pT,List.mem_append,not_or] at B ⊢;exact B.1
 ·simp only[xO,List.contains_eq_mem,pT];exact M
 ·simp
theorem fK{W:List Wt}{tx a:Int}{R Q:List Int}{k:Nat}(h:scn W tx a R k=some Q):scn W tx a R (k+1)=if(W.getD k dz).tx=a then(if(W.getD k dz).fo=tx then none else if anyI Q.length (thr Q (W.getD k dz).fo)=true then some Q else some (Q++[(W.getD k dz).fo])) else some Q:=by
 conv=>lhs;unfold scn
 rw[h]
theorem nQ{W:List Wt}{tx a:Int}{R:List Int}{k:Nat}(h:scn W tx a R k=none):∀d,scn W tx a R (k+d)=none
 |0=>h
 |d+1=>by
  show scn W tx a R ((k+d)+1)=none;conv=>lhs;unfold scn
  rw[nQ h d]
theorem a65{W:List Wt}{tx a:Int}{R:List Int}:∀k Q,k<=W.length->scn W tx a R k=some Q->(∀i,i<R.length->Q.getD i 0=R.getD i 0)/\R.length<=Q.length/\a4B W Q+Q.length<=a4B W R+R.length
 |0,Q,_,h=>by
  unfold scn at h;cases h;exact Z8
 |k+1,Q,hk,h=>by
  cases d:scn W tx a R k with
  |none=>have:=nQ d 1;rw[this] at h;cases h
  |some Q0=>
   obtain⟨I,f,e⟩:=a65 k Q0 Z9 d
   rw[fK d] at h;split at h
   ·split at h
    ·cases h
    ·split at h
     ·cases h;exact⟨I,f,e⟩
     ·rename_i ha;cases h;have:=b99 (W:=W) (k:=k) Z9 tZ
      refine⟨λi hi=>?_,I0,by simp only[J3,List.length_singleton];omega⟩
      rw[←I i hi,Q2,tT Z9,←Q2]
   ·cases h;exact⟨I,f,e⟩
theorem c1V{W:List Wt}{tx:Int}{f i:Nat}{R:List Int}(hi:i<R.length):a1j W tx (f+1) i R=match scn W tx (R.getD i 0) R W.length with|none=>true|some Q=>a1j W tx f (i+1) Q:=by
 conv=>lhs;unfold a1j
 exact(if_pos hi).trans (by cases scn W tx (R.getD i 0) R W.length<;>rfl)
theorem c1R{W:List Wt}{tx:Int}{f i:Nat}{R:List Int}(hi:¬i<R.length):a1j W tx f i R=false:=by
 cases f with
 |zero=>rfl
 |succ f=>unfold a1j;rw[if_neg hi]
theorem a3r:GK 263 a6O:=gk func263<|by
 rintro⟨l,tx⟩ (h:l.W.length<=100);have W:∀R,a4B l.W R<=100:=λR=>Nat.le_trans (List.length_filter_le _ _) h
 refine S2 gN func263 (a7P l tx) (α:=let w:=(0=0/\0=0);let q:=(oo ((Z2 Y6 l.H l.H)/\(Z2 Y4 l.W l.W)/\True));(∃(x:RnS l.W tx),let a:=x.1.2;(tx=tx/\w/\(0=0/\1=a.2.length)/\0=(a.1:Int)/\True)/\q/\(1=a.2.length/\Z7 1 (tk 1 [Ji tx]) (Y9 a.2))/\True)/\∀(x:RnS l.W tx),let b:=x.1.2;let z:=(b.1:Int);bd (z<(b.2.length:Int)) ((∃(X:ScS l.W tx (x.1.2.2.getD x.1.2.1 (0:Int)) x.1.2.2),(tx=tx/\w/\(0=0/\b.2.length=X.val.2.length)/\z=z/\0=(X.val.1:Int)/\True)/\q/\(Z2 Y9 b.2 X.val.2)/\True)/\∀(X:ScS l.W tx (x.1.2.2.getD x.1.2.1 (0:Int)) x.1.2.2),let g:=(l.W.length-X.val.1);let f:=(Z2 Y9 X.val.2 X.val.2);let n:=(0=0/\X.val.2.length=X.val.2.length);let u:=(X.val.1:Int);let k:=(l.W.getD u.toNat dz);let r:=(l.W.getD X.val.1 dz);let v:=(thr X.val.2 r.fo);let p:=(Ri (u+1)/\∃(y:ScS l.W tx (x.1.2.2.getD x.1.2.1 (0:Int)) x.1.2.2),((tx=tx/\w/\(0=0/\X.val.2.length=y.1.2.length)/\z=z/\u+1=(y.1.1:Int)/\True)/\q/\(Z2 Y9 X.val.2 y.1.2)/\True)/\Lt (l.W.length-y.1.1) g);bd (u<(l.W.length:Int)) (V6 u l.W.length/\V6 z X.val.2.length/\Lt (0+z.toNat) X.val.2.length/\br (k.tx !=X.val.2.getD (0+z.toNat) (0:Int)) p (br (k.fo==tx) (true=rnd l.W tx) ((∃(d:{j:Nat//j<=X.val.2.length}),(tx=tx/\w/\n/\z=z/\u=u/\w/\false=anyI d.val v/\0=(d.val:Int)/\True)/\q/\f/\(oo (k.tx=r.tx/\k.fo=r.fo/\True))/\True)/\∀(d:{j:Nat//j<=X.val.2.length}),let m:=(d.val:Int);bd (m<(X.val.2.length:Int)) ((anyI d.val v=false->V6 m X.val.2.length)/\(anyI d.val v=false->Lt (0+m.toNat) X.val.2.length)/\Ri (m+1)/\∃(y:{j:Nat//j<=X.val.2.length}),((tx=tx/\w/\n/\z=z/\u=u/\w/\(anyI d.val v||X.val.2.getD (0+m.toNat) (0:Int)==r.fo)=anyI y.1 v/\m+1=(y.1:Int)/\True)/\q/\f/\(oo (r.tx=r.tx/\r.fo=r.fo/\True))/\True)/\Lt (X.val.2.length-y.1) (X.val.2.length-d.val)) (br (!anyI d.val v) ((Le 1 1/\Le X.val.2.length X.val.2.length/\U8 X.val.2.length 1 8)/\Ri (u+1)/\∃(y:ScS l.W tx (x.1.2.2.getD x.1.2.1 (0:Int)) x.1.2.2),((tx=tx/\w/\(0=0/\X.val.2.length+1=y.1.2.length)/\z=z/\u+1=(y.1.1:Int)/\True)/\q/\(X.val.2.length+1=y.1.2.length/\Z7 (X.val.2.length+1) (X6 (Y9 X.val.2) X.val.2.length (tk 1 [Ji r.fo])) (Y9 y.1.2))/\True)/\Lt (l.W.length-y.1.1) g) p)))) (Ri (z+1)/\∃(y:RnS l.W tx),((tx=tx/\w/\(0=0/\X.val.2.length=y.1.2.2.length)/\z+1=(y.1.2.1:Int)/\True)/\q/\(Z2 Y9 X.val.2 y.1.2.2)/\True)/\Lt y.1.1 x.1.1)) (false=rnd l.W tx)) ⟨⟨⟨(200,0,[tx]),rfl,by have:=W [tx];dsimp only[List.length_singleton];omega,N7 _,rfl⟩,⟨rfl,⟨rfl,rfl⟩,⟨rfl,rfl⟩,rfl,Z6⟩,⟨rfl,rfl,⟨rfl,W2 _ _⟩,⟨rfl,W2 _ _⟩,Z6⟩,⟨rfl,λj J=>by(obtain rfl:j=0:=by omega);rfl⟩,Z6⟩,λx=>?_⟩
 obtain⟨⟨f,i,R⟩,e,M,hi,q⟩:=x;dsimp only at e M hi q ⊢;have u:=W R;refine⟨λhc=>?_,λhc=>?_⟩
 ·have hlt:=Y2 hc;obtain⟨g,rfl⟩:∃g,f=g+1:=⟨f-1,Z9⟩
  rw[c1V hlt] at e;refine⟨⟨⟨(0,R),Z8⟩,Z8⟩,λy=>?_⟩
  obtain⟨⟨k,Q⟩,n,hs⟩:=y;dsimp only at n hs ⊢;obtain⟨r,v,A⟩:=a65 k Q n hs;have e1:=r i hlt;rw[E8 k,E8 i,E5];refine⟨λhc2=>?_,λhc2=>?_⟩
  ·have hkt:=Y2 hc2;have hss:=fK hs;refine⟨Y1 hkt,Y1 Z9,I5,λhq=>?_,λhq=>⟨λhb=>?_,λhb=>⟨⟨⟨0,N7 _⟩,Z8⟩,λz=>?_⟩⟩⟩
   ·rw[e1] at hq;rw[if_neg (by simpa using hq)] at hss
    exact⟨Z3 Z9,⟨(k+1,Q),hkt,hss⟩,⟨⟨rfl,Z8,Z8,rfl,X0,Z6⟩,Z8⟩,K1⟩
   ·rw[e1] at hq;rw[if_pos (by simpa using hq),if_pos lO] at hss
    have:=nQ hss (l.W.length- (k+1));rw[show k+1+(l.W.length- (k+1))=l.W.length by omega] at this
    rw[this] at e;exact e
   ·rw[e1] at hq;rw[if_pos (by simpa using hq),if_neg lO] at hss
    obtain⟨j,J⟩:=z;dsimp only at J ⊢;rw[E8,E5];refine⟨λhc3=>?_,λhc3=>?_⟩
    ·have t:=Y2 hc3;exact⟨λ_=>Y1 t,λ_=>t,Z3 Z9,⟨j+1,t⟩,⟨⟨rfl,Z8,Z8,rfl,rfl,Z8,b4Z.symm,X0,Z6⟩,Z8⟩,K1⟩
    ·obtain rfl:j=Q.length:=by have:=X7 hc3;omega
     refine⟨λha=>?_,λha=>?_⟩
     ·have ha:anyI Q.length (thr Q (l.W.getD k dz).fo)=false:=by simpa using ha
      rw[if_neg (by rw[ha];simp)] at hss
      refine⟨⟨U9 _,U9 _,Q5⟩,Z3 Z9,⟨(k+1,Q++[(l.W.getD k dz).fo]),hkt,hss⟩,⟨⟨rfl,Z8,⟨rfl,X3⟩,rfl,X0,Z6⟩,Z8,⟨X3,?_⟩,Z6⟩,K1⟩
      exact yP (λa=>[Ji a]) 1 (λ_=>rfl) Q _
     ·have ha:anyI Q.length (thr Q (l.W.getD k dz).fo)=true:=by simpa using ha
      rw[if_pos ha] at hss;exact⟨Z3 Z9,⟨(k+1,Q),hkt,hss⟩,⟨⟨rfl,Z8,Z8,rfl,X0,Z6⟩,Z8⟩,K1⟩
  ·obtain rfl:k=l.W.length:=by have:=X7 hc2;omega
   rw[hs] at e;exact⟨Z3 Z9,⟨(g,i+1,Q),e,X0,X0,X0⟩,⟨⟨rfl,Z8,Z8,X0,Z6⟩,Z8⟩,K1⟩
 ·have o:=X7 hc;rw[←e];exact(c1R Z9).symm
def b2k(l:Lks)(x:Lck):Nat->Ann
 |0=>.one (Up l.H.length) (λi=>⟨[(1,Ji x.tx),(2,Ji x.ta),(3,Ji x.row),(4,Ji x.mo),(5,.ref 0 0 0),(10,.ref 1 0 0),(11,Ji 0),(12,.ref 2 0 0),(13,.osl 5 0 (V5 l.H x i.1).length),(14,Ji i.1)],[lkB l,lkB ⟨[],[]⟩,lkO 3 l.H.length 4 (K6 l x.tx).W.length,uG l.H,qU (K6 l x.tx).W,qU (V5 l.H x i.1)]⟩) (λi=>l.H.length-i.1) [.box 0,.box 1,.box 5,.cel 5 0,.cel 5 1,.at_ 13] [.box 0,.box 1,.box 2,.cel 2 0,.cel 2 1,.at_ 13] (λi=>fun
  |1=>.one {j:Nat//j<=(V5 l.H x i.1).length} (λj=>⟨[(1,Ji x.tx),(2,Ji x.ta),(3,Ji x.row),(4,Ji x.mo),(5,.ref 0 0 0),(10,.ref 1 0 0),(11,Ji 0),(12,.ref 2 0 0),(13,.osl 5 0 (V5 l.H x i.1).length),(14,Ji i.1),(15,.ref 6 0 0),(16,.ref 7 0 0),(17,.bool (anyI j.1 (eU (V5 l.H x i.1) ⟨x.tx,(l.H.getD i.1 dz).tx⟩))),(18,Ji j.1)],[lkB l,lkB ⟨[],[]⟩,lkO 3 l.H.length 4 (K6 l x.tx).W.length,uG l.H,qU (K6 l x.tx).W,qU (V5 l.H x i.1),some (.arr true 1000000 4 1 λ_=>(l.H.getD i.1 dz).ts),some (.arr true 1000000 2 1 λ_=>[Ji x.tx,Ji (l.H.getD i.1 dz).tx])]⟩) (λj=>(V5 l.H x i.1).length-j.1) c1T c1T (λ_=>Y7)
  |_=>.none)
 |_=>.none
def b12:Con:=.rel ⟨Lks×Lck,λx=>.agg x.1.ts::x.2.ts,λx=>.tup [.agg (X1 x.1 x.2).1.ts,Ji (X1 x.1 x.2).2],λx=>x.1.H.length<=60/\x.1.W.length<=100⟩
theorem c1x{L:List Lck}{x:Lck}{i:Nat}:V5 L x (i+1)=if clash (L.getD i dz) x=true then(if anyI (V5 L x i).length (eU (V5 L x i) ⟨x.tx,(L.getD i dz).tx⟩)=true then V5 L x i else V5 L x i++[⟨x.tx,(L.getD i dz).tx⟩]) else V5 L x i:=rfl
theorem c1q(a b:Lck):((a.tx !=b.tx)&&(a.ta==b.ta)&&(a.row==b.row)&& !tP a.mo b.mo)=clash a b:=by
 unfold clash uE;rw[Bool.and_assoc (a.tx !=b.tx)]
theorem a5i(L M:List Wt):Z7 (L.length+M.length) (X6 (Y4 L) L.length (Y4 M)) (Y4 (L++M)):=by
 intro i hi;unfold X6 Y4;by_cases h:i<L.length
 ·rw[tI h];dsimp only;rw[Q2,Q2,tT h]
 ·rw[nW h];dsimp only;rw[Q2,Q2,rL Z9]
theorem a6b:GK 213 b12:=gk func213<|by
 rintro⟨l,x⟩ ⟨v,u⟩;dsimp only at v u;have C:(X8 (cF x.tx) l.W l.W.length).length<=l.W.length:=zW (cF x.tx) l.W l.W.length;have r:=λn=>a6w (L:=l.H) (x:=x) n
 refine S2 (gC c0g (gC c0j (gC a35 (gC bF (gC a3r gN))))) func213 (b2k l x) (α:=let pq:=(l.H.length+1);let pk:=(X1 l x).1.W;let pj:=(X1 l x).1.H;let ph:=(X1 l x).2;let pd:=(Z2 Y6 l.H l.H);let c:=(0=0/\0=0);let n:=(oo (pd/\(Z2 Y4 l.W l.W)/\True));let k:=(oo ((0=0/\Z7 0 (Y6 []) (Y6 []))/\(0=0/\Z7 0 (Y4 []) (Y4 []))/\True));let p:=(X8 (cF x.tx) l.W l.W.length);let pp:=(Z2 Y4 p p);let pg:=p.length;let t:=((Z2 Y6 l.H pj)/\(Z2 Y4 p pk)/\True);let a:=(Le (0+l.H.length) l.H.length/\Le (0+pg) pg);let m:=(oo ((0=0/\l.H.length=l.H.length)/\(0=0/\pg=pg)/\True));∃(q:Lks),((((Z2 Y6 l.H q.H)/\(Z2 Y4 l.W q.W)/\True)/\True)/\lM q)/\∃(d:(Lks×Int)),let pt:=d.1.W.length;let pm:=d.1.H.length;let w:=(X8 (cF d.2) d.1.W pt);let pc:=(Le (0+pm) pm/\Le (0+w.length) w.length);((((0=0/\q.H.length=pm)/\(0=0/\q.W.length=pt)/\True)/\x.tx=d.2/\True)/\((Z2 Y6 q.H d.1.H)/\(Z2 Y4 q.W d.1.W)/\True)/\pt<=1000000)/\∃(h:(Lks×Lck)),(pc/\(((Z2 Y6 d.1.H h.1.H)/\(Z2 Y4 w h.1.W)/\True)/\x.tx=h.2.tx/\x.ta=h.2.ta/\x.row=h.2.row/\x.mo=h.2.mo/\True)/\N6 h.1.H.length)/\br (anyI h.1.H.length (uX h.1.H h.2)) (pc/\((Z2 Y6 d.1.H pj)/\(Z2 Y4 w pk)/\True)/\0=ph/\True) ((∃(X:Up l.H.length),let pn:=(V5 l.H x X.val);(x.tx=x.tx/\x.ta=x.ta/\x.row=x.row/\x.mo=x.mo/\c/\c/\(0:Int)=0/\c/\(0=0/\0=pn.length)/\0=(X.val:Int)/\True)/\n/\(oo (0=0/\0=0/\True))/\(oo ((0=0/\pm=l.H.length)/\(0=0/\w.length=pg)/\True))/\(Z2 Y6 d.1.H l.H)/\(Z2 Y4 w p)/\(0=pn.length/\Z7 0 (tk 2 []) (Y4 pn))/\True)/\∀(X:Up l.H.length),let pa:=(X.val:Int);let v:=(l.H.getD (0+pa.toNat) dz);let u:=(l.H.getD X.val dz);let r:=(V5 l.H x X.val);let i:=(eU r (Wt.mk x.tx u.tx));let b:=r.length;let pr:=(↑b:Int);let z:=(Ri (pa+1)/\∃(y:Up l.H.length),((x.tx=x.tx/\x.ta=x.ta/\x.row=x.row/\x.mo=x.mo/\c/\c/\(0:Int)=0/\c/\(0=0/\b=(V5 l.H x y.1).length)/\pa+1=(y.1:Int)/\True)/\n/\k/\m/\pd/\pp/\(Z2 Y4 r (V5 l.H x y.1))/\True)/\Lt (l.H.length-y.1) (l.H.length-X.val));bd (pa<(l.H.length:Int)) (V6 pa l.H.length/\Lt (0+pa.toNat) l.H.length/\∃(f:(Int×Int)),((v.tx !=x.tx&&v.ta==x.ta&&v.row==x.row)=true->(v.mo=f.1/\x.mo=f.2/\True)/\True)/\br (v.tx !=x.tx&&v.ta==x.ta&&v.row==x.row&& !tP f.1 f.2) ((∃(g:{j:Nat//j<=(V5 l.H x X.val).length}),(x.tx=x.tx/\x.ta=x.ta/\x.row=x.row/\x.mo=x.mo/\c/\c/\(0:Int)=0/\c/\(0=0/\b=b)/\pa=pa/\c/\c/\false=anyI g.val i/\0=(g.val:Int)/\True)/\n/\k/\m/\pd/\pp/\(Z2 Y4 r r)/\(oo (v.tx=u.tx/\v.ta=u.ta/\v.row=u.row/\v.mo=u.mo/\True))/\(oo (x.tx=x.tx/\v.tx=u.tx/\True))/\True)/\∀(g:{j:Nat//j<=(V5 l.H x X.val).length}),let pe:=(g.val:Int);let ps:=(r.getD (0+pe.toNat) dz);bd (pe<pr) ((anyI g.val i=false->V6 pe b)/\(anyI g.val i=false->Lt (0+pe.toNat) b)/\Ri (pe+1)/\∃(y:{j:Nat//j<=(V5 l.H x X.val).length}),((x.tx=x.tx/\x.ta=x.ta/\x.row=x.row/\x.mo=x.mo/\c/\c/\(0:Int)=0/\c/\(0=0/\b=b)/\pa=pa/\c/\c/\(anyI g.val i||ps.tx==x.tx&&(ps.fo==u.tx&&true))=anyI y.1 i/\pe+1=(y.1:Int)/\True)/\n/\k/\m/\pd/\pp/\(Z2 Y4 r r)/\(oo (u.tx=u.tx/\u.ta=u.ta/\u.row=u.row/\u.mo=u.mo/\True))/\(oo (x.tx=x.tx/\u.tx=u.tx/\True))/\True)/\Lt (b-y.1) (b-g.val)) (br (!anyI g.val i) ((Le 1 1/\Le r.length b/\U8 r.length 1 16)/\Ri (pa+1)/\∃(y:Up l.H.length),let po:=(V5 l.H x y.1);((x.tx=x.tx/\x.ta=x.ta/\x.row=x.row/\x.mo=x.mo/\c/\c/\(0:Int)=0/\c/\(0=0/\b+1=po.length)/\pa+1=(y.1:Int)/\True)/\n/\k/\m/\pd/\pp/\(b+1=po.length/\Z7 (b+1) (X6 (Y4 r) r.length (tk 2 [Ji x.tx,Ji u.tx])) (Y4 po))/\True)/\Lt (l.H.length-y.1) (l.H.length-X.val)) z)) z) (br (pr==0) (br ((l.H.length:Int)==60) (a/\t/\7=ph/\True) ((Le 1 1/\Le l.H.length l.H.length/\U8 l.H.length 1 32)/\(Le (0+pq) pq/\Le (0+pg) pg)/\((l.H.length+1=(X1 l x).1.H.length/\Z7 pq (X6 (Y6 l.H) l.H.length (tk 4 [Ji x.tx,Ji x.ta,Ji x.row,Ji x.mo])) (Y6 pj))/\(Z2 Y4 p pk)/\True)/\0=ph/\True)) (Ri ((↑pg:Int)+pr)/\bd ((↑pg:Int)+pr>100) (a/\t/\7=ph/\True) (∃(f:Lks),let pi:=(X6 (Y4 f.W) f.W.length (Y4 r));let pf:=f.W.length;let pb:=(Le (0+f.H.length) f.H.length/\Le (0+(pf+b)) (pf+b));(a/\(((Z2 Y6 l.H f.H)/\(Z2 Y4 p f.W)/\True)/\True)/\lM f)/\(Le (0+b) b/\Le f.W.length pf/\U8 f.W.length r.length 16)/\∃(g:(Lks×Int)),(pb/\(((Z2 Y6 f.H g.1.H)/\(pf+b=g.1.W.length/\Z7 (pf+b) pi (Y4 g.1.W))/\True)/\x.tx=g.2/\True)/\g.1.W.length<=100)/\br (rnd g.1.W g.2) (a/\t/\14=ph/\True) (pb/\((Z2 Y6 f.H pj)/\(pf+b=(X1 l x).1.W.length/\Z7 (pf+b) pi (Y4 pk))/\True)/\13=ph/\True)))))) ⟨l,⟨Z8,Z9,Z9⟩,(l,x.tx),⟨Z8,Z8,X0⟩,(K6 l x.tx,x),⟨⟨K2,K2⟩,Z8,by unfold N6 K6;dsimp only;omega⟩,λhh=>?_,λhh=>⟨⟨⟨0,N7 _⟩,Z8,Z8,Z8,Z8,Z8,Z8,⟨rfl,K0⟩,Z6⟩,λy=>?_⟩⟩
 ·have hh:anyI l.H.length (uX l.H x)=true:=hh;have e:X1 l x=(K6 l x.tx,0):=by unfold X1;rw[if_pos hh]
  rw[e];exact⟨⟨K2,K2⟩,Z8⟩
 have hh:¬anyI l.H.length (uX l.H x)=true:=by
  have hh:anyI l.H.length (uX l.H x)=false:=hh;rw[hh];simp
 obtain⟨i,hi⟩:=y;dsimp only at hi ⊢;have I:=r i;rw[E8,E5];refine⟨λhc=>?_,λhc=>?_⟩
 ·have hlt:=Y2 hc;have hw1:=c1x (L:=l.H) (x:=x) (i:=i);refine⟨Y1 hlt,hlt,((l.H.getD i dz).mo,x.mo),λ_=>Z8,λhq=>⟨⟨⟨0,N7 _⟩,Z8,Z8,⟨rfl,rfl,⟨rfl,K0⟩,⟨rfl,K0⟩,Z6⟩,Z8⟩,λz=>?_⟩,λhq=>?_⟩
  ·rw[if_pos ((c1q _ x).symm.trans hq)] at hw1;obtain⟨j,hj⟩:=z;dsimp only at hj ⊢;rw[E8,E5];refine⟨λhc2=>?_,λhc2=>?_⟩
   ·have t:=Y2 hc2;exact⟨λ_=>Y1 t,λ_=>t,Z3 Z9,⟨j+1,t⟩,⟨⟨rfl,rfl,rfl,rfl,Z8,Z8,rfl,Z8,Z8,rfl,Z8,Z8,b4Z.symm,X0,Z6⟩,Z8,⟨rfl,rfl,⟨rfl,K0⟩,⟨rfl,K0⟩,Z6⟩,Z8⟩,K1⟩
   ·obtain rfl:j=(V5 l.H x i).length:=by have:=X7 hc2;omega
    refine⟨λha=>?_,λha=>?_⟩
    ·rw[if_neg tZ] at hw1
     have N:(V5 l.H x i).length+1=(V5 l.H x (i+1)).length:=by rw[hw1];simp
     refine⟨⟨U9 _,U9 _,Q5⟩,Z3 Z9,⟨i+1,hlt⟩,⟨⟨rfl,rfl,rfl,rfl,Z8,Z8,rfl,Z8,⟨rfl,N⟩,X0,Z6⟩,Z8,⟨rfl,rfl,⟨rfl,K0⟩,⟨rfl,K0⟩,Z6⟩,Z8,Z8,Z8,⟨N,?_⟩,Z6⟩,K1⟩
     dsimp only;rw[hw1];exact yP Wt.ts 2 (λ_=>rfl) (V5 l.H x i) ⟨x.tx,(l.H.getD i dz).tx⟩
    ·rw[if_pos tZ] at hw1
     refine⟨Z3 Z9,⟨i+1,hlt⟩,?_,K1⟩
     dsimp only;rw[hw1];exact⟨⟨rfl,rfl,rfl,rfl,Z8,Z8,rfl,Z8,Z8,Z9,Z6⟩,Z8,⟨rfl,rfl,⟨rfl,K0⟩,⟨rfl,K0⟩,Z6⟩,Z8⟩
  ·rw[if_neg (by rw[←c1q,hq];simp)] at hw1
   refine⟨Z3 Z9,⟨i+1,hlt⟩,?_,K1⟩
   dsimp only;rw[hw1];exact⟨⟨rfl,rfl,rfl,rfl,Z8,Z8,rfl,Z8,Z8,Z9,Z6⟩,Z8,⟨rfl,rfl,⟨rfl,K0⟩,⟨rfl,K0⟩,Z6⟩,Z8⟩
 ·obtain rfl:i=l.H.length:=by have:=X7 hc;omega
  refine⟨λh0=>⟨λo=>?_,λo=>?_⟩,λh0=>⟨Z3 Z9,λB=>?_,λB=>?_⟩⟩
  ·have h0:(G6 l x).length=0:=by have:=beq_iff_eq.1 h0;unfold G6;omega
   have o:l.H.length=60:=by have:=beq_iff_eq.1 o;omega
   have e:X1 l x=(K6 l x.tx,7):=by unfold X1;rw[if_neg hh,if_pos h0,if_pos o]
   rw[e];exact⟨⟨K2,K2⟩,Z8⟩
  ·have h0:(G6 l x).length=0:=by have:=beq_iff_eq.1 h0;unfold G6;omega
   have o:¬l.H.length=60:=λe=>by rw[e] at o;cases o
   have e:X1 l x=(⟨l.H++[x],(K6 l x.tx).W⟩,0):=by unfold X1;rw[if_neg hh,if_pos h0,if_neg o]
   rw[e];exact⟨⟨U9 _,U9 _,Q5⟩,⟨K2,K2⟩,⟨⟨X3,yP Lck.ts 4 (λ_=>rfl) _ x⟩,Z8⟩,Z8⟩
  ·have h0:¬ (G6 l x).length=0:=λe=>by
    have e:(V5 l.H x l.H.length).length=0:=e;rw[e] at h0;cases h0
   have B:(K6 l x.tx).W.length+(G6 l x).length>100:=by have:=D4 B;unfold G6 K6;dsimp only;omega
   have e:X1 l x=(K6 l x.tx,7):=by unfold X1;rw[if_neg hh,if_neg h0,if_pos B]
   rw[e];exact⟨⟨K2,K2⟩,Z8⟩
  ·have h0:¬ (G6 l x).length=0:=λe=>by
    have e:(V5 l.H x l.H.length).length=0:=e;rw[e] at h0;cases h0
   have B:(X8 (cF x.tx) l.W l.W.length).length+(V5 l.H x l.H.length).length<=100:=by have:=q8 B;omega
   have hb':¬ (K6 l x.tx).W.length+(G6 l x).length>100:=by unfold G6 K6;dsimp only;omega
   have A:(X8 (cF x.tx) l.W l.W.length).length+(V5 l.H x l.H.length).length=((K6 l x.tx).W++G6 l x).length:=by unfold G6 K6;simp
   refine⟨K6 l x.tx,⟨⟨K2,K2⟩,Z8,by show l.H.length<=_;omega,by show(X8 (cF x.tx) l.W l.W.length).length<=_;omega⟩,⟨K2,U9 _,by show U8 (X8 (cF x.tx) l.W l.W.length).length _ _;unfold U8;omega⟩,(⟨l.H,(K6 l x.tx).W++G6 l x⟩,x.tx),⟨⟨K2,K2⟩,⟨⟨⟨rfl,W2 _ _⟩,⟨A,a5i _ _⟩,Z6⟩,rfl,Z6⟩,X0⟩,λhr=>?_,λhr=>?_⟩
   ·have hr:rnd ((K6 l x.tx).W++G6 l x) x.tx=true:=hr;have e:X1 l x=(K6 l x.tx,14):=by unfold X1;rw[if_neg hh,if_neg h0,if_neg hb',if_pos hr]
    rw[e];exact⟨⟨K2,K2⟩,Z8⟩
   ·have hr:¬rnd ((K6 l x.tx).W++G6 l x) x.tx=true:=by
     have hr:rnd ((K6 l x.tx).W++G6 l x) x.tx=false:=hr;rw[hr];simp
    have e:X1 l x=(⟨l.H,(K6 l x.tx).W++G6 l x⟩,13):=by unfold X1;rw[if_neg hh,if_neg h0,if_neg hb',if_neg hr]
    rw[e];exact⟨⟨K2,K2⟩,⟨Z8,⟨A,a5i _ _⟩,Z6⟩,Z8⟩
def Q9(L:List Val):Nat->Bz
 |0=>[]
 |i+1=>Q9 L i++A5 (L.getD i dz)
def mY(v:Val):Prop:=v.t.length<=100/\(v.k=0∨(v.k=1/\ -1000000000<=v.n/\v.n<=1000000000)∨v.k=2)
def RwK(r:Rw):Prop:=mY r.n/\mY r.name/\0<=r.id/\r.id<=1000
def b4J:Con:=.rel ⟨Val,λv=>[.agg v.ts],λv=>.bys (A5 v),mY⟩
theorem b0H:GK 149 b4J:=gk func149<|by
 rintro(v:Val) ⟨ht,hk⟩;have u8:∀n:Int,0<=n->n<=255->P6 IntKind.u8 n:=λn a b=>(yV n).2 ⟨a,b⟩
 refine S2 (gC uV gN) func149 Y7 (α:=br (v.k==0) (P6 IntKind.u8 (1:Int)/\Le 1 1/\List.take 1 (List.drop 0 (List.map R4 [(1:Int)]))=A5 v) (br (v.k==1) (P6 IntKind.u8 (2:Int)/\Ri (v.n+1000000000)/\∃(x:pC.ι),((v.n+1000000000=(x.1:Int)/\(4=match x.2 with|true=>(4:Int)|false=>(2:Int))/\True)/\True)/\(Le 1 1/\U8 1 (match x.2 with|true=>D5 x.1|false=>zS x.1).length 1)/\Le (0+(1+(match x.2 with|true=>D5 x.1|false=>zS x.1).length)) (List.take 1 (List.map R4 [(2:Int)])++match x.2 with|true=>D5 x.1|false=>zS x.1).length/\List.take (1+(match x.2 with|true=>D5 x.1|false=>zS x.1).length) (List.drop 0 (List.take 1 (List.map R4 [(2:Int)])++match x.2 with|true=>D5 x.1|false=>zS x.1))=A5 v) (P6 IntKind.u8 (3:Int)/\(Le 1 1/\U8 1 v.t.length 1)/\P6 IntKind.u8 (0:Int)/\(Le 1 1/\Le (1+v.t.length) (List.take 1 (List.map R4 [(3:Int)])++v.t).length/\U8 (1+v.t.length) 1 1)/\Le (0+(1+v.t.length+1)) (List.take (1+v.t.length) (List.take 1 (List.map R4 [(3:Int)])++v.t)++List.take 1 (List.drop 0 (List.map R4 [(0:Int)]))).length/\List.take (1+v.t.length+1) (List.drop 0 (List.take (1+v.t.length) (List.take 1 (List.map R4 [(3:Int)])++v.t)++List.take 1 (List.drop 0 (List.map R4 [(0:Int)]))))=A5 v))) ⟨λh0=>?_,λh0=>⟨λh1=>?_,λh1=>?_⟩⟩
 ·have h0:v.k=0:=beq_iff_eq.1 h0;unfold A5;rw[if_pos h0];exact⟨u8 _ W6 W6,Z8⟩
 ·have h1:v.k=1:=beq_iff_eq.1 h1;have hn:=(hk.resolve_left Z9).resolve_right Z9
  unfold A5;rw[if_neg Z9,if_pos h1]
  exact⟨u8 _ W6 W6,Z3 Z9,((v.n+1000000000).toNat,true),⟨⟨X0,Z8⟩,Z6⟩,⟨U9 _,by show U8 1 4 1;unfold U8;omega⟩,U9 _,rfl⟩
 ·have h0:¬v.k=0:=λe=>by rw[e] at h0;cases h0
  have h1:¬v.k=1:=λe=>by rw[e] at h1;cases h1
  have d:List.take (1+v.t.length) (List.take 1 (List.map R4 [(3:Int)])++v.t)=3::v.t:=List.take_of_length_le (by show(3::v.t).length<=_;simp only[List.length_cons];omega)
  unfold A5;rw[if_neg h0,if_neg h1,d];refine⟨u8 _ W6 W6,⟨U9 _,Q5⟩,u8 _ W6 W6,⟨U9 _,by show 1+v.t.length<=(3::v.t).length;simp only[List.length_cons];omega,Q5⟩,by show 0+(1+v.t.length+1)<=(3::v.t++[0]).length;simp only[J3,List.length_cons,List.length_nil];omega,?_⟩
  exact List.take_of_length_le (by show(3::v.t++[0]).length<=_;simp only[J3,List.length_cons,List.length_nil];omega)
def b0c:Con:=.rel ⟨List Val,λL=>[b2I L],λL=>.bys (Q9 L L.length),λL=>L.length<=100/\∀i,i<L.length->mY (L.getD i dz)⟩
def a96(L:List Val):Nat->Ann
 |0=>.one (Up L.length) (λx=>⟨[(0,b2I L),(3,.osl 0 0 (Q9 L x.1).length),(4,Ji x.1)],[some (.bys 5 (Q9 L x.1))]⟩) (λx=>L.length-x.1) [.at_ 3] [.at_ 3] (λ_=>Y7)
 |_=>.none
theorem jB{v:Val}(h:mY v):(A5 v).length<=102:=by
 unfold A5;split
 ·exact zT rfl
 ·split
  ·exact zT rfl
  ·have:=h.1;simp only[List.length_cons,J3,List.length_nil];omega
theorem gI{L:List Val}(h:∀i,i<L.length->mY (L.getD i dz)):∀i,i<=L.length->(Q9 L i).length<=102*i
 |0,_=>U9 _
 |i+1,hi=>by
  have d:=gI h i Z9
  have e:=jB (h i Z9)
  simp only[Q9,J3];omega
theorem a6x:GK 85 b0c:=gk func85<|by
 rintro(L:List Val) ⟨hL,hk⟩;refine S2 (gC b0H gN) func85 (a96 L) (α:=(∃(x:Up L.length),((Z2 Q1 L L)/\(0=0/\0=(Q9 L x.1).length)/\0=(x.1:Int)/\True)/\List.map R4 []=Q9 L x.1/\True)/\∀(x:Up L.length),let z:=(Q9 L x.1);let q:=(x.1:Int);let r:=(L.getD q.toNat dz);let p:=z.length;bd (q<(L.length:Int)) (V6 q L.length/\∃(X:Val),(((r.k=X.k/\r.n=X.n/\r.t=X.t/\True)/\True)/\mY X)/\(Le p p/\U8 p (A5 X).length 1)/\Ri (q+1)/\∃(y:Up L.length),(((Z2 Q1 L L)/\(0=0/\p+(A5 X).length=(Q9 L y.1).length)/\q+1=(y.1:Int)/\True)/\List.take p z++A5 X=Q9 L y.1/\True)/\Lt (L.length-y.1) (L.length-x.1)) (Le (0+p) p/\List.take p (List.drop 0 z)=Q9 L L.length)) ⟨⟨⟨0,N7 _⟩,Z8⟩,λx=>⟨λhc=>?_,λhc=>?_⟩⟩
 ·have hlt:=Y2 hc;have h1:=gI hk x.1 Z9
  have h:=jB (hk x.1 hlt);exact⟨Y1 hlt,L.getD x.1 dz,⟨Z8,hk x.1 hlt⟩,⟨U9 _,Q5⟩,Z3 Z9,⟨x.1+1,hlt⟩,⟨⟨Z8,⟨rfl,by simp only[Q9,J3]⟩,X0,Z6⟩,by rw[dC];rfl,Z6⟩,V0.ext_lt hlt⟩
 ·have hx:x.1=L.length:=by have:=x.2;have:=X7 hc;omega
  rw[hx];exact⟨K2,eH⟩
def a7t:Con:=.rel ⟨Int×Rw,λx=>[Ji x.1,.agg x.2.ts],λx=>.str (tS x.1 x.2),λx=>RwK x.2/\1<=x.1/\x.1<=3⟩
theorem a2k:GK 41 a7t:=gk func41<|by
 rintro⟨ta,r⟩ ⟨⟨d,h,j,f⟩,g,e⟩;dsimp only at d h j f g e;refine S2 (gC a6x (gC M8 gN)) func41 Y7 (α:=∃(x:(List Val)),let p:=x.length;(((4=p/\Z7 4 (tk 3 [Ji 1,Ji ta,T.str [],Ji 1,Ji r.id,T.str [],Ji r.n.k,Ji r.n.n,T.str r.n.t,Ji r.name.k,Ji r.name.n,T.str r.name.t]) (Q1 x))/\True)/\p<=100/\∀(i:Nat),i<p->mY (List.getD x i dz))/\Q9 x (p)=tS ta r) ⟨[⟨1,ta,[]⟩,⟨1,r.id,[]⟩,r.n,r.name],⟨⟨⟨rfl,λi hi=>?_⟩,Z6⟩,by show 4<=100;omega,λi hi=>?_⟩,rfl⟩
 ·match i,hi with
  |0,_=>rfl
  |1,_=>rfl
  |2,_=>rfl
  |3,_=>rfl
 ·match i,hi with
  |0,_=>exact⟨a8X,.inr (.inl ⟨rfl,by show-1000000000<=ta;omega,by show ta<=_;omega⟩)⟩
  |1,_=>exact⟨a8X,.inr (.inl ⟨rfl,by show-1000000000<=r.id;omega,by show r.id<=_;omega⟩)⟩
  |2,_=>exact d
  |3,_=>exact h
theorem EI.u{e:Eng}(h:EI e){k:Nat}(d:k<e.X.length):UI e k (e.X.getD k dz).id (e.X.getD k dz).Z:=c5z h.ok h.sm h.up (h.h.at_ d) d rfl
def KpS(e:Eng)(g s:Int)(i:Nat):Type:={x:Nat×Int//kepA e.s.L g s x.1 x.2=kepA e.s.L g s 61 (e.X.getD i dz).Z/\x.2.toNat<x.1/\x.2<=(e.s.L.length:Int)}
def b1P:Con:=.rel ⟨Eng×Int×Int×Int,λx=>[.agg x.1.ts,Ji x.2.1,Ji x.2.2.1,Ji x.2.2.2],λx=>.bool (wL x.1 x.2.1 x.2.2.1 x.2.2.2),λx=>wG x.1⟩
def b2r(e:Eng)(tx g s:Int):Nat->Ann
 |0=>.one (V0 e.X.length (tD e tx g s)) (λx=>⟨[(1,Ji tx),(2,Ji g),(3,Ji s),(4,.ref 0 0 0),(9,Ji x.1)],[u5 e]⟩) (λx=>e.X.length-x.1) [.box 0] [.box 0] (λx=>fun
  |1=>.one (KpS e g s x.1) (λy=>⟨[(1,Ji tx),(2,Ji g),(3,Ji s),(4,.ref 0 0 0),(9,Ji x.1),(10,Ji y.1.2)],[u5 e]⟩) (λy=>y.1.1) [.box 0] [.box 0] (λ_=>Y7)
  |_=>.none)
 |_=>.none
theorem c1d{L:List Rec}{g s:Int}{f:Nat}{a:Int}(h:¬a<=0):kepA L g s (f+1) a=if(X9 L a).k=3 then kepA L g s f (X9 L a).n else if(X9 L a).k=2/\(X9 L a).g=g/\(X9 L a).s=s then true else kepA L g s f (X9 L a).p:=by
 conv=>lhs;unfold kepA
 rw[if_neg h]
theorem c02{L:List Rec}{g s:Int}{f:Nat}{a:Int}(h:a<=0):kepA L g s f a=false:=by
 cases f with
 |zero=>rfl
 |succ f=>unfold kepA;rw[if_pos h]
theorem a79:GK 216 b1P:=gk func216<|by
 rintro⟨e,tx,g,s⟩ ⟨hL,l,hb⟩;dsimp only at hL l hb;have o:=hL.1;refine S2 gN func216 (b2r e tx g s) (α:=let v:=(0=0/\0=0);let u:=(oo (L0 e e));(∃(x:V0 e.X.length (tD e tx g s)),(tx=tx/\g=g/\s=s/\v/\0=(x.1:Int)/\True)/\u/\True)/\∀(x:V0 e.X.length (tD e tx g s)),let z:=(x.1:Int);let w:=(e.X.getD z.toNat dz);let q:=(Ri (z+1)/\∃(y:V0 e.X.length (tD e tx g s)),((tx=tx/\g=g/\s=s/\v/\z+1=(y.1:Int)/\True)/\u/\True)/\Lt (e.X.length-y.1) (e.X.length-x.1));bd (z<(e.X.length:Int)) (V6 z e.X.length/\br (w.id==tx) q (V6 z e.X.length/\(∃(X:KpS e g s x.1),(tx=tx/\g=g/\s=s/\v/\z=z/\w.Z=X.val.2/\True)/\u/\True)/\∀(X:KpS e g s x.1),let j:=(X.val.2-1);let r:=(e.s.L.getD j.toNat dz);bd (X.val.2>0) (Ri j/\V6 j e.s.L.length/\br (r.k==3) (∃(y:KpS e g s x.1),((tx=tx/\g=g/\s=s/\v/\z=z/\r.n=y.1.2/\True)/\u/\True)/\Lt y.1.1 X.val.1) (br (r.k==2&&r.g==g&&r.s==s) (true=wL e tx g s) (∃(y:KpS e g s x.1),((tx=tx/\g=g/\s=s/\v/\z=z/\r.p=y.1.2/\True)/\u/\True)/\Lt y.1.1 X.val.1))) q)) (false=wL e tx g s)) ⟨⟨H5,Z8⟩,λx=>⟨λhc=>?_,λhc=>?_⟩⟩
 ·have hlt:=Y2 hc;have hx:=hb x.1 hlt;rw[E8];refine⟨Y1 hlt,λhq=>⟨V8 hlt Z9,x.succ hlt (by unfold tD;rw[hq];rfl),⟨⟨rfl,rfl,rfl,⟨rfl,rfl⟩,L3,Z6⟩,⟨rfl,rfl,tY _⟩,Z6⟩,V0.ext_lt hlt⟩,λhq=>⟨Y1 hlt,⟨⟨(61,(e.X.getD x.1 dz).Z),rfl,X0,hx⟩,Z8⟩,λy=>?_⟩⟩
  obtain⟨⟨f,a⟩,Y,F,ha⟩:=y;dsimp only at Y F ha ⊢;obtain⟨f,rfl⟩:∃q,f=q+1:=⟨f-1,Z9⟩
  refine⟨λhp=>?_,λhp=>?_⟩
  ·have hp:a>0:=D4 hp;obtain⟨p1,p2,p3,p4⟩:=hL.prev (show 1<=a by omega) ha
   rw[c1d Z9] at Y
   refine⟨Z3 Z9,⟨Z9,Z9⟩,λd=>?_,λd=>?_⟩
   ·have d:(X9 e.s.L a).k=3:=beq_iff_eq.1 d;rw[if_pos d] at Y;exact⟨⟨(f,(X9 e.s.L a).n),Y,X0,X0⟩,Z8,K1⟩
   ·have d:¬ (X9 e.s.L a).k=3:=λr=>by
     have d:((X9 e.s.L a).k==3)=false:=d;rw[r] at d;cases d
    rw[if_neg d] at Y;refine⟨λh=>?_,λh=>?_⟩
    ·have h:((X9 e.s.L a).k==2&&(X9 e.s.L a).g==g&&(X9 e.s.L a).s==s)=true:=h;simp only[M1,beq_iff_eq] at h;rw[if_pos ⟨h.1.1,h.1.2,h.2⟩] at Y;exact(S8.2 ⟨x.1,hlt,by unfold tD;rw[hq,←Y];rfl⟩).symm
    ·have h:¬ ((X9 e.s.L a).k=2/\(X9 e.s.L a).g=g/\(X9 e.s.L a).s=s):=λ⟨a1,a2,a3⟩=>by
      have h:((X9 e.s.L a).k==2&&(X9 e.s.L a).g==g&&(X9 e.s.L a).s==s)=false:=h;rw[a1,a2,a3] at h;simp at h
     rw[if_neg h] at Y;exact⟨⟨(f,(X9 e.s.L a).p),Y,X0,X0⟩,Z8,K1⟩
  ·have hp:a<=0:=by have:=q8 hp;omega
   rw[c02 hp] at Y;exact⟨V8 hlt Z9,x.succ hlt (by unfold tD;rw[←Y,Bool.and_false]),⟨⟨rfl,rfl,rfl,⟨rfl,rfl⟩,L3,Z6⟩,⟨rfl,rfl,tY _⟩,Z6⟩,V0.ext_lt hlt⟩
 ·have i:=X7 hc;exact(R8.2 λj J=>x.2.2 j (zH J i)).symm
def Plc.ts(A:Plc):List T:=[Ji A.a,Ji A.b,Ji A.c,Ji A.d]
def b97(A:Plc):Option Ob:=some (.arr true 1000000 4 1 λ_=>A.ts)
def c61(p:Pg):Option Ob:=some (.arr true 1000000 2 1 λ_=>p.ts)
def pF(e:Eng)(tx ta id:Int):{y:Eng×Plc//y=(O4 e (R1 e tx ta id 8).1,(R1 e tx ta id 8).2.1)}:=Classical.choice ⟨⟨_,rfl⟩⟩
def b1R:Con:=.rel ⟨Eng×Int×Int×Int,λx=>[.agg x.1.ts,Ji x.2.1,Ji x.2.2.1,Ji x.2.2.2],λx=>.tup [.agg (pF x.1 x.2.1 x.2.2.1 x.2.2.2).1.1.ts,.agg (pF x.1 x.2.1 x.2.2.1 x.2.2.2).1.2.ts,.bool true],λx=>EI x.1⟩
def b1X(e:Eng)(tx ta id:Int)(F:Nat->Eng)(A:Nat->Plc)(P:Nat->Pg)(I:Nat->Nat->Plc):Nat->Ann
 |0=>.one {n:Nat//n<=8} (λx=>⟨[(1,Ji tx),(2,Ji ta),(3,Ji id),(4,.ref 0 0 0),(8,.ref 1 0 0),(9,.ref 2 0 0),(10,.bool false),(11,.ref 3 0 0),(12,Ji x.1)],[u5 (F x.1),u5 nZ,b97 ⟨0,0,0,0⟩,b97 (A x.1)]⟩) (λx=>8-x.1) [.box 0,.box 1,.box 2,.box 3] [.box 0,.box 1,.box 2,.box 3] (λx=>fun
  |1=>.one (Up 4) (λy=>⟨[(1,Ji tx),(2,Ji ta),(3,Ji id),(4,.ref 0 0 0),(8,.ref 1 0 0),(9,.ref 2 0 0),(10,.bool false),(11,.ref 3 0 0),(12,Ji x.1),(16,.ref 4 0 0),(17,Ji y.1)],[u5 (F (x.1+1)),u5 nZ,b97 ⟨0,0,0,0⟩,b97 (I x.1 y.1),c61 (P x.1)]⟩) (λy=>4-y.1) [.box 0,.box 1,.box 2,.box 3,.box 5] [.box 0,.box 1,.box 2,.box 3,.box 4] (λ_=>Y7)
  |_=>.none)
 |_=>.none
theorem b0T(e:Eng)(tx ta id:Int)(F:Nat->Eng)(A:Nat->Plc)(P:Nat->Pg)(I:Nat->Nat->Plc)(h:
let i:=(oo (L0 nZ nZ));let r:=(0=0/\0=0);let q:=(oo ((0:Int)=0/\(0:Int)=0/\(0:Int)=0/\(0:Int)=0/\True));  (∃(x:{n:Nat//n<=8}),let pe:=(A x.1);(tx=tx/\ta=ta/\id=id/\r/\r/\r/\false=false/\r/\0=(x.1:Int)/\True)/\(oo (L0 e (F x.1)))/\(oo (0=0/\0=0/\false=false/\0=0/\(0:Int)=0/\0=0/\(0:Int)=0/\0=0/\(0:Int)=0/\false=false/\0=0/\0=0/\0=0/\(0:Int)=0/\True))/\q/\(oo ((-1:Int)=pe.a/\(-1:Int)=pe.b/\(-1:Int)=pe.c/\(-1:Int)=pe.d/\True))/\True)/\∀(x:{n:Nat//n<=8}),let u:=x.1;let m:=(F (u+1));let pd:=(oo (L0 m m));let k:=((A u).a=(A 8).a/\(A u).b=(A 8).b/\(A u).c=(A 8).c/\(A u).d=(A 8).d/\True);let w:=(oo ((P u).Q=(P u).Q/\(Z2 Z5 (P u).sl (P u).sl)/\True));bd ((u:Int)<8) (∃(f:(Sto×Nat)),let j:=(Z4 f.1 f.2);let pc:=(j.1.fr.getD (↑j.2.1:Int).toNat dz);(((zV (F u).s f.1)/\(u:Int)=(f.2:Int)/\True)/\fD f.1 f.2)/\br (! j.2.2) ((L0 {(F u) with s:=j.1} (F 8))/\k/\false=true/\True) (V6 (↑j.2.1:Int) j.1.fr.length/\(∃(X:Up 4),let l:=(I x.1 X.val);(tx=tx/\ta=ta/\id=id/\r/\r/\r/\false=false/\r/\(u:Int)=(u:Int)/\r/\0=(X.val:Int)/\True)/\(oo (L0 {(F u) with s:=j.1} m))/\i/\q/\(oo ((A u).a=l.a/\(A u).b=l.b/\(A u).c=l.c/\(A u).d=l.d/\True))/\(oo (pc.pg.Q=(P u).Q/\(Z2 Z5 pc.pg.sl (P u).sl)/\True))/\True)/\∀(X:Up 4),let v:=(X.val:Int);let z:=(I x.1 X.val);let p:=(Ri (v+1)/\∃(y:Up 4),let t:=(I x.1 y.1);((tx=tx/\ta=ta/\id=id/\r/\r/\r/\false=false/\r/\(u:Int)=(u:Int)/\r/\v+1=(y.1:Int)/\True)/\pd/\i/\q/\(oo (z.a=t.a/\z.b=t.b/\z.c=t.c/\z.d=t.d/\True))/\w/\True)/\Lt (4-y.1) (4-X.val));bd (v<4) (V6 v (P u).sl.length/\br ((P u).sl.getD v.toNat []==[]) (V6 (2:Int) 4/\∃(g:(Eng×Int×Int×Int)),(decide (z.c<0)=true->((L0 m g.1)/\tx=g.2.1/\(u:Int)=g.2.2.1/\v=g.2.2.2/\True)/\wG g.1)/\br (decide (z.c<0)&& !wL g.1 g.2.1 g.2.2.1 g.2.2.2) (V6 (2:Int) 4/\V6 (3:Int) 4/\Ri (v+1)/\∃(y:Up 4),let pa:=(I x.1 y.1);((tx=tx/\ta=ta/\id=id/\r/\r/\r/\false=false/\r/\(u:Int)=(u:Int)/\r/\v+1=(y.1:Int)/\True)/\pd/\i/\q/\(oo (z.a=pa.a/\z.b=pa.b/\(u:Int)=pa.c/\v=pa.d/\True))/\w/\True)/\Lt (4-y.1) (4-X.val)) p) (V6 v (P u).sl.length/\∃(g:(Bz)),(((P u).sl.getD v.toNat []=g/\True)/\oU g)/\(((tX g).2.2&&(tX g).1==ta&&(tX g).2.1.id==id)=true->V6 (0:Int) 4)/\br ((tX g).2.2&&(tX g).1==ta&&(tX g).2.1.id==id&&decide (z.a<0)) (V6 (0:Int) 4/\V6 (1:Int) 4/\Ri (v+1)/\∃(y:Up 4),let pb:=(I x.1 y.1);((tx=tx/\ta=ta/\id=id/\r/\r/\r/\false=false/\r/\(u:Int)=(u:Int)/\r/\v+1=(y.1:Int)/\True)/\pd/\i/\q/\(oo ((u:Int)=pb.a/\v=pb.b/\z.c=pb.c/\z.d=pb.d/\True))/\w/\True)/\Lt (4-y.1) (4-X.val)) p)) (Ri ((u:Int)+1)/\∃(y:{n:Nat//n<=8}),let pf:=(A y.1);((tx=tx/\ta=ta/\id=id/\r/\r/\r/\false=false/\r/\(u:Int)+1=(y.1:Int)/\True)/\(oo (L0 m (F y.1)))/\i/\q/\(oo (z.a=pf.a/\z.b=pf.b/\z.c=pf.c/\z.d=pf.d/\True))/\True)/\Lt (8-y.1) (8-u)))) ((L0 (F u) (F 8))/\k/\true=true/\True)):
  V2 prog 140 [.agg e.ts,Ji tx,Ji ta,Ji id] (.tup [.agg (F 8).ts,.agg (A 8).ts,.bool true]):=
 S2 (gC tE (gC a79 (gC a57 gN))) func140 (b1X e tx ta id F A P I) h
def cY(e:Eng)(tx ta id:Int)(n:Nat):Pg:=((Z4 (R1 e tx ta id n).1 n).1.fr.getD (Z4 (R1 e tx ta id n).1 n).2.1 dz).pg
theorem c5i{e:Eng}(h:EI e)(tx ta id:Int){n:Nat}(N:n<8):R1 e tx ta id (n+1)=((Z4 (R1 e tx ta id n).1 n).1,k7 e tx ta id n (cY e tx ta id n) (R1 e tx ta id n).2.1 4,true):=by
 obtain⟨d,l,i,j⟩:=rH h.g tx ta id n Z9
 obtain⟨_,f⟩:=o4 d (no:=n) N;conv=>lhs;unfold R1
 rw[if_pos i,if_pos f];rfl
theorem a88{e:Eng}{s:Sto}(h:s.L=e.s.L)(tx g sl:Int):wL (O4 e s) tx g sl=wL e tx g sl:=by
 unfold wL tD O4;dsimp only;rw[h]
theorem b5e(e:Eng)(tx ta id:Int)(n:Nat)(p:Pg)(A:Plc)(i:Nat):k7 e tx ta id n p A (i+1)=if p.sl.getD i []=[] then(if(k7 e tx ta id n p A i).c<0/\wL e tx n i=false then⟨(k7 e tx ta id n p A i).a,(k7 e tx ta id n p A i).b,n,i⟩ else k7 e tx ta id n p A i)
  else if a1a (p.sl.getD i []) ta id=true/\(k7 e tx ta id n p A i).a<0 then⟨n,i,(k7 e tx ta id n p A i).c,(k7 e tx ta id n p A i).d⟩ else k7 e tx ta id n p A i:=rfl
theorem a6v:GK 140 b1R:=gk func140<|by
 rintro⟨e,tx,ta,id⟩ (h:EI e);show V2 _ _ _ (.tup [.agg (pF e tx ta id).1.1.ts,.agg (pF e tx ta id).1.2.ts,.bool true]);rw[(pF e tx ta id).2];refine b0T e tx ta id (λn=>O4 e (R1 e tx ta id n).1) (λn=>(R1 e tx ta id n).2.1) (cY e tx ta id) (λn i=>k7 e tx ta id n (cY e tx ta id n) (R1 e tx ta id n).2.1 i) ⟨⟨⟨0,N7 _⟩,Z8⟩,λx=>?_⟩
 obtain⟨n,N⟩:=x;dsimp only at N ⊢;refine⟨λhc=>?_,λhc=>?_⟩
 ·have hlt:n<8:=by have:=D4 hc;omega
  obtain⟨j,g2,v,t⟩:=rH h.g tx ta id n N;obtain⟨⟨f1,F,f3,f4⟩,q⟩:=o4 j (no:=n) hlt;obtain⟨_,_,⟨_,_,f,ps⟩,_⟩:=f1.fp _ F;have l:=c5i h tx ta id hlt;refine⟨((R1 e tx ta id n).1,n),⟨Z8,j.inv,hlt⟩,λu=>?_,λ_=>?_⟩
  ·have u:(!(Z4 (R1 e tx ta id n).1 n).2.2)=true:=u;rw[q] at u;cases u
  ·have hlog:(Z4 (R1 e tx ta id n).1 n).1.L=e.s.L:=f4.1.trans g2;have hNd:=bJ (cK h f1 hlog);have hK:=λg sl=>a88 hlog tx g sl
   have f:(cY e tx ta id n).sl.length=4:=f;have ps:∀i,i<4->((cY e tx ta id n).sl.getD i []).length<=30:=λi hi=>ps i (by show i<(cY e tx ta id n).sl.length;omega)
   have hp:((Z4 (R1 e tx ta id n).1 n).1.fr.getD (Z4 (R1 e tx ta id n).1 n).2.1 dz).pg=cY e tx ta id n:=rfl;have o:=b5e e tx ta id n (cY e tx ta id n) (R1 e tx ta id n).2.1;have d:k7 e tx ta id n (cY e tx ta id n) (R1 e tx ta id n).2.1 0=(R1 e tx ta id n).2.1:=rfl;rw[l];dsimp only;rw[E8,hp];generalize cY e tx ta id n=p at*;generalize (R1 e tx ta id n).2.1=A at*;generalize k7 e tx ta id n p A=I at*;refine⟨Y1 F,⟨⟨0,N7 _⟩,Z8,Z8,Z8,Z8,⟨rfl,rfl,i6,i6,i6,i6,Z6⟩,Z8⟩,λy=>?_⟩
   obtain⟨i,hi⟩:=y;dsimp only at hi ⊢;refine⟨λhc2=>?_,λhc2=>?_⟩
   ·have hit:i<4:=by have:=D4 hc2;omega
    have hIi:=o i;rw[E8];refine⟨Y1 Z9,λhz=>?_,λhz=>?_⟩
    ·have hz:p.sl.getD i []=[]:=by simpa using hz
     rw[if_pos hz] at hIi;refine⟨⟨Z9,Z9⟩,(O4 e (Z4 (R1 e tx ta id n).1 n).1,tx,n,i),λ_=>⟨Z8,hNd⟩,λhq=>?_,λhq=>?_⟩
     ·dsimp only at hq;rw[hK] at hq;simp only[M1,i5,xO] at hq;rw[if_pos hq] at hIi;exact⟨⟨Z9,Z9⟩,⟨Z9,Z9⟩,Z3 Z9,⟨i+1,hit⟩,⟨⟨rfl,rfl,rfl,Z8,Z8,Z8,rfl,Z8,rfl,Z8,X0,Z6⟩,Z8,Z8,Z8,⟨rfl,rfl,zM,zM,zM,zM,Z6⟩,Z8⟩,K1⟩
     ·dsimp only at hq;rw[hK] at hq;rw[if_neg (by rintro⟨a1,a2⟩;rw[mN a1,a2] at hq;cases hq)] at hIi
      exact⟨Z3 Z9,⟨i+1,hit⟩,⟨⟨rfl,rfl,rfl,Z8,Z8,Z8,rfl,Z8,rfl,Z8,X0,Z6⟩,Z8,Z8,Z8,⟨rfl,rfl,zM,zM,zM,zM,Z6⟩,Z8⟩,K1⟩
    ·have hz:¬p.sl.getD i []=[]:=by simpa using hz
     have r:=ps i hit;rw[if_neg hz] at hIi;refine⟨Y1 Z9,p.sl.getD i [],⟨Z8,by show _<=1000000000;omega⟩,λ_=>⟨Z9,Z9⟩,λhq=>?_,λhq=>?_⟩
     ·have hq:(a1a (p.sl.getD i []) ta id&&decide ((I i).a<0))=true:=hq;simp only[M1,i5] at hq;rw[if_pos hq] at hIi;exact⟨⟨Z9,Z9⟩,⟨Z9,Z9⟩,Z3 Z9,⟨i+1,hit⟩,⟨⟨rfl,rfl,rfl,Z8,Z8,Z8,rfl,Z8,rfl,Z8,X0,Z6⟩,Z8,Z8,Z8,⟨rfl,rfl,zM,zM,zM,zM,Z6⟩,Z8⟩,K1⟩
     ·have hq:(a1a (p.sl.getD i []) ta id&&decide ((I i).a<0))=false:=hq;rw[if_neg (by rintro⟨a1,a2⟩;rw[a1,mN a2] at hq;cases hq)] at hIi
      exact⟨Z3 Z9,⟨i+1,hit⟩,⟨⟨rfl,rfl,rfl,Z8,Z8,Z8,rfl,Z8,rfl,Z8,X0,Z6⟩,Z8,Z8,Z8,⟨rfl,rfl,zM,zM,zM,zM,Z6⟩,Z8⟩,K1⟩
   ·obtain rfl:i=4:=by have:=q8 hc2;omega
    refine⟨Z3 Z9,⟨n+1,hlt⟩,?_,K1⟩
    dsimp only;rw[l];exact⟨⟨rfl,rfl,rfl,Z8,Z8,Z8,rfl,Z8,Z9,Z6⟩,Z8⟩
 ·obtain rfl:n=8:=by have:=q8 hc;omega
  exact Z8
def c6y(e:Eng)(no sl:Nat):Eng×Bz:=(O4 e (Z4 e.s no).1,((Z4 e.s no).1.fr.getD (Z4 e.s no).2.1 dz).pg.sl.getD sl [])
def stH(e:Eng)(no sl:Nat):{y:Eng×Bz//y=c6y e no sl}:=Classical.choice ⟨⟨_,rfl⟩⟩
def b1e:Con:=.rel ⟨Eng×Nat×Nat,λx=>[.agg x.1.ts,Ji x.2.1,Ji x.2.2],λx=>.tup [.agg (stH x.1 x.2.1 x.2.2).1.1.ts,.str (stH x.1 x.2.1 x.2.2).1.2,.bool true],λx=>EI x.1/\x.2.1<8/\x.2.2<4⟩
theorem a59:GK 143 b1e:=gk func143<|by
 rintro⟨e,no,sl⟩ ⟨h,n,f⟩;dsimp only at h n f;show V2 _ _ _ (.tup [.agg (stH e no sl).1.1.ts,.str (stH e no sl).1.2,.bool true]);rw[(stH e no sl).2];obtain⟨⟨l,F,f3,o⟩,j⟩:=o4 h.g (no:=no) n;obtain⟨_,_,⟨_,_,i,ps⟩,_⟩:=l.fp _ F;refine S2 (gC tE gN) func143 Y7 (α:=let r:=(Z4 e.s no);let u:=(r.1.fr.getD r.2.1 dz).pg.sl.getD;∃(x:(Sto×Nat)),let q:=(Z4 x.1 x.2);let z:=(q.1.fr.getD (↑q.2.1:Int).toNat dz);let p:=((Z2 Z5 q.1.d.E r.1.d.E)/\(Z2 Y8 q.1.d.C r.1.d.C)/\q.1.d.A=r.1.d.A/\(Z2 Y9 q.1.d.keep r.1.d.keep)/\q.1.ep=r.1.ep/\(Z2 Y0 q.1.L r.1.L)/\q.1.S=r.1.S/\(Z2 V4 q.1.fr r.1.fr)/\q.1.J=r.1.J/\e.up=e.up/\(Z2 W8 e.X e.X)/\(Z2 Y6 e.lk.H e.lk.H)/\(Z2 Y4 e.lk.W e.lk.W)/\e.N=e.N/\True);(((zV e.s x.1)/\(no:Int)=(x.2:Int)/\True)/\fD x.1 x.2)/\br (! q.2.2) (p/\[]=u sl []/\false=true/\True) (V6 (↑q.2.1:Int) q.1.fr.length/\V6 (sl:Int) z.pg.sl.length/\p/\z.pg.sl.getD (sl:Int).toNat []=u sl []/\true=true/\True)) ⟨(e.s,no),⟨Z8,h.g.inv,n⟩,λu=>?_,λ_=>⟨Y1 F,?_,Z8⟩⟩
 ·have u:(!(Z4 e.s no).2.2)=true:=u;rw[j] at u;cases u
 ·dsimp only;rw[E8];exact Y1 (by rw[i];exact f)
def a3C:Con:=.rel ⟨Eng×Nat×Int×Int×Bz×Bz,λx=>[.agg x.1.ts,Ji x.2.1,Ji x.2.2.1,Ji x.2.2.2.1,.str x.2.2.2.2.1,.str x.2.2.2.2.2],λx=>.tup [.agg (vP x.1 x.2.1 x.2.2.1 x.2.2.2.1 x.2.2.2.2.1 x.2.2.2.2.2).1.ts,Ji (vP x.1 x.2.1 x.2.2.1 x.2.2.2.1 x.2.2.2.2.1 x.2.2.2.2.2).2],
 λx=>EI x.1/\x.2.1<x.1.X.length/\(0<=x.2.2.1/\x.2.2.1<=7)/\(0<=x.2.2.2.1/\x.2.2.2.1<=3)/\x.2.2.2.2.1.length<=30/\x.2.2.2.2.2.length<=30⟩
theorem b9F(e:Eng)(k:Nat)(r:Rec):(x4 e k r).s.L.getD (((e.s.L.length+1:Nat):Int)-1).toNat dz=T0 e.s (N5 e k r):=by
 have d:(((e.s.L.length+1:Nat):Int)-1).toNat=e.s.L.length:=Z9
 rw[d,Q2]
 show((e.s.L++[T0 e.s (N5 e k r)])[e.s.L.length]?).getD dz=_;rw[List.getElem?_concat_length]
 rfl
theorem a0R:GK 142 a3C:=gk func142<|by
 rintro⟨e,k,g,s,b,a⟩ ⟨h,hk,hg,hs,hb,ha⟩;dsimp only at h hk hg hs hb ha;have M:e.s.L.length+c9 e<=60:=h.h.rm;have f:=h.h.t10;refine S2 (gC rD (gC b8I (gC a4g gN))) func142 Y7 (α:=let r:=(vP e k g s b a);let q:=(e.s.L.length:Int);Ri (q+1)/\∃(x:Eng),let v:=(↑(c9 x):Int);(((L0 e x)/\True)/\wG x)/\Ri (q+1+v)/\Ri (q+1+v+1)/\bd (q+1+v+1>60) ((L0 e r.1)/\7=r.2/\True) (∃(x:(Eng×Nat×Rec)),let y:=x.1.s.L.length;let u:=x.2.2;(((L0 e x.1)/\(k:Int)=(x.2.1:Int)/\(0=u.e/\0=u.l/\0=u.t/\2=u.k/\0=u.p/\0=u.n/\g=u.g/\s=u.s/\b=u.b/\a=u.a/\True)/\True)/\x.2.1<x.1.X.length/\x.1.X.length<=1000/\y<=1000)/\∃(X:(Sto×Int)),let z:=(S0 X.1 (X.1.L.getD (X.2-1).toNat dz));(((zV {x.1.s with L:=(x.1.s.L++[T0 x.1.s (N5 x.1 x.2.1 u)])} X.1)/\(↑(y+1):Int)=X.2/\True)/\SInv X.1/\1<=X.2/\X.2<=(X.1.L.length:Int))/\br (! z.2) False ((L0 {x.1 with s:=z.1,X:=(x.1.X.set x.2.1 (Txn.mk (x.1.X.getD x.2.1 dz).id ((y:Int)+1)))} r.1)/\0=r.2/\True))) ⟨Z3 Z9,e,⟨Z8,bJ h⟩,Z3 Z9,Z3 Z9,λhq=>?_,λhq=>?_⟩
 ·have e1:vP e k g s b a=(e,7):=by unfold vP;rw[if_pos (D4 hq)]
  rw[e1];exact Z8
 ·have hq:=q8 hq;obtain⟨u1,u2⟩:=a1s h hk hg hs hb ha Z9
  have e1:vP e k g s b a=((vS e k (L4 g s b a)).1,0):=by unfold vP;rw[if_neg hq,if_pos u2]
  have R:C8 (T0 e.s (N5 e k (L4 g s b a))):=h.rcp hk a86 a8I (λ_=>rfl) (λe _=>absurd rfl e) ⟨Int.le_refl _,kX⟩ hg hs ⟨hb,ha⟩ (λe=>by cases e)
  have d:=b9F e k (L4 g s b a);refine⟨(e,k,L4 g s b a),⟨Z8,hk,X0,X0⟩,((x4 e k (L4 g s b a)).s,((e.s.L.length+1:Nat):Int)),⟨⟨gL (x4 e k (L4 g s b a)).s,Z8⟩,(h.app hk R).inv,X0,by rw[tQ];exact Int.le_refl _⟩,λu=>?_,λu=>?_⟩
  ·dsimp only at u;rw[d] at u;have u:(!(vS e k (L4 g s b a)).2)=true:=u;rw[u2] at u;cases u
  ·dsimp only;rw[d,e1];exact⟨tY (vS e k (L4 g s b a)).1,Z8⟩
structure XI(e:Eng)(k:Nat)(tx:Int):Prop where
 u:UI e k tx (e.X.getD k dz).Z
 nd:wG e
structure FX(e:Eng)(f:Sto×Plc×Bool):Prop where
 lv:f.2.2=true->SI f.1/\f.1.L=e.s.L/\f.1.ep=e.s.ep
 dn:f.2.2=false->k6 f.1.d/\f.1.d.E.length=69
 pl:b9d f.2.1
theorem c6l{e:Eng}{tx ta id:Int}{n:Nat}(h:(R1 e tx ta id n).2.2=true)(f:(Z4 (R1 e tx ta id n).1 n).2.2=true):R1 e tx ta id (n+1)=((Z4 (R1 e tx ta id n).1 n).1,k7 e tx ta id n (cY e tx ta id n) (R1 e tx ta id n).2.1 4,true):=by
 conv=>lhs;unfold R1
 rw[if_pos h,if_pos f];rfl
def hsB(g x:Lck):Bool:=(g.tx==x.tx)&&uE g x&&((g.mo==4)||(x.mo==1)||(g.mo==x.mo))
def hsI(L:List Lck)(x:Lck)(i:Nat):Bool:=hsB (L.getD i dz) x
def c4d:Con:=.rel ⟨Lck×Lck,λx=>[.agg x.1.ts,.bref x.2.ts],λx=>.bool (hsB x.1 x.2),λ_=>True⟩
theorem c3H(g x:Lck)(h:
  ∃(X:(Lck×Lck)),((g.tx==x.tx)=true->((g.tx=X.1.tx/\g.ta=X.1.ta/\g.row=X.1.row/\g.mo=X.1.mo/\True)/\(x.tx=X.2.tx/\x.ta=X.2.ta/\x.row=X.2.row/\x.mo=X.2.mo/\True)/\True)/\True)/\(g.tx==x.tx&&uE X.1 X.2&&(g.mo==4||x.mo==1||g.mo==x.mo))=hsB g x):
  V2 prog 241 [.agg g.ts,.bref x.ts] (.bool (hsB g x)):=
 S2 (gC qV gN) func241 Y7 h
theorem c0u:GK 241 c4d:=gk func241<|λx _=>c3H x.1 x.2 ⟨(x.1,x.2),λ_=>Z8,rfl⟩
def b9u(x:Lck):T:=.fn (.func 241) [.bref x.ts]
def b2F:Con:=.rel ⟨List Lck×Lck,λx=>[.sl 4 x.1.length (Y6 x.1),b9u x.2],λx=>Ji (S9 x.1.length (hsI x.1 x.2)),λx=>N6 x.1.length⟩
def b2L(L:List Lck)(a:Lck):Nat->Ann
 |0=>.one (V0 L.length (hsI L a)) (λx=>⟨[(0,.sl 4 L.length (Y6 L)),(1,b9u a),(7,Ji L.length),(8,Ji x.1)],[]⟩) (λx=>L.length-x.1) [] [] (λ_=>Y7)
 |_=>.none
theorem a6Y:GK 176 b2F:=gk func176<|by
 rintro⟨L,a⟩ (hL:L.length<1000000000000);refine S2 (gC c0u gN) func176 (b2L L a) (α:=let r:=(L.length:Int);let p:=(T.bref [Ji a.tx,Ji a.ta,Ji a.row,Ji a.mo]);(∃(x:V0 L.length (hsI L a)),((Z2 Y6 L L)/\(Fn.func 241=Fn.func 241/\L6 (λ(x:Nat)=>none) p p/\True)/\r=r/\0=(x.1:Int)/\True)/\True)/\∀(x:V0 L.length (hsI L a)),let z:=(x.1:Int);let q:=(L.getD z.toNat dz);bd (z<r) (V6 z L.length/\∃(X:(Lck×Lck)),(((q.tx=X.1.tx/\q.ta=X.1.ta/\q.row=X.1.row/\q.mo=X.1.mo/\True)/\(a.tx=X.2.tx/\a.ta=X.2.ta/\a.row=X.2.row/\a.mo=X.2.mo/\True)/\True)/\True)/\br (hsB X.1 X.2) (z=S9 L.length (hsI L a)) (Ri (z+1)/\∃(y:V0 L.length (hsI L a)),(((Z2 Y6 L L)/\(Fn.func 241=Fn.func 241/\L6 (λ(x:Nat)=>none) p p/\True)/\r=r/\z+1=(y.1:Int)/\True)/\True)/\Lt (L.length-y.1) (L.length-x.1))) ((-1:Int)=S9 L.length (hsI L a))) ⟨⟨H5,⟨Z8,⟨rfl,U2 _,Z6⟩,Z8⟩,Z6⟩,λx=>⟨λC=>?_,λC=>?_⟩⟩
 ·have h:=Y2 C;refine⟨Y1 h,(L.getD x.1 dz,a),Z8,λhp=>(P5 h hp x.2.2).symm,λhp=>⟨V8 h Z9,x.succ h hp,⟨⟨Z8,⟨rfl,U2 _,Z6⟩,rfl,L3,Z6⟩,Z6⟩,V0.ext_lt h⟩⟩
 ·have e:=X7 C;exact(M2 λj J=>x.2.2 j (zH J e)).symm
def b2w:Con:=.rel ⟨List Lck×Lck,λx=>[.sl 4 x.1.length (Y6 x.1),b9u x.2],λx=>.bool (anyI x.1.length (hsI x.1 x.2)),λx=>N6 x.1.length⟩
theorem b0R(L:List Lck)(a:Lck)(h:
  ∃(x:(List Lck×Lck)),(((Z2 Y6 L x.1)/\(Fn.func 241=Fn.func 241/\(a.tx=x.2.tx/\a.ta=x.2.ta/\a.row=x.2.row/\a.mo=x.2.mo/\True)/\True)/\True)/\N6 x.1.length)/\decide (S9 x.1.length (hsI x.1 x.2)≥(0:Int))=anyI L.length (hsI L a)):
  V2 prog 99 [.sl 4 L.length (Y6 L),b9u a] (.bool (anyI L.length (hsI L a))):=
 S2 (gC a6Y gN) func99 Y7 h
theorem a5c:GK 99 b2w:=gk func99<|λx h=>b0R x.1 x.2 ⟨x,⟨Z8,h⟩,G1 _ _⟩
def c6a:Con:=.rel ⟨Lks×Lck,λx=>[.agg x.1.ts,.agg x.2.ts],λx=>.bool (anyI x.1.H.length (hsI x.1.H x.2)),λx=>N6 x.1.H.length⟩
theorem c5S(l:Lks)(x:Lck)(h:
  ∃(X:(List Lck×Lck)),(((Z2 Y6 l.H X.1)/\(Fn.func 241=Fn.func 241/\(x.tx=X.2.tx/\x.ta=X.2.ta/\x.row=X.2.row/\x.mo=X.2.mo/\True)/\True)/\True)/\N6 X.1.length)/\anyI X.1.length (hsI X.1 X.2)=anyI l.H.length (hsI l.H x)):
  V2 prog 199 [.agg l.ts,.agg x.ts] (.bool (anyI l.H.length (hsI l.H x))):=
 S2 (gC a5c gN) func199 Y7 h
theorem c22:GK 199 c6a:=gk func199<|λx h=>c5S x.1 x.2 ⟨(x.1.H,x.2),⟨Z8,h⟩,rfl⟩
def tF(L:List Int)(v:Int)(i:Nat):Bool:=v==L.getD i 0
def b1C:Con:=.rel ⟨List Int×Nat×Int,λx=>[.sl 1 x.2.1 (Y9 x.1),Ji x.2.2],λx=>Ji (S9 x.2.1 (tF x.1 x.2.2)),λx=>N6 x.2.1⟩
def b2b(L:List Int)(n:Nat)(v:Int):Nat->Ann
 |0=>.one (V0 n (tF L v)) (λx=>⟨[(0,.sl 1 n (Y9 L)),(1,Ji v),(7,Ji n),(8,Ji x.1)],[]⟩) (λx=>n-x.1) [] [] (λ_=>Y7)
 |_=>.none
theorem a5n:GK 274 b1C:=gk func274<|by
 rintro⟨L,n,v⟩ (hL:n<1000000000000);refine S2 gN func274 (b2b L n v) (α:=let q:=(n=n/\Z7 n (Y9 L) (Y9 L));(∃(x:V0 n (tF L v)),(q/\v=v/\(n:Int)=(n:Int)/\0=(x.1:Int)/\True)/\True)/\∀(x:V0 n (tF L v)),let p:=(x.1:Int);bd (p<(n:Int)) (V6 p n/\br (v==L.getD p.toNat (0:Int)) (p=S9 n (tF L v)) (Ri (p+1)/\∃(y:V0 n (tF L v)),((q/\v=v/\(n:Int)=(n:Int)/\p+1=(y.1:Int)/\True)/\True)/\Lt (n-y.1) (n-x.1))) ((-1:Int)=S9 n (tF L v))) ⟨⟨H5,Z8⟩,λx=>⟨λC=>?_,λC=>?_⟩⟩
 ·have h:=Y2 C;exact⟨Y1 h,λhp=>(P5 h hp x.2.2).symm,λhp=>⟨V8 h Z9,x.succ h hp,⟨⟨Z8,rfl,rfl,L3,Z6⟩,Z6⟩,V0.ext_lt h⟩⟩
 ·have e:=X7 C;exact(M2 λj J=>x.2.2 j (zH J e)).symm
def b2X:Con:=.rel ⟨List Int×Nat×Int,λx=>[.sl 1 x.2.1 (Y9 x.1),Ji x.2.2],λx=>.bool (anyI x.2.1 (tF x.1 x.2.2)),λx=>N6 x.2.1⟩
theorem b1T(L:List Int)(n:Nat)(v:Int)(h:
  ∃(x:(List Int×Nat×Int)),(((n=x.2.1/\Z7 n (Y9 L) (Y9 x.1))/\v=x.2.2/\True)/\N6 x.2.1)/\decide (S9 x.2.1 (tF x.1 x.2.2)≥(0:Int))=anyI n (tF L v)):
  V2 prog 244 [.sl 1 n (Y9 L),Ji v] (.bool (anyI n (tF L v))):=
 S2 (gC a5n gN) func244 Y7 h
theorem a6n:GK 244 b2X:=gk func244<|λx h=>b1T x.1 x.2.1 x.2.2 ⟨x,⟨Z8,h⟩,G1 _ _⟩
def isW(L:List Wt)(v:Wt)(i:Nat):Bool:=(v.tx==(L.getD i dz).tx)&&((v.fo==(L.getD i dz).fo)&&true)
def wtB(v:Wt):Option Ob:=some (.arr true 1000000 2 1 λ_=>v.ts)
def b5L:Con:=.rel ⟨List Wt×Nat×Wt,λx=>[.sl 2 x.2.1 (Y4 x.1),.agg x.2.2.ts],λx=>Ji (S9 x.2.1 (isW x.1 x.2.2)),λx=>N6 x.2.1⟩
def b3p(L:List Wt)(n:Nat)(v:Wt):Nat->Ann
 |0=>.one (V0 n (isW L v)) (λx=>⟨[(0,.sl 2 n (Y4 L)),(3,.ref 0 0 0),(7,Ji n),(8,Ji x.1)],[wtB v]⟩) (λx=>n-x.1) [.box 0] [.box 0] (λ_=>Y7)
 |_=>.none
theorem b1G:GK 242 b5L:=gk func242<|by
 rintro⟨L,n,v⟩ (hL:n<1000000000000);refine S2 gN func242 (b3p L n v) (α:=let r:=(n=n/\Z7 n (Y4 L) (Y4 L));let q:=(oo (v.tx=v.tx/\v.fo=v.fo/\True));(∃(x:V0 n (isW L v)),(r/\(0=0/\0=0)/\(n:Int)=(n:Int)/\0=(x.1:Int)/\True)/\q/\True)/\∀(x:V0 n (isW L v)),let p:=(x.1:Int);let z:=(L.getD p.toNat dz);bd (p<(n:Int)) (V6 p n/\br (v.tx==z.tx&&(v.fo==z.fo&&true)) (p=S9 n (isW L v)) (Ri (p+1)/\∃(y:V0 n (isW L v)),((r/\(0=0/\0=0)/\(n:Int)=(n:Int)/\p+1=(y.1:Int)/\True)/\q/\True)/\Lt (n-y.1) (n-x.1))) ((-1:Int)=S9 n (isW L v))) ⟨⟨H5,Z8⟩,λx=>⟨λC=>?_,λC=>?_⟩⟩
 ·have h:=Y2 C;exact⟨Y1 h,λhp=>(P5 h hp x.2.2).symm,λhp=>⟨V8 h Z9,x.succ h hp,⟨⟨Z8,Z8,rfl,L3,Z6⟩,Z8⟩,V0.ext_lt h⟩⟩
 ·have e:=X7 C;exact(M2 λj J=>x.2.2 j (zH J e)).symm
def b5Y:Con:=.rel ⟨List Wt×Nat×Wt,λx=>[.sl 2 x.2.1 (Y4 x.1),.agg x.2.2.ts],λx=>.bool (anyI x.2.1 (isW x.1 x.2.2)),λx=>N6 x.2.1⟩
theorem b3d(L:List Wt)(n:Nat)(v:Wt)(h:
  ∃(x:(List Wt×Nat×Wt)),(((n=x.2.1/\Z7 n (Y4 L) (Y4 x.1))/\(v.tx=x.2.2.tx/\v.fo=x.2.2.fo/\True)/\True)/\N6 x.2.1)/\decide (S9 x.2.1 (isW x.1 x.2.2)≥(0:Int))=anyI n (isW L v)):
  V2 prog 200 [.sl 2 n (Y4 L),.agg v.ts] (.bool (anyI n (isW L v))):=
 S2 (gC b1G gN) func200 Y7 h
theorem b0z:GK 200 b5Y:=gk func200<|λx h=>b3d x.1 x.2.1 x.2.2 ⟨x,⟨Z8,h⟩,G1 _ _⟩
def y8(x:Lck)(w:Wt):Bool:=w.tx !=x.tx
def bZ(x:Lck):Option Ob:=some (.arr true 1000000 4 1 λ_=>x.ts)
def b7C:Con:=.rel ⟨Wt×Lck,λx=>[.agg x.1.ts,.bref x.2.ts],λx=>.bool (x.1.tx==x.2.tx),λ_=>True⟩
theorem c0h(w:Wt)(x:Lck)(h:
  (w.tx==x.tx)=(w.tx==x.tx)):
  V2 prog 198 [.agg w.ts,.bref x.ts] (.bool (w.tx==x.tx)):=
 S2 gN func198 Y7 h
theorem iW:GK 198 b7C:=gk func198<|λx _=>c0h x.1 x.2 rfl
def tkF(x:Lck):T:=.fn (.func 198) [.bref x.ts]
def d3W(L:List Wt)(x:Lck)(i:Nat):Bool:=(L.getD i dz).tx==x.tx
def b4z:Con:=.rel ⟨List Wt×Lck,λx=>[wtS x.1,tkF x.2],λx=>Ji (S9 x.1.length (d3W x.1 x.2)),λx=>N6 x.1.length⟩
def b6w(L:List Wt)(tx:Lck):Nat->Ann
 |0=>.one (V0 L.length (d3W L tx)) (λx=>⟨[(0,wtS L),(1,tkF tx),(7,Ji L.length),(8,Ji x.1)],[]⟩) (λx=>L.length-x.1) [] [] (λ_=>Y7)
 |_=>.none
theorem b2Q:GK 179 b4z:=gk func179<|by
 rintro⟨L,tx⟩ (hL:L.length<1000000000000);refine S2 (gC iW gN) func179 (b6w L tx) (α:=let r:=(L.length:Int);let p:=(T.bref [Ji tx.tx,Ji tx.ta,Ji tx.row,Ji tx.mo]);(∃(x:V0 L.length (d3W L tx)),((Z2 Y4 L L)/\(Fn.func 198=Fn.func 198/\L6 (λ(x:Nat)=>none) p p/\True)/\r=r/\0=(x.1:Int)/\True)/\True)/\∀(x:V0 L.length (d3W L tx)),let q:=(x.1:Int);let z:=(L.getD q.toNat dz);bd (q<r) (V6 q L.length/\∃(X:(Wt×Lck)),(((z.tx=X.1.tx/\z.fo=X.1.fo/\True)/\(tx.tx=X.2.tx/\tx.ta=X.2.ta/\tx.row=X.2.row/\tx.mo=X.2.mo/\True)/\True)/\True)/\br (X.1.tx==X.2.tx) (q=S9 L.length (d3W L tx)) (Ri (q+1)/\∃(y:V0 L.length (d3W L tx)),(((Z2 Y4 L L)/\(Fn.func 198=Fn.func 198/\L6 (λ(x:Nat)=>none) p p/\True)/\r=r/\q+1=(y.1:Int)/\True)/\True)/\Lt (L.length-y.1) (L.length-x.1))) ((-1:Int)=S9 L.length (d3W L tx))) ⟨⟨H5,⟨Z8,⟨rfl,U2 _,Z6⟩,Z8⟩,Z6⟩,λx=>⟨λC=>?_,λC=>?_⟩⟩
 ·have h:=Y2 C;refine⟨Y1 h,(L.getD x.1 dz,tx),Z8,λhp=>(P5 h hp x.2.2).symm,λhp=>⟨V8 h Z9,x.succ h hp,⟨⟨Z8,⟨rfl,U2 _,Z6⟩,rfl,L3,Z6⟩,Z6⟩,V0.ext_lt h⟩⟩
 ·have e:=X7 C;exact(M2 λj J=>x.2.2 j (zH J e)).symm
def c5N(L:List Wt)(tx:Lck):Option Ob:=some (.arr true 0 2 L.length (J0 (Y4 (F6 (y8 tx) L L.length)) (X8 (y8 tx) L L.length).length (L.length- (X8 (y8 tx) L L.length).length) zWt))
def b4k:Con:=.reff ⟨List Wt×Lck,λx=>[.osl 0 0 x.1.length,.fn (.func 198) [.ref 1 0 0]],λx=>[qU x.1,bZ x.2],λx=>.osl 0 0 (X8 (y8 x.2) x.1 x.1.length).length,λx=>[qU (X8 (y8 x.2) x.1 x.1.length),bZ x.2],λx=>x.1.length<=1048576⟩
def b3r(L:List Wt)(tx:Lck):Nat->Ann
 |0=>.one {j:Nat//j<=L.length} (λx=>⟨[(0,.osl 0 0 L.length),(1,.fn (.func 198) [.ref 1 0 0]),(5,Ji (X8 (y8 tx) L x.1).length),(6,Ji x.1)],[some (.arr true 0 2 L.length (Y4 (F6 (y8 tx) L x.1))),bZ tx]⟩) (λx=>L.length-x.1) eI eI (λ_=>Y7)
 |_=>.none
theorem b5s(L:List Wt)(tx:Lck)(h:
  ∃(x:(List Wt×Lck)),(Le (0+L.length) L.length/\((Z2 Y4 L x.1)/\(Fn.func 198=Fn.func 198/\(tx.tx=x.2.tx/\tx.ta=x.2.ta/\tx.row=x.2.row/\tx.mo=x.2.mo/\True)/\True)/\True)/\N6 x.1.length)/\br (S9 x.1.length (d3W x.1 x.2)==(-1:Int)) (((0=0/\L.length=(X8 (y8 tx) L L.length).length)/\True)/\(L.length=L.length/\Z7 L.length (Y4 L) λ(j:Nat)=>match(X8 (y8 tx) L L.length).length.ble j&&j.blt ((X8 (y8 tx) L L.length).length+(L.length- (X8 (y8 tx) L L.length).length)) with|true=>[Ji 0,Ji 0]|false=>[Ji ((F6 (y8 tx) L L.length).getD j dz).tx,Ji ((F6 (y8 tx) L L.length).getD j dz).fo])/\(oo (tx.tx=tx.tx/\tx.ta=tx.ta/\tx.row=tx.row/\tx.mo=tx.mo/\True))/\True) (Ri (S9 x.1.length (d3W x.1 x.2)+1)/\(∃(X:{j:Nat//j<=L.length}),((0=0/\L.length=L.length)/\(Fn.func 198=Fn.func 198/\(0=0/\0=0)/\True)/\S9 x.1.length (d3W x.1 x.2)=(↑(X8 (y8 tx) L X.val).length:Int)/\S9 x.1.length (d3W x.1 x.2)+1=(X.val:Int)/\True)/\(L.length=L.length/\Z7 L.length (Y4 L) (Y4 (F6 (y8 tx) L X.val)))/\(oo (tx.tx=tx.tx/\tx.ta=tx.ta/\tx.row=tx.row/\tx.mo=tx.mo/\True))/\True)/\∀(x:{j:Nat//j<=L.length}),bd ((x.1:Int)<(L.length:Int)) (V6 (x.1:Int) L.length/\Lt (0+(x.1:Int).toNat) L.length/\∃(X:(Wt×Lck)),(((((F6 (y8 tx) L x.1).getD (0+(x.1:Int).toNat) dz).tx=X.1.tx/\((F6 (y8 tx) L x.1).getD (0+(x.1:Int).toNat) dz).fo=X.1.fo/\True)/\(tx.tx=X.2.tx/\tx.ta=X.2.ta/\tx.row=X.2.row/\tx.mo=X.2.mo/\True)/\True)/\True)/\br (!X.1.tx==X.2.tx) (V6 (↑(X8 (y8 tx) L x.1).length:Int) L.length/\Lt (0+(↑(X8 (y8 tx) L x.1).length:Int).toNat) L.length/\Ri ((↑(X8 (y8 tx) L x.1).length:Int)+1)/\Ri ((x.1:Int)+1)/\∃(y:{j:Nat//j<=L.length}),(((0=0/\L.length=L.length)/\(Fn.func 198=Fn.func 198/\(0=0/\0=0)/\True)/\(↑(X8 (y8 tx) L x.1).length:Int)+1=(↑(X8 (y8 tx) L y.1).length:Int)/\(x.1:Int)+1=(y.1:Int)/\True)/\(L.length=L.length/\Z7 L.length (setRow (Y4 (F6 (y8 tx) L x.1)) (0+(↑(X8 (y8 tx) L x.1).length:Int).toNat) 0 [Ji ((F6 (y8 tx) L x.1).getD (0+(x.1:Int).toNat) dz).tx,Ji ((F6 (y8 tx) L x.1).getD (0+(x.1:Int).toNat) dz).fo]) (Y4 (F6 (y8 tx) L y.1)))/\(oo (tx.tx=tx.tx/\tx.ta=tx.ta/\tx.row=tx.row/\tx.mo=tx.mo/\True))/\True)/\Lt (L.length-y.1) (L.length-x.1)) (Ri ((x.1:Int)+1)/\∃(y:{j:Nat//j<=L.length}),(((0=0/\L.length=L.length)/\(Fn.func 198=Fn.func 198/\(0=0/\0=0)/\True)/\(↑(X8 (y8 tx) L x.1).length:Int)=(↑(X8 (y8 tx) L y.1).length:Int)/\(x.1:Int)+1=(y.1:Int)/\True)/\(L.length=L.length/\Z7 L.length (Y4 (F6 (y8 tx) L x.1)) (Y4 (F6 (y8 tx) L y.1)))/\(oo (tx.tx=tx.tx/\tx.ta=tx.ta/\tx.row=tx.row/\tx.mo=tx.mo/\True))/\True)/\Lt (L.length-y.1) (L.length-x.1))) (iM (↑(X8 (y8 tx) L x.1).length:Int) L.length/\Le (0+(↑(X8 (y8 tx) L x.1).length:Int).toNat+(L.length- (↑(X8 (y8 tx) L x.1).length:Int).toNat)) L.length/\iM (↑(X8 (y8 tx) L x.1).length:Int) L.length/\((0=0/\(↑(X8 (y8 tx) L x.1).length:Int).toNat=(X8 (y8 tx) L L.length).length)/\True)/\(L.length=L.length/\Z7 L.length (λ(j:Nat)=>match(0+(↑(X8 (y8 tx) L x.1).length:Int).toNat).ble j&&j.blt (0+(↑(X8 (y8 tx) L x.1).length:Int).toNat+(L.length- (↑(X8 (y8 tx) L x.1).length:Int).toNat)) with|true=>[Ji 0,Ji 0]|false=>[Ji ((F6 (y8 tx) L x.1).getD j dz).tx,Ji ((F6 (y8 tx) L x.1).getD j dz).fo]) λ(j:Nat)=>match(X8 (y8 tx) L L.length).length.ble j&&j.blt ((X8 (y8 tx) L L.length).length+(L.length- (X8 (y8 tx) L L.length).length)) with|true=>[Ji 0,Ji 0]|false=>[Ji ((F6 (y8 tx) L L.length).getD j dz).tx,Ji ((F6 (y8 tx) L L.length).getD j dz).fo])/\(oo (tx.tx=tx.tx/\tx.ta=tx.ta/\tx.row=tx.row/\tx.mo=tx.mo/\True))/\True))):
  I8 prog 196 [.osl 0 0 L.length,.fn (.func 198) [.ref 1 0 0]] [qU L,bZ tx] (.osl 0 0 (X8 (y8 tx) L L.length).length) [c5N L tx,bZ tx]:=
 w3 (gC b2Q (gC iW gN)) func196 (b3r L tx) [eI] h
theorem b20:GK 196 b4k:=gk func196<|by
 rintro⟨L,tx⟩ (hL:L.length<=1048576);have l:=zW (y8 tx) L L.length;refine jJ (b5s L tx ⟨(L,tx),⟨dY _,Z8,uA⟩,λn=>?_,λn=>?_⟩) (a1W (ts:=Wt.ts) l)
 ·obtain⟨e,d⟩:=nB (f:=y8 tx) (U9 L.length) λq Q=>by
   have:=a1B (beq_iff_eq.1 n) q Q;unfold d3W at this;unfold y8 bne;rw[this];rfl
  refine⟨⟨⟨rfl,e.symm⟩,Z6⟩,⟨rfl,?_⟩,Z8⟩
  exact gD (row:=Y4 L) (row':=Y4 (F6 (y8 tx) L L.length)) (z:=zWt) (λi _=>i6) (Nat.le_of_eq e.symm)
 ·obtain⟨i,hi,hp,g,h⟩:=iD n;have hi:i<L.length:=hi;obtain⟨e,d⟩:=nB (f:=y8 tx) (L:=L) (j:=i) Z9 λq Q=>by
   have:=g q Q;unfold d3W at this;unfold y8 bne;rw[this];rfl
  have I:y8 tx (L.getD i dz)=false:=by
   unfold d3W at hp;unfold y8 bne;rw[hp];rfl
  have o:(X8 (y8 tx) L (i+1)).length=i:=by rw[lI I];exact e
  have r:F6 (y8 tx) L (i+1)=L:=by rw[b1F I];exact d
  have h:S9 L.length (d3W L tx)=(i:Int):=h;refine⟨?_,⟨⟨i+1,hi⟩,⟨Z8,Z8,?_,?_,Z6⟩,⟨rfl,?_⟩,Z8⟩,λx=>⟨λhc=>?_,λhc=>?_⟩⟩
  ·dsimp only;rw[h];exact Z3 Z9
  ·dsimp only;rw[h,o]
  ·dsimp only;rw[h];omega
  ·dsimp only;rw[r];exact W2 _ _
  ·have hlt:=Y2 hc;have hle:=zW (y8 tx) L x.1;have e0:(F6 (y8 tx) L x.1).getD x.1 dz=L.getD x.1 dz:=b4d hle;rw[E8,E8,E5,E5,e0];refine⟨Y1 hlt,hlt,(L.getD x.1 dz,tx),Z8,λhd=>?_,λhd=>?_⟩
   ·have hd:y8 tx (L.getD x.1 dz)=true:=by
     unfold y8 bne
     skip
     exact hd
    exact⟨Y1 Z9,I5,Z3 Z9,Z3 Z9,⟨x.1+1,hlt⟩,⟨⟨Z8,Z8,congrArg Int.ofNat (kF hd),X0,Z6⟩,⟨rfl,a1w (m:=2) (ts:=Wt.ts) (λ_=>rfl) hd⟩,Z8⟩,V0.ext_lt hlt⟩
   ·have hd:y8 tx (L.getD x.1 dz)=false:=by
     unfold y8 bne
     skip
     exact hd
    refine⟨Z3 Z9,⟨x.1+1,hlt⟩,⟨⟨Z8,Z8,?_,X0,Z6⟩,⟨rfl,?_⟩,Z8⟩,V0.ext_lt hlt⟩
    ·dsimp only;rw[lI hd]
    ·dsimp only;rw[b1F hd];exact W2 _ _
  ·have hx:x.1=L.length:=by have:=x.2;have:=X7 hc;omega
   rw[hx,E8,E5];exact⟨⟨Z9,Z9⟩,K2,⟨Z9,Z9⟩,Z8⟩
def TdS(W:List Wt)(tx:Int):Type:={x:(Nat×Nat×List Int)×List Int//a1j W tx x.1.1 x.1.2.1 (tx::x.1.2.2)=rnd W tx/\a4B W (tx::x.1.2.2)+(x.1.2.2.length+1)<=x.1.2.1+x.1.1/\x.1.2.1<=x.1.2.2.length+1/\x.1.1+x.1.2.1=200/\tx ∉ x.1.2.2/\x.2.length<=x.1.2.1}
def TdI(W:List Wt)(tx a:Int)(R:List Int)(n:Nat):Type:={y:(Nat×List Int)×List Int//y.1.1<=W.length/\scn W tx a R y.1.1=some (tx::y.1.2)/\tx ∉ y.1.2/\y.2.length<=n}
def b8j(l:Lks)(tx:Int):Nat->Ann
 |0=>.one (TdS l.W tx) (λx=>⟨[(1,Ji tx),(2,Ji tx),(3,.ref 0 0 0),(7,.osl 1 0 x.1.1.2.2.length),(8,.osl 2 x.1.2.length (x.1.1.2.2.length+1-x.1.1.2.1))],[lkB l,z6 x.1.1.2.2,z6 (x.1.2++(tx::x.1.1.2.2).drop x.1.1.2.1)]⟩) (λx=>x.1.1.1) b7D b7D (λx=>fun
  |1=>.one (TdI l.W tx ((tx::x.1.1.2.2).getD x.1.1.2.1 0) (tx::x.1.1.2.2) (x.1.1.2.1+1)) (λy=>⟨[(1,Ji tx),(2,Ji tx),(3,.ref 0 0 0),(7,.osl 1 0 y.1.1.2.length),(8,.osl 2 y.1.2.length (y.1.1.2.length-x.1.1.2.1)),(9,Ji ((tx::x.1.1.2.2).getD x.1.1.2.1 0)),(24,wtS l.W),(25,Ji l.W.length),(26,Ji y.1.1.1)],[lkB l,z6 y.1.1.2,z6 (y.1.2++y.1.1.2.drop x.1.1.2.1)]⟩) (λy=>l.W.length-y.1.1.1) b7D b7D (λ_=>Y7)
  |_=>.none)
 |_=>.none
def c0R:Con:=.rel ⟨Lks×Int,λx=>[.agg x.1.ts,Ji x.2,Ji x.2],λx=>.bool (rnd x.1.W x.2),λx=>x.1.W.length<=100⟩
theorem c3p{tx v:Int}{S:List Int}:anyI (tx::S).length (thr (tx::S) v)=((tx==v)||anyI S.length (tF S v)):=by
 rw[Bool.eq_iff_iff,qR,S8,S8];constructor
 ·rintro⟨i,hi,hp⟩;cases i with
  |zero=>exact .inl hp
  |succ i=>
   refine .inr ⟨i,by simp at hi;omega,?_⟩
   have hp:(S.getD i 0==v)=true:=hp;unfold tF;rw[beq_iff_eq] at hp ⊢;exact hp.symm
 ·rintro(h|⟨i,hi,hp⟩)
  ·exact⟨0,X3,h⟩
  ·refine⟨i+1,I0,?_⟩
   show(S.getD i 0==v)=true;unfold tF at hp;rw[beq_iff_eq] at hp ⊢;exact hp.symm
theorem b6d{v:Int}{S:List Int}(h:anyI S.length (tF S v)=true):v ∈ S:=by
 obtain⟨i,hi,hp⟩:=S8.1 h;unfold tF at hp;rw[beq_iff_eq] at hp;rw[hp,Q2,J5 hi]
 exact List.getElem_mem hi
theorem a1J{L:List Int}{v:Int}{r:Nat->List T}(h:∀j,j<L.length->r j=Y9 L j):Z7 (L.length+1) (X6 r L.length λk=>[Ji ([v].getD k 0)]) (Y9 (L++[v])):=by
 intro j J;unfold X6;by_cases d:j<L.length
 ·rw[tI d];dsimp only;rw[h j d];unfold Y9;rw[Q2,Q2,tT d]
 ·obtain rfl:j=L.length:=by omega
  rw[nW d];dsimp only;unfold Y9;rw[j_h,Q2 (l:=L++[v]),List.getElem?_concat_length]
  rfl
theorem b4L:GK 202 c0R:=gk func202<|by
 rintro⟨l,tx⟩ (h:l.W.length<=100);have W:∀R,a4B l.W R<=100:=λR=>Nat.le_trans (List.length_filter_le _ _) h
 refine S2 (gC a6n (gC M8 (gC M8 (gC M8 (gC M8 (gC M8 (gC M8 (gC M8 (gC M8 (gC M8 gN)))))))))) func202 (b8j l tx) (α:=let t:=(0=0/\0=0);let a:=(Z2 Y4 l.W l.W);let v:=(l.W.length:Int);let r:=(oo ((Z2 Y6 l.H l.H)/\a/\True));(∃(x:TdS l.W tx),let g:=x.1.1.2;let pa:=(x.1.2++List.drop g.1 (tx::g.2));(tx=tx/\tx=tx/\t/\(0=0/\0=g.2.length)/\(0=x.1.2.length/\1=g.2.length+1-g.1)/\True)/\r/\(0=g.2.length/\Z7 0 (tk 1 []) (Y9 g.2))/\(1=pa.length/\Z7 1 (tk 1 [Ji tx]) (Y9 pa))/\True)/\∀(x:TdS l.W tx),let pe:=x.1.2.length;let p:=x.1.1.2;let pb:=(p.2.length+1-p.1);let m:=(x.1.2++List.drop p.1 (tx::p.2));let j:=(tx::p.2).getD;bd ((↑pb:Int)>0) (V6 (0:Int) pb/\Lt (pe+0) m.length/\iM (1:Int) pb/\(∃(X:TdI l.W tx ((tx::x.1.1.2.2).getD x.1.1.2.1 (0:Int)) (tx::x.1.1.2.2) (x.1.1.2.1+1)),(tx=tx/\tx=tx/\t/\(0=0/\p.2.length=X.val.1.2.length)/\(pe+1=X.val.2.length/\p.2.length+1-p.1-1=X.val.1.2.length-p.1)/\m.getD (pe+0) 0=j p.1 (0:Int)/\a/\v=v/\0=(X.val.1.1:Int)/\True)/\r/\(Z2 Y9 p.2 X.val.1.2)/\(Z2 Y9 m (X.val.2++List.drop p.1 X.val.1.2))/\True)/\∀(X:TdI l.W tx ((tx::x.1.1.2.2).getD x.1.1.2.1 (0:Int)) (tx::x.1.1.2.2) (x.1.1.2.1+1)),let pg:=(l.W.length-X.val.1.1);let w:=(X.val.1.1:Int);let u:=(X.val.1.2.length-p.1);let pc:=(X.val.2.length+u);let z:=(X.val.2++List.drop p.1 X.val.1.2);let q:=(l.W.getD w.toNat dz);bd (w<v) (V6 w l.W.length/\∃(n:(List Int×Nat×Int)),((q.tx !=j p.1 (0:Int))=false->Le (0+X.val.1.2.length) X.val.1.2.length/\((X.val.1.2.length=n.2.1/\Z7 X.val.1.2.length (Y9 X.val.1.2) (Y9 n.1))/\q.fo=n.2.2/\True)/\N6 n.2.1)/\br (q.tx !=j p.1 (0:Int)||anyI n.2.1 (tF n.1 n.2.2)) (Ri (w+1)/\∃(y:TdI l.W tx ((tx::x.1.1.2.2).getD x.1.1.2.1 (0:Int)) (tx::x.1.1.2.2) (x.1.1.2.1+1)),let pf:=y.1.1;((tx=tx/\tx=tx/\t/\(0=0/\X.val.1.2.length=pf.2.length)/\(X.val.2.length=y.1.2.length/\X.val.1.2.length-p.1=pf.2.length-p.1)/\j p.1 0=j p.1 (0:Int)/\a/\v=v/\w+1=(pf.1:Int)/\True)/\r/\(Z2 Y9 X.val.1.2 pf.2)/\(Z2 Y9 z (y.1.2++List.drop p.1 pf.2))/\True)/\Lt (l.W.length-pf.1) pg) (br (q.fo==tx) (true=rnd l.W tx) ((Le X.val.1.2.length X.val.1.2.length/\U8 X.val.1.2.length 1 8)/\∀(b:Bool),let f:=(bif b then X.val.1.2.length-p.1+1 else X.val.2.length+u+1);(Le pc z.length/\Lt 0 1/\U8 pc 1 8)/\Ri (w+1)/\∃(y:TdI l.W tx ((tx::x.1.1.2.2).getD x.1.1.2.1 (0:Int)) (tx::x.1.1.2.2) (x.1.1.2.1+1)),let c:=y.1.1;let pd:=(y.1.2++List.drop p.1 c.2);((tx=tx/\tx=tx/\t/\(0=0/\X.val.1.2.length+1=c.2.length)/\((bif b then 0 else X.val.2.length)=y.1.2.length/\X.val.1.2.length-p.1+1=c.2.length-p.1)/\j p.1 0=j p.1 (0:Int)/\a/\v=v/\w+1=(c.1:Int)/\True)/\r/\(X.val.1.2.length+1=c.2.length/\Z7 (X.val.1.2.length+1) (X6 (Y9 X.val.1.2) X.val.1.2.length λ(k:Nat)=>[Ji ([q.fo].getD k (0:Int))]) (Y9 c.2))/\(f=pd.length/\Z7 f (bif b then X6 (λ(i:Nat)=>[Ji (z.getD (X.val.2.length+i) (0:Int))]) u λ(k:Nat)=>[Ji ([q.fo].getD k (0:Int))] else X6 (Y9 z) pc λ(k:Nat)=>[Ji ([q.fo].getD k (0:Int))]) (Y9 pd))/\True)/\Lt (l.W.length-c.1) pg))) (∃(y:TdS l.W tx),let d:=y.1.1.2;((tx=tx/\tx=tx/\t/\(0=0/\X.val.1.2.length=d.2.length)/\(X.val.2.length=y.1.2.length/\X.val.1.2.length-p.1=d.2.length+1-d.1)/\True)/\r/\(Z2 Y9 X.val.1.2 d.2)/\(Z2 Y9 z (y.1.2++List.drop d.1 (tx::d.2)))/\True)/\Lt y.1.1.1 x.1.1.1)) (false=rnd l.W tx)) ⟨⟨⟨((200,0,[]),[]),rfl,by have:=W [tx];dsimp only[List.length_nil];omega,N7 _,rfl,X3,N7 _⟩,⟨rfl,rfl,⟨rfl,rfl⟩,⟨rfl,rfl⟩,⟨rfl,rfl⟩,Z6⟩,⟨rfl,rfl,⟨rfl,W2 _ _⟩,⟨rfl,W2 _ _⟩,Z6⟩,⟨rfl,λj J=>absurd J (J9 _)⟩,⟨rfl,λj J=>by(obtain rfl:j=0:=by omega);rfl⟩,Z6⟩,λx=>?_⟩
 obtain⟨⟨⟨f,i,S⟩,pre⟩,u,Q,hi,L,I,hp⟩:=x;dsimp only at u Q hi L I hp ⊢;have V:=W (tx::S);refine⟨λhc=>?_,λhc=>?_⟩
 ·have hlt:i<S.length+1:=by have:=D4 hc;omega
  have o:i<(tx::S).length:=hlt;obtain⟨g,rfl⟩:∃g,f=g+1:=⟨f-1,Z9⟩
  rw[c1V o] at u;have z:(tx::S).drop i=(tx::S).getD i 0::S.drop i:=by
   rw[List.drop_eq_getElem_cons o,Q2,J5 o]
   rfl
  have t:pre++(tx::S).drop i=(pre++[(tx::S).getD i 0])++S.drop i:=by rw[z,List.append_assoc];rfl
  have A:(pre++(tx::S).drop i).getD (pre.length+0) 0=(tx::S).getD i 0:=by
   rw[Nat.add_zero,Q2,rL (U9 _),j_h,z]
   rfl
  refine⟨⟨Z9,Z9⟩,by unfold Lt;rw[J3,List.length_drop];simp only[List.length_cons];omega,⟨Z9,Z9⟩,⟨⟨((0,S),pre++[(tx::S).getD i 0]),N7 _,rfl,I,I0⟩,⟨rfl,rfl,⟨rfl,rfl⟩,⟨rfl,rfl⟩,⟨X3,X0⟩,A,⟨rfl,W2 _ _⟩,rfl,rfl,Z6⟩,⟨rfl,rfl,⟨rfl,W2 _ _⟩,⟨rfl,W2 _ _⟩,Z6⟩,⟨rfl,W2 _ _⟩,⟨by rw[t],by rw[t];exact W2 _ _⟩,Z6⟩,λy=>?_⟩
  obtain⟨⟨⟨k,S'⟩,d⟩,F,hs,q,r⟩:=y;dsimp only at F hs q r ⊢;obtain⟨Y,M,U⟩:=a65 k (tx::S') F hs;simp only[List.length_cons] at M U;have O:=W (tx::S');rw[E8];refine⟨λhc2=>?_,λhc2=>?_⟩
  ·have hkt:=Y2 hc2;have hss:=fK hs;rw[c3p] at hss;refine⟨Y1 hkt,(S',S'.length,(l.W.getD k dz).fo),λ_=>⟨K2,Z8,uA⟩,λhq=>?_,λhq=>⟨λhb=>?_,λhb=>⟨⟨U9 _,Q5⟩,λb=>?_⟩⟩⟩
   ·have B:scn l.W tx ((tx::S).getD i 0) (tx::S) (k+1)=some (tx::S'):=by
     rw[hss];split
     ·rename_i ha;simp only[qR] at hq;have hany:=hq.resolve_left (by rw[ha];simp)
      rw[if_neg (λe:(l.W.getD k dz).fo=tx=>q (by have:=b6d hany;rwa [e] at this)),if_pos (by rw[hany];simp)]
     ·rfl
    exact⟨Z3 Z9,⟨((k+1,S'),d),hkt,B,q,r⟩,⟨⟨rfl,rfl,Z8,Z8,Z8,rfl,Z8,rfl,X0,Z6⟩,Z8⟩,K1⟩
   ·simp only[yY,bne_eq_false_iff_eq] at hq;rw[if_pos hq.1,if_pos (beq_iff_eq.1 hb)] at hss;have:=nQ hss (l.W.length- (k+1));rw[show k+1+(l.W.length- (k+1))=l.W.length by omega] at this
    rw[this] at u;exact u
   ·simp only[yY,bne_eq_false_iff_eq] at hq;have hft:¬ (l.W.getD k dz).fo=tx:=λe=>by rw[e] at hb;simp at hb
    rw[if_pos hq.1,if_neg hft,if_neg (by rw[hq.2];simp;exact λe=>hft e.symm)] at hss
    generalize (l.W.getD k dz).fo=v at*;have hd2:(S'++[v]).drop i=S'.drop i++[v]:=List.drop_append_of_le_length Z9
    have N:(d++S'.drop i).length=d.length+(S'.length-i):=by rw[J3,List.length_drop]
    have C:(S'.drop i).length=S'.length-i:=List.length_drop;refine⟨⟨K2,I5,Q5⟩,Z3 Z9,⟨((k+1,S'++[v]),bif b then[] else d),hkt,hss,(by simp only[List.mem_append,List.mem_singleton];rintro(e|e);exact q e;exact hft e.symm),by cases b<;>simp<;>omega⟩,⟨⟨rfl,rfl,⟨rfl,rfl⟩,⟨rfl,X3⟩,⟨by cases b<;>rfl,a0o⟩,rfl,⟨rfl,W2 _ _⟩,rfl,X0,Z6⟩,⟨rfl,rfl,⟨rfl,W2 _ _⟩,⟨rfl,W2 _ _⟩,Z6⟩,⟨X3,a1J λ_ _=>rfl⟩,⟨?_,?_⟩,Z6⟩,K1⟩
    ·dsimp only;rw[hd2];cases b with
     |true=>simp
     |false=>simp only[cond_false,J3,List.length_drop,List.length_singleton];omega
    ·dsimp only;rw[hd2];cases b with
     |true=>
      simp only[cond_true,List.nil_append];rw[←C];refine a1J λj J=>?_
      unfold Y9;rw[Q2,Q2,rL Z9,show d.length+j-d.length=j by omega]
     |false=>
      simp only[cond_false];rw[←N,←List.append_assoc];exact a1J λ_ _=>rfl
  ·obtain rfl:k=l.W.length:=by have:=X7 hc2;omega
   rw[hs] at u;exact⟨⟨((g,i+1,S'),d),u,X0,X0,X0,q,r⟩,⟨⟨rfl,rfl,Z8,Z8,⟨rfl,X0⟩,Z6⟩,Z8⟩,K1⟩
 ·have hge:¬i<(tx::S).length:=by have:=q8 hc;simp only[List.length_cons];omega
  rw[←u];exact(c1R hge).symm
def tJ(L:List (List Wt))(i:Nat):List T:=[wtS (L.getD i [])]
def b8E(L:List (List Wt)):T:=.sl 1 L.length (tJ L)
def H8(L:List (List Wt)):Nat->List Wt
 |0=>[]
 |i+1=>H8 L i++L.getD i []
def c21:Con:=.rmk ⟨Nat,λn=>[.v (.slice none 0 0),Ji n],λ_=>[],λ_=>.osl 0 0 0,λ_=>[qU []],λn=>1<=n/\n<=1000000⟩
theorem c2d(n:Nat)(h:
let q:=((n:Int)-0);let p:=q.toNat;  (decide ((n:Int)<0)=true->False)/\(decide ((n:Int)<0)=false->Ri (0:Int)/\Ri q/\bd ((n:Int)-0>0) (iM (0:Int) 0/\(Nn q/\Lt 0 p/\U8 0 p 16)/\iM (0:Int) p/\((0=0/\Int.toNat (0:Int)=0)/\True)/\(p=n/\Z7 p (λ(x:Nat)=>[Ji 0,Ji 0]) λ(x:Nat)=>[Ji 0,Ji 0])/\True) ((L6 (v6 [none]) (T.v (Value.slice none 0 0)) (T.osl 0 0 0)/\True)/\False/\True))):
  I8 prog 243 [.v (.slice none 0 0),Ji n] [] (.osl 0 0 0) [some (.arr true 0 2 n λ_=>zWt)]:=
 w3 gN func243 Y7 [[.vl 0 []]] h
def c5l:Con:=.rmk ⟨List (List Wt),λL=>[b8E L],λ_=>[],λL=>.osl 0 0 (H8 L L.length).length,λL=>[qU (H8 L L.length)],λL=>L.length<=100/\1<=(H8 L L.length).length/\(H8 L L.length).length<=1000000⟩
def c48(L:List (List Wt)):Nat->Ann
 |0=>.one (Up L.length) (λx=>⟨[(0,b8E L),(3,Ji (H8 L x.1).length),(9,b8E L),(10,Ji L.length),(11,Ji x.1)],[]⟩) (λx=>L.length-x.1) [] [] (λ_=>fun
  |1=>.one (Up L.length) (λx=>⟨[(6,.osl 0 0 (H8 L x.1).length),(25,b8E L),(26,Ji L.length),(27,Ji x.1)],[qU (H8 L x.1)]⟩) (λx=>L.length-x.1) [.at_ 6] [.at_ 6] (λ_=>Y7)
  |_=>.none)
 |_=>.none
theorem c0I:GK 243 c21:=gk func243<|by
 rintro n ⟨e,d⟩;refine⟨jJ (c2d n ⟨λq=>(by have:=D4 q;omega),λ_=>⟨Z3 Z9,Z3 Z9,λ_=>⟨⟨Z9,Z9⟩,⟨uD,I5,Q5⟩,⟨Z9,Z9⟩,Z8,⟨Z9,W2 _ _⟩,Z6⟩,λq=>(by have:=q8 q;omega)⟩⟩) ?_,rfl,oJ []⟩
 refine⟨rfl,λk o' h=>?_⟩
 cases k with
 |zero=>
  have h:qU []=some o':=h;unfold qU at h;simp only[X4] at h;refine⟨_,rfl,.inr ⟨_,_,_,_,_,_,_,rfl,h.symm,N7 _,λi hi=>absurd hi (J9 _)⟩⟩
 |succ k=>simp[Z0] at h
theorem b5N(L:List (List Wt))(i:Nat):∀d,(H8 L i).length<=(H8 L (i+d)).length
 |0=>U9 _
 |d+1=>by
  have:=b5N L i d;show _<=(H8 L (i+d)++L.getD (i+d) []).length;rw[J3];omega
theorem c4A:GK 201 c5l:=gk func201<|by
 rintro L ⟨l,f,g⟩;have e:∀i,i<=L.length->(H8 L i).length<=1000000:=λi hi=>by
  have:=b5N L i (L.length-i);rw[show i+(L.length-i)=L.length by omega] at this
  omega
 have d:∀i,(H8 L (i+1)).length=(H8 L i).length+(L.getD i []).length:=λi=>J3
 refine⟨w3 (gC c0I gN) func201 (c48 L) [[.vl 0 []]] (α:=let v:=(Z2 tJ L L);let q:=(L.length:Int);(∃(x:Up L.length),(v/\0=(↑(H8 L x.1).length:Int)/\v/\q=q/\0=(x.1:Int)/\True)/\True)/\∀(x:Up L.length),let w:=(x.1:Int);let u:=(↑(H8 L x.1).length:Int);let z:=(↑(L.getD w.toNat []).length:Int);bd (w<q) (V6 w L.length/\Ri (u+z)/\bd (u+z<0) False (Ri (w+1)/\∃(y:Up L.length),((v/\u+z=(↑(H8 L y.1).length:Int)/\v/\q=q/\w+1=(y.1:Int)/\True)/\True)/\Lt (L.length-y.1) (L.length-x.1))) (∃(X:Nat),((Value.slice none 0 0=Value.slice none 0 0/\u=(X:Int)/\True)/\1<=X/\X<=1000000)/\(∃(x:Up L.length),let k:=(H8 L x.1);((0=0/\0=k.length)/\v/\q=q/\0=(x.1:Int)/\True)/\(0=k.length/\Z7 0 (Y4 []) (Y4 k))/\True)/\∀(x:Up L.length),let m:=(H8 L x.1);let j:=(x.1:Int);let r:=(L.getD j.toNat []);let p:=m.length;bd (j<q) (V6 j L.length/\(Le p p/\U8 p r.length 16)/\Ri (j+1)/\∃(y:Up L.length),let n:=(H8 L y.1);(((0=0/\p+r.length=n.length)/\v/\q=q/\j+1=(y.1:Int)/\True)/\(p+r.length=n.length/\Z7 (p+r.length) (X6 (Y4 m) p (Y4 r)) (Y4 n))/\True)/\Lt (L.length-y.1) (L.length-x.1)) (((0=0/\p=(H8 L L.length).length)/\True)/\(Z2 Y4 m (H8 L L.length))/\True))) ⟨⟨⟨0,N7 _⟩,Z8⟩,λx=>⟨λhc=>?_,λhc=>?_⟩⟩,rfl,oJ _⟩
 ·have h:=Y2 hc;have j:=e (x.1+1) h;have A:=d x.1;rw[E8];exact⟨Y1 h,Z3 Z9,λq=>(by have:=D4 q;omega),λ_=>⟨Z3 Z9,⟨x.1+1,h⟩,⟨⟨Z8,X0,Z8,rfl,X0,Z6⟩,Z6⟩,K1⟩⟩
 ·have hx:x.1=L.length:=by have:=x.2;have:=X7 hc;omega
  refine⟨(H8 L L.length).length,⟨⟨rfl,by rw[hx],Z6⟩,f,g⟩,⟨⟨0,N7 _⟩,⟨⟨rfl,rfl⟩,⟨rfl,W2 _ _⟩,rfl,rfl,Z6⟩,⟨rfl,W2 _ _⟩,Z6⟩,λy=>⟨λhc2=>?_,λhc2=>?_⟩⟩
  ·have h:=Y2 hc2;have j:=e (y.1+1) h;have A:=d y.1;rw[E8];exact⟨Y1 h,⟨U9 _,Q5⟩,Z3 Z9,⟨y.1+1,h⟩,⟨⟨⟨rfl,A.symm⟩,Z8,rfl,X0,Z6⟩,⟨A.symm,a5i _ _⟩,Z6⟩,K1⟩
  ·have hy:y.1=L.length:=by have:=y.2;have:=X7 hc2;omega
   rw[hy];exact Z8
def tkX(e:Eng)(x:Lck):Eng:={e with lk:=(X1 e.lk x).1}
def c6R(e:Eng)(tx:Int):Eng:={e with lk:=K6 e.lk tx}
def b79:Con:=.reff ⟨Eng×Lck×Nat,λx=>[.ref 0 0 11,.agg x.2.1.ts],λx=>x.1.bx x.2.2,λx=>Ji (X1 x.1.lk x.2.1).2,λx=>(tkX x.1 x.2.1).nx x.2.2,λx=>x.1.lk.H.length<=60/\x.1.lk.W.length<=100⟩
def b8u(e:Eng)(x:Lck)(v:Nat):Nat->Ann
 |0=>.one (Up e.lk.H.length) (λi=>⟨[(0,.ref 0 0 11),(3,.ref 9 0 0),(4,Ji 0),(5,.osl 10 0 (V5 e.lk.H x i.1).length),(28,.osl 7 0 e.lk.H.length),(29,Ji e.lk.H.length),(30,Ji i.1)],(c6R e x.tx).bx v++[bZ x,qU (V5 e.lk.H x i.1)]⟩) (λi=>e.lk.H.length-i.1) c1B c1B (λ_=>Y7)
 |_=>.none
theorem b3B(L:List Lck)(x:Lck)(i:Nat):hsI L x i=uX L x i:=by
 unfold hsI hsB uX a5N uE;rw[Bool.eq_iff_iff];simp only[M1,qR,beq_iff_eq];constructor
 ·rintro⟨⟨a,b,c⟩,(d|d)|d⟩
  ·exact⟨⟨⟨a,b⟩,c⟩,.inl (.inr d)⟩
  ·exact⟨⟨⟨a,b⟩,c⟩,.inr d⟩
  ·exact⟨⟨⟨a,b⟩,c⟩,.inl (.inl d)⟩
 ·rintro⟨⟨⟨a,b⟩,c⟩,(d|d)|d⟩
  ·exact⟨⟨a,b,c⟩,.inr d⟩
  ·exact⟨⟨a,b,c⟩,.inl (.inl d)⟩
  ·exact⟨⟨a,b,c⟩,.inl (.inr d)⟩
theorem b3O(L:List Wt)(w:Wt)(i:Nat):isW L w i=eU L w i:=by
 unfold isW eU;rw[show(w.tx==(L.getD i dz).tx)=((L.getD i dz).tx==w.tx) from Bool.eq_iff_iff.2 (by simp only[beq_iff_eq];exact eq_comm),show(w.fo==(L.getD i dz).fo)=((L.getD i dz).fo==w.fo) from Bool.eq_iff_iff.2 (by simp only[beq_iff_eq];exact eq_comm)]
theorem a0x{n:Nat}{p q:Nat->Bool}(h:∀i,p i=q i):anyI n p=anyI n q:=by rw[show p=q from funext h]
theorem b4x:GK 125 b79:=gk func125<|by
 rintro⟨e,x,v⟩ ⟨A,z⟩;dsimp only at A z;have o:(X8 (cF x.tx) e.lk.W e.lk.W.length).length<=e.lk.W.length:=zW (cF x.tx) e.lk.W e.lk.W.length;have q:=λn=>a6w (L:=e.lk.H) (x:=x) n
 refine w3 (gC b20 (gC iW (gC c22 (gC eA (gC b0z (gC c4A (gC b4L gN))))))) func125 (b8u e x v) cJ (α:=let px:=(0=0/\11=11);let pu:=(0=0/\0=0);let po:=(Z2 Y6 e.lk.H e.lk.H);let pm:=(oo (x.tx=x.tx/\x.ta=x.ta/\x.row=x.row/\x.mo=x.mo/\True));let ph:=(Z2 W8 e.X e.X);let pf:=(Z2 Y0 e.s.L e.s.L);let pe:=(e.lk.H.length:Int);let pd:=(Z2 Y8 e.s.d.C e.s.d.C);let pc:=(Z2 Z5 e.s.d.E e.s.d.E);let pb:=(0=0/\e.lk.H.length=e.lk.H.length);let pa:=(0=0/\e.X.length=e.X.length);let t:=(0=0/\e.s.L.length=e.s.L.length);let i:=(0=0/\e.s.fr.length=e.s.fr.length);let c:=(Z2 Y9 e.s.d.keep e.s.d.keep);let b:=(0=0/\e.s.d.C.length=e.s.d.C.length);let a:=(0=0/\e.s.d.E.length=e.s.d.E.length);let m:=(X1 e.lk x);let pz:=m.1.H.length;let ps:=m.1.W.length;let pp:=(Z2 Y6 e.lk.H m.1.H);let pj:=(0=0/\e.lk.H.length=pz);let k:=(0=0/\e.s.d.keep.length=e.s.d.keep.length);let r:=(v=v/\e.s.fr.length=e.s.fr.length/\V3 e.s.fr.length (Z1 e.s.fr) (Z1 e.s.fr));let q:=(X8 (cF x.tx) e.lk.W e.lk.W.length);let pn:=q.length;let w:=(oo (a/\b/\e.s.d.A=e.s.d.A/\k/\e.s.ep=e.s.ep/\t/\e.s.S=e.s.S/\i/\e.s.J=e.s.J/\e.up=e.up/\pa/\pb/\(0=0/\pn=pn)/\e.N=e.N/\True));let u:=(pc/\pd/\c/\pf/\r/\ph/\pp/\(Z2 Y4 q m.1.W)/\True);let p:=(oo (a/\b/\e.s.d.A=e.s.d.A/\k/\e.s.ep=e.s.ep/\t/\e.s.S=e.s.S/\i/\e.s.J=e.s.J/\e.up=e.up/\pa/\pj/\(0=0/\pn=ps)/\e.N=e.N/\True));let pw:=((7=m.2/\True)/\p/\T8 u);∃(f:(List Wt×Lck)),let l:=(X8 (y8 f.2) f.1 f.1.length);(((0=0/\e.lk.W.length=f.1.length)/\(Fn.func 198=Fn.func 198/\pu/\True)/\True)/\((Z2 Y4 e.lk.W f.1)/\(1=1/\Z7 1 (λ(j:Nat)=>[Ji x.tx,Ji x.ta,Ji x.row,Ji x.mo]) λ(x:Nat)=>[Ji f.2.tx,Ji f.2.ta,Ji f.2.row,Ji f.2.mo])/\True)/\f.1.length<=1048576)/\∃(j:(Lks×Lck)),((Le (0+e.lk.H.length) e.lk.H.length/\Le (0+l.length) l.length)/\(((Z2 Y6 e.lk.H j.1.H)/\(Z2 Y4 l j.1.W)/\True)/\(f.2.tx=j.2.tx/\f.2.ta=j.2.ta/\f.2.row=j.2.row/\f.2.mo=j.2.mo/\True)/\True)/\N6 j.1.H.length)/\br (anyI j.1.H.length (hsI j.1.H j.2)) ((0=m.2/\True)/\(oo (a/\b/\e.s.d.A=e.s.d.A/\k/\e.s.ep=e.s.ep/\t/\e.s.S=e.s.S/\i/\e.s.J=e.s.J/\e.up=e.up/\pa/\pj/\(0=0/\l.length=ps)/\e.N=e.N/\True))/\T8 (pc/\pd/\c/\pf/\r/\ph/\pp/\(Z2 Y4 l m.1.W)/\True)) ((∃(X:Up e.lk.H.length),let pq:=(V5 e.lk.H x X.val);(px/\pu/\(0:Int)=0/\(0=0/\0=pq.length)/\pb/\pe=pe/\0=(X.val:Int)/\True)/\(oo (a/\b/\e.s.d.A=e.s.d.A/\k/\e.s.ep=e.s.ep/\t/\e.s.S=e.s.S/\i/\e.s.J=e.s.J/\e.up=e.up/\pa/\pb/\(0=0/\l.length=pn)/\e.N=e.N/\True))/\pc/\pd/\c/\pf/\r/\ph/\po/\(Z2 Y4 l q)/\(oo (f.2.tx=x.tx/\f.2.ta=x.ta/\f.2.row=x.row/\f.2.mo=x.mo/\True))/\(0=pq.length/\Z7 0 (tk 2 []) (Y4 pq))/\True)/\∀(X:Up e.lk.H.length),let py:=(e.lk.H.length-X.val);let pk:=(X.val:Int);let pi:=(V5 e.lk.H x X.val);let n:=(e.lk.H.getD (0+pk.toNat) dz);let z:=pi.length;let pv:=(↑z:Int);bd (pk<pe) (V6 pk e.lk.H.length/\Lt (0+pk.toNat) e.lk.H.length/\∃(g:(Lck×Lck)),(((n.tx=g.1.tx/\n.ta=g.1.ta/\n.row=g.1.row/\n.mo=g.1.mo/\True)/\(x.tx=g.2.tx/\x.ta=g.2.ta/\x.row=g.2.row/\x.mo=g.2.mo/\True)/\True)/\True)/\∃(h:(List Wt×Nat×Wt)),(clash g.1 g.2=true->Le (0+z) z/\((z=h.2.1/\Z7 z (Y4 pi) (Y4 h.1))/\(x.tx=h.2.2.tx/\n.tx=h.2.2.fo/\True)/\True)/\N6 h.2.1)/\br (clash g.1 g.2&& !anyI h.2.1 (isW h.1 h.2.2)) ((Le 1 1/\Le z z/\U8 z 1 16)/\Ri (pk+1)/\∃(y:Up e.lk.H.length),let pr:=(V5 e.lk.H x y.1);((px/\pu/\(0:Int)=0/\(0=0/\z+1=pr.length)/\pb/\pe=pe/\pk+1=(y.1:Int)/\True)/\w/\pc/\pd/\c/\pf/\r/\ph/\po/\(Z2 Y4 q q)/\pm/\(z+1=pr.length/\Z7 (z+1) (X6 (Y4 pi) z (tk 2 [Ji x.tx,Ji n.tx])) (Y4 pr))/\True)/\Lt (e.lk.H.length-y.1) py) (Ri (pk+1)/\∃(y:Up e.lk.H.length),let qa:=(V5 e.lk.H x y.1);((px/\pu/\(0:Int)=0/\(0=0/\z=qa.length)/\pb/\pe=pe/\pk+1=(y.1:Int)/\True)/\w/\pc/\pd/\c/\pf/\r/\ph/\po/\(Z2 Y4 q q)/\pm/\(Z2 Y4 pi qa)/\True)/\Lt (e.lk.H.length-y.1) py)) (br (pv==0&&pe==60) pw (br (pv==0) ((Le 1 1/\Le e.lk.H.length e.lk.H.length/\U8 e.lk.H.length 1 32)/\(0=m.2/\True)/\(oo (a/\b/\e.s.d.A=e.s.d.A/\k/\e.s.ep=e.s.ep/\t/\e.s.S=e.s.S/\i/\e.s.J=e.s.J/\e.up=e.up/\pa/\(0=0/\e.lk.H.length+1=pz)/\(0=0/\pn=ps)/\e.N=e.N/\True))/\T8 (pc/\pd/\c/\pf/\r/\ph/\(e.lk.H.length+1=pz/\Z7 (e.lk.H.length+1) (X6 (Y6 e.lk.H) e.lk.H.length (tk 4 [Ji x.tx,Ji x.ta,Ji x.row,Ji x.mo])) (Y6 m.1.H))/\(Z2 Y4 q m.1.W)/\True)) (Ri ((↑pn:Int)+pv)/\bd ((↑pn:Int)+pv>100) pw (∃(g:(List (List Wt))),let pg:=(H8 g (g.length));let pt:=pg.length;((Le (0+pn) pn/\Le (0+z) z)/\((2=g.length/\Z7 2 (fP [T.sl 2 q.length (Y4 q)] [T.sl 2 z (Y4 pi)]) (tJ g))/\True)/\g.length<=100/\1<=pt/\pt<=1000000)/\∃(h:(Lks×Int)),((Le (0+e.lk.H.length) e.lk.H.length/\Le (0+pt) pt)/\(((Z2 Y6 e.lk.H h.1.H)/\(Z2 Y4 pg h.1.W)/\True)/\x.tx=h.2/\x.tx=h.2/\True)/\h.1.W.length<=100)/\br (rnd h.1.W h.2) ((14=m.2/\True)/\p/\T8 u) ((13=m.2/\True)/\(oo (a/\b/\e.s.d.A=e.s.d.A/\k/\e.s.ep=e.s.ep/\t/\e.s.S=e.s.S/\i/\e.s.J=e.s.J/\e.up=e.up/\pa/\pj/\(0=0/\pt=ps)/\e.N=e.N/\True))/\T8 (pc/\pd/\c/\pf/\r/\ph/\pp/\(Z2 Y4 pg m.1.W)/\True)))))))) ⟨(e.lk.W,x),⟨Z8,Z8,X0⟩,(K6 e.lk x.tx,x),⟨⟨K2,K2⟩,Z8,by unfold N6 K6;dsimp only;omega⟩,λhh=>?_,λhh=>⟨⟨⟨0,N7 _⟩,Z8,Z8,Z8,Z8,Z8,Z8,Z8,Z8,Z8,Z8,Z8,⟨rfl,K0⟩,Z6⟩,λy=>?_⟩⟩
 ·have hh:anyI e.lk.H.length (uX e.lk.H x)=true:=by rw[←a0x (b3B e.lk.H x)];exact hh
  have e1:X1 e.lk x=(K6 e.lk x.tx,0):=by unfold X1;rw[if_pos hh]
  rw[e1];exact Z8
 have hh:¬anyI e.lk.H.length (uX e.lk.H x)=true:=by
  have hh:anyI e.lk.H.length (hsI e.lk.H x)=false:=hh;rw[←a0x (b3B e.lk.H x),hh];simp
 obtain⟨i,hi⟩:=y;dsimp only at hi ⊢;have I:=q i;rw[E8,E5];refine⟨λhc=>?_,λhc=>?_⟩
 ·have hlt:=Y2 hc;have hw1:=c1x (L:=e.lk.H) (x:=x) (i:=i);refine⟨Y1 hlt,hlt,(e.lk.H.getD i dz,x),Z8,(V5 e.lk.H x i,(V5 e.lk.H x i).length,⟨x.tx,(e.lk.H.getD i dz).tx⟩),λ_=>⟨K2,Z8,uA⟩,λhq=>?_,λhq=>?_⟩
  ·dsimp only at hq;rw[a0x (b3O _ _)] at hq;simp only[M1,xO] at hq;rw[if_pos hq.1,if_neg (by rw[hq.2];simp)] at hw1
   have N:(V5 e.lk.H x i).length+1=(V5 e.lk.H x (i+1)).length:=by rw[hw1];simp
   refine⟨⟨U9 _,U9 _,Q5⟩,Z3 Z9,⟨i+1,hlt⟩,⟨⟨Z8,Z8,rfl,⟨rfl,N⟩,Z8,rfl,X0,Z6⟩,Z8,Z8,Z8,Z8,Z8,Z8,Z8,Z8,Z8,Z8,⟨N,?_⟩,Z6⟩,K1⟩
   dsimp only;rw[hw1];exact yP Wt.ts 2 (λ_=>rfl) (V5 e.lk.H x i) ⟨x.tx,(e.lk.H.getD i dz).tx⟩
  ·dsimp only at hq;rw[a0x (b3O _ _)] at hq;have r:V5 e.lk.H x (i+1)=V5 e.lk.H x i:=by
    rw[hw1];split
    ·rename_i o;rw[o,Bool.true_and,yC] at hq;rw[if_pos hq]
    ·rfl
   refine⟨Z3 Z9,⟨i+1,hlt⟩,?_,K1⟩
   dsimp only;rw[r];exact⟨⟨Z8,Z8,rfl,Z8,Z8,rfl,Z9,Z6⟩,Z8⟩
 ·obtain rfl:i=e.lk.H.length:=by have:=X7 hc;omega
  refine⟨λh60=>?_,λh60=>⟨λh0=>?_,λh0=>⟨Z3 Z9,λB=>?_,λB=>?_⟩⟩⟩
  ·simp only[M1,beq_iff_eq] at h60;have h0:(G6 e.lk x).length=0:=by have:=h60.1;unfold G6;omega
   have e1:X1 e.lk x=(K6 e.lk x.tx,7):=by unfold X1;rw[if_neg hh,if_pos h0,if_pos Z9]
   rw[e1];exact Z8
  ·have h0':(G6 e.lk x).length=0:=by have:=beq_iff_eq.1 h0;unfold G6;omega
   have h60:¬e.lk.H.length=60:=λl=>by rw[h0,l] at h60;cases h60
   have e1:X1 e.lk x=(⟨e.lk.H++[x],(K6 e.lk x.tx).W⟩,0):=by unfold X1;rw[if_neg hh,if_pos h0',if_neg h60]
   rw[e1];exact⟨⟨U9 _,U9 _,Q5⟩,Z8,⟨rfl,rfl,Z8,Z8,rfl,Z8,rfl,Z8,rfl,Z8,rfl,rfl,Z8,⟨rfl,X3⟩,Z8⟩,Z6,Z6,Z6,Z6,Z6,Z6,Z6,Z6,Z8,Z8,Z8,Z8,Z8,Z8,⟨X3,yP Lck.ts 4 (λ_=>rfl) _ x⟩,Z8⟩
  ·have h0':¬ (G6 e.lk x).length=0:=λl=>by
    have l:(V5 e.lk.H x e.lk.H.length).length=0:=l;rw[l] at h0;cases h0
   have hb':(K6 e.lk x.tx).W.length+(G6 e.lk x).length>100:=by have:=D4 B;unfold G6 K6;dsimp only;omega
   have e1:X1 e.lk x=(K6 e.lk x.tx,7):=by unfold X1;rw[if_neg hh,if_neg h0',if_pos hb']
   rw[e1];exact Z8
  ·have t:¬ (V5 e.lk.H x e.lk.H.length).length=0:=λl=>by
    rw[l] at h0;cases h0
   have h0':¬ (G6 e.lk x).length=0:=t;have F:(X8 (cF x.tx) e.lk.W e.lk.W.length).length+(V5 e.lk.H x e.lk.H.length).length<=100:=by have:=q8 B;omega
   have hb':¬ (K6 e.lk x.tx).W.length+(G6 e.lk x).length>100:=by unfold G6 K6;dsimp only;omega
   have u:H8 [X8 (cF x.tx) e.lk.W e.lk.W.length,V5 e.lk.H x e.lk.H.length] 2=(K6 e.lk x.tx).W++G6 e.lk x:=rfl;have C:((K6 e.lk x.tx).W++G6 e.lk x).length=(X8 (cF x.tx) e.lk.W e.lk.W.length).length+(V5 e.lk.H x e.lk.H.length).length:=J3;refine⟨[X8 (cF x.tx) e.lk.W e.lk.W.length,V5 e.lk.H x e.lk.H.length],⟨⟨K2,K2⟩,⟨⟨rfl,λi hi=>by match i,hi with|0,_=>rfl|1,_=>rfl⟩,Z6⟩,by show 2<=100;omega,?_,?_⟩,(⟨e.lk.H,(K6 e.lk x.tx).W++G6 e.lk x⟩,x.tx),⟨⟨K2,K2⟩,⟨⟨⟨rfl,W2 _ _⟩,⟨rfl,W2 _ _⟩,Z6⟩,rfl,rfl,Z6⟩,X0⟩,λhr=>?_,λhr=>?_⟩
   ·show 1<=((K6 e.lk x.tx).W++G6 e.lk x).length;omega
   ·show((K6 e.lk x.tx).W++G6 e.lk x).length<=1000000;omega
   ·have hr:rnd ((K6 e.lk x.tx).W++G6 e.lk x) x.tx=true:=hr;have e1:X1 e.lk x=(K6 e.lk x.tx,14):=by unfold X1;rw[if_neg hh,if_neg h0',if_neg hb',if_pos hr]
    rw[e1];exact Z8
   ·have hr:¬rnd ((K6 e.lk x.tx).W++G6 e.lk x) x.tx=true:=by
     have hr:rnd ((K6 e.lk x.tx).W++G6 e.lk x) x.tx=false:=hr;rw[hr];simp
    have e1:X1 e.lk x=(⟨e.lk.H,(K6 e.lk x.tx).W++G6 e.lk x⟩,13):=by unfold X1;rw[if_neg hh,if_neg h0',if_neg hb',if_neg hr]
    rw[e1];exact Z8
theorem kV{a:Int}(h:(a !=0)=true):¬a=0:=D3
theorem oN{a:Int}(h:(a !=0)=false):a=0:=D3
def a4p(g s:Int):Option Ob:=some (.arr true 1000000 2 1 λ_=>[Ji g,Ji s])
def hitB(r:Rec)(g s:Int):Bool:=(r.g==g)&&(r.s==s)
def b73:Con:=.reff ⟨Rec×Int×Int×Bool,λx=>[.agg x.1.ts,.ref 0 0 0,.ref 1 0 0],λx=>[a6e x.2.2.2,a4p x.2.1 x.2.2.1],λ_=>.bool true,λx=>[a6e (x.2.2.2||hitB x.1 x.2.1 x.2.2.1),a4p x.2.1 x.2.2.1],λ_=>True⟩
theorem b8a(r:Rec)(g s:Int)(b:Bool)(h:
  (true=true/\True)/\(oo ((b||r.g==g&&r.s==s)=(b||hitB r g s)/\True))/\(oo (g=g/\s=s/\True))/\True):
  I8 prog 187 [.agg r.ts,.ref 0 0 0,.ref 1 0 0] [a6e b,a4p g s] (.bool true) [a6e (b||hitB r g s),a4p g s]:=
 w3 gN func187 Y7 [vO] h
theorem b5l:GK 187 b73:=gk func187<|λx _=>b8a x.1 x.2.1 x.2.2.1 x.2.2.2 Z8
def c2i:Con:=.reff ⟨Sto×Int×Int×Int,λx=>[.bref x.1.ts,Ji x.2.1,.fn (.func 187) [.ref 0 0 0,.ref 1 0 0]],λx=>[a6e false,a4p x.2.2.1 x.2.2.2],λ_=>.tup [],λx=>[a6e (kepA x.1.L x.2.2.1 x.2.2.2 61 x.2.1),a4p x.2.2.1 x.2.2.2],λx=>sT x.1.L x.2.1⟩
def KpU(L:List Rec)(g s f:Int):Type:={x:Nat×Int×Bool//(x.2.2||kepA L g s x.1 x.2.1)=kepA L g s 61 f/\x.2.1<=(L.length:Int)/\x.2.1.toNat<x.1}
def c2e(t:Sto)(f g s:Int):Nat->Ann
 |0=>.one (KpU t.L g s f) (λx=>⟨[(0,.bref t.ts),(1,Ji x.1.2.1),(2,.fn (.func 187) [.ref 0 0 0,.ref 1 0 0])],[a6e x.1.2.2,a4p g s]⟩) (λx=>x.1.1) vO vO (λ_=>Y7)
 |_=>.none
theorem c0S:GK 186 c2i:=gk func186<|by
 rintro⟨t,F,g,s⟩ ⟨L,o⟩;dsimp only at L o;have q:=L.1;refine w3 (gC b5l gN) func186 (c2e t F g s) [vO] (α:=let b:=(0=0/\0=0);let w:=(v6 [some 0,some 1]);let v:=(oo (g=g/\s=s/\True));let u:=(T.bref t.ts);let r:=(Fn.func 187=Fn.func 187/\b/\b/\True);(∃(x:KpU t.L g s F),(L6 w u u/\F=x.1.2.1/\r/\True)/\(oo (false=x.1.2.2/\True))/\v/\True)/\∀(x:KpU t.L g s F),let a:=x.1.2;let j:=(a.1- (1:Int));let z:=((True/\True)/\(oo (a.2=kepA t.L g s 61 F/\True))/\v/\True);let q:=(t.L.getD j.toNat dz);bd (a.1>(0:Int)) (Ri j/\V6 j t.L.length/\br (q.k==3) (∃(y:KpU t.L g s F),((L6 w u u/\q.n=y.1.2.1/\r/\True)/\(oo (a.2=y.1.2.2/\True))/\v/\True)/\Lt y.1.1 x.1.1) (∃(X:(Rec×Int×Int×Bool)),let f:=(oo (X.2.1=g/\X.2.2.1=s/\True));let m:=(X.2.2.2||hitB X.1 X.2.1 X.2.2.1);((q.k==2)=true->((EqR q X.1)/\b/\b/\True)/\((1=1/\Z7 1 (λ(x_2:Nat)=>[T.bool a.2]) λ(x:Nat)=>[T.bool X.2.2.2])/\(1=1/\Z7 1 (λ(x:Nat)=>[Ji g,Ji s]) λ(x:Nat)=>[Ji X.2.1,Ji X.2.2.1])/\True)/\True)/\((q.k==2)=true->br (q.k==2&&false) ((True/\True)/\(oo (m=kepA t.L g s 61 F/\True))/\f/\True) (∃(y:KpU t.L g s F),((L6 w u u/\q.p=y.1.2.1/\r/\True)/\(oo (m=y.1.2.2/\True))/\f/\True)/\Lt y.1.1 x.1.1))/\(((q.k==2)=true->False)->br (q.k==2&&false) z (∃(y:KpU t.L g s F),((L6 w u u/\q.p=y.1.2.1/\r/\True)/\(oo (a.2=y.1.2.2/\True))/\v/\True)/\Lt y.1.1 x.1.1)))) z) ⟨⟨⟨(61,F,false),Bool.false_or _,o,X0⟩,⟨U2 _,Z8⟩,Z8⟩,λx=>?_⟩
 obtain⟨⟨f,a,b⟩,e,j,r⟩:=x;dsimp only at e j r ⊢;refine⟨λhc=>?_,λhc=>?_⟩
 ·have h0:a>0:=D4 hc;have h0':¬a<=0:=by omega
  obtain⟨C,A,v,z⟩:=L.prev (show 1<=a by omega) j
  obtain⟨f,rfl⟩:∃u,f=u+1:=⟨f-1,Z9⟩
  rw[c1d h0'] at e;refine⟨Z3 Z9,⟨Z9,Z9⟩,λd=>?_,λd=>?_⟩
  ·have d:(X9 t.L a).k=3:=beq_iff_eq.1 d;rw[if_pos d] at e;exact⟨⟨(f,(X9 t.L a).n,b),e,X0,X0⟩,⟨⟨U2 _,Z8⟩,Z8⟩,K1⟩
  ·have d:(X9 t.L a).k≠3:=λh=>by
    have d:((X9 t.L a).k==3)=false:=d;rw[h] at d;cases d
   rw[if_neg d] at e;refine⟨(X9 t.L a,g,s,b),λ_=>Z8,λh2=>⟨λi=>?_,λ_=>?_⟩,λh2=>⟨λi=>?_,λ_=>?_⟩⟩
   ·rw[Bool.and_false] at i;cases i
   ·have h2:(X9 t.L a).k=2:=beq_iff_eq.1 h2;have l:((b||hitB (X9 t.L a) g s)||kepA t.L g s f (X9 t.L a).p)=kepA t.L g s 61 F:=by
     rw[←e];unfold hitB;by_cases hg:(X9 t.L a).g=g/\(X9 t.L a).s=s
     ·rw[if_pos ⟨h2,hg⟩,hg.1,hg.2];simp
     ·rw[if_neg λh=>hg h.2]
      have:((X9 t.L a).g==g&&(X9 t.L a).s==s)=false:=by
       cases B:((X9 t.L a).g==g&&(X9 t.L a).s==s) with
       |false=>rfl
       |true=>
        simp only[M1,beq_iff_eq] at B;exact absurd B hg
      rw[this,Bool.or_false]
    exact⟨⟨(f,(X9 t.L a).p,b||hitB (X9 t.L a) g s),l,X0,X0⟩,⟨⟨U2 _,Z8⟩,Z8⟩,K1⟩
   ·rw[Bool.and_false] at i;cases i
   ·have h2:¬ (X9 t.L a).k=2:=λh=>h2 (beq_iff_eq.2 h)
    rw[if_neg λh=>h2 h.1] at e
    exact⟨⟨(f,(X9 t.L a).p,b),e,X0,X0⟩,⟨⟨U2 _,Z8⟩,Z8⟩,K1⟩
 ·have h0:a<=0:=by have:=q8 hc;omega
  rw[c02 h0,Bool.or_false] at e;exact⟨Z8,⟨rfl,rfl,e,Z6⟩,Z8⟩
def b5w:Con:=.rel ⟨Eng×Int×Int×Int,λx=>[.bref x.1.ts,Ji x.2.1,.agg [Ji x.2.2.1,Ji x.2.2.2]],λx=>.bool (wL x.1 x.2.1 x.2.2.1 x.2.2.2),λx=>wG x.1⟩
def b4M(e:Eng)(tx g s:Int):Nat->Ann
 |0=>.one (V0 e.X.length (tD e tx g s)) (λx=>⟨[(0,.bref e.ts),(1,Ji tx),(5,.ref 0 0 0),(13,a3a e.X),(14,Ji e.X.length),(15,Ji x.1)],[a4p g s]⟩) (λx=>e.X.length-x.1) [.box 0] [.box 0] (λ_=>Y7)
 |_=>.none
theorem b1N:GK 115 b5w:=gk func115<|by
 rintro⟨e,tx,g,s⟩ ⟨hL,d,hb⟩;dsimp only at hL d hb;refine S2 (gC c0S gN) func115 (b4M e tx g s) (α:=let z:=(0=0/\0=0);let r:=(T.bref e.ts);let p:=(e.X.length:Int);(∃(x:V0 e.X.length (tD e tx g s)),(L6 (v6 [some 0]) r r/\tx=tx/\z/\(Z2 W8 e.X e.X)/\p=p/\0=(x.1:Int)/\True)/\(oo (g=g/\s=s/\True))/\True)/\∀(x:V0 e.X.length (tD e tx g s)),let q:=(x.1:Int);let u:=(e.X.getD q.toNat dz);bd (q<p) (V6 q e.X.length/\∃(X:(Sto×Int×Int×Int)),(((zV e.s X.1)/\u.Z=X.2.1/\(Fn.func 187=Fn.func 187/\z/\z/\True)/\True)/\((1=1/\Z7 1 (setRow (λ(x:Nat)=>[T.bool false]) 0 0 [T.bool false]) λ(x:Nat)=>[T.bool false])/\(1=1/\Z7 1 (λ(x:Nat)=>[Ji g,Ji s]) λ(x:Nat)=>[Ji X.2.2.1,Ji X.2.2.2])/\True)/\sT X.1.L X.2.1)/\br (kepA X.1.L X.2.2.1 X.2.2.2 61 X.2.1&&u.id !=tx) (true=wL e tx g s) (Ri (q+1)/\∃(y:V0 e.X.length (tD e tx g s)),((L6 (v6 [some 0]) r r/\tx=tx/\z/\(Z2 W8 e.X e.X)/\p=p/\q+1=(y.1:Int)/\True)/\(oo (X.2.2.1=g/\X.2.2.2=s/\True))/\True)/\Lt (e.X.length-y.1) (e.X.length-x.1))) (false=wL e tx g s)) ⟨⟨H5,⟨U2 _,Z8⟩,Z8⟩,λx=>⟨λhc=>?_,λhc=>?_⟩⟩
 ·have hlt:=Y2 hc;have hx:=hb x.1 hlt;rw[E8];have hkb:(kepA e.s.L g s 61 (e.X.getD x.1 dz).Z&&(e.X.getD x.1 dz).id !=tx)=tD e tx g s x.1:=Bool.and_comm _ _;refine⟨Y1 hlt,(e.s,(e.X.getD x.1 dz).Z,g,s),⟨⟨(gL _),Z8⟩,⟨⟨rfl,λi hi=>b4N⟩,Z8⟩,hL,hx⟩,λhq=>?_,λhq=>?_⟩
  ·exact(S8.2 ⟨x.1,hlt,hkb.symm.trans hq⟩).symm
  ·exact⟨V8 hlt Z9,x.succ hlt (hkb.symm.trans hq),⟨⟨U2 _,rfl,Z8,Z8,rfl,L3,Z6⟩,Z8⟩,V0.ext_lt hlt⟩
 ·have h:=X7 hc;exact(R8.2 λj J=>x.2.2 j (zH J h)).symm
def b88:Con:=.rel ⟨Bz×Int×Int,λx=>[.str x.1,Ji x.2.1,Ji x.2.2],λx=>.bool (a1a x.1 x.2.1 x.2.2),λx=>x.1.length<=1000⟩
theorem b4s:GK 114 b88:=gk func114<|by
 rintro⟨b,ta,id⟩ (h:b.length<=1000);have I:=b4n (t:=b) Z9
 obtain⟨d,e⟩:=c15 b;refine S2 (gC eQ gN) func114 Y7 (α:=Lt b.length 140737488355329/\∃(x:mJ.ι),((b=x/\True)/\oU x)/\((A9 x).2.2==(0:Int)&&(A9 x).1==ta&&(A9 x).2.1.id==id)=a1a b ta id) ⟨I5,b,⟨Z8,by show b.length<=_;omega⟩,?_⟩
 unfold a1a;cases r:lD b with
 |none=>
  rw[r] at I d;rw[I,d];rfl
 |some x=>
  rw[r] at I;rw[I,e x r];rfl
def plI(a b:Int):Option Ob:=some (.arr true 1000000 2 1 λ_=>[Ji a,Ji b])
def Eng.fy(e:Eng)(v:Nat)(A:Plc):Y5:=[jA (e.tn 13 14 15 16 17 18 19 20),none,none,none,none,none,none,none,none,plI 0 0,plI 0 0,plI A.a A.b,plI A.c A.d,w9 e.s.d.E,B7 e.s.d.C,z6 e.s.d.keep,zG e.s.L,vU v e.s.fr e.s.fr.length,qD e.X,uG e.lk.H,qU e.lk.W]
def kK(e:Eng)(tx ta id:Int):Nat->Nat
 |0=>0
 |n+1=>if(R1 e tx ta id n).2.2=true then O5 (R1 e tx ta id n).1 n (kK e tx ta id n) else kK e tx ta id n
def slI(a b:Int):Int:=if a<0 then 0 else b
def pI(A:Plc):Plc:=⟨A.a,slI A.a A.b,A.c,slI A.c A.d⟩
theorem c20{e:Eng}{tx ta id:Int}{n:Nat}(h:(R1 e tx ta id n).2.2=true):kK e tx ta id (n+1)=O5 (R1 e tx ta id n).1 n (kK e tx ta id n):=by
 conv=>lhs;unfold kK
 rw[if_pos h]
theorem c33(ta id:Int):a1a [] ta id=false:=rfl
theorem c3Q{A:Plc}{n i:Nat}:pI ⟨n,i,A.c,A.d⟩=⟨n,i,A.c,slI A.c A.d⟩:=by
 unfold pI slI;rw[if_neg (show ¬ ((n:Int)<0) by omega)]
theorem c4a{A:Plc}{n i:Nat}:pI ⟨A.a,A.b,n,i⟩=⟨A.a,slI A.a A.b,n,i⟩:=by
 unfold pI slI;rw[if_neg (show ¬ ((n:Int)<0) by omega)]
def b8J:Con:=.rel ⟨List Val,λL=>[b2I L],λL=>.bys (Q9 L L.length),λL=>L.length<=100/\∀i,i<L.length->mY (L.getD i dz)⟩
def b9C(L:List Val):Nat->Ann
 |0=>.one (Up L.length) (λx=>⟨[(3,.osl 0 0 (Q9 L x.1).length),(7,b2I L),(8,Ji L.length),(9,Ji x.1)],[some (.bys 5 (Q9 L x.1))]⟩) (λx=>L.length-x.1) [.at_ 3] [.at_ 3] (λ_=>Y7)
 |_=>.none
def c3c:Con:=.rel ⟨Int,λn=>[Ji n],λn=>.agg [Ji 1,Ji n,.str []],λ_=>True⟩
theorem c2o(n:Int)(h:
  (1:Int)=1/\n=n/\([]:Bz)=[]/\True):
  V2 prog 84 [Ji n] (.agg [Ji 1,Ji n,.str []]):=
 S2 gN func84 Y7 h
theorem c0D:GK 84 c3c:=gk func84<|λn _=>c2o n Z8
theorem b6b:GK 83 b8J:=gk func83<|by
 rintro(L:List Val) ⟨hL,hk⟩;refine S2 (gC a2g gN) func83 (b9C L) (α:=let f:=(Z2 Q1 L L);let z:=(L.length:Int);(∃(x:Up L.length),((0=0/\0=(Q9 L x.1).length)/\f/\z=z/\0=(x.1:Int)/\True)/\List.map R4 []=Q9 L x.1/\True)/\∀(x:Up L.length),let j:=(L.length-x.1);let w:=(Q9 L x.1);let u:=(x.1:Int);let r:=w.length;let q:=(L.getD u.toNat dz);let m:=(r+1+q.t.length);let v:=(List.drop 0 (List.map R4 [IntKind.u8.wrap (q.k+1)]));let p:=(List.take r w++List.take 1 v);let g:=(List.take (r+1) p++q.t);bd (u<z) (V6 u L.length/\Ri (q.k+1)/\P6 IntKind.u8 (IntKind.u8.wrap (q.k+1))/\(Le 1 1/\Le r r/\U8 r 1 1)/\br (q.k==1) (Ri (q.n+1000000000)/\∃(X:Nat),((q.n+1000000000=(X:Int)/\True)/\X<4294967296)/\(Le (r+1) p.length/\U8 (r+1) 4 1)/\Ri (u+1)/\∃(y:Up L.length),(((0=0/\r+1+4=(Q9 L y.1).length)/\f/\z=z/\u+1=(y.1:Int)/\True)/\List.take (r+1) p++D5 X=Q9 L y.1/\True)/\Lt (L.length-y.1) j) (br (q.k==2) ((Le (r+1) p.length/\U8 (r+1) q.t.length 1)/\P6 IntKind.u8 (0:Int)/\(Le 1 1/\Le m g.length/\U8 m 1 1)/\Ri (u+1)/\∃(y:Up L.length),(((0=0/\r+1+q.t.length+1=(Q9 L y.1).length)/\f/\z=z/\u+1=(y.1:Int)/\True)/\List.take m g++List.take 1 (List.drop 0 (List.map R4 [(0:Int)]))=Q9 L y.1/\True)/\Lt (L.length-y.1) j) (Ri (u+1)/\∃(y:Up L.length),(((0=0/\r+1=(Q9 L y.1).length)/\f/\z=z/\u+1=(y.1:Int)/\True)/\List.take r w++List.take 1 v=Q9 L y.1/\True)/\Lt (L.length-y.1) j))) (Le (0+r) r/\List.take r (List.drop 0 w)=Q9 L L.length)) ⟨⟨⟨0,N7 _⟩,Z8⟩,λx=>⟨λhc=>?_,λhc=>?_⟩⟩
 ·have hlt:=Y2 hc;have h1:=gI hk x.1 Z9
  have hv:=hk x.1 hlt;have u:=jB hv;rw[E8];have i:Q9 L (x.1+1)=Q9 L x.1++A5 (L.getD x.1 dz):=rfl;generalize L.getD x.1 dz=v at*;obtain⟨z,h3⟩:=hv;have e:v.k=0∨v.k=1∨v.k=2:=by
   rcases h3 with h|h|h
   ·exact .inl h
   ·exact .inr (.inl h.1)
   ·exact .inr (.inr h)
  have r:P6 IntKind.u8 (IntKind.u8.wrap (v.k+1)):=by
   rcases e with h|h|h<;>rw[h]<;>exact(yV _).2 ⟨W6,W6⟩
  have o:List.take (Q9 L x.1).length (Q9 L x.1)++List.take 1 (List.drop 0 (List.map R4 [IntKind.u8.wrap (v.k+(1:Int))]))=Q9 L x.1++[R4 (IntKind.u8.wrap (v.k+1))]:=by rw[dC];rfl
  rw[o];generalize A:Q9 L x.1=B at*;have j:List.take (B.length+1) (B++[R4 (IntKind.u8.wrap (v.k+1))])=B++[R4 (IntKind.u8.wrap (v.k+1))]:=List.take_of_length_le X3
  refine⟨Y1 hlt,Z3 Z9,r,⟨U9 _,U9 _,Q5⟩,λhq=>?_,λhq=>⟨λd=>?_,λd=>?_⟩⟩
  ·have hq:v.k=1:=beq_iff_eq.1 hq;have hn:=(h3.resolve_left Z9).resolve_right Z9
   have g:A5 v=R4 (IntKind.u8.wrap (v.k+1))::D5 (v.n+1000000000).toNat:=by
    unfold A5;rw[if_neg Z9,if_pos hq,hq]
    rfl
   have f:Q9 L (x.1+1)=(B++[R4 (IntKind.u8.wrap (v.k+1))])++D5 (v.n+1000000000).toNat:=by rw[i,g,List.append_assoc];rfl
   refine⟨Z3 Z9,(v.n+1000000000).toNat,⟨⟨Z9,Z6⟩,Z9⟩,⟨by unfold Le;simp,Q5⟩,Z3 Z9,⟨x.1+1,hlt⟩,⟨⟨⟨rfl,?_⟩,⟨rfl,W2 _ _⟩,rfl,X0,Z6⟩,by dsimp only;rw[f,j],Z6⟩,V0.ext_lt hlt⟩
   dsimp only;rw[f,J3,J3,List.length_singleton];rfl
  ·have d:v.k=2:=beq_iff_eq.1 d;have g:A5 v=R4 (IntKind.u8.wrap (v.k+1))::(v.t++[0]):=by
    unfold A5;rw[if_neg Z9,if_neg Z9,d]
    rfl
   have f:Q9 L (x.1+1)=((B++[R4 (IntKind.u8.wrap (v.k+1))])++v.t)++[0]:=by rw[i,g];simp
   have q:List.take (B.length+1+v.t.length) ((B++[R4 (IntKind.u8.wrap (v.k+1))])++v.t)=(B++[R4 (IntKind.u8.wrap (v.k+1))])++v.t:=List.take_of_length_le I0
   refine⟨⟨by unfold Le;simp,Q5⟩,(yV _).2 ⟨W6,W6⟩,⟨U9 _,by rw[j];unfold Le;simp;omega,Q5⟩,Z3 Z9,⟨x.1+1,hlt⟩,⟨⟨⟨rfl,?_⟩,⟨rfl,W2 _ _⟩,rfl,X0,Z6⟩,by dsimp only;rw[f,j,q];rfl,Z6⟩,V0.ext_lt hlt⟩
   dsimp only;rw[f];simp;omega
  ·have l:v.k=0:=by
    rcases e with h|h|h
    ·exact h
    ·rw[h] at hq;cases hq
    ·rw[h] at d;cases d
   have g:A5 v=[R4 (IntKind.u8.wrap (v.k+1))]:=by
    unfold A5;rw[if_pos l,l];rfl
   have f:Q9 L (x.1+1)=B++[R4 (IntKind.u8.wrap (v.k+1))]:=by rw[i,g]
   refine⟨Z3 Z9,⟨x.1+1,hlt⟩,⟨⟨⟨rfl,?_⟩,Z8,rfl,X0,Z6⟩,by dsimp only;rw[f],Z6⟩,V0.ext_lt hlt⟩
   dsimp only;rw[f,J3,List.length_singleton]
 ·have hx:x.1=L.length:=by have:=x.2;have:=X7 hc;omega
  rw[hx];exact⟨K2,eH⟩
def b8r:Con:=.rel ⟨Int×Rw,λx=>[Ji x.1,.agg x.2.ts],λx=>.bys (tS x.1 x.2),λx=>RwK x.2/\1<=x.1/\x.1<=3⟩
theorem b5K:GK 40 b8r:=gk func40<|by
 rintro⟨ta,r⟩ ⟨⟨e,h,l,g⟩,j,f⟩;dsimp only at e h l g j f;refine S2 (gC c0D (gC b6b (gC M8 gN))) func40 Y7 (α:=∃(x:Int),((ta=x/\True)/\True)/\∃(d:Int),((r.id=d/\True)/\True)/\∃(X:(List Val)),(((4=X.length/\Z7 4 (tk 3 [Ji 1,Ji x,T.str [],Ji 1,Ji d,T.str [],Ji r.n.k,Ji r.n.n,T.str r.n.t,Ji r.name.k,Ji r.name.n,T.str r.name.t]) (Q1 X))/\True)/\X.length<=100/\∀(i:Nat),i<X.length->mY (List.getD X i dz))/\Q9 X (X.length)=tS ta r) ⟨ta,Z8,r.id,Z8,[⟨1,ta,[]⟩,⟨1,r.id,[]⟩,r.n,r.name],⟨⟨⟨rfl,λi hi=>?_⟩,Z6⟩,by show 4<=100;omega,λi hi=>?_⟩,rfl⟩
 ·match i,hi with
  |0,_=>rfl
  |1,_=>rfl
  |2,_=>rfl
  |3,_=>rfl
 ·match i,hi with
  |0,_=>exact⟨a8X,.inr (.inl ⟨rfl,by show-1000000000<=ta;omega,by show ta<=_;omega⟩)⟩
  |1,_=>exact⟨a8X,.inr (.inl ⟨rfl,by show-1000000000<=r.id;omega,by show r.id<=_;omega⟩)⟩
  |2,_=>exact e
  |3,_=>exact h
def kM(id:Int):Rw:=⟨id,⟨0,0,[]⟩,⟨0,0,[]⟩⟩
end
end Go.Proofs.YtlbmgnomkjmafaaGreat
