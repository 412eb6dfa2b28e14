/- A part of the proof. -/
import Derived.Test.YtlbmgnomkjmafaaGreatV1e
import Derived.Test.YtlbmgnomkjmafaaGreatU1
namespace Go.Proofs.YtlbmgnomkjmafaaGreat
set_option maxRecDepth 100000
open Go.SS Go.Proofs.Tryz
noncomputable section
def a2z:Con:=.rel ⟨Int×Int,λx=>[Ji x.1,Ji x.2],λx=>.bool (cT x.1 x.2),λ_=>True⟩
theorem a3E(a b:Int)(h:
  (a==b||a==4||b==1)=cT a b):
  V4 prog 281 [Ji a,Ji b] (.bool (cT a b)):=
 S1 gN func281 Y9 h
theorem a1X:GK 281 a2z:=gk func281<|λx _=>a3E x.1 x.2 rfl
def a8f:Con:=.rel ⟨Lks×Lck,λx=>.agg x.1.ts::x.2.ts,λx=>.bool (anyI x.1.H.length (b6 x.1.H x.2)),λx=>M1 x.1.H.length⟩
def a6v(l:Lks)(x:Lck):Nat->Ann
 |0=>.one (U8 l.H.length (b6 l.H x)) (λy=>⟨[(1,Ji x.tx),(2,Ji x.ta),(3,Ji x.row),(4,Ji x.mo),(5,.ref 0 0 0),(11,Ji y.1)],[lkB l]⟩) (λy=>l.H.length-y.1) [.box 0] [.box 0] (λ_=>Y9)
 |_=>.none
theorem a4k:GK 262 a8f:=gk func262<|by
 rintro⟨l,x⟩ (hL:l.H.length<1000000000000);refine S1 (gC a1X gN) func262 (a6v l x) (α:=let q:=(oo ((Z2 Y7 l.H l.H)/\(Z2 Y5 l.W l.W)/\True));(∃(X:U8 l.H.length (b6 l.H x)),(x.tx=x.tx/\x.ta=x.ta/\x.row=x.row/\x.mo=x.mo/\(0=0/\0=0)/\0=(X.val:Int)/\True)/\q/\True)/\∀(X:U8 l.H.length (b6 l.H x)),let r:=(X.val:Int);let p:=(l.H.getD r.toNat dz);bd (r<(l.H.length:Int)) (V7 r l.H.length/\∃(d:(Int×Int)),((p.tx==x.tx&&p.ta==x.ta&&p.row==x.row)=true->(p.mo=d.1/\x.mo=d.2/\True)/\True)/\br (p.tx==x.tx&&p.ta==x.ta&&p.row==x.row&&cT d.1 d.2) (true=anyI l.H.length (b6 l.H x)) (Ri (r+1)/\∃(y:U8 l.H.length (b6 l.H x)),((x.tx=x.tx/\x.ta=x.ta/\x.row=x.row/\x.mo=x.mo/\(0=0/\0=0)/\r+1=(y.1:Int)/\True)/\q/\True)/\Lt (l.H.length-y.1) (l.H.length-X.val))) (false=anyI l.H.length (b6 l.H x))) ⟨⟨F4,Z8⟩,λy=>⟨λC=>?_,λC=>?_⟩⟩
 ·have h:=Y1 C;exact⟨Y3 h,((l.H.getD y.1 dz).mo,x.mo),λ_=>Z8,λhp=>(U3.2 ⟨y.1,h,hp⟩).symm,λhp=>⟨V5 h Z9,y.succ h hp,⟨⟨rfl,rfl,rfl,rfl,Z8,J7,Z6⟩,Z8⟩,U8.ext_lt h⟩⟩
 ·have e:=X6 C;exact(R8.2 λj J=>y.2.2 j (yK J e)).symm
def c4Z:Con:=.rmk ⟨Lks,λl=>[.agg l.ts],λ_=>[],λl=>.agg (l.tm 0),λl=>l.hp,kO⟩
theorem c0W:GK 79 c4Z:=gk func79<|by
 rintro(l:Lks) ⟨h1,h2⟩;exact⟨r5 (gC Q5 (gC Q5 (gC Q5 (gC Q5 (gC Q5 (gC Q5 (gC Q5 (gC Q5 gN)))))))) func79 Y9 [[.arr 2,.arr 3]] (α:=U9 0 l.H.length 32/\U9 0 l.W.length 16/\(((0=0/\l.H.length=l.H.length)/\(0=0/\l.W.length=l.W.length)/\True)/\True)/\(Z2 Y7 l.H l.H)/\(Z2 Y5 l.W l.W)/\True) ⟨R1,R1,Z8⟩,rfl,mE l⟩
def c42:Con:=.reff ⟨Lks×Int,λx=>[.agg (x.1.tm 0),Ji x.2],λx=>x.1.hp,λx=>.agg [.osl 0 0 x.1.H.length,.osl 2 0 (N6 x.1 x.2).W.length],λx=>[tP x.1.H,pZ x.1.W,pZ (N6 x.1 x.2).W],λx=>x.1.W.length<=1000000⟩
def c2N(l:Lks)(tx:Int):Nat->Ann
 |0=>.one (Up l.W.length) (λx=>⟨[(1,Ji tx),(2,.ref 2 0 0),(4,.ref 3 0 0),(5,.osl 4 0 (X5 (cF tx) l.W x.1).length),(6,Ji x.1)],[tP l.H,pZ l.W,some (.arr false 1000000 2 1 λ_=>l.tm 0),lkB ⟨[],[]⟩,pZ (X5 (cF tx) l.W x.1)]⟩) (λx=>l.W.length-x.1) c2H c2H (λ_=>Y9)
 |_=>.none
theorem c00:GK 261 c42:=gk func261<|by
 rintro⟨l,tx⟩ (h1:l.W.length<=1000000);refine r5 gN func261 (c2N l tx) [[.arr 0,.arr 1,.vl 0 [1]]] (α:=let g:=(X5 (cF tx) l.W l.W.length);let f:=(0=0/\l.H.length=l.H.length);let m:=(Z2 Y5 l.W l.W);let k:=(Z2 Y7 l.H l.H);let v:=(0=0/\0=0);let z:=(oo ((0=0/\Z7 0 (Y7 []) (Y7 []))/\(0=0/\Z7 0 (Y5 []) (Y5 []))/\True));let q:=(oo (f/\(0=0/\l.W.length=l.W.length)/\True));(∃(x:Up l.W.length),let w:=(X5 (cF tx) l.W x.1);(tx=tx/\v/\v/\(0=0/\0=w.length)/\0=(x.1:Int)/\True)/\k/\m/\q/\(oo (0=0/\0=0/\True))/\(0=w.length/\Z7 0 (tk 2 []) (Y5 w))/\True)/\∀(x:Up l.W.length),let c:=(l.W.length-x.1);let r:=(x.1:Int);let b:=(0+r.toNat);let u:=(l.W.getD b dz);let p:=(X5 (cF tx) l.W x.1);let n:=p.length;bd (r<(l.W.length:Int)) (V7 r l.W.length/\Lt b l.W.length/\br (u.tx !=tx) (V7 r l.W.length/\Lt b l.W.length/\(Le 1 1/\Le p.length n/\U9 p.length 1 16)/\Ri (r+1)/\∃(y:Up l.W.length),let j:=(X5 (cF tx) l.W y.1);((tx=tx/\v/\v/\(0=0/\n+1=j.length)/\r+1=(y.1:Int)/\True)/\k/\m/\q/\z/\(n+1=j.length/\Z7 (n+1) (X7 (Y5 p) p.length (tk 2 [Ji u.tx,Ji u.fo])) (Y5 j))/\True)/\Lt (l.W.length-y.1) c) (Ri (r+1)/\∃(y:Up l.W.length),let a:=(X5 (cF tx) l.W y.1);((tx=tx/\v/\v/\(0=0/\n=a.length)/\r+1=(y.1:Int)/\True)/\k/\m/\q/\z/\(Z2 Y5 p a)/\True)/\Lt (l.W.length-y.1) c)) (((f/\(0=0/\n=g.length)/\True)/\True)/\k/\m/\(Z2 Y5 p g)/\True)) ⟨⟨⟨0,O3 _⟩,Z8,Z8,Z8,Z8,Z8,⟨rfl,K8⟩,Z6⟩,λx=>⟨λhc=>?_,λhc=>?_⟩⟩
 ·have hlt:=Y1 hc;have hle:=uC (cF tx) l.W x.1;rw[G2,C9];refine⟨Y3 hlt,hlt,λhq=>?_,λhq=>?_⟩
  ·have hn:=jJ (f:=cF tx) hq;refine⟨Y3 hlt,hlt,⟨V8 _,V8 _,R1⟩,Z3 Z9,⟨x.1+1,hlt⟩,⟨⟨rfl,Z8,Z8,⟨rfl,hn⟩,X0,Z6⟩,Z8,Z8,Z8,⟨rfl,rfl,⟨rfl,K8⟩,⟨rfl,K8⟩,Z6⟩,⟨hn,?_⟩,Z6⟩,U8.ext_lt hlt⟩
   dsimp only;rw[aX (f:=cF tx) hq];exact q9 Wt.ts 2 (λ_=>rfl) _ _
  ·have hn:=aB (f:=cF tx) hq;refine⟨Z3 Z9,⟨x.1+1,hlt⟩,?_,U8.ext_lt hlt⟩
   dsimp only;rw[hn];exact⟨⟨rfl,Z8,Z8,Z8,Z9,Z6⟩,Z8,Z8,Z8,⟨rfl,rfl,⟨rfl,K8⟩,⟨rfl,K8⟩,Z6⟩,Z8⟩
 ·have hx:x.1=l.W.length:=by have:=x.2;have:=X6 hc;omega
  rw[hx];exact Z8
def a4Q(W:List Wt)(R:List Int):Nat:=(W.filter λw=> !R.contains w.fo).length
def RnS(W:List Wt)(tx:Int):Type:={x:Nat×Nat×List Int//fI W tx x.1 x.2.1 x.2.2=rnd W tx/\a4Q W x.2.2+x.2.2.length<=x.2.1+x.1/\x.2.1<=x.2.2.length/\x.1+x.2.1=200}
def ScS(W:List Wt)(tx a:Int)(R:List Int):Type:={x:Nat×List Int//x.1<=W.length/\scn W tx a R x.1=some x.2}
def a64:Con:=.rel ⟨Lks×Int,λx=>[.agg x.1.ts,Ji x.2],λx=>.bool (rnd x.1.W x.2),λx=>x.1.W.length<=100⟩
def a79(l:Lks)(tx:Int):Nat->Ann
 |0=>.one (RnS l.W tx) (λx=>⟨[(1,Ji tx),(2,.ref 0 0 0),(5,.osl 1 0 x.1.2.2.length),(6,Ji x.1.2.1)],[lkB l,z6 x.1.2.2]⟩) (λx=>x.1.1) b3H b3H (λx=>fun
  |1=>.one (ScS l.W tx (x.1.2.2.getD x.1.2.1 0) x.1.2.2) (λy=>⟨[(1,Ji tx),(2,.ref 0 0 0),(5,.osl 1 0 y.1.2.length),(6,Ji x.1.2.1),(7,Ji y.1.1)],[lkB l,z6 y.1.2]⟩) (λy=>l.W.length-y.1.1) b3H b3H (λy=>fun
   |2=>.one {j:Nat//j<=y.1.2.length} (λz=>⟨[(1,Ji tx),(2,.ref 0 0 0),(5,.osl 1 0 y.1.2.length),(6,Ji x.1.2.1),(7,Ji y.1.1),(8,.ref 2 0 0),(9,.bool (anyI z.1 (thr y.1.2 (l.W.getD y.1.1 dz).fo))),(10,Ji z.1)],[lkB l,z6 y.1.2,some (.arr true 1000000 2 1 λ_=>(l.W.getD y.1.1 dz).ts)]⟩) (λz=>y.1.2.length-z.1) [.box 0,.at_ 5,.box 2] [.box 0,.at_ 5,.box 2] (λ_=>Y9)
   |_=>.none)
  |_=>.none)
 |_=>.none
theorem b5D{n:Nat}{p:Nat->Bool}:anyI (n+1) p=(anyI n p||p n):=by
 unfold anyI;rw[List.range_succ,List.any_append];simp
theorem a4w{α:Type}{p q:α->Bool}(h:∀b,q b=true->p b=true):∀L:List α,(L.filter q).length<=(L.filter p).length
 | []=>V8 _
 |b::L=>by
  have i:=a4w h L;cases Q:q b with
  |true=>rw[List.filter_cons_of_pos Q,List.filter_cons_of_pos (h b Q)];simp only[List.length_cons];omega
  |false=>
   rw[List.filter_cons_of_neg (by rw[Q];simp)]
   cases hp:p b with
   |true=>rw[List.filter_cons_of_pos hp];simp only[List.length_cons];omega
   |false=>rw[List.filter_cons_of_neg (by rw[hp];simp)];exact i
theorem a3i{α:Type}{p q:α->Bool}(h:∀b,q b=true->p b=true){a:α}(hp:p a=true)(hq:q a=false):∀L:List α,a ∈ L->(L.filter q).length+1<=(L.filter p).length
 |b::L,ha=>by
  have M:=a4w h L;by_cases e:b=a
  ·subst e;rw[List.filter_cons_of_pos hp,List.filter_cons_of_neg (by rw[hq];simp)]
   simp only[List.length_cons];omega
  ·have ih:=a3i h hp hq L ((vT.1 ha).resolve_left λe'=>e e'.symm)
   cases B:q b with
   |true=>rw[List.filter_cons_of_pos B,List.filter_cons_of_pos (h b B)];simp only[List.length_cons];omega
   |false=>
    rw[List.filter_cons_of_neg (by rw[B];simp)]
    cases d:p b with
    |true=>rw[List.filter_cons_of_pos d];simp only[List.length_cons];omega
    |false=>rw[List.filter_cons_of_neg (by rw[d];simp)];exact ih
theorem b8r{Q:List Int}{a:Int}(h:anyI Q.length (thr Q a)=false):a ∉ Q:=λM=>by
 obtain⟨i,hi,e⟩:=List.getElem_of_mem M;have:=R8.1 h i hi;unfold thr at this;rw[R2,J4 hi,e,Option.getD_some] at this
 simp at this
theorem c0M{W:List Wt}{Q:List Int}{k:Nat}(d:k<W.length)(h:anyI Q.length (thr Q (W.getD k dz).fo)=false):a4Q W (Q++[(W.getD k dz).fo])+1<=a4Q W Q:=by
 have M:=b8r h;refine a3i (λb B=>?_) (a:=W.getD k dz) ?_ ?_ W (zH d)
 ·simp only[xV,List.contains_eq_mem,qN,List.mem_append,not_or] at B ⊢;exact B.1
 ·simp only[xV,List.contains_eq_mem,qN];exact M
 ·simp
theorem eP{W:List Wt}{tx a:Int}{R Q:List Int}{k:Nat}(h:scn W tx a R k=some Q):scn W tx a R (k+1)=if(W.getD k dz).tx=a then(if(W.getD k dz).fo=tx then none else if anyI Q.length (thr Q (W.getD k dz).fo)=true then some Q else some (Q++[(W.getD k dz).fo])) else some Q:=by
 conv=>lhs;unfold scn
 rw[h]
theorem mW{W:List Wt}{tx a:Int}{R:List Int}{k:Nat}(h:scn W tx a R k=none):∀d,scn W tx a R (k+d)=none
 |0=>h
 |d+1=>by
  show scn W tx a R ((k+d)+1)=none;conv=>lhs;unfold scn
  rw[mW h d]
theorem a7m{W:List Wt}{tx a:Int}{R:List Int}:∀k Q,k<=W.length->scn W tx a R k=some Q->(∀i,i<R.length->Q.getD i 0=R.getD i 0)/\R.length<=Q.length/\a4Q W Q+Q.length<=a4Q W R+R.length
 |0,Q,_,h=>by
  unfold scn at h;cases h;exact Z8
 |k+1,Q,hk,h=>by
  cases d:scn W tx a R k with
  |none=>have:=mW d 1;rw[this] at h;cases h
  |some Q0=>
   obtain⟨I,f,e⟩:=a7m k Q0 Z9 d
   rw[eP d] at h;split at h
   ·split at h
    ·cases h
    ·split at h
     ·cases h;exact⟨I,f,e⟩
     ·rename_i ha;cases h;have:=c0M (W:=W) (k:=k) Z9 tN
      refine⟨λi hi=>?_,H4,by simp only[K2,List.length_singleton];omega⟩
      rw[←I i hi,R2,uW Z9,←R2]
   ·cases h;exact⟨I,f,e⟩
theorem c2I{W:List Wt}{tx:Int}{f i:Nat}{R:List Int}(hi:i<R.length):fI W tx (f+1) i R=match scn W tx (R.getD i 0) R W.length with|none=>true|some Q=>fI W tx f (i+1) Q:=by
 conv=>lhs;unfold fI
 exact(if_pos hi).trans (by cases scn W tx (R.getD i 0) R W.length<;>rfl)
theorem c2B{W:List Wt}{tx:Int}{f i:Nat}{R:List Int}(hi:¬i<R.length):fI W tx f i R=false:=by
 cases f with
 |zero=>rfl
 |succ f=>unfold fI;rw[if_neg hi]
theorem a3J:GK 263 a64:=gk func263<|by
 rintro⟨l,tx⟩ (h:l.W.length<=100);have W:∀R,a4Q l.W R<=100:=λR=>Nat.le_trans (List.length_filter_le _ _) h
 refine S1 gN func263 (a79 l tx) (α:=let w:=(0=0/\0=0);let q:=(oo ((Z2 Y7 l.H l.H)/\(Z2 Y5 l.W l.W)/\True));(∃(x:RnS l.W tx),let a:=x.1.2;(tx=tx/\w/\(0=0/\1=a.2.length)/\0=(a.1:Int)/\True)/\q/\(1=a.2.length/\Z7 1 (tk 1 [Ji tx]) (Y8 a.2))/\True)/\∀(x:RnS l.W tx),let b:=x.1.2;let z:=(b.1:Int);bd (z<(b.2.length:Int)) ((∃(X:ScS l.W tx (x.1.2.2.getD x.1.2.1 (0:Int)) x.1.2.2),(tx=tx/\w/\(0=0/\b.2.length=X.val.2.length)/\z=z/\0=(X.val.1:Int)/\True)/\q/\(Z2 Y8 b.2 X.val.2)/\True)/\∀(X:ScS l.W tx (x.1.2.2.getD x.1.2.1 (0:Int)) x.1.2.2),let g:=(l.W.length-X.val.1);let f:=(Z2 Y8 X.val.2 X.val.2);let n:=(0=0/\X.val.2.length=X.val.2.length);let u:=(X.val.1:Int);let k:=(l.W.getD u.toNat dz);let r:=(l.W.getD X.val.1 dz);let v:=(thr X.val.2 r.fo);let p:=(Ri (u+1)/\∃(y:ScS l.W tx (x.1.2.2.getD x.1.2.1 (0:Int)) x.1.2.2),((tx=tx/\w/\(0=0/\X.val.2.length=y.1.2.length)/\z=z/\u+1=(y.1.1:Int)/\True)/\q/\(Z2 Y8 X.val.2 y.1.2)/\True)/\Lt (l.W.length-y.1.1) g);bd (u<(l.W.length:Int)) (V7 u l.W.length/\V7 z X.val.2.length/\Lt (0+z.toNat) X.val.2.length/\br (k.tx !=X.val.2.getD (0+z.toNat) (0:Int)) p (br (k.fo==tx) (true=rnd l.W tx) ((∃(d:{j:Nat//j<=X.val.2.length}),(tx=tx/\w/\n/\z=z/\u=u/\w/\false=anyI d.val v/\0=(d.val:Int)/\True)/\q/\f/\(oo (k.tx=r.tx/\k.fo=r.fo/\True))/\True)/\∀(d:{j:Nat//j<=X.val.2.length}),let m:=(d.val:Int);bd (m<(X.val.2.length:Int)) ((anyI d.val v=false->V7 m X.val.2.length)/\(anyI d.val v=false->Lt (0+m.toNat) X.val.2.length)/\Ri (m+1)/\∃(y:{j:Nat//j<=X.val.2.length}),((tx=tx/\w/\n/\z=z/\u=u/\w/\(anyI d.val v||X.val.2.getD (0+m.toNat) (0:Int)==r.fo)=anyI y.1 v/\m+1=(y.1:Int)/\True)/\q/\f/\(oo (r.tx=r.tx/\r.fo=r.fo/\True))/\True)/\Lt (X.val.2.length-y.1) (X.val.2.length-d.val)) (br (!anyI d.val v) ((Le 1 1/\Le X.val.2.length X.val.2.length/\U9 X.val.2.length 1 8)/\Ri (u+1)/\∃(y:ScS l.W tx (x.1.2.2.getD x.1.2.1 (0:Int)) x.1.2.2),((tx=tx/\w/\(0=0/\X.val.2.length+1=y.1.2.length)/\z=z/\u+1=(y.1.1:Int)/\True)/\q/\(X.val.2.length+1=y.1.2.length/\Z7 (X.val.2.length+1) (X7 (Y8 X.val.2) X.val.2.length (tk 1 [Ji r.fo])) (Y8 y.1.2))/\True)/\Lt (l.W.length-y.1.1) g) p)))) (Ri (z+1)/\∃(y:RnS l.W tx),((tx=tx/\w/\(0=0/\X.val.2.length=y.1.2.2.length)/\z+1=(y.1.2.1:Int)/\True)/\q/\(Z2 Y8 X.val.2 y.1.2.2)/\True)/\Lt y.1.1 x.1.1)) (false=rnd l.W tx)) ⟨⟨⟨(200,0,[tx]),rfl,by have:=W [tx];dsimp only[List.length_singleton];omega,O3 _,rfl⟩,⟨rfl,⟨rfl,rfl⟩,⟨rfl,rfl⟩,rfl,Z6⟩,⟨rfl,rfl,⟨rfl,W2 _ _⟩,⟨rfl,W2 _ _⟩,Z6⟩,⟨rfl,λj J=>by(obtain rfl:j=0:=by omega);rfl⟩,Z6⟩,λx=>?_⟩
 obtain⟨⟨f,i,R⟩,e,M,hi,q⟩:=x;dsimp only at e M hi q ⊢;have u:=W R;refine⟨λhc=>?_,λhc=>?_⟩
 ·have hlt:=Y1 hc;obtain⟨g,rfl⟩:∃g,f=g+1:=⟨f-1,Z9⟩
  rw[c2I hlt] at e;refine⟨⟨⟨(0,R),Z8⟩,Z8⟩,λy=>?_⟩
  obtain⟨⟨k,Q⟩,n,hs⟩:=y;dsimp only at n hs ⊢;obtain⟨r,v,A⟩:=a7m k Q n hs;have e1:=r i hlt;rw[G2 k,G2 i,C9];refine⟨λhc2=>?_,λhc2=>?_⟩
  ·have hkt:=Y1 hc2;have hss:=eP hs;refine⟨Y3 hkt,Y3 Z9,H9,λhq=>?_,λhq=>⟨λhb=>?_,λhb=>⟨⟨⟨0,O3 _⟩,Z8⟩,λz=>?_⟩⟩⟩
   ·rw[e1] at hq;rw[if_neg (by simpa using hq)] at hss
    exact⟨Z3 Z9,⟨(k+1,Q),hkt,hss⟩,⟨⟨rfl,Z8,Z8,rfl,X0,Z6⟩,Z8⟩,D9⟩
   ·rw[e1] at hq;rw[if_pos (by simpa using hq),if_pos kA] at hss
    have:=mW hss (l.W.length- (k+1));rw[show k+1+(l.W.length- (k+1))=l.W.length by omega] at this
    rw[this] at e;exact e
   ·rw[e1] at hq;rw[if_pos (by simpa using hq),if_neg kA] at hss
    obtain⟨j,J⟩:=z;dsimp only at J ⊢;rw[G2,C9];refine⟨λhc3=>?_,λhc3=>?_⟩
    ·have t:=Y1 hc3;exact⟨λ_=>Y3 t,λ_=>t,Z3 Z9,⟨j+1,t⟩,⟨⟨rfl,Z8,Z8,rfl,rfl,Z8,b5D.symm,X0,Z6⟩,Z8⟩,D9⟩
    ·obtain rfl:j=Q.length:=by have:=X6 hc3;omega
     refine⟨λha=>?_,λha=>?_⟩
     ·have ha:anyI Q.length (thr Q (l.W.getD k dz).fo)=false:=by simpa using ha
      rw[if_neg (by rw[ha];simp)] at hss
      refine⟨⟨V8 _,V8 _,R1⟩,Z3 Z9,⟨(k+1,Q++[(l.W.getD k dz).fo]),hkt,hss⟩,⟨⟨rfl,Z8,⟨rfl,W8⟩,rfl,X0,Z6⟩,Z8,⟨W8,?_⟩,Z6⟩,D9⟩
      exact q9 (λa=>[Ji a]) 1 (λ_=>rfl) Q _
     ·have ha:anyI Q.length (thr Q (l.W.getD k dz).fo)=true:=by simpa using ha
      rw[if_pos ha] at hss;exact⟨Z3 Z9,⟨(k+1,Q),hkt,hss⟩,⟨⟨rfl,Z8,Z8,rfl,X0,Z6⟩,Z8⟩,D9⟩
  ·obtain rfl:k=l.W.length:=by have:=X6 hc2;omega
   rw[hs] at e;exact⟨Z3 Z9,⟨(g,i+1,Q),e,X0,X0,X0⟩,⟨⟨rfl,Z8,Z8,X0,Z6⟩,Z8⟩,D9⟩
 ·have o:=X6 hc;rw[←e];exact(c2B Z9).symm
def b2O(l:Lks)(x:Lck):Nat->Ann
 |0=>.one (Up l.H.length) (λi=>⟨[(1,Ji x.tx),(2,Ji x.ta),(3,Ji x.row),(4,Ji x.mo),(5,.ref 0 0 0),(10,.ref 1 0 0),(11,Ji 0),(12,.ref 2 0 0),(13,.osl 5 0 (V3 l.H x i.1).length),(14,Ji i.1)],[lkB l,lkB ⟨[],[]⟩,lkO 3 l.H.length 4 (N6 l x.tx).W.length,tP l.H,pZ (N6 l x.tx).W,pZ (V3 l.H x i.1)]⟩) (λi=>l.H.length-i.1) [.box 0,.box 1,.box 5,.cel 5 0,.cel 5 1,.at_ 13] [.box 0,.box 1,.box 2,.cel 2 0,.cel 2 1,.at_ 13] (λi=>fun
  |1=>.one {j:Nat//j<=(V3 l.H x i.1).length} (λj=>⟨[(1,Ji x.tx),(2,Ji x.ta),(3,Ji x.row),(4,Ji x.mo),(5,.ref 0 0 0),(10,.ref 1 0 0),(11,Ji 0),(12,.ref 2 0 0),(13,.osl 5 0 (V3 l.H x i.1).length),(14,Ji i.1),(15,.ref 6 0 0),(16,.ref 7 0 0),(17,.bool (anyI j.1 (dW (V3 l.H x i.1) ⟨x.tx,(l.H.getD i.1 dz).tx⟩))),(18,Ji j.1)],[lkB l,lkB ⟨[],[]⟩,lkO 3 l.H.length 4 (N6 l x.tx).W.length,tP l.H,pZ (N6 l x.tx).W,pZ (V3 l.H x i.1),some (.arr true 1000000 4 1 λ_=>(l.H.getD i.1 dz).ts),some (.arr true 1000000 2 1 λ_=>[Ji x.tx,Ji (l.H.getD i.1 dz).tx])]⟩) (λj=>(V3 l.H x i.1).length-j.1) c1X c1X (λ_=>Y9)
  |_=>.none)
 |_=>.none
def b2s:Con:=.rel ⟨Lks×Lck,λx=>.agg x.1.ts::x.2.ts,λx=>.tup [.agg (X4 x.1 x.2).1.ts,Ji (X4 x.1 x.2).2],λx=>x.1.H.length<=60/\x.1.W.length<=100⟩
theorem c2e{L:List Lck}{x:Lck}{i:Nat}:V3 L x (i+1)=if clash (L.getD i dz) x=true then(if anyI (V3 L x i).length (dW (V3 L x i) ⟨x.tx,(L.getD i dz).tx⟩)=true then V3 L x i else V3 L x i++[⟨x.tx,(L.getD i dz).tx⟩]) else V3 L x i:=rfl
theorem c17(a b:Lck):((a.tx !=b.tx)&&(a.ta==b.ta)&&(a.row==b.row)&& !sW a.mo b.mo)=clash a b:=by
 unfold clash tM;rw[Bool.and_assoc (a.tx !=b.tx)]
theorem a5z(L M:List Wt):Z7 (L.length+M.length) (X7 (Y5 L) L.length (Y5 M)) (Y5 (L++M)):=by
 intro i hi;unfold X7 Y5;by_cases h:i<L.length
 ·rw[tL h];dsimp only;rw[R2,R2,uW h]
 ·rw[qH h];dsimp only;rw[R2,R2,tG Z9]
theorem a6n:GK 213 b2s:=gk func213<|by
 rintro⟨l,x⟩ ⟨v,u⟩;dsimp only at v u;have C:(X5 (cF x.tx) l.W l.W.length).length<=l.W.length:=uC (cF x.tx) l.W l.W.length;have r:=λn=>a6K (L:=l.H) (x:=x) n
 refine S1 (gC c0W (gC c00 (gC a4k (gC aQ (gC a3J gN))))) func213 (b2O l x) (α:=let pq:=(l.H.length+1);let pk:=(X4 l x).1.W;let pj:=(X4 l x).1.H;let ph:=(X4 l x).2;let pd:=(Z2 Y7 l.H l.H);let c:=(0=0/\0=0);let n:=(oo (pd/\(Z2 Y5 l.W l.W)/\True));let k:=(oo ((0=0/\Z7 0 (Y7 []) (Y7 []))/\(0=0/\Z7 0 (Y5 []) (Y5 []))/\True));let p:=(X5 (cF x.tx) l.W l.W.length);let pp:=(Z2 Y5 p p);let pg:=p.length;let t:=((Z2 Y7 l.H pj)/\(Z2 Y5 p pk)/\True);let a:=(Le (0+l.H.length) l.H.length/\Le (0+pg) pg);let m:=(oo ((0=0/\l.H.length=l.H.length)/\(0=0/\pg=pg)/\True));∃(q:Lks),((((Z2 Y7 l.H q.H)/\(Z2 Y5 l.W q.W)/\True)/\True)/\kO q)/\∃(d:(Lks×Int)),let pt:=d.1.W.length;let pm:=d.1.H.length;let w:=(X5 (cF d.2) d.1.W pt);let pc:=(Le (0+pm) pm/\Le (0+w.length) w.length);((((0=0/\q.H.length=pm)/\(0=0/\q.W.length=pt)/\True)/\x.tx=d.2/\True)/\((Z2 Y7 q.H d.1.H)/\(Z2 Y5 q.W d.1.W)/\True)/\pt<=1000000)/\∃(h:(Lks×Lck)),(pc/\(((Z2 Y7 d.1.H h.1.H)/\(Z2 Y5 w h.1.W)/\True)/\x.tx=h.2.tx/\x.ta=h.2.ta/\x.row=h.2.row/\x.mo=h.2.mo/\True)/\M1 h.1.H.length)/\br (anyI h.1.H.length (b6 h.1.H h.2)) (pc/\((Z2 Y7 d.1.H pj)/\(Z2 Y5 w pk)/\True)/\0=ph/\True) ((∃(X:Up l.H.length),let pn:=(V3 l.H x X.val);(x.tx=x.tx/\x.ta=x.ta/\x.row=x.row/\x.mo=x.mo/\c/\c/\(0:Int)=0/\c/\(0=0/\0=pn.length)/\0=(X.val:Int)/\True)/\n/\(oo (0=0/\0=0/\True))/\(oo ((0=0/\pm=l.H.length)/\(0=0/\w.length=pg)/\True))/\(Z2 Y7 d.1.H l.H)/\(Z2 Y5 w p)/\(0=pn.length/\Z7 0 (tk 2 []) (Y5 pn))/\True)/\∀(X:Up l.H.length),let pa:=(X.val:Int);let v:=(l.H.getD (0+pa.toNat) dz);let u:=(l.H.getD X.val dz);let r:=(V3 l.H x X.val);let i:=(dW r (Wt.mk x.tx u.tx));let b:=r.length;let pr:=(↑b:Int);let z:=(Ri (pa+1)/\∃(y:Up l.H.length),((x.tx=x.tx/\x.ta=x.ta/\x.row=x.row/\x.mo=x.mo/\c/\c/\(0:Int)=0/\c/\(0=0/\b=(V3 l.H x y.1).length)/\pa+1=(y.1:Int)/\True)/\n/\k/\m/\pd/\pp/\(Z2 Y5 r (V3 l.H x y.1))/\True)/\Lt (l.H.length-y.1) (l.H.length-X.val));bd (pa<(l.H.length:Int)) (V7 pa l.H.length/\Lt (0+pa.toNat) l.H.length/\∃(f:(Int×Int)),((v.tx !=x.tx&&v.ta==x.ta&&v.row==x.row)=true->(v.mo=f.1/\x.mo=f.2/\True)/\True)/\br (v.tx !=x.tx&&v.ta==x.ta&&v.row==x.row&& !sW f.1 f.2) ((∃(g:{j:Nat//j<=(V3 l.H x X.val).length}),(x.tx=x.tx/\x.ta=x.ta/\x.row=x.row/\x.mo=x.mo/\c/\c/\(0:Int)=0/\c/\(0=0/\b=b)/\pa=pa/\c/\c/\false=anyI g.val i/\0=(g.val:Int)/\True)/\n/\k/\m/\pd/\pp/\(Z2 Y5 r r)/\(oo (v.tx=u.tx/\v.ta=u.ta/\v.row=u.row/\v.mo=u.mo/\True))/\(oo (x.tx=x.tx/\v.tx=u.tx/\True))/\True)/\∀(g:{j:Nat//j<=(V3 l.H x X.val).length}),let pe:=(g.val:Int);let ps:=(r.getD (0+pe.toNat) dz);bd (pe<pr) ((anyI g.val i=false->V7 pe b)/\(anyI g.val i=false->Lt (0+pe.toNat) b)/\Ri (pe+1)/\∃(y:{j:Nat//j<=(V3 l.H x X.val).length}),((x.tx=x.tx/\x.ta=x.ta/\x.row=x.row/\x.mo=x.mo/\c/\c/\(0:Int)=0/\c/\(0=0/\b=b)/\pa=pa/\c/\c/\(anyI g.val i||ps.tx==x.tx&&(ps.fo==u.tx&&true))=anyI y.1 i/\pe+1=(y.1:Int)/\True)/\n/\k/\m/\pd/\pp/\(Z2 Y5 r r)/\(oo (u.tx=u.tx/\u.ta=u.ta/\u.row=u.row/\u.mo=u.mo/\True))/\(oo (x.tx=x.tx/\u.tx=u.tx/\True))/\True)/\Lt (b-y.1) (b-g.val)) (br (!anyI g.val i) ((Le 1 1/\Le r.length b/\U9 r.length 1 16)/\Ri (pa+1)/\∃(y:Up l.H.length),let po:=(V3 l.H x y.1);((x.tx=x.tx/\x.ta=x.ta/\x.row=x.row/\x.mo=x.mo/\c/\c/\(0:Int)=0/\c/\(0=0/\b+1=po.length)/\pa+1=(y.1:Int)/\True)/\n/\k/\m/\pd/\pp/\(b+1=po.length/\Z7 (b+1) (X7 (Y5 r) r.length (tk 2 [Ji x.tx,Ji u.tx])) (Y5 po))/\True)/\Lt (l.H.length-y.1) (l.H.length-X.val)) z)) z) (br (pr==0) (br ((l.H.length:Int)==60) (a/\t/\7=ph/\True) ((Le 1 1/\Le l.H.length l.H.length/\U9 l.H.length 1 32)/\(Le (0+pq) pq/\Le (0+pg) pg)/\((l.H.length+1=(X4 l x).1.H.length/\Z7 pq (X7 (Y7 l.H) l.H.length (tk 4 [Ji x.tx,Ji x.ta,Ji x.row,Ji x.mo])) (Y7 pj))/\(Z2 Y5 p pk)/\True)/\0=ph/\True)) (Ri ((↑pg:Int)+pr)/\bd ((↑pg:Int)+pr>100) (a/\t/\7=ph/\True) (∃(f:Lks),let pi:=(X7 (Y5 f.W) f.W.length (Y5 r));let pf:=f.W.length;let pb:=(Le (0+f.H.length) f.H.length/\Le (0+(pf+b)) (pf+b));(a/\(((Z2 Y7 l.H f.H)/\(Z2 Y5 p f.W)/\True)/\True)/\kO f)/\(Le (0+b) b/\Le f.W.length pf/\U9 f.W.length r.length 16)/\∃(g:(Lks×Int)),(pb/\(((Z2 Y7 f.H g.1.H)/\(pf+b=g.1.W.length/\Z7 (pf+b) pi (Y5 g.1.W))/\True)/\x.tx=g.2/\True)/\g.1.W.length<=100)/\br (rnd g.1.W g.2) (a/\t/\14=ph/\True) (pb/\((Z2 Y7 f.H pj)/\(pf+b=(X4 l x).1.W.length/\Z7 (pf+b) pi (Y5 pk))/\True)/\13=ph/\True)))))) ⟨l,⟨Z8,Z9,Z9⟩,(l,x.tx),⟨Z8,Z8,X0⟩,(N6 l x.tx,x),⟨⟨L6,L6⟩,Z8,by unfold M1 N6;dsimp only;omega⟩,λhh=>?_,λhh=>⟨⟨⟨0,O3 _⟩,Z8,Z8,Z8,Z8,Z8,Z8,⟨rfl,K8⟩,Z6⟩,λy=>?_⟩⟩
 ·have hh:anyI l.H.length (b6 l.H x)=true:=hh;have e:X4 l x=(N6 l x.tx,0):=by unfold X4;rw[if_pos hh]
  rw[e];exact⟨⟨L6,L6⟩,Z8⟩
 have hh:¬anyI l.H.length (b6 l.H x)=true:=by
  have hh:anyI l.H.length (b6 l.H x)=false:=hh;rw[hh];simp
 obtain⟨i,hi⟩:=y;dsimp only at hi ⊢;have I:=r i;rw[G2,C9];refine⟨λhc=>?_,λhc=>?_⟩
 ·have hlt:=Y1 hc;have hw1:=c2e (L:=l.H) (x:=x) (i:=i);refine⟨Y3 hlt,hlt,((l.H.getD i dz).mo,x.mo),λ_=>Z8,λhq=>⟨⟨⟨0,O3 _⟩,Z8,Z8,⟨rfl,rfl,⟨rfl,K8⟩,⟨rfl,K8⟩,Z6⟩,Z8⟩,λz=>?_⟩,λhq=>?_⟩
  ·rw[if_pos ((c17 _ x).symm.trans hq)] at hw1;obtain⟨j,hj⟩:=z;dsimp only at hj ⊢;rw[G2,C9];refine⟨λhc2=>?_,λhc2=>?_⟩
   ·have t:=Y1 hc2;exact⟨λ_=>Y3 t,λ_=>t,Z3 Z9,⟨j+1,t⟩,⟨⟨rfl,rfl,rfl,rfl,Z8,Z8,rfl,Z8,Z8,rfl,Z8,Z8,b5D.symm,X0,Z6⟩,Z8,⟨rfl,rfl,⟨rfl,K8⟩,⟨rfl,K8⟩,Z6⟩,Z8⟩,D9⟩
   ·obtain rfl:j=(V3 l.H x i).length:=by have:=X6 hc2;omega
    refine⟨λha=>?_,λha=>?_⟩
    ·rw[if_neg tN] at hw1
     have N:(V3 l.H x i).length+1=(V3 l.H x (i+1)).length:=by rw[hw1];simp
     refine⟨⟨V8 _,V8 _,R1⟩,Z3 Z9,⟨i+1,hlt⟩,⟨⟨rfl,rfl,rfl,rfl,Z8,Z8,rfl,Z8,⟨rfl,N⟩,X0,Z6⟩,Z8,⟨rfl,rfl,⟨rfl,K8⟩,⟨rfl,K8⟩,Z6⟩,Z8,Z8,Z8,⟨N,?_⟩,Z6⟩,D9⟩
     dsimp only;rw[hw1];exact q9 Wt.ts 2 (λ_=>rfl) (V3 l.H x i) ⟨x.tx,(l.H.getD i dz).tx⟩
    ·rw[if_pos tN] at hw1
     refine⟨Z3 Z9,⟨i+1,hlt⟩,?_,D9⟩
     dsimp only;rw[hw1];exact⟨⟨rfl,rfl,rfl,rfl,Z8,Z8,rfl,Z8,Z8,Z9,Z6⟩,Z8,⟨rfl,rfl,⟨rfl,K8⟩,⟨rfl,K8⟩,Z6⟩,Z8⟩
  ·rw[if_neg (by rw[←c17,hq];simp)] at hw1
   refine⟨Z3 Z9,⟨i+1,hlt⟩,?_,D9⟩
   dsimp only;rw[hw1];exact⟨⟨rfl,rfl,rfl,rfl,Z8,Z8,rfl,Z8,Z8,Z9,Z6⟩,Z8,⟨rfl,rfl,⟨rfl,K8⟩,⟨rfl,K8⟩,Z6⟩,Z8⟩
 ·obtain rfl:i=l.H.length:=by have:=X6 hc;omega
  refine⟨λh0=>⟨λo=>?_,λo=>?_⟩,λh0=>⟨Z3 Z9,λB=>?_,λB=>?_⟩⟩
  ·have h0:(I9 l x).length=0:=by have:=beq_iff_eq.1 h0;unfold I9;omega
   have o:l.H.length=60:=by have:=beq_iff_eq.1 o;omega
   have e:X4 l x=(N6 l x.tx,7):=by unfold X4;rw[if_neg hh,if_pos h0,if_pos o]
   rw[e];exact⟨⟨L6,L6⟩,Z8⟩
  ·have h0:(I9 l x).length=0:=by have:=beq_iff_eq.1 h0;unfold I9;omega
   have o:¬l.H.length=60:=λe=>by rw[e] at o;cases o
   have e:X4 l x=(⟨l.H++[x],(N6 l x.tx).W⟩,0):=by unfold X4;rw[if_neg hh,if_pos h0,if_neg o]
   rw[e];exact⟨⟨V8 _,V8 _,R1⟩,⟨L6,L6⟩,⟨⟨W8,q9 Lck.ts 4 (λ_=>rfl) _ x⟩,Z8⟩,Z8⟩
  ·have h0:¬ (I9 l x).length=0:=λe=>by
    have e:(V3 l.H x l.H.length).length=0:=e;rw[e] at h0;cases h0
   have B:(N6 l x.tx).W.length+(I9 l x).length>100:=by have:=E4 B;unfold I9 N6;dsimp only;omega
   have e:X4 l x=(N6 l x.tx,7):=by unfold X4;rw[if_neg hh,if_neg h0,if_pos B]
   rw[e];exact⟨⟨L6,L6⟩,Z8⟩
  ·have h0:¬ (I9 l x).length=0:=λe=>by
    have e:(V3 l.H x l.H.length).length=0:=e;rw[e] at h0;cases h0
   have B:(X5 (cF x.tx) l.W l.W.length).length+(V3 l.H x l.H.length).length<=100:=by have:=s6 B;omega
   have hb':¬ (N6 l x.tx).W.length+(I9 l x).length>100:=by unfold I9 N6;dsimp only;omega
   have A:(X5 (cF x.tx) l.W l.W.length).length+(V3 l.H x l.H.length).length=((N6 l x.tx).W++I9 l x).length:=by unfold I9 N6;simp
   refine⟨N6 l x.tx,⟨⟨L6,L6⟩,Z8,by show l.H.length<=_;omega,by show(X5 (cF x.tx) l.W l.W.length).length<=_;omega⟩,⟨L6,V8 _,by show U9 (X5 (cF x.tx) l.W l.W.length).length _ _;unfold U9;omega⟩,(⟨l.H,(N6 l x.tx).W++I9 l x⟩,x.tx),⟨⟨L6,L6⟩,⟨⟨⟨rfl,W2 _ _⟩,⟨A,a5z _ _⟩,Z6⟩,rfl,Z6⟩,X0⟩,λhr=>?_,λhr=>?_⟩
   ·have hr:rnd ((N6 l x.tx).W++I9 l x) x.tx=true:=hr;have e:X4 l x=(N6 l x.tx,14):=by unfold X4;rw[if_neg hh,if_neg h0,if_neg hb',if_pos hr]
    rw[e];exact⟨⟨L6,L6⟩,Z8⟩
   ·have hr:¬rnd ((N6 l x.tx).W++I9 l x) x.tx=true:=by
     have hr:rnd ((N6 l x.tx).W++I9 l x) x.tx=false:=hr;rw[hr];simp
    have e:X4 l x=(⟨l.H,(N6 l x.tx).W++I9 l x⟩,13):=by unfold X4;rw[if_neg hh,if_neg h0,if_neg hb',if_neg hr]
    rw[e];exact⟨⟨L6,L6⟩,⟨Z8,⟨A,a5z _ _⟩,Z6⟩,Z8⟩
def Q3(L:List Val):Nat->Bz
 |0=>[]
 |i+1=>Q3 L i++H7 (L.getD i dz)
def mC(v:Val):Prop:=v.t.length<=100/\(v.k=0∨(v.k=1/\ -1000000000<=v.n/\v.n<=1000000000)∨v.k=2)
def RwK(r:Rw):Prop:=mC r.n/\mC r.name/\0<=r.id/\r.id<=1000
def b5m:Con:=.rel ⟨Val,λv=>[.agg v.ts],λv=>.bys (H7 v),mC⟩
theorem b1e:GK 149 b5m:=gk func149<|by
 rintro(v:Val) ⟨ht,hk⟩;have u8:∀n:Int,0<=n->n<=255->O7 IntKind.u8 n:=λn a b=>(sX n).2 ⟨a,b⟩
 refine S1 (gC uE gN) func149 Y9 (α:=br (v.k==0) (O7 IntKind.u8 (1:Int)/\Le 1 1/\List.take 1 (List.drop 0 (List.map Q8 [(1:Int)]))=H7 v) (br (v.k==1) (O7 IntKind.u8 (2:Int)/\Ri (v.n+1000000000)/\∃(x:oE.ι),((v.n+1000000000=(x.1:Int)/\(4=match x.2 with|true=>(4:Int)|false=>(2:Int))/\True)/\True)/\(Le 1 1/\U9 1 (match x.2 with|true=>F8 x.1|false=>zQ x.1).length 1)/\Le (0+(1+(match x.2 with|true=>F8 x.1|false=>zQ x.1).length)) (List.take 1 (List.map Q8 [(2:Int)])++match x.2 with|true=>F8 x.1|false=>zQ x.1).length/\List.take (1+(match x.2 with|true=>F8 x.1|false=>zQ x.1).length) (List.drop 0 (List.take 1 (List.map Q8 [(2:Int)])++match x.2 with|true=>F8 x.1|false=>zQ x.1))=H7 v) (O7 IntKind.u8 (3:Int)/\(Le 1 1/\U9 1 v.t.length 1)/\O7 IntKind.u8 (0:Int)/\(Le 1 1/\Le (1+v.t.length) (List.take 1 (List.map Q8 [(3:Int)])++v.t).length/\U9 (1+v.t.length) 1 1)/\Le (0+(1+v.t.length+1)) (List.take (1+v.t.length) (List.take 1 (List.map Q8 [(3:Int)])++v.t)++List.take 1 (List.drop 0 (List.map Q8 [(0:Int)]))).length/\List.take (1+v.t.length+1) (List.drop 0 (List.take (1+v.t.length) (List.take 1 (List.map Q8 [(3:Int)])++v.t)++List.take 1 (List.drop 0 (List.map Q8 [(0:Int)]))))=H7 v))) ⟨λh0=>?_,λh0=>⟨λh1=>?_,λh1=>?_⟩⟩
 ·have h0:v.k=0:=beq_iff_eq.1 h0;unfold H7;rw[if_pos h0];exact⟨u8 _ X1 X1,Z8⟩
 ·have h1:v.k=1:=beq_iff_eq.1 h1;have hn:=(hk.resolve_left Z9).resolve_right Z9
  unfold H7;rw[if_neg Z9,if_pos h1]
  exact⟨u8 _ X1 X1,Z3 Z9,((v.n+1000000000).toNat,true),⟨⟨X0,Z8⟩,Z6⟩,⟨V8 _,by show U9 1 4 1;unfold U9;omega⟩,V8 _,rfl⟩
 ·have h0:¬v.k=0:=λe=>by rw[e] at h0;cases h0
  have h1:¬v.k=1:=λe=>by rw[e] at h1;cases h1
  have d:List.take (1+v.t.length) (List.take 1 (List.map Q8 [(3:Int)])++v.t)=3::v.t:=List.take_of_length_le (by show(3::v.t).length<=_;simp only[List.length_cons];omega)
  unfold H7;rw[if_neg h0,if_neg h1,d];refine⟨u8 _ X1 X1,⟨V8 _,R1⟩,u8 _ X1 X1,⟨V8 _,by show 1+v.t.length<=(3::v.t).length;simp only[List.length_cons];omega,R1⟩,by show 0+(1+v.t.length+1)<=(3::v.t++[0]).length;simp only[K2,List.length_cons,List.length_nil];omega,?_⟩
  exact List.take_of_length_le (by show(3::v.t++[0]).length<=_;simp only[K2,List.length_cons,List.length_nil];omega)
def b0H:Con:=.rel ⟨List Val,λL=>[b3c L],λL=>.bys (Q3 L L.length),λL=>L.length<=100/\∀i,i<L.length->mC (L.getD i dz)⟩
def b0B(L:List Val):Nat->Ann
 |0=>.one (Up L.length) (λx=>⟨[(0,b3c L),(3,.osl 0 0 (Q3 L x.1).length),(4,Ji x.1)],[some (.bys 5 (Q3 L x.1))]⟩) (λx=>L.length-x.1) [.at_ 3] [.at_ 3] (λ_=>Y9)
 |_=>.none
theorem iD{v:Val}(h:mC v):(H7 v).length<=102:=by
 unfold H7;split
 ·exact zP rfl
 ·split
  ·exact zP rfl
  ·have:=h.1;simp only[List.length_cons,K2,List.length_nil];omega
theorem fM{L:List Val}(h:∀i,i<L.length->mC (L.getD i dz)):∀i,i<=L.length->(Q3 L i).length<=102*i
 |0,_=>V8 _
 |i+1,hi=>by
  have d:=fM h i Z9
  have e:=iD (h i Z9)
  simp only[Q3,K2];omega
theorem a6L:GK 85 b0H:=gk func85<|by
 rintro(L:List Val) ⟨hL,hk⟩;refine S1 (gC b1e gN) func85 (b0B L) (α:=(∃(x:Up L.length),((Z2 O9 L L)/\(0=0/\0=(Q3 L x.1).length)/\0=(x.1:Int)/\True)/\List.map Q8 []=Q3 L x.1/\True)/\∀(x:Up L.length),let z:=(Q3 L x.1);let q:=(x.1:Int);let r:=(L.getD q.toNat dz);let p:=z.length;bd (q<(L.length:Int)) (V7 q L.length/\∃(X:Val),(((r.k=X.k/\r.n=X.n/\r.t=X.t/\True)/\True)/\mC X)/\(Le p p/\U9 p (H7 X).length 1)/\Ri (q+1)/\∃(y:Up L.length),(((Z2 O9 L L)/\(0=0/\p+(H7 X).length=(Q3 L y.1).length)/\q+1=(y.1:Int)/\True)/\List.take p z++H7 X=Q3 L y.1/\True)/\Lt (L.length-y.1) (L.length-x.1)) (Le (0+p) p/\List.take p (List.drop 0 z)=Q3 L L.length)) ⟨⟨⟨0,O3 _⟩,Z8⟩,λx=>⟨λhc=>?_,λhc=>?_⟩⟩
 ·have hlt:=Y1 hc;have h1:=fM hk x.1 Z9
  have h:=iD (hk x.1 hlt);exact⟨Y3 hlt,L.getD x.1 dz,⟨Z8,hk x.1 hlt⟩,⟨V8 _,R1⟩,Z3 Z9,⟨x.1+1,hlt⟩,⟨⟨Z8,⟨rfl,by simp only[Q3,K2]⟩,X0,Z6⟩,by rw[cH];rfl,Z6⟩,U8.ext_lt hlt⟩
 ·have hx:x.1=L.length:=by have:=x.2;have:=X6 hc;omega
  rw[hx];exact⟨L6,dR⟩
def a7J:Con:=.rel ⟨Int×Rw,λx=>[Ji x.1,.agg x.2.ts],λx=>.str (E6 x.1 x.2),λx=>RwK x.2/\1<=x.1/\x.1<=3⟩
theorem kV:GK 41 a7J:=gk func41<|by
 rintro⟨ta,r⟩ ⟨⟨d,h,j,f⟩,g,e⟩;dsimp only at d h j f g e;refine S1 (gC a6L (gC Q5 gN)) func41 Y9 (α:=∃(x:(List Val)),let p:=x.length;(((4=p/\Z7 4 (tk 3 [Ji 1,Ji ta,T.str [],Ji 1,Ji r.id,T.str [],Ji r.n.k,Ji r.n.n,T.str r.n.t,Ji r.name.k,Ji r.name.n,T.str r.name.t]) (O9 x))/\True)/\p<=100/\∀(i:Nat),i<p->mC (List.getD x i dz))/\Q3 x (p)=E6 ta r) ⟨[⟨1,ta,[]⟩,⟨1,r.id,[]⟩,r.n,r.name],⟨⟨⟨rfl,λi hi=>?_⟩,Z6⟩,by show 4<=100;omega,λi hi=>?_⟩,rfl⟩
 ·match i,hi with
  |0,_=>rfl
  |1,_=>rfl
  |2,_=>rfl
  |3,_=>rfl
 ·match i,hi with
  |0,_=>exact⟨a8T,.inr (.inl ⟨rfl,by show-1000000000<=ta;omega,by show ta<=_;omega⟩)⟩
  |1,_=>exact⟨a8T,.inr (.inl ⟨rfl,by show-1000000000<=r.id;omega,by show r.id<=_;omega⟩)⟩
  |2,_=>exact d
  |3,_=>exact h
theorem EI.u{e:Eng}(h:EI e){k:Nat}(d:k<e.X.length):UI e k (e.X.getD k dz).id (e.X.getD k dz).Z:=c6z h.ok h.sm h.up (h.h.at_ d) d rfl
def KpS(e:Eng)(g s:Int)(i:Nat):Type:={x:Nat×Int//kepA e.s.L g s x.1 x.2=kepA e.s.L g s 61 (e.X.getD i dz).Z/\x.2.toNat<x.1/\x.2<=(e.s.L.length:Int)}
def b2f:Con:=.rel ⟨Eng×Int×Int×Int,λx=>[.agg x.1.ts,Ji x.2.1,Ji x.2.2.1,Ji x.2.2.2],λx=>.bool (uT x.1 x.2.1 x.2.2.1 x.2.2.2),λx=>yH x.1⟩
def b2V(e:Eng)(tx g s:Int):Nat->Ann
 |0=>.one (U8 e.X.length (sL e tx g s)) (λx=>⟨[(1,Ji tx),(2,Ji g),(3,Ji s),(4,.ref 0 0 0),(9,Ji x.1)],[G9 e]⟩) (λx=>e.X.length-x.1) [.box 0] [.box 0] (λx=>fun
  |1=>.one (KpS e g s x.1) (λy=>⟨[(1,Ji tx),(2,Ji g),(3,Ji s),(4,.ref 0 0 0),(9,Ji x.1),(10,Ji y.1.2)],[G9 e]⟩) (λy=>y.1.1) [.box 0] [.box 0] (λ_=>Y9)
  |_=>.none)
 |_=>.none
theorem c1R{L:List Rec}{g s:Int}{f:Nat}{a:Int}(h:¬a<=0):kepA L g s (f+1) a=if(X8 L a).k=3 then kepA L g s f (X8 L a).n else if(X8 L a).k=2/\(X8 L a).g=g/\(X8 L a).s=s then true else kepA L g s f (X8 L a).p:=by
 conv=>lhs;unfold kepA
 rw[if_neg h]
theorem c1I{L:List Rec}{g s:Int}{f:Nat}{a:Int}(h:a<=0):kepA L g s f a=false:=by
 cases f with
 |zero=>rfl
 |succ f=>unfold kepA;rw[if_pos h]
theorem a8r:GK 216 b2f:=gk func216<|by
 rintro⟨e,tx,g,s⟩ ⟨hL,l,hb⟩;dsimp only at hL l hb;have o:=hL.1;refine S1 gN func216 (b2V e tx g s) (α:=let v:=(0=0/\0=0);let u:=(oo (Q7 e e));(∃(x:U8 e.X.length (sL e tx g s)),(tx=tx/\g=g/\s=s/\v/\0=(x.1:Int)/\True)/\u/\True)/\∀(x:U8 e.X.length (sL e tx g s)),let z:=(x.1:Int);let w:=(e.X.getD z.toNat dz);let q:=(Ri (z+1)/\∃(y:U8 e.X.length (sL e tx g s)),((tx=tx/\g=g/\s=s/\v/\z+1=(y.1:Int)/\True)/\u/\True)/\Lt (e.X.length-y.1) (e.X.length-x.1));bd (z<(e.X.length:Int)) (V7 z e.X.length/\br (w.id==tx) q (V7 z e.X.length/\(∃(X:KpS e g s x.1),(tx=tx/\g=g/\s=s/\v/\z=z/\w.Z=X.val.2/\True)/\u/\True)/\∀(X:KpS e g s x.1),let j:=(X.val.2-1);let r:=(e.s.L.getD j.toNat dz);bd (X.val.2>0) (Ri j/\V7 j e.s.L.length/\br (r.k==3) (∃(y:KpS e g s x.1),((tx=tx/\g=g/\s=s/\v/\z=z/\r.n=y.1.2/\True)/\u/\True)/\Lt y.1.1 X.val.1) (br (r.k==2&&r.g==g&&r.s==s) (true=uT e tx g s) (∃(y:KpS e g s x.1),((tx=tx/\g=g/\s=s/\v/\z=z/\r.p=y.1.2/\True)/\u/\True)/\Lt y.1.1 X.val.1))) q)) (false=uT e tx g s)) ⟨⟨F4,Z8⟩,λx=>⟨λhc=>?_,λhc=>?_⟩⟩
 ·have hlt:=Y1 hc;have hx:=hb x.1 hlt;rw[G2];refine⟨Y3 hlt,λhq=>⟨V5 hlt Z9,x.succ hlt (by unfold sL;rw[hq];rfl),⟨⟨rfl,rfl,rfl,⟨rfl,rfl⟩,J7,Z6⟩,⟨rfl,rfl,xR _⟩,Z6⟩,U8.ext_lt hlt⟩,λhq=>⟨Y3 hlt,⟨⟨(61,(e.X.getD x.1 dz).Z),rfl,X0,hx⟩,Z8⟩,λy=>?_⟩⟩
  obtain⟨⟨f,a⟩,Y,F,ha⟩:=y;dsimp only at Y F ha ⊢;obtain⟨f,rfl⟩:∃q,f=q+1:=⟨f-1,Z9⟩
  refine⟨λhp=>?_,λhp=>?_⟩
  ·have hp:a>0:=E4 hp;obtain⟨p1,p2,p3,p4⟩:=hL.prev (show 1<=a by omega) ha
   rw[c1R Z9] at Y
   refine⟨Z3 Z9,⟨Z9,Z9⟩,λd=>?_,λd=>?_⟩
   ·have d:(X8 e.s.L a).k=3:=beq_iff_eq.1 d;rw[if_pos d] at Y;exact⟨⟨(f,(X8 e.s.L a).n),Y,X0,X0⟩,Z8,D9⟩
   ·have d:¬ (X8 e.s.L a).k=3:=λr=>by
     have d:((X8 e.s.L a).k==3)=false:=d;rw[r] at d;cases d
    rw[if_neg d] at Y;refine⟨λh=>?_,λh=>?_⟩
    ·have h:((X8 e.s.L a).k==2&&(X8 e.s.L a).g==g&&(X8 e.s.L a).s==s)=true:=h;simp only[O4,beq_iff_eq] at h;rw[if_pos ⟨h.1.1,h.1.2,h.2⟩] at Y;exact(U3.2 ⟨x.1,hlt,by unfold sL;rw[hq,←Y];rfl⟩).symm
    ·have h:¬ ((X8 e.s.L a).k=2/\(X8 e.s.L a).g=g/\(X8 e.s.L a).s=s):=λ⟨a1,a2,a3⟩=>by
      have h:((X8 e.s.L a).k==2&&(X8 e.s.L a).g==g&&(X8 e.s.L a).s==s)=false:=h;rw[a1,a2,a3] at h;simp at h
     rw[if_neg h] at Y;exact⟨⟨(f,(X8 e.s.L a).p),Y,X0,X0⟩,Z8,D9⟩
  ·have hp:a<=0:=by have:=s6 hp;omega
   rw[c1I hp] at Y;exact⟨V5 hlt Z9,x.succ hlt (by unfold sL;rw[←Y,Bool.and_false]),⟨⟨rfl,rfl,rfl,⟨rfl,rfl⟩,J7,Z6⟩,⟨rfl,rfl,xR _⟩,Z6⟩,U8.ext_lt hlt⟩
 ·have i:=X6 hc;exact(R8.2 λj J=>x.2.2 j (yK J i)).symm
def Plc.ts(A:Plc):List T:=[Ji A.a,Ji A.b,Ji A.c,Ji A.d]
def c0L(A:Plc):Option Ob:=some (.arr true 1000000 4 1 λ_=>A.ts)
def c77(p:Pg):Option Ob:=some (.arr true 1000000 2 1 λ_=>p.ts)
def oI(e:Eng)(tx ta id:Int):{y:Eng×Plc//y=(R5 e (T0 e tx ta id 8).1,(T0 e tx ta id 8).2.1)}:=Classical.choice ⟨⟨_,rfl⟩⟩
def b2h:Con:=.rel ⟨Eng×Int×Int×Int,λx=>[.agg x.1.ts,Ji x.2.1,Ji x.2.2.1,Ji x.2.2.2],λx=>.tup [.agg (oI x.1 x.2.1 x.2.2.1 x.2.2.2).1.1.ts,.agg (oI x.1 x.2.1 x.2.2.1 x.2.2.2).1.2.ts,.bool true],λx=>EI x.1⟩
def b2n(e:Eng)(tx ta id:Int)(F:Nat->Eng)(A:Nat->Plc)(P:Nat->Pg)(I:Nat->Nat->Plc):Nat->Ann
 |0=>.one {n:Nat//n<=8} (λx=>⟨[(1,Ji tx),(2,Ji ta),(3,Ji id),(4,.ref 0 0 0),(8,.ref 1 0 0),(9,.ref 2 0 0),(10,.bool false),(11,.ref 3 0 0),(12,Ji x.1)],[G9 (F x.1),G9 y5,c0L ⟨0,0,0,0⟩,c0L (A x.1)]⟩) (λx=>8-x.1) [.box 0,.box 1,.box 2,.box 3] [.box 0,.box 1,.box 2,.box 3] (λx=>fun
  |1=>.one (Up 4) (λy=>⟨[(1,Ji tx),(2,Ji ta),(3,Ji id),(4,.ref 0 0 0),(8,.ref 1 0 0),(9,.ref 2 0 0),(10,.bool false),(11,.ref 3 0 0),(12,Ji x.1),(16,.ref 4 0 0),(17,Ji y.1)],[G9 (F (x.1+1)),G9 y5,c0L ⟨0,0,0,0⟩,c0L (I x.1 y.1),c77 (P x.1)]⟩) (λy=>4-y.1) [.box 0,.box 1,.box 2,.box 3,.box 5] [.box 0,.box 1,.box 2,.box 3,.box 4] (λ_=>Y9)
  |_=>.none)
 |_=>.none
theorem b1o(e:Eng)(tx ta id:Int)(F:Nat->Eng)(A:Nat->Plc)(P:Nat->Pg)(I:Nat->Nat->Plc)(h:
let i:=(oo (Q7 y5 y5));let r:=(0=0/\0=0);let q:=(oo ((0:Int)=0/\(0:Int)=0/\(0:Int)=0/\(0:Int)=0/\True));  (∃(x:{n:Nat//n<=8}),let pe:=(A x.1);(tx=tx/\ta=ta/\id=id/\r/\r/\r/\false=false/\r/\0=(x.1:Int)/\True)/\(oo (Q7 e (F x.1)))/\(oo (0=0/\0=0/\false=false/\0=0/\(0:Int)=0/\0=0/\(0:Int)=0/\0=0/\(0:Int)=0/\false=false/\0=0/\0=0/\0=0/\(0:Int)=0/\True))/\q/\(oo ((-1:Int)=pe.a/\(-1:Int)=pe.b/\(-1:Int)=pe.c/\(-1:Int)=pe.d/\True))/\True)/\∀(x:{n:Nat//n<=8}),let u:=x.1;let m:=(F (u+1));let pd:=(oo (Q7 m m));let k:=((A u).a=(A 8).a/\(A u).b=(A 8).b/\(A u).c=(A 8).c/\(A u).d=(A 8).d/\True);let w:=(oo ((P u).Q=(P u).Q/\(Z2 Z5 (P u).sl (P u).sl)/\True));bd ((u:Int)<8) (∃(f:(Sto×Nat)),let j:=(Z4 f.1 f.2);let pc:=(j.1.fr.getD (↑j.2.1:Int).toNat dz);(((o6 (F u).s f.1)/\(u:Int)=(f.2:Int)/\True)/\lG f.1 f.2)/\br (! j.2.2) ((Q7 {(F u) with s:=j.1} (F 8))/\k/\false=true/\True) (V7 (↑j.2.1:Int) j.1.fr.length/\(∃(X:Up 4),let l:=(I x.1 X.val);(tx=tx/\ta=ta/\id=id/\r/\r/\r/\false=false/\r/\(u:Int)=(u:Int)/\r/\0=(X.val:Int)/\True)/\(oo (Q7 {(F u) with s:=j.1} m))/\i/\q/\(oo ((A u).a=l.a/\(A u).b=l.b/\(A u).c=l.c/\(A u).d=l.d/\True))/\(oo (pc.pg.Q=(P u).Q/\(Z2 Z5 pc.pg.sl (P u).sl)/\True))/\True)/\∀(X:Up 4),let v:=(X.val:Int);let z:=(I x.1 X.val);let p:=(Ri (v+1)/\∃(y:Up 4),let t:=(I x.1 y.1);((tx=tx/\ta=ta/\id=id/\r/\r/\r/\false=false/\r/\(u:Int)=(u:Int)/\r/\v+1=(y.1:Int)/\True)/\pd/\i/\q/\(oo (z.a=t.a/\z.b=t.b/\z.c=t.c/\z.d=t.d/\True))/\w/\True)/\Lt (4-y.1) (4-X.val));bd (v<4) (V7 v (P u).sl.length/\br ((P u).sl.getD v.toNat []==[]) (V7 (2:Int) 4/\∃(g:(Eng×Int×Int×Int)),(decide (z.c<0)=true->((Q7 m g.1)/\tx=g.2.1/\(u:Int)=g.2.2.1/\v=g.2.2.2/\True)/\yH g.1)/\br (decide (z.c<0)&& !uT g.1 g.2.1 g.2.2.1 g.2.2.2) (V7 (2:Int) 4/\V7 (3:Int) 4/\Ri (v+1)/\∃(y:Up 4),let pa:=(I x.1 y.1);((tx=tx/\ta=ta/\id=id/\r/\r/\r/\false=false/\r/\(u:Int)=(u:Int)/\r/\v+1=(y.1:Int)/\True)/\pd/\i/\q/\(oo (z.a=pa.a/\z.b=pa.b/\(u:Int)=pa.c/\v=pa.d/\True))/\w/\True)/\Lt (4-y.1) (4-X.val)) p) (V7 v (P u).sl.length/\∃(g:(Bz)),(((P u).sl.getD v.toNat []=g/\True)/\sY g)/\(((xQ g).2.2&&(xQ g).1==ta&&(xQ g).2.1.id==id)=true->V7 (0:Int) 4)/\br ((xQ g).2.2&&(xQ g).1==ta&&(xQ g).2.1.id==id&&decide (z.a<0)) (V7 (0:Int) 4/\V7 (1:Int) 4/\Ri (v+1)/\∃(y:Up 4),let pb:=(I x.1 y.1);((tx=tx/\ta=ta/\id=id/\r/\r/\r/\false=false/\r/\(u:Int)=(u:Int)/\r/\v+1=(y.1:Int)/\True)/\pd/\i/\q/\(oo ((u:Int)=pb.a/\v=pb.b/\z.c=pb.c/\z.d=pb.d/\True))/\w/\True)/\Lt (4-y.1) (4-X.val)) p)) (Ri ((u:Int)+1)/\∃(y:{n:Nat//n<=8}),let pf:=(A y.1);((tx=tx/\ta=ta/\id=id/\r/\r/\r/\false=false/\r/\(u:Int)+1=(y.1:Int)/\True)/\(oo (Q7 m (F y.1)))/\i/\q/\(oo (z.a=pf.a/\z.b=pf.b/\z.c=pf.c/\z.d=pf.d/\True))/\True)/\Lt (8-y.1) (8-u)))) ((Q7 (F u) (F 8))/\k/\true=true/\True)):
  V4 prog 140 [.agg e.ts,Ji tx,Ji ta,Ji id] (.tup [.agg (F 8).ts,.agg (A 8).ts,.bool true]):=
 S1 (gC wX (gC a8r (gC gG gN))) func140 (b2n e tx ta id F A P I) h
def dE(e:Eng)(tx ta id:Int)(n:Nat):Pg:=((Z4 (T0 e tx ta id n).1 n).1.fr.getD (Z4 (T0 e tx ta id n).1 n).2.1 dz).pg
theorem c6a{e:Eng}(h:EI e)(tx ta id:Int){n:Nat}(N:n<8):T0 e tx ta id (n+1)=((Z4 (T0 e tx ta id n).1 n).1,w7 e tx ta id n (dE e tx ta id n) (T0 e tx ta id n).2.1 4,true):=by
 obtain⟨d,l,i,j⟩:=g8 h.g tx ta id n Z9
 obtain⟨_,f⟩:=x1 d (no:=n) N;conv=>lhs;unfold T0
 rw[if_pos i,if_pos f];rfl
theorem a9x{e:Eng}{s:Sto}(hl:s.L=e.s.L)(tx g sl:Int):uT (R5 e s) tx g sl=uT e tx g sl:=by
 unfold uT sL R5;dsimp only;rw[hl]
theorem a60(e:Eng)(tx ta id:Int)(n:Nat)(p:Pg)(A:Plc)(i:Nat):w7 e tx ta id n p A (i+1)=if p.sl.getD i []=[] then(if(w7 e tx ta id n p A i).c<0/\uT e tx n i=false then⟨(w7 e tx ta id n p A i).a,(w7 e tx ta id n p A i).b,n,i⟩ else w7 e tx ta id n p A i)
  else if u3 (p.sl.getD i []) ta id=true/\(w7 e tx ta id n p A i).a<0 then⟨n,i,(w7 e tx ta id n p A i).c,(w7 e tx ta id n p A i).d⟩ else w7 e tx ta id n p A i:=rfl
theorem a6J:GK 140 b2h:=gk func140<|by
 rintro⟨e,tx,ta,id⟩ (h:EI e);show V4 _ _ _ (.tup [.agg (oI e tx ta id).1.1.ts,.agg (oI e tx ta id).1.2.ts,.bool true]);rw[(oI e tx ta id).2];refine b1o e tx ta id (λn=>R5 e (T0 e tx ta id n).1) (λn=>(T0 e tx ta id n).2.1) (dE e tx ta id) (λn i=>w7 e tx ta id n (dE e tx ta id n) (T0 e tx ta id n).2.1 i) ⟨⟨⟨0,O3 _⟩,Z8⟩,λx=>?_⟩
 obtain⟨n,N⟩:=x;dsimp only at N ⊢;refine⟨λhc=>?_,λhc=>?_⟩
 ·have hlt:n<8:=by have:=E4 hc;omega
  obtain⟨j,g2,z,t⟩:=g8 h.g tx ta id n N;obtain⟨⟨f1,F,v,f4⟩,q⟩:=x1 j (no:=n) hlt;obtain⟨_,_,⟨_,_,f,ps⟩,_⟩:=f1.fp _ F;have l:=c6a h tx ta id hlt;refine⟨((T0 e tx ta id n).1,n),⟨Z8,j.inv,hlt⟩,λu=>?_,λ_=>?_⟩
  ·have u:(!(Z4 (T0 e tx ta id n).1 n).2.2)=true:=u;rw[q] at u;cases u
  ·have hlog:(Z4 (T0 e tx ta id n).1 n).1.L=e.s.L:=f4.1.trans g2;have hNd:=qL (oK h f1 hlog);have hK:=λg sl=>a9x hlog tx g sl
   have f:(dE e tx ta id n).sl.length=4:=f;have ps:∀i,i<4->((dE e tx ta id n).sl.getD i []).length<=30:=λi hi=>ps i (by show i<(dE e tx ta id n).sl.length;omega)
   have hp:((Z4 (T0 e tx ta id n).1 n).1.fr.getD (Z4 (T0 e tx ta id n).1 n).2.1 dz).pg=dE e tx ta id n:=rfl;have o:=a60 e tx ta id n (dE e tx ta id n) (T0 e tx ta id n).2.1;have d:w7 e tx ta id n (dE e tx ta id n) (T0 e tx ta id n).2.1 0=(T0 e tx ta id n).2.1:=rfl;rw[l];dsimp only;rw[G2,hp];generalize dE e tx ta id n=p at*;generalize (T0 e tx ta id n).2.1=A at*;generalize w7 e tx ta id n p A=I at*;refine⟨Y3 F,⟨⟨0,O3 _⟩,Z8,Z8,Z8,Z8,⟨rfl,rfl,sJ,sJ,sJ,sJ,Z6⟩,Z8⟩,λy=>?_⟩
   obtain⟨i,hi⟩:=y;dsimp only at hi ⊢;refine⟨λhc2=>?_,λhc2=>?_⟩
   ·have hit:i<4:=by have:=E4 hc2;omega
    have hIi:=o i;rw[G2];refine⟨Y3 Z9,λhz=>?_,λhz=>?_⟩
    ·have hz:p.sl.getD i []=[]:=by simpa using hz
     rw[if_pos hz] at hIi;refine⟨⟨Z9,Z9⟩,(R5 e (Z4 (T0 e tx ta id n).1 n).1,tx,n,i),λ_=>⟨Z8,hNd⟩,λhq=>?_,λhq=>?_⟩
     ·dsimp only at hq;rw[hK] at hq;simp only[O4,r8,xV] at hq;rw[if_pos hq] at hIi;exact⟨⟨Z9,Z9⟩,⟨Z9,Z9⟩,Z3 Z9,⟨i+1,hit⟩,⟨⟨rfl,rfl,rfl,Z8,Z8,Z8,rfl,Z8,rfl,Z8,X0,Z6⟩,Z8,Z8,Z8,⟨rfl,rfl,zN,zN,zN,zN,Z6⟩,Z8⟩,D9⟩
     ·dsimp only at hq;rw[hK] at hq;rw[if_neg (by rintro⟨a1,a2⟩;rw[qK a1,a2] at hq;cases hq)] at hIi
      exact⟨Z3 Z9,⟨i+1,hit⟩,⟨⟨rfl,rfl,rfl,Z8,Z8,Z8,rfl,Z8,rfl,Z8,X0,Z6⟩,Z8,Z8,Z8,⟨rfl,rfl,zN,zN,zN,zN,Z6⟩,Z8⟩,D9⟩
    ·have hz:¬p.sl.getD i []=[]:=by simpa using hz
     have r:=ps i hit;rw[if_neg hz] at hIi;refine⟨Y3 Z9,p.sl.getD i [],⟨Z8,a2A⟩,λ_=>⟨Z9,Z9⟩,λhq=>?_,λhq=>?_⟩
     ·have hq:(u3 (p.sl.getD i []) ta id&&decide ((I i).a<0))=true:=hq;simp only[O4,r8] at hq;rw[if_pos hq] at hIi;exact⟨⟨Z9,Z9⟩,⟨Z9,Z9⟩,Z3 Z9,⟨i+1,hit⟩,⟨⟨rfl,rfl,rfl,Z8,Z8,Z8,rfl,Z8,rfl,Z8,X0,Z6⟩,Z8,Z8,Z8,⟨rfl,rfl,zN,zN,zN,zN,Z6⟩,Z8⟩,D9⟩
     ·have hq:(u3 (p.sl.getD i []) ta id&&decide ((I i).a<0))=false:=hq;rw[if_neg (by rintro⟨a1,a2⟩;rw[a1,qK a2] at hq;cases hq)] at hIi
      exact⟨Z3 Z9,⟨i+1,hit⟩,⟨⟨rfl,rfl,rfl,Z8,Z8,Z8,rfl,Z8,rfl,Z8,X0,Z6⟩,Z8,Z8,Z8,⟨rfl,rfl,zN,zN,zN,zN,Z6⟩,Z8⟩,D9⟩
   ·obtain rfl:i=4:=by have:=s6 hc2;omega
    refine⟨Z3 Z9,⟨n+1,hlt⟩,?_,D9⟩
    dsimp only;rw[l];exact⟨⟨rfl,rfl,rfl,Z8,Z8,Z8,rfl,Z8,Z9,Z6⟩,Z8⟩
 ·obtain rfl:n=8:=by have:=s6 hc;omega
  exact Z8
def c7C(e:Eng)(no sl:Nat):Eng×Bz:=(R5 e (Z4 e.s no).1,((Z4 e.s no).1.fr.getD (Z4 e.s no).2.1 dz).pg.sl.getD sl [])
def stH(e:Eng)(no sl:Nat):{y:Eng×Bz//y=c7C e no sl}:=Classical.choice ⟨⟨_,rfl⟩⟩
def b1I:Con:=.rel ⟨Eng×Nat×Nat,λx=>[.agg x.1.ts,Ji x.2.1,Ji x.2.2],λx=>.tup [.agg (stH x.1 x.2.1 x.2.2).1.1.ts,.str (stH x.1 x.2.1 x.2.2).1.2,.bool true],λx=>EI x.1/\x.2.1<8/\x.2.2<4⟩
theorem a6l:GK 143 b1I:=gk func143<|by
 rintro⟨e,no,sl⟩ ⟨h,n,f⟩;dsimp only at h n f;show V4 _ _ _ (.tup [.agg (stH e no sl).1.1.ts,.str (stH e no sl).1.2,.bool true]);rw[(stH e no sl).2];obtain⟨⟨l,F,o,f4⟩,j⟩:=x1 h.g (no:=no) n;obtain⟨_,_,⟨_,_,i,ps⟩,_⟩:=l.fp _ F;refine S1 (gC wX gN) func143 Y9 (α:=let r:=(Z4 e.s no);let u:=(r.1.fr.getD r.2.1 dz).pg.sl.getD;∃(x:(Sto×Nat)),let q:=(Z4 x.1 x.2);let z:=(q.1.fr.getD (↑q.2.1:Int).toNat dz);let p:=((Z2 Z5 q.1.d.E r.1.d.E)/\(Z2 Y6 q.1.d.C r.1.d.C)/\q.1.d.A=r.1.d.A/\(Z2 Y8 q.1.d.keep r.1.d.keep)/\q.1.ep=r.1.ep/\(Z2 Y0 q.1.L r.1.L)/\q.1.S=r.1.S/\(Z2 V2 q.1.fr r.1.fr)/\q.1.J=r.1.J/\e.up=e.up/\(Z2 V1 e.X e.X)/\(Z2 Y7 e.lk.H e.lk.H)/\(Z2 Y5 e.lk.W e.lk.W)/\e.N=e.N/\True);(((o6 e.s x.1)/\(no:Int)=(x.2:Int)/\True)/\lG x.1 x.2)/\br (! q.2.2) (p/\[]=u sl []/\false=true/\True) (V7 (↑q.2.1:Int) q.1.fr.length/\V7 (sl:Int) z.pg.sl.length/\p/\z.pg.sl.getD (sl:Int).toNat []=u sl []/\true=true/\True)) ⟨(e.s,no),⟨Z8,h.g.inv,n⟩,λu=>?_,λ_=>⟨Y3 F,?_,Z8⟩⟩
 ·have u:(!(Z4 e.s no).2.2)=true:=u;rw[j] at u;cases u
 ·dsimp only;rw[G2];exact Y3 (by rw[i];exact f)
def a3S:Con:=.rel ⟨Eng×Nat×Int×Int×Bz×Bz,λx=>[.agg x.1.ts,Ji x.2.1,Ji x.2.2.1,Ji x.2.2.2.1,.str x.2.2.2.2.1,.str x.2.2.2.2.2],λx=>.tup [.agg (uZ x.1 x.2.1 x.2.2.1 x.2.2.2.1 x.2.2.2.2.1 x.2.2.2.2.2).1.ts,Ji (uZ x.1 x.2.1 x.2.2.1 x.2.2.2.1 x.2.2.2.2.1 x.2.2.2.2.2).2],
 λx=>EI x.1/\x.2.1<x.1.X.length/\(0<=x.2.2.1/\x.2.2.1<=7)/\(0<=x.2.2.2.1/\x.2.2.2.1<=3)/\x.2.2.2.2.1.length<=30/\x.2.2.2.2.2.length<=30⟩
theorem c0l(e:Eng)(k:Nat)(r:Rec):(y7 e k r).s.L.getD (((e.s.L.length+1:Nat):Int)-1).toNat dz=T1 e.s (M2 e k r):=by
 have d:(((e.s.L.length+1:Nat):Int)-1).toNat=e.s.L.length:=Z9
 rw[d,R2]
 show((e.s.L++[T1 e.s (M2 e k r)])[e.s.L.length]?).getD dz=_;rw[List.getElem?_concat_length]
 rfl
theorem a03:GK 142 a3S:=gk func142<|by
 rintro⟨e,k,g,s,b,a⟩ ⟨h,hk,hg,hs,hb,ha⟩;dsimp only at h hk hg hs hb ha;have M:e.s.L.length+i5 e<=60:=h.h.rm;have f:=h.h.t10;refine S1 (gC wH (gC a1p (gC a4v gN))) func142 Y9 (α:=let r:=(uZ e k g s b a);let q:=(e.s.L.length:Int);Ri (q+1)/\∃(x:Eng),let v:=(↑(i5 x):Int);(((Q7 e x)/\True)/\yH x)/\Ri (q+1+v)/\Ri (q+1+v+1)/\bd (q+1+v+1>60) ((Q7 e r.1)/\7=r.2/\True) (∃(x:(Eng×Nat×Rec)),let y:=x.1.s.L.length;let u:=x.2.2;(((Q7 e x.1)/\(k:Int)=(x.2.1:Int)/\(0=u.e/\0=u.l/\0=u.t/\2=u.k/\0=u.p/\0=u.n/\g=u.g/\s=u.s/\b=u.b/\a=u.a/\True)/\True)/\x.2.1<x.1.X.length/\x.1.X.length<=1000/\y<=1000)/\∃(X:(Sto×Int)),let z:=(R6 X.1 (X.1.L.getD (X.2-1).toNat dz));(((o6 {x.1.s with L:=(x.1.s.L++[T1 x.1.s (M2 x.1 x.2.1 u)])} X.1)/\(↑(y+1):Int)=X.2/\True)/\SInv X.1/\1<=X.2/\X.2<=(X.1.L.length:Int))/\br (! z.2) False ((Q7 {x.1 with s:=z.1,X:=(x.1.X.set x.2.1 (Txn.mk (x.1.X.getD x.2.1 dz).id ((y:Int)+1)))} r.1)/\0=r.2/\True))) ⟨Z3 Z9,e,⟨Z8,qL h⟩,Z3 Z9,Z3 Z9,λhq=>?_,λhq=>?_⟩
 ·have e1:uZ e k g s b a=(e,7):=by unfold uZ;rw[if_pos (E4 hq)]
  rw[e1];exact Z8
 ·have hq:=s6 hq;obtain⟨u1,u2⟩:=a1I h hk hg hs hb ha Z9
  have e1:uZ e k g s b a=((vC e k (L4 g s b a)).1,0):=by unfold uZ;rw[if_neg hq,if_pos u2]
  have hR:C8 (T1 e.s (M2 e k (L4 g s b a))):=h.rcp hk a4m a4O (λ_=>rfl) (λe _=>absurd rfl e) ⟨Int.le_refl _,mO⟩ hg hs ⟨hb,ha⟩ (λe=>dM)
  have d:=c0l e k (L4 g s b a);refine⟨(e,k,L4 g s b a),⟨Z8,hk,X0,X0⟩,((y7 e k (L4 g s b a)).s,((e.s.L.length+1:Nat):Int)),⟨⟨jO (y7 e k (L4 g s b a)).s,Z8⟩,(h.app hk hR).inv,X0,by rw[vZ];exact Int.le_refl _⟩,λu=>?_,λu=>?_⟩
  ·dsimp only at u;rw[d] at u;have u:(!(vC e k (L4 g s b a)).2)=true:=u;rw[u2] at u;cases u
  ·dsimp only;rw[d,e1];exact⟨xR (vC e k (L4 g s b a)).1,Z8⟩
structure XI(e:Eng)(k:Nat)(tx:Int):Prop where
 u:UI e k tx (e.X.getD k dz).Z
 nd:yH e
structure FX(e:Eng)(f:Sto×Plc×Bool):Prop where
 lv:f.2.2=true->SI f.1/\f.1.L=e.s.L/\f.1.ep=e.s.ep
 dn:f.2.2=false->yY f.1.d/\f.1.d.E.length=69
 pl:b9Q f.2.1
theorem c2r{e:Eng}{tx ta id:Int}{n:Nat}(h:(T0 e tx ta id n).2.2=true)(f:(Z4 (T0 e tx ta id n).1 n).2.2=true):T0 e tx ta id (n+1)=((Z4 (T0 e tx ta id n).1 n).1,w7 e tx ta id n (dE e tx ta id n) (T0 e tx ta id n).2.1 4,true):=by
 conv=>lhs;unfold T0
 rw[if_pos h,if_pos f];rfl
def hsB(g x:Lck):Bool:=(g.tx==x.tx)&&tM g x&&((g.mo==4)||(x.mo==1)||(g.mo==x.mo))
def hsI(L:List Lck)(x:Lck)(i:Nat):Bool:=hsB (L.getD i dz) x
def c46:Con:=.rel ⟨Lck×Lck,λx=>[.agg x.1.ts,.bref x.2.ts],λx=>.bool (hsB x.1 x.2),λ_=>True⟩
theorem c4B(g x:Lck)(h:
  ∃(X:(Lck×Lck)),((g.tx==x.tx)=true->((g.tx=X.1.tx/\g.ta=X.1.ta/\g.row=X.1.row/\g.mo=X.1.mo/\True)/\(x.tx=X.2.tx/\x.ta=X.2.ta/\x.row=X.2.row/\x.mo=X.2.mo/\True)/\True)/\True)/\(g.tx==x.tx&&tM X.1 X.2&&(g.mo==4||x.mo==1||g.mo==x.mo))=hsB g x):
  V4 prog 241 [.agg g.ts,.bref x.ts] (.bool (hsB g x)):=
 S1 (gC qB gN) func241 Y9 h
theorem c09:GK 241 c46:=gk func241<|λx _=>c4B x.1 x.2 ⟨(x.1,x.2),λ_=>Z8,rfl⟩
def b98(x:Lck):T:=.fn (.func 241) [.bref x.ts]
def b29:Con:=.rel ⟨List Lck×Lck,λx=>[.sl 4 x.1.length (Y7 x.1),b98 x.2],λx=>Ji (Q9 x.1.length (hsI x.1 x.2)),λx=>M1 x.1.length⟩
def b3e(L:List Lck)(a:Lck):Nat->Ann
 |0=>.one (U8 L.length (hsI L a)) (λx=>⟨[(0,.sl 4 L.length (Y7 L)),(1,b98 a),(7,Ji L.length),(8,Ji x.1)],[]⟩) (λx=>L.length-x.1) [] [] (λ_=>Y9)
 |_=>.none
theorem a7e:GK 176 b29:=gk func176<|by
 rintro⟨L,a⟩ (hL:L.length<1000000000000);refine S1 (gC c09 gN) func176 (b3e L a) (α:=let r:=(L.length:Int);let p:=(T.bref [Ji a.tx,Ji a.ta,Ji a.row,Ji a.mo]);(∃(x:U8 L.length (hsI L a)),((Z2 Y7 L L)/\(Fn.func 241=Fn.func 241/\K4 (λ(x:Nat)=>none) p p/\True)/\r=r/\0=(x.1:Int)/\True)/\True)/\∀(x:U8 L.length (hsI L a)),let z:=(x.1:Int);let q:=(L.getD z.toNat dz);bd (z<r) (V7 z L.length/\∃(X:(Lck×Lck)),(((q.tx=X.1.tx/\q.ta=X.1.ta/\q.row=X.1.row/\q.mo=X.1.mo/\True)/\(a.tx=X.2.tx/\a.ta=X.2.ta/\a.row=X.2.row/\a.mo=X.2.mo/\True)/\True)/\True)/\br (hsB X.1 X.2) (z=Q9 L.length (hsI L a)) (Ri (z+1)/\∃(y:U8 L.length (hsI L a)),(((Z2 Y7 L L)/\(Fn.func 241=Fn.func 241/\K4 (λ(x:Nat)=>none) p p/\True)/\r=r/\z+1=(y.1:Int)/\True)/\True)/\Lt (L.length-y.1) (L.length-x.1))) ((-1:Int)=Q9 L.length (hsI L a))) ⟨⟨F4,⟨Z8,⟨rfl,T5 _,Z6⟩,Z8⟩,Z6⟩,λx=>⟨λC=>?_,λC=>?_⟩⟩
 ·have h:=Y1 C;refine⟨Y3 h,(L.getD x.1 dz,a),Z8,λhp=>(N4 h hp x.2.2).symm,λhp=>⟨V5 h Z9,x.succ h hp,⟨⟨Z8,⟨rfl,T5 _,Z6⟩,rfl,J7,Z6⟩,Z6⟩,U8.ext_lt h⟩⟩
 ·have e:=X6 C;exact(K9 λj J=>x.2.2 j (yK J e)).symm
def b21:Con:=.rel ⟨List Lck×Lck,λx=>[.sl 4 x.1.length (Y7 x.1),b98 x.2],λx=>.bool (anyI x.1.length (hsI x.1 x.2)),λx=>M1 x.1.length⟩
theorem b1m(L:List Lck)(a:Lck)(h:
  ∃(x:(List Lck×Lck)),(((Z2 Y7 L x.1)/\(Fn.func 241=Fn.func 241/\(a.tx=x.2.tx/\a.ta=x.2.ta/\a.row=x.2.row/\a.mo=x.2.mo/\True)/\True)/\True)/\M1 x.1.length)/\decide (Q9 x.1.length (hsI x.1 x.2)≥(0:Int))=anyI L.length (hsI L a)):
  V4 prog 99 [.sl 4 L.length (Y7 L),b98 a] (.bool (anyI L.length (hsI L a))):=
 S1 (gC a7e gN) func99 Y9 h
theorem a5t:GK 99 b21:=gk func99<|λx h=>b1m x.1 x.2 ⟨x,⟨Z8,h⟩,F6 _ _⟩
def c7e:Con:=.rel ⟨Lks×Lck,λx=>[.agg x.1.ts,.agg x.2.ts],λx=>.bool (anyI x.1.H.length (hsI x.1.H x.2)),λx=>M1 x.1.H.length⟩
theorem c6U(l:Lks)(x:Lck)(h:
  ∃(X:(List Lck×Lck)),(((Z2 Y7 l.H X.1)/\(Fn.func 241=Fn.func 241/\(x.tx=X.2.tx/\x.ta=X.2.ta/\x.row=X.2.row/\x.mo=X.2.mo/\True)/\True)/\True)/\M1 X.1.length)/\anyI X.1.length (hsI X.1 X.2)=anyI l.H.length (hsI l.H x)):
  V4 prog 199 [.agg l.ts,.agg x.ts] (.bool (anyI l.H.length (hsI l.H x))):=
 S1 (gC a5t gN) func199 Y9 h
theorem c3X:GK 199 c7e:=gk func199<|λx h=>c6U x.1 x.2 ⟨(x.1.H,x.2),⟨Z8,h⟩,rfl⟩
def sN(L:List Int)(v:Int)(i:Nat):Bool:=v==L.getD i 0
def b14:Con:=.rel ⟨List Int×Nat×Int,λx=>[.sl 1 x.2.1 (Y8 x.1),Ji x.2.2],λx=>Ji (Q9 x.2.1 (sN x.1 x.2.2)),λx=>M1 x.2.1⟩
def b2C(L:List Int)(n:Nat)(v:Int):Nat->Ann
 |0=>.one (U8 n (sN L v)) (λx=>⟨[(0,.sl 1 n (Y8 L)),(1,Ji v),(7,Ji n),(8,Ji x.1)],[]⟩) (λx=>n-x.1) [] [] (λ_=>Y9)
 |_=>.none
theorem a5D:GK 274 b14:=gk func274<|by
 rintro⟨L,n,v⟩ (hL:n<1000000000000);refine S1 gN func274 (b2C L n v) (α:=let q:=(n=n/\Z7 n (Y8 L) (Y8 L));(∃(x:U8 n (sN L v)),(q/\v=v/\(n:Int)=(n:Int)/\0=(x.1:Int)/\True)/\True)/\∀(x:U8 n (sN L v)),let p:=(x.1:Int);bd (p<(n:Int)) (V7 p n/\br (v==L.getD p.toNat (0:Int)) (p=Q9 n (sN L v)) (Ri (p+1)/\∃(y:U8 n (sN L v)),((q/\v=v/\(n:Int)=(n:Int)/\p+1=(y.1:Int)/\True)/\True)/\Lt (n-y.1) (n-x.1))) ((-1:Int)=Q9 n (sN L v))) ⟨⟨F4,Z8⟩,λx=>⟨λC=>?_,λC=>?_⟩⟩
 ·have h:=Y1 C;exact⟨Y3 h,λhp=>(N4 h hp x.2.2).symm,λhp=>⟨V5 h Z9,x.succ h hp,⟨⟨Z8,rfl,rfl,J7,Z6⟩,Z6⟩,U8.ext_lt h⟩⟩
 ·have e:=X6 C;exact(K9 λj J=>x.2.2 j (yK J e)).symm
def b3s:Con:=.rel ⟨List Int×Nat×Int,λx=>[.sl 1 x.2.1 (Y8 x.1),Ji x.2.2],λx=>.bool (anyI x.2.1 (sN x.1 x.2.2)),λx=>M1 x.2.1⟩
theorem b2j(L:List Int)(n:Nat)(v:Int)(h:
  ∃(x:(List Int×Nat×Int)),(((n=x.2.1/\Z7 n (Y8 L) (Y8 x.1))/\v=x.2.2/\True)/\M1 x.2.1)/\decide (Q9 x.2.1 (sN x.1 x.2.2)≥(0:Int))=anyI n (sN L v)):
  V4 prog 244 [.sl 1 n (Y8 L),Ji v] (.bool (anyI n (sN L v))):=
 S1 (gC a5D gN) func244 Y9 h
theorem a6A:GK 244 b3s:=gk func244<|λx h=>b2j x.1 x.2.1 x.2.2 ⟨x,⟨Z8,h⟩,F6 _ _⟩
def isW(L:List Wt)(v:Wt)(i:Nat):Bool:=(v.tx==(L.getD i dz).tx)&&((v.fo==(L.getD i dz).fo)&&true)
def wtB(v:Wt):Option Ob:=some (.arr true 1000000 2 1 λ_=>v.ts)
def b6w:Con:=.rel ⟨List Wt×Nat×Wt,λx=>[.sl 2 x.2.1 (Y5 x.1),.agg x.2.2.ts],λx=>Ji (Q9 x.2.1 (isW x.1 x.2.2)),λx=>M1 x.2.1⟩
def b3Z(L:List Wt)(n:Nat)(v:Wt):Nat->Ann
 |0=>.one (U8 n (isW L v)) (λx=>⟨[(0,.sl 2 n (Y5 L)),(3,.ref 0 0 0),(7,Ji n),(8,Ji x.1)],[wtB v]⟩) (λx=>n-x.1) [.box 0] [.box 0] (λ_=>Y9)
 |_=>.none
theorem b16:GK 242 b6w:=gk func242<|by
 rintro⟨L,n,v⟩ (hL:n<1000000000000);refine S1 gN func242 (b3Z L n v) (α:=let r:=(n=n/\Z7 n (Y5 L) (Y5 L));let q:=(oo (v.tx=v.tx/\v.fo=v.fo/\True));(∃(x:U8 n (isW L v)),(r/\(0=0/\0=0)/\(n:Int)=(n:Int)/\0=(x.1:Int)/\True)/\q/\True)/\∀(x:U8 n (isW L v)),let p:=(x.1:Int);let z:=(L.getD p.toNat dz);bd (p<(n:Int)) (V7 p n/\br (v.tx==z.tx&&(v.fo==z.fo&&true)) (p=Q9 n (isW L v)) (Ri (p+1)/\∃(y:U8 n (isW L v)),((r/\(0=0/\0=0)/\(n:Int)=(n:Int)/\p+1=(y.1:Int)/\True)/\q/\True)/\Lt (n-y.1) (n-x.1))) ((-1:Int)=Q9 n (isW L v))) ⟨⟨F4,Z8⟩,λx=>⟨λC=>?_,λC=>?_⟩⟩
 ·have h:=Y1 C;exact⟨Y3 h,λhp=>(N4 h hp x.2.2).symm,λhp=>⟨V5 h Z9,x.succ h hp,⟨⟨Z8,Z8,rfl,J7,Z6⟩,Z8⟩,U8.ext_lt h⟩⟩
 ·have e:=X6 C;exact(K9 λj J=>x.2.2 j (yK J e)).symm
def b6L:Con:=.rel ⟨List Wt×Nat×Wt,λx=>[.sl 2 x.2.1 (Y5 x.1),.agg x.2.2.ts],λx=>.bool (anyI x.2.1 (isW x.1 x.2.2)),λx=>M1 x.2.1⟩
theorem b3K(L:List Wt)(n:Nat)(v:Wt)(h:
  ∃(x:(List Wt×Nat×Wt)),(((n=x.2.1/\Z7 n (Y5 L) (Y5 x.1))/\(v.tx=x.2.2.tx/\v.fo=x.2.2.fo/\True)/\True)/\M1 x.2.1)/\decide (Q9 x.2.1 (isW x.1 x.2.2)≥(0:Int))=anyI n (isW L v)):
  V4 prog 200 [.sl 2 n (Y5 L),.agg v.ts] (.bool (anyI n (isW L v))):=
 S1 (gC b16 gN) func200 Y9 h
theorem b07:GK 200 b6L:=gk func200<|λx h=>b3K x.1 x.2.1 x.2.2 ⟨x,⟨Z8,h⟩,F6 _ _⟩
def y9(x:Lck)(w:Wt):Bool:=w.tx !=x.tx
def bK(x:Lck):Option Ob:=some (.arr true 1000000 4 1 λ_=>x.ts)
def b8p:Con:=.rel ⟨Wt×Lck,λx=>[.agg x.1.ts,.bref x.2.ts],λx=>.bool (x.1.tx==x.2.tx),λ_=>True⟩
theorem c0X(w:Wt)(x:Lck)(h:
  (w.tx==x.tx)=(w.tx==x.tx)):
  V4 prog 198 [.agg w.ts,.bref x.ts] (.bool (w.tx==x.tx)):=
 S1 gN func198 Y9 h
theorem hX:GK 198 b8p:=gk func198<|λx _=>c0X x.1 x.2 rfl
def tkF(x:Lck):T:=.fn (.func 198) [.bref x.ts]
def d3W(L:List Wt)(x:Lck)(i:Nat):Bool:=(L.getD i dz).tx==x.tx
def b5e:Con:=.rel ⟨List Wt×Lck,λx=>[wtS x.1,tkF x.2],λx=>Ji (Q9 x.1.length (d3W x.1 x.2)),λx=>M1 x.1.length⟩
def b7n(L:List Wt)(tx:Lck):Nat->Ann
 |0=>.one (U8 L.length (d3W L tx)) (λx=>⟨[(0,wtS L),(1,tkF tx),(7,Ji L.length),(8,Ji x.1)],[]⟩) (λx=>L.length-x.1) [] [] (λ_=>Y9)
 |_=>.none
theorem b3j:GK 179 b5e:=gk func179<|by
 rintro⟨L,tx⟩ (hL:L.length<1000000000000);refine S1 (gC hX gN) func179 (b7n L tx) (α:=let r:=(L.length:Int);let p:=(T.bref [Ji tx.tx,Ji tx.ta,Ji tx.row,Ji tx.mo]);(∃(x:U8 L.length (d3W L tx)),((Z2 Y5 L L)/\(Fn.func 198=Fn.func 198/\K4 (λ(x:Nat)=>none) p p/\True)/\r=r/\0=(x.1:Int)/\True)/\True)/\∀(x:U8 L.length (d3W L tx)),let q:=(x.1:Int);let z:=(L.getD q.toNat dz);bd (q<r) (V7 q L.length/\∃(X:(Wt×Lck)),(((z.tx=X.1.tx/\z.fo=X.1.fo/\True)/\(tx.tx=X.2.tx/\tx.ta=X.2.ta/\tx.row=X.2.row/\tx.mo=X.2.mo/\True)/\True)/\True)/\br (X.1.tx==X.2.tx) (q=Q9 L.length (d3W L tx)) (Ri (q+1)/\∃(y:U8 L.length (d3W L tx)),(((Z2 Y5 L L)/\(Fn.func 198=Fn.func 198/\K4 (λ(x:Nat)=>none) p p/\True)/\r=r/\q+1=(y.1:Int)/\True)/\True)/\Lt (L.length-y.1) (L.length-x.1))) ((-1:Int)=Q9 L.length (d3W L tx))) ⟨⟨F4,⟨Z8,⟨rfl,T5 _,Z6⟩,Z8⟩,Z6⟩,λx=>⟨λC=>?_,λC=>?_⟩⟩
 ·have h:=Y1 C;refine⟨Y3 h,(L.getD x.1 dz,tx),Z8,λhp=>(N4 h hp x.2.2).symm,λhp=>⟨V5 h Z9,x.succ h hp,⟨⟨Z8,⟨rfl,T5 _,Z6⟩,rfl,J7,Z6⟩,Z6⟩,U8.ext_lt h⟩⟩
 ·have e:=X6 C;exact(K9 λj J=>x.2.2 j (yK J e)).symm
def c6O(L:List Wt)(tx:Lck):Option Ob:=some (.arr true 0 2 L.length (G8 (Y5 (tF (y9 tx) L L.length)) (X5 (y9 tx) L L.length).length (L.length- (X5 (y9 tx) L L.length).length) zWt))
def b4Y:Con:=.reff ⟨List Wt×Lck,λx=>[.osl 0 0 x.1.length,.fn (.func 198) [.ref 1 0 0]],λx=>[pZ x.1,bK x.2],λx=>.osl 0 0 (X5 (y9 x.2) x.1 x.1.length).length,λx=>[pZ (X5 (y9 x.2) x.1 x.1.length),bK x.2],λx=>x.1.length<=1048576⟩
def b32(L:List Wt)(tx:Lck):Nat->Ann
 |0=>.one {j:Nat//j<=L.length} (λx=>⟨[(0,.osl 0 0 L.length),(1,.fn (.func 198) [.ref 1 0 0]),(5,Ji (X5 (y9 tx) L x.1).length),(6,Ji x.1)],[some (.arr true 0 2 L.length (Y5 (tF (y9 tx) L x.1))),bK tx]⟩) (λx=>L.length-x.1) b3V b3V (λ_=>Y9)
 |_=>.none
theorem b6a(L:List Wt)(tx:Lck)(h:
  ∃(x:(List Wt×Lck)),(Le (0+L.length) L.length/\((Z2 Y5 L x.1)/\(Fn.func 198=Fn.func 198/\(tx.tx=x.2.tx/\tx.ta=x.2.ta/\tx.row=x.2.row/\tx.mo=x.2.mo/\True)/\True)/\True)/\M1 x.1.length)/\br (Q9 x.1.length (d3W x.1 x.2)==(-1:Int)) (((0=0/\L.length=(X5 (y9 tx) L L.length).length)/\True)/\(L.length=L.length/\Z7 L.length (Y5 L) λ(j:Nat)=>match(X5 (y9 tx) L L.length).length.ble j&&j.blt ((X5 (y9 tx) L L.length).length+(L.length- (X5 (y9 tx) L L.length).length)) with|true=>[Ji 0,Ji 0]|false=>[Ji ((tF (y9 tx) L L.length).getD j dz).tx,Ji ((tF (y9 tx) L L.length).getD j dz).fo])/\(oo (tx.tx=tx.tx/\tx.ta=tx.ta/\tx.row=tx.row/\tx.mo=tx.mo/\True))/\True) (Ri (Q9 x.1.length (d3W x.1 x.2)+1)/\(∃(X:{j:Nat//j<=L.length}),((0=0/\L.length=L.length)/\(Fn.func 198=Fn.func 198/\(0=0/\0=0)/\True)/\Q9 x.1.length (d3W x.1 x.2)=(↑(X5 (y9 tx) L X.val).length:Int)/\Q9 x.1.length (d3W x.1 x.2)+1=(X.val:Int)/\True)/\(L.length=L.length/\Z7 L.length (Y5 L) (Y5 (tF (y9 tx) L X.val)))/\(oo (tx.tx=tx.tx/\tx.ta=tx.ta/\tx.row=tx.row/\tx.mo=tx.mo/\True))/\True)/\∀(x:{j:Nat//j<=L.length}),bd ((x.1:Int)<(L.length:Int)) (V7 (x.1:Int) L.length/\Lt (0+(x.1:Int).toNat) L.length/\∃(X:(Wt×Lck)),(((((tF (y9 tx) L x.1).getD (0+(x.1:Int).toNat) dz).tx=X.1.tx/\((tF (y9 tx) L x.1).getD (0+(x.1:Int).toNat) dz).fo=X.1.fo/\True)/\(tx.tx=X.2.tx/\tx.ta=X.2.ta/\tx.row=X.2.row/\tx.mo=X.2.mo/\True)/\True)/\True)/\br (!X.1.tx==X.2.tx) (V7 (↑(X5 (y9 tx) L x.1).length:Int) L.length/\Lt (0+(↑(X5 (y9 tx) L x.1).length:Int).toNat) L.length/\Ri ((↑(X5 (y9 tx) L x.1).length:Int)+1)/\Ri ((x.1:Int)+1)/\∃(y:{j:Nat//j<=L.length}),(((0=0/\L.length=L.length)/\(Fn.func 198=Fn.func 198/\(0=0/\0=0)/\True)/\(↑(X5 (y9 tx) L x.1).length:Int)+1=(↑(X5 (y9 tx) L y.1).length:Int)/\(x.1:Int)+1=(y.1:Int)/\True)/\(L.length=L.length/\Z7 L.length (setRow (Y5 (tF (y9 tx) L x.1)) (0+(↑(X5 (y9 tx) L x.1).length:Int).toNat) 0 [Ji ((tF (y9 tx) L x.1).getD (0+(x.1:Int).toNat) dz).tx,Ji ((tF (y9 tx) L x.1).getD (0+(x.1:Int).toNat) dz).fo]) (Y5 (tF (y9 tx) L y.1)))/\(oo (tx.tx=tx.tx/\tx.ta=tx.ta/\tx.row=tx.row/\tx.mo=tx.mo/\True))/\True)/\Lt (L.length-y.1) (L.length-x.1)) (Ri ((x.1:Int)+1)/\∃(y:{j:Nat//j<=L.length}),(((0=0/\L.length=L.length)/\(Fn.func 198=Fn.func 198/\(0=0/\0=0)/\True)/\(↑(X5 (y9 tx) L x.1).length:Int)=(↑(X5 (y9 tx) L y.1).length:Int)/\(x.1:Int)+1=(y.1:Int)/\True)/\(L.length=L.length/\Z7 L.length (Y5 (tF (y9 tx) L x.1)) (Y5 (tF (y9 tx) L y.1)))/\(oo (tx.tx=tx.tx/\tx.ta=tx.ta/\tx.row=tx.row/\tx.mo=tx.mo/\True))/\True)/\Lt (L.length-y.1) (L.length-x.1))) (jH (↑(X5 (y9 tx) L x.1).length:Int) L.length/\Le (0+(↑(X5 (y9 tx) L x.1).length:Int).toNat+(L.length- (↑(X5 (y9 tx) L x.1).length:Int).toNat)) L.length/\jH (↑(X5 (y9 tx) L x.1).length:Int) L.length/\((0=0/\(↑(X5 (y9 tx) L x.1).length:Int).toNat=(X5 (y9 tx) L L.length).length)/\True)/\(L.length=L.length/\Z7 L.length (λ(j:Nat)=>match(0+(↑(X5 (y9 tx) L x.1).length:Int).toNat).ble j&&j.blt (0+(↑(X5 (y9 tx) L x.1).length:Int).toNat+(L.length- (↑(X5 (y9 tx) L x.1).length:Int).toNat)) with|true=>[Ji 0,Ji 0]|false=>[Ji ((tF (y9 tx) L x.1).getD j dz).tx,Ji ((tF (y9 tx) L x.1).getD j dz).fo]) λ(j:Nat)=>match(X5 (y9 tx) L L.length).length.ble j&&j.blt ((X5 (y9 tx) L L.length).length+(L.length- (X5 (y9 tx) L L.length).length)) with|true=>[Ji 0,Ji 0]|false=>[Ji ((tF (y9 tx) L L.length).getD j dz).tx,Ji ((tF (y9 tx) L L.length).getD j dz).fo])/\(oo (tx.tx=tx.tx/\tx.ta=tx.ta/\tx.row=tx.row/\tx.mo=tx.mo/\True))/\True))):
  H6 prog 196 [.osl 0 0 L.length,.fn (.func 198) [.ref 1 0 0]] [pZ L,bK tx] (.osl 0 0 (X5 (y9 tx) L L.length).length) [c6O L tx,bK tx]:=
 r5 (gC b3j (gC hX gN)) func196 (b32 L tx) [b3V] h
theorem b3v:GK 196 b4Y:=gk func196<|by
 rintro⟨L,tx⟩ (hL:L.length<=1048576);have l:=uC (y9 tx) L L.length;refine b0f (b6a L tx ⟨(L,tx),⟨aU _,Z8,qJ⟩,λn=>?_,λn=>?_⟩) (c0Y (ts:=Wt.ts) l)
 ·obtain⟨e,d⟩:=b3Q (f:=y9 tx) (V8 L.length) λq Q=>by
   have:=c0j (beq_iff_eq.1 n) q Q;unfold d3W at this;unfold y9 bne;rw[this];rfl
  refine⟨⟨⟨rfl,e.symm⟩,Z6⟩,⟨rfl,?_⟩,Z8⟩
  exact b5W (row:=Y5 L) (row':=Y5 (tF (y9 tx) L L.length)) (z:=zWt) (λi _=>sJ) (Nat.le_of_eq e.symm)
 ·obtain⟨i,hi,hp,hl,h⟩:=b4S n;have hi:i<L.length:=hi;obtain⟨e,d⟩:=b3Q (f:=y9 tx) (L:=L) (j:=i) Z9 λq Q=>by
   have:=hl q Q;unfold d3W at this;unfold y9 bne;rw[this];rfl
  have I:y9 tx (L.getD i dz)=false:=by
   unfold d3W at hp;unfold y9 bne;rw[hp];rfl
  have g:(X5 (y9 tx) L (i+1)).length=i:=by rw[aB I];exact e
  have o:tF (y9 tx) L (i+1)=L:=by rw[c6G I];exact d
  have h:Q9 L.length (d3W L tx)=(i:Int):=h;refine⟨?_,⟨⟨i+1,hi⟩,⟨Z8,Z8,?_,?_,Z6⟩,⟨rfl,?_⟩,Z8⟩,λx=>⟨λhc=>?_,λhc=>?_⟩⟩
  ·dsimp only;rw[h];exact Z3 Z9
  ·dsimp only;rw[h,g]
  ·dsimp only;rw[h];omega
  ·dsimp only;rw[o];exact W2 _ _
  ·have hlt:=Y1 hc;have hle:=uC (y9 tx) L x.1;have e0:(tF (y9 tx) L x.1).getD x.1 dz=L.getD x.1 dz:=c6c hle;rw[G2,G2,C9,C9,e0];refine⟨Y3 hlt,hlt,(L.getD x.1 dz,tx),Z8,λhd=>?_,λhd=>?_⟩
   ·have hd:y9 tx (L.getD x.1 dz)=true:=by
     unfold y9 bne
     skip
     exact hd
    exact⟨Y3 Z9,H9,Z3 Z9,Z3 Z9,⟨x.1+1,hlt⟩,⟨⟨Z8,Z8,congrArg Int.ofNat (jJ hd),X0,Z6⟩,⟨rfl,b94 (m:=2) (ts:=Wt.ts) (λ_=>rfl) hd⟩,Z8⟩,U8.ext_lt hlt⟩
   ·have hd:y9 tx (L.getD x.1 dz)=false:=by
     unfold y9 bne
     skip
     exact hd
    refine⟨Z3 Z9,⟨x.1+1,hlt⟩,⟨⟨Z8,Z8,?_,X0,Z6⟩,⟨rfl,?_⟩,Z8⟩,U8.ext_lt hlt⟩
    ·dsimp only;rw[aB hd]
    ·dsimp only;rw[c6G hd];exact W2 _ _
  ·have hx:x.1=L.length:=by have:=x.2;have:=X6 hc;omega
   rw[hx,G2,C9];exact⟨⟨Z9,Z9⟩,L6,⟨Z9,Z9⟩,Z8⟩
def TdS(W:List Wt)(tx:Int):Type:={x:(Nat×Nat×List Int)×List Int//fI W tx x.1.1 x.1.2.1 (tx::x.1.2.2)=rnd W tx/\a4Q W (tx::x.1.2.2)+(x.1.2.2.length+1)<=x.1.2.1+x.1.1/\x.1.2.1<=x.1.2.2.length+1/\x.1.1+x.1.2.1=200/\tx ∉ x.1.2.2/\x.2.length<=x.1.2.1}
def TdI(W:List Wt)(tx a:Int)(R:List Int)(n:Nat):Type:={y:(Nat×List Int)×List Int//y.1.1<=W.length/\scn W tx a R y.1.1=some (tx::y.1.2)/\tx ∉ y.1.2/\y.2.length<=n}
def b84(l:Lks)(tx:Int):Nat->Ann
 |0=>.one (TdS l.W tx) (λx=>⟨[(1,Ji tx),(2,Ji tx),(3,.ref 0 0 0),(7,.osl 1 0 x.1.1.2.2.length),(8,.osl 2 x.1.2.length (x.1.1.2.2.length+1-x.1.1.2.1))],[lkB l,z6 x.1.1.2.2,z6 (x.1.2++(tx::x.1.1.2.2).drop x.1.1.2.1)]⟩) (λx=>x.1.1.1) b9v b9v (λx=>fun
  |1=>.one (TdI l.W tx ((tx::x.1.1.2.2).getD x.1.1.2.1 0) (tx::x.1.1.2.2) (x.1.1.2.1+1)) (λy=>⟨[(1,Ji tx),(2,Ji tx),(3,.ref 0 0 0),(7,.osl 1 0 y.1.1.2.length),(8,.osl 2 y.1.2.length (y.1.1.2.length-x.1.1.2.1)),(9,Ji ((tx::x.1.1.2.2).getD x.1.1.2.1 0)),(24,wtS l.W),(25,Ji l.W.length),(26,Ji y.1.1.1)],[lkB l,z6 y.1.1.2,z6 (y.1.2++y.1.1.2.drop x.1.1.2.1)]⟩) (λy=>l.W.length-y.1.1.1) b9v b9v (λ_=>Y9)
  |_=>.none)
 |_=>.none
def c1w:Con:=.rel ⟨Lks×Int,λx=>[.agg x.1.ts,Ji x.2,Ji x.2],λx=>.bool (rnd x.1.W x.2),λx=>x.1.W.length<=100⟩
theorem c4m{tx v:Int}{S:List Int}:anyI (tx::S).length (thr (tx::S) v)=((tx==v)||anyI S.length (sN S v)):=by
 rw[Bool.eq_iff_iff,tB,U3,U3];constructor
 ·rintro⟨i,hi,hp⟩;cases i with
  |zero=>exact .inl hp
  |succ i=>
   refine .inr ⟨i,by simp at hi;omega,?_⟩
   have hp:(S.getD i 0==v)=true:=hp;unfold sN;rw[beq_iff_eq] at hp ⊢;exact hp.symm
 ·rintro(h|⟨i,hi,hp⟩)
  ·exact⟨0,W8,h⟩
  ·refine⟨i+1,H4,?_⟩
   show(S.getD i 0==v)=true;unfold sN at hp;rw[beq_iff_eq] at hp ⊢;exact hp.symm
theorem b64{v:Int}{S:List Int}(h:anyI S.length (sN S v)=true):v ∈ S:=by
 obtain⟨i,hi,hp⟩:=U3.1 h;unfold sN at hp;rw[beq_iff_eq] at hp;rw[hp,R2,J4 hi]
 exact List.getElem_mem hi
theorem a1Z{L:List Int}{v:Int}{r:Nat->List T}(h:∀j,j<L.length->r j=Y8 L j):Z7 (L.length+1) (X7 r L.length λk=>[Ji ([v].getD k 0)]) (Y8 (L++[v])):=by
 intro j J;unfold X7;by_cases hl:j<L.length
 ·rw[tL hl];dsimp only;rw[h j hl];unfold Y8;rw[R2,R2,uW hl]
 ·obtain rfl:j=L.length:=by omega
  rw[qH hl];dsimp only;unfold Y8;rw[j_i,R2 (l:=L++[v]),List.getElem?_concat_length]
  rfl
theorem b5n:GK 202 c1w:=gk func202<|by
 rintro⟨l,tx⟩ (h:l.W.length<=100);have W:∀R,a4Q l.W R<=100:=λR=>Nat.le_trans (List.length_filter_le _ _) h
 refine S1 (gC a6A (gC Q5 (gC Q5 (gC Q5 (gC Q5 (gC Q5 (gC Q5 (gC Q5 (gC Q5 (gC Q5 gN)))))))))) func202 (b84 l tx) (α:=let t:=(0=0/\0=0);let a:=(Z2 Y5 l.W l.W);let v:=(l.W.length:Int);let r:=(oo ((Z2 Y7 l.H l.H)/\a/\True));(∃(x:TdS l.W tx),let g:=x.1.1.2;let pa:=(x.1.2++List.drop g.1 (tx::g.2));(tx=tx/\tx=tx/\t/\(0=0/\0=g.2.length)/\(0=x.1.2.length/\1=g.2.length+1-g.1)/\True)/\r/\(0=g.2.length/\Z7 0 (tk 1 []) (Y8 g.2))/\(1=pa.length/\Z7 1 (tk 1 [Ji tx]) (Y8 pa))/\True)/\∀(x:TdS l.W tx),let pe:=x.1.2.length;let p:=x.1.1.2;let pb:=(p.2.length+1-p.1);let m:=(x.1.2++List.drop p.1 (tx::p.2));let j:=(tx::p.2).getD;bd ((↑pb:Int)>0) (V7 (0:Int) pb/\Lt (pe+0) m.length/\jH (1:Int) pb/\(∃(X:TdI l.W tx ((tx::x.1.1.2.2).getD x.1.1.2.1 (0:Int)) (tx::x.1.1.2.2) (x.1.1.2.1+1)),(tx=tx/\tx=tx/\t/\(0=0/\p.2.length=X.val.1.2.length)/\(pe+1=X.val.2.length/\p.2.length+1-p.1-1=X.val.1.2.length-p.1)/\m.getD (pe+0) 0=j p.1 (0:Int)/\a/\v=v/\0=(X.val.1.1:Int)/\True)/\r/\(Z2 Y8 p.2 X.val.1.2)/\(Z2 Y8 m (X.val.2++List.drop p.1 X.val.1.2))/\True)/\∀(X:TdI l.W tx ((tx::x.1.1.2.2).getD x.1.1.2.1 (0:Int)) (tx::x.1.1.2.2) (x.1.1.2.1+1)),let pg:=(l.W.length-X.val.1.1);let w:=(X.val.1.1:Int);let u:=(X.val.1.2.length-p.1);let pc:=(X.val.2.length+u);let z:=(X.val.2++List.drop p.1 X.val.1.2);let q:=(l.W.getD w.toNat dz);bd (w<v) (V7 w l.W.length/\∃(n:(List Int×Nat×Int)),((q.tx !=j p.1 (0:Int))=false->Le (0+X.val.1.2.length) X.val.1.2.length/\((X.val.1.2.length=n.2.1/\Z7 X.val.1.2.length (Y8 X.val.1.2) (Y8 n.1))/\q.fo=n.2.2/\True)/\M1 n.2.1)/\br (q.tx !=j p.1 (0:Int)||anyI n.2.1 (sN n.1 n.2.2)) (Ri (w+1)/\∃(y:TdI l.W tx ((tx::x.1.1.2.2).getD x.1.1.2.1 (0:Int)) (tx::x.1.1.2.2) (x.1.1.2.1+1)),let pf:=y.1.1;((tx=tx/\tx=tx/\t/\(0=0/\X.val.1.2.length=pf.2.length)/\(X.val.2.length=y.1.2.length/\X.val.1.2.length-p.1=pf.2.length-p.1)/\j p.1 0=j p.1 (0:Int)/\a/\v=v/\w+1=(pf.1:Int)/\True)/\r/\(Z2 Y8 X.val.1.2 pf.2)/\(Z2 Y8 z (y.1.2++List.drop p.1 pf.2))/\True)/\Lt (l.W.length-pf.1) pg) (br (q.fo==tx) (true=rnd l.W tx) ((Le X.val.1.2.length X.val.1.2.length/\U9 X.val.1.2.length 1 8)/\∀(b:Bool),let f:=(bif b then X.val.1.2.length-p.1+1 else X.val.2.length+u+1);(Le pc z.length/\Lt 0 1/\U9 pc 1 8)/\Ri (w+1)/\∃(y:TdI l.W tx ((tx::x.1.1.2.2).getD x.1.1.2.1 (0:Int)) (tx::x.1.1.2.2) (x.1.1.2.1+1)),let c:=y.1.1;let pd:=(y.1.2++List.drop p.1 c.2);((tx=tx/\tx=tx/\t/\(0=0/\X.val.1.2.length+1=c.2.length)/\((bif b then 0 else X.val.2.length)=y.1.2.length/\X.val.1.2.length-p.1+1=c.2.length-p.1)/\j p.1 0=j p.1 (0:Int)/\a/\v=v/\w+1=(c.1:Int)/\True)/\r/\(X.val.1.2.length+1=c.2.length/\Z7 (X.val.1.2.length+1) (X7 (Y8 X.val.1.2) X.val.1.2.length λ(k:Nat)=>[Ji ([q.fo].getD k (0:Int))]) (Y8 c.2))/\(f=pd.length/\Z7 f (bif b then X7 (λ(i:Nat)=>[Ji (z.getD (X.val.2.length+i) (0:Int))]) u λ(k:Nat)=>[Ji ([q.fo].getD k (0:Int))] else X7 (Y8 z) pc λ(k:Nat)=>[Ji ([q.fo].getD k (0:Int))]) (Y8 pd))/\True)/\Lt (l.W.length-c.1) pg))) (∃(y:TdS l.W tx),let d:=y.1.1.2;((tx=tx/\tx=tx/\t/\(0=0/\X.val.1.2.length=d.2.length)/\(X.val.2.length=y.1.2.length/\X.val.1.2.length-p.1=d.2.length+1-d.1)/\True)/\r/\(Z2 Y8 X.val.1.2 d.2)/\(Z2 Y8 z (y.1.2++List.drop d.1 (tx::d.2)))/\True)/\Lt y.1.1.1 x.1.1.1)) (false=rnd l.W tx)) ⟨⟨⟨((200,0,[]),[]),rfl,by have:=W [tx];dsimp only[List.length_nil];omega,O3 _,rfl,W8,O3 _⟩,⟨rfl,rfl,⟨rfl,rfl⟩,⟨rfl,rfl⟩,⟨rfl,rfl⟩,Z6⟩,⟨rfl,rfl,⟨rfl,W2 _ _⟩,⟨rfl,W2 _ _⟩,Z6⟩,⟨rfl,λj J=>absurd J (J5 _)⟩,⟨rfl,λj J=>by(obtain rfl:j=0:=by omega);rfl⟩,Z6⟩,λx=>?_⟩
 obtain⟨⟨⟨f,i,S⟩,pre⟩,u,Q,hi,L,I,hp⟩:=x;dsimp only at u Q hi L I hp ⊢;have V:=W (tx::S);refine⟨λhc=>?_,λhc=>?_⟩
 ·have hlt:i<S.length+1:=by have:=E4 hc;omega
  have o:i<(tx::S).length:=hlt;obtain⟨g,rfl⟩:∃g,f=g+1:=⟨f-1,Z9⟩
  rw[c2I o] at u;have z:(tx::S).drop i=(tx::S).getD i 0::S.drop i:=by
   rw[List.drop_eq_getElem_cons o,R2,J4 o]
   rfl
  have t:pre++(tx::S).drop i=(pre++[(tx::S).getD i 0])++S.drop i:=by rw[z,List.append_assoc];rfl
  have A:(pre++(tx::S).drop i).getD (pre.length+0) 0=(tx::S).getD i 0:=by
   rw[Nat.add_zero,R2,tG (V8 _),j_i,z]
   rfl
  refine⟨⟨Z9,Z9⟩,by unfold Lt;rw[K2,List.length_drop];simp only[List.length_cons];omega,⟨Z9,Z9⟩,⟨⟨((0,S),pre++[(tx::S).getD i 0]),O3 _,rfl,I,H4⟩,⟨rfl,rfl,⟨rfl,rfl⟩,⟨rfl,rfl⟩,⟨W8,X0⟩,A,⟨rfl,W2 _ _⟩,rfl,rfl,Z6⟩,⟨rfl,rfl,⟨rfl,W2 _ _⟩,⟨rfl,W2 _ _⟩,Z6⟩,⟨rfl,W2 _ _⟩,⟨by rw[t],by rw[t];exact W2 _ _⟩,Z6⟩,λy=>?_⟩
  obtain⟨⟨⟨k,S'⟩,d⟩,F,hs,q,r⟩:=y;dsimp only at F hs q r ⊢;obtain⟨Y,M,U⟩:=a7m k (tx::S') F hs;simp only[List.length_cons] at M U;have O:=W (tx::S');rw[G2];refine⟨λhc2=>?_,λhc2=>?_⟩
  ·have hkt:=Y1 hc2;have hss:=eP hs;rw[c4m] at hss;refine⟨Y3 hkt,(S',S'.length,(l.W.getD k dz).fo),λ_=>⟨L6,Z8,qJ⟩,λhq=>?_,λhq=>⟨λhb=>?_,λhb=>⟨⟨V8 _,R1⟩,λb=>?_⟩⟩⟩
   ·have B:scn l.W tx ((tx::S).getD i 0) (tx::S) (k+1)=some (tx::S'):=by
     rw[hss];split
     ·rename_i ha;simp only[tB] at hq;have hany:=hq.resolve_left (by rw[ha];simp)
      rw[if_neg (λe:(l.W.getD k dz).fo=tx=>q (by have:=b64 hany;rwa [e] at this)),if_pos (by rw[hany];simp)]
     ·rfl
    exact⟨Z3 Z9,⟨((k+1,S'),d),hkt,B,q,r⟩,⟨⟨rfl,rfl,Z8,Z8,Z8,rfl,Z8,rfl,X0,Z6⟩,Z8⟩,D9⟩
   ·simp only[zV,bne_eq_false_iff_eq] at hq;rw[if_pos hq.1,if_pos (beq_iff_eq.1 hb)] at hss;have:=mW hss (l.W.length- (k+1));rw[show k+1+(l.W.length- (k+1))=l.W.length by omega] at this
    rw[this] at u;exact u
   ·simp only[zV,bne_eq_false_iff_eq] at hq;have hft:¬ (l.W.getD k dz).fo=tx:=λe=>by rw[e] at hb;simp at hb
    rw[if_pos hq.1,if_neg hft,if_neg (by rw[hq.2];simp;exact λe=>hft e.symm)] at hss
    generalize (l.W.getD k dz).fo=v at*;have hd2:(S'++[v]).drop i=S'.drop i++[v]:=List.drop_append_of_le_length Z9
    have N:(d++S'.drop i).length=d.length+(S'.length-i):=by rw[K2,List.length_drop]
    have C:(S'.drop i).length=S'.length-i:=List.length_drop;refine⟨⟨L6,H9,R1⟩,Z3 Z9,⟨((k+1,S'++[v]),bif b then[] else d),hkt,hss,(by simp only[List.mem_append,List.mem_singleton];rintro(e|e);exact q e;exact hft e.symm),by cases b<;>simp<;>omega⟩,⟨⟨rfl,rfl,⟨rfl,rfl⟩,⟨rfl,W8⟩,⟨by cases b<;>rfl,a0c⟩,rfl,⟨rfl,W2 _ _⟩,rfl,X0,Z6⟩,⟨rfl,rfl,⟨rfl,W2 _ _⟩,⟨rfl,W2 _ _⟩,Z6⟩,⟨W8,a1Z λ_ _=>rfl⟩,⟨?_,?_⟩,Z6⟩,D9⟩
    ·dsimp only;rw[hd2];cases b with
     |true=>simp
     |false=>simp only[cond_false,K2,List.length_drop,List.length_singleton];omega
    ·dsimp only;rw[hd2];cases b with
     |true=>
      simp only[cond_true,List.nil_append];rw[←C];refine a1Z λj J=>?_
      unfold Y8;rw[R2,R2,tG Z9,show d.length+j-d.length=j by omega]
     |false=>
      simp only[cond_false];rw[←N,←List.append_assoc];exact a1Z λ_ _=>rfl
  ·obtain rfl:k=l.W.length:=by have:=X6 hc2;omega
   rw[hs] at u;exact⟨⟨((g,i+1,S'),d),u,X0,X0,X0,q,r⟩,⟨⟨rfl,rfl,Z8,Z8,⟨rfl,X0⟩,Z6⟩,Z8⟩,D9⟩
 ·have hge:¬i<(tx::S).length:=by have:=s6 hc;simp only[List.length_cons];omega
  rw[←u];exact(c2B hge).symm
def sQ(L:List (List Wt))(i:Nat):List T:=[wtS (L.getD i [])]
def b9m(L:List (List Wt)):T:=.sl 1 L.length (sQ L)
def G7(L:List (List Wt)):Nat->List Wt
 |0=>[]
 |i+1=>G7 L i++L.getD i []
def c3V:Con:=.rmk ⟨Nat,λn=>[.v (.slice none 0 0),Ji n],λ_=>[],λ_=>.osl 0 0 0,λ_=>[pZ []],λn=>1<=n/\n<=1000000⟩
theorem c23(n:Nat)(h:
let q:=((n:Int)-0);let p:=q.toNat;  (decide ((n:Int)<0)=true->False)/\(decide ((n:Int)<0)=false->Ri (0:Int)/\Ri q/\bd ((n:Int)-0>0) (jH (0:Int) 0/\(Nn q/\Lt 0 p/\U9 0 p 16)/\jH (0:Int) p/\((0=0/\Int.toNat (0:Int)=0)/\True)/\(p=n/\Z7 p (λ(x:Nat)=>[Ji 0,Ji 0]) λ(x:Nat)=>[Ji 0,Ji 0])/\True) ((K4 (u7 [none]) (T.v (Value.slice none 0 0)) (T.osl 0 0 0)/\True)/\False/\True))):
  H6 prog 243 [.v (.slice none 0 0),Ji n] [] (.osl 0 0 0) [some (.arr true 0 2 n λ_=>zWt)]:=
 r5 gN func243 Y9 [[.vl 0 []]] h
def c6g:Con:=.rmk ⟨List (List Wt),λL=>[b9m L],λ_=>[],λL=>.osl 0 0 (G7 L L.length).length,λL=>[pZ (G7 L L.length)],λL=>L.length<=100/\1<=(G7 L L.length).length/\(G7 L L.length).length<=1000000⟩
def c5Y(L:List (List Wt)):Nat->Ann
 |0=>.one (Up L.length) (λx=>⟨[(0,b9m L),(3,Ji (G7 L x.1).length),(9,b9m L),(10,Ji L.length),(11,Ji x.1)],[]⟩) (λx=>L.length-x.1) [] [] (λ_=>fun
  |1=>.one (Up L.length) (λx=>⟨[(6,.osl 0 0 (G7 L x.1).length),(25,b9m L),(26,Ji L.length),(27,Ji x.1)],[pZ (G7 L x.1)]⟩) (λx=>L.length-x.1) [.at_ 6] [.at_ 6] (λ_=>Y9)
  |_=>.none)
 |_=>.none
theorem c1n:GK 243 c3V:=gk func243<|by
 rintro n ⟨e,d⟩;refine⟨b0f (c23 n ⟨λq=>(by have:=E4 q;omega),λ_=>⟨Z3 Z9,Z3 Z9,λ_=>⟨⟨Z9,Z9⟩,⟨tI,H9,R1⟩,⟨Z9,Z9⟩,Z8,⟨Z9,W2 _ _⟩,Z6⟩,λq=>(by have:=s6 q;omega)⟩⟩) ?_,rfl,nL []⟩
 refine⟨rfl,λk o' h=>?_⟩
 cases k with
 |zero=>
  have h:pZ []=some o':=h;unfold pZ at h;simp only[X2] at h;refine⟨_,rfl,.inr ⟨_,_,_,_,_,_,_,rfl,h.symm,O3 _,λi hi=>absurd hi (J5 _)⟩⟩
 |succ k=>simp[Z1] at h
theorem b6z(L:List (List Wt))(i:Nat):∀d,(G7 L i).length<=(G7 L (i+d)).length
 |0=>V8 _
 |d+1=>by
  have:=b6z L i d;show _<=(G7 L (i+d)++L.getD (i+d) []).length;rw[K2];omega
theorem c5q:GK 201 c6g:=gk func201<|by
 rintro L ⟨l,f,g⟩;have e:∀i,i<=L.length->(G7 L i).length<=1000000:=λi hi=>by
  have:=b6z L i (L.length-i);rw[show i+(L.length-i)=L.length by omega] at this
  omega
 have d:∀i,(G7 L (i+1)).length=(G7 L i).length+(L.getD i []).length:=λi=>K2
 refine⟨r5 (gC c1n gN) func201 (c5Y L) [[.vl 0 []]] (α:=let v:=(Z2 sQ L L);let q:=(L.length:Int);(∃(x:Up L.length),(v/\0=(↑(G7 L x.1).length:Int)/\v/\q=q/\0=(x.1:Int)/\True)/\True)/\∀(x:Up L.length),let w:=(x.1:Int);let u:=(↑(G7 L x.1).length:Int);let z:=(↑(L.getD w.toNat []).length:Int);bd (w<q) (V7 w L.length/\Ri (u+z)/\bd (u+z<0) False (Ri (w+1)/\∃(y:Up L.length),((v/\u+z=(↑(G7 L y.1).length:Int)/\v/\q=q/\w+1=(y.1:Int)/\True)/\True)/\Lt (L.length-y.1) (L.length-x.1))) (∃(X:Nat),((Value.slice none 0 0=Value.slice none 0 0/\u=(X:Int)/\True)/\1<=X/\X<=1000000)/\(∃(x:Up L.length),let k:=(G7 L x.1);((0=0/\0=k.length)/\v/\q=q/\0=(x.1:Int)/\True)/\(0=k.length/\Z7 0 (Y5 []) (Y5 k))/\True)/\∀(x:Up L.length),let m:=(G7 L x.1);let j:=(x.1:Int);let r:=(L.getD j.toNat []);let p:=m.length;bd (j<q) (V7 j L.length/\(Le p p/\U9 p r.length 16)/\Ri (j+1)/\∃(y:Up L.length),let n:=(G7 L y.1);(((0=0/\p+r.length=n.length)/\v/\q=q/\j+1=(y.1:Int)/\True)/\(p+r.length=n.length/\Z7 (p+r.length) (X7 (Y5 m) p (Y5 r)) (Y5 n))/\True)/\Lt (L.length-y.1) (L.length-x.1)) (((0=0/\p=(G7 L L.length).length)/\True)/\(Z2 Y5 m (G7 L L.length))/\True))) ⟨⟨⟨0,O3 _⟩,Z8⟩,λx=>⟨λhc=>?_,λhc=>?_⟩⟩,rfl,nL _⟩
 ·have h:=Y1 hc;have j:=e (x.1+1) h;have A:=d x.1;rw[G2];exact⟨Y3 h,Z3 Z9,λq=>(by have:=E4 q;omega),λ_=>⟨Z3 Z9,⟨x.1+1,h⟩,⟨⟨Z8,X0,Z8,rfl,X0,Z6⟩,Z6⟩,D9⟩⟩
 ·have hx:x.1=L.length:=by have:=x.2;have:=X6 hc;omega
  refine⟨(G7 L L.length).length,⟨⟨rfl,by rw[hx],Z6⟩,f,g⟩,⟨⟨0,O3 _⟩,⟨⟨rfl,rfl⟩,⟨rfl,W2 _ _⟩,rfl,rfl,Z6⟩,⟨rfl,W2 _ _⟩,Z6⟩,λy=>⟨λhc2=>?_,λhc2=>?_⟩⟩
  ·have h:=Y1 hc2;have j:=e (y.1+1) h;have A:=d y.1;rw[G2];exact⟨Y3 h,⟨V8 _,R1⟩,Z3 Z9,⟨y.1+1,h⟩,⟨⟨⟨rfl,A.symm⟩,Z8,rfl,X0,Z6⟩,⟨A.symm,a5z _ _⟩,Z6⟩,D9⟩
  ·have hy:y.1=L.length:=by have:=y.2;have:=X6 hc2;omega
   rw[hy];exact Z8
def tkX(e:Eng)(x:Lck):Eng:={e with lk:=(X4 e.lk x).1}
def c7V(e:Eng)(tx:Int):Eng:={e with lk:=N6 e.lk tx}
def b8U:Con:=.reff ⟨Eng×Lck×Nat,λx=>[.ref 0 0 11,.agg x.2.1.ts],λx=>x.1.bx x.2.2,λx=>Ji (X4 x.1.lk x.2.1).2,λx=>(tkX x.1 x.2.1).nx x.2.2,λx=>x.1.lk.H.length<=60/\x.1.lk.W.length<=100⟩
def b9e(e:Eng)(x:Lck)(v:Nat):Nat->Ann
 |0=>.one (Up e.lk.H.length) (λi=>⟨[(0,.ref 0 0 11),(3,.ref 9 0 0),(4,Ji 0),(5,.osl 10 0 (V3 e.lk.H x i.1).length),(28,.osl 7 0 e.lk.H.length),(29,Ji e.lk.H.length),(30,Ji i.1)],(c7V e x.tx).bx v++[bK x,pZ (V3 e.lk.H x i.1)]⟩) (λi=>e.lk.H.length-i.1) c1C c1C (λ_=>Y9)
 |_=>.none
theorem b4c(L:List Lck)(x:Lck)(i:Nat):hsI L x i=b6 L x i:=by
 unfold hsI hsB b6 cT tM;rw[Bool.eq_iff_iff];simp only[O4,tB,beq_iff_eq];constructor
 ·rintro⟨⟨a,b,c⟩,(d|d)|d⟩
  ·exact⟨⟨⟨a,b⟩,c⟩,.inl (.inr d)⟩
  ·exact⟨⟨⟨a,b⟩,c⟩,.inr d⟩
  ·exact⟨⟨⟨a,b⟩,c⟩,.inl (.inl d)⟩
 ·rintro⟨⟨⟨a,b⟩,c⟩,(d|d)|d⟩
  ·exact⟨⟨a,b,c⟩,.inr d⟩
  ·exact⟨⟨a,b,c⟩,.inl (.inl d)⟩
  ·exact⟨⟨a,b,c⟩,.inl (.inr d)⟩
theorem b4o(L:List Wt)(w:Wt)(i:Nat):isW L w i=dW L w i:=by
 unfold isW dW;rw[show(w.tx==(L.getD i dz).tx)=((L.getD i dz).tx==w.tx) from Bool.eq_iff_iff.2 (by simp only[beq_iff_eq];exact eq_comm),show(w.fo==(L.getD i dz).fo)=((L.getD i dz).fo==w.fo) from Bool.eq_iff_iff.2 (by simp only[beq_iff_eq];exact eq_comm)]
theorem a0I{n:Nat}{p q:Nat->Bool}(h:∀i,p i=q i):anyI n p=anyI n q:=by rw[show p=q from funext h]
theorem b5c:GK 125 b8U:=gk func125<|by
 rintro⟨e,x,v⟩ ⟨A,z⟩;dsimp only at A z;have o:(X5 (cF x.tx) e.lk.W e.lk.W.length).length<=e.lk.W.length:=uC (cF x.tx) e.lk.W e.lk.W.length;have q:=λn=>a6K (L:=e.lk.H) (x:=x) n
 refine r5 (gC b3v (gC hX (gC c3X (gC dH (gC b07 (gC c5q (gC b5n gN))))))) func125 (b9e e x v) a8w (α:=let px:=(0=0/\11=11);let pu:=(0=0/\0=0);let po:=(Z2 Y7 e.lk.H e.lk.H);let pm:=(oo (x.tx=x.tx/\x.ta=x.ta/\x.row=x.row/\x.mo=x.mo/\True));let ph:=(Z2 V1 e.X e.X);let pf:=(Z2 Y0 e.s.L e.s.L);let pe:=(e.lk.H.length:Int);let pd:=(Z2 Y6 e.s.d.C e.s.d.C);let pc:=(Z2 Z5 e.s.d.E e.s.d.E);let pb:=(0=0/\e.lk.H.length=e.lk.H.length);let pa:=(0=0/\e.X.length=e.X.length);let t:=(0=0/\e.s.L.length=e.s.L.length);let i:=(0=0/\e.s.fr.length=e.s.fr.length);let c:=(Z2 Y8 e.s.d.keep e.s.d.keep);let b:=(0=0/\e.s.d.C.length=e.s.d.C.length);let a:=(0=0/\e.s.d.E.length=e.s.d.E.length);let m:=(X4 e.lk x);let pz:=m.1.H.length;let ps:=m.1.W.length;let pp:=(Z2 Y7 e.lk.H m.1.H);let pj:=(0=0/\e.lk.H.length=pz);let k:=(0=0/\e.s.d.keep.length=e.s.d.keep.length);let r:=(v=v/\e.s.fr.length=e.s.fr.length/\U7 e.s.fr.length (Z0 e.s.fr) (Z0 e.s.fr));let q:=(X5 (cF x.tx) e.lk.W e.lk.W.length);let pn:=q.length;let w:=(oo (a/\b/\e.s.d.A=e.s.d.A/\k/\e.s.ep=e.s.ep/\t/\e.s.S=e.s.S/\i/\e.s.J=e.s.J/\e.up=e.up/\pa/\pb/\(0=0/\pn=pn)/\e.N=e.N/\True));let u:=(pc/\pd/\c/\pf/\r/\ph/\pp/\(Z2 Y5 q m.1.W)/\True);let p:=(oo (a/\b/\e.s.d.A=e.s.d.A/\k/\e.s.ep=e.s.ep/\t/\e.s.S=e.s.S/\i/\e.s.J=e.s.J/\e.up=e.up/\pa/\pj/\(0=0/\pn=ps)/\e.N=e.N/\True));let pw:=((7=m.2/\True)/\p/\T8 u);∃(f:(List Wt×Lck)),let l:=(X5 (y9 f.2) f.1 f.1.length);(((0=0/\e.lk.W.length=f.1.length)/\(Fn.func 198=Fn.func 198/\pu/\True)/\True)/\((Z2 Y5 e.lk.W f.1)/\(1=1/\Z7 1 (λ(j:Nat)=>[Ji x.tx,Ji x.ta,Ji x.row,Ji x.mo]) λ(x:Nat)=>[Ji f.2.tx,Ji f.2.ta,Ji f.2.row,Ji f.2.mo])/\True)/\f.1.length<=1048576)/\∃(j:(Lks×Lck)),((Le (0+e.lk.H.length) e.lk.H.length/\Le (0+l.length) l.length)/\(((Z2 Y7 e.lk.H j.1.H)/\(Z2 Y5 l j.1.W)/\True)/\(f.2.tx=j.2.tx/\f.2.ta=j.2.ta/\f.2.row=j.2.row/\f.2.mo=j.2.mo/\True)/\True)/\M1 j.1.H.length)/\br (anyI j.1.H.length (hsI j.1.H j.2)) ((0=m.2/\True)/\(oo (a/\b/\e.s.d.A=e.s.d.A/\k/\e.s.ep=e.s.ep/\t/\e.s.S=e.s.S/\i/\e.s.J=e.s.J/\e.up=e.up/\pa/\pj/\(0=0/\l.length=ps)/\e.N=e.N/\True))/\T8 (pc/\pd/\c/\pf/\r/\ph/\pp/\(Z2 Y5 l m.1.W)/\True)) ((∃(X:Up e.lk.H.length),let pq:=(V3 e.lk.H x X.val);(px/\pu/\(0:Int)=0/\(0=0/\0=pq.length)/\pb/\pe=pe/\0=(X.val:Int)/\True)/\(oo (a/\b/\e.s.d.A=e.s.d.A/\k/\e.s.ep=e.s.ep/\t/\e.s.S=e.s.S/\i/\e.s.J=e.s.J/\e.up=e.up/\pa/\pb/\(0=0/\l.length=pn)/\e.N=e.N/\True))/\pc/\pd/\c/\pf/\r/\ph/\po/\(Z2 Y5 l q)/\(oo (f.2.tx=x.tx/\f.2.ta=x.ta/\f.2.row=x.row/\f.2.mo=x.mo/\True))/\(0=pq.length/\Z7 0 (tk 2 []) (Y5 pq))/\True)/\∀(X:Up e.lk.H.length),let py:=(e.lk.H.length-X.val);let pk:=(X.val:Int);let pi:=(V3 e.lk.H x X.val);let n:=(e.lk.H.getD (0+pk.toNat) dz);let z:=pi.length;let pv:=(↑z:Int);bd (pk<pe) (V7 pk e.lk.H.length/\Lt (0+pk.toNat) e.lk.H.length/\∃(g:(Lck×Lck)),(((n.tx=g.1.tx/\n.ta=g.1.ta/\n.row=g.1.row/\n.mo=g.1.mo/\True)/\(x.tx=g.2.tx/\x.ta=g.2.ta/\x.row=g.2.row/\x.mo=g.2.mo/\True)/\True)/\True)/\∃(h:(List Wt×Nat×Wt)),(clash g.1 g.2=true->Le (0+z) z/\((z=h.2.1/\Z7 z (Y5 pi) (Y5 h.1))/\(x.tx=h.2.2.tx/\n.tx=h.2.2.fo/\True)/\True)/\M1 h.2.1)/\br (clash g.1 g.2&& !anyI h.2.1 (isW h.1 h.2.2)) ((Le 1 1/\Le z z/\U9 z 1 16)/\Ri (pk+1)/\∃(y:Up e.lk.H.length),let pr:=(V3 e.lk.H x y.1);((px/\pu/\(0:Int)=0/\(0=0/\z+1=pr.length)/\pb/\pe=pe/\pk+1=(y.1:Int)/\True)/\w/\pc/\pd/\c/\pf/\r/\ph/\po/\(Z2 Y5 q q)/\pm/\(z+1=pr.length/\Z7 (z+1) (X7 (Y5 pi) z (tk 2 [Ji x.tx,Ji n.tx])) (Y5 pr))/\True)/\Lt (e.lk.H.length-y.1) py) (Ri (pk+1)/\∃(y:Up e.lk.H.length),let qa:=(V3 e.lk.H x y.1);((px/\pu/\(0:Int)=0/\(0=0/\z=qa.length)/\pb/\pe=pe/\pk+1=(y.1:Int)/\True)/\w/\pc/\pd/\c/\pf/\r/\ph/\po/\(Z2 Y5 q q)/\pm/\(Z2 Y5 pi qa)/\True)/\Lt (e.lk.H.length-y.1) py)) (br (pv==0&&pe==60) pw (br (pv==0) ((Le 1 1/\Le e.lk.H.length e.lk.H.length/\U9 e.lk.H.length 1 32)/\(0=m.2/\True)/\(oo (a/\b/\e.s.d.A=e.s.d.A/\k/\e.s.ep=e.s.ep/\t/\e.s.S=e.s.S/\i/\e.s.J=e.s.J/\e.up=e.up/\pa/\(0=0/\e.lk.H.length+1=pz)/\(0=0/\pn=ps)/\e.N=e.N/\True))/\T8 (pc/\pd/\c/\pf/\r/\ph/\(e.lk.H.length+1=pz/\Z7 (e.lk.H.length+1) (X7 (Y7 e.lk.H) e.lk.H.length (tk 4 [Ji x.tx,Ji x.ta,Ji x.row,Ji x.mo])) (Y7 m.1.H))/\(Z2 Y5 q m.1.W)/\True)) (Ri ((↑pn:Int)+pv)/\bd ((↑pn:Int)+pv>100) pw (∃(g:(List (List Wt))),let pg:=(G7 g (g.length));let pt:=pg.length;((Le (0+pn) pn/\Le (0+z) z)/\((2=g.length/\Z7 2 (eY [T.sl 2 q.length (Y5 q)] [T.sl 2 z (Y5 pi)]) (sQ g))/\True)/\g.length<=100/\1<=pt/\pt<=1000000)/\∃(h:(Lks×Int)),((Le (0+e.lk.H.length) e.lk.H.length/\Le (0+pt) pt)/\(((Z2 Y7 e.lk.H h.1.H)/\(Z2 Y5 pg h.1.W)/\True)/\x.tx=h.2/\x.tx=h.2/\True)/\h.1.W.length<=100)/\br (rnd h.1.W h.2) ((14=m.2/\True)/\p/\T8 u) ((13=m.2/\True)/\(oo (a/\b/\e.s.d.A=e.s.d.A/\k/\e.s.ep=e.s.ep/\t/\e.s.S=e.s.S/\i/\e.s.J=e.s.J/\e.up=e.up/\pa/\pj/\(0=0/\pt=ps)/\e.N=e.N/\True))/\T8 (pc/\pd/\c/\pf/\r/\ph/\pp/\(Z2 Y5 pg m.1.W)/\True)))))))) ⟨(e.lk.W,x),⟨Z8,Z8,X0⟩,(N6 e.lk x.tx,x),⟨⟨L6,L6⟩,Z8,by unfold M1 N6;dsimp only;omega⟩,λhh=>?_,λhh=>⟨⟨⟨0,O3 _⟩,Z8,Z8,Z8,Z8,Z8,Z8,Z8,Z8,Z8,Z8,Z8,⟨rfl,K8⟩,Z6⟩,λy=>?_⟩⟩
 ·have hh:anyI e.lk.H.length (b6 e.lk.H x)=true:=by rw[←a0I (b4c e.lk.H x)];exact hh
  have e1:X4 e.lk x=(N6 e.lk x.tx,0):=by unfold X4;rw[if_pos hh]
  rw[e1];exact Z8
 have hh:¬anyI e.lk.H.length (b6 e.lk.H x)=true:=by
  have hh:anyI e.lk.H.length (hsI e.lk.H x)=false:=hh;rw[←a0I (b4c e.lk.H x),hh];simp
 obtain⟨i,hi⟩:=y;dsimp only at hi ⊢;have I:=q i;rw[G2,C9];refine⟨λhc=>?_,λhc=>?_⟩
 ·have hlt:=Y1 hc;have hw1:=c2e (L:=e.lk.H) (x:=x) (i:=i);refine⟨Y3 hlt,hlt,(e.lk.H.getD i dz,x),Z8,(V3 e.lk.H x i,(V3 e.lk.H x i).length,⟨x.tx,(e.lk.H.getD i dz).tx⟩),λ_=>⟨L6,Z8,qJ⟩,λhq=>?_,λhq=>?_⟩
  ·dsimp only at hq;rw[a0I (b4o _ _)] at hq;simp only[O4,xV] at hq;rw[if_pos hq.1,if_neg (by rw[hq.2];simp)] at hw1
   have N:(V3 e.lk.H x i).length+1=(V3 e.lk.H x (i+1)).length:=by rw[hw1];simp
   refine⟨⟨V8 _,V8 _,R1⟩,Z3 Z9,⟨i+1,hlt⟩,⟨⟨Z8,Z8,rfl,⟨rfl,N⟩,Z8,rfl,X0,Z6⟩,Z8,Z8,Z8,Z8,Z8,Z8,Z8,Z8,Z8,Z8,⟨N,?_⟩,Z6⟩,D9⟩
   dsimp only;rw[hw1];exact q9 Wt.ts 2 (λ_=>rfl) (V3 e.lk.H x i) ⟨x.tx,(e.lk.H.getD i dz).tx⟩
  ·dsimp only at hq;rw[a0I (b4o _ _)] at hq;have r:V3 e.lk.H x (i+1)=V3 e.lk.H x i:=by
    rw[hw1];split
    ·rename_i o;rw[o,Bool.true_and,zF] at hq;rw[if_pos hq]
    ·rfl
   refine⟨Z3 Z9,⟨i+1,hlt⟩,?_,D9⟩
   dsimp only;rw[r];exact⟨⟨Z8,Z8,rfl,Z8,Z8,rfl,Z9,Z6⟩,Z8⟩
 ·obtain rfl:i=e.lk.H.length:=by have:=X6 hc;omega
  refine⟨λh60=>?_,λh60=>⟨λh0=>?_,λh0=>⟨Z3 Z9,λB=>?_,λB=>?_⟩⟩⟩
  ·simp only[O4,beq_iff_eq] at h60;have h0:(I9 e.lk x).length=0:=by have:=h60.1;unfold I9;omega
   have e1:X4 e.lk x=(N6 e.lk x.tx,7):=by unfold X4;rw[if_neg hh,if_pos h0,if_pos Z9]
   rw[e1];exact Z8
  ·have h0':(I9 e.lk x).length=0:=by have:=beq_iff_eq.1 h0;unfold I9;omega
   have h60:¬e.lk.H.length=60:=λl=>by rw[h0,l] at h60;cases h60
   have e1:X4 e.lk x=(⟨e.lk.H++[x],(N6 e.lk x.tx).W⟩,0):=by unfold X4;rw[if_neg hh,if_pos h0',if_neg h60]
   rw[e1];exact⟨⟨V8 _,V8 _,R1⟩,Z8,⟨rfl,rfl,Z8,Z8,rfl,Z8,rfl,Z8,rfl,Z8,rfl,rfl,Z8,⟨rfl,W8⟩,Z8⟩,Z6,Z6,Z6,Z6,Z6,Z6,Z6,Z6,Z8,Z8,Z8,Z8,Z8,Z8,⟨W8,q9 Lck.ts 4 (λ_=>rfl) _ x⟩,Z8⟩
  ·have h0':¬ (I9 e.lk x).length=0:=λl=>by
    have l:(V3 e.lk.H x e.lk.H.length).length=0:=l;rw[l] at h0;cases h0
   have hb':(N6 e.lk x.tx).W.length+(I9 e.lk x).length>100:=by have:=E4 B;unfold I9 N6;dsimp only;omega
   have e1:X4 e.lk x=(N6 e.lk x.tx,7):=by unfold X4;rw[if_neg hh,if_neg h0',if_pos hb']
   rw[e1];exact Z8
  ·have t:¬ (V3 e.lk.H x e.lk.H.length).length=0:=λl=>by
    rw[l] at h0;cases h0
   have h0':¬ (I9 e.lk x).length=0:=t;have F:(X5 (cF x.tx) e.lk.W e.lk.W.length).length+(V3 e.lk.H x e.lk.H.length).length<=100:=by have:=s6 B;omega
   have hb':¬ (N6 e.lk x.tx).W.length+(I9 e.lk x).length>100:=by unfold I9 N6;dsimp only;omega
   have u:G7 [X5 (cF x.tx) e.lk.W e.lk.W.length,V3 e.lk.H x e.lk.H.length] 2=(N6 e.lk x.tx).W++I9 e.lk x:=rfl;have C:((N6 e.lk x.tx).W++I9 e.lk x).length=(X5 (cF x.tx) e.lk.W e.lk.W.length).length+(V3 e.lk.H x e.lk.H.length).length:=K2;refine⟨[X5 (cF x.tx) e.lk.W e.lk.W.length,V3 e.lk.H x e.lk.H.length],⟨⟨L6,L6⟩,⟨⟨rfl,λi hi=>by match i,hi with|0,_=>rfl|1,_=>rfl⟩,Z6⟩,by show 2<=100;omega,?_,?_⟩,(⟨e.lk.H,(N6 e.lk x.tx).W++I9 e.lk x⟩,x.tx),⟨⟨L6,L6⟩,⟨⟨⟨rfl,W2 _ _⟩,⟨rfl,W2 _ _⟩,Z6⟩,rfl,rfl,Z6⟩,X0⟩,λhr=>?_,λhr=>?_⟩
   ·show 1<=((N6 e.lk x.tx).W++I9 e.lk x).length;omega
   ·show((N6 e.lk x.tx).W++I9 e.lk x).length<=1000000;omega
   ·have hr:rnd ((N6 e.lk x.tx).W++I9 e.lk x) x.tx=true:=hr;have e1:X4 e.lk x=(N6 e.lk x.tx,14):=by unfold X4;rw[if_neg hh,if_neg h0',if_neg hb',if_pos hr]
    rw[e1];exact Z8
   ·have hr:¬rnd ((N6 e.lk x.tx).W++I9 e.lk x) x.tx=true:=by
     have hr:rnd ((N6 e.lk x.tx).W++I9 e.lk x) x.tx=false:=hr;rw[hr];simp
    have e1:X4 e.lk x=(⟨e.lk.H,(N6 e.lk x.tx).W++I9 e.lk x⟩,13):=by unfold X4;rw[if_neg hh,if_neg h0',if_neg hb',if_neg hr]
    rw[e1];exact Z8
theorem tH{a:Int}(h:(a !=0)=true):¬a=0:=A8
theorem vX{a:Int}(h:(a !=0)=false):a=0:=A8
def a4E(g s:Int):Option Ob:=some (.arr true 1000000 2 1 λ_=>[Ji g,Ji s])
def hitB(r:Rec)(g s:Int):Bool:=(r.g==g)&&(r.s==s)
def b8O:Con:=.reff ⟨Rec×Int×Int×Bool,λx=>[.agg x.1.ts,.ref 0 0 0,.ref 1 0 0],λx=>[a6r x.2.2.2,a4E x.2.1 x.2.2.1],λ_=>.bool true,λx=>[a6r (x.2.2.2||hitB x.1 x.2.1 x.2.2.1),a4E x.2.1 x.2.2.1],λ_=>True⟩
theorem b8W(r:Rec)(g s:Int)(b:Bool)(h:
  (true=true/\True)/\(oo ((b||r.g==g&&r.s==s)=(b||hitB r g s)/\True))/\(oo (g=g/\s=s/\True))/\True):
  H6 prog 187 [.agg r.ts,.ref 0 0 0,.ref 1 0 0] [a6r b,a4E g s] (.bool true) [a6r (b||hitB r g s),a4E g s]:=
 r5 gN func187 Y9 [uY] h
theorem b51:GK 187 b8O:=gk func187<|λx _=>b8W x.1 x.2.1 x.2.2.1 x.2.2.2 Z8
def c28:Con:=.reff ⟨Sto×Int×Int×Int,λx=>[.bref x.1.ts,Ji x.2.1,.fn (.func 187) [.ref 0 0 0,.ref 1 0 0]],λx=>[a6r false,a4E x.2.2.1 x.2.2.2],λ_=>.tup [],λx=>[a6r (kepA x.1.L x.2.2.1 x.2.2.2 61 x.2.1),a4E x.2.2.1 x.2.2.2],λx=>rY x.1.L x.2.1⟩
def KpU(L:List Rec)(g s f:Int):Type:={x:Nat×Int×Bool//(x.2.2||kepA L g s x.1 x.2.1)=kepA L g s 61 f/\x.2.1<=(L.length:Int)/\x.2.1.toNat<x.1}
def c24(t:Sto)(f g s:Int):Nat->Ann
 |0=>.one (KpU t.L g s f) (λx=>⟨[(0,.bref t.ts),(1,Ji x.1.2.1),(2,.fn (.func 187) [.ref 0 0 0,.ref 1 0 0])],[a6r x.1.2.2,a4E g s]⟩) (λx=>x.1.1) uY uY (λ_=>Y9)
 |_=>.none
theorem c1x:GK 186 c28:=gk func186<|by
 rintro⟨t,F,g,s⟩ ⟨L,hl⟩;dsimp only at L hl;have o:=L.1;refine r5 (gC b51 gN) func186 (c24 t F g s) [uY] (α:=let b:=(0=0/\0=0);let w:=(u7 [some 0,some 1]);let v:=(oo (g=g/\s=s/\True));let u:=(T.bref t.ts);let r:=(Fn.func 187=Fn.func 187/\b/\b/\True);(∃(x:KpU t.L g s F),(K4 w u u/\F=x.1.2.1/\r/\True)/\(oo (false=x.1.2.2/\True))/\v/\True)/\∀(x:KpU t.L g s F),let a:=x.1.2;let j:=(a.1- (1:Int));let z:=((True/\True)/\(oo (a.2=kepA t.L g s 61 F/\True))/\v/\True);let q:=(t.L.getD j.toNat dz);bd (a.1>(0:Int)) (Ri j/\V7 j t.L.length/\br (q.k==3) (∃(y:KpU t.L g s F),((K4 w u u/\q.n=y.1.2.1/\r/\True)/\(oo (a.2=y.1.2.2/\True))/\v/\True)/\Lt y.1.1 x.1.1) (∃(X:(Rec×Int×Int×Bool)),let f:=(oo (X.2.1=g/\X.2.2.1=s/\True));let m:=(X.2.2.2||hitB X.1 X.2.1 X.2.2.1);((q.k==2)=true->((EqR q X.1)/\b/\b/\True)/\((1=1/\Z7 1 (λ(x_2:Nat)=>[T.bool a.2]) λ(x:Nat)=>[T.bool X.2.2.2])/\(1=1/\Z7 1 (λ(x:Nat)=>[Ji g,Ji s]) λ(x:Nat)=>[Ji X.2.1,Ji X.2.2.1])/\True)/\True)/\((q.k==2)=true->br (q.k==2&&false) ((True/\True)/\(oo (m=kepA t.L g s 61 F/\True))/\f/\True) (∃(y:KpU t.L g s F),((K4 w u u/\q.p=y.1.2.1/\r/\True)/\(oo (m=y.1.2.2/\True))/\f/\True)/\Lt y.1.1 x.1.1))/\(((q.k==2)=true->False)->br (q.k==2&&false) z (∃(y:KpU t.L g s F),((K4 w u u/\q.p=y.1.2.1/\r/\True)/\(oo (a.2=y.1.2.2/\True))/\v/\True)/\Lt y.1.1 x.1.1)))) z) ⟨⟨⟨(61,F,false),Bool.false_or _,hl,X0⟩,⟨T5 _,Z8⟩,Z8⟩,λx=>?_⟩
 obtain⟨⟨f,a,b⟩,e,j,q⟩:=x;dsimp only at e j q ⊢;refine⟨λhc=>?_,λhc=>?_⟩
 ·have h0:a>0:=E4 hc;have h0':¬a<=0:=by omega
  obtain⟨A,z,u,v⟩:=L.prev (show 1<=a by omega) j
  obtain⟨f,rfl⟩:∃r,f=r+1:=⟨f-1,Z9⟩
  rw[c1R h0'] at e;refine⟨Z3 Z9,⟨Z9,Z9⟩,λd=>?_,λd=>?_⟩
  ·have d:(X8 t.L a).k=3:=beq_iff_eq.1 d;rw[if_pos d] at e;exact⟨⟨(f,(X8 t.L a).n,b),e,X0,X0⟩,⟨⟨T5 _,Z8⟩,Z8⟩,D9⟩
  ·have d:(X8 t.L a).k≠3:=λh=>by
    have d:((X8 t.L a).k==3)=false:=d;rw[h] at d;cases d
   rw[if_neg d] at e;refine⟨(X8 t.L a,g,s,b),λ_=>Z8,λh2=>⟨λi=>?_,λ_=>?_⟩,λh2=>⟨λi=>?_,λ_=>?_⟩⟩
   ·rw[Bool.and_false] at i;cases i
   ·have h2:(X8 t.L a).k=2:=beq_iff_eq.1 h2;have l:((b||hitB (X8 t.L a) g s)||kepA t.L g s f (X8 t.L a).p)=kepA t.L g s 61 F:=by
     rw[←e];unfold hitB;by_cases hg:(X8 t.L a).g=g/\(X8 t.L a).s=s
     ·rw[if_pos ⟨h2,hg⟩,hg.1,hg.2];simp
     ·rw[if_neg λh=>hg h.2]
      have:((X8 t.L a).g==g&&(X8 t.L a).s==s)=false:=by
       cases B:((X8 t.L a).g==g&&(X8 t.L a).s==s) with
       |false=>rfl
       |true=>
        simp only[O4,beq_iff_eq] at B;exact absurd B hg
      rw[this,Bool.or_false]
    exact⟨⟨(f,(X8 t.L a).p,b||hitB (X8 t.L a) g s),l,X0,X0⟩,⟨⟨T5 _,Z8⟩,Z8⟩,D9⟩
   ·rw[Bool.and_false] at i;cases i
   ·have h2:¬ (X8 t.L a).k=2:=λh=>h2 (beq_iff_eq.2 h)
    rw[if_neg λh=>h2 h.1] at e
    exact⟨⟨(f,(X8 t.L a).p,b),e,X0,X0⟩,⟨⟨T5 _,Z8⟩,Z8⟩,D9⟩
 ·have h0:a<=0:=by have:=s6 hc;omega
  rw[c1I h0,Bool.or_false] at e;exact⟨Z8,⟨rfl,rfl,e,Z6⟩,Z8⟩
def b6d:Con:=.rel ⟨Eng×Int×Int×Int,λx=>[.bref x.1.ts,Ji x.2.1,.agg [Ji x.2.2.1,Ji x.2.2.2]],λx=>.bool (uT x.1 x.2.1 x.2.2.1 x.2.2.2),λx=>yH x.1⟩
def b5o(e:Eng)(tx g s:Int):Nat->Ann
 |0=>.one (U8 e.X.length (sL e tx g s)) (λx=>⟨[(0,.bref e.ts),(1,Ji tx),(5,.ref 0 0 0),(13,a3s e.X),(14,Ji e.X.length),(15,Ji x.1)],[a4E g s]⟩) (λx=>e.X.length-x.1) [.box 0] [.box 0] (λ_=>Y9)
 |_=>.none
theorem b2d:GK 115 b6d:=gk func115<|by
 rintro⟨e,tx,g,s⟩ ⟨hL,d,hb⟩;dsimp only at hL d hb;refine S1 (gC c1x gN) func115 (b5o e tx g s) (α:=let z:=(0=0/\0=0);let r:=(T.bref e.ts);let p:=(e.X.length:Int);(∃(x:U8 e.X.length (sL e tx g s)),(K4 (u7 [some 0]) r r/\tx=tx/\z/\(Z2 V1 e.X e.X)/\p=p/\0=(x.1:Int)/\True)/\(oo (g=g/\s=s/\True))/\True)/\∀(x:U8 e.X.length (sL e tx g s)),let q:=(x.1:Int);let u:=(e.X.getD q.toNat dz);bd (q<p) (V7 q e.X.length/\∃(X:(Sto×Int×Int×Int)),(((o6 e.s X.1)/\u.Z=X.2.1/\(Fn.func 187=Fn.func 187/\z/\z/\True)/\True)/\((1=1/\Z7 1 (setRow (λ(x:Nat)=>[T.bool false]) 0 0 [T.bool false]) λ(x:Nat)=>[T.bool false])/\(1=1/\Z7 1 (λ(x:Nat)=>[Ji g,Ji s]) λ(x:Nat)=>[Ji X.2.2.1,Ji X.2.2.2])/\True)/\rY X.1.L X.2.1)/\br (kepA X.1.L X.2.2.1 X.2.2.2 61 X.2.1&&u.id !=tx) (true=uT e tx g s) (Ri (q+1)/\∃(y:U8 e.X.length (sL e tx g s)),((K4 (u7 [some 0]) r r/\tx=tx/\z/\(Z2 V1 e.X e.X)/\p=p/\q+1=(y.1:Int)/\True)/\(oo (X.2.2.1=g/\X.2.2.2=s/\True))/\True)/\Lt (e.X.length-y.1) (e.X.length-x.1))) (false=uT e tx g s)) ⟨⟨F4,⟨T5 _,Z8⟩,Z8⟩,λx=>⟨λhc=>?_,λhc=>?_⟩⟩
 ·have hlt:=Y1 hc;have hx:=hb x.1 hlt;rw[G2];have hkb:(kepA e.s.L g s 61 (e.X.getD x.1 dz).Z&&(e.X.getD x.1 dz).id !=tx)=sL e tx g s x.1:=Bool.and_comm _ _;refine⟨Y3 hlt,(e.s,(e.X.getD x.1 dz).Z,g,s),⟨⟨(jO _),Z8⟩,⟨⟨rfl,λi hi=>b61⟩,Z8⟩,hL,hx⟩,λhq=>?_,λhq=>?_⟩
  ·exact(U3.2 ⟨x.1,hlt,hkb.symm.trans hq⟩).symm
  ·exact⟨V5 hlt Z9,x.succ hlt (hkb.symm.trans hq),⟨⟨T5 _,rfl,Z8,Z8,rfl,J7,Z6⟩,Z8⟩,U8.ext_lt hlt⟩
 ·have h:=X6 hc;exact(R8.2 λj J=>x.2.2 j (yK J h)).symm
def b9L:Con:=.rel ⟨Bz×Int×Int,λx=>[.str x.1,Ji x.2.1,Ji x.2.2],λx=>.bool (u3 x.1 x.2.1 x.2.2),λx=>x.1.length<=1000⟩
theorem b45:GK 114 b9L:=gk func114<|by
 rintro⟨b,ta,id⟩ (h:b.length<=1000);have I:=a07 (t:=b) Z9
 obtain⟨d,e⟩:=a0L b;refine S1 (gC tW gN) func114 Y9 (α:=Lt b.length 140737488355329/\∃(x:vK.ι),((b=x/\True)/\sY x)/\((I8 x).2.2==(0:Int)&&(I8 x).1==ta&&(I8 x).2.1.id==id)=u3 b ta id) ⟨H9,b,⟨Z8,by show b.length<=_;omega⟩,?_⟩
 unfold u3;cases r:zK b with
 |none=>
  rw[r] at I d;rw[I,d];rfl
 |some x=>
  rw[r] at I;rw[I,e x r];rfl
def plI(a b:Int):Option Ob:=some (.arr true 1000000 2 1 λ_=>[Ji a,Ji b])
def Eng.fy(e:Eng)(v:Nat)(A:Plc):Y4:=[iC (e.tn 13 14 15 16 17 18 19 20),none,none,none,none,none,none,none,none,plI 0 0,plI 0 0,plI A.a A.b,plI A.c A.d,x4 e.s.d.E,B4 e.s.d.C,z6 e.s.d.keep,xW e.s.L,vE v e.s.fr e.s.fr.length,jP e.X,tP e.lk.H,pZ e.lk.W]
def tD(e:Eng)(tx ta id:Int):Nat->Nat
 |0=>0
 |n+1=>if(T0 e tx ta id n).2.2=true then P4 (T0 e tx ta id n).1 n (tD e tx ta id n) else tD e tx ta id n
def slI(a b:Int):Int:=if a<0 then 0 else b
def rW(A:Plc):Plc:=⟨A.a,slI A.a A.b,A.c,slI A.c A.d⟩
theorem c3U{e:Eng}{tx ta id:Int}{n:Nat}(h:(T0 e tx ta id n).2.2=true):tD e tx ta id (n+1)=P4 (T0 e tx ta id n).1 n (tD e tx ta id n):=by
 conv=>lhs;unfold tD
 rw[if_pos h]
theorem a14(ta id:Int):u3 [] ta id=false:=rfl
theorem c4L{A:Plc}{n i:Nat}:rW ⟨n,i,A.c,A.d⟩=⟨n,i,A.c,slI A.c A.d⟩:=by
 unfold rW slI;rw[if_neg (show ¬ ((n:Int)<0) by omega)]
theorem c44{A:Plc}{n i:Nat}:rW ⟨A.a,A.b,n,i⟩=⟨A.a,slI A.a A.b,n,i⟩:=by
 unfold rW slI;rw[if_neg (show ¬ ((n:Int)<0) by omega)]
def b9o:Con:=.rel ⟨List Val,λL=>[b3c L],λL=>.bys (Q3 L L.length),λL=>L.length<=100/\∀i,i<L.length->mC (L.getD i dz)⟩
def c0g(L:List Val):Nat->Ann
 |0=>.one (Up L.length) (λx=>⟨[(3,.osl 0 0 (Q3 L x.1).length),(7,b3c L),(8,Ji L.length),(9,Ji x.1)],[some (.bys 5 (Q3 L x.1))]⟩) (λx=>L.length-x.1) [.at_ 3] [.at_ 3] (λ_=>Y9)
 |_=>.none
def c39:Con:=.rel ⟨Int,λn=>[Ji n],λn=>.agg [Ji 1,Ji n,.str []],λ_=>True⟩
theorem c3d(n:Int)(h:
  (1:Int)=1/\n=n/\([]:Bz)=[]/\True):
  V4 prog 84 [Ji n] (.agg [Ji 1,Ji n,.str []]):=
 S1 gN func84 Y9 h
theorem c1i:GK 84 c39:=gk func84<|λn _=>c3d n Z8
theorem b60:GK 83 b9o:=gk func83<|by
 rintro(L:List Val) ⟨hL,hk⟩;refine S1 (gC a2w gN) func83 (c0g L) (α:=let f:=(Z2 O9 L L);let z:=(L.length:Int);(∃(x:Up L.length),((0=0/\0=(Q3 L x.1).length)/\f/\z=z/\0=(x.1:Int)/\True)/\List.map Q8 []=Q3 L x.1/\True)/\∀(x:Up L.length),let j:=(L.length-x.1);let w:=(Q3 L x.1);let u:=(x.1:Int);let r:=w.length;let q:=(L.getD u.toNat dz);let m:=(r+1+q.t.length);let v:=(List.drop 0 (List.map Q8 [IntKind.u8.wrap (q.k+1)]));let p:=(List.take r w++List.take 1 v);let g:=(List.take (r+1) p++q.t);bd (u<z) (V7 u L.length/\Ri (q.k+1)/\O7 IntKind.u8 (IntKind.u8.wrap (q.k+1))/\(Le 1 1/\Le r r/\U9 r 1 1)/\br (q.k==1) (Ri (q.n+1000000000)/\∃(X:Nat),((q.n+1000000000=(X:Int)/\True)/\X<4294967296)/\(Le (r+1) p.length/\U9 (r+1) 4 1)/\Ri (u+1)/\∃(y:Up L.length),(((0=0/\r+1+4=(Q3 L y.1).length)/\f/\z=z/\u+1=(y.1:Int)/\True)/\List.take (r+1) p++F8 X=Q3 L y.1/\True)/\Lt (L.length-y.1) j) (br (q.k==2) ((Le (r+1) p.length/\U9 (r+1) q.t.length 1)/\O7 IntKind.u8 (0:Int)/\(Le 1 1/\Le m g.length/\U9 m 1 1)/\Ri (u+1)/\∃(y:Up L.length),(((0=0/\r+1+q.t.length+1=(Q3 L y.1).length)/\f/\z=z/\u+1=(y.1:Int)/\True)/\List.take m g++List.take 1 (List.drop 0 (List.map Q8 [(0:Int)]))=Q3 L y.1/\True)/\Lt (L.length-y.1) j) (Ri (u+1)/\∃(y:Up L.length),(((0=0/\r+1=(Q3 L y.1).length)/\f/\z=z/\u+1=(y.1:Int)/\True)/\List.take r w++List.take 1 v=Q3 L y.1/\True)/\Lt (L.length-y.1) j))) (Le (0+r) r/\List.take r (List.drop 0 w)=Q3 L L.length)) ⟨⟨⟨0,O3 _⟩,Z8⟩,λx=>⟨λhc=>?_,λhc=>?_⟩⟩
 ·have hlt:=Y1 hc;have h1:=fM hk x.1 Z9
  have hv:=hk x.1 hlt;have u:=iD hv;rw[G2];have i:Q3 L (x.1+1)=Q3 L x.1++H7 (L.getD x.1 dz):=rfl;generalize L.getD x.1 dz=v at*;obtain⟨z,h3⟩:=hv;have e:v.k=0∨v.k=1∨v.k=2:=by
   rcases h3 with h|h|h
   ·exact .inl h
   ·exact .inr (.inl h.1)
   ·exact .inr (.inr h)
  have r:O7 IntKind.u8 (IntKind.u8.wrap (v.k+1)):=by
   rcases e with h|h|h<;>rw[h]<;>exact(sX _).2 ⟨X1,X1⟩
  have o:List.take (Q3 L x.1).length (Q3 L x.1)++List.take 1 (List.drop 0 (List.map Q8 [IntKind.u8.wrap (v.k+(1:Int))]))=Q3 L x.1++[Q8 (IntKind.u8.wrap (v.k+1))]:=by rw[cH];rfl
  rw[o];generalize A:Q3 L x.1=B at*;have j:List.take (B.length+1) (B++[Q8 (IntKind.u8.wrap (v.k+1))])=B++[Q8 (IntKind.u8.wrap (v.k+1))]:=List.take_of_length_le W8
  refine⟨Y3 hlt,Z3 Z9,r,⟨V8 _,V8 _,R1⟩,λhq=>?_,λhq=>⟨λd=>?_,λd=>?_⟩⟩
  ·have hq:v.k=1:=beq_iff_eq.1 hq;have hn:=(h3.resolve_left Z9).resolve_right Z9
   have g:H7 v=Q8 (IntKind.u8.wrap (v.k+1))::F8 (v.n+1000000000).toNat:=by
    unfold H7;rw[if_neg Z9,if_pos hq,hq]
    rfl
   have f:Q3 L (x.1+1)=(B++[Q8 (IntKind.u8.wrap (v.k+1))])++F8 (v.n+1000000000).toNat:=by rw[i,g,List.append_assoc];rfl
   refine⟨Z3 Z9,(v.n+1000000000).toNat,⟨⟨Z9,Z6⟩,Z9⟩,⟨by unfold Le;simp,R1⟩,Z3 Z9,⟨x.1+1,hlt⟩,⟨⟨⟨rfl,?_⟩,⟨rfl,W2 _ _⟩,rfl,X0,Z6⟩,by dsimp only;rw[f,j],Z6⟩,U8.ext_lt hlt⟩
   dsimp only;rw[f,K2,K2,List.length_singleton];rfl
  ·have d:v.k=2:=beq_iff_eq.1 d;have g:H7 v=Q8 (IntKind.u8.wrap (v.k+1))::(v.t++[0]):=by
    unfold H7;rw[if_neg Z9,if_neg Z9,d]
    rfl
   have f:Q3 L (x.1+1)=((B++[Q8 (IntKind.u8.wrap (v.k+1))])++v.t)++[0]:=by rw[i,g];simp
   have q:List.take (B.length+1+v.t.length) ((B++[Q8 (IntKind.u8.wrap (v.k+1))])++v.t)=(B++[Q8 (IntKind.u8.wrap (v.k+1))])++v.t:=List.take_of_length_le H4
   refine⟨⟨by unfold Le;simp,R1⟩,(sX _).2 ⟨X1,X1⟩,⟨V8 _,by rw[j];unfold Le;simp;omega,R1⟩,Z3 Z9,⟨x.1+1,hlt⟩,⟨⟨⟨rfl,?_⟩,⟨rfl,W2 _ _⟩,rfl,X0,Z6⟩,by dsimp only;rw[f,j,q];rfl,Z6⟩,U8.ext_lt hlt⟩
   dsimp only;rw[f];simp;omega
  ·have l:v.k=0:=by
    rcases e with h|h|h
    ·exact h
    ·rw[h] at hq;cases hq
    ·rw[h] at d;cases d
   have g:H7 v=[Q8 (IntKind.u8.wrap (v.k+1))]:=by
    unfold H7;rw[if_pos l,l];rfl
   have f:Q3 L (x.1+1)=B++[Q8 (IntKind.u8.wrap (v.k+1))]:=by rw[i,g]
   refine⟨Z3 Z9,⟨x.1+1,hlt⟩,⟨⟨⟨rfl,?_⟩,Z8,rfl,X0,Z6⟩,by dsimp only;rw[f],Z6⟩,U8.ext_lt hlt⟩
   dsimp only;rw[f,K2,List.length_singleton]
 ·have hx:x.1=L.length:=by have:=x.2;have:=X6 hc;omega
  rw[hx];exact⟨L6,dR⟩
def b9b:Con:=.rel ⟨Int×Rw,λx=>[Ji x.1,.agg x.2.ts],λx=>.bys (E6 x.1 x.2),λx=>RwK x.2/\1<=x.1/\x.1<=3⟩
theorem a4f:GK 40 b9b:=gk func40<|by
 rintro⟨ta,r⟩ ⟨⟨e,h,l,g⟩,j,f⟩;dsimp only at e h l g j f;refine S1 (gC c1i (gC b60 (gC Q5 gN))) func40 Y9 (α:=∃(x:Int),((ta=x/\True)/\True)/\∃(d:Int),((r.id=d/\True)/\True)/\∃(X:(List Val)),(((4=X.length/\Z7 4 (tk 3 [Ji 1,Ji x,T.str [],Ji 1,Ji d,T.str [],Ji r.n.k,Ji r.n.n,T.str r.n.t,Ji r.name.k,Ji r.name.n,T.str r.name.t]) (O9 X))/\True)/\X.length<=100/\∀(i:Nat),i<X.length->mC (List.getD X i dz))/\Q3 X (X.length)=E6 ta r) ⟨ta,Z8,r.id,Z8,[⟨1,ta,[]⟩,⟨1,r.id,[]⟩,r.n,r.name],⟨⟨⟨rfl,λi hi=>?_⟩,Z6⟩,by show 4<=100;omega,λi hi=>?_⟩,rfl⟩
 ·match i,hi with
  |0,_=>rfl
  |1,_=>rfl
  |2,_=>rfl
  |3,_=>rfl
 ·match i,hi with
  |0,_=>exact⟨a8T,.inr (.inl ⟨rfl,by show-1000000000<=ta;omega,by show ta<=_;omega⟩)⟩
  |1,_=>exact⟨a8T,.inr (.inl ⟨rfl,by show-1000000000<=r.id;omega,by show r.id<=_;omega⟩)⟩
  |2,_=>exact e
  |3,_=>exact h
def zC(id:Int):Rw:=⟨id,⟨0,0,[]⟩,⟨0,0,[]⟩⟩
end
end Go.Proofs.YtlbmgnomkjmafaaGreat
