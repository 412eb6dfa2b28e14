/- A part of the proof. -/
import Derived.Test.YtpdnnhnfongoeaaGreatV1e
namespace Go.Proofs.YtpdnnhnfongoeaaGreat
set_option maxRecDepth 100000
open Go.SS Go.Proofs.Tryz
noncomputable section
def a2P:Con:=.rel ⟨Int×Int,λx=>[Ji x.1,Ji x.2],λx=>.bool (b18 x.1 x.2),λ_=>True⟩
theorem a3Z(a b:Int)(h:
  (a==b||a==4||b==1)=b18 a b):
  V3 prog 333 [Ji a,Ji b] (.bool (b18 a b)):=
 U6 gN func333 Z3 h
theorem a19:GK 333 a2P:=gk func333<|λx _=>a3Z x.1 x.2 rfl
def a8S:Con:=.rel ⟨Lks×Lck,λx=>.agg x.1.ts::x.2.ts,λx=>.bool (anyI x.1.H.length (qC x.1.H x.2)),λx=>L7 x.1.H.length⟩
def a62(l:Lks)(x:Lck):Nat->Ann
 |0=>.one (V5 l.H.length (qC l.H x)) (λy=>⟨[(1,Ji x.tx),(2,Ji x.ta),(3,Ji x.row),(4,Ji x.mo),(5,.ref 0 0 0),(11,Ji y.1)],[lkB l]⟩) (λy=>l.H.length-y.1) [.box 0] [.box 0] (λ_=>Z3)
 |_=>.none
theorem a4K:GK 261 a8S:=gk func261<|by
 rintro⟨l,x⟩ (hL:l.H.length<1000000000000);refine U6 (gC a19 gN) func261 (a62 l x) (α:=let q:=(1=1/\1=1/\(Z0 Z2 l.H l.H)/\(Z0 Y7 l.W l.W)/\True);(∃(X:V5 l.H.length (qC l.H x)),(x.tx=x.tx/\x.ta=x.ta/\x.row=x.row/\x.mo=x.mo/\(0=0/\0=0)/\0=(X.val:Int)/\True)/\q/\True)/\∀(X:V5 l.H.length (qC l.H x)),let r:=(X.val:Int);let p:=(l.H.getD r.toNat dz);bd (r<(l.H.length:Int)) (W9 r l.H.length/\∃(d:(Int×Int)),((p.tx==x.tx&&p.ta==x.ta&&p.row==x.row)=true->(p.mo=d.1/\x.mo=d.2/\True)/\True)/\br (p.tx==x.tx&&p.ta==x.ta&&p.row==x.row&&b18 d.1 d.2) (true=anyI l.H.length (qC l.H x)) (Ri (r+1)/\∃(y:V5 l.H.length (qC l.H x)),((x.tx=x.tx/\x.ta=x.ta/\x.row=x.row/\x.mo=x.mo/\(0=0/\0=0)/\r+1=(y.1:Int)/\True)/\q/\True)/\Lt (l.H.length-y.1) (l.H.length-X.val))) (false=anyI l.H.length (qC l.H x))) ⟨⟨F9,Z8⟩,λy=>⟨λC=>?_,λC=>?_⟩⟩
 ·have h:=Y2 C;exact⟨Y6 h,((l.H.getD y.1 dz).mo,x.mo),λ_=>Z8,λhp=>(R9.2 ⟨y.1,h,hp⟩).symm,λhp=>⟨W4 h Z9,y.succ h hp,⟨⟨rfl,rfl,rfl,rfl,Z8,J2,Z6⟩,Z8⟩,V5.ext_lt h⟩⟩
 ·have e:=Y0 C;exact(P5.2 λj J=>y.2.2 j (yB J e)).symm
def c7c:Con:=.rmk ⟨Lks,λl=>[.agg l.ts],λ_=>[],λl=>.agg (l.tm 0),λl=>l.hp,uZ⟩
theorem c3c:GK 84 c7c:=gk func84<|by
 rintro(l:Lks) ⟨h1,h2⟩;exact⟨C7 (gC P6 (gC P6 (gC P6 (gC P6 (gC P6 (gC P6 (gC P6 (gC P6 gN)))))))) func84 Z3 [[.arr 2,.arr 3]] (α:=U8 0 l.H.length 32/\U8 0 l.W.length 16/\(((0=0/\l.H.length=l.H.length)/\(0=0/\l.W.length=l.W.length)/\True)/\True)/\(Z0 Z2 l.H l.H)/\(Z0 Y7 l.W l.W)/\True) ⟨R0,R0,Z8⟩,rfl,rD l⟩
def c7f:Con:=.reff ⟨Lks×Int,λx=>[.agg (x.1.tm 0),Ji x.2],λx=>x.1.hp,λx=>.agg [.osl 0 0 x.1.H.length,.osl 2 0 (J4 x.1 x.2).W.length],λx=>[zB x.1.H,sT x.1.W,sT (J4 x.1 x.2).W],λx=>x.1.W.length<=1000000⟩
def c5c(l:Lks)(tx:Int):Nat->Ann
 |0=>.one (Up l.W.length) (λx=>⟨[(1,Ji tx),(2,.ref 2 0 0),(4,.ref 3 0 0),(5,.osl 4 0 (X8 (cF tx) l.W x.1).length),(6,Ji x.1)],[zB l.H,sT l.W,some (.arr false 1000000 2 1 λ_=>l.tm 0),lkB ⟨[],[]⟩,sT (X8 (cF tx) l.W x.1)]⟩) (λx=>l.W.length-x.1) c43 c43 (λ_=>Z3)
 |_=>.none
theorem c3h:GK 260 c7f:=gk func260<|by
 rintro⟨l,tx⟩ (h1:l.W.length<=1000000);refine C7 gN func260 (c5c l tx) [[.arr 0,.arr 1,.vl 0 [1]]] (α:=let a:=(X8 (cF tx) l.W l.W.length);let g:=(0=0/\l.H.length=l.H.length);let n:=(Z0 Y7 l.W l.W);let m:=(Z0 Z2 l.H l.H);let v:=(0=0/\0=0);let z:=(1=1/\1=1/\(0=0/\Z7 0 (Z2 []) (Z2 []))/\(0=0/\Z7 0 (Y7 []) (Y7 []))/\True);let q:=(1=1/\1=1/\g/\(0=0/\l.W.length=l.W.length)/\True);(∃(x:Up l.W.length),let w:=(X8 (cF tx) l.W x.1);(tx=tx/\v/\v/\(0=0/\0=w.length)/\0=(x.1:Int)/\True)/\m/\n/\q/\(1=1/\1=1/\0=0/\0=0/\True)/\(0=w.length/\Z7 0 (λ(k:Nat)=>List.take 2 (List.drop (k*2) [])) (Y7 w))/\True)/\∀(x:Up l.W.length),let d:=(l.W.length-x.1);let r:=(x.1:Int);let c:=(0+r.toNat);let u:=(l.W.getD c dz);let p:=(X8 (cF tx) l.W x.1);let f:=p.length;bd (r<(l.W.length:Int)) (W9 r l.W.length/\Lt c l.W.length/\br (u.tx !=tx) (W9 r l.W.length/\Lt c l.W.length/\(Le 1 1/\Le p.length f/\U8 p.length 1 16)/\Ri (r+1)/\∃(y:Up l.W.length),let j:=(X8 (cF tx) l.W y.1);((tx=tx/\v/\v/\(0=0/\f+1=j.length)/\r+1=(y.1:Int)/\True)/\m/\n/\q/\z/\(f+1=j.length/\Z7 (f+1) (X4 (Y7 p) p.length λ(k:Nat)=>List.take 2 (List.drop (k*2) [Ji u.tx,Ji u.fo])) (Y7 j))/\True)/\Lt (l.W.length-y.1) d) (Ri (r+1)/\∃(y:Up l.W.length),let b:=(X8 (cF tx) l.W y.1);((tx=tx/\v/\v/\(0=0/\f=b.length)/\r+1=(y.1:Int)/\True)/\m/\n/\q/\z/\(Z0 Y7 p b)/\True)/\Lt (l.W.length-y.1) d)) (((g/\(0=0/\f=a.length)/\True)/\True)/\m/\n/\(Z0 Y7 p a)/\True)) ⟨⟨⟨0,N5 _⟩,Z8,Z8,Z8,Z8,Z8,⟨rfl,P1⟩,Z6⟩,λx=>⟨λhc=>?_,λhc=>?_⟩⟩
 ·have hlt:=Y2 hc;have hle:=r5 (cF tx) l.W x.1;rw[E4,D6];refine⟨Y6 hlt,hlt,λhq=>?_,λhq=>?_⟩
  ·have hn:=rE (f:=cF tx) hq;refine⟨Y6 hlt,hlt,⟨U9 _,U9 _,R0⟩,Z4 Z9,⟨x.1+1,hlt⟩,⟨⟨rfl,Z8,Z8,⟨rfl,hn⟩,X5,Z6⟩,Z8,Z8,Z8,⟨rfl,rfl,⟨rfl,P1⟩,⟨rfl,P1⟩,Z6⟩,⟨hn,?_⟩,Z6⟩,V5.ext_lt hlt⟩
   dsimp only;rw[aL (f:=cF tx) hq];exact zZ Wt.ts 2 (λ_=>rfl) _ _
  ·have hn:=pR (f:=cF tx) hq;refine⟨Z4 Z9,⟨x.1+1,hlt⟩,?_,V5.ext_lt hlt⟩
   dsimp only;rw[hn];exact⟨⟨rfl,Z8,Z8,Z8,Z9,Z6⟩,Z8,Z8,Z8,⟨rfl,rfl,⟨rfl,P1⟩,⟨rfl,P1⟩,Z6⟩,Z8⟩
 ·have hx:x.1=l.W.length:=by have:=x.2;have:=Y0 hc;omega
  rw[hx];exact Z8
def a5i(W:List Wt)(R:List Int):Nat:=(W.filter λw=> !R.contains w.fo).length
def RnS(W:List Wt)(tx:Int):Type:={x:Nat×Nat×List Int//a1R W tx x.1 x.2.1 x.2.2=rnd W tx/\a5i W x.2.2+x.2.2.length<=x.2.1+x.1/\x.2.1<=x.2.2.length/\x.1+x.2.1=200}
def ScS(W:List Wt)(tx a:Int)(R:List Int):Type:={x:Nat×List Int//x.1<=W.length/\scn W tx a R x.1=some x.2}
def a7y:Con:=.rel ⟨Lks×Int,λx=>[.agg x.1.ts,Ji x.2],λx=>.bool (rnd x.1.W x.2),λx=>x.1.W.length<=100⟩
def a8H(l:Lks)(tx:Int):Nat->Ann
 |0=>.one (RnS l.W tx) (λx=>⟨[(1,Ji tx),(2,.ref 0 0 0),(5,.osl 1 0 x.1.2.2.length),(6,Ji x.1.2.1)],[lkB l,A3 x.1.2.2]⟩) (λx=>x.1.1) b7N b7N (λx=>fun
  |1=>.one (ScS l.W tx (x.1.2.2.getD x.1.2.1 0) x.1.2.2) (λy=>⟨[(1,Ji tx),(2,.ref 0 0 0),(5,.osl 1 0 y.1.2.length),(6,Ji x.1.2.1),(7,Ji y.1.1)],[lkB l,A3 y.1.2]⟩) (λy=>l.W.length-y.1.1) b7N b7N (λy=>fun
   |2=>.one {j:Nat//j<=y.1.2.length} (λz=>⟨[(1,Ji tx),(2,.ref 0 0 0),(5,.osl 1 0 y.1.2.length),(6,Ji x.1.2.1),(7,Ji y.1.1),(8,.ref 2 0 0),(9,.bool (anyI z.1 (thr y.1.2 (l.W.getD y.1.1 dz).fo))),(10,Ji z.1)],[lkB l,A3 y.1.2,some (.arr true 1000000 2 1 λ_=>(l.W.getD y.1.1 dz).ts)]⟩) (λz=>y.1.2.length-z.1) [.box 0,.at_ 5,.box 2] [.box 0,.at_ 5,.box 2] (λ_=>Z3)
   |_=>.none)
  |_=>.none)
 |_=>.none
theorem b7q{n:Nat}{p:Nat->Bool}:anyI (n+1) p=(anyI n p||p n):=by
 unfold anyI;rw[List.range_succ,List.any_append];simp
theorem a4V{α:Type}{p q:α->Bool}(h:∀b,q b=true->p b=true):∀L:List α,(L.filter q).length<=(L.filter p).length
 | []=>U9 _
 |b::L=>by
  have i:=a4V h L;cases Q:q b with
  |true=>rw[List.filter_cons_of_pos Q,List.filter_cons_of_pos (h b Q)];simp only[List.length_cons];omega
  |false=>
   rw[List.filter_cons_of_neg (by rw[Q];simp)]
   cases hp:p b with
   |true=>rw[List.filter_cons_of_pos hp];simp only[List.length_cons];omega
   |false=>rw[List.filter_cons_of_neg (by rw[hp];simp)];exact i
theorem a3C{α:Type}{p q:α->Bool}(h:∀b,q b=true->p b=true){a:α}(hp:p a=true)(hq:q a=false):∀L:List α,a ∈ L->(L.filter q).length+1<=(L.filter p).length
 |b::L,ha=>by
  have M:=a4V h L;by_cases e:b=a
  ·subst e;rw[List.filter_cons_of_pos hp,List.filter_cons_of_neg (by rw[hq];simp)]
   simp only[List.length_cons];omega
  ·have ih:=a3C h hp hq L ((vO.1 ha).resolve_left λe'=>e e'.symm)
   cases B:q b with
   |true=>rw[List.filter_cons_of_pos B,List.filter_cons_of_pos (h b B)];simp only[List.length_cons];omega
   |false=>
    rw[List.filter_cons_of_neg (by rw[B];simp)]
    cases d:p b with
    |true=>rw[List.filter_cons_of_pos d];simp only[List.length_cons];omega
    |false=>rw[List.filter_cons_of_neg (by rw[d];simp)];exact ih
theorem c0x{Q:List Int}{a:Int}(h:anyI Q.length (thr Q a)=false):a ∉ Q:=λM=>by
 obtain⟨i,hi,e⟩:=List.getElem_of_mem M;have:=P5.1 h i hi;unfold thr at this;rw[P4,I3 hi,e,Option.getD_some] at this
 simp at this
theorem c22{W:List Wt}{Q:List Int}{k:Nat}(d:k<W.length)(h:anyI Q.length (thr Q (W.getD k dz).fo)=false):a5i W (Q++[(W.getD k dz).fo])+1<=a5i W Q:=by
 have M:=c0x h;refine a3C (λb B=>?_) (a:=W.getD k dz) ?_ ?_ W (c0f d)
 ·simp only[wA,List.contains_eq_mem,uI,List.mem_append,not_or] at B ⊢;exact B.1
 ·simp only[wA,List.contains_eq_mem,uI];exact M
 ·simp
theorem dY{W:List Wt}{tx a:Int}{R Q:List Int}{k:Nat}(h:scn W tx a R k=some Q):scn W tx a R (k+1)=if(W.getD k dz).tx=a then(if(W.getD k dz).fo=tx then none else if anyI Q.length (thr Q (W.getD k dz).fo)=true then some Q else some (Q++[(W.getD k dz).fo])) else some Q:=by
 conv=>lhs;unfold scn
 rw[h]
theorem mD{W:List Wt}{tx a:Int}{R:List Int}{k:Nat}(h:scn W tx a R k=none):∀d,scn W tx a R (k+d)=none
 |0=>h
 |d+1=>by
  show scn W tx a R ((k+d)+1)=none;conv=>lhs;unfold scn
  rw[mD h d]
theorem a7Q{W:List Wt}{tx a:Int}{R:List Int}:∀k Q,k<=W.length->scn W tx a R k=some Q->(∀i,i<R.length->Q.getD i 0=R.getD i 0)/\R.length<=Q.length/\a5i W Q+Q.length<=a5i W R+R.length
 |0,Q,_,h=>by
  unfold scn at h;cases h;exact Z8
 |k+1,Q,hk,h=>by
  cases d:scn W tx a R k with
  |none=>have:=mD d 1;rw[this] at h;cases h
  |some Q0=>
   obtain⟨I,f,e⟩:=a7Q k Q0 Z9 d
   rw[dY d] at h;split at h
   ·split at h
    ·cases h
    ·split at h
     ·cases h;exact⟨I,f,e⟩
     ·rename_i ha;cases h;have:=c22 (W:=W) (k:=k) Z9 sS
      refine⟨λi hi=>?_,C8,by simp only[F6,List.length_singleton];omega⟩
      rw[←I i hi,P4,rL Z9,←P4]
   ·cases h;exact⟨I,f,e⟩
theorem c48{W:List Wt}{tx:Int}{f i:Nat}{R:List Int}(hi:i<R.length):a1R W tx (f+1) i R=match scn W tx (R.getD i 0) R W.length with|none=>true|some Q=>a1R W tx f (i+1) Q:=by
 conv=>lhs;unfold a1R
 rw[if_pos hi];cases scn W tx (R.getD i 0) R W.length<;>rfl
theorem c40{W:List Wt}{tx:Int}{f i:Nat}{R:List Int}(hi:¬i<R.length):a1R W tx f i R=false:=by
 cases f with
 |zero=>rfl
 |succ f=>unfold a1R;rw[if_neg hi]
theorem a33:GK 262 a7y:=gk func262<|by
 rintro⟨l,tx⟩ (h:l.W.length<=100);have W:∀R,a5i l.W R<=100:=λR=>Nat.le_trans (List.length_filter_le _ _) h
 refine U6 gN func262 (a8H l tx) (α:=let w:=(0=0/\0=0);let q:=(1=1/\1=1/\(Z0 Z2 l.H l.H)/\(Z0 Y7 l.W l.W)/\True);(∃(x:RnS l.W tx),(tx=tx/\w/\(0=0/\1=x.1.2.2.length)/\0=(x.1.2.1:Int)/\True)/\q/\(1=x.1.2.2.length/\Z7 1 (λ(k:Nat)=>List.take 1 (List.drop (k*1) [Ji tx])) (Y9 x.1.2.2))/\True)/\∀(x:RnS l.W tx),let z:=(x.1.2.1:Int);bd (z<(x.1.2.2.length:Int)) ((∃(X:ScS l.W tx (x.1.2.2.getD x.1.2.1 (0:Int)) x.1.2.2),(tx=tx/\w/\(0=0/\x.1.2.2.length=X.val.2.length)/\z=z/\0=(X.val.1:Int)/\True)/\q/\(Z0 Y9 x.1.2.2 X.val.2)/\True)/\∀(X:ScS l.W tx (x.1.2.2.getD x.1.2.1 (0:Int)) x.1.2.2),let a:=(l.W.length-X.val.1);let g:=(Z0 Y9 X.val.2 X.val.2);let f:=(0=0/\X.val.2.length=X.val.2.length);let u:=(X.val.1:Int);let m:=(l.W.getD u.toNat dz);let r:=(l.W.getD X.val.1 dz);let v:=(thr X.val.2 r.fo);let p:=(Ri (u+1)/\∃(y:ScS l.W tx (x.1.2.2.getD x.1.2.1 (0:Int)) x.1.2.2),((tx=tx/\w/\(0=0/\X.val.2.length=y.1.2.length)/\z=z/\u+1=(y.1.1:Int)/\True)/\q/\(Z0 Y9 X.val.2 y.1.2)/\True)/\Lt (l.W.length-y.1.1) a);bd (u<(l.W.length:Int)) (W9 u l.W.length/\W9 z X.val.2.length/\Lt (0+z.toNat) X.val.2.length/\br (m.tx !=X.val.2.getD (0+z.toNat) (0:Int)) p (br (m.fo==tx) (true=rnd l.W tx) ((∃(d:{j:Nat//j<=X.val.2.length}),(tx=tx/\w/\f/\z=z/\u=u/\w/\false=anyI d.val v/\0=(d.val:Int)/\True)/\q/\g/\(1=1/\1=1/\m.tx=r.tx/\m.fo=r.fo/\True)/\True)/\∀(d:{j:Nat//j<=X.val.2.length}),let n:=(d.val:Int);bd (n<(X.val.2.length:Int)) ((anyI d.val v=false->W9 n X.val.2.length)/\(anyI d.val v=false->Lt (0+n.toNat) X.val.2.length)/\Ri (n+1)/\∃(y:{j:Nat//j<=X.val.2.length}),((tx=tx/\w/\f/\z=z/\u=u/\w/\(anyI d.val v||X.val.2.getD (0+n.toNat) (0:Int)==r.fo)=anyI y.1 v/\n+1=(y.1:Int)/\True)/\q/\g/\(1=1/\1=1/\r.tx=r.tx/\r.fo=r.fo/\True)/\True)/\Lt (X.val.2.length-y.1) (X.val.2.length-d.val)) (br (!anyI d.val v) ((Le 1 1/\Le X.val.2.length X.val.2.length/\U8 X.val.2.length 1 8)/\Ri (u+1)/\∃(y:ScS l.W tx (x.1.2.2.getD x.1.2.1 (0:Int)) x.1.2.2),((tx=tx/\w/\(0=0/\X.val.2.length+1=y.1.2.length)/\z=z/\u+1=(y.1.1:Int)/\True)/\q/\(X.val.2.length+1=y.1.2.length/\Z7 (X.val.2.length+1) (X4 (Y9 X.val.2) X.val.2.length λ(k:Nat)=>List.take 1 (List.drop (k*1) [Ji r.fo])) (Y9 y.1.2))/\True)/\Lt (l.W.length-y.1.1) a) p)))) (Ri (z+1)/\∃(y:RnS l.W tx),((tx=tx/\w/\(0=0/\X.val.2.length=y.1.2.2.length)/\z+1=(y.1.2.1:Int)/\True)/\q/\(Z0 Y9 X.val.2 y.1.2.2)/\True)/\Lt y.1.1 x.1.1)) (false=rnd l.W tx)) ⟨⟨⟨(200,0,[tx]),rfl,by have:=W [tx];dsimp only[List.length_singleton];omega,N5 _,rfl⟩,⟨rfl,⟨rfl,rfl⟩,⟨rfl,rfl⟩,rfl,Z6⟩,⟨rfl,rfl,⟨rfl,X6 _ _⟩,⟨rfl,X6 _ _⟩,Z6⟩,⟨rfl,λj J=>by(obtain rfl:j=0:=by omega);rfl⟩,Z6⟩,λx=>?_⟩
 obtain⟨⟨f,i,R⟩,e,M,hi,q⟩:=x;dsimp only at e M hi q ⊢;have u:=W R;refine⟨λhc=>?_,λhc=>?_⟩
 ·have hlt:=Y2 hc;obtain⟨g,rfl⟩:∃g,f=g+1:=⟨f-1,Z9⟩
  rw[c48 hlt] at e;refine⟨⟨⟨(0,R),Z8⟩,Z8⟩,λy=>?_⟩
  obtain⟨⟨k,Q⟩,n,hs⟩:=y;dsimp only at n hs ⊢;obtain⟨r,v,A⟩:=a7Q k Q n hs;have e1:=r i hlt;rw[E4 k,E4 i,D6];refine⟨λhc2=>?_,λhc2=>?_⟩
  ·have hkt:=Y2 hc2;have hss:=dY hs;refine⟨Y6 hkt,Y6 Z9,Q2,λhq=>?_,λhq=>⟨λhb=>?_,λhb=>⟨⟨⟨0,N5 _⟩,Z8⟩,λz=>?_⟩⟩⟩
   ·rw[e1] at hq;rw[if_neg (by simpa using hq)] at hss
    exact⟨Z4 Z9,⟨(k+1,Q),hkt,hss⟩,⟨⟨rfl,Z8,Z8,rfl,X5,Z6⟩,Z8⟩,K0⟩
   ·rw[e1] at hq;rw[if_pos (by simpa using hq),if_pos jL] at hss
    have:=mD hss (l.W.length- (k+1));rw[show k+1+(l.W.length- (k+1))=l.W.length by omega] at this
    rw[this] at e;exact e
   ·rw[e1] at hq;rw[if_pos (by simpa using hq),if_neg jL] at hss
    obtain⟨j,J⟩:=z;dsimp only at J ⊢;rw[E4,D6];refine⟨λhc3=>?_,λhc3=>?_⟩
    ·have t:=Y2 hc3;exact⟨λ_=>Y6 t,λ_=>t,Z4 Z9,⟨j+1,t⟩,⟨⟨rfl,Z8,Z8,rfl,rfl,Z8,b7q.symm,X5,Z6⟩,Z8⟩,K0⟩
    ·obtain rfl:j=Q.length:=by have:=Y0 hc3;omega
     refine⟨λha=>?_,λha=>?_⟩
     ·have ha:anyI Q.length (thr Q (l.W.getD k dz).fo)=false:=by simpa using ha
      rw[if_neg (by rw[ha];simp)] at hss
      refine⟨⟨U9 _,U9 _,R0⟩,Z4 Z9,⟨(k+1,Q++[(l.W.getD k dz).fo]),hkt,hss⟩,⟨⟨rfl,Z8,⟨rfl,W7⟩,rfl,X5,Z6⟩,Z8,⟨W7,?_⟩,Z6⟩,K0⟩
      exact zZ (λa=>[Ji a]) 1 (λ_=>rfl) Q _
     ·have ha:anyI Q.length (thr Q (l.W.getD k dz).fo)=true:=by simpa using ha
      rw[if_pos ha] at hss;exact⟨Z4 Z9,⟨(k+1,Q),hkt,hss⟩,⟨⟨rfl,Z8,Z8,rfl,X5,Z6⟩,Z8⟩,K0⟩
  ·obtain rfl:k=l.W.length:=by have:=Y0 hc2;omega
   rw[hs] at e;exact⟨Z4 Z9,⟨(g,i+1,Q),e,X5,X5,X5⟩,⟨⟨rfl,Z8,Z8,X5,Z6⟩,Z8⟩,K0⟩
 ·have o:=Y0 hc;rw[←e];exact(c40 Z9).symm
def b38(l:Lks)(x:Lck):Nat->Ann
 |0=>.one (Up l.H.length) (λi=>⟨[(1,Ji x.tx),(2,Ji x.ta),(3,Ji x.row),(4,Ji x.mo),(5,.ref 0 0 0),(10,.ref 1 0 0),(11,Ji 0),(12,.ref 2 0 0),(13,.osl 5 0 (V1 l.H x i.1).length),(14,Ji i.1)],[lkB l,lkB ⟨[],[]⟩,lkO 3 l.H.length 4 (J4 l x.tx).W.length,zB l.H,sT (J4 l x.tx).W,sT (V1 l.H x i.1)]⟩) (λi=>l.H.length-i.1) [.box 0,.box 1,.box 5,.cel 5 0,.cel 5 1,.at_ 13] [.box 0,.box 1,.box 2,.cel 2 0,.cel 2 1,.at_ 13] (λi=>fun
  |1=>.one {j:Nat//j<=(V1 l.H x i.1).length} (λj=>⟨[(1,Ji x.tx),(2,Ji x.ta),(3,Ji x.row),(4,Ji x.mo),(5,.ref 0 0 0),(10,.ref 1 0 0),(11,Ji 0),(12,.ref 2 0 0),(13,.osl 5 0 (V1 l.H x i.1).length),(14,Ji i.1),(15,.ref 6 0 0),(16,.ref 7 0 0),(17,.bool (anyI j.1 (dD (V1 l.H x i.1) ⟨x.tx,(l.H.getD i.1 dz).tx⟩))),(18,Ji j.1)],[lkB l,lkB ⟨[],[]⟩,lkO 3 l.H.length 4 (J4 l x.tx).W.length,zB l.H,sT (J4 l x.tx).W,sT (V1 l.H x i.1),some (.arr true 1000000 4 1 λ_=>(l.H.getD i.1 dz).ts),some (.arr true 1000000 2 1 λ_=>[Ji x.tx,Ji (l.H.getD i.1 dz).tx])]⟩) (λj=>(V1 l.H x i.1).length-j.1) c4I c4I (λ_=>Z3)
  |_=>.none)
 |_=>.none
def b3K:Con:=.rel ⟨Lks×Lck,λx=>.agg x.1.ts::x.2.ts,λx=>.tup [.agg (T7 x.1 x.2).1.ts,Ji (T7 x.1 x.2).2],λx=>x.1.H.length<=60/\x.1.W.length<=100⟩
theorem c4F{L:List Lck}{x:Lck}{i:Nat}:V1 L x (i+1)=if clash (L.getD i dz) x=true then(if anyI (V1 L x i).length (dD (V1 L x i) ⟨x.tx,(L.getD i dz).tx⟩)=true then V1 L x i else V1 L x i++[⟨x.tx,(L.getD i dz).tx⟩]) else V1 L x i:=rfl
theorem c4y(a b:Lck):((a.tx !=b.tx)&&(a.ta==b.ta)&&(a.row==b.row)&& !nC a.mo b.mo)=clash a b:=by
 unfold clash rX;rw[Bool.and_assoc (a.tx !=b.tx)]
theorem a52(L M:List Wt):Z7 (L.length+M.length) (X4 (Y7 L) L.length (Y7 M)) (Y7 (L++M)):=by
 intro i hi;unfold X4 Y7;by_cases h:i<L.length
 ·rw[rW h];dsimp only;rw[P4,P4,rL h]
 ·rw[mK h];dsimp only;rw[P4,P4,qA Z9]
theorem a6T:GK 165 b3K:=gk func165<|by
 rintro⟨l,x⟩ ⟨v,u⟩;dsimp only at v u;have C:(X8 (cF x.tx) l.W l.W.length).length<=l.W.length:=r5 (cF x.tx) l.W l.W.length;have r:=λn=>a7e (L:=l.H) (x:=x) n
 refine U6 (gC c3c (gC c3h (gC a4K (gC aB (gC a33 gN))))) func165 (b38 l x) (α:=let pr:=(l.H.length+1);let pm:=(T7 l x).1.W;let pk:=(T7 l x).1.H;let pi:=(T7 l x).2;let pe:=(Z0 Z2 l.H l.H);let i:=(0=0/\0=0);let a:=(1=1/\1=1/\pe/\(Z0 Y7 l.W l.W)/\True);let w:=(1=1/\1=1/\(0=0/\Z7 0 (Z2 []) (Z2 []))/\(0=0/\Z7 0 (Y7 []) (Y7 []))/\True);let p:=(X8 (cF x.tx) l.W l.W.length);let pq:=(Z0 Y7 p p);let ph:=p.length;let pa:=((Z0 Z2 l.H pk)/\(Z0 Y7 p pm)/\True);let b:=(Le (0+l.H.length) l.H.length/\Le (0+ph) ph);let n:=(1=1/\1=1/\(0=0/\l.H.length=l.H.length)/\(0=0/\ph=ph)/\True);∃(q:Lks),((((Z0 Z2 l.H q.H)/\(Z0 Y7 l.W q.W)/\True)/\True)/\uZ q)/\∃(d:(Lks×Int)),let pu:=d.1.W.length;let pn:=d.1.H.length;let m:=(X8 (cF d.2) d.1.W pu);let pd:=(Le (0+pn) pn/\Le (0+m.length) m.length);((((0=0/\q.H.length=pn)/\(0=0/\q.W.length=pu)/\True)/\x.tx=d.2/\True)/\((Z0 Z2 q.H d.1.H)/\(Z0 Y7 q.W d.1.W)/\True)/\pu<=1000000)/\∃(h:(Lks×Lck)),(pd/\(((Z0 Z2 d.1.H h.1.H)/\(Z0 Y7 m h.1.W)/\True)/\x.tx=h.2.tx/\x.ta=h.2.ta/\x.row=h.2.row/\x.mo=h.2.mo/\True)/\L7 h.1.H.length)/\br (anyI h.1.H.length (qC h.1.H h.2)) (pd/\((Z0 Z2 d.1.H pk)/\(Z0 Y7 m pm)/\True)/\0=pi/\True) ((∃(X:Up l.H.length),let po:=(V1 l.H x X.val);(x.tx=x.tx/\x.ta=x.ta/\x.row=x.row/\x.mo=x.mo/\i/\i/\(0:Int)=0/\i/\(0=0/\0=po.length)/\0=(X.val:Int)/\True)/\a/\(1=1/\1=1/\0=0/\0=0/\True)/\(1=1/\1=1/\(0=0/\pn=l.H.length)/\(0=0/\m.length=ph)/\True)/\(Z0 Z2 d.1.H l.H)/\(Z0 Y7 m p)/\(0=po.length/\Z7 0 (λ(k:Nat)=>List.take 2 (List.drop (k*2) [])) (Y7 po))/\True)/\∀(X:Up l.H.length),let pb:=(X.val:Int);let v:=(l.H.getD (0+pb.toNat) dz);let u:=(l.H.getD X.val dz);let r:=(V1 l.H x X.val);let t:=(dD r (Wt.mk x.tx u.tx));let c:=r.length;let ps:=(↑c:Int);let z:=(Ri (pb+1)/\∃(y:Up l.H.length),((x.tx=x.tx/\x.ta=x.ta/\x.row=x.row/\x.mo=x.mo/\i/\i/\(0:Int)=0/\i/\(0=0/\c=(V1 l.H x y.1).length)/\pb+1=(y.1:Int)/\True)/\a/\w/\n/\pe/\pq/\(Z0 Y7 r (V1 l.H x y.1))/\True)/\Lt (l.H.length-y.1) (l.H.length-X.val));bd (pb<(l.H.length:Int)) (W9 pb l.H.length/\Lt (0+pb.toNat) l.H.length/\∃(f:(Int×Int)),((v.tx !=x.tx&&v.ta==x.ta&&v.row==x.row)=true->(v.mo=f.1/\x.mo=f.2/\True)/\True)/\br (v.tx !=x.tx&&v.ta==x.ta&&v.row==x.row&& !nC f.1 f.2) ((∃(g:{j:Nat//j<=(V1 l.H x X.val).length}),(x.tx=x.tx/\x.ta=x.ta/\x.row=x.row/\x.mo=x.mo/\i/\i/\(0:Int)=0/\i/\(0=0/\c=c)/\pb=pb/\i/\i/\false=anyI g.val t/\0=(g.val:Int)/\True)/\a/\w/\n/\pe/\pq/\(Z0 Y7 r r)/\(1=1/\1=1/\v.tx=u.tx/\v.ta=u.ta/\v.row=u.row/\v.mo=u.mo/\True)/\(1=1/\1=1/\x.tx=x.tx/\v.tx=u.tx/\True)/\True)/\∀(g:{j:Nat//j<=(V1 l.H x X.val).length}),let pf:=(g.val:Int);let pt:=(r.getD (0+pf.toNat) dz);bd (pf<ps) ((anyI g.val t=false->W9 pf c)/\(anyI g.val t=false->Lt (0+pf.toNat) c)/\Ri (pf+1)/\∃(y:{j:Nat//j<=(V1 l.H x X.val).length}),((x.tx=x.tx/\x.ta=x.ta/\x.row=x.row/\x.mo=x.mo/\i/\i/\(0:Int)=0/\i/\(0=0/\c=c)/\pb=pb/\i/\i/\(anyI g.val t||pt.tx==x.tx&&(pt.fo==u.tx&&true))=anyI y.1 t/\pf+1=(y.1:Int)/\True)/\a/\w/\n/\pe/\pq/\(Z0 Y7 r r)/\(1=1/\1=1/\u.tx=u.tx/\u.ta=u.ta/\u.row=u.row/\u.mo=u.mo/\True)/\(1=1/\1=1/\x.tx=x.tx/\u.tx=u.tx/\True)/\True)/\Lt (c-y.1) (c-g.val)) (br (!anyI g.val t) ((Le 1 1/\Le r.length c/\U8 r.length 1 16)/\Ri (pb+1)/\∃(y:Up l.H.length),let pp:=(V1 l.H x y.1);((x.tx=x.tx/\x.ta=x.ta/\x.row=x.row/\x.mo=x.mo/\i/\i/\(0:Int)=0/\i/\(0=0/\c+1=pp.length)/\pb+1=(y.1:Int)/\True)/\a/\w/\n/\pe/\pq/\(c+1=pp.length/\Z7 (c+1) (X4 (Y7 r) r.length λ(k:Nat)=>List.take 2 (List.drop (k*2) [Ji x.tx,Ji u.tx])) (Y7 pp))/\True)/\Lt (l.H.length-y.1) (l.H.length-X.val)) z)) z) (br (ps==0) (br ((l.H.length:Int)==60) (b/\pa/\7=pi/\True) ((Le 1 1/\Le l.H.length l.H.length/\U8 l.H.length 1 32)/\(Le (0+pr) pr/\Le (0+ph) ph)/\((l.H.length+1=(T7 l x).1.H.length/\Z7 pr (X4 (Z2 l.H) l.H.length λ(k:Nat)=>List.take 4 (List.drop (k*4) [Ji x.tx,Ji x.ta,Ji x.row,Ji x.mo])) (Z2 pk))/\(Z0 Y7 p pm)/\True)/\0=pi/\True)) (Ri ((↑ph:Int)+ps)/\bd ((↑ph:Int)+ps>100) (b/\pa/\7=pi/\True) (∃(f:Lks),let pj:=(X4 (Y7 f.W) f.W.length (Y7 r));let pg:=f.W.length;let pc:=(Le (0+f.H.length) f.H.length/\Le (0+(pg+c)) (pg+c));(b/\(((Z0 Z2 l.H f.H)/\(Z0 Y7 p f.W)/\True)/\True)/\uZ f)/\(Le (0+c) c/\Le f.W.length pg/\U8 f.W.length r.length 16)/\∃(g:(Lks×Int)),(pc/\(((Z0 Z2 f.H g.1.H)/\(pg+c=g.1.W.length/\Z7 (pg+c) pj (Y7 g.1.W))/\True)/\x.tx=g.2/\True)/\g.1.W.length<=100)/\br (rnd g.1.W g.2) (b/\pa/\14=pi/\True) (pc/\((Z0 Z2 f.H pk)/\(pg+c=(T7 l x).1.W.length/\Z7 (pg+c) pj (Y7 pm))/\True)/\13=pi/\True)))))) ⟨l,⟨Z8,Z9,Z9⟩,(l,x.tx),⟨Z8,Z8,X5⟩,(J4 l x.tx,x),⟨⟨K2,K2⟩,Z8,by unfold L7 J4;dsimp only;omega⟩,λhh=>?_,λhh=>⟨⟨⟨0,N5 _⟩,Z8,Z8,Z8,Z8,Z8,Z8,⟨rfl,P1⟩,Z6⟩,λy=>?_⟩⟩
 ·have hh:anyI l.H.length (qC l.H x)=true:=hh;have e:T7 l x=(J4 l x.tx,0):=by unfold T7;rw[if_pos hh]
  rw[e];exact⟨⟨K2,K2⟩,Z8⟩
 have hh:¬anyI l.H.length (qC l.H x)=true:=by
  have hh:anyI l.H.length (qC l.H x)=false:=hh;rw[hh];simp
 obtain⟨i,hi⟩:=y;dsimp only at hi ⊢;have I:=r i;rw[E4,D6];refine⟨λhc=>?_,λhc=>?_⟩
 ·have hlt:=Y2 hc;have hw1:=c4F (L:=l.H) (x:=x) (i:=i);refine⟨Y6 hlt,hlt,((l.H.getD i dz).mo,x.mo),λ_=>Z8,λhq=>⟨⟨⟨0,N5 _⟩,Z8,Z8,⟨rfl,rfl,⟨rfl,P1⟩,⟨rfl,P1⟩,Z6⟩,Z8⟩,λz=>?_⟩,λhq=>?_⟩
  ·rw[if_pos ((c4y _ x).symm.trans hq)] at hw1;obtain⟨j,hj⟩:=z;dsimp only at hj ⊢;rw[E4,D6];refine⟨λhc2=>?_,λhc2=>?_⟩
   ·have t:=Y2 hc2;exact⟨λ_=>Y6 t,λ_=>t,Z4 Z9,⟨j+1,t⟩,⟨⟨rfl,rfl,rfl,rfl,Z8,Z8,rfl,Z8,Z8,rfl,Z8,Z8,b7q.symm,X5,Z6⟩,Z8,⟨rfl,rfl,⟨rfl,P1⟩,⟨rfl,P1⟩,Z6⟩,Z8⟩,K0⟩
   ·obtain rfl:j=(V1 l.H x i).length:=by have:=Y0 hc2;omega
    refine⟨λha=>?_,λha=>?_⟩
    ·rw[if_neg sS] at hw1
     have N:(V1 l.H x i).length+1=(V1 l.H x (i+1)).length:=by rw[hw1];simp
     refine⟨⟨U9 _,U9 _,R0⟩,Z4 Z9,⟨i+1,hlt⟩,⟨⟨rfl,rfl,rfl,rfl,Z8,Z8,rfl,Z8,⟨rfl,N⟩,X5,Z6⟩,Z8,⟨rfl,rfl,⟨rfl,P1⟩,⟨rfl,P1⟩,Z6⟩,Z8,Z8,Z8,⟨N,?_⟩,Z6⟩,K0⟩
     dsimp only;rw[hw1];exact zZ Wt.ts 2 (λ_=>rfl) (V1 l.H x i) ⟨x.tx,(l.H.getD i dz).tx⟩
    ·rw[if_pos sS] at hw1
     refine⟨Z4 Z9,⟨i+1,hlt⟩,?_,K0⟩
     dsimp only;rw[hw1];exact⟨⟨rfl,rfl,rfl,rfl,Z8,Z8,rfl,Z8,Z8,Z9,Z6⟩,Z8,⟨rfl,rfl,⟨rfl,P1⟩,⟨rfl,P1⟩,Z6⟩,Z8⟩
  ·rw[if_neg (by rw[←c4y,hq];simp)] at hw1
   refine⟨Z4 Z9,⟨i+1,hlt⟩,?_,K0⟩
   dsimp only;rw[hw1];exact⟨⟨rfl,rfl,rfl,rfl,Z8,Z8,rfl,Z8,Z8,Z9,Z6⟩,Z8,⟨rfl,rfl,⟨rfl,P1⟩,⟨rfl,P1⟩,Z6⟩,Z8⟩
 ·obtain rfl:i=l.H.length:=by have:=Y0 hc;omega
  refine⟨λh0=>⟨λo=>?_,λo=>?_⟩,λh0=>⟨Z4 Z9,λB=>?_,λB=>?_⟩⟩
  ·have h0:(C2 l x).length=0:=by have:=beq_iff_eq.1 h0;unfold C2;omega
   have o:l.H.length=60:=by have:=beq_iff_eq.1 o;omega
   have e:T7 l x=(J4 l x.tx,7):=by unfold T7;rw[if_neg hh,if_pos h0,if_pos o]
   rw[e];exact⟨⟨K2,K2⟩,Z8⟩
  ·have h0:(C2 l x).length=0:=by have:=beq_iff_eq.1 h0;unfold C2;omega
   have o:¬l.H.length=60:=λe=>by rw[e] at o;cases o
   have e:T7 l x=(⟨l.H++[x],(J4 l x.tx).W⟩,0):=by unfold T7;rw[if_neg hh,if_pos h0,if_neg o]
   rw[e];exact⟨⟨U9 _,U9 _,R0⟩,⟨K2,K2⟩,⟨⟨W7,zZ Lck.ts 4 (λ_=>rfl) _ x⟩,Z8⟩,Z8⟩
  ·have h0:¬ (C2 l x).length=0:=λe=>by
    have e:(V1 l.H x l.H.length).length=0:=e;rw[e] at h0;cases h0
   have B:(J4 l x.tx).W.length+(C2 l x).length>100:=by have:=G6 B;unfold C2 J4;dsimp only;omega
   have e:T7 l x=(J4 l x.tx,7):=by unfold T7;rw[if_neg hh,if_neg h0,if_pos B]
   rw[e];exact⟨⟨K2,K2⟩,Z8⟩
  ·have h0:¬ (C2 l x).length=0:=λe=>by
    have e:(V1 l.H x l.H.length).length=0:=e;rw[e] at h0;cases h0
   have B:(X8 (cF x.tx) l.W l.W.length).length+(V1 l.H x l.H.length).length<=100:=by have:=m9 B;omega
   have hb':¬ (J4 l x.tx).W.length+(C2 l x).length>100:=by unfold C2 J4;dsimp only;omega
   have A:(X8 (cF x.tx) l.W l.W.length).length+(V1 l.H x l.H.length).length=((J4 l x.tx).W++C2 l x).length:=by unfold C2 J4;simp
   refine⟨J4 l x.tx,⟨⟨K2,K2⟩,Z8,by show l.H.length<=_;omega,by show(X8 (cF x.tx) l.W l.W.length).length<=_;omega⟩,⟨K2,U9 _,by show U8 (X8 (cF x.tx) l.W l.W.length).length _ _;unfold U8;omega⟩,(⟨l.H,(J4 l x.tx).W++C2 l x⟩,x.tx),⟨⟨K2,K2⟩,⟨⟨⟨rfl,X6 _ _⟩,⟨A,a52 _ _⟩,Z6⟩,rfl,Z6⟩,X5⟩,λhr=>?_,λhr=>?_⟩
   ·have hr:rnd ((J4 l x.tx).W++C2 l x) x.tx=true:=hr;have e:T7 l x=(J4 l x.tx,14):=by unfold T7;rw[if_neg hh,if_neg h0,if_neg hb',if_pos hr]
    rw[e];exact⟨⟨K2,K2⟩,Z8⟩
   ·have hr:¬rnd ((J4 l x.tx).W++C2 l x) x.tx=true:=by
     have hr:rnd ((J4 l x.tx).W++C2 l x) x.tx=false:=hr;rw[hr];simp
    have e:T7 l x=(⟨l.H,(J4 l x.tx).W++C2 l x⟩,13):=by unfold T7;rw[if_neg hh,if_neg h0,if_neg hb',if_neg hr]
    rw[e];exact⟨⟨K2,K2⟩,⟨Z8,⟨A,a52 _ _⟩,Z6⟩,Z8⟩
def Q7(L:List Val):Nat->Bz
 |0=>[]
 |i+1=>Q7 L i++zJ (L.getD i dz)
def cB(v:Val):Prop:=v.t.length<=100/\(v.k=0∨(v.k=1/\ -1000000000<=v.n/\v.n<=1000000000)∨v.k=2)
def RwK(r:Rw):Prop:=cB r.n/\cB r.name/\0<=r.id/\r.id<=1000
def b65:Con:=.rel ⟨Val,λv=>[.agg v.ts],λv=>.bys (zJ v),cB⟩
theorem b14:GK 337 b65:=gk func337<|by
 rintro(v:Val) ⟨ht,hk⟩;have u8:∀n:Int,0<=n->n<=255->R3 IntKind.u8 n:=λn a b=>(pJ n).2 ⟨a,b⟩
 refine U6 (gC tP gN) func337 Z3 (α:=br (v.k==0) (R3 IntKind.u8 (1:Int)/\Le 1 1/\List.take 1 (List.drop 0 (List.map R1 [(1:Int)]))=zJ v) (br (v.k==1) (R3 IntKind.u8 (2:Int)/\Ri (v.n+1000000000)/\∃(x:nN.ι),((v.n+1000000000=(x.1:Int)/\(4=match x.2 with|true=>(4:Int)|false=>(2:Int))/\True)/\True)/\(Le 1 1/\U8 1 (match x.2 with|true=>z8 x.1|false=>zA x.1).length 1)/\Le (0+(1+(match x.2 with|true=>z8 x.1|false=>zA x.1).length)) (List.take 1 (List.map R1 [(2:Int)])++match x.2 with|true=>z8 x.1|false=>zA x.1).length/\List.take (1+(match x.2 with|true=>z8 x.1|false=>zA x.1).length) (List.drop 0 (List.take 1 (List.map R1 [(2:Int)])++match x.2 with|true=>z8 x.1|false=>zA x.1))=zJ v) (R3 IntKind.u8 (3:Int)/\(Le 1 1/\U8 1 v.t.length 1)/\R3 IntKind.u8 (0:Int)/\(Le 1 1/\Le (1+v.t.length) (List.take 1 (List.map R1 [(3:Int)])++v.t).length/\U8 (1+v.t.length) 1 1)/\Le (0+(1+v.t.length+1)) (List.take (1+v.t.length) (List.take 1 (List.map R1 [(3:Int)])++v.t)++List.take 1 (List.drop 0 (List.map R1 [(0:Int)]))).length/\List.take (1+v.t.length+1) (List.drop 0 (List.take (1+v.t.length) (List.take 1 (List.map R1 [(3:Int)])++v.t)++List.take 1 (List.drop 0 (List.map R1 [(0:Int)]))))=zJ v))) ⟨λh0=>?_,λh0=>⟨λh1=>?_,λh1=>?_⟩⟩
 ·have h0:v.k=0:=beq_iff_eq.1 h0;unfold zJ;rw[if_pos h0];exact⟨u8 _ K3 K3,Z8⟩
 ·have h1:v.k=1:=beq_iff_eq.1 h1;have hn:=(hk.resolve_left Z9).resolve_right Z9
  unfold zJ;rw[if_neg Z9,if_pos h1]
  exact⟨u8 _ K3 K3,Z4 Z9,((v.n+1000000000).toNat,true),⟨⟨X5,Z8⟩,Z6⟩,⟨U9 _,by show U8 1 4 1;unfold U8;omega⟩,U9 _,rfl⟩
 ·have h0:¬v.k=0:=λe=>by rw[e] at h0;cases h0
  have h1:¬v.k=1:=λe=>by rw[e] at h1;cases h1
  have d:List.take (1+v.t.length) (List.take 1 (List.map R1 [(3:Int)])++v.t)=3::v.t:=List.take_of_length_le (by show(3::v.t).length<=_;simp only[List.length_cons];omega)
  unfold zJ;rw[if_neg h0,if_neg h1,d];refine⟨u8 _ K3 K3,⟨U9 _,R0⟩,u8 _ K3 K3,⟨U9 _,by show 1+v.t.length<=(3::v.t).length;simp only[List.length_cons];omega,R0⟩,by show 0+(1+v.t.length+1)<=(3::v.t++[0]).length;simp only[F6,List.length_cons,List.length_nil];omega,?_⟩
  exact List.take_of_length_le (by show(3::v.t++[0]).length<=_;simp only[F6,List.length_cons,List.length_nil];omega)
def b1u:Con:=.rel ⟨List Val,λL=>[b4C L],λL=>.bys (Q7 L L.length),λL=>L.length<=100/\∀i,i<L.length->cB (L.getD i dz)⟩
def b1n(L:List Val):Nat->Ann
 |0=>.one (Up L.length) (λx=>⟨[(0,b4C L),(3,.osl 0 0 (Q7 L x.1).length),(4,Ji x.1)],[some (.bys 5 (Q7 L x.1))]⟩) (λx=>L.length-x.1) [.at_ 3] [.at_ 3] (λ_=>Z3)
 |_=>.none
theorem gU{v:Val}(h:cB v):(zJ v).length<=102:=by
 unfold zJ;split
 ·exact yY rfl
 ·split
  ·exact yY rfl
  ·have:=h.1;simp only[List.length_cons,F6,List.length_nil];omega
theorem eQ{L:List Val}(h:∀i,i<L.length->cB (L.getD i dz)):∀i,i<=L.length->(Q7 L i).length<=102*i
 |0,_=>U9 _
 |i+1,hi=>by
  have d:=eQ h i Z9
  have e:=gU (h i Z9)
  simp only[Q7,F6];omega
theorem a7f:GK 278 b1u:=gk func278<|by
 rintro(L:List Val) ⟨hL,hk⟩;refine U6 (gC b14 gN) func278 (b1n L) (α:=(∃(x:Up L.length),((Z0 Q1 L L)/\(0=0/\0=(Q7 L x.1).length)/\0=(x.1:Int)/\True)/\List.map R1 []=Q7 L x.1/\True)/\∀(x:Up L.length),let z:=(Q7 L x.1);let q:=(x.1:Int);let r:=(L.getD q.toNat dz);let p:=z.length;bd (q<(L.length:Int)) (W9 q L.length/\∃(X:Val),(((r.k=X.k/\r.n=X.n/\r.t=X.t/\True)/\True)/\cB X)/\(Le p p/\U8 p (zJ X).length 1)/\Ri (q+1)/\∃(y:Up L.length),(((Z0 Q1 L L)/\(0=0/\p+(zJ X).length=(Q7 L y.1).length)/\q+1=(y.1:Int)/\True)/\List.take p z++zJ X=Q7 L y.1/\True)/\Lt (L.length-y.1) (L.length-x.1)) (Le (0+p) p/\List.take p (List.drop 0 z)=Q7 L L.length)) ⟨⟨⟨0,N5 _⟩,Z8⟩,λx=>⟨λhc=>?_,λhc=>?_⟩⟩
 ·have hlt:=Y2 hc;have h1:=eQ hk x.1 Z9
  have h:=gU (hk x.1 hlt);exact⟨Y6 hlt,L.getD x.1 dz,⟨Z8,hk x.1 hlt⟩,⟨U9 _,R0⟩,Z4 Z9,⟨x.1+1,hlt⟩,⟨⟨Z8,⟨rfl,by simp only[Q7,F6]⟩,X5,Z6⟩,by rw[j_l];rfl,Z6⟩,V5.ext_lt hlt⟩
 ·have hx:x.1=L.length:=by have:=x.2;have:=Y0 hc;omega
  rw[hx];exact⟨K2,cN⟩
def a8f:Con:=.rel ⟨Int×Rw,λx=>[Ji x.1,.agg x.2.ts],λx=>.str (sV x.1 x.2),λx=>RwK x.2/\1<=x.1/\x.1<=3⟩
theorem a2Q:GK 202 a8f:=gk func202<|by
 rintro⟨ta,r⟩ ⟨⟨d,h,j,f⟩,g,e⟩;dsimp only at d h j f g e;refine U6 (gC a7f (gC P6 gN)) func202 Z3 (α:=∃(x:(List Val)),let p:=x.length;(((4=p/\Z7 4 (λ(k:Nat)=>List.take 3 (List.drop (k*3) [Ji 1,Ji ta,T.str [],Ji 1,Ji r.id,T.str [],Ji r.n.k,Ji r.n.n,T.str r.n.t,Ji r.name.k,Ji r.name.n,T.str r.name.t])) (Q1 x))/\True)/\p<=100/\∀(i:Nat),i<p->cB (List.getD x i dz))/\Q7 x (p)=sV ta r) ⟨[⟨1,ta,[]⟩,⟨1,r.id,[]⟩,r.n,r.name],⟨⟨⟨rfl,λi hi=>?_⟩,Z6⟩,by show 4<=100;omega,λi hi=>?_⟩,rfl⟩
 ·match i,hi with
  |0,_=>rfl
  |1,_=>rfl
  |2,_=>rfl
  |3,_=>rfl
 ·match i,hi with
  |0,_=>exact⟨a9N,.inr (.inl ⟨rfl,by show-1000000000<=ta;omega,by show ta<=_;omega⟩)⟩
  |1,_=>exact⟨a9N,.inr (.inl ⟨rfl,by show-1000000000<=r.id;omega,by show r.id<=_;omega⟩)⟩
  |2,_=>exact d
  |3,_=>exact h
theorem EI.u{e:Eng}(h:EI e){k:Nat}(d:k<e.X.length):UI e k (e.X.getD k dz).id (e.X.getD k dz).Z:=c4v h.ok h.sm h.up (h.h.at_ d) d rfl
def KpS(e:Eng)(g s:Int)(i:Nat):Type:={x:Nat×Int//kepA e.s.L g s x.1 x.2=kepA e.s.L g s 61 (e.X.getD i dz).Z/\x.2.toNat<x.1/\x.2<=(e.s.L.length:Int)}
def b3x:Con:=.rel ⟨Eng×Int×Int×Int,λx=>[.agg x.1.ts,Ji x.2.1,Ji x.2.2.1,Ji x.2.2.2],λx=>.bool (lN x.1 x.2.1 x.2.2.1 x.2.2.2),λx=>wT x.1⟩
def b4k(e:Eng)(tx g s:Int):Nat->Ann
 |0=>.one (V5 e.X.length (oQ e tx g s)) (λx=>⟨[(1,Ji tx),(2,Ji g),(3,Ji s),(4,.ref 0 0 0),(9,Ji x.1)],[m0 e]⟩) (λx=>e.X.length-x.1) [.box 0] [.box 0] (λx=>fun
  |1=>.one (KpS e g s x.1) (λy=>⟨[(1,Ji tx),(2,Ji g),(3,Ji s),(4,.ref 0 0 0),(9,Ji x.1),(10,Ji y.1.2)],[m0 e]⟩) (λy=>y.1.1) [.box 0] [.box 0] (λ_=>Z3)
  |_=>.none)
 |_=>.none
theorem c4i{L:List Rec}{g s:Int}{f:Nat}{a:Int}(h:¬a<=0):kepA L g s (f+1) a=if(Y8 L a).k=3 then kepA L g s f (Y8 L a).n else if(Y8 L a).k=2/\(Y8 L a).g=g/\(Y8 L a).s=s then true else kepA L g s f (Y8 L a).p:=by
 conv=>lhs;unfold kepA
 rw[if_neg h]
theorem c4c{L:List Rec}{g s:Int}{f:Nat}{a:Int}(h:a<=0):kepA L g s f a=false:=by
 cases f with
 |zero=>rfl
 |succ f=>unfold kepA;rw[if_pos h]
theorem a9a:GK 168 b3x:=gk func168<|by
 rintro⟨e,tx,g,s⟩ ⟨hL,l,hb⟩;dsimp only at hL l hb;have o:=hL.1;refine U6 gN func168 (b4k e tx g s) (α:=let v:=(0=0/\0=0);let u:=(1=1/\1=1/\L4 e e);(∃(x:V5 e.X.length (oQ e tx g s)),(tx=tx/\g=g/\s=s/\v/\0=(x.1:Int)/\True)/\u/\True)/\∀(x:V5 e.X.length (oQ e tx g s)),let z:=(x.1:Int);let w:=(e.X.getD z.toNat dz);let q:=(Ri (z+1)/\∃(y:V5 e.X.length (oQ e tx g s)),((tx=tx/\g=g/\s=s/\v/\z+1=(y.1:Int)/\True)/\u/\True)/\Lt (e.X.length-y.1) (e.X.length-x.1));bd (z<(e.X.length:Int)) (W9 z e.X.length/\br (w.id==tx) q (W9 z e.X.length/\(∃(X:KpS e g s x.1),(tx=tx/\g=g/\s=s/\v/\z=z/\w.Z=X.val.2/\True)/\u/\True)/\∀(X:KpS e g s x.1),let j:=(X.val.2-1);let r:=(e.s.L.getD j.toNat dz);bd (X.val.2>0) (Ri j/\W9 j e.s.L.length/\br (r.k==3) (∃(y:KpS e g s x.1),((tx=tx/\g=g/\s=s/\v/\z=z/\r.n=y.1.2/\True)/\u/\True)/\Lt y.1.1 X.val.1) (br (r.k==2&&r.g==g&&r.s==s) (true=lN e tx g s) (∃(y:KpS e g s x.1),((tx=tx/\g=g/\s=s/\v/\z=z/\r.p=y.1.2/\True)/\u/\True)/\Lt y.1.1 X.val.1))) q)) (false=lN e tx g s)) ⟨⟨F9,Z8⟩,λx=>⟨λhc=>?_,λhc=>?_⟩⟩
 ·have hlt:=Y2 hc;have hx:=hb x.1 hlt;rw[E4];refine⟨Y6 hlt,λhq=>⟨W4 hlt Z9,x.succ hlt (by unfold oQ;rw[hq];rfl),⟨⟨rfl,rfl,rfl,⟨rfl,rfl⟩,J2,Z6⟩,⟨rfl,rfl,vS _⟩,Z6⟩,V5.ext_lt hlt⟩,λhq=>⟨Y6 hlt,⟨⟨(61,(e.X.getD x.1 dz).Z),rfl,X5,hx⟩,Z8⟩,λy=>?_⟩⟩
  obtain⟨⟨f,a⟩,Y,F,ha⟩:=y;dsimp only at Y F ha ⊢;obtain⟨f,rfl⟩:∃q,f=q+1:=⟨f-1,Z9⟩
  refine⟨λhp=>?_,λhp=>?_⟩
  ·have hp:a>0:=G6 hp;obtain⟨p1,p2,p3,p4⟩:=hL.prev (show 1<=a by omega) ha
   rw[c4i Z9] at Y
   refine⟨Z4 Z9,⟨Z9,Z9⟩,λd=>?_,λd=>?_⟩
   ·have d:(Y8 e.s.L a).k=3:=beq_iff_eq.1 d;rw[if_pos d] at Y;exact⟨⟨(f,(Y8 e.s.L a).n),Y,X5,X5⟩,Z8,K0⟩
   ·have d:¬ (Y8 e.s.L a).k=3:=λr=>by
     have d:((Y8 e.s.L a).k==3)=false:=d;rw[r] at d;cases d
    rw[if_neg d] at Y;refine⟨λh=>?_,λh=>?_⟩
    ·have h:((Y8 e.s.L a).k==2&&(Y8 e.s.L a).g==g&&(Y8 e.s.L a).s==s)=true:=h;simp only[I4,beq_iff_eq] at h;rw[if_pos ⟨h.1.1,h.1.2,h.2⟩] at Y;exact(R9.2 ⟨x.1,hlt,by unfold oQ;rw[hq,←Y];rfl⟩).symm
    ·have h:¬ ((Y8 e.s.L a).k=2/\(Y8 e.s.L a).g=g/\(Y8 e.s.L a).s=s):=λ⟨a1,a2,a3⟩=>by
      have h:((Y8 e.s.L a).k==2&&(Y8 e.s.L a).g==g&&(Y8 e.s.L a).s==s)=false:=h;rw[a1,a2,a3] at h;simp at h
     rw[if_neg h] at Y;exact⟨⟨(f,(Y8 e.s.L a).p),Y,X5,X5⟩,Z8,K0⟩
  ·have hp:a<=0:=by have:=m9 hp;omega
   rw[c4c hp] at Y;exact⟨W4 hlt Z9,x.succ hlt (by unfold oQ;rw[←Y,Bool.and_false]),⟨⟨rfl,rfl,rfl,⟨rfl,rfl⟩,J2,Z6⟩,⟨rfl,rfl,vS _⟩,Z6⟩,V5.ext_lt hlt⟩
 ·have i:=Y0 hc;exact(P5.2 λj J=>x.2.2 j (yB J i)).symm
def Plc.ts(A:Plc):List T:=[Ji A.a,Ji A.b,Ji A.c,Ji A.d]
def c21(A:Plc):Option Ob:=some (.arr true 1000000 4 1 λ_=>A.ts)
def c9w(p:Pg):Option Ob:=some (.arr true 1000000 2 1 λ_=>p.ts)
def fpg(e:Eng)(tx ta id:Int)(n:Nat):Pg:=((Y3 (T2 e tx ta id n).1 n).1.fr.getD (Y3 (T2 e tx ta id n).1 n).2.1 dz).pg
theorem b0l{e:Eng}{s:Sto}(h:s.L=e.s.L)(tx g sl:Int):lN (R7 e s) tx g sl=lN e tx g sl:=by
 unfold lN oQ R7;dsimp only;rw[h]
theorem b7H(e:Eng)(tx ta id:Int)(n:Nat)(p:Pg)(A:Plc)(i:Nat):vJ e tx ta id n p A (i+1)=if p.sl.getD i []=[] then(if(vJ e tx ta id n p A i).c<0/\lN e tx n i=false then⟨(vJ e tx ta id n p A i).a,(vJ e tx ta id n p A i).b,n,i⟩ else vJ e tx ta id n p A i)
  else if a1G (p.sl.getD i []) ta id=true/\(vJ e tx ta id n p A i).a<0 then⟨n,i,(vJ e tx ta id n p A i).c,(vJ e tx ta id n p A i).d⟩ else vJ e tx ta id n p A i:=rfl
theorem c2B(e:Eng)(k:Nat)(r:Rec):(F1 e k r).s.L.getD (((e.s.L.length+1:Nat):Int)-1).toNat dz=P9 e.s (C1 e k r):=by
 have d:(((e.s.L.length+1:Nat):Int)-1).toNat=e.s.L.length:=Z9
 rw[d,P4]
 show((e.s.L++[P9 e.s (C1 e k r)])[e.s.L.length]?).getD dz=_;rw[List.getElem?_concat_length]
 rfl
structure XI(e:Eng)(k:Nat)(tx:Int):Prop where
 u:UI e k tx (e.X.getD k dz).Z
 nd:wT e
theorem b0u{e:Eng}{tx:Int}{k:Nat}(h:R2 e=true)(M:M2 e)(u:e.up=true)(A:T9 e.X tx=k)(f:k<e.X.length)(hi:(e.X.getD k dz).id=tx):XI e k tx:=
 ⟨c4v h M u A f hi,(c4S (u6 h).1 M.1).logP,(xK (u6 h).2.1).1,λi d=>(a9n h u d).2⟩
theorem c2k{l:Lks}{x:Lck}(h1:l.H.length<=60)(h:l.W.length<=100):(T7 l x).1.H.length<=60/\(T7 l x).1.W.length<=100:=by
 have hc:(J4 l x.tx).H.length<=60/\(J4 l x.tx).W.length<=100:=⟨h1,Nat.le_trans (r5 (cF x.tx) l.W l.W.length) h⟩;unfold T7;split
 ·exact hc
 ·split
  ·split
   ·exact hc
   ·refine⟨?_,hc.2⟩
    rw[F6,List.length_singleton];omega
  ·split
   ·exact hc
   ·split
    ·exact hc
    ·refine⟨h1,?_⟩
     rw[F6];omega
theorem c8Z{e:Eng}{k:Nat}{tx:Int}(h:XI e k tx){l:Lks}(L:l.H.length<=60/\l.W.length<=100):XI {e with lk:=l} k tx:=
 ⟨⟨⟨h.u.u.si,h.u.u.at_,h.u.u.lt,h.u.u.id,h.u.u.txr,h.u.u.la,h.u.u.ep,h.u.u.t10,L,h.u.u.rm⟩,h.u.ar,h.u.fu⟩,h.nd⟩
theorem a7l{e:Eng}{k:Nat}{tx:Int}(h:XI e k tx){s:Sto}(g:SI s)(l:s.L=e.s.L)(d:s.ep=e.s.ep):XI (R7 e s) k tx:=by
 have u:=h.u.u;refine⟨⟨⟨g,u.at_,u.lt,u.id,u.txr,?_,?_,u.t10,u.lk,?_⟩,?_,?_⟩,?_,h.nd.2.1,?_⟩
 ·show 1<=(e.X.getD k dz).Z/\(e.X.getD k dz).Z<=s.L.length;rw[l];exact u.la
 ·show 1<=s.ep/\s.ep<=60;rw[d];exact u.ep
 ·show s.L.length+1<=60;rw[l];exact u.rm
 ·show 0<=(e.X.getD k dz).Z/\(e.X.getD k dz).Z<=(s.L.length:Int);rw[l];exact h.u.ar
 ·show ∃f,(e.X.getD k dz).Z.toNat<f/\s.L.length+1+und s.L f (e.X.getD k dz).Z<=60;rw[l];exact h.u.fu
 ·show xL s.L;rw[l];exact h.nd.1
 ·show ∀i,i<e.X.length->(e.X.getD i dz).Z<=(s.L.length:Int);rw[l];exact h.nd.2.2
theorem sI{e:Eng}{k:Nat}{tx:Int}(h:XI e k tx)(ta row mo:Int):XI (pF e k ta row mo) k tx:=c8Z h (c2k h.u.u.lk.1 h.u.u.lk.2)
theorem a0i{e:Eng}{k:Nat}{ta row mo:Int}(h:(R5 e k ta row mo).2=0):R5 e k ta row mo=(pF e k ta row mo,0):=by
 unfold R5 at h ⊢;split at h
 ·split at h<;>cases h
 ·rename_i q;rw[if_neg q];dsimp only at h;rw[h]
def c6q:Con:=.rel ⟨Eng×Nat×Int×Int×Int×Int,λx=>[.agg x.1.ts,Ji x.2.1,Ji x.2.2.1,Ji x.2.2.2.1,Ji x.2.2.2.2.1],λx=>.tup [.agg (R5 x.1 x.2.1 x.2.2.1 x.2.2.2.1 x.2.2.2.2.1).1.ts,Ji (R5 x.1 x.2.1 x.2.2.1 x.2.2.2.1 x.2.2.2.2.1).2],λx=>XI x.1 x.2.1 x.2.2.2.2.2⟩
theorem c1F:GK 78 c6q:=gk func78<|by
 rintro⟨e,k,ta,row,mo,tx⟩ h;dsimp only at h;have ht:=sI h ta row mo;refine U6 (gC a6T (gC c3X gN)) func78 Z3 (α:=let p:=(R5 e k ta row mo);W9 (k:Int) e.X.length/\∃(x:(Lks×Lck)),let q:=(T7 x.1 x.2);((((Z0 Z2 e.lk.H x.1.H)/\(Z0 Y7 e.lk.W x.1.W)/\True)/\(e.X.getD (k:Int).toNat dz).id=x.2.tx/\ta=x.2.ta/\row=x.2.row/\mo=x.2.mo/\True)/\x.1.H.length<=60/\x.1.W.length<=100)/\br (q.2==14) (∃(X:(Eng×Nat×Int)),let r:=(L4 (J0 X.1 X.2.1).1.1 p.1);(((L4 {e with lk:=q.1} X.1)/\(k:Int)=(X.2.1:Int)/\True)/\UI X.1 X.2.1 X.2.2 (X.1.X.getD X.2.1 dz).Z)/\br (!(J0 X.1 X.2.1).2==0) (r/\15=p.2/\True) (r/\14=p.2/\True)) ((L4 {e with lk:=q.1} p.1)/\q.2=p.2/\True)) ⟨Y6 h.u.u.lt,(e.lk,qF e k ta row mo),⟨Z8,h.u.u.lk.1,h.u.u.lk.2⟩,λhq=>?_,λhq=>?_⟩
 ·have hq:(T7 e.lk (qF e k ta row mo)).2=14:=beq_iff_eq.1 hq;refine⟨(pF e k ta row mo,k,tx),⟨Z8,ht.u⟩,λhn=>?_,λhn=>?_⟩
  ·have hn:(!((J0 (pF e k ta row mo) k).2==0))=true:=hn;have e1:R5 e k ta row mo=((J0 (pF e k ta row mo) k).1.1,15):=by unfold R5;rw[if_pos hq,if_neg (by simpa using hn)]
   rw[e1];exact⟨vS (J0 (pF e k ta row mo) k).1.1,Z8⟩
  ·have hn:(!((J0 (pF e k ta row mo) k).2==0))=false:=hn;have e1:R5 e k ta row mo=((J0 (pF e k ta row mo) k).1.1,14):=by unfold R5;rw[if_pos hq,if_pos (by simpa using hn)]
   rw[e1];exact⟨vS (J0 (pF e k ta row mo) k).1.1,Z8⟩
 ·have hq:¬ (T7 e.lk (qF e k ta row mo)).2=14:=λe1=>by
   have hq:((T7 e.lk (qF e k ta row mo)).2==14)=false:=hq;rw[e1] at hq;cases hq
  have e1:R5 e k ta row mo=(pF e k ta row mo,(T7 e.lk (qF e k ta row mo)).2):=by unfold R5;rw[if_neg hq]
  rw[e1];exact Z8
theorem cP{s:Sto}{no:Nat}:(Y3 s no).1.ep=s.ep:=by
 by_cases h:0<=frAt s.fr no
 ·rw[(yM 0 h).1]
 ·by_cases h3:s.fr.length=3
  ·cases ho:(X3 s s.J.toNat).2 with
   |true=>rw[(m6 0 h h3 ho).1];exact(u2 s s.J.toNat).2.2.2.1
   |false=>rw[(m4 0 h h3 ho).1];exact(u2 s s.J.toNat).2.2.2.1
  ·rw[(yF 0 h h3).1];rfl
structure FX(e:Eng)(f:Sto×Plc×Bool):Prop where
 lv:f.2.2=true->SI f.1/\f.1.L=e.s.L/\f.1.ep=e.s.ep
 dn:f.2.2=false->G4 f.1.d/\f.1.d.E.length=69
 pl:c6z f.2.1
theorem b4b{e:Eng}(h:SI e.s)(tx ta id:Int):∀n,n<=8->FX e (T2 e tx ta id n)
 |0,_=>⟨λ_=>⟨h,Z8⟩,(λf=>by cases f),⟨.inl rfl,.inl rfl⟩⟩
 |n+1,hn=>by
  have i:=b4b h tx ta id n Z9
  unfold T2;cases l:(T2 e tx ta id n).2.2 with
  |false=>rw[if_neg W7];exact i
  |true=>
   rw[if_pos rfl];obtain⟨I,g,d⟩:=i.lv l;cases f:(Y3 (T2 e tx ta id n).1 n).2.2 with
   |false=>
    rw[if_neg W7]
    exact⟨(λC=>by cases C),λ_=>rN I f,i.pl⟩
   |true=>
    rw[if_pos rfl];obtain⟨j1,j2⟩:=rQ I Z9 f
    exact⟨λ_=>⟨j1,j2.trans g,cP.trans d⟩,(λC=>by cases C),b5r Z9 i.pl 4 (U9 _)⟩
theorem a04{e:Eng}{tx ta id:Int}{n:Nat}(h:(T2 e tx ta id n).2.2=false):∀m,T2 e tx ta id (n+m)=T2 e tx ta id n
 |0=>rfl
 |m+1=>by
  have i:=a04 h m;show(if(T2 e tx ta id (n+m)).2.2=true then _ else T2 e tx ta id (n+m))=_
  rw[i,if_neg cW]
def rV(e:Eng)(tx ta id:Int):{y:Eng×Plc×Bool//y=(R7 e (T2 e tx ta id 8).1,(T2 e tx ta id 8).2.1,(T2 e tx ta id 8).2.2)}:=Classical.choice ⟨⟨_,rfl⟩⟩
def c6S:Con:=.rel ⟨Eng×Int×Int×Int,λx=>[.agg x.1.ts,Ji x.2.1,Ji x.2.2.1,Ji x.2.2.2],λx=>.tup [.agg (rV x.1 x.2.1 x.2.2.1 x.2.2.2).1.1.ts,.agg (rV x.1 x.2.1 x.2.2.1 x.2.2.2).1.2.1.ts,.bool (rV x.1 x.2.1 x.2.2.1 x.2.2.2).1.2.2],λx=>SI x.1.s/\wT x.1⟩
def FdI(B:Nat->Bool):Type:={n:Nat//n<=8/\B n=true}
def c6N(e:Eng)(tx ta id:Int)(F:Nat->Eng)(A:Nat->Plc)(B:Nat->Bool)(P:Nat->Pg)(I:Nat->Nat->Plc):Nat->Ann
 |0=>.one (FdI B) (λx=>⟨[(1,Ji tx),(2,Ji ta),(3,Ji id),(4,.ref 0 0 0),(8,.ref 1 0 0),(9,.ref 2 0 0),(10,.bool false),(11,.ref 3 0 0),(12,Ji x.1)],[m0 (F x.1),m0 uW,c21 ⟨0,0,0,0⟩,c21 (A x.1)]⟩) (λx=>8-x.1) [.box 0,.box 1,.box 2,.box 3] [.box 0,.box 1,.box 2,.box 3] (λx=>fun
  |1=>.one (Up 4) (λy=>⟨[(1,Ji tx),(2,Ji ta),(3,Ji id),(4,.ref 0 0 0),(8,.ref 1 0 0),(9,.ref 2 0 0),(10,.bool false),(11,.ref 3 0 0),(12,Ji x.1),(16,.ref 4 0 0),(17,Ji y.1)],[m0 (F (x.1+1)),m0 uW,c21 ⟨0,0,0,0⟩,c21 (I x.1 y.1),c9w (P x.1)]⟩) (λy=>4-y.1) [.box 0,.box 1,.box 2,.box 3,.box 5] [.box 0,.box 1,.box 2,.box 3,.box 4] (λ_=>Z3)
  |_=>.none)
 |_=>.none
theorem c6w(e:Eng)(tx ta id:Int)(F:Nat->Eng)(A:Nat->Plc)(B:Nat->Bool)(P:Nat->Pg)(I:Nat->Nat->Plc)(h:
let m:=(1=1/\1=1/\L4 uW uW);let r:=(0=0/\0=0);let q:=(1=1/\1=1/\(0:Int)=0/\(0:Int)=0/\(0:Int)=0/\(0:Int)=0/\True);  (∃(x:FdI B),let pd:=(A x.1);(tx=tx/\ta=ta/\id=id/\r/\r/\r/\false=false/\r/\0=(x.1:Int)/\True)/\(1=1/\1=1/\L4 e (F x.1))/\(1=1/\1=1/\0=0/\0=0/\false=false/\0=0/\(0:Int)=0/\0=0/\(0:Int)=0/\0=0/\(0:Int)=0/\false=false/\0=0/\0=0/\0=0/\(0:Int)=0/\True)/\q/\(1=1/\1=1/\(-1:Int)=pd.a/\(-1:Int)=pd.b/\(-1:Int)=pd.c/\(-1:Int)=pd.d/\True)/\True)/\∀(x:FdI B),let u:=x.1;let pc:=(F (u+1));let n:=(1=1/\1=1/\L4 pc pc);let k:=((A u).a=(A 8).a/\(A u).b=(A 8).b/\(A u).c=(A 8).c/\(A u).d=(A 8).d/\True);let w:=(1=1/\1=1/\(P u).Q=(P u).Q/\(Z0 Z5 (P u).sl (P u).sl)/\True);bd ((u:Int)<8) (∃(f:(Sto×Nat)),let j:=(Y3 f.1 f.2);let pb:=(j.1.fr.getD (↑j.2.1:Int).toNat dz);(((yU (F u).s f.1)/\(u:Int)=(f.2:Int)/\True)/\iX f.1 f.2)/\br (! j.2.2) ((L4 {(F u) with s:=j.1} (F 8))/\k/\false=B 8/\True) (W9 (↑j.2.1:Int) j.1.fr.length/\(∃(X:Up 4),let i:=(I x.1 X.val);(tx=tx/\ta=ta/\id=id/\r/\r/\r/\false=false/\r/\(u:Int)=(u:Int)/\r/\0=(X.val:Int)/\True)/\(1=1/\1=1/\L4 {(F u) with s:=j.1} pc)/\m/\q/\(1=1/\1=1/\(A u).a=i.a/\(A u).b=i.b/\(A u).c=i.c/\(A u).d=i.d/\True)/\(1=1/\1=1/\pb.pg.Q=(P u).Q/\(Z0 Z5 pb.pg.sl (P u).sl)/\True)/\True)/\∀(X:Up 4),let v:=(X.val:Int);let z:=(I x.1 X.val);let p:=(Ri (v+1)/\∃(y:Up 4),let l:=(I x.1 y.1);((tx=tx/\ta=ta/\id=id/\r/\r/\r/\false=false/\r/\(u:Int)=(u:Int)/\r/\v+1=(y.1:Int)/\True)/\n/\m/\q/\(1=1/\1=1/\z.a=l.a/\z.b=l.b/\z.c=l.c/\z.d=l.d/\True)/\w/\True)/\Lt (4-y.1) (4-X.val));bd (v<4) (W9 v (P u).sl.length/\br ((P u).sl.getD v.toNat []==[]) (W9 (2:Int) 4/\∃(g:(Eng×Int×Int×Int)),(decide (z.c<0)=true->((L4 pc g.1)/\tx=g.2.1/\(u:Int)=g.2.2.1/\v=g.2.2.2/\True)/\wT g.1)/\br (decide (z.c<0)&& !lN g.1 g.2.1 g.2.2.1 g.2.2.2) (W9 (2:Int) 4/\W9 (3:Int) 4/\Ri (v+1)/\∃(y:Up 4),let t:=(I x.1 y.1);((tx=tx/\ta=ta/\id=id/\r/\r/\r/\false=false/\r/\(u:Int)=(u:Int)/\r/\v+1=(y.1:Int)/\True)/\n/\m/\q/\(1=1/\1=1/\z.a=t.a/\z.b=t.b/\(u:Int)=t.c/\v=t.d/\True)/\w/\True)/\Lt (4-y.1) (4-X.val)) p) (W9 v (P u).sl.length/\∃(g:(Bz)),(((P u).sl.getD v.toNat []=g/\True)/\lJ g)/\(((sR g).2.2&&(sR g).1==ta&&(sR g).2.1.id==id)=true->W9 (0:Int) 4)/\br ((sR g).2.2&&(sR g).1==ta&&(sR g).2.1.id==id&&decide (z.a<0)) (W9 (0:Int) 4/\W9 (1:Int) 4/\Ri (v+1)/\∃(y:Up 4),let pa:=(I x.1 y.1);((tx=tx/\ta=ta/\id=id/\r/\r/\r/\false=false/\r/\(u:Int)=(u:Int)/\r/\v+1=(y.1:Int)/\True)/\n/\m/\q/\(1=1/\1=1/\(u:Int)=pa.a/\v=pa.b/\z.c=pa.c/\z.d=pa.d/\True)/\w/\True)/\Lt (4-y.1) (4-X.val)) p)) (Ri ((u:Int)+1)/\∃(y:FdI B),let pe:=(A y.1);((tx=tx/\ta=ta/\id=id/\r/\r/\r/\false=false/\r/\(u:Int)+1=(y.1:Int)/\True)/\(1=1/\1=1/\L4 pc (F y.1))/\m/\q/\(1=1/\1=1/\z.a=pe.a/\z.b=pe.b/\z.c=pe.c/\z.d=pe.d/\True)/\True)/\Lt (8-y.1) (8-u)))) ((L4 (F u) (F 8))/\k/\true=B 8/\True)):
  V3 prog 79 [.agg e.ts,Ji tx,Ji ta,Ji id] (.tup [.agg (F 8).ts,.agg (A 8).ts,.bool (B 8)]):=
 U6 (gC rP (gC a9a (gC a6Q gN))) func79 (c6N e tx ta id F A B P I) h
theorem c4T{e:Eng}{tx ta id:Int}{n:Nat}(h:(T2 e tx ta id n).2.2=true)(f:(Y3 (T2 e tx ta id n).1 n).2.2=true):T2 e tx ta id (n+1)=((Y3 (T2 e tx ta id n).1 n).1,vJ e tx ta id n (fpg e tx ta id n) (T2 e tx ta id n).2.1 4,true):=by
 conv=>lhs;unfold T2
 rw[if_pos h,if_pos f];rfl
theorem c4m{e:Eng}{tx ta id:Int}{n:Nat}(h:(T2 e tx ta id n).2.2=true)(f:(Y3 (T2 e tx ta id n).1 n).2.2=false):T2 e tx ta id (n+1)=((Y3 (T2 e tx ta id n).1 n).1,(T2 e tx ta id n).2.1,false):=by
 conv=>lhs;unfold T2
 rw[if_pos h,if_neg (by rw[f];simp)]
theorem c17:GK 79 c6S:=gk func79<|by
 rintro⟨e,tx,ta,id⟩ ⟨h,N⟩;dsimp only at h N;show V3 _ _ _ (.tup [.agg (rV e tx ta id).1.1.ts,.agg (rV e tx ta id).1.2.1.ts,.bool (rV e tx ta id).1.2.2]);rw[(rV e tx ta id).2];refine c6w e tx ta id (λn=>R7 e (T2 e tx ta id n).1) (λn=>(T2 e tx ta id n).2.1) (λn=>(T2 e tx ta id n).2.2) (fpg e tx ta id) (λn i=>vJ e tx ta id n (fpg e tx ta id n) (T2 e tx ta id n).2.1 i) ⟨⟨⟨0,Z8⟩,Z8⟩,λx=>?_⟩
 obtain⟨n,t,hv⟩:=x;dsimp only at t hv ⊢;refine⟨λhc=>?_,λhc=>?_⟩
 ·have hlt:n<8:=by have:=G6 hc;omega
  obtain⟨o,v,C⟩:=(b4b h tx ta id n t).lv hv;refine⟨((T2 e tx ta id n).1,n),⟨Z8,o.iv,hlt⟩,λu=>?_,λu=>?_⟩
  ·have u:(Y3 (T2 e tx ta id n).1 n).2.2=false:=by
    have u:(!(Y3 (T2 e tx ta id n).1 n).2.2)=true:=u
    simpa using u
   have f:=c4m hv u;have r:=a04 (n:=n+1) (by rw[f]) (8- (n+1))
   rw[show n+1+(8- (n+1))=8 by omega] at r
   rw[r,f];exact Z8
  ·have u:(Y3 (T2 e tx ta id n).1 n).2.2=true:=by
    have u:(!(Y3 (T2 e tx ta id n).1 n).2.2)=false:=u
    simpa using u
   have f:=c4T hv u;obtain⟨F,_,_,q,ps⟩:=xM o.iv hlt u;have d:(Y3 (T2 e tx ta id n).1 n).1.L=e.s.L:=(rQ o hlt u).2.trans v;have l:wT (R7 e (Y3 (T2 e tx ta id n).1 n).1):=by
    refine⟨?_,N.2.1,?_⟩
    ·show xL (Y3 (T2 e tx ta id n).1 n).1.L;rw[d];exact N.1
    ·show ∀i,i<e.X.length->(e.X.getD i dz).Z<=((Y3 (T2 e tx ta id n).1 n).1.L.length:Int);rw[d];exact N.2.2
   have hK:=λg sl=>b0l d tx g sl
   have q:(fpg e tx ta id n).sl.length=4:=q;have ps:∀i,i<4->((fpg e tx ta id n).sl.getD i []).length<=30:=λi hi=>ps i (by show i<(fpg e tx ta id n).sl.length;omega)
   have hp:((Y3 (T2 e tx ta id n).1 n).1.fr.getD (Y3 (T2 e tx ta id n).1 n).2.1 dz).pg=fpg e tx ta id n:=rfl;have z:=b7H e tx ta id n (fpg e tx ta id n) (T2 e tx ta id n).2.1;have j:vJ e tx ta id n (fpg e tx ta id n) (T2 e tx ta id n).2.1 0=(T2 e tx ta id n).2.1:=rfl;rw[f];dsimp only;rw[E4,hp];generalize fpg e tx ta id n=p at*;generalize (T2 e tx ta id n).2.1=A at*;generalize vJ e tx ta id n p A=I at*;refine⟨Y6 F,⟨⟨0,N5 _⟩,Z8,Z8,Z8,Z8,⟨rfl,rfl,lV,lV,lV,lV,Z6⟩,Z8⟩,λy=>?_⟩
   obtain⟨i,hi⟩:=y;dsimp only at hi ⊢;refine⟨λhc2=>?_,λhc2=>?_⟩
   ·have hit:i<4:=by have:=G6 hc2;omega
    have hIi:=z i;rw[E4];refine⟨Y6 Z9,λhz=>?_,λhz=>?_⟩
    ·have hz:p.sl.getD i []=[]:=by simpa using hz
     rw[if_pos hz] at hIi;refine⟨⟨Z9,Z9⟩,(R7 e (Y3 (T2 e tx ta id n).1 n).1,tx,n,i),λ_=>⟨Z8,l⟩,λhq=>?_,λhq=>?_⟩
     ·dsimp only at hq;rw[hK] at hq;simp only[I4,q8,wA] at hq;rw[if_pos hq] at hIi;exact⟨⟨Z9,Z9⟩,⟨Z9,Z9⟩,Z4 Z9,⟨i+1,hit⟩,⟨⟨rfl,rfl,rfl,Z8,Z8,Z8,rfl,Z8,rfl,Z8,X5,Z6⟩,Z8,Z8,Z8,⟨rfl,rfl,yO,yO,yO,yO,Z6⟩,Z8⟩,K0⟩
     ·dsimp only at hq;rw[hK] at hq;rw[if_neg (by rintro⟨a1,a2⟩;rw[mR a1,a2] at hq;cases hq)] at hIi
      exact⟨Z4 Z9,⟨i+1,hit⟩,⟨⟨rfl,rfl,rfl,Z8,Z8,Z8,rfl,Z8,rfl,Z8,X5,Z6⟩,Z8,Z8,Z8,⟨rfl,rfl,yO,yO,yO,yO,Z6⟩,Z8⟩,K0⟩
    ·have hz:¬p.sl.getD i []=[]:=by simpa using hz
     have B:=ps i hit;rw[if_neg hz] at hIi;refine⟨Y6 Z9,p.sl.getD i [],⟨Z8,by show _<=1000000000;omega⟩,λ_=>⟨Z9,Z9⟩,λhq=>?_,λhq=>?_⟩
     ·have hq:(a1G (p.sl.getD i []) ta id&&decide ((I i).a<0))=true:=hq;simp only[I4,q8] at hq;rw[if_pos hq] at hIi;exact⟨⟨Z9,Z9⟩,⟨Z9,Z9⟩,Z4 Z9,⟨i+1,hit⟩,⟨⟨rfl,rfl,rfl,Z8,Z8,Z8,rfl,Z8,rfl,Z8,X5,Z6⟩,Z8,Z8,Z8,⟨rfl,rfl,yO,yO,yO,yO,Z6⟩,Z8⟩,K0⟩
     ·have hq:(a1G (p.sl.getD i []) ta id&&decide ((I i).a<0))=false:=hq;rw[if_neg (by rintro⟨a1,a2⟩;rw[a1,mR a2] at hq;cases hq)] at hIi
      exact⟨Z4 Z9,⟨i+1,hit⟩,⟨⟨rfl,rfl,rfl,Z8,Z8,Z8,rfl,Z8,rfl,Z8,X5,Z6⟩,Z8,Z8,Z8,⟨rfl,rfl,yO,yO,yO,yO,Z6⟩,Z8⟩,K0⟩
   ·obtain rfl:i=4:=by have:=m9 hc2;omega
    refine⟨Z4 Z9,⟨n+1,hlt,(by show(T2 e tx ta id (n+1)).2.2=true;rw[f])⟩,?_,K0⟩
    dsimp only;rw[f];exact⟨⟨rfl,rfl,rfl,Z8,Z8,Z8,rfl,Z8,Z9,Z6⟩,Z8⟩
 ·obtain rfl:n=8:=by have:=m9 hc;omega
  exact⟨vS _,Z8,hv.symm,Z6⟩
end
end Go.Proofs.YtpdnnhnfongoeaaGreat
