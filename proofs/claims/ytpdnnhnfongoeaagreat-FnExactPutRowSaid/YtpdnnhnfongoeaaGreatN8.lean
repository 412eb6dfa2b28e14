/- A part of the proof. -/
import Derived.Test.YtpdnnhnfongoeaaGreatV1e
import Derived.Test.YtpdnnhnfongoeaaGreatU32
namespace Go.Proofs.YtpdnnhnfongoeaaGreat
set_option maxRecDepth 100000
open Go.SS Go.Proofs.Tryz
noncomputable section
def a2V:Con:=.rel ⟨Int×Int,λx=>[Ji x.1,Ji x.2],λx=>.bool (b2a x.1 x.2),λ_=>True⟩
def a36(a b:Int)(h:
  (a==b||a==4||b==1)=b2a a b):
  V4 prog 333 [Ji a,Ji b] (.bool (b2a a b)):=
 U5 gN func333 Z3 h
def a2d:GK 333 a2V:=gk func333<|λx _=>a36 x.1 x.2 rfl
def a8W:Con:=.rel ⟨Lks×Lck,λx=>.agg x.1.ts::x.2.ts,λx=>.bool (anyI x.1.H.length (qC x.1.H x.2)),λx=>L9 x.1.H.length⟩
def a66(l:Lks)(x:Lck):Nat->Ann
 |0=>.one (V5 l.H.length (qC l.H x)) (λy=>⟨[(1,Ji x.tx),(2,Ji x.ta),(3,Ji x.row),(4,Ji x.mo),(5,.ref 0 0 0),(11,Ji y.1)],[lkB l]⟩) (λy=>l.H.length-y.1) [.box 0] [.box 0] (λ_=>Z3)
 |_=>.none
def a4R:GK 261 a8W:=gk func261<|by
 rintro⟨l,x⟩ (hL:l.H.length<1000000000000);refine U5 (gC a2d gN) func261 (a66 l x) (α:=let q:=(1=1/\1=1/\(Z0 Z2 l.H l.H)/\(Z0 Y7 l.W l.W)/\True);(∃(X:V5 l.H.length (qC l.H x)),(x.tx=x.tx/\x.ta=x.ta/\x.row=x.row/\x.mo=x.mo/\(0=0/\0=0)/\0=(X.val:Int)/\True)/\q/\True)/\∀(X:V5 l.H.length (qC l.H x)),let r:=(X.val:Int);let p:=(l.H.getD r.toNat dz);bd (r<(l.H.length:Int)) (W9 r l.H.length/\∃(d:(Int×Int)),((p.tx==x.tx&&p.ta==x.ta&&p.row==x.row)=true->(p.mo=d.1/\x.mo=d.2/\True)/\True)/\br (p.tx==x.tx&&p.ta==x.ta&&p.row==x.row&&b2a d.1 d.2) (true=anyI l.H.length (qC l.H x)) (Ri (r+1)/\∃(y:V5 l.H.length (qC l.H x)),((x.tx=x.tx/\x.ta=x.ta/\x.row=x.row/\x.mo=x.mo/\(0=0/\0=0)/\r+1=(y.1:Int)/\True)/\q/\True)/\Lt (l.H.length-y.1) (l.H.length-X.val))) (false=anyI l.H.length (qC l.H x))) ⟨⟨F4,Z8⟩,λy=>⟨λC=>?_,λC=>?_⟩⟩
 ·have h:=Y2 C;exact⟨Y6 h,((l.H.getD y.1 dz).mo,x.mo),λ_=>Z8,λhp=>(R9.2 ⟨y.1,h,hp⟩).symm,λhp=>⟨W2 h Z9,y.succ h hp,⟨⟨rfl,rfl,rfl,rfl,Z8,I9,Z6⟩,Z8⟩,V5.ext_lt h⟩⟩
 ·have e:=Y0 C;exact(P5.2 λj J=>y.2.2 j (xY J e)).symm
def c7A:Con:=.rmk ⟨Lks,λl=>[.agg l.ts],λ_=>[],λl=>.agg (l.tm 0),λl=>l.hp,uX⟩
def c3s:GK 84 c7A:=gk func84<|by
 rintro(l:Lks) ⟨h1,h2⟩;exact⟨C6 (gC P6 (gC P6 (gC P6 (gC P6 (gC P6 (gC P6 (gC P6 (gC P6 gN)))))))) func84 Z3 [[.arr 2,.arr 3]] (α:=U8 0 l.H.length 32/\U8 0 l.W.length 16/\(((0=0/\l.H.length=l.H.length)/\(0=0/\l.W.length=l.W.length)/\True)/\True)/\(Z0 Z2 l.H l.H)/\(Z0 Y7 l.W l.W)/\True) ⟨R0,R0,Z8⟩,rfl,rD l⟩
def c7D:Con:=.reff ⟨Lks×Int,λx=>[.agg (x.1.tm 0),Ji x.2],λx=>x.1.hp,λx=>.agg [.osl 0 0 x.1.H.length,.osl 2 0 (J1 x.1 x.2).W.length],λx=>[yY x.1.H,sU x.1.W,sU (J1 x.1 x.2).W],λx=>x.1.W.length<=1000000⟩
def c5w(l:Lks)(tx:Int):Nat->Ann
 |0=>.one (Up l.W.length) (λx=>⟨[(1,Ji tx),(2,.ref 2 0 0),(4,.ref 3 0 0),(5,.osl 4 0 (X8 (cF tx) l.W x.1).length),(6,Ji x.1)],[yY l.H,sU l.W,some (.arr false 1000000 2 1 λ_=>l.tm 0),lkB ⟨[],[]⟩,sU (X8 (cF tx) l.W x.1)]⟩) (λx=>l.W.length-x.1) c5m c5m (λ_=>Z3)
 |_=>.none
def c3x:GK 260 c7D:=gk func260<|by
 rintro⟨l,tx⟩ (h1:l.W.length<=1000000);refine C6 gN func260 (c5w l tx) [[.arr 0,.arr 1,.vl 0 [1]]] (α:=let a:=(X8 (cF tx) l.W l.W.length);let g:=(0=0/\l.H.length=l.H.length);let n:=(Z0 Y7 l.W l.W);let m:=(Z0 Z2 l.H l.H);let v:=(0=0/\0=0);let z:=(1=1/\1=1/\(0=0/\Z7 0 (Z2 []) (Z2 []))/\(0=0/\Z7 0 (Y7 []) (Y7 []))/\True);let q:=(1=1/\1=1/\g/\(0=0/\l.W.length=l.W.length)/\True);(∃(x:Up l.W.length),let w:=(X8 (cF tx) l.W x.1);(tx=tx/\v/\v/\(0=0/\0=w.length)/\0=(x.1:Int)/\True)/\m/\n/\q/\(1=1/\1=1/\0=0/\0=0/\True)/\(0=w.length/\Z7 0 (λ(k:Nat)=>List.take 2 (List.drop (k*2) [])) (Y7 w))/\True)/\∀(x:Up l.W.length),let d:=(l.W.length-x.1);let r:=(x.1:Int);let c:=(0+r.toNat);let u:=(l.W.getD c dz);let p:=(X8 (cF tx) l.W x.1);let f:=p.length;bd (r<(l.W.length:Int)) (W9 r l.W.length/\Lt c l.W.length/\br (u.tx !=tx) (W9 r l.W.length/\Lt c l.W.length/\(Le 1 1/\Le p.length f/\U8 p.length 1 16)/\Ri (r+1)/\∃(y:Up l.W.length),let j:=(X8 (cF tx) l.W y.1);((tx=tx/\v/\v/\(0=0/\f+1=j.length)/\r+1=(y.1:Int)/\True)/\m/\n/\q/\z/\(f+1=j.length/\Z7 (f+1) (X4 (Y7 p) p.length λ(k:Nat)=>List.take 2 (List.drop (k*2) [Ji u.tx,Ji u.fo])) (Y7 j))/\True)/\Lt (l.W.length-y.1) d) (Ri (r+1)/\∃(y:Up l.W.length),let b:=(X8 (cF tx) l.W y.1);((tx=tx/\v/\v/\(0=0/\f=b.length)/\r+1=(y.1:Int)/\True)/\m/\n/\q/\z/\(Z0 Y7 p b)/\True)/\Lt (l.W.length-y.1) d)) (((g/\(0=0/\f=a.length)/\True)/\True)/\m/\n/\(Z0 Y7 p a)/\True)) ⟨⟨⟨0,N4 _⟩,Z8,Z8,Z8,Z8,Z8,⟨rfl,P1⟩,Z6⟩,λx=>⟨λhc=>?_,λhc=>?_⟩⟩
 ·have hlt:=Y2 hc;have hle:=q7 (cF tx) l.W x.1;rw[E3,D4];refine⟨Y6 hlt,hlt,λhq=>?_,λhq=>?_⟩
  ·have hn:=rE (f:=cF tx) hq;refine⟨Y6 hlt,hlt,⟨U9 _,U9 _,R0⟩,Z4 Z9,⟨x.1+1,hlt⟩,⟨⟨rfl,Z8,Z8,⟨rfl,hn⟩,X5,Z6⟩,Z8,Z8,Z8,⟨rfl,rfl,⟨rfl,P1⟩,⟨rfl,P1⟩,Z6⟩,⟨hn,?_⟩,Z6⟩,V5.ext_lt hlt⟩
   dsimp only;rw[aG (f:=cF tx) hq];exact zV Wt.ts 2 (λ_=>rfl) _ _
  ·have hn:=pR (f:=cF tx) hq;refine⟨Z4 Z9,⟨x.1+1,hlt⟩,?_,V5.ext_lt hlt⟩
   dsimp only;rw[hn];exact⟨⟨rfl,Z8,Z8,Z8,Z9,Z6⟩,Z8,Z8,Z8,⟨rfl,rfl,⟨rfl,P1⟩,⟨rfl,P1⟩,Z6⟩,Z8⟩
 ·have hx:x.1=l.W.length:=by have:=x.2;have:=Y0 hc;omega
  rw[hx];exact Z8
def a5p(W:List Wt)(R:List Int):Nat:=(W.filter λw=> !R.contains w.fo).length
def RnS(W:List Wt)(tx:Int):Type:={x:Nat×Nat×List Int//a1V W tx x.1 x.2.1 x.2.2=rnd W tx/\a5p W x.2.2+x.2.2.length<=x.2.1+x.1/\x.2.1<=x.2.2.length/\x.1+x.2.1=200}
def ScS(W:List Wt)(tx a:Int)(R:List Int):Type:={x:Nat×List Int//x.1<=W.length/\scn W tx a R x.1=some x.2}
def a7C:Con:=.rel ⟨Lks×Int,λx=>[.agg x.1.ts,Ji x.2],λx=>.bool (rnd x.1.W x.2),λx=>x.1.W.length<=100⟩
def a8L(l:Lks)(tx:Int):Nat->Ann
 |0=>.one (RnS l.W tx) (λx=>⟨[(1,Ji tx),(2,.ref 0 0 0),(5,.osl 1 0 x.1.2.2.length),(6,Ji x.1.2.1)],[lkB l,A0 x.1.2.2]⟩) (λx=>x.1.1) b7V b7V (λx=>fun
  |1=>.one (ScS l.W tx (x.1.2.2.getD x.1.2.1 0) x.1.2.2) (λy=>⟨[(1,Ji tx),(2,.ref 0 0 0),(5,.osl 1 0 y.1.2.length),(6,Ji x.1.2.1),(7,Ji y.1.1)],[lkB l,A0 y.1.2]⟩) (λy=>l.W.length-y.1.1) b7V b7V (λy=>fun
   |2=>.one {j:Nat//j<=y.1.2.length} (λz=>⟨[(1,Ji tx),(2,.ref 0 0 0),(5,.osl 1 0 y.1.2.length),(6,Ji x.1.2.1),(7,Ji y.1.1),(8,.ref 2 0 0),(9,.bool (anyI z.1 (thr y.1.2 (l.W.getD y.1.1 dz).fo))),(10,Ji z.1)],[lkB l,A0 y.1.2,some (.arr true 1000000 2 1 λ_=>(l.W.getD y.1.1 dz).ts)]⟩) (λz=>y.1.2.length-z.1) [.box 0,.at_ 5,.box 2] [.box 0,.at_ 5,.box 2] (λ_=>Z3)
   |_=>.none)
  |_=>.none)
 |_=>.none
def b7x{n:Nat}{p:Nat->Bool}:anyI (n+1) p=(anyI n p||p n):=by
 unfold anyI;rw[List.range_succ,List.any_append];simp
def a42{α:Type}{p q:α->Bool}(h:∀b,q b=true->p b=true):∀L:List α,(L.filter q).length<=(L.filter p).length
 | []=>U9 _
 |b::L=>by
  have i:=a42 h L;cases Q:q b with
  |true=>rw[List.filter_cons_of_pos Q,List.filter_cons_of_pos (h b Q)];simp only[List.length_cons];omega
  |false=>
   rw[List.filter_cons_of_neg (by rw[Q];simp)]
   cases hp:p b with
   |true=>rw[List.filter_cons_of_pos hp];simp only[List.length_cons];omega
   |false=>rw[List.filter_cons_of_neg (by rw[hp];simp)];exact i
def a3J{α:Type}{p q:α->Bool}(h:∀b,q b=true->p b=true){a:α}(hp:p a=true)(hq:q a=false):∀L:List α,a ∈ L->(L.filter q).length+1<=(L.filter p).length
 |b::L,ha=>by
  have M:=a42 h L;by_cases e:b=a
  ·subst e;rw[List.filter_cons_of_pos hp,List.filter_cons_of_neg (by rw[hq];simp)]
   simp only[List.length_cons];omega
  ·have ih:=a3J h hp hq L ((vN.1 ha).resolve_left λe'=>e e'.symm)
   cases B:q b with
   |true=>rw[List.filter_cons_of_pos B,List.filter_cons_of_pos (h b B)];simp only[List.length_cons];omega
   |false=>
    rw[List.filter_cons_of_neg (by rw[B];simp)]
    cases d:p b with
    |true=>rw[List.filter_cons_of_pos d];simp only[List.length_cons];omega
    |false=>rw[List.filter_cons_of_neg (by rw[d];simp)];exact ih
def c0E{Q:List Int}{a:Int}(h:anyI Q.length (thr Q a)=false):a ∉ Q:=λM=>by
 obtain⟨i,hi,e⟩:=List.getElem_of_mem M;have:=P5.1 h i hi;unfold thr at this;rw[P4,I1 hi,e,Option.getD_some] at this
 simp at this
def c3j{W:List Wt}{Q:List Int}{k:Nat}(d:k<W.length)(h:anyI Q.length (thr Q (W.getD k dz).fo)=false):a5p W (Q++[(W.getD k dz).fo])+1<=a5p W Q:=by
 have M:=c0E h;refine a3J (λb B=>?_) (a:=W.getD k dz) ?_ ?_ W (c0m d)
 ·simp only[vZ,List.contains_eq_mem,uH,List.mem_append,not_or] at B ⊢;exact B.1
 ·simp only[vZ,List.contains_eq_mem,uH];exact M
 ·simp
def dT{W:List Wt}{tx a:Int}{R Q:List Int}{k:Nat}(h:scn W tx a R k=some Q):scn W tx a R (k+1)=if(W.getD k dz).tx=a then(if(W.getD k dz).fo=tx then none else if anyI Q.length (thr Q (W.getD k dz).fo)=true then some Q else some (Q++[(W.getD k dz).fo])) else some Q:=by
 conv=>lhs;unfold scn
 rw[h]
def mA{W:List Wt}{tx a:Int}{R:List Int}{k:Nat}(h:scn W tx a R k=none):∀d,scn W tx a R (k+d)=none
 |0=>h
 |d+1=>by
  show scn W tx a R ((k+d)+1)=none;conv=>lhs;unfold scn
  rw[mA h d]
def a7U{W:List Wt}{tx a:Int}{R:List Int}:∀k Q,k<=W.length->scn W tx a R k=some Q->(∀i,i<R.length->Q.getD i 0=R.getD i 0)/\R.length<=Q.length/\a5p W Q+Q.length<=a5p W R+R.length
 |0,Q,_,h=>by
  unfold scn at h;cases h;exact Z8
 |k+1,Q,hk,h=>by
  cases d:scn W tx a R k with
  |none=>have:=mA d 1;rw[this] at h;cases h
  |some Q0=>
   obtain⟨I,f,e⟩:=a7U k Q0 Z9 d
   rw[dT d] at h;split at h
   ·split at h
    ·cases h
    ·split at h
     ·cases h;exact⟨I,f,e⟩
     ·rename_i ha;cases h;have:=c3j (W:=W) (k:=k) Z9 sT
      refine⟨λi hi=>?_,C7,by simp only[F9,List.length_singleton];omega⟩
      rw[←I i hi,P4,rL Z9,←P4]
   ·cases h;exact⟨I,f,e⟩
def c5r{W:List Wt}{tx:Int}{f i:Nat}{R:List Int}(hi:i<R.length):a1V W tx (f+1) i R=match scn W tx (R.getD i 0) R W.length with|none=>true|some Q=>a1V W tx f (i+1) Q:=by
 conv=>lhs;unfold a1V
 rw[if_pos hi];cases scn W tx (R.getD i 0) R W.length<;>rfl
def c5i{W:List Wt}{tx:Int}{f i:Nat}{R:List Int}(hi:¬i<R.length):a1V W tx f i R=false:=by
 cases f with
 |zero=>rfl
 |succ f=>unfold a1V;rw[if_neg hi]
def a4a:GK 262 a7C:=gk func262<|by
 rintro⟨l,tx⟩ (h:l.W.length<=100);have W:∀R,a5p l.W R<=100:=λR=>Nat.le_trans (List.length_filter_le _ _) h
 refine U5 gN func262 (a8L l tx) (α:=let w:=(0=0/\0=0);let q:=(1=1/\1=1/\(Z0 Z2 l.H l.H)/\(Z0 Y7 l.W l.W)/\True);(∃(x:RnS l.W tx),(tx=tx/\w/\(0=0/\1=x.1.2.2.length)/\0=(x.1.2.1:Int)/\True)/\q/\(1=x.1.2.2.length/\Z7 1 (λ(k:Nat)=>List.take 1 (List.drop (k*1) [Ji tx])) (Y9 x.1.2.2))/\True)/\∀(x:RnS l.W tx),let z:=(x.1.2.1:Int);bd (z<(x.1.2.2.length:Int)) ((∃(X:ScS l.W tx (x.1.2.2.getD x.1.2.1 (0:Int)) x.1.2.2),(tx=tx/\w/\(0=0/\x.1.2.2.length=X.val.2.length)/\z=z/\0=(X.val.1:Int)/\True)/\q/\(Z0 Y9 x.1.2.2 X.val.2)/\True)/\∀(X:ScS l.W tx (x.1.2.2.getD x.1.2.1 (0:Int)) x.1.2.2),let a:=(l.W.length-X.val.1);let g:=(Z0 Y9 X.val.2 X.val.2);let f:=(0=0/\X.val.2.length=X.val.2.length);let u:=(X.val.1:Int);let m:=(l.W.getD u.toNat dz);let r:=(l.W.getD X.val.1 dz);let v:=(thr X.val.2 r.fo);let p:=(Ri (u+1)/\∃(y:ScS l.W tx (x.1.2.2.getD x.1.2.1 (0:Int)) x.1.2.2),((tx=tx/\w/\(0=0/\X.val.2.length=y.1.2.length)/\z=z/\u+1=(y.1.1:Int)/\True)/\q/\(Z0 Y9 X.val.2 y.1.2)/\True)/\Lt (l.W.length-y.1.1) a);bd (u<(l.W.length:Int)) (W9 u l.W.length/\W9 z X.val.2.length/\Lt (0+z.toNat) X.val.2.length/\br (m.tx !=X.val.2.getD (0+z.toNat) (0:Int)) p (br (m.fo==tx) (true=rnd l.W tx) ((∃(d:{j:Nat//j<=X.val.2.length}),(tx=tx/\w/\f/\z=z/\u=u/\w/\false=anyI d.val v/\0=(d.val:Int)/\True)/\q/\g/\(1=1/\1=1/\m.tx=r.tx/\m.fo=r.fo/\True)/\True)/\∀(d:{j:Nat//j<=X.val.2.length}),let n:=(d.val:Int);bd (n<(X.val.2.length:Int)) ((anyI d.val v=false->W9 n X.val.2.length)/\(anyI d.val v=false->Lt (0+n.toNat) X.val.2.length)/\Ri (n+1)/\∃(y:{j:Nat//j<=X.val.2.length}),((tx=tx/\w/\f/\z=z/\u=u/\w/\(anyI d.val v||X.val.2.getD (0+n.toNat) (0:Int)==r.fo)=anyI y.1 v/\n+1=(y.1:Int)/\True)/\q/\g/\(1=1/\1=1/\r.tx=r.tx/\r.fo=r.fo/\True)/\True)/\Lt (X.val.2.length-y.1) (X.val.2.length-d.val)) (br (!anyI d.val v) ((Le 1 1/\Le X.val.2.length X.val.2.length/\U8 X.val.2.length 1 8)/\Ri (u+1)/\∃(y:ScS l.W tx (x.1.2.2.getD x.1.2.1 (0:Int)) x.1.2.2),((tx=tx/\w/\(0=0/\X.val.2.length+1=y.1.2.length)/\z=z/\u+1=(y.1.1:Int)/\True)/\q/\(X.val.2.length+1=y.1.2.length/\Z7 (X.val.2.length+1) (X4 (Y9 X.val.2) X.val.2.length λ(k:Nat)=>List.take 1 (List.drop (k*1) [Ji r.fo])) (Y9 y.1.2))/\True)/\Lt (l.W.length-y.1.1) a) p)))) (Ri (z+1)/\∃(y:RnS l.W tx),((tx=tx/\w/\(0=0/\X.val.2.length=y.1.2.2.length)/\z+1=(y.1.2.1:Int)/\True)/\q/\(Z0 Y9 X.val.2 y.1.2.2)/\True)/\Lt y.1.1 x.1.1)) (false=rnd l.W tx)) ⟨⟨⟨(200,0,[tx]),rfl,by have:=W [tx];dsimp only[List.length_singleton];omega,N4 _,rfl⟩,⟨rfl,⟨rfl,rfl⟩,⟨rfl,rfl⟩,rfl,Z6⟩,⟨rfl,rfl,⟨rfl,X6 _ _⟩,⟨rfl,X6 _ _⟩,Z6⟩,⟨rfl,λj J=>by(obtain rfl:j=0:=by omega);rfl⟩,Z6⟩,λx=>?_⟩
 obtain⟨⟨f,i,R⟩,e,M,hi,q⟩:=x;dsimp only at e M hi q ⊢;have u:=W R;refine⟨λhc=>?_,λhc=>?_⟩
 ·have hlt:=Y2 hc;obtain⟨g,rfl⟩:∃g,f=g+1:=⟨f-1,Z9⟩
  rw[c5r hlt] at e;refine⟨⟨⟨(0,R),Z8⟩,Z8⟩,λy=>?_⟩
  obtain⟨⟨k,Q⟩,n,hs⟩:=y;dsimp only at n hs ⊢;obtain⟨r,v,A⟩:=a7U k Q n hs;have e1:=r i hlt;rw[E3 k,E3 i,D4];refine⟨λhc2=>?_,λhc2=>?_⟩
  ·have hkt:=Y2 hc2;have hss:=dT hs;refine⟨Y6 hkt,Y6 Z9,Q2,λhq=>?_,λhq=>⟨λhb=>?_,λhb=>⟨⟨⟨0,N4 _⟩,Z8⟩,λz=>?_⟩⟩⟩
   ·rw[e1] at hq;rw[if_neg (by simpa using hq)] at hss
    exact⟨Z4 Z9,⟨(k+1,Q),hkt,hss⟩,⟨⟨rfl,Z8,Z8,rfl,X5,Z6⟩,Z8⟩,J8⟩
   ·rw[e1] at hq;rw[if_pos (by simpa using hq),if_pos jH] at hss
    have:=mA hss (l.W.length- (k+1));rw[show k+1+(l.W.length- (k+1))=l.W.length by omega] at this
    rw[this] at e;exact e
   ·rw[e1] at hq;rw[if_pos (by simpa using hq),if_neg jH] at hss
    obtain⟨j,J⟩:=z;dsimp only at J ⊢;rw[E3,D4];refine⟨λhc3=>?_,λhc3=>?_⟩
    ·have t:=Y2 hc3;exact⟨λ_=>Y6 t,λ_=>t,Z4 Z9,⟨j+1,t⟩,⟨⟨rfl,Z8,Z8,rfl,rfl,Z8,b7x.symm,X5,Z6⟩,Z8⟩,J8⟩
    ·obtain rfl:j=Q.length:=by have:=Y0 hc3;omega
     refine⟨λha=>?_,λha=>?_⟩
     ·have ha:anyI Q.length (thr Q (l.W.getD k dz).fo)=false:=by simpa using ha
      rw[if_neg (by rw[ha];simp)] at hss
      refine⟨⟨U9 _,U9 _,R0⟩,Z4 Z9,⟨(k+1,Q++[(l.W.getD k dz).fo]),hkt,hss⟩,⟨⟨rfl,Z8,⟨rfl,W7⟩,rfl,X5,Z6⟩,Z8,⟨W7,?_⟩,Z6⟩,J8⟩
      exact zV (λa=>[Ji a]) 1 (λ_=>rfl) Q _
     ·have ha:anyI Q.length (thr Q (l.W.getD k dz).fo)=true:=by simpa using ha
      rw[if_pos ha] at hss;exact⟨Z4 Z9,⟨(k+1,Q),hkt,hss⟩,⟨⟨rfl,Z8,Z8,rfl,X5,Z6⟩,Z8⟩,J8⟩
  ·obtain rfl:k=l.W.length:=by have:=Y0 hc2;omega
   rw[hs] at e;exact⟨Z4 Z9,⟨(g,i+1,Q),e,X5,X5,X5⟩,⟨⟨rfl,Z8,Z8,X5,Z6⟩,Z8⟩,J8⟩
 ·have o:=Y0 hc;rw[←e];exact(c5i Z9).symm
def b4a(l:Lks)(x:Lck):Nat->Ann
 |0=>.one (Up l.H.length) (λi=>⟨[(1,Ji x.tx),(2,Ji x.ta),(3,Ji x.row),(4,Ji x.mo),(5,.ref 0 0 0),(10,.ref 1 0 0),(11,Ji 0),(12,.ref 2 0 0),(13,.osl 5 0 (V1 l.H x i.1).length),(14,Ji i.1)],[lkB l,lkB ⟨[],[]⟩,lkO 3 l.H.length 4 (J1 l x.tx).W.length,yY l.H,sU (J1 l x.tx).W,sU (V1 l.H x i.1)]⟩) (λi=>l.H.length-i.1) [.box 0,.box 1,.box 5,.cel 5 0,.cel 5 1,.at_ 13] [.box 0,.box 1,.box 2,.cel 2 0,.cel 2 1,.at_ 13] (λi=>fun
  |1=>.one {j:Nat//j<=(V1 l.H x i.1).length} (λj=>⟨[(1,Ji x.tx),(2,Ji x.ta),(3,Ji x.row),(4,Ji x.mo),(5,.ref 0 0 0),(10,.ref 1 0 0),(11,Ji 0),(12,.ref 2 0 0),(13,.osl 5 0 (V1 l.H x i.1).length),(14,Ji i.1),(15,.ref 6 0 0),(16,.ref 7 0 0),(17,.bool (anyI j.1 (cX (V1 l.H x i.1) ⟨x.tx,(l.H.getD i.1 dz).tx⟩))),(18,Ji j.1)],[lkB l,lkB ⟨[],[]⟩,lkO 3 l.H.length 4 (J1 l x.tx).W.length,yY l.H,sU (J1 l x.tx).W,sU (V1 l.H x i.1),some (.arr true 1000000 4 1 λ_=>(l.H.getD i.1 dz).ts),some (.arr true 1000000 2 1 λ_=>[Ji x.tx,Ji (l.H.getD i.1 dz).tx])]⟩) (λj=>(V1 l.H x i.1).length-j.1) c4Z c4Z (λ_=>Z3)
  |_=>.none)
 |_=>.none
def b3M:Con:=.rel ⟨Lks×Lck,λx=>.agg x.1.ts::x.2.ts,λx=>.tup [.agg (T6 x.1 x.2).1.ts,Ji (T6 x.1 x.2).2],λx=>x.1.H.length<=60/\x.1.W.length<=100⟩
def c4W{L:List Lck}{x:Lck}{i:Nat}:V1 L x (i+1)=if clash (L.getD i dz) x=true then(if anyI (V1 L x i).length (cX (V1 L x i) ⟨x.tx,(L.getD i dz).tx⟩)=true then V1 L x i else V1 L x i++[⟨x.tx,(L.getD i dz).tx⟩]) else V1 L x i:=rfl
def c4P(a b:Lck):((a.tx !=b.tx)&&(a.ta==b.ta)&&(a.row==b.row)&& !nA a.mo b.mo)=clash a b:=by
 unfold clash rY;rw[Bool.and_assoc (a.tx !=b.tx)]
def a59(L M:List Wt):Z7 (L.length+M.length) (X4 (Y7 L) L.length (Y7 M)) (Y7 (L++M)):=by
 intro i hi;unfold X4 Y7;by_cases h:i<L.length
 ·rw[rX h];dsimp only;rw[P4,P4,rL h]
 ·rw[mH h];dsimp only;rw[P4,P4,qA Z9]
def a6Y:GK 165 b3M:=gk func165<|by
 rintro⟨l,x⟩ ⟨v,u⟩;dsimp only at v u;have C:(X8 (cF x.tx) l.W l.W.length).length<=l.W.length:=q7 (cF x.tx) l.W l.W.length;have r:=λn=>a7i (L:=l.H) (x:=x) n
 refine U5 (gC c3s (gC c3x (gC a4R (gC a0c (gC a4a gN))))) func165 (b4a l x) (α:=let pr:=(l.H.length+1);let pm:=(T6 l x).1.W;let pk:=(T6 l x).1.H;let pi:=(T6 l x).2;let pe:=(Z0 Z2 l.H l.H);let i:=(0=0/\0=0);let a:=(1=1/\1=1/\pe/\(Z0 Y7 l.W l.W)/\True);let w:=(1=1/\1=1/\(0=0/\Z7 0 (Z2 []) (Z2 []))/\(0=0/\Z7 0 (Y7 []) (Y7 []))/\True);let p:=(X8 (cF x.tx) l.W l.W.length);let pq:=(Z0 Y7 p p);let ph:=p.length;let pa:=((Z0 Z2 l.H pk)/\(Z0 Y7 p pm)/\True);let b:=(Le (0+l.H.length) l.H.length/\Le (0+ph) ph);let n:=(1=1/\1=1/\(0=0/\l.H.length=l.H.length)/\(0=0/\ph=ph)/\True);∃(q:Lks),((((Z0 Z2 l.H q.H)/\(Z0 Y7 l.W q.W)/\True)/\True)/\uX q)/\∃(d:(Lks×Int)),let pu:=d.1.W.length;let pn:=d.1.H.length;let m:=(X8 (cF d.2) d.1.W pu);let pd:=(Le (0+pn) pn/\Le (0+m.length) m.length);((((0=0/\q.H.length=pn)/\(0=0/\q.W.length=pu)/\True)/\x.tx=d.2/\True)/\((Z0 Z2 q.H d.1.H)/\(Z0 Y7 q.W d.1.W)/\True)/\pu<=1000000)/\∃(h:(Lks×Lck)),(pd/\(((Z0 Z2 d.1.H h.1.H)/\(Z0 Y7 m h.1.W)/\True)/\x.tx=h.2.tx/\x.ta=h.2.ta/\x.row=h.2.row/\x.mo=h.2.mo/\True)/\L9 h.1.H.length)/\br (anyI h.1.H.length (qC h.1.H h.2)) (pd/\((Z0 Z2 d.1.H pk)/\(Z0 Y7 m pm)/\True)/\0=pi/\True) ((∃(X:Up l.H.length),let po:=(V1 l.H x X.val);(x.tx=x.tx/\x.ta=x.ta/\x.row=x.row/\x.mo=x.mo/\i/\i/\(0:Int)=0/\i/\(0=0/\0=po.length)/\0=(X.val:Int)/\True)/\a/\(1=1/\1=1/\0=0/\0=0/\True)/\(1=1/\1=1/\(0=0/\pn=l.H.length)/\(0=0/\m.length=ph)/\True)/\(Z0 Z2 d.1.H l.H)/\(Z0 Y7 m p)/\(0=po.length/\Z7 0 (λ(k:Nat)=>List.take 2 (List.drop (k*2) [])) (Y7 po))/\True)/\∀(X:Up l.H.length),let pb:=(X.val:Int);let v:=(l.H.getD (0+pb.toNat) dz);let u:=(l.H.getD X.val dz);let r:=(V1 l.H x X.val);let t:=(cX r (Wt.mk x.tx u.tx));let c:=r.length;let ps:=(↑c:Int);let z:=(Ri (pb+1)/\∃(y:Up l.H.length),((x.tx=x.tx/\x.ta=x.ta/\x.row=x.row/\x.mo=x.mo/\i/\i/\(0:Int)=0/\i/\(0=0/\c=(V1 l.H x y.1).length)/\pb+1=(y.1:Int)/\True)/\a/\w/\n/\pe/\pq/\(Z0 Y7 r (V1 l.H x y.1))/\True)/\Lt (l.H.length-y.1) (l.H.length-X.val));bd (pb<(l.H.length:Int)) (W9 pb l.H.length/\Lt (0+pb.toNat) l.H.length/\∃(f:(Int×Int)),((v.tx !=x.tx&&v.ta==x.ta&&v.row==x.row)=true->(v.mo=f.1/\x.mo=f.2/\True)/\True)/\br (v.tx !=x.tx&&v.ta==x.ta&&v.row==x.row&& !nA f.1 f.2) ((∃(g:{j:Nat//j<=(V1 l.H x X.val).length}),(x.tx=x.tx/\x.ta=x.ta/\x.row=x.row/\x.mo=x.mo/\i/\i/\(0:Int)=0/\i/\(0=0/\c=c)/\pb=pb/\i/\i/\false=anyI g.val t/\0=(g.val:Int)/\True)/\a/\w/\n/\pe/\pq/\(Z0 Y7 r r)/\(1=1/\1=1/\v.tx=u.tx/\v.ta=u.ta/\v.row=u.row/\v.mo=u.mo/\True)/\(1=1/\1=1/\x.tx=x.tx/\v.tx=u.tx/\True)/\True)/\∀(g:{j:Nat//j<=(V1 l.H x X.val).length}),let pf:=(g.val:Int);let pt:=(r.getD (0+pf.toNat) dz);bd (pf<ps) ((anyI g.val t=false->W9 pf c)/\(anyI g.val t=false->Lt (0+pf.toNat) c)/\Ri (pf+1)/\∃(y:{j:Nat//j<=(V1 l.H x X.val).length}),((x.tx=x.tx/\x.ta=x.ta/\x.row=x.row/\x.mo=x.mo/\i/\i/\(0:Int)=0/\i/\(0=0/\c=c)/\pb=pb/\i/\i/\(anyI g.val t||pt.tx==x.tx&&(pt.fo==u.tx&&true))=anyI y.1 t/\pf+1=(y.1:Int)/\True)/\a/\w/\n/\pe/\pq/\(Z0 Y7 r r)/\(1=1/\1=1/\u.tx=u.tx/\u.ta=u.ta/\u.row=u.row/\u.mo=u.mo/\True)/\(1=1/\1=1/\x.tx=x.tx/\u.tx=u.tx/\True)/\True)/\Lt (c-y.1) (c-g.val)) (br (!anyI g.val t) ((Le 1 1/\Le r.length c/\U8 r.length 1 16)/\Ri (pb+1)/\∃(y:Up l.H.length),let pp:=(V1 l.H x y.1);((x.tx=x.tx/\x.ta=x.ta/\x.row=x.row/\x.mo=x.mo/\i/\i/\(0:Int)=0/\i/\(0=0/\c+1=pp.length)/\pb+1=(y.1:Int)/\True)/\a/\w/\n/\pe/\pq/\(c+1=pp.length/\Z7 (c+1) (X4 (Y7 r) r.length λ(k:Nat)=>List.take 2 (List.drop (k*2) [Ji x.tx,Ji u.tx])) (Y7 pp))/\True)/\Lt (l.H.length-y.1) (l.H.length-X.val)) z)) z) (br (ps==0) (br ((l.H.length:Int)==60) (b/\pa/\7=pi/\True) ((Le 1 1/\Le l.H.length l.H.length/\U8 l.H.length 1 32)/\(Le (0+pr) pr/\Le (0+ph) ph)/\((l.H.length+1=(T6 l x).1.H.length/\Z7 pr (X4 (Z2 l.H) l.H.length λ(k:Nat)=>List.take 4 (List.drop (k*4) [Ji x.tx,Ji x.ta,Ji x.row,Ji x.mo])) (Z2 pk))/\(Z0 Y7 p pm)/\True)/\0=pi/\True)) (Ri ((↑ph:Int)+ps)/\bd ((↑ph:Int)+ps>100) (b/\pa/\7=pi/\True) (∃(f:Lks),let pj:=(X4 (Y7 f.W) f.W.length (Y7 r));let pg:=f.W.length;let pc:=(Le (0+f.H.length) f.H.length/\Le (0+(pg+c)) (pg+c));(b/\(((Z0 Z2 l.H f.H)/\(Z0 Y7 p f.W)/\True)/\True)/\uX f)/\(Le (0+c) c/\Le f.W.length pg/\U8 f.W.length r.length 16)/\∃(g:(Lks×Int)),(pc/\(((Z0 Z2 f.H g.1.H)/\(pg+c=g.1.W.length/\Z7 (pg+c) pj (Y7 g.1.W))/\True)/\x.tx=g.2/\True)/\g.1.W.length<=100)/\br (rnd g.1.W g.2) (b/\pa/\14=pi/\True) (pc/\((Z0 Z2 f.H pk)/\(pg+c=(T6 l x).1.W.length/\Z7 (pg+c) pj (Y7 pm))/\True)/\13=pi/\True)))))) ⟨l,⟨Z8,Z9,Z9⟩,(l,x.tx),⟨Z8,Z8,X5⟩,(J1 l x.tx,x),⟨⟨K0,K0⟩,Z8,by unfold L9 J1;dsimp only;omega⟩,λhh=>?_,λhh=>⟨⟨⟨0,N4 _⟩,Z8,Z8,Z8,Z8,Z8,Z8,⟨rfl,P1⟩,Z6⟩,λy=>?_⟩⟩
 ·have hh:anyI l.H.length (qC l.H x)=true:=hh;have e:T6 l x=(J1 l x.tx,0):=by unfold T6;rw[if_pos hh]
  rw[e];exact⟨⟨K0,K0⟩,Z8⟩
 have hh:¬anyI l.H.length (qC l.H x)=true:=by
  have hh:anyI l.H.length (qC l.H x)=false:=hh;rw[hh];simp
 obtain⟨i,hi⟩:=y;dsimp only at hi ⊢;have I:=r i;rw[E3,D4];refine⟨λhc=>?_,λhc=>?_⟩
 ·have hlt:=Y2 hc;have hw1:=c4W (L:=l.H) (x:=x) (i:=i);refine⟨Y6 hlt,hlt,((l.H.getD i dz).mo,x.mo),λ_=>Z8,λhq=>⟨⟨⟨0,N4 _⟩,Z8,Z8,⟨rfl,rfl,⟨rfl,P1⟩,⟨rfl,P1⟩,Z6⟩,Z8⟩,λz=>?_⟩,λhq=>?_⟩
  ·rw[if_pos ((c4P _ x).symm.trans hq)] at hw1;obtain⟨j,hj⟩:=z;dsimp only at hj ⊢;rw[E3,D4];refine⟨λhc2=>?_,λhc2=>?_⟩
   ·have t:=Y2 hc2;exact⟨λ_=>Y6 t,λ_=>t,Z4 Z9,⟨j+1,t⟩,⟨⟨rfl,rfl,rfl,rfl,Z8,Z8,rfl,Z8,Z8,rfl,Z8,Z8,b7x.symm,X5,Z6⟩,Z8,⟨rfl,rfl,⟨rfl,P1⟩,⟨rfl,P1⟩,Z6⟩,Z8⟩,J8⟩
   ·obtain rfl:j=(V1 l.H x i).length:=by have:=Y0 hc2;omega
    refine⟨λha=>?_,λha=>?_⟩
    ·rw[if_neg sT] at hw1
     have N:(V1 l.H x i).length+1=(V1 l.H x (i+1)).length:=by rw[hw1];simp
     refine⟨⟨U9 _,U9 _,R0⟩,Z4 Z9,⟨i+1,hlt⟩,⟨⟨rfl,rfl,rfl,rfl,Z8,Z8,rfl,Z8,⟨rfl,N⟩,X5,Z6⟩,Z8,⟨rfl,rfl,⟨rfl,P1⟩,⟨rfl,P1⟩,Z6⟩,Z8,Z8,Z8,⟨N,?_⟩,Z6⟩,J8⟩
     dsimp only;rw[hw1];exact zV Wt.ts 2 (λ_=>rfl) (V1 l.H x i) ⟨x.tx,(l.H.getD i dz).tx⟩
    ·rw[if_pos sT] at hw1
     refine⟨Z4 Z9,⟨i+1,hlt⟩,?_,J8⟩
     dsimp only;rw[hw1];exact⟨⟨rfl,rfl,rfl,rfl,Z8,Z8,rfl,Z8,Z8,Z9,Z6⟩,Z8,⟨rfl,rfl,⟨rfl,P1⟩,⟨rfl,P1⟩,Z6⟩,Z8⟩
  ·rw[if_neg (by rw[←c4P,hq];simp)] at hw1
   refine⟨Z4 Z9,⟨i+1,hlt⟩,?_,J8⟩
   dsimp only;rw[hw1];exact⟨⟨rfl,rfl,rfl,rfl,Z8,Z8,rfl,Z8,Z8,Z9,Z6⟩,Z8,⟨rfl,rfl,⟨rfl,P1⟩,⟨rfl,P1⟩,Z6⟩,Z8⟩
 ·obtain rfl:i=l.H.length:=by have:=Y0 hc;omega
  refine⟨λh0=>⟨λo=>?_,λo=>?_⟩,λh0=>⟨Z4 Z9,λB=>?_,λB=>?_⟩⟩
  ·have h0:(C0 l x).length=0:=by have:=beq_iff_eq.1 h0;unfold C0;omega
   have o:l.H.length=60:=by have:=beq_iff_eq.1 o;omega
   have e:T6 l x=(J1 l x.tx,7):=by unfold T6;rw[if_neg hh,if_pos h0,if_pos o]
   rw[e];exact⟨⟨K0,K0⟩,Z8⟩
  ·have h0:(C0 l x).length=0:=by have:=beq_iff_eq.1 h0;unfold C0;omega
   have o:¬l.H.length=60:=λe=>by rw[e] at o;cases o
   have e:T6 l x=(⟨l.H++[x],(J1 l x.tx).W⟩,0):=by unfold T6;rw[if_neg hh,if_pos h0,if_neg o]
   rw[e];exact⟨⟨U9 _,U9 _,R0⟩,⟨K0,K0⟩,⟨⟨W7,zV Lck.ts 4 (λ_=>rfl) _ x⟩,Z8⟩,Z8⟩
  ·have h0:¬ (C0 l x).length=0:=λe=>by
    have e:(V1 l.H x l.H.length).length=0:=e;rw[e] at h0;cases h0
   have B:(J1 l x.tx).W.length+(C0 l x).length>100:=by have:=G7 B;unfold C0 J1;dsimp only;omega
   have e:T6 l x=(J1 l x.tx,7):=by unfold T6;rw[if_neg hh,if_neg h0,if_pos B]
   rw[e];exact⟨⟨K0,K0⟩,Z8⟩
  ·have h0:¬ (C0 l x).length=0:=λe=>by
    have e:(V1 l.H x l.H.length).length=0:=e;rw[e] at h0;cases h0
   have B:(X8 (cF x.tx) l.W l.W.length).length+(V1 l.H x l.H.length).length<=100:=by have:=r9 B;omega
   have hb':¬ (J1 l x.tx).W.length+(C0 l x).length>100:=by unfold C0 J1;dsimp only;omega
   have A:(X8 (cF x.tx) l.W l.W.length).length+(V1 l.H x l.H.length).length=((J1 l x.tx).W++C0 l x).length:=by unfold C0 J1;simp
   refine⟨J1 l x.tx,⟨⟨K0,K0⟩,Z8,by show l.H.length<=_;omega,by show(X8 (cF x.tx) l.W l.W.length).length<=_;omega⟩,⟨K0,U9 _,by show U8 (X8 (cF x.tx) l.W l.W.length).length _ _;unfold U8;omega⟩,(⟨l.H,(J1 l x.tx).W++C0 l x⟩,x.tx),⟨⟨K0,K0⟩,⟨⟨⟨rfl,X6 _ _⟩,⟨A,a59 _ _⟩,Z6⟩,rfl,Z6⟩,X5⟩,λhr=>?_,λhr=>?_⟩
   ·have hr:rnd ((J1 l x.tx).W++C0 l x) x.tx=true:=hr;have e:T6 l x=(J1 l x.tx,14):=by unfold T6;rw[if_neg hh,if_neg h0,if_neg hb',if_pos hr]
    rw[e];exact⟨⟨K0,K0⟩,Z8⟩
   ·have hr:¬rnd ((J1 l x.tx).W++C0 l x) x.tx=true:=by
     have hr:rnd ((J1 l x.tx).W++C0 l x) x.tx=false:=hr;rw[hr];simp
    have e:T6 l x=(⟨l.H,(J1 l x.tx).W++C0 l x⟩,13):=by unfold T6;rw[if_neg hh,if_neg h0,if_neg hb',if_neg hr]
    rw[e];exact⟨⟨K0,K0⟩,⟨Z8,⟨A,a59 _ _⟩,Z6⟩,Z8⟩
def Q7(L:List Val):Nat->Bz
 |0=>[]
 |i+1=>Q7 L i++m7 (L.getD i dz)
def jA(v:Val):Prop:=v.t.length<=100/\(v.k=0∨(v.k=1/\ -1000000000<=v.n/\v.n<=1000000000)∨v.k=2)
def RwK(r:Rw):Prop:=jA r.n/\jA r.name/\0<=r.id/\r.id<=1000
def b7c:Con:=.rel ⟨Val,λv=>[.agg v.ts],λv=>.bys (m7 v),jA⟩
def b16:GK 337 b7c:=gk func337<|by
 rintro(v:Val) ⟨ht,hk⟩;have u8:∀n:Int,0<=n->n<=255->R2 IntKind.u8 n:=λn a b=>(pI n).2 ⟨a,b⟩
 refine U5 (gC tP gN) func337 Z3 (α:=br (v.k==0) (R2 IntKind.u8 (1:Int)/\Le 1 1/\List.take 1 (List.drop 0 (List.map R1 [(1:Int)]))=m7 v) (br (v.k==1) (R2 IntKind.u8 (2:Int)/\Ri (v.n+1000000000)/\∃(x:nL.ι),((v.n+1000000000=(x.1:Int)/\(4=match x.2 with|true=>(4:Int)|false=>(2:Int))/\True)/\True)/\(Le 1 1/\U8 1 (match x.2 with|true=>z8 x.1|false=>yX x.1).length 1)/\Le (0+(1+(match x.2 with|true=>z8 x.1|false=>yX x.1).length)) (List.take 1 (List.map R1 [(2:Int)])++match x.2 with|true=>z8 x.1|false=>yX x.1).length/\List.take (1+(match x.2 with|true=>z8 x.1|false=>yX x.1).length) (List.drop 0 (List.take 1 (List.map R1 [(2:Int)])++match x.2 with|true=>z8 x.1|false=>yX x.1))=m7 v) (R2 IntKind.u8 (3:Int)/\(Le 1 1/\U8 1 v.t.length 1)/\R2 IntKind.u8 (0:Int)/\(Le 1 1/\Le (1+v.t.length) (List.take 1 (List.map R1 [(3:Int)])++v.t).length/\U8 (1+v.t.length) 1 1)/\Le (0+(1+v.t.length+1)) (List.take (1+v.t.length) (List.take 1 (List.map R1 [(3:Int)])++v.t)++List.take 1 (List.drop 0 (List.map R1 [(0:Int)]))).length/\List.take (1+v.t.length+1) (List.drop 0 (List.take (1+v.t.length) (List.take 1 (List.map R1 [(3:Int)])++v.t)++List.take 1 (List.drop 0 (List.map R1 [(0:Int)]))))=m7 v))) ⟨λh0=>?_,λh0=>⟨λh1=>?_,λh1=>?_⟩⟩
 ·have h0:v.k=0:=beq_iff_eq.1 h0;unfold m7;rw[if_pos h0];exact⟨u8 _ M4 M4,Z8⟩
 ·have h1:v.k=1:=beq_iff_eq.1 h1;have hn:=(hk.resolve_left Z9).resolve_right Z9
  unfold m7;rw[if_neg Z9,if_pos h1]
  exact⟨u8 _ M4 M4,Z4 Z9,((v.n+1000000000).toNat,true),⟨⟨X5,Z8⟩,Z6⟩,⟨U9 _,by show U8 1 4 1;unfold U8;omega⟩,U9 _,rfl⟩
 ·have h0:¬v.k=0:=λe=>by rw[e] at h0;cases h0
  have h1:¬v.k=1:=λe=>by rw[e] at h1;cases h1
  have d:List.take (1+v.t.length) (List.take 1 (List.map R1 [(3:Int)])++v.t)=3::v.t:=List.take_of_length_le (by show(3::v.t).length<=_;simp only[List.length_cons];omega)
  unfold m7;rw[if_neg h0,if_neg h1,d];refine⟨u8 _ M4 M4,⟨U9 _,R0⟩,u8 _ M4 M4,⟨U9 _,by show 1+v.t.length<=(3::v.t).length;simp only[List.length_cons];omega,R0⟩,by show 0+(1+v.t.length+1)<=(3::v.t++[0]).length;simp only[F9,List.length_cons,List.length_nil];omega,?_⟩
  exact List.take_of_length_le (by show(3::v.t++[0]).length<=_;simp only[F9,List.length_cons,List.length_nil];omega)
def b1w:Con:=.rel ⟨List Val,λL=>[b4D L],λL=>.bys (Q7 L L.length),λL=>L.length<=100/\∀i,i<L.length->jA (L.getD i dz)⟩
def b1p(L:List Val):Nat->Ann
 |0=>.one (Up L.length) (λx=>⟨[(0,b4D L),(3,.osl 0 0 (Q7 L x.1).length),(4,Ji x.1)],[some (.bys 5 (Q7 L x.1))]⟩) (λx=>L.length-x.1) [.at_ 3] [.at_ 3] (λ_=>Z3)
 |_=>.none
def gP{v:Val}(h:jA v):(m7 v).length<=102:=by
 unfold m7;split
 ·exact yH rfl
 ·split
  ·exact yH rfl
  ·have:=h.1;simp only[List.length_cons,F9,List.length_nil];omega
def eL{L:List Val}(h:∀i,i<L.length->jA (L.getD i dz)):∀i,i<=L.length->(Q7 L i).length<=102*i
 |0,_=>U9 _
 |i+1,hi=>by
  have d:=eL h i Z9
  have e:=gP (h i Z9)
  simp only[Q7,F9];omega
def a7j:GK 278 b1w:=gk func278<|by
 rintro(L:List Val) ⟨hL,hk⟩;refine U5 (gC b16 gN) func278 (b1p L) (α:=(∃(x:Up L.length),((Z0 Q1 L L)/\(0=0/\0=(Q7 L x.1).length)/\0=(x.1:Int)/\True)/\List.map R1 []=Q7 L x.1/\True)/\∀(x:Up L.length),let z:=(Q7 L x.1);let q:=(x.1:Int);let r:=(L.getD q.toNat dz);let p:=z.length;bd (q<(L.length:Int)) (W9 q L.length/\∃(X:Val),(((r.k=X.k/\r.n=X.n/\r.t=X.t/\True)/\True)/\jA X)/\(Le p p/\U8 p (m7 X).length 1)/\Ri (q+1)/\∃(y:Up L.length),(((Z0 Q1 L L)/\(0=0/\p+(m7 X).length=(Q7 L y.1).length)/\q+1=(y.1:Int)/\True)/\List.take p z++m7 X=Q7 L y.1/\True)/\Lt (L.length-y.1) (L.length-x.1)) (Le (0+p) p/\List.take p (List.drop 0 z)=Q7 L L.length)) ⟨⟨⟨0,N4 _⟩,Z8⟩,λx=>⟨λhc=>?_,λhc=>?_⟩⟩
 ·have hlt:=Y2 hc;have h1:=eL hk x.1 Z9
  have h:=gP (hk x.1 hlt);exact⟨Y6 hlt,L.getD x.1 dz,⟨Z8,hk x.1 hlt⟩,⟨U9 _,R0⟩,Z4 Z9,⟨x.1+1,hlt⟩,⟨⟨Z8,⟨rfl,by simp only[Q7,F9]⟩,X5,Z6⟩,by rw[j_l];rfl,Z6⟩,V5.ext_lt hlt⟩
 ·have hx:x.1=L.length:=by have:=x.2;have:=Y0 hc;omega
  rw[hx];exact⟨K0,cI⟩
def a8j:Con:=.rel ⟨Int×Rw,λx=>[Ji x.1,.agg x.2.ts],λx=>.str (sW x.1 x.2),λx=>RwK x.2/\1<=x.1/\x.1<=3⟩
def a2W:GK 202 a8j:=gk func202<|by
 rintro⟨ta,r⟩ ⟨⟨d,h,j,f⟩,g,e⟩;dsimp only at d h j f g e;refine U5 (gC a7j (gC P6 gN)) func202 Z3 (α:=∃(x:(List Val)),let p:=x.length;(((4=p/\Z7 4 (λ(k:Nat)=>List.take 3 (List.drop (k*3) [Ji 1,Ji ta,T.str [],Ji 1,Ji r.id,T.str [],Ji r.n.k,Ji r.n.n,T.str r.n.t,Ji r.name.k,Ji r.name.n,T.str r.name.t])) (Q1 x))/\True)/\p<=100/\∀(i:Nat),i<p->jA (List.getD x i dz))/\Q7 x (p)=sW ta r) ⟨[⟨1,ta,[]⟩,⟨1,r.id,[]⟩,r.n,r.name],⟨⟨⟨rfl,λi hi=>?_⟩,Z6⟩,by show 4<=100;omega,λi hi=>?_⟩,rfl⟩
 ·match i,hi with
  |0,_=>rfl
  |1,_=>rfl
  |2,_=>rfl
  |3,_=>rfl
 ·match i,hi with
  |0,_=>exact⟨a9P,.inr (.inl ⟨rfl,by show-1000000000<=ta;omega,by show ta<=_;omega⟩)⟩
  |1,_=>exact⟨a9P,.inr (.inl ⟨rfl,by show-1000000000<=r.id;omega,by show r.id<=_;omega⟩)⟩
  |2,_=>exact d
  |3,_=>exact h
def EI.u{e:Eng}(h:EI e){k:Nat}(d:k<e.X.length):UI e k (e.X.getD k dz).id (e.X.getD k dz).Z:=c4L h.ok h.sm h.up (h.h.at_ d) d rfl
def KpS(e:Eng)(g s:Int)(i:Nat):Type:={x:Nat×Int//kepA e.s.L g s x.1 x.2=kepA e.s.L g s 61 (e.X.getD i dz).Z/\x.2.toNat<x.1/\x.2<=(e.s.L.length:Int)}
def b3z:Con:=.rel ⟨Eng×Int×Int×Int,λx=>[.agg x.1.ts,Ji x.2.1,Ji x.2.2.1,Ji x.2.2.2],λx=>.bool (lM x.1 x.2.1 x.2.2.1 x.2.2.2),λx=>wR x.1⟩
def b4m(e:Eng)(tx g s:Int):Nat->Ann
 |0=>.one (V5 e.X.length (oP e tx g s)) (λx=>⟨[(1,Ji tx),(2,Ji g),(3,Ji s),(4,.ref 0 0 0),(9,Ji x.1)],[l8 e]⟩) (λx=>e.X.length-x.1) [.box 0] [.box 0] (λx=>fun
  |1=>.one (KpS e g s x.1) (λy=>⟨[(1,Ji tx),(2,Ji g),(3,Ji s),(4,.ref 0 0 0),(9,Ji x.1),(10,Ji y.1.2)],[l8 e]⟩) (λy=>y.1.1) [.box 0] [.box 0] (λ_=>Z3)
  |_=>.none)
 |_=>.none
def c4y{L:List Rec}{g s:Int}{f:Nat}{a:Int}(h:¬a<=0):kepA L g s (f+1) a=if(Y8 L a).k=3 then kepA L g s f (Y8 L a).n else if(Y8 L a).k=2/\(Y8 L a).g=g/\(Y8 L a).s=s then true else kepA L g s f (Y8 L a).p:=by
 conv=>lhs;unfold kepA
 rw[if_neg h]
def c4s{L:List Rec}{g s:Int}{f:Nat}{a:Int}(h:a<=0):kepA L g s f a=false:=by
 cases f with
 |zero=>rfl
 |succ f=>unfold kepA;rw[if_pos h]
def a9c:GK 168 b3z:=gk func168<|by
 rintro⟨e,tx,g,s⟩ ⟨hL,l,hb⟩;dsimp only at hL l hb;have o:=hL.1;refine U5 gN func168 (b4m e tx g s) (α:=let v:=(0=0/\0=0);let u:=(1=1/\1=1/\L0 e e);(∃(x:V5 e.X.length (oP e tx g s)),(tx=tx/\g=g/\s=s/\v/\0=(x.1:Int)/\True)/\u/\True)/\∀(x:V5 e.X.length (oP e tx g s)),let z:=(x.1:Int);let w:=(e.X.getD z.toNat dz);let q:=(Ri (z+1)/\∃(y:V5 e.X.length (oP e tx g s)),((tx=tx/\g=g/\s=s/\v/\z+1=(y.1:Int)/\True)/\u/\True)/\Lt (e.X.length-y.1) (e.X.length-x.1));bd (z<(e.X.length:Int)) (W9 z e.X.length/\br (w.id==tx) q (W9 z e.X.length/\(∃(X:KpS e g s x.1),(tx=tx/\g=g/\s=s/\v/\z=z/\w.Z=X.val.2/\True)/\u/\True)/\∀(X:KpS e g s x.1),let j:=(X.val.2-1);let r:=(e.s.L.getD j.toNat dz);bd (X.val.2>0) (Ri j/\W9 j e.s.L.length/\br (r.k==3) (∃(y:KpS e g s x.1),((tx=tx/\g=g/\s=s/\v/\z=z/\r.n=y.1.2/\True)/\u/\True)/\Lt y.1.1 X.val.1) (br (r.k==2&&r.g==g&&r.s==s) (true=lM e tx g s) (∃(y:KpS e g s x.1),((tx=tx/\g=g/\s=s/\v/\z=z/\r.p=y.1.2/\True)/\u/\True)/\Lt y.1.1 X.val.1))) q)) (false=lM e tx g s)) ⟨⟨F4,Z8⟩,λx=>⟨λhc=>?_,λhc=>?_⟩⟩
 ·have hlt:=Y2 hc;have hx:=hb x.1 hlt;rw[E3];refine⟨Y6 hlt,λhq=>⟨W2 hlt Z9,x.succ hlt (by unfold oP;rw[hq];rfl),⟨⟨rfl,rfl,rfl,⟨rfl,rfl⟩,I9,Z6⟩,⟨rfl,rfl,vR _⟩,Z6⟩,V5.ext_lt hlt⟩,λhq=>⟨Y6 hlt,⟨⟨(61,(e.X.getD x.1 dz).Z),rfl,X5,hx⟩,Z8⟩,λy=>?_⟩⟩
  obtain⟨⟨f,a⟩,Y,F,ha⟩:=y;dsimp only at Y F ha ⊢;obtain⟨f,rfl⟩:∃q,f=q+1:=⟨f-1,Z9⟩
  refine⟨λhp=>?_,λhp=>?_⟩
  ·have hp:a>0:=G7 hp;obtain⟨p1,p2,p3,p4⟩:=hL.prev (show 1<=a by omega) ha
   rw[c4y Z9] at Y
   refine⟨Z4 Z9,⟨Z9,Z9⟩,λd=>?_,λd=>?_⟩
   ·have d:(Y8 e.s.L a).k=3:=beq_iff_eq.1 d;rw[if_pos d] at Y;exact⟨⟨(f,(Y8 e.s.L a).n),Y,X5,X5⟩,Z8,J8⟩
   ·have d:¬ (Y8 e.s.L a).k=3:=λr=>by
     have d:((Y8 e.s.L a).k==3)=false:=d;rw[r] at d;cases d
    rw[if_neg d] at Y;refine⟨λh=>?_,λh=>?_⟩
    ·have h:((Y8 e.s.L a).k==2&&(Y8 e.s.L a).g==g&&(Y8 e.s.L a).s==s)=true:=h;simp only[J5,beq_iff_eq] at h;rw[if_pos ⟨h.1.1,h.1.2,h.2⟩] at Y;exact(R9.2 ⟨x.1,hlt,by unfold oP;rw[hq,←Y];rfl⟩).symm
    ·have h:¬ ((Y8 e.s.L a).k=2/\(Y8 e.s.L a).g=g/\(Y8 e.s.L a).s=s):=λ⟨a1,a2,a3⟩=>by
      have h:((Y8 e.s.L a).k==2&&(Y8 e.s.L a).g==g&&(Y8 e.s.L a).s==s)=false:=h;rw[a1,a2,a3] at h;simp at h
     rw[if_neg h] at Y;exact⟨⟨(f,(Y8 e.s.L a).p),Y,X5,X5⟩,Z8,J8⟩
  ·have hp:a<=0:=by have:=r9 hp;omega
   rw[c4s hp] at Y;exact⟨W2 hlt Z9,x.succ hlt (by unfold oP;rw[←Y,Bool.and_false]),⟨⟨rfl,rfl,rfl,⟨rfl,rfl⟩,I9,Z6⟩,⟨rfl,rfl,vR _⟩,Z6⟩,V5.ext_lt hlt⟩
 ·have i:=Y0 hc;exact(P5.2 λj J=>x.2.2 j (xY J i)).symm
def Plc.ts(A:Plc):List T:=[Ji A.a,Ji A.b,Ji A.c,Ji A.d]
def c3i(A:Plc):Option Ob:=some (.arr true 1000000 4 1 λ_=>A.ts)
def c9X(p:Pg):Option Ob:=some (.arr true 1000000 2 1 λ_=>p.ts)
def fpg(e:Eng)(tx ta id:Int)(n:Nat):Pg:=((Y3 (T2 e tx ta id n).1 n).1.fr.getD (Y3 (T2 e tx ta id n).1 n).2.1 dz).pg
def b0n{e:Eng}{s:Sto}(h:s.L=e.s.L)(tx g sl:Int):lM (R7 e s) tx g sl=lM e tx g sl:=by
 unfold lM oP R7;dsimp only;rw[h]
def b7P(e:Eng)(tx ta id:Int)(n:Nat)(p:Pg)(A:Plc)(i:Nat):vI e tx ta id n p A (i+1)=if p.sl.getD i []=[] then(if(vI e tx ta id n p A i).c<0/\lM e tx n i=false then⟨(vI e tx ta id n p A i).a,(vI e tx ta id n p A i).b,n,i⟩ else vI e tx ta id n p A i)
  else if a1K (p.sl.getD i []) ta id=true/\(vI e tx ta id n p A i).a<0 then⟨n,i,(vI e tx ta id n p A i).c,(vI e tx ta id n p A i).d⟩ else vI e tx ta id n p A i:=rfl
def c2O(e:Eng)(k:Nat)(r:Rec):(E9 e k r).s.L.getD (((e.s.L.length+1:Nat):Int)-1).toNat dz=P9 e.s (B9 e k r):=by
 have d:(((e.s.L.length+1:Nat):Int)-1).toNat=e.s.L.length:=Z9
 rw[d,P4]
 show((e.s.L++[P9 e.s (B9 e k r)])[e.s.L.length]?).getD dz=_;rw[List.getElem?_concat_length]
 rfl
structure XI(e:Eng)(k:Nat)(tx:Int):Prop where
 u:UI e k tx (e.X.getD k dz).Z
 nd:wR e
def b0w{e:Eng}{tx:Int}{k:Nat}(h:R3 e=true)(M:M7 e)(u:e.up=true)(A:T8 e.X tx=k)(f:k<e.X.length)(hi:(e.X.getD k dz).id=tx):XI e k tx:=
 ⟨c4L h M u A f hi,(c48 (u4 h).1 M.1).logP,(xG (u4 h).2.1).1,λi d=>(a9p h u d).2⟩
def c2x{l:Lks}{x:Lck}(h1:l.H.length<=60)(h:l.W.length<=100):(T6 l x).1.H.length<=60/\(T6 l x).1.W.length<=100:=by
 have hc:(J1 l x.tx).H.length<=60/\(J1 l x.tx).W.length<=100:=⟨h1,Nat.le_trans (q7 (cF x.tx) l.W l.W.length) h⟩;unfold T6;split
 ·exact hc
 ·split
  ·split
   ·exact hc
   ·refine⟨?_,hc.2⟩
    rw[F9,List.length_singleton];omega
  ·split
   ·exact hc
   ·split
    ·exact hc
    ·refine⟨h1,?_⟩
     rw[F9];omega
def c9r{e:Eng}{k:Nat}{tx:Int}(h:XI e k tx){l:Lks}(L:l.H.length<=60/\l.W.length<=100):XI {e with lk:=l} k tx:=
 ⟨⟨⟨h.u.u.si,h.u.u.at_,h.u.u.lt,h.u.u.id,h.u.u.txr,h.u.u.la,h.u.u.ep,h.u.u.t10,L,h.u.u.rm⟩,h.u.ar,h.u.fu⟩,h.nd⟩
def a7p{e:Eng}{k:Nat}{tx:Int}(h:XI e k tx){s:Sto}(g:SI s)(l:s.L=e.s.L)(d:s.ep=e.s.ep):XI (R7 e s) k tx:=by
 have u:=h.u.u;refine⟨⟨⟨g,u.at_,u.lt,u.id,u.txr,?_,?_,u.t10,u.lk,?_⟩,?_,?_⟩,?_,h.nd.2.1,?_⟩
 ·show 1<=(e.X.getD k dz).Z/\(e.X.getD k dz).Z<=s.L.length;rw[l];exact u.la
 ·show 1<=s.ep/\s.ep<=60;rw[d];exact u.ep
 ·show s.L.length+1<=60;rw[l];exact u.rm
 ·show 0<=(e.X.getD k dz).Z/\(e.X.getD k dz).Z<=(s.L.length:Int);rw[l];exact h.u.ar
 ·show ∃f,(e.X.getD k dz).Z.toNat<f/\s.L.length+1+und s.L f (e.X.getD k dz).Z<=60;rw[l];exact h.u.fu
 ·show xH s.L;rw[l];exact h.nd.1
 ·show ∀i,i<e.X.length->(e.X.getD i dz).Z<=(s.L.length:Int);rw[l];exact h.nd.2.2
def sJ{e:Eng}{k:Nat}{tx:Int}(h:XI e k tx)(ta row mo:Int):XI (pE e k ta row mo) k tx:=c9r h (c2x h.u.u.lk.1 h.u.u.lk.2)
def a0m{e:Eng}{k:Nat}{ta row mo:Int}(h:(R4 e k ta row mo).2=0):R4 e k ta row mo=(pE e k ta row mo,0):=by
 unfold R4 at h ⊢;split at h
 ·split at h<;>cases h
 ·rename_i q;rw[if_neg q];dsimp only at h;rw[h]
def c6O:Con:=.rel ⟨Eng×Nat×Int×Int×Int×Int,λx=>[.agg x.1.ts,Ji x.2.1,Ji x.2.2.1,Ji x.2.2.2.1,Ji x.2.2.2.2.1],λx=>.tup [.agg (R4 x.1 x.2.1 x.2.2.1 x.2.2.2.1 x.2.2.2.2.1).1.ts,Ji (R4 x.1 x.2.1 x.2.2.1 x.2.2.2.1 x.2.2.2.2.1).2],λx=>XI x.1 x.2.1 x.2.2.2.2.2⟩
def c1Q:GK 78 c6O:=gk func78<|by
 rintro⟨e,k,ta,row,mo,tx⟩ h;dsimp only at h;have ht:=sJ h ta row mo;refine U5 (gC a6Y (gC c4d gN)) func78 Z3 (α:=let p:=(R4 e k ta row mo);W9 (k:Int) e.X.length/\∃(x:(Lks×Lck)),let q:=(T6 x.1 x.2);((((Z0 Z2 e.lk.H x.1.H)/\(Z0 Y7 e.lk.W x.1.W)/\True)/\(e.X.getD (k:Int).toNat dz).id=x.2.tx/\ta=x.2.ta/\row=x.2.row/\mo=x.2.mo/\True)/\x.1.H.length<=60/\x.1.W.length<=100)/\br (q.2==14) (∃(X:(Eng×Nat×Int)),let r:=(L0 (I6 X.1 X.2.1).1.1 p.1);(((L0 {e with lk:=q.1} X.1)/\(k:Int)=(X.2.1:Int)/\True)/\UI X.1 X.2.1 X.2.2 (X.1.X.getD X.2.1 dz).Z)/\br (!(I6 X.1 X.2.1).2==0) (r/\15=p.2/\True) (r/\14=p.2/\True)) ((L0 {e with lk:=q.1} p.1)/\q.2=p.2/\True)) ⟨Y6 h.u.u.lt,(e.lk,qE e k ta row mo),⟨Z8,h.u.u.lk.1,h.u.u.lk.2⟩,λhq=>?_,λhq=>?_⟩
 ·have hq:(T6 e.lk (qE e k ta row mo)).2=14:=beq_iff_eq.1 hq;refine⟨(pE e k ta row mo,k,tx),⟨Z8,ht.u⟩,λhn=>?_,λhn=>?_⟩
  ·have hn:(!((I6 (pE e k ta row mo) k).2==0))=true:=hn;have e1:R4 e k ta row mo=((I6 (pE e k ta row mo) k).1.1,15):=by unfold R4;rw[if_pos hq,if_neg (by simpa using hn)]
   rw[e1];exact⟨vR (I6 (pE e k ta row mo) k).1.1,Z8⟩
  ·have hn:(!((I6 (pE e k ta row mo) k).2==0))=false:=hn;have e1:R4 e k ta row mo=((I6 (pE e k ta row mo) k).1.1,14):=by unfold R4;rw[if_pos hq,if_pos (by simpa using hn)]
   rw[e1];exact⟨vR (I6 (pE e k ta row mo) k).1.1,Z8⟩
 ·have hq:¬ (T6 e.lk (qE e k ta row mo)).2=14:=λe1=>by
   have hq:((T6 e.lk (qE e k ta row mo)).2==14)=false:=hq;rw[e1] at hq;cases hq
  have e1:R4 e k ta row mo=(pE e k ta row mo,(T6 e.lk (qE e k ta row mo)).2):=by unfold R4;rw[if_neg hq]
  rw[e1];exact Z8
def cK{s:Sto}{no:Nat}:(Y3 s no).1.ep=s.ep:=by
 by_cases h:0<=frAt s.fr no
 ·rw[(yK 0 h).1]
 ·by_cases h3:s.fr.length=3
  ·cases ho:(X3 s s.J.toNat).2 with
   |true=>rw[(m4 0 h h3 ho).1];exact(s7 s s.J.toNat).2.2.2.1
   |false=>rw[(m0 0 h h3 ho).1];exact(s7 s s.J.toNat).2.2.2.1
  ·rw[(yC 0 h h3).1];rfl
structure FX(e:Eng)(f:Sto×Plc×Bool):Prop where
 lv:f.2.2=true->SI f.1/\f.1.L=e.s.L/\f.1.ep=e.s.ep
 dn:f.2.2=false->G0 f.1.d/\f.1.d.E.length=69
 pl:c6X f.2.1
def b4d{e:Eng}(h:SI e.s)(tx ta id:Int):∀n,n<=8->FX e (T2 e tx ta id n)
 |0,_=>⟨λ_=>⟨h,Z8⟩,(λf=>by cases f),⟨.inl rfl,.inl rfl⟩⟩
 |n+1,hn=>by
  have i:=b4d h tx ta id n Z9
  unfold T2;cases l:(T2 e tx ta id n).2.2 with
  |false=>rw[if_neg W7];exact i
  |true=>
   rw[if_pos rfl];obtain⟨I,g,d⟩:=i.lv l;cases f:(Y3 (T2 e tx ta id n).1 n).2.2 with
   |false=>
    rw[if_neg W7]
    exact⟨(λC=>by cases C),λ_=>rN I f,i.pl⟩
   |true=>
    rw[if_pos rfl];obtain⟨j1,j2⟩:=rR I Z9 f
    exact⟨λ_=>⟨j1,j2.trans g,cK.trans d⟩,(λC=>by cases C),b5t Z9 i.pl 4 (U9 _)⟩
def a1a{e:Eng}{tx ta id:Int}{n:Nat}(h:(T2 e tx ta id n).2.2=false):∀m,T2 e tx ta id (n+m)=T2 e tx ta id n
 |0=>rfl
 |m+1=>by
  have i:=a1a h m;show(if(T2 e tx ta id (n+m)).2.2=true then _ else T2 e tx ta id (n+m))=_
  rw[i,if_neg cY]
def rW(e:Eng)(tx ta id:Int):{y:Eng×Plc×Bool//y=(R7 e (T2 e tx ta id 8).1,(T2 e tx ta id 8).2.1,(T2 e tx ta id 8).2.2)}:=Classical.choice ⟨⟨_,rfl⟩⟩
def c7g:Con:=.rel ⟨Eng×Int×Int×Int,λx=>[.agg x.1.ts,Ji x.2.1,Ji x.2.2.1,Ji x.2.2.2],λx=>.tup [.agg (rW x.1 x.2.1 x.2.2.1 x.2.2.2).1.1.ts,.agg (rW x.1 x.2.1 x.2.2.1 x.2.2.2).1.2.1.ts,.bool (rW x.1 x.2.1 x.2.2.1 x.2.2.2).1.2.2],λx=>SI x.1.s/\wR x.1⟩
def FdI(B:Nat->Bool):Type:={n:Nat//n<=8/\B n=true}
def c7b(e:Eng)(tx ta id:Int)(F:Nat->Eng)(A:Nat->Plc)(B:Nat->Bool)(P:Nat->Pg)(I:Nat->Nat->Plc):Nat->Ann
 |0=>.one (FdI B) (λx=>⟨[(1,Ji tx),(2,Ji ta),(3,Ji id),(4,.ref 0 0 0),(8,.ref 1 0 0),(9,.ref 2 0 0),(10,.bool false),(11,.ref 3 0 0),(12,Ji x.1)],[l8 (F x.1),l8 uU,c3i ⟨0,0,0,0⟩,c3i (A x.1)]⟩) (λx=>8-x.1) [.box 0,.box 1,.box 2,.box 3] [.box 0,.box 1,.box 2,.box 3] (λx=>fun
  |1=>.one (Up 4) (λy=>⟨[(1,Ji tx),(2,Ji ta),(3,Ji id),(4,.ref 0 0 0),(8,.ref 1 0 0),(9,.ref 2 0 0),(10,.bool false),(11,.ref 3 0 0),(12,Ji x.1),(16,.ref 4 0 0),(17,Ji y.1)],[l8 (F (x.1+1)),l8 uU,c3i ⟨0,0,0,0⟩,c3i (I x.1 y.1),c9X (P x.1)]⟩) (λy=>4-y.1) [.box 0,.box 1,.box 2,.box 3,.box 5] [.box 0,.box 1,.box 2,.box 3,.box 4] (λ_=>Z3)
  |_=>.none)
 |_=>.none
def c6U(e:Eng)(tx ta id:Int)(F:Nat->Eng)(A:Nat->Plc)(B:Nat->Bool)(P:Nat->Pg)(I:Nat->Nat->Plc)(h:
let m:=(1=1/\1=1/\L0 uU uU);let r:=(0=0/\0=0);let q:=(1=1/\1=1/\(0:Int)=0/\(0:Int)=0/\(0:Int)=0/\(0:Int)=0/\True);  (∃(x:FdI B),let pd:=(A x.1);(tx=tx/\ta=ta/\id=id/\r/\r/\r/\false=false/\r/\0=(x.1:Int)/\True)/\(1=1/\1=1/\L0 e (F x.1))/\(1=1/\1=1/\0=0/\0=0/\false=false/\0=0/\(0:Int)=0/\0=0/\(0:Int)=0/\0=0/\(0:Int)=0/\false=false/\0=0/\0=0/\0=0/\(0:Int)=0/\True)/\q/\(1=1/\1=1/\(-1:Int)=pd.a/\(-1:Int)=pd.b/\(-1:Int)=pd.c/\(-1:Int)=pd.d/\True)/\True)/\∀(x:FdI B),let u:=x.1;let pc:=(F (u+1));let n:=(1=1/\1=1/\L0 pc pc);let k:=((A u).a=(A 8).a/\(A u).b=(A 8).b/\(A u).c=(A 8).c/\(A u).d=(A 8).d/\True);let w:=(1=1/\1=1/\(P u).Q=(P u).Q/\(Z0 Z5 (P u).sl (P u).sl)/\True);bd ((u:Int)<8) (∃(f:(Sto×Nat)),let j:=(Y3 f.1 f.2);let pb:=(j.1.fr.getD (↑j.2.1:Int).toNat dz);(((yS (F u).s f.1)/\(u:Int)=(f.2:Int)/\True)/\iS f.1 f.2)/\br (! j.2.2) ((L0 {(F u) with s:=j.1} (F 8))/\k/\false=B 8/\True) (W9 (↑j.2.1:Int) j.1.fr.length/\(∃(X:Up 4),let i:=(I x.1 X.val);(tx=tx/\ta=ta/\id=id/\r/\r/\r/\false=false/\r/\(u:Int)=(u:Int)/\r/\0=(X.val:Int)/\True)/\(1=1/\1=1/\L0 {(F u) with s:=j.1} pc)/\m/\q/\(1=1/\1=1/\(A u).a=i.a/\(A u).b=i.b/\(A u).c=i.c/\(A u).d=i.d/\True)/\(1=1/\1=1/\pb.pg.Q=(P u).Q/\(Z0 Z5 pb.pg.sl (P u).sl)/\True)/\True)/\∀(X:Up 4),let v:=(X.val:Int);let z:=(I x.1 X.val);let p:=(Ri (v+1)/\∃(y:Up 4),let l:=(I x.1 y.1);((tx=tx/\ta=ta/\id=id/\r/\r/\r/\false=false/\r/\(u:Int)=(u:Int)/\r/\v+1=(y.1:Int)/\True)/\n/\m/\q/\(1=1/\1=1/\z.a=l.a/\z.b=l.b/\z.c=l.c/\z.d=l.d/\True)/\w/\True)/\Lt (4-y.1) (4-X.val));bd (v<4) (W9 v (P u).sl.length/\br ((P u).sl.getD v.toNat []==[]) (W9 (2:Int) 4/\∃(g:(Eng×Int×Int×Int)),(decide (z.c<0)=true->((L0 pc g.1)/\tx=g.2.1/\(u:Int)=g.2.2.1/\v=g.2.2.2/\True)/\wR g.1)/\br (decide (z.c<0)&& !lM g.1 g.2.1 g.2.2.1 g.2.2.2) (W9 (2:Int) 4/\W9 (3:Int) 4/\Ri (v+1)/\∃(y:Up 4),let t:=(I x.1 y.1);((tx=tx/\ta=ta/\id=id/\r/\r/\r/\false=false/\r/\(u:Int)=(u:Int)/\r/\v+1=(y.1:Int)/\True)/\n/\m/\q/\(1=1/\1=1/\z.a=t.a/\z.b=t.b/\(u:Int)=t.c/\v=t.d/\True)/\w/\True)/\Lt (4-y.1) (4-X.val)) p) (W9 v (P u).sl.length/\∃(g:(Bz)),(((P u).sl.getD v.toNat []=g/\True)/\lI g)/\(((sS g).2.2&&(sS g).1==ta&&(sS g).2.1.id==id)=true->W9 (0:Int) 4)/\br ((sS g).2.2&&(sS g).1==ta&&(sS g).2.1.id==id&&decide (z.a<0)) (W9 (0:Int) 4/\W9 (1:Int) 4/\Ri (v+1)/\∃(y:Up 4),let pa:=(I x.1 y.1);((tx=tx/\ta=ta/\id=id/\r/\r/\r/\false=false/\r/\(u:Int)=(u:Int)/\r/\v+1=(y.1:Int)/\True)/\n/\m/\q/\(1=1/\1=1/\(u:Int)=pa.a/\v=pa.b/\z.c=pa.c/\z.d=pa.d/\True)/\w/\True)/\Lt (4-y.1) (4-X.val)) p)) (Ri ((u:Int)+1)/\∃(y:FdI B),let pe:=(A y.1);((tx=tx/\ta=ta/\id=id/\r/\r/\r/\false=false/\r/\(u:Int)+1=(y.1:Int)/\True)/\(1=1/\1=1/\L0 pc (F y.1))/\m/\q/\(1=1/\1=1/\z.a=pe.a/\z.b=pe.b/\z.c=pe.c/\z.d=pe.d/\True)/\True)/\Lt (8-y.1) (8-u)))) ((L0 (F u) (F 8))/\k/\true=B 8/\True)):
  V4 prog 79 [.agg e.ts,Ji tx,Ji ta,Ji id] (.tup [.agg (F 8).ts,.agg (A 8).ts,.bool (B 8)]):=
 U5 (gC rQ (gC a9c (gC a6V gN))) func79 (c7b e tx ta id F A B P I) h
def c49{e:Eng}{tx ta id:Int}{n:Nat}(h:(T2 e tx ta id n).2.2=true)(f:(Y3 (T2 e tx ta id n).1 n).2.2=true):T2 e tx ta id (n+1)=((Y3 (T2 e tx ta id n).1 n).1,vI e tx ta id n (fpg e tx ta id n) (T2 e tx ta id n).2.1 4,true):=by
 conv=>lhs;unfold T2
 rw[if_pos h,if_pos f];rfl
def c4B{e:Eng}{tx ta id:Int}{n:Nat}(h:(T2 e tx ta id n).2.2=true)(f:(Y3 (T2 e tx ta id n).1 n).2.2=false):T2 e tx ta id (n+1)=((Y3 (T2 e tx ta id n).1 n).1,(T2 e tx ta id n).2.1,false):=by
 conv=>lhs;unfold T2
 rw[if_pos h,if_neg (by rw[f];simp)]
def c2k:GK 79 c7g:=gk func79<|by
 rintro⟨e,tx,ta,id⟩ ⟨h,N⟩;dsimp only at h N;show V4 _ _ _ (.tup [.agg (rW e tx ta id).1.1.ts,.agg (rW e tx ta id).1.2.1.ts,.bool (rW e tx ta id).1.2.2]);rw[(rW e tx ta id).2];refine c6U e tx ta id (λn=>R7 e (T2 e tx ta id n).1) (λn=>(T2 e tx ta id n).2.1) (λn=>(T2 e tx ta id n).2.2) (fpg e tx ta id) (λn i=>vI e tx ta id n (fpg e tx ta id n) (T2 e tx ta id n).2.1 i) ⟨⟨⟨0,Z8⟩,Z8⟩,λx=>?_⟩
 obtain⟨n,t,hv⟩:=x;dsimp only at t hv ⊢;refine⟨λhc=>?_,λhc=>?_⟩
 ·have hlt:n<8:=by have:=G7 hc;omega
  obtain⟨o,v,C⟩:=(b4d h tx ta id n t).lv hv;refine⟨((T2 e tx ta id n).1,n),⟨Z8,o.iv,hlt⟩,λu=>?_,λu=>?_⟩
  ·have u:(Y3 (T2 e tx ta id n).1 n).2.2=false:=by
    have u:(!(Y3 (T2 e tx ta id n).1 n).2.2)=true:=u
    simpa using u
   have f:=c4B hv u;have r:=a1a (n:=n+1) (by rw[f]) (8- (n+1))
   rw[show n+1+(8- (n+1))=8 by omega] at r
   rw[r,f];exact Z8
  ·have u:(Y3 (T2 e tx ta id n).1 n).2.2=true:=by
    have u:(!(Y3 (T2 e tx ta id n).1 n).2.2)=false:=u
    simpa using u
   have f:=c49 hv u;obtain⟨F,_,_,q,ps⟩:=xI o.iv hlt u;have d:(Y3 (T2 e tx ta id n).1 n).1.L=e.s.L:=(rR o hlt u).2.trans v;have l:wR (R7 e (Y3 (T2 e tx ta id n).1 n).1):=by
    refine⟨?_,N.2.1,?_⟩
    ·show xH (Y3 (T2 e tx ta id n).1 n).1.L;rw[d];exact N.1
    ·show ∀i,i<e.X.length->(e.X.getD i dz).Z<=((Y3 (T2 e tx ta id n).1 n).1.L.length:Int);rw[d];exact N.2.2
   have hK:=λg sl=>b0n d tx g sl
   have q:(fpg e tx ta id n).sl.length=4:=q;have ps:∀i,i<4->((fpg e tx ta id n).sl.getD i []).length<=30:=λi hi=>ps i (by show i<(fpg e tx ta id n).sl.length;omega)
   have hp:((Y3 (T2 e tx ta id n).1 n).1.fr.getD (Y3 (T2 e tx ta id n).1 n).2.1 dz).pg=fpg e tx ta id n:=rfl;have z:=b7P e tx ta id n (fpg e tx ta id n) (T2 e tx ta id n).2.1;have j:vI e tx ta id n (fpg e tx ta id n) (T2 e tx ta id n).2.1 0=(T2 e tx ta id n).2.1:=rfl;rw[f];dsimp only;rw[E3,hp];generalize fpg e tx ta id n=p at*;generalize (T2 e tx ta id n).2.1=A at*;generalize vI e tx ta id n p A=I at*;refine⟨Y6 F,⟨⟨0,N4 _⟩,Z8,Z8,Z8,Z8,⟨rfl,rfl,lT,lT,lT,lT,Z6⟩,Z8⟩,λy=>?_⟩
   obtain⟨i,hi⟩:=y;dsimp only at hi ⊢;refine⟨λhc2=>?_,λhc2=>?_⟩
   ·have hit:i<4:=by have:=G7 hc2;omega
    have hIi:=z i;rw[E3];refine⟨Y6 Z9,λhz=>?_,λhz=>?_⟩
    ·have hz:p.sl.getD i []=[]:=by simpa using hz
     rw[if_pos hz] at hIi;refine⟨⟨Z9,Z9⟩,(R7 e (Y3 (T2 e tx ta id n).1 n).1,tx,n,i),λ_=>⟨Z8,l⟩,λhq=>?_,λhq=>?_⟩
     ·dsimp only at hq;rw[hK] at hq;simp only[J5,o8,vZ] at hq;rw[if_pos hq] at hIi;exact⟨⟨Z9,Z9⟩,⟨Z9,Z9⟩,Z4 Z9,⟨i+1,hit⟩,⟨⟨rfl,rfl,rfl,Z8,Z8,Z8,rfl,Z8,rfl,Z8,X5,Z6⟩,Z8,Z8,Z8,⟨rfl,rfl,yM,yM,yM,yM,Z6⟩,Z8⟩,J8⟩
     ·dsimp only at hq;rw[hK] at hq;rw[if_neg (by rintro⟨a1,a2⟩;rw[mO a1,a2] at hq;cases hq)] at hIi
      exact⟨Z4 Z9,⟨i+1,hit⟩,⟨⟨rfl,rfl,rfl,Z8,Z8,Z8,rfl,Z8,rfl,Z8,X5,Z6⟩,Z8,Z8,Z8,⟨rfl,rfl,yM,yM,yM,yM,Z6⟩,Z8⟩,J8⟩
    ·have hz:¬p.sl.getD i []=[]:=by simpa using hz
     have B:=ps i hit;rw[if_neg hz] at hIi;refine⟨Y6 Z9,p.sl.getD i [],⟨Z8,by show _<=1000000000;omega⟩,λ_=>⟨Z9,Z9⟩,λhq=>?_,λhq=>?_⟩
     ·have hq:(a1K (p.sl.getD i []) ta id&&decide ((I i).a<0))=true:=hq;simp only[J5,o8] at hq;rw[if_pos hq] at hIi;exact⟨⟨Z9,Z9⟩,⟨Z9,Z9⟩,Z4 Z9,⟨i+1,hit⟩,⟨⟨rfl,rfl,rfl,Z8,Z8,Z8,rfl,Z8,rfl,Z8,X5,Z6⟩,Z8,Z8,Z8,⟨rfl,rfl,yM,yM,yM,yM,Z6⟩,Z8⟩,J8⟩
     ·have hq:(a1K (p.sl.getD i []) ta id&&decide ((I i).a<0))=false:=hq;rw[if_neg (by rintro⟨a1,a2⟩;rw[a1,mO a2] at hq;cases hq)] at hIi
      exact⟨Z4 Z9,⟨i+1,hit⟩,⟨⟨rfl,rfl,rfl,Z8,Z8,Z8,rfl,Z8,rfl,Z8,X5,Z6⟩,Z8,Z8,Z8,⟨rfl,rfl,yM,yM,yM,yM,Z6⟩,Z8⟩,J8⟩
   ·obtain rfl:i=4:=by have:=r9 hc2;omega
    refine⟨Z4 Z9,⟨n+1,hlt,(by show(T2 e tx ta id (n+1)).2.2=true;rw[f])⟩,?_,J8⟩
    dsimp only;rw[f];exact⟨⟨rfl,rfl,rfl,Z8,Z8,Z8,rfl,Z8,Z9,Z6⟩,Z8⟩
 ·obtain rfl:n=8:=by have:=r9 hc;omega
  exact⟨vR _,Z8,hv.symm,Z6⟩
def hsB(g x:Lck):Bool:=(g.tx==x.tx)&&rY g x&&((g.mo==4)||(x.mo==1)||(g.mo==x.mo))
def hsI(L:List Lck)(x:Lck)(i:Nat):Bool:=hsB (L.getD i dz) x
def c7H:Con:=.rel ⟨Lck×Lck,λx=>[.agg x.1.ts,.bref x.2.ts],λx=>.bool (hsB x.1 x.2),λ_=>True⟩
def c7d(g x:Lck)(h:
  ∃(X:(Lck×Lck)),((g.tx==x.tx)=true->((g.tx=X.1.tx/\g.ta=X.1.ta/\g.row=X.1.row/\g.mo=X.1.mo/\True)/\(x.tx=X.2.tx/\x.ta=X.2.ta/\x.row=X.2.row/\x.mo=X.2.mo/\True)/\True)/\True)/\(g.tx==x.tx&&rY X.1 X.2&&(g.mo==4||x.mo==1||g.mo==x.mo))=hsB g x):
  V4 prog 340 [.agg g.ts,.bref x.ts] (.bool (hsB g x)):=
 U5 (gC pM gN) func340 Z3 h
def c3K:GK 340 c7H:=gk func340<|λx _=>c7d x.1 x.2 ⟨(x.1,x.2),λ_=>Z8,rfl⟩
def c2C(x:Lck):T:=.fn (.func 340) [.bref x.ts]
def b4A:Con:=.rel ⟨List Lck×Lck,λx=>[.sl 4 x.1.length (Z2 x.1),c2C x.2],λx=>Ji (S6 x.1.length (hsI x.1 x.2)),λx=>L9 x.1.length⟩
def b4G(L:List Lck)(a:Lck):Nat->Ann
 |0=>.one (V5 L.length (hsI L a)) (λx=>⟨[(0,.sl 4 L.length (Z2 L)),(1,c2C a),(7,Ji L.length),(8,Ji x.1)],[]⟩) (λx=>L.length-x.1) [] [] (λ_=>Z3)
 |_=>.none
def a7L:GK 316 b4A:=gk func316<|by
 rintro⟨L,a⟩ (hL:L.length<1000000000000);refine U5 (gC c3K gN) func316 (b4G L a) (α:=let r:=(L.length:Int);let p:=(T.bref [Ji a.tx,Ji a.ta,Ji a.row,Ji a.mo]);(∃(x:V5 L.length (hsI L a)),((Z0 Z2 L L)/\(Fn.func 340=Fn.func 340/\J7 (λ(x:Nat)=>none) p p/\True)/\r=r/\0=(x.1:Int)/\True)/\True)/\∀(x:V5 L.length (hsI L a)),let z:=(x.1:Int);let q:=(L.getD z.toNat dz);bd (z<r) (W9 z L.length/\∃(X:(Lck×Lck)),(((q.tx=X.1.tx/\q.ta=X.1.ta/\q.row=X.1.row/\q.mo=X.1.mo/\True)/\(a.tx=X.2.tx/\a.ta=X.2.ta/\a.row=X.2.row/\a.mo=X.2.mo/\True)/\True)/\True)/\br (hsB X.1 X.2) (z=S6 L.length (hsI L a)) (Ri (z+1)/\∃(y:V5 L.length (hsI L a)),(((Z0 Z2 L L)/\(Fn.func 340=Fn.func 340/\J7 (λ(x:Nat)=>none) p p/\True)/\r=r/\z+1=(y.1:Int)/\True)/\True)/\Lt (L.length-y.1) (L.length-x.1))) ((-1:Int)=S6 L.length (hsI L a))) ⟨⟨F4,⟨Z8,⟨rfl,U0 _,Z6⟩,Z8⟩,Z6⟩,λx=>⟨λC=>?_,λC=>?_⟩⟩
 ·have h:=Y2 C;refine⟨Y6 h,(L.getD x.1 dz,a),Z8,λhp=>(N9 h hp x.2.2).symm,λhp=>⟨W2 h Z9,x.succ h hp,⟨⟨Z8,⟨rfl,U0 _,Z6⟩,rfl,I9,Z6⟩,Z6⟩,V5.ext_lt h⟩⟩
 ·have e:=Y0 C;exact(K2 λj J=>x.2.2 j (xY J e)).symm
def b4s:Con:=.rel ⟨List Lck×Lck,λx=>[.sl 4 x.1.length (Z2 x.1),c2C x.2],λx=>.bool (anyI x.1.length (hsI x.1 x.2)),λx=>L9 x.1.length⟩
def b2m(L:List Lck)(a:Lck)(h:
  ∃(x:(List Lck×Lck)),(((Z0 Z2 L x.1)/\(Fn.func 340=Fn.func 340/\(a.tx=x.2.tx/\a.ta=x.2.ta/\a.row=x.2.row/\a.mo=x.2.mo/\True)/\True)/\True)/\L9 x.1.length)/\decide (S6 x.1.length (hsI x.1 x.2)≥(0:Int))=anyI L.length (hsI L a)):
  V4 prog 232 [.sl 4 L.length (Z2 L),c2C a] (.bool (anyI L.length (hsI L a))):=
 U5 (gC a7L gN) func232 Z3 h
def a5Z:GK 232 b4s:=gk func232<|λx h=>b2m x.1 x.2 ⟨x,⟨Z8,h⟩,C9 _ _⟩
def c9i:Con:=.rel ⟨Lks×Lck,λx=>[.agg x.1.ts,.agg x.2.ts],λx=>.bool (anyI x.1.H.length (hsI x.1.H x.2)),λx=>L9 x.1.H.length⟩
def c87(l:Lks)(x:Lck)(h:
  ∃(X:(List Lck×Lck)),(((Z0 Z2 l.H X.1)/\(Fn.func 340=Fn.func 340/\(x.tx=X.2.tx/\x.ta=X.2.ta/\x.row=X.2.row/\x.mo=X.2.mo/\True)/\True)/\True)/\L9 X.1.length)/\anyI X.1.length (hsI X.1 X.2)=anyI l.H.length (hsI l.H x)):
  V4 prog 287 [.agg l.ts,.agg x.ts] (.bool (anyI l.H.length (hsI l.H x))):=
 U5 (gC a5Z gN) func287 Z3 h
def c6C:GK 287 c9i:=gk func287<|λx h=>c87 x.1 x.2 ⟨(x.1.H,x.2),⟨Z8,h⟩,rfl⟩
def rS(L:List Int)(v:Int)(i:Nat):Bool:=v==L.getD i 0
def b3i:Con:=.rel ⟨List Int×Nat×Int,λx=>[.sl 1 x.2.1 (Y9 x.1),Ji x.2.2],λx=>Ji (S6 x.2.1 (rS x.1 x.2.2)),λx=>L9 x.2.1⟩
def b3Y(L:List Int)(n:Nat)(v:Int):Nat->Ann
 |0=>.one (V5 n (rS L v)) (λx=>⟨[(0,.sl 1 n (Y9 L)),(1,Ji v),(7,Ji n),(8,Ji x.1)],[]⟩) (λx=>n-x.1) [] [] (λ_=>Z3)
 |_=>.none
def a6g:GK 371 b3i:=gk func371<|by
 rintro⟨L,n,v⟩ (hL:n<1000000000000);refine U5 gN func371 (b3Y L n v) (α:=let q:=(n=n/\Z7 n (Y9 L) (Y9 L));(∃(x:V5 n (rS L v)),(q/\v=v/\(n:Int)=(n:Int)/\0=(x.1:Int)/\True)/\True)/\∀(x:V5 n (rS L v)),let p:=(x.1:Int);bd (p<(n:Int)) (W9 p n/\br (v==L.getD p.toNat (0:Int)) (p=S6 n (rS L v)) (Ri (p+1)/\∃(y:V5 n (rS L v)),((q/\v=v/\(n:Int)=(n:Int)/\p+1=(y.1:Int)/\True)/\True)/\Lt (n-y.1) (n-x.1))) ((-1:Int)=S6 n (rS L v))) ⟨⟨F4,Z8⟩,λx=>⟨λC=>?_,λC=>?_⟩⟩
 ·have h:=Y2 C;exact⟨Y6 h,λhp=>(N9 h hp x.2.2).symm,λhp=>⟨W2 h Z9,x.succ h hp,⟨⟨Z8,rfl,rfl,I9,Z6⟩,Z6⟩,V5.ext_lt h⟩⟩
 ·have e:=Y0 C;exact(K2 λj J=>x.2.2 j (xY J e)).symm
def b4S:Con:=.rel ⟨List Int×Nat×Int,λx=>[.sl 1 x.2.1 (Y9 x.1),Ji x.2.2],λx=>.bool (anyI x.2.1 (rS x.1 x.2.2)),λx=>L9 x.2.1⟩
def b3C(L:List Int)(n:Nat)(v:Int)(h:
  ∃(x:(List Int×Nat×Int)),(((n=x.2.1/\Z7 n (Y9 L) (Y9 x.1))/\v=x.2.2/\True)/\L9 x.2.1)/\decide (S6 x.2.1 (rS x.1 x.2.2)≥(0:Int))=anyI n (rS L v)):
  V4 prog 345 [.sl 1 n (Y9 L),Ji v] (.bool (anyI n (rS L v))):=
 U5 (gC a6g gN) func345 Z3 h
def a69:GK 345 b4S:=gk func345<|λx h=>b3C x.1 x.2.1 x.2.2 ⟨x,⟨Z8,h⟩,C9 _ _⟩
def isW(L:List Wt)(v:Wt)(i:Nat):Bool:=(v.tx==(L.getD i dz).tx)&&((v.fo==(L.getD i dz).fo)&&true)
def wtB(v:Wt):Option Ob:=some (.arr true 1000000 2 1 λ_=>v.ts)
def b8w:Con:=.rel ⟨List Wt×Nat×Wt,λx=>[.sl 2 x.2.1 (Y7 x.1),.agg x.2.2.ts],λx=>Ji (S6 x.2.1 (isW x.1 x.2.2)),λx=>L9 x.2.1⟩
def b5s(L:List Wt)(n:Nat)(v:Wt):Nat->Ann
 |0=>.one (V5 n (isW L v)) (λx=>⟨[(0,.sl 2 n (Y7 L)),(3,.ref 0 0 0),(7,Ji n),(8,Ji x.1)],[wtB v]⟩) (λx=>n-x.1) [.box 0] [.box 0] (λ_=>Z3)
 |_=>.none
def b3m:GK 343 b8w:=gk func343<|by
 rintro⟨L,n,v⟩ (hL:n<1000000000000);refine U5 gN func343 (b5s L n v) (α:=let r:=(n=n/\Z7 n (Y7 L) (Y7 L));let q:=(1=1/\1=1/\v.tx=v.tx/\v.fo=v.fo/\True);(∃(x:V5 n (isW L v)),(r/\(0=0/\0=0)/\(n:Int)=(n:Int)/\0=(x.1:Int)/\True)/\q/\True)/\∀(x:V5 n (isW L v)),let p:=(x.1:Int);let z:=(L.getD p.toNat dz);bd (p<(n:Int)) (W9 p n/\br (v.tx==z.tx&&(v.fo==z.fo&&true)) (p=S6 n (isW L v)) (Ri (p+1)/\∃(y:V5 n (isW L v)),((r/\(0=0/\0=0)/\(n:Int)=(n:Int)/\p+1=(y.1:Int)/\True)/\q/\True)/\Lt (n-y.1) (n-x.1))) ((-1:Int)=S6 n (isW L v))) ⟨⟨F4,Z8⟩,λx=>⟨λC=>?_,λC=>?_⟩⟩
 ·have h:=Y2 C;exact⟨Y6 h,λhp=>(N9 h hp x.2.2).symm,λhp=>⟨W2 h Z9,x.succ h hp,⟨⟨Z8,Z8,rfl,I9,Z6⟩,Z8⟩,V5.ext_lt h⟩⟩
 ·have e:=Y0 C;exact(K2 λj J=>x.2.2 j (xY J e)).symm
def b8K:Con:=.rel ⟨List Wt×Nat×Wt,λx=>[.sl 2 x.2.1 (Y7 x.1),.agg x.2.2.ts],λx=>.bool (anyI x.2.1 (isW x.1 x.2.2)),λx=>L9 x.2.1⟩
def b49(L:List Wt)(n:Nat)(v:Wt)(h:
  ∃(x:(List Wt×Nat×Wt)),(((n=x.2.1/\Z7 n (Y7 L) (Y7 x.1))/\(v.tx=x.2.2.tx/\v.fo=x.2.2.fo/\True)/\True)/\L9 x.2.1)/\decide (S6 x.2.1 (isW x.1 x.2.2)≥(0:Int))=anyI n (isW L v)):
  V4 prog 289 [.sl 2 n (Y7 L),.agg v.ts] (.bool (anyI n (isW L v))):=
 U5 (gC b3m gN) func289 Z3 h
def b1W:GK 289 b8K:=gk func289<|λx h=>b49 x.1 x.2.1 x.2.2 ⟨x,⟨Z8,h⟩,C9 _ _⟩
def w7(x:Lck)(w:Wt):Bool:=w.tx !=x.tx
def aP(x:Lck):Option Ob:=some (.arr true 1000000 4 1 λ_=>x.ts)
def c0C:Con:=.rel ⟨Wt×Lck,λx=>[.agg x.1.ts,.bref x.2.ts],λx=>.bool (x.1.tx==x.2.tx),λ_=>True⟩
def c3t(w:Wt)(x:Lck)(h:
  (w.tx==x.tx)=(w.tx==x.tx)):
  V4 prog 286 [.agg w.ts,.bref x.ts] (.bool (w.tx==x.tx)):=
 U5 gN func286 Z3 h
def gI:GK 286 c0C:=gk func286<|λx _=>c3t x.1 x.2 rfl
def tkF(x:Lck):T:=.fn (.func 286) [.bref x.ts]
def d3W(L:List Wt)(x:Lck)(i:Nat):Bool:=(L.getD i dz).tx==x.tx
def b6U:Con:=.rel ⟨List Wt×Lck,λx=>[nG x.1,tkF x.2],λx=>Ji (S6 x.1.length (d3W x.1 x.2)),λx=>L9 x.1.length⟩
def b9j(L:List Wt)(tx:Lck):Nat->Ann
 |0=>.one (V5 L.length (d3W L tx)) (λx=>⟨[(0,nG L),(1,tkF tx),(7,Ji L.length),(8,Ji x.1)],[]⟩) (λx=>L.length-x.1) [] [] (λ_=>Z3)
 |_=>.none
def b4L:GK 317 b6U:=gk func317<|by
 rintro⟨L,tx⟩ (hL:L.length<1000000000000);refine U5 (gC gI gN) func317 (b9j L tx) (α:=let r:=(L.length:Int);let p:=(T.bref [Ji tx.tx,Ji tx.ta,Ji tx.row,Ji tx.mo]);(∃(x:V5 L.length (d3W L tx)),((Z0 Y7 L L)/\(Fn.func 286=Fn.func 286/\J7 (λ(x:Nat)=>none) p p/\True)/\r=r/\0=(x.1:Int)/\True)/\True)/\∀(x:V5 L.length (d3W L tx)),let q:=(x.1:Int);let z:=(L.getD q.toNat dz);bd (q<r) (W9 q L.length/\∃(X:(Wt×Lck)),(((z.tx=X.1.tx/\z.fo=X.1.fo/\True)/\(tx.tx=X.2.tx/\tx.ta=X.2.ta/\tx.row=X.2.row/\tx.mo=X.2.mo/\True)/\True)/\True)/\br (X.1.tx==X.2.tx) (q=S6 L.length (d3W L tx)) (Ri (q+1)/\∃(y:V5 L.length (d3W L tx)),(((Z0 Y7 L L)/\(Fn.func 286=Fn.func 286/\J7 (λ(x:Nat)=>none) p p/\True)/\r=r/\q+1=(y.1:Int)/\True)/\True)/\Lt (L.length-y.1) (L.length-x.1))) ((-1:Int)=S6 L.length (d3W L tx))) ⟨⟨F4,⟨Z8,⟨rfl,U0 _,Z6⟩,Z8⟩,Z6⟩,λx=>⟨λC=>?_,λC=>?_⟩⟩
 ·have h:=Y2 C;refine⟨Y6 h,(L.getD x.1 dz,tx),Z8,λhp=>(N9 h hp x.2.2).symm,λhp=>⟨W2 h Z9,x.succ h hp,⟨⟨Z8,⟨rfl,U0 _,Z6⟩,rfl,I9,Z6⟩,Z6⟩,V5.ext_lt h⟩⟩
 ·have e:=Y0 C;exact(K2 λj J=>x.2.2 j (xY J e)).symm
def c85(L:List Wt)(tx:Lck):Option Ob:=some (.arr true 0 2 L.length (H8 (Y7 (D8 (w7 tx) L L.length)) (X8 (w7 tx) L L.length).length (L.length- (X8 (w7 tx) L L.length).length) zWt))
def b6v:Con:=.reff ⟨List Wt×Lck,λx=>[.osl 0 0 x.1.length,.fn (.func 286) [.ref 1 0 0]],λx=>[sU x.1,aP x.2],λx=>.osl 0 0 (X8 (w7 x.2) x.1 x.1.length).length,λx=>[sU (X8 (w7 x.2) x.1 x.1.length),aP x.2],λx=>x.1.length<=1048576⟩
def b5u(L:List Wt)(tx:Lck):Nat->Ann
 |0=>.one {j:Nat//j<=L.length} (λx=>⟨[(0,.osl 0 0 L.length),(1,.fn (.func 286) [.ref 1 0 0]),(5,Ji (X8 (w7 tx) L x.1).length),(6,Ji x.1)],[some (.arr true 0 2 L.length (Y7 (D8 (w7 tx) L x.1))),aP tx]⟩) (λx=>L.length-x.1) cG cG (λ_=>Z3)
 |_=>.none
def b77(L:List Wt)(tx:Lck)(h:
  ∃(x:(List Wt×Lck)),(Le (0+L.length) L.length/\((Z0 Y7 L x.1)/\(Fn.func 286=Fn.func 286/\(tx.tx=x.2.tx/\tx.ta=x.2.ta/\tx.row=x.2.row/\tx.mo=x.2.mo/\True)/\True)/\True)/\L9 x.1.length)/\br (S6 x.1.length (d3W x.1 x.2)==(-1:Int)) (((0=0/\L.length=(X8 (w7 tx) L L.length).length)/\True)/\(L.length=L.length/\Z7 L.length (Y7 L) λ(j:Nat)=>match(X8 (w7 tx) L L.length).length.ble j&&j.blt ((X8 (w7 tx) L L.length).length+(L.length- (X8 (w7 tx) L L.length).length)) with|true=>[Ji 0,Ji 0]|false=>[Ji ((D8 (w7 tx) L L.length).getD j dz).tx,Ji ((D8 (w7 tx) L L.length).getD j dz).fo])/\(1=1/\1=1/\tx.tx=tx.tx/\tx.ta=tx.ta/\tx.row=tx.row/\tx.mo=tx.mo/\True)/\True) (Ri (S6 x.1.length (d3W x.1 x.2)+1)/\(∃(X:{j:Nat//j<=L.length}),((0=0/\L.length=L.length)/\(Fn.func 286=Fn.func 286/\(0=0/\0=0)/\True)/\S6 x.1.length (d3W x.1 x.2)=(↑(X8 (w7 tx) L X.val).length:Int)/\S6 x.1.length (d3W x.1 x.2)+1=(X.val:Int)/\True)/\(L.length=L.length/\Z7 L.length (Y7 L) (Y7 (D8 (w7 tx) L X.val)))/\(1=1/\1=1/\tx.tx=tx.tx/\tx.ta=tx.ta/\tx.row=tx.row/\tx.mo=tx.mo/\True)/\True)/\∀(x:{j:Nat//j<=L.length}),bd ((x.1:Int)<(L.length:Int)) (W9 (x.1:Int) L.length/\Lt (0+(x.1:Int).toNat) L.length/\∃(X:(Wt×Lck)),(((((D8 (w7 tx) L x.1).getD (0+(x.1:Int).toNat) dz).tx=X.1.tx/\((D8 (w7 tx) L x.1).getD (0+(x.1:Int).toNat) dz).fo=X.1.fo/\True)/\(tx.tx=X.2.tx/\tx.ta=X.2.ta/\tx.row=X.2.row/\tx.mo=X.2.mo/\True)/\True)/\True)/\br (!X.1.tx==X.2.tx) (W9 (↑(X8 (w7 tx) L x.1).length:Int) L.length/\Lt (0+(↑(X8 (w7 tx) L x.1).length:Int).toNat) L.length/\Ri ((↑(X8 (w7 tx) L x.1).length:Int)+1)/\Ri ((x.1:Int)+1)/\∃(y:{j:Nat//j<=L.length}),(((0=0/\L.length=L.length)/\(Fn.func 286=Fn.func 286/\(0=0/\0=0)/\True)/\(↑(X8 (w7 tx) L x.1).length:Int)+1=(↑(X8 (w7 tx) L y.1).length:Int)/\(x.1:Int)+1=(y.1:Int)/\True)/\(L.length=L.length/\Z7 L.length (setRow (Y7 (D8 (w7 tx) L x.1)) (0+(↑(X8 (w7 tx) L x.1).length:Int).toNat) 0 [Ji ((D8 (w7 tx) L x.1).getD (0+(x.1:Int).toNat) dz).tx,Ji ((D8 (w7 tx) L x.1).getD (0+(x.1:Int).toNat) dz).fo]) (Y7 (D8 (w7 tx) L y.1)))/\(1=1/\1=1/\tx.tx=tx.tx/\tx.ta=tx.ta/\tx.row=tx.row/\tx.mo=tx.mo/\True)/\True)/\Lt (L.length-y.1) (L.length-x.1)) (Ri ((x.1:Int)+1)/\∃(y:{j:Nat//j<=L.length}),(((0=0/\L.length=L.length)/\(Fn.func 286=Fn.func 286/\(0=0/\0=0)/\True)/\(↑(X8 (w7 tx) L x.1).length:Int)=(↑(X8 (w7 tx) L y.1).length:Int)/\(x.1:Int)+1=(y.1:Int)/\True)/\(L.length=L.length/\Z7 L.length (Y7 (D8 (w7 tx) L x.1)) (Y7 (D8 (w7 tx) L y.1)))/\(1=1/\1=1/\tx.tx=tx.tx/\tx.ta=tx.ta/\tx.row=tx.row/\tx.mo=tx.mo/\True)/\True)/\Lt (L.length-y.1) (L.length-x.1))) (jX (↑(X8 (w7 tx) L x.1).length:Int) L.length/\Le (0+(↑(X8 (w7 tx) L x.1).length:Int).toNat+(L.length- (↑(X8 (w7 tx) L x.1).length:Int).toNat)) L.length/\jX (↑(X8 (w7 tx) L x.1).length:Int) L.length/\((0=0/\(↑(X8 (w7 tx) L x.1).length:Int).toNat=(X8 (w7 tx) L L.length).length)/\True)/\(L.length=L.length/\Z7 L.length (λ(j:Nat)=>match(0+(↑(X8 (w7 tx) L x.1).length:Int).toNat).ble j&&j.blt (0+(↑(X8 (w7 tx) L x.1).length:Int).toNat+(L.length- (↑(X8 (w7 tx) L x.1).length:Int).toNat)) with|true=>[Ji 0,Ji 0]|false=>[Ji ((D8 (w7 tx) L x.1).getD j dz).tx,Ji ((D8 (w7 tx) L x.1).getD j dz).fo]) λ(j:Nat)=>match(X8 (w7 tx) L L.length).length.ble j&&j.blt ((X8 (w7 tx) L L.length).length+(L.length- (X8 (w7 tx) L L.length).length)) with|true=>[Ji 0,Ji 0]|false=>[Ji ((D8 (w7 tx) L L.length).getD j dz).tx,Ji ((D8 (w7 tx) L L.length).getD j dz).fo])/\(1=1/\1=1/\tx.tx=tx.tx/\tx.ta=tx.ta/\tx.row=tx.row/\tx.mo=tx.mo/\True)/\True))):
  G3 prog 285 [.osl 0 0 L.length,.fn (.func 286) [.ref 1 0 0]] [sU L,aP tx] (.osl 0 0 (X8 (w7 tx) L L.length).length) [c85 L tx,aP tx]:=
 C6 (gC b4L (gC gI gN)) func285 (b5u L tx) [cG] h
def b2i:GK 285 b6v:=gk func285<|by
 rintro⟨L,tx⟩ (hL:L.length<=1048576);have l:=q7 (w7 tx) L L.length;refine gW (b77 L tx ⟨(L,tx),⟨uA _,Z8,rU⟩,λn=>?_,λn=>?_⟩) (a2u (ts:=Wt.ts) l)
 ·obtain⟨e,d⟩:=lL (f:=w7 tx) (U9 L.length) λq Q=>by
   have:=a19 (beq_iff_eq.1 n) q Q;unfold d3W at this;unfold w7 bne;rw[this];rfl
  refine⟨⟨⟨rfl,e.symm⟩,Z6⟩,⟨rfl,?_⟩,Z8⟩
  exact eH (row:=Y7 L) (row':=Y7 (D8 (w7 tx) L L.length)) (z:=zWt) (λi _=>by rw[d]) (Nat.le_of_eq e.symm)
 ·obtain⟨i,hi,hp,g,h⟩:=fN n;have hi:i<L.length:=hi;obtain⟨e,d⟩:=lL (f:=w7 tx) (L:=L) (j:=i) Z9 λq Q=>by
   have:=g q Q;unfold d3W at this;unfold w7 bne;rw[this];rfl
  have I:w7 tx (L.getD i dz)=false:=by
   unfold d3W at hp;unfold w7 bne;rw[hp];rfl
  have o:(X8 (w7 tx) L (i+1)).length=i:=by rw[pR I];exact e
  have r:D8 (w7 tx) L (i+1)=L:=by rw[b3k I];exact d
  have h:S6 L.length (d3W L tx)=(i:Int):=h;refine⟨?_,⟨⟨i+1,hi⟩,⟨Z8,Z8,?_,?_,Z6⟩,⟨rfl,?_⟩,Z8⟩,λx=>⟨λhc=>?_,λhc=>?_⟩⟩
  ·dsimp only;rw[h];exact Z4 Z9
  ·dsimp only;rw[h,o]
  ·dsimp only;rw[h];omega
  ·dsimp only;rw[r];exact X6 _ _
  ·have hlt:=Y2 hc;have hle:=q7 (w7 tx) L x.1;have e0:(D8 (w7 tx) L x.1).getD x.1 dz=L.getD x.1 dz:=b6p hle;rw[E3,E3,D4,D4,e0];refine⟨Y6 hlt,hlt,(L.getD x.1 dz,tx),Z8,λhd=>?_,λhd=>?_⟩
   ·have hd:w7 tx (L.getD x.1 dz)=true:=by
     unfold w7 bne
     skip
     exact hd
    exact⟨Y6 Z9,Q2,Z4 Z9,Z4 Z9,⟨x.1+1,hlt⟩,⟨⟨Z8,Z8,congrArg Int.ofNat (rE hd),X5,Z6⟩,⟨rfl,a14 (m:=2) (ts:=Wt.ts) (λ_=>rfl) hd⟩,Z8⟩,V5.ext_lt hlt⟩
   ·have hd:w7 tx (L.getD x.1 dz)=false:=by
     unfold w7 bne
     skip
     exact hd
    refine⟨Z4 Z9,⟨x.1+1,hlt⟩,⟨⟨Z8,Z8,?_,X5,Z6⟩,⟨rfl,?_⟩,Z8⟩,V5.ext_lt hlt⟩
    ·dsimp only;rw[pR hd]
    ·dsimp only;rw[b3k hd];exact X6 _ _
  ·have hx:x.1=L.length:=by have:=x.2;have:=Y0 hc;omega
   rw[hx,E3,D4];exact⟨⟨Z9,Z9⟩,K0,⟨Z9,Z9⟩,Z8⟩
def TdS(W:List Wt)(tx:Int):Type:={x:(Nat×Nat×List Int)×List Int//a1V W tx x.1.1 x.1.2.1 (tx::x.1.2.2)=rnd W tx/\a5p W (tx::x.1.2.2)+(x.1.2.2.length+1)<=x.1.2.1+x.1.1/\x.1.2.1<=x.1.2.2.length+1/\x.1.1+x.1.2.1=200/\tx ∉ x.1.2.2/\x.2.length<=x.1.2.1}
def TdI(W:List Wt)(tx a:Int)(R:List Int)(n:Nat):Type:={y:(Nat×List Int)×List Int//y.1.1<=W.length/\scn W tx a R y.1.1=some (tx::y.1.2)/\tx ∉ y.1.2/\y.2.length<=n}
def c1s(l:Lks)(tx:Int):Nat->Ann
 |0=>.one (TdS l.W tx) (λx=>⟨[(1,Ji tx),(2,Ji tx),(3,.ref 0 0 0),(7,.osl 1 0 x.1.1.2.2.length),(8,.osl 2 x.1.2.length (x.1.1.2.2.length+1-x.1.1.2.1))],[lkB l,A0 x.1.1.2.2,A0 (x.1.2++(tx::x.1.1.2.2).drop x.1.1.2.1)]⟩) (λx=>x.1.1.1) c2R c2R (λx=>fun
  |1=>.one (TdI l.W tx ((tx::x.1.1.2.2).getD x.1.1.2.1 0) (tx::x.1.1.2.2) (x.1.1.2.1+1)) (λy=>⟨[(1,Ji tx),(2,Ji tx),(3,.ref 0 0 0),(7,.osl 1 0 y.1.1.2.length),(8,.osl 2 y.1.2.length (y.1.1.2.length-x.1.1.2.1)),(9,Ji ((tx::x.1.1.2.2).getD x.1.1.2.1 0)),(24,nG l.W),(25,Ji l.W.length),(26,Ji y.1.1.1)],[lkB l,A0 y.1.1.2,A0 (y.1.2++y.1.1.2.drop x.1.1.2.1)]⟩) (λy=>l.W.length-y.1.1.1) c2R c2R (λ_=>Z3)
  |_=>.none)
 |_=>.none
def c4h:Con:=.rel ⟨Lks×Int,λx=>[.agg x.1.ts,Ji x.2,Ji x.2],λx=>.bool (rnd x.1.W x.2),λx=>x.1.W.length<=100⟩
def c61{tx v:Int}{S:List Int}:anyI (tx::S).length (thr (tx::S) v)=((tx==v)||anyI S.length (rS S v)):=by
 rw[Bool.eq_iff_iff,nT,R9,R9];constructor
 ·rintro⟨i,hi,hp⟩;cases i with
  |zero=>exact .inl hp
  |succ i=>
   refine .inr ⟨i,by simp at hi;omega,?_⟩
   have hp:(S.getD i 0==v)=true:=hp;unfold rS;rw[beq_iff_eq] at hp ⊢;exact hp.symm
 ·rintro(h|⟨i,hi,hp⟩)
  ·exact⟨0,W7,h⟩
  ·refine⟨i+1,C7,?_⟩
   show(S.getD i 0==v)=true;unfold rS at hp;rw[beq_iff_eq] at hp ⊢;exact hp.symm
def b8Z{v:Int}{S:List Int}(h:anyI S.length (rS S v)=true):v ∈ S:=by
 obtain⟨i,hi,hp⟩:=R9.1 h;unfold rS at hp;rw[beq_iff_eq] at hp;rw[hp,P4,I1 hi]
 exact List.getElem_mem hi
def a2g{L:List Int}{v:Int}{r:Nat->List T}(h:∀j,j<L.length->r j=Y9 L j):Z7 (L.length+1) (X4 r L.length λk=>[Ji ([v].getD k 0)]) (Y9 (L++[v])):=by
 intro j J;unfold X4;by_cases d:j<L.length
 ·rw[rX d];dsimp only;rw[h j d];unfold Y9;rw[P4,P4,rL d]
 ·obtain rfl:j=L.length:=by omega
  rw[mH d];dsimp only;unfold Y9;rw[j_h,P4 (l:=L++[v]),List.getElem?_concat_length]
  rfl
def b7d:GK 291 c4h:=gk func291<|by
 rintro⟨l,tx⟩ (h:l.W.length<=100);have W:∀R,a5p l.W R<=100:=λR=>Nat.le_trans (List.length_filter_le _ _) h
 refine U5 (gC a69 (gC P6 (gC P6 (gC P6 (gC P6 (gC P6 (gC P6 (gC P6 (gC P6 (gC P6 gN)))))))))) func291 (c1s l tx) (α:=let t:=(0=0/\0=0);let a:=(Z0 Y7 l.W l.W);let v:=(l.W.length:Int);let r:=(1=1/\1=1/\(Z0 Z2 l.H l.H)/\a/\True);(∃(x:TdS l.W tx),let g:=x.1.1.2;let pa:=(x.1.2++List.drop g.1 (tx::g.2));(tx=tx/\tx=tx/\t/\(0=0/\0=g.2.length)/\(0=x.1.2.length/\1=g.2.length+1-g.1)/\True)/\r/\(0=g.2.length/\Z7 0 (λ(k:Nat)=>List.take 1 (List.drop (k*1) [])) (Y9 g.2))/\(1=pa.length/\Z7 1 (λ(k:Nat)=>List.take 1 (List.drop (k*1) [Ji tx])) (Y9 pa))/\True)/\∀(x:TdS l.W tx),let pe:=x.1.2.length;let p:=x.1.1.2;let pb:=(p.2.length+1-p.1);let m:=(x.1.2++List.drop p.1 (tx::p.2));let j:=(tx::p.2).getD;bd ((↑pb:Int)>0) (W9 (0:Int) pb/\Lt (pe+0) m.length/\jX (1:Int) pb/\(∃(X:TdI l.W tx ((tx::x.1.1.2.2).getD x.1.1.2.1 (0:Int)) (tx::x.1.1.2.2) (x.1.1.2.1+1)),(tx=tx/\tx=tx/\t/\(0=0/\p.2.length=X.val.1.2.length)/\(pe+1=X.val.2.length/\p.2.length+1-p.1-1=X.val.1.2.length-p.1)/\m.getD (pe+0) 0=j p.1 (0:Int)/\a/\v=v/\0=(X.val.1.1:Int)/\True)/\r/\(Z0 Y9 p.2 X.val.1.2)/\(Z0 Y9 m (X.val.2++List.drop p.1 X.val.1.2))/\True)/\∀(X:TdI l.W tx ((tx::x.1.1.2.2).getD x.1.1.2.1 (0:Int)) (tx::x.1.1.2.2) (x.1.1.2.1+1)),let pg:=(l.W.length-X.val.1.1);let w:=(X.val.1.1:Int);let u:=(X.val.1.2.length-p.1);let pc:=(X.val.2.length+u);let z:=(X.val.2++List.drop p.1 X.val.1.2);let q:=(l.W.getD w.toNat dz);bd (w<v) (W9 w l.W.length/\∃(n:(List Int×Nat×Int)),((q.tx !=j p.1 (0:Int))=false->Le (0+X.val.1.2.length) X.val.1.2.length/\((X.val.1.2.length=n.2.1/\Z7 X.val.1.2.length (Y9 X.val.1.2) (Y9 n.1))/\q.fo=n.2.2/\True)/\L9 n.2.1)/\br (q.tx !=j p.1 (0:Int)||anyI n.2.1 (rS n.1 n.2.2)) (Ri (w+1)/\∃(y:TdI l.W tx ((tx::x.1.1.2.2).getD x.1.1.2.1 (0:Int)) (tx::x.1.1.2.2) (x.1.1.2.1+1)),let pf:=y.1.1;((tx=tx/\tx=tx/\t/\(0=0/\X.val.1.2.length=pf.2.length)/\(X.val.2.length=y.1.2.length/\X.val.1.2.length-p.1=pf.2.length-p.1)/\j p.1 0=j p.1 (0:Int)/\a/\v=v/\w+1=(pf.1:Int)/\True)/\r/\(Z0 Y9 X.val.1.2 pf.2)/\(Z0 Y9 z (y.1.2++List.drop p.1 pf.2))/\True)/\Lt (l.W.length-pf.1) pg) (br (q.fo==tx) (true=rnd l.W tx) ((Le X.val.1.2.length X.val.1.2.length/\U8 X.val.1.2.length 1 8)/\∀(b:Bool),let f:=(bif b then X.val.1.2.length-p.1+1 else X.val.2.length+u+1);(Le pc z.length/\Lt 0 1/\U8 pc 1 8)/\Ri (w+1)/\∃(y:TdI l.W tx ((tx::x.1.1.2.2).getD x.1.1.2.1 (0:Int)) (tx::x.1.1.2.2) (x.1.1.2.1+1)),let c:=y.1.1;let pd:=(y.1.2++List.drop p.1 c.2);((tx=tx/\tx=tx/\t/\(0=0/\X.val.1.2.length+1=c.2.length)/\((bif b then 0 else X.val.2.length)=y.1.2.length/\X.val.1.2.length-p.1+1=c.2.length-p.1)/\j p.1 0=j p.1 (0:Int)/\a/\v=v/\w+1=(c.1:Int)/\True)/\r/\(X.val.1.2.length+1=c.2.length/\Z7 (X.val.1.2.length+1) (X4 (Y9 X.val.1.2) X.val.1.2.length λ(k:Nat)=>[Ji ([q.fo].getD k (0:Int))]) (Y9 c.2))/\(f=pd.length/\Z7 f (bif b then X4 (λ(i:Nat)=>[Ji (z.getD (X.val.2.length+i) (0:Int))]) u λ(k:Nat)=>[Ji ([q.fo].getD k (0:Int))] else X4 (Y9 z) pc λ(k:Nat)=>[Ji ([q.fo].getD k (0:Int))]) (Y9 pd))/\True)/\Lt (l.W.length-c.1) pg))) (∃(y:TdS l.W tx),let d:=y.1.1.2;((tx=tx/\tx=tx/\t/\(0=0/\X.val.1.2.length=d.2.length)/\(X.val.2.length=y.1.2.length/\X.val.1.2.length-p.1=d.2.length+1-d.1)/\True)/\r/\(Z0 Y9 X.val.1.2 d.2)/\(Z0 Y9 z (y.1.2++List.drop d.1 (tx::d.2)))/\True)/\Lt y.1.1.1 x.1.1.1)) (false=rnd l.W tx)) ⟨⟨⟨((200,0,[]),[]),rfl,by have:=W [tx];dsimp only[List.length_nil];omega,N4 _,rfl,W7,N4 _⟩,⟨rfl,rfl,⟨rfl,rfl⟩,⟨rfl,rfl⟩,⟨rfl,rfl⟩,Z6⟩,⟨rfl,rfl,⟨rfl,X6 _ _⟩,⟨rfl,X6 _ _⟩,Z6⟩,⟨rfl,λj J=>absurd J (D2 _)⟩,⟨rfl,λj J=>by(obtain rfl:j=0:=by omega);rfl⟩,Z6⟩,λx=>?_⟩
 obtain⟨⟨⟨f,i,S⟩,pre⟩,u,Q,hi,L,I,hp⟩:=x;dsimp only at u Q hi L I hp ⊢;have V:=W (tx::S);refine⟨λhc=>?_,λhc=>?_⟩
 ·have hlt:i<S.length+1:=by have:=G7 hc;omega
  have o:i<(tx::S).length:=hlt;obtain⟨g,rfl⟩:∃g,f=g+1:=⟨f-1,Z9⟩
  rw[c5r o] at u;have z:(tx::S).drop i=(tx::S).getD i 0::S.drop i:=by
   rw[List.drop_eq_getElem_cons o,P4,I1 o]
   rfl
  have t:pre++(tx::S).drop i=(pre++[(tx::S).getD i 0])++S.drop i:=by rw[z,List.append_assoc];rfl
  have A:(pre++(tx::S).drop i).getD (pre.length+0) 0=(tx::S).getD i 0:=by
   rw[Nat.add_zero,P4,qA (U9 _),j_h,z]
   rfl
  refine⟨⟨Z9,Z9⟩,by unfold Lt;rw[F9,List.length_drop];simp only[List.length_cons];omega,⟨Z9,Z9⟩,⟨⟨((0,S),pre++[(tx::S).getD i 0]),N4 _,rfl,I,C7⟩,⟨rfl,rfl,⟨rfl,rfl⟩,⟨rfl,rfl⟩,⟨W7,X5⟩,A,⟨rfl,X6 _ _⟩,rfl,rfl,Z6⟩,⟨rfl,rfl,⟨rfl,X6 _ _⟩,⟨rfl,X6 _ _⟩,Z6⟩,⟨rfl,X6 _ _⟩,⟨by rw[t],by rw[t];exact X6 _ _⟩,Z6⟩,λy=>?_⟩
  obtain⟨⟨⟨k,S'⟩,d⟩,F,hs,q,r⟩:=y;dsimp only at F hs q r ⊢;obtain⟨Y,M,U⟩:=a7U k (tx::S') F hs;simp only[List.length_cons] at M U;have O:=W (tx::S');rw[E3];refine⟨λhc2=>?_,λhc2=>?_⟩
  ·have hkt:=Y2 hc2;have hss:=dT hs;rw[c61] at hss;refine⟨Y6 hkt,(S',S'.length,(l.W.getD k dz).fo),λ_=>⟨K0,Z8,rU⟩,λhq=>?_,λhq=>⟨λhb=>?_,λhb=>⟨⟨U9 _,R0⟩,λb=>?_⟩⟩⟩
   ·have B:scn l.W tx ((tx::S).getD i 0) (tx::S) (k+1)=some (tx::S'):=by
     rw[hss];split
     ·rename_i ha;simp only[nT] at hq;have hany:=hq.resolve_left (by rw[ha];simp)
      rw[if_neg (λe:(l.W.getD k dz).fo=tx=>q (by have:=b8Z hany;rwa [e] at this)),if_pos (by rw[hany];simp)]
     ·rfl
    exact⟨Z4 Z9,⟨((k+1,S'),d),hkt,B,q,r⟩,⟨⟨rfl,rfl,Z8,Z8,Z8,rfl,Z8,rfl,X5,Z6⟩,Z8⟩,J8⟩
   ·simp only[wS,bne_eq_false_iff_eq] at hq;rw[if_pos hq.1,if_pos (beq_iff_eq.1 hb)] at hss;have:=mA hss (l.W.length- (k+1));rw[show k+1+(l.W.length- (k+1))=l.W.length by omega] at this
    rw[this] at u;exact u
   ·simp only[wS,bne_eq_false_iff_eq] at hq;have hft:¬ (l.W.getD k dz).fo=tx:=λe=>by rw[e] at hb;simp at hb
    rw[if_pos hq.1,if_neg hft,if_neg (by rw[hq.2];simp;exact λe=>hft e.symm)] at hss
    generalize (l.W.getD k dz).fo=v at*;have hd2:(S'++[v]).drop i=S'.drop i++[v]:=List.drop_append_of_le_length Z9
    have N:(d++S'.drop i).length=d.length+(S'.length-i):=by rw[F9,List.length_drop]
    have C:(S'.drop i).length=S'.length-i:=List.length_drop;refine⟨⟨K0,Q2,R0⟩,Z4 Z9,⟨((k+1,S'++[v]),bif b then[] else d),hkt,hss,(by simp only[List.mem_append,List.mem_singleton];rintro(e|e);exact q e;exact hft e.symm),by cases b<;>simp<;>omega⟩,⟨⟨rfl,rfl,⟨rfl,rfl⟩,⟨rfl,W7⟩,⟨by cases b<;>rfl,a34⟩,rfl,⟨rfl,X6 _ _⟩,rfl,X5,Z6⟩,⟨rfl,rfl,⟨rfl,X6 _ _⟩,⟨rfl,X6 _ _⟩,Z6⟩,⟨W7,a2g λ_ _=>rfl⟩,⟨?_,?_⟩,Z6⟩,J8⟩
    ·dsimp only;rw[hd2];cases b with
     |true=>simp
     |false=>simp only[cond_false,F9,List.length_drop,List.length_singleton];omega
    ·dsimp only;rw[hd2];cases b with
     |true=>
      simp only[cond_true,List.nil_append];rw[←C];refine a2g λj J=>?_
      unfold Y9;rw[P4,P4,qA Z9,show d.length+j-d.length=j by omega]
     |false=>
      simp only[cond_false];rw[←N,←List.append_assoc];exact a2g λ_ _=>rfl
  ·obtain rfl:k=l.W.length:=by have:=Y0 hc2;omega
   rw[hs] at u;exact⟨⟨((g,i+1,S'),d),u,X5,X5,X5,q,r⟩,⟨⟨rfl,rfl,Z8,Z8,⟨rfl,X5⟩,Z6⟩,Z8⟩,J8⟩
 ·have hge:¬i<(tx::S).length:=by have:=r9 hc;simp only[List.length_cons];omega
  rw[←u];exact(c5i hge).symm
def sB(L:List (List Wt))(i:Nat):List T:=[nG (L.getD i [])]
def c1N(L:List (List Wt)):T:=.sl 1 L.length (sB L)
def F8(L:List (List Wt)):Nat->List Wt
 |0=>[]
 |i+1=>F8 L i++L.getD i []
def c6z:Con:=.rmk ⟨Nat,λn=>[.v (.slice none 0 0),Ji n],λ_=>[],λ_=>.osl 0 0 0,λ_=>[sU []],λn=>1<=n/\n<=1000000⟩
def c5L(n:Nat)(h:
let q:=((n:Int)-0);let p:=q.toNat;  (decide ((n:Int)<0)=true->False)/\(decide ((n:Int)<0)=false->Ri (0:Int)/\Ri q/\bd ((n:Int)-0>0) (jX (0:Int) 0/\(Nn q/\Lt 0 p/\U8 0 p 16)/\jX (0:Int) p/\((0=0/\Int.toNat (0:Int)=0)/\True)/\(p=n/\Z7 p (λ(x:Nat)=>[Ji 0,Ji 0]) λ(x:Nat)=>[Ji 0,Ji 0])/\True) ((J7 (m9 [none]) (T.v (Value.slice none 0 0)) (T.osl 0 0 0)/\True)/\False/\True))):
  G3 prog 344 [.v (.slice none 0 0),Ji n] [] (.osl 0 0 0) [some (.arr true 0 2 n λ_=>zWt)]:=
 C6 gN func344 Z3 [[.vl 0 []]] h
def c8C:Con:=.rmk ⟨List (List Wt),λL=>[c1N L],λ_=>[],λL=>.osl 0 0 (F8 L L.length).length,λL=>[sU (F8 L L.length)],λL=>L.length<=100/\1<=(F8 L L.length).length/\(F8 L L.length).length<=1000000⟩
def c8p(L:List (List Wt)):Nat->Ann
 |0=>.one (Up L.length) (λx=>⟨[(0,c1N L),(3,Ji (F8 L x.1).length),(9,c1N L),(10,Ji L.length),(11,Ji x.1)],[]⟩) (λx=>L.length-x.1) [] [] (λ_=>fun
  |1=>.one (Up L.length) (λx=>⟨[(6,.osl 0 0 (F8 L x.1).length),(25,c1N L),(26,Ji L.length),(27,Ji x.1)],[sU (F8 L x.1)]⟩) (λx=>L.length-x.1) [.at_ 6] [.at_ 6] (λ_=>Z3)
  |_=>.none)
 |_=>.none
def c33:GK 344 c6z:=gk func344<|by
 rintro n ⟨e,d⟩;refine⟨gW (c5L n ⟨λq=>(by have:=G7 q;omega),λ_=>⟨Z4 Z9,Z4 Z9,λ_=>⟨⟨Z9,Z9⟩,⟨m3,Q2,R0⟩,⟨Z9,Z9⟩,Z8,⟨Z9,X6 _ _⟩,Z6⟩,λq=>(by have:=r9 q;omega)⟩⟩) ?_,rfl,sA []⟩
 refine⟨rfl,λk o' h=>?_⟩
 cases k with
 |zero=>
  have h:sU []=some o':=h;unfold sU at h;simp only[X0] at h;refine⟨_,rfl,.inr ⟨_,_,_,_,_,_,_,rfl,h.symm,N4 _,λi hi=>absurd hi (D2 _)⟩⟩
 |succ k=>simp[Y4] at h
def b8A(L:List (List Wt))(i:Nat):∀d,(F8 L i).length<=(F8 L (i+d)).length
 |0=>U9 _
 |d+1=>by
  have:=b8A L i d;show _<=(F8 L (i+d)++L.getD (i+d) []).length;rw[F9];omega
def c7Y:GK 290 c8C:=gk func290<|by
 rintro L ⟨l,f,g⟩;have e:∀i,i<=L.length->(F8 L i).length<=1000000:=λi hi=>by
  have:=b8A L i (L.length-i);rw[show i+(L.length-i)=L.length by omega] at this
  omega
 have d:∀i,(F8 L (i+1)).length=(F8 L i).length+(L.getD i []).length:=λi=>F9
 refine⟨C6 (gC c33 gN) func290 (c8p L) [[.vl 0 []]] (α:=let v:=(Z0 sB L L);let q:=(L.length:Int);(∃(x:Up L.length),(v/\0=(↑(F8 L x.1).length:Int)/\v/\q=q/\0=(x.1:Int)/\True)/\True)/\∀(x:Up L.length),let w:=(x.1:Int);let u:=(↑(F8 L x.1).length:Int);let z:=(↑(L.getD w.toNat []).length:Int);bd (w<q) (W9 w L.length/\Ri (u+z)/\bd (u+z<0) False (Ri (w+1)/\∃(y:Up L.length),((v/\u+z=(↑(F8 L y.1).length:Int)/\v/\q=q/\w+1=(y.1:Int)/\True)/\True)/\Lt (L.length-y.1) (L.length-x.1))) (∃(X:Nat),((Value.slice none 0 0=Value.slice none 0 0/\u=(X:Int)/\True)/\1<=X/\X<=1000000)/\(∃(x:Up L.length),let k:=(F8 L x.1);((0=0/\0=k.length)/\v/\q=q/\0=(x.1:Int)/\True)/\(0=k.length/\Z7 0 (Y7 []) (Y7 k))/\True)/\∀(x:Up L.length),let m:=(F8 L x.1);let j:=(x.1:Int);let r:=(L.getD j.toNat []);let p:=m.length;bd (j<q) (W9 j L.length/\(Le p p/\U8 p r.length 16)/\Ri (j+1)/\∃(y:Up L.length),let n:=(F8 L y.1);(((0=0/\p+r.length=n.length)/\v/\q=q/\j+1=(y.1:Int)/\True)/\(p+r.length=n.length/\Z7 (p+r.length) (X4 (Y7 m) p (Y7 r)) (Y7 n))/\True)/\Lt (L.length-y.1) (L.length-x.1)) (((0=0/\p=(F8 L L.length).length)/\True)/\(Z0 Y7 m (F8 L L.length))/\True))) ⟨⟨⟨0,N4 _⟩,Z8⟩,λx=>⟨λhc=>?_,λhc=>?_⟩⟩,rfl,sA _⟩
 ·have h:=Y2 hc;have j:=e (x.1+1) h;have A:=d x.1;rw[E3];exact⟨Y6 h,Z4 Z9,λq=>(by have:=G7 q;omega),λ_=>⟨Z4 Z9,⟨x.1+1,h⟩,⟨⟨Z8,X5,Z8,rfl,X5,Z6⟩,Z6⟩,J8⟩⟩
 ·have hx:x.1=L.length:=by have:=x.2;have:=Y0 hc;omega
  refine⟨(F8 L L.length).length,⟨⟨rfl,by rw[hx],Z6⟩,f,g⟩,⟨⟨0,N4 _⟩,⟨⟨rfl,rfl⟩,⟨rfl,X6 _ _⟩,rfl,rfl,Z6⟩,⟨rfl,X6 _ _⟩,Z6⟩,λy=>⟨λhc2=>?_,λhc2=>?_⟩⟩
  ·have h:=Y2 hc2;have j:=e (y.1+1) h;have A:=d y.1;rw[E3];exact⟨Y6 h,⟨U9 _,R0⟩,Z4 Z9,⟨y.1+1,h⟩,⟨⟨⟨rfl,A.symm⟩,Z8,rfl,X5,Z6⟩,⟨A.symm,a59 _ _⟩,Z6⟩,J8⟩
  ·have hy:y.1=L.length:=by have:=y.2;have:=Y0 hc2;omega
   rw[hy];exact Z8
def tkX(e:Eng)(x:Lck):Eng:={e with lk:=(T6 e.lk x).1}
def c9P(e:Eng)(tx:Int):Eng:={e with lk:=J1 e.lk tx}
def c1f:Con:=.reff ⟨Eng×Lck×Nat,λx=>[.ref 0 0 11,.agg x.2.1.ts],λx=>x.1.bx x.2.2,λx=>Ji (T6 x.1.lk x.2.1).2,λx=>(tkX x.1 x.2.1).nx x.2.2,λx=>x.1.lk.H.length<=60/\x.1.lk.W.length<=100⟩
def c1G(e:Eng)(x:Lck)(v:Nat):Nat->Ann
 |0=>.one (Up e.lk.H.length) (λi=>⟨[(0,.ref 0 0 11),(3,.ref 9 0 0),(4,Ji 0),(5,.osl 10 0 (V1 e.lk.H x i.1).length),(28,.osl 7 0 e.lk.H.length),(29,Ji e.lk.H.length),(30,Ji i.1)],(c9P e x.tx).bx v++[aP x,sU (V1 e.lk.H x i.1)]⟩) (λi=>e.lk.H.length-i.1) c5q c5q (λ_=>Z3)
 |_=>.none
def b5F(L:List Lck)(x:Lck)(i:Nat):hsI L x i=qC L x i:=by
 unfold hsI hsB qC b2a rY;rw[Bool.eq_iff_iff];simp only[J5,nT,beq_iff_eq];constructor
 ·rintro⟨⟨a,b,c⟩,(d|d)|d⟩
  ·exact⟨⟨⟨a,b⟩,c⟩,.inl (.inr d)⟩
  ·exact⟨⟨⟨a,b⟩,c⟩,.inr d⟩
  ·exact⟨⟨⟨a,b⟩,c⟩,.inl (.inl d)⟩
 ·rintro⟨⟨⟨a,b⟩,c⟩,(d|d)|d⟩
  ·exact⟨⟨a,b,c⟩,.inr d⟩
  ·exact⟨⟨a,b,c⟩,.inl (.inl d)⟩
  ·exact⟨⟨a,b,c⟩,.inl (.inr d)⟩
def b5U(L:List Wt)(w:Wt)(i:Nat):isW L w i=cX L w i:=by
 unfold isW cX;rw[show(w.tx==(L.getD i dz).tx)=((L.getD i dz).tx==w.tx) from Bool.eq_iff_iff.2 (by simp only[beq_iff_eq];exact eq_comm),show(w.fo==(L.getD i dz).fo)=((L.getD i dz).fo==w.fo) from Bool.eq_iff_iff.2 (by simp only[beq_iff_eq];exact eq_comm)]
def a04{n:Nat}{p q:Nat->Bool}(h:∀i,p i=q i):anyI n p=anyI n q:=by rw[show p=q from funext h]
def b6S:GK 211 c1f:=gk func211<|by
 rintro⟨e,x,v⟩ ⟨A,z⟩;dsimp only at A z;have o:(X8 (cF x.tx) e.lk.W e.lk.W.length).length<=e.lk.W.length:=q7 (cF x.tx) e.lk.W e.lk.W.length;have q:=λn=>a7i (L:=e.lk.H) (x:=x) n
 refine C6 (gC b2i (gC gI (gC c6C (gC cD (gC b1W (gC c7Y (gC b7d gN))))))) func211 (c1G e x v) aW (α:=let py:=(0=0/\11=11);let pw:=(0=0/\0=0);let pq:=(Z0 Z2 e.lk.H e.lk.H);let pm:=(1=1/\1=1/\x.tx=x.tx/\x.ta=x.ta/\x.row=x.row/\x.mo=x.mo/\True);let ph:=(Z0 X2 e.X e.X);let pg:=(e.lk.H.length:Int);let pf:=(Z0 Y1 e.s.L e.s.L);let pe:=(0=0/\e.lk.H.length=e.lk.H.length);let pd:=(0=0/\e.X.length=e.X.length);let pc:=(Z0 Z1 e.s.d.C e.s.d.C);let pb:=(Z0 Z5 e.s.d.E e.s.d.E);let pa:=(0=0/\e.s.L.length=e.s.L.length);let l:=(0=0/\e.s.fr.length=e.s.fr.length);let i:=(0=0/\e.s.d.C.length=e.s.d.C.length);let c:=(0=0/\e.s.d.E.length=e.s.d.E.length);let a:=(Z0 Y9 e.s.d.keep e.s.d.keep);let n:=(0=0/\e.s.d.keep.length=e.s.d.keep.length);let m:=(T6 e.lk x);let qa:=m.1.H.length;let pt:=m.1.W.length;let po:=(Z0 Z2 e.lk.H m.1.H);let pk:=(0=0/\e.lk.H.length=qa);let r:=(v=v/\e.s.fr.length=e.s.fr.length/\V2 e.s.fr.length (Y5 e.s.fr) (Y5 e.s.fr));let q:=(X8 (cF x.tx) e.lk.W e.lk.W.length);let pu:=(Z0 Y7 q m.1.W);let pp:=q.length;let u:=(1=1/\1=1/\c/\i/\e.s.d.A=e.s.d.A/\n/\e.s.ep=e.s.ep/\pa/\e.s.S=e.s.S/\l/\e.s.J=e.s.J/\e.up=e.up/\pd/\pe/\(0=0/\pp=pp)/\e.N=e.N/\True);let p:=(1=1/\1=1/\c/\i/\e.s.d.A=e.s.d.A/\n/\e.s.ep=e.s.ep/\pa/\e.s.S=e.s.S/\l/\e.s.J=e.s.J/\e.up=e.up/\pd/\pk/\(0=0/\pp=pt)/\e.N=e.N/\True);let w:=((7=m.2/\True)/\p/\True/\True/\True/\True/\True/\True/\True/\True/\pb/\pc/\a/\pf/\r/\ph/\po/\pu/\True);∃(f:(List Wt×Lck)),let t:=(X8 (w7 f.2) f.1 f.1.length);(((0=0/\e.lk.W.length=f.1.length)/\(Fn.func 286=Fn.func 286/\pw/\True)/\True)/\((Z0 Y7 e.lk.W f.1)/\(1=1/\Z7 1 (λ(j:Nat)=>[Ji x.tx,Ji x.ta,Ji x.row,Ji x.mo]) λ(x:Nat)=>[Ji f.2.tx,Ji f.2.ta,Ji f.2.row,Ji f.2.mo])/\True)/\f.1.length<=1048576)/\∃(j:(Lks×Lck)),((Le (0+e.lk.H.length) e.lk.H.length/\Le (0+t.length) t.length)/\(((Z0 Z2 e.lk.H j.1.H)/\(Z0 Y7 t j.1.W)/\True)/\(f.2.tx=j.2.tx/\f.2.ta=j.2.ta/\f.2.row=j.2.row/\f.2.mo=j.2.mo/\True)/\True)/\L9 j.1.H.length)/\br (anyI j.1.H.length (hsI j.1.H j.2)) ((0=m.2/\True)/\(1=1/\1=1/\c/\i/\e.s.d.A=e.s.d.A/\n/\e.s.ep=e.s.ep/\pa/\e.s.S=e.s.S/\l/\e.s.J=e.s.J/\e.up=e.up/\pd/\pk/\(0=0/\t.length=pt)/\e.N=e.N/\True)/\True/\True/\True/\True/\True/\True/\True/\True/\pb/\pc/\a/\pf/\r/\ph/\po/\(Z0 Y7 t m.1.W)/\True) ((∃(X:Up e.lk.H.length),let pr:=(V1 e.lk.H x X.val);(py/\pw/\(0:Int)=0/\(0=0/\0=pr.length)/\pe/\pg=pg/\0=(X.val:Int)/\True)/\(1=1/\1=1/\c/\i/\e.s.d.A=e.s.d.A/\n/\e.s.ep=e.s.ep/\pa/\e.s.S=e.s.S/\l/\e.s.J=e.s.J/\e.up=e.up/\pd/\pe/\(0=0/\t.length=pp)/\e.N=e.N/\True)/\pb/\pc/\a/\pf/\r/\ph/\pq/\(Z0 Y7 t q)/\(1=1/\1=1/\f.2.tx=x.tx/\f.2.ta=x.ta/\f.2.row=x.row/\f.2.mo=x.mo/\True)/\(0=pr.length/\Z7 0 (λ(k:Nat)=>List.take 2 (List.drop (k*2) [])) (Y7 pr))/\True)/\∀(X:Up e.lk.H.length),let pz:=(e.lk.H.length-X.val);let pn:=(X.val:Int);let pj:=(V1 e.lk.H x X.val);let b:=(e.lk.H.getD (0+pn.toNat) dz);let z:=pj.length;let px:=(↑z:Int);bd (pn<pg) (W9 pn e.lk.H.length/\Lt (0+pn.toNat) e.lk.H.length/\∃(g:(Lck×Lck)),(((b.tx=g.1.tx/\b.ta=g.1.ta/\b.row=g.1.row/\b.mo=g.1.mo/\True)/\(x.tx=g.2.tx/\x.ta=g.2.ta/\x.row=g.2.row/\x.mo=g.2.mo/\True)/\True)/\True)/\∃(h:(List Wt×Nat×Wt)),(clash g.1 g.2=true->Le (0+z) z/\((z=h.2.1/\Z7 z (Y7 pj) (Y7 h.1))/\(x.tx=h.2.2.tx/\b.tx=h.2.2.fo/\True)/\True)/\L9 h.2.1)/\br (clash g.1 g.2&& !anyI h.2.1 (isW h.1 h.2.2)) ((Le 1 1/\Le z z/\U8 z 1 16)/\Ri (pn+1)/\∃(y:Up e.lk.H.length),let ps:=(V1 e.lk.H x y.1);((py/\pw/\(0:Int)=0/\(0=0/\z+1=ps.length)/\pe/\pg=pg/\pn+1=(y.1:Int)/\True)/\u/\pb/\pc/\a/\pf/\r/\ph/\pq/\(Z0 Y7 q q)/\pm/\(z+1=ps.length/\Z7 (z+1) (X4 (Y7 pj) z λ(k:Nat)=>List.take 2 (List.drop (k*2) [Ji x.tx,Ji b.tx])) (Y7 ps))/\True)/\Lt (e.lk.H.length-y.1) pz) (Ri (pn+1)/\∃(y:Up e.lk.H.length),((py/\pw/\(0:Int)=0/\(0=0/\z=(V1 e.lk.H x y.1).length)/\pe/\pg=pg/\pn+1=(y.1:Int)/\True)/\u/\pb/\pc/\a/\pf/\r/\ph/\pq/\(Z0 Y7 q q)/\pm/\(Z0 Y7 pj (V1 e.lk.H x y.1))/\True)/\Lt (e.lk.H.length-y.1) pz)) (br (px==0&&pg==60) w (br (px==0) ((Le 1 1/\Le e.lk.H.length e.lk.H.length/\U8 e.lk.H.length 1 32)/\(0=m.2/\True)/\(1=1/\1=1/\c/\i/\e.s.d.A=e.s.d.A/\n/\e.s.ep=e.s.ep/\pa/\e.s.S=e.s.S/\l/\e.s.J=e.s.J/\e.up=e.up/\pd/\(0=0/\e.lk.H.length+1=qa)/\(0=0/\pp=pt)/\e.N=e.N/\True)/\True/\True/\True/\True/\True/\True/\True/\True/\pb/\pc/\a/\pf/\r/\ph/\(e.lk.H.length+1=qa/\Z7 (e.lk.H.length+1) (X4 (Z2 e.lk.H) e.lk.H.length λ(k:Nat)=>List.take 4 (List.drop (k*4) [Ji x.tx,Ji x.ta,Ji x.row,Ji x.mo])) (Z2 m.1.H))/\pu/\True) (Ri ((↑pp:Int)+px)/\bd ((↑pp:Int)+px>100) w (∃(g:(List (List Wt))),let pi:=(F8 g (g.length));let pv:=pi.length;((Le (0+pp) pp/\Le (0+z) z)/\((2=g.length/\Z7 2 (dZ [T.sl 2 q.length (Y7 q)] [T.sl 2 z (Y7 pj)]) (sB g))/\True)/\g.length<=100/\1<=pv/\pv<=1000000)/\∃(h:(Lks×Int)),((Le (0+e.lk.H.length) e.lk.H.length/\Le (0+pv) pv)/\(((Z0 Z2 e.lk.H h.1.H)/\(Z0 Y7 pi h.1.W)/\True)/\x.tx=h.2/\x.tx=h.2/\True)/\h.1.W.length<=100)/\br (rnd h.1.W h.2) ((14=m.2/\True)/\p/\True/\True/\True/\True/\True/\True/\True/\True/\pb/\pc/\a/\pf/\r/\ph/\po/\pu/\True) ((13=m.2/\True)/\(1=1/\1=1/\c/\i/\e.s.d.A=e.s.d.A/\n/\e.s.ep=e.s.ep/\pa/\e.s.S=e.s.S/\l/\e.s.J=e.s.J/\e.up=e.up/\pd/\pk/\(0=0/\pv=pt)/\e.N=e.N/\True)/\True/\True/\True/\True/\True/\True/\True/\True/\pb/\pc/\a/\pf/\r/\ph/\po/\(Z0 Y7 pi m.1.W)/\True))))))) ⟨(e.lk.W,x),⟨Z8,Z8,X5⟩,(J1 e.lk x.tx,x),⟨⟨K0,K0⟩,Z8,by unfold L9 J1;dsimp only;omega⟩,λhh=>?_,λhh=>⟨⟨⟨0,N4 _⟩,Z8,Z8,Z8,Z8,Z8,Z8,Z8,Z8,Z8,Z8,Z8,⟨rfl,P1⟩,Z6⟩,λy=>?_⟩⟩
 ·have hh:anyI e.lk.H.length (qC e.lk.H x)=true:=by rw[←a04 (b5F e.lk.H x)];exact hh
  have e1:T6 e.lk x=(J1 e.lk x.tx,0):=by unfold T6;rw[if_pos hh]
  rw[e1];exact Z8
 have hh:¬anyI e.lk.H.length (qC e.lk.H x)=true:=by
  have hh:anyI e.lk.H.length (hsI e.lk.H x)=false:=hh;rw[←a04 (b5F e.lk.H x),hh];simp
 obtain⟨i,hi⟩:=y;dsimp only at hi ⊢;have I:=q i;rw[E3,D4];refine⟨λhc=>?_,λhc=>?_⟩
 ·have hlt:=Y2 hc;have hw1:=c4W (L:=e.lk.H) (x:=x) (i:=i);refine⟨Y6 hlt,hlt,(e.lk.H.getD i dz,x),Z8,(V1 e.lk.H x i,(V1 e.lk.H x i).length,⟨x.tx,(e.lk.H.getD i dz).tx⟩),λ_=>⟨K0,Z8,rU⟩,λhq=>?_,λhq=>?_⟩
  ·dsimp only at hq;rw[a04 (b5U _ _)] at hq;simp only[J5,vZ] at hq;rw[if_pos hq.1,if_neg (by rw[hq.2];simp)] at hw1
   have N:(V1 e.lk.H x i).length+1=(V1 e.lk.H x (i+1)).length:=by rw[hw1];simp
   refine⟨⟨U9 _,U9 _,R0⟩,Z4 Z9,⟨i+1,hlt⟩,⟨⟨Z8,Z8,rfl,⟨rfl,N⟩,Z8,rfl,X5,Z6⟩,Z8,Z8,Z8,Z8,Z8,Z8,Z8,Z8,Z8,Z8,⟨N,?_⟩,Z6⟩,J8⟩
   dsimp only;rw[hw1];exact zV Wt.ts 2 (λ_=>rfl) (V1 e.lk.H x i) ⟨x.tx,(e.lk.H.getD i dz).tx⟩
  ·dsimp only at hq;rw[a04 (b5U _ _)] at hq;have r:V1 e.lk.H x (i+1)=V1 e.lk.H x i:=by
    rw[hw1];split
    ·rename_i o;rw[o,Bool.true_and,wU] at hq;rw[if_pos hq]
    ·rfl
   refine⟨Z4 Z9,⟨i+1,hlt⟩,?_,J8⟩
   dsimp only;rw[r];exact⟨⟨Z8,Z8,rfl,Z8,Z8,rfl,Z9,Z6⟩,Z8⟩
 ·obtain rfl:i=e.lk.H.length:=by have:=Y0 hc;omega
  refine⟨λh60=>?_,λh60=>⟨λh0=>?_,λh0=>⟨Z4 Z9,λB=>?_,λB=>?_⟩⟩⟩
  ·simp only[J5,beq_iff_eq] at h60;have h0:(C0 e.lk x).length=0:=by have:=h60.1;unfold C0;omega
   have e1:T6 e.lk x=(J1 e.lk x.tx,7):=by unfold T6;rw[if_neg hh,if_pos h0,if_pos Z9]
   rw[e1];exact Z8
  ·have h0':(C0 e.lk x).length=0:=by have:=beq_iff_eq.1 h0;unfold C0;omega
   have h60:¬e.lk.H.length=60:=λl=>by rw[h0,l] at h60;cases h60
   have e1:T6 e.lk x=(⟨e.lk.H++[x],(J1 e.lk x.tx).W⟩,0):=by unfold T6;rw[if_neg hh,if_pos h0',if_neg h60]
   rw[e1];exact⟨⟨U9 _,U9 _,R0⟩,Z8,⟨rfl,rfl,Z8,Z8,rfl,Z8,rfl,Z8,rfl,Z8,rfl,rfl,Z8,⟨rfl,W7⟩,Z8⟩,Z6,Z6,Z6,Z6,Z6,Z6,Z6,Z6,Z8,Z8,Z8,Z8,Z8,Z8,⟨W7,zV Lck.ts 4 (λ_=>rfl) _ x⟩,Z8⟩
  ·have h0':¬ (C0 e.lk x).length=0:=λl=>by
    have l:(V1 e.lk.H x e.lk.H.length).length=0:=l;rw[l] at h0;cases h0
   have hb':(J1 e.lk x.tx).W.length+(C0 e.lk x).length>100:=by have:=G7 B;unfold C0 J1;dsimp only;omega
   have e1:T6 e.lk x=(J1 e.lk x.tx,7):=by unfold T6;rw[if_neg hh,if_neg h0',if_pos hb']
   rw[e1];exact Z8
  ·have t:¬ (V1 e.lk.H x e.lk.H.length).length=0:=λl=>by
    rw[l] at h0;cases h0
   have h0':¬ (C0 e.lk x).length=0:=t;have F:(X8 (cF x.tx) e.lk.W e.lk.W.length).length+(V1 e.lk.H x e.lk.H.length).length<=100:=by have:=r9 B;omega
   have hb':¬ (J1 e.lk x.tx).W.length+(C0 e.lk x).length>100:=by unfold C0 J1;dsimp only;omega
   have u:F8 [X8 (cF x.tx) e.lk.W e.lk.W.length,V1 e.lk.H x e.lk.H.length] 2=(J1 e.lk x.tx).W++C0 e.lk x:=rfl;have C:((J1 e.lk x.tx).W++C0 e.lk x).length=(X8 (cF x.tx) e.lk.W e.lk.W.length).length+(V1 e.lk.H x e.lk.H.length).length:=F9;refine⟨[X8 (cF x.tx) e.lk.W e.lk.W.length,V1 e.lk.H x e.lk.H.length],⟨⟨K0,K0⟩,⟨⟨rfl,λi hi=>by match i,hi with|0,_=>rfl|1,_=>rfl⟩,Z6⟩,by show 2<=100;omega,?_,?_⟩,(⟨e.lk.H,(J1 e.lk x.tx).W++C0 e.lk x⟩,x.tx),⟨⟨K0,K0⟩,⟨⟨⟨rfl,X6 _ _⟩,⟨rfl,X6 _ _⟩,Z6⟩,rfl,rfl,Z6⟩,X5⟩,λhr=>?_,λhr=>?_⟩
   ·show 1<=((J1 e.lk x.tx).W++C0 e.lk x).length;omega
   ·show((J1 e.lk x.tx).W++C0 e.lk x).length<=1000000;omega
   ·have hr:rnd ((J1 e.lk x.tx).W++C0 e.lk x) x.tx=true:=hr;have e1:T6 e.lk x=(J1 e.lk x.tx,14):=by unfold T6;rw[if_neg hh,if_neg h0',if_neg hb',if_pos hr]
    rw[e1];exact Z8
   ·have hr:¬rnd ((J1 e.lk x.tx).W++C0 e.lk x) x.tx=true:=by
     have hr:rnd ((J1 e.lk x.tx).W++C0 e.lk x) x.tx=false:=hr;rw[hr];simp
    have e1:T6 e.lk x=(⟨e.lk.H,(J1 e.lk x.tx).W++C0 e.lk x⟩,13):=by unfold T6;rw[if_neg hh,if_neg h0',if_neg hb',if_neg hr]
    rw[e1];exact Z8
def uZ(e:Eng)(k:Nat)(ta row mo:Int):Nat:=if(T6 e.lk (qE e k ta row mo)).2=14 then(I6 (pE e k ta row mo) k).1.2 else 0
def c3Z:Con:=.reff ⟨Eng×Nat×Int×Int×Int×Int,λx=>[.ref 0 0 0,Ji x.2.2.2.2.2,Ji x.2.2.1,Ji x.2.2.2.1,Ji x.2.2.2.2.1],λx=>x.1.bx 0,λx=>Ji (R4 x.1 x.2.1 x.2.2.1 x.2.2.2.1 x.2.2.2.2.1).2,λx=>(R4 x.1 x.2.1 x.2.2.1 x.2.2.2.1 x.2.2.2.2.1).1.nx (uZ x.1 x.2.1 x.2.2.1 x.2.2.2.1 x.2.2.2.2.1),λx=>XI x.1 x.2.1 x.2.2.2.2.2⟩
def b1g{a:Int}(h:(a !=0)=true):¬a=0:=x5
def a3n{a:Int}(h:(a !=0)=false):a=0:=x5
def b5R:GK 125 c3Z:=gk func125<|by
 rintro⟨e,k,ta,row,mo,tx⟩ h;dsimp only at h;have ht:=sJ h ta row mo;have d:=h.u.u.id;have f:qE e k ta row mo=⟨tx,ta,row,mo⟩:=by unfold qE;rw[d]
 refine C6 (gC b6S (gC b9D gN)) func125 Z3 aW (α:=let z:=(uZ e k ta row mo);let p:=(R4 e k ta row mo);∃(x:(Eng×Lck×Nat)),let q:=(T6 x.1.lk x.2.1);(((0=0/\11=11)/\(tx=x.2.1.tx/\ta=x.2.1.ta/\row=x.2.1.row/\mo=x.2.1.mo/\True)/\True)/\(iM (0) (x.2.2) e x.1)/\x.1.lk.H.length<=60/\x.1.lk.W.length<=100)/\br (q.2==14) (∃(X:(Eng×Int×Nat)),let r:=(I6 X.1 X.2.2);(((0=0/\0=0)/\tx=X.2.1/\True)/\(iM (x.2.2) (0) {x.1 with lk:=q.1} X.1)/\UI X.1 X.2.2 X.2.1 (X.1.X.getD X.2.2 dz).Z)/\br (r.2 !=0) ((r.2=p.2/\True)/\lO (r.1.2) z r.1.1 p.1) ((q.2=p.2/\True)/\lO (r.1.2) z r.1.1 p.1)) ((q.2=p.2/\True)/\lO (x.2.2) z {x.1 with lk:=q.1} p.1)) ⟨(e,qE e k ta row mo,0),⟨⟨Z8,⟨d.symm,Z8⟩,Z6⟩,Z8,h.u.u.lk.1,h.u.u.lk.2⟩,λhq=>?_,λhq=>?_⟩
 ·have hq:(T6 e.lk (qE e k ta row mo)).2=14:=beq_iff_eq.1 hq;have ev:uZ e k ta row mo=(I6 (pE e k ta row mo) k).1.2:=if_pos hq;refine⟨(pE e k ta row mo,tx,k),⟨Z8,Z8,ht.u⟩,λhn=>?_,λhn=>?_⟩
  ·have hn:¬ (I6 (pE e k ta row mo) k).2=0:=b1g hn;have hc:=(c9d (pE e k ta row mo) k).resolve_left hn;have e1:R4 e k ta row mo=((I6 (pE e k ta row mo) k).1.1,15):=by unfold R4;rw[if_pos hq,if_neg hn]
   rw[e1,ev];exact⟨⟨hc,Z6⟩,Z8⟩
  ·have hn:(I6 (pE e k ta row mo) k).2=0:=a3n hn;have e1:R4 e k ta row mo=((I6 (pE e k ta row mo) k).1.1,14):=by unfold R4;rw[if_pos hq,if_pos hn]
   rw[e1,ev];exact⟨⟨hq,Z6⟩,Z8⟩
 ·have hq:¬ (T6 e.lk (qE e k ta row mo)).2=14:=λe1=>by
   have hq:((T6 e.lk (qE e k ta row mo)).2==14)=false:=hq;rw[e1] at hq;cases hq
  have ev:uZ e k ta row mo=0:=if_neg hq;have e1:R4 e k ta row mo=(pE e k ta row mo,(T6 e.lk (qE e k ta row mo)).2):=by unfold R4;rw[if_neg hq]
  rw[e1,ev];exact Z8
def a5c(g s:Int):Option Ob:=some (.arr true 1000000 2 1 λ_=>[Ji g,Ji s])
def hitB(r:Rec)(g s:Int):Bool:=(r.g==g)&&(r.s==s)
def c1b:Con:=.reff ⟨Rec×Int×Int×Bool,λx=>[.agg x.1.ts,.ref 0 0 0,.ref 1 0 0],λx=>[fF x.2.2.2,a5c x.2.1 x.2.2.1],λ_=>.bool true,λx=>[fF (x.2.2.2||hitB x.1 x.2.1 x.2.2.1),a5c x.2.1 x.2.2.1],λ_=>True⟩
def c1j(r:Rec)(g s:Int)(b:Bool)(h:
  (true=true/\True)/\(1=1/\1=1/\(b||r.g==g&&r.s==s)=(b||hitB r g s)/\True)/\(1=1/\1=1/\g=g/\s=s/\True)/\True):
  G3 prog 269 [.agg r.ts,.ref 0 0 0,.ref 1 0 0] [fF b,a5c g s] (.bool true) [fF (b||hitB r g s),a5c g s]:=
 C6 gN func269 Z3 [iQ] h
def b70:GK 269 c1b:=gk func269<|λx _=>c1j x.1 x.2.1 x.2.2.1 x.2.2.2 Z8
def c5R:Con:=.reff ⟨Sto×Int×Int×Int,λx=>[.bref x.1.ts,Ji x.2.1,.fn (.func 269) [.ref 0 0 0,.ref 1 0 0]],λx=>[fF false,a5c x.2.2.1 x.2.2.2],λ_=>.tup [],λx=>[fF (kepA x.1.L x.2.2.1 x.2.2.2 61 x.2.1),a5c x.2.2.1 x.2.2.2],λx=>rH x.1.L x.2.1⟩
def KpU(L:List Rec)(g s f:Int):Type:={x:Nat×Int×Bool//(x.2.2||kepA L g s x.1 x.2.1)=kepA L g s 61 f/\x.2.1<=(L.length:Int)/\x.2.1.toNat<x.1}
def c5N(t:Sto)(f g s:Int):Nat->Ann
 |0=>.one (KpU t.L g s f) (λx=>⟨[(0,.bref t.ts),(1,Ji x.1.2.1),(2,.fn (.func 269) [.ref 0 0 0,.ref 1 0 0])],[fF x.1.2.2,a5c g s]⟩) (λx=>x.1.1) iQ iQ (λ_=>Z3)
 |_=>.none
def c4i:GK 268 c5R:=gk func268<|by
 rintro⟨t,F,g,s⟩ ⟨L,o⟩;dsimp only at L o;have q:=L.1;refine C6 (gC b70 gN) func268 (c5N t F g s) [iQ] (α:=let b:=(0=0/\0=0);let w:=(m9 [some 0,some 1]);let u:=(T.bref t.ts);let z:=(1=1/\1=1/\g=g/\s=s/\True);let r:=(Fn.func 269=Fn.func 269/\b/\b/\True);(∃(x:KpU t.L g s F),(J7 w u u/\F=x.1.2.1/\r/\True)/\(1=1/\1=1/\false=x.1.2.2/\True)/\z/\True)/\∀(x:KpU t.L g s F),let a:=x.1.2;let j:=(a.1- (1:Int));let v:=((True/\True)/\(1=1/\1=1/\a.2=kepA t.L g s 61 F/\True)/\z/\True);let q:=(t.L.getD j.toNat dz);bd (a.1>(0:Int)) (Ri j/\W9 j t.L.length/\br (q.k==3) (∃(y:KpU t.L g s F),((J7 w u u/\q.n=y.1.2.1/\r/\True)/\(1=1/\1=1/\a.2=y.1.2.2/\True)/\z/\True)/\Lt y.1.1 x.1.1) (∃(X:(Rec×Int×Int×Bool)),let f:=(X.2.2.2||hitB X.1 X.2.1 X.2.2.1);let m:=(1=1/\1=1/\X.2.1=g/\X.2.2.1=s/\True);((q.k==2)=true->((EqR q X.1)/\b/\b/\True)/\((1=1/\Z7 1 (λ(x_2:Nat)=>[T.bool a.2]) λ(x:Nat)=>[T.bool X.2.2.2])/\(1=1/\Z7 1 (λ(x:Nat)=>[Ji g,Ji s]) λ(x:Nat)=>[Ji X.2.1,Ji X.2.2.1])/\True)/\True)/\((q.k==2)=true->br (q.k==2&&false) ((True/\True)/\(1=1/\1=1/\f=kepA t.L g s 61 F/\True)/\m/\True) (∃(y:KpU t.L g s F),((J7 w u u/\q.p=y.1.2.1/\r/\True)/\(1=1/\1=1/\f=y.1.2.2/\True)/\m/\True)/\Lt y.1.1 x.1.1))/\(((q.k==2)=true->False)->br (q.k==2&&false) v (∃(y:KpU t.L g s F),((J7 w u u/\q.p=y.1.2.1/\r/\True)/\(1=1/\1=1/\a.2=y.1.2.2/\True)/\z/\True)/\Lt y.1.1 x.1.1)))) v) ⟨⟨⟨(61,F,false),Bool.false_or _,o,X5⟩,⟨U0 _,Z8⟩,Z8⟩,λx=>?_⟩
 obtain⟨⟨f,a,b⟩,e,j,r⟩:=x;dsimp only at e j r ⊢;refine⟨λhc=>?_,λhc=>?_⟩
 ·have h0:a>0:=G7 hc;have h0':¬a<=0:=by omega
  obtain⟨C,A,v,z⟩:=L.prev (show 1<=a by omega) j
  obtain⟨f,rfl⟩:∃u,f=u+1:=⟨f-1,Z9⟩
  rw[c4y h0'] at e;refine⟨Z4 Z9,⟨Z9,Z9⟩,λd=>?_,λd=>?_⟩
  ·have d:(Y8 t.L a).k=3:=beq_iff_eq.1 d;rw[if_pos d] at e;exact⟨⟨(f,(Y8 t.L a).n,b),e,X5,X5⟩,⟨⟨U0 _,Z8⟩,Z8⟩,J8⟩
  ·have d:(Y8 t.L a).k≠3:=λh=>by
    have d:((Y8 t.L a).k==3)=false:=d;rw[h] at d;cases d
   rw[if_neg d] at e;refine⟨(Y8 t.L a,g,s,b),λ_=>Z8,λh2=>⟨λi=>?_,λ_=>?_⟩,λh2=>⟨λi=>?_,λ_=>?_⟩⟩
   ·rw[Bool.and_false] at i;cases i
   ·have h2:(Y8 t.L a).k=2:=beq_iff_eq.1 h2;have l:((b||hitB (Y8 t.L a) g s)||kepA t.L g s f (Y8 t.L a).p)=kepA t.L g s 61 F:=by
     rw[←e];unfold hitB;by_cases hg:(Y8 t.L a).g=g/\(Y8 t.L a).s=s
     ·rw[if_pos ⟨h2,hg⟩,hg.1,hg.2];simp
     ·rw[if_neg λh=>hg h.2]
      have:((Y8 t.L a).g==g&&(Y8 t.L a).s==s)=false:=by
       cases B:((Y8 t.L a).g==g&&(Y8 t.L a).s==s) with
       |false=>rfl
       |true=>
        simp only[J5,beq_iff_eq] at B;exact absurd B hg
      rw[this,Bool.or_false]
    exact⟨⟨(f,(Y8 t.L a).p,b||hitB (Y8 t.L a) g s),l,X5,X5⟩,⟨⟨U0 _,Z8⟩,Z8⟩,J8⟩
   ·rw[Bool.and_false] at i;cases i
   ·have h2:¬ (Y8 t.L a).k=2:=λh=>h2 (beq_iff_eq.2 h)
    rw[if_neg λh=>h2 h.1] at e
    exact⟨⟨(f,(Y8 t.L a).p,b),e,X5,X5⟩,⟨⟨U0 _,Z8⟩,Z8⟩,J8⟩
 ·have h0:a<=0:=by have:=r9 hc;omega
  rw[c4s h0,Bool.or_false] at e;exact⟨Z8,⟨rfl,rfl,e,Z6⟩,Z8⟩
def b8d:Con:=.rel ⟨Eng×Int×Int×Int,λx=>[.bref x.1.ts,Ji x.2.1,.agg [Ji x.2.2.1,Ji x.2.2.2]],λx=>.bool (lM x.1 x.2.1 x.2.2.1 x.2.2.2),λx=>wR x.1⟩
def b7e(e:Eng)(tx g s:Int):Nat->Ann
 |0=>.one (V5 e.X.length (oP e tx g s)) (λx=>⟨[(0,.bref e.ts),(1,Ji tx),(5,.ref 0 0 0),(13,tV e.X),(14,Ji e.X.length),(15,Ji x.1)],[a5c g s]⟩) (λx=>e.X.length-x.1) [.box 0] [.box 0] (λ_=>Z3)
 |_=>.none
def b3v:GK 184 b8d:=gk func184<|by
 rintro⟨e,tx,g,s⟩ ⟨hL,d,hb⟩;dsimp only at hL d hb;refine U5 (gC c4i gN) func184 (b7e e tx g s) (α:=let z:=(0=0/\0=0);let r:=(T.bref e.ts);let p:=(e.X.length:Int);(∃(x:V5 e.X.length (oP e tx g s)),(J7 (m9 [some 0]) r r/\tx=tx/\z/\(Z0 X2 e.X e.X)/\p=p/\0=(x.1:Int)/\True)/\(1=1/\1=1/\g=g/\s=s/\True)/\True)/\∀(x:V5 e.X.length (oP e tx g s)),let q:=(x.1:Int);let u:=(e.X.getD q.toNat dz);bd (q<p) (W9 q e.X.length/\∃(X:(Sto×Int×Int×Int)),(((yS e.s X.1)/\u.Z=X.2.1/\(Fn.func 269=Fn.func 269/\z/\z/\True)/\True)/\((1=1/\Z7 1 (setRow (λ(x:Nat)=>[T.bool false]) 0 0 [T.bool false]) λ(x:Nat)=>[T.bool false])/\(1=1/\Z7 1 (λ(x:Nat)=>[Ji g,Ji s]) λ(x:Nat)=>[Ji X.2.2.1,Ji X.2.2.2])/\True)/\rH X.1.L X.2.1)/\br (kepA X.1.L X.2.2.1 X.2.2.2 61 X.2.1&&u.id !=tx) (true=lM e tx g s) (Ri (q+1)/\∃(y:V5 e.X.length (oP e tx g s)),((J7 (m9 [some 0]) r r/\tx=tx/\z/\(Z0 X2 e.X e.X)/\p=p/\q+1=(y.1:Int)/\True)/\(1=1/\1=1/\X.2.2.1=g/\X.2.2.2=s/\True)/\True)/\Lt (e.X.length-y.1) (e.X.length-x.1))) (false=lM e tx g s)) ⟨⟨F4,⟨U0 _,Z8⟩,Z8⟩,λx=>⟨λhc=>?_,λhc=>?_⟩⟩
 ·have hlt:=Y2 hc;have hx:=hb x.1 hlt;rw[E3];have hkb:(kepA e.s.L g s 61 (e.X.getD x.1 dz).Z&&(e.X.getD x.1 dz).id !=tx)=oP e tx g s x.1:=Bool.and_comm _ _;refine⟨Y6 hlt,(e.s,(e.X.getD x.1 dz).Z,g,s),⟨⟨(jR _),Z8⟩,⟨⟨rfl,λi hi=>c0e⟩,Z8⟩,hL,hx⟩,λhq=>?_,λhq=>?_⟩
  ·exact(R9.2 ⟨x.1,hlt,hkb.symm.trans hq⟩).symm
  ·exact⟨W2 hlt Z9,x.succ hlt (hkb.symm.trans hq),⟨⟨U0 _,rfl,Z8,Z8,rfl,I9,Z6⟩,Z8⟩,V5.ext_lt hlt⟩
 ·have h:=Y0 hc;exact(P5.2 λj J=>x.2.2 j (xY J h)).symm
def c2e:Con:=.rel ⟨Bz×Int×Int,λx=>[.str x.1,Ji x.2.1,Ji x.2.2],λx=>.bool (a1K x.1 x.2.1 x.2.2),λx=>x.1.length<=1000⟩
def b6L:GK 183 c2e:=gk func183<|by
 rintro⟨b,ta,id⟩ (h:b.length<=1000);have I:=c6n (t:=b) Z9
 obtain⟨d,e⟩:=c5D b;refine U5 (gC a85 gN) func183 Z3 (α:=Lt b.length 140737488355329/\∃(x:a0v.ι),((b=x/\True)/\lI x)/\((zI x).2.2==(0:Int)&&(zI x).1==ta&&(zI x).2.1.id==id)=a1K b ta id) ⟨Q2,b,⟨Z8,by show b.length<=_;omega⟩,?_⟩
 unfold a1K;cases r:a0H b with
 |none=>
  rw[r] at I d;rw[I,d];rfl
 |some x=>
  rw[r] at I;rw[I,e x r];rfl
def plI(a b:Int):Option Ob:=some (.arr true 1000000 2 1 λ_=>[Ji a,Ji b])
def Eng.fy(e:Eng)(v:Nat)(A:Plc):X9:=[gO (e.tn 13 14 15 16 17 18 19 20),none,none,none,none,none,none,none,none,plI 0 0,plI 0 0,plI A.a A.b,plI A.c A.d,A1 e.s.d.E,D3 e.s.d.C,A0 e.s.d.keep,j6 e.s.L,xA v e.s.fr e.s.fr.length,sR e.X,yY e.lk.H,sU e.lk.W]
def sP(e:Eng)(tx ta id:Int):Nat->Nat
 |0=>0
 |n+1=>if(T2 e tx ta id n).2.2=true then P8 (T2 e tx ta id n).1 n (sP e tx ta id n) else sP e tx ta id n
def slI(a b:Int):Int:=if a<0 then 0 else b
def nV(A:Plc):Plc:=⟨A.a,slI A.a A.b,A.c,slI A.c A.d⟩
def q9(e:Eng)(tx ta id:Int):{y:(Eng×Nat)×Plc×Bool//y=((R7 e (T2 e tx ta id 8).1,sP e tx ta id 8),nV (T2 e tx ta id 8).2.1,(T2 e tx ta id 8).2.2)}:=Classical.choice ⟨⟨_,rfl⟩⟩
def c56:Con:=.reff ⟨Eng×Int×Int×Int,λx=>[.ref 0 0 0,Ji x.2.1,Ji x.2.2.1,Ji x.2.2.2],λx=>x.1.bx 0,λx=>.tup [.agg [Ji (q9 x.1 x.2.1 x.2.2.1 x.2.2.2).1.2.1.a,Ji (q9 x.1 x.2.1 x.2.2.1 x.2.2.2).1.2.1.b],.agg [Ji (q9 x.1 x.2.1 x.2.2.1 x.2.2.2).1.2.1.c,Ji (q9 x.1 x.2.1 x.2.2.1 x.2.2.2).1.2.1.d],.bool (q9 x.1 x.2.1 x.2.2.1 x.2.2.2).1.2.2],λx=>(q9 x.1 x.2.1 x.2.2.1 x.2.2.2).1.1.1.nx (q9 x.1 x.2.1 x.2.2.1 x.2.2.2).1.1.2,λx=>SI x.1.s/\wR x.1⟩
def c6G(tx ta id:Int)(F:Nat->Eng)(V:Nat->Nat)(A:Nat->Plc)(B:Nat->Bool)(X:Nat->Nat)(I:Nat->Nat->Plc):Nat->Ann
 |0=>.one (FdI B) (λx=>⟨[(0,.ref 0 0 0),(1,Ji tx),(2,Ji ta),(3,Ji id),(8,.ref 9 0 0),(9,.ref 10 0 0),(11,.ref 11 0 0),(12,.ref 12 0 0),(20,Ji x.1)],(F x.1).fy (V x.1) (A x.1)⟩) (λx=>8-x.1) a8R a8R (λx=>fun
  |1=>.one (Up 4) (λy=>⟨[(0,.ref 0 0 0),(1,Ji tx),(2,Ji ta),(3,Ji id),(8,.ref 9 0 0),(9,.ref 10 0 0),(11,.ref 11 0 0),(12,.ref 12 0 0),(13,Ji x.1),(20,Ji x.1),(36,.posl 17 (V (x.1+1)) (X x.1) 2 4),(37,Ji 4),(38,Ji y.1)],(F (x.1+1)).fy (V (x.1+1)) (I x.1 y.1)⟩) (λy=>4-y.1) a8R a8R (λ_=>Z3)
  |_=>.none)
 |_=>.none
def c72(e:Eng)(tx ta id:Int)(F:Nat->Eng)(V:Nat->Nat)(A:Nat->Plc)(B:Nat->Bool)(X:Nat->Nat)(I:Nat->Nat->Plc)(h:
let r:=(0=0/\0=0);let p:=(1=1/\1=1/\(0:Int)=0/\(0:Int)=0/\True);  (∃(x:FdI B),let pi:=(A x.1);(r/\tx=tx/\ta=ta/\id=id/\r/\r/\r/\r/\0=(x.1:Int)/\True)/\BxG e (F x.1)/\True/\True/\True/\True/\True/\True/\True/\True/\p/\p/\(1=1/\1=1/\(-1:Int)=pi.a/\0=pi.b/\True)/\(1=1/\1=1/\(-1:Int)=pi.c/\0=pi.d/\True)/\vF (0) (V x.1) e (F x.1))/\∀(x:FdI B),let q:=x.1;let pb:=((A q).c=(A 8).c/\(A q).d=(A 8).d/\True);let pa:=((A q).a=(A 8).a/\(A q).b=(A 8).b/\True);let n:=(V (q+1));let m:=(V (q+1)=V (q+1)/\X q=X q/\2=2/\4=4);let k:=((pa/\pb/\false=B 8/\True)/\True);let u:=(F (q+1));let ph:=(u.s.fr.getD (X q) dz);let l:=ph.pg.sl.getD;bd ((q:Int)<8) ((∃(f:(Sto×Nat×Nat)),let w:=(Y3 f.1 f.2.1);let pf:=(w.1.fr.getD w.2.1 dz).pg.sl.length;((r/\(q:Int)=(f.2.1:Int)/\True)/\(LnS (V q) (f.2.2) (F q).s f.1)/\iS f.1 f.2.1/\w.2.2=true)/\br false (k/\lO (P8 f.1 f.2.1 f.2.2) (V 8) {(F q) with s:=w.1} (F 8)) (Lt w.2.1 w.1.fr.length/\(∃(g:Up 4),let t:=(I x.1 g.val);(r/\tx=tx/\ta=ta/\id=id/\r/\r/\r/\r/\(q:Int)=(q:Int)/\(q:Int)=(q:Int)/\(P8 f.1 f.2.1 f.2.2=V (q+1)/\w.2.1=X q/\2=2/\pf=4)/\(↑pf:Int)=4/\0=(g.val:Int)/\True)/\BxG {(F q) with s:=w.1} u/\True/\True/\True/\True/\True/\True/\True/\True/\p/\p/\(1=1/\1=1/\(A q).a=t.a/\(A q).b=t.b/\True)/\(1=1/\1=1/\(A q).c=t.c/\(A q).d=t.d/\True)/\vF (P8 f.1 f.2.1 f.2.2) n {(F q) with s:=w.1} u)/\∀(g:Up 4),let v:=(g.val:Int);let z:=(I x.1 g.val);bd (v<4) (W9 v 4/\PfB n n (X q) u.s.fr.length v.toNat ph.pg.sl.length/\∃(j:(Bz×Int×Int)),(decide (z.a<0)=true->(l v.toNat []=j.1/\ta=j.2.1/\id=j.2.2/\True)/\j.1.length<=1000)/\br (decide (z.a<0)&&a1K j.1 j.2.1 j.2.2) (Ri (v+1)/\∃(y:Up 4),let pc:=(I x.1 y.1);((r/\tx=tx/\ta=ta/\id=id/\r/\r/\r/\r/\(q:Int)=(q:Int)/\(q:Int)=(q:Int)/\m/\(4:Int)=4/\v+1=(y.1:Int)/\True)/\BxG u u/\True/\True/\True/\True/\True/\True/\True/\True/\p/\p/\(1=1/\1=1/\(q:Int)=pc.a/\v=pc.b/\True)/\(1=1/\1=1/\z.c=pc.c/\z.d=pc.d/\True)/\vF n n u u)/\Lt (4-y.1) (4-g.val)) (∃(i:(Eng×Int×Int×Int)),((decide (z.c<0)&&l v.toNat []==[])=true->(LeG u)/\((oM u i.1)/\tx=i.2.1/\((q:Int)=i.2.2.1/\v=i.2.2.2/\True)/\True)/\wR i.1)/\br (decide (z.c<0)&&l v.toNat []==[]&& !lM i.1 i.2.1 i.2.2.1 i.2.2.2) (Ri (v+1)/\∃(y:Up 4),let pd:=(I x.1 y.1);((r/\tx=tx/\ta=ta/\id=id/\r/\r/\r/\r/\(q:Int)=(q:Int)/\(q:Int)=(q:Int)/\m/\(4:Int)=4/\v+1=(y.1:Int)/\True)/\BxG u u/\True/\True/\True/\True/\True/\True/\True/\True/\p/\p/\(1=1/\1=1/\z.a=pd.a/\z.b=pd.b/\True)/\(1=1/\1=1/\(q:Int)=pd.c/\v=pd.d/\True)/\vF n n u u)/\Lt (4-y.1) (4-g.val)) (Ri (v+1)/\∃(y:Up 4),let pe:=(I x.1 y.1);((r/\tx=tx/\ta=ta/\id=id/\r/\r/\r/\r/\(q:Int)=(q:Int)/\(q:Int)=(q:Int)/\m/\(4:Int)=4/\v+1=(y.1:Int)/\True)/\BxG u u/\True/\True/\True/\True/\True/\True/\True/\True/\p/\p/\(1=1/\1=1/\z.a=pe.a/\z.b=pe.b/\True)/\(1=1/\1=1/\z.c=pe.c/\z.d=pe.d/\True)/\vF n n u u)/\Lt (4-y.1) (4-g.val)))) (Ri ((q:Int)+1)/\∃(y:FdI B),let pj:=(A y.1);((r/\tx=tx/\ta=ta/\id=id/\r/\r/\r/\r/\(q:Int)+1=(y.1:Int)/\True)/\BxG u (F y.1)/\True/\True/\True/\True/\True/\True/\True/\True/\p/\p/\(1=1/\1=1/\z.a=pj.a/\z.b=pj.b/\True)/\(1=1/\1=1/\z.c=pj.c/\z.d=pj.d/\True)/\vF n (V y.1) u (F y.1))/\Lt (8-y.1) (8-q))))∨∃(f:(Sto×Nat×Nat)),((r/\(q:Int)=(f.2.1:Int)/\True)/\(LnS (V q) (f.2.2) (F q).s f.1)/\iS f.1 f.2.1/\(Y3 f.1 f.2.1).2.2=false)/\br true (k/\lO (P8 f.1 f.2.1 f.2.2) (V 8) {(F q) with s:=(Y3 f.1 f.2.1).1} (F 8)) False) (((pa/\pb/\true=B 8/\True)/\True)/\lO (V q) (V 8) (F q) (F 8))):
  G3 prog 96 [.ref 0 0 0,Ji tx,Ji ta,Ji id] (e.bx 0) (.tup [.agg [Ji (A 8).a,Ji (A 8).b],.agg [Ji (A 8).c,Ji (A 8).d],.bool (B 8)]) ((F 8).nx (V 8)):=
 C6 (gC lG (gC lH (gC b6L (gC b3v gN)))) func96 (c6G tx ta id F V A B X I) aW h
def c6y{e:Eng}{tx ta id:Int}{n:Nat}(h:(T2 e tx ta id n).2.2=true):sP e tx ta id (n+1)=P8 (T2 e tx ta id n).1 n (sP e tx ta id n):=by
 conv=>lhs;unfold sP
 rw[if_pos h]
def b0P{e:Eng}{tx ta id:Int}{n:Nat}(h:(T2 e tx ta id n).2.2=false):∀m,sP e tx ta id (n+m)=sP e tx ta id n
 |0=>rfl
 |m+1=>by
  have i:=b0P h m;show(if(T2 e tx ta id (n+m)).2.2=true then _ else sP e tx ta id (n+m))=_
  rw[a1a h m,if_neg cY]
  exact i
def c7x(ta id:Int):a1K [] ta id=false:=rfl
def c7m{A:Plc}{n i:Nat}:nV ⟨n,i,A.c,A.d⟩=⟨n,i,A.c,slI A.c A.d⟩:=by
 unfold nV slI;rw[if_neg (show ¬ ((n:Int)<0) by omega)]
def c7G{A:Plc}{n i:Nat}:nV ⟨A.a,A.b,n,i⟩=⟨A.a,slI A.a A.b,n,i⟩:=by
 unfold nV slI;rw[if_neg (show ¬ ((n:Int)<0) by omega)]
def c3B:GK 96 c56:=gk func96<|by
 rintro⟨e,tx,ta,id⟩ ⟨h,N⟩;dsimp only at h N;show G3 _ _ _ _ (.tup [.agg [Ji (q9 e tx ta id).1.2.1.a,Ji (q9 e tx ta id).1.2.1.b],.agg [Ji (q9 e tx ta id).1.2.1.c,Ji (q9 e tx ta id).1.2.1.d],.bool (q9 e tx ta id).1.2.2]) ((q9 e tx ta id).1.1.1.nx (q9 e tx ta id).1.1.2);rw[(q9 e tx ta id).2];refine c72 e tx ta id (λn=>R7 e (T2 e tx ta id n).1) (sP e tx ta id) (λn=>nV (T2 e tx ta id n).2.1) (λn=>(T2 e tx ta id n).2.2) (λn=>(Y3 (T2 e tx ta id n).1 n).2.1) (λn i=>nV (vI e tx ta id n (fpg e tx ta id n) (T2 e tx ta id n).2.1 i)) ⟨⟨⟨0,Z8⟩,Z8⟩,λx=>?_⟩
 obtain⟨n,B,hv⟩:=x;dsimp only at B hv ⊢;refine⟨λhc=>?_,λhc=>?_⟩
 ·have hlt:n<8:=by have:=G7 hc;omega
  obtain⟨q,J,U⟩:=(b4d h tx ta id n B).lv hv;have l:=c6y hv;cases u:(Y3 (T2 e tx ta id n).1 n).2.2 with
  |false=>
   have j:=c4B hv u;have z:=a1a (n:=n+1) lT (8- (n+1))
   have v:=b0P (n:=n+1) lT (8- (n+1))
   rw[show n+1+(8- (n+1))=8 by omega] at z v
   refine .inr ⟨((T2 e tx ta id n).1,n,sP e tx ta id n),⟨Z8,Z8,⟨q.iv,hlt⟩,u⟩,λ_=>?_,λF=>(by cases F)⟩
   rw[z,v,j,l];exact Z8
  |true=>
   have j:=c49 hv u;obtain⟨C,_,_,r,ps⟩:=xI q.iv hlt u;have f:(Y3 (T2 e tx ta id n).1 n).1.L=e.s.L:=(rR q hlt u).2.trans J;have t:wR (R7 e (Y3 (T2 e tx ta id n).1 n).1):=by
    refine⟨?_,N.2.1,?_⟩
    ·show xH (Y3 (T2 e tx ta id n).1 n).1.L;rw[f];exact N.1
    ·show ∀i,i<e.X.length->(e.X.getD i dz).Z<=((Y3 (T2 e tx ta id n).1 n).1.L.length:Int);rw[f];exact N.2.2
   have hK:=λg sl=>b0n f tx g sl
   have r:(fpg e tx ta id n).sl.length=4:=r;have ps:∀i,i<4->((fpg e tx ta id n).sl.getD i []).length<=30:=λi hi=>ps i (by show i<(fpg e tx ta id n).sl.length;omega)
   have hp:((Y3 (T2 e tx ta id n).1 n).1.fr.getD (Y3 (T2 e tx ta id n).1 n).2.1 dz).pg=fpg e tx ta id n:=rfl;have O:=b7P e tx ta id n (fpg e tx ta id n) (T2 e tx ta id n).2.1;have o:vI e tx ta id n (fpg e tx ta id n) (T2 e tx ta id n).2.1 0=(T2 e tx ta id n).2.1:=rfl;refine .inl ⟨((T2 e tx ta id n).1,n,sP e tx ta id n),⟨Z8,Z8,⟨q.iv,hlt⟩,u⟩,λF=>(by cases F),λ_=>?_⟩
   rw[j,l];have R:(T2 e tx ta id (n+1)).2.2=true:=lT
   have M:(T2 e tx ta id (n+1)).2.1=vI e tx ta id n (fpg e tx ta id n) (T2 e tx ta id n).2.1 4:=lT
   have hF:(T2 e tx ta id (n+1)).1=(Y3 (T2 e tx ta id n).1 n).1:=lT
   clear j;dsimp only;have L:(((R7 e (Y3 (T2 e tx ta id n).1 n).1).s.fr.getD (Y3 (T2 e tx ta id n).1 n).2.1 dz).pg)=fpg e tx ta id n:=rfl;rw[L,hp];generalize fpg e tx ta id n=p at*;generalize (T2 e tx ta id n).2.1=A at*;generalize vI e tx ta id n p A=I at*;refine⟨C,⟨⟨0,N4 _⟩,⟨Z8,rfl,rfl,rfl,Z8,Z8,Z8,Z8,rfl,rfl,⟨rfl,rfl,rfl,r⟩,Z9,Z8⟩,Z8,Z6,Z6,Z6,Z6,Z6,Z6,Z6,Z6,Z8,Z8,⟨rfl,rfl,by rw[o],by rw[o],Z6⟩,⟨rfl,rfl,by rw[o],by rw[o],Z6⟩,⟨rfl,X6 _ _⟩,⟨rfl,X6 _ _⟩,⟨rfl,X6 _ _⟩,⟨rfl,X6 _ _⟩,⟨rfl,rfl,mU _⟩,⟨rfl,X6 _ _⟩,⟨rfl,X6 _ _⟩,⟨rfl,X6 _ _⟩,Z6⟩,λy=>?_⟩
   obtain⟨i,hi⟩:=y;dsimp only at hi ⊢;refine⟨λhc2=>?_,λhc2=>?_⟩
   ·have hit:i<4:=by have:=G7 hc2;omega
    have hIi:=O i;have Q:=ps i hit;rw[E3];refine⟨⟨Z9,Z9⟩,⟨rfl,C,Z9⟩,(p.sl.getD i [],ta,id),λ_=>⟨Z8,X5⟩,λhq=>?_,λhq=>⟨(R7 e (Y3 (T2 e tx ta id n).1 n).1,tx,n,i),λ_=>⟨Z8,Z8,t⟩,λhr=>?_,λhr=>?_⟩⟩
    ·simp only[J5,o8] at hq;have hz:¬p.sl.getD i []=[]:=λhz=>by
      have:=hq.2;rw[hz,c7x] at this;cases this
     rw[if_neg hz,if_pos ⟨hq.2,hq.1⟩] at hIi;have e1:nV (I (i+1))=⟨n,i,(I i).c,slI (I i).c (I i).d⟩:=by rw[hIi];exact c7m
     exact⟨Z4 Z9,⟨i+1,hit⟩,⟨⟨Z8,rfl,rfl,rfl,Z8,Z8,Z8,Z8,rfl,rfl,Z8,rfl,X5,Z6⟩,Z8,Z6,Z6,Z6,Z6,Z6,Z6,Z6,Z6,Z8,Z8,⟨rfl,rfl,jT,jT,Z6⟩,⟨rfl,rfl,by rw[e1];rfl,by rw[e1];rfl,Z6⟩,⟨rfl,X6 _ _⟩,⟨rfl,X6 _ _⟩,⟨rfl,X6 _ _⟩,⟨rfl,X6 _ _⟩,⟨rfl,rfl,mU _⟩,⟨rfl,X6 _ _⟩,⟨rfl,X6 _ _⟩,⟨rfl,X6 _ _⟩,Z6⟩,J8⟩
    ·dsimp only at hr;rw[hK] at hr;simp only[J5,o8,vZ,beq_iff_eq] at hr;rw[if_pos hr.1.2,if_pos ⟨hr.1.1,hr.2⟩] at hIi;have e1:nV (I (i+1))=⟨(I i).a,slI (I i).a (I i).b,n,i⟩:=by rw[hIi];exact c7G
     exact⟨Z4 Z9,⟨i+1,hit⟩,⟨⟨Z8,rfl,rfl,rfl,Z8,Z8,Z8,Z8,rfl,rfl,Z8,rfl,X5,Z6⟩,Z8,Z6,Z6,Z6,Z6,Z6,Z6,Z6,Z6,Z8,Z8,⟨rfl,rfl,by rw[e1];rfl,by rw[e1];rfl,Z6⟩,⟨rfl,rfl,jT,jT,Z6⟩,⟨rfl,X6 _ _⟩,⟨rfl,X6 _ _⟩,⟨rfl,X6 _ _⟩,⟨rfl,X6 _ _⟩,⟨rfl,rfl,mU _⟩,⟨rfl,X6 _ _⟩,⟨rfl,X6 _ _⟩,⟨rfl,X6 _ _⟩,Z6⟩,J8⟩
    ·dsimp only at hr;rw[hK] at hr;have e1:I (i+1)=I i:=by
      rw[hIi];split
      ·rename_i hz;rw[if_neg];rintro⟨a1,a2⟩;rw[hz,mO (show(nV (I i)).c<0 from a1),a2] at hr
       cases hr
      ·rw[if_neg];rintro⟨a1,a2⟩;rw[a1,mO (show(nV (I i)).a<0 from a2)] at hq
       cases hq
     exact⟨Z4 Z9,⟨i+1,hit⟩,⟨⟨Z8,rfl,rfl,rfl,Z8,Z8,Z8,Z8,rfl,rfl,Z8,rfl,X5,Z6⟩,Z8,Z6,Z6,Z6,Z6,Z6,Z6,Z6,Z6,Z8,Z8,⟨rfl,rfl,jT,jT,Z6⟩,⟨rfl,rfl,jT,jT,Z6⟩,Z8⟩,J8⟩
   ·obtain rfl:i=4:=by have:=r9 hc2;omega
    refine⟨Z4 Z9,⟨n+1,hlt,R⟩,?_,J8⟩
    dsimp only;rw[M,hF,l];exact⟨⟨Z8,rfl,rfl,rfl,Z8,Z8,Z8,Z8,Z9,Z6⟩,Z8⟩
 ·obtain rfl:n=8:=by have:=r9 hc;omega
  exact⟨⟨⟨Z8,Z8,hv.symm,Z6⟩,Z6⟩,Z8⟩
def c1R:Con:=.rel ⟨List Val,λL=>[b4D L],λL=>.bys (Q7 L L.length),λL=>L.length<=100/\∀i,i<L.length->jA (L.getD i dz)⟩
def c2N(L:List Val):Nat->Ann
 |0=>.one (Up L.length) (λx=>⟨[(3,.osl 0 0 (Q7 L x.1).length),(7,b4D L),(8,Ji L.length),(9,Ji x.1)],[some (.bys 5 (Q7 L x.1))]⟩) (λx=>L.length-x.1) [.at_ 3] [.at_ 3] (λ_=>Z3)
 |_=>.none
def c6M:Con:=.rel ⟨Int,λn=>[Ji n],λn=>.agg [Ji 1,Ji n,.str []],λ_=>True⟩
def c5V(n:Int)(h:
  (1:Int)=1/\n=n/\([]:Bz)=[]/\True):
  V4 prog 205 [Ji n] (.agg [Ji 1,Ji n,.str []]):=
 U5 gN func205 Z3 h
def c3U:GK 205 c6M:=gk func205<|λn _=>c5V n Z8
def b8W:GK 204 c1R:=gk func204<|by
 rintro(L:List Val) ⟨hL,hk⟩;refine U5 (gC a2S gN) func204 (c2N L) (α:=let f:=(Z0 Q1 L L);let z:=(L.length:Int);(∃(x:Up L.length),((0=0/\0=(Q7 L x.1).length)/\f/\z=z/\0=(x.1:Int)/\True)/\List.map R1 []=Q7 L x.1/\True)/\∀(x:Up L.length),let j:=(L.length-x.1);let w:=(Q7 L x.1);let u:=(x.1:Int);let r:=w.length;let q:=(L.getD u.toNat dz);let m:=(r+1+q.t.length);let v:=(List.drop 0 (List.map R1 [IntKind.u8.wrap (q.k+1)]));let p:=(List.take r w++List.take 1 v);let g:=(List.take (r+1) p++q.t);bd (u<z) (W9 u L.length/\Ri (q.k+1)/\R2 IntKind.u8 (IntKind.u8.wrap (q.k+1))/\(Le 1 1/\Le r r/\U8 r 1 1)/\br (q.k==1) (Ri (q.n+1000000000)/\∃(X:Nat),((q.n+1000000000=(X:Int)/\True)/\X<4294967296)/\(Le (r+1) p.length/\U8 (r+1) 4 1)/\Ri (u+1)/\∃(y:Up L.length),(((0=0/\r+1+4=(Q7 L y.1).length)/\f/\z=z/\u+1=(y.1:Int)/\True)/\List.take (r+1) p++z8 X=Q7 L y.1/\True)/\Lt (L.length-y.1) j) (br (q.k==2) ((Le (r+1) p.length/\U8 (r+1) q.t.length 1)/\R2 IntKind.u8 (0:Int)/\(Le 1 1/\Le m g.length/\U8 m 1 1)/\Ri (u+1)/\∃(y:Up L.length),(((0=0/\r+1+q.t.length+1=(Q7 L y.1).length)/\f/\z=z/\u+1=(y.1:Int)/\True)/\List.take m g++List.take 1 (List.drop 0 (List.map R1 [(0:Int)]))=Q7 L y.1/\True)/\Lt (L.length-y.1) j) (Ri (u+1)/\∃(y:Up L.length),(((0=0/\r+1=(Q7 L y.1).length)/\f/\z=z/\u+1=(y.1:Int)/\True)/\List.take r w++List.take 1 v=Q7 L y.1/\True)/\Lt (L.length-y.1) j))) (Le (0+r) r/\List.take r (List.drop 0 w)=Q7 L L.length)) ⟨⟨⟨0,N4 _⟩,Z8⟩,λx=>⟨λhc=>?_,λhc=>?_⟩⟩
 ·have hlt:=Y2 hc;have h1:=eL hk x.1 Z9
  have hv:=hk x.1 hlt;have u:=gP hv;rw[E3];have i:Q7 L (x.1+1)=Q7 L x.1++m7 (L.getD x.1 dz):=rfl;generalize L.getD x.1 dz=v at*;obtain⟨z,h3⟩:=hv;have e:v.k=0∨v.k=1∨v.k=2:=by
   rcases h3 with h|h|h
   ·exact .inl h
   ·exact .inr (.inl h.1)
   ·exact .inr (.inr h)
  have r:R2 IntKind.u8 (IntKind.u8.wrap (v.k+1)):=by
   rcases e with h|h|h<;>rw[h]<;>exact(pI _).2 ⟨M4,M4⟩
  have o:List.take (Q7 L x.1).length (Q7 L x.1)++List.take 1 (List.drop 0 (List.map R1 [IntKind.u8.wrap (v.k+(1:Int))]))=Q7 L x.1++[R1 (IntKind.u8.wrap (v.k+1))]:=by rw[j_l];rfl
  rw[o];generalize A:Q7 L x.1=B at*;have j:List.take (B.length+1) (B++[R1 (IntKind.u8.wrap (v.k+1))])=B++[R1 (IntKind.u8.wrap (v.k+1))]:=List.take_of_length_le W7
  refine⟨Y6 hlt,Z4 Z9,r,⟨U9 _,U9 _,R0⟩,λhq=>?_,λhq=>⟨λd=>?_,λd=>?_⟩⟩
  ·have hq:v.k=1:=beq_iff_eq.1 hq;have hn:=(h3.resolve_left Z9).resolve_right Z9
   have g:m7 v=R1 (IntKind.u8.wrap (v.k+1))::z8 (v.n+1000000000).toNat:=by
    unfold m7;rw[if_neg Z9,if_pos hq,hq]
    rfl
   have f:Q7 L (x.1+1)=(B++[R1 (IntKind.u8.wrap (v.k+1))])++z8 (v.n+1000000000).toNat:=by rw[i,g,List.append_assoc];rfl
   refine⟨Z4 Z9,(v.n+1000000000).toNat,⟨⟨Z9,Z6⟩,Z9⟩,⟨by unfold Le;simp,R0⟩,Z4 Z9,⟨x.1+1,hlt⟩,⟨⟨⟨rfl,?_⟩,⟨rfl,X6 _ _⟩,rfl,X5,Z6⟩,by dsimp only;rw[f,j],Z6⟩,V5.ext_lt hlt⟩
   dsimp only;rw[f,F9,F9,List.length_singleton];rfl
  ·have d:v.k=2:=beq_iff_eq.1 d;have g:m7 v=R1 (IntKind.u8.wrap (v.k+1))::(v.t++[0]):=by
    unfold m7;rw[if_neg Z9,if_neg Z9,d]
    rfl
   have f:Q7 L (x.1+1)=((B++[R1 (IntKind.u8.wrap (v.k+1))])++v.t)++[0]:=by rw[i,g];simp
   have q:List.take (B.length+1+v.t.length) ((B++[R1 (IntKind.u8.wrap (v.k+1))])++v.t)=(B++[R1 (IntKind.u8.wrap (v.k+1))])++v.t:=List.take_of_length_le C7
   refine⟨⟨by unfold Le;simp,R0⟩,(pI _).2 ⟨M4,M4⟩,⟨U9 _,by rw[j];unfold Le;simp;omega,R0⟩,Z4 Z9,⟨x.1+1,hlt⟩,⟨⟨⟨rfl,?_⟩,⟨rfl,X6 _ _⟩,rfl,X5,Z6⟩,by dsimp only;rw[f,j,q];rfl,Z6⟩,V5.ext_lt hlt⟩
   dsimp only;rw[f];simp;omega
  ·have l:v.k=0:=by
    rcases e with h|h|h
    ·exact h
    ·rw[h] at hq;cases hq
    ·rw[h] at d;cases d
   have g:m7 v=[R1 (IntKind.u8.wrap (v.k+1))]:=by
    unfold m7;rw[if_pos l,l];rfl
   have f:Q7 L (x.1+1)=B++[R1 (IntKind.u8.wrap (v.k+1))]:=by rw[i,g]
   refine⟨Z4 Z9,⟨x.1+1,hlt⟩,⟨⟨⟨rfl,?_⟩,Z8,rfl,X5,Z6⟩,by dsimp only;rw[f],Z6⟩,V5.ext_lt hlt⟩
   dsimp only;rw[f,F9,List.length_singleton]
 ·have hx:x.1=L.length:=by have:=x.2;have:=Y0 hc;omega
  rw[hx];exact⟨K0,cI⟩
def c1D:Con:=.rel ⟨Int×Rw,λx=>[Ji x.1,.agg x.2.ts],λx=>.bys (sW x.1 x.2),λx=>RwK x.2/\1<=x.1/\x.1<=3⟩
def b8u:GK 117 c1D:=gk func117<|by
 rintro⟨ta,r⟩ ⟨⟨e,h,l,g⟩,j,f⟩;dsimp only at e h l g j f;refine U5 (gC c3U (gC b8W (gC P6 gN))) func117 Z3 (α:=∃(x:Int),((ta=x/\True)/\True)/\∃(d:Int),((r.id=d/\True)/\True)/\∃(X:(List Val)),(((4=X.length/\Z7 4 (λ(k:Nat)=>List.take 3 (List.drop (k*3) [Ji 1,Ji x,T.str [],Ji 1,Ji d,T.str [],Ji r.n.k,Ji r.n.n,T.str r.n.t,Ji r.name.k,Ji r.name.n,T.str r.name.t])) (Q1 X))/\True)/\X.length<=100/\∀(i:Nat),i<X.length->jA (List.getD X i dz))/\Q7 X (X.length)=sW ta r) ⟨ta,Z8,r.id,Z8,[⟨1,ta,[]⟩,⟨1,r.id,[]⟩,r.n,r.name],⟨⟨⟨rfl,λi hi=>?_⟩,Z6⟩,by show 4<=100;omega,λi hi=>?_⟩,rfl⟩
 ·match i,hi with
  |0,_=>rfl
  |1,_=>rfl
  |2,_=>rfl
  |3,_=>rfl
 ·match i,hi with
  |0,_=>exact⟨a9P,.inr (.inl ⟨rfl,by show-1000000000<=ta;omega,by show ta<=_;omega⟩)⟩
  |1,_=>exact⟨a9P,.inr (.inl ⟨rfl,by show-1000000000<=r.id;omega,by show r.id<=_;omega⟩)⟩
  |2,_=>exact e
  |3,_=>exact h
def c75{a:Int}(h:(a !=0)=true):¬a=0:=x5
def c2o{a:Int}(h:(a !=0)=false):a=0:=x5
def zC(e:Eng)(k:Nat)(ta tm id rm:Int):(Eng×Nat)×Int:=
 if(R4 e k ta (-1) tm).2=0 then(((R4 (R4 e k ta (-1) tm).1 k ta id rm).1,uZ (R4 e k ta (-1) tm).1 k ta id rm),(R4 (R4 e k ta (-1) tm).1 k ta id rm).2)
 else(((R4 e k ta (-1) tm).1,uZ e k ta (-1) tm),(R4 e k ta (-1) tm).2)
def zS(e:Eng)(tx ta tm id rm:Int):(Eng×Nat)×Int:=if(G5 e tx).2=0 then zC e (G5 e tx).1.toNat ta tm id rm else((e,0),(G5 e tx).2)
def b7A{e:Eng}{k:Nat}{ta row mo:Int}(h:(R4 e k ta row mo).2=0):uZ e k ta row mo=0:=by
 unfold uZ;rw[if_neg];intro d;unfold R4 at h;rw[if_pos d] at h;dsimp only at h;split at h<;>cases h
def c46{e:Eng}{k:Nat}{ta tm id rm:Int}(h:(zC e k ta tm id rm).2=0):zC e k ta tm id rm=((pE (pE e k ta (-1) tm) k ta id rm,0),0):=by
 unfold zC at h ⊢;split at h
 ·rename_i d;have f:=a0m d;rw[if_pos d,f];rw[f] at h;dsimp only at h ⊢;rw[a0m h,b7A h]
 ·rename_i d;exact absurd h d
def b9i:Con:=.reff ⟨Eng×Int×Int×Int×Int×Int,λx=>[.ref 0 0 0,Ji x.2.1,Ji x.2.2.1,Ji x.2.2.2.1,Ji x.2.2.2.2.1,Ji x.2.2.2.2.2],λx=>x.1.bx 0,λx=>Ji (zS x.1 x.2.1 x.2.2.1 x.2.2.2.1 x.2.2.2.2.1 x.2.2.2.2.2).2,λx=>(zS x.1 x.2.1 x.2.2.1 x.2.2.2.1 x.2.2.2.2.1 x.2.2.2.2.2).1.1.nx (zS x.1 x.2.1 x.2.2.1 x.2.2.2.1 x.2.2.2.2.1 x.2.2.2.2.2).1.2,λx=>R3 x.1=true/\M7 x.1⟩
def a7t{e:Eng}{tx ta tm id rm:Int}(h:¬ (G5 e tx).2=0):zS e tx ta tm id rm=((e,0),(G5 e tx).2):=if_neg h
def a2j{e:Eng}{tx ta tm id rm:Int}{k:Nat}(h:(G5 e tx).2=0)(d:(G5 e tx).1=k):zS e tx ta tm id rm=zC e k ta tm id rm:=by
 unfold zS;rw[if_pos h,d,E3]
def b2r:GK 95 b9i:=gk func95<|by
 rintro⟨e,tx,ta,tm,id,rm⟩ ⟨ho,hm⟩;dsimp only at ho hm;have h:=(xG (u4 ho).2.1).1;refine C6 (gC b1v (gC b5R gN)) func95 Z3 aW (α:=let p:=(zS e tx ta tm id rm);∃(x:(Eng×Int)),((LeG e)/\((oM e x.1)/\tx=x.2/\True)/\L9 x.1.X.length)/\br ((G5 x.1 x.2).2 !=0) (((G5 x.1 x.2).2=p.2/\True)/\lO (0) (p.1.2) e p.1.1) (∃(x:(Eng×Nat×Int×Int×Int×Int)),let r:=x.2.2.2;let u:=(uZ x.1 x.2.1 x.2.2.1 r.1 r.2.1);let q:=(R4 x.1 x.2.1 x.2.2.1 r.1 r.2.1);(((0=0/\0=0)/\tx=r.2.2/\ta=x.2.2.1/\(-1:Int)=r.1/\tm=r.2.1/\True)/\(iM (0) (0) e x.1)/\XI x.1 x.2.1 r.2.2)/\br (q.2 !=0) ((q.2=p.2/\True)/\lO u (p.1.2) q.1 p.1.1) (∃(X:(Eng×Nat×Int×Int×Int×Int)),let z:=(R4 X.1 X.2.1 X.2.2.1 X.2.2.2.1 X.2.2.2.2.1);(((0=0/\0=0)/\tx=X.2.2.2.2.2/\ta=X.2.2.1/\id=X.2.2.2.1/\rm=X.2.2.2.2.1/\True)/\(iM u (0) q.1 X.1)/\XI X.1 X.2.1 X.2.2.2.2.2)/\(z.2=p.2/\True)/\lO (uZ X.1 X.2.1 X.2.2.1 X.2.2.2.1 X.2.2.2.2.1) (p.1.2) z.1 p.1.1))) ⟨(e,tx),⟨Z8,Z8,rU⟩,λhq=>?_,λhq=>?_⟩
 ·rw[a7t (b1g hq)];exact Z8
 ·obtain⟨hu,k,e1,hk,hi,ha⟩:=a1E (a3n hq);have hX:=b0w ho hm hu ha hk hi;rw[a2j (a3n hq) e1];refine⟨(e,k,ta,-1,tm,tx),⟨Z8,Z8,hX⟩,λhq=>?_,λhq=>?_⟩
  ·have d:zC e k ta tm id rm=(((R4 e k ta (-1) tm).1,uZ e k ta (-1) tm),(R4 e k ta (-1) tm).2):=if_neg (b1g hq);rw[d];exact Z8
  ·have hq:=a3n hq;have d:zC e k ta tm id rm=(((R4 (R4 e k ta (-1) tm).1 k ta id rm).1,uZ (R4 e k ta (-1) tm).1 k ta id rm),(R4 (R4 e k ta (-1) tm).1 k ta id rm).2):=if_pos hq;have f:=a0m hq;have g:=b7A hq;rw[d];dsimp only;rw[f,g];exact⟨(pE e k ta (-1) tm,k,ta,id,rm,tx),⟨Z8,Z8,sJ hX ta (-1) tm⟩,Z8⟩
end
end Go.Proofs.YtpdnnhnfongoeaaGreat
