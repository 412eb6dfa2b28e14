/- A part of the proof. -/
import Derived.Test.YtcobnbfhkpbokaaGreatV1e
import Derived.Test.YtcobnbfhkpbokaaGreatU1
namespace Go.Proofs.YtcobnbfhkpbokaaGreat
set_option maxRecDepth 100000
open Go.SS Go.Proofs.Tryz
noncomputable section
def b2U(W:List Wt)(R:List Int):Nat:=(W.filter λw=> !R.contains w.fo).length
theorem a4T{α:Type}{p q:α->Bool}(h:∀b,q b=true->p b=true):∀L:List α,(L.filter q).length<=(L.filter p).length
 | []=>U9 _
 |b::L=>by
  have i:=a4T h L;cases Q:q b with
  |true=>rw[List.filter_cons_of_pos Q,List.filter_cons_of_pos (h b Q)];simp only[List.length_cons];omega
  |false=>
   rw[List.filter_cons_of_neg (by rw[Q];simp)]
   cases hp:p b with
   |true=>rw[List.filter_cons_of_pos hp];simp only[List.length_cons];omega
   |false=>rw[List.filter_cons_of_neg (by rw[hp];simp)];exact i
theorem a3u{α:Type}{p q:α->Bool}(h:∀b,q b=true->p b=true){a:α}(hp:p a=true)(hq:q a=false):∀L:List α,a ∈ L->(L.filter q).length+1<=(L.filter p).length
 |b::L,ha=>by
  have M:=a4T h L;by_cases e:b=a
  ·subst e;rw[List.filter_cons_of_pos hp,List.filter_cons_of_neg (by rw[hq];simp)]
   simp only[List.length_cons];omega
  ·have ih:=a3u h hp hq L ((vT.1 ha).resolve_left λe'=>e e'.symm)
   cases B:q b with
   |true=>rw[List.filter_cons_of_pos B,List.filter_cons_of_pos (h b B)];simp only[List.length_cons];omega
   |false=>
    rw[List.filter_cons_of_neg (by rw[B];simp)]
    cases d:p b with
    |true=>rw[List.filter_cons_of_pos d];simp only[List.length_cons];omega
    |false=>rw[List.filter_cons_of_neg (by rw[d];simp)];exact ih
theorem b8q{Q:List Int}{a:Int}(h:anyI Q.length (thr Q a)=false):a ∉ Q:=λM=>by
 obtain⟨i,hi,e⟩:=List.getElem_of_mem M;have:=P8.1 h i hi;unfold thr at this;rw[Q8,I9 hi,e,Option.getD_some] at this
 simp at this
theorem c0J{W:List Wt}{Q:List Int}{k:Nat}(d:k<W.length)(h:anyI Q.length (thr Q (W.getD k dz).fo)=false):b2U W (Q++[(W.getD k dz).fo])+1<=b2U W Q:=by
 have M:=b8q h;refine a3u (λb B=>?_) (a:=W.getD k dz) ?_ ?_ W (yI d)
 ·simp only[wG,List.contains_eq_mem,qW,List.mem_append,not_or] at B ⊢;exact B.1
 ·simp only[wG,List.contains_eq_mem,qW];exact M
 ·simp
theorem a4J{W:List Wt}{tx a:Int}{R Q:List Int}{k:Nat}(h:scn W tx a R k=some Q):scn W tx a R (k+1)=if(W.getD k dz).tx=a then(if(W.getD k dz).fo=tx then none else if anyI Q.length (thr Q (W.getD k dz).fo)=true then some Q else some (Q++[(W.getD k dz).fo])) else some Q:=by
 conv=>lhs;unfold scn
 rw[h]
theorem dY{W:List Wt}{tx a:Int}{R:List Int}{k:Nat}(h:scn W tx a R k=none):∀d,scn W tx a R (k+d)=none
 |0=>h
 |d+1=>by
  show scn W tx a R ((k+d)+1)=none;conv=>lhs;unfold scn
  rw[dY h d]
theorem b6f{W:List Wt}{tx a:Int}{R:List Int}:∀k Q,k<=W.length->scn W tx a R k=some Q->(∀i,i<R.length->Q.getD i 0=R.getD i 0)/\R.length<=Q.length/\b2U W Q+Q.length<=b2U W R+R.length
 |0,Q,_,h=>by
  unfold scn at h;cases h;exact Z8
 |k+1,Q,hk,h=>by
  cases d:scn W tx a R k with
  |none=>have:=dY d 1;rw[this] at h;cases h
  |some Q0=>
   obtain⟨I,f,e⟩:=b6f k Q0 Z9 d
   rw[a4J d] at h;split at h
   ·split at h
    ·cases h
    ·split at h
     ·cases h;exact⟨I,f,e⟩
     ·rename_i ha;cases h;have:=c0J (W:=W) (k:=k) Z9 pV
      refine⟨λi hi=>?_,E3,by simp only[J6,List.length_singleton];omega⟩
      rw[←I i hi,Q8,tI Z9,←Q8]
   ·cases h;exact⟨I,f,e⟩
theorem c7i{W:List Wt}{tx:Int}{f i:Nat}{R:List Int}(hi:i<R.length):a4c W tx (f+1) i R=match scn W tx (R.getD i 0) R W.length with|none=>true|some Q=>a4c W tx f (i+1) Q:=by
 conv=>lhs;unfold a4c
 exact(if_pos hi).trans (by cases scn W tx (R.getD i 0) R W.length<;>rfl)
theorem c7c{W:List Wt}{tx:Int}{f i:Nat}{R:List Int}(hi:¬i<R.length):a4c W tx f i R=false:=by
 cases f with
 |zero=>rfl
 |succ f=>unfold a4c;rw[if_neg hi]
theorem c6A{L:List Lck}{x:Lck}{i:Nat}:M7 L x (i+1)=if clash (L.getD i dz) x=true then(if anyI (M7 L x i).length (c0V (M7 L x i) ⟨x.tx,(L.getD i dz).tx⟩)=true then M7 L x i else M7 L x i++[⟨x.tx,(L.getD i dz).tx⟩]) else M7 L x i:=rfl
theorem c2K(L M:List Wt):Z7 (L.length+M.length) (X6 (X8 L) L.length (X8 M)) (X8 (L++M)):=by
 intro i hi;unfold X6 X8;by_cases h:i<L.length
 ·rw[sN h];dsimp only;rw[Q8,Q8,tI h]
 ·rw[mT h];dsimp only;rw[Q8,Q8,tD Z9]
def K5(L:List Val):Nat->Bz
 |0=>[]
 |i+1=>K5 L i++zP (L.getD i dz)
def a1b(v:Val):Prop:=v.t.length<=100/\(v.k=0∨(v.k=1/\ -1000000000<=v.n/\v.n<=1000000000)∨v.k=2)
def RwK(r:Rw):Prop:=a1b r.n/\a1b r.name/\0<=r.id/\r.id<=1000
theorem a22{v:Val}(h:a1b v):(zP v).length<=102:=by
 unfold zP;split
 ·exact yQ rfl
 ·split
  ·exact yQ rfl
  ·have:=h.1;simp only[List.length_cons,J6,List.length_nil];omega
theorem a35{L:List Val}(h:∀i,i<L.length->a1b (L.getD i dz)):∀i,i<=L.length->(K5 L i).length<=102*i
 |0,_=>U9 _
 |i+1,hi=>by
  have d:=a35 h i Z9
  have e:=a22 (h i Z9)
  simp only[K5,J6];omega
theorem EI.u{e:Eng}(h:EI e){k:Nat}(d:k<e.X.length):UI e k (e.X.getD k dz).id (e.X.getD k dz).Z:=fA h.ok h.sm h.up (h.h.at_ d) d rfl
theorem c56{L:List Rec}{g s:Int}{f:Nat}{a:Int}(h:¬a<=0):kepA L g s (f+1) a=if(Z4 L a).k=3 then kepA L g s f (Z4 L a).n else if(Z4 L a).k=2/\(Z4 L a).g=g/\(Z4 L a).s=s then true else kepA L g s f (Z4 L a).p:=by
 conv=>lhs;unfold kepA
 rw[if_neg h]
theorem c5X{L:List Rec}{g s:Int}{f:Nat}{a:Int}(h:a<=0):kepA L g s f a=false:=by
 cases f with
 |zero=>rfl
 |succ f=>unfold kepA;rw[if_pos h]
def Plc.ts(A:Plc):List T:=[Ji A.a,Ji A.b,Ji A.c,Ji A.d]
def fpg(e:Eng)(tx ta id:Int)(n:Nat):Pg:=((Y7 (Q6 e tx ta id n).1 n).1.fr.getD (Y7 (Q6 e tx ta id n).1 n).2.1 dz).pg
theorem b9W{e:Eng}{s:Sto}(h:s.L=e.s.L)(tx g sl:Int):a05 (K1 e s) tx g sl=a05 e tx g sl:=by
 unfold a05 a7h K1;dsimp only;rw[h]
theorem c4a(e:Eng)(tx ta id:Int)(n:Nat)(p:Pg)(A:Plc)(i:Nat):vE e tx ta id n p A (i+1)=if p.sl.getD i []=[] then(if(vE e tx ta id n p A i).c<0/\a05 e tx n i=false then⟨(vE e tx ta id n p A i).a,(vE e tx ta id n p A i).b,n,i⟩ else vE e tx ta id n p A i)
  else if a6V (p.sl.getD i []) ta id=true/\(vE e tx ta id n p A i).a<0 then⟨n,i,(vE e tx ta id n p A i).c,(vE e tx ta id n p A i).d⟩ else vE e tx ta id n p A i:=rfl
structure XI(e:Eng)(k:Nat)(tx:Int):Prop where
 u:UI e k tx (e.X.getD k dz).Z
 nd:tE e
theorem b6b{e:Eng}{tx:Int}{k:Nat}(h:U3 e=true)(M:O3 e)(u:e.up=true)(A:T9 e.X tx=k)(f:k<e.X.length)(hi:(e.X.getD k dz).id=tx):XI e k tx:=
 ⟨fA h M u A f hi,(c2k (Q1 h).1 M.1).logP,(E4 (Q1 h).2.1).1,λi d=>(nU h u d).2⟩
theorem b99{l:Lks}{x:Lck}(h1:l.H.length<=60)(h:l.W.length<=100):(M4 l x).1.H.length<=60/\(M4 l x).1.W.length<=100:=by
 have hc:(u7 l x.tx).H.length<=60/\(u7 l x.tx).W.length<=100:=⟨h1,Nat.le_trans (g9 (cF x.tx) l.W l.W.length) h⟩;unfold M4;split
 ·exact hc
 ·split
  ·split
   ·exact hc
   ·refine⟨?_,hc.2⟩
    rw[J6,List.length_singleton];omega
  ·split
   ·exact hc
   ·split
    ·exact hc
    ·refine⟨h1,?_⟩
     rw[J6];omega
theorem c66{e:Eng}{k:Nat}{tx:Int}(h:XI e k tx){l:Lks}(L:l.H.length<=60/\l.W.length<=100):XI {e with lk:=l} k tx:=
 ⟨⟨⟨h.u.u.si,h.u.u.at_,h.u.u.lt,h.u.u.id,h.u.u.txr,h.u.u.la,h.u.u.ep,h.u.u.t10,L,h.u.u.rm⟩,h.u.ar,h.u.fu⟩,h.nd⟩
theorem b9D{e:Eng}{k:Nat}{tx:Int}(h:XI e k tx){s:Sto}(g:SI s)(l:s.L=e.s.L)(d:s.ep=e.s.ep):XI (K1 e s) k tx:=by
 have u:=h.u.u;refine⟨⟨⟨g,u.at_,u.lt,u.id,u.txr,?_,?_,u.t10,u.lk,?_⟩,?_,?_⟩,?_,h.nd.2.1,?_⟩
 ·show 1<=(e.X.getD k dz).Z/\(e.X.getD k dz).Z<=s.L.length;rw[l];exact u.la
 ·show 1<=s.ep/\s.ep<=60;rw[d];exact u.ep
 ·show s.L.length+1<=60;rw[l];exact u.rm
 ·show 0<=(e.X.getD k dz).Z/\(e.X.getD k dz).Z<=(s.L.length:Int);rw[l];exact h.u.ar
 ·show ∃f,(e.X.getD k dz).Z.toNat<f/\s.L.length+1+und s.L f (e.X.getD k dz).Z<=60;rw[l];exact h.u.fu
 ·show w9 s.L;rw[l];exact h.nd.1
 ·show ∀i,i<e.X.length->(e.X.getD i dz).Z<=(s.L.length:Int);rw[l];exact h.nd.2.2
theorem kM{e:Eng}{k:Nat}{tx:Int}(h:XI e k tx)(ta row mo:Int):XI (jA e k ta row mo) k tx:=c66 h (b99 h.u.u.lk.1 h.u.u.lk.2)
theorem a33{e:Eng}{k:Nat}{ta row mo:Int}(h:(E6 e k ta row mo).2=0):E6 e k ta row mo=(jA e k ta row mo,0):=by
 unfold E6 at h ⊢;split at h
 ·split at h<;>cases h
 ·rename_i q;rw[if_neg q];dsimp only at h;rw[h]
theorem a8v{s:Sto}{no:Nat}:(Y7 s no).1.ep=s.ep:=by
 by_cases h:0<=frAt s.fr no
 ·rw[(m4 0 h).1]
 ·by_cases h3:s.fr.length=3
  ·cases ho:(X5 s s.J.toNat).2 with
   |true=>rw[(x4 0 h h3 ho).1];exact(s7 s s.J.toNat).2.2.2.1
   |false=>rw[(l8 0 h h3 ho).1];exact(s7 s s.J.toNat).2.2.2.1
  ·rw[(k7 0 h h3).1];rfl
structure FX(e:Eng)(f:Sto×Plc×Bool):Prop where
 lv:f.2.2=true->SI f.1/\f.1.L=e.s.L/\f.1.ep=e.s.ep
 dn:f.2.2=false->H9 f.1.d/\f.1.d.E.length=69
 pl:b9X f.2.1
theorem c0R{e:Eng}(h:SI e.s)(tx ta id:Int):∀n,n<=8->FX e (Q6 e tx ta id n)
 |0,_=>⟨λ_=>⟨h,Z8⟩,(λf=>by cases f),⟨.inl rfl,.inl rfl⟩⟩
 |n+1,hn=>by
  have i:=c0R h tx ta id n Z9
  unfold Q6;cases l:(Q6 e tx ta id n).2.2 with
  |false=>rw[if_neg W6];exact i
  |true=>
   rw[if_pos rfl];obtain⟨I,g,d⟩:=i.lv l;cases f:(Y7 (Q6 e tx ta id n).1 n).2.2 with
   |false=>
    rw[if_neg W6]
    exact⟨(λC=>by cases C),λ_=>a2e I f,i.pl⟩
   |true=>
    rw[if_pos rfl];obtain⟨j1,j2⟩:=eS I Z9 f
    exact⟨λ_=>⟨j1,j2.trans g,a8v.trans d⟩,(λC=>by cases C),a50 Z9 i.pl 4 (U9 _)⟩
theorem a5U{e:Eng}{tx ta id:Int}{n:Nat}(h:(Q6 e tx ta id n).2.2=false):∀m,Q6 e tx ta id (n+m)=Q6 e tx ta id n
 |0=>rfl
 |m+1=>by
  have i:=a5U h m;show(if(Q6 e tx ta id (n+m)).2.2=true then _ else Q6 e tx ta id (n+m))=_
  rw[i,if_neg gD]
def FdI(B:Nat->Bool):Type:={n:Nat//n<=8/\B n=true}
theorem c64{e:Eng}{tx ta id:Int}{n:Nat}(h:(Q6 e tx ta id n).2.2=true)(f:(Y7 (Q6 e tx ta id n).1 n).2.2=true):Q6 e tx ta id (n+1)=((Y7 (Q6 e tx ta id n).1 n).1,vE e tx ta id n (fpg e tx ta id n) (Q6 e tx ta id n).2.1 4,true):=by
 conv=>lhs;unfold Q6
 rw[if_pos h,if_pos f];rfl
theorem c57{e:Eng}{tx ta id:Int}{n:Nat}(h:(Q6 e tx ta id n).2.2=true)(f:(Y7 (Q6 e tx ta id n).1 n).2.2=false):Q6 e tx ta id (n+1)=((Y7 (Q6 e tx ta id n).1 n).1,(Q6 e tx ta id n).2.1,false):=by
 conv=>lhs;unfold Q6
 rw[if_pos h,if_neg (by rw[f];simp)]
def hsB(g x:Lck):Bool:=(g.tx==x.tx)&&sP g x&&((g.mo==4)||(x.mo==1)||(g.mo==x.mo))
def hsI(L:List Lck)(x:Lck)(i:Nat):Bool:=hsB (L.getD i dz) x
def c4Z:Con:=.rel ⟨Lck×Lck,λx=>[.agg x.1.ts,.bref x.2.ts],λx=>.bool (hsB x.1 x.2),λ_=>True⟩
theorem c4x(g x:Lck)(h:
  ∃(X:(Lck×Lck)),((g.tx==x.tx)=true->((g.tx=X.1.tx/\g.ta=X.1.ta/\g.row=X.1.row/\g.mo=X.1.mo/\True)/\(x.tx=X.2.tx/\x.ta=X.2.ta/\x.row=X.2.row/\x.mo=X.2.mo/\True)/\True)/\True)/\(g.tx==x.tx&&sP X.1 X.2&&(g.mo==4||x.mo==1||g.mo==x.mo))=hsB g x):
  U5 prog 246 [.agg g.ts,.bref x.ts] (.bool (hsB g x)):=
 R1 (gC pY gN) func246 Y5 h
theorem c05:GK 246 c4Z:=gk func246<|λx _=>c4x x.1 x.2 ⟨(x.1,x.2),λ_=>Z8,rfl⟩
def c0e(x:Lck):T:=.fn (.func 246) [.bref x.ts]
def b28:Con:=.rel ⟨List Lck×Lck,λx=>[.sl 4 x.1.length (Y2 x.1),c0e x.2],λx=>Ji (S5 x.1.length (hsI x.1 x.2)),λx=>M3 x.1.length⟩
def b3e(L:List Lck)(a:Lck):Nat->Ann
 |0=>.one (V2 L.length (hsI L a)) (λx=>⟨[(0,.sl 4 L.length (Y2 L)),(1,c0e a),(7,Ji L.length),(8,Ji x.1)],[]⟩) (λx=>L.length-x.1) [] [] (λ_=>Y5)
 |_=>.none
theorem a7o:GK 177 b28:=gk func177<|by
 rintro⟨L,a⟩ (hL:L.length<1000000000000);refine R1 (gC c05 gN) func177 (b3e L a) (α:=let r:=(L.length:Int);let p:=(T.bref [Ji a.tx,Ji a.ta,Ji a.row,Ji a.mo]);(∃(x:V2 L.length (hsI L a)),((Z3 Y2 L L)/\(Fn.func 246=Fn.func 246/\K4 (λ(x:Nat)=>none) p p/\True)/\r=r/\0=(x.1:Int)/\True)/\True)/\∀(x:V2 L.length (hsI L a)),let z:=(x.1:Int);let q:=(L.getD z.toNat dz);bd (z<r) (V3 z L.length/\∃(X:(Lck×Lck)),(((q.tx=X.1.tx/\q.ta=X.1.ta/\q.row=X.1.row/\q.mo=X.1.mo/\True)/\(a.tx=X.2.tx/\a.ta=X.2.ta/\a.row=X.2.row/\a.mo=X.2.mo/\True)/\True)/\True)/\br (hsB X.1 X.2) (z=S5 L.length (hsI L a)) (Ri (z+1)/\∃(y:V2 L.length (hsI L a)),(((Z3 Y2 L L)/\(Fn.func 246=Fn.func 246/\K4 (λ(x:Nat)=>none) p p/\True)/\r=r/\z+1=(y.1:Int)/\True)/\True)/\Lt (L.length-y.1) (L.length-x.1))) ((-1:Int)=S5 L.length (hsI L a))) ⟨⟨E7,⟨Z8,⟨rfl,T3 _,Z5⟩,Z8⟩,Z5⟩,λx=>⟨λC=>?_,λC=>?_⟩⟩
 ·have h:=Y0 C;refine⟨X9 h,(L.getD x.1 dz,a),Z8,λhp=>(O8 h hp x.2.2).symm,λhp=>⟨V4 h Z9,x.succ h hp,⟨⟨Z8,⟨rfl,T3 _,Z5⟩,rfl,J0,Z5⟩,Z5⟩,V2.ext_lt h⟩⟩
 ·have e:=X3 C;exact(L5 λj J=>x.2.2 j (xC J e)).symm
def b2Z:Con:=.rel ⟨List Lck×Lck,λx=>[.sl 4 x.1.length (Y2 x.1),c0e x.2],λx=>.bool (anyI x.1.length (hsI x.1 x.2)),λx=>M3 x.1.length⟩
theorem b1k(L:List Lck)(a:Lck)(h:
  ∃(x:(List Lck×Lck)),(((Z3 Y2 L x.1)/\(Fn.func 246=Fn.func 246/\(a.tx=x.2.tx/\a.ta=x.2.ta/\a.row=x.2.row/\a.mo=x.2.mo/\True)/\True)/\True)/\M3 x.1.length)/\decide (S5 x.1.length (hsI x.1 x.2)≥(0:Int))=anyI L.length (hsI L a)):
  U5 prog 105 [.sl 4 L.length (Y2 L),c0e a] (.bool (anyI L.length (hsI L a))):=
 R1 (gC a7o gN) func105 Y5 h
theorem a5N:GK 105 b2Z:=gk func105<|λx h=>b1k x.1 x.2 ⟨x,⟨Z8,h⟩,C5 _ _⟩
def c6U:Con:=.rel ⟨Lks×Lck,λx=>[.agg x.1.ts,.agg x.2.ts],λx=>.bool (anyI x.1.H.length (hsI x.1.H x.2)),λx=>M3 x.1.H.length⟩
theorem c6E(l:Lks)(x:Lck)(h:
  ∃(X:(List Lck×Lck)),(((Z3 Y2 l.H X.1)/\(Fn.func 246=Fn.func 246/\(x.tx=X.2.tx/\x.ta=X.2.ta/\x.row=X.2.row/\x.mo=X.2.mo/\True)/\True)/\True)/\M3 X.1.length)/\anyI X.1.length (hsI X.1 X.2)=anyI l.H.length (hsI l.H x)):
  U5 prog 229 [.agg l.ts,.agg x.ts] (.bool (anyI l.H.length (hsI l.H x))):=
 R1 (gC a5N gN) func229 Y5 h
theorem c3Q:GK 229 c6U:=gk func229<|λx h=>c6E x.1 x.2 ⟨(x.1.H,x.2),⟨Z8,h⟩,rfl⟩
def sK(L:List Int)(v:Int)(i:Nat):Bool:=v==L.getD i 0
def b14:Con:=.rel ⟨List Int×Nat×Int,λx=>[.sl 1 x.2.1 (Z0 x.1),Ji x.2.2],λx=>Ji (S5 x.2.1 (sK x.1 x.2.2)),λx=>M3 x.2.1⟩
def b2D(L:List Int)(n:Nat)(v:Int):Nat->Ann
 |0=>.one (V2 n (sK L v)) (λx=>⟨[(0,.sl 1 n (Z0 L)),(1,Ji v),(7,Ji n),(8,Ji x.1)],[]⟩) (λx=>n-x.1) [] [] (λ_=>Y5)
 |_=>.none
theorem a5Z:GK 258 b14:=gk func258<|by
 rintro⟨L,n,v⟩ (hL:n<1000000000000);refine R1 gN func258 (b2D L n v) (α:=let q:=(n=n/\Z7 n (Z0 L) (Z0 L));(∃(x:V2 n (sK L v)),(q/\v=v/\(n:Int)=(n:Int)/\0=(x.1:Int)/\True)/\True)/\∀(x:V2 n (sK L v)),let p:=(x.1:Int);bd (p<(n:Int)) (V3 p n/\br (v==L.getD p.toNat (0:Int)) (p=S5 n (sK L v)) (Ri (p+1)/\∃(y:V2 n (sK L v)),((q/\v=v/\(n:Int)=(n:Int)/\p+1=(y.1:Int)/\True)/\True)/\Lt (n-y.1) (n-x.1))) ((-1:Int)=S5 n (sK L v))) ⟨⟨E7,Z8⟩,λx=>⟨λC=>?_,λC=>?_⟩⟩
 ·have h:=Y0 C;exact⟨X9 h,λhp=>(O8 h hp x.2.2).symm,λhp=>⟨V4 h Z9,x.succ h hp,⟨⟨Z8,rfl,rfl,J0,Z5⟩,Z5⟩,V2.ext_lt h⟩⟩
 ·have e:=X3 C;exact(L5 λj J=>x.2.2 j (xC J e)).symm
def b3r:Con:=.rel ⟨List Int×Nat×Int,λx=>[.sl 1 x.2.1 (Z0 x.1),Ji x.2.2],λx=>.bool (anyI x.2.1 (sK x.1 x.2.2)),λx=>M3 x.2.1⟩
theorem b2l(L:List Int)(n:Nat)(v:Int)(h:
  ∃(x:(List Int×Nat×Int)),(((n=x.2.1/\Z7 n (Z0 L) (Z0 x.1))/\v=x.2.2/\True)/\M3 x.2.1)/\decide (S5 x.2.1 (sK x.1 x.2.2)≥(0:Int))=anyI n (sK L v)):
  U5 prog 249 [.sl 1 n (Z0 L),Ji v] (.bool (anyI n (sK L v))):=
 R1 (gC a5Z gN) func249 Y5 h
theorem a6N:GK 249 b3r:=gk func249<|λx h=>b2l x.1 x.2.1 x.2.2 ⟨x,⟨Z8,h⟩,C5 _ _⟩
def isW(L:List Wt)(v:Wt)(i:Nat):Bool:=(v.tx==(L.getD i dz).tx)&&((v.fo==(L.getD i dz).fo)&&true)
def wtB(v:Wt):Option Ob:=some (.arr true 1000000 2 1 λ_=>v.ts)
def b6r:Con:=.rel ⟨List Wt×Nat×Wt,λx=>[.sl 2 x.2.1 (X8 x.1),.agg x.2.2.ts],λx=>Ji (S5 x.2.1 (isW x.1 x.2.2)),λx=>M3 x.2.1⟩
def b3V(L:List Wt)(n:Nat)(v:Wt):Nat->Ann
 |0=>.one (V2 n (isW L v)) (λx=>⟨[(0,.sl 2 n (X8 L)),(3,.ref 0 0 0),(7,Ji n),(8,Ji x.1)],[wtB v]⟩) (λx=>n-x.1) [.box 0] [.box 0] (λ_=>Y5)
 |_=>.none
theorem b18:GK 247 b6r:=gk func247<|by
 rintro⟨L,n,v⟩ (hL:n<1000000000000);refine R1 gN func247 (b3V L n v) (α:=let r:=(n=n/\Z7 n (X8 L) (X8 L));let q:=(oo (v.tx=v.tx/\v.fo=v.fo/\True));(∃(x:V2 n (isW L v)),(r/\(0=0/\0=0)/\(n:Int)=(n:Int)/\0=(x.1:Int)/\True)/\q/\True)/\∀(x:V2 n (isW L v)),let p:=(x.1:Int);let z:=(L.getD p.toNat dz);bd (p<(n:Int)) (V3 p n/\br (v.tx==z.tx&&(v.fo==z.fo&&true)) (p=S5 n (isW L v)) (Ri (p+1)/\∃(y:V2 n (isW L v)),((r/\(0=0/\0=0)/\(n:Int)=(n:Int)/\p+1=(y.1:Int)/\True)/\q/\True)/\Lt (n-y.1) (n-x.1))) ((-1:Int)=S5 n (isW L v))) ⟨⟨E7,Z8⟩,λx=>⟨λC=>?_,λC=>?_⟩⟩
 ·have h:=Y0 C;exact⟨X9 h,λhp=>(O8 h hp x.2.2).symm,λhp=>⟨V4 h Z9,x.succ h hp,⟨⟨Z8,Z8,rfl,J0,Z5⟩,Z8⟩,V2.ext_lt h⟩⟩
 ·have e:=X3 C;exact(L5 λj J=>x.2.2 j (xC J e)).symm
def b6E:Con:=.rel ⟨List Wt×Nat×Wt,λx=>[.sl 2 x.2.1 (X8 x.1),.agg x.2.2.ts],λx=>.bool (anyI x.2.1 (isW x.1 x.2.2)),λx=>M3 x.2.1⟩
theorem b3I(L:List Wt)(n:Nat)(v:Wt)(h:
  ∃(x:(List Wt×Nat×Wt)),(((n=x.2.1/\Z7 n (X8 L) (X8 x.1))/\(v.tx=x.2.2.tx/\v.fo=x.2.2.fo/\True)/\True)/\M3 x.2.1)/\decide (S5 x.2.1 (isW x.1 x.2.2)≥(0:Int))=anyI n (isW L v)):
  U5 prog 230 [.sl 2 n (X8 L),.agg v.ts] (.bool (anyI n (isW L v))):=
 R1 (gC b18 gN) func230 Y5 h
theorem b02:GK 230 b6E:=gk func230<|λx h=>b3I x.1 x.2.1 x.2.2 ⟨x,⟨Z8,h⟩,C5 _ _⟩
def w8(x:Lck)(w:Wt):Bool:=w.tx !=x.tx
def aO(x:Lck):Option Ob:=some (.arr true 1000000 4 1 λ_=>x.ts)
def b8o:Con:=.rel ⟨Wt×Lck,λx=>[.agg x.1.ts,.bref x.2.ts],λx=>.bool (x.1.tx==x.2.tx),λ_=>True⟩
theorem c0Q(w:Wt)(x:Lck)(h:
  (w.tx==x.tx)=(w.tx==x.tx)):
  U5 prog 228 [.agg w.ts,.bref x.ts] (.bool (w.tx==x.tx)):=
 R1 gN func228 Y5 h
theorem gS:GK 228 b8o:=gk func228<|λx _=>c0Q x.1 x.2 rfl
def tkF(x:Lck):T:=.fn (.func 228) [.bref x.ts]
def d3W(L:List Wt)(x:Lck)(i:Nat):Bool:=(L.getD i dz).tx==x.tx
def b43:Con:=.rel ⟨List Wt×Lck,λx=>[wtS x.1,tkF x.2],λx=>Ji (S5 x.1.length (d3W x.1 x.2)),λx=>M3 x.1.length⟩
def b7b(L:List Wt)(tx:Lck):Nat->Ann
 |0=>.one (V2 L.length (d3W L tx)) (λx=>⟨[(0,wtS L),(1,tkF tx),(7,Ji L.length),(8,Ji x.1)],[]⟩) (λx=>L.length-x.1) [] [] (λ_=>Y5)
 |_=>.none
theorem b3k:GK 178 b43:=gk func178<|by
 rintro⟨L,tx⟩ (hL:L.length<1000000000000);refine R1 (gC gS gN) func178 (b7b L tx) (α:=let r:=(L.length:Int);let p:=(T.bref [Ji tx.tx,Ji tx.ta,Ji tx.row,Ji tx.mo]);(∃(x:V2 L.length (d3W L tx)),((Z3 X8 L L)/\(Fn.func 228=Fn.func 228/\K4 (λ(x:Nat)=>none) p p/\True)/\r=r/\0=(x.1:Int)/\True)/\True)/\∀(x:V2 L.length (d3W L tx)),let q:=(x.1:Int);let z:=(L.getD q.toNat dz);bd (q<r) (V3 q L.length/\∃(X:(Wt×Lck)),(((z.tx=X.1.tx/\z.fo=X.1.fo/\True)/\(tx.tx=X.2.tx/\tx.ta=X.2.ta/\tx.row=X.2.row/\tx.mo=X.2.mo/\True)/\True)/\True)/\br (X.1.tx==X.2.tx) (q=S5 L.length (d3W L tx)) (Ri (q+1)/\∃(y:V2 L.length (d3W L tx)),(((Z3 X8 L L)/\(Fn.func 228=Fn.func 228/\K4 (λ(x:Nat)=>none) p p/\True)/\r=r/\q+1=(y.1:Int)/\True)/\True)/\Lt (L.length-y.1) (L.length-x.1))) ((-1:Int)=S5 L.length (d3W L tx))) ⟨⟨E7,⟨Z8,⟨rfl,T3 _,Z5⟩,Z8⟩,Z5⟩,λx=>⟨λC=>?_,λC=>?_⟩⟩
 ·have h:=Y0 C;refine⟨X9 h,(L.getD x.1 dz,tx),Z8,λhp=>(O8 h hp x.2.2).symm,λhp=>⟨V4 h Z9,x.succ h hp,⟨⟨Z8,⟨rfl,T3 _,Z5⟩,rfl,J0,Z5⟩,Z5⟩,V2.ext_lt h⟩⟩
 ·have e:=X3 C;exact(L5 λj J=>x.2.2 j (xC J e)).symm
def c6x(L:List Wt)(tx:Lck):Option Ob:=some (.arr true 0 2 L.length (I4 (X8 (D6 (w8 tx) L L.length)) (X1 (w8 tx) L L.length).length (L.length- (X1 (w8 tx) L L.length).length) zWt))
def b4P:Con:=.reff ⟨List Wt×Lck,λx=>[.osl 0 0 x.1.length,.fn (.func 228) [.ref 1 0 0]],λx=>[iF x.1,aO x.2],λx=>.osl 0 0 (X1 (w8 x.2) x.1 x.1.length).length,λx=>[iF (X1 (w8 x.2) x.1 x.1.length),aO x.2],λx=>x.1.length<=1048576⟩
def b3W(L:List Wt)(tx:Lck):Nat->Ann
 |0=>.one {j:Nat//j<=L.length} (λx=>⟨[(0,.osl 0 0 L.length),(1,.fn (.func 228) [.ref 1 0 0]),(5,Ji (X1 (w8 tx) L x.1).length),(6,Ji x.1)],[some (.arr true 0 2 L.length (X8 (D6 (w8 tx) L x.1))),aO tx]⟩) (λx=>L.length-x.1) dD dD (λ_=>Y5)
 |_=>.none
theorem b52(L:List Wt)(tx:Lck)(h:
  ∃(x:(List Wt×Lck)),(Le (0+L.length) L.length/\((Z3 X8 L x.1)/\(Fn.func 228=Fn.func 228/\(tx.tx=x.2.tx/\tx.ta=x.2.ta/\tx.row=x.2.row/\tx.mo=x.2.mo/\True)/\True)/\True)/\M3 x.1.length)/\br (S5 x.1.length (d3W x.1 x.2)==(-1:Int)) (((0=0/\L.length=(X1 (w8 tx) L L.length).length)/\True)/\(L.length=L.length/\Z7 L.length (X8 L) λ(j:Nat)=>match(X1 (w8 tx) L L.length).length.ble j&&j.blt ((X1 (w8 tx) L L.length).length+(L.length- (X1 (w8 tx) L L.length).length)) with|true=>[Ji 0,Ji 0]|false=>[Ji ((D6 (w8 tx) L L.length).getD j dz).tx,Ji ((D6 (w8 tx) L L.length).getD j dz).fo])/\(oo (tx.tx=tx.tx/\tx.ta=tx.ta/\tx.row=tx.row/\tx.mo=tx.mo/\True))/\True) (Ri (S5 x.1.length (d3W x.1 x.2)+1)/\(∃(X:{j:Nat//j<=L.length}),((0=0/\L.length=L.length)/\(Fn.func 228=Fn.func 228/\(0=0/\0=0)/\True)/\S5 x.1.length (d3W x.1 x.2)=(↑(X1 (w8 tx) L X.val).length:Int)/\S5 x.1.length (d3W x.1 x.2)+1=(X.val:Int)/\True)/\(L.length=L.length/\Z7 L.length (X8 L) (X8 (D6 (w8 tx) L X.val)))/\(oo (tx.tx=tx.tx/\tx.ta=tx.ta/\tx.row=tx.row/\tx.mo=tx.mo/\True))/\True)/\∀(x:{j:Nat//j<=L.length}),bd ((x.1:Int)<(L.length:Int)) (V3 (x.1:Int) L.length/\Lt (0+(x.1:Int).toNat) L.length/\∃(X:(Wt×Lck)),(((((D6 (w8 tx) L x.1).getD (0+(x.1:Int).toNat) dz).tx=X.1.tx/\((D6 (w8 tx) L x.1).getD (0+(x.1:Int).toNat) dz).fo=X.1.fo/\True)/\(tx.tx=X.2.tx/\tx.ta=X.2.ta/\tx.row=X.2.row/\tx.mo=X.2.mo/\True)/\True)/\True)/\br (!X.1.tx==X.2.tx) (V3 (↑(X1 (w8 tx) L x.1).length:Int) L.length/\Lt (0+(↑(X1 (w8 tx) L x.1).length:Int).toNat) L.length/\Ri ((↑(X1 (w8 tx) L x.1).length:Int)+1)/\Ri ((x.1:Int)+1)/\∃(y:{j:Nat//j<=L.length}),(((0=0/\L.length=L.length)/\(Fn.func 228=Fn.func 228/\(0=0/\0=0)/\True)/\(↑(X1 (w8 tx) L x.1).length:Int)+1=(↑(X1 (w8 tx) L y.1).length:Int)/\(x.1:Int)+1=(y.1:Int)/\True)/\(L.length=L.length/\Z7 L.length (setRow (X8 (D6 (w8 tx) L x.1)) (0+(↑(X1 (w8 tx) L x.1).length:Int).toNat) 0 [Ji ((D6 (w8 tx) L x.1).getD (0+(x.1:Int).toNat) dz).tx,Ji ((D6 (w8 tx) L x.1).getD (0+(x.1:Int).toNat) dz).fo]) (X8 (D6 (w8 tx) L y.1)))/\(oo (tx.tx=tx.tx/\tx.ta=tx.ta/\tx.row=tx.row/\tx.mo=tx.mo/\True))/\True)/\Lt (L.length-y.1) (L.length-x.1)) (Ri ((x.1:Int)+1)/\∃(y:{j:Nat//j<=L.length}),(((0=0/\L.length=L.length)/\(Fn.func 228=Fn.func 228/\(0=0/\0=0)/\True)/\(↑(X1 (w8 tx) L x.1).length:Int)=(↑(X1 (w8 tx) L y.1).length:Int)/\(x.1:Int)+1=(y.1:Int)/\True)/\(L.length=L.length/\Z7 L.length (X8 (D6 (w8 tx) L x.1)) (X8 (D6 (w8 tx) L y.1)))/\(oo (tx.tx=tx.tx/\tx.ta=tx.ta/\tx.row=tx.row/\tx.mo=tx.mo/\True))/\True)/\Lt (L.length-y.1) (L.length-x.1))) (lY (↑(X1 (w8 tx) L x.1).length:Int) L.length/\Le (0+(↑(X1 (w8 tx) L x.1).length:Int).toNat+(L.length- (↑(X1 (w8 tx) L x.1).length:Int).toNat)) L.length/\lY (↑(X1 (w8 tx) L x.1).length:Int) L.length/\((0=0/\(↑(X1 (w8 tx) L x.1).length:Int).toNat=(X1 (w8 tx) L L.length).length)/\True)/\(L.length=L.length/\Z7 L.length (λ(j:Nat)=>match(0+(↑(X1 (w8 tx) L x.1).length:Int).toNat).ble j&&j.blt (0+(↑(X1 (w8 tx) L x.1).length:Int).toNat+(L.length- (↑(X1 (w8 tx) L x.1).length:Int).toNat)) with|true=>[Ji 0,Ji 0]|false=>[Ji ((D6 (w8 tx) L x.1).getD j dz).tx,Ji ((D6 (w8 tx) L x.1).getD j dz).fo]) λ(j:Nat)=>match(X1 (w8 tx) L L.length).length.ble j&&j.blt ((X1 (w8 tx) L L.length).length+(L.length- (X1 (w8 tx) L L.length).length)) with|true=>[Ji 0,Ji 0]|false=>[Ji ((D6 (w8 tx) L L.length).getD j dz).tx,Ji ((D6 (w8 tx) L L.length).getD j dz).fo])/\(oo (tx.tx=tx.tx/\tx.ta=tx.ta/\tx.row=tx.row/\tx.mo=tx.mo/\True))/\True))):
  G8 prog 192 [.osl 0 0 L.length,.fn (.func 228) [.ref 1 0 0]] [iF L,aO tx] (.osl 0 0 (X1 (w8 tx) L L.length).length) [c6x L tx,aO tx]:=
 r9 (gC b3k (gC gS gN)) func192 (b3W L tx) [dD] h
theorem b3v:GK 192 b4P:=gk func192<|by
 rintro⟨L,tx⟩ (hL:L.length<=1048576);have l:=g9 (w8 tx) L L.length;refine iH (b52 L tx ⟨(L,tx),⟨cM _,Z8,vY⟩,λn=>?_,λn=>?_⟩) (a2s (ts:=Wt.ts) l)
 ·obtain⟨e,d⟩:=lV (f:=w8 tx) (U9 L.length) λq Q=>by
   have:=a15 (beq_iff_eq.1 n) q Q;unfold d3W at this;unfold w8 bne;rw[this];rfl
  refine⟨⟨⟨rfl,e.symm⟩,Z5⟩,⟨rfl,?_⟩,Z8⟩
  exact eQ (row:=X8 L) (row':=X8 (D6 (w8 tx) L L.length)) (z:=zWt) (λi _=>by rw[d]) (Nat.le_of_eq e.symm)
 ·obtain⟨i,hi,hp,g,h⟩:=fY n;have hi:i<L.length:=hi;obtain⟨e,d⟩:=lV (f:=w8 tx) (L:=L) (j:=i) Z9 λq Q=>by
   have:=g q Q;unfold d3W at this;unfold w8 bne;rw[this];rfl
  have I:w8 tx (L.getD i dz)=false:=by
   unfold d3W at hp;unfold w8 bne;rw[hp];rfl
  have o:(X1 (w8 tx) L (i+1)).length=i:=by rw[eJ I];exact e
  have r:D6 (w8 tx) L (i+1)=L:=by rw[b17 I];exact d
  have h:S5 L.length (d3W L tx)=(i:Int):=h;refine⟨?_,⟨⟨i+1,hi⟩,⟨Z8,Z8,?_,?_,Z5⟩,⟨rfl,?_⟩,Z8⟩,λx=>⟨λhc=>?_,λhc=>?_⟩⟩
  ·dsimp only;rw[h];exact Z1 Z9
  ·dsimp only;rw[h,o]
  ·dsimp only;rw[h];omega
  ·dsimp only;rw[r];exact W2 _ _
  ·have hlt:=Y0 hc;have hle:=g9 (w8 tx) L x.1;have e0:(D6 (w8 tx) L x.1).getD x.1 dz=L.getD x.1 dz:=b4K hle;rw[C8,C8,D8,D8,e0];refine⟨X9 hlt,hlt,(L.getD x.1 dz,tx),Z8,λhd=>?_,λhd=>?_⟩
   ·have hd:w8 tx (L.getD x.1 dz)=true:=by
     unfold w8 bne
     skip
     exact hd
    exact⟨X9 Z9,H3,Z1 Z9,Z1 Z9,⟨x.1+1,hlt⟩,⟨⟨Z8,Z8,congrArg Int.ofNat (a07 hd),W5,Z5⟩,⟨rfl,a10 (m:=2) (ts:=Wt.ts) (λ_=>rfl) hd⟩,Z8⟩,V2.ext_lt hlt⟩
   ·have hd:w8 tx (L.getD x.1 dz)=false:=by
     unfold w8 bne
     skip
     exact hd
    refine⟨Z1 Z9,⟨x.1+1,hlt⟩,⟨⟨Z8,Z8,?_,W5,Z5⟩,⟨rfl,?_⟩,Z8⟩,V2.ext_lt hlt⟩
    ·dsimp only;rw[eJ hd]
    ·dsimp only;rw[b17 hd];exact W2 _ _
  ·have hx:x.1=L.length:=by have:=x.2;have:=X3 hc;omega
   rw[hx,C8,D8];exact⟨⟨Z9,Z9⟩,C9,⟨Z9,Z9⟩,Z8⟩
def TdS(W:List Wt)(tx:Int):Type:={x:(Nat×Nat×List Int)×List Int//a4c W tx x.1.1 x.1.2.1 (tx::x.1.2.2)=rnd W tx/\b2U W (tx::x.1.2.2)+(x.1.2.2.length+1)<=x.1.2.1+x.1.1/\x.1.2.1<=x.1.2.2.length+1/\x.1.1+x.1.2.1=200/\tx ∉ x.1.2.2/\x.2.length<=x.1.2.1}
def TdI(W:List Wt)(tx a:Int)(R:List Int)(n:Nat):Type:={y:(Nat×List Int)×List Int//y.1.1<=W.length/\scn W tx a R y.1.1=some (tx::y.1.2)/\tx ∉ y.1.2/\y.2.length<=n}
def b87(l:Lks)(tx:Int):Nat->Ann
 |0=>.one (TdS l.W tx) (λx=>⟨[(1,Ji tx),(2,Ji tx),(3,.ref 0 0 0),(7,.osl 1 0 x.1.1.2.2.length),(8,.osl 2 x.1.2.length (x.1.1.2.2.length+1-x.1.1.2.1))],[lkB l,u2 x.1.1.2.2,u2 (x.1.2++(tx::x.1.1.2.2).drop x.1.1.2.1)]⟩) (λx=>x.1.1.1) b8p b8p (λx=>fun
  |1=>.one (TdI l.W tx ((tx::x.1.1.2.2).getD x.1.1.2.1 0) (tx::x.1.1.2.2) (x.1.1.2.1+1)) (λy=>⟨[(1,Ji tx),(2,Ji tx),(3,.ref 0 0 0),(7,.osl 1 0 y.1.1.2.length),(8,.osl 2 y.1.2.length (y.1.1.2.length-x.1.1.2.1)),(9,Ji ((tx::x.1.1.2.2).getD x.1.1.2.1 0)),(24,wtS l.W),(25,Ji l.W.length),(26,Ji y.1.1.1)],[lkB l,u2 y.1.1.2,u2 (y.1.2++y.1.1.2.drop x.1.1.2.1)]⟩) (λy=>l.W.length-y.1.1.1) b8p b8p (λ_=>Y5)
  |_=>.none)
 |_=>.none
def c1q:Con:=.rel ⟨Lks×Int,λx=>[.agg x.1.ts,Ji x.2,Ji x.2],λx=>.bool (rnd x.1.W x.2),λx=>x.1.W.length<=100⟩
theorem c4g{tx v:Int}{S:List Int}:anyI (tx::S).length (thr (tx::S) v)=((tx==v)||anyI S.length (sK S v)):=by
 rw[Bool.eq_iff_iff,qY,R2,R2];constructor
 ·rintro⟨i,hi,hp⟩;cases i with
  |zero=>exact .inl hp
  |succ i=>
   refine .inr ⟨i,by simp at hi;omega,?_⟩
   have hp:(S.getD i 0==v)=true:=hp;unfold sK;rw[beq_iff_eq] at hp ⊢;exact hp.symm
 ·rintro(h|⟨i,hi,hp⟩)
  ·exact⟨0,W6,h⟩
  ·refine⟨i+1,E3,?_⟩
   show(S.getD i 0==v)=true;unfold sK at hp;rw[beq_iff_eq] at hp ⊢;exact hp.symm
theorem b6S{v:Int}{S:List Int}(h:anyI S.length (sK S v)=true):v ∈ S:=by
 obtain⟨i,hi,hp⟩:=R2.1 h;unfold sK at hp;rw[beq_iff_eq] at hp;rw[hp,Q8,I9 hi]
 exact List.getElem_mem hi
theorem a2a{L:List Int}{v:Int}{r:Nat->List T}(h:∀j,j<L.length->r j=Z0 L j):Z7 (L.length+1) (X6 r L.length λk=>[Ji ([v].getD k 0)]) (Z0 (L++[v])):=by
 intro j J;unfold X6;by_cases d:j<L.length
 ·rw[sN d];dsimp only;rw[h j d];unfold Z0;rw[Q8,Q8,tI d]
 ·obtain rfl:j=L.length:=by omega
  rw[mT d];dsimp only;unfold Z0;rw[j_i,Q8 (l:=L++[v]),List.getElem?_concat_length]
  rfl
theorem b5h:GK 232 c1q:=gk func232<|by
 rintro⟨l,tx⟩ (h:l.W.length<=100);have W:∀R,b2U l.W R<=100:=λR=>Nat.le_trans (List.length_filter_le _ _) h
 refine R1 (gC a6N (gC H7 (gC H7 (gC H7 (gC H7 (gC H7 (gC H7 (gC H7 (gC H7 (gC H7 gN)))))))))) func232 (b87 l tx) (α:=let t:=(0=0/\0=0);let a:=(Z3 X8 l.W l.W);let v:=(l.W.length:Int);let r:=(oo ((Z3 Y2 l.H l.H)/\a/\True));(∃(x:TdS l.W tx),let g:=x.1.1.2;let pa:=(x.1.2++List.drop g.1 (tx::g.2));(tx=tx/\tx=tx/\t/\(0=0/\0=g.2.length)/\(0=x.1.2.length/\1=g.2.length+1-g.1)/\True)/\r/\(0=g.2.length/\Z7 0 (tk 1 []) (Z0 g.2))/\(1=pa.length/\Z7 1 (tk 1 [Ji tx]) (Z0 pa))/\True)/\∀(x:TdS l.W tx),let pe:=x.1.2.length;let p:=x.1.1.2;let pb:=(p.2.length+1-p.1);let m:=(x.1.2++List.drop p.1 (tx::p.2));let j:=(tx::p.2).getD;bd ((↑pb:Int)>0) (V3 (0:Int) pb/\Lt (pe+0) m.length/\lY (1:Int) pb/\(∃(X:TdI l.W tx ((tx::x.1.1.2.2).getD x.1.1.2.1 (0:Int)) (tx::x.1.1.2.2) (x.1.1.2.1+1)),(tx=tx/\tx=tx/\t/\(0=0/\p.2.length=X.val.1.2.length)/\(pe+1=X.val.2.length/\p.2.length+1-p.1-1=X.val.1.2.length-p.1)/\m.getD (pe+0) 0=j p.1 (0:Int)/\a/\v=v/\0=(X.val.1.1:Int)/\True)/\r/\(Z3 Z0 p.2 X.val.1.2)/\(Z3 Z0 m (X.val.2++List.drop p.1 X.val.1.2))/\True)/\∀(X:TdI l.W tx ((tx::x.1.1.2.2).getD x.1.1.2.1 (0:Int)) (tx::x.1.1.2.2) (x.1.1.2.1+1)),let pg:=(l.W.length-X.val.1.1);let w:=(X.val.1.1:Int);let u:=(X.val.1.2.length-p.1);let pc:=(X.val.2.length+u);let z:=(X.val.2++List.drop p.1 X.val.1.2);let q:=(l.W.getD w.toNat dz);bd (w<v) (V3 w l.W.length/\∃(n:(List Int×Nat×Int)),((q.tx !=j p.1 (0:Int))=false->Le (0+X.val.1.2.length) X.val.1.2.length/\((X.val.1.2.length=n.2.1/\Z7 X.val.1.2.length (Z0 X.val.1.2) (Z0 n.1))/\q.fo=n.2.2/\True)/\M3 n.2.1)/\br (q.tx !=j p.1 (0:Int)||anyI n.2.1 (sK n.1 n.2.2)) (Ri (w+1)/\∃(y:TdI l.W tx ((tx::x.1.1.2.2).getD x.1.1.2.1 (0:Int)) (tx::x.1.1.2.2) (x.1.1.2.1+1)),let pf:=y.1.1;((tx=tx/\tx=tx/\t/\(0=0/\X.val.1.2.length=pf.2.length)/\(X.val.2.length=y.1.2.length/\X.val.1.2.length-p.1=pf.2.length-p.1)/\j p.1 0=j p.1 (0:Int)/\a/\v=v/\w+1=(pf.1:Int)/\True)/\r/\(Z3 Z0 X.val.1.2 pf.2)/\(Z3 Z0 z (y.1.2++List.drop p.1 pf.2))/\True)/\Lt (l.W.length-pf.1) pg) (br (q.fo==tx) (true=rnd l.W tx) ((Le X.val.1.2.length X.val.1.2.length/\U2 X.val.1.2.length 1 8)/\∀(b:Bool),let f:=(bif b then X.val.1.2.length-p.1+1 else X.val.2.length+u+1);(Le pc z.length/\Lt 0 1/\U2 pc 1 8)/\Ri (w+1)/\∃(y:TdI l.W tx ((tx::x.1.1.2.2).getD x.1.1.2.1 (0:Int)) (tx::x.1.1.2.2) (x.1.1.2.1+1)),let c:=y.1.1;let pd:=(y.1.2++List.drop p.1 c.2);((tx=tx/\tx=tx/\t/\(0=0/\X.val.1.2.length+1=c.2.length)/\((bif b then 0 else X.val.2.length)=y.1.2.length/\X.val.1.2.length-p.1+1=c.2.length-p.1)/\j p.1 0=j p.1 (0:Int)/\a/\v=v/\w+1=(c.1:Int)/\True)/\r/\(X.val.1.2.length+1=c.2.length/\Z7 (X.val.1.2.length+1) (X6 (Z0 X.val.1.2) X.val.1.2.length λ(k:Nat)=>[Ji ([q.fo].getD k (0:Int))]) (Z0 c.2))/\(f=pd.length/\Z7 f (bif b then X6 (λ(i:Nat)=>[Ji (z.getD (X.val.2.length+i) (0:Int))]) u λ(k:Nat)=>[Ji ([q.fo].getD k (0:Int))] else X6 (Z0 z) pc λ(k:Nat)=>[Ji ([q.fo].getD k (0:Int))]) (Z0 pd))/\True)/\Lt (l.W.length-c.1) pg))) (∃(y:TdS l.W tx),let d:=y.1.1.2;((tx=tx/\tx=tx/\t/\(0=0/\X.val.1.2.length=d.2.length)/\(X.val.2.length=y.1.2.length/\X.val.1.2.length-p.1=d.2.length+1-d.1)/\True)/\r/\(Z3 Z0 X.val.1.2 d.2)/\(Z3 Z0 z (y.1.2++List.drop d.1 (tx::d.2)))/\True)/\Lt y.1.1.1 x.1.1.1)) (false=rnd l.W tx)) ⟨⟨⟨((200,0,[]),[]),rfl,by have:=W [tx];dsimp only[List.length_nil];omega,L8 _,rfl,W6,L8 _⟩,⟨rfl,rfl,⟨rfl,rfl⟩,⟨rfl,rfl⟩,⟨rfl,rfl⟩,Z5⟩,⟨rfl,rfl,⟨rfl,W2 _ _⟩,⟨rfl,W2 _ _⟩,Z5⟩,⟨rfl,λj J=>absurd J (J2 _)⟩,⟨rfl,λj J=>by(obtain rfl:j=0:=by omega);rfl⟩,Z5⟩,λx=>?_⟩
 obtain⟨⟨⟨f,i,S⟩,pre⟩,u,Q,hi,L,I,hp⟩:=x;dsimp only at u Q hi L I hp ⊢;have V:=W (tx::S);refine⟨λhc=>?_,λhc=>?_⟩
 ·have hlt:i<S.length+1:=by have:=B3 hc;omega
  have o:i<(tx::S).length:=hlt;obtain⟨g,rfl⟩:∃g,f=g+1:=⟨f-1,Z9⟩
  rw[c7i o] at u;have z:(tx::S).drop i=(tx::S).getD i 0::S.drop i:=by
   rw[List.drop_eq_getElem_cons o,Q8,I9 o]
   rfl
  have t:pre++(tx::S).drop i=(pre++[(tx::S).getD i 0])++S.drop i:=by rw[z,List.append_assoc];rfl
  have A:(pre++(tx::S).drop i).getD (pre.length+0) 0=(tx::S).getD i 0:=by
   rw[Nat.add_zero,Q8,tD (U9 _),j_i,z]
   rfl
  refine⟨⟨Z9,Z9⟩,by unfold Lt;rw[J6,List.length_drop];simp only[List.length_cons];omega,⟨Z9,Z9⟩,⟨⟨((0,S),pre++[(tx::S).getD i 0]),L8 _,rfl,I,E3⟩,⟨rfl,rfl,⟨rfl,rfl⟩,⟨rfl,rfl⟩,⟨W6,W5⟩,A,⟨rfl,W2 _ _⟩,rfl,rfl,Z5⟩,⟨rfl,rfl,⟨rfl,W2 _ _⟩,⟨rfl,W2 _ _⟩,Z5⟩,⟨rfl,W2 _ _⟩,⟨by rw[t],by rw[t];exact W2 _ _⟩,Z5⟩,λy=>?_⟩
  obtain⟨⟨⟨k,S'⟩,d⟩,F,hs,q,r⟩:=y;dsimp only at F hs q r ⊢;obtain⟨Y,M,U⟩:=b6f k (tx::S') F hs;simp only[List.length_cons] at M U;have O:=W (tx::S');rw[C8];refine⟨λhc2=>?_,λhc2=>?_⟩
  ·have hkt:=Y0 hc2;have hss:=a4J hs;rw[c4g] at hss;refine⟨X9 hkt,(S',S'.length,(l.W.getD k dz).fo),λ_=>⟨C9,Z8,vY⟩,λhq=>?_,λhq=>⟨λhb=>?_,λhb=>⟨⟨U9 _,O6⟩,λb=>?_⟩⟩⟩
   ·have B:scn l.W tx ((tx::S).getD i 0) (tx::S) (k+1)=some (tx::S'):=by
     rw[hss];split
     ·rename_i ha;simp only[qY] at hq;have hany:=hq.resolve_left (by rw[ha];simp)
      rw[if_neg (λe:(l.W.getD k dz).fo=tx=>q (by have:=b6S hany;rwa [e] at this)),if_pos (by rw[hany];simp)]
     ·rfl
    exact⟨Z1 Z9,⟨((k+1,S'),d),hkt,B,q,r⟩,⟨⟨rfl,rfl,Z8,Z8,Z8,rfl,Z8,rfl,W5,Z5⟩,Z8⟩,D1⟩
   ·simp only[zY,bne_eq_false_iff_eq] at hq;rw[if_pos hq.1,if_pos (beq_iff_eq.1 hb)] at hss;have:=dY hss (l.W.length- (k+1));rw[show k+1+(l.W.length- (k+1))=l.W.length by omega] at this
    rw[this] at u;exact u
   ·simp only[zY,bne_eq_false_iff_eq] at hq;have hft:¬ (l.W.getD k dz).fo=tx:=λe=>by rw[e] at hb;simp at hb
    rw[if_pos hq.1,if_neg hft,if_neg (by rw[hq.2];simp;exact λe=>hft e.symm)] at hss
    generalize (l.W.getD k dz).fo=v at*;have hd2:(S'++[v]).drop i=S'.drop i++[v]:=List.drop_append_of_le_length Z9
    have N:(d++S'.drop i).length=d.length+(S'.length-i):=by rw[J6,List.length_drop]
    have C:(S'.drop i).length=S'.length-i:=List.length_drop;refine⟨⟨C9,H3,O6⟩,Z1 Z9,⟨((k+1,S'++[v]),bif b then[] else d),hkt,hss,(by simp only[List.mem_append,List.mem_singleton];rintro(e|e);exact q e;exact hft e.symm),by cases b<;>simp<;>omega⟩,⟨⟨rfl,rfl,⟨rfl,rfl⟩,⟨rfl,W6⟩,⟨by cases b<;>rfl,aB⟩,rfl,⟨rfl,W2 _ _⟩,rfl,W5,Z5⟩,⟨rfl,rfl,⟨rfl,W2 _ _⟩,⟨rfl,W2 _ _⟩,Z5⟩,⟨W6,a2a λ_ _=>rfl⟩,⟨?_,?_⟩,Z5⟩,D1⟩
    ·dsimp only;rw[hd2];cases b with
     |true=>simp
     |false=>simp only[cond_false,J6,List.length_drop,List.length_singleton];omega
    ·dsimp only;rw[hd2];cases b with
     |true=>
      simp only[cond_true,List.nil_append];rw[←C];refine a2a λj J=>?_
      unfold Z0;rw[Q8,Q8,tD Z9,show d.length+j-d.length=j by omega]
     |false=>
      simp only[cond_false];rw[←N,←List.append_assoc];exact a2a λ_ _=>rfl
  ·obtain rfl:k=l.W.length:=by have:=X3 hc2;omega
   rw[hs] at u;exact⟨⟨((g,i+1,S'),d),u,W5,W5,W5,q,r⟩,⟨⟨rfl,rfl,Z8,Z8,⟨rfl,W5⟩,Z5⟩,Z8⟩,D1⟩
 ·have hge:¬i<(tx::S).length:=by have:=k5 hc;simp only[List.length_cons];omega
  rw[←u];exact(c7c hge).symm
def sQ(L:List (List Wt))(i:Nat):List T:=[wtS (L.getD i [])]
def b9o(L:List (List Wt)):T:=.sl 1 L.length (sQ L)
def G4(L:List (List Wt)):Nat->List Wt
 |0=>[]
 |i+1=>G4 L i++L.getD i []
def c3O:Con:=.rmk ⟨Nat,λn=>[.v (.slice none 0 0),Ji n],λ_=>[],λ_=>.osl 0 0 0,λ_=>[iF []],λn=>1<=n/\n<=1000000⟩
theorem c2V(n:Nat)(h:
let q:=((n:Int)-0);let p:=q.toNat;  (decide ((n:Int)<0)=true->False)/\(decide ((n:Int)<0)=false->Ri (0:Int)/\Ri q/\bd ((n:Int)-0>0) (lY (0:Int) 0/\(Nn q/\Lt 0 p/\U2 0 p 16)/\lY (0:Int) p/\((0=0/\Int.toNat (0:Int)=0)/\True)/\(p=n/\Z7 p (λ(x:Nat)=>[Ji 0,Ji 0]) λ(x:Nat)=>[Ji 0,Ji 0])/\True) ((K4 (m8 [none]) (T.v (Value.slice none 0 0)) (T.osl 0 0 0)/\True)/\False/\True))):
  G8 prog 248 [.v (.slice none 0 0),Ji n] [] (.osl 0 0 0) [some (.arr true 0 2 n λ_=>zWt)]:=
 r9 gN func248 Y5 [[.vl 0 []]] h
def c55:Con:=.rmk ⟨List (List Wt),λL=>[b9o L],λ_=>[],λL=>.osl 0 0 (G4 L L.length).length,λL=>[iF (G4 L L.length)],λL=>L.length<=100/\1<=(G4 L L.length).length/\(G4 L L.length).length<=1000000⟩
def c5Q(L:List (List Wt)):Nat->Ann
 |0=>.one (Up L.length) (λx=>⟨[(0,b9o L),(3,Ji (G4 L x.1).length),(9,b9o L),(10,Ji L.length),(11,Ji x.1)],[]⟩) (λx=>L.length-x.1) [] [] (λ_=>fun
  |1=>.one (Up L.length) (λx=>⟨[(6,.osl 0 0 (G4 L x.1).length),(25,b9o L),(26,Ji L.length),(27,Ji x.1)],[iF (G4 L x.1)]⟩) (λx=>L.length-x.1) [.at_ 6] [.at_ 6] (λ_=>Y5)
  |_=>.none)
 |_=>.none
theorem c1j:GK 248 c3O:=gk func248<|by
 rintro n ⟨e,d⟩;refine⟨iH (c2V n ⟨λq=>(by have:=B3 q;omega),λ_=>⟨Z1 Z9,Z1 Z9,λ_=>⟨⟨Z9,Z9⟩,⟨tJ,H3,O6⟩,⟨Z9,Z9⟩,Z8,⟨Z9,W2 _ _⟩,Z5⟩,λq=>(by have:=k5 q;omega)⟩⟩) ?_,rfl,nD []⟩
 refine⟨rfl,λk o' h=>?_⟩
 cases k with
 |zero=>
  have h:iF []=some o':=h;unfold iF at h;simp only[W9] at h;refine⟨_,rfl,.inr ⟨_,_,_,_,_,_,_,rfl,h.symm,L8 _,λi hi=>absurd hi (J2 _)⟩⟩
 |succ k=>simp[Y8] at h
theorem b6t(L:List (List Wt))(i:Nat):∀d,(G4 L i).length<=(G4 L (i+d)).length
 |0=>U9 _
 |d+1=>by
  have:=b6t L i d;show _<=(G4 L (i+d)++L.getD (i+d) []).length;rw[J6];omega
theorem c5i:GK 231 c55:=gk func231<|by
 rintro L ⟨l,f,g⟩;have e:∀i,i<=L.length->(G4 L i).length<=1000000:=λi hi=>by
  have:=b6t L i (L.length-i);rw[show i+(L.length-i)=L.length by omega] at this
  omega
 have d:∀i,(G4 L (i+1)).length=(G4 L i).length+(L.getD i []).length:=λi=>J6
 refine⟨r9 (gC c1j gN) func231 (c5Q L) [[.vl 0 []]] (α:=let v:=(Z3 sQ L L);let q:=(L.length:Int);(∃(x:Up L.length),(v/\0=(↑(G4 L x.1).length:Int)/\v/\q=q/\0=(x.1:Int)/\True)/\True)/\∀(x:Up L.length),let w:=(x.1:Int);let u:=(↑(G4 L x.1).length:Int);let z:=(↑(L.getD w.toNat []).length:Int);bd (w<q) (V3 w L.length/\Ri (u+z)/\bd (u+z<0) False (Ri (w+1)/\∃(y:Up L.length),((v/\u+z=(↑(G4 L y.1).length:Int)/\v/\q=q/\w+1=(y.1:Int)/\True)/\True)/\Lt (L.length-y.1) (L.length-x.1))) (∃(X:Nat),((Value.slice none 0 0=Value.slice none 0 0/\u=(X:Int)/\True)/\1<=X/\X<=1000000)/\(∃(x:Up L.length),let k:=(G4 L x.1);((0=0/\0=k.length)/\v/\q=q/\0=(x.1:Int)/\True)/\(0=k.length/\Z7 0 (X8 []) (X8 k))/\True)/\∀(x:Up L.length),let m:=(G4 L x.1);let j:=(x.1:Int);let r:=(L.getD j.toNat []);let p:=m.length;bd (j<q) (V3 j L.length/\(Le p p/\U2 p r.length 16)/\Ri (j+1)/\∃(y:Up L.length),let n:=(G4 L y.1);(((0=0/\p+r.length=n.length)/\v/\q=q/\j+1=(y.1:Int)/\True)/\(p+r.length=n.length/\Z7 (p+r.length) (X6 (X8 m) p (X8 r)) (X8 n))/\True)/\Lt (L.length-y.1) (L.length-x.1)) (((0=0/\p=(G4 L L.length).length)/\True)/\(Z3 X8 m (G4 L L.length))/\True))) ⟨⟨⟨0,L8 _⟩,Z8⟩,λx=>⟨λhc=>?_,λhc=>?_⟩⟩,rfl,nD _⟩
 ·have h:=Y0 hc;have j:=e (x.1+1) h;have A:=d x.1;rw[C8];exact⟨X9 h,Z1 Z9,λq=>(by have:=B3 q;omega),λ_=>⟨Z1 Z9,⟨x.1+1,h⟩,⟨⟨Z8,W5,Z8,rfl,W5,Z5⟩,Z5⟩,D1⟩⟩
 ·have hx:x.1=L.length:=by have:=x.2;have:=X3 hc;omega
  refine⟨(G4 L L.length).length,⟨⟨rfl,by rw[hx],Z5⟩,f,g⟩,⟨⟨0,L8 _⟩,⟨⟨rfl,rfl⟩,⟨rfl,W2 _ _⟩,rfl,rfl,Z5⟩,⟨rfl,W2 _ _⟩,Z5⟩,λy=>⟨λhc2=>?_,λhc2=>?_⟩⟩
  ·have h:=Y0 hc2;have j:=e (y.1+1) h;have A:=d y.1;rw[C8];exact⟨X9 h,⟨U9 _,O6⟩,Z1 Z9,⟨y.1+1,h⟩,⟨⟨⟨rfl,A.symm⟩,Z8,rfl,W5,Z5⟩,⟨A.symm,c2K _ _⟩,Z5⟩,D1⟩
  ·have hy:y.1=L.length:=by have:=y.2;have:=X3 hc2;omega
   rw[hy];exact Z8
def tkX(e:Eng)(x:Lck):Eng:={e with lk:=(M4 e.lk x).1}
def c7D(e:Eng)(tx:Int):Eng:={e with lk:=u7 e.lk tx}
def b8Z:Con:=.reff ⟨Eng×Lck×Nat,λx=>[.ref 0 0 11,.agg x.2.1.ts],λx=>x.1.bx x.2.2,λx=>Ji (M4 x.1.lk x.2.1).2,λx=>(tkX x.1 x.2.1).nx x.2.2,λx=>x.1.lk.H.length<=60/\x.1.lk.W.length<=100⟩
def b9g(e:Eng)(x:Lck)(v:Nat):Nat->Ann
 |0=>.one (Up e.lk.H.length) (λi=>⟨[(0,.ref 0 0 11),(3,.ref 9 0 0),(4,Ji 0),(5,.osl 10 0 (M7 e.lk.H x i.1).length),(28,.osl 7 0 e.lk.H.length),(29,Ji e.lk.H.length),(30,Ji i.1)],(c7D e x.tx).bx v++[aO x,iF (M7 e.lk.H x i.1)]⟩) (λi=>e.lk.H.length-i.1) c2l c2l (λ_=>Y5)
 |_=>.none
theorem b36(L:List Lck)(x:Lck)(i:Nat):hsI L x i=a4r L x i:=by
 unfold hsI hsB a4r c3l sP;rw[Bool.eq_iff_iff];simp only[M1,qY,beq_iff_eq];constructor
 ·rintro⟨⟨a,b,c⟩,(d|d)|d⟩
  ·exact⟨⟨⟨a,b⟩,c⟩,.inl (.inr d)⟩
  ·exact⟨⟨⟨a,b⟩,c⟩,.inr d⟩
  ·exact⟨⟨⟨a,b⟩,c⟩,.inl (.inl d)⟩
 ·rintro⟨⟨⟨a,b⟩,c⟩,(d|d)|d⟩
  ·exact⟨⟨a,b,c⟩,.inr d⟩
  ·exact⟨⟨a,b,c⟩,.inl (.inl d)⟩
  ·exact⟨⟨a,b,c⟩,.inl (.inr d)⟩
theorem b4j(L:List Wt)(w:Wt)(i:Nat):isW L w i=c0V L w i:=by
 unfold isW c0V;rw[show(w.tx==(L.getD i dz).tx)=((L.getD i dz).tx==w.tx) from Bool.eq_iff_iff.2 (by simp only[beq_iff_eq];exact eq_comm),show(w.fo==(L.getD i dz).fo)=((L.getD i dz).fo==w.fo) from Bool.eq_iff_iff.2 (by simp only[beq_iff_eq];exact eq_comm)]
theorem a02{n:Nat}{p q:Nat->Bool}(h:∀i,p i=q i):anyI n p=anyI n q:=by rw[show p=q from funext h]
theorem b41:GK 183 b8Z:=gk func183<|by
 rintro⟨e,x,v⟩ ⟨A,z⟩;dsimp only at A z;have o:(X1 (cF x.tx) e.lk.W e.lk.W.length).length<=e.lk.W.length:=g9 (cF x.tx) e.lk.W e.lk.W.length;have q:=λn=>b5f (L:=e.lk.H) (x:=x) n
 refine r9 (gC b3v (gC gS (gC c3Q (gC cO (gC b02 (gC c5i (gC b5h gN))))))) func183 (b9g e x v) kP (α:=let px:=(0=0/\11=11);let pu:=(0=0/\0=0);let po:=(Z3 Y2 e.lk.H e.lk.H);let pm:=(oo (x.tx=x.tx/\x.ta=x.ta/\x.row=x.row/\x.mo=x.mo/\True));let ph:=(Z3 X4 e.X e.X);let pf:=(Z3 Y6 e.s.L e.s.L);let pe:=(e.lk.H.length:Int);let pd:=(Z3 Z2 e.s.d.C e.s.d.C);let pc:=(Z3 Z6 e.s.d.E e.s.d.E);let pb:=(0=0/\e.lk.H.length=e.lk.H.length);let pa:=(0=0/\e.X.length=e.X.length);let t:=(0=0/\e.s.L.length=e.s.L.length);let i:=(0=0/\e.s.fr.length=e.s.fr.length);let c:=(Z3 Z0 e.s.d.keep e.s.d.keep);let b:=(0=0/\e.s.d.C.length=e.s.d.C.length);let a:=(0=0/\e.s.d.E.length=e.s.d.E.length);let m:=(M4 e.lk x);let pz:=m.1.H.length;let ps:=m.1.W.length;let pp:=(Z3 Y2 e.lk.H m.1.H);let pj:=(0=0/\e.lk.H.length=pz);let k:=(0=0/\e.s.d.keep.length=e.s.d.keep.length);let r:=(v=v/\e.s.fr.length=e.s.fr.length/\V0 e.s.fr.length (Y9 e.s.fr) (Y9 e.s.fr));let q:=(X1 (cF x.tx) e.lk.W e.lk.W.length);let pn:=q.length;let w:=(oo (a/\b/\e.s.d.A=e.s.d.A/\k/\e.s.ep=e.s.ep/\t/\e.s.S=e.s.S/\i/\e.s.J=e.s.J/\e.up=e.up/\pa/\pb/\(0=0/\pn=pn)/\e.N=e.N/\True));let u:=(pc/\pd/\c/\pf/\r/\ph/\pp/\(Z3 X8 q m.1.W)/\True);let p:=(oo (a/\b/\e.s.d.A=e.s.d.A/\k/\e.s.ep=e.s.ep/\t/\e.s.S=e.s.S/\i/\e.s.J=e.s.J/\e.up=e.up/\pa/\pj/\(0=0/\pn=ps)/\e.N=e.N/\True));let pw:=((7=m.2/\True)/\p/\T8 u);∃(f:(List Wt×Lck)),let l:=(X1 (w8 f.2) f.1 f.1.length);(((0=0/\e.lk.W.length=f.1.length)/\(Fn.func 228=Fn.func 228/\pu/\True)/\True)/\((Z3 X8 e.lk.W f.1)/\(1=1/\Z7 1 (λ(j:Nat)=>[Ji x.tx,Ji x.ta,Ji x.row,Ji x.mo]) λ(x:Nat)=>[Ji f.2.tx,Ji f.2.ta,Ji f.2.row,Ji f.2.mo])/\True)/\f.1.length<=1048576)/\∃(j:(Lks×Lck)),((Le (0+e.lk.H.length) e.lk.H.length/\Le (0+l.length) l.length)/\(((Z3 Y2 e.lk.H j.1.H)/\(Z3 X8 l j.1.W)/\True)/\(f.2.tx=j.2.tx/\f.2.ta=j.2.ta/\f.2.row=j.2.row/\f.2.mo=j.2.mo/\True)/\True)/\M3 j.1.H.length)/\br (anyI j.1.H.length (hsI j.1.H j.2)) ((0=m.2/\True)/\(oo (a/\b/\e.s.d.A=e.s.d.A/\k/\e.s.ep=e.s.ep/\t/\e.s.S=e.s.S/\i/\e.s.J=e.s.J/\e.up=e.up/\pa/\pj/\(0=0/\l.length=ps)/\e.N=e.N/\True))/\T8 (pc/\pd/\c/\pf/\r/\ph/\pp/\(Z3 X8 l m.1.W)/\True)) ((∃(X:Up e.lk.H.length),let pq:=(M7 e.lk.H x X.val);(px/\pu/\(0:Int)=0/\(0=0/\0=pq.length)/\pb/\pe=pe/\0=(X.val:Int)/\True)/\(oo (a/\b/\e.s.d.A=e.s.d.A/\k/\e.s.ep=e.s.ep/\t/\e.s.S=e.s.S/\i/\e.s.J=e.s.J/\e.up=e.up/\pa/\pb/\(0=0/\l.length=pn)/\e.N=e.N/\True))/\pc/\pd/\c/\pf/\r/\ph/\po/\(Z3 X8 l q)/\(oo (f.2.tx=x.tx/\f.2.ta=x.ta/\f.2.row=x.row/\f.2.mo=x.mo/\True))/\(0=pq.length/\Z7 0 (tk 2 []) (X8 pq))/\True)/\∀(X:Up e.lk.H.length),let py:=(e.lk.H.length-X.val);let pk:=(X.val:Int);let pi:=(M7 e.lk.H x X.val);let n:=(e.lk.H.getD (0+pk.toNat) dz);let z:=pi.length;let pv:=(↑z:Int);bd (pk<pe) (V3 pk e.lk.H.length/\Lt (0+pk.toNat) e.lk.H.length/\∃(g:(Lck×Lck)),(((n.tx=g.1.tx/\n.ta=g.1.ta/\n.row=g.1.row/\n.mo=g.1.mo/\True)/\(x.tx=g.2.tx/\x.ta=g.2.ta/\x.row=g.2.row/\x.mo=g.2.mo/\True)/\True)/\True)/\∃(h:(List Wt×Nat×Wt)),(clash g.1 g.2=true->Le (0+z) z/\((z=h.2.1/\Z7 z (X8 pi) (X8 h.1))/\(x.tx=h.2.2.tx/\n.tx=h.2.2.fo/\True)/\True)/\M3 h.2.1)/\br (clash g.1 g.2&& !anyI h.2.1 (isW h.1 h.2.2)) ((Le 1 1/\Le z z/\U2 z 1 16)/\Ri (pk+1)/\∃(y:Up e.lk.H.length),let pr:=(M7 e.lk.H x y.1);((px/\pu/\(0:Int)=0/\(0=0/\z+1=pr.length)/\pb/\pe=pe/\pk+1=(y.1:Int)/\True)/\w/\pc/\pd/\c/\pf/\r/\ph/\po/\(Z3 X8 q q)/\pm/\(z+1=pr.length/\Z7 (z+1) (X6 (X8 pi) z (tk 2 [Ji x.tx,Ji n.tx])) (X8 pr))/\True)/\Lt (e.lk.H.length-y.1) py) (Ri (pk+1)/\∃(y:Up e.lk.H.length),let qa:=(M7 e.lk.H x y.1);((px/\pu/\(0:Int)=0/\(0=0/\z=qa.length)/\pb/\pe=pe/\pk+1=(y.1:Int)/\True)/\w/\pc/\pd/\c/\pf/\r/\ph/\po/\(Z3 X8 q q)/\pm/\(Z3 X8 pi qa)/\True)/\Lt (e.lk.H.length-y.1) py)) (br (pv==0&&pe==60) pw (br (pv==0) ((Le 1 1/\Le e.lk.H.length e.lk.H.length/\U2 e.lk.H.length 1 32)/\(0=m.2/\True)/\(oo (a/\b/\e.s.d.A=e.s.d.A/\k/\e.s.ep=e.s.ep/\t/\e.s.S=e.s.S/\i/\e.s.J=e.s.J/\e.up=e.up/\pa/\(0=0/\e.lk.H.length+1=pz)/\(0=0/\pn=ps)/\e.N=e.N/\True))/\T8 (pc/\pd/\c/\pf/\r/\ph/\(e.lk.H.length+1=pz/\Z7 (e.lk.H.length+1) (X6 (Y2 e.lk.H) e.lk.H.length (tk 4 [Ji x.tx,Ji x.ta,Ji x.row,Ji x.mo])) (Y2 m.1.H))/\(Z3 X8 q m.1.W)/\True)) (Ri ((↑pn:Int)+pv)/\bd ((↑pn:Int)+pv>100) pw (∃(g:(List (List Wt))),let pg:=(G4 g (g.length));let pt:=pg.length;((Le (0+pn) pn/\Le (0+z) z)/\((2=g.length/\Z7 2 (eB [T.sl 2 q.length (X8 q)] [T.sl 2 z (X8 pi)]) (sQ g))/\True)/\g.length<=100/\1<=pt/\pt<=1000000)/\∃(h:(Lks×Int)),((Le (0+e.lk.H.length) e.lk.H.length/\Le (0+pt) pt)/\(((Z3 Y2 e.lk.H h.1.H)/\(Z3 X8 pg h.1.W)/\True)/\x.tx=h.2/\x.tx=h.2/\True)/\h.1.W.length<=100)/\br (rnd h.1.W h.2) ((14=m.2/\True)/\p/\T8 u) ((13=m.2/\True)/\(oo (a/\b/\e.s.d.A=e.s.d.A/\k/\e.s.ep=e.s.ep/\t/\e.s.S=e.s.S/\i/\e.s.J=e.s.J/\e.up=e.up/\pa/\pj/\(0=0/\pt=ps)/\e.N=e.N/\True))/\T8 (pc/\pd/\c/\pf/\r/\ph/\pp/\(Z3 X8 pg m.1.W)/\True)))))))) ⟨(e.lk.W,x),⟨Z8,Z8,W5⟩,(u7 e.lk x.tx,x),⟨⟨C9,C9⟩,Z8,by unfold M3 u7;dsimp only;omega⟩,λhh=>?_,λhh=>⟨⟨⟨0,L8 _⟩,Z8,Z8,Z8,Z8,Z8,Z8,Z8,Z8,Z8,Z8,Z8,⟨rfl,A8⟩,Z5⟩,λy=>?_⟩⟩
 ·have hh:anyI e.lk.H.length (a4r e.lk.H x)=true:=by rw[←a02 (b36 e.lk.H x)];exact hh
  have e1:M4 e.lk x=(u7 e.lk x.tx,0):=by unfold M4;rw[if_pos hh]
  rw[e1];exact Z8
 have hh:¬anyI e.lk.H.length (a4r e.lk.H x)=true:=by
  have hh:anyI e.lk.H.length (hsI e.lk.H x)=false:=hh;rw[←a02 (b36 e.lk.H x),hh];simp
 obtain⟨i,hi⟩:=y;dsimp only at hi ⊢;have I:=q i;rw[C8,D8];refine⟨λhc=>?_,λhc=>?_⟩
 ·have hlt:=Y0 hc;have hw1:=c6A (L:=e.lk.H) (x:=x) (i:=i);refine⟨X9 hlt,hlt,(e.lk.H.getD i dz,x),Z8,(M7 e.lk.H x i,(M7 e.lk.H x i).length,⟨x.tx,(e.lk.H.getD i dz).tx⟩),λ_=>⟨C9,Z8,vY⟩,λhq=>?_,λhq=>?_⟩
  ·dsimp only at hq;rw[a02 (b4j _ _)] at hq;simp only[M1,wG] at hq;rw[if_pos hq.1,if_neg (by rw[hq.2];simp)] at hw1
   have N:(M7 e.lk.H x i).length+1=(M7 e.lk.H x (i+1)).length:=by rw[hw1];simp
   refine⟨⟨U9 _,U9 _,O6⟩,Z1 Z9,⟨i+1,hlt⟩,⟨⟨Z8,Z8,rfl,⟨rfl,N⟩,Z8,rfl,W5,Z5⟩,Z8,Z8,Z8,Z8,Z8,Z8,Z8,Z8,Z8,Z8,⟨N,?_⟩,Z5⟩,D1⟩
   dsimp only;rw[hw1];exact a3D Wt.ts 2 (λ_=>rfl) (M7 e.lk.H x i) ⟨x.tx,(e.lk.H.getD i dz).tx⟩
  ·dsimp only at hq;rw[a02 (b4j _ _)] at hq;have r:M7 e.lk.H x (i+1)=M7 e.lk.H x i:=by
    rw[hw1];split
    ·rename_i o;rw[o,Bool.true_and,yL] at hq;rw[if_pos hq]
    ·rfl
   refine⟨Z1 Z9,⟨i+1,hlt⟩,?_,D1⟩
   dsimp only;rw[r];exact⟨⟨Z8,Z8,rfl,Z8,Z8,rfl,Z9,Z5⟩,Z8⟩
 ·obtain rfl:i=e.lk.H.length:=by have:=X3 hc;omega
  refine⟨λh60=>?_,λh60=>⟨λh0=>?_,λh0=>⟨Z1 Z9,λB=>?_,λB=>?_⟩⟩⟩
  ·simp only[M1,beq_iff_eq] at h60;have h0:(zK e.lk x).length=0:=by have:=h60.1;unfold zK;omega
   have e1:M4 e.lk x=(u7 e.lk x.tx,7):=by unfold M4;rw[if_neg hh,if_pos h0,if_pos Z9]
   rw[e1];exact Z8
  ·have h0':(zK e.lk x).length=0:=by have:=beq_iff_eq.1 h0;unfold zK;omega
   have h60:¬e.lk.H.length=60:=λl=>by rw[h0,l] at h60;cases h60
   have e1:M4 e.lk x=(⟨e.lk.H++[x],(u7 e.lk x.tx).W⟩,0):=by unfold M4;rw[if_neg hh,if_pos h0',if_neg h60]
   rw[e1];exact⟨⟨U9 _,U9 _,O6⟩,Z8,⟨rfl,rfl,Z8,Z8,rfl,Z8,rfl,Z8,rfl,Z8,rfl,rfl,Z8,⟨rfl,W6⟩,Z8⟩,Z5,Z5,Z5,Z5,Z5,Z5,Z5,Z5,Z8,Z8,Z8,Z8,Z8,Z8,⟨W6,a3D Lck.ts 4 (λ_=>rfl) _ x⟩,Z8⟩
  ·have h0':¬ (zK e.lk x).length=0:=λl=>by
    have l:(M7 e.lk.H x e.lk.H.length).length=0:=l;rw[l] at h0;cases h0
   have hb':(u7 e.lk x.tx).W.length+(zK e.lk x).length>100:=by have:=B3 B;unfold zK u7;dsimp only;omega
   have e1:M4 e.lk x=(u7 e.lk x.tx,7):=by unfold M4;rw[if_neg hh,if_neg h0',if_pos hb']
   rw[e1];exact Z8
  ·have t:¬ (M7 e.lk.H x e.lk.H.length).length=0:=λl=>by
    rw[l] at h0;cases h0
   have h0':¬ (zK e.lk x).length=0:=t;have F:(X1 (cF x.tx) e.lk.W e.lk.W.length).length+(M7 e.lk.H x e.lk.H.length).length<=100:=by have:=k5 B;omega
   have hb':¬ (u7 e.lk x.tx).W.length+(zK e.lk x).length>100:=by unfold zK u7;dsimp only;omega
   have u:G4 [X1 (cF x.tx) e.lk.W e.lk.W.length,M7 e.lk.H x e.lk.H.length] 2=(u7 e.lk x.tx).W++zK e.lk x:=rfl;have C:((u7 e.lk x.tx).W++zK e.lk x).length=(X1 (cF x.tx) e.lk.W e.lk.W.length).length+(M7 e.lk.H x e.lk.H.length).length:=J6;refine⟨[X1 (cF x.tx) e.lk.W e.lk.W.length,M7 e.lk.H x e.lk.H.length],⟨⟨C9,C9⟩,⟨⟨rfl,λi hi=>by match i,hi with|0,_=>rfl|1,_=>rfl⟩,Z5⟩,by show 2<=100;omega,?_,?_⟩,(⟨e.lk.H,(u7 e.lk x.tx).W++zK e.lk x⟩,x.tx),⟨⟨C9,C9⟩,⟨⟨⟨rfl,W2 _ _⟩,⟨rfl,W2 _ _⟩,Z5⟩,rfl,rfl,Z5⟩,W5⟩,λhr=>?_,λhr=>?_⟩
   ·show 1<=((u7 e.lk x.tx).W++zK e.lk x).length;omega
   ·show((u7 e.lk x.tx).W++zK e.lk x).length<=1000000;omega
   ·have hr:rnd ((u7 e.lk x.tx).W++zK e.lk x) x.tx=true:=hr;have e1:M4 e.lk x=(u7 e.lk x.tx,14):=by unfold M4;rw[if_neg hh,if_neg h0',if_neg hb',if_pos hr]
    rw[e1];exact Z8
   ·have hr:¬rnd ((u7 e.lk x.tx).W++zK e.lk x) x.tx=true:=by
     have hr:rnd ((u7 e.lk x.tx).W++zK e.lk x) x.tx=false:=hr;rw[hr];simp
    have e1:M4 e.lk x=(⟨e.lk.H,(u7 e.lk x.tx).W++zK e.lk x⟩,13):=by unfold M4;rw[if_neg hh,if_neg h0',if_neg hb',if_neg hr]
    rw[e1];exact Z8
def pK(e:Eng)(k:Nat)(ta row mo:Int):Nat:=if(M4 e.lk (qX e k ta row mo)).2=14 then(I6 (jA e k ta row mo) k).1.2 else 0
def c1i:Con:=.reff ⟨Eng×Nat×Int×Int×Int×Int,λx=>[.ref 0 0 0,Ji x.2.2.2.2.2,Ji x.2.2.1,Ji x.2.2.2.1,Ji x.2.2.2.2.1],λx=>x.1.bx 0,λx=>Ji (E6 x.1 x.2.1 x.2.2.1 x.2.2.2.1 x.2.2.2.2.1).2,λx=>(E6 x.1 x.2.1 x.2.2.1 x.2.2.2.1 x.2.2.2.2.1).1.nx (pK x.1 x.2.1 x.2.2.1 x.2.2.2.1 x.2.2.2.2.1),λx=>XI x.1 x.2.1 x.2.2.2.2.2⟩
theorem b0u{a:Int}(h:(a !=0)=true):¬a=0:=F6
theorem a3b{a:Int}(h:(a !=0)=false):a=0:=F6
theorem b4h:GK 117 c1i:=gk func117<|by
 rintro⟨e,k,ta,row,mo,tx⟩ h;dsimp only at h;have ht:=kM h ta row mo;have d:=h.u.u.id;have f:qX e k ta row mo=⟨tx,ta,row,mo⟩:=by unfold qX;rw[d]
 refine r9 (gC b41 (gC a5j gN)) func117 Y5 kP (α:=let z:=(pK e k ta row mo);let p:=(E6 e k ta row mo);∃(x:(Eng×Lck×Nat)),let q:=(M4 x.1.lk x.2.1);(((0=0/\11=11)/\(tx=x.2.1.tx/\ta=x.2.1.ta/\row=x.2.1.row/\mo=x.2.1.mo/\True)/\True)/\(lZ (0) (x.2.2) e x.1)/\x.1.lk.H.length<=60/\x.1.lk.W.length<=100)/\br (q.2==14) (∃(X:(Eng×Int×Nat)),let r:=(I6 X.1 X.2.2);(((0=0/\0=0)/\tx=X.2.1/\True)/\(lZ (x.2.2) (0) {x.1 with lk:=q.1} X.1)/\UI X.1 X.2.2 X.2.1 (X.1.X.getD X.2.2 dz).Z)/\br (r.2 !=0) ((r.2=p.2/\True)/\tB (r.1.2) z r.1.1 p.1) ((q.2=p.2/\True)/\tB (r.1.2) z r.1.1 p.1)) ((q.2=p.2/\True)/\tB (x.2.2) z {x.1 with lk:=q.1} p.1)) ⟨(e,qX e k ta row mo,0),⟨⟨Z8,⟨d.symm,Z8⟩,Z5⟩,Z8,h.u.u.lk.1,h.u.u.lk.2⟩,λhq=>?_,λhq=>?_⟩
 ·have hq:(M4 e.lk (qX e k ta row mo)).2=14:=beq_iff_eq.1 hq;have ev:pK e k ta row mo=(I6 (jA e k ta row mo) k).1.2:=if_pos hq;refine⟨(jA e k ta row mo,tx,k),⟨Z8,Z8,ht.u⟩,λhn=>?_,λhn=>?_⟩
  ·have hn:¬ (I6 (jA e k ta row mo) k).2=0:=b0u hn;have hc:=(c6P (jA e k ta row mo) k).resolve_left hn;have e1:E6 e k ta row mo=((I6 (jA e k ta row mo) k).1.1,15):=by unfold E6;rw[if_pos hq,if_neg hn]
   rw[e1,ev];exact⟨⟨hc,Z5⟩,Z8⟩
  ·have hn:(I6 (jA e k ta row mo) k).2=0:=a3b hn;have e1:E6 e k ta row mo=((I6 (jA e k ta row mo) k).1.1,14):=by unfold E6;rw[if_pos hq,if_pos hn]
   rw[e1,ev];exact⟨⟨hq,Z5⟩,Z8⟩
 ·have hq:¬ (M4 e.lk (qX e k ta row mo)).2=14:=λe1=>by
   have hq:((M4 e.lk (qX e k ta row mo)).2==14)=false:=hq;rw[e1] at hq;cases hq
  have ev:pK e k ta row mo=0:=if_neg hq;have e1:E6 e k ta row mo=(jA e k ta row mo,(M4 e.lk (qX e k ta row mo)).2):=by unfold E6;rw[if_neg hq]
  rw[e1,ev];exact Z8
def a43(g s:Int):Option Ob:=some (.arr true 1000000 2 1 λ_=>[Ji g,Ji s])
def hitB(r:Rec)(g s:Int):Bool:=(r.g==g)&&(r.s==s)
def b8S:Con:=.reff ⟨Rec×Int×Int×Bool,λx=>[.agg x.1.ts,.ref 0 0 0,.ref 1 0 0],λx=>[fS x.2.2.2,a43 x.2.1 x.2.2.1],λ_=>.bool true,λx=>[fS (x.2.2.2||hitB x.1 x.2.1 x.2.2.1),a43 x.2.1 x.2.2.1],λ_=>True⟩
theorem b80(r:Rec)(g s:Int)(b:Bool)(h:
  (true=true/\True)/\(oo ((b||r.g==g&&r.s==s)=(b||hitB r g s)/\True))/\(oo (g=g/\s=s/\True))/\True):
  G8 prog 185 [.agg r.ts,.ref 0 0 0,.ref 1 0 0] [fS b,a43 g s] (.bool true) [fS (b||hitB r g s),a43 g s]:=
 r9 gN func185 Y5 [xZ] h
theorem b5W:GK 185 b8S:=gk func185<|λx _=>b80 x.1 x.2.1 x.2.2.1 x.2.2.2 Z8
def c21:Con:=.reff ⟨Sto×Int×Int×Int,λx=>[.bref x.1.ts,Ji x.2.1,.fn (.func 185) [.ref 0 0 0,.ref 1 0 0]],λx=>[fS false,a43 x.2.2.1 x.2.2.2],λ_=>.tup [],λx=>[fS (kepA x.1.L x.2.2.1 x.2.2.2 61 x.2.1),a43 x.2.2.1 x.2.2.2],λx=>rZ x.1.L x.2.1⟩
def KpU(L:List Rec)(g s f:Int):Type:={x:Nat×Int×Bool//(x.2.2||kepA L g s x.1 x.2.1)=kepA L g s 61 f/\x.2.1<=(L.length:Int)/\x.2.1.toNat<x.1}
def c2X(t:Sto)(f g s:Int):Nat->Ann
 |0=>.one (KpU t.L g s f) (λx=>⟨[(0,.bref t.ts),(1,Ji x.1.2.1),(2,.fn (.func 185) [.ref 0 0 0,.ref 1 0 0])],[fS x.1.2.2,a43 g s]⟩) (λx=>x.1.1) xZ xZ (λ_=>Y5)
 |_=>.none
theorem c1r:GK 147 c21:=gk func147<|by
 rintro⟨t,F,g,s⟩ ⟨L,o⟩;dsimp only at L o;have q:=L.1;refine r9 (gC b5W gN) func147 (c2X t F g s) [xZ] (α:=let b:=(0=0/\0=0);let w:=(m8 [some 0,some 1]);let v:=(oo (g=g/\s=s/\True));let u:=(T.bref t.ts);let r:=(Fn.func 185=Fn.func 185/\b/\b/\True);(∃(x:KpU t.L g s F),(K4 w u u/\F=x.1.2.1/\r/\True)/\(oo (false=x.1.2.2/\True))/\v/\True)/\∀(x:KpU t.L g s F),let a:=x.1.2;let j:=(a.1- (1:Int));let z:=((True/\True)/\(oo (a.2=kepA t.L g s 61 F/\True))/\v/\True);let q:=(t.L.getD j.toNat dz);bd (a.1>(0:Int)) (Ri j/\V3 j t.L.length/\br (q.k==3) (∃(y:KpU t.L g s F),((K4 w u u/\q.n=y.1.2.1/\r/\True)/\(oo (a.2=y.1.2.2/\True))/\v/\True)/\Lt y.1.1 x.1.1) (∃(X:(Rec×Int×Int×Bool)),let f:=(oo (X.2.1=g/\X.2.2.1=s/\True));let m:=(X.2.2.2||hitB X.1 X.2.1 X.2.2.1);((q.k==2)=true->((EqR q X.1)/\b/\b/\True)/\((1=1/\Z7 1 (λ(x_2:Nat)=>[T.bool a.2]) λ(x:Nat)=>[T.bool X.2.2.2])/\(1=1/\Z7 1 (λ(x:Nat)=>[Ji g,Ji s]) λ(x:Nat)=>[Ji X.2.1,Ji X.2.2.1])/\True)/\True)/\((q.k==2)=true->br (q.k==2&&false) ((True/\True)/\(oo (m=kepA t.L g s 61 F/\True))/\f/\True) (∃(y:KpU t.L g s F),((K4 w u u/\q.p=y.1.2.1/\r/\True)/\(oo (m=y.1.2.2/\True))/\f/\True)/\Lt y.1.1 x.1.1))/\(((q.k==2)=true->False)->br (q.k==2&&false) z (∃(y:KpU t.L g s F),((K4 w u u/\q.p=y.1.2.1/\r/\True)/\(oo (a.2=y.1.2.2/\True))/\v/\True)/\Lt y.1.1 x.1.1)))) z) ⟨⟨⟨(61,F,false),Bool.false_or _,o,W5⟩,⟨T3 _,Z8⟩,Z8⟩,λx=>?_⟩
 obtain⟨⟨f,a,b⟩,e,j,r⟩:=x;dsimp only at e j r ⊢;refine⟨λhc=>?_,λhc=>?_⟩
 ·have h0:a>0:=B3 hc;have h0':¬a<=0:=by omega
  obtain⟨C,A,v,z⟩:=L.prev (show 1<=a by omega) j
  obtain⟨f,rfl⟩:∃u,f=u+1:=⟨f-1,Z9⟩
  rw[c56 h0'] at e;refine⟨Z1 Z9,⟨Z9,Z9⟩,λd=>?_,λd=>?_⟩
  ·have d:(Z4 t.L a).k=3:=beq_iff_eq.1 d;rw[if_pos d] at e;exact⟨⟨(f,(Z4 t.L a).n,b),e,W5,W5⟩,⟨⟨T3 _,Z8⟩,Z8⟩,D1⟩
  ·have d:(Z4 t.L a).k≠3:=λh=>by
    have d:((Z4 t.L a).k==3)=false:=d;rw[h] at d;cases d
   rw[if_neg d] at e;refine⟨(Z4 t.L a,g,s,b),λ_=>Z8,λh2=>⟨λi=>?_,λ_=>?_⟩,λh2=>⟨λi=>?_,λ_=>?_⟩⟩
   ·rw[Bool.and_false] at i;cases i
   ·have h2:(Z4 t.L a).k=2:=beq_iff_eq.1 h2;have l:((b||hitB (Z4 t.L a) g s)||kepA t.L g s f (Z4 t.L a).p)=kepA t.L g s 61 F:=by
     rw[←e];unfold hitB;by_cases hg:(Z4 t.L a).g=g/\(Z4 t.L a).s=s
     ·rw[if_pos ⟨h2,hg⟩,hg.1,hg.2];simp
     ·rw[if_neg λh=>hg h.2]
      have:((Z4 t.L a).g==g&&(Z4 t.L a).s==s)=false:=by
       cases B:((Z4 t.L a).g==g&&(Z4 t.L a).s==s) with
       |false=>rfl
       |true=>
        simp only[M1,beq_iff_eq] at B;exact absurd B hg
      rw[this,Bool.or_false]
    exact⟨⟨(f,(Z4 t.L a).p,b||hitB (Z4 t.L a) g s),l,W5,W5⟩,⟨⟨T3 _,Z8⟩,Z8⟩,D1⟩
   ·rw[Bool.and_false] at i;cases i
   ·have h2:¬ (Z4 t.L a).k=2:=λh=>h2 (beq_iff_eq.2 h)
    rw[if_neg λh=>h2 h.1] at e
    exact⟨⟨(f,(Z4 t.L a).p,b),e,W5,W5⟩,⟨⟨T3 _,Z8⟩,Z8⟩,D1⟩
 ·have h0:a<=0:=by have:=k5 hc;omega
  rw[c5X h0,Bool.or_false] at e;exact⟨Z8,⟨rfl,rfl,e,Z5⟩,Z8⟩
def b58:Con:=.rel ⟨Eng×Int×Int×Int,λx=>[.bref x.1.ts,Ji x.2.1,.agg [Ji x.2.2.1,Ji x.2.2.2]],λx=>.bool (a05 x.1 x.2.1 x.2.2.1 x.2.2.2),λx=>tE x.1⟩
def b5i(e:Eng)(tx g s:Int):Nat->Ann
 |0=>.one (V2 e.X.length (a7h e tx g s)) (λx=>⟨[(0,.bref e.ts),(1,Ji tx),(5,.ref 0 0 0),(13,a3G e.X),(14,Ji e.X.length),(15,Ji x.1)],[a43 g s]⟩) (λx=>e.X.length-x.1) [.box 0] [.box 0] (λ_=>Y5)
 |_=>.none
theorem b2g:GK 119 b58:=gk func119<|by
 rintro⟨e,tx,g,s⟩ ⟨hL,d,hb⟩;dsimp only at hL d hb;refine R1 (gC c1r gN) func119 (b5i e tx g s) (α:=let z:=(0=0/\0=0);let r:=(T.bref e.ts);let p:=(e.X.length:Int);(∃(x:V2 e.X.length (a7h e tx g s)),(K4 (m8 [some 0]) r r/\tx=tx/\z/\(Z3 X4 e.X e.X)/\p=p/\0=(x.1:Int)/\True)/\(oo (g=g/\s=s/\True))/\True)/\∀(x:V2 e.X.length (a7h e tx g s)),let q:=(x.1:Int);let u:=(e.X.getD q.toNat dz);bd (q<p) (V3 q e.X.length/\∃(X:(Sto×Int×Int×Int)),(((yJ e.s X.1)/\u.Z=X.2.1/\(Fn.func 185=Fn.func 185/\z/\z/\True)/\True)/\((1=1/\Z7 1 (setRow (λ(x:Nat)=>[T.bool false]) 0 0 [T.bool false]) λ(x:Nat)=>[T.bool false])/\(1=1/\Z7 1 (λ(x:Nat)=>[Ji g,Ji s]) λ(x:Nat)=>[Ji X.2.2.1,Ji X.2.2.2])/\True)/\rZ X.1.L X.2.1)/\br (kepA X.1.L X.2.2.1 X.2.2.2 61 X.2.1&&u.id !=tx) (true=a05 e tx g s) (Ri (q+1)/\∃(y:V2 e.X.length (a7h e tx g s)),((K4 (m8 [some 0]) r r/\tx=tx/\z/\(Z3 X4 e.X e.X)/\p=p/\q+1=(y.1:Int)/\True)/\(oo (X.2.2.1=g/\X.2.2.2=s/\True))/\True)/\Lt (e.X.length-y.1) (e.X.length-x.1))) (false=a05 e tx g s)) ⟨⟨E7,⟨T3 _,Z8⟩,Z8⟩,λx=>⟨λhc=>?_,λhc=>?_⟩⟩
 ·have hlt:=Y0 hc;have hx:=hb x.1 hlt;rw[C8];have hkb:(kepA e.s.L g s 61 (e.X.getD x.1 dz).Z&&(e.X.getD x.1 dz).id !=tx)=a7h e tx g s x.1:=Bool.and_comm _ _;refine⟨X9 hlt,(e.s,(e.X.getD x.1 dz).Z,g,s),⟨⟨(iT _),Z8⟩,⟨⟨rfl,λi hi=>b5j⟩,Z8⟩,hL,hx⟩,λhq=>?_,λhq=>?_⟩
  ·exact(R2.2 ⟨x.1,hlt,hkb.symm.trans hq⟩).symm
  ·exact⟨V4 hlt Z9,x.succ hlt (hkb.symm.trans hq),⟨⟨T3 _,rfl,Z8,Z8,rfl,J0,Z5⟩,Z8⟩,V2.ext_lt hlt⟩
 ·have h:=X3 hc;exact(P8.2 λj J=>x.2.2 j (xC J h)).symm
def b9S:Con:=.rel ⟨Bz×Int×Int,λx=>[.str x.1,Ji x.2.1,Ji x.2.2],λx=>.bool (a6V x.1 x.2.1 x.2.2),λx=>x.1.length<=1000⟩
theorem b4W:GK 118 b9S:=gk func118<|by
 rintro⟨b,ta,id⟩ (h:b.length<=1000);have I:=c3D (t:=b) Z9
 obtain⟨d,e⟩:=a5V b;refine R1 (gC a8r gN) func118 Y5 (α:=Lt b.length 140737488355329/\∃(x:a0r.ι),((b=x/\True)/\nQ x)/\((zE x).2.2==(0:Int)&&(zE x).1==ta&&(zE x).2.1.id==id)=a6V b ta id) ⟨H3,b,⟨Z8,by show b.length<=_;omega⟩,?_⟩
 unfold a6V;cases r:qC b with
 |none=>
  rw[r] at I d;rw[I,d];rfl
 |some x=>
  rw[r] at I;rw[I,e x r];rfl
def plI(a b:Int):Option Ob:=some (.arr true 1000000 2 1 λ_=>[Ji a,Ji b])
def Eng.fy(e:Eng)(v:Nat)(A:Plc):Y4:=[gY (e.tn 13 14 15 16 17 18 19 20),none,none,none,none,none,none,none,none,plI 0 0,plI 0 0,plI A.a A.b,plI A.c A.d,u5 e.s.d.E,z9 e.s.d.C,u2 e.s.d.keep,yV e.s.L,uV v e.s.fr e.s.fr.length,pA e.X,oD e.lk.H,iF e.lk.W]
def qV(e:Eng)(tx ta id:Int):Nat->Nat
 |0=>0
 |n+1=>if(Q6 e tx ta id n).2.2=true then M9 (Q6 e tx ta id n).1 n (qV e tx ta id n) else qV e tx ta id n
def slI(a b:Int):Int:=if a<0 then 0 else b
def oE(A:Plc):Plc:=⟨A.a,slI A.a A.b,A.c,slI A.c A.d⟩
def q8(e:Eng)(tx ta id:Int):{y:(Eng×Nat)×Plc×Bool//y=((K1 e (Q6 e tx ta id 8).1,qV e tx ta id 8),oE (Q6 e tx ta id 8).2.1,(Q6 e tx ta id 8).2.2)}:=Classical.choice ⟨⟨_,rfl⟩⟩
def c3k:Con:=.reff ⟨Eng×Int×Int×Int,λx=>[.ref 0 0 0,Ji x.2.1,Ji x.2.2.1,Ji x.2.2.2],λx=>x.1.bx 0,λx=>.tup [.agg [Ji (q8 x.1 x.2.1 x.2.2.1 x.2.2.2).1.2.1.a,Ji (q8 x.1 x.2.1 x.2.2.1 x.2.2.2).1.2.1.b],.agg [Ji (q8 x.1 x.2.1 x.2.2.1 x.2.2.2).1.2.1.c,Ji (q8 x.1 x.2.1 x.2.2.1 x.2.2.2).1.2.1.d],.bool (q8 x.1 x.2.1 x.2.2.1 x.2.2.2).1.2.2],λx=>(q8 x.1 x.2.1 x.2.2.1 x.2.2.2).1.1.1.nx (q8 x.1 x.2.1 x.2.2.1 x.2.2.2).1.1.2,λx=>SI x.1.s/\tE x.1⟩
def c3V(tx ta id:Int)(F:Nat->Eng)(V:Nat->Nat)(A:Nat->Plc)(B:Nat->Bool)(X:Nat->Nat)(I:Nat->Nat->Plc):Nat->Ann
 |0=>.one (FdI B) (λx=>⟨[(0,.ref 0 0 0),(1,Ji tx),(2,Ji ta),(3,Ji id),(8,.ref 9 0 0),(9,.ref 10 0 0),(11,.ref 11 0 0),(12,.ref 12 0 0),(20,Ji x.1)],(F x.1).fy (V x.1) (A x.1)⟩) (λx=>8-x.1) a8i a8i (λx=>fun
  |1=>.one (Up 4) (λy=>⟨[(0,.ref 0 0 0),(1,Ji tx),(2,Ji ta),(3,Ji id),(8,.ref 9 0 0),(9,.ref 10 0 0),(11,.ref 11 0 0),(12,.ref 12 0 0),(13,Ji x.1),(20,Ji x.1),(36,.posl 17 (V (x.1+1)) (X x.1) 2 4),(37,Ji 4),(38,Ji y.1)],(F (x.1+1)).fy (V (x.1+1)) (I x.1 y.1)⟩) (λy=>4-y.1) a8i a8i (λ_=>Y5)
  |_=>.none)
 |_=>.none
theorem c5p(e:Eng)(tx ta id:Int)(F:Nat->Eng)(V:Nat->Nat)(A:Nat->Plc)(B:Nat->Bool)(X:Nat->Nat)(I:Nat->Nat->Plc)(h:
let r:=(0=0/\0=0);let p:=(oo ((0:Int)=0/\(0:Int)=0/\True));  (∃(x:FdI B),let pi:=(A x.1);(r/\tx=tx/\ta=ta/\id=id/\r/\r/\r/\r/\0=(x.1:Int)/\True)/\bO e (F x.1)/\T8 (p/\p/\(oo ((-1:Int)=pi.a/\0=pi.b/\True))/\(oo ((-1:Int)=pi.c/\0=pi.d/\True))/\sC (0) (V x.1) e (F x.1)))/\∀(x:FdI B),let q:=x.1;let pb:=((A q).c=(A 8).c/\(A q).d=(A 8).d/\True);let pa:=((A q).a=(A 8).a/\(A q).b=(A 8).b/\True);let n:=(V (q+1));let m:=(V (q+1)=V (q+1)/\X q=X q/\2=2/\4=4);let k:=((pa/\pb/\false=B 8/\True)/\True);let u:=(F (q+1));let ph:=(u.s.fr.getD (X q) dz);let l:=ph.pg.sl.getD;bd ((q:Int)<8) ((∃(f:(Sto×Nat×Nat)),let pk:=(M9 f.1 f.2.1 f.2.2);let w:=(Y7 f.1 f.2.1);let pf:=(w.1.fr.getD w.2.1 dz).pg.sl.length;((r/\(q:Int)=(f.2.1:Int)/\True)/\(LnS (V q) (f.2.2) (F q).s f.1)/\bF f.1 f.2.1/\w.2.2=true)/\br false (k/\tB pk (V 8) {(F q) with s:=w.1} (F 8)) (Lt w.2.1 w.1.fr.length/\(∃(g:Up 4),let t:=(I x.1 g.val);(r/\tx=tx/\ta=ta/\id=id/\r/\r/\r/\r/\(q:Int)=(q:Int)/\(q:Int)=(q:Int)/\(M9 f.1 f.2.1 f.2.2=V (q+1)/\w.2.1=X q/\2=2/\pf=4)/\(↑pf:Int)=4/\0=(g.val:Int)/\True)/\bO {(F q) with s:=w.1} u/\T8 (p/\p/\(oo ((A q).a=t.a/\(A q).b=t.b/\True))/\(oo ((A q).c=t.c/\(A q).d=t.d/\True))/\sC pk n {(F q) with s:=w.1} u))/\∀(g:Up 4),let v:=(g.val:Int);let z:=(I x.1 g.val);bd (v<4) (V3 v 4/\PfB n n (X q) u.s.fr.length v.toNat ph.pg.sl.length/\∃(j:(Bz×Int×Int)),(decide (z.a<0)=true->(l v.toNat []=j.1/\ta=j.2.1/\id=j.2.2/\True)/\j.1.length<=1000)/\br (decide (z.a<0)&&a6V j.1 j.2.1 j.2.2) (Ri (v+1)/\∃(y:Up 4),let pc:=(I x.1 y.1);((r/\tx=tx/\ta=ta/\id=id/\r/\r/\r/\r/\(q:Int)=(q:Int)/\(q:Int)=(q:Int)/\m/\(4:Int)=4/\v+1=(y.1:Int)/\True)/\bO u u/\T8 (p/\p/\(oo ((q:Int)=pc.a/\v=pc.b/\True))/\(oo (z.c=pc.c/\z.d=pc.d/\True))/\sC n n u u))/\Lt (4-y.1) (4-g.val)) (∃(i:(Eng×Int×Int×Int)),((decide (z.c<0)&&l v.toNat []==[])=true->(LeG u)/\((qT u i.1)/\tx=i.2.1/\((q:Int)=i.2.2.1/\v=i.2.2.2/\True)/\True)/\tE i.1)/\br (decide (z.c<0)&&l v.toNat []==[]&& !a05 i.1 i.2.1 i.2.2.1 i.2.2.2) (Ri (v+1)/\∃(y:Up 4),let pd:=(I x.1 y.1);((r/\tx=tx/\ta=ta/\id=id/\r/\r/\r/\r/\(q:Int)=(q:Int)/\(q:Int)=(q:Int)/\m/\(4:Int)=4/\v+1=(y.1:Int)/\True)/\bO u u/\T8 (p/\p/\(oo (z.a=pd.a/\z.b=pd.b/\True))/\(oo ((q:Int)=pd.c/\v=pd.d/\True))/\sC n n u u))/\Lt (4-y.1) (4-g.val)) (Ri (v+1)/\∃(y:Up 4),let pe:=(I x.1 y.1);((r/\tx=tx/\ta=ta/\id=id/\r/\r/\r/\r/\(q:Int)=(q:Int)/\(q:Int)=(q:Int)/\m/\(4:Int)=4/\v+1=(y.1:Int)/\True)/\bO u u/\T8 (p/\p/\(oo (z.a=pe.a/\z.b=pe.b/\True))/\(oo (z.c=pe.c/\z.d=pe.d/\True))/\sC n n u u))/\Lt (4-y.1) (4-g.val)))) (Ri ((q:Int)+1)/\∃(y:FdI B),let pj:=(A y.1);((r/\tx=tx/\ta=ta/\id=id/\r/\r/\r/\r/\(q:Int)+1=(y.1:Int)/\True)/\bO u (F y.1)/\T8 (p/\p/\(oo (z.a=pj.a/\z.b=pj.b/\True))/\(oo (z.c=pj.c/\z.d=pj.d/\True))/\sC n (V y.1) u (F y.1)))/\Lt (8-y.1) (8-q))))∨∃(f:(Sto×Nat×Nat)),((r/\(q:Int)=(f.2.1:Int)/\True)/\(LnS (V q) (f.2.2) (F q).s f.1)/\bF f.1 f.2.1/\(Y7 f.1 f.2.1).2.2=false)/\br true (k/\tB (M9 f.1 f.2.1 f.2.2) (V 8) {(F q) with s:=(Y7 f.1 f.2.1).1} (F 8)) False) (((pa/\pb/\true=B 8/\True)/\True)/\tB (V q) (V 8) (F q) (F 8))):
  G8 prog 59 [.ref 0 0 0,Ji tx,Ji ta,Ji id] (e.bx 0) (.tup [.agg [Ji (A 8).a,Ji (A 8).b],.agg [Ji (A 8).c,Ji (A 8).d],.bool (B 8)]) ((F 8).nx (V 8)):=
 r9 (gC lR (gC lS (gC b4W (gC b2g gN)))) func59 (c3V tx ta id F V A B X I) kP h
theorem c3N{e:Eng}{tx ta id:Int}{n:Nat}(h:(Q6 e tx ta id n).2.2=true):qV e tx ta id (n+1)=M9 (Q6 e tx ta id n).1 n (qV e tx ta id n):=by
 conv=>lhs;unfold qV
 rw[if_pos h]
theorem a95{e:Eng}{tx ta id:Int}{n:Nat}(h:(Q6 e tx ta id n).2.2=false):∀m,qV e tx ta id (n+m)=qV e tx ta id n
 |0=>rfl
 |m+1=>by
  have i:=a95 h m;show(if(Q6 e tx ta id (n+m)).2.2=true then _ else qV e tx ta id (n+m))=_
  rw[a5U h m,if_neg gD]
  exact i
theorem c4Q(ta id:Int):a6V [] ta id=false:=rfl
theorem c4C{A:Plc}{n i:Nat}:oE ⟨n,i,A.c,A.d⟩=⟨n,i,A.c,slI A.c A.d⟩:=by
 unfold oE slI;rw[if_neg (show ¬ ((n:Int)<0) by omega)]
theorem c4W{A:Plc}{n i:Nat}:oE ⟨A.a,A.b,n,i⟩=⟨A.a,slI A.a A.b,n,i⟩:=by
 unfold oE slI;rw[if_neg (show ¬ ((n:Int)<0) by omega)]
theorem c0Y:GK 59 c3k:=gk func59<|by
 rintro⟨e,tx,ta,id⟩ ⟨h,N⟩;dsimp only at h N;show G8 _ _ _ _ (.tup [.agg [Ji (q8 e tx ta id).1.2.1.a,Ji (q8 e tx ta id).1.2.1.b],.agg [Ji (q8 e tx ta id).1.2.1.c,Ji (q8 e tx ta id).1.2.1.d],.bool (q8 e tx ta id).1.2.2]) ((q8 e tx ta id).1.1.1.nx (q8 e tx ta id).1.1.2);rw[(q8 e tx ta id).2];refine c5p e tx ta id (λn=>K1 e (Q6 e tx ta id n).1) (qV e tx ta id) (λn=>oE (Q6 e tx ta id n).2.1) (λn=>(Q6 e tx ta id n).2.2) (λn=>(Y7 (Q6 e tx ta id n).1 n).2.1) (λn i=>oE (vE e tx ta id n (fpg e tx ta id n) (Q6 e tx ta id n).2.1 i)) ⟨⟨⟨0,Z8⟩,Z8⟩,λx=>?_⟩
 obtain⟨n,B,hv⟩:=x;dsimp only at B hv ⊢;refine⟨λhc=>?_,λhc=>?_⟩
 ·have hlt:n<8:=by have:=B3 hc;omega
  obtain⟨q,J,U⟩:=(c0R h tx ta id n B).lv hv;have l:=c3N hv;cases u:(Y7 (Q6 e tx ta id n).1 n).2.2 with
  |false=>
   have j:=c57 hv u;have z:=a5U (n:=n+1) (by rw[j]) (8- (n+1))
   have v:=a95 (n:=n+1) (by rw[j]) (8- (n+1))
   rw[show n+1+(8- (n+1))=8 by omega] at z v
   refine .inr ⟨((Q6 e tx ta id n).1,n,qV e tx ta id n),⟨Z8,Z8,⟨q.iv,hlt⟩,u⟩,λ_=>?_,λF=>(by cases F)⟩
   rw[z,v,j,l];exact Z8
  |true=>
   have j:=c64 hv u;obtain⟨C,_,_,r,ps⟩:=oX q.iv hlt u;have f:(Y7 (Q6 e tx ta id n).1 n).1.L=e.s.L:=(eS q hlt u).2.trans J;have t:tE (K1 e (Y7 (Q6 e tx ta id n).1 n).1):=by
    refine⟨?_,N.2.1,?_⟩
    ·show w9 (Y7 (Q6 e tx ta id n).1 n).1.L;rw[f];exact N.1
    ·show ∀i,i<e.X.length->(e.X.getD i dz).Z<=((Y7 (Q6 e tx ta id n).1 n).1.L.length:Int);rw[f];exact N.2.2
   have hK:=λg sl=>b9W f tx g sl
   have r:(fpg e tx ta id n).sl.length=4:=r;have ps:∀i,i<4->((fpg e tx ta id n).sl.getD i []).length<=30:=λi hi=>ps i (by show i<(fpg e tx ta id n).sl.length;omega)
   have hp:((Y7 (Q6 e tx ta id n).1 n).1.fr.getD (Y7 (Q6 e tx ta id n).1 n).2.1 dz).pg=fpg e tx ta id n:=rfl;have O:=c4a e tx ta id n (fpg e tx ta id n) (Q6 e tx ta id n).2.1;have o:vE e tx ta id n (fpg e tx ta id n) (Q6 e tx ta id n).2.1 0=(Q6 e tx ta id n).2.1:=rfl;refine .inl ⟨((Q6 e tx ta id n).1,n,qV e tx ta id n),⟨Z8,Z8,⟨q.iv,hlt⟩,u⟩,λF=>(by cases F),λ_=>?_⟩
   rw[j,l];have R:(Q6 e tx ta id (n+1)).2.2=true:=by rw[j]
   have M:(Q6 e tx ta id (n+1)).2.1=vE e tx ta id n (fpg e tx ta id n) (Q6 e tx ta id n).2.1 4:=by rw[j]
   have hF:(Q6 e tx ta id (n+1)).1=(Y7 (Q6 e tx ta id n).1 n).1:=by rw[j]
   clear j;dsimp only;have L:(((K1 e (Y7 (Q6 e tx ta id n).1 n).1).s.fr.getD (Y7 (Q6 e tx ta id n).1 n).2.1 dz).pg)=fpg e tx ta id n:=rfl;rw[L,hp];generalize fpg e tx ta id n=p at*;generalize (Q6 e tx ta id n).2.1=A at*;generalize vE e tx ta id n p A=I at*;refine⟨C,⟨⟨0,L8 _⟩,⟨Z8,rfl,rfl,rfl,Z8,Z8,Z8,Z8,rfl,rfl,⟨rfl,rfl,rfl,r⟩,Z9,Z8⟩,Z8,Z5,Z5,Z5,Z5,Z5,Z5,Z5,Z5,Z8,Z8,⟨rfl,rfl,by rw[o],by rw[o],Z5⟩,⟨rfl,rfl,by rw[o],by rw[o],Z5⟩,⟨rfl,W2 _ _⟩,⟨rfl,W2 _ _⟩,⟨rfl,W2 _ _⟩,⟨rfl,W2 _ _⟩,⟨rfl,rfl,jJ _⟩,⟨rfl,W2 _ _⟩,⟨rfl,W2 _ _⟩,⟨rfl,W2 _ _⟩,Z5⟩,λy=>?_⟩
   obtain⟨i,hi⟩:=y;dsimp only at hi ⊢;refine⟨λhc2=>?_,λhc2=>?_⟩
   ·have hit:i<4:=by have:=B3 hc2;omega
    have hIi:=O i;have Q:=ps i hit;rw[C8];refine⟨⟨Z9,Z9⟩,⟨rfl,C,Z9⟩,(p.sl.getD i [],ta,id),λ_=>⟨Z8,W5⟩,λhq=>?_,λhq=>⟨(K1 e (Y7 (Q6 e tx ta id n).1 n).1,tx,n,i),λ_=>⟨Z8,Z8,t⟩,λhr=>?_,λhr=>?_⟩⟩
    ·simp only[M1,g7] at hq;have hz:¬p.sl.getD i []=[]:=λhz=>by
      have:=hq.2;rw[hz,c4Q] at this;cases this
     rw[if_neg hz,if_pos ⟨hq.2,hq.1⟩] at hIi;have e1:oE (I (i+1))=⟨n,i,(I i).c,slI (I i).c (I i).d⟩:=by rw[hIi];exact c4C
     exact⟨Z1 Z9,⟨i+1,hit⟩,⟨⟨Z8,rfl,rfl,rfl,Z8,Z8,Z8,Z8,rfl,rfl,Z8,rfl,W5,Z5⟩,Z8,Z5,Z5,Z5,Z5,Z5,Z5,Z5,Z5,Z8,Z8,⟨rfl,rfl,jV,jV,Z5⟩,⟨rfl,rfl,by rw[e1];rfl,by rw[e1];rfl,Z5⟩,⟨rfl,W2 _ _⟩,⟨rfl,W2 _ _⟩,⟨rfl,W2 _ _⟩,⟨rfl,W2 _ _⟩,⟨rfl,rfl,jJ _⟩,⟨rfl,W2 _ _⟩,⟨rfl,W2 _ _⟩,⟨rfl,W2 _ _⟩,Z5⟩,D1⟩
    ·dsimp only at hr;rw[hK] at hr;simp only[M1,g7,wG,beq_iff_eq] at hr;rw[if_pos hr.1.2,if_pos ⟨hr.1.1,hr.2⟩] at hIi;have e1:oE (I (i+1))=⟨(I i).a,slI (I i).a (I i).b,n,i⟩:=by rw[hIi];exact c4W
     exact⟨Z1 Z9,⟨i+1,hit⟩,⟨⟨Z8,rfl,rfl,rfl,Z8,Z8,Z8,Z8,rfl,rfl,Z8,rfl,W5,Z5⟩,Z8,Z5,Z5,Z5,Z5,Z5,Z5,Z5,Z5,Z8,Z8,⟨rfl,rfl,by rw[e1];rfl,by rw[e1];rfl,Z5⟩,⟨rfl,rfl,jV,jV,Z5⟩,⟨rfl,W2 _ _⟩,⟨rfl,W2 _ _⟩,⟨rfl,W2 _ _⟩,⟨rfl,W2 _ _⟩,⟨rfl,rfl,jJ _⟩,⟨rfl,W2 _ _⟩,⟨rfl,W2 _ _⟩,⟨rfl,W2 _ _⟩,Z5⟩,D1⟩
    ·dsimp only at hr;rw[hK] at hr;have e1:I (i+1)=I i:=by
      rw[hIi];split
      ·rename_i hz;rw[if_neg];rintro⟨a1,a2⟩;rw[hz,pH (show(oE (I i)).c<0 from a1),a2] at hr
       cases hr
      ·rw[if_neg];rintro⟨a1,a2⟩;rw[a1,pH (show(oE (I i)).a<0 from a2)] at hq
       cases hq
     exact⟨Z1 Z9,⟨i+1,hit⟩,⟨⟨Z8,rfl,rfl,rfl,Z8,Z8,Z8,Z8,rfl,rfl,Z8,rfl,W5,Z5⟩,Z8,Z5,Z5,Z5,Z5,Z5,Z5,Z5,Z5,Z8,Z8,⟨rfl,rfl,jV,jV,Z5⟩,⟨rfl,rfl,jV,jV,Z5⟩,Z8⟩,D1⟩
   ·obtain rfl:i=4:=by have:=k5 hc2;omega
    refine⟨Z1 Z9,⟨n+1,hlt,R⟩,?_,D1⟩
    dsimp only;rw[M,hF,l];exact⟨⟨Z8,rfl,rfl,rfl,Z8,Z8,Z8,Z8,Z9,Z5⟩,Z8⟩
 ·obtain rfl:n=8:=by have:=k5 hc;omega
  exact⟨⟨⟨Z8,Z8,hv.symm,Z5⟩,Z5⟩,Z8⟩
def b9u:Con:=.rel ⟨List Val,λL=>[c04 L],λL=>.bys (K5 L L.length),λL=>L.length<=100/\∀i,i<L.length->a1b (L.getD i dz)⟩
def c0k(L:List Val):Nat->Ann
 |0=>.one (Up L.length) (λx=>⟨[(3,.osl 0 0 (K5 L x.1).length),(7,c04 L),(8,Ji L.length),(9,Ji x.1)],[some (.bys 5 (K5 L x.1))]⟩) (λx=>L.length-x.1) [.at_ 3] [.at_ 3] (λ_=>Y5)
 |_=>.none
def c31:Con:=.rel ⟨Int,λn=>[Ji n],λn=>.agg [Ji 1,Ji n,.str []],λ_=>True⟩
theorem c27(n:Int)(h:
  (1:Int)=1/\n=n/\([]:Bz)=[]/\True):
  U5 prog 121 [Ji n] (.agg [Ji 1,Ji n,.str []]):=
 R1 gN func121 Y5 h
theorem c1d:GK 121 c31:=gk func121<|λn _=>c27 n Z8
theorem b6Q:GK 120 b9u:=gk func120<|by
 rintro(L:List Val) ⟨hL,hk⟩;refine R1 (gC a2N gN) func120 (c0k L) (α:=let f:=(Z3 N6 L L);let z:=(L.length:Int);(∃(x:Up L.length),((0=0/\0=(K5 L x.1).length)/\f/\z=z/\0=(x.1:Int)/\True)/\List.map P9 []=K5 L x.1/\True)/\∀(x:Up L.length),let j:=(L.length-x.1);let w:=(K5 L x.1);let u:=(x.1:Int);let r:=w.length;let q:=(L.getD u.toNat dz);let m:=(r+1+q.t.length);let v:=(List.drop 0 (List.map P9 [IntKind.u8.wrap (q.k+1)]));let p:=(List.take r w++List.take 1 v);let g:=(List.take (r+1) p++q.t);bd (u<z) (V3 u L.length/\Ri (q.k+1)/\O1 IntKind.u8 (IntKind.u8.wrap (q.k+1))/\(Le 1 1/\Le r r/\U2 r 1 1)/\br (q.k==1) (Ri (q.n+1000000000)/\∃(X:Nat),((q.n+1000000000=(X:Int)/\True)/\X<4294967296)/\(Le (r+1) p.length/\U2 (r+1) 4 1)/\Ri (u+1)/\∃(y:Up L.length),(((0=0/\r+1+4=(K5 L y.1).length)/\f/\z=z/\u+1=(y.1:Int)/\True)/\List.take (r+1) p++z7 X=K5 L y.1/\True)/\Lt (L.length-y.1) j) (br (q.k==2) ((Le (r+1) p.length/\U2 (r+1) q.t.length 1)/\O1 IntKind.u8 (0:Int)/\(Le 1 1/\Le m g.length/\U2 m 1 1)/\Ri (u+1)/\∃(y:Up L.length),(((0=0/\r+1+q.t.length+1=(K5 L y.1).length)/\f/\z=z/\u+1=(y.1:Int)/\True)/\List.take m g++List.take 1 (List.drop 0 (List.map P9 [(0:Int)]))=K5 L y.1/\True)/\Lt (L.length-y.1) j) (Ri (u+1)/\∃(y:Up L.length),(((0=0/\r+1=(K5 L y.1).length)/\f/\z=z/\u+1=(y.1:Int)/\True)/\List.take r w++List.take 1 v=K5 L y.1/\True)/\Lt (L.length-y.1) j))) (Le (0+r) r/\List.take r (List.drop 0 w)=K5 L L.length)) ⟨⟨⟨0,L8 _⟩,Z8⟩,λx=>⟨λhc=>?_,λhc=>?_⟩⟩
 ·have hlt:=Y0 hc;have h1:=a35 hk x.1 Z9
  have hv:=hk x.1 hlt;have u:=a22 hv;rw[C8];have i:K5 L (x.1+1)=K5 L x.1++zP (L.getD x.1 dz):=rfl;generalize L.getD x.1 dz=v at*;obtain⟨z,h3⟩:=hv;have e:v.k=0∨v.k=1∨v.k=2:=by
   rcases h3 with h|h|h
   ·exact .inl h
   ·exact .inr (.inl h.1)
   ·exact .inr (.inr h)
  have r:O1 IntKind.u8 (IntKind.u8.wrap (v.k+1)):=by
   rcases e with h|h|h<;>rw[h]<;>exact(i8 _).2 ⟨U4,U4⟩
  have o:List.take (K5 L x.1).length (K5 L x.1)++List.take 1 (List.drop 0 (List.map P9 [IntKind.u8.wrap (v.k+(1:Int))]))=K5 L x.1++[P9 (IntKind.u8.wrap (v.k+1))]:=by rw[j_j];rfl
  rw[o];generalize A:K5 L x.1=B at*;have j:List.take (B.length+1) (B++[P9 (IntKind.u8.wrap (v.k+1))])=B++[P9 (IntKind.u8.wrap (v.k+1))]:=List.take_of_length_le W6
  refine⟨X9 hlt,Z1 Z9,r,⟨U9 _,U9 _,O6⟩,λhq=>?_,λhq=>⟨λd=>?_,λd=>?_⟩⟩
  ·have hq:v.k=1:=beq_iff_eq.1 hq;have hn:=(h3.resolve_left Z9).resolve_right Z9
   have g:zP v=P9 (IntKind.u8.wrap (v.k+1))::z7 (v.n+1000000000).toNat:=by
    unfold zP;rw[if_neg Z9,if_pos hq,hq]
    rfl
   have f:K5 L (x.1+1)=(B++[P9 (IntKind.u8.wrap (v.k+1))])++z7 (v.n+1000000000).toNat:=by rw[i,g,List.append_assoc];rfl
   refine⟨Z1 Z9,(v.n+1000000000).toNat,⟨⟨Z9,Z5⟩,Z9⟩,⟨by unfold Le;simp,O6⟩,Z1 Z9,⟨x.1+1,hlt⟩,⟨⟨⟨rfl,?_⟩,⟨rfl,W2 _ _⟩,rfl,W5,Z5⟩,by dsimp only;rw[f,j],Z5⟩,V2.ext_lt hlt⟩
   dsimp only;rw[f,J6,J6,List.length_singleton];rfl
  ·have d:v.k=2:=beq_iff_eq.1 d;have g:zP v=P9 (IntKind.u8.wrap (v.k+1))::(v.t++[0]):=by
    unfold zP;rw[if_neg Z9,if_neg Z9,d]
    rfl
   have f:K5 L (x.1+1)=((B++[P9 (IntKind.u8.wrap (v.k+1))])++v.t)++[0]:=by rw[i,g];simp
   have q:List.take (B.length+1+v.t.length) ((B++[P9 (IntKind.u8.wrap (v.k+1))])++v.t)=(B++[P9 (IntKind.u8.wrap (v.k+1))])++v.t:=List.take_of_length_le E3
   refine⟨⟨by unfold Le;simp,O6⟩,(i8 _).2 ⟨U4,U4⟩,⟨U9 _,by rw[j];unfold Le;simp;omega,O6⟩,Z1 Z9,⟨x.1+1,hlt⟩,⟨⟨⟨rfl,?_⟩,⟨rfl,W2 _ _⟩,rfl,W5,Z5⟩,by dsimp only;rw[f,j,q];rfl,Z5⟩,V2.ext_lt hlt⟩
   dsimp only;rw[f];simp;omega
  ·have l:v.k=0:=by
    rcases e with h|h|h
    ·exact h
    ·rw[h] at hq;cases hq
    ·rw[h] at d;cases d
   have g:zP v=[P9 (IntKind.u8.wrap (v.k+1))]:=by
    unfold zP;rw[if_pos l,l];rfl
   have f:K5 L (x.1+1)=B++[P9 (IntKind.u8.wrap (v.k+1))]:=by rw[i,g]
   refine⟨Z1 Z9,⟨x.1+1,hlt⟩,⟨⟨⟨rfl,?_⟩,Z8,rfl,W5,Z5⟩,by dsimp only;rw[f],Z5⟩,V2.ext_lt hlt⟩
   dsimp only;rw[f,J6,List.length_singleton]
 ·have hx:x.1=L.length:=by have:=x.2;have:=X3 hc;omega
  rw[hx];exact⟨C9,a0k⟩
def b9e:Con:=.rel ⟨Int×Rw,λx=>[Ji x.1,.agg x.2.ts],λx=>.bys (qR x.1 x.2),λx=>RwK x.2/\1<=x.1/\x.1<=3⟩
theorem b6q:GK 61 b9e:=gk func61<|by
 rintro⟨ta,r⟩ ⟨⟨e,h,l,g⟩,j,f⟩;dsimp only at e h l g j f;refine R1 (gC c1d (gC b6Q (gC H7 gN))) func61 Y5 (α:=∃(x:Int),((ta=x/\True)/\True)/\∃(d:Int),((r.id=d/\True)/\True)/\∃(X:(List Val)),(((4=X.length/\Z7 4 (tk 3 [Ji 1,Ji x,T.str [],Ji 1,Ji d,T.str [],Ji r.n.k,Ji r.n.n,T.str r.n.t,Ji r.name.k,Ji r.name.n,T.str r.name.t]) (N6 X))/\True)/\X.length<=100/\∀(i:Nat),i<X.length->a1b (List.getD X i dz))/\K5 X (X.length)=qR ta r) ⟨ta,Z8,r.id,Z8,[⟨1,ta,[]⟩,⟨1,r.id,[]⟩,r.n,r.name],⟨⟨⟨rfl,λi hi=>?_⟩,Z5⟩,by show 4<=100;omega,λi hi=>?_⟩,rfl⟩
 ·match i,hi with
  |0,_=>rfl
  |1,_=>rfl
  |2,_=>rfl
  |3,_=>rfl
 ·match i,hi with
  |0,_=>exact⟨by show 0<=100;omega,.inr (.inl ⟨rfl,by show-1000000000<=ta;omega,by show ta<=_;omega⟩)⟩
  |1,_=>exact⟨by show 0<=100;omega,.inr (.inl ⟨rfl,by show-1000000000<=r.id;omega,by show r.id<=_;omega⟩)⟩
  |2,_=>exact e
  |3,_=>exact h
def bU(id:Int):Rw:=⟨id,⟨0,0,[]⟩,⟨0,0,[]⟩⟩
def wY(e:Eng)(k:Nat)(ta tm id rm:Int):(Eng×Nat)×Int:=
 if(E6 e k ta (-1) tm).2=0 then(((E6 (E6 e k ta (-1) tm).1 k ta id rm).1,pK (E6 e k ta (-1) tm).1 k ta id rm),(E6 (E6 e k ta (-1) tm).1 k ta id rm).2)
 else(((E6 e k ta (-1) tm).1,pK e k ta (-1) tm),(E6 e k ta (-1) tm).2)
def zJ(e:Eng)(tx ta tm id rm:Int):(Eng×Nat)×Int:=if(S8 e tx).2=0 then wY e (S8 e tx).1.toNat ta tm id rm else((e,0),(S8 e tx).2)
theorem b5y{e:Eng}{k:Nat}{ta row mo:Int}(h:(E6 e k ta row mo).2=0):pK e k ta row mo=0:=by
 unfold pK;rw[if_neg];intro d;unfold E6 at h;rw[if_pos d] at h;dsimp only at h;split at h<;>cases h
theorem b7h{e:Eng}{k:Nat}{ta tm id rm:Int}(h:(wY e k ta tm id rm).2=0):wY e k ta tm id rm=((jA (jA e k ta (-1) tm) k ta id rm,0),0):=by
 unfold wY at h ⊢;split at h
 ·rename_i d;have f:=a33 d;rw[if_pos d,f];rw[f] at h;dsimp only at h ⊢;rw[a33 h,b5y h]
 ·rename_i d;exact absurd h d
def b7a:Con:=.reff ⟨Eng×Int×Int×Int×Int×Int,λx=>[.ref 0 0 0,Ji x.2.1,Ji x.2.2.1,Ji x.2.2.2.1,Ji x.2.2.2.2.1,Ji x.2.2.2.2.2],λx=>x.1.bx 0,λx=>Ji (zJ x.1 x.2.1 x.2.2.1 x.2.2.2.1 x.2.2.2.2.1 x.2.2.2.2.2).2,λx=>(zJ x.1 x.2.1 x.2.2.1 x.2.2.2.1 x.2.2.2.2.1 x.2.2.2.2.2).1.1.nx (zJ x.1 x.2.1 x.2.2.1 x.2.2.2.1 x.2.2.2.2.1 x.2.2.2.2.2).1.2,λx=>U3 x.1=true/\O3 x.1⟩
theorem a66{e:Eng}{tx ta tm id rm:Int}(h:¬ (S8 e tx).2=0):zJ e tx ta tm id rm=((e,0),(S8 e tx).2):=if_neg h
theorem kZ{e:Eng}{tx ta tm id rm:Int}{k:Nat}(h:(S8 e tx).2=0)(d:(S8 e tx).1=k):zJ e tx ta tm id rm=wY e k ta tm id rm:=by
 unfold zJ;rw[if_pos h,d,C8]
theorem b1p:GK 58 b7a:=gk func58<|by
 rintro⟨e,tx,ta,tm,id,rm⟩ ⟨ho,hm⟩;dsimp only at ho hm;have h:=(E4 (Q1 ho).2.1).1;refine r9 (gC rY (gC b4h gN)) func58 Y5 kP (α:=let p:=(zJ e tx ta tm id rm);∃(x:(Eng×Int)),((LeG e)/\((qT e x.1)/\tx=x.2/\True)/\M3 x.1.X.length)/\br ((S8 x.1 x.2).2 !=0) (((S8 x.1 x.2).2=p.2/\True)/\tB (0) (p.1.2) e p.1.1) (∃(x:(Eng×Nat×Int×Int×Int×Int)),let r:=x.2.2.2;let u:=(pK x.1 x.2.1 x.2.2.1 r.1 r.2.1);let q:=(E6 x.1 x.2.1 x.2.2.1 r.1 r.2.1);(((0=0/\0=0)/\tx=r.2.2/\ta=x.2.2.1/\(-1:Int)=r.1/\tm=r.2.1/\True)/\(lZ (0) (0) e x.1)/\XI x.1 x.2.1 r.2.2)/\br (q.2 !=0) ((q.2=p.2/\True)/\tB u (p.1.2) q.1 p.1.1) (∃(X:(Eng×Nat×Int×Int×Int×Int)),let z:=(E6 X.1 X.2.1 X.2.2.1 X.2.2.2.1 X.2.2.2.2.1);(((0=0/\0=0)/\tx=X.2.2.2.2.2/\ta=X.2.2.1/\id=X.2.2.2.1/\rm=X.2.2.2.2.1/\True)/\(lZ u (0) q.1 X.1)/\XI X.1 X.2.1 X.2.2.2.2.2)/\(z.2=p.2/\True)/\tB (pK X.1 X.2.1 X.2.2.1 X.2.2.2.1 X.2.2.2.2.1) (p.1.2) z.1 p.1.1))) ⟨(e,tx),⟨Z8,Z8,vY⟩,λhq=>?_,λhq=>?_⟩
 ·rw[a66 (b0u hq)];exact Z8
 ·obtain⟨hu,k,e1,hk,hi,ha⟩:=i3 (a3b hq);have hX:=b6b ho hm hu ha hk hi;rw[kZ (a3b hq) e1];refine⟨(e,k,ta,-1,tm,tx),⟨Z8,Z8,hX⟩,λhq=>?_,λhq=>?_⟩
  ·have d:wY e k ta tm id rm=(((E6 e k ta (-1) tm).1,pK e k ta (-1) tm),(E6 e k ta (-1) tm).2):=if_neg (b0u hq);rw[d];exact Z8
  ·have hq:=a3b hq;have d:wY e k ta tm id rm=(((E6 (E6 e k ta (-1) tm).1 k ta id rm).1,pK (E6 e k ta (-1) tm).1 k ta id rm),(E6 (E6 e k ta (-1) tm).1 k ta id rm).2):=if_pos hq;have f:=a33 hq;have g:=b5y hq;rw[d];dsimp only;rw[f,g];exact⟨(jA e k ta (-1) tm,k,ta,id,rm,tx),⟨Z8,Z8,kM hX ta (-1) tm⟩,Z8⟩
end
end Go.Proofs.YtcobnbfhkpbokaaGreat
