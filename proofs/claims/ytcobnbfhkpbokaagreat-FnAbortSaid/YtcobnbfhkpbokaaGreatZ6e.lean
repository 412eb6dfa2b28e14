/- A part of the proof. -/
import Derived.Test.YtcobnbfhkpbokaaGreatP12
import Derived.Test.YtcobnbfhkpbokaaGreatE4
import Derived.Test.YtcobnbfhkpbokaaGreatU1
namespace Go.Proofs.YtcobnbfhkpbokaaGreat
set_option maxRecDepth 100000
open Go.SS Go.Proofs.Tryz
noncomputable section
def a21:Con:=.rel dQ
def a51(t:T)(n:Nat):Nat->Ann
 |0=>.one (Up n) (λx=>⟨[(0,t),(1,t),(5,Ji x.1)],[]⟩) (λx=>n-x.1) [] [] (λ_=>Y5)
 |_=>.none
theorem mD:GK 160 a21:=gk func160<|by
 intro(L:List (Bz)) (hL:L.length<=1048576);refine R1 gN func160 (a51 (yC L) L.length) (α:=let r:=(L.length:Int);let q:=(Z3 Z6 L L);br (r !=r) (false=true) ((∃(x:Up L.length),(q/\q/\0=(x.1:Int)/\True)/\True)/\∀(x:Up L.length),let p:=(x.1:Int);bd (p<r) (V3 p L.length/\V3 p L.length/\br (!L.getD p.toNat []==L.getD p.toNat []) (false=true) (Ri (p+1)/\∃(y:Up L.length),((q/\q/\p+1=(y.1:Int)/\True)/\True)/\Lt (L.length-y.1) (L.length-x.1))) (true=true))) ⟨λh=>I8,λ_=>⟨⟨⟨0,L8 _⟩,⟨⟨x1,W2 _ _⟩,⟨x1,W2 _ _⟩,Z8⟩,Z5⟩,λx=>⟨λC=>?_,λ_=>rfl⟩⟩⟩
 have t:=Y0 C;exact⟨X9 t,X9 t,λh=>I8,λ_=>⟨V4 t Z9,⟨x.1+1,t⟩,⟨⟨⟨x1,W2 _ _⟩,⟨x1,W2 _ _⟩,D9,Z5⟩,Z5⟩,V2.ext_lt t⟩⟩
def a59:Con:=.rel a3A
theorem a4q:GK 161 a59:=gk func161<|by
 intro(L:List (Int)) (hL:L.length<=1048576);refine R1 gN func161 (a51 (aX L) L.length) (α:=let r:=(L.length:Int);let q:=(Z3 Z0 L L);br (r !=r) (false=true) ((∃(x:Up L.length),(q/\q/\0=(x.1:Int)/\True)/\True)/\∀(x:Up L.length),let p:=(x.1:Int);bd (p<r) (V3 p L.length/\V3 p L.length/\br (L.getD p.toNat (0:Int) !=L.getD p.toNat (0:Int)) (false=true) (Ri (p+1)/\∃(y:Up L.length),((q/\q/\p+1=(y.1:Int)/\True)/\True)/\Lt (L.length-y.1) (L.length-x.1))) (true=true))) ⟨λh=>I8,λ_=>⟨⟨⟨0,L8 _⟩,⟨⟨x1,W2 _ _⟩,⟨x1,W2 _ _⟩,Z8⟩,Z5⟩,λx=>⟨λC=>?_,λ_=>rfl⟩⟩⟩
 have t:=Y0 C;exact⟨X9 t,X9 t,λh=>I8,λ_=>⟨V4 t Z9,⟨x.1+1,t⟩,⟨⟨⟨x1,W2 _ _⟩,⟨x1,W2 _ _⟩,D9,Z5⟩,Z5⟩,V2.ext_lt t⟩⟩
def b1G:Con:=.rel a4o
theorem a57:GK 96 b1G:=gk func96<|by
 intro(L:List (Rec)) (hL:L.length<=1048576);refine R1 gN func96 (a51 (pB L) L.length) (α:=let u:=(L.length:Int);let z:=(Z3 Y6 L L);br (u !=u) (false=true) ((∃(x:Up L.length),(z/\z/\0=(x.1:Int)/\True)/\True)/\∀(x:Up L.length),let r:=(x.1:Int);let q:=(L.getD r.toNat dz);bd (r<u) (V3 r L.length/\V3 r L.length/\br (!(q.e==q.e&&(q.l==q.l&&(q.t==q.t&&(q.k==q.k&&(q.p==q.p&&(q.n==q.n&&(q.g==q.g&&(q.s==q.s&&(q.b==q.b&&(q.a==q.a&&true))))))))))) (false=true) (Ri (r+1)/\∃(y:Up L.length),((z/\z/\r+1=(y.1:Int)/\True)/\True)/\Lt (L.length-y.1) (L.length-x.1))) (true=true))) ⟨λh=>I8,λ_=>⟨⟨⟨0,L8 _⟩,⟨⟨x1,W2 _ _⟩,⟨x1,W2 _ _⟩,Z8⟩,Z5⟩,λx=>⟨λC=>?_,λ_=>rfl⟩⟩⟩
 have d:=Y0 C;exact⟨X9 d,X9 d,λh=>I8,λ_=>⟨V4 d Z9,⟨x.1+1,d⟩,⟨⟨⟨x1,W2 _ _⟩,⟨x1,W2 _ _⟩,D9,Z5⟩,Z5⟩,V2.ext_lt d⟩⟩
def a6c:Con:=.rel b7y
theorem a71(p:Pg)(h:
  ∃(x:dQ.ι),((p.Q==p.Q)=true->((Z3 Z6 p.sl x)/\(Z3 Z6 p.sl x)/\True)/\x.length<=1048576)/\(p.Q==p.Q&&true)=true):
  U5 prog 97 [.agg p.ts,.agg p.ts] (.bool true):=
 R1 (gC mD gN) func97 Y5 h
theorem a37:GK 97 a6c:=gk func97<|λ(p:Pg) h1=>a71 p ⟨p.sl,λ_=>⟨Z8,h1⟩,W6⟩
def a8f(d:Dsk):Nat->Ann
 |0=>.one (Up d.C.length) (λx=>⟨[(2,.ref 0 0 0),(3,.ref 1 0 0),(5,Ji x.1)],[oN d,oN d]⟩) (λx=>d.C.length-x.1) xZ xZ (λ_=>Y5)
 |_=>.none
def a8x:Con:=.rel a98
theorem a2Z:GK 95 a8x:=gk func95<|by
 rintro(d:Dsk) ⟨h1,h2,h3⟩;refine R1 (gC mD (gC a4q gN)) func95 (a8f d) (α:=let u:=(0=0/\0=0);let z:=(oo (zA d d));let q:=(d.C.length:Int);∃(x:dQ.ι),(((Z3 Z6 d.E x)/\(Z3 Z6 d.E x)/\True)/\x.length<=1048576)/\∃(x:a3A.ι),let v:=(Z3 Z0 d.keep x);((false||q !=q|| !d.A==d.A)=false->(v/\v/\True)/\x.length<=1048576)/\br (false||q !=q|| !d.A==d.A||false) (false=true) ((∃(x:Up d.C.length),(u/\u/\0=(x.1:Int)/\True)/\z/\z/\True)/\∀(x:Up d.C.length),let r:=(x.1:Int);let p:=(d.C.getD r.toNat dz);bd (r<q) (V3 r d.C.length/\V3 r d.C.length/\br (!(p.at_==p.at_&&(p.d==p.d&&true))) (false=true) (Ri (r+1)/\∃(y:Up d.C.length),((u/\u/\r+1=(y.1:Int)/\True)/\z/\z/\True)/\Lt (d.C.length-y.1) (d.C.length-x.1))) (true=true))) ⟨d.E,⟨Z8,h1⟩,d.keep,λ_=>⟨Z8,h3⟩,λh=>I8,λ_=>⟨⟨⟨0,L8 _⟩,Z8⟩,λx=>⟨λC=>?_,λ_=>rfl⟩⟩⟩
 have t:=Y0 C;exact⟨X9 t,X9 t,λh=>I8,λ_=>⟨V4 t Z9,⟨x.1+1,t⟩,⟨⟨Z8,Z8,D9,Z5⟩,Z8⟩,V2.ext_lt t⟩⟩
def a2S(s:Sto):Nat->Ann
 |0=>.one (Up s.fr.length) (λx=>⟨[(2,.ref 0 0 0),(3,.ref 1 0 0),(5,Ji x.1)],[pJ s,pJ s]⟩) (λx=>s.fr.length-x.1) xZ xZ (λ_=>Y5)
 |_=>.none
def a3q:Con:=.rel a9l
theorem a1R:GK 45 a3q:=gk func45<|by
 rintro(s:Sto) ⟨h1,h2,h3,h4⟩;refine R1 (gC a2Z (gC a57 (gC a37 gN))) func45 (a2S s) (α:=let v:=(0=0/\0=0);let u:=(s.fr.length:Int);let z:=(oo (yJ s s));∃(x:a98.ι),(((zA s.d x)/\(zA s.d x)/\True)/\kT x)/\∃(x:a4o.ι),((false||s.ep !=s.ep)=false->((Z3 Y6 s.L x)/\(Z3 Y6 s.L x)/\True)/\x.length<=1048576)/\br (false||s.ep !=s.ep||false||s.S !=s.S||s.J !=s.J||u !=u) (false=true) ((∃(x:Up s.fr.length),(v/\v/\0=(x.1:Int)/\True)/\z/\z/\True)/\∀(x:Up s.fr.length),let q:=(x.1:Int);let p:=(s.fr.getD q.toNat dz);bd (q<u) (V3 q s.fr.length/\V3 q s.fr.length/\∃(X:b7y.ι),let r:=(p.pg.Q=X.Q/\(Z3 Z6 p.pg.sl X.sl)/\True);((p.no !=p.no|| ! p.D==p.D||p.first !=p.first)=false->(r/\r/\True)/\SmG X)/\br (p.no !=p.no|| ! p.D==p.D||p.first !=p.first||false) (false=true) (Ri (q+1)/\∃(y:Up s.fr.length),((v/\v/\q+1=(y.1:Int)/\True)/\z/\z/\True)/\Lt (s.fr.length-y.1) (s.fr.length-x.1))) (true=true))) ⟨s.d,⟨⟨eqD _,eqD _,Z5⟩,h1⟩,s.L,λ_=>⟨⟨c2s,c2s,Z5⟩,h2⟩,λh=>I8,λ_=>⟨⟨⟨0,L8 _⟩,⟨c1I,c1I,rfl,Z5⟩,⟨rfl,rfl,iT _⟩,⟨rfl,rfl,iT _⟩,Z5⟩,λx=>⟨λC=>?_,λ_=>rfl⟩⟩⟩
 have t:=Y0 C;exact⟨X9 t,X9 t,(s.fr.getD x.1 dz).pg,λ_=>⟨Z8,h4 _ t⟩,λh=>I8,λ_=>⟨V4 t Z9,⟨x.1+1,t⟩,⟨⟨Z8,Z8,D9,Z5⟩,Z8⟩,V2.ext_lt t⟩⟩
def atV(l:Bz)(i n:Nat):Int:=if n<=1 then 0 else if l.length=0 then((i:Int)*7).tmod n else
 (((l.getD ((i:Int).tmod l.length).toNat 0).toNat:Int)*31+((l.getD (((i:Int)+1).tmod l.length).toNat 0).toNat:Int)+(i:Int).tdiv l.length).tmod n
def c7s:Con:=.rel ⟨Bz×Nat×Nat,λx=>[.bys x.1,Ji x.2.1,Ji x.2.2],λx=>Ji (atV x.1 x.2.1 x.2.2),λx=>x.2.1<=100/\x.2.2<=1000/\x.1.length<=1048576⟩
theorem c5T:GK 8 c7s:=gk func8<|by
 rintro⟨l,i,n⟩ ⟨h1,h2,h3⟩;dsimp only at h1 h2 h3;have e1:n<=1->atV l i n=0:=λh=>by unfold atV;rw[if_pos h]
 have e2:¬n<=1->l.length=0->atV l i n=((i:Int)*7).tmod n:=λh g=>by unfold atV;rw[if_neg h,if_pos g]
 have e3:¬n<=1->¬l.length=0->atV l i n=(((l.getD ((i:Int).tmod l.length).toNat 0).toNat:Int)*31+((l.getD (((i:Int)+1).tmod l.length).toNat 0).toNat:Int)+(i:Int).tdiv l.length).tmod n:=λh g=>by unfold atV;rw[if_neg h,if_neg g]
 refine R1 gN func8 Y5 (α:=let q:=(l.length:Int);let v:=((i:Int).tmod q);let u:=(((i:Int)+1).tmod q);let z:=(↑(l.getD u.toNat (0:UInt8)).toNat:Int);let r:=(↑(l.getD v.toNat (0:UInt8)).toNat:Int);let p:=(IntKind.i64.wrap r*31+IntKind.i64.wrap z+(i:Int).tdiv q);bd ((n:Int)<=1) (0=atV l i n) (br (q==0) (Ri ((i:Int)*7)/\Nz (n:Int)/\((i:Int)*7).tmod (n:Int)=atV l i n) (Nz q/\V3 v l.length/\Ri (IntKind.i64.wrap r*31)/\Ri ((i:Int)+1)/\Nz q/\V3 u l.length/\Ri (IntKind.i64.wrap r*31+IntKind.i64.wrap z)/\(Nz q/\Ri ((i:Int).tdiv q))/\Ri p/\Nz (n:Int)/\p.tmod (n:Int)=atV l i n))) ⟨λhc=>?_,λhc=>⟨λhd=>?_,λhd=>?_⟩⟩
 ·have:=B3 hc;exact(e1 Z9).symm
 ·have:=k5 hc;have hd:=eq_of_beq hd;exact⟨Z1 Z9,kJ,(e2 Z9 Z9).symm⟩
 ·have:=k5 hc;have hd:¬l.length=0:=λe=>by rw[e] at hd;cases hd
  have t1:=l9 (a:=(i:Int)) (n:=(l.length:Int)) Z9 Z9
  have t2:=l9 (a:=(i:Int)+1) (n:=(l.length:Int)) Z9 Z9
  have t3:=Int.tdiv_nonneg (a:=(i:Int)) (b:=(l.length:Int)) Z9 Z9
  have t4:(i:Int).tdiv l.length<=i:=Int.tdiv_le_self _ Z9
  have b1:=m6 l ((i:Int).tmod l.length).toNat;have b2:=m6 l (((i:Int)+1).tmod l.length).toNat;rw[zM,zM];exact⟨kJ,⟨Z9,Z9⟩,Z1 Z9,Z1 Z9,kJ,⟨Z9,Z9⟩,Z1 Z9,⟨kJ,Z1 Z9⟩,Z1 Z9,kJ,(e3 Z9 hd).symm⟩
def iA:Eng:=⟨a7c,true,[],⟨[],[]⟩,1⟩
theorem a2l{n:Nat}(h:1<=n):U1 a7c.d n=[]:=by
 show((j7 69).set 0 (hdB 1)).getD n []=[];rw[Q8,bI Z9]
 unfold j7;rw[List.getElem?_replicate]
 split<;>rfl
theorem c4Y:GInv a7c:=by
 have e:a7c.d.E.length=69:=by
  show((j7 69).set 0 (hdB 1)).length=69;rw[w6];exact List.length_replicate
 have pg:∀no,V1 a7c.d no=(⟨0,[[],[],[],[]]⟩,true):=λno=>by
  unfold V1;rw[if_pos (a2l Z9)]
 refine⟨⟨rfl,rfl,e,λi hi=>?_,λi hi=>absurd hi (J2 _)⟩,L8 _,⟨U4,U4⟩,L8 _,G9.2 λi hi=>absurd hi (J2 _),⟨Int.le_refl _,Int.le_refl _⟩,λi hi=>absurd hi (J2 _),λno _=>by rw[pg];exact⟨rfl,Int.le_refl _⟩,L8 _,λi hi=>absurd hi (J2 _),λi j hi=>absurd hi (J2 _),λi hi=>absurd hi (J2 _),⟨Int.le_refl _,U4⟩,λi hi=>absurd hi (J2 _),λi _ _=>a2l Z9⟩
 by_cases h:i=0
 ·subst h;show(((j7 69).set 0 (hdB 1)).getD 0 []).length<=160;rw[Q8]
  rw[j_k (by unfold j7;simp)]
  show 6<=160;decide
 ·have:a7c.d.E.getD i []=[]:=a2l Z9
  rw[this];exact L8 _
theorem a9R:EI iA:=by
 refine⟨c4Y,rfl,⟨⟨⟨L8 _,λi hi=>absurd hi (J2 _)⟩,λa d h=>by have h:a<=((0:Nat):Int):=h;omega⟩,L8 _,⟨Int.le_refl _,by show(1:Int)<=61;decide⟩,rfl,λi hi=>absurd hi (J2 _),λi j _ J=>absurd J (J2 _),λi hi=>absurd hi (J2 _),λi hi=>absurd hi (J2 _),λi hi=>absurd hi (J2 _),by show 0+0<=60;decide⟩⟩
def b7D:Con:=.rel ⟨Eng×Int,λx=>[.agg x.1.ts,Ji x.2],λx=>.tup [.agg (R4 x.1 x.2).1.ts,Ji (R4 x.1 x.2).2],λx=>EI x.1⟩
theorem b3t:GK 19 b7D:=gk func19<|by
 rintro⟨e,tx⟩ (h:EI e);have o:=h.ok;have g:=h.sm;have t:=h.h.t10;have i:=c3S (tx:=tx) g o;refine R1 (gC v7 (gC vA (gC rY (gC a5j gN)))) func19 Y5 (α:=let p:=(R4 e tx);let r:=p.1.s;∃(x:D5.ι),(((F9 e x)/\True)/\tF x)/\br (!U3 x) ((r.d.E.length=0/\r.d.C.length=0/\false=r.d.A/\r.d.keep.length=0/\0=r.ep/\r.L.length=0/\0=r.S/\r.fr.length=0/\0=r.J/\false=p.1.up/\p.1.X.length=0/\p.1.lk.H.length=0/\p.1.lk.W.length=0/\0=p.1.N/\True)/\1=p.2/\True) (∃(x:Eng),(((F9 e x)/\True)/\O3 x)/\∃(f:(Eng×Int)),((LeG x)/\((qT x f.1)/\tx=f.2/\True)/\M3 f.1.X.length)/\br ((S8 f.1 f.2).2==0) (∃(X:(Eng×Int×Nat)),let q:=(I6 X.1 X.2.2);(((0=0/\0=0)/\tx=X.2.1/\True)/\(lZ (0) (0) x X.1)/\UI X.1 X.2.2 X.2.1 (X.1.X.getD X.2.2 dz).Z)/\∃(x:Eng),((LeG q.1.1)/\((qT q.1.1 x)/\True)/\O3 x)/\(LeG x)/\(qT x p.1)/\q.2=p.2/\True) (∃(X:Eng),((LeG x)/\((qT x X)/\True)/\O3 X)/\(LeG X)/\(qT X p.1)/\(S8 f.1 f.2).2=p.2/\True))) ⟨e,⟨Z8,fH h⟩,λq=>a9a,λq=>?_⟩
 rw[ab2 q];refine⟨e,⟨Z8,g⟩,(e,tx),⟨Z8,Z8,vY⟩,λhk=>?_,λhk=>?_⟩
 ·have h0:(S8 e tx).2=0:=by simpa using hk
  obtain⟨u,k,j,hk,hi,A⟩:=i3 h0;rw[b7u h0 j] at i ⊢;exact⟨(e,tx,k),⟨Z8,Z8,fA o g u A hk hi⟩,(I6 e k).1.1,⟨Z8,Z8,i⟩,Z8⟩
 ·have h0:¬ (S8 e tx).2=0:=by simpa using hk
  rw[c1Y h0];exact⟨e,⟨Z8,Z8,g⟩,Z8⟩
def rwO(c:Bz):Rw:=(jG (J7 c)).2
theorem gV(c:Bz):L4 (rwO c)=true:=c0w (a8I c)
theorem b38(c:Bz):0<=(rwO c).id/\(rwO c).id<=1000:=by
 obtain⟨d,_⟩:=a9I (gV c);exact d.2.2
def pE(c:Bz):Nat->Eng
 |0=>(V5 iA).1
 |i+1=>(M6 (pE c i) 1 1 (rwO (UInt8.ofNat i::c))).1
def eE(c:Bz):Eng:=(U8 (pE c 5) 1).1
def qE(c m:Bz):Nat->Eng
 |0=>(V5 (eE c)).1
 |i+1=>if atV m i 3=0 then(H8 (qE c m i) 2 1 (rwO (UInt8.ofNat i::m)).id).1 else(M6 (qE c m i) 2 1 (rwO (UInt8.ofNat i::m))).1
def laE(c m:Bz):Int:=((qE c m 3).X.getD 0 dz).Z
def baE(c m:Bz):Eng:=(V9 (qE c m 6) 2 (laE c m)).1.1
def goE(c m:Bz):Eng:=(qQ (baE c m) 2).1.1
def diE(c m:Bz):Eng:=(qQ (qE c m 6) 2).1.1
theorem b2z:Beg iA (V5 iA).1/\(V5 iA).2=(1,0):=c1G a9R rfl U4 U4
theorem c4F{e:Eng}(h:EI e)(d:e.X.length=1):Fw 0 e e:=a0p h d rfl rfl rfl rfl
theorem b7m(c:Bz):∀i,Fw i (V5 iA).1 (pE c i)
 |0=>c4F b2z.1.ei b2z.1.ln
 |i+1=>by
  have h:=b7m c i;exact h.tr (b6A h.ei h.ln (gV _))
structure EeP(c:Bz):Prop where
 a:Com (pE c 5) (eE c)
 b:(U8 (pE c 5) 1).2=0
 nx:(eE c).N=2
 lg:(eE c).s.L.length<=7
theorem a9o(c:Bz):EeP c:=by
 have h:=b7m c 5;have d:((pE c 5).X.getD 0 dz).id=1:=h.id.trans b2z.1.id;obtain⟨a,b⟩:=c5Z h.ei h.ln;rw[d] at a b;have l:=h.lg;have l2:(V5 iA).1.s.L.length=1:=b2z.1.lg;have L:(eE c).s.L.length=(pE c 5).s.L.length+1:=a.lg;exact⟨a,b,a.nx.trans (h.nx.trans b2z.1.nx),Z9⟩
theorem fD(c:Bz):Beg (eE c) (V5 (eE c)).1/\(V5 (eE c)).2=(2,0):=by
 have h:=a9o c;have n:=h.nx;have l:=h.lg;have:=c1G h.a.ei h.a.tx Z9 Z9
 rw[n] at this;exact this
theorem c2y{c m:Bz}{i:Nat}(h:EI (qE c m i))(d:(qE c m i).X.length=1):Fw 1 (qE c m i) (qE c m (i+1)):=by
 show Fw 1 (qE c m i) (if atV m i 3=0 then(H8 (qE c m i) 2 1 (rwO (UInt8.ofNat i::m)).id).1 else(M6 (qE c m i) 2 1 (rwO (UInt8.ofNat i::m))).1)
 split
 ·exact c3F h d (b38 _)
 ·exact b6A h d (gV _)
theorem qM(c m:Bz):∀i,Fw i (V5 (eE c)).1 (qE c m i)
 |0=>c4F (fD c).1.ei (fD c).1.ln
 |i+1=>by
  have h:=qM c m i;exact h.tr (c2y h.ei h.ln)
theorem c1v(c m:Bz):∀i,Fw i (qE c m 3) (qE c m (3+i))
 |0=>c4F (qM c m 3).ei (qM c m 3).ln
 |i+1=>by
  have h:=c1v c m i;exact h.tr (c2y h.ei h.ln)
theorem c12(c m:Bz)(i:Nat):((qE c m i).X.getD 0 dz).id=2:=(qM c m i).id.trans ((fD c).1.id.trans (a9o c).nx)
theorem c2x(c m:Bz)(i:Nat):sZ (qE c m i).s.L 0 61 ((qE c m i).X.getD 0 dz).Z (vw (qE c m i).s)=vw (eE c).s:=by
 have h:=(qM c m i).bk 0 (Int.le_refl 0) (by
  have b:=(fD c).1;have:=B2 (b.ei.h.ow 0 (by rw[b.ln];decide))
  omega)
 rw[h,(fD c).1.v,(fD c).1.w]
structure AbP(c m:Bz):Prop where
 ba:EI (baE c m)
 b0:(V9 (qE c m 6) 2 (laE c m)).2=0
 bv:vw (baE c m).s=vw (qE c m 3).s
 go:EI (goE c m)
 g0:(qQ (baE c m) 2).2=0
 gv:vw (goE c m).s=vw (eE c).s
 gt:(goE c m).X.length=0
 gh:(goE c m).lk.H.length=0
 di:EI (diE c m)
 d0:(qQ (qE c m 6) 2).2=0
 dv:vw (diE c m).s=vw (eE c).s
theorem c7N(c m:Bz):AbP c m:=by
 have f:=qM c m 6;have d:=c1v c m 3;have g:=qM c m 3;have i:=c12 c m 6;have j:=c12 c m 3;have ow:=d.ow _ _ (g.ei.h.ow 0 (by rw[g.ln];decide))
 rw[j] at ow;obtain⟨r,R⟩:=c6n f.ei f.ln (to:=laE c m) d.la (by rw[i];exact ow)
 rw[i] at r R;have e:=B2 ow;have V:=r.v;have bk:=(d.bk (laE c m) (by have l:1<=laE c m:=e.1;omega) (Int.le_refl _)).trans (c47 (Int.le_refl _))
 have B:((baE c m).X.getD 0 dz).id=2:=r.id.trans i;obtain⟨a,A⟩:=c1V r.ei r.ln;have I:((V9 (qE c m 6) 2 (laE c m)).1.1.X.getD 0 dz).id=2:=B;rw[I] at a A;obtain⟨b,b0⟩:=c1V f.ei f.ln;rw[i] at b b0;exact⟨r.ei,R,V.trans bk,a.ei,A,a.v.trans (r.b.trans (c2x c m 6)),a.tx,a.hd,b.ei,b0,b.v.trans (c2x c m 6)⟩
def c5o:Con:=.rel ⟨Eng,λe=>[.agg e.ts],λe=>.tup [.agg (V5 e).1.ts,Ji (V5 e).2.1,Ji (V5 e).2.2],λe=>EI e⟩
theorem b8Y:GK 6 c5o:=gk func6<|λ(e:Eng) (h:EI e)=>by
 have o:=h.ok;refine R1 (gC v7 (gC vA (gC b8a gN))) func6 Y5 (α:=let k:=(V5 e).1.s.fr.length;∃(x:D5.ι),(((F9 e x)/\True)/\tF x)/\br (!U3 x) (((V5 e).1.s.d.E.length=0/\(V5 e).1.s.d.C.length=0/\false=(V5 e).1.s.d.A/\(V5 e).1.s.d.keep.length=0/\0=(V5 e).1.s.ep/\(V5 e).1.s.L.length=0/\0=(V5 e).1.s.S/\k=0/\0=(V5 e).1.s.J/\false=(V5 e).1.up/\(V5 e).1.X.length=0/\(V5 e).1.lk.H.length=0/\(V5 e).1.lk.W.length=0/\0=(V5 e).1.N/\True)/\0=(V5 e).2.1/\1=(V5 e).2.2/\True) (∃(x:Eng),let m:=x.s.d;(((F9 e x)/\True)/\O3 x)/\∃(X:(Eng×Nat)),let n:=(V5 X.1).1.X.length;let j:=(V5 X.1).1.s.L.length;let w:=(V5 X.1).1.lk.W.length;let y:=(V5 X.1).1.lk.H.length;let v:=(V5 X.1).1.s.d.C.length;let u:=(V5 X.1).1.s.d.E.length;let z:=(V5 X.1).1.s.d.keep.length;let p:=(V5 X.1).1.s.fr.length;(((0=0/\0=0)/\True)/\((oo ((0=0/\m.E.length=X.1.s.d.E.length)/\(0=0/\m.C.length=X.1.s.d.C.length)/\m.A=X.1.s.d.A/\(0=0/\m.keep.length=X.1.s.d.keep.length)/\x.s.ep=X.1.s.ep/\(0=0/\x.s.L.length=X.1.s.L.length)/\x.s.S=X.1.s.S/\(0=0/\x.s.fr.length=X.1.s.fr.length)/\x.s.J=X.1.s.J/\x.up=X.1.up/\(0=0/\x.X.length=X.1.X.length)/\(0=0/\x.lk.H.length=X.1.lk.H.length)/\(0=0/\x.lk.W.length=X.1.lk.W.length)/\x.N=X.1.N/\True))/\(Z3 Z6 m.E X.1.s.d.E)/\(Z3 Z2 m.C X.1.s.d.C)/\(Z3 Z0 m.keep X.1.s.d.keep)/\(Z3 Y6 x.s.L X.1.s.L)/\(0=X.2/\x.s.fr.length=X.1.s.fr.length/\V0 x.s.fr.length (Y9 x.s.fr) (Y9 X.1.s.fr))/\(Z3 X4 x.X X.1.X)/\(Z3 Y2 x.lk.H X.1.lk.H)/\(Z3 X8 x.lk.W X.1.lk.W)/\True)/\U3 X.1=true/\tF X.1)/\∃(x:Eng),let r:=x.s.fr.length;let q:=x.s.d;((Le (0+u) u/\Le (0+v) v/\Le (0+z) z/\Le (0+j) j/\Le (0+p) p/\Le (0+n) n/\Le (0+y) y/\Le (0+w) w)/\(((Z3 Z6 (V5 X.1).1.s.d.E q.E)/\(Z3 Z2 (V5 X.1).1.s.d.C q.C)/\(V5 X.1).1.s.d.A=q.A/\(Z3 Z0 (V5 X.1).1.s.d.keep q.keep)/\(V5 X.1).1.s.ep=x.s.ep/\(Z3 Y6 (V5 X.1).1.s.L x.s.L)/\(V5 X.1).1.s.S=x.s.S/\(p=r/\Z7 p (sO (Y9 (V5 X.1).1.s.fr)) (X2 x.s.fr))/\(V5 X.1).1.s.J=x.s.J/\(V5 X.1).1.up=x.up/\(Z3 X4 (V5 X.1).1.X x.X)/\(Z3 Y2 (V5 X.1).1.lk.H x.lk.H)/\(Z3 X8 (V5 X.1).1.lk.W x.lk.W)/\(V5 X.1).1.N=x.N/\True)/\True)/\O3 x)/\(Le (0+q.E.length) q.E.length/\Le (0+q.C.length) q.C.length/\Le (0+q.keep.length) q.keep.length/\Le (0+x.s.L.length) x.s.L.length/\Le (0+r) r/\Le (0+x.X.length) x.X.length/\Le (0+x.lk.H.length) x.lk.H.length/\Le (0+x.lk.W.length) x.lk.W.length)/\((Z3 Z6 q.E (V5 e).1.s.d.E)/\(Z3 Z2 q.C (V5 e).1.s.d.C)/\q.A=(V5 e).1.s.d.A/\(Z3 Z0 q.keep (V5 e).1.s.d.keep)/\x.s.ep=(V5 e).1.s.ep/\(Z3 Y6 x.s.L (V5 e).1.s.L)/\x.s.S=(V5 e).1.s.S/\(r=k/\Z7 x.s.fr.length (sO (Y9 x.s.fr)) (X2 (V5 e).1.s.fr))/\x.s.J=(V5 e).1.s.J/\x.up=(V5 e).1.up/\(Z3 X4 x.X (V5 e).1.X)/\(Z3 Y2 x.lk.H (V5 e).1.lk.H)/\(Z3 X8 x.lk.W (V5 e).1.lk.W)/\x.N=(V5 e).1.N/\True)/\(V5 X.1).2.1=(V5 e).2.1/\(V5 X.1).2.2=(V5 e).2.2/\True)) ⟨e,⟨Z8,fH h⟩,λq=>a9a,λ_=>?_⟩
 exact⟨e,⟨Z8,h.sm⟩,(e,0),⟨Z8,Z8,o,fH h⟩,(V5 e).1,⟨Z8,Z8,c4X h.sm o⟩,Z8⟩
def c3i:Con:=.rel ⟨Eng×Int,λx=>[.agg x.1.ts,Ji x.2],λx=>.tup [.agg (U8 x.1 x.2).1.ts,Ji (U8 x.1 x.2).2],λx=>EI x.1⟩
theorem b8b:GK 10 c3i:=gk func10<|by
 rintro⟨e,tx⟩ (h:EI e);have o:=h.ok;refine R1 (gC v7 (gC vA (gC b3i gN))) func10 Y5 (α:=let q:=(U8 e tx);let z:=q.1.s;∃(x:D5.ι),(((F9 e x)/\True)/\tF x)/\br (!U3 x) ((z.d.E.length=0/\z.d.C.length=0/\false=z.d.A/\z.d.keep.length=0/\0=z.ep/\z.L.length=0/\0=z.S/\z.fr.length=0/\0=z.J/\false=q.1.up/\q.1.X.length=0/\q.1.lk.H.length=0/\q.1.lk.W.length=0/\0=q.1.N/\True)/\1=q.2/\True) (∃(x:Eng),let w:=x.s.d;(((F9 e x)/\True)/\O3 x)/\∃(X:(Eng×Int)),let p:=(U8 X.1 X.2);let y:=p.1.lk;let r:=p.1.s;let j:=r.fr.length;(((0=0/\0=0)/\tx=X.2/\True)/\((oo ((0=0/\w.E.length=X.1.s.d.E.length)/\(0=0/\w.C.length=X.1.s.d.C.length)/\w.A=X.1.s.d.A/\(0=0/\w.keep.length=X.1.s.d.keep.length)/\x.s.ep=X.1.s.ep/\(0=0/\x.s.L.length=X.1.s.L.length)/\x.s.S=X.1.s.S/\(0=0/\x.s.fr.length=X.1.s.fr.length)/\x.s.J=X.1.s.J/\x.up=X.1.up/\(0=0/\x.X.length=X.1.X.length)/\(0=0/\x.lk.H.length=X.1.lk.H.length)/\(0=0/\x.lk.W.length=X.1.lk.W.length)/\x.N=X.1.N/\True))/\(Z3 Z6 w.E X.1.s.d.E)/\(Z3 Z2 w.C X.1.s.d.C)/\(Z3 Z0 w.keep X.1.s.d.keep)/\(Z3 Y6 x.s.L X.1.s.L)/\(0=0/\x.s.fr.length=X.1.s.fr.length/\V0 x.s.fr.length (Y9 x.s.fr) (Y9 X.1.s.fr))/\(Z3 X4 x.X X.1.X)/\(Z3 Y2 x.lk.H X.1.lk.H)/\(Z3 X8 x.lk.W X.1.lk.W)/\True)/\U3 X.1=true/\tF X.1)/\∃(x:Eng),let v:=x.s.fr.length;let u:=x.s.d;((Le (0+r.d.E.length) r.d.E.length/\Le (0+r.d.C.length) r.d.C.length/\Le (0+r.d.keep.length) r.d.keep.length/\Le (0+r.L.length) r.L.length/\Le (0+j) j/\Le (0+p.1.X.length) p.1.X.length/\Le (0+y.H.length) y.H.length/\Le (0+y.W.length) y.W.length)/\(((Z3 Z6 r.d.E u.E)/\(Z3 Z2 r.d.C u.C)/\r.d.A=u.A/\(Z3 Z0 r.d.keep u.keep)/\r.ep=x.s.ep/\(Z3 Y6 r.L x.s.L)/\r.S=x.s.S/\(j=v/\Z7 r.fr.length (sO (Y9 r.fr)) (X2 x.s.fr))/\r.J=x.s.J/\p.1.up=x.up/\(Z3 X4 p.1.X x.X)/\(Z3 Y2 y.H x.lk.H)/\(Z3 X8 y.W x.lk.W)/\p.1.N=x.N/\True)/\True)/\O3 x)/\(Le (0+u.E.length) u.E.length/\Le (0+u.C.length) u.C.length/\Le (0+u.keep.length) u.keep.length/\Le (0+x.s.L.length) x.s.L.length/\Le (0+v) v/\Le (0+x.X.length) x.X.length/\Le (0+x.lk.H.length) x.lk.H.length/\Le (0+x.lk.W.length) x.lk.W.length)/\((Z3 Z6 u.E z.d.E)/\(Z3 Z2 u.C z.d.C)/\u.A=z.d.A/\(Z3 Z0 u.keep z.d.keep)/\x.s.ep=z.ep/\(Z3 Y6 x.s.L z.L)/\x.s.S=z.S/\(v=z.fr.length/\Z7 x.s.fr.length (sO (Y9 x.s.fr)) (X2 z.fr))/\x.s.J=z.J/\x.up=q.1.up/\(Z3 X4 x.X q.1.X)/\(Z3 Y2 x.lk.H q.1.lk.H)/\(Z3 X8 x.lk.W q.1.lk.W)/\x.N=q.1.N/\True)/\p.2=q.2/\True)) ⟨e,⟨Z8,fH h⟩,λq=>a9a,λ_=>?_⟩
 exact⟨e,⟨Z8,h.sm⟩,(e,tx),⟨Z8,Z8,o,fH h⟩,(U8 e tx).1,⟨Z8,Z8,b86 h.sm o⟩,Z8⟩
def c4K:Con:=.rel ⟨Eng×Int×Int,λx=>[.agg x.1.ts,Ji x.2.1,Ji x.2.2],λx=>.tup [.agg (V9 x.1 x.2.1 x.2.2).1.1.ts,Ji (V9 x.1 x.2.1 x.2.2).2],λx=>EI x.1⟩
theorem c0S:GK 17 c4K:=gk func17<|by
 rintro⟨e,tx,lsn⟩ (h:EI e);have o:=h.ok;refine R1 (gC v7 (gC vA (gC b5V gN))) func17 Y5 (α:=let q:=(V9 e tx lsn);let w:=q.1.1;let z:=w.s;∃(x:D5.ι),(((F9 e x)/\True)/\tF x)/\br (!U3 x) ((z.d.E.length=0/\z.d.C.length=0/\false=z.d.A/\z.d.keep.length=0/\0=z.ep/\z.L.length=0/\0=z.S/\z.fr.length=0/\0=z.J/\false=w.up/\w.X.length=0/\w.lk.H.length=0/\w.lk.W.length=0/\0=w.N/\True)/\1=q.2/\True) (∃(x:Eng),let j:=x.s.d;(((F9 e x)/\True)/\O3 x)/\∃(X:(Eng×Int×Int)),let p:=(V9 X.1 X.2.1 X.2.2);let v:=p.1.1;let r:=v.s;let k:=r.fr.length;(((0=0/\0=0)/\tx=X.2.1/\lsn=X.2.2/\True)/\((oo ((0=0/\j.E.length=X.1.s.d.E.length)/\(0=0/\j.C.length=X.1.s.d.C.length)/\j.A=X.1.s.d.A/\(0=0/\j.keep.length=X.1.s.d.keep.length)/\x.s.ep=X.1.s.ep/\(0=0/\x.s.L.length=X.1.s.L.length)/\x.s.S=X.1.s.S/\(0=0/\x.s.fr.length=X.1.s.fr.length)/\x.s.J=X.1.s.J/\x.up=X.1.up/\(0=0/\x.X.length=X.1.X.length)/\(0=0/\x.lk.H.length=X.1.lk.H.length)/\(0=0/\x.lk.W.length=X.1.lk.W.length)/\x.N=X.1.N/\True))/\(Z3 Z6 j.E X.1.s.d.E)/\(Z3 Z2 j.C X.1.s.d.C)/\(Z3 Z0 j.keep X.1.s.d.keep)/\(Z3 Y6 x.s.L X.1.s.L)/\(0=0/\x.s.fr.length=X.1.s.fr.length/\V0 x.s.fr.length (Y9 x.s.fr) (Y9 X.1.s.fr))/\(Z3 X4 x.X X.1.X)/\(Z3 Y2 x.lk.H X.1.lk.H)/\(Z3 X8 x.lk.W X.1.lk.W)/\True)/\U3 X.1=true/\O3 X.1)/\∃(x:Eng),let y:=x.s.fr.length;let u:=x.s.d;((Le (0+r.d.E.length) r.d.E.length/\Le (0+r.d.C.length) r.d.C.length/\Le (0+r.d.keep.length) r.d.keep.length/\Le (0+r.L.length) r.L.length/\Le (0+k) k/\Le (0+v.X.length) v.X.length/\Le (0+v.lk.H.length) v.lk.H.length/\Le (0+v.lk.W.length) v.lk.W.length)/\(((Z3 Z6 r.d.E u.E)/\(Z3 Z2 r.d.C u.C)/\r.d.A=u.A/\(Z3 Z0 r.d.keep u.keep)/\r.ep=x.s.ep/\(Z3 Y6 r.L x.s.L)/\r.S=x.s.S/\(k=y/\Z7 r.fr.length (sO (Y9 r.fr)) (X2 x.s.fr))/\r.J=x.s.J/\v.up=x.up/\(Z3 X4 v.X x.X)/\(Z3 Y2 v.lk.H x.lk.H)/\(Z3 X8 v.lk.W x.lk.W)/\v.N=x.N/\True)/\True)/\O3 x)/\(Le (0+u.E.length) u.E.length/\Le (0+u.C.length) u.C.length/\Le (0+u.keep.length) u.keep.length/\Le (0+x.s.L.length) x.s.L.length/\Le (0+y) y/\Le (0+x.X.length) x.X.length/\Le (0+x.lk.H.length) x.lk.H.length/\Le (0+x.lk.W.length) x.lk.W.length)/\((Z3 Z6 u.E z.d.E)/\(Z3 Z2 u.C z.d.C)/\u.A=z.d.A/\(Z3 Z0 u.keep z.d.keep)/\x.s.ep=z.ep/\(Z3 Y6 x.s.L z.L)/\x.s.S=z.S/\(y=z.fr.length/\Z7 x.s.fr.length (sO (Y9 x.s.fr)) (X2 z.fr))/\x.s.J=z.J/\x.up=w.up/\(Z3 X4 x.X w.X)/\(Z3 Y2 x.lk.H w.lk.H)/\(Z3 X8 x.lk.W w.lk.W)/\x.N=w.N/\True)/\p.2=q.2/\True)) ⟨e,⟨Z8,fH h⟩,λq=>a9a,λ_=>?_⟩
 exact⟨e,⟨Z8,h.sm⟩,(e,tx,lsn),⟨Z8,Z8,o,h.sm⟩,(V9 e tx lsn).1.1,⟨Z8,Z8,b7d h.sm o⟩,Z8⟩
def c4e:Con:=.rel ⟨Eng×Int×Int,λx=>[.agg x.1.ts,Ji x.2.1,Ji x.2.2],λx=>.tup [.agg (V9 x.1 x.2.1 x.2.2).1.1.ts,Ji (V9 x.1 x.2.1 x.2.2).2],λx=>EI x.1⟩
theorem c39{e:Eng}(h:EI e)(tx lsn:Int):yF e tx lsn=((V9 e tx lsn).1.1,(V9 e tx lsn).2):=if_pos h.ok
theorem b9t:GK 18 c4e:=gk func18<|by
 rintro⟨e,tx,lsn⟩ (h:EI e);have:=b5M.1 (e,tx,lsn) ⟨fH h,h.sm⟩;dsimp only at this;rw[c39 h] at this;exact this
def c4o:Con:=.rel ⟨Eng×Int×Rw,λx=>[.agg x.1.ts,Ji x.2.1,Ji 1,.agg x.2.2.ts],λx=>.tup [.agg (M6 x.1 x.2.1 1 x.2.2).1.ts,Ji (M6 x.1 x.2.1 1 x.2.2).2],λx=>EI x.1/\L4 x.2.2=true⟩
theorem c4i(e:Eng)(tx:Int)(r:Rw)(Z:Eng×Int)(h:
  ∃(x:nS.ι),(((r.id=x.id/\r.n.k=x.n.k/\r.n.n=x.n.n/\r.n.t=x.n.t/\r.name.k=x.name.k/\r.name.n=x.name.n/\r.name.t=x.name.t/\True)/\True)/\RwB x)/\∃(g:Int),((1=g/\True)/\True)/\∃(f:(Eng×Bool×Bool)),(((F9 e f.1)/\L4 x=f.2.1/\V8 g (1:Int) 3=f.2.2/\True)/\tF f.1)/\br (zB (U3 f.1) f.2.1 f.2.2 !=(0:Int)) ((Z.1.s.d.E.length=0/\Z.1.s.d.C.length=0/\false=Z.1.s.d.A/\Z.1.s.d.keep.length=0/\0=Z.1.s.ep/\Z.1.s.L.length=0/\0=Z.1.s.S/\Z.1.s.fr.length=0/\0=Z.1.s.J/\false=Z.1.up/\Z.1.X.length=0/\Z.1.lk.H.length=0/\Z.1.lk.W.length=0/\0=Z.1.N/\True)/\zB (U3 f.1) f.2.1 f.2.2=Z.2/\True) (∃(x:Eng),let y:=x.s.d;(((F9 e x)/\True)/\O3 x)/\∃(X:(Eng×Int×Int×Rw×Bool)),let p:=(F7 X.1 X.2.1 X.2.2.1 X.2.2.2.1 X.2.2.2.2);let u:=p.1.1;let q:=u.s;let w:=q.fr.length;(((0=0/\0=0)/\tx=X.2.1/\1=X.2.2.1/\(r.id=X.2.2.2.1.id/\r.n.k=X.2.2.2.1.n.k/\r.n.n=X.2.2.2.1.n.n/\r.n.t=X.2.2.2.1.n.t/\r.name.k=X.2.2.2.1.name.k/\r.name.n=X.2.2.2.1.name.n/\r.name.t=X.2.2.2.1.name.t/\True)/\false=X.2.2.2.2/\True)/\((oo ((0=0/\y.E.length=X.1.s.d.E.length)/\(0=0/\y.C.length=X.1.s.d.C.length)/\y.A=X.1.s.d.A/\(0=0/\y.keep.length=X.1.s.d.keep.length)/\x.s.ep=X.1.s.ep/\(0=0/\x.s.L.length=X.1.s.L.length)/\x.s.S=X.1.s.S/\(0=0/\x.s.fr.length=X.1.s.fr.length)/\x.s.J=X.1.s.J/\x.up=X.1.up/\(0=0/\x.X.length=X.1.X.length)/\(0=0/\x.lk.H.length=X.1.lk.H.length)/\(0=0/\x.lk.W.length=X.1.lk.W.length)/\x.N=X.1.N/\True))/\(Z3 Z6 y.E X.1.s.d.E)/\(Z3 Z2 y.C X.1.s.d.C)/\(Z3 Z0 y.keep X.1.s.d.keep)/\(Z3 Y6 x.s.L X.1.s.L)/\(0=0/\x.s.fr.length=X.1.s.fr.length/\V0 x.s.fr.length (Y9 x.s.fr) (Y9 X.1.s.fr))/\(Z3 X4 x.X X.1.X)/\(Z3 Y2 x.lk.H X.1.lk.H)/\(Z3 X8 x.lk.W X.1.lk.W)/\True)/\b0N X.1 X.2.2.1 X.2.2.2.1)/\∃(x:Eng),let v:=x.s.fr.length;let z:=x.s.d;((Le (0+q.d.E.length) q.d.E.length/\Le (0+q.d.C.length) q.d.C.length/\Le (0+q.d.keep.length) q.d.keep.length/\Le (0+q.L.length) q.L.length/\Le (0+w) w/\Le (0+u.X.length) u.X.length/\Le (0+u.lk.H.length) u.lk.H.length/\Le (0+u.lk.W.length) u.lk.W.length)/\(((Z3 Z6 q.d.E z.E)/\(Z3 Z2 q.d.C z.C)/\q.d.A=z.A/\(Z3 Z0 q.d.keep z.keep)/\q.ep=x.s.ep/\(Z3 Y6 q.L x.s.L)/\q.S=x.s.S/\(w=v/\Z7 q.fr.length (sO (Y9 q.fr)) (X2 x.s.fr))/\q.J=x.s.J/\u.up=x.up/\(Z3 X4 u.X x.X)/\(Z3 Y2 u.lk.H x.lk.H)/\(Z3 X8 u.lk.W x.lk.W)/\u.N=x.N/\True)/\True)/\O3 x)/\(Le (0+z.E.length) z.E.length/\Le (0+z.C.length) z.C.length/\Le (0+z.keep.length) z.keep.length/\Le (0+x.s.L.length) x.s.L.length/\Le (0+v) v/\Le (0+x.X.length) x.X.length/\Le (0+x.lk.H.length) x.lk.H.length/\Le (0+x.lk.W.length) x.lk.W.length)/\((Z3 Z6 z.E Z.1.s.d.E)/\(Z3 Z2 z.C Z.1.s.d.C)/\z.A=Z.1.s.d.A/\(Z3 Z0 z.keep Z.1.s.d.keep)/\x.s.ep=Z.1.s.ep/\(Z3 Y6 x.s.L Z.1.s.L)/\x.s.S=Z.1.s.S/\(v=Z.1.s.fr.length/\Z7 x.s.fr.length (sO (Y9 x.s.fr)) (X2 Z.1.s.fr))/\x.s.J=Z.1.s.J/\x.up=Z.1.up/\(Z3 X4 x.X Z.1.X)/\(Z3 Y2 x.lk.H Z.1.lk.H)/\(Z3 X8 x.lk.W Z.1.lk.W)/\x.N=Z.1.N/\True)/\p.2=Z.2/\True)):
  U5 prog 7 [.agg e.ts,Ji tx,Ji 1,.agg r.ts] (.tup [.agg Z.1.ts,Ji Z.2]):=
 R1 (gC a5z (gC pL (gC a3w (gC vA (gC a0u gN))))) func7 Y5 h
theorem c7k{r:Rw}(h:L4 r=true):RwB r:=by
 obtain⟨⟨a,b,_⟩,_⟩:=a9I h;have d:=a.1;have e:=b.1;exact⟨by unfold cL M3;omega,by unfold cL M3;omega⟩
theorem c0b:GK 7 c4o:=gk func7<|by
 rintro⟨e,tx,r⟩ ⟨h,R⟩;dsimp only at h R ⊢;have d:zB (U3 e) (L4 r) (V8 1 1 3)=0:=by rw[h.ok,R];rfl
 have C:=c6j (ta:=1) (e:=e) (r:=r) (by rw[d];rfl) h.sm
 rw[c2n d];refine c4i e tx r ((F7 e tx 1 r false).1.1,(F7 e tx 1 r false).2) ⟨r,⟨Z8,c7k R⟩,1,Z8,(e,L4 r,V8 1 1 3),⟨Z8,fH h⟩,λq=>?_,λ_=>?_⟩
 ·exact absurd d (c1M q)
 ·exact⟨e,⟨Z8,h.sm⟩,(e,tx,1,r,false),⟨Z8,Z8,C⟩,(F7 e tx 1 r false).1.1,⟨Z8,Z8,b7A C⟩,Z8⟩
def c2C:Con:=.rel ⟨Eng×Int×Int,λx=>[.agg x.1.ts,Ji x.2.1,Ji 1,Ji x.2.2],λx=>.tup [.agg (H8 x.1 x.2.1 1 x.2.2).1.ts,Ji (H8 x.1 x.2.1 1 x.2.2).2],λx=>EI x.1/\0<=x.2.2/\x.2.2<=1000⟩
theorem c5v(e:Eng)(tx id:Int)(Z:Eng×Int)(h:
  ∃(x:Int),((1=x/\True)/\True)/\∃(g:Int),(V8 x (1:Int) 3=true->(id=g/\True)/\True)/\∃(f:(Eng×Bool×Bool)),(((F9 e f.1)/\true=f.2.1/\(V8 x (1:Int) (3:Int)&&V8 g (0:Int) (1000:Int))=f.2.2/\True)/\tF f.1)/\br (zB (U3 f.1) f.2.1 f.2.2 !=(0:Int)) ((Z.1.s.d.E.length=0/\Z.1.s.d.C.length=0/\false=Z.1.s.d.A/\Z.1.s.d.keep.length=0/\0=Z.1.s.ep/\Z.1.s.L.length=0/\0=Z.1.s.S/\Z.1.s.fr.length=0/\0=Z.1.s.J/\false=Z.1.up/\Z.1.X.length=0/\Z.1.lk.H.length=0/\Z.1.lk.W.length=0/\0=Z.1.N/\True)/\zB (U3 f.1) f.2.1 f.2.2=Z.2/\True) (∃(x:Eng),let v:=x.s.d;(((F9 e x)/\True)/\O3 x)/\∃(X:(Eng×Int×Int×Rw×Bool)),let p:=(F7 X.1 X.2.1 X.2.2.1 X.2.2.2.1 X.2.2.2.2);let z:=p.1.1;let q:=z.s;let y:=q.fr.length;(((0=0/\0=0)/\tx=X.2.1/\1=X.2.2.1/\(id=X.2.2.2.1.id/\0=X.2.2.2.1.n.k/\0=X.2.2.2.1.n.n/\[]=X.2.2.2.1.n.t/\0=X.2.2.2.1.name.k/\0=X.2.2.2.1.name.n/\[]=X.2.2.2.1.name.t/\True)/\true=X.2.2.2.2/\True)/\((oo ((0=0/\v.E.length=X.1.s.d.E.length)/\(0=0/\v.C.length=X.1.s.d.C.length)/\v.A=X.1.s.d.A/\(0=0/\v.keep.length=X.1.s.d.keep.length)/\x.s.ep=X.1.s.ep/\(0=0/\x.s.L.length=X.1.s.L.length)/\x.s.S=X.1.s.S/\(0=0/\x.s.fr.length=X.1.s.fr.length)/\x.s.J=X.1.s.J/\x.up=X.1.up/\(0=0/\x.X.length=X.1.X.length)/\(0=0/\x.lk.H.length=X.1.lk.H.length)/\(0=0/\x.lk.W.length=X.1.lk.W.length)/\x.N=X.1.N/\True))/\(Z3 Z6 v.E X.1.s.d.E)/\(Z3 Z2 v.C X.1.s.d.C)/\(Z3 Z0 v.keep X.1.s.d.keep)/\(Z3 Y6 x.s.L X.1.s.L)/\(0=0/\x.s.fr.length=X.1.s.fr.length/\V0 x.s.fr.length (Y9 x.s.fr) (Y9 X.1.s.fr))/\(Z3 X4 x.X X.1.X)/\(Z3 Y2 x.lk.H X.1.lk.H)/\(Z3 X8 x.lk.W X.1.lk.W)/\True)/\b0N X.1 X.2.2.1 X.2.2.2.1)/\∃(x:Eng),let u:=x.s.fr.length;let r:=x.s.d;((Le (0+q.d.E.length) q.d.E.length/\Le (0+q.d.C.length) q.d.C.length/\Le (0+q.d.keep.length) q.d.keep.length/\Le (0+q.L.length) q.L.length/\Le (0+y) y/\Le (0+z.X.length) z.X.length/\Le (0+z.lk.H.length) z.lk.H.length/\Le (0+z.lk.W.length) z.lk.W.length)/\(((Z3 Z6 q.d.E r.E)/\(Z3 Z2 q.d.C r.C)/\q.d.A=r.A/\(Z3 Z0 q.d.keep r.keep)/\q.ep=x.s.ep/\(Z3 Y6 q.L x.s.L)/\q.S=x.s.S/\(y=u/\Z7 q.fr.length (sO (Y9 q.fr)) (X2 x.s.fr))/\q.J=x.s.J/\z.up=x.up/\(Z3 X4 z.X x.X)/\(Z3 Y2 z.lk.H x.lk.H)/\(Z3 X8 z.lk.W x.lk.W)/\z.N=x.N/\True)/\True)/\O3 x)/\(Le (0+r.E.length) r.E.length/\Le (0+r.C.length) r.C.length/\Le (0+r.keep.length) r.keep.length/\Le (0+x.s.L.length) x.s.L.length/\Le (0+u) u/\Le (0+x.X.length) x.X.length/\Le (0+x.lk.H.length) x.lk.H.length/\Le (0+x.lk.W.length) x.lk.W.length)/\((Z3 Z6 r.E Z.1.s.d.E)/\(Z3 Z2 r.C Z.1.s.d.C)/\r.A=Z.1.s.d.A/\(Z3 Z0 r.keep Z.1.s.d.keep)/\x.s.ep=Z.1.s.ep/\(Z3 Y6 x.s.L Z.1.s.L)/\x.s.S=Z.1.s.S/\(u=Z.1.s.fr.length/\Z7 x.s.fr.length (sO (Y9 x.s.fr)) (X2 Z.1.s.fr))/\x.s.J=Z.1.s.J/\x.up=Z.1.up/\(Z3 X4 x.X Z.1.X)/\(Z3 Y2 x.lk.H Z.1.lk.H)/\(Z3 X8 x.lk.W Z.1.lk.W)/\x.N=Z.1.N/\True)/\p.2=Z.2/\True)):
  U5 prog 11 [.agg e.ts,Ji tx,Ji 1,Ji id] (.tup [.agg Z.1.ts,Ji Z.2]):=
 R1 (gC pL (gC a96 (gC a3w (gC vA (gC a0u gN))))) func11 Y5 h
theorem b92:GK 11 c2C:=gk func11<|by
 rintro⟨e,tx,id⟩ ⟨h,hi⟩;dsimp only at h hi ⊢;have d:zB (U3 e) true (V8 1 1 3&&V8 id 0 1000)=0:=by rw[h.ok,S2.2 hi];rfl
 have C:=c50 (ta:=1) (id:=id) (e:=e) (by rw[d];rfl) h.sm
 rw[c2c d];refine c5v e tx id ((F7 e tx 1 (bU id) true).1.1,(F7 e tx 1 (bU id) true).2) ⟨1,Z8,id,λ_=>Z8,(e,true,V8 1 1 3&&V8 id 0 1000),⟨Z8,fH h⟩,λq=>?_,λ_=>?_⟩
 ·exact absurd d (c1M q)
 ·exact⟨e,⟨Z8,h.sm⟩,(e,tx,1,bU id,true),⟨Z8,Z8,C⟩,(F7 e tx 1 (bU id) true).1.1,⟨Z8,Z8,b7A C⟩,Z8⟩
def bX:Con:=.rel ⟨Int,λe=>[Ji e],λe=>.bys (hdB e),λ_=>True⟩
theorem bH(e:Int)(h:
let q:=(104:Int);let p:=(List.map P9 [q,IntKind.u8.wrap e]);  (O1 IntKind.u8 q/\O1 IntKind.u8 (IntKind.u8.wrap e))/\yK 2 p/\List.map P9 [q,IntKind.u8.wrap e]++z7 (j3 p)=hdB e):
  U5 prog 50 [Ji e] (.bys (hdB e)):=
 R1 (gC a0D gN) func50 Y5 h
theorem gW:GK 50 bX:=gk func50<|λe _=>bH e ⟨⟨(i8 _).2 Z9,N9 _⟩,⟨rfl,by show 2<=1000000;decide⟩,rfl⟩
def a6Z:Con:=.rmk ⟨Nat,λn=>[Ji n],λ_=>[],λn=>.tup [.agg ((c6m n).tm 0),Ji 0],λn=>(c6m n).hp,λn=>1<=n/\n<=100⟩
theorem a5c:GK 49 a6Z:=gk func49<|by
 rintro n ⟨f,d⟩;have e:(n:Int).toNat=(j7 n).length:=by simp[j7]
 have hi:V8 (n:Int) 1 100=true:=S2.2 Z9
 refine⟨r9 (gC P1 gN) func49 Y5 [[.nilS 0 [0,0] 0 1,.nilS 0 [0,1] 0 2,.nilS 0 [0,3] 0 1,.vl 0 [0,0],.vl 0 [0,1],.vl 0 [0,3]],[.nilS 0 [0,1] 0 2,.nilS 0 [0,3] 0 1,.vl 0 [0,0],.vl 0 [0,1],.vl 0 [0,3]]] (α:=let z:=(0=0/\0=0);let r:=(j7 n).length;let q:=(n:Int).toNat;let p:=(λ(x:Nat)=>[]);let v:=(0=0/\Z7 0 p (Z0 []));let u:=(0=0/\Z7 0 p (Z2 []));br (!V8 (n:Int) (1:Int) (100:Int)) (((((0=0/\0=r)/\z/\false=false/\z/\True)/\(4:Int)=0/\True)/\True)/\(0=r/\Z7 0 p (Z6 (j7 n)))/\u/\v/\True) ((Nn (n:Int)/\LeI (n:Int) (n:Int)/\mB 16 q 140737488355328/\Lt q 9223372036854775808)/\((((0=0/\q=r)/\z/\false=false/\z/\True)/\(0:Int)=0/\True)/\True)/\(q=r/\Z7 q (λ(x:Nat)=>[T.str []]) (Z6 (j7 n)))/\u/\v/\True)) ⟨λh=>(by rw[hi] at h;cases h),λ_=>⟨⟨tJ,a9Z,a5n,H3⟩,⟨⟨⟨⟨rfl,e⟩,Z8⟩,Z8⟩,Z5⟩,⟨e,λi hi=>?_⟩,⟨rfl,A8⟩,⟨rfl,A8⟩,Z5⟩⟩,rfl,rE _⟩
 unfold Z6 j7;rw[Q8,List.getElem?_replicate]
 split<;>rfl
def b49:Con:=.rel ⟨Unit,λ_=>[],λ_=>.agg a7c.ts,λ_=>True⟩
theorem b08:GK 22 b49:=gk func22<|by
 intro _ _;have h:(j7 69).length=69:=List.length_replicate;exact R1 (gC a5c (gC gW gN)) func22 Y5 (α:=∃(x:Nat),let p:=(j7 x).length;((69=(x:Int)/\True)/\1<=x/\x<=100)/\∃(X:Int),((1=X/\True)/\True)/\V3 (0:Int) p/\Lt 0 p/\(Le (0+p) p/\Le 0 0/\Le 0 0)/\(p=69/\Z7 p (setRow (Z6 (j7 x)) 0 0 [T.str (hdB X)]) (Z6 ((j7 69).set 0 (hdB (1:Int)))))/\(0=0/\Z7 0 (Z2 []) (Z2 []))/\false=false/\(0=0/\Z7 0 (Z0 []) (Z0 []))/\(1:Int)=1/\0=0/\(0:Int)=0/\0=0/\(0:Int)=0/\True) ⟨69,⟨Z8,U4,U4⟩,1,Z8,⟨U4,Z9⟩,H3,⟨C9,P2⟩,⟨h,λj J=>iZ j J⟩,P2,rfl,P2⟩
def b5l:Con:=.rel ⟨Unit,λ_=>[],λ_=>.agg iA.ts,λ_=>True⟩
theorem b39(h:
let p:=(Z6 ((j7 69).set 0 (hdB (1:Int))));  ∃(x:Unit),(True/\True)/\(69=69/\Z7 69 p p)/\(0=0/\Z7 0 (Z2 []) (Z2 []))/\false=false/\(0=0/\Z7 0 (Z0 []) (Z0 []))/\(1:Int)=1/\(0=0/\Z7 0 (Y6 []) (Y6 []))/\(0:Int)=0/\(0=0/\Z7 0 (X2 []) (X2 []))/\(0:Int)=0/\true=true/\0=0/\0=0/\0=0/\(1:Int)=1/\True):
  U5 prog 5 [] (.agg iA.ts):=
 R1 (gC b08 gN) func5 Y5 h
theorem b27:GK 5 b5l:=gk func5<|λ_ _=>b39 ⟨(),Z8⟩
def c4s:Con:=.reff ⟨Bz,λc=>[.bys c],λ_=>[],λ_=>.ref 0 0 0,λc=>[uP (J7 c)],λc=>c.length<=2000000⟩
theorem b8d:GK 29 c4s:=gk func29<|λc _=>a3V c ⟨a0S,P2,P2⟩
def c30:Con:=.rel ⟨Bz,λc=>[.bys c],λc=>.agg (jG (J7 c)).2.ts,λc=>c.length<=2000000⟩
theorem b8z:GK 9 c30:=gk func9<|by
 intro(c:Bz) (hc:c.length<=2000000);exact R1 (gC b8d (gC c0I gN)) func9 Y5 (α:=let u:=(T1 (S1 (J7 c) (6:Int)));let p:=(y5 (u6 (J7 c)) u.2);let r:=(xB p.1 (T1 u.1).2);∃(x:(Bz)),((c=x/\True)/\True/\x.length<=2000000)/\∃(X:Src),let v:=(T1 (S1 X (6:Int)));let q:=(y5 (u6 X) v.2);let z:=(xB q.1 (T1 v.1).2);(((0=0/\0=0)/\True)/\((1=1/\Z7 1 (λ(x_2:Nat)=>[T.bys x,Ji (↑(0:Nat):Int),Ji ((↑(x.length):Int).tmod (1000:Int))]) λ(x:Nat)=>[T.bys X.c,Ji (X.at_:Int),Ji X.sd])/\True)/\O5 X 50000)/\y7 X 6=y7 (J7 c) (6:Int)/\q.2.k=p.2.k/\q.2.n=p.2.n/\q.2.t=p.2.t/\z.2.k=r.2.k/\z.2.n=r.2.n/\z.2.t=r.2.t/\True) ⟨c,⟨Z8,Z5,hc⟩,J7 c,⟨Z8,Z8,(a8I c).le (L8 _)⟩,Z8⟩
def c4D:Con:=.rel ⟨Eng×Nat,λx=>[.agg x.1.ts,Ji x.2],λx=>.tup [rwS (Y3 x.1.s x.2 8),Ji 0],λx=>EI x.1/\1<=x.2/\x.2<=3⟩
theorem c3Z(e:Eng)(ta:Nat)(L:List Rw)(h:
let p:=(0=L.length/\Z7 0 (tk 7 []) (L0 L));  ∃(x:D5.ι),(((F9 e x)/\True)/\tF x)/\br (!U3 x) (Le 0 0/\p/\(1:Int)=0/\True) (br (!V8 (ta:Int) (1:Int) (3:Int)) (Le 0 0/\p/\(4:Int)=0/\True) (br (!e.up) (Le 0 0/\p/\(15:Int)=0/\True) (∃(x:(Eng×Int)),(((F9 e x.1)/\(ta:Int)=x.2/\True)/\c2W x.1.s)/\(Z3 L0 (Y3 x.1.s x.2 8) L)/\(0:Int)=0/\True)))):
  U5 prog 37 [.agg e.ts,Ji ta] (.tup [rwS L,Ji 0]):=
 R1 (gC nV (gC C0 (gC a7l gN))) func37 Y5 h
theorem c0U:GK 37 c4D:=gk func37<|by
 rintro⟨e,ta⟩ ⟨h,t⟩;dsimp only at h t ⊢;have hi:V8 (ta:Int) 1 3=true:=S2.2 Z9
 exact c3Z e ta (Y3 e.s ta 8) ⟨e,⟨Z8,fH h⟩,λq=>(by rw[h.ok] at q;cases q),λ_=>⟨λq=>(by rw[hi] at q;cases q),λ_=>⟨λq=>(by rw[h.up] at q;cases q),λ_=>⟨(e,(ta:Int)),⟨Z8,c5I h.g⟩,Z8⟩⟩⟩⟩
def b15:Con:=.rel ⟨List Rw,λL=>[rwS L,rwS L],λ_=>.bool true,λL=>L.length<=1048576⟩
def b1W(L:List Rw):Nat->Ann
 |0=>.one (Up L.length) (λx=>⟨[(0,rwS L),(1,rwS L),(5,Ji x.1)],[]⟩) (λx=>L.length-x.1) [] [] (λ_=>Y5)
 |_=>.none
theorem a7i:GK 38 b15:=gk func38<|by
 intro(L:List Rw) (hL:L.length<=1048576);refine R1 gN func38 (b1W L) (α:=let z:=(L.length:Int);let r:=(Z3 L0 L L);br (z !=z) (false=true) ((∃(x:Up L.length),(r/\r/\0=(x.1:Int)/\True)/\True)/\∀(x:Up L.length),let q:=(x.1:Int);let p:=(L.getD q.toNat dz);let u:=p.name;bd (q<z) (V3 q L.length/\V3 q L.length/\br (!(p.id==p.id&&(p.n.k==p.n.k&&(p.n.n==p.n.n&&(p.n.t==p.n.t&&true))&&(u.k==u.k&&(u.n==u.n&&(u.t==u.t&&true))&&true)))) (false=true) (Ri (q+1)/\∃(y:Up L.length),((r/\r/\q+1=(y.1:Int)/\True)/\True)/\Lt (L.length-y.1) (L.length-x.1))) (true=true))) ⟨λh=>I8,λ_=>⟨⟨⟨0,L8 _⟩,Z8⟩,λx=>⟨λC=>?_,λ_=>rfl⟩⟩⟩
 have d:=Y0 C;exact⟨X9 d,X9 d,λh=>I8,λ_=>⟨V4 d Z9,⟨x.1+1,d⟩,⟨⟨Z8,Z8,W5,Z5⟩,Z5⟩,V2.ext_lt d⟩⟩
def c6D(l:Lks):Nat->Ann
 |0=>.one (Up l.H.length) (λx=>⟨[(2,.ref 0 0 0),(3,.ref 1 0 0),(5,Ji x.1)],[sI l,sI l]⟩) (λx=>l.H.length-x.1) xZ xZ (λ_=>fun
  |1=>.one (Up l.W.length) (λx=>⟨[(2,.ref 0 0 0),(3,.ref 1 0 0),(6,Ji x.1)],[sI l,sI l]⟩) (λx=>l.W.length-x.1) xZ xZ (λ_=>Y5)
  |_=>.none)
 |_=>.none
def c5K:Con:=.rel ⟨Lks,λl=>[.agg l.ts,.agg l.ts],λ_=>.bool true,λl=>l.H.length<=1048576/\l.W.length<=1048576⟩
theorem c3c:GK 46 c5K:=gk func46<|by
 rintro(l:Lks) ⟨h1,h2⟩;refine R1 gN func46 (c6D l) (α:=let k:=(false=true);let j:=(l.W.length:Int);let w:=(l.H.length:Int);let z:=(0=0/\0=0);let p:=(oo ((Z3 Y2 l.H l.H)/\(Z3 X8 l.W l.W)/\True));br (w !=w||j !=j) k ((∃(x:Up l.H.length),(z/\z/\0=(x.1:Int)/\True)/\p/\p/\True)/\∀(x:Up l.H.length),let u:=(x.1:Int);let q:=(l.H.getD u.toNat dz);bd (u<w) (V3 u l.H.length/\V3 u l.H.length/\br (!(q.tx==q.tx&&(q.ta==q.ta&&(q.row==q.row&&(q.mo==q.mo&&true))))) k (Ri (u+1)/\∃(y:Up l.H.length),((z/\z/\u+1=(y.1:Int)/\True)/\p/\p/\True)/\Lt (l.H.length-y.1) (l.H.length-x.1))) ((∃(x:Up l.W.length),(z/\z/\0=(x.1:Int)/\True)/\p/\p/\True)/\∀(x:Up l.W.length),let v:=(x.1:Int);let r:=(l.W.getD v.toNat dz);bd (v<j) (V3 v l.W.length/\V3 v l.W.length/\br (!(r.tx==r.tx&&(r.fo==r.fo&&true))) k (Ri (v+1)/\∃(y:Up l.W.length),((z/\z/\v+1=(y.1:Int)/\True)/\p/\p/\True)/\Lt (l.W.length-y.1) (l.W.length-x.1))) (true=true)))) ⟨λh=>I8,λ_=>⟨⟨⟨0,L8 _⟩,Z8⟩,λx=>⟨λC=>?_,λ_=>⟨⟨⟨0,L8 _⟩,Z8⟩,λy=>⟨λC=>?_,λ_=>rfl⟩⟩⟩⟩⟩
 ·have t:=Y0 C;exact⟨X9 t,X9 t,λh=>I8,λ_=>⟨V4 t Z9,⟨x.1+1,t⟩,⟨⟨Z8,Z8,W5,Z5⟩,Z8⟩,V2.ext_lt t⟩⟩
 ·have t:=Y0 C;exact⟨X9 t,X9 t,λh=>I8,λ_=>⟨V4 t Z9,⟨y.1+1,t⟩,⟨⟨Z8,Z8,W5,Z5⟩,Z8⟩,V2.ext_lt t⟩⟩
def c6G(e:Eng):Nat->Ann
 |0=>.one (Up e.X.length) (λx=>⟨[(2,.ref 0 0 0),(3,.ref 1 0 0),(5,Ji x.1)],[A5 e,A5 e]⟩) (λx=>e.X.length-x.1) xZ xZ (λ_=>Y5)
 |_=>.none
def c6o:Con:=.rel ⟨Eng,λe=>[.agg e.ts,.agg e.ts],λ_=>.bool true,λe=>EI e⟩
theorem c2F:GK 20 c6o:=gk func20<|by
 intro(e:Eng) (h:EI e);obtain⟨l,l2,L⟩:=c18 h;have u:(!e.up==e.up)=false:=W6
 refine R1 (gC a1R (gC c3c gN)) func20 (c6G e) (α:=let v:=(0=0/\0=0);let u:=(oo (F9 e e));let q:=(e.X.length:Int);∃(x:a9l.ι),(((yJ e.s x)/\(yJ e.s x)/\True)/\SmS x)/\∃(x:Lks),let z:=((Z3 Y2 e.lk.H x.H)/\(Z3 X8 e.lk.W x.W)/\True);((false|| !e.up==e.up||q !=q)=false->(z/\z/\True)/\x.H.length<=1048576/\x.W.length<=1048576)/\br (false|| !e.up==e.up||q !=q||false||e.N !=e.N) (false=true) ((∃(x:Up e.X.length),(v/\v/\0=(x.1:Int)/\True)/\u/\u/\True)/\∀(x:Up e.X.length),let r:=(x.1:Int);let p:=(e.X.getD r.toNat dz);bd (r<q) (V3 r e.X.length/\V3 r e.X.length/\br (!(p.id==p.id&&(p.Z==p.Z&&true))) (false=true) (Ri (r+1)/\∃(y:Up e.X.length),((v/\v/\r+1=(y.1:Int)/\True)/\u/\u/\True)/\Lt (e.X.length-y.1) (e.X.length-x.1))) (true=true))) ⟨e.s,⟨Z8,h.g.sm⟩,e.lk,λ_=>⟨Z8,Z9,Z9⟩,λq=>by simp at q,λ_=>⟨⟨⟨0,L8 _⟩,Z8⟩,λx=>⟨λC=>?_,λ_=>rfl⟩⟩⟩
 have t:=Y0 C;exact⟨X9 t,X9 t,λh=>I8,λ_=>⟨V4 t Z9,⟨x.1+1,t⟩,⟨⟨Z8,Z8,W5,Z5⟩,Z8⟩,V2.ext_lt t⟩⟩
def b9F(a b:Eng):Nat->Ann
 |0=>.one {t:Nat//1<=t/\t<=4} (λx=>⟨[(2,.ref 0 0 0),(3,.ref 1 0 0),(5,Ji x.1)],[A5 a,A5 b]⟩) (λx=>4-x.1) xZ xZ (λ_=>Y5)
 |_=>.none
def c0m:Con:=.rel ⟨Eng×Eng,λx=>[.agg x.1.ts,.agg x.2.ts],λ_=>.bool true,λx=>EI x.1/\EI x.2/\vw x.1.s=vw x.2.s⟩
theorem b5k:GK 16 c0m:=gk func16<|by
 rintro⟨a,b⟩ ⟨A,B,hv⟩;dsimp only at A B hv ⊢;refine R1 (gC c0U (gC a7i gN)) func16 (b9F a b) (α:=let q:=(0=0/\0=0);(∃(x:{t:Nat//1<=t/\t<=4}),(q/\q/\1=(x.1:Int)/\True)/\(oo (F9 a a))/\(oo (F9 b b))/\True)/\∀(x:{t:Nat//1<=t/\t<=4}),let p:=(x.1:Int);bd (p<=3) (∃(X:(Eng×Nat)),(((F9 a X.1)/\p=(X.2:Int)/\True)/\EI X.1/\1<=X.2/\X.2<=3)/\∃(d:(Eng×Nat)),(((F9 b d.1)/\p=(d.2:Int)/\True)/\EI d.1/\1<=d.2/\d.2<=3)/\∃(e:(List Rw)),(false=false->((Z3 L0 (Y3 X.1.s (X.2:Int) 8) e)/\(Z3 L0 (Y3 d.1.s (d.2:Int) 8) e)/\True)/\e.length<=1048576)/\br false (false=true) (Ri (p+1)/\∃(y:{t:Nat//1<=t/\t<=4}),((q/\q/\p+1=(y.1:Int)/\True)/\(oo (F9 a a))/\(oo (F9 b b))/\True)/\Lt (4-y.1) (4-x.1))) (true=true)) ⟨⟨⟨1,U4,U4⟩,Z8⟩,λx=>⟨λC=>?_,λ_=>rfl⟩⟩
 obtain⟨t,f,g⟩:=x;have h:t<=3:=by have:=B3 C;dsimp only at this;omega
 have l:=uH b.s (t:Int) 8;refine⟨(a,t),⟨Z8,A,f,h⟩,(b,t),⟨Z8,B,f,h⟩,Y3 b.s (t:Int) 8,λ_=>⟨⟨?_,Z8⟩,Z9⟩,λq=>(by cases q),λ_=>⟨Z1 W5,⟨t+1,Z9,Z9⟩,⟨⟨Z8,Z8,W5,Z5⟩,Z8⟩,D1⟩⟩
 dsimp only;rw[a0K hv 8 (U9 _)];exact Z8
def mE(q:Nat->Eng)(i:Nat):Eng:=if i<=2 then q 0 else q 3
def c4h(c m:Bz)(p q:Nat->Eng)(e:Eng):Nat->Ann
 |0=>.one (Up 5) (λx=>⟨[(0,.bys c),(1,.bys m),(5,.ref 0 0 0),(6,Ji 1),(7,Ji 0),(8,Ji x.1)],[A5 (p x.1)]⟩) (λx=>5-x.1) [.box 0] [.box 0] (λ_=>fun
  |1=>.one (Up 6) (λx=>⟨[(1,.bys m),(5,.ref 0 0 0),(10,.ref 1 0 0),(11,Ji 2),(12,Ji 0),(13,.ref 2 0 0),(14,Ji x.1)],[A5 e,A5 (q x.1),A5 (mE q x.1)]⟩) (λx=>6-x.1) [.box 0,.box 1,.box 2] [.box 0,.box 1,.box 2] (λ_=>Y5)
  |_=>.none)
 |_=>.none
theorem c3g(c m:Bz)(p q:Nat->Eng)(e:Eng)(h:
let qr:=(oo (F9 e e));let pt:=(decide ((c.length:Int)>1048576)||decide ((m.length:Int)>1048576));let pg:=(0=0/\0=0);  (pt=true->true=true)/\(pt=false->∃(x:Unit), (True/\True)/\∃(x:Eng),((((69=x.s.d.E.length/\Z7 69 (Z6 ((j7 69).set 0 (hdB (1:Int)))) (Z6 x.s.d.E))/\(0=x.s.d.C.length/\Z7 0 (Z2 []) (Z2 x.s.d.C))/\false=x.s.d.A/\(0=x.s.d.keep.length/\Z7 0 (Z0 []) (Z0 x.s.d.keep))/\1=x.s.ep/\(0=x.s.L.length/\Z7 0 (Y6 []) (Y6 x.s.L))/\0=x.s.S/\(0=x.s.fr.length/\Z7 0 (X2 []) (X2 x.s.fr))/\0=x.s.J/\true=x.up/\(0=x.X.length/\Z7 0 (X4 []) (X4 x.X))/\(0=x.lk.H.length/\Z7 0 (Y2 []) (Y2 x.lk.H))/\(0=x.lk.W.length/\Z7 0 (X8 []) (X8 x.lk.W))/\1=x.N/\True)/\True)/\EI x)/\(∃(x_1:Up 5),let pi:=(p x_1.val);(c=c/\m=m/\pg/\(V5 x).2.1=(1:Int)/\(V5 x).2.2=(0:Int)/\0=(x_1.val:Int)/\True)/\(oo ((Z3 Z6 (V5 x).1.s.d.E pi.s.d.E)/\(Z3 Z2 (V5 x).1.s.d.C pi.s.d.C)/\(V5 x).1.s.d.A=pi.s.d.A/\(Z3 Z0 (V5 x).1.s.d.keep pi.s.d.keep)/\(V5 x).1.s.ep=pi.s.ep/\(Z3 Y6 (V5 x).1.s.L pi.s.L)/\(V5 x).1.s.S=pi.s.S/\(Z3 X2 (V5 x).1.s.fr pi.s.fr)/\(V5 x).1.s.J=pi.s.J/\(V5 x).1.up=pi.up/\(Z3 X4 (V5 x).1.X pi.X)/\(Z3 Y2 (V5 x).1.lk.H pi.lk.H)/\(Z3 X8 (V5 x).1.lk.W pi.lk.W)/\(V5 x).1.N=pi.N/\True))/\True)/\∀(x:Up 5),let qe:=(x.1:Int);let pu:=(List.take 1 (List.map P9 [IntKind.u8.wrap qe])++c);let pa:=(p x.1);let qx:=pa.s.d;bd (qe<5) (O1 IntKind.u8 (IntKind.u8.wrap qe)/\(Le 1 1/\U2 1 c.length 1)/\∃(x_1:(Bz)),let qt:=(T1 (S1 (J7 x_1) (6:Int)));let b:=(y5 (u6 (J7 x_1)) qt.2);let pm:=(xB b.1 (T1 qt.1).2);(Le (0+(1+c.length)) pu.length/\(List.take (1+c.length) (List.drop 0 pu)=x_1/\True)/\x_1.length<=2000000)/\∃(x_2:(Eng×Int×Rw)),let qg:=x_2.1.s;let qf:=x_2.2.2;let f:=(M6 x_2.1 x_2.2.1 (1:Int) qf);let zc:=f.1.s;((((Z3 Z6 qx.E qg.d.E)/\(Z3 Z2 qx.C qg.d.C)/\qx.A=qg.d.A/\(Z3 Z0 qx.keep qg.d.keep)/\pa.s.ep=qg.ep/\(Z3 Y6 pa.s.L qg.L)/\pa.s.S=qg.S/\(Z3 X2 pa.s.fr qg.fr)/\pa.s.J=qg.J/\pa.up=x_2.1.up/\(Z3 X4 pa.X x_2.1.X)/\(Z3 Y2 pa.lk.H x_2.1.lk.H)/\(Z3 X8 pa.lk.W x_2.1.lk.W)/\pa.N=x_2.1.N/\True)/\1=x_2.2.1/\(1:Int)=1/\(y7 (J7 x_1) 6=qf.id/\b.2.k=qf.n.k/\b.2.n=qf.n.n/\b.2.t=qf.n.t/\pm.2.k=qf.name.k/\pm.2.n=qf.name.n/\pm.2.t=qf.name.t/\True)/\True)/\EI x_2.1/\L4 qf=true)/\Ri (qe+1)/\∃(y:Up 5),let po:=(p y.1);((c=c/\m=m/\pg/\(1:Int)=1/\(0:Int)=0/\qe+1=(y.1:Int)/\True)/\(oo ((Z3 Z6 zc.d.E po.s.d.E)/\(Z3 Z2 zc.d.C po.s.d.C)/\zc.d.A=po.s.d.A/\(Z3 Z0 zc.d.keep po.s.d.keep)/\zc.ep=po.s.ep/\(Z3 Y6 zc.L po.s.L)/\zc.S=po.s.S/\(Z3 X2 zc.fr po.s.fr)/\zc.J=po.s.J/\f.1.up=po.up/\(Z3 X4 f.1.X po.X)/\(Z3 Y2 f.1.lk.H po.lk.H)/\(Z3 X8 f.1.lk.W po.lk.W)/\f.1.N=po.N/\True))/\True)/\Lt (5-y.1) (5-x.1)) (∃(x_1:(Eng×Int)),let qh:=x_1.1.s;let g:=(U8 x_1.1 x_1.2);let qb:=g.1.s;((((Z3 Z6 qx.E qh.d.E)/\(Z3 Z2 qx.C qh.d.C)/\qx.A=qh.d.A/\(Z3 Z0 qx.keep qh.d.keep)/\pa.s.ep=qh.ep/\(Z3 Y6 pa.s.L qh.L)/\pa.s.S=qh.S/\(Z3 X2 pa.s.fr qh.fr)/\pa.s.J=qh.J/\pa.up=x_1.1.up/\(Z3 X4 pa.X x_1.1.X)/\(Z3 Y2 pa.lk.H x_1.1.lk.H)/\(Z3 X8 pa.lk.W x_1.1.lk.W)/\pa.N=x_1.1.N/\True)/\1=x_1.2/\True)/\EI x_1.1)/\br (false||g.2 !=0) (false=true) (∃(x:Eng),((((Z3 Z6 qb.d.E x.s.d.E)/\(Z3 Z2 qb.d.C x.s.d.C)/\qb.d.A=x.s.d.A/\(Z3 Z0 qb.d.keep x.s.d.keep)/\qb.ep=x.s.ep/\(Z3 Y6 qb.L x.s.L)/\qb.S=x.s.S/\(Z3 X2 qb.fr x.s.fr)/\qb.J=x.s.J/\g.1.up=x.up/\(Z3 X4 g.1.X x.X)/\(Z3 Y2 g.1.lk.H x.lk.H)/\(Z3 X8 g.1.lk.W x.lk.W)/\g.1.N=x.N/\True)/\True)/\EI x)/\(∃(x_2:Up 6),let pj:=(q x_2.val);let pb:=(mE q x_2.val);(m=m/\pg/\pg/\(V5 x).2.1=(2:Int)/\(V5 x).2.2=(0:Int)/\pg/\0=(x_2.val:Int)/\True)/\(oo ((Z3 Z6 qb.d.E e.s.d.E)/\(Z3 Z2 qb.d.C e.s.d.C)/\qb.d.A=e.s.d.A/\(Z3 Z0 qb.d.keep e.s.d.keep)/\qb.ep=e.s.ep/\(Z3 Y6 qb.L e.s.L)/\qb.S=e.s.S/\(Z3 X2 qb.fr e.s.fr)/\qb.J=e.s.J/\g.1.up=e.up/\(Z3 X4 g.1.X e.X)/\(Z3 Y2 g.1.lk.H e.lk.H)/\(Z3 X8 g.1.lk.W e.lk.W)/\g.1.N=e.N/\True))/\(oo ((Z3 Z6 (V5 x).1.s.d.E pj.s.d.E)/\(Z3 Z2 (V5 x).1.s.d.C pj.s.d.C)/\(V5 x).1.s.d.A=pj.s.d.A/\(Z3 Z0 (V5 x).1.s.d.keep pj.s.d.keep)/\(V5 x).1.s.ep=pj.s.ep/\(Z3 Y6 (V5 x).1.s.L pj.s.L)/\(V5 x).1.s.S=pj.s.S/\(Z3 X2 (V5 x).1.s.fr pj.s.fr)/\(V5 x).1.s.J=pj.s.J/\(V5 x).1.up=pj.up/\(Z3 X4 (V5 x).1.X pj.X)/\(Z3 Y2 (V5 x).1.lk.H pj.lk.H)/\(Z3 X8 (V5 x).1.lk.W pj.lk.W)/\(V5 x).1.N=pj.N/\True))/\(oo ((Z3 Z6 (V5 x).1.s.d.E pb.s.d.E)/\(Z3 Z2 (V5 x).1.s.d.C pb.s.d.C)/\(V5 x).1.s.d.A=pb.s.d.A/\(Z3 Z0 (V5 x).1.s.d.keep pb.s.d.keep)/\(V5 x).1.s.ep=pb.s.ep/\(Z3 Y6 (V5 x).1.s.L pb.s.L)/\(V5 x).1.s.S=pb.s.S/\(Z3 X2 (V5 x).1.s.fr pb.s.fr)/\(V5 x).1.s.J=pb.s.J/\(V5 x).1.up=pb.up/\(Z3 X4 (V5 x).1.X pb.X)/\(Z3 Y2 (V5 x).1.lk.H pb.lk.H)/\(Z3 X8 (V5 x).1.lk.W pb.lk.W)/\(V5 x).1.N=pb.N/\True))/\True)/\∀(x:Up 6),let qy:=(6-x.1);let ph:=(x.1:Int);let px:=(List.take 1 (List.map P9 [IntKind.u8.wrap ph])++m);let j:=(mE q x.1);let qv:=j.s.d;let v:=(q x.1);let py:=v.s.d;bd (ph<6) (O1 IntKind.u8 (IntKind.u8.wrap ph)/\(Le 1 1/\U2 1 m.length 1)/\∃(x_2:(Bz)),let qu:=(T1 (S1 (J7 x_2) (6:Int)));let i:=(y5 (u6 (J7 x_2)) qu.2);let pn:=(xB i.1 (T1 qu.1).2);(Le (0+(1+m.length)) px.length/\(List.take (1+m.length) (List.drop 0 px)=x_2/\True)/\x_2.length<=2000000)/\∃(x_3:(Bz×Nat×Nat)),((m=x_3.1/\ph=(x_3.2.1:Int)/\3=(x_3.2.2:Int)/\True)/\x_3.2.1<=100/\x_3.2.2<=1000/\x_3.1.length<=1048576)/\br (atV x_3.1 x_3.2.1 x_3.2.2==(0:Int)) (∃(x_4:(Eng×Int×Int)),let qi:=x_4.1.s;let r:=(H8 x_4.1 x_4.2.1 (1:Int) x_4.2.2);let pv:=r.1.s;((((Z3 Z6 py.E qi.d.E)/\(Z3 Z2 py.C qi.d.C)/\py.A=qi.d.A/\(Z3 Z0 py.keep qi.d.keep)/\v.s.ep=qi.ep/\(Z3 Y6 v.s.L qi.L)/\v.s.S=qi.S/\(Z3 X2 v.s.fr qi.fr)/\v.s.J=qi.J/\v.up=x_4.1.up/\(Z3 X4 v.X x_4.1.X)/\(Z3 Y2 v.lk.H x_4.1.lk.H)/\(Z3 X8 v.lk.W x_4.1.lk.W)/\v.N=x_4.1.N/\True)/\2=x_4.2.1/\(1:Int)=1/\y7 (J7 x_2) 6=x_4.2.2/\True)/\EI x_4.1/\0<=x_4.2.2/\x_4.2.2<=(1000:Int))/\br (ph==2) (Ri (ph+1)/\∃(y:Up 6),let pp:=(q y.1);let pc:=(mE q y.1);((m=m/\pg/\pg/\(2:Int)=2/\(0:Int)=0/\pg/\ph+1=(y.1:Int)/\True)/\qr/\(oo ((Z3 Z6 pv.d.E pp.s.d.E)/\(Z3 Z2 pv.d.C pp.s.d.C)/\pv.d.A=pp.s.d.A/\(Z3 Z0 pv.d.keep pp.s.d.keep)/\pv.ep=pp.s.ep/\(Z3 Y6 pv.L pp.s.L)/\pv.S=pp.s.S/\(Z3 X2 pv.fr pp.s.fr)/\pv.J=pp.s.J/\r.1.up=pp.up/\(Z3 X4 r.1.X pp.X)/\(Z3 Y2 r.1.lk.H pp.lk.H)/\(Z3 X8 r.1.lk.W pp.lk.W)/\r.1.N=pp.N/\True))/\(oo ((Z3 Z6 pv.d.E pc.s.d.E)/\(Z3 Z2 pv.d.C pc.s.d.C)/\pv.d.A=pc.s.d.A/\(Z3 Z0 pv.d.keep pc.s.d.keep)/\pv.ep=pc.s.ep/\(Z3 Y6 pv.L pc.s.L)/\pv.S=pc.s.S/\(Z3 X2 pv.fr pc.s.fr)/\pv.J=pc.s.J/\r.1.up=pc.up/\(Z3 X4 r.1.X pc.X)/\(Z3 Y2 r.1.lk.H pc.lk.H)/\(Z3 X8 r.1.lk.W pc.lk.W)/\r.1.N=pc.N/\True))/\True)/\Lt (6-y.1) qy) (Ri (ph+1)/\∃(y:Up 6),let pq:=(q y.1);let pd:=(mE q y.1);((m=m/\pg/\pg/\(2:Int)=2/\(0:Int)=0/\pg/\ph+1=(y.1:Int)/\True)/\qr/\(oo ((Z3 Z6 pv.d.E pq.s.d.E)/\(Z3 Z2 pv.d.C pq.s.d.C)/\pv.d.A=pq.s.d.A/\(Z3 Z0 pv.d.keep pq.s.d.keep)/\pv.ep=pq.s.ep/\(Z3 Y6 pv.L pq.s.L)/\pv.S=pq.s.S/\(Z3 X2 pv.fr pq.s.fr)/\pv.J=pq.s.J/\r.1.up=pq.up/\(Z3 X4 r.1.X pq.X)/\(Z3 Y2 r.1.lk.H pq.lk.H)/\(Z3 X8 r.1.lk.W pq.lk.W)/\r.1.N=pq.N/\True))/\(oo ((Z3 Z6 qv.E pd.s.d.E)/\(Z3 Z2 qv.C pd.s.d.C)/\qv.A=pd.s.d.A/\(Z3 Z0 qv.keep pd.s.d.keep)/\j.s.ep=pd.s.ep/\(Z3 Y6 j.s.L pd.s.L)/\j.s.S=pd.s.S/\(Z3 X2 j.s.fr pd.s.fr)/\j.s.J=pd.s.J/\j.up=pd.up/\(Z3 X4 j.X pd.X)/\(Z3 Y2 j.lk.H pd.lk.H)/\(Z3 X8 j.lk.W pd.lk.W)/\j.N=pd.N/\True))/\True)/\Lt (6-y.1) qy)) (∃(x_4:(Eng×Int×Rw)),let qk:=x_4.1.s;let qj:=x_4.2.2;let z:=(M6 x_4.1 x_4.2.1 (1:Int) qj);let pw:=z.1.s;((((Z3 Z6 py.E qk.d.E)/\(Z3 Z2 py.C qk.d.C)/\py.A=qk.d.A/\(Z3 Z0 py.keep qk.d.keep)/\v.s.ep=qk.ep/\(Z3 Y6 v.s.L qk.L)/\v.s.S=qk.S/\(Z3 X2 v.s.fr qk.fr)/\v.s.J=qk.J/\v.up=x_4.1.up/\(Z3 X4 v.X x_4.1.X)/\(Z3 Y2 v.lk.H x_4.1.lk.H)/\(Z3 X8 v.lk.W x_4.1.lk.W)/\v.N=x_4.1.N/\True)/\2=x_4.2.1/\(1:Int)=1/\(y7 (J7 x_2) 6=qj.id/\i.2.k=qj.n.k/\i.2.n=qj.n.n/\i.2.t=qj.n.t/\pn.2.k=qj.name.k/\pn.2.n=qj.name.n/\pn.2.t=qj.name.t/\True)/\True)/\EI x_4.1/\L4 qj=true)/\br (ph==2) (Ri (ph+1)/\∃(y:Up 6),let pr:=(q y.1);let pe:=(mE q y.1);((m=m/\pg/\pg/\(2:Int)=2/\(0:Int)=0/\pg/\ph+1=(y.1:Int)/\True)/\qr/\(oo ((Z3 Z6 pw.d.E pr.s.d.E)/\(Z3 Z2 pw.d.C pr.s.d.C)/\pw.d.A=pr.s.d.A/\(Z3 Z0 pw.d.keep pr.s.d.keep)/\pw.ep=pr.s.ep/\(Z3 Y6 pw.L pr.s.L)/\pw.S=pr.s.S/\(Z3 X2 pw.fr pr.s.fr)/\pw.J=pr.s.J/\z.1.up=pr.up/\(Z3 X4 z.1.X pr.X)/\(Z3 Y2 z.1.lk.H pr.lk.H)/\(Z3 X8 z.1.lk.W pr.lk.W)/\z.1.N=pr.N/\True))/\(oo ((Z3 Z6 pw.d.E pe.s.d.E)/\(Z3 Z2 pw.d.C pe.s.d.C)/\pw.d.A=pe.s.d.A/\(Z3 Z0 pw.d.keep pe.s.d.keep)/\pw.ep=pe.s.ep/\(Z3 Y6 pw.L pe.s.L)/\pw.S=pe.s.S/\(Z3 X2 pw.fr pe.s.fr)/\pw.J=pe.s.J/\z.1.up=pe.up/\(Z3 X4 z.1.X pe.X)/\(Z3 Y2 z.1.lk.H pe.lk.H)/\(Z3 X8 z.1.lk.W pe.lk.W)/\z.1.N=pe.N/\True))/\True)/\Lt (6-y.1) qy) (Ri (ph+1)/\∃(y:Up 6),let ps:=(q y.1);let pf:=(mE q y.1);((m=m/\pg/\pg/\(2:Int)=2/\(0:Int)=0/\pg/\ph+1=(y.1:Int)/\True)/\qr/\(oo ((Z3 Z6 pw.d.E ps.s.d.E)/\(Z3 Z2 pw.d.C ps.s.d.C)/\pw.d.A=ps.s.d.A/\(Z3 Z0 pw.d.keep ps.s.d.keep)/\pw.ep=ps.s.ep/\(Z3 Y6 pw.L ps.s.L)/\pw.S=ps.s.S/\(Z3 X2 pw.fr ps.s.fr)/\pw.J=ps.s.J/\z.1.up=ps.up/\(Z3 X4 z.1.X ps.X)/\(Z3 Y2 z.1.lk.H ps.lk.H)/\(Z3 X8 z.1.lk.W ps.lk.W)/\z.1.N=ps.N/\True))/\(oo ((Z3 Z6 qv.E pf.s.d.E)/\(Z3 Z2 qv.C pf.s.d.C)/\qv.A=pf.s.d.A/\(Z3 Z0 qv.keep pf.s.d.keep)/\j.s.ep=pf.s.ep/\(Z3 Y6 j.s.L pf.s.L)/\j.s.S=pf.s.S/\(Z3 X2 j.s.fr pf.s.fr)/\j.s.J=pf.s.J/\j.up=pf.up/\(Z3 X4 j.X pf.X)/\(Z3 Y2 j.lk.H pf.lk.H)/\(Z3 X8 j.lk.W pf.lk.W)/\j.N=pf.N/\True))/\True)/\Lt (6-y.1) qy))) (br (false||(↑v.X.length:Int) !=1||(↑j.X.length:Int) !=1) (false=true) (V3 (0:Int) j.X.length/\∃(x_2:(Eng×Int×Int)),let qm:=x_2.1.s;let u:=(V9 x_2.1 x_2.2.1 x_2.2.2);let qs:=u.1.1;let pk:=qs.s;((((Z3 Z6 py.E qm.d.E)/\(Z3 Z2 py.C qm.d.C)/\py.A=qm.d.A/\(Z3 Z0 py.keep qm.d.keep)/\v.s.ep=qm.ep/\(Z3 Y6 v.s.L qm.L)/\v.s.S=qm.S/\(Z3 X2 v.s.fr qm.fr)/\v.s.J=qm.J/\v.up=x_2.1.up/\(Z3 X4 v.X x_2.1.X)/\(Z3 Y2 v.lk.H x_2.1.lk.H)/\(Z3 X8 v.lk.W x_2.1.lk.W)/\v.N=x_2.1.N/\True)/\2=x_2.2.1/\(j.X.getD 0 dz).Z=x_2.2.2/\True)/\EI x_2.1)/\V3 (0:Int) j.X.length/\∃(x_3:(Eng×Int×Int)),let qn:=x_3.1.s;let a:=(V9 x_3.1 x_3.2.1 x_3.2.2);let qq:=a.1.1.s;((((Z3 Z6 py.E qn.d.E)/\(Z3 Z2 py.C qn.d.C)/\py.A=qn.d.A/\(Z3 Z0 py.keep qn.d.keep)/\v.s.ep=qn.ep/\(Z3 Y6 v.s.L qn.L)/\v.s.S=qn.S/\(Z3 X2 v.s.fr qn.fr)/\v.s.J=qn.J/\v.up=x_3.1.up/\(Z3 X4 v.X x_3.1.X)/\(Z3 Y2 v.lk.H x_3.1.lk.H)/\(Z3 X8 v.lk.W x_3.1.lk.W)/\v.N=x_3.1.N/\True)/\2=x_3.2.1/\(j.X.getD 0 dz).Z=x_3.2.2/\True)/\EI x_3.1)/\∃(x_4:(Eng×Int)),let qo:=x_4.1.s;let w:=(R4 x_4.1 x_4.2);let qz:=(↑w.1.X.length:Int);let qw:=(↑w.1.lk.H.length:Int);let qd:=w.1.s;((((Z3 Z6 pk.d.E qo.d.E)/\(Z3 Z2 pk.d.C qo.d.C)/\pk.d.A=qo.d.A/\(Z3 Z0 pk.d.keep qo.d.keep)/\pk.ep=qo.ep/\(Z3 Y6 pk.L qo.L)/\pk.S=qo.S/\(Z3 X2 pk.fr qo.fr)/\pk.J=qo.J/\qs.up=x_4.1.up/\(Z3 X4 qs.X x_4.1.X)/\(Z3 Y2 qs.lk.H x_4.1.lk.H)/\(Z3 X8 qs.lk.W x_4.1.lk.W)/\qs.N=x_4.1.N/\True)/\2=x_4.2/\True)/\EI x_4.1)/\∃(x_5:(Eng×Int)),let qp:=x_5.1.s;let l:=(R4 x_5.1 x_5.2);let zd:=l.1.s;((((Z3 Z6 py.E qp.d.E)/\(Z3 Z2 py.C qp.d.C)/\py.A=qp.d.A/\(Z3 Z0 py.keep qp.d.keep)/\v.s.ep=qp.ep/\(Z3 Y6 v.s.L qp.L)/\v.s.S=qp.S/\(Z3 X2 v.s.fr qp.fr)/\v.s.J=qp.J/\v.up=x_5.1.up/\(Z3 X4 v.X x_5.1.X)/\(Z3 Y2 v.lk.H x_5.1.lk.H)/\(Z3 X8 v.lk.W x_5.1.lk.W)/\v.N=x_5.1.N/\True)/\2=x_5.2/\True)/\EI x_5.1)/\∃(x_6:Eng),let qc:=x_6.s;((u.2==0)=true->(((Z3 Z6 pk.d.E qc.d.E)/\(Z3 Z2 pk.d.C qc.d.C)/\pk.d.A=qc.d.A/\(Z3 Z0 pk.d.keep qc.d.keep)/\pk.ep=qc.ep/\(Z3 Y6 pk.L qc.L)/\pk.S=qc.S/\(Z3 X2 pk.fr qc.fr)/\pk.J=qc.J/\qs.up=x_6.up/\(Z3 X4 qs.X x_6.X)/\(Z3 Y2 qs.lk.H x_6.lk.H)/\(Z3 X8 qs.lk.W x_6.lk.W)/\qs.N=x_6.N/\True)/\((Z3 Z6 qq.d.E qc.d.E)/\(Z3 Z2 qq.d.C qc.d.C)/\qq.d.A=qc.d.A/\(Z3 Z0 qq.d.keep qc.d.keep)/\qq.ep=qc.ep/\(Z3 Y6 qq.L qc.L)/\qq.S=qc.S/\(Z3 X2 qq.fr qc.fr)/\qq.J=qc.J/\a.1.1.up=x_6.up/\(Z3 X4 a.1.1.X x_6.X)/\(Z3 Y2 a.1.1.lk.H x_6.lk.H)/\(Z3 X8 a.1.1.lk.W x_6.lk.W)/\a.1.1.N=x_6.N/\True)/\True)/\EI x_6)/\∃(x_7:(Eng×Eng)),let qa:=x_7.2.s;let pz:=x_7.1.s;((u.2==0&&true)=true->(((Z3 Z6 pk.d.E pz.d.E)/\(Z3 Z2 pk.d.C pz.d.C)/\pk.d.A=pz.d.A/\(Z3 Z0 pk.d.keep pz.d.keep)/\pk.ep=pz.ep/\(Z3 Y6 pk.L pz.L)/\pk.S=pz.S/\(Z3 X2 pk.fr pz.fr)/\pk.J=pz.J/\qs.up=x_7.1.up/\(Z3 X4 qs.X x_7.1.X)/\(Z3 Y2 qs.lk.H x_7.1.lk.H)/\(Z3 X8 qs.lk.W x_7.1.lk.W)/\qs.N=x_7.1.N/\True)/\((Z3 Z6 qv.E qa.d.E)/\(Z3 Z2 qv.C qa.d.C)/\qv.A=qa.d.A/\(Z3 Z0 qv.keep qa.d.keep)/\j.s.ep=qa.ep/\(Z3 Y6 j.s.L qa.L)/\j.s.S=qa.S/\(Z3 X2 j.s.fr qa.fr)/\j.s.J=qa.J/\j.up=x_7.2.up/\(Z3 X4 j.X x_7.2.X)/\(Z3 Y2 j.lk.H x_7.2.lk.H)/\(Z3 X8 j.lk.W x_7.2.lk.W)/\j.N=x_7.2.N/\True)/\True)/\EI x_7.1/\EI x_7.2/\vw pz=vw qa)/\∃(x:(Eng×Eng)),let za:=x.1.s;((u.2==0&&true&&true&&w.2==0)=true->(((Z3 Z6 qd.d.E za.d.E)/\(Z3 Z2 qd.d.C za.d.C)/\qd.d.A=za.d.A/\(Z3 Z0 qd.d.keep za.d.keep)/\qd.ep=za.ep/\(Z3 Y6 qd.L za.L)/\qd.S=za.S/\(Z3 X2 qd.fr za.fr)/\qd.J=za.J/\w.1.up=x.1.up/\(Z3 X4 w.1.X x.1.X)/\(Z3 Y2 w.1.lk.H x.1.lk.H)/\(Z3 X8 w.1.lk.W x.1.lk.W)/\w.1.N=x.1.N/\True)/\(F9 e x.2)/\True)/\EI x.1/\EI x.2/\vw za=vw x.2.s)/\∃(x:(Eng×Eng)),let zb:=x.1.s;((u.2==0&&true&&true&&w.2==0&&true&&l.2==0)=true->(((Z3 Z6 zd.d.E zb.d.E)/\(Z3 Z2 zd.d.C zb.d.C)/\zd.d.A=zb.d.A/\(Z3 Z0 zd.d.keep zb.d.keep)/\zd.ep=zb.ep/\(Z3 Y6 zd.L zb.L)/\zd.S=zb.S/\(Z3 X2 zd.fr zb.fr)/\zd.J=zb.J/\l.1.up=x.1.up/\(Z3 X4 l.1.X x.1.X)/\(Z3 Y2 l.1.lk.H x.1.lk.H)/\(Z3 X8 l.1.lk.W x.1.lk.W)/\l.1.N=x.1.N/\True)/\(F9 e x.2)/\True)/\EI x.1/\EI x.2/\vw zb=vw x.2.s)/\∃(x:D5.ι),((u.2==0&&true&&true&&w.2==0&&true&&l.2==0&&true&&qz==0&&qw==0)=true->(((Z3 Z6 qd.d.E x.s.d.E)/\(Z3 Z2 qd.d.C x.s.d.C)/\qd.d.A=x.s.d.A/\(Z3 Z0 qd.d.keep x.s.d.keep)/\qd.ep=x.s.ep/\(Z3 Y6 qd.L x.s.L)/\qd.S=x.s.S/\(Z3 X2 qd.fr x.s.fr)/\qd.J=x.s.J/\w.1.up=x.up/\(Z3 X4 w.1.X x.X)/\(Z3 Y2 w.1.lk.H x.lk.H)/\(Z3 X8 w.1.lk.W x.lk.W)/\w.1.N=x.N/\True)/\True)/\tF x)/\(u.2==0&&true&&true&&w.2==0&&true&&l.2==0&&true&&qz==0&&qw==0&&U3 x)=true)))))):
  U5 prog 4 [.bys c,.bys m] (.bool true):=
 R1 (gC b27 (gC b8Y (gC b8z (gC c0b (gC b8b (gC c5T (gC b92 (gC c0S (gC b9t (gC b3t (gC c2F (gC b5k (gC v7 gN))))))))))))) func4 (c4h c m p q e) h
theorem c3u(q:Nat->Eng){i:Nat}(h:i<=2):mE q i=q 0:=if_pos h
theorem b4k(q:Nat->Eng){i:Nat}(h:3<=i):mE q i=q 3:=if_neg Z9
theorem c1y(q:Nat->Eng){i:Nat}(h:i≠2):mE q (i+1)=mE q i:=by
 by_cases d:i<=2
 ·rw[c3u q d,c3u q Z9]
 ·rw[b4k q Z9,b4k q Z9]
theorem c2r{i:Nat}(h:i<6)(c:Bz):List.take (1+c.length) (List.drop 0 (List.take 1 (List.map P9 [IntKind.u8.wrap (i:Int)])++c))=UInt8.ofNat i::c:=by
 have e:List.take 1 (List.map P9 [IntKind.u8.wrap (i:Int)])=[UInt8.ofNat i]:=by
  match i,h with
  |0,_=>rfl
  |1,_=>rfl
  |2,_=>rfl
  |3,_=>rfl
  |4,_=>rfl
  |5,_=>rfl
  |n+6,h=>exact absurd h Z9
 rw[e,List.drop_zero];exact List.take_of_length_le E3
theorem c14{i:Nat}(h:i<6):O1 IntKind.u8 (IntKind.u8.wrap (i:Int)):=by
 match i,h with
 |0,_=>exact(i8 _).2 U4
 |1,_=>exact(i8 _).2 U4
 |2,_=>exact(i8 _).2 U4
 |3,_=>exact(i8 _).2 U4
 |4,_=>exact(i8 _).2 U4
 |5,_=>exact(i8 _).2 U4
 |n+6,h=>exact absurd h Z9
theorem b5X{e:Eng}(h:EI e)(tx:Int):R4 e tx=((qQ e tx).1.1,(qQ e tx).2):=if_pos h.ok
structure AbO(e f g b:Eng):Prop where
 c0:(V9 f 2 (g.X.getD 0 dz).Z).2=0
 b0:(V9 f 2 (g.X.getD 0 dz).Z).1.1=b
 be:EI b
 bv:vw b.s=vw g.s
 g0:(R4 b 2).2=0
 ge:EI (R4 b 2).1
 gv:vw (R4 b 2).1.s=vw e.s
 gt:(R4 b 2).1.X.length=0
 gh:(R4 b 2).1.lk.H.length=0
 d0:(R4 f 2).2=0
 de:EI (R4 f 2).1
 dv:vw (R4 f 2).1.s=vw e.s
theorem c7l(c m:Bz):AbO (eE c) (qE c m 6) (qE c m 3) (baE c m):=by
 have P:=c7N c m;have e:=b5X P.ba 2;have d:=b5X (qM c m 6).ei 2;exact⟨P.b0,rfl,P.ba,P.bv,by rw[e];exact P.g0,by rw[e];exact P.go,by rw[e];exact P.gv,by rw[e];exact P.gt,by rw[e];exact P.gh,by rw[d];exact P.d0,by rw[d];exact P.di,by rw[d];exact P.dv⟩
theorem b03(c m:Bz):U5 prog 4 [.bys c,.bys m] (.bool true):=by
 refine c3g c m (pE c) (qE c m) (eE c) ⟨λ_=>rfl,λQ=>?_⟩
 rw[zY] at Q;have J:=k5 Q.1;have M:=k5 Q.2;have u:pE c 0=(V5 iA).1:=rfl;have n:∀i,pE c (i+1)=(M6 (pE c i) 1 1 (rwO (UInt8.ofNat i::c))).1:=λ_=>rfl
 have g:∀i,EI (pE c i):=λi=>(b7m c i).ei
 have z:(U8 (pE c 5) 1).1=eE c:=rfl;have t:=(a9o c).b;have h:=(a9o c).a.ei;have j:=(fD c).2;have f:qE c m 0=(V5 (eE c)).1:=rfl;have o:∀i,qE c m (i+1)=if atV m i 3=0 then(H8 (qE c m i) 2 1 (rwO (UInt8.ofNat i::m)).id).1 else(M6 (qE c m i) 2 1 (rwO (UInt8.ofNat i::m))).1:=λ_=>rfl
 have hqE:∀i,EI (qE c m i):=λi=>(qM c m i).ei
 have L:∀i,(qE c m i).X.length=1:=λi=>(qM c m i).ln
 have A:=c7l c m;have B:=b2z.2;have l:=a9R;generalize baE c m=b at*;generalize qE c m=q at*;generalize eE c=e at*;generalize pE c=p at*;refine⟨(),Z8,iA,⟨Z8,l⟩,⟨⟨0,L8 _⟩,⟨rfl,rfl,Z8,by rw[B],by rw[B],rfl,Z5⟩,⟨rfl,rfl,by dsimp only;rw[u];exact tG _⟩,Z5⟩,λx=>⟨λhx=>?_,λhx=>?_⟩⟩
 ·obtain⟨i,hi⟩:=x;have hi5:i<5:=by have:=B3 hx;dsimp only at this;omega
  dsimp only;rw[c2r Z9 c]
  refine⟨c14 Z9,⟨U9 _,O6⟩,_,⟨by unfold Le;simp;omega,⟨rfl,Z5⟩,by rw[List.length_cons];omega⟩,(p i,1,rwO (UInt8.ofNat i::c)),⟨⟨tG _,rfl,rfl,⟨rfl,rfl,rfl,rfl,rfl,rfl,rfl,Z5⟩,Z5⟩,g i,gV _⟩,Z1 Z9,⟨i+1,hi5⟩,⟨⟨rfl,rfl,⟨rfl,rfl⟩,rfl,rfl,W5,Z5⟩,⟨rfl,rfl,by dsimp only;rw[n];exact tG _⟩,Z5⟩,D1⟩
 ·obtain⟨i,hi⟩:=x;have hi5:i=5:=by have:=k5 hx;dsimp only at this;omega
  subst hi5;dsimp only;refine⟨(p 5,1),⟨Z8,g 5⟩,λd=>(by dsimp only at d;rw[t] at d;simp at d),λ_=>⟨e,⟨⟨by dsimp only;rw[z];exact tG _,Z5⟩,h⟩,⟨⟨0,L8 _⟩,⟨rfl,Z8,Z8,by rw[j],by rw[j],⟨rfl,rfl⟩,rfl,Z5⟩,⟨rfl,rfl,by dsimp only;rw[z];exact tG _⟩,⟨rfl,rfl,by dsimp only;rw[f];exact tG _⟩,⟨rfl,rfl,by dsimp only;rw[c3u q (L8 _),f];exact tG _⟩,Z5⟩,λx=>⟨λhx=>?_,λhx=>?_⟩⟩⟩
  ·obtain⟨i,hi⟩:=x;have hi6:i<6:=by have:=B3 hx;dsimp only at this;omega
   have hS:=o i;dsimp only;rw[c2r hi6 m];refine⟨c14 hi6,⟨U9 _,O6⟩,_,⟨by unfold Le;simp;omega,⟨rfl,Z5⟩,by rw[List.length_cons];omega⟩,(m,i,3),⟨⟨rfl,rfl,rfl,Z5⟩,W5,W5,W5⟩,λha=>?_,λha=>?_⟩
   ·rw[if_pos (eq_of_beq ha)] at hS;refine⟨(q i,2,(rwO (UInt8.ofNat i::m)).id),⟨Z8,hqE i,b38 (UInt8.ofNat i::m)⟩,λh2=>?_,λh2=>?_⟩
    ·have h2:i=2:=by have:=eq_of_beq h2;omega
     exact⟨Z1 Z9,⟨i+1,hi6⟩,⟨⟨rfl,Z8,Z8,rfl,rfl,Z8,W5,Z5⟩,Z8,⟨rfl,rfl,a9t⟩,⟨rfl,rfl,by dsimp only;rw[b4k q (show 3<=i+1 by omega),show 3=i+1 by omega,hS];exact tG _⟩,Z5⟩,D1⟩
    ·have h2:i≠2:=λe=>by rw[e] at h2;cases h2
     exact⟨Z1 Z9,⟨i+1,hi6⟩,⟨⟨rfl,Z8,Z8,rfl,rfl,Z8,W5,Z5⟩,Z8,⟨rfl,rfl,a9t⟩,⟨rfl,rfl,by dsimp only;rw[c1y q h2];exact tG _⟩,Z5⟩,D1⟩
   ·rw[if_neg (kX ha)] at hS;refine⟨(q i,2,rwO (UInt8.ofNat i::m)),⟨Z8,hqE i,gV _⟩,λh2=>?_,λh2=>?_⟩
    ·have h2:i=2:=by have:=eq_of_beq h2;omega
     exact⟨Z1 Z9,⟨i+1,hi6⟩,⟨⟨rfl,Z8,Z8,rfl,rfl,Z8,W5,Z5⟩,Z8,⟨rfl,rfl,a9t⟩,⟨rfl,rfl,by dsimp only;rw[b4k q (show 3<=i+1 by omega),show 3=i+1 by omega,hS];exact tG _⟩,Z5⟩,D1⟩
    ·have h2:i≠2:=λe=>by rw[e] at h2;cases h2
     exact⟨Z1 Z9,⟨i+1,hi6⟩,⟨⟨rfl,Z8,Z8,rfl,rfl,Z8,W5,Z5⟩,Z8,⟨rfl,rfl,a9t⟩,⟨rfl,rfl,by dsimp only;rw[c1y q h2];exact tG _⟩,Z5⟩,D1⟩
  ·obtain⟨i,hi⟩:=x;have hi6:i=6:=by have:=k5 hx;dsimp only at this;omega
   subst hi6;dsimp only;rw[b4k q (show 3<=6 by decide)]
   have r:=L 3;have F:=L 6;refine⟨λd=>(by rw[r,F] at d;cases d),λ_=>⟨by rw[r];exact X9 U4,(q 6,2,((q 3).X.getD 0 dz).Z),⟨Z8,hqE 6⟩,by rw[r];exact X9 U4,(q 6,2,((q 3).X.getD 0 dz).Z),⟨Z8,hqE 6⟩,?_⟩⟩
   obtain⟨I,b0,be,bv,g0,v,gv,gt,gh,d0,C,dv⟩:=A;dsimp only;rw[I,b0];refine⟨(b,2),⟨Z8,be⟩,(q 6,2),⟨Z8,hqE 6⟩,b,λ_=>⟨Z8,be⟩,(b,q 3),λ_=>⟨Z8,be,hqE 3,bv⟩,((R4 b 2).1,e),λ_=>⟨Z8,v,h,gv⟩,((R4 (q 6) 2).1,e),λ_=>⟨Z8,C,h,dv⟩,(R4 b 2).1,λ_=>⟨Z8,fH v⟩,?_⟩
   dsimp only;rw[g0,d0,gt,gh,v.ok];rfl
end
end Go.Proofs.YtcobnbfhkpbokaaGreat
