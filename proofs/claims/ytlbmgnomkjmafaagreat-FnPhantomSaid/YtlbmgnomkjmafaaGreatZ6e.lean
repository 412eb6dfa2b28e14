/- A part of the proof. -/
import Derived.Test.YtlbmgnomkjmafaaGreatP12
import Derived.Test.YtlbmgnomkjmafaaGreatE4
import Derived.Test.YtlbmgnomkjmafaaGreatU1
import Derived.Test.YtlbmgnomkjmafaaGreatS2s
namespace Go.Proofs.YtlbmgnomkjmafaaGreat
set_option maxRecDepth 100000
open Go.SS Go.Proofs.Tryz
noncomputable section
def a2x:Con:=.rel fI
def a5o(t:T)(n:Nat):Nat->Ann
 |0=>.one (Up n) (λx=>⟨[(0,t),(1,t),(5,Ji x.1)],[]⟩) (λx=>n-x.1) [] [] (λ_=>Y7)
 |_=>.none
theorem nK:GK 146 a2x:=gk func146<|by
 intro(L:List (Bz)) (hL:L.length<=1048576);refine S2 gN func146 (a5o (xZ L) L.length) (α:=let r:=(L.length:Int);let q:=(Z2 Z5 L L);br (r !=r) (false=true) ((∃(x:Up L.length),(q/\q/\0=(x.1:Int)/\True)/\True)/\∀(x:Up L.length),let p:=(x.1:Int);bd (p<r) (V6 p L.length/\V6 p L.length/\br (!L.getD p.toNat []==L.getD p.toNat []) (false=true) (Ri (p+1)/\∃(y:Up L.length),((q/\q/\p+1=(y.1:Int)/\True)/\True)/\Lt (L.length-y.1) (L.length-x.1))) (true=true))) ⟨λh=>J2,λ_=>⟨⟨⟨0,N7 _⟩,⟨⟨z7,W2 _ _⟩,⟨z7,W2 _ _⟩,Z8⟩,Z6⟩,λx=>⟨λC=>?_,λ_=>rfl⟩⟩⟩
 have t:=Y2 C;exact⟨Y1 t,Y1 t,λh=>J2,λ_=>⟨V8 t Z9,⟨x.1+1,t⟩,⟨⟨⟨z7,W2 _ _⟩,⟨z7,W2 _ _⟩,F9,Z6⟩,Z6⟩,V0.ext_lt t⟩⟩
def a5x:Con:=.rel a24
theorem a3P:GK 147 a5x:=gk func147<|by
 intro(L:List (Int)) (hL:L.length<=1048576);refine S2 gN func147 (a5o (cN L) L.length) (α:=let r:=(L.length:Int);let q:=(Z2 Y9 L L);br (r !=r) (false=true) ((∃(x:Up L.length),(q/\q/\0=(x.1:Int)/\True)/\True)/\∀(x:Up L.length),let p:=(x.1:Int);bd (p<r) (V6 p L.length/\V6 p L.length/\br (L.getD p.toNat (0:Int) !=L.getD p.toNat (0:Int)) (false=true) (Ri (p+1)/\∃(y:Up L.length),((q/\q/\p+1=(y.1:Int)/\True)/\True)/\Lt (L.length-y.1) (L.length-x.1))) (true=true))) ⟨λh=>J2,λ_=>⟨⟨⟨0,N7 _⟩,⟨⟨z7,W2 _ _⟩,⟨z7,W2 _ _⟩,Z8⟩,Z6⟩,λx=>⟨λC=>?_,λ_=>rfl⟩⟩⟩
 have t:=Y2 C;exact⟨Y1 t,Y1 t,λh=>J2,λ_=>⟨V8 t Z9,⟨x.1+1,t⟩,⟨⟨⟨z7,W2 _ _⟩,⟨z7,W2 _ _⟩,F9,Z6⟩,Z6⟩,V0.ext_lt t⟩⟩
def b1g:Con:=.rel a3O
theorem a5v:GK 81 b1g:=gk func81<|by
 intro(L:List (Rec)) (hL:L.length<=1048576);refine S2 gN func81 (a5o (oG L) L.length) (α:=let u:=(L.length:Int);let z:=(Z2 Y0 L L);br (u !=u) (false=true) ((∃(x:Up L.length),(z/\z/\0=(x.1:Int)/\True)/\True)/\∀(x:Up L.length),let r:=(x.1:Int);let q:=(L.getD r.toNat dz);bd (r<u) (V6 r L.length/\V6 r L.length/\br (!(q.e==q.e&&(q.l==q.l&&(q.t==q.t&&(q.k==q.k&&(q.p==q.p&&(q.n==q.n&&(q.g==q.g&&(q.s==q.s&&(q.b==q.b&&(q.a==q.a&&true))))))))))) (false=true) (Ri (r+1)/\∃(y:Up L.length),((z/\z/\r+1=(y.1:Int)/\True)/\True)/\Lt (L.length-y.1) (L.length-x.1))) (true=true))) ⟨λh=>J2,λ_=>⟨⟨⟨0,N7 _⟩,⟨⟨z7,W2 _ _⟩,⟨z7,W2 _ _⟩,Z8⟩,Z6⟩,λx=>⟨λC=>?_,λ_=>rfl⟩⟩⟩
 have d:=Y2 C;exact⟨Y1 d,Y1 d,λh=>J2,λ_=>⟨V8 d Z9,⟨x.1+1,d⟩,⟨⟨⟨z7,W2 _ _⟩,⟨z7,W2 _ _⟩,F9,Z6⟩,Z6⟩,V0.ext_lt d⟩⟩
def a5B:Con:=.rel b6Q
theorem a7D(p:Pg)(h:
  ∃(x:fI.ι),((p.Q==p.Q)=true->((Z2 Z5 p.sl x)/\(Z2 Z5 p.sl x)/\True)/\x.length<=1048576)/\(p.Q==p.Q&&true)=true):
  V2 prog 82 [.agg p.ts,.agg p.ts] (.bool true):=
 S2 (gC nK gN) func82 Y7 h
theorem a3B:GK 82 a5B:=gk func82<|λ(p:Pg) h1=>a7D p ⟨p.sl,λ_=>⟨Z8,h1⟩,X3⟩
def a7R(d:Dsk):Nat->Ann
 |0=>.one (Up d.C.length) (λx=>⟨[(2,.ref 0 0 0),(3,.ref 1 0 0),(5,Ji x.1)],[lZ d,lZ d]⟩) (λx=>d.C.length-x.1) vO vO (λ_=>Y7)
 |_=>.none
def a8a:Con:=.rel a9B
theorem a2v:GK 80 a8a:=gk func80<|by
 rintro(d:Dsk) ⟨h1,h2,h3⟩;refine S2 (gC nK (gC a3P gN)) func80 (a7R d) (α:=let u:=(0=0/\0=0);let z:=(oo (yA d d));let q:=(d.C.length:Int);∃(x:fI.ι),(((Z2 Z5 d.E x)/\(Z2 Z5 d.E x)/\True)/\x.length<=1048576)/\∃(x:a24.ι),let v:=(Z2 Y9 d.keep x);((false||q !=q|| !d.A==d.A)=false->(v/\v/\True)/\x.length<=1048576)/\br (false||q !=q|| !d.A==d.A||false) (false=true) ((∃(x:Up d.C.length),(u/\u/\0=(x.1:Int)/\True)/\z/\z/\True)/\∀(x:Up d.C.length),let r:=(x.1:Int);let p:=(d.C.getD r.toNat dz);bd (r<q) (V6 r d.C.length/\V6 r d.C.length/\br (!(p.at_==p.at_&&(p.d==p.d&&true))) (false=true) (Ri (r+1)/\∃(y:Up d.C.length),((u/\u/\r+1=(y.1:Int)/\True)/\z/\z/\True)/\Lt (d.C.length-y.1) (d.C.length-x.1))) (true=true))) ⟨d.E,⟨Z8,h1⟩,d.keep,λ_=>⟨Z8,h3⟩,λh=>J2,λ_=>⟨⟨⟨0,N7 _⟩,Z8⟩,λx=>⟨λC=>?_,λ_=>rfl⟩⟩⟩
 have t:=Y2 C;exact⟨Y1 t,Y1 t,λh=>J2,λ_=>⟨V8 t Z9,⟨x.1+1,t⟩,⟨⟨Z8,Z8,F9,Z6⟩,Z8⟩,V0.ext_lt t⟩⟩
def a2n(s:Sto):Nat->Ann
 |0=>.one (Up s.fr.length) (λx=>⟨[(2,.ref 0 0 0),(3,.ref 1 0 0),(5,Ji x.1)],[qI s,qI s]⟩) (λx=>s.fr.length-x.1) vO vO (λ_=>Y7)
 |_=>.none
def a2U:Con:=.rel a8P
theorem a1l:GK 38 a2U:=gk func38<|by
 rintro(s:Sto) ⟨h1,h2,h3,h4⟩;refine S2 (gC a2v (gC a5v (gC a3B gN))) func38 (a2n s) (α:=let v:=(0=0/\0=0);let u:=(s.fr.length:Int);let z:=(oo (zV s s));∃(x:a9B.ι),(((yA s.d x)/\(yA s.d x)/\True)/\jH x)/\∃(x:a3O.ι),((false||s.ep !=s.ep)=false->((Z2 Y0 s.L x)/\(Z2 Y0 s.L x)/\True)/\x.length<=1048576)/\br (false||s.ep !=s.ep||false||s.S !=s.S||s.J !=s.J||u !=u) (false=true) ((∃(x:Up s.fr.length),(v/\v/\0=(x.1:Int)/\True)/\z/\z/\True)/\∀(x:Up s.fr.length),let q:=(x.1:Int);let p:=(s.fr.getD q.toNat dz);bd (q<u) (V6 q s.fr.length/\V6 q s.fr.length/\∃(X:b6Q.ι),let r:=(p.pg.Q=X.Q/\(Z2 Z5 p.pg.sl X.sl)/\True);((p.no !=p.no|| ! p.D==p.D||p.first !=p.first)=false->(r/\r/\True)/\SmG X)/\br (p.no !=p.no|| ! p.D==p.D||p.first !=p.first||false) (false=true) (Ri (q+1)/\∃(y:Up s.fr.length),((v/\v/\q+1=(y.1:Int)/\True)/\z/\z/\True)/\Lt (s.fr.length-y.1) (s.fr.length-x.1))) (true=true))) ⟨s.d,⟨⟨eqD _,eqD _,Z6⟩,h1⟩,s.L,λ_=>⟨⟨c1O,c1O,Z6⟩,h2⟩,λh=>J2,λ_=>⟨⟨⟨0,N7 _⟩,⟨c06,c06,rfl,Z6⟩,⟨rfl,rfl,gL _⟩,⟨rfl,rfl,gL _⟩,Z6⟩,λx=>⟨λC=>?_,λ_=>rfl⟩⟩⟩
 have t:=Y2 C;exact⟨Y1 t,Y1 t,(s.fr.getD x.1 dz).pg,λ_=>⟨Z8,h4 _ t⟩,λh=>J2,λ_=>⟨V8 t Z9,⟨x.1+1,t⟩,⟨⟨Z8,Z8,F9,Z6⟩,Z8⟩,V0.ext_lt t⟩⟩
def c4E:Con:=.rel ⟨Eng,λe=>[.agg e.ts],λe=>.tup [.agg (V1 e).1.ts,Ji (V1 e).2.1,Ji (V1 e).2.2],λe=>EI e⟩
theorem b78:GK 6 c4E:=gk func6<|λ(e:Eng) (h:EI e)=>by
 have o:=h.ok;refine S2 (gC uZ (gC tC (gC b7o gN))) func6 Y7 (α:=let k:=(V1 e).1.s.fr.length;∃(x:l6.ι),(((L0 e x)/\True)/\oT x)/\br (!R6 x) (((V1 e).1.s.d.E.length=0/\(V1 e).1.s.d.C.length=0/\false=(V1 e).1.s.d.A/\(V1 e).1.s.d.keep.length=0/\0=(V1 e).1.s.ep/\(V1 e).1.s.L.length=0/\0=(V1 e).1.s.S/\k=0/\0=(V1 e).1.s.J/\false=(V1 e).1.up/\(V1 e).1.X.length=0/\(V1 e).1.lk.H.length=0/\(V1 e).1.lk.W.length=0/\0=(V1 e).1.N/\True)/\0=(V1 e).2.1/\1=(V1 e).2.2/\True) (∃(x:Eng),let m:=x.s.d;(((L0 e x)/\True)/\x8 x)/\∃(X:(Eng×Nat)),let n:=(V1 X.1).1.X.length;let j:=(V1 X.1).1.s.L.length;let w:=(V1 X.1).1.lk.W.length;let y:=(V1 X.1).1.lk.H.length;let v:=(V1 X.1).1.s.d.C.length;let u:=(V1 X.1).1.s.d.E.length;let z:=(V1 X.1).1.s.d.keep.length;let p:=(V1 X.1).1.s.fr.length;(((0=0/\0=0)/\True)/\((oo ((0=0/\m.E.length=X.1.s.d.E.length)/\(0=0/\m.C.length=X.1.s.d.C.length)/\m.A=X.1.s.d.A/\(0=0/\m.keep.length=X.1.s.d.keep.length)/\x.s.ep=X.1.s.ep/\(0=0/\x.s.L.length=X.1.s.L.length)/\x.s.S=X.1.s.S/\(0=0/\x.s.fr.length=X.1.s.fr.length)/\x.s.J=X.1.s.J/\x.up=X.1.up/\(0=0/\x.X.length=X.1.X.length)/\(0=0/\x.lk.H.length=X.1.lk.H.length)/\(0=0/\x.lk.W.length=X.1.lk.W.length)/\x.N=X.1.N/\True))/\(Z2 Z5 m.E X.1.s.d.E)/\(Z2 Y8 m.C X.1.s.d.C)/\(Z2 Y9 m.keep X.1.s.d.keep)/\(Z2 Y0 x.s.L X.1.s.L)/\(0=X.2/\x.s.fr.length=X.1.s.fr.length/\V3 x.s.fr.length (Z1 x.s.fr) (Z1 X.1.s.fr))/\(Z2 W8 x.X X.1.X)/\(Z2 Y6 x.lk.H X.1.lk.H)/\(Z2 Y4 x.lk.W X.1.lk.W)/\True)/\R6 X.1=true/\oT X.1)/\∃(x:Eng),let r:=x.s.fr.length;let q:=x.s.d;((Le (0+u) u/\Le (0+v) v/\Le (0+z) z/\Le (0+j) j/\Le (0+p) p/\Le (0+n) n/\Le (0+y) y/\Le (0+w) w)/\(((Z2 Z5 (V1 X.1).1.s.d.E q.E)/\(Z2 Y8 (V1 X.1).1.s.d.C q.C)/\(V1 X.1).1.s.d.A=q.A/\(Z2 Y9 (V1 X.1).1.s.d.keep q.keep)/\(V1 X.1).1.s.ep=x.s.ep/\(Z2 Y0 (V1 X.1).1.s.L x.s.L)/\(V1 X.1).1.s.S=x.s.S/\(p=r/\Z7 p (gU (Z1 (V1 X.1).1.s.fr)) (V4 x.s.fr))/\(V1 X.1).1.s.J=x.s.J/\(V1 X.1).1.up=x.up/\(Z2 W8 (V1 X.1).1.X x.X)/\(Z2 Y6 (V1 X.1).1.lk.H x.lk.H)/\(Z2 Y4 (V1 X.1).1.lk.W x.lk.W)/\(V1 X.1).1.N=x.N/\True)/\True)/\x8 x)/\(Le (0+q.E.length) q.E.length/\Le (0+q.C.length) q.C.length/\Le (0+q.keep.length) q.keep.length/\Le (0+x.s.L.length) x.s.L.length/\Le (0+r) r/\Le (0+x.X.length) x.X.length/\Le (0+x.lk.H.length) x.lk.H.length/\Le (0+x.lk.W.length) x.lk.W.length)/\((Z2 Z5 q.E (V1 e).1.s.d.E)/\(Z2 Y8 q.C (V1 e).1.s.d.C)/\q.A=(V1 e).1.s.d.A/\(Z2 Y9 q.keep (V1 e).1.s.d.keep)/\x.s.ep=(V1 e).1.s.ep/\(Z2 Y0 x.s.L (V1 e).1.s.L)/\x.s.S=(V1 e).1.s.S/\(r=k/\Z7 x.s.fr.length (gU (Z1 x.s.fr)) (V4 (V1 e).1.s.fr))/\x.s.J=(V1 e).1.s.J/\x.up=(V1 e).1.up/\(Z2 W8 x.X (V1 e).1.X)/\(Z2 Y6 x.lk.H (V1 e).1.lk.H)/\(Z2 Y4 x.lk.W (V1 e).1.lk.W)/\x.N=(V1 e).1.N/\True)/\(V1 X.1).2.1=(V1 e).2.1/\(V1 X.1).2.2=(V1 e).2.2/\True)) ⟨e,⟨Z8,a3h h⟩,λq=>(by rw[o] at q;cases q),λ_=>?_⟩
 exact⟨e,⟨Z8,h.sm⟩,(e,0),⟨Z8,Z8,o,a3h h⟩,(V1 e).1,⟨Z8,Z8,c4b h.sm o⟩,Z8⟩
def c2A:Con:=.rel ⟨Eng×Int,λx=>[.agg x.1.ts,Ji x.2],λx=>.tup [.agg (U3 x.1 x.2).1.ts,Ji (U3 x.1 x.2).2],λx=>EI x.1⟩
theorem b7p:GK 9 c2A:=gk func9<|by
 rintro⟨e,tx⟩ (h:EI e);have o:=h.ok;refine S2 (gC uZ (gC tC (gC b2O gN))) func9 Y7 (α:=let q:=(U3 e tx);let z:=q.1.s;∃(x:l6.ι),(((L0 e x)/\True)/\oT x)/\br (!R6 x) ((z.d.E.length=0/\z.d.C.length=0/\false=z.d.A/\z.d.keep.length=0/\0=z.ep/\z.L.length=0/\0=z.S/\z.fr.length=0/\0=z.J/\false=q.1.up/\q.1.X.length=0/\q.1.lk.H.length=0/\q.1.lk.W.length=0/\0=q.1.N/\True)/\1=q.2/\True) (∃(x:Eng),let w:=x.s.d;(((L0 e x)/\True)/\x8 x)/\∃(X:(Eng×Int)),let p:=(U3 X.1 X.2);let y:=p.1.lk;let r:=p.1.s;let j:=r.fr.length;(((0=0/\0=0)/\tx=X.2/\True)/\((oo ((0=0/\w.E.length=X.1.s.d.E.length)/\(0=0/\w.C.length=X.1.s.d.C.length)/\w.A=X.1.s.d.A/\(0=0/\w.keep.length=X.1.s.d.keep.length)/\x.s.ep=X.1.s.ep/\(0=0/\x.s.L.length=X.1.s.L.length)/\x.s.S=X.1.s.S/\(0=0/\x.s.fr.length=X.1.s.fr.length)/\x.s.J=X.1.s.J/\x.up=X.1.up/\(0=0/\x.X.length=X.1.X.length)/\(0=0/\x.lk.H.length=X.1.lk.H.length)/\(0=0/\x.lk.W.length=X.1.lk.W.length)/\x.N=X.1.N/\True))/\(Z2 Z5 w.E X.1.s.d.E)/\(Z2 Y8 w.C X.1.s.d.C)/\(Z2 Y9 w.keep X.1.s.d.keep)/\(Z2 Y0 x.s.L X.1.s.L)/\(0=0/\x.s.fr.length=X.1.s.fr.length/\V3 x.s.fr.length (Z1 x.s.fr) (Z1 X.1.s.fr))/\(Z2 W8 x.X X.1.X)/\(Z2 Y6 x.lk.H X.1.lk.H)/\(Z2 Y4 x.lk.W X.1.lk.W)/\True)/\R6 X.1=true/\oT X.1)/\∃(x:Eng),let v:=x.s.fr.length;let u:=x.s.d;((Le (0+r.d.E.length) r.d.E.length/\Le (0+r.d.C.length) r.d.C.length/\Le (0+r.d.keep.length) r.d.keep.length/\Le (0+r.L.length) r.L.length/\Le (0+j) j/\Le (0+p.1.X.length) p.1.X.length/\Le (0+y.H.length) y.H.length/\Le (0+y.W.length) y.W.length)/\(((Z2 Z5 r.d.E u.E)/\(Z2 Y8 r.d.C u.C)/\r.d.A=u.A/\(Z2 Y9 r.d.keep u.keep)/\r.ep=x.s.ep/\(Z2 Y0 r.L x.s.L)/\r.S=x.s.S/\(j=v/\Z7 r.fr.length (gU (Z1 r.fr)) (V4 x.s.fr))/\r.J=x.s.J/\p.1.up=x.up/\(Z2 W8 p.1.X x.X)/\(Z2 Y6 y.H x.lk.H)/\(Z2 Y4 y.W x.lk.W)/\p.1.N=x.N/\True)/\True)/\x8 x)/\(Le (0+u.E.length) u.E.length/\Le (0+u.C.length) u.C.length/\Le (0+u.keep.length) u.keep.length/\Le (0+x.s.L.length) x.s.L.length/\Le (0+v) v/\Le (0+x.X.length) x.X.length/\Le (0+x.lk.H.length) x.lk.H.length/\Le (0+x.lk.W.length) x.lk.W.length)/\((Z2 Z5 u.E z.d.E)/\(Z2 Y8 u.C z.d.C)/\u.A=z.d.A/\(Z2 Y9 u.keep z.d.keep)/\x.s.ep=z.ep/\(Z2 Y0 x.s.L z.L)/\x.s.S=z.S/\(v=z.fr.length/\Z7 x.s.fr.length (gU (Z1 x.s.fr)) (V4 z.fr))/\x.s.J=z.J/\x.up=q.1.up/\(Z2 W8 x.X q.1.X)/\(Z2 Y6 x.lk.H q.1.lk.H)/\(Z2 Y4 x.lk.W q.1.lk.W)/\x.N=q.1.N/\True)/\p.2=q.2/\True)) ⟨e,⟨Z8,a3h h⟩,λq=>(by rw[o] at q;cases q),λ_=>?_⟩
 exact⟨e,⟨Z8,h.sm⟩,(e,tx),⟨Z8,Z8,o,a3h h⟩,(U3 e tx).1,⟨Z8,Z8,b8h h.sm o⟩,Z8⟩
theorem c4Z{r:Rw}(h:M0 r=true):RwB r:=by
 obtain⟨⟨a,b,_⟩,_⟩:=a3J h;have d:=a.1;have e:=b.1;exact⟨by unfold dX N6;omega,by unfold dX N6;omega⟩
def dL:Con:=.rel ⟨Int,λe=>[Ji e],λe=>.bys (hdB e),λ_=>True⟩
theorem dA(e:Int)(h:
let q:=(104:Int);let p:=(List.map R4 [q,IntKind.u8.wrap e]);  (P6 IntKind.u8 q/\P6 IntKind.u8 (IntKind.u8.wrap e))/\zO 2 p/\List.map R4 [q,IntKind.u8.wrap e]++D5 (m7 p)=hdB e):
  V2 prog 48 [Ji e] (.bys (hdB e)):=
 S2 (gC aB gN) func48 Y7 h
theorem iZ:GK 48 dL:=gk func48<|λe _=>dA e ⟨⟨(yV _).2 Z9,O9 _⟩,⟨rfl,by show 2<=1000000;decide⟩,rfl⟩
def a6B:Con:=.rmk ⟨Nat,λn=>[Ji n],λ_=>[],λn=>.tup [.agg ((c5C n).tm 0),Ji 0],λn=>(c5C n).hp,λn=>1<=n/\n<=100⟩
theorem a4x:GK 47 a6B:=gk func47<|by
 rintro n ⟨f,d⟩;have e:(n:Int).toNat=(o6 n).length:=by simp[o6]
 have hi:V9 (n:Int) 1 100=true:=R9.2 Z9
 refine⟨w3 (gC P3 gN) func47 Y7 [[.nilS 0 [0,0] 0 1,.nilS 0 [0,1] 0 2,.nilS 0 [0,3] 0 1,.vl 0 [0,0],.vl 0 [0,1],.vl 0 [0,3]],[.nilS 0 [0,1] 0 2,.nilS 0 [0,3] 0 1,.vl 0 [0,0],.vl 0 [0,1],.vl 0 [0,3]]] (α:=let z:=(0=0/\0=0);let r:=(o6 n).length;let q:=(n:Int).toNat;let p:=(λ(x:Nat)=>[]);let v:=(0=0/\Z7 0 p (Y9 []));let u:=(0=0/\Z7 0 p (Y8 []));br (!V9 (n:Int) (1:Int) (100:Int)) (((((0=0/\0=r)/\z/\false=false/\z/\True)/\(4:Int)=0/\True)/\True)/\(0=r/\Z7 0 p (Z5 (o6 n)))/\u/\v/\True) ((Nn (n:Int)/\LeI (n:Int) (n:Int)/\nI 16 q 140737488355328/\Lt q 9223372036854775808)/\((((0=0/\q=r)/\z/\false=false/\z/\True)/\(0:Int)=0/\True)/\True)/\(q=r/\Z7 q (λ(x:Nat)=>[T.str []]) (Z5 (o6 n)))/\u/\v/\True)) ⟨λh=>(by rw[hi] at h;cases h),λ_=>⟨⟨uD,a9r,a4j,I5⟩,⟨⟨⟨⟨rfl,e⟩,Z8⟩,Z8⟩,Z6⟩,⟨e,λi hi=>?_⟩,⟨rfl,K0⟩,⟨rfl,K0⟩,Z6⟩⟩,rfl,rW _⟩
 unfold Z5 o6;rw[Q2,List.getElem?_replicate]
 split<;>rfl
def b4E:Con:=.rel ⟨Unit,λ_=>[],λ_=>.agg a6M.ts,λ_=>True⟩
theorem b0E:GK 21 b4E:=gk func21<|by
 intro _ _;have h:(o6 69).length=69:=List.length_replicate;exact S2 (gC a4x (gC iZ gN)) func21 Y7 (α:=∃(x:Nat),let p:=(o6 x).length;((69=(x:Int)/\True)/\1<=x/\x<=100)/\∃(X:Int),((1=X/\True)/\True)/\V6 (0:Int) p/\Lt 0 p/\(Le (0+p) p/\Le 0 0/\Le 0 0)/\(p=69/\Z7 p (setRow (Z5 (o6 x)) 0 0 [T.str (hdB X)]) (Z5 ((o6 69).set 0 (hdB (1:Int)))))/\(0=0/\Z7 0 (Y8 []) (Y8 []))/\false=false/\(0=0/\Z7 0 (Y9 []) (Y9 []))/\(1:Int)=1/\0=0/\(0:Int)=0/\0=0/\(0:Int)=0/\True) ⟨69,⟨Z8,W6,W6⟩,1,Z8,⟨W6,Z9⟩,I5,⟨K2,Q6⟩,⟨h,λj J=>kC j J⟩,Q6,rfl,Q6⟩
def b4O:Con:=.rel ⟨Unit,λ_=>[],λ_=>.agg rO.ts,λ_=>True⟩
theorem b3D(h:
let p:=(Z5 ((o6 69).set 0 (hdB (1:Int))));  ∃(x:Unit),(True/\True)/\(69=69/\Z7 69 p p)/\(0=0/\Z7 0 (Y8 []) (Y8 []))/\false=false/\(0=0/\Z7 0 (Y9 []) (Y9 []))/\(1:Int)=1/\(0=0/\Z7 0 (Y0 []) (Y0 []))/\(0:Int)=0/\(0=0/\Z7 0 (V4 []) (V4 []))/\(0:Int)=0/\true=true/\0=0/\0=0/\0=0/\(1:Int)=1/\True):
  V2 prog 5 [] (.agg rO.ts):=
 S2 (gC b0E gN) func5 Y7 h
theorem b2E:GK 5 b4O:=gk func5<|λ_ _=>b3D ⟨(),Z8⟩
def c3C:Con:=.reff ⟨Bz,λc=>[.bys c],λ_=>[],λ_=>.ref 0 0 0,λc=>[vJ (T4 c)],λc=>c.length<=2000000⟩
theorem b7r:GK 28 c3C:=gk func28<|λc _=>a3q c ⟨aM,Q6,Q6⟩
def c3a:Con:=.rel ⟨Bz,λc=>[.bys c],λc=>.agg (kL (T4 c)).2.ts,λc=>c.length<=2000000⟩
theorem b7L:GK 8 c3a:=gk func8<|by
 intro(c:Bz) (hc:c.length<=2000000);exact S2 (gC b7r (gC b98 gN)) func8 Y7 (α:=let u:=(U5 (U0 (T4 c) (6:Int)));let p:=(G3 (F0 (T4 c)) u.2);let r:=(l7 p.1 (U5 u.1).2);∃(x:(Bz)),((c=x/\True)/\True/\x.length<=2000000)/\∃(X:Src),let v:=(U5 (U0 X (6:Int)));let q:=(G3 (F0 X) v.2);let z:=(l7 q.1 (U5 v.1).2);(((0=0/\0=0)/\True)/\((1=1/\Z7 1 (λ(x_2:Nat)=>[T.bys x,Ji (↑(0:Nat):Int),Ji ((↑(x.length):Int).tmod (1000:Int))]) λ(x:Nat)=>[T.bys X.c,Ji (X.at_:Int),Ji X.sd])/\True)/\P8 X 50000)/\B3 X 6=B3 (T4 c) (6:Int)/\q.2.k=p.2.k/\q.2.n=p.2.n/\q.2.t=p.2.t/\z.2.k=r.2.k/\z.2.n=r.2.n/\z.2.t=r.2.t/\True) ⟨c,⟨Z8,Z6,hc⟩,T4 c,⟨Z8,Z8,(a8j c).le (N7 _)⟩,Z8⟩
def c2s:Con:=.rel ⟨Eng×Int×Int×Rw,λx=>[.agg x.1.ts,Ji x.2.1,Ji x.2.2.1,.agg x.2.2.2.ts],λx=>.tup [.agg (y9 x.1 x.2.1 x.2.2.1 x.2.2.2 false).1.1.ts,Ji (y9 x.1 x.2.1 x.2.2.1 x.2.2.2 false).2],λx=>EI x.1/\(1<=x.2.2.1/\x.2.2.1<=3)/\M0 x.2.2.2=true/\cQ x.1.lk x.2.1 x.2.2.1 2 x.2.2.2.id 4⟩
theorem c4V(e:Eng)(tx ta:Int)(r:Rw)(Z:Eng×Int)(h:
  ∃(x:sO.ι),(((r.id=x.id/\r.n.k=x.n.k/\r.n.n=x.n.n/\r.n.t=x.n.t/\r.name.k=x.name.k/\r.name.n=x.name.n/\r.name.t=x.name.t/\True)/\True)/\RwB x)/\∃(g:Int),((ta=g/\True)/\True)/\∃(f:(Eng×Bool×Bool)),(((L0 e f.1)/\M0 x=f.2.1/\V9 g (1:Int) 3=f.2.2/\True)/\oT f.1)/\br (tW (R6 f.1) f.2.1 f.2.2 !=(0:Int)) ((Z.1.s.d.E.length=0/\Z.1.s.d.C.length=0/\false=Z.1.s.d.A/\Z.1.s.d.keep.length=0/\0=Z.1.s.ep/\Z.1.s.L.length=0/\0=Z.1.s.S/\Z.1.s.fr.length=0/\0=Z.1.s.J/\false=Z.1.up/\Z.1.X.length=0/\Z.1.lk.H.length=0/\Z.1.lk.W.length=0/\0=Z.1.N/\True)/\tW (R6 f.1) f.2.1 f.2.2=Z.2/\True) (∃(x:Eng),(((L0 e x)/\True)/\x8 x)/\∃(X:(Eng×Int×Int×Rw×Bool)),let p:=(y9 X.1 X.2.1 X.2.2.1 X.2.2.2.1 X.2.2.2.2);(((0=0/\0=0)/\tx=X.2.1/\ta=X.2.2.1/\(r.id=X.2.2.2.1.id/\r.n.k=X.2.2.2.1.n.k/\r.n.n=X.2.2.2.1.n.n/\r.n.t=X.2.2.2.1.n.t/\r.name.k=X.2.2.2.1.name.k/\r.name.n=X.2.2.2.1.name.n/\r.name.t=X.2.2.2.1.name.t/\True)/\false=X.2.2.2.2/\True)/\(LnG (0) (0) x X.1)/\ChQ X.1 X.2.1 X.2.2.1 X.2.2.2.1)/\∃(x:Eng),((LeG p.1.1)/\((pY p.1.1 x)/\True)/\x8 x)/\(LeG x)/\(pY x Z.1)/\p.2=Z.2/\True)):
  V2 prog 7 [.agg e.ts,Ji tx,Ji ta,.agg r.ts] (.tup [.agg Z.1.ts,Ji Z.2]):=
 S2 (gC a4W (gC vE (gC hX (gC tC (gC gW gN))))) func7 Y7 h
theorem b9L:GK 7 c2s:=gk func7<|by
 rintro⟨e,tx,ta,r⟩ ⟨h,t,R,n⟩;dsimp only at h t R n ⊢;obtain⟨k1,f⟩:=a3J R;have z:=(fF h (tx:=tx) (gone:=false) t k1.2.2 (f ta)).ei;have d:tW (R6 e) (M0 r) (V9 ta 1 3)=0:=by rw[h.ok,R,R9.2 t];rfl
 exact c4V e tx ta r ((y9 e tx ta r false).1.1,(y9 e tx ta r false).2) ⟨r,⟨Z8,c4Z R⟩,ta,Z8,(e,M0 r,V9 ta 1 3),⟨Z8,a3h h⟩,λq=>absurd d (b4j q),λ_=>⟨e,⟨Z8,h.sm⟩,(e,tx,ta,r,false),⟨Z8,Z8,h,t,k1,f ta,n⟩,(y9 e tx ta r false).1.1,⟨Z8,Z8,z.sm⟩,Z8⟩⟩
def c3O:Con:=.rel ⟨Eng×Int×Int,λx=>[.agg x.1.ts,Ji x.2.1,Ji 1,Ji x.2.2],λx=>.tup [.agg (y9 x.1 x.2.1 1 (kM x.2.2) true).1.1.ts,Ji (y9 x.1 x.2.1 1 (kM x.2.2) true).2],λx=>EI x.1/\(0<=x.2.2/\x.2.2<=1000)/\cQ x.1.lk x.2.1 1 2 x.2.2 4⟩
theorem c3n(e:Eng)(tx id:Int)(Z:Eng×Int)(h:
  ∃(x:Int),((1=x/\True)/\True)/\∃(g:Int),(V9 x (1:Int) 3=true->(id=g/\True)/\True)/\∃(f:(Eng×Bool×Bool)),(((L0 e f.1)/\true=f.2.1/\(V9 x (1:Int) (3:Int)&&V9 g (0:Int) (1000:Int))=f.2.2/\True)/\oT f.1)/\br (tW (R6 f.1) f.2.1 f.2.2 !=(0:Int)) ((Z.1.s.d.E.length=0/\Z.1.s.d.C.length=0/\false=Z.1.s.d.A/\Z.1.s.d.keep.length=0/\0=Z.1.s.ep/\Z.1.s.L.length=0/\0=Z.1.s.S/\Z.1.s.fr.length=0/\0=Z.1.s.J/\false=Z.1.up/\Z.1.X.length=0/\Z.1.lk.H.length=0/\Z.1.lk.W.length=0/\0=Z.1.N/\True)/\tW (R6 f.1) f.2.1 f.2.2=Z.2/\True) (∃(x:Eng),(((L0 e x)/\True)/\x8 x)/\∃(X:(Eng×Int×Int×Rw×Bool)),let p:=(y9 X.1 X.2.1 X.2.2.1 X.2.2.2.1 X.2.2.2.2);(((0=0/\0=0)/\tx=X.2.1/\1=X.2.2.1/\(id=X.2.2.2.1.id/\0=X.2.2.2.1.n.k/\0=X.2.2.2.1.n.n/\[]=X.2.2.2.1.n.t/\0=X.2.2.2.1.name.k/\0=X.2.2.2.1.name.n/\[]=X.2.2.2.1.name.t/\True)/\true=X.2.2.2.2/\True)/\(LnG (0) (0) x X.1)/\ChQ X.1 X.2.1 X.2.2.1 X.2.2.2.1)/\∃(x:Eng),((LeG p.1.1)/\((pY p.1.1 x)/\True)/\x8 x)/\(LeG x)/\(pY x Z.1)/\p.2=Z.2/\True)):
  V2 prog 11 [.agg e.ts,Ji tx,Ji 1,Ji id] (.tup [.agg Z.1.ts,Ji Z.2]):=
 S2 (gC vE (gC a9z (gC hX (gC tC (gC gW gN))))) func11 Y7 h
theorem b7y:GK 11 c3O:=gk func11<|by
 rintro⟨e,tx,id⟩ ⟨h,hi,n⟩;dsimp only at h hi n ⊢;have t:(1:Int)<=1/\(1:Int)<=3:=W6
 have z:=(fF h (tx:=tx) (r:=kM id) (gone:=true) t hi (c1E t hi)).ei;have d:tW (R6 e) true (V9 1 1 3&&V9 id 0 1000)=0:=by rw[h.ok,R9.2 hi];rfl
 exact c3n e tx id ((y9 e tx 1 (kM id) true).1.1,(y9 e tx 1 (kM id) true).2) ⟨1,Z8,id,λ_=>Z8,(e,true,V9 1 1 3&&V9 id 0 1000),⟨Z8,a3h h⟩,λq=>absurd d (b4j q),λ_=>⟨e,⟨Z8,h.sm⟩,(e,tx,1,kM id,true),⟨Z8,Z8,h,t,⟨⟨N7 _,.inl rfl⟩,⟨N7 _,.inl rfl⟩,hi⟩,c1E t hi,n⟩,(y9 e tx 1 (kM id) true).1.1,⟨Z8,Z8,z.sm⟩,Z8⟩⟩
theorem c2S{e:Eng}(h:EI e)(tx:Int){ta:Int}(ht:1<=ta/\ta<=3):EI (G5 e tx ta).1.1:=by
 by_cases h0:(P7 e tx).2=0
 ·obtain⟨hu,k,e1,hk,_⟩:=wU h0;have E:=uC h hk (show LokR ta (-1) 3 from⟨ht,W6,W6,.inl W6⟩)
  by_cases d:(X1 e.lk (P1 e k ta (-1) 3)).2=0
  ·rw[b5S h0 e1 d];have f:=b8y h.g 8 (U9 _);exact cK E f.g f.l
  ·rw[c1A h0 e1 d];exact E
 ·rw[c1h h0];exact h
def c4o:Con:=.rel ⟨Eng×Int×Int,λx=>[.agg x.1.ts,Ji x.2.1,Ji x.2.2],λx=>.tup [.agg (G5 x.1 x.2.1 x.2.2).1.1.ts,rwS (G5 x.1 x.2.1 x.2.2).2.1,Ji (G5 x.1 x.2.1 x.2.2).2.2],λx=>EI x.1/\(1<=x.2.2/\x.2.2<=3)/\(X1 x.1.lk ⟨x.2.1,x.2.2,-1,3⟩).2≠14⟩
theorem c3L(e:Eng)(tx ta:Int)(Z:(Eng×Nat)×List Rw×Int)(h:
  ∃(x:Int),((ta=x/\True)/\True)/\∃(f:(Eng×Bool×Bool)),(((L0 e f.1)/\true=f.2.1/\V9 x (1:Int) 3=f.2.2/\True)/\oT f.1)/\br (tW (R6 f.1) f.2.1 f.2.2 !=(0:Int)) ((Z.1.1.s.d.E.length=0/\Z.1.1.s.d.C.length=0/\false=Z.1.1.s.d.A/\Z.1.1.s.d.keep.length=0/\0=Z.1.1.s.ep/\Z.1.1.s.L.length=0/\0=Z.1.1.s.S/\Z.1.1.s.fr.length=0/\0=Z.1.1.s.J/\false=Z.1.1.up/\Z.1.1.X.length=0/\Z.1.1.lk.H.length=0/\Z.1.1.lk.W.length=0/\0=Z.1.1.N/\True)/\Z.2.1.length=0/\tW (R6 f.1) f.2.1 f.2.2=Z.2.2/\True) (∃(x:Eng),(((L0 e x)/\True)/\x8 x)/\∃(X:(Eng×Int×Int)),let p:=(G5 X.1 X.2.1 X.2.2);(((0=0/\0=0)/\tx=X.2.1/\ta=X.2.2/\True)/\(LnG (0) (0) x X.1)/\EI X.1/\(X1 X.1.lk (Lck.mk X.2.1 X.2.2 (-1:Int) (3:Int))).2≠(14:Int))/\∃(x:Eng),((LeG p.1.1)/\((pY p.1.1 x)/\True)/\x8 x)/\((LeG x)/\Le (0+p.2.1.length) p.2.1.length)/\(pY x Z.1.1)/\(Z2 G9 p.2.1 Z.2.1)/\p.2.2=Z.2.2/\True)):
  V2 prog 10 [.agg e.ts,Ji tx,Ji ta] (.tup [.agg Z.1.1.ts,rwS Z.2.1,Ji Z.2.2]):=
 S2 (gC vE (gC hX (gC tC (gC b8t gN)))) func10 Y7 h
theorem b9D:GK 10 c4o:=gk func10<|by
 rintro⟨e,tx,ta⟩ ⟨h,t,n⟩;dsimp only at h t n ⊢;have z:=c2S h tx t;have d:tW (R6 e) true (V9 ta 1 3)=0:=by rw[h.ok,R9.2 t];rfl
 exact c3L e tx ta (G5 e tx ta) ⟨ta,Z8,(e,true,V9 ta 1 3),⟨Z8,a3h h⟩,λq=>absurd d (b4j q),λ_=>⟨e,⟨Z8,h.sm⟩,(e,tx,ta),⟨Z8,Z8,h,n⟩,(G5 e tx ta).1.1,⟨Z8,Z8,z.sm⟩,Z8⟩⟩
def c4O:Con:=.rel ⟨Eng×Nat×Int×Int×Int,λx=>[.agg x.1.ts,Ji x.2.1,Ji x.2.2.1,Ji x.2.2.2.1,Ji x.2.2.2.2],λx=>.tup [.agg (D7 x.1 x.2.1 x.2.2.1 x.2.2.2.1 x.2.2.2.2).ts,Ji (X1 x.1.lk (P1 x.1 x.2.1 x.2.2.1 x.2.2.2.1 x.2.2.2.2)).2],λx=>EI x.1/\x.2.1<x.1.X.length/\(X1 x.1.lk (P1 x.1 x.2.1 x.2.2.1 x.2.2.2.1 x.2.2.2.2)).2≠14⟩
theorem b8G:GK 139 c4O:=gk func139<|by
 rintro⟨e,k,ta,row,mo⟩ ⟨h,f,n⟩;dsimp only at h f n;obtain⟨B,b2,_⟩:=aK h;exact S2 (gC a6b gN) func139 Y7 (α:=let p:=(X1 e.lk (P1 e k ta row mo));V6 (k:Int) e.X.length/\∃(x:(Lks×Lck)),let q:=(X1 x.1 x.2);((((Z2 Y6 e.lk.H x.1.H)/\(Z2 Y4 e.lk.W x.1.W)/\True)/\(e.X.getD (k:Int).toNat dz).id=x.2.tx/\ta=x.2.ta/\row=x.2.row/\mo=x.2.mo/\True)/\x.1.H.length<=60/\x.1.W.length<=100)/\br (q.2==14) False (((Z2 Z5 e.s.d.E e.s.d.E)/\(Z2 Y8 e.s.d.C e.s.d.C)/\e.s.d.A=e.s.d.A/\(Z2 Y9 e.s.d.keep e.s.d.keep)/\e.s.ep=e.s.ep/\(Z2 Y0 e.s.L e.s.L)/\e.s.S=e.s.S/\(Z2 V4 e.s.fr e.s.fr)/\e.s.J=e.s.J/\e.up=e.up/\(Z2 W8 e.X e.X)/\(Z2 Y6 q.1.H p.1.H)/\(Z2 Y4 q.1.W p.1.W)/\e.N=e.N/\True)/\q.2=p.2/\True)) ⟨Y1 f,(e.lk,P1 e k ta row mo),⟨Z8,B,b2⟩,λq=>absurd (beq_iff_eq.1 q) n,λ_=>Z8⟩
def c3I:Con:=.rel ⟨Eng×Int×Nat×Int×Rw×Bool,λx=>[.agg x.1.ts,Ji x.2.2.1,Ji x.2.2.2.1,.agg x.2.2.2.2.1.ts,.bool x.2.2.2.2.2],λx=>.tup [.agg (y9 x.1 x.2.1 x.2.2.2.1 x.2.2.2.2.1 x.2.2.2.2.2).1.1.ts,Ji (y9 x.1 x.2.1 x.2.2.2.1 x.2.2.2.2.1 x.2.2.2.2.2).2],λx=>ChQ x.1 x.2.1 x.2.2.2.1 x.2.2.2.2.1/\x.2.2.1<x.1.X.length/\(x.1.X.getD x.2.2.1 dz).id=x.2.1⟩
theorem b35{e:Eng}(h:EI e){k:Nat}(d:k<e.X.length){g s:Int}{b a:Bz}(v:Nat)(i:0<=g/\g<=7)(f:0<=s/\s<=3)(B:b.length<=30)(A:a.length<=30):vP e k g s b a=((kJ e k g s b a v).1.1,(kJ e k g s b a v).2):=by
 unfold vP;by_cases C:(e.s.L.length:Int)+1+c9 e+1>60
 ·rw[if_pos C,a1r C]
 ·rw[if_neg C,if_pos (a1s h d i f B A Z9).2,nE C]
theorem a4J{e:Eng}(h:EI e){k:Nat}(d:k<e.X.length):P7 e (e.X.getD k dz).id=((k:Int),0):=by
 have t:=h.h.at_ d;unfold P7;rw[if_pos h.up,t,if_neg Z9]
theorem b9y:GK 77 c3I:=gk func77<|by
 rintro⟨e,tx,k,ta,r,gone⟩ ⟨⟨h,u,R,B,n1,n2⟩,q,hi⟩;dsimp only at h u R B n1 n2 q hi ⊢;generalize hZ:y9 e tx ta r gone=Z;have Y:=R.2.2;have r1:LokR ta (-1) 2:=⟨u,W6,W6,W6⟩
 have r2:LokR ta r.id 4:=⟨u,Z9,W6,.inr W6⟩
 have z:=a4J h q;rw[hi] at z;have eL:s6 e tx ta 2 r.id 4=fZ e k ta 2 r.id 4:=mE (by rw[z]) (by rw[z])
 have F:=wE hi ta (-1) 2;refine S2 (gC b8G (gC a6v (gC a2k (gC a0R (gC a59 gN))))) func77 Y7 (α:=∃(x:(Eng×Nat×Int×Int×Int)),let q:=(X1 x.1.lk (P1 x.1 x.2.1 x.2.2.1 x.2.2.2.1 x.2.2.2.2));(((L0 e x.1)/\(k:Int)=(x.2.1:Int)/\ta=x.2.2.1/\(-1:Int)=x.2.2.2.1/\2=x.2.2.2.2/\True)/\EI x.1/\x.2.1<x.1.X.length/\q.2≠(14:Int))/\br (q.2 !=0) ((L0 {x.1 with lk:=q.1} Z.1.1)/\q.2=Z.2/\True) (∃(j:(Eng×Nat×Int×Int×Int)),let z:=(X1 j.1.lk (P1 j.1 j.2.1 j.2.2.1 j.2.2.2.1 j.2.2.2.2));(((L0 {x.1 with lk:=q.1} j.1)/\(k:Int)=(j.2.1:Int)/\ta=j.2.2.1/\r.id=j.2.2.2.1/\4=j.2.2.2.2/\True)/\EI j.1/\j.2.1<j.1.X.length/\z.2≠(14:Int))/\br (z.2 !=0) ((L0 {j.1 with lk:=z.1} Z.1.1)/\z.2=Z.2/\True) (V6 (k:Int) j.1.X.length/\∃(x:(Eng×Int×Int×Int)),let p:=(pF x.1 x.2.1 x.2.2.1 x.2.2.2);let w:=(L0 p.val.fst Z.1.1);let u:=p.val.snd;(((L0 {j.1 with lk:=z.1} x.1)/\(j.1.X.getD (k:Int).toNat dz).id=x.2.1/\ta=x.2.2.1/\r.id=x.2.2.2/\True)/\EI x.1)/\br false False (∃(l:(Int×Rw)),((ta=l.1/\(r.id=l.2.id/\r.n.k=l.2.n.k/\r.n.n=l.2.n.n/\r.n.t=l.2.n.t/\r.name.k=l.2.name.k/\r.name.n=l.2.name.n/\r.name.t=l.2.name.t/\True)/\True)/\RwK l.2/\1<=l.1/\l.1<=3)/\br gone (V6 (0:Int) 4/\bd (u.a<0) (br gone (w/\5=Z.2/\True) (V6 (2:Int) 4/\bd (u.c<0) (w/\12=Z.2/\True) (V6 (2:Int) 4/\V6 (3:Int) 4/\∃(X:(Eng×Nat×Int×Int×Bz×Bz)),let m:=(vP X.1 X.2.1 X.2.2.1 X.2.2.2.1 X.2.2.2.2.1 X.2.2.2.2.2);(((L0 p.val.fst X.1)/\(k:Int)=(X.2.1:Int)/\u.c=X.2.2.1/\u.d=X.2.2.2.1/\[]=X.2.2.2.2.1/\[]=X.2.2.2.2.2/\True)/\EI X.1/\X.2.1<X.1.X.length/\(0<=X.2.2.1/\X.2.2.1<=(7:Int))/\(0<=X.2.2.2.1/\X.2.2.2.1<=(3:Int))/\X.2.2.2.2.1.length<=30/\X.2.2.2.2.2.length<=30)/\(L0 m.1 Z.1.1)/\m.2=Z.2/\True))) (V6 (0:Int) 4/\V6 (1:Int) 4/\∃(X:(Eng×Nat×Nat)),let pb:=(stH X.1 X.2.1 X.2.2);(((L0 p.val.fst X.1)/\u.a=(X.2.1:Int)/\u.b=(X.2.2:Int)/\True)/\EI X.1/\X.2.1<8/\X.2.2<4)/\br false False (V6 (0:Int) 4/\V6 (1:Int) 4/\∃(i:(Eng×Nat×Int×Int×Bz×Bz)),let v:=i.2.2.2;let g:=(vP i.1 i.2.1 i.2.2.1 v.1 v.2.1 v.2.2);(((L0 pb.val.fst i.1)/\(k:Int)=(i.2.1:Int)/\u.a=i.2.2.1/\u.b=v.1/\pb.val.snd=v.2.1/\[]=v.2.2/\True)/\EI i.1/\i.2.1<i.1.X.length/\(0<=i.2.2.1/\i.2.2.1<=(7:Int))/\(0<=v.1/\v.1<=(3:Int))/\v.2.1.length<=30/\v.2.2.length<=30)/\(L0 g.1 Z.1.1)/\g.2=Z.2/\True))) (V6 (0:Int) 4/\bd (u.a<0) (br gone (w/\5=Z.2/\True) (V6 (2:Int) 4/\bd (u.c<0) (w/\12=Z.2/\True) (V6 (2:Int) 4/\V6 (3:Int) 4/\∃(X:(Eng×Nat×Int×Int×Bz×Bz)),let f:=(vP X.1 X.2.1 X.2.2.1 X.2.2.2.1 X.2.2.2.2.1 X.2.2.2.2.2);(((L0 p.val.fst X.1)/\(k:Int)=(X.2.1:Int)/\u.c=X.2.2.1/\u.d=X.2.2.2.1/\[]=X.2.2.2.2.1/\tS l.1 l.2=X.2.2.2.2.2/\True)/\EI X.1/\X.2.1<X.1.X.length/\(0<=X.2.2.1/\X.2.2.1<=(7:Int))/\(0<=X.2.2.2.1/\X.2.2.2.1<=(3:Int))/\X.2.2.2.2.1.length<=30/\X.2.2.2.2.2.length<=30)/\(L0 f.1 Z.1.1)/\f.2=Z.2/\True))) (V6 (0:Int) 4/\V6 (1:Int) 4/\∃(X:(Eng×Nat×Nat)),let pc:=(stH X.1 X.2.1 X.2.2);(((L0 p.val.fst X.1)/\u.a=(X.2.1:Int)/\u.b=(X.2.2:Int)/\True)/\EI X.1/\X.2.1<8/\X.2.2<4)/\br false False (V6 (0:Int) 4/\V6 (1:Int) 4/\∃(i:(Eng×Nat×Int×Int×Bz×Bz)),let y:=i.2.2.2;let pa:=(vP i.1 i.2.1 i.2.2.1 y.1 y.2.1 y.2.2);(((L0 pc.val.fst i.1)/\(k:Int)=(i.2.1:Int)/\u.a=i.2.2.1/\u.b=y.1/\pc.val.snd=y.2.1/\tS l.1 l.2=y.2.2/\True)/\EI i.1/\i.2.1<i.1.X.length/\(0<=i.2.2.1/\i.2.2.1<=(7:Int))/\(0<=y.1/\y.1<=(3:Int))/\y.2.1.length<=30/\y.2.2.length<=30)/\(L0 pa.1 Z.1.1)/\pa.2=Z.2/\True))))))) ⟨(e,k,ta,-1,2),⟨Z8,h,q,by dsimp only;rw[F];exact n1⟩,λhq=>?_,λhq=>?_⟩
 ·have hq:=kV hq;have e2:fZ e k ta 2 r.id 4=(D7 e k ta (-1) 2,(X1 e.lk (P1 e k ta (-1) 2)).2):=if_neg hq;rw[←hZ,a0c (by rw[eL,e2];exact hq),eL,e2]
  exact Z8
 have hq:(X1 e.lk (P1 e k ta (-1) 2)).2=0:=oN hq;have E1:=uC h q r1;have N:(X1 (D7 e k ta (-1) 2).lk (P1 (D7 e k ta (-1) 2) k ta r.id 4)).2≠14:=by
  have hq:=hq;rw[F] at hq;have N:=n2 hq;rw[←F] at N;rw[wE (e:=D7 e k ta (-1) 2) (k:=k) hi];exact N
 have eM:fZ e k ta 2 r.id 4=(D7 (D7 e k ta (-1) 2) k ta r.id 4,(X1 (D7 e k ta (-1) 2).lk (P1 (D7 e k ta (-1) 2) k ta r.id 4)).2):=if_pos hq;refine⟨(D7 e k ta (-1) 2,k,ta,r.id,4),⟨Z8,E1,q,N⟩,λhq2=>?_,λhq2=>?_⟩
 ·have hq2:=kV hq2;rw[←hZ,a0c (by rw[eL,eM];exact hq2),eL,eM]
  exact Z8
 have hq2:(X1 (D7 e k ta (-1) 2).lk (P1 (D7 e k ta (-1) 2) k ta r.id 4)).2=0:=oN hq2;have U:LkY e tx ta r.id k:=⟨by rw[z],by rw[z],q,hi,by rw[eL,eM,hq2]⟩
 rw[a9U U] at hZ;have C:=uC E1 (k:=k) q r2;have o:k<(D7 (D7 e k ta (-1) 2) k ta r.id 4).X.length:=q;have I:((D7 e k ta (-1) 2).X.getD ((k:Int)).toNat dz).id=tx:=hi;refine⟨Y1 (show k<(D7 e k ta (-1) 2).X.length from q),(D7 (D7 e k ta (-1) 2) k ta r.id 4,tx,ta,r.id),⟨⟨tY (D7 (D7 e k ta (-1) 2) k ta r.id 4),I,Z8⟩,C⟩,λhf=>(by cases hf),λ_=>⟨(ta,r),⟨Z8,R,u.1,u.2⟩,?_⟩⟩
 generalize D7 (D7 e k ta (-1) 2) k ta r.id 4=e2 at*;dsimp only;obtain⟨Q,O,_,g4⟩:=rH C.g tx ta r.id 8 (U9 _);rw[(pF e2 tx ta r.id).2];dsimp only;have hS:=cK C Q O;have L:=a1x (e:=e2) (A:=(R1 e2 tx ta r.id 8).2.1) Q;generalize R1 e2 tx ta r.id 8=f at*;generalize kK e2 tx ta r.id 8=v at*;have hn:¬f.2.1.a<0->(f.2.1.a.toNat:Int)=f.2.1.a/\(f.2.1.b.toNat:Int)=f.2.1.b/\f.2.1.a.toNat<8/\f.2.1.b.toNat<4/\EI (O4 e2 (wN e2 f.2.1 f.1).1)/\(0<=f.2.1.a/\f.2.1.a<=7)/\(0<=f.2.1.b/\f.2.1.b<=3)/\(wN e2 f.2.1 f.1).2.length<=30:=λha=>by
  have hA:=g4.1.resolve_left Z9
  obtain⟨V,s2,W,_⟩:=L hA;exact⟨Z9,Z9,Z9,Z9,cK C V (s2.trans O),Z9,Z9,W⟩
 have J:(stH (O4 e2 f.1) f.2.1.a.toNat f.2.1.b.toNat).1=(O4 e2 (wN e2 f.2.1 f.1).1,(wN e2 f.2.1 f.1).2):=(stH (O4 e2 f.1) f.2.1.a.toNat f.2.1.b.toNat).2;have hd:decide (f.2.1.a<0)=false->¬f.2.1.a<0:=q8;have hp:f.2.1.a<0->Z=if gone=true then((O4 e2 f.1,v),5) else if f.2.1.c<0 then((O4 e2 f.1,v),12) else kJ (O4 e2 f.1) k f.2.1.c f.2.1.d [] (tS ta r) v:=λha=>hZ.symm.trans (if_pos ha)
 have hs:¬f.2.1.a<0->Z=kJ (O4 e2 (wN e2 f.2.1 f.1).1) k f.2.1.a f.2.1.b (wN e2 f.2.1 f.1).2 (if gone=true then[] else tS ta r) (O5 f.1 f.2.1.a.toNat v):=λha=>hZ.symm.trans (if_neg ha)
 clear hZ;refine⟨λM=>?_,λM=>?_⟩<;>subst M
 ·refine⟨⟨Z9,Z9⟩,λha=>⟨λ_=>?_,λhc=>by cases hc⟩,λha=>?_⟩
  ·rw[hp (D4 ha),if_pos rfl];exact Z8
  ·obtain⟨n1,n2,n4,n5,n6,n7,n8,n9⟩:=hn (hd ha);rw[hs (hd ha),if_pos rfl];refine⟨⟨Z9,Z9⟩,⟨Z9,Z9⟩,(O4 e2 f.1,f.2.1.a.toNat,f.2.1.b.toNat),⟨⟨tY (O4 e2 f.1),n1.symm,n2.symm,Z6⟩,hS,n4,n5⟩,λhf=>(by cases hf),λ_=>?_⟩
   dsimp only;rw[J];refine⟨⟨Z9,Z9⟩,⟨Z9,Z9⟩,(O4 e2 (wN e2 f.2.1 f.1).1,k,f.2.1.a,f.2.1.b,(wN e2 f.2.1 f.1).2,[]),⟨Z8,n6,o,n7,n8,n9,N7 _⟩,?_⟩
   dsimp only;rw[b35 n6 o (O5 f.1 f.2.1.a.toNat v) n7 n8 n9 (N7 _)];exact Z8
 ·refine⟨⟨Z9,Z9⟩,λha=>⟨λhc=>(by cases hc),λ_=>⟨⟨Z9,Z9⟩,λhc=>?_,λhc=>?_⟩⟩,λha=>?_⟩
  ·rw[hp (D4 ha),if_neg X3,if_pos (D4 hc)]
   exact Z8
  ·have hc:=q8 hc;have hC:=g4.2.resolve_left Z9
   rw[hp (D4 ha),if_neg X3,if_neg hc]
   refine⟨⟨Z9,Z9⟩,⟨Z9,Z9⟩,(O4 e2 f.1,k,f.2.1.c,f.2.1.d,[],tS ta r),⟨Z8,hS,o,X0,X0,N7 _,B⟩,?_⟩
   dsimp only;rw[b35 hS o v ⟨hC.1,hC.2.1⟩ hC.2.2 (N7 _) B];exact Z8
  ·obtain⟨n1,n2,n4,n5,n6,n7,n8,n9⟩:=hn (hd ha);rw[hs (hd ha),if_neg X3]
   refine⟨⟨Z9,Z9⟩,⟨Z9,Z9⟩,(O4 e2 f.1,f.2.1.a.toNat,f.2.1.b.toNat),⟨⟨tY (O4 e2 f.1),n1.symm,n2.symm,Z6⟩,hS,n4,n5⟩,λhf=>(by cases hf),λ_=>?_⟩
   dsimp only;rw[J];refine⟨⟨Z9,Z9⟩,⟨Z9,Z9⟩,(O4 e2 (wN e2 f.2.1 f.1).1,k,f.2.1.a,f.2.1.b,(wN e2 f.2.1 f.1).2,tS ta r),⟨Z8,n6,o,n7,n8,n9,B⟩,?_⟩
   dsimp only;rw[b35 n6 o (O5 f.1 f.2.1.a.toNat v) n7 n8 n9 B];exact Z8
def c3k:Con:=.rel ⟨Eng×Int×Int×Rw,λx=>[.agg x.1.ts,Ji x.2.1,Ji x.2.2.1,.agg x.2.2.2.ts],λx=>.tup [.agg (y9 x.1 x.2.1 x.2.2.1 x.2.2.2 false).1.1.ts,Ji (y9 x.1 x.2.1 x.2.2.1 x.2.2.2 false).2],λx=>ChQ x.1 x.2.1 x.2.2.1 x.2.2.2⟩
theorem c4q(e:Eng)(tx ta:Int)(r:Rw)(Z:(Eng×Nat)×Int)(h:
  ∃(x:(Eng×Int)),let q:=(P7 x.1 x.2);(((L0 e x.1)/\tx=x.2/\True)/\N6 x.1.X.length)/\br (q.2 !=0) ((L0 e Z.1.1)/\q.2=Z.2/\True) (∃(X:(Eng×Int×Nat×Int×Rw×Bool)),let p:=(y9 X.1 X.2.1 X.2.2.2.1 X.2.2.2.2.1 X.2.2.2.2.2);(((L0 e X.1)/\q.1=(X.2.2.1:Int)/\ta=X.2.2.2.1/\(r.id=X.2.2.2.2.1.id/\r.n.k=X.2.2.2.2.1.n.k/\r.n.n=X.2.2.2.2.1.n.n/\r.n.t=X.2.2.2.2.1.n.t/\r.name.k=X.2.2.2.2.1.name.k/\r.name.n=X.2.2.2.2.1.name.n/\r.name.t=X.2.2.2.2.1.name.t/\True)/\false=X.2.2.2.2.2/\True)/\ChQ X.1 X.2.1 X.2.2.2.1 X.2.2.2.2.1/\X.2.2.1<X.1.X.length/\(X.1.X.getD X.2.2.1 dz).id=X.2.1)/\(L0 p.1.1 Z.1.1)/\p.2=Z.2/\True)):
  V2 prog 36 [.agg e.ts,Ji tx,Ji ta,.agg r.ts] (.tup [.agg Z.1.1.ts,Ji Z.2]):=
 S2 (gC a2Z (gC b9y gN)) func36 Y7 h
theorem b9E:GK 36 c3k:=gk func36<|by
 rintro⟨e,tx,ta,r⟩ ⟨h,t,R,B,n⟩;dsimp only at h t R B n ⊢;have g:=h.h.t10;refine c4q e tx ta r (y9 e tx ta r false) ⟨(e,tx),⟨Z8,uA⟩,λhq=>?_,λhq=>?_⟩
 ·have hq:=kV hq;rw[a0c (by rw[eJ hq];exact hq),eJ hq]
  exact Z8
 ·obtain⟨u,k,f,d,hi,A⟩:=wU (oN hq);exact⟨(e,tx,k,ta,r,false),⟨⟨tY _,f,Z8⟩,⟨h,t,R,B,n⟩,d,hi⟩,tY (y9 e tx ta r false).1.1,Z8⟩
def c23:Con:=.rel ⟨Eng×Int×Int×Rw,λx=>[.agg x.1.ts,Ji x.2.1,Ji x.2.2.1,.agg x.2.2.2.ts],λx=>.tup [.agg (y9 x.1 x.2.1 x.2.2.1 x.2.2.2 false).1.1.ts,Ji (y9 x.1 x.2.1 x.2.2.1 x.2.2.2 false).2],λx=>EI x.1/\(1<=x.2.2.1/\x.2.2.1<=3)/\M0 x.2.2.2=true/\cQ x.1.lk x.2.1 x.2.2.1 2 x.2.2.2.id 4⟩
theorem c4j(e:Eng)(tx ta:Int)(r:Rw)(Z:Eng×Int)(h:
let p:=(Z.1.s.d.E.length=0/\Z.1.s.d.C.length=0/\false=Z.1.s.d.A/\Z.1.s.d.keep.length=0/\0=Z.1.s.ep/\Z.1.s.L.length=0/\0=Z.1.s.S/\Z.1.s.fr.length=0/\0=Z.1.s.J/\false=Z.1.up/\Z.1.X.length=0/\Z.1.lk.H.length=0/\Z.1.lk.W.length=0/\0=Z.1.N/\True);  ∃(x:l6.ι),(((L0 e x)/\True)/\oT x)/\∃(X:sO.ι),((!R6 x)=false->((r.id=X.id/\r.n.k=X.n.k/\r.n.n=X.n.n/\r.n.t=X.n.t/\r.name.k=X.name.k/\r.name.n=X.name.n/\r.name.t=X.name.t/\True)/\True)/\RwB X)/\br (!R6 x|| !M0 X) (p/\1=Z.2/\True) (br (!V9 ta (1:Int) (3:Int)) (p/\4=Z.2/\True) (∃(x:(Eng×Int×Int×Rw)),let q:=x.2.2;let z:=(y9 x.1 x.2.1 q.1 q.2 false);(((L0 e x.1)/\tx=x.2.1/\ta=q.1/\(r.id=q.2.id/\r.n.k=q.2.n.k/\r.n.n=q.2.n.n/\r.n.t=q.2.n.t/\r.name.k=q.2.name.k/\r.name.n=q.2.name.n/\r.name.t=q.2.name.t/\True)/\True)/\ChQ x.1 x.2.1 q.1 q.2)/\∃(f:Eng),(((L0 z.1.1 f)/\True)/\x8 f)/\(L0 f Z.1)/\z.2=Z.2/\True))):
  V2 prog 12 [.agg e.ts,Ji tx,Ji ta,.agg r.ts] (.tup [.agg Z.1.ts,Ji Z.2]):=
 S2 (gC a0A (gC a0h (gC B6 (gC b9E (gC b1k gN))))) func12 Y7 h
theorem c0O:GK 12 c23:=gk func12<|by
 rintro⟨e,tx,ta,r⟩ ⟨h,t,R,n⟩;dsimp only at h t R n ⊢;obtain⟨k1,d⟩:=a3J R;have z:=(fF h (tx:=tx) (gone:=false) t k1.2.2 (d ta)).ei;have hi:V9 ta 1 3=true:=R9.2 t;exact c4j e tx ta r ((y9 e tx ta r false).1.1,(y9 e tx ta r false).2) ⟨e,⟨Z8,a3h h⟩,r,λ_=>⟨Z8,c4Z R⟩,λq=>(by rw[h.ok,R] at q;cases q),λ_=>⟨λq=>(by rw[hi] at q;cases q),λ_=>⟨(e,tx,ta,r),⟨Z8,h,t,k1,d ta,n⟩,(y9 e tx ta r false).1.1,⟨⟨tY (y9 e tx ta r false).1.1,Z6⟩,z.sm⟩,Z8⟩⟩⟩
def b1D:Con:=.rel ⟨List Rw,λL=>[rwS L,rwS L],λ_=>.bool true,λL=>L.length<=1048576⟩
def b1v(L:List Rw):Nat->Ann
 |0=>.one (Up L.length) (λx=>⟨[(0,rwS L),(1,rwS L),(5,Ji x.1)],[]⟩) (λx=>L.length-x.1) [] [] (λ_=>Y7)
 |_=>.none
theorem a6T:GK 13 b1D:=gk func13<|by
 intro(L:List Rw) (hL:L.length<=1048576);refine S2 gN func13 (b1v L) (α:=let z:=(L.length:Int);let r:=(Z2 G9 L L);br (z !=z) (false=true) ((∃(x:Up L.length),(r/\r/\0=(x.1:Int)/\True)/\True)/\∀(x:Up L.length),let q:=(x.1:Int);let p:=(L.getD q.toNat dz);let u:=p.name;bd (q<z) (V6 q L.length/\V6 q L.length/\br (!(p.id==p.id&&(p.n.k==p.n.k&&(p.n.n==p.n.n&&(p.n.t==p.n.t&&true))&&(u.k==u.k&&(u.n==u.n&&(u.t==u.t&&true))&&true)))) (false=true) (Ri (q+1)/\∃(y:Up L.length),((r/\r/\q+1=(y.1:Int)/\True)/\True)/\Lt (L.length-y.1) (L.length-x.1))) (true=true))) ⟨λh=>J2,λ_=>⟨⟨⟨0,N7 _⟩,Z8⟩,λx=>⟨λC=>?_,λ_=>rfl⟩⟩⟩
 have d:=Y2 C;exact⟨Y1 d,Y1 d,λh=>J2,λ_=>⟨V8 d Z9,⟨x.1+1,d⟩,⟨⟨Z8,Z8,X0,Z6⟩,Z6⟩,V0.ext_lt d⟩⟩
def c5R(l:Lks):Nat->Ann
 |0=>.one (Up l.H.length) (λx=>⟨[(2,.ref 0 0 0),(3,.ref 1 0 0),(5,Ji x.1)],[tB l,tB l]⟩) (λx=>l.H.length-x.1) vO vO (λ_=>fun
  |1=>.one (Up l.W.length) (λx=>⟨[(2,.ref 0 0 0),(3,.ref 1 0 0),(6,Ji x.1)],[tB l,tB l]⟩) (λx=>l.W.length-x.1) vO vO (λ_=>Y7)
  |_=>.none)
 |_=>.none
def c42:Con:=.rel ⟨Lks,λl=>[.agg l.ts,.agg l.ts],λ_=>.bool true,λl=>l.H.length<=1048576/\l.W.length<=1048576⟩
theorem c2v:GK 39 c42:=gk func39<|by
 rintro(l:Lks) ⟨h1,h2⟩;refine S2 gN func39 (c5R l) (α:=let k:=(false=true);let j:=(l.W.length:Int);let w:=(l.H.length:Int);let z:=(0=0/\0=0);let p:=(oo ((Z2 Y6 l.H l.H)/\(Z2 Y4 l.W l.W)/\True));br (w !=w||j !=j) k ((∃(x:Up l.H.length),(z/\z/\0=(x.1:Int)/\True)/\p/\p/\True)/\∀(x:Up l.H.length),let u:=(x.1:Int);let q:=(l.H.getD u.toNat dz);bd (u<w) (V6 u l.H.length/\V6 u l.H.length/\br (!(q.tx==q.tx&&(q.ta==q.ta&&(q.row==q.row&&(q.mo==q.mo&&true))))) k (Ri (u+1)/\∃(y:Up l.H.length),((z/\z/\u+1=(y.1:Int)/\True)/\p/\p/\True)/\Lt (l.H.length-y.1) (l.H.length-x.1))) ((∃(x:Up l.W.length),(z/\z/\0=(x.1:Int)/\True)/\p/\p/\True)/\∀(x:Up l.W.length),let v:=(x.1:Int);let r:=(l.W.getD v.toNat dz);bd (v<j) (V6 v l.W.length/\V6 v l.W.length/\br (!(r.tx==r.tx&&(r.fo==r.fo&&true))) k (Ri (v+1)/\∃(y:Up l.W.length),((z/\z/\v+1=(y.1:Int)/\True)/\p/\p/\True)/\Lt (l.W.length-y.1) (l.W.length-x.1))) (true=true)))) ⟨λh=>J2,λ_=>⟨⟨⟨0,N7 _⟩,Z8⟩,λx=>⟨λC=>?_,λ_=>⟨⟨⟨0,N7 _⟩,Z8⟩,λy=>⟨λC=>?_,λ_=>rfl⟩⟩⟩⟩⟩
 ·have t:=Y2 C;exact⟨Y1 t,Y1 t,λh=>J2,λ_=>⟨V8 t Z9,⟨x.1+1,t⟩,⟨⟨Z8,Z8,X0,Z6⟩,Z8⟩,V0.ext_lt t⟩⟩
 ·have t:=Y2 C;exact⟨Y1 t,Y1 t,λh=>J2,λ_=>⟨V8 t Z9,⟨y.1+1,t⟩,⟨⟨Z8,Z8,X0,Z6⟩,Z8⟩,V0.ext_lt t⟩⟩
def c5U(e:Eng):Nat->Ann
 |0=>.one (Up e.X.length) (λx=>⟨[(2,.ref 0 0 0),(3,.ref 1 0 0),(5,Ji x.1)],[u5 e,u5 e]⟩) (λx=>e.X.length-x.1) vO vO (λ_=>Y7)
 |_=>.none
def c5E:Con:=.rel ⟨Eng,λe=>[.agg e.ts,.agg e.ts],λ_=>.bool true,λe=>EI e⟩
theorem c11:GK 14 c5E:=gk func14<|by
 intro(e:Eng) (h:EI e);obtain⟨l,l2,L⟩:=aK h;have u:(!e.up==e.up)=false:=X3
 refine S2 (gC a1l (gC c2v gN)) func14 (c5U e) (α:=let v:=(0=0/\0=0);let u:=(oo (L0 e e));let q:=(e.X.length:Int);∃(x:a8P.ι),(((zV e.s x)/\(zV e.s x)/\True)/\SmS x)/\∃(x:Lks),let z:=((Z2 Y6 e.lk.H x.H)/\(Z2 Y4 e.lk.W x.W)/\True);((false|| !e.up==e.up||q !=q)=false->(z/\z/\True)/\x.H.length<=1048576/\x.W.length<=1048576)/\br (false|| !e.up==e.up||q !=q||false||e.N !=e.N) (false=true) ((∃(x:Up e.X.length),(v/\v/\0=(x.1:Int)/\True)/\u/\u/\True)/\∀(x:Up e.X.length),let r:=(x.1:Int);let p:=(e.X.getD r.toNat dz);bd (r<q) (V6 r e.X.length/\V6 r e.X.length/\br (!(p.id==p.id&&(p.Z==p.Z&&true))) (false=true) (Ri (r+1)/\∃(y:Up e.X.length),((v/\v/\r+1=(y.1:Int)/\True)/\u/\u/\True)/\Lt (e.X.length-y.1) (e.X.length-x.1))) (true=true))) ⟨e.s,⟨Z8,h.g.sm⟩,e.lk,λ_=>⟨Z8,Z9,Z9⟩,λq=>by simp at q,λ_=>⟨⟨⟨0,N7 _⟩,Z8⟩,λx=>⟨λC=>?_,λ_=>rfl⟩⟩⟩
 have t:=Y2 C;exact⟨Y1 t,Y1 t,λh=>J2,λ_=>⟨V8 t Z9,⟨x.1+1,t⟩,⟨⟨Z8,Z8,X0,Z6⟩,Z8⟩,V0.ext_lt t⟩⟩
structure BegG(e f:Eng):Prop where
 ei:EI f
 tx:f.X=e.X++[⟨e.N,(e.s.L.length:Int)+1⟩]
 nx:f.N=e.N+1
 lk:f.lk=e.lk
 lg:f.s.L.length=e.s.L.length+1
 w:vw f.s=vw e.s
 pre:∀a,1<=a->a<=(e.s.L.length:Int)->X9 f.s.L a=X9 e.s.L a
 k1:(X9 f.s.L ((e.s.L.length:Int)+1)).k=1
 p0:(X9 f.s.L ((e.s.L.length:Int)+1)).p=0
theorem b6J{e:Eng}(h:EI e)(t:e.X.length<10)(n:e.N<=60)(l:(e.s.L.length:Int)+c9 e+2<=60):BegG e (V1 e).1/\(V1 e).2=(e.N,0):=by
 have E:=c2G h;have d:V1 e=(x4 (vX e) e.X.length mG,e.N,0):=by
  unfold V1;rw[if_pos h.up,if_neg Z9,if_pos l]
 rw[d] at E ⊢;have g:(vX e).X.getD e.X.length dz=⟨e.N,0⟩:=by
  show(e.X++[(⟨e.N,0⟩:Txn)]).getD e.X.length dz=_;rw[Q2,List.getElem?_concat_length]
  rfl
 have T:(x4 (vX e) e.X.length mG).X=e.X++[⟨e.N,(e.s.L.length:Int)+1⟩]:=by
  show(e.X++[(⟨e.N,0⟩:Txn)]).set e.X.length ⟨((vX e).X.getD e.X.length dz).id,(e.s.L.length:Int)+1⟩=_;rw[g,List.set_append_right _ _ (U9 _),j_h];rfl
 have Lg:(x4 (vX e) e.X.length mG).s.L=e.s.L++[T0 e.s (N5 (vX e) e.X.length mG)]:=rfl;refine⟨⟨E,T,rfl,rfl,by rw[Lg,J3,List.length_singleton],rfl,λa i f=>by rw[Lg];exact pX _ i f,?_,?_⟩,rfl⟩
 ·rw[Lg,l9];rfl
 ·rw[Lg,l9];show((vX e).X.getD e.X.length dz).Z=0;rw[g]
structure ComG(e f:Eng)(k:Nat):Prop where
 ei:EI f
 tx:f.X=e.X.take k++e.X.drop (k+1)
 nx:f.N=e.N
 lk:f.lk=frK e.lk (e.X.getD k dz).id
 lg:f.s.L.length=e.s.L.length+1
 w:vw f.s=vw e.s
theorem c1s{e:Eng}(h:EI e){k:Nat}(f:k<e.X.length):ComG e (U3 e (e.X.getD k dz).id).1 k/\(U3 e (e.X.getD k dz).id).2=0:=by
 have E:=c3Z h (e.X.getD k dz).id;have R:C8 (T0 e.s (N5 e k a1D)):=h.rcp f W6 W6 (λ_=>rfl) (λ_ _=>Z8) ⟨Int.le_refl _,kX⟩ W6 W6 W6 (λ_=>rfl)
 have g:=h.app f R;have n:=tQ e k a1D;have d:((e.s.L.length+1:Nat):Int)<=(oX e k).s.L.length:=by
  show _<=((x4 e k a1D).s.L.length:Int);rw[n];exact Int.le_refl _
 obtain⟨_,i,_⟩:=a48 (l:=((e.s.L.length+1:Nat):Int)) g d;have o:(uY e k).2=true:=i;have j:U3 e (e.X.getD k dz).id=(a2M (qN e k) k,0):=by
  unfold U3;rw[a4J h f];dsimp only;rw[if_pos rfl,E8,if_pos o]
 rw[j] at E ⊢;have hd:((qN e k).X.getD k dz).id=(e.X.getD k dz).id:=by
  show((e.X.set k _).getD k dz).id=_;rw[xG _ k f,if_pos rfl]
 refine⟨⟨E,?_,rfl,?_,?_,?_⟩,rfl⟩
 ·show(e.X.set k _).take k++(e.X.set k _).drop (k+1)=_;rw[a9E]
 ·show frK e.lk ((qN e k).X.getD k dz).id=_;rw[hd]
 ·show(W5 (oX e k).s (e.s.L.length+1:Nat)).1.L.length=_;rw[(vZ _ _).2.2.1];exact n
 ·show vw (W5 (oX e k).s (e.s.L.length+1:Nat)).1=_;exact c4p g d
theorem a6l{L:List Rec}(hL:o8 L):∀(f:Nat) (a:Int),a<=L.length->und L f a<=a.toNat
 |0,_,_=>N7 _
 |f+1,a,ha=>by
  unfold und;by_cases h:a<=0
  ·rw[if_pos h];exact N7 _
  ·obtain⟨p1,p2,p3,p4⟩:=hL.prev (show 1<=a by omega) ha
   have i:=a6l hL f (X9 L a).n Z9
   have I:=a6l hL f (X9 L a).p Z9
   rw[if_neg h];split
   ·omega
   ·split<;>omega
theorem c0T{L:List Rec}{T:List Txn}(h:o8 L)(d:∀i,i<T.length->(T.getD i dz).Z<=(L.length:Int)):∀k,k<=T.length->v8 L T k<=k*(1+L.length)
 |0,_=>N7 _
 |k+1,hk=>by
  have I:=c0T h d k Z9
  have e:=d k Z9
  have f:=a6l h 61 (T.getD k dz).Z e;unfold v8;rw[Nat.succ_mul];omega
theorem b9O{e:Eng}(h:EI e):c9 e<=e.X.length*(1+e.s.L.length):=c0T h.h.li.1 (λi hi=>(yX (h.h.ow i hi)).2) _ (U9 _)
theorem pig:∀(l c:List (Nat×Nat)),c.Nodup->l.length<c.length->∃x,x ∈ c/\x ∉ l
 | [],[],_,h=>absurd h (Nat.lt_irrefl _)
 | [],x::c,_,_=>⟨x,List.mem_cons_self,j_i⟩
 |y::l,c,hc,h=>by
  rw[List.length_cons] at h;have L:=List.length_erase (a:=y) (l:=c);obtain⟨x,d,e⟩:=pig l (c.erase y) (hc.erase y) (by split at L<;>omega)
  rw[hc.mem_erase_iff] at d;exact⟨x,d.2,by rw[xX,not_or];exact⟨d.1,e⟩⟩
def c8:List (Nat×Nat):=[(0,0),(0,1),(0,2),(0,3),(1,0),(1,1),(1,2),(1,3)]
def Rm(S:Nat->Nat->Bz):Prop:=∃n i,n<8/\i<4/\S n i=[]
theorem c41{S R:Nat->Nat->Bz}{l:List (Nat×Nat)}(L:l.length<=7)(h:∀n i,(n,i) ∉ l->S n i=R n i)(d:∀n i,R n i=[]):Rm S:=by
 obtain⟨⟨n,i⟩,e,M⟩:=pig l c8 W6 (by show l.length<8;omega)
 have:=(by decide:∀x,x ∈ c8->x.1<8/\x.2<4) _ e
 exact⟨n,i,this.1,this.2,by rw[h n i M];exact d n i⟩
theorem b3N{e:Eng}{tx ta id:Int}{no:Nat}{p:Pg}{A:Plc}(h:0<=A.c):∀n,0<=(k7 e tx ta id no p A n).c
 |0=>h
 |n+1=>by
  have i:=b3N (e:=e) (tx:=tx) (ta:=ta) (id:=id) (no:=no) (p:=p) h n;unfold k7;dsimp only;split
  ·rw[if_neg Z9]
   exact i
  ·split<;>exact i
theorem b27{e:Eng}{tx ta id:Int}{no:Nat}{p:Pg}{A:Plc}{i:Nat}(h1:p.sl.getD i []=[])(h2:wL e tx no i=false):∀n,i<n->0<=(k7 e tx ta id no p A n).c
 |0,h=>absurd h (J9 _)
 |n+1,h=>by
  unfold k7;dsimp only;by_cases hi:i=n
  ·subst hi;rw[if_pos h1];split
   ·exact Int.natCast_nonneg _
   ·rename_i hc;have:¬ (k7 e tx ta id no p A i).c<0:=λh=>hc ⟨h,h2⟩
    omega
  ·have ih:=b27 (e:=e) (tx:=tx) (ta:=ta) (id:=id) (no:=no) (A:=A) h1 h2 n Z9
   split
   ·rw[if_neg Z9]
    exact ih
   ·split<;>exact ih
theorem c1k{e:Eng}(h:GInv e.s){tx ta id:Int}{N i0:Nat}(hi:i0<4)(d:vw e.s N i0=[])(h2:wL e tx N i0=false):∀n,n<=8->N<n->0<=(R1 e tx ta id n).2.1.c
 |0,_,h0=>absurd h0 (J9 _)
 |n+1,hn,h0=>by
  obtain⟨g,_,j,_⟩:=rH h tx ta id n Z9
  obtain⟨_,f⟩:=o4 g (no:=n) Z9
  have hv:=a5w h tx ta id n Z9
  unfold R1;rw[if_pos j,if_pos f];dsimp only;by_cases hc:N=n
  ·subst hc;refine b27 (i:=i0) ?_ h2 4 hi
   rw[←hv] at d;rw[a1g g Z9]
   unfold vw at d;rw[if_pos Z9] at d
   exact d
  ·exact b3N (c1k h hi d h2 n Z9 Z9) 4
theorem c09{e:Eng}{k:Nat}{g s:Int}{b a:Bz}{v:Nat}(h:e.s.L.length+c9 e+2<=60):(kJ e k g s b a v).2=0:=by
 rw[nE Z9]
theorem c5r{e:Eng}{s:Sto}(h:s.L=e.s.L):c9 (O4 e s)=c9 e:=by
 unfold c9 O4;dsimp only;rw[h]
theorem c1t{e:Eng}(h:EI e){k:Nat}(j:k<e.X.length){tx ta:Int}{r:Rw}(x:(e.X.getD k dz).id=tx)(hi:0<=r.id/\r.id<=1000)(v:1<=ta/\ta<=3)(N:(X1 e.lk ⟨tx,ta,-1,2⟩).2=0)(l2:(X1 (X1 e.lk ⟨tx,ta,-1,2⟩).1 ⟨tx,ta,r.id,4⟩).2=0)
  (M:e.s.L.length+c9 e+2<=60) {n i:Nat} (A:n<8) (q:i<4) (t:vw e.s n i=[]) (l:wL e tx n i=false):(y9 e tx ta r false).2=0:=by
 have d:=a4J h j;rw[x] at d;have R:LokR ta (-1) 2:=⟨v,W6,W6,W6⟩
 have J:LokR ta r.id 4:=⟨v,Z9,W6,.inr W6⟩
 have E2:=uC (uC h j R) (k:=k) j J;have u:=wE x ta (-1) 2;have I:(X1 e.lk (P1 e k ta (-1) 2)).2=0:=by rw[u];exact N
 have z:(X1 (D7 e k ta (-1) 2).lk (P1 (D7 e k ta (-1) 2) k ta r.id 4)).2=0:=by
  rw[wE (e:=D7 e k ta (-1) 2) (k:=k) x];show(X1 (X1 e.lk (P1 e k ta (-1) 2)).1 _).2=0;rw[u];exact l2
 have C:LkY e tx ta r.id k:=⟨i6,i6,j,x,by
  rw[mE (k:=k) i6 i6]
  unfold fZ;rw[if_pos I,z]⟩
 rw[a9U C];have t:vw (D7 (D7 e k ta (-1) 2) k ta r.id 4).s n i=[]:=t;have l:wL (D7 (D7 e k ta (-1) 2) k ta r.id 4) tx n i=false:=l;have M:(D7 (D7 e k ta (-1) 2) k ta r.id 4).s.L.length+c9 (D7 (D7 e k ta (-1) 2) k ta r.id 4)+2<=60:=M;generalize D7 (D7 e k ta (-1) 2) k ta r.id 4=e2 at*;obtain⟨F,o,W,g4⟩:=rH E2.g tx ta r.id 8 (U9 _);have V:=c1k E2.g (tx:=tx) (ta:=ta) (id:=r.id) q t l 8 (U9 _) A;generalize R1 e2 tx ta r.id 8=f at*;unfold a5t;split
 ·rw[if_neg X3,if_neg Z9]
  exact c09 (by rw[c5r o];show f.1.L.length+_+2<=60;rw[o];exact M)
 ·rename_i ha;have hA:=g4.1.resolve_left Z9
  obtain⟨Q,B,U,O,_⟩:=a1x (e:=e2) F hA;have L:(wN e2 f.2.1 f.1).1.L=e2.s.L:=B.trans o;exact c09 (by rw[c5r L];show(wN e2 f.2.1 f.1).1.L.length+_+2<=60;rw[L];exact M)
def dW(c:Bz):Rw:=(kL (T4 c)).2
theorem a0G(c:Bz):M0 (dW c)=true:=b9T (a8j c)
theorem a5z(c:Bz):0<=(dW c).id/\(dW c).id<=1000:=(a3J (a0G c)).1.2.2
def pE0(c:Bz):Nat->Eng
 |0=>(V1 rO).1
 |i+1=>(y9 (pE0 c i) 1 1 (dW (UInt8.ofNat i::c)) false).1.1
def pEH(c:Bz):{p:Nat->Eng//p 0=(V1 rO).1/\∀i,p (i+1)=(y9 (p i) 1 1 (dW (UInt8.ofNat i::c)) false).1.1}:=Classical.choice ⟨⟨pE0 c,rfl,λ_=>rfl⟩⟩
def pE(c:Bz):Nat->Eng:=(pEH c).1
def eE(c:Bz):Eng:=(U3 (pE c 3) 1).1
def twE(c:Bz):Eng:=(V1 (eE c)).1
def uB(c:Bz):Eng:=(V1 (twE c)).1
def bV(c:Bz):Eng:=(G5 (uB c) 2 1).1.1
def xE(c m:Bz):Eng:=(y9 (bV c) 3 1 (dW m) false).1.1
def yE(c m:Bz):Eng:=(U3 (xE c m) 2).1
theorem c6k{e:Eng}(h:EI e)(t:e.X=[]):e.lk=⟨[],[]⟩:=by
 have l:e.X.length=0:=by rw[t];rfl
 have f:e.lk.H=[]:=by
  cases q:e.lk.H with
  |nil=>rfl
  |cons x X=>
   obtain⟨j,J,_⟩:=h.h.hd 0 (by rw[q];exact Nat.zero_lt_succ _)
   omega
 have d:e.lk.W=[]:=by
  cases q:e.lk.W with
  |nil=>rfl
  |cons x X=>
   obtain⟨⟨j,J,_⟩,_⟩:=h.h.wt 0 (by rw[q];exact Nat.zero_lt_succ _)
   omega
 cases g:e.lk with
 |mk a b=>
  rw[g] at f d;rw[←f,←d]
theorem b9P:BegG rO (V1 rO).1/\(V1 rO).2=(1,0):=b6J a9k W6 W6 W6
theorem a9x(c:Bz)(ta:Int):(tS ta (dW c)).length<=30:=(a3J (a0G c)).2 ta
theorem a9e(c:Bz):∀i,Pw i (V1 rO).1 (pE c i)
 |0=>by
  have e:pE c 0=_:=(pEH c).2.1;rw[e];exact bP b9P.1.ei rfl rfl rfl rfl
 |i+1=>by
  have h:=a9e c i;have e:pE c (i+1)=_:=(pEH c).2.2 i;rw[e];exact h.tr (fF h.ei W6 (a5z _) (a9x _ _))
theorem c6K{n i:Nat}:vw rO.s n i=[]:=by
 unfold vw;split
 ·have h:(pgV rO.s n).sl=[[],[],[],[]]:=by
   unfold pgV U4;rw[if_neg (show ¬0<=frAt rO.s.fr n by show ¬ (0:Int)<= -1;decide)]
   exact congrArg (λp:Pg×Bool=>p.1.sl) (if_pos (jN Z9))
  rw[h]
  match i with
  |0=>rfl
  |1=>rfl
  |2=>rfl
  |3=>rfl
  |i+4=>rfl
 ·rfl
structure EeP(c:Bz):Prop where
 ei:EI (eE c)
 c0:(U3 (pE c 3) 1).2=0
 tx:(eE c).X=[]
 nx:(eE c).N=2
 lg:(eE c).s.L.length<=5
 rm:Rm (vw (eE c).s)
theorem c1j(c:Bz):EeP c:=by
 have h:=a9e c 3;have b:=b9P.1;have B:(V1 rO).1.X.getD 0 dz=⟨1,1⟩:=by rw[b.tx];rfl
 have d:((pE c 3).X.getD 0 dz).id=1:=(h.id 0).trans (by rw[B])
 have j:(pE c 3).X.length=1:=h.ln.trans (by rw[b.tx];rfl)
 obtain⟨g,e⟩:=c1s h.ei (k:=0) Z9
 rw[d] at g e;have L1:(V1 rO).1.s.L.length=1:=b.lg;have lg:=h.lg;have L:(eE c).s.L.length=(pE c 3).s.L.length+1:=g.lg;refine⟨g.ei,e,?_,?_,Z9,?_⟩
 ·refine List.eq_nil_of_length_eq_zero ?_
  have t:(eE c).X=_:=g.tx;rw[t,nU Z9]
  omega
 ·exact g.nx.trans (h.nx.trans b.nx)
 ·have hv:vw (eE c).s=vw (pE c 3).s:=g.w;rw[hv];obtain⟨l,o,f⟩:=h.fw;exact c41 Z9 f λn i=>by rw[b.w];exact c6K
structure ThP(c:Bz):Prop where
 ei2:EI (twE c)
 ei:EI (uB c)
 c2:(V1 (eE c)).2=(2,0)
 c3:(V1 (twE c)).2=(3,0)
 tx:∃a b:Int,(uB c).X=[⟨2,a⟩,⟨3,b⟩]/\1<=a/\(X9 (uB c).s.L a).k=1/\(X9 (uB c).s.L a).p=0
 lk:(uB c).lk=⟨[],[]⟩
 lg:(uB c).s.L.length<=7
 rm:Rm (vw (uB c).s)
theorem a6h(c:Bz):ThP c:=by
 obtain⟨h,_,t,n,v,r⟩:=c1j c;have o:=b9O h;rw[t,show([]:List Txn).length=0 from rfl,Nat.zero_mul] at o
 obtain⟨g,q⟩:=b6J h (by rw[t];decide) Z9 Z9
 have d:(twE c).X=_:=g.tx;have L:(twE c).s.L.length=_:=g.lg;have N:(twE c).N=_:=g.nx;have i:EI (twE c):=g.ei;rw[t,List.nil_append,n] at d;have u:=b9O i;rw[d,show[(⟨2,((eE c).s.L.length:Int)+1⟩:Txn)].length=1 from rfl,Nat.one_mul] at u
 obtain⟨f,l⟩:=b6J i (by rw[d];show(1:Nat)<10;decide) Z9 Z9
 have F:(uB c).X=_:=f.tx;have fl:(uB c).s.L.length=_:=f.lg;have fp:=f.pre ((eE c).s.L.length+1) Z9 Z9
 have fp:X9 (uB c).s.L ((eE c).s.L.length+1)=X9 (twE c).s.L ((eE c).s.L.length+1):=fp;refine⟨i,f.ei,by rw[q,n],by rw[l,N,n];rfl,⟨_,_,by rw[F,d,N,n];rfl,Z9,by rw[fp];exact g.k1,by rw[fp];exact g.p0⟩,?_,Z9,?_⟩
 ·have e:(uB c).lk=_:=f.lk;have j:(twE c).lk=_:=g.lk;rw[e,j,c6k h t]
 ·have e:vw (uB c).s=_:=f.w;have j:vw (twE c).s=_:=g.w;rw[e,j];exact r
theorem c1u{e:Eng}(h:EI e){k:Nat}(f:k<e.X.length){tx ta:Int}(x:(e.X.getD k dz).id=tx)(l:(X1 e.lk ⟨tx,ta,-1,3⟩).2=0):G5 e tx ta=((O4 (D7 e k ta (-1) 3) (cT e.s 8),ftV e.s 8),wQ (rcV (vw e.s) ta 8),0):=by
 have d:=a4J h f;rw[x] at d;exact b5S i6 i6 (by rw[wE x];exact l)
theorem c49{e:Eng}(h:EI e){k:Nat}(f:k<e.X.length){tx ta:Int}(x:(e.X.getD k dz).id=tx)(l:(X1 e.lk ⟨tx,ta,-1,2⟩).2=13)(r:Rw)(gone:Bool):(y9 e tx ta r gone).1.1=D7 e k ta (-1) 2/\(y9 e tx ta r gone).2=13:=by
 have d:=a4J h f;rw[x] at d;have A:s6 e tx ta 2 r.id 4=(D7 e k ta (-1) 2,13):=by
  rw[mE (k:=k) i6 i6]
  unfold fZ;rw[wE x,l,if_neg W6]
 rw[a0c (by rw[A];show ¬ (13:Int)=0;decide),A]
 exact Z8
def lkS:Lks:=⟨[⟨2,1,-1,3⟩],[]⟩
def lkW:Lks:=⟨[⟨2,1,-1,3⟩],[⟨3,2⟩]⟩
theorem c3i:X1 ⟨[],[]⟩ ⟨2,1,-1,3⟩=(lkS,0):=rfl
theorem c27:X1 lkS ⟨3,1,-1,2⟩=(lkW,13):=rfl
theorem c4u:X1 lkS ⟨3,2,-1,2⟩=(⟨[⟨2,1,-1,3⟩,⟨3,2,-1,2⟩],[]⟩,0):=rfl
theorem c6r(id:Int):(X1 ⟨[⟨2,1,-1,3⟩,⟨3,2,-1,2⟩],[]⟩ ⟨3,2,id,4⟩).2=0:=by
 unfold X1;split
 ·rfl
 ·rw[if_pos (show(G6 ⟨[⟨2,1,-1,3⟩,⟨3,2,-1,2⟩],[]⟩ ⟨3,2,id,4⟩).length=0 from rfl),if_neg W6]
theorem c5p:(X1 lkW ⟨2,1,-1,3⟩).2=0:=rfl
theorem c3u:X1 ⟨[],[]⟩ ⟨3,1,-1,2⟩=(⟨[⟨3,1,-1,2⟩],[]⟩,0):=rfl
theorem c5o(id:Int):(X1 ⟨[⟨3,1,-1,2⟩],[]⟩ ⟨3,1,id,4⟩).2=0:=by
 unfold X1;split
 ·rfl
 ·rw[if_pos (show(G6 ⟨[⟨3,1,-1,2⟩],[]⟩ ⟨3,1,id,4⟩).length=0 from rfl),if_neg W6]
structure ScP(c:Bz):Prop where
 ei:EI (bV c)
 c0:(G5 (uB c) 2 1).2.2=0
 rw:(G5 (uB c) 2 1).2.1=wQ (rcV (vw (uB c).s) 1 8)
 tx:(bV c).X=(uB c).X
 lk:(bV c).lk=lkS
 lg:(bV c).s.L=(uB c).s.L
 v:vw (bV c).s=vw (uB c).s
theorem b4a(c:Bz):ScP c:=by
 obtain⟨_,h,_,_,⟨a,b,f,_⟩,j,_⟩:=a6h c;have i:0<(uB c).X.length:=by rw[f];exact Nat.zero_lt_succ _
 have x:((uB c).X.getD 0 dz).id=2:=by rw[f];rfl
 have d:=c1u h i (ta:=1) x (by rw[j,c3i])
 have e:bV c=(G5 (uB c) 2 1).1.1:=rfl;obtain⟨g,l,v⟩:=b8y h.g 8 (U9 _);have L:(D7 (uB c) 0 1 (-1) 3).lk=lkS:=by
  show(X1 (uB c).lk ⟨((uB c).X.getD 0 dz).id,1,-1,3⟩).1=_;rw[j,x,c3i]
 have n:=cK (uC h i (ta:=1) (row:= -1) (mo:=3) ⟨W6,W6,W6,.inl W6⟩) g l
 generalize cT (uB c).s 8=t at*;rw[d] at e;dsimp only at e;exact⟨by rw[e];exact n,i6,i6,by rw[e];rfl,by rw[e];exact L,by rw[e];exact l,by rw[e];exact v⟩
structure PhP(c m:Bz):Prop where
 dr:(y9 (bV c) 3 1 (kM (dW m).id) true).2=13
 pu:(y9 (bV c) 3 1 (dW m) false).2=13
 ot:(y9 (bV c) 3 2 (dW m) false).2=0
 n1:∀id,cQ (bV c).lk 3 1 2 id 4
 n2:∀id,cQ (bV c).lk 3 2 2 id 4
 xi:EI (xE c m)
 xn:(X1 (xE c m).lk ⟨2,1,-1,3⟩).2≠14
 x0:(G5 (xE c m) 2 1).2.2=0
 xr:(G5 (xE c m) 2 1).2.1=(G5 (uB c) 2 1).2.1
 y0:(U3 (xE c m) 2).2=0
 yi:EI (yE c m)
 yn:∀id,cQ (yE c m).lk 3 1 2 id 4
 z0:(y9 (yE c m) 3 1 (dW m) false).2=0
 zi:EI (y9 (yE c m) 3 1 (dW m) false).1.1
theorem c65(c m:Bz):PhP c m:=by
 obtain⟨_,O,_,_,⟨a,b,C,Q,d,l⟩,_,F,⟨n,i,hn,hi,hs⟩⟩:=a6h c;obtain⟨h,R,rw0,tx,lk,lg,v⟩:=b4a c;rw[C] at tx;have hid:=a5z m;have l2:(bV c).X.length=2:=by rw[tx];rfl
 have x1:((bV c).X.getD 1 dz).id=3:=by rw[tx];rfl
 have W:=λgone r=>c49 h (k:=1) Z9 (tx:=3) (ta:=1) x1 (by rw[lk,c27]) r gone
 have X:xE c m=D7 (bV c) 1 1 (-1) 2:=(W false (dW m)).1;have f:EI (xE c m):=by
  rw[X];exact uC h Z9 ⟨W6,W6,W6,.inl W6⟩
 have t:(xE c m).X=[⟨2,a⟩,⟨3,b⟩]:=by rw[X];exact tx
 have V:vw (xE c m).s=vw (uB c).s:=by rw[X];exact v
 have M:(xE c m).s.L=(uB c).s.L:=by rw[X];exact lg
 have q:(xE c m).lk=lkW:=by
  rw[X];show(X1 (bV c).lk (P1 (bV c) 1 1 (-1) 2)).1=_;rw[lk,wE x1,c27]
 have o:((xE c m).X.getD 0 dz).id=2:=by rw[t];rfl
 have x:0<(xE c m).X.length:=by rw[t];exact Nat.zero_lt_succ _
 have A:=c1u f x (ta:=1) o (by rw[q,c5p])
 obtain⟨g,u⟩:=c1s f x;rw[o] at g u;have yi:EI (yE c m):=g.ei;have z:(yE c m).X=[⟨3,b⟩]:=by
  have:(yE c m).X=_:=g.tx;rw[this,t];rfl
 have yk:(yE c m).lk=⟨[],[]⟩:=by
  have:(yE c m).lk=frK (xE c m).lk ((xE c m).X.getD 0 dz).id:=g.lk;rw[this,q,o];rfl
 have yv:vw (yE c m).s=vw (uB c).s:=by
  have:vw (yE c m).s=_:=g.w;rw[this,V]
 have L:(yE c m).s.L.length=(xE c m).s.L.length+1:=g.lg;rw[M] at L;have Y:(yE c m).X.length=1:=by rw[z];rfl
 have y3:((yE c m).X.getD 0 dz).id=3:=by rw[z];rfl
 have I:=b9O h;have B:=b9O yi;rw[l2,lg] at I;rw[Y,L] at B;have N:(0:Int)≠14:=W6
 refine⟨(W true _).2,(W false _).2,?_,λid=>?_,λid=>?_,f,by rw[q,c5p];exact N,by rw[A],by rw[A,rw0,V],u,yi,λid=>?_,?_,(fF yi W6 hid (a9x _ _)).ei⟩
 ·refine c1t h (k:=1) Z9 x1 hid ⟨W6,W6⟩ (by rw[lk,c4u]) (by rw[lk,c4u];exact c6r _) (by rw[lg];omega) hn hi (by rw[v];exact hs) ?_
  unfold wL;rw[l2,R8];intro j J;unfold tD;have:j=0∨j=1:=Z9
  rcases this with rfl|rfl
  ·rw[tx,lg];show(!((2:Int)==3)&&kepA (uB c).s.L n i 61 a)=false;have:kepA (uB c).s.L n i 61 a=false:=by
    unfold kepA;rw[if_neg Z9,if_neg (by rw[d];decide),if_neg (by rw[d];exact λe=>absurd e.1 W6),l]
    unfold kepA;rw[if_pos (Int.le_refl 0)]
   rw[this,Bool.and_false]
  ·rw[x1];rfl
 ·rw[lk];unfold cQ;rw[c27];exact⟨by show(13:Int)≠14;decide,λe=>absurd e (by show ¬ (13:Int)=0;decide)⟩
 ·rw[lk];unfold cQ;rw[c4u];exact⟨N,λ_=>by rw[c6r];exact N⟩
 ·rw[yk];unfold cQ;rw[c3u];exact⟨N,λ_=>by rw[c5o];exact N⟩
 ·refine c1t yi (k:=0) Z9 y3 hid ⟨W6,W6⟩ (by rw[yk,c3u]) (by rw[yk,c3u];exact c5o _) Z9 hn hi (by rw[yv];exact hs) ?_
  unfold wL;rw[Y,R8];intro j J;have:j=0:=Z9
  subst this;unfold tD;rw[y3];rfl
def c4U(c m:Bz)(p:Nat->Eng):Nat->Ann
 |0=>.one (Up 3) (λx=>⟨[(0,.bys c),(1,.bys m),(5,.ref 0 0 0),(6,Ji 1),(7,Ji 0),(8,Ji x.1)],[u5 (p x.1)]⟩) (λx=>3-x.1) [.box 0] [.box 0] (λ_=>Y7)
 |_=>.none
theorem c36(c m:Bz)(p:Nat->Eng)(h:
let pg:=(decide ((c.length:Int)>1048576)||decide ((m.length:Int)>1048576));  (pg=true->true=true)/\(pg=false->∃(x:Unit), (True/\True)/\∃(x:Eng),((((69=x.s.d.E.length/\Z7 69 (Z5 ((o6 69).set 0 (hdB (1:Int)))) (Z5 x.s.d.E))/\(0=x.s.d.C.length/\Z7 0 (Y8 []) (Y8 x.s.d.C))/\false=x.s.d.A/\(0=x.s.d.keep.length/\Z7 0 (Y9 []) (Y9 x.s.d.keep))/\1=x.s.ep/\(0=x.s.L.length/\Z7 0 (Y0 []) (Y0 x.s.L))/\0=x.s.S/\(0=x.s.fr.length/\Z7 0 (V4 []) (V4 x.s.fr))/\0=x.s.J/\true=x.up/\(0=x.X.length/\Z7 0 (W8 []) (W8 x.X))/\(0=x.lk.H.length/\Z7 0 (Y6 []) (Y6 x.lk.H))/\(0=x.lk.W.length/\Z7 0 (Y4 []) (Y4 x.lk.W))/\1=x.N/\True)/\True)/\EI x)/\(∃(j:Up 3),(c=c/\m=m/\(0=0/\0=0)/\(V1 x).2.1=(1:Int)/\(V1 x).2.2=(0:Int)/\0=(j.val:Int)/\True)/\(oo (L0 (V1 x).1 (p j.val)))/\True)/\∀(x:Up 3),let pj:=(x.1:Int);let ph:=(List.take 1 (List.map R4 [IntKind.u8.wrap pj])++c);bd (pj<3) (P6 IntKind.u8 (IntKind.u8.wrap pj)/\(Le 1 1/\U8 1 c.length 1)/\∃(j:(Bz)),let pt:=(U5 (U0 (T4 j) (6:Int)));let b:=(G3 (F0 (T4 j)) pt.2);let pc:=(l7 b.1 (U5 pt.1).2);(Le (0+(1+c.length)) ph.length/\(List.take (1+c.length) (List.drop 0 ph)=j/\True)/\j.length<=2000000)/\∃(g:(Eng×Int×Int×Rw)),let pk:=g.2.2.2;(((L0 (p x.1) g.1)/\1=g.2.1/\1=g.2.2.1/\(B3 (T4 j) 6=pk.id/\b.2.k=pk.n.k/\b.2.n=pk.n.n/\b.2.t=pk.n.t/\pc.2.k=pk.name.k/\pc.2.n=pk.name.n/\pc.2.t=pk.name.t/\True)/\True)/\EI g.1/\(1<=g.2.2.1/\g.2.2.1<=(3:Int))/\M0 pk=true/\cQ g.1.lk g.2.1 g.2.2.1 (2:Int) pk.id (4:Int))/\Ri (pj+1)/\∃(y:Up 3),((c=c/\m=m/\(0=0/\0=0)/\(1:Int)=1/\(0:Int)=0/\pj+1=(y.1:Int)/\True)/\(oo (L0 (y9 g.1 g.2.1 g.2.2.1 g.2.2.2 false).1.1 (p y.1)))/\True)/\Lt (3-y.1) (3-x.1)) (∃(j:(Eng×Int)),let pr:=(U3 j.1 j.2);(((L0 (p x.1) j.1)/\1=j.2/\True)/\EI j.1)/\∃(x:Eng),(((L0 pr.1 x)/\True)/\EI x)/\∃(g:Eng),let pq:=(V1 g).2.1;(((L0 (V1 x).1 g)/\True)/\EI g)/\∃(o:(Eng×Int×Int)),let pb:=(G5 o.1 o.2.1 o.2.2);(((L0 (V1 g).1 o.1)/\(V1 x).2.1=o.2.1/\1=o.2.2/\True)/\EI o.1/\(1<=o.2.2/\o.2.2<=(3:Int))/\(X1 o.1.lk (Lck.mk o.2.1 o.2.2 (-1:Int) (3:Int))).2≠(14:Int))/\∃(X:(Bz)),let pu:=(U5 (U0 (T4 X) (6:Int)));let w:=(G3 (F0 (T4 X)) pu.2);let a:=(l7 w.1 (U5 pu.1).2);((m=X/\True)/\X.length<=2000000)/\∃(f:(Eng×Int×Int×Rw)),let pm:=f.2.2.2;let pa:=(y9 f.1 f.2.1 f.2.2.1 f.2.2.2 false);(((L0 pb.1.1 f.1)/\pq=f.2.1/\1=f.2.2.1/\(B3 (T4 X) 6=pm.id/\w.2.k=pm.n.k/\w.2.n=pm.n.n/\w.2.t=pm.n.t/\a.2.k=pm.name.k/\a.2.n=pm.name.n/\a.2.t=pm.name.t/\True)/\True)/\EI f.1/\(1<=f.2.2.1/\f.2.2.1<=(3:Int))/\M0 pm=true/\cQ f.1.lk f.2.1 f.2.2.1 (2:Int) pm.id (4:Int))/\∃(r:(Eng×Int×Int)),let pd:=(y9 r.1 r.2.1 (1:Int) (kM r.2.2) true).2;(((L0 pb.1.1 r.1)/\pq=r.2.1/\(1:Int)=1/\B3 (T4 X) 6=r.2.2/\True)/\EI r.1/\(0<=r.2.2/\r.2.2<=(1000:Int))/\cQ r.1.lk r.2.1 (1:Int) (2:Int) r.2.2 (4:Int))/\∃(l:(Eng×Int×Int×Rw)),let pn:=l.2.2.2;let pe:=(y9 l.1 l.2.1 l.2.2.1 l.2.2.2 false).2;(((L0 pb.1.1 l.1)/\pq=l.2.1/\2=l.2.2.1/\(B3 (T4 X) 6=pn.id/\w.2.k=pn.n.k/\w.2.n=pn.n.n/\w.2.t=pn.n.t/\a.2.k=pn.name.k/\a.2.n=pn.name.n/\a.2.t=pn.name.t/\True)/\True)/\EI l.1/\(1<=l.2.2.1/\l.2.2.1<=(3:Int))/\M0 pn=true/\cQ l.1.lk l.2.1 l.2.2.1 (2:Int) pn.id (4:Int))/\∃(q:(Eng×Int×Int)),let pi:=(G5 q.1 q.2.1 q.2.2);(((L0 pa.1.1 q.1)/\(V1 x).2.1=q.2.1/\1=q.2.2/\True)/\EI q.1/\(1<=q.2.2/\q.2.2<=(3:Int))/\(X1 q.1.lk (Lck.mk q.2.1 q.2.2 (-1:Int) (3:Int))).2≠(14:Int))/\∃(u:(Eng×Int)),let ps:=(U3 u.1 u.2);(((L0 pa.1.1 u.1)/\(V1 x).2.1=u.2/\True)/\EI u.1)/\∃(e:(Eng×Int×Int×Rw)),let po:=e.2.2.2;let pf:=(y9 e.1 e.2.1 e.2.2.1 e.2.2.2 false);(((L0 ps.1 e.1)/\pq=e.2.1/\1=e.2.2.1/\(B3 (T4 X) 6=po.id/\w.2.k=po.n.k/\w.2.n=po.n.n/\w.2.t=po.n.t/\a.2.k=po.name.k/\a.2.n=po.name.n/\a.2.t=po.name.t/\True)/\True)/\EI e.1/\(1<=e.2.2.1/\e.2.2.1<=(3:Int))/\M0 po=true/\cQ e.1.lk e.2.1 e.2.2.1 (2:Int) po.id (4:Int))/\∃(i:(Eng×Int×Int×Rw)),let pp:=i.2.2.2;(((L0 ps.1 i.1)/\pq=i.2.1/\1=i.2.2.1/\(B3 (T4 X) 6=pp.id/\w.2.k=pp.n.k/\w.2.n=pp.n.n/\w.2.t=pp.n.t/\a.2.k=pp.name.k/\a.2.n=pp.name.n/\a.2.t=pp.name.t/\True)/\True)/\EI i.1/\(1<=i.2.2.1/\i.2.2.1<=(3:Int))/\M0 pp=true/\cQ i.1.lk i.2.1 i.2.2.1 (2:Int) pp.id (4:Int))/\∃(v:(List Rw)),((true&&pr.2==0&&(V1 x).2.2==(0:Int)&&(V1 g).2.2==(0:Int)&&pb.2.2==(0:Int)&&pa.2==13&&pd==13&&pe==0&&pi.2.2==(0:Int))=true->((Z2 G9 pi.2.1 v)/\(Z2 G9 pb.2.1 v)/\True)/\v.length<=1048576)/\∃(z:Eng),((true&&pr.2==0&&(V1 x).2.2==(0:Int)&&(V1 g).2.2==(0:Int)&&pb.2.2==(0:Int)&&pa.2==13&&pd==13&&pe==0&&pi.2.2==(0:Int)&&true&&ps.2==0&&pf.2==0)=true->((L0 pf.1.1 z)/\(L0 (y9 i.1 i.2.1 i.2.2.1 i.2.2.2 false).1.1 z)/\True)/\EI z)/\(true&&pr.2==0&&(V1 x).2.2==(0:Int)&&(V1 g).2.2==(0:Int)&&pb.2.2==(0:Int)&&pa.2==13&&pd==13&&pe==0&&pi.2.2==(0:Int)&&true&&ps.2==0&&pf.2==0&&true)=true))):
  V2 prog 3 [.bys c,.bys m] (.bool true):=
 S2 (gC b2E (gC b78 (gC b7L (gC b9L (gC b7p (gC b9D (gC b7y (gC c0O (gC a6T (gC c11 gN)))))))))) func3 (c4U c m p) h
theorem c6q{i:Nat}(h:i<3)(c:Bz):List.take (1+c.length) (List.drop 0 (List.take 1 (List.map R4 [IntKind.u8.wrap (i:Int)])++c))=UInt8.ofNat i::c:=by
 have e:List.take 1 (List.map R4 [IntKind.u8.wrap (i:Int)])=[UInt8.ofNat i]:=by
  match i,h with
  |0,_=>rfl
  |1,_=>rfl
  |2,_=>rfl
  |n+3,h=>exact absurd h Z9
 rw[e,List.drop_zero];exact List.take_of_length_le I0
theorem c5D{i:Nat}(h:i<3):P6 IntKind.u8 (IntKind.u8.wrap (i:Int)):=by
 match i,h with
 |0,_=>exact(yV _).2 W6
 |1,_=>exact(yV _).2 W6
 |2,_=>exact(yV _).2 W6
 |n+3,h=>exact absurd h Z9
theorem c3T(c:Bz)(i:Nat)(id:Int):cQ (pE c i).lk 1 1 2 id 4:=by
 have h:=a9e c i;have b:=b9P.1;exact c5q h.ei (h.ln.trans (by rw[b.tx];rfl)) ((h.id 0).trans (by rw[b.tx];rfl)) W6
theorem b02(c m:Bz):V2 prog 3 [.bys c,.bys m] (.bool true):=by
 refine c36 c m (pE c) ⟨λ_=>rfl,λq=>?_⟩
 rw[yY] at q;have hc:=q8 q.1;have hm:=q8 q.2;have v:pE c 0=(V1 rO).1:=(pEH c).2.1;have o:∀i,pE c (i+1)=(y9 (pE c i) 1 1 (dW (UInt8.ofNat i::c)) false).1.1:=(pEH c).2.2;have f:∀i,EI (pE c i):=λi=>(a9e c i).ei
 have N:∀i id,cQ (pE c i).lk 1 1 2 id 4:=λi id=>c3T c i id
 have he:(U3 (pE c 3) 1).1=eE c:=rfl;have W:(V1 (eE c)).1=twE c:=rfl;have hh:(V1 (twE c)).1=uB c:=rfl;have z:(G5 (uB c) 2 1).1.1=bV c:=rfl;have L:(y9 (bV c) 3 1 (dW m) false).1.1=xE c m:=rfl;have J:(U3 (xE c m) 2).1=yE c m:=rfl;have O:=b9P.2;have n:=a9k;obtain⟨r,eC,_,_,_,_⟩:=c1j c;obtain⟨t,B,b2,F,_,A,_,_⟩:=a6h c;have hn:(X1 (uB c).lk ⟨2,1,-1,3⟩).2≠14:=by
  rw[A,c3i];show(0:Int)≠14;decide
 obtain⟨I,s0,Z,_,_,_,_⟩:=b4a c;obtain⟨dr,pu,ot,g,j,X,U,Q,xr,y0,M,Y,z0,zi⟩:=c65 c m;have hL:(G5 (uB c) 2 1).2.1.length<=1048576:=by
  have h1:=(c3j (vw (uB c).s) 1 8).l;rw[Z,a38];omega
 have R:=a0G m;have hI:=a5z m;have d:(1:Int)<=1/\(1:Int)<=3:=W6
 have V:(1:Int)<=2/\(2:Int)<=3:=W6
 generalize yE c m=y at*;generalize xE c m=x at*;generalize bV c=s at*;generalize uB c=h at*;generalize twE c=w at*;generalize eE c=e at*;generalize pE c=p at*;refine⟨(),Z8,rO,⟨Z8,n⟩,⟨⟨0,N7 _⟩,⟨rfl,rfl,Z8,by rw[O],by rw[O],rfl,Z6⟩,⟨rfl,rfl,by dsimp only;rw[v];exact tY _⟩,Z6⟩,λu=>⟨λhu=>?_,λhu=>?_⟩⟩
 ·obtain⟨i,hi⟩:=u;have hi3:i<3:=by have:=D4 hu;dsimp only at this;omega
  dsimp only;rw[c6q hi3 c];refine⟨c5D hi3,⟨U9 _,Q5⟩,_,⟨by unfold Le;simp;omega,⟨rfl,Z6⟩,by rw[List.length_cons];omega⟩,(p i,1,1,dW (UInt8.ofNat i::c)),⟨⟨tY _,rfl,rfl,⟨rfl,rfl,rfl,rfl,rfl,rfl,rfl,Z6⟩,Z6⟩,f i,d,a0G _,N i _⟩,Z3 Z9,⟨i+1,hi3⟩,⟨⟨rfl,rfl,⟨rfl,rfl⟩,rfl,rfl,X0,Z6⟩,⟨rfl,rfl,by dsimp only;rw[o];exact tY _⟩,Z6⟩,K1⟩
 ·obtain⟨i,hi⟩:=u;have hi3:i=3:=by have:=q8 hu;dsimp only at this;omega
  subst hi3;have c2:(V1 e).2.1=2:=by rw[b2]
  have C:(V1 w).2.1=3:=by rw[F]
  refine⟨(p 3,1),⟨Z8,f 3⟩,e,⟨⟨by dsimp only;rw[he];exact tY _,Z6⟩,r⟩,w,⟨⟨by rw[W];exact tY _,Z6⟩,t⟩,(h,2,1),⟨⟨by dsimp only;rw[hh];exact tY _,c2,Z8⟩,B,d,hn⟩,m,⟨Z8,Z9⟩,
   (s,3,1,dW m),⟨⟨b7m,C,rfl,⟨rfl,rfl,rfl,rfl,rfl,rfl,rfl,Z6⟩,Z6⟩,I,d,R,g _⟩,
   (s,3,(dW m).id),⟨⟨b7m,C,rfl,rfl,Z6⟩,I,hI,g _⟩,
   (s,3,2,dW m),⟨⟨b7m,C,rfl,⟨rfl,rfl,rfl,rfl,rfl,rfl,rfl,Z6⟩,Z6⟩,I,V,R,j _⟩,
   (x,2,1),⟨⟨by dsimp only;rw[L];exact tY _,c2,Z8⟩,X,d,U⟩,
   (x,2),⟨⟨by dsimp only;rw[L];exact tY _,c2,Z6⟩,X⟩,
   (y,3,1,dW m),⟨⟨by dsimp only;rw[J];exact tY _,C,Z8⟩,M,d,R,Y _⟩,
   (y,3,1,dW m),⟨⟨by dsimp only;rw[J];exact tY _,C,Z8⟩,M,d,R,Y _⟩,
   (G5 h 2 1).2.1,λ_=>⟨⟨by dsimp only;rw[xr];exact Z8,Z8⟩,hL⟩,
   (y9 y 3 1 (dW m) false).1.1,λ_=>⟨Z8,zi⟩,?_⟩
  dsimp only;rw[eC,b2,F,s0,pu,dr,ot,Q,y0,z0];rfl
end
end Go.Proofs.YtlbmgnomkjmafaaGreat
