/- A part of the proof. -/
import Derived.Test.YtghgljelnhfihaaGreatN1N2N3N4
import Derived.Test.YtghgljelnhfihaaGreatV1eV2eV3e
namespace Go.Proofs.YtghgljelnhfihaaGreat
open Go.SS

def K2(e:Eng)(s:Sto):Eng:={e with s:=s}
theorem a0E{e:Eng}(h:EI e){s:Sto}(hs:GInv s)(hl:s.L=e.s.L):EI (K2 e s):=⟨hs,h.up,by show EH s.L _ _ _;rw[hl];exact h.h⟩
def a02(e:Eng)(k:Nat)(ta row mo:Int):Lck:=⟨(e.X.getD k dz).id,ta,row,mo⟩
def sK(e:Eng)(k:Nat)(ta row mo:Int):Eng:={e with lk:=(K8 e.lk (a02 e k ta row mo)).1}
noncomputable def T3(e:Eng)(k:Nat)(ta row mo:Int):Eng×Int:=
 if(K8 e.lk (a02 e k ta row mo)).2=14 then((T4 (sK e k ta row mo) k).1.1,if(T4 (sK e k ta row mo) k).2=0 then 14 else 15) else(sK e k ta row mo,(K8 e.lk (a02 e k ta row mo)).2)
theorem b4E{tx ta row mo:Int}(h:1<=tx/\tx<=60)(h1:1<=ta/\ta<=3)(h2: -1<=row/\row<=1000)(h3:1<=mo/\mo<=4)(h4:row<0∨3<=mo):x9 ⟨tx,ta,row,mo⟩=true:=by
 unfold x9;simp only[L3,pP,k4,Q1];exact⟨⟨⟨⟨h,h1⟩,h2⟩,h3⟩,h4⟩
structure LokR(ta row mo:Int):Prop where
 a:1<=ta/\ta<=3
 b: -1<=row/\row<=1000
 c:1<=mo/\mo<=4
 d:row<0∨3<=mo
theorem b7f{e:Eng}(h:EI e){k:Nat}(hk:k<e.X.length){ta row mo:Int}(hr:LokR ta row mo):EI (sK e k ta row mo):=by
 have hid:=h.h.id k hk;have hn:=h.h.nxr;exact⟨h.g,h.up,c1x h.h (c0h (c1B h.h) (b4E (by omega) hr.a hr.b hr.c hr.d) ⟨k,hk,rfl⟩)⟩
theorem uT{e:Eng}(h:EI e){k:Nat}(hk:k<e.X.length){ta row mo:Int}(hr:LokR ta row mo):EI (T3 e k ta row mo).1/\((T3 e k ta row mo).2=0->T3 e k ta row mo=(sK e k ta row mo,0)):=by
 have ht:=b7f h hk hr;unfold T3;split
 ·have ha:=dC ht (k:=k) hk;refine⟨ha.1,λe0=> ?_⟩
  dsimp only at e0;rw[if_pos ha.2.1] at e0;cases e0
 ·exact⟨ht,λe0=>by dsimp only at e0;rw[e0]⟩
def jN(L:List Rec)(g s:Int):Nat->Int->Bool
 |0,_=>false
 |f+1,a=>if a<=0 then false else if(Z3 L a).k=3 then jN L g s f (Z3 L a).n else if(Z3 L a).k=2/\(Z3 L a).g=g/\(Z3 L a).s=s then true else jN L g s f (Z3 L a).p
def gW(e:Eng)(tx g s:Int)(i:Nat):Bool:= !((e.X.getD i dz).id==tx)&&jN e.s.L g s 61 (e.X.getD i dz).Z
def iK(e:Eng)(tx g s:Int):Bool:=anyI e.X.length (gW e tx g s)
structure Plc where
 a:Int
 b:Int
 c:Int
 d:Int
 deriving Inhabited
def b46(t:List UInt8)(ta id:Int):Bool:=(m4 t).2.2&&((m4 t).1==ta)&&((m4 t).2.1.id==id)
def uG(e:Eng)(tx ta id:Int)(no:Nat)(p:Pg)(A:Plc):Nat->Plc
 |0=>A
 |i+1=>let B:=uG e tx ta id no p A i
  if p.sl.getD i []=[] then(if B.c<0/\iK e tx no i=false then⟨B.a,B.b,no,i⟩ else B)
  else if b46 (p.sl.getD i []) ta id=true/\B.a<0 then⟨no,i,B.c,B.d⟩ else B
noncomputable def I5(e:Eng)(tx ta id:Int):Nat->Sto×Plc×Bool
 |0=>(e.s,⟨-1,-1,-1,-1⟩,true)
 |n+1=>if(I5 e tx ta id n).2.2=true then
   (if(Z1 (I5 e tx ta id n).1 n).2.2=true then((Z1 (I5 e tx ta id n).1 n).1,uG e tx ta id n ((Z1 (I5 e tx ta id n).1 n).1.fr.getD (Z1 (I5 e tx ta id n).1 n).2.1 dz).pg (I5 e tx ta id n).2.1 4,true) else((Z1 (I5 e tx ta id n).1 n).1,(I5 e tx ta id n).2.1,false))
  else I5 e tx ta id n
def b5u(A:Plc):Prop:=(A.a= -1∨(0<=A.a/\A.a<=7/\0<=A.b/\A.b<=3))/\(A.c= -1∨(0<=A.c/\A.c<=7/\0<=A.d/\A.d<=3))
theorem b0w{e:Eng}{tx ta id:Int}{no:Nat}{p:Pg}{A:Plc}(hn:no<8)(h:b5u A):∀n,n<=4->b5u (uG e tx ta id no p A n)
 |0,_=>h
 |n+1,hn4=>by
  have ih:=b0w (e:=e) (tx:=tx) (ta:=ta) (id:=id) (p:=p) hn h n (by omega)
  unfold uG;dsimp only;split
  ·split
   ·exact⟨ih.1,.inr ⟨by dsimp only;omega,by dsimp only;omega,by dsimp only;omega,by dsimp only;omega⟩⟩
   ·exact ih
  ·split
   ·exact⟨.inr ⟨by dsimp only;omega,by dsimp only;omega,by dsimp only;omega,by dsimp only;omega⟩,ih.2⟩
   ·exact ih
theorem lV{e:Eng}(h:GInv e.s)(tx ta id:Int):∀n,n<=8->GInv (I5 e tx ta id n).1/\(I5 e tx ta id n).1.L=e.s.L/\(I5 e tx ta id n).2.2=true/\b5u (I5 e tx ta id n).2.1
 |0,_=>⟨h,rfl,rfl,.inl rfl,.inl rfl⟩
 |n+1,hn=>by
  obtain⟨g1,g2,g3,g4⟩:=lV h tx ta id n (by omega)
  obtain⟨⟨f1,f2,f3,f4⟩,f5⟩:=fN g1 (no:=n) (by omega)
  unfold I5;rw[if_pos g3,if_pos f5];exact⟨f1,f4.1.trans g2,rfl,b0w (by omega) g4 4 (W4 _)⟩
def xO(g s:Int)(b a:List UInt8):Rec:=⟨0,0,0,2,0,0,g,s,b,a⟩
noncomputable def a2Q(e:Eng)(k:Nat)(r:Rec):Eng×Bool:=(K2 (J0 e k r) (V2 (J0 e k r).s (R9 e.s (M3 e k r))).1,(V2 (J0 e k r).s (R9 e.s (M3 e k r))).2)
noncomputable def G2(e:Eng)(k:Nat)(g s:Int)(b a:List UInt8):Eng×Int:=if(e.s.L.length:Int)+1+C4 e+1>60 then(e,7) else
 if(a2Q e k (xO g s b a)).2=true then((a2Q e k (xO g s b a)).1,0) else(nH (a2Q e k (xO g s b a)).1,15)
theorem b2j{e:Eng}(h:EI e){k:Nat}(hk:k<e.X.length){g s:Int}{b a:List UInt8}(hg:0<=g/\g<=7)(hs:0<=s/\s<=3)(hb:b.length<=30)(ha:a.length<=30)(hr:e.s.L.length+C4 e+2<=60):
  EI (a2Q e k (xO g s b a)).1/\(a2Q e k (xO g s b a)).2=true:=by
 have hR:F8 (R9 e.s (M3 e k (xO g s b a))):=h.rcp hk (by show(2:Int)≠6;decide) (by show(2:Int)<=2/\(2:Int)<=5;decide) (λ_=>rfl) (λe _=>absurd rfl e) ⟨Int.le_refl _,by show(0:Int)<=_;omega⟩ hg hs ⟨hb,ha⟩ (λe=>by cases e)
 have hG:=h.app hk hR;have hlen:=zK e k (xO g s b a);have hn:a17 e.s.L (e.X.getD k dz) (R9 e.s (M3 e k (xO g s b a)))=1+und e.s.L 61 (e.X.getD k dz).Z:=by
  unfold a17;rw[if_neg (by show ¬ (2:Int)=3;decide),if_pos (show(R9 e.s (M3 e k (xO g s b a))).k=2 from rfl)]
 have hr:e.s.L.length+A0 e.s.L e.X e.X.length+2<=60:=hr;obtain⟨q1,_,_⟩:=b26 (x:=R9 e.s (M3 e k (xO g s b a))) h.h hk ⟨hR,rfl,rfl,rfl⟩ (by show(2:Int)<=3;decide) (λe=>by cases e) (by rw[hn];omega)
 obtain⟨c1,c2,c3,_⟩:=b6W hG (r:=R9 e.s (M3 e k (xO g s b a))) ⟨hg.1,by show g<8;omega⟩ ⟨hs.1,by show s<4;omega⟩ ⟨by show(1:Int)<=(e.s.L.length:Int)+1;omega,by show(e.s.L.length:Int)+1<=_;rw[hlen];exact Int.le_refl _⟩ ha
 refine⟨⟨c1,h.up,?_⟩,c2⟩
 show EH (V2 (J0 e k (xO g s b a)).s (R9 e.s (M3 e k (xO g s b a)))).1.L _ _ _;rw[c3];exact q1
theorem b2V{e:Eng}(h:EI e){k:Nat}(hk:k<e.X.length){g s:Int}{b a:List UInt8}(hg:0<=g/\g<=7)(hs:0<=s/\s<=3)(hb:b.length<=30)(ha:a.length<=30):EI (G2 e k g s b a).1:=by
 unfold G2;split
 ·exact h
 ·obtain⟨u1,u2⟩:=b2j h hk hg hs hb ha (by omega)
  rw[if_pos u2];exact u1
end Go.Proofs.YtghgljelnhfihaaGreat

namespace Go.Proofs.YtghgljelnhfihaaGreat
open Go.SS

def j5(v:Val):List UInt8:=if v.k=0 then[1] else if v.k=1 then 2::E4 (v.n+1000000000).toNat else 3::(v.t++[0])
def mN(ta:Int)(r:Rw):List UInt8:=j5 ⟨1,ta,[]⟩++j5 ⟨1,r.id,[]⟩++j5 r.n++j5 r.name
noncomputable def a4W(e:Eng)(k:Nat)(ta id:Int):Sto×Plc×Bool:=I5 e (e.X.getD k dz).id ta id 8
noncomputable def oT(e:Eng)(A:Plc)(s:Sto):Sto×List UInt8:=((Z1 s A.a.toNat).1,((Z1 s A.a.toNat).1.fr.getD (Z1 s A.a.toNat).2.1 dz).pg.sl.getD A.b.toNat [])
noncomputable def kD(e:Eng)(k:Nat)(ta:Int)(r:Rw)(gone:Bool)(f:Sto×Plc×Bool):Eng×Int:=
 if f.2.1.a<0 then(if gone=true then(K2 e f.1,5) else if f.2.1.c<0 then(K2 e f.1,12) else G2 (K2 e f.1) k f.2.1.c f.2.1.d [] (mN ta r))
 else G2 (K2 e (oT e f.2.1 f.1).1) k f.2.1.a f.2.1.b (oT e f.2.1 f.1).2 (if gone=true then[] else mN ta r)
noncomputable def E9(e:Eng)(k:Nat)(ta:Int)(r:Rw)(gone:Bool):Eng×Int:=
 if(T3 e k ta (-1) 2).2=0 then(if(T3 (T3 e k ta (-1) 2).1 k ta r.id 4).2=0 then kD (T3 (T3 e k ta (-1) 2).1 k ta r.id 4).1 k ta r gone (a4W (T3 (T3 e k ta (-1) 2).1 k ta r.id 4).1 k ta r.id) else T3 (T3 e k ta (-1) 2).1 k ta r.id 4)
 else T3 e k ta (-1) 2
noncomputable def qK(e:Eng)(tx ta:Int)(r:Rw):Eng×Int:=if(V4 e tx).2=0 then E9 e (V4 e tx).1.toNat ta r false else(e,(V4 e tx).2)
noncomputable def rC(e:Eng)(tx ta id:Int):Eng×Int:=if(V4 e tx).2=0 then E9 e (V4 e tx).1.toNat ta ⟨id,⟨0,0,[]⟩,⟨0,0,[]⟩⟩ true else(e,(V4 e tx).2)
noncomputable def gtF(e:Eng)(f:Sto×Plc×Bool):Eng×Rw×Int:=if f.2.1.a<0 then(K2 e f.1,rw0,5) else(K2 e (oT e f.2.1 f.1).1,(m4 (oT e f.2.1 f.1).2).2.1,0)
noncomputable def gtK(e:Eng)(k:Nat)(ta id:Int):Eng×Rw×Int:=
 if(T3 e k ta (-1) 1).2=0 then(if(T3 (T3 e k ta (-1) 1).1 k ta id 3).2=0 then gtF (T3 (T3 e k ta (-1) 1).1 k ta id 3).1 (a4W (T3 (T3 e k ta (-1) 1).1 k ta id 3).1 k ta id) else((T3 (T3 e k ta (-1) 1).1 k ta id 3).1,rw0,(T3 (T3 e k ta (-1) 1).1 k ta id 3).2))
 else((T3 e k ta (-1) 1).1,rw0,(T3 e k ta (-1) 1).2)
noncomputable def Q4(e:Eng)(tx ta id:Int):Eng×Rw×Int:=if(V4 e tx).2=0 then gtK e (V4 e tx).1.toNat ta id else(e,rw0,(V4 e tx).2)
theorem aS{e:Eng}{s:Sto}{A:Plc}(h:GInv s)(ha:0<=A.a/\A.a<=7/\0<=A.b/\A.b<=3):GInv (oT e A s).1/\(oT e A s).1.L=s.L/\(oT e A s).2.length<=30/\(Z1 s A.a.toNat).2.2=true/\(Z1 s A.a.toNat).2.1<(Z1 s A.a.toNat).1.fr.length/\((Z1 s A.a.toNat).1.fr.getD (Z1 s A.a.toNat).2.1 dz).pg.sl.length=4:=by
 obtain⟨⟨f1,f2,f3,f4⟩,f5⟩:=fN h (no:=A.a.toNat) (by omega)
 obtain⟨_,_,⟨_,_,h4,hs⟩,_⟩:=f1.fp _ f2;exact⟨f1,f4.1,hs A.b.toNat (by rw[h4];omega),f5,f2,h4⟩
theorem b41{e:Eng}(h:EI e){k:Nat}(hk:k<e.X.length){ta:Int}{r:Rw}{gone:Bool}(hb:(mN ta r).length<=30){f:Sto×Plc×Bool}(h1:GInv f.1)(h2:f.1.L=e.s.L)(h3:b5u f.2.1):EI (kD e k ta r gone f).1:=by
 have hf:=a0E h h1 h2;unfold kD;split
 ·split
  ·exact hf
  ·split
   ·exact hf
   ·rename_i hc;have:=h3.2.resolve_left (by omega)
    exact b2V hf hk ⟨this.1,this.2.1⟩ this.2.2 (S7 _) hb
 ·rename_i ha;have ha:=h3.1.resolve_left (by omega)
  obtain⟨s1,s2,s3,_⟩:=aS (e:=e) h1 ha;refine b2V (a0E h s1 (s2.trans h2)) hk ⟨ha.1,ha.2.1⟩ ha.2.2 s3 ?_
  split
  ·exact S7 _
  ·exact hb
theorem b0N{e:Eng}(h:EI e){k:Nat}(hk:k<e.X.length){ta:Int}{r:Rw}{gone:Bool}(ht:1<=ta/\ta<=3)(hi:0<=r.id/\r.id<=1000)(hb:(mN ta r).length<=30):EI (E9 e k ta r gone).1:=by
 obtain⟨a1,a2⟩:=uT h hk (ta:=ta) (row:= -1) (mo:=2) ⟨ht,by decide,by decide,by decide⟩
 unfold E9;split
 ·rename_i e0;rw[a2 e0] at a1 ⊢;obtain⟨b1,b2⟩:=uT a1 (k:=k) hk (ta:=ta) (row:=r.id) (mo:=4) ⟨ht,by omega,by decide,.inr (by decide)⟩
  split
  ·rename_i e1;rw[b2 e1] at b1 ⊢;obtain⟨g1,g2,_,g4⟩:=lV b1.g ((sK (sK e k ta (-1) 2) k ta r.id 4).X.getD k dz).id ta r.id 8 (W4 _);exact b41 b1 hk hb g1 g2 g4
  ·exact b1
 ·exact a1
theorem b86{e:Eng}(h:EI e){tx ta:Int}{r:Rw}(ht:1<=ta/\ta<=3)(hi:0<=r.id/\r.id<=1000)(hb:(mN ta r).length<=30):EI (qK e tx ta r).1:=by
 unfold qK;split
 ·rename_i h0;obtain⟨hu,k,e1,hk,_,ha⟩:=x4 h0;rw[e1,F5];exact b0N h hk ht hi hb
 ·exact h
theorem b9v{e:Eng}(h:EI e){tx ta id:Int}(ht:1<=ta/\ta<=3)(hi:0<=id/\id<=1000):EI (rC e tx ta id).1:=by
 unfold rC;split
 ·rename_i h0;obtain⟨hu,k,e1,hk,_,ha⟩:=x4 h0;rw[e1,F5];refine b0N h hk ht hi ?_
  unfold mN j5;simp only[K6];exact v6 rfl
 ·exact h
theorem b8A{e:Eng}(h:EI e){tx ta id:Int}(ht:1<=ta/\ta<=3)(hi:0<=id/\id<=1000):EI (Q4 e tx ta id).1:=by
 unfold Q4;split
 ·rename_i h0;obtain⟨hu,k,e1,hk,_,ha⟩:=x4 h0;rw[e1,F5];obtain⟨a1,a2⟩:=uT h hk (ta:=ta) (row:= -1) (mo:=1) ⟨ht,by decide,by decide,by decide⟩
  unfold gtK;split
  ·rename_i e0;rw[a2 e0] at a1 ⊢;obtain⟨b1,b2⟩:=uT a1 (k:=k) hk (ta:=ta) (row:=id) (mo:=3) ⟨ht,by omega,by decide,.inr (by decide)⟩
   split
   ·rename_i e1;rw[b2 e1] at b1 ⊢;obtain⟨g1,g2,_,g4⟩:=lV b1.g ((sK (sK e k ta (-1) 1) k ta id 3).X.getD k dz).id ta id 8 (W4 _);unfold gtF;split
    ·exact a0E b1 g1 g2
    ·rename_i hc;have hc:¬ (I5 (sK (sK e k ta (-1) 1) k ta id 3) ((sK (sK e k ta (-1) 1) k ta id 3).X.getD k dz).id ta id 8).2.1.a<0:=hc;obtain⟨s1,s2,_⟩:=aS (e:=sK (sK e k ta (-1) 1) k ta id 3) g1 (g4.1.resolve_left λe=>hc (by show _<(0:Int);rw[e];decide))
     exact a0E b1 s1 (s2.trans g2)
   ·exact b1
  ·exact a1
 ·exact h
end Go.Proofs.YtghgljelnhfihaaGreat

namespace Go.Proofs.YtghgljelnhfihaaGreat
open Go.SS

theorem GInv.B{s:Sto}(h:GInv s):b1U s:=by
 have h1:=h.dg.n69;have h2:=h.dg.kp;have h3:=h.ca;have h4:=h.l60;have h5:=h.fr3;have key:∀r ∈ s.L,r.a.length<=38:=λr hr=>by
  obtain⟨i,hi,e⟩:=List.getElem_of_mem hr;have e2:s.L.getD i dz=r:=by rw[P8,K7 hi,e];rfl
  have:=(b2W (J6.1 h.rc i hi).1).2;rw[e2] at this;exact this
 refine⟨⟨by unfold O6;omega,by unfold O6;omega,by unfold O6;omega⟩,?_,⟨by unfold O6;omega,λi hi=> ?_⟩,λr hr=>by have:=key r hr;unfold O6;omega⟩
 ·exact⟨by omega,λr hr=>by have:=key r hr;omega⟩
 ·have:=(h.fp i hi).2.2.1.2.2.1;unfold PgB O6;omega
theorem b7d{e:Eng}(h:EI e):e.lk.H.length<=60/\e.lk.W.length<=100/\e.X.length<=10:=by
 obtain⟨_,_,a,b,_⟩:=yF.1 h.h.lks;exact⟨a,b,h.h.t10⟩
theorem b8C{e:Eng}(h:EI e):b0F e:=by
 obtain⟨a,b,c⟩:=b7d h;exact⟨h.g.B,⟨by unfold O6;omega,by unfold O6;omega⟩,by unfold O6;omega⟩
theorem fO{e:Eng}(h:EI e):uK e:=⟨h.h.li.1,h.h.t10,λi hi=>(t5 (h.h.ow i hi)).2⟩
end Go.Proofs.YtghgljelnhfihaaGreat

