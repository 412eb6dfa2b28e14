/- A part of the proof. -/
import Derived.Test.YtlbmgnomkjmafaaGreatS2s
import Derived.Test.YtlbmgnomkjmafaaGreatP12
namespace Go.Proofs.YtlbmgnomkjmafaaGreat
set_option maxRecDepth 100000
open Go.SS Go.Proofs.Tryz
noncomputable section
theorem c2q{W:List Wt}{tx a:Int}{R:List Int}(h:∀i,i<W.length->(W.getD i dz).fo≠tx):∀k,k<=W.length->∃Q,scn W tx a R k=some Q
 |0,_=>⟨R,rfl⟩
 |k+1,hk=>by
  obtain⟨Q,d⟩:=c2q (a:=a) (R:=R) h k Z9
  unfold scn;rw[d];dsimp only;split
  ·rw[if_neg (h k Z9)]
   split<;>exact⟨_,rfl⟩
  ·exact⟨_,rfl⟩
theorem c1F{W:List Wt}{tx:Int}(h:∀i,i<W.length->(W.getD i dz).fo≠tx):∀f i R,fI W tx f i R=false
 |0,_,_=>rfl
 |f+1,i,R=>by
  unfold fI;split
  ·obtain⟨Q,d⟩:=c2q (a:=R.getD i 0) (R:=R) h W.length (V8 _);rw[d];exact c1F h f (i+1) Q
  ·rfl
def cM(l:Lks)(t:Int):Prop:=l.W=[]∨∀i,i<l.H.length->(l.H.getD i dz).tx=t
theorem a3j{l:Lks}{x:Lck}(h:cM l x.tx):(X4 l x).2≠14:=by
 have M:∀w,w ∈ I9 l x->w.fo≠x.tx:=λw hw=>by
  obtain⟨i,hi,e,d⟩:=zG _ (V8 _) hw;rw[e];exact d
 unfold X4;split
 ·show(0:Int)≠14;decide
 ·split
  ·split
   ·show(7:Int)≠14;decide
   ·show(0:Int)≠14;decide
  ·rename_i hw;rcases h with h|h
   ·have e:(N6 l x.tx).W=[]:=by
     unfold N6;rw[h];rfl
    have r:rnd ((N6 l x.tx).W++I9 l x) x.tx=false:=by
     rw[e,List.nil_append];refine c1F (λi hi=>?_) _ _ _
     rw[R2,J4 hi]
     exact M _ (List.getElem_mem hi)
    split
    ·show(7:Int)≠14;decide
    ·rw[r,if_neg Bool.false_ne_true];show(13:Int)≠14;decide
   ·exfalso;cases hq:I9 l x with
    |nil=>rw[hq] at hw;exact hw rfl
    |cons w W=>
     obtain⟨i,hi,e,d⟩:=zG (x:=x) (w:=w) _ (V8 _) (by
      show w ∈ I9 l x;rw[hq];exact List.mem_cons_self)
     exact d (h i hi)
theorem iS{α:Type}[Inhabited α](f:α->Bool){L:List α}(h:L=[]):X5 f L L.length=[]:=by
 subst h;rfl
theorem b6K{l:Lks}{x:Lck}(h:cM l x.tx)(h0:(X4 l x).2=0):cM (X4 l x).1 x.tx/\(X4 l x).1.H.length<=l.H.length+1:=by
 unfold X4 at h0 ⊢;split at h0
 ·rename_i hc;rw[if_pos hc];exact⟨h.imp (λe=>iS _ e) λe=>e,Nat.le_succ _⟩
 ·rename_i hc;rw[if_neg hc];split at h0
  ·rename_i hw;rw[if_pos hw];split at h0
   ·cases h0
   ·rename_i h60;rw[if_neg h60];refine⟨h.imp (λe=>iS _ e) λe i hi=>?_,by show(l.H++[x]).length<=_;rw[K2];exact V8 _⟩
    have hi:i<(l.H++[x]).length:=hi;show((l.H++[x]).getD i dz).tx=x.tx;rw[K2,List.length_singleton] at hi;by_cases hl:i<l.H.length
    ·rw[R2,uW hl,←R2]
     exact e i hl
    ·rw[show i=l.H.length by omega,R2,List.getElem?_concat_length]
     rfl
  ·rename_i hw;split at h0
   ·cases h0
   ·split at h0<;>cases h0
theorem a3a{l:Lks}{t:Int}(h:cM l t)(ta m id n:Int):NoD l t ta m id n:=⟨a3j (x:=⟨t,ta,-1,m⟩) h,λd=>a3j (x:=⟨t,ta,id,n⟩) (b6K (x:=⟨t,ta,-1,m⟩) h d).1⟩
theorem c6l{e:Eng}(h:EI e)(r:e.X.length=1):e.lk.W=[]:=by
 cases q:e.lk.W with
 |nil=>rfl
 |cons w W=>
  exfalso;obtain⟨⟨j,n,J⟩,⟨i,hi,ei⟩⟩:=h.h.wt 0 (by rw[q];exact Nat.zero_lt_succ _)
  obtain⟨_,_,_,_,d⟩:=zE.1 h.h.lks;have o:=d w (by rw[q];exact List.mem_cons_self)
  have f:e.lk.W.getD 0 dz=w:=by rw[q];rfl
  rw[f] at J ei;have g:j=0:=Z9
  have l:i=0:=Z9
  subst g l;unfold b5t at o;rw[←J,←ei] at o;simp at o
def scR(e:Eng)(tx ta:Int):Eng×List Rw×Int:=
 if(U5 e tx).2=0 then
  (if(X4 e.lk (S6 e (U5 e tx).1.toNat ta (-1) 3)).2=0 then(R5 (N7 e (U5 e tx).1.toNat ta (-1) 3) (tA e.s 8),rrN e.s ta 8,0)
  else(N7 e (U5 e tx).1.toNat ta (-1) 3,[],(X4 e.lk (S6 e (U5 e tx).1.toNat ta (-1) 3)).2))
 else(e,[],(U5 e tx).2)
def c4r:Con:=.rel ⟨Eng×Int×Int,λx=>[.agg x.1.ts,Ji x.2.1,Ji x.2.2],λx=>.tup [.agg (scR x.1 x.2.1 x.2.2).1.ts,rwS (scR x.1 x.2.1 x.2.2).2.1,Ji (scR x.1 x.2.1 x.2.2).2.2],λx=>EI x.1/\(1<=x.2.2/\x.2.2<=3)/\(X4 x.1.lk ⟨x.2.1,x.2.2,-1,3⟩).2≠14⟩
theorem c2G{e:Eng}{tx ta:Int}(h:¬ (U5 e tx).2=0):scR e tx ta=(e,[],(U5 e tx).2):=if_neg h
theorem b4z{e:Eng}{tx ta:Int}{k:Nat}(h:(U5 e tx).2=0)(d:(U5 e tx).1=k)(f:¬ (X4 e.lk (S6 e k ta (-1) 3)).2=0):scR e tx ta=(N7 e k ta (-1) 3,[],(X4 e.lk (S6 e k ta (-1) 3)).2):=by
 unfold scR;rw[if_pos h,d,G2,if_neg f]
theorem b31{e:Eng}{tx ta:Int}{k:Nat}(h:(U5 e tx).2=0)(d:(U5 e tx).1=k)(f:(X4 e.lk (S6 e k ta (-1) 3)).2=0):scR e tx ta=(R5 (N7 e k ta (-1) 3) (tA e.s 8),rrN e.s ta 8,0):=by
 unfold scR;rw[if_pos h,d,G2,if_pos f]
theorem b9B:GK 91 c4r:=gk func91<|by
 rintro⟨e,tx,ta⟩ ⟨h,ht,hn⟩;dsimp only at h ht hn ⊢;generalize hZ:scR e tx ta=Z;have d:=h.h.t10;refine S1 (gC sR (gC a9f (gC b4X gN))) func91 Y9 (α:=let q:=(0=Z.2.1.length/\Z7 0 (tk 7 []) (Q1 Z.2.1));∃(x:(Eng×Int)),let r:=(U5 x.1 x.2);(((Q7 e x.1)/\tx=x.2/\True)/\M1 x.1.X.length)/\br (r.2 !=0) (Le 0 0/\(Q7 e Z.1)/\q/\r.2=Z.2.2/\True) (∃(X:(Eng×Nat×Int×Int×Int)),let p:=(X4 X.1.lk (S6 X.1 X.2.1 X.2.2.1 X.2.2.2.1 X.2.2.2.2));(((Q7 e X.1)/\r.1=(X.2.1:Int)/\ta=X.2.2.1/\(-1:Int)=X.2.2.2.1/\3=X.2.2.2.2/\True)/\EI X.1/\X.2.1<X.1.X.length/\p.2≠(14:Int))/\br (p.2 !=0) (Le 0 0/\(Q7 {X.1 with lk:=p.1} Z.1)/\q/\p.2=Z.2.2/\True) (∃(x:(Eng×Int)),(((Q7 {X.1 with lk:=p.1} x.1)/\ta=x.2/\True)/\EI x.1)/\br false False ((Q7 (rrH x.1 x.2).val.fst Z.1)/\(Z2 Q1 (rrH x.1 x.2).val.snd Z.2.1)/\0=Z.2.2/\True)))) ⟨(e,tx),⟨Z8,qJ⟩,λhq=>?_,λhq=>?_⟩
 ·rw[←hZ,c2G (tH hq)];exact⟨V8 _,xR _,⟨rfl,λi hi=>absurd hi (J5 _)⟩,Z8⟩
 ·have hq:=vX hq;obtain⟨hu,k,e1,hk,hi,ha⟩:=k7 hq;have eT:=yG hi ta (-1) 3;refine⟨(e,k,ta,-1,3),⟨⟨xR _,e1,Z8⟩,h,hk,by dsimp only;rw[eT];exact hn⟩,λhl=>?_,λhl=>?_⟩
  ·rw[←hZ,b4z hq e1 (tH hl)];exact⟨V8 _,xR (N7 e k ta (-1) 3),⟨rfl,λi hi=>absurd hi (J5 _)⟩,Z8⟩
  ·rw[←hZ,b31 hq e1 (vX hl)];have E1:=x8 h hk (show LokR ta (-1) 3 from⟨ht,X1,X1,.inl X1⟩)
   have R:(rrH (N7 e k ta (-1) 3) ta).1=(R5 (N7 e k ta (-1) 3) (tA e.s 8),rrN e.s ta 8):=(rrH (N7 e k ta (-1) 3) ta).2;refine⟨(N7 e k ta (-1) 3,ta),⟨Z8,E1⟩,λF=>(by cases F),λ_=>?_⟩
   dsimp only;rw[R];generalize R5 (N7 e k ta (-1) 3) (tA e.s 8)=f;generalize rrN e.s ta 8=L;exact Z8
def b62(s:Src):Nat->Src×Eng
 |0=>(V6 s 6,(S3 uS).1)
 |i+1=>((vQ (V6 (b62 s i).1 2)).1,(E9 (b62 s i).2 1 (1+P0 (b62 s i).1 2) (vQ (V6 (b62 s i).1 2)).2 false).1.1)
def flH(s:Src):{D:Nat->Src×Eng//D 0=(V6 s 6,(S3 uS).1)/\∀i,D (i+1)=((vQ (V6 (D i).1 2)).1,(E9 (D i).2 1 (1+P0 (D i).1 2) (vQ (V6 (D i).1 2)).2 false).1.1)}:=Classical.choice ⟨⟨b62 s,rfl,λ_=>rfl⟩⟩
def flD(s:Src):Nat->Src×Eng:=(flH s).1
def qU(s:Src):Src×Eng:=flD s (P0 s 6).toNat
def O8(s:Src):Eng:=if P0 (qU s).1 2=1 then(S3 (r7 (qU s).2 1).1).1 else(qU s).2
def oJ(s:Src):Src:=V6 (V6 (qU s).1 2) 3
def bW(s:Src):Src×Eng:=if P0 (V6 (qU s).1 2) 3=2 then(V6 (oJ s) 2,(scR (S3 (O8 s)).1 ((S3 (O8 s)).1.N-1) (1+P0 (oJ s) 2)).1) else(oJ s,O8 s)
theorem b66:BegG uS (S3 uS).1/\(S3 uS).2=(1,0):=b0g a9K X1 X1 X1
structure FlP(i:Nat)(y:Src×Eng):Prop where
 s:R7 y.1 (12*i+1)
 p:Pw i (S3 uS).1 y.2
theorem c3Y(c:Bz):flD (X9 c) 0=(V6 (X9 c) 6,(S3 uS).1):=(flH (X9 c)).2.1
theorem c3O(c:Bz)(i:Nat):flD (X9 c) (i+1)=((vQ (V6 (flD (X9 c) i).1 2)).1,(E9 (flD (X9 c) i).2 1 (1+P0 (flD (X9 c) i).1 2) (vQ (V6 (flD (X9 c) i).1 2)).2 false).1.1):=(flH (X9 c)).2.2 i
theorem a5d(c:Bz):∀i,FlP i (flD (X9 c) i)
 |0=>by
  rw[c3Y];exact⟨(M7 (oH c) (n:=6) X1).2.2,bB b66.1.ei rfl rfl rfl rfl⟩
 |i+1=>by
  obtain⟨h,p⟩:=a5d c i;have N:=M7 h (n:=2) X1
  obtain⟨d,r,R⟩:=eU N.2.2;rw[c3O];exact⟨d.le Z9,p.tr (oT p.ei ⟨Z9,Z9⟩ r.2.2 (R _))⟩
theorem Pw.one{i:Nat}{e:Eng}(p:Pw i (S3 uS).1 e):e.X.length=1/\(e.X.getD 0 dz).id=1/\e.N=2/\e.s.L.length<=1+i:=by
 have b:=b66.1;have L1:(S3 uS).1.s.L.length=1:=b.lg;have hl:=p.lg;exact⟨p.ln.trans (by rw[b.tx];rfl),(p.id 0).trans (by rw[b.tx];rfl),p.nx.trans b.nx,Z9⟩
theorem c3K(c:Bz):(P0 (X9 c) 6).toNat<=5/\P0 (X9 c) 6=((P0 (X9 c) 6).toNat:Int):=by
 have n:=M7 (oH c) (n:=6) X1
 omega
structure FbP(e:Eng):Prop where
 ei:EI e
 ln:e.X.length=1
 lg:e.s.L.length<=8
 nx:2<=e.N/\e.N<=3
theorem c38(c:Bz):FbP (O8 (X9 c))/\EI (r7 (qU (X9 c)).2 1).1/\(2<=(r7 (qU (X9 c)).2 1).1.N/\(r7 (qU (X9 c)).2 1).1.N<=3):=by
 obtain⟨h,p⟩:=a5d c (P0 (X9 c) 6).toNat;obtain⟨j,_⟩:=c3K c;have p:Pw (P0 (X9 c) 6).toNat (S3 uS).1 (qU (X9 c)).2:=p;obtain⟨q,e,Q,f⟩:=p.one;obtain⟨g,d⟩:=c2a p.ei (k:=0) Z9
 rw[e] at g d;have t:(r7 (qU (X9 c)).2 1).1.X=[]:=List.eq_nil_of_length_eq_zero (by rw[g.tx,rH Z9];omega)
 have N:=g.nx.trans Q;have l:=g.lg;have nd:=c0v g.ei;rw[t,show([]:List Txn).length=0 from rfl,Nat.zero_mul] at nd
 obtain⟨b,i⟩:=b0g g.ei (by rw[t];decide) Z9 Z9
 refine⟨?_,g.ei,Z9⟩
 unfold O8;split
 ·have B:=b.lg;have n:=b.nx;exact⟨b.ei,by rw[b.tx,t];rfl,Z9,Z9⟩
 ·exact⟨p.ei,q,Z9,Z9⟩
structure FcP(e:Eng):Prop where
 b:BegG e (S3 e).1
 ta:∀ta,(X4 (S3 e).1.lk ⟨(S3 e).1.N-1,ta,-1,3⟩).2≠14
theorem c7r{e:Eng}(h:FbP e):FcP e:=by
 obtain⟨d,f,hl,n⟩:=h;have nd:=c0v d;rw[f,Nat.one_mul] at nd;obtain⟨b,_⟩:=b0g d Z9 Z9 Z9
 refine⟨b,λta=>a3j (.inl ?_)⟩
 show(S3 e).1.lk.W=[];rw[b.lk];exact c6l d f
theorem a8m{e:Eng}(h:EI e)(tx:Int){ta:Int}(ht:1<=ta/\ta<=3):EI (scR e tx ta).1:=by
 by_cases h0:(U5 e tx).2=0
 ·obtain⟨hu,k,e1,hk,_⟩:=k7 h0;have E:=x8 h hk (show LokR ta (-1) 3 from⟨ht,X1,X1,.inl X1⟩)
  by_cases d:(X4 e.lk (S6 e k ta (-1) 3)).2=0
  ·rw[b31 h0 e1 d];have f:=a6z h.g 8 (V8 _);exact oK E f.g f.l
  ·rw[b4z h0 e1 d];exact E
 ·rw[c2G h0];exact h
def b5a:Con:=.reff ⟨Bz,λ_=>[.ref 0 0 0],λc=>[i3 (X9 c)],λc=>.agg (bW (X9 c)).2.ts,λc=>[i3 (bW (X9 c)).1],λc=>c.length<=1048576⟩
def b50(K:Nat)(D:Nat->Src×Eng):Nat->Ann
 |0=>.one (Up K) (λx=>⟨[(0,.ref 0 0 0),(2,.ref 1 0 0),(3,.ref 2 0 0),(4,Ji 1),(6,Ji ((K:Int)-x.1))],[i3 (D x.1).1,G9 y5,G9 (D x.1).2]⟩) (λx=>K-x.1) b4E b4E (λ_=>Y9)
 |_=>.none
theorem b7N(s0:Src)(K:Nat)(D:Nat->Src×Eng)(Z:Src×Eng)(h:
let b:=(Z.1.at_:Int);let q:=(0=0/\0=0);  ∃(x:Unit),(True/\True)/\∃(x:Eng),((((69=x.s.d.E.length/\Z7 69 (Z5 ((zT 69).set 0 (hdB (1:Int)))) (Z5 x.s.d.E))/\(0=x.s.d.C.length/\Z7 0 (Y6 []) (Y6 x.s.d.C))/\false=x.s.d.A/\(0=x.s.d.keep.length/\Z7 0 (Y8 []) (Y8 x.s.d.keep))/\1=x.s.ep/\(0=x.s.L.length/\Z7 0 (Y0 []) (Y0 x.s.L))/\0=x.s.S/\(0=x.s.fr.length/\Z7 0 (V2 []) (V2 x.s.fr))/\0=x.s.J/\true=x.up/\(0=x.X.length/\Z7 0 (V1 []) (V1 x.X))/\(0=x.lk.H.length/\Z7 0 (Y7 []) (Y7 x.lk.H))/\(0=x.lk.W.length/\Z7 0 (Y5 []) (Y5 x.lk.W))/\1=x.N/\True)/\True)/\yH x/\0<=x.N/\x.N<=1000)/\∃(j:(Src×Int)),let pa:=(V6 j.1 j.2);((q/\6=j.2/\True)/\((1=1/\Z7 1 (λ(x:Nat)=>[T.bys s0.c,Ji (s0.at_:Int),Ji s0.sd]) λ(x:Nat)=>[T.bys j.1.c,Ji (j.1.at_:Int),Ji j.1.sd])/\True)/\R7 j.1 1000000/\j.2<=256)/\(∃(f:Up K),let pb:=(D f.val); (q/\q/\q/\(S3 x).2.1=(1:Int)/\P0 j.1 j.2=(K:Int)- (f.val:Int)/\True)/\(oo (pa.c=pb.1.c/\(↑pa.at_:Int)=(↑pb.1.at_:Int)/\pa.sd=pb.1.sd/\True))/\(oo (0=0/\0=0/\false=false/\0=0/\(0:Int)=0/\0=0/\(0:Int)=0/\0=0/\(0:Int)=0/\false=false/\0=0/\0=0/\0=0/\(0:Int)=0/\True))/\(oo (Q7 (S3 x).1 pb.2))/\True)/\∀(x:Up K),let pg:=(x.1:Int);let m:=(D x.1);let r:=(λ(X:Nat)=>[T.bys m.1.c,Ji (↑m.1.at_:Int),Ji m.1.sd]);bd ((K:Int)- pg>0) (∃(f:(Src×Int)),let pc:=(V6 f.1 f.2);((q/\2=f.2/\True)/\((1=1/\Z7 1 r λ(x:Nat)=>[T.bys f.1.c,Ji (f.1.at_:Int),Ji f.1.sd])/\True)/\R7 f.1 1000000/\f.2<=256)/\Ri (1+P0 f.1 f.2)/\∃(X:Src),let ph:=(V0 (V6 X (6:Int)));let z:=(J0 (I3 X) ph.2);let p:=(v7 z.1 (V0 ph.1).2);((q/\True)/\((1=1/\Z7 1 (λ(x:Nat)=>[T.bys pc.c,Ji (↑pc.at_:Int),Ji pc.sd]) λ(x:Nat)=>[T.bys X.c,Ji (X.at_:Int),Ji X.sd])/\True)/\R7 X 50000)/\∃(e:(Eng×Int×Int×Rw)),let a:=e.2.2.2;(((Q7 m.2 e.1)/\1=e.2.1/\1+P0 f.1 f.2=e.2.2.1/\(P0 X 6=a.id/\z.2.k=a.n.k/\z.2.n=a.n.n/\z.2.t=a.n.t/\p.2.k=a.name.k/\p.2.n=a.name.n/\p.2.t=a.name.t/\True)/\True)/\ChQ e.1 e.2.1 e.2.2.1 a)/\Ri ((K:Int)-pg-1)/\∃(y:Up K),let pd:=(D y.1);((q/\q/\q/\(1:Int)=1/\(K:Int)- pg-1=(K:Int)- (y.1:Int)/\True)/\(oo (p.1.c=pd.1.c/\(↑p.1.at_:Int)=(↑pd.1.at_:Int)/\p.1.sd=pd.1.sd/\True))/\(oo (Q7 y5 y5))/\(oo (Q7 (E9 e.1 e.2.1 e.2.2.1 e.2.2.2 false).1.1 pd.2))/\True)/\Lt (K-y.1) (K-x.1)) (∃(f:(Src×Int)),let u:=(V6 f.1 f.2);((q/\2=f.2/\True)/\((1=1/\Z7 1 r λ(x:Nat)=>[T.bys f.1.c,Ji (f.1.at_:Int),Ji f.1.sd])/\True)/\R7 f.1 1000000/\0<=f.2/\f.2<=256)/\br (P0 f.1 f.2==f.2-1) (∃(X:(Eng×Int)),(((Q7 m.2 X.1)/\1=X.2/\True)/\c20 X.1 X.2)/\∃(x:Eng),(((Q7 (r7 X.1 X.2).1 x)/\True)/\yH x/\0<=x.N/\x.N<=1000)/\∃(e:(Src×Int)),let v:=(V6 e.1 e.2);((q/\3=e.2/\True)/\((1=1/\Z7 1 (λ(x:Nat)=>[T.bys u.c,Ji (↑u.at_:Int),Ji u.sd]) λ(x:Nat)=>[T.bys e.1.c,Ji (e.1.at_:Int),Ji e.1.sd])/\True)/\R7 e.1 1000000/\0<=e.2/\e.2<=256)/\br (P0 e.1 e.2==e.2-1) (∃(g:Eng),(((Q7 (S3 x).1 g)/\True)/\yH g/\0<=g.N/\g.N<=1000)/\Ri ((S3 g).1.N-1)/\∃(x:(Src×Int)),let pe:=(V6 x.1 x.2);((q/\2=x.2/\True)/\((1=1/\Z7 1 (λ(x:Nat)=>[T.bys v.c,Ji (↑v.at_:Int),Ji v.sd]) λ(i:Nat)=>[T.bys x.1.c,Ji (x.1.at_:Int),Ji x.1.sd])/\True)/\R7 x.1 1000000/\x.2<=256)/\Ri (1+P0 x.1 x.2)/\∃(i:(Eng×Int×Int)),(((Q7 (S3 g).1 i.1)/\(S3 g).1.N-1=i.2.1/\1+P0 x.1 x.2=i.2.2/\True)/\EI i.1/\(1<=i.2.2/\i.2.2<=(3:Int))/\(X4 i.1.lk (Lck.mk i.2.1 i.2.2 (-1:Int) (3:Int))).2≠(14:Int))/\∃(l:Eng),(((Q7 (scR i.1 i.2.1 i.2.2).1 l)/\True)/\g9 l)/\((Q7 l Z.2)/\True)/\(oo (pe.c=Z.1.c/\(↑pe.at_:Int)=b/\pe.sd=Z.1.sd/\True))/\True) (∃(g:Eng),(((Q7 (S3 x).1 g)/\True)/\g9 g)/\((Q7 g Z.2)/\True)/\(oo (v.c=Z.1.c/\(↑v.at_:Int)=b/\v.sd=Z.1.sd/\True))/\True)) (∃(X:(Src×Int)),let w:=(V6 X.1 X.2);((q/\3=X.2/\True)/\((1=1/\Z7 1 (λ(x:Nat)=>[T.bys u.c,Ji (↑u.at_:Int), Ji u.sd]) λ(x:Nat)=>[T.bys X.1.c,Ji (X.1.at_:Int),Ji X.1.sd])/\True)/\R7 X.1 1000000/\0<=X.2/\X.2<=256)/\br (P0 X.1 X.2==X.2-1) (∃(e:Eng),(((Q7 m.2 e)/\True)/\yH e/\0<=e.N/\e.N<=1000)/\Ri ((S3 e).1.N-1)/\∃(x:(Src×Int)),let pf:=(V6 x.1 x.2);((q/\2=x.2/\True)/\((1=1/\Z7 1 (λ(x:Nat)=>[T.bys w.c,Ji (↑w.at_:Int),Ji w.sd]) λ(g:Nat)=>[T.bys x.1.c,Ji (x.1.at_:Int),Ji x.1.sd])/\True)/\R7 x.1 1000000/\x.2<=256)/\Ri (1+P0 x.1 x.2)/\∃(g:(Eng×Int×Int)),(((Q7 (S3 e).1 g.1)/\(S3 e).1.N-1=g.2.1/\1+P0 x.1 x.2=g.2.2/\True)/\EI g.1/\(1<=g.2.2/\g.2.2<=(3:Int))/\(X4 g.1.lk (Lck.mk g.2.1 g.2.2 (-1:Int) (3:Int))).2≠(14:Int))/\∃(i:Eng),(((Q7 (scR g.1 g.2.1 g.2.2).1 i)/\True)/\g9 i)/\((Q7 i Z.2)/\True)/\(oo (pf.c=Z.1.c/\(↑pf.at_:Int)=b/\pf.sd=Z.1.sd/\True))/\True) (∃(e:Eng),(((Q7 m.2 e)/\True)/\g9 e)/\((Q7 e Z.2)/\True)/\(oo (w.c=Z.1.c/\(↑w.at_:Int)=b/\w.sd=Z.1.sd/\True))/\True)))):
  H6 prog 43 [.ref 0 0 0] [i3 s0] (.agg Z.2.ts) [i3 Z.1]:=
 r5 (gC a6Z (gC b97 (gC mI (gC a95 (gC a9P (gC b1Q (gC a2b (gC b9B (gC aL gN))))))))) func43 (b50 K D) a5h h
theorem b6I{s:Src}(h:P0 (V6 (qU s).1 2) 3=2):bW s=(V6 (oJ s) 2,(scR (S3 (O8 s)).1 ((S3 (O8 s)).1.N-1) (1+P0 (oJ s) 2)).1):=if_pos h
theorem b55{s:Src}(h:¬P0 (V6 (qU s).1 2) 3=2):bW s=(oJ s,O8 s):=if_neg h
theorem b2Y:GK 43 b5a:=gk func43<|by
 intro(c:Bz) (hc:c.length<=1048576);dsimp only;have u:=oH c;obtain⟨M,v⟩:=c3K c;obtain⟨d,p⟩:=a5d c (P0 (X9 c) 6).toNat;obtain⟨F,ce,O⟩:=c38 c;have f:=c7r F;have A:flD (X9 c) (P0 (X9 c) 6).toNat=qU (X9 c):=rfl;have B:=b66.2;have j:=c3O c;have g:=c3Y c;have z:=a5d c;generalize L:(P0 (X9 c) 6).toNat=K at*;generalize flD (X9 c)=D at*;rw[A] at d p;have n1:=M7 d (n:=2) X1
 have N:=M7 n1.2.2 (n:=3) X1
 have o:=M7 N.2.2 (n:=2) X1
 have q:=p.ei;have h:1<=1+P0 (oJ (X9 c)) 2/\1+P0 (oJ (X9 c)) 2<=3:=by
  have:0<=P0 (oJ (X9 c)) 2/\P0 (oJ (X9 c)) 2<2/\_:=o;omega
 have fn:=F.nx;have J:=f.b.nx;have e:(2:Int)<=256:=X1
 have e3:(3:Int)<=256:=X1
 refine b7N (X9 c) K D (bW (X9 c)) ⟨(),Z8,uS,⟨Z8,qL a9K,X1,X1⟩,(X9 c,6),⟨P5,Z8,u.le Z9,by dsimp only;decide⟩,⟨⟨0,O3 _⟩,⟨⟨rfl,rfl⟩,⟨rfl,rfl⟩,⟨rfl,rfl⟩,by rw[B],by dsimp only;rw[v];omega,Z6⟩,by dsimp only;rw[g];exact Z8,Z8,⟨rfl,rfl,by dsimp only;rw[g];exact xR _⟩,Z6⟩,λx=>⟨λhx=>?_,λhx=>?_⟩⟩
 ·obtain⟨i,hi⟩:=x;dsimp only at hx ⊢;have hlt:i<K:=by have:=E4 hx;omega
  obtain⟨a,b⟩:=z i;have l:=M7 a (n:=2) X1
  obtain⟨I,R,r⟩:=eU l.2.2;obtain⟨Q,C,_,_⟩:=b.one;have t:1<=1+P0 (D i).1 2/\1+P0 (D i).1 2<=3:=Z9
  exact⟨((D i).1,2),⟨P5,Z8,a.le Z9,e⟩,Z3 X0,V6 (D i).1 2,⟨Z8,Z8,l.2.2.le Z9⟩,((D i).2,1,1+P0 (D i).1 2,(vQ (V6 (D i).1 2)).2),⟨Z8,b.ei,t,R,r _,c6n b.ei Q C t⟩,Z3 Z9,⟨i+1,hlt⟩,⟨⟨Z8,Z8,Z8,rfl,X0,Z6⟩,by dsimp only;rw[j];exact Z8,Z8,⟨rfl,rfl,by dsimp only;rw[j];exact xR _⟩,Z6⟩,D9⟩
 ·obtain⟨i,hi⟩:=x;dsimp only at hx ⊢;have hiK:i=K:=by have:=s6 hx;omega
  rw[hiK,A];have ho:=q.ok;refine⟨((qU (X9 c)).1,2),⟨P5,Z8,d.le Z9,(by decide:(0:Int)<=2),e⟩,λhv=>?_,λhv=>?_⟩
  ·have hv:P0 (qU (X9 c)).1 2=1:=eq_of_beq hv;have eB:O8 (X9 c)=(S3 (r7 (qU (X9 c)).2 1).1).1:=if_pos hv;refine⟨((qU (X9 c)).2,1),⟨Z8,c60 _ ho⟩,(r7 (qU (X9 c)).2 1).1,⟨Z8,qL ce,Z9,Z9⟩,(V6 (qU (X9 c)).1 2,3),⟨P5,Z8,n1.2.2.le Z9,(by decide:(0:Int)<=3),e3⟩,λhw=>?_,λhw=>?_⟩
   ·have hw:P0 (V6 (qU (X9 c)).1 2) 3=2:=eq_of_beq hw;rw[b6I hw];exact⟨O8 (X9 c),⟨⟨a8F,Z6⟩,qL F.ei,Z9,Z9⟩,Z3 Z9,(oJ (X9 c),2),⟨P5,Z8,N.2.2.le Z9,e⟩,Z3 X0,((S3 (O8 (X9 c))).1,(S3 (O8 (X9 c))).1.N-1,1+P0 (oJ (X9 c)) 2),⟨Z8,f.b.ei,h,f.ta _⟩,(scR (S3 (O8 (X9 c))).1 ((S3 (O8 (X9 c))).1.N-1) (1+P0 (oJ (X9 c)) 2)).1,⟨Z8,(a8m f.b.ei _ h).sm⟩,Z8⟩
   ·have hw:¬P0 (V6 (qU (X9 c)).1 2) 3=2:=sF hw;rw[b55 hw];exact⟨O8 (X9 c),⟨⟨a8F,Z6⟩,F.ei.sm⟩,Z8⟩
  ·have hv:¬P0 (qU (X9 c)).1 2=1:=sF hv;have eB:O8 (X9 c)=(qU (X9 c)).2:=if_neg hv;refine⟨(V6 (qU (X9 c)).1 2,3),⟨P5,Z8,n1.2.2.le Z9,(by decide:(0:Int)<=3),e3⟩,λhw=>?_,λhw=>?_⟩
   ·have hw:P0 (V6 (qU (X9 c)).1 2) 3=2:=eq_of_beq hw;rw[b6I hw];exact⟨O8 (X9 c),⟨⟨a8F,Z6⟩,qL F.ei,Z9,Z9⟩,Z3 Z9,(oJ (X9 c),2),⟨P5,Z8,N.2.2.le Z9,e⟩,Z3 X0,((S3 (O8 (X9 c))).1,(S3 (O8 (X9 c))).1.N-1,1+P0 (oJ (X9 c)) 2),⟨Z8,f.b.ei,h,f.ta _⟩,(scR (S3 (O8 (X9 c))).1 ((S3 (O8 (X9 c))).1.N-1) (1+P0 (oJ (X9 c)) 2)).1,⟨Z8,(a8m f.b.ei _ h).sm⟩,Z8⟩
   ·have hw:¬P0 (V6 (qU (X9 c)).1 2) 3=2:=sF hw;rw[b55 hw];exact⟨O8 (X9 c),⟨⟨a8F,Z6⟩,F.ei.sm⟩,Z8⟩
def c3e:Con:=.rel ⟨Eng×Int×Int,λx=>[.agg x.1.ts,Ji x.2.1,Ji 1,Ji x.2.2],λx=>.tup [.agg (xO x.1 x.2.1 1 x.2.2).1.1.ts,.agg (xO x.1 x.2.1 1 x.2.2).2.1.ts,Ji (xO x.1 x.2.1 1 x.2.2).2.2],λx=>GtQ x.1 x.2.1 1 x.2.2⟩
theorem c3n(e:Eng)(tx id:Int)(Z:(Eng×Nat)×Rw×Int)(h:
  ∃(x:Int),((1=x/\True)/\True)/\∃(g:Int),(V9 x (1:Int) 3=true->(id=g/\True)/\True)/\∃(f:(Eng×Bool×Bool)),(((Q7 e f.1)/\true=f.2.1/\(V9 x (1:Int) (3:Int)&&V9 g (0:Int) (1000:Int))=f.2.2/\True)/\cY f.1)/\br (wJ (P1 f.1) f.2.1 f.2.2 !=(0:Int)) ((Z.1.1.s.d.E.length=0/\Z.1.1.s.d.C.length=0/\false=Z.1.1.s.d.A/\Z.1.1.s.d.keep.length=0/\0=Z.1.1.s.ep/\Z.1.1.s.L.length=0/\0=Z.1.1.s.S/\Z.1.1.s.fr.length=0/\0=Z.1.1.s.J/\false=Z.1.1.up/\Z.1.1.X.length=0/\Z.1.1.lk.H.length=0/\Z.1.1.lk.W.length=0/\0=Z.1.1.N/\True)/\(0=Z.2.1.id/\0=Z.2.1.n.k/\0=Z.2.1.n.n/\[]=Z.2.1.n.t/\0=Z.2.1.name.k/\0=Z.2.1.name.n/\[]=Z.2.1.name.t/\True)/\wJ (P1 f.1) f.2.1 f.2.2=Z.2.2/\True) (∃(x:Eng),(((Q7 e x)/\True)/\g9 x)/\∃(X:(Eng×Int×Int×Int)),let p:=(xO X.1 X.2.1 X.2.2.1 X.2.2.2);let q:=p.2.1;(((0=0/\0=0)/\tx=X.2.1/\1=X.2.2.1/\id=X.2.2.2/\True)/\(LnG (0) (0) x X.1)/\GtQ X.1 X.2.1 X.2.2.1 X.2.2.2)/\∃(x:Eng),((LeG p.1.1)/\((nA p.1.1 x)/\True)/\g9 x)/\(LeG x)/\(nA x Z.1.1)/\(q.id=Z.2.1.id/\q.n.k=Z.2.1.n.k/\q.n.n=Z.2.1.n.n/\q.n.t=Z.2.1.n.t/\q.name.k=Z.2.1.name.k/\q.name.n=Z.2.1.name.n/\q.name.t=Z.2.1.name.t/\True)/\p.2.2=Z.2.2/\True)):
  V4 prog 19 [.agg e.ts,Ji tx,Ji 1,Ji id] (.tup [.agg Z.1.1.ts,.agg Z.2.1.ts,Ji Z.2.2]):=
 S1 (gC k9 (gC a15 (gC nM (gC mT (gC b9G gN))))) func19 Y9 h
def c35:Con:=.rel ⟨Rw,λr=>[Ji 2,.agg r.ts],λr=>.tup [.bys (E6 2 r),Ji 0],λr=>R9 r=true⟩
def c36:Con:=.rel ⟨Rw,λr=>[Ji 2,.agg r.ts],λr=>.tup [.bys (E6 2 r),Ji 0],λr=>R9 r=true⟩
def c2Z:Con:=.rel ⟨Bz,λc=>[.bys c],λc=>.agg (bW (X9 c)).2.ts,λc=>c.length<=1048576⟩
theorem c5D{e:Eng}(h:EI e)(tx:Int){ta id:Int}(t:1<=ta/\ta<=3)(hi:0<=id/\id<=1000):EI (xO e tx ta id).1.1:=by
 have r1:LokR ta (-1) 1:=⟨t,X1,X1,X1⟩
 have r2:LokR ta id 3:=⟨t,Z9,X1,.inr X1⟩
 by_cases hq:(K0 e tx ta 1 id 3).2=0
 ·obtain⟨k,hL⟩:=a7B hq;rw[a8V hL];have E2:=x8 (x8 h hL.lt r1) (k:=k) hL.lt r2;generalize N7 (N7 e k ta (-1) 1) k ta id 3=e2 at*;obtain⟨g1,g2,_,hpl⟩:=g8 E2.g tx ta id 8 (V8 _);unfold b3A;split
  ·exact oK E2 g1 g2
  ·obtain⟨s1,s2,_⟩:=sI (e:=e2) g1 (hpl.1.resolve_left Z9)
   exact oK E2 s1 (s2.trans g2)
 ·rw[c2t hq];by_cases h0:(U5 e tx).2=0
  ·obtain⟨hu,k,e1,hk,_,ha⟩:=k7 h0;have E1:=x8 h hk r1;rw[wE h0 e1];unfold sK;split
   ·exact x8 E1 (k:=k) hk r2
   ·exact E1
  ·rw[rX h0];exact h
theorem b93:GK 19 c3e:=gk func19<|by
 rintro⟨e,tx,id⟩ ⟨h,t,hi,n⟩;dsimp only at h t hi n ⊢;have z:=c5D h tx t hi;have d:wJ (P1 e) true (V9 1 1 3&&V9 id 0 1000)=0:=by rw[h.ok,T2.2 hi];rfl
 exact c3n e tx id (xO e tx 1 id) ⟨1,Z8,id,λ_=>Z8,(e,true,V9 1 1 3&&V9 id 0 1000),⟨Z8,b1F h⟩,λq=>absurd d (a8X q),λ_=>⟨e,⟨Z8,h.sm⟩,(e,tx,1,id),⟨Z8,Z8,h,t,hi,n⟩,(xO e tx 1 id).1.1,⟨Z8,Z8,z.sm⟩,Z8⟩⟩
theorem c0O:GK 15 c35:=gk func15<|by
 intro(r:Rw) (hr:R9 r=true);obtain⟨k1,_⟩:=tK hr;exact S1 (gC dO (gC k9 (gC a4f gN))) func15 Y9 (α:=∃(x:xI.ι),(((r.id=x.id/\r.n.k=x.n.k/\r.n.n=x.n.n/\r.n.t=x.n.t/\r.name.k=x.name.k/\r.name.n=x.name.n/\r.name.t=x.name.t/\True)/\True)/\RwB x)/\br (!R9 x) (E6 (2:Int) r=[]/\(1:Int)=0/\True) (∃(x:Int),((2=x/\True)/\True)/\br (!V9 x (1:Int) (3:Int)) (E6 (2:Int) r=[]/\(4:Int)=0/\True) (∃(x:(Int×Rw)),((2=x.1/\(r.id=x.2.id/\r.n.k=x.2.n.k/\r.n.n=x.2.n.n/\r.n.t=x.2.n.t/\r.name.k=x.2.name.k/\r.name.n=x.2.name.n/\r.name.t=x.2.name.t/\True)/\True)/\RwK x.2/\1<=x.1/\x.1<=3)/\E6 x.1 x.2=E6 (2:Int) r/\(0:Int)=0/\True))) ⟨r,⟨Z8,b8i hr⟩,λh=>(by rw[hr] at h;cases h),λ_=>⟨2,Z8,λh=>J6,λ_=>⟨(2,r),⟨Z8,k1,(by decide:(1:Int)<=2),(by decide:(2:Int)<=3)⟩,Z8⟩⟩⟩
theorem c0Q:GK 16 c36:=gk func16<|by
 intro(r:Rw) (hr:R9 r=true);obtain⟨k1,d⟩:=tK hr;have hl:=d 2;exact S1 (gC lB (gC D0 (gC kV gN))) func16 Y9 (α:=let p:=(List.drop 0 (List.map Q8 []));∃(x:xI.ι),(((r.id=x.id/\r.n.k=x.n.k/\r.n.n=x.n.n/\r.n.t=x.n.t/\r.name.k=x.name.k/\r.name.n=x.name.n/\r.name.t=x.name.t/\True)/\True)/\RwB x)/\br (!R9 x) (Le 0 0/\List.take 0 p=E6 (2:Int) r/\(1:Int)=0/\True) (br false (Le 0 0/\List.take 0 p=E6 (2:Int) r/\(4:Int)=0/\True) (∃(x:(Int×Rw)),((2=x.1/\(r.id=x.2.id/\r.n.k=x.2.n.k/\r.n.n=x.2.n.n/\r.n.t=x.2.n.t/\r.name.k=x.2.name.k/\r.name.n=x.2.name.n/\r.name.t=x.2.name.t/\True)/\True)/\RwK x.2/\1<=x.1/\x.1<=3)/\Lt (E6 x.1 x.2).length 140737488355329/\E6 x.1 x.2=E6 (2:Int) r/\(0:Int)=0/\True))) ⟨r,⟨Z8,b8i hr⟩,λh=>(by rw[hr] at h;cases h),λ_=>⟨λh=>J6,λ_=>⟨(2,r),⟨Z8,k1,(by decide:(1:Int)<=2),(by decide:(2:Int)<=3)⟩,D9,Z8⟩⟩⟩
theorem b8V:GK 18 c2Z:=gk func18<|by
 intro(c:Bz) (hc:c.length<=1048576);exact S1 (gC a8B (gC b2Y gN)) func18 Y9 (α:=let p:=(↑(0:Nat):Int);∃(x:(Bz)),((c=x/\True)/\True/\x.length<=2000000)/\∃(X:(Bz)),(((0=0/\0=0)/\True)/\((1=1/\Z7 1 (λ(x_2:Nat)=>[T.bys x,Ji p,Ji ((↑(x.length):Int).tmod (1000:Int))]) λ(x:Nat)=>[T.bys X,Ji p,Ji ((↑(X.length):Int).tmod (1000:Int))])/\True)/\X.length<=1048576)/\Q7 (bW (X9 X)).2 (bW (X9 c)).2) ⟨c,⟨Z8,Z6,Z9⟩,c,⟨Z8,Z8,hc⟩,xR _⟩
def pP(l:Lks)(x:Lck):Prop:=anyI l.H.length (b6 l.H x)=true
theorem c6Y{l:Lks}{x:Lck}(h:pP l x):X4 l x=(N6 l x.tx,0):=if_pos h
theorem b9K{l:Lks}{x:Lck}{w:List Wt}{y:Lck}(h:pP l y):pP ⟨l.H++[x],w⟩ y:=by
 obtain⟨i,hi,B⟩:=U3.1 h;refine U3.2 ⟨i,by show i<(l.H++[x]).length;rw[K2];omega,?_⟩
 have e:(l.H++[x]).getD i dz=l.H.getD i dz:=by
  rw[R2,uW hi,←R2]
 show b6 (l.H++[x]) y i=true;unfold b6 at B ⊢;rw[e];exact B
theorem a8Z{l:Lks}{x:Lck}(h0:(X4 l x).2=0):pP (X4 l x).1 x/\∀y,pP l y->pP (X4 l x).1 y:=by
 unfold X4 at h0 ⊢;split at h0
 ·rename_i hc;rw[if_pos hc];exact⟨hc,λy hy=>hy⟩
 ·rename_i hc;rw[if_neg hc];split at h0
  ·rename_i hw;rw[if_pos hw];split at h0
   ·cases h0
   ·rename_i h60;rw[if_neg h60];refine⟨U3.2 ⟨l.H.length,by show _<(l.H++[x]).length;rw[K2,List.length_singleton];omega,?_⟩,λy hy=>b9K hy⟩
    have e:(l.H++[x]).getD l.H.length dz=x:=by
     rw[R2,List.getElem?_concat_length]
     rfl
    show b6 (l.H++[x]) x l.H.length=true;unfold b6 cT;rw[e];simp
  ·split at h0
   ·cases h0
   ·split at h0<;>cases h0
theorem c7a{l:Lks}{t ta row:Int}(h:pP l ⟨t,ta,row,2⟩):pP l ⟨t,ta,row,1⟩:=by
 obtain⟨i,hi,B⟩:=U3.1 h;refine U3.2 ⟨i,hi,?_⟩
 unfold b6 cT at B ⊢;simp only[O4,tB,beq_iff_eq] at B ⊢;exact⟨B.1,.inr trivial⟩
theorem c53{l:Lks}{t ta row:Int}(h:pP l ⟨t,ta,row,4⟩):pP l ⟨t,ta,row,3⟩:=by
 obtain⟨i,hi,B⟩:=U3.1 h;refine U3.2 ⟨i,hi,?_⟩
 unfold b6 cT at B ⊢;simp only[O4,tB,beq_iff_eq] at B ⊢;exact⟨B.1,.inl (.inr Z9)⟩
theorem a9X(L:List Lck)(x:Lck):∀n,(V3 L x n).length<=n
 |0=>V8 _
 |n+1=>by
  have i:=a9X L x n;unfold V3;split
  ·split
   ·omega
   ·rw[K2,List.length_singleton];omega
  ·omega
theorem b4m(l:Lks)(x:Lck):(X4 l x).1.H.length<=l.H.length+1:=by
 unfold X4;split
 ·exact Nat.le_succ _
 ·split
  ·split
   ·exact Nat.le_succ _
   ·show(l.H++[x]).length<=_;rw[K2];exact V8 _
  ·split
   ·exact Nat.le_succ _
   ·split<;>exact Nat.le_succ _
theorem c5X{l:Lks}{x:Lck}(h:cM l x.tx)(hl:l.H.length<60):(X4 l x).2=0∨(X4 l x).2=13:=by
 have h14:=a3j h;have n:¬ ((N6 l x.tx).W.length+(I9 l x).length>100/\¬ (I9 l x).length=0):=λ⟨h1,d⟩=>by
  have hw:=a9X l.H x l.H.length;have hw:(I9 l x).length<=l.H.length:=hw;rcases h with h|h
  ·have e:(N6 l x.tx).W=[]:=by
    unfold N6;rw[h];rfl
   rw[e,List.length_nil] at h1;omega
  ·cases hq:I9 l x with
   |nil=>rw[hq] at d;exact d rfl
   |cons w W=>
    obtain⟨i,hi,_,f⟩:=zG (x:=x) (w:=w) _ (V8 _) (by
     show w ∈ I9 l x;rw[hq];exact List.mem_cons_self)
    exact f (h i hi)
 unfold X4 at h14 ⊢;split
 ·exact .inl rfl
 ·rename_i hc;rw[if_neg hc] at h14;split
  ·rw[if_neg Z9]
   exact .inl rfl
  ·rename_i hw;rw[if_neg hw] at h14;split
   ·rename_i h1;exact absurd ⟨h1,hw⟩ n
   ·rename_i h1;rw[if_neg h1] at h14;split
    ·rename_i d;rw[if_pos d] at h14;exact absurd rfl h14
    ·exact .inr rfl
structure HxP(e:Eng)(t id:Int):Prop where
 hT:pP e.lk ⟨t,1,-1,2⟩
 hR:pP e.lk ⟨t,1,id,4⟩
 lp:cM e.lk t
theorem c6s{l:Lks}{t:Int}(h:cM l t):cM (N6 l t) t:=h.imp (λe=>iS _ e) λe=>e
theorem c2g{e:Eng}{t id:Int}(h:HxP e t id){k:Nat}{ta row mo:Int}(hx:(e.X.getD k dz).id=t)(g:pP e.lk ⟨t,ta,row,mo⟩):(X4 e.lk (S6 e k ta row mo)).2=0/\HxP (N7 e k ta row mo) t id/\(N7 e k ta row mo).lk.H=e.lk.H:=by
 have f:X4 e.lk (S6 e k ta row mo)=(N6 e.lk t,0):=by rw[yG hx];exact c6Y g
 have d:(N7 e k ta row mo).lk=N6 e.lk t:=by
  show(X4 e.lk (S6 e k ta row mo)).1=_;rw[f]
 exact⟨by rw[f],⟨by rw[d];exact h.hT,by rw[d];exact h.hR,by rw[d];exact c6s h.lp⟩,by rw[d];rfl⟩
theorem c0T{e:Eng}(h:EI e){k:Nat}(f:k<e.X.length){t id:Int}(hx:(e.X.getD k dz).id=t)(H:HxP e t id){m n:Int}(M:(m=1/\n=3)∨(m=2/\n=4)):LkG e t 1 m id n k/\HxP (N7 (N7 e k 1 (-1) m) k 1 id n) t id:=by
 have d:=a0t h f;rw[hx] at d;have j:pP e.lk ⟨t,1,-1,m⟩:=by
  rcases M with⟨rfl,_⟩|⟨rfl,_⟩
  ·exact c7a H.hT
  ·exact H.hT
 obtain⟨g,A,_⟩:=c2g H hx j;have i:pP (N7 e k 1 (-1) m).lk ⟨t,1,id,n⟩:=by
  rcases M with⟨_,rfl⟩|⟨_,rfl⟩
  ·exact c53 A.hR
  ·exact A.hR
 obtain⟨B,b2,_⟩:=c2g (e:=N7 e k 1 (-1) m) (k:=k) A hx i;refine⟨⟨sJ,sJ,f,hx,g,B,?_⟩,b2⟩
 rw[wE (k:=k) sJ sJ]
 unfold sK;rw[if_pos g,B]
theorem a0T{ta t i:Int}{r:Rw}(d:1<=ta/\ta<=3)(R:R9 r=true):u3 (E6 ta r) t i=((ta==t)&&(r.id==i)):=by
 have h:=(a0L (E6 ta r)).2 _ (a88 d R);unfold u3;rw[h];rfl
theorem c7U{e f:Eng}{ta:Int}{r:Rw}(t:1<=ta/\ta<=3)(R:R9 r=true)(h:ChV e f ta r.id (E6 ta r))(u:∀a i,Un (vw e.s) a i):∀a i,Un (vw f.s) a i:=by
 obtain⟨g,s,_,hv,_,o⟩:=h.ex;intro a id n i m j N hi M J h1 d;rw[hv] at h1 d;unfold lQ at h1 d;have key:∀n i,n<8->i<4->¬ (n=g/\i=s)->u3 (vw e.s n i) a id=true->u3 (E6 ta r) a id=true->False:=λn i N hi C Q q=>by
  rw[a0T t R,O4,beq_iff_eq,beq_iff_eq] at q;have:=o n i N hi C;rw[q.1,q.2] at this;rw[this] at Q;cases Q
 by_cases c1:n=g/\i=s
 ·rw[if_pos c1] at h1;by_cases c2:m=g/\j=s
  ·exact⟨c1.1.trans c2.1.symm,c1.2.trans c2.2.symm⟩
  ·rw[if_neg c2] at d;exact absurd (key m j M J c2 d h1) (λx=>x)
 ·rw[if_neg c1] at h1;by_cases c2:m=g/\j=s
  ·rw[if_pos c2] at d;exact absurd (key n i N hi c1 h1 d) (λx=>x)
  ·rw[if_neg c2] at d;exact u a id n i m j N hi M J h1 d
theorem c7H{e:Eng}(h:EI e){tx ta:Int}{r:Rw}(t:1<=ta/\ta<=3)(R:R9 r=true)(u:∀a i,Un (vw e.s) a i):∀a i,Un (vw (E9 e tx ta r false).1.1.s) a i:=by
 obtain⟨k1,f⟩:=tK R;obtain⟨a,b⟩:=c4H h (tx:=tx) (gone:=false) t k1.2.2 (f ta) (u ta r.id);by_cases d:(E9 e tx ta r false).2=0
 ·exact c7U t R (a d) u
 ·rw[b d];exact u
theorem c55{e:Eng}{k:Nat}{ta:Int}{r:Rw}{gone:Bool}{f:Sto×Plc×Bool}{v:Nat}:(qT e k ta r gone f v).1.1.lk=e.lk:=by
 unfold qT;split
 ·split
  ·rfl
  ·split
   ·rfl
   ·unfold wG;split<;>rfl
 ·unfold wG;split<;>rfl
theorem c3I{e:Eng}{tx ta:Int}{r:Rw}{gone:Bool}:(E9 e tx ta r gone).1.1.lk=(K0 e tx ta 2 r.id 4).1.lk:=by
 unfold E9;split
 ·exact c55
 ·rfl
theorem c6H{e:Eng}{tx ta m id n:Int}:(K0 e tx ta m id n).1.lk.H.length<=e.lk.H.length+2:=by
 unfold K0;split
 ·unfold sK;have h1:=b4m e.lk (S6 e (U5 e tx).1.toNat ta (-1) m);split
  ·have h:=b4m (N7 e (U5 e tx).1.toNat ta (-1) m).lk (S6 (N7 e (U5 e tx).1.toNat ta (-1) m) (U5 e tx).1.toNat ta id n);exact Nat.le_trans h (Nat.succ_le_succ h1)
  ·exact Nat.le_trans h1 (Nat.le_succ _)
 ·exact Nat.le_add_right _ _
structure FuP(i:Nat)(e:Eng):Prop where
 un:∀a j,Un (vw e.s) a j
 hl:e.lk.H.length<=2*i
 fw:∃l:List (Nat×Nat),l.length<=i/\∀n j,(n,j) ∉ l->vw e.s n j=[]
theorem c6m{S:Nat->Nat->Bz}(h:∀n i,S n i=[])(a id:Int):Un S a id:=λn i _ _ _ _ _ _ d=>by
 rw[h n i,a14] at d;cases d
theorem c6u{n i:Nat}:vw uS.s n i=[]:=by
 unfold vw;split
 ·have h:(wB uS.s n).sl=[[],[],[],[]]:=by
   unfold wB U2;rw[if_neg (show ¬0<=frAt uS.s.fr n by show ¬ (0:Int)<= -1;decide)]
   exact congrArg (λp:Pg×Bool=>p.1.sl) (if_pos (iP Z9))
  rw[h]
  match i with
  |0=>rfl
  |1=>rfl
  |2=>rfl
  |3=>rfl
  |i+4=>rfl
 ·rfl
theorem c5N(c:Bz):∀i,FuP i (flD (X9 c) i).2
 |0=>by
  rw[c3Y];have b:=b66.1;have hv:∀n i,vw (S3 uS).1.s n i=[]:=λn i=>by rw[b.w];exact c6u
  refine⟨c6m hv,?_,[],V8 _,λn j _=>hv n j⟩
  show(S3 uS).1.lk.H.length<=0;rw[b.lk];exact V8 _
 |i+1=>by
  obtain⟨h,p⟩:=a5d c i;obtain⟨u,hl,_⟩:=c5N c i;have d:=(a5d c (i+1)).p;have o:=M7 h (n:=2) X1
  have r:=a9V o.2.2;have hx:=c3O c i;rw[hx] at d;rw[hx];have t:1<=1+P0 (flD (X9 c) i).1 2/\1+P0 (flD (X9 c) i).1 2<=3:=Z9
  refine⟨c7H p.ei t r u,?_,?_⟩
  ·dsimp only;rw[c3I];have:=c6H (e:=(flD (X9 c) i).2) (tx:=1) (ta:=1+P0 (flD (X9 c) i).1 2) (m:=2) (id:=(vQ (V6 (flD (X9 c) i).1 2)).2.id) (n:=4);omega
  ·obtain⟨l,g,f⟩:=d.fw;exact⟨l,g,λn j N=>by rw[f n j N,b66.1.w];exact c6u⟩
structure FeP(e:Eng)(t:Int):Prop where
 ei:EI e
 ln:1<=e.X.length/\e.X.length<=2
 hi:(e.X.getD 0 dz).id=t
 lg:e.s.L.length<=9
 un:∀a j,Un (vw e.s) a j
 hl:e.lk.H.length<=11
 lp:cM e.lk t
 rm:Rm (vw e.s)
 kp:∀n i:Nat,uT e t n i=false
theorem c7X(c:Bz):(∀a j,Un (vw (O8 (X9 c)).s) a j)/\(O8 (X9 c)).lk.H.length<=10/\Rm (vw (O8 (X9 c)).s):=by
 obtain⟨h,p⟩:=a5d c (P0 (X9 c) 6).toNat;obtain⟨u,hl,l,l1,l2⟩:=c5N c (P0 (X9 c) 6).toNat;obtain⟨o,_⟩:=c3K c;obtain⟨_,C,_⟩:=c38 c;have e:flD (X9 c) (P0 (X9 c) 6).toNat=qU (X9 c):=rfl;rw[e] at p u hl l2;obtain⟨i,Q,q,f⟩:=p.one;have rm:Rm (vw (qU (X9 c)).2.s):=c5P (R:=λ_ _=>[]) (l:=l) Z9 l2 λ_ _=>rfl
 obtain⟨g,d⟩:=c2a p.ei (k:=0) Z9
 rw[Q] at g d;have t:(r7 (qU (X9 c)).2 1).1.X=[]:=List.eq_nil_of_length_eq_zero (by rw[g.tx,rH Z9];omega)
 have n:=g.nx.trans q;have L:=g.lg;have nd:=c0v g.ei;rw[t,show([]:List Txn).length=0 from rfl,Nat.zero_mul] at nd
 obtain⟨b,B⟩:=b0g g.ei (by rw[t];decide) Z9 Z9
 unfold O8;split
 ·have hv:=b.w.trans g.w;rw[hv];refine⟨u,?_,rm⟩
  rw[b.lk,g.lk];have:=uC (hF ((qU (X9 c)).2.X.getD 0 dz).id) (qU (X9 c)).2.lk.H (qU (X9 c)).2.lk.H.length;show(X5 _ _ _).length<=_;omega
 ·exact⟨u,Z9,rm⟩
theorem c6e{l:Lks}{x:Lck}{t:Int}(W:l.W=[])(d:∀i,i<l.H.length->(l.H.getD i dz).tx=t):cM (X4 l x).1 t:=by
 have h:(N6 l x.tx).W=[]:=iS _ W;unfold X4;split
 ·exact .inl h
 ·split
  ·split
   ·exact .inl h
   ·exact .inl h
  ·split
   ·exact .inl h
   ·split
    ·exact .inl h
    ·exact .inr d
theorem c7p(c:Bz):FeP (bW (X9 c)).2 ((bW (X9 c)).2.X.getD 0 dz).id:=by
 obtain⟨r,_,_⟩:=c38 c;obtain⟨u,hl,rm⟩:=c7X c;have C:=c7r r;obtain⟨fe,F,fl,fn⟩:=r;have hw:=c6l fe F;by_cases hq:P0 (V6 (qU (X9 c)).1 2) 3=2
 ·rw[b6I hq];have hn3:=M7 (M7 (a5d c (P0 (X9 c) 6).toNat).s (n:=2) X1).2.2 (n:=3) X1
  have N:=M7 hn3.2.2 (n:=2) X1
  have o:1<=1+P0 (oJ (X9 c)) 2/\1+P0 (oJ (X9 c)) 2<=3:=by
   have:0<=P0 (oJ (X9 c)) 2/\P0 (oJ (X9 c)) 2<2/\_:=N;omega
  have E:=a8m C.b.ei ((S3 (O8 (X9 c))).1.N-1) o;obtain⟨b,_⟩:=C;have t:=b.tx;have bl:(S3 (O8 (X9 c))).1.X.length=2:=by rw[t,K2,F];rfl
  have x:((S3 (O8 (X9 c))).1.X.getD 0 dz)=(O8 (X9 c)).X.getD 0 dz:=by
   rw[t,R2,uW Z9,←R2]
  have B:((S3 (O8 (X9 c))).1.X.getD 1 dz)=⟨(O8 (X9 c)).N,((O8 (X9 c)).s.L.length:Int)+1⟩:=by
   rw[t,R2,tG Z9,F]
   rfl
  have hx:((S3 (O8 (X9 c))).1.X.getD 1 dz).id=(S3 (O8 (X9 c))).1.N-1:=by rw[B,b.nx];dsimp only;omega
  have hK:=a0t b.ei (k:=1) Z9
  rw[hx] at hK;have bk:=b.lk;have I:=b.w;have z:=b.lg;have k1:=b.k1;have p0:=b.p0;have J:=b.ei;have A:∀i,i<(O8 (X9 c)).lk.H.length->((O8 (X9 c)).lk.H.getD i dz).tx=((O8 (X9 c)).X.getD 0 dz).id:=λi hi=>by
   obtain⟨j,hj,L⟩:=fe.h.hd i hi;have:j=0:=Z9
   subst this;exact L.symm
  have S:∃s:Sto,(scR (S3 (O8 (X9 c))).1 ((S3 (O8 (X9 c))).1.N-1) (1+P0 (oJ (X9 c)) 2)).1=R5 (N7 (S3 (O8 (X9 c))).1 1 (1+P0 (oJ (X9 c)) 2) (-1) 3) s/\s.L=(S3 (O8 (X9 c))).1.s.L/\vw s=vw (S3 (O8 (X9 c))).1.s:=by
   by_cases h2:(X4 (S3 (O8 (X9 c))).1.lk (S6 (S3 (O8 (X9 c))).1 1 (1+P0 (oJ (X9 c)) 2) (-1) 3)).2=0
   ·rw[b31 (k:=1) kD kD h2]
    have f:=a6z J.g 8 (V8 _);exact⟨_,rfl,f.l,f.v⟩
   ·rw[b4z (k:=1) kD kD h2]
    exact⟨(S3 (O8 (X9 c))).1.s,Z8⟩
  obtain⟨s,q,sl,V⟩:=S;rw[q] at E;dsimp only;rw[q];have d:(R5 (N7 (S3 (O8 (X9 c))).1 1 (1+P0 (oJ (X9 c)) 2) (-1) 3) s).lk=(X4 (O8 (X9 c)).lk (S6 (S3 (O8 (X9 c))).1 1 (1+P0 (oJ (X9 c)) 2) (-1) 3)).1:=by
   show(X4 (S3 (O8 (X9 c))).1.lk _).1=_;rw[bk]
  have etx:(R5 (N7 (S3 (O8 (X9 c))).1 1 (1+P0 (oJ (X9 c)) 2) (-1) 3) s).X=(S3 (O8 (X9 c))).1.X:=rfl;have W:vw (R5 (N7 (S3 (O8 (X9 c))).1 1 (1+P0 (oJ (X9 c)) 2) (-1) 3) s).s=vw (O8 (X9 c)).s:=V.trans I;have elg:(R5 (N7 (S3 (O8 (X9 c))).1 1 (1+P0 (oJ (X9 c)) 2) (-1) 3) s).s.L=(S3 (O8 (X9 c))).1.s.L:=sl;generalize R5 (N7 (S3 (O8 (X9 c))).1 1 (1+P0 (oJ (X9 c)) 2) (-1) 3) s=f at*;refine⟨E,by rw[etx];omega,rfl,by rw[elg];omega,by rw[W];exact u,?_,?_,by rw[W];exact rm,λn i=>?_⟩
  ·rw[d];have:=b4m (O8 (X9 c)).lk (S6 (S3 (O8 (X9 c))).1 1 (1+P0 (oJ (X9 c)) 2) (-1) 3);omega
  ·rw[d,etx,x];exact c6e hw A
  ·unfold uT;rw[etx,bl,R8];intro j hj;unfold sL;rw[etx,elg];have:j=0∨j=1:=by omega
   rcases this with rfl|rfl
   ·simp
   ·rw[B];dsimp only;have:kepA (S3 (O8 (X9 c))).1.s.L n i 61 (((O8 (X9 c)).s.L.length:Int)+1)=false:=by
     unfold kepA;rw[if_neg Z9,if_neg (by rw[k1];decide),if_neg (by rw[k1];exact λe=>absurd e.1 X1),p0]
     unfold kepA;rw[if_pos (Int.le_refl 0)]
    rw[this,Bool.and_false]
 ·rw[b55 hq];refine⟨fe,X0,rfl,X0,u,X0,.inl hw,rm,λn i=>?_⟩
  unfold uT;dsimp only;rw[F,R8];intro j hj;have:j=0:=Z9
  subst this;unfold sL;simp
theorem b5s(l:Lks)(x:Lck):(X4 l x).2=0∨(X4 l x).2=7∨(X4 l x).2=13∨(X4 l x).2=14:=by
 unfold X4;split
 ·exact .inl rfl
 ·split
  ·split
   ·exact .inr (.inl rfl)
   ·exact .inl rfl
  ·split
   ·exact .inr (.inl rfl)
   ·split
    ·exact .inr (.inr (.inr rfl))
    ·exact .inr (.inr (.inl rfl))
theorem c2i{e:Eng}{k:Nat}{g s:Int}{b a:Bz}{v:Nat}:(wG e k g s b a v).2=0∨(wG e k g s b a v).2=7:=by
 unfold wG;split
 ·exact .inr rfl
 ·exact .inl rfl
theorem c6D{e:Eng}{t:Int}(h:FeP e t){r:Rw}(R:R9 r=true):(E9 e t 1 r false).2=0∨(E9 e t 1 r false).2=7∨(E9 e t 1 r false).2=13:=by
 have f:(1:Int)<=1/\(1:Int)<=3:=X1
 obtain⟨k1,_⟩:=tK R;have j:=k1.2.2;have i:0<e.X.length:=h.ln.1;have d:=a0t h.ei i;rw[h.hi] at d;obtain⟨n1,n⟩:=a3a h.lp 1 2 r.id 4;have r1:LokR 1 (-1) 2:=⟨f,X1,X1,X1⟩
 have r2:LokR 1 r.id 4:=⟨f,Z9,X1,.inr X1⟩
 have eL:K0 e t 1 2 r.id 4=sK e 0 1 2 r.id 4:=wE sJ sJ
 by_cases hq:(K0 e t 1 2 r.id 4).2=0
 ·obtain⟨k,hL⟩:=a2g hq;rw[a0w hL];have E2:=x8 (x8 h.ei hL.lt r1) (k:=k) hL.lt r2;obtain⟨n0,i0,hn0,hi0,hv0⟩:=h.rm;have hc:=c1Z E2.g (tx:=t) (ta:=1) (id:=r.id) hi0 hv0 (h.kp n0 i0) 8 (V8 _) hn0;unfold qT;split
  ·rw[if_neg W8,if_neg Z9]
   exact c2i.imp_right .inl
  ·exact c2i.imp_right .inl
 ·rw[kE hq];rw[eL] at hq ⊢;have eT:=yG h.hi 1 (-1) 2;unfold sK at hq ⊢;split
  ·rename_i h1;rw[if_pos h1] at hq;dsimp only at hq ⊢;have n3:(X4 (N7 e 0 1 (-1) 2).lk (S6 (N7 e 0 1 (-1) 2) 0 1 r.id 4)).2≠14:=by
    rw[eT] at h1;have n3:=n h1;rw[←eT] at n3;rw[yG (e:=N7 e 0 1 (-1) 2) (k:=0) h.hi];exact n3
   have:=b5s (N7 e 0 1 (-1) 2).lk (S6 (N7 e 0 1 (-1) 2) 0 1 r.id 4);omega
  ·rename_i h1;dsimp only;have n3:(X4 e.lk (S6 e 0 1 (-1) 2)).2≠14:=by rw[eT];exact n1
   have:=b5s e.lk (S6 e 0 1 (-1) 2);omega
structure StP(e:Eng)(t id:Int):Prop where
 ei:EI e
 ln:1<=e.X.length/\e.X.length<=2
 hi:(e.X.getD 0 dz).id=t
 hx:HxP e t id
 ri:0<=id/\id<=1000
def OnP(S:Nat->Nat->Bz)(id:Int)(g s:Nat)(w:Bz):Prop:=(g<8/\s<4)/\S g s=w/\∀n i,n<8->i<4->¬ (n=g/\i=s)->u3 (S n i) 1 id=false
theorem c3N{S:Nat->Nat->Bz}{id:Int}{g s:Nat}{w:Bz}(e:g<8/\s<4)(d:∀n i,n<8->i<4->¬ (n=g/\i=s)->u3 (S n i) 1 id=false):OnP (lQ g s w S) id g s w:=by
 refine⟨e,if_pos Z8,λn i N hi h=>?_⟩
 unfold lQ;rw[if_neg h];exact d n i N hi h
theorem c7z{e:Eng}{t:Int}(h:FeP e t){r:Rw}(R:R9 r=true)(l:(E9 e t 1 r false).2=0):StP (E9 e t 1 r false).1.1 t r.id/\(∃g s,OnP (vw (E9 e t 1 r false).1.1.s) r.id g s (E6 1 r))/\(E9 e t 1 r false).1.1.lk.H.length<=13/\(E9 e t 1 r false).1.1.s.L.length<=10:=by
 have o:(1:Int)<=1/\(1:Int)<=3:=X1
 obtain⟨k1,u⟩:=tK R;have f:=k1.2.2;have P:=oT h.ei (tx:=t) (gone:=false) o f (u 1);obtain⟨C,_⟩:=c4H h.ei (tx:=t) (gone:=false) o f (u 1) (h.un 1 r.id);obtain⟨g,s,F,v,_,M⟩:=(C l).ex;have q:(K0 e t 1 2 r.id 4).2=0:=by
  by_cases q:(K0 e t 1 2 r.id 4).2=0
  ·exact q
  ·rw[kE q] at l;exact absurd l q
 obtain⟨k,L⟩:=a7B q;have n:=yG L.hi 1 (-1) 2;have i:=yG (e:=N7 e k 1 (-1) 2) (k:=k) L.hi 1 r.id 4;have d:(E9 e t 1 r false).1.1.lk=(N7 (N7 e k 1 (-1) 2) k 1 r.id 4).lk:=by rw[c3I,L.eq]
 have l1:=L.l1;have l2:=L.l2;rw[n] at l1;rw[i] at l2;have I:(N7 e k 1 (-1) 2).lk=(X4 e.lk ⟨t,1,-1,2⟩).1:=by
  show(X4 e.lk (S6 e k 1 (-1) 2)).1=_;rw[n]
 have j:(N7 (N7 e k 1 (-1) 2) k 1 r.id 4).lk=(X4 (N7 e k 1 (-1) 2).lk ⟨t,1,r.id,4⟩).1:=by
  show(X4 (N7 e k 1 (-1) 2).lk (S6 (N7 e k 1 (-1) 2) k 1 r.id 4)).1=_;rw[i]
 obtain⟨A,V⟩:=a8Z l1;obtain⟨B,b2⟩:=a8Z l2;obtain⟨Q,J⟩:=b6K (x:=⟨t,1,-1,2⟩) h.lp l1;rw[←I] at Q J A;obtain⟨z,N⟩:=b6K (x:=⟨t,1,r.id,4⟩) Q l2;have hl:=h.hl;have U:=P.lg;have O:=P.ln;have ln:=h.ln;have lg:=h.lg;refine⟨⟨P.ei,Z9,(P.id 0).trans h.hi,⟨by rw[d,j];exact b2 _ A,by rw[d,j];exact B,by rw[d,j];exact z⟩,f⟩,⟨g,s,by rw[v];exact c3N F M⟩,by rw[d,j];omega,Z9⟩
theorem c7k{e:Eng}{t id:Int}(h:StP e t id)(lg:e.s.L.length<=10):e.s.L.length+i5 e+2<=60:=by
 have nd:=c0v h.ei;have ln:=h.ln;have d:e.X.length*(1+e.s.L.length)<=2*(1+10):=Nat.mul_le_mul ln.2 Z9
 omega
structure TkP(e f:Eng)(t id:Int):Prop where
 st:StP f t id
 v:vw f.s=vw e.s
 k:0<f.X.length
 l:f.s.L=e.s.L
theorem b4Q{e:Eng}{t id:Int}(h:StP e t id){m n:Int}(M:(m=1/\n=3)∨(m=2/\n=4)):LkG e t 1 m id n 0/\TkP e (N7 (N7 e 0 1 (-1) m) 0 1 id n) t id:=by
 obtain⟨a,b⟩:=c0T h.ei (k:=0) h.ln.1 h.hi h.hx M;have ri:=h.ri;have R:LokR 1 (-1) m:=⟨X1,X1,Z9,.inl X1⟩
 have r:LokR 1 id n:=⟨X1,Z9,Z9,.inr Z9⟩
 exact⟨a,⟨x8 (x8 h.ei h.ln.1 R) (k:=0) h.ln.1 r,h.ln,h.hi,b,ri⟩,rfl,h.ln.1,Eq.refl _⟩
theorem c7v{e:Eng}{t:Int}{r:Rw}(h:StP e t r.id)(R:R9 r=true){g s:Nat}(J:OnP (vw e.s) r.id g s (E6 1 r)):(xO e t 1 r.id).2.2=0/\(xO e t 1 r.id).2.1=r/\StP (xO e t 1 r.id).1.1 t r.id/\vw (xO e t 1 r.id).1.1.s=vw e.s/\(xO e t 1 r.id).1.1.s.L=e.s.L:=by
 obtain⟨L,⟨d,hv,X,j⟩⟩:=b4Q h (m:=1) (n:=3) (.inl Z8);rw[a8V L];obtain⟨O,o,o3⟩:=J;have W:u3 (E6 1 r) 1 r.id=true:=by rw[a0T X1 R];simp
 rw[←hv] at o o3;generalize N7 (N7 e 0 1 (-1) 1) 0 1 r.id 3=e2 at*;obtain⟨q,x,Z,C⟩:=g8 d.ei.g t 1 r.id 8 (V8 _);have F:=pV d.ei.g t 1 r.id 8 (V8 _);obtain⟨I,u⟩:=b7c d.ei.g t 1 r.id 8 (V8 _);generalize T0 e2 t 1 r.id 8=f at*;generalize tD e2 t 1 r.id 8=v at*;have A:¬f.2.1.a<0:=λU=>by
  have:=I U g s ⟨O.1,O.2⟩;rw[o,W] at this;cases this
 have B:=C.1.resolve_left Z9
 have Q:=u Z9
 have l:f.2.1.a.toNat=g/\f.2.1.b.toNat=s:=by
  by_cases hc:f.2.1.a.toNat=g/\f.2.1.b.toNat=s
  ·exact hc
  ·have:=o3 _ _ Z9 Z9 hc
   rw[this] at Q;cases Q
 obtain⟨M,z,Y,V,_⟩:=sI (e:=e2) q B;have i:vw (m4 e2 f.2.1 f.1).1=vw f.1:=eD q Z9
 have hc:(m4 e2 f.2.1 f.1).2=E6 1 r:=by
  show((Z4 f.1 f.2.1.a.toNat).1.fr.getD (Z4 f.1 f.2.1.a.toNat).2.1 dz).pg.sl.getD f.2.1.b.toNat []=_;rw[sM q Z9,←o,←F,l.1,l.2]
  unfold vw;rw[if_pos O.1]
 have hd:I8 (E6 1 r)=(1,r,0):=by
  rw[a07 (Nat.le_trans ((tK R).2 1) X1),a88 X1 R]
 have hl:(m4 e2 f.2.1 f.1).1.L=e2.s.L:=z.trans x;have N:b3A e2 f v=((R5 e2 (m4 e2 f.2.1 f.1).1,P4 f.1 f.2.1.a.toNat v),(I8 (m4 e2 f.2.1 f.1).2).2.1,0):=if_neg A;rw[N,hc,hd];exact⟨rfl,rfl,⟨oK d.ei M hl,d.ln,d.hi,⟨d.hx.hT,d.hx.hR,d.hx.lp⟩,d.ri⟩,(i.trans F).trans hv,hl.trans j⟩
theorem c6h{e:Eng}{t id:Int}(h:StP e t id)(N:∀n i,n<8->i<4->u3 (vw e.s n i) 1 id=false):(xO e t 1 id).2.2=5:=by
 obtain⟨L,⟨d,hv,r,l⟩⟩:=b4Q h (m:=1) (n:=3) (.inl Z8);rw[a8V L];rw[←hv] at N;generalize N7 (N7 e 0 1 (-1) 1) 0 1 id 3=e2 at*;obtain⟨q,u,v,g4⟩:=g8 d.ei.g t 1 id 8 (V8 _);obtain⟨o,j⟩:=b7c d.ei.g t 1 id 8 (V8 _);generalize T0 e2 t 1 id 8=f at*;have A:f.2.1.a<0:=by
  by_cases A:f.2.1.a<0
  ·exact A
  ·have hA:=g4.1.resolve_left Z9
   have:=j Z9
   rw[N _ _ Z9 Z9] at this
   cases this
 unfold b3A;rw[if_pos A]
theorem c6A{e:Eng}{t:Int}{r:Rw}(h:StP e t r.id)(lg:e.s.L.length<=10)(hr:R9 r=true){g s:Nat}(V:OnP (vw e.s) r.id g s (E6 1 r)):(E9 e t 1 (zC r.id) true).2=0/\StP (E9 e t 1 (zC r.id) true).1.1 t r.id/\(∀n i,n<8->i<4->u3 (vw (E9 e t 1 (zC r.id) true).1.1.s n i) 1 r.id=false):=by
 have o:(1:Int)<=1/\(1:Int)<=3:=X1
 have B:=b7p o h.ri;obtain⟨L,⟨l,hv,hk,v⟩⟩:=b4Q h (m:=2) (n:=4) (.inr Z8);have Y:LkY e t 1 r.id 0:=⟨L.up,L.kk,L.lt,L.hi,L.eq⟩;have P:=oT h.ei (tx:=t) (r:=zC r.id) (gone:=true) o h.ri B;obtain⟨F,z,O⟩:=V;have W:u3 (E6 1 r) 1 r.id=true:=by rw[a0T o hr];simp
 have hu:Un (vw e.s) 1 r.id:=λn i m j N hi hm hj u Q=>by
  have q:n=g/\i=s:=by
   by_cases C:n=g/\i=s
   ·exact C
   ·rw[O n i N hi C] at u;cases u
  have c2:m=g/\j=s:=by
   by_cases C:m=g/\j=s
   ·exact C
   ·rw[O m j hm hj C] at Q;cases Q
  exact⟨q.1.trans c2.1.symm,q.2.trans c2.2.symm⟩
 have nd:=c7k l (by rw[v];exact lg)
 have x:(E9 e t 1 (zC r.id) true).2=0:=by
  rw[a0w (r:=zC r.id) Y];rw[←hv] at z O;show(qT (N7 (N7 e 0 1 (-1) 2) 0 1 r.id 4) 0 1 (zC r.id) true (T0 (N7 (N7 e 0 1 (-1) 2) 0 1 r.id 4) t 1 r.id 8) (tD (N7 (N7 e 0 1 (-1) 2) 0 1 r.id 4) t 1 r.id 8)).2=0;generalize N7 (N7 e 0 1 (-1) 2) 0 1 r.id 4=e2 at*;obtain⟨X,I,g3,R⟩:=g8 l.ei.g t 1 r.id 8 (V8 _);obtain⟨U,p2⟩:=b7c l.ei.g t 1 r.id 8 (V8 _);generalize T0 e2 t 1 r.id 8=f at*;have A:¬f.2.1.a<0:=λha=>by
   have:=U ha g s ⟨F.1,F.2⟩;rw[z,W] at this;cases this
  have M:=R.1.resolve_left Z9
  obtain⟨s1,J,s3,s4,_⟩:=sI (e:=e2) X M;have hl:(m4 e2 f.2.1 f.1).1.L=e2.s.L:=J.trans I;unfold qT;rw[if_neg A];exact c6b (by rw[c7J hl];show(m4 e2 f.2.1 f.1).1.L.length+_+2<=60;rw[hl];exact nd)
 obtain⟨q,_⟩:=c4H h.ei (tx:=t) (r:=zC r.id) (gone:=true) o h.ri B hu;obtain⟨g',s',u,Q,_,Z⟩:=(q x).ex;have d:(E9 e t 1 (zC r.id) true).1.1.lk=(N7 (N7 e 0 1 (-1) 2) 0 1 r.id 4).lk:=by
  rw[c3I];show(K0 e t 1 2 r.id 4).1.lk=_;rw[L.eq]
 have pn:=P.ln;have ln:=h.ln;refine⟨x,⟨P.ei,Z9,(P.id 0).trans h.hi,⟨by rw[d];exact l.hx.hT,by rw[d];exact l.hx.hR,by rw[d];exact l.hx.lp⟩,h.ri⟩,λn i N hi=>?_⟩
 rw[Q,if_pos rfl];unfold lQ;split
 ·exact a14 _ _
 ·rename_i C;exact Z n i N hi C
def PwI(L:List Rw):Prop:=L.Pairwise λa b=>a.id≠b.id
structure RcO(S:Nat->Nat->Bz)(L:List Rw):Prop where
 p:PwI L
 f:∀a,a ∈ L->∃m j,m<8/\j<4/\zK (S m j)=some (1,a)
theorem c18{S:Nat->Nat->Bz}{L:List Rw}(h:RcO S L){n i:Nat}(hn:n<8)(hi:i<4):RcO S (rcS 1 L (S n i))/\(∀a,a ∈ L->a ∈ rcS 1 L (S n i)):=by
 unfold rcS;cases r:zK (S n i) with
 |none=>exact⟨h,λa ha=>ha⟩
 |some x=>
  dsimp only;split
  ·rename_i hc;rw[O4,xV,r8] at hc;have hno:=c2m hc.2;refine⟨⟨List.pairwise_append.2 ⟨h.p,List.pairwise_singleton _ _,λa ha b hb=>?_⟩,λa ha=>?_⟩,λa ha=>List.mem_append_left _ ha⟩
   ·rw[List.mem_singleton] at hb;rw[hb];exact hno a ha
   ·rw[List.mem_append,List.mem_singleton] at ha;rcases ha with ha|ha
    ·exact h.f a ha
    ·refine⟨n,i,hn,hi,?_⟩
     rw[r,ha,←hc.1]
  ·exact⟨h,λa ha=>ha⟩
theorem a86{S:Nat->Nat->Bz}{L:List Rw}(h:RcO S L){n:Nat}(N:n<8):∀i,i<=4->RcO S (rcI (S n) 1 L i)/\(∀a,a ∈ L->a ∈ rcI (S n) 1 L i)
 |0,_=>⟨h,λa A=>A⟩
 |i+1,hi=>by
  obtain⟨a,b⟩:=a86 h N i Z9
  obtain⟨c,d⟩:=c18 a N (i:=i) Z9
  exact⟨c,λx hx=>d x (b x hx)⟩
theorem b47(S:Nat->Nat->Bz):∀n,n<=8->RcO S (rcV S 1 n)
 |0,_=>⟨List.Pairwise.nil,λa h=>absurd h j_h⟩
 |n+1,hn=>(a86 (b47 S n Z9) Z9 4 (V8 _)).1
theorem c6P{S:Nat->Nat->Bz}{r:Rw}(A:R9 r=true){g s:Nat}(x:OnP S r.id g s (E6 1 r)):r ∈ rcV S 1 8:=by
 obtain⟨⟨o,O⟩,v,z⟩:=x;have u:=a88 (ta:=1) X1 A
 have step:∀L,RcO S L->r ∈ rcS 1 L (S g s):=λL e=>by
  unfold rcS;rw[v,u];dsimp only;split
  ·exact List.mem_append_right _ (List.mem_singleton.2 rfl)
  ·rename_i C;have C:anyI L.length (bO L r.id)=true:=by
    cases Q:anyI L.length (bO L r.id) with
    |true=>rfl
    |false=>
     rw[Q] at C;exact absurd rfl C
   obtain⟨i,hi,B⟩:=U3.1 C;have M:L.getD i dz ∈ L:=by
    rw[R2,J4 hi]
    exact List.getElem_mem hi
   obtain⟨m,j,q,d,W⟩:=e.f _ M;have t:(L.getD i dz).id=r.id:=beq_iff_eq.1 B;have hd:=(a0L (S m j)).2 _ W;have R:u3 (S m j) 1 r.id=true:=by
    unfold u3;rw[hd,t];simp
   have hp:m=g/\j=s:=by
    by_cases C:m=g/\j=s
    ·exact C
    ·rw[z m j q d C] at R;cases R
   rw[hp.1,hp.2,v,u] at W;have:r=L.getD i dz:=congrArg Prod.snd (Option.some.inj W);rw[this];exact M
 have l:∀L,RcO S L->∀i,i<=4->s<i->r ∈ rcI (S g) 1 L i:=λL e i=>by
  induction i with
  |zero=>intro _ h;exact absurd h (J5 _)
  |succ i I=>
   intro hi J;obtain⟨a,_⟩:=a86 e o i Z9
   by_cases C:s=i
   ·subst C;exact step _ a
   ·exact(c18 a o (i:=i) Z9).2 r (I Z9 Z9)
 have V:∀n,n<=8->g<n->r ∈ rcV S 1 n:=λn=>by
  induction n with
  |zero=>intro _ h;exact absurd h (J5 _)
  |succ n I=>
   intro N F;have a:=b47 S n Z9
   by_cases C:g=n
   ·subst C;exact l _ a 4 (V8 _) O
   ·exact(a86 a (n:=n) Z9 4 (V8 _)).2 r (I Z9 Z9)
 exact V 8 (V8 _) o
def c6T(l:Lks):Nat->Ann
 |0=>.one (Up l.H.length) (λx=>⟨[(2,.ref 0 0 0),(3,.ref 1 0 0),(5,Ji x.1)],[sH l,sH l]⟩) (λx=>l.H.length-x.1) uY uY (λ_=>fun
  |1=>.one (Up l.W.length) (λx=>⟨[(2,.ref 0 0 0),(3,.ref 1 0 0),(6,Ji x.1)],[sH l,sH l]⟩) (λx=>l.W.length-x.1) uY uY (λ_=>Y9)
  |_=>.none)
 |_=>.none
def c5Q:Con:=.rel ⟨Lks,λl=>[.agg l.ts,.agg l.ts],λ_=>.bool true,λl=>l.H.length<=1048576/\l.W.length<=1048576⟩
theorem c3k:GK 39 c5Q:=gk func39<|by
 rintro(l:Lks) ⟨h1,h2⟩;refine S1 gN func39 (c6T l) (α:=let k:=(false=true);let j:=(l.W.length:Int);let w:=(l.H.length:Int);let z:=(0=0/\0=0);let p:=(oo ((Z2 Y7 l.H l.H)/\(Z2 Y5 l.W l.W)/\True));br (w !=w||j !=j) k ((∃(x:Up l.H.length),(z/\z/\0=(x.1:Int)/\True)/\p/\p/\True)/\∀(x:Up l.H.length),let u:=(x.1:Int);let q:=(l.H.getD u.toNat dz);bd (u<w) (V7 u l.H.length/\V7 u l.H.length/\br (!(q.tx==q.tx&&(q.ta==q.ta&&(q.row==q.row&&(q.mo==q.mo&&true))))) k (Ri (u+1)/\∃(y:Up l.H.length),((z/\z/\u+1=(y.1:Int)/\True)/\p/\p/\True)/\Lt (l.H.length-y.1) (l.H.length-x.1))) ((∃(x:Up l.W.length),(z/\z/\0=(x.1:Int)/\True)/\p/\p/\True)/\∀(x:Up l.W.length),let v:=(x.1:Int);let r:=(l.W.getD v.toNat dz);bd (v<j) (V7 v l.W.length/\V7 v l.W.length/\br (!(r.tx==r.tx&&(r.fo==r.fo&&true))) k (Ri (v+1)/\∃(y:Up l.W.length),((z/\z/\v+1=(y.1:Int)/\True)/\p/\p/\True)/\Lt (l.W.length-y.1) (l.W.length-x.1))) (true=true)))) ⟨λh=>H8,λ_=>⟨⟨⟨0,O3 _⟩,Z8⟩,λx=>⟨λC=>?_,λ_=>⟨⟨⟨0,O3 _⟩,Z8⟩,λy=>⟨λC=>?_,λ_=>rfl⟩⟩⟩⟩⟩
 ·have t:=Y1 C;exact⟨Y3 t,Y3 t,λh=>H8,λ_=>⟨V5 t Z9,⟨x.1+1,t⟩,⟨⟨Z8,Z8,X0,Z6⟩,Z8⟩,U8.ext_lt t⟩⟩
 ·have t:=Y1 C;exact⟨Y3 t,Y3 t,λh=>H8,λ_=>⟨V5 t Z9,⟨y.1+1,t⟩,⟨⟨Z8,Z8,X0,Z6⟩,Z8⟩,U8.ext_lt t⟩⟩
def c6W(e:Eng):Nat->Ann
 |0=>.one (Up e.X.length) (λx=>⟨[(2,.ref 0 0 0),(3,.ref 1 0 0),(5,Ji x.1)],[G9 e,G9 e]⟩) (λx=>e.X.length-x.1) uY uY (λ_=>Y9)
 |_=>.none
def c6E:Con:=.rel ⟨Eng,λe=>[.agg e.ts,.agg e.ts],λ_=>.bool true,λe=>EI e⟩
theorem c2O:GK 14 c6E:=gk func14<|by
 intro(e:Eng) (h:EI e);obtain⟨l1,l2,l⟩:=a0e h;have u:(!e.up==e.up)=false:=W8
 refine S1 (gC a1C (gC c3k gN)) func14 (c6W e) (α:=let v:=(0=0/\0=0);let u:=(oo (Q7 e e));let q:=(e.X.length:Int);∃(x:a9d.ι),(((o6 e.s x)/\(o6 e.s x)/\True)/\SmS x)/\∃(x:Lks),let z:=((Z2 Y7 e.lk.H x.H)/\(Z2 Y5 e.lk.W x.W)/\True);((false|| !e.up==e.up||q !=q)=false->(z/\z/\True)/\x.H.length<=1048576/\x.W.length<=1048576)/\br (false|| !e.up==e.up||q !=q||false||e.N !=e.N) (false=true) ((∃(x:Up e.X.length),(v/\v/\0=(x.1:Int)/\True)/\u/\u/\True)/\∀(x:Up e.X.length),let r:=(x.1:Int);let p:=(e.X.getD r.toNat dz);bd (r<q) (V7 r e.X.length/\V7 r e.X.length/\br (!(p.id==p.id&&(p.Z==p.Z&&true))) (false=true) (Ri (r+1)/\∃(y:Up e.X.length),((v/\v/\r+1=(y.1:Int)/\True)/\u/\u/\True)/\Lt (e.X.length-y.1) (e.X.length-x.1))) (true=true))) ⟨e.s,⟨Z8,h.g.sm⟩,e.lk,λ_=>⟨Z8,Z9,Z9⟩,λq=>by simp at q,λ_=>⟨⟨⟨0,O3 _⟩,Z8⟩,λx=>⟨λC=>?_,λ_=>rfl⟩⟩⟩
 have t:=Y1 C;exact⟨Y3 t,Y3 t,λh=>H8,λ_=>⟨V5 t Z9,⟨x.1+1,t⟩,⟨⟨Z8,Z8,X0,Z6⟩,Z8⟩,U8.ext_lt t⟩⟩
def pS(L:List Rw)(r:Rw):Nat->Nat
 |0=>0
 |i+1=>pS L r i+(open Classical in if L.getD i dz=r then 1 else 0)
def c3H(r:Rw)(t:Int)(z:Eng)(L:List Rw)(i:Int)(C:Nat->Nat):Nat->Ann
 |0=>.one (Up L.length) (λx=>⟨[(5,.ref 0 0 0),(14,Ji t),(19,.ref 1 0 0),(20,.ref 2 0 0),(21,Ji 0),(23,rwS L),(24,Ji i),(25,Ji (C x.1)),(26,Ji x.1)],[b4R r,G9 z,b4R r]⟩) (λx=>L.length-x.1) [.box 0,.box 5,.box 6] b4E (λ_=>Y9)
 |_=>.none
def w3(c:Bz):Rw:=(vQ (X9 c)).2
theorem a5S(c:Bz):R9 (w3 c)=true:=a9V (oH c)
theorem b4e(c:Bz):0<=(w3 c).id/\(w3 c).id<=1000:=(tK (a5S c)).1.2.2
def flE(c:Bz):Eng:=(bW (X9 c)).2
def qV(c:Bz):Int:=((flE c).X.getD 0 dz).id
def iX(c m:Bz):Eng:=(E9 (flE c) (qV c) 1 (w3 m) false).1.1
def roS(c m:Bz):(Eng×Nat)×List Rw×Int:=j7 (iX c m) (qV c) 1
def roZ(c m:Bz):Eng:=(xO (iX c m) (qV c) 1 (w3 m).id).1.1
def roW(c m:Bz):Eng:=(E9 (roZ c m) (qV c) 1 (zC (w3 m).id) true).1.1
theorem c6o{L:List Rw}{r:Rw}(hp:PwI L)(R:r ∈ L):pS L r L.length=1:=by
 obtain⟨j,J,d⟩:=List.getElem_of_mem R;have g:∀i (hi:i<L.length),L.getD i dz=L[i]:=λi hi=>by
  rw[R2,J4 hi]
  rfl
 have hne:∀i,i<L.length->i≠j->¬L.getD i dz=r:=λi hi hc e=>by
  rw[g i hi] at e;have q:=List.pairwise_iff_getElem.1 hp;rcases Nat.lt_or_gt_of_ne hc with h|h
  ·exact q i j hi J h (by rw[e,d])
  ·exact q j i J hi h (by rw[e,d])
 have key:∀i,i<=L.length->pS L r i=if j<i then 1 else 0:=λi=>by
  induction i with
  |zero=>intro _;rfl
  |succ i I=>
   intro hi;unfold pS;rw[I Z9]
   by_cases hc:i=j
   ·subst hc;rw[if_neg (Nat.lt_irrefl _),if_pos (by rw[g i J,d]),if_pos (Nat.lt_succ_self _)]
   ·rw[if_neg (hne i Z9 hc)]
    by_cases hl:j<i
    ·rw[if_pos hl,if_pos Z9]
    ·rw[if_neg hl,if_neg Z9]
 rw[key _ (V8 _),if_pos J]
structure RoP(c m:Bz):Prop where
 g:GtQ (iX c m) (qV c) 1 (w3 m).id
 g0:(xO (iX c m) (qV c) 1 (w3 m).id).2.2=0
 g1:(xO (iX c m) (qV c) 1 (w3 m).id).2.1=w3 m
 sn:(X4 (iX c m).lk ⟨qV c,1,-1,3⟩).2≠14
 s:((roS c m).2.2=0/\pS (roS c m).2.1 (w3 m) (roS c m).2.1.length=1)∨(roS c m).2.2=13
 sl:(roS c m).2.1.length<=32
 zi:EI (roZ c m)
 zn:NoD (roZ c m).lk (qV c) 1 2 (w3 m).id 4
 d0:(E9 (roZ c m) (qV c) 1 (zC (w3 m).id) true).2=0
 w:GtQ (roW c m) (qV c) 1 (w3 m).id
 w5:(xO (roW c m) (qV c) 1 (w3 m).id).2.2=5
theorem c7B(c m:Bz)(z:(E9 (flE c) (qV c) 1 (w3 m) false).2=0):RoP c m:=by
 have F:FeP (flE c) (qV c):=c7p c;have r:=a5S m;have e:=b4e m;have j:(1:Int)<=1/\(1:Int)<=3:=X1
 obtain⟨t,⟨g,s,o⟩,hl,d⟩:=c7z F r z;have t:StP (iX c m) (qV c) (w3 m).id:=t;have o:OnP (vw (iX c m).s) (w3 m).id g s (E6 1 (w3 m)):=o;have hl:(iX c m).lk.H.length<=13:=hl;have d:(iX c m).s.L.length<=10:=d;obtain⟨C,I,A,f,i⟩:=c7v t r o;have A:StP (roZ c m) (qV c) (w3 m).id:=A;have f:vw (roZ c m).s=vw (iX c m).s:=f;have i:(roZ c m).s.L=(iX c m).s.L:=i;obtain⟨B,b2,v⟩:=c6A A (by rw[i];exact d) r (by rw[f];exact o)
 have b2:StP (roW c m) (qV c) (w3 m).id:=b2;have u:=a3j (x:=⟨qV c,1,-1,3⟩) t.hx.lp;have n:=c5X (x:=⟨qV c,1,-1,3⟩) t.hx.lp Z9
 have hK:=a0t t.ei (k:=0) t.ln.1;rw[t.hi] at hK;have eT:=yG t.hi 1 (-1) 3;have S:(((roS c m).2.2=0/\pS (roS c m).2.1 (w3 m) (roS c m).2.1.length=1)∨(roS c m).2.2=13)/\(roS c m).2.1.length<=32:=by
  unfold roS;rcases n with h|h
  ·rw[b6D (k:=0) kD kD (by rw[eT];exact h)]
   have M:=c6P r o;have O:=(b47 (vw (iX c m).s) 8 (V8 _)).p;have q:=List.mergeSort_perm (rcV (vw (iX c m).s) 1 8) leI;have hp:PwI (vN (rcV (vw (iX c m).s) 1 8)):=(List.Perm.pairwise_iff (λh=>Ne.symm h) q).2 O
   have L:=(c4g (vw (iX c m).s) 1 8).l;dsimp only;exact⟨.inl ⟨rfl,c6o hp (q.mem_iff.2 M)⟩,by rw[a4o];omega⟩
  ·rw[b6R (k:=0) kD kD (by rw[eT,h];decide)]
   dsimp only;rw[eT];exact⟨.inr h,O3 _⟩
 exact⟨⟨t.ei,j,e,a3a t.hx.lp _ _ _ _⟩,C,I,u,S.1,S.2,A.ei,a3a A.hx.lp _ _ _ _,B,⟨b2.ei,j,e,a3a b2.hx.lp _ _ _ _⟩,c6h b2 v⟩
theorem c2Q(c m:Bz)(r:Rw)(t:Int)(z:Eng)(L:List Rw)(I:Int)(C:Nat->Nat)(h:
let pi:=(0=0/\0=0);let pg:=(decide ((c.length:Int)>1048576)||decide ((m.length:Int)>1048576));let pc:=(r.id==r.id&&(r.n.k==r.n.k&&(r.n.n==r.n.n&&(r.n.t==r.n.t&&true))&&(r.name.k==r.name.k&&(r.name.n==r.name.n&&(r.name.t==r.name.t&&true))&&true)));let a:=(oo (r.id=r.id/\r.n.k=r.n.k/\r.n.n=r.n.n/\r.n.t=r.n.t/\r.name.k=r.name.k/\r.name.n=r.name.n/\r.name.t=r.name.t/\True));  (pg=true->true=true)/\(pg=false->∃(x:(Bz)),let pp:=(V0 (V6 (X9 x) (6:Int)));let p:=(J0 (I3 (X9 x)) pp.2);let w:=(v7 p.1 (V0 pp.1).2);((m=x/\True)/\x.length<=2000000)/\∃(j:Rw),(((2:Int)=2/\(P0 (X9 x) 6=j.id/\p.2.k=j.n.k/\p.2.n=j.n.n/\p.2.t=j.n.t/\w.2.k=j.name.k/\w.2.n=j.name.n/\w.2.t=j.name.t/\True)/\True)/\R9 j=true)/\∃(q:Rw),(((2:Int)=2/\(P0 (X9 x) 6=q.id/\p.2.k=q.n.k/\p.2.n=q.n.n/\p.2.t=q.n.t/\w.2.k=q.name.k/\w.2.n=q.name.n/\w.2.t=q.name.t/\True)/\True)/\R9 q=true)/\∃(l:vK.ι),((E6 (2:Int) j=l/\True)/\sY l)/\br (false|| !E6 (2:Int) j==E6 (2:Int) q||decide ((↑(E6 (2:Int) j).length:Int)>30)||(I8 l).2.2 !=(0:Int)||(I8 l).1 !=2|| !((I8 l).2.1.id==P0 (X9 x) (6:Int)&&((I8 l).2.1.n.k==p.2.k&&((I8 l).2.1.n.n==p.2.n&&((I8 l).2.1.n.t==p.2.t&&true))&&((I8 l).2.1.name.k==w.2.k&&((I8 l).2.1.name.n==w.2.n&&((I8 l).2.1.name.t==w.2.t&&true))&&true)))) (false=true) (∃(o:(Bz)),let pk:=(bW (X9 o));let pd:=(pk.2.X.getD 0 dz).id;((c=o/\True)/\o.length<=1048576)/\br ((↑pk.2.X.length:Int)==0) (true=true) (V7 (0:Int) pk.2.X.length/\∃(X:(Eng×Int×Int×Rw)),let b:=(E9 X.1 X.2.1 X.2.2.1 X.2.2.2 false);(((Q7 pk.2 X.1)/\pd=X.2.1/\1=X.2.2.1/\(P0 (X9 x) 6=X.2.2.2.id/\p.2.k=X.2.2.2.n.k/\p.2.n=X.2.2.2.n.n/\p.2.t=X.2.2.2.n.t/\w.2.k=X.2.2.2.name.k/\w.2.n=X.2.2.2.name.n/\w.2.t=X.2.2.2.name.t/\True)/\True)/\EI X.1/\(1<=X.2.2.1/\X.2.2.1<=(3:Int))/\R9 X.2.2.2=true/\NoD X.1.lk X.2.1 X.2.2.1 (2:Int) X.2.2.2.id (4:Int))/\∃(f:(Eng×Int×Int×Rw)),let pm:=f.2.2.2;let pf:=(E9 f.1 f.2.1 f.2.2.1 f.2.2.2 false);(((Q7 pk.2 f.1)/\pd=f.2.1/\1=f.2.2.1/\(P0 (X9 x) 6=pm.id/\p.2.k=pm.n.k/\p.2.n=pm.n.n/\p.2.t=pm.n.t/\w.2.k=pm.name.k/\w.2.n=pm.name.n/\w.2.t=pm.name.t/\True)/\True)/\EI f.1/\(1<=f.2.2.1/\f.2.2.1<=(3:Int))/\R9 pm=true/\NoD f.1.lk f.2.1 f.2.2.1 (2:Int) pm.id (4:Int))/\∃(v:Eng),((b.2 !=pf.2)=false->((Q7 b.1.1 v)/\(Q7 pf.1.1 v)/\True)/\EI v)/\br (b.2 !=pf.2||false) (false=true) (br (b.2 !=0) ((b.2==13||b.2==7||b.2==14)=true) (∃(e:(Eng×Int×Int)),let pa:=(xO e.1 e.2.1 (1:Int) e.2.2);let pq:=pa.2.1;(((Q7 b.1.1 e.1)/\pd=e.2.1/\(1:Int)=1/\P0 (X9 x) 6=e.2.2/\True)/\GtQ e.1 e.2.1 (1:Int) e.2.2)/\∃(i:(Eng×Int×Int)),let pr:=(j7 i.1 i.2.1 i.2.2);(((Q7 b.1.1 i.1)/\pd=i.2.1/\1=i.2.2/\True)/\EI i.1/\(1<=i.2.2/\i.2.2<=(3:Int))/\(X4 i.1.lk (Lck.mk i.2.1 i.2.2 (-1:Int) (3:Int))).2≠(14:Int))/\(∃(d:Up L.length),(pi/\pd=t/\pi/\pi/\pa.2.2=(0:Int)/\(Z2 Q1 pr.2.1 L)/\pr.2.2=I/\0=(↑(C d.val):Int)/\0=(d.val:Int)/\True)/\(oo (P0 (X9 x) 6=r.id/\p.2.k=r.n.k/\p.2.n=r.n.n/\p.2.t=r.n.t/\w.2.k=r.name.k/\w.2.n=r.name.n/\w.2.t=r.name.t/\True))/\(oo (Q7 pa.1.1 z))/\(oo (pq.id=r.id/\pq.n.k=r.n.k/\pq.n.n=r.n.n/\pq.n.t=r.n.t/\pq.name.k=r.name.k/\pq.name.n=r.name.n/\pq.name.t=r.name.t/\True))/\True)/\∀(x:Up L.length),let pj:=(x.1:Int);let ph:=(↑(C x.1):Int);let po:=(I==0&&ph==1||I==13||I==14);let pb:=(L.getD pj.toNat dz);bd (pj<(L.length:Int)) (V7 pj L.length/\br (pb.id==r.id&&(pb.n.k==r.n.k&&(pb.n.n==r.n.n&&(pb.n.t==r.n.t&&true))&&(pb.name.k==r.name.k&&(pb.name.n==r.name.n&&(pb.name.t==r.name.t&&true))&&true))) (Ri (ph+1)/\Ri (pj+1)/\∃(y:Up L.length),((pi/\t=t/\pi/\pi/\(0:Int)=0/\(Z2 Q1 L L)/\I=I/\ph+1=(↑(C y.1):Int)/\pj+1=(y.1:Int)/\True)/\a/\(oo (Q7 z z))/\a/\True)/\Lt (L.length-y.1) (L.length-x.1)) (Ri (pj+1)/\∃(y:Up L.length),((pi/\t=t/\pi/\pi/\(0:Int)=0/\(Z2 Q1 L L)/\I=I/\ph=(↑(C y.1):Int)/\pj+1=(y.1:Int)/\True)/\a/\(oo (Q7 z z))/\a/\True)/\Lt (L.length-y.1) (L.length-x.1))) (∃(d:(Eng×Int×Int)),let pe:=(E9 d.1 d.2.1 (1:Int) (zC d.2.2) true);(((Q7 z d.1)/\t=d.2.1/\(1:Int)=1/\r.id=d.2.2/\True)/\EI d.1/\(0<=d.2.2/\d.2.2<=(1000:Int))/\NoD d.1.lk d.2.1 (1:Int) (2:Int) d.2.2 (4:Int))/\∃(g:(Eng×Int×Int)),let pn:=(xO g.1 g.2.1 (1:Int) g.2.2).2.2;(((Q7 pe.1.1 g.1)/\t=g.2.1/\(1:Int)=1/\r.id=g.2.2/\True)/\GtQ g.1 g.2.1 (1:Int) g.2.2)/\∃(u:yF.ι),((true&&pc&&po&&pe.2==0&&pn==(5:Int))=true->((Q7 pe.1.1 u)/\True)/\cY u)/\(true&&pc&&po&&pe.2==0&&pn==(5:Int)&&P1 u)=true))))))):
  V4 prog 4 [.bys c,.bys m] (.bool true):=
 S1 (gC b8z (gC c0O (gC c0Q (gC tW (gC b8V (gC c0s (gC c1t (gC c2O (gC b93 (gC c0h (gC b8l (gC nE gN)))))))))))) func4 (c3H r t z L I C) h
theorem a9U{a b:Rw}:(a.id==b.id&&(a.n.k==b.n.k&&(a.n.n==b.n.n&&(a.n.t==b.n.t&&true))&&(a.name.k==b.name.k&&(a.name.n==b.name.n&&(a.name.t==b.name.t&&true))&&true)))=true↔a=b:=by
 obtain⟨i,⟨k,n,t⟩,⟨g,l,f⟩⟩:=a;obtain⟨I,⟨k',h,j⟩,⟨d,N,e⟩⟩:=b;simp only[O4,beq_iff_eq,Bool.and_true,Rw.mk.injEq,Val.mk.injEq]
theorem b2B(c m:Bz):V4 prog 4 [.bys c,.bys m] (.bool true):=by
 have F:FeP (flE c) (qV c):=c7p c;have r:=a5S m;have j:=b4e m;have I:(1:Int)<=1/\(1:Int)<=3:=X1
 have hC:=c6D F r;have N:=a3a F.lp 1 2 (w3 m).id 4;have u:EI (iX c m):=(oT F.ei (tx:=qV c) (gone:=false) I j ((tK r).2 1)).ei;have v:=c7B c m;have f:=(tK r).2 2;have hd:I8 (E6 2 (w3 m))=(2,w3 m,0):=by
  rw[a07 (Nat.le_trans f X1),a88 X1 r]
 have B:j7 (iX c m) (qV c) 1=roS c m:=rfl;have Z:(xO (iX c m) (qV c) 1 (w3 m).id).1.1=roZ c m:=rfl;have W:(E9 (roZ c m) (qV c) 1 (zC (w3 m).id) true).1.1=roW c m:=rfl;have X:(E9 (flE c) (qV c) 1 (w3 m) false).1.1=iX c m:=rfl;refine c2Q c m (w3 m) (qV c) (roZ c m) (roS c m).2.1 (roS c m).2.2 (pS (roS c m).2.1 (w3 m)) ⟨λ_=>rfl,λq=>?_⟩
 rw[zV] at q;have hc:=s6 q.1;have hm:=s6 q.2;refine⟨m,⟨Z8,Z9⟩,w3 m,⟨Z8,r⟩,w3 m,⟨Z8,r⟩,E6 2 (w3 m),⟨Z8,a2A⟩,λhb=>?_,λ_=>?_⟩
 ·have hb:(false|| !E6 2 (w3 m)==E6 2 (w3 m)||decide (((E6 2 (w3 m)).length:Int)>30)||(I8 (E6 2 (w3 m))).2.2 !=0||(I8 (E6 2 (w3 m))).1 !=2|| !((I8 (E6 2 (w3 m))).2.1.id==(w3 m).id&&((I8 (E6 2 (w3 m))).2.1.n.k==(w3 m).n.k&&((I8 (E6 2 (w3 m))).2.1.n.n==(w3 m).n.n&&((I8 (E6 2 (w3 m))).2.1.n.t==(w3 m).n.t&&true))&&((I8 (E6 2 (w3 m))).2.1.name.k==(w3 m).name.k&&((I8 (E6 2 (w3 m))).2.1.name.n==(w3 m).name.n&&((I8 (E6 2 (w3 m))).2.1.name.t==(w3 m).name.t&&true))&&true))))=true:=hb;rw[hd] at hb;dsimp only at hb;rw[a9U.2 rfl,uG Z9] at hb
  simp at hb
 refine⟨c,⟨Z8,Z9⟩,λ_=>rfl,λhn=>⟨Y3 (show 0<(flE c).X.length from F.ln.1),(flE c,qV c,1,w3 m),⟨Z8,F.ei,I,r,N⟩,(flE c,qV c,1,w3 m),⟨Z8,F.ei,I,r,N⟩,iX c m,λ_=>⟨⟨by dsimp only;rw[X];exact xR _,by dsimp only;rw[X];exact xR _,Z6⟩,u⟩,λhb=>(by simp at hb),λ_=>⟨λhf=>?_,λhf=>?_⟩⟩⟩
 ·have hf:=tH hf;dsimp only at hf ⊢;rcases hC with h|h|h
  ·exact absurd h hf
  ·rw[h];rfl
  ·rw[h];rfl
 obtain⟨g,J,R,Q,O,sl,Y,U,M,w,V⟩:=v (vX hf);clear v hC;dsimp only;rw[X];have L:((bW (X9 c)).2.X.getD 0 dz).id=qV c:=rfl;refine⟨(iX c m,qV c,(w3 m).id),⟨Z8,g⟩,(iX c m,qV c,1),⟨Z8,u,I,Q⟩,?_⟩
 dsimp only;rw[J,R,B,Z];generalize iX c m=x at*;generalize roZ c m=z at*;generalize roS c m=S at*;refine⟨⟨⟨0,O3 _⟩,⟨Z8,L,Z8⟩,Z8⟩,λy=>⟨λhy=>?_,λhy=>?_⟩⟩
 ·obtain⟨i,hi⟩:=y;dsimp only at hy ⊢;have hlt:i<S.2.1.length:=by have:=E4 hy;omega
  have C:∀n,pS S.2.1 (w3 m) n<=n:=λn=>by
   induction n with
   |zero=>exact V8 _
   |succ n ih=>
    unfold pS;split<;>omega
  have ci:=C i;rw[G2];refine⟨Y3 hlt,λd=>?_,λd=>?_⟩
  ·have d:=a9U.1 d;have o:pS S.2.1 (w3 m) (i+1)=pS S.2.1 (w3 m) i+1:=by
    show pS S.2.1 (w3 m) i+_=_;rw[if_pos d]
   exact⟨Z3 Z9,Z3 Z9,⟨i+1,hlt⟩,⟨⟨Z8,rfl,Z8,Z8,rfl,Z8,rfl,by dsimp only;rw[o];omega,X0,Z6⟩,⟨rfl,rfl,rfl,rfl,rfl,rfl,rfl,rfl,rfl,Z6⟩,⟨rfl,rfl,xR _⟩,⟨rfl,rfl,rfl,rfl,rfl,rfl,rfl,rfl,rfl,Z6⟩,Z6⟩,D9⟩
  ·have d:¬S.2.1.getD i dz=w3 m:=λe=>by
    rw[a9U.2 e] at d;cases d
   have o:pS S.2.1 (w3 m) (i+1)=pS S.2.1 (w3 m) i:=by
    show pS S.2.1 (w3 m) i+_=_;rw[if_neg d];rfl
   exact⟨Z3 Z9,⟨i+1,hlt⟩,⟨⟨Z8,rfl,Z8,Z8,rfl,Z8,rfl,by dsimp only;rw[o],X0,Z6⟩,⟨rfl,rfl,rfl,rfl,rfl,rfl,rfl,rfl,rfl,Z6⟩,⟨rfl,rfl,xR _⟩,⟨rfl,rfl,rfl,rfl,rfl,rfl,rfl,rfl,rfl,Z6⟩,Z6⟩,D9⟩
 ·obtain⟨i,hi⟩:=y;dsimp only at hy ⊢;have hiL:i=S.2.1.length:=by have:=s6 hy;omega
  rw[hiL];refine⟨(z,qV c,(w3 m).id),⟨Z8,Y,j,U⟩,?_⟩
  dsimp only;rw[W,M];refine⟨(roW c m,qV c,(w3 m).id),⟨Z8,w⟩,roW c m,λ_=>⟨Z8,b1F w.1⟩,?_⟩
  dsimp only;rw[V,w.1.ok,a9U.2 rfl];rcases O with⟨l,A⟩|l
  ·rw[l,A];rfl
  ·rw[l];rfl
end
end Go.Proofs.YtlbmgnomkjmafaaGreat
