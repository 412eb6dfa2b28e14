/- A part of the proof. -/
import Derived.Test.YtghgljelnhfihaaGreatN8N9
namespace Go.Proofs.YtghgljelnhfihaaGreat
set_option maxRecDepth 100000
open Go.SS

noncomputable def b9P:Con:=.rel ⟨Eng×Nat×Int×Int×Int,λx=>[.agg x.1.ts,.int .i64 x.2.1,.int .i64 x.2.2.1,.int .i64 x.2.2.2.1,.int .i64 x.2.2.2.2],λx=>.tup [.agg (T3 x.1 x.2.1 x.2.2.1 x.2.2.2.1 x.2.2.2.2).1.ts,.int .i64 (T3 x.1 x.2.1 x.2.2.1 x.2.2.2.1 x.2.2.2.2).2],λx=>EI x.1/\x.2.1<x.1.X.length/\LokR x.2.2.1 x.2.2.2.1 x.2.2.2.2⟩
theorem EI.u{e:Eng}(h:EI e){k:Nat}(hk:k<e.X.length):UI e k (e.X.getD k dz).id (e.X.getD k dz).Z:=a1N h.ok h.sm h.up (h.h.at_ hk) hk rfl
theorem a6P:GK 272 b9P:=gk Tryz.func272<|by
 rintro⟨e,k,ta,row,mo⟩ ⟨h,hk,hr⟩;dsimp only at h hk hr;obtain⟨b1,b2,b3⟩:=b7d h;have ht:=b7f h hk hr;obtain⟨a1,a2,_⟩:=dC ht (k:=k) hk;refine Q5 (gC a3Z (gC a7k gN)) Tryz.func272 Y5 (α:=let p:=(T3 e k ta row mo);let u:=p.1.s;V3 (k:Int) e.X.length/\∃(x:(Lks×Lck)),let q:=(K8 x.1 x.2);((((Y8 Y7 e.lk.H x.1.H)/\(Y8 Y0 e.lk.W x.1.W)/\True)/\(e.X.getD (k:Int).toNat dz).id=x.2.tx/\ta=x.2.ta/\row=x.2.row/\mo=x.2.mo/\True)/\x.1.H.length<=60/\x.1.W.length<=100)/\((q.2==14)=true->∃(x_1:(Eng×Nat×Int)),let z:=x_1.1;let r:=(T4 x_1.1 x_1.2.1);((((Y8 Z5 e.s.d.E z.s.d.E)/\(Y8 Y9 e.s.d.C z.s.d.C)/\e.s.d.A=z.s.d.A/\(Y8 Y6 e.s.d.keep z.s.d.keep)/\e.s.ep=z.s.ep/\(Y8 Y3 e.s.L z.s.L)/\e.s.S=z.s.S/\(Y8 X2 e.s.fr z.s.fr)/\e.s.J=z.s.J/\e.up=z.up/\(Y8 X0 e.X z.X)/\(Y8 Y7 q.1.H z.lk.H)/\(Y8 Y0 q.1.W z.lk.W)/\e.N=z.N/\True)/\(k:Int)=(x_1.2.1:Int)/\True)/\UI x_1.1 x_1.2.1 x_1.2.2 (z.X.getD x_1.2.1 dz).Z)/\((! r.2==0)=true->(R8 r.1.1 p.1)/\15=p.2/\True)/\((! r.2==0)=false->(R8 r.1.1 p.1)/\14=p.2/\True))/\((q.2==14)=false->((Y8 Z5 e.s.d.E u.d.E)/\(Y8 Y9 e.s.d.C u.d.C)/\e.s.d.A=u.d.A/\(Y8 Y6 e.s.d.keep u.d.keep)/\e.s.ep=u.ep/\(Y8 Y3 e.s.L u.L)/\e.s.S=u.S/\(Y8 X2 e.s.fr u.fr)/\e.s.J=u.J/\e.up=p.1.up/\(Y8 X0 e.X p.1.X)/\(Y8 Y7 q.1.H p.1.lk.H)/\(Y8 Y0 q.1.W p.1.lk.W)/\e.N=p.1.N/\True)/\q.2=p.2/\True)) ⟨X8 hk,(e.lk,a02 e k ta row mo),⟨⟨⟨Z7,X5⟩,rfl,rfl,rfl,Z9⟩,b1,b2⟩,λhq=> ?_,λhq=> ?_⟩
 ·have hq:(K8 e.lk (a02 e k ta row mo)).2=14:=beq_iff_eq.1 hq;have e1:T3 e k ta row mo=((T4 (sK e k ta row mo) k).1.1,14):=by unfold T3;rw[if_pos hq,if_pos a2]
  rw[e1];refine⟨(sK e k ta row mo,k,(e.X.getD k dz).id),⟨⟨R4 (sK e k ta row mo),Z9⟩,ht.u hk⟩,λhn=> ?_,λ_=>⟨R4 (T4 (sK e k ta row mo) k).1.1,Z9⟩⟩
  have hn:(!((T4 (sK e k ta row mo) k).2==0))=true:=hn;rw[a2] at hn;cases hn
 ·have hq:¬ (K8 e.lk (a02 e k ta row mo)).2=14:=λe1=>by
   have hq:((K8 e.lk (a02 e k ta row mo)).2==14)=false:=hq;rw[e1] at hq;cases hq
  have e1:T3 e k ta row mo=(sK e k ta row mo,(K8 e.lk (a02 e k ta row mo)).2):=by unfold T3;rw[if_neg hq]
  rw[e1];exact⟨R4 (sK e k ta row mo),Z9⟩
def KpS(e:Eng)(g s:Int)(i:Nat):Type:={x:Nat×Int//jN e.s.L g s x.1 x.2=jN e.s.L g s 61 (e.X.getD i dz).Z/\x.2.toNat<x.1/\x.2<=(e.s.L.length:Int)}
def a83:Con:=.rel ⟨Eng×Int×Int×Int,λx=>[.agg x.1.ts,.int .i64 x.2.1,.int .i64 x.2.2.1,.int .i64 x.2.2.2],λx=>.bool (iK x.1 x.2.1 x.2.2.1 x.2.2.2),λx=>uK x.1⟩
def a9D(e:Eng)(tx g s:Int):Nat->Ann
 |0=>.one (V1 e.X.length (gW e tx g s)) (λx=>⟨[(1,.int .i64 tx),(2,.int .i64 g),(3,.int .i64 s),(4,.ref 0 0 0),(9,.int .i64 x.1)],[B9 e]⟩) (λx=>e.X.length-x.1) [.box 0] [.box 0] (λx=>fun
  |1=>.one (KpS e g s x.1) (λy=>⟨[(1,.int .i64 tx),(2,.int .i64 g),(3,.int .i64 s),(4,.ref 0 0 0),(9,.int .i64 x.1),(10,.int .i64 y.1.2)],[B9 e]⟩) (λy=>y.1.1) [.box 0] [.box 0] (λ_=>Y5)
  |_=>.none)
 |_=>.none
theorem c0G{L:List Rec}{g s:Int}{f:Nat}{a:Int}(h:¬a<=0):jN L g s (f+1) a=if(Z3 L a).k=3 then jN L g s f (Z3 L a).n else if(Z3 L a).k=2/\(Z3 L a).g=g/\(Z3 L a).s=s then true else jN L g s f (Z3 L a).p:=by
 conv=>lhs;unfold jN
 rw[if_neg h]
theorem c0z{L:List Rec}{g s:Int}{f:Nat}{a:Int}(h:a<=0):jN L g s f a=false:=by
 cases f with
 |zero=>rfl
 |succ f=>unfold jN;rw[if_pos h]
theorem a5L:GK 331 a83:=gk Tryz.func331<|by
 rintro⟨e,tx,g,s⟩ ⟨hL,h10,hb⟩;dsimp only at hL h10 hb;have h60:=hL.1;refine Q5 gN Tryz.func331 (a9D e tx g s) (α:=let u:=(0=0/\0=0);let z:=(1=1/\1=1/\R8 e e);(∃(x:V1 e.X.length (gW e tx g s)),(tx=tx/\g=g/\s=s/\u/\0=(x.val:Int)/\True)/\z/\True)/\∀(x:V1 e.X.length (gW e tx g s)),let f:=(e.X.length-x.val);let r:=(x.val:Int);let m:=(r<(e.X.length:Int));let v:=(e.X.getD r.toNat dz);(decide m=true->V3 r e.X.length/\((v.id==tx)=true->W7 .i64 (r+1)/\∃(y:V1 e.X.length (gW e tx g s)),((tx=tx/\g=g/\s=s/\u/\r+1=(y.val:Int)/\True)/\z/\True)/\Lt (e.X.length-y.val) f)/\((v.id==tx)=false->V3 r e.X.length/\(∃(x_1:KpS e g s x.val),(tx=tx/\g=g/\s=s/\u/\r=r/\v.Z=x_1.val.2/\True)/\z/\True)/\∀(x_1:KpS e g s x.val),let w:=x_1.val;let q:=(e.s.L.getD (w.2-1).toNat dz);let j:=(q.k==2&&q.g==g&&q.s==s);(decide (w.2>0)=true->W7 .i64 (w.2-1)/\V3 (w.2-1) e.s.L.length/\((q.k==3)=true->∃(y:KpS e g s x.val),((tx=tx/\g=g/\s=s/\u/\r=r/\q.n=y.val.2/\True)/\z/\True)/\Lt y.val.1 w.1)/\((q.k==3)=false->(j=true->true=iK e tx g s)/\(j=false->∃(y:KpS e g s x.val),((tx=tx/\g=g/\s=s/\u/\r=r/\q.p=y.val.2/\True)/\z/\True)/\Lt y.val.1 w.1)))/\(decide (w.2>0)=false->W7 .i64 (r+1)/\∃(y:V1 e.X.length (gW e tx g s)),((tx=tx/\g=g/\s=s/\u/\r+1=(y.val:Int)/\True)/\z/\True)/\Lt (e.X.length-y.val) f)))/\(decide m=false->false=iK e tx g s)) ⟨⟨F7,⟨rfl,rfl,rfl,Z8,Z9⟩,⟨rfl,rfl,R4 _⟩,trivial⟩,λx=>⟨λhc=> ?_,λhc=> ?_⟩⟩
 ·have hlt:=X6 hc;have hx:=hb x.val hlt;rw[F5];refine⟨X8 hlt,λhq=>⟨U5 hlt (by omega),x.succ hlt (by unfold gW;rw[hq];rfl),⟨⟨rfl,rfl,rfl,⟨rfl,rfl⟩,by simp only[V1.succ];omega,trivial⟩,⟨rfl,rfl,R4 _⟩,trivial⟩,V1.ext_lt hlt⟩,λhq=>⟨X8 hlt,⟨⟨(61,(e.X.getD x.val dz).Z),rfl,by dsimp only;omega,hx⟩,⟨rfl,rfl,rfl,⟨rfl,rfl⟩,rfl,rfl,trivial⟩,⟨rfl,rfl,R4 _⟩,trivial⟩,λy=> ?_⟩⟩
  obtain⟨⟨f,a⟩,hy,hf,ha⟩:=y;dsimp only at hy hf ha ⊢;obtain⟨f,rfl⟩:∃f',f=f'+1:=⟨f-1,by omega⟩
  refine⟨λhp=> ?_,λhp=> ?_⟩
  ·have hp:a>0:=C7 hp;obtain⟨p1,p2,p3,p4⟩:=hL.prev (show 1<=a by omega) ha
   rw[c0G (by omega)] at hy
   refine⟨Z4 (by omega),⟨by omega,by omega⟩,λh3=> ?_,λh3=> ?_⟩
   ·have h3:(Z3 e.s.L a).k=3:=beq_iff_eq.1 h3;rw[if_pos h3] at hy;exact⟨⟨(f,(Z3 e.s.L a).n),hy,by dsimp only;omega,by dsimp only;omega⟩,⟨⟨rfl,rfl,rfl,⟨rfl,rfl⟩,rfl,rfl,trivial⟩,⟨rfl,rfl,R4 _⟩,trivial⟩,by unfold Lt;dsimp only;omega⟩
   ·have h3:¬ (Z3 e.s.L a).k=3:=λe1=>by
     have h3:((Z3 e.s.L a).k==3)=false:=h3;rw[e1] at h3;cases h3
    rw[if_neg h3] at hy;refine⟨λh2=> ?_,λh2=> ?_⟩
    ·have h2:((Z3 e.s.L a).k==2&&(Z3 e.s.L a).g==g&&(Z3 e.s.L a).s==s)=true:=h2;simp only[L3,beq_iff_eq] at h2;rw[if_pos ⟨h2.1.1,h2.1.2,h2.2⟩] at hy;exact(Q9.2 ⟨x.val,hlt,by unfold gW;rw[hq,←hy];rfl⟩).symm
    ·have h2:¬ ((Z3 e.s.L a).k=2/\(Z3 e.s.L a).g=g/\(Z3 e.s.L a).s=s):=λ⟨a1,a2,a3⟩=>by
      have h2:((Z3 e.s.L a).k==2&&(Z3 e.s.L a).g==g&&(Z3 e.s.L a).s==s)=false:=h2;rw[a1,a2,a3] at h2;simp at h2
     rw[if_neg h2] at hy;exact⟨⟨(f,(Z3 e.s.L a).p),hy,by dsimp only;omega,by dsimp only;omega⟩,⟨⟨rfl,rfl,rfl,⟨rfl,rfl⟩,rfl,rfl,trivial⟩,⟨rfl,rfl,R4 _⟩,trivial⟩,by unfold Lt;dsimp only;omega⟩
  ·have hp:a<=0:=by have:=l7 hp;omega
   rw[c0z hp] at hy;exact⟨U5 hlt (by omega),x.succ hlt (by unfold gW;rw[←hy,Bool.and_false]),⟨⟨rfl,rfl,rfl,⟨rfl,rfl⟩,by simp only[V1.succ];omega,trivial⟩,⟨rfl,rfl,R4 _⟩,trivial⟩,V1.ext_lt hlt⟩
 ·have hge:=X4 hc;exact(Q8.2 λj hj=>x.2.2 j (wM hj hge)).symm
def Plc.ts(A:Plc):List T:=[.int .i64 A.a,.int .i64 A.b,.int .i64 A.c,.int .i64 A.d]
def b6c(A:Plc):Option Ob:=some (.arr true 1000000 4 1 λ_=>A.ts)
def c2i(p:Pg):Option Ob:=some (.arr true 1000000 2 1 λ_=>p.ts)
noncomputable def yS(e:Eng)(tx ta id:Int):{y:Eng×Plc//y=(K2 e (I5 e tx ta id 8).1,(I5 e tx ta id 8).2.1)}:=Classical.choice ⟨⟨_,rfl⟩⟩
noncomputable def a85:Con:=.rel ⟨Eng×Int×Int×Int,λx=>[.agg x.1.ts,.int .i64 x.2.1,.int .i64 x.2.2.1,.int .i64 x.2.2.2],λx=>.tup [.agg (yS x.1 x.2.1 x.2.2.1 x.2.2.2).1.1.ts,.agg (yS x.1 x.2.1 x.2.2.1 x.2.2.2).1.2.ts,.bool true],λx=>EI x.1⟩
def a9a(e:Eng)(tx ta id:Int)(F:Nat->Eng)(A:Nat->Plc)(P:Nat->Pg)(I:Nat->Nat->Plc):Nat->Ann
 |0=>.one {n:Nat//n<=8} (λx=>⟨[(1,.int .i64 tx),(2,.int .i64 ta),(3,.int .i64 id),(4,.ref 0 0 0),(8,.ref 1 0 0),(9,.ref 2 0 0),(10,.bool false),(11,.ref 3 0 0),(12,.int .i64 x.1)],[B9 (F x.1),B9 v4,b6c ⟨0,0,0,0⟩,b6c (A x.1)]⟩) (λx=>8-x.1) [.box 0,.box 1,.box 2,.box 3] [.box 0,.box 1,.box 2,.box 3] (λx=>fun
  |1=>.one {i:Nat//i<=4} (λy=>⟨[(1,.int .i64 tx),(2,.int .i64 ta),(3,.int .i64 id),(4,.ref 0 0 0),(8,.ref 1 0 0),(9,.ref 2 0 0),(10,.bool false),(11,.ref 3 0 0),(12,.int .i64 x.1),(16,.ref 4 0 0),(17,.int .i64 y.1)],[B9 (F (x.1+1)),B9 v4,b6c ⟨0,0,0,0⟩,b6c (I x.1 y.1),c2i (P x.1)]⟩) (λy=>4-y.1) [.box 0,.box 1,.box 2,.box 3,.box 5] [.box 0,.box 1,.box 2,.box 3,.box 4] (λ_=>Y5)
  |_=>.none)
 |_=>.none
theorem a8b(e:Eng)(tx ta id:Int)(F:Nat->Eng)(A:Nat->Plc)(P:Nat->Pg)(I:Nat->Nat->Plc)(h:
  (∃(x:{n:Nat//n<=8}),(tx=tx/\ta=ta/\id=id/\(0=0/\0=0)/\(0=0/\0=0)/\(0=0/\0=0)/\false=false/\(0=0/\0=0)/\(0:Int)=(x.val:Int)/\True)/\(1=1/\1=1/\R8 e (F x.val))/\(1=1/\1
  =1/\0=0/\0=0/\false=false/\0=0/\(0:Int)=(0:Int)/\0=0/\(0:Int)=(0:Int)/\0=0/\(0:Int)=(0:Int)/\false=false/\0=0/\0=0/\0=0/\(0:Int)=(0:Int)/\True)/\(1=1/\1=1/\(0:
  Int)=(0:Int)/\(0:Int)=(0:Int)/\(0:Int)=(0:Int)/\(0:Int)=(0:Int)/\True)/\(1=1/\1=1/\(-1:Int)=(A x.val).a/\(-1:Int)=(A x.val).b/\(-1:Int)=(A x.val).c/\(-1:Int)=(A x.val).d/\True)
  /\True)/\∀(x:{n:Nat//n<=8}),(decide ((x.val:Int)<(8:Int))=true->∃(x_1:(Sto×Nat)),(((yL (F x.val).s x_1.1)/\(x.val:Int)=(x_1.2:Int)/\True)/\jJ x_1.1 x_1.2)/\((!(Z1 x_1.1
  x_1.2).2.2)=true->((Y8 Z5 (Z1 x_1.1 x_1.2).1.d.E (F 8).s.d.E)/\(Y8 Y9 (Z1 x_1.1 x_1.2).1.d.C (F 8).s.d.C)/\(Z1 x_1.1 x_1.2).1.d.A=(F 8).s.d.A/\(Y8 Y6 (Z1
  x_1.1 x_1.2).1.d.keep (F 8).s.d.keep)/\(Z1 x_1.1 x_1.2).1.ep=(F 8).s.ep/\(Y8 Y3 (Z1 x_1.1 x_1.2).1.L (F 8).s.L)/\(Z1 x_1.1 x_1.2).1.S=(F 8).s.S/\(Y8 X2 (Z1 x_1.1
  x_1.2).1.fr (F 8).s.fr)/\(Z1 x_1.1 x_1.2).1.J=(F 8).s.J/\(F x.val).up=(F 8).up/\(Y8 X0 (F x.val).X (F 8).X)/\(Y8 Y7 (F x.val).lk.H (F 8).lk.H)/\(Y8 Y0 (F x.val).lk.W (F
  8).lk.W)/\(F x.val).N=(F 8).N/\True)/\((A x.val).a=(A 8).a/\(A x.val).b=(A 8).b/\(A x.val).c=(A 8).c/\(A x.val).d=(A 8).d/\True)/\false=true/\True)/\((!(Z1 x_1.1 x_1.2).2.2)=false->V3
  (↑(Z1 x_1.1 x_1.2).2.1:Int) (Z1 x_1.1 x_1.2).1.fr.length/\(∃(x_2:{i:Nat//i<=4}),(tx=tx/\ta=ta/\id=id/\(0=0/\0=0)/\(0=0/\0=0)/\(0=0/\0=0)/\false=false/\(0=0/\0=0)/\
  (x.val:Int)=(x.val:Int)/\(0=0/\0=0)/\(0:Int)=(x_2.val:Int)/\True)/\(1=1/\1=1/\(Y8 Z5 (Z1 x_1.1 x_1.2).1.d.E (F (x.val+1)).s.d.E)/\(Y8 Y9 (Z1 x_1.1 x_1.2).1.d.C (F (x.val+
  1)).s.d.C)/\(Z1 x_1.1 x_1.2).1.d.A=(F (x.val+1)).s.d.A/\(Y8 Y6 (Z1 x_1.1 x_1.2).1.d.keep (F (x.val+1)).s.d.keep)/\(Z1 x_1.1 x_1.2).1.ep=(F (x.val+1)).s.ep/\(Y8 Y3 (Z1
  x_1.1 x_1.2).1.L (F (x.val+1)).s.L)/\(Z1 x_1.1 x_1.2).1.S=(F (x.val+1)).s.S/\(Y8 X2 (Z1 x_1.1 x_1.2).1.fr (F (x.val+1)).s.fr)/\(Z1 x_1.1 x_1.2).1.J=(F (x.val+
  1)).s.J/\(F x.val).up=(F (x.val+1)).up/\(Y8 X0 (F x.val).X (F (x.val+1)).X)/\(Y8 Y7 (F x.val).lk.H (F (x.val+1)).lk.H)/\(Y8 Y0 (F x.val).lk.W (F (x.val+1)).lk.W)/\(F x.val).N=
  (F (x.val+1)).N/\True)/\(1=1/\1=1/\R8 v4 v4)/\(1=1/\1=1/\(0:Int)=(0:Int)/\(0:Int)=(0:Int)/\(0:Int)=(0:Int)/\(0:Int)=(0:Int)/\True)/\(1=1/\1=1/\(A x.val).a=(I x.val
  x_2.val).a/\(A x.val).b=(I x.val x_2.val).b/\(A x.val).c=(I x.val x_2.val).c/\(A x.val).d=(I x.val x_2.val).d/\True)/\(1=1/\1=1/\((Z1 x_1.1 x_1.2).1.fr.getD (↑(Z1 x_1.1 x_1.2).2.1:Int).toNat
  dz).pg.Q=(P x.val).Q/\(Y8 Z5 ((Z1 x_1.1 x_1.2).1.fr.getD (↑(Z1 x_1.1 x_1.2).2.1:Int).toNat dz).pg.sl (P x.val).sl)/\True)/\True)/\∀(x_2:{i:Nat//i<=4}),(decide ((x_2.val:Int)
  <(4:Int))=true->V3 (x_2.val:Int) (P x.val).sl.length/\(((P x.val).sl.getD (x_2.val:Int).toNat []==[])=true->V3 (2:Int) 4/\∃(x_3:(Eng×Int×Int×Int)),(decide ((I x.val x_2.val).c<(0:Int))=true->((R8
  (F (x.val+1)) x_3.1)/\tx=x_3.2.1/\(x.val:Int)=x_3.2.2.1/\(x_2.val:Int)=x_3.2.2.2/\True)/\uK x_3.1)/\((decide ((I x.val x_2.val).c<(0:Int))&& !iK x_3.1 x_3.2.1 x_3.2.2.1
  x_3.2.2.2)=true->V3 (2:Int) 4/\V3 (3:Int) 4/\W7 .i64 ((x_2.val:Int)+(1:Int))/\∃(y:{i:Nat//i<=4}),((tx=tx/\ta=ta/\id=id/\(0=0/\0=0)/\(0=0/\0=0)/\(0=0/\0=0)/\false=false
  /\(0=0/\0=0)/\(x.val:Int)=(x.val:Int)/\(0=0/\0=0)/\(x_2.val:Int)+(1:Int)=(y.val:Int)/\True)/\(1=1/\1=1/\R8 (F (x.val+1)) (F (x.val+1)))/\(1=1/\1=1/\R8 v4 v4)/\(1=1/\1=1/\(0:
  Int)=(0:Int)/\(0:Int)=(0:Int)/\(0:Int)=(0:Int)/\(0:Int)=(0:Int)/\True)/\(1=1/\1=1/\(I x.val x_2.val).a=(I x.val y.val).a/\(I x.val x_2.val).b=(I x.val y.val).b/\(x.val:Int)=(I x.val
  y.val).c/\(x_2.val:Int)=(I x.val y.val).d/\True)/\(1=1/\1=1/\(P x.val).Q=(P x.val).Q/\(Y8 Z5 (P x.val).sl (P x.val).sl)/\True)/\True)/\Lt (4-y.val) (4-x_2.val))/\((decide ((I x.val x_2.val).c<(0:
  Int))&& !iK x_3.1 x_3.2.1 x_3.2.2.1 x_3.2.2.2)=false->W7 .i64 ((x_2.val:Int)+(1:Int))/\∃(y:{i:Nat//i<=4}),((tx=tx/\ta=ta/\id=id/\(0=0/\0=0)/\(0=0/\0=0)/\(0=0/\0=0)
  /\false=false/\(0=0/\0=0)/\(x.val:Int)=(x.val:Int)/\(0=0/\0=0)/\(x_2.val:Int)+(1:Int)=(y.val:Int)/\True)/\(1=1/\1=1/\R8 (F (x.val+1)) (F (x.val+1)))/\(1=1/\1=1/\R8 v4 v4)/\(1=1/\
  1=1/\(0:Int)=(0:Int)/\(0:Int)=(0:Int)/\(0:Int)=(0:Int)/\(0:Int)=(0:Int)/\True)/\(1=1/\1=1/\(I x.val x_2.val).a=(I x.val y.val).a/\(I x.val x_2.val).b=(I x.val y.val).b/\(I x.val
  x_2.val).c=(I x.val y.val).c/\(I x.val x_2.val).d=(I x.val y.val).d/\True)/\(1=1/\1=1/\(P x.val).Q=(P x.val).Q/\(Y8 Z5 (P x.val).sl (P x.val).sl)/\True)/\True)/\Lt (4-y.val) (4-x_2.val)))/\(((P
  x.val).sl.getD (x_2.val:Int).toNat []==[])=false->V3 (x_2.val:Int) (P x.val).sl.length/\∃(x_3:(List UInt8)),(((P x.val).sl.getD (x_2.val:Int).toNat []=x_3/\True)/\a0S x_3)/\(((m4 x_3).2.2&&(m4 x_3).1==
  ta&&(m4 x_3).2.1.id==id)=true->V3 (0:Int) 4)/\(((m4 x_3).2.2&&(m4 x_3).1==ta&&(m4 x_3).2.1.id==id&&decide ((I x.val x_2.val).a<(0:Int)))=true->V3 (0:Int) 4/\V3 (1:Int) 4/\W7
  .i64 ((x_2.val:Int)+(1:Int))/\∃(y:{i:Nat//i<=4}),((tx=tx/\ta=ta/\id=id/\(0=0/\0=0)/\(0=0/\0=0)/\(0=0/\0=0)/\false=false/\(0=0/\0=0)/\(x.val:Int)=(x.val:Int)/\(0=0/\0=0)/\
  (x_2.val:Int)+(1:Int)=(y.val:Int)/\True)/\(1=1/\1=1/\R8 (F (x.val+1)) (F (x.val+1)))/\(1=1/\1=1/\R8 v4 v4)/\(1=1/\1=1/\(0:Int)=(0:Int)/\(0:Int)=(0:Int)/\(0:Int)=(0:Int)/\
  (0:Int)=(0:Int)/\True)/\(1=1/\1=1/\(x.val:Int)=(I x.val y.val).a/\(x_2.val:Int)=(I x.val y.val).b/\(I x.val x_2.val).c=(I x.val y.val).c/\(I x.val x_2.val).d=(I x.val y.val).d/\True)/\(1=1/\1=1/\(P
  x.val).Q=(P x.val).Q/\(Y8 Z5 (P x.val).sl (P x.val).sl)/\True)/\True)/\Lt (4-y.val) (4-x_2.val))/\(((m4 x_3).2.2&&(m4 x_3).1==ta&&(m4 x_3).2.1.id==id&&decide ((I x.val x_2.val).a<(0:
  Int)))=false->W7 .i64 ((x_2.val:Int)+(1:Int))/\∃(y:{i:Nat//i<=4}),((tx=tx/\ta=ta/\id=id/\(0=0/\0=0)/\(0=0/\0=0)/\(0=0/\0=0)/\false=false/\(0=0/\0=0)/\(x.val:Int)=
  (x.val:Int)/\(0=0/\0=0)/\(x_2.val:Int)+(1:Int)=(y.val:Int)/\True)/\(1=1/\1=1/\R8 (F (x.val+1)) (F (x.val+1)))/\(1=1/\1=1/\R8 v4 v4)/\(1=1/\1=1/\(0:Int)=(0:Int)/\(0:Int)=(0:
  Int)/\(0:Int)=(0:Int)/\(0:Int)=(0:Int)/\True)/\(1=1/\1=1/\(I x.val x_2.val).a=(I x.val y.val).a/\(I x.val x_2.val).b=(I x.val y.val).b/\(I x.val x_2.val).c=(I x.val y.val).c/\(I x.val x_2.val).d=(I
  x.val y.val).d/\True)/\(1=1/\1=1/\(P x.val).Q=(P x.val).Q/\(Y8 Z5 (P x.val).sl (P x.val).sl)/\True)/\True)/\Lt (4-y.val) (4-x_2.val))))/\(decide ((x_2.val:Int)<(4:Int))=false->W7 .i64
  ((x.val:Int)+(1:Int))/\∃(y:{n:Nat//n<=8}),((tx=tx/\ta=ta/\id=id/\(0=0/\0=0)/\(0=0/\0=0)/\(0=0/\0=0)/\false=false/\(0=0/\0=0)/\(x.val:Int)+(1:Int)=(y.val:Int)/\True)/\(1=
  1/\1=1/\R8 (F (x.val+1)) (F y.val))/\(1=1/\1=1/\R8 v4 v4)/\(1=1/\1=1/\(0:Int)=(0:Int)/\(0:Int)=(0:Int)/\(0:Int)=(0:Int)/\(0:Int)=(0:Int)/\True)/\(1=1/\1=1/\(I x.val
  x_2.val).a=(A y.val).a/\(I x.val x_2.val).b=(A y.val).b/\(I x.val x_2.val).c=(A y.val).c/\(I x.val x_2.val).d=(A y.val).d/\True)/\True)/\Lt (8-y.val) (8-x.val))))/\(decide ((x.val:Int)<(8:Int))=false->
  (R8 (F x.val) (F 8))/\((A x.val).a=(A 8).a/\(A x.val).b=(A 8).b/\(A x.val).c=(A 8).c/\(A x.val).d=(A 8).d/\True)/\true=true/\True)):
  U1 Tryz.prog 273 [.agg e.ts,.int .i64 tx,.int .i64 ta,.int .i64 id] (.tup [.agg (F 8).ts,.agg (A 8).ts,.bool true]):=
 Q5 (gC uH (gC a5L (gC lA gN))) Tryz.func273 (a9a e tx ta id F A P I) h
noncomputable def fpg(e:Eng)(tx ta id:Int)(n:Nat):Pg:=((Z1 (I5 e tx ta id n).1 n).1.fr.getD (Z1 (I5 e tx ta id n).1 n).2.1 dz).pg
theorem c0D{e:Eng}(h:EI e)(tx ta id:Int){n:Nat}(hn:n<8):I5 e tx ta id (n+1)=((Z1 (I5 e tx ta id n).1 n).1,uG e tx ta id n (fpg e tx ta id n) (I5 e tx ta id n).2.1 4,true):=by
 obtain⟨g1,g2,g3,g4⟩:=lV h.g tx ta id n (by omega)
 obtain⟨_,f5⟩:=fN g1 (no:=n) hn;conv=>lhs;unfold I5
 rw[if_pos g3,if_pos f5];rfl
theorem b5t{e:Eng}{s:Sto}(hl:s.L=e.s.L)(tx g sl:Int):iK (K2 e s) tx g sl=iK e tx g sl:=by
 unfold iK gW K2;dsimp only;rw[hl]
theorem b8S(e:Eng)(tx ta id:Int)(n:Nat)(p:Pg)(A:Plc)(i:Nat):uG e tx ta id n p A (i+1)=if p.sl.getD i []=[] then(if(uG e tx ta id n p A i).c<0/\iK e tx n i=false then⟨(uG e tx ta id n p A i).a,(uG e tx ta id n p A i).b,n,i⟩ else uG e tx ta id n p A i)
  else if b46 (p.sl.getD i []) ta id=true/\(uG e tx ta id n p A i).a<0 then⟨n,i,(uG e tx ta id n p A i).c,(uG e tx ta id n p A i).d⟩ else uG e tx ta id n p A i:=rfl
theorem kM:GK 273 a85:=gk Tryz.func273<|by
 rintro⟨e,tx,ta,id⟩ (h:EI e);show U1 _ _ _ (.tup [.agg (yS e tx ta id).1.1.ts,.agg (yS e tx ta id).1.2.ts,.bool true]);rw[(yS e tx ta id).2];refine a8b e tx ta id (λn=>K2 e (I5 e tx ta id n).1) (λn=>(I5 e tx ta id n).2.1) (fpg e tx ta id) (λn i=>uG e tx ta id n (fpg e tx ta id n) (I5 e tx ta id n).2.1 i) ⟨⟨⟨0,S7 _⟩,⟨rfl,rfl,rfl,Z8,Z8,Z8,rfl,Z8,Z9⟩,⟨rfl,rfl,R4 _⟩,⟨rfl,rfl,rfl,rfl,rfl,rfl,rfl,rfl,rfl,rfl,rfl,rfl,rfl,rfl,rfl,Z9⟩,⟨rfl,rfl,rfl,rfl,rfl,Z9⟩,⟨rfl,rfl,rfl,rfl,rfl,Z9⟩,trivial⟩,λx=> ?_⟩
 obtain⟨n,hn⟩:=x;dsimp only at hn ⊢;refine⟨λhc=> ?_,λhc=> ?_⟩
 ·have hlt:n<8:=by have:=C7 hc;omega
  obtain⟨g1,g2,g3,g4⟩:=lV h.g tx ta id n hn;obtain⟨⟨f1,f2,f3,f4⟩,f5⟩:=fN g1 (no:=n) hlt;obtain⟨_,_,⟨_,_,p4,ps⟩,_⟩:=f1.fp _ f2;have hs:=c0D h tx ta id hlt;refine⟨((I5 e tx ta id n).1,n),⟨⟨zE _,Z9⟩,g1.inv,hlt⟩,λhu=> ?_,λ_=> ?_⟩
  ·have hu:(!(Z1 (I5 e tx ta id n).1 n).2.2)=true:=hu;rw[f5] at hu;cases hu
  ·have hlog:(Z1 (I5 e tx ta id n).1 n).1.L=e.s.L:=f4.1.trans g2;have hNd:=fO (a0E h f1 hlog);have hK:=λg sl=>b5t hlog tx g sl
   have p4:(fpg e tx ta id n).sl.length=4:=p4;have ps:∀i,i<4->((fpg e tx ta id n).sl.getD i []).length<=30:=λi hi=>ps i (by show i<(fpg e tx ta id n).sl.length;omega)
   have hp:((Z1 (I5 e tx ta id n).1 n).1.fr.getD (Z1 (I5 e tx ta id n).1 n).2.1 dz).pg=fpg e tx ta id n:=rfl;have hI:=b8S e tx ta id n (fpg e tx ta id n) (I5 e tx ta id n).2.1;have h0:uG e tx ta id n (fpg e tx ta id n) (I5 e tx ta id n).2.1 0=(I5 e tx ta id n).2.1:=rfl;rw[hs];dsimp only;rw[F5,hp];generalize fpg e tx ta id n=p at*;generalize (I5 e tx ta id n).2.1=A at*;generalize uG e tx ta id n p A=I at*;refine⟨X8 f2,⟨⟨0,S7 _⟩,⟨rfl,rfl,rfl,Z8,Z8,Z8,rfl,Z8,rfl,Z8,Z9⟩,⟨rfl,rfl,R4 (K2 e (Z1 (I5 e tx ta id n).1 n).1)⟩,⟨rfl,rfl,R4 v4⟩,⟨rfl,rfl,rfl,rfl,rfl,Z9⟩,⟨rfl,rfl,by rw[h0],by rw[h0],by rw[h0],by rw[h0],trivial⟩,⟨rfl,rfl,rfl,⟨rfl,Z2 _ _⟩,trivial⟩,trivial⟩,λy=> ?_⟩
   obtain⟨i,hi⟩:=y;dsimp only at hi ⊢;refine⟨λhc2=> ?_,λhc2=> ?_⟩
   ·have hit:i<4:=by have:=C7 hc2;omega
    have hIi:=hI i;rw[F5];refine⟨X8 (by omega),λhz=> ?_,λhz=> ?_⟩
    ·have hz:p.sl.getD i []=[]:=by simpa using hz
     rw[if_pos hz] at hIi;refine⟨⟨by omega,by omega⟩,(K2 e (Z1 (I5 e tx ta id n).1 n).1,tx,n,i),λ_=>⟨⟨R4 _,rfl,rfl,Z9⟩,hNd⟩,λhq=> ?_,λhq=> ?_⟩
     ·dsimp only at hq;rw[hK] at hq;simp only[L3,k4,xP] at hq;rw[if_pos hq] at hIi;exact⟨⟨by omega,by omega⟩,⟨by omega,by omega⟩,Z4 (by omega),⟨i+1,hit⟩,⟨⟨rfl,rfl,rfl,Z8,Z8,Z8,rfl,Z8,rfl,Z8,by dsimp only;omega,trivial⟩,⟨rfl,rfl,R4 _⟩,⟨rfl,rfl,R4 v4⟩,⟨rfl,rfl,rfl,rfl,rfl,rfl,trivial⟩,⟨rfl,rfl,by rw[hIi],by rw[hIi],by rw[hIi],by rw[hIi],trivial⟩,⟨rfl,rfl,rfl,⟨rfl,Z2 _ _⟩,trivial⟩,trivial⟩,by unfold Lt;dsimp only;omega⟩
     ·dsimp only at hq;rw[hK] at hq;rw[if_neg (by rintro⟨a1,a2⟩;rw[pO a1,a2] at hq;cases hq)] at hIi
      exact⟨Z4 (by omega),⟨i+1,hit⟩,⟨⟨rfl,rfl,rfl,Z8,Z8,Z8,rfl,Z8,rfl,Z8,by dsimp only;omega,trivial⟩,⟨rfl,rfl,R4 _⟩,⟨rfl,rfl,R4 v4⟩,⟨rfl,rfl,rfl,rfl,rfl,rfl,trivial⟩,⟨rfl,rfl,by rw[hIi],by rw[hIi],by rw[hIi],by rw[hIi],trivial⟩,⟨rfl,rfl,rfl,⟨rfl,Z2 _ _⟩,trivial⟩,trivial⟩,by unfold Lt;dsimp only;omega⟩
    ·have hz:¬p.sl.getD i []=[]:=by simpa using hz
     have hps:=ps i hit;rw[if_neg hz] at hIi;refine⟨X8 (by omega),p.sl.getD i [],⟨Z9,by show _<=1000000000;omega⟩,λ_=>⟨by omega,by omega⟩,λhq=> ?_,λhq=> ?_⟩
     ·have hq:(b46 (p.sl.getD i []) ta id&&decide ((I i).a<0))=true:=hq;simp only[L3,k4] at hq;rw[if_pos hq] at hIi;exact⟨⟨by omega,by omega⟩,⟨by omega,by omega⟩,Z4 (by omega),⟨i+1,hit⟩,⟨⟨rfl,rfl,rfl,Z8,Z8,Z8,rfl,Z8,rfl,Z8,by dsimp only;omega,trivial⟩,⟨rfl,rfl,R4 _⟩,⟨rfl,rfl,R4 v4⟩,⟨rfl,rfl,rfl,rfl,rfl,rfl,trivial⟩,⟨rfl,rfl,by rw[hIi],by rw[hIi],by rw[hIi],by rw[hIi],trivial⟩,⟨rfl,rfl,rfl,⟨rfl,Z2 _ _⟩,trivial⟩,trivial⟩,by unfold Lt;dsimp only;omega⟩
     ·have hq:(b46 (p.sl.getD i []) ta id&&decide ((I i).a<0))=false:=hq;rw[if_neg (by rintro⟨a1,a2⟩;rw[a1,pO a2] at hq;cases hq)] at hIi
      exact⟨Z4 (by omega),⟨i+1,hit⟩,⟨⟨rfl,rfl,rfl,Z8,Z8,Z8,rfl,Z8,rfl,Z8,by dsimp only;omega,trivial⟩,⟨rfl,rfl,R4 _⟩,⟨rfl,rfl,R4 v4⟩,⟨rfl,rfl,rfl,rfl,rfl,rfl,trivial⟩,⟨rfl,rfl,by rw[hIi],by rw[hIi],by rw[hIi],by rw[hIi],trivial⟩,⟨rfl,rfl,rfl,⟨rfl,Z2 _ _⟩,trivial⟩,trivial⟩,by unfold Lt;dsimp only;omega⟩
   ·obtain rfl:i=4:=by have:=l7 hc2;omega
    refine⟨Z4 (by omega),⟨n+1,hlt⟩,?_,by unfold Lt;dsimp only;omega⟩
    dsimp only;rw[hs];exact⟨⟨rfl,rfl,rfl,Z8,Z8,Z8,rfl,Z8,by omega,trivial⟩,⟨rfl,rfl,R4 _⟩,⟨rfl,rfl,R4 v4⟩,⟨rfl,rfl,rfl,rfl,rfl,Z9⟩,⟨rfl,rfl,rfl,rfl,rfl,Z9⟩,trivial⟩
 ·obtain rfl:n=8:=by have:=l7 hc;omega
  exact⟨R4 _,⟨rfl,rfl,rfl,Z9⟩,Z9⟩
noncomputable def c0p(e:Eng)(no sl:Nat):Eng×List UInt8:=(K2 e (Z1 e.s no).1,((Z1 e.s no).1.fr.getD (Z1 e.s no).2.1 dz).pg.sl.getD sl [])
noncomputable def stH(e:Eng)(no sl:Nat):{y:Eng×List UInt8//y=c0p e no sl}:=Classical.choice ⟨⟨_,rfl⟩⟩
noncomputable def a8v:Con:=.rel ⟨Eng×Nat×Nat,λx=>[.agg x.1.ts,.int .i64 x.2.1,.int .i64 x.2.2],λx=>.tup [.agg (stH x.1 x.2.1 x.2.2).1.1.ts,.str (stH x.1 x.2.1 x.2.2).1.2,.bool true],λx=>EI x.1/\x.2.1<8/\x.2.2<4⟩
theorem kZ:GK 275 a8v:=gk Tryz.func275<|by
 rintro⟨e,no,sl⟩ ⟨h,hn,hs⟩;dsimp only at h hn hs;show U1 _ _ _ (.tup [.agg (stH e no sl).1.1.ts,.str (stH e no sl).1.2,.bool true]);rw[(stH e no sl).2];obtain⟨⟨f1,f2,f3,f4⟩,f5⟩:=fN h.g (no:=no) hn;obtain⟨_,_,⟨_,_,p4,ps⟩,_⟩:=f1.fp _ f2;refine Q5 (gC uH gN) Tryz.func275 Y5 (α:=let r:=(Z1 e.s no);let u:=(r.1.fr.getD r.2.1 dz).pg.sl.getD;∃(x:(Sto×Nat)),let q:=(Z1 x.1 x.2);let z:=(q.1.fr.getD (↑q.2.1:Int).toNat dz);let p:=((Y8 Z5 q.1.d.E r.1.d.E)/\(Y8 Y9 q.1.d.C r.1.d.C)/\q.1.d.A=r.1.d.A/\(Y8 Y6 q.1.d.keep r.1.d.keep)/\q.1.ep=r.1.ep/\(Y8 Y3 q.1.L r.1.L)/\q.1.S=r.1.S/\(Y8 X2 q.1.fr r.1.fr)/\q.1.J=r.1.J/\e.up=e.up/\(Y8 X0 e.X e.X)/\(Y8 Y7 e.lk.H e.lk.H)/\(Y8 Y0 e.lk.W e.lk.W)/\e.N=e.N/\True);(((yL e.s x.1)/\(no:Int)=(x.2:Int)/\True)/\jJ x.1 x.2)/\((! q.2.2)=true->p/\[]=u sl []/\false=true/\True)/\((! q.2.2)=false->V3 (↑q.2.1:Int) q.1.fr.length/\V3 (sl:Int) z.pg.sl.length/\p/\z.pg.sl.getD (sl:Int).toNat []=u sl []/\true=true/\True)) ⟨(e.s,no),⟨⟨zE _,Z9⟩,h.g.inv,hn⟩,λhu=> ?_,λ_=>⟨X8 f2,?_,R4 (K2 e (Z1 e.s no).1),rfl,Z9⟩⟩
 ·have hu:(!(Z1 e.s no).2.2)=true:=hu;rw[f5] at hu;cases hu
 ·dsimp only;rw[F5];exact X8 (by rw[p4];exact hs)
noncomputable def a1U:Con:=.rel ⟨Eng×Nat×Int×Int×List UInt8×List UInt8,λx=>[.agg x.1.ts,.int .i64 x.2.1,.int .i64 x.2.2.1,.int .i64 x.2.2.2.1,.str x.2.2.2.2.1,.str x.2.2.2.2.2],λx=>.tup [.agg (G2 x.1 x.2.1 x.2.2.1 x.2.2.2.1 x.2.2.2.2.1 x.2.2.2.2.2).1.ts,.int .i64 (G2 x.1 x.2.1 x.2.2.1 x.2.2.2.1 x.2.2.2.2.1 x.2.2.2.2.2).2],
 λx=>EI x.1/\x.2.1<x.1.X.length/\(0<=x.2.2.1/\x.2.2.1<=7)/\(0<=x.2.2.2.1/\x.2.2.2.1<=3)/\x.2.2.2.2.1.length<=30/\x.2.2.2.2.2.length<=30⟩
theorem b5Q(e:Eng)(k:Nat)(r:Rec):(J0 e k r).s.L.getD (((e.s.L.length+1:Nat):Int)-1).toNat dz=R9 e.s (M3 e k r):=by
 have e1:(((e.s.L.length+1:Nat):Int)-1).toNat=e.s.L.length:=by omega
 rw[e1,P8]
 show((e.s.L++[R9 e.s (M3 e k r)])[e.s.L.length]?).getD dz=_;rw[List.getElem?_concat_length]
 rfl
theorem cL:GK 274 a1U:=gk Tryz.func274<|by
 rintro⟨e,k,g,s,b,a⟩ ⟨h,hk,hg,hs,hb,ha⟩;dsimp only at h hk hg hs hb ha;have hrm:e.s.L.length+C4 e<=60:=h.h.rm;have h10:=h.h.t10;refine Q5 (gC m8 (gC qO (gC nV gN))) Tryz.func274 Y5 (α:=let z:=(e.s.L.length:Int);let r:=(G2 e k g s b a);let j:=r.1.s;W7 .i64 (z+1)/\∃(x:Eng),let u:=(↑(C4 x):Int);(((R8 e x)/\True)/\uK x)/\W7 .i64 (z+1+u)/\W7 .i64 (z+1+u+1)/\(decide (z+1+u+1>60)=true->(R8 e r.1)/\7=r.2/\True)/\(decide (z+1+u+1>60)=false->∃(x:(Eng×Nat×Rec)),let w:=x.2.2;let v:=x.1.s;let m:=v.L.length;(((R8 e x.1)/\(k:Int)=(x.2.1:Int)/\(0=w.e/\0=w.l/\0=w.t/\2=w.k/\0=w.p/\0=w.n/\g=w.g/\s=w.s/\b=w.b/\a=w.a/\True)/\True)/\x.2.1<x.1.X.length/\x.1.X.length<=1000/\m<=1000)/\∃(x_1:(Sto×Int)),let y:=x_1.1;let q:=(V2 x_1.1 (y.L.getD (x_1.2- (1:Int)).toNat dz));((((Y8 Z5 v.d.E y.d.E)/\(Y8 Y9 v.d.C y.d.C)/\v.d.A=y.d.A/\(Y8 Y6 v.d.keep y.d.keep)/\v.ep=y.ep/\(Y8 Y3 (v.L++[R9 x.1.s (M3 x.1 x.2.1 w)]) y.L)/\v.S=y.S/\(Y8 X2 v.fr y.fr)/\v.J=y.J/\True)/\(↑(m+1):Int)=x_1.2/\True)/\SInv y/\1<=x_1.2/\x_1.2<=(y.L.length:Int))/\((! q.2)=true->False)/\((! q.2)=false->((Y8 Z5 q.1.d.E j.d.E)/\(Y8 Y9 q.1.d.C j.d.C)/\q.1.d.A=j.d.A/\(Y8 Y6 q.1.d.keep j.d.keep)/\q.1.ep=j.ep/\(Y8 Y3 q.1.L j.L)/\q.1.S=j.S/\(Y8 X2 q.1.fr j.fr)/\q.1.J=j.J/\x.1.up=r.1.up/\(Y8 X0 (x.1.X.set x.2.1 (Txn.mk (x.1.X.getD x.2.1 dz).id ((m:Int)+1))) r.1.X)/\(Y8 Y7 x.1.lk.H r.1.lk.H)/\(Y8 Y0 x.1.lk.W r.1.lk.W)/\x.1.N=r.1.N/\True)/\0=r.2/\True))) ⟨Z4 (by omega),e,⟨⟨R4 _,trivial⟩,fO h⟩,Z4 (by omega),Z4 (by omega),λhq=> ?_,λhq=> ?_⟩
 ·have e1:G2 e k g s b a=(e,7):=by unfold G2;rw[if_pos (C7 hq)]
  rw[e1];exact⟨R4 _,Z9⟩
 ·have hq:=l7 hq;obtain⟨u1,u2⟩:=b2j h hk hg hs hb ha (by omega)
  have e1:G2 e k g s b a=((a2Q e k (xO g s b a)).1,0):=by unfold G2;rw[if_neg hq,if_pos u2]
  have hR:F8 (R9 e.s (M3 e k (xO g s b a))):=h.rcp hk (by show(2:Int)≠6;decide) (by show(2:Int)<=2/\(2:Int)<=5;decide) (λ_=>rfl) (λe _=>absurd rfl e) ⟨Int.le_refl _,by show(0:Int)<=_;omega⟩ hg hs ⟨hb,ha⟩ (λe=>by cases e)
  have e2:=b5Q e k (xO g s b a);refine⟨(e,k,xO g s b a),⟨⟨R4 _,rfl,⟨rfl,rfl,rfl,rfl,rfl,rfl,rfl,rfl,rfl,Z9⟩,trivial⟩,hk,by dsimp only;omega,by dsimp only;omega⟩,((J0 e k (xO g s b a)).s,((e.s.L.length+1:Nat):Int)),⟨⟨zE (J0 e k (xO g s b a)).s,rfl,trivial⟩,(h.app hk hR).inv,by dsimp only;omega,by rw[zK];exact Int.le_refl _⟩,λhu=> ?_,λhu=> ?_⟩
  ·dsimp only at hu;rw[e2] at hu;have hu:(!(a2Q e k (xO g s b a)).2)=true:=hu;rw[u2] at hu;cases hu
  ·dsimp only;rw[e2,e1];exact⟨R4 (a2Q e k (xO g s b a)).1,Z9⟩
end Go.Proofs.YtghgljelnhfihaaGreat

namespace Go.Proofs.YtghgljelnhfihaaGreat
set_option maxRecDepth 100000
open Go.SS

noncomputable def a4e:Con:=.rel ⟨Eng×Nat×Int×Rw×Bool,λx=>[.agg x.1.ts,.int .i64 x.2.1,.int .i64 x.2.2.1,.agg x.2.2.2.1.ts,.bool x.2.2.2.2],λx=>.tup [.agg (E9 x.1 x.2.1 x.2.2.1 x.2.2.2.1 x.2.2.2.2).1.ts,.int .i64 (E9 x.1 x.2.1 x.2.2.1 x.2.2.2.1 x.2.2.2.2).2],
 λx=>EI x.1/\x.2.1<x.1.X.length/\(1<=x.2.2.1/\x.2.2.1<=3)/\RwK x.2.2.2.1/\(mN x.2.2.1 x.2.2.2.1).length<=30⟩
theorem a9W{a:Int}(h:(a !=0)=true):¬a=0:=by simpa using h
theorem gV{a:Int}(h:(a !=0)=false):a=0:=by simpa using h
theorem c0S{e:Eng}{k:Nat}{ta:Int}{r:Rw}{gone:Bool}(h:¬ (T3 e k ta (-1) 2).2=0):E9 e k ta r gone=T3 e k ta (-1) 2:=if_neg h
theorem c1N{e e1:Eng}{k:Nat}{ta:Int}{r:Rw}{gone:Bool}(h:T3 e k ta (-1) 2=(e1,0))(h2:¬ (T3 e1 k ta r.id 4).2=0):E9 e k ta r gone=T3 e1 k ta r.id 4:=by
 unfold E9;rw[h,if_pos rfl,if_neg h2]
theorem c0Z{e e1 e2:Eng}{k:Nat}{ta:Int}{r:Rw}{gone:Bool}(h:T3 e k ta (-1) 2=(e1,0))(h2:T3 e1 k ta r.id 4=(e2,0)):E9 e k ta r gone=kD e2 k ta r gone (a4W e2 k ta r.id):=by
 unfold E9;rw[h,if_pos rfl,h2,if_pos rfl]
theorem b7w(e:Eng)(s:Sto)(A:Plc):c0p (K2 e s) A.a.toNat A.b.toNat=(K2 e (oT e A s).1,(oT e A s).2):=rfl
theorem b8X{e:Eng}{k:Nat}{ta:Int}{r:Rw}{f:Sto×Plc×Bool}(ha:f.2.1.a<0):kD e k ta r true f=(K2 e f.1,5):=by
 unfold kD;rw[if_pos ha];rfl
theorem b7P{e:Eng}{k:Nat}{ta:Int}{r:Rw}{f:Sto×Plc×Bool}(ha:f.2.1.a<0)(hc:f.2.1.c<0):kD e k ta r false f=(K2 e f.1,12):=by
 unfold kD;rw[if_pos ha,if_neg (by simp),if_pos hc]
theorem b9d{e:Eng}{k:Nat}{ta:Int}{r:Rw}{f:Sto×Plc×Bool}(ha:f.2.1.a<0)(hc:¬f.2.1.c<0):kD e k ta r false f=G2 (K2 e f.1) k f.2.1.c f.2.1.d [] (mN ta r):=by
 unfold kD;rw[if_pos ha,if_neg (by simp),if_neg hc]
theorem b1p{e:Eng}{k:Nat}{ta:Int}{r:Rw}{gone:Bool}{f:Sto×Plc×Bool}(ha:¬f.2.1.a<0):kD e k ta r gone f=G2 (K2 e (oT e f.2.1 f.1).1) k f.2.1.a f.2.1.b (oT e f.2.1 f.1).2 (if gone=true then[] else mN ta r):=if_neg ha
theorem nT:GK 182 a4e:=gk Tryz.func182<|by
 rintro⟨e,k,ta,r,gone⟩ ⟨h,hk,ht,hr,hb⟩;dsimp only at h hk ht hr hb;have hid:=hr.2.2;have L1:LokR ta (-1) 2:=⟨ht,by decide,by decide,by decide⟩
 have L2:LokR ta r.id 4:=⟨ht,by omega,by decide,.inr (by decide)⟩
 obtain⟨a1,a2⟩:=uT h hk L1;refine Q5 (gC a6P (gC kM (gC a0K (gC cL (gC kZ gN))))) Tryz.func182 Y5 (α:=let pc:=(false=true->False);let q:=(E9 e k ta r gone);∃(x:(Eng×Nat×Int×Int×Int)),let pg:=x.2.2.2;let u:=(T3 x.1 x.2.1 x.2.2.1 pg.1 pg.2);(((R8 e x.1)/\(k:Int)=(x.2.1:Int)/\ta=x.2.2.1/\(-1:Int)=pg.1/\2=pg.2/\True)/\EI x.1/\x.2.1<x.1.X.length/\LokR x.2.2.1 pg.1 pg.2)/\((u.2 !=0)=true->(R8 u.1 q.1)/\u.2=q.2/\True)/\((u.2 !=0)=false->∃(x_1:(Eng×Nat×Int×Int×Int)),let pd:=x_1.2.2;let z:=(T3 x_1.1 x_1.2.1 pd.1 pd.2.1 pd.2.2);(((R8 u.1 x_1.1)/\(k:Int)=(x_1.2.1:Int)/\ta=pd.1/\r.id=pd.2.1/\4=pd.2.2/\True)/\EI x_1.1/\x_1.2.1<x_1.1.X.length/\LokR pd.1 pd.2.1 pd.2.2)/\((z.2 !=0)=true->(R8 z.1 q.1)/\z.2=q.2/\True)/\((z.2 !=0)=false->V3 (k:Int) z.1.X.length/\∃(x:(Eng×Int×Int×Int)),let p:=(yS x.1 x.2.1 x.2.2.1 x.2.2.2);let g:=(gone=true->(R8 p.val.fst q.1)/\5=q.2/\True);let v:=p.val.snd;let f:=(decide (v.c<0)=true->(R8 p.val.fst q.1)/\12=q.2/\True);(((R8 z.1 x.1)/\(z.1.X.getD (k:Int).toNat dz).id=x.2.1/\ta=x.2.2.1/\r.id=x.2.2.2/\True)/\EI x.1)/\pc/\(false=false->∃(x_2:(Int×Rw)),let ph:=x_2.2;((ta=x_2.1/\(r.id=ph.id/\r.n.k=ph.n.k/\r.n.n=ph.n.n/\r.n.t=ph.n.t/\r.name.k=ph.name.k/\r.name.n=ph.name.n/\r.name.t=ph.name.t/\True)/\True)/\RwK ph/\1<=x_2.1/\x_2.1<=(3:Int))/\(gone=true->V3 (0:Int) 4/\(decide (v.a<0)=true->g/\(gone=false->V3 (2:Int) 4/\f/\(decide (v.c<0)=false->V3 (2:Int) 4/\V3 (3:Int) 4/\∃(x_3:(Eng×Nat×Int×Int×List UInt8×List UInt8)),let y:=x_3.2.2;let i:=(G2 x_3.1 x_3.2.1 y.1 y.2.1 y.2.2.1 y.2.2.2);(((R8 p.val.fst x_3.1)/\(k:Int)=(x_3.2.1:Int)/\v.c=y.1/\v.d=y.2.1/\[]=y.2.2.1/\[]=y.2.2.2/\True)/\EI x_3.1/\x_3.2.1<x_3.1.X.length/\(0<=y.1/\y.1<=(7:Int))/\(0<=y.2.1/\y.2.1<=(3:Int))/\y.2.2.1.length<=30/\y.2.2.2.length<=30)/\(R8 i.1 q.1)/\i.2=q.2/\True)))/\(decide (v.a<0)=false->V3 (0:Int) 4/\V3 (1:Int) 4/\∃(x_3:(Eng×Nat×Nat)),let pe:=(stH x_3.1 x_3.2.1 x_3.2.2);(((R8 p.val.fst x_3.1)/\v.a=(x_3.2.1:Int)/\v.b=(x_3.2.2:Int)/\True)/\EI x_3.1/\x_3.2.1<8/\x_3.2.2<4)/\pc/\(false=false->V3 (0:Int) 4/\V3 (1:Int) 4/\∃(x_4:(Eng×Nat×Int×Int×List UInt8×List UInt8)),let w:=x_4.2.2;let l:=(G2 x_4.1 x_4.2.1 w.1 w.2.1 w.2.2.1 w.2.2.2);(((R8 pe.val.fst x_4.1)/\(k:Int)=(x_4.2.1:Int)/\v.a=w.1/\v.b=w.2.1/\pe.val.snd=w.2.2.1/\[]=w.2.2.2/\True)/\EI x_4.1/\x_4.2.1<x_4.1.X.length/\(0<=w.1/\w.1<=(7:Int))/\(0<=w.2.1/\w.2.1<=(3:Int))/\w.2.2.1.length<=30/\w.2.2.2.length<=30)/\(R8 l.1 q.1)/\l.2=q.2/\True)))/\(gone=false->V3 (0:Int) 4/\(decide (v.a<0)=true->g/\(gone=false->V3 (2:Int) 4/\f/\(decide (v.c<0)=false->V3 (2:Int) 4/\V3 (3:Int) 4/\∃(x_3:(Eng×Nat×Int×Int×List UInt8×List UInt8)),let j:=x_3.2.2;let pa:=(G2 x_3.1 x_3.2.1 j.1 j.2.1 j.2.2.1 j.2.2.2);(((R8 p.val.fst x_3.1)/\(k:Int)=(x_3.2.1:Int)/\v.c=j.1/\v.d=j.2.1/\[]=j.2.2.1/\mN x_2.1 ph=j.2.2.2/\True)/\EI x_3.1/\x_3.2.1<x_3.1.X.length/\(0<=j.1/\j.1<=(7:Int))/\(0<=j.2.1/\j.2.1<=(3:Int))/\j.2.2.1.length<=30/\j.2.2.2.length<=30)/\(R8 pa.1 q.1)/\pa.2=q.2/\True)))/\(decide (v.a<0)=false->V3 (0:Int) 4/\V3 (1:Int) 4/\∃(x_3:(Eng×Nat×Nat)),let pf:=(stH x_3.1 x_3.2.1 x_3.2.2);(((R8 p.val.fst x_3.1)/\v.a=(x_3.2.1:Int)/\v.b=(x_3.2.2:Int)/\True)/\EI x_3.1/\x_3.2.1<8/\x_3.2.2<4)/\pc/\(false=false->V3 (0:Int) 4/\V3 (1:Int) 4/\∃(x_4:(Eng×Nat×Int×Int×List UInt8×List UInt8)),let m:=x_4.2.2;let pb:=(G2 x_4.1 x_4.2.1 m.1 m.2.1 m.2.2.1 m.2.2.2);(((R8 pf.val.fst x_4.1)/\(k:Int)=(x_4.2.1:Int)/\v.a=m.1/\v.b=m.2.1/\pf.val.snd=m.2.2.1/\mN x_2.1 ph=m.2.2.2/\True)/\EI x_4.1/\x_4.2.1<x_4.1.X.length/\(0<=m.1/\m.1<=(7:Int))/\(0<=m.2.1/\m.2.1<=(3:Int))/\m.2.2.1.length<=30/\m.2.2.2.length<=30)/\(R8 pb.1 q.1)/\pb.2=q.2/\True))))))) ⟨(e,k,ta,-1,2),⟨⟨R4 _,rfl,rfl,rfl,Z9⟩,h,hk,L1⟩,λhq=> ?_,λhq=> ?_⟩
 ·rw[c0S (a9W hq)];exact⟨R4 (T3 e k ta (-1) 2).1,Z9⟩
 have ea:=a2 (gV hq);have hk1:k<(sK e k ta (-1) 2).X.length:=hk;dsimp only;rw[ea] at a1 ⊢;generalize sK e k ta (-1) 2=e1 at*;dsimp only at a1 ⊢;obtain⟨b1,b2⟩:=uT a1 hk1 L2;refine⟨(e1,k,ta,r.id,4),⟨⟨R4 _,rfl,rfl,rfl,Z9⟩,a1,hk1,L2⟩,λhq=> ?_,λhq=> ?_⟩
 ·rw[c1N ea (a9W hq)];exact⟨R4 (T3 e1 k ta r.id 4).1,Z9⟩
 have eb:=b2 (gV hq);have hk2:k<(sK e1 k ta r.id 4).X.length:=hk1;dsimp only;rw[c0Z ea eb];rw[eb] at b1 ⊢;generalize sK e1 k ta r.id 4=e2 at*;dsimp only at b1 ⊢;obtain⟨g1,g2,_,g4⟩:=lV b1.g (e2.X.getD k dz).id ta r.id 8 (W4 _);have eF:=(yS e2 (e2.X.getD k dz).id ta r.id).2;refine⟨X8 hk2,(e2,(e2.X.getD k dz).id,ta,r.id),⟨⟨R4 _,rfl,rfl,Z9⟩,b1⟩,λhf=>(by cases hf),λ_=>⟨(ta,r),⟨⟨rfl,⟨rfl,rfl,rfl,rfl,rfl,rfl,Z9⟩,trivial⟩,hr,ht.1,ht.2⟩,?_⟩⟩
 dsimp only;have hS:=a0E b1 g1 g2;have hsl:=aS (e:=e2) (A:=(I5 e2 (e2.X.getD k dz).id ta r.id 8).2.1) g1;have hE:a4W e2 k ta r.id=I5 e2 (e2.X.getD k dz).id ta r.id 8:=rfl;rw[eF,hE];clear eF;dsimp only;generalize I5 e2 (e2.X.getD k dz).id ta r.id 8=f at*;have hn:¬f.2.1.a<0->(f.2.1.a.toNat:Int)=f.2.1.a/\(f.2.1.b.toNat:Int)=f.2.1.b/\EI (K2 e2 f.1)/\f.2.1.a.toNat<8/\f.2.1.b.toNat<4/\EI (K2 e2 (oT e2 f.2.1 f.1).1)/\(0<=f.2.1.a/\f.2.1.a<=7)/\(0<=f.2.1.b/\f.2.1.b<=3)/\(oT e2 f.2.1 f.1).2.length<=30:=λha=>by
  have hA:=g4.1.resolve_left (by omega)
  obtain⟨s1,s2,s3,_⟩:=hsl hA;exact⟨by omega,by omega,hS,by omega,by omega,a0E b1 s1 (s2.trans g2),by omega,by omega,s3⟩
 have eS:=((stH (K2 e2 f.1) f.2.1.a.toNat f.2.1.b.toNat).2).trans (b7w e2 f.1 f.2.1);have hd:decide (f.2.1.a<0)=false->¬f.2.1.a<0:=l7;refine⟨λhg=> ?_,λhg=> ?_⟩<;>subst hg
 ·refine⟨⟨by omega,by omega⟩,λha=>⟨λ_=> ?_,λhc=>by cases hc⟩,λha=> ?_⟩
  ·rw[b8X (C7 ha)];exact⟨R4 (K2 e2 f.1),Z9⟩
  ·obtain⟨n1,n2,n3,n4,n5,n6,n7,n8,n9⟩:=hn (hd ha);rw[b1p (hd ha)];refine⟨⟨by omega,by omega⟩,⟨by omega,by omega⟩,(K2 e2 f.1,f.2.1.a.toNat,f.2.1.b.toNat),⟨⟨R4 (K2 e2 f.1),n1.symm,n2.symm,trivial⟩,n3,n4,n5⟩,λhf=>(by cases hf),λ_=> ?_⟩
   dsimp only;rw[eS];exact⟨⟨by omega,by omega⟩,⟨by omega,by omega⟩,(K2 e2 (oT e2 f.2.1 f.1).1,k,f.2.1.a,f.2.1.b,(oT e2 f.2.1 f.1).2,[]),⟨⟨R4 (K2 e2 (oT e2 f.2.1 f.1).1),rfl,rfl,rfl,rfl,Z9⟩,n6,hk2,n7,n8,n9,S7 _⟩,R4 (G2 (K2 e2 (oT e2 f.2.1 f.1).1) k f.2.1.a f.2.1.b (oT e2 f.2.1 f.1).2 []).1,Z9⟩
 ·refine⟨⟨by omega,by omega⟩,λha=>⟨λhc=>(by cases hc),λ_=>⟨⟨by omega,by omega⟩,λhc=> ?_,λhc=> ?_⟩⟩,λha=> ?_⟩
  ·rw[b7P (C7 ha) (C7 hc)];exact⟨R4 (K2 e2 f.1),Z9⟩
  ·have hc:=l7 hc;have hC:=g4.2.resolve_left (by omega)
   rw[b9d (C7 ha) hc];exact⟨⟨by omega,by omega⟩,⟨by omega,by omega⟩,(K2 e2 f.1,k,f.2.1.c,f.2.1.d,[],mN ta r),⟨⟨R4 (K2 e2 f.1),rfl,rfl,rfl,rfl,Z9⟩,hS,hk2,by dsimp only;omega,by dsimp only;omega,S7 _,hb⟩,R4 (G2 (K2 e2 f.1) k f.2.1.c f.2.1.d [] (mN ta r)).1,rfl,trivial⟩
  ·obtain⟨n1,n2,n3,n4,n5,n6,n7,n8,n9⟩:=hn (hd ha);rw[b1p (hd ha)];refine⟨⟨by omega,by omega⟩,⟨by omega,by omega⟩,(K2 e2 f.1,f.2.1.a.toNat,f.2.1.b.toNat),⟨⟨R4 (K2 e2 f.1),n1.symm,n2.symm,trivial⟩,n3,n4,n5⟩,λhf=>(by cases hf),λ_=> ?_⟩
   dsimp only;rw[eS];exact⟨⟨by omega,by omega⟩,⟨by omega,by omega⟩,(K2 e2 (oT e2 f.2.1 f.1).1,k,f.2.1.a,f.2.1.b,(oT e2 f.2.1 f.1).2,mN ta r),⟨⟨R4 (K2 e2 (oT e2 f.2.1 f.1).1),rfl,rfl,rfl,rfl,Z9⟩,n6,hk2,n7,n8,n9,hb⟩,R4 (G2 (K2 e2 (oT e2 f.2.1 f.1).1) k f.2.1.a f.2.1.b (oT e2 f.2.1 f.1).2 (mN ta r)).1,Z9⟩
def b8m(e:Eng)(ta:Int)(r:Rw):Prop:=EI e/\(1<=ta/\ta<=3)/\RwK r/\(mN ta r).length<=30
noncomputable def b1J:Con:=.rel ⟨Eng×Int×Int×Rw,λx=>[.agg x.1.ts,.int .i64 x.2.1,.int .i64 x.2.2.1,.agg x.2.2.2.ts],λx=>.tup [.agg (qK x.1 x.2.1 x.2.2.1 x.2.2.2).1.ts,.int .i64 (qK x.1 x.2.1 x.2.2.1 x.2.2.2).2],λx=>b8m x.1 x.2.2.1 x.2.2.2⟩
theorem c0l{e:Eng}{tx ta:Int}{r:Rw}(h:¬ (V4 e tx).2=0):qK e tx ta r=(e,(V4 e tx).2):=if_neg h
theorem c1P{e:Eng}{tx ta:Int}{r:Rw}(h:(V4 e tx).2=0):qK e tx ta r=E9 e (V4 e tx).1.toNat ta r false:=if_pos h
theorem a8M:GK 86 b1J:=gk Tryz.func86<|by
 rintro⟨e,tx,ta,r⟩ ⟨h,ht,hr,hb⟩;dsimp only at h ht hr hb;have h10:=h.h.t10;refine Q5 (gC y6 (gC nT gN)) Tryz.func86 Y5 (α:=let q:=(qK e tx ta r);∃(x:(Eng×Int)),let u:=(V4 x.1 x.2);(((R8 e x.1)/\tx=x.2/\True)/\O6 x.1.X.length)/\((u.2 !=0)=true->(R8 e q.1)/\u.2=q.2/\True)/\((u.2 !=0)=false->∃(x_1:(Eng×Nat×Int×Rw×Bool)),let p:=x_1.2.2;let v:=p.2.1;let z:=(E9 x_1.1 x_1.2.1 p.1 p.2.1 p.2.2);(((R8 e x_1.1)/\u.1=(x_1.2.1:Int)/\ta=p.1/\(r.id=v.id/\r.n.k=v.n.k/\r.n.n=v.n.n/\r.n.t=v.n.t/\r.name.k=v.name.k/\r.name.n=v.name.n/\r.name.t=v.name.t/\True)/\false=p.2.2/\True)/\EI x_1.1/\x_1.2.1<x_1.1.X.length/\(1<=p.1/\p.1<=(3:Int))/\RwK v/\(mN p.1 v).length<=30)/\(R8 z.1 q.1)/\z.2=q.2/\True)) ⟨(e,tx),⟨⟨R4 _,Z9⟩,by unfold O6;dsimp only;omega⟩,λhq=> ?_,λhq=> ?_⟩
 ·rw[c0l (a9W hq)];exact⟨R4 _,Z9⟩
 ·obtain⟨hu,k,e1,hk,_,_⟩:=x4 (gV hq);rw[c1P (gV hq),e1,F5];exact⟨(e,k,ta,r,false),⟨⟨R4 _,rfl,rfl,⟨rfl,rfl,rfl,rfl,rfl,rfl,Z9⟩,Z9⟩,h,hk,ht,hr,hb⟩,R4 (E9 e k ta r false).1,Z9⟩
noncomputable def a79:Con:=.rel ⟨Eng×Int×Int×Int,λx=>[.agg x.1.ts,.int .i64 x.2.1,.int .i64 x.2.2.1,.int .i64 x.2.2.2],λx=>.tup [.agg (rC x.1 x.2.1 x.2.2.1 x.2.2.2).1.ts,.int .i64 (rC x.1 x.2.1 x.2.2.1 x.2.2.2).2],λx=>EI x.1/\(1<=x.2.2.1/\x.2.2.1<=3)/\0<=x.2.2.2/\x.2.2.2<=1000⟩
def b1n(id:Int):Rw:=⟨id,⟨0,0,[]⟩,⟨0,0,[]⟩⟩
theorem c1n{e:Eng}{tx ta id:Int}(h:¬ (V4 e tx).2=0):rC e tx ta id=(e,(V4 e tx).2):=if_neg h
theorem c0J{e:Eng}{tx ta id:Int}(h:(V4 e tx).2=0):rC e tx ta id=E9 e (V4 e tx).1.toNat ta (b1n id) true:=if_pos h
theorem a5I:GK 194 a79:=gk Tryz.func194<|by
 rintro⟨e,tx,ta,id⟩ ⟨h,ht,hi⟩;dsimp only at h ht hi;have h10:=h.h.t10;have hr:RwK (b1n id):=⟨⟨S7 _,.inl rfl⟩,⟨S7 _,.inl rfl⟩,hi⟩;have hb:(mN ta (b1n id)).length<=30:=by
  unfold mN j5;simp only[K6];exact v6 rfl
 refine Q5 (gC y6 (gC nT gN)) Tryz.func194 Y5 (α:=let q:=(rC e tx ta id);∃(x:(Eng×Int)),let z:=(V4 x.1 x.2);(((R8 e x.1)/\tx=x.2/\True)/\O6 x.1.X.length)/\((z.2 !=0)=true->(R8 e q.1)/\z.2=q.2/\True)/\((z.2 !=0)=false->∃(x_1:(Eng×Nat×Int×Rw×Bool)),let p:=x_1.2.2;let u:=p.2.1;let r:=(E9 x_1.1 x_1.2.1 p.1 p.2.1 p.2.2);(((R8 e x_1.1)/\z.1=(x_1.2.1:Int)/\ta=p.1/\(id=u.id/\0=u.n.k/\0=u.n.n/\[]=u.n.t/\0=u.name.k/\0=u.name.n/\[]=u.name.t/\True)/\true=p.2.2/\True)/\EI x_1.1/\x_1.2.1<x_1.1.X.length/\(1<=p.1/\p.1<=(3:Int))/\RwK u/\(mN p.1 u).length<=30)/\(R8 r.1 q.1)/\r.2=q.2/\True)) ⟨(e,tx),⟨⟨R4 _,Z9⟩,by unfold O6;dsimp only;omega⟩,λhq=> ?_,λhq=> ?_⟩
 ·rw[c1n (a9W hq)];exact⟨R4 _,Z9⟩
 ·obtain⟨hu,k,e1,hk,_,_⟩:=x4 (gV hq);rw[c0J (gV hq),e1,F5];exact⟨(e,k,ta,b1n id,true),⟨⟨R4 _,rfl,rfl,⟨rfl,rfl,rfl,rfl,rfl,rfl,Z9⟩,Z9⟩,h,hk,ht,hr,hb⟩,R4 (E9 e k ta (b1n id) true).1,Z9⟩
noncomputable def b0S:Con:=.rel ⟨Eng×Int×Int×Int,λx=>[.agg x.1.ts,.int .i64 x.2.1,.int .i64 x.2.2.1,.int .i64 x.2.2.2],λx=>.tup [.agg (Q4 x.1 x.2.1 x.2.2.1 x.2.2.2).1.ts,.agg (Q4 x.1 x.2.1 x.2.2.1 x.2.2.2).2.1.ts,.int .i64 (Q4 x.1 x.2.1 x.2.2.1 x.2.2.2).2.2],λx=>EI x.1/\(1<=x.2.2.1/\x.2.2.1<=3)/\0<=x.2.2.2/\x.2.2.2<=1000⟩
theorem c1q{e:Eng}{tx ta id:Int}(h:¬ (V4 e tx).2=0):Q4 e tx ta id=(e,rw0,(V4 e tx).2):=if_neg h
theorem c0j{e:Eng}{tx ta id:Int}{k:Nat}(h:(V4 e tx).2=0)(h1:(V4 e tx).1=k):Q4 e tx ta id=gtK e k ta id:=by
 unfold Q4;rw[if_pos h,h1,F5]
theorem c15{e:Eng}{k:Nat}{ta id:Int}(h:¬ (T3 e k ta (-1) 1).2=0):gtK e k ta id=((T3 e k ta (-1) 1).1,rw0,(T3 e k ta (-1) 1).2):=if_neg h
theorem c1R{e e1:Eng}{k:Nat}{ta id:Int}(h:T3 e k ta (-1) 1=(e1,0))(h2:¬ (T3 e1 k ta id 3).2=0):gtK e k ta id=((T3 e1 k ta id 3).1,rw0,(T3 e1 k ta id 3).2):=by
 unfold gtK;rw[h,if_pos rfl,if_neg h2]
theorem c1W{e e1 e2:Eng}{k:Nat}{ta id:Int}(h:T3 e k ta (-1) 1=(e1,0))(h2:T3 e1 k ta id 3=(e2,0)):gtK e k ta id=gtF e2 (a4W e2 k ta id):=by
 unfold gtK;rw[h,if_pos rfl,h2,if_pos rfl]
theorem c1w{e:Eng}{f:Sto×Plc×Bool}(ha:f.2.1.a<0):gtF e f=(K2 e f.1,rw0,5):=if_pos ha
theorem c0v{e:Eng}{f:Sto×Plc×Bool}(ha:¬f.2.1.a<0):gtF e f=(K2 e (oT e f.2.1 f.1).1,(m4 (oT e f.2.1 f.1).2).2.1,0):=if_neg ha
theorem a8V:GK 195 b0S:=gk Tryz.func195<|by
 rintro⟨e,tx,ta,id⟩ ⟨h,ht,hi⟩;dsimp only at h ht hi;have h10:=h.h.t10;have L1:LokR ta (-1) 1:=⟨ht,by decide,by decide,by decide⟩
 have L2:LokR ta id 3:=⟨ht,by omega,by decide,.inr (by decide)⟩
 refine Q5 (gC y6 (gC a6P (gC kM (gC kZ (gC lA gN))))) Tryz.func195 Y5 (α:=let w:=(false=true->False);let q:=(Q4 e tx ta id);let m:=q.2.1.n;let y:=q.2.1.name;let p:=(0=q.2.1.id/\0=m.k/\0=m.n/\[]=m.t/\0=y.k/\0=y.n/\[]=y.t/\True);∃(x:(Eng×Int)),let j:=(V4 x.1 x.2);(((R8 e x.1)/\tx=x.2/\True)/\O6 x.1.X.length)/\((j.2 !=0)=true->(R8 e q.1)/\p/\j.2=q.2.2/\True)/\((j.2 !=0)=false->∃(x_1:(Eng×Nat×Int×Int×Int)),let f:=x_1.2.2;let r:=(T3 x_1.1 x_1.2.1 f.1 f.2.1 f.2.2);(((R8 e x_1.1)/\j.1=(x_1.2.1:Int)/\ta=f.1/\(-1:Int)=f.2.1/\1=f.2.2/\True)/\EI x_1.1/\x_1.2.1<x_1.1.X.length/\LokR f.1 f.2.1 f.2.2)/\((r.2==0)=true->∃(x_2:(Eng×Nat×Int×Int×Int)),let g:=x_2.2.2;let z:=(T3 x_2.1 x_2.2.1 g.1 g.2.1 g.2.2);(((R8 r.1 x_2.1)/\j.1=(x_2.2.1:Int)/\ta=g.1/\id=g.2.1/\3=g.2.2/\True)/\EI x_2.1/\x_2.2.1<x_2.1.X.length/\LokR g.1 g.2.1 g.2.2)/\((z.2 !=0)=true->(R8 z.1 q.1)/\p/\z.2=q.2.2/\True)/\((z.2 !=0)=false->∃(x:(Eng×Int×Int×Int)),let u:=(yS x.1 x.2.1 x.2.2.1 x.2.2.2);let i:=u.val.snd;(((R8 z.1 x.1)/\tx=x.2.1/\ta=x.2.2.1/\id=x.2.2.2/\True)/\EI x.1)/\w/\(false=false->V3 (0:Int) 4/\(decide (i.a<0)=true->(R8 u.val.fst q.1)/\p/\5=q.2.2/\True)/\(decide (i.a<0)=false->V3 (0:Int) 4/\V3 (1:Int) 4/\∃(x_3:(Eng×Nat×Nat)),let c:=(stH x_3.1 x_3.2.1 x_3.2.2);(((R8 u.val.fst x_3.1)/\i.a=(x_3.2.1:Int)/\i.b=(x_3.2.2:Int)/\True)/\EI x_3.1/\x_3.2.1<8/\x_3.2.2<4)/\w/\(false=false->∃(x:(List UInt8)),((c.val.snd=x/\True)/\a0S x)/\(R8 c.val.fst q.1)/\((m4 x).2.1.id=q.2.1.id/\(m4 x).2.1.n.k=m.k/\(m4 x).2.1.n.n=m.n/\(m4 x).2.1.n.t=m.t/\(m4 x).2.1.name.k=y.k/\(m4 x).2.1.name.n=y.n/\(m4 x).2.1.name.t=y.t/\True)/\0=q.2.2/\True)))))/\((r.2==0)=false->((r.2 !=0)=true->(R8 r.1 q.1)/\p/\r.2=q.2.2/\True)/\((r.2 !=0)=false->∃(x:(Eng×Int×Int×Int)),let v:=(yS x.1 x.2.1 x.2.2.1 x.2.2.2);let l:=v.val.snd;(((R8 r.1 x.1)/\tx=x.2.1/\ta=x.2.2.1/\id=x.2.2.2/\True)/\EI x.1)/\w/\(false=false->V3 (0:Int) 4/\(decide (l.a<0)=true->(R8 v.val.fst q.1)/\p/\5=q.2.2/\True)/\(decide (l.a<0)=false->V3 (0:Int) 4/\V3 (1:Int) 4/\∃(x_2:(Eng×Nat×Nat)),let d:=(stH x_2.1 x_2.2.1 x_2.2.2);(((R8 v.val.fst x_2.1)/\l.a=(x_2.2.1:Int)/\l.b=(x_2.2.2:Int)/\True)/\EI x_2.1/\x_2.2.1<8/\x_2.2.2<4)/\w/\(false=false->∃(x:(List UInt8)),((d.val.snd=x/\True)/\a0S x)/\(R8 d.val.fst q.1)/\((m4 x).2.1.id=q.2.1.id/\(m4 x).2.1.n.k=m.k/\(m4 x).2.1.n.n=m.n/\(m4 x).2.1.n.t=m.t/\(m4 x).2.1.name.k=y.k/\(m4 x).2.1.name.n=y.n/\(m4 x).2.1.name.t=y.t/\True)/\0=q.2.2/\True))))))) ⟨(e,tx),⟨⟨R4 _,Z9⟩,by unfold O6;dsimp only;omega⟩,λhq=> ?_,λhq=> ?_⟩
 ·rw[c1q (a9W hq)];exact⟨R4 _,⟨rfl,rfl,rfl,rfl,rfl,rfl,Z9⟩,Z9⟩
 obtain⟨hu,k,e0,hk,hx,_⟩:=x4 (gV hq);rw[c0j (gV hq) e0];dsimp only;rw[e0];obtain⟨a1,a2⟩:=uT h hk L1;refine⟨(e,k,ta,-1,1),⟨⟨R4 _,rfl,rfl,rfl,Z9⟩,h,hk,L1⟩,λhq=> ?_,λhq=>⟨λ_=> ?_,λhn=> ?_⟩⟩
 ·have hq:(T3 e k ta (-1) 1).2=0:=beq_iff_eq.1 hq;have ea:=a2 hq;have hk1:k<(sK e k ta (-1) 1).X.length:=hk;have hx1:((sK e k ta (-1) 1).X.getD k dz).id=tx:=hx;dsimp only;rw[ea] at a1 ⊢;generalize sK e k ta (-1) 1=e1 at*;dsimp only at a1 ⊢;obtain⟨b1,b2⟩:=uT a1 hk1 L2;refine⟨(e1,k,ta,id,3),⟨⟨R4 _,rfl,rfl,rfl,Z9⟩,a1,hk1,L2⟩,λhq=> ?_,λhq=> ?_⟩
  ·rw[c1R ea (a9W hq)];exact⟨R4 (T3 e1 k ta id 3).1,⟨rfl,rfl,rfl,rfl,rfl,rfl,Z9⟩,Z9⟩
  have eb:=b2 (gV hq);have hx2:((sK e1 k ta id 3).X.getD k dz).id=tx:=hx1;dsimp only;rw[c1W ea eb];rw[eb] at b1 ⊢;generalize sK e1 k ta id 3=e2 at*;dsimp only at b1 ⊢;obtain⟨g1,g2,_,g4⟩:=lV b1.g tx ta id 8 (W4 _);have eF:=(yS e2 tx ta id).2;refine⟨(e2,tx,ta,id),⟨⟨R4 _,rfl,rfl,Z9⟩,b1⟩,λhf=>(by cases hf),λ_=> ?_⟩
  dsimp only;have hS:=a0E b1 g1 g2;have hsl:=aS (e:=e2) (A:=(I5 e2 tx ta id 8).2.1) g1;have hE:a4W e2 k ta id=I5 e2 tx ta id 8:=by unfold a4W;rw[hx2]
  rw[eF,hE];clear eF;dsimp only;generalize I5 e2 tx ta id 8=f at*;have eS:=((stH (K2 e2 f.1) f.2.1.a.toNat f.2.1.b.toNat).2).trans (b7w e2 f.1 f.2.1);refine⟨⟨by omega,by omega⟩,λha=> ?_,λha=> ?_⟩
  ·rw[c1w (C7 ha)];exact⟨R4 (K2 e2 f.1),⟨rfl,rfl,rfl,rfl,rfl,rfl,Z9⟩,Z9⟩
  ·have ha:=l7 ha;have hA:=g4.1.resolve_left (by omega)
   obtain⟨s1,s2,s3,_⟩:=hsl hA;rw[c0v ha];refine⟨⟨by omega,by omega⟩,⟨by omega,by omega⟩,(K2 e2 f.1,f.2.1.a.toNat,f.2.1.b.toNat),⟨⟨R4 (K2 e2 f.1),by dsimp only;omega,by dsimp only;omega,trivial⟩,hS,by dsimp only;omega,by dsimp only;omega⟩,λhf=>(by cases hf),λ_=> ?_⟩
   dsimp only;rw[eS];exact⟨(oT e2 f.2.1 f.1).2,⟨Z9,by show _<=1000000000;omega⟩,R4 (K2 e2 (oT e2 f.2.1 f.1).1),⟨rfl,rfl,rfl,rfl,rfl,rfl,rfl,trivial⟩,rfl,trivial⟩
 ·have hq:¬ (T3 e k ta (-1) 1).2=0:=λe1=>by
   have hq:((T3 e k ta (-1) 1).2==0)=false:=hq;rw[e1] at hq;cases hq
  rw[c15 hq];exact⟨R4 (T3 e k ta (-1) 1).1,⟨rfl,rfl,rfl,rfl,rfl,rfl,Z9⟩,Z9⟩
 ·have hn:(T3 e k ta (-1) 1).2=0:=gV hn;have hq:((T3 e k ta (-1) 1).2==0)=false:=hq;rw[hn] at hq;cases hq
end Go.Proofs.YtghgljelnhfihaaGreat

