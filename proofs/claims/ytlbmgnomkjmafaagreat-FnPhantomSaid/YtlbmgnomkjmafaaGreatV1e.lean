/- A part of the proof. -/
import Derived.Test.YtlbmgnomkjmafaaGreatU1
import Derived.Test.YtlbmgnomkjmafaaGreatX1
namespace Go.Proofs.YtlbmgnomkjmafaaGreat
set_option maxRecDepth 100000
open Go.SS Go.Proofs.Tryz
noncomputable section
def Q1(L:List Val)(i:Nat):List T:=(L.getD i dz).ts
def b2I(L:List Val):T:=.sl 3 L.length (Q1 L)
def isZ(l:Bz)(i:Nat):Bool:=(0:Int)==((l.getD i 0).toNat:Int)
def wT(l:Bz):Int:=S9 l.length (isZ l)
def b15:Con:=.rel ⟨Bz,λl=>[.bys l,.int .u8 0],λl=>Ji (wT l),λl=>N6 l.length⟩
def b2P(l:Bz):Nat->Ann
 |0=>.one (V0 l.length (isZ l)) (λx=>⟨[(0,.bys l),(1,.int .u8 0),(7,Ji l.length),(8,Ji x.1)],[]⟩) (λx=>l.length-x.1) [] [] (λ_=>Y7)
 |_=>.none
theorem uH{a b:Int}(h:(a==b)=false):a≠b:=λe=>by rw[e] at h;simp at h
theorem a5W:GK 153 b15:=gk func153<|by
 intro(l:Bz) (hL:l.length<1000000000000);refine S2 gN func153 (b2P l) (α:=let p:=(l.length:Int);(∃(x:V0 l.length (isZ l)),(l=l/\(0:Int)=0/\p=p/\0=(x.1:Int)/\True)/\True)/\∀(x:V0 l.length (isZ l)),let q:=(x.1:Int);bd (q<p) (V6 q l.length/\br ((0:Int)==(↑(l.getD q.toNat (0:UInt8)).toNat:Int)) (q=wT l) (Ri (q+1)/\∃(y:V0 l.length (isZ l)),((l=l/\(0:Int)=0/\p=p/\q+1=(y.1:Int)/\True)/\True)/\Lt (l.length-y.1) (l.length-x.1))) ((-1:Int)=wT l)) ⟨⟨H5,Z8⟩,λx=>⟨λC=>?_,λC=>?_⟩⟩
 ·have h:=Y2 C;exact⟨Y1 h,λhp=>(P5 h hp x.2.2).symm,λhp=>⟨V8 h Z9,x.succ h hp,⟨⟨rfl,rfl,rfl,L3,Z6⟩,Z6⟩,V0.ext_lt h⟩⟩
 ·have e:=X7 C;exact(M2 λj J=>x.2.2 j (zH J e)).symm
def K9(l:Bz):Val×Bz×Bool:=
 if numR l-1=1 then(⟨1,be (T2 (l.drop 1) 4)-1000000000,[]⟩,R0 (l.drop 1) 4,big (l.drop 1) 4|| !R3 ⟨1,be (T2 (l.drop 1) 4)-1000000000,[]⟩)
 else if numR l-1=2 then
  if wT (l.drop 1)<0 then(⟨2,0,[]⟩,l.drop 1,true)
  else(⟨2,0,(l.drop 1).take (wT (l.drop 1)).toNat⟩,(l.drop 1).drop ((wT (l.drop 1)).toNat+1), !R3 ⟨2,0,(l.drop 1).take (wT (l.drop 1)).toNat⟩)
 else(⟨numR l-1,0,[]⟩,l.drop 1, !R3 ⟨numR l-1,0,[]⟩)
def oU(l:Bz):Prop:=l.length<=1000000000
def a8q:Rle:=⟨Bz,λ_=>[.ref 0 0 0],λl=>[rdr l false],λl=>.agg (K9 l).1.ts,λl=>[rdr (K9 l).2.1 (K9 l).2.2],λl=>l≠[]/\oU l⟩
def b9A:Con:=.reff a8q
theorem b4v:GK 86 b9A:=gk func86<|by
 rintro(l:Bz) ⟨h0,(hl:l.length<=1000000000)⟩;have N:=u9 l;have f:l.isEmpty=false:=by cases l with|nil=>exact absurd rfl h0|cons=>rfl
 have hd:(l.drop 1).length<=1000000000:=by rw[List.length_drop];omega
 have h:(T2 (l.drop 1) 4).length<=4:=by
  unfold T2;split
  ·rw[List.length_replicate];omega
  ·rw[List.length_take];omega
 refine vcE (gC gE (gC rU (gC a17 (gC a5W (gC lK gN))))) func86 Y7 (bs:=[true]) (α:=let j:=(K9 l).1.t;let w:=(K9 l).1.n;let y:=(K9 l).1.k;let u:=(K9 l).2.2;let z:=(K9 l).2.1;let q:=(numR l-1=y/\0=w/\[]=j/\True);let p:=(List.drop 1 l);Ri (numR l-1)/\br (numR l-1==1) (w2 (4:Int)/\∃(x:a4Y.ι),let r:=(↑(be x):Int);((T2 p 4=x/\True)/\oD x)/\Ri (r-1000000000)/\∃(X:G2.ι),((false||l.isEmpty||big p (4:Int))=false->((numR l-1=X.k/\r-1000000000=X.n/\[]=X.t/\True)/\True)/\dX X.t)/\(numR l-1=y/\r-1000000000=w/\[]=j/\True)/\(oo (R0 p 4=z/\(false||l.isEmpty||big p (4:Int)|| !R3 X)=u/\True))/\True) (br (numR l-1==2) (∃(x:(Bz)),let v:=(R0 p (wT x));((List.drop 1 l=x/\(0:Int)=0/\True)/\N6 (x.length))/\bd (wT x<0) (q/\(oo (List.drop 1 l=z/\true=u/\True))/\True) (w2 (wT x)/\w2 (1:Int)/\∃(X:G2.ι),((false||l.isEmpty||big p (wT x)||big v (1:Int))=false->((numR l-1=X.k/\0=X.n/\T2 p (wT x)=X.t/\True)/\True)/\dX X.t)/\(numR l-1=y/\0=w/\T2 p (wT x)=j/\True)/\(oo (R0 v 1=z/\(false||l.isEmpty||big p (wT x)||big v (1:Int)|| !R3 X)=u/\True))/\True)) (∃(x:G2.ι),((false||l.isEmpty)=false->((numR l-1=x.k/\0=x.n/\[]=x.t/\True)/\True)/\dX x.t)/\q/\(oo (List.drop 1 l=z/\(false||l.isEmpty|| !R3 x)=u/\True))/\True))) ⟨Z3 Z9,λhk=>⟨by unfold w2;omega,T2 (l.drop 1) 4,⟨Z8,h⟩,?_,⟨1,be (T2 (l.drop 1) 4)-1000000000,[]⟩,λ_=>⟨⟨⟨beq_iff_eq.1 hk,Z8⟩,Z6⟩,a8N⟩,?_⟩,λhk=>⟨λhk2=>⟨l.drop 1,⟨Z8,oS⟩,λhx=>?_,λhx=>?_⟩,λhk2=>?_⟩⟩
 ·have:=a3Z (T2 (l.drop 1) 4) h;have e:be (T2 (l.drop 1) 4)=o5 (T2 (l.drop 1) 4) (T2 (l.drop 1) 4).length:=rfl;exact Z3 Z9
 ·have hk:numR l-1=1:=beq_iff_eq.1 hk;unfold K9;rw[if_pos hk,f];exact⟨⟨hk,Z8⟩,Z8⟩
 ·have hk':numR l-1≠1:=uH hk;have hk2:numR l-1=2:=beq_iff_eq.1 hk2;have hx:wT (l.drop 1)<0:=D4 hx;unfold K9;rw[if_neg hk',if_pos hk2,if_pos hx];exact⟨⟨hk2,Z8⟩,Z8⟩
 ·have hk':numR l-1≠1:=uH hk;have hk2:numR l-1=2:=beq_iff_eq.1 hk2;have hx:¬wT (l.drop 1)<0:=q8 hx;obtain⟨i,hi,hz,_,hix⟩:=nN hx;have hix:wT (l.drop 1)=(i:Int):=hix;have b1:big (l.drop 1) (i:Int)=false:=by unfold big;rw[sX Z9]
  have g:T2 (l.drop 1) (i:Int)=(l.drop 1).take i:=by unfold T2;rw[b1];rfl
  have r:R0 (l.drop 1) (i:Int)=(l.drop 1).drop i:=by unfold R0;rw[b1];rfl
  have b2:big ((l.drop 1).drop i) 1=false:=by unfold big;rw[sX (by rw[List.length_drop];omega)]
  have R:R0 ((l.drop 1).drop i) 1=(l.drop 1).drop (i+1):=by
   unfold R0;rw[b2];show((l.drop 1).drop i).drop 1=_;rw[List.drop_drop]
  unfold K9;rw[if_neg hk',if_pos hk2,if_neg hx,hix,g,r,R,b1,b2,f];refine⟨⟨Z9,Z9⟩,by unfold w2;omega,⟨2,0,(l.drop 1).take i⟩,λ_=>⟨⟨⟨hk2,Z8⟩,Z6⟩,by unfold dX N6;rw[List.length_take];omega⟩,⟨hk2,rfl,rfl,Z6⟩,⟨rfl,rfl,rfl,rfl,Z6⟩,Z6⟩
 ·have hk':numR l-1≠1:=uH hk;have d:numR l-1≠2:=uH hk2;unfold K9;rw[if_neg hk',if_neg d,f];exact⟨⟨numR l-1,0,[]⟩,λ_=>⟨Z8,a8N⟩,Z8⟩
theorem a3d{l:Bz}(h:l≠[]):(K9 l).2.1.length<l.length:=by
 have hp:0<l.length:=List.length_pos_iff.2 h;have hd:(l.drop 1).length<l.length:=by rw[List.length_drop];omega
 have r:∀(m:Bz) (n:Int),(R0 m n).length<=m.length:=λm n=>by
  unfold R0;split
  ·omega
  ·rw[List.length_drop];omega
 unfold K9;split
 ·exact Nat.lt_of_le_of_lt (r _ _) hd
 ·split
  ·split
   ·exact hd
   ·show((l.drop 1).drop _).length<_;rw[List.length_drop];omega
  ·exact hd
def s5:Nat->Bz->Bool->List Val->List Val×Bool
 |0,_,f,acc=>(acc, !f)
 |n+1,l,f,acc=>if l=[]∨f=true then(acc, !f) else s5 n (K9 l).2.1 (K9 l).2.2 (acc++[(K9 l).1])
def P0(l:Bz):List Val×Bool:=s5 l.length l false []
def cH:Rl:=⟨Bz,λb=>[.bys b],λb=>.tup [b2I (P0 b).1,.bool (P0 b).2],oU⟩
def b2m:Con:=.rel cH
def a8W(b:Bz):Type:={x:Nat×Bz×Bool×List Val//s5 x.1 x.2.1 x.2.2.1 x.2.2.2=P0 b/\x.2.1.length<=x.1/\x.2.2.2.length+x.1<=b.length}
def b2s(b:Bz):Nat->Ann
 |0=>.one (a8W b) (λx=>⟨[(4,.ref 0 0 0),(5,.osl 1 0 x.1.2.2.2.length)],[rdr x.1.2.1 x.1.2.2.1,some (.arr true 0 3 x.1.2.2.2.length (Q1 x.1.2.2.2))]⟩) (λx=>x.1.1) b7u [.box 0,.arr 3] (λ_=>Y7)
 |_=>.none
theorem jI(L:List Val)(v:Val):Z7 (L.length+1) (X6 (Q1 L) L.length λk=>List.take 3 (List.drop (k*3) v.ts)) (Q1 (L++[v])):=by
 intro i hi;by_cases h:i<L.length
 ·rw[N8 h];simp[Q1,tT h]
 ·obtain rfl:i=L.length:=by omega
  rw[O0 (U9 _),j_h];simp[Q1,Val.ts]
theorem mV{n:Nat}{l:Bz}{acc:List Val}(h:l≠[])(N:l.length<=n):s5 n l false acc=s5 (n-1) (K9 l).2.1 (K9 l).2.2 (acc++[(K9 l).1]):=by
 have hp:0<l.length:=List.length_pos_iff.2 h;obtain⟨m,rfl⟩:∃m,n=m+1:=⟨n-1,Z9⟩
 conv=>lhs;unfold s5
 rw[if_neg eZ]
 rfl
theorem pJ{n:Nat}{l:Bz}{f:Bool}{acc:List Val}(h:l=[]∨f=true):s5 n l f acc=(acc, !f):=by
 cases n with
 |zero=>rfl
 |succ n=>unfold s5;rw[if_pos h]
theorem a7g:GK 42 b2m:=gk func42<|by
 intro(b:Bz) (hb:b.length<=1000000000);refine S2 (gC b4v gN) func42 (b2s b) (α:=let u:=(0=0/\0=0);(∃(x:a8W b),let r:=x.1.2.2;(u/\(0=0/\0=r.2.length)/\True)/\(oo (b=x.1.2.1/\false=r.1/\True))/\(0=r.2.length/\Z7 0 (tk 3 []) (Q1 r.2))/\True)/\∀(x:a8W b),let p:=x.1.2.2;let q:=p.2.length;br (decide ((x.1.2.1.length:Int)>0)&& ! p.1) (∃(X:a8q.ι),((u/\True)/\((1=1/\Z7 1 (λ(x_2:Nat)=>[T.bys x.1.2.1,T.bool p.1]) λ(x:Nat)=>[T.bys X,T.bool false])/\True)/\X≠[]/\oU X)/\(Le 1 1/\Le p.2.length q/\U8 p.2.length 1 32)/\∃(y:a8W b),let z:=y.1.2.2;((u/\(0=0/\q+1=z.2.length)/\True)/\(oo ((K9 X).2.1=y.1.2.1/\(K9 X).2.2=z.1/\True))/\(q+1=z.2.length/\Z7 (q+1) (X6 (Q1 p.2) p.2.length (tk 3 [Ji (K9 X).1.k,Ji (K9 X).1.n,T.str (K9 X).1.t])) (Q1 z.2))/\True)/\Lt y.1.1 x.1.1) (Le (0+q) q/\(Z2 Q1 p.2 (P0 b).1)/\(! p.1)=(P0 b).2/\True)) ⟨⟨⟨(b.length,b,false,[]),rfl,U9 _,by dsimp only[List.length_nil];omega⟩,⟨⟨rfl,rfl⟩,⟨rfl,rfl⟩,Z6⟩,⟨rfl,rfl,rfl,rfl,Z6⟩,⟨rfl,oW _ _⟩,Z6⟩,λx=>?_⟩
 obtain⟨⟨n,l,f,acc⟩,e,L,N⟩:=x;dsimp only at e L N ⊢;refine⟨λhc=>?_,λhc=>?_⟩
 ·simp only[M1,i5,xO] at hc;obtain⟨hp,rfl⟩:=hc;have h0:l≠[]:=λh=>by rw[h] at hp;simp at hp
  have hv:=a3d h0;rw[mV h0 L] at e;refine⟨l,⟨Z8,⟨⟨rfl,λi hi=>b4N⟩,Z6⟩,h0,by unfold oU;omega⟩,⟨U9 _,U9 _,Q5⟩,⟨(n-1,(K9 l).2.1,(K9 l).2.2,acc++[(K9 l).1]),e,X0,a0o⟩,⟨⟨Z8,⟨rfl,kZ⟩,Z6⟩,Z8,⟨kZ,jI _ _⟩,Z6⟩,show n-1<n by omega⟩
 ·have d:l=[]∨f=true:=by
   cases f with
   |true=>exact .inr rfl
   |false=>
    refine .inl (List.length_eq_zero_iff.1 ?_)
    have hc:(decide ((l.length:Int)>0)&& !false)=false:=hc;simp only[Bool.not_false,Bool.and_true,pT] at hc;omega
  rw[pJ d] at e;rw[←e];exact⟨K2,Z8⟩
def R7(t:Bz):List Val×Bool:=if(P0 t).2=true then P0 t else([],false)
def a2a:Con:=.rel ⟨Bz,λt=>[.str t],λt=>.tup [b2I (R7 t).1,.bool (R7 t).2],oU⟩
structure KSt where
 n:Nat
 at_:Nat
 acc:List Val
def a0g(t:Bz):Type:={x:KSt//s5 x.n (t.drop x.at_) false x.acc=P0 t/\x.at_<=t.length/\t.length-x.at_<=x.n/\x.acc.length+x.n<=t.length}
def NoZ(t:Bz)(a:Nat):Type:={k:Nat//a<=k/\k<=t.length/\∀j,a<=j->j<k->isZ t j=false}
def knd(t:Bz)(a:Nat):Int:=((t.getD a 0).toNat:Int)-1
def a1p(t:Bz):Nat->Ann
 |0=>.one (a0g t) (λx=>⟨[(0,.str t),(4,.osl 0 0 x.1.acc.length),(5,Ji x.1.at_)],[some (.arr true 0 3 x.1.acc.length (Q1 x.1.acc))]⟩) (λx=>t.length-x.1.at_) [.arr 0] [.arr 3] (λx=>fun
  |1=>.one (NoZ t (x.1.at_+1)) (λy=>⟨[(0,.str t),(4,.osl 0 0 x.1.acc.length),(5,Ji (x.1.at_+1:Nat)),(6,.ref 1 0 0),(7,Ji y.1)],[some (.arr true 0 3 x.1.acc.length (Q1 x.1.acc)),some (.arr true 1000000 3 1 λ_=>[Ji (knd t x.1.at_),Ji 0,.str []])]⟩) (λy=>t.length-y.1) eI eI (λ_=>Y7)
  |_=>.none)
 |_=>.none
theorem a2t{t:Bz}{n:Nat}{l:Bz}{acc:List Val}(h:s5 n l false acc=P0 t)(d:l≠[])(L:l.length<=n)(f:(K9 l).2.2=true):R7 t=([],false):=by
 rw[mV d L,f,pJ (.inr rfl)] at h;unfold R7;rw[←h];rfl
theorem iS{t:Bz}{n:Nat}{l:Bz}{acc:List Val}(h:s5 n l false acc=P0 t)(d:l≠[])(L:l.length<=n){v:Val}{r:Bz}(hv:K9 l=(v,r,false)):s5 (n-1) r false (acc++[v])=P0 t:=by
 rw[mV d L,hv] at h;exact h
theorem a2h{k n:Int}{s:Bz}(d:k≠0)(h:k≠1)(e:k≠2):R3 ⟨k,n,s⟩=false:=by
 unfold R3;dsimp only;rw[if_neg d,if_neg h,show(k==2)=false from beq_eq_false_iff_ne.2 e]
 rfl
theorem aO{t:Bz}(a i:Nat):(t.drop a).getD i 0=t.getD (a+i) 0:=by
 rw[Q2,Q2,List.getElem?_drop]
theorem iY(t:Bz)(a i:Nat):isZ (t.drop a) i=isZ t (a+i):=by unfold isZ;rw[aO]
theorem c4r(t:Bz)(k:Nat):(((t.getD k 0).toNat:Int) !=0)= !isZ t k:=by
 unfold isZ;rw[show(((t.getD k 0).toNat:Int) !=0)= !(((t.getD k 0).toNat:Int)==0) from rfl]
 congr 1
 rw[Bool.eq_iff_iff,beq_iff_eq,beq_iff_eq];exact eq_comm
theorem dN:GK 266 a2a:=gk func266<|by
 intro(t:Bz) (hb:t.length<=1000000000);refine S2 (gC lT (gC dZ gN)) func266 (a1p t) (α:=let m:=(t.length:Int);let q:=(Le 0 0/\(0=(R7 t).1.length/\Z7 0 (tk 3 []) (Q1 (R7 t).1))/\false=(R7 t).2/\True);(∃(x:a0g t),(t=t/\(0=0/\0=x.1.acc.length)/\0=(x.1.at_:Int)/\True)/\(0=x.1.acc.length/\Z7 0 (tk 3 []) (Q1 x.1.acc))/\True)/\∀(x:a0g t),let w:=x.1.acc;let l:=(Z2 Q1 x.1.acc w);let z:=x.1.at_;let i:=((z:Int)+1);let b:=(t.length-z);let f:=((z:Int)+1+4);let j:=(↑(z+1):Int);let r:=w.length;let u:=(Le 1 1/\Le w.length r/\U8 w.length 1 32);let p:=(↑(t.getD (z:Int).toNat (0:UInt8)).toNat:Int);let g:=(IntKind.i64.wrap p-1);bd ((z:Int)<m) (V6 (z:Int) t.length/\Ri g/\Ri i/\br (IntKind.i64.wrap p-1==0) (∃(X:G2.ι),(((IntKind.i64.wrap p-1=X.k/\0=X.n/\[]=X.t/\True)/\True)/\dX X.t)/\br (!R3 X) q (u/\∃(y:a0g t),((t=t/\(0=0/\r+1=y.1.acc.length)/\(z:Int)+1=(y.1.at_:Int)/\True)/\(r+1=y.1.acc.length/\Z7 (r+1) (X6 (Q1 w) w.length (tk 3 [Ji g,Ji 0,T.str []])) (Q1 y.1.acc))/\True)/\Lt (t.length-y.1.at_) b)) (br (IntKind.i64.wrap p-1==1) (Ri f/\bd ((z:Int)+1+4>m) q (Ri f/\b0s i f t.length/\∃(X:kA.ι),let a:=((↑(be X):Int)-1000000000);((List.drop i.toNat (List.take f.toNat t)=X/\True)/\oD X)/\Ri a/\Ri f/\∃(d:G2.ι),(((IntKind.i64.wrap p-1=d.k/\(↑(be X):Int)-1000000000=d.n/\[]=d.t/\True)/\True)/\dX d.t)/\br (!R3 d) q (u/\∃(y:a0g t),((t=t/\(0=0/\r+1=y.1.acc.length)/\(z:Int)+1+4=(y.1.at_:Int)/\True)/\(r+1=y.1.acc.length/\Z7 (r+1) (X6 (Q1 w) w.length (tk 3 [Ji g,Ji a,T.str []])) (Q1 y.1.acc))/\True)/\Lt (t.length-y.1.at_) b))) ((∃(X:NoZ t (x.1.at_+1)),(t=t/\(0=0/\r=r)/\(z:Int)+1=j/\(0=0/\0=0)/\(z:Int)+1=(X.val:Int)/\True)/\l/\(oo (IntKind.i64.wrap p-1=knd t z/\(0:Int)=0/\([]:Bz)=[]/\True))/\True)/\∀(X:NoZ t (x.1.at_+1)),let v:=(X.val:Int);let c:=(List.take v.toNat t);(decide (v<m)=true->V6 v t.length)/\br (decide (v<m)&&(↑(t.getD v.toNat (0:UInt8)).toNat:Int) !=0) (Ri (v+1)/\∃(y:NoZ t (x.1.at_+1)),((t=t/\(0=0/\r=r)/\j=j/\(0=0/\0=0)/\v+1=(y.1:Int)/\True)/\l/\(oo (knd t z=knd t z/\(0:Int)=0/\([]:Bz)=[]/\True))/\True)/\Lt (t.length-y.1) (t.length-X.val)) (br (v==m) q (b0s j v t.length/\Ri (v+1)/\∃(d:G2.ι),(((knd t z=d.k/\0=d.n/\List.drop j.toNat c=d.t/\True)/\True)/\dX d.t)/\br (!R3 d) q (u/\∃(y:a0g t),((t=t/\(0=0/\r+1=y.1.acc.length)/\v+1=(y.1.at_:Int)/\True)/\(r+1=y.1.acc.length/\Z7 (r+1) (X6 (Q1 w) w.length (tk 3 [Ji (knd t z),Ji 0,T.str (List.drop j.toNat c)])) (Q1 y.1.acc))/\True)/\Lt (t.length-y.1.at_) b)))))) (Le (0+r) r/\(Z2 Q1 x.1.acc (R7 t).1)/\true=(R7 t).2/\True)) ⟨⟨⟨⟨t.length,0,[]⟩,rfl,N7 _,U9 _,by dsimp only[List.length_nil];omega⟩,⟨rfl,⟨rfl,rfl⟩,rfl,Z6⟩,⟨rfl,oW _ _⟩,Z6⟩,λx=>?_⟩
 obtain⟨⟨n,a,acc⟩,he,C,o,N⟩:=x;dsimp only at he C o N ⊢;rw[E8,rV];have q:=zL t a;have L:(t.drop a).length<=n:=by rw[List.length_drop];exact o
 refine⟨λhc=>?_,λhc=>?_⟩
 ·have hlt:=Y2 hc;have h0:t.drop a≠[]:=λh=>by have:=congrArg List.length h;rw[List.length_drop,List.length_nil] at this;omega
  have i:numR (t.drop a)-1=((t.getD a 0).toNat:Int)-1:=by unfold numR;rw[aO];rfl
  have hd:(t.drop a).drop 1=t.drop (a+1):=by rw[List.drop_drop]
  have O:∀{P:Prop},(K9 (t.drop a)).2.2=true->(R7 t=([],false)->P)->P:=λF h=>h (a2t he h0 L F)
  have fin:(K9 (t.drop a)).2.2=true->Le 0 0/\((0:Nat)=(R7 t).1.length/\Z7 0 (λk=>List.take 3 (List.drop (k*3) [])) (Q1 (R7 t).1))/\false=(R7 t).2/\True:=λF=>by
   rw[a2t he h0 L F];exact⟨U9 _,⟨rfl,oW _ _⟩,Z8⟩
  refine⟨Y1 hlt,Z3 Z9,V8 hlt Z9,λk0=>?_,λk0=>⟨λk1=>?_,λk1=>?_⟩⟩
  ·have k0:((t.getD a 0).toNat:Int)-1=0:=beq_iff_eq.1 k0;have hv:K9 (t.drop a)=(⟨0,0,[]⟩,t.drop (a+1), !R3 ⟨0,0,[]⟩):=by
    unfold K9;rw[if_neg Z9,if_neg Z9,hd,i,k0]
   rw[k0];refine⟨⟨0,0,[]⟩,⟨Z8,a8N⟩,λhq=>fin (by rw[hv];exact hq),λhq=>⟨⟨U9 _,U9 _,Q5⟩,⟨⟨n-1,a+1,acc++[(⟨0,0,[]⟩:Val)]⟩,iS he h0 L (by rw[hv,hq]),X0,X0,a0o⟩,⟨⟨rfl,⟨rfl,kZ⟩,X0,Z6⟩,⟨kZ,jI acc ⟨0,0,[]⟩⟩,Z6⟩,show t.length- (a+1)<t.length-a by omega⟩⟩
  ·have k1:((t.getD a 0).toNat:Int)-1=1:=beq_iff_eq.1 k1;have g:big (t.drop (a+1)) 4=decide ((a:Int)+1+4>t.length):=by
    unfold big;rw[List.length_drop];exact decide_eq_decide.2 Z9
   have hv:K9 (t.drop a)=(⟨1,be (T2 (t.drop (a+1)) 4)-1000000000,[]⟩,R0 (t.drop (a+1)) 4,big (t.drop (a+1)) 4|| !R3 ⟨1,be (T2 (t.drop (a+1)) 4)-1000000000,[]⟩):=by
    unfold K9;rw[if_pos Z9,hd]
   refine⟨Z3 Z9,λf=>fin (by rw[hv,g,f];rfl),λf=>?_⟩
   have z:¬ ((a:Int)+1+4>t.length):=q8 f;rw[f] at g;have v:T2 (t.drop (a+1)) 4=List.drop (a+1) (List.take (a+5) t):=by
    unfold T2;rw[g,List.drop_take,show a+5- (a+1)=4 by omega]
    rfl
   have R:R0 (t.drop (a+1)) 4=t.drop (a+5):=by
    unfold R0;rw[g];show(t.drop (a+1)).drop 4=_;rw[List.drop_drop]
   rw[g,v,R,Bool.false_or] at hv;have l:(List.drop (a+1) (List.take (a+5) t)).length<=4:=by rw[List.length_drop,List.length_take];omega
   have I:=a3Z (List.drop (a+1) (List.take (a+5) t)) l;have A:be (List.drop (a+1) (List.take (a+5) t))=o5 (List.drop (a+1) (List.take (a+5) t)) (List.drop (a+1) (List.take (a+5) t)).length:=rfl;rw[k1,show((a:Int)+1+4).toNat=a+5 by omega,show((a:Int)+1).toNat=a+1 by omega]
   refine⟨Z3 Z9,⟨Z9,Z9,Z9⟩,List.drop (a+1) (List.take (a+5) t),⟨Z8,l⟩,Z3 Z9,Z3 Z9,⟨1,be (List.drop (a+1) (List.take (a+5) t))-1000000000,[]⟩,⟨Z8,a8N⟩,λhq=>fin (by rw[hv];exact hq),λhq=>⟨⟨U9 _,U9 _,Q5⟩,⟨⟨n-1,a+5,acc++[⟨1,be (List.drop (a+1) (List.take (a+5) t))-1000000000,[]⟩]⟩,iS he h0 L (by rw[hv,hq]),X0,X0,a0o⟩,⟨⟨rfl,⟨rfl,kZ⟩,X0,Z6⟩,⟨kZ,jI acc ⟨1,be (List.drop (a+1) (List.take (a+5) t))-1000000000,[]⟩⟩,Z6⟩,show t.length- (a+5)<t.length-a by omega⟩⟩
  ·have k0:((t.getD a 0).toNat:Int)-1≠0:=uH k0;have k1:((t.getD a 0).toNat:Int)-1≠1:=uH k1;have hkn:knd t a=((t.getD a 0).toNat:Int)-1:=rfl;refine⟨⟨⟨a+1,U9 _,hlt,λj h1 h2=>Z9⟩,⟨rfl,Z8,Z9,Z8,X0,Z6⟩,Z8⟩,λy=>?_⟩
   obtain⟨k,u,r,hkz⟩:=y;dsimp only;rw[E8,E8,c4r];refine⟨λhy=>Y1 (Y2 hy),λhy=>?_,λhy=>⟨λhq=>fin ?_,λhq=>?_⟩⟩
   ·simp only[M1,i5,xO] at hy;refine⟨Z3 Z9,⟨k+1,Z9,Z9,λj h1 h2=>?_⟩,⟨⟨rfl,Z8,rfl,Z8,X0,Z6⟩,Z8⟩,show t.length- (k+1)<t.length-k by omega⟩
    by_cases hj:j=k
    ·rw[hj];exact hy.2
    ·exact hkz j h1 Z9
   ·have hq:(k:Int)=t.length:=beq_iff_eq.1 hq;unfold K9;rw[if_neg Z9]
    by_cases k2:((t.getD a 0).toNat:Int)-1=2
    ·rw[if_pos Z9,hd]
     have:wT (t.drop (a+1))= -1:=M2 λj hj=>by
      rw[List.length_drop] at hj;rw[iY];exact hkz _ Z9 Z9
     rw[if_pos Z9]
    ·rw[if_neg Z9]
     dsimp only;rw[i,a2h k0 k1 k2];rfl
   ·have hq:(k:Int)≠t.length:=uH hq;have hkl:k<t.length:=by omega
    rw[mN (show(k:Int)<t.length by omega),Bool.true_and,yC] at hy
    have B:List.drop (a+1) (List.take k t)=(t.drop (a+1)).take (k- (a+1)):=by rw[List.drop_take]
    refine⟨⟨Z9,Z9,Z9⟩,Z3 Z9,⟨knd t a,0,List.drop (a+1) (List.take k t)⟩,⟨Z8,by unfold dX N6;rw[List.length_drop,List.length_take];omega⟩,?_⟩
    by_cases k2:((t.getD a 0).toNat:Int)-1=2
    ·have hix:wT (t.drop (a+1))=((k- (a+1):Nat):Int):=P5 (by rw[List.length_drop];omega) (by rw[iY,show a+1+(k- (a+1))=k by omega];exact hy) λj hj=>by rw[iY];exact hkz _ Z9 Z9
     have hv:K9 (t.drop a)=(⟨2,0,List.drop (a+1) (List.take k t)⟩,t.drop (k+1), !R3 ⟨2,0,List.drop (a+1) (List.take k t)⟩):=by
      unfold K9;rw[if_neg Z9,if_pos Z9,hd,hix,if_neg Z9,E8,B,List.drop_drop,show a+1+(k- (a+1)+1)=k+1 by omega]
     rw[hkn,k2];refine⟨λhq=>fin (by rw[hv];exact hq),λhq=>⟨⟨U9 _,U9 _,Q5⟩,⟨⟨n-1,k+1,acc++[⟨2,0,List.drop (a+1) (List.take k t)⟩]⟩,iS he h0 L (by rw[hv,hq]),X0,X0,a0o⟩,⟨⟨rfl,⟨rfl,kZ⟩,X0,Z6⟩,⟨kZ,jI acc ⟨2,0,List.drop (a+1) (List.take k t)⟩⟩,Z6⟩,show t.length- (k+1)<t.length-a by omega⟩⟩
    ·have hbad:R3 ⟨knd t a,0,List.drop (a+1) (List.take k t)⟩=false:=a2h k0 k1 k2;refine⟨λ_=>fin ?_,λhq=>?_⟩
     ·unfold K9;rw[if_neg Z9,if_neg Z9]
      dsimp only;rw[i,a2h k0 k1 k2];rfl
     ·rw[hbad] at hq;cases hq
 ·have hge:=X7 hc;have:t.drop a=[]:=List.drop_eq_nil_of_le hge;rw[this,pJ (.inl rfl)] at he;have e:R7 t=(acc,true):=by unfold R7;rw[←he];rfl
  rw[e];exact⟨K2,Z8⟩
def rw0:Rw:=⟨0,⟨0,0,[]⟩,⟨0,0,[]⟩⟩
def g8(L:List Val):Int×Rw:=((L.getD 0 dz).n,⟨(L.getD 1 dz).n,L.getD 2 dz,L.getD 3 dz⟩)
def kO(x:List Val×Bool):Bool:= !x.2||((x.1.length:Int) !=4)||((x.1.getD 0 dz).k !=1)||((x.1.getD 1 dz).k !=1)
def tX(t:Bz):Int×Rw×Bool:=if(kO (R7 t)|| !V9 (g8 (R7 t).1).1 1 3)=true then(0,rw0,false) else((g8 (R7 t).1).1,(g8 (R7 t).1).2,M0 (g8 (R7 t).1).2)
def A9(t:Bz):Int×Rw×Int:=if(t.length:Int)>65536 then(0,rw0,2) else if(kO (P0 t)||(!V9 (g8 (P0 t).1).1 1 3|| !M0 (g8 (P0 t).1).2))=true then(0,rw0,3) else((g8 (P0 t).1).1,(g8 (P0 t).1).2,0)
def mJ:Rl:=⟨Bz,λb=>[.bys b],λb=>.tup [Ji (A9 b).1,.agg (A9 b).2.1.ts,Ji (A9 b).2.2],oU⟩
def b1L:Con:=.rel mJ
theorem a8e{l:Bz}{B:Nat}(h:l.length<=B):(K9 l).1.t.length<=B:=by
 unfold K9;split
 ·exact N7 _
 ·split
  ·split
   ·exact N7 _
   ·show((l.drop 1).take _).length<=B;rw[List.length_take,List.length_drop];omega
  ·exact N7 _
theorem a08{B:Nat}:∀(n:Nat) (l:Bz) (f:Bool) (acc:List Val),l.length<=B->(∀v ∈ acc,v.t.length<=B)->∀v ∈ (s5 n l f acc).1,v.t.length<=B:=by
 intro n;induction n with
 |zero=>intro l f acc _ h;exact h
 |succ n i=>
  intro l f acc L h;unfold s5;split
  ·exact h
  ·rename_i hc;have h0:l≠[]:=λh=>hc (.inl h)
   have:=a3d h0;refine i _ _ _ Z9 λv hv=>?_
   rcases List.mem_append.1 hv with hv|hv
   ·exact h v hv
   ·rw[List.mem_singleton.1 hv];exact a8e L
theorem mS{l:Bz}(h:oU l){i:Nat}:dX ((P0 l).1.getD i dz).t:=by
 have h:l.length<=1000000000:=h;show _<1000000000000;rw[Q2]
 cases q:(P0 l).1[i]? with
 |none=>show 0<1000000000000;omega
 |some v=>
  have:=a08 l.length l false [] h (λv hv=>absurd hv X3) v (A6 q)
  show v.t.length<_;omega
theorem b2i{x:List Val×Bool}{b:Bool}(h:(!x.2||((x.1.length:Int) !=4)||b)=false):x.1.length=4:=by
 simp only[yY,bne_eq_false_iff_eq] at h;omega
theorem c1z{x:List Val×Bool}(h:(!x.2||((x.1.length:Int) !=4))=false):x.1.length=4:=b2i (b:=false) aL
theorem mK{n:Nat}(h:n=4){i:Int}(d:0<=i)(e:i<=3):V6 i n:=⟨d,Z9⟩
theorem eQ:GK 17 b1L:=gk func17<|by
 intro(b:Bz) hb;refine S2 (gC a7g (gC vE (gC a4W gN))) func17 Y7 (α:=let j:=(A9 b).2.1.name.t;let w:=(A9 b).2.1.name.n;let y:=(A9 b).2.1.name.k;let u:=(A9 b).2.2;let p:=(0=(A9 b).2.1.id/\0=(A9 b).2.1.n.k/\0=(A9 b).2.1.n.n/\[]=(A9 b).2.1.n.t/\0=y/\0=w/\[]=j/\True);let z:=(0=(A9 b).1/\p/\3=u/\True);bd ((b.length:Int)>65536) (0=(A9 b).1/\p/\2=u/\True) (∃(x:cH.ι),let r:=(P0 x).1.length;let v:=(↑r:Int);let q:=(P0 x).1.getD;((b=x/\True)/\oU x)/\((!(P0 x).2||v !=4)=false->V6 (0:Int) r)/\((!(P0 x).2||v !=4||(q 0 dz).k !=1)=false->V6 (1:Int) r)/\br (!(P0 x).2||v !=4||(q 0 dz).k !=1||(q 1 dz).k !=1) z (V6 (0:Int) r/\V6 (1:Int) r/\V6 (2:Int) r/\V6 (3:Int) r/\∃(d:Int),(((q 0 dz).n=d/\True)/\True)/\∃(X:sO.ι),((!V9 d (1:Int) (3:Int))=false->(((q 1 dz).n=X.id/\(q 2 dz).k=X.n.k/\(q 2 dz).n=X.n.n/\(q 2 dz).t=X.n.t/\(q 3 dz).k=X.name.k/\(q 3 dz).n=X.name.n/\(q 3 dz).t=X.name.t/\True)/\True)/\RwB X)/\br (!V9 d (1:Int) (3:Int)|| !M0 X) z ((q 0 dz).n=(A9 b).1/\((q 1 dz).n=(A9 b).2.1.id/\(q 2 dz).k=(A9 b).2.1.n.k/\(q 2 dz).n=(A9 b).2.1.n.n/\(q 2 dz).t=(A9 b).2.1.n.t/\(q 3 dz).k=y/\(q 3 dz).n=w/\(q 3 dz).t=j/\True)/\0=u/\True)))) ⟨λh=>?_,λh=>⟨b,⟨Z8,hb⟩,λh=>mK (c1z h) Z9 Z9,λh=>mK (b2i h) Z9 Z9,λq=>?_,λq=>?_⟩⟩
 ·have e:A9 b=(0,rw0,2):=by unfold A9;rw[if_pos (D4 h)]
  rw[e];exact Z8
 ·have e:A9 b=(0,rw0,3):=by
   have q:kO (P0 b)=true:=q;unfold A9;rw[if_neg (q8 h),q,Bool.true_or,if_pos rfl]
  rw[e];exact Z8
 ·have l:(P0 b).1.length=4:=by
   rw[yY] at q;exact b2i q.1
  have q:kO (P0 b)=false:=q;refine⟨mK l Z9 Z9,mK l Z9 Z9,mK l Z9 Z9,mK l Z9 Z9,_,Z8,(g8 (P0 b).1).2,λ_=>⟨Z8,mS hb,mS hb⟩,λg=>?_,λg=>?_⟩
  ·have e:A9 b=(0,rw0,3):=by
    have g:(!V9 (g8 (P0 b).1).1 1 3|| !M0 (g8 (P0 b).1).2)=true:=g;unfold A9;rw[if_neg (q8 h),q,g,Bool.or_true,if_pos rfl]
   rw[e];exact Z8
  ·have e:A9 b=((g8 (P0 b).1).1,(g8 (P0 b).1).2,0):=by
    have g:(!V9 (g8 (P0 b).1).1 1 3|| !M0 (g8 (P0 b).1).2)=false:=g;unfold A9;rw[if_neg (q8 h),q,g,if_neg X3]
   rw[e];exact Z8
def a98:Con:=.rel ⟨Bz,λt=>[.str t],λt=>.tup [Ji (tX t).1,.agg (tX t).2.1.ts,.bool (tX t).2.2],oU⟩
theorem fU{l:Bz}(h:oU l){i:Nat}:dX ((R7 l).1.getD i dz).t:=by
 unfold R7;split
 ·exact mS h
 ·show 0<1000000000000;omega
theorem a57:GK 217 a98:=gk func217<|by
 intro(t:Bz) hb;refine S2 (gC dN (gC B6 (gC a0h gN))) func217 Y7 (α:=let y:=(tX t).2.1.name.t;let v:=(tX t).2.1.name.n;let u:=(tX t).2.1.name.k;∃(x:(Bz)),let q:=(R7 x).1.length;let r:=(↑q:Int);let p:=(R7 x).1.getD;let z:=(p 0 dz).k;((t=x/\True)/\oU x)/\((!(R7 x).2||r !=4)=false->V6 (0:Int) q)/\((!(R7 x).2||r !=4||z !=1)=false->V6 (1:Int) q)/\((!(R7 x).2||r !=4||z !=1||(p 1 dz).k !=1)=false->V6 (0:Int) q)/\br (!(R7 x).2||r !=4||z !=1||(p 1 dz).k !=1|| !V9 (p 0 dz).n (1:Int) (3:Int)) (0=(tX t).1/\(0=(tX t).2.1.id/\0=(tX t).2.1.n.k/\0=(tX t).2.1.n.n/\[]=(tX t).2.1.n.t/\0=u/\0=v/\[]=y/\True)/\false=(tX t).2.2/\True) (V6 (1:Int) q/\V6 (2:Int) q/\V6 (3:Int) q/\V6 (0:Int) q/\∃(X:sO.ι),((((p 1 dz).n=X.id/\(p 2 dz).k=X.n.k/\(p 2 dz).n=X.n.n/\(p 2 dz).t=X.n.t/\(p 3 dz).k=X.name.k/\(p 3 dz).n=X.name.n/\(p 3 dz).t=X.name.t/\True)/\True)/\RwB X)/\(p 0 dz).n=(tX t).1/\((p 1 dz).n=(tX t).2.1.id/\(p 2 dz).k=(tX t).2.1.n.k/\(p 2 dz).n=(tX t).2.1.n.n/\(p 2 dz).t=(tX t).2.1.n.t/\(p 3 dz).k=u/\(p 3 dz).n=v/\(p 3 dz).t=y/\True)/\M0 X=(tX t).2.2/\True)) ⟨t,⟨Z8,hb⟩,λh=>mK (c1z h) Z9 Z9,λh=>mK (b2i h) Z9 Z9,λh=>mK (by rw[yY] at h;exact b2i h.1) Z9 Z9,λq=>?_,λq=>?_⟩
 ·have e:tX t=(0,rw0,false):=by
   have q:(kO (R7 t)|| !V9 (g8 (R7 t).1).1 1 3)=true:=q;unfold tX;rw[if_pos q]
  rw[e];exact Z8
 ·have l:(R7 t).1.length=4:=by
   rw[yY,yY] at q;exact b2i q.1.1
  have e:tX t=((g8 (R7 t).1).1,(g8 (R7 t).1).2,M0 (g8 (R7 t).1).2):=by
   have q:(kO (R7 t)|| !V9 (g8 (R7 t).1).1 1 3)=false:=q;unfold tX;rw[if_neg (by rw[q];simp)]
  rw[e];exact⟨mK l Z9 Z9,mK l Z9 Z9,mK l Z9 Z9,mK l Z9 Z9,(g8 (R7 t).1).2,⟨Z8,fU hb,fU hb⟩,Z8⟩
def lD(t:Bz):Option (Int×Rw):=if(kO (P0 t)||(!V9 (g8 (P0 t).1).1 1 3|| !M0 (g8 (P0 t).1).2))=true then none else some (g8 (P0 t).1)
theorem b4n{t:Bz}(h:t.length<=65536):A9 t=match lD t with|some x=>(x.1,x.2,0)|none=>(0,rw0,3):=by
 unfold A9 lD;rw[if_neg Z9]
 split<;>rfl
theorem c15(t:Bz):(tX t).2.2=(lD t).isSome/\∀x,lD t=some x->tX t=(x.1,x.2,true):=by
 have e:kO (R7 t)=kO (P0 t):=by
  unfold R7;split
  ·rfl
  ·rename_i h;unfold kO;rw[show(P0 t).2=false by simpa using h]
   rfl
 unfold tX lD;rw[e];cases hp:kO (P0 t)
 ·have d:R7 t=P0 t:=by
   unfold R7;rw[if_pos];unfold kO at hp;simp only[yY,yC] at hp;exact hp.1.1.1
  rw[d];cases hi:V9 (g8 (P0 t).1).1 1 3
  ·exact⟨rfl,λx hx=>by cases hx⟩
  ·cases hr:M0 (g8 (P0 t).1).2
   ·exact⟨rfl,λx hx=>by cases hx⟩
   ·refine⟨rfl,λx hx=>?_⟩
    cases hx;rfl
 ·exact⟨rfl,λx hx=>by cases hx⟩
theorem rR{L:List Frm}{k:Nat}(f:Frm)(i:Nat)(d:k<L.length):(L.set k f).getD i dz=if i=k then f else L.getD i dz:=by
 by_cases h:i=k
 ·subst h;rw[if_pos rfl];exact pO f d
 ·rw[if_neg h,Q2,j_l (Ne.symm h),←Q2]
structure DG(d:Dsk):Prop where
 ar:d.A=false
 kp:d.keep.length=0
 n69:d.E.length=69
 sc:∀i,i<69->(d.E.getD i []).length<=160
 cc:∀i,i<d.C.length->0<=(d.C.getD i dz).at_/\(d.C.getD i dz).at_<69/\(d.C.getD i dz).d.length<=160
theorem DG.pd{d:Dsk}(h:DG d):bW d:=λi hi=>by
 have:=h.cc i hi;rw[h.n69];omega
theorem DG.P{d:Dsk}(h:DG d)(C:d.C.length<=500):k6 d:=by
 have f:=h.n69;have e:=h.kp;refine⟨Z9,Z9,C,Z9,λ_=>e,λi hi=>h.sc i Z9,λi hi=>?_⟩
 obtain⟨j,c2,g⟩:=h.cc i hi;unfold O8 V9;rw[f];simp only[yY,yC,M1,i5,pT];omega
theorem c5k{d:Dsk}(h:DG d){n:Nat}(N:n<69):(T7 d n).length<=160:=by
 have key:∀m,m<=d.C.length->∀l,I9 d.C n m=some l->l.length<=160:=by
  intro m;induction m with
  |zero=>intro _ l L;cases L
  |succ m i=>
   intro M l L;unfold I9 at L;split at L
   ·cases L;exact(h.cc m Z9).2.2
   ·exact i Z9 l L
 unfold T7;cases L:I9 d.C n d.C.length with
 |none=>exact h.sc n N
 |some l=>exact key _ (U9 _) l L
theorem a1u{d:Dsk}(h:DG d):DG (U7 d).1/\(U7 d).2=true/\(U7 d).1.C=[]/\∀n,n<69->T7 (U7 d).1 n=T7 d n:=by
 have u:(U7 d).2=true:=by unfold U7;rw[if_neg (by rw[h.ar];simp)]
 have r:∀n,n<69->T7 (U7 d).1 n=T7 d n:=λn N=>a5Q u h.pd (by rw[h.n69];exact N)
 have e:=c1o u;have C:=zA d;refine⟨⟨by rw[e];exact h.ar,by rw[e];exact h.kp,by rw[a1R];exact h.n69,λi hi=>?_,λi hi=>?_⟩,u,C,r⟩
 ·have:=r i hi;have f:T7 (U7 d).1 i=(U7 d).1.E.getD i []:=by
   unfold T7;rw[C];rfl
  rw[←f,this];exact c5k h hi
 ·rw[C] at hi;exact absurd hi (J9 _)
theorem c1r{d:Dsk}(h:DG d){a:Int}{t:Bz}(f:0<=a)(e:a<69)(g:t.length<=160):DG (wrD d a t):=by
 refine⟨h.ar,h.kp,h.n69,h.sc,λi hi=>?_⟩
 have hi:i<d.C.length+1:=by unfold wrD at hi;dsimp only at hi;rw[J3] at hi;exact hi
 show 0<=((d.C++[(⟨a,t⟩:Pend)]).getD i dz).at_/\((d.C++[(⟨a,t⟩:Pend)]).getD i dz).at_<69/\((d.C++[(⟨a,t⟩:Pend)]).getD i dz).d.length<=160;rw[uL dz _ _ _ hi];split
 ·exact⟨f,e,g⟩
 ·exact h.cc i Z9
theorem b56{r:Rec}(h:M6 r=true):r.b.length<=30/\r.a.length<=38:=by
 have h:=(R2 r).1 h;unfold C8 at h;obtain⟨_,_,_,_,_,_,_,_,_,_,_,_,_,_,B,f,e⟩:=h;refine⟨Z9,?_⟩
 by_cases d:r.k=6
 ·exact a0S (f d).2.2.2.2.2.2
 ·have:=(e d).2.2.1;omega
theorem c6b{r:Rec}(h:M6 r=true):(Q3 r).length<=160/\Q3 r≠[]:=by
 obtain⟨d,f⟩:=b56 h;have g:(D5 (m7 (a4S r))).length=4:=rfl;have l:(Q3 r).length=16+(r.b.length+r.a.length):=by
  unfold Q3 a4S;rw[J3];simp only[S3,W4,J3,List.length_cons,List.length_nil];show _+4=_;simp;omega
 refine⟨Z9,λe=>?_⟩
 rw[e] at l;simp at l;omega
theorem a6K{s:Sto}{l:Int}(hd:DG s.d)(o:i8 s.L=true)(h:uW s l):∀i,i<=M7 s l->DG (rK s i)/\∀n,n<69->T7 (rK s i) n=if 9+s.S.toNat<=n/\n<9+s.S.toNat+i then Q3 (s.L.getD (n-9) dz) else T7 s.d n
 |0,_=>by
  have:rK s 0=s.d:=by unfold rK;simp
  rw[this];exact⟨hd,λn _=>by rw[if_neg Z9]⟩
 |i+1,hi=>by
  have e:rK s (i+1)=wrD (rK s i) (rE s i).at_ (rE s i).d:=by
   unfold rK wrD;dsimp only;rw[←yF]
  obtain⟨j,t,u⟩:=mT h (i:=i) Z9
  obtain⟨g,f⟩:=a6K hd o h i Z9
  obtain⟨_,_,_,_,q,_,r,v,_⟩:=h;have z:(Q3 (s.L.getD (s.S.toNat+i) dz)).length<=160:=(c6b (D8.1 o (s.S.toNat+i) Z9).1).1
  rw[e];refine⟨c1r g Z9 Z9 z,λn N=>?_⟩
  rw[iC,f n N,j];by_cases hq:9+s.S+(i:Int)=n
  ·rw[if_pos hq,if_pos Z9,show n-9=s.S.toNat+i by omega]
   rfl
  ·rw[if_neg hq];by_cases hp:9+s.S.toNat<=n/\n<9+s.S.toNat+i
   ·rw[if_pos hp,if_pos Z9]
   ·rw[if_neg hp,if_neg Z9]
def FrP(n:Nat)(f:Frm):Prop:=0<=f.no/\f.no<=7/\PgP f.pg/\f.pg.Q<=n/\0<=f.first/\f.first<=n/\(f.D=true↔0<f.first)
structure GInv(s:Sto):Prop where
 dg:DG s.d
 ca:s.d.C.length<=500
 ep:1<=s.ep/\s.ep<=60
 l60:s.L.length<=60
 rc:i8 s.L=true
 su:0<=s.S/\s.S<=s.L.length
 be:∀i,i<s.L.length->wH s i=false
 pg:∀no,no<8->(U4 s.d no).2=true/\(U4 s.d no).1.Q<=s.S
 fr3:s.fr.length<=3
 fp:∀i,i<s.fr.length->FrP s.L.length (s.fr.getD i dz)
 nd:∀i j,i<s.fr.length->j<s.fr.length->(s.fr.getD i dz).no=(s.fr.getD j dz).no->i=j
 cl:∀i,i<s.fr.length->(s.fr.getD i dz).D=false->(U4 s.d (s.fr.getD i dz).no.toNat).1=(s.fr.getD i dz).pg
 hd:0<=s.J/\s.J<=2
 lg:∀i,i<s.S.toNat->T7 s.d (9+i)=Q3 (s.L.getD i dz)
 lz:∀i,s.S.toNat<=i->i<60->T7 s.d (9+i)=[]
theorem jF{L:List Frm}{no:Int}(h:0<=frAt L no):(L.getD (frAt L no).toNat dz).no=no:=by
 unfold frAt S9 at h ⊢;split at h
 ·rename_i i hi;have:=List.find?_some hi
  simpa[mQ] using this
 ·omega
theorem a9R{L:List Frm}{i:Nat}(hi:i<L.length)(nd:∀i j,i<L.length->j<L.length->(L.getD i dz).no=(L.getD j dz).no->i=j):frAt L (L.getD i dz).no=i:=by
 have h:0<=frAt L (L.getD i dz).no:=Classical.byContradiction λh=>oR h hi rfl
 have d:=vB h;have:(L.getD (frAt L (L.getD i dz).no).toNat dz).no=(L.getD i dz).no:=jF h;have:=nd _ _ d hi this;omega
theorem GInv.ok{s:Sto}(h:GInv s):H7 s=true:=by
 refine(K3 s).2 ⟨⟨(y6 s).2 ⟨h.dg.P h.ca,h.dg.n69,h.ep.1,h.ep.2,h.l60⟩,h.rc,?_⟩,h.be,λno n=>?_,?_,?_⟩
 ·have:=h.su;simp[V9,this]
 ·obtain⟨a,b⟩:=h.pg no n;unfold i7;rw[a];simp only[Bool.not_true,Bool.false_or,pT];omega
 ·unfold zY;have h3:=h.fr3;rw[R8.2 λi hi=>?_]
  ·simp;omega
  ·obtain⟨p1,p2,p3,p4,p5,p6,p7⟩:=h.fp i hi;unfold zU;rw[a9R hi h.nd,show o9 (s.fr.getD i dz).pg=true from mN p3]
   simp only[V9,yY,yC,M1,i5,pT,bne_self_eq_false,true_and,and_true,Bool.not_true,bne_eq_false_iff_eq];refine⟨⟨⟨⟨p1,p2⟩,Z9⟩,p5,p6⟩,?_⟩
   rw[Bool.eq_iff_iff,i5];exact p7.symm
 ·have:=h.hd;simp[V9,this]
theorem GInv.sm{s:Sto}(h:GInv s):SmS s:=by
 have f:=h.dg.n69;have d:=h.dg.kp;have j:=h.ca;have e:=h.l60;have g:=h.fr3;refine⟨⟨Z9,Z9,Z9⟩,Z9,Z9,λi hi=>?_⟩
 have:=(h.fp i hi).2.2.1.2.2.1;unfold SmF SmG;omega
theorem GInv.inv{s:Sto}(h:GInv s):SInv s:=a8n h.ok h.sm
theorem yQ{a n:Int}(h:0<=a)(N:0<n):0<=a.tmod n/\a.tmod n<n:=⟨Int.tmod_nonneg _ h,Int.tmod_lt_of_pos _ N⟩
theorem a48{s:Sto}{l:Int}(h:GInv s)(hl:l<=s.L.length):GInv (W5 s l).1/\(W5 s l).2=true/\l<=(W5 s l).1.S:=by
 by_cases e:l<=s.S
 ·rw[r8 e];exact⟨h,rfl,e⟩
 ·have hF:=h.inv.flu hl;have h60:=h.l60;have hsu:=h.su;obtain⟨g1,g2⟩:=a6K h.dg h.rc hF (M7 s l) (U9 _);obtain⟨y1,y2,y3,y4⟩:=a1u g1;have hN:M7 s l=l.toNat-s.S.toNat:=rfl;have rd:∀n,n<69->T7 (U7 (rK s (M7 s l))).1 n=if 9+s.S.toNat<=n/\n<9+s.S.toNat+M7 s l then Q3 (s.L.getD (n-9) dz) else T7 s.d n:=λn hn=>(y4 n hn).trans (g2 n hn)
  have rp:∀no,no<8->T7 (U7 (rK s (M7 s l))).1 (1+no)=T7 s.d (1+no):=λno hn=>by rw[rd _ Z9,if_neg Z9]
  rw[m4 e,y2,if_pos rfl];refine⟨⟨y1,by show(U7 _).1.C.length<=_;rw[y3];exact N7 _,h.ep,h.l60,h.rc,⟨by show 0<=l;omega,hl⟩,h.be,λno hn=>?_,h.fr3,h.fp,h.nd,λi hi C=>?_,h.hd,λi hi=>?_,λi hi f=>?_⟩,rfl,Int.le_refl _⟩
  ·obtain⟨a,b⟩:=h.pg no hn;show(U4 (U7 _).1 no).2=true/\(U4 (U7 _).1 no).1.Q<=l;rw[(y7 (rp no hn)).1];exact⟨a,Z9⟩
  ·have hf:=h.fp i hi;show(U4 (U7 _).1 _).1=_;rw[(y7 (rp (s.fr.getD i dz).no.toNat (by obtain⟨f1,f2,_⟩:=hf;omega))).1]
   exact h.cl i hi C
  ·have hi:i<l.toNat:=hi;show T7 (U7 _).1 (9+i)=_;rw[rd _ Z9]
   by_cases q:s.S.toNat<=i
   ·rw[if_pos Z9,show 9+i-9=i by omega]
   ·rw[if_neg Z9]
    exact h.lg i Z9
  ·have hi:l.toNat<=i:=hi;show T7 (U7 _).1 (9+i)=_;rw[rd _ Z9,if_neg Z9]
   exact h.lz i Z9 f
theorem c63{s:Sto}{d:Dsk}(h:GInv s)(hd:DG d)(C:d.C.length<=500)(hr:∀n,n<69->T7 d n=T7 s.d n):GInv (s.sd d):=by
 have e:=h.l60;have u:=h.su;refine⟨hd,C,h.ep,h.l60,h.rc,h.su,h.be,λno N=>?_,h.fr3,h.fp,h.nd,λi hi C=>?_,h.hd,λi hi=>?_,λi hi f=>?_⟩
 ·show(U4 d no).2=true/\(U4 d no).1.Q<=_;rw[(y7 (hr (1+no) Z9)).1]
  exact h.pg no N
 ·have hf:=h.fp i hi;show(U4 d (s.fr.getD i dz).no.toNat).1=(s.fr.getD i dz).pg;rw[(y7 (hr (1+(s.fr.getD i dz).no.toNat) (by obtain⟨f1,f2,_⟩:=hf;omega))).1]
  exact h.cl i hi C
 ·have hi:i<s.S.toNat:=hi;show T7 d (9+i)=_;rw[hr _ Z9]
  exact h.lg i hi
 ·show T7 d (9+i)=_;rw[hr _ Z9]
  exact h.lz i hi f
theorem b7j{s:Sto}(h:GInv s):GInv (s.sd (yH s.d).1)/\(yH s.d).2=true:=by
 by_cases C:500<=s.d.C.length
 ·rw[sU C];obtain⟨f,Y,e,g⟩:=a1u h.dg;exact⟨c63 h f (by rw[e];exact N7 _) g,Y⟩
 ·rw[qJ C];exact⟨h,rfl⟩
theorem c6M{a:Sto}{k:Nat}(h:GInv a)(C:a.d.C.length<=499)(hk:k<a.fr.length)(r:(a.fr.getD k dz).pg.Q<=a.S):GInv (wrF a k):=by
 have q:=h.l60;have U:=h.su;obtain⟨F,t,f3,v,A,B,x⟩:=h.fp k hk;have z:=(c1a (no:=(a.fr.getD k dz).no) f3).1;have g:=(c1a (no:=(a.fr.getD k dz).no) f3).2;have L:(a.fr.set k (jO (a.fr.getD k dz))).length=a.fr.length:=zN;have l:=λi=>rR (jO (a.fr.getD k dz)) i hk
 have rd:∀n,T7 (wrF a k).d n=if 1+(a.fr.getD k dz).no=n then Q4 (a.fr.getD k dz).no (a.fr.getD k dz).pg else T7 a.d n:=λn=>iC _ _ _ _
 have pgk:U4 (wrF a k).d (a.fr.getD k dz).no.toNat=((a.fr.getD k dz).pg,true):=by
  have R:T7 (wrF a k).d (1+(a.fr.getD k dz).no.toNat)=Q4 (a.fr.getD k dz).no (a.fr.getD k dz).pg:=by rw[rd,if_pos Z9]
  unfold U4;rw[R,if_neg g,show(((a.fr.getD k dz).no.toNat:Nat):Int)=(a.fr.getD k dz).no by omega]
  exact c53 f3 F Z9
 have pgn:∀no:Nat,no<8->(a.fr.getD k dz).no≠no->U4 (wrF a k).d no=U4 a.d no:=λno N hne=>(y7 (by rw[rd,if_neg Z9])).1
 refine⟨c1r h.dg Z9 Z9 z,?_,h.ep,h.l60,h.rc,h.su,h.be,λno N=>?_,?_,λi hi=>?_,λi j hi J f=>?_,λi hi hcl=>?_,h.hd,λi hi=>?_,λi hi u=>?_⟩
 ·show(a.d.C++[_]).length<=500;rw[J3];simp only[List.length_cons,List.length_nil];omega
 ·by_cases hne:(a.fr.getD k dz).no=no
  ·rw[show no=(a.fr.getD k dz).no.toNat by omega,pgk]
   exact⟨rfl,r⟩
  ·rw[pgn no N hne];exact h.pg no N
 ·show(List.set _ _ _).length<=3;rw[L];exact h.fr3
 ·have hi:i<a.fr.length:=by have:i<(a.fr.set k (jO (a.fr.getD k dz))).length:=hi;omega
  show FrP a.L.length ((a.fr.set k (jO (a.fr.getD k dz))).getD i dz);rw[l];split
  ·exact⟨F,t,f3,v,Int.le_refl _,kX,by simp[jO]⟩
  ·exact h.fp i hi
 ·have hi:i<a.fr.length:=by have:i<(a.fr.set k (jO (a.fr.getD k dz))).length:=hi;omega
  have J:j<a.fr.length:=by have:j<(a.fr.set k (jO (a.fr.getD k dz))).length:=J;omega
  have o:∀i,((a.fr.set k (jO (a.fr.getD k dz))).getD i dz).no=(a.fr.getD i dz).no:=λi=>by
   rw[l];split
   ·rename_i e;rw[e];rfl
   ·rfl
  have f:((a.fr.set k (jO (a.fr.getD k dz))).getD i dz).no=((a.fr.set k (jO (a.fr.getD k dz))).getD j dz).no:=f;rw[o,o] at f;exact h.nd i j hi J f
 ·have hi:i<a.fr.length:=by have:i<(a.fr.set k (jO (a.fr.getD k dz))).length:=hi;omega
  have hcl:((a.fr.set k (jO (a.fr.getD k dz))).getD i dz).D=false:=hcl;show(U4 (wrF a k).d ((a.fr.set k (jO (a.fr.getD k dz))).getD i dz).no.toNat).1=((a.fr.set k (jO (a.fr.getD k dz))).getD i dz).pg;rw[l] at hcl ⊢;by_cases e:i=k
  ·rw[if_pos e];show(U4 _ (a.fr.getD k dz).no.toNat).1=_;rw[pgk];rfl
  ·rw[if_neg e] at hcl ⊢;have hf:=h.fp i hi;rw[pgn _ (by obtain⟨q1,q2,_⟩:=hf;omega) (λe2=>e (h.nd i k hi hk (by obtain⟨q1,q2,_⟩:=hf;omega)))]
   exact h.cl i hi hcl
 ·have hi:i<a.S.toNat:=hi;rw[rd,if_neg Z9]
  exact h.lg i hi
 ·rw[rd,if_neg Z9]
  exact h.lz i hi u
structure OutP(s a:Sto)(k:Nat):Prop where
 g:GInv a
 le:a.fr.length=s.fr.length
 no:∀i,(a.fr.getD i dz).no=(s.fr.getD i dz).no/\(a.fr.getD i dz).pg=(s.fr.getD i dz).pg
 cl:(a.fr.getD k dz).D=false
 L:a.L=s.L/\a.ep=s.ep/\a.J=s.J/\s.S<=a.S
 ls:(s.fr.getD k dz).D=true->(s.fr.getD k dz).pg.Q<=a.S
theorem b48{s:Sto}{l:Int}(h:GInv s)(L:l<=s.L.length):s.S<=(W5 s l).1.S:=by
 by_cases d:l<=s.S
 ·rw[r8 d];exact Int.le_refl _
 ·have:=(a48 h L).2.2;omega
theorem b7f{s:Sto}{k:Nat}(h:GInv s)(n:k<s.fr.length):OutP s (X5 s k).1 k/\(X5 s k).2=true:=by
 cases hd:(s.fr.getD k dz).D with
 |false=>
  rw[vN hd];exact⟨⟨h,rfl,λ_=>Z8,hd,⟨rfl,rfl,rfl,Int.le_refl _⟩,λe=>by rw[hd] at e;cases e⟩,rfl⟩
 |true=>
  obtain⟨_,_,_,F,_⟩:=h.fp k n;obtain⟨q,v,o⟩:=a48 h F;obtain⟨r,t,R,u⟩:=vZ s (s.fr.getD k dz).pg.Q;have M:=b48 h F;obtain⟨Y,x⟩:=b7j q;have C:=b58 (a8Z (l:=(s.fr.getD k dz).pg.Q) h.ca);rw[gQ hd v x];have d:k<(W5 s (s.fr.getD k dz).pg.Q).1.fr.length:=by rw[r];exact n
  have g:((W5 s (s.fr.getD k dz).pg.Q).1.fr.getD k dz).pg.Q<=(W5 s (s.fr.getD k dz).pg.Q).1.S:=by rw[r];exact o
  have G:=c6M (k:=k) Y C d g;have j:=λi=>rR (jO ((W5 s (s.fr.getD k dz).pg.Q).1.fr.getD k dz)) i d
  have N:∀i,(((W5 s (s.fr.getD k dz).pg.Q).1.fr.set k (jO ((W5 s (s.fr.getD k dz).pg.Q).1.fr.getD k dz))).getD i dz).no=(s.fr.getD i dz).no/\(((W5 s (s.fr.getD k dz).pg.Q).1.fr.set k (jO ((W5 s (s.fr.getD k dz).pg.Q).1.fr.getD k dz))).getD i dz).pg=(s.fr.getD i dz).pg:=λi=>by
   rw[j];split
   ·rename_i e;rw[e,r];exact Z8
   ·rw[r];exact Z8
  refine⟨⟨G,?_,N,?_,⟨R,u,t,M⟩,λ_=>o⟩,rfl⟩
  ·show(List.set _ _ _).length=_;rw[zN];exact congrArg List.length r
  ·have:=j k;rw[if_pos rfl] at this;exact congrArg (λf:Frm=>f.D) this
theorem c4e{s:Sto}{no:Nat}(h:GInv s)(o:no<8):(U4 s.d no).2=true/\PgP (U4 s.d no).1/\(U4 s.d no).1.Q<=s.S:=by
 obtain⟨a,b⟩:=h.pg no o;exact⟨a,a01 a,b⟩
theorem a8T{s:Sto}{no:Nat}(h:GInv s)(o:no<8):FrP s.L.length (B1 no (U4 s.d no).1):=by
 obtain⟨a,b,c⟩:=c4e h o;have:=h.su;exact⟨by show(0:Int)<=no;omega,by show(no:Int)<=7;omega,b,by show(U4 s.d no).1.Q<=_;omega,Int.le_refl _,kX,by simp[B1]⟩
theorem c2N{a:Sto}{L:List Frm}{hand:Int}(h:GInv a)(f:L.length<=3)(e:0<=hand/\hand<=2)(fp:∀i,i<L.length->FrP a.L.length (L.getD i dz))
  (nd:∀i j,i<L.length->j<L.length->(L.getD i dz).no=(L.getD j dz).no->i=j)
  (cl:∀i,i<L.length->(L.getD i dz).D=false->(U4 a.d (L.getD i dz).no.toNat).1=(L.getD i dz).pg):GInv ⟨a.d,a.ep,a.L,a.S,L,hand⟩:=
 ⟨h.dg,h.ca,h.ep,h.l60,h.rc,h.su,h.be,h.pg,f,fp,nd,cl,e,h.lg,h.lz⟩
structure FetP(s a:Sto)(k:Nat)(no:Nat):Prop where
 g:GInv a
 kk:k<a.fr.length
 no:(a.fr.getD k dz).no=no
 L:a.L=s.L/\a.ep=s.ep/\s.S<=a.S
theorem o4{s:Sto}{no:Nat}(h:GInv s)(o:no<8):FetP s (Z4 s no).1 (Z4 s no).2.1 no/\(Z4 s no).2.2=true:=by
 have q:=h.hd;have r:=h.fr3;by_cases hc:0<=frAt s.fr no
 ·rw[(sN 0 hc).1];exact⟨⟨h,vB hc,jF hc,rfl,rfl,Int.le_refl _⟩,rfl⟩
 ·have hn:=λi hi=>oR (i:=i) hc hi
  by_cases h3:s.fr.length=3
  ·have hk:s.J.toNat<s.fr.length:=by omega
   obtain⟨⟨g,le,en,cl,⟨L,l2,l3,l⟩,_⟩,u⟩:=b7f h hk;rw[(wC 0 hc h3 u).1];have f:s.J.toNat<(X5 s s.J.toNat).1.fr.length:=Z9
   have eG:=λi=>rR (B1 no (U4 (X5 s s.J.toNat).1.d no).1) i f
   have eL:((X5 s s.J.toNat).1.fr.set s.J.toNat (B1 no (U4 (X5 s s.J.toNat).1.d no).1)).length=(X5 s s.J.toNat).1.fr.length:=zN;refine⟨⟨c2N g Z9 ?_ (λi hi=>?_) (λi j hi J=>?_) (λi hi=>?_),?_,?_,L,l2,l⟩,rfl⟩
   ·rw[l3];have:=yQ (a:=s.J+1) (n:=3) Z9 W6
    omega
   ·rw[eG];split
    ·exact a8T g o
    ·exact g.fp i Z9
   ·rw[eG,eG];have n1:=(en i).1;have n2:=(en j).1;by_cases e1:i=s.J.toNat
    ·by_cases e2:j=s.J.toNat
     ·intro _;omega
     ·rw[if_pos e1,if_neg e2];intro e;exact absurd (n2.symm.trans e.symm) (hn j Z9)
    ·by_cases e2:j=s.J.toNat
     ·rw[if_neg e1,if_pos e2];intro e;exact absurd (n1.symm.trans e) (hn i Z9)
     ·rw[if_neg e1,if_neg e2];exact g.nd i j Z9 Z9
   ·rw[eG];split
    ·intro _;show(U4 _ ((no:Int)).toNat).1=_;rw[E8];rfl
    ·exact g.cl i Z9
   ·show _<(List.set _ _ _).length;rw[eL];exact f
   ·show(((X5 s s.J.toNat).1.fr.set s.J.toNat (B1 no (U4 (X5 s s.J.toNat).1.d no).1)).getD s.J.toNat dz).no=_;rw[eG,if_pos rfl];rfl
  ·rw[(rS 0 hc h3).1];have eL:(s.fr++[B1 no (U4 s.d no).1]).length=s.fr.length+1:=by simp
   have eG:=λi hi=>uL dz s.fr (B1 no (U4 s.d no).1) i hi
   refine⟨⟨c2N h Z9 q (λi hi=>?_) (λi j hi J=>?_) (λi hi=>?_),?_,?_,rfl,rfl,Int.le_refl _⟩,rfl⟩
   ·rw[eG i Z9]
    split
    ·exact a8T h o
    ·exact h.fp i Z9
   ·rw[eG i Z9,eG j Z9]
    by_cases e1:i=s.fr.length
    ·by_cases e2:j=s.fr.length
     ·intro _;omega
     ·rw[if_pos e1,if_neg e2];intro e;exact absurd e.symm (hn j Z9)
    ·by_cases e2:j=s.fr.length
     ·rw[if_neg e1,if_pos e2];intro e;exact absurd e (hn i Z9)
     ·rw[if_neg e1,if_neg e2];exact h.nd i j Z9 Z9
   ·rw[eG i Z9]
    split
    ·intro _;show(U4 _ ((no:Int)).toNat).1=_;rw[E8];rfl
    ·exact h.cl i Z9
   ·show s.fr.length<(s.fr++[B1 no (U4 s.d no).1]).length;omega
   ·show((s.fr++[B1 no (U4 s.d no).1]).getD s.fr.length dz).no=_;rw[eG _ Z9,if_pos rfl]
    rfl
def c6W(s:Sto)(r:Rec):Sto:=⟨s.d,s.ep,s.L++[T0 s r],s.S,s.fr,s.J⟩
theorem c00{s:Sto}{r:Rec}(h:GInv s)(z:s.L.length<60)(R:M6 (T0 s r)=true):GInv (c6W s r):=by
 have L:(s.L++[T0 s r]).length=s.L.length+1:=X3
 have eG:=λi hi=>uL dz s.L (T0 s r) i hi
 have u:=h.su;have f:=h.ep;refine⟨h.dg,h.ca,h.ep,by show(s.L++[_]).length<=_;omega,D8.2 λi hi=>?_,⟨u.1,by show s.S<=((s.L++[_]).length:Nat);omega⟩,λi hi=>?_,h.pg,h.fr3,λi hi=>?_,h.nd,h.cl,h.hd,λi hi=>?_,h.lz⟩
 ·show M6 ((s.L++[_]).getD i dz)=true/\((s.L++[_]).getD i dz).l=_;have hi:i<(s.L++[T0 s r]).length:=hi;rw[eG i Z9]
  split
  ·rename_i e;exact⟨R,by rw[e];rfl⟩
  ·exact D8.1 h.rc i Z9
 ·have hi:i<(s.L++[T0 s r]).length:=hi;unfold wH;show(!V9 ((s.L++[T0 s r]).getD i dz).e (zP (s.L++[T0 s r]) i) s.ep)=false;have hb:=λj hj=>h.be j hj
  unfold wH at hb;rw[eG i Z9]
  by_cases e:i=s.L.length
  ·rw[if_pos e];show(!V9 s.ep _ s.ep)=false;have:zP (s.L++[T0 s r]) i<=s.ep:=by
    unfold zP;split
    ·exact f.1
    ·rw[eG (i-1) Z9,if_neg Z9]
     have:=c3M (hb (i-1) Z9)
     exact this.2
   simp[V9,this]
  ·rw[if_neg e,←hb i Z9]
   have:zP (s.L++[T0 s r]) i=zP s.L i:=by
    unfold zP;split
    ·rfl
    ·rw[eG (i-1) Z9,if_neg Z9]
   rw[this]
 ·have F:FrP s.L.length (s.fr.getD i dz):=h.fp i hi;obtain⟨o,q,g,v,n,x,t⟩:=F;show FrP (s.L++[T0 s r]).length (s.fr.getD i dz);rw[L];exact⟨o,q,g,Z9,n,Z9,t⟩
 ·have hi:i<s.S.toNat:=hi;show T7 s.d (9+i)=Q3 ((s.L++[T0 s r]).getD i dz);rw[eG i Z9,if_neg Z9]
  exact h.lg i hi
theorem b4f{s:Sto}{r:Rec}(h:GInv s)(B:0<=r.g/\r.g<8)(s0:0<=r.s/\r.s<4)(J:1<=r.l/\r.l<=s.L.length)(t:r.a.length<=30):GInv (S0 s r).1/\(S0 s r).2=true/\(S0 s r).1.L=s.L/\(S0 s r).1.ep=s.ep:=by
 obtain⟨⟨g,d,no,L,l2,I⟩,u⟩:=o4 h (no:=r.g.toNat) Z9
 have e:S0 s r=(b5o (Z4 s r.g.toNat).1 (Z4 s r.g.toNat).2.1 r,true):=if_pos u;rw[e];generalize Z4 s r.g.toNat=A at*;obtain⟨a,k,up⟩:=A;dsimp only at*;have eG:=λi=>rR (wJ (a.fr.getD k dz) r) i d
 have F:(a.fr.set k (wJ (a.fr.getD k dz) r)).length=a.fr.length:=zN;have o:=h.l60;have M:=g.fr3;obtain⟨p1,p2,⟨C,R,q3,Q⟩,x,v,z,q⟩:=g.fp k d;have n:=congrArg List.length L;have N:∀i,((a.fr.set k (wJ (a.fr.getD k dz) r)).getD i dz).no=(a.fr.getD i dz).no:=λi=>by
  rw[eG];split
  ·rename_i e;rw[e];rfl
  ·rfl
 refine⟨c2N g Z9 g.hd (λi hi=>?_) (λi j hi O f=>?_) (λi hi hcl=>?_),rfl,L,l2⟩
 ·rw[eG];split
  ·refine⟨p1,p2,⟨by show 0<=r.l;omega,by show r.l<=1000;omega,by show(List.set _ _ _).length=4;rw[zN];exact q3,λi hi=>?_⟩,by show r.l<=_;omega,?_,?_,?_⟩
   ·show(List.getD (List.set _ _ _) i []).length<=30;by_cases ei:i=r.s.toNat
    ·rw[ei,Q2,j_j Z9]
     exact t
    ·rw[Q2,j_l (Ne.symm ei),←Q2]
     refine Q i ?_
     have:i<(List.set (a.fr.getD k dz).pg.sl r.s.toNat r.a).length:=hi;rw[zN] at this;exact this
   ·show 0<=(if(a.fr.getD k dz).D=true then(a.fr.getD k dz).first else r.l)
    split<;>omega
   ·show(if(a.fr.getD k dz).D=true then(a.fr.getD k dz).first else r.l)<=_
    split<;>omega
   ·show(true=true↔0<(if(a.fr.getD k dz).D=true then(a.fr.getD k dz).first else r.l))
    split
    ·rename_i hd;exact⟨λ_=>q.1 hd,λ_=>rfl⟩
    ·exact⟨λ_=>Z9,λ_=>rfl⟩
  ·exact g.fp i Z9
 ·rw[N,N] at f;exact g.nd i j Z9 Z9 f
 ·rw[eG] at hcl ⊢;by_cases ei:i=k
  ·rw[if_pos ei] at hcl;cases hcl
  ·rw[if_neg ei] at hcl ⊢;exact g.cl i Z9 hcl
def LI(L:List Rec):Prop:=o8 L/\∀a:Int,1<=a->a<=L.length->(X9 L a).k<=3->((X9 L a).p=0∨ownR L (X9 L a).p (X9 L a).t=true)/\((X9 L a).k=3->ownR L (X9 L a).n (X9 L a).t=true)
def InT(T:List Txn)(x:Int):Prop:=∃j,j<T.length/\(T.getD j dz).id=x
structure EH(L:List Rec)(T:List Txn)(lk:Lks)(nx:Int):Prop where
 li:LI L
 t10:T.length<=10
 nxr:1<=nx/\nx<=61
 lks:H3 lk=true
 id:∀i,i<T.length->1<=(T.getD i dz).id/\(T.getD i dz).id<=nx-1
 asc:∀i j,i<j->j<T.length->(T.getD i dz).id<(T.getD j dz).id
 ow:∀i,i<T.length->ownR L (T.getD i dz).Z (T.getD i dz).id=true
 hd:∀i,i<lk.H.length->InT T (lk.H.getD i dz).tx
 wt:∀i,i<lk.W.length->InT T (lk.W.getD i dz).tx/\InT T (lk.W.getD i dz).fo
 rm:L.length+v8 L T T.length<=60
structure EI(e:Eng):Prop where
 g:GInv e.s
 up:e.up=true
 h:EH e.s.L e.X e.lk e.N
theorem pX{L:List Rec}(x:Rec){a:Int}(d:1<=a)(h:a<=L.length):X9 (L++[x]) a=X9 L a:=by
 unfold X9;rw[Q2,tT Z9,←Q2]
theorem l9(L:List Rec)(x:Rec):X9 (L++[x]) ((L.length:Int)+1)=x:=by
 unfold X9;rw[show((L.length:Int)+1-1).toNat=L.length by omega,Q2,List.getElem?_concat_length]
 rfl
theorem xM{L:List Rec}{x:Rec}{a id:Int}(h:ownR L a id=true):ownR (L++[x]) a id=true:=by
 obtain⟨f,d⟩:=yX h;unfold ownR at h ⊢;rw[pX x f d];simp only[M1,R9,J3,List.length_singleton] at h ⊢;obtain⟨⟨i,e⟩,g⟩:=h;exact⟨⟨Z9,e⟩,g⟩
theorem a8Q{L:List Rec}{x:Rec}(h:1<=x.k/\x.k<=3):ownR (L++[x]) ((L.length:Int)+1) x.t=true:=by
 unfold ownR;rw[l9];simp only[M1,R9,J3,List.length_singleton,beq_self_eq_true];exact⟨⟨Z9,Z6⟩,h⟩
theorem c5I{L:List Rec}{a id:Int}(h:ownR L a id=true):(X9 L a).t=id/\1<=(X9 L a).k/\(X9 L a).k<=3:=by
 unfold ownR at h;simp only[M1,R9,beq_iff_eq] at h;exact⟨h.1.2,h.2⟩
theorem a6H{L:List Rec}{x:Rec}(h:LI L)(hp:C8 x)(q:x.l=(L.length:Int)+1)(X:x.k<=3->(x.p=0∨ownR L x.p x.t=true)/\(x.k=3->ownR L x.n x.t=true)):LI (L++[x]):=by
 have o:x.l<=60:=hp.2.2.2.1;have e:(L++[x]).length=L.length+1:=X3
 refine⟨⟨Z9,λi hi=>?_⟩,λa j r f=>?_⟩
 ·rw[uL dz L x i Z9]
  by_cases d:i=L.length
  ·rw[if_pos d];exact⟨hp,Z9⟩
  ·rw[if_neg d];exact h.1.2 i Z9
 ·by_cases ha:a<=L.length
  ·rw[pX x j ha] at f ⊢;obtain⟨B,b2⟩:=h.2 a j ha f;exact⟨B.imp id xM,λg=>xM (b2 g)⟩
  ·have:a=(L.length:Int)+1:=by omega
   subst this;rw[l9] at f ⊢;obtain⟨B,b2⟩:=X f;exact⟨B.imp id xM,λg=>xM (b2 g)⟩
theorem b4G{L:List Rec}(h:LI L){id:Int}:∀(f:Nat) (a:Int),a.toNat<f->(a<=0∨ownR L a id=true)->chn L id f a=true
 |0,_,hf,_=>absurd hf (J9 _)
 |f+1,a,hf,ha=>by
  unfold chn;rcases ha with ha|ha
  ·rw[mN ha];rfl
  ·obtain⟨h1,h2⟩:=yX ha;obtain⟨t1,t2,t3⟩:=c5I ha;obtain⟨p1,p2,p3,p4⟩:=h.1.prev h1 h2;obtain⟨b1,b2⟩:=h.2 a h1 h2 t3;rw[t1] at b1 b2;have hc:chn L id f (X9 L a).p=true:=b4G h f _ Z9 (b1.imp (λe=>Z9) λe=>e)
   rw[hc,Bool.and_true];have o:okR L id a=true:=by
    unfold okR;rw[ha,Bool.true_and];by_cases d:(X9 L a).k=3
    ·rw[b2 d,Bool.or_true]
    ·rw[show((X9 L a).k !=3)=true by simpa using d];rfl
   rw[o,Bool.or_true]
theorem c6w{L:List Rec}(h:LI L){t:Txn}(o:ownR L t.Z t.id=true):oV L t=true:=by
 obtain⟨d,e⟩:=yX o;have:=h.1.1;unfold oV;rw[R9.2 ⟨d,e⟩,Bool.true_and];exact b4G h 61 _ Z9 (.inr o)
theorem a0Z{T:List Txn}{x:Int}(h:InT T x):¬T5 T x<0:=λn=>by
 obtain⟨j,J,e⟩:=h;have d:=G1 T.length (B9 T x);have f:anyI T.length (B9 T x)=true:=S8.2 ⟨j,J,by unfold B9;rw[e];exact beq_self_eq_true x⟩
 rw[f] at d;have:=D4 d;have g:S9 T.length (B9 T x)<0:=n;omega
theorem EI.r{e:Eng}(h:EI e):tV e=true:=by
 obtain⟨_,u,li,t10,nx,lk,id,asc,ow,hd,wt,rm⟩:=h;unfold tV xJ upE;rw[if_pos u];simp only[M1,i5,R9,xO];refine⟨⟨⟨t10,nx⟩,lk⟩,⟨⟨?_,?_⟩,?_⟩,rm⟩
 ·refine R8.2 λi hi=>?_
  unfold A7;simp only[yY,yC,Bool.and_eq_false_iff,pT,R9];refine⟨⟨id i hi,?_⟩,c6w li (ow i hi)⟩
  by_cases d:i=0
  ·exact .inl Z9
  ·have:=asc (i-1) i Z9 hi
   exact .inr Z9
 ·refine R8.2 λi hi=>?_
  unfold xY;exact sX (a0Z (hd i hi))
 ·refine R8.2 λi hi=>?_
  unfold w4;rw[sX (a0Z (wt i hi).1),sX (a0Z (wt i hi).2)];rfl
theorem EI.ok{e:Eng}(h:EI e):R6 e=true:=by
 unfold R6;rw[h.g.ok,h.r];rfl
theorem EI.sm{e:Eng}(h:EI e):x8 e:=by
 have d:=iA h.h.lks;have f:=h.h.t10;exact⟨h.g.sm,Z9,Z9,Z9⟩
theorem EH.at_{L:List Rec}{T:List Txn}{lk:Lks}{nx:Int}(h:EH L T lk nx){k:Nat}(d:k<T.length):T5 T (T.getD k dz).id=k:=
 P5 d (by unfold B9;exact beq_self_eq_true _) λj J=>by
  have:=h.asc j k J d;unfold B9;exact beq_eq_false_iff_ne.2 Z9
theorem a1y{L:List Rec}(hL:o8 L):∀(f g:Nat) (a:Int),a<=L.length->a.toNat<f->a.toNat<g->und L f a=und L g a
 |0,_,_,_,h,_=>absurd h (J9 _)
 |f+1,0,_,_,_,h=>absurd h (J9 _)
 |f+1,g+1,a,ha,h1,h2=>by
  unfold und;by_cases d:a<=0
  ·rw[if_pos d,if_pos d]
  ·obtain⟨p1,p2,p3,p4⟩:=hL.prev (show 1<=a by omega) ha
   rw[if_neg d,if_neg d,a1y hL f g _ Z9 Z9 Z9,a1y hL f g _ Z9 Z9 Z9]
theorem a1M{L:List Rec}{x:Rec}{T:List Txn}(d:o8 L):∀n,(∀i,i<n->(T.getD i dz).Z<=L.length)->v8 (L++[x]) T n=v8 L T n
 |0,_=>rfl
 |n+1,h=>by
  unfold v8;rw[a1M d n λi hi=>h i Z9,sQ d 61 _ (h n Z9)]
theorem xG{T:List Txn}{k:Nat}(t:Txn)(i:Nat)(hk:k<T.length):(T.set k t).getD i dz=if i=k then t else T.getD i dz:=by
 by_cases h:i=k
 ·subst h;rw[if_pos rfl,Q2,j_j hk]
  rfl
 ·rw[if_neg h,Q2,j_l (Ne.symm h),←Q2]
theorem b3P{L:List Rec}{T:List Txn}{k:Nat}(t:Txn)(d:k<T.length):∀n,v8 L (T.set k t) n+(if k<n then und L 61 (T.getD k dz).Z else 0)=v8 L T n+(if k<n then und L 61 t.Z else 0)
 |0=>by rw[if_neg (J9 _),if_neg (J9 _)];rfl
 |n+1=>by
  have ih:=b3P (L:=L) t d n;unfold v8;rw[xG t n d];by_cases h:n=k
  ·subst h;rw[if_pos rfl,if_pos Z9,if_pos Z9]
   rw[if_neg Z9,if_neg Z9] at ih
   omega
  ·rw[if_neg h];by_cases h2:k<n
   ·rw[if_pos h2,if_pos h2] at ih;rw[if_pos Z9,if_pos Z9]
    omega
   ·rw[if_neg h2,if_neg h2] at ih;rw[if_neg Z9,if_neg Z9]
    omega
theorem xC{T:List Txn}{k:Nat}(i:Nat)(d:k<T.length):(T.take k++T.drop (k+1)).getD i dz=T.getD (if i<k then i else i+1) dz:=by
 have l:(T.take k).length=k:=by rw[List.length_take];omega
 by_cases h:i<k
 ·rw[if_pos h,Q2,tT Z9,List.getElem?_take_of_lt h,←Q2]
 ·rw[if_neg h,Q2,rL Z9,l,List.getElem?_drop,show k+1+(i-k)=i+1 by omega,←Q2]
theorem nU{T:List Txn}{k:Nat}(h:k<T.length):(T.take k++T.drop (k+1)).length=T.length-1:=by
 rw[J3,List.length_take,List.length_drop];omega
theorem b5W{L:List Rec}{T:List Txn}{k:Nat}(d:k<T.length):∀n,n<T.length->v8 L (T.take k++T.drop (k+1)) n+(if k<=n then 1+und L 61 (T.getD k dz).Z else 0)=v8 L T (if k<=n then n+1 else n)
 |0,_=>by
  by_cases h:k=0
  ·subst h;rw[if_pos (U9 _),if_pos (U9 _)];show 0+_=0+_;rfl
  ·rw[if_neg Z9,if_neg Z9]
   rfl
 |n+1,hn=>by
  have ih:=b5W (L:=L) d n Z9
  have e:v8 L (T.take k++T.drop (k+1)) (n+1)=v8 L (T.take k++T.drop (k+1)) n+(1+und L 61 (T.getD (if n<k then n else n+1) dz).Z):=by
   conv=>lhs;unfold v8
   rw[xC n d]
  by_cases h:k<=n
  ·rw[if_pos h,if_pos h] at ih;have e1:(if n<k then n else n+1)=n+1:=if_neg Z9
   rw[e1] at e;have f:(if k<=n+1 then n+1+1 else n+1)=n+1+1:=if_pos Z9
   have e2:v8 L T (n+1+1)=v8 L T (n+1)+(1+und L 61 (T.getD (n+1) dz).Z):=rfl;rw[e,f,if_pos (show k<=n+1 by omega)]
   omega
  ·rw[if_neg h,if_neg h] at ih;have e2:v8 L T (n+1)=v8 L T n+(1+und L 61 (T.getD n dz).Z):=rfl;have e1:(if n<k then n else n+1)=n:=if_pos Z9
   rw[e1] at e;by_cases g:k<=n+1
   ·have:k=n+1:=by omega
    subst this;have f:v8 L T (n+1+1)=v8 L T (n+1)+(1+und L 61 (T.getD (n+1) dz).Z):=rfl;rw[e,if_pos (U9 _),if_pos (U9 _)];omega
   ·rw[e,if_neg g,if_neg g];omega
theorem a92{L:List Rec}{T:List Txn}{k:Nat}(h:k<T.length):v8 L (T.take k++T.drop (k+1)) (T.take k++T.drop (k+1)).length+(1+und L 61 (T.getD k dz).Z)=v8 L T T.length:=by
 have:=b5W (L:=L) h (T.length-1) Z9
 rw[if_pos Z9,if_pos Z9,show T.length-1+1=T.length by omega] at this
 rw[nU h];exact this
theorem a0n{α:Type}[Inhabited α](f:α->Bool)(L:List α):∀n,n<=L.length->X8 f L n=(L.take n).filter f
 |0,_=>by rw[List.take_zero];rfl
 |n+1,h=>by
  have e:L.take (n+1)=L.take n++[L.getD n dz]:=by
   rw[List.take_add_one,J5 Z9,Q2,J5 Z9]
   rfl
  unfold X8;rw[e,List.filter_append,a0n f L n Z9]
  by_cases F:f (L.getD n dz)=true
  ·rw[if_pos F,List.filter_cons_of_pos F];rfl
  ·rw[if_neg F,List.filter_cons_of_neg F];simp
theorem tO{α:Type}[Inhabited α](f:α->Bool)(L:List α):X8 f L L.length=L.filter f:=by
 rw[a0n f L _ (U9 _),dC]
def b8P(w:Wt):Bool:=V9 w.tx 1 60&&V9 w.fo 1 60&&(w.tx !=w.fo)
def c5e(b a:Lck):Prop:=(qY a b||clash a b)=false
theorem zK{α:Type}[Inhabited α]{L:List α}{i:Nat}(h:i<L.length):L.getD i dz ∈ L:=by
 rw[Q2,J5 h]
 exact List.getElem_mem h
theorem yK{α:Type}[Inhabited α]{L:List α}{a:α}(h:a ∈ L):∃i,i<L.length/\L.getD i dz=a:=by
 obtain⟨i,hi,e⟩:=List.mem_iff_getElem.1 h;exact⟨i,hi,by rw[Q2,J5 hi];exact e⟩
theorem jM{α:Type}[Inhabited α]{L:List α}{i:Nat}(h:i<L.length):L.getD i dz=L[i]:=by
 rw[Q2,J5 h]
 rfl
theorem xT{l:Lks}:H3 l=true↔(∀a ∈ l.H,m6 a=true)/\l.H.Pairwise c5e/\l.H.length<=60/\l.W.length<=100/\∀w ∈ l.W,b8P w=true:=by
 unfold H3;simp only[M1,xO,i5];rw[R8,R8,List.pairwise_iff_getElem];refine⟨λ⟨h1,⟨h2,h3⟩,h4⟩=>⟨λa A=>?_,λi j hi hj h=>?_,h2,h3,λw hw=>?_⟩,λ⟨h1,h2,h3,h4,h5⟩=>⟨λi hi=>?_,⟨h3,h4⟩,λi hi=>?_⟩⟩
 ·obtain⟨i,hi,rfl⟩:=yK A;have:=h1 i hi;unfold D9 at this;simp only[yY,yC] at this;exact this.1
 ·have:=h1 j hj;unfold D9 at this;simp only[yY] at this;have:=R8.1 this.2 i h;unfold yM at this;rw[jM hj,jM hi] at this;exact this
 ·obtain⟨i,hi,rfl⟩:=yK hw;have:=h4 i hi;unfold B8 at this;unfold b8P;simp only[yY,yC] at this;rw[this.1.1,this.1.2]
  simpa using this.2
 ·unfold D9;rw[h1 _ (zK hi)];simp only[Bool.not_true,Bool.false_or];refine R8.2 λj hj=>?_
  unfold yM;rw[jM hi,jM (show j<l.H.length by omega)]
  exact h2 j i Z9 hi hj
 ·have:=h5 _ (zK hi);unfold b8P at this;unfold B8;simp only[M1] at this;rw[this.1.1,this.1.2]
  simpa using this.2
theorem c3o{l:Lks}(h:H3 l=true)(tx:Int):H3 (frK l tx)=true:=by
 obtain⟨f,d,i,e,g⟩:=xT.1 h;unfold frK;rw[tO,tO];refine xT.2 ⟨λa A=>f a (List.mem_filter.1 A).1,List.Pairwise.filter _ d,Nat.le_trans (List.length_filter_le _ _) i,Nat.le_trans (List.length_filter_le _ _) e,λw W=>g w (List.mem_filter.1 W).1⟩
theorem a9X{L:List Rec}{x:Rec}(h:o8 (L++[x])):und (L++[x]) 61 ((L.length:Int)+1)=if x.k=3 then und L 61 x.n else(if x.k=2 then 1 else 0)+und L 61 x.p:=by
 have e:(L++[x]).length=L.length+1:=X3
 have f:o8 L:=⟨by have:=h.1;omega,λi hi=>by
  have:=h.2 i Z9
  rw[uL dz L x i Z9,if_neg Z9] at this
  exact this⟩
 obtain⟨o,q,j,l⟩:=h.prev (at_:=(L.length:Int)+1) Z9 Z9
 rw[l9] at o q j l;have g:=h.1;conv=>lhs;unfold und
 rw[if_neg Z9,l9]
 by_cases d:x.k=3
 ·rw[if_pos d,if_pos d,sQ f 60 _ Z9,a1y f 60 61 _ Z9 Z9 Z9]
 ·rw[if_neg d,if_neg d,sQ f 60 _ Z9,a1y f 60 61 _ Z9 Z9 Z9]
theorem a7c{T:List Txn}{k:Nat}{n x:Int}(d:k<T.length)(h:InT T x):InT (T.set k ⟨(T.getD k dz).id,n⟩) x:=by
 obtain⟨j,J,e⟩:=h;refine⟨j,by rw[zN];exact J,?_⟩
 rw[xG _ j d];by_cases h:j=k
 ·rw[if_pos h,←e,h]
 ·rw[if_neg h];exact e
abbrev c6J(L:List Rec)(tn:Txn)(x:Rec):Prop:=C8 x/\x.l=(L.length:Int)+1/\x.t=tn.id/\x.p=tn.Z
def a6S(L:List Rec)(t:Txn)(x:Rec):Nat:=if x.k=3 then und L 61 x.n else(if x.k=2 then 1 else 0)+und L 61 t.Z
theorem c3Y{L:List Rec}{T:List Txn}{lk:Lks}{nx:Int}{x:Rec}(h:EH L T lk nx){k:Nat}(hk:k<T.length)(X:c6J L (T.getD k dz) x)(v:x.k<=3)(N:x.k=3->ownR L x.n x.t=true)
  (M:L.length+1+v8 L T T.length+a6S L (T.getD k dz) x<=60+und L 61 (T.getD k dz).Z):
  EH (L++[x]) (T.set k ⟨(T.getD k dz).id,(L.length:Int)+1⟩) lk nx/\
  v8 (L++[x]) (T.set k ⟨(T.getD k dz).id,(L.length:Int)+1⟩) T.length+und L 61 (T.getD k dz).Z=v8 L T T.length+a6S L (T.getD k dz) x/\
  und (L++[x]) 61 ((L.length:Int)+1)=a6S L (T.getD k dz) x:=by
 obtain⟨hp,r,o,f⟩:=X;have g:1<=x.k:=hp.2.2.2.2.1;have I:LI (L++[x]):=a6H h.li hp r λ_=>⟨.inr (by rw[f,o];exact h.ow k hk),N⟩
 have u:=a9X I.1;rw[f] at u;have u:und (L++[x]) 61 ((L.length:Int)+1)=a6S L (T.getD k dz) x:=u;have d:∀i,i<T.length->(T.getD i dz).Z<=L.length:=λi hi=>(yX (h.ow i hi)).2
 have hlen:(T.set k (⟨(T.getD k dz).id,(L.length:Int)+1⟩:Txn)).length=T.length:=zN;have l:v8 (L++[x]) (T.set k ⟨(T.getD k dz).id,(L.length:Int)+1⟩) T.length+und L 61 (T.getD k dz).Z=v8 L T T.length+a6S L (T.getD k dz) x:=by
  have q:=b3P (L:=L++[x]) (T:=T) ⟨(T.getD k dz).id,(L.length:Int)+1⟩ hk T.length;rw[if_pos hk,if_pos hk,a1M h.li.1 _ d,sQ h.li.1 61 _ (d k hk),u] at q;exact q
 refine⟨⟨I,by rw[hlen];exact h.t10,h.nxr,h.lks,λi hi=>?_,λi j hij hj=>?_,λi hi=>?_,λi hi=>a7c hk (h.hd i hi),λi hi=>⟨a7c hk (h.wt i hi).1,a7c hk (h.wt i hi).2⟩,?_⟩,l,u⟩
 ·rw[hlen] at hi;rw[xG _ i hk];by_cases e:i=k
  ·rw[if_pos e];exact h.id k hk
  ·rw[if_neg e];exact h.id i hi
 ·rw[hlen] at hj;have:=h.asc i j hij hj;rw[xG _ i hk,xG _ j hk];by_cases e:i=k
  ·rw[if_pos e,if_neg Z9]
   rw[e] at this;exact this
  ·rw[if_neg e];by_cases e2:j=k
   ·rw[if_pos e2];rw[e2] at this;exact this
   ·rw[if_neg e2];exact this
 ·rw[hlen] at hi;rw[xG _ i hk];by_cases e:i=k
  ·rw[if_pos e];have:=a8Q (L:=L) (x:=x) ⟨g,v⟩;rw[o] at this;exact this
  ·rw[if_neg e];exact xM (h.ow i hi)
 ·rw[hlen];have e:(L++[x]).length=L.length+1:=by simp
  omega
theorem a0U{L:List Rec}{T:List Txn}{k:Nat}(h:k<T.length):1<=v8 L T T.length:=by
 have:=a92 (L:=L) h;omega
theorem a6Q{T:List Txn}{k:Nat}{x:Int}(d:k<T.length)(h:InT T x)(X:x≠(T.getD k dz).id):InT (T.take k++T.drop (k+1)) x:=by
 obtain⟨j,J,e⟩:=h;have f:j≠k:=λg=>X (by rw[←e,g])
 by_cases l:j<k
 ·exact⟨j,by rw[nU d];omega,by rw[xC j d,if_pos l];exact e⟩
 ·exact⟨j-1,by rw[nU d];omega,by rw[xC (j-1) d,if_neg Z9,show j-1+1=j by omega];exact e⟩
theorem c4s{L:List Rec}{T:List Txn}{lk:Lks}{nx:Int}{x:Rec}(h:EH L T lk nx){k:Nat}(hk:k<T.length)(hp:C8 x)(g:x.l=(L.length:Int)+1)(o:4<=x.k):
  EH (L++[x]) (T.take k++T.drop (k+1)) (frK lk (T.getD k dz).id) nx/\
  (L++[x]).length+v8 (L++[x]) (T.take k++T.drop (k+1)) (T.take k++T.drop (k+1)).length+und L 61 (T.getD k dz).Z=L.length+v8 L T T.length:=by
 have hlen:=nU hk;have e:(L++[x]).length=L.length+1:=X3
 have M:=h.rm;have q:=a0U (L:=L) hk;have t:∀i,i<(T.take k++T.drop (k+1)).length->((T.take k++T.drop (k+1)).getD i dz).Z<=L.length:=λi hi=>by
  rw[xC i hk];rw[hlen] at hi;split
  ·exact(yX (h.ow i Z9)).2
  ·exact(yX (h.ow (i+1) Z9)).2
 have f:(L++[x]).length+v8 (L++[x]) (T.take k++T.drop (k+1)) (T.take k++T.drop (k+1)).length+und L 61 (T.getD k dz).Z=L.length+v8 L T T.length:=by
  rw[a1M h.li.1 _ t,e];have:=a92 (L:=L) hk;omega
 have d:=c3o h.lks (T.getD k dz).id;refine⟨⟨a6H h.li hp g λn=>Z9,by rw[hlen];have:=h.t10;omega,h.nxr,d,λi hi=>?_,λi j J hj=>?_,λi hi=>?_,λi hi=>?_,λi hi=>?_,Z9⟩,f⟩
 ·rw[hlen] at hi;rw[xC i hk];split
  ·exact h.id i Z9
  ·exact h.id (i+1) Z9
 ·rw[hlen] at hj;rw[xC i hk,xC j hk];split
  ·split
   ·exact h.asc i j J Z9
   ·exact h.asc i (j+1) Z9 Z9
  ·rw[if_neg Z9]
   exact h.asc (i+1) (j+1) Z9 Z9
 ·rw[hlen] at hi;rw[xC i hk];split
  ·exact xM (h.ow i Z9)
  ·exact xM (h.ow (i+1) Z9)
 ·have hm:=zK hi;have hm:(frK lk (T.getD k dz).id).H.getD i dz ∈ X8 (hF (T.getD k dz).id) lk.H lk.H.length:=hm;rw[tO] at hm;obtain⟨m1,m2⟩:=List.mem_filter.1 hm;obtain⟨j,hj,ej⟩:=yK m1;have:=h.hd j hj;rw[ej] at this;refine a6Q hk this λe=>?_
  unfold hF at m2;rw[e] at m2;simp at m2
 ·have hm:=zK hi;have hm:(frK lk (T.getD k dz).id).W.getD i dz ∈ X8 (wF (T.getD k dz).id) lk.W lk.W.length:=hm;rw[tO] at hm;obtain⟨m1,m2⟩:=List.mem_filter.1 hm;obtain⟨j,hj,ej⟩:=yK m1;have W:=h.wt j hj;rw[ej] at W;unfold wF at m2;simp only[M1,bne_iff_ne,ne_eq] at m2;exact⟨a6Q hk W.1 m2.1,a6Q hk W.2 m2.2⟩
theorem c4C{L:List Rec}{T:List Txn}{lk:Lks}{nx:Int}{x:Rec}(h:EH L T lk nx)(z:T.length<=9)(q:nx<=60)(M:L.length+v8 L T T.length+2<=60)(hp:C8 x)(g:x.l=(L.length:Int)+1)(o:x.t=nx)(r:x.k=1):
  EH (L++[x]) (T++[⟨nx,(L.length:Int)+1⟩]) lk (nx+1):=by
 have e:(L++[x]).length=L.length+1:=X3
 have eT:(T++[(⟨nx,(L.length:Int)+1⟩:Txn)]).length=T.length+1:=X3
 have d:x.p=0:=(hp.2.2.2.2.2.2.2.2.2.2.2.2.2.2.2.2 Z9).2.2.2.2.2.2.1 r
 have I:LI (L++[x]):=a6H h.li hp g λ_=>⟨.inl d,λe=>Z9⟩
 have u:=a9X I.1;rw[if_neg Z9,if_neg Z9,d,iJ (Int.le_refl 0)] at u
 have at_:∀i,i<T.length+1->(T++[(⟨nx,(L.length:Int)+1⟩:Txn)]).getD i dz=if i=T.length then⟨nx,(L.length:Int)+1⟩ else T.getD i dz:=λi hi=>uL dz T _ i hi
 have N:∀y,InT T y->InT (T++[(⟨nx,(L.length:Int)+1⟩:Txn)]) y:=λy ⟨j,hj,f⟩=>⟨j,Z9,by rw[at_ j Z9,if_neg Z9];exact f⟩
 have hlast:∀i,i<T.length->(T.getD i dz).Z<=L.length:=λi hi=>(yX (h.ow i hi)).2
 have X:=h.nxr;have hns:∀n,n<=T.length->v8 (L++[x]) (T++[(⟨nx,(L.length:Int)+1⟩:Txn)]) n=v8 (L++[x]) T n:=λn=>by
  induction n with
  |zero=>intro _;rfl
  |succ n v=>
   intro q;unfold v8;rw[v Z9,at_ n Z9,if_neg Z9]
 refine⟨I,Z9,Z9,h.lks,λi hi=>?_,λi j J hj=>?_,λi hi=>?_,λi hi=>N _ (h.hd i hi),λi hi=>⟨N _ (h.wt i hi).1,N _ (h.wt i hi).2⟩,?_⟩
 ·rw[eT] at hi;rw[at_ i hi];by_cases c:i=T.length
  ·rw[if_pos c];dsimp only;omega
  ·rw[if_neg c];have:=h.id i Z9
   omega
 ·rw[eT] at hj;rw[at_ i Z9,at_ j hj,if_neg Z9]
  by_cases c:j=T.length
  ·rw[if_pos c];have:=h.id i Z9
   dsimp only;omega
  ·rw[if_neg c];exact h.asc i j J Z9
 ·rw[eT] at hi;rw[at_ i hi];by_cases c:i=T.length
  ·rw[if_pos c];have:=a8Q (L:=L) (x:=x) Z9
   rw[o] at this;exact this
  ·rw[if_neg c];exact xM (h.ow i Z9)
 ·rw[eT,e];unfold v8;rw[hns _ (U9 _),a1M h.li.1 _ hlast,at_ T.length Z9,if_pos rfl]
  dsimp only;omega
def phi(e:Eng):Nat:=e.s.L.length+c9 e
theorem a9E{T:List Txn}{k:Nat}(t:Txn):(T.set k t).take k++(T.set k t).drop (k+1)=T.take k++T.drop (k+1):=by
 rw[List.take_set_of_le (U9 k),List.drop_set_of_lt (Nat.lt_succ_self k)]
theorem EI.rcp{e:Eng}(h:EI e){k:Nat}(d:k<e.X.length){r:Rec}(q:r.k≠6)(v:2<=r.k/\r.k<=5)(j:r.k≠3->r.n=0)(o:r.k≠2->r.k≠3->r.g=0/\r.s=0/\r.b=[]/\r.a=[])(A:0<=r.n/\r.n<=(e.s.L.length:Int))(x:0<=r.g/\r.g<=7)(z:0<=r.s/\r.s<=3)(f:r.b.length<=30/\r.a.length<=30)(l:r.k=3->r.b=[]):
  C8 (T0 e.s (N5 e k r)):=by
 have i:=h.g.ep;have t:=h.h.id k d;have N:=h.h.nxr;have u:=yX (h.h.ow k d);have R:=h.h.rm;have hp:=a0U (L:=e.s.L) d;unfold C8 T0 N5;dsimp only;exact⟨i.1,i.2,Z9,Z9,Z9,Z9,Z9,Z9,Z9,Z9,Z9,Z9,Z9,Z9,f.1,λe=>absurd e q,λ_=>⟨Z9,Z9,f.2,o,j,l,⟨λe=>Z9,λe=>Z9⟩⟩⟩
theorem EI.app{e:Eng}(h:EI e){k:Nat}(d:k<e.X.length){r:Rec}(R:C8 (T0 e.s (N5 e k r))):GInv (x4 e k r).s:=by
 have M:=h.h.rm;have hp:=a0U (L:=e.s.L) d;exact c00 h.g Z9 ((R2 _).2 R)
theorem c2G{e:Eng}(h:EI e):EI (V1 e).1:=by
 unfold V1;rw[if_pos h.up];have r:=h.h.rm;have n:=h.h.nxr;have f:=h.h.t10;by_cases h1:e.N>60∨e.X.length=10
 ·rw[if_pos h1];exact h
 ·rw[if_neg h1];by_cases h2:(e.s.L.length:Int)+c9 e+2<=60
  ·rw[if_pos h2];have h2:e.s.L.length+v8 e.s.L e.X e.X.length+2<=60:=by
    have:c9 e=v8 e.s.L e.X e.X.length:=rfl;omega
   have d:=h.g.ep;have A:(e.X++[(⟨e.N,0⟩:Txn)]).getD e.X.length dz=⟨e.N,0⟩:=by rw[uL dz _ _ _ Z9,if_pos rfl]
   have hp:C8 (T0 e.s (N5 (vX e) e.X.length mG)):=by
    unfold C8 T0 N5 vX mG;dsimp only;rw[A];dsimp only;exact⟨d.1,d.2,Z9,by show(e.s.L.length:Int)+1<=60;omega,Z9,Z9,Z9,by show(0:Int)<=(e.s.L.length:Int)+1-1;omega,Z9,by show(0:Int)<=(e.s.L.length:Int)+1-1;omega,Z9,Z9,Z9,Z9,N7 _,λe=>Z9,λ_=>⟨Z9,Z9,N7 _,λ_ _=>Z8,λ_=>rfl,λ_=>rfl,⟨λ_=>rfl,λ_=>rfl⟩⟩⟩
   have f:(T0 e.s (N5 (vX e) e.X.length mG)).t=e.N:=by
    show((e.X++[(⟨e.N,0⟩:Txn)]).getD e.X.length dz).id=_;rw[A]
   have i:=c4C h.h Z9 Z9 h2 hp rfl f rfl
   have j:(e.X++[(⟨e.N,0⟩:Txn)]).set e.X.length ⟨((e.X++[(⟨e.N,0⟩:Txn)]).getD e.X.length dz).id,(e.s.L.length:Int)+1⟩=e.X++[⟨e.N,(e.s.L.length:Int)+1⟩]:=by
    rw[A,List.set_append_right _ _ (U9 _),j_h];rfl
   refine⟨c00 h.g (show e.s.L.length<60 by omega) ((R2 _).2 hp),h.up,?_⟩
   show EH (e.s.L++[T0 e.s (N5 (vX e) e.X.length mG)]) ((e.X++[(⟨e.N,0⟩:Txn)]).set e.X.length ⟨((e.X++[(⟨e.N,0⟩:Txn)]).getD e.X.length dz).id,(e.s.L.length:Int)+1⟩) e.lk (e.N+1);rw[j];exact i
  ·rw[if_neg h2];exact h
theorem b8w{e:Eng}(h:EI e){k:Nat}(f:k<e.X.length){r:Rec}(R:C8 (T0 e.s (N5 e k r)))(o:4<=r.k){s:Sto}(n:GInv s)(l:s.L=(x4 e k r).s.L):
  EI (a2M {x4 e k r with s:=s} k)/\phi (a2M {x4 e k r with s:=s} k)+und e.s.L 61 (e.X.getD k dz).Z=phi e:=by
 obtain⟨q,i⟩:=c4s (x:=T0 e.s (N5 e k r)) h.h f R rfl o;have j:(e.X.set k ⟨(e.X.getD k dz).id,(e.s.L.length:Int)+1⟩).take k++(e.X.set k ⟨(e.X.getD k dz).id,(e.s.L.length:Int)+1⟩).drop (k+1)=e.X.take k++e.X.drop (k+1):=a9E _;have d:((e.X.set k ⟨(e.X.getD k dz).id,(e.s.L.length:Int)+1⟩).getD k dz).id=(e.X.getD k dz).id:=b9U f;have g:a2M {x4 e k r with s:=s} k=⟨s,e.up,e.X.take k++e.X.drop (k+1),frK e.lk (e.X.getD k dz).id,e.N⟩:=by
  show(⟨s,e.up,(e.X.set k ⟨(e.X.getD k dz).id,(e.s.L.length:Int)+1⟩).take k++(e.X.set k ⟨(e.X.getD k dz).id,(e.s.L.length:Int)+1⟩).drop (k+1),frK e.lk ((e.X.set k ⟨(e.X.getD k dz).id,(e.s.L.length:Int)+1⟩).getD k dz).id,e.N⟩:Eng)=_;rw[j,d]
 rw[g];have l:s.L=e.s.L++[T0 e.s (N5 e k r)]:=l;refine⟨⟨n,h.up,by dsimp only;rw[l];exact q⟩,?_⟩
 unfold phi c9;dsimp only;rw[l];exact i
theorem c3Z{e:Eng}(h:EI e)(tx:Int):EI (U3 e tx).1:=by
 unfold U3;by_cases h0:(P7 e tx).2=0
 ·obtain⟨hu,k,e1,hk,hi,ha⟩:=wU h0;have hR:C8 (T0 e.s (N5 e k a1D)):=h.rcp hk W6 W6 (λ_=>rfl) (λ_ _=>Z8) ⟨Int.le_refl _,kX⟩ W6 W6 W6 (λ_=>rfl)
  have i:=h.app hk hR;have n:=tQ e k a1D;obtain⟨d,g,_⟩:=a48 (l:=((e.s.L.length+1:Nat):Int)) i (by rw[n];exact Int.le_refl _)
  have f:(uY e k).2=true:=g;rw[if_pos h0,e1,E8,if_pos f];exact(b8w h hk hR W6 d (vZ _ _).2.2.1).1
 ·rw[if_neg h0];exact h
structure UndP(e:Eng)(k:Nat)(u:(Eng×Nat)×Bool)(to:Int):Prop where
 al:u.2=true
 ei:EI u.1.1
 ln:u.1.1.X.length=e.X.length
 ph:phi u.1.1=phi e
 un:∃a,a<=to/\und u.1.1.s.L 61 (u.1.1.X.getD k dz).Z=und u.1.1.s.L 61 a
def cF(tx:Int)(w:Wt):Bool:=w.tx !=tx
def K6(l:Lks)(tx:Int):Lks:=⟨l.H,X8 (cF tx) l.W l.W.length⟩
def a5N(a b:Int):Bool:=(a==b)||(a==4)||(b==1)
def uX(L:List Lck)(x:Lck)(i:Nat):Bool:=((L.getD i dz).tx==x.tx)&&((L.getD i dz).ta==x.ta)&&((L.getD i dz).row==x.row)&&a5N (L.getD i dz).mo x.mo
def eU(L:List Wt)(w:Wt)(i:Nat):Bool:=((L.getD i dz).tx==w.tx)&&(((L.getD i dz).fo==w.fo)&&true)
def V5(L:List Lck)(x:Lck):Nat->List Wt
 |0=>[]
 |i+1=>if clash (L.getD i dz) x=true then(if anyI (V5 L x i).length (eU (V5 L x i) ⟨x.tx,(L.getD i dz).tx⟩)=true then V5 L x i else V5 L x i++[⟨x.tx,(L.getD i dz).tx⟩]) else V5 L x i
def thr(R:List Int)(a:Int)(i:Nat):Bool:=R.getD i 0==a
def scn(W:List Wt)(tx a:Int)(R:List Int):Nat->Option (List Int)
 |0=>some R
 |k+1=>match scn W tx a R k with
  |none=>none
  |some Q=>if(W.getD k dz).tx=a then(if(W.getD k dz).fo=tx then none else if anyI Q.length (thr Q (W.getD k dz).fo)=true then some Q else some (Q++[(W.getD k dz).fo])) else some Q
def a1j(W:List Wt)(tx:Int):Nat->Nat->List Int->Bool
 |0,_,_=>false
 |f+1,i,R=>if i<R.length then(match scn W tx (R.getD i 0) R W.length with|none=>true|some Q=>a1j W tx f (i+1) Q) else false
def rnd(W:List Wt)(tx:Int):Bool:=a1j W tx 200 0 [tx]
def G6(l:Lks)(x:Lck):List Wt:=V5 l.H x l.H.length
def X1(l:Lks)(x:Lck):Lks×Int:=
 if anyI l.H.length (uX l.H x)=true then(K6 l x.tx,0) else
 if(G6 l x).length=0 then(if l.H.length=60 then(K6 l x.tx,7) else(⟨l.H++[x],(K6 l x.tx).W⟩,0)) else
 if(K6 l x.tx).W.length+(G6 l x).length>100 then(K6 l x.tx,7) else
 if rnd ((K6 l x.tx).W++G6 l x) x.tx=true then(K6 l x.tx,14) else(⟨l.H,(K6 l x.tx).W++G6 l x⟩,13)
theorem c3h(a b:Int):tP a b=tP b a:=by
 unfold tP;rw[Bool.eq_iff_iff];simp only[M1,qR,bne_iff_ne,ne_eq,beq_iff_eq];omega
theorem c0z(a b:Lck):clash a b=clash b a:=by
 unfold clash uE;rw[c3h a.mo b.mo,Bool.eq_iff_iff];simp only[M1,bne_iff_ne,ne_eq,beq_iff_eq];constructor
 ·rintro⟨⟨h,f,d⟩,g⟩;exact⟨⟨λe=>h e.symm,f.symm,d.symm⟩,g⟩
 ·rintro⟨⟨h,f,d⟩,g⟩;exact⟨⟨λe=>h e.symm,f.symm,d.symm⟩,g⟩
theorem b3A{L:List Lck}{x:Lck}:∀n,V5 L x n=[]->∀i,i<n->clash (L.getD i dz) x=false
 |0,_,_,hi=>absurd hi (J9 _)
 |n+1,h,i,hi=>by
  unfold V5 at h;cases C:clash (L.getD n dz) x with
  |true=>
   rw[if_pos C] at h;split at h
   ·rename_i A;rw[h] at A;obtain⟨_,d,_⟩:=S8.1 A;exact absurd d (J9 _)
   ·simp at h
  |false=>
   rw[if_neg (by rw[C];simp)] at h
   by_cases e:i=n
   ·rw[e];exact C
   ·exact b3A n h i Z9
theorem sS{L:List Lck}{x:Lck}{w:Wt}:∀n,n<=L.length->w ∈ V5 L x n->∃i,i<L.length/\w=⟨x.tx,(L.getD i dz).tx⟩/\(L.getD i dz).tx≠x.tx
 |0,_,h=>J4
 |n+1,hn,h=>by
  unfold V5 at h;split at h
  ·rename_i hc;split at h
   ·exact sS n Z9 h
   ·rcases List.mem_append.1 h with h|h
    ·exact sS n Z9 h
    ·rw[List.mem_singleton] at h;refine⟨n,Z9,h,?_⟩
     unfold clash at hc;simp only[M1,bne_iff_ne,ne_eq] at hc;exact hc.1.1
  ·exact sS n Z9 h
theorem a6w{L:List Lck}{x:Lck}:∀n,(V5 L x n).length<=n
 |0=>U9 0
 |n+1=>by
  have i:=a6w (L:=L) (x:=x) n;unfold V5;split
  ·split
   ·omega
   ·rw[J3,List.length_singleton];omega
  ·omega
structure LkP(T:List Txn)(l:Lks):Prop where
 ok:H3 l=true
 hd:∀a ∈ l.H,InT T a.tx
 wt:∀w ∈ l.W,InT T w.tx/\InT T w.fo
theorem c6m{L:List Rec}{T:List Txn}{lk:Lks}{nx:Int}(h:EH L T lk nx):LkP T lk:=by
 refine⟨h.lks,λa A=>?_,λw W=>?_⟩
 ·obtain⟨i,hi,rfl⟩:=yK A;exact h.hd i hi
 ·obtain⟨i,hi,rfl⟩:=yK W;exact h.wt i hi
theorem c6g{L:List Rec}{T:List Txn}{lk l:Lks}{nx:Int}(h:EH L T lk nx)(hp:LkP T l):EH L T l nx:=
 ⟨h.li,h.t10,h.nxr,hp.ok,h.id,h.asc,h.ow,λ_ hi=>hp.hd _ (zK hi),λ_ hi=>hp.wt _ (zK hi),h.rm⟩
theorem c4T{T:List Txn}{l:Lks}(h:LkP T l)(tx:Int):LkP T (K6 l tx):=by
 obtain⟨g,e,i⟩:=h;obtain⟨d,f,j,A,n⟩:=xT.1 g;unfold K6;rw[tO];exact⟨xT.2 ⟨d,f,j,Nat.le_trans (List.length_filter_le _ _) A,λw W=>n w (List.mem_filter.1 W).1⟩,e,λw W=>i w (List.mem_filter.1 W).1⟩
theorem c4X{T:List Txn}{l:Lks}{x:Lck}(h:LkP T l)(X:m6 x=true)(hi:InT T x.tx):LkP T (X1 l x).1:=by
 have o:=c4T h x.tx;obtain⟨C,c2,c3⟩:=o;obtain⟨A,a2,j,a4,a5⟩:=xT.1 C;have A:∀a ∈ l.H,m6 a=true:=A;have j:l.H.length<=60:=j;have c2:∀a ∈ l.H,InT T a.tx:=c2;unfold X1;split
 ·exact⟨C,c2,c3⟩
 ·rename_i hh;split
  ·rename_i hw;split
   ·exact⟨C,c2,c3⟩
   ·rename_i h60;refine⟨xT.2 ⟨λa ha=>?_,List.pairwise_append.2 ⟨a2,List.pairwise_singleton _ _,λb hb a ha=>?_⟩,a0o,a4,a5⟩,λa ha=>?_,c3⟩
    ·rcases List.mem_append.1 ha with ha|ha
     ·exact A a ha
     ·rw[List.mem_singleton.1 ha];exact X
    ·rw[List.mem_singleton.1 ha];obtain⟨i,hi',rfl⟩:=yK (show b ∈ l.H from hb)
     have n:=b3A _ (List.length_eq_zero_iff.1 hw) i hi';have g:uX l.H x i=false:=by
      cases q:uX l.H x i with
      |false=>rfl
      |true=>exact absurd (S8.2 ⟨i,hi',q⟩) hh
     unfold c5e;rw[c0z,n,Bool.or_false];cases d:qY x (l.H.getD i dz) with
     |false=>rfl
     |true=>
      unfold qY at d;simp only[M1,beq_iff_eq,Bool.and_true] at d;unfold uX a5N at g;rw[d.1,d.2.1,d.2.2.1,d.2.2.2] at g;simp at g
    ·rcases List.mem_append.1 ha with ha|ha
     ·exact c2 a ha
     ·rw[List.mem_singleton.1 ha];exact hi
  ·split
   ·exact⟨C,c2,c3⟩
   ·rename_i h100;split
    ·exact⟨C,c2,c3⟩
    ·have t:1<=x.tx/\x.tx<=60:=by
      unfold m6 at X;simp only[M1,R9] at X;exact X.1.1.1.1
     refine⟨xT.2 ⟨A,a2,j,by dsimp only;rw[J3];omega,λw hw=>?_⟩,c2,λw hw=>?_⟩
     ·rcases List.mem_append.1 hw with hw|hw
      ·exact a5 w hw
      ·obtain⟨i,hi',rfl,f⟩:=sS _ (U9 _) hw;have L:=A _ (zK hi');unfold m6 at L;simp only[M1,R9] at L;unfold b8P;simp only[M1,R9,bne_iff_ne,ne_eq];exact⟨⟨t,L.1.1.1.1⟩,λe=>f e.symm⟩
     ·rcases List.mem_append.1 hw with hw|hw
      ·exact c3 w hw
      ·obtain⟨i,hi',rfl,f⟩:=sS _ (U9 _) hw;exact⟨hi,c2 _ (zK hi')⟩
def O4(e:Eng)(s:Sto):Eng:={e with s:=s}
theorem cK{e:Eng}(h:EI e){s:Sto}(d:GInv s)(l:s.L=e.s.L):EI (O4 e s):=⟨d,h.up,by show EH s.L _ _ _;rw[l];exact h.h⟩
def P1(e:Eng)(k:Nat)(ta row mo:Int):Lck:=⟨(e.X.getD k dz).id,ta,row,mo⟩
def D7(e:Eng)(k:Nat)(ta row mo:Int):Eng:={e with lk:=(X1 e.lk (P1 e k ta row mo)).1}
theorem b77{tx ta row mo:Int}(h:1<=tx/\tx<=60)(f:1<=ta/\ta<=3)(d: -1<=row/\row<=1000)(g:1<=mo/\mo<=4)(e:row<0∨3<=mo):m6 ⟨tx,ta,row,mo⟩=true:=by
 unfold m6;simp only[M1,qR,i5,R9];exact⟨⟨⟨⟨h,f⟩,d⟩,g⟩,e⟩
structure LokR(ta row mo:Int):Prop where
 a:1<=ta/\ta<=3
 b: -1<=row/\row<=1000
 c:1<=mo/\mo<=4
 d:row<0∨3<=mo
theorem uC{e:Eng}(h:EI e){k:Nat}(f:k<e.X.length){ta row mo:Int}(r:LokR ta row mo):EI (D7 e k ta row mo):=by
 have i:=h.h.id k f;have n:=h.h.nxr;exact⟨h.g,h.up,c6g h.h (c4X (c6m h.h) (b77 Z9 r.a r.b r.c r.d) ⟨k,f,rfl⟩)⟩
def kepA(L:List Rec)(g s:Int):Nat->Int->Bool
 |0,_=>false
 |f+1,a=>if a<=0 then false else if(X9 L a).k=3 then kepA L g s f (X9 L a).n else if(X9 L a).k=2/\(X9 L a).g=g/\(X9 L a).s=s then true else kepA L g s f (X9 L a).p
def tD(e:Eng)(tx g s:Int)(i:Nat):Bool:= !((e.X.getD i dz).id==tx)&&kepA e.s.L g s 61 (e.X.getD i dz).Z
def wL(e:Eng)(tx g s:Int):Bool:=anyI e.X.length (tD e tx g s)
structure Plc where
 a:Int
 b:Int
 c:Int
 d:Int
 deriving Inhabited
def a1a(t:Bz)(ta id:Int):Bool:=(tX t).2.2&&((tX t).1==ta)&&((tX t).2.1.id==id)
def k7(e:Eng)(tx ta id:Int)(no:Nat)(p:Pg)(A:Plc):Nat->Plc
 |0=>A
 |i+1=>let B:=k7 e tx ta id no p A i
  if p.sl.getD i []=[] then(if B.c<0/\wL e tx no i=false then⟨B.a,B.b,no,i⟩ else B)
  else if a1a (p.sl.getD i []) ta id=true/\B.a<0 then⟨no,i,B.c,B.d⟩ else B
def R1(e:Eng)(tx ta id:Int):Nat->Sto×Plc×Bool
 |0=>(e.s,⟨-1,-1,-1,-1⟩,true)
 |n+1=>if(R1 e tx ta id n).2.2=true then
   (if(Z4 (R1 e tx ta id n).1 n).2.2=true then((Z4 (R1 e tx ta id n).1 n).1,k7 e tx ta id n ((Z4 (R1 e tx ta id n).1 n).1.fr.getD (Z4 (R1 e tx ta id n).1 n).2.1 dz).pg (R1 e tx ta id n).2.1 4,true) else((Z4 (R1 e tx ta id n).1 n).1,(R1 e tx ta id n).2.1,false))
  else R1 e tx ta id n
def b9d(A:Plc):Prop:=(A.a= -1∨(0<=A.a/\A.a<=7/\0<=A.b/\A.b<=3))/\(A.c= -1∨(0<=A.c/\A.c<=7/\0<=A.d/\A.d<=3))
theorem b3q{e:Eng}{tx ta id:Int}{no:Nat}{p:Pg}{A:Plc}(N:no<8)(h:b9d A):∀n,n<=4->b9d (k7 e tx ta id no p A n)
 |0,_=>h
 |n+1,hn4=>by
  have i:=b3q (e:=e) (tx:=tx) (ta:=ta) (id:=id) (p:=p) N h n Z9
  unfold k7;dsimp only;split
  ·split
   ·exact⟨i.1,.inr ⟨X0,X0,X0,X0⟩⟩
   ·exact i
  ·split
   ·exact⟨.inr ⟨X0,X0,X0,X0⟩,i.2⟩
   ·exact i
theorem rH{e:Eng}(h:GInv e.s)(tx ta id:Int):∀n,n<=8->GInv (R1 e tx ta id n).1/\(R1 e tx ta id n).1.L=e.s.L/\(R1 e tx ta id n).2.2=true/\b9d (R1 e tx ta id n).2.1
 |0,_=>⟨h,rfl,rfl,.inl rfl,.inl rfl⟩
 |n+1,hn=>by
  obtain⟨f,d,l,g⟩:=rH h tx ta id n Z9
  obtain⟨⟨F,o,f3,i⟩,j⟩:=o4 f (no:=n) Z9
  unfold R1;rw[if_pos l,if_pos j];exact⟨F,i.1.trans d,rfl,b3q Z9 g 4 (U9 _)⟩
def L4(g s:Int)(b a:Bz):Rec:=⟨0,0,0,2,0,0,g,s,b,a⟩
def vS(e:Eng)(k:Nat)(r:Rec):Eng×Bool:=(O4 (x4 e k r) (S0 (x4 e k r).s (T0 e.s (N5 e k r))).1,(S0 (x4 e k r).s (T0 e.s (N5 e k r))).2)
def vP(e:Eng)(k:Nat)(g s:Int)(b a:Bz):Eng×Int:=if(e.s.L.length:Int)+1+c9 e+1>60 then(e,7) else
 if(vS e k (L4 g s b a)).2=true then((vS e k (L4 g s b a)).1,0) else(b1x (vS e k (L4 g s b a)).1,15)
theorem a1s{e:Eng}(h:EI e){k:Nat}(d:k<e.X.length){g s:Int}{b a:Bz}(i:0<=g/\g<=7)(f:0<=s/\s<=3)(B:b.length<=30)(A:a.length<=30)(R:e.s.L.length+c9 e+2<=60):
  EI (vS e k (L4 g s b a)).1/\(vS e k (L4 g s b a)).2=true:=by
 have j:C8 (T0 e.s (N5 e k (L4 g s b a))):=h.rcp d a86 a8I (λ_=>rfl) (λe _=>absurd rfl e) ⟨Int.le_refl _,kX⟩ i f ⟨B,A⟩ (λe=>by cases e)
 have l:=h.app d j;have n:=tQ e k (L4 g s b a);have N:a6S e.s.L (e.X.getD k dz) (T0 e.s (N5 e k (L4 g s b a)))=1+und e.s.L 61 (e.X.getD k dz).Z:=by
  unfold a6S;rw[if_neg (by show ¬ (2:Int)=3;decide),if_pos (show(T0 e.s (N5 e k (L4 g s b a))).k=2 from rfl)]
 have R:e.s.L.length+v8 e.s.L e.X e.X.length+2<=60:=R;obtain⟨q,_,_⟩:=c3Y (x:=T0 e.s (N5 e k (L4 g s b a))) h.h d ⟨j,Z8⟩ (by show(2:Int)<=3;decide) (λe=>by cases e) (by rw[N];omega)
 obtain⟨o,c2,C,_⟩:=b4f l (r:=T0 e.s (N5 e k (L4 g s b a))) ⟨i.1,by show g<8;omega⟩ ⟨f.1,by show s<4;omega⟩ ⟨by show(1:Int)<=(e.s.L.length:Int)+1;omega,by show(e.s.L.length:Int)+1<=_;rw[n];exact Int.le_refl _⟩ A
 refine⟨⟨o,h.up,?_⟩,c2⟩
 show EH (S0 (x4 e k (L4 g s b a)).s (T0 e.s (N5 e k (L4 g s b a)))).1.L _ _ _;rw[C];exact q
def A5(v:Val):Bz:=if v.k=0 then[1] else if v.k=1 then 2::D5 (v.n+1000000000).toNat else 3::(v.t++[0])
def tS(ta:Int)(r:Rw):Bz:=A5 ⟨1,ta,[]⟩++A5 ⟨1,r.id,[]⟩++A5 r.n++A5 r.name
def wN(e:Eng)(A:Plc)(s:Sto):Sto×Bz:=((Z4 s A.a.toNat).1,((Z4 s A.a.toNat).1.fr.getD (Z4 s A.a.toNat).2.1 dz).pg.sl.getD A.b.toNat [])
theorem a1x{e:Eng}{s:Sto}{A:Plc}(h:GInv s)(l:0<=A.a/\A.a<=7/\0<=A.b/\A.b<=3):GInv (wN e A s).1/\(wN e A s).1.L=s.L/\(wN e A s).2.length<=30/\(Z4 s A.a.toNat).2.2=true/\(Z4 s A.a.toNat).2.1<(Z4 s A.a.toNat).1.fr.length/\((Z4 s A.a.toNat).1.fr.getD (Z4 s A.a.toNat).2.1 dz).pg.sl.length=4:=by
 obtain⟨⟨F,f,f3,g⟩,i⟩:=o4 h (no:=A.a.toNat) Z9
 obtain⟨_,_,⟨_,_,d,j⟩,_⟩:=F.fp _ f;exact⟨F,g.1,j A.b.toNat (by rw[d];omega),i,f,d⟩
theorem GInv.B{s:Sto}(h:GInv s):b42 s:=by
 have j:=h.dg.n69;have f:=h.dg.kp;have n:=h.ca;have g:=h.l60;have l:=h.fr3;have key:∀r ∈ s.L,r.a.length<=38:=λr R=>by
  obtain⟨i,hi,e⟩:=List.getElem_of_mem R;have d:s.L.getD i dz=r:=by rw[Q2,J5 hi,e];rfl
  have:=(b56 (D8.1 h.rc i hi).1).2;rw[d] at this;exact this
 refine⟨⟨oS,oS,oS⟩,?_,⟨oS,λi hi=>?_⟩,λr R=>by have:=key r R;unfold N6;omega⟩
 ·exact⟨Z9,λr R=>by have:=key r R;omega⟩
 ·have:=(h.fp i hi).2.2.1.2.2.1;unfold PgB N6;omega
theorem aK{e:Eng}(h:EI e):e.lk.H.length<=60/\e.lk.W.length<=100/\e.X.length<=10:=by
 obtain⟨_,_,a,b,_⟩:=xT.1 h.h.lks;exact⟨a,b,h.h.t10⟩
theorem a3h{e:Eng}(h:EI e):oT e:=by
 obtain⟨a,b,c⟩:=aK h;exact⟨h.g.B,⟨oS,oS⟩,oS⟩
theorem bJ{e:Eng}(h:EI e):wG e:=⟨h.h.li.1,h.h.t10,λi hi=>(yX (h.h.ow i hi)).2⟩
def c5Q(s:Sto)(n:Nat)(p:Pg):Prop:=(∃i,i<s.fr.length/\(s.fr.getD i dz).no=(n:Int)/\(s.fr.getD i dz).pg=p)∨((∀i,i<s.fr.length->(s.fr.getD i dz).no≠(n:Int))/\(U4 s.d n).1=p)
def pgV(s:Sto)(n:Nat):Pg:=if 0<=frAt s.fr n then(s.fr.getD (frAt s.fr n).toNat dz).pg else(U4 s.d n).1
theorem a9W(s:Sto)(n:Nat):c5Q s n (pgV s n):=by
 unfold pgV;split
 ·rename_i h;exact .inl ⟨_,vB h,jF h,rfl⟩
 ·rename_i h;exact .inr ⟨λi hi=>oR h hi,rfl⟩
theorem a4w{s:Sto}(h:GInv s){n:Nat}{p:Pg}(hp:c5Q s n p):pgV s n=p:=by
 rcases hp with⟨i,hi,hn,hp⟩|⟨h1,hp⟩
 ·have:=a9R hi h.nd;rw[hn] at this;unfold pgV;rw[this,if_pos Z9,E8]
  exact hp
 ·unfold pgV;rw[if_neg (λhc=>h1 _ (vB hc) (jF hc))]
  exact hp
theorem b7g{s:Sto}{l:Int}(h:GInv s)(L:l<=s.L.length){n:Nat}(N:n<8):T7 (W5 s l).1.d (1+n)=T7 s.d (1+n):=by
 by_cases e:l<=s.S
 ·rw[r8 e]
 ·have hF:=h.inv.flu L;have u:=h.su;obtain⟨f,g⟩:=a6K h.dg h.rc hF (M7 s l) (U9 _);obtain⟨_,_,_,Y⟩:=a1u f;rw[m4 e];show T7 (U7 (rK s (M7 s l))).1 (1+n)=_;rw[Y _ Z9,g _ Z9,if_neg Z9]
theorem b81{d:Dsk}(h:DG d){n:Nat}(N:n<69):T7 (yH d).1 n=T7 d n:=by
 by_cases C:500<=d.C.length
 ·rw[sU C];exact(a1u h).2.2.2 n N
 ·rw[qJ C]
theorem c3D{s:Sto}{k:Nat}(h:GInv s)(i:k<s.fr.length){n:Nat}(N:n<8)(j:(s.fr.getD k dz).no≠(n:Int)):(U4 (X5 s k).1.d n).1=(U4 s.d n).1:=by
 cases hd:(s.fr.getD k dz).D with
 |false=>rw[vN hd]
 |true=>
  obtain⟨_,_,_,f,_⟩:=h.fp k i;obtain⟨g,e,_⟩:=a48 h f;obtain⟨_,Y⟩:=b7j g;have r:=(vZ s (s.fr.getD k dz).pg.Q).1;rw[gQ hd e Y];refine congrArg Prod.fst (y7 ?_).1
  show T7 (wrD _ _ _) (1+n)=_;rw[iC,if_neg (by
   show ¬ (1+((W5 s (s.fr.getD k dz).pg.Q).1.fr.getD k dz).no=((1+n:Nat):Int));rw[r];omega)]
  show T7 (yH (W5 s (s.fr.getD k dz).pg.Q).1.d).1 (1+n)=_;rw[b81 g.dg Z9,b7g h f N]
theorem c4k{s:Sto}{k:Nat}(h:GInv s)(e:k<s.fr.length){n:Nat}(j:n<8):pgV (X5 s k).1 n=pgV s n:=by
 obtain⟨⟨g,le,N,_⟩,_⟩:=b7f h e;refine a4w g ?_
 rcases a9W s n with⟨i,hi,d,f⟩|⟨d,f⟩
 ·exact .inl ⟨i,Z9,by rw[(N i).1];exact d,by rw[(N i).2];exact f⟩
 ·exact .inr ⟨λi hi=>by rw[(N i).1];exact d i Z9,by rw[c3D h e j (d k e)];exact f⟩
theorem a5m{s:Sto}{no:Nat}(h:GInv s)(O:no<8){n:Nat}(r:n<8):pgV (Z4 s no).1 n=pgV s n:=by
 have gf:=(o4 h O).1.g;by_cases hc:0<=frAt s.fr no
 ·rw[(sN 0 hc).1]
 ·have hq:=λi hi=>oR (i:=i) hc hi
  have t:=h.hd;by_cases h3:s.fr.length=3
  ·have hk:s.J.toNat<s.fr.length:=by omega
   have op:=c4k h hk r;obtain⟨⟨g,le,N,cl,_⟩,u⟩:=b7f h hk;rw[(wC 0 hc h3 u).1] at gf ⊢;rw[←op];have l:s.J.toNat<(X5 s s.J.toNat).1.fr.length:=Z9
   refine a4w gf ?_
   generalize (X5 s s.J.toNat).1=a at*;have eG:=λi=>rR (B1 no (U4 a.d no).1) i l
   have L:(a.fr.set s.J.toNat (B1 no (U4 a.d no).1)).length=a.fr.length:=zN;rcases a9W a n with⟨i,hi,f,h2⟩|⟨f,h2⟩
   ·by_cases e:i=s.J.toNat
    ·subst e;refine .inr ⟨λj hj=>?_,?_⟩
     ·have hj:j<(a.fr.set s.J.toNat (B1 no (U4 a.d no).1)).length:=hj;show((a.fr.set s.J.toNat (B1 no (U4 a.d no).1)).getD j dz).no≠_;rw[eG];split
      ·intro e;have e:((no:Nat):Int)=n:=e;exact hq s.J.toNat hk (by rw[← (N s.J.toNat).1,f,e])
      ·rename_i q;intro e;exact q (g.nd j s.J.toNat Z9 l (by rw[e,f]))
     ·show(U4 a.d n).1=_;have:=g.cl s.J.toNat l cl;rw[f,E8] at this;rw[this,h2]
    ·exact .inl ⟨i,by show i<(a.fr.set s.J.toNat (B1 no (U4 a.d no).1)).length;omega,by show((a.fr.set s.J.toNat (B1 no (U4 a.d no).1)).getD i dz).no=_;rw[eG,if_neg e];exact f,by show((a.fr.set s.J.toNat (B1 no (U4 a.d no).1)).getD i dz).pg=_;rw[eG,if_neg e];exact h2⟩
   ·by_cases e:n=no
    ·subst e;exact .inl ⟨s.J.toNat,by show s.J.toNat<(a.fr.set s.J.toNat (B1 n (U4 a.d n).1)).length;omega,by show((a.fr.set s.J.toNat (B1 n (U4 a.d n).1)).getD s.J.toNat dz).no=_;rw[eG,if_pos rfl];rfl,by show((a.fr.set s.J.toNat (B1 n (U4 a.d n).1)).getD s.J.toNat dz).pg=_;rw[eG,if_pos rfl];exact h2⟩
    ·refine .inr ⟨λj hj=>?_,h2⟩
     have hj:j<(a.fr.set s.J.toNat (B1 no (U4 a.d no).1)).length:=hj;show((a.fr.set s.J.toNat (B1 no (U4 a.d no).1)).getD j dz).no≠_;rw[eG];split
     ·intro o;have o:((no:Nat):Int)=n:=o;omega
     ·exact f j Z9
  ·rw[(rS 0 hc h3).1] at gf ⊢;refine a4w gf ?_
   have eG:=λi hi=>uL dz s.fr (B1 no (U4 s.d no).1) i hi
   have L:(s.fr++[B1 no (U4 s.d no).1]).length=s.fr.length+1:=X3
   rcases a9W s n with⟨i,hi,f,h2⟩|⟨f,h2⟩
   ·exact .inl ⟨i,by show i<(s.fr++[B1 no (U4 s.d no).1]).length;omega,by show((s.fr++[B1 no (U4 s.d no).1]).getD i dz).no=_;rw[eG i Z9,if_neg Z9];exact f,by show((s.fr++[B1 no (U4 s.d no).1]).getD i dz).pg=_;rw[eG i Z9,if_neg Z9];exact h2⟩
   ·by_cases e:n=no
    ·subst e;exact .inl ⟨s.fr.length,by show s.fr.length<(s.fr++[B1 n (U4 s.d n).1]).length;omega,by show((s.fr++[B1 n (U4 s.d n).1]).getD s.fr.length dz).no=_;rw[eG _ Z9,if_pos rfl];rfl,by show((s.fr++[B1 n (U4 s.d n).1]).getD s.fr.length dz).pg=_;rw[eG _ Z9,if_pos rfl];exact h2⟩
    ·refine .inr ⟨λj hj=>?_,h2⟩
     have hj:j<(s.fr++[B1 no (U4 s.d no).1]).length:=hj;show((s.fr++[B1 no (U4 s.d no).1]).getD j dz).no≠_;rw[eG j Z9]
     split
     ·intro o;have o:((no:Nat):Int)=n:=o;omega
     ·exact f j Z9
theorem a1g{s:Sto}{no:Nat}(h:GInv s)(o:no<8):((Z4 s no).1.fr.getD (Z4 s no).2.1 dz).pg=pgV s no:=by
 obtain⟨⟨g,d,n,_⟩,_⟩:=o4 h o;rw[←a5m h o o];exact(a4w g (.inl ⟨_,d,n,rfl⟩)).symm
theorem c31{s:Sto}{r:Rec}(h:GInv s)(q:0<=r.g/\r.g<8)(s0:0<=r.s/\r.s<4)(L:1<=r.l/\r.l<=s.L.length)(o:r.a.length<=30){n:Nat}(f:n<8):
  pgV (S0 s r).1 n=if n=r.g.toNat then⟨r.l,(pgV s n).sl.set r.s.toNat r.a⟩ else pgV s n:=by
 have x:=(b4f h q s0 L o).1;obtain⟨⟨g,j,no,_⟩,u⟩:=o4 h (no:=r.g.toNat) Z9
 have hi:=a1g h (no:=r.g.toNat) Z9
 have hp:=a5m h (no:=r.g.toNat) Z9 f
 have e:S0 s r=(b5o (Z4 s r.g.toNat).1 (Z4 s r.g.toNat).2.1 r,true):=if_pos u;rw[e] at x ⊢;refine a4w x ?_
 generalize Z4 s r.g.toNat=A at*;obtain⟨a,k,up⟩:=A;dsimp only at*;have d:=λi=>rR (wJ (a.fr.getD k dz) r) i j
 have t:(a.fr.set k (wJ (a.fr.getD k dz) r)).length=a.fr.length:=zN;have N:∀i,((a.fr.set k (wJ (a.fr.getD k dz) r)).getD i dz).no=(a.fr.getD i dz).no:=λi=>by
  rw[d];split
  ·rename_i e;rw[e];rfl
  ·rfl
 by_cases hc:n=r.g.toNat
 ·rw[if_pos hc];refine .inl ⟨k,by show k<(a.fr.set k _).length;omega,?_,?_⟩
  ·show((a.fr.set k (wJ (a.fr.getD k dz) r)).getD k dz).no=_;rw[N,no,hc]
  ·show((a.fr.set k (wJ (a.fr.getD k dz) r)).getD k dz).pg=_;rw[d,if_pos rfl];show(⟨r.l,(a.fr.getD k dz).pg.sl.set r.s.toNat r.a⟩:Pg)=_;rw[hi,hc]
 ·rw[if_neg hc,←hp];rcases a9W a n with⟨i,hi,h1,h2⟩|⟨h1,h2⟩
  ·have e:i≠k:=λe=>by
    rw[e,no] at h1;omega
   exact .inl ⟨i,by show i<(a.fr.set k _).length;omega,by show((a.fr.set k _).getD i dz).no=_;rw[N];exact h1,by show((a.fr.set k _).getD i dz).pg=_;rw[d,if_neg e];exact h2⟩
  ·exact .inr ⟨λi hi=>by
    have hi:i<(a.fr.set k (wJ (a.fr.getD k dz) r)).length:=hi;show((a.fr.set k _).getD i dz).no≠_;rw[N];exact h1 i Z9,h2⟩
def vw(s:Sto)(n i:Nat):Bz:=if n<8 then(pgV s n).sl.getD i [] else[]
def b4H(g s:Nat)(a:Bz)(S:Nat->Nat->Bz)(n i:Nat):Bz:=if n=g/\i=s then a else S n i
def unV(L:List Rec)(to:Int):Nat->Int->(Nat->Nat->Bz)->Nat->Nat->Bz
 |0,_,S=>S
 |f+1,a,S=>if a<=to then S else if(X9 L a).k=3 then unV L to f (X9 L a).n S else unV L to f (X9 L a).p (if(X9 L a).k=2 then b4H (X9 L a).g.toNat (X9 L a).s.toNat (X9 L a).b S else S)
theorem a7J{s:Sto}{no:Nat}(h:GInv s)(o:no<8):vw (Z4 s no).1=vw s:=by
 funext n i
 unfold vw;by_cases N:n<8
 ·rw[if_pos N,if_pos N,a5m h o N]
 ·rw[if_neg N,if_neg N]
theorem c62{s:Sto}{n:Nat}(h:GInv s)(N:n<8):(pgV s n).sl.length=4:=by
 obtain⟨⟨F,f,_,_⟩,_⟩:=o4 h N;obtain⟨_,_,⟨_,_,d,_⟩,_⟩:=F.fp _ f;rw[a1g h N] at d;exact d
theorem c3b{s:Sto}{r:Rec}(h:GInv s)(g0:0<=r.g/\r.g<8)(s0:0<=r.s/\r.s<4)(l0:1<=r.l/\r.l<=s.L.length)(ha:r.a.length<=30):vw (S0 s r).1=b4H r.g.toNat r.s.toNat r.a (vw s):=by
 funext n i
 unfold b4H vw;by_cases hn:n<8
 ·rw[if_pos hn,if_pos hn,c31 h g0 s0 l0 ha hn];by_cases hg:n=r.g.toNat
  ·rw[if_pos hg];have h4:=c62 h hn;dsimp only;by_cases hi:i=r.s.toNat
   ·rw[if_pos ⟨hg,hi⟩,hi,Q2,j_j Z9]
    rfl
   ·rw[if_neg (λC=>hi C.2),Q2,j_l (Ne.symm hi),←Q2]
  ·rw[if_neg hg,if_neg (λC=>hg C.1)]
 ·rw[if_neg hn,if_neg hn,if_neg Z9]
theorem c4p{s:Sto}{l:Int}(h:GInv s)(L:l<=s.L.length):vw (W5 s l).1=vw s:=by
 funext n i
 unfold vw pgV;by_cases N:n<8
 ·rw[if_pos N,if_pos N,(vZ s l).1,(y7 (b7g h L N)).1]
 ·rw[if_neg N,if_neg N]
structure UndV(e:Eng)(k:Nat)(u:(Eng×Nat)×Bool)(to a:Int):Prop where
 v:vw u.1.1.s=unV e.s.L to 61 a (vw e.s)
 b:unV u.1.1.s.L 0 61 (u.1.1.X.getD k dz).Z (vw u.1.1.s)=unV e.s.L 0 61 a (vw e.s)
 i:(u.1.1.X.getD k dz).id=(e.X.getD k dz).id
end
end Go.Proofs.YtlbmgnomkjmafaaGreat
