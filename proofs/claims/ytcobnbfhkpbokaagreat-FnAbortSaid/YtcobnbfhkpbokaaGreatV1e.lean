/- A part of the proof. -/
import Derived.Test.YtcobnbfhkpbokaaGreatU1
import Derived.Test.YtcobnbfhkpbokaaGreatX1
namespace Go.Proofs.YtcobnbfhkpbokaaGreat
set_option maxRecDepth 100000
open Go.SS Go.Proofs.Tryz
noncomputable section
def N6(L:List Val)(i:Nat):List T:=(L.getD i dz).ts
def c04(L:List Val):T:=.sl 3 L.length (N6 L)
def isZ(l:Bz)(i:Nat):Bool:=(0:Int)==((l.getD i 0).toNat:Int)
def vR(l:Bz):Int:=S5 l.length (isZ l)
def b2w:Con:=.rel ⟨Bz,λl=>[.bys l,.int .u8 0],λl=>Ji (vR l),λl=>M3 l.length⟩
def b3j(l:Bz):Nat->Ann
 |0=>.one (V2 l.length (isZ l)) (λx=>⟨[(0,.bys l),(1,.int .u8 0),(7,Ji l.length),(8,Ji x.1)],[]⟩) (λx=>l.length-x.1) [] [] (λ_=>Y5)
 |_=>.none
theorem tL{a b:Int}(h:(a==b)=false):a≠b:=λe=>by rw[e] at h;simp at h
theorem a6w:GK 259 b2w:=gk func259<|by
 intro(l:Bz) (hL:l.length<1000000000000);refine R1 gN func259 (b3j l) (α:=let p:=(l.length:Int);(∃(x:V2 l.length (isZ l)),(l=l/\(0:Int)=0/\p=p/\0=(x.1:Int)/\True)/\True)/\∀(x:V2 l.length (isZ l)),let q:=(x.1:Int);bd (q<p) (V3 q l.length/\br ((0:Int)==(↑(l.getD q.toNat (0:UInt8)).toNat:Int)) (q=vR l) (Ri (q+1)/\∃(y:V2 l.length (isZ l)),((l=l/\(0:Int)=0/\p=p/\q+1=(y.1:Int)/\True)/\True)/\Lt (l.length-y.1) (l.length-x.1))) ((-1:Int)=vR l)) ⟨⟨E7,Z8⟩,λx=>⟨λC=>?_,λC=>?_⟩⟩
 ·have h:=Y0 C;exact⟨X9 h,λhp=>(O8 h hp x.2.2).symm,λhp=>⟨V4 h Z9,x.succ h hp,⟨⟨rfl,rfl,rfl,J0,Z5⟩,Z5⟩,V2.ext_lt h⟩⟩
 ·have e:=X3 C;exact(L5 λj J=>x.2.2 j (xC J e)).symm
def K3(l:Bz):Val×Bz×Bool:=
 if numR l-1=1 then(⟨1,be (S7 (l.drop 1) 4)-1000000000,[]⟩,Q3 (l.drop 1) 4,big (l.drop 1) 4|| !Q5 ⟨1,be (S7 (l.drop 1) 4)-1000000000,[]⟩)
 else if numR l-1=2 then
  if vR (l.drop 1)<0 then(⟨2,0,[]⟩,l.drop 1,true)
  else(⟨2,0,(l.drop 1).take (vR (l.drop 1)).toNat⟩,(l.drop 1).drop ((vR (l.drop 1)).toNat+1), !Q5 ⟨2,0,(l.drop 1).take (vR (l.drop 1)).toNat⟩)
 else(⟨numR l-1,0,[]⟩,l.drop 1, !Q5 ⟨numR l-1,0,[]⟩)
def nQ(l:Bz):Prop:=l.length<=1000000000
def a8R:Rle:=⟨Bz,λ_=>[.ref 0 0 0],λl=>[rdr l false],λl=>.agg (K3 l).1.ts,λl=>[rdr (K3 l).2.1 (K3 l).2.2],λl=>l≠[]/\nQ l⟩
def c0i:Con:=.reff a8R
theorem b4Z:GK 250 c0i:=gk func250<|by
 rintro(l:Bz) ⟨h0,(hl:l.length<=1000000000)⟩;have N:=r6 l;have f:l.isEmpty=false:=by cases l with|nil=>exact absurd rfl h0|cons=>rfl
 have hd:(l.drop 1).length<=1000000000:=by rw[List.length_drop];omega
 have h:(S7 (l.drop 1) 4).length<=4:=by
  unfold S7;split
  ·rw[List.length_replicate];omega
  ·rw[List.length_take];omega
 refine vcE (gC eR (gC rD (gC a2E (gC a6w (gC kF gN))))) func250 Y5 (bs:=[true]) (α:=let j:=(K3 l).1.t;let w:=(K3 l).1.n;let y:=(K3 l).1.k;let u:=(K3 l).2.2;let z:=(K3 l).2.1;let q:=(numR l-1=y/\0=w/\[]=j/\True);let p:=(List.drop 1 l);Ri (numR l-1)/\br (numR l-1==1) (r8 (4:Int)/\∃(x:a5A.ι),let r:=(↑(be x):Int);((S7 p 4=x/\True)/\mX x)/\Ri (r-1000000000)/\∃(X:E9.ι),((false||l.isEmpty||big p (4:Int))=false->((numR l-1=X.k/\r-1000000000=X.n/\[]=X.t/\True)/\True)/\cL X.t)/\(numR l-1=y/\r-1000000000=w/\[]=j/\True)/\(oo (Q3 p 4=z/\(false||l.isEmpty||big p (4:Int)|| !Q5 X)=u/\True))/\True) (br (numR l-1==2) (∃(x:(Bz)),let v:=(Q3 p (vR x));((List.drop 1 l=x/\(0:Int)=0/\True)/\M3 (x.length))/\bd (vR x<0) (q/\(oo (List.drop 1 l=z/\true=u/\True))/\True) (r8 (vR x)/\r8 (1:Int)/\∃(X:E9.ι),((false||l.isEmpty||big p (vR x)||big v (1:Int))=false->((numR l-1=X.k/\0=X.n/\S7 p (vR x)=X.t/\True)/\True)/\cL X.t)/\(numR l-1=y/\0=w/\S7 p (vR x)=j/\True)/\(oo (Q3 v 1=z/\(false||l.isEmpty||big p (vR x)||big v (1:Int)|| !Q5 X)=u/\True))/\True)) (∃(x:E9.ι),((false||l.isEmpty)=false->((numR l-1=x.k/\0=x.n/\[]=x.t/\True)/\True)/\cL x.t)/\q/\(oo (List.drop 1 l=z/\(false||l.isEmpty|| !Q5 x)=u/\True))/\True))) ⟨Z1 Z9,λhk=>⟨by unfold r8;omega,S7 (l.drop 1) 4,⟨Z8,h⟩,?_,⟨1,be (S7 (l.drop 1) 4)-1000000000,[]⟩,λ_=>⟨⟨⟨beq_iff_eq.1 hk,Z8⟩,Z5⟩,a9O⟩,?_⟩,λhk=>⟨λhk2=>⟨l.drop 1,⟨Z8,pX⟩,λhx=>?_,λhx=>?_⟩,λhk2=>?_⟩⟩
 ·have:=a4B (S7 (l.drop 1) 4) h;have e:be (S7 (l.drop 1) 4)=j6 (S7 (l.drop 1) 4) (S7 (l.drop 1) 4).length:=rfl;exact Z1 Z9
 ·have hk:numR l-1=1:=beq_iff_eq.1 hk;unfold K3;rw[if_pos hk,f];exact⟨⟨hk,Z8⟩,Z8⟩
 ·have hk':numR l-1≠1:=tL hk;have hk2:numR l-1=2:=beq_iff_eq.1 hk2;have hx:vR (l.drop 1)<0:=B3 hx;unfold K3;rw[if_neg hk',if_pos hk2,if_pos hx];exact⟨⟨hk2,Z8⟩,Z8⟩
 ·have hk':numR l-1≠1:=tL hk;have hk2:numR l-1=2:=beq_iff_eq.1 hk2;have hx:¬vR (l.drop 1)<0:=k5 hx;obtain⟨i,hi,hz,_,hix⟩:=tY hx;have hix:vR (l.drop 1)=(i:Int):=hix;have b1:big (l.drop 1) (i:Int)=false:=by unfold big;rw[tH Z9]
  have g:S7 (l.drop 1) (i:Int)=(l.drop 1).take i:=by unfold S7;rw[b1];rfl
  have r:Q3 (l.drop 1) (i:Int)=(l.drop 1).drop i:=by unfold Q3;rw[b1];rfl
  have b2:big ((l.drop 1).drop i) 1=false:=by unfold big;rw[tH (by rw[List.length_drop];omega)]
  have R:Q3 ((l.drop 1).drop i) 1=(l.drop 1).drop (i+1):=by
   unfold Q3;rw[b2];show((l.drop 1).drop i).drop 1=_;rw[List.drop_drop]
  unfold K3;rw[if_neg hk',if_pos hk2,if_neg hx,hix,g,r,R,b1,b2,f];refine⟨⟨Z9,Z9⟩,by unfold r8;omega,⟨2,0,(l.drop 1).take i⟩,λ_=>⟨⟨⟨hk2,Z8⟩,Z5⟩,by unfold cL M3;rw[List.length_take];omega⟩,⟨hk2,rfl,rfl,Z5⟩,⟨rfl,rfl,rfl,rfl,Z5⟩,Z5⟩
 ·have hk':numR l-1≠1:=tL hk;have d:numR l-1≠2:=tL hk2;unfold K3;rw[if_neg hk',if_neg d,f];exact⟨⟨numR l-1,0,[]⟩,λ_=>⟨Z8,a9O⟩,Z8⟩
theorem a3J{l:Bz}(h:l≠[]):(K3 l).2.1.length<l.length:=by
 have hp:0<l.length:=List.length_pos_iff.2 h;have hd:(l.drop 1).length<l.length:=by rw[List.length_drop];omega
 have r:∀(m:Bz) (n:Int),(Q3 m n).length<=m.length:=λm n=>by
  unfold Q3;split
  ·omega
  ·rw[List.length_drop];omega
 unfold K3;split
 ·exact Nat.lt_of_le_of_lt (r _ _) hd
 ·split
  ·split
   ·exact hd
   ·show((l.drop 1).drop _).length<_;rw[List.length_drop];omega
  ·exact hd
def m0:Nat->Bz->Bool->List Val->List Val×Bool
 |0,_,f,acc=>(acc, !f)
 |n+1,l,f,acc=>if l=[]∨f=true then(acc, !f) else m0 n (K3 l).2.1 (K3 l).2.2 (acc++[(K3 l).1])
def O0(l:Bz):List Val×Bool:=m0 l.length l false []
def aU:Rl:=⟨Bz,λb=>[.bys b],λb=>.tup [c04 (O0 b).1,.bool (O0 b).2],nQ⟩
def b2P:Con:=.rel aU
def a9s(b:Bz):Type:={x:Nat×Bz×Bool×List Val//m0 x.1 x.2.1 x.2.2.1 x.2.2.2=O0 b/\x.2.1.length<=x.1/\x.2.2.2.length+x.1<=b.length}
def b2V(b:Bz):Nat->Ann
 |0=>.one (a9s b) (λx=>⟨[(4,.ref 0 0 0),(5,.osl 1 0 x.1.2.2.2.length)],[rdr x.1.2.1 x.1.2.2.1,some (.arr true 0 3 x.1.2.2.2.length (N6 x.1.2.2.2))]⟩) (λx=>x.1.1) a5O [.box 0,.arr 3] (λ_=>Y5)
 |_=>.none
theorem iG(L:List Val)(v:Val):Z7 (L.length+1) (X6 (N6 L) L.length λk=>List.take 3 (List.drop (k*3) v.ts)) (N6 (L++[v])):=by
 intro i hi;by_cases h:i<L.length
 ·rw[P4 h];simp[N6,tI h]
 ·obtain rfl:i=L.length:=by omega
  rw[P5 (U9 _),j_i];simp[N6,Val.ts]
theorem lP{n:Nat}{l:Bz}{acc:List Val}(h:l≠[])(N:l.length<=n):m0 n l false acc=m0 (n-1) (K3 l).2.1 (K3 l).2.2 (acc++[(K3 l).1]):=by
 have hp:0<l.length:=List.length_pos_iff.2 h;obtain⟨m,rfl⟩:∃m,n=m+1:=⟨n-1,Z9⟩
 conv=>lhs;unfold m0
 rw[if_neg cZ]
 rfl
theorem oF{n:Nat}{l:Bz}{f:Bool}{acc:List Val}(h:l=[]∨f=true):m0 n l f acc=(acc, !f):=by
 cases n with
 |zero=>rfl
 |succ n=>unfold m0;rw[if_pos h]
theorem a7D:GK 233 b2P:=gk func233<|by
 intro(b:Bz) (hb:b.length<=1000000000);refine R1 (gC b4Z gN) func233 (b2V b) (α:=let u:=(0=0/\0=0);(∃(x:a9s b),let r:=x.1.2.2;(u/\(0=0/\0=r.2.length)/\True)/\(oo (b=x.1.2.1/\false=r.1/\True))/\(0=r.2.length/\Z7 0 (tk 3 []) (N6 r.2))/\True)/\∀(x:a9s b),let p:=x.1.2.2;let q:=p.2.length;br (decide ((x.1.2.1.length:Int)>0)&& ! p.1) (∃(X:a8R.ι),((u/\True)/\((1=1/\Z7 1 (λ(x_2:Nat)=>[T.bys x.1.2.1,T.bool p.1]) λ(x:Nat)=>[T.bys X,T.bool false])/\True)/\X≠[]/\nQ X)/\(Le 1 1/\Le p.2.length q/\U2 p.2.length 1 32)/\∃(y:a9s b),let z:=y.1.2.2;((u/\(0=0/\q+1=z.2.length)/\True)/\(oo ((K3 X).2.1=y.1.2.1/\(K3 X).2.2=z.1/\True))/\(q+1=z.2.length/\Z7 (q+1) (X6 (N6 p.2) p.2.length (tk 3 [Ji (K3 X).1.k,Ji (K3 X).1.n,T.str (K3 X).1.t])) (N6 z.2))/\True)/\Lt y.1.1 x.1.1) (Le (0+q) q/\(Z3 N6 p.2 (O0 b).1)/\(! p.1)=(O0 b).2/\True)) ⟨⟨⟨(b.length,b,false,[]),rfl,U9 _,by dsimp only[List.length_nil];omega⟩,⟨⟨rfl,rfl⟩,⟨rfl,rfl⟩,Z5⟩,⟨rfl,rfl,rfl,rfl,Z5⟩,⟨rfl,qN _ _⟩,Z5⟩,λx=>?_⟩
 obtain⟨⟨n,l,f,acc⟩,e,L,N⟩:=x;dsimp only at e L N ⊢;refine⟨λhc=>?_,λhc=>?_⟩
 ·simp only[M1,g7,wG] at hc;obtain⟨hp,rfl⟩:=hc;have h0:l≠[]:=λh=>by rw[h] at hp;simp at hp
  have hv:=a3J h0;rw[lP h0 L] at e;refine⟨l,⟨Z8,⟨⟨rfl,λi hi=>b5j⟩,Z5⟩,h0,by unfold nQ;omega⟩,⟨U9 _,U9 _,O6⟩,⟨(n-1,(K3 l).2.1,(K3 l).2.2,acc++[(K3 l).1]),e,W5,aB⟩,⟨⟨Z8,⟨rfl,kG⟩,Z5⟩,Z8,⟨kG,iG _ _⟩,Z5⟩,show n-1<n by omega⟩
 ·have d:l=[]∨f=true:=by
   cases f with
   |true=>exact .inr rfl
   |false=>
    refine .inl (List.length_eq_zero_iff.1 ?_)
    have hc:(decide ((l.length:Int)>0)&& !false)=false:=hc;simp only[Bool.not_false,Bool.and_true,qW] at hc;omega
  rw[oF d] at e;rw[←e];exact⟨C9,Z8⟩
def Q7(t:Bz):List Val×Bool:=if(O0 t).2=true then O0 t else([],false)
def a2H:Con:=.rel ⟨Bz,λt=>[.str t],λt=>.tup [c04 (Q7 t).1,.bool (Q7 t).2],nQ⟩
structure KSt where
 n:Nat
 at_:Nat
 acc:List Val
def a0L(t:Bz):Type:={x:KSt//m0 x.n (t.drop x.at_) false x.acc=O0 t/\x.at_<=t.length/\t.length-x.at_<=x.n/\x.acc.length+x.n<=t.length}
def NoZ(t:Bz)(a:Nat):Type:={k:Nat//a<=k/\k<=t.length/\∀j,a<=j->j<k->isZ t j=false}
def knd(t:Bz)(a:Nat):Int:=((t.getD a 0).toNat:Int)-1
def a1V(t:Bz):Nat->Ann
 |0=>.one (a0L t) (λx=>⟨[(0,.str t),(4,.osl 0 0 x.1.acc.length),(5,Ji x.1.at_)],[some (.arr true 0 3 x.1.acc.length (N6 x.1.acc))]⟩) (λx=>t.length-x.1.at_) [.arr 0] [.arr 3] (λx=>fun
  |1=>.one (NoZ t (x.1.at_+1)) (λy=>⟨[(0,.str t),(4,.osl 0 0 x.1.acc.length),(5,Ji (x.1.at_+1:Nat)),(6,.ref 1 0 0),(7,Ji y.1)],[some (.arr true 0 3 x.1.acc.length (N6 x.1.acc)),some (.arr true 1000000 3 1 λ_=>[Ji (knd t x.1.at_),Ji 0,.str []])]⟩) (λy=>t.length-y.1) dD dD (λ_=>Y5)
  |_=>.none)
 |_=>.none
theorem a2X{t:Bz}{n:Nat}{l:Bz}{acc:List Val}(h:m0 n l false acc=O0 t)(d:l≠[])(L:l.length<=n)(f:(K3 l).2.2=true):Q7 t=([],false):=by
 rw[lP d L,f,oF (.inr rfl)] at h;unfold Q7;rw[←h];rfl
theorem gO{t:Bz}{n:Nat}{l:Bz}{acc:List Val}(h:m0 n l false acc=O0 t)(d:l≠[])(L:l.length<=n){v:Val}{r:Bz}(hv:K3 l=(v,r,false)):m0 (n-1) r false (acc++[v])=O0 t:=by
 rw[lP d L,hv] at h;exact h
theorem a2O{k n:Int}{s:Bz}(d:k≠0)(h:k≠1)(e:k≠2):Q5 ⟨k,n,s⟩=false:=by
 unfold Q5;dsimp only;rw[if_neg d,if_neg h,show(k==2)=false from beq_eq_false_iff_ne.2 e]
 rfl
theorem a0s{t:Bz}(a i:Nat):(t.drop a).getD i 0=t.getD (a+i) 0:=by
 rw[Q8,Q8,List.getElem?_drop]
theorem gU(t:Bz)(a i:Nat):isZ (t.drop a) i=isZ t (a+i):=by unfold isZ;rw[a0s]
theorem c5a(t:Bz)(k:Nat):(((t.getD k 0).toNat:Int) !=0)= !isZ t k:=by
 unfold isZ;rw[show(((t.getD k 0).toNat:Int) !=0)= !(((t.getD k 0).toNat:Int)==0) from rfl]
 congr 1
 rw[Bool.eq_iff_iff,beq_iff_eq,beq_iff_eq];exact eq_comm
theorem bZ:GK 211 a2H:=gk func211<|by
 intro(t:Bz) (hb:t.length<=1000000000);refine R1 (gC kL (gC cN gN)) func211 (a1V t) (α:=let m:=(t.length:Int);let q:=(Le 0 0/\(0=(Q7 t).1.length/\Z7 0 (tk 3 []) (N6 (Q7 t).1))/\false=(Q7 t).2/\True);(∃(x:a0L t),(t=t/\(0=0/\0=x.1.acc.length)/\0=(x.1.at_:Int)/\True)/\(0=x.1.acc.length/\Z7 0 (tk 3 []) (N6 x.1.acc))/\True)/\∀(x:a0L t),let w:=x.1.acc;let l:=(Z3 N6 x.1.acc w);let z:=x.1.at_;let i:=((z:Int)+1);let b:=(t.length-z);let f:=((z:Int)+1+4);let j:=(↑(z+1):Int);let r:=w.length;let u:=(Le 1 1/\Le w.length r/\U2 w.length 1 32);let p:=(↑(t.getD (z:Int).toNat (0:UInt8)).toNat:Int);let g:=(IntKind.i64.wrap p-1);bd ((z:Int)<m) (V3 (z:Int) t.length/\Ri g/\Ri i/\br (IntKind.i64.wrap p-1==0) (∃(X:E9.ι),(((IntKind.i64.wrap p-1=X.k/\0=X.n/\[]=X.t/\True)/\True)/\cL X.t)/\br (!Q5 X) q (u/\∃(y:a0L t),((t=t/\(0=0/\r+1=y.1.acc.length)/\(z:Int)+1=(y.1.at_:Int)/\True)/\(r+1=y.1.acc.length/\Z7 (r+1) (X6 (N6 w) w.length (tk 3 [Ji g,Ji 0,T.str []])) (N6 y.1.acc))/\True)/\Lt (t.length-y.1.at_) b)) (br (IntKind.i64.wrap p-1==1) (Ri f/\bd ((z:Int)+1+4>m) q (Ri f/\b0W i f t.length/\∃(X:iX.ι),let a:=((↑(be X):Int)-1000000000);((List.drop i.toNat (List.take f.toNat t)=X/\True)/\mX X)/\Ri a/\Ri f/\∃(d:E9.ι),(((IntKind.i64.wrap p-1=d.k/\(↑(be X):Int)-1000000000=d.n/\[]=d.t/\True)/\True)/\cL d.t)/\br (!Q5 d) q (u/\∃(y:a0L t),((t=t/\(0=0/\r+1=y.1.acc.length)/\(z:Int)+1+4=(y.1.at_:Int)/\True)/\(r+1=y.1.acc.length/\Z7 (r+1) (X6 (N6 w) w.length (tk 3 [Ji g,Ji a,T.str []])) (N6 y.1.acc))/\True)/\Lt (t.length-y.1.at_) b))) ((∃(X:NoZ t (x.1.at_+1)),(t=t/\(0=0/\r=r)/\(z:Int)+1=j/\(0=0/\0=0)/\(z:Int)+1=(X.val:Int)/\True)/\l/\(oo (IntKind.i64.wrap p-1=knd t z/\(0:Int)=0/\([]:Bz)=[]/\True))/\True)/\∀(X:NoZ t (x.1.at_+1)),let v:=(X.val:Int);let c:=(List.take v.toNat t);(decide (v<m)=true->V3 v t.length)/\br (decide (v<m)&&(↑(t.getD v.toNat (0:UInt8)).toNat:Int) !=0) (Ri (v+1)/\∃(y:NoZ t (x.1.at_+1)),((t=t/\(0=0/\r=r)/\j=j/\(0=0/\0=0)/\v+1=(y.1:Int)/\True)/\l/\(oo (knd t z=knd t z/\(0:Int)=0/\([]:Bz)=[]/\True))/\True)/\Lt (t.length-y.1) (t.length-X.val)) (br (v==m) q (b0W j v t.length/\Ri (v+1)/\∃(d:E9.ι),(((knd t z=d.k/\0=d.n/\List.drop j.toNat c=d.t/\True)/\True)/\cL d.t)/\br (!Q5 d) q (u/\∃(y:a0L t),((t=t/\(0=0/\r+1=y.1.acc.length)/\v+1=(y.1.at_:Int)/\True)/\(r+1=y.1.acc.length/\Z7 (r+1) (X6 (N6 w) w.length (tk 3 [Ji (knd t z),Ji 0,T.str (List.drop j.toNat c)])) (N6 y.1.acc))/\True)/\Lt (t.length-y.1.at_) b)))))) (Le (0+r) r/\(Z3 N6 x.1.acc (Q7 t).1)/\true=(Q7 t).2/\True)) ⟨⟨⟨⟨t.length,0,[]⟩,rfl,L8 _,U9 _,by dsimp only[List.length_nil];omega⟩,⟨rfl,⟨rfl,rfl⟩,rfl,Z5⟩,⟨rfl,qN _ _⟩,Z5⟩,λx=>?_⟩
 obtain⟨⟨n,a,acc⟩,he,C,o,N⟩:=x;dsimp only at he C o N ⊢;rw[C8,uW];have q:=m6 t a;have L:(t.drop a).length<=n:=by rw[List.length_drop];exact o
 refine⟨λhc=>?_,λhc=>?_⟩
 ·have hlt:=Y0 hc;have h0:t.drop a≠[]:=λh=>by have:=congrArg List.length h;rw[List.length_drop,List.length_nil] at this;omega
  have i:numR (t.drop a)-1=((t.getD a 0).toNat:Int)-1:=by unfold numR;rw[a0s];rfl
  have hd:(t.drop a).drop 1=t.drop (a+1):=by rw[List.drop_drop]
  have O:∀{P:Prop},(K3 (t.drop a)).2.2=true->(Q7 t=([],false)->P)->P:=λF h=>h (a2X he h0 L F)
  have fin:(K3 (t.drop a)).2.2=true->Le 0 0/\((0:Nat)=(Q7 t).1.length/\Z7 0 (λk=>List.take 3 (List.drop (k*3) [])) (N6 (Q7 t).1))/\false=(Q7 t).2/\True:=λF=>by
   rw[a2X he h0 L F];exact⟨U9 _,⟨rfl,qN _ _⟩,Z8⟩
  refine⟨X9 hlt,Z1 Z9,V4 hlt Z9,λk0=>?_,λk0=>⟨λk1=>?_,λk1=>?_⟩⟩
  ·have k0:((t.getD a 0).toNat:Int)-1=0:=beq_iff_eq.1 k0;have hv:K3 (t.drop a)=(⟨0,0,[]⟩,t.drop (a+1), !Q5 ⟨0,0,[]⟩):=by
    unfold K3;rw[if_neg Z9,if_neg Z9,hd,i,k0]
   rw[k0];refine⟨⟨0,0,[]⟩,⟨Z8,a9O⟩,λhq=>fin (by rw[hv];exact hq),λhq=>⟨⟨U9 _,U9 _,O6⟩,⟨⟨n-1,a+1,acc++[(⟨0,0,[]⟩:Val)]⟩,gO he h0 L (by rw[hv,hq]),W5,W5,aB⟩,⟨⟨rfl,⟨rfl,kG⟩,W5,Z5⟩,⟨kG,iG acc ⟨0,0,[]⟩⟩,Z5⟩,show t.length- (a+1)<t.length-a by omega⟩⟩
  ·have k1:((t.getD a 0).toNat:Int)-1=1:=beq_iff_eq.1 k1;have g:big (t.drop (a+1)) 4=decide ((a:Int)+1+4>t.length):=by
    unfold big;rw[List.length_drop];exact decide_eq_decide.2 Z9
   have hv:K3 (t.drop a)=(⟨1,be (S7 (t.drop (a+1)) 4)-1000000000,[]⟩,Q3 (t.drop (a+1)) 4,big (t.drop (a+1)) 4|| !Q5 ⟨1,be (S7 (t.drop (a+1)) 4)-1000000000,[]⟩):=by
    unfold K3;rw[if_pos Z9,hd]
   refine⟨Z1 Z9,λf=>fin (by rw[hv,g,f];rfl),λf=>?_⟩
   have z:¬ ((a:Int)+1+4>t.length):=k5 f;rw[f] at g;have v:S7 (t.drop (a+1)) 4=List.drop (a+1) (List.take (a+5) t):=by
    unfold S7;rw[g,List.drop_take,show a+5- (a+1)=4 by omega]
    rfl
   have R:Q3 (t.drop (a+1)) 4=t.drop (a+5):=by
    unfold Q3;rw[g];show(t.drop (a+1)).drop 4=_;rw[List.drop_drop]
   rw[g,v,R,Bool.false_or] at hv;have l:(List.drop (a+1) (List.take (a+5) t)).length<=4:=by rw[List.length_drop,List.length_take];omega
   have I:=a4B (List.drop (a+1) (List.take (a+5) t)) l;have A:be (List.drop (a+1) (List.take (a+5) t))=j6 (List.drop (a+1) (List.take (a+5) t)) (List.drop (a+1) (List.take (a+5) t)).length:=rfl;rw[k1,show((a:Int)+1+4).toNat=a+5 by omega,show((a:Int)+1).toNat=a+1 by omega]
   refine⟨Z1 Z9,⟨Z9,Z9,Z9⟩,List.drop (a+1) (List.take (a+5) t),⟨Z8,l⟩,Z1 Z9,Z1 Z9,⟨1,be (List.drop (a+1) (List.take (a+5) t))-1000000000,[]⟩,⟨Z8,a9O⟩,λhq=>fin (by rw[hv];exact hq),λhq=>⟨⟨U9 _,U9 _,O6⟩,⟨⟨n-1,a+5,acc++[⟨1,be (List.drop (a+1) (List.take (a+5) t))-1000000000,[]⟩]⟩,gO he h0 L (by rw[hv,hq]),W5,W5,aB⟩,⟨⟨rfl,⟨rfl,kG⟩,W5,Z5⟩,⟨kG,iG acc ⟨1,be (List.drop (a+1) (List.take (a+5) t))-1000000000,[]⟩⟩,Z5⟩,show t.length- (a+5)<t.length-a by omega⟩⟩
  ·have k0:((t.getD a 0).toNat:Int)-1≠0:=tL k0;have k1:((t.getD a 0).toNat:Int)-1≠1:=tL k1;have hkn:knd t a=((t.getD a 0).toNat:Int)-1:=rfl;refine⟨⟨⟨a+1,U9 _,hlt,λj h1 h2=>Z9⟩,⟨rfl,Z8,Z9,Z8,W5,Z5⟩,Z8⟩,λy=>?_⟩
   obtain⟨k,u,r,hkz⟩:=y;dsimp only;rw[C8,C8,c5a];refine⟨λhy=>X9 (Y0 hy),λhy=>?_,λhy=>⟨λhq=>fin ?_,λhq=>?_⟩⟩
   ·simp only[M1,g7,wG] at hy;refine⟨Z1 Z9,⟨k+1,Z9,Z9,λj h1 h2=>?_⟩,⟨⟨rfl,Z8,rfl,Z8,W5,Z5⟩,Z8⟩,show t.length- (k+1)<t.length-k by omega⟩
    by_cases hj:j=k
    ·rw[hj];exact hy.2
    ·exact hkz j h1 Z9
   ·have hq:(k:Int)=t.length:=beq_iff_eq.1 hq;unfold K3;rw[if_neg Z9]
    by_cases k2:((t.getD a 0).toNat:Int)-1=2
    ·rw[if_pos Z9,hd]
     have:vR (t.drop (a+1))= -1:=L5 λj hj=>by
      rw[List.length_drop] at hj;rw[gU];exact hkz _ Z9 Z9
     rw[if_pos Z9]
    ·rw[if_neg Z9]
     dsimp only;rw[i,a2O k0 k1 k2];rfl
   ·have hq:(k:Int)≠t.length:=tL hq;have hkl:k<t.length:=by omega
    rw[pH (show(k:Int)<t.length by omega),Bool.true_and,yL] at hy
    have B:List.drop (a+1) (List.take k t)=(t.drop (a+1)).take (k- (a+1)):=by rw[List.drop_take]
    refine⟨⟨Z9,Z9,Z9⟩,Z1 Z9,⟨knd t a,0,List.drop (a+1) (List.take k t)⟩,⟨Z8,by unfold cL M3;rw[List.length_drop,List.length_take];omega⟩,?_⟩
    by_cases k2:((t.getD a 0).toNat:Int)-1=2
    ·have hix:vR (t.drop (a+1))=((k- (a+1):Nat):Int):=O8 (by rw[List.length_drop];omega) (by rw[gU,show a+1+(k- (a+1))=k by omega];exact hy) λj hj=>by rw[gU];exact hkz _ Z9 Z9
     have hv:K3 (t.drop a)=(⟨2,0,List.drop (a+1) (List.take k t)⟩,t.drop (k+1), !Q5 ⟨2,0,List.drop (a+1) (List.take k t)⟩):=by
      unfold K3;rw[if_neg Z9,if_pos Z9,hd,hix,if_neg Z9,C8,B,List.drop_drop,show a+1+(k- (a+1)+1)=k+1 by omega]
     rw[hkn,k2];refine⟨λhq=>fin (by rw[hv];exact hq),λhq=>⟨⟨U9 _,U9 _,O6⟩,⟨⟨n-1,k+1,acc++[⟨2,0,List.drop (a+1) (List.take k t)⟩]⟩,gO he h0 L (by rw[hv,hq]),W5,W5,aB⟩,⟨⟨rfl,⟨rfl,kG⟩,W5,Z5⟩,⟨kG,iG acc ⟨2,0,List.drop (a+1) (List.take k t)⟩⟩,Z5⟩,show t.length- (k+1)<t.length-a by omega⟩⟩
    ·have hbad:Q5 ⟨knd t a,0,List.drop (a+1) (List.take k t)⟩=false:=a2O k0 k1 k2;refine⟨λ_=>fin ?_,λhq=>?_⟩
     ·unfold K3;rw[if_neg Z9,if_neg Z9]
      dsimp only;rw[i,a2O k0 k1 k2];rfl
     ·rw[hbad] at hq;cases hq
 ·have hge:=X3 hc;have:t.drop a=[]:=List.drop_eq_nil_of_le hge;rw[this,oF (.inl rfl)] at he;have e:Q7 t=(acc,true):=by unfold Q7;rw[←he];rfl
  rw[e];exact⟨C9,Z8⟩
def rw0:Rw:=⟨0,⟨0,0,[]⟩,⟨0,0,[]⟩⟩
def zG(L:List Val):Int×Rw:=((L.getD 0 dz).n,⟨(L.getD 1 dz).n,L.getD 2 dz,L.getD 3 dz⟩)
def jI(x:List Val×Bool):Bool:= !x.2||((x.1.length:Int) !=4)||((x.1.getD 0 dz).k !=1)||((x.1.getD 1 dz).k !=1)
def yH(t:Bz):Int×Rw×Bool:=if(jI (Q7 t)|| !V8 (zG (Q7 t).1).1 1 3)=true then(0,rw0,false) else((zG (Q7 t).1).1,(zG (Q7 t).1).2,L4 (zG (Q7 t).1).2)
def zE(t:Bz):Int×Rw×Int:=if(t.length:Int)>65536 then(0,rw0,2) else if(jI (O0 t)||(!V8 (zG (O0 t).1).1 1 3|| !L4 (zG (O0 t).1).2))=true then(0,rw0,3) else((zG (O0 t).1).1,(zG (O0 t).1).2,0)
def a0r:Rl:=⟨Bz,λb=>[.bys b],λb=>.tup [Ji (zE b).1,.agg (zE b).2.1.ts,Ji (zE b).2.2],nQ⟩
def b2e:Con:=.rel a0r
theorem a8B{l:Bz}{B:Nat}(h:l.length<=B):(K3 l).1.t.length<=B:=by
 unfold K3;split
 ·exact L8 _
 ·split
  ·split
   ·exact L8 _
   ·show((l.drop 1).take _).length<=B;rw[List.length_take,List.length_drop];omega
  ·exact L8 _
theorem a1D{B:Nat}:∀(n:Nat) (l:Bz) (f:Bool) (acc:List Val),l.length<=B->(∀v ∈ acc,v.t.length<=B)->∀v ∈ (m0 n l f acc).1,v.t.length<=B:=by
 intro n;induction n with
 |zero=>intro l f acc _ h;exact h
 |succ n i=>
  intro l f acc L h;unfold m0;split
  ·exact h
  ·rename_i hc;have h0:l≠[]:=λh=>hc (.inl h)
   have:=a3J h0;refine i _ _ _ Z9 λv hv=>?_
   rcases List.mem_append.1 hv with hv|hv
   ·exact h v hv
   ·rw[List.mem_singleton.1 hv];exact a8B L
theorem lM{l:Bz}(h:nQ l){i:Nat}:cL ((O0 l).1.getD i dz).t:=by
 have h:l.length<=1000000000:=h;show _<1000000000000;rw[Q8]
 cases q:(O0 l).1[i]? with
 |none=>show 0<1000000000000;omega
 |some v=>
  have:=a1D l.length l false [] h (λv hv=>absurd hv W6) v (y0 q)
  show v.t.length<_;omega
theorem b2L{x:List Val×Bool}{b:Bool}(h:(!x.2||((x.1.length:Int) !=4)||b)=false):x.1.length=4:=by
 simp only[zY,bne_eq_false_iff_eq] at h;omega
theorem c2a{x:List Val×Bool}(h:(!x.2||((x.1.length:Int) !=4))=false):x.1.length=4:=b2L (b:=false) a0c
theorem lD{n:Nat}(h:n=4){i:Int}(d:0<=i)(e:i<=3):V3 i n:=⟨d,Z9⟩
theorem a8r:GK 184 b2e:=gk func184<|by
 intro(b:Bz) hb;refine R1 (gC a7D (gC pL (gC a5z gN))) func184 Y5 (α:=let j:=(zE b).2.1.name.t;let w:=(zE b).2.1.name.n;let y:=(zE b).2.1.name.k;let u:=(zE b).2.2;let p:=(0=(zE b).2.1.id/\0=(zE b).2.1.n.k/\0=(zE b).2.1.n.n/\[]=(zE b).2.1.n.t/\0=y/\0=w/\[]=j/\True);let z:=(0=(zE b).1/\p/\3=u/\True);bd ((b.length:Int)>65536) (0=(zE b).1/\p/\2=u/\True) (∃(x:aU.ι),let r:=(O0 x).1.length;let v:=(↑r:Int);let q:=(O0 x).1.getD;((b=x/\True)/\nQ x)/\((!(O0 x).2||v !=4)=false->V3 (0:Int) r)/\((!(O0 x).2||v !=4||(q 0 dz).k !=1)=false->V3 (1:Int) r)/\br (!(O0 x).2||v !=4||(q 0 dz).k !=1||(q 1 dz).k !=1) z (V3 (0:Int) r/\V3 (1:Int) r/\V3 (2:Int) r/\V3 (3:Int) r/\∃(d:Int),(((q 0 dz).n=d/\True)/\True)/\∃(X:nS.ι),((!V8 d (1:Int) (3:Int))=false->(((q 1 dz).n=X.id/\(q 2 dz).k=X.n.k/\(q 2 dz).n=X.n.n/\(q 2 dz).t=X.n.t/\(q 3 dz).k=X.name.k/\(q 3 dz).n=X.name.n/\(q 3 dz).t=X.name.t/\True)/\True)/\RwB X)/\br (!V8 d (1:Int) (3:Int)|| !L4 X) z ((q 0 dz).n=(zE b).1/\((q 1 dz).n=(zE b).2.1.id/\(q 2 dz).k=(zE b).2.1.n.k/\(q 2 dz).n=(zE b).2.1.n.n/\(q 2 dz).t=(zE b).2.1.n.t/\(q 3 dz).k=y/\(q 3 dz).n=w/\(q 3 dz).t=j/\True)/\0=u/\True)))) ⟨λh=>?_,λh=>⟨b,⟨Z8,hb⟩,λh=>lD (c2a h) Z9 Z9,λh=>lD (b2L h) Z9 Z9,λq=>?_,λq=>?_⟩⟩
 ·have e:zE b=(0,rw0,2):=by unfold zE;rw[if_pos (B3 h)]
  rw[e];exact Z8
 ·have e:zE b=(0,rw0,3):=by
   have q:jI (O0 b)=true:=q;unfold zE;rw[if_neg (k5 h),q,Bool.true_or,if_pos rfl]
  rw[e];exact Z8
 ·have l:(O0 b).1.length=4:=by
   rw[zY] at q;exact b2L q.1
  have q:jI (O0 b)=false:=q;refine⟨lD l Z9 Z9,lD l Z9 Z9,lD l Z9 Z9,lD l Z9 Z9,_,Z8,(zG (O0 b).1).2,λ_=>⟨Z8,lM hb,lM hb⟩,λg=>?_,λg=>?_⟩
  ·have e:zE b=(0,rw0,3):=by
    have g:(!V8 (zG (O0 b).1).1 1 3|| !L4 (zG (O0 b).1).2)=true:=g;unfold zE;rw[if_neg (k5 h),q,g,Bool.or_true,if_pos rfl]
   rw[e];exact Z8
  ·have e:zE b=((zG (O0 b).1).1,(zG (O0 b).1).2,0):=by
    have g:(!V8 (zG (O0 b).1).1 1 3|| !L4 (zG (O0 b).1).2)=false:=g;unfold zE;rw[if_neg (k5 h),q,g,if_neg W6]
   rw[e];exact Z8
def b0F:Con:=.rel ⟨Bz,λt=>[.str t],λt=>.tup [Ji (yH t).1,.agg (yH t).2.1.ts,.bool (yH t).2.2],nQ⟩
theorem eH{l:Bz}(h:nQ l){i:Nat}:cL ((Q7 l).1.getD i dz).t:=by
 unfold Q7;split
 ·exact lM h
 ·show 0<1000000000000;omega
theorem a6D:GK 144 b0F:=gk func144<|by
 intro(t:Bz) hb;refine R1 (gC bZ (gC C0 (gC b3b gN))) func144 Y5 (α:=let y:=(yH t).2.1.name.t;let v:=(yH t).2.1.name.n;let u:=(yH t).2.1.name.k;∃(x:(Bz)),let q:=(Q7 x).1.length;let r:=(↑q:Int);let p:=(Q7 x).1.getD;let z:=(p 0 dz).k;((t=x/\True)/\nQ x)/\((!(Q7 x).2||r !=4)=false->V3 (0:Int) q)/\((!(Q7 x).2||r !=4||z !=1)=false->V3 (1:Int) q)/\((!(Q7 x).2||r !=4||z !=1||(p 1 dz).k !=1)=false->V3 (0:Int) q)/\br (!(Q7 x).2||r !=4||z !=1||(p 1 dz).k !=1|| !V8 (p 0 dz).n (1:Int) (3:Int)) (0=(yH t).1/\(0=(yH t).2.1.id/\0=(yH t).2.1.n.k/\0=(yH t).2.1.n.n/\[]=(yH t).2.1.n.t/\0=u/\0=v/\[]=y/\True)/\false=(yH t).2.2/\True) (V3 (1:Int) q/\V3 (2:Int) q/\V3 (3:Int) q/\V3 (0:Int) q/\∃(X:nS.ι),((((p 1 dz).n=X.id/\(p 2 dz).k=X.n.k/\(p 2 dz).n=X.n.n/\(p 2 dz).t=X.n.t/\(p 3 dz).k=X.name.k/\(p 3 dz).n=X.name.n/\(p 3 dz).t=X.name.t/\True)/\True)/\RwB X)/\(p 0 dz).n=(yH t).1/\((p 1 dz).n=(yH t).2.1.id/\(p 2 dz).k=(yH t).2.1.n.k/\(p 2 dz).n=(yH t).2.1.n.n/\(p 2 dz).t=(yH t).2.1.n.t/\(p 3 dz).k=u/\(p 3 dz).n=v/\(p 3 dz).t=y/\True)/\L4 X=(yH t).2.2/\True)) ⟨t,⟨Z8,hb⟩,λh=>lD (c2a h) Z9 Z9,λh=>lD (b2L h) Z9 Z9,λh=>lD (by rw[zY] at h;exact b2L h.1) Z9 Z9,λq=>?_,λq=>?_⟩
 ·have e:yH t=(0,rw0,false):=by
   have q:(jI (Q7 t)|| !V8 (zG (Q7 t).1).1 1 3)=true:=q;unfold yH;rw[if_pos q]
  rw[e];exact Z8
 ·have l:(Q7 t).1.length=4:=by
   rw[zY,zY] at q;exact b2L q.1.1
  have e:yH t=((zG (Q7 t).1).1,(zG (Q7 t).1).2,L4 (zG (Q7 t).1).2):=by
   have q:(jI (Q7 t)|| !V8 (zG (Q7 t).1).1 1 3)=false:=q;unfold yH;rw[if_neg (by rw[q];simp)]
  rw[e];exact⟨lD l Z9 Z9,lD l Z9 Z9,lD l Z9 Z9,lD l Z9 Z9,(zG (Q7 t).1).2,⟨Z8,eH hb,eH hb⟩,Z8⟩
def qC(t:Bz):Option (Int×Rw):=if(jI (O0 t)||(!V8 (zG (O0 t).1).1 1 3|| !L4 (zG (O0 t).1).2))=true then none else some (zG (O0 t).1)
theorem c3D{t:Bz}(h:t.length<=65536):zE t=match qC t with|some x=>(x.1,x.2,0)|none=>(0,rw0,3):=by
 unfold zE qC;rw[if_neg Z9]
 split<;>rfl
theorem a5V(t:Bz):(yH t).2.2=(qC t).isSome/\∀x,qC t=some x->yH t=(x.1,x.2,true):=by
 have e:jI (Q7 t)=jI (O0 t):=by
  unfold Q7;split
  ·rfl
  ·rename_i h;unfold jI;rw[show(O0 t).2=false by simpa using h]
   rfl
 unfold yH qC;rw[e];cases hp:jI (O0 t)
 ·have d:Q7 t=O0 t:=by
   unfold Q7;rw[if_pos];unfold jI at hp;simp only[zY,yL] at hp;exact hp.1.1.1
  rw[d];cases hi:V8 (zG (O0 t).1).1 1 3
  ·exact⟨rfl,λx hx=>by cases hx⟩
  ·cases hr:L4 (zG (O0 t).1).2
   ·exact⟨rfl,λx hx=>by cases hx⟩
   ·refine⟨rfl,λx hx=>?_⟩
    cases hx;rfl
 ·exact⟨rfl,λx hx=>by cases hx⟩
theorem rB{L:List Frm}{k:Nat}(f:Frm)(i:Nat)(d:k<L.length):(L.set k f).getD i dz=if i=k then f else L.getD i dz:=by
 by_cases h:i=k
 ·subst h;rw[if_pos rfl];exact sD f d
 ·rw[if_neg h,Q8,bI (Ne.symm h),←Q8]
structure DG(d:Dsk):Prop where
 ar:d.A=false
 kp:d.keep.length=0
 n69:d.E.length=69
 sc:∀i,i<69->(d.E.getD i []).length<=160
 cc:∀i,i<d.C.length->0<=(d.C.getD i dz).at_/\(d.C.getD i dz).at_<69/\(d.C.getD i dz).d.length<=160
theorem DG.pd{d:Dsk}(h:DG d):cB d:=λi hi=>by
 have:=h.cc i hi;rw[h.n69];omega
theorem DG.P{d:Dsk}(h:DG d)(C:d.C.length<=500):H9 d:=by
 have f:=h.n69;have e:=h.kp;refine⟨Z9,Z9,C,Z9,λ_=>e,λi hi=>h.sc i Z9,λi hi=>?_⟩
 obtain⟨j,c2,g⟩:=h.cc i hi;unfold O4 V8;rw[f];simp only[zY,yL,M1,g7,qW];omega
theorem c54{d:Dsk}(h:DG d){n:Nat}(N:n<69):(U1 d n).length<=160:=by
 have key:∀m,m<=d.C.length->∀l,I3 d.C n m=some l->l.length<=160:=by
  intro m;induction m with
  |zero=>intro _ l L;cases L
  |succ m i=>
   intro M l L;unfold I3 at L;split at L
   ·cases L;exact(h.cc m Z9).2.2
   ·exact i Z9 l L
 unfold U1;cases L:I3 d.C n d.C.length with
 |none=>exact h.sc n N
 |some l=>exact key _ (U9 _) l L
theorem a1Y{d:Dsk}(h:DG d):DG (U7 d).1/\(U7 d).2=true/\(U7 d).1.C=[]/\∀n,n<69->U1 (U7 d).1 n=U1 d n:=by
 have u:(U7 d).2=true:=by unfold U7;rw[if_neg (by rw[h.ar];simp)]
 have r:∀n,n<69->U1 (U7 d).1 n=U1 d n:=λn N=>a6q u h.pd (by rw[h.n69];exact N)
 have e:=c11 u;have C:=g8 d;refine⟨⟨by rw[e];exact h.ar,by rw[e];exact h.kp,by rw[a2m];exact h.n69,λi hi=>?_,λi hi=>?_⟩,u,C,r⟩
 ·have:=r i hi;have f:U1 (U7 d).1 i=(U7 d).1.E.getD i []:=by
   unfold U1;rw[C];rfl
  rw[←f,this];exact c54 h hi
 ·rw[C] at hi;exact absurd hi (J2 _)
theorem c15{d:Dsk}(h:DG d){a:Int}{t:Bz}(f:0<=a)(e:a<69)(g:t.length<=160):DG (wrD d a t):=by
 refine⟨h.ar,h.kp,h.n69,h.sc,λi hi=>?_⟩
 have hi:i<d.C.length+1:=by unfold wrD at hi;dsimp only at hi;rw[J6] at hi;exact hi
 show 0<=((d.C++[(⟨a,t⟩:Pend)]).getD i dz).at_/\((d.C++[(⟨a,t⟩:Pend)]).getD i dz).at_<69/\((d.C++[(⟨a,t⟩:Pend)]).getD i dz).d.length<=160;rw[yT dz _ _ _ hi];split
 ·exact⟨f,e,g⟩
 ·exact h.cc i Z9
theorem b6M{r:Rec}(h:O9 r=true):r.b.length<=30/\r.a.length<=38:=by
 have h:=(R6 r).1 h;unfold D0 at h;obtain⟨_,_,_,_,_,_,_,_,_,_,_,_,_,_,B,f,e⟩:=h;refine⟨Z9,?_⟩
 by_cases d:r.k=6
 ·exact a1l (f d).2.2.2.2.2.2
 ·have:=(e d).2.2.1;omega
theorem c6V{r:Rec}(h:O9 r=true):(P0 r).length<=160/\P0 r≠[]:=by
 obtain⟨d,f⟩:=b6M h;have g:(z7 (j3 (a5w r))).length=4:=rfl;have l:(P0 r).length=16+(r.b.length+r.a.length):=by
  unfold P0 a5w;rw[J6];simp only[R7,V6,J6,List.length_cons,List.length_nil];show _+4=_;simp;omega
 refine⟨Z9,λe=>?_⟩
 rw[e] at l;simp at l;omega
theorem a69{s:Sto}{l:Int}(hd:DG s.d)(o:zO s.L=true)(h:vD s l):∀i,i<=L9 s l->DG (qP s i)/\∀n,n<69->U1 (qP s i) n=if 9+s.S.toNat<=n/\n<9+s.S.toNat+i then P0 (s.L.getD (n-9) dz) else U1 s.d n
 |0,_=>by
  have:qP s 0=s.d:=by unfold qP;simp
  rw[this];exact⟨hd,λn _=>by rw[if_neg Z9]⟩
 |i+1,hi=>by
  have e:qP s (i+1)=wrD (qP s i) (qI s i).at_ (qI s i).d:=by
   unfold qP wrD;dsimp only;rw[←xE]
  obtain⟨j,t,u⟩:=lN h (i:=i) Z9
  obtain⟨g,f⟩:=a69 hd o h i Z9
  obtain⟨_,_,_,_,q,_,r,v,_⟩:=h;have z:(P0 (s.L.getD (s.S.toNat+i) dz)).length<=160:=(c6V (G9.1 o (s.S.toNat+i) Z9).1).1
  rw[e];refine⟨c15 g Z9 Z9 z,λn N=>?_⟩
  rw[lI,f n N,j];by_cases hq:9+s.S+(i:Int)=n
  ·rw[if_pos hq,if_pos Z9,show n-9=s.S.toNat+i by omega]
   rfl
  ·rw[if_neg hq];by_cases hp:9+s.S.toNat<=n/\n<9+s.S.toNat+i
   ·rw[if_pos hp,if_pos Z9]
   ·rw[if_neg hp,if_neg Z9]
def FrP(n:Nat)(f:Frm):Prop:=0<=f.no/\f.no<=7/\PgP f.pg/\f.pg.Q<=n/\0<=f.first/\f.first<=n/\(f.D=true↔0<f.first)
structure GInv(s:Sto):Prop where
 dg:DG s.d
 ca:s.d.C.length<=500
 ep:1<=s.ep/\s.ep<=60
 l60:s.L.length<=60
 rc:zO s.L=true
 su:0<=s.S/\s.S<=s.L.length
 be:∀i,i<s.L.length->vJ s i=false
 pg:∀no,no<8->(V1 s.d no).2=true/\(V1 s.d no).1.Q<=s.S
 fr3:s.fr.length<=3
 fp:∀i,i<s.fr.length->FrP s.L.length (s.fr.getD i dz)
 nd:∀i j,i<s.fr.length->j<s.fr.length->(s.fr.getD i dz).no=(s.fr.getD j dz).no->i=j
 cl:∀i,i<s.fr.length->(s.fr.getD i dz).D=false->(V1 s.d (s.fr.getD i dz).no.toNat).1=(s.fr.getD i dz).pg
 hd:0<=s.J/\s.J<=2
 lg:∀i,i<s.S.toNat->U1 s.d (9+i)=P0 (s.L.getD i dz)
 lz:∀i,s.S.toNat<=i->i<60->U1 s.d (9+i)=[]
theorem iD{L:List Frm}{no:Int}(h:0<=frAt L no):(L.getD (frAt L no).toNat dz).no=no:=by
 unfold frAt S5 at h ⊢;split at h
 ·rename_i i hi;have:=List.find?_some hi
  simpa[lJ] using this
 ·omega
theorem b0p{L:List Frm}{i:Nat}(hi:i<L.length)(nd:∀i j,i<L.length->j<L.length->(L.getD i dz).no=(L.getD j dz).no->i=j):frAt L (L.getD i dz).no=i:=by
 have h:0<=frAt L (L.getD i dz).no:=Classical.byContradiction λh=>nO h hi rfl
 have d:=uF h;have:(L.getD (frAt L (L.getD i dz).no).toNat dz).no=(L.getD i dz).no:=iD h;have:=nd _ _ d hi this;omega
theorem GInv.ok{s:Sto}(h:GInv s):G2 s=true:=by
 refine(J8 s).2 ⟨⟨(v9 s).2 ⟨h.dg.P h.ca,h.dg.n69,h.ep.1,h.ep.2,h.l60⟩,h.rc,?_⟩,h.be,λno n=>?_,?_,?_⟩
 ·have:=h.su;simp[V8,this]
 ·obtain⟨a,b⟩:=h.pg no n;unfold zN;rw[a];simp only[Bool.not_true,Bool.false_or,qW];omega
 ·unfold yZ;have h3:=h.fr3;rw[P8.2 λi hi=>?_]
  ·simp;omega
  ·obtain⟨p1,p2,p3,p4,p5,p6,p7⟩:=h.fp i hi;unfold yU;rw[b0p hi h.nd,show j8 (s.fr.getD i dz).pg=true from pH p3]
   simp only[V8,zY,yL,M1,g7,qW,bne_self_eq_false,true_and,and_true,Bool.not_true,bne_eq_false_iff_eq];refine⟨⟨⟨⟨p1,p2⟩,Z9⟩,p5,p6⟩,?_⟩
   rw[Bool.eq_iff_iff,g7];exact p7.symm
 ·have:=h.hd;simp[V8,this]
theorem GInv.sm{s:Sto}(h:GInv s):SmS s:=by
 have f:=h.dg.n69;have d:=h.dg.kp;have j:=h.ca;have e:=h.l60;have g:=h.fr3;refine⟨⟨Z9,Z9,Z9⟩,Z9,Z9,λi hi=>?_⟩
 have:=(h.fp i hi).2.2.1.2.2.1;unfold SmF SmG;omega
theorem GInv.inv{s:Sto}(h:GInv s):SInv s:=a8N h.ok h.sm
theorem l9{a n:Int}(h:0<=a)(N:0<n):0<=a.tmod n/\a.tmod n<n:=⟨Int.tmod_nonneg _ h,Int.tmod_lt_of_pos _ N⟩
theorem a5J{s:Sto}{l:Int}(h:GInv s)(hl:l<=s.L.length):GInv (W7 s l).1/\(W7 s l).2=true/\l<=(W7 s l).1.S:=by
 by_cases e:l<=s.S
 ·rw[o8 e];exact⟨h,rfl,e⟩
 ·have hF:=h.inv.flu hl;have h60:=h.l60;have hsu:=h.su;obtain⟨g1,g2⟩:=a69 h.dg h.rc hF (L9 s l) (U9 _);obtain⟨y1,y2,y3,y4⟩:=a1Y g1;have hN:L9 s l=l.toNat-s.S.toNat:=rfl;have rd:∀n,n<69->U1 (U7 (qP s (L9 s l))).1 n=if 9+s.S.toNat<=n/\n<9+s.S.toNat+L9 s l then P0 (s.L.getD (n-9) dz) else U1 s.d n:=λn hn=>(y4 n hn).trans (g2 n hn)
  have rp:∀no,no<8->U1 (U7 (qP s (L9 s l))).1 (1+no)=U1 s.d (1+no):=λno hn=>by rw[rd _ Z9,if_neg Z9]
  rw[m5 e,y2,if_pos rfl];refine⟨⟨y1,by show(U7 _).1.C.length<=_;rw[y3];exact L8 _,h.ep,h.l60,h.rc,⟨by show 0<=l;omega,hl⟩,h.be,λno hn=>?_,h.fr3,h.fp,h.nd,λi hi C=>?_,h.hd,λi hi=>?_,λi hi f=>?_⟩,rfl,Int.le_refl _⟩
  ·obtain⟨a,b⟩:=h.pg no hn;show(V1 (U7 _).1 no).2=true/\(V1 (U7 _).1 no).1.Q<=l;rw[(w7 (rp no hn)).1];exact⟨a,Z9⟩
  ·have hf:=h.fp i hi;show(V1 (U7 _).1 _).1=_;rw[(w7 (rp (s.fr.getD i dz).no.toNat (by obtain⟨f1,f2,_⟩:=hf;omega))).1]
   exact h.cl i hi C
  ·have hi:i<l.toNat:=hi;show U1 (U7 _).1 (9+i)=_;rw[rd _ Z9]
   by_cases q:s.S.toNat<=i
   ·rw[if_pos Z9,show 9+i-9=i by omega]
   ·rw[if_neg Z9]
    exact h.lg i Z9
  ·have hi:l.toNat<=i:=hi;show U1 (U7 _).1 (9+i)=_;rw[rd _ Z9,if_neg Z9]
   exact h.lz i Z9 f
theorem c7Q{s:Sto}{d:Dsk}(h:GInv s)(hd:DG d)(C:d.C.length<=500)(hr:∀n,n<69->U1 d n=U1 s.d n):GInv (s.sd d):=by
 have e:=h.l60;have u:=h.su;refine⟨hd,C,h.ep,h.l60,h.rc,h.su,h.be,λno N=>?_,h.fr3,h.fp,h.nd,λi hi C=>?_,h.hd,λi hi=>?_,λi hi f=>?_⟩
 ·show(V1 d no).2=true/\(V1 d no).1.Q<=_;rw[(w7 (hr (1+no) Z9)).1]
  exact h.pg no N
 ·have hf:=h.fp i hi;show(V1 d (s.fr.getD i dz).no.toNat).1=(s.fr.getD i dz).pg;rw[(w7 (hr (1+(s.fr.getD i dz).no.toNat) (by obtain⟨f1,f2,_⟩:=hf;omega))).1]
  exact h.cl i hi C
 ·have hi:i<s.S.toNat:=hi;show U1 d (9+i)=_;rw[hr _ Z9]
  exact h.lg i hi
 ·show U1 d (9+i)=_;rw[hr _ Z9]
  exact h.lz i hi f
theorem b75{s:Sto}(h:GInv s):GInv (s.sd (B9 s.d).1)/\(B9 s.d).2=true:=by
 by_cases C:500<=s.d.C.length
 ·rw[sA C];obtain⟨f,Y,e,g⟩:=a1Y h.dg;exact⟨c7Q h f (by rw[e];exact L8 _) g,Y⟩
 ·rw[pM C];exact⟨h,rfl⟩
theorem c7y{a:Sto}{k:Nat}(h:GInv a)(C:a.d.C.length<=499)(hk:k<a.fr.length)(t:(a.fr.getD k dz).pg.Q<=a.S):GInv (wrF a k):=by
 have r:=h.l60;have U:=h.su;obtain⟨o,u,F,f4,A,B,x⟩:=h.fp k hk;have z:=(b4M (no:=(a.fr.getD k dz).no) F).1;have g:=(b4M (no:=(a.fr.getD k dz).no) F).2;have L:(a.fr.set k (jY (a.fr.getD k dz))).length=a.fr.length:=w6;have l:=λi=>rB (jY (a.fr.getD k dz)) i hk
 have rd:∀n,U1 (wrF a k).d n=if 1+(a.fr.getD k dz).no=n then S3 (a.fr.getD k dz).no (a.fr.getD k dz).pg else U1 a.d n:=λn=>lI _ _ _ _
 have pgk:V1 (wrF a k).d (a.fr.getD k dz).no.toNat=((a.fr.getD k dz).pg,true):=by
  have R:U1 (wrF a k).d (1+(a.fr.getD k dz).no.toNat)=S3 (a.fr.getD k dz).no (a.fr.getD k dz).pg:=by rw[rd,if_pos Z9]
  unfold V1;rw[R,if_neg g,show(((a.fr.getD k dz).no.toNat:Nat):Int)=(a.fr.getD k dz).no by omega]
  exact c2d F o Z9
 have pgn:∀no:Nat,no<8->(a.fr.getD k dz).no≠no->V1 (wrF a k).d no=V1 a.d no:=λno N hne=>(w7 (by rw[rd,if_neg Z9])).1
 refine⟨c15 h.dg Z9 Z9 z,?_,h.ep,h.l60,h.rc,h.su,h.be,λno N=>?_,?_,λi hi=>?_,λi j hi J f=>?_,λi hi hcl=>?_,h.hd,λi hi=>?_,λi hi v=>?_⟩
 ·show(a.d.C++[_]).length<=500;rw[J6];simp only[List.length_cons,List.length_nil];omega
 ·by_cases hne:(a.fr.getD k dz).no=no
  ·rw[show no=(a.fr.getD k dz).no.toNat by omega,pgk]
   exact⟨rfl,t⟩
  ·rw[pgn no N hne];exact h.pg no N
 ·show(List.set _ _ _).length<=3;rw[L];exact h.fr3
 ·have hi:i<a.fr.length:=by have:i<(a.fr.set k (jY (a.fr.getD k dz))).length:=hi;omega
  show FrP a.L.length ((a.fr.set k (jY (a.fr.getD k dz))).getD i dz);rw[l];split
  ·exact⟨o,u,F,f4,Int.le_refl _,fE,by simp[jY]⟩
  ·exact h.fp i hi
 ·have hi:i<a.fr.length:=by have:i<(a.fr.set k (jY (a.fr.getD k dz))).length:=hi;omega
  have J:j<a.fr.length:=by have:j<(a.fr.set k (jY (a.fr.getD k dz))).length:=J;omega
  have q:∀i,((a.fr.set k (jY (a.fr.getD k dz))).getD i dz).no=(a.fr.getD i dz).no:=λi=>by
   rw[l];split
   ·rename_i e;rw[e];rfl
   ·rfl
  have f:((a.fr.set k (jY (a.fr.getD k dz))).getD i dz).no=((a.fr.set k (jY (a.fr.getD k dz))).getD j dz).no:=f;rw[q,q] at f;exact h.nd i j hi J f
 ·have hi:i<a.fr.length:=by have:i<(a.fr.set k (jY (a.fr.getD k dz))).length:=hi;omega
  have hcl:((a.fr.set k (jY (a.fr.getD k dz))).getD i dz).D=false:=hcl;show(V1 (wrF a k).d ((a.fr.set k (jY (a.fr.getD k dz))).getD i dz).no.toNat).1=((a.fr.set k (jY (a.fr.getD k dz))).getD i dz).pg;rw[l] at hcl ⊢;by_cases e:i=k
  ·rw[if_pos e];show(V1 _ (a.fr.getD k dz).no.toNat).1=_;rw[pgk];rfl
  ·rw[if_neg e] at hcl ⊢;have hf:=h.fp i hi;rw[pgn _ (by obtain⟨q1,q2,_⟩:=hf;omega) (λe2=>e (h.nd i k hi hk (by obtain⟨q1,q2,_⟩:=hf;omega)))]
   exact h.cl i hi hcl
 ·have hi:i<a.S.toNat:=hi;rw[rd,if_neg Z9]
  exact h.lg i hi
 ·rw[rd,if_neg Z9]
  exact h.lz i hi v
structure OutP(s a:Sto)(k:Nat):Prop where
 g:GInv a
 le:a.fr.length=s.fr.length
 no:∀i,(a.fr.getD i dz).no=(s.fr.getD i dz).no/\(a.fr.getD i dz).pg=(s.fr.getD i dz).pg
 cl:(a.fr.getD k dz).D=false
 L:a.L=s.L/\a.ep=s.ep/\a.J=s.J/\s.S<=a.S
 ls:(s.fr.getD k dz).D=true->(s.fr.getD k dz).pg.Q<=a.S
theorem b5F{s:Sto}{l:Int}(h:GInv s)(L:l<=s.L.length):s.S<=(W7 s l).1.S:=by
 by_cases d:l<=s.S
 ·rw[o8 d];exact Int.le_refl _
 ·have:=(a5J h L).2.2;omega
theorem b72{s:Sto}{k:Nat}(h:GInv s)(n:k<s.fr.length):OutP s (X5 s k).1 k/\(X5 s k).2=true:=by
 cases hd:(s.fr.getD k dz).D with
 |false=>
  rw[b9 hd];exact⟨⟨h,rfl,λ_=>Z8,hd,⟨rfl,rfl,rfl,Int.le_refl _⟩,λe=>by rw[hd] at e;cases e⟩,rfl⟩
 |true=>
  obtain⟨_,_,_,f4,_⟩:=h.fp k n;obtain⟨q,v,o⟩:=a5J h f4;obtain⟨r,t,R,u⟩:=vC s (s.fr.getD k dz).pg.Q;have M:=b5F h f4;obtain⟨Y,x⟩:=b75 q;have C:=a7J (a3R (l:=(s.fr.getD k dz).pg.Q) h.ca);rw[pD hd v x];have d:k<(W7 s (s.fr.getD k dz).pg.Q).1.fr.length:=by rw[r];exact n
  have g:((W7 s (s.fr.getD k dz).pg.Q).1.fr.getD k dz).pg.Q<=(W7 s (s.fr.getD k dz).pg.Q).1.S:=by rw[r];exact o
  have G:=c7y (k:=k) Y C d g;have j:=λi=>rB (jY ((W7 s (s.fr.getD k dz).pg.Q).1.fr.getD k dz)) i d
  have N:∀i,(((W7 s (s.fr.getD k dz).pg.Q).1.fr.set k (jY ((W7 s (s.fr.getD k dz).pg.Q).1.fr.getD k dz))).getD i dz).no=(s.fr.getD i dz).no/\(((W7 s (s.fr.getD k dz).pg.Q).1.fr.set k (jY ((W7 s (s.fr.getD k dz).pg.Q).1.fr.getD k dz))).getD i dz).pg=(s.fr.getD i dz).pg:=λi=>by
   rw[j];split
   ·rename_i e;rw[e,r];exact Z8
   ·rw[r];exact Z8
  refine⟨⟨G,?_,N,?_,⟨R,u,t,M⟩,λ_=>o⟩,rfl⟩
  ·show(List.set _ _ _).length=_;rw[w6];exact congrArg List.length r
  ·have:=j k;rw[if_pos rfl] at this;exact congrArg (λf:Frm=>f.D) this
theorem c40{s:Sto}{no:Nat}(h:GInv s)(o:no<8):(V1 s.d no).2=true/\PgP (V1 s.d no).1/\(V1 s.d no).1.Q<=s.S:=by
 obtain⟨a,b⟩:=h.pg no o;exact⟨a,nB a,b⟩
theorem a9p{s:Sto}{no:Nat}(h:GInv s)(o:no<8):FrP s.L.length (G0 no (V1 s.d no).1):=by
 obtain⟨a,b,c⟩:=c40 h o;have:=h.su;exact⟨by show(0:Int)<=no;omega,by show(no:Int)<=7;omega,b,by show(V1 s.d no).1.Q<=_;omega,Int.le_refl _,fE,by simp[G0]⟩
theorem c3y{a:Sto}{L:List Frm}{hand:Int}(h:GInv a)(f:L.length<=3)(e:0<=hand/\hand<=2)(fp:∀i,i<L.length->FrP a.L.length (L.getD i dz))
  (nd:∀i j,i<L.length->j<L.length->(L.getD i dz).no=(L.getD j dz).no->i=j)
  (cl:∀i,i<L.length->(L.getD i dz).D=false->(V1 a.d (L.getD i dz).no.toNat).1=(L.getD i dz).pg):GInv ⟨a.d,a.ep,a.L,a.S,L,hand⟩:=
 ⟨h.dg,h.ca,h.ep,h.l60,h.rc,h.su,h.be,h.pg,f,fp,nd,cl,e,h.lg,h.lz⟩
structure FetP(s a:Sto)(k:Nat)(no:Nat):Prop where
 g:GInv a
 kk:k<a.fr.length
 no:(a.fr.getD k dz).no=no
 L:a.L=s.L/\a.ep=s.ep/\s.S<=a.S
theorem qJ{s:Sto}{no:Nat}(h:GInv s)(o:no<8):FetP s (Y7 s no).1 (Y7 s no).2.1 no/\(Y7 s no).2.2=true:=by
 have q:=h.hd;have r:=h.fr3;by_cases hc:0<=frAt s.fr no
 ·rw[(m4 0 hc).1];exact⟨⟨h,uF hc,iD hc,rfl,rfl,Int.le_refl _⟩,rfl⟩
 ·have hn:=λi hi=>nO (i:=i) hc hi
  by_cases h3:s.fr.length=3
  ·have hk:s.J.toNat<s.fr.length:=by omega
   obtain⟨⟨g,le,en,cl,⟨L,l2,l3,l⟩,_⟩,u⟩:=b72 h hk;rw[(x4 0 hc h3 u).1];have f:s.J.toNat<(X5 s s.J.toNat).1.fr.length:=Z9
   have eG:=λi=>rB (G0 no (V1 (X5 s s.J.toNat).1.d no).1) i f
   have eL:((X5 s s.J.toNat).1.fr.set s.J.toNat (G0 no (V1 (X5 s s.J.toNat).1.d no).1)).length=(X5 s s.J.toNat).1.fr.length:=w6;refine⟨⟨c3y g Z9 ?_ (λi hi=>?_) (λi j hi J=>?_) (λi hi=>?_),?_,?_,L,l2,l⟩,rfl⟩
   ·rw[l3];have:=l9 (a:=s.J+1) (n:=3) Z9 U4
    omega
   ·rw[eG];split
    ·exact a9p g o
    ·exact g.fp i Z9
   ·rw[eG,eG];have n1:=(en i).1;have n2:=(en j).1;by_cases e1:i=s.J.toNat
    ·by_cases e2:j=s.J.toNat
     ·intro _;omega
     ·rw[if_pos e1,if_neg e2];intro e;exact absurd (n2.symm.trans e.symm) (hn j Z9)
    ·by_cases e2:j=s.J.toNat
     ·rw[if_neg e1,if_pos e2];intro e;exact absurd (n1.symm.trans e) (hn i Z9)
     ·rw[if_neg e1,if_neg e2];exact g.nd i j Z9 Z9
   ·rw[eG];split
    ·intro _;show(V1 _ ((no:Int)).toNat).1=_;rw[C8];rfl
    ·exact g.cl i Z9
   ·show _<(List.set _ _ _).length;rw[eL];exact f
   ·show(((X5 s s.J.toNat).1.fr.set s.J.toNat (G0 no (V1 (X5 s s.J.toNat).1.d no).1)).getD s.J.toNat dz).no=_;rw[eG,if_pos rfl];rfl
  ·rw[(k7 0 hc h3).1];have eL:(s.fr++[G0 no (V1 s.d no).1]).length=s.fr.length+1:=by simp
   have eG:=λi hi=>yT dz s.fr (G0 no (V1 s.d no).1) i hi
   refine⟨⟨c3y h Z9 q (λi hi=>?_) (λi j hi J=>?_) (λi hi=>?_),?_,?_,rfl,rfl,Int.le_refl _⟩,rfl⟩
   ·rw[eG i Z9]
    split
    ·exact a9p h o
    ·exact h.fp i Z9
   ·rw[eG i Z9,eG j Z9]
    by_cases e1:i=s.fr.length
    ·by_cases e2:j=s.fr.length
     ·intro _;omega
     ·rw[if_pos e1,if_neg e2];intro e;exact absurd e.symm (hn j Z9)
    ·by_cases e2:j=s.fr.length
     ·rw[if_neg e1,if_pos e2];intro e;exact absurd e (hn i Z9)
     ·rw[if_neg e1,if_neg e2];exact h.nd i j Z9 Z9
   ·rw[eG i Z9]
    split
    ·intro _;show(V1 _ ((no:Int)).toNat).1=_;rw[C8];rfl
    ·exact h.cl i Z9
   ·show s.fr.length<(s.fr++[G0 no (V1 s.d no).1]).length;omega
   ·show((s.fr++[G0 no (V1 s.d no).1]).getD s.fr.length dz).no=_;rw[eG _ Z9,if_pos rfl]
    rfl
def c7H(s:Sto)(r:Rec):Sto:=⟨s.d,s.ep,s.L++[U0 s r],s.S,s.fr,s.J⟩
theorem c1A{s:Sto}{r:Rec}(h:GInv s)(z:s.L.length<60)(R:O9 (U0 s r)=true):GInv (c7H s r):=by
 have L:(s.L++[U0 s r]).length=s.L.length+1:=W6
 have eG:=λi hi=>yT dz s.L (U0 s r) i hi
 have u:=h.su;have f:=h.ep;refine⟨h.dg,h.ca,h.ep,by show(s.L++[_]).length<=_;omega,G9.2 λi hi=>?_,⟨u.1,by show s.S<=((s.L++[_]).length:Nat);omega⟩,λi hi=>?_,h.pg,h.fr3,λi hi=>?_,h.nd,h.cl,h.hd,λi hi=>?_,h.lz⟩
 ·show O9 ((s.L++[_]).getD i dz)=true/\((s.L++[_]).getD i dz).l=_;have hi:i<(s.L++[U0 s r]).length:=hi;rw[eG i Z9]
  split
  ·rename_i e;exact⟨R,by rw[e];rfl⟩
  ·exact G9.1 h.rc i Z9
 ·have hi:i<(s.L++[U0 s r]).length:=hi;unfold vJ;show(!V8 ((s.L++[U0 s r]).getD i dz).e (yO (s.L++[U0 s r]) i) s.ep)=false;have hb:=λj hj=>h.be j hj
  unfold vJ at hb;rw[eG i Z9]
  by_cases e:i=s.L.length
  ·rw[if_pos e];show(!V8 s.ep _ s.ep)=false;have:yO (s.L++[U0 s r]) i<=s.ep:=by
    unfold yO;split
    ·exact f.1
    ·rw[eG (i-1) Z9,if_neg Z9]
     have:=a7B (hb (i-1) Z9)
     exact this.2
   simp[V8,this]
  ·rw[if_neg e,←hb i Z9]
   have:yO (s.L++[U0 s r]) i=yO s.L i:=by
    unfold yO;split
    ·rfl
    ·rw[eG (i-1) Z9,if_neg Z9]
   rw[this]
 ·have F:FrP s.L.length (s.fr.getD i dz):=h.fp i hi;obtain⟨o,q,g,v,n,x,t⟩:=F;show FrP (s.L++[U0 s r]).length (s.fr.getD i dz);rw[L];exact⟨o,q,g,Z9,n,Z9,t⟩
 ·have hi:i<s.S.toNat:=hi;show U1 s.d (9+i)=P0 ((s.L++[U0 s r]).getD i dz);rw[eG i Z9,if_neg Z9]
  exact h.lg i hi
theorem a3m{s:Sto}{r:Rec}(h:GInv s)(g0:0<=r.g/\r.g<8)(s0:0<=r.s/\r.s<4)(I:1<=r.l/\r.l<=s.L.length)(t:r.a.length<=30):GInv (T7 s r).1/\(T7 s r).2=true/\(T7 s r).1.L=s.L/\(T7 s r).1.ep=s.ep:=by
 obtain⟨⟨g,d,no,L,l2,F⟩,u⟩:=qJ h (no:=r.g.toNat) Z9
 have e:T7 s r=(b11 (Y7 s r.g.toNat).1 (Y7 s r.g.toNat).2.1 r,true):=if_pos u;rw[e];generalize Y7 s r.g.toNat=A at*;obtain⟨a,k,up⟩:=A;dsimp only at*;have eG:=λi=>rB (vL (a.fr.getD k dz) r) i d
 have C:(a.fr.set k (vL (a.fr.getD k dz) r)).length=a.fr.length:=w6;have o:=h.l60;have J:=g.fr3;obtain⟨p1,p2,⟨B,O,q3,Q⟩,x,v,z,q⟩:=g.fp k d;have n:=congrArg List.length L;have N:∀i,((a.fr.set k (vL (a.fr.getD k dz) r)).getD i dz).no=(a.fr.getD i dz).no:=λi=>by
  rw[eG];split
  ·rename_i e;rw[e];rfl
  ·rfl
 refine⟨c3y g Z9 g.hd (λi hi=>?_) (λi j hi M f=>?_) (λi hi hcl=>?_),rfl,L,l2⟩
 ·rw[eG];split
  ·refine⟨p1,p2,⟨by show 0<=r.l;omega,by show r.l<=1000;omega,by show(List.set _ _ _).length=4;rw[w6];exact q3,λi hi=>?_⟩,by show r.l<=_;omega,?_,?_,?_⟩
   ·show(List.getD (List.set _ _ _) i []).length<=30;by_cases ei:i=r.s.toNat
    ·rw[ei,Q8,j_k Z9]
     exact t
    ·rw[Q8,bI (Ne.symm ei),←Q8]
     refine Q i ?_
     have:i<(List.set (a.fr.getD k dz).pg.sl r.s.toNat r.a).length:=hi;rw[w6] at this;exact this
   ·show 0<=(if(a.fr.getD k dz).D=true then(a.fr.getD k dz).first else r.l)
    split<;>omega
   ·show(if(a.fr.getD k dz).D=true then(a.fr.getD k dz).first else r.l)<=_
    split<;>omega
   ·show(true=true↔0<(if(a.fr.getD k dz).D=true then(a.fr.getD k dz).first else r.l))
    split
    ·rename_i hd;exact⟨λ_=>q.1 hd,λ_=>rfl⟩
    ·exact⟨λ_=>Z9,λ_=>rfl⟩
  ·exact g.fp i Z9
 ·rw[N,N] at f;exact g.nd i j Z9 Z9 f
 ·rw[eG] at hcl ⊢;by_cases ei:i=k
  ·rw[if_pos ei] at hcl;cases hcl
  ·rw[if_neg ei] at hcl ⊢;exact g.cl i Z9 hcl
def LI(L:List Rec):Prop:=w9 L/\∀a:Int,1<=a->a<=L.length->(Z4 L a).k<=3->((Z4 L a).p=0∨ownR L (Z4 L a).p (Z4 L a).t=true)/\((Z4 L a).k=3->ownR L (Z4 L a).n (Z4 L a).t=true)
def InT(T:List Txn)(x:Int):Prop:=∃j,j<T.length/\(T.getD j dz).id=x
structure EH(L:List Rec)(T:List Txn)(lk:Lks)(nx:Int):Prop where
 li:LI L
 t10:T.length<=10
 nxr:1<=nx/\nx<=61
 lks:F8 lk=true
 id:∀i,i<T.length->1<=(T.getD i dz).id/\(T.getD i dz).id<=nx-1
 asc:∀i j,i<j->j<T.length->(T.getD i dz).id<(T.getD j dz).id
 ow:∀i,i<T.length->ownR L (T.getD i dz).Z (T.getD i dz).id=true
 hd:∀i,i<lk.H.length->InT T (lk.H.getD i dz).tx
 wt:∀i,i<lk.W.length->InT T (lk.W.getD i dz).tx/\InT T (lk.W.getD i dz).fo
 rm:L.length+q7 L T T.length<=60
structure EI(e:Eng):Prop where
 g:GInv e.s
 up:e.up=true
 h:EH e.s.L e.X e.lk e.N
theorem oU{L:List Rec}(x:Rec){a:Int}(d:1<=a)(h:a<=L.length):Z4 (L++[x]) a=Z4 L a:=by
 unfold Z4;rw[Q8,tI Z9,←Q8]
theorem q9(L:List Rec)(x:Rec):Z4 (L++[x]) ((L.length:Int)+1)=x:=by
 unfold Z4;rw[show((L.length:Int)+1-1).toNat=L.length by omega,Q8,List.getElem?_concat_length]
 rfl
theorem zW{L:List Rec}{x:Rec}{a id:Int}(h:ownR L a id=true):ownR (L++[x]) a id=true:=by
 obtain⟨f,d⟩:=B2 h;unfold ownR at h ⊢;rw[oU x f d];simp only[M1,S2,J6,List.length_singleton] at h ⊢;obtain⟨⟨i,e⟩,g⟩:=h;exact⟨⟨Z9,e⟩,g⟩
theorem a9m{L:List Rec}{x:Rec}(h:1<=x.k/\x.k<=3):ownR (L++[x]) ((L.length:Int)+1) x.t=true:=by
 unfold ownR;rw[q9];simp only[M1,S2,J6,List.length_singleton,beq_self_eq_true];exact⟨⟨Z9,Z5⟩,h⟩
theorem a4p{L:List Rec}{a id:Int}(h:ownR L a id=true):(Z4 L a).t=id/\1<=(Z4 L a).k/\(Z4 L a).k<=3:=by
 unfold ownR at h;simp only[M1,S2,beq_iff_eq] at h;exact⟨h.1.2,h.2⟩
theorem a65{L:List Rec}{x:Rec}(h:LI L)(hp:D0 x)(q:x.l=(L.length:Int)+1)(X:x.k<=3->(x.p=0∨ownR L x.p x.t=true)/\(x.k=3->ownR L x.n x.t=true)):LI (L++[x]):=by
 have o:x.l<=60:=hp.2.2.2.1;have e:(L++[x]).length=L.length+1:=W6
 refine⟨⟨Z9,λi hi=>?_⟩,λa j r f=>?_⟩
 ·rw[yT dz L x i Z9]
  by_cases d:i=L.length
  ·rw[if_pos d];exact⟨hp,Z9⟩
  ·rw[if_neg d];exact h.1.2 i Z9
 ·by_cases ha:a<=L.length
  ·rw[oU x j ha] at f ⊢;obtain⟨B,b2⟩:=h.2 a j ha f;exact⟨B.imp id zW,λg=>zW (b2 g)⟩
  ·have:a=(L.length:Int)+1:=by omega
   subst this;rw[q9] at f ⊢;obtain⟨B,b2⟩:=X f;exact⟨B.imp id zW,λg=>zW (b2 g)⟩
theorem b5c{L:List Rec}(h:LI L){id:Int}:∀(f:Nat) (a:Int),a.toNat<f->(a<=0∨ownR L a id=true)->chn L id f a=true
 |0,_,hf,_=>absurd hf (J2 _)
 |f+1,a,hf,ha=>by
  unfold chn;rcases ha with ha|ha
  ·rw[pH ha];rfl
  ·obtain⟨h1,h2⟩:=B2 ha;obtain⟨t1,t2,t3⟩:=a4p ha;obtain⟨p1,p2,p3,p4⟩:=h.1.prev h1 h2;obtain⟨b1,b2⟩:=h.2 a h1 h2 t3;rw[t1] at b1 b2;have hc:chn L id f (Z4 L a).p=true:=b5c h f _ Z9 (b1.imp (λe=>Z9) λe=>e)
   rw[hc,Bool.and_true];have o:okR L id a=true:=by
    unfold okR;rw[ha,Bool.true_and];by_cases d:(Z4 L a).k=3
    ·rw[b2 d,Bool.or_true]
    ·rw[show((Z4 L a).k !=3)=true by simpa using d];rfl
   rw[o,Bool.or_true]
theorem c7h{L:List Rec}(h:LI L){t:Txn}(o:ownR L t.Z t.id=true):nR L t=true:=by
 obtain⟨d,e⟩:=B2 o;have:=h.1.1;unfold nR;rw[S2.2 ⟨d,e⟩,Bool.true_and];exact b5c h 61 _ Z9 (.inr o)
theorem a1s{T:List Txn}{x:Int}(h:InT T x):¬T9 T x<0:=λn=>by
 obtain⟨j,J,e⟩:=h;have d:=C5 T.length (G7 T x);have f:anyI T.length (G7 T x)=true:=R2.2 ⟨j,J,by unfold G7;rw[e];exact beq_self_eq_true x⟩
 rw[f] at d;have:=B3 d;have g:S5 T.length (G7 T x)<0:=n;omega
theorem EI.r{e:Eng}(h:EI e):tC e=true:=by
 obtain⟨_,u,li,t10,nx,lk,id,asc,ow,hd,wt,rm⟩:=h;unfold tC wI upE;rw[if_pos u];simp only[M1,g7,S2,wG];refine⟨⟨⟨t10,nx⟩,lk⟩,⟨⟨?_,?_⟩,?_⟩,rm⟩
 ·refine P8.2 λi hi=>?_
  unfold y9;simp only[zY,yL,Bool.and_eq_false_iff,qW,S2];refine⟨⟨id i hi,?_⟩,c7h li (ow i hi)⟩
  by_cases d:i=0
  ·exact .inl Z9
  ·have:=asc (i-1) i Z9 hi
   exact .inr Z9
 ·refine P8.2 λi hi=>?_
  unfold wX;exact tH (a1s (hd i hi))
 ·refine P8.2 λi hi=>?_
  unfold s5;rw[tH (a1s (wt i hi).1),tH (a1s (wt i hi).2)];rfl
theorem EI.ok{e:Eng}(h:EI e):U3 e=true:=by
 unfold U3;rw[h.g.ok,h.r];rfl
theorem EI.sm{e:Eng}(h:EI e):O3 e:=by
 have d:=fU h.h.lks;have f:=h.h.t10;exact⟨h.g.sm,Z9,Z9,Z9⟩
theorem EH.at_{L:List Rec}{T:List Txn}{lk:Lks}{nx:Int}(h:EH L T lk nx){k:Nat}(d:k<T.length):T9 T (T.getD k dz).id=k:=
 O8 d (by unfold G7;exact beq_self_eq_true _) λj J=>by
  have:=h.asc j k J d;unfold G7;exact beq_eq_false_iff_ne.2 Z9
theorem uC{L:List Rec}(hL:w9 L):∀(f g:Nat) (a:Int),a<=L.length->a.toNat<f->a.toNat<g->und L f a=und L g a
 |0,_,_,_,h,_=>absurd h (J2 _)
 |f+1,0,_,_,_,h=>absurd h (J2 _)
 |f+1,g+1,a,ha,h1,h2=>by
  unfold und;by_cases d:a<=0
  ·rw[if_pos d,if_pos d]
  ·obtain⟨p1,p2,p3,p4⟩:=hL.prev (show 1<=a by omega) ha
   rw[if_neg d,if_neg d,uC hL f g _ Z9 Z9 Z9,uC hL f g _ Z9 Z9 Z9]
theorem a2f{L:List Rec}{x:Rec}{T:List Txn}(d:w9 L):∀n,(∀i,i<n->(T.getD i dz).Z<=L.length)->q7 (L++[x]) T n=q7 L T n
 |0,_=>rfl
 |n+1,h=>by
  unfold q7;rw[a2f d n λi hi=>h i Z9,wT d 61 _ (h n Z9)]
theorem yB{T:List Txn}{k:Nat}(t:Txn)(i:Nat)(hk:k<T.length):(T.set k t).getD i dz=if i=k then t else T.getD i dz:=by
 by_cases h:i=k
 ·subst h;rw[if_pos rfl,Q8,j_k hk]
  rfl
 ·rw[if_neg h,Q8,bI (Ne.symm h),←Q8]
theorem b4l{L:List Rec}{T:List Txn}{k:Nat}(t:Txn)(d:k<T.length):∀n,q7 L (T.set k t) n+(if k<n then und L 61 (T.getD k dz).Z else 0)=q7 L T n+(if k<n then und L 61 t.Z else 0)
 |0=>by rw[if_neg (J2 _),if_neg (J2 _)];rfl
 |n+1=>by
  have ih:=b4l (L:=L) t d n;unfold q7;rw[yB t n d];by_cases h:n=k
  ·subst h;rw[if_pos rfl,if_pos Z9,if_pos Z9]
   rw[if_neg Z9,if_neg Z9] at ih
   omega
  ·rw[if_neg h];by_cases h2:k<n
   ·rw[if_pos h2,if_pos h2] at ih;rw[if_pos Z9,if_pos Z9]
    omega
   ·rw[if_neg h2,if_neg h2] at ih;rw[if_neg Z9,if_neg Z9]
    omega
theorem wC{T:List Txn}{k:Nat}(i:Nat)(d:k<T.length):(T.take k++T.drop (k+1)).getD i dz=T.getD (if i<k then i else i+1) dz:=by
 have l:(T.take k).length=k:=by rw[List.length_take];omega
 by_cases h:i<k
 ·rw[if_pos h,Q8,tI Z9,List.getElem?_take_of_lt h,←Q8]
 ·rw[if_neg h,Q8,tD Z9,l,List.getElem?_drop,show k+1+(i-k)=i+1 by omega,←Q8]
theorem rL{T:List Txn}{k:Nat}(h:k<T.length):(T.take k++T.drop (k+1)).length=T.length-1:=by
 rw[J6,List.length_take,List.length_drop];omega
theorem b6C{L:List Rec}{T:List Txn}{k:Nat}(d:k<T.length):∀n,n<T.length->q7 L (T.take k++T.drop (k+1)) n+(if k<=n then 1+und L 61 (T.getD k dz).Z else 0)=q7 L T (if k<=n then n+1 else n)
 |0,_=>by
  by_cases h:k=0
  ·subst h;rw[if_pos (U9 _),if_pos (U9 _)];show 0+_=0+_;rfl
  ·rw[if_neg Z9,if_neg Z9]
   rfl
 |n+1,hn=>by
  have ih:=b6C (L:=L) d n Z9
  have e:q7 L (T.take k++T.drop (k+1)) (n+1)=q7 L (T.take k++T.drop (k+1)) n+(1+und L 61 (T.getD (if n<k then n else n+1) dz).Z):=by
   conv=>lhs;unfold q7
   rw[wC n d]
  by_cases h:k<=n
  ·rw[if_pos h,if_pos h] at ih;have e1:(if n<k then n else n+1)=n+1:=if_neg Z9
   rw[e1] at e;have f:(if k<=n+1 then n+1+1 else n+1)=n+1+1:=if_pos Z9
   have e2:q7 L T (n+1+1)=q7 L T (n+1)+(1+und L 61 (T.getD (n+1) dz).Z):=rfl;rw[e,f,if_pos (show k<=n+1 by omega)]
   omega
  ·rw[if_neg h,if_neg h] at ih;have e2:q7 L T (n+1)=q7 L T n+(1+und L 61 (T.getD n dz).Z):=rfl;have e1:(if n<k then n else n+1)=n:=if_pos Z9
   rw[e1] at e;by_cases g:k<=n+1
   ·have:k=n+1:=by omega
    subst this;have f:q7 L T (n+1+1)=q7 L T (n+1)+(1+und L 61 (T.getD (n+1) dz).Z):=rfl;rw[e,if_pos (U9 _),if_pos (U9 _)];omega
   ·rw[e,if_neg g,if_neg g];omega
theorem b0z{L:List Rec}{T:List Txn}{k:Nat}(h:k<T.length):q7 L (T.take k++T.drop (k+1)) (T.take k++T.drop (k+1)).length+(1+und L 61 (T.getD k dz).Z)=q7 L T T.length:=by
 have:=b6C (L:=L) h (T.length-1) Z9
 rw[if_pos Z9,if_pos Z9,show T.length-1+1=T.length by omega] at this
 rw[rL h];exact this
theorem a0R{α:Type}[Inhabited α](f:α->Bool)(L:List α):∀n,n<=L.length->X1 f L n=(L.take n).filter f
 |0,_=>by rw[List.take_zero];rfl
 |n+1,h=>by
  have e:L.take (n+1)=L.take n++[L.getD n dz]:=by
   rw[List.take_add_one,I9 Z9,Q8,I9 Z9]
   rfl
  unfold X1;rw[e,List.filter_append,a0R f L n Z9]
  by_cases F:f (L.getD n dz)=true
  ·rw[if_pos F,List.filter_cons_of_pos F];rfl
  ·rw[if_neg F,List.filter_cons_of_neg F];simp
theorem sV{α:Type}[Inhabited α](f:α->Bool)(L:List α):X1 f L L.length=L.filter f:=by
 rw[a0R f L _ (U9 _),j_j]
def b9y(w:Wt):Bool:=V8 w.tx 1 60&&V8 w.fo 1 60&&(w.tx !=w.fo)
def c5W(b a:Lck):Prop:=(qB a b||clash a b)=false
theorem yI{α:Type}[Inhabited α]{L:List α}{i:Nat}(h:i<L.length):L.getD i dz ∈ L:=by
 rw[Q8,I9 h]
 exact List.getElem_mem h
theorem xI{α:Type}[Inhabited α]{L:List α}{a:α}(h:a ∈ L):∃i,i<L.length/\L.getD i dz=a:=by
 obtain⟨i,hi,e⟩:=List.mem_iff_getElem.1 h;exact⟨i,hi,by rw[Q8,I9 hi];exact e⟩
theorem iK{α:Type}[Inhabited α]{L:List α}{i:Nat}(h:i<L.length):L.getD i dz=L[i]:=by
 rw[Q8,I9 h]
 rfl
theorem wR{l:Lks}:F8 l=true↔(∀a ∈ l.H,i9 a=true)/\l.H.Pairwise c5W/\l.H.length<=60/\l.W.length<=100/\∀w ∈ l.W,b9y w=true:=by
 unfold F8;simp only[M1,wG,g7];rw[P8,P8,List.pairwise_iff_getElem];refine⟨λ⟨h1,⟨h2,h3⟩,h4⟩=>⟨λa A=>?_,λi j hi hj h=>?_,h2,h3,λw hw=>?_⟩,λ⟨h1,h2,h3,h4,h5⟩=>⟨λi hi=>?_,⟨h3,h4⟩,λi hi=>?_⟩⟩
 ·obtain⟨i,hi,rfl⟩:=xI A;have:=h1 i hi;unfold C2 at this;simp only[zY,yL] at this;exact this.1
 ·have:=h1 j hj;unfold C2 at this;simp only[zY] at this;have:=P8.1 this.2 i h;unfold xK at this;rw[iK hj,iK hi] at this;exact this
 ·obtain⟨i,hi,rfl⟩:=xI hw;have:=h4 i hi;unfold A1 at this;unfold b9y;simp only[zY,yL] at this;rw[this.1.1,this.1.2]
  simpa using this.2
 ·unfold C2;rw[h1 _ (yI hi)];simp only[Bool.not_true,Bool.false_or];refine P8.2 λj hj=>?_
  unfold xK;rw[iK hi,iK (show j<l.H.length by omega)]
  exact h2 j i Z9 hi hj
 ·have:=h5 _ (yI hi);unfold b9y at this;unfold A1;simp only[M1] at this;rw[this.1.1,this.1.2]
  simpa using this.2
theorem c4f{l:Lks}(h:F8 l=true)(tx:Int):F8 (frK l tx)=true:=by
 obtain⟨f,d,i,e,g⟩:=wR.1 h;unfold frK;rw[sV,sV];refine wR.2 ⟨λa A=>f a (List.mem_filter.1 A).1,List.Pairwise.filter _ d,Nat.le_trans (List.length_filter_le _ _) i,Nat.le_trans (List.length_filter_le _ _) e,λw W=>g w (List.mem_filter.1 W).1⟩
theorem b0v{L:List Rec}{x:Rec}(h:w9 (L++[x])):und (L++[x]) 61 ((L.length:Int)+1)=if x.k=3 then und L 61 x.n else(if x.k=2 then 1 else 0)+und L 61 x.p:=by
 have e:(L++[x]).length=L.length+1:=W6
 have f:w9 L:=⟨by have:=h.1;omega,λi hi=>by
  have:=h.2 i Z9
  rw[yT dz L x i Z9,if_neg Z9] at this
  exact this⟩
 obtain⟨o,q,j,l⟩:=h.prev (at_:=(L.length:Int)+1) Z9 Z9
 rw[q9] at o q j l;have g:=h.1;conv=>lhs;unfold und
 rw[if_neg Z9,q9]
 by_cases d:x.k=3
 ·rw[if_pos d,if_pos d,wT f 60 _ Z9,uC f 60 61 _ Z9 Z9 Z9]
 ·rw[if_neg d,if_neg d,wT f 60 _ Z9,uC f 60 61 _ Z9 Z9 Z9]
theorem a7y{T:List Txn}{k:Nat}{n x:Int}(d:k<T.length)(h:InT T x):InT (T.set k ⟨(T.getD k dz).id,n⟩) x:=by
 obtain⟨j,J,e⟩:=h;refine⟨j,by rw[w6];exact J,?_⟩
 rw[yB _ j d];by_cases h:j=k
 ·rw[if_pos h,←e,h]
 ·rw[if_neg h];exact e
abbrev c7w(L:List Rec)(tn:Txn)(x:Rec):Prop:=D0 x/\x.l=(L.length:Int)+1/\x.t=tn.id/\x.p=tn.Z
def a4f(L:List Rec)(t:Txn)(x:Rec):Nat:=if x.k=3 then und L 61 x.n else(if x.k=2 then 1 else 0)+und L 61 t.Z
theorem b6Y{L:List Rec}{T:List Txn}{lk:Lks}{nx:Int}{x:Rec}(h:EH L T lk nx){k:Nat}(hk:k<T.length)(X:c7w L (T.getD k dz) x)(v:x.k<=3)(N:x.k=3->ownR L x.n x.t=true)
  (M:L.length+1+q7 L T T.length+a4f L (T.getD k dz) x<=60+und L 61 (T.getD k dz).Z):
  EH (L++[x]) (T.set k ⟨(T.getD k dz).id,(L.length:Int)+1⟩) lk nx/\
  q7 (L++[x]) (T.set k ⟨(T.getD k dz).id,(L.length:Int)+1⟩) T.length+und L 61 (T.getD k dz).Z=q7 L T T.length+a4f L (T.getD k dz) x/\
  und (L++[x]) 61 ((L.length:Int)+1)=a4f L (T.getD k dz) x:=by
 obtain⟨hp,r,o,f⟩:=X;have g:1<=x.k:=hp.2.2.2.2.1;have I:LI (L++[x]):=a65 h.li hp r λ_=>⟨.inr (by rw[f,o];exact h.ow k hk),N⟩
 have u:=b0v I.1;rw[f] at u;have u:und (L++[x]) 61 ((L.length:Int)+1)=a4f L (T.getD k dz) x:=u;have d:∀i,i<T.length->(T.getD i dz).Z<=L.length:=λi hi=>(B2 (h.ow i hi)).2
 have hlen:(T.set k (⟨(T.getD k dz).id,(L.length:Int)+1⟩:Txn)).length=T.length:=w6;have l:q7 (L++[x]) (T.set k ⟨(T.getD k dz).id,(L.length:Int)+1⟩) T.length+und L 61 (T.getD k dz).Z=q7 L T T.length+a4f L (T.getD k dz) x:=by
  have q:=b4l (L:=L++[x]) (T:=T) ⟨(T.getD k dz).id,(L.length:Int)+1⟩ hk T.length;rw[if_pos hk,if_pos hk,a2f h.li.1 _ d,wT h.li.1 61 _ (d k hk),u] at q;exact q
 refine⟨⟨I,by rw[hlen];exact h.t10,h.nxr,h.lks,λi hi=>?_,λi j hij hj=>?_,λi hi=>?_,λi hi=>a7y hk (h.hd i hi),λi hi=>⟨a7y hk (h.wt i hi).1,a7y hk (h.wt i hi).2⟩,?_⟩,l,u⟩
 ·rw[hlen] at hi;rw[yB _ i hk];by_cases e:i=k
  ·rw[if_pos e];exact h.id k hk
  ·rw[if_neg e];exact h.id i hi
 ·rw[hlen] at hj;have:=h.asc i j hij hj;rw[yB _ i hk,yB _ j hk];by_cases e:i=k
  ·rw[if_pos e,if_neg Z9]
   rw[e] at this;exact this
  ·rw[if_neg e];by_cases e2:j=k
   ·rw[if_pos e2];rw[e2] at this;exact this
   ·rw[if_neg e2];exact this
 ·rw[hlen] at hi;rw[yB _ i hk];by_cases e:i=k
  ·rw[if_pos e];have:=a9m (L:=L) (x:=x) ⟨g,v⟩;rw[o] at this;exact this
  ·rw[if_neg e];exact zW (h.ow i hi)
 ·rw[hlen];have e:(L++[x]).length=L.length+1:=by simp
  omega
theorem a1o{L:List Rec}{T:List Txn}{k:Nat}(h:k<T.length):1<=q7 L T T.length:=by
 have:=b0z (L:=L) h;omega
theorem a7f{T:List Txn}{k:Nat}{x:Int}(d:k<T.length)(h:InT T x)(X:x≠(T.getD k dz).id):InT (T.take k++T.drop (k+1)) x:=by
 obtain⟨j,J,e⟩:=h;have f:j≠k:=λg=>X (by rw[←e,g])
 by_cases l:j<k
 ·exact⟨j,by rw[rL d];omega,by rw[wC j d,if_pos l];exact e⟩
 ·exact⟨j-1,by rw[rL d];omega,by rw[wC (j-1) d,if_neg Z9,show j-1+1=j by omega];exact e⟩
theorem c5b{L:List Rec}{T:List Txn}{lk:Lks}{nx:Int}{x:Rec}(h:EH L T lk nx){k:Nat}(hk:k<T.length)(hp:D0 x)(g:x.l=(L.length:Int)+1)(o:4<=x.k):
  EH (L++[x]) (T.take k++T.drop (k+1)) (frK lk (T.getD k dz).id) nx/\
  (L++[x]).length+q7 (L++[x]) (T.take k++T.drop (k+1)) (T.take k++T.drop (k+1)).length+und L 61 (T.getD k dz).Z=L.length+q7 L T T.length:=by
 have hlen:=rL hk;have e:(L++[x]).length=L.length+1:=W6
 have M:=h.rm;have q:=a1o (L:=L) hk;have t:∀i,i<(T.take k++T.drop (k+1)).length->((T.take k++T.drop (k+1)).getD i dz).Z<=L.length:=λi hi=>by
  rw[wC i hk];rw[hlen] at hi;split
  ·exact(B2 (h.ow i Z9)).2
  ·exact(B2 (h.ow (i+1) Z9)).2
 have f:(L++[x]).length+q7 (L++[x]) (T.take k++T.drop (k+1)) (T.take k++T.drop (k+1)).length+und L 61 (T.getD k dz).Z=L.length+q7 L T T.length:=by
  rw[a2f h.li.1 _ t,e];have:=b0z (L:=L) hk;omega
 have d:=c4f h.lks (T.getD k dz).id;refine⟨⟨a65 h.li hp g λn=>Z9,by rw[hlen];have:=h.t10;omega,h.nxr,d,λi hi=>?_,λi j J hj=>?_,λi hi=>?_,λi hi=>?_,λi hi=>?_,Z9⟩,f⟩
 ·rw[hlen] at hi;rw[wC i hk];split
  ·exact h.id i Z9
  ·exact h.id (i+1) Z9
 ·rw[hlen] at hj;rw[wC i hk,wC j hk];split
  ·split
   ·exact h.asc i j J Z9
   ·exact h.asc i (j+1) Z9 Z9
  ·rw[if_neg Z9]
   exact h.asc (i+1) (j+1) Z9 Z9
 ·rw[hlen] at hi;rw[wC i hk];split
  ·exact zW (h.ow i Z9)
  ·exact zW (h.ow (i+1) Z9)
 ·have hm:=yI hi;have hm:(frK lk (T.getD k dz).id).H.getD i dz ∈ X1 (hF (T.getD k dz).id) lk.H lk.H.length:=hm;rw[sV] at hm;obtain⟨m1,m2⟩:=List.mem_filter.1 hm;obtain⟨j,hj,ej⟩:=xI m1;have:=h.hd j hj;rw[ej] at this;refine a7f hk this λe=>?_
  unfold hF at m2;rw[e] at m2;simp at m2
 ·have hm:=yI hi;have hm:(frK lk (T.getD k dz).id).W.getD i dz ∈ X1 (wF (T.getD k dz).id) lk.W lk.W.length:=hm;rw[sV] at hm;obtain⟨m1,m2⟩:=List.mem_filter.1 hm;obtain⟨j,hj,ej⟩:=xI m1;have W:=h.wt j hj;rw[ej] at W;unfold wF at m2;simp only[M1,bne_iff_ne,ne_eq] at m2;exact⟨a7f hk W.1 m2.1,a7f hk W.2 m2.2⟩
theorem c5l{L:List Rec}{T:List Txn}{lk:Lks}{nx:Int}{x:Rec}(h:EH L T lk nx)(z:T.length<=9)(q:nx<=60)(M:L.length+q7 L T T.length+2<=60)(hp:D0 x)(g:x.l=(L.length:Int)+1)(o:x.t=nx)(r:x.k=1):
  EH (L++[x]) (T++[⟨nx,(L.length:Int)+1⟩]) lk (nx+1):=by
 have e:(L++[x]).length=L.length+1:=W6
 have eT:(T++[(⟨nx,(L.length:Int)+1⟩:Txn)]).length=T.length+1:=W6
 have d:x.p=0:=(hp.2.2.2.2.2.2.2.2.2.2.2.2.2.2.2.2 Z9).2.2.2.2.2.2.1 r
 have I:LI (L++[x]):=a65 h.li hp g λ_=>⟨.inl d,λe=>Z9⟩
 have u:=b0v I.1;rw[if_neg Z9,if_neg Z9,d,nH (Int.le_refl 0)] at u
 have at_:∀i,i<T.length+1->(T++[(⟨nx,(L.length:Int)+1⟩:Txn)]).getD i dz=if i=T.length then⟨nx,(L.length:Int)+1⟩ else T.getD i dz:=λi hi=>yT dz T _ i hi
 have N:∀y,InT T y->InT (T++[(⟨nx,(L.length:Int)+1⟩:Txn)]) y:=λy ⟨j,hj,f⟩=>⟨j,Z9,by rw[at_ j Z9,if_neg Z9];exact f⟩
 have hlast:∀i,i<T.length->(T.getD i dz).Z<=L.length:=λi hi=>(B2 (h.ow i hi)).2
 have X:=h.nxr;have hns:∀n,n<=T.length->q7 (L++[x]) (T++[(⟨nx,(L.length:Int)+1⟩:Txn)]) n=q7 (L++[x]) T n:=λn=>by
  induction n with
  |zero=>intro _;rfl
  |succ n v=>
   intro q;unfold q7;rw[v Z9,at_ n Z9,if_neg Z9]
 refine⟨I,Z9,Z9,h.lks,λi hi=>?_,λi j J hj=>?_,λi hi=>?_,λi hi=>N _ (h.hd i hi),λi hi=>⟨N _ (h.wt i hi).1,N _ (h.wt i hi).2⟩,?_⟩
 ·rw[eT] at hi;rw[at_ i hi];by_cases c:i=T.length
  ·rw[if_pos c];dsimp only;omega
  ·rw[if_neg c];have:=h.id i Z9
   omega
 ·rw[eT] at hj;rw[at_ i Z9,at_ j hj,if_neg Z9]
  by_cases c:j=T.length
  ·rw[if_pos c];have:=h.id i Z9
   dsimp only;omega
  ·rw[if_neg c];exact h.asc i j J Z9
 ·rw[eT] at hi;rw[at_ i hi];by_cases c:i=T.length
  ·rw[if_pos c];have:=a9m (L:=L) (x:=x) Z9
   rw[o] at this;exact this
  ·rw[if_neg c];exact zW (h.ow i Z9)
 ·rw[eT,e];unfold q7;rw[hns _ (U9 _),a2f h.li.1 _ hlast,at_ T.length Z9,if_pos rfl]
  dsimp only;omega
def phi(e:Eng):Nat:=e.s.L.length+vN e
theorem a2o{T:List Txn}{k:Nat}(t:Txn):(T.set k t).take k++(T.set k t).drop (k+1)=T.take k++T.drop (k+1):=by
 rw[List.take_set_of_le (U9 k),List.drop_set_of_lt (Nat.lt_succ_self k)]
theorem EI.rcp{e:Eng}(h:EI e){k:Nat}(d:k<e.X.length){r:Rec}(q:r.k≠6)(v:2<=r.k/\r.k<=5)(j:r.k≠3->r.n=0)(o:r.k≠2->r.k≠3->r.g=0/\r.s=0/\r.b=[]/\r.a=[])(A:0<=r.n/\r.n<=(e.s.L.length:Int))(x:0<=r.g/\r.g<=7)(z:0<=r.s/\r.s<=3)(f:r.b.length<=30/\r.a.length<=30)(l:r.k=3->r.b=[]):
  D0 (U0 e.s (Q9 e k r)):=by
 have i:=h.g.ep;have t:=h.h.id k d;have N:=h.h.nxr;have u:=B2 (h.h.ow k d);have R:=h.h.rm;have hp:=a1o (L:=e.s.L) d;unfold D0 U0 Q9;dsimp only;exact⟨i.1,i.2,Z9,Z9,Z9,Z9,Z9,Z9,Z9,Z9,Z9,Z9,Z9,Z9,f.1,λe=>absurd e q,λ_=>⟨Z9,Z9,f.2,o,j,l,⟨λe=>Z9,λe=>Z9⟩⟩⟩
theorem EI.app{e:Eng}(h:EI e){k:Nat}(d:k<e.X.length){r:Rec}(R:D0 (U0 e.s (Q9 e k r))):GInv (K7 e k r).s:=by
 have M:=h.h.rm;have hp:=a1o (L:=e.s.L) d;exact c1A h.g Z9 ((R6 _).2 R)
theorem c3p{e:Eng}(h:EI e):EI (V5 e).1:=by
 unfold V5;rw[if_pos h.up];have r:=h.h.rm;have n:=h.h.nxr;have f:=h.h.t10;by_cases h1:e.N>60∨e.X.length=10
 ·rw[if_pos h1];exact h
 ·rw[if_neg h1];by_cases h2:(e.s.L.length:Int)+vN e+2<=60
  ·rw[if_pos h2];have h2:e.s.L.length+q7 e.s.L e.X e.X.length+2<=60:=by
    have:vN e=q7 e.s.L e.X e.X.length:=rfl;omega
   have d:=h.g.ep;have A:(e.X++[(⟨e.N,0⟩:Txn)]).getD e.X.length dz=⟨e.N,0⟩:=by rw[yT dz _ _ _ Z9,if_pos rfl]
   have hp:D0 (U0 e.s (Q9 (yY e) e.X.length uA)):=by
    unfold D0 U0 Q9 yY uA;dsimp only;rw[A];dsimp only;exact⟨d.1,d.2,Z9,by show(e.s.L.length:Int)+1<=60;omega,Z9,Z9,Z9,by show(0:Int)<=(e.s.L.length:Int)+1-1;omega,Z9,by show(0:Int)<=(e.s.L.length:Int)+1-1;omega,Z9,Z9,Z9,Z9,L8 _,λe=>Z9,λ_=>⟨Z9,Z9,L8 _,λ_ _=>Z8,λ_=>rfl,λ_=>rfl,⟨λ_=>rfl,λ_=>rfl⟩⟩⟩
   have f:(U0 e.s (Q9 (yY e) e.X.length uA)).t=e.N:=by
    show((e.X++[(⟨e.N,0⟩:Txn)]).getD e.X.length dz).id=_;rw[A]
   have i:=c5l h.h Z9 Z9 h2 hp rfl f rfl
   have j:(e.X++[(⟨e.N,0⟩:Txn)]).set e.X.length ⟨((e.X++[(⟨e.N,0⟩:Txn)]).getD e.X.length dz).id,(e.s.L.length:Int)+1⟩=e.X++[⟨e.N,(e.s.L.length:Int)+1⟩]:=by
    rw[A,List.set_append_right _ _ (U9 _),j_i];rfl
   refine⟨c1A h.g (show e.s.L.length<60 by omega) ((R6 _).2 hp),h.up,?_⟩
   show EH (e.s.L++[U0 e.s (Q9 (yY e) e.X.length uA)]) ((e.X++[(⟨e.N,0⟩:Txn)]).set e.X.length ⟨((e.X++[(⟨e.N,0⟩:Txn)]).getD e.X.length dz).id,(e.s.L.length:Int)+1⟩) e.lk (e.N+1);rw[j];exact i
  ·rw[if_neg h2];exact h
theorem a9e{e:Eng}(h:EI e){k:Nat}(f:k<e.X.length){r:Rec}(R:D0 (U0 e.s (Q9 e k r)))(o:4<=r.k){s:Sto}(n:GInv s)(l:s.L=(K7 e k r).s.L):
  EI (lK {K7 e k r with s:=s} k)/\phi (lK {K7 e k r with s:=s} k)+und e.s.L 61 (e.X.getD k dz).Z=phi e:=by
 obtain⟨q,i⟩:=c5b (x:=U0 e.s (Q9 e k r)) h.h f R rfl o;have j:(e.X.set k ⟨(e.X.getD k dz).id,(e.s.L.length:Int)+1⟩).take k++(e.X.set k ⟨(e.X.getD k dz).id,(e.s.L.length:Int)+1⟩).drop (k+1)=e.X.take k++e.X.drop (k+1):=a2o _;have d:((e.X.set k ⟨(e.X.getD k dz).id,(e.s.L.length:Int)+1⟩).getD k dz).id=(e.X.getD k dz).id:=a2b f;have g:lK {K7 e k r with s:=s} k=⟨s,e.up,e.X.take k++e.X.drop (k+1),frK e.lk (e.X.getD k dz).id,e.N⟩:=by
  show(⟨s,e.up,(e.X.set k ⟨(e.X.getD k dz).id,(e.s.L.length:Int)+1⟩).take k++(e.X.set k ⟨(e.X.getD k dz).id,(e.s.L.length:Int)+1⟩).drop (k+1),frK e.lk ((e.X.set k ⟨(e.X.getD k dz).id,(e.s.L.length:Int)+1⟩).getD k dz).id,e.N⟩:Eng)=_;rw[j,d]
 rw[g];have l:s.L=e.s.L++[U0 e.s (Q9 e k r)]:=l;refine⟨⟨n,h.up,by dsimp only;rw[l];exact q⟩,?_⟩
 unfold phi vN;dsimp only;rw[l];exact i
theorem c4L{e:Eng}(h:EI e)(tx:Int):EI (U8 e tx).1:=by
 unfold U8;by_cases h0:(S8 e tx).2=0
 ·obtain⟨hu,k,e1,hk,hi,ha⟩:=i3 h0;have hR:D0 (U0 e.s (Q9 e k a4N)):=h.rcp hk U4 U4 (λ_=>rfl) (λ_ _=>Z8) ⟨Int.le_refl _,fE⟩ U4 U4 U4 (λ_=>rfl)
  have i:=h.app hk hR;have n:=m3 e k a4N;obtain⟨d,g,_⟩:=a5J (l:=((e.s.L.length+1:Nat):Int)) i (by rw[n];exact Int.le_refl _)
  have f:(vF e k).2=true:=g;rw[if_pos h0,e1,C8,if_pos f];exact(a9e h hk hR U4 d (vC _ _).2.2.1).1
 ·rw[if_neg h0];exact h
theorem b77{e:Eng}(h:EI e){k:Nat}(i:k<e.X.length){a:Int}(v:ownR e.s.L a (e.X.getD k dz).id=true)(F:(Z4 e.s.L a).k=2)(hu:und e.s.L 61 (e.X.getD k dz).Z=und e.s.L 61 a):
  (J5 e k (Z4 e.s.L a)).2=true/\EI (J5 e k (Z4 e.s.L a)).1/\(J5 e k (Z4 e.s.L a)).1.X=e.X.set k ⟨(e.X.getD k dz).id,(e.s.L.length:Int)+1⟩/\phi (J5 e k (Z4 e.s.L a)).1=phi e/\
  ((Z4 e.s.L a).p<=0∨ownR (J5 e k (Z4 e.s.L a)).1.s.L (Z4 e.s.L a).p (e.X.getD k dz).id=true)/\
  und (J5 e k (Z4 e.s.L a)).1.s.L 61 ((e.s.L.length:Int)+1)=und (J5 e k (Z4 e.s.L a)).1.s.L 61 (Z4 e.s.L a).p:=by
 obtain⟨A,l⟩:=B2 v;obtain⟨J,_,_⟩:=a4p v;have L:=h.h.li.1;obtain⟨M,_⟩:=L.at A l;obtain⟨p1,p2,Y,Z⟩:=L.prev A l;obtain⟨B,_⟩:=h.h.li.2 a A l Z9
 rw[J] at B;have z:=L.1;obtain⟨_,_,_,_,_,_,_,_,_,_,t,g2,u,s2,o,_,V⟩:=M;have j:(Z4 e.s.L a).p≠0:=λC=>by have:=(V Z9).2.2.2.2.2.2.2 C;omega
 have f:ownR e.s.L (Z4 e.s.L a).p (e.X.getD k dz).id=true:=B.resolve_left j;have R:D0 (U0 e.s (Q9 e k (s6 (Z4 e.s.L a)))):=h.rcp i b0c b0c (λe=>absurd rfl e) (λ_ e=>absurd rfl e) ⟨by show 0<=(Z4 e.s.L a).p;omega,by show(Z4 e.s.L a).p<=_;omega⟩ ⟨t,by show(Z4 e.s.L a).g<=7;omega⟩ ⟨u,by show(Z4 e.s.L a).s<=3;omega⟩ ⟨L8 _,o⟩ (λ_=>rfl)
 have U:=h.app i R;have n:=m3 e k (s6 (Z4 e.s.L a));have ua:und e.s.L 61 a=1+und e.s.L 61 (Z4 e.s.L a).p:=by
  rw[uL Z9 Z9 Z9,if_pos F,uC L _ 61 _ Z9 Z9 Z9]
 have N:a4f e.s.L (e.X.getD k dz) (U0 e.s (Q9 e k (s6 (Z4 e.s.L a))))=und e.s.L 61 (Z4 e.s.L a).p:=if_pos rfl;have W:=h.h.rm;obtain⟨Q,X,q⟩:=b6Y (x:=U0 e.s (Q9 e k (s6 (Z4 e.s.L a)))) h.h i ⟨R,Z8⟩ (by show(3:Int)<=3;omega) (λ_=>f) (by rw[N];omega)
 rw[N] at X q;obtain⟨I,c2,O,_⟩:=a3m U (r:=uX e k (Z4 e.s.L a)) ⟨t,b79⟩ ⟨u,b5b⟩ ⟨a9i,a9D⟩ o
 have d:(J5 e k (Z4 e.s.L a)).1.s.L=e.s.L++[U0 e.s (Q9 e k (s6 (Z4 e.s.L a)))]:=O;refine⟨c2,⟨I,h.up,by rw[d];exact Q⟩,rfl,?_,.inr (by rw[d];exact zW f),?_⟩
 ·unfold phi vN;rw[d];show(e.s.L++[_]).length+q7 _ (e.X.set k _) (e.X.set k _).length=_;rw[w6,J6,List.length_singleton];omega
 ·rw[d,q,wT L 61 _ Z9]
structure UndP(e:Eng)(k:Nat)(u:(Eng×Nat)×Bool)(to:Int):Prop where
 al:u.2=true
 ei:EI u.1.1
 ln:u.1.1.X.length=e.X.length
 ph:phi u.1.1=phi e
 un:∃a,a<=to/\und u.1.1.s.L 61 (u.1.1.X.getD k dz).Z=und u.1.1.s.L 61 a
theorem a2D{k:Nat}{to:Int}(d:0<=to):∀(f:Nat) (e:Eng) (v:Nat) (a:Int),a.toNat<f->EI e->k<e.X.length->(a<=0∨ownR e.s.L a (e.X.getD k dz).id=true)->und e.s.L 61 (e.X.getD k dz).Z=und e.s.L 61 a->UndP e k (I5 k to f e v a) to
 |0,_,_,_,hf,_,_,_,_=>absurd hf (J2 _)
 |f+1,e,v,a,hf,h,hk,ha,hu=>by
  by_cases ht:a<=to
  ·rw[vS ht];exact⟨rfl,h,rfl,rfl,a,ht,hu⟩
  ·have ho:ownR e.s.L a (e.X.getD k dz).id=true:=ha.resolve_left Z9
   obtain⟨A,g⟩:=B2 ho;obtain⟨j,q,t⟩:=a4p ho;have L:=h.h.li.1;have i:=L.1;obtain⟨z,C,o,x⟩:=L.prev A g;obtain⟨B,b2⟩:=h.h.li.2 a A g t;rw[j] at B b2;by_cases h3:(Z4 e.s.L a).k=3
   ·rw[dR ht Z9 h3]
    have u:und e.s.L 61 a=und e.s.L 61 (Z4 e.s.L a).n:=by
     rw[mI Z9 Z9 h3,uC L _ 61 _ Z9 Z9 Z9]
    exact a2D d f e v _ Z9 h hk (.inr (b2 h3)) (hu.trans u)
   ·by_cases h2:(Z4 e.s.L a).k=2
    ·obtain⟨c1,c2,c3,c4,c5,c6⟩:=b77 h hk ho h2 hu;rw[dC ht Z9 h2 c1]
     have l:((J5 e k (Z4 e.s.L a)).1.X.getD k dz)=⟨(e.X.getD k dz).id,(e.s.L.length:Int)+1⟩:=by rw[c3,yB _ k hk,if_pos rfl]
     have r:=a2D d f (J5 e k (Z4 e.s.L a)).1 (jL e k (Z4 e.s.L a) v) (Z4 e.s.L a).p Z9 c2 (by rw[c3,w6];exact hk) (by rw[l];exact c5) (by rw[l];exact c6)
     have R:=r.ln;rw[c3,w6] at R;exact⟨r.al,r.ei,R,r.ph.trans c4,r.un⟩
    ·rw[dU ht Z9 h3 h2]
     have u:und e.s.L 61 a=und e.s.L 61 (Z4 e.s.L a).p:=by
      rw[uL Z9 Z9 h3,if_neg h2,D8,uC L _ 61 _ Z9 Z9 Z9]
     exact a2D d f e v _ Z9 h hk (B.imp (λe=>Z9) λe=>e) (hu.trans u)
theorem a1L{e:Eng}(h:EI e){k:Nat}(d:k<e.X.length){to:Int}(g:0<=to):UndP e k (P7 e k to) to:=by
 have o:=h.h.ow k d;have f:=h.h.li.1.1;have:=B2 o;exact a2D g 61 e 0 _ Z9 h d (.inr o) rfl
theorem c2R{e:Eng}(h:EI e){k:Nat}(f:k<e.X.length):EI (I6 e k).1.1/\(I6 e k).2=0/\phi (I6 e k).1.1=phi e/\(I6 e k).1.1.X.length+1=e.X.length:=by
 obtain⟨U,u,o,n,a,l,j⟩:=a1L h f (Int.le_refl 0);have d:k<(P7 e k 0).1.1.X.length:=Z9
 rw[nH l] at j;have R:D0 (U0 (P7 e k 0).1.1.s (Q9 (P7 e k 0).1.1 k oC)):=u.rcp d U4 U4 (λ_=>rfl) (λ_ _=>Z8) ⟨Int.le_refl _,fE⟩ U4 U4 U4 (λ_=>rfl)
 obtain⟨i,g⟩:=a9e u d R U4 (u.app d R) rfl
 have L:(lK (K7 (P7 e k 0).1.1 k oC) k).X.length+1=(P7 e k 0).1.1.X.length:=by
  show(((P7 e k 0).1.1.X.set k _).take k++((P7 e k 0).1.1.X.set k _).drop (k+1)).length+1=_;rw[a2o,rL d];omega
 rw[a8O (by rw[mF U])]
 exact⟨i,rfl,by have g:phi (lK (K7 (P7 e k 0).1.1 k oC) k)+_=_:=g;dsimp only;omega,W5⟩
def cF(tx:Int)(w:Wt):Bool:=w.tx !=tx
def u7(l:Lks)(tx:Int):Lks:=⟨l.H,X1 (cF tx) l.W l.W.length⟩
def c3l(a b:Int):Bool:=(a==b)||(a==4)||(b==1)
def a4r(L:List Lck)(x:Lck)(i:Nat):Bool:=((L.getD i dz).tx==x.tx)&&((L.getD i dz).ta==x.ta)&&((L.getD i dz).row==x.row)&&c3l (L.getD i dz).mo x.mo
def c0V(L:List Wt)(w:Wt)(i:Nat):Bool:=((L.getD i dz).tx==w.tx)&&(((L.getD i dz).fo==w.fo)&&true)
def M7(L:List Lck)(x:Lck):Nat->List Wt
 |0=>[]
 |i+1=>if clash (L.getD i dz) x=true then(if anyI (M7 L x i).length (c0V (M7 L x i) ⟨x.tx,(L.getD i dz).tx⟩)=true then M7 L x i else M7 L x i++[⟨x.tx,(L.getD i dz).tx⟩]) else M7 L x i
def thr(R:List Int)(a:Int)(i:Nat):Bool:=R.getD i 0==a
def scn(W:List Wt)(tx a:Int)(R:List Int):Nat->Option (List Int)
 |0=>some R
 |k+1=>match scn W tx a R k with
  |none=>none
  |some Q=>if(W.getD k dz).tx=a then(if(W.getD k dz).fo=tx then none else if anyI Q.length (thr Q (W.getD k dz).fo)=true then some Q else some (Q++[(W.getD k dz).fo])) else some Q
def a4c(W:List Wt)(tx:Int):Nat->Nat->List Int->Bool
 |0,_,_=>false
 |f+1,i,R=>if i<R.length then(match scn W tx (R.getD i 0) R W.length with|none=>true|some Q=>a4c W tx f (i+1) Q) else false
def rnd(W:List Wt)(tx:Int):Bool:=a4c W tx 200 0 [tx]
def zK(l:Lks)(x:Lck):List Wt:=M7 l.H x l.H.length
def M4(l:Lks)(x:Lck):Lks×Int:=
 if anyI l.H.length (a4r l.H x)=true then(u7 l x.tx,0) else
 if(zK l x).length=0 then(if l.H.length=60 then(u7 l x.tx,7) else(⟨l.H++[x],(u7 l x.tx).W⟩,0)) else
 if(u7 l x.tx).W.length+(zK l x).length>100 then(u7 l x.tx,7) else
 if rnd ((u7 l x.tx).W++zK l x) x.tx=true then(u7 l x.tx,14) else(⟨l.H,(u7 l x.tx).W++zK l x⟩,13)
theorem c38(a b:Int):pS a b=pS b a:=by
 unfold pS;rw[Bool.eq_iff_iff];simp only[M1,qY,bne_iff_ne,ne_eq,beq_iff_eq];omega
theorem c1a(a b:Lck):clash a b=clash b a:=by
 unfold clash sP;rw[c38 a.mo b.mo,Bool.eq_iff_iff];simp only[M1,bne_iff_ne,ne_eq,beq_iff_eq];constructor
 ·rintro⟨⟨h,f,d⟩,g⟩;exact⟨⟨λe=>h e.symm,f.symm,d.symm⟩,g⟩
 ·rintro⟨⟨h,f,d⟩,g⟩;exact⟨⟨λe=>h e.symm,f.symm,d.symm⟩,g⟩
theorem b35{L:List Lck}{x:Lck}:∀n,M7 L x n=[]->∀i,i<n->clash (L.getD i dz) x=false
 |0,_,_,hi=>absurd hi (J2 _)
 |n+1,h,i,hi=>by
  unfold M7 at h;cases C:clash (L.getD n dz) x with
  |true=>
   rw[if_pos C] at h;split at h
   ·rename_i A;rw[h] at A;obtain⟨_,d,_⟩:=R2.1 A;exact absurd d (J2 _)
   ·simp at h
  |false=>
   rw[if_neg (by rw[C];simp)] at h
   by_cases e:i=n
   ·rw[e];exact C
   ·exact b35 n h i Z9
theorem rX{L:List Lck}{x:Lck}{w:Wt}:∀n,n<=L.length->w ∈ M7 L x n->∃i,i<L.length/\w=⟨x.tx,(L.getD i dz).tx⟩/\(L.getD i dz).tx≠x.tx
 |0,_,h=>G3
 |n+1,hn,h=>by
  unfold M7 at h;split at h
  ·rename_i hc;split at h
   ·exact rX n Z9 h
   ·rcases List.mem_append.1 h with h|h
    ·exact rX n Z9 h
    ·rw[List.mem_singleton] at h;refine⟨n,Z9,h,?_⟩
     unfold clash at hc;simp only[M1,bne_iff_ne,ne_eq] at hc;exact hc.1.1
  ·exact rX n Z9 h
theorem b5f{L:List Lck}{x:Lck}:∀n,(M7 L x n).length<=n
 |0=>U9 0
 |n+1=>by
  have i:=b5f (L:=L) (x:=x) n;unfold M7;split
  ·split
   ·omega
   ·rw[J6,List.length_singleton];omega
  ·omega
structure LkP(T:List Txn)(l:Lks):Prop where
 ok:F8 l=true
 hd:∀a ∈ l.H,InT T a.tx
 wt:∀w ∈ l.W,InT T w.tx/\InT T w.fo
theorem c65{L:List Rec}{T:List Txn}{lk:Lks}{nx:Int}(h:EH L T lk nx):LkP T lk:=by
 refine⟨h.lks,λa A=>?_,λw W=>?_⟩
 ·obtain⟨i,hi,rfl⟩:=xI A;exact h.hd i hi
 ·obtain⟨i,hi,rfl⟩:=xI W;exact h.wt i hi
theorem c61{L:List Rec}{T:List Txn}{lk l:Lks}{nx:Int}(h:EH L T lk nx)(hp:LkP T l):EH L T l nx:=
 ⟨h.li,h.t10,h.nxr,hp.ok,h.id,h.asc,h.ow,λ_ hi=>hp.hd _ (yI hi),λ_ hi=>hp.wt _ (yI hi),h.rm⟩
theorem c5D{T:List Txn}{l:Lks}(h:LkP T l)(tx:Int):LkP T (u7 l tx):=by
 obtain⟨g,e,i⟩:=h;obtain⟨d,f,j,A,n⟩:=wR.1 g;unfold u7;rw[sV];exact⟨wR.2 ⟨d,f,j,Nat.le_trans (List.length_filter_le _ _) A,λw W=>n w (List.mem_filter.1 W).1⟩,e,λw W=>i w (List.mem_filter.1 W).1⟩
theorem c5G{T:List Txn}{l:Lks}{x:Lck}(h:LkP T l)(X:i9 x=true)(hi:InT T x.tx):LkP T (M4 l x).1:=by
 have o:=c5D h x.tx;obtain⟨C,c2,c3⟩:=o;obtain⟨A,a2,j,a4,a5⟩:=wR.1 C;have A:∀a ∈ l.H,i9 a=true:=A;have j:l.H.length<=60:=j;have c2:∀a ∈ l.H,InT T a.tx:=c2;unfold M4;split
 ·exact⟨C,c2,c3⟩
 ·rename_i hh;split
  ·rename_i hw;split
   ·exact⟨C,c2,c3⟩
   ·rename_i h60;refine⟨wR.2 ⟨λa ha=>?_,List.pairwise_append.2 ⟨a2,List.pairwise_singleton _ _,λb hb a ha=>?_⟩,aB,a4,a5⟩,λa ha=>?_,c3⟩
    ·rcases List.mem_append.1 ha with ha|ha
     ·exact A a ha
     ·rw[List.mem_singleton.1 ha];exact X
    ·rw[List.mem_singleton.1 ha];obtain⟨i,hi',rfl⟩:=xI (show b ∈ l.H from hb)
     have n:=b35 _ (List.length_eq_zero_iff.1 hw) i hi';have g:a4r l.H x i=false:=by
      cases q:a4r l.H x i with
      |false=>rfl
      |true=>exact absurd (R2.2 ⟨i,hi',q⟩) hh
     unfold c5W;rw[c1a,n,Bool.or_false];cases d:qB x (l.H.getD i dz) with
     |false=>rfl
     |true=>
      unfold qB at d;simp only[M1,beq_iff_eq,Bool.and_true] at d;unfold a4r c3l at g;rw[d.1,d.2.1,d.2.2.1,d.2.2.2] at g;simp at g
    ·rcases List.mem_append.1 ha with ha|ha
     ·exact c2 a ha
     ·rw[List.mem_singleton.1 ha];exact hi
  ·split
   ·exact⟨C,c2,c3⟩
   ·rename_i h100;split
    ·exact⟨C,c2,c3⟩
    ·have t:1<=x.tx/\x.tx<=60:=by
      unfold i9 at X;simp only[M1,S2] at X;exact X.1.1.1.1
     refine⟨wR.2 ⟨A,a2,j,by dsimp only;rw[J6];omega,λw hw=>?_⟩,c2,λw hw=>?_⟩
     ·rcases List.mem_append.1 hw with hw|hw
      ·exact a5 w hw
      ·obtain⟨i,hi',rfl,f⟩:=rX _ (U9 _) hw;have L:=A _ (yI hi');unfold i9 at L;simp only[M1,S2] at L;unfold b9y;simp only[M1,S2,bne_iff_ne,ne_eq];exact⟨⟨t,L.1.1.1.1⟩,λe=>f e.symm⟩
     ·rcases List.mem_append.1 hw with hw|hw
      ·exact c3 w hw
      ·obtain⟨i,hi',rfl,f⟩:=rX _ (U9 _) hw;exact⟨hi,c2 _ (yI hi')⟩
def K1(e:Eng)(s:Sto):Eng:={e with s:=s}
theorem c7g{e:Eng}(h:EI e){s:Sto}(d:GInv s)(l:s.L=e.s.L):EI (K1 e s):=⟨d,h.up,by show EH s.L _ _ _;rw[l];exact h.h⟩
def qX(e:Eng)(k:Nat)(ta row mo:Int):Lck:=⟨(e.X.getD k dz).id,ta,row,mo⟩
def jA(e:Eng)(k:Nat)(ta row mo:Int):Eng:={e with lk:=(M4 e.lk (qX e k ta row mo)).1}
def E6(e:Eng)(k:Nat)(ta row mo:Int):Eng×Int:=
 if(M4 e.lk (qX e k ta row mo)).2=14 then((I6 (jA e k ta row mo) k).1.1,if(I6 (jA e k ta row mo) k).2=0 then 14 else 15) else(jA e k ta row mo,(M4 e.lk (qX e k ta row mo)).2)
theorem b8X{tx ta row mo:Int}(h:1<=tx/\tx<=60)(f:1<=ta/\ta<=3)(d: -1<=row/\row<=1000)(g:1<=mo/\mo<=4)(e:row<0∨3<=mo):i9 ⟨tx,ta,row,mo⟩=true:=by
 unfold i9;simp only[M1,qY,g7,S2];exact⟨⟨⟨⟨h,f⟩,d⟩,g⟩,e⟩
structure LokR(ta row mo:Int):Prop where
 a:1<=ta/\ta<=3
 b: -1<=row/\row<=1000
 c:1<=mo/\mo<=4
 d:row<0∨3<=mo
theorem c6J{e:Eng}(h:EI e){k:Nat}(f:k<e.X.length){ta row mo:Int}(r:LokR ta row mo):EI (jA e k ta row mo):=by
 have i:=h.h.id k f;have n:=h.h.nxr;exact⟨h.g,h.up,c61 h.h (c5G (c65 h.h) (b8X Z9 r.a r.b r.c r.d) ⟨k,f,rfl⟩)⟩
def kepA(L:List Rec)(g s:Int):Nat->Int->Bool
 |0,_=>false
 |f+1,a=>if a<=0 then false else if(Z4 L a).k=3 then kepA L g s f (Z4 L a).n else if(Z4 L a).k=2/\(Z4 L a).g=g/\(Z4 L a).s=s then true else kepA L g s f (Z4 L a).p
def a7h(e:Eng)(tx g s:Int)(i:Nat):Bool:= !((e.X.getD i dz).id==tx)&&kepA e.s.L g s 61 (e.X.getD i dz).Z
def a05(e:Eng)(tx g s:Int):Bool:=anyI e.X.length (a7h e tx g s)
structure Plc where
 a:Int
 b:Int
 c:Int
 d:Int
 deriving Inhabited
def a6V(t:Bz)(ta id:Int):Bool:=(yH t).2.2&&((yH t).1==ta)&&((yH t).2.1.id==id)
def vE(e:Eng)(tx ta id:Int)(no:Nat)(p:Pg)(A:Plc):Nat->Plc
 |0=>A
 |i+1=>let B:=vE e tx ta id no p A i
  if p.sl.getD i []=[] then(if B.c<0/\a05 e tx no i=false then⟨B.a,B.b,no,i⟩ else B)
  else if a6V (p.sl.getD i []) ta id=true/\B.a<0 then⟨no,i,B.c,B.d⟩ else B
def Q6(e:Eng)(tx ta id:Int):Nat->Sto×Plc×Bool
 |0=>(e.s,⟨-1,-1,-1,-1⟩,true)
 |n+1=>if(Q6 e tx ta id n).2.2=true then
   (if(Y7 (Q6 e tx ta id n).1 n).2.2=true then((Y7 (Q6 e tx ta id n).1 n).1,vE e tx ta id n ((Y7 (Q6 e tx ta id n).1 n).1.fr.getD (Y7 (Q6 e tx ta id n).1 n).2.1 dz).pg (Q6 e tx ta id n).2.1 4,true) else((Y7 (Q6 e tx ta id n).1 n).1,(Q6 e tx ta id n).2.1,false))
  else Q6 e tx ta id n
def b9X(A:Plc):Prop:=(A.a= -1∨(0<=A.a/\A.a<=7/\0<=A.b/\A.b<=3))/\(A.c= -1∨(0<=A.c/\A.c<=7/\0<=A.d/\A.d<=3))
theorem a50{e:Eng}{tx ta id:Int}{no:Nat}{p:Pg}{A:Plc}(N:no<8)(h:b9X A):∀n,n<=4->b9X (vE e tx ta id no p A n)
 |0,_=>h
 |n+1,hn4=>by
  have i:=a50 (e:=e) (tx:=tx) (ta:=ta) (id:=id) (p:=p) N h n Z9
  unfold vE;dsimp only;split
  ·split
   ·exact⟨i.1,.inr ⟨W5,W5,W5,W5⟩⟩
   ·exact i
  ·split
   ·exact⟨.inr ⟨W5,W5,W5,W5⟩,i.2⟩
   ·exact i
theorem a8T{e:Eng}(h:GInv e.s)(tx ta id:Int):∀n,n<=8->GInv (Q6 e tx ta id n).1/\(Q6 e tx ta id n).1.L=e.s.L/\(Q6 e tx ta id n).2.2=true/\b9X (Q6 e tx ta id n).2.1
 |0,_=>⟨h,rfl,rfl,.inl rfl,.inl rfl⟩
 |n+1,hn=>by
  obtain⟨f,d,j,g⟩:=a8T h tx ta id n Z9
  obtain⟨⟨F,l,o,f4⟩,i⟩:=qJ f (no:=n) Z9
  unfold Q6;rw[if_pos j,if_pos i];exact⟨F,f4.1.trans d,rfl,a50 Z9 g 4 (U9 _)⟩
def Q4(g s:Int)(b a:Bz):Rec:=⟨0,0,0,2,0,0,g,s,b,a⟩
def o6(e:Eng)(k:Nat)(r:Rec):Eng×Bool:=(K1 (K7 e k r) (T7 (K7 e k r).s (U0 e.s (Q9 e k r))).1,(T7 (K7 e k r).s (U0 e.s (Q9 e k r))).2)
theorem b59{e:Eng}(h:EI e){k:Nat}(d:k<e.X.length){g s:Int}{b a:Bz}(i:0<=g/\g<=7)(f:0<=s/\s<=3)(B:b.length<=30)(A:a.length<=30)(R:e.s.L.length+vN e+2<=60):
  EI (o6 e k (Q4 g s b a)).1/\(o6 e k (Q4 g s b a)).2=true:=by
 have j:D0 (U0 e.s (Q9 e k (Q4 g s b a))):=h.rcp d (by show(2:Int)≠6;decide) (by show(2:Int)<=2/\(2:Int)<=5;decide) (λ_=>rfl) (λe _=>absurd rfl e) ⟨Int.le_refl _,fE⟩ i f ⟨B,A⟩ (λe=>by cases e)
 have l:=h.app d j;have n:=m3 e k (Q4 g s b a);have N:a4f e.s.L (e.X.getD k dz) (U0 e.s (Q9 e k (Q4 g s b a)))=1+und e.s.L 61 (e.X.getD k dz).Z:=by
  unfold a4f;rw[if_neg (by show ¬ (2:Int)=3;decide),if_pos (show(U0 e.s (Q9 e k (Q4 g s b a))).k=2 from rfl)]
 have R:e.s.L.length+q7 e.s.L e.X e.X.length+2<=60:=R;obtain⟨q,_,_⟩:=b6Y (x:=U0 e.s (Q9 e k (Q4 g s b a))) h.h d ⟨j,Z8⟩ (by show(2:Int)<=3;decide) (λe=>by cases e) (by rw[N];omega)
 obtain⟨o,c2,C,_⟩:=a3m l (r:=U0 e.s (Q9 e k (Q4 g s b a))) ⟨i.1,by show g<8;omega⟩ ⟨f.1,by show s<4;omega⟩ ⟨a9i,a9D⟩ A
 refine⟨⟨o,h.up,?_⟩,c2⟩
 show EH (T7 (K7 e k (Q4 g s b a)).s (U0 e.s (Q9 e k (Q4 g s b a)))).1.L _ _ _;rw[C];exact q
def zP(v:Val):Bz:=if v.k=0 then[1] else if v.k=1 then 2::z7 (v.n+1000000000).toNat else 3::(v.t++[0])
def qR(ta:Int)(r:Rw):Bz:=zP ⟨1,ta,[]⟩++zP ⟨1,r.id,[]⟩++zP r.n++zP r.name
def yN(e:Eng)(A:Plc)(s:Sto):Sto×Bz:=((Y7 s A.a.toNat).1,((Y7 s A.a.toNat).1.fr.getD (Y7 s A.a.toNat).2.1 dz).pg.sl.getD A.b.toNat [])
theorem c4t{e:Eng}{s:Sto}{A:Plc}(h:GInv s)(j:0<=A.a/\A.a<=7/\0<=A.b/\A.b<=3):GInv (yN e A s).1/\(yN e A s).1.L=s.L/\(yN e A s).2.length<=30/\(Y7 s A.a.toNat).2.2=true/\(Y7 s A.a.toNat).2.1<(Y7 s A.a.toNat).1.fr.length/\((Y7 s A.a.toNat).1.fr.getD (Y7 s A.a.toNat).2.1 dz).pg.sl.length=4:=by
 obtain⟨⟨F,f,l,f4⟩,g⟩:=qJ h (no:=A.a.toNat) Z9
 obtain⟨_,_,⟨_,_,d,i⟩,_⟩:=F.fp _ f;exact⟨F,f4.1,i A.b.toNat (by rw[d];omega),g,f,d⟩
theorem GInv.B{s:Sto}(h:GInv s):b5B s:=by
 have j:=h.dg.n69;have f:=h.dg.kp;have n:=h.ca;have g:=h.l60;have l:=h.fr3;have key:∀r ∈ s.L,r.a.length<=38:=λr R=>by
  obtain⟨i,hi,e⟩:=List.getElem_of_mem R;have d:s.L.getD i dz=r:=by rw[Q8,I9 hi,e];rfl
  have:=(b6M (G9.1 h.rc i hi).1).2;rw[d] at this;exact this
 refine⟨⟨pX,pX,pX⟩,?_,⟨pX,λi hi=>?_⟩,λr R=>by have:=key r R;unfold M3;omega⟩
 ·exact⟨Z9,λr R=>by have:=key r R;omega⟩
 ·have:=(h.fp i hi).2.2.1.2.2.1;unfold PgB M3;omega
theorem c18{e:Eng}(h:EI e):e.lk.H.length<=60/\e.lk.W.length<=100/\e.X.length<=10:=by
 obtain⟨_,_,a,b,_⟩:=wR.1 h.h.lks;exact⟨a,b,h.h.t10⟩
theorem fH{e:Eng}(h:EI e):tF e:=by
 obtain⟨a,b,c⟩:=c18 h;exact⟨h.g.B,⟨pX,pX⟩,pX⟩
def c6C(s:Sto)(n:Nat)(p:Pg):Prop:=(∃i,i<s.fr.length/\(s.fr.getD i dz).no=(n:Int)/\(s.fr.getD i dz).pg=p)∨((∀i,i<s.fr.length->(s.fr.getD i dz).no≠(n:Int))/\(V1 s.d n).1=p)
def pgV(s:Sto)(n:Nat):Pg:=if 0<=frAt s.fr n then(s.fr.getD (frAt s.fr n).toNat dz).pg else(V1 s.d n).1
theorem b0t(s:Sto)(n:Nat):c6C s n (pgV s n):=by
 unfold pgV;split
 ·rename_i h;exact .inl ⟨_,uF h,iD h,rfl⟩
 ·rename_i h;exact .inr ⟨λi hi=>nO h hi,rfl⟩
theorem a5b{s:Sto}(h:GInv s){n:Nat}{p:Pg}(hp:c6C s n p):pgV s n=p:=by
 rcases hp with⟨i,hi,hn,hp⟩|⟨h1,hp⟩
 ·have:=b0p hi h.nd;rw[hn] at this;unfold pgV;rw[this,if_pos Z9,C8]
  exact hp
 ·unfold pgV;rw[if_neg (λhc=>h1 _ (uF hc) (iD hc))]
  exact hp
theorem c5z{s:Sto}{l:Int}(h:GInv s)(L:l<=s.L.length){n:Nat}(N:n<8):U1 (W7 s l).1.d (1+n)=U1 s.d (1+n):=by
 by_cases e:l<=s.S
 ·rw[o8 e]
 ·have hF:=h.inv.flu L;have u:=h.su;obtain⟨f,g⟩:=a69 h.dg h.rc hF (L9 s l) (U9 _);obtain⟨_,_,_,Y⟩:=a1Y f;rw[m5 e];show U1 (U7 (qP s (L9 s l))).1 (1+n)=_;rw[Y _ Z9,g _ Z9,if_neg Z9]
theorem b9L{d:Dsk}(h:DG d){n:Nat}(N:n<69):U1 (B9 d).1 n=U1 d n:=by
 by_cases C:500<=d.C.length
 ·rw[sA C];exact(a1Y h).2.2.2 n N
 ·rw[pM C]
theorem c4u{s:Sto}{k:Nat}(h:GInv s)(f:k<s.fr.length){n:Nat}(N:n<8)(i:(s.fr.getD k dz).no≠(n:Int)):(V1 (X5 s k).1.d n).1=(V1 s.d n).1:=by
 cases hd:(s.fr.getD k dz).D with
 |false=>rw[b9 hd]
 |true=>
  obtain⟨_,_,_,f4,_⟩:=h.fp k f;obtain⟨g,e,_⟩:=a5J h f4;obtain⟨_,Y⟩:=b75 g;have r:=(vC s (s.fr.getD k dz).pg.Q).1;rw[pD hd e Y];refine congrArg Prod.fst (w7 ?_).1
  show U1 (wrD _ _ _) (1+n)=_;rw[lI,if_neg (by
   show ¬ (1+((W7 s (s.fr.getD k dz).pg.Q).1.fr.getD k dz).no=((1+n:Nat):Int));rw[r];omega)]
  show U1 (B9 (W7 s (s.fr.getD k dz).pg.Q).1.d).1 (1+n)=_;rw[b9L g.dg Z9,c5z h f4 N]
theorem c45{s:Sto}{k:Nat}(h:GInv s)(e:k<s.fr.length){n:Nat}(j:n<8):pgV (X5 s k).1 n=pgV s n:=by
 obtain⟨⟨g,le,N,_⟩,_⟩:=b72 h e;refine a5b g ?_
 rcases b0t s n with⟨i,hi,d,f⟩|⟨d,f⟩
 ·exact .inl ⟨i,Z9,by rw[(N i).1];exact d,by rw[(N i).2];exact f⟩
 ·exact .inr ⟨λi hi=>by rw[(N i).1];exact d i Z9,by rw[c4u h e j (d k e)];exact f⟩
theorem a5Y{s:Sto}{no:Nat}(h:GInv s)(O:no<8){n:Nat}(r:n<8):pgV (Y7 s no).1 n=pgV s n:=by
 have gf:=(qJ h O).1.g;by_cases hc:0<=frAt s.fr no
 ·rw[(m4 0 hc).1]
 ·have hq:=λi hi=>nO (i:=i) hc hi
  have t:=h.hd;by_cases h3:s.fr.length=3
  ·have hk:s.J.toNat<s.fr.length:=by omega
   have op:=c45 h hk r;obtain⟨⟨g,le,N,cl,_⟩,u⟩:=b72 h hk;rw[(x4 0 hc h3 u).1] at gf ⊢;rw[←op];have l:s.J.toNat<(X5 s s.J.toNat).1.fr.length:=Z9
   refine a5b gf ?_
   generalize (X5 s s.J.toNat).1=a at*;have eG:=λi=>rB (G0 no (V1 a.d no).1) i l
   have L:(a.fr.set s.J.toNat (G0 no (V1 a.d no).1)).length=a.fr.length:=w6;rcases b0t a n with⟨i,hi,f,h2⟩|⟨f,h2⟩
   ·by_cases e:i=s.J.toNat
    ·subst e;refine .inr ⟨λj hj=>?_,?_⟩
     ·have hj:j<(a.fr.set s.J.toNat (G0 no (V1 a.d no).1)).length:=hj;show((a.fr.set s.J.toNat (G0 no (V1 a.d no).1)).getD j dz).no≠_;rw[eG];split
      ·intro e;have e:((no:Nat):Int)=n:=e;exact hq s.J.toNat hk (by rw[← (N s.J.toNat).1,f,e])
      ·rename_i q;intro e;exact q (g.nd j s.J.toNat Z9 l (by rw[e,f]))
     ·show(V1 a.d n).1=_;have:=g.cl s.J.toNat l cl;rw[f,C8] at this;rw[this,h2]
    ·exact .inl ⟨i,by show i<(a.fr.set s.J.toNat (G0 no (V1 a.d no).1)).length;omega,by show((a.fr.set s.J.toNat (G0 no (V1 a.d no).1)).getD i dz).no=_;rw[eG,if_neg e];exact f,by show((a.fr.set s.J.toNat (G0 no (V1 a.d no).1)).getD i dz).pg=_;rw[eG,if_neg e];exact h2⟩
   ·by_cases e:n=no
    ·subst e;exact .inl ⟨s.J.toNat,by show s.J.toNat<(a.fr.set s.J.toNat (G0 n (V1 a.d n).1)).length;omega,by show((a.fr.set s.J.toNat (G0 n (V1 a.d n).1)).getD s.J.toNat dz).no=_;rw[eG,if_pos rfl];rfl,by show((a.fr.set s.J.toNat (G0 n (V1 a.d n).1)).getD s.J.toNat dz).pg=_;rw[eG,if_pos rfl];exact h2⟩
    ·refine .inr ⟨λj hj=>?_,h2⟩
     have hj:j<(a.fr.set s.J.toNat (G0 no (V1 a.d no).1)).length:=hj;show((a.fr.set s.J.toNat (G0 no (V1 a.d no).1)).getD j dz).no≠_;rw[eG];split
     ·intro o;have o:((no:Nat):Int)=n:=o;omega
     ·exact f j Z9
  ·rw[(k7 0 hc h3).1] at gf ⊢;refine a5b gf ?_
   have eG:=λi hi=>yT dz s.fr (G0 no (V1 s.d no).1) i hi
   have L:(s.fr++[G0 no (V1 s.d no).1]).length=s.fr.length+1:=W6
   rcases b0t s n with⟨i,hi,f,h2⟩|⟨f,h2⟩
   ·exact .inl ⟨i,by show i<(s.fr++[G0 no (V1 s.d no).1]).length;omega,by show((s.fr++[G0 no (V1 s.d no).1]).getD i dz).no=_;rw[eG i Z9,if_neg Z9];exact f,by show((s.fr++[G0 no (V1 s.d no).1]).getD i dz).pg=_;rw[eG i Z9,if_neg Z9];exact h2⟩
   ·by_cases e:n=no
    ·subst e;exact .inl ⟨s.fr.length,by show s.fr.length<(s.fr++[G0 n (V1 s.d n).1]).length;omega,by show((s.fr++[G0 n (V1 s.d n).1]).getD s.fr.length dz).no=_;rw[eG _ Z9,if_pos rfl];rfl,by show((s.fr++[G0 n (V1 s.d n).1]).getD s.fr.length dz).pg=_;rw[eG _ Z9,if_pos rfl];exact h2⟩
    ·refine .inr ⟨λj hj=>?_,h2⟩
     have hj:j<(s.fr++[G0 no (V1 s.d no).1]).length:=hj;show((s.fr++[G0 no (V1 s.d no).1]).getD j dz).no≠_;rw[eG j Z9]
     split
     ·intro o;have o:((no:Nat):Int)=n:=o;omega
     ·exact f j Z9
theorem eP{s:Sto}{no:Nat}(h:GInv s)(o:no<8):((Y7 s no).1.fr.getD (Y7 s no).2.1 dz).pg=pgV s no:=by
 obtain⟨⟨g,d,n,_⟩,_⟩:=qJ h o;rw[←a5Y h o o];exact(a5b g (.inl ⟨_,d,n,rfl⟩)).symm
theorem c4O{s:Sto}{r:Rec}(h:GInv s)(g0:0<=r.g/\r.g<8)(s0:0<=r.s/\r.s<4)(L:1<=r.l/\r.l<=s.L.length)(o:r.a.length<=30){n:Nat}(f:n<8):
  pgV (T7 s r).1 n=if n=r.g.toNat then⟨r.l,(pgV s n).sl.set r.s.toNat r.a⟩ else pgV s n:=by
 have x:=(a3m h g0 s0 L o).1;obtain⟨⟨g,j,no,_⟩,u⟩:=qJ h (no:=r.g.toNat) Z9
 have hi:=eP h (no:=r.g.toNat) Z9
 have hp:=a5Y h (no:=r.g.toNat) Z9 f
 have e:T7 s r=(b11 (Y7 s r.g.toNat).1 (Y7 s r.g.toNat).2.1 r,true):=if_pos u;rw[e] at x ⊢;refine a5b x ?_
 generalize Y7 s r.g.toNat=A at*;obtain⟨a,k,up⟩:=A;dsimp only at*;have d:=λi=>rB (vL (a.fr.getD k dz) r) i j
 have q:(a.fr.set k (vL (a.fr.getD k dz) r)).length=a.fr.length:=w6;have N:∀i,((a.fr.set k (vL (a.fr.getD k dz) r)).getD i dz).no=(a.fr.getD i dz).no:=λi=>by
  rw[d];split
  ·rename_i e;rw[e];rfl
  ·rfl
 by_cases hc:n=r.g.toNat
 ·rw[if_pos hc];refine .inl ⟨k,by show k<(a.fr.set k _).length;omega,?_,?_⟩
  ·show((a.fr.set k (vL (a.fr.getD k dz) r)).getD k dz).no=_;rw[N,no,hc]
  ·show((a.fr.set k (vL (a.fr.getD k dz) r)).getD k dz).pg=_;rw[d,if_pos rfl];show(⟨r.l,(a.fr.getD k dz).pg.sl.set r.s.toNat r.a⟩:Pg)=_;rw[hi,hc]
 ·rw[if_neg hc,←hp];rcases b0t a n with⟨i,hi,h1,h2⟩|⟨h1,h2⟩
  ·have e:i≠k:=λe=>by
    rw[e,no] at h1;omega
   exact .inl ⟨i,by show i<(a.fr.set k _).length;omega,by show((a.fr.set k _).getD i dz).no=_;rw[N];exact h1,by show((a.fr.set k _).getD i dz).pg=_;rw[d,if_neg e];exact h2⟩
  ·exact .inr ⟨λi hi=>by
    have hi:i<(a.fr.set k (vL (a.fr.getD k dz) r)).length:=hi;show((a.fr.set k _).getD i dz).no≠_;rw[N];exact h1 i Z9,h2⟩
def vw(s:Sto)(n i:Nat):Bz:=if n<8 then(pgV s n).sl.getD i [] else[]
def bS(g s:Nat)(a:Bz)(S:Nat->Nat->Bz)(n i:Nat):Bz:=if n=g/\i=s then a else S n i
def sZ(L:List Rec)(to:Int):Nat->Int->(Nat->Nat->Bz)->Nat->Nat->Bz
 |0,_,S=>S
 |f+1,a,S=>if a<=to then S else if(Z4 L a).k=3 then sZ L to f (Z4 L a).n S else sZ L to f (Z4 L a).p (if(Z4 L a).k=2 then bS (Z4 L a).g.toNat (Z4 L a).s.toNat (Z4 L a).b S else S)
theorem c2I{g s:Nat}{a:Bz}{S:Nat->Nat->Bz}:bS g s (S g s) (bS g s a S)=S:=by
 funext n i
 unfold bS;by_cases h:n=g/\i=s
 ·rw[if_pos h,h.1,h.2]
 ·rw[if_neg h,if_neg h]
theorem a1z{L:List Rec}(hL:w9 L){to:Int}(d:0<=to):∀(f g:Nat) (a:Int) (S:Nat->Nat->Bz),a<=L.length->a.toNat<f->a.toNat<g->sZ L to f a S=sZ L to g a S
 |0,_,_,_,_,h,_=>absurd h (J2 _)
 |f+1,0,_,_,_,_,h=>absurd h (J2 _)
 |f+1,g+1,a,S,ha,h1,h2=>by
  unfold sZ;by_cases t:a<=to
  ·rw[if_pos t,if_pos t]
  ·obtain⟨p1,p2,p3,p4⟩:=hL.prev (show 1<=a by omega) ha
   rw[if_neg t,if_neg t,a1z hL d f g _ _ Z9 Z9 Z9,a1z hL d f g _ _ Z9 Z9 Z9]
theorem mC{L:List Rec}{x:Rec}(hL:w9 L){to:Int}(d:0<=to):∀(f:Nat) (a:Int) (S:Nat->Nat->Bz),a<=L.length->sZ (L++[x]) to f a S=sZ L to f a S
 |0,_,_,_=>rfl
 |f+1,a,S,ha=>by
  unfold sZ;by_cases h:a<=to
  ·rw[if_pos h,if_pos h]
  ·obtain⟨p1,p2,p3,p4⟩:=hL.prev (show 1<=a by omega) ha
   rw[if_neg h,if_neg h,oU x Z9 ha,mC hL d f _ _ Z9,mC hL d f _ _ Z9]
theorem c47{L:List Rec}{to a:Int}{S:Nat->Nat->Bz}(h:a<=to):sZ L to 61 a S=S:=by
 show sZ L to (60+1) a S=S;unfold sZ;rw[if_pos h]
theorem b6j{L:List Rec}(d:w9 L){to a:Int}(e:0<=to)(h:¬a<=to)(A:a<=L.length)(S:Nat->Nat->Bz):sZ L to 61 a S=if(Z4 L a).k=3 then sZ L to 61 (Z4 L a).n S else sZ L to 61 (Z4 L a).p (if(Z4 L a).k=2 then bS (Z4 L a).g.toNat (Z4 L a).s.toNat (Z4 L a).b S else S):=by
 have f:=d.1;obtain⟨l,o,i,j⟩:=d.prev (show 1<=a by omega) A
 rw[←a1z d e 60 61 (Z4 L a).n _ Z9 Z9 Z9,←a1z d e 60 61 (Z4 L a).p _ Z9 Z9 Z9]
 show sZ L to (60+1) a S=_;conv=>lhs;unfold sZ
 rw[if_neg h]
theorem b90{L:List Rec}(f:w9 L){to a:Int}(e:0<=to)(h:¬a<=to)(A:a<=L.length)(d:(Z4 L a).k=3)(S:Nat->Nat->Bz):sZ L to 61 a S=sZ L to 61 (Z4 L a).n S:=(b6j f e h A S).trans (if_pos d)
theorem c3Y{L:List Rec}(f:w9 L){to a:Int}(e:0<=to)(h:¬a<=to)(A:a<=L.length)(d:(Z4 L a).k=2)(S:Nat->Nat->Bz):sZ L to 61 a S=sZ L to 61 (Z4 L a).p (bS (Z4 L a).g.toNat (Z4 L a).s.toNat (Z4 L a).b S):=by
 rw[b6j f e h A S,if_neg Z9,if_pos d]
theorem b8w{L:List Rec}(g:w9 L){to a:Int}(e:0<=to)(h:¬a<=to)(A:a<=L.length)(f:(Z4 L a).k≠3)(d:(Z4 L a).k≠2)(S:Nat->Nat->Bz):sZ L to 61 a S=sZ L to 61 (Z4 L a).p S:=by
 rw[b6j g e h A S,if_neg f,if_neg d]
theorem b7i{s:Sto}{no:Nat}(h:GInv s)(o:no<8):vw (Y7 s no).1=vw s:=by
 funext n i
 unfold vw;by_cases N:n<8
 ·rw[if_pos N,if_pos N,a5Y h o N]
 ·rw[if_neg N,if_neg N]
theorem c7P{s:Sto}{n:Nat}(h:GInv s)(N:n<8):(pgV s n).sl.length=4:=by
 obtain⟨⟨F,f,_,_⟩,_⟩:=qJ h N;obtain⟨_,_,⟨_,_,d,_⟩,_⟩:=F.fp _ f;rw[eP h N] at d;exact d
theorem b5v{s:Sto}{r:Rec}(h:GInv s)(g0:0<=r.g/\r.g<8)(s0:0<=r.s/\r.s<4)(l0:1<=r.l/\r.l<=s.L.length)(ha:r.a.length<=30):vw (T7 s r).1=bS r.g.toNat r.s.toNat r.a (vw s):=by
 funext n i
 unfold bS vw;by_cases hn:n<8
 ·rw[if_pos hn,if_pos hn,c4O h g0 s0 l0 ha hn];by_cases hg:n=r.g.toNat
  ·rw[if_pos hg];have h4:=c7P h hn;dsimp only;by_cases hi:i=r.s.toNat
   ·rw[if_pos ⟨hg,hi⟩,hi,Q8,j_k Z9]
    rfl
   ·rw[if_neg (λC=>hi C.2),Q8,bI (Ne.symm hi),←Q8]
  ·rw[if_neg hg,if_neg (λC=>hg C.1)]
 ·rw[if_neg hn,if_neg hn,if_neg Z9]
theorem c6Y{e:Eng}(h:EI e){k:Nat}(o:k<e.X.length){a:Int}(u:ownR e.s.L a (e.X.getD k dz).id=true)(C:(Z4 e.s.L a).k=2):
  vw (J5 e k (Z4 e.s.L a)).1.s=bS (Z4 e.s.L a).g.toNat (Z4 e.s.L a).s.toNat (Z4 e.s.L a).b (vw e.s)/\(J5 e k (Z4 e.s.L a)).1.s.L=e.s.L++[uX e k (Z4 e.s.L a)]:=by
 obtain⟨A,q⟩:=B2 u;have L:=h.h.li.1;obtain⟨R,_⟩:=L.at A q;obtain⟨z,F,v,x⟩:=L.prev A q;have r:=L.1;obtain⟨_,_,_,_,_,_,_,_,_,_,f,I,i,M,B,_,J⟩:=R;have t:D0 (U0 e.s (Q9 e k (s6 (Z4 e.s.L a)))):=h.rcp o b0c b0c (λe=>absurd rfl e) (λ_ e=>absurd rfl e) ⟨by show 0<=(Z4 e.s.L a).p;omega,by show(Z4 e.s.L a).p<=_;omega⟩ ⟨f,by show(Z4 e.s.L a).g<=7;omega⟩ ⟨i,by show(Z4 e.s.L a).s<=3;omega⟩ ⟨L8 _,B⟩ (λ_=>rfl)
 have j:=h.app o t;have n:=m3 e k (s6 (Z4 e.s.L a));have b0:0<=(uX e k (Z4 e.s.L a)).g/\(uX e k (Z4 e.s.L a)).g<8:=⟨f,b79⟩
 have d:0<=(uX e k (Z4 e.s.L a)).s/\(uX e k (Z4 e.s.L a)).s<4:=⟨i,b5b⟩
 have b2:1<=(uX e k (Z4 e.s.L a)).l/\(uX e k (Z4 e.s.L a)).l<=(K7 e k (s6 (Z4 e.s.L a))).s.L.length:=⟨a9i,a9D⟩
 exact⟨b5v j b0 d b2 B,(a3m j b0 d b2 B).2.2.1⟩
structure UndV(e:Eng)(k:Nat)(u:(Eng×Nat)×Bool)(to a:Int):Prop where
 v:vw u.1.1.s=sZ e.s.L to 61 a (vw e.s)
 b:sZ u.1.1.s.L 0 61 (u.1.1.X.getD k dz).Z (vw u.1.1.s)=sZ e.s.L 0 61 a (vw e.s)
 i:(u.1.1.X.getD k dz).id=(e.X.getD k dz).id
theorem iV{k:Nat}{to:Int}(d:0<=to):∀(f:Nat) (e:Eng) (v:Nat) (a:Int),a.toNat<f->EI e->k<e.X.length->(a<=0∨ownR e.s.L a (e.X.getD k dz).id=true)->und e.s.L 61 (e.X.getD k dz).Z=und e.s.L 61 a->(∀S,sZ e.s.L 0 61 (e.X.getD k dz).Z S=sZ e.s.L 0 61 a S)->UndV e k (I5 k to f e v a) to a
 |0,_,_,_,hf,_,_,_,_,_=>absurd hf (J2 _)
 |f+1,e,v,a,hf,h,hk,ha,hu,hS=>by
  by_cases ht:a<=to
  ·rw[vS ht];exact⟨(c47 ht).symm,hS _,rfl⟩
  ·have ho:ownR e.s.L a (e.X.getD k dz).id=true:=ha.resolve_left Z9
   obtain⟨o,A⟩:=B2 ho;obtain⟨x,F,t⟩:=a4p ho;have L:=h.h.li.1;have q:=L.1;have z:¬a<=0:=Z9
   have N:(0:Int)<=0:=Int.le_refl 0;obtain⟨M,J,C,I⟩:=L.prev o A;obtain⟨B,b2⟩:=h.h.li.2 a o A t;rw[x] at B b2;by_cases h3:(Z4 e.s.L a).k=3
   ·rw[dR ht Z9 h3]
    have u:und e.s.L 61 a=und e.s.L 61 (Z4 e.s.L a).n:=by
     rw[mI Z9 Z9 h3,uC L _ 61 _ Z9 Z9 Z9]
    obtain⟨V,g,i⟩:=iV d f e v _ Z9 h hk (.inr (b2 h3)) (hu.trans u) λS=>(hS S).trans (b90 L N z A h3 S)
    exact⟨V.trans (b90 L d ht A h3 _).symm,g.trans (b90 L N z A h3 _).symm,i⟩
   ·by_cases h2:(Z4 e.s.L a).k=2
    ·obtain⟨c1,c2,c3,c4,c5,c6⟩:=b77 h hk ho h2 hu;obtain⟨w1,w2⟩:=c6Y h hk ho h2;rw[dC ht Z9 h2 c1]
     have l:((J5 e k (Z4 e.s.L a)).1.X.getD k dz)=⟨(e.X.getD k dz).id,(e.s.L.length:Int)+1⟩:=by rw[c3,yB _ k hk,if_pos rfl]
     have j:=c2.h.li.1;have r:Z4 (J5 e k (Z4 e.s.L a)).1.s.L ((e.s.L.length:Int)+1)=uX e k (Z4 e.s.L a):=by rw[w2];exact q9 _ _
     obtain⟨V,g,i⟩:=iV d f (J5 e k (Z4 e.s.L a)).1 (jL e k (Z4 e.s.L a) v) (Z4 e.s.L a).p Z9 c2 (by rw[c3,w6];exact hk) (by rw[l];exact c5) (by rw[l];exact c6) λS=>by
      rw[l];have:=b90 j N (a:=(e.s.L.length:Int)+1) Z9 (by rw[w2,J6,List.length_singleton];omega) (by rw[r];rfl) S
      rw[r] at this;exact this
     rw[w1,w2,mC L d _ _ _ Z9] at V
     rw[w1,w2,mC L N _ _ _ Z9] at g
     exact⟨V.trans (c3Y L d ht A h2 _).symm,g.trans (c3Y L N z A h2 _).symm,i.trans (by rw[l])⟩
    ·rw[dU ht Z9 h3 h2]
     have u:und e.s.L 61 a=und e.s.L 61 (Z4 e.s.L a).p:=by
      rw[uL Z9 Z9 h3,if_neg h2,D8,uC L _ 61 _ Z9 Z9 Z9]
     obtain⟨V,g,i⟩:=iV d f e v _ Z9 h hk (B.imp (λe=>Z9) λe=>e) (hu.trans u) λS=>(hS S).trans (b8w L N z A h3 h2 S)
     exact⟨V.trans (b8w L d ht A h3 h2 _).symm,g.trans (b8w L N z A h3 h2 _).symm,i⟩
theorem c1D{e:Eng}(h:EI e){k:Nat}(d:k<e.X.length){to:Int}(g:0<=to):UndV e k (P7 e k to) to (e.X.getD k dz).Z:=by
 have o:=h.h.ow k d;have f:=h.h.li.1.1;have:=B2 o;exact iV g 61 e 0 _ Z9 h d (.inr o) rfl λ_=>rfl
theorem c6y{e:Eng}(h:EI e){k:Nat}(d:k<e.X.length):vw (I6 e k).1.1.s=sZ e.s.L 0 61 (e.X.getD k dz).Z (vw e.s):=by
 have u:=a1L h d (Int.le_refl 0);rw[a8O (by rw[mF u.al])]
 exact(c1D h d (Int.le_refl 0)).v
end
end Go.Proofs.YtcobnbfhkpbokaaGreat
