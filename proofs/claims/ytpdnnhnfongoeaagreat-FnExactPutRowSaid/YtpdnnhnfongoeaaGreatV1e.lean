/- A part of the proof. -/
import Derived.Test.YtpdnnhnfongoeaaGreatU1
import Derived.Test.YtpdnnhnfongoeaaGreatX1
namespace Go.Proofs.YtpdnnhnfongoeaaGreat
set_option maxRecDepth 100000
open Go.SS Go.Proofs.Tryz
noncomputable section
def P9(L:List Val)(i:Nat):List T:=(L.getD i dz).ts
def b4E(L:List Val):T:=.sl 3 L.length (P9 L)
def isZ(l:Bz)(i:Nat):Bool:=(0:Int)==((l.getD i 0).toNat:Int)
def vL(l:Bz):Int:=S5 l.length (isZ l)
def b3Q:Con:=.rel ⟨Bz,λl=>[.bys l,.int .u8 0],λl=>Ji (vL l),λl=>L8 l.length⟩
def b4K(l:Bz):Nat->Ann
 |0=>.one (V5 l.length (isZ l)) (λx=>⟨[(0,.bys l),(1,.int .u8 0),(7,Ji l.length),(8,Ji x.1)],[]⟩) (λx=>l.length-x.1) [] [] (λ_=>Z3)
 |_=>.none
theorem sY{a b:Int}(h:(a==b)=false):a≠b:=λe=>by rw[e] at h;simp at h
theorem a6N:GK 336 b3Q:=gk func336<|by
 intro(l:Bz) (hL:l.length<1000000000000);refine U5 gN func336 (b4K l) (α:=let p:=(l.length:Int);(∃(x:V5 l.length (isZ l)),(l=l/\(0:Int)=0/\p=p/\0=(x.1:Int)/\True)/\True)/\∀(x:V5 l.length (isZ l)),let q:=(x.1:Int);bd (q<p) (W9 q l.length/\br ((0:Int)==(↑(l.getD q.toNat (0:UInt8)).toNat:Int)) (q=vL l) (Ri (q+1)/\∃(y:V5 l.length (isZ l)),((l=l/\(0:Int)=0/\p=p/\q+1=(y.1:Int)/\True)/\True)/\Lt (l.length-y.1) (l.length-x.1))) ((-1:Int)=vL l)) ⟨⟨F2,Z7⟩,λx=>⟨λC=>?_,λC=>?_⟩⟩
 ·have h:=Y2 C;exact⟨Y6 h,λhp=>(N8 h hp x.2.2).symm,λhp=>⟨W2 h Z9,x.succ h hp,⟨⟨rfl,rfl,rfl,I8,Z6⟩,Z6⟩,V5.ext_lt h⟩⟩
 ·have e:=X9 C;exact(K1 λj J=>x.2.2 j (xX J e)).symm
def J5(l:Bz):Val×Bz×Bool:=
 if numR l-1=1 then(⟨1,be (T3 (l.drop 1) 4)-1000000000,[]⟩,Q7 (l.drop 1) 4,big (l.drop 1) 4|| !O9 ⟨1,be (T3 (l.drop 1) 4)-1000000000,[]⟩)
 else if numR l-1=2 then
  if vL (l.drop 1)<0 then(⟨2,0,[]⟩,l.drop 1,true)
  else(⟨2,0,(l.drop 1).take (vL (l.drop 1)).toNat⟩,(l.drop 1).drop ((vL (l.drop 1)).toNat+1), !O9 ⟨2,0,(l.drop 1).take (vL (l.drop 1)).toNat⟩)
 else(⟨numR l-1,0,[]⟩,l.drop 1, !O9 ⟨numR l-1,0,[]⟩)
def lI(l:Bz):Prop:=l.length<=1000000000
def a9A:Rle:=⟨Bz,λ_=>[.ref 0 0 0],λl=>[rdr l false],λl=>.agg (J5 l).1.ts,λl=>[rdr (J5 l).2.1 (J5 l).2.2],λl=>l≠[]/\lI l⟩
def c2J:Con:=.reff a9A
theorem b6S:GK 275 c2J:=gk func275<|by
 rintro(l:Bz) ⟨h0,(hl:l.length<=1000000000)⟩;have N:=r5 l;have f:l.isEmpty=false:=by cases l with|nil=>exact absurd rfl h0|cons=>rfl
 have hd:(l.drop 1).length<=1000000000:=by rw[List.length_drop];omega
 have h:(T3 (l.drop 1) 4).length<=4:=by
  unfold T3;split
  ·rw[List.length_replicate];omega
  ·rw[List.length_take];omega
 refine vcE (gC eI (gC qH (gC a2K (gC a6N (gC jS gN))))) func275 Z3 (bs:=[true]) (α:=let j:=(J5 l).1.t;let w:=(J5 l).1.n;let y:=(J5 l).1.k;let u:=(J5 l).2.2;let z:=(J5 l).2.1;let q:=(numR l-1=y/\0=w/\[]=j/\True);let p:=(List.drop 1 l);Ri (numR l-1)/\br (numR l-1==1) (r7 (4:Int)/\∃(x:a5M.ι),let r:=(↑(be x):Int);((T3 p 4=x/\True)/\mK x)/\Ri (r-1000000000)/\∃(X:E5.ι),((false||l.isEmpty||big p (4:Int))=false->((numR l-1=X.k/\r-1000000000=X.n/\[]=X.t/\True)/\True)/\cB X.t)/\(numR l-1=y/\r-1000000000=w/\[]=j/\True)/\(oo (Q7 p 4=z/\(false||l.isEmpty||big p (4:Int)|| !O9 X)=u/\True))/\True) (br (numR l-1==2) (∃(x:(Bz)),let v:=(Q7 p (vL x));((List.drop 1 l=x/\(0:Int)=0/\True)/\L8 (x.length))/\bd (vL x<0) (q/\(oo (List.drop 1 l=z/\true=u/\True))/\True) (r7 (vL x)/\r7 (1:Int)/\∃(X:E5.ι),((false||l.isEmpty||big p (vL x)||big v (1:Int))=false->((numR l-1=X.k/\0=X.n/\T3 p (vL x)=X.t/\True)/\True)/\cB X.t)/\(numR l-1=y/\0=w/\T3 p (vL x)=j/\True)/\(oo (Q7 v 1=z/\(false||l.isEmpty||big p (vL x)||big v (1:Int)|| !O9 X)=u/\True))/\True)) (∃(x:E5.ι),((false||l.isEmpty)=false->((numR l-1=x.k/\0=x.n/\[]=x.t/\True)/\True)/\cB x.t)/\q/\(oo (List.drop 1 l=z/\(false||l.isEmpty|| !O9 x)=u/\True))/\True))) ⟨Z4 Z9,λhk=>⟨by unfold r7;omega,T3 (l.drop 1) 4,⟨Z7,h⟩,?_,⟨1,be (T3 (l.drop 1) 4)-1000000000,[]⟩,λ_=>⟨⟨⟨beq_iff_eq.1 hk,Z7⟩,Z6⟩,b0l⟩,?_⟩,λhk=>⟨λhk2=>⟨l.drop 1,⟨Z7,sU⟩,λhx=>?_,λhx=>?_⟩,λhk2=>?_⟩⟩
 ·have:=a4L (T3 (l.drop 1) 4) h;have e:be (T3 (l.drop 1) 4)=j4 (T3 (l.drop 1) 4) (T3 (l.drop 1) 4).length:=rfl;exact Z4 Z9
 ·have hk:numR l-1=1:=beq_iff_eq.1 hk;unfold J5;rw[if_pos hk,f];exact⟨⟨hk,Z7⟩,Z7⟩
 ·have hk':numR l-1≠1:=sY hk;have hk2:numR l-1=2:=beq_iff_eq.1 hk2;have hx:vL (l.drop 1)<0:=G5 hx;unfold J5;rw[if_neg hk',if_pos hk2,if_pos hx];exact⟨⟨hk2,Z7⟩,Z7⟩
 ·have hk':numR l-1≠1:=sY hk;have hk2:numR l-1=2:=beq_iff_eq.1 hk2;have hx:¬vL (l.drop 1)<0:=r8 hx;obtain⟨i,hi,hz,_,hix⟩:=lW hx;have hix:vL (l.drop 1)=(i:Int):=hix;have b1:big (l.drop 1) (i:Int)=false:=by unfold big;rw[tP Z9]
  have g:T3 (l.drop 1) (i:Int)=(l.drop 1).take i:=by unfold T3;rw[b1];rfl
  have r:Q7 (l.drop 1) (i:Int)=(l.drop 1).drop i:=by unfold Q7;rw[b1];rfl
  have b2:big ((l.drop 1).drop i) 1=false:=by unfold big;rw[tP (by rw[List.length_drop];omega)]
  have R:Q7 ((l.drop 1).drop i) 1=(l.drop 1).drop (i+1):=by
   unfold Q7;rw[b2];show((l.drop 1).drop i).drop 1=_;rw[List.drop_drop]
  unfold J5;rw[if_neg hk',if_pos hk2,if_neg hx,hix,g,r,R,b1,b2,f];refine⟨⟨Z9,Z9⟩,by unfold r7;omega,⟨2,0,(l.drop 1).take i⟩,λ_=>⟨⟨⟨hk2,Z7⟩,Z6⟩,by unfold cB L8;rw[List.length_take];omega⟩,⟨hk2,rfl,rfl,Z6⟩,⟨rfl,rfl,rfl,rfl,Z6⟩,Z6⟩
 ·have hk':numR l-1≠1:=sY hk;have d:numR l-1≠2:=sY hk2;unfold J5;rw[if_neg hk',if_neg d,f];exact⟨⟨numR l-1,0,[]⟩,λ_=>⟨Z7,b0l⟩,Z7⟩
theorem a3W{l:Bz}(h:l≠[]):(J5 l).2.1.length<l.length:=by
 have hp:0<l.length:=List.length_pos_iff.2 h;have hd:(l.drop 1).length<l.length:=by rw[List.length_drop];omega
 have r:∀(m:Bz) (n:Int),(Q7 m n).length<=m.length:=λm n=>by
  unfold Q7;split
  ·omega
  ·rw[List.length_drop];omega
 unfold J5;split
 ·exact Nat.lt_of_le_of_lt (r _ _) hd
 ·split
  ·split
   ·exact hd
   ·show((l.drop 1).drop _).length<_;rw[List.length_drop];omega
  ·exact hd
def m5:Nat->Bz->Bool->List Val->List Val×Bool
 |0,_,f,acc=>(acc, !f)
 |n+1,l,f,acc=>if l=[]∨f=true then(acc, !f) else m5 n (J5 l).2.1 (J5 l).2.2 (acc++[(J5 l).1])
def O7(l:Bz):List Val×Bool:=m5 l.length l false []
def aU:Rl:=⟨Bz,λb=>[.bys b],λb=>.tup [b4E (O7 b).1,.bool (O7 b).2],lI⟩
def b4d:Con:=.rel aU
def a99(b:Bz):Type:={x:Nat×Bz×Bool×List Val//m5 x.1 x.2.1 x.2.2.1 x.2.2.2=O7 b/\x.2.1.length<=x.1/\x.2.2.2.length+x.1<=b.length}
def b4o(b:Bz):Nat->Ann
 |0=>.one (a99 b) (λx=>⟨[(4,.ref 0 0 0),(5,.osl 1 0 x.1.2.2.2.length)],[rdr x.1.2.1 x.1.2.2.1,some (.arr true 0 3 x.1.2.2.2.length (P9 x.1.2.2.2))]⟩) (λx=>x.1.1) b5p [.box 0,.arr 3] (λ_=>Z3)
 |_=>.none
theorem gV(L:List Val)(v:Val):Z8 (L.length+1) (X4 (P9 L) L.length λk=>List.take 3 (List.drop (k*3) v.ts)) (P9 (L++[v])):=by
 intro i hi;by_cases h:i<L.length
 ·rw[M7 h];simp[P9,rK h]
 ·obtain rfl:i=L.length:=by omega
  rw[M9 (U9 _),j_h];simp[P9,Val.ts]
theorem lE{n:Nat}{l:Bz}{acc:List Val}(h:l≠[])(N:l.length<=n):m5 n l false acc=m5 (n-1) (J5 l).2.1 (J5 l).2.2 (acc++[(J5 l).1]):=by
 have hp:0<l.length:=List.length_pos_iff.2 h;obtain⟨m,rfl⟩:∃m,n=m+1:=⟨n-1,Z9⟩
 conv=>lhs;unfold m5
 rw[if_neg dH]
 rfl
theorem nV{n:Nat}{l:Bz}{f:Bool}{acc:List Val}(h:l=[]∨f=true):m5 n l f acc=(acc, !f):=by
 cases n with
 |zero=>rfl
 |succ n=>unfold m5;rw[if_pos h]
theorem a73:GK 188 b4d:=gk func188<|by
 intro(b:Bz) (hb:b.length<=1000000000);refine U5 (gC b6S gN) func188 (b4o b) (α:=let u:=(0=0/\0=0);(∃(x:a99 b),let r:=x.1.2.2;(u/\(0=0/\0=r.2.length)/\True)/\(oo (b=x.1.2.1/\false=r.1/\True))/\(0=r.2.length/\Z8 0 (tk 3 []) (P9 r.2))/\True)/\∀(x:a99 b),let p:=x.1.2.2;let q:=p.2.length;br (decide ((x.1.2.1.length:Int)>0)&& ! p.1) (∃(X:a9A.ι),((u/\True)/\((1=1/\Z8 1 (λ(x_2:Nat)=>[T.bys x.1.2.1,T.bool p.1]) λ(x:Nat)=>[T.bys X,T.bool false])/\True)/\X≠[]/\lI X)/\(Le 1 1/\Le p.2.length q/\U8 p.2.length 1 32)/\∃(y:a99 b),let z:=y.1.2.2;((u/\(0=0/\q+1=z.2.length)/\True)/\(oo ((J5 X).2.1=y.1.2.1/\(J5 X).2.2=z.1/\True))/\(q+1=z.2.length/\Z8 (q+1) (X4 (P9 p.2) p.2.length (tk 3 [Ji (J5 X).1.k,Ji (J5 X).1.n,T.str (J5 X).1.t])) (P9 z.2))/\True)/\Lt y.1.1 x.1.1) (Le (0+q) q/\(Z0 P9 p.2 (O7 b).1)/\(! p.1)=(O7 b).2/\True)) ⟨⟨⟨(b.length,b,false,[]),rfl,U9 _,by dsimp only[List.length_nil];omega⟩,⟨⟨rfl,rfl⟩,⟨rfl,rfl⟩,Z6⟩,⟨rfl,rfl,rfl,rfl,Z6⟩,⟨rfl,nD _ _⟩,Z6⟩,λx=>?_⟩
 obtain⟨⟨n,l,f,acc⟩,e,L,N⟩:=x;dsimp only at e L N ⊢;refine⟨λhc=>?_,λhc=>?_⟩
 ·simp only[J4,o7,vY] at hc;obtain⟨hp,rfl⟩:=hc;have h0:l≠[]:=λh=>by rw[h] at hp;simp at hp
  have hv:=a3W h0;rw[lE h0 L] at e;refine⟨l,⟨Z7,⟨⟨rfl,λi hi=>c0g⟩,Z6⟩,h0,by unfold lI;omega⟩,⟨U9 _,U9 _,Q9⟩,⟨(n-1,(J5 l).2.1,(J5 l).2.2,acc++[(J5 l).1]),e,X5,a35⟩,⟨⟨Z7,⟨rfl,jV⟩,Z6⟩,Z7,⟨jV,gV _ _⟩,Z6⟩,show n-1<n by omega⟩
 ·have d:l=[]∨f=true:=by
   cases f with
   |true=>exact .inr rfl
   |false=>
    refine .inl (List.length_eq_zero_iff.1 ?_)
    have hc:(decide ((l.length:Int)>0)&& !false)=false:=hc;simp only[Bool.not_false,Bool.and_true,uG] at hc;omega
  rw[nV d] at e;rw[←e];exact⟨J9,Z7⟩
def R5(t:Bz):List Val×Bool:=if(O7 t).2=true then O7 t else([],false)
def a2M:Con:=.rel ⟨Bz,λt=>[.str t],λt=>.tup [b4E (R5 t).1,.bool (R5 t).2],lI⟩
structure KSt where
 n:Nat
 at_:Nat
 acc:List Val
def a0Q(t:Bz):Type:={x:KSt//m5 x.n (t.drop x.at_) false x.acc=O7 t/\x.at_<=t.length/\t.length-x.at_<=x.n/\x.acc.length+x.n<=t.length}
def NoZ(t:Bz)(a:Nat):Type:={k:Nat//a<=k/\k<=t.length/\∀j,a<=j->j<k->isZ t j=false}
def knd(t:Bz)(a:Nat):Int:=((t.getD a 0).toNat:Int)-1
def a11(t:Bz):Nat->Ann
 |0=>.one (a0Q t) (λx=>⟨[(0,.str t),(4,.osl 0 0 x.1.acc.length),(5,Ji x.1.at_)],[some (.arr true 0 3 x.1.acc.length (P9 x.1.acc))]⟩) (λx=>t.length-x.1.at_) [.arr 0] [.arr 3] (λx=>fun
  |1=>.one (NoZ t (x.1.at_+1)) (λy=>⟨[(0,.str t),(4,.osl 0 0 x.1.acc.length),(5,Ji (x.1.at_+1:Nat)),(6,.ref 1 0 0),(7,Ji y.1)],[some (.arr true 0 3 x.1.acc.length (P9 x.1.acc)),some (.arr true 1000000 3 1 λ_=>[Ji (knd t x.1.at_),Ji 0,.str []])]⟩) (λy=>t.length-y.1) cG cG (λ_=>Z3)
  |_=>.none)
 |_=>.none
theorem a29{t:Bz}{n:Nat}{l:Bz}{acc:List Val}(h:m5 n l false acc=O7 t)(d:l≠[])(L:l.length<=n)(f:(J5 l).2.2=true):R5 t=([],false):=by
 rw[lE d L,f,nV (.inr rfl)] at h;unfold R5;rw[←h];rfl
theorem gD{t:Bz}{n:Nat}{l:Bz}{acc:List Val}(h:m5 n l false acc=O7 t)(d:l≠[])(L:l.length<=n){v:Val}{r:Bz}(hv:J5 l=(v,r,false)):m5 (n-1) r false (acc++[v])=O7 t:=by
 rw[lE d L,hv] at h;exact h
theorem a2U{k n:Int}{s:Bz}(d:k≠0)(h:k≠1)(e:k≠2):O9 ⟨k,n,s⟩=false:=by
 unfold O9;dsimp only;rw[if_neg d,if_neg h,show(k==2)=false from beq_eq_false_iff_ne.2 e]
 rfl
theorem a0x{t:Bz}(a i:Nat):(t.drop a).getD i 0=t.getD (a+i) 0:=by
 rw[P3,P3,List.getElem?_drop]
theorem gL(t:Bz)(a i:Nat):isZ (t.drop a) i=isZ t (a+i):=by unfold isZ;rw[a0x]
theorem c7P(t:Bz)(k:Nat):(((t.getD k 0).toNat:Int) !=0)= !isZ t k:=by
 unfold isZ;rw[show(((t.getD k 0).toNat:Int) !=0)= !(((t.getD k 0).toNat:Int)==0) from rfl]
 congr 1
 rw[Bool.eq_iff_iff,beq_iff_eq,beq_iff_eq];exact eq_comm
theorem bS:GK 169 a2M:=gk func169<|by
 intro(t:Bz) (hb:t.length<=1000000000);refine U5 (gC kB (gC cC gN)) func169 (a11 t) (α:=let m:=(t.length:Int);let q:=(Le 0 0/\(0=(R5 t).1.length/\Z8 0 (tk 3 []) (P9 (R5 t).1))/\false=(R5 t).2/\True);(∃(x:a0Q t),(t=t/\(0=0/\0=x.1.acc.length)/\0=(x.1.at_:Int)/\True)/\(0=x.1.acc.length/\Z8 0 (tk 3 []) (P9 x.1.acc))/\True)/\∀(x:a0Q t),let w:=x.1.acc;let l:=(Z0 P9 x.1.acc w);let z:=x.1.at_;let i:=((z:Int)+1);let b:=(t.length-z);let f:=((z:Int)+1+4);let j:=(↑(z+1):Int);let r:=w.length;let u:=(Le 1 1/\Le w.length r/\U8 w.length 1 32);let p:=(↑(t.getD (z:Int).toNat (0:UInt8)).toNat:Int);let g:=(IntKind.i64.wrap p-1);bd ((z:Int)<m) (W9 (z:Int) t.length/\Ri g/\Ri i/\br (IntKind.i64.wrap p-1==0) (∃(X:E5.ι),(((IntKind.i64.wrap p-1=X.k/\0=X.n/\[]=X.t/\True)/\True)/\cB X.t)/\br (!O9 X) q (u/\∃(y:a0Q t),((t=t/\(0=0/\r+1=y.1.acc.length)/\(z:Int)+1=(y.1.at_:Int)/\True)/\(r+1=y.1.acc.length/\Z8 (r+1) (X4 (P9 w) w.length (tk 3 [Ji g,Ji 0,T.str []])) (P9 y.1.acc))/\True)/\Lt (t.length-y.1.at_) b)) (br (IntKind.i64.wrap p-1==1) (Ri f/\bd ((z:Int)+1+4>m) q (Ri f/\b1R i f t.length/\∃(X:iI.ι),let a:=((↑(be X):Int)-1000000000);((List.drop i.toNat (List.take f.toNat t)=X/\True)/\mK X)/\Ri a/\Ri f/\∃(d:E5.ι),(((IntKind.i64.wrap p-1=d.k/\(↑(be X):Int)-1000000000=d.n/\[]=d.t/\True)/\True)/\cB d.t)/\br (!O9 d) q (u/\∃(y:a0Q t),((t=t/\(0=0/\r+1=y.1.acc.length)/\(z:Int)+1+4=(y.1.at_:Int)/\True)/\(r+1=y.1.acc.length/\Z8 (r+1) (X4 (P9 w) w.length (tk 3 [Ji g,Ji a,T.str []])) (P9 y.1.acc))/\True)/\Lt (t.length-y.1.at_) b))) ((∃(X:NoZ t (x.1.at_+1)),(t=t/\(0=0/\r=r)/\(z:Int)+1=j/\(0=0/\0=0)/\(z:Int)+1=(X.val:Int)/\True)/\l/\(oo (IntKind.i64.wrap p-1=knd t z/\(0:Int)=0/\([]:Bz)=[]/\True))/\True)/\∀(X:NoZ t (x.1.at_+1)),let v:=(X.val:Int);let c:=(List.take v.toNat t);(decide (v<m)=true->W9 v t.length)/\br (decide (v<m)&&(↑(t.getD v.toNat (0:UInt8)).toNat:Int) !=0) (Ri (v+1)/\∃(y:NoZ t (x.1.at_+1)),((t=t/\(0=0/\r=r)/\j=j/\(0=0/\0=0)/\v+1=(y.1:Int)/\True)/\l/\(oo (knd t z=knd t z/\(0:Int)=0/\([]:Bz)=[]/\True))/\True)/\Lt (t.length-y.1) (t.length-X.val)) (br (v==m) q (b1R j v t.length/\Ri (v+1)/\∃(d:E5.ι),(((knd t z=d.k/\0=d.n/\List.drop j.toNat c=d.t/\True)/\True)/\cB d.t)/\br (!O9 d) q (u/\∃(y:a0Q t),((t=t/\(0=0/\r+1=y.1.acc.length)/\v+1=(y.1.at_:Int)/\True)/\(r+1=y.1.acc.length/\Z8 (r+1) (X4 (P9 w) w.length (tk 3 [Ji (knd t z),Ji 0,T.str (List.drop j.toNat c)])) (P9 y.1.acc))/\True)/\Lt (t.length-y.1.at_) b)))))) (Le (0+r) r/\(Z0 P9 x.1.acc (R5 t).1)/\true=(R5 t).2/\True)) ⟨⟨⟨⟨t.length,0,[]⟩,rfl,N7 _,U9 _,by dsimp only[List.length_nil];omega⟩,⟨rfl,⟨rfl,rfl⟩,rfl,Z6⟩,⟨rfl,nD _ _⟩,Z6⟩,λx=>?_⟩
 obtain⟨⟨n,a,acc⟩,he,C,o,N⟩:=x;dsimp only at he C o N ⊢;rw[D8,uM];have q:=yK t a;have L:(t.drop a).length<=n:=by rw[List.length_drop];exact o
 refine⟨λhc=>?_,λhc=>?_⟩
 ·have hlt:=Y2 hc;have h0:t.drop a≠[]:=λh=>by have:=congrArg List.length h;rw[List.length_drop,List.length_nil] at this;omega
  have i:numR (t.drop a)-1=((t.getD a 0).toNat:Int)-1:=by unfold numR;rw[a0x];rfl
  have hd:(t.drop a).drop 1=t.drop (a+1):=by rw[List.drop_drop]
  have O:∀{P:Prop},(J5 (t.drop a)).2.2=true->(R5 t=([],false)->P)->P:=λF h=>h (a29 he h0 L F)
  have fin:(J5 (t.drop a)).2.2=true->Le 0 0/\((0:Nat)=(R5 t).1.length/\Z8 0 (λk=>List.take 3 (List.drop (k*3) [])) (P9 (R5 t).1))/\false=(R5 t).2/\True:=λF=>by
   rw[a29 he h0 L F];exact⟨U9 _,⟨rfl,nD _ _⟩,Z7⟩
  refine⟨Y6 hlt,Z4 Z9,W2 hlt Z9,λk0=>?_,λk0=>⟨λk1=>?_,λk1=>?_⟩⟩
  ·have k0:((t.getD a 0).toNat:Int)-1=0:=beq_iff_eq.1 k0;have hv:J5 (t.drop a)=(⟨0,0,[]⟩,t.drop (a+1), !O9 ⟨0,0,[]⟩):=by
    unfold J5;rw[if_neg Z9,if_neg Z9,hd,i,k0]
   rw[k0];refine⟨⟨0,0,[]⟩,⟨Z7,b0l⟩,λhq=>fin (by rw[hv];exact hq),λhq=>⟨⟨U9 _,U9 _,Q9⟩,⟨⟨n-1,a+1,acc++[(⟨0,0,[]⟩:Val)]⟩,gD he h0 L (by rw[hv,hq]),X5,X5,a35⟩,⟨⟨rfl,⟨rfl,jV⟩,X5,Z6⟩,⟨jV,gV acc ⟨0,0,[]⟩⟩,Z6⟩,show t.length- (a+1)<t.length-a by omega⟩⟩
  ·have k1:((t.getD a 0).toNat:Int)-1=1:=beq_iff_eq.1 k1;have g:big (t.drop (a+1)) 4=decide ((a:Int)+1+4>t.length):=by
    unfold big;rw[List.length_drop];exact decide_eq_decide.2 Z9
   have hv:J5 (t.drop a)=(⟨1,be (T3 (t.drop (a+1)) 4)-1000000000,[]⟩,Q7 (t.drop (a+1)) 4,big (t.drop (a+1)) 4|| !O9 ⟨1,be (T3 (t.drop (a+1)) 4)-1000000000,[]⟩):=by
    unfold J5;rw[if_pos Z9,hd]
   refine⟨Z4 Z9,λf=>fin (by rw[hv,g,f];rfl),λf=>?_⟩
   have z:¬ ((a:Int)+1+4>t.length):=r8 f;rw[f] at g;have v:T3 (t.drop (a+1)) 4=List.drop (a+1) (List.take (a+5) t):=by
    unfold T3;rw[g,List.drop_take,show a+5- (a+1)=4 by omega]
    rfl
   have R:Q7 (t.drop (a+1)) 4=t.drop (a+5):=by
    unfold Q7;rw[g];show(t.drop (a+1)).drop 4=_;rw[List.drop_drop]
   rw[g,v,R,Bool.false_or] at hv;have l:(List.drop (a+1) (List.take (a+5) t)).length<=4:=by rw[List.length_drop,List.length_take];omega
   have I:=a4L (List.drop (a+1) (List.take (a+5) t)) l;have A:be (List.drop (a+1) (List.take (a+5) t))=j4 (List.drop (a+1) (List.take (a+5) t)) (List.drop (a+1) (List.take (a+5) t)).length:=rfl;rw[k1,show((a:Int)+1+4).toNat=a+5 by omega,show((a:Int)+1).toNat=a+1 by omega]
   refine⟨Z4 Z9,⟨Z9,Z9,Z9⟩,List.drop (a+1) (List.take (a+5) t),⟨Z7,l⟩,Z4 Z9,Z4 Z9,⟨1,be (List.drop (a+1) (List.take (a+5) t))-1000000000,[]⟩,⟨Z7,b0l⟩,λhq=>fin (by rw[hv];exact hq),λhq=>⟨⟨U9 _,U9 _,Q9⟩,⟨⟨n-1,a+5,acc++[⟨1,be (List.drop (a+1) (List.take (a+5) t))-1000000000,[]⟩]⟩,gD he h0 L (by rw[hv,hq]),X5,X5,a35⟩,⟨⟨rfl,⟨rfl,jV⟩,X5,Z6⟩,⟨jV,gV acc ⟨1,be (List.drop (a+1) (List.take (a+5) t))-1000000000,[]⟩⟩,Z6⟩,show t.length- (a+5)<t.length-a by omega⟩⟩
  ·have k0:((t.getD a 0).toNat:Int)-1≠0:=sY k0;have k1:((t.getD a 0).toNat:Int)-1≠1:=sY k1;have hkn:knd t a=((t.getD a 0).toNat:Int)-1:=rfl;refine⟨⟨⟨a+1,U9 _,hlt,λj h1 h2=>Z9⟩,⟨rfl,Z7,Z9,Z7,X5,Z6⟩,Z7⟩,λy=>?_⟩
   obtain⟨k,u,r,hkz⟩:=y;dsimp only;rw[D8,D8,c7P];refine⟨λhy=>Y6 (Y2 hy),λhy=>?_,λhy=>⟨λhq=>fin ?_,λhq=>?_⟩⟩
   ·simp only[J4,o7,vY] at hy;refine⟨Z4 Z9,⟨k+1,Z9,Z9,λj h1 h2=>?_⟩,⟨⟨rfl,Z7,rfl,Z7,X5,Z6⟩,Z7⟩,show t.length- (k+1)<t.length-k by omega⟩
    by_cases hj:j=k
    ·rw[hj];exact hy.2
    ·exact hkz j h1 Z9
   ·have hq:(k:Int)=t.length:=beq_iff_eq.1 hq;unfold J5;rw[if_neg Z9]
    by_cases k2:((t.getD a 0).toNat:Int)-1=2
    ·rw[if_pos Z9,hd]
     have:vL (t.drop (a+1))= -1:=K1 λj hj=>by
      rw[List.length_drop] at hj;rw[gL];exact hkz _ Z9 Z9
     rw[if_pos Z9]
    ·rw[if_neg Z9]
     dsimp only;rw[i,a2U k0 k1 k2];rfl
   ·have hq:(k:Int)≠t.length:=sY hq;have hkl:k<t.length:=by omega
    rw[mN (show(k:Int)<t.length by omega),Bool.true_and,wT] at hy
    have B:List.drop (a+1) (List.take k t)=(t.drop (a+1)).take (k- (a+1)):=by rw[List.drop_take]
    refine⟨⟨Z9,Z9,Z9⟩,Z4 Z9,⟨knd t a,0,List.drop (a+1) (List.take k t)⟩,⟨Z7,by unfold cB L8;rw[List.length_drop,List.length_take];omega⟩,?_⟩
    by_cases k2:((t.getD a 0).toNat:Int)-1=2
    ·have hix:vL (t.drop (a+1))=((k- (a+1):Nat):Int):=N8 (by rw[List.length_drop];omega) (by rw[gL,show a+1+(k- (a+1))=k by omega];exact hy) λj hj=>by rw[gL];exact hkz _ Z9 Z9
     have hv:J5 (t.drop a)=(⟨2,0,List.drop (a+1) (List.take k t)⟩,t.drop (k+1), !O9 ⟨2,0,List.drop (a+1) (List.take k t)⟩):=by
      unfold J5;rw[if_neg Z9,if_pos Z9,hd,hix,if_neg Z9,D8,B,List.drop_drop,show a+1+(k- (a+1)+1)=k+1 by omega]
     rw[hkn,k2];refine⟨λhq=>fin (by rw[hv];exact hq),λhq=>⟨⟨U9 _,U9 _,Q9⟩,⟨⟨n-1,k+1,acc++[⟨2,0,List.drop (a+1) (List.take k t)⟩]⟩,gD he h0 L (by rw[hv,hq]),X5,X5,a35⟩,⟨⟨rfl,⟨rfl,jV⟩,X5,Z6⟩,⟨jV,gV acc ⟨2,0,List.drop (a+1) (List.take k t)⟩⟩,Z6⟩,show t.length- (k+1)<t.length-a by omega⟩⟩
    ·have hbad:O9 ⟨knd t a,0,List.drop (a+1) (List.take k t)⟩=false:=a2U k0 k1 k2;refine⟨λ_=>fin ?_,λhq=>?_⟩
     ·unfold J5;rw[if_neg Z9,if_neg Z9]
      dsimp only;rw[i,a2U k0 k1 k2];rfl
     ·rw[hbad] at hq;cases hq
 ·have hge:=X9 hc;have:t.drop a=[]:=List.drop_eq_nil_of_le hge;rw[this,nV (.inl rfl)] at he;have e:R5 t=(acc,true):=by unfold R5;rw[←he];rfl
  rw[e];exact⟨J9,Z7⟩
def rw0:Rw:=⟨0,⟨0,0,[]⟩,⟨0,0,[]⟩⟩
def zL(L:List Val):Int×Rw:=((L.getD 0 dz).n,⟨(L.getD 1 dz).n,L.getD 2 dz,L.getD 3 dz⟩)
def iW(x:List Val×Bool):Bool:= !x.2||((x.1.length:Int) !=4)||((x.1.getD 0 dz).k !=1)||((x.1.getD 1 dz).k !=1)
def sR(t:Bz):Int×Rw×Bool:=if(iW (R5 t)|| !V6 (zL (R5 t).1).1 1 3)=true then(0,rw0,false) else((zL (R5 t).1).1,(zL (R5 t).1).2,O1 (zL (R5 t).1).2)
def zH(t:Bz):Int×Rw×Int:=if(t.length:Int)>65536 then(0,rw0,2) else if(iW (O7 t)||(!V6 (zL (O7 t).1).1 1 3|| !O1 (zL (O7 t).1).2))=true then(0,rw0,3) else((zL (O7 t).1).1,(zL (O7 t).1).2,0)
def a0w:Rl:=⟨Bz,λb=>[.bys b],λb=>.tup [Ji (zH b).1,.agg (zH b).2.1.ts,Ji (zH b).2.2],lI⟩
def b3t:Con:=.rel a0w
theorem a9h{l:Bz}{B:Nat}(h:l.length<=B):(J5 l).1.t.length<=B:=by
 unfold J5;split
 ·exact N7 _
 ·split
  ·split
   ·exact N7 _
   ·show((l.drop 1).take _).length<=B;rw[List.length_take,List.length_drop];omega
  ·exact N7 _
theorem a1J{B:Nat}:∀(n:Nat) (l:Bz) (f:Bool) (acc:List Val),l.length<=B->(∀v ∈ acc,v.t.length<=B)->∀v ∈ (m5 n l f acc).1,v.t.length<=B:=by
 intro n;induction n with
 |zero=>intro l f acc _ h;exact h
 |succ n i=>
  intro l f acc L h;unfold m5;split
  ·exact h
  ·rename_i hc;have h0:l≠[]:=λh=>hc (.inl h)
   have:=a3W h0;refine i _ _ _ Z9 λv hv=>?_
   rcases List.mem_append.1 hv with hv|hv
   ·exact h v hv
   ·rw[List.mem_singleton.1 hv];exact a9h L
theorem lB{l:Bz}(h:lI l){i:Nat}:cB ((O7 l).1.getD i dz).t:=by
 have h:l.length<=1000000000:=h;show _<1000000000000;rw[P3]
 cases q:(O7 l).1[i]? with
 |none=>show 0<1000000000000;omega
 |some v=>
  have:=a1J l.length l false [] h (λv hv=>absurd hv W7) v (y0 q)
  show v.t.length<_;omega
theorem b38{x:List Val×Bool}{b:Bool}(h:(!x.2||((x.1.length:Int) !=4)||b)=false):x.1.length=4:=by
 simp only[wR,bne_eq_false_iff_eq] at h;omega
theorem c4Z{x:List Val×Bool}(h:(!x.2||((x.1.length:Int) !=4))=false):x.1.length=4:=b38 (b:=false) (by rw[h];rfl)
theorem kQ{n:Nat}(h:n=4){i:Int}(d:0<=i)(e:i<=3):W9 i n:=⟨d,Z9⟩
theorem a86:GK 99 b3t:=gk func99<|by
 intro(b:Bz) hb;refine U5 (gC a73 (gC fI (gC a5K gN))) func99 Z3 (α:=let j:=(zH b).2.1.name.t;let w:=(zH b).2.1.name.n;let y:=(zH b).2.1.name.k;let u:=(zH b).2.2;let p:=(0=(zH b).2.1.id/\0=(zH b).2.1.n.k/\0=(zH b).2.1.n.n/\[]=(zH b).2.1.n.t/\0=y/\0=w/\[]=j/\True);let z:=(0=(zH b).1/\p/\3=u/\True);bd ((b.length:Int)>65536) (0=(zH b).1/\p/\2=u/\True) (∃(x:aU.ι),let r:=(O7 x).1.length;let v:=(↑r:Int);let q:=(O7 x).1.getD;((b=x/\True)/\lI x)/\((!(O7 x).2||v !=4)=false->W9 (0:Int) r)/\((!(O7 x).2||v !=4||(q 0 dz).k !=1)=false->W9 (1:Int) r)/\br (!(O7 x).2||v !=4||(q 0 dz).k !=1||(q 1 dz).k !=1) z (W9 (0:Int) r/\W9 (1:Int) r/\W9 (2:Int) r/\W9 (3:Int) r/\∃(d:Int),(((q 0 dz).n=d/\True)/\True)/\∃(X:rA.ι),((!V6 d (1:Int) (3:Int))=false->(((q 1 dz).n=X.id/\(q 2 dz).k=X.n.k/\(q 2 dz).n=X.n.n/\(q 2 dz).t=X.n.t/\(q 3 dz).k=X.name.k/\(q 3 dz).n=X.name.n/\(q 3 dz).t=X.name.t/\True)/\True)/\RwB X)/\br (!V6 d (1:Int) (3:Int)|| !O1 X) z ((q 0 dz).n=(zH b).1/\((q 1 dz).n=(zH b).2.1.id/\(q 2 dz).k=(zH b).2.1.n.k/\(q 2 dz).n=(zH b).2.1.n.n/\(q 2 dz).t=(zH b).2.1.n.t/\(q 3 dz).k=y/\(q 3 dz).n=w/\(q 3 dz).t=j/\True)/\0=u/\True)))) ⟨λh=>?_,λh=>⟨b,⟨Z7,hb⟩,λh=>kQ (c4Z h) Z9 Z9,λh=>kQ (b38 h) Z9 Z9,λq=>?_,λq=>?_⟩⟩
 ·have e:zH b=(0,rw0,2):=by unfold zH;rw[if_pos (G5 h)]
  rw[e];exact Z7
 ·have e:zH b=(0,rw0,3):=by
   have q:iW (O7 b)=true:=q;unfold zH;rw[if_neg (r8 h),q,Bool.true_or,if_pos rfl]
  rw[e];exact Z7
 ·have l:(O7 b).1.length=4:=by
   rw[wR] at q;exact b38 q.1
  have q:iW (O7 b)=false:=q;refine⟨kQ l Z9 Z9,kQ l Z9 Z9,kQ l Z9 Z9,kQ l Z9 Z9,_,Z7,(zL (O7 b).1).2,λ_=>⟨Z7,lB hb,lB hb⟩,λg=>?_,λg=>?_⟩
  ·have e:zH b=(0,rw0,3):=by
    have g:(!V6 (zL (O7 b).1).1 1 3|| !O1 (zL (O7 b).1).2)=true:=g;unfold zH;rw[if_neg (r8 h),q,g,Bool.or_true,if_pos rfl]
   rw[e];exact Z7
  ·have e:zH b=((zL (O7 b).1).1,(zL (O7 b).1).2,0):=by
    have g:(!V6 (zL (O7 b).1).1 1 3|| !O1 (zL (O7 b).1).2)=false:=g;unfold zH;rw[if_neg (r8 h),q,g,if_neg W7]
   rw[e];exact Z7
def b1s:Con:=.rel ⟨Bz,λt=>[.str t],λt=>.tup [Ji (sR t).1,.agg (sR t).2.1.ts,.bool (sR t).2.2],lI⟩
theorem eD{l:Bz}(h:lI l){i:Nat}:cB ((R5 l).1.getD i dz).t:=by
 unfold R5;split
 ·exact lB h
 ·show 0<1000000000000;omega
theorem a6W:GK 82 b1s:=gk func82<|by
 intro(t:Bz) hb;refine U5 (gC bS (gC z7 (gC a0R gN))) func82 Z3 (α:=let y:=(sR t).2.1.name.t;let v:=(sR t).2.1.name.n;let u:=(sR t).2.1.name.k;∃(x:(Bz)),let q:=(R5 x).1.length;let r:=(↑q:Int);let p:=(R5 x).1.getD;let z:=(p 0 dz).k;((t=x/\True)/\lI x)/\((!(R5 x).2||r !=4)=false->W9 (0:Int) q)/\((!(R5 x).2||r !=4||z !=1)=false->W9 (1:Int) q)/\((!(R5 x).2||r !=4||z !=1||(p 1 dz).k !=1)=false->W9 (0:Int) q)/\br (!(R5 x).2||r !=4||z !=1||(p 1 dz).k !=1|| !V6 (p 0 dz).n (1:Int) (3:Int)) (0=(sR t).1/\(0=(sR t).2.1.id/\0=(sR t).2.1.n.k/\0=(sR t).2.1.n.n/\[]=(sR t).2.1.n.t/\0=u/\0=v/\[]=y/\True)/\false=(sR t).2.2/\True) (W9 (1:Int) q/\W9 (2:Int) q/\W9 (3:Int) q/\W9 (0:Int) q/\∃(X:rA.ι),((((p 1 dz).n=X.id/\(p 2 dz).k=X.n.k/\(p 2 dz).n=X.n.n/\(p 2 dz).t=X.n.t/\(p 3 dz).k=X.name.k/\(p 3 dz).n=X.name.n/\(p 3 dz).t=X.name.t/\True)/\True)/\RwB X)/\(p 0 dz).n=(sR t).1/\((p 1 dz).n=(sR t).2.1.id/\(p 2 dz).k=(sR t).2.1.n.k/\(p 2 dz).n=(sR t).2.1.n.n/\(p 2 dz).t=(sR t).2.1.n.t/\(p 3 dz).k=u/\(p 3 dz).n=v/\(p 3 dz).t=y/\True)/\O1 X=(sR t).2.2/\True)) ⟨t,⟨Z7,hb⟩,λh=>kQ (c4Z h) Z9 Z9,λh=>kQ (b38 h) Z9 Z9,λh=>kQ (by rw[wR] at h;exact b38 h.1) Z9 Z9,λq=>?_,λq=>?_⟩
 ·have e:sR t=(0,rw0,false):=by
   have q:(iW (R5 t)|| !V6 (zL (R5 t).1).1 1 3)=true:=q;unfold sR;rw[if_pos q]
  rw[e];exact Z7
 ·have l:(R5 t).1.length=4:=by
   rw[wR,wR] at q;exact b38 q.1.1
  have e:sR t=((zL (R5 t).1).1,(zL (R5 t).1).2,O1 (zL (R5 t).1).2):=by
   have q:(iW (R5 t)|| !V6 (zL (R5 t).1).1 1 3)=false:=q;unfold sR;rw[if_neg (by rw[q];simp)]
  rw[e];exact⟨kQ l Z9 Z9,kQ l Z9 Z9,kQ l Z9 Z9,kQ l Z9 Z9,(zL (R5 t).1).2,⟨Z7,eD hb,eD hb⟩,Z7⟩
def a0I(t:Bz):Option (Int×Rw):=if(iW (O7 t)||(!V6 (zL (O7 t).1).1 1 3|| !O1 (zL (O7 t).1).2))=true then none else some (zL (O7 t).1)
theorem c6o{t:Bz}(h:t.length<=65536):zH t=match a0I t with|some x=>(x.1,x.2,0)|none=>(0,rw0,3):=by
 unfold zH a0I;rw[if_neg Z9]
 split<;>rfl
theorem c5E(t:Bz):(sR t).2.2=(a0I t).isSome/\∀x,a0I t=some x->sR t=(x.1,x.2,true):=by
 have e:iW (R5 t)=iW (O7 t):=by
  unfold R5;split
  ·rfl
  ·rename_i h;unfold iW;rw[show(O7 t).2=false by simpa using h]
   rfl
 unfold sR a0I;rw[e];cases hp:iW (O7 t)
 ·have d:R5 t=O7 t:=by
   unfold R5;rw[if_pos];unfold iW at hp;simp only[wR,wT] at hp;exact hp.1.1.1
  rw[d];cases hi:V6 (zL (O7 t).1).1 1 3
  ·exact⟨rfl,λx hx=>by cases hx⟩
  ·cases hr:O1 (zL (O7 t).1).2
   ·exact⟨rfl,λx hx=>by cases hx⟩
   ·refine⟨rfl,λx hx=>?_⟩
    cases hx;rfl
 ·exact⟨rfl,λx hx=>by cases hx⟩
structure DG(d:Dsk):Prop where
 ar:d.A=false
 kp:d.keep.length=0
 n69:d.E.length=69
 sc:∀i,i<69->(d.E.getD i []).length<=160
 cc:∀i,i<d.C.length->0<=(d.C.getD i dz).at_/\(d.C.getD i dz).at_<69/\(d.C.getD i dz).d.length<=160
theorem DG.pd{d:Dsk}(h:DG d):aL d:=λi hi=>by
 have:=h.cc i hi;rw[h.n69];omega
theorem DG.P{d:Dsk}(h:DG d)(C:d.C.length<=500):F8 d:=by
 have f:=h.n69;have e:=h.kp;refine⟨Z9,Z9,C,Z9,λ_=>e,λi hi=>h.sc i Z9,λi hi=>?_⟩
 obtain⟨j,c2,g⟩:=h.cc i hi;unfold P2 V6;rw[f];simp only[wR,wT,J4,o7,uG];omega
theorem c7q{r:Rec}(h:O8 r=true):r.b.length<=30/\r.a.length<=38:=by
 have h:=(Q3 r).1 h;unfold zF at h;obtain⟨_,_,_,_,_,_,_,_,_,_,_,_,_,_,B,f,e⟩:=h;refine⟨Z9,?_⟩
 by_cases d:r.k=6
 ·exact a1p (f d).2.2.2.2.2.2
 ·have:=(e d).2.2.1;omega
def FrP(n:Nat)(f:Frm):Prop:=0<=f.no/\f.no<=7/\PgP f.pg/\f.pg.Q<=n/\0<=f.first/\f.first<=n/\(f.D=true↔0<f.first)
structure GInv(s:Sto):Prop where
 dg:DG s.d
 ca:s.d.C.length<=500
 ep:1<=s.ep/\s.ep<=60
 l60:s.L.length<=60
 rc:yV s.L=true
 su:0<=s.S/\s.S<=s.L.length
 be:∀i,i<s.L.length->uZ s i=false
 pg:∀no,no<8->(P6 s.d no).2=true/\(P6 s.d no).1.Q<=s.S
 fr3:s.fr.length<=3
 fp:∀i,i<s.fr.length->FrP s.L.length (s.fr.getD i dz)
 nd:∀i j,i<s.fr.length->j<s.fr.length->(s.fr.getD i dz).no=(s.fr.getD j dz).no->i=j
 cl:∀i,i<s.fr.length->(s.fr.getD i dz).D=false->(P6 s.d (s.fr.getD i dz).no.toNat).1=(s.fr.getD i dz).pg
 hd:0<=s.J/\s.J<=2
 lg:∀i,i<s.S.toNat->S0 s.d (9+i)=J3 (s.L.getD i dz)
 lz:∀i,s.S.toNat<=i->i<60->S0 s.d (9+i)=[]
theorem c32{L:List Frm}{no:Int}(h:0<=frAt L no):(L.getD (frAt L no).toNat dz).no=no:=by
 unfold frAt S5 at h ⊢;split at h
 ·rename_i i hi;have:=List.find?_some hi
  simpa[kZ] using this
 ·omega
theorem c3O{L:List Frm}{i:Nat}(hi:i<L.length)(nd:∀i j,i<L.length->j<L.length->(L.getD i dz).no=(L.getD j dz).no->i=j):frAt L (L.getD i dz).no=i:=by
 have h:0<=frAt L (L.getD i dz).no:=Classical.byContradiction λh=>a9y h hi rfl
 have d:=iF h;have:(L.getD (frAt L (L.getD i dz).no).toNat dz).no=(L.getD i dz).no:=c32 h;have:=nd _ _ d hi this;omega
theorem GInv.ok{s:Sto}(h:GInv s):F5 s=true:=by
 refine(G2 s).2 ⟨⟨(o4 s).2 ⟨h.dg.P h.ca,h.dg.n69,h.ep.1,h.ep.2,h.l60⟩,h.rc,?_⟩,h.be,λno n=>?_,?_,?_⟩
 ·have:=h.su;simp[V6,this]
 ·obtain⟨a,b⟩:=h.pg no n;unfold zW;rw[a];simp only[Bool.not_true,Bool.false_or,uG];omega
 ·unfold zC;have h3:=h.fr3;rw[P4.2 λi hi=>?_]
  ·simp;omega
  ·obtain⟨p1,p2,p3,p4,p5,p6,p7⟩:=h.fp i hi;unfold yY;rw[c3O hi h.nd,show j8 (s.fr.getD i dz).pg=true from mN p3]
   simp only[V6,wR,wT,J4,o7,uG,bne_self_eq_false,true_and,and_true,Bool.not_true,bne_eq_false_iff_eq];refine⟨⟨⟨⟨p1,p2⟩,Z9⟩,p5,p6⟩,?_⟩
   rw[Bool.eq_iff_iff,o7];exact p7.symm
 ·have:=h.hd;simp[V6,this]
theorem GInv.sm{s:Sto}(h:GInv s):iC s:=by
 have f:=h.dg.n69;have d:=h.dg.kp;have j:=h.ca;have e:=h.l60;have g:=h.fr3;refine⟨⟨Z9,Z9,Z9⟩,Z9,Z9,λi hi=>?_⟩
 have:=(h.fp i hi).2.2.1.2.2.1;unfold SmF SmG;omega
theorem GInv.inv{s:Sto}(h:GInv s):SInv s:=a9t h.ok h.sm
structure OutP(s a:Sto)(k:Nat):Prop where
 g:GInv a
 le:a.fr.length=s.fr.length
 no:∀i,(a.fr.getD i dz).no=(s.fr.getD i dz).no/\(a.fr.getD i dz).pg=(s.fr.getD i dz).pg
 cl:(a.fr.getD k dz).D=false
 L:a.L=s.L/\a.ep=s.ep/\a.J=s.J/\s.S<=a.S
 ls:(s.fr.getD k dz).D=true->(s.fr.getD k dz).pg.Q<=a.S
structure FetP(s a:Sto)(k:Nat)(no:Nat):Prop where
 g:GInv a
 kk:k<a.fr.length
 no:(a.fr.getD k dz).no=no
 L:a.L=s.L/\a.ep=s.ep/\s.S<=a.S
def c9U(s:Sto)(r:Rec):Sto:=⟨s.d,s.ep,s.L++[P8 s r],s.S,s.fr,s.J⟩
theorem c8t{s:Sto}{r:Rec}(h:GInv s)(z:s.L.length<60)(R:O8 (P8 s r)=true):GInv (c9U s r):=by
 have L:(s.L++[P8 s r]).length=s.L.length+1:=W7
 have eG:=λi hi=>cM dz s.L (P8 s r) i hi
 have u:=h.su;have f:=h.ep;refine⟨h.dg,h.ca,h.ep,by show(s.L++[_]).length<=_;omega,C2.2 λi hi=>?_,⟨u.1,by show s.S<=((s.L++[_]).length:Nat);omega⟩,λi hi=>?_,h.pg,h.fr3,λi hi=>?_,h.nd,h.cl,h.hd,λi hi=>?_,h.lz⟩
 ·show O8 ((s.L++[_]).getD i dz)=true/\((s.L++[_]).getD i dz).l=_;have hi:i<(s.L++[P8 s r]).length:=hi;rw[eG i Z9]
  split
  ·rename_i e;exact⟨R,by rw[e];rfl⟩
  ·exact C2.1 h.rc i Z9
 ·have hi:i<(s.L++[P8 s r]).length:=hi;unfold uZ;show(!V6 ((s.L++[P8 s r]).getD i dz).e (yS (s.L++[P8 s r]) i) s.ep)=false;have hb:=λj hj=>h.be j hj
  unfold uZ at hb;rw[eG i Z9]
  by_cases e:i=s.L.length
  ·rw[if_pos e];show(!V6 s.ep _ s.ep)=false;have:yS (s.L++[P8 s r]) i<=s.ep:=by
    unfold yS;split
    ·exact f.1
    ·rw[eG (i-1) Z9,if_neg Z9]
     have:=c7k (hb (i-1) Z9)
     exact this.2
   simp[V6,this]
  ·rw[if_neg e,←hb i Z9]
   have:yS (s.L++[P8 s r]) i=yS s.L i:=by
    unfold yS;split
    ·rfl
    ·rw[eG (i-1) Z9,if_neg Z9]
   rw[this]
 ·have F:FrP s.L.length (s.fr.getD i dz):=h.fp i hi;obtain⟨o,q,g,v,n,x,t⟩:=F;show FrP (s.L++[P8 s r]).length (s.fr.getD i dz);rw[L];exact⟨o,q,g,Z9,n,Z9,t⟩
 ·have hi:i<s.S.toNat:=hi;show S0 s.d (9+i)=J3 ((s.L++[P8 s r]).getD i dz);rw[eG i Z9,if_neg Z9]
  exact h.lg i hi
def LI(L:List Rec):Prop:=xG L/\∀a:Int,1<=a->a<=L.length->(Y8 L a).k<=3->((Y8 L a).p=0∨ownR L (Y8 L a).p (Y8 L a).t=true)/\((Y8 L a).k=3->ownR L (Y8 L a).n (Y8 L a).t=true)
def InT(T:List Txn)(x:Int):Prop:=∃j,j<T.length/\(T.getD j dz).id=x
structure EH(L:List Rec)(T:List Txn)(lk:Lks)(nx:Int):Prop where
 li:LI L
 t10:T.length<=10
 nxr:1<=nx/\nx<=61
 lks:B6 lk=true
 id:∀i,i<T.length->1<=(T.getD i dz).id/\(T.getD i dz).id<=nx-1
 asc:∀i j,i<j->j<T.length->(T.getD i dz).id<(T.getD j dz).id
 ow:∀i,i<T.length->ownR L (T.getD i dz).Z (T.getD i dz).id=true
 hd:∀i,i<lk.H.length->InT T (lk.H.getD i dz).tx
 wt:∀i,i<lk.W.length->InT T (lk.W.getD i dz).tx/\InT T (lk.W.getD i dz).fo
 rm:L.length+tQ L T T.length<=60
structure EI(e:Eng):Prop where
 g:GInv e.s
 up:e.up=true
 h:EH e.s.L e.X e.lk e.N
theorem c80{L:List Rec}{a id:Int}(h:ownR L a id=true):(Y8 L a).t=id/\1<=(Y8 L a).k/\(Y8 L a).k<=3:=by
 unfold ownR at h;simp only[J4,K4,beq_iff_eq] at h;exact⟨h.1.2,h.2⟩
theorem b68{L:List Rec}(h:LI L){id:Int}:∀(f:Nat) (a:Int),a.toNat<f->(a<=0∨ownR L a id=true)->chn L id f a=true
 |0,_,hf,_=>absurd hf (D0 _)
 |f+1,a,hf,ha=>by
  unfold chn;rcases ha with ha|ha
  ·rw[mN ha];rfl
  ·obtain⟨h1,h2⟩:=a51 ha;obtain⟨t1,t2,t3⟩:=c80 ha;obtain⟨p1,p2,p3,p4⟩:=h.1.prev h1 h2;obtain⟨b1,b2⟩:=h.2 a h1 h2 t3;rw[t1] at b1 b2;have hc:chn L id f (Y8 L a).p=true:=b68 h f _ Z9 (b1.imp (λe=>Z9) λe=>e)
   rw[hc,Bool.and_true];have o:okR L id a=true:=by
    unfold okR;rw[ha,Bool.true_and];by_cases d:(Y8 L a).k=3
    ·rw[b2 d,Bool.or_true]
    ·rw[show((Y8 L a).k !=3)=true by simpa using d];rfl
   rw[o,Bool.or_true]
theorem c9D{L:List Rec}(h:LI L){t:Txn}(o:ownR L t.Z t.id=true):nC L t=true:=by
 obtain⟨d,e⟩:=a51 o;have:=h.1.1;unfold nC;rw[K4.2 ⟨d,e⟩,Bool.true_and];exact b68 h 61 _ Z9 (.inr o)
theorem a1v{T:List Txn}{x:Int}(h:InT T x):¬T7 T x<0:=λn=>by
 obtain⟨j,J,e⟩:=h;have d:=C7 T.length (x1 T x);have f:anyI T.length (x1 T x)=true:=R8.2 ⟨j,J,by unfold x1;rw[e];exact beq_self_eq_true x⟩
 rw[f] at d;have:=G5 d;have g:S5 T.length (x1 T x)<0:=n;omega
theorem EI.r{e:Eng}(h:EI e):sP e=true:=by
 obtain⟨_,u,l,t10,nx,lk,id,asc,o,hd,t,rm⟩:=h;unfold sP wB upE;rw[if_pos u];simp only[J4,o7,K4,vY];refine⟨⟨⟨t10,nx⟩,lk⟩,⟨⟨?_,?_⟩,?_⟩,rm⟩
 ·refine P4.2 λi hi=>?_
  unfold y5;simp only[wR,wT,Bool.and_eq_false_iff,uG,K4];refine⟨⟨id i hi,?_⟩,c9D l (o i hi)⟩
  by_cases d:i=0
  ·exact .inl Z9
  ·have:=asc (i-1) i Z9 hi
   exact .inr Z9
 ·refine P4.2 λi hi=>?_
  unfold wP;exact tP (a1v (hd i hi))
 ·refine P4.2 λi hi=>?_
  unfold s5;rw[tP (a1v (t i hi).1),tP (a1v (t i hi).2)];rfl
theorem EI.ok{e:Eng}(h:EI e):R2 e=true:=by
 unfold R2;rw[h.g.ok,h.r];rfl
theorem EI.sm{e:Eng}(h:EI e):M6 e:=by
 have d:=b6C h.h.lks;have f:=h.h.t10;exact⟨h.g.sm,Z9,Z9,Z9⟩
theorem EH.at_{L:List Rec}{T:List Txn}{lk:Lks}{nx:Int}(h:EH L T lk nx){k:Nat}(d:k<T.length):T7 T (T.getD k dz).id=k:=
 N8 d (by unfold x1;exact beq_self_eq_true _) λj J=>by
  have:=h.asc j k J d;unfold x1;exact beq_eq_false_iff_ne.2 Z9
theorem c3x{T:List Txn}{k:Nat}(i:Nat)(d:k<T.length):(T.take k++T.drop (k+1)).getD i dz=T.getD (if i<k then i else i+1) dz:=by
 have l:(T.take k).length=k:=by rw[List.length_take];omega
 by_cases h:i<k
 ·rw[if_pos h,P3,rK Z9,List.getElem?_take_of_lt h,←P3]
 ·rw[if_neg h,P3,pZ Z9,l,List.getElem?_drop,show k+1+(i-k)=i+1 by omega,←P3]
theorem c2B{T:List Txn}{k:Nat}(h:k<T.length):(T.take k++T.drop (k+1)).length=T.length-1:=by
 rw[F7,List.length_take,List.length_drop];omega
theorem b8K{L:List Rec}{T:List Txn}{k:Nat}(d:k<T.length):∀n,n<T.length->tQ L (T.take k++T.drop (k+1)) n+(if k<=n then 1+und L 61 (T.getD k dz).Z else 0)=tQ L T (if k<=n then n+1 else n)
 |0,_=>by
  by_cases h:k=0
  ·subst h;rw[if_pos (U9 _),if_pos (U9 _)];show 0+_=0+_;rfl
  ·rw[if_neg Z9,if_neg Z9]
   rfl
 |n+1,hn=>by
  have ih:=b8K (L:=L) d n Z9
  have e:tQ L (T.take k++T.drop (k+1)) (n+1)=tQ L (T.take k++T.drop (k+1)) n+(1+und L 61 (T.getD (if n<k then n else n+1) dz).Z):=by
   conv=>lhs;unfold tQ
   rw[c3x n d]
  by_cases h:k<=n
  ·rw[if_pos h,if_pos h] at ih;have e1:(if n<k then n else n+1)=n+1:=if_neg Z9
   rw[e1] at e;have f:(if k<=n+1 then n+1+1 else n+1)=n+1+1:=if_pos Z9
   have e2:tQ L T (n+1+1)=tQ L T (n+1)+(1+und L 61 (T.getD (n+1) dz).Z):=rfl;rw[e,f,if_pos (show k<=n+1 by omega)]
   omega
  ·rw[if_neg h,if_neg h] at ih;have e2:tQ L T (n+1)=tQ L T n+(1+und L 61 (T.getD n dz).Z):=rfl;have e1:(if n<k then n else n+1)=n:=if_pos Z9
   rw[e1] at e;by_cases g:k<=n+1
   ·have:k=n+1:=by omega
    subst this;have f:tQ L T (n+1+1)=tQ L T (n+1)+(1+und L 61 (T.getD (n+1) dz).Z):=rfl;rw[e,if_pos (U9 _),if_pos (U9 _)];omega
   ·rw[e,if_neg g,if_neg g];omega
theorem c4a{L:List Rec}{T:List Txn}{k:Nat}(h:k<T.length):tQ L (T.take k++T.drop (k+1)) (T.take k++T.drop (k+1)).length+(1+und L 61 (T.getD k dz).Z)=tQ L T T.length:=by
 have:=b8K (L:=L) h (T.length-1) Z9
 rw[if_pos Z9,if_pos Z9,show T.length-1+1=T.length by omega] at this
 rw[c2B h];exact this
theorem c0o{α:Type}[Inhabited α]{L:List α}{i:Nat}(h:i<L.length):L.getD i dz ∈ L:=by
 rw[P3,I0 h]
 exact List.getElem_mem h
structure NewR(L:List Rec)(tn:Txn)(x:Rec):Prop where
 p:zF x
 l:x.l=(L.length:Int)+1
 t:x.t=tn.id
 pp:x.p=tn.Z
theorem c1D{L:List Rec}{T:List Txn}{k:Nat}(h:k<T.length):1<=tQ L T T.length:=by
 have:=c4a (L:=L) h;omega
def phi(e:Eng):Nat:=e.s.L.length+nJ e
theorem EI.app{e:Eng}(h:EI e){k:Nat}(d:k<e.X.length){r:Rec}(R:zF (P8 e.s (B7 e k r))):GInv (E7 e k r).s:=by
 have M:=h.h.rm;have hp:=c1D (L:=e.s.L) d;exact c8t h.g Z9 ((Q3 _).2 R)
structure UndP(e:Eng)(k:Nat)(u:(Eng×Nat)×Bool)(to:Int):Prop where
 al:u.2=true
 ei:EI u.1.1
 ln:u.1.1.X.length=e.X.length
 ph:phi u.1.1=phi e
 un:∃a,a<=to/\und u.1.1.s.L 61 (u.1.1.X.getD k dz).Z=und u.1.1.s.L 61 a
def cF(tx:Int)(w:Wt):Bool:=w.tx !=tx
def J0(l:Lks)(tx:Int):Lks:=⟨l.H,X7 (cF tx) l.W l.W.length⟩
def b2b(a b:Int):Bool:=(a==b)||(a==4)||(b==1)
def qB(L:List Lck)(x:Lck)(i:Nat):Bool:=((L.getD i dz).tx==x.tx)&&((L.getD i dz).ta==x.ta)&&((L.getD i dz).row==x.row)&&b2b (L.getD i dz).mo x.mo
def cX(L:List Wt)(w:Wt)(i:Nat):Bool:=((L.getD i dz).tx==w.tx)&&(((L.getD i dz).fo==w.fo)&&true)
def V1(L:List Lck)(x:Lck):Nat->List Wt
 |0=>[]
 |i+1=>if clash (L.getD i dz) x=true then(if anyI (V1 L x i).length (cX (V1 L x i) ⟨x.tx,(L.getD i dz).tx⟩)=true then V1 L x i else V1 L x i++[⟨x.tx,(L.getD i dz).tx⟩]) else V1 L x i
def thr(R:List Int)(a:Int)(i:Nat):Bool:=R.getD i 0==a
def scn(W:List Wt)(tx a:Int)(R:List Int):Nat->Option (List Int)
 |0=>some R
 |k+1=>match scn W tx a R k with
  |none=>none
  |some Q=>if(W.getD k dz).tx=a then(if(W.getD k dz).fo=tx then none else if anyI Q.length (thr Q (W.getD k dz).fo)=true then some Q else some (Q++[(W.getD k dz).fo])) else some Q
def a1W(W:List Wt)(tx:Int):Nat->Nat->List Int->Bool
 |0,_,_=>false
 |f+1,i,R=>if i<R.length then(match scn W tx (R.getD i 0) R W.length with|none=>true|some Q=>a1W W tx f (i+1) Q) else false
def rnd(W:List Wt)(tx:Int):Bool:=a1W W tx 200 0 [tx]
def B8(l:Lks)(x:Lck):List Wt:=V1 l.H x l.H.length
def T5(l:Lks)(x:Lck):Lks×Int:=
 if anyI l.H.length (qB l.H x)=true then(J0 l x.tx,0) else
 if(B8 l x).length=0 then(if l.H.length=60 then(J0 l x.tx,7) else(⟨l.H++[x],(J0 l x.tx).W⟩,0)) else
 if(J0 l x.tx).W.length+(B8 l x).length>100 then(J0 l x.tx,7) else
 if rnd ((J0 l x.tx).W++B8 l x) x.tx=true then(J0 l x.tx,14) else(⟨l.H,(J0 l x.tx).W++B8 l x⟩,13)
theorem a7j{L:List Lck}{x:Lck}:∀n,(V1 L x n).length<=n
 |0=>U9 0
 |n+1=>by
  have i:=a7j (L:=L) (x:=x) n;unfold V1;split
  ·split
   ·omega
   ·rw[F7,List.length_singleton];omega
  ·omega
structure LkP(T:List Txn)(l:Lks):Prop where
 ok:B6 l=true
 hd:∀a ∈ l.H,InT T a.tx
 wt:∀w ∈ l.W,InT T w.tx/\InT T w.fo
def R6(e:Eng)(s:Sto):Eng:={e with s:=s}
def qD(e:Eng)(k:Nat)(ta row mo:Int):Lck:=⟨(e.X.getD k dz).id,ta,row,mo⟩
def pD(e:Eng)(k:Nat)(ta row mo:Int):Eng:={e with lk:=(T5 e.lk (qD e k ta row mo)).1}
def R3(e:Eng)(k:Nat)(ta row mo:Int):Eng×Int:=
 if(T5 e.lk (qD e k ta row mo)).2=14 then((I5 (pD e k ta row mo) k).1.1,if(I5 (pD e k ta row mo) k).2=0 then 14 else 15) else(pD e k ta row mo,(T5 e.lk (qD e k ta row mo)).2)
structure LokR(ta row mo:Int):Prop where
 a:1<=ta/\ta<=3
 b: -1<=row/\row<=1000
 c:1<=mo/\mo<=4
 d:row<0∨3<=mo
def kepA(L:List Rec)(g s:Int):Nat->Int->Bool
 |0,_=>false
 |f+1,a=>if a<=0 then false else if(Y8 L a).k=3 then kepA L g s f (Y8 L a).n else if(Y8 L a).k=2/\(Y8 L a).g=g/\(Y8 L a).s=s then true else kepA L g s f (Y8 L a).p
def oO(e:Eng)(tx g s:Int)(i:Nat):Bool:= !((e.X.getD i dz).id==tx)&&kepA e.s.L g s 61 (e.X.getD i dz).Z
def lM(e:Eng)(tx g s:Int):Bool:=anyI e.X.length (oO e tx g s)
structure Plc where
 a:Int
 b:Int
 c:Int
 d:Int
 deriving Inhabited
def a1L(t:Bz)(ta id:Int):Bool:=(sR t).2.2&&((sR t).1==ta)&&((sR t).2.1.id==id)
def vH(e:Eng)(tx ta id:Int)(no:Nat)(p:Pg)(A:Plc):Nat->Plc
 |0=>A
 |i+1=>let B:=vH e tx ta id no p A i
  if p.sl.getD i []=[] then(if B.c<0/\lM e tx no i=false then⟨B.a,B.b,no,i⟩ else B)
  else if a1L (p.sl.getD i []) ta id=true/\B.a<0 then⟨no,i,B.c,B.d⟩ else B
def T1(e:Eng)(tx ta id:Int):Nat->Sto×Plc×Bool
 |0=>(e.s,⟨-1,-1,-1,-1⟩,true)
 |n+1=>if(T1 e tx ta id n).2.2=true then
   (if(Y3 (T1 e tx ta id n).1 n).2.2=true then((Y3 (T1 e tx ta id n).1 n).1,vH e tx ta id n ((Y3 (T1 e tx ta id n).1 n).1.fr.getD (Y3 (T1 e tx ta id n).1 n).2.1 dz).pg (T1 e tx ta id n).2.1 4,true) else((Y3 (T1 e tx ta id n).1 n).1,(T1 e tx ta id n).2.1,false))
  else T1 e tx ta id n
def c6Y(A:Plc):Prop:=(A.a= -1∨(0<=A.a/\A.a<=7/\0<=A.b/\A.b<=3))/\(A.c= -1∨(0<=A.c/\A.c<=7/\0<=A.d/\A.d<=3))
theorem b5u{e:Eng}{tx ta id:Int}{no:Nat}{p:Pg}{A:Plc}(N:no<8)(h:c6Y A):∀n,n<=4->c6Y (vH e tx ta id no p A n)
 |0,_=>h
 |n+1,hn4=>by
  have i:=b5u (e:=e) (tx:=tx) (ta:=ta) (id:=id) (p:=p) N h n Z9
  unfold vH;dsimp only;split
  ·split
   ·exact⟨i.1,.inr ⟨X5,X5,X5,X5⟩⟩
   ·exact i
  ·split
   ·exact⟨.inr ⟨X5,X5,X5,X5⟩,i.2⟩
   ·exact i
def J1(g s:Int)(b a:Bz):Rec:=⟨0,0,0,2,0,0,g,s,b,a⟩
def k7(e:Eng)(k:Nat)(r:Rec):Eng×Bool:=(R6 (E7 e k r) (T9 (E7 e k r).s (P8 e.s (B7 e k r))).1,(T9 (E7 e k r).s (P8 e.s (B7 e k r))).2)
def m6(v:Val):Bz:=if v.k=0 then[1] else if v.k=1 then 2::z6 (v.n+1000000000).toNat else 3::(v.t++[0])
def sV(ta:Int)(r:Rw):Bz:=m6 ⟨1,ta,[]⟩++m6 ⟨1,r.id,[]⟩++m6 r.n++m6 r.name
def v5(e:Eng)(A:Plc)(s:Sto):Sto×Bz:=((Y3 s A.a.toNat).1,((Y3 s A.a.toNat).1.fr.getD (Y3 s A.a.toNat).2.1 dz).pg.sl.getD A.b.toNat [])
theorem GInv.B{s:Sto}(h:GInv s):b27 s:=by
 have j:=h.dg.n69;have f:=h.dg.kp;have n:=h.ca;have g:=h.l60;have l:=h.fr3;have key:∀r ∈ s.L,r.a.length<=38:=λr R=>by
  obtain⟨i,hi,e⟩:=List.getElem_of_mem R;have d:s.L.getD i dz=r:=by rw[P3,I0 hi,e];rfl
  have:=(c7q (C2.1 h.rc i hi).1).2;rw[d] at this;exact this
 refine⟨⟨sU,sU,sU⟩,?_,⟨sU,λi hi=>?_⟩,λr R=>by have:=key r R;unfold L8;omega⟩
 ·exact⟨Z9,λr R=>by have:=key r R;omega⟩
 ·have:=(h.fp i hi).2.2.1.2.2.1;unfold PgB L8;omega
def a2W:Con:=.rel ⟨Int×Int,λx=>[Ji x.1,Ji x.2],λx=>.bool (b2b x.1 x.2),λ_=>True⟩
theorem a37(a b:Int)(h:
  (a==b||a==4||b==1)=b2b a b):
  V4 prog 333 [Ji a,Ji b] (.bool (b2b a b)):=
 U5 gN func333 Z3 h
theorem a2e:GK 333 a2W:=gk func333<|λx _=>a37 x.1 x.2 rfl
def a8X:Con:=.rel ⟨Lks×Lck,λx=>.agg x.1.ts::x.2.ts,λx=>.bool (anyI x.1.H.length (qB x.1.H x.2)),λx=>L8 x.1.H.length⟩
def a67(l:Lks)(x:Lck):Nat->Ann
 |0=>.one (V5 l.H.length (qB l.H x)) (λy=>⟨[(1,Ji x.tx),(2,Ji x.ta),(3,Ji x.row),(4,Ji x.mo),(5,.ref 0 0 0),(11,Ji y.1)],[lkB l]⟩) (λy=>l.H.length-y.1) [.box 0] [.box 0] (λ_=>Z3)
 |_=>.none
theorem a4S:GK 261 a8X:=gk func261<|by
 rintro⟨l,x⟩ (hL:l.H.length<1000000000000);refine U5 (gC a2e gN) func261 (a67 l x) (α:=let q:=(oo ((Z0 Z2 l.H l.H)/\(Z0 Y7 l.W l.W)/\True));(∃(X:V5 l.H.length (qB l.H x)),(x.tx=x.tx/\x.ta=x.ta/\x.row=x.row/\x.mo=x.mo/\(0=0/\0=0)/\0=(X.val:Int)/\True)/\q/\True)/\∀(X:V5 l.H.length (qB l.H x)),let r:=(X.val:Int);let p:=(l.H.getD r.toNat dz);bd (r<(l.H.length:Int)) (W9 r l.H.length/\∃(d:(Int×Int)),((p.tx==x.tx&&p.ta==x.ta&&p.row==x.row)=true->(p.mo=d.1/\x.mo=d.2/\True)/\True)/\br (p.tx==x.tx&&p.ta==x.ta&&p.row==x.row&&b2b d.1 d.2) (true=anyI l.H.length (qB l.H x)) (Ri (r+1)/\∃(y:V5 l.H.length (qB l.H x)),((x.tx=x.tx/\x.ta=x.ta/\x.row=x.row/\x.mo=x.mo/\(0=0/\0=0)/\r+1=(y.1:Int)/\True)/\q/\True)/\Lt (l.H.length-y.1) (l.H.length-X.val))) (false=anyI l.H.length (qB l.H x))) ⟨⟨F2,Z7⟩,λy=>⟨λC=>?_,λC=>?_⟩⟩
 ·have h:=Y2 C;exact⟨Y6 h,((l.H.getD y.1 dz).mo,x.mo),λ_=>Z7,λhp=>(R8.2 ⟨y.1,h,hp⟩).symm,λhp=>⟨W2 h Z9,y.succ h hp,⟨⟨rfl,rfl,rfl,rfl,Z7,I8,Z6⟩,Z7⟩,V5.ext_lt h⟩⟩
 ·have e:=X9 C;exact(P4.2 λj J=>y.2.2 j (xX J e)).symm
def c7B:Con:=.rmk ⟨Lks,λl=>[.agg l.ts],λ_=>[],λl=>.agg (l.tm 0),λl=>l.hp,uW⟩
theorem c3u:GK 84 c7B:=gk func84<|by
 rintro(l:Lks) ⟨h1,h2⟩;exact⟨C4 (gC P5 (gC P5 (gC P5 (gC P5 (gC P5 (gC P5 (gC P5 (gC P5 gN)))))))) func84 Z3 [[.arr 2,.arr 3]] (α:=U8 0 l.H.length 32/\U8 0 l.W.length 16/\(((0=0/\l.H.length=l.H.length)/\(0=0/\l.W.length=l.W.length)/\True)/\True)/\(Z0 Z2 l.H l.H)/\(Z0 Y7 l.W l.W)/\True) ⟨Q9,Q9,Z7⟩,rfl,rC l⟩
def c7E:Con:=.reff ⟨Lks×Int,λx=>[.agg (x.1.tm 0),Ji x.2],λx=>x.1.hp,λx=>.agg [.osl 0 0 x.1.H.length,.osl 2 0 (J0 x.1 x.2).W.length],λx=>[yX x.1.H,sT x.1.W,sT (J0 x.1 x.2).W],λx=>x.1.W.length<=1000000⟩
def c5x(l:Lks)(tx:Int):Nat->Ann
 |0=>.one (Up l.W.length) (λx=>⟨[(1,Ji tx),(2,.ref 2 0 0),(4,.ref 3 0 0),(5,.osl 4 0 (X7 (cF tx) l.W x.1).length),(6,Ji x.1)],[yX l.H,sT l.W,some (.arr false 1000000 2 1 λ_=>l.tm 0),lkB ⟨[],[]⟩,sT (X7 (cF tx) l.W x.1)]⟩) (λx=>l.W.length-x.1) c5n c5n (λ_=>Z3)
 |_=>.none
theorem c3y:GK 260 c7E:=gk func260<|by
 rintro⟨l,tx⟩ (h1:l.W.length<=1000000);refine C4 gN func260 (c5x l tx) [[.arr 0,.arr 1,.vl 0 [1]]] (α:=let g:=(X7 (cF tx) l.W l.W.length);let f:=(0=0/\l.H.length=l.H.length);let m:=(Z0 Y7 l.W l.W);let k:=(Z0 Z2 l.H l.H);let v:=(0=0/\0=0);let z:=(oo ((0=0/\Z8 0 (Z2 []) (Z2 []))/\(0=0/\Z8 0 (Y7 []) (Y7 []))/\True));let q:=(oo (f/\(0=0/\l.W.length=l.W.length)/\True));(∃(x:Up l.W.length),let w:=(X7 (cF tx) l.W x.1);(tx=tx/\v/\v/\(0=0/\0=w.length)/\0=(x.1:Int)/\True)/\k/\m/\q/\(oo (0=0/\0=0/\True))/\(0=w.length/\Z8 0 (tk 2 []) (Y7 w))/\True)/\∀(x:Up l.W.length),let c:=(l.W.length-x.1);let r:=(x.1:Int);let b:=(0+r.toNat);let u:=(l.W.getD b dz);let p:=(X7 (cF tx) l.W x.1);let n:=p.length;bd (r<(l.W.length:Int)) (W9 r l.W.length/\Lt b l.W.length/\br (u.tx !=tx) (W9 r l.W.length/\Lt b l.W.length/\(Le 1 1/\Le p.length n/\U8 p.length 1 16)/\Ri (r+1)/\∃(y:Up l.W.length),let j:=(X7 (cF tx) l.W y.1);((tx=tx/\v/\v/\(0=0/\n+1=j.length)/\r+1=(y.1:Int)/\True)/\k/\m/\q/\z/\(n+1=j.length/\Z8 (n+1) (X4 (Y7 p) p.length (tk 2 [Ji u.tx,Ji u.fo])) (Y7 j))/\True)/\Lt (l.W.length-y.1) c) (Ri (r+1)/\∃(y:Up l.W.length),let a:=(X7 (cF tx) l.W y.1);((tx=tx/\v/\v/\(0=0/\n=a.length)/\r+1=(y.1:Int)/\True)/\k/\m/\q/\z/\(Z0 Y7 p a)/\True)/\Lt (l.W.length-y.1) c)) (((f/\(0=0/\n=g.length)/\True)/\True)/\k/\m/\(Z0 Y7 p g)/\True)) ⟨⟨⟨0,N7 _⟩,Z7,Z7,Z7,Z7,Z7,⟨rfl,P0⟩,Z6⟩,λx=>⟨λhc=>?_,λhc=>?_⟩⟩
 ·have hlt:=Y2 hc;have hle:=o9 (cF tx) l.W x.1;rw[D8,D2];refine⟨Y6 hlt,hlt,λhq=>?_,λhq=>?_⟩
  ·have hn:=rD (f:=cF tx) hq;refine⟨Y6 hlt,hlt,⟨U9 _,U9 _,Q9⟩,Z4 Z9,⟨x.1+1,hlt⟩,⟨⟨rfl,Z7,Z7,⟨rfl,hn⟩,X5,Z6⟩,Z7,Z7,Z7,⟨rfl,rfl,⟨rfl,P0⟩,⟨rfl,P0⟩,Z6⟩,⟨hn,?_⟩,Z6⟩,V5.ext_lt hlt⟩
   dsimp only;rw[aF (f:=cF tx) hq];exact zU Wt.ts 2 (λ_=>rfl) _ _
  ·have hn:=pQ (f:=cF tx) hq;refine⟨Z4 Z9,⟨x.1+1,hlt⟩,?_,V5.ext_lt hlt⟩
   dsimp only;rw[hn];exact⟨⟨rfl,Z7,Z7,Z7,Z9,Z6⟩,Z7,Z7,Z7,⟨rfl,rfl,⟨rfl,P0⟩,⟨rfl,P0⟩,Z6⟩,Z7⟩
 ·have hx:x.1=l.W.length:=by have:=x.2;have:=X9 hc;omega
  rw[hx];exact Z7
def a5q(W:List Wt)(R:List Int):Nat:=(W.filter λw=> !R.contains w.fo).length
def RnS(W:List Wt)(tx:Int):Type:={x:Nat×Nat×List Int//a1W W tx x.1 x.2.1 x.2.2=rnd W tx/\a5q W x.2.2+x.2.2.length<=x.2.1+x.1/\x.2.1<=x.2.2.length/\x.1+x.2.1=200}
def ScS(W:List Wt)(tx a:Int)(R:List Int):Type:={x:Nat×List Int//x.1<=W.length/\scn W tx a R x.1=some x.2}
def a7D:Con:=.rel ⟨Lks×Int,λx=>[.agg x.1.ts,Ji x.2],λx=>.bool (rnd x.1.W x.2),λx=>x.1.W.length<=100⟩
def a8M(l:Lks)(tx:Int):Nat->Ann
 |0=>.one (RnS l.W tx) (λx=>⟨[(1,Ji tx),(2,.ref 0 0 0),(5,.osl 1 0 x.1.2.2.length),(6,Ji x.1.2.1)],[lkB l,z8 x.1.2.2]⟩) (λx=>x.1.1) b7X b7X (λx=>fun
  |1=>.one (ScS l.W tx (x.1.2.2.getD x.1.2.1 0) x.1.2.2) (λy=>⟨[(1,Ji tx),(2,.ref 0 0 0),(5,.osl 1 0 y.1.2.length),(6,Ji x.1.2.1),(7,Ji y.1.1)],[lkB l,z8 y.1.2]⟩) (λy=>l.W.length-y.1.1) b7X b7X (λy=>fun
   |2=>.one {j:Nat//j<=y.1.2.length} (λz=>⟨[(1,Ji tx),(2,.ref 0 0 0),(5,.osl 1 0 y.1.2.length),(6,Ji x.1.2.1),(7,Ji y.1.1),(8,.ref 2 0 0),(9,.bool (anyI z.1 (thr y.1.2 (l.W.getD y.1.1 dz).fo))),(10,Ji z.1)],[lkB l,z8 y.1.2,some (.arr true 1000000 2 1 λ_=>(l.W.getD y.1.1 dz).ts)]⟩) (λz=>y.1.2.length-z.1) [.box 0,.at_ 5,.box 2] [.box 0,.at_ 5,.box 2] (λ_=>Z3)
   |_=>.none)
  |_=>.none)
 |_=>.none
theorem b7z{n:Nat}{p:Nat->Bool}:anyI (n+1) p=(anyI n p||p n):=by
 unfold anyI;rw[List.range_succ,List.any_append];simp
theorem a43{α:Type}{p q:α->Bool}(h:∀b,q b=true->p b=true):∀L:List α,(L.filter q).length<=(L.filter p).length
 | []=>U9 _
 |b::L=>by
  have i:=a43 h L;cases Q:q b with
  |true=>rw[List.filter_cons_of_pos Q,List.filter_cons_of_pos (h b Q)];simp only[List.length_cons];omega
  |false=>
   rw[List.filter_cons_of_neg (by rw[Q];simp)]
   cases hp:p b with
   |true=>rw[List.filter_cons_of_pos hp];simp only[List.length_cons];omega
   |false=>rw[List.filter_cons_of_neg (by rw[hp];simp)];exact i
theorem a3K{α:Type}{p q:α->Bool}(h:∀b,q b=true->p b=true){a:α}(hp:p a=true)(hq:q a=false):∀L:List α,a ∈ L->(L.filter q).length+1<=(L.filter p).length
 |b::L,ha=>by
  have M:=a43 h L;by_cases e:b=a
  ·subst e;rw[List.filter_cons_of_pos hp,List.filter_cons_of_neg (by rw[hq];simp)]
   simp only[List.length_cons];omega
  ·have ih:=a3K h hp hq L ((vM.1 ha).resolve_left λe'=>e e'.symm)
   cases B:q b with
   |true=>rw[List.filter_cons_of_pos B,List.filter_cons_of_pos (h b B)];simp only[List.length_cons];omega
   |false=>
    rw[List.filter_cons_of_neg (by rw[B];simp)]
    cases d:p b with
    |true=>rw[List.filter_cons_of_pos d];simp only[List.length_cons];omega
    |false=>rw[List.filter_cons_of_neg (by rw[d];simp)];exact ih
theorem c0G{Q:List Int}{a:Int}(h:anyI Q.length (thr Q a)=false):a ∉ Q:=λM=>by
 obtain⟨i,hi,e⟩:=List.getElem_of_mem M;have:=P4.1 h i hi;unfold thr at this;rw[P3,I0 hi,e,Option.getD_some] at this
 simp at this
theorem c3l{W:List Wt}{Q:List Int}{k:Nat}(d:k<W.length)(h:anyI Q.length (thr Q (W.getD k dz).fo)=false):a5q W (Q++[(W.getD k dz).fo])+1<=a5q W Q:=by
 have M:=c0G h;refine a3K (λb B=>?_) (a:=W.getD k dz) ?_ ?_ W (c0o d)
 ·simp only[vY,List.contains_eq_mem,uG,List.mem_append,not_or] at B ⊢;exact B.1
 ·simp only[vY,List.contains_eq_mem,uG];exact M
 ·simp
theorem dT{W:List Wt}{tx a:Int}{R Q:List Int}{k:Nat}(h:scn W tx a R k=some Q):scn W tx a R (k+1)=if(W.getD k dz).tx=a then(if(W.getD k dz).fo=tx then none else if anyI Q.length (thr Q (W.getD k dz).fo)=true then some Q else some (Q++[(W.getD k dz).fo])) else some Q:=by
 conv=>lhs;unfold scn
 rw[h]
theorem lZ{W:List Wt}{tx a:Int}{R:List Int}{k:Nat}(h:scn W tx a R k=none):∀d,scn W tx a R (k+d)=none
 |0=>h
 |d+1=>by
  show scn W tx a R ((k+d)+1)=none;conv=>lhs;unfold scn
  rw[lZ h d]
theorem a7V{W:List Wt}{tx a:Int}{R:List Int}:∀k Q,k<=W.length->scn W tx a R k=some Q->(∀i,i<R.length->Q.getD i 0=R.getD i 0)/\R.length<=Q.length/\a5q W Q+Q.length<=a5q W R+R.length
 |0,Q,_,h=>by
  unfold scn at h;cases h;exact Z7
 |k+1,Q,hk,h=>by
  cases d:scn W tx a R k with
  |none=>have:=lZ d 1;rw[this] at h;cases h
  |some Q0=>
   obtain⟨I,f,e⟩:=a7V k Q0 Z9 d
   rw[dT d] at h;split at h
   ·split at h
    ·cases h
    ·split at h
     ·cases h;exact⟨I,f,e⟩
     ·rename_i ha;cases h;have:=c3l (W:=W) (k:=k) Z9 sS
      refine⟨λi hi=>?_,C5,by simp only[F7,List.length_singleton];omega⟩
      rw[←I i hi,P3,rK Z9,←P3]
   ·cases h;exact⟨I,f,e⟩
theorem c5s{W:List Wt}{tx:Int}{f i:Nat}{R:List Int}(hi:i<R.length):a1W W tx (f+1) i R=match scn W tx (R.getD i 0) R W.length with|none=>true|some Q=>a1W W tx f (i+1) Q:=by
 conv=>lhs;unfold a1W
 exact(if_pos hi).trans (by cases scn W tx (R.getD i 0) R W.length<;>rfl)
theorem c5j{W:List Wt}{tx:Int}{f i:Nat}{R:List Int}(hi:¬i<R.length):a1W W tx f i R=false:=by
 cases f with
 |zero=>rfl
 |succ f=>unfold a1W;rw[if_neg hi]
theorem a4b:GK 262 a7D:=gk func262<|by
 rintro⟨l,tx⟩ (h:l.W.length<=100);have W:∀R,a5q l.W R<=100:=λR=>Nat.le_trans (List.length_filter_le _ _) h
 refine U5 gN func262 (a8M l tx) (α:=let w:=(0=0/\0=0);let q:=(oo ((Z0 Z2 l.H l.H)/\(Z0 Y7 l.W l.W)/\True));(∃(x:RnS l.W tx),let a:=x.1.2;(tx=tx/\w/\(0=0/\1=a.2.length)/\0=(a.1:Int)/\True)/\q/\(1=a.2.length/\Z8 1 (tk 1 [Ji tx]) (Y9 a.2))/\True)/\∀(x:RnS l.W tx),let b:=x.1.2;let z:=(b.1:Int);bd (z<(b.2.length:Int)) ((∃(X:ScS l.W tx (x.1.2.2.getD x.1.2.1 (0:Int)) x.1.2.2),(tx=tx/\w/\(0=0/\b.2.length=X.val.2.length)/\z=z/\0=(X.val.1:Int)/\True)/\q/\(Z0 Y9 b.2 X.val.2)/\True)/\∀(X:ScS l.W tx (x.1.2.2.getD x.1.2.1 (0:Int)) x.1.2.2),let g:=(l.W.length-X.val.1);let f:=(Z0 Y9 X.val.2 X.val.2);let n:=(0=0/\X.val.2.length=X.val.2.length);let u:=(X.val.1:Int);let k:=(l.W.getD u.toNat dz);let r:=(l.W.getD X.val.1 dz);let v:=(thr X.val.2 r.fo);let p:=(Ri (u+1)/\∃(y:ScS l.W tx (x.1.2.2.getD x.1.2.1 (0:Int)) x.1.2.2),((tx=tx/\w/\(0=0/\X.val.2.length=y.1.2.length)/\z=z/\u+1=(y.1.1:Int)/\True)/\q/\(Z0 Y9 X.val.2 y.1.2)/\True)/\Lt (l.W.length-y.1.1) g);bd (u<(l.W.length:Int)) (W9 u l.W.length/\W9 z X.val.2.length/\Lt (0+z.toNat) X.val.2.length/\br (k.tx !=X.val.2.getD (0+z.toNat) (0:Int)) p (br (k.fo==tx) (true=rnd l.W tx) ((∃(d:{j:Nat//j<=X.val.2.length}),(tx=tx/\w/\n/\z=z/\u=u/\w/\false=anyI d.val v/\0=(d.val:Int)/\True)/\q/\f/\(oo (k.tx=r.tx/\k.fo=r.fo/\True))/\True)/\∀(d:{j:Nat//j<=X.val.2.length}),let m:=(d.val:Int);bd (m<(X.val.2.length:Int)) ((anyI d.val v=false->W9 m X.val.2.length)/\(anyI d.val v=false->Lt (0+m.toNat) X.val.2.length)/\Ri (m+1)/\∃(y:{j:Nat//j<=X.val.2.length}),((tx=tx/\w/\n/\z=z/\u=u/\w/\(anyI d.val v||X.val.2.getD (0+m.toNat) (0:Int)==r.fo)=anyI y.1 v/\m+1=(y.1:Int)/\True)/\q/\f/\(oo (r.tx=r.tx/\r.fo=r.fo/\True))/\True)/\Lt (X.val.2.length-y.1) (X.val.2.length-d.val)) (br (!anyI d.val v) ((Le 1 1/\Le X.val.2.length X.val.2.length/\U8 X.val.2.length 1 8)/\Ri (u+1)/\∃(y:ScS l.W tx (x.1.2.2.getD x.1.2.1 (0:Int)) x.1.2.2),((tx=tx/\w/\(0=0/\X.val.2.length+1=y.1.2.length)/\z=z/\u+1=(y.1.1:Int)/\True)/\q/\(X.val.2.length+1=y.1.2.length/\Z8 (X.val.2.length+1) (X4 (Y9 X.val.2) X.val.2.length (tk 1 [Ji r.fo])) (Y9 y.1.2))/\True)/\Lt (l.W.length-y.1.1) g) p)))) (Ri (z+1)/\∃(y:RnS l.W tx),((tx=tx/\w/\(0=0/\X.val.2.length=y.1.2.2.length)/\z+1=(y.1.2.1:Int)/\True)/\q/\(Z0 Y9 X.val.2 y.1.2.2)/\True)/\Lt y.1.1 x.1.1)) (false=rnd l.W tx)) ⟨⟨⟨(200,0,[tx]),rfl,by have:=W [tx];dsimp only[List.length_singleton];omega,N7 _,rfl⟩,⟨rfl,⟨rfl,rfl⟩,⟨rfl,rfl⟩,rfl,Z6⟩,⟨rfl,rfl,⟨rfl,X6 _ _⟩,⟨rfl,X6 _ _⟩,Z6⟩,⟨rfl,λj J=>by(obtain rfl:j=0:=by omega);rfl⟩,Z6⟩,λx=>?_⟩
 obtain⟨⟨f,i,R⟩,e,M,hi,q⟩:=x;dsimp only at e M hi q ⊢;have u:=W R;refine⟨λhc=>?_,λhc=>?_⟩
 ·have hlt:=Y2 hc;obtain⟨g,rfl⟩:∃g,f=g+1:=⟨f-1,Z9⟩
  rw[c5s hlt] at e;refine⟨⟨⟨(0,R),Z7⟩,Z7⟩,λy=>?_⟩
  obtain⟨⟨k,Q⟩,n,hs⟩:=y;dsimp only at n hs ⊢;obtain⟨r,v,A⟩:=a7V k Q n hs;have e1:=r i hlt;rw[D8 k,D8 i,D2];refine⟨λhc2=>?_,λhc2=>?_⟩
  ·have hkt:=Y2 hc2;have hss:=dT hs;refine⟨Y6 hkt,Y6 Z9,Q1,λhq=>?_,λhq=>⟨λhb=>?_,λhb=>⟨⟨⟨0,N7 _⟩,Z7⟩,λz=>?_⟩⟩⟩
   ·rw[e1] at hq;rw[if_neg (by simpa using hq)] at hss
    exact⟨Z4 Z9,⟨(k+1,Q),hkt,hss⟩,⟨⟨rfl,Z7,Z7,rfl,X5,Z6⟩,Z7⟩,J7⟩
   ·rw[e1] at hq;rw[if_pos (by simpa using hq),if_pos jH] at hss
    have:=lZ hss (l.W.length- (k+1));rw[show k+1+(l.W.length- (k+1))=l.W.length by omega] at this
    rw[this] at e;exact e
   ·rw[e1] at hq;rw[if_pos (by simpa using hq),if_neg jH] at hss
    obtain⟨j,J⟩:=z;dsimp only at J ⊢;rw[D8,D2];refine⟨λhc3=>?_,λhc3=>?_⟩
    ·have t:=Y2 hc3;exact⟨λ_=>Y6 t,λ_=>t,Z4 Z9,⟨j+1,t⟩,⟨⟨rfl,Z7,Z7,rfl,rfl,Z7,b7z.symm,X5,Z6⟩,Z7⟩,J7⟩
    ·obtain rfl:j=Q.length:=by have:=X9 hc3;omega
     refine⟨λha=>?_,λha=>?_⟩
     ·have ha:anyI Q.length (thr Q (l.W.getD k dz).fo)=false:=by simpa using ha
      rw[if_neg (by rw[ha];simp)] at hss
      refine⟨⟨U9 _,U9 _,Q9⟩,Z4 Z9,⟨(k+1,Q++[(l.W.getD k dz).fo]),hkt,hss⟩,⟨⟨rfl,Z7,⟨rfl,W7⟩,rfl,X5,Z6⟩,Z7,⟨W7,?_⟩,Z6⟩,J7⟩
      exact zU (λa=>[Ji a]) 1 (λ_=>rfl) Q _
     ·have ha:anyI Q.length (thr Q (l.W.getD k dz).fo)=true:=by simpa using ha
      rw[if_pos ha] at hss;exact⟨Z4 Z9,⟨(k+1,Q),hkt,hss⟩,⟨⟨rfl,Z7,Z7,rfl,X5,Z6⟩,Z7⟩,J7⟩
  ·obtain rfl:k=l.W.length:=by have:=X9 hc2;omega
   rw[hs] at e;exact⟨Z4 Z9,⟨(g,i+1,Q),e,X5,X5,X5⟩,⟨⟨rfl,Z7,Z7,X5,Z6⟩,Z7⟩,J7⟩
 ·have o:=X9 hc;rw[←e];exact(c5j Z9).symm
def b4b(l:Lks)(x:Lck):Nat->Ann
 |0=>.one (Up l.H.length) (λi=>⟨[(1,Ji x.tx),(2,Ji x.ta),(3,Ji x.row),(4,Ji x.mo),(5,.ref 0 0 0),(10,.ref 1 0 0),(11,Ji 0),(12,.ref 2 0 0),(13,.osl 5 0 (V1 l.H x i.1).length),(14,Ji i.1)],[lkB l,lkB ⟨[],[]⟩,lkO 3 l.H.length 4 (J0 l x.tx).W.length,yX l.H,sT (J0 l x.tx).W,sT (V1 l.H x i.1)]⟩) (λi=>l.H.length-i.1) [.box 0,.box 1,.box 5,.cel 5 0,.cel 5 1,.at_ 13] [.box 0,.box 1,.box 2,.cel 2 0,.cel 2 1,.at_ 13] (λi=>fun
  |1=>.one {j:Nat//j<=(V1 l.H x i.1).length} (λj=>⟨[(1,Ji x.tx),(2,Ji x.ta),(3,Ji x.row),(4,Ji x.mo),(5,.ref 0 0 0),(10,.ref 1 0 0),(11,Ji 0),(12,.ref 2 0 0),(13,.osl 5 0 (V1 l.H x i.1).length),(14,Ji i.1),(15,.ref 6 0 0),(16,.ref 7 0 0),(17,.bool (anyI j.1 (cX (V1 l.H x i.1) ⟨x.tx,(l.H.getD i.1 dz).tx⟩))),(18,Ji j.1)],[lkB l,lkB ⟨[],[]⟩,lkO 3 l.H.length 4 (J0 l x.tx).W.length,yX l.H,sT (J0 l x.tx).W,sT (V1 l.H x i.1),some (.arr true 1000000 4 1 λ_=>(l.H.getD i.1 dz).ts),some (.arr true 1000000 2 1 λ_=>[Ji x.tx,Ji (l.H.getD i.1 dz).tx])]⟩) (λj=>(V1 l.H x i.1).length-j.1) c40 c40 (λ_=>Z3)
  |_=>.none)
 |_=>.none
def b3N:Con:=.rel ⟨Lks×Lck,λx=>.agg x.1.ts::x.2.ts,λx=>.tup [.agg (T5 x.1 x.2).1.ts,Ji (T5 x.1 x.2).2],λx=>x.1.H.length<=60/\x.1.W.length<=100⟩
theorem c4X{L:List Lck}{x:Lck}{i:Nat}:V1 L x (i+1)=if clash (L.getD i dz) x=true then(if anyI (V1 L x i).length (cX (V1 L x i) ⟨x.tx,(L.getD i dz).tx⟩)=true then V1 L x i else V1 L x i++[⟨x.tx,(L.getD i dz).tx⟩]) else V1 L x i:=rfl
theorem c4Q(a b:Lck):((a.tx !=b.tx)&&(a.ta==b.ta)&&(a.row==b.row)&& !mZ a.mo b.mo)=clash a b:=by
 unfold clash rX;rw[Bool.and_assoc (a.tx !=b.tx)]
theorem a6a(L M:List Wt):Z8 (L.length+M.length) (X4 (Y7 L) L.length (Y7 M)) (Y7 (L++M)):=by
 intro i hi;unfold X4 Y7;by_cases h:i<L.length
 ·rw[rW h];dsimp only;rw[P3,P3,rK h]
 ·rw[mG h];dsimp only;rw[P3,P3,pZ Z9]
theorem a6Z:GK 165 b3N:=gk func165<|by
 rintro⟨l,x⟩ ⟨v,u⟩;dsimp only at v u;have C:(X7 (cF x.tx) l.W l.W.length).length<=l.W.length:=o9 (cF x.tx) l.W l.W.length;have r:=λn=>a7j (L:=l.H) (x:=x) n
 refine U5 (gC c3u (gC c3y (gC a4S (gC a0d (gC a4b gN))))) func165 (b4b l x) (α:=let pq:=(l.H.length+1);let pk:=(T5 l x).1.W;let pj:=(T5 l x).1.H;let ph:=(T5 l x).2;let pd:=(Z0 Z2 l.H l.H);let c:=(0=0/\0=0);let n:=(oo (pd/\(Z0 Y7 l.W l.W)/\True));let k:=(oo ((0=0/\Z8 0 (Z2 []) (Z2 []))/\(0=0/\Z8 0 (Y7 []) (Y7 []))/\True));let p:=(X7 (cF x.tx) l.W l.W.length);let pp:=(Z0 Y7 p p);let pg:=p.length;let t:=((Z0 Z2 l.H pj)/\(Z0 Y7 p pk)/\True);let a:=(Le (0+l.H.length) l.H.length/\Le (0+pg) pg);let m:=(oo ((0=0/\l.H.length=l.H.length)/\(0=0/\pg=pg)/\True));∃(q:Lks),((((Z0 Z2 l.H q.H)/\(Z0 Y7 l.W q.W)/\True)/\True)/\uW q)/\∃(d:(Lks×Int)),let pt:=d.1.W.length;let pm:=d.1.H.length;let w:=(X7 (cF d.2) d.1.W pt);let pc:=(Le (0+pm) pm/\Le (0+w.length) w.length);((((0=0/\q.H.length=pm)/\(0=0/\q.W.length=pt)/\True)/\x.tx=d.2/\True)/\((Z0 Z2 q.H d.1.H)/\(Z0 Y7 q.W d.1.W)/\True)/\pt<=1000000)/\∃(h:(Lks×Lck)),(pc/\(((Z0 Z2 d.1.H h.1.H)/\(Z0 Y7 w h.1.W)/\True)/\x.tx=h.2.tx/\x.ta=h.2.ta/\x.row=h.2.row/\x.mo=h.2.mo/\True)/\L8 h.1.H.length)/\br (anyI h.1.H.length (qB h.1.H h.2)) (pc/\((Z0 Z2 d.1.H pj)/\(Z0 Y7 w pk)/\True)/\0=ph/\True) ((∃(X:Up l.H.length),let pn:=(V1 l.H x X.val);(x.tx=x.tx/\x.ta=x.ta/\x.row=x.row/\x.mo=x.mo/\c/\c/\(0:Int)=0/\c/\(0=0/\0=pn.length)/\0=(X.val:Int)/\True)/\n/\(oo (0=0/\0=0/\True))/\(oo ((0=0/\pm=l.H.length)/\(0=0/\w.length=pg)/\True))/\(Z0 Z2 d.1.H l.H)/\(Z0 Y7 w p)/\(0=pn.length/\Z8 0 (tk 2 []) (Y7 pn))/\True)/\∀(X:Up l.H.length),let pa:=(X.val:Int);let v:=(l.H.getD (0+pa.toNat) dz);let u:=(l.H.getD X.val dz);let r:=(V1 l.H x X.val);let i:=(cX r (Wt.mk x.tx u.tx));let b:=r.length;let pr:=(↑b:Int);let z:=(Ri (pa+1)/\∃(y:Up l.H.length),((x.tx=x.tx/\x.ta=x.ta/\x.row=x.row/\x.mo=x.mo/\c/\c/\(0:Int)=0/\c/\(0=0/\b=(V1 l.H x y.1).length)/\pa+1=(y.1:Int)/\True)/\n/\k/\m/\pd/\pp/\(Z0 Y7 r (V1 l.H x y.1))/\True)/\Lt (l.H.length-y.1) (l.H.length-X.val));bd (pa<(l.H.length:Int)) (W9 pa l.H.length/\Lt (0+pa.toNat) l.H.length/\∃(f:(Int×Int)),((v.tx !=x.tx&&v.ta==x.ta&&v.row==x.row)=true->(v.mo=f.1/\x.mo=f.2/\True)/\True)/\br (v.tx !=x.tx&&v.ta==x.ta&&v.row==x.row&& !mZ f.1 f.2) ((∃(g:{j:Nat//j<=(V1 l.H x X.val).length}),(x.tx=x.tx/\x.ta=x.ta/\x.row=x.row/\x.mo=x.mo/\c/\c/\(0:Int)=0/\c/\(0=0/\b=b)/\pa=pa/\c/\c/\false=anyI g.val i/\0=(g.val:Int)/\True)/\n/\k/\m/\pd/\pp/\(Z0 Y7 r r)/\(oo (v.tx=u.tx/\v.ta=u.ta/\v.row=u.row/\v.mo=u.mo/\True))/\(oo (x.tx=x.tx/\v.tx=u.tx/\True))/\True)/\∀(g:{j:Nat//j<=(V1 l.H x X.val).length}),let pe:=(g.val:Int);let ps:=(r.getD (0+pe.toNat) dz);bd (pe<pr) ((anyI g.val i=false->W9 pe b)/\(anyI g.val i=false->Lt (0+pe.toNat) b)/\Ri (pe+1)/\∃(y:{j:Nat//j<=(V1 l.H x X.val).length}),((x.tx=x.tx/\x.ta=x.ta/\x.row=x.row/\x.mo=x.mo/\c/\c/\(0:Int)=0/\c/\(0=0/\b=b)/\pa=pa/\c/\c/\(anyI g.val i||ps.tx==x.tx&&(ps.fo==u.tx&&true))=anyI y.1 i/\pe+1=(y.1:Int)/\True)/\n/\k/\m/\pd/\pp/\(Z0 Y7 r r)/\(oo (u.tx=u.tx/\u.ta=u.ta/\u.row=u.row/\u.mo=u.mo/\True))/\(oo (x.tx=x.tx/\u.tx=u.tx/\True))/\True)/\Lt (b-y.1) (b-g.val)) (br (!anyI g.val i) ((Le 1 1/\Le r.length b/\U8 r.length 1 16)/\Ri (pa+1)/\∃(y:Up l.H.length),let po:=(V1 l.H x y.1);((x.tx=x.tx/\x.ta=x.ta/\x.row=x.row/\x.mo=x.mo/\c/\c/\(0:Int)=0/\c/\(0=0/\b+1=po.length)/\pa+1=(y.1:Int)/\True)/\n/\k/\m/\pd/\pp/\(b+1=po.length/\Z8 (b+1) (X4 (Y7 r) r.length (tk 2 [Ji x.tx,Ji u.tx])) (Y7 po))/\True)/\Lt (l.H.length-y.1) (l.H.length-X.val)) z)) z) (br (pr==0) (br ((l.H.length:Int)==60) (a/\t/\7=ph/\True) ((Le 1 1/\Le l.H.length l.H.length/\U8 l.H.length 1 32)/\(Le (0+pq) pq/\Le (0+pg) pg)/\((l.H.length+1=(T5 l x).1.H.length/\Z8 pq (X4 (Z2 l.H) l.H.length (tk 4 [Ji x.tx,Ji x.ta,Ji x.row,Ji x.mo])) (Z2 pj))/\(Z0 Y7 p pk)/\True)/\0=ph/\True)) (Ri ((↑pg:Int)+pr)/\bd ((↑pg:Int)+pr>100) (a/\t/\7=ph/\True) (∃(f:Lks),let pi:=(X4 (Y7 f.W) f.W.length (Y7 r));let pf:=f.W.length;let pb:=(Le (0+f.H.length) f.H.length/\Le (0+(pf+b)) (pf+b));(a/\(((Z0 Z2 l.H f.H)/\(Z0 Y7 p f.W)/\True)/\True)/\uW f)/\(Le (0+b) b/\Le f.W.length pf/\U8 f.W.length r.length 16)/\∃(g:(Lks×Int)),(pb/\(((Z0 Z2 f.H g.1.H)/\(pf+b=g.1.W.length/\Z8 (pf+b) pi (Y7 g.1.W))/\True)/\x.tx=g.2/\True)/\g.1.W.length<=100)/\br (rnd g.1.W g.2) (a/\t/\14=ph/\True) (pb/\((Z0 Z2 f.H pj)/\(pf+b=(T5 l x).1.W.length/\Z8 (pf+b) pi (Y7 pk))/\True)/\13=ph/\True)))))) ⟨l,⟨Z7,Z9,Z9⟩,(l,x.tx),⟨Z7,Z7,X5⟩,(J0 l x.tx,x),⟨⟨J9,J9⟩,Z7,by unfold L8 J0;dsimp only;omega⟩,λhh=>?_,λhh=>⟨⟨⟨0,N7 _⟩,Z7,Z7,Z7,Z7,Z7,Z7,⟨rfl,P0⟩,Z6⟩,λy=>?_⟩⟩
 ·have hh:anyI l.H.length (qB l.H x)=true:=hh;have e:T5 l x=(J0 l x.tx,0):=by unfold T5;rw[if_pos hh]
  rw[e];exact⟨⟨J9,J9⟩,Z7⟩
 have hh:¬anyI l.H.length (qB l.H x)=true:=by
  have hh:anyI l.H.length (qB l.H x)=false:=hh;rw[hh];simp
 obtain⟨i,hi⟩:=y;dsimp only at hi ⊢;have I:=r i;rw[D8,D2];refine⟨λhc=>?_,λhc=>?_⟩
 ·have hlt:=Y2 hc;have hw1:=c4X (L:=l.H) (x:=x) (i:=i);refine⟨Y6 hlt,hlt,((l.H.getD i dz).mo,x.mo),λ_=>Z7,λhq=>⟨⟨⟨0,N7 _⟩,Z7,Z7,⟨rfl,rfl,⟨rfl,P0⟩,⟨rfl,P0⟩,Z6⟩,Z7⟩,λz=>?_⟩,λhq=>?_⟩
  ·rw[if_pos ((c4Q _ x).symm.trans hq)] at hw1;obtain⟨j,hj⟩:=z;dsimp only at hj ⊢;rw[D8,D2];refine⟨λhc2=>?_,λhc2=>?_⟩
   ·have t:=Y2 hc2;exact⟨λ_=>Y6 t,λ_=>t,Z4 Z9,⟨j+1,t⟩,⟨⟨rfl,rfl,rfl,rfl,Z7,Z7,rfl,Z7,Z7,rfl,Z7,Z7,b7z.symm,X5,Z6⟩,Z7,⟨rfl,rfl,⟨rfl,P0⟩,⟨rfl,P0⟩,Z6⟩,Z7⟩,J7⟩
   ·obtain rfl:j=(V1 l.H x i).length:=by have:=X9 hc2;omega
    refine⟨λha=>?_,λha=>?_⟩
    ·rw[if_neg sS] at hw1
     have N:(V1 l.H x i).length+1=(V1 l.H x (i+1)).length:=by rw[hw1];simp
     refine⟨⟨U9 _,U9 _,Q9⟩,Z4 Z9,⟨i+1,hlt⟩,⟨⟨rfl,rfl,rfl,rfl,Z7,Z7,rfl,Z7,⟨rfl,N⟩,X5,Z6⟩,Z7,⟨rfl,rfl,⟨rfl,P0⟩,⟨rfl,P0⟩,Z6⟩,Z7,Z7,Z7,⟨N,?_⟩,Z6⟩,J7⟩
     dsimp only;rw[hw1];exact zU Wt.ts 2 (λ_=>rfl) (V1 l.H x i) ⟨x.tx,(l.H.getD i dz).tx⟩
    ·rw[if_pos sS] at hw1
     refine⟨Z4 Z9,⟨i+1,hlt⟩,?_,J7⟩
     dsimp only;rw[hw1];exact⟨⟨rfl,rfl,rfl,rfl,Z7,Z7,rfl,Z7,Z7,Z9,Z6⟩,Z7,⟨rfl,rfl,⟨rfl,P0⟩,⟨rfl,P0⟩,Z6⟩,Z7⟩
  ·rw[if_neg (by rw[←c4Q,hq];simp)] at hw1
   refine⟨Z4 Z9,⟨i+1,hlt⟩,?_,J7⟩
   dsimp only;rw[hw1];exact⟨⟨rfl,rfl,rfl,rfl,Z7,Z7,rfl,Z7,Z7,Z9,Z6⟩,Z7,⟨rfl,rfl,⟨rfl,P0⟩,⟨rfl,P0⟩,Z6⟩,Z7⟩
 ·obtain rfl:i=l.H.length:=by have:=X9 hc;omega
  refine⟨λh0=>⟨λo=>?_,λo=>?_⟩,λh0=>⟨Z4 Z9,λB=>?_,λB=>?_⟩⟩
  ·have h0:(B8 l x).length=0:=by have:=beq_iff_eq.1 h0;unfold B8;omega
   have o:l.H.length=60:=by have:=beq_iff_eq.1 o;omega
   have e:T5 l x=(J0 l x.tx,7):=by unfold T5;rw[if_neg hh,if_pos h0,if_pos o]
   rw[e];exact⟨⟨J9,J9⟩,Z7⟩
  ·have h0:(B8 l x).length=0:=by have:=beq_iff_eq.1 h0;unfold B8;omega
   have o:¬l.H.length=60:=λe=>by rw[e] at o;cases o
   have e:T5 l x=(⟨l.H++[x],(J0 l x.tx).W⟩,0):=by unfold T5;rw[if_neg hh,if_pos h0,if_neg o]
   rw[e];exact⟨⟨U9 _,U9 _,Q9⟩,⟨J9,J9⟩,⟨⟨W7,zU Lck.ts 4 (λ_=>rfl) _ x⟩,Z7⟩,Z7⟩
  ·have h0:¬ (B8 l x).length=0:=λe=>by
    have e:(V1 l.H x l.H.length).length=0:=e;rw[e] at h0;cases h0
   have B:(J0 l x.tx).W.length+(B8 l x).length>100:=by have:=G5 B;unfold B8 J0;dsimp only;omega
   have e:T5 l x=(J0 l x.tx,7):=by unfold T5;rw[if_neg hh,if_neg h0,if_pos B]
   rw[e];exact⟨⟨J9,J9⟩,Z7⟩
  ·have h0:¬ (B8 l x).length=0:=λe=>by
    have e:(V1 l.H x l.H.length).length=0:=e;rw[e] at h0;cases h0
   have B:(X7 (cF x.tx) l.W l.W.length).length+(V1 l.H x l.H.length).length<=100:=by have:=r8 B;omega
   have hb':¬ (J0 l x.tx).W.length+(B8 l x).length>100:=by unfold B8 J0;dsimp only;omega
   have A:(X7 (cF x.tx) l.W l.W.length).length+(V1 l.H x l.H.length).length=((J0 l x.tx).W++B8 l x).length:=by unfold B8 J0;simp
   refine⟨J0 l x.tx,⟨⟨J9,J9⟩,Z7,by show l.H.length<=_;omega,by show(X7 (cF x.tx) l.W l.W.length).length<=_;omega⟩,⟨J9,U9 _,by show U8 (X7 (cF x.tx) l.W l.W.length).length _ _;unfold U8;omega⟩,(⟨l.H,(J0 l x.tx).W++B8 l x⟩,x.tx),⟨⟨J9,J9⟩,⟨⟨⟨rfl,X6 _ _⟩,⟨A,a6a _ _⟩,Z6⟩,rfl,Z6⟩,X5⟩,λhr=>?_,λhr=>?_⟩
   ·have hr:rnd ((J0 l x.tx).W++B8 l x) x.tx=true:=hr;have e:T5 l x=(J0 l x.tx,14):=by unfold T5;rw[if_neg hh,if_neg h0,if_neg hb',if_pos hr]
    rw[e];exact⟨⟨J9,J9⟩,Z7⟩
   ·have hr:¬rnd ((J0 l x.tx).W++B8 l x) x.tx=true:=by
     have hr:rnd ((J0 l x.tx).W++B8 l x) x.tx=false:=hr;rw[hr];simp
    have e:T5 l x=(⟨l.H,(J0 l x.tx).W++B8 l x⟩,13):=by unfold T5;rw[if_neg hh,if_neg h0,if_neg hb',if_neg hr]
    rw[e];exact⟨⟨J9,J9⟩,⟨Z7,⟨A,a6a _ _⟩,Z6⟩,Z7⟩
def Q6(L:List Val):Nat->Bz
 |0=>[]
 |i+1=>Q6 L i++m6 (L.getD i dz)
def jA(v:Val):Prop:=v.t.length<=100/\(v.k=0∨(v.k=1/\ -1000000000<=v.n/\v.n<=1000000000)∨v.k=2)
def RwK(r:Rw):Prop:=jA r.n/\jA r.name/\0<=r.id/\r.id<=1000
def b7e:Con:=.rel ⟨Val,λv=>[.agg v.ts],λv=>.bys (m6 v),jA⟩
theorem b17:GK 337 b7e:=gk func337<|by
 rintro(v:Val) ⟨ht,hk⟩;have u8:∀n:Int,0<=n->n<=255->R1 IntKind.u8 n:=λn a b=>(pH n).2 ⟨a,b⟩
 refine U5 (gC tO gN) func337 Z3 (α:=br (v.k==0) (R1 IntKind.u8 (1:Int)/\Le 1 1/\List.take 1 (List.drop 0 (List.map R0 [(1:Int)]))=m6 v) (br (v.k==1) (R1 IntKind.u8 (2:Int)/\Ri (v.n+1000000000)/\∃(x:nK.ι),((v.n+1000000000=(x.1:Int)/\(4=match x.2 with|true=>(4:Int)|false=>(2:Int))/\True)/\True)/\(Le 1 1/\U8 1 (match x.2 with|true=>z6 x.1|false=>yW x.1).length 1)/\Le (0+(1+(match x.2 with|true=>z6 x.1|false=>yW x.1).length)) (List.take 1 (List.map R0 [(2:Int)])++match x.2 with|true=>z6 x.1|false=>yW x.1).length/\List.take (1+(match x.2 with|true=>z6 x.1|false=>yW x.1).length) (List.drop 0 (List.take 1 (List.map R0 [(2:Int)])++match x.2 with|true=>z6 x.1|false=>yW x.1))=m6 v) (R1 IntKind.u8 (3:Int)/\(Le 1 1/\U8 1 v.t.length 1)/\R1 IntKind.u8 (0:Int)/\(Le 1 1/\Le (1+v.t.length) (List.take 1 (List.map R0 [(3:Int)])++v.t).length/\U8 (1+v.t.length) 1 1)/\Le (0+(1+v.t.length+1)) (List.take (1+v.t.length) (List.take 1 (List.map R0 [(3:Int)])++v.t)++List.take 1 (List.drop 0 (List.map R0 [(0:Int)]))).length/\List.take (1+v.t.length+1) (List.drop 0 (List.take (1+v.t.length) (List.take 1 (List.map R0 [(3:Int)])++v.t)++List.take 1 (List.drop 0 (List.map R0 [(0:Int)]))))=m6 v))) ⟨λh0=>?_,λh0=>⟨λh1=>?_,λh1=>?_⟩⟩
 ·have h0:v.k=0:=beq_iff_eq.1 h0;unfold m6;rw[if_pos h0];exact⟨u8 _ M3 M3,Z7⟩
 ·have h1:v.k=1:=beq_iff_eq.1 h1;have hn:=(hk.resolve_left Z9).resolve_right Z9
  unfold m6;rw[if_neg Z9,if_pos h1]
  exact⟨u8 _ M3 M3,Z4 Z9,((v.n+1000000000).toNat,true),⟨⟨X5,Z7⟩,Z6⟩,⟨U9 _,by show U8 1 4 1;unfold U8;omega⟩,U9 _,rfl⟩
 ·have h0:¬v.k=0:=λe=>by rw[e] at h0;cases h0
  have h1:¬v.k=1:=λe=>by rw[e] at h1;cases h1
  have d:List.take (1+v.t.length) (List.take 1 (List.map R0 [(3:Int)])++v.t)=3::v.t:=List.take_of_length_le (by show(3::v.t).length<=_;simp only[List.length_cons];omega)
  unfold m6;rw[if_neg h0,if_neg h1,d];refine⟨u8 _ M3 M3,⟨U9 _,Q9⟩,u8 _ M3 M3,⟨U9 _,by show 1+v.t.length<=(3::v.t).length;simp only[List.length_cons];omega,Q9⟩,by show 0+(1+v.t.length+1)<=(3::v.t++[0]).length;simp only[F7,List.length_cons,List.length_nil];omega,?_⟩
  exact List.take_of_length_le (by show(3::v.t++[0]).length<=_;simp only[F7,List.length_cons,List.length_nil];omega)
def b1x:Con:=.rel ⟨List Val,λL=>[b4E L],λL=>.bys (Q6 L L.length),λL=>L.length<=100/\∀i,i<L.length->jA (L.getD i dz)⟩
def b1q(L:List Val):Nat->Ann
 |0=>.one (Up L.length) (λx=>⟨[(0,b4E L),(3,.osl 0 0 (Q6 L x.1).length),(4,Ji x.1)],[some (.bys 5 (Q6 L x.1))]⟩) (λx=>L.length-x.1) [.at_ 3] [.at_ 3] (λ_=>Z3)
 |_=>.none
theorem gP{v:Val}(h:jA v):(m6 v).length<=102:=by
 unfold m6;split
 ·exact yG rfl
 ·split
  ·exact yG rfl
  ·have:=h.1;simp only[List.length_cons,F7,List.length_nil];omega
theorem eL{L:List Val}(h:∀i,i<L.length->jA (L.getD i dz)):∀i,i<=L.length->(Q6 L i).length<=102*i
 |0,_=>U9 _
 |i+1,hi=>by
  have d:=eL h i Z9
  have e:=gP (h i Z9)
  simp only[Q6,F7];omega
theorem a7k:GK 278 b1x:=gk func278<|by
 rintro(L:List Val) ⟨hL,hk⟩;refine U5 (gC b17 gN) func278 (b1q L) (α:=(∃(x:Up L.length),((Z0 P9 L L)/\(0=0/\0=(Q6 L x.1).length)/\0=(x.1:Int)/\True)/\List.map R0 []=Q6 L x.1/\True)/\∀(x:Up L.length),let z:=(Q6 L x.1);let q:=(x.1:Int);let r:=(L.getD q.toNat dz);let p:=z.length;bd (q<(L.length:Int)) (W9 q L.length/\∃(X:Val),(((r.k=X.k/\r.n=X.n/\r.t=X.t/\True)/\True)/\jA X)/\(Le p p/\U8 p (m6 X).length 1)/\Ri (q+1)/\∃(y:Up L.length),(((Z0 P9 L L)/\(0=0/\p+(m6 X).length=(Q6 L y.1).length)/\q+1=(y.1:Int)/\True)/\List.take p z++m6 X=Q6 L y.1/\True)/\Lt (L.length-y.1) (L.length-x.1)) (Le (0+p) p/\List.take p (List.drop 0 z)=Q6 L L.length)) ⟨⟨⟨0,N7 _⟩,Z7⟩,λx=>⟨λhc=>?_,λhc=>?_⟩⟩
 ·have hlt:=Y2 hc;have h1:=eL hk x.1 Z9
  have h:=gP (hk x.1 hlt);exact⟨Y6 hlt,L.getD x.1 dz,⟨Z7,hk x.1 hlt⟩,⟨U9 _,Q9⟩,Z4 Z9,⟨x.1+1,hlt⟩,⟨⟨Z7,⟨rfl,by simp only[Q6,F7]⟩,X5,Z6⟩,by rw[j_l];rfl,Z6⟩,V5.ext_lt hlt⟩
 ·have hx:x.1=L.length:=by have:=x.2;have:=X9 hc;omega
  rw[hx];exact⟨J9,cI⟩
def a8k:Con:=.rel ⟨Int×Rw,λx=>[Ji x.1,.agg x.2.ts],λx=>.str (sV x.1 x.2),λx=>RwK x.2/\1<=x.1/\x.1<=3⟩
theorem a2X:GK 202 a8k:=gk func202<|by
 rintro⟨ta,r⟩ ⟨⟨d,h,j,f⟩,g,e⟩;dsimp only at d h j f g e;refine U5 (gC a7k (gC P5 gN)) func202 Z3 (α:=∃(x:(List Val)),let p:=x.length;(((4=p/\Z8 4 (tk 3 [Ji 1,Ji ta,T.str [],Ji 1,Ji r.id,T.str [],Ji r.n.k,Ji r.n.n,T.str r.n.t,Ji r.name.k,Ji r.name.n,T.str r.name.t]) (P9 x))/\True)/\p<=100/\∀(i:Nat),i<p->jA (List.getD x i dz))/\Q6 x (p)=sV ta r) ⟨[⟨1,ta,[]⟩,⟨1,r.id,[]⟩,r.n,r.name],⟨⟨⟨rfl,λi hi=>?_⟩,Z6⟩,by show 4<=100;omega,λi hi=>?_⟩,rfl⟩
 ·match i,hi with
  |0,_=>rfl
  |1,_=>rfl
  |2,_=>rfl
  |3,_=>rfl
 ·match i,hi with
  |0,_=>exact⟨a9Q,.inr (.inl ⟨rfl,by show-1000000000<=ta;omega,by show ta<=_;omega⟩)⟩
  |1,_=>exact⟨a9Q,.inr (.inl ⟨rfl,by show-1000000000<=r.id;omega,by show r.id<=_;omega⟩)⟩
  |2,_=>exact d
  |3,_=>exact h
theorem EI.u{e:Eng}(h:EI e){k:Nat}(d:k<e.X.length):UI e k (e.X.getD k dz).id (e.X.getD k dz).Z:=c4M h.ok h.sm h.up (h.h.at_ d) d rfl
def KpS(e:Eng)(g s:Int)(i:Nat):Type:={x:Nat×Int//kepA e.s.L g s x.1 x.2=kepA e.s.L g s 61 (e.X.getD i dz).Z/\x.2.toNat<x.1/\x.2<=(e.s.L.length:Int)}
def b3A:Con:=.rel ⟨Eng×Int×Int×Int,λx=>[.agg x.1.ts,Ji x.2.1,Ji x.2.2.1,Ji x.2.2.2],λx=>.bool (lM x.1 x.2.1 x.2.2.1 x.2.2.2),λx=>wQ x.1⟩
def b4n(e:Eng)(tx g s:Int):Nat->Ann
 |0=>.one (V5 e.X.length (oO e tx g s)) (λx=>⟨[(1,Ji tx),(2,Ji g),(3,Ji s),(4,.ref 0 0 0),(9,Ji x.1)],[l7 e]⟩) (λx=>e.X.length-x.1) [.box 0] [.box 0] (λx=>fun
  |1=>.one (KpS e g s x.1) (λy=>⟨[(1,Ji tx),(2,Ji g),(3,Ji s),(4,.ref 0 0 0),(9,Ji x.1),(10,Ji y.1.2)],[l7 e]⟩) (λy=>y.1.1) [.box 0] [.box 0] (λ_=>Z3)
  |_=>.none)
 |_=>.none
theorem c4z{L:List Rec}{g s:Int}{f:Nat}{a:Int}(h:¬a<=0):kepA L g s (f+1) a=if(Y8 L a).k=3 then kepA L g s f (Y8 L a).n else if(Y8 L a).k=2/\(Y8 L a).g=g/\(Y8 L a).s=s then true else kepA L g s f (Y8 L a).p:=by
 conv=>lhs;unfold kepA
 rw[if_neg h]
theorem c4t{L:List Rec}{g s:Int}{f:Nat}{a:Int}(h:a<=0):kepA L g s f a=false:=by
 cases f with
 |zero=>rfl
 |succ f=>unfold kepA;rw[if_pos h]
theorem a9d:GK 168 b3A:=gk func168<|by
 rintro⟨e,tx,g,s⟩ ⟨hL,l,hb⟩;dsimp only at hL l hb;have o:=hL.1;refine U5 gN func168 (b4n e tx g s) (α:=let v:=(0=0/\0=0);let u:=(oo (K9 e e));(∃(x:V5 e.X.length (oO e tx g s)),(tx=tx/\g=g/\s=s/\v/\0=(x.1:Int)/\True)/\u/\True)/\∀(x:V5 e.X.length (oO e tx g s)),let z:=(x.1:Int);let w:=(e.X.getD z.toNat dz);let q:=(Ri (z+1)/\∃(y:V5 e.X.length (oO e tx g s)),((tx=tx/\g=g/\s=s/\v/\z+1=(y.1:Int)/\True)/\u/\True)/\Lt (e.X.length-y.1) (e.X.length-x.1));bd (z<(e.X.length:Int)) (W9 z e.X.length/\br (w.id==tx) q (W9 z e.X.length/\(∃(X:KpS e g s x.1),(tx=tx/\g=g/\s=s/\v/\z=z/\w.Z=X.val.2/\True)/\u/\True)/\∀(X:KpS e g s x.1),let j:=(X.val.2-1);let r:=(e.s.L.getD j.toNat dz);bd (X.val.2>0) (Ri j/\W9 j e.s.L.length/\br (r.k==3) (∃(y:KpS e g s x.1),((tx=tx/\g=g/\s=s/\v/\z=z/\r.n=y.1.2/\True)/\u/\True)/\Lt y.1.1 X.val.1) (br (r.k==2&&r.g==g&&r.s==s) (true=lM e tx g s) (∃(y:KpS e g s x.1),((tx=tx/\g=g/\s=s/\v/\z=z/\r.p=y.1.2/\True)/\u/\True)/\Lt y.1.1 X.val.1))) q)) (false=lM e tx g s)) ⟨⟨F2,Z7⟩,λx=>⟨λhc=>?_,λhc=>?_⟩⟩
 ·have hlt:=Y2 hc;have hx:=hb x.1 hlt;rw[D8];refine⟨Y6 hlt,λhq=>⟨W2 hlt Z9,x.succ hlt (by unfold oO;rw[hq];rfl),⟨⟨rfl,rfl,rfl,⟨rfl,rfl⟩,I8,Z6⟩,⟨rfl,rfl,vQ _⟩,Z6⟩,V5.ext_lt hlt⟩,λhq=>⟨Y6 hlt,⟨⟨(61,(e.X.getD x.1 dz).Z),rfl,X5,hx⟩,Z7⟩,λy=>?_⟩⟩
  obtain⟨⟨f,a⟩,Y,F,ha⟩:=y;dsimp only at Y F ha ⊢;obtain⟨f,rfl⟩:∃q,f=q+1:=⟨f-1,Z9⟩
  refine⟨λhp=>?_,λhp=>?_⟩
  ·have hp:a>0:=G5 hp;obtain⟨p1,p2,p3,p4⟩:=hL.prev (show 1<=a by omega) ha
   rw[c4z Z9] at Y
   refine⟨Z4 Z9,⟨Z9,Z9⟩,λd=>?_,λd=>?_⟩
   ·have d:(Y8 e.s.L a).k=3:=beq_iff_eq.1 d;rw[if_pos d] at Y;exact⟨⟨(f,(Y8 e.s.L a).n),Y,X5,X5⟩,Z7,J7⟩
   ·have d:¬ (Y8 e.s.L a).k=3:=λr=>by
     have d:((Y8 e.s.L a).k==3)=false:=d;rw[r] at d;cases d
    rw[if_neg d] at Y;refine⟨λh=>?_,λh=>?_⟩
    ·have h:((Y8 e.s.L a).k==2&&(Y8 e.s.L a).g==g&&(Y8 e.s.L a).s==s)=true:=h;simp only[J4,beq_iff_eq] at h;rw[if_pos ⟨h.1.1,h.1.2,h.2⟩] at Y;exact(R8.2 ⟨x.1,hlt,by unfold oO;rw[hq,←Y];rfl⟩).symm
    ·have h:¬ ((Y8 e.s.L a).k=2/\(Y8 e.s.L a).g=g/\(Y8 e.s.L a).s=s):=λ⟨a1,a2,a3⟩=>by
      have h:((Y8 e.s.L a).k==2&&(Y8 e.s.L a).g==g&&(Y8 e.s.L a).s==s)=false:=h;rw[a1,a2,a3] at h;simp at h
     rw[if_neg h] at Y;exact⟨⟨(f,(Y8 e.s.L a).p),Y,X5,X5⟩,Z7,J7⟩
  ·have hp:a<=0:=by have:=r8 hp;omega
   rw[c4t hp] at Y;exact⟨W2 hlt Z9,x.succ hlt (by unfold oO;rw[←Y,Bool.and_false]),⟨⟨rfl,rfl,rfl,⟨rfl,rfl⟩,I8,Z6⟩,⟨rfl,rfl,vQ _⟩,Z6⟩,V5.ext_lt hlt⟩
 ·have i:=X9 hc;exact(P4.2 λj J=>x.2.2 j (xX J i)).symm
def Plc.ts(A:Plc):List T:=[Ji A.a,Ji A.b,Ji A.c,Ji A.d]
def c3k(A:Plc):Option Ob:=some (.arr true 1000000 4 1 λ_=>A.ts)
def c9Y(p:Pg):Option Ob:=some (.arr true 1000000 2 1 λ_=>p.ts)
def fpg(e:Eng)(tx ta id:Int)(n:Nat):Pg:=((Y3 (T1 e tx ta id n).1 n).1.fr.getD (Y3 (T1 e tx ta id n).1 n).2.1 dz).pg
theorem b0o{e:Eng}{s:Sto}(h:s.L=e.s.L)(tx g sl:Int):lM (R6 e s) tx g sl=lM e tx g sl:=by
 unfold lM oO R6;dsimp only;rw[h]
theorem b7R(e:Eng)(tx ta id:Int)(n:Nat)(p:Pg)(A:Plc)(i:Nat):vH e tx ta id n p A (i+1)=if p.sl.getD i []=[] then(if(vH e tx ta id n p A i).c<0/\lM e tx n i=false then⟨(vH e tx ta id n p A i).a,(vH e tx ta id n p A i).b,n,i⟩ else vH e tx ta id n p A i)
  else if a1L (p.sl.getD i []) ta id=true/\(vH e tx ta id n p A i).a<0 then⟨n,i,(vH e tx ta id n p A i).c,(vH e tx ta id n p A i).d⟩ else vH e tx ta id n p A i:=rfl
theorem c2Q(e:Eng)(k:Nat)(r:Rec):(E7 e k r).s.L.getD (((e.s.L.length+1:Nat):Int)-1).toNat dz=P8 e.s (B7 e k r):=by
 have d:(((e.s.L.length+1:Nat):Int)-1).toNat=e.s.L.length:=Z9
 rw[d,P3]
 show((e.s.L++[P8 e.s (B7 e k r)])[e.s.L.length]?).getD dz=_;rw[List.getElem?_concat_length]
 rfl
structure XI(e:Eng)(k:Nat)(tx:Int):Prop where
 u:UI e k tx (e.X.getD k dz).Z
 nd:wQ e
theorem b0x{e:Eng}{tx:Int}{k:Nat}(h:R2 e=true)(M:M6 e)(u:e.up=true)(A:T7 e.X tx=k)(f:k<e.X.length)(hi:(e.X.getD k dz).id=tx):XI e k tx:=
 ⟨c4M h M u A f hi,(c49 (u3 h).1 M.1).logP,(xF (u3 h).2.1).1,λi d=>(a9q h u d).2⟩
theorem c2z{l:Lks}{x:Lck}(h1:l.H.length<=60)(h:l.W.length<=100):(T5 l x).1.H.length<=60/\(T5 l x).1.W.length<=100:=by
 have hc:(J0 l x.tx).H.length<=60/\(J0 l x.tx).W.length<=100:=⟨h1,Nat.le_trans (o9 (cF x.tx) l.W l.W.length) h⟩;unfold T5;split
 ·exact hc
 ·split
  ·split
   ·exact hc
   ·refine⟨?_,hc.2⟩
    rw[F7,List.length_singleton];omega
  ·split
   ·exact hc
   ·split
    ·exact hc
    ·refine⟨h1,?_⟩
     rw[F7];omega
theorem c9s{e:Eng}{k:Nat}{tx:Int}(h:XI e k tx){l:Lks}(L:l.H.length<=60/\l.W.length<=100):XI {e with lk:=l} k tx:=
 ⟨⟨⟨h.u.u.si,h.u.u.at_,h.u.u.lt,h.u.u.id,h.u.u.txr,h.u.u.la,h.u.u.ep,h.u.u.t10,L,h.u.u.rm⟩,h.u.ar,h.u.fu⟩,h.nd⟩
theorem a7q{e:Eng}{k:Nat}{tx:Int}(h:XI e k tx){s:Sto}(g:SI s)(l:s.L=e.s.L)(d:s.ep=e.s.ep):XI (R6 e s) k tx:=by
 have u:=h.u.u;refine⟨⟨⟨g,u.at_,u.lt,u.id,u.txr,?_,?_,u.t10,u.lk,?_⟩,?_,?_⟩,?_,h.nd.2.1,?_⟩
 ·show 1<=(e.X.getD k dz).Z/\(e.X.getD k dz).Z<=s.L.length;rw[l];exact u.la
 ·show 1<=s.ep/\s.ep<=60;rw[d];exact u.ep
 ·show s.L.length+1<=60;rw[l];exact u.rm
 ·show 0<=(e.X.getD k dz).Z/\(e.X.getD k dz).Z<=(s.L.length:Int);rw[l];exact h.u.ar
 ·show ∃f,(e.X.getD k dz).Z.toNat<f/\s.L.length+1+und s.L f (e.X.getD k dz).Z<=60;rw[l];exact h.u.fu
 ·show xG s.L;rw[l];exact h.nd.1
 ·show ∀i,i<e.X.length->(e.X.getD i dz).Z<=(s.L.length:Int);rw[l];exact h.nd.2.2
theorem sI{e:Eng}{k:Nat}{tx:Int}(h:XI e k tx)(ta row mo:Int):XI (pD e k ta row mo) k tx:=c9s h (c2z h.u.u.lk.1 h.u.u.lk.2)
theorem a0n{e:Eng}{k:Nat}{ta row mo:Int}(h:(R3 e k ta row mo).2=0):R3 e k ta row mo=(pD e k ta row mo,0):=by
 unfold R3 at h ⊢;split at h
 ·split at h<;>cases h
 ·rename_i q;rw[if_neg q];dsimp only at h;rw[h]
def c6P:Con:=.rel ⟨Eng×Nat×Int×Int×Int×Int,λx=>[.agg x.1.ts,Ji x.2.1,Ji x.2.2.1,Ji x.2.2.2.1,Ji x.2.2.2.2.1],λx=>.tup [.agg (R3 x.1 x.2.1 x.2.2.1 x.2.2.2.1 x.2.2.2.2.1).1.ts,Ji (R3 x.1 x.2.1 x.2.2.1 x.2.2.2.1 x.2.2.2.2.1).2],λx=>XI x.1 x.2.1 x.2.2.2.2.2⟩
theorem c1S:GK 78 c6P:=gk func78<|by
 rintro⟨e,k,ta,row,mo,tx⟩ h;dsimp only at h;have ht:=sI h ta row mo;refine U5 (gC a6Z (gC c4e gN)) func78 Z3 (α:=let p:=(R3 e k ta row mo);W9 (k:Int) e.X.length/\∃(x:(Lks×Lck)),let q:=(T5 x.1 x.2);((((Z0 Z2 e.lk.H x.1.H)/\(Z0 Y7 e.lk.W x.1.W)/\True)/\(e.X.getD (k:Int).toNat dz).id=x.2.tx/\ta=x.2.ta/\row=x.2.row/\mo=x.2.mo/\True)/\x.1.H.length<=60/\x.1.W.length<=100)/\br (q.2==14) (∃(X:(Eng×Nat×Int)),let r:=(K9 (I5 X.1 X.2.1).1.1 p.1);(((K9 {e with lk:=q.1} X.1)/\(k:Int)=(X.2.1:Int)/\True)/\UI X.1 X.2.1 X.2.2 (X.1.X.getD X.2.1 dz).Z)/\br (!(I5 X.1 X.2.1).2==0) (r/\15=p.2/\True) (r/\14=p.2/\True)) ((K9 {e with lk:=q.1} p.1)/\q.2=p.2/\True)) ⟨Y6 h.u.u.lt,(e.lk,qD e k ta row mo),⟨Z7,h.u.u.lk.1,h.u.u.lk.2⟩,λhq=>?_,λhq=>?_⟩
 ·have hq:(T5 e.lk (qD e k ta row mo)).2=14:=beq_iff_eq.1 hq;refine⟨(pD e k ta row mo,k,tx),⟨Z7,ht.u⟩,λhn=>?_,λhn=>?_⟩
  ·have hn:(!((I5 (pD e k ta row mo) k).2==0))=true:=hn;have e1:R3 e k ta row mo=((I5 (pD e k ta row mo) k).1.1,15):=by unfold R3;rw[if_pos hq,if_neg (by simpa using hn)]
   rw[e1];exact⟨vQ (I5 (pD e k ta row mo) k).1.1,Z7⟩
  ·have hn:(!((I5 (pD e k ta row mo) k).2==0))=false:=hn;have e1:R3 e k ta row mo=((I5 (pD e k ta row mo) k).1.1,14):=by unfold R3;rw[if_pos hq,if_pos (by simpa using hn)]
   rw[e1];exact⟨vQ (I5 (pD e k ta row mo) k).1.1,Z7⟩
 ·have hq:¬ (T5 e.lk (qD e k ta row mo)).2=14:=λe1=>by
   have hq:((T5 e.lk (qD e k ta row mo)).2==14)=false:=hq;rw[e1] at hq;cases hq
  have e1:R3 e k ta row mo=(pD e k ta row mo,(T5 e.lk (qD e k ta row mo)).2):=by unfold R3;rw[if_neg hq]
  rw[e1];exact Z7
theorem cK{s:Sto}{no:Nat}:(Y3 s no).1.ep=s.ep:=by
 by_cases h:0<=frAt s.fr no
 ·rw[(yJ 0 h).1]
 ·by_cases h3:s.fr.length=3
  ·cases ho:(X3 s s.J.toNat).2 with
   |true=>rw[(m3 0 h h3 ho).1];exact(s6 s s.J.toNat).2.2.2.1
   |false=>rw[(l9 0 h h3 ho).1];exact(s6 s s.J.toNat).2.2.2.1
  ·rw[(yB 0 h h3).1];rfl
structure FX(e:Eng)(f:Sto×Plc×Bool):Prop where
 lv:f.2.2=true->SI f.1/\f.1.L=e.s.L/\f.1.ep=e.s.ep
 dn:f.2.2=false->F8 f.1.d/\f.1.d.E.length=69
 pl:c6Y f.2.1
theorem b4e{e:Eng}(h:SI e.s)(tx ta id:Int):∀n,n<=8->FX e (T1 e tx ta id n)
 |0,_=>⟨λ_=>⟨h,Z7⟩,(λf=>by cases f),⟨.inl rfl,.inl rfl⟩⟩
 |n+1,hn=>by
  have i:=b4e h tx ta id n Z9
  unfold T1;cases l:(T1 e tx ta id n).2.2 with
  |false=>rw[if_neg W7];exact i
  |true=>
   rw[if_pos rfl];obtain⟨I,g,d⟩:=i.lv l;cases f:(Y3 (T1 e tx ta id n).1 n).2.2 with
   |false=>
    rw[if_neg W7]
    exact⟨(λC=>by cases C),λ_=>rM I f,i.pl⟩
   |true=>
    rw[if_pos rfl];obtain⟨j1,j2⟩:=rQ I Z9 f
    exact⟨λ_=>⟨j1,j2.trans g,cK.trans d⟩,(λC=>by cases C),b5u Z9 i.pl 4 (U9 _)⟩
theorem a1b{e:Eng}{tx ta id:Int}{n:Nat}(h:(T1 e tx ta id n).2.2=false):∀m,T1 e tx ta id (n+m)=T1 e tx ta id n
 |0=>rfl
 |m+1=>by
  have i:=a1b h m;show(if(T1 e tx ta id (n+m)).2.2=true then _ else T1 e tx ta id (n+m))=_
  rw[i,if_neg cY]
def rV(e:Eng)(tx ta id:Int):{y:Eng×Plc×Bool//y=(R6 e (T1 e tx ta id 8).1,(T1 e tx ta id 8).2.1,(T1 e tx ta id 8).2.2)}:=Classical.choice ⟨⟨_,rfl⟩⟩
def c7h:Con:=.rel ⟨Eng×Int×Int×Int,λx=>[.agg x.1.ts,Ji x.2.1,Ji x.2.2.1,Ji x.2.2.2],λx=>.tup [.agg (rV x.1 x.2.1 x.2.2.1 x.2.2.2).1.1.ts,.agg (rV x.1 x.2.1 x.2.2.1 x.2.2.2).1.2.1.ts,.bool (rV x.1 x.2.1 x.2.2.1 x.2.2.2).1.2.2],λx=>SI x.1.s/\wQ x.1⟩
def FdI(B:Nat->Bool):Type:={n:Nat//n<=8/\B n=true}
def c7c(e:Eng)(tx ta id:Int)(F:Nat->Eng)(A:Nat->Plc)(B:Nat->Bool)(P:Nat->Pg)(I:Nat->Nat->Plc):Nat->Ann
 |0=>.one (FdI B) (λx=>⟨[(1,Ji tx),(2,Ji ta),(3,Ji id),(4,.ref 0 0 0),(8,.ref 1 0 0),(9,.ref 2 0 0),(10,.bool false),(11,.ref 3 0 0),(12,Ji x.1)],[l7 (F x.1),l7 uT,c3k ⟨0,0,0,0⟩,c3k (A x.1)]⟩) (λx=>8-x.1) [.box 0,.box 1,.box 2,.box 3] [.box 0,.box 1,.box 2,.box 3] (λx=>fun
  |1=>.one (Up 4) (λy=>⟨[(1,Ji tx),(2,Ji ta),(3,Ji id),(4,.ref 0 0 0),(8,.ref 1 0 0),(9,.ref 2 0 0),(10,.bool false),(11,.ref 3 0 0),(12,Ji x.1),(16,.ref 4 0 0),(17,Ji y.1)],[l7 (F (x.1+1)),l7 uT,c3k ⟨0,0,0,0⟩,c3k (I x.1 y.1),c9Y (P x.1)]⟩) (λy=>4-y.1) [.box 0,.box 1,.box 2,.box 3,.box 5] [.box 0,.box 1,.box 2,.box 3,.box 4] (λ_=>Z3)
  |_=>.none)
 |_=>.none
theorem c6V(e:Eng)(tx ta id:Int)(F:Nat->Eng)(A:Nat->Plc)(B:Nat->Bool)(P:Nat->Pg)(I:Nat->Nat->Plc)(h:
let n:=(oo (K9 uT uT));let r:=(0=0/\0=0);let q:=(oo ((0:Int)=0/\(0:Int)=0/\(0:Int)=0/\(0:Int)=0/\True));  (∃(x:FdI B),let pd:=(A x.1);(tx=tx/\ta=ta/\id=id/\r/\r/\r/\false=false/\r/\0=(x.1:Int)/\True)/\(oo (K9 e (F x.1)))/\(oo (0=0/\0=0/\false=false/\0=0/\(0:Int)=0/\0=0/\(0:Int)=0/\0=0/\(0:Int)=0/\false=false/\0=0/\0=0/\0=0/\(0:Int)=0/\True))/\q/\(oo ((-1:Int)=pd.a/\(-1:Int)=pd.b/\(-1:Int)=pd.c/\(-1:Int)=pd.d/\True))/\True)/\∀(x:FdI B),let u:=x.1;let m:=(F (u+1));let pc:=(oo (K9 m m));let k:=((A u).a=(A 8).a/\(A u).b=(A 8).b/\(A u).c=(A 8).c/\(A u).d=(A 8).d/\True);let w:=(oo ((P u).Q=(P u).Q/\(Z0 Z5 (P u).sl (P u).sl)/\True));bd ((u:Int)<8) (∃(f:(Sto×Nat)),let j:=(Y3 f.1 f.2);let pb:=(j.1.fr.getD (↑j.2.1:Int).toNat dz);(((yR (F u).s f.1)/\(u:Int)=(f.2:Int)/\True)/\iS f.1 f.2)/\br (! j.2.2) ((K9 {(F u) with s:=j.1} (F 8))/\k/\false=B 8/\True) (W9 (↑j.2.1:Int) j.1.fr.length/\(∃(X:Up 4),let i:=(I x.1 X.val);(tx=tx/\ta=ta/\id=id/\r/\r/\r/\false=false/\r/\(u:Int)=(u:Int)/\r/\0=(X.val:Int)/\True)/\(oo (K9 {(F u) with s:=j.1} m))/\n/\q/\(oo ((A u).a=i.a/\(A u).b=i.b/\(A u).c=i.c/\(A u).d=i.d/\True))/\(oo (pb.pg.Q=(P u).Q/\(Z0 Z5 pb.pg.sl (P u).sl)/\True))/\True)/\∀(X:Up 4),let v:=(X.val:Int);let z:=(I x.1 X.val);let p:=(Ri (v+1)/\∃(y:Up 4),let l:=(I x.1 y.1);((tx=tx/\ta=ta/\id=id/\r/\r/\r/\false=false/\r/\(u:Int)=(u:Int)/\r/\v+1=(y.1:Int)/\True)/\pc/\n/\q/\(oo (z.a=l.a/\z.b=l.b/\z.c=l.c/\z.d=l.d/\True))/\w/\True)/\Lt (4-y.1) (4-X.val));bd (v<4) (W9 v (P u).sl.length/\br ((P u).sl.getD v.toNat []==[]) (W9 (2:Int) 4/\∃(g:(Eng×Int×Int×Int)),(decide (z.c<0)=true->((K9 m g.1)/\tx=g.2.1/\(u:Int)=g.2.2.1/\v=g.2.2.2/\True)/\wQ g.1)/\br (decide (z.c<0)&& !lM g.1 g.2.1 g.2.2.1 g.2.2.2) (W9 (2:Int) 4/\W9 (3:Int) 4/\Ri (v+1)/\∃(y:Up 4),let t:=(I x.1 y.1);((tx=tx/\ta=ta/\id=id/\r/\r/\r/\false=false/\r/\(u:Int)=(u:Int)/\r/\v+1=(y.1:Int)/\True)/\pc/\n/\q/\(oo (z.a=t.a/\z.b=t.b/\(u:Int)=t.c/\v=t.d/\True))/\w/\True)/\Lt (4-y.1) (4-X.val)) p) (W9 v (P u).sl.length/\∃(g:(Bz)),(((P u).sl.getD v.toNat []=g/\True)/\lI g)/\(((sR g).2.2&&(sR g).1==ta&&(sR g).2.1.id==id)=true->W9 (0:Int) 4)/\br ((sR g).2.2&&(sR g).1==ta&&(sR g).2.1.id==id&&decide (z.a<0)) (W9 (0:Int) 4/\W9 (1:Int) 4/\Ri (v+1)/\∃(y:Up 4),let pa:=(I x.1 y.1);((tx=tx/\ta=ta/\id=id/\r/\r/\r/\false=false/\r/\(u:Int)=(u:Int)/\r/\v+1=(y.1:Int)/\True)/\pc/\n/\q/\(oo ((u:Int)=pa.a/\v=pa.b/\z.c=pa.c/\z.d=pa.d/\True))/\w/\True)/\Lt (4-y.1) (4-X.val)) p)) (Ri ((u:Int)+1)/\∃(y:FdI B),let pe:=(A y.1);((tx=tx/\ta=ta/\id=id/\r/\r/\r/\false=false/\r/\(u:Int)+1=(y.1:Int)/\True)/\(oo (K9 m (F y.1)))/\n/\q/\(oo (z.a=pe.a/\z.b=pe.b/\z.c=pe.c/\z.d=pe.d/\True))/\True)/\Lt (8-y.1) (8-u)))) ((K9 (F u) (F 8))/\k/\true=B 8/\True)):
  V4 prog 79 [.agg e.ts,Ji tx,Ji ta,Ji id] (.tup [.agg (F 8).ts,.agg (A 8).ts,.bool (B 8)]):=
 U5 (gC rP (gC a9d (gC a6W gN))) func79 (c7c e tx ta id F A B P I) h
theorem c5a{e:Eng}{tx ta id:Int}{n:Nat}(h:(T1 e tx ta id n).2.2=true)(f:(Y3 (T1 e tx ta id n).1 n).2.2=true):T1 e tx ta id (n+1)=((Y3 (T1 e tx ta id n).1 n).1,vH e tx ta id n (fpg e tx ta id n) (T1 e tx ta id n).2.1 4,true):=by
 conv=>lhs;unfold T1
 rw[if_pos h,if_pos f];rfl
theorem c4C{e:Eng}{tx ta id:Int}{n:Nat}(h:(T1 e tx ta id n).2.2=true)(f:(Y3 (T1 e tx ta id n).1 n).2.2=false):T1 e tx ta id (n+1)=((Y3 (T1 e tx ta id n).1 n).1,(T1 e tx ta id n).2.1,false):=by
 conv=>lhs;unfold T1
 rw[if_pos h,if_neg (by rw[f];simp)]
theorem c2m:GK 79 c7h:=gk func79<|by
 rintro⟨e,tx,ta,id⟩ ⟨h,N⟩;dsimp only at h N;show V4 _ _ _ (.tup [.agg (rV e tx ta id).1.1.ts,.agg (rV e tx ta id).1.2.1.ts,.bool (rV e tx ta id).1.2.2]);rw[(rV e tx ta id).2];refine c6V e tx ta id (λn=>R6 e (T1 e tx ta id n).1) (λn=>(T1 e tx ta id n).2.1) (λn=>(T1 e tx ta id n).2.2) (fpg e tx ta id) (λn i=>vH e tx ta id n (fpg e tx ta id n) (T1 e tx ta id n).2.1 i) ⟨⟨⟨0,Z7⟩,Z7⟩,λx=>?_⟩
 obtain⟨n,t,hv⟩:=x;dsimp only at t hv ⊢;refine⟨λhc=>?_,λhc=>?_⟩
 ·have hlt:n<8:=by have:=G5 hc;omega
  obtain⟨o,v,C⟩:=(b4e h tx ta id n t).lv hv;refine⟨((T1 e tx ta id n).1,n),⟨Z7,o.iv,hlt⟩,λu=>?_,λu=>?_⟩
  ·have u:(Y3 (T1 e tx ta id n).1 n).2.2=false:=by
    have u:(!(Y3 (T1 e tx ta id n).1 n).2.2)=true:=u
    simpa using u
   have f:=c4C hv u;have r:=a1b (n:=n+1) (by rw[f]) (8- (n+1))
   rw[show n+1+(8- (n+1))=8 by omega] at r
   rw[r,f];exact Z7
  ·have u:(Y3 (T1 e tx ta id n).1 n).2.2=true:=by
    have u:(!(Y3 (T1 e tx ta id n).1 n).2.2)=false:=u
    simpa using u
   have f:=c5a hv u;obtain⟨F,_,_,q,ps⟩:=xH o.iv hlt u;have d:(Y3 (T1 e tx ta id n).1 n).1.L=e.s.L:=(rQ o hlt u).2.trans v;have l:wQ (R6 e (Y3 (T1 e tx ta id n).1 n).1):=by
    refine⟨?_,N.2.1,?_⟩
    ·show xG (Y3 (T1 e tx ta id n).1 n).1.L;rw[d];exact N.1
    ·show ∀i,i<e.X.length->(e.X.getD i dz).Z<=((Y3 (T1 e tx ta id n).1 n).1.L.length:Int);rw[d];exact N.2.2
   have hK:=λg sl=>b0o d tx g sl
   have q:(fpg e tx ta id n).sl.length=4:=q;have ps:∀i,i<4->((fpg e tx ta id n).sl.getD i []).length<=30:=λi hi=>ps i (by show i<(fpg e tx ta id n).sl.length;omega)
   have hp:((Y3 (T1 e tx ta id n).1 n).1.fr.getD (Y3 (T1 e tx ta id n).1 n).2.1 dz).pg=fpg e tx ta id n:=rfl;have z:=b7R e tx ta id n (fpg e tx ta id n) (T1 e tx ta id n).2.1;have j:vH e tx ta id n (fpg e tx ta id n) (T1 e tx ta id n).2.1 0=(T1 e tx ta id n).2.1:=rfl;rw[f];dsimp only;rw[D8,hp];generalize fpg e tx ta id n=p at*;generalize (T1 e tx ta id n).2.1=A at*;generalize vH e tx ta id n p A=I at*;refine⟨Y6 F,⟨⟨0,N7 _⟩,Z7,Z7,Z7,Z7,⟨rfl,rfl,lS,lS,lS,lS,Z6⟩,Z7⟩,λy=>?_⟩
   obtain⟨i,hi⟩:=y;dsimp only at hi ⊢;refine⟨λhc2=>?_,λhc2=>?_⟩
   ·have hit:i<4:=by have:=G5 hc2;omega
    have hIi:=z i;rw[D8];refine⟨Y6 Z9,λhz=>?_,λhz=>?_⟩
    ·have hz:p.sl.getD i []=[]:=by simpa using hz
     rw[if_pos hz] at hIi;refine⟨⟨Z9,Z9⟩,(R6 e (Y3 (T1 e tx ta id n).1 n).1,tx,n,i),λ_=>⟨Z7,l⟩,λhq=>?_,λhq=>?_⟩
     ·dsimp only at hq;rw[hK] at hq;simp only[J4,o7,vY] at hq;rw[if_pos hq] at hIi;exact⟨⟨Z9,Z9⟩,⟨Z9,Z9⟩,Z4 Z9,⟨i+1,hit⟩,⟨⟨rfl,rfl,rfl,Z7,Z7,Z7,rfl,Z7,rfl,Z7,X5,Z6⟩,Z7,Z7,Z7,⟨rfl,rfl,yL,yL,yL,yL,Z6⟩,Z7⟩,J7⟩
     ·dsimp only at hq;rw[hK] at hq;rw[if_neg (by rintro⟨a1,a2⟩;rw[mN a1,a2] at hq;cases hq)] at hIi
      exact⟨Z4 Z9,⟨i+1,hit⟩,⟨⟨rfl,rfl,rfl,Z7,Z7,Z7,rfl,Z7,rfl,Z7,X5,Z6⟩,Z7,Z7,Z7,⟨rfl,rfl,yL,yL,yL,yL,Z6⟩,Z7⟩,J7⟩
    ·have hz:¬p.sl.getD i []=[]:=by simpa using hz
     have B:=ps i hit;rw[if_neg hz] at hIi;refine⟨Y6 Z9,p.sl.getD i [],⟨Z7,by show _<=1000000000;omega⟩,λ_=>⟨Z9,Z9⟩,λhq=>?_,λhq=>?_⟩
     ·have hq:(a1L (p.sl.getD i []) ta id&&decide ((I i).a<0))=true:=hq;simp only[J4,o7] at hq;rw[if_pos hq] at hIi;exact⟨⟨Z9,Z9⟩,⟨Z9,Z9⟩,Z4 Z9,⟨i+1,hit⟩,⟨⟨rfl,rfl,rfl,Z7,Z7,Z7,rfl,Z7,rfl,Z7,X5,Z6⟩,Z7,Z7,Z7,⟨rfl,rfl,yL,yL,yL,yL,Z6⟩,Z7⟩,J7⟩
     ·have hq:(a1L (p.sl.getD i []) ta id&&decide ((I i).a<0))=false:=hq;rw[if_neg (by rintro⟨a1,a2⟩;rw[a1,mN a2] at hq;cases hq)] at hIi
      exact⟨Z4 Z9,⟨i+1,hit⟩,⟨⟨rfl,rfl,rfl,Z7,Z7,Z7,rfl,Z7,rfl,Z7,X5,Z6⟩,Z7,Z7,Z7,⟨rfl,rfl,yL,yL,yL,yL,Z6⟩,Z7⟩,J7⟩
   ·obtain rfl:i=4:=by have:=r8 hc2;omega
    refine⟨Z4 Z9,⟨n+1,hlt,(by show(T1 e tx ta id (n+1)).2.2=true;rw[f])⟩,?_,J7⟩
    dsimp only;rw[f];exact⟨⟨rfl,rfl,rfl,Z7,Z7,Z7,rfl,Z7,Z9,Z6⟩,Z7⟩
 ·obtain rfl:n=8:=by have:=r8 hc;omega
  exact⟨vQ _,Z7,hv.symm,Z6⟩
def hsB(g x:Lck):Bool:=(g.tx==x.tx)&&rX g x&&((g.mo==4)||(x.mo==1)||(g.mo==x.mo))
def hsI(L:List Lck)(x:Lck)(i:Nat):Bool:=hsB (L.getD i dz) x
def c7I:Con:=.rel ⟨Lck×Lck,λx=>[.agg x.1.ts,.bref x.2.ts],λx=>.bool (hsB x.1 x.2),λ_=>True⟩
theorem c7e(g x:Lck)(h:
  ∃(X:(Lck×Lck)),((g.tx==x.tx)=true->((g.tx=X.1.tx/\g.ta=X.1.ta/\g.row=X.1.row/\g.mo=X.1.mo/\True)/\(x.tx=X.2.tx/\x.ta=X.2.ta/\x.row=X.2.row/\x.mo=X.2.mo/\True)/\True)/\True)/\(g.tx==x.tx&&rX X.1 X.2&&(g.mo==4||x.mo==1||g.mo==x.mo))=hsB g x):
  V4 prog 340 [.agg g.ts,.bref x.ts] (.bool (hsB g x)):=
 U5 (gC pL gN) func340 Z3 h
theorem c3L:GK 340 c7I:=gk func340<|λx _=>c7e x.1 x.2 ⟨(x.1,x.2),λ_=>Z7,rfl⟩
def c2E(x:Lck):T:=.fn (.func 340) [.bref x.ts]
def b4B:Con:=.rel ⟨List Lck×Lck,λx=>[.sl 4 x.1.length (Z2 x.1),c2E x.2],λx=>Ji (S5 x.1.length (hsI x.1 x.2)),λx=>L8 x.1.length⟩
def b4H(L:List Lck)(a:Lck):Nat->Ann
 |0=>.one (V5 L.length (hsI L a)) (λx=>⟨[(0,.sl 4 L.length (Z2 L)),(1,c2E a),(7,Ji L.length),(8,Ji x.1)],[]⟩) (λx=>L.length-x.1) [] [] (λ_=>Z3)
 |_=>.none
theorem a7M:GK 316 b4B:=gk func316<|by
 rintro⟨L,a⟩ (hL:L.length<1000000000000);refine U5 (gC c3L gN) func316 (b4H L a) (α:=let r:=(L.length:Int);let p:=(T.bref [Ji a.tx,Ji a.ta,Ji a.row,Ji a.mo]);(∃(x:V5 L.length (hsI L a)),((Z0 Z2 L L)/\(Fn.func 340=Fn.func 340/\J6 (λ(x:Nat)=>none) p p/\True)/\r=r/\0=(x.1:Int)/\True)/\True)/\∀(x:V5 L.length (hsI L a)),let z:=(x.1:Int);let q:=(L.getD z.toNat dz);bd (z<r) (W9 z L.length/\∃(X:(Lck×Lck)),(((q.tx=X.1.tx/\q.ta=X.1.ta/\q.row=X.1.row/\q.mo=X.1.mo/\True)/\(a.tx=X.2.tx/\a.ta=X.2.ta/\a.row=X.2.row/\a.mo=X.2.mo/\True)/\True)/\True)/\br (hsB X.1 X.2) (z=S5 L.length (hsI L a)) (Ri (z+1)/\∃(y:V5 L.length (hsI L a)),(((Z0 Z2 L L)/\(Fn.func 340=Fn.func 340/\J6 (λ(x:Nat)=>none) p p/\True)/\r=r/\z+1=(y.1:Int)/\True)/\True)/\Lt (L.length-y.1) (L.length-x.1))) ((-1:Int)=S5 L.length (hsI L a))) ⟨⟨F2,⟨Z7,⟨rfl,U0 _,Z6⟩,Z7⟩,Z6⟩,λx=>⟨λC=>?_,λC=>?_⟩⟩
 ·have h:=Y2 C;refine⟨Y6 h,(L.getD x.1 dz,a),Z7,λhp=>(N8 h hp x.2.2).symm,λhp=>⟨W2 h Z9,x.succ h hp,⟨⟨Z7,⟨rfl,U0 _,Z6⟩,rfl,I8,Z6⟩,Z6⟩,V5.ext_lt h⟩⟩
 ·have e:=X9 C;exact(K1 λj J=>x.2.2 j (xX J e)).symm
def b4t:Con:=.rel ⟨List Lck×Lck,λx=>[.sl 4 x.1.length (Z2 x.1),c2E x.2],λx=>.bool (anyI x.1.length (hsI x.1 x.2)),λx=>L8 x.1.length⟩
theorem b2n(L:List Lck)(a:Lck)(h:
  ∃(x:(List Lck×Lck)),(((Z0 Z2 L x.1)/\(Fn.func 340=Fn.func 340/\(a.tx=x.2.tx/\a.ta=x.2.ta/\a.row=x.2.row/\a.mo=x.2.mo/\True)/\True)/\True)/\L8 x.1.length)/\decide (S5 x.1.length (hsI x.1 x.2)≥(0:Int))=anyI L.length (hsI L a)):
  V4 prog 232 [.sl 4 L.length (Z2 L),c2E a] (.bool (anyI L.length (hsI L a))):=
 U5 (gC a7M gN) func232 Z3 h
theorem a50:GK 232 b4t:=gk func232<|λx h=>b2n x.1 x.2 ⟨x,⟨Z7,h⟩,C7 _ _⟩
def c9j:Con:=.rel ⟨Lks×Lck,λx=>[.agg x.1.ts,.agg x.2.ts],λx=>.bool (anyI x.1.H.length (hsI x.1.H x.2)),λx=>L8 x.1.H.length⟩
theorem c88(l:Lks)(x:Lck)(h:
  ∃(X:(List Lck×Lck)),(((Z0 Z2 l.H X.1)/\(Fn.func 340=Fn.func 340/\(x.tx=X.2.tx/\x.ta=X.2.ta/\x.row=X.2.row/\x.mo=X.2.mo/\True)/\True)/\True)/\L8 X.1.length)/\anyI X.1.length (hsI X.1 X.2)=anyI l.H.length (hsI l.H x)):
  V4 prog 287 [.agg l.ts,.agg x.ts] (.bool (anyI l.H.length (hsI l.H x))):=
 U5 (gC a50 gN) func287 Z3 h
theorem c6D:GK 287 c9j:=gk func287<|λx h=>c88 x.1 x.2 ⟨(x.1.H,x.2),⟨Z7,h⟩,rfl⟩
def rR(L:List Int)(v:Int)(i:Nat):Bool:=v==L.getD i 0
def b3j:Con:=.rel ⟨List Int×Nat×Int,λx=>[.sl 1 x.2.1 (Y9 x.1),Ji x.2.2],λx=>Ji (S5 x.2.1 (rR x.1 x.2.2)),λx=>L8 x.2.1⟩
def b3Z(L:List Int)(n:Nat)(v:Int):Nat->Ann
 |0=>.one (V5 n (rR L v)) (λx=>⟨[(0,.sl 1 n (Y9 L)),(1,Ji v),(7,Ji n),(8,Ji x.1)],[]⟩) (λx=>n-x.1) [] [] (λ_=>Z3)
 |_=>.none
theorem a6h:GK 371 b3j:=gk func371<|by
 rintro⟨L,n,v⟩ (hL:n<1000000000000);refine U5 gN func371 (b3Z L n v) (α:=let q:=(n=n/\Z8 n (Y9 L) (Y9 L));(∃(x:V5 n (rR L v)),(q/\v=v/\(n:Int)=(n:Int)/\0=(x.1:Int)/\True)/\True)/\∀(x:V5 n (rR L v)),let p:=(x.1:Int);bd (p<(n:Int)) (W9 p n/\br (v==L.getD p.toNat (0:Int)) (p=S5 n (rR L v)) (Ri (p+1)/\∃(y:V5 n (rR L v)),((q/\v=v/\(n:Int)=(n:Int)/\p+1=(y.1:Int)/\True)/\True)/\Lt (n-y.1) (n-x.1))) ((-1:Int)=S5 n (rR L v))) ⟨⟨F2,Z7⟩,λx=>⟨λC=>?_,λC=>?_⟩⟩
 ·have h:=Y2 C;exact⟨Y6 h,λhp=>(N8 h hp x.2.2).symm,λhp=>⟨W2 h Z9,x.succ h hp,⟨⟨Z7,rfl,rfl,I8,Z6⟩,Z6⟩,V5.ext_lt h⟩⟩
 ·have e:=X9 C;exact(K1 λj J=>x.2.2 j (xX J e)).symm
def b4T:Con:=.rel ⟨List Int×Nat×Int,λx=>[.sl 1 x.2.1 (Y9 x.1),Ji x.2.2],λx=>.bool (anyI x.2.1 (rR x.1 x.2.2)),λx=>L8 x.2.1⟩
theorem b3D(L:List Int)(n:Nat)(v:Int)(h:
  ∃(x:(List Int×Nat×Int)),(((n=x.2.1/\Z8 n (Y9 L) (Y9 x.1))/\v=x.2.2/\True)/\L8 x.2.1)/\decide (S5 x.2.1 (rR x.1 x.2.2)≥(0:Int))=anyI n (rR L v)):
  V4 prog 345 [.sl 1 n (Y9 L),Ji v] (.bool (anyI n (rR L v))):=
 U5 (gC a6h gN) func345 Z3 h
theorem a7a:GK 345 b4T:=gk func345<|λx h=>b3D x.1 x.2.1 x.2.2 ⟨x,⟨Z7,h⟩,C7 _ _⟩
def isW(L:List Wt)(v:Wt)(i:Nat):Bool:=(v.tx==(L.getD i dz).tx)&&((v.fo==(L.getD i dz).fo)&&true)
def wtB(v:Wt):Option Ob:=some (.arr true 1000000 2 1 λ_=>v.ts)
def b8y:Con:=.rel ⟨List Wt×Nat×Wt,λx=>[.sl 2 x.2.1 (Y7 x.1),.agg x.2.2.ts],λx=>Ji (S5 x.2.1 (isW x.1 x.2.2)),λx=>L8 x.2.1⟩
def b5t(L:List Wt)(n:Nat)(v:Wt):Nat->Ann
 |0=>.one (V5 n (isW L v)) (λx=>⟨[(0,.sl 2 n (Y7 L)),(3,.ref 0 0 0),(7,Ji n),(8,Ji x.1)],[wtB v]⟩) (λx=>n-x.1) [.box 0] [.box 0] (λ_=>Z3)
 |_=>.none
theorem b3n:GK 343 b8y:=gk func343<|by
 rintro⟨L,n,v⟩ (hL:n<1000000000000);refine U5 gN func343 (b5t L n v) (α:=let r:=(n=n/\Z8 n (Y7 L) (Y7 L));let q:=(oo (v.tx=v.tx/\v.fo=v.fo/\True));(∃(x:V5 n (isW L v)),(r/\(0=0/\0=0)/\(n:Int)=(n:Int)/\0=(x.1:Int)/\True)/\q/\True)/\∀(x:V5 n (isW L v)),let p:=(x.1:Int);let z:=(L.getD p.toNat dz);bd (p<(n:Int)) (W9 p n/\br (v.tx==z.tx&&(v.fo==z.fo&&true)) (p=S5 n (isW L v)) (Ri (p+1)/\∃(y:V5 n (isW L v)),((r/\(0=0/\0=0)/\(n:Int)=(n:Int)/\p+1=(y.1:Int)/\True)/\q/\True)/\Lt (n-y.1) (n-x.1))) ((-1:Int)=S5 n (isW L v))) ⟨⟨F2,Z7⟩,λx=>⟨λC=>?_,λC=>?_⟩⟩
 ·have h:=Y2 C;exact⟨Y6 h,λhp=>(N8 h hp x.2.2).symm,λhp=>⟨W2 h Z9,x.succ h hp,⟨⟨Z7,Z7,rfl,I8,Z6⟩,Z7⟩,V5.ext_lt h⟩⟩
 ·have e:=X9 C;exact(K1 λj J=>x.2.2 j (xX J e)).symm
def b8M:Con:=.rel ⟨List Wt×Nat×Wt,λx=>[.sl 2 x.2.1 (Y7 x.1),.agg x.2.2.ts],λx=>.bool (anyI x.2.1 (isW x.1 x.2.2)),λx=>L8 x.2.1⟩
theorem b5a(L:List Wt)(n:Nat)(v:Wt)(h:
  ∃(x:(List Wt×Nat×Wt)),(((n=x.2.1/\Z8 n (Y7 L) (Y7 x.1))/\(v.tx=x.2.2.tx/\v.fo=x.2.2.fo/\True)/\True)/\L8 x.2.1)/\decide (S5 x.2.1 (isW x.1 x.2.2)≥(0:Int))=anyI n (isW L v)):
  V4 prog 289 [.sl 2 n (Y7 L),.agg v.ts] (.bool (anyI n (isW L v))):=
 U5 (gC b3n gN) func289 Z3 h
theorem b1X:GK 289 b8M:=gk func289<|λx h=>b5a x.1 x.2.1 x.2.2 ⟨x,⟨Z7,h⟩,C7 _ _⟩
def v9(x:Lck)(w:Wt):Bool:=w.tx !=x.tx
def aO(x:Lck):Option Ob:=some (.arr true 1000000 4 1 λ_=>x.ts)
def c0E:Con:=.rel ⟨Wt×Lck,λx=>[.agg x.1.ts,.bref x.2.ts],λx=>.bool (x.1.tx==x.2.tx),λ_=>True⟩
theorem c3v(w:Wt)(x:Lck)(h:
  (w.tx==x.tx)=(w.tx==x.tx)):
  V4 prog 286 [.agg w.ts,.bref x.ts] (.bool (w.tx==x.tx)):=
 U5 gN func286 Z3 h
theorem gI:GK 286 c0E:=gk func286<|λx _=>c3v x.1 x.2 rfl
def tkF(x:Lck):T:=.fn (.func 286) [.bref x.ts]
def d3W(L:List Wt)(x:Lck)(i:Nat):Bool:=(L.getD i dz).tx==x.tx
def b6W:Con:=.rel ⟨List Wt×Lck,λx=>[nF x.1,tkF x.2],λx=>Ji (S5 x.1.length (d3W x.1 x.2)),λx=>L8 x.1.length⟩
def b9l(L:List Wt)(tx:Lck):Nat->Ann
 |0=>.one (V5 L.length (d3W L tx)) (λx=>⟨[(0,nF L),(1,tkF tx),(7,Ji L.length),(8,Ji x.1)],[]⟩) (λx=>L.length-x.1) [] [] (λ_=>Z3)
 |_=>.none
theorem b4M:GK 317 b6W:=gk func317<|by
 rintro⟨L,tx⟩ (hL:L.length<1000000000000);refine U5 (gC gI gN) func317 (b9l L tx) (α:=let r:=(L.length:Int);let p:=(T.bref [Ji tx.tx,Ji tx.ta,Ji tx.row,Ji tx.mo]);(∃(x:V5 L.length (d3W L tx)),((Z0 Y7 L L)/\(Fn.func 286=Fn.func 286/\J6 (λ(x:Nat)=>none) p p/\True)/\r=r/\0=(x.1:Int)/\True)/\True)/\∀(x:V5 L.length (d3W L tx)),let q:=(x.1:Int);let z:=(L.getD q.toNat dz);bd (q<r) (W9 q L.length/\∃(X:(Wt×Lck)),(((z.tx=X.1.tx/\z.fo=X.1.fo/\True)/\(tx.tx=X.2.tx/\tx.ta=X.2.ta/\tx.row=X.2.row/\tx.mo=X.2.mo/\True)/\True)/\True)/\br (X.1.tx==X.2.tx) (q=S5 L.length (d3W L tx)) (Ri (q+1)/\∃(y:V5 L.length (d3W L tx)),(((Z0 Y7 L L)/\(Fn.func 286=Fn.func 286/\J6 (λ(x:Nat)=>none) p p/\True)/\r=r/\q+1=(y.1:Int)/\True)/\True)/\Lt (L.length-y.1) (L.length-x.1))) ((-1:Int)=S5 L.length (d3W L tx))) ⟨⟨F2,⟨Z7,⟨rfl,U0 _,Z6⟩,Z7⟩,Z6⟩,λx=>⟨λC=>?_,λC=>?_⟩⟩
 ·have h:=Y2 C;refine⟨Y6 h,(L.getD x.1 dz,tx),Z7,λhp=>(N8 h hp x.2.2).symm,λhp=>⟨W2 h Z9,x.succ h hp,⟨⟨Z7,⟨rfl,U0 _,Z6⟩,rfl,I8,Z6⟩,Z6⟩,V5.ext_lt h⟩⟩
 ·have e:=X9 C;exact(K1 λj J=>x.2.2 j (xX J e)).symm
def c86(L:List Wt)(tx:Lck):Option Ob:=some (.arr true 0 2 L.length (H6 (Y7 (D6 (v9 tx) L L.length)) (X7 (v9 tx) L L.length).length (L.length- (X7 (v9 tx) L L.length).length) zWt))
def b6w:Con:=.reff ⟨List Wt×Lck,λx=>[.osl 0 0 x.1.length,.fn (.func 286) [.ref 1 0 0]],λx=>[sT x.1,aO x.2],λx=>.osl 0 0 (X7 (v9 x.2) x.1 x.1.length).length,λx=>[sT (X7 (v9 x.2) x.1 x.1.length),aO x.2],λx=>x.1.length<=1048576⟩
def b5v(L:List Wt)(tx:Lck):Nat->Ann
 |0=>.one {j:Nat//j<=L.length} (λx=>⟨[(0,.osl 0 0 L.length),(1,.fn (.func 286) [.ref 1 0 0]),(5,Ji (X7 (v9 tx) L x.1).length),(6,Ji x.1)],[some (.arr true 0 2 L.length (Y7 (D6 (v9 tx) L x.1))),aO tx]⟩) (λx=>L.length-x.1) cG cG (λ_=>Z3)
 |_=>.none
theorem b79(L:List Wt)(tx:Lck)(h:
  ∃(x:(List Wt×Lck)),(Le (0+L.length) L.length/\((Z0 Y7 L x.1)/\(Fn.func 286=Fn.func 286/\(tx.tx=x.2.tx/\tx.ta=x.2.ta/\tx.row=x.2.row/\tx.mo=x.2.mo/\True)/\True)/\True)/\L8 x.1.length)/\br (S5 x.1.length (d3W x.1 x.2)==(-1:Int)) (((0=0/\L.length=(X7 (v9 tx) L L.length).length)/\True)/\(L.length=L.length/\Z8 L.length (Y7 L) λ(j:Nat)=>match(X7 (v9 tx) L L.length).length.ble j&&j.blt ((X7 (v9 tx) L L.length).length+(L.length- (X7 (v9 tx) L L.length).length)) with|true=>[Ji 0,Ji 0]|false=>[Ji ((D6 (v9 tx) L L.length).getD j dz).tx,Ji ((D6 (v9 tx) L L.length).getD j dz).fo])/\(oo (tx.tx=tx.tx/\tx.ta=tx.ta/\tx.row=tx.row/\tx.mo=tx.mo/\True))/\True) (Ri (S5 x.1.length (d3W x.1 x.2)+1)/\(∃(X:{j:Nat//j<=L.length}),((0=0/\L.length=L.length)/\(Fn.func 286=Fn.func 286/\(0=0/\0=0)/\True)/\S5 x.1.length (d3W x.1 x.2)=(↑(X7 (v9 tx) L X.val).length:Int)/\S5 x.1.length (d3W x.1 x.2)+1=(X.val:Int)/\True)/\(L.length=L.length/\Z8 L.length (Y7 L) (Y7 (D6 (v9 tx) L X.val)))/\(oo (tx.tx=tx.tx/\tx.ta=tx.ta/\tx.row=tx.row/\tx.mo=tx.mo/\True))/\True)/\∀(x:{j:Nat//j<=L.length}),bd ((x.1:Int)<(L.length:Int)) (W9 (x.1:Int) L.length/\Lt (0+(x.1:Int).toNat) L.length/\∃(X:(Wt×Lck)),(((((D6 (v9 tx) L x.1).getD (0+(x.1:Int).toNat) dz).tx=X.1.tx/\((D6 (v9 tx) L x.1).getD (0+(x.1:Int).toNat) dz).fo=X.1.fo/\True)/\(tx.tx=X.2.tx/\tx.ta=X.2.ta/\tx.row=X.2.row/\tx.mo=X.2.mo/\True)/\True)/\True)/\br (!X.1.tx==X.2.tx) (W9 (↑(X7 (v9 tx) L x.1).length:Int) L.length/\Lt (0+(↑(X7 (v9 tx) L x.1).length:Int).toNat) L.length/\Ri ((↑(X7 (v9 tx) L x.1).length:Int)+1)/\Ri ((x.1:Int)+1)/\∃(y:{j:Nat//j<=L.length}),(((0=0/\L.length=L.length)/\(Fn.func 286=Fn.func 286/\(0=0/\0=0)/\True)/\(↑(X7 (v9 tx) L x.1).length:Int)+1=(↑(X7 (v9 tx) L y.1).length:Int)/\(x.1:Int)+1=(y.1:Int)/\True)/\(L.length=L.length/\Z8 L.length (setRow (Y7 (D6 (v9 tx) L x.1)) (0+(↑(X7 (v9 tx) L x.1).length:Int).toNat) 0 [Ji ((D6 (v9 tx) L x.1).getD (0+(x.1:Int).toNat) dz).tx,Ji ((D6 (v9 tx) L x.1).getD (0+(x.1:Int).toNat) dz).fo]) (Y7 (D6 (v9 tx) L y.1)))/\(oo (tx.tx=tx.tx/\tx.ta=tx.ta/\tx.row=tx.row/\tx.mo=tx.mo/\True))/\True)/\Lt (L.length-y.1) (L.length-x.1)) (Ri ((x.1:Int)+1)/\∃(y:{j:Nat//j<=L.length}),(((0=0/\L.length=L.length)/\(Fn.func 286=Fn.func 286/\(0=0/\0=0)/\True)/\(↑(X7 (v9 tx) L x.1).length:Int)=(↑(X7 (v9 tx) L y.1).length:Int)/\(x.1:Int)+1=(y.1:Int)/\True)/\(L.length=L.length/\Z8 L.length (Y7 (D6 (v9 tx) L x.1)) (Y7 (D6 (v9 tx) L y.1)))/\(oo (tx.tx=tx.tx/\tx.ta=tx.ta/\tx.row=tx.row/\tx.mo=tx.mo/\True))/\True)/\Lt (L.length-y.1) (L.length-x.1))) (jX (↑(X7 (v9 tx) L x.1).length:Int) L.length/\Le (0+(↑(X7 (v9 tx) L x.1).length:Int).toNat+(L.length- (↑(X7 (v9 tx) L x.1).length:Int).toNat)) L.length/\jX (↑(X7 (v9 tx) L x.1).length:Int) L.length/\((0=0/\(↑(X7 (v9 tx) L x.1).length:Int).toNat=(X7 (v9 tx) L L.length).length)/\True)/\(L.length=L.length/\Z8 L.length (λ(j:Nat)=>match(0+(↑(X7 (v9 tx) L x.1).length:Int).toNat).ble j&&j.blt (0+(↑(X7 (v9 tx) L x.1).length:Int).toNat+(L.length- (↑(X7 (v9 tx) L x.1).length:Int).toNat)) with|true=>[Ji 0,Ji 0]|false=>[Ji ((D6 (v9 tx) L x.1).getD j dz).tx,Ji ((D6 (v9 tx) L x.1).getD j dz).fo]) λ(j:Nat)=>match(X7 (v9 tx) L L.length).length.ble j&&j.blt ((X7 (v9 tx) L L.length).length+(L.length- (X7 (v9 tx) L L.length).length)) with|true=>[Ji 0,Ji 0]|false=>[Ji ((D6 (v9 tx) L L.length).getD j dz).tx,Ji ((D6 (v9 tx) L L.length).getD j dz).fo])/\(oo (tx.tx=tx.tx/\tx.ta=tx.ta/\tx.row=tx.row/\tx.mo=tx.mo/\True))/\True))):
  G1 prog 285 [.osl 0 0 L.length,.fn (.func 286) [.ref 1 0 0]] [sT L,aO tx] (.osl 0 0 (X7 (v9 tx) L L.length).length) [c86 L tx,aO tx]:=
 C4 (gC b4M (gC gI gN)) func285 (b5v L tx) [cG] h
theorem b2j:GK 285 b6w:=gk func285<|by
 rintro⟨L,tx⟩ (hL:L.length<=1048576);have l:=o9 (v9 tx) L L.length;refine gW (b79 L tx ⟨(L,tx),⟨tZ _,Z7,rT⟩,λn=>?_,λn=>?_⟩) (a2v (ts:=Wt.ts) l)
 ·obtain⟨e,d⟩:=lL (f:=v9 tx) (U9 L.length) λq Q=>by
   have:=a2a (beq_iff_eq.1 n) q Q;unfold d3W at this;unfold v9 bne;rw[this];rfl
  refine⟨⟨⟨rfl,e.symm⟩,Z6⟩,⟨rfl,?_⟩,Z7⟩
  exact eH (row:=Y7 L) (row':=Y7 (D6 (v9 tx) L L.length)) (z:=zWt) (λi _=>by rw[d]) (Nat.le_of_eq e.symm)
 ·obtain⟨i,hi,hp,g,h⟩:=fN n;have hi:i<L.length:=hi;obtain⟨e,d⟩:=lL (f:=v9 tx) (L:=L) (j:=i) Z9 λq Q=>by
   have:=g q Q;unfold d3W at this;unfold v9 bne;rw[this];rfl
  have I:v9 tx (L.getD i dz)=false:=by
   unfold d3W at hp;unfold v9 bne;rw[hp];rfl
  have o:(X7 (v9 tx) L (i+1)).length=i:=by rw[pQ I];exact e
  have r:D6 (v9 tx) L (i+1)=L:=by rw[b3l I];exact d
  have h:S5 L.length (d3W L tx)=(i:Int):=h;refine⟨?_,⟨⟨i+1,hi⟩,⟨Z7,Z7,?_,?_,Z6⟩,⟨rfl,?_⟩,Z7⟩,λx=>⟨λhc=>?_,λhc=>?_⟩⟩
  ·dsimp only;rw[h];exact Z4 Z9
  ·dsimp only;rw[h,o]
  ·dsimp only;rw[h];omega
  ·dsimp only;rw[r];exact X6 _ _
  ·have hlt:=Y2 hc;have hle:=o9 (v9 tx) L x.1;have e0:(D6 (v9 tx) L x.1).getD x.1 dz=L.getD x.1 dz:=b6q hle;rw[D8,D8,D2,D2,e0];refine⟨Y6 hlt,hlt,(L.getD x.1 dz,tx),Z7,λhd=>?_,λhd=>?_⟩
   ·have hd:v9 tx (L.getD x.1 dz)=true:=by
     unfold v9 bne
     skip
     exact hd
    exact⟨Y6 Z9,Q1,Z4 Z9,Z4 Z9,⟨x.1+1,hlt⟩,⟨⟨Z7,Z7,congrArg Int.ofNat (rD hd),X5,Z6⟩,⟨rfl,a15 (m:=2) (ts:=Wt.ts) (λ_=>rfl) hd⟩,Z7⟩,V5.ext_lt hlt⟩
   ·have hd:v9 tx (L.getD x.1 dz)=false:=by
     unfold v9 bne
     skip
     exact hd
    refine⟨Z4 Z9,⟨x.1+1,hlt⟩,⟨⟨Z7,Z7,?_,X5,Z6⟩,⟨rfl,?_⟩,Z7⟩,V5.ext_lt hlt⟩
    ·dsimp only;rw[pQ hd]
    ·dsimp only;rw[b3l hd];exact X6 _ _
  ·have hx:x.1=L.length:=by have:=x.2;have:=X9 hc;omega
   rw[hx,D8,D2];exact⟨⟨Z9,Z9⟩,J9,⟨Z9,Z9⟩,Z7⟩
def TdS(W:List Wt)(tx:Int):Type:={x:(Nat×Nat×List Int)×List Int//a1W W tx x.1.1 x.1.2.1 (tx::x.1.2.2)=rnd W tx/\a5q W (tx::x.1.2.2)+(x.1.2.2.length+1)<=x.1.2.1+x.1.1/\x.1.2.1<=x.1.2.2.length+1/\x.1.1+x.1.2.1=200/\tx ∉ x.1.2.2/\x.2.length<=x.1.2.1}
def TdI(W:List Wt)(tx a:Int)(R:List Int)(n:Nat):Type:={y:(Nat×List Int)×List Int//y.1.1<=W.length/\scn W tx a R y.1.1=some (tx::y.1.2)/\tx ∉ y.1.2/\y.2.length<=n}
def c1u(l:Lks)(tx:Int):Nat->Ann
 |0=>.one (TdS l.W tx) (λx=>⟨[(1,Ji tx),(2,Ji tx),(3,.ref 0 0 0),(7,.osl 1 0 x.1.1.2.2.length),(8,.osl 2 x.1.2.length (x.1.1.2.2.length+1-x.1.1.2.1))],[lkB l,z8 x.1.1.2.2,z8 (x.1.2++(tx::x.1.1.2.2).drop x.1.1.2.1)]⟩) (λx=>x.1.1.1) c2T c2T (λx=>fun
  |1=>.one (TdI l.W tx ((tx::x.1.1.2.2).getD x.1.1.2.1 0) (tx::x.1.1.2.2) (x.1.1.2.1+1)) (λy=>⟨[(1,Ji tx),(2,Ji tx),(3,.ref 0 0 0),(7,.osl 1 0 y.1.1.2.length),(8,.osl 2 y.1.2.length (y.1.1.2.length-x.1.1.2.1)),(9,Ji ((tx::x.1.1.2.2).getD x.1.1.2.1 0)),(24,nF l.W),(25,Ji l.W.length),(26,Ji y.1.1.1)],[lkB l,z8 y.1.1.2,z8 (y.1.2++y.1.1.2.drop x.1.1.2.1)]⟩) (λy=>l.W.length-y.1.1.1) c2T c2T (λ_=>Z3)
  |_=>.none)
 |_=>.none
def c4i:Con:=.rel ⟨Lks×Int,λx=>[.agg x.1.ts,Ji x.2,Ji x.2],λx=>.bool (rnd x.1.W x.2),λx=>x.1.W.length<=100⟩
theorem c62{tx v:Int}{S:List Int}:anyI (tx::S).length (thr (tx::S) v)=((tx==v)||anyI S.length (rR S v)):=by
 rw[Bool.eq_iff_iff,nS,R8,R8];constructor
 ·rintro⟨i,hi,hp⟩;cases i with
  |zero=>exact .inl hp
  |succ i=>
   refine .inr ⟨i,by simp at hi;omega,?_⟩
   have hp:(S.getD i 0==v)=true:=hp;unfold rR;rw[beq_iff_eq] at hp ⊢;exact hp.symm
 ·rintro(h|⟨i,hi,hp⟩)
  ·exact⟨0,W7,h⟩
  ·refine⟨i+1,C5,?_⟩
   show(S.getD i 0==v)=true;unfold rR at hp;rw[beq_iff_eq] at hp ⊢;exact hp.symm
theorem b81{v:Int}{S:List Int}(h:anyI S.length (rR S v)=true):v ∈ S:=by
 obtain⟨i,hi,hp⟩:=R8.1 h;unfold rR at hp;rw[beq_iff_eq] at hp;rw[hp,P3,I0 hi]
 exact List.getElem_mem hi
theorem a2h{L:List Int}{v:Int}{r:Nat->List T}(h:∀j,j<L.length->r j=Y9 L j):Z8 (L.length+1) (X4 r L.length λk=>[Ji ([v].getD k 0)]) (Y9 (L++[v])):=by
 intro j J;unfold X4;by_cases d:j<L.length
 ·rw[rW d];dsimp only;rw[h j d];unfold Y9;rw[P3,P3,rK d]
 ·obtain rfl:j=L.length:=by omega
  rw[mG d];dsimp only;unfold Y9;rw[j_h,P3 (l:=L++[v]),List.getElem?_concat_length]
  rfl
theorem b7f:GK 291 c4i:=gk func291<|by
 rintro⟨l,tx⟩ (h:l.W.length<=100);have W:∀R,a5q l.W R<=100:=λR=>Nat.le_trans (List.length_filter_le _ _) h
 refine U5 (gC a7a (gC P5 (gC P5 (gC P5 (gC P5 (gC P5 (gC P5 (gC P5 (gC P5 (gC P5 gN)))))))))) func291 (c1u l tx) (α:=let t:=(0=0/\0=0);let a:=(Z0 Y7 l.W l.W);let v:=(l.W.length:Int);let r:=(oo ((Z0 Z2 l.H l.H)/\a/\True));(∃(x:TdS l.W tx),let g:=x.1.1.2;let pa:=(x.1.2++List.drop g.1 (tx::g.2));(tx=tx/\tx=tx/\t/\(0=0/\0=g.2.length)/\(0=x.1.2.length/\1=g.2.length+1-g.1)/\True)/\r/\(0=g.2.length/\Z8 0 (tk 1 []) (Y9 g.2))/\(1=pa.length/\Z8 1 (tk 1 [Ji tx]) (Y9 pa))/\True)/\∀(x:TdS l.W tx),let pe:=x.1.2.length;let p:=x.1.1.2;let pb:=(p.2.length+1-p.1);let m:=(x.1.2++List.drop p.1 (tx::p.2));let j:=(tx::p.2).getD;bd ((↑pb:Int)>0) (W9 (0:Int) pb/\Lt (pe+0) m.length/\jX (1:Int) pb/\(∃(X:TdI l.W tx ((tx::x.1.1.2.2).getD x.1.1.2.1 (0:Int)) (tx::x.1.1.2.2) (x.1.1.2.1+1)),(tx=tx/\tx=tx/\t/\(0=0/\p.2.length=X.val.1.2.length)/\(pe+1=X.val.2.length/\p.2.length+1-p.1-1=X.val.1.2.length-p.1)/\m.getD (pe+0) 0=j p.1 (0:Int)/\a/\v=v/\0=(X.val.1.1:Int)/\True)/\r/\(Z0 Y9 p.2 X.val.1.2)/\(Z0 Y9 m (X.val.2++List.drop p.1 X.val.1.2))/\True)/\∀(X:TdI l.W tx ((tx::x.1.1.2.2).getD x.1.1.2.1 (0:Int)) (tx::x.1.1.2.2) (x.1.1.2.1+1)),let pg:=(l.W.length-X.val.1.1);let w:=(X.val.1.1:Int);let u:=(X.val.1.2.length-p.1);let pc:=(X.val.2.length+u);let z:=(X.val.2++List.drop p.1 X.val.1.2);let q:=(l.W.getD w.toNat dz);bd (w<v) (W9 w l.W.length/\∃(n:(List Int×Nat×Int)),((q.tx !=j p.1 (0:Int))=false->Le (0+X.val.1.2.length) X.val.1.2.length/\((X.val.1.2.length=n.2.1/\Z8 X.val.1.2.length (Y9 X.val.1.2) (Y9 n.1))/\q.fo=n.2.2/\True)/\L8 n.2.1)/\br (q.tx !=j p.1 (0:Int)||anyI n.2.1 (rR n.1 n.2.2)) (Ri (w+1)/\∃(y:TdI l.W tx ((tx::x.1.1.2.2).getD x.1.1.2.1 (0:Int)) (tx::x.1.1.2.2) (x.1.1.2.1+1)),let pf:=y.1.1;((tx=tx/\tx=tx/\t/\(0=0/\X.val.1.2.length=pf.2.length)/\(X.val.2.length=y.1.2.length/\X.val.1.2.length-p.1=pf.2.length-p.1)/\j p.1 0=j p.1 (0:Int)/\a/\v=v/\w+1=(pf.1:Int)/\True)/\r/\(Z0 Y9 X.val.1.2 pf.2)/\(Z0 Y9 z (y.1.2++List.drop p.1 pf.2))/\True)/\Lt (l.W.length-pf.1) pg) (br (q.fo==tx) (true=rnd l.W tx) ((Le X.val.1.2.length X.val.1.2.length/\U8 X.val.1.2.length 1 8)/\∀(b:Bool),let f:=(bif b then X.val.1.2.length-p.1+1 else X.val.2.length+u+1);(Le pc z.length/\Lt 0 1/\U8 pc 1 8)/\Ri (w+1)/\∃(y:TdI l.W tx ((tx::x.1.1.2.2).getD x.1.1.2.1 (0:Int)) (tx::x.1.1.2.2) (x.1.1.2.1+1)),let c:=y.1.1;let pd:=(y.1.2++List.drop p.1 c.2);((tx=tx/\tx=tx/\t/\(0=0/\X.val.1.2.length+1=c.2.length)/\((bif b then 0 else X.val.2.length)=y.1.2.length/\X.val.1.2.length-p.1+1=c.2.length-p.1)/\j p.1 0=j p.1 (0:Int)/\a/\v=v/\w+1=(c.1:Int)/\True)/\r/\(X.val.1.2.length+1=c.2.length/\Z8 (X.val.1.2.length+1) (X4 (Y9 X.val.1.2) X.val.1.2.length λ(k:Nat)=>[Ji ([q.fo].getD k (0:Int))]) (Y9 c.2))/\(f=pd.length/\Z8 f (bif b then X4 (λ(i:Nat)=>[Ji (z.getD (X.val.2.length+i) (0:Int))]) u λ(k:Nat)=>[Ji ([q.fo].getD k (0:Int))] else X4 (Y9 z) pc λ(k:Nat)=>[Ji ([q.fo].getD k (0:Int))]) (Y9 pd))/\True)/\Lt (l.W.length-c.1) pg))) (∃(y:TdS l.W tx),let d:=y.1.1.2;((tx=tx/\tx=tx/\t/\(0=0/\X.val.1.2.length=d.2.length)/\(X.val.2.length=y.1.2.length/\X.val.1.2.length-p.1=d.2.length+1-d.1)/\True)/\r/\(Z0 Y9 X.val.1.2 d.2)/\(Z0 Y9 z (y.1.2++List.drop d.1 (tx::d.2)))/\True)/\Lt y.1.1.1 x.1.1.1)) (false=rnd l.W tx)) ⟨⟨⟨((200,0,[]),[]),rfl,by have:=W [tx];dsimp only[List.length_nil];omega,N7 _,rfl,W7,N7 _⟩,⟨rfl,rfl,⟨rfl,rfl⟩,⟨rfl,rfl⟩,⟨rfl,rfl⟩,Z6⟩,⟨rfl,rfl,⟨rfl,X6 _ _⟩,⟨rfl,X6 _ _⟩,Z6⟩,⟨rfl,λj J=>absurd J (D0 _)⟩,⟨rfl,λj J=>by(obtain rfl:j=0:=by omega);rfl⟩,Z6⟩,λx=>?_⟩
 obtain⟨⟨⟨f,i,S⟩,pre⟩,u,Q,hi,L,I,hp⟩:=x;dsimp only at u Q hi L I hp ⊢;have V:=W (tx::S);refine⟨λhc=>?_,λhc=>?_⟩
 ·have hlt:i<S.length+1:=by have:=G5 hc;omega
  have o:i<(tx::S).length:=hlt;obtain⟨g,rfl⟩:∃g,f=g+1:=⟨f-1,Z9⟩
  rw[c5s o] at u;have z:(tx::S).drop i=(tx::S).getD i 0::S.drop i:=by
   rw[List.drop_eq_getElem_cons o,P3,I0 o]
   rfl
  have t:pre++(tx::S).drop i=(pre++[(tx::S).getD i 0])++S.drop i:=by rw[z,List.append_assoc];rfl
  have A:(pre++(tx::S).drop i).getD (pre.length+0) 0=(tx::S).getD i 0:=by
   rw[Nat.add_zero,P3,pZ (U9 _),j_h,z]
   rfl
  refine⟨⟨Z9,Z9⟩,by unfold Lt;rw[F7,List.length_drop];simp only[List.length_cons];omega,⟨Z9,Z9⟩,⟨⟨((0,S),pre++[(tx::S).getD i 0]),N7 _,rfl,I,C5⟩,⟨rfl,rfl,⟨rfl,rfl⟩,⟨rfl,rfl⟩,⟨W7,X5⟩,A,⟨rfl,X6 _ _⟩,rfl,rfl,Z6⟩,⟨rfl,rfl,⟨rfl,X6 _ _⟩,⟨rfl,X6 _ _⟩,Z6⟩,⟨rfl,X6 _ _⟩,⟨by rw[t],by rw[t];exact X6 _ _⟩,Z6⟩,λy=>?_⟩
  obtain⟨⟨⟨k,S'⟩,d⟩,F,hs,q,r⟩:=y;dsimp only at F hs q r ⊢;obtain⟨Y,M,U⟩:=a7V k (tx::S') F hs;simp only[List.length_cons] at M U;have O:=W (tx::S');rw[D8];refine⟨λhc2=>?_,λhc2=>?_⟩
  ·have hkt:=Y2 hc2;have hss:=dT hs;rw[c62] at hss;refine⟨Y6 hkt,(S',S'.length,(l.W.getD k dz).fo),λ_=>⟨J9,Z7,rT⟩,λhq=>?_,λhq=>⟨λhb=>?_,λhb=>⟨⟨U9 _,Q9⟩,λb=>?_⟩⟩⟩
   ·have B:scn l.W tx ((tx::S).getD i 0) (tx::S) (k+1)=some (tx::S'):=by
     rw[hss];split
     ·rename_i ha;simp only[nS] at hq;have hany:=hq.resolve_left (by rw[ha];simp)
      rw[if_neg (λe:(l.W.getD k dz).fo=tx=>q (by have:=b81 hany;rwa [e] at this)),if_pos (by rw[hany];simp)]
     ·rfl
    exact⟨Z4 Z9,⟨((k+1,S'),d),hkt,B,q,r⟩,⟨⟨rfl,rfl,Z7,Z7,Z7,rfl,Z7,rfl,X5,Z6⟩,Z7⟩,J7⟩
   ·simp only[wR,bne_eq_false_iff_eq] at hq;rw[if_pos hq.1,if_pos (beq_iff_eq.1 hb)] at hss;have:=lZ hss (l.W.length- (k+1));rw[show k+1+(l.W.length- (k+1))=l.W.length by omega] at this
    rw[this] at u;exact u
   ·simp only[wR,bne_eq_false_iff_eq] at hq;have hft:¬ (l.W.getD k dz).fo=tx:=λe=>by rw[e] at hb;simp at hb
    rw[if_pos hq.1,if_neg hft,if_neg (by rw[hq.2];simp;exact λe=>hft e.symm)] at hss
    generalize (l.W.getD k dz).fo=v at*;have hd2:(S'++[v]).drop i=S'.drop i++[v]:=List.drop_append_of_le_length Z9
    have N:(d++S'.drop i).length=d.length+(S'.length-i):=by rw[F7,List.length_drop]
    have C:(S'.drop i).length=S'.length-i:=List.length_drop;refine⟨⟨J9,Q1,Q9⟩,Z4 Z9,⟨((k+1,S'++[v]),bif b then[] else d),hkt,hss,(by simp only[List.mem_append,List.mem_singleton];rintro(e|e);exact q e;exact hft e.symm),by cases b<;>simp<;>omega⟩,⟨⟨rfl,rfl,⟨rfl,rfl⟩,⟨rfl,W7⟩,⟨by cases b<;>rfl,a35⟩,rfl,⟨rfl,X6 _ _⟩,rfl,X5,Z6⟩,⟨rfl,rfl,⟨rfl,X6 _ _⟩,⟨rfl,X6 _ _⟩,Z6⟩,⟨W7,a2h λ_ _=>rfl⟩,⟨?_,?_⟩,Z6⟩,J7⟩
    ·dsimp only;rw[hd2];cases b with
     |true=>simp
     |false=>simp only[cond_false,F7,List.length_drop,List.length_singleton];omega
    ·dsimp only;rw[hd2];cases b with
     |true=>
      simp only[cond_true,List.nil_append];rw[←C];refine a2h λj J=>?_
      unfold Y9;rw[P3,P3,pZ Z9,show d.length+j-d.length=j by omega]
     |false=>
      simp only[cond_false];rw[←N,←List.append_assoc];exact a2h λ_ _=>rfl
  ·obtain rfl:k=l.W.length:=by have:=X9 hc2;omega
   rw[hs] at u;exact⟨⟨((g,i+1,S'),d),u,X5,X5,X5,q,r⟩,⟨⟨rfl,rfl,Z7,Z7,⟨rfl,X5⟩,Z6⟩,Z7⟩,J7⟩
 ·have hge:¬i<(tx::S).length:=by have:=r8 hc;simp only[List.length_cons];omega
  rw[←u];exact(c5j hge).symm
def sA(L:List (List Wt))(i:Nat):List T:=[nF (L.getD i [])]
def c1P(L:List (List Wt)):T:=.sl 1 L.length (sA L)
def F6(L:List (List Wt)):Nat->List Wt
 |0=>[]
 |i+1=>F6 L i++L.getD i []
def c6A:Con:=.rmk ⟨Nat,λn=>[.v (.slice none 0 0),Ji n],λ_=>[],λ_=>.osl 0 0 0,λ_=>[sT []],λn=>1<=n/\n<=1000000⟩
theorem c5M(n:Nat)(h:
let q:=((n:Int)-0);let p:=q.toNat;  (decide ((n:Int)<0)=true->False)/\(decide ((n:Int)<0)=false->Ri (0:Int)/\Ri q/\bd ((n:Int)-0>0) (jX (0:Int) 0/\(Nn q/\Lt 0 p/\U8 0 p 16)/\jX (0:Int) p/\((0=0/\Int.toNat (0:Int)=0)/\True)/\(p=n/\Z8 p (λ(x:Nat)=>[Ji 0,Ji 0]) λ(x:Nat)=>[Ji 0,Ji 0])/\True) ((J6 (m8 [none]) (T.v (Value.slice none 0 0)) (T.osl 0 0 0)/\True)/\False/\True))):
  G1 prog 344 [.v (.slice none 0 0),Ji n] [] (.osl 0 0 0) [some (.arr true 0 2 n λ_=>zWt)]:=
 C4 gN func344 Z3 [[.vl 0 []]] h
def c8D:Con:=.rmk ⟨List (List Wt),λL=>[c1P L],λ_=>[],λL=>.osl 0 0 (F6 L L.length).length,λL=>[sT (F6 L L.length)],λL=>L.length<=100/\1<=(F6 L L.length).length/\(F6 L L.length).length<=1000000⟩
def c8q(L:List (List Wt)):Nat->Ann
 |0=>.one (Up L.length) (λx=>⟨[(0,c1P L),(3,Ji (F6 L x.1).length),(9,c1P L),(10,Ji L.length),(11,Ji x.1)],[]⟩) (λx=>L.length-x.1) [] [] (λ_=>fun
  |1=>.one (Up L.length) (λx=>⟨[(6,.osl 0 0 (F6 L x.1).length),(25,c1P L),(26,Ji L.length),(27,Ji x.1)],[sT (F6 L x.1)]⟩) (λx=>L.length-x.1) [.at_ 6] [.at_ 6] (λ_=>Z3)
  |_=>.none)
 |_=>.none
theorem c34:GK 344 c6A:=gk func344<|by
 rintro n ⟨e,d⟩;refine⟨gW (c5M n ⟨λq=>(by have:=G5 q;omega),λ_=>⟨Z4 Z9,Z4 Z9,λ_=>⟨⟨Z9,Z9⟩,⟨m0,Q1,Q9⟩,⟨Z9,Z9⟩,Z7,⟨Z9,X6 _ _⟩,Z6⟩,λq=>(by have:=r8 q;omega)⟩⟩) ?_,rfl,rZ []⟩
 refine⟨rfl,λk o' h=>?_⟩
 cases k with
 |zero=>
  have h:sT []=some o':=h;unfold sT at h;simp only[X0] at h;refine⟨_,rfl,.inr ⟨_,_,_,_,_,_,_,rfl,h.symm,N7 _,λi hi=>absurd hi (D0 _)⟩⟩
 |succ k=>simp[Y4] at h
theorem b8C(L:List (List Wt))(i:Nat):∀d,(F6 L i).length<=(F6 L (i+d)).length
 |0=>U9 _
 |d+1=>by
  have:=b8C L i d;show _<=(F6 L (i+d)++L.getD (i+d) []).length;rw[F7];omega
theorem c7Z:GK 290 c8D:=gk func290<|by
 rintro L ⟨l,f,g⟩;have e:∀i,i<=L.length->(F6 L i).length<=1000000:=λi hi=>by
  have:=b8C L i (L.length-i);rw[show i+(L.length-i)=L.length by omega] at this
  omega
 have d:∀i,(F6 L (i+1)).length=(F6 L i).length+(L.getD i []).length:=λi=>F7
 refine⟨C4 (gC c34 gN) func290 (c8q L) [[.vl 0 []]] (α:=let v:=(Z0 sA L L);let q:=(L.length:Int);(∃(x:Up L.length),(v/\0=(↑(F6 L x.1).length:Int)/\v/\q=q/\0=(x.1:Int)/\True)/\True)/\∀(x:Up L.length),let w:=(x.1:Int);let u:=(↑(F6 L x.1).length:Int);let z:=(↑(L.getD w.toNat []).length:Int);bd (w<q) (W9 w L.length/\Ri (u+z)/\bd (u+z<0) False (Ri (w+1)/\∃(y:Up L.length),((v/\u+z=(↑(F6 L y.1).length:Int)/\v/\q=q/\w+1=(y.1:Int)/\True)/\True)/\Lt (L.length-y.1) (L.length-x.1))) (∃(X:Nat),((Value.slice none 0 0=Value.slice none 0 0/\u=(X:Int)/\True)/\1<=X/\X<=1000000)/\(∃(x:Up L.length),let k:=(F6 L x.1);((0=0/\0=k.length)/\v/\q=q/\0=(x.1:Int)/\True)/\(0=k.length/\Z8 0 (Y7 []) (Y7 k))/\True)/\∀(x:Up L.length),let m:=(F6 L x.1);let j:=(x.1:Int);let r:=(L.getD j.toNat []);let p:=m.length;bd (j<q) (W9 j L.length/\(Le p p/\U8 p r.length 16)/\Ri (j+1)/\∃(y:Up L.length),let n:=(F6 L y.1);(((0=0/\p+r.length=n.length)/\v/\q=q/\j+1=(y.1:Int)/\True)/\(p+r.length=n.length/\Z8 (p+r.length) (X4 (Y7 m) p (Y7 r)) (Y7 n))/\True)/\Lt (L.length-y.1) (L.length-x.1)) (((0=0/\p=(F6 L L.length).length)/\True)/\(Z0 Y7 m (F6 L L.length))/\True))) ⟨⟨⟨0,N7 _⟩,Z7⟩,λx=>⟨λhc=>?_,λhc=>?_⟩⟩,rfl,rZ _⟩
 ·have h:=Y2 hc;have j:=e (x.1+1) h;have A:=d x.1;rw[D8];exact⟨Y6 h,Z4 Z9,λq=>(by have:=G5 q;omega),λ_=>⟨Z4 Z9,⟨x.1+1,h⟩,⟨⟨Z7,X5,Z7,rfl,X5,Z6⟩,Z6⟩,J7⟩⟩
 ·have hx:x.1=L.length:=by have:=x.2;have:=X9 hc;omega
  refine⟨(F6 L L.length).length,⟨⟨rfl,by rw[hx],Z6⟩,f,g⟩,⟨⟨0,N7 _⟩,⟨⟨rfl,rfl⟩,⟨rfl,X6 _ _⟩,rfl,rfl,Z6⟩,⟨rfl,X6 _ _⟩,Z6⟩,λy=>⟨λhc2=>?_,λhc2=>?_⟩⟩
  ·have h:=Y2 hc2;have j:=e (y.1+1) h;have A:=d y.1;rw[D8];exact⟨Y6 h,⟨U9 _,Q9⟩,Z4 Z9,⟨y.1+1,h⟩,⟨⟨⟨rfl,A.symm⟩,Z7,rfl,X5,Z6⟩,⟨A.symm,a6a _ _⟩,Z6⟩,J7⟩
  ·have hy:y.1=L.length:=by have:=y.2;have:=X9 hc2;omega
   rw[hy];exact Z7
def tkX(e:Eng)(x:Lck):Eng:={e with lk:=(T5 e.lk x).1}
def c9Q(e:Eng)(tx:Int):Eng:={e with lk:=J0 e.lk tx}
def c1h:Con:=.reff ⟨Eng×Lck×Nat,λx=>[.ref 0 0 11,.agg x.2.1.ts],λx=>x.1.bx x.2.2,λx=>Ji (T5 x.1.lk x.2.1).2,λx=>(tkX x.1 x.2.1).nx x.2.2,λx=>x.1.lk.H.length<=60/\x.1.lk.W.length<=100⟩
def c1I(e:Eng)(x:Lck)(v:Nat):Nat->Ann
 |0=>.one (Up e.lk.H.length) (λi=>⟨[(0,.ref 0 0 11),(3,.ref 9 0 0),(4,Ji 0),(5,.osl 10 0 (V1 e.lk.H x i.1).length),(28,.osl 7 0 e.lk.H.length),(29,Ji e.lk.H.length),(30,Ji i.1)],(c9Q e x.tx).bx v++[aO x,sT (V1 e.lk.H x i.1)]⟩) (λi=>e.lk.H.length-i.1) c5r c5r (λ_=>Z3)
 |_=>.none
theorem b5G(L:List Lck)(x:Lck)(i:Nat):hsI L x i=qB L x i:=by
 unfold hsI hsB qB b2b rX;rw[Bool.eq_iff_iff];simp only[J4,nS,beq_iff_eq];constructor
 ·rintro⟨⟨a,b,c⟩,(d|d)|d⟩
  ·exact⟨⟨⟨a,b⟩,c⟩,.inl (.inr d)⟩
  ·exact⟨⟨⟨a,b⟩,c⟩,.inr d⟩
  ·exact⟨⟨⟨a,b⟩,c⟩,.inl (.inl d)⟩
 ·rintro⟨⟨⟨a,b⟩,c⟩,(d|d)|d⟩
  ·exact⟨⟨a,b,c⟩,.inr d⟩
  ·exact⟨⟨a,b,c⟩,.inl (.inl d)⟩
  ·exact⟨⟨a,b,c⟩,.inl (.inr d)⟩
theorem b5V(L:List Wt)(w:Wt)(i:Nat):isW L w i=cX L w i:=by
 unfold isW cX;rw[show(w.tx==(L.getD i dz).tx)=((L.getD i dz).tx==w.tx) from Bool.eq_iff_iff.2 (by simp only[beq_iff_eq];exact eq_comm),show(w.fo==(L.getD i dz).fo)=((L.getD i dz).fo==w.fo) from Bool.eq_iff_iff.2 (by simp only[beq_iff_eq];exact eq_comm)]
theorem a05{n:Nat}{p q:Nat->Bool}(h:∀i,p i=q i):anyI n p=anyI n q:=by rw[show p=q from funext h]
theorem b6U:GK 211 c1h:=gk func211<|by
 rintro⟨e,x,v⟩ ⟨A,z⟩;dsimp only at A z;have o:(X7 (cF x.tx) e.lk.W e.lk.W.length).length<=e.lk.W.length:=o9 (cF x.tx) e.lk.W e.lk.W.length;have q:=λn=>a7j (L:=e.lk.H) (x:=x) n
 refine C4 (gC b2j (gC gI (gC c6D (gC cD (gC b1X (gC c7Z (gC b7f gN))))))) func211 (c1I e x v) aW (α:=let px:=(0=0/\11=11);let pu:=(0=0/\0=0);let po:=(Z0 Z2 e.lk.H e.lk.H);let pm:=(oo (x.tx=x.tx/\x.ta=x.ta/\x.row=x.row/\x.mo=x.mo/\True));let ph:=(Z0 X2 e.X e.X);let pf:=(Z0 Y0 e.s.L e.s.L);let pe:=(e.lk.H.length:Int);let pd:=(Z0 Z1 e.s.d.C e.s.d.C);let pc:=(Z0 Z5 e.s.d.E e.s.d.E);let pb:=(0=0/\e.lk.H.length=e.lk.H.length);let pa:=(0=0/\e.X.length=e.X.length);let t:=(0=0/\e.s.L.length=e.s.L.length);let i:=(0=0/\e.s.fr.length=e.s.fr.length);let c:=(Z0 Y9 e.s.d.keep e.s.d.keep);let b:=(0=0/\e.s.d.C.length=e.s.d.C.length);let a:=(0=0/\e.s.d.E.length=e.s.d.E.length);let m:=(T5 e.lk x);let pz:=m.1.H.length;let ps:=m.1.W.length;let pp:=(Z0 Z2 e.lk.H m.1.H);let pj:=(0=0/\e.lk.H.length=pz);let k:=(0=0/\e.s.d.keep.length=e.s.d.keep.length);let r:=(v=v/\e.s.fr.length=e.s.fr.length/\V2 e.s.fr.length (Y5 e.s.fr) (Y5 e.s.fr));let q:=(X7 (cF x.tx) e.lk.W e.lk.W.length);let pn:=q.length;let w:=(oo (a/\b/\e.s.d.A=e.s.d.A/\k/\e.s.ep=e.s.ep/\t/\e.s.S=e.s.S/\i/\e.s.J=e.s.J/\e.up=e.up/\pa/\pb/\(0=0/\pn=pn)/\e.N=e.N/\True));let u:=(pc/\pd/\c/\pf/\r/\ph/\pp/\(Z0 Y7 q m.1.W)/\True);let p:=(oo (a/\b/\e.s.d.A=e.s.d.A/\k/\e.s.ep=e.s.ep/\t/\e.s.S=e.s.S/\i/\e.s.J=e.s.J/\e.up=e.up/\pa/\pj/\(0=0/\pn=ps)/\e.N=e.N/\True));let pw:=((7=m.2/\True)/\p/\T8 u);∃(f:(List Wt×Lck)),let l:=(X7 (v9 f.2) f.1 f.1.length);(((0=0/\e.lk.W.length=f.1.length)/\(Fn.func 286=Fn.func 286/\pu/\True)/\True)/\((Z0 Y7 e.lk.W f.1)/\(1=1/\Z8 1 (λ(j:Nat)=>[Ji x.tx,Ji x.ta,Ji x.row,Ji x.mo]) λ(x:Nat)=>[Ji f.2.tx,Ji f.2.ta,Ji f.2.row,Ji f.2.mo])/\True)/\f.1.length<=1048576)/\∃(j:(Lks×Lck)),((Le (0+e.lk.H.length) e.lk.H.length/\Le (0+l.length) l.length)/\(((Z0 Z2 e.lk.H j.1.H)/\(Z0 Y7 l j.1.W)/\True)/\(f.2.tx=j.2.tx/\f.2.ta=j.2.ta/\f.2.row=j.2.row/\f.2.mo=j.2.mo/\True)/\True)/\L8 j.1.H.length)/\br (anyI j.1.H.length (hsI j.1.H j.2)) ((0=m.2/\True)/\(oo (a/\b/\e.s.d.A=e.s.d.A/\k/\e.s.ep=e.s.ep/\t/\e.s.S=e.s.S/\i/\e.s.J=e.s.J/\e.up=e.up/\pa/\pj/\(0=0/\l.length=ps)/\e.N=e.N/\True))/\T8 (pc/\pd/\c/\pf/\r/\ph/\pp/\(Z0 Y7 l m.1.W)/\True)) ((∃(X:Up e.lk.H.length),let pq:=(V1 e.lk.H x X.val);(px/\pu/\(0:Int)=0/\(0=0/\0=pq.length)/\pb/\pe=pe/\0=(X.val:Int)/\True)/\(oo (a/\b/\e.s.d.A=e.s.d.A/\k/\e.s.ep=e.s.ep/\t/\e.s.S=e.s.S/\i/\e.s.J=e.s.J/\e.up=e.up/\pa/\pb/\(0=0/\l.length=pn)/\e.N=e.N/\True))/\pc/\pd/\c/\pf/\r/\ph/\po/\(Z0 Y7 l q)/\(oo (f.2.tx=x.tx/\f.2.ta=x.ta/\f.2.row=x.row/\f.2.mo=x.mo/\True))/\(0=pq.length/\Z8 0 (tk 2 []) (Y7 pq))/\True)/\∀(X:Up e.lk.H.length),let py:=(e.lk.H.length-X.val);let pk:=(X.val:Int);let pi:=(V1 e.lk.H x X.val);let n:=(e.lk.H.getD (0+pk.toNat) dz);let z:=pi.length;let pv:=(↑z:Int);bd (pk<pe) (W9 pk e.lk.H.length/\Lt (0+pk.toNat) e.lk.H.length/\∃(g:(Lck×Lck)),(((n.tx=g.1.tx/\n.ta=g.1.ta/\n.row=g.1.row/\n.mo=g.1.mo/\True)/\(x.tx=g.2.tx/\x.ta=g.2.ta/\x.row=g.2.row/\x.mo=g.2.mo/\True)/\True)/\True)/\∃(h:(List Wt×Nat×Wt)),(clash g.1 g.2=true->Le (0+z) z/\((z=h.2.1/\Z8 z (Y7 pi) (Y7 h.1))/\(x.tx=h.2.2.tx/\n.tx=h.2.2.fo/\True)/\True)/\L8 h.2.1)/\br (clash g.1 g.2&& !anyI h.2.1 (isW h.1 h.2.2)) ((Le 1 1/\Le z z/\U8 z 1 16)/\Ri (pk+1)/\∃(y:Up e.lk.H.length),let pr:=(V1 e.lk.H x y.1);((px/\pu/\(0:Int)=0/\(0=0/\z+1=pr.length)/\pb/\pe=pe/\pk+1=(y.1:Int)/\True)/\w/\pc/\pd/\c/\pf/\r/\ph/\po/\(Z0 Y7 q q)/\pm/\(z+1=pr.length/\Z8 (z+1) (X4 (Y7 pi) z (tk 2 [Ji x.tx,Ji n.tx])) (Y7 pr))/\True)/\Lt (e.lk.H.length-y.1) py) (Ri (pk+1)/\∃(y:Up e.lk.H.length),let qa:=(V1 e.lk.H x y.1);((px/\pu/\(0:Int)=0/\(0=0/\z=qa.length)/\pb/\pe=pe/\pk+1=(y.1:Int)/\True)/\w/\pc/\pd/\c/\pf/\r/\ph/\po/\(Z0 Y7 q q)/\pm/\(Z0 Y7 pi qa)/\True)/\Lt (e.lk.H.length-y.1) py)) (br (pv==0&&pe==60) pw (br (pv==0) ((Le 1 1/\Le e.lk.H.length e.lk.H.length/\U8 e.lk.H.length 1 32)/\(0=m.2/\True)/\(oo (a/\b/\e.s.d.A=e.s.d.A/\k/\e.s.ep=e.s.ep/\t/\e.s.S=e.s.S/\i/\e.s.J=e.s.J/\e.up=e.up/\pa/\(0=0/\e.lk.H.length+1=pz)/\(0=0/\pn=ps)/\e.N=e.N/\True))/\T8 (pc/\pd/\c/\pf/\r/\ph/\(e.lk.H.length+1=pz/\Z8 (e.lk.H.length+1) (X4 (Z2 e.lk.H) e.lk.H.length (tk 4 [Ji x.tx,Ji x.ta,Ji x.row,Ji x.mo])) (Z2 m.1.H))/\(Z0 Y7 q m.1.W)/\True)) (Ri ((↑pn:Int)+pv)/\bd ((↑pn:Int)+pv>100) pw (∃(g:(List (List Wt))),let pg:=(F6 g (g.length));let pt:=pg.length;((Le (0+pn) pn/\Le (0+z) z)/\((2=g.length/\Z8 2 (dZ [T.sl 2 q.length (Y7 q)] [T.sl 2 z (Y7 pi)]) (sA g))/\True)/\g.length<=100/\1<=pt/\pt<=1000000)/\∃(h:(Lks×Int)),((Le (0+e.lk.H.length) e.lk.H.length/\Le (0+pt) pt)/\(((Z0 Z2 e.lk.H h.1.H)/\(Z0 Y7 pg h.1.W)/\True)/\x.tx=h.2/\x.tx=h.2/\True)/\h.1.W.length<=100)/\br (rnd h.1.W h.2) ((14=m.2/\True)/\p/\T8 u) ((13=m.2/\True)/\(oo (a/\b/\e.s.d.A=e.s.d.A/\k/\e.s.ep=e.s.ep/\t/\e.s.S=e.s.S/\i/\e.s.J=e.s.J/\e.up=e.up/\pa/\pj/\(0=0/\pt=ps)/\e.N=e.N/\True))/\T8 (pc/\pd/\c/\pf/\r/\ph/\pp/\(Z0 Y7 pg m.1.W)/\True)))))))) ⟨(e.lk.W,x),⟨Z7,Z7,X5⟩,(J0 e.lk x.tx,x),⟨⟨J9,J9⟩,Z7,by unfold L8 J0;dsimp only;omega⟩,λhh=>?_,λhh=>⟨⟨⟨0,N7 _⟩,Z7,Z7,Z7,Z7,Z7,Z7,Z7,Z7,Z7,Z7,Z7,⟨rfl,P0⟩,Z6⟩,λy=>?_⟩⟩
 ·have hh:anyI e.lk.H.length (qB e.lk.H x)=true:=by rw[←a05 (b5G e.lk.H x)];exact hh
  have e1:T5 e.lk x=(J0 e.lk x.tx,0):=by unfold T5;rw[if_pos hh]
  rw[e1];exact Z7
 have hh:¬anyI e.lk.H.length (qB e.lk.H x)=true:=by
  have hh:anyI e.lk.H.length (hsI e.lk.H x)=false:=hh;rw[←a05 (b5G e.lk.H x),hh];simp
 obtain⟨i,hi⟩:=y;dsimp only at hi ⊢;have I:=q i;rw[D8,D2];refine⟨λhc=>?_,λhc=>?_⟩
 ·have hlt:=Y2 hc;have hw1:=c4X (L:=e.lk.H) (x:=x) (i:=i);refine⟨Y6 hlt,hlt,(e.lk.H.getD i dz,x),Z7,(V1 e.lk.H x i,(V1 e.lk.H x i).length,⟨x.tx,(e.lk.H.getD i dz).tx⟩),λ_=>⟨J9,Z7,rT⟩,λhq=>?_,λhq=>?_⟩
  ·dsimp only at hq;rw[a05 (b5V _ _)] at hq;simp only[J4,vY] at hq;rw[if_pos hq.1,if_neg (by rw[hq.2];simp)] at hw1
   have N:(V1 e.lk.H x i).length+1=(V1 e.lk.H x (i+1)).length:=by rw[hw1];simp
   refine⟨⟨U9 _,U9 _,Q9⟩,Z4 Z9,⟨i+1,hlt⟩,⟨⟨Z7,Z7,rfl,⟨rfl,N⟩,Z7,rfl,X5,Z6⟩,Z7,Z7,Z7,Z7,Z7,Z7,Z7,Z7,Z7,Z7,⟨N,?_⟩,Z6⟩,J7⟩
   dsimp only;rw[hw1];exact zU Wt.ts 2 (λ_=>rfl) (V1 e.lk.H x i) ⟨x.tx,(e.lk.H.getD i dz).tx⟩
  ·dsimp only at hq;rw[a05 (b5V _ _)] at hq;have r:V1 e.lk.H x (i+1)=V1 e.lk.H x i:=by
    rw[hw1];split
    ·rename_i o;rw[o,Bool.true_and,wT] at hq;rw[if_pos hq]
    ·rfl
   refine⟨Z4 Z9,⟨i+1,hlt⟩,?_,J7⟩
   dsimp only;rw[r];exact⟨⟨Z7,Z7,rfl,Z7,Z7,rfl,Z9,Z6⟩,Z7⟩
 ·obtain rfl:i=e.lk.H.length:=by have:=X9 hc;omega
  refine⟨λh60=>?_,λh60=>⟨λh0=>?_,λh0=>⟨Z4 Z9,λB=>?_,λB=>?_⟩⟩⟩
  ·simp only[J4,beq_iff_eq] at h60;have h0:(B8 e.lk x).length=0:=by have:=h60.1;unfold B8;omega
   have e1:T5 e.lk x=(J0 e.lk x.tx,7):=by unfold T5;rw[if_neg hh,if_pos h0,if_pos Z9]
   rw[e1];exact Z7
  ·have h0':(B8 e.lk x).length=0:=by have:=beq_iff_eq.1 h0;unfold B8;omega
   have h60:¬e.lk.H.length=60:=λl=>by rw[h0,l] at h60;cases h60
   have e1:T5 e.lk x=(⟨e.lk.H++[x],(J0 e.lk x.tx).W⟩,0):=by unfold T5;rw[if_neg hh,if_pos h0',if_neg h60]
   rw[e1];exact⟨⟨U9 _,U9 _,Q9⟩,Z7,⟨rfl,rfl,Z7,Z7,rfl,Z7,rfl,Z7,rfl,Z7,rfl,rfl,Z7,⟨rfl,W7⟩,Z7⟩,Z6,Z6,Z6,Z6,Z6,Z6,Z6,Z6,Z7,Z7,Z7,Z7,Z7,Z7,⟨W7,zU Lck.ts 4 (λ_=>rfl) _ x⟩,Z7⟩
  ·have h0':¬ (B8 e.lk x).length=0:=λl=>by
    have l:(V1 e.lk.H x e.lk.H.length).length=0:=l;rw[l] at h0;cases h0
   have hb':(J0 e.lk x.tx).W.length+(B8 e.lk x).length>100:=by have:=G5 B;unfold B8 J0;dsimp only;omega
   have e1:T5 e.lk x=(J0 e.lk x.tx,7):=by unfold T5;rw[if_neg hh,if_neg h0',if_pos hb']
   rw[e1];exact Z7
  ·have t:¬ (V1 e.lk.H x e.lk.H.length).length=0:=λl=>by
    rw[l] at h0;cases h0
   have h0':¬ (B8 e.lk x).length=0:=t;have F:(X7 (cF x.tx) e.lk.W e.lk.W.length).length+(V1 e.lk.H x e.lk.H.length).length<=100:=by have:=r8 B;omega
   have hb':¬ (J0 e.lk x.tx).W.length+(B8 e.lk x).length>100:=by unfold B8 J0;dsimp only;omega
   have u:F6 [X7 (cF x.tx) e.lk.W e.lk.W.length,V1 e.lk.H x e.lk.H.length] 2=(J0 e.lk x.tx).W++B8 e.lk x:=rfl;have C:((J0 e.lk x.tx).W++B8 e.lk x).length=(X7 (cF x.tx) e.lk.W e.lk.W.length).length+(V1 e.lk.H x e.lk.H.length).length:=F7;refine⟨[X7 (cF x.tx) e.lk.W e.lk.W.length,V1 e.lk.H x e.lk.H.length],⟨⟨J9,J9⟩,⟨⟨rfl,λi hi=>by match i,hi with|0,_=>rfl|1,_=>rfl⟩,Z6⟩,by show 2<=100;omega,?_,?_⟩,(⟨e.lk.H,(J0 e.lk x.tx).W++B8 e.lk x⟩,x.tx),⟨⟨J9,J9⟩,⟨⟨⟨rfl,X6 _ _⟩,⟨rfl,X6 _ _⟩,Z6⟩,rfl,rfl,Z6⟩,X5⟩,λhr=>?_,λhr=>?_⟩
   ·show 1<=((J0 e.lk x.tx).W++B8 e.lk x).length;omega
   ·show((J0 e.lk x.tx).W++B8 e.lk x).length<=1000000;omega
   ·have hr:rnd ((J0 e.lk x.tx).W++B8 e.lk x) x.tx=true:=hr;have e1:T5 e.lk x=(J0 e.lk x.tx,14):=by unfold T5;rw[if_neg hh,if_neg h0',if_neg hb',if_pos hr]
    rw[e1];exact Z7
   ·have hr:¬rnd ((J0 e.lk x.tx).W++B8 e.lk x) x.tx=true:=by
     have hr:rnd ((J0 e.lk x.tx).W++B8 e.lk x) x.tx=false:=hr;rw[hr];simp
    have e1:T5 e.lk x=(⟨e.lk.H,(J0 e.lk x.tx).W++B8 e.lk x⟩,13):=by unfold T5;rw[if_neg hh,if_neg h0',if_neg hb',if_neg hr]
    rw[e1];exact Z7
def uY(e:Eng)(k:Nat)(ta row mo:Int):Nat:=if(T5 e.lk (qD e k ta row mo)).2=14 then(I5 (pD e k ta row mo) k).1.2 else 0
def c30:Con:=.reff ⟨Eng×Nat×Int×Int×Int×Int,λx=>[.ref 0 0 0,Ji x.2.2.2.2.2,Ji x.2.2.1,Ji x.2.2.2.1,Ji x.2.2.2.2.1],λx=>x.1.bx 0,λx=>Ji (R3 x.1 x.2.1 x.2.2.1 x.2.2.2.1 x.2.2.2.2.1).2,λx=>(R3 x.1 x.2.1 x.2.2.1 x.2.2.2.1 x.2.2.2.2.1).1.nx (uY x.1 x.2.1 x.2.2.1 x.2.2.2.1 x.2.2.2.2.1),λx=>XI x.1 x.2.1 x.2.2.2.2.2⟩
theorem b1h{a:Int}(h:(a !=0)=true):¬a=0:=w9
theorem a3o{a:Int}(h:(a !=0)=false):a=0:=w9
theorem b5S:GK 125 c30:=gk func125<|by
 rintro⟨e,k,ta,row,mo,tx⟩ h;dsimp only at h;have ht:=sI h ta row mo;have d:=h.u.u.id;have f:qD e k ta row mo=⟨tx,ta,row,mo⟩:=by unfold qD;rw[d]
 refine C4 (gC b6U (gC b9F gN)) func125 Z3 aW (α:=let z:=(uY e k ta row mo);let p:=(R3 e k ta row mo);∃(x:(Eng×Lck×Nat)),let q:=(T5 x.1.lk x.2.1);(((0=0/\11=11)/\(tx=x.2.1.tx/\ta=x.2.1.ta/\row=x.2.1.row/\mo=x.2.1.mo/\True)/\True)/\(iM (0) (x.2.2) e x.1)/\x.1.lk.H.length<=60/\x.1.lk.W.length<=100)/\br (q.2==14) (∃(X:(Eng×Int×Nat)),let r:=(I5 X.1 X.2.2);(((0=0/\0=0)/\tx=X.2.1/\True)/\(iM (x.2.2) (0) {x.1 with lk:=q.1} X.1)/\UI X.1 X.2.2 X.2.1 (X.1.X.getD X.2.2 dz).Z)/\br (r.2 !=0) ((r.2=p.2/\True)/\lO (r.1.2) z r.1.1 p.1) ((q.2=p.2/\True)/\lO (r.1.2) z r.1.1 p.1)) ((q.2=p.2/\True)/\lO (x.2.2) z {x.1 with lk:=q.1} p.1)) ⟨(e,qD e k ta row mo,0),⟨⟨Z7,⟨d.symm,Z7⟩,Z6⟩,Z7,h.u.u.lk.1,h.u.u.lk.2⟩,λhq=>?_,λhq=>?_⟩
 ·have hq:(T5 e.lk (qD e k ta row mo)).2=14:=beq_iff_eq.1 hq;have ev:uY e k ta row mo=(I5 (pD e k ta row mo) k).1.2:=if_pos hq;refine⟨(pD e k ta row mo,tx,k),⟨Z7,Z7,ht.u⟩,λhn=>?_,λhn=>?_⟩
  ·have hn:¬ (I5 (pD e k ta row mo) k).2=0:=b1h hn;have hc:=(c9e (pD e k ta row mo) k).resolve_left hn;have e1:R3 e k ta row mo=((I5 (pD e k ta row mo) k).1.1,15):=by unfold R3;rw[if_pos hq,if_neg hn]
   rw[e1,ev];exact⟨⟨hc,Z6⟩,Z7⟩
  ·have hn:(I5 (pD e k ta row mo) k).2=0:=a3o hn;have e1:R3 e k ta row mo=((I5 (pD e k ta row mo) k).1.1,14):=by unfold R3;rw[if_pos hq,if_pos hn]
   rw[e1,ev];exact⟨⟨hq,Z6⟩,Z7⟩
 ·have hq:¬ (T5 e.lk (qD e k ta row mo)).2=14:=λe1=>by
   have hq:((T5 e.lk (qD e k ta row mo)).2==14)=false:=hq;rw[e1] at hq;cases hq
  have ev:uY e k ta row mo=0:=if_neg hq;have e1:R3 e k ta row mo=(pD e k ta row mo,(T5 e.lk (qD e k ta row mo)).2):=by unfold R3;rw[if_neg hq]
  rw[e1,ev];exact Z7
def a5d(g s:Int):Option Ob:=some (.arr true 1000000 2 1 λ_=>[Ji g,Ji s])
def hitB(r:Rec)(g s:Int):Bool:=(r.g==g)&&(r.s==s)
def c1d:Con:=.reff ⟨Rec×Int×Int×Bool,λx=>[.agg x.1.ts,.ref 0 0 0,.ref 1 0 0],λx=>[fF x.2.2.2,a5d x.2.1 x.2.2.1],λ_=>.bool true,λx=>[fF (x.2.2.2||hitB x.1 x.2.1 x.2.2.1),a5d x.2.1 x.2.2.1],λ_=>True⟩
theorem c1l(r:Rec)(g s:Int)(b:Bool)(h:
  (true=true/\True)/\(oo ((b||r.g==g&&r.s==s)=(b||hitB r g s)/\True))/\(oo (g=g/\s=s/\True))/\True):
  G1 prog 269 [.agg r.ts,.ref 0 0 0,.ref 1 0 0] [fF b,a5d g s] (.bool true) [fF (b||hitB r g s),a5d g s]:=
 C4 gN func269 Z3 [iQ] h
theorem b72:GK 269 c1d:=gk func269<|λx _=>c1l x.1 x.2.1 x.2.2.1 x.2.2.2 Z7
def c5S:Con:=.reff ⟨Sto×Int×Int×Int,λx=>[.bref x.1.ts,Ji x.2.1,.fn (.func 269) [.ref 0 0 0,.ref 1 0 0]],λx=>[fF false,a5d x.2.2.1 x.2.2.2],λ_=>.tup [],λx=>[fF (kepA x.1.L x.2.2.1 x.2.2.2 61 x.2.1),a5d x.2.2.1 x.2.2.2],λx=>rG x.1.L x.2.1⟩
def KpU(L:List Rec)(g s f:Int):Type:={x:Nat×Int×Bool//(x.2.2||kepA L g s x.1 x.2.1)=kepA L g s 61 f/\x.2.1<=(L.length:Int)/\x.2.1.toNat<x.1}
def c5O(t:Sto)(f g s:Int):Nat->Ann
 |0=>.one (KpU t.L g s f) (λx=>⟨[(0,.bref t.ts),(1,Ji x.1.2.1),(2,.fn (.func 269) [.ref 0 0 0,.ref 1 0 0])],[fF x.1.2.2,a5d g s]⟩) (λx=>x.1.1) iQ iQ (λ_=>Z3)
 |_=>.none
theorem c4j:GK 268 c5S:=gk func268<|by
 rintro⟨t,F,g,s⟩ ⟨L,o⟩;dsimp only at L o;have q:=L.1;refine C4 (gC b72 gN) func268 (c5O t F g s) [iQ] (α:=let b:=(0=0/\0=0);let w:=(m8 [some 0,some 1]);let v:=(oo (g=g/\s=s/\True));let u:=(T.bref t.ts);let r:=(Fn.func 269=Fn.func 269/\b/\b/\True);(∃(x:KpU t.L g s F),(J6 w u u/\F=x.1.2.1/\r/\True)/\(oo (false=x.1.2.2/\True))/\v/\True)/\∀(x:KpU t.L g s F),let a:=x.1.2;let j:=(a.1- (1:Int));let z:=((True/\True)/\(oo (a.2=kepA t.L g s 61 F/\True))/\v/\True);let q:=(t.L.getD j.toNat dz);bd (a.1>(0:Int)) (Ri j/\W9 j t.L.length/\br (q.k==3) (∃(y:KpU t.L g s F),((J6 w u u/\q.n=y.1.2.1/\r/\True)/\(oo (a.2=y.1.2.2/\True))/\v/\True)/\Lt y.1.1 x.1.1) (∃(X:(Rec×Int×Int×Bool)),let f:=(oo (X.2.1=g/\X.2.2.1=s/\True));let m:=(X.2.2.2||hitB X.1 X.2.1 X.2.2.1);((q.k==2)=true->((EqR q X.1)/\b/\b/\True)/\((1=1/\Z8 1 (λ(x_2:Nat)=>[T.bool a.2]) λ(x:Nat)=>[T.bool X.2.2.2])/\(1=1/\Z8 1 (λ(x:Nat)=>[Ji g,Ji s]) λ(x:Nat)=>[Ji X.2.1,Ji X.2.2.1])/\True)/\True)/\((q.k==2)=true->br (q.k==2&&false) ((True/\True)/\(oo (m=kepA t.L g s 61 F/\True))/\f/\True) (∃(y:KpU t.L g s F),((J6 w u u/\q.p=y.1.2.1/\r/\True)/\(oo (m=y.1.2.2/\True))/\f/\True)/\Lt y.1.1 x.1.1))/\(((q.k==2)=true->False)->br (q.k==2&&false) z (∃(y:KpU t.L g s F),((J6 w u u/\q.p=y.1.2.1/\r/\True)/\(oo (a.2=y.1.2.2/\True))/\v/\True)/\Lt y.1.1 x.1.1)))) z) ⟨⟨⟨(61,F,false),Bool.false_or _,o,X5⟩,⟨U0 _,Z7⟩,Z7⟩,λx=>?_⟩
 obtain⟨⟨f,a,b⟩,e,j,r⟩:=x;dsimp only at e j r ⊢;refine⟨λhc=>?_,λhc=>?_⟩
 ·have h0:a>0:=G5 hc;have h0':¬a<=0:=by omega
  obtain⟨C,A,v,z⟩:=L.prev (show 1<=a by omega) j
  obtain⟨f,rfl⟩:∃u,f=u+1:=⟨f-1,Z9⟩
  rw[c4z h0'] at e;refine⟨Z4 Z9,⟨Z9,Z9⟩,λd=>?_,λd=>?_⟩
  ·have d:(Y8 t.L a).k=3:=beq_iff_eq.1 d;rw[if_pos d] at e;exact⟨⟨(f,(Y8 t.L a).n,b),e,X5,X5⟩,⟨⟨U0 _,Z7⟩,Z7⟩,J7⟩
  ·have d:(Y8 t.L a).k≠3:=λh=>by
    have d:((Y8 t.L a).k==3)=false:=d;rw[h] at d;cases d
   rw[if_neg d] at e;refine⟨(Y8 t.L a,g,s,b),λ_=>Z7,λh2=>⟨λi=>?_,λ_=>?_⟩,λh2=>⟨λi=>?_,λ_=>?_⟩⟩
   ·rw[Bool.and_false] at i;cases i
   ·have h2:(Y8 t.L a).k=2:=beq_iff_eq.1 h2;have l:((b||hitB (Y8 t.L a) g s)||kepA t.L g s f (Y8 t.L a).p)=kepA t.L g s 61 F:=by
     rw[←e];unfold hitB;by_cases hg:(Y8 t.L a).g=g/\(Y8 t.L a).s=s
     ·rw[if_pos ⟨h2,hg⟩,hg.1,hg.2];simp
     ·rw[if_neg λh=>hg h.2]
      have:((Y8 t.L a).g==g&&(Y8 t.L a).s==s)=false:=by
       cases B:((Y8 t.L a).g==g&&(Y8 t.L a).s==s) with
       |false=>rfl
       |true=>
        simp only[J4,beq_iff_eq] at B;exact absurd B hg
      rw[this,Bool.or_false]
    exact⟨⟨(f,(Y8 t.L a).p,b||hitB (Y8 t.L a) g s),l,X5,X5⟩,⟨⟨U0 _,Z7⟩,Z7⟩,J7⟩
   ·rw[Bool.and_false] at i;cases i
   ·have h2:¬ (Y8 t.L a).k=2:=λh=>h2 (beq_iff_eq.2 h)
    rw[if_neg λh=>h2 h.1] at e
    exact⟨⟨(f,(Y8 t.L a).p,b),e,X5,X5⟩,⟨⟨U0 _,Z7⟩,Z7⟩,J7⟩
 ·have h0:a<=0:=by have:=r8 hc;omega
  rw[c4t h0,Bool.or_false] at e;exact⟨Z7,⟨rfl,rfl,e,Z6⟩,Z7⟩
def b8f:Con:=.rel ⟨Eng×Int×Int×Int,λx=>[.bref x.1.ts,Ji x.2.1,.agg [Ji x.2.2.1,Ji x.2.2.2]],λx=>.bool (lM x.1 x.2.1 x.2.2.1 x.2.2.2),λx=>wQ x.1⟩
def b7g(e:Eng)(tx g s:Int):Nat->Ann
 |0=>.one (V5 e.X.length (oO e tx g s)) (λx=>⟨[(0,.bref e.ts),(1,Ji tx),(5,.ref 0 0 0),(13,tU e.X),(14,Ji e.X.length),(15,Ji x.1)],[a5d g s]⟩) (λx=>e.X.length-x.1) [.box 0] [.box 0] (λ_=>Z3)
 |_=>.none
theorem b3w:GK 184 b8f:=gk func184<|by
 rintro⟨e,tx,g,s⟩ ⟨hL,d,hb⟩;dsimp only at hL d hb;refine U5 (gC c4j gN) func184 (b7g e tx g s) (α:=let z:=(0=0/\0=0);let r:=(T.bref e.ts);let p:=(e.X.length:Int);(∃(x:V5 e.X.length (oO e tx g s)),(J6 (m8 [some 0]) r r/\tx=tx/\z/\(Z0 X2 e.X e.X)/\p=p/\0=(x.1:Int)/\True)/\(oo (g=g/\s=s/\True))/\True)/\∀(x:V5 e.X.length (oO e tx g s)),let q:=(x.1:Int);let u:=(e.X.getD q.toNat dz);bd (q<p) (W9 q e.X.length/\∃(X:(Sto×Int×Int×Int)),(((yR e.s X.1)/\u.Z=X.2.1/\(Fn.func 269=Fn.func 269/\z/\z/\True)/\True)/\((1=1/\Z8 1 (setRow (λ(x:Nat)=>[T.bool false]) 0 0 [T.bool false]) λ(x:Nat)=>[T.bool false])/\(1=1/\Z8 1 (λ(x:Nat)=>[Ji g,Ji s]) λ(x:Nat)=>[Ji X.2.2.1,Ji X.2.2.2])/\True)/\rG X.1.L X.2.1)/\br (kepA X.1.L X.2.2.1 X.2.2.2 61 X.2.1&&u.id !=tx) (true=lM e tx g s) (Ri (q+1)/\∃(y:V5 e.X.length (oO e tx g s)),((J6 (m8 [some 0]) r r/\tx=tx/\z/\(Z0 X2 e.X e.X)/\p=p/\q+1=(y.1:Int)/\True)/\(oo (X.2.2.1=g/\X.2.2.2=s/\True))/\True)/\Lt (e.X.length-y.1) (e.X.length-x.1))) (false=lM e tx g s)) ⟨⟨F2,⟨U0 _,Z7⟩,Z7⟩,λx=>⟨λhc=>?_,λhc=>?_⟩⟩
 ·have hlt:=Y2 hc;have hx:=hb x.1 hlt;rw[D8];have hkb:(kepA e.s.L g s 61 (e.X.getD x.1 dz).Z&&(e.X.getD x.1 dz).id !=tx)=oO e tx g s x.1:=Bool.and_comm _ _;refine⟨Y6 hlt,(e.s,(e.X.getD x.1 dz).Z,g,s),⟨⟨(jR _),Z7⟩,⟨⟨rfl,λi hi=>c0g⟩,Z7⟩,hL,hx⟩,λhq=>?_,λhq=>?_⟩
  ·exact(R8.2 ⟨x.1,hlt,hkb.symm.trans hq⟩).symm
  ·exact⟨W2 hlt Z9,x.succ hlt (hkb.symm.trans hq),⟨⟨U0 _,rfl,Z7,Z7,rfl,I8,Z6⟩,Z7⟩,V5.ext_lt hlt⟩
 ·have h:=X9 hc;exact(P4.2 λj J=>x.2.2 j (xX J h)).symm
def c2g:Con:=.rel ⟨Bz×Int×Int,λx=>[.str x.1,Ji x.2.1,Ji x.2.2],λx=>.bool (a1L x.1 x.2.1 x.2.2),λx=>x.1.length<=1000⟩
theorem b6N:GK 183 c2g:=gk func183<|by
 rintro⟨b,ta,id⟩ (h:b.length<=1000);have I:=c6o (t:=b) Z9
 obtain⟨d,e⟩:=c5E b;refine U5 (gC a86 gN) func183 Z3 (α:=Lt b.length 140737488355329/\∃(x:a0w.ι),((b=x/\True)/\lI x)/\((zH x).2.2==(0:Int)&&(zH x).1==ta&&(zH x).2.1.id==id)=a1L b ta id) ⟨Q1,b,⟨Z7,by show b.length<=_;omega⟩,?_⟩
 unfold a1L;cases r:a0I b with
 |none=>
  rw[r] at I d;rw[I,d];rfl
 |some x=>
  rw[r] at I;rw[I,e x r];rfl
def plI(a b:Int):Option Ob:=some (.arr true 1000000 2 1 λ_=>[Ji a,Ji b])
def Eng.fy(e:Eng)(v:Nat)(A:Plc):X8:=[gO (e.tn 13 14 15 16 17 18 19 20),none,none,none,none,none,none,none,none,plI 0 0,plI 0 0,plI A.a A.b,plI A.c A.d,z9 e.s.d.E,D1 e.s.d.C,z8 e.s.d.keep,j5 e.s.L,wZ v e.s.fr e.s.fr.length,sQ e.X,yX e.lk.H,sT e.lk.W]
def sO(e:Eng)(tx ta id:Int):Nat->Nat
 |0=>0
 |n+1=>if(T1 e tx ta id n).2.2=true then P7 (T1 e tx ta id n).1 n (sO e tx ta id n) else sO e tx ta id n
def slI(a b:Int):Int:=if a<0 then 0 else b
def nU(A:Plc):Plc:=⟨A.a,slI A.a A.b,A.c,slI A.c A.d⟩
def q8(e:Eng)(tx ta id:Int):{y:(Eng×Nat)×Plc×Bool//y=((R6 e (T1 e tx ta id 8).1,sO e tx ta id 8),nU (T1 e tx ta id 8).2.1,(T1 e tx ta id 8).2.2)}:=Classical.choice ⟨⟨_,rfl⟩⟩
def c57:Con:=.reff ⟨Eng×Int×Int×Int,λx=>[.ref 0 0 0,Ji x.2.1,Ji x.2.2.1,Ji x.2.2.2],λx=>x.1.bx 0,λx=>.tup [.agg [Ji (q8 x.1 x.2.1 x.2.2.1 x.2.2.2).1.2.1.a,Ji (q8 x.1 x.2.1 x.2.2.1 x.2.2.2).1.2.1.b],.agg [Ji (q8 x.1 x.2.1 x.2.2.1 x.2.2.2).1.2.1.c,Ji (q8 x.1 x.2.1 x.2.2.1 x.2.2.2).1.2.1.d],.bool (q8 x.1 x.2.1 x.2.2.1 x.2.2.2).1.2.2],λx=>(q8 x.1 x.2.1 x.2.2.1 x.2.2.2).1.1.1.nx (q8 x.1 x.2.1 x.2.2.1 x.2.2.2).1.1.2,λx=>SI x.1.s/\wQ x.1⟩
def c6H(tx ta id:Int)(F:Nat->Eng)(V:Nat->Nat)(A:Nat->Plc)(B:Nat->Bool)(X:Nat->Nat)(I:Nat->Nat->Plc):Nat->Ann
 |0=>.one (FdI B) (λx=>⟨[(0,.ref 0 0 0),(1,Ji tx),(2,Ji ta),(3,Ji id),(8,.ref 9 0 0),(9,.ref 10 0 0),(11,.ref 11 0 0),(12,.ref 12 0 0),(20,Ji x.1)],(F x.1).fy (V x.1) (A x.1)⟩) (λx=>8-x.1) a8S a8S (λx=>fun
  |1=>.one (Up 4) (λy=>⟨[(0,.ref 0 0 0),(1,Ji tx),(2,Ji ta),(3,Ji id),(8,.ref 9 0 0),(9,.ref 10 0 0),(11,.ref 11 0 0),(12,.ref 12 0 0),(13,Ji x.1),(20,Ji x.1),(36,.posl 17 (V (x.1+1)) (X x.1) 2 4),(37,Ji 4),(38,Ji y.1)],(F (x.1+1)).fy (V (x.1+1)) (I x.1 y.1)⟩) (λy=>4-y.1) a8S a8S (λ_=>Z3)
  |_=>.none)
 |_=>.none
theorem c73(e:Eng)(tx ta id:Int)(F:Nat->Eng)(V:Nat->Nat)(A:Nat->Plc)(B:Nat->Bool)(X:Nat->Nat)(I:Nat->Nat->Plc)(h:
let r:=(0=0/\0=0);let p:=(oo ((0:Int)=0/\(0:Int)=0/\True));  (∃(x:FdI B),let pi:=(A x.1);(r/\tx=tx/\ta=ta/\id=id/\r/\r/\r/\r/\0=(x.1:Int)/\True)/\BxG e (F x.1)/\T8 (p/\p/\(oo ((-1:Int)=pi.a/\0=pi.b/\True))/\(oo ((-1:Int)=pi.c/\0=pi.d/\True))/\vE (0) (V x.1) e (F x.1)))/\∀(x:FdI B),let q:=x.1;let pb:=((A q).c=(A 8).c/\(A q).d=(A 8).d/\True);let pa:=((A q).a=(A 8).a/\(A q).b=(A 8).b/\True);let n:=(V (q+1));let m:=(V (q+1)=V (q+1)/\X q=X q/\2=2/\4=4);let k:=((pa/\pb/\false=B 8/\True)/\True);let u:=(F (q+1));let ph:=(u.s.fr.getD (X q) dz);let l:=ph.pg.sl.getD;bd ((q:Int)<8) ((∃(f:(Sto×Nat×Nat)),let pk:=(P7 f.1 f.2.1 f.2.2);let w:=(Y3 f.1 f.2.1);let pf:=(w.1.fr.getD w.2.1 dz).pg.sl.length;((r/\(q:Int)=(f.2.1:Int)/\True)/\(LnS (V q) (f.2.2) (F q).s f.1)/\iS f.1 f.2.1/\w.2.2=true)/\br false (k/\lO pk (V 8) {(F q) with s:=w.1} (F 8)) (Lt w.2.1 w.1.fr.length/\(∃(g:Up 4),let t:=(I x.1 g.val);(r/\tx=tx/\ta=ta/\id=id/\r/\r/\r/\r/\(q:Int)=(q:Int)/\(q:Int)=(q:Int)/\(P7 f.1 f.2.1 f.2.2=V (q+1)/\w.2.1=X q/\2=2/\pf=4)/\(↑pf:Int)=4/\0=(g.val:Int)/\True)/\BxG {(F q) with s:=w.1} u/\T8 (p/\p/\(oo ((A q).a=t.a/\(A q).b=t.b/\True))/\(oo ((A q).c=t.c/\(A q).d=t.d/\True))/\vE pk n {(F q) with s:=w.1} u))/\∀(g:Up 4),let v:=(g.val:Int);let z:=(I x.1 g.val);bd (v<4) (W9 v 4/\PfB n n (X q) u.s.fr.length v.toNat ph.pg.sl.length/\∃(j:(Bz×Int×Int)),(decide (z.a<0)=true->(l v.toNat []=j.1/\ta=j.2.1/\id=j.2.2/\True)/\j.1.length<=1000)/\br (decide (z.a<0)&&a1L j.1 j.2.1 j.2.2) (Ri (v+1)/\∃(y:Up 4),let pc:=(I x.1 y.1);((r/\tx=tx/\ta=ta/\id=id/\r/\r/\r/\r/\(q:Int)=(q:Int)/\(q:Int)=(q:Int)/\m/\(4:Int)=4/\v+1=(y.1:Int)/\True)/\BxG u u/\T8 (p/\p/\(oo ((q:Int)=pc.a/\v=pc.b/\True))/\(oo (z.c=pc.c/\z.d=pc.d/\True))/\vE n n u u))/\Lt (4-y.1) (4-g.val)) (∃(i:(Eng×Int×Int×Int)),((decide (z.c<0)&&l v.toNat []==[])=true->(LeG u)/\((oL u i.1)/\tx=i.2.1/\((q:Int)=i.2.2.1/\v=i.2.2.2/\True)/\True)/\wQ i.1)/\br (decide (z.c<0)&&l v.toNat []==[]&& !lM i.1 i.2.1 i.2.2.1 i.2.2.2) (Ri (v+1)/\∃(y:Up 4),let pd:=(I x.1 y.1);((r/\tx=tx/\ta=ta/\id=id/\r/\r/\r/\r/\(q:Int)=(q:Int)/\(q:Int)=(q:Int)/\m/\(4:Int)=4/\v+1=(y.1:Int)/\True)/\BxG u u/\T8 (p/\p/\(oo (z.a=pd.a/\z.b=pd.b/\True))/\(oo ((q:Int)=pd.c/\v=pd.d/\True))/\vE n n u u))/\Lt (4-y.1) (4-g.val)) (Ri (v+1)/\∃(y:Up 4),let pe:=(I x.1 y.1);((r/\tx=tx/\ta=ta/\id=id/\r/\r/\r/\r/\(q:Int)=(q:Int)/\(q:Int)=(q:Int)/\m/\(4:Int)=4/\v+1=(y.1:Int)/\True)/\BxG u u/\T8 (p/\p/\(oo (z.a=pe.a/\z.b=pe.b/\True))/\(oo (z.c=pe.c/\z.d=pe.d/\True))/\vE n n u u))/\Lt (4-y.1) (4-g.val)))) (Ri ((q:Int)+1)/\∃(y:FdI B),let pj:=(A y.1);((r/\tx=tx/\ta=ta/\id=id/\r/\r/\r/\r/\(q:Int)+1=(y.1:Int)/\True)/\BxG u (F y.1)/\T8 (p/\p/\(oo (z.a=pj.a/\z.b=pj.b/\True))/\(oo (z.c=pj.c/\z.d=pj.d/\True))/\vE n (V y.1) u (F y.1)))/\Lt (8-y.1) (8-q))))∨∃(f:(Sto×Nat×Nat)),((r/\(q:Int)=(f.2.1:Int)/\True)/\(LnS (V q) (f.2.2) (F q).s f.1)/\iS f.1 f.2.1/\(Y3 f.1 f.2.1).2.2=false)/\br true (k/\lO (P7 f.1 f.2.1 f.2.2) (V 8) {(F q) with s:=(Y3 f.1 f.2.1).1} (F 8)) False) (((pa/\pb/\true=B 8/\True)/\True)/\lO (V q) (V 8) (F q) (F 8))):
  G1 prog 96 [.ref 0 0 0,Ji tx,Ji ta,Ji id] (e.bx 0) (.tup [.agg [Ji (A 8).a,Ji (A 8).b],.agg [Ji (A 8).c,Ji (A 8).d],.bool (B 8)]) ((F 8).nx (V 8)):=
 C4 (gC lG (gC lH (gC b6N (gC b3w gN)))) func96 (c6H tx ta id F V A B X I) aW h
theorem c6z{e:Eng}{tx ta id:Int}{n:Nat}(h:(T1 e tx ta id n).2.2=true):sO e tx ta id (n+1)=P7 (T1 e tx ta id n).1 n (sO e tx ta id n):=by
 conv=>lhs;unfold sO
 rw[if_pos h]
theorem b0Q{e:Eng}{tx ta id:Int}{n:Nat}(h:(T1 e tx ta id n).2.2=false):∀m,sO e tx ta id (n+m)=sO e tx ta id n
 |0=>rfl
 |m+1=>by
  have i:=b0Q h m;show(if(T1 e tx ta id (n+m)).2.2=true then _ else sO e tx ta id (n+m))=_
  rw[a1b h m,if_neg cY]
  exact i
theorem c7y(ta id:Int):a1L [] ta id=false:=rfl
theorem c7n{A:Plc}{n i:Nat}:nU ⟨n,i,A.c,A.d⟩=⟨n,i,A.c,slI A.c A.d⟩:=by
 unfold nU slI;rw[if_neg (show ¬ ((n:Int)<0) by omega)]
theorem c7H{A:Plc}{n i:Nat}:nU ⟨A.a,A.b,n,i⟩=⟨A.a,slI A.a A.b,n,i⟩:=by
 unfold nU slI;rw[if_neg (show ¬ ((n:Int)<0) by omega)]
theorem c3C:GK 96 c57:=gk func96<|by
 rintro⟨e,tx,ta,id⟩ ⟨h,N⟩;dsimp only at h N;show G1 _ _ _ _ (.tup [.agg [Ji (q8 e tx ta id).1.2.1.a,Ji (q8 e tx ta id).1.2.1.b],.agg [Ji (q8 e tx ta id).1.2.1.c,Ji (q8 e tx ta id).1.2.1.d],.bool (q8 e tx ta id).1.2.2]) ((q8 e tx ta id).1.1.1.nx (q8 e tx ta id).1.1.2);rw[(q8 e tx ta id).2];refine c73 e tx ta id (λn=>R6 e (T1 e tx ta id n).1) (sO e tx ta id) (λn=>nU (T1 e tx ta id n).2.1) (λn=>(T1 e tx ta id n).2.2) (λn=>(Y3 (T1 e tx ta id n).1 n).2.1) (λn i=>nU (vH e tx ta id n (fpg e tx ta id n) (T1 e tx ta id n).2.1 i)) ⟨⟨⟨0,Z7⟩,Z7⟩,λx=>?_⟩
 obtain⟨n,B,hv⟩:=x;dsimp only at B hv ⊢;refine⟨λhc=>?_,λhc=>?_⟩
 ·have hlt:n<8:=by have:=G5 hc;omega
  obtain⟨q,J,U⟩:=(b4e h tx ta id n B).lv hv;have l:=c6z hv;cases u:(Y3 (T1 e tx ta id n).1 n).2.2 with
  |false=>
   have j:=c4C hv u;have z:=a1b (n:=n+1) lS (8- (n+1))
   have v:=b0Q (n:=n+1) lS (8- (n+1))
   rw[show n+1+(8- (n+1))=8 by omega] at z v
   refine .inr ⟨((T1 e tx ta id n).1,n,sO e tx ta id n),⟨Z7,Z7,⟨q.iv,hlt⟩,u⟩,λ_=>?_,λF=>(by cases F)⟩
   rw[z,v,j,l];exact Z7
  |true=>
   have j:=c5a hv u;obtain⟨C,_,_,r,ps⟩:=xH q.iv hlt u;have f:(Y3 (T1 e tx ta id n).1 n).1.L=e.s.L:=(rQ q hlt u).2.trans J;have t:wQ (R6 e (Y3 (T1 e tx ta id n).1 n).1):=by
    refine⟨?_,N.2.1,?_⟩
    ·show xG (Y3 (T1 e tx ta id n).1 n).1.L;rw[f];exact N.1
    ·show ∀i,i<e.X.length->(e.X.getD i dz).Z<=((Y3 (T1 e tx ta id n).1 n).1.L.length:Int);rw[f];exact N.2.2
   have hK:=λg sl=>b0o f tx g sl
   have r:(fpg e tx ta id n).sl.length=4:=r;have ps:∀i,i<4->((fpg e tx ta id n).sl.getD i []).length<=30:=λi hi=>ps i (by show i<(fpg e tx ta id n).sl.length;omega)
   have hp:((Y3 (T1 e tx ta id n).1 n).1.fr.getD (Y3 (T1 e tx ta id n).1 n).2.1 dz).pg=fpg e tx ta id n:=rfl;have O:=b7R e tx ta id n (fpg e tx ta id n) (T1 e tx ta id n).2.1;have o:vH e tx ta id n (fpg e tx ta id n) (T1 e tx ta id n).2.1 0=(T1 e tx ta id n).2.1:=rfl;refine .inl ⟨((T1 e tx ta id n).1,n,sO e tx ta id n),⟨Z7,Z7,⟨q.iv,hlt⟩,u⟩,λF=>(by cases F),λ_=>?_⟩
   rw[j,l];have R:(T1 e tx ta id (n+1)).2.2=true:=lS
   have M:(T1 e tx ta id (n+1)).2.1=vH e tx ta id n (fpg e tx ta id n) (T1 e tx ta id n).2.1 4:=lS
   have hF:(T1 e tx ta id (n+1)).1=(Y3 (T1 e tx ta id n).1 n).1:=lS
   clear j;dsimp only;have L:(((R6 e (Y3 (T1 e tx ta id n).1 n).1).s.fr.getD (Y3 (T1 e tx ta id n).1 n).2.1 dz).pg)=fpg e tx ta id n:=rfl;rw[L,hp];generalize fpg e tx ta id n=p at*;generalize (T1 e tx ta id n).2.1=A at*;generalize vH e tx ta id n p A=I at*;refine⟨C,⟨⟨0,N7 _⟩,⟨Z7,rfl,rfl,rfl,Z7,Z7,Z7,Z7,rfl,rfl,⟨rfl,rfl,rfl,r⟩,Z9,Z7⟩,Z7,Z6,Z6,Z6,Z6,Z6,Z6,Z6,Z6,Z7,Z7,⟨rfl,rfl,by rw[o],by rw[o],Z6⟩,⟨rfl,rfl,by rw[o],by rw[o],Z6⟩,⟨rfl,X6 _ _⟩,⟨rfl,X6 _ _⟩,⟨rfl,X6 _ _⟩,⟨rfl,X6 _ _⟩,⟨rfl,rfl,mT _⟩,⟨rfl,X6 _ _⟩,⟨rfl,X6 _ _⟩,⟨rfl,X6 _ _⟩,Z6⟩,λy=>?_⟩
   obtain⟨i,hi⟩:=y;dsimp only at hi ⊢;refine⟨λhc2=>?_,λhc2=>?_⟩
   ·have hit:i<4:=by have:=G5 hc2;omega
    have hIi:=O i;have Q:=ps i hit;rw[D8];refine⟨⟨Z9,Z9⟩,⟨rfl,C,Z9⟩,(p.sl.getD i [],ta,id),λ_=>⟨Z7,X5⟩,λhq=>?_,λhq=>⟨(R6 e (Y3 (T1 e tx ta id n).1 n).1,tx,n,i),λ_=>⟨Z7,Z7,t⟩,λhr=>?_,λhr=>?_⟩⟩
    ·simp only[J4,o7] at hq;have hz:¬p.sl.getD i []=[]:=λhz=>by
      have:=hq.2;rw[hz,c7y] at this;cases this
     rw[if_neg hz,if_pos ⟨hq.2,hq.1⟩] at hIi;have e1:nU (I (i+1))=⟨n,i,(I i).c,slI (I i).c (I i).d⟩:=by rw[hIi];exact c7n
     exact⟨Z4 Z9,⟨i+1,hit⟩,⟨⟨Z7,rfl,rfl,rfl,Z7,Z7,Z7,Z7,rfl,rfl,Z7,rfl,X5,Z6⟩,Z7,Z6,Z6,Z6,Z6,Z6,Z6,Z6,Z6,Z7,Z7,⟨rfl,rfl,jT,jT,Z6⟩,⟨rfl,rfl,by rw[e1];rfl,by rw[e1];rfl,Z6⟩,⟨rfl,X6 _ _⟩,⟨rfl,X6 _ _⟩,⟨rfl,X6 _ _⟩,⟨rfl,X6 _ _⟩,⟨rfl,rfl,mT _⟩,⟨rfl,X6 _ _⟩,⟨rfl,X6 _ _⟩,⟨rfl,X6 _ _⟩,Z6⟩,J7⟩
    ·dsimp only at hr;rw[hK] at hr;simp only[J4,o7,vY,beq_iff_eq] at hr;rw[if_pos hr.1.2,if_pos ⟨hr.1.1,hr.2⟩] at hIi;have e1:nU (I (i+1))=⟨(I i).a,slI (I i).a (I i).b,n,i⟩:=by rw[hIi];exact c7H
     exact⟨Z4 Z9,⟨i+1,hit⟩,⟨⟨Z7,rfl,rfl,rfl,Z7,Z7,Z7,Z7,rfl,rfl,Z7,rfl,X5,Z6⟩,Z7,Z6,Z6,Z6,Z6,Z6,Z6,Z6,Z6,Z7,Z7,⟨rfl,rfl,by rw[e1];rfl,by rw[e1];rfl,Z6⟩,⟨rfl,rfl,jT,jT,Z6⟩,⟨rfl,X6 _ _⟩,⟨rfl,X6 _ _⟩,⟨rfl,X6 _ _⟩,⟨rfl,X6 _ _⟩,⟨rfl,rfl,mT _⟩,⟨rfl,X6 _ _⟩,⟨rfl,X6 _ _⟩,⟨rfl,X6 _ _⟩,Z6⟩,J7⟩
    ·dsimp only at hr;rw[hK] at hr;have e1:I (i+1)=I i:=by
      rw[hIi];split
      ·rename_i hz;rw[if_neg];rintro⟨a1,a2⟩;rw[hz,mN (show(nU (I i)).c<0 from a1),a2] at hr
       cases hr
      ·rw[if_neg];rintro⟨a1,a2⟩;rw[a1,mN (show(nU (I i)).a<0 from a2)] at hq
       cases hq
     exact⟨Z4 Z9,⟨i+1,hit⟩,⟨⟨Z7,rfl,rfl,rfl,Z7,Z7,Z7,Z7,rfl,rfl,Z7,rfl,X5,Z6⟩,Z7,Z6,Z6,Z6,Z6,Z6,Z6,Z6,Z6,Z7,Z7,⟨rfl,rfl,jT,jT,Z6⟩,⟨rfl,rfl,jT,jT,Z6⟩,Z7⟩,J7⟩
   ·obtain rfl:i=4:=by have:=r8 hc2;omega
    refine⟨Z4 Z9,⟨n+1,hlt,R⟩,?_,J7⟩
    dsimp only;rw[M,hF,l];exact⟨⟨Z7,rfl,rfl,rfl,Z7,Z7,Z7,Z7,Z9,Z6⟩,Z7⟩
 ·obtain rfl:n=8:=by have:=r8 hc;omega
  exact⟨⟨⟨Z7,Z7,hv.symm,Z6⟩,Z6⟩,Z7⟩
def c1T:Con:=.rel ⟨List Val,λL=>[b4E L],λL=>.bys (Q6 L L.length),λL=>L.length<=100/\∀i,i<L.length->jA (L.getD i dz)⟩
def c2P(L:List Val):Nat->Ann
 |0=>.one (Up L.length) (λx=>⟨[(3,.osl 0 0 (Q6 L x.1).length),(7,b4E L),(8,Ji L.length),(9,Ji x.1)],[some (.bys 5 (Q6 L x.1))]⟩) (λx=>L.length-x.1) [.at_ 3] [.at_ 3] (λ_=>Z3)
 |_=>.none
def c6N:Con:=.rel ⟨Int,λn=>[Ji n],λn=>.agg [Ji 1,Ji n,.str []],λ_=>True⟩
theorem c5W(n:Int)(h:
  (1:Int)=1/\n=n/\([]:Bz)=[]/\True):
  V4 prog 205 [Ji n] (.agg [Ji 1,Ji n,.str []]):=
 U5 gN func205 Z3 h
theorem c3V:GK 205 c6N:=gk func205<|λn _=>c5W n Z7
theorem b8Y:GK 204 c1T:=gk func204<|by
 rintro(L:List Val) ⟨hL,hk⟩;refine U5 (gC a2T gN) func204 (c2P L) (α:=let f:=(Z0 P9 L L);let z:=(L.length:Int);(∃(x:Up L.length),((0=0/\0=(Q6 L x.1).length)/\f/\z=z/\0=(x.1:Int)/\True)/\List.map R0 []=Q6 L x.1/\True)/\∀(x:Up L.length),let j:=(L.length-x.1);let w:=(Q6 L x.1);let u:=(x.1:Int);let r:=w.length;let q:=(L.getD u.toNat dz);let m:=(r+1+q.t.length);let v:=(List.drop 0 (List.map R0 [IntKind.u8.wrap (q.k+1)]));let p:=(List.take r w++List.take 1 v);let g:=(List.take (r+1) p++q.t);bd (u<z) (W9 u L.length/\Ri (q.k+1)/\R1 IntKind.u8 (IntKind.u8.wrap (q.k+1))/\(Le 1 1/\Le r r/\U8 r 1 1)/\br (q.k==1) (Ri (q.n+1000000000)/\∃(X:Nat),((q.n+1000000000=(X:Int)/\True)/\X<4294967296)/\(Le (r+1) p.length/\U8 (r+1) 4 1)/\Ri (u+1)/\∃(y:Up L.length),(((0=0/\r+1+4=(Q6 L y.1).length)/\f/\z=z/\u+1=(y.1:Int)/\True)/\List.take (r+1) p++z6 X=Q6 L y.1/\True)/\Lt (L.length-y.1) j) (br (q.k==2) ((Le (r+1) p.length/\U8 (r+1) q.t.length 1)/\R1 IntKind.u8 (0:Int)/\(Le 1 1/\Le m g.length/\U8 m 1 1)/\Ri (u+1)/\∃(y:Up L.length),(((0=0/\r+1+q.t.length+1=(Q6 L y.1).length)/\f/\z=z/\u+1=(y.1:Int)/\True)/\List.take m g++List.take 1 (List.drop 0 (List.map R0 [(0:Int)]))=Q6 L y.1/\True)/\Lt (L.length-y.1) j) (Ri (u+1)/\∃(y:Up L.length),(((0=0/\r+1=(Q6 L y.1).length)/\f/\z=z/\u+1=(y.1:Int)/\True)/\List.take r w++List.take 1 v=Q6 L y.1/\True)/\Lt (L.length-y.1) j))) (Le (0+r) r/\List.take r (List.drop 0 w)=Q6 L L.length)) ⟨⟨⟨0,N7 _⟩,Z7⟩,λx=>⟨λhc=>?_,λhc=>?_⟩⟩
 ·have hlt:=Y2 hc;have h1:=eL hk x.1 Z9
  have hv:=hk x.1 hlt;have u:=gP hv;rw[D8];have i:Q6 L (x.1+1)=Q6 L x.1++m6 (L.getD x.1 dz):=rfl;generalize L.getD x.1 dz=v at*;obtain⟨z,h3⟩:=hv;have e:v.k=0∨v.k=1∨v.k=2:=by
   rcases h3 with h|h|h
   ·exact .inl h
   ·exact .inr (.inl h.1)
   ·exact .inr (.inr h)
  have r:R1 IntKind.u8 (IntKind.u8.wrap (v.k+1)):=by
   rcases e with h|h|h<;>rw[h]<;>exact(pH _).2 ⟨M3,M3⟩
  have o:List.take (Q6 L x.1).length (Q6 L x.1)++List.take 1 (List.drop 0 (List.map R0 [IntKind.u8.wrap (v.k+(1:Int))]))=Q6 L x.1++[R0 (IntKind.u8.wrap (v.k+1))]:=by rw[j_l];rfl
  rw[o];generalize A:Q6 L x.1=B at*;have j:List.take (B.length+1) (B++[R0 (IntKind.u8.wrap (v.k+1))])=B++[R0 (IntKind.u8.wrap (v.k+1))]:=List.take_of_length_le W7
  refine⟨Y6 hlt,Z4 Z9,r,⟨U9 _,U9 _,Q9⟩,λhq=>?_,λhq=>⟨λd=>?_,λd=>?_⟩⟩
  ·have hq:v.k=1:=beq_iff_eq.1 hq;have hn:=(h3.resolve_left Z9).resolve_right Z9
   have g:m6 v=R0 (IntKind.u8.wrap (v.k+1))::z6 (v.n+1000000000).toNat:=by
    unfold m6;rw[if_neg Z9,if_pos hq,hq]
    rfl
   have f:Q6 L (x.1+1)=(B++[R0 (IntKind.u8.wrap (v.k+1))])++z6 (v.n+1000000000).toNat:=by rw[i,g,List.append_assoc];rfl
   refine⟨Z4 Z9,(v.n+1000000000).toNat,⟨⟨Z9,Z6⟩,Z9⟩,⟨by unfold Le;simp,Q9⟩,Z4 Z9,⟨x.1+1,hlt⟩,⟨⟨⟨rfl,?_⟩,⟨rfl,X6 _ _⟩,rfl,X5,Z6⟩,by dsimp only;rw[f,j],Z6⟩,V5.ext_lt hlt⟩
   dsimp only;rw[f,F7,F7,List.length_singleton];rfl
  ·have d:v.k=2:=beq_iff_eq.1 d;have g:m6 v=R0 (IntKind.u8.wrap (v.k+1))::(v.t++[0]):=by
    unfold m6;rw[if_neg Z9,if_neg Z9,d]
    rfl
   have f:Q6 L (x.1+1)=((B++[R0 (IntKind.u8.wrap (v.k+1))])++v.t)++[0]:=by rw[i,g];simp
   have q:List.take (B.length+1+v.t.length) ((B++[R0 (IntKind.u8.wrap (v.k+1))])++v.t)=(B++[R0 (IntKind.u8.wrap (v.k+1))])++v.t:=List.take_of_length_le C5
   refine⟨⟨by unfold Le;simp,Q9⟩,(pH _).2 ⟨M3,M3⟩,⟨U9 _,by rw[j];unfold Le;simp;omega,Q9⟩,Z4 Z9,⟨x.1+1,hlt⟩,⟨⟨⟨rfl,?_⟩,⟨rfl,X6 _ _⟩,rfl,X5,Z6⟩,by dsimp only;rw[f,j,q];rfl,Z6⟩,V5.ext_lt hlt⟩
   dsimp only;rw[f];simp;omega
  ·have l:v.k=0:=by
    rcases e with h|h|h
    ·exact h
    ·rw[h] at hq;cases hq
    ·rw[h] at d;cases d
   have g:m6 v=[R0 (IntKind.u8.wrap (v.k+1))]:=by
    unfold m6;rw[if_pos l,l];rfl
   have f:Q6 L (x.1+1)=B++[R0 (IntKind.u8.wrap (v.k+1))]:=by rw[i,g]
   refine⟨Z4 Z9,⟨x.1+1,hlt⟩,⟨⟨⟨rfl,?_⟩,Z7,rfl,X5,Z6⟩,by dsimp only;rw[f],Z6⟩,V5.ext_lt hlt⟩
   dsimp only;rw[f,F7,List.length_singleton]
 ·have hx:x.1=L.length:=by have:=x.2;have:=X9 hc;omega
  rw[hx];exact⟨J9,cI⟩
def c1F:Con:=.rel ⟨Int×Rw,λx=>[Ji x.1,.agg x.2.ts],λx=>.bys (sV x.1 x.2),λx=>RwK x.2/\1<=x.1/\x.1<=3⟩
theorem b8w:GK 117 c1F:=gk func117<|by
 rintro⟨ta,r⟩ ⟨⟨e,h,l,g⟩,j,f⟩;dsimp only at e h l g j f;refine U5 (gC c3V (gC b8Y (gC P5 gN))) func117 Z3 (α:=∃(x:Int),((ta=x/\True)/\True)/\∃(d:Int),((r.id=d/\True)/\True)/\∃(X:(List Val)),(((4=X.length/\Z8 4 (tk 3 [Ji 1,Ji x,T.str [],Ji 1,Ji d,T.str [],Ji r.n.k,Ji r.n.n,T.str r.n.t,Ji r.name.k,Ji r.name.n,T.str r.name.t]) (P9 X))/\True)/\X.length<=100/\∀(i:Nat),i<X.length->jA (List.getD X i dz))/\Q6 X (X.length)=sV ta r) ⟨ta,Z7,r.id,Z7,[⟨1,ta,[]⟩,⟨1,r.id,[]⟩,r.n,r.name],⟨⟨⟨rfl,λi hi=>?_⟩,Z6⟩,by show 4<=100;omega,λi hi=>?_⟩,rfl⟩
 ·match i,hi with
  |0,_=>rfl
  |1,_=>rfl
  |2,_=>rfl
  |3,_=>rfl
 ·match i,hi with
  |0,_=>exact⟨a9Q,.inr (.inl ⟨rfl,by show-1000000000<=ta;omega,by show ta<=_;omega⟩)⟩
  |1,_=>exact⟨a9Q,.inr (.inl ⟨rfl,by show-1000000000<=r.id;omega,by show r.id<=_;omega⟩)⟩
  |2,_=>exact e
  |3,_=>exact h
theorem c76{a:Int}(h:(a !=0)=true):¬a=0:=w9
theorem c2q{a:Int}(h:(a !=0)=false):a=0:=w9
def zB(e:Eng)(k:Nat)(ta tm id rm:Int):(Eng×Nat)×Int:=
 if(R3 e k ta (-1) tm).2=0 then(((R3 (R3 e k ta (-1) tm).1 k ta id rm).1,uY (R3 e k ta (-1) tm).1 k ta id rm),(R3 (R3 e k ta (-1) tm).1 k ta id rm).2)
 else(((R3 e k ta (-1) tm).1,uY e k ta (-1) tm),(R3 e k ta (-1) tm).2)
def zR(e:Eng)(tx ta tm id rm:Int):(Eng×Nat)×Int:=if(G3 e tx).2=0 then zB e (G3 e tx).1.toNat ta tm id rm else((e,0),(G3 e tx).2)
theorem b7C{e:Eng}{k:Nat}{ta row mo:Int}(h:(R3 e k ta row mo).2=0):uY e k ta row mo=0:=by
 unfold uY;rw[if_neg];intro d;unfold R3 at h;rw[if_pos d] at h;dsimp only at h;split at h<;>cases h
theorem c47{e:Eng}{k:Nat}{ta tm id rm:Int}(h:(zB e k ta tm id rm).2=0):zB e k ta tm id rm=((pD (pD e k ta (-1) tm) k ta id rm,0),0):=by
 unfold zB at h ⊢;split at h
 ·rename_i d;have f:=a0n d;rw[if_pos d,f];rw[f] at h;dsimp only at h ⊢;rw[a0n h,b7C h]
 ·rename_i d;exact absurd h d
def b9k:Con:=.reff ⟨Eng×Int×Int×Int×Int×Int,λx=>[.ref 0 0 0,Ji x.2.1,Ji x.2.2.1,Ji x.2.2.2.1,Ji x.2.2.2.2.1,Ji x.2.2.2.2.2],λx=>x.1.bx 0,λx=>Ji (zR x.1 x.2.1 x.2.2.1 x.2.2.2.1 x.2.2.2.2.1 x.2.2.2.2.2).2,λx=>(zR x.1 x.2.1 x.2.2.1 x.2.2.2.1 x.2.2.2.2.1 x.2.2.2.2.2).1.1.nx (zR x.1 x.2.1 x.2.2.1 x.2.2.2.1 x.2.2.2.2.1 x.2.2.2.2.2).1.2,λx=>R2 x.1=true/\M6 x.1⟩
theorem a7u{e:Eng}{tx ta tm id rm:Int}(h:¬ (G3 e tx).2=0):zR e tx ta tm id rm=((e,0),(G3 e tx).2):=if_neg h
theorem a2k{e:Eng}{tx ta tm id rm:Int}{k:Nat}(h:(G3 e tx).2=0)(d:(G3 e tx).1=k):zR e tx ta tm id rm=zB e k ta tm id rm:=by
 unfold zR;rw[if_pos h,d,D8]
theorem b2s:GK 95 b9k:=gk func95<|by
 rintro⟨e,tx,ta,tm,id,rm⟩ ⟨ho,hm⟩;dsimp only at ho hm;have h:=(xF (u3 ho).2.1).1;refine C4 (gC b1w (gC b5S gN)) func95 Z3 aW (α:=let p:=(zR e tx ta tm id rm);∃(x:(Eng×Int)),((LeG e)/\((oL e x.1)/\tx=x.2/\True)/\L8 x.1.X.length)/\br ((G3 x.1 x.2).2 !=0) (((G3 x.1 x.2).2=p.2/\True)/\lO (0) (p.1.2) e p.1.1) (∃(x:(Eng×Nat×Int×Int×Int×Int)),let r:=x.2.2.2;let u:=(uY x.1 x.2.1 x.2.2.1 r.1 r.2.1);let q:=(R3 x.1 x.2.1 x.2.2.1 r.1 r.2.1);(((0=0/\0=0)/\tx=r.2.2/\ta=x.2.2.1/\(-1:Int)=r.1/\tm=r.2.1/\True)/\(iM (0) (0) e x.1)/\XI x.1 x.2.1 r.2.2)/\br (q.2 !=0) ((q.2=p.2/\True)/\lO u (p.1.2) q.1 p.1.1) (∃(X:(Eng×Nat×Int×Int×Int×Int)),let z:=(R3 X.1 X.2.1 X.2.2.1 X.2.2.2.1 X.2.2.2.2.1);(((0=0/\0=0)/\tx=X.2.2.2.2.2/\ta=X.2.2.1/\id=X.2.2.2.1/\rm=X.2.2.2.2.1/\True)/\(iM u (0) q.1 X.1)/\XI X.1 X.2.1 X.2.2.2.2.2)/\(z.2=p.2/\True)/\lO (uY X.1 X.2.1 X.2.2.1 X.2.2.2.1 X.2.2.2.2.1) (p.1.2) z.1 p.1.1))) ⟨(e,tx),⟨Z7,Z7,rT⟩,λhq=>?_,λhq=>?_⟩
 ·rw[a7u (b1h hq)];exact Z7
 ·obtain⟨hu,k,e1,hk,hi,ha⟩:=a1F (a3o hq);have hX:=b0x ho hm hu ha hk hi;rw[a2k (a3o hq) e1];refine⟨(e,k,ta,-1,tm,tx),⟨Z7,Z7,hX⟩,λhq=>?_,λhq=>?_⟩
  ·have d:zB e k ta tm id rm=(((R3 e k ta (-1) tm).1,uY e k ta (-1) tm),(R3 e k ta (-1) tm).2):=if_neg (b1h hq);rw[d];exact Z7
  ·have hq:=a3o hq;have d:zB e k ta tm id rm=(((R3 (R3 e k ta (-1) tm).1 k ta id rm).1,uY (R3 e k ta (-1) tm).1 k ta id rm),(R3 (R3 e k ta (-1) tm).1 k ta id rm).2):=if_pos hq;have f:=a0n hq;have g:=b7C hq;rw[d];dsimp only;rw[f,g];exact⟨(pD e k ta (-1) tm,k,ta,id,rm,tx),⟨Z7,Z7,sI hX ta (-1) tm⟩,Z7⟩
end
end Go.Proofs.YtpdnnhnfongoeaaGreat
