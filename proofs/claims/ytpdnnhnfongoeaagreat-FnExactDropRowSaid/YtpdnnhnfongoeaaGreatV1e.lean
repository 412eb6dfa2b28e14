/- A part of the proof. -/
import Derived.Test.YtpdnnhnfongoeaaGreatU1
import Derived.Test.YtpdnnhnfongoeaaGreatU32
import Derived.Test.YtpdnnhnfongoeaaGreatY1
namespace Go.Proofs.YtpdnnhnfongoeaaGreat
set_option maxRecDepth 100000
open Go.SS Go.Proofs.Tryz
noncomputable section
def Q1(L:List Val)(i:Nat):List T:=(L.getD i dz).ts
def b4C(L:List Val):T:=.sl 3 L.length (Q1 L)
def isZ(l:Bz)(i:Nat):Bool:=(0:Int)==((l.getD i 0).toNat:Int)
def vN(l:Bz):Int:=S6 l.length (isZ l)
def b3N:Con:=.rel ⟨Bz,λl=>[.bys l,.int .u8 0],λl=>Ji (vN l),λl=>L7 l.length⟩
def b4I(l:Bz):Nat->Ann
 |0=>.one (V5 l.length (isZ l)) (λx=>⟨[(0,.bys l),(1,.int .u8 0),(7,Ji l.length),(8,Ji x.1)],[]⟩) (λx=>l.length-x.1) [] [] (λ_=>Z3)
 |_=>.none
theorem sY{a b:Int}(h:(a==b)=false):a≠b:=λe=>by rw[e] at h;simp at h
theorem a6H:GK 336 b3N:=gk func336<|by
 intro(l:Bz) (hL:l.length<1000000000000);refine U6 gN func336 (b4I l) (α:=let p:=(l.length:Int);(∃(x:V5 l.length (isZ l)),(l=l/\(0:Int)=0/\p=p/\0=(x.1:Int)/\True)/\True)/\∀(x:V5 l.length (isZ l)),let q:=(x.1:Int);bd (q<p) (W9 q l.length/\br ((0:Int)==(↑(l.getD q.toNat (0:UInt8)).toNat:Int)) (q=vN l) (Ri (q+1)/\∃(y:V5 l.length (isZ l)),((l=l/\(0:Int)=0/\p=p/\q+1=(y.1:Int)/\True)/\True)/\Lt (l.length-y.1) (l.length-x.1))) ((-1:Int)=vN l)) ⟨⟨F9,Z8⟩,λx=>⟨λC=>?_,λC=>?_⟩⟩
 ·have h:=Y2 C;exact⟨Y6 h,λhp=>(O0 h hp x.2.2).symm,λhp=>⟨W4 h Z9,x.succ h hp,⟨⟨rfl,rfl,rfl,J2,Z6⟩,Z6⟩,V5.ext_lt h⟩⟩
 ·have e:=Y0 C;exact(K4 λj J=>x.2.2 j (yB J e)).symm
def J8(l:Bz):Val×Bz×Bool:=
 if numR l-1=1 then(⟨1,be (T5 (l.drop 1) 4)-1000000000,[]⟩,Q8 (l.drop 1) 4,big (l.drop 1) 4|| !O1 ⟨1,be (T5 (l.drop 1) 4)-1000000000,[]⟩)
 else if numR l-1=2 then
  if vN (l.drop 1)<0 then(⟨2,0,[]⟩,l.drop 1,true)
  else(⟨2,0,(l.drop 1).take (vN (l.drop 1)).toNat⟩,(l.drop 1).drop ((vN (l.drop 1)).toNat+1), !O1 ⟨2,0,(l.drop 1).take (vN (l.drop 1)).toNat⟩)
 else(⟨numR l-1,0,[]⟩,l.drop 1, !O1 ⟨numR l-1,0,[]⟩)
def lJ(l:Bz):Prop:=l.length<=1000000000
def a9x:Rle:=⟨Bz,λ_=>[.ref 0 0 0],λl=>[rdr l false],λl=>.agg (J8 l).1.ts,λl=>[rdr (J8 l).2.1 (J8 l).2.2],λl=>l≠[]/\lJ l⟩
def c2u:Con:=.reff a9x
theorem b6K:GK 275 c2u:=gk func275<|by
 rintro(l:Bz) ⟨h0,(hl:l.length<=1000000000)⟩;have N:=r9 l;have f:l.isEmpty=false:=by cases l with|nil=>exact absurd rfl h0|cons=>rfl
 have hd:(l.drop 1).length<=1000000000:=by rw[List.length_drop];omega
 have h:(T5 (l.drop 1) 4).length<=4:=by
  unfold T5;split
  ·rw[List.length_replicate];omega
  ·rw[List.length_take];omega
 refine vcE (gC eN (gC qJ (gC a2D (gC a6H (gC jW gN))))) func275 Z3 (bs:=[true]) (α:=let j:=(J8 l).1.t;let w:=(J8 l).1.n;let y:=(J8 l).1.k;let u:=(J8 l).2.2;let z:=(J8 l).2.1;let q:=(numR l-1=y/\0=w/\[]=j/\True);let p:=(List.drop 1 l);Ri (numR l-1)/\br (numR l-1==1) (s6 (4:Int)/\∃(x:a5E.ι),let r:=(↑(be x):Int);((T5 p 4=x/\True)/\mO x)/\Ri (r-1000000000)/\∃(X:E9.ι),((false||l.isEmpty||big p (4:Int))=false->((numR l-1=X.k/\r-1000000000=X.n/\[]=X.t/\True)/\True)/\aE X.t)/\(numR l-1=y/\r-1000000000=w/\[]=j/\True)/\(1=1/\1=1/\Q8 p 4=z/\(false||l.isEmpty||big p (4:Int)|| !O1 X)=u/\True)/\True) (br (numR l-1==2) (∃(x:(Bz)),let v:=(Q8 p (vN x));((List.drop 1 l=x/\(0:Int)=0/\True)/\L7 (x.length))/\bd (vN x<0) (q/\(1=1/\1=1/\List.drop 1 l=z/\true=u/\True)/\True) (s6 (vN x)/\s6 (1:Int)/\∃(X:E9.ι),((false||l.isEmpty||big p (vN x)||big v (1:Int))=false->((numR l-1=X.k/\0=X.n/\T5 p (vN x)=X.t/\True)/\True)/\aE X.t)/\(numR l-1=y/\0=w/\T5 p (vN x)=j/\True)/\(1=1/\1=1/\Q8 v 1=z/\(false||l.isEmpty||big p (vN x)||big v (1:Int)|| !O1 X)=u/\True)/\True)) (∃(x:E9.ι),((false||l.isEmpty)=false->((numR l-1=x.k/\0=x.n/\[]=x.t/\True)/\True)/\aE x.t)/\q/\(1=1/\1=1/\List.drop 1 l=z/\(false||l.isEmpty|| !O1 x)=u/\True)/\True))) ⟨Z4 Z9,λhk=>⟨by unfold s6;omega,T5 (l.drop 1) 4,⟨Z8,h⟩,?_,⟨1,be (T5 (l.drop 1) 4)-1000000000,[]⟩,λ_=>⟨⟨⟨beq_iff_eq.1 hk,Z8⟩,Z6⟩,b0i⟩,?_⟩,λhk=>⟨λhk2=>⟨l.drop 1,⟨Z8,sU⟩,λhx=>?_,λhx=>?_⟩,λhk2=>?_⟩⟩
 ·have:=a4D (T5 (l.drop 1) 4) h;have e:be (T5 (l.drop 1) 4)=j8 (T5 (l.drop 1) 4) (T5 (l.drop 1) 4).length:=rfl;exact Z4 Z9
 ·have hk:numR l-1=1:=beq_iff_eq.1 hk;unfold J8;rw[if_pos hk,f];exact⟨⟨hk,Z8⟩,Z8⟩
 ·have hk':numR l-1≠1:=sY hk;have hk2:numR l-1=2:=beq_iff_eq.1 hk2;have hx:vN (l.drop 1)<0:=G6 hx;unfold J8;rw[if_neg hk',if_pos hk2,if_pos hx];exact⟨⟨hk2,Z8⟩,Z8⟩
 ·have hk':numR l-1≠1:=sY hk;have hk2:numR l-1=2:=beq_iff_eq.1 hk2;have hx:¬vN (l.drop 1)<0:=m9 hx;obtain⟨i,hi,hz,_,hix⟩:=lZ hx;have hix:vN (l.drop 1)=(i:Int):=hix;have b1:big (l.drop 1) (i:Int)=false:=by unfold big;rw[tQ Z9]
  have g:T5 (l.drop 1) (i:Int)=(l.drop 1).take i:=by unfold T5;rw[b1];rfl
  have r:Q8 (l.drop 1) (i:Int)=(l.drop 1).drop i:=by unfold Q8;rw[b1];rfl
  have b2:big ((l.drop 1).drop i) 1=false:=by unfold big;rw[tQ (by rw[List.length_drop];omega)]
  have R:Q8 ((l.drop 1).drop i) 1=(l.drop 1).drop (i+1):=by
   unfold Q8;rw[b2];show((l.drop 1).drop i).drop 1=_;rw[List.drop_drop]
  unfold J8;rw[if_neg hk',if_pos hk2,if_neg hx,hix,g,r,R,b1,b2,f];refine⟨⟨Z9,Z9⟩,by unfold s6;omega,⟨2,0,(l.drop 1).take i⟩,λ_=>⟨⟨⟨hk2,Z8⟩,Z6⟩,by unfold aE L7;rw[List.length_take];omega⟩,⟨hk2,rfl,rfl,Z6⟩,⟨rfl,rfl,rfl,rfl,Z6⟩,Z6⟩
 ·have hk':numR l-1≠1:=sY hk;have d:numR l-1≠2:=sY hk2;unfold J8;rw[if_neg hk',if_neg d,f];exact⟨⟨numR l-1,0,[]⟩,λ_=>⟨Z8,b0i⟩,Z8⟩
theorem a3O{l:Bz}(h:l≠[]):(J8 l).2.1.length<l.length:=by
 have hp:0<l.length:=List.length_pos_iff.2 h;have hd:(l.drop 1).length<l.length:=by rw[List.length_drop];omega
 have r:∀(m:Bz) (n:Int),(Q8 m n).length<=m.length:=λm n=>by
  unfold Q8;split
  ·omega
  ·rw[List.length_drop];omega
 unfold J8;split
 ·exact Nat.lt_of_le_of_lt (r _ _) hd
 ·split
  ·split
   ·exact hd
   ·show((l.drop 1).drop _).length<_;rw[List.length_drop];omega
  ·exact hd
def m8:Nat->Bz->Bool->List Val->List Val×Bool
 |0,_,f,acc=>(acc, !f)
 |n+1,l,f,acc=>if l=[]∨f=true then(acc, !f) else m8 n (J8 l).2.1 (J8 l).2.2 (acc++[(J8 l).1])
def O9(l:Bz):List Val×Bool:=m8 l.length l false []
def bB:Rl:=⟨Bz,λb=>[.bys b],λb=>.tup [b4C (O9 b).1,.bool (O9 b).2],lJ⟩
def b4a:Con:=.rel bB
def a96(b:Bz):Type:={x:Nat×Bz×Bool×List Val//m8 x.1 x.2.1 x.2.2.1 x.2.2.2=O9 b/\x.2.1.length<=x.1/\x.2.2.2.length+x.1<=b.length}
def b4l(b:Bz):Nat->Ann
 |0=>.one (a96 b) (λx=>⟨[(4,.ref 0 0 0),(5,.osl 1 0 x.1.2.2.2.length)],[rdr x.1.2.1 x.1.2.2.1,some (.arr true 0 3 x.1.2.2.2.length (Q1 x.1.2.2.2))]⟩) (λx=>x.1.1) b5m [.box 0,.arr 3] (λ_=>Z3)
 |_=>.none
theorem hJ(L:List Val)(v:Val):Z7 (L.length+1) (X4 (Q1 L) L.length λk=>List.take 3 (List.drop (k*3) v.ts)) (Q1 (L++[v])):=by
 intro i hi;by_cases h:i<L.length
 ·rw[M9 h];simp[Q1,rL h]
 ·obtain rfl:i=L.length:=by omega
  rw[N4 (U9 _),j_h];simp[Q1,Val.ts]
theorem lF{n:Nat}{l:Bz}{acc:List Val}(h:l≠[])(N:l.length<=n):m8 n l false acc=m8 (n-1) (J8 l).2.1 (J8 l).2.2 (acc++[(J8 l).1]):=by
 have hp:0<l.length:=List.length_pos_iff.2 h;obtain⟨m,rfl⟩:∃m,n=m+1:=⟨n-1,Z9⟩
 conv=>lhs;unfold m8
 rw[if_neg dM]
 rfl
theorem nY{n:Nat}{l:Bz}{f:Bool}{acc:List Val}(h:l=[]∨f=true):m8 n l f acc=(acc, !f):=by
 cases n with
 |zero=>rfl
 |succ n=>unfold m8;rw[if_pos h]
theorem a7Y:GK 188 b4a:=gk func188<|by
 intro(b:Bz) (hb:b.length<=1000000000);refine U6 (gC b6K gN) func188 (b4l b) (α:=let u:=(0=0/\0=0);(∃(x:a96 b),let r:=x.1.2.2;(u/\(0=0/\0=r.2.length)/\True)/\(1=1/\1=1/\b=x.1.2.1/\false=r.1/\True)/\(0=r.2.length/\Z7 0 (λ(k:Nat)=>List.take 3 (List.drop (k*3) [])) (Q1 r.2))/\True)/\∀(x:a96 b),let p:=x.1.2.2;let q:=p.2.length;br (decide ((x.1.2.1.length:Int)>0)&& ! p.1) (∃(X:a9x.ι),((u/\True)/\((1=1/\Z7 1 (λ(x_2:Nat)=>[T.bys x.1.2.1,T.bool p.1]) λ(x:Nat)=>[T.bys X,T.bool false])/\True)/\X≠[]/\lJ X)/\(Le 1 1/\Le p.2.length q/\U8 p.2.length 1 32)/\∃(y:a96 b),let z:=y.1.2.2;((u/\(0=0/\q+1=z.2.length)/\True)/\(1=1/\1=1/\(J8 X).2.1=y.1.2.1/\(J8 X).2.2=z.1/\True)/\(q+1=z.2.length/\Z7 (q+1) (X4 (Q1 p.2) p.2.length λ(k:Nat)=>List.take 3 (List.drop (k*3) [Ji (J8 X).1.k,Ji (J8 X).1.n,T.str (J8 X).1.t])) (Q1 z.2))/\True)/\Lt y.1.1 x.1.1) (Le (0+q) q/\(Z0 Q1 p.2 (O9 b).1)/\(! p.1)=(O9 b).2/\True)) ⟨⟨⟨(b.length,b,false,[]),rfl,U9 _,by dsimp only[List.length_nil];omega⟩,⟨⟨rfl,rfl⟩,⟨rfl,rfl⟩,Z6⟩,⟨rfl,rfl,rfl,rfl,Z6⟩,⟨rfl,nG _ _⟩,Z6⟩,λx=>?_⟩
 obtain⟨⟨n,l,f,acc⟩,e,L,N⟩:=x;dsimp only at e L N ⊢;refine⟨λhc=>?_,λhc=>?_⟩
 ·simp only[I4,q8,wA] at hc;obtain⟨hp,rfl⟩:=hc;have h0:l≠[]:=λh=>by rw[h] at hp;simp at hp
  have hv:=a3O h0;rw[lF h0 L] at e;refine⟨l,⟨Z8,⟨⟨rfl,λi hi=>b97⟩,Z6⟩,h0,by unfold lJ;omega⟩,⟨U9 _,U9 _,R0⟩,⟨(n-1,(J8 l).2.1,(J8 l).2.2,acc++[(J8 l).1]),e,X5,a3X⟩,⟨⟨Z8,⟨rfl,jZ⟩,Z6⟩,Z8,⟨jZ,hJ _ _⟩,Z6⟩,show n-1<n by omega⟩
 ·have d:l=[]∨f=true:=by
   cases f with
   |true=>exact .inr rfl
   |false=>
    refine .inl (List.length_eq_zero_iff.1 ?_)
    have hc:(decide ((l.length:Int)>0)&& !false)=false:=hc;simp only[Bool.not_false,Bool.and_true,uI] at hc;omega
  rw[nY d] at e;rw[←e];exact⟨K2,Z8⟩
def R6(t:Bz):List Val×Bool:=if(O9 t).2=true then O9 t else([],false)
def a2F:Con:=.rel ⟨Bz,λt=>[.str t],λt=>.tup [b4C (R6 t).1,.bool (R6 t).2],lJ⟩
structure KSt where
 n:Nat
 at_:Nat
 acc:List Val
def a0L(t:Bz):Type:={x:KSt//m8 x.n (t.drop x.at_) false x.acc=O9 t/\x.at_<=t.length/\t.length-x.at_<=x.n/\x.acc.length+x.n<=t.length}
def NoZ(t:Bz)(a:Nat):Type:={k:Nat//a<=k/\k<=t.length/\∀j,a<=j->j<k->isZ t j=false}
def knd(t:Bz)(a:Nat):Int:=((t.getD a 0).toNat:Int)-1
def a1W(t:Bz):Nat->Ann
 |0=>.one (a0L t) (λx=>⟨[(0,.str t),(4,.osl 0 0 x.1.acc.length),(5,Ji x.1.at_)],[some (.arr true 0 3 x.1.acc.length (Q1 x.1.acc))]⟩) (λx=>t.length-x.1.at_) [.arr 0] [.arr 3] (λx=>fun
  |1=>.one (NoZ t (x.1.at_+1)) (λy=>⟨[(0,.str t),(4,.osl 0 0 x.1.acc.length),(5,Ji (x.1.at_+1:Nat)),(6,.ref 1 0 0),(7,Ji y.1)],[some (.arr true 0 3 x.1.acc.length (Q1 x.1.acc)),some (.arr true 1000000 3 1 λ_=>[Ji (knd t x.1.at_),Ji 0,.str []])]⟩) (λy=>t.length-y.1) cL cL (λ_=>Z3)
  |_=>.none)
 |_=>.none
theorem a21{t:Bz}{n:Nat}{l:Bz}{acc:List Val}(h:m8 n l false acc=O9 t)(d:l≠[])(L:l.length<=n)(f:(J8 l).2.2=true):R6 t=([],false):=by
 rw[lF d L,f,nY (.inr rfl)] at h;unfold R6;rw[←h];rfl
theorem gH{t:Bz}{n:Nat}{l:Bz}{acc:List Val}(h:m8 n l false acc=O9 t)(d:l≠[])(L:l.length<=n){v:Val}{r:Bz}(hv:J8 l=(v,r,false)):m8 (n-1) r false (acc++[v])=O9 t:=by
 rw[lF d L,hv] at h;exact h
theorem a2N{k n:Int}{s:Bz}(d:k≠0)(h:k≠1)(e:k≠2):O1 ⟨k,n,s⟩=false:=by
 unfold O1;dsimp only;rw[if_neg d,if_neg h,show(k==2)=false from beq_eq_false_iff_ne.2 e]
 rfl
theorem a0s{t:Bz}(a i:Nat):(t.drop a).getD i 0=t.getD (a+i) 0:=by
 rw[P4,P4,List.getElem?_drop]
theorem gQ(t:Bz)(a i:Nat):isZ (t.drop a) i=isZ t (a+i):=by unfold isZ;rw[a0s]
theorem c7q(t:Bz)(k:Nat):(((t.getD k 0).toNat:Int) !=0)= !isZ t k:=by
 unfold isZ;rw[show(((t.getD k 0).toNat:Int) !=0)= !(((t.getD k 0).toNat:Int)==0) from rfl]
 congr 1
 rw[Bool.eq_iff_iff,beq_iff_eq,beq_iff_eq];exact eq_comm
theorem bX:GK 169 a2F:=gk func169<|by
 intro(t:Bz) (hb:t.length<=1000000000);refine U6 (gC kF (gC cI gN)) func169 (a1W t) (α:=let g:=(λ(k:Nat)=>List.take 3 (List.drop (k*3) []));let m:=(t.length:Int);let p:=(Le 0 0/\(0=(R6 t).1.length/\Z7 0 g (Q1 (R6 t).1))/\false=(R6 t).2/\True);(∃(x:a0L t),(t=t/\(0=0/\0=x.1.acc.length)/\0=(x.1.at_:Int)/\True)/\(0=x.1.acc.length/\Z7 0 g (Q1 x.1.acc))/\True)/\∀(x:a0L t),let w:=x.1.acc;let z:=x.1.at_;let l:=((z:Int)+1);let c:=(t.length-z);let f:=((z:Int)+1+4);let j:=(↑(z+1):Int);let r:=w.length;let u:=(Le 1 1/\Le w.length r/\U8 w.length 1 32);let q:=(↑(t.getD (z:Int).toNat (0:UInt8)).toNat:Int);let a:=(IntKind.i64.wrap q-1);bd ((z:Int)<m) (W9 (z:Int) t.length/\Ri a/\Ri l/\br (IntKind.i64.wrap q-1==0) (∃(X:E9.ι),(((IntKind.i64.wrap q-1=X.k/\0=X.n/\[]=X.t/\True)/\True)/\aE X.t)/\br (!O1 X) p (u/\∃(y:a0L t),((t=t/\(0=0/\r+1=y.1.acc.length)/\(z:Int)+1=(y.1.at_:Int)/\True)/\(r+1=y.1.acc.length/\Z7 (r+1) (X4 (Q1 w) w.length λ(k:Nat)=>List.take 3 (List.drop (k*3) [Ji a,Ji 0,T.str []])) (Q1 y.1.acc))/\True)/\Lt (t.length-y.1.at_) c)) (br (IntKind.i64.wrap q-1==1) (Ri f/\bd ((z:Int)+1+4>m) p (Ri f/\b1O l f t.length/\∃(X:iN.ι),let b:=((↑(be X):Int)-1000000000);((List.drop l.toNat (List.take f.toNat t)=X/\True)/\mO X)/\Ri b/\Ri f/\∃(d:E9.ι),(((IntKind.i64.wrap q-1=d.k/\(↑(be X):Int)-1000000000=d.n/\[]=d.t/\True)/\True)/\aE d.t)/\br (!O1 d) p (u/\∃(y:a0L t),((t=t/\(0=0/\r+1=y.1.acc.length)/\(z:Int)+1+4=(y.1.at_:Int)/\True)/\(r+1=y.1.acc.length/\Z7 (r+1) (X4 (Q1 w) w.length λ(k:Nat)=>List.take 3 (List.drop (k*3) [Ji a,Ji b,T.str []])) (Q1 y.1.acc))/\True)/\Lt (t.length-y.1.at_) c))) ((∃(X:NoZ t (x.1.at_+1)),(t=t/\(0=0/\r=r)/\(z:Int)+1=j/\(0=0/\0=0)/\(z:Int)+1=(X.val:Int)/\True)/\(Z0 Q1 x.1.acc w)/\(1=1/\1=1/\IntKind.i64.wrap q-1=knd t z/\(0:Int)=0/\([]:Bz)=[]/\True)/\True)/\∀(X:NoZ t (x.1.at_+1)),let v:=(X.val:Int);let i:=(List.take v.toNat t);(decide (v<m)=true->W9 v t.length)/\br (decide (v<m)&&(↑(t.getD v.toNat (0:UInt8)).toNat:Int) !=0) (Ri (v+1)/\∃(y:NoZ t (x.1.at_+1)),((t=t/\(0=0/\r=r)/\j=j/\(0=0/\0=0)/\v+1=(y.1:Int)/\True)/\(Z0 Q1 x.1.acc w)/\(1=1/\1=1/\knd t z=knd t z/\(0:Int)=0/\([]:Bz)=[]/\True)/\True)/\Lt (t.length-y.1) (t.length-X.val)) (br (v==m) p (b1O j v t.length/\Ri (v+1)/\∃(d:E9.ι),(((knd t z=d.k/\0=d.n/\List.drop j.toNat i=d.t/\True)/\True)/\aE d.t)/\br (!O1 d) p (u/\∃(y:a0L t),((t=t/\(0=0/\r+1=y.1.acc.length)/\v+1=(y.1.at_:Int)/\True)/\(r+1=y.1.acc.length/\Z7 (r+1) (X4 (Q1 w) w.length λ(k:Nat)=>List.take 3 (List.drop (k*3) [Ji (knd t z),Ji 0,T.str (List.drop j.toNat i)])) (Q1 y.1.acc))/\True)/\Lt (t.length-y.1.at_) c)))))) (Le (0+r) r/\(Z0 Q1 x.1.acc (R6 t).1)/\true=(R6 t).2/\True)) ⟨⟨⟨⟨t.length,0,[]⟩,rfl,N5 _,U9 _,by dsimp only[List.length_nil];omega⟩,⟨rfl,⟨rfl,rfl⟩,rfl,Z6⟩,⟨rfl,nG _ _⟩,Z6⟩,λx=>?_⟩
 obtain⟨⟨n,a,acc⟩,he,C,o,N⟩:=x;dsimp only at he C o N ⊢;rw[E4,uP];have q:=yN t a;have L:(t.drop a).length<=n:=by rw[List.length_drop];exact o
 refine⟨λhc=>?_,λhc=>?_⟩
 ·have hlt:=Y2 hc;have h0:t.drop a≠[]:=λh=>by have:=congrArg List.length h;rw[List.length_drop,List.length_nil] at this;omega
  have i:numR (t.drop a)-1=((t.getD a 0).toNat:Int)-1:=by unfold numR;rw[a0s];rfl
  have hd:(t.drop a).drop 1=t.drop (a+1):=by rw[List.drop_drop]
  have O:∀{P:Prop},(J8 (t.drop a)).2.2=true->(R6 t=([],false)->P)->P:=λF h=>h (a21 he h0 L F)
  have fin:(J8 (t.drop a)).2.2=true->Le 0 0/\((0:Nat)=(R6 t).1.length/\Z7 0 (λk=>List.take 3 (List.drop (k*3) [])) (Q1 (R6 t).1))/\false=(R6 t).2/\True:=λF=>by
   rw[a21 he h0 L F];exact⟨U9 _,⟨rfl,nG _ _⟩,Z8⟩
  refine⟨Y6 hlt,Z4 Z9,W4 hlt Z9,λk0=>?_,λk0=>⟨λk1=>?_,λk1=>?_⟩⟩
  ·have k0:((t.getD a 0).toNat:Int)-1=0:=beq_iff_eq.1 k0;have hv:J8 (t.drop a)=(⟨0,0,[]⟩,t.drop (a+1), !O1 ⟨0,0,[]⟩):=by
    unfold J8;rw[if_neg Z9,if_neg Z9,hd,i,k0]
   rw[k0];refine⟨⟨0,0,[]⟩,⟨Z8,b0i⟩,λhq=>fin (by rw[hv];exact hq),λhq=>⟨⟨U9 _,U9 _,R0⟩,⟨⟨n-1,a+1,acc++[(⟨0,0,[]⟩:Val)]⟩,gH he h0 L (by rw[hv,hq]),X5,X5,a3X⟩,⟨⟨rfl,⟨rfl,jZ⟩,X5,Z6⟩,⟨jZ,hJ acc ⟨0,0,[]⟩⟩,Z6⟩,show t.length- (a+1)<t.length-a by omega⟩⟩
  ·have k1:((t.getD a 0).toNat:Int)-1=1:=beq_iff_eq.1 k1;have g:big (t.drop (a+1)) 4=decide ((a:Int)+1+4>t.length):=by
    unfold big;rw[List.length_drop];exact decide_eq_decide.2 Z9
   have hv:J8 (t.drop a)=(⟨1,be (T5 (t.drop (a+1)) 4)-1000000000,[]⟩,Q8 (t.drop (a+1)) 4,big (t.drop (a+1)) 4|| !O1 ⟨1,be (T5 (t.drop (a+1)) 4)-1000000000,[]⟩):=by
    unfold J8;rw[if_pos Z9,hd]
   refine⟨Z4 Z9,λf=>fin (by rw[hv,g,f];rfl),λf=>?_⟩
   have z:¬ ((a:Int)+1+4>t.length):=m9 f;rw[f] at g;have v:T5 (t.drop (a+1)) 4=List.drop (a+1) (List.take (a+5) t):=by
    unfold T5;rw[g,List.drop_take,show a+5- (a+1)=4 by omega]
    rfl
   have R:Q8 (t.drop (a+1)) 4=t.drop (a+5):=by
    unfold Q8;rw[g];show(t.drop (a+1)).drop 4=_;rw[List.drop_drop]
   rw[g,v,R,Bool.false_or] at hv;have l:(List.drop (a+1) (List.take (a+5) t)).length<=4:=by rw[List.length_drop,List.length_take];omega
   have I:=a4D (List.drop (a+1) (List.take (a+5) t)) l;have A:be (List.drop (a+1) (List.take (a+5) t))=j8 (List.drop (a+1) (List.take (a+5) t)) (List.drop (a+1) (List.take (a+5) t)).length:=rfl;rw[k1,show((a:Int)+1+4).toNat=a+5 by omega,show((a:Int)+1).toNat=a+1 by omega]
   refine⟨Z4 Z9,⟨Z9,Z9,Z9⟩,List.drop (a+1) (List.take (a+5) t),⟨Z8,l⟩,Z4 Z9,Z4 Z9,⟨1,be (List.drop (a+1) (List.take (a+5) t))-1000000000,[]⟩,⟨Z8,b0i⟩,λhq=>fin (by rw[hv];exact hq),λhq=>⟨⟨U9 _,U9 _,R0⟩,⟨⟨n-1,a+5,acc++[⟨1,be (List.drop (a+1) (List.take (a+5) t))-1000000000,[]⟩]⟩,gH he h0 L (by rw[hv,hq]),X5,X5,a3X⟩,⟨⟨rfl,⟨rfl,jZ⟩,X5,Z6⟩,⟨jZ,hJ acc ⟨1,be (List.drop (a+1) (List.take (a+5) t))-1000000000,[]⟩⟩,Z6⟩,show t.length- (a+5)<t.length-a by omega⟩⟩
  ·have k0:((t.getD a 0).toNat:Int)-1≠0:=sY k0;have k1:((t.getD a 0).toNat:Int)-1≠1:=sY k1;have hkn:knd t a=((t.getD a 0).toNat:Int)-1:=rfl;refine⟨⟨⟨a+1,U9 _,hlt,λj h1 h2=>Z9⟩,⟨rfl,Z8,Z9,Z8,X5,Z6⟩,Z8⟩,λy=>?_⟩
   obtain⟨k,u,r,hkz⟩:=y;dsimp only;rw[E4,E4,c7q];refine⟨λhy=>Y6 (Y2 hy),λhy=>?_,λhy=>⟨λhq=>fin ?_,λhq=>?_⟩⟩
   ·simp only[I4,q8,wA] at hy;refine⟨Z4 Z9,⟨k+1,Z9,Z9,λj h1 h2=>?_⟩,⟨⟨rfl,Z8,rfl,Z8,X5,Z6⟩,Z8⟩,show t.length- (k+1)<t.length-k by omega⟩
    by_cases hj:j=k
    ·rw[hj];exact hy.2
    ·exact hkz j h1 Z9
   ·have hq:(k:Int)=t.length:=beq_iff_eq.1 hq;unfold J8;rw[if_neg Z9]
    by_cases k2:((t.getD a 0).toNat:Int)-1=2
    ·rw[if_pos Z9,hd]
     have:vN (t.drop (a+1))= -1:=K4 λj hj=>by
      rw[List.length_drop] at hj;rw[gQ];exact hkz _ Z9 Z9
     rw[if_pos Z9]
    ·rw[if_neg Z9]
     dsimp only;rw[i,a2N k0 k1 k2];rfl
   ·have hq:(k:Int)≠t.length:=sY hq;have hkl:k<t.length:=by omega
    rw[mR (show(k:Int)<t.length by omega),Bool.true_and,wX] at hy
    have B:List.drop (a+1) (List.take k t)=(t.drop (a+1)).take (k- (a+1)):=by rw[List.drop_take]
    refine⟨⟨Z9,Z9,Z9⟩,Z4 Z9,⟨knd t a,0,List.drop (a+1) (List.take k t)⟩,⟨Z8,by unfold aE L7;rw[List.length_drop,List.length_take];omega⟩,?_⟩
    by_cases k2:((t.getD a 0).toNat:Int)-1=2
    ·have hix:vN (t.drop (a+1))=((k- (a+1):Nat):Int):=O0 (by rw[List.length_drop];omega) (by rw[gQ,show a+1+(k- (a+1))=k by omega];exact hy) λj hj=>by rw[gQ];exact hkz _ Z9 Z9
     have hv:J8 (t.drop a)=(⟨2,0,List.drop (a+1) (List.take k t)⟩,t.drop (k+1), !O1 ⟨2,0,List.drop (a+1) (List.take k t)⟩):=by
      unfold J8;rw[if_neg Z9,if_pos Z9,hd,hix,if_neg Z9,E4,B,List.drop_drop,show a+1+(k- (a+1)+1)=k+1 by omega]
     rw[hkn,k2];refine⟨λhq=>fin (by rw[hv];exact hq),λhq=>⟨⟨U9 _,U9 _,R0⟩,⟨⟨n-1,k+1,acc++[⟨2,0,List.drop (a+1) (List.take k t)⟩]⟩,gH he h0 L (by rw[hv,hq]),X5,X5,a3X⟩,⟨⟨rfl,⟨rfl,jZ⟩,X5,Z6⟩,⟨jZ,hJ acc ⟨2,0,List.drop (a+1) (List.take k t)⟩⟩,Z6⟩,show t.length- (k+1)<t.length-a by omega⟩⟩
    ·have hbad:O1 ⟨knd t a,0,List.drop (a+1) (List.take k t)⟩=false:=a2N k0 k1 k2;refine⟨λ_=>fin ?_,λhq=>?_⟩
     ·unfold J8;rw[if_neg Z9,if_neg Z9]
      dsimp only;rw[i,a2N k0 k1 k2];rfl
     ·rw[hbad] at hq;cases hq
 ·have hge:=Y0 hc;have:t.drop a=[]:=List.drop_eq_nil_of_le hge;rw[this,nY (.inl rfl)] at he;have e:R6 t=(acc,true):=by unfold R6;rw[←he];rfl
  rw[e];exact⟨K2,Z8⟩
def rw0:Rw:=⟨0,⟨0,0,[]⟩,⟨0,0,[]⟩⟩
def zQ(L:List Val):Int×Rw:=((L.getD 0 dz).n,⟨(L.getD 1 dz).n,L.getD 2 dz,L.getD 3 dz⟩)
def jC(x:List Val×Bool):Bool:= !x.2||((x.1.length:Int) !=4)||((x.1.getD 0 dz).k !=1)||((x.1.getD 1 dz).k !=1)
def sR(t:Bz):Int×Rw×Bool:=if(jC (R6 t)|| !V9 (zQ (R6 t).1).1 1 3)=true then(0,rw0,false) else((zQ (R6 t).1).1,(zQ (R6 t).1).2,j4 (zQ (R6 t).1).2)
def zM(t:Bz):Int×Rw×Int:=if(t.length:Int)>65536 then(0,rw0,2) else if(jC (O9 t)||(!V9 (zQ (O9 t).1).1 1 3|| !j4 (zQ (O9 t).1).2))=true then(0,rw0,3) else((zQ (O9 t).1).1,(zQ (O9 t).1).2,0)
def a0r:Rl:=⟨Bz,λb=>[.bys b],λb=>.tup [Ji (zM b).1,.agg (zM b).2.1.ts,Ji (zM b).2.2],lJ⟩
def b3q:Con:=.rel a0r
theorem a9e{l:Bz}{B:Nat}(h:l.length<=B):(J8 l).1.t.length<=B:=by
 unfold J8;split
 ·exact N5 _
 ·split
  ·split
   ·exact N5 _
   ·show((l.drop 1).take _).length<=B;rw[List.length_take,List.length_drop];omega
  ·exact N5 _
theorem a1E{B:Nat}:∀(n:Nat) (l:Bz) (f:Bool) (acc:List Val),l.length<=B->(∀v ∈ acc,v.t.length<=B)->∀v ∈ (m8 n l f acc).1,v.t.length<=B:=by
 intro n;induction n with
 |zero=>intro l f acc _ h;exact h
 |succ n i=>
  intro l f acc L h;unfold m8;split
  ·exact h
  ·rename_i hc;have h0:l≠[]:=λh=>hc (.inl h)
   have:=a3O h0;refine i _ _ _ Z9 λv hv=>?_
   rcases List.mem_append.1 hv with hv|hv
   ·exact h v hv
   ·rw[List.mem_singleton.1 hv];exact a9e L
theorem lD{l:Bz}(h:lJ l){i:Nat}:aE ((O9 l).1.getD i dz).t:=by
 have h:l.length<=1000000000:=h;show _<1000000000000;rw[P4]
 cases q:(O9 l).1[i]? with
 |none=>show 0<1000000000000;omega
 |some v=>
  have:=a1E l.length l false [] h (λv hv=>absurd hv W7) v (y7 q)
  show v.t.length<_;omega
theorem b35{x:List Val×Bool}{b:Bool}(h:(!x.2||((x.1.length:Int) !=4)||b)=false):x.1.length=4:=by
 simp only[wU,bne_eq_false_iff_eq] at h;omega
theorem c4H{x:List Val×Bool}(h:(!x.2||((x.1.length:Int) !=4))=false):x.1.length=4:=b35 (b:=false) (by rw[h];rfl)
theorem kT{n:Nat}(h:n=4){i:Int}(d:0<=i)(e:i<=3):W9 i n:=⟨d,Z9⟩
theorem a83:GK 99 b3q:=gk func99<|by
 intro(b:Bz) hb;refine U6 (gC a7Y (gC fM (gC b9Z gN))) func99 Z3 (α:=let u:=(zM b).2.2;let p:=(0=(zM b).2.1.id/\0=(zM b).2.1.n.k/\0=(zM b).2.1.n.n/\[]=(zM b).2.1.n.t/\0=(zM b).2.1.name.k/\0=(zM b).2.1.name.n/\[]=(zM b).2.1.name.t/\True);let z:=(0=(zM b).1/\p/\3=u/\True);bd ((b.length:Int)>65536) (0=(zM b).1/\p/\2=u/\True) (∃(x:bB.ι),let r:=(O9 x).1.length;let v:=(↑r:Int);let q:=(O9 x).1.getD;((b=x/\True)/\lJ x)/\((!(O9 x).2||v !=4)=false->W9 (0:Int) r)/\((!(O9 x).2||v !=4||(q 0 dz).k !=1)=false->W9 (1:Int) r)/\br (!(O9 x).2||v !=4||(q 0 dz).k !=1||(q 1 dz).k !=1) z (W9 (0:Int) r/\W9 (1:Int) r/\W9 (2:Int) r/\W9 (3:Int) r/\∃(d:Int),(((q 0 dz).n=d/\True)/\True)/\∃(X:iS.ι),((!V9 d (1:Int) (3:Int))=false->(((q 1 dz).n=X.id/\(q 2 dz).k=X.n.k/\(q 2 dz).n=X.n.n/\(q 2 dz).t=X.n.t/\(q 3 dz).k=X.name.k/\(q 3 dz).n=X.name.n/\(q 3 dz).t=X.name.t/\True)/\True)/\RwB X)/\br (!V9 d (1:Int) (3:Int)|| !j4 X) z ((q 0 dz).n=(zM b).1/\((q 1 dz).n=(zM b).2.1.id/\(q 2 dz).k=(zM b).2.1.n.k/\(q 2 dz).n=(zM b).2.1.n.n/\(q 2 dz).t=(zM b).2.1.n.t/\(q 3 dz).k=(zM b).2.1.name.k/\(q 3 dz).n=(zM b).2.1.name.n/\(q 3 dz).t=(zM b).2.1.name.t/\True)/\0=u/\True)))) ⟨λh=>?_,λh=>⟨b,⟨Z8,hb⟩,λh=>kT (c4H h) Z9 Z9,λh=>kT (b35 h) Z9 Z9,λq=>?_,λq=>?_⟩⟩
 ·have e:zM b=(0,rw0,2):=by unfold zM;rw[if_pos (G6 h)]
  rw[e];exact Z8
 ·have e:zM b=(0,rw0,3):=by
   have q:jC (O9 b)=true:=q;unfold zM;rw[if_neg (m9 h),q,Bool.true_or,if_pos rfl]
  rw[e];exact Z8
 ·have l:(O9 b).1.length=4:=by
   rw[wU] at q;exact b35 q.1
  have q:jC (O9 b)=false:=q;refine⟨kT l Z9 Z9,kT l Z9 Z9,kT l Z9 Z9,kT l Z9 Z9,_,Z8,(zQ (O9 b).1).2,λ_=>⟨Z8,lD hb,lD hb⟩,λg=>?_,λg=>?_⟩
  ·have e:zM b=(0,rw0,3):=by
    have g:(!V9 (zQ (O9 b).1).1 1 3|| !j4 (zQ (O9 b).1).2)=true:=g;unfold zM;rw[if_neg (m9 h),q,g,Bool.or_true,if_pos rfl]
   rw[e];exact Z8
  ·have e:zM b=((zQ (O9 b).1).1,(zQ (O9 b).1).2,0):=by
    have g:(!V9 (zQ (O9 b).1).1 1 3|| !j4 (zQ (O9 b).1).2)=false:=g;unfold zM;rw[if_neg (m9 h),q,g,if_neg W7]
   rw[e];exact Z8
def b1p:Con:=.rel ⟨Bz,λt=>[.str t],λt=>.tup [Ji (sR t).1,.agg (sR t).2.1.ts,.bool (sR t).2.2],lJ⟩
theorem eJ{l:Bz}(h:lJ l){i:Nat}:aE ((R6 l).1.getD i dz).t:=by
 unfold R6;split
 ·exact lD h
 ·show 0<1000000000000;omega
theorem a6Q:GK 82 b1p:=gk func82<|by
 intro(t:Bz) hb;refine U6 (gC bX (gC A2 (gC b4B gN))) func82 Z3 (α:=∃(x:(Bz)),let q:=(R6 x).1.length;let r:=(↑q:Int);let p:=(R6 x).1.getD;let z:=(p 0 dz).k;((t=x/\True)/\lJ x)/\((!(R6 x).2||r !=4)=false->W9 (0:Int) q)/\((!(R6 x).2||r !=4||z !=1)=false->W9 (1:Int) q)/\((!(R6 x).2||r !=4||z !=1||(p 1 dz).k !=1)=false->W9 (0:Int) q)/\br (!(R6 x).2||r !=4||z !=1||(p 1 dz).k !=1|| !V9 (p 0 dz).n (1:Int) (3:Int)) (0=(sR t).1/\(0=(sR t).2.1.id/\0=(sR t).2.1.n.k/\0=(sR t).2.1.n.n/\[]=(sR t).2.1.n.t/\0=(sR t).2.1.name.k/\0=(sR t).2.1.name.n/\[]=(sR t).2.1.name.t/\True)/\false=(sR t).2.2/\True) (W9 (1:Int) q/\W9 (2:Int) q/\W9 (3:Int) q/\W9 (0:Int) q/\∃(X:iS.ι),((((p 1 dz).n=X.id/\(p 2 dz).k=X.n.k/\(p 2 dz).n=X.n.n/\(p 2 dz).t=X.n.t/\(p 3 dz).k=X.name.k/\(p 3 dz).n=X.name.n/\(p 3 dz).t=X.name.t/\True)/\True)/\RwB X)/\(p 0 dz).n=(sR t).1/\((p 1 dz).n=(sR t).2.1.id/\(p 2 dz).k=(sR t).2.1.n.k/\(p 2 dz).n=(sR t).2.1.n.n/\(p 2 dz).t=(sR t).2.1.n.t/\(p 3 dz).k=(sR t).2.1.name.k/\(p 3 dz).n=(sR t).2.1.name.n/\(p 3 dz).t=(sR t).2.1.name.t/\True)/\j4 X=(sR t).2.2/\True)) ⟨t,⟨Z8,hb⟩,λh=>kT (c4H h) Z9 Z9,λh=>kT (b35 h) Z9 Z9,λh=>kT (by rw[wU] at h;exact b35 h.1) Z9 Z9,λq=>?_,λq=>?_⟩
 ·have e:sR t=(0,rw0,false):=by
   have q:(jC (R6 t)|| !V9 (zQ (R6 t).1).1 1 3)=true:=q;unfold sR;rw[if_pos q]
  rw[e];exact Z8
 ·have l:(R6 t).1.length=4:=by
   rw[wU,wU] at q;exact b35 q.1.1
  have e:sR t=((zQ (R6 t).1).1,(zQ (R6 t).1).2,j4 (zQ (R6 t).1).2):=by
   have q:(jC (R6 t)|| !V9 (zQ (R6 t).1).1 1 3)=false:=q;unfold sR;rw[if_neg (by rw[q];simp)]
  rw[e];exact⟨kT l Z9 Z9,kT l Z9 Z9,kT l Z9 Z9,kT l Z9 Z9,(zQ (R6 t).1).2,⟨Z8,eJ hb,eJ hb⟩,Z8⟩
def a0D(t:Bz):Option (Int×Rw):=if(jC (O9 t)||(!V9 (zQ (O9 t).1).1 1 3|| !j4 (zQ (O9 t).1).2))=true then none else some (zQ (O9 t).1)
theorem c51{t:Bz}(h:t.length<=65536):zM t=match a0D t with|some x=>(x.1,x.2,0)|none=>(0,rw0,3):=by
 unfold zM a0D;rw[if_neg Z9]
 split<;>rfl
theorem c5j(t:Bz):(sR t).2.2=(a0D t).isSome/\∀x,a0D t=some x->sR t=(x.1,x.2,true):=by
 have e:jC (R6 t)=jC (O9 t):=by
  unfold R6;split
  ·rfl
  ·rename_i h;unfold jC;rw[show(O9 t).2=false by simpa using h]
   rfl
 unfold sR a0D;rw[e];cases hp:jC (O9 t)
 ·have d:R6 t=O9 t:=by
   unfold R6;rw[if_pos];unfold jC at hp;simp only[wU,wX] at hp;exact hp.1.1.1
  rw[d];cases hi:V9 (zQ (O9 t).1).1 1 3
  ·exact⟨rfl,λx hx=>by cases hx⟩
  ·cases hr:j4 (zQ (O9 t).1).2
   ·exact⟨rfl,λx hx=>by cases hx⟩
   ·refine⟨rfl,λx hx=>?_⟩
    cases hx;rfl
 ·exact⟨rfl,λx hx=>by cases hx⟩
structure DG(d:Dsk):Prop where
 ar:d.A=false
 kp:d.keep.length=0
 n69:d.E.length=69
 sc:∀i,i<69->(d.E.getD i []).length<=160
 cc:∀i,i<d.C.length->0<=(d.C.getD i dz).at_/\(d.C.getD i dz).at_<69/\(d.C.getD i dz).d.length<=160
theorem DG.pd{d:Dsk}(h:DG d):aR d:=λi hi=>by
 have:=h.cc i hi;rw[h.n69];omega
theorem DG.P{d:Dsk}(h:DG d)(C:d.C.length<=500):G4 d:=by
 have f:=h.n69;have e:=h.kp;refine⟨Z9,Z9,C,Z9,λ_=>e,λi hi=>h.sc i Z9,λi hi=>?_⟩
 obtain⟨j,c2,g⟩:=h.cc i hi;unfold P3 V9;rw[f];simp only[wU,wX,I4,q8,uI];omega
theorem c61{r:Rec}(h:P0 r=true):r.b.length<=30/\r.a.length<=38:=by
 have h:=(Q4 r).1 h;unfold zK at h;obtain⟨_,_,_,_,_,_,_,_,_,_,_,_,_,_,B,f,e⟩:=h;refine⟨Z9,?_⟩
 by_cases d:r.k=6
 ·exact a1j (f d).2.2.2.2.2.2
 ·have:=(e d).2.2.1;omega
def FrP(n:Nat)(f:Frm):Prop:=0<=f.no/\f.no<=7/\PgP f.pg/\f.pg.Q<=n/\0<=f.first/\f.first<=n/\(f.D=true↔0<f.first)
structure GInv(s:Sto):Prop where
 dg:DG s.d
 ca:s.d.C.length<=500
 ep:1<=s.ep/\s.ep<=60
 l60:s.L.length<=60
 rc:yZ s.L=true
 su:0<=s.S/\s.S<=s.L.length
 be:∀i,i<s.L.length->vC s i=false
 pg:∀no,no<8->(P7 s.d no).2=true/\(P7 s.d no).1.Q<=s.S
 fr3:s.fr.length<=3
 fp:∀i,i<s.fr.length->FrP s.L.length (s.fr.getD i dz)
 nd:∀i j,i<s.fr.length->j<s.fr.length->(s.fr.getD i dz).no=(s.fr.getD j dz).no->i=j
 cl:∀i,i<s.fr.length->(s.fr.getD i dz).D=false->(P7 s.d (s.fr.getD i dz).no.toNat).1=(s.fr.getD i dz).pg
 hd:0<=s.J/\s.J<=2
 lg:∀i,i<s.S.toNat->S1 s.d (9+i)=J7 (s.L.getD i dz)
 lz:∀i,s.S.toNat<=i->i<60->S1 s.d (9+i)=[]
theorem c3L{L:List Frm}{no:Int}(h:0<=frAt L no):(L.getD (frAt L no).toNat dz).no=no:=by
 unfold frAt S6 at h ⊢;split at h
 ·rename_i i hi;have:=List.find?_some hi
  simpa[lB] using this
 ·omega
theorem c3x{L:List Frm}{i:Nat}(hi:i<L.length)(nd:∀i j,i<L.length->j<L.length->(L.getD i dz).no=(L.getD j dz).no->i=j):frAt L (L.getD i dz).no=i:=by
 have h:0<=frAt L (L.getD i dz).no:=Classical.byContradiction λh=>a9v h hi rfl
 have d:=iK h;have:(L.getD (frAt L (L.getD i dz).no).toNat dz).no=(L.getD i dz).no:=c3L h;have:=nd _ _ d hi this;omega
theorem GInv.ok{s:Sto}(h:GInv s):G2 s=true:=by
 refine(G8 s).2 ⟨⟨(o8 s).2 ⟨h.dg.P h.ca,h.dg.n69,h.ep.1,h.ep.2,h.l60⟩,h.rc,?_⟩,h.be,λno n=>?_,?_,?_⟩
 ·have:=h.su;simp[V9,this]
 ·obtain⟨a,b⟩:=h.pg no n;unfold c8;rw[a];simp only[Bool.not_true,Bool.false_or,uI];omega
 ·unfold zG;have h3:=h.fr3;rw[P5.2 λi hi=>?_]
  ·simp;omega
  ·obtain⟨p1,p2,p3,p4,p5,p6,p7⟩:=h.fp i hi;unfold zC;rw[c3x hi h.nd,show k7 (s.fr.getD i dz).pg=true from mR p3]
   simp only[V9,wU,wX,I4,q8,uI,bne_self_eq_false,true_and,and_true,Bool.not_true,bne_eq_false_iff_eq];refine⟨⟨⟨⟨p1,p2⟩,Z9⟩,p5,p6⟩,?_⟩
   rw[Bool.eq_iff_iff,q8];exact p7.symm
 ·have:=h.hd;simp[V9,this]
theorem GInv.sm{s:Sto}(h:GInv s):iH s:=by
 have f:=h.dg.n69;have d:=h.dg.kp;have j:=h.ca;have e:=h.l60;have g:=h.fr3;refine⟨⟨Z9,Z9,Z9⟩,Z9,Z9,λi hi=>?_⟩
 have:=(h.fp i hi).2.2.1.2.2.1;unfold SmF SmG;omega
theorem GInv.inv{s:Sto}(h:GInv s):SInv s:=a9q h.ok h.sm
structure OutP(s a:Sto)(k:Nat):Prop where
 g:GInv a
 le:a.fr.length=s.fr.length
 no:∀i,(a.fr.getD i dz).no=(s.fr.getD i dz).no/\(a.fr.getD i dz).pg=(s.fr.getD i dz).pg
 cl:(a.fr.getD k dz).D=false
 L:a.L=s.L/\a.ep=s.ep/\a.J=s.J/\s.S<=a.S
 ls:(s.fr.getD k dz).D=true->(s.fr.getD k dz).pg.Q<=a.S
structure FetP(s a:Sto)(k:Nat)(no:Nat):Prop where
 g:GInv a
 kk:k<a.fr.length
 no:(a.fr.getD k dz).no=no
 L:a.L=s.L/\a.ep=s.ep/\s.S<=a.S
def c9s(s:Sto)(r:Rec):Sto:=⟨s.d,s.ep,s.L++[P9 s r],s.S,s.fr,s.J⟩
theorem c72{s:Sto}{r:Rec}(h:GInv s)(z:s.L.length<60)(R:P0 (P9 s r)=true):GInv (c9s s r):=by
 have L:(s.L++[P9 s r]).length=s.L.length+1:=W7
 have eG:=λi hi=>cT dz s.L (P9 s r) i hi
 have u:=h.su;have f:=h.ep;refine⟨h.dg,h.ca,h.ep,by show(s.L++[_]).length<=_;omega,C5.2 λi hi=>?_,⟨u.1,by show s.S<=((s.L++[_]).length:Nat);omega⟩,λi hi=>?_,h.pg,h.fr3,λi hi=>?_,h.nd,h.cl,h.hd,λi hi=>?_,h.lz⟩
 ·show P0 ((s.L++[_]).getD i dz)=true/\((s.L++[_]).getD i dz).l=_;have hi:i<(s.L++[P9 s r]).length:=hi;rw[eG i Z9]
  split
  ·rename_i e;exact⟨R,by rw[e];rfl⟩
  ·exact C5.1 h.rc i Z9
 ·have hi:i<(s.L++[P9 s r]).length:=hi;unfold vC;show(!V9 ((s.L++[P9 s r]).getD i dz).e (yV (s.L++[P9 s r]) i) s.ep)=false;have hb:=λj hj=>h.be j hj
  unfold vC at hb;rw[eG i Z9]
  by_cases e:i=s.L.length
  ·rw[if_pos e];show(!V9 s.ep _ s.ep)=false;have:yV (s.L++[P9 s r]) i<=s.ep:=by
    unfold yV;split
    ·exact f.1
    ·rw[eG (i-1) Z9,if_neg Z9]
     have:=c6V (hb (i-1) Z9)
     exact this.2
   simp[V9,this]
  ·rw[if_neg e,←hb i Z9]
   have:yV (s.L++[P9 s r]) i=yV s.L i:=by
    unfold yV;split
    ·rfl
    ·rw[eG (i-1) Z9,if_neg Z9]
   rw[this]
 ·have F:FrP s.L.length (s.fr.getD i dz):=h.fp i hi;obtain⟨o,q,g,v,n,x,t⟩:=F;show FrP (s.L++[P9 s r]).length (s.fr.getD i dz);rw[L];exact⟨o,q,g,Z9,n,Z9,t⟩
 ·have hi:i<s.S.toNat:=hi;show S1 s.d (9+i)=J7 ((s.L++[P9 s r]).getD i dz);rw[eG i Z9,if_neg Z9]
  exact h.lg i hi
def LI(L:List Rec):Prop:=xL L/\∀a:Int,1<=a->a<=L.length->(Y8 L a).k<=3->((Y8 L a).p=0∨ownR L (Y8 L a).p (Y8 L a).t=true)/\((Y8 L a).k=3->ownR L (Y8 L a).n (Y8 L a).t=true)
def InT(T:List Txn)(x:Int):Prop:=∃j,j<T.length/\(T.getD j dz).id=x
structure EH(L:List Rec)(T:List Txn)(lk:Lks)(nx:Int):Prop where
 li:LI L
 t10:T.length<=10
 nxr:1<=nx/\nx<=61
 lks:C0 lk=true
 id:∀i,i<T.length->1<=(T.getD i dz).id/\(T.getD i dz).id<=nx-1
 asc:∀i j,i<j->j<T.length->(T.getD i dz).id<(T.getD j dz).id
 ow:∀i,i<T.length->ownR L (T.getD i dz).Z (T.getD i dz).id=true
 hd:∀i,i<lk.H.length->InT T (lk.H.getD i dz).tx
 wt:∀i,i<lk.W.length->InT T (lk.W.getD i dz).tx/\InT T (lk.W.getD i dz).fo
 rm:L.length+tR L T T.length<=60
structure EI(e:Eng):Prop where
 g:GInv e.s
 up:e.up=true
 h:EH e.s.L e.X e.lk e.N
theorem c8w{L:List Rec}{a id:Int}(h:ownR L a id=true):(Y8 L a).t=id/\1<=(Y8 L a).k/\(Y8 L a).k<=3:=by
 unfold ownR at h;simp only[I4,K7,beq_iff_eq] at h;exact⟨h.1.2,h.2⟩
theorem b6Z{L:List Rec}(h:LI L){id:Int}:∀(f:Nat) (a:Int),a.toNat<f->(a<=0∨ownR L a id=true)->chn L id f a=true
 |0,_,hf,_=>absurd hf (D4 _)
 |f+1,a,hf,ha=>by
  unfold chn;rcases ha with ha|ha
  ·rw[mR ha];rfl
  ·obtain⟨h1,h2⟩:=a5T ha;obtain⟨t1,t2,t3⟩:=c8w ha;obtain⟨p1,p2,p3,p4⟩:=h.1.prev h1 h2;obtain⟨b1,b2⟩:=h.2 a h1 h2 t3;rw[t1] at b1 b2;have hc:chn L id f (Y8 L a).p=true:=b6Z h f _ Z9 (b1.imp (λe=>Z9) λe=>e)
   rw[hc,Bool.and_true];have o:okR L id a=true:=by
    unfold okR;rw[ha,Bool.true_and];by_cases d:(Y8 L a).k=3
    ·rw[b2 d,Bool.or_true]
    ·rw[show((Y8 L a).k !=3)=true by simpa using d];rfl
   rw[o,Bool.or_true]
theorem c9a{L:List Rec}(h:LI L){t:Txn}(o:ownR L t.Z t.id=true):nF L t=true:=by
 obtain⟨d,e⟩:=a5T o;have:=h.1.1;unfold nF;rw[K7.2 ⟨d,e⟩,Bool.true_and];exact b6Z h 61 _ Z9 (.inr o)
theorem a1q{T:List Txn}{x:Int}(h:InT T x):¬T9 T x<0:=λn=>by
 obtain⟨j,J,e⟩:=h;have d:=D1 T.length (x9 T x);have f:anyI T.length (x9 T x)=true:=R9.2 ⟨j,J,by unfold x9;rw[e];exact beq_self_eq_true x⟩
 rw[f] at d;have:=G6 d;have g:S6 T.length (x9 T x)<0:=n;omega
theorem EI.r{e:Eng}(h:EI e):sP e=true:=by
 obtain⟨_,u,l,t10,nx,lk,id,asc,o,hd,t,rm⟩:=h;unfold sP wD upE;rw[if_pos u];simp only[I4,q8,K7,wA];refine⟨⟨⟨t10,nx⟩,lk⟩,⟨⟨?_,?_⟩,?_⟩,rm⟩
 ·refine P5.2 λi hi=>?_
  unfold z4;simp only[wU,wX,Bool.and_eq_false_iff,uI,K7];refine⟨⟨id i hi,?_⟩,c9a l (o i hi)⟩
  by_cases d:i=0
  ·exact .inl Z9
  ·have:=asc (i-1) i Z9 hi
   exact .inr Z9
 ·refine P5.2 λi hi=>?_
  unfold wR;exact tQ (a1q (hd i hi))
 ·refine P5.2 λi hi=>?_
  unfold s9;rw[tQ (a1q (t i hi).1),tQ (a1q (t i hi).2)];rfl
theorem EI.ok{e:Eng}(h:EI e):R2 e=true:=by
 unfold R2;rw[h.g.ok,h.r];rfl
theorem EI.sm{e:Eng}(h:EI e):M2 e:=by
 have d:=b6x h.h.lks;have f:=h.h.t10;exact⟨h.g.sm,Z9,Z9,Z9⟩
theorem EH.at_{L:List Rec}{T:List Txn}{lk:Lks}{nx:Int}(h:EH L T lk nx){k:Nat}(d:k<T.length):T9 T (T.getD k dz).id=k:=
 O0 d (by unfold x9;exact beq_self_eq_true _) λj J=>by
  have:=h.asc j k J d;unfold x9;exact beq_eq_false_iff_ne.2 Z9
theorem c3f{T:List Txn}{k:Nat}(i:Nat)(d:k<T.length):(T.take k++T.drop (k+1)).getD i dz=T.getD (if i<k then i else i+1) dz:=by
 have l:(T.take k).length=k:=by rw[List.length_take];omega
 by_cases h:i<k
 ·rw[if_pos h,P4,rL Z9,List.getElem?_take_of_lt h,←P4]
 ·rw[if_neg h,P4,qA Z9,l,List.getElem?_drop,show k+1+(i-k)=i+1 by omega,←P4]
theorem c2m{T:List Txn}{k:Nat}(h:k<T.length):(T.take k++T.drop (k+1)).length=T.length-1:=by
 rw[F6,List.length_take,List.length_drop];omega
theorem b8z{L:List Rec}{T:List Txn}{k:Nat}(d:k<T.length):∀n,n<T.length->tR L (T.take k++T.drop (k+1)) n+(if k<=n then 1+und L 61 (T.getD k dz).Z else 0)=tR L T (if k<=n then n+1 else n)
 |0,_=>by
  by_cases h:k=0
  ·subst h;rw[if_pos (U9 _),if_pos (U9 _)];show 0+_=0+_;rfl
  ·rw[if_neg Z9,if_neg Z9]
   rfl
 |n+1,hn=>by
  have ih:=b8z (L:=L) d n Z9
  have e:tR L (T.take k++T.drop (k+1)) (n+1)=tR L (T.take k++T.drop (k+1)) n+(1+und L 61 (T.getD (if n<k then n else n+1) dz).Z):=by
   conv=>lhs;unfold tR
   rw[c3f n d]
  by_cases h:k<=n
  ·rw[if_pos h,if_pos h] at ih;have e1:(if n<k then n else n+1)=n+1:=if_neg Z9
   rw[e1] at e;have f:(if k<=n+1 then n+1+1 else n+1)=n+1+1:=if_pos Z9
   have e2:tR L T (n+1+1)=tR L T (n+1)+(1+und L 61 (T.getD (n+1) dz).Z):=rfl;rw[e,f,if_pos (show k<=n+1 by omega)]
   omega
  ·rw[if_neg h,if_neg h] at ih;have e2:tR L T (n+1)=tR L T n+(1+und L 61 (T.getD n dz).Z):=rfl;have e1:(if n<k then n else n+1)=n:=if_pos Z9
   rw[e1] at e;by_cases g:k<=n+1
   ·have:k=n+1:=by omega
    subst this;have f:tR L T (n+1+1)=tR L T (n+1)+(1+und L 61 (T.getD (n+1) dz).Z):=rfl;rw[e,if_pos (U9 _),if_pos (U9 _)];omega
   ·rw[e,if_neg g,if_neg g];omega
theorem c3T{L:List Rec}{T:List Txn}{k:Nat}(h:k<T.length):tR L (T.take k++T.drop (k+1)) (T.take k++T.drop (k+1)).length+(1+und L 61 (T.getD k dz).Z)=tR L T T.length:=by
 have:=b8z (L:=L) h (T.length-1) Z9
 rw[if_pos Z9,if_pos Z9,show T.length-1+1=T.length by omega] at this
 rw[c2m h];exact this
theorem c0f{α:Type}[Inhabited α]{L:List α}{i:Nat}(h:i<L.length):L.getD i dz ∈ L:=by
 rw[P4,I3 h]
 exact List.getElem_mem h
structure NewR(L:List Rec)(tn:Txn)(x:Rec):Prop where
 p:zK x
 l:x.l=(L.length:Int)+1
 t:x.t=tn.id
 pp:x.p=tn.Z
theorem c1r{L:List Rec}{T:List Txn}{k:Nat}(h:k<T.length):1<=tR L T T.length:=by
 have:=c3T (L:=L) h;omega
def phi(e:Eng):Nat:=e.s.L.length+nM e
theorem EI.app{e:Eng}(h:EI e){k:Nat}(d:k<e.X.length){r:Rec}(R:zK (P9 e.s (C1 e k r))):GInv (F1 e k r).s:=by
 have M:=h.h.rm;have hp:=c1r (L:=e.s.L) d;exact c72 h.g Z9 ((Q4 _).2 R)
structure UndP(e:Eng)(k:Nat)(u:(Eng×Nat)×Bool)(to:Int):Prop where
 al:u.2=true
 ei:EI u.1.1
 ln:u.1.1.X.length=e.X.length
 ph:phi u.1.1=phi e
 un:∃a,a<=to/\und u.1.1.s.L 61 (u.1.1.X.getD k dz).Z=und u.1.1.s.L 61 a
def cF(tx:Int)(w:Wt):Bool:=w.tx !=tx
def J4(l:Lks)(tx:Int):Lks:=⟨l.H,X8 (cF tx) l.W l.W.length⟩
def b18(a b:Int):Bool:=(a==b)||(a==4)||(b==1)
def qC(L:List Lck)(x:Lck)(i:Nat):Bool:=((L.getD i dz).tx==x.tx)&&((L.getD i dz).ta==x.ta)&&((L.getD i dz).row==x.row)&&b18 (L.getD i dz).mo x.mo
def dD(L:List Wt)(w:Wt)(i:Nat):Bool:=((L.getD i dz).tx==w.tx)&&(((L.getD i dz).fo==w.fo)&&true)
def V1(L:List Lck)(x:Lck):Nat->List Wt
 |0=>[]
 |i+1=>if clash (L.getD i dz) x=true then(if anyI (V1 L x i).length (dD (V1 L x i) ⟨x.tx,(L.getD i dz).tx⟩)=true then V1 L x i else V1 L x i++[⟨x.tx,(L.getD i dz).tx⟩]) else V1 L x i
def thr(R:List Int)(a:Int)(i:Nat):Bool:=R.getD i 0==a
def scn(W:List Wt)(tx a:Int)(R:List Int):Nat->Option (List Int)
 |0=>some R
 |k+1=>match scn W tx a R k with
  |none=>none
  |some Q=>if(W.getD k dz).tx=a then(if(W.getD k dz).fo=tx then none else if anyI Q.length (thr Q (W.getD k dz).fo)=true then some Q else some (Q++[(W.getD k dz).fo])) else some Q
def a1R(W:List Wt)(tx:Int):Nat->Nat->List Int->Bool
 |0,_,_=>false
 |f+1,i,R=>if i<R.length then(match scn W tx (R.getD i 0) R W.length with|none=>true|some Q=>a1R W tx f (i+1) Q) else false
def rnd(W:List Wt)(tx:Int):Bool:=a1R W tx 200 0 [tx]
def C2(l:Lks)(x:Lck):List Wt:=V1 l.H x l.H.length
def T7(l:Lks)(x:Lck):Lks×Int:=
 if anyI l.H.length (qC l.H x)=true then(J4 l x.tx,0) else
 if(C2 l x).length=0 then(if l.H.length=60 then(J4 l x.tx,7) else(⟨l.H++[x],(J4 l x.tx).W⟩,0)) else
 if(J4 l x.tx).W.length+(C2 l x).length>100 then(J4 l x.tx,7) else
 if rnd ((J4 l x.tx).W++C2 l x) x.tx=true then(J4 l x.tx,14) else(⟨l.H,(J4 l x.tx).W++C2 l x⟩,13)
theorem a7e{L:List Lck}{x:Lck}:∀n,(V1 L x n).length<=n
 |0=>U9 0
 |n+1=>by
  have i:=a7e (L:=L) (x:=x) n;unfold V1;split
  ·split
   ·omega
   ·rw[F6,List.length_singleton];omega
  ·omega
structure LkP(T:List Txn)(l:Lks):Prop where
 ok:C0 l=true
 hd:∀a ∈ l.H,InT T a.tx
 wt:∀w ∈ l.W,InT T w.tx/\InT T w.fo
def R7(e:Eng)(s:Sto):Eng:={e with s:=s}
def qF(e:Eng)(k:Nat)(ta row mo:Int):Lck:=⟨(e.X.getD k dz).id,ta,row,mo⟩
def pF(e:Eng)(k:Nat)(ta row mo:Int):Eng:={e with lk:=(T7 e.lk (qF e k ta row mo)).1}
def R5(e:Eng)(k:Nat)(ta row mo:Int):Eng×Int:=
 if(T7 e.lk (qF e k ta row mo)).2=14 then((J0 (pF e k ta row mo) k).1.1,if(J0 (pF e k ta row mo) k).2=0 then 14 else 15) else(pF e k ta row mo,(T7 e.lk (qF e k ta row mo)).2)
structure LokR(ta row mo:Int):Prop where
 a:1<=ta/\ta<=3
 b: -1<=row/\row<=1000
 c:1<=mo/\mo<=4
 d:row<0∨3<=mo
def kepA(L:List Rec)(g s:Int):Nat->Int->Bool
 |0,_=>false
 |f+1,a=>if a<=0 then false else if(Y8 L a).k=3 then kepA L g s f (Y8 L a).n else if(Y8 L a).k=2/\(Y8 L a).g=g/\(Y8 L a).s=s then true else kepA L g s f (Y8 L a).p
def oQ(e:Eng)(tx g s:Int)(i:Nat):Bool:= !((e.X.getD i dz).id==tx)&&kepA e.s.L g s 61 (e.X.getD i dz).Z
def lN(e:Eng)(tx g s:Int):Bool:=anyI e.X.length (oQ e tx g s)
structure Plc where
 a:Int
 b:Int
 c:Int
 d:Int
 deriving Inhabited
def a1G(t:Bz)(ta id:Int):Bool:=(sR t).2.2&&((sR t).1==ta)&&((sR t).2.1.id==id)
def vJ(e:Eng)(tx ta id:Int)(no:Nat)(p:Pg)(A:Plc):Nat->Plc
 |0=>A
 |i+1=>let B:=vJ e tx ta id no p A i
  if p.sl.getD i []=[] then(if B.c<0/\lN e tx no i=false then⟨B.a,B.b,no,i⟩ else B)
  else if a1G (p.sl.getD i []) ta id=true/\B.a<0 then⟨no,i,B.c,B.d⟩ else B
def T2(e:Eng)(tx ta id:Int):Nat->Sto×Plc×Bool
 |0=>(e.s,⟨-1,-1,-1,-1⟩,true)
 |n+1=>if(T2 e tx ta id n).2.2=true then
   (if(Y3 (T2 e tx ta id n).1 n).2.2=true then((Y3 (T2 e tx ta id n).1 n).1,vJ e tx ta id n ((Y3 (T2 e tx ta id n).1 n).1.fr.getD (Y3 (T2 e tx ta id n).1 n).2.1 dz).pg (T2 e tx ta id n).2.1 4,true) else((Y3 (T2 e tx ta id n).1 n).1,(T2 e tx ta id n).2.1,false))
  else T2 e tx ta id n
def c6z(A:Plc):Prop:=(A.a= -1∨(0<=A.a/\A.a<=7/\0<=A.b/\A.b<=3))/\(A.c= -1∨(0<=A.c/\A.c<=7/\0<=A.d/\A.d<=3))
theorem b5r{e:Eng}{tx ta id:Int}{no:Nat}{p:Pg}{A:Plc}(N:no<8)(h:c6z A):∀n,n<=4->c6z (vJ e tx ta id no p A n)
 |0,_=>h
 |n+1,hn4=>by
  have i:=b5r (e:=e) (tx:=tx) (ta:=ta) (id:=id) (p:=p) N h n Z9
  unfold vJ;dsimp only;split
  ·split
   ·exact⟨i.1,.inr ⟨X5,X5,X5,X5⟩⟩
   ·exact i
  ·split
   ·exact⟨.inr ⟨X5,X5,X5,X5⟩,i.2⟩
   ·exact i
def J5(g s:Int)(b a:Bz):Rec:=⟨0,0,0,2,0,0,g,s,b,a⟩
def l6(e:Eng)(k:Nat)(r:Rec):Eng×Bool:=(R7 (F1 e k r) (U0 (F1 e k r).s (P9 e.s (C1 e k r))).1,(U0 (F1 e k r).s (P9 e.s (C1 e k r))).2)
def zJ(v:Val):Bz:=if v.k=0 then[1] else if v.k=1 then 2::z8 (v.n+1000000000).toNat else 3::(v.t++[0])
def sV(ta:Int)(r:Rw):Bz:=zJ ⟨1,ta,[]⟩++zJ ⟨1,r.id,[]⟩++zJ r.n++zJ r.name
def v9(e:Eng)(A:Plc)(s:Sto):Sto×Bz:=((Y3 s A.a.toNat).1,((Y3 s A.a.toNat).1.fr.getD (Y3 s A.a.toNat).2.1 dz).pg.sl.getD A.b.toNat [])
theorem GInv.B{s:Sto}(h:GInv s):b24 s:=by
 have j:=h.dg.n69;have f:=h.dg.kp;have n:=h.ca;have g:=h.l60;have l:=h.fr3;have key:∀r ∈ s.L,r.a.length<=38:=λr R=>by
  obtain⟨i,hi,e⟩:=List.getElem_of_mem R;have d:s.L.getD i dz=r:=by rw[P4,I3 hi,e];rfl
  have:=(c61 (C5.1 h.rc i hi).1).2;rw[d] at this;exact this
 refine⟨⟨sU,sU,sU⟩,?_,⟨sU,λi hi=>?_⟩,λr R=>by have:=key r R;unfold L7;omega⟩
 ·exact⟨Z9,λr R=>by have:=key r R;omega⟩
 ·have:=(h.fp i hi).2.2.1.2.2.1;unfold PgB L7;omega
end
end Go.Proofs.YtpdnnhnfongoeaaGreat
