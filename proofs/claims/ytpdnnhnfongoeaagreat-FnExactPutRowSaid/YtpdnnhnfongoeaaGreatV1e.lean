/- A part of the proof. -/
import Derived.Test.YtpdnnhnfongoeaaGreatU1
import Derived.Test.YtpdnnhnfongoeaaGreatU32
import Derived.Test.YtpdnnhnfongoeaaGreatY1
namespace Go.Proofs.YtpdnnhnfongoeaaGreat
set_option maxRecDepth 100000
open Go.SS Go.Proofs.Tryz
noncomputable section
def Q1(L:List Val)(i:Nat):List T:=(L.getD i dz).ts
def b4D(L:List Val):T:=.sl 3 L.length (Q1 L)
def isZ(l:Bz)(i:Nat):Bool:=(0:Int)==((l.getD i 0).toNat:Int)
def vM(l:Bz):Int:=S6 l.length (isZ l)
def b3P:Con:=.rel ⟨Bz,λl=>[.bys l,.int .u8 0],λl=>Ji (vM l),λl=>L9 l.length⟩
def b4J(l:Bz):Nat->Ann
 |0=>.one (V5 l.length (isZ l)) (λx=>⟨[(0,.bys l),(1,.int .u8 0),(7,Ji l.length),(8,Ji x.1)],[]⟩) (λx=>l.length-x.1) [] [] (λ_=>Z3)
 |_=>.none
def sZ{a b:Int}(h:(a==b)=false):a≠b:=λe=>by rw[e] at h;simp at h
def a6M:GK 336 b3P:=gk func336<|by
 intro(l:Bz) (hL:l.length<1000000000000);refine U5 gN func336 (b4J l) (α:=let p:=(l.length:Int);(∃(x:V5 l.length (isZ l)),(l=l/\(0:Int)=0/\p=p/\0=(x.1:Int)/\True)/\True)/\∀(x:V5 l.length (isZ l)),let q:=(x.1:Int);bd (q<p) (W9 q l.length/\br ((0:Int)==(↑(l.getD q.toNat (0:UInt8)).toNat:Int)) (q=vM l) (Ri (q+1)/\∃(y:V5 l.length (isZ l)),((l=l/\(0:Int)=0/\p=p/\q+1=(y.1:Int)/\True)/\True)/\Lt (l.length-y.1) (l.length-x.1))) ((-1:Int)=vM l)) ⟨⟨F4,Z8⟩,λx=>⟨λC=>?_,λC=>?_⟩⟩
 ·have h:=Y2 C;exact⟨Y6 h,λhp=>(N9 h hp x.2.2).symm,λhp=>⟨W2 h Z9,x.succ h hp,⟨⟨rfl,rfl,rfl,I9,Z6⟩,Z6⟩,V5.ext_lt h⟩⟩
 ·have e:=Y0 C;exact(K2 λj J=>x.2.2 j (xY J e)).symm
def J6(l:Bz):Val×Bz×Bool:=
 if numR l-1=1 then(⟨1,be (T4 (l.drop 1) 4)-1000000000,[]⟩,Q8 (l.drop 1) 4,big (l.drop 1) 4|| !P0 ⟨1,be (T4 (l.drop 1) 4)-1000000000,[]⟩)
 else if numR l-1=2 then
  if vM (l.drop 1)<0 then(⟨2,0,[]⟩,l.drop 1,true)
  else(⟨2,0,(l.drop 1).take (vM (l.drop 1)).toNat⟩,(l.drop 1).drop ((vM (l.drop 1)).toNat+1), !P0 ⟨2,0,(l.drop 1).take (vM (l.drop 1)).toNat⟩)
 else(⟨numR l-1,0,[]⟩,l.drop 1, !P0 ⟨numR l-1,0,[]⟩)
def lI(l:Bz):Prop:=l.length<=1000000000
def a9z:Rle:=⟨Bz,λ_=>[.ref 0 0 0],λl=>[rdr l false],λl=>.agg (J6 l).1.ts,λl=>[rdr (J6 l).2.1 (J6 l).2.2],λl=>l≠[]/\lI l⟩
def c2H:Con:=.reff a9z
def b6Q:GK 275 c2H:=gk func275<|by
 rintro(l:Bz) ⟨h0,(hl:l.length<=1000000000)⟩;have N:=r6 l;have f:l.isEmpty=false:=by cases l with|nil=>exact absurd rfl h0|cons=>rfl
 have hd:(l.drop 1).length<=1000000000:=by rw[List.length_drop];omega
 have h:(T4 (l.drop 1) 4).length<=4:=by
  unfold T4;split
  ·rw[List.length_replicate];omega
  ·rw[List.length_take];omega
 refine vcE (gC eI (gC qI (gC a2J (gC a6M (gC jS gN))))) func275 Z3 (bs:=[true]) (α:=let j:=(J6 l).1.t;let w:=(J6 l).1.n;let y:=(J6 l).1.k;let u:=(J6 l).2.2;let z:=(J6 l).2.1;let q:=(numR l-1=y/\0=w/\[]=j/\True);let p:=(List.drop 1 l);Ri (numR l-1)/\br (numR l-1==1) (r8 (4:Int)/\∃(x:a5L.ι),let r:=(↑(be x):Int);((T4 p 4=x/\True)/\mL x)/\Ri (r-1000000000)/\∃(X:E7.ι),((false||l.isEmpty||big p (4:Int))=false->((numR l-1=X.k/\r-1000000000=X.n/\[]=X.t/\True)/\True)/\cB X.t)/\(numR l-1=y/\r-1000000000=w/\[]=j/\True)/\(1=1/\1=1/\Q8 p 4=z/\(false||l.isEmpty||big p (4:Int)|| !P0 X)=u/\True)/\True) (br (numR l-1==2) (∃(x:(Bz)),let v:=(Q8 p (vM x));((List.drop 1 l=x/\(0:Int)=0/\True)/\L9 (x.length))/\bd (vM x<0) (q/\(1=1/\1=1/\List.drop 1 l=z/\true=u/\True)/\True) (r8 (vM x)/\r8 (1:Int)/\∃(X:E7.ι),((false||l.isEmpty||big p (vM x)||big v (1:Int))=false->((numR l-1=X.k/\0=X.n/\T4 p (vM x)=X.t/\True)/\True)/\cB X.t)/\(numR l-1=y/\0=w/\T4 p (vM x)=j/\True)/\(1=1/\1=1/\Q8 v 1=z/\(false||l.isEmpty||big p (vM x)||big v (1:Int)|| !P0 X)=u/\True)/\True)) (∃(x:E7.ι),((false||l.isEmpty)=false->((numR l-1=x.k/\0=x.n/\[]=x.t/\True)/\True)/\cB x.t)/\q/\(1=1/\1=1/\List.drop 1 l=z/\(false||l.isEmpty|| !P0 x)=u/\True)/\True))) ⟨Z4 Z9,λhk=>⟨by unfold r8;omega,T4 (l.drop 1) 4,⟨Z8,h⟩,?_,⟨1,be (T4 (l.drop 1) 4)-1000000000,[]⟩,λ_=>⟨⟨⟨beq_iff_eq.1 hk,Z8⟩,Z6⟩,b0k⟩,?_⟩,λhk=>⟨λhk2=>⟨l.drop 1,⟨Z8,sV⟩,λhx=>?_,λhx=>?_⟩,λhk2=>?_⟩⟩
 ·have:=a4K (T4 (l.drop 1) 4) h;have e:be (T4 (l.drop 1) 4)=j5 (T4 (l.drop 1) 4) (T4 (l.drop 1) 4).length:=rfl;exact Z4 Z9
 ·have hk:numR l-1=1:=beq_iff_eq.1 hk;unfold J6;rw[if_pos hk,f];exact⟨⟨hk,Z8⟩,Z8⟩
 ·have hk':numR l-1≠1:=sZ hk;have hk2:numR l-1=2:=beq_iff_eq.1 hk2;have hx:vM (l.drop 1)<0:=G7 hx;unfold J6;rw[if_neg hk',if_pos hk2,if_pos hx];exact⟨⟨hk2,Z8⟩,Z8⟩
 ·have hk':numR l-1≠1:=sZ hk;have hk2:numR l-1=2:=beq_iff_eq.1 hk2;have hx:¬vM (l.drop 1)<0:=r9 hx;obtain⟨i,hi,hz,_,hix⟩:=lX hx;have hix:vM (l.drop 1)=(i:Int):=hix;have b1:big (l.drop 1) (i:Int)=false:=by unfold big;rw[tQ Z9]
  have g:T4 (l.drop 1) (i:Int)=(l.drop 1).take i:=by unfold T4;rw[b1];rfl
  have r:Q8 (l.drop 1) (i:Int)=(l.drop 1).drop i:=by unfold Q8;rw[b1];rfl
  have b2:big ((l.drop 1).drop i) 1=false:=by unfold big;rw[tQ (by rw[List.length_drop];omega)]
  have R:Q8 ((l.drop 1).drop i) 1=(l.drop 1).drop (i+1):=by
   unfold Q8;rw[b2];show((l.drop 1).drop i).drop 1=_;rw[List.drop_drop]
  unfold J6;rw[if_neg hk',if_pos hk2,if_neg hx,hix,g,r,R,b1,b2,f];refine⟨⟨Z9,Z9⟩,by unfold r8;omega,⟨2,0,(l.drop 1).take i⟩,λ_=>⟨⟨⟨hk2,Z8⟩,Z6⟩,by unfold cB L9;rw[List.length_take];omega⟩,⟨hk2,rfl,rfl,Z6⟩,⟨rfl,rfl,rfl,rfl,Z6⟩,Z6⟩
 ·have hk':numR l-1≠1:=sZ hk;have d:numR l-1≠2:=sZ hk2;unfold J6;rw[if_neg hk',if_neg d,f];exact⟨⟨numR l-1,0,[]⟩,λ_=>⟨Z8,b0k⟩,Z8⟩
def a3V{l:Bz}(h:l≠[]):(J6 l).2.1.length<l.length:=by
 have hp:0<l.length:=List.length_pos_iff.2 h;have hd:(l.drop 1).length<l.length:=by rw[List.length_drop];omega
 have r:∀(m:Bz) (n:Int),(Q8 m n).length<=m.length:=λm n=>by
  unfold Q8;split
  ·omega
  ·rw[List.length_drop];omega
 unfold J6;split
 ·exact Nat.lt_of_le_of_lt (r _ _) hd
 ·split
  ·split
   ·exact hd
   ·show((l.drop 1).drop _).length<_;rw[List.length_drop];omega
  ·exact hd
def m6:Nat->Bz->Bool->List Val->List Val×Bool
 |0,_,f,acc=>(acc, !f)
 |n+1,l,f,acc=>if l=[]∨f=true then(acc, !f) else m6 n (J6 l).2.1 (J6 l).2.2 (acc++[(J6 l).1])
def O8(l:Bz):List Val×Bool:=m6 l.length l false []
def aV:Rl:=⟨Bz,λb=>[.bys b],λb=>.tup [b4D (O8 b).1,.bool (O8 b).2],lI⟩
def b4c:Con:=.rel aV
def a98(b:Bz):Type:={x:Nat×Bz×Bool×List Val//m6 x.1 x.2.1 x.2.2.1 x.2.2.2=O8 b/\x.2.1.length<=x.1/\x.2.2.2.length+x.1<=b.length}
def b4n(b:Bz):Nat->Ann
 |0=>.one (a98 b) (λx=>⟨[(4,.ref 0 0 0),(5,.osl 1 0 x.1.2.2.2.length)],[rdr x.1.2.1 x.1.2.2.1,some (.arr true 0 3 x.1.2.2.2.length (Q1 x.1.2.2.2))]⟩) (λx=>x.1.1) b5o [.box 0,.arr 3] (λ_=>Z3)
 |_=>.none
def gV(L:List Val)(v:Val):Z7 (L.length+1) (X4 (Q1 L) L.length λk=>List.take 3 (List.drop (k*3) v.ts)) (Q1 (L++[v])):=by
 intro i hi;by_cases h:i<L.length
 ·rw[M8 h];simp[Q1,rL h]
 ·obtain rfl:i=L.length:=by omega
  rw[N3 (U9 _),j_h];simp[Q1,Val.ts]
def lE{n:Nat}{l:Bz}{acc:List Val}(h:l≠[])(N:l.length<=n):m6 n l false acc=m6 (n-1) (J6 l).2.1 (J6 l).2.2 (acc++[(J6 l).1]):=by
 have hp:0<l.length:=List.length_pos_iff.2 h;obtain⟨m,rfl⟩:∃m,n=m+1:=⟨n-1,Z9⟩
 conv=>lhs;unfold m6
 rw[if_neg dH]
 rfl
def nW{n:Nat}{l:Bz}{f:Bool}{acc:List Val}(h:l=[]∨f=true):m6 n l f acc=(acc, !f):=by
 cases n with
 |zero=>rfl
 |succ n=>unfold m6;rw[if_pos h]
def a72:GK 188 b4c:=gk func188<|by
 intro(b:Bz) (hb:b.length<=1000000000);refine U5 (gC b6Q gN) func188 (b4n b) (α:=let u:=(0=0/\0=0);(∃(x:a98 b),let r:=x.1.2.2;(u/\(0=0/\0=r.2.length)/\True)/\(1=1/\1=1/\b=x.1.2.1/\false=r.1/\True)/\(0=r.2.length/\Z7 0 (λ(k:Nat)=>List.take 3 (List.drop (k*3) [])) (Q1 r.2))/\True)/\∀(x:a98 b),let p:=x.1.2.2;let q:=p.2.length;br (decide ((x.1.2.1.length:Int)>0)&& ! p.1) (∃(X:a9z.ι),((u/\True)/\((1=1/\Z7 1 (λ(x_2:Nat)=>[T.bys x.1.2.1,T.bool p.1]) λ(x:Nat)=>[T.bys X,T.bool false])/\True)/\X≠[]/\lI X)/\(Le 1 1/\Le p.2.length q/\U8 p.2.length 1 32)/\∃(y:a98 b),let z:=y.1.2.2;((u/\(0=0/\q+1=z.2.length)/\True)/\(1=1/\1=1/\(J6 X).2.1=y.1.2.1/\(J6 X).2.2=z.1/\True)/\(q+1=z.2.length/\Z7 (q+1) (X4 (Q1 p.2) p.2.length λ(k:Nat)=>List.take 3 (List.drop (k*3) [Ji (J6 X).1.k,Ji (J6 X).1.n,T.str (J6 X).1.t])) (Q1 z.2))/\True)/\Lt y.1.1 x.1.1) (Le (0+q) q/\(Z0 Q1 p.2 (O8 b).1)/\(! p.1)=(O8 b).2/\True)) ⟨⟨⟨(b.length,b,false,[]),rfl,U9 _,by dsimp only[List.length_nil];omega⟩,⟨⟨rfl,rfl⟩,⟨rfl,rfl⟩,Z6⟩,⟨rfl,rfl,rfl,rfl,Z6⟩,⟨rfl,nE _ _⟩,Z6⟩,λx=>?_⟩
 obtain⟨⟨n,l,f,acc⟩,e,L,N⟩:=x;dsimp only at e L N ⊢;refine⟨λhc=>?_,λhc=>?_⟩
 ·simp only[J5,o8,vZ] at hc;obtain⟨hp,rfl⟩:=hc;have h0:l≠[]:=λh=>by rw[h] at hp;simp at hp
  have hv:=a3V h0;rw[lE h0 L] at e;refine⟨l,⟨Z8,⟨⟨rfl,λi hi=>c0e⟩,Z6⟩,h0,by unfold lI;omega⟩,⟨U9 _,U9 _,R0⟩,⟨(n-1,(J6 l).2.1,(J6 l).2.2,acc++[(J6 l).1]),e,X5,a34⟩,⟨⟨Z8,⟨rfl,jV⟩,Z6⟩,Z8,⟨jV,gV _ _⟩,Z6⟩,show n-1<n by omega⟩
 ·have d:l=[]∨f=true:=by
   cases f with
   |true=>exact .inr rfl
   |false=>
    refine .inl (List.length_eq_zero_iff.1 ?_)
    have hc:(decide ((l.length:Int)>0)&& !false)=false:=hc;simp only[Bool.not_false,Bool.and_true,uH] at hc;omega
  rw[nW d] at e;rw[←e];exact⟨K0,Z8⟩
def R6(t:Bz):List Val×Bool:=if(O8 t).2=true then O8 t else([],false)
def a2L:Con:=.rel ⟨Bz,λt=>[.str t],λt=>.tup [b4D (R6 t).1,.bool (R6 t).2],lI⟩
structure KSt where
 n:Nat
 at_:Nat
 acc:List Val
def a0P(t:Bz):Type:={x:KSt//m6 x.n (t.drop x.at_) false x.acc=O8 t/\x.at_<=t.length/\t.length-x.at_<=x.n/\x.acc.length+x.n<=t.length}
def NoZ(t:Bz)(a:Nat):Type:={k:Nat//a<=k/\k<=t.length/\∀j,a<=j->j<k->isZ t j=false}
def knd(t:Bz)(a:Nat):Int:=((t.getD a 0).toNat:Int)-1
def a10(t:Bz):Nat->Ann
 |0=>.one (a0P t) (λx=>⟨[(0,.str t),(4,.osl 0 0 x.1.acc.length),(5,Ji x.1.at_)],[some (.arr true 0 3 x.1.acc.length (Q1 x.1.acc))]⟩) (λx=>t.length-x.1.at_) [.arr 0] [.arr 3] (λx=>fun
  |1=>.one (NoZ t (x.1.at_+1)) (λy=>⟨[(0,.str t),(4,.osl 0 0 x.1.acc.length),(5,Ji (x.1.at_+1:Nat)),(6,.ref 1 0 0),(7,Ji y.1)],[some (.arr true 0 3 x.1.acc.length (Q1 x.1.acc)),some (.arr true 1000000 3 1 λ_=>[Ji (knd t x.1.at_),Ji 0,.str []])]⟩) (λy=>t.length-y.1) cG cG (λ_=>Z3)
  |_=>.none)
 |_=>.none
def a28{t:Bz}{n:Nat}{l:Bz}{acc:List Val}(h:m6 n l false acc=O8 t)(d:l≠[])(L:l.length<=n)(f:(J6 l).2.2=true):R6 t=([],false):=by
 rw[lE d L,f,nW (.inr rfl)] at h;unfold R6;rw[←h];rfl
def gD{t:Bz}{n:Nat}{l:Bz}{acc:List Val}(h:m6 n l false acc=O8 t)(d:l≠[])(L:l.length<=n){v:Val}{r:Bz}(hv:J6 l=(v,r,false)):m6 (n-1) r false (acc++[v])=O8 t:=by
 rw[lE d L,hv] at h;exact h
def a2T{k n:Int}{s:Bz}(d:k≠0)(h:k≠1)(e:k≠2):P0 ⟨k,n,s⟩=false:=by
 unfold P0;dsimp only;rw[if_neg d,if_neg h,show(k==2)=false from beq_eq_false_iff_ne.2 e]
 rfl
def a0w{t:Bz}(a i:Nat):(t.drop a).getD i 0=t.getD (a+i) 0:=by
 rw[P4,P4,List.getElem?_drop]
def gL(t:Bz)(a i:Nat):isZ (t.drop a) i=isZ t (a+i):=by unfold isZ;rw[a0w]
def c7O(t:Bz)(k:Nat):(((t.getD k 0).toNat:Int) !=0)= !isZ t k:=by
 unfold isZ;rw[show(((t.getD k 0).toNat:Int) !=0)= !(((t.getD k 0).toNat:Int)==0) from rfl]
 congr 1
 rw[Bool.eq_iff_iff,beq_iff_eq,beq_iff_eq];exact eq_comm
def bS:GK 169 a2L:=gk func169<|by
 intro(t:Bz) (hb:t.length<=1000000000);refine U5 (gC kB (gC cC gN)) func169 (a10 t) (α:=let g:=(λ(k:Nat)=>List.take 3 (List.drop (k*3) []));let m:=(t.length:Int);let p:=(Le 0 0/\(0=(R6 t).1.length/\Z7 0 g (Q1 (R6 t).1))/\false=(R6 t).2/\True);(∃(x:a0P t),(t=t/\(0=0/\0=x.1.acc.length)/\0=(x.1.at_:Int)/\True)/\(0=x.1.acc.length/\Z7 0 g (Q1 x.1.acc))/\True)/\∀(x:a0P t),let w:=x.1.acc;let z:=x.1.at_;let l:=((z:Int)+1);let c:=(t.length-z);let f:=((z:Int)+1+4);let j:=(↑(z+1):Int);let r:=w.length;let u:=(Le 1 1/\Le w.length r/\U8 w.length 1 32);let q:=(↑(t.getD (z:Int).toNat (0:UInt8)).toNat:Int);let a:=(IntKind.i64.wrap q-1);bd ((z:Int)<m) (W9 (z:Int) t.length/\Ri a/\Ri l/\br (IntKind.i64.wrap q-1==0) (∃(X:E7.ι),(((IntKind.i64.wrap q-1=X.k/\0=X.n/\[]=X.t/\True)/\True)/\cB X.t)/\br (!P0 X) p (u/\∃(y:a0P t),((t=t/\(0=0/\r+1=y.1.acc.length)/\(z:Int)+1=(y.1.at_:Int)/\True)/\(r+1=y.1.acc.length/\Z7 (r+1) (X4 (Q1 w) w.length λ(k:Nat)=>List.take 3 (List.drop (k*3) [Ji a,Ji 0,T.str []])) (Q1 y.1.acc))/\True)/\Lt (t.length-y.1.at_) c)) (br (IntKind.i64.wrap q-1==1) (Ri f/\bd ((z:Int)+1+4>m) p (Ri f/\b1Q l f t.length/\∃(X:iI.ι),let b:=((↑(be X):Int)-1000000000);((List.drop l.toNat (List.take f.toNat t)=X/\True)/\mL X)/\Ri b/\Ri f/\∃(d:E7.ι),(((IntKind.i64.wrap q-1=d.k/\(↑(be X):Int)-1000000000=d.n/\[]=d.t/\True)/\True)/\cB d.t)/\br (!P0 d) p (u/\∃(y:a0P t),((t=t/\(0=0/\r+1=y.1.acc.length)/\(z:Int)+1+4=(y.1.at_:Int)/\True)/\(r+1=y.1.acc.length/\Z7 (r+1) (X4 (Q1 w) w.length λ(k:Nat)=>List.take 3 (List.drop (k*3) [Ji a,Ji b,T.str []])) (Q1 y.1.acc))/\True)/\Lt (t.length-y.1.at_) c))) ((∃(X:NoZ t (x.1.at_+1)),(t=t/\(0=0/\r=r)/\(z:Int)+1=j/\(0=0/\0=0)/\(z:Int)+1=(X.val:Int)/\True)/\(Z0 Q1 x.1.acc w)/\(1=1/\1=1/\IntKind.i64.wrap q-1=knd t z/\(0:Int)=0/\([]:Bz)=[]/\True)/\True)/\∀(X:NoZ t (x.1.at_+1)),let v:=(X.val:Int);let i:=(List.take v.toNat t);(decide (v<m)=true->W9 v t.length)/\br (decide (v<m)&&(↑(t.getD v.toNat (0:UInt8)).toNat:Int) !=0) (Ri (v+1)/\∃(y:NoZ t (x.1.at_+1)),((t=t/\(0=0/\r=r)/\j=j/\(0=0/\0=0)/\v+1=(y.1:Int)/\True)/\(Z0 Q1 x.1.acc w)/\(1=1/\1=1/\knd t z=knd t z/\(0:Int)=0/\([]:Bz)=[]/\True)/\True)/\Lt (t.length-y.1) (t.length-X.val)) (br (v==m) p (b1Q j v t.length/\Ri (v+1)/\∃(d:E7.ι),(((knd t z=d.k/\0=d.n/\List.drop j.toNat i=d.t/\True)/\True)/\cB d.t)/\br (!P0 d) p (u/\∃(y:a0P t),((t=t/\(0=0/\r+1=y.1.acc.length)/\v+1=(y.1.at_:Int)/\True)/\(r+1=y.1.acc.length/\Z7 (r+1) (X4 (Q1 w) w.length λ(k:Nat)=>List.take 3 (List.drop (k*3) [Ji (knd t z),Ji 0,T.str (List.drop j.toNat i)])) (Q1 y.1.acc))/\True)/\Lt (t.length-y.1.at_) c)))))) (Le (0+r) r/\(Z0 Q1 x.1.acc (R6 t).1)/\true=(R6 t).2/\True)) ⟨⟨⟨⟨t.length,0,[]⟩,rfl,N4 _,U9 _,by dsimp only[List.length_nil];omega⟩,⟨rfl,⟨rfl,rfl⟩,rfl,Z6⟩,⟨rfl,nE _ _⟩,Z6⟩,λx=>?_⟩
 obtain⟨⟨n,a,acc⟩,he,C,o,N⟩:=x;dsimp only at he C o N ⊢;rw[E3,uN];have q:=yL t a;have L:(t.drop a).length<=n:=by rw[List.length_drop];exact o
 refine⟨λhc=>?_,λhc=>?_⟩
 ·have hlt:=Y2 hc;have h0:t.drop a≠[]:=λh=>by have:=congrArg List.length h;rw[List.length_drop,List.length_nil] at this;omega
  have i:numR (t.drop a)-1=((t.getD a 0).toNat:Int)-1:=by unfold numR;rw[a0w];rfl
  have hd:(t.drop a).drop 1=t.drop (a+1):=by rw[List.drop_drop]
  have O:∀{P:Prop},(J6 (t.drop a)).2.2=true->(R6 t=([],false)->P)->P:=λF h=>h (a28 he h0 L F)
  have fin:(J6 (t.drop a)).2.2=true->Le 0 0/\((0:Nat)=(R6 t).1.length/\Z7 0 (λk=>List.take 3 (List.drop (k*3) [])) (Q1 (R6 t).1))/\false=(R6 t).2/\True:=λF=>by
   rw[a28 he h0 L F];exact⟨U9 _,⟨rfl,nE _ _⟩,Z8⟩
  refine⟨Y6 hlt,Z4 Z9,W2 hlt Z9,λk0=>?_,λk0=>⟨λk1=>?_,λk1=>?_⟩⟩
  ·have k0:((t.getD a 0).toNat:Int)-1=0:=beq_iff_eq.1 k0;have hv:J6 (t.drop a)=(⟨0,0,[]⟩,t.drop (a+1), !P0 ⟨0,0,[]⟩):=by
    unfold J6;rw[if_neg Z9,if_neg Z9,hd,i,k0]
   rw[k0];refine⟨⟨0,0,[]⟩,⟨Z8,b0k⟩,λhq=>fin (by rw[hv];exact hq),λhq=>⟨⟨U9 _,U9 _,R0⟩,⟨⟨n-1,a+1,acc++[(⟨0,0,[]⟩:Val)]⟩,gD he h0 L (by rw[hv,hq]),X5,X5,a34⟩,⟨⟨rfl,⟨rfl,jV⟩,X5,Z6⟩,⟨jV,gV acc ⟨0,0,[]⟩⟩,Z6⟩,show t.length- (a+1)<t.length-a by omega⟩⟩
  ·have k1:((t.getD a 0).toNat:Int)-1=1:=beq_iff_eq.1 k1;have g:big (t.drop (a+1)) 4=decide ((a:Int)+1+4>t.length):=by
    unfold big;rw[List.length_drop];exact decide_eq_decide.2 Z9
   have hv:J6 (t.drop a)=(⟨1,be (T4 (t.drop (a+1)) 4)-1000000000,[]⟩,Q8 (t.drop (a+1)) 4,big (t.drop (a+1)) 4|| !P0 ⟨1,be (T4 (t.drop (a+1)) 4)-1000000000,[]⟩):=by
    unfold J6;rw[if_pos Z9,hd]
   refine⟨Z4 Z9,λf=>fin (by rw[hv,g,f];rfl),λf=>?_⟩
   have z:¬ ((a:Int)+1+4>t.length):=r9 f;rw[f] at g;have v:T4 (t.drop (a+1)) 4=List.drop (a+1) (List.take (a+5) t):=by
    unfold T4;rw[g,List.drop_take,show a+5- (a+1)=4 by omega]
    rfl
   have R:Q8 (t.drop (a+1)) 4=t.drop (a+5):=by
    unfold Q8;rw[g];show(t.drop (a+1)).drop 4=_;rw[List.drop_drop]
   rw[g,v,R,Bool.false_or] at hv;have l:(List.drop (a+1) (List.take (a+5) t)).length<=4:=by rw[List.length_drop,List.length_take];omega
   have I:=a4K (List.drop (a+1) (List.take (a+5) t)) l;have A:be (List.drop (a+1) (List.take (a+5) t))=j5 (List.drop (a+1) (List.take (a+5) t)) (List.drop (a+1) (List.take (a+5) t)).length:=rfl;rw[k1,show((a:Int)+1+4).toNat=a+5 by omega,show((a:Int)+1).toNat=a+1 by omega]
   refine⟨Z4 Z9,⟨Z9,Z9,Z9⟩,List.drop (a+1) (List.take (a+5) t),⟨Z8,l⟩,Z4 Z9,Z4 Z9,⟨1,be (List.drop (a+1) (List.take (a+5) t))-1000000000,[]⟩,⟨Z8,b0k⟩,λhq=>fin (by rw[hv];exact hq),λhq=>⟨⟨U9 _,U9 _,R0⟩,⟨⟨n-1,a+5,acc++[⟨1,be (List.drop (a+1) (List.take (a+5) t))-1000000000,[]⟩]⟩,gD he h0 L (by rw[hv,hq]),X5,X5,a34⟩,⟨⟨rfl,⟨rfl,jV⟩,X5,Z6⟩,⟨jV,gV acc ⟨1,be (List.drop (a+1) (List.take (a+5) t))-1000000000,[]⟩⟩,Z6⟩,show t.length- (a+5)<t.length-a by omega⟩⟩
  ·have k0:((t.getD a 0).toNat:Int)-1≠0:=sZ k0;have k1:((t.getD a 0).toNat:Int)-1≠1:=sZ k1;have hkn:knd t a=((t.getD a 0).toNat:Int)-1:=rfl;refine⟨⟨⟨a+1,U9 _,hlt,λj h1 h2=>Z9⟩,⟨rfl,Z8,Z9,Z8,X5,Z6⟩,Z8⟩,λy=>?_⟩
   obtain⟨k,u,r,hkz⟩:=y;dsimp only;rw[E3,E3,c7O];refine⟨λhy=>Y6 (Y2 hy),λhy=>?_,λhy=>⟨λhq=>fin ?_,λhq=>?_⟩⟩
   ·simp only[J5,o8,vZ] at hy;refine⟨Z4 Z9,⟨k+1,Z9,Z9,λj h1 h2=>?_⟩,⟨⟨rfl,Z8,rfl,Z8,X5,Z6⟩,Z8⟩,show t.length- (k+1)<t.length-k by omega⟩
    by_cases hj:j=k
    ·rw[hj];exact hy.2
    ·exact hkz j h1 Z9
   ·have hq:(k:Int)=t.length:=beq_iff_eq.1 hq;unfold J6;rw[if_neg Z9]
    by_cases k2:((t.getD a 0).toNat:Int)-1=2
    ·rw[if_pos Z9,hd]
     have:vM (t.drop (a+1))= -1:=K2 λj hj=>by
      rw[List.length_drop] at hj;rw[gL];exact hkz _ Z9 Z9
     rw[if_pos Z9]
    ·rw[if_neg Z9]
     dsimp only;rw[i,a2T k0 k1 k2];rfl
   ·have hq:(k:Int)≠t.length:=sZ hq;have hkl:k<t.length:=by omega
    rw[mO (show(k:Int)<t.length by omega),Bool.true_and,wU] at hy
    have B:List.drop (a+1) (List.take k t)=(t.drop (a+1)).take (k- (a+1)):=by rw[List.drop_take]
    refine⟨⟨Z9,Z9,Z9⟩,Z4 Z9,⟨knd t a,0,List.drop (a+1) (List.take k t)⟩,⟨Z8,by unfold cB L9;rw[List.length_drop,List.length_take];omega⟩,?_⟩
    by_cases k2:((t.getD a 0).toNat:Int)-1=2
    ·have hix:vM (t.drop (a+1))=((k- (a+1):Nat):Int):=N9 (by rw[List.length_drop];omega) (by rw[gL,show a+1+(k- (a+1))=k by omega];exact hy) λj hj=>by rw[gL];exact hkz _ Z9 Z9
     have hv:J6 (t.drop a)=(⟨2,0,List.drop (a+1) (List.take k t)⟩,t.drop (k+1), !P0 ⟨2,0,List.drop (a+1) (List.take k t)⟩):=by
      unfold J6;rw[if_neg Z9,if_pos Z9,hd,hix,if_neg Z9,E3,B,List.drop_drop,show a+1+(k- (a+1)+1)=k+1 by omega]
     rw[hkn,k2];refine⟨λhq=>fin (by rw[hv];exact hq),λhq=>⟨⟨U9 _,U9 _,R0⟩,⟨⟨n-1,k+1,acc++[⟨2,0,List.drop (a+1) (List.take k t)⟩]⟩,gD he h0 L (by rw[hv,hq]),X5,X5,a34⟩,⟨⟨rfl,⟨rfl,jV⟩,X5,Z6⟩,⟨jV,gV acc ⟨2,0,List.drop (a+1) (List.take k t)⟩⟩,Z6⟩,show t.length- (k+1)<t.length-a by omega⟩⟩
    ·have hbad:P0 ⟨knd t a,0,List.drop (a+1) (List.take k t)⟩=false:=a2T k0 k1 k2;refine⟨λ_=>fin ?_,λhq=>?_⟩
     ·unfold J6;rw[if_neg Z9,if_neg Z9]
      dsimp only;rw[i,a2T k0 k1 k2];rfl
     ·rw[hbad] at hq;cases hq
 ·have hge:=Y0 hc;have:t.drop a=[]:=List.drop_eq_nil_of_le hge;rw[this,nW (.inl rfl)] at he;have e:R6 t=(acc,true):=by unfold R6;rw[←he];rfl
  rw[e];exact⟨K0,Z8⟩
def rw0:Rw:=⟨0,⟨0,0,[]⟩,⟨0,0,[]⟩⟩
def zM(L:List Val):Int×Rw:=((L.getD 0 dz).n,⟨(L.getD 1 dz).n,L.getD 2 dz,L.getD 3 dz⟩)
def iW(x:List Val×Bool):Bool:= !x.2||((x.1.length:Int) !=4)||((x.1.getD 0 dz).k !=1)||((x.1.getD 1 dz).k !=1)
def sS(t:Bz):Int×Rw×Bool:=if(iW (R6 t)|| !V6 (zM (R6 t).1).1 1 3)=true then(0,rw0,false) else((zM (R6 t).1).1,(zM (R6 t).1).2,O2 (zM (R6 t).1).2)
def zI(t:Bz):Int×Rw×Int:=if(t.length:Int)>65536 then(0,rw0,2) else if(iW (O8 t)||(!V6 (zM (O8 t).1).1 1 3|| !O2 (zM (O8 t).1).2))=true then(0,rw0,3) else((zM (O8 t).1).1,(zM (O8 t).1).2,0)
def a0v:Rl:=⟨Bz,λb=>[.bys b],λb=>.tup [Ji (zI b).1,.agg (zI b).2.1.ts,Ji (zI b).2.2],lI⟩
def b3s:Con:=.rel a0v
def a9g{l:Bz}{B:Nat}(h:l.length<=B):(J6 l).1.t.length<=B:=by
 unfold J6;split
 ·exact N4 _
 ·split
  ·split
   ·exact N4 _
   ·show((l.drop 1).take _).length<=B;rw[List.length_take,List.length_drop];omega
  ·exact N4 _
def a1I{B:Nat}:∀(n:Nat) (l:Bz) (f:Bool) (acc:List Val),l.length<=B->(∀v ∈ acc,v.t.length<=B)->∀v ∈ (m6 n l f acc).1,v.t.length<=B:=by
 intro n;induction n with
 |zero=>intro l f acc _ h;exact h
 |succ n i=>
  intro l f acc L h;unfold m6;split
  ·exact h
  ·rename_i hc;have h0:l≠[]:=λh=>hc (.inl h)
   have:=a3V h0;refine i _ _ _ Z9 λv hv=>?_
   rcases List.mem_append.1 hv with hv|hv
   ·exact h v hv
   ·rw[List.mem_singleton.1 hv];exact a9g L
def lB{l:Bz}(h:lI l){i:Nat}:cB ((O8 l).1.getD i dz).t:=by
 have h:l.length<=1000000000:=h;show _<1000000000000;rw[P4]
 cases q:(O8 l).1[i]? with
 |none=>show 0<1000000000000;omega
 |some v=>
  have:=a1I l.length l false [] h (λv hv=>absurd hv W7) v (y4 q)
  show v.t.length<_;omega
def b37{x:List Val×Bool}{b:Bool}(h:(!x.2||((x.1.length:Int) !=4)||b)=false):x.1.length=4:=by
 simp only[wS,bne_eq_false_iff_eq] at h;omega
def c4Y{x:List Val×Bool}(h:(!x.2||((x.1.length:Int) !=4))=false):x.1.length=4:=b37 (b:=false) (by rw[h];rfl)
def kQ{n:Nat}(h:n=4){i:Int}(d:0<=i)(e:i<=3):W9 i n:=⟨d,Z9⟩
def a85:GK 99 b3s:=gk func99<|by
 intro(b:Bz) hb;refine U5 (gC a72 (gC fI (gC a5J gN))) func99 Z3 (α:=let u:=(zI b).2.2;let p:=(0=(zI b).2.1.id/\0=(zI b).2.1.n.k/\0=(zI b).2.1.n.n/\[]=(zI b).2.1.n.t/\0=(zI b).2.1.name.k/\0=(zI b).2.1.name.n/\[]=(zI b).2.1.name.t/\True);let z:=(0=(zI b).1/\p/\3=u/\True);bd ((b.length:Int)>65536) (0=(zI b).1/\p/\2=u/\True) (∃(x:aV.ι),let r:=(O8 x).1.length;let v:=(↑r:Int);let q:=(O8 x).1.getD;((b=x/\True)/\lI x)/\((!(O8 x).2||v !=4)=false->W9 (0:Int) r)/\((!(O8 x).2||v !=4||(q 0 dz).k !=1)=false->W9 (1:Int) r)/\br (!(O8 x).2||v !=4||(q 0 dz).k !=1||(q 1 dz).k !=1) z (W9 (0:Int) r/\W9 (1:Int) r/\W9 (2:Int) r/\W9 (3:Int) r/\∃(d:Int),(((q 0 dz).n=d/\True)/\True)/\∃(X:rB.ι),((!V6 d (1:Int) (3:Int))=false->(((q 1 dz).n=X.id/\(q 2 dz).k=X.n.k/\(q 2 dz).n=X.n.n/\(q 2 dz).t=X.n.t/\(q 3 dz).k=X.name.k/\(q 3 dz).n=X.name.n/\(q 3 dz).t=X.name.t/\True)/\True)/\RwB X)/\br (!V6 d (1:Int) (3:Int)|| !O2 X) z ((q 0 dz).n=(zI b).1/\((q 1 dz).n=(zI b).2.1.id/\(q 2 dz).k=(zI b).2.1.n.k/\(q 2 dz).n=(zI b).2.1.n.n/\(q 2 dz).t=(zI b).2.1.n.t/\(q 3 dz).k=(zI b).2.1.name.k/\(q 3 dz).n=(zI b).2.1.name.n/\(q 3 dz).t=(zI b).2.1.name.t/\True)/\0=u/\True)))) ⟨λh=>?_,λh=>⟨b,⟨Z8,hb⟩,λh=>kQ (c4Y h) Z9 Z9,λh=>kQ (b37 h) Z9 Z9,λq=>?_,λq=>?_⟩⟩
 ·have e:zI b=(0,rw0,2):=by unfold zI;rw[if_pos (G7 h)]
  rw[e];exact Z8
 ·have e:zI b=(0,rw0,3):=by
   have q:iW (O8 b)=true:=q;unfold zI;rw[if_neg (r9 h),q,Bool.true_or,if_pos rfl]
  rw[e];exact Z8
 ·have l:(O8 b).1.length=4:=by
   rw[wS] at q;exact b37 q.1
  have q:iW (O8 b)=false:=q;refine⟨kQ l Z9 Z9,kQ l Z9 Z9,kQ l Z9 Z9,kQ l Z9 Z9,_,Z8,(zM (O8 b).1).2,λ_=>⟨Z8,lB hb,lB hb⟩,λg=>?_,λg=>?_⟩
  ·have e:zI b=(0,rw0,3):=by
    have g:(!V6 (zM (O8 b).1).1 1 3|| !O2 (zM (O8 b).1).2)=true:=g;unfold zI;rw[if_neg (r9 h),q,g,Bool.or_true,if_pos rfl]
   rw[e];exact Z8
  ·have e:zI b=((zM (O8 b).1).1,(zM (O8 b).1).2,0):=by
    have g:(!V6 (zM (O8 b).1).1 1 3|| !O2 (zM (O8 b).1).2)=false:=g;unfold zI;rw[if_neg (r9 h),q,g,if_neg W7]
   rw[e];exact Z8
def b1r:Con:=.rel ⟨Bz,λt=>[.str t],λt=>.tup [Ji (sS t).1,.agg (sS t).2.1.ts,.bool (sS t).2.2],lI⟩
def eD{l:Bz}(h:lI l){i:Nat}:cB ((R6 l).1.getD i dz).t:=by
 unfold R6;split
 ·exact lB h
 ·show 0<1000000000000;omega
def a6V:GK 82 b1r:=gk func82<|by
 intro(t:Bz) hb;refine U5 (gC bS (gC z9 (gC a0Q gN))) func82 Z3 (α:=∃(x:(Bz)),let q:=(R6 x).1.length;let r:=(↑q:Int);let p:=(R6 x).1.getD;let z:=(p 0 dz).k;((t=x/\True)/\lI x)/\((!(R6 x).2||r !=4)=false->W9 (0:Int) q)/\((!(R6 x).2||r !=4||z !=1)=false->W9 (1:Int) q)/\((!(R6 x).2||r !=4||z !=1||(p 1 dz).k !=1)=false->W9 (0:Int) q)/\br (!(R6 x).2||r !=4||z !=1||(p 1 dz).k !=1|| !V6 (p 0 dz).n (1:Int) (3:Int)) (0=(sS t).1/\(0=(sS t).2.1.id/\0=(sS t).2.1.n.k/\0=(sS t).2.1.n.n/\[]=(sS t).2.1.n.t/\0=(sS t).2.1.name.k/\0=(sS t).2.1.name.n/\[]=(sS t).2.1.name.t/\True)/\false=(sS t).2.2/\True) (W9 (1:Int) q/\W9 (2:Int) q/\W9 (3:Int) q/\W9 (0:Int) q/\∃(X:rB.ι),((((p 1 dz).n=X.id/\(p 2 dz).k=X.n.k/\(p 2 dz).n=X.n.n/\(p 2 dz).t=X.n.t/\(p 3 dz).k=X.name.k/\(p 3 dz).n=X.name.n/\(p 3 dz).t=X.name.t/\True)/\True)/\RwB X)/\(p 0 dz).n=(sS t).1/\((p 1 dz).n=(sS t).2.1.id/\(p 2 dz).k=(sS t).2.1.n.k/\(p 2 dz).n=(sS t).2.1.n.n/\(p 2 dz).t=(sS t).2.1.n.t/\(p 3 dz).k=(sS t).2.1.name.k/\(p 3 dz).n=(sS t).2.1.name.n/\(p 3 dz).t=(sS t).2.1.name.t/\True)/\O2 X=(sS t).2.2/\True)) ⟨t,⟨Z8,hb⟩,λh=>kQ (c4Y h) Z9 Z9,λh=>kQ (b37 h) Z9 Z9,λh=>kQ (by rw[wS] at h;exact b37 h.1) Z9 Z9,λq=>?_,λq=>?_⟩
 ·have e:sS t=(0,rw0,false):=by
   have q:(iW (R6 t)|| !V6 (zM (R6 t).1).1 1 3)=true:=q;unfold sS;rw[if_pos q]
  rw[e];exact Z8
 ·have l:(R6 t).1.length=4:=by
   rw[wS,wS] at q;exact b37 q.1.1
  have e:sS t=((zM (R6 t).1).1,(zM (R6 t).1).2,O2 (zM (R6 t).1).2):=by
   have q:(iW (R6 t)|| !V6 (zM (R6 t).1).1 1 3)=false:=q;unfold sS;rw[if_neg (by rw[q];simp)]
  rw[e];exact⟨kQ l Z9 Z9,kQ l Z9 Z9,kQ l Z9 Z9,kQ l Z9 Z9,(zM (R6 t).1).2,⟨Z8,eD hb,eD hb⟩,Z8⟩
def a0H(t:Bz):Option (Int×Rw):=if(iW (O8 t)||(!V6 (zM (O8 t).1).1 1 3|| !O2 (zM (O8 t).1).2))=true then none else some (zM (O8 t).1)
def c6n{t:Bz}(h:t.length<=65536):zI t=match a0H t with|some x=>(x.1,x.2,0)|none=>(0,rw0,3):=by
 unfold zI a0H;rw[if_neg Z9]
 split<;>rfl
def c5D(t:Bz):(sS t).2.2=(a0H t).isSome/\∀x,a0H t=some x->sS t=(x.1,x.2,true):=by
 have e:iW (R6 t)=iW (O8 t):=by
  unfold R6;split
  ·rfl
  ·rename_i h;unfold iW;rw[show(O8 t).2=false by simpa using h]
   rfl
 unfold sS a0H;rw[e];cases hp:iW (O8 t)
 ·have d:R6 t=O8 t:=by
   unfold R6;rw[if_pos];unfold iW at hp;simp only[wS,wU] at hp;exact hp.1.1.1
  rw[d];cases hi:V6 (zM (O8 t).1).1 1 3
  ·exact⟨rfl,λx hx=>by cases hx⟩
  ·cases hr:O2 (zM (O8 t).1).2
   ·exact⟨rfl,λx hx=>by cases hx⟩
   ·refine⟨rfl,λx hx=>?_⟩
    cases hx;rfl
 ·exact⟨rfl,λx hx=>by cases hx⟩
structure DG(d:Dsk):Prop where
 ar:d.A=false
 kp:d.keep.length=0
 n69:d.E.length=69
 sc:∀i,i<69->(d.E.getD i []).length<=160
 cc:∀i,i<d.C.length->0<=(d.C.getD i dz).at_/\(d.C.getD i dz).at_<69/\(d.C.getD i dz).d.length<=160
def DG.pd{d:Dsk}(h:DG d):aM d:=λi hi=>by
 have:=h.cc i hi;rw[h.n69];omega
def DG.P{d:Dsk}(h:DG d)(C:d.C.length<=500):G0 d:=by
 have f:=h.n69;have e:=h.kp;refine⟨Z9,Z9,C,Z9,λ_=>e,λi hi=>h.sc i Z9,λi hi=>?_⟩
 obtain⟨j,c2,g⟩:=h.cc i hi;unfold P3 V6;rw[f];simp only[wS,wU,J5,o8,uH];omega
def c7p{r:Rec}(h:O9 r=true):r.b.length<=30/\r.a.length<=38:=by
 have h:=(Q4 r).1 h;unfold zG at h;obtain⟨_,_,_,_,_,_,_,_,_,_,_,_,_,_,B,f,e⟩:=h;refine⟨Z9,?_⟩
 by_cases d:r.k=6
 ·exact a1o (f d).2.2.2.2.2.2
 ·have:=(e d).2.2.1;omega
def FrP(n:Nat)(f:Frm):Prop:=0<=f.no/\f.no<=7/\PgP f.pg/\f.pg.Q<=n/\0<=f.first/\f.first<=n/\(f.D=true↔0<f.first)
structure GInv(s:Sto):Prop where
 dg:DG s.d
 ca:s.d.C.length<=500
 ep:1<=s.ep/\s.ep<=60
 l60:s.L.length<=60
 rc:yW s.L=true
 su:0<=s.S/\s.S<=s.L.length
 be:∀i,i<s.L.length->vA s i=false
 pg:∀no,no<8->(P7 s.d no).2=true/\(P7 s.d no).1.Q<=s.S
 fr3:s.fr.length<=3
 fp:∀i,i<s.fr.length->FrP s.L.length (s.fr.getD i dz)
 nd:∀i j,i<s.fr.length->j<s.fr.length->(s.fr.getD i dz).no=(s.fr.getD j dz).no->i=j
 cl:∀i,i<s.fr.length->(s.fr.getD i dz).D=false->(P7 s.d (s.fr.getD i dz).no.toNat).1=(s.fr.getD i dz).pg
 hd:0<=s.J/\s.J<=2
 lg:∀i,i<s.S.toNat->S1 s.d (9+i)=J4 (s.L.getD i dz)
 lz:∀i,s.S.toNat<=i->i<60->S1 s.d (9+i)=[]
def c31{L:List Frm}{no:Int}(h:0<=frAt L no):(L.getD (frAt L no).toNat dz).no=no:=by
 unfold frAt S6 at h ⊢;split at h
 ·rename_i i hi;have:=List.find?_some hi
  simpa[kZ] using this
 ·omega
def c3N{L:List Frm}{i:Nat}(hi:i<L.length)(nd:∀i j,i<L.length->j<L.length->(L.getD i dz).no=(L.getD j dz).no->i=j):frAt L (L.getD i dz).no=i:=by
 have h:0<=frAt L (L.getD i dz).no:=Classical.byContradiction λh=>a9x h hi rfl
 have d:=iF h;have:(L.getD (frAt L (L.getD i dz).no).toNat dz).no=(L.getD i dz).no:=c31 h;have:=nd _ _ d hi this;omega
def GInv.ok{s:Sto}(h:GInv s):F7 s=true:=by
 refine(G4 s).2 ⟨⟨(o5 s).2 ⟨h.dg.P h.ca,h.dg.n69,h.ep.1,h.ep.2,h.l60⟩,h.rc,?_⟩,h.be,λno n=>?_,?_,?_⟩
 ·have:=h.su;simp[V6,this]
 ·obtain⟨a,b⟩:=h.pg no n;unfold zX;rw[a];simp only[Bool.not_true,Bool.false_or,uH];omega
 ·unfold zD;have h3:=h.fr3;rw[P5.2 λi hi=>?_]
  ·simp;omega
  ·obtain⟨p1,p2,p3,p4,p5,p6,p7⟩:=h.fp i hi;unfold yZ;rw[c3N hi h.nd,show k4 (s.fr.getD i dz).pg=true from mO p3]
   simp only[V6,wS,wU,J5,o8,uH,bne_self_eq_false,true_and,and_true,Bool.not_true,bne_eq_false_iff_eq];refine⟨⟨⟨⟨p1,p2⟩,Z9⟩,p5,p6⟩,?_⟩
   rw[Bool.eq_iff_iff,o8];exact p7.symm
 ·have:=h.hd;simp[V6,this]
def GInv.sm{s:Sto}(h:GInv s):iC s:=by
 have f:=h.dg.n69;have d:=h.dg.kp;have j:=h.ca;have e:=h.l60;have g:=h.fr3;refine⟨⟨Z9,Z9,Z9⟩,Z9,Z9,λi hi=>?_⟩
 have:=(h.fp i hi).2.2.1.2.2.1;unfold SmF SmG;omega
def GInv.inv{s:Sto}(h:GInv s):SInv s:=a9s h.ok h.sm
structure OutP(s a:Sto)(k:Nat):Prop where
 g:GInv a
 le:a.fr.length=s.fr.length
 no:∀i,(a.fr.getD i dz).no=(s.fr.getD i dz).no/\(a.fr.getD i dz).pg=(s.fr.getD i dz).pg
 cl:(a.fr.getD k dz).D=false
 L:a.L=s.L/\a.ep=s.ep/\a.J=s.J/\s.S<=a.S
 ls:(s.fr.getD k dz).D=true->(s.fr.getD k dz).pg.Q<=a.S
structure FetP(s a:Sto)(k:Nat)(no:Nat):Prop where
 g:GInv a
 kk:k<a.fr.length
 no:(a.fr.getD k dz).no=no
 L:a.L=s.L/\a.ep=s.ep/\s.S<=a.S
def c9T(s:Sto)(r:Rec):Sto:=⟨s.d,s.ep,s.L++[P9 s r],s.S,s.fr,s.J⟩
def c8s{s:Sto}{r:Rec}(h:GInv s)(z:s.L.length<60)(R:O9 (P9 s r)=true):GInv (c9T s r):=by
 have L:(s.L++[P9 s r]).length=s.L.length+1:=W7
 have eG:=λi hi=>cM dz s.L (P9 s r) i hi
 have u:=h.su;have f:=h.ep;refine⟨h.dg,h.ca,h.ep,by show(s.L++[_]).length<=_;omega,C4.2 λi hi=>?_,⟨u.1,by show s.S<=((s.L++[_]).length:Nat);omega⟩,λi hi=>?_,h.pg,h.fr3,λi hi=>?_,h.nd,h.cl,h.hd,λi hi=>?_,h.lz⟩
 ·show O9 ((s.L++[_]).getD i dz)=true/\((s.L++[_]).getD i dz).l=_;have hi:i<(s.L++[P9 s r]).length:=hi;rw[eG i Z9]
  split
  ·rename_i e;exact⟨R,by rw[e];rfl⟩
  ·exact C4.1 h.rc i Z9
 ·have hi:i<(s.L++[P9 s r]).length:=hi;unfold vA;show(!V6 ((s.L++[P9 s r]).getD i dz).e (yT (s.L++[P9 s r]) i) s.ep)=false;have hb:=λj hj=>h.be j hj
  unfold vA at hb;rw[eG i Z9]
  by_cases e:i=s.L.length
  ·rw[if_pos e];show(!V6 s.ep _ s.ep)=false;have:yT (s.L++[P9 s r]) i<=s.ep:=by
    unfold yT;split
    ·exact f.1
    ·rw[eG (i-1) Z9,if_neg Z9]
     have:=c7j (hb (i-1) Z9)
     exact this.2
   simp[V6,this]
  ·rw[if_neg e,←hb i Z9]
   have:yT (s.L++[P9 s r]) i=yT s.L i:=by
    unfold yT;split
    ·rfl
    ·rw[eG (i-1) Z9,if_neg Z9]
   rw[this]
 ·have F:FrP s.L.length (s.fr.getD i dz):=h.fp i hi;obtain⟨o,q,g,v,n,x,t⟩:=F;show FrP (s.L++[P9 s r]).length (s.fr.getD i dz);rw[L];exact⟨o,q,g,Z9,n,Z9,t⟩
 ·have hi:i<s.S.toNat:=hi;show S1 s.d (9+i)=J4 ((s.L++[P9 s r]).getD i dz);rw[eG i Z9,if_neg Z9]
  exact h.lg i hi
def LI(L:List Rec):Prop:=xH L/\∀a:Int,1<=a->a<=L.length->(Y8 L a).k<=3->((Y8 L a).p=0∨ownR L (Y8 L a).p (Y8 L a).t=true)/\((Y8 L a).k=3->ownR L (Y8 L a).n (Y8 L a).t=true)
def InT(T:List Txn)(x:Int):Prop:=∃j,j<T.length/\(T.getD j dz).id=x
structure EH(L:List Rec)(T:List Txn)(lk:Lks)(nx:Int):Prop where
 li:LI L
 t10:T.length<=10
 nxr:1<=nx/\nx<=61
 lks:B8 lk=true
 id:∀i,i<T.length->1<=(T.getD i dz).id/\(T.getD i dz).id<=nx-1
 asc:∀i j,i<j->j<T.length->(T.getD i dz).id<(T.getD j dz).id
 ow:∀i,i<T.length->ownR L (T.getD i dz).Z (T.getD i dz).id=true
 hd:∀i,i<lk.H.length->InT T (lk.H.getD i dz).tx
 wt:∀i,i<lk.W.length->InT T (lk.W.getD i dz).tx/\InT T (lk.W.getD i dz).fo
 rm:L.length+tR L T T.length<=60
structure EI(e:Eng):Prop where
 g:GInv e.s
 up:e.up=true
 h:EH e.s.L e.X e.lk e.N
def c8Z{L:List Rec}{a id:Int}(h:ownR L a id=true):(Y8 L a).t=id/\1<=(Y8 L a).k/\(Y8 L a).k<=3:=by
 unfold ownR at h;simp only[J5,K5,beq_iff_eq] at h;exact⟨h.1.2,h.2⟩
def b66{L:List Rec}(h:LI L){id:Int}:∀(f:Nat) (a:Int),a.toNat<f->(a<=0∨ownR L a id=true)->chn L id f a=true
 |0,_,hf,_=>absurd hf (D2 _)
 |f+1,a,hf,ha=>by
  unfold chn;rcases ha with ha|ha
  ·rw[mO ha];rfl
  ·obtain⟨h1,h2⟩:=a50 ha;obtain⟨t1,t2,t3⟩:=c8Z ha;obtain⟨p1,p2,p3,p4⟩:=h.1.prev h1 h2;obtain⟨b1,b2⟩:=h.2 a h1 h2 t3;rw[t1] at b1 b2;have hc:chn L id f (Y8 L a).p=true:=b66 h f _ Z9 (b1.imp (λe=>Z9) λe=>e)
   rw[hc,Bool.and_true];have o:okR L id a=true:=by
    unfold okR;rw[ha,Bool.true_and];by_cases d:(Y8 L a).k=3
    ·rw[b2 d,Bool.or_true]
    ·rw[show((Y8 L a).k !=3)=true by simpa using d];rfl
   rw[o,Bool.or_true]
def c9C{L:List Rec}(h:LI L){t:Txn}(o:ownR L t.Z t.id=true):nD L t=true:=by
 obtain⟨d,e⟩:=a50 o;have:=h.1.1;unfold nD;rw[K5.2 ⟨d,e⟩,Bool.true_and];exact b66 h 61 _ Z9 (.inr o)
def a1u{T:List Txn}{x:Int}(h:InT T x):¬T8 T x<0:=λn=>by
 obtain⟨j,J,e⟩:=h;have d:=C9 T.length (x6 T x);have f:anyI T.length (x6 T x)=true:=R9.2 ⟨j,J,by unfold x6;rw[e];exact beq_self_eq_true x⟩
 rw[f] at d;have:=G7 d;have g:S6 T.length (x6 T x)<0:=n;omega
def EI.r{e:Eng}(h:EI e):sQ e=true:=by
 obtain⟨_,u,l,t10,nx,lk,id,asc,o,hd,t,rm⟩:=h;unfold sQ wC upE;rw[if_pos u];simp only[J5,o8,K5,vZ];refine⟨⟨⟨t10,nx⟩,lk⟩,⟨⟨?_,?_⟩,?_⟩,rm⟩
 ·refine P5.2 λi hi=>?_
  unfold y7;simp only[wS,wU,Bool.and_eq_false_iff,uH,K5];refine⟨⟨id i hi,?_⟩,c9C l (o i hi)⟩
  by_cases d:i=0
  ·exact .inl Z9
  ·have:=asc (i-1) i Z9 hi
   exact .inr Z9
 ·refine P5.2 λi hi=>?_
  unfold wQ;exact tQ (a1u (hd i hi))
 ·refine P5.2 λi hi=>?_
  unfold s6;rw[tQ (a1u (t i hi).1),tQ (a1u (t i hi).2)];rfl
def EI.ok{e:Eng}(h:EI e):R3 e=true:=by
 unfold R3;rw[h.g.ok,h.r];rfl
def EI.sm{e:Eng}(h:EI e):M7 e:=by
 have d:=b6B h.h.lks;have f:=h.h.t10;exact⟨h.g.sm,Z9,Z9,Z9⟩
def EH.at_{L:List Rec}{T:List Txn}{lk:Lks}{nx:Int}(h:EH L T lk nx){k:Nat}(d:k<T.length):T8 T (T.getD k dz).id=k:=
 N9 d (by unfold x6;exact beq_self_eq_true _) λj J=>by
  have:=h.asc j k J d;unfold x6;exact beq_eq_false_iff_ne.2 Z9
def c3v{T:List Txn}{k:Nat}(i:Nat)(d:k<T.length):(T.take k++T.drop (k+1)).getD i dz=T.getD (if i<k then i else i+1) dz:=by
 have l:(T.take k).length=k:=by rw[List.length_take];omega
 by_cases h:i<k
 ·rw[if_pos h,P4,rL Z9,List.getElem?_take_of_lt h,←P4]
 ·rw[if_neg h,P4,qA Z9,l,List.getElem?_drop,show k+1+(i-k)=i+1 by omega,←P4]
def c2z{T:List Txn}{k:Nat}(h:k<T.length):(T.take k++T.drop (k+1)).length=T.length-1:=by
 rw[F9,List.length_take,List.length_drop];omega
def b8I{L:List Rec}{T:List Txn}{k:Nat}(d:k<T.length):∀n,n<T.length->tR L (T.take k++T.drop (k+1)) n+(if k<=n then 1+und L 61 (T.getD k dz).Z else 0)=tR L T (if k<=n then n+1 else n)
 |0,_=>by
  by_cases h:k=0
  ·subst h;rw[if_pos (U9 _),if_pos (U9 _)];show 0+_=0+_;rfl
  ·rw[if_neg Z9,if_neg Z9]
   rfl
 |n+1,hn=>by
  have ih:=b8I (L:=L) d n Z9
  have e:tR L (T.take k++T.drop (k+1)) (n+1)=tR L (T.take k++T.drop (k+1)) n+(1+und L 61 (T.getD (if n<k then n else n+1) dz).Z):=by
   conv=>lhs;unfold tR
   rw[c3v n d]
  by_cases h:k<=n
  ·rw[if_pos h,if_pos h] at ih;have e1:(if n<k then n else n+1)=n+1:=if_neg Z9
   rw[e1] at e;have f:(if k<=n+1 then n+1+1 else n+1)=n+1+1:=if_pos Z9
   have e2:tR L T (n+1+1)=tR L T (n+1)+(1+und L 61 (T.getD (n+1) dz).Z):=rfl;rw[e,f,if_pos (show k<=n+1 by omega)]
   omega
  ·rw[if_neg h,if_neg h] at ih;have e2:tR L T (n+1)=tR L T n+(1+und L 61 (T.getD n dz).Z):=rfl;have e1:(if n<k then n else n+1)=n:=if_pos Z9
   rw[e1] at e;by_cases g:k<=n+1
   ·have:k=n+1:=by omega
    subst this;have f:tR L T (n+1+1)=tR L T (n+1)+(1+und L 61 (T.getD (n+1) dz).Z):=rfl;rw[e,if_pos (U9 _),if_pos (U9 _)];omega
   ·rw[e,if_neg g,if_neg g];omega
def c39{L:List Rec}{T:List Txn}{k:Nat}(h:k<T.length):tR L (T.take k++T.drop (k+1)) (T.take k++T.drop (k+1)).length+(1+und L 61 (T.getD k dz).Z)=tR L T T.length:=by
 have:=b8I (L:=L) h (T.length-1) Z9
 rw[if_pos Z9,if_pos Z9,show T.length-1+1=T.length by omega] at this
 rw[c2z h];exact this
def c0m{α:Type}[Inhabited α]{L:List α}{i:Nat}(h:i<L.length):L.getD i dz ∈ L:=by
 rw[P4,I1 h]
 exact List.getElem_mem h
structure NewR(L:List Rec)(tn:Txn)(x:Rec):Prop where
 p:zG x
 l:x.l=(L.length:Int)+1
 t:x.t=tn.id
 pp:x.p=tn.Z
def c1B{L:List Rec}{T:List Txn}{k:Nat}(h:k<T.length):1<=tR L T T.length:=by
 have:=c39 (L:=L) h;omega
def phi(e:Eng):Nat:=e.s.L.length+nK e
def EI.app{e:Eng}(h:EI e){k:Nat}(d:k<e.X.length){r:Rec}(R:zG (P9 e.s (B9 e k r))):GInv (E9 e k r).s:=by
 have M:=h.h.rm;have hp:=c1B (L:=e.s.L) d;exact c8s h.g Z9 ((Q4 _).2 R)
structure UndP(e:Eng)(k:Nat)(u:(Eng×Nat)×Bool)(to:Int):Prop where
 al:u.2=true
 ei:EI u.1.1
 ln:u.1.1.X.length=e.X.length
 ph:phi u.1.1=phi e
 un:∃a,a<=to/\und u.1.1.s.L 61 (u.1.1.X.getD k dz).Z=und u.1.1.s.L 61 a
def cF(tx:Int)(w:Wt):Bool:=w.tx !=tx
def J1(l:Lks)(tx:Int):Lks:=⟨l.H,X8 (cF tx) l.W l.W.length⟩
def b2a(a b:Int):Bool:=(a==b)||(a==4)||(b==1)
def qC(L:List Lck)(x:Lck)(i:Nat):Bool:=((L.getD i dz).tx==x.tx)&&((L.getD i dz).ta==x.ta)&&((L.getD i dz).row==x.row)&&b2a (L.getD i dz).mo x.mo
def cX(L:List Wt)(w:Wt)(i:Nat):Bool:=((L.getD i dz).tx==w.tx)&&(((L.getD i dz).fo==w.fo)&&true)
def V1(L:List Lck)(x:Lck):Nat->List Wt
 |0=>[]
 |i+1=>if clash (L.getD i dz) x=true then(if anyI (V1 L x i).length (cX (V1 L x i) ⟨x.tx,(L.getD i dz).tx⟩)=true then V1 L x i else V1 L x i++[⟨x.tx,(L.getD i dz).tx⟩]) else V1 L x i
def thr(R:List Int)(a:Int)(i:Nat):Bool:=R.getD i 0==a
def scn(W:List Wt)(tx a:Int)(R:List Int):Nat->Option (List Int)
 |0=>some R
 |k+1=>match scn W tx a R k with
  |none=>none
  |some Q=>if(W.getD k dz).tx=a then(if(W.getD k dz).fo=tx then none else if anyI Q.length (thr Q (W.getD k dz).fo)=true then some Q else some (Q++[(W.getD k dz).fo])) else some Q
def a1V(W:List Wt)(tx:Int):Nat->Nat->List Int->Bool
 |0,_,_=>false
 |f+1,i,R=>if i<R.length then(match scn W tx (R.getD i 0) R W.length with|none=>true|some Q=>a1V W tx f (i+1) Q) else false
def rnd(W:List Wt)(tx:Int):Bool:=a1V W tx 200 0 [tx]
def C0(l:Lks)(x:Lck):List Wt:=V1 l.H x l.H.length
def T6(l:Lks)(x:Lck):Lks×Int:=
 if anyI l.H.length (qC l.H x)=true then(J1 l x.tx,0) else
 if(C0 l x).length=0 then(if l.H.length=60 then(J1 l x.tx,7) else(⟨l.H++[x],(J1 l x.tx).W⟩,0)) else
 if(J1 l x.tx).W.length+(C0 l x).length>100 then(J1 l x.tx,7) else
 if rnd ((J1 l x.tx).W++C0 l x) x.tx=true then(J1 l x.tx,14) else(⟨l.H,(J1 l x.tx).W++C0 l x⟩,13)
def a7i{L:List Lck}{x:Lck}:∀n,(V1 L x n).length<=n
 |0=>U9 0
 |n+1=>by
  have i:=a7i (L:=L) (x:=x) n;unfold V1;split
  ·split
   ·omega
   ·rw[F9,List.length_singleton];omega
  ·omega
structure LkP(T:List Txn)(l:Lks):Prop where
 ok:B8 l=true
 hd:∀a ∈ l.H,InT T a.tx
 wt:∀w ∈ l.W,InT T w.tx/\InT T w.fo
def R7(e:Eng)(s:Sto):Eng:={e with s:=s}
def qE(e:Eng)(k:Nat)(ta row mo:Int):Lck:=⟨(e.X.getD k dz).id,ta,row,mo⟩
def pE(e:Eng)(k:Nat)(ta row mo:Int):Eng:={e with lk:=(T6 e.lk (qE e k ta row mo)).1}
def R4(e:Eng)(k:Nat)(ta row mo:Int):Eng×Int:=
 if(T6 e.lk (qE e k ta row mo)).2=14 then((I6 (pE e k ta row mo) k).1.1,if(I6 (pE e k ta row mo) k).2=0 then 14 else 15) else(pE e k ta row mo,(T6 e.lk (qE e k ta row mo)).2)
structure LokR(ta row mo:Int):Prop where
 a:1<=ta/\ta<=3
 b: -1<=row/\row<=1000
 c:1<=mo/\mo<=4
 d:row<0∨3<=mo
def kepA(L:List Rec)(g s:Int):Nat->Int->Bool
 |0,_=>false
 |f+1,a=>if a<=0 then false else if(Y8 L a).k=3 then kepA L g s f (Y8 L a).n else if(Y8 L a).k=2/\(Y8 L a).g=g/\(Y8 L a).s=s then true else kepA L g s f (Y8 L a).p
def oP(e:Eng)(tx g s:Int)(i:Nat):Bool:= !((e.X.getD i dz).id==tx)&&kepA e.s.L g s 61 (e.X.getD i dz).Z
def lM(e:Eng)(tx g s:Int):Bool:=anyI e.X.length (oP e tx g s)
structure Plc where
 a:Int
 b:Int
 c:Int
 d:Int
 deriving Inhabited
def a1K(t:Bz)(ta id:Int):Bool:=(sS t).2.2&&((sS t).1==ta)&&((sS t).2.1.id==id)
def vI(e:Eng)(tx ta id:Int)(no:Nat)(p:Pg)(A:Plc):Nat->Plc
 |0=>A
 |i+1=>let B:=vI e tx ta id no p A i
  if p.sl.getD i []=[] then(if B.c<0/\lM e tx no i=false then⟨B.a,B.b,no,i⟩ else B)
  else if a1K (p.sl.getD i []) ta id=true/\B.a<0 then⟨no,i,B.c,B.d⟩ else B
def T2(e:Eng)(tx ta id:Int):Nat->Sto×Plc×Bool
 |0=>(e.s,⟨-1,-1,-1,-1⟩,true)
 |n+1=>if(T2 e tx ta id n).2.2=true then
   (if(Y3 (T2 e tx ta id n).1 n).2.2=true then((Y3 (T2 e tx ta id n).1 n).1,vI e tx ta id n ((Y3 (T2 e tx ta id n).1 n).1.fr.getD (Y3 (T2 e tx ta id n).1 n).2.1 dz).pg (T2 e tx ta id n).2.1 4,true) else((Y3 (T2 e tx ta id n).1 n).1,(T2 e tx ta id n).2.1,false))
  else T2 e tx ta id n
def c6X(A:Plc):Prop:=(A.a= -1∨(0<=A.a/\A.a<=7/\0<=A.b/\A.b<=3))/\(A.c= -1∨(0<=A.c/\A.c<=7/\0<=A.d/\A.d<=3))
def b5t{e:Eng}{tx ta id:Int}{no:Nat}{p:Pg}{A:Plc}(N:no<8)(h:c6X A):∀n,n<=4->c6X (vI e tx ta id no p A n)
 |0,_=>h
 |n+1,hn4=>by
  have i:=b5t (e:=e) (tx:=tx) (ta:=ta) (id:=id) (p:=p) N h n Z9
  unfold vI;dsimp only;split
  ·split
   ·exact⟨i.1,.inr ⟨X5,X5,X5,X5⟩⟩
   ·exact i
  ·split
   ·exact⟨.inr ⟨X5,X5,X5,X5⟩,i.2⟩
   ·exact i
def J2(g s:Int)(b a:Bz):Rec:=⟨0,0,0,2,0,0,g,s,b,a⟩
def k8(e:Eng)(k:Nat)(r:Rec):Eng×Bool:=(R7 (E9 e k r) (T9 (E9 e k r).s (P9 e.s (B9 e k r))).1,(T9 (E9 e k r).s (P9 e.s (B9 e k r))).2)
def m7(v:Val):Bz:=if v.k=0 then[1] else if v.k=1 then 2::z8 (v.n+1000000000).toNat else 3::(v.t++[0])
def sW(ta:Int)(r:Rw):Bz:=m7 ⟨1,ta,[]⟩++m7 ⟨1,r.id,[]⟩++m7 r.n++m7 r.name
def v7(e:Eng)(A:Plc)(s:Sto):Sto×Bz:=((Y3 s A.a.toNat).1,((Y3 s A.a.toNat).1.fr.getD (Y3 s A.a.toNat).2.1 dz).pg.sl.getD A.b.toNat [])
def GInv.B{s:Sto}(h:GInv s):b26 s:=by
 have j:=h.dg.n69;have f:=h.dg.kp;have n:=h.ca;have g:=h.l60;have l:=h.fr3;have key:∀r ∈ s.L,r.a.length<=38:=λr R=>by
  obtain⟨i,hi,e⟩:=List.getElem_of_mem R;have d:s.L.getD i dz=r:=by rw[P4,I1 hi,e];rfl
  have:=(c7p (C4.1 h.rc i hi).1).2;rw[d] at this;exact this
 refine⟨⟨sV,sV,sV⟩,?_,⟨sV,λi hi=>?_⟩,λr R=>by have:=key r R;unfold L9;omega⟩
 ·exact⟨Z9,λr R=>by have:=key r R;omega⟩
 ·have:=(h.fp i hi).2.2.1.2.2.1;unfold PgB L9;omega
end
end Go.Proofs.YtpdnnhnfongoeaaGreat
