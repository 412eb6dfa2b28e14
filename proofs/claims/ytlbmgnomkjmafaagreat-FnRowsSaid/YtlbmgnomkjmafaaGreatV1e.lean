/- A part of the proof. -/
import Derived.Test.YtlbmgnomkjmafaaGreatU1
import Derived.Test.YtlbmgnomkjmafaaGreatX1
namespace Go.Proofs.YtlbmgnomkjmafaaGreat
set_option maxRecDepth 100000
open Go.SS Go.Proofs.Tryz
noncomputable section
def O9(L:List Val)(i:Nat):List T:=(L.getD i dz).ts
def b3c(L:List Val):T:=.sl 3 L.length (O9 L)
def isZ(l:Bz)(i:Nat):Bool:=(0:Int)==((l.getD i 0).toNat:Int)
def b8(l:Bz):Int:=Q9 l.length (isZ l)
def b2v:Con:=.rel ⟨Bz,λl=>[.bys l,.int .u8 0],λl=>Ji (b8 l),λl=>M1 l.length⟩
def b3i(l:Bz):Nat->Ann
 |0=>.one (U8 l.length (isZ l)) (λx=>⟨[(0,.bys l),(1,.int .u8 0),(7,Ji l.length),(8,Ji x.1)],[]⟩) (λx=>l.length-x.1) [] [] (λ_=>Y9)
 |_=>.none
theorem tQ{a b:Int}(h:(a==b)=false):a≠b:=λe=>by rw[e] at h;simp at h
theorem a6d:GK 153 b2v:=gk func153<|by
 intro(l:Bz) (hL:l.length<1000000000000);refine S1 gN func153 (b3i l) (α:=let p:=(l.length:Int);(∃(x:U8 l.length (isZ l)),(l=l/\(0:Int)=0/\p=p/\0=(x.1:Int)/\True)/\True)/\∀(x:U8 l.length (isZ l)),let q:=(x.1:Int);bd (q<p) (V7 q l.length/\br ((0:Int)==(↑(l.getD q.toNat (0:UInt8)).toNat:Int)) (q=b8 l) (Ri (q+1)/\∃(y:U8 l.length (isZ l)),((l=l/\(0:Int)=0/\p=p/\q+1=(y.1:Int)/\True)/\True)/\Lt (l.length-y.1) (l.length-x.1))) ((-1:Int)=b8 l)) ⟨⟨F4,Z8⟩,λx=>⟨λC=>?_,λC=>?_⟩⟩
 ·have h:=Y1 C;exact⟨Y3 h,λhp=>(N4 h hp x.2.2).symm,λhp=>⟨V5 h Z9,x.succ h hp,⟨⟨rfl,rfl,rfl,J7,Z6⟩,Z6⟩,U8.ext_lt h⟩⟩
 ·have e:=X6 C;exact(K9 λj J=>x.2.2 j (yK J e)).symm
def K6(l:Bz):Val×Bz×Bool:=
 if numR l-1=1 then(⟨1,be (T7 (l.drop 1) 4)-1000000000,[]⟩,R0 (l.drop 1) 4,big (l.drop 1) 4|| !S7 ⟨1,be (T7 (l.drop 1) 4)-1000000000,[]⟩)
 else if numR l-1=2 then
  if b8 (l.drop 1)<0 then(⟨2,0,[]⟩,l.drop 1,true)
  else(⟨2,0,(l.drop 1).take (b8 (l.drop 1)).toNat⟩,(l.drop 1).drop ((b8 (l.drop 1)).toNat+1), !S7 ⟨2,0,(l.drop 1).take (b8 (l.drop 1)).toNat⟩)
 else(⟨numR l-1,0,[]⟩,l.drop 1, !S7 ⟨numR l-1,0,[]⟩)
def sY(l:Bz):Prop:=l.length<=1000000000
def a8I:Rle:=⟨Bz,λ_=>[.ref 0 0 0],λl=>[rdr l false],λl=>.agg (K6 l).1.ts,λl=>[rdr (K6 l).2.1 (K6 l).2.2],λl=>l≠[]/\sY l⟩
def c0e:Con:=.reff a8I
theorem b49:GK 86 c0e:=gk func86<|by
 rintro(l:Bz) ⟨h0,(hl:l.length<=1000000000)⟩;have N:=u6 l;have f:l.isEmpty=false:=by cases l with|nil=>exact absurd rfl h0|cons=>rfl
 have hd:(l.drop 1).length<=1000000000:=by rw[List.length_drop];omega
 have h:(T7 (l.drop 1) 4).length<=4:=by
  unfold T7;split
  ·rw[List.length_replicate];omega
  ·rw[List.length_take];omega
 refine vcE (gC a1x (gC rA (gC a2o (gC a6d (gC kM gN))))) func86 Y9 (bs:=[true]) (α:=let j:=(K6 l).1.t;let w:=(K6 l).1.n;let y:=(K6 l).1.k;let u:=(K6 l).2.2;let z:=(K6 l).2.1;let q:=(numR l-1=y/\0=w/\[]=j/\True);let p:=(List.drop 1 l);Ri (numR l-1)/\br (numR l-1==1) (v6 (4:Int)/\∃(x:a5f.ι),let r:=(↑(be x):Int);((T7 p 4=x/\True)/\nH x)/\Ri (r-1000000000)/\∃(X:F7.ι),((false||l.isEmpty||big p (4:Int))=false->((numR l-1=X.k/\r-1000000000=X.n/\[]=X.t/\True)/\True)/\dF X.t)/\(numR l-1=y/\r-1000000000=w/\[]=j/\True)/\(oo (R0 p 4=z/\(false||l.isEmpty||big p (4:Int)|| !S7 X)=u/\True))/\True) (br (numR l-1==2) (∃(x:(Bz)),let v:=(R0 p (b8 x));((List.drop 1 l=x/\(0:Int)=0/\True)/\M1 (x.length))/\bd (b8 x<0) (q/\(oo (List.drop 1 l=z/\true=u/\True))/\True) (v6 (b8 x)/\v6 (1:Int)/\∃(X:F7.ι),((false||l.isEmpty||big p (b8 x)||big v (1:Int))=false->((numR l-1=X.k/\0=X.n/\T7 p (b8 x)=X.t/\True)/\True)/\dF X.t)/\(numR l-1=y/\0=w/\T7 p (b8 x)=j/\True)/\(oo (R0 v 1=z/\(false||l.isEmpty||big p (b8 x)||big v (1:Int)|| !S7 X)=u/\True))/\True)) (∃(x:F7.ι),((false||l.isEmpty)=false->((numR l-1=x.k/\0=x.n/\[]=x.t/\True)/\True)/\dF x.t)/\q/\(oo (List.drop 1 l=z/\(false||l.isEmpty|| !S7 x)=u/\True))/\True))) ⟨Z3 Z9,λhk=>⟨by unfold v6;omega,T7 (l.drop 1) 4,⟨Z8,h⟩,?_,⟨1,be (T7 (l.drop 1) 4)-1000000000,[]⟩,λ_=>⟨⟨⟨beq_iff_eq.1 hk,Z8⟩,Z6⟩,b0d⟩,?_⟩,λhk=>⟨λhk2=>⟨l.drop 1,⟨Z8,nO⟩,λhx=>?_,λhx=>?_⟩,λhk2=>?_⟩⟩
 ·have:=a4e (T7 (l.drop 1) 4) h;have e:be (T7 (l.drop 1) 4)=m7 (T7 (l.drop 1) 4) (T7 (l.drop 1) 4).length:=rfl;exact Z3 Z9
 ·have hk:numR l-1=1:=beq_iff_eq.1 hk;unfold K6;rw[if_pos hk,f];exact⟨⟨hk,Z8⟩,Z8⟩
 ·have hk':numR l-1≠1:=tQ hk;have hk2:numR l-1=2:=beq_iff_eq.1 hk2;have hx:b8 (l.drop 1)<0:=E4 hx;unfold K6;rw[if_neg hk',if_pos hk2,if_pos hx];exact⟨⟨hk2,Z8⟩,Z8⟩
 ·have hk':numR l-1≠1:=tQ hk;have hk2:numR l-1=2:=beq_iff_eq.1 hk2;have hx:¬b8 (l.drop 1)<0:=s6 hx;obtain⟨i,hi,hz,_,hix⟩:=a1T hx;have hix:b8 (l.drop 1)=(i:Int):=hix;have b1:big (l.drop 1) (i:Int)=false:=by unfold big;rw[uG Z9]
  have g:T7 (l.drop 1) (i:Int)=(l.drop 1).take i:=by unfold T7;rw[b1];rfl
  have r:R0 (l.drop 1) (i:Int)=(l.drop 1).drop i:=by unfold R0;rw[b1];rfl
  have b2:big ((l.drop 1).drop i) 1=false:=by unfold big;rw[uG (by rw[List.length_drop];omega)]
  have R:R0 ((l.drop 1).drop i) 1=(l.drop 1).drop (i+1):=by
   unfold R0;rw[b2];show((l.drop 1).drop i).drop 1=_;rw[List.drop_drop]
  unfold K6;rw[if_neg hk',if_pos hk2,if_neg hx,hix,g,r,R,b1,b2,f];refine⟨⟨Z9,Z9⟩,by unfold v6;omega,⟨2,0,(l.drop 1).take i⟩,λ_=>⟨⟨⟨hk2,Z8⟩,Z6⟩,by unfold dF M1;rw[List.length_take];omega⟩,⟨hk2,rfl,rfl,Z6⟩,⟨rfl,rfl,rfl,rfl,Z6⟩,Z6⟩
 ·have hk':numR l-1≠1:=tQ hk;have d:numR l-1≠2:=tQ hk2;unfold K6;rw[if_neg hk',if_neg d,f];exact⟨⟨numR l-1,0,[]⟩,λ_=>⟨Z8,b0d⟩,Z8⟩
theorem a3v{l:Bz}(h:l≠[]):(K6 l).2.1.length<l.length:=by
 have hp:0<l.length:=List.length_pos_iff.2 h;have hd:(l.drop 1).length<l.length:=by rw[List.length_drop];omega
 have r:∀(m:Bz) (n:Int),(R0 m n).length<=m.length:=λm n=>by
  unfold R0;split
  ·omega
  ·rw[List.length_drop];omega
 unfold K6;split
 ·exact Nat.lt_of_le_of_lt (r _ _) hd
 ·split
  ·split
   ·exact hd
   ·show((l.drop 1).drop _).length<_;rw[List.length_drop];omega
  ·exact hd
def x5:Nat->Bz->Bool->List Val->List Val×Bool
 |0,_,f,acc=>(acc, !f)
 |n+1,l,f,acc=>if l=[]∨f=true then(acc, !f) else x5 n (K6 l).2.1 (K6 l).2.2 (acc++[(K6 l).1])
def O6(l:Bz):List Val×Bool:=x5 l.length l false []
def bU:Rl:=⟨Bz,λb=>[.bys b],λb=>.tup [b3c (O6 b).1,.bool (O6 b).2],sY⟩
def b2Q:Con:=.rel bU
def a9k(b:Bz):Type:={x:Nat×Bz×Bool×List Val//x5 x.1 x.2.1 x.2.2.1 x.2.2.2=O6 b/\x.2.1.length<=x.1/\x.2.2.2.length+x.1<=b.length}
def b2W(b:Bz):Nat->Ann
 |0=>.one (a9k b) (λx=>⟨[(4,.ref 0 0 0),(5,.osl 1 0 x.1.2.2.2.length)],[rdr x.1.2.1 x.1.2.2.1,some (.arr true 0 3 x.1.2.2.2.length (O9 x.1.2.2.2))]⟩) (λx=>x.1.1) b9M [.box 0,.arr 3] (λ_=>Y9)
 |_=>.none
theorem iL(L:List Val)(v:Val):Z7 (L.length+1) (X7 (O9 L) L.length λk=>List.take 3 (List.drop (k*3) v.ts)) (O9 (L++[v])):=by
 intro i hi;by_cases h:i<L.length
 ·rw[P7 h];simp[O9,uW h]
 ·obtain rfl:i=L.length:=by omega
  rw[P8 (V8 _),j_i];simp[O9,Val.ts]
theorem rR{n:Nat}{l:Bz}{acc:List Val}(h:l≠[])(N:l.length<=n):x5 n l false acc=x5 (n-1) (K6 l).2.1 (K6 l).2.2 (acc++[(K6 l).1]):=by
 have hp:0<l.length:=List.length_pos_iff.2 h;obtain⟨m,rfl⟩:∃m,n=m+1:=⟨n-1,Z9⟩
 conv=>lhs;unfold x5
 rw[if_neg (by simp[h])]
 rfl
theorem tR{n:Nat}{l:Bz}{f:Bool}{acc:List Val}(h:l=[]∨f=true):x5 n l f acc=(acc, !f):=by
 cases n with
 |zero=>rfl
 |succ n=>unfold x5;rw[if_pos h]
theorem a7v:GK 42 b2Q:=gk func42<|by
 intro(b:Bz) (hb:b.length<=1000000000);refine S1 (gC b49 gN) func42 (b2W b) (α:=let u:=(0=0/\0=0);(∃(x:a9k b),let r:=x.1.2.2;(u/\(0=0/\0=r.2.length)/\True)/\(oo (b=x.1.2.1/\false=r.1/\True))/\(0=r.2.length/\Z7 0 (tk 3 []) (O9 r.2))/\True)/\∀(x:a9k b),let p:=x.1.2.2;let q:=p.2.length;br (decide ((x.1.2.1.length:Int)>0)&& ! p.1) (∃(X:a8I.ι),((u/\True)/\((1=1/\Z7 1 (λ(x_2:Nat)=>[T.bys x.1.2.1,T.bool p.1]) λ(x:Nat)=>[T.bys X,T.bool false])/\True)/\X≠[]/\sY X)/\(Le 1 1/\Le p.2.length q/\U9 p.2.length 1 32)/\∃(y:a9k b),let z:=y.1.2.2;((u/\(0=0/\q+1=z.2.length)/\True)/\(oo ((K6 X).2.1=y.1.2.1/\(K6 X).2.2=z.1/\True))/\(q+1=z.2.length/\Z7 (q+1) (X7 (O9 p.2) p.2.length (tk 3 [Ji (K6 X).1.k,Ji (K6 X).1.n,T.str (K6 X).1.t])) (O9 z.2))/\True)/\Lt y.1.1 x.1.1) (Le (0+q) q/\(Z2 O9 p.2 (O6 b).1)/\(! p.1)=(O6 b).2/\True)) ⟨⟨⟨(b.length,b,false,[]),rfl,V8 _,by dsimp only[List.length_nil];omega⟩,⟨⟨rfl,rfl⟩,⟨rfl,rfl⟩,Z6⟩,⟨rfl,rfl,rfl,rfl,Z6⟩,⟨rfl,nY _ _⟩,Z6⟩,λx=>?_⟩
 obtain⟨⟨n,l,f,acc⟩,e,hl,N⟩:=x;dsimp only at e hl N ⊢;refine⟨λhc=>?_,λhc=>?_⟩
 ·simp only[O4,r8,xV] at hc;obtain⟨hp,rfl⟩:=hc;have h0:l≠[]:=λh=>by rw[h] at hp;simp at hp
  have hv:=a3v h0;rw[rR h0 hl] at e;refine⟨l,⟨Z8,⟨⟨rfl,λi hi=>b61⟩,Z6⟩,h0,by unfold sY;omega⟩,⟨V8 _,V8 _,R1⟩,⟨(n-1,(K6 l).2.1,(K6 l).2.2,acc++[(K6 l).1]),e,X0,a0c⟩,⟨⟨Z8,⟨rfl,kP⟩,Z6⟩,Z8,⟨kP,iL _ _⟩,Z6⟩,show n-1<n by omega⟩
 ·have d:l=[]∨f=true:=by
   cases f with
   |true=>exact .inr rfl
   |false=>
    refine .inl (List.length_eq_zero_iff.1 ?_)
    have hc:(decide ((l.length:Int)>0)&& !false)=false:=hc;simp only[Bool.not_false,Bool.and_true,qN] at hc;omega
  rw[tR d] at e;rw[←e];exact⟨L6,Z8⟩
def R4(t:Bz):List Val×Bool:=if(O6 t).2=true then O6 t else([],false)
def a2q:Con:=.rel ⟨Bz,λt=>[.str t],λt=>.tup [b3c (R4 t).1,.bool (R4 t).2],sY⟩
structure KSt where
 n:Nat
 at_:Nat
 acc:List Val
def a0r(t:Bz):Type:={x:KSt//x5 x.n (t.drop x.at_) false x.acc=O6 t/\x.at_<=t.length/\t.length-x.at_<=x.n/\x.acc.length+x.n<=t.length}
def NoZ(t:Bz)(a:Nat):Type:={k:Nat//a<=k/\k<=t.length/\∀j,a<=j->j<k->isZ t j=false}
def knd(t:Bz)(a:Nat):Int:=((t.getD a 0).toNat:Int)-1
def a1G(t:Bz):Nat->Ann
 |0=>.one (a0r t) (λx=>⟨[(0,.str t),(4,.osl 0 0 x.1.acc.length),(5,Ji x.1.at_)],[some (.arr true 0 3 x.1.acc.length (O9 x.1.acc))]⟩) (λx=>t.length-x.1.at_) [.arr 0] [.arr 3] (λx=>fun
  |1=>.one (NoZ t (x.1.at_+1)) (λy=>⟨[(0,.str t),(4,.osl 0 0 x.1.acc.length),(5,Ji (x.1.at_+1:Nat)),(6,.ref 1 0 0),(7,Ji y.1)],[some (.arr true 0 3 x.1.acc.length (O9 x.1.acc)),some (.arr true 1000000 3 1 λ_=>[Ji (knd t x.1.at_),Ji 0,.str []])]⟩) (λy=>t.length-y.1) b3V b3V (λ_=>Y9)
  |_=>.none)
 |_=>.none
theorem a2J{t:Bz}{n:Nat}{l:Bz}{acc:List Val}(h:x5 n l false acc=O6 t)(d:l≠[])(hl:l.length<=n)(f:(K6 l).2.2=true):R4 t=([],false):=by
 rw[rR d hl,f,tR (.inr rfl)] at h;unfold R4;rw[←h];rfl
theorem gZ{t:Bz}{n:Nat}{l:Bz}{acc:List Val}(h:x5 n l false acc=O6 t)(d:l≠[])(hl:l.length<=n){v:Val}{r:Bz}(hv:K6 l=(v,r,false)):x5 (n-1) r false (acc++[v])=O6 t:=by
 rw[rR d hl,hv] at h;exact h
theorem a2x{k n:Int}{s:Bz}(d:k≠0)(h:k≠1)(e:k≠2):S7 ⟨k,n,s⟩=false:=by
 unfold S7;dsimp only;rw[if_neg d,if_neg h,show(k==2)=false from beq_eq_false_iff_ne.2 e]
 rfl
theorem a0a{t:Bz}(a i:Nat):(t.drop a).getD i 0=t.getD (a+i) 0:=by
 rw[R2,R2,List.getElem?_drop]
theorem iB(t:Bz)(a i:Nat):isZ (t.drop a) i=isZ t (a+i):=by unfold isZ;rw[a0a]
theorem c5j(t:Bz)(k:Nat):(((t.getD k 0).toNat:Int) !=0)= !isZ t k:=by
 unfold isZ;rw[show(((t.getD k 0).toNat:Int) !=0)= !(((t.getD k 0).toNat:Int)==0) from rfl]
 congr 1
 rw[Bool.eq_iff_iff,beq_iff_eq,beq_iff_eq];exact eq_comm
theorem cV:GK 266 a2q:=gk func266<|by
 intro(t:Bz) (hb:t.length<=1000000000);refine S1 (gC kU (gC dG gN)) func266 (a1G t) (α:=let m:=(t.length:Int);let q:=(Le 0 0/\(0=(R4 t).1.length/\Z7 0 (tk 3 []) (O9 (R4 t).1))/\false=(R4 t).2/\True);(∃(x:a0r t),(t=t/\(0=0/\0=x.1.acc.length)/\0=(x.1.at_:Int)/\True)/\(0=x.1.acc.length/\Z7 0 (tk 3 []) (O9 x.1.acc))/\True)/\∀(x:a0r t),let w:=x.1.acc;let l:=(Z2 O9 x.1.acc w);let z:=x.1.at_;let i:=((z:Int)+1);let b:=(t.length-z);let f:=((z:Int)+1+4);let j:=(↑(z+1):Int);let r:=w.length;let u:=(Le 1 1/\Le w.length r/\U9 w.length 1 32);let p:=(↑(t.getD (z:Int).toNat (0:UInt8)).toNat:Int);let g:=(IntKind.i64.wrap p-1);bd ((z:Int)<m) (V7 (z:Int) t.length/\Ri g/\Ri i/\br (IntKind.i64.wrap p-1==0) (∃(X:F7.ι),(((IntKind.i64.wrap p-1=X.k/\0=X.n/\[]=X.t/\True)/\True)/\dF X.t)/\br (!S7 X) q (u/\∃(y:a0r t),((t=t/\(0=0/\r+1=y.1.acc.length)/\(z:Int)+1=(y.1.at_:Int)/\True)/\(r+1=y.1.acc.length/\Z7 (r+1) (X7 (O9 w) w.length (tk 3 [Ji g,Ji 0,T.str []])) (O9 y.1.acc))/\True)/\Lt (t.length-y.1.at_) b)) (br (IntKind.i64.wrap p-1==1) (Ri f/\bd ((z:Int)+1+4>m) q (Ri f/\b00 i f t.length/\∃(X:jE.ι),let a:=((↑(be X):Int)-1000000000);((List.drop i.toNat (List.take f.toNat t)=X/\True)/\nH X)/\Ri a/\Ri f/\∃(d:F7.ι),(((IntKind.i64.wrap p-1=d.k/\(↑(be X):Int)-1000000000=d.n/\[]=d.t/\True)/\True)/\dF d.t)/\br (!S7 d) q (u/\∃(y:a0r t),((t=t/\(0=0/\r+1=y.1.acc.length)/\(z:Int)+1+4=(y.1.at_:Int)/\True)/\(r+1=y.1.acc.length/\Z7 (r+1) (X7 (O9 w) w.length (tk 3 [Ji g,Ji a,T.str []])) (O9 y.1.acc))/\True)/\Lt (t.length-y.1.at_) b))) ((∃(X:NoZ t (x.1.at_+1)),(t=t/\(0=0/\r=r)/\(z:Int)+1=j/\(0=0/\0=0)/\(z:Int)+1=(X.val:Int)/\True)/\l/\(oo (IntKind.i64.wrap p-1=knd t z/\(0:Int)=0/\([]:Bz)=[]/\True))/\True)/\∀(X:NoZ t (x.1.at_+1)),let v:=(X.val:Int);let c:=(List.take v.toNat t);(decide (v<m)=true->V7 v t.length)/\br (decide (v<m)&&(↑(t.getD v.toNat (0:UInt8)).toNat:Int) !=0) (Ri (v+1)/\∃(y:NoZ t (x.1.at_+1)),((t=t/\(0=0/\r=r)/\j=j/\(0=0/\0=0)/\v+1=(y.1:Int)/\True)/\l/\(oo (knd t z=knd t z/\(0:Int)=0/\([]:Bz)=[]/\True))/\True)/\Lt (t.length-y.1) (t.length-X.val)) (br (v==m) q (b00 j v t.length/\Ri (v+1)/\∃(d:F7.ι),(((knd t z=d.k/\0=d.n/\List.drop j.toNat c=d.t/\True)/\True)/\dF d.t)/\br (!S7 d) q (u/\∃(y:a0r t),((t=t/\(0=0/\r+1=y.1.acc.length)/\v+1=(y.1.at_:Int)/\True)/\(r+1=y.1.acc.length/\Z7 (r+1) (X7 (O9 w) w.length (tk 3 [Ji (knd t z),Ji 0,T.str (List.drop j.toNat c)])) (O9 y.1.acc))/\True)/\Lt (t.length-y.1.at_) b)))))) (Le (0+r) r/\(Z2 O9 x.1.acc (R4 t).1)/\true=(R4 t).2/\True)) ⟨⟨⟨⟨t.length,0,[]⟩,rfl,O3 _,V8 _,by dsimp only[List.length_nil];omega⟩,⟨rfl,⟨rfl,rfl⟩,rfl,Z6⟩,⟨rfl,nY _ _⟩,Z6⟩,λx=>?_⟩
 obtain⟨⟨n,a,acc⟩,he,C,hl,N⟩:=x;dsimp only at he C hl N ⊢;rw[G2,vF];have q:=zI t a;have L:(t.drop a).length<=n:=by rw[List.length_drop];exact hl
 refine⟨λhc=>?_,λhc=>?_⟩
 ·have hlt:=Y1 hc;have h0:t.drop a≠[]:=λh=>by have:=congrArg List.length h;rw[List.length_drop,List.length_nil] at this;omega
  have i:numR (t.drop a)-1=((t.getD a 0).toNat:Int)-1:=by unfold numR;rw[a0a];rfl
  have hd:(t.drop a).drop 1=t.drop (a+1):=by rw[List.drop_drop]
  have o:∀{P:Prop},(K6 (t.drop a)).2.2=true->(R4 t=([],false)->P)->P:=λF h=>h (a2J he h0 L F)
  have fin:(K6 (t.drop a)).2.2=true->Le 0 0/\((0:Nat)=(R4 t).1.length/\Z7 0 (λk=>List.take 3 (List.drop (k*3) [])) (O9 (R4 t).1))/\false=(R4 t).2/\True:=λF=>by
   rw[a2J he h0 L F];exact⟨V8 _,⟨rfl,nY _ _⟩,Z8⟩
  refine⟨Y3 hlt,Z3 Z9,V5 hlt Z9,λk0=>?_,λk0=>⟨λk1=>?_,λk1=>?_⟩⟩
  ·have k0:((t.getD a 0).toNat:Int)-1=0:=beq_iff_eq.1 k0;have hv:K6 (t.drop a)=(⟨0,0,[]⟩,t.drop (a+1), !S7 ⟨0,0,[]⟩):=by
    unfold K6;rw[if_neg Z9,if_neg Z9,hd,i,k0]
   rw[k0];refine⟨⟨0,0,[]⟩,⟨Z8,b0d⟩,λhq=>fin (by rw[hv];exact hq),λhq=>⟨⟨V8 _,V8 _,R1⟩,⟨⟨n-1,a+1,acc++[(⟨0,0,[]⟩:Val)]⟩,gZ he h0 L (by rw[hv,hq]),X0,X0,a0c⟩,⟨⟨rfl,⟨rfl,kP⟩,X0,Z6⟩,⟨kP,iL acc ⟨0,0,[]⟩⟩,Z6⟩,show t.length- (a+1)<t.length-a by omega⟩⟩
  ·have k1:((t.getD a 0).toNat:Int)-1=1:=beq_iff_eq.1 k1;have g:big (t.drop (a+1)) 4=decide ((a:Int)+1+4>t.length):=by
    unfold big;rw[List.length_drop];exact decide_eq_decide.2 Z9
   have hv:K6 (t.drop a)=(⟨1,be (T7 (t.drop (a+1)) 4)-1000000000,[]⟩,R0 (t.drop (a+1)) 4,big (t.drop (a+1)) 4|| !S7 ⟨1,be (T7 (t.drop (a+1)) 4)-1000000000,[]⟩):=by
    unfold K6;rw[if_pos Z9,hd]
   refine⟨Z3 Z9,λf=>fin (by rw[hv,g,f];rfl),λf=>?_⟩
   have z:¬ ((a:Int)+1+4>t.length):=s6 f;rw[f] at g;have v:T7 (t.drop (a+1)) 4=List.drop (a+1) (List.take (a+5) t):=by
    unfold T7;rw[g,List.drop_take,show a+5- (a+1)=4 by omega]
    rfl
   have R:R0 (t.drop (a+1)) 4=t.drop (a+5):=by
    unfold R0;rw[g];show(t.drop (a+1)).drop 4=_;rw[List.drop_drop]
   rw[g,v,R,Bool.false_or] at hv;have l:(List.drop (a+1) (List.take (a+5) t)).length<=4:=by rw[List.length_drop,List.length_take];omega
   have I:=a4e (List.drop (a+1) (List.take (a+5) t)) l;have A:be (List.drop (a+1) (List.take (a+5) t))=m7 (List.drop (a+1) (List.take (a+5) t)) (List.drop (a+1) (List.take (a+5) t)).length:=rfl;rw[k1,show((a:Int)+1+4).toNat=a+5 by omega,show((a:Int)+1).toNat=a+1 by omega]
   refine⟨Z3 Z9,⟨Z9,Z9,Z9⟩,List.drop (a+1) (List.take (a+5) t),⟨Z8,l⟩,Z3 Z9,Z3 Z9,⟨1,be (List.drop (a+1) (List.take (a+5) t))-1000000000,[]⟩,⟨Z8,b0d⟩,λhq=>fin (by rw[hv];exact hq),λhq=>⟨⟨V8 _,V8 _,R1⟩,⟨⟨n-1,a+5,acc++[⟨1,be (List.drop (a+1) (List.take (a+5) t))-1000000000,[]⟩]⟩,gZ he h0 L (by rw[hv,hq]),X0,X0,a0c⟩,⟨⟨rfl,⟨rfl,kP⟩,X0,Z6⟩,⟨kP,iL acc ⟨1,be (List.drop (a+1) (List.take (a+5) t))-1000000000,[]⟩⟩,Z6⟩,show t.length- (a+5)<t.length-a by omega⟩⟩
  ·have k0:((t.getD a 0).toNat:Int)-1≠0:=tQ k0;have k1:((t.getD a 0).toNat:Int)-1≠1:=tQ k1;have hkn:knd t a=((t.getD a 0).toNat:Int)-1:=rfl;refine⟨⟨⟨a+1,V8 _,hlt,λj h1 h2=>Z9⟩,⟨rfl,Z8,Z9,Z8,X0,Z6⟩,Z8⟩,λy=>?_⟩
   obtain⟨k,u,r,hkz⟩:=y;dsimp only;rw[G2,G2,c5j];refine⟨λhy=>Y3 (Y1 hy),λhy=>?_,λhy=>⟨λhq=>fin ?_,λhq=>?_⟩⟩
   ·simp only[O4,r8,xV] at hy;refine⟨Z3 Z9,⟨k+1,Z9,Z9,λj h1 h2=>?_⟩,⟨⟨rfl,Z8,rfl,Z8,X0,Z6⟩,Z8⟩,show t.length- (k+1)<t.length-k by omega⟩
    by_cases hj:j=k
    ·rw[hj];exact hy.2
    ·exact hkz j h1 Z9
   ·have hq:(k:Int)=t.length:=beq_iff_eq.1 hq;unfold K6;rw[if_neg Z9]
    by_cases k2:((t.getD a 0).toNat:Int)-1=2
    ·rw[if_pos Z9,hd]
     have:b8 (t.drop (a+1))= -1:=K9 λj hj=>by
      rw[List.length_drop] at hj;rw[iB];exact hkz _ Z9 Z9
     rw[if_pos Z9]
    ·rw[if_neg Z9]
     dsimp only;rw[i,a2x k0 k1 k2];rfl
   ·have hq:(k:Int)≠t.length:=tQ hq;have hkl:k<t.length:=by omega
    rw[qK (show(k:Int)<t.length by omega),Bool.true_and,zF] at hy
    have B:List.drop (a+1) (List.take k t)=(t.drop (a+1)).take (k- (a+1)):=by rw[List.drop_take]
    refine⟨⟨Z9,Z9,Z9⟩,Z3 Z9,⟨knd t a,0,List.drop (a+1) (List.take k t)⟩,⟨Z8,by unfold dF M1;rw[List.length_drop,List.length_take];omega⟩,?_⟩
    by_cases k2:((t.getD a 0).toNat:Int)-1=2
    ·have hix:b8 (t.drop (a+1))=((k- (a+1):Nat):Int):=N4 (by rw[List.length_drop];omega) (by rw[iB,show a+1+(k- (a+1))=k by omega];exact hy) λj hj=>by rw[iB];exact hkz _ Z9 Z9
     have hv:K6 (t.drop a)=(⟨2,0,List.drop (a+1) (List.take k t)⟩,t.drop (k+1), !S7 ⟨2,0,List.drop (a+1) (List.take k t)⟩):=by
      unfold K6;rw[if_neg Z9,if_pos Z9,hd,hix,if_neg Z9,G2,B,List.drop_drop,show a+1+(k- (a+1)+1)=k+1 by omega]
     rw[hkn,k2];refine⟨λhq=>fin (by rw[hv];exact hq),λhq=>⟨⟨V8 _,V8 _,R1⟩,⟨⟨n-1,k+1,acc++[⟨2,0,List.drop (a+1) (List.take k t)⟩]⟩,gZ he h0 L (by rw[hv,hq]),X0,X0,a0c⟩,⟨⟨rfl,⟨rfl,kP⟩,X0,Z6⟩,⟨kP,iL acc ⟨2,0,List.drop (a+1) (List.take k t)⟩⟩,Z6⟩,show t.length- (k+1)<t.length-a by omega⟩⟩
    ·have hbad:S7 ⟨knd t a,0,List.drop (a+1) (List.take k t)⟩=false:=a2x k0 k1 k2;refine⟨λ_=>fin ?_,λhq=>?_⟩
     ·unfold K6;rw[if_neg Z9,if_neg Z9]
      dsimp only;rw[i,a2x k0 k1 k2];rfl
     ·rw[hbad] at hq;cases hq
 ·have hge:=X6 hc;have:t.drop a=[]:=List.drop_eq_nil_of_le hge;rw[this,tR (.inl rfl)] at he;have e:R4 t=(acc,true):=by unfold R4;rw[←he];rfl
  rw[e];exact⟨L6,Z8⟩
def rw0:Rw:=⟨0,⟨0,0,[]⟩,⟨0,0,[]⟩⟩
def j8(L:List Val):Int×Rw:=((L.getD 0 dz).n,⟨(L.getD 1 dz).n,L.getD 2 dz,L.getD 3 dz⟩)
def lX(x:List Val×Bool):Bool:= !x.2||((x.1.length:Int) !=4)||((x.1.getD 0 dz).k !=1)||((x.1.getD 1 dz).k !=1)
def xQ(t:Bz):Int×Rw×Bool:=if(lX (R4 t)|| !V9 (j8 (R4 t).1).1 1 3)=true then(0,rw0,false) else((j8 (R4 t).1).1,(j8 (R4 t).1).2,R9 (j8 (R4 t).1).2)
def I8(t:Bz):Int×Rw×Int:=if(t.length:Int)>65536 then(0,rw0,2) else if(lX (O6 t)||(!V9 (j8 (O6 t).1).1 1 3|| !R9 (j8 (O6 t).1).2))=true then(0,rw0,3) else((j8 (O6 t).1).1,(j8 (O6 t).1).2,0)
def vK:Rl:=⟨Bz,λb=>[.bys b],λb=>.tup [Ji (I8 b).1,.agg (I8 b).2.1.ts,Ji (I8 b).2.2],sY⟩
def b2b:Con:=.rel vK
theorem a8x{l:Bz}{B:Nat}(h:l.length<=B):(K6 l).1.t.length<=B:=by
 unfold K6;split
 ·exact O3 _
 ·split
  ·split
   ·exact O3 _
   ·show((l.drop 1).take _).length<=B;rw[List.length_take,List.length_drop];omega
  ·exact O3 _
theorem a1q{B:Nat}:∀(n:Nat) (l:Bz) (f:Bool) (acc:List Val),l.length<=B->(∀v ∈ acc,v.t.length<=B)->∀v ∈ (x5 n l f acc).1,v.t.length<=B:=by
 intro n;induction n with
 |zero=>intro l f acc _ h;exact h
 |succ n i=>
  intro l f acc hl h;unfold x5;split
  ·exact h
  ·rename_i hc;have h0:l≠[]:=λh=>hc (.inl h)
   have:=a3v h0;refine i _ _ _ Z9 λv hv=>?_
   rcases List.mem_append.1 hv with hv|hv
   ·exact h v hv
   ·rw[List.mem_singleton.1 hv];exact a8x hl
theorem lW{l:Bz}(h:sY l){i:Nat}:dF ((O6 l).1.getD i dz).t:=by
 have h:l.length<=1000000000:=h;show _<1000000000000;rw[R2]
 cases q:(O6 l).1[i]? with
 |none=>show 0<1000000000000;omega
 |some v=>
  have:=a1q l.length l false [] h (λv hv=>absurd hv W8) v (A4 q)
  show v.t.length<_;omega
theorem b2L{x:List Val×Bool}{b:Bool}(h:(!x.2||((x.1.length:Int) !=4)||b)=false):x.1.length=4:=by
 simp only[zV,bne_eq_false_iff_eq] at h;omega
theorem c2h{x:List Val×Bool}(h:(!x.2||((x.1.length:Int) !=4))=false):x.1.length=4:=b2L (b:=false) (by rw[h];rfl)
theorem lM{n:Nat}(h:n=4){i:Int}(d:0<=i)(e:i<=3):V7 i n:=⟨d,Z9⟩
theorem tW:GK 17 b2b:=gk func17<|by
 intro(b:Bz) hb;refine S1 (gC a7v (gC k9 (gC dO gN))) func17 Y9 (α:=let j:=(I8 b).2.1.name.t;let w:=(I8 b).2.1.name.n;let y:=(I8 b).2.1.name.k;let u:=(I8 b).2.2;let p:=(0=(I8 b).2.1.id/\0=(I8 b).2.1.n.k/\0=(I8 b).2.1.n.n/\[]=(I8 b).2.1.n.t/\0=y/\0=w/\[]=j/\True);let z:=(0=(I8 b).1/\p/\3=u/\True);bd ((b.length:Int)>65536) (0=(I8 b).1/\p/\2=u/\True) (∃(x:bU.ι),let r:=(O6 x).1.length;let v:=(↑r:Int);let q:=(O6 x).1.getD;((b=x/\True)/\sY x)/\((!(O6 x).2||v !=4)=false->V7 (0:Int) r)/\((!(O6 x).2||v !=4||(q 0 dz).k !=1)=false->V7 (1:Int) r)/\br (!(O6 x).2||v !=4||(q 0 dz).k !=1||(q 1 dz).k !=1) z (V7 (0:Int) r/\V7 (1:Int) r/\V7 (2:Int) r/\V7 (3:Int) r/\∃(d:Int),(((q 0 dz).n=d/\True)/\True)/\∃(X:xI.ι),((!V9 d (1:Int) (3:Int))=false->(((q 1 dz).n=X.id/\(q 2 dz).k=X.n.k/\(q 2 dz).n=X.n.n/\(q 2 dz).t=X.n.t/\(q 3 dz).k=X.name.k/\(q 3 dz).n=X.name.n/\(q 3 dz).t=X.name.t/\True)/\True)/\RwB X)/\br (!V9 d (1:Int) (3:Int)|| !R9 X) z ((q 0 dz).n=(I8 b).1/\((q 1 dz).n=(I8 b).2.1.id/\(q 2 dz).k=(I8 b).2.1.n.k/\(q 2 dz).n=(I8 b).2.1.n.n/\(q 2 dz).t=(I8 b).2.1.n.t/\(q 3 dz).k=y/\(q 3 dz).n=w/\(q 3 dz).t=j/\True)/\0=u/\True)))) ⟨λh=>?_,λh=>⟨b,⟨Z8,hb⟩,λh=>lM (c2h h) Z9 Z9,λh=>lM (b2L h) Z9 Z9,λq=>?_,λq=>?_⟩⟩
 ·have e:I8 b=(0,rw0,2):=by unfold I8;rw[if_pos (E4 h)]
  rw[e];exact Z8
 ·have e:I8 b=(0,rw0,3):=by
   have q:lX (O6 b)=true:=q;unfold I8;rw[if_neg (s6 h),q,Bool.true_or,if_pos rfl]
  rw[e];exact Z8
 ·have l:(O6 b).1.length=4:=by
   rw[zV] at q;exact b2L q.1
  have q:lX (O6 b)=false:=q;refine⟨lM l Z9 Z9,lM l Z9 Z9,lM l Z9 Z9,lM l Z9 Z9,_,Z8,(j8 (O6 b).1).2,λ_=>⟨Z8,lW hb,lW hb⟩,λg=>?_,λg=>?_⟩
  ·have e:I8 b=(0,rw0,3):=by
    have g:(!V9 (j8 (O6 b).1).1 1 3|| !R9 (j8 (O6 b).1).2)=true:=g;unfold I8;rw[if_neg (s6 h),q,g,Bool.or_true,if_pos rfl]
   rw[e];exact Z8
  ·have e:I8 b=((j8 (O6 b).1).1,(j8 (O6 b).1).2,0):=by
    have g:(!V9 (j8 (O6 b).1).1 1 3|| !R9 (j8 (O6 b).1).2)=false:=g;unfold I8;rw[if_neg (s6 h),q,g,if_neg W8]
   rw[e];exact Z8
def b0D:Con:=.rel ⟨Bz,λt=>[.str t],λt=>.tup [Ji (xQ t).1,.agg (xQ t).2.1.ts,.bool (xQ t).2.2],sY⟩
theorem fD{l:Bz}(h:sY l){i:Nat}:dF ((R4 l).1.getD i dz).t:=by
 unfold R4;split
 ·exact lW h
 ·show 0<1000000000000;omega
theorem gG:GK 217 b0D:=gk func217<|by
 intro(t:Bz) hb;refine S1 (gC cV (gC D0 (gC lB gN))) func217 Y9 (α:=let y:=(xQ t).2.1.name.t;let v:=(xQ t).2.1.name.n;let u:=(xQ t).2.1.name.k;∃(x:(Bz)),let q:=(R4 x).1.length;let r:=(↑q:Int);let p:=(R4 x).1.getD;let z:=(p 0 dz).k;((t=x/\True)/\sY x)/\((!(R4 x).2||r !=4)=false->V7 (0:Int) q)/\((!(R4 x).2||r !=4||z !=1)=false->V7 (1:Int) q)/\((!(R4 x).2||r !=4||z !=1||(p 1 dz).k !=1)=false->V7 (0:Int) q)/\br (!(R4 x).2||r !=4||z !=1||(p 1 dz).k !=1|| !V9 (p 0 dz).n (1:Int) (3:Int)) (0=(xQ t).1/\(0=(xQ t).2.1.id/\0=(xQ t).2.1.n.k/\0=(xQ t).2.1.n.n/\[]=(xQ t).2.1.n.t/\0=u/\0=v/\[]=y/\True)/\false=(xQ t).2.2/\True) (V7 (1:Int) q/\V7 (2:Int) q/\V7 (3:Int) q/\V7 (0:Int) q/\∃(X:xI.ι),((((p 1 dz).n=X.id/\(p 2 dz).k=X.n.k/\(p 2 dz).n=X.n.n/\(p 2 dz).t=X.n.t/\(p 3 dz).k=X.name.k/\(p 3 dz).n=X.name.n/\(p 3 dz).t=X.name.t/\True)/\True)/\RwB X)/\(p 0 dz).n=(xQ t).1/\((p 1 dz).n=(xQ t).2.1.id/\(p 2 dz).k=(xQ t).2.1.n.k/\(p 2 dz).n=(xQ t).2.1.n.n/\(p 2 dz).t=(xQ t).2.1.n.t/\(p 3 dz).k=u/\(p 3 dz).n=v/\(p 3 dz).t=y/\True)/\R9 X=(xQ t).2.2/\True)) ⟨t,⟨Z8,hb⟩,λh=>lM (c2h h) Z9 Z9,λh=>lM (b2L h) Z9 Z9,λh=>lM (by rw[zV] at h;exact b2L h.1) Z9 Z9,λq=>?_,λq=>?_⟩
 ·have e:xQ t=(0,rw0,false):=by
   have q:(lX (R4 t)|| !V9 (j8 (R4 t).1).1 1 3)=true:=q;unfold xQ;rw[if_pos q]
  rw[e];exact Z8
 ·have l:(R4 t).1.length=4:=by
   rw[zV,zV] at q;exact b2L q.1.1
  have e:xQ t=((j8 (R4 t).1).1,(j8 (R4 t).1).2,R9 (j8 (R4 t).1).2):=by
   have q:(lX (R4 t)|| !V9 (j8 (R4 t).1).1 1 3)=false:=q;unfold xQ;rw[if_neg (by rw[q];simp)]
  rw[e];exact⟨lM l Z9 Z9,lM l Z9 Z9,lM l Z9 Z9,lM l Z9 Z9,(j8 (R4 t).1).2,⟨Z8,fD hb,fD hb⟩,Z8⟩
def zK(t:Bz):Option (Int×Rw):=if(lX (O6 t)||(!V9 (j8 (O6 t).1).1 1 3|| !R9 (j8 (O6 t).1).2))=true then none else some (j8 (O6 t).1)
theorem a07{t:Bz}(h:t.length<=65536):I8 t=match zK t with|some x=>(x.1,x.2,0)|none=>(0,rw0,3):=by
 unfold I8 zK;rw[if_neg Z9]
 split<;>rfl
theorem a0L(t:Bz):(xQ t).2.2=(zK t).isSome/\∀x,zK t=some x->xQ t=(x.1,x.2,true):=by
 have e:lX (R4 t)=lX (O6 t):=by
  unfold R4;split
  ·rfl
  ·rename_i h;unfold lX;rw[show(O6 t).2=false by simpa using h]
   rfl
 unfold xQ zK;rw[e];cases hp:lX (O6 t)
 ·have d:R4 t=O6 t:=by
   unfold R4;rw[if_pos];unfold lX at hp;simp only[zV,zF] at hp;exact hp.1.1.1
  rw[d];cases hi:V9 (j8 (O6 t).1).1 1 3
  ·exact⟨rfl,λx hx=>by cases hx⟩
  ·cases hr:R9 (j8 (O6 t).1).2
   ·exact⟨rfl,λx hx=>by cases hx⟩
   ·refine⟨rfl,λx hx=>?_⟩
    cases hx;rfl
 ·exact⟨rfl,λx hx=>by cases hx⟩
theorem qX{L:List Frm}{k:Nat}(f:Frm)(i:Nat)(d:k<L.length):(L.set k f).getD i dz=if i=k then f else L.getD i dz:=by
 by_cases h:i=k
 ·subst h;rw[if_pos rfl];exact oP f d
 ·rw[if_neg h,R2,j_k (Ne.symm h),←R2]
structure DG(d:Dsk):Prop where
 ar:d.A=false
 kp:d.keep.length=0
 n69:d.E.length=69
 sc:∀i,i<69->(d.E.getD i []).length<=160
 cc:∀i,i<d.C.length->0<=(d.C.getD i dz).at_/\(d.C.getD i dz).at_<69/\(d.C.getD i dz).d.length<=160
theorem DG.pd{d:Dsk}(h:DG d):bG d:=λi hi=>by
 have:=h.cc i hi;rw[h.n69];omega
theorem DG.P{d:Dsk}(h:DG d)(C:d.C.length<=500):yY d:=by
 have f:=h.n69;have e:=h.kp;refine⟨Z9,Z9,C,Z9,λ_=>e,λi hi=>h.sc i Z9,λi hi=>?_⟩
 obtain⟨j,c2,g⟩:=h.cc i hi;unfold O1 V9;rw[f];simp only[zV,zF,O4,r8,qN];omega
theorem c6f{d:Dsk}(h:DG d){n:Nat}(N:n<69):(U1 d n).length<=160:=by
 have key:∀m,m<=d.C.length->∀l,I6 d.C n m=some l->l.length<=160:=by
  intro m;induction m with
  |zero=>intro _ l hl;cases hl
  |succ m i=>
   intro M l hl;unfold I6 at hl;split at hl
   ·cases hl;exact(h.cc m Z9).2.2
   ·exact i Z9 l hl
 unfold U1;cases hl:I6 d.C n d.C.length with
 |none=>exact h.sc n N
 |some l=>exact key _ (V8 _) l hl
theorem a1K{d:Dsk}(h:DG d):DG (U6 d).1/\(U6 d).2=true/\(U6 d).1.C=[]/\∀n,n<69->U1 (U6 d).1 n=U1 d n:=by
 have u:(U6 d).2=true:=by unfold U6;rw[if_neg (by rw[h.ar];simp)]
 have r:∀n,n<69->U1 (U6 d).1 n=U1 d n:=λn N=>a57 u h.pd (by rw[h.n69];exact N)
 have e:=c15 u;have C:=yS d;refine⟨⟨by rw[e];exact h.ar,by rw[e];exact h.kp,by rw[a19];exact h.n69,λi hi=>?_,λi hi=>?_⟩,u,C,r⟩
 ·have:=r i hi;have f:U1 (U6 d).1 i=(U6 d).1.E.getD i []:=by
   unfold U1;rw[C];rfl
  rw[←f,this];exact c6f h hi
 ·rw[C] at hi;exact absurd hi (J5 _)
theorem c19{d:Dsk}(h:DG d){a:Int}{t:Bz}(f:0<=a)(e:a<69)(g:t.length<=160):DG (wrD d a t):=by
 refine⟨h.ar,h.kp,h.n69,h.sc,λi hi=>?_⟩
 have hi:i<d.C.length+1:=by unfold wrD at hi;dsimp only at hi;rw[K2] at hi;exact hi
 show 0<=((d.C++[(⟨a,t⟩:Pend)]).getD i dz).at_/\((d.C++[(⟨a,t⟩:Pend)]).getD i dz).at_<69/\((d.C++[(⟨a,t⟩:Pend)]).getD i dz).d.length<=160;rw[tV dz _ _ _ hi];split
 ·exact⟨f,e,g⟩
 ·exact h.cc i Z9
theorem b6W{r:Rec}(h:L9 r=true):r.b.length<=30/\r.a.length<=38:=by
 have h:=(Q6 r).1 h;unfold C8 at h;obtain⟨_,_,_,_,_,_,_,_,_,_,_,_,_,_,B,f,e⟩:=h;refine⟨Z9,?_⟩
 by_cases d:r.k=6
 ·exact a05 (f d).2.2.2.2.2.2
 ·have:=(e d).2.2.1;omega
theorem c7g{r:Rec}(h:L9 r=true):(P2 r).length<=160/\P2 r≠[]:=by
 obtain⟨d,f⟩:=b6W h;have g:(F8 (m0 (a49 r))).length=4:=rfl;have hl:(P2 r).length=16+(r.b.length+r.a.length):=by
  unfold P2 a49;rw[K2];simp only[S0,W1,K2,List.length_cons,List.length_nil];show _+4=_;simp;omega
 refine⟨Z9,λe=>?_⟩
 rw[e] at hl;simp at hl;omega
theorem a6X{s:Sto}{l:Int}(hd:DG s.d)(o:g7 s.L=true)(h:uF s l):∀i,i<=M3 s l->DG (qQ s i)/\∀n,n<69->U1 (qQ s i) n=if 9+s.S.toNat<=n/\n<9+s.S.toNat+i then P2 (s.L.getD (n-9) dz) else U1 s.d n
 |0,_=>by
  have:qQ s 0=s.d:=by unfold qQ;simp
  rw[this];exact⟨hd,λn _=>by rw[if_neg Z9]⟩
 |i+1,hi=>by
  have e:qQ s (i+1)=wrD (qQ s i) (qI s i).at_ (qI s i).d:=by
   unfold qQ wrD;dsimp only;rw[←xT]
  obtain⟨j,t,u⟩:=lY h (i:=i) Z9
  obtain⟨g,f⟩:=a6X hd o h i Z9
  obtain⟨_,_,_,_,q,_,r,v,_⟩:=h;have z:(P2 (s.L.getD (s.S.toNat+i) dz)).length<=160:=(c7g (D2.1 o (s.S.toNat+i) Z9).1).1
  rw[e];refine⟨c19 g Z9 Z9 z,λn N=>?_⟩
  rw[gJ,f n N,j];by_cases hq:9+s.S+(i:Int)=n
  ·rw[if_pos hq,if_pos Z9,show n-9=s.S.toNat+i by omega]
   rfl
  ·rw[if_neg hq];by_cases hp:9+s.S.toNat<=n/\n<9+s.S.toNat+i
   ·rw[if_pos hp,if_pos Z9]
   ·rw[if_neg hp,if_neg Z9]
def FrP(n:Nat)(f:Frm):Prop:=0<=f.no/\f.no<=7/\PgP f.pg/\f.pg.Q<=n/\0<=f.first/\f.first<=n/\(f.D=true↔0<f.first)
structure GInv(s:Sto):Prop where
 dg:DG s.d
 ca:s.d.C.length<=500
 ep:1<=s.ep/\s.ep<=60
 l60:s.L.length<=60
 rc:g7 s.L=true
 su:0<=s.S/\s.S<=s.L.length
 be:∀i,i<s.L.length->vU s i=false
 pg:∀no,no<8->(U2 s.d no).2=true/\(U2 s.d no).1.Q<=s.S
 fr3:s.fr.length<=3
 fp:∀i,i<s.fr.length->FrP s.L.length (s.fr.getD i dz)
 nd:∀i j,i<s.fr.length->j<s.fr.length->(s.fr.getD i dz).no=(s.fr.getD j dz).no->i=j
 cl:∀i,i<s.fr.length->(s.fr.getD i dz).D=false->(U2 s.d (s.fr.getD i dz).no.toNat).1=(s.fr.getD i dz).pg
 hd:0<=s.J/\s.J<=2
 lg:∀i,i<s.S.toNat->U1 s.d (9+i)=P2 (s.L.getD i dz)
 lz:∀i,s.S.toNat<=i->i<60->U1 s.d (9+i)=[]
theorem iJ{L:List Frm}{no:Int}(h:0<=frAt L no):(L.getD (frAt L no).toNat dz).no=no:=by
 unfold frAt Q9 at h ⊢;split at h
 ·rename_i i hi;have:=List.find?_some hi
  simpa[lT] using this
 ·omega
theorem b0n{L:List Frm}{i:Nat}(hi:i<L.length)(nd:∀i j,i<L.length->j<L.length->(L.getD i dz).no=(L.getD j dz).no->i=j):frAt L (L.getD i dz).no=i:=by
 have h:0<=frAt L (L.getD i dz).no:=Classical.byContradiction λh=>nV h hi rfl
 have d:=uK h;have:(L.getD (frAt L (L.getD i dz).no).toNat dz).no=(L.getD i dz).no:=iJ h;have:=nd _ _ d hi this;omega
theorem GInv.ok{s:Sto}(h:GInv s):G6 s=true:=by
 refine(J8 s).2 ⟨⟨(y6 s).2 ⟨h.dg.P h.ca,h.dg.n69,h.ep.1,h.ep.2,h.l60⟩,h.rc,?_⟩,h.be,λno n=>?_,?_,?_⟩
 ·have:=h.su;simp[V9,this]
 ·obtain⟨a,b⟩:=h.pg no n;unfold c9;rw[a];simp only[Bool.not_true,Bool.false_or,qN];omega
 ·unfold zU;have h3:=h.fr3;rw[R8.2 λi hi=>?_]
  ·simp;omega
  ·obtain⟨p1,p2,p3,p4,p5,p6,p7⟩:=h.fp i hi;unfold zR;rw[b0n hi h.nd,show o4 (s.fr.getD i dz).pg=true from qK p3]
   simp only[V9,zV,zF,O4,r8,qN,bne_self_eq_false,true_and,and_true,Bool.not_true,bne_eq_false_iff_eq];refine⟨⟨⟨⟨p1,p2⟩,Z9⟩,p5,p6⟩,?_⟩
   rw[Bool.eq_iff_iff,r8];exact p7.symm
 ·have:=h.hd;simp[V9,this]
theorem GInv.sm{s:Sto}(h:GInv s):SmS s:=by
 have f:=h.dg.n69;have d:=h.dg.kp;have j:=h.ca;have e:=h.l60;have g:=h.fr3;refine⟨⟨Z9,Z9,Z9⟩,Z9,Z9,λi hi=>?_⟩
 have:=(h.fp i hi).2.2.1.2.2.1;unfold SmF SmG;omega
theorem GInv.inv{s:Sto}(h:GInv s):SInv s:=a8E h.ok h.sm
theorem yI{a n:Int}(h:0<=a)(N:0<n):0<=a.tmod n/\a.tmod n<n:=⟨Int.tmod_nonneg _ h,Int.tmod_lt_of_pos _ N⟩
theorem a5p{s:Sto}{l:Int}(h:GInv s)(hl:l<=s.L.length):GInv (W4 s l).1/\(W4 s l).2=true/\l<=(W4 s l).1.S:=by
 by_cases e:l<=s.S
 ·rw[k5 e];exact⟨h,rfl,e⟩
 ·have hF:=h.inv.flu hl;have h60:=h.l60;have hsu:=h.su;obtain⟨g1,g2⟩:=a6X h.dg h.rc hF (M3 s l) (V8 _);obtain⟨y1,y2,y3,y4⟩:=a1K g1;have hN:M3 s l=l.toNat-s.S.toNat:=rfl;have rd:∀n,n<69->U1 (U6 (qQ s (M3 s l))).1 n=if 9+s.S.toNat<=n/\n<9+s.S.toNat+M3 s l then P2 (s.L.getD (n-9) dz) else U1 s.d n:=λn hn=>(y4 n hn).trans (g2 n hn)
  have rp:∀no,no<8->U1 (U6 (qQ s (M3 s l))).1 (1+no)=U1 s.d (1+no):=λno hn=>by rw[rd _ Z9,if_neg Z9]
  rw[zX e,y2,if_pos rfl];refine⟨⟨y1,by show(U6 _).1.C.length<=_;rw[y3];exact O3 _,h.ep,h.l60,h.rc,⟨by show 0<=l;omega,hl⟩,h.be,λno hn=>?_,h.fr3,h.fp,h.nd,λi hi C=>?_,h.hd,λi hi=>?_,λi hi f=>?_⟩,rfl,Int.le_refl _⟩
  ·obtain⟨a,b⟩:=h.pg no hn;show(U2 (U6 _).1 no).2=true/\(U2 (U6 _).1 no).1.Q<=l;rw[(y8 (rp no hn)).1];exact⟨a,Z9⟩
  ·have hf:=h.fp i hi;show(U2 (U6 _).1 _).1=_;rw[(y8 (rp (s.fr.getD i dz).no.toNat (by obtain⟨f1,f2,_⟩:=hf;omega))).1]
   exact h.cl i hi C
  ·have hi:i<l.toNat:=hi;show U1 (U6 _).1 (9+i)=_;rw[rd _ Z9]
   by_cases q:s.S.toNat<=i
   ·rw[if_pos Z9,show 9+i-9=i by omega]
   ·rw[if_neg Z9]
    exact h.lg i Z9
  ·have hi:l.toNat<=i:=hi;show U1 (U6 _).1 (9+i)=_;rw[rd _ Z9,if_neg Z9]
   exact h.lz i Z9 f
theorem c79{s:Sto}{d:Dsk}(h:GInv s)(hd:DG d)(C:d.C.length<=500)(hr:∀n,n<69->U1 d n=U1 s.d n):GInv (s.sd d):=by
 have e:=h.l60;have u:=h.su;refine⟨hd,C,h.ep,h.l60,h.rc,h.su,h.be,λno N=>?_,h.fr3,h.fp,h.nd,λi hi C=>?_,h.hd,λi hi=>?_,λi hi f=>?_⟩
 ·show(U2 d no).2=true/\(U2 d no).1.Q<=_;rw[(y8 (hr (1+no) Z9)).1]
  exact h.pg no N
 ·have hf:=h.fp i hi;show(U2 d (s.fr.getD i dz).no.toNat).1=(s.fr.getD i dz).pg;rw[(y8 (hr (1+(s.fr.getD i dz).no.toNat) (by obtain⟨f1,f2,_⟩:=hf;omega))).1]
  exact h.cl i hi C
 ·have hi:i<s.S.toNat:=hi;show U1 d (9+i)=_;rw[hr _ Z9]
  exact h.lg i hi
 ·show U1 d (9+i)=_;rw[hr _ Z9]
  exact h.lz i hi f
theorem b8b{s:Sto}(h:GInv s):GInv (s.sd (xX s.d).1)/\(xX s.d).2=true:=by
 by_cases C:500<=s.d.C.length
 ·rw[sA C];obtain⟨f,Y,e,g⟩:=a1K h.dg;exact⟨c79 h f (by rw[e];exact O3 _) g,Y⟩
 ·rw[pL C];exact⟨h,rfl⟩
theorem c7O{a:Sto}{k:Nat}(h:GInv a)(C:a.d.C.length<=499)(hk:k<a.fr.length)(hl:(a.fr.getD k dz).pg.Q<=a.S):GInv (wrF a k):=by
 have r:=h.l60;have U:=h.su;obtain⟨o,t,F,f4,x,A,v⟩:=h.fp k hk;have z:=(c1O (no:=(a.fr.getD k dz).no) F).1;have g:=(c1O (no:=(a.fr.getD k dz).no) F).2;have L:(a.fr.set k (iQ (a.fr.getD k dz))).length=a.fr.length:=yT;have l:=λi=>qX (iQ (a.fr.getD k dz)) i hk
 have rd:∀n,U1 (wrF a k).d n=if 1+(a.fr.getD k dz).no=n then P3 (a.fr.getD k dz).no (a.fr.getD k dz).pg else U1 a.d n:=λn=>gJ _ _ _ _
 have pgk:U2 (wrF a k).d (a.fr.getD k dz).no.toNat=((a.fr.getD k dz).pg,true):=by
  have R:U1 (wrF a k).d (1+(a.fr.getD k dz).no.toNat)=P3 (a.fr.getD k dz).no (a.fr.getD k dz).pg:=by rw[rd,if_pos Z9]
  unfold U2;rw[R,if_neg g,show(((a.fr.getD k dz).no.toNat:Nat):Int)=(a.fr.getD k dz).no by omega]
  exact c66 F o Z9
 have pgn:∀no:Nat,no<8->(a.fr.getD k dz).no≠no->U2 (wrF a k).d no=U2 a.d no:=λno N hne=>(y8 (by rw[rd,if_neg Z9])).1
 refine⟨c19 h.dg Z9 Z9 z,?_,h.ep,h.l60,h.rc,h.su,h.be,λno N=>?_,?_,λi hi=>?_,λi j hi J f=>?_,λi hi hcl=>?_,h.hd,λi hi=>?_,λi hi u=>?_⟩
 ·show(a.d.C++[_]).length<=500;rw[K2];simp only[List.length_cons,List.length_nil];omega
 ·by_cases hne:(a.fr.getD k dz).no=no
  ·rw[show no=(a.fr.getD k dz).no.toNat by omega,pgk]
   exact⟨rfl,hl⟩
  ·rw[pgn no N hne];exact h.pg no N
 ·show(List.set _ _ _).length<=3;rw[L];exact h.fr3
 ·have hi:i<a.fr.length:=by have:i<(a.fr.set k (iQ (a.fr.getD k dz))).length:=hi;omega
  show FrP a.L.length ((a.fr.set k (iQ (a.fr.getD k dz))).getD i dz);rw[l];split
  ·exact⟨o,t,F,f4,Int.le_refl _,mO,by simp[iQ]⟩
  ·exact h.fp i hi
 ·have hi:i<a.fr.length:=by have:i<(a.fr.set k (iQ (a.fr.getD k dz))).length:=hi;omega
  have J:j<a.fr.length:=by have:j<(a.fr.set k (iQ (a.fr.getD k dz))).length:=J;omega
  have q:∀i,((a.fr.set k (iQ (a.fr.getD k dz))).getD i dz).no=(a.fr.getD i dz).no:=λi=>by
   rw[l];split
   ·rename_i e;rw[e];rfl
   ·rfl
  have f:((a.fr.set k (iQ (a.fr.getD k dz))).getD i dz).no=((a.fr.set k (iQ (a.fr.getD k dz))).getD j dz).no:=f;rw[q,q] at f;exact h.nd i j hi J f
 ·have hi:i<a.fr.length:=by have:i<(a.fr.set k (iQ (a.fr.getD k dz))).length:=hi;omega
  have hcl:((a.fr.set k (iQ (a.fr.getD k dz))).getD i dz).D=false:=hcl;show(U2 (wrF a k).d ((a.fr.set k (iQ (a.fr.getD k dz))).getD i dz).no.toNat).1=((a.fr.set k (iQ (a.fr.getD k dz))).getD i dz).pg;rw[l] at hcl ⊢;by_cases e:i=k
  ·rw[if_pos e];show(U2 _ (a.fr.getD k dz).no.toNat).1=_;rw[pgk];rfl
  ·rw[if_neg e] at hcl ⊢;have hf:=h.fp i hi;rw[pgn _ (by obtain⟨q1,q2,_⟩:=hf;omega) (λe2=>e (h.nd i k hi hk (by obtain⟨q1,q2,_⟩:=hf;omega)))]
   exact h.cl i hi hcl
 ·have hi:i<a.S.toNat:=hi;rw[rd,if_neg Z9]
  exact h.lg i hi
 ·rw[rd,if_neg Z9]
  exact h.lz i hi u
structure OutP(s a:Sto)(k:Nat):Prop where
 g:GInv a
 le:a.fr.length=s.fr.length
 no:∀i,(a.fr.getD i dz).no=(s.fr.getD i dz).no/\(a.fr.getD i dz).pg=(s.fr.getD i dz).pg
 cl:(a.fr.getD k dz).D=false
 L:a.L=s.L/\a.ep=s.ep/\a.J=s.J/\s.S<=a.S
 ls:(s.fr.getD k dz).D=true->(s.fr.getD k dz).pg.Q<=a.S
theorem b5M{s:Sto}{l:Int}(h:GInv s)(hl:l<=s.L.length):s.S<=(W4 s l).1.S:=by
 by_cases d:l<=s.S
 ·rw[k5 d];exact Int.le_refl _
 ·have:=(a5p h hl).2.2;omega
theorem b78{s:Sto}{k:Nat}(h:GInv s)(n:k<s.fr.length):OutP s (X3 s k).1 k/\(X3 s k).2=true:=by
 cases hd:(s.fr.getD k dz).D with
 |false=>
  rw[uX hd];exact⟨⟨h,rfl,λ_=>Z8,hd,⟨rfl,rfl,rfl,Int.le_refl _⟩,λe=>by rw[hd] at e;cases e⟩,rfl⟩
 |true=>
  obtain⟨_,_,_,f4,_⟩:=h.fp k n;obtain⟨q,v,o⟩:=a5p h f4;obtain⟨r,t,R,u⟩:=vJ s (s.fr.getD k dz).pg.Q;have M:=b5M h f4;obtain⟨Y,x⟩:=b8b q;have C:=b6X (a9n (l:=(s.fr.getD k dz).pg.Q) h.ca);rw[fT hd v x];have d:k<(W4 s (s.fr.getD k dz).pg.Q).1.fr.length:=by rw[r];exact n
  have g:((W4 s (s.fr.getD k dz).pg.Q).1.fr.getD k dz).pg.Q<=(W4 s (s.fr.getD k dz).pg.Q).1.S:=by rw[r];exact o
  have G:=c7O (k:=k) Y C d g;have j:=λi=>qX (iQ ((W4 s (s.fr.getD k dz).pg.Q).1.fr.getD k dz)) i d
  have N:∀i,(((W4 s (s.fr.getD k dz).pg.Q).1.fr.set k (iQ ((W4 s (s.fr.getD k dz).pg.Q).1.fr.getD k dz))).getD i dz).no=(s.fr.getD i dz).no/\(((W4 s (s.fr.getD k dz).pg.Q).1.fr.set k (iQ ((W4 s (s.fr.getD k dz).pg.Q).1.fr.getD k dz))).getD i dz).pg=(s.fr.getD i dz).pg:=λi=>by
   rw[j];split
   ·rename_i e;rw[e,r];exact Z8
   ·rw[r];exact Z8
  refine⟨⟨G,?_,N,?_,⟨R,u,t,M⟩,λ_=>o⟩,rfl⟩
  ·show(List.set _ _ _).length=_;rw[yT];exact congrArg List.length r
  ·have:=j k;rw[if_pos rfl] at this;exact congrArg (λf:Frm=>f.D) this
theorem c47{s:Sto}{no:Nat}(h:GInv s)(o:no<8):(U2 s.d no).2=true/\PgP (U2 s.d no).1/\(U2 s.d no).1.Q<=s.S:=by
 obtain⟨a,b⟩:=h.pg no o;exact⟨a,a1h a,b⟩
theorem a9h{s:Sto}{no:Nat}(h:GInv s)(o:no<8):FrP s.L.length (B1 no (U2 s.d no).1):=by
 obtain⟨a,b,c⟩:=c47 h o;have:=h.su;exact⟨by show(0:Int)<=no;omega,by show(no:Int)<=7;omega,b,by show(U2 s.d no).1.Q<=_;omega,Int.le_refl _,mO,by simp[B1]⟩
theorem c3C{a:Sto}{L:List Frm}{hand:Int}(h:GInv a)(f:L.length<=3)(e:0<=hand/\hand<=2)(fp:∀i,i<L.length->FrP a.L.length (L.getD i dz))
  (nd:∀i j,i<L.length->j<L.length->(L.getD i dz).no=(L.getD j dz).no->i=j)
  (cl:∀i,i<L.length->(L.getD i dz).D=false->(U2 a.d (L.getD i dz).no.toNat).1=(L.getD i dz).pg):GInv ⟨a.d,a.ep,a.L,a.S,L,hand⟩:=
 ⟨h.dg,h.ca,h.ep,h.l60,h.rc,h.su,h.be,h.pg,f,fp,nd,cl,e,h.lg,h.lz⟩
structure FetP(s a:Sto)(k:Nat)(no:Nat):Prop where
 g:GInv a
 kk:k<a.fr.length
 no:(a.fr.getD k dz).no=no
 L:a.L=s.L/\a.ep=s.ep/\s.S<=a.S
theorem x1{s:Sto}{no:Nat}(h:GInv s)(o:no<8):FetP s (Z4 s no).1 (Z4 s no).2.1 no/\(Z4 s no).2.2=true:=by
 have q:=h.hd;have r:=h.fr3;by_cases hc:0<=frAt s.fr no
 ·rw[(rS 0 hc).1];exact⟨⟨h,uK hc,iJ hc,rfl,rfl,Int.le_refl _⟩,rfl⟩
 ·have hn:=λi hi=>nV (i:=i) hc hi
  by_cases h3:s.fr.length=3
  ·have hk:s.J.toNat<s.fr.length:=by omega
   obtain⟨⟨g,le,en,cl,⟨l1,l2,l3,l⟩,_⟩,u⟩:=b78 h hk;rw[(vR 0 hc h3 u).1];have f:s.J.toNat<(X3 s s.J.toNat).1.fr.length:=Z9
   have eG:=λi=>qX (B1 no (U2 (X3 s s.J.toNat).1.d no).1) i f
   have eL:((X3 s s.J.toNat).1.fr.set s.J.toNat (B1 no (U2 (X3 s s.J.toNat).1.d no).1)).length=(X3 s s.J.toNat).1.fr.length:=yT;refine⟨⟨c3C g Z9 ?_ (λi hi=>?_) (λi j hi J=>?_) (λi hi=>?_),?_,?_,l1,l2,l⟩,rfl⟩
   ·rw[l3];have:=yI (a:=s.J+1) (n:=3) Z9 X1
    omega
   ·rw[eG];split
    ·exact a9h g o
    ·exact g.fp i Z9
   ·rw[eG,eG];have n1:=(en i).1;have n2:=(en j).1;by_cases e1:i=s.J.toNat
    ·by_cases e2:j=s.J.toNat
     ·intro _;omega
     ·rw[if_pos e1,if_neg e2];intro e;exact absurd (n2.symm.trans e.symm) (hn j Z9)
    ·by_cases e2:j=s.J.toNat
     ·rw[if_neg e1,if_pos e2];intro e;exact absurd (n1.symm.trans e) (hn i Z9)
     ·rw[if_neg e1,if_neg e2];exact g.nd i j Z9 Z9
   ·rw[eG];split
    ·intro _;show(U2 _ ((no:Int)).toNat).1=_;rw[G2];rfl
    ·exact g.cl i Z9
   ·show _<(List.set _ _ _).length;rw[eL];exact f
   ·show(((X3 s s.J.toNat).1.fr.set s.J.toNat (B1 no (U2 (X3 s s.J.toNat).1.d no).1)).getD s.J.toNat dz).no=_;rw[eG,if_pos rfl];rfl
  ·rw[(qY 0 hc h3).1];have eL:(s.fr++[B1 no (U2 s.d no).1]).length=s.fr.length+1:=by simp
   have eG:=λi hi=>tV dz s.fr (B1 no (U2 s.d no).1) i hi
   refine⟨⟨c3C h Z9 q (λi hi=>?_) (λi j hi J=>?_) (λi hi=>?_),?_,?_,rfl,rfl,Int.le_refl _⟩,rfl⟩
   ·rw[eG i Z9]
    split
    ·exact a9h h o
    ·exact h.fp i Z9
   ·rw[eG i Z9,eG j Z9]
    by_cases e1:i=s.fr.length
    ·by_cases e2:j=s.fr.length
     ·intro _;omega
     ·rw[if_pos e1,if_neg e2];intro e;exact absurd e.symm (hn j Z9)
    ·by_cases e2:j=s.fr.length
     ·rw[if_neg e1,if_pos e2];intro e;exact absurd e (hn i Z9)
     ·rw[if_neg e1,if_neg e2];exact h.nd i j Z9 Z9
   ·rw[eG i Z9]
    split
    ·intro _;show(U2 _ ((no:Int)).toNat).1=_;rw[G2];rfl
    ·exact h.cl i Z9
   ·show s.fr.length<(s.fr++[B1 no (U2 s.d no).1]).length;omega
   ·show((s.fr++[B1 no (U2 s.d no).1]).getD s.fr.length dz).no=_;rw[eG _ Z9,if_pos rfl]
    rfl
def c71(s:Sto)(r:Rec):Sto:=⟨s.d,s.ep,s.L++[T1 s r],s.S,s.fr,s.J⟩
theorem c1H{s:Sto}{r:Rec}(h:GInv s)(z:s.L.length<60)(R:L9 (T1 s r)=true):GInv (c71 s r):=by
 have L:(s.L++[T1 s r]).length=s.L.length+1:=W8
 have eG:=λi hi=>tV dz s.L (T1 s r) i hi
 have u:=h.su;have f:=h.ep;refine⟨h.dg,h.ca,h.ep,by show(s.L++[_]).length<=_;omega,D2.2 λi hi=>?_,⟨u.1,by show s.S<=((s.L++[_]).length:Nat);omega⟩,λi hi=>?_,h.pg,h.fr3,λi hi=>?_,h.nd,h.cl,h.hd,λi hi=>?_,h.lz⟩
 ·show L9 ((s.L++[_]).getD i dz)=true/\((s.L++[_]).getD i dz).l=_;have hi:i<(s.L++[T1 s r]).length:=hi;rw[eG i Z9]
  split
  ·rename_i e;exact⟨R,by rw[e];rfl⟩
  ·exact D2.1 h.rc i Z9
 ·have hi:i<(s.L++[T1 s r]).length:=hi;unfold vU;show(!V9 ((s.L++[T1 s r]).getD i dz).e (zL (s.L++[T1 s r]) i) s.ep)=false;have hb:=λj hj=>h.be j hj
  unfold vU at hb;rw[eG i Z9]
  by_cases e:i=s.L.length
  ·rw[if_pos e];show(!V9 s.ep _ s.ep)=false;have:zL (s.L++[T1 s r]) i<=s.ep:=by
    unfold zL;split
    ·exact f.1
    ·rw[eG (i-1) Z9,if_neg Z9]
     have:=c4G (hb (i-1) Z9)
     exact this.2
   simp[V9,this]
  ·rw[if_neg e,←hb i Z9]
   have:zL (s.L++[T1 s r]) i=zL s.L i:=by
    unfold zL;split
    ·rfl
    ·rw[eG (i-1) Z9,if_neg Z9]
   rw[this]
 ·have F:FrP s.L.length (s.fr.getD i dz):=h.fp i hi;obtain⟨o,q,g,v,n,x,t⟩:=F;show FrP (s.L++[T1 s r]).length (s.fr.getD i dz);rw[L];exact⟨o,q,g,Z9,n,Z9,t⟩
 ·have hi:i<s.S.toNat:=hi;show U1 s.d (9+i)=P2 ((s.L++[T1 s r]).getD i dz);rw[eG i Z9,if_neg Z9]
  exact h.lg i hi
theorem b4T{s:Sto}{r:Rec}(h:GInv s)(B:0<=r.g/\r.g<8)(s0:0<=r.s/\r.s<4)(I:1<=r.l/\r.l<=s.L.length)(t:r.a.length<=30):GInv (R6 s r).1/\(R6 s r).2=true/\(R6 s r).1.L=s.L/\(R6 s r).1.ep=s.ep:=by
 obtain⟨⟨g,d,no,l1,l2,F⟩,u⟩:=x1 h (no:=r.g.toNat) Z9
 have e:R6 s r=(b54 (Z4 s r.g.toNat).1 (Z4 s r.g.toNat).2.1 r,true):=if_pos u;rw[e];generalize Z4 s r.g.toNat=A at*;obtain⟨a,k,up⟩:=A;dsimp only at*;have eG:=λi=>qX (vW (a.fr.getD k dz) r) i d
 have L:(a.fr.set k (vW (a.fr.getD k dz) r)).length=a.fr.length:=yT;have o:=h.l60;have J:=g.fr3;obtain⟨p1,p2,⟨C,O,q3,Q⟩,x,v,z,q⟩:=g.fp k d;have n:=congrArg List.length l1;have N:∀i,((a.fr.set k (vW (a.fr.getD k dz) r)).getD i dz).no=(a.fr.getD i dz).no:=λi=>by
  rw[eG];split
  ·rename_i e;rw[e];rfl
  ·rfl
 refine⟨c3C g Z9 g.hd (λi hi=>?_) (λi j hi M f=>?_) (λi hi hcl=>?_),rfl,l1,l2⟩
 ·rw[eG];split
  ·refine⟨p1,p2,⟨by show 0<=r.l;omega,by show r.l<=1000;omega,by show(List.set _ _ _).length=4;rw[yT];exact q3,λi hi=>?_⟩,by show r.l<=_;omega,?_,?_,?_⟩
   ·show(List.getD (List.set _ _ _) i []).length<=30;by_cases ei:i=r.s.toNat
    ·rw[ei,R2,j_j Z9]
     exact t
    ·rw[R2,j_k (Ne.symm ei),←R2]
     refine Q i ?_
     have:i<(List.set (a.fr.getD k dz).pg.sl r.s.toNat r.a).length:=hi;rw[yT] at this;exact this
   ·show 0<=(if(a.fr.getD k dz).D=true then(a.fr.getD k dz).first else r.l)
    split<;>omega
   ·show(if(a.fr.getD k dz).D=true then(a.fr.getD k dz).first else r.l)<=_
    split<;>omega
   ·show(true=true↔0<(if(a.fr.getD k dz).D=true then(a.fr.getD k dz).first else r.l))
    split
    ·rename_i hd;exact⟨λ_=>q.1 hd,λ_=>rfl⟩
    ·exact⟨λ_=>Z9,λ_=>rfl⟩
  ·exact g.fp i Z9
 ·rw[N,N] at f;exact g.nd i j Z9 Z9 f
 ·rw[eG] at hcl ⊢;by_cases ei:i=k
  ·rw[if_pos ei] at hcl;cases hcl
  ·rw[if_neg ei] at hcl ⊢;exact g.cl i Z9 hcl
def LI(L:List Rec):Prop:=m9 L/\∀a:Int,1<=a->a<=L.length->(X8 L a).k<=3->((X8 L a).p=0∨ownR L (X8 L a).p (X8 L a).t=true)/\((X8 L a).k=3->ownR L (X8 L a).n (X8 L a).t=true)
def InT(T:List Txn)(x:Int):Prop:=∃j,j<T.length/\(T.getD j dz).id=x
structure EH(L:List Rec)(T:List Txn)(lk:Lks)(nx:Int):Prop where
 li:LI L
 t10:T.length<=10
 nxr:1<=nx/\nx<=61
 lks:G3 lk=true
 id:∀i,i<T.length->1<=(T.getD i dz).id/\(T.getD i dz).id<=nx-1
 asc:∀i j,i<j->j<T.length->(T.getD i dz).id<(T.getD j dz).id
 ow:∀i,i<T.length->ownR L (T.getD i dz).Z (T.getD i dz).id=true
 hd:∀i,i<lk.H.length->InT T (lk.H.getD i dz).tx
 wt:∀i,i<lk.W.length->InT T (lk.W.getD i dz).tx/\InT T (lk.W.getD i dz).fo
 rm:L.length+w8 L T T.length<=60
structure EI(e:Eng):Prop where
 g:GInv e.s
 up:e.up=true
 h:EH e.s.L e.X e.lk e.N
theorem pB{L:List Rec}(x:Rec){a:Int}(d:1<=a)(h:a<=L.length):X8 (L++[x]) a=X8 L a:=by
 unfold X8;rw[R2,uW Z9,←R2]
theorem l6(L:List Rec)(x:Rec):X8 (L++[x]) ((L.length:Int)+1)=x:=by
 unfold X8;rw[show((L.length:Int)+1-1).toNat=L.length by omega,R2,List.getElem?_concat_length]
 rfl
theorem xB{L:List Rec}{x:Rec}{a id:Int}(h:ownR L a id=true):ownR (L++[x]) a id=true:=by
 obtain⟨f,d⟩:=yQ h;unfold ownR at h ⊢;rw[pB x f d];simp only[O4,T2,K2,List.length_singleton] at h ⊢;obtain⟨⟨i,e⟩,g⟩:=h;exact⟨⟨Z9,e⟩,g⟩
theorem a9e{L:List Rec}{x:Rec}(h:1<=x.k/\x.k<=3):ownR (L++[x]) ((L.length:Int)+1) x.t=true:=by
 unfold ownR;rw[l6];simp only[O4,T2,K2,List.length_singleton,beq_self_eq_true];exact⟨⟨Z9,Z6⟩,h⟩
theorem c6K{L:List Rec}{a id:Int}(h:ownR L a id=true):(X8 L a).t=id/\1<=(X8 L a).k/\(X8 L a).k<=3:=by
 unfold ownR at h;simp only[O4,T2,beq_iff_eq] at h;exact⟨h.1.2,h.2⟩
theorem a6U{L:List Rec}{x:Rec}(h:LI L)(hp:C8 x)(hl:x.l=(L.length:Int)+1)(hx:x.k<=3->(x.p=0∨ownR L x.p x.t=true)/\(x.k=3->ownR L x.n x.t=true)):LI (L++[x]):=by
 have o:x.l<=60:=hp.2.2.2.1;have e:(L++[x]).length=L.length+1:=W8
 refine⟨⟨Z9,λi hi=>?_⟩,λa j q f=>?_⟩
 ·rw[tV dz L x i Z9]
  by_cases d:i=L.length
  ·rw[if_pos d];exact⟨hp,Z9⟩
  ·rw[if_neg d];exact h.1.2 i Z9
 ·by_cases ha:a<=L.length
  ·rw[pB x j ha] at f ⊢;obtain⟨B,b2⟩:=h.2 a j ha f;exact⟨B.imp id xB,λg=>xB (b2 g)⟩
  ·have:a=(L.length:Int)+1:=by omega
   subst this;rw[l6] at f ⊢;obtain⟨B,b2⟩:=hx f;exact⟨B.imp id xB,λg=>xB (b2 g)⟩
theorem b5l{L:List Rec}(h:LI L){id:Int}:∀(f:Nat) (a:Int),a.toNat<f->(a<=0∨ownR L a id=true)->chn L id f a=true
 |0,_,hf,_=>absurd hf (J5 _)
 |f+1,a,hf,ha=>by
  unfold chn;rcases ha with ha|ha
  ·rw[qK ha];rfl
  ·obtain⟨h1,h2⟩:=yQ ha;obtain⟨t1,t2,t3⟩:=c6K ha;obtain⟨p1,p2,p3,p4⟩:=h.1.prev h1 h2;obtain⟨b1,b2⟩:=h.2 a h1 h2 t3;rw[t1] at b1 b2;have hc:chn L id f (X8 L a).p=true:=b5l h f _ Z9 (b1.imp (λe=>Z9) λe=>e)
   rw[hc,Bool.and_true];have o:okR L id a=true:=by
    unfold okR;rw[ha,Bool.true_and];by_cases d:(X8 L a).k=3
    ·rw[b2 d,Bool.or_true]
    ·rw[show((X8 L a).k !=3)=true by simpa using d];rfl
   rw[o,Bool.or_true]
theorem c7y{L:List Rec}(h:LI L){t:Txn}(o:ownR L t.Z t.id=true):nX L t=true:=by
 obtain⟨d,e⟩:=yQ o;have:=h.1.1;unfold nX;rw[T2.2 ⟨d,e⟩,Bool.true_and];exact b5l h 61 _ Z9 (.inr o)
theorem a1e{T:List Txn}{x:Int}(h:InT T x):¬S8 T x<0:=λn=>by
 obtain⟨j,J,e⟩:=h;have d:=F6 T.length (b9 T x);have f:anyI T.length (b9 T x)=true:=U3.2 ⟨j,J,by unfold b9;rw[e];exact beq_self_eq_true x⟩
 rw[f] at d;have:=E4 d;have g:Q9 T.length (b9 T x)<0:=n;omega
theorem EI.r{e:Eng}(h:EI e):tE e=true:=by
 obtain⟨_,u,li,t10,nx,lk,id,asc,ow,hd,wt,rm⟩:=h;unfold tE wY upE;rw[if_pos u];simp only[O4,r8,T2,xV];refine⟨⟨⟨t10,nx⟩,lk⟩,⟨⟨?_,?_⟩,?_⟩,rm⟩
 ·refine R8.2 λi hi=>?_
  unfold A7;simp only[zV,zF,Bool.and_eq_false_iff,qN,T2];refine⟨⟨id i hi,?_⟩,c7y li (ow i hi)⟩
  by_cases d:i=0
  ·exact .inl Z9
  ·have:=asc (i-1) i Z9 hi
   exact .inr Z9
 ·refine R8.2 λi hi=>?_
  unfold xM;exact uG (a1e (hd i hi))
 ·refine R8.2 λi hi=>?_
  unfold v8;rw[uG (a1e (wt i hi).1),uG (a1e (wt i hi).2)];rfl
theorem EI.ok{e:Eng}(h:EI e):P1 e=true:=by
 unfold P1;rw[h.g.ok,h.r];rfl
theorem EI.sm{e:Eng}(h:EI e):g9 e:=by
 have d:=a6o h.h.lks;have f:=h.h.t10;exact⟨h.g.sm,Z9,Z9,Z9⟩
theorem EH.at_{L:List Rec}{T:List Txn}{lk:Lks}{nx:Int}(h:EH L T lk nx){k:Nat}(d:k<T.length):S8 T (T.getD k dz).id=k:=
 N4 d (by unfold b9;exact beq_self_eq_true _) λj J=>by
  have:=h.asc j k J d;unfold b9;exact beq_eq_false_iff_ne.2 Z9
theorem a1M{L:List Rec}(hL:m9 L):∀(f g:Nat) (a:Int),a<=L.length->a.toNat<f->a.toNat<g->und L f a=und L g a
 |0,_,_,_,h,_=>absurd h (J5 _)
 |f+1,0,_,_,_,h=>absurd h (J5 _)
 |f+1,g+1,a,ha,h1,h2=>by
  unfold und;by_cases d:a<=0
  ·rw[if_pos d,if_pos d]
  ·obtain⟨p1,p2,p3,p4⟩:=hL.prev (show 1<=a by omega) ha
   rw[if_neg d,if_neg d,a1M hL f g _ Z9 Z9 Z9,a1M hL f g _ Z9 Z9 Z9]
theorem a12{L:List Rec}{x:Rec}{T:List Txn}(d:m9 L):∀n,(∀i,i<n->(T.getD i dz).Z<=L.length)->w8 (L++[x]) T n=w8 L T n
 |0,_=>rfl
 |n+1,h=>by
  unfold w8;rw[a12 d n λi hi=>h i Z9,rU d 61 _ (h n Z9)]
theorem wV{T:List Txn}{k:Nat}(t:Txn)(i:Nat)(hk:k<T.length):(T.set k t).getD i dz=if i=k then t else T.getD i dz:=by
 by_cases h:i=k
 ·subst h;rw[if_pos rfl,R2,j_j hk]
  rfl
 ·rw[if_neg h,R2,j_k (Ne.symm h),←R2]
theorem b4p{L:List Rec}{T:List Txn}{k:Nat}(t:Txn)(d:k<T.length):∀n,w8 L (T.set k t) n+(if k<n then und L 61 (T.getD k dz).Z else 0)=w8 L T n+(if k<n then und L 61 t.Z else 0)
 |0=>by rw[if_neg (J5 _),if_neg (J5 _)];rfl
 |n+1=>by
  have ih:=b4p (L:=L) t d n;unfold w8;rw[wV t n d];by_cases h:n=k
  ·subst h;rw[if_pos rfl,if_pos Z9,if_pos Z9]
   rw[if_neg Z9,if_neg Z9] at ih
   omega
  ·rw[if_neg h];by_cases h2:k<n
   ·rw[if_pos h2,if_pos h2] at ih;rw[if_pos Z9,if_pos Z9]
    omega
   ·rw[if_neg h2,if_neg h2] at ih;rw[if_neg Z9,if_neg Z9]
    omega
theorem wS{T:List Txn}{k:Nat}(i:Nat)(d:k<T.length):(T.take k++T.drop (k+1)).getD i dz=T.getD (if i<k then i else i+1) dz:=by
 have hl:(T.take k).length=k:=by rw[List.length_take];omega
 by_cases h:i<k
 ·rw[if_pos h,R2,uW Z9,List.getElem?_take_of_lt h,←R2]
 ·rw[if_neg h,R2,tG Z9,hl,List.getElem?_drop,show k+1+(i-k)=i+1 by omega,←R2]
theorem rH{T:List Txn}{k:Nat}(h:k<T.length):(T.take k++T.drop (k+1)).length=T.length-1:=by
 rw[K2,List.length_take,List.length_drop];omega
theorem b6H{L:List Rec}{T:List Txn}{k:Nat}(d:k<T.length):∀n,n<T.length->w8 L (T.take k++T.drop (k+1)) n+(if k<=n then 1+und L 61 (T.getD k dz).Z else 0)=w8 L T (if k<=n then n+1 else n)
 |0,_=>by
  by_cases h:k=0
  ·subst h;rw[if_pos (V8 _),if_pos (V8 _)];show 0+_=0+_;rfl
  ·rw[if_neg Z9,if_neg Z9]
   rfl
 |n+1,hn=>by
  have ih:=b6H (L:=L) d n Z9
  have e:w8 L (T.take k++T.drop (k+1)) (n+1)=w8 L (T.take k++T.drop (k+1)) n+(1+und L 61 (T.getD (if n<k then n else n+1) dz).Z):=by
   conv=>lhs;unfold w8
   rw[wS n d]
  by_cases h:k<=n
  ·rw[if_pos h,if_pos h] at ih;have e1:(if n<k then n else n+1)=n+1:=if_neg Z9
   rw[e1] at e;have f:(if k<=n+1 then n+1+1 else n+1)=n+1+1:=if_pos Z9
   have e2:w8 L T (n+1+1)=w8 L T (n+1)+(1+und L 61 (T.getD (n+1) dz).Z):=rfl;rw[e,f,if_pos (show k<=n+1 by omega)]
   omega
  ·rw[if_neg h,if_neg h] at ih;have e2:w8 L T (n+1)=w8 L T n+(1+und L 61 (T.getD n dz).Z):=rfl;have e1:(if n<k then n else n+1)=n:=if_pos Z9
   rw[e1] at e;by_cases g:k<=n+1
   ·have:k=n+1:=by omega
    subst this;have f:w8 L T (n+1+1)=w8 L T (n+1)+(1+und L 61 (T.getD (n+1) dz).Z):=rfl;rw[e,if_pos (V8 _),if_pos (V8 _)];omega
   ·rw[e,if_neg g,if_neg g];omega
theorem b0x{L:List Rec}{T:List Txn}{k:Nat}(h:k<T.length):w8 L (T.take k++T.drop (k+1)) (T.take k++T.drop (k+1)).length+(1+und L 61 (T.getD k dz).Z)=w8 L T T.length:=by
 have:=b6H (L:=L) h (T.length-1) Z9
 rw[if_pos Z9,if_pos Z9,show T.length-1+1=T.length by omega] at this
 rw[rH h];exact this
theorem a0y{α:Type}[Inhabited α](f:α->Bool)(L:List α):∀n,n<=L.length->X5 f L n=(L.take n).filter f
 |0,_=>by rw[List.take_zero];rfl
 |n+1,h=>by
  have e:L.take (n+1)=L.take n++[L.getD n dz]:=by
   rw[List.take_add_one,J4 Z9,R2,J4 Z9]
   rfl
  unfold X5;rw[e,List.filter_append,a0y f L n Z9]
  by_cases F:f (L.getD n dz)=true
  ·rw[if_pos F,List.filter_cons_of_pos F];rfl
  ·rw[if_neg F,List.filter_cons_of_neg F];simp
theorem sV{α:Type}[Inhabited α](f:α->Bool)(L:List α):X5 f L L.length=L.filter f:=by
 rw[a0y f L _ (V8 _),cH]
def b5t(w:Wt):Bool:=V9 w.tx 1 60&&V9 w.fo 1 60&&(w.tx !=w.fo)
def c54(b a:Lck):Prop:=(qD a b||clash a b)=false
theorem zH{α:Type}[Inhabited α]{L:List α}{i:Nat}(h:i<L.length):L.getD i dz ∈ L:=by
 rw[R2,J4 h]
 exact List.getElem_mem h
theorem xZ{α:Type}[Inhabited α]{L:List α}{a:α}(h:a ∈ L):∃i,i<L.length/\L.getD i dz=a:=by
 obtain⟨i,hi,e⟩:=List.mem_iff_getElem.1 h;exact⟨i,hi,by rw[R2,J4 hi];exact e⟩
theorem iO{α:Type}[Inhabited α]{L:List α}{i:Nat}(h:i<L.length):L.getD i dz=L[i]:=by
 rw[R2,J4 h]
 rfl
theorem zE{l:Lks}:G3 l=true↔(∀a ∈ l.H,l9 a=true)/\l.H.Pairwise c54/\l.H.length<=60/\l.W.length<=100/\∀w ∈ l.W,b5t w=true:=by
 unfold G3;simp only[O4,xV,r8];rw[R8,R8,List.pairwise_iff_getElem];refine⟨λ⟨h1,⟨h2,h3⟩,h4⟩=>⟨λa A=>?_,λi j hi hj h=>?_,h2,h3,λw hw=>?_⟩,λ⟨h1,h2,h3,h4,h5⟩=>⟨λi hi=>?_,⟨h3,h4⟩,λi hi=>?_⟩⟩
 ·obtain⟨i,hi,rfl⟩:=xZ A;have:=h1 i hi;unfold D3 at this;simp only[zV,zF] at this;exact this.1
 ·have:=h1 j hj;unfold D3 at this;simp only[zV] at this;have:=R8.1 this.2 i h;unfold yB at this;rw[iO hj,iO hi] at this;exact this
 ·obtain⟨i,hi,rfl⟩:=xZ hw;have:=h4 i hi;unfold B5 at this;unfold b5t;simp only[zV,zF] at this;rw[this.1.1,this.1.2]
  simpa using this.2
 ·unfold D3;rw[h1 _ (zH hi)];simp only[Bool.not_true,Bool.false_or];refine R8.2 λj hj=>?_
  unfold yB;rw[iO hi,iO (show j<l.H.length by omega)]
  exact h2 j i Z9 hi hj
 ·have:=h5 _ (zH hi);unfold b5t at this;unfold B5;simp only[O4] at this;rw[this.1.1,this.1.2]
  simpa using this.2
theorem c4l{l:Lks}(h:G3 l=true)(tx:Int):G3 (frK l tx)=true:=by
 obtain⟨f,d,i,e,g⟩:=zE.1 h;unfold frK;rw[sV,sV];refine zE.2 ⟨λa A=>f a (List.mem_filter.1 A).1,List.Pairwise.filter _ d,Nat.le_trans (List.length_filter_le _ _) i,Nat.le_trans (List.length_filter_le _ _) e,λw W=>g w (List.mem_filter.1 W).1⟩
theorem b0s{L:List Rec}{x:Rec}(h:m9 (L++[x])):und (L++[x]) 61 ((L.length:Int)+1)=if x.k=3 then und L 61 x.n else(if x.k=2 then 1 else 0)+und L 61 x.p:=by
 have e:(L++[x]).length=L.length+1:=W8
 have f:m9 L:=⟨by have:=h.1;omega,λi hi=>by
  have:=h.2 i Z9
  rw[tV dz L x i Z9,if_neg Z9] at this
  exact this⟩
 obtain⟨o,q,j,l⟩:=h.prev (at_:=(L.length:Int)+1) Z9 Z9
 rw[l6] at o q j l;have g:=h.1;conv=>lhs;unfold und
 rw[if_neg Z9,l6]
 by_cases d:x.k=3
 ·rw[if_pos d,if_pos d,rU f 60 _ Z9,a1M f 60 61 _ Z9 Z9 Z9]
 ·rw[if_neg d,if_neg d,rU f 60 _ Z9,a1M f 60 61 _ Z9 Z9 Z9]
theorem a7r{T:List Txn}{k:Nat}{n x:Int}(d:k<T.length)(h:InT T x):InT (T.set k ⟨(T.getD k dz).id,n⟩) x:=by
 obtain⟨j,J,e⟩:=h;refine⟨j,by rw[yT];exact J,?_⟩
 rw[wV _ j d];by_cases h:j=k
 ·rw[if_pos h,←e,h]
 ·rw[if_neg h];exact e
abbrev c7M(L:List Rec)(tn:Txn)(x:Rec):Prop:=C8 x/\x.l=(L.length:Int)+1/\x.t=tn.id/\x.p=tn.Z
def a69(L:List Rec)(t:Txn)(x:Rec):Nat:=if x.k=3 then und L 61 x.n else(if x.k=2 then 1 else 0)+und L 61 t.Z
theorem c4S{L:List Rec}{T:List Txn}{lk:Lks}{nx:Int}{x:Rec}(h:EH L T lk nx){k:Nat}(hk:k<T.length)(hx:c7M L (T.getD k dz) x)(r:x.k<=3)(N:x.k=3->ownR L x.n x.t=true)
  (M:L.length+1+w8 L T T.length+a69 L (T.getD k dz) x<=60+und L 61 (T.getD k dz).Z):
  EH (L++[x]) (T.set k ⟨(T.getD k dz).id,(L.length:Int)+1⟩) lk nx/\
  w8 (L++[x]) (T.set k ⟨(T.getD k dz).id,(L.length:Int)+1⟩) T.length+und L 61 (T.getD k dz).Z=w8 L T T.length+a69 L (T.getD k dz) x/\
  und (L++[x]) 61 ((L.length:Int)+1)=a69 L (T.getD k dz) x:=by
 obtain⟨hp,hl,o,f⟩:=hx;have g:1<=x.k:=hp.2.2.2.2.1;have I:LI (L++[x]):=a6U h.li hp hl λ_=>⟨.inr (by rw[f,o];exact h.ow k hk),N⟩
 have u:=b0s I.1;rw[f] at u;have u:und (L++[x]) 61 ((L.length:Int)+1)=a69 L (T.getD k dz) x:=u;have d:∀i,i<T.length->(T.getD i dz).Z<=L.length:=λi hi=>(yQ (h.ow i hi)).2
 have hlen:(T.set k (⟨(T.getD k dz).id,(L.length:Int)+1⟩:Txn)).length=T.length:=yT;have l:w8 (L++[x]) (T.set k ⟨(T.getD k dz).id,(L.length:Int)+1⟩) T.length+und L 61 (T.getD k dz).Z=w8 L T T.length+a69 L (T.getD k dz) x:=by
  have q:=b4p (L:=L++[x]) (T:=T) ⟨(T.getD k dz).id,(L.length:Int)+1⟩ hk T.length;rw[if_pos hk,if_pos hk,a12 h.li.1 _ d,rU h.li.1 61 _ (d k hk),u] at q;exact q
 refine⟨⟨I,by rw[hlen];exact h.t10,h.nxr,h.lks,λi hi=>?_,λi j hij hj=>?_,λi hi=>?_,λi hi=>a7r hk (h.hd i hi),λi hi=>⟨a7r hk (h.wt i hi).1,a7r hk (h.wt i hi).2⟩,?_⟩,l,u⟩
 ·rw[hlen] at hi;rw[wV _ i hk];by_cases e:i=k
  ·rw[if_pos e];exact h.id k hk
  ·rw[if_neg e];exact h.id i hi
 ·rw[hlen] at hj;have:=h.asc i j hij hj;rw[wV _ i hk,wV _ j hk];by_cases e:i=k
  ·rw[if_pos e,if_neg Z9]
   rw[e] at this;exact this
  ·rw[if_neg e];by_cases e2:j=k
   ·rw[if_pos e2];rw[e2] at this;exact this
   ·rw[if_neg e2];exact this
 ·rw[hlen] at hi;rw[wV _ i hk];by_cases e:i=k
  ·rw[if_pos e];have:=a9e (L:=L) (x:=x) ⟨g,r⟩;rw[o] at this;exact this
  ·rw[if_neg e];exact xB (h.ow i hi)
 ·rw[hlen];have e:(L++[x]).length=L.length+1:=by simp
  omega
theorem a09{L:List Rec}{T:List Txn}{k:Nat}(h:k<T.length):1<=w8 L T T.length:=by
 have:=b0x (L:=L) h;omega
theorem a67{T:List Txn}{k:Nat}{x:Int}(d:k<T.length)(h:InT T x)(hx:x≠(T.getD k dz).id):InT (T.take k++T.drop (k+1)) x:=by
 obtain⟨j,J,e⟩:=h;have f:j≠k:=λg=>hx (by rw[←e,g])
 by_cases hl:j<k
 ·exact⟨j,by rw[rH d];omega,by rw[wS j d,if_pos hl];exact e⟩
 ·exact⟨j-1,by rw[rH d];omega,by rw[wS (j-1) d,if_neg Z9,show j-1+1=j by omega];exact e⟩
theorem c5k{L:List Rec}{T:List Txn}{lk:Lks}{nx:Int}{x:Rec}(h:EH L T lk nx){k:Nat}(hk:k<T.length)(hp:C8 x)(hl:x.l=(L.length:Int)+1)(n:4<=x.k):
  EH (L++[x]) (T.take k++T.drop (k+1)) (frK lk (T.getD k dz).id) nx/\
  (L++[x]).length+w8 (L++[x]) (T.take k++T.drop (k+1)) (T.take k++T.drop (k+1)).length+und L 61 (T.getD k dz).Z=L.length+w8 L T T.length:=by
 have hlen:=rH hk;have e:(L++[x]).length=L.length+1:=W8
 have M:=h.rm;have o:=a09 (L:=L) hk;have t:∀i,i<(T.take k++T.drop (k+1)).length->((T.take k++T.drop (k+1)).getD i dz).Z<=L.length:=λi hi=>by
  rw[wS i hk];rw[hlen] at hi;split
  ·exact(yQ (h.ow i Z9)).2
  ·exact(yQ (h.ow (i+1) Z9)).2
 have f:(L++[x]).length+w8 (L++[x]) (T.take k++T.drop (k+1)) (T.take k++T.drop (k+1)).length+und L 61 (T.getD k dz).Z=L.length+w8 L T T.length:=by
  rw[a12 h.li.1 _ t,e];have:=b0x (L:=L) hk;omega
 have d:=c4l h.lks (T.getD k dz).id;refine⟨⟨a6U h.li hp hl λg=>Z9,by rw[hlen];have:=h.t10;omega,h.nxr,d,λi hi=>?_,λi j J hj=>?_,λi hi=>?_,λi hi=>?_,λi hi=>?_,Z9⟩,f⟩
 ·rw[hlen] at hi;rw[wS i hk];split
  ·exact h.id i Z9
  ·exact h.id (i+1) Z9
 ·rw[hlen] at hj;rw[wS i hk,wS j hk];split
  ·split
   ·exact h.asc i j J Z9
   ·exact h.asc i (j+1) Z9 Z9
  ·rw[if_neg Z9]
   exact h.asc (i+1) (j+1) Z9 Z9
 ·rw[hlen] at hi;rw[wS i hk];split
  ·exact xB (h.ow i Z9)
  ·exact xB (h.ow (i+1) Z9)
 ·have hm:=zH hi;have hm:(frK lk (T.getD k dz).id).H.getD i dz ∈ X5 (hF (T.getD k dz).id) lk.H lk.H.length:=hm;rw[sV] at hm;obtain⟨m1,m2⟩:=List.mem_filter.1 hm;obtain⟨j,hj,ej⟩:=xZ m1;have:=h.hd j hj;rw[ej] at this;refine a67 hk this λe=>?_
  unfold hF at m2;rw[e] at m2;simp at m2
 ·have hm:=zH hi;have hm:(frK lk (T.getD k dz).id).W.getD i dz ∈ X5 (wF (T.getD k dz).id) lk.W lk.W.length:=hm;rw[sV] at hm;obtain⟨m1,m2⟩:=List.mem_filter.1 hm;obtain⟨j,hj,ej⟩:=xZ m1;have W:=h.wt j hj;rw[ej] at W;unfold wF at m2;simp only[O4,bne_iff_ne,ne_eq] at m2;exact⟨a67 hk W.1 m2.1,a67 hk W.2 m2.2⟩
theorem c5s{L:List Rec}{T:List Txn}{lk:Lks}{nx:Int}{x:Rec}(h:EH L T lk nx)(v:T.length<=9)(o:nx<=60)(M:L.length+w8 L T T.length+2<=60)(hp:C8 x)(hl:x.l=(L.length:Int)+1)(g:x.t=nx)(q:x.k=1):
  EH (L++[x]) (T++[⟨nx,(L.length:Int)+1⟩]) lk (nx+1):=by
 have e:(L++[x]).length=L.length+1:=W8
 have eT:(T++[(⟨nx,(L.length:Int)+1⟩:Txn)]).length=T.length+1:=W8
 have d:x.p=0:=(hp.2.2.2.2.2.2.2.2.2.2.2.2.2.2.2.2 Z9).2.2.2.2.2.2.1 q
 have I:LI (L++[x]):=a6U h.li hp hl λ_=>⟨.inl d,λe=>Z9⟩
 have u:=b0s I.1;rw[if_neg Z9,if_neg Z9,d,gR (Int.le_refl 0)] at u
 have at_:∀i,i<T.length+1->(T++[(⟨nx,(L.length:Int)+1⟩:Txn)]).getD i dz=if i=T.length then⟨nx,(L.length:Int)+1⟩ else T.getD i dz:=λi hi=>tV dz T _ i hi
 have N:∀y,InT T y->InT (T++[(⟨nx,(L.length:Int)+1⟩:Txn)]) y:=λy ⟨j,hj,f⟩=>⟨j,Z9,by rw[at_ j Z9,if_neg Z9];exact f⟩
 have hlast:∀i,i<T.length->(T.getD i dz).Z<=L.length:=λi hi=>(yQ (h.ow i hi)).2
 have X:=h.nxr;have hns:∀n,n<=T.length->w8 (L++[x]) (T++[(⟨nx,(L.length:Int)+1⟩:Txn)]) n=w8 (L++[x]) T n:=λn=>by
  induction n with
  |zero=>intro _;rfl
  |succ n r=>
   intro o;unfold w8;rw[r Z9,at_ n Z9,if_neg Z9]
 refine⟨I,Z9,Z9,h.lks,λi hi=>?_,λi j J hj=>?_,λi hi=>?_,λi hi=>N _ (h.hd i hi),λi hi=>⟨N _ (h.wt i hi).1,N _ (h.wt i hi).2⟩,?_⟩
 ·rw[eT] at hi;rw[at_ i hi];by_cases c:i=T.length
  ·rw[if_pos c];dsimp only;omega
  ·rw[if_neg c];have:=h.id i Z9
   omega
 ·rw[eT] at hj;rw[at_ i Z9,at_ j hj,if_neg Z9]
  by_cases c:j=T.length
  ·rw[if_pos c];have:=h.id i Z9
   dsimp only;omega
  ·rw[if_neg c];exact h.asc i j J Z9
 ·rw[eT] at hi;rw[at_ i hi];by_cases c:i=T.length
  ·rw[if_pos c];have:=a9e (L:=L) (x:=x) Z9
   rw[g] at this;exact this
  ·rw[if_neg c];exact xB (h.ow i Z9)
 ·rw[eT,e];unfold w8;rw[hns _ (V8 _),a12 h.li.1 _ hlast,at_ T.length Z9,if_pos rfl]
  dsimp only;omega
def phi(e:Eng):Nat:=e.s.L.length+i5 e
theorem a98{T:List Txn}{k:Nat}(t:Txn):(T.set k t).take k++(T.set k t).drop (k+1)=T.take k++T.drop (k+1):=by
 rw[List.take_set_of_le (V8 k),List.drop_set_of_lt (Nat.lt_succ_self k)]
theorem EI.rcp{e:Eng}(h:EI e){k:Nat}(d:k<e.X.length){r:Rec}(q:r.k≠6)(u:2<=r.k/\r.k<=5)(j:r.k≠3->r.n=0)(o:r.k≠2->r.k≠3->r.g=0/\r.s=0/\r.b=[]/\r.a=[])(z:0<=r.n/\r.n<=(e.s.L.length:Int))(v:0<=r.g/\r.g<=7)(x:0<=r.s/\r.s<=3)(f:r.b.length<=30/\r.a.length<=30)(l:r.k=3->r.b=[]):
  C8 (T1 e.s (M2 e k r)):=by
 have i:=h.g.ep;have t:=h.h.id k d;have N:=h.h.nxr;have hl:=yQ (h.h.ow k d);have R:=h.h.rm;have hp:=a09 (L:=e.s.L) d;unfold C8 T1 M2;dsimp only;exact⟨i.1,i.2,Z9,Z9,Z9,Z9,Z9,Z9,Z9,Z9,Z9,Z9,Z9,Z9,f.1,λe=>absurd e q,λ_=>⟨Z9,Z9,f.2,o,j,l,⟨λe=>Z9,λe=>Z9⟩⟩⟩
theorem EI.app{e:Eng}(h:EI e){k:Nat}(d:k<e.X.length){r:Rec}(R:C8 (T1 e.s (M2 e k r))):GInv (y7 e k r).s:=by
 have M:=h.h.rm;have hp:=a09 (L:=e.s.L) d;exact c1H h.g Z9 ((Q6 _).2 R)
theorem c3v{e:Eng}(h:EI e):EI (S3 e).1:=by
 unfold S3;rw[if_pos h.up];have r:=h.h.rm;have n:=h.h.nxr;have f:=h.h.t10;by_cases h1:e.N>60∨e.X.length=10
 ·rw[if_pos h1];exact h
 ·rw[if_neg h1];by_cases h2:(e.s.L.length:Int)+i5 e+2<=60
  ·rw[if_pos h2];have h2:e.s.L.length+w8 e.s.L e.X e.X.length+2<=60:=by
    have:i5 e=w8 e.s.L e.X e.X.length:=rfl;omega
   have d:=h.g.ep;have A:(e.X++[(⟨e.N,0⟩:Txn)]).getD e.X.length dz=⟨e.N,0⟩:=by rw[tV dz _ _ _ Z9,if_pos rfl]
   have hp:C8 (T1 e.s (M2 (oX e) e.X.length jN)):=by
    unfold C8 T1 M2 oX jN;dsimp only;rw[A];dsimp only;exact⟨d.1,d.2,Z9,by show(e.s.L.length:Int)+1<=60;omega,Z9,Z9,Z9,by show(0:Int)<=(e.s.L.length:Int)+1-1;omega,Z9,by show(0:Int)<=(e.s.L.length:Int)+1-1;omega,Z9,Z9,Z9,Z9,O3 _,λe=>Z9,λ_=>⟨Z9,Z9,O3 _,λ_ _=>Z8,λ_=>rfl,λ_=>rfl,⟨λ_=>rfl,λ_=>rfl⟩⟩⟩
   have f:(T1 e.s (M2 (oX e) e.X.length jN)).t=e.N:=by
    show((e.X++[(⟨e.N,0⟩:Txn)]).getD e.X.length dz).id=_;rw[A]
   have i:=c5s h.h Z9 Z9 h2 hp rfl f rfl
   have j:(e.X++[(⟨e.N,0⟩:Txn)]).set e.X.length ⟨((e.X++[(⟨e.N,0⟩:Txn)]).getD e.X.length dz).id,(e.s.L.length:Int)+1⟩=e.X++[⟨e.N,(e.s.L.length:Int)+1⟩]:=by
    rw[A,List.set_append_right _ _ (V8 _),j_i];rfl
   refine⟨c1H h.g (show e.s.L.length<60 by omega) ((Q6 _).2 hp),h.up,?_⟩
   show EH (e.s.L++[T1 e.s (M2 (oX e) e.X.length jN)]) ((e.X++[(⟨e.N,0⟩:Txn)]).set e.X.length ⟨((e.X++[(⟨e.N,0⟩:Txn)]).getD e.X.length dz).id,(e.s.L.length:Int)+1⟩) e.lk (e.N+1);rw[j];exact i
  ·rw[if_neg h2];exact h
theorem b9g{e:Eng}(h:EI e){k:Nat}(f:k<e.X.length){r:Rec}(R:C8 (T1 e.s (M2 e k r)))(n:4<=r.k){s:Sto}(l:GInv s)(hl:s.L=(y7 e k r).s.L):
  EI (a24 {y7 e k r with s:=s} k)/\phi (a24 {y7 e k r with s:=s} k)+und e.s.L 61 (e.X.getD k dz).Z=phi e:=by
 obtain⟨o,i⟩:=c5k (x:=T1 e.s (M2 e k r)) h.h f R rfl n;have j:(e.X.set k ⟨(e.X.getD k dz).id,(e.s.L.length:Int)+1⟩).take k++(e.X.set k ⟨(e.X.getD k dz).id,(e.s.L.length:Int)+1⟩).drop (k+1)=e.X.take k++e.X.drop (k+1):=a98 _;have d:((e.X.set k ⟨(e.X.getD k dz).id,(e.s.L.length:Int)+1⟩).getD k dz).id=(e.X.getD k dz).id:=c0z f;have g:a24 {y7 e k r with s:=s} k=⟨s,e.up,e.X.take k++e.X.drop (k+1),frK e.lk (e.X.getD k dz).id,e.N⟩:=by
  show(⟨s,e.up,(e.X.set k ⟨(e.X.getD k dz).id,(e.s.L.length:Int)+1⟩).take k++(e.X.set k ⟨(e.X.getD k dz).id,(e.s.L.length:Int)+1⟩).drop (k+1),frK e.lk ((e.X.set k ⟨(e.X.getD k dz).id,(e.s.L.length:Int)+1⟩).getD k dz).id,e.N⟩:Eng)=_;rw[j,d]
 rw[g];have hl:s.L=e.s.L++[T1 e.s (M2 e k r)]:=hl;refine⟨⟨l,h.up,by dsimp only;rw[hl];exact o⟩,?_⟩
 unfold phi i5;dsimp only;rw[hl];exact i
theorem c4T{e:Eng}(h:EI e)(tx:Int):EI (r7 e tx).1:=by
 unfold r7;by_cases h0:(U5 e tx).2=0
 ·obtain⟨hu,k,e1,hk,hi,ha⟩:=k7 h0;have hR:C8 (T1 e.s (M2 e k a1R)):=h.rcp hk X1 X1 (λ_=>rfl) (λ_ _=>Z8) ⟨Int.le_refl _,mO⟩ X1 X1 X1 (λ_=>rfl)
  have i:=h.app hk hR;have n:=vZ e k a1R;obtain⟨d,g,_⟩:=a5p (l:=((e.s.L.length+1:Nat):Int)) i (by rw[n];exact Int.le_refl _)
  have f:(nC e k).2=true:=g;rw[if_pos h0,e1,G2,if_pos f];exact(b9g h hk hR X1 d (vJ _ _).2.2.1).1
 ·rw[if_neg h0];exact h
structure UndP(e:Eng)(k:Nat)(u:(Eng×Nat)×Bool)(to:Int):Prop where
 al:u.2=true
 ei:EI u.1.1
 ln:u.1.1.X.length=e.X.length
 ph:phi u.1.1=phi e
 un:∃a,a<=to/\und u.1.1.s.L 61 (u.1.1.X.getD k dz).Z=und u.1.1.s.L 61 a
def cF(tx:Int)(w:Wt):Bool:=w.tx !=tx
def N6(l:Lks)(tx:Int):Lks:=⟨l.H,X5 (cF tx) l.W l.W.length⟩
def cT(a b:Int):Bool:=(a==b)||(a==4)||(b==1)
def b6(L:List Lck)(x:Lck)(i:Nat):Bool:=((L.getD i dz).tx==x.tx)&&((L.getD i dz).ta==x.ta)&&((L.getD i dz).row==x.row)&&cT (L.getD i dz).mo x.mo
def dW(L:List Wt)(w:Wt)(i:Nat):Bool:=((L.getD i dz).tx==w.tx)&&(((L.getD i dz).fo==w.fo)&&true)
def V3(L:List Lck)(x:Lck):Nat->List Wt
 |0=>[]
 |i+1=>if clash (L.getD i dz) x=true then(if anyI (V3 L x i).length (dW (V3 L x i) ⟨x.tx,(L.getD i dz).tx⟩)=true then V3 L x i else V3 L x i++[⟨x.tx,(L.getD i dz).tx⟩]) else V3 L x i
def thr(R:List Int)(a:Int)(i:Nat):Bool:=R.getD i 0==a
def scn(W:List Wt)(tx a:Int)(R:List Int):Nat->Option (List Int)
 |0=>some R
 |k+1=>match scn W tx a R k with
  |none=>none
  |some Q=>if(W.getD k dz).tx=a then(if(W.getD k dz).fo=tx then none else if anyI Q.length (thr Q (W.getD k dz).fo)=true then some Q else some (Q++[(W.getD k dz).fo])) else some Q
def fI(W:List Wt)(tx:Int):Nat->Nat->List Int->Bool
 |0,_,_=>false
 |f+1,i,R=>if i<R.length then(match scn W tx (R.getD i 0) R W.length with|none=>true|some Q=>fI W tx f (i+1) Q) else false
def rnd(W:List Wt)(tx:Int):Bool:=fI W tx 200 0 [tx]
def I9(l:Lks)(x:Lck):List Wt:=V3 l.H x l.H.length
def X4(l:Lks)(x:Lck):Lks×Int:=
 if anyI l.H.length (b6 l.H x)=true then(N6 l x.tx,0) else
 if(I9 l x).length=0 then(if l.H.length=60 then(N6 l x.tx,7) else(⟨l.H++[x],(N6 l x.tx).W⟩,0)) else
 if(N6 l x.tx).W.length+(I9 l x).length>100 then(N6 l x.tx,7) else
 if rnd ((N6 l x.tx).W++I9 l x) x.tx=true then(N6 l x.tx,14) else(⟨l.H,(N6 l x.tx).W++I9 l x⟩,13)
theorem c4f(a b:Int):sW a b=sW b a:=by
 unfold sW;rw[Bool.eq_iff_iff];simp only[O4,tB,bne_iff_ne,ne_eq,beq_iff_eq];omega
theorem c1e(a b:Lck):clash a b=clash b a:=by
 unfold clash tM;rw[c4f a.mo b.mo,Bool.eq_iff_iff];simp only[O4,bne_iff_ne,ne_eq,beq_iff_eq];constructor
 ·rintro⟨⟨h,f,d⟩,g⟩;exact⟨⟨λe=>h e.symm,f.symm,d.symm⟩,g⟩
 ·rintro⟨⟨h,f,d⟩,g⟩;exact⟨⟨λe=>h e.symm,f.symm,d.symm⟩,g⟩
theorem b4b{L:List Lck}{x:Lck}:∀n,V3 L x n=[]->∀i,i<n->clash (L.getD i dz) x=false
 |0,_,_,hi=>absurd hi (J5 _)
 |n+1,h,i,hi=>by
  unfold V3 at h;cases C:clash (L.getD n dz) x with
  |true=>
   rw[if_pos C] at h;split at h
   ·rename_i A;rw[h] at A;obtain⟨_,d,_⟩:=U3.1 A;exact absurd d (J5 _)
   ·simp at h
  |false=>
   rw[if_neg (by rw[C];simp)] at h
   by_cases e:i=n
   ·rw[e];exact C
   ·exact b4b n h i Z9
theorem zG{L:List Lck}{x:Lck}{w:Wt}:∀n,n<=L.length->w ∈ V3 L x n->∃i,i<L.length/\w=⟨x.tx,(L.getD i dz).tx⟩/\(L.getD i dz).tx≠x.tx
 |0,_,h=>J6
 |n+1,hn,h=>by
  unfold V3 at h;split at h
  ·rename_i hc;split at h
   ·exact zG n Z9 h
   ·rcases List.mem_append.1 h with h|h
    ·exact zG n Z9 h
    ·rw[List.mem_singleton] at h;refine⟨n,Z9,h,?_⟩
     unfold clash at hc;simp only[O4,bne_iff_ne,ne_eq] at hc;exact hc.1.1
  ·exact zG n Z9 h
theorem a6K{L:List Lck}{x:Lck}:∀n,(V3 L x n).length<=n
 |0=>V8 0
 |n+1=>by
  have i:=a6K (L:=L) (x:=x) n;unfold V3;split
  ·split
   ·omega
   ·rw[K2,List.length_singleton];omega
  ·omega
structure LkP(T:List Txn)(l:Lks):Prop where
 ok:G3 l=true
 hd:∀a ∈ l.H,InT T a.tx
 wt:∀w ∈ l.W,InT T w.tx/\InT T w.fo
theorem c7q{L:List Rec}{T:List Txn}{lk:Lks}{nx:Int}(h:EH L T lk nx):LkP T lk:=by
 refine⟨h.lks,λa A=>?_,λw W=>?_⟩
 ·obtain⟨i,hi,rfl⟩:=xZ A;exact h.hd i hi
 ·obtain⟨i,hi,rfl⟩:=xZ W;exact h.wt i hi
theorem c7l{L:List Rec}{T:List Txn}{lk l:Lks}{nx:Int}(h:EH L T lk nx)(hp:LkP T l):EH L T l nx:=
 ⟨h.li,h.t10,h.nxr,hp.ok,h.id,h.asc,h.ow,λ_ hi=>hp.hd _ (zH hi),λ_ hi=>hp.wt _ (zH hi),h.rm⟩
theorem c5H{T:List Txn}{l:Lks}(h:LkP T l)(tx:Int):LkP T (N6 l tx):=by
 obtain⟨g,e,i⟩:=h;obtain⟨d,f,j,A,n⟩:=zE.1 g;unfold N6;rw[sV];exact⟨zE.2 ⟨d,f,j,Nat.le_trans (List.length_filter_le _ _) A,λw W=>n w (List.mem_filter.1 W).1⟩,e,λw W=>i w (List.mem_filter.1 W).1⟩
theorem c5L{T:List Txn}{l:Lks}{x:Lck}(h:LkP T l)(hx:l9 x=true)(hi:InT T x.tx):LkP T (X4 l x).1:=by
 have o:=c5H h x.tx;obtain⟨C,c2,c3⟩:=o;obtain⟨A,a2,j,a4,a5⟩:=zE.1 C;have A:∀a ∈ l.H,l9 a=true:=A;have j:l.H.length<=60:=j;have c2:∀a ∈ l.H,InT T a.tx:=c2;unfold X4;split
 ·exact⟨C,c2,c3⟩
 ·rename_i hh;split
  ·rename_i hw;split
   ·exact⟨C,c2,c3⟩
   ·rename_i h60;refine⟨zE.2 ⟨λa ha=>?_,List.pairwise_append.2 ⟨a2,List.pairwise_singleton _ _,λb hb a ha=>?_⟩,a0c,a4,a5⟩,λa ha=>?_,c3⟩
    ·rcases List.mem_append.1 ha with ha|ha
     ·exact A a ha
     ·rw[List.mem_singleton.1 ha];exact hx
    ·rw[List.mem_singleton.1 ha];obtain⟨i,hi',rfl⟩:=xZ (show b ∈ l.H from hb)
     have n:=b4b _ (List.length_eq_zero_iff.1 hw) i hi';have g:b6 l.H x i=false:=by
      cases q:b6 l.H x i with
      |false=>rfl
      |true=>exact absurd (U3.2 ⟨i,hi',q⟩) hh
     unfold c54;rw[c1e,n,Bool.or_false];cases d:qD x (l.H.getD i dz) with
     |false=>rfl
     |true=>
      unfold qD at d;simp only[O4,beq_iff_eq,Bool.and_true] at d;unfold b6 cT at g;rw[d.1,d.2.1,d.2.2.1,d.2.2.2] at g;simp at g
    ·rcases List.mem_append.1 ha with ha|ha
     ·exact c2 a ha
     ·rw[List.mem_singleton.1 ha];exact hi
  ·split
   ·exact⟨C,c2,c3⟩
   ·rename_i h100;split
    ·exact⟨C,c2,c3⟩
    ·have t:1<=x.tx/\x.tx<=60:=by
      unfold l9 at hx;simp only[O4,T2] at hx;exact hx.1.1.1.1
     refine⟨zE.2 ⟨A,a2,j,by dsimp only;rw[K2];omega,λw hw=>?_⟩,c2,λw hw=>?_⟩
     ·rcases List.mem_append.1 hw with hw|hw
      ·exact a5 w hw
      ·obtain⟨i,hi',rfl,f⟩:=zG _ (V8 _) hw;have hl:=A _ (zH hi');unfold l9 at hl;simp only[O4,T2] at hl;unfold b5t;simp only[O4,T2,bne_iff_ne,ne_eq];exact⟨⟨t,hl.1.1.1.1⟩,λe=>f e.symm⟩
     ·rcases List.mem_append.1 hw with hw|hw
      ·exact c3 w hw
      ·obtain⟨i,hi',rfl,f⟩:=zG _ (V8 _) hw;exact⟨hi,c2 _ (zH hi')⟩
def R5(e:Eng)(s:Sto):Eng:={e with s:=s}
theorem oK{e:Eng}(h:EI e){s:Sto}(d:GInv s)(hl:s.L=e.s.L):EI (R5 e s):=⟨d,h.up,by show EH s.L _ _ _;rw[hl];exact h.h⟩
def S6(e:Eng)(k:Nat)(ta row mo:Int):Lck:=⟨(e.X.getD k dz).id,ta,row,mo⟩
def N7(e:Eng)(k:Nat)(ta row mo:Int):Eng:={e with lk:=(X4 e.lk (S6 e k ta row mo)).1}
theorem b8T{tx ta row mo:Int}(h:1<=tx/\tx<=60)(f:1<=ta/\ta<=3)(d: -1<=row/\row<=1000)(g:1<=mo/\mo<=4)(e:row<0∨3<=mo):l9 ⟨tx,ta,row,mo⟩=true:=by
 unfold l9;simp only[O4,tB,r8,T2];exact⟨⟨⟨⟨h,f⟩,d⟩,g⟩,e⟩
structure LokR(ta row mo:Int):Prop where
 a:1<=ta/\ta<=3
 b: -1<=row/\row<=1000
 c:1<=mo/\mo<=4
 d:row<0∨3<=mo
theorem x8{e:Eng}(h:EI e){k:Nat}(f:k<e.X.length){ta row mo:Int}(r:LokR ta row mo):EI (N7 e k ta row mo):=by
 have i:=h.h.id k f;have n:=h.h.nxr;exact⟨h.g,h.up,c7l h.h (c5L (c7q h.h) (b8T Z9 r.a r.b r.c r.d) ⟨k,f,rfl⟩)⟩
def kepA(L:List Rec)(g s:Int):Nat->Int->Bool
 |0,_=>false
 |f+1,a=>if a<=0 then false else if(X8 L a).k=3 then kepA L g s f (X8 L a).n else if(X8 L a).k=2/\(X8 L a).g=g/\(X8 L a).s=s then true else kepA L g s f (X8 L a).p
def sL(e:Eng)(tx g s:Int)(i:Nat):Bool:= !((e.X.getD i dz).id==tx)&&kepA e.s.L g s 61 (e.X.getD i dz).Z
def uT(e:Eng)(tx g s:Int):Bool:=anyI e.X.length (sL e tx g s)
structure Plc where
 a:Int
 b:Int
 c:Int
 d:Int
 deriving Inhabited
def u3(t:Bz)(ta id:Int):Bool:=(xQ t).2.2&&((xQ t).1==ta)&&((xQ t).2.1.id==id)
def w7(e:Eng)(tx ta id:Int)(no:Nat)(p:Pg)(A:Plc):Nat->Plc
 |0=>A
 |i+1=>let B:=w7 e tx ta id no p A i
  if p.sl.getD i []=[] then(if B.c<0/\uT e tx no i=false then⟨B.a,B.b,no,i⟩ else B)
  else if u3 (p.sl.getD i []) ta id=true/\B.a<0 then⟨no,i,B.c,B.d⟩ else B
def T0(e:Eng)(tx ta id:Int):Nat->Sto×Plc×Bool
 |0=>(e.s,⟨-1,-1,-1,-1⟩,true)
 |n+1=>if(T0 e tx ta id n).2.2=true then
   (if(Z4 (T0 e tx ta id n).1 n).2.2=true then((Z4 (T0 e tx ta id n).1 n).1,w7 e tx ta id n ((Z4 (T0 e tx ta id n).1 n).1.fr.getD (Z4 (T0 e tx ta id n).1 n).2.1 dz).pg (T0 e tx ta id n).2.1 4,true) else((Z4 (T0 e tx ta id n).1 n).1,(T0 e tx ta id n).2.1,false))
  else T0 e tx ta id n
def b9Q(A:Plc):Prop:=(A.a= -1∨(0<=A.a/\A.a<=7/\0<=A.b/\A.b<=3))/\(A.c= -1∨(0<=A.c/\A.c<=7/\0<=A.d/\A.d<=3))
theorem b30{e:Eng}{tx ta id:Int}{no:Nat}{p:Pg}{A:Plc}(N:no<8)(h:b9Q A):∀n,n<=4->b9Q (w7 e tx ta id no p A n)
 |0,_=>h
 |n+1,hn4=>by
  have i:=b30 (e:=e) (tx:=tx) (ta:=ta) (id:=id) (p:=p) N h n Z9
  unfold w7;dsimp only;split
  ·split
   ·exact⟨i.1,.inr ⟨X0,X0,X0,X0⟩⟩
   ·exact i
  ·split
   ·exact⟨.inr ⟨X0,X0,X0,X0⟩,i.2⟩
   ·exact i
theorem g8{e:Eng}(h:GInv e.s)(tx ta id:Int):∀n,n<=8->GInv (T0 e tx ta id n).1/\(T0 e tx ta id n).1.L=e.s.L/\(T0 e tx ta id n).2.2=true/\b9Q (T0 e tx ta id n).2.1
 |0,_=>⟨h,rfl,rfl,.inl rfl,.inl rfl⟩
 |n+1,hn=>by
  obtain⟨f,d,j,g⟩:=g8 h tx ta id n Z9
  obtain⟨⟨F,l,o,f4⟩,i⟩:=x1 f (no:=n) Z9
  unfold T0;rw[if_pos j,if_pos i];exact⟨F,f4.1.trans d,rfl,b30 Z9 g 4 (V8 _)⟩
def L4(g s:Int)(b a:Bz):Rec:=⟨0,0,0,2,0,0,g,s,b,a⟩
def vC(e:Eng)(k:Nat)(r:Rec):Eng×Bool:=(R5 (y7 e k r) (R6 (y7 e k r).s (T1 e.s (M2 e k r))).1,(R6 (y7 e k r).s (T1 e.s (M2 e k r))).2)
def uZ(e:Eng)(k:Nat)(g s:Int)(b a:Bz):Eng×Int:=if(e.s.L.length:Int)+1+i5 e+1>60 then(e,7) else
 if(vC e k (L4 g s b a)).2=true then((vC e k (L4 g s b a)).1,0) else(b5I (vC e k (L4 g s b a)).1,15)
theorem a1I{e:Eng}(h:EI e){k:Nat}(d:k<e.X.length){g s:Int}{b a:Bz}(i:0<=g/\g<=7)(f:0<=s/\s<=3)(B:b.length<=30)(A:a.length<=30)(R:e.s.L.length+i5 e+2<=60):
  EI (vC e k (L4 g s b a)).1/\(vC e k (L4 g s b a)).2=true:=by
 have hR:C8 (T1 e.s (M2 e k (L4 g s b a))):=h.rcp d a4m a4O (λ_=>rfl) (λe _=>absurd rfl e) ⟨Int.le_refl _,mO⟩ i f ⟨B,A⟩ (λe=>dM)
 have j:=h.app d hR;have n:=vZ e k (L4 g s b a);have N:a69 e.s.L (e.X.getD k dz) (T1 e.s (M2 e k (L4 g s b a)))=1+und e.s.L 61 (e.X.getD k dz).Z:=by
  unfold a69;rw[if_neg (by show ¬ (2:Int)=3;decide),if_pos (show(T1 e.s (M2 e k (L4 g s b a))).k=2 from rfl)]
 have R:e.s.L.length+w8 e.s.L e.X e.X.length+2<=60:=R;obtain⟨q,_,_⟩:=c4S (x:=T1 e.s (M2 e k (L4 g s b a))) h.h d ⟨hR,Z8⟩ (by show(2:Int)<=3;decide) (λe=>dM) (by rw[N];omega)
 obtain⟨l,c2,C,_⟩:=b4T j (r:=T1 e.s (M2 e k (L4 g s b a))) ⟨i.1,a9S⟩ ⟨f.1,a9M⟩ ⟨b4K,by show(e.s.L.length:Int)+1<=_;rw[n];exact Int.le_refl _⟩ A
 refine⟨⟨l,h.up,?_⟩,c2⟩
 show EH (R6 (y7 e k (L4 g s b a)).s (T1 e.s (M2 e k (L4 g s b a)))).1.L _ _ _;rw[C];exact q
def H7(v:Val):Bz:=if v.k=0 then[1] else if v.k=1 then 2::F8 (v.n+1000000000).toNat else 3::(v.t++[0])
def E6(ta:Int)(r:Rw):Bz:=H7 ⟨1,ta,[]⟩++H7 ⟨1,r.id,[]⟩++H7 r.n++H7 r.name
def m4(e:Eng)(A:Plc)(s:Sto):Sto×Bz:=((Z4 s A.a.toNat).1,((Z4 s A.a.toNat).1.fr.getD (Z4 s A.a.toNat).2.1 dz).pg.sl.getD A.b.toNat [])
theorem sI{e:Eng}{s:Sto}{A:Plc}(h:GInv s)(j:0<=A.a/\A.a<=7/\0<=A.b/\A.b<=3):GInv (m4 e A s).1/\(m4 e A s).1.L=s.L/\(m4 e A s).2.length<=30/\(Z4 s A.a.toNat).2.2=true/\(Z4 s A.a.toNat).2.1<(Z4 s A.a.toNat).1.fr.length/\((Z4 s A.a.toNat).1.fr.getD (Z4 s A.a.toNat).2.1 dz).pg.sl.length=4:=by
 obtain⟨⟨F,f,l,f4⟩,g⟩:=x1 h (no:=A.a.toNat) Z9
 obtain⟨_,_,⟨_,_,d,i⟩,_⟩:=F.fp _ f;exact⟨F,f4.1,i A.b.toNat (by rw[d];omega),g,f,d⟩
theorem GInv.B{s:Sto}(h:GInv s):b5G s:=by
 have j:=h.dg.n69;have f:=h.dg.kp;have n:=h.ca;have g:=h.l60;have l:=h.fr3;have key:∀r ∈ s.L,r.a.length<=38:=λr R=>by
  obtain⟨i,hi,e⟩:=List.getElem_of_mem R;have d:s.L.getD i dz=r:=by rw[R2,J4 hi,e];rfl
  have:=(b6W (D2.1 h.rc i hi).1).2;rw[d] at this;exact this
 refine⟨⟨nO,nO,nO⟩,?_,⟨nO,λi hi=>?_⟩,λr R=>by have:=key r R;unfold M1;omega⟩
 ·exact⟨Z9,λr R=>by have:=key r R;omega⟩
 ·have:=(h.fp i hi).2.2.1.2.2.1;unfold PgB M1;omega
theorem a0e{e:Eng}(h:EI e):e.lk.H.length<=60/\e.lk.W.length<=100/\e.X.length<=10:=by
 obtain⟨_,_,a,b,_⟩:=zE.1 h.h.lks;exact⟨a,b,h.h.t10⟩
theorem b1F{e:Eng}(h:EI e):cY e:=by
 obtain⟨a,b,c⟩:=a0e h;exact⟨h.g.B,⟨nO,nO⟩,nO⟩
theorem qL{e:Eng}(h:EI e):yH e:=⟨h.h.li.1,h.h.t10,λi hi=>(yQ (h.h.ow i hi)).2⟩
def c6S(s:Sto)(n:Nat)(p:Pg):Prop:=(∃i,i<s.fr.length/\(s.fr.getD i dz).no=(n:Int)/\(s.fr.getD i dz).pg=p)∨((∀i,i<s.fr.length->(s.fr.getD i dz).no≠(n:Int))/\(U2 s.d n).1=p)
def wB(s:Sto)(n:Nat):Pg:=if 0<=frAt s.fr n then(s.fr.getD (frAt s.fr n).toNat dz).pg else(U2 s.d n).1
theorem b0r(s:Sto)(n:Nat):c6S s n (wB s n):=by
 unfold wB;split
 ·rename_i h;exact .inl ⟨_,uK h,iJ h,rfl⟩
 ·rename_i h;exact .inr ⟨λi hi=>nV h hi,rfl⟩
theorem a4L{s:Sto}(h:GInv s){n:Nat}{p:Pg}(hp:c6S s n p):wB s n=p:=by
 rcases hp with⟨i,hi,hn,hp⟩|⟨h1,hp⟩
 ·have:=b0n hi h.nd;rw[hn] at this;unfold wB;rw[this,if_pos Z9,G2]
  exact hp
 ·unfold wB;rw[if_neg (λhc=>h1 _ (uK hc) (iJ hc))]
  exact hp
theorem b79{s:Sto}{l:Int}(h:GInv s)(hl:l<=s.L.length){n:Nat}(N:n<8):U1 (W4 s l).1.d (1+n)=U1 s.d (1+n):=by
 by_cases e:l<=s.S
 ·rw[k5 e]
 ·have hF:=h.inv.flu hl;have u:=h.su;obtain⟨f,g⟩:=a6X h.dg h.rc hF (M3 s l) (V8 _);obtain⟨_,_,_,Y⟩:=a1K f;rw[zX e];show U1 (U6 (qQ s (M3 s l))).1 (1+n)=_;rw[Y _ Z9,g _ Z9,if_neg Z9]
theorem b9D{d:Dsk}(h:DG d){n:Nat}(N:n<69):U1 (xX d).1 n=U1 d n:=by
 by_cases C:500<=d.C.length
 ·rw[sA C];exact(a1K h).2.2.2 n N
 ·rw[pL C]
theorem c4w{s:Sto}{k:Nat}(h:GInv s)(f:k<s.fr.length){n:Nat}(N:n<8)(i:(s.fr.getD k dz).no≠(n:Int)):(U2 (X3 s k).1.d n).1=(U2 s.d n).1:=by
 cases hd:(s.fr.getD k dz).D with
 |false=>rw[uX hd]
 |true=>
  obtain⟨_,_,_,f4,_⟩:=h.fp k f;obtain⟨g,e,_⟩:=a5p h f4;obtain⟨_,Y⟩:=b8b g;have r:=(vJ s (s.fr.getD k dz).pg.Q).1;rw[fT hd e Y];refine congrArg Prod.fst (y8 ?_).1
  show U1 (wrD _ _ _) (1+n)=_;rw[gJ,if_neg (by
   show ¬ (1+((W4 s (s.fr.getD k dz).pg.Q).1.fr.getD k dz).no=((1+n:Nat):Int));rw[r];omega)]
  show U1 (xX (W4 s (s.fr.getD k dz).pg.Q).1.d).1 (1+n)=_;rw[b9D g.dg Z9,b79 h f4 N]
theorem c5d{s:Sto}{k:Nat}(h:GInv s)(e:k<s.fr.length){n:Nat}(j:n<8):wB (X3 s k).1 n=wB s n:=by
 obtain⟨⟨g,le,N,_⟩,_⟩:=b78 h e;refine a4L g ?_
 rcases b0r s n with⟨i,hi,d,f⟩|⟨d,f⟩
 ·exact .inl ⟨i,Z9,by rw[(N i).1];exact d,by rw[(N i).2];exact f⟩
 ·exact .inr ⟨λi hi=>by rw[(N i).1];exact d i Z9,by rw[c4w h e j (d k e)];exact f⟩
theorem a0M{s:Sto}{no:Nat}(h:GInv s)(O:no<8){n:Nat}(r:n<8):wB (Z4 s no).1 n=wB s n:=by
 have gf:=(x1 h O).1.g;by_cases hc:0<=frAt s.fr no
 ·rw[(rS 0 hc).1]
 ·have hq:=λi hi=>nV (i:=i) hc hi
  have t:=h.hd;by_cases h3:s.fr.length=3
  ·have hk:s.J.toNat<s.fr.length:=by omega
   have op:=c5d h hk r;obtain⟨⟨g,le,N,cl,_⟩,u⟩:=b78 h hk;rw[(vR 0 hc h3 u).1] at gf ⊢;rw[←op];have l:s.J.toNat<(X3 s s.J.toNat).1.fr.length:=Z9
   refine a4L gf ?_
   generalize (X3 s s.J.toNat).1=a at*;have eG:=λi=>qX (B1 no (U2 a.d no).1) i l
   have L:(a.fr.set s.J.toNat (B1 no (U2 a.d no).1)).length=a.fr.length:=yT;rcases b0r a n with⟨i,hi,f,h2⟩|⟨f,h2⟩
   ·by_cases e:i=s.J.toNat
    ·subst e;refine .inr ⟨λj hj=>?_,?_⟩
     ·have hj:j<(a.fr.set s.J.toNat (B1 no (U2 a.d no).1)).length:=hj;show((a.fr.set s.J.toNat (B1 no (U2 a.d no).1)).getD j dz).no≠_;rw[eG];split
      ·intro e;have e:((no:Nat):Int)=n:=e;exact hq s.J.toNat hk (by rw[← (N s.J.toNat).1,f,e])
      ·rename_i q;intro e;exact q (g.nd j s.J.toNat Z9 l (by rw[e,f]))
     ·show(U2 a.d n).1=_;have:=g.cl s.J.toNat l cl;rw[f,G2] at this;rw[this,h2]
    ·exact .inl ⟨i,by show i<(a.fr.set s.J.toNat (B1 no (U2 a.d no).1)).length;omega,by show((a.fr.set s.J.toNat (B1 no (U2 a.d no).1)).getD i dz).no=_;rw[eG,if_neg e];exact f,by show((a.fr.set s.J.toNat (B1 no (U2 a.d no).1)).getD i dz).pg=_;rw[eG,if_neg e];exact h2⟩
   ·by_cases e:n=no
    ·subst e;exact .inl ⟨s.J.toNat,by show s.J.toNat<(a.fr.set s.J.toNat (B1 n (U2 a.d n).1)).length;omega,by show((a.fr.set s.J.toNat (B1 n (U2 a.d n).1)).getD s.J.toNat dz).no=_;rw[eG,if_pos rfl];rfl,by show((a.fr.set s.J.toNat (B1 n (U2 a.d n).1)).getD s.J.toNat dz).pg=_;rw[eG,if_pos rfl];exact h2⟩
    ·refine .inr ⟨λj hj=>?_,h2⟩
     have hj:j<(a.fr.set s.J.toNat (B1 no (U2 a.d no).1)).length:=hj;show((a.fr.set s.J.toNat (B1 no (U2 a.d no).1)).getD j dz).no≠_;rw[eG];split
     ·intro o;have o:((no:Nat):Int)=n:=o;omega
     ·exact f j Z9
  ·rw[(qY 0 hc h3).1] at gf ⊢;refine a4L gf ?_
   have eG:=λi hi=>tV dz s.fr (B1 no (U2 s.d no).1) i hi
   have L:(s.fr++[B1 no (U2 s.d no).1]).length=s.fr.length+1:=W8
   rcases b0r s n with⟨i,hi,f,h2⟩|⟨f,h2⟩
   ·exact .inl ⟨i,by show i<(s.fr++[B1 no (U2 s.d no).1]).length;omega,by show((s.fr++[B1 no (U2 s.d no).1]).getD i dz).no=_;rw[eG i Z9,if_neg Z9];exact f,by show((s.fr++[B1 no (U2 s.d no).1]).getD i dz).pg=_;rw[eG i Z9,if_neg Z9];exact h2⟩
   ·by_cases e:n=no
    ·subst e;exact .inl ⟨s.fr.length,by show s.fr.length<(s.fr++[B1 n (U2 s.d n).1]).length;omega,by show((s.fr++[B1 n (U2 s.d n).1]).getD s.fr.length dz).no=_;rw[eG _ Z9,if_pos rfl];rfl,by show((s.fr++[B1 n (U2 s.d n).1]).getD s.fr.length dz).pg=_;rw[eG _ Z9,if_pos rfl];exact h2⟩
    ·refine .inr ⟨λj hj=>?_,h2⟩
     have hj:j<(s.fr++[B1 no (U2 s.d no).1]).length:=hj;show((s.fr++[B1 no (U2 s.d no).1]).getD j dz).no≠_;rw[eG j Z9]
     split
     ·intro o;have o:((no:Nat):Int)=n:=o;omega
     ·exact f j Z9
theorem sM{s:Sto}{no:Nat}(h:GInv s)(o:no<8):((Z4 s no).1.fr.getD (Z4 s no).2.1 dz).pg=wB s no:=by
 obtain⟨⟨g,d,n,_⟩,_⟩:=x1 h o;rw[←a0M h o o];exact(a4L g (.inl ⟨_,d,n,rfl⟩)).symm
theorem c4W{s:Sto}{r:Rec}(h:GInv s)(q:0<=r.g/\r.g<8)(s0:0<=r.s/\r.s<4)(L:1<=r.l/\r.l<=s.L.length)(o:r.a.length<=30){n:Nat}(f:n<8):
  wB (R6 s r).1 n=if n=r.g.toNat then⟨r.l,(wB s n).sl.set r.s.toNat r.a⟩ else wB s n:=by
 have x:=(b4T h q s0 L o).1;obtain⟨⟨g,j,no,_⟩,u⟩:=x1 h (no:=r.g.toNat) Z9
 have hi:=sM h (no:=r.g.toNat) Z9
 have hp:=a0M h (no:=r.g.toNat) Z9 f
 have e:R6 s r=(b54 (Z4 s r.g.toNat).1 (Z4 s r.g.toNat).2.1 r,true):=if_pos u;rw[e] at x ⊢;refine a4L x ?_
 generalize Z4 s r.g.toNat=A at*;obtain⟨a,k,up⟩:=A;dsimp only at*;have d:=λi=>qX (vW (a.fr.getD k dz) r) i j
 have t:(a.fr.set k (vW (a.fr.getD k dz) r)).length=a.fr.length:=yT;have N:∀i,((a.fr.set k (vW (a.fr.getD k dz) r)).getD i dz).no=(a.fr.getD i dz).no:=λi=>by
  rw[d];split
  ·rename_i e;rw[e];rfl
  ·rfl
 by_cases hc:n=r.g.toNat
 ·rw[if_pos hc];refine .inl ⟨k,by show k<(a.fr.set k _).length;omega,?_,?_⟩
  ·show((a.fr.set k (vW (a.fr.getD k dz) r)).getD k dz).no=_;rw[N,no,hc]
  ·show((a.fr.set k (vW (a.fr.getD k dz) r)).getD k dz).pg=_;rw[d,if_pos rfl];show(⟨r.l,(a.fr.getD k dz).pg.sl.set r.s.toNat r.a⟩:Pg)=_;rw[hi,hc]
 ·rw[if_neg hc,←hp];rcases b0r a n with⟨i,hi,h1,h2⟩|⟨h1,h2⟩
  ·have e:i≠k:=λe=>by
    rw[e,no] at h1;omega
   exact .inl ⟨i,by show i<(a.fr.set k _).length;omega,by show((a.fr.set k _).getD i dz).no=_;rw[N];exact h1,by show((a.fr.set k _).getD i dz).pg=_;rw[d,if_neg e];exact h2⟩
  ·exact .inr ⟨λi hi=>by
    have hi:i<(a.fr.set k (vW (a.fr.getD k dz) r)).length:=hi;show((a.fr.set k _).getD i dz).no≠_;rw[N];exact h1 i Z9,h2⟩
def vw(s:Sto)(n i:Nat):Bz:=if n<8 then(wB s n).sl.getD i [] else[]
def lQ(g s:Nat)(a:Bz)(S:Nat->Nat->Bz)(n i:Nat):Bz:=if n=g/\i=s then a else S n i
def unV(L:List Rec)(to:Int):Nat->Int->(Nat->Nat->Bz)->Nat->Nat->Bz
 |0,_,S=>S
 |f+1,a,S=>if a<=to then S else if(X8 L a).k=3 then unV L to f (X8 L a).n S else unV L to f (X8 L a).p (if(X8 L a).k=2 then lQ (X8 L a).g.toNat (X8 L a).s.toNat (X8 L a).b S else S)
theorem eD{s:Sto}{no:Nat}(h:GInv s)(o:no<8):vw (Z4 s no).1=vw s:=by
 funext n i
 unfold vw;by_cases N:n<8
 ·rw[if_pos N,if_pos N,a0M h o N]
 ·rw[if_neg N,if_neg N]
theorem c78{s:Sto}{n:Nat}(h:GInv s)(N:n<8):(wB s n).sl.length=4:=by
 obtain⟨⟨F,f,_,_⟩,_⟩:=x1 h N;obtain⟨_,_,⟨_,_,d,_⟩,_⟩:=F.fp _ f;rw[sM h N] at d;exact d
theorem b5B{s:Sto}{r:Rec}(h:GInv s)(g0:0<=r.g/\r.g<8)(s0:0<=r.s/\r.s<4)(l0:1<=r.l/\r.l<=s.L.length)(ha:r.a.length<=30):vw (R6 s r).1=lQ r.g.toNat r.s.toNat r.a (vw s):=by
 funext n i
 unfold lQ vw;by_cases hn:n<8
 ·rw[if_pos hn,if_pos hn,c4W h g0 s0 l0 ha hn];by_cases hg:n=r.g.toNat
  ·rw[if_pos hg];have h4:=c78 h hn;dsimp only;by_cases hi:i=r.s.toNat
   ·rw[if_pos ⟨hg,hi⟩,hi,R2,j_j Z9]
    rfl
   ·rw[if_neg (λC=>hi C.2),R2,j_k (Ne.symm hi),←R2]
  ·rw[if_neg hg,if_neg (λC=>hg C.1)]
 ·rw[if_neg hn,if_neg hn,if_neg Z9]
theorem c5h{s:Sto}{l:Int}(h:GInv s)(hl:l<=s.L.length):vw (W4 s l).1=vw s:=by
 funext n i
 unfold vw wB;by_cases N:n<8
 ·rw[if_pos N,if_pos N,(vJ s l).1,(y8 (b79 h hl N)).1]
 ·rw[if_neg N,if_neg N]
structure UndV(e:Eng)(k:Nat)(u:(Eng×Nat)×Bool)(to a:Int):Prop where
 v:vw u.1.1.s=unV e.s.L to 61 a (vw e.s)
 b:unV u.1.1.s.L 0 61 (u.1.1.X.getD k dz).Z (vw u.1.1.s)=unV e.s.L 0 61 a (vw e.s)
 i:(u.1.1.X.getD k dz).id=(e.X.getD k dz).id
end
end Go.Proofs.YtlbmgnomkjmafaaGreat
