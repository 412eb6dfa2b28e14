/- A part of the proof. -/
import Derived.Test.YtghgljelnhfihaaGreatU32U33U34U35U36U37
import Derived.Test.YtghgljelnhfihaaGreatZ3eY13eZ4e
namespace Go.Proofs.YtghgljelnhfihaaGreat
open Go.SS

def LI(L:List Rec):Prop:=q8 L/\∀a:Int,1<=a->a<=L.length->(Z3 L a).k<=3->((Z3 L a).p=0∨ownR L (Z3 L a).p (Z3 L a).t=true)/\((Z3 L a).k=3->ownR L (Z3 L a).n (Z3 L a).t=true)
def InT(T:List Txn)(x:Int):Prop:=∃j,j<T.length/\(T.getD j dz).id=x
structure EH(L:List Rec)(T:List Txn)(lk:Lks)(nx:Int):Prop where
 li:LI L
 t10:T.length<=10
 nxr:1<=nx/\nx<=61
 lks:K0 lk=true
 id:∀i,i<T.length->1<=(T.getD i dz).id/\(T.getD i dz).id<=nx-1
 asc:∀i j,i<j->j<T.length->(T.getD i dz).id<(T.getD j dz).id
 ow:∀i,i<T.length->ownR L (T.getD i dz).Z (T.getD i dz).id=true
 hd:∀i,i<lk.H.length->InT T (lk.H.getD i dz).tx
 wt:∀i,i<lk.W.length->InT T (lk.W.getD i dz).tx/\InT T (lk.W.getD i dz).fo
 rm:L.length+A0 L T T.length<=60
structure EI(e:Eng):Prop where
 g:GInv e.s
 up:e.up=true
 h:EH e.s.L e.X e.lk e.N
theorem jY{L:List Rec}(x:Rec){a:Int}(h1:1<=a)(h:a<=L.length):Z3 (L++[x]) a=Z3 L a:=by
 unfold Z3;rw[P8,tX (by omega),←P8]
theorem wB(L:List Rec)(x:Rec):Z3 (L++[x]) ((L.length:Int)+1)=x:=by
 unfold Z3;rw[show((L.length:Int)+1-1).toNat=L.length by omega,P8,List.getElem?_concat_length]
 rfl
theorem d6{L:List Rec}{x:Rec}{a id:Int}(h:ownR L a id=true):ownR (L++[x]) a id=true:=by
 obtain⟨h1,h2⟩:=t5 h;unfold ownR at h ⊢;rw[jY x h1 h2];simp only[L3,Q1,K6,List.length_singleton] at h ⊢;obtain⟨⟨h3,h4⟩,h5⟩:=h;exact⟨⟨by omega,h4⟩,h5⟩
theorem a6k{L:List Rec}{x:Rec}(hk:1<=x.k/\x.k<=3):ownR (L++[x]) ((L.length:Int)+1) x.t=true:=by
 unfold ownR;rw[wB];simp only[L3,Q1,K6,List.length_singleton,beq_self_eq_true];exact⟨⟨by omega,trivial⟩,hk⟩
theorem b2k{L:List Rec}{a id:Int}(h:ownR L a id=true):(Z3 L a).t=id/\1<=(Z3 L a).k/\(Z3 L a).k<=3:=by
 unfold ownR at h;simp only[L3,Q1,beq_iff_eq] at h;exact⟨h.1.2,h.2⟩
theorem a4t{L:List Rec}{x:Rec}(h:LI L)(hp:F8 x)(hl:x.l=(L.length:Int)+1)(hx:x.k<=3->(x.p=0∨ownR L x.p x.t=true)/\(x.k=3->ownR L x.n x.t=true)):LI (L++[x]):=by
 have h60:x.l<=60:=hp.2.2.2.1;have e:(L++[x]).length=L.length+1:=by simp
 refine⟨⟨by omega,λi hi=> ?_⟩,λa h1 h2 h3=> ?_⟩
 ·rw[yQ dz L x i (by omega)]
  by_cases hi':i=L.length
  ·rw[if_pos hi'];exact⟨hp,by omega⟩
  ·rw[if_neg hi'];exact h.1.2 i (by omega)
 ·by_cases ha:a<=L.length
  ·rw[jY x h1 ha] at h3 ⊢;obtain⟨b1,b2⟩:=h.2 a h1 ha h3;exact⟨b1.imp id d6,λhk=>d6 (b2 hk)⟩
  ·have:a=(L.length:Int)+1:=by omega
   subst this;rw[wB] at h3 ⊢;obtain⟨b1,b2⟩:=hx h3;exact⟨b1.imp id d6,λhk=>d6 (b2 hk)⟩
theorem b1A{L:List Rec}(h:LI L){id:Int}:∀(f:Nat) (a:Int),a.toNat<f->(a<=0∨ownR L a id=true)->chn L id f a=true
 |0,_,hf,_=>absurd hf (J5 _)
 |f+1,a,hf,ha=>by
  unfold chn;rcases ha with ha|ha
  ·rw[pO ha];rfl
  ·obtain⟨h1,h2⟩:=t5 ha;obtain⟨t1,t2,t3⟩:=b2k ha;obtain⟨p1,p2,p3,p4⟩:=h.1.prev h1 h2;obtain⟨b1,b2⟩:=h.2 a h1 h2 t3;rw[t1] at b1 b2;have hc:chn L id f (Z3 L a).p=true:=b1A h f _ (by omega) (b1.imp (λe=>by omega) λe=>e)
   rw[hc,Bool.and_true];have ho:okR L id a=true:=by
    unfold okR;rw[ha,Bool.true_and];by_cases hk:(Z3 L a).k=3
    ·rw[b2 hk,Bool.or_true]
    ·rw[show((Z3 L a).k !=3)=true by simpa using hk];rfl
   rw[ho,Bool.or_true]
theorem c1O{L:List Rec}(h:LI L){t:Txn}(ho:ownR L t.Z t.id=true):sN L t=true:=by
 obtain⟨h1,h2⟩:=t5 ho;have:=h.1.1;unfold sN;rw[Q1.2 ⟨h1,h2⟩,Bool.true_and];exact b1A h 61 _ (by omega) (.inr ho)
theorem cC{T:List Txn}{x:Int}(h:InT T x):¬U4 T x<0:=λhn=>by
 obtain⟨j,hj,e⟩:=h;have h1:=A5 T.length (C9 T x);have h2:anyI T.length (C9 T x)=true:=Q9.2 ⟨j,hj,by unfold C9;rw[e];exact beq_self_eq_true x⟩
 rw[h2] at h1;have:=C7 h1;have h3:P9 T.length (C9 T x)<0:=hn;omega
theorem EI.r{e:Eng}(h:EI e):uW e=true:=by
 obtain⟨_,hu,li,t10,nx,lk,id,asc,ow,hd,wt,rm⟩:=h;unfold uW xY upE;rw[if_pos hu];simp only[L3,k4,Q1,xP];refine⟨⟨⟨t10,nx⟩,lk⟩,⟨⟨?_,?_⟩,?_⟩,rm⟩
 ·refine Q8.2 λi hi=> ?_
  unfold D1;simp only[yP,yT,Bool.and_eq_false_iff,rX,Q1];refine⟨⟨id i hi,?_⟩,c1O li (ow i hi)⟩
  by_cases h0:i=0
  ·exact .inl (by omega)
  ·have:=asc (i-1) i (by omega) hi
   exact .inr (by omega)
 ·refine Q8.2 λi hi=> ?_
  unfold yZ;exact uV (cC (hd i hi))
 ·refine Q8.2 λi hi=> ?_
  unfold B2;rw[uV (cC (wt i hi).1),uV (cC (wt i hi).2)];rfl
theorem EI.ok{e:Eng}(h:EI e):N6 e=true:=by
 unfold N6;rw[h.g.ok,h.r];rfl
theorem EI.sm{e:Eng}(h:EI e):y8 e:=by
 have h1:=a30 h.h.lks;have h2:=h.h.t10;exact⟨h.g.sm,by omega,by omega,by omega⟩
theorem EH.at_{L:List Rec}{T:List Txn}{lk:Lks}{nx:Int}(h:EH L T lk nx){k:Nat}(hk:k<T.length):U4 T (T.getD k dz).id=k:=
 M6 hk (by unfold C9;exact beq_self_eq_true _) λj hj=>by
  have:=h.asc j k hj hk;unfold C9;exact beq_eq_false_iff_ne.2 (by omega)
theorem sA{L:List Rec}(hL:q8 L):∀(f g:Nat) (a:Int),a<=L.length->a.toNat<f->a.toNat<g->und L f a=und L g a
 |0,_,_,_,h,_=>absurd h (J5 _)
 |f+1,0,_,_,_,h=>absurd h (J5 _)
 |f+1,g+1,a,ha,h1,h2=>by
  unfold und;by_cases h0:a<=0
  ·rw[if_pos h0,if_pos h0]
  ·obtain⟨p1,p2,p3,p4⟩:=hL.prev (show 1<=a by omega) ha
   rw[if_neg h0,if_neg h0,sA hL f g _ (by omega) (by omega) (by omega),sA hL f g _ (by omega) (by omega) (by omega)]
theorem aB{L:List Rec}{x:Rec}{T:List Txn}(hL:q8 L):∀n,(∀i,i<n->(T.getD i dz).Z<=L.length)->A0 (L++[x]) T n=A0 L T n
 |0,_=>rfl
 |n+1,h=>by
  unfold A0;rw[aB hL n λi hi=>h i (by omega),yG hL 61 _ (h n (by omega))]
theorem vO{T:List Txn}{k:Nat}(t:Txn)(i:Nat)(hk:k<T.length):(T.set k t).getD i dz=if i=k then t else T.getD i dz:=by
 by_cases h:i=k
 ·subst h;rw[if_pos rfl,P8,j_j hk]
  rfl
 ·rw[if_neg h,P8,aP (Ne.symm h),←P8]
theorem b0P{L:List Rec}{T:List Txn}{k:Nat}(t:Txn)(hk:k<T.length):∀n,A0 L (T.set k t) n+(if k<n then und L 61 (T.getD k dz).Z else 0)=A0 L T n+(if k<n then und L 61 t.Z else 0)
 |0=>by rw[if_neg (J5 _),if_neg (J5 _)];rfl
 |n+1=>by
  have ih:=b0P (L:=L) t hk n;unfold A0;rw[vO t n hk];by_cases h:n=k
  ·subst h;rw[if_pos rfl,if_pos (by omega),if_pos (by omega)]
   rw[if_neg (by omega),if_neg (by omega)] at ih
   omega
  ·rw[if_neg h];by_cases h2:k<n
   ·rw[if_pos h2,if_pos h2] at ih;rw[if_pos (by omega),if_pos (by omega)]
    omega
   ·rw[if_neg h2,if_neg h2] at ih;rw[if_neg (by omega),if_neg (by omega)]
    omega
theorem xU{T:List Txn}{k:Nat}(i:Nat)(hk:k<T.length):(T.take k++T.drop (k+1)).getD i dz=T.getD (if i<k then i else i+1) dz:=by
 have hl:(T.take k).length=k:=by rw[List.length_take];omega
 by_cases h:i<k
 ·rw[if_pos h,P8,tX (by omega),List.getElem?_take_of_lt h,←P8]
 ·rw[if_neg h,P8,rK (by omega),hl,List.getElem?_drop,show k+1+(i-k)=i+1 by omega,←P8]
theorem qE{T:List Txn}{k:Nat}(hk:k<T.length):(T.take k++T.drop (k+1)).length=T.length-1:=by
 rw[K6,List.length_take,List.length_drop];omega
theorem b2L{L:List Rec}{T:List Txn}{k:Nat}(hk:k<T.length):∀n,n<T.length->A0 L (T.take k++T.drop (k+1)) n+(if k<=n then 1+und L 61 (T.getD k dz).Z else 0)=A0 L T (if k<=n then n+1 else n)
 |0,_=>by
  by_cases h:k=0
  ·subst h;rw[if_pos (W4 _),if_pos (W4 _)];show 0+_=0+_;rfl
  ·rw[if_neg (by omega),if_neg (by omega)]
   rfl
 |n+1,hn=>by
  have ih:=b2L (L:=L) hk n (by omega)
  have e:A0 L (T.take k++T.drop (k+1)) (n+1)=A0 L (T.take k++T.drop (k+1)) n+(1+und L 61 (T.getD (if n<k then n else n+1) dz).Z):=by
   conv=>lhs;unfold A0
   rw[xU n hk]
  by_cases h:k<=n
  ·rw[if_pos h,if_pos h] at ih;have e1:(if n<k then n else n+1)=n+1:=if_neg (by omega)
   rw[e1] at e;have e3:(if k<=n+1 then n+1+1 else n+1)=n+1+1:=if_pos (by omega)
   have e2:A0 L T (n+1+1)=A0 L T (n+1)+(1+und L 61 (T.getD (n+1) dz).Z):=rfl;rw[e,e3,if_pos (show k<=n+1 by omega)]
   omega
  ·rw[if_neg h,if_neg h] at ih;have e2:A0 L T (n+1)=A0 L T n+(1+und L 61 (T.getD n dz).Z):=rfl;have e1:(if n<k then n else n+1)=n:=if_pos (by omega)
   rw[e1] at e;by_cases h2:k<=n+1
   ·have:k=n+1:=by omega
    subst this;have e3:A0 L T (n+1+1)=A0 L T (n+1)+(1+und L 61 (T.getD (n+1) dz).Z):=rfl;rw[e,if_pos (W4 _),if_pos (W4 _)];omega
   ·rw[e,if_neg h2,if_neg h2];omega
theorem a7h{L:List Rec}{T:List Txn}{k:Nat}(hk:k<T.length):A0 L (T.take k++T.drop (k+1)) (T.take k++T.drop (k+1)).length+(1+und L 61 (T.getD k dz).Z)=A0 L T T.length:=by
 have:=b2L (L:=L) hk (T.length-1) (by omega)
 rw[if_pos (by omega),if_pos (by omega),show T.length-1+1=T.length by omega] at this
 rw[qE hk];exact this
end Go.Proofs.YtghgljelnhfihaaGreat

namespace Go.Proofs.YtghgljelnhfihaaGreat
open Go.SS

theorem dU{α:Type}[Inhabited α](f:α->Bool)(L:List α):∀n,n<=L.length->X9 f L n=(L.take n).filter f
 |0,_=>by rw[List.take_zero];rfl
 |n+1,h=>by
  have e:L.take (n+1)=L.take n++[L.getD n dz]:=by
   rw[List.take_add_one,K7 (by omega),P8,K7 (by omega)]
   rfl
  unfold X9;rw[e,List.filter_append,dU f L n (by omega)]
  by_cases hf:f (L.getD n dz)=true
  ·rw[if_pos hf,List.filter_cons_of_pos hf];rfl
  ·rw[if_neg hf,List.filter_cons_of_neg hf];simp
theorem uQ{α:Type}[Inhabited α](f:α->Bool)(L:List α):X9 f L L.length=L.filter f:=by
 rw[dU f L _ (W4 _),nJ]
def b47(w:Wt):Bool:=V9 w.tx 1 60&&V9 w.fo 1 60&&(w.tx !=w.fo)
def c0y(b a:Lck):Prop:=(uE a b||clash a b)=false
theorem g8{α:Type}[Inhabited α]{L:List α}{i:Nat}(h:i<L.length):L.getD i dz ∈ L:=by
 rw[P8,K7 h]
 exact List.getElem_mem h
theorem yY{α:Type}[Inhabited α]{L:List α}{a:α}(h:a ∈ L):∃i,i<L.length/\L.getD i dz=a:=by
 obtain⟨i,hi,e⟩:=List.mem_iff_getElem.1 h;exact⟨i,hi,by rw[P8,K7 hi];exact e⟩
theorem mI{α:Type}[Inhabited α]{L:List α}{i:Nat}(h:i<L.length):L.getD i dz=L[i]:=by
 rw[P8,K7 h]
 rfl
theorem yF{l:Lks}:K0 l=true↔(∀a ∈ l.H,x9 a=true)/\l.H.Pairwise c0y/\l.H.length<=60/\l.W.length<=100/\∀w ∈ l.W,b47 w=true:=by
 unfold K0;simp only[L3,xP,k4];rw[Q8,Q8,List.pairwise_iff_getElem];refine⟨λ⟨h1,⟨h2,h3⟩,h4⟩=>⟨λa ha=> ?_,λi j hi hj hij=> ?_,h2,h3,λw hw=> ?_⟩,λ⟨h1,h2,h3,h4,h5⟩=>⟨λi hi=> ?_,⟨h3,h4⟩,λi hi=> ?_⟩⟩
 ·obtain⟨i,hi,rfl⟩:=yY ha;have:=h1 i hi;unfold G7 at this;simp only[yP,yT] at this;exact this.1
 ·have:=h1 j hj;unfold G7 at this;simp only[yP] at this;have:=Q8.1 this.2 i hij;unfold d5 at this;rw[mI hj,mI hi] at this;exact this
 ·obtain⟨i,hi,rfl⟩:=yY hw;have:=h4 i hi;unfold G0 at this;unfold b47;simp only[yP,yT] at this;rw[this.1.1,this.1.2]
  simpa using this.2
 ·unfold G7;rw[h1 _ (g8 hi)];simp only[Bool.not_true,Bool.false_or];refine Q8.2 λj hj=> ?_
  unfold d5;rw[mI hi,mI (show j<l.H.length by omega)]
  exact h2 j i (by omega) hi hj
 ·have:=h5 _ (g8 hi);unfold b47 at this;unfold G0;simp only[L3] at this;rw[this.1.1,this.1.2]
  simpa using this.2
theorem b8Y{l:Lks}(h:K0 l=true)(tx:Int):K0 (frK l tx)=true:=by
 obtain⟨h1,h2,h3,h4,h5⟩:=yF.1 h;unfold frK;rw[uQ,uQ];refine yF.2 ⟨λa ha=>h1 a (List.mem_filter.1 ha).1,List.Pairwise.filter _ h2,Nat.le_trans (List.length_filter_le _ _) h3,Nat.le_trans (List.length_filter_le _ _) h4,λw hw=>h5 w (List.mem_filter.1 hw).1⟩
theorem a7b{L:List Rec}{x:Rec}(h:q8 (L++[x])):und (L++[x]) 61 ((L.length:Int)+1)=if x.k=3 then und L 61 x.n else(if x.k=2 then 1 else 0)+und L 61 x.p:=by
 have e:(L++[x]).length=L.length+1:=by simp
 have hL:q8 L:=⟨by have:=h.1;omega,λi hi=>by
  have:=h.2 i (by omega)
  rw[yQ dz L x i (by omega),if_neg (by omega)] at this
  exact this⟩
 obtain⟨p1,p2,p3,p4⟩:=h.prev (at_:=(L.length:Int)+1) (by omega) (by omega)
 rw[wB] at p1 p2 p3 p4;have h60:=h.1;conv=>lhs;unfold und
 rw[if_neg (by omega),wB]
 by_cases hk:x.k=3
 ·rw[if_pos hk,if_pos hk,yG hL 60 _ (by omega),sA hL 60 61 _ (by omega) (by omega) (by omega)]
 ·rw[if_neg hk,if_neg hk,yG hL 60 _ (by omega),sA hL 60 61 _ (by omega) (by omega) (by omega)]
theorem a4S{T:List Txn}{k:Nat}{n x:Int}(hk:k<T.length)(h:InT T x):InT (T.set k ⟨(T.getD k dz).id,n⟩) x:=by
 obtain⟨j,hj,e⟩:=h;refine⟨j,by rw[B1];exact hj,?_⟩
 rw[vO _ j hk];by_cases h:j=k
 ·rw[if_pos h,←e,h]
 ·rw[if_neg h];exact e
structure NewR(L:List Rec)(tn:Txn)(x:Rec):Prop where
 p:F8 x
 l:x.l=(L.length:Int)+1
 t:x.t=tn.id
 pp:x.p=tn.Z
def a17(L:List Rec)(t:Txn)(x:Rec):Nat:=if x.k=3 then und L 61 x.n else(if x.k=2 then 1 else 0)+und L 61 t.Z
theorem b26{L:List Rec}{T:List Txn}{lk:Lks}{nx:Int}{x:Rec}(h:EH L T lk nx){k:Nat}(hk:k<T.length)(hx:NewR L (T.getD k dz) x)(h3:x.k<=3)(hn:x.k=3->ownR L x.n x.t=true)
  (hrm:L.length+1+A0 L T T.length+a17 L (T.getD k dz) x<=60+und L 61 (T.getD k dz).Z):
  EH (L++[x]) (T.set k ⟨(T.getD k dz).id,(L.length:Int)+1⟩) lk nx/\
  A0 (L++[x]) (T.set k ⟨(T.getD k dz).id,(L.length:Int)+1⟩) T.length+und L 61 (T.getD k dz).Z=A0 L T T.length+a17 L (T.getD k dz) x/\
  und (L++[x]) 61 ((L.length:Int)+1)=a17 L (T.getD k dz) x:=by
 obtain⟨hp,hl,ht,hpp⟩:=hx;have hk1:1<=x.k:=hp.2.2.2.2.1;have hli:LI (L++[x]):=a4t h.li hp hl λ_=>⟨.inr (by rw[hpp,ht];exact h.ow k hk),hn⟩
 have hu:=a7b hli.1;rw[hpp] at hu;have hu:und (L++[x]) 61 ((L.length:Int)+1)=a17 L (T.getD k dz) x:=hu;have hlast:∀i,i<T.length->(T.getD i dz).Z<=L.length:=λi hi=>(t5 (h.ow i hi)).2
 have hlen:(T.set k (⟨(T.getD k dz).id,(L.length:Int)+1⟩:Txn)).length=T.length:=B1;have hnd:A0 (L++[x]) (T.set k ⟨(T.getD k dz).id,(L.length:Int)+1⟩) T.length+und L 61 (T.getD k dz).Z=A0 L T T.length+a17 L (T.getD k dz) x:=by
  have e1:=b0P (L:=L++[x]) (T:=T) ⟨(T.getD k dz).id,(L.length:Int)+1⟩ hk T.length;rw[if_pos hk,if_pos hk,aB h.li.1 _ hlast,yG h.li.1 61 _ (hlast k hk),hu] at e1;exact e1
 refine⟨⟨hli,by rw[hlen];exact h.t10,h.nxr,h.lks,λi hi=> ?_,λi j hij hj=> ?_,λi hi=> ?_,λi hi=>a4S hk (h.hd i hi),λi hi=>⟨a4S hk (h.wt i hi).1,a4S hk (h.wt i hi).2⟩,?_⟩,hnd,hu⟩
 ·rw[hlen] at hi;rw[vO _ i hk];by_cases e:i=k
  ·rw[if_pos e];exact h.id k hk
  ·rw[if_neg e];exact h.id i hi
 ·rw[hlen] at hj;have:=h.asc i j hij hj;rw[vO _ i hk,vO _ j hk];by_cases e:i=k
  ·rw[if_pos e,if_neg (by omega)]
   rw[e] at this;exact this
  ·rw[if_neg e];by_cases e2:j=k
   ·rw[if_pos e2];rw[e2] at this;exact this
   ·rw[if_neg e2];exact this
 ·rw[hlen] at hi;rw[vO _ i hk];by_cases e:i=k
  ·rw[if_pos e];have:=a6k (L:=L) (x:=x) ⟨hk1,h3⟩;rw[ht] at this;exact this
  ·rw[if_neg e];exact d6 (h.ow i hi)
 ·rw[hlen];have e:(L++[x]).length=L.length+1:=by simp
  omega
theorem cG{L:List Rec}{T:List Txn}{k:Nat}(hk:k<T.length):1<=A0 L T T.length:=by
 have:=a7h (L:=L) hk;omega
theorem a4C{T:List Txn}{k:Nat}{x:Int}(hk:k<T.length)(h:InT T x)(hx:x≠(T.getD k dz).id):InT (T.take k++T.drop (k+1)) x:=by
 obtain⟨j,hj,e⟩:=h;have hne:j≠k:=λe'=>hx (by rw[←e,e'])
 by_cases hl:j<k
 ·exact⟨j,by rw[qE hk];omega,by rw[xU j hk,if_pos hl];exact e⟩
 ·exact⟨j-1,by rw[qE hk];omega,by rw[xU (j-1) hk,if_neg (by omega),show j-1+1=j by omega];exact e⟩
theorem b9M{L:List Rec}{T:List Txn}{lk:Lks}{nx:Int}{x:Rec}(h:EH L T lk nx){k:Nat}(hk:k<T.length)(hp:F8 x)(hl:x.l=(L.length:Int)+1)(h4:4<=x.k):
  EH (L++[x]) (T.take k++T.drop (k+1)) (frK lk (T.getD k dz).id) nx/\
  (L++[x]).length+A0 (L++[x]) (T.take k++T.drop (k+1)) (T.take k++T.drop (k+1)).length+und L 61 (T.getD k dz).Z=L.length+A0 L T T.length:=by
 have hlen:=qE hk;have e:(L++[x]).length=L.length+1:=by simp
 have hrm:=h.rm;have h1:=cG (L:=L) hk;have hlast:∀i,i<(T.take k++T.drop (k+1)).length->((T.take k++T.drop (k+1)).getD i dz).Z<=L.length:=λi hi=>by
  rw[xU i hk];rw[hlen] at hi;split
  ·exact(t5 (h.ow i (by omega))).2
  ·exact(t5 (h.ow (i+1) (by omega))).2
 have hnd:(L++[x]).length+A0 (L++[x]) (T.take k++T.drop (k+1)) (T.take k++T.drop (k+1)).length+und L 61 (T.getD k dz).Z=L.length+A0 L T T.length:=by
  rw[aB h.li.1 _ hlast,e];have:=a7h (L:=L) hk;omega
 have hlks:=b8Y h.lks (T.getD k dz).id;refine⟨⟨a4t h.li hp hl λhk3=>by omega,by rw[hlen];have:=h.t10;omega,h.nxr,hlks,λi hi=> ?_,λi j hij hj=> ?_,λi hi=> ?_,λi hi=> ?_,λi hi=> ?_,by omega⟩,hnd⟩
 ·rw[hlen] at hi;rw[xU i hk];split
  ·exact h.id i (by omega)
  ·exact h.id (i+1) (by omega)
 ·rw[hlen] at hj;rw[xU i hk,xU j hk];split
  ·split
   ·exact h.asc i j hij (by omega)
   ·exact h.asc i (j+1) (by omega) (by omega)
  ·rw[if_neg (by omega)]
   exact h.asc (i+1) (j+1) (by omega) (by omega)
 ·rw[hlen] at hi;rw[xU i hk];split
  ·exact d6 (h.ow i (by omega))
  ·exact d6 (h.ow (i+1) (by omega))
 ·have hm:=g8 hi;have hm:(frK lk (T.getD k dz).id).H.getD i dz ∈ X9 (hF (T.getD k dz).id) lk.H lk.H.length:=hm;rw[uQ] at hm;obtain⟨m1,m2⟩:=List.mem_filter.1 hm;obtain⟨j,hj,ej⟩:=yY m1;have:=h.hd j hj;rw[ej] at this;refine a4C hk this λe=> ?_
  unfold hF at m2;rw[e] at m2;simp at m2
 ·have hm:=g8 hi;have hm:(frK lk (T.getD k dz).id).W.getD i dz ∈ X9 (wF (T.getD k dz).id) lk.W lk.W.length:=hm;rw[uQ] at hm;obtain⟨m1,m2⟩:=List.mem_filter.1 hm;obtain⟨j,hj,ej⟩:=yY m1;have hw:=h.wt j hj;rw[ej] at hw;unfold wF at m2;simp only[L3,bne_iff_ne,ne_eq] at m2;exact⟨a4C hk hw.1 m2.1,a4C hk hw.2 m2.2⟩
theorem b9X{L:List Rec}{T:List Txn}{lk:Lks}{nx:Int}{x:Rec}(h:EH L T lk nx)(ht9:T.length<=9)(hn:nx<=60)(hrm:L.length+A0 L T T.length+2<=60)(hp:F8 x)(hl:x.l=(L.length:Int)+1)(ht:x.t=nx)(hk:x.k=1):
  EH (L++[x]) (T++[⟨nx,(L.length:Int)+1⟩]) lk (nx+1):=by
 have e:(L++[x]).length=L.length+1:=by simp
 have eT:(T++[(⟨nx,(L.length:Int)+1⟩:Txn)]).length=T.length+1:=by simp
 have hp0:x.p=0:=(hp.2.2.2.2.2.2.2.2.2.2.2.2.2.2.2.2 (by omega)).2.2.2.2.2.2.1 hk
 have hli:LI (L++[x]):=a4t h.li hp hl λ_=>⟨.inl hp0,λe=>by omega⟩
 have hu:=a7b hli.1;rw[if_neg (by omega),if_neg (by omega),hp0,qW (Int.le_refl 0)] at hu
 have at_:∀i,i<T.length+1->(T++[(⟨nx,(L.length:Int)+1⟩:Txn)]).getD i dz=if i=T.length then⟨nx,(L.length:Int)+1⟩ else T.getD i dz:=λi hi=>yQ dz T _ i hi
 have hin:∀y,InT T y->InT (T++[(⟨nx,(L.length:Int)+1⟩:Txn)]) y:=λy ⟨j,hj,ej⟩=>⟨j,by omega,by rw[at_ j (by omega),if_neg (by omega)];exact ej⟩
 have hlast:∀i,i<T.length->(T.getD i dz).Z<=L.length:=λi hi=>(t5 (h.ow i hi)).2
 have hnx:=h.nxr;have hns:∀n,n<=T.length->A0 (L++[x]) (T++[(⟨nx,(L.length:Int)+1⟩:Txn)]) n=A0 (L++[x]) T n:=λn=>by
  induction n with
  |zero=>intro _;rfl
  |succ n ih=>
   intro hn;unfold A0;rw[ih (by omega),at_ n (by omega),if_neg (by omega)]
 refine⟨hli,by omega,by omega,h.lks,λi hi=> ?_,λi j hij hj=> ?_,λi hi=> ?_,λi hi=>hin _ (h.hd i hi),λi hi=>⟨hin _ (h.wt i hi).1,hin _ (h.wt i hi).2⟩,?_⟩
 ·rw[eT] at hi;rw[at_ i hi];by_cases c:i=T.length
  ·rw[if_pos c];dsimp only;omega
  ·rw[if_neg c];have:=h.id i (by omega)
   omega
 ·rw[eT] at hj;rw[at_ i (by omega),at_ j hj,if_neg (by omega)]
  by_cases c:j=T.length
  ·rw[if_pos c];have:=h.id i (by omega)
   dsimp only;omega
  ·rw[if_neg c];exact h.asc i j hij (by omega)
 ·rw[eT] at hi;rw[at_ i hi];by_cases c:i=T.length
  ·rw[if_pos c];have:=a6k (L:=L) (x:=x) (by omega)
   rw[ht] at this;exact this
  ·rw[if_neg c];exact d6 (h.ow i (by omega))
 ·rw[eT,e];unfold A0;rw[hns _ (W4 _),aB h.li.1 _ hlast,at_ T.length (by omega),if_pos rfl]
  dsimp only;omega
end Go.Proofs.YtghgljelnhfihaaGreat

namespace Go.Proofs.YtghgljelnhfihaaGreat
open Go.SS

def phi(e:Eng):Nat:=e.s.L.length+C4 e
theorem a6Y{T:List Txn}{k:Nat}(t:Txn):(T.set k t).take k++(T.set k t).drop (k+1)=T.take k++T.drop (k+1):=by
 rw[List.take_set_of_le (W4 k),List.drop_set_of_lt (Nat.lt_succ_self k)]
theorem EI.rcp{e:Eng}(h:EI e){k:Nat}(hk:k<e.X.length){r:Rec}(h1:r.k≠6)(h2:2<=r.k/\r.k<=5)(h3:r.k≠3->r.n=0)(h4:r.k≠2->r.k≠3->r.g=0/\r.s=0/\r.b=[]/\r.a=[])(h5:0<=r.n/\r.n<=(e.s.L.length:Int))(h6:0<=r.g/\r.g<=7)(h7:0<=r.s/\r.s<=3)(h8:r.b.length<=30/\r.a.length<=30)(h9:r.k=3->r.b=[]):
  F8 (R9 e.s (M3 e k r)):=by
 have he:=h.g.ep;have hid:=h.h.id k hk;have hn:=h.h.nxr;have hl:=t5 (h.h.ow k hk);have hr:=h.h.rm;have hp:=cG (L:=e.s.L) hk;unfold F8 R9 M3;dsimp only;exact⟨he.1,he.2,by omega,by omega,by omega,by omega,by omega,by omega,by omega,by omega,by omega,by omega,by omega,by omega,h8.1,λe=>absurd e h1,λ_=>⟨by omega,by omega,h8.2,h4,h3,h9,⟨λe=>by omega,λe=>by omega⟩⟩⟩
theorem EI.app{e:Eng}(h:EI e){k:Nat}(hk:k<e.X.length){r:Rec}(hr:F8 (R9 e.s (M3 e k r))):GInv (J0 e k r).s:=by
 have hrm:=h.h.rm;have hp:=cG (L:=e.s.L) hk;exact b6P h.g (by omega) ((R7 _).2 hr)
theorem b8c{e:Eng}(h:EI e):EI (H9 e).1:=by
 unfold H9;rw[if_pos h.up];have hr:=h.h.rm;have hn:=h.h.nxr;have ht:=h.h.t10;by_cases h1:e.N>60∨e.X.length=10
 ·rw[if_pos h1];exact h
 ·rw[if_neg h1];by_cases h2:(e.s.L.length:Int)+C4 e+2<=60
  ·rw[if_pos h2];have h2:e.s.L.length+A0 e.s.L e.X e.X.length+2<=60:=by
    have:C4 e=A0 e.s.L e.X e.X.length:=rfl;omega
   have he:=h.g.ep;have ea:(e.X++[(⟨e.N,0⟩:Txn)]).getD e.X.length dz=⟨e.N,0⟩:=by rw[yQ dz _ _ _ (by omega),if_pos rfl]
   have hp:F8 (R9 e.s (M3 (a2s e) e.X.length a2v)):=by
    unfold F8 R9 M3 a2s a2v;dsimp only;rw[ea];dsimp only;exact⟨he.1,he.2,by omega,by show(e.s.L.length:Int)+1<=60;omega,by omega,by omega,by omega,by show(0:Int)<=(e.s.L.length:Int)+1-1;omega,by omega,by show(0:Int)<=(e.s.L.length:Int)+1-1;omega,by omega,by omega,by omega,by omega,S7 _,λe=>by omega,λ_=>⟨by omega,by omega,S7 _,λ_ _=>⟨rfl,rfl,rfl,rfl⟩,λ_=>rfl,λ_=>rfl,⟨λ_=>rfl,λ_=>rfl⟩⟩⟩
   have ht:(R9 e.s (M3 (a2s e) e.X.length a2v)).t=e.N:=by
    show((e.X++[(⟨e.N,0⟩:Txn)]).getD e.X.length dz).id=_;rw[ea]
   have hE:=b9X h.h (by omega) (by omega) h2 hp rfl ht rfl
   have eT:(e.X++[(⟨e.N,0⟩:Txn)]).set e.X.length ⟨((e.X++[(⟨e.N,0⟩:Txn)]).getD e.X.length dz).id,(e.s.L.length:Int)+1⟩=e.X++[⟨e.N,(e.s.L.length:Int)+1⟩]:=by
    rw[ea,List.set_append_right _ _ (W4 _),j_h];rfl
   refine⟨b6P h.g (show e.s.L.length<60 by omega) ((R7 _).2 hp),h.up,?_⟩
   show EH (e.s.L++[R9 e.s (M3 (a2s e) e.X.length a2v)]) ((e.X++[(⟨e.N,0⟩:Txn)]).set e.X.length ⟨((e.X++[(⟨e.N,0⟩:Txn)]).getD e.X.length dz).id,(e.s.L.length:Int)+1⟩) e.lk (e.N+1);rw[eT];exact hE
  ·rw[if_neg h2];exact h
theorem a6e{e:Eng}(h:EI e){k:Nat}(hk:k<e.X.length){r:Rec}(hr:F8 (R9 e.s (M3 e k r)))(h4:4<=r.k){s:Sto}(hs:GInv s)(hl:s.L=(J0 e k r).s.L):
  EI (qU {J0 e k r with s:=s} k)/\phi (qU {J0 e k r with s:=s} k)+und e.s.L 61 (e.X.getD k dz).Z=phi e:=by
 obtain⟨h1,h2⟩:=b9M (x:=R9 e.s (M3 e k r)) h.h hk hr rfl h4;have eT:(e.X.set k ⟨(e.X.getD k dz).id,(e.s.L.length:Int)+1⟩).take k++(e.X.set k ⟨(e.X.getD k dz).id,(e.s.L.length:Int)+1⟩).drop (k+1)=e.X.take k++e.X.drop (k+1):=a6Y _;have eid:((e.X.set k ⟨(e.X.getD k dz).id,(e.s.L.length:Int)+1⟩).getD k dz).id=(e.X.getD k dz).id:=aE hk;have eG:qU {J0 e k r with s:=s} k=⟨s,e.up,e.X.take k++e.X.drop (k+1),frK e.lk (e.X.getD k dz).id,e.N⟩:=by
  show(⟨s,e.up,(e.X.set k ⟨(e.X.getD k dz).id,(e.s.L.length:Int)+1⟩).take k++(e.X.set k ⟨(e.X.getD k dz).id,(e.s.L.length:Int)+1⟩).drop (k+1),frK e.lk ((e.X.set k ⟨(e.X.getD k dz).id,(e.s.L.length:Int)+1⟩).getD k dz).id,e.N⟩:Eng)=_;rw[eT,eid]
 rw[eG];have hl:s.L=e.s.L++[R9 e.s (M3 e k r)]:=hl;refine⟨⟨hs,h.up,by dsimp only;rw[hl];exact h1⟩,?_⟩
 unfold phi C4;dsimp only;rw[hl];exact h2
theorem b9p{e:Eng}(h:EI e)(tx:Int):EI (K9 e tx).1:=by
 unfold K9;by_cases h0:(V4 e tx).2=0
 ·obtain⟨hu,k,e1,hk,hi,ha⟩:=x4 h0;have hR:F8 (R9 e.s (M3 e k a9f)):=h.rcp hk (by decide) (by decide) (λ_=>rfl) (λ_ _=>⟨rfl,rfl,rfl,rfl⟩) ⟨Int.le_refl _,by show(0:Int)<=_;omega⟩ (by decide) (by decide) (by decide) (λ_=>rfl)
  have hG:=h.app hk hR;have hlen:=zK e k a9f;obtain⟨g1,g2,_⟩:=b3Z (l:=((e.s.L.length+1:Nat):Int)) hG (by rw[hlen];exact Int.le_refl _)
  have e2:(oU e k).2=true:=g2;rw[if_pos h0,e1,F5,if_pos e2];exact(a6e h hk hR (by decide) g1 (pZ _ _).2.2.1).1
 ·rw[if_neg h0];exact h
theorem c0d{e:Eng}(h:EI e){k:Nat}(hk:k<e.X.length){a:Int}(ha:ownR e.s.L a (e.X.getD k dz).id=true)(h2:(Z3 e.s.L a).k=2)(hu:und e.s.L 61 (e.X.getD k dz).Z=und e.s.L 61 a):
  (K4 e k (Z3 e.s.L a)).2=true/\EI (K4 e k (Z3 e.s.L a)).1/\(K4 e k (Z3 e.s.L a)).1.X=e.X.set k ⟨(e.X.getD k dz).id,(e.s.L.length:Int)+1⟩/\phi (K4 e k (Z3 e.s.L a)).1=phi e/\
  ((Z3 e.s.L a).p<=0∨ownR (K4 e k (Z3 e.s.L a)).1.s.L (Z3 e.s.L a).p (e.X.getD k dz).id=true)/\
  und (K4 e k (Z3 e.s.L a)).1.s.L 61 ((e.s.L.length:Int)+1)=und (K4 e k (Z3 e.s.L a)).1.s.L 61 (Z3 e.s.L a).p:=by
 obtain⟨a1,a2⟩:=t5 ha;obtain⟨t1,_,_⟩:=b2k ha;have hL:=h.h.li.1;obtain⟨hr,_⟩:=hL.at a1 a2;obtain⟨p1,p2,p3,p4⟩:=hL.prev a1 a2;obtain⟨b1,_⟩:=h.h.li.2 a a1 a2 (by omega)
 rw[t1] at b1;have h60:=hL.1;obtain⟨_,_,_,_,_,_,_,_,_,_,g1,g2,s1,s2,hb,_,h6⟩:=hr;have hp0:(Z3 e.s.L a).p≠0:=λe0=>by have:=(h6 (by omega)).2.2.2.2.2.2.2 e0;omega
 have hop:ownR e.s.L (Z3 e.s.L a).p (e.X.getD k dz).id=true:=b1.resolve_left hp0;have hR:F8 (R9 e.s (M3 e k (x6 (Z3 e.s.L a)))):=h.rcp hk (by unfold x6;dsimp only;omega) (by unfold x6;dsimp only;omega) (λe=>absurd rfl e) (λ_ e=>absurd rfl e) ⟨by show 0<=(Z3 e.s.L a).p;omega,by show(Z3 e.s.L a).p<=_;omega⟩ ⟨g1,by show(Z3 e.s.L a).g<=7;omega⟩ ⟨s1,by show(Z3 e.s.L a).s<=3;omega⟩ ⟨S7 _,hb⟩ (λ_=>rfl)
 have hG:=h.app hk hR;have hlen:=zK e k (x6 (Z3 e.s.L a));have ua:und e.s.L 61 a=1+und e.s.L 61 (Z3 e.s.L a).p:=by
  rw[tU (by omega) (by omega) (by omega),if_pos h2,sA hL _ 61 _ (by omega) (by omega) (by omega)]
 have hn:a17 e.s.L (e.X.getD k dz) (R9 e.s (M3 e k (x6 (Z3 e.s.L a))))=und e.s.L 61 (Z3 e.s.L a).p:=if_pos rfl;have hrm:=h.h.rm;obtain⟨q1,q2,q3⟩:=b26 (x:=R9 e.s (M3 e k (x6 (Z3 e.s.L a)))) h.h hk ⟨hR,rfl,rfl,rfl⟩ (by show(3:Int)<=3;omega) (λ_=>hop) (by rw[hn];omega)
 rw[hn] at q2 q3;obtain⟨c1,c2,c3,_⟩:=b6W hG (r:=nG e k (Z3 e.s.L a)) ⟨g1,by show(Z3 e.s.L a).g<8;omega⟩ ⟨s1,by show(Z3 e.s.L a).s<4;omega⟩ ⟨by show(1:Int)<=(e.s.L.length:Int)+1;omega,by show(e.s.L.length:Int)+1<=_;rw[hlen];exact Int.le_refl _⟩ hb
 have elog:(K4 e k (Z3 e.s.L a)).1.s.L=e.s.L++[R9 e.s (M3 e k (x6 (Z3 e.s.L a)))]:=c3;refine⟨c2,⟨c1,h.up,by rw[elog];exact q1⟩,rfl,?_,.inr (by rw[elog];exact d6 hop),?_⟩
 ·unfold phi C4;rw[elog];show(e.s.L++[_]).length+A0 _ (e.X.set k _) (e.X.set k _).length=_;rw[B1,K6,List.length_singleton];omega
 ·rw[elog,q3,yG hL 61 _ (by omega)]
structure UndP(e:Eng)(k:Nat)(u:(Eng×Nat)×Bool)(to:Int):Prop where
 al:u.2=true
 ei:EI u.1.1
 ln:u.1.1.X.length=e.X.length
 ph:phi u.1.1=phi e
 un:∃a,a<=to/\und u.1.1.s.L 61 (u.1.1.X.getD k dz).Z=und u.1.1.s.L 61 a
theorem a0x{k:Nat}{to:Int}(h0:0<=to):∀(f:Nat) (e:Eng) (v:Nat) (a:Int),a.toNat<f->EI e->k<e.X.length->(a<=0∨ownR e.s.L a (e.X.getD k dz).id=true)->und e.s.L 61 (e.X.getD k dz).Z=und e.s.L 61 a->UndP e k (L8 k to f e v a) to
 |0,_,_,_,hf,_,_,_,_=>absurd hf (J5 _)
 |f+1,e,v,a,hf,h,hk,ha,hu=>by
  by_cases ht:a<=to
  ·rw[vV ht];exact⟨rfl,h,rfl,rfl,a,ht,hu⟩
  ·have ho:ownR e.s.L a (e.X.getD k dz).id=true:=ha.resolve_left (by omega)
   obtain⟨a1,a2⟩:=t5 ho;obtain⟨t1,t2,t3⟩:=b2k ho;have hL:=h.h.li.1;have h60:=hL.1;obtain⟨p1,p2,p3,p4⟩:=hL.prev a1 a2;obtain⟨b1,b2⟩:=h.h.li.2 a a1 a2 t3;rw[t1] at b1 b2;by_cases h3:(Z3 e.s.L a).k=3
   ·rw[aG ht (by omega) h3]
    have ua:und e.s.L 61 a=und e.s.L 61 (Z3 e.s.L a).n:=by
     rw[mJ (by omega) (by omega) h3,sA hL _ 61 _ (by omega) (by omega) (by omega)]
    exact a0x h0 f e v _ (by omega) h hk (.inr (b2 h3)) (hu.trans ua)
   ·by_cases h2:(Z3 e.s.L a).k=2
    ·obtain⟨c1,c2,c3,c4,c5,c6⟩:=c0d h hk ho h2 hu;rw[a0q ht (by omega) h2 c1]
     have el:((K4 e k (Z3 e.s.L a)).1.X.getD k dz)=⟨(e.X.getD k dz).id,(e.s.L.length:Int)+1⟩:=by rw[c3,vO _ k hk,if_pos rfl]
     have r:=a0x h0 f (K4 e k (Z3 e.s.L a)).1 (lQ e k (Z3 e.s.L a) v) (Z3 e.s.L a).p (by omega) c2 (by rw[c3,B1];exact hk) (by rw[el];exact c5) (by rw[el];exact c6)
     have r1:=r.ln;rw[c3,B1] at r1;exact⟨r.al,r.ei,r1,r.ph.trans c4,r.un⟩
    ·rw[aK ht (by omega) h3 h2]
     have ua:und e.s.L 61 a=und e.s.L 61 (Z3 e.s.L a).p:=by
      rw[tU (by omega) (by omega) h3,if_neg h2,G9,sA hL _ 61 _ (by omega) (by omega) (by omega)]
     exact a0x h0 f e v _ (by omega) h hk (b1.imp (λe=>by omega) λe=>e) (hu.trans ua)
theorem a6v{e:Eng}(h:EI e){k:Nat}(hk:k<e.X.length){to:Int}(h0:0<=to):UndP e k (U7 e k to) to:=by
 have ho:=h.h.ow k hk;have h60:=h.h.li.1.1;have:=t5 ho;exact a0x h0 61 e 0 _ (by omega) h hk (.inr ho) rfl
theorem dC{e:Eng}(h:EI e){k:Nat}(hk:k<e.X.length):EI (T4 e k).1.1/\(T4 e k).2=0/\phi (T4 e k).1.1=phi e/\(T4 e k).1.1.X.length+1=e.X.length:=by
 obtain⟨u1,u2,u3,u4,a,u5,u6⟩:=a6v h hk (Int.le_refl 0);have hk':k<(U7 e k 0).1.1.X.length:=by omega
 rw[qW u5] at u6;have hR:F8 (R9 (U7 e k 0).1.1.s (M3 (U7 e k 0).1.1 k wJ)):=u2.rcp hk' (by decide) (by decide) (λ_=>rfl) (λ_ _=>⟨rfl,rfl,rfl,rfl⟩) ⟨Int.le_refl _,by show(0:Int)<=_;omega⟩ (by decide) (by decide) (by decide) (λ_=>rfl)
 obtain⟨g1,g2⟩:=a6e u2 hk' hR (by decide) (u2.app hk' hR) rfl
 have hl:(qU (J0 (U7 e k 0).1.1 k wJ) k).X.length+1=(U7 e k 0).1.1.X.length:=by
  show(((U7 e k 0).1.1.X.set k _).take k++((U7 e k 0).1.1.X.set k _).drop (k+1)).length+1=_;rw[a6Y,qE hk'];omega
 rw[a5X (by rw[pS u1])]
 exact⟨g1,rfl,by have g2:phi (qU (J0 (U7 e k 0).1.1 k wJ) k)+_=_:=g2;dsimp only;omega,by dsimp only;omega⟩
theorem b8s{e:Eng}(h:EI e)(tx:Int):EI (yJ e tx).1.1:=by
 by_cases h0:(V4 e tx).2=0
 ·obtain⟨hu,k,e1,hk,hi,ha⟩:=x4 h0;rw[a2X h0 e1];exact(dC h hk).1
 ·rw[a6u h0];exact h
theorem b8x{e:Eng}(h:EI e)(tx lsn:Int):EI (D4 e tx lsn).1.1:=by
 by_cases h0:(V4 e tx).2=0
 ·obtain⟨hu,k,e1,hk,hi,ha⟩:=x4 h0;cases hc:(V9 lsn 1 (e.X.getD k dz).Z&&(e.s.L.getD (lsn-1).toNat dz).t==tx) with
  |true=>
   rw[b65 h0 e1 hc];have hl1:1<=lsn:=by
    simp only[L3] at hc;exact(sU hc.1).1
   have u:=a6v h hk (show 0<=lsn by omega)
   rw[pS u.al];exact u.ei
  |false=>
   rw[b68 h0 e1 hc];exact h
 ·rw[b6Q h0];exact h
end Go.Proofs.YtghgljelnhfihaaGreat

namespace Go.Proofs.YtghgljelnhfihaaGreat
open Go.SS

def cF(tx:Int)(w:Wt):Bool:=w.tx !=tx
def C0(l:Lks)(tx:Int):Lks:=⟨l.H,X9 (cF tx) l.W l.W.length⟩
def a3K(a b:Int):Bool:=(a==b)||(a==4)||(b==1)
def tC(L:List Lck)(x:Lck)(i:Nat):Bool:=((L.getD i dz).tx==x.tx)&&((L.getD i dz).ta==x.ta)&&((L.getD i dz).row==x.row)&&a3K (L.getD i dz).mo x.mo
def gL(L:List Wt)(w:Wt)(i:Nat):Bool:=((L.getD i dz).tx==w.tx)&&(((L.getD i dz).fo==w.fo)&&true)
def T1(L:List Lck)(x:Lck):Nat->List Wt
 |0=>[]
 |i+1=>if clash (L.getD i dz) x=true then(if anyI (T1 L x i).length (gL (T1 L x i) ⟨x.tx,(L.getD i dz).tx⟩)=true then T1 L x i else T1 L x i++[⟨x.tx,(L.getD i dz).tx⟩]) else T1 L x i
def thr(R:List Int)(a:Int)(i:Nat):Bool:=R.getD i 0==a
def scn(W:List Wt)(tx a:Int)(R:List Int):Nat->Option (List Int)
 |0=>some R
 |k+1=>match scn W tx a R k with
  |none=>none
  |some Q=>if(W.getD k dz).tx=a then(if(W.getD k dz).fo=tx then none else if anyI Q.length (thr Q (W.getD k dz).fo)=true then some Q else some (Q++[(W.getD k dz).fo])) else some Q
def a1Z(W:List Wt)(tx:Int):Nat->Nat->List Int->Bool
 |0,_,_=>false
 |f+1,i,R=>if i<R.length then(match scn W tx (R.getD i 0) R W.length with|none=>true|some Q=>a1Z W tx f (i+1) Q) else false
def rnd(W:List Wt)(tx:Int):Bool:=a1Z W tx 200 0 [tx]
def xL(l:Lks)(x:Lck):List Wt:=T1 l.H x l.H.length
def K8(l:Lks)(x:Lck):Lks×Int:=
 if anyI l.H.length (tC l.H x)=true then(C0 l x.tx,0) else
 if(xL l x).length=0 then(if l.H.length=60 then(C0 l x.tx,7) else(⟨l.H++[x],(C0 l x.tx).W⟩,0)) else
 if(C0 l x.tx).W.length+(xL l x).length>100 then(C0 l x.tx,7) else
 if rnd ((C0 l x.tx).W++xL l x) x.tx=true then(C0 l x.tx,14) else(⟨l.H,(C0 l x.tx).W++xL l x⟩,13)
theorem b8P(a b:Int):wG a b=wG b a:=by
 unfold wG;rw[Bool.eq_iff_iff];simp only[L3,pP,bne_iff_ne,ne_eq,beq_iff_eq];omega
theorem b6z(a b:Lck):clash a b=clash b a:=by
 unfold clash qQ;rw[b8P a.mo b.mo,Bool.eq_iff_iff];simp only[L3,bne_iff_ne,ne_eq,beq_iff_eq];constructor
 ·rintro⟨⟨h1,h2,h3⟩,h4⟩;exact⟨⟨λe=>h1 e.symm,h2.symm,h3.symm⟩,h4⟩
 ·rintro⟨⟨h1,h2,h3⟩,h4⟩;exact⟨⟨λe=>h1 e.symm,h2.symm,h3.symm⟩,h4⟩
theorem b0G{L:List Lck}{x:Lck}:∀n,T1 L x n=[]->∀i,i<n->clash (L.getD i dz) x=false
 |0,_,_,hi=>absurd hi (J5 _)
 |n+1,h,i,hi=>by
  unfold T1 at h;cases hc:clash (L.getD n dz) x with
  |true=>
   rw[if_pos hc] at h;split at h
   ·rename_i ha;rw[h] at ha;obtain⟨_,h0,_⟩:=Q9.1 ha;exact absurd h0 (J5 _)
   ·simp at h
  |false=>
   rw[if_neg (by rw[hc];simp)] at h
   by_cases e:i=n
   ·rw[e];exact hc
   ·exact b0G n h i (by omega)
theorem rH{L:List Lck}{x:Lck}{w:Wt}:∀n,n<=L.length->w ∈ T1 L x n->∃i,i<L.length/\w=⟨x.tx,(L.getD i dz).tx⟩/\(L.getD i dz).tx≠x.tx
 |0,_,h=>by cases h
 |n+1,hn,h=>by
  unfold T1 at h;split at h
  ·rename_i hc;split at h
   ·exact rH n (by omega) h
   ·rcases List.mem_append.1 h with h|h
    ·exact rH n (by omega) h
    ·rw[List.mem_singleton] at h;refine⟨n,by omega,h,?_⟩
     unfold clash at hc;simp only[L3,bne_iff_ne,ne_eq] at hc;exact hc.1.1
  ·exact rH n (by omega) h
theorem b1C{L:List Lck}{x:Lck}:∀n,(T1 L x n).length<=n
 |0=>W4 0
 |n+1=>by
  have ih:=b1C (L:=L) (x:=x) n;unfold T1;split
  ·split
   ·omega
   ·rw[K6,List.length_singleton];omega
  ·omega
structure LkP(T:List Txn)(l:Lks):Prop where
 ok:K0 l=true
 hd:∀a ∈ l.H,InT T a.tx
 wt:∀w ∈ l.W,InT T w.tx/\InT T w.fo
theorem c1B{L:List Rec}{T:List Txn}{lk:Lks}{nx:Int}(h:EH L T lk nx):LkP T lk:=by
 refine⟨h.lks,λa ha=> ?_,λw hw=> ?_⟩
 ·obtain⟨i,hi,rfl⟩:=yY ha;exact h.hd i hi
 ·obtain⟨i,hi,rfl⟩:=yY hw;exact h.wt i hi
theorem c1x{L:List Rec}{T:List Txn}{lk lk':Lks}{nx:Int}(h:EH L T lk nx)(hp:LkP T lk'):EH L T lk' nx:=
 ⟨h.li,h.t10,h.nxr,hp.ok,h.id,h.asc,h.ow,λ_ hi=>hp.hd _ (g8 hi),λ_ hi=>hp.wt _ (g8 hi),h.rm⟩
theorem c0c{T:List Txn}{l:Lks}(h:LkP T l)(tx:Int):LkP T (C0 l tx):=by
 obtain⟨h1,h2,h3⟩:=h;obtain⟨a1,a2,a3,a4,a5⟩:=yF.1 h1;unfold C0;rw[uQ];exact⟨yF.2 ⟨a1,a2,a3,Nat.le_trans (List.length_filter_le _ _) a4,λw hw=>a5 w (List.mem_filter.1 hw).1⟩,h2,λw hw=>h3 w (List.mem_filter.1 hw).1⟩
theorem c0h{T:List Txn}{l:Lks}{x:Lck}(h:LkP T l)(hx:x9 x=true)(hi:InT T x.tx):LkP T (K8 l x).1:=by
 have hc:=c0c h x.tx;obtain⟨c1,c2,c3⟩:=hc;obtain⟨a1,a2,a3,a4,a5⟩:=yF.1 c1;have a1:∀a ∈ l.H,x9 a=true:=a1;have a3:l.H.length<=60:=a3;have c2:∀a ∈ l.H,InT T a.tx:=c2;unfold K8;split
 ·exact⟨c1,c2,c3⟩
 ·rename_i hh;split
  ·rename_i hw;split
   ·exact⟨c1,c2,c3⟩
   ·rename_i h60;refine⟨yF.2 ⟨λa ha=> ?_,List.pairwise_append.2 ⟨a2,List.pairwise_singleton _ _,λb hb a ha=> ?_⟩,by dsimp only;rw[K6,List.length_singleton];omega,a4,a5⟩,λa ha=> ?_,c3⟩
    ·rcases List.mem_append.1 ha with ha|ha
     ·exact a1 a ha
     ·rw[List.mem_singleton.1 ha];exact hx
    ·rw[List.mem_singleton.1 ha];obtain⟨i,hi',rfl⟩:=yY (show b ∈ l.H from hb)
     have h1:=b0G _ (List.length_eq_zero_iff.1 hw) i hi';have h2:tC l.H x i=false:=by
      cases hq:tC l.H x i with
      |false=>rfl
      |true=>exact absurd (Q9.2 ⟨i,hi',hq⟩) hh
     unfold c0y;rw[b6z,h1,Bool.or_false];cases hs:uE x (l.H.getD i dz) with
     |false=>rfl
     |true=>
      unfold uE at hs;simp only[L3,beq_iff_eq,Bool.and_true] at hs;unfold tC a3K at h2;rw[hs.1,hs.2.1,hs.2.2.1,hs.2.2.2] at h2;simp at h2
    ·rcases List.mem_append.1 ha with ha|ha
     ·exact c2 a ha
     ·rw[List.mem_singleton.1 ha];exact hi
  ·split
   ·exact⟨c1,c2,c3⟩
   ·rename_i h100;split
    ·exact⟨c1,c2,c3⟩
    ·have hxt:1<=x.tx/\x.tx<=60:=by
      unfold x9 at hx;simp only[L3,Q1] at hx;exact hx.1.1.1.1
     refine⟨yF.2 ⟨a1,a2,a3,by dsimp only;rw[K6];omega,λw hw=> ?_⟩,c2,λw hw=> ?_⟩
     ·rcases List.mem_append.1 hw with hw|hw
      ·exact a5 w hw
      ·obtain⟨i,hi',rfl,hne⟩:=rH _ (W4 _) hw;have hl:=a1 _ (g8 hi');unfold x9 at hl;simp only[L3,Q1] at hl;unfold b47;simp only[L3,Q1,bne_iff_ne,ne_eq];exact⟨⟨hxt,hl.1.1.1.1⟩,λe=>hne e.symm⟩
     ·rcases List.mem_append.1 hw with hw|hw
      ·exact c3 w hw
      ·obtain⟨i,hi',rfl,hne⟩:=rH _ (W4 _) hw;exact⟨hi,c2 _ (g8 hi')⟩
end Go.Proofs.YtghgljelnhfihaaGreat

