/- A calculus of symbolic states: a call of what is said of a box's first cells. -/
import Derived.Test.YtghgljelnhfihaaGreatSSR
namespace Go.SS
open Go.RowKit

section
variable {c:Ctx} {E:Env} {H H':Y1} {w w':World} {ρ:Nat->Option Nat} {P:Program}

theorem a0A(hρ:∀k m,ρ k=some m->m=k):∀{d:Nat} {t t':T},S4 ρ d t=some t'->t'=t:=by
 intro d;induction d with
 |zero=>intro t t' h;simp[S4] at h
 |succ d ih=>
  intro t t' h;have list:∀{cs cs':List T},O5 (S4 ρ d) cs=some cs'->cs'=cs:=by
   intro cs cs' hm;obtain⟨h1,h2⟩:=L5 hm;refine List.ext_getElem h1 λi h3 h4=> ?_
   exact ih (h2 i _ _ (K7 h4) (K7 h3))
  unfold S4 at h;split at h
  case h_6=>
   simp only[I3] at h;obtain⟨cs,hm,rfl⟩:=h;rw[list hm]
  case h_7=>
   simp only[I3] at h;obtain⟨cs,hm,rfl⟩:=h;rw[list hm]
  case h_8=>
   simp only[I3] at h;obtain⟨cs,hm,rfl⟩:=h;rw[list hm]
  case h_9=>simp only[W8] at h;exact h.symm
  all_goals
   simp only[I3] at h;obtain⟨m,hm,rfl⟩:=h;rw[hρ _ _ hm]

theorem bK:∀k m,iY k=some m->m=k:=by
 intro k m h;cases k with
 |zero=>cases h
 |succ k=>simp only[iY,W8] at h;exact h.symm

theorem b5X:∀i k,iY i=some k->iY k=some i:=by
 intro i k h;rw[bK i k h];cases i with
 |zero=>cases h
 |succ i=>rfl

theorem dR{cs cs':List T}(h:O5 (S4 iY 6) cs=some cs'):cs'=cs/\∀t ∈ cs',S4 iY 6 t=some t:=by
 obtain⟨h1,h2⟩:=L5 h;have e:cs'=cs:=List.ext_getElem h1 λi h3 h4=>a0A bK (h2 i _ _ (K7 h4) (K7 h3))
 refine⟨e,λt ht=> ?_⟩
 obtain⟨i,hi,rfl⟩:=List.getElem_of_mem ht;have:=h2 i _ _ (K7 (by rw[←e];exact hi)) (K7 hi)
 have e2:=a0A bK this;rw[←e2] at this;exact this

theorem sF{X:Env}{t t':T}{x:Value}(ht:S4 iY 6 t=some t')(h:Rd E w t x):Rd (X.glue E iY E.N) w t' x:=
 a2n (λ_ h=>h) b5X 6 ht h

theorem a97{ob:Ob}(h:ob.isArr=true):∀v ty sz n row,ob≠ .fam v ty sz n row:=by rintro v ty sz n row rfl;cases h

theorem b6O{X:Env}{ob1 ob2:Ob}{rest rest2:Y1}(h:HeapOk E w (some ob1::rest))(hm:O5 (obB iY) rest=some rest2)(h1:ob1.isArr=true)(h2:ob2.isArr=true)(hL:X.L 0)(hb:X.β 0=E.β 0)(hκ:E.κ 0≠0)
  (hl2:∀v,X.L2 0 v->E.L2 0 v) (ho:m6 (X.glue E iY E.N) w 0 ob2):
  HeapOk (X.glue E iY E.N) w (some ob2::rest2)/\∀k ob b,Z0 (some ob2::rest2) k=some ob->E6 (X.glue E iY E.N) k ob b->∃ob',Z0 (some ob1::rest) k=some ob'/\E6 E k ob' b:=by
 obtain⟨m1,m2⟩:=L5 hm;have hL1:ob1.isArr=true->∀v,¬E.L2 0 v:=λhi v hv=>by
  obtain⟨v0,ty,sz,n,row,he,_⟩:=h.cur 0 ob1 v rfl hv;exact a97 hi _ _ _ _ _ he
 have get:∀k ob,Z0 (some ob2::rest2) (k+1)=some ob->∃ob',Z0 (some ob1::rest) (k+1)=some ob'/\pH iY ob'=some ob:=by
  intro k ob hk;have hlt:k<rest2.length:=by
   have:=J2 hk;simp only[List.length_cons] at this;omega
  have hk':rest2[k]? =some (some ob):=by
   have:Z0 rest2 k=some ob:=hk;unfold Z0 at this;rw[K7 hlt] at this ⊢
   simp only[Option.bind_some,id] at this;rw[this]
  have hlt':k<rest.length:=by omega
  rcases a3r (m2 k _ _ (K7 hlt') hk') with⟨_,e⟩|⟨o1,o2,e1,e2,e3⟩
  ·cases e
  ·cases e2;exact⟨o1,by show Z0 rest k=_;unfold Z0;rw[K7 hlt',e1];rfl,e3⟩
 have blk:∀k ob b,Z0 (some ob2::rest2) k=some ob->E6 (X.glue E iY E.N) k ob b->∃ob',Z0 (some ob1::rest) k=some ob'/\E6 E k ob' b:=by
  intro k ob b hk hb';cases k with
  |zero=>
   have:ob2=ob:=by simpa[Z0] using hk
   subst this;obtain⟨_,e2⟩:=hb'.arr h2;exact⟨ob1,rfl,.inl ⟨hκ,e2.trans hb⟩⟩
  |succ k=>
   obtain⟨ob',g1,g2⟩:=get k ob hk;exact⟨ob',g1,mW (h.live _ _ g1).2.1 g2 rfl rfl (λv hv=>⟨hv,λ_ _=>⟨rfl,rfl⟩⟩) hb'⟩
 refine⟨⟨λk ob hk=> ?_,λk k' o o' b hk hk' hx hx'=> ?_,λk hk=> ?_,λk v hk=> ?_,λk ob v hk hv=> ?_⟩,blk⟩
 ·refine⟨?_,?_,λb hb'=> ?_⟩
  ·cases k with
   |zero=>exact hL
   |succ k=>obtain⟨ob',g1,_⟩:=get k ob hk;exact(h.live _ _ g1).1
  ·cases k with
   |zero=>
    have:ob2=ob:=by simpa[Z0] using hk
    subst this;exact ho
   |succ k=>
    obtain⟨ob',g1,g2⟩:=get k ob hk;exact a3j (h.live _ _ g1).2.1 g2 (λt t' x ht hx=>sF ht hx) rfl rfl rfl (λv hv=>⟨hv,λ_ _=>⟨rfl,rfl⟩⟩) (λ_ _=>rfl)
  ·obtain⟨ob',g1,g2⟩:=blk k ob b hk hb';exact(h.live _ _ g1).2.2 b g2
 ·obtain⟨p,p1,p2⟩:=blk k o b hk hx;obtain⟨q,q1,q2⟩:=blk k' o' b hk' hx';exact h.inj k k' p q b p1 q1 p2 q2
 ·cases k with
  |zero=>simp
  |succ k=>
   have:=h.lt (k+1) hk;simp only[List.length_cons] at this ⊢;omega
 ·cases k with
  |zero=>exact hL
  |succ k=>exact h.l2 (k+1) v hk
 ·cases k with
  |zero=>exact absurd (hl2 v hv) (hL1 h1 v)
  |succ k=>
   obtain⟨ob',g1,g2⟩:=get k ob hk;obtain⟨v0,ty,sz,n,row,rfl,hle⟩:=h.cur _ _ v g1 hv;simp only[pH,W8] at g2;exact⟨v0,ty,sz,n,row,g2.symm,hle⟩

theorem b8f{f:FuncId}{cf:List T->Y1->Option (T×Y1×Option Prop)}(hf:kH P f cf){sz n:Nat}:kH P f λas H=>b49 cf sz n H as:=by
 intro as Hw res Hw' p he hp;replace he:b49 cf sz n Hw as=some (res,Hw',p):=he;unfold b49 at he;split at he
 case h_2=>cases he
 rename_i ty szW m row rest;split at he
 case h_2=>cases he
 rename_i m' or0 ob0 hb rest0 cs hrest hcs hok;simp only[L3] at hok;obtain⟨hoa,hsz⟩:=hok;have hsz:=v6 hsz;split at he
 case h_2=>cases he
 rename_i oe r cl' ty' sz' m'' row' rest' p' hev;split at he
 case h_2=>cases he
 rename_i r' rest2 cs' hs' hr' hrest2 hcs';simp only[W8,T5] at he;obtain⟨rfl,rfl,rfl⟩:=he;obtain rfl:=G3 hs';obtain⟨ecs,ncs⟩:=dR hcs;obtain⟨ecs',ncs'⟩:=dR hcs';subst ecs;subst ecs';intro E w vs hH hN hv;obtain⟨l1,l2,l3⟩:=hH.live 0 _ rfl;obtain⟨e1,e2,e3,e4,e5,arr,aty,e6,e7,e8⟩:=(show S9 E w 0 ⟨false,ty,szW,1,row⟩ from l2)
 simp only at e1 e2 e3 e4 e7 e8;have hκ0:E.κ 0≠0:=by omega
 have hlen:(row 0).length=szW:=e3 0 Nat.zero_lt_one;have hle7:szW<=arr.size:=by
  have:=e7.le;have h2:1*szW<=E.κ 0*szW:=iN _ e2;omega
 obtain⟨tl,htl⟩:∃tl,tl=arr.toList.drop sz':=⟨_,rfl⟩;have htlen:tl.length=arr.size-sz':=by rw[htl];simp
 have htget:∀j,tl[j]? =arr[sz'+j]? :=λj=>by rw[htl,List.getElem?_drop];simp
 let X:Env:={E with κ:=λ_=>1,z:=λ_=>(sz',tl)}
 let En:=X.glue E iY E.N
 have hbox:S9 En w 0 ⟨false,ty,sz',1,λ_=>(row 0).take sz'⟩:=by
  refine⟨rfl,W4 _,λi _=> ?_,λi t _ ht=>e4 0 t Nat.zero_lt_one (List.mem_of_mem_take ht),λh=>(by cases h),arr,aty,λ_=>e6 hκ0,⟨?_,λj u hj=> ?_⟩,λi j t hi hj=> ?_⟩
  ·show((row 0).take sz').length=sz';rw[List.length_take,hlen];omega
  ·show 1*sz'+tl.length<=_;omega
  ·show arr[1*sz'+j]? =_;rw[Nat.one_mul,←htget];exact hj
  ·have hi:i<1:=hi;obtain rfl:i=0:=by omega
   have hj:((row 0).take sz')[j]? =some t:=hj;rw[List.getElem?_take] at hj
   split at hj
   ·obtain⟨u,hu,hr⟩:=e8 0 j t Nat.zero_lt_one hj;refine⟨u,?_,sF (ncs t (B5 hj)) hr⟩
    show arr[0*sz'+j]? =_;rw[Nat.zero_mul] at hu ⊢;exact hu
   ·cases hj
 obtain⟨hHn,hbn⟩:=b6O (X:=X) hH hrest rfl (ob2:=.arr false ty sz' 1 λ_=>(row 0).take sz') rfl l1 rfl hκ0 (λ_ h=>h) hbox
 have hvn:vB En w as vs:=⟨hv.1,λi t x hi hx=>by
  have hr:=hv.2 i t x hi hx;have ho:=i5.1 hoa t (B5 hi);unfold okA at ho;split at ho
  ·rename_i j;cases hr with
   |ref _ _ _ hL=>
    have:=Rd.ref (E:=En) (w:=w) 0 0 j l1;rw[Nat.zero_mul] at this ⊢;exact this
  ·split at ho
   ·rename_i t' ht;have:=a0A bK ht;subst this;exact sF ht hr
   ·cases ho⟩
 have hI0:Inv ⟨w,XB E (some (.arr false ty szW 1 row)::rest),E.N,0,E,0⟩ En (some (.arr false ty sz' 1 λ_=>(row 0).take sz')::rest0) w:=
  ⟨hHn,hN,λb hb=>.inl hb,λk ob b hk hb=>.inr (by obtain⟨ob',g1,g2⟩:=hbn k ob b hk hb;exact⟨k,ob',g1,g2⟩),⟨rfl,rfl,rfl,W4 _,λ_ _ _=>rfl⟩,⟨λ_ h=>h,λk hk=>absurd hk (J5 k),λ_ _=>rfl,λk _ hk=>absurd hk (J5 k)⟩⟩
 refine(a1L hI0 hf hev hp hvn).mono λe w' hh=> ?_
 obtain⟨v,E',rfl,hI,hst,hrd⟩:=hh;have hE0:E'.β 0=E.β 0:=hst.le.β 0 l1;have hE1:E'.κ 0=1:=hst.le.κ 0 l1;have hE2:E'.z 0=(sz',tl):=hst.le.z 0 l1;obtain⟨k1,k2,k3⟩:=hI.heap.live 0 _ rfl;obtain⟨f1,f2,f3,f4,f5,arr',aty',f6,f7,f8⟩:=(show S9 E' w' 0 ⟨cl',ty',sz',1,row'⟩ from by cases cl'<;>exact k2)
 simp only at f1 f2 f3 f4 f7 f8;rw[hE1,Nat.one_mul,hE2] at f7;obtain⟨f71,f72⟩:=f7;have f71:sz'+tl.length<=arr'.size:=f71;have hlen':(row' 0).length=sz':=f3 0 Nat.zero_lt_one;have hkeep:∀q u,sz'<=q->arr[q]? =some u->arr'[q]? =some u:=λq u hq hu=>by
  have:=f72 (q-sz') u (by rw[htget,show sz'+(q-sz')=q by omega];exact hu)
  rwa [show sz'+(q-sz')=q by omega] at this
 have hbox':S9 (E.glue E' iY E'.N) w' 0 ⟨false,ty',szW,1,λ_=>row' 0++(row 0).drop sz'⟩:=by
  refine⟨e1,e2,λi _=> ?_,λi t _ ht=> ?_,λh=>(by cases h),arr',aty',λ_=> ?_,⟨?_,λj u hj=> ?_⟩,λi j t hi hj=> ?_⟩
  ·show(row' 0++(row 0).drop sz').length=szW;rw[K6,List.length_drop,hlen,hlen'];omega
  ·rcases List.mem_append.1 ht with ht|ht
   ·exact f4 0 t Nat.zero_lt_one ht
   ·exact e4 0 t Nat.zero_lt_one (List.mem_of_mem_drop ht)
  ·have:=f6 (by omega)
   rwa [hE0] at this
  ·have:=e7.1;show E.κ 0*szW+(E.z 0).2.length<=_;omega
  ·have h2:1*szW<=E.κ 0*szW:=iN _ e2;exact hkeep _ u (by show sz'<=E.κ 0*szW+j;omega) (e7.2 j u hj)
  ·have hi:i<1:=hi;obtain rfl:i=0:=by omega
   have hj:(row' 0++(row 0).drop sz')[j]? =some t:=hj;show ∃u,arr'[0*szW+j]? =some u/\_;rw[Nat.zero_mul,G9];rw[List.getElem?_append,hlen'] at hj
   split at hj
   ·obtain⟨u,hu,hr⟩:=f8 0 j t Nat.zero_lt_one hj;rw[Nat.zero_mul,G9] at hu;exact⟨u,hu,sF (ncs' t (B5 hj)) hr⟩
   ·rw[List.getElem?_drop,show sz'+(j-sz')=j by omega] at hj
    obtain⟨u,hu,hr⟩:=e8 0 j t Nat.zero_lt_one hj;rw[Nat.zero_mul,G9] at hu;have ht:=ncs t (B5 hj);exact⟨u,hkeep j u (by omega) hu,sF ht (hst.rd (sF ht hr))⟩
 obtain⟨hH2,hb2⟩:=b6O (X:=E) hI.heap hrest2 (by cases cl'<;>rfl) (ob2:=.arr false ty' szW 1 λ_=>row' 0++(row 0).drop sz') rfl l1 hE0.symm (by omega) (λv h=>hst.le.L2 0 v h) hbox'
 refine⟨v,E.glue E' iY E'.N,rfl,⟨hH2,hI.nlt,hI.nnew,λk ob b hk hb=> ?_,hI.fr,⟨hI.keep.N,λk hk=>absurd hk (J5 k),hI.keep.same,λk _ hk=>absurd hk (J5 k)⟩⟩,⟨⟨λb hb=>hst.le.N b hb,λk hk=> ?_,λk hk=> ?_,λk hk=> ?_,λk hk=> ?_,λk v hk=> ?_,λk v a b hk=> ?_,λk v a b hk=> ?_⟩,λb hb=>hst.same b hb⟩,sF hr' hrd⟩
 ·obtain⟨ob',g1,g2⟩:=hb2 k ob b hk hb;exact hI.bnew k ob' b g1 g2
 ·cases k with
  |zero=>exact hk
  |succ k=>exact hst.le.L (k+1) hk
 ·cases k with
  |zero=>rfl
  |succ k=>exact hst.le.β (k+1) hk
 ·cases k with
  |zero=>rfl
  |succ k=>exact hst.le.κ (k+1) hk
 ·cases k with
  |zero=>rfl
  |succ k=>exact hst.le.z (k+1) hk
 ·cases k with
  |zero=>exact hk
  |succ k=>exact hst.le.L2 (k+1) v hk
 ·cases k with
  |zero=>rfl
  |succ k=>exact hst.le.b2 (k+1) v a b hk
 ·cases k with
  |zero=>rfl
  |succ k=>exact hst.le.c2 (k+1) v a b hk
end
end Go.SS
