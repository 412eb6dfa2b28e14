/- A calculus of symbolic states: a store. -/
import Derived.Test.YtghgljelnhfihaaGreatSS8
namespace Go.SS
open Go.RowKit
section
variable {c:Ctx} {E:Env} {H:Y1} {w w':World} {P:Program}

inductive AbsR(H:Y1):List T->List T->List Nat->Prop
 |nil:AbsR H [] [] []
 |own (m n N:Nat) (ty:TypeId) (sz:Nat) (row:Nat->List T) (r r':List T) (ks:List Nat) (hm:Z0 H m=some (.arr true ty sz N row)) (hn:n<=N) (h:AbsR H r r' ks):AbsR H (.osl m 0 n::r) (.own ty sz n row::r') (m::ks)
 |cl (t:T) (r r':List T) (ks:List Nat) (ht:closedOne t=true) (h:AbsR H r r' ks):AbsR H (t::r) (t::r') ks

theorem kT:∀{cs:List T} {A:Abs},rV H cs=some A->A.side.getD True->AbsR H cs A.cs A.ks:=by
 intro cs;induction cs with
 |nil=>intro A h _;simp only[rV,W8] at h;subst h;exact .nil
 |cons t r ih=>
  intro A h hs;unfold rV at h;split at h
  ·rename_i he;cases he
  ·rename_i m off n r' he;simp only[List.cons.injEq] at he;obtain⟨rfl,rfl⟩:=he;split at h
   ·rename_i ty sz N row B hm hB;simp only[W8] at h;subst h;cases hBs:B.side with
    |none=>
     simp only[hBs,Option.getD_some] at hs;exact .own _ _ _ _ _ _ _ _ _ hm hs (ih hB (by rw[hBs];trivial))
    |some p=>
     simp only[hBs,Option.getD_some] at hs;exact .own _ _ _ _ _ _ _ _ _ hm hs.1 (ih hB (by rw[hBs];exact hs.2))
   ·cases h
  ·rename_i t' r' hne he;simp only[List.cons.injEq] at he;obtain⟨rfl,rfl⟩:=he;split at h
   ·rename_i B ht hB;simp only[W8] at h;subst h;exact .cl _ _ _ _ ht (ih hB hs)
   ·cases h

theorem AbsR.length{cs cs':List T}{ks:List Nat}(h:AbsR H cs cs' ks):cs'.length=cs.length:=by
 induction h<;>simp_all

def c8(cs:List T)(q:Nat):Option Nat:=match cs[q]? with
 |some (.osl m _ _)=>some m
 |_=>none

theorem AbsR.get{cs cs':List T}{ks:List Nat}(h:AbsR H cs cs' ks):∀{q:Nat} {t':T},cs'[q]? =some t'->(closedOne t'=true/\cs[q]? =some t')∨∃m n N ty sz row,t'= .own ty sz n row/\cs[q]? =some (.osl m 0 n)/\Z0 H m=some (.arr true ty sz N row)/\n<=N/\m ∈ ks:=by
 induction h with
 |nil=>intro q t' h;simp at h
 |own m n N ty sz row r r' ks hm hn h ih=>
  intro q t' hq;cases q with
  |zero=>simp at hq;subst hq;exact .inr ⟨m,n,N,ty,sz,row,rfl,rfl,hm,hn,by simp⟩
  |succ q=>
   rcases ih (by simpa using hq) with h1|⟨m',n',N',ty',sz',row',a,b,c,d,e⟩
   ·exact .inl h1
   ·exact .inr ⟨m',n',N',ty',sz',row',a,b,c,d,by simp[e]⟩
 |cl t r r' ks ht h ih=>
  intro q t' hq;cases q with
  |zero=>simp at hq;subst hq;exact .inl ⟨ht,rfl⟩
  |succ q=>exact ih (by simpa using hq)

theorem AbsR.mem{cs cs':List T}{ks:List Nat}(h:AbsR H cs cs' ks):∀{q m:Nat},c8 cs q=some m->m ∈ ks:=by
 induction h with
 |nil=>intro q m h;simp[c8] at h
 |own m n N ty sz row r r' ks hm hn h ih=>
  intro q m' hq;cases q with
  |zero=>simp[c8] at hq;subst hq;simp
  |succ q=>have:=ih (q:=q) (by simpa[c8] using hq);simp[this]
 |cl t r r' ks ht h ih=>
  intro q m' hq;cases q with
  |zero=>
   cases t<;>simp[c8] at hq
   simp[closedOne,W5] at ht
  |succ q=>exact ih (q:=q) (by simpa[c8] using hq)

theorem gD:∀{l:List Nat},oR l=true->l.Nodup:=by
 intro l;induction l with
 |nil=>intro _;exact .nil
 |cons x l ih=>
  intro h;simp only[oR,L3,i5,xP] at h;exact List.nodup_cons.2 ⟨λhm=>Nat.ne_of_beq_eq_false (h.1 x hm) rfl,ih h.2⟩

theorem AbsR.inj{cs cs':List T}{ks:List Nat}(h:AbsR H cs cs' ks):ks.Nodup->∀{q q' m:Nat},c8 cs q=some m->c8 cs q'=some m->q=q':=by
 induction h with
 |nil=>intro _ q q' m h;simp[c8] at h
 |own m n N ty sz row r r' ks hm hn h ih=>
  intro hnd q q' m' hq hq';obtain⟨h1,h2⟩:=List.nodup_cons.1 hnd;cases q with
  |zero=>
   cases q' with
   |zero=>rfl
   |succ q'=>
    simp[c8] at hq;subst hq;exact absurd (h.mem (q:=q') (by simpa[c8] using hq')) h1
  |succ q=>
   cases q' with
   |zero=>
    simp[c8] at hq';subst hq';exact absurd (h.mem (q:=q) (by simpa[c8] using hq)) h1
   |succ q'=>rw[ih h2 (q:=q) (q':=q') (by simpa[c8] using hq) (by simpa[c8] using hq')]
 |cl t r r' ks ht h ih=>
  intro hnd q q' m' hq hq';have z:c8 (t::r) 0=none:=by cases t<;>first|rfl|(simp[closedOne,W5] at ht)
  cases q with
  |zero=>rw[z] at hq;cases hq
  |succ q=>
   cases q' with
   |zero=>rw[z] at hq';cases hq'
   |succ q'=>rw[ih hnd (q:=q) (q':=q') (by simpa[c8] using hq) (by simpa[c8] using hq')]

theorem J3:∀(ks:List Nat) (H:Y1),(H6 H ks).length=H.length:=by
 intro ks;induction ks with
 |nil=>intro H;rfl
 |cons k ks ih=>intro H;simp[H6,ih]

theorem N9:∀{ks:List Nat} {H:Y1} {i:Nat} {o:Ob},Z0 (H6 H ks) i=some o->Z0 H i=some o/\i ∉ ks:=by
 intro ks;induction ks with
 |nil=>intro H i o h;exact⟨h,by simp⟩
 |cons k ks ih=>
  intro H i o h;obtain⟨h1,h2⟩:=ih h;by_cases hk:k<H.length
  ·rw[U0 hk] at h1;split at h1
   ·cases h1
   ·rename_i hne;exact⟨h1,by simp[hne,h2]⟩
  ·rw[List.set_eq_of_length_le (by omega)] at h1
   refine⟨h1,?_⟩
   have:=J2 h1;simp only[wY,not_or];exact⟨by omega,h2⟩

def Env.bump(E:Env)(k v:Nat)(B C:Nat->Nat->Nat):Env:=
 {E with L2:=λa u=>E.L2 a u∨(a=k/\u=v),b2:=λa u r q=>if a=k/\u=v then B r q else E.b2 a u r q,c2:=λa u r q=>if a=k/\u=v then C r q else E.c2 a u r q}

theorem Env.bump_le{E:Env}{k v:Nat}{B C:Nat->Nat->Nat}(h:¬E.L2 k v):E.le (E.bump k v B C):=
 ⟨λ_ h=>h,λ_ h=>h,λ_ _=>rfl,λ_ _=>rfl,λ_ _=>rfl,λ_ _ h=>.inl h,λa u _ _ hu=>if_neg (by rintro⟨rfl,rfl⟩;exact h hu),λa u _ _ hu=>if_neg (by rintro⟨rfl,rfl⟩;exact h hu)⟩

theorem z4{row:Nat->List T}{i j r q:Nat}{cs:List T}{t:T}(h:j+cs.length<=(row r).length)(hq:(setRow row i j cs r)[q]? =some t):
  (r=i/\j<=q/\q<j+cs.length/\cs[q-j]? =some t)∨(¬ (r=i/\j<=q/\q<j+cs.length)/\(row r)[q]? =some t):=by
 rw[o8 h] at hq;split at hq
 ·rename_i hb;obtain rfl:=G3 hb;simp only[List.getElem?_append,K6,List.length_take,List.getElem?_take,List.getElem?_drop] at hq
  rw[Nat.min_eq_left (by omega)] at hq
  by_cases h1:q<j+cs.length
  ·rw[if_pos h1] at hq;by_cases h2:q<j
   ·rw[if_pos h2,if_pos h2] at hq;exact .inr ⟨by omega,hq⟩
   ·rw[if_neg h2] at hq;exact .inl ⟨rfl,by omega,h1,hq⟩
  ·rw[if_neg h1] at hq;refine .inr ⟨by omega,?_⟩
   rw[←hq];congr 1
   omega
 ·rename_i hb;exact .inr ⟨λh=>Nat.ne_of_beq_eq_false hb h.1,hq⟩

theorem T7{row:Nat->List T}{i j r:Nat}{cs:List T}(h:j+cs.length<=(row r).length):(setRow row i j cs r).length=(row r).length:=by
 rw[o8 h];split
 ·simp;omega
 ·rfl

theorem oV(k v:Nat){row:Nat->List T}{i j r:Nat}{cs:List T}(h:j+cs.length<=(row r).length)(hc:∀t ∈ cs,closedOne t=true):
  yB k v (setRow row i j cs) r=setRow (yB k v row) i j cs r:=by
 refine List.ext_getElem? λq=> ?_
 rw[M4];have hl:j+cs.length<=(yB k v row r).length:=by rw[P0];exact h
 cases hq:(setRow row i j cs r)[q]? with
 |none=>
  have:(row r).length<=q:=by
   rw[←T7 (i:=i) h];rcases Nat.lt_or_ge q (setRow row i j cs r).length with h'|h'
   ·rw[K7 h'] at hq;cases hq
   ·exact h'
  rw[List.getElem?_eq_none (by rw[T7 hl,P0];exact this)]
  rfl
 |some t=>
  have hql:q<(setRow (yB k v row) i j cs r).length:=by
   rw[T7 hl,P0,←T7 (i:=i) h];exact(z5.1 hq).1
  have hq2:=K7 hql
  rw[hq2];rcases z4 h hq with⟨h1,h2,h3,h4⟩|⟨h1,h2⟩<;>rcases z4 hl hq2 with⟨g1,g2,g3,g4⟩|⟨g1,g2⟩
  ·rw[h4] at g4;simp only[j8];rw[O3 (hc t (B5 h4))];exact g4
  ·exact absurd ⟨h1,h2,h3⟩ g1
  ·exact absurd ⟨g1,g2,g3⟩ h1
  ·rw[M4,h2] at g2;exact g2

theorem b2S(h:Inv c E H w){t:TypeId}{a x:T}{av xv:Value}{H':Y1}{side:Option Prop}(he:tT P H t a x=some (H',side))(hs:side.getD True)(ha:Rd E w a av)(hx:Rd E w x xv):
  ∃w' E',(Instr.storeAt t av xv).run P w= .ok () w'/\Inv c E' H' w'/\Step E w E' w':=by
 have go:∀{b o:Nat} {w':World},z8 P t (V0 x).length=true->(V0 x).length=xv.cells.size->av= .pointer (some ⟨b,o,none⟩)->(storeCells ⟨b,o,none⟩ xv.cells.toList).run P w= .ok () w'->(Instr.storeAt t av xv).run P w= .ok () w':=by
  intro b o w' hsz hxl hav hst;rw[hav];simp only[Instr.storeAt,Instr.sureAddr,storeVar,H4,D5,I1,(N8 (w:=w) hsz).1];rw[if_neg (by rw[hxl];simp)]
  exact hst
 unfold tT at he;split at he
 ·rename_i k v i j z a b;split at he
  ·rename_i v' ty sz n row A hk hA hsz hpx hone;split at he
   ·rename_i hzb hble;simp only[W8,T5] at he;obtain⟨rfl,rfl⟩:=he;obtain rfl:=G3 hzb;have hb:=v6 hble;obtain⟨ty2,sz2,sM,hk2,hj,hcl⟩:=zT hA;rw[hk] at hk2;simp only[W8,Ob.fam.injEq] at hk2;obtain⟨rfl,rfl,rfl,rfl,rfl⟩:=hk2;obtain⟨hv,hi,ha'⟩:PfB v A.v i A.n a A.A.n:=hs;subst hv;obtain⟨hO,hL,hL2⟩:=aD h.heap hA rfl hi;obtain⟨_,hF,hNk⟩:=h.heap.live _ _ hk;have hF:FamOk E w k A.v ty sz A.n row:=hF;obtain⟨hxl,hxt⟩:=zS hx hpx;have hco:∀t ∈ V0 x,closedOne t=true:=λt ht=>i5.1 hone t ht
    have hc2:E.c2 k A.v i j≠0:=by have h1:A.A.n<=E.c2 k A.v i j:=hO.2.1;omega
    obtain⟨w',hst,ho,ht,hp,hsize,hoth,cs,tyc,hblk,hcs,hlen,hone',hcl',hcell⟩:=xD (P:=P) hO ha' (xs:=V0 x) (vs:=xv.cells.toList) hb (λt ht=>(N4 (hco t ht)).2) (by simp[hxl])
     (λm t v hm hv=>F1 (E:=E) (E':=E.sub k A.v i j A.A.sz) (λb hb=>hb) (hxt m t v hm (by simpa using hv)) (N4 (hco t (B5 hm))).1)
    have hav:av= .pointer (some ⟨E.b2 k A.v i j,a*A.A.sz+b,none⟩):=by cases ha;rfl
    have hfit:j+[T.own A.A.ty A.A.sz A.A.n (setRow A.A.row a b (V0 x))].length<=(row i).length:=by
     have:=(z5.1 hj).1
     simp only[List.length_singleton];omega
    have hlr:∀r,r<A.n->(row r).length=sz:=λr hr=>by have:=hF.arr.2.2.1 r hr;rwa [P0] at this
    have hfit':∀r,r<A.n->j+[T.own A.A.ty A.A.sz A.A.n (setRow A.A.row a b (V0 x))].length<=(row r).length:=λr hr=>by rw[hlr r hr,←hlr i hi];exact hfit
    have back:∀(r q:Nat) (t:T),r<A.n->(setRow row i j [T.own A.A.ty A.A.sz A.A.n (setRow A.A.row a b (V0 x))] r)[q]? =some t->(r=i/\q=j/\t= .own A.A.ty A.A.sz A.A.n (setRow A.A.row a b (V0 x)))∨(¬ (r=i/\q=j)/\(row r)[q]? =some t):=by
     intro r q t hr hq;rcases z4 (hfit' r hr) hq with⟨h1,h2,h3,h4⟩|⟨h1,h2⟩
     ·simp only[List.length_singleton] at h3;obtain rfl:q=j:=by omega
      simp at h4;exact .inl ⟨h1,rfl,h4.symm⟩
     ·simp only[List.length_singleton] at h1;exact .inr ⟨λhh=>h1 ⟨hh.1,by omega,by omega⟩,h2⟩
    have hB:∀b',E6 E k (.fam A.v ty sz A.n (setRow row i j [T.own A.A.ty A.A.sz A.A.n (setRow A.A.row a b (V0 x))])) b'->E6 E k (.fam A.v ty sz A.n row) b':=by
     intro b' hb';rcases hb' with hb'|⟨v0,ty0,sz0,n0,V7,i0,j0,oty,osz,on,orow,hobe,hi0,hj0,hc0,rfl⟩
     ·exact .inl hb'
     ·simp only[Ob.fam.injEq] at hobe;obtain⟨rfl,rfl,rfl,rfl,rfl⟩:=hobe;rcases back i0 j0 _ hi0 hj0 with⟨rfl,rfl,_⟩|⟨_,h2⟩
      ·exact .inr ⟨_,_,_,_,_,_,_,_,_,_,_,rfl,hi,hj,hc0,rfl⟩
      ·exact .inr ⟨_,_,_,_,_,_,_,_,_,_,_,rfl,hi0,h2,hc0,rfl⟩
    have:=h.writeO hk ho ht hp (by omega) (λb' _ hn=>hoth b' λe=>hn (.inr ⟨_,_,_,_,_,_,_,_,_,_,_,rfl,hi,hj,hc2,e⟩)) (.fam A.v ty sz A.n (setRow row i j [.own A.A.ty A.A.sz A.A.n (setRow A.A.row a b (V0 x))])) hB
     (λu hu=>by
      obtain⟨v0,_,_,_,_,he,hle⟩:=h.heap.cur k _ u hk hu;cases he;exact⟨_,_,_,_,_,rfl,hle⟩) (λhstep=>by
      have hκb:E.κ k≠0->w'.heap[E.β k]? =w.heap[E.β k]? :=λhκ=>hoth _ λe=>((hF.own i j _ _ _ _ hi hj).2 hc2 hκ) e.symm
      obtain⟨e1,e2,e3,e4,e5,cs0,ty0,e6,e7,e8⟩:=hF.arr;refine s9 (E:=E) hF.l2 e1 e2 cs0 ty0 (λhκ=>by rw[hκb hκ];exact e6 hκ) e7 (λr hr=>by rw[T7 (hfit' r hr)];exact hlr r hr) (λr q t hr hq=> ?_) (λi1 j1 i2 j2 oty osz on orow oty' osz' on' orow' h1 h2 h3 h4 h5 h6 h7=> ?_)
      ·rcases back r q t hr hq with⟨rfl,rfl,rfl⟩|⟨hne,hq0⟩
       ·obtain⟨u,hu,hru⟩:=e8 r q (.posl k A.v r q A.A.n) hr (by simp only;rw[M4,hj];rfl)
        refine⟨u,hu,.inr ⟨_,_,_,_,rfl,hstep.rd hru,?_,(hF.own r q _ _ _ _ hr hj).2⟩⟩
        refine⟨hO.1,hO.2.1,hlen,hone',λ_ r t hr ht=>hcl' hcl (λt ht=>(N4 (hco t ht)).1) r t hr ht,cs,tyc,λ_=>hblk,hcs,λr1 q1 t1 hr1 hq1=> ?_⟩
        obtain⟨u1,hu1,hrd1,_⟩:=hcell r1 q1 t1 hr1 hq1;refine⟨u1,hu1,?_⟩
        have hct:=hcl' hcl (λt ht=>(N4 (hco t ht)).1) r1 t1 hr1 (B5 hq1)
        have:=hstep.rd (F1 (E:=E.sub k A.v r q A.A.sz) (E':=E) (λb hb=>hb) hrd1 hct)
        exact F1 (E:=E) (E':=E.sub k A.v r q A.A.sz) (λb hb=>hb) this hct
       ·obtain⟨u,hu,hru⟩:=e8 r q (uJ k A.v r q t) hr (by simp only;rw[M4,hq0];rfl)
        rcases hF.cell hr hq0 with hc|⟨oty,osz,on,orow,rfl⟩
        ·rw[O3 hc] at hru;exact⟨u,hu,.inl ⟨hc,hstep.rd hru⟩⟩
        ·obtain⟨g1,g2⟩:=hF.own r q _ _ _ _ hr hq0;refine⟨u,hu,.inr ⟨_,_,_,_,rfl,hstep.rd hru,g1.closed (k':=0) (E':=E.sub k A.v r q osz) rfl (λb hb=>hb) (λb hb=>hstep.same b hb) rfl rfl rfl (λhc0=>hoth _ λe=>hne ?_),g2⟩⟩
         exact hF.inj r q i j _ _ _ _ _ _ _ _ hr hi hq0 hj hc0 hc2 e
      ·have own:∀(r q:Nat) (oty:TypeId) (osz on:Nat) (orow:Nat->List T),r<A.n->(setRow row i j [T.own A.A.ty A.A.sz A.A.n (setRow A.A.row a b (V0 x))] r)[q]? =some (T.own oty osz on orow)->∃(oty':TypeId) (osz' on':Nat) (orow':Nat->List T),(row r)[q]? =some (T.own oty' osz' on' orow'):=by
        intro r q oty osz on orow hr hq;rcases back r q _ hr hq with⟨rfl,rfl,_⟩|⟨_,h2⟩
        ·exact⟨_,_,_,_,hj⟩
        ·exact⟨_,_,_,_,h2⟩
       obtain⟨_,_,_,_,p1⟩:=own i1 j1 _ _ _ _ h1 h3;obtain⟨_,_,_,_,p2⟩:=own i2 j2 _ _ _ _ h2 h4;exact hF.inj i1 j1 i2 j2 _ _ _ _ _ _ _ _ h1 h2 p1 p2 h5 h6 h7)
    exact⟨w',E,go hsz hxl hav hst,this.1,this.2⟩
   ·cases he
  ·cases he
 ·rename_i k i j;have hav:=cU ha;split at he
  ·rename_i cl ty sz n row hk hsz hpx hone;split at he
   ·rename_i hble;simp only[W8,T5] at he;obtain⟨rfl,rfl⟩:=he;have hi:=b1G hs;have hj:=v6 hble;obtain⟨hL,hA,hN⟩:=h.heap.live _ _ hk;have hA:S9 E w k ⟨cl,ty,sz,n,row⟩:=hA;obtain⟨hxl,hxt⟩:=zS hx hpx;obtain⟨w',hst,ho,ht,hp,hsize,hoth,cs,tyc,hblk,hcs,hlen,hone',hcl',hcell⟩:=xD (P:=P) hA hi (xs:=V0 x) (vs:=xv.cells.toList) hj (λt ht=>i5.1 hone t ht) (by simp[hxl]) (λm t v hm hv=>hxt m t v hm (by simpa using hv))
    have hκ:E.κ k≠0:=by have h1:n<=E.κ k:=hA.2.1;have h2:i<n:=hi;omega
    have:=h.write hk rfl ho ht hp (by omega) (λb _ hne=>hoth b hne) hκ (.arr (cl&&(V0 x).all W5) ty sz n (setRow row i j (V0 x))) cs tyc hblk hA.1.symm (by rw[hA.1];exact hcs) hA.2.1 hlen hone'
     (λhc r t hr ht=>by simp only[Ob.toArr,L3] at hc;exact hcl' hc.1 (λt ht=>i5.1 hc.2 t ht) r t hr ht) (λr q t hr hq=>by obtain⟨u,hu,hrd,_⟩:=hcell r q t hr hq;exact⟨u,hu,hrd⟩)
    exact⟨w',E,go hsz hxl hav hst,this.1,this.2⟩
   ·cases he
  ·rename_i ty l hk hsz hpx hone;split at he
   ·rename_i m;simp only[W8,T5] at he;obtain⟨rfl,rfl⟩:=he;obtain⟨hi,hm⟩:i<l.length/\W7 .u8 m:=hs;obtain⟨hL,hA,hN⟩:=h.heap.live _ _ hk;have hA:S9 E w k ⟨true,ty,1,l.length,I4 l⟩:=hA;obtain⟨hxl,hxt⟩:=zS hx hpx;have hκ:E.κ k≠0:=by have h1:l.length<=E.κ k:=hA.2.1;omega
    obtain⟨w',hst,ho,ht,hp,hsize,hoth,cs,tyc,hblk,hcs,hlen,hone',hcl',hcell⟩:=xD (P:=P) hA hi (j:=0) (xs:=[.int .u8 m]) (vs:=xv.cells.toList) (W4 1) (by simp[J7]) (by simp at hxl ⊢;exact hxl.symm) (λm t v hm hv=>hxt m t v hm (by simpa using hv))
    have:=h.write hk rfl ho ht hp (by omega) (λb _ hne=>hoth b hne) hκ (.bys ty (l.set i (P2 m))) cs tyc hblk hA.1.symm (by rw[hA.1];exact hcs) (by simp only[Ob.toArr,B1];exact hA.2.1) (λr hr'=>rfl) (λr t hr' ht=>by simp[Ob.toArr,I4] at ht;subst ht;rfl) (λ_ r t hr' ht=>by simp[Ob.toArr,I4] at ht;subst ht;rfl) (λr q t hr hq=>by
      simp only[Ob.toArr,B1] at hr hq ⊢;have hq0:q=0:=by
       have:=(z5.1 hq).1
       simp[I4] at this;exact this
      subst hq0;simp only[I4,List.getElem?_cons_zero,W8] at hq
      subst hq;have hrow:(setRow (I4 l) i 0 [.int .u8 m] r)[0]? =some (if r=i then .int .u8 m else .int .u8 ((l.getD r 0).toNat:Int)):=by
       rw[o8 (by simp[I4])]
       split
       ·rename_i hb;rw[if_pos (G3 hb)];rfl
       ·rename_i hb;rw[if_neg (Nat.ne_of_beq_eq_false hb)];rfl
      obtain⟨u,hu,hrd,_⟩:=hcell r 0 _ hr hrow;refine⟨u,hu,?_⟩
      by_cases he:r=i
      ·rw[if_pos he] at hrd;subst he;rw[show((l.set r (P2 m)).getD r 0)=P2 m by simp[List.getD,hi],a0i hm]
       exact hrd
      ·rw[if_neg he] at hrd;rw[show((l.set i (P2 m)).getD r 0)=l.getD r 0 by simp[List.getD,Ne.symm he]]
       exact hrd)
    exact⟨w',E,go hsz hxl hav hst,this.1,this.2⟩
   ·cases he
  ·rename_i v ty sz n row hk hsz hpx hone;split at he
   case h_2=>cases he
   rename_i hble;have hj:=v6 hble;obtain⟨hL,hF,hN⟩:=h.heap.live _ _ hk;have hF:FamOk E w k v ty sz n row:=hF;obtain⟨hxl,hxt⟩:=zS hx hpx;have hlr:∀r,r<n->(row r).length=sz:=λr hr=>by have:=hF.arr.2.2.1 r hr;rwa [P0] at this
   have hklt:=J2 hk;have hcurk:∀u,E.L2 k u->u<=v:=λu hu=>by
    obtain⟨v0,_,_,_,_,he,hle⟩:=h.heap.cur k _ u hk hu;cases he;exact hle
   split at he
   ·-- cells that own nothing
    rename_i hco;simp only[W8,T5] at he;obtain⟨rfl,rfl⟩:=he;obtain⟨hi,hno⟩:bS i n (((row i).drop j).take (V0 x).length):=hs;have hco:∀t ∈ V0 x,closedOne t=true:=λt ht=>i5.1 hco t ht
    obtain⟨w',hst,ho,ht,hp,hsize,hoth,cs,tyc,hblk,hcs,hlen,hone',hcl',hcell⟩:=xD (P:=P) hF.arr hi (xs:=V0 x) (vs:=xv.cells.toList) hj (λt ht=>i5.1 hone t ht) (by simp[hxl]) (λm t v hm hv=>hxt m t v hm (by simpa using hv))
    have hfit:∀r,r<n->j+(V0 x).length<=(row r).length:=λr hr=>by rw[hlr r hr];exact hj
    have old:∀(r q:Nat) (oty:TypeId) (osz on:Nat) (orow:Nat->List T),r<n->(setRow row i j (V0 x) r)[q]? =some (T.own oty osz on orow)->(row r)[q]? =some (T.own oty osz on orow):=by
     intro r q oty osz on orow hr hq;rcases z4 (hfit r hr) hq with⟨_,_,_,h4⟩|⟨_,h2⟩
     ·have:=hco _ (B5 h4);simp[closedOne,W5] at this
     ·exact h2
    have hB:∀b',E6 E k (.fam v ty sz n (setRow row i j (V0 x))) b'->E6 E k (.fam v ty sz n row) b':=by
     intro b' hb';rcases hb' with hb'|⟨v0,ty0,sz0,n0,V7,i0,j0,oty,osz,on,orow,hobe,hi0,hj0,hc0,rfl⟩
     ·exact .inl hb'
     ·simp only[Ob.fam.injEq] at hobe;obtain⟨rfl,rfl,rfl,rfl,rfl⟩:=hobe;exact .inr ⟨_,_,_,_,_,_,_,_,_,_,_,rfl,hi0,old _ _ _ _ _ _ hi0 hj0,hc0,rfl⟩
    have hκ:E.κ k≠0:=by have h1:n<=E.κ k:=hF.arr.2.1;omega
    have:=h.writeO hk ho ht hp (by omega) (λb' _ hn=>hoth b' λe=>hn (.inl ⟨hκ,e⟩)) (.fam v ty sz n (setRow row i j (V0 x))) hB (λu hu=>⟨_,_,_,_,_,rfl,hcurk u hu⟩) (λhstep=>by
     refine s9 (E:=E) hF.l2 hF.arr.1 hF.arr.2.1 cs tyc (λ_=>hblk) hcs (λr hr=>by rw[T7 (hfit r hr)];exact hlr r hr) (λr q t hr hq=> ?_) (λi1 j1 i2 j2 oty osz on orow oty' osz' on' orow' h1 h2 h3 h4 h5 h6 h7=> ?_)
     ·obtain⟨u,hu,hrd,_⟩:=hcell r q (uJ k v r q t) hr (by simp only;rw[←oV k v (hfit r hr) hco,M4,hq];rfl)
      rcases z4 (hfit r hr) hq with⟨_,_,_,h4⟩|⟨_,h2⟩
      ·have hc:=hco _ (B5 h4);rw[O3 hc] at hrd;exact⟨u,hu,.inl ⟨hc,hstep.rd hrd⟩⟩
      ·rcases hF.cell hr h2 with hc|⟨oty,osz,on,orow,rfl⟩
       ·rw[O3 hc] at hrd;exact⟨u,hu,.inl ⟨hc,hstep.rd hrd⟩⟩
       ·obtain⟨g1,g2⟩:=hF.own r q _ _ _ _ hr h2;exact⟨u,hu,.inr ⟨_,_,_,_,rfl,hstep.rd hrd,g1.closed (k':=0) (E':=E.sub k v r q osz) rfl (λb hb=>hb) (λb hb=>hstep.same b hb) rfl rfl rfl (λhc0=>hoth _ (g2 hc0 hκ)),g2⟩⟩
     ·exact hF.inj i1 j1 i2 j2 _ _ _ _ _ _ _ _ h1 h2 (old _ _ _ _ _ _ h1 h3) (old _ _ _ _ _ _ h2 h4) h5 h6 h7)
    exact⟨w',E,go hsz hxl hav hst,this.1,this.2⟩
   ·-- cells that are given rows
    split at he
    case h_2=>cases he
    rename_i A hA;split at he
    case h_2=>cases he
    rename_i hnd;simp only[W8,T5] at he;obtain⟨rfl,rfl⟩:=he;have hi:i<n:=by cases hAs:A.side with
     |none=>rw[hAs] at hs;exact hs
     |some p=>rw[hAs] at hs;exact hs.1
    have hsd:A.side.getD True:=by cases hAs:A.side with
     |none=>trivial
     |some p=>rw[hAs] at hs;exact hs.2
    have hR:=kT hA hsd;have hnd:=gD hnd;obtain⟨hkn,hnd⟩:=List.nodup_cons.1 hnd;have hl':=hR.length;obtain⟨w',hst,ho,ht,hp,hsize,hoth,cs,tyc,hblk,hcs,_,_,_,hcell⟩:=xD (P:=P) hF.arr hi (xs:=V0 x) (vs:=xv.cells.toList) hj (λt ht=>i5.1 hone t ht) (by simp[hxl]) (λm t v hm hv=>hxt m t v hm (by simpa using hv))
    have hfit:∀r,r<n->j+A.cs.length<=(row r).length:=λr hr=>by rw[hlr r hr,hl'];exact hj
    have hfitx:∀r,r<n->j+(V0 x).length<=(yB k v row r).length:=λr hr=>by rw[P0,hlr r hr];exact hj
    have hκ:E.κ k≠0:=by have h1:n<=E.κ k:=hF.arr.2.1;omega
    let S:b8l:=λr q=>if r=i/\j<=q/\q<j+(V0 x).length then(match c8 (V0 x) (q-j) with|some m=>.inr m|none=>.inl (r,q)) else .inl (r,q)
    have hnL2:¬E.L2 k (v+1):=λhu=>by have:=hcurk _ hu;omega
    let E':=E.bump k (v+1) (λr q=>sZ E k v (S r q)) (λr q=>nZ E k v (S r q))
    have hle:E.le E':=Env.bump_le hnL2;have hstep:Step E w E' w':=⟨hle,λb hb=>hoth b λe=>hN b (.inl ⟨hκ,e⟩) hb,λ_ h=>.inl h⟩
    have hb2:∀r q,E'.b2 k (v+1) r q=sZ E k v (S r q):=λr q=>if_pos ⟨rfl,rfl⟩
    have hc2:∀r q,E'.c2 k (v+1) r q=nZ E k v (S r q):=λr q=>if_pos ⟨rfl,rfl⟩
    have cellN:∀(r q:Nat) (t:T),r<n->(setRow row i j A.cs r)[q]? =some t->
      (∃m nn N oty osz orow,t= .own oty osz nn orow/\r=i/\j<=q/\q<j+(V0 x).length/\(V0 x)[q-j]? =some (.osl m 0 nn)/\Z0 H m=some (.arr true oty osz N orow)/\nn<=N/\m ∈ A.ks/\S r q= .inr m)∨
      (closedOne t=true/\r=i/\j<=q/\q<j+(V0 x).length/\(V0 x)[q-j]? =some t)∨(¬ (r=i/\j<=q/\q<j+(V0 x).length)/\(row r)[q]? =some t/\S r q= .inl (r,q)):=by
     intro r q t hr hq;rcases z4 (hfit r hr) hq with⟨h1,h2,h3,h4⟩|⟨h1,h2⟩
     ·rw[hl'] at h3;rcases hR.get h4 with⟨g1,g2⟩|⟨m,nn,N,oty,osz,orow,rfl,g2,g3,g4,g5⟩
      ·exact .inr (.inl ⟨g1,h1,h2,h3,g2⟩)
      ·refine .inl ⟨m,nn,N,oty,osz,orow,rfl,h1,h2,h3,g2,g3,g4,g5,?_⟩
       simp only[S,if_pos (And.intro h1 (And.intro h2 h3)),c8,g2]
     ·rw[hl'] at h1;exact .inr (.inr ⟨h1,h2,if_neg h1⟩)
    have hFam:FamOk E' w' k (v+1) ty sz n (setRow row i j A.cs):=by
     refine a06 (E:=E) (w:=w) h.heap hstep hk S (.inr ⟨rfl,rfl⟩) hb2 hc2 hF.arr.1 hF.arr.2.1 cs tyc (λ_=>hblk) hcs (λr hr=>by rw[T7 (hfit r hr)];exact hlr r hr) (λr q t hr hq=> ?_) (λi1 j1 i2 j2 oty osz on orow oty' osz' on' orow' h1 h2 h3 h4 h5=> ?_) (λb hb=>hoth b ?_) (λb hb _=> ?_)
     ·have hx1:∃t1,(setRow (yB k v row) i j (V0 x) r)[q]? =some t1:=by
       have:q<(setRow (yB k v row) i j (V0 x) r).length:=by
        rw[T7 (hfitx r hr),P0,←T7 (i:=i) (hfit r hr)];exact(z5.1 hq).1
       exact⟨_,K7 this⟩
      obtain⟨t1,ht1⟩:=hx1;obtain⟨u,hu,hrd,hwh⟩:=hcell r q t1 hr ht1;refine⟨u,hu,?_⟩
      rcases cellN r q t hr hq with⟨m,nn,N,oty,osz,orow,rfl,h1,h2,h3,g2,g3,g4,g5,g6⟩|⟨hc,h1,h2,h3,g2⟩|⟨hne,h2,g6⟩
      ·rcases hwh with⟨_,_,_,h4⟩|⟨h4,_⟩
       ·rw[g2] at h4;simp only[W8] at h4;subst h4;refine .inr ⟨_,_,_,_,rfl,?_⟩
        rw[g6];exact⟨λe=>hkn (e▸g5),⟨_,_,g3,g4⟩,hrd⟩
       ·exact absurd ⟨h1,h2,h3⟩ h4
      ·rcases hwh with⟨_,_,_,h4⟩|⟨h4,_⟩
       ·rw[g2] at h4;simp only[W8] at h4;subst h4;exact .inl ⟨hc,hrd⟩
       ·exact absurd ⟨h1,h2,h3⟩ h4
      ·rcases hwh with⟨p1,p2,p3,_⟩|⟨_,h4⟩
       ·exact absurd ⟨p1,p2,p3⟩ hne
       ·simp only at h4;rw[M4,h2] at h4;simp only[j8,W8] at h4;subst h4;rcases hF.cell hr h2 with hc|⟨oty,osz,on,orow,rfl⟩
        ·rw[O3 hc] at hrd;exact .inl ⟨hc,hrd⟩
        ·refine .inr ⟨_,_,_,_,rfl,?_⟩
         rw[g6];exact⟨hr,⟨_,h2⟩,hrd⟩
     ·rcases cellN i1 j1 _ h1 h3 with⟨m,nn,N,_,_,_,_,p1,p2,p3,p4,_,_,p5,p6⟩|⟨hc,_⟩|⟨p1,p2,p6⟩
      ·rcases cellN i2 j2 _ h2 h4 with⟨m',nn',N',_,_,_,_,q1,q2,q3,q4,_,_,q5,q6⟩|⟨hc,_⟩|⟨q1,q2,q6⟩
       ·rw[p6,q6] at h5;simp only[Sum.inr.injEq] at h5;subst h5;have:=hR.inj hnd (q:=j1-j) (q':=j2-j) (m:=m) (by simp[c8,p4]) (by simp[c8,q4])
        exact⟨by omega,by omega⟩
       ·simp[closedOne,W5] at hc
       ·rw[p6,q6] at h5;cases h5
      ·simp[closedOne,W5] at hc
      ·rcases cellN i2 j2 _ h2 h4 with⟨m',nn',N',_,_,_,_,q1,q2,q3,q4,_,_,q5,q6⟩|⟨hc,_⟩|⟨q1,q2,q6⟩
       ·rw[p6,q6] at h5;cases h5
       ·simp[closedOne,W5] at hc
       ·rw[p6,q6] at h5;simp only[Sum.inl.injEq,T5] at h5;exact h5
     ·rcases hb with⟨r,q,rfl,hcq,v0,ty0,sz0,n0,V7,i0,j0,oty,osz,on,orow,hobe,hi0,hj0,hc0,he0⟩|⟨m,o,hmk,hmo,hmb⟩
      ·simp only[Ob.fam.injEq] at hobe;obtain⟨rfl,rfl,rfl,rfl,rfl⟩:=hobe;rw[he0];exact(hF.own i0 j0 _ _ _ _ hi0 hj0).2 hc0 hκ
      ·rintro rfl;exact hmk (h.heap.inj m k _ _ _ hmo hk hmb (.inl ⟨hκ,rfl⟩))
     ·show b≠E.β k;rcases hb with⟨r,q,rfl,hcq,v0,ty0,sz0,n0,V7,i0,j0,oty,osz,on,orow,hobe,hi0,hj0,hc0,he0⟩|⟨m,o,hmk,hmo,hmb⟩
      ·simp only[Ob.fam.injEq] at hobe;obtain⟨rfl,rfl,rfl,rfl,rfl⟩:=hobe;rw[he0];exact(hF.own i0 j0 _ _ _ _ hi0 hj0).2 hc0 hκ
      ·rintro rfl;exact hmk (h.heap.inj m k _ _ _ hmo hk hmb (.inl ⟨hκ,rfl⟩))
    have hgs:∀i o,Z0 ((H6 H A.ks).set k (some (.fam (v+1) ty sz n (setRow row i j A.cs)))) i=some o->True:=λ_ _ _=>trivial
    have hklt':k<(H6 H A.ks).length:=by rw[J3];exact hklt
    refine⟨w',E',go hsz hxl hav hst,h.to ho ht hp (by omega) hstep k (λm=>m=k∨m ∈ A.ks) (λ_ h=>h) (λi2 o2 hi2 hne=> ?_) (λo2 ho2=> ?_) (λb hb hn=>hoth b λe=>hn k _ (.inl rfl) hk (.inl ⟨hκ,e⟩)) (λi2 hi2=>by rw[B1,J3];exact h.heap.lt i2 hi2) (λi2 v2 hv2=> ?_) (λo2 i2 v2 hi2 hv2=> ?_),hstep⟩
    ·rw[U0 hklt',if_neg hne] at hi2;obtain⟨g1,g2⟩:=N9 hi2;exact⟨g1,λhh=>hh.elim hne g2⟩
    ·rw[U0 hklt',if_pos rfl] at ho2;simp only[W8] at ho2;subst ho2;refine⟨hL,hFam,λb hb=>.inr ?_⟩
     rcases hb with hb|⟨v0,ty0,sz0,n0,V7,i0,j0,oty,osz,on,orow,hobe,hi0,hj0,hc0,rfl⟩
     ·exact⟨k,_,.inl rfl,hk,.inl hb⟩
     ·simp only[Ob.fam.injEq] at hobe;obtain⟨rfl,rfl,rfl,rfl,rfl⟩:=hobe;rw[hc2] at hc0;rw[hb2];rcases cellN i0 j0 _ hi0 hj0 with⟨m,nn,N,_,_,_,he3,p1,p2,p3,p4,p7,_,p5,p6⟩|⟨hc,_⟩|⟨p1,p2,p6⟩
      ·rw[p6] at hc0 ⊢;exact⟨m,_,.inr p5,p7,.inl ⟨hc0,rfl⟩⟩
      ·simp[closedOne,W5] at hc
      ·rw[p6] at hc0 ⊢;exact⟨k,_,.inl rfl,hk,.inr ⟨_,_,_,_,_,_,_,_,_,_,_,rfl,hi0,p2,hc0,rfl⟩⟩
    ·rcases hv2 with hv2|⟨rfl,rfl⟩
     ·exact h.heap.l2 _ _ hv2
     ·exact hL
    ·rw[U0 hklt'] at hi2;split at hi2
     ·rename_i he2;subst he2;simp only[W8] at hi2;subst hi2;refine⟨_,_,_,_,_,rfl,?_⟩
      rcases hv2 with hv2|⟨_,rfl⟩
      ·have:=hcurk _ hv2;omega
      ·exact W4 _
     ·rename_i hne;obtain⟨g1,g2⟩:=N9 hi2;rcases hv2 with hv2|⟨e1,_⟩
      ·exact h.heap.cur _ _ _ g1 hv2
      ·exact absurd e1 hne
  ·cases he
 ·cases he

end
end Go.SS
