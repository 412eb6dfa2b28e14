/- A calculus of symbolic states: objects under other names; calls that write to what they are given. -/
import Derived.Test.YtghgljelnhfihaaGreatSS11SS12
namespace Go.SS
open Go.RowKit

def Env.ren(E:Env)(ρ:Nat->Option Nat)(len:Nat):Env where
 N:=E.N
 L:=λk=>k<len/\∃m,ρ k=some m/\E.L m
 β:=λk=>E.β ((ρ k).getD k)
 κ:=λk=>E.κ ((ρ k).getD k)
 z:=λk=>E.z ((ρ k).getD k)
 L2:=λk v=>k<len/\∃m,ρ k=some m/\E.L2 m v
 b2:=λk=>E.b2 ((ρ k).getD k)
 c2:=λk=>E.c2 ((ρ k).getD k)

section
variable {c:Ctx} {E:Env} {H H':Y1} {w w':World} {ρ:Nat->Option Nat} {len:Nat} {P:Program} {G:I2}

theorem Rd.ren(hlt:∀k m,ρ k=some m->k<len):∀(d:Nat) {t t':T} {x:Value},S4 ρ d t'=some t->Rd E w t x->Rd (E.ren ρ len) w t' x:=by
 intro d;induction d with
 |zero=>intro t t' x h;simp[S4] at h
 |succ d ih=>
  intro t t' x h hx;have list:∀(cs cs':List T) (vs:Array Value),O5 (S4 ρ d) cs'=some cs->cs.length=vs.size->(∀(i:Nat) (t:T) (x:Value),cs[i]? =some t->vs[i]? =some x->Rd E w t x)->
    cs'.length=vs.size/\∀(i:Nat) (t:T) (x:Value),cs'[i]? =some t->vs[i]? =some x->Rd (E.ren ρ len) w t x:=by
   intro cs cs' vs hm hl ht;obtain⟨h1,h2⟩:=L5 hm;refine⟨by omega,λi t x hi hx=> ?_⟩
   have hlt:i<cs.length:=by rw[h1];exact(z5.1 hi).1
   have hc:=K7 hlt
   exact ih (h2 i t _ hi hc) (ht i _ x hc hx)
  unfold S4 at h;split at h
  ·rename_i k i j;simp only[I3] at h;obtain⟨m,hm,rfl⟩:=h;cases hx with
   |ref _ _ _ hL=>
    have:=Rd.ref (E:=E.ren ρ len) (w:=w) k i j ⟨hlt k m hm,m,hm,hL⟩
    simpa[Env.ren,hm] using this
  ·rename_i k off n;simp only[I3] at h;obtain⟨m,hm,rfl⟩:=h;cases hx with
   |osl _ _ _ o a hL hn ho ha=>
    have:=Rd.osl (E:=E.ren ρ len) (w:=w) k off n o a ⟨hlt k m hm,m,hm,hL⟩ (by simpa[Env.ren,hm] using hn) (by simpa[Env.ren,hm] using ho) (by simpa[Env.ren,hm] using ha)
    simpa[Env.ren,hm] using this
  ·rename_i k;simp only[I3] at h;obtain⟨m,hm,rfl⟩:=h;cases hx with
   |mpr _ hL=>
    have:=Rd.mpr (E:=E.ren ρ len) (w:=w) k ⟨hlt k m hm,m,hm,hL⟩
    simpa[Env.ren,hm] using this
  ·rename_i k v i j n;simp only[I3] at h;obtain⟨m,hm,rfl⟩:=h;cases hx with
   |posl _ _ _ _ _ a hL hn ha=>
    have:=Rd.posl (E:=E.ren ρ len) (w:=w) k v i j n a ⟨hlt k m hm,m,hm,hL⟩ (by simpa[Env.ren,hm] using hn) (by simpa[Env.ren,hm] using ha)
    simpa[Env.ren,hm] using this
  ·rename_i k v i j z a b;simp only[I3] at h;obtain⟨m,hm,rfl⟩:=h;cases hx with
   |pref _ _ _ _ _ _ _ hL=>
    have:=Rd.pref (E:=E.ren ρ len) (w:=w) k v i j z a b ⟨hlt k m hm,m,hm,hL⟩
    simpa[Env.ren,hm] using this
  ·rename_i cs';simp only[I3] at h;obtain⟨cs,hm,rfl⟩:=h;cases hx with
   |agg _ vs hl ht=>obtain⟨a1,a2⟩:=list cs cs' vs hm hl ht;exact .agg _ vs a1 a2
  ·rename_i cs';simp only[I3] at h;obtain⟨cs,hm,rfl⟩:=h;cases hx with
   |tup _ vs hl ht=>obtain⟨a1,a2⟩:=list cs cs' vs hm hl ht;exact .tup _ vs a1 a2
  ·rename_i f cs';simp only[I3] at h;obtain⟨cs,hm,rfl⟩:=h;cases hx with
   |fn _ _ vs hl ht=>obtain⟨a1,a2⟩:=list cs cs' vs hm hl ht;exact .fn _ _ vs a1 a2
  ·rename_i n1 n2 n6 n7 n8 n3 n4 n5;simp only[W8] at h;subst h;have hc:∀{t:T} {x:Value},Rd E w t x->W5 t=true->Rd (E.ren ρ len) w t x:=λhx ht=>Rd.closed (E:=E) (E':=E.ren ρ len) (λ_ h=>h) hx ht
   cases hx with
   |und x=>exact .und x
   |ref=>exact absurd rfl (n1 _ _ _)
   |osl=>exact absurd rfl (n2 _ _ _)
   |mpr=>exact absurd rfl (n6 _)
   |posl=>exact absurd rfl (n7 _ _ _ _ _)
   |pref=>exact absurd rfl (n8 _ _ _ _ _ _ _)
   |agg=>exact absurd rfl (n3 _)
   |tup=>exact absurd rfl (n4 _)
   |fn=>exact absurd rfl (n5 _ _)
   |int=>exact .int _ _
   |bool=>exact .bool _
   |str=>exact .str _
   |v=>exact .v _
   |slNil=>exact .slNil _ _
   |slEmp=>exact .slEmp _ _ _
   |emp=>exact .emp _
   |bysEmp=>exact .bysEmp _
   |bysNil=>exact .bysNil
   |sl sz n row b off cap u h1 h2 h3 h4 h5 h6=>exact hc (.sl sz n row b off cap u h1 h2 h3 h4 h5 h6) rfl
   |bys l b off cap h1 h2 h3=>exact hc (.bys l b off cap h1 h2 h3) rfl
   |bref cells b off u h1 h2 h3 h4=>exact hc (.bref cells b off u h1 h2 h3 h4) rfl

theorem b3n:∀{d:Nat} {t t':T},S4 ρ d t'=some t->J7 t=true->J7 t'=true:=by
 intro d t t' h ht;cases d with
 |zero=>simp[S4] at h
 |succ d=>
  unfold S4 at h;split at h
  ·rfl
  ·rfl
  ·rfl
  ·rfl
  ·rfl
  ·simp only[I3] at h;obtain⟨cs,_,rfl⟩:=h;simp[J7] at ht
  ·simp only[I3] at h;obtain⟨cs,_,rfl⟩:=h;simp[J7] at ht
  ·rfl
  ·simp only[W8] at h;subst h;exact ht


theorem b3u{ρ1 ρ2:Nat->Option Nat}(h:∀k i,ρ1 k=some i->ρ2 i=some k):∀{d:Nat} {t t':T},S4 ρ1 d t=some t'->S4 ρ2 d t'=some t:=by
 intro d;induction d with
 |zero=>intro t t' ht;simp[S4] at ht
 |succ d ih=>
  have list:∀{l q:List T},O5 (S4 ρ1 d) l=some q->O5 (S4 ρ2 d) q=some l:=by
   intro l;induction l with
   |nil=>intro q hq;simp only[O5,W8] at hq;subst hq;rfl
   |cons x l ihl=>
    intro q hq;simp only[O5] at hq;split at hq
    ·rename_i hb hr;simp only[W8] at hq;subst hq;simp only[O5,ih hb,ihl hr]
    ·cases hq
  intro t t' ht;unfold S4 at ht;split at ht
  ·simp only[I3] at ht;obtain⟨m,hm,rfl⟩:=ht;simp[S4,h _ _ hm]
  ·simp only[I3] at ht;obtain⟨m,hm,rfl⟩:=ht;simp[S4,h _ _ hm]
  ·simp only[I3] at ht;obtain⟨m,hm,rfl⟩:=ht;simp[S4,h _ _ hm]
  ·simp only[I3] at ht;obtain⟨m,hm,rfl⟩:=ht;simp[S4,h _ _ hm]
  ·simp only[I3] at ht;obtain⟨m,hm,rfl⟩:=ht;simp[S4,h _ _ hm]
  ·simp only[I3] at ht;obtain⟨cs,hm,rfl⟩:=ht;simp[S4,list hm]
  ·simp only[I3] at ht;obtain⟨cs,hm,rfl⟩:=ht;simp[S4,list hm]
  ·simp only[I3] at ht;obtain⟨cs,hm,rfl⟩:=ht;simp[S4,list hm]
  ·rename_i n1 n2 n6 n7 n8 n3 n4 n5;simp only[W8] at ht;subst ht;unfold S4;split
   ·exact absurd rfl (n1 _ _ _)
   ·exact absurd rfl (n2 _ _ _)
   ·exact absurd rfl (n6 _)
   ·exact absurd rfl (n7 _ _ _ _ _)
   ·exact absurd rfl (n8 _ _ _ _ _ _ _)
   ·exact absurd rfl (n3 _)
   ·exact absurd rfl (n4 _)
   ·exact absurd rfl (n5 _ _)
   ·rfl

theorem nN{d:Nat}{t:T}(h:W5 t=true):S4 ρ (d+1) t=some t:=by
 cases t<;>first|rfl|(simp[W5] at h)

theorem a8m{d:Nat}{t t':T}(h:S4 ρ d t=some t')(ht:J7 t=true):J7 t'=true:=by
 cases d with
 |zero=>simp[S4] at h
 |succ d=>
  unfold S4 at h;split at h
  ·simp only[I3] at h;obtain⟨_,_,rfl⟩:=h;rfl
  ·simp only[I3] at h;obtain⟨_,_,rfl⟩:=h;rfl
  ·simp only[I3] at h;obtain⟨_,_,rfl⟩:=h;rfl
  ·simp only[I3] at h;obtain⟨_,_,rfl⟩:=h;rfl
  ·simp only[I3] at h;obtain⟨_,_,rfl⟩:=h;rfl
  ·simp[J7] at ht
  ·simp[J7] at ht
  ·simp only[I3] at h;obtain⟨_,_,rfl⟩:=h;rfl
  ·simp only[W8] at h;subst h;exact ht

def ObQ(Q:T->Prop)(ob:Ob):Prop:=
 match ob with
 | .fam _ _ _ n row=>(∀i t,i<n->t ∈ row i->closedOne t=true->Q t)/\∀i oty osz on orow,i<n->T.own oty osz on orow ∈ row i->∀a t,a<on->t ∈ orow a->Q t
 |ob=>∀i t,i<ob.toArr.n->t ∈ ob.toArr.row i->Q t

theorem a6p{Q:T->Prop}{E2:Env}{k k2:Nat}{ob ob':Ob}(h:S9 E w k ob.toArr)(hQ:∀i t,i<ob.toArr.n->t ∈ ob.toArr.row i->Q t)(hia:ob.isArr=true)(hf:pH ρ ob=some ob')(hrd:∀t t' x,Q t->S4 ρ 6 t=some t'->Rd E w t x->Rd E2 w' t' x)
  (hb:E2.β k2=E.β k) (hκ:E2.κ k2=E.κ k) (hz:E2.z k2=E.z k) (hw:E.κ k≠0->w'.heap[E.β k]? =w.heap[E.β k]?):S9 E2 w' k2 ob'.toArr:=by
 obtain⟨hz0,hn,hl,hone,hcl,cs,ty,hblk0,hsz,hc⟩:=h;have hblk:E.κ k≠0->w'.heap[E.β k]? =some (.cells cs ty (0,0)):=λhκ=>by rw[hw hκ];exact hblk0 hκ
 have hcl':∀t x,Q t->W5 t=true->Rd E w t x->Rd E2 w' t x:=λt x hq ht hx=>hrd t t x hq (nN ht) hx
 unfold S9;rw[hb,hκ,hz];unfold pH at hf;split at hf
 ·simp only[W8] at hf;subst hf;refine⟨hz0,hn,hl,hone,hcl,cs,ty,hblk,hsz,λi j t hi hj=> ?_⟩
  obtain⟨u,hu,hr⟩:=hc i j t hi hj;exact⟨u,hu,hcl' t u (hQ i t hi (B5 hj)) (hcl rfl i t hi (B5 hj)) hr⟩
 ·cases hia
 ·simp only[W8] at hf;subst hf;refine⟨hz0,hn,hl,hone,hcl,cs,ty,hblk,hsz,λi j t hi hj=> ?_⟩
  obtain⟨u,hu,hr⟩:=hc i j t hi hj;exact⟨u,hu,hcl' t u (hQ i t hi (B5 hj)) (hcl rfl i t hi (B5 hj)) hr⟩
 ·split at hf
  ·rename_i ty0 sz row n0;simp only[I3] at hf;obtain⟨r,hr,rfl⟩:=hf;obtain⟨h1,h2⟩:=L5 hr;simp only[Ob.toArr] at*;have hget:∀(j:Nat) (t':T),r[j]? =some t'->∃t,(row 0)[j]? =some t/\S4 ρ 6 t=some t':=by
    intro j t' hj;have hlt:j<(row 0).length:=by rw[←h1];exact(z5.1 hj).1
    exact⟨_,K7 hlt,h2 j _ t' (K7 hlt) hj⟩
   refine⟨hz0,hn,λi hi=> ?_,λi t hi ht=> ?_,λhc'=>(by cases hc'),cs,ty,hblk,hsz,λi j t hi hj=> ?_⟩
   ·rw[h1];exact hl 0 (by omega)
   ·obtain⟨j,hj⟩:=List.getElem?_of_mem ht
    obtain⟨t0,h0,hr0⟩:=hget j t hj;exact a8m hr0 (hone 0 t0 (by omega) (B5 h0))
   ·obtain rfl:i=0:=by omega
    obtain⟨t0,h0,hr0⟩:=hget j t hj;obtain⟨u,hu,hr⟩:=hc 0 j t0 (by omega) h0
    exact⟨u,hu,hrd t0 t u (hQ 0 t0 (by omega) (B5 h0)) hr0 hr⟩
  ·cases hf
 ·cases hia
 ·cases hia

theorem FamOk.ren{E2:Env}{k k2 v:Nat}{ty:TypeId}{sz n:Nat}{row:Nat->List T}(h:FamOk E w k v ty sz n row){Q:T->Prop}(hQ:ObQ Q (.fam v ty sz n row))(hrd:∀t x,Q t->W5 t=true->Rd E w t x->Rd E2 w' t x)
  (hb:E2.β k2=E.β k) (hκ:E2.κ k2=E.κ k) (hz:E2.z k2=E.z k) (hL2:E2.L2 k2 v) (hb2:∀i j,E2.b2 k2 v i j=E.b2 k v i j) (hc2:∀i j,E2.c2 k2 v i j=E.c2 k v i j)
  (hw:∀b,E6 E k (.fam v ty sz n row) b->w'.heap[b]? =w.heap[b]?):FamOk E2 w' k2 v ty sz n row:=by
 obtain⟨hz0,hn,hl,hone,hcl,cs,ty',hblk,hsz,hc⟩:=h.arr;refine s9 hL2 (by rw[hz];exact hz0) (by rw[hκ];exact hn) cs ty' (λh0=>by rw[hκ] at h0;rw[hb,hw _ (.inl ⟨h0,rfl⟩)];exact hblk h0) (by rw[hκ,hz];exact hsz) (λr hr=>by have:=hl r hr;rwa [P0] at this) (λr q t hr hq=> ?_) (λi j i' j' oty osz on orow oty' osz' on' orow' hi hi' hj hj' hc hc' he=> ?_)
 ·obtain⟨u,hu,hru⟩:=hc r q (uJ k v r q t) hr (by simp only;rw[M4,hq];rfl)
  rcases h.cell hr hq with hco|⟨oty,osz,on,orow,rfl⟩
  ·rw[O3 hco] at hru;exact⟨u,hu,.inl ⟨hco,hrd t u (hQ.1 r t hr (B5 hq) hco) (N4 hco).1 hru⟩⟩
  ·obtain⟨g1,g2⟩:=h.own r q _ _ _ _ hr hq;refine⟨u,hu,.inr ⟨_,_,_,_,rfl,?_,?_,by rw[hb2,hc2,hκ,hb];exact g2⟩⟩
   ·cases hru with
    |posl _ _ _ _ _ a hL hn ha=>
     have:=Rd.posl (E:=E2) (w:=w') k2 v r q on a hL2 (by rw[hc2];exact hn) (by rw[hc2,hb2];exact ha)
     rw[hc2] at this;exact this
   ·obtain⟨e1,e2,e3,e4,e5,cs2,ty2,e6,e7,e8⟩:=g1;refine⟨e1,(show on<=E2.c2 k2 v r q by rw[hc2];exact e2),e3,e4,e5,cs2,ty2,λh0=> ?_,(show eE cs2 (E2.c2 k2 v r q*osz) [] by rw[hc2];exact e7),λi j t hi hj=> ?_⟩
    ·have h0:E2.c2 k2 v r q≠0:=h0;rw[hc2] at h0;show w'.heap[E2.b2 k2 v r q]? =_;rw[hb2,hw _ (.inr ⟨_,_,_,_,_,_,_,_,_,_,_,rfl,hr,hq,h0,rfl⟩)];exact e6 h0
    ·obtain⟨u1,hu1,hr1⟩:=e8 i j t hi hj;have hct:=e5 rfl i t hi (B5 hj);exact⟨u1,hu1,F1 (E:=E2) (E':=E2.sub k2 v r q osz) (λ_ h=>h) (hrd t u1 (hQ.2 r _ _ _ _ hr (B5 hq) i t hi (B5 hj)) hct (F1 (E:=E.sub k v r q osz) (E':=E) (λ_ h=>h) hr1 hct)) hct⟩
 ·rw[hc2] at hc hc';rw[hb2,hb2] at he;exact h.inj i j i' j' oty osz on orow oty' osz' on' orow' hi hi' hj hj' hc hc' he

theorem b57{ob ob':Ob}(hf:pH ρ ob=some ob'):(∃v ty sz n row,ob= .fam v ty sz n row/\ob'= .fam v ty sz n row)∨((∀v ty sz n row,ob≠ .fam v ty sz n row)/\∀v ty sz n row,ob'≠ .fam v ty sz n row):=by
 unfold pH at hf;split at hf
 ·simp only[W8] at hf;subst hf;exact .inr ⟨(by rintro _ _ _ _ _ h;cases h),(by rintro _ _ _ _ _ h;cases h)⟩
 ·simp only[W8] at hf;subst hf;exact .inl ⟨_,_,_,_,_,rfl,rfl⟩
 ·simp only[W8] at hf;subst hf;exact .inr ⟨(by rintro _ _ _ _ _ h;cases h),(by rintro _ _ _ _ _ h;cases h)⟩
 ·split at hf
  ·simp only[I3] at hf;obtain⟨_,_,rfl⟩:=hf;exact .inr ⟨(by rintro _ _ _ _ _ h;cases h),(by rintro _ _ _ _ _ h;cases h)⟩
  ·cases hf
 ·simp only[W8] at hf;subst hf;exact .inr ⟨(by rintro _ _ _ _ _ h;cases h),(by rintro _ _ _ _ _ h;cases h)⟩
 ·simp only[W8] at hf;subst hf;exact .inr ⟨(by rintro _ _ _ _ _ h;cases h),(by rintro _ _ _ _ _ h;cases h)⟩

theorem mW{E2:Env}{k k2:Nat}{ob ob':Ob}{b:Nat}(h:m6 E w k ob)(hf:pH ρ ob=some ob')(hb:E2.β k2=E.β k)(hκ:E2.κ k2=E.κ k)
  (h2:∀v,E.L2 k v->E2.L2 k2 v/\∀i j,E2.b2 k2 v i j=E.b2 k v i j/\E2.c2 k2 v i j=E.c2 k v i j) (hx:E6 E2 k2 ob' b):E6 E k ob b:=by
 rcases hx with⟨h1,rfl⟩|⟨v,ty,sz,n,row,i,j,oty,osz,on,orow,rfl,hi,hj,hc,rfl⟩
 ·rw[hκ] at h1;exact .inl ⟨h1,hb⟩
 ·rcases b57 hf with⟨v',ty',sz',n',row',rfl,he⟩|⟨_,hn⟩
  ·cases he;have hF:FamOk E w k v ty sz n row:=h;obtain⟨_,h3⟩:=h2 v hF.l2;rw[(h3 i j).2] at hc;exact .inr ⟨v,ty,sz,n,row,i,j,oty,osz,on,orow,rfl,hi,hj,hc,(h3 i j).1⟩
  ·exact absurd rfl (hn _ _ _ _ _)

theorem a55{Q:T->Prop}{E2:Env}{k k2:Nat}{ob ob':Ob}(h:m6 E w k ob)(hQ:ObQ Q ob)(hf:pH ρ ob=some ob')(hrd:∀t t' x,Q t->S4 ρ 6 t=some t'->Rd E w t x->Rd E2 w' t' x)
  (hb:E2.β k2=E.β k) (hκ:E2.κ k2=E.κ k) (hz:E2.z k2=E.z k) (h2:∀v,E.L2 k v->E2.L2 k2 v/\∀i j,E2.b2 k2 v i j=E.b2 k v i j/\E2.c2 k2 v i j=E.c2 k v i j) (hw:∀b,E6 E k ob b->w'.heap[b]? =w.heap[b]?):m6 E2 w' k2 ob':=by
 have hw0:E.κ k≠0->w'.heap[E.β k]? =w.heap[E.β k]? :=λh0=>hw _ (.inl ⟨h0,rfl⟩)
 cases ob with
 |mp bo get=>
  simp only[pH,W8] at hf;subst hf;obtain⟨h0,es,clock,h1,h2⟩:=h;exact⟨by rw[hκ];exact h0,es,clock,by rw[hb,hw0 h0];exact h1,h2⟩
 |mp2 get=>
  simp only[pH,W8] at hf;subst hf;obtain⟨h0,es,clock,h1,h2⟩:=h;exact⟨by rw[hκ];exact h0,es,clock,by rw[hb,hw0 h0];exact h1,h2⟩
 |fam v ty sz n row=>
  simp only[pH,W8] at hf;subst hf;have hF:FamOk E w k v ty sz n row:=h;obtain⟨h3,h4⟩:=h2 v hF.l2;exact FamOk.ren hF hQ (λt x hq ht hx=>hrd t t x hq (nN ht) hx) hb hκ hz h3 (λi j=>(h4 i j).1) (λi j=>(h4 i j).2) hw
 |arr cl ty sz n row=>
  have hia:ob'.isArr=true:=by
   cases cl
   ·simp only[pH] at hf;split at hf
    ·simp only[I3] at hf;obtain⟨_,_,rfl⟩:=hf;rfl
    ·cases hf
   ·simp only[pH,W8] at hf;subst hf;rfl
  exact S9.ob (a6p (ob:=.arr cl ty sz n row) h hQ rfl hf hrd hb hκ hz hw0) hia
 |bys ty l=>
  have hia:ob'.isArr=true:=by simp only[pH,W8] at hf;subst hf;rfl
  exact S9.ob (a6p (ob:=.bys ty l) h hQ rfl hf hrd hb hκ hz hw0) hia

theorem iW(ob:Ob):ObQ (λ_=>True) ob:=by
 cases ob<;>first|exact⟨λ_ _ _ _ _=>trivial,λ_ _ _ _ _ _ _ _ _ _ _=>trivial⟩|exact λ_ _ _ _=>trivial

theorem a3j{E2:Env}{k k2:Nat}{ob ob':Ob}(h:m6 E w k ob)(hf:pH ρ ob=some ob')(hrd:∀t t' x,S4 ρ 6 t=some t'->Rd E w t x->Rd E2 w' t' x)
  (hb:E2.β k2=E.β k) (hκ:E2.κ k2=E.κ k) (hz:E2.z k2=E.z k) (h2:∀v,E.L2 k v->E2.L2 k2 v/\∀i j,E2.b2 k2 v i j=E.b2 k v i j/\E2.c2 k2 v i j=E.c2 k v i j) (hw:∀b,E6 E k ob b->w'.heap[b]? =w.heap[b]?):m6 E2 w' k2 ob':=
 a55 h (iW ob) hf (λt t' x _=>hrd t t' x) hb hκ hz h2 hw

theorem a6r{k:Nat}:∀{l:List Nat},memN k l=true↔k ∈ l:=by
 intro l;induction l with
 |nil=>simp[memN]
 |cons x l ih=>simp[memN,ih]

theorem a8K:∀{l:List Nat},a0I l=true->l.Nodup:=by
 intro l;induction l with
 |nil=>intro _;exact List.nodup_nil
 |cons x l ih=>
  intro h;simp only[a0I,L3,xP] at h;refine List.nodup_cons.2 ⟨λhm=> ?_,ih h.2⟩
  rw[a6r.2 hm] at h;cases h.1

theorem yE:∀{l:List Nat} {i:Nat},mA l i=l[i]? :=by
 intro l;induction l with
 |nil=>intro i;simp[mA]
 |cons x l ih=>intro i;cases i with|zero=>simp[mA]|succ i=>simp[mA,ih]

theorem b3K{k:Nat}:∀{l:List Nat} {n i:Nat},u7 k l n=some i->n<=i/\l[i-n]? =some k:=by
 intro l;induction l with
 |nil=>intro n i h;simp[u7] at h
 |cons x l ih=>
  intro n i h;simp only[u7] at h;split at h
  ·rename_i hb;simp only[W8] at h;subst h;rw[G3 hb];simp
  ·obtain⟨h1,h2⟩:=ih h;refine⟨by omega,?_⟩
   rw[show i-n=(i- (n+1))+1 by omega]
   simpa using h2

theorem b0V{k:Nat}:∀{l:List Nat} {n i:Nat},l.Nodup->l[i]? =some k->u7 k l n=some (n+i):=by
 intro l;induction l with
 |nil=>intro n i _ h;simp at h
 |cons x l ih=>
  intro n i hnd h;obtain⟨hx,hnd'⟩:=List.nodup_cons.1 hnd;simp only[u7];cases i with
  |zero=>
   simp only[List.getElem?_cons_zero,W8] at h
   subst h;simp
  |succ i=>
   simp only[List.getElem?_cons_succ] at h
   have hne:Nat.beq k x=false:=by
    cases hb:Nat.beq k x with
    |false=>rfl
    |true=>rw[G3 hb] at h;exact absurd (B5 h) hx
   rw[hne];simp only;rw[ih hnd' h];congr 1
   omega

theorem a8t:∀{ks:List Nat} {os:List (Option Ob)} {H:Y1},ks.Nodup->(∀k ∈ ks,k<H.length)->os.length=ks.length->(O4 H ks os).length=H.length/\
  (∀(i k:Nat) (o:Option Ob),ks[i]? =some k->os[i]? =some o->Z0 (O4 H ks os) k=o)/\∀k,k ∉ ks->Z0 (O4 H ks os) k=Z0 H k:=by
 intro ks;induction ks with
 |nil=>intro os H _ _ _;exact⟨by cases os<;>simp[O4],λi k o h=>by simp at h,λk _=>by cases os<;>simp[O4]⟩
 |cons x ks ih=>
  intro os H hnd hlt hlen;cases os with
  |nil=>simp at hlen
  |cons o os=>
   obtain⟨hx,hnd'⟩:=List.nodup_cons.1 hnd;have hxl:=hlt x (by simp)
   obtain⟨h1,h2,h3⟩:=ih (os:=os) (H:=H.set x o) hnd' (λk hk=>by simp;exact hlt k (by simp[hk])) (by simpa using hlen)
   simp only[O4];refine⟨by simpa using h1,λi k o' hi ho=> ?_,λk hk=> ?_⟩
   ·cases i with
    |zero=>
     simp at hi ho;subst hi;subst ho;rw[h3 _ hx,U0 hxl,if_pos rfl]
    |succ i=>exact h2 i k o' (by simpa using hi) (by simpa using ho)
   ·simp only[wY,not_or] at hk;rw[h3 k hk.2,U0 hxl,if_neg hk.1]

theorem a9x{obs:List Ob}{i:Nat}{ob:Ob}:Z0 (obs.map some) i=some ob↔obs[i]? =some ob:=by
 unfold Z0;simp only[pN]
 cases obs[i]? with
 |none=>simp
 |some x=>simp

def Env.glue(E E':Env)(ι:Nat->Option Nat)(N:Nat->Prop):Env where
 N:=N
 L:=λk=>match ι k with|some i=>E'.L i|none=>E.L k
 β:=λk=>match ι k with|some i=>E'.β i|none=>E.β k
 κ:=λk=>match ι k with|some i=>E'.κ i|none=>E.κ k
 z:=λk=>match ι k with|some i=>E'.z i|none=>E.z k
 L2:=λk v=>match ι k with|some i=>E'.L2 i v|none=>E.L2 k v
 b2:=λk=>match ι k with|some i=>E'.b2 i|none=>E.b2 k
 c2:=λk=>match ι k with|some i=>E'.c2 i|none=>E.c2 k

theorem a6o(h:Inv c E H w){E':Env}{H0 H'':Y1}{w':World}{ι:Nat->Option Nat}{N:Nat->Prop}{X N0:Nat->Prop}{nt:Nat}{E1:Env}(hI:Inv ⟨w,X,N0,nt,E1,0⟩ E' H0 w')
  (hst:Step E w (E.glue E' ι N) w') (hN:∀b,N b->E'.N b) (hnn:∀b,N b->E.N b∨w.heap.size<=b∨X b) (hX:∀b,X b->∃k ob i,Z0 H k=some ob/\E6 E k ob b/\ι k=some i)
  (hinj:∀k k' i,ι k=some i->ι k'=some i->k=k')
  (hget:∀k ob,Z0 H'' k=some ob->(∃i ob',ι k=some i/\Z0 H0 i=some ob'/\m6 (E.glue E' ι N) w' k ob/\(∀b,E6 (E.glue E' ι N) k ob b->E6 E' i ob' b)/\∀v ty sz n row,ob'= .fam v ty sz n row->∃row',ob= .fam v ty sz n row')∨(ι k=none/\Z0 H k=some ob))
  (hlen:∀k i,ι k=some i->i<H0.length->k<H''.length) (hle:H.length<=H''.length):Inv c (E.glue E' ι N) H'' w':=by
 have hsize:w.heap.size<=w'.heap.size:=hI.fr.size;have old:∀{k ob},ι k=none->Z0 H k=some ob->∀b,E6 (E.glue E' ι N) k ob b->E6 E k ob b:=λ{k ob} hk hob b hb=>by
  obtain⟨e1,e2,_⟩:=h.heap.live k ob hob;exact hb.back e2 e1 hst.le
 have notX:∀{k ob},ι k=none->Z0 H k=some ob->∀b,E6 E k ob b->¬X b:=λ{k ob} hk hob b hb hx=>by
  obtain⟨k2,ob2,i,h1,h2,h3⟩:=hX b hx;have:=h.heap.inj k k2 ob ob2 b hob h1 hb h2;subst this;rw[hk] at h3;cases h3
 refine⟨⟨λk ob hk=> ?_,λk k' o o' b hk hk' hb hb'=> ?_,λk hk=> ?_,λk v hk=> ?_,λk ob v hk hv=> ?_⟩,λb hb=>hI.nlt b (hN b hb),λb hb=> ?_,λk ob b hk hb=> ?_,?_,h.keep.step hst⟩
 ·rcases hget k ob hk with⟨i,ob',hi,hob',h1,h2,_⟩|⟨hi,hob⟩
  ·obtain⟨l1,l2,l3⟩:=hI.heap.live i ob' hob';refine⟨by simp only[Env.glue,hi];exact l1,h1,λb hb hb'=>l3 b (h2 b hb) (hN b hb')⟩
  ·obtain⟨l1,l2,l3⟩:=h.heap.live k ob hob;refine⟨by simp only[Env.glue,hi];exact l1,l2.mono l1 hst (λb hb=>hI.fr.block b (l2.blt hb) (notX hi hob b hb)),λb hb hb'=> ?_⟩
   have hb:=old hi hob b hb;rcases hnn b hb' with h3|h3|h3
   ·exact l3 b hb h3
   ·have:=l2.blt hb;omega
   ·exact notX hi hob b hb h3
 ·rcases hget k o hk with⟨i,ob,hi,hob,_,h2,_⟩|⟨hi,hob⟩<;>rcases hget k' o' hk' with⟨i',ob',hi',hob',_,h2',_⟩|⟨hi',hob'⟩
  ·have:=hI.heap.inj i i' ob ob' b hob hob' (h2 b hb) (h2' b hb');subst this;exact hinj k k' i hi hi'
  ·have hb':=old hi' hob' b hb';rcases hI.bnew i ob b hob (h2 b hb) with h3|h3
   ·have:=h.heap.blt hob' hb';have h3:w.heap.size<=b:=h3;omega
   ·exact absurd h3 (notX hi' hob' b hb')
  ·have hb:=old hi hob b hb;rcases hI.bnew i' ob' b hob' (h2' b hb') with h3|h3
   ·have:=h.heap.blt hob hb;have h3:w.heap.size<=b:=h3;omega
   ·exact absurd h3 (notX hi hob b hb)
  ·exact h.heap.inj k k' o o' b hob hob' (old hi hob b hb) (old hi' hob' b hb')
 ·simp only[Env.glue] at hk;cases hi:ι k with
  |some i=>rw[hi] at hk;exact hlen k i hi (hI.heap.lt i hk)
  |none=>rw[hi] at hk;have:=h.heap.lt k hk;omega
 ·simp only[Env.glue] at hk ⊢;cases hi:ι k with
  |some i=>rw[hi] at hk;exact hI.heap.l2 i v hk
  |none=>rw[hi] at hk;exact h.heap.l2 k v hk
 ·simp only[Env.glue] at hv;rcases hget k ob hk with⟨i,ob',hi,hob',_,_,h3⟩|⟨hi,hob⟩
  ·rw[hi] at hv;obtain⟨v0,ty,sz,n,row,he,hle⟩:=hI.heap.cur i ob' v hob' hv;obtain⟨row',he'⟩:=h3 _ _ _ _ _ he;exact⟨v0,ty,sz,n,row',he',hle⟩
  ·rw[hi] at hv;exact h.heap.cur k ob v hob hv
 ·rcases hnn b hb with h3|h3|h3
  ·exact h.nnew b h3
  ·have:=h.fr.size;exact .inr (.inl (by omega))
  ·obtain⟨k,ob,_,h1,h2,_⟩:=hX b h3;exact .inr (h.bnew k ob b h1 h2)
 ·rcases hget k ob hk with⟨i,ob',hi,hob',_,h2,_⟩|⟨hi,hob⟩
  ·rcases hI.bnew i ob' b hob' (h2 b hb) with h3|h3
   ·have h3:w.heap.size<=b:=h3;have:=h.fr.size;exact .inl (by omega)
   ·obtain⟨k2,ob2,_,g1,g2,_⟩:=hX b h3;exact h.bnew k2 ob2 b g1 g2
  ·exact h.bnew k ob b hob (old hi hob b hb)
 ·refine⟨hI.fr.os.trans h.fr.os,hI.fr.tape.trans h.fr.tape,hI.fr.output.trans h.fr.output,Nat.le_trans h.fr.size hsize,λb hb hXb=> ?_⟩
  have hb':b<w.heap.size:=wM hb h.fr.size;refine(hI.fr.block b hb' λhx=> ?_).trans (h.fr.block b hb hXb)
  obtain⟨k,ob,_,h1,h2,_⟩:=hX b hx;rcases h.bnew k ob b h1 h2 with h3|h3
  ·omega
  ·exact hXb h3

theorem a2g:∀(ks:List Nat) (os:List (Option Ob)) (H:Y1),O4 H ks os=O4 H ks (os.take ks.length):=by
 intro ks;induction ks with
 |nil=>intro os H;cases os<;>rfl
 |cons k ks ih=>
  intro os H;cases os with
  |nil=>rfl
  |cons o os=>simp only[List.length_cons,List.take_succ_cons,O4];exact ih os _

theorem a2n{E':Env}{ι ρ:Nat->Option Nat}{N:Nat->Prop}(hN:∀b,E'.N b->N b)(hρ:∀i k,ρ i=some k->ι k=some i):∀(d:Nat) {t t':T} {x:Value},S4 ρ d t=some t'->Rd E' w' t x->Rd (E.glue E' ι N) w' t' x:=by
 intro d;induction d with
 |zero=>intro t t' x h;simp[S4] at h
 |succ d ih=>
  intro t t' x h hx;have list:∀(cs cs':List T) (vs:Array Value),O5 (S4 ρ d) cs=some cs'->cs.length=vs.size->(∀(i:Nat) (t:T) (x:Value),cs[i]? =some t->vs[i]? =some x->Rd E' w' t x)->
    cs'.length=vs.size/\∀(i:Nat) (t:T) (x:Value),cs'[i]? =some t->vs[i]? =some x->Rd (E.glue E' ι N) w' t x:=by
   intro cs cs' vs hm hl ht;obtain⟨h1,h2⟩:=L5 hm;refine⟨by omega,λi t x hi hx=> ?_⟩
   have hlt:i<cs.length:=by rw[←h1];exact(z5.1 hi).1
   have hc:=K7 hlt
   exact ih (h2 i _ t hc hi) (ht i _ x hc hx)
  unfold S4 at h;split at h
  ·rename_i k i j;simp only[I3] at h;obtain⟨m,hm,rfl⟩:=h;cases hx with
   |ref _ _ _ hL=>
    have hi:=hρ _ _ hm;have:=Rd.ref (E:=E.glue E' ι N) (w:=w') m i j (by simp only[Env.glue,hi];exact hL)
    simpa[Env.glue,hi] using this
  ·rename_i k off n;simp only[I3] at h;obtain⟨m,hm,rfl⟩:=h;cases hx with
   |osl _ _ _ o a hL hn ho ha=>
    have hi:=hρ _ _ hm;have:=Rd.osl (E:=E.glue E' ι N) (w:=w') m off n o a (by simp only[Env.glue,hi];exact hL) (by simpa[Env.glue,hi] using hn) (by simpa[Env.glue,hi] using ho) (by simpa[Env.glue,hi] using ha)
    simpa[Env.glue,hi] using this
  ·simp only[I3] at h;obtain⟨m,hm,rfl⟩:=h;cases hx with
   |mpr k hL=>
    have hi:=hρ _ _ hm;have:=Rd.mpr (E:=E.glue E' ι N) (w:=w') m (by simp only[Env.glue,hi];exact hL)
    simpa[Env.glue,hi] using this
  ·rename_i k v i j n;simp only[I3] at h;obtain⟨m,hm,rfl⟩:=h;cases hx with
   |posl _ _ _ _ _ a hL hn ha=>
    have hi:=hρ _ _ hm;have:=Rd.posl (E:=E.glue E' ι N) (w:=w') m v i j n a (by simp only[Env.glue,hi];exact hL) (by simpa[Env.glue,hi] using hn) (by simpa[Env.glue,hi] using ha)
    simpa[Env.glue,hi] using this
  ·rename_i k v i j z a b;simp only[I3] at h;obtain⟨m,hm,rfl⟩:=h;cases hx with
   |pref _ _ _ _ _ _ _ hL=>
    have hi:=hρ _ _ hm;have:=Rd.pref (E:=E.glue E' ι N) (w:=w') m v i j z a b (by simp only[Env.glue,hi];exact hL)
    simpa[Env.glue,hi] using this
  ·simp only[I3] at h;obtain⟨cs,hm,rfl⟩:=h;cases hx with
   |agg _ vs hl ht=>obtain⟨a1,a2⟩:=list _ _ vs hm hl ht;exact .agg _ vs a1 a2
  ·simp only[I3] at h;obtain⟨cs,hm,rfl⟩:=h;cases hx with
   |tup _ vs hl ht=>obtain⟨a1,a2⟩:=list _ _ vs hm hl ht;exact .tup _ vs a1 a2
  ·simp only[I3] at h;obtain⟨cs,hm,rfl⟩:=h;cases hx with
   |fn _ _ vs hl ht=>obtain⟨a1,a2⟩:=list _ _ vs hm hl ht;exact .fn _ _ vs a1 a2
  ·rename_i n1 n2 n6 n7 n8 n3 n4 n5;simp only[W8] at h;subst h;cases hx with
   |und x=>exact .und x
   |ref=>exact absurd rfl (n1 _ _ _)
   |osl=>exact absurd rfl (n2 _ _ _)
   |mpr=>exact absurd rfl (n6 _)
   |posl=>exact absurd rfl (n7 _ _ _ _ _)
   |pref=>exact absurd rfl (n8 _ _ _ _ _ _ _)
   |agg=>exact absurd rfl (n3 _)
   |tup=>exact absurd rfl (n4 _)
   |fn=>exact absurd rfl (n5 _ _)
   |int=>exact .int _ _
   |bool=>exact .bool _
   |str=>exact .str _
   |v=>exact .v _
   |slNil=>exact .slNil _ _
   |slEmp=>exact .slEmp _ _ _
   |emp=>exact .emp _
   |bysEmp=>exact .bysEmp _
   |bysNil=>exact .bysNil
   |sl sz n row b off cap u h1 h2 h3 h4 h5 h6=>exact Rd.closed (E':=E.glue E' ι N) hN (.sl sz n row b off cap u h1 h2 h3 h4 h5 h6) rfl
   |bys l b off cap h1 h2 h3=>exact Rd.closed (E':=E.glue E' ι N) hN (.bys l b off cap h1 h2 h3) rfl
   |bref cells b off u h1 h2 h3 h4=>exact Rd.closed (E':=E.glue E' ι N) hN (.bref cells b off u h1 h2 h3 h4) rfl

theorem a3r{ρ:Nat->Option Nat}{o o':Option Ob}(h:obB ρ o=some o'):(o=none/\o'=none)∨∃ob ob',o=some ob/\o'=some ob'/\pH ρ ob=some ob':=by
 cases o with
 |none=>simp only[obB,W8] at h;exact .inl ⟨rfl,h.symm⟩
 |some ob=>simp only[obB,I3] at h;obtain⟨ob',h1,rfl⟩:=h;exact .inr ⟨ob,ob',rfl,rfl,h1⟩

theorem a1L(h:Inv c E H w){f:FuncId}{cf:List T->Y1->Option (T×Y1×Option Prop)}(hf:kH P f cf){ks:List Nat}{args:List T}{vs:Array Value}{r:T}{p:Option Prop}(he:m7 cf H ks args=some (r,H',p))(hp:p.getD True)(ha:vB E w args vs):
  Calls P f vs w λe w'=>∃v E',e= .returned v/\Inv c E' H' w'/\Step E w E' w'/\Rd E' w' r v:=by
 unfold m7 at he;split at he
 case h_2=>cases he
 rename_i as obs hnd has hobs;split at he
 case h_2=>cases he
 rename_i r0 H0' p0 hc;split at he
 case h_2=>cases he
 rename_i r1 os hlen hr1 hos;simp only[W8,T5] at he;obtain⟨rfl,rfl,rfl⟩:=he;have hlen:=v6 hlen;have hnodup:=a8K hnd;have hfn:=hf as (obs.map some) r0 H0' p0 hc hp;obtain⟨o1,o2⟩:=L5 hobs;obtain⟨a1,a2⟩:=L5 has;obtain⟨s1,s2⟩:=L5 hos;have inv1:∀k i,(λk=>u7 k ks 0) k=some i->mA ks i=some k:=λk i hk=>by
  rw[yE];have:=(b3K hk).2;simpa using this
 have inv2:∀i k,mA ks i=some k->u7 k ks 0=some i:=λi k hi=>by
  rw[yE] at hi;have:=b0V (n:=0) hnodup hi
  simpa using this
 have nlt:∀i k,mA ks i=some k->i<ks.length:=λi k hi=>by rw[yE] at hi;exact(z5.1 hi).1
 have hob:∀(i k:Nat),ks[i]? =some k->∃ob ob',Z0 H k=some ob/\obs[i]? =some ob'/\pH (λk=>u7 k ks 0) ob=some ob':=by
  intro i k hk;have hlt:i<obs.length:=by rw[o1];exact(z5.1 hk).1
  have:=o2 i k _ hk (K7 hlt)
  simp only[Option.bind_eq_some_iff] at this;obtain⟨ob,hob,hF⟩:=this;exact⟨ob,_,hob,K7 hlt,hF⟩
 have hkL:∀(i k:Nat),ks[i]? =some k->E.L k:=λi k hk=>by
  obtain⟨ob,_,hob,_⟩:=hob i k hk;exact(h.heap.live k ob hob).1
 have hksl:∀k ∈ ks,k<H.length:=λk hk=>by
  obtain⟨i,hi⟩:=List.getElem?_of_mem hk
  exact h.heap.lt k (hkL i k hi)
 let E1:=E.ren (mA ks) ks.length
 have hn1:∀(i k:Nat),ks[i]? =some k->mA ks i=some k:=λi k hk=>by rw[yE];exact hk
 have hβ1:∀(i k:Nat),ks[i]? =some k->E1.β i=E.β k/\E1.κ i=E.κ k/\E1.z i=E.z k/\E1.L i:=by
  intro i k hk;have hn:=hn1 i k hk;exact⟨by simp[E1,Env.ren,hn],by simp[E1,Env.ren,hn],by simp[E1,Env.ren,hn],nlt i k hn,k,hn,hkL i k hk⟩
 have h21:∀(i k:Nat),ks[i]? =some k->∀v,E.L2 k v->E1.L2 i v/\∀a b,E1.b2 i v a b=E.b2 k v a b/\E1.c2 i v a b=E.c2 k v a b:=by
  intro i k hk v hv;have hn:=hn1 i k hk;exact⟨⟨nlt i k hn,k,hn,hv⟩,λa b=>⟨by simp[E1,Env.ren,hn],by simp[E1,Env.ren,hn]⟩⟩
 have hrd1:∀t t' x,S4 (λk=>u7 k ks 0) 6 t=some t'->Rd E w t x->Rd E1 w t' x:=λt t' x ht hx=>Rd.ren nlt 6 (b3u inv1 ht) hx
 have obk:∀i ob',Z0 (obs.map some) i=some ob'->∃k ob,ks[i]? =some k/\Z0 H k=some ob/\pH (λk=>u7 k ks 0) ob=some ob':=by
  intro i ob' hi;rw[a9x] at hi;have hlt:i<ks.length:=by rw[←o1];exact(z5.1 hi).1
  have hk:=K7 hlt
  obtain⟨ob,ob2,hob',ho2,hF⟩:=hob i _ hk;rw[hi] at ho2;simp only[W8] at ho2;subst ho2;exact⟨_,ob,hk,hob',hF⟩
 have blk1:∀{i k:Nat} {ob ob':Ob} {b:Nat},ks[i]? =some k->Z0 H k=some ob->pH (λk=>u7 k ks 0) ob=some ob'->E6 E1 i ob' b->E6 E k ob b:=λhk hob' hF hb=>by
  obtain⟨b1,b2,_,_⟩:=hβ1 _ _ hk;exact mW (h.heap.live _ _ hob').2.1 hF b1 b2 (h21 _ _ hk) hb
 have hH1:HeapOk E1 w (obs.map some):=by
  refine⟨λi ob' hi=> ?_,λi i' ob ob' b hi hi' hb hb'=> ?_,λi hi=> ?_,λi v hv=> ?_,λi ob' v hi hv=> ?_⟩
  ·obtain⟨k,ob,hk,hob',hF⟩:=obk i ob' hi;obtain⟨b1,b2,b3,b4⟩:=hβ1 i _ hk;obtain⟨l1,l2,l3⟩:=h.heap.live _ ob hob';exact⟨b4,a3j l2 hF hrd1 b1 b2 b3 (h21 i k hk) (λ_ _=>rfl),λb hb=>l3 b (blk1 hk hob' hF hb)⟩
  ·obtain⟨k,ob2,hk,hob2,hF2⟩:=obk i ob hi;obtain⟨k',ob3,hk',hob3,hF3⟩:=obk i' ob' hi';have:=h.heap.inj _ _ _ _ b hob2 hob3 (blk1 hk hob2 hF2 hb) (blk1 hk' hob3 hF3 hb');subst this;exact(List.getElem?_inj (z5.1 hk).1 hnodup).1 (by rw[hk,hk'])
  ·obtain⟨hlt,_⟩:=hi;simp[o1];exact hlt
  ·obtain⟨hlt,m,hm,hv⟩:=hv;exact⟨hlt,m,hm,h.heap.l2 m v hv⟩
  ·obtain⟨k,ob,hk,hob',hF⟩:=obk i ob' hi;obtain⟨_,m,hm,hv⟩:=hv;rw[hn1 i k hk] at hm;simp only[W8] at hm;subst hm;obtain⟨v0,ty,sz,n,row,rfl,hle⟩:=h.heap.cur k ob v hob' hv;simp only[pH,W8] at hF;exact⟨v0,ty,sz,n,row,hF.symm,hle⟩
 have hval:vB E1 w as vs:=⟨by rw[a1];exact ha.1,λi t x hi hx=>by
  have hlt:i<args.length:=by rw[←a1];exact(z5.1 hi).1
  exact hrd1 _ _ x (a2 i _ t (K7 hlt) hi) (ha.2 i _ x (K7 hlt) hx)⟩
 refine(hfn E1 w vs hH1 h.nlt hval).mono λe w' hh=> ?_
 obtain⟨v,E',rfl,hI,hst,hrd⟩:=hh;let ι:Nat->Option Nat:=λk=>if H.length<=k then some (ks.length+(k-H.length)) else u7 k ks 0
 have hιold:∀{k:Nat},k<H.length->ι k=u7 k ks 0:=λhk=>if_neg (by omega)
 have hρι:∀i k,a4v ks H.length i=some k->ι k=some i:=by
  intro i k hk;unfold a4v at hk;split at hk
  ·rename_i k' hk';simp only[W8] at hk;subst hk;have hm:k' ∈ ks:=by rw[yE] at hk';exact B5 hk'
   rw[hιold (hksl k' hm)];exact inv2 i k' hk'
  ·rename_i hn;simp only[W8] at hk;subst hk;have hge:ks.length<=i:=by
    rw[yE] at hn;rcases Nat.lt_or_ge i ks.length with h'|h'
    ·rw[K7 h'] at hn;cases hn
    ·exact h'
   simp only[ι];rw[if_pos (by omega)]
   congr 1
   omega
 have hιk:∀{k i:Nat},ι k=some i->(k<H.length/\ks[i]? =some k)∨(H.length<=k/\i=ks.length+(k-H.length)):=by
  intro k i hi;by_cases hk:H.length<=k
  ·simp only[ι,if_pos hk,W8] at hi;exact .inr ⟨hk,hi.symm⟩
  ·simp only[ι,if_neg hk] at hi;have:=inv1 k i hi;rw[yE] at this;exact .inl ⟨by omega,this⟩
 let E2:=E.glue E' ι E'.N
 have hL1:∀{k i:Nat},E.L k->ι k=some i->ks[i]? =some k:=λhk hi=>by
  rcases hιk hi with h1|h1
  ·exact h1.2
  ·have:=h.heap.lt _ hk;omega
 have hnl:∀k,E2.L k->E.L k∨∀j,E.L j->j<k:=λk hk=>by
  simp only[E2,Env.glue] at hk;cases hi:ι k with
  |none=>rw[hi] at hk;exact .inl hk
  |some i=>
   rcases hιk hi with h1|h1
   ·obtain⟨ob,ob',ho,_⟩:=hob i k h1.2;exact .inl (h.heap.live k ob ho).1
   ·exact .inr λj hj=>by have:=h.heap.lt j hj;omega
 have hstep:Step E w E2 w':=by
  refine⟨⟨λb hb=>hst.le.N b hb,λk hk=> ?_,λk hk=> ?_,λk hk=> ?_,λk hk=> ?_,λk v hk=> ?_,λk v a b hk=> ?_,λk v a b hk=> ?_⟩,λb hb=>hst.same b hb,λk hk=>hnl k hk⟩<;>simp only[E2,Env.glue]<;>cases hi:ι k
  ·exact hk
  ·exact hst.le.L _ (hβ1 _ k (hL1 hk hi)).2.2.2
  ·rfl
  ·exact(hst.le.β _ (hβ1 _ k (hL1 hk hi)).2.2.2).trans (hβ1 _ k (hL1 hk hi)).1
  ·rfl
  ·exact(hst.le.κ _ (hβ1 _ k (hL1 hk hi)).2.2.2).trans (hβ1 _ k (hL1 hk hi)).2.1
  ·rfl
  ·exact(hst.le.z _ (hβ1 _ k (hL1 hk hi)).2.2.2).trans (hβ1 _ k (hL1 hk hi)).2.2.1
  ·exact hk
  ·exact hst.le.L2 _ v (h21 _ k (hL1 (h.heap.l2 k v hk) hi) v hk).1
  ·rfl
  ·have h1:=h21 _ k (hL1 (h.heap.l2 k v hk) hi) v hk;exact(hst.le.b2 _ v a b h1.1).trans (h1.2 a b).1
  ·rfl
  ·have h1:=h21 _ k (hL1 (h.heap.l2 k v hk) hi) v hk;exact(hst.le.c2 _ v a b h1.1).trans (h1.2 a b).2
 have hrd2:∀t t' x,S4 (a4v ks H.length) 6 t=some t'->Rd E' w' t x->Rd E2 w' t' x:=by
  intro t t' x ht hx;exact a2n (λ_ h=>h) hρι 6 ht hx
 obtain⟨z1,z2,z3⟩:=a8t (os:=os.take ks.length) hnodup hksl (by simp[s1];omega)
 have hset:O4 H ks os=O4 H ks (os.take ks.length):=a2g ks os H;have hoslen:os.length=H0'.length:=s1;have hgetN:∀k ob,Z0 (O4 H ks os++os.drop ks.length) k=some ob->(∃i ob',ι k=some i/\Z0 H0' i=some ob'/\pH (a4v ks H.length) ob'=some ob)∨(ι k=none/\Z0 H k=some ob):=by
  intro k ob hk;have fromos:∀i,os[i]? =some (some ob)->∃ob',Z0 H0' i=some ob'/\pH (a4v ks H.length) ob'=some ob:=by
   intro i hi;have hlt:i<H0'.length:=by rw[←hoslen];exact(z5.1 hi).1
   have:=s2 i _ _ (K7 hlt) hi
   rcases a3r this with⟨_,h1⟩|⟨ob1,ob2,h1,h2,h3⟩
   ·cases h1
   ·cases h2;exact⟨ob1,by unfold Z0;rw[K7 hlt,h1];rfl,h3⟩
  rw[hset] at hk;by_cases hkl:k<H.length
  ·have hk':Z0 (O4 H ks (os.take ks.length)) k=some ob:=by
    unfold Z0 at hk ⊢
    rwa [tX (by rw[z1];exact hkl)] at hk
   by_cases hm:k ∈ ks
   ·obtain⟨i,hi⟩:=List.getElem?_of_mem hm
    have hik:i<ks.length:=(z5.1 hi).1
    have hlt:i<os.length:=by omega
    have ho:(os.take ks.length)[i]? =some (os[i]):=by rw[List.getElem?_take,if_pos hik];exact K7 hlt
    rw[z2 i k _ hi ho] at hk';obtain⟨ob',h1,h2⟩:=fromos i (by rw[K7 hlt,hk'])
    exact .inl ⟨i,ob',by rw[hιold hkl];exact inv2 i k (hn1 i k hi),h1,h2⟩
   ·rw[z3 k hm] at hk';refine .inr ⟨?_,hk'⟩
    rw[hιold hkl];cases hx:u7 k ks 0 with
    |none=>rfl
    |some i=>
     have:=inv1 k i hx;rw[yE] at this;exact absurd (B5 this) hm
  ·have hk':os[ks.length+(k-H.length)]? =some (some ob):=by
    unfold Z0 at hk;rw[rK (by rw[z1];omega),z1,List.getElem?_drop] at hk
    cases hx:os[ks.length+(k-H.length)]? with
    |none=>rw[hx] at hk;cases hk
    |some y=>rw[hx] at hk;simp at hk;rw[hk]
   obtain⟨ob',h1,h2⟩:=fromos _ hk';exact .inl ⟨_,ob',if_pos (by omega),h1,h2⟩
 have hXB:∀b,XB E1 (obs.map some) b->∃k ob i,Z0 H k=some ob/\E6 E k ob b/\ι k=some i:=by
  intro b hb;obtain⟨i,ob',hi,hb⟩:=hb;obtain⟨k,ob,hk,hob',hF⟩:=obk i ob' hi;exact⟨k,ob,i,hob',blk1 hk hob' hF hb,by rw[hιold (hksl k (B5 hk))];exact inv2 i k (hn1 i k hk)⟩
 have hιname:∀{k i:Nat},ι k=some i->E2.β k=E'.β i/\E2.κ k=E'.κ i/\E2.z k=E'.z i/\∀v,E'.L2 i v->E2.L2 k v/\∀a b,E2.b2 k v a b=E'.b2 i v a b/\E2.c2 k v a b=E'.c2 i v a b:=by
  intro k i hi;simp only[E2,Env.glue,hi];exact⟨trivial,trivial,trivial,λv hv=>⟨hv,λ_ _=>⟨trivial,trivial⟩⟩⟩
 refine⟨v,E2,rfl,a6o h hI hstep (λ_ h=>h) (λb hb=> ?_) hXB (λk k' i hi hi'=> ?_) (λk ob hk=> ?_) (λk i hi hlt=> ?_) (by simp[hset,z1]),hstep,hrd2 _ _ v hr1 hrd⟩
 ·rcases hI.nnew b hb with h1|h1|h1
  ·exact .inl h1
  ·exact .inr (.inl h1)
  ·exact .inr (.inr h1)
 ·rcases hιk hi with⟨g1,g2⟩|⟨g1,g2⟩<;>rcases hιk hi' with⟨g3,g4⟩|⟨g3,g4⟩
  ·rw[g2] at g4;exact Option.some.inj g4
  ·have:=(z5.1 g2).1;omega
  ·have:=(z5.1 g4).1;omega
  ·omega
 ·rcases hgetN k ob hk with⟨i,ob',hi,hob',hF⟩|h1
  ·obtain⟨n1,n2,n3,n4⟩:=hιname hi;have hO:=(hI.heap.live i ob' hob').2.1;refine .inl ⟨i,ob',hi,hob',a3j hO hF hrd2 n1 n2 n3 n4 (λ_ _=>rfl),λb hb=>mW hO hF n1 n2 n4 hb,λv ty sz n row he=> ?_⟩
   subst he;simp only[pH,W8] at hF;exact⟨row,hF.symm⟩
  ·exact .inr h1
 ·rw[K6,hset,z1,List.length_drop,hoslen];rcases hιk hi with⟨g1,g2⟩|⟨g1,g2⟩<;>omega

end
end Go.SS
