/- A calculus of symbolic states: calls that lay objects; calls that write to what a cell owns. -/
import Derived.Test.YtghgljelnhfihaaGreatSSR
namespace Go.SS
open Go.RowKit
section
variable {c:Ctx} {E:Env} {H H':Y1} {w w':World} {P:Program} {G:I2}

theorem eX{E':Env}{ι ρ:Nat->Option Nat}{N:Nat->Prop}(hρ:∀i k,ρ i=some k->ι k=some i){d:Nat}{t t':T}{x:Value}(hp:pE t=true)(ht:S4 ρ d t=some t')(hx:Rd E' w t x):Rd (E.glue E' ι N) w t' x:=by
 cases d with
 |zero=>simp[S4] at ht
 |succ d=>
  cases t with
  |ref k i j=>
   simp only[S4,I3] at ht;obtain⟨m,hm,rfl⟩:=ht;cases hx with
   |ref _ _ _ hL=>
    have hi:=hρ _ _ hm;have:=Rd.ref (E:=E.glue E' ι N) (w:=w) m i j (by simp only[Env.glue,hi];exact hL)
    simpa[Env.glue,hi] using this
  |osl k off n=>
   simp only[S4,I3] at ht;obtain⟨m,hm,rfl⟩:=ht;cases hx with
   |osl _ _ _ o a hL hn ho ha=>
    have hi:=hρ _ _ hm;have:=Rd.osl (E:=E.glue E' ι N) (w:=w) m off n o a (by simp only[Env.glue,hi];exact hL) (by simpa[Env.glue,hi] using hn) (by simpa[Env.glue,hi] using ho) (by simpa[Env.glue,hi] using ha)
    simpa[Env.glue,hi] using this
  |int k n=>simp only[S4,W8] at ht;subst ht;cases hx;exact .int _ _
  |bool b=>simp only[S4,W8] at ht;subst ht;cases hx;exact .bool _
  |str l=>simp only[S4,W8] at ht;subst ht;cases hx;exact .str _
  |v y=>simp only[S4,W8] at ht;subst ht;cases hx;exact .v _
  |_=>simp[pE,wD] at hp

theorem kA{t:T}(h:wD t=true):pE t=true:=by cases t<;>first|rfl|exact h

theorem a8W{E':Env}{ι ρ:Nat->Option Nat}{N:Nat->Prop}(hρ:∀i k,ρ i=some k->ι k=some i):∀(d e:Nat) {t t':T} {x:Value},sE e t=true->S4 ρ d t=some t'->Rd E' w t x->Rd (E.glue E' ι N) w t' x:=by
 intro d;induction d with
 |zero=>intro e t t' x _ ht;simp[S4] at ht
 |succ d ih=>
  intro e t t' x hp ht hx;cases e with
  |zero=>simp[sE] at hp
  |succ e=>
   have list:∀(cs cs':List T) (vs:Array Value),(∀t ∈ cs,sE e t=true)->O5 (S4 ρ d) cs=some cs'->cs.length=vs.size->(∀(i:Nat) (t:T) (x:Value),cs[i]? =some t->vs[i]? =some x->Rd E' w t x)->
     cs'.length=vs.size/\∀(i:Nat) (t:T) (x:Value),cs'[i]? =some t->vs[i]? =some x->Rd (E.glue E' ι N) w t x:=by
    intro cs cs' vs hcs hm hl ht;obtain⟨h1,h2⟩:=L5 hm;refine⟨by omega,λi t x hi hx=> ?_⟩
    have hlt:i<cs.length:=by rw[←h1];exact(z5.1 hi).1
    have hc:=K7 hlt
    exact ih e (hcs _ (List.getElem_mem hlt)) (h2 i _ t hc hi) (ht i _ x hc hx)
   cases t with
   |agg cs=>
    simp only[S4,I3] at ht;obtain⟨cs',hm,rfl⟩:=ht;cases hx with
    |agg _ vs hl h=>
     obtain⟨a1,a2⟩:=list cs cs' vs (λt ht=>i5.1 hp t ht) hm hl h
     exact .agg _ vs a1 a2
   |tup cs=>
    simp only[S4,I3] at ht;obtain⟨cs',hm,rfl⟩:=ht;cases hx with
    |tup _ vs hl h=>
     obtain⟨a1,a2⟩:=list cs cs' vs (λt ht=>i5.1 hp t ht) hm hl h
     exact .tup _ vs a1 a2
   |_=>
    refine eX hρ ?_ ht hx
    exact hp

theorem a7C{ob:Ob}(h:aO ob):ObQ (λt=>pE t=true) ob:=by
 cases ob with
 |arr cl ty sz n row=>
  cases cl with
  |true=>exact λi t hi ht=>kA (h i hi t ht)
  |false=>
   obtain⟨rfl,h⟩:=h;intro i t hi ht;simp only[Ob.toArr] at hi ht;obtain rfl:i=0:=by omega
   exact h t ht
 |fam v ty sz n row=>
  refine⟨λi t hi ht hc=> ?_,λi oty osz on orow hi ht a t ha hm=> ?_⟩
  ·have:=h i hi t ht;cases t<;>first|exact kA this|(simp[closedOne,W5] at hc)
  ·exact kA (h i hi _ ht a ha t hm)
 |bys ty l=>intro i t hi ht;simp[Ob.toArr,I4] at ht;subst ht;rfl
 |mp bo get=>intro i t hi ht;simp[Ob.toArr] at hi
 |mp2 get=>intro i t hi ht;simp[Ob.toArr] at hi

theorem c1k(h:Inv c E H w){f:FuncId}{cf:List T->Option (T×Y1×Option Prop)}(hf:b9U P f cf){args:List T}{vs:Array Value}{r:T}{p:Option Prop}(he:a0C cf H args=some (r,H',p))(hp:p.getD True)(ha:vB E w args vs):
  Calls P f vs w λe w'=>∃v E',e= .returned v/\Inv c E' H' w'/\Step E w E' w'/\Rd E' w' r v:=by
 unfold a0C at he;split at he
 case h_2=>cases he
 rename_i bs hbs;split at he
 case h_2=>cases he
 rename_i r0 H0 p0 hc;split at he
 case h_2=>cases he
 rename_i r1 os hr1 hos;simp only[W8,T5] at he;obtain⟨rfl,rfl,rfl⟩:=he;obtain⟨hsb,hp0⟩:=zI hp;obtain⟨hfn,hpr,hph⟩:=hf _ r0 H0 p0 hc hp0;obtain⟨b1,b2⟩:=L5 hbs;obtain⟨s1,s2⟩:=L5 hos;have hval:vB (E.lent 0 H) w (bs.map (·.1)) vs:=⟨by simp[b1];exact ha.1,λi t x hi hx=>by
  simp only[pN,I3] at hi
  obtain⟨y,hy,rfl⟩:=hi;have hlt:i<args.length:=by rw[←b1];exact(z5.1 hy).1
  have hc:=K7 hlt
  exact y5 h 6 (r:=y.1) (p:=y.2) (b2 i _ y hc hy) (zB hsb y (B5 hy)) (ha.2 i _ x hc hx)⟩
 have hH1:HeapOk (E.lent 0 H) w []:=⟨λk ob hk=>by simp[Z0] at hk,λk k' o o' b hk=>by simp[Z0] at hk,λk hk=>absurd hk.2 (J5 _),λk v hv=>absurd hv.2 (J5 _),λk ob v hk=>by simp[Z0] at hk⟩
 have hN1:∀b,(E.lent 0 H).N b->b<w.heap.size:=λb hb=>by
  rcases hb with hb|⟨k,ob,_,hk,hb⟩
  ·exact h.nlt b hb
  ·exact h.heap.blt hk hb
 refine(hfn (E.lent 0 H) w vs hH1 hN1 hval).mono λe w' hh=> ?_
 obtain⟨v,E',rfl,hI,hst,hrd⟩:=hh;let ι:Nat->Option Nat:=λk=>if H.length<=k then some (k-H.length) else none
 have hρι:∀i k,(λk=>some (H.length+k)) i=some k->ι k=some i:=λi k hk=>by
  simp only[W8] at hk;subst hk;simp only[ι];rw[if_pos (by omega)]
  congr 1
  omega
 have hιnone:∀{k},E.L k->ι k=none:=λhk=>if_neg (by have:=h.heap.lt _ hk;omega)
 have hnl:∀k,(E.glue E' ι E.N).L k->E.L k∨∀j,E.L j->j<k:=λk hk=>by
  by_cases hlt:H.length<=k
  ·exact .inr λj hj=>by have:=h.heap.lt j hj;omega
  ·have hi:ι k=none:=if_neg hlt;simp only[Env.glue] at hk;rw[hi] at hk;exact .inl hk
 have hstep:Step E w (E.glue E' ι E.N) w':=by
  refine⟨⟨λb hb=>hb,λk hk=> ?_,λk hk=> ?_,λk hk=> ?_,λk hk=> ?_,λk v hk=> ?_,λk v a b hk=> ?_,λk v a b hk=> ?_⟩,λb hb=>hst.same b (.inl hb),λk hk=>hnl k hk⟩<;>simp only[Env.glue]
  ·rw[hιnone hk];exact hk
  ·rw[hιnone hk]
  ·rw[hιnone hk]
  ·rw[hιnone hk]
  ·rw[hιnone (h.heap.l2 _ _ hk)];exact hk
  ·rw[hιnone (h.heap.l2 _ _ hk)]
  ·rw[hιnone (h.heap.l2 _ _ hk)]
 refine⟨v,E.glue E' ι E.N,rfl,a6o h hI hstep (λb hb=>hst.le.N b (.inl hb)) (λb hb=>.inl hb) (λb hb=> ?_) (λk k' i hi hi'=> ?_) (λk ob hk=> ?_) (λk i hi hlt=> ?_) (by simp),hstep,a8W hρι 6 6 hpr hr1 hrd⟩
 ·obtain⟨k,ob,hk,_⟩:=hb;simp[Z0] at hk
 ·simp only[ι] at hi hi';split at hi
  ·split at hi'
   ·simp only[W8] at hi hi';omega
   ·cases hi'
  ·cases hi
 ·by_cases hkl:k<H.length
  ·refine .inr ⟨if_neg (by omega),?_⟩
   unfold Z0 at hk ⊢
   rwa [tX hkl] at hk
  ·have hi:ι k=some (k-H.length):=if_pos (by omega)
   have hk':os[k-H.length]? =some (some ob):=by
    unfold Z0 at hk;rw[rK (by omega)] at hk
    cases hx:os[k-H.length]? with
    |none=>rw[hx] at hk;cases hk
    |some y=>rw[hx] at hk;simp at hk;rw[hk]
   have hlt:k-H.length<H0.length:=by rw[←s1];exact(z5.1 hk').1
   rcases a3r (s2 _ _ _ (K7 hlt) hk') with⟨_,h1⟩|⟨ob1,ob2,h1,h2,hF⟩
   ·cases h1
   ·cases h2;have hob':Z0 H0 (k-H.length)=some ob1:=by unfold Z0;rw[K7 hlt,h1];rfl
    have hO:=(hI.heap.live _ ob1 hob').2.1;have n1:(E.glue E' ι E.N).β k=E'.β (k-H.length):=by simp only[Env.glue,hi]
    have n2:(E.glue E' ι E.N).κ k=E'.κ (k-H.length):=by simp only[Env.glue,hi]
    have n3:(E.glue E' ι E.N).z k=E'.z (k-H.length):=by simp only[Env.glue,hi]
    have n4:∀v,E'.L2 (k-H.length) v->(E.glue E' ι E.N).L2 k v/\∀a b,(E.glue E' ι E.N).b2 k v a b=E'.b2 (k-H.length) v a b/\(E.glue E' ι E.N).c2 k v a b=E'.c2 (k-H.length) v a b:=λv hv=>by
     simp only[Env.glue,hi];exact⟨hv,λ_ _=>⟨trivial,trivial⟩⟩
    refine .inl ⟨k-H.length,ob1,hi,hob',a55 hO (a7C (hph _ _ hob')) hF (λt t' x hq ht hx=>eX hρι hq ht hx) n1 n2 n3 n4 (λ_ _=>rfl),λb hb=>mW hO hF n1 n2 n4 hb,λv ty sz n row he=> ?_⟩
    subst he;simp only[pH,W8] at hF;exact⟨row,hF.symm⟩
 ·simp only[ι] at hi;split at hi
  ·simp only[W8] at hi;rw[K6,s1];omega
  ·cases hi

theorem a9M{E':Env}{t:T}{x:Value}(hp:wD t=true)(hx:Rd E w t x):Rd E' w' t x:=by
 cases t with
 |int k n=>cases hx;exact .int _ _
 |bool b=>cases hx;exact .bool _
 |str l=>cases hx;exact .str _
 |v y=>cases hx;exact .v _
 |_=>simp[wD] at hp

theorem b51{k v:Nat}{ty:TypeId}{sz n:Nat}{row:Nat->List T}(hF:FamOk E w k v ty sz n row){i j:Nat}{oty:TypeId}{osz on:Nat}{orow orow':Nat->List T}(hi:i<n)(hj:(row i)[j]? =some (.own oty osz on orow))
  (hw:∀b,(E.c2 k v i j≠0->b≠E.b2 k v i j)->b<w.heap.size->w'.heap[b]? =w.heap[b]?) (hNb:∀b,E6 E k (.fam v ty sz n row) b->¬E.N b) (hNlt:∀b,E.N b->b<w.heap.size) (hO:S9 (E.sub k v i j osz) w' 0 ⟨true,oty,osz,on,orow'⟩):
  FamOk E w' k v ty sz n (setRow row i j [.own oty osz on orow'])/\∀b,E6 E k (.fam v ty sz n (setRow row i j [.own oty osz on orow'])) b->E6 E k (.fam v ty sz n row) b:=by
 have hbl:∀b,E6 E k (.fam v ty sz n row) b->b<w.heap.size:=λb hb=>m6.blt (ob:=.fam v ty sz n row) hF hb
 have hN:∀b,E.N b->w'.heap[b]? =w.heap[b]? :=λb hb=>hw b (λhc e=>hNb b (.inr ⟨_,_,_,_,_,_,_,_,_,_,_,rfl,hi,hj,hc,e⟩) hb) (hNlt b hb)
 have hstep:Step E w E w':=⟨Env.le.refl E,hN,λ_ h=>.inl h⟩
 have hlr:∀r,r<n->(row r).length=sz:=λr hr=>by have:=hF.arr.2.2.1 r hr;rwa [P0] at this
 have hjl:=(z5.1 hj).1
 have hfit:∀r,r<n->j+[T.own oty osz on orow'].length<=(row r).length:=λr hr=>by rw[hlr r hr,←hlr i hi];simp only[List.length_singleton];omega
 have back:∀(r q:Nat) (t:T),r<n->(setRow row i j [T.own oty osz on orow'] r)[q]? =some t->(r=i/\q=j/\t= .own oty osz on orow')∨(¬ (r=i/\q=j)/\(row r)[q]? =some t):=by
  intro r q t hr hq;rcases z4 (hfit r hr) hq with⟨h1,h2,h3,h4⟩|⟨h1,h2⟩
  ·simp only[List.length_singleton] at h3;obtain rfl:q=j:=by omega
   simp at h4;exact .inl ⟨h1,rfl,h4.symm⟩
  ·simp only[List.length_singleton] at h1;exact .inr ⟨λhh=>h1 ⟨hh.1,by omega,by omega⟩,h2⟩
 have own:∀(r q:Nat) (oty1:TypeId) (osz1 on1:Nat) (orow1:Nat->List T),r<n->(setRow row i j [T.own oty osz on orow'] r)[q]? =some (T.own oty1 osz1 on1 orow1)->∃(oty2:TypeId) (osz2 on2:Nat) (orow2:Nat->List T),(row r)[q]? =some (T.own oty2 osz2 on2 orow2):=by
  intro r q oty1 osz1 on1 orow1 hr hq;rcases back r q _ hr hq with⟨rfl,rfl,_⟩|⟨_,h2⟩
  ·exact⟨_,_,_,_,hj⟩
  ·exact⟨_,_,_,_,h2⟩
 have hκb:E.κ k≠0->w'.heap[E.β k]? =w.heap[E.β k]? :=λhκ=>hw _ (λhc e=>((hF.own i j _ _ _ _ hi hj).2 hc hκ) e.symm) (hbl _ (.inl ⟨hκ,rfl⟩))
 refine⟨?_,λb hb=> ?_⟩
 ·obtain⟨e1,e2,e3,e4,e5,cs0,ty0,e6,e7,e8⟩:=hF.arr;refine s9 (E:=E) hF.l2 e1 e2 cs0 ty0 (λhκ=>by rw[hκb hκ];exact e6 hκ) e7 (λr hr=>by rw[T7 (hfit r hr)];exact hlr r hr) (λr q t hr hq=> ?_) (λi1 j1 i2 j2 oty osz on orow oty' osz' on' orow' h1 h2 h3 h4 h5 h6 h7=> ?_)
  ·rcases back r q t hr hq with⟨rfl,rfl,rfl⟩|⟨hne,hq0⟩
   ·obtain⟨u,hu,hru⟩:=e8 r q (.posl k v r q on) hr (by simp only;rw[M4,hj];rfl)
    exact⟨u,hu,.inr ⟨_,_,_,_,rfl,hstep.rd hru,hO,(hF.own r q _ _ _ _ hr hj).2⟩⟩
   ·obtain⟨u,hu,hru⟩:=e8 r q (uJ k v r q t) hr (by simp only;rw[M4,hq0];rfl)
    rcases hF.cell hr hq0 with hc|⟨oty1,osz1,on1,orow1,rfl⟩
    ·rw[O3 hc] at hru;exact⟨u,hu,.inl ⟨hc,hstep.rd hru⟩⟩
    ·obtain⟨g1,g2⟩:=hF.own r q _ _ _ _ hr hq0;refine⟨u,hu,.inr ⟨_,_,_,_,rfl,hstep.rd hru,g1.closed (k':=0) (E':=E.sub k v r q osz1) rfl (λb hb=>hb) (λb hb=>hstep.same b hb) rfl rfl rfl (λhc0=>hw _ (λhc e=>hne ?_) (hbl _ (.inr ⟨_,_,_,_,_,_,_,_,_,_,_,rfl,hr,hq0,hc0,rfl⟩))),g2⟩⟩
     exact hF.inj r q i j _ _ _ _ _ _ _ _ hr hi hq0 hj hc0 hc e
  ·obtain⟨_,_,_,_,p1⟩:=own i1 j1 _ _ _ _ h1 h3;obtain⟨_,_,_,_,p2⟩:=own i2 j2 _ _ _ _ h2 h4;exact hF.inj i1 j1 i2 j2 _ _ _ _ _ _ _ _ h1 h2 p1 p2 h5 h6 h7
 ·rcases hb with hb|⟨v0,ty0,sz0,n0,V7,i0,j0,oty1,osz1,on1,orow1,hobe,hi0,hj0,hc0,rfl⟩
  ·exact .inl hb
  ·simp only[Ob.fam.injEq] at hobe;obtain⟨rfl,rfl,rfl,rfl,rfl⟩:=hobe;obtain⟨_,_,_,_,p1⟩:=own i0 j0 _ _ _ _ hi0 hj0;exact .inr ⟨_,_,_,_,_,_,_,_,_,_,_,rfl,hi0,p1,hc0,rfl⟩

theorem b9f(h:Inv c E H w){f:FuncId}{cf:List T->Y1->Option (T×Y1×Option Prop)}(hf:kH P f cf){args:List T}{vs:Array Value}{r:T}{p:Option Prop}(he:b1P cf H args=some (r,H',p))(hp:p.getD True)(ha:vB E w args vs):
  Calls P f vs w λe w'=>∃v E',e= .returned v/\Inv c E' H' w'/\Step E w E' w'/\Rd E' w' r v:=by
 unfold b1P at he;split at he
 case h_2=>cases he
 rename_i k v i j n rest;split at he
 case h_2=>cases he
 rename_i v' ty sz N row A hrest hk hA;split at he
 case h_2=>cases he
 rename_i r0 ty' sz' n' row' p0 hc;split at he
 case h_2=>cases he
 rename_i hpl hbeq;obtain rfl:=G3 hbeq;simp only[W8,T5] at he;obtain⟨rfl,rfl,rfl⟩:=he;obtain⟨hp0,hv,hi,hn,hn',hpv⟩:=zI hp;obtain⟨ty2,sz2,sM,hk2,hj,hcl⟩:=zT hA;rw[hk] at hk2;simp only[W8,Ob.fam.injEq] at hk2;obtain⟨rfl,rfl,rfl,rfl,rfl⟩:=hk2;subst hv;subst hn';obtain⟨hO,hL,hL2⟩:=aD h.heap hA rfl hi;obtain⟨v,N,cl,oty,osz,on,orow⟩:=A;simp only at hcl hj hO hc hi hn hpv hk hL2 hA;subst hcl;obtain⟨_,hF,hNk⟩:=h.heap.live _ _ hk;have hF:FamOk E w k v ty sz N row:=hF;have hfn:=hf _ _ r0 _ p0 hc hp0;let E1:Env:={E.sub k v i j osz with L:=λa=>a=0,L2:=λ_ _=>False}
 have cv:∀{w:World} {t:T} {x:Value},W5 t=true->Rd E w t x->Rd E1 w t x:=λht hx=>F1 (E:=E) (E':=E1) (λ_ h=>h) hx ht
 have cv':∀{w:World} {t:T} {x:Value},W5 t=true->Rd (E.sub k v i j osz) w t x->Rd E1 w t x:=λht hx=>F1 (E:=E.sub k v i j osz) (E':=E1) (λ_ h=>h) hx ht
 have hsub:E.c2 k v i j≠0->E6 E k (.fam v ty sz N row) (E.b2 k v i j):=λhc2=>.inr ⟨_,_,_,_,_,_,_,_,_,_,_,rfl,hi,hj,hc2,rfl⟩
 have hone:∀a ob,Z0 [some (Ob.arr true oty osz on orow)] a=some ob->a=0/\ob= .arr true oty osz on orow:=λa ob ho=>by
  cases a with
  |zero=>simp[Z0] at ho;exact⟨rfl,ho.symm⟩
  |succ a=>simp[Z0] at ho
 have hH1:HeapOk E1 w [some (.arr true oty osz on orow)]:=by
  refine⟨λa ob ho=> ?_,λa a' o o' b ho ho' _ _=>by rw[(hone a o ho).1,(hone a' o' ho').1],λa ha=> ?_,λa u hu=>hu.elim,λa ob u _ hu=>hu.elim⟩
  ·obtain⟨rfl,rfl⟩:=hone a ob ho;refine⟨rfl,?_,λb hb=> ?_⟩
   ·obtain⟨e1,e2,e3,e4,e5,cs,tyc,e6,e7,e8⟩:=hO;exact⟨e1,e2,e3,e4,e5,cs,tyc,e6,e7,λa b t ha hb=>by obtain⟨u,hu,hr⟩:=e8 a b t ha hb;exact⟨u,hu,cv' (e5 rfl a t ha (B5 hb)) hr⟩⟩
   ·obtain⟨h1,rfl⟩:=hb.arr rfl;exact hNk _ (hsub h1)
  ·have ha:a=0:=ha;subst ha;exact Nat.lt_succ_self 0
 have hval:vB E1 w (.osl 0 0 n::rest) vs:=by
  refine⟨ha.1,λa t x hi hx=> ?_⟩
  cases a with
  |zero=>
   simp only[List.getElem?_cons_zero,W8] at hi
   subst hi;have:=ha.2 0 _ x rfl hx;cases this with
   |posl _ _ _ _ _ ad hL hn ha=>
    have:=Rd.osl (E:=E1) (w:=w) 0 0 n 0 ad rfl (by rw[G9];exact hn) (λ_=>by simp) ha
    exact this
  |succ a=>exact Rd.closedD (E:=E) (E':=E1) (λ_ h=>h) 6 (ha.2 (a+1) t x hi hx) (i5.1 hrest t (B5 (by simpa using hi)))
 refine(hfn E1 w vs hH1 h.nlt hval).mono λe w' hh=> ?_
 obtain⟨vv,E',rfl,hI,hst,hrd⟩:=hh;have hXb:∀b,XB E1 [some (.arr true oty osz on orow)] b->E.c2 k v i j≠0/\b=E.b2 k v i j:=λb hb=>by
  obtain⟨a,ob,ho,hb⟩:=hb;obtain⟨rfl,rfl⟩:=hone a ob ho;exact hb.arr rfl
 have hwo:∀b,(E.c2 k v i j≠0->b≠E.b2 k v i j)->b<w.heap.size->w'.heap[b]? =w.heap[b]? :=λb hb hlt=>hI.fr.block b hlt λhx=>by
  obtain⟨h1,h2⟩:=hXb b hx;exact hb h1 h2
 have hO':S9 (E.sub k v i j osz) w' 0 ⟨true,oty,osz,on,row'⟩:=by
  obtain⟨_,hA0,_⟩:=hI.heap.live 0 (.arr true ty' osz on row') rfl;obtain⟨e1,e2,e3,e4,e5,cs,tyc,e6,e7,e8⟩:=(show S9 E' w' 0 ⟨true,ty',osz,on,row'⟩ from hA0)
  have k1:E'.κ 0=E.c2 k v i j:=hst.le.κ 0 rfl;have k2:E'.β 0=E.b2 k v i j:=hst.le.β 0 rfl;refine⟨rfl,(show on<=E.c2 k v i j by rw[←k1];exact e2),e3,e4,e5,cs,tyc,λh0=> ?_,(show eE cs (E.c2 k v i j*osz) [] by rw[←k1];exact e7.any),λa b t ha hb=> ?_⟩
  ·show w'.heap[E.b2 k v i j]? =_;rw[←k2];exact e6 (by rw[k1];exact h0)
  ·obtain⟨u,hu,hr⟩:=e8 a b t ha hb;exact⟨u,hu,a9M (hpv a ha t (B5 hb)) hr⟩
 obtain⟨hF',hB⟩:=b51 (orow':=row') hF hi hj hwo hNk h.nlt hO';have:=h.writeO hk hI.fr.os hI.fr.tape hI.fr.output hI.fr.size (λb hlt hn=>hwo b (λhc e=>hn (e▸hsub hc)) hlt) (.fam v ty sz N (setRow row i j [.own oty osz on row'])) hB (λu hu=>by
  obtain⟨v0,_,_,_,_,he,hle⟩:=h.heap.cur k _ u hk hu;cases he;exact⟨_,_,_,_,_,rfl,hle⟩) (λ_=>hF')
 exact⟨vv,E,rfl,this.1,this.2,Rd.plain 6 hrd hpl⟩

theorem O8{ks:List Nat}:∀{H:Y1} {i k:Nat} {ob:Ob},Z0 (K3 ks H i) k=some ob->Z0 H k=some ob/\(i+k) ∈ ks:=by
 intro H;induction H with
 |nil=>intro i k ob h;simp[K3,Z0] at h
 |cons o H ih=>
  intro i k ob h;cases k with
  |zero=>
   simp only[K3,Z0,List.getElem?_cons_zero,Option.bind_some,id] at h ⊢
   split at h
   ·rename_i hm;exact⟨h,by simpa using a6r.1 hm⟩
   ·cases h
  |succ k=>
   have:=ih (i:=i+1) (k:=k) (ob:=ob) (by simpa[K3,Z0] using h)
   refine⟨by simpa[Z0] using this.1,?_⟩
   have h2:=this.2
   rwa [show i+1+k=i+(k+1) by omega] at h2

theorem uP{ks:List Nat}:∀{H:Y1} {i:Nat},(K3 ks H i).length=H.length:=by
 intro H;induction H with
 |nil=>intro i;rfl
 |cons o H ih=>intro i;simp[K3,ih]

theorem c0W(h:Inv c E H w){f:FuncId}{cf:List T->Option (T×Option Prop)}(hf:a0s P f cf){ks:List Nat}{args:List T}{vs:Array Value}{r:T}{p:Option Prop}(he:b6J cf H ks args=some (r,H',p))(hp:p.getD True)(ha:vB E w args vs):
  Calls P f vs w λe w'=>∃v E',e= .returned v/\Inv c E' H' w'/\Step E w E' w'/\Rd E' w' r v:=by
 unfold b6J at he;split at he
 case h_2=>cases he
 rename_i bs hbs;split at he
 case h_2=>cases he
 rename_i r0 p0 hc;simp only[W8,T5] at he;obtain⟨rfl,rfl,rfl⟩:=he;obtain⟨hsb,hp0⟩:=zI hp;have hfn:=hf _ r0 p0 hc hp0;obtain⟨b1,b2⟩:=L5 hbs;have hK:Inv c E (K3 ks H 0) w:=by
  refine⟨⟨λk ob hk=>h.heap.live k ob (O8 hk).1,λk k' o o' b hk hk'=>h.heap.inj k k' o o' b (O8 hk).1 (O8 hk').1,λk hk=>by rw[uP];exact h.heap.lt k hk,h.heap.l2,λk ob v hk=>h.heap.cur k ob v (O8 hk).1⟩,h.nlt,h.nnew,λk ob b hk=>h.bnew k ob b (O8 hk).1,h.fr,h.keep⟩
 have hval:vB (E.lent 0 (K3 ks H 0)) w (bs.map (·.1)) vs:=⟨by simp[b1];exact ha.1,λi t x hi hx=>by
  simp only[pN,I3] at hi
  obtain⟨y,hy,rfl⟩:=hi;have hlt:i<args.length:=by rw[←b1];exact(z5.1 hy).1
  have hc:=K7 hlt
  exact y5 hK 6 (r:=y.1) (p:=y.2) (b2 i _ y hc hy) (zB hsb y (B5 hy)) (ha.2 i _ x hc hx)⟩
 have hN1:∀b,(E.lent 0 (K3 ks H 0)).N b->b<w.heap.size:=λb hb=>by
  rcases hb with hb|⟨k,ob,_,hk,hb⟩
  ·exact h.nlt b hb
  ·exact hK.heap.blt hk hb
 refine(hfn (E.lent 0 (K3 ks H 0)) w vs (λ_=>⟨λh=>absurd h.2 (J5 _),λ_ h=>absurd h.2 (J5 _)⟩) hN1 hval).mono λe w' hh=> ?_
 obtain⟨v,rfl,hb,hr⟩:=hh;let N2:Nat->Prop:=((E.lent 0 (K3 ks H 0)).addN λb=>w.heap.size<=b/\b<w'.heap.size).N
 let E2:Env:={E with N:=N2}
 have hstep:Step E w E2 w':=⟨⟨λb hb=>.inl (.inl hb),λ_ h=>h,λ_ _=>rfl,λ_ _=>rfl,λ_ _=>rfl,λ_ _ h=>h,λ_ _ _ _ _=>rfl,λ_ _ _ _ _=>rfl⟩,λb hb'=>hb.block b (h.nlt b hb'),λ_ h=>.inl h⟩
 refine⟨v,E2,rfl,⟨⟨λk ob hk=> ?_,λk k' o o' b hk hk'=>h.heap.inj k k' o o' b (N9 hk).1 (N9 hk').1,λk hk=>by rw[J3];exact h.heap.lt k hk,h.heap.l2,λk ob v hk=>h.heap.cur k ob v (N9 hk).1⟩,λb hb'=> ?_,λb hb'=> ?_,λk ob b hk=>h.bnew k ob b (N9 hk).1,h.fr.heap hb.os hb.tape hb.output hb.size (λb h1 _=>hb.block b (by have:=h.fr.size;omega)),h.keep.step hstep⟩,hstep,?_⟩
 ·obtain⟨g1,g2⟩:=N9 hk;obtain⟨e1,e2,e3⟩:=h.heap.live k ob g1;refine⟨e1,e2.mono e1 hstep (λb hb'=>hb.block b (e2.blt hb')),λb hb' hn=> ?_⟩
  have hb':E6 E k ob b:=hb';rcases hn with(hn|⟨k2,ob2,_,hk2,hb2⟩)|hn
  ·exact e3 b hb' hn
  ·obtain⟨g3,g4⟩:=O8 hk2;have:=h.heap.inj k k2 ob ob2 b g1 g3 hb' hb2;rw[G9] at g4;exact g2 (this▸g4)
  ·have:=e2.blt hb';have:=hn.1;omega
 ·rcases hb' with hb'|hb'
  ·have:=hN1 b hb';have:=hb.size;omega
  ·exact hb'.2
 ·rcases hb' with(hn|⟨k2,ob2,_,hk2,hb2⟩)|hn
  ·exact h.nnew b hn
  ·exact .inr (h.bnew k2 ob2 b (O8 hk2).1 hb2)
  ·have:=h.fr.size;exact .inr (.inl (by have:=hn.1;omega))
 ·exact Rd.mono (w:=w') (w':=w') (E:=(E.lent 0 (K3 ks H 0)).addN λb=>w.heap.size<=b/\b<w'.heap.size) (E':=E2) ⟨λ_ h=>h,λ_ h=>absurd h.2 (J5 _),λ_ h=>absurd h.2 (J5 _),λ_ h=>absurd h.2 (J5 _),λ_ h=>absurd h.2 (J5 _),λ_ _ h=>absurd h.2 (J5 _),λ_ _ _ _ h=>absurd h.2 (J5 _),λ_ _ _ _ h=>absurd h.2 (J5 _)⟩ (λ_ _=>rfl) hr

theorem b3U(hG:D0 P G)(h:Inv c E H w){f:FuncId}{args:List T}{vs:Array Value}{r:T}{p:Option Prop}(he:yD G H f args=some (r,H',p))(hp:p.getD True)(ha:vB E w args vs):
  Calls P f vs w λe w'=>∃v E',e= .returned v/\Inv c E' H' w'/\Step E w E' w'/\Rd E' w' r v:=by
 unfold yD at he;split at he
 ·rename_i cf hcf;split at he
  ·exact b9f h (a6T hG hcf) he hp ha
  ·exact a1L h (a6T hG hcf) he hp ha
 ·split at he
  ·rename_i cf hcf;exact c1k h (b7U hG hcf) he hp ha
  ·split at he
   ·rename_i cf hcf;exact c0W h (b9g hG hcf) he hp ha
   ·cases he

end
end Go.SS
