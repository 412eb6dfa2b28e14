/- A calculus of symbolic states: operations that lay or write memory. -/
import Derived.Test.YtghgljelnhfihaaGreatSS6
namespace Go.SS
open Go.RowKit

structure Ctx where
 w0:World
 X:Nat->Prop
 N0:Nat->Prop
 nt:Nat
 E0:Env
 m:Nat

structure Fr(w0:World)(X:Nat->Prop)(w:World):Prop where
 os:w.os=w0.os
 tape:w.tape=w0.tape
 output:w.output=w0.output
 size:w0.heap.size<=w.heap.size
 block:∀b,b<w0.heap.size->¬X b->w.heap[b]? =w0.heap[b]?

structure Keep(c:Ctx)(E:Env)(w:World):Prop where
 N:∀b,c.E0.N b->E.N b
 L:∀k,k<c.m->c.E0.L k->E.L k/\E.β k=c.E0.β k/\E.κ k=c.E0.κ k/\E.z k=c.E0.z k
 same:∀b,c.E0.N b->w.heap[b]? =c.w0.heap[b]?
 L2:∀k v,k<c.m->c.E0.L2 k v->E.L2 k v/\∀i j,E.b2 k v i j=c.E0.b2 k v i j/\E.c2 k v i j=c.E0.c2 k v i j

structure Inv(c:Ctx)(E:Env)(H:Y1)(w:World):Prop where
 heap:HeapOk E w H
 nlt:∀b,E.N b->b<w.heap.size
 nnew:∀b,E.N b->c.N0 b∨c.w0.heap.size<=b∨c.X b
 bnew:∀k ob b,Z0 H k=some ob->E6 E k ob b->c.w0.heap.size<=b∨c.X b
 fr:Fr c.w0 c.X w
 keep:Keep c E w

structure Stp(E:Env)(w:World)(E':Env)(w':World):Prop where
 le:E.le E'
 same:∀b,E.N b->w'.heap[b]? =w.heap[b]?

structure Step(E:Env)(w:World)(E':Env)(w':World):Prop where
 le:E.le E'
 same:∀b,E.N b->w'.heap[b]? =w.heap[b]?
 nl:∀k,E'.L k->E.L k∨∀j,E.L j->j<k

theorem Step.stp{E E':Env}{w w':World}(h:Step E w E' w'):Stp E w E' w':=⟨h.le,h.same⟩
instance{E E':Env}{w w':World}:Coe (Step E w E' w') (Stp E w E' w'):=⟨Step.stp⟩
theorem Step.refl(E:Env)(w:World):Step E w E w:=⟨Env.le.refl E,λ_ _=>rfl,λ_ h=>.inl h⟩
theorem Step.trans{A B C:Env}{u v w:World}(h:Step A u B v)(k:Step B v C w):Step A u C w:=
 ⟨h.le.trans k.le,λb hb=>(k.same b (h.le.N b hb)).trans (h.same b hb),λi hi=>(k.nl i hi).elim (h.nl i) λhj=>.inr λj hj'=>hj j (h.le.L j hj')⟩
theorem Stp.rd{E E':Env}{w w':World}(h:Stp E w E' w'){t:T}{x:Value}(hx:Rd E w t x):Rd E' w' t x:=hx.mono h.le h.same
theorem Step.rd{E E':Env}{w w':World}(h:Step E w E' w'){t:T}{x:Value}(hx:Rd E w t x):Rd E' w' t x:=hx.mono h.le h.same

theorem Keep.step{c:Ctx}{E E':Env}{w w':World}(h:Keep c E w)(hs:Stp E w E' w'):Keep c E' w' where
 N:=λb hb=>hs.le.N b (h.N b hb)
 L:=λk hk hL=>by
  obtain⟨h1,h2,h3,h4⟩:=h.L k hk hL;exact⟨hs.le.L k h1,(hs.le.β k h1).trans h2,(hs.le.κ k h1).trans h3,(hs.le.z k h1).trans h4⟩
 same:=λb hb=>(hs.same b (h.N b hb)).trans (h.same b hb)
 L2:=λk v hk hL=>by
  obtain⟨h1,h2⟩:=h.L2 k v hk hL;exact⟨hs.le.L2 k v h1,λi j=>⟨(hs.le.b2 k v i j h1).trans (h2 i j).1,(hs.le.c2 k v i j h1).trans (h2 i j).2⟩⟩

theorem Fr.heap{w0 w w':World}{X:Nat->Prop}(h:Fr w0 X w)(ho:w'.os=w.os)(ht:w'.tape=w.tape)(hp:w'.output=w.output)(hs:w.heap.size<=w'.heap.size)
  (hb:∀b,b<w0.heap.size->¬X b->w'.heap[b]? =w.heap[b]?):Fr w0 X w':=
 ⟨ho.trans h.os,ht.trans h.tape,hp.trans h.output,Nat.le_trans h.size hs,λb h1 h2=>(hb b h1 h2).trans (h.block b h1 h2)⟩

def Env.push(E:Env)(k b κ z:Nat):Env where
 N:=E.N
 L:=λi=>E.L i∨i=k
 β:=λi=>if i=k then b else E.β i
 κ:=λi=>if i=k then κ else E.κ i
 z:=λi=>if i=k then(z,[]) else E.z i
 L2:=E.L2
 b2:=E.b2
 c2:=E.c2

theorem Env.push_le{E:Env}{k b κ z:Nat}(h:¬E.L k):E.le (E.push k b κ z):=
 ⟨λ_ h=>h,λ_ h=>.inl h,λi hi=>if_neg (by rintro rfl;exact h hi),λi hi=>if_neg (by rintro rfl;exact h hi),λi hi=>if_neg (by rintro rfl;exact h hi),λ_ _ h=>h,λ_ _ _ _ _=>rfl,λ_ _ _ _ _=>rfl⟩

theorem v9{H:Y1}{x:Option Ob}{k:Nat}:Z0 (H++[x]) k=if k<H.length then Z0 H k else if k=H.length then x else none:=by
 unfold Z0;rw[List.getElem?_append]
 split
 ·rfl
 ·split
  ·rename_i h;subst h;simp
  ·rename_i h1 h2;rw[List.getElem?_eq_none (by simp;omega)]
   rfl

theorem J2{H:Y1}{k:Nat}{ob:Ob}(h:Z0 H k=some ob):k<H.length:=by
 rcases Nat.lt_or_ge k H.length with h'|h'
 ·exact h'
 ·unfold Z0 at h;rw[List.getElem?_eq_none h'] at h
  cases h

theorem U0{H:Y1}{x:Option Ob}{i k:Nat}(hi:i<H.length):Z0 (H.set i x) k=if k=i then x else Z0 H k:=by
 unfold Z0;rw[List.getElem?_set]
 split
 ·rename_i h;subst h;simp
 ·rename_i h;rw[if_neg (λe=>h e.symm)]

section
variable {c:Ctx} {E:Env} {H:Y1} {w w':World} {P:Program}

theorem S9.mono{E':Env}{k k':Nat}{A:Arr}(h:S9 E w k A)(hs:∀t x,Rd E w t x->Rd E' w' t x)(hb:E'.β k'=E.β k)(hκ:E'.κ k'=E.κ k)(hz:E'.z k'=E.z k)(hw:E.κ k≠0->w'.heap[E.β k]? =w.heap[E.β k]?):S9 E' w' k' A:=by
 obtain⟨h1,h2,h3,h3',h4,cs,ty,h5,h6,h7⟩:=h;refine⟨by rw[hz];exact h1,by rw[hκ];exact h2,h3,h3',h4,cs,ty,λh=>by rw[hκ] at h;rw[hb,hw h];exact h5 h,by rw[hκ,hz];exact h6,λi j t hi hj=> ?_⟩
 obtain⟨u,hu,hr⟩:=h7 i j t hi hj;exact⟨u,hu,hs t u hr⟩

theorem S9.closedN{E':Env}{k k':Nat}{A:Arr}(h:S9 E w k A)(hA:A.cl=true)(hN:∀b,E.N b->E'.N b)(hs:∀b,E.N b->w'.heap[b]? =w.heap[b]?)(hb:E'.β k'=E.β k)(hκ:E'.κ k'=E.κ k)(hz:(E'.z k').1=A.sz)(hz2:∀cs n,eE cs n (E.z k).2->eE cs n (E'.z k').2)(hw:E.κ k≠0->w'.heap[E.β k]? =w.heap[E.β k]?):S9 E' w' k' A:=by
 obtain⟨h1,h2,h3,h3',h4,cs,ty,h5,h6,h7⟩:=h;refine⟨hz,by rw[hκ];exact h2,h3,h3',h4,cs,ty,λh=>by rw[hκ] at h;rw[hb,hw h];exact h5 h,by rw[hκ];exact hz2 _ _ h6,λi j t hi hj=> ?_⟩
 obtain⟨u,hu,hr⟩:=h7 i j t hi hj;exact⟨u,hu,F1 (E:=E) (E':=E') hN (hr.mono (E:=E) (E':=E) (Env.le.refl E) hs) (h4 hA i t hi (B5 hj))⟩
theorem S9.closed{E':Env}{k k':Nat}{A:Arr}(h:S9 E w k A)(hA:A.cl=true)(hN:∀b,E.N b->E'.N b)(hs:∀b,E.N b->w'.heap[b]? =w.heap[b]?)(hb:E'.β k'=E.β k)(hκ:E'.κ k'=E.κ k)(hz:E'.z k'=E.z k)(hw:E.κ k≠0->w'.heap[E.β k]? =w.heap[E.β k]?):S9 E' w' k' A:=
 h.closedN hA hN hs hb hκ (by rw[hz];exact h.1) (λ_ _ h=>by rw[hz];exact h) hw

theorem FamOk.mono{E':Env}{k v:Nat}{ty:TypeId}{sz n:Nat}{row:Nat->List T}(h:FamOk E w k v ty sz n row)(hL:E.L k)(hs:Stp E w E' w')(hw:∀b,E6 E k (.fam v ty sz n row) b->w'.heap[b]? =w.heap[b]?):FamOk E' w' k v ty sz n row:=by
 have h2:=h.l2;refine⟨hs.le.L2 k v h2,h.arr.mono (λt x=>hs.rd) (hs.le.β k hL) (hs.le.κ k hL) (hs.le.z k hL) (λhκ=>hw _ (.inl ⟨hκ,rfl⟩)),h.fam,λi j oty osz on orow hi hj=> ?_,λi j i' j' oty osz on orow oty' osz' on' orow' hi hi' hj hj' hc hc' he=> ?_⟩
 ·obtain⟨h3,h4⟩:=h.own i j oty osz on orow hi hj;refine⟨h3.closed rfl hs.le.N hs.same (hs.le.b2 k v i j h2) (hs.le.c2 k v i j h2) rfl (λhc=>hw _ (.inr ⟨v,ty,sz,n,row,i,j,oty,osz,on,orow,rfl,hi,hj,hc,rfl⟩)),?_⟩
  rw[hs.le.b2 k v i j h2,hs.le.c2 k v i j h2,hs.le.κ k hL,hs.le.β k hL];exact h4
 ·rw[hs.le.c2 k v _ _ h2] at hc hc';rw[hs.le.b2 k v _ _ h2,hs.le.b2 k v _ _ h2] at he;exact h.inj i j i' j' oty osz on orow oty' osz' on' orow' hi hi' hj hj' hc hc' he

theorem m6.mono{E':Env}{k:Nat}{ob:Ob}(h:m6 E w k ob)(hL:E.L k)(hs:Stp E w E' w')(hw:∀b,E6 E k ob b->w'.heap[b]? =w.heap[b]?):m6 E' w' k ob:=by
 cases ob with
 |mp bo get=>
  obtain⟨hκ,es,clock,h1,h2⟩:=h;exact⟨by rw[hs.le.κ k hL];exact hκ,es,clock,by rw[hs.le.β k hL,hw _ (.inl ⟨hκ,rfl⟩)];exact h1,h2⟩
 |mp2 get=>
  obtain⟨hκ,es,clock,h1,h2⟩:=h;exact⟨by rw[hs.le.κ k hL];exact hκ,es,clock,by rw[hs.le.β k hL,hw _ (.inl ⟨hκ,rfl⟩)];exact h1,h2⟩
 |fam=>exact FamOk.mono h hL hs hw
 |arr=>exact S9.mono h (λt x=>hs.rd) (hs.le.β k hL) (hs.le.κ k hL) (hs.le.z k hL) (λhκ=>hw _ (.inl ⟨hκ,rfl⟩))
 |bys=>exact S9.mono h (λt x=>hs.rd) (hs.le.β k hL) (hs.le.κ k hL) (hs.le.z k hL) (λhκ=>hw _ (.inl ⟨hκ,rfl⟩))

theorem E6.back{E':Env}{k:Nat}{ob:Ob}{b:Nat}(h:E6 E' k ob b)(ho:m6 E w k ob)(hL:E.L k)(hle:E.le E'):E6 E k ob b:=by
 rcases h with⟨hκ,rfl⟩|⟨v,ty,sz,n,row,i,j,oty,osz,on,orow,rfl,hi,hj,hc,rfl⟩
 ·rw[hle.κ k hL] at hκ;exact .inl ⟨hκ,hle.β k hL⟩
 ·have h2:=FamOk.l2 ho;rw[hle.c2 k v i j h2] at hc;exact .inr ⟨v,ty,sz,n,row,i,j,oty,osz,on,orow,rfl,hi,hj,hc,hle.b2 k v i j h2⟩

theorem S9.ob{k:Nat}{ob:Ob}(h:S9 E w k ob.toArr)(hi:ob.isArr=true):m6 E w k ob:=by
 cases ob<;>first|exact h|cases hi

theorem Inv.pushO(h:Inv c E H w)(ho:w'.os=w.os)(ht:w'.tape=w.tape)(hp:w'.output=w.output)(hsz:w.heap.size<=w'.heap.size)(hw:∀b,b<w.heap.size->w'.heap[b]? =w.heap[b]?)
  (ob:Ob) (b κ:Nat) (hnf:∀v ty sz n row,ob≠ .fam v ty sz n row) (hb:κ≠0->w.heap.size<=b) (hnew:Step E w (E.push H.length b κ ob.toArr.sz) w'->m6 (E.push H.length b κ ob.toArr.sz) w' H.length ob):
  Inv c (E.push H.length b κ ob.toArr.sz) (H++[some ob]) w'/\Step E w (E.push H.length b κ ob.toArr.sz) w':=by
 have hnL:¬E.L H.length:=λhL=>by have:=h.heap.lt _ hL;omega
 have hle:E.le (E.push H.length b κ ob.toArr.sz):=Env.push_le hnL;have hstep:Step E w (E.push H.length b κ ob.toArr.sz) w':=⟨hle,λb hb=>hw b (h.nlt b hb),λi hi=>hi.elim .inl λe=>.inr λj hj=>e▸h.heap.lt j hj⟩
 have hbk:(E.push H.length b κ ob.toArr.sz).β H.length=b:=if_pos rfl;have hκk:(E.push H.length b κ ob.toArr.sz).κ H.length=κ:=if_pos rfl;have hold:∀k ob' x,Z0 H k=some ob'->E6 (E.push H.length b κ ob.toArr.sz) k ob' x->E6 E k ob' x/\x<w.heap.size:=λk ob' x hk hx=>by
  obtain⟨e1,e2,e3⟩:=h.heap.live k ob' hk;have:=hx.back e2 e1 hle;exact⟨this,h.heap.blt hk this⟩
 have hnewB:∀x,E6 (E.push H.length b κ ob.toArr.sz) H.length ob x->w.heap.size<=x:=λx hx=>by
  rcases hx with⟨h1,rfl⟩|h1
  ·rw[hκk] at h1;rw[hbk];exact hb h1
  ·exact(h1.not hnf).elim
 have key:∀k ob',Z0 (H++[some ob]) k=some ob'->Z0 H k=some ob'∨(k=H.length/\ob'=ob):=λk ob' hk=>by
  rw[v9] at hk;split at hk
  ·exact .inl hk
  ·split at hk
   ·rename_i he;simp only[W8] at hk;exact .inr ⟨he,hk.symm⟩
   ·cases hk
 refine⟨⟨⟨λk ob' hk=> ?_,λk k' o o' x hk hk' hx hx'=> ?_,λk hk=> ?_,λk v hk=>.inl (h.heap.l2 k v hk),λk ob' v hk hL2=> ?_⟩,λb hb=>by have:=h.nlt b hb;omega,h.nnew,λk ob' x hk hx=> ?_,h.fr.heap ho ht hp hsz (λb h1 h2=>hw b (by have:=h.fr.size;omega)),h.keep.step hstep⟩,hstep⟩
 ·rcases key k ob' hk with hk|⟨rfl,rfl⟩
  ·obtain⟨e1,e2,e3⟩:=h.heap.live k ob' hk;exact⟨.inl e1,e2.mono e1 hstep (λx hx=>hw x (h.heap.blt hk hx)),λx hx=>e3 x (hold k ob' x hk hx).1⟩
  ·exact⟨.inr rfl,hnew hstep,λx hx hN=>by have:=h.nlt x hN;have:=hnewB x hx;omega⟩
 ·rcases key k o hk with hk|⟨rfl,rfl⟩
  ·obtain⟨a1,a2⟩:=hold k o x hk hx;rcases key k' o' hk' with hk'|⟨rfl,rfl⟩
   ·exact h.heap.inj k k' o o' x hk hk' a1 (hold k' o' x hk' hx').1
   ·have:=hnewB x hx';omega
  ·rcases key k' o' hk' with hk'|⟨rfl,rfl⟩
   ·obtain⟨a1,a2⟩:=hold k' o' x hk' hx';have:=hnewB x hx;omega
   ·rfl
 ·rcases hk with hk|hk
  ·have:=h.heap.lt k hk;simp;omega
  ·simp;omega
 ·rcases key k ob' hk with hk|⟨rfl,rfl⟩
  ·exact h.heap.cur k ob' v hk hL2
  ·exact absurd (h.heap.l2 _ v hL2) hnL
 ·rcases key k ob' hk with hk|⟨rfl,rfl⟩
  ·exact h.bnew k ob' x hk (hold k ob' x hk hx).1
  ·have:=h.fr.size;have:=hnewB x hx;exact .inl (by omega)

theorem Inv.push(h:Inv c E H w)(ho:w'.os=w.os)(ht:w'.tape=w.tape)(hp:w'.output=w.output)(hsz:w.heap.size<=w'.heap.size)(hw:∀b,b<w.heap.size->w'.heap[b]? =w.heap[b]?)
  (ob:Ob) (b κ:Nat) (cs:Array Value) (ty:TypeId) (hb:κ≠0->w.heap.size<=b) (hblk:κ≠0->w'.heap[b]? =some (.cells cs ty (0,0))) (hcs:cs.size=κ*ob.toArr.sz) (hn:ob.toArr.n<=κ)
  (hl:∀i,i<ob.toArr.n->(ob.toArr.row i).length=ob.toArr.sz) (h1:∀i t,i<ob.toArr.n->t ∈ ob.toArr.row i->J7 t=true) (hcl:ob.toArr.cl=true->∀i t,i<ob.toArr.n->t ∈ ob.toArr.row i->W5 t=true)
  (hr:∀i j t,i<ob.toArr.n->(ob.toArr.row i)[j]? =some t->∃u,cs[i*ob.toArr.sz+j]? =some u/\Rd E w t u) (hia:ob.isArr=true:=by rfl):
  Inv c (E.push H.length b κ ob.toArr.sz) (H++[some ob]) w'/\Step E w (E.push H.length b κ ob.toArr.sz) w':=by
 have hbk:(E.push H.length b κ ob.toArr.sz).β H.length=b:=if_pos rfl;have hκk:(E.push H.length b κ ob.toArr.sz).κ H.length=κ:=if_pos rfl;have hzk:(E.push H.length b κ ob.toArr.sz).z H.length=(ob.toArr.sz,[]):=if_pos rfl;refine h.pushO ho ht hp hsz hw ob b κ (by rintro v ty sz n row rfl;cases hia) hb λhstep=>S9.ob ⟨by rw[hzk],by rw[hκk];exact hn,hl,h1,hcl,cs,ty,by rw[hbk,hκk];exact hblk,
     by rw[hκk,hzk];exact a37 (Nat.le_of_eq hcs.symm),λi j t hi hj=> ?_⟩ hia
 obtain⟨u,hu,hrd⟩:=hr i j t hi hj;exact⟨u,hu,hstep.rd hrd⟩

theorem Inv.to(h:Inv c E H w){E':Env}{H':Y1}(ho:w'.os=w.os)(ht:w'.tape=w.tape)(hp:w'.output=w.output)(hsz:w.heap.size<=w'.heap.size)(hstep:Stp E w E' w')(k:Nat)(Gv:Nat->Prop)
  (hN':∀b,E'.N b->E.N b) (hold:∀i o,Z0 H' i=some o->i≠k->Z0 H i=some o/\¬Gv i)
  (hnew:∀o,Z0 H' k=some o->E'.L k/\m6 E' w' k o/\∀b,E6 E' k o b->w.heap.size<=b∨∃m o',Gv m/\Z0 H m=some o'/\E6 E m o' b)
  (hw:∀b,b<w.heap.size->(∀m o,Gv m->Z0 H m=some o->¬E6 E m o b)->w'.heap[b]? =w.heap[b]?)
  (lt:∀i,E'.L i->i<H'.length) (l2:∀i v,E'.L2 i v->E'.L i) (cur:∀o i v,Z0 H' i=some o->E'.L2 i v->∃v0 ty sz n row,o= .fam v0 ty sz n row/\v<=v0):
  Inv c E' H' w':=by
 have hlive:=h.heap.live;have ob:∀i o b,Z0 H' i=some o->i≠k->E6 E' i o b->Z0 H i=some o/\¬Gv i/\E6 E i o b:=λi o b hi hne hb=>by
  obtain⟨h1,h2⟩:=hold i o hi hne;obtain⟨e1,e2,_⟩:=hlive i o h1;exact⟨h1,h2,hb.back e2 e1 hstep.le⟩
 refine⟨⟨λi o hi=> ?_,λi i' o o' b hi hi' hb hb'=> ?_,lt,l2,λi o v hi hv=>cur o i v hi hv⟩,λb hb=>by have:=h.nlt b (hN' b hb);omega,λb hb=>h.nnew b (hN' b hb),λi o b hi hb=> ?_,
  h.fr.heap ho ht hp hsz (λb h1 h2=>hw b (by have:=h.fr.size;omega) (λm o hm hmo hb=> ?_)),h.keep.step hstep⟩
 ·by_cases hik:i=k
  ·subst hik;obtain⟨n1,n2,n3⟩:=hnew o hi;refine⟨n1,n2,λb hb hN=> ?_⟩
   rcases n3 b hb with h3|⟨m,o',hm,hmo,hmb⟩
   ·have:=h.nlt b (hN' b hN);omega
   ·exact(hlive m o' hmo).2.2 b hmb (hN' b hN)
  ·obtain⟨h1,h2⟩:=hold i o hi hik;obtain⟨e1,e2,e3⟩:=hlive i o h1;refine⟨hstep.le.L i e1,e2.mono e1 hstep (λb hb=>hw b (e2.blt hb) λm o' hm hmo hmb=> ?_),λb hb hN=>e3 b (ob i o b hi hik hb).2.2 (hN' b hN)⟩
   have:=h.heap.inj i m o o' b h1 hmo hb hmb;exact h2 (this▸hm)
 ·by_cases hik:i=k
  ·by_cases hik':i'=k
   ·rw[hik,hik']
   ·subst hik;obtain⟨q1,q2,q3⟩:=ob i' o' b hi' hik' hb';rcases(hnew o hi).2.2 b hb with h3|⟨m,o2,hm,hmo,hmb⟩
    ·have:=h.heap.blt q1 q3;omega
    ·have:=h.heap.inj i' m o' o2 b q1 hmo q3 hmb;exact absurd (this▸hm) q2
  ·obtain⟨q1,q2,q3⟩:=ob i o b hi hik hb;by_cases hik':i'=k
   ·subst hik';rcases(hnew o' hi').2.2 b hb' with h3|⟨m,o2,hm,hmo,hmb⟩
    ·have:=h.heap.blt q1 q3;omega
    ·have:=h.heap.inj i m o o2 b q1 hmo q3 hmb;exact absurd (this▸hm) q2
   ·obtain⟨p1,p2,p3⟩:=ob i' o' b hi' hik' hb';exact h.heap.inj i i' o o' b q1 p1 q3 p3
 ·by_cases hik:i=k
  ·subst hik;rcases(hnew o hi).2.2 b hb with h3|⟨m,o2,hm,hmo,hmb⟩
   ·have:=h.fr.size;exact .inl (by omega)
   ·exact h.bnew m o2 b hmo hmb
  ·obtain⟨q1,q2,q3⟩:=ob i o b hi hik hb;exact h.bnew i o b q1 q3
 ·rcases h.bnew m o b hmo hb with h3|h3
  ·omega
  ·exact h2 h3

theorem F9(w:World)(o:Obj):(w.alloc o).os=w.os/\(w.alloc o).tape=w.tape/\(w.alloc o).output=w.output/\(∀b,b<w.heap.size->(w.alloc o).heap[b]? =w.heap[b]?)/\(w.alloc o).heap[w.heap.size]? =some o:=
 ⟨rfl,rfl,rfl,λ_ hb=>heap_alloc_old w o hb,heap_alloc_new w o⟩

theorem a5J(h:Inv c E H w){t:TypeId}{y:T}{H':Y1}(he:wN P H t=some (y,H')):
  ∃r w' E',(Instr.makeMap t none).run P w= .ok r w'/\Rd E' w' y r/\Inv c E' H' w'/\Step E w E' w':=by
 have main:∀bo,∃r w' E',(Instr.makeMap t none).run P w= .ok r w'/\Rd E' w' (.mpr H.length) r/\Inv c E' (H++[some (.mp bo λ_=>0)]) w'/\Step E w E' w':=by
  intro bo;obtain⟨a1,a2,a3,a4,a5⟩:=F9 w (.map #[] 0);have:=h.pushO (w':=w.alloc (.map #[] 0)) a1 a2 a3 (by simp) a4 (.mp bo λ_=>0) w.heap.size 1 (by rintro v ty sz n row he;cases he) (λ_=>W4 _) (λ_=>⟨by rw[show(E.push H.length w.heap.size 1 (Ob.mp bo λ_=>0).toArr.sz).κ H.length=1 from if_pos rfl];simp, #[],0,by rw[show(E.push H.length w.heap.size 1 (Ob.mp bo λ_=>0).toArr.sz).β H.length=w.heap.size from if_pos rfl];exact a5,by simp,λn=>rfl⟩)
  refine⟨_,_,_,rfl,?_,this.1,this.2⟩
  have hr:=Rd.mpr (E:=E.push H.length w.heap.size 1 (Ob.mp bo λ_=>0).toArr.sz) (w:=w.alloc (.map #[] 0)) H.length (.inr rfl)
  rw[show(E.push H.length w.heap.size 1 (Ob.mp bo λ_=>0).toArr.sz).β H.length=w.heap.size from if_pos rfl] at hr
  exact hr
 have main2:∃r w' E',(Instr.makeMap t none).run P w= .ok r w'/\Rd E' w' (.mpr H.length) r/\Inv c E' (H++[some (.mp2 λ_ _=>false)]) w'/\Step E w E' w':=by
  obtain⟨a1,a2,a3,a4,a5⟩:=F9 w (.map #[] 0);have:=h.pushO (w':=w.alloc (.map #[] 0)) a1 a2 a3 (by simp) a4 (.mp2 λ_ _=>false) w.heap.size 1 (by rintro v ty sz n row he;cases he) (λ_=>W4 _) (λ_=>⟨by rw[show(E.push H.length w.heap.size 1 (Ob.mp2 λ_ _=>false).toArr.sz).κ H.length=1 from if_pos rfl];simp, #[],0,by rw[show(E.push H.length w.heap.size 1 (Ob.mp2 λ_ _=>false).toArr.sz).β H.length=w.heap.size from if_pos rfl];exact a5,by simp,λa b hh=>by(cases hh),by simp⟩)
  refine⟨_,_,_,rfl,?_,this.1,this.2⟩
  have hr:=Rd.mpr (E:=E.push H.length w.heap.size 1 (Ob.mp2 λ_ _=>false).toArr.sz) (w:=w.alloc (.map #[] 0)) H.length (.inr rfl)
  rw[show(E.push H.length w.heap.size 1 (Ob.mp2 λ_ _=>false).toArr.sz).β H.length=w.heap.size from if_pos rfl] at hr
  exact hr
 unfold wN at he;split at he
 ·simp only[W8,T5] at he;obtain⟨rfl,rfl⟩:=he;exact main true
 ·simp only[W8,T5] at he;obtain⟨rfl,rfl⟩:=he;exact main false
 ·split at he
  ·simp only[W8,T5] at he;obtain⟨rfl,rfl⟩:=he;exact main2
  ·cases he

theorem b0j(h:Inv c E H w){t:TypeId}{cs:List T}{y:T}{H':Y1}{side:Option Prop}(he:fH P H t cs=some (y,H',side)){vs:Array Value}(hv:vB E w cs vs):
  ∃E',Inv c E' H' (w.alloc (.cells vs t))/\Step E w E' (w.alloc (.cells vs t))/\Rd E' (w.alloc (.cells vs t)) y (.pointer (some ⟨w.heap.size,0,none⟩)):=by
 unfold fH at he;split at he
 ·rename_i hone;simp only[W8,T5] at he;obtain⟨rfl,rfl,rfl⟩:=he;obtain⟨a1,a2,a3,a4,a5⟩:=F9 w (.cells vs t);have:=h.push a1 a2 a3 (by simp) a4 (.arr (cs.all W5) 1000000 cs.length 1 λ_=>cs) w.heap.size 1 vs t (λ_=>W4 _) (λ_=>a5) (by simp only[Ob.toArr,Nat.one_mul];exact hv.1.symm) (W4 1) (λ_ _=>rfl) (λi t _ ht=>i5.1 hone t ht)
   (λhcl i t hi ht=>i5.1 hcl t ht) (λi j t hi hj=>by
    obtain rfl:i=0:=by simp only[Ob.toArr] at hi;omega
    have hj':j<cs.length:=(z5.1 hj).1
    have hvj:vs[j]? =some (vs[j]'(by have:=hv.1;omega)):=rL _
    exact⟨_,by rw[Nat.zero_mul,G9];exact hvj,hv.2 _ _ _ hj hvj⟩)
  refine⟨_,this.1,this.2,?_⟩
  have hr:=Rd.ref (E:=E.push H.length w.heap.size 1 cs.length) (w:=w.alloc (.cells vs t)) H.length 0 0 (.inr rfl);have hb:(E.push H.length w.heap.size 1 cs.length).β H.length=w.heap.size:=if_pos rfl;rw[hb,Nat.zero_mul,G9] at hr;exact hr
 ·cases he

theorem c1v(h:Inv c E H w){t:TypeId}{r:Nat}{z:List T}{vs:Array Value}(hr:r<H.length)(hL:¬E.L r)(hone:z.all J7=true)(hv:vB E w z vs):
  ∃E',Inv c E' (H.set r (some (.arr (z.all W5) 1000000 z.length 1 λ_=>z))) (w.alloc (.cells vs t))/\Stp E w E' (w.alloc (.cells vs t))/\Rd E' (w.alloc (.cells vs t)) (.ref r 0 0) (.pointer (some ⟨w.heap.size,0,none⟩))/\∀k,E'.L k->E.L k∨k=r:=by
 obtain⟨a1,a2,a3,a4,a5⟩:=F9 w (.cells vs t);let E':=E.push r w.heap.size 1 z.length
 have hst:Stp E w E' (w.alloc (.cells vs t)):=⟨Env.push_le hL,λb hb=>a4 b (h.nlt b hb)⟩
 have hb:E'.β r=w.heap.size:=if_pos rfl;have hκ:E'.κ r=1:=if_pos rfl;have hz:E'.z r=(z.length,[]):=if_pos rfl;refine⟨E',h.to a1 a2 a3 (by simp) hst r (λ_=>False) (λ_ h=>h) (λi o hi hne=> ?_) (λo hi=> ?_) (λb hb _=>a4 b hb) (λi hi=> ?_) (λi v hv=>.inl (h.heap.l2 i v hv)) (λo i v hi hv=> ?_),hst,?_,λ_ h=>h⟩
 ·rw[U0 hr,if_neg hne] at hi;exact⟨hi,λh=>h⟩
 ·rw[U0 hr,if_pos rfl] at hi;simp only[W8] at hi;subst hi;refine⟨.inr rfl,S9.ob ⟨by rw[hz];rfl,by rw[hκ];exact W4 1,λ_ _=>rfl,λi t _ ht=>i5.1 hone t ht,λhcl i t hi ht=>i5.1 hcl t ht,vs,t,by rw[hb];exact λ_=>a5,by rw[hκ,hz];simp only[Ob.toArr,Nat.one_mul];exact a37 (Nat.le_of_eq hv.1),λi j u hi hj=> ?_⟩ rfl,λb hb'=> ?_⟩
  ·obtain rfl:i=0:=by simp only[Ob.toArr] at hi;omega
   have hj':j<z.length:=(z5.1 hj).1
   have hvj:vs[j]? =some (vs[j]'(by have:=hv.1;omega)):=rL _
   exact⟨_,by rw[Nat.zero_mul,G9];exact hvj,hst.rd (hv.2 _ _ _ hj hvj)⟩
  ·rcases hb' with⟨_,rfl⟩|hb'
   ·rw[hb];exact .inl (W4 _)
   ·exact(hb'.not (by rintro v ty sz n row he;cases he)).elim
 ·rw[B1];rcases hi with hi|rfl
  ·exact h.heap.lt i hi
  ·exact hr
 ·rw[U0 hr] at hi;split at hi
  ·rename_i he;subst he;exact absurd (h.heap.l2 _ v hv) hL
  ·exact h.heap.cur i o v hi hv
 ·have hr':=Rd.ref (E:=E') (w:=w.alloc (.cells vs t)) r 0 0 (.inr rfl);rw[hb,Nat.zero_mul,G9] at hr';exact hr'

end
end Go.SS
