/- A calculus of symbolic states: a region, in whatever order. -/
import Derived.Test.YtghgljelnhfihaaGreatSSE
namespace Go.SS
open Go.RowKit

structure Trace(P:Program)(G:I2)(nt:Nat)(all:Array Oper)(b:Nat)(H0:Y1)(s0:V5)(S:Nat->St)(y:Nat->T)(p:Nat->G8)(m:Nat->Nat):Prop where
 start:S 0=⟨s0,[],[]⟩
 step:∀k o,all[k]? =some o->StepOk P G nt all b H0 k o (S k) (S (k+1)) (y k) (p k) (m k)
 edge:∀k o,all[k]? =some o->∀e ∈ o.after.toList,Region.binds .any e=true->e.on<k
 pair:∀k o k' o',all[k]? =some o->all[k']? =some o'->k'<k->x1 G all (m k) k' o' (sI (C6 H0 (S k').hist) (S k').s o'.op) o (sI (C6 H0 (S k).hist) (S k).s o.op)=true
 mask:∀k o j,all[k]? =some o->Nat.testBit (m k) j=true->∃e ∈ o.after.toList,Region.binds .any e=true/\e.on<k/\(e.on=j∨Nat.testBit (m e.on) j=true)

def nS(all:Array Oper)(y:Nat->T)(q:G8):Prop:=∀z ∈ q,∃i o x,all[i]? =some o/\o.dst=some z.1/\y i= .bool x/\x=z.2

section
variable {P:Program} {G:I2} {nt:Nat} {all:Array Oper} {b:Nat} {H0:Y1} {s0:V5} {S:Nat->St} {y:Nat->T} {p:Nat->G8} {m:Nat->Nat}

theorem Trace.distinct(t:Trace P G nt all b H0 s0 S y p m){i j d:Nat}{o o':Oper}(hi:all[i]? =some o)(hj:all[j]? =some o')(hd:o.dst=some d)(hd':o'.dst=some d):i=j:=by
 rcases Nat.lt_trichotomy i j with h|h|h
 ·have:=t.pair j o' i o hj hi h;simp[x1,a0y,hd,hd'] at this
 ·exact h
 ·have:=t.pair i o j o' hi hj h;simp[x1,a0y,hd,hd'] at this

theorem Trace.slot_none(t:Trace P G nt all b H0 s0 S y p m)(u:Nat):∀k,k<=all.size->(∀j o,j<k->all[j]? =some o->o.dst≠some u)->j7 (S k).s u=j7 s0 u/\S5 (S k).ps u=[]:=by
 intro k;induction k with
 |zero=>intro _ _;rw[t.start];exact⟨rfl,rfl⟩
 |succ k ih=>
  intro hk hno;obtain⟨h1,h2⟩:=ih (by omega) (λj o hj=>hno j o (by omega))
  have ho:=rL (xs:=all) (i:=k) (by omega)
  have hst:=t.step k _ ho;have hne:=hno k _ (by omega) ho
  constructor
  ·rw[hst.s];cases hd:all[k].dst with
   |none=>exact h1
   |some d=>rw[vT,if_neg (by rintro rfl;exact hne hd)];exact h1
  ·cases hg:all[k].guard with
   |none=>rw[(hst.plain hg).2];exact h2
   |some gw=>
    obtain⟨g,x,_,_,_,_,hps,_,_⟩:=hst.guarded gw.1 gw.2 hg;rw[hps];cases hd:all[k].dst with
    |none=>exact h2
    |some d=>
     simp only[hM,S5];split
     ·rename_i hb;exact absurd (hd.trans (by rw[G3 hb])) hne
     ·exact h2

theorem Trace.slot_some(t:Trace P G nt all b H0 s0 S y p m){u j:Nat}{o:Oper}(hj:all[j]? =some o)(hd:o.dst=some u):∀k,j<k->k<=all.size->j7 (S k).s u=y j/\S5 (S k).ps u=p j:=by
 intro k;induction k with
 |zero=>intro h;omega
 |succ k ih=>
  intro hjk hk;have ho:=rL (xs:=all) (i:=k) (by omega)
  have hst:=t.step k _ ho;by_cases hjk':j=k
  ·subst hjk';have hst:=t.step j o hj;clear ho;constructor
   ·rw[hst.s,hd,vT,if_pos rfl]
   ·have hfr:=hst.fresh;rw[hd] at hfr;obtain⟨hf1,_⟩:=lZ hfr;cases hg:o.guard with
    |none=>rw[(hst.plain hg).2,(hst.plain hg).1];exact hf1
    |some gw=>
     obtain⟨g,x,_,_,_,_,hps,_,_⟩:=hst.guarded gw.1 gw.2 hg;rw[hps,hd];simp[hM,S5]
  ·obtain⟨h1,h2⟩:=ih (by omega) (by omega)
   have hne:all[k].dst≠some u:=λhe=>hjk' (t.distinct hj ho hd he)
   constructor
   ·rw[hst.s];cases hd:all[k].dst with
    |none=>exact h1
    |some d=>rw[vT,if_neg (by rintro rfl;exact hne hd)];exact h1
   ·cases hg:all[k].guard with
    |none=>rw[(hst.plain hg).2];exact h2
    |some gw=>
     obtain⟨g,x,_,_,_,_,hps,_,_⟩:=hst.guarded gw.1 gw.2 hg;rw[hps];cases hd:all[k].dst with
     |none=>exact h2
     |some d=>
      simp only[hM,S5];split
      ·rename_i hb;exact absurd (hd.trans (by rw[G3 hb])) hne
      ·exact h2

theorem kE(all:Array Oper)(u k:Nat):(∃j o,j<k/\all[j]? =some o/\o.dst=some u)∨(∀j o,j<k->all[j]? =some o->o.dst≠some u):=by
 by_cases h:∃j o,j<k/\all[j]? =some o/\o.dst=some u
 ·exact .inl h
 ·exact .inr λj o hj ho hd=>h ⟨j,o,hj,ho,hd⟩

theorem Trace.path_lt(t:Trace P G nt all b H0 s0 S y p m):∀j o,all[j]? =some o->∀q ∈ p j,∃i o',i<j/\all[i]? =some o'/\o'.dst=some q.1:=by
 intro j;induction j using Nat.strongRecOn with
 |_ j ih=>
  intro o hj q hq;have hst:=t.step j o hj;cases hg:o.guard with
  |none=>rw[(hst.plain hg).1] at hq;cases hq
  |some gw=>
   obtain⟨g,x,hgd,_,hlt,hp,_,_,_⟩:=hst.guarded gw.1 gw.2 hg;rw[hp] at hq;have hog:∃og,all[gw.1]? =some og/\og.dst=some g:=by
    cases ho:all[gw.1]? with
    |none=>rw[ho] at hgd;cases hgd
    |some og=>rw[ho] at hgd;exact⟨og,rfl,hgd⟩
   obtain⟨og,hog,hdg⟩:=hog;rcases wY.1 hq with rfl|hq
   ·exact⟨gw.1,og,hlt,hog,hdg⟩
   ·have hjs:j<=all.size:=Nat.le_of_lt (j_p.1 hj).1
    rw[(t.slot_some hog hdg j hlt hjs).2] at hq;obtain⟨i,o',hi,ho',hd'⟩:=ih gw.1 hlt og hog q hq;exact⟨i,o',by omega,ho',hd'⟩

theorem Trace.pathV(t:Trace P G nt all b H0 s0 S y p m){k:Nat}(hk:k<=all.size){q:G8}(hq:∀z ∈ q,∃i o',i<k/\all[i]? =some o'/\o'.dst=some z.1):J9 (S k).s q↔nS all y q:=by
 constructor
 ·intro h z hz;obtain⟨i,o',hi,ho',hd'⟩:=hq z hz;obtain⟨x,hx,he⟩:=h z hz;rw[(t.slot_some ho' hd' k hi hk).1] at hx;exact⟨i,o',x,ho',hd',hx,he⟩
 ·intro h z hz;obtain⟨i,o',hi,ho',hd'⟩:=hq z hz;obtain⟨i',o2,x,ho2,hd2,hx,he⟩:=h z hz;obtain rfl:=t.distinct ho' ho2 hd' hd2;exact⟨x,by rw[(t.slot_some ho' hd' k hi hk).1];exact hx,he⟩

def Cl(all:Array Oper)(D:Nat->Prop):Prop:=∀j o,D j->all[j]? =some o->∀e ∈ o.after.toList,Region.binds .any e=true->D e.on

theorem Trace.mask_done(t:Trace P G nt all b H0 s0 S y p m){D:Nat->Prop}(hD:Cl all D):∀k o,all[k]? =some o->(∀e ∈ o.after.toList,Region.binds .any e=true->D e.on)->∀j,Nat.testBit (m k) j=true->D j:=by
 intro k;induction k using Nat.strongRecOn with
 |_ k ih=>
  intro o hk hpre j hj;obtain⟨e,he,hb,hlt,hor⟩:=t.mask k o j hk hj;have hDe:=hpre e he hb;rcases hor with rfl|hor
  ·exact hDe
  ·have hlt':e.on<all.size:=Nat.lt_trans hlt (j_p.1 hk).1
   have ho:=rL hlt'
   exact ih e.on hlt _ ho (hD e.on _ hDe ho) j hor

def HH(H0:Y1)(S:Nat->St)(k:Nat):Y1:=C6 H0 (S k).hist

def jR(G:I2)(all:Array Oper)(k:Nat):Prop:=∃o,all[k]? =some o/\stays G o.op=false

theorem Trace.hist_same(t:Trace P G nt all b H0 s0 S y p m){a:Nat}:∀b,a<=b->b<=all.size->(∀x,a<=x->x<b->¬jR G all x)->(S b).hist=(S a).hist:=by
 intro b;induction b with
 |zero=>intro h _ _;rw[Nat.le_zero.1 h]
 |succ b ih=>
  intro h hb hno;by_cases he:a=b+1
  ·rw[he]
  ·have ho:=rL (xs:=all) (i:=b) (by omega)
   have hst:=t.step b _ ho;have hsty:stays G all[b].op=true:=by
    cases hs:stays G all[b].op with
    |true=>rfl
    |false=>exact absurd ⟨_,ho,hs⟩ (hno b (by omega) (by omega))
   rw[(hst.reader hsty).1];exact ih (by omega) (by omega) (λx h1 h2=>hno x h1 (by omega))

theorem Trace.hist_ext(t:Trace P G nt all b H0 s0 S y p m){a:Nat}:∀b,a<=b->b<=all.size->(∀x o,a<=x->x<b->all[x]? =some o->stays G o.op=false->zM G o.op=true∨w8 (G6 G) o=true)->H7 (HH H0 S a) (HH H0 S b):=by
 intro b;induction b with
 |zero=>intro h _ _;rw[Nat.le_zero.1 h];exact H7.refl _
 |succ b ih=>
  intro h hb hno;by_cases he:a=b+1
  ·rw[he];exact H7.refl _
  ·have ho:=rL (xs:=all) (i:=b) (by omega)
   have hst:=t.step b _ ho;refine(ih (by omega) (by omega) (λx o h1 h2=>hno x o h1 (by omega))).trans ?_
   cases hs:stays G all[b].op with
   |true=>
    have:=(hst.reader hs).1;simp only[HH,this];exact H7.refl _
   |false=>
    cases hal:w8 (G6 G) all[b] with
    |true=>
     obtain⟨H',side,he',hh,_⟩:=hst.al hal;simp only[HH,hh,C6];exact a2A he'
    |false=>
     obtain⟨G',H',side,hGG,hev,hh,_⟩:=hst.writer hs hal;have hg:=(hno b _ (by omega) (by omega) ho hs).resolve_right (by rw[hal];simp)
     simp only[HH,hh,C6];exact a2S ((hGG.grow _).trans hg) hev

theorem Trace.hist_extOn(t:Trace P G nt all b H0 s0 S y p m){R:List Nat}{a:Nat}:∀b,a<=b->b<=all.size->(∀x o,a<=x->x<b->all[x]? =some o->stays G o.op=false->(zM G o.op=true∨w8 (G6 G) o=true)∨disjB (some R) (vP (HH H0 S x) (S x).s o.op)=true)->fB R (HH H0 S a) (HH H0 S b):=by
 intro b;induction b with
 |zero=>intro h _ _;rw[Nat.le_zero.1 h];exact λ_ _ _ h=>h
 |succ b ih=>
  intro h hb hno;by_cases he:a=b+1
  ·rw[he];exact λ_ _ _ h=>h
  ·have ho:=rL (xs:=all) (i:=b) (by omega)
   have hst:=t.step b _ ho;have h0:=ih (by omega) (by omega) (λx o h1 h2=>hno x o h1 (by omega))
   have h1:fB R (HH H0 S b) (HH H0 S (b+1)):=by
    cases hs:stays G all[b].op with
    |true=>
     have:=(hst.reader hs).1;simp only[HH,this];exact λ_ _ _ h=>h
    |false=>
     cases hal:w8 (G6 G) all[b] with
     |true=>
      obtain⟨H',side,he',hh,_⟩:=hst.al hal;simp only[HH,hh,C6];exact λk _ ob hk=>a2A he' k ob hk
     |false=>
      obtain⟨G',H',side,hGG,hev,hh,_⟩:=hst.writer hs hal;have hg:=hno b _ (by omega) (by omega) ho hs
      simp only[HH,hh,C6];rcases hg with hg|hg
      ·exact λk _ ob hk=>a2S ((hGG.grow _).trans (hg.resolve_right (by rw[hal];simp))) hev k ob hk
      ·unfold disjB at hg;split at hg
       ·rename_i r w hr hw;simp only[W8] at hr;subst hr;refine λk hk ob hob=>a42 hw hev k (λhkw=> ?_) ob hob
        have:=i5.1 (i5.1 hg k hk) k hkw;simp at this
       ·cases hg
   exact λk hk ob hob=>h1 k hk ob (h0 k hk ob hob)

theorem iR{fl:Bool}{k:Nat}{o:Oper}(h:all[k]? =some o):F0 fl all k=w8 fl o:=by unfold F0;rw[h]

theorem Trace.hist_at(t:Trace P G nt all b H0 s0 S y p m)(mm:Nat):∀i,i<=all.size->∃q,q<=i/\hAt (G6 G) all H0 mm (S i).hist=HH H0 S q/\(∀x,q<=x->x<i->jR G all x->Nat.testBit mm x=false∨F0 (G6 G) all x=true)/\(q=0∨∃x,q=x+1/\jR G all x/\F0 (G6 G) all x=false/\Nat.testBit mm x=true):=by
 intro i;induction i with
 |zero=>intro _;exact⟨0,W4 _,by simp[HH,t.start,hAt,C6],λx _ h=>by omega,.inl rfl⟩
 |succ i ih=>
  intro hi;obtain⟨q,hq,he,hno,hor⟩:=ih (by omega)
  have ho:=rL (xs:=all) (i:=i) (by omega)
  have hst:=t.step i _ ho;cases hs:stays G all[i].op with
  |true=>
   refine⟨q,by omega,by rw[(hst.reader hs).1];exact he,λx h1 h2 hx=> ?_,hor⟩
   by_cases hxi:x=i
   ·subst hxi;obtain⟨o,ho',hs'⟩:=hx;rw[ho] at ho';simp only[W8] at ho';subst ho';rw[hs] at hs';cases hs'
   ·exact hno x h1 (by omega) hx
  |false=>
   obtain⟨H',hh⟩:∃H',(S (i+1)).hist=(i,H')::(S i).hist:=by
    cases hal:w8 (G6 G) all[i] with
    |true=>obtain⟨H',_,_,hh,_⟩:=hst.al hal;exact⟨H',hh⟩
    |false=>obtain⟨_,H',_,_,_,hh,_⟩:=hst.writer hs hal;exact⟨H',hh⟩
   cases hb:Nat.testBit mm i&& !F0 (G6 G) all i with
   |true=>
    simp only[L3,xP] at hb;exact⟨i+1,W4 _,by simp only[hh,hAt,hb.1,hb.2,HH,C6];rfl,λx h1 h2=>by omega,.inr ⟨i,rfl,⟨_,ho,hs⟩,hb.2,hb.1⟩⟩
   |false=>
    refine⟨q,by omega,by simp only[hh,hAt,hb];exact he,λx h1 h2 hx=> ?_,hor⟩
    by_cases hxi:x=i
    ·subst hxi;simp only[Bool.and_eq_false_iff,yT] at hb;exact hb
    ·exact hno x h1 (by omega) hx

end

section
variable {c:Ctx} {P:Program} {E:Env} {H:Y1} {w w':World}

theorem b2z(h:Inv c E H w)(ho:w'.os=w.os)(ht:w'.tape=w.tape)(hp:w'.output=w.output)(hsz:w.heap.size<=w'.heap.size)(hw:∀b,b<w.heap.size->w'.heap[b]? =w.heap[b]?){r:Nat}(hr:r<H.length)(hL:¬E.L r)
  (ob:Ob) (b κ:Nat) (hia:ob.isArr=true) (hb:κ≠0->w.heap.size<=b) (hok:Stp E w (E.push r b κ ob.toArr.sz) w'->S9 (E.push r b κ ob.toArr.sz) w' r ob.toArr):
  Inv c (E.push r b κ ob.toArr.sz) (H.set r (some ob)) w'/\Stp E w (E.push r b κ ob.toArr.sz) w'/\∀k,(E.push r b κ ob.toArr.sz).L k->E.L k∨k=r:=by
 have hst:Stp E w (E.push r b κ ob.toArr.sz) w':=⟨Env.push_le hL,λb hb=>hw b (h.nlt b hb)⟩
 have hbk:(E.push r b κ ob.toArr.sz).β r=b:=if_pos rfl;have hκk:(E.push r b κ ob.toArr.sz).κ r=κ:=if_pos rfl;refine⟨h.to ho ht hp hsz hst r (λ_=>False) (λ_ h=>h) (λi o hi hne=> ?_) (λo hi=> ?_) (λb hb _=>hw b hb) (λi hi=> ?_) (λi v hv=>.inl (h.heap.l2 i v hv)) (λo i v hi hv=> ?_),hst,λk hk=>hk⟩
 ·rw[U0 hr,if_neg hne] at hi;exact⟨hi,λh=>h⟩
 ·rw[U0 hr,if_pos rfl] at hi;simp only[W8] at hi;subst hi;refine⟨.inr rfl,S9.ob (hok hst) hia,λx hx=> ?_⟩
  obtain⟨h1,rfl⟩:=hx.arr hia;rw[hbk];rw[hκk] at h1;exact .inl (hb h1)
 ·rw[B1];rcases hi with hi|rfl
  ·exact h.heap.lt i hi
  ·exact hr
 ·rw[U0 hr] at hi;split at hi
  ·rename_i he;subst he;exact absurd (h.heap.l2 _ v hv) hL
  ·exact h.heap.cur i o v hi hv

theorem c00(h:Inv c E H w){t tx ty e:TypeId}{x:T}{dv xv:Value}{i:TypeInfo}{z:List T}{q:Sr}{r:Nat}(hr:r<H.length)(hL:¬E.L r)(hu:P.underlying t=some (.slice e))(hi:P.info? e=some i)(hz:zeroCells P e=some z)(hl:Nat.beq z.length i.size=true)
  (hq:vR [] (P.underlying tx) i.size x=some q) (hcl:q.cl=true) (hs:iX q.side (W6 0 q.n i.bytes)) (hd:Rd E w .emp dv) (hx:Rd E w x xv):
  ∃v w' E',(Builtin.append_ #[t,tx] ty #[dv,xv]).run P w= .ok v w'/\Inv c E' (H.set r (some (.arr true e i.size q.n q.row))) w'/\Stp E w E' w'/\Rd E' w' (.osl r 0 q.n) v/\∀k,E'.L k->E.L k∨k=r:=by
 obtain⟨zv,hzv,hzl⟩:=xK hi hz;have hzs:zv.cells.size=i.size:=by rw[hzl];exact G3 hl
 obtain⟨a0,rfl⟩:∃a0,dv= .slice a0 0 0:=by cases hd with|emp a=>exact⟨a,rfl⟩
 obtain⟨hls,hab⟩:=xX hs;obtain⟨news,hsrc,hlen,hone,hcl',hnews⟩:=uZ (P:=P) h.heap (a0P hq) hls hx;obtain⟨rv,w',hrun,ha⟩:=G1 (P:=P) (ty:=ty) hu hi hzv hzs hsrc 0 hab (.slice a0 0 0) (λ_=>none) none (.inl ⟨a0,rfl,rfl,rfl⟩)
 rcases ha with ha|⟨hm,rfl,a1,rfl⟩
 ·obtain⟨ho,ht,hp,hsize,hoth,b,cap,cs,tyb,rfl,hcap,hblk,hcs,hbg,_,hnew⟩:=ha;have hold:∀b,b<w.heap.size->w'.heap[b]? =w.heap[b]? :=λb hb=>hoth b hb (by simp)
  have hge:w.heap.size<=b:=by
   rcases hbg with h1|h1
   ·exact h1.1
   ·cases h1
  rw[G9] at hcap;obtain⟨g1,g2,g3⟩:=b2z h ho ht hp hsize hold hr hL (.arr true e i.size q.n q.row) b cap rfl (λ_=>hge) (λhst=>by
   have hbk:(E.push r b cap i.size).β r=b:=if_pos rfl;have hκk:(E.push r b cap i.size).κ r=cap:=if_pos rfl;have hzk:(E.push r b cap i.size).z r=(i.size,[]):=if_pos rfl;refine⟨by rw[show(Ob.arr true e i.size q.n q.row).toArr.sz=i.size from rfl,hzk],?_,λk hk=>hlen k hk,λk t hk ht=>hone k t hk ht,λ_ k t hk ht=>hcl' hcl k t hk ht,cs,tyb,λ_=> ?_,?_,λk j t hk hj=> ?_⟩
   ·show q.n<=(E.push r b cap i.size).κ r;rw[hκk];exact hcap
   ·show w'.heap[(E.push r b cap i.size).β r]? =_;rw[hbk];exact hblk
   ·show eE cs ((E.push r b cap i.size).κ r*i.size) ((E.push r b cap i.size).z r).2;rw[hκk,hzk];exact a37 hcs
   ·obtain⟨u,hu',hr'⟩:=hnews k j t hk hj;refine⟨u,?_,hst.rd hr'⟩
    have hk:k<q.n:=hk;have hj':j<i.size:=by rw[←hlen k hk];exact(z5.1 hj).1
    have hlt:k*i.size+j<q.n*i.size:=by
     have:(k+1)*i.size<=q.n*i.size:=iN _ hk;rw[Nat.add_mul] at this;omega
    have:=hnew _ hlt;rw[Nat.zero_mul,G9] at this;show cs[k*i.size+j]? =some u;rw[this,hu'])
  refine⟨_,w',_,hrun,g1,g2,?_,g3⟩
  have hbk:(E.push r b cap i.size).β r=b:=if_pos rfl;have hκk:(E.push r b cap i.size).κ r=cap:=if_pos rfl;have hrd:=Rd.osl (E:=E.push r b cap i.size) (w:=w') r 0 q.n 0 (some ⟨b,0,none⟩) (.inr rfl) (by rw[hκk];omega) (λ_=>by simp) (λ_=>by rw[hbk])
  rw[hκk,Nat.sub_zero] at hrd;rw[G9];exact hrd
 ·have hn:q.n=0:=by omega
  obtain⟨g1,g2,g3⟩:=b2z h rfl rfl rfl (W4 _) (λ_ _=>rfl) hr hL (.arr true e i.size q.n q.row) 0 0 rfl (λh=>absurd rfl h) (λhst=>by
   have hκk:(E.push r 0 0 i.size).κ r=0:=if_pos rfl;have hzk:(E.push r 0 0 i.size).z r=(i.size,[]):=if_pos rfl;refine⟨by rw[show(Ob.arr true e i.size q.n q.row).toArr.sz=i.size from rfl,hzk],?_,λk hk=>hlen k hk,λk t hk ht=>hone k t hk ht,λ_ k t hk ht=>hcl' hcl k t hk ht, #[],0,λhk=>absurd hκk hk,?_,λk j t hk=> ?_⟩
   ·show q.n<=(E.push r 0 0 i.size).κ r;omega
   ·show eE #[] ((E.push r 0 0 i.size).κ r*i.size) ((E.push r 0 0 i.size).z r).2;rw[hκk,hzk];exact a37 (by simp)
   ·have hk:k<q.n:=hk;omega)
  refine⟨_,_,_,hrun,g1,g2,?_,g3⟩
  have hκk:(E.push r 0 0 i.size).κ r=0:=if_pos rfl;have hrd:=Rd.osl (E:=E.push r 0 0 i.size) (w:=w') r 0 0 0 a1 (.inr rfl) (S7 _) (λ_=>by simp) (λh=>absurd hκk h)
  rw[hκk] at hrd;rw[hn];exact hrd

theorem b7X(h:Inv c E H w){o:Oper}{s:V5}{H0 H1:Y1}{a:Act}{r:Nat}{y:T}{side:Option Prop}(he:a3t P s H0 o.op r=some (y,H1,side))(hs:side.getD True)(hr:r<H.length)(hL:¬E.L r)(hop:∀x ∈ S1 o.op,I0 E w a s x):
  ∃v w' E' ob,H1=H0.set r (some ob)/\(execOp a.eval o).run P w= .ok (.value v) w'/\Inv c E' (H.set r (some ob)) w'/\Stp E w E' w'/\Rd E' w' y v/\∀k,E'.L k->E.L k∨k=r:=by
 unfold a3t at he;split at he
 ·rename_i t ho;split at he
  ·rename_i z hz;split at he
   ·rename_i h1 hone h3 h4;simp only[W8,T5] at he;obtain⟨rfl,rfl,rfl⟩:=he;obtain⟨v,hv,hrl2,_⟩:=d9 (E:=E) (w:=w) hz;obtain⟨E',g1,g2,g3,g4⟩:=c1v (t:=t) h hr hL hone hrl2;refine⟨_,_,E',_,rfl,?_,g1,g2,g3,g4⟩
    simp only[execOp,ho,Instr.alloc,newVar,newRow,H4,hv,run_newObj,I1,D5];rfl
   ·cases he
  ·cases he
 ·rename_i args at_ ho;rw[ho] at hop;split at he
  case h_2=>cases he
  rename_i d x t tx ha hat;obtain rfl:args= #[d,x]:=Array.ext' (by simpa using ha)
  obtain rfl:at_= #[t,tx]:=Array.ext' (by simpa using hat)
  split at he
  case h_2=>cases he
  rename_i e hd hu;split at he
  case h_2=>cases he
  rename_i i z hi hz;split at he
  case h_2=>cases he
  rename_i q hl hq;split at he
  case h_2=>cases he
  rename_i hcl h3 h4;simp only[W8,T5] at he;obtain⟨rfl,rfl,rfl⟩:=he;have hdo:=hop d (by simp[S1,Op.operands,Call.operands])
  unfold I0 at hdo;rw[hd] at hdo;obtain⟨rv,w',E',hrun,g1,g2,g3,g4⟩:=c00 (P:=P) (ty:=o.type) h hr hL hu hi hz hl hq hcl hs hdo (hop x (by simp[S1,Op.operands,Call.operands]))
  refine⟨rv,w',E',_,rfl,?_,g1,g2,g3,g4⟩
  simp[execOp,ho,resolve,invoke,builtin,hrun,Result.andThen]
 ·cases he

end
end Go.SS
