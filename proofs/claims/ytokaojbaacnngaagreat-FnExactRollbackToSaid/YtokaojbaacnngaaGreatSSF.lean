/- A calculus of symbolic states: a region, in whatever order. -/
import Derived.Test.YtokaojbaacnngaaGreatSSE
namespace Go.SS
open Go.RowKit

structure Trace(P:Program)(G:I4)(nt:Nat)(all:Array Oper)(b:Nat)(H0:Y3)(s0:V9)(S:Nat->St)(y:Nat->T)(p:Nat->J2)(m:Nat->Nat):Prop where
 start:S 0=⟨s0,[],[]⟩
 step:∀k o,all[k]? =some o->StepOk P G nt all b H0 k o (S k) (S (k+1)) (y k) (p k) (m k)
 edge:∀k o,all[k]? =some o->∀e ∈ o.after.toList,Region.binds .any e=true->e.on<k
 pair:∀k o k' o',all[k]? =some o->all[k']? =some o'->k'<k->B7 G all (m k) k' o' (sR (D6 H0 (S k').hist) (S k').s o'.op) o (sR (D6 H0 (S k).hist) (S k).s o.op)=true
 mask:∀k o j,all[k]? =some o->Nat.testBit (m k) j=true->∃e ∈ o.after.toList,Region.binds .any e=true/\e.on<k/\(e.on=j∨Nat.testBit (m e.on) j=true)

def pN(all:Array Oper)(y:Nat->T)(q:J2):Prop:=∀z ∈ q,∃i o x,all[i]? =some o/\o.dst=some z.1/\y i= .bool x/\x=z.2

section
variable {P:Program} {G:I4} {nt:Nat} {all:Array Oper} {b:Nat} {H0:Y3} {s0:V9} {S:Nat->St} {y:Nat->T} {p:Nat->J2} {m:Nat->Nat}

theorem Trace.distinct(t:Trace P G nt all b H0 s0 S y p m){i j d:Nat}{o o':Oper}(hi:all[i]? =some o)(hj:all[j]? =some o')(hd:o.dst=some d)(hd':o'.dst=some d):i=j:=by
 rcases Nat.lt_trichotomy i j with h|h|h
 ·have:=t.pair j o' i o hj hi h;simp[B7,cZ,hd,hd'] at this
 ·exact h
 ·have:=t.pair i o j o' hi hj h;simp[B7,cZ,hd,hd'] at this

theorem Trace.slot_none(t:Trace P G nt all b H0 s0 S y p m)(u:Nat):∀k,k<=all.size->(∀j o,j<k->all[j]? =some o->o.dst≠some u)->q8 (S k).s u=q8 s0 u/\T6 (S k).ps u=[]:=by
 intro k;induction k with
 |zero=>intro _ _;rw[t.start];exact⟨rfl,rfl⟩
 |succ k ih=>
  intro hk hno;obtain⟨h1,h2⟩:=ih (by omega) (λj o hj=>hno j o (by omega))
  have ho:=sJ (xs:=all) (i:=k) (by omega)
  have hst:=t.step k _ ho;have hne:=hno k _ (by omega) ho
  constructor
  ·rw[hst.s];cases hd:all[k].dst with
   |none=>exact h1
   |some d=>rw[wG,if_neg (by rintro rfl;exact hne hd)];exact h1
  ·cases hg:all[k].guard with
   |none=>rw[(hst.plain hg).2];exact h2
   |some gw=>
    obtain⟨g,x,_,_,_,_,hps,_,_⟩:=hst.guarded gw.1 gw.2 hg;rw[hps];cases hd:all[k].dst with
    |none=>exact h2
    |some d=>
     simp only[kG,T6];split
     ·rename_i hb;exact absurd (hd.trans (by rw[H9 hb])) hne
     ·exact h2

theorem Trace.slot_some(t:Trace P G nt all b H0 s0 S y p m){u j:Nat}{o:Oper}(hj:all[j]? =some o)(hd:o.dst=some u):∀k,j<k->k<=all.size->q8 (S k).s u=y j/\T6 (S k).ps u=p j:=by
 intro k;induction k with
 |zero=>intro h;omega
 |succ k ih=>
  intro hjk hk;have ho:=sJ (xs:=all) (i:=k) (by omega)
  have hst:=t.step k _ ho;by_cases hjk':j=k
  ·subst hjk';have hst:=t.step j o hj;clear ho;constructor
   ·rw[hst.s,hd,wG,if_pos rfl]
   ·have hfr:=hst.fresh;rw[hd] at hfr;obtain⟨hf1,_⟩:=nH hfr;cases hg:o.guard with
    |none=>rw[(hst.plain hg).2,(hst.plain hg).1];exact hf1
    |some gw=>
     obtain⟨g,x,_,_,_,_,hps,_,_⟩:=hst.guarded gw.1 gw.2 hg;rw[hps,hd];simp[kG,T6]
  ·obtain⟨h1,h2⟩:=ih (by omega) (by omega)
   have hne:all[k].dst≠some u:=λhe=>hjk' (t.distinct hj ho hd he)
   constructor
   ·rw[hst.s];cases hd:all[k].dst with
    |none=>exact h1
    |some d=>rw[wG,if_neg (by rintro rfl;exact hne hd)];exact h1
   ·cases hg:all[k].guard with
    |none=>rw[(hst.plain hg).2];exact h2
    |some gw=>
     obtain⟨g,x,_,_,_,_,hps,_,_⟩:=hst.guarded gw.1 gw.2 hg;rw[hps];cases hd:all[k].dst with
     |none=>exact h2
     |some d=>
      simp only[kG,T6];split
      ·rename_i hb;exact absurd (hd.trans (by rw[H9 hb])) hne
      ·exact h2

theorem mN(all:Array Oper)(u k:Nat):(∃j o,j<k/\all[j]? =some o/\o.dst=some u)∨(∀j o,j<k->all[j]? =some o->o.dst≠some u):=by
 by_cases h:∃j o,j<k/\all[j]? =some o/\o.dst=some u
 ·exact .inl h
 ·exact .inr λj o hj ho hd=>h ⟨j,o,hj,ho,hd⟩

theorem Trace.path_lt(t:Trace P G nt all b H0 s0 S y p m):∀j o,all[j]? =some o->∀q ∈ p j,∃i o',i<j/\all[i]? =some o'/\o'.dst=some q.1:=by
 intro j;induction j using Nat.strongRecOn with
 |_ j ih=>
  intro o hj q hq;have hst:=t.step j o hj;cases hg:o.guard with
  |none=>rw[(hst.plain hg).1] at hq;cases hq
  |some gw=>
   obtain⟨g,x,hgd,_,hlt,hp,_,_,_⟩:=hst.guarded gw.1 gw.2 hg;rw[hp] at hq;have hog:∃og,all[gw.1]? =some og/\og.dst=some g:=by
    cases ho:all[gw.1]? with
    |none=>rw[ho] at hgd;cases hgd
    |some og=>rw[ho] at hgd;exact⟨og,rfl,hgd⟩
   obtain⟨og,hog,hdg⟩:=hog;rcases vN.1 hq with rfl|hq
   ·exact⟨gw.1,og,hlt,hog,hdg⟩
   ·have hjs:j<=all.size:=Nat.le_of_lt (cT.1 hj).1
    rw[(t.slot_some hog hdg j hlt hjs).2] at hq;obtain⟨i,o',hi,ho',hd'⟩:=ih gw.1 hlt og hog q hq;exact⟨i,o',by omega,ho',hd'⟩

theorem Trace.pathV(t:Trace P G nt all b H0 s0 S y p m){k:Nat}(hk:k<=all.size){q:J2}(hq:∀z ∈ q,∃i o',i<k/\all[i]? =some o'/\o'.dst=some z.1):L8 (S k).s q↔pN all y q:=by
 constructor
 ·intro h z hz;obtain⟨i,o',hi,ho',hd'⟩:=hq z hz;obtain⟨x,hx,he⟩:=h z hz;rw[(t.slot_some ho' hd' k hi hk).1] at hx;exact⟨i,o',x,ho',hd',hx,he⟩
 ·intro h z hz;obtain⟨i,o',hi,ho',hd'⟩:=hq z hz;obtain⟨i',o2,x,ho2,hd2,hx,he⟩:=h z hz;obtain rfl:=t.distinct ho' ho2 hd' hd2;exact⟨x,by rw[(t.slot_some ho' hd' k hi hk).1];exact hx,he⟩

def Cl(all:Array Oper)(D:Nat->Prop):Prop:=∀j o,D j->all[j]? =some o->∀e ∈ o.after.toList,Region.binds .any e=true->D e.on

theorem Trace.mask_done(t:Trace P G nt all b H0 s0 S y p m){D:Nat->Prop}(hD:Cl all D):∀k o,all[k]? =some o->(∀e ∈ o.after.toList,Region.binds .any e=true->D e.on)->∀j,Nat.testBit (m k) j=true->D j:=by
 intro k;induction k using Nat.strongRecOn with
 |_ k ih=>
  intro o hk hpre j hj;obtain⟨e,he,hb,hlt,hor⟩:=t.mask k o j hk hj;have hDe:=hpre e he hb;rcases hor with rfl|hor
  ·exact hDe
  ·have hlt':e.on<all.size:=Nat.lt_trans hlt (cT.1 hk).1
   have ho:=sJ hlt'
   exact ih e.on hlt _ ho (hD e.on _ hDe ho) j hor

def HH(H0:Y3)(S:Nat->St)(k:Nat):Y3:=D6 H0 (S k).hist

def kU(G:I4)(all:Array Oper)(k:Nat):Prop:=∃o,all[k]? =some o/\stays G o.op=false

theorem Trace.hist_same(t:Trace P G nt all b H0 s0 S y p m){a:Nat}:∀b,a<=b->b<=all.size->(∀x,a<=x->x<b->¬kU G all x)->(S b).hist=(S a).hist:=by
 intro b;induction b with
 |zero=>intro h _ _;rw[Nat.le_zero.1 h]
 |succ b ih=>
  intro h hb hno;by_cases he:a=b+1
  ·rw[he]
  ·have ho:=sJ (xs:=all) (i:=b) (by omega)
   have hst:=t.step b _ ho;have hsty:stays G all[b].op=true:=by
    cases hs:stays G all[b].op with
    |true=>rfl
    |false=>exact absurd ⟨_,ho,hs⟩ (hno b (by omega) (by omega))
   rw[(hst.reader hsty).1];exact ih (by omega) (by omega) (λx h1 h2=>hno x h1 (by omega))

theorem Trace.hist_ext(t:Trace P G nt all b H0 s0 S y p m){a:Nat}:∀b,a<=b->b<=all.size->(∀x o,a<=x->x<b->all[x]? =some o->stays G o.op=false->m8 G o.op=true)->G5 (HH H0 S a) (HH H0 S b):=by
 intro b;induction b with
 |zero=>intro h _ _;rw[Nat.le_zero.1 h];exact G5.refl _
 |succ b ih=>
  intro h hb hno;by_cases he:a=b+1
  ·rw[he];exact G5.refl _
  ·have ho:=sJ (xs:=all) (i:=b) (by omega)
   have hst:=t.step b _ ho;refine(ih (by omega) (by omega) (λx o h1 h2=>hno x o h1 (by omega))).trans ?_
   cases hs:stays G all[b].op with
   |true=>
    have:=(hst.reader hs).1;simp only[HH,this];exact G5.refl _
   |false=>
    cases hal:qH all[b] with
    |some t0=>
     obtain⟨H',he',hh⟩:=hst.al t0 hal;simp only[HH,hh,D6];exact bC he'
    |none=>
     obtain⟨G',H',side,hGG,hev,hh,_⟩:=hst.writer hs hal;have hg:=hno b _ (by omega) (by omega) ho hs
     simp only[HH,hh,D6];exact cE ((hGG.grow _).trans hg) hev

theorem Trace.hist_extOn(t:Trace P G nt all b H0 s0 S y p m){R:List Nat}{a:Nat}:∀b,a<=b->b<=all.size->(∀x o,a<=x->x<b->all[x]? =some o->stays G o.op=false->m8 G o.op=true∨disjB (some R) (qF (HH H0 S x) (S x).s o.op)=true)->hM R (HH H0 S a) (HH H0 S b):=by
 intro b;induction b with
 |zero=>intro h _ _;rw[Nat.le_zero.1 h];exact λ_ _ _ h=>h
 |succ b ih=>
  intro h hb hno;by_cases he:a=b+1
  ·rw[he];exact λ_ _ _ h=>h
  ·have ho:=sJ (xs:=all) (i:=b) (by omega)
   have hst:=t.step b _ ho;have h0:=ih (by omega) (by omega) (λx o h1 h2=>hno x o h1 (by omega))
   have h1:hM R (HH H0 S b) (HH H0 S (b+1)):=by
    cases hs:stays G all[b].op with
    |true=>
     have:=(hst.reader hs).1;simp only[HH,this];exact λ_ _ _ h=>h
    |false=>
     cases hal:qH all[b] with
     |some t0=>
      obtain⟨H',he',hh⟩:=hst.al t0 hal;simp only[HH,hh,D6];exact λk _ ob hk=>bC he' k ob hk
     |none=>
      obtain⟨G',H',side,hGG,hev,hh,_⟩:=hst.writer hs hal;have hg:=hno b _ (by omega) (by omega) ho hs
      simp only[HH,hh,D6];rcases hg with hg|hg
      ·exact λk _ ob hk=>cE ((hGG.grow _).trans hg) hev k ob hk
      ·unfold disjB at hg;split at hg
       ·rename_i r w hr hw;simp only[X1] at hr;subst hr;refine λk hk ob hob=>a2s hw hev k (λhkw=> ?_) ob hob
        have:=m4.1 (m4.1 hg k hk) k hkw;simp at this
       ·cases hg
   exact λk hk ob hob=>h1 k hk ob (h0 k hk ob hob)

theorem mG{o:Oper}(h:xQ o=true):∃t,qH o=some t:=by
 unfold xQ at h;split at h
 ·rename_i t ht;exact⟨t,ht⟩
 ·cases h

theorem sD{k:Nat}{o:Oper}(h:all[k]? =some o):C9 all k=xQ o:=by unfold C9;rw[h]

theorem Trace.hist_at(t:Trace P G nt all b H0 s0 S y p m)(mm:Nat):∀i,i<=all.size->∃q,q<=i/\hAt all H0 mm (S i).hist=HH H0 S q/\(∀x,q<=x->x<i->kU G all x->Nat.testBit mm x=false∨C9 all x=true)/\(q=0∨∃x,q=x+1/\kU G all x/\C9 all x=false/\Nat.testBit mm x=true):=by
 intro i;induction i with
 |zero=>intro _;exact⟨0,V2 _,by simp[HH,t.start,hAt,D6],λx _ h=>by omega,.inl rfl⟩
 |succ i ih=>
  intro hi;obtain⟨q,hq,he,hno,hor⟩:=ih (by omega)
  have ho:=sJ (xs:=all) (i:=i) (by omega)
  have hst:=t.step i _ ho;cases hs:stays G all[i].op with
  |true=>
   refine⟨q,by omega,by rw[(hst.reader hs).1];exact he,λx h1 h2 hx=> ?_,hor⟩
   by_cases hxi:x=i
   ·subst hxi;obtain⟨o,ho',hs'⟩:=hx;rw[ho] at ho';simp only[X1] at ho';subst ho';rw[hs] at hs';cases hs'
   ·exact hno x h1 (by omega) hx
  |false=>
   obtain⟨H',hh⟩:∃H',(S (i+1)).hist=(i,H')::(S i).hist:=by
    cases hal:qH all[i] with
    |some t0=>obtain⟨H',_,hh⟩:=hst.al t0 hal;exact⟨H',hh⟩
    |none=>obtain⟨_,H',_,_,_,hh,_⟩:=hst.writer hs hal;exact⟨H',hh⟩
   cases hb:Nat.testBit mm i&& !C9 all i with
   |true=>
    simp only[J6,wD] at hb;exact⟨i+1,V2 _,by simp only[hh,hAt,hb.1,hb.2,HH,D6];rfl,λx h1 h2=>by omega,.inr ⟨i,rfl,⟨_,ho,hs⟩,hb.2,hb.1⟩⟩
   |false=>
    refine⟨q,by omega,by simp only[hh,hAt,hb];exact he,λx h1 h2 hx=> ?_,hor⟩
    by_cases hxi:x=i
    ·subst hxi;simp only[Bool.and_eq_false_iff,xO] at hb;exact hb
    ·exact hno x h1 (by omega) hx

end
end Go.SS
