/- A part of the proof. -/
import Derived.Test.YtpdnnhnfongoeaaGreatSS13
namespace Go.SS
open Go.RowKit
structure Trace(P:Program)(G:H6)(nt:Nat)(all:Array Oper)(b:Nat)(H0:X9)(s0:W4)(S:Nat->St)(y:Nat->T)(p:Nat->C5)(m:Nat->Nat):Prop where
 start:S 0=⟨s0,[],[]⟩
 step:∀k o,all[k]? =some o->StepOk P G nt all b H0 k o (S k) (S (k+1)) (y k) (p k) (m k)
 edge:∀k o,all[k]? =some o->∀e ∈ o.after.toList,Region.binds .any e=true->e.on<k
 pair:∀k o k' o',all[k]? =some o->all[k']? =some o'->k'<k->l9 G all (m k) k' o' (pB (y6 H0 (S k').hist) (S k').s o'.op) o (pB (y6 H0 (S k).hist) (S k).s o.op)=true
 mask:∀k o j,all[k]? =some o->Nat.testBit (m k) j=true->∃e ∈ o.after.toList,Region.binds .any e=true/\e.on<k/\(e.on=j∨Nat.testBit (m e.on) j=true)
def jK(all:Array Oper)(y:Nat->T)(q:C5):Prop:=∀z ∈ q,∃i o x,all[i]? =some o/\o.dst=some z.1/\y i= .bool x/\x=z.2
section
variable {P:Program} {G:H6} {nt:Nat} {all:Array Oper} {b:Nat} {H0:X9} {s0:W4} {S:Nat->St} {y:Nat->T} {p:Nat->C5} {m:Nat->Nat}
def Trace.distinct(t:Trace P G nt all b H0 s0 S y p m){i j d:Nat}{o o':Oper}(hi:all[i]? =some o)(J:all[j]? =some o')(hd:o.dst=some d)(e:o'.dst=some d):i=j:=by
 rcases Nat.lt_trichotomy i j with h|h|h
 ·have:=t.pair j o' i o J hi h;simp[l9,a2K,hd,e] at this
 ·exact h
 ·have:=t.pair i o j o' hi J h;simp[l9,a2K,hd,e] at this
def Trace.slot_none(t:Trace P G nt all b H0 s0 S y p m)(u:Nat):∀k,k<=all.size->(∀j o,j<k->all[j]? =some o->o.dst≠some u)->zH (S k).s u=zH s0 u/\S9 (S k).ps u=[]:=by
 intro k;induction k with
 |zero=>intro _ _;rw[t.start];exact⟨rfl,rfl⟩
 |succ k I=>
  intro q h;obtain⟨n,f⟩:=I Z9 (λj o J=>h j o Z9)
  have O:=tB (xs:=all) (i:=k) Z9
  have hst:=t.step k _ O;have e:=h k _ Z9 O
  constructor
  ·rw[hst.s];cases hd:all[k].dst with
   |none=>exact n
   |some d=>rw[tS,if_neg (by rintro rfl;exact e hd)];exact n
  ·cases hg:all[k].guard with
   |none=>rw[(hst.plain hg).2];exact f
   |some W=>
    obtain⟨g,x,_,_,_,_,l,_,_⟩:=hst.guarded W.1 W.2 hg;rw[l];cases hd:all[k].dst with
    |none=>exact f
    |some d=>
     simp only[bO,S9];split
     ·rename_i B;exact absurd (hd.trans (by rw[F5 B])) e
     ·exact f
def Trace.slot_some(t:Trace P G nt all b H0 s0 S y p m){u j:Nat}{o:Oper}(hj:all[j]? =some o)(hd:o.dst=some u):∀k,j<k->k<=all.size->zH (S k).s u=y j/\S9 (S k).ps u=p j:=by
 intro k;induction k with
 |zero=>intro h;omega
 |succ k ih=>
  intro l q;have ho:=tB (xs:=all) (i:=k) Z9
  have hst:=t.step k _ ho;by_cases hjk':j=k
  ·subst hjk';have hst:=t.step j o hj;clear ho;constructor
   ·rw[hst.s,hd,tS,if_pos rfl]
   ·have hfr:=hst.fresh;rw[hd] at hfr;obtain⟨hf1,_⟩:=gQ hfr;cases hg:o.guard with
    |none=>rw[(hst.plain hg).2,(hst.plain hg).1];exact hf1
    |some W=>
     obtain⟨g,x,_,_,_,_,e,_,_⟩:=hst.guarded W.1 W.2 hg;rw[e,hd];simp[bO,S9]
  ·obtain⟨h1,h2⟩:=ih Z9 Z9
   have f:all[k].dst≠some u:=λn=>hjk' (t.distinct hj ho hd n)
   constructor
   ·rw[hst.s];cases hd:all[k].dst with
    |none=>exact h1
    |some d=>rw[tS,if_neg (by rintro rfl;exact f hd)];exact h1
   ·cases hg:all[k].guard with
    |none=>rw[(hst.plain hg).2];exact h2
    |some W=>
     obtain⟨g,x,_,_,_,_,e,_,_⟩:=hst.guarded W.1 W.2 hg;rw[e];cases hd:all[k].dst with
     |none=>exact h2
     |some d=>
      simp only[bO,S9];split
      ·rename_i B;exact absurd (hd.trans (by rw[F5 B])) f
      ·exact h2
def eE(all:Array Oper)(u k:Nat):(∃j o,j<k/\all[j]? =some o/\o.dst=some u)∨(∀j o,j<k->all[j]? =some o->o.dst≠some u):=by
 by_cases h:∃j o,j<k/\all[j]? =some o/\o.dst=some u
 ·exact .inl h
 ·exact .inr λj o J O hd=>h ⟨j,o,J,O,hd⟩
def Trace.path_lt(t:Trace P G nt all b H0 s0 S y p m):∀j o,all[j]? =some o->∀q ∈ p j,∃i o',i<j/\all[i]? =some o'/\o'.dst=some q.1:=by
 intro j;induction j using Nat.strongRecOn with
 |_ j I=>
  intro o hj q Q;have l:=t.step j o hj;cases v:o.guard with
  |none=>rw[(l.plain v).1] at Q;cases Q
  |some W=>
   obtain⟨g,x,d,_,e,hp,_,_,_⟩:=l.guarded W.1 W.2 v;rw[hp] at Q;have h:∃O,all[W.1]? =some O/\O.dst=some g:=by
    cases u:all[W.1]? with
    |none=>rw[u] at d;cases d
    |some O=>rw[u] at d;exact⟨O,rfl,d⟩
   obtain⟨O,h,f⟩:=h;rcases vN.1 Q with rfl|Q
   ·exact⟨W.1,O,e,h,f⟩
   ·have hjs:j<=all.size:=Nat.le_of_lt (aC.1 hj).1
    rw[(t.slot_some h f j e hjs).2] at Q;obtain⟨i,o',hi,n,r⟩:=I W.1 e O h q Q;exact⟨i,o',Z9,n,r⟩
def Trace.pathV(t:Trace P G nt all b H0 s0 S y p m){k:Nat}(l:k<=all.size){q:C5}(Q:∀z ∈ q,∃i o',i<k/\all[i]? =some o'/\o'.dst=some z.1):H5 (S k).s q↔jK all y q:=by
 constructor
 ·intro h z Z;obtain⟨i,o',hi,d,e⟩:=Q z Z;obtain⟨x,X,g⟩:=h z Z;rw[(t.slot_some d e k hi l).1] at X;exact⟨i,o',x,d,e,X,g⟩
 ·intro h z Z;obtain⟨i,o',hi,d,e⟩:=Q z Z;obtain⟨I,o,x,j,f,X,g⟩:=h z Z;obtain rfl:=t.distinct d j e f;exact⟨x,by rw[(t.slot_some d e k hi l).1];exact X,g⟩
def Cl(all:Array Oper)(D:Nat->Prop):Prop:=∀j o,D j->all[j]? =some o->∀e ∈ o.after.toList,Region.binds .any e=true->D e.on
def Trace.mask_done(t:Trace P G nt all b H0 s0 S y p m){D:Nat->Prop}(l:Cl all D):∀k o,all[k]? =some o->(∀e ∈ o.after.toList,Region.binds .any e=true->D e.on)->∀j,Nat.testBit (m k) j=true->D j:=by
 intro k;induction k using Nat.strongRecOn with
 |_ k i=>
  intro o hk f j J;obtain⟨e,g,B,hlt,h⟩:=t.mask k o j hk J;have d:=f e g B;rcases h with rfl|h
  ·exact d
  ·have hlt':e.on<all.size:=Nat.lt_trans hlt (aC.1 hk).1
   have O:=tB hlt'
   exact i e.on hlt _ O (l e.on _ d O) j h
def HH(H0:X9)(S:Nat->St)(k:Nat):X9:=y6 H0 (S k).hist
def dU(G:H6)(all:Array Oper)(k:Nat):Prop:=∃o,all[k]? =some o/\stays G o.op=false
def Trace.hist_same(t:Trace P G nt all b H0 s0 S y p m){a:Nat}:∀b,a<=b->b<=all.size->(∀x,a<=x->x<b->¬dU G all x)->(S b).hist=(S a).hist:=by
 intro b;induction b with
 |zero=>intro h _ _;rw[Nat.le_zero.1 h]
 |succ b I=>
  intro h B o;by_cases e:a=b+1
  ·rw[e]
  ·have ho:=tB (xs:=all) (i:=b) Z9
   have d:=t.step b _ ho;have Y:stays G all[b].op=true:=by
    cases g:stays G all[b].op with
    |true=>rfl
    |false=>exact absurd ⟨_,ho,g⟩ (o b Z9 Z9)
   rw[(d.reader Y).1];exact I Z9 Z9 (λx f j=>o x f Z9)
def Trace.hist_ext(t:Trace P G nt all b H0 s0 S y p m){a:Nat}:∀b,a<=b->b<=all.size->(∀x o,a<=x->x<b->all[x]? =some o->stays G o.op=false->xP G o.op=true∨l7 (C1 G) o=true)->D5 (HH H0 S a) (HH H0 S b):=by
 intro b;induction b with
 |zero=>intro h _ _;rw[Nat.le_zero.1 h];exact D5.refl _
 |succ b I=>
  intro h B O;by_cases q:a=b+1
  ·rw[q];exact D5.refl _
  ·have ho:=tB (xs:=all) (i:=b) Z9
   have d:=t.step b _ ho;refine(I Z9 Z9 (λx o r u=>O x o r Z9)).trans ?_
   cases f:stays G all[b].op with
   |true=>
    have:=(d.reader f).1;simp only[HH,this];exact D5.refl _
   |false=>
    cases l:l7 (C1 G) all[b] with
    |true=>
     obtain⟨H',side,j,e,_⟩:=d.al l;simp only[HH,e,y6];exact a43 j
    |false=>
     obtain⟨G',H',side,g,v,e,_⟩:=d.writer f l;have n:=(O b _ Z9 Z9 ho f).resolve_right (by rw[l];simp)
     simp only[HH,e,y6];exact a5o ((g.grow _).trans n) v
def Trace.hist_extOn(t:Trace P G nt all b H0 s0 S y p m){R:List Nat}{a:Nat}:∀b,a<=b->b<=all.size->(∀x o,a<=x->x<b->all[x]? =some o->stays G o.op=false->(xP G o.op=true∨l7 (C1 G) o=true)∨disjB (some R) (tN (HH H0 S x) (S x).s o.op)=true)->a0o R (HH H0 S a) (HH H0 S b):=by
 intro b;induction b with
 |zero=>intro h _ _;rw[Nat.le_zero.1 h];exact λ_ _ _ h=>h
 |succ b I=>
  intro h B O;by_cases u:a=b+1
  ·rw[u];exact λ_ _ _ h=>h
  ·have ho:=tB (xs:=all) (i:=b) Z9
   have d:=t.step b _ ho;have q:=I Z9 Z9 (λx o e v=>O x o e Z9)
   have e:a0o R (HH H0 S b) (HH H0 S (b+1)):=by
    cases j:stays G all[b].op with
    |true=>
     have:=(d.reader j).1;simp only[HH,this];exact λ_ _ _ h=>h
    |false=>
     cases l:l7 (C1 G) all[b] with
     |true=>
      obtain⟨H',side,f,g,_⟩:=d.al l;simp only[HH,g,y6];exact λk _ ob hk=>a43 f k ob hk
     |false=>
      obtain⟨G',H',side,n,hev,g,_⟩:=d.writer j l;have hg:=O b _ Z9 Z9 ho j
      simp only[HH,g,y6];rcases hg with hg|hg
      ·exact λk _ ob hk=>a5o ((n.grow _).trans (hg.resolve_right (by rw[l];simp))) hev k ob hk
      ·unfold disjB at hg;split at hg
       ·rename_i r w hr hw;simp only[X0] at hr;subst hr;refine λk hk ob hob=>a8d hw hev k (λhkw=>?_) ob hob
        have:=b9.1 (b9.1 hg k hk) k hkw;simp at this
       ·cases hg
   exact λk hk ob hob=>e k hk ob (q k hk ob hob)
def cH{fl:Bool}{k:Nat}{o:Oper}(h:all[k]? =some o):A6 fl all k=l7 fl o:=by unfold A6;rw[h]
def Trace.hist_at(t:Trace P G nt all b H0 s0 S y p m)(M:Nat):∀i,i<=all.size->∃q,q<=i/\hAt (C1 G) all H0 M (S i).hist=HH H0 S q/\(∀x,q<=x->x<i->dU G all x->Nat.testBit M x=false∨A6 (C1 G) all x=true)/\(q=0∨∃x,q=x+1/\dU G all x/\A6 (C1 G) all x=false/\Nat.testBit M x=true):=by
 intro i;induction i with
 |zero=>intro _;exact⟨0,U9 _,by simp[HH,t.start,hAt,y6],λx _ h=>Z9,.inl rfl⟩
 |succ i A=>
  intro hi;obtain⟨q,Q,z,O,r⟩:=A Z9
  have u:=tB (xs:=all) (i:=i) Z9
  have e:=t.step i _ u;cases j:stays G all[i].op with
  |true=>
   refine⟨q,Z9,by rw[(e.reader j).1];exact z,λx n v X=>?_,r⟩
   by_cases I:x=i
   ·subst I;obtain⟨o,d,g⟩:=X;rw[u] at d;simp only[X0] at d;subst d;rw[j] at g;cases g
   ·exact O x n Z9 X
  |false=>
   obtain⟨H',f⟩:∃H',(S (i+1)).hist=(i,H')::(S i).hist:=by
    cases l:l7 (C1 G) all[i] with
    |true=>obtain⟨H',_,_,f,_⟩:=e.al l;exact⟨H',f⟩
    |false=>obtain⟨_,H',_,_,_,f,_⟩:=e.writer j l;exact⟨H',f⟩
   cases B:Nat.testBit M i&& !A6 (C1 G) all i with
   |true=>
    simp only[J5,vZ] at B;exact⟨i+1,U9 _,by simp only[f,hAt,B.1,B.2,HH,y6];rfl,λx n v=>Z9,.inr ⟨i,rfl,⟨_,u,j⟩,B.2,B.1⟩⟩
   |false=>
    refine⟨q,Z9,by simp only[f,hAt,B];exact z,λx n v X=>?_,r⟩
    by_cases I:x=i
    ·subst I;simp only[Bool.and_eq_false_iff,wU] at B;exact B
    ·exact O x n Z9 X
end
section
variable {c:Ctx} {P:Program} {E:Env} {H:X9} {w w':World}
def b8q(h:Inv c E H w)(O:w'.os=w.os)(t:w'.tape=w.tape)(hp:w'.output=w.output)(z:w.heap.size<=w'.heap.size)(W:∀b,b<w.heap.size->w'.heap[b]? =w.heap[b]?){r:Nat}(hr:r<H.length)(j:¬E.L r)
  (ob:Ob) (b κ:Nat) (hia:ob.isArr=true) (B:κ≠0->w.heap.size<=b) (hok:Stp E w (E.push r b κ ob.toArr.sz) w'->T5 (E.push r b κ ob.toArr.sz) w' r ob.toArr):
  Inv c (E.push r b κ ob.toArr.sz) (H.set r (some ob)) w'/\Stp E w (E.push r b κ ob.toArr.sz) w'/\∀k,(E.push r b κ ob.toArr.sz).L k->E.L k∨k=r:=by
 have hst:Stp E w (E.push r b κ ob.toArr.sz) w':=⟨Env.push_le j,λb B=>W b (h.nlt b B)⟩
 have f:(E.push r b κ ob.toArr.sz).β r=b:=if_pos rfl;have d:(E.push r b κ ob.toArr.sz).κ r=κ:=if_pos rfl;refine⟨h.to O t hp z hst r (λ_=>False) (λ_ h=>h) (λi o hi e=>?_) (λo hi=>?_) (λb B _=>W b B) (λi hi=>?_) (λi v hv=>.inl (h.heap.l2 i v hv)) (λo i v hi hv=>?_),hst,λk l=>l⟩
 ·rw[U2 hr,if_neg e] at hi;exact⟨hi,λh=>h⟩
 ·rw[U2 hr,if_pos rfl] at hi;simp only[X0] at hi;subst hi;refine⟨.inr rfl,T5.ob (hok hst) hia,λx hx=>?_⟩
  obtain⟨g,rfl⟩:=hx.arr hia;rw[f];rw[d] at g;exact .inl (B g)
 ·rw[zW];rcases hi with hi|rfl
  ·exact h.heap.lt i hi
  ·exact hr
 ·rw[U2 hr] at hi;split at hi
  ·rename_i n;subst n;exact absurd (h.heap.l2 _ v hv) j
  ·exact h.heap.cur i o v hi hv
def c8V(h:Inv c E H w){t tx ty e:TypeId}{x:T}{V xv:Value}{i:TypeInfo}{z:List T}{q:Sr}{r:Nat}(hr:r<H.length)(hL:¬E.L r)(hu:P.underlying t=some (.slice e))(hi:P.info? e=some i)(hz:zeroCells P e=some z)(hl:Nat.beq z.length i.size=true)
  (hq:wP [] (P.underlying tx) i.size x=some q) (C:q.cl=true) (hs:kI q.side (U8 0 q.n i.bytes)) (hd:Rd E w .emp V) (hx:Rd E w x xv):
  ∃v w' E',(Builtin.append_ #[t,tx] ty #[V,xv]).run P w= .ok v w'/\Inv c E' (H.set r (some (.arr true e i.size q.n q.row))) w'/\Stp E w E' w'/\Rd E' w' (.osl r 0 q.n) v/\∀k,E'.L k->E.L k∨k=r:=by
 obtain⟨zv,M,J⟩:=c9 hi hz;have O:zv.cells.size=i.size:=by rw[J];exact F5 hl
 obtain⟨I,rfl⟩:∃I,V= .slice I 0 0:=b8y
 obtain⟨Q,W⟩:=yG hs;obtain⟨aa,F,N,A,l,hnews⟩:=vS (P:=P) h.heap (a27 hq) Q hx;obtain⟨rv,w',o,ha⟩:=B7 (P:=P) (ty:=ty) hu hi M O F 0 W (.slice I 0 0) (λ_=>none) none (.inl ⟨I,rfl,rfl,rfl⟩)
 rcases ha with ha|⟨hm,rfl,a1,rfl⟩
 ·obtain⟨ho,ht,hp,hsize,hoth,b,cap,cs,tyb,rfl,hcap,hblk,hcs,hbg,_,hnew⟩:=ha;have hold:∀b,b<w.heap.size->w'.heap[b]? =w.heap[b]? :=λb hb=>hoth b hb W7
  have R:w.heap.size<=b:=by
   rcases hbg with h1|h1
   ·exact h1.1
   ·cases h1
  rw[D4] at hcap;obtain⟨Y,X,Z⟩:=b8q h ho ht hp hsize hold hr hL (.arr true e i.size q.n q.row) b cap rfl (λ_=>R) (λhst=>by
   have B:(E.push r b cap i.size).β r=b:=if_pos rfl;have d:(E.push r b cap i.size).κ r=cap:=if_pos rfl;have g:(E.push r b cap i.size).z r=(i.size,[]):=if_pos rfl;refine⟨by rw[show(Ob.arr true e i.size q.n q.row).toArr.sz=i.size from rfl,g],?_,λk hk=>N k hk,λk t hk ht=>A k t hk ht,λ_ k t hk ht=>l C k t hk ht,cs,tyb,λ_=>?_,?_,λk j t hk hj=>?_⟩
   ·show q.n<=(E.push r b cap i.size).κ r;rw[d];exact hcap
   ·show w'.heap[(E.push r b cap i.size).β r]? =_;rw[B];exact hblk
   ·show Siz cs ((E.push r b cap i.size).κ r*i.size) ((E.push r b cap i.size).z r).2;rw[d,g];exact a9m hcs
   ·obtain⟨u,hu',hr'⟩:=hnews k j t hk hj;refine⟨u,?_,hst.rd hr'⟩
    have hk:k<q.n:=hk;have ab:j<i.size:=by rw[←N k hk];exact(u6.1 hj).1
    have U:k*i.size+j<q.n*i.size:=by
     have:(k+1)*i.size<=q.n*i.size:=kJ _ hk;rw[Nat.add_mul] at this;omega
    have:=hnew _ U;rw[Nat.zero_mul,D4] at this;show cs[k*i.size+j]? =some u;rw[this,hu'])
  refine⟨_,w',_,o,Y,X,?_,Z⟩
  have B:(E.push r b cap i.size).β r=b:=if_pos rfl;have d:(E.push r b cap i.size).κ r=cap:=if_pos rfl;have f:=Rd.osl (E:=E.push r b cap i.size) (w:=w') r 0 q.n 0 (some ⟨b,0,none⟩) (.inr rfl) (by rw[d];omega) (λ_=>W7) (λ_=>by rw[B])
  rw[d,Nat.sub_zero] at f;rw[D4];exact f
 ·have hn:q.n=0:=by omega
  obtain⟨Y,X,Z⟩:=b8q h rfl rfl rfl (U9 _) (λ_ _=>rfl) hr hL (.arr true e i.size q.n q.row) 0 0 rfl (λh=>absurd rfl h) (λhst=>by
   have d:(E.push r 0 0 i.size).κ r=0:=if_pos rfl;have g:(E.push r 0 0 i.size).z r=(i.size,[]):=if_pos rfl;refine⟨by rw[show(Ob.arr true e i.size q.n q.row).toArr.sz=i.size from rfl,g],?_,λk hk=>N k hk,λk t hk ht=>A k t hk ht,λ_ k t hk ht=>l C k t hk ht, #[],0,λhk=>absurd d hk,?_,λk j t hk=>?_⟩
   ·show q.n<=(E.push r 0 0 i.size).κ r;omega
   ·show Siz #[] ((E.push r 0 0 i.size).κ r*i.size) ((E.push r 0 0 i.size).z r).2;rw[d,g];exact a9m W7
   ·have hk:k<q.n:=hk;omega)
  refine⟨_,_,_,o,Y,X,?_,Z⟩
  have d:(E.push r 0 0 i.size).κ r=0:=if_pos rfl;have f:=Rd.osl (E:=E.push r 0 0 i.size) (w:=w') r 0 0 0 a1 (.inr rfl) (N4 _) (λ_=>W7) (λh=>absurd d h)
  rw[d] at f;rw[hn];exact f
def c5U(h:Inv c E H w){o:Oper}{s:W4}{H0 H1:X9}{a:Act}{r:Nat}{y:T}{side:Option Prop}(he:a6j P s H0 o.op r=some (y,H1,side))(hs:side.getD True)(hr:r<H.length)(hL:¬E.L r)(hop:∀x ∈ D7 o.op,F0 E w a s x):
  ∃v w' E' ob,H1=H0.set r (some ob)/\(execOp a.eval o).run P w= .ok (.value v) w'/\Inv c E' (H.set r (some ob)) w'/\Stp E w E' w'/\Rd E' w' y v/\∀k,E'.L k->E.L k∨k=r:=by
 unfold a6j at he;split at he
 ·rename_i t ho;split at he
  ·rename_i z hz;split at he
   ·rename_i h1 hone h3 h4;simp only[X0,U4] at he;obtain⟨rfl,rfl,rfl⟩:=he;obtain⟨v,hv,hrl2,_⟩:=e9 (E:=E) (w:=w) hz;obtain⟨E',g1,g2,g3,g4⟩:=c9n (t:=t) h hr hL hone hrl2;refine⟨_,_,E',_,rfl,?_,g1,g2,g3,g4⟩
    simp only[execOp,ho,Instr.alloc,newVar,newRow,D1,hv,run_newObj,D6,z5];rfl
   ·cases he
  ·cases he
 ·rename_i args at_ ho;rw[ho] at hop;split at he
  case h_2=>cases he
  rename_i d x t tx ha hat;obtain rfl:args= #[d,x]:=Array.ext' sT
  obtain rfl:at_= #[t,tx]:=Array.ext' a0K
  split at he
  case h_2=>cases he
  rename_i e hd hu;split at he
  case h_2=>cases he
  rename_i i z hi hz;split at he
  case h_2=>cases he
  rename_i q hl hq;split at he
  case h_2=>cases he
  rename_i hcl h3 h4;simp only[X0,U4] at he;obtain⟨rfl,rfl,rfl⟩:=he;have hdo:=hop d vD
  unfold F0 at hdo;rw[hd] at hdo;obtain⟨rv,w',E',hrun,g1,g2,g3,g4⟩:=c8V (P:=P) (ty:=o.type) h hr hL hu hi hz hl hq hcl hs hdo (hop x vD)
  refine⟨rv,w',E',_,rfl,?_,g1,g2,g3,g4⟩
  simp[execOp,ho,resolve,invoke,builtin,hrun,Result.andThen]
 ·cases he
end
def b4C{E:Env}{w:World}{s:W4}{ps:y3}{a:Act}{e:C5}{op:Op}(h:∀u,Operand.tmp u ∈ op.operands.toList->H5 s (S9 ps u)->Rd E w (zH s u) (a.tmps.getD u undef))(hp:H5 s e)(d:F6 ps e op=true):
  (∀x ∈ D7 op,F0 E w a s x)/\∀c x y,op= .pick c x y->(∀b,K6 s c= .bool b->b=true->F0 E w a s x)/\(∀b,K6 s c= .bool b->b=false->F0 E w a s y):=by
 have tmp:∀{q:C5} {x:Operand},x ∈ op.operands.toList->H5 s q->fT ps q x=true->F0 E w a s x:=by
  intro q x X hq g;refine a1Y λu U=>?_
  subst U;exact h u X (b8L g hq)
 by_cases hpk:∃c x y,op= .pick c x y
 ·obtain⟨c,x,y,rfl⟩:=hpk;cases c with
  |tmp t=>
   simp only[F6,J5] at d;obtain⟨⟨i,h2⟩,h3⟩:=d;refine⟨λz Z=>?_,λC j Y he=>?_⟩
   ·simp only[D7,List.mem_singleton] at Z;subst Z;exact tmp (by simp[Op.operands]) hp i
   ·cases he;refine⟨λb hb hbt=>tmp (by simp[Op.operands]) (λq hq=>?_) h2,λb hb hbt=>tmp (by simp[Op.operands]) (λq hq=>?_) h3⟩
    ·rcases vN.1 hq with rfl|hq
     ·exact⟨b,hb,hbt⟩
     ·exact hp q hq
    ·rcases vN.1 hq with rfl|hq
     ·exact⟨b,hb,hbt⟩
     ·exact hp q hq
  |const=>simp[F6] at d
  |global=>simp[F6] at d
  |func=>simp[F6] at d
 ·have f:D7 op=op.operands.toList:=by
   cases op<;>first|rfl|exact absurd ⟨_,_,_,rfl⟩ hpk
  have l:op.operands.toList.all (fT ps e)=true:=by
   cases op<;>first|exact d|exact absurd ⟨_,_,_,rfl⟩ hpk
  exact⟨λx X=>tmp (by rw[←f];exact X) hp (b9.1 l x (by rw[←f];exact X)),λc x y he=>absurd ⟨c,x,y,he⟩ hpk⟩
def oR{u:Nat}:∀{l:List Operand},Operand.tmp u ∈ l->u ∈ sC l:=by
 intro l;induction l with
 |nil=>intro h;cases h
 |cons x l i=>
  intro h;cases x with
  |tmp t=>
   simp only[sC];rcases vN.1 h with h|h
   ·cases h;simp
   ·exact List.mem_cons_of_mem _ (i h)
  |_=>
   simp only[sC];rcases vN.1 h with h|h
   ·cases h
   ·exact i h
def a3p{u:Nat}{l:List Nat}(h:u ∈ l):b1j (some u) l=true:=by
 simp only[b1j,List.any_eq_true];exact⟨u,h,W7⟩
def b71(all:Array Oper)(s0:W4)(y:Nat->T)(p:Nat->C5)(D:Nat->Prop)(E:Env)(w:World)(a:Act)(u:Nat):Prop:=
 (∀j o,all[j]? =some o->o.dst=some u->D j->(jK all y (p j)->Rd E w (y j) (a.tmps.getD u undef))/\(¬jK all y (p j)->a.tmps.getD u undef=undef))/\
  ((∀j o,all[j]? =some o->o.dst=some u->¬D j)->Rd E w (zH s0 u) (a.tmps.getD u undef))
def a3D(G:H6)(all:Array Oper)(b:Nat)(H0:X9)(S:Nat->St)(D:Nat->Prop)(e:Nat)(H:X9):Prop:=
 H.length=(HH H0 S e).length/\(∀x,e<=x->A6 (C1 G) all x=true->D x->Y4 H (kP (C1 G) b all x)=Y4 (HH H0 S (x+1)) (kP (C1 G) b all x))/\
  ∀k,(∀x,e<=x->A6 (C1 G) all x=true->D x->k≠kP (C1 G) b all x)->Y4 H k=Y4 (HH H0 S e) k
def NR(G:H6)(all:Array Oper)(b:Nat)(H0:X9)(S:Nat->St)(e:Nat):Prop:=
 ∀x,e<=x->A6 (C1 G) all x=true->Y4 (HH H0 S e) (kP (C1 G) b all x)=none
def RD(c:Ctx)(G:H6)(all:Array Oper)(b:Nat)(H0:X9)(s0:W4)(S:Nat->St)(y:Nat->T)(p:Nat->C5)(D:Nat->Prop)(a:Act)(w:World):Prop:=
 a.defers=[]/\a.tmps.size=c.nt/\∃E e H,e<=all.size/\(∀x,dU G all x->x<e->D x)/\(∀x,dU G all x->D x->e<=x->A6 (C1 G) all x=true)/\a3D G all b H0 S D e H/\NR G all b H0 S e/\Inv c E H w/\
  (∀x,A6 (C1 G) all x=true->¬D x->¬E.L (kP (C1 G) b all x))/\(∀x,A6 (C1 G) all x=true->∃j,E.L j/\kP (C1 G) b all x<j)/\∀u,b71 all s0 y p D E w a u
def a5q{A B:X9}(l:A.length=B.length)(h:∀k,Y4 A k=Y4 B k):A=B:=by
 refine List.ext_getElem l λk d e=>?_
 have:=h k;unfold Y4 at this;rw[I1 d,I1 e] at this
 exact this
def b7k(fl:Bool)(l r:List Oper):wO fl (l++r)=wO fl l+wO fl r:=by
 induction l with
 |nil=>simp[wO]
 |cons o l i=>
  simp only[List.cons_append,wO,i];split<;>omega
def z6{fl:Bool}{all:Array Oper}{x:Nat}(h:A6 fl all x=true):∃o,all[x]? =some o/\l7 fl o=true:=by
 unfold A6 at h;split at h
 ·rename_i o O;exact⟨o,O,h⟩
 ·cases h
def iD{fl:Bool}{all:Array Oper}{x n:Nat}(h:A6 fl all x=true)(N:x<n):wO fl (all.toList.take x)<wO fl (all.toList.take n):=by
 obtain⟨o,O,f⟩:=z6 h;obtain⟨t,X⟩:=aC.1 O
 have e:all.toList.take n=all.toList.take x++(all.toList.take n).drop x:=by
  have:=(List.take_append_drop x (all.toList.take n)).symm;rw[List.take_take,Nat.min_eq_left Z9] at this
  exact this
 have d:(all.toList.take n).drop x=o::(all.toList.take n).drop (x+1):=by
  have l:x<(all.toList.take n).length:=by simp;omega
  rw[List.drop_eq_getElem_cons l];simp[X]
 rw[e,b7k,d];simp only[wO,f];omega
def a1q{fl:Bool}{all:Array Oper}{b x z:Nat}(h:A6 fl all x=true)(k:A6 fl all z=true)(e:x≠z):kP fl b all x≠kP fl b all z:=by
 unfold kP;rcases Nat.lt_or_gt_of_ne e with hl|hl
 ·have:=iD h hl;omega
 ·have:=iD k hl;omega
section
variable {c:Ctx} {P:Program} {G:H6} {all:Array Oper} {b:Nat} {H0:X9} {s0:W4} {S:Nat->St} {y:Nat->T} {p:Nat->C5} {m:Nat->Nat} {D:Nat->Prop}
def qO{E E':Env}{w w':World}{a:Act}{i:Nat}{o:Oper}(t:Trace P G c.nt all b H0 s0 S y p m)(hi:all[i]? =some o)(z:a.tmps.size=c.nt)(f:Stp E w E' w'){v:Value}
  (hv:(jK all y (p i)->Rd E' w' (y i) v)/\(¬jK all y (p i)->v=undef)) (h:∀u,b71 all s0 y p D E w a u) (u:Nat):b71 all s0 y p (λk=>D k∨k=i) E' w' (a.put o.dst v) u:=by
 have keep:(o.dst≠some u)->(a.put o.dst v).tmps.getD u undef=a.tmps.getD u undef:=by
  intro hne;cases hd:o.dst with
  |none=>rfl
  |some d=>
   have e:=(t.step i o hi).dst;rw[hd] at e;rw[qV a d v u (by rw[z];exact yH e),if_neg (by rintro rfl;exact hne hd)]
 have new:o.dst=some u->(a.put o.dst v).tmps.getD u undef=v:=by
  intro hd;have e:=(t.step i o hi).dst;rw[hd] at e ⊢;rw[qV a u v u (by rw[z];exact yH e),if_pos rfl]
 refine⟨λj O hj hd J=>?_,λhno=>?_⟩
 ·by_cases hji:j=i
  ·subst hji;rw[hj] at hi;simp only[X0] at hi;subst hi;rw[new hd];exact hv
  ·have hne:o.dst≠some u:=λhe=>hji (t.distinct hj hi hd he)
   rw[keep hne];obtain⟨l,g⟩:=(h u).1 j O hj hd (J.resolve_right hji);exact⟨λhp=>f.rd (l hp),g⟩
 ·have hne:o.dst≠some u:=λhe=>hno i o hi he (.inr rfl)
  rw[keep hne];exact f.rd ((h u).2 λj O hj hd J=>hno j O hj hd (.inl J))
def a8p{x:Nat}(h:A6 (C1 G) all x=true):dU G all x:=by
 obtain⟨o,O,t⟩:=z6 h;exact⟨o,O,(lV t).1⟩
def b4x(t:Trace P G c.nt all b H0 s0 S y p m){e:Nat}{H:X9}(he:e<all.size)(hd:dU G all e->D e/\A6 (C1 G) all e=true)(h:a3D G all b H0 S D e H):a3D G all b H0 S D (e+1) H:=by
 obtain⟨i,f,h3⟩:=h;by_cases hm:dU G all e
 ·obtain⟨hDe,hal⟩:=hd hm;obtain⟨o,ho,ht0⟩:=z6 hal;obtain⟨H',_,hev,hh,_⟩:=(t.step e o ho).al ht0;obtain⟨_,hr,_,e1⟩:=mG hev;have e2:HH H0 S (e+1)=H':=by simp only[HH,hh,y6]
  have j:y6 H0 (S e).hist=HH H0 S e:=rfl;rw[j] at e1 hr;refine⟨by rw[e2,e1,zW];exact i,λx hx=>f x Z9,λk g=>?_⟩
  by_cases hkr:k=kP (C1 G) b all e
  ·rw[hkr];exact f e (U9 e) hal hDe
  ·rw[e2,e1,U2 hr,if_neg hkr];refine h3 k λx hx ha hDx=>?_
   by_cases d:x=e
   ·rw[d];exact hkr
   ·exact g x Z9 ha hDx
 ·have hs:=t.hist_same (a:=e) (e+1) Z9 he (λx q1 q2 hx=>hm (by rwa [show e=x by omega]))
  have e2:HH H0 S (e+1)=HH H0 S e:=by simp only[HH,hs]
  refine⟨by rw[e2];exact i,λx hx=>f x Z9,λk g=>?_⟩
  rw[e2];refine h3 k λx hx ha hDx=>?_
  by_cases d:x=e
  ·exact absurd (d▸a8p ha) hm
  ·exact g x Z9 ha hDx
def a2H(t:Trace P G c.nt all b H0 s0 S y p m){e:Nat}{H:X9}:∀{q:Nat},e<=q->q<=all.size->(∀x,e<=x->x<q->dU G all x->D x/\A6 (C1 G) all x=true)->a3D G all b H0 S D e H->a3D G all b H0 S D q H:=by
 intro q;induction q with
 |zero=>intro h _ _ r;rw[Nat.le_zero.1 h] at r;exact r
 |succ q i=>
  intro h Q hd r;by_cases d:e=q+1
  ·rw[←d];exact r
  ·exact b4x t Z9 (hd q Z9 Z9) (i Z9 Z9 (λx f g=>hd x f Z9) r)
def c4f(t:Trace P G c.nt all b H0 s0 S y p m){e:Nat}(he:e<all.size)(hd:dU G all e->A6 (C1 G) all e=true)(h:NR G all b H0 S e):NR G all b H0 S (e+1):=by
 intro x hx A;have d:=h x Z9 A
 by_cases hm:dU G all e
 ·have hal:=hd hm;obtain⟨o,ho,ht0⟩:=z6 hal;obtain⟨H',_,hev,hh,_⟩:=(t.step e o ho).al ht0;obtain⟨_,hr,_,e1⟩:=mG hev;have e2:HH H0 S (e+1)=H':=by simp only[HH,hh,y6]
  have f:y6 H0 (S e).hist=HH H0 S e:=rfl;rw[f] at e1 hr;rw[e2,e1,U2 hr,if_neg (a1q A hal Z9)]
  exact d
 ·have hs:=t.hist_same (a:=e) (e+1) Z9 he (λx q1 q2 hx=>hm (by rwa [show e=x by omega]))
  have e2:HH H0 S (e+1)=HH H0 S e:=by simp only[HH,hs]
  rw[e2];exact d
def c4l(t:Trace P G c.nt all b H0 s0 S y p m){e:Nat}:∀{q:Nat},e<=q->q<=all.size->(∀x,e<=x->x<q->dU G all x->A6 (C1 G) all x=true)->NR G all b H0 S e->NR G all b H0 S q:=by
 intro q;induction q with
 |zero=>intro h _ _ r;rw[Nat.le_zero.1 h] at r;exact r
 |succ q i=>
  intro h Q hd r;by_cases d:e=q+1
  ·rw[←d];exact r
  ·exact c4f t Z9 (hd q Z9 Z9) (i Z9 Z9 (λx f g=>hd x f Z9) r)
def eX{e:Nat}{H:X9}(n:NR G all b H0 S e)(h:a3D G all b H0 S D e H):D5 (HH H0 S e) H:=by
 intro k ob d;by_cases hx:∃x,e<=x/\A6 (C1 G) all x=true/\D x/\k=kP (C1 G) b all x
 ·obtain⟨x,X,A,f,rfl⟩:=hx;rw[n x X A] at d;cases d
 ·rw[h.2.2 k λx h1 h2 h3 he=>hx ⟨x,h1,h2,h3,he⟩]
  exact d
def x7:∀{ks:List Nat} {os:List (Option Ob)} {A:X9},(M2 A ks os).length=A.length
 | [],os,A=>by cases os<;>rfl
 |j::ks,[],A=>rfl
 |j::ks,o::os,A=>by
  show(M2 (A.set j o) ks os).length=_;rw[x7,zW]
def a0Z{k:Nat}:∀{ks:List Nat} {os:List (Option Ob)} {A B:X9},A.length=B.length->Y4 A k=Y4 B k->Y4 (M2 A ks os) k=Y4 (M2 B ks os) k
 | [],os,A,B,_,h=>by cases os<;>exact h
 |j::ks,[],A,B,_,h=>h
 |j::ks,o::os,A,B,hl,h=>by
  show Y4 (M2 (A.set j o) ks os) k=Y4 (M2 (B.set j o) ks os) k;refine a0Z (by rw[zW,zW,hl]) ?_
  by_cases J:j<A.length
  ·rw[U2 J,U2 (hl▸J),h]
  ·rw[List.set_eq_of_length_le Z9,List.set_eq_of_length_le Z9,h]
def c2h(t:Trace P G c.nt all b H0 s0 S y p m)(hG:B6 P G)(cx:∀x ∈ G,Q6 P x.1)(au:Cl all D){i:Nat}{o:Oper}(hi:all[i]? =some o)(Z:¬D i)
  (cd:∀e ∈ o.after.toList,Region.binds .any e=true->D e.on) {a:Act} {w:World} (hr:RD c G all b H0 s0 S y p D a w) {K:Act->World->Prop} {Q:Exit->Act->World->Prop}
  (hK:∀a' w',RD c G all b H0 s0 S y p (λk=>D k∨k=i) a' w'->K a' w'):wpOp P all Q i K a w:=by
 obtain⟨bf,af,E,e,H,hen,hA,hB,hR,ai,hI,ad,ae,hsl⟩:=hr;have ah:=t.step i o hi;have hilt:i<all.size:=(aC.1 hi).1
 have n:∀(v:Value),(a.put o.dst v).defers=[]/\(a.put o.dst v).tmps.size=c.nt:=by
  intro v;cases o.dst with
  |none=>exact⟨bf,af⟩
  |some d=>exact⟨bf,by simp[Act.put,af]⟩
 have hmask:=t.mask_done au i o hi cd;have C:∀j oj,all[j]? =some oj->i<j->Nat.testBit (m j) i=true->¬D j:=λj oj hj cw hb hDj=>
  Z (t.mask_done au j oj hj (λe he bk=>au j oj hDj hj e he bk) i hb)
 have ab:∀u,u ∈ nZ all o->(H5 (S i).s (S9 (S i).ps u)->Rd E w (zH (S i).s u) (a.tmps.getD u undef))/\(¬H5 (S i).s (S9 (S i).ps u)->a.tmps.getD u undef=undef):=by
  intro u hu;rcases eE all u i with⟨j,oj,bm,hj,hd⟩|hno
  ·have hpr:=t.pair i o j oj hi hj bm;have hb:Nat.testBit (m i) j=true:=by
    unfold l9 at hpr;rw[hd,a3p hu] at hpr
    simpa using And.right b0H
   obtain⟨e1,e2⟩:=t.slot_some hj hd i bm (Nat.le_of_lt hilt);rw[e1,e2];have cp:∀z ∈ p j,∃k o',k<i/\all[k]? =some o'/\o'.dst=some z.1:=λz hz=>by
    obtain⟨k,o',I,bi,cj⟩:=t.path_lt j oj hj z hz;exact⟨k,o',Z9,bi,cj⟩
   rw[t.pathV (Nat.le_of_lt hilt) cp];exact(hsl u).1 j oj hj hd (hmask j hb)
  ·obtain⟨e1,e2⟩:=t.slot_none u i (Nat.le_of_lt hilt) hno;rw[e1,e2];refine⟨λ_=>(hsl u).2 λj oj hj hd hDj=>?_,λhn=>absurd (λq hq=>wB) hn⟩
   rcases Nat.lt_trichotomy j i with h|h|h
   ·exact hno j oj h hj hd
   ·subst h;exact Z hDj
   ·have hpr:=t.pair j oj i o hj hi h;have hb:Nat.testBit (m j) i=true:=by
     unfold l9 at hpr;rw[hd,a3p hu] at hpr
     simpa using And.right b0H
    exact C j oj hj h hb hDj
 have ca:∀u,Operand.tmp u ∈ o.op.operands.toList->u ∈ nZ all o:=by
  intro u hu;unfold nZ;split
  ·exact oR hu
  ·split
   ·exact List.mem_cons_of_mem _ (oR hu)
   ·exact oR hu
 have hxt:D5 (HH H0 S e) H:=eX ai hR;have ap:stays G o.op=true->∃G' H' side,Good P G G'/\y5 P G' (S i).s H o.op=some (y i,H',side)/\H'=H/\(H5 (S i).s (p i)->side.getD True):=by
  intro l;obtain⟨_,G',H',side,hGG,V,f⟩:=ah.reader l;by_cases ar:pureB o.op=true
  ·exact⟨G',_,side,hGG,b4w ar V,rfl,f⟩
  have ar:pureB o.op=false:=Bool.eq_false_iff.2 ar;obtain⟨q,hq,he,hno,bj⟩:=t.hist_at (m i) i (Nat.le_of_lt hilt);rw[he] at V;have O:∀x,x<q->dU G all x->D x:=by
   intro x X cm;obtain⟨ox,hox,hsx⟩:=cm;rcases bj with rfl|⟨x0,rfl,⟨o0,ho0,hs0⟩,hal0,hb0⟩
   ·omega
   ·have hD0:=hmask x0 hb0;by_cases hxx:x=x0
    ·subst hxx;exact hD0
    ·have hpr:=t.pair x0 o0 x ox ho0 hox Z9
     have hb:Nat.testBit (m x0) x=true:=by
      unfold l9 at hpr;rw[cH ho0] at hal0;rw[hsx,hs0,hal0] at hpr
      simpa using And.right b0H
     exact t.mask_done au x0 o0 ho0 (λe he bk=>au x0 o0 hD0 ho0 e he bk) x hb
  have bc:∀x ox,q<=x->x<e->all[x]? =some ox->stays G ox.op=false->(xP G ox.op=true∨l7 (C1 G) ox=true)∨disjB (a0G (S i).s o.op) (tN (HH H0 S x) (S x).s ox.op)=true:=by
   intro x ox h1 h2 hox hsx;have U:=hA x ⟨ox,hox,hsx⟩ h2;rcases Nat.lt_trichotomy x i with h|h|h
   ·rcases hno x h1 h ⟨ox,hox,hsx⟩ with hb|hal
    ·have hpr:=t.pair i o x ox hi hox h;unfold l9 pB at hpr;rw[hb,hsx,l,ar] at hpr;simp only[Bool.false_or,Bool.or_false,J5,nT] at hpr;exact hpr.2.2.imp .inl id
    ·rw[cH hox] at hal;exact .inl (.inr hal)
   ·subst h;exact absurd U Z
   ·have hpr:=t.pair x ox i o hox hi h;unfold l9 pB at hpr;cases hb:Nat.testBit (m x) i with
    |true=>exact absurd U (C x ox hox h hb)
    |false=>
     rw[hb,hsx,l,ar] at hpr;simp only[Bool.false_or,Bool.or_false,J5,nT] at hpr;exact hpr.2.2.imp .inl id
  have an:e<=q->D5 (HH H0 S q) H:=λbx=>
   eX (c4l t bx Z9 (λx h1 h2 X=>hB x X (O x h2 X) h1) ai) (a2H t bx Z9 (λx h1 h2 X=>⟨O x h2 X,hB x X (O x h2 X) h1⟩) hR)
  cases aa:a0G (S i).s o.op with
  |none=>
   have am:D5 (HH H0 S q) H:=by
    rcases Nat.le_total q e with hqe|hqe
    ·refine(t.hist_ext e hqe hen λx ox h1 h2 hox hsx=>?_).trans hxt
     rcases bc x ox h1 h2 hox hsx with h|h
     ·exact h
     ·rw[aa] at h;cases h
    ·exact an hqe
   exact⟨G',_,side,hGG,b8o am (by rw[hGG.stays];exact l) V,rfl,f⟩
  |some R=>
   have am:a0o R (HH H0 S q) H:=by
    rcases Nat.le_total q e with hqe|hqe
    ·have h0:a0o R (HH H0 S q) (HH H0 S e):=t.hist_extOn e hqe hen λx ox h1 h2 hox hsx=>by
      have:=bc x ox h1 h2 hox hsx;rw[aa] at this;exact this
     exact λk I ob hob=>hxt k ob (h0 k I ob hob)
    ·exact λk _ ob hob=>an hqe k ob hob
   exact⟨G',_,side,hGG,b8J aa (by rw[hGG.stays];exact l) am V,rfl,f⟩
 have cr:stays G o.op=false->dU G all i:=λl=>⟨o,hi,l⟩
 have Y:stays G o.op=false->e<=i:=λl=>by
  rcases Nat.lt_or_ge i e with h|h
  ·exact absurd (hA i (cr l) h) Z
  ·exact h
 have aq:stays G o.op=false->l7 (C1 G) o=false->∃G' side H',Good P G G'/\y5 P G' (S i).s H o.op=some (y i,H',side)/\side.getD True/\(∀x,dU G all x->x<i+1->D x∨x=i)/\(∀x,dU G all x->(D x∨x=i)->i+1<=x->A6 (C1 G) all x=true)/\a3D G all b H0 S (λk=>D k∨k=i) (i+1) H'/\(∀x,i+1<=x->A6 (C1 G) all x=true->D x->Y4 (HH H0 S (i+1)) (kP (C1 G) b all x)=none):=by
  intro l bt;obtain⟨G',H',side,hGG,V,hh,f⟩:=ah.writer l bt;have bv:=bt;have ac:∀x,dU G all x->x<i->D x:=by
   intro x X hxi;obtain⟨ox,hox,hsx⟩:=X;have hpr:=t.pair i o x ox hi hox hxi;have hb:Nat.testBit (m i) x=true:=by
    unfold l9 at hpr;rw[hsx,l,bv] at hpr
    simpa using And.right b0H
   exact hmask x hb
  have Y:=Y l;have bh:a3D G all b H0 S D i H:=a2H t Y (Nat.le_of_lt hilt) (λx h1 h2 X=>⟨ac x X h2,hB x X (ac x X h2) h1⟩) hR
  have bn:NR G all b H0 S i:=c4l t Y (Nat.le_of_lt hilt) (λx h1 h2 X=>hB x X (ac x X h2) h1) ai
  have cn:∀x,dU G all x->D x->i<=x->A6 (C1 G) all x=true:=λx X hd av=>hB x X hd Z9
  have h1:y6 H0 (S i).hist=HH H0 S i:=rfl;have h2:HH H0 S (i+1)=H':=by simp only[HH,hh,y6]
  rw[h1] at V;have bb:∀x,dU G all x->x<i+1->D x∨x=i:=λx X F=>by
   by_cases hxi:x=i
   ·exact .inr hxi
   ·exact .inl (ac x X Z9)
  have ba:∀x,dU G all x->(D x∨x=i)->i+1<=x->A6 (C1 G) all x=true:=λx X bj av=>cn x X (bj.resolve_right Z9) Z9
  by_cases J:∃x,i<x/\A6 (C1 G) all x=true/\D x
  ·obtain⟨x,av,co,U⟩:=J;obtain⟨ox,hox,cf⟩:=z6 co;have hfl:floatB G o.op=true∨(b2N G o.op=true/\(tN (HH H0 S i) (S i).s o.op).isSome=true):=by
    have hpr:=t.pair x ox i o hox hi av;have hb:Nat.testBit (m x) i=false:=by
     cases hb:Nat.testBit (m x) i with
     |false=>rfl
     |true=>exact absurd U (C x ox hox av hb)
    unfold l9 at hpr;rw[hb,l,(lV cf).1,bv] at hpr;simp only[Bool.false_or,J5,nT] at hpr;exact hpr.2.2.2
   have bg:∃ks os ao,H'=M2 (HH H0 S i) ks os++ao/\(∀k ∈ ks,∃ob,Y4 (HH H0 S i) k=some ob)/\∀H2:X9,H2.length=(HH H0 S i).length->D5 (HH H0 S i) H2->y5 P G' (S i).s H2 o.op=some (y i,M2 H2 ks os++ao,side):=by
    rcases hfl with hfl|⟨hf,hw⟩
    ·have hfl':floatB G' o.op=true:=by unfold floatB at hfl ⊢;rw[hGG.grow];exact hfl
     obtain⟨os,e1,e2⟩:=c3O hfl' V;exact⟨[],[],os,e1,λk I=>absurd I j_i,e2⟩
    ·have cg:b2N G' o.op=true:=by
      unfold b2N at hf ⊢;split at hf
      ·rw[hGG.ef];exact hf
      ·cases hf
     obtain⟨W,hW⟩:=Option.isSome_iff_exists.1 hw;exact b9Z cg hW V
   obtain⟨ks,os,ao,e1,e0,e2⟩:=bg;rw[e1] at h2;have hnk:∀x',i+1<=x'->A6 (C1 G) all x'=true->kP (C1 G) b all x' ∉ ks:=λx' hx' ha' I=>by
    obtain⟨ob,hob⟩:=e0 _ I;rw[bn x' Z9 ha'] at hob
    cases hob
   obtain⟨r1,r2,r3⟩:=bh;have hsome:∀x',i+1<=x'->A6 (C1 G) all x'=true->D x'->∃ob,Y4 H (kP (C1 G) b all x')=some ob:=λx' hx' ha' hD'=>by
    have:=r2 x' Z9 ha' hD'
    obtain⟨o',bi,ci⟩:=z6 ha';obtain⟨H2,_,bu,cq,_⟩:=(t.step x' o' bi).al ci;obtain⟨_,hr,_,e3⟩:=mG bu;have e4:HH H0 S (x'+1)=H2:=by simp only[HH,cq,y6]
    rw[e4,e3,U2 hr,if_pos rfl] at this;exact⟨_,this⟩
   have hleft:∀(A:X9) (k:Nat),k<A.length->Y4 (M2 A ks os++ao) k=Y4 (M2 A ks os) k:=λA k I=>by
    unfold Y4;rw[rL (by rw[x7];exact I)]
   refine⟨G',side,M2 H ks os++ao,hGG,e2 H r1 (eX bn ⟨r1,r2,r3⟩),f,bb,ba,⟨by rw[h2,F9,F9,x7,x7,r1],λx' hx' ha' hD'=>?_,λk I=>?_⟩,λx' hx' ha' hD'=>?_⟩
   ·have hDx':D x':=hD'.resolve_right Z9
    obtain⟨ob,hob⟩:=hsome x' hx' ha' hDx';rw[hleft H _ (G1 hob),vT (hnk x' hx' ha')];exact r2 x' Z9 ha' hDx'
   ·have:=r3 k λx' hx' ha' hDx'=>by
     by_cases hxi:x'=i
     ·exact absurd (hxi▸hDx') Z
     ·exact I x' Z9 ha' (.inl hDx')
    rw[h2];by_cases hkl:k<H.length
    ·rw[hleft H k hkl,hleft (HH H0 S i) k (by rw[←r1];exact hkl)]
     exact a0Z r1 this
    ·unfold Y4;rw[qA (by rw[x7];omega),qA (by rw[x7,←r1];omega),x7,x7,r1]
   ·obtain⟨ob,hob⟩:=hsome x' hx' ha' hD';rw[h2,hleft (HH H0 S i) _ (by rw[←r1];exact G1 hob),vT (hnk x' hx' ha')]
    exact bn x' Z9 ha'
  ·have hH:H=HH H0 S i:=a5q bh.1 λk=>bh.2.2 k λx X ha U=>by
    by_cases hxi:x=i
    ·exact absurd (hxi▸U) Z
    ·exact absurd ⟨x,Z9,ha,U⟩ J
   refine⟨G',side,H',hGG,by rw[hH];exact V,f,bb,ba,⟨by rw[h2],λx X ha hD=>?_,λk _=>by rw[h2]⟩,λx X ha hD=>absurd ⟨x,Z9,ha,hD⟩ J⟩
   exact absurd ⟨x,Z9,ha,hD.resolve_right Z9⟩ J
 have ax:H5 (S i).s (p i)↔jK all y (p i):=t.pathV (Nat.le_of_lt hilt) λz hz=>t.path_lt i o hi z hz
 have run:jK all y (p i)->o.wp P a w K Q:=by
  intro N;have M:=ax.2 N;obtain⟨bo,cc⟩:=b4C (E:=E) (w:=w) (a:=a) (λu hu=>(ab u (ca u hu)).1) M ah.paths
  have ak:∀{x:Nat},stays G o.op=true->dU G all x->x≠i:=λ{x} l X=>by
   rintro rfl;obtain⟨ox,hox,hsx⟩:=X;rw[hi] at hox;simp only[X0] at hox;subst hox;rw[l] at hsx;cases hsx
  have hL':∀{E':Env} {w':World},Step E w E' w'->∀x,A6 (C1 G) all x=true->¬D x->¬E'.L (kP (C1 G) b all x):=λ{E' w'} bl x ha B hL=>by
   obtain⟨j,hj,F⟩:=ae x ha;rcases bl.nl _ hL with h1|h1
   ·exact ad x ha B h1
   ·have:=h1 j hj;omega
  have bp:∀{E':Env} {w':World},Stp E w E' w'->∀x,A6 (C1 G) all x=true->∃j,E'.L j/\kP (C1 G) b all x<j:=λbl x ha=>by
   obtain⟨j,hj,F⟩:=ae x ha;exact⟨j,bl.le.L j hj,F⟩
  cases l:stays G o.op with
  |true=>
   obtain⟨G',H',side,hGG,V,rfl,f⟩:=ap l;refine a5s hGG.ok hGG.call hI V (f M) bo cc λv w' E' ay hst' aa=>hK _ _ ⟨(n v).1,(n v).2,E',e,_,hen,λx X F=>.inl (hA x X F),λx X hd=>hB x X (hd.resolve_right (ak l X)),⟨hR.1,λx X ha hd=>hR.2.1 x X ha (hd.resolve_right (ak l (a8p ha))),λk I=>hR.2.2 k λx X ha hd=>I x X ha (.inl hd)⟩,ai,ay,λx ha B=>hL' hst' x ha λhd=>B (.inl hd),bp hst'.stp,qO t hi af hst'.stp ⟨λ_=>aa,λhn=>absurd N hn⟩ hsl⟩
  |false=>
   cases hal:l7 (C1 G) o with
   |false=>
    obtain⟨G',side,H',hGG,V,f,bb,ba,bs,cb⟩:=aq l hal;refine a5s hGG.ok hGG.call hI V f bo cc λv w' E' ay hst' aa=>?_
    have ct:NR G all b H0 S (i+1):=λx X ha=>by
     by_cases hD:D x
     ·exact cb x X ha hD
     ·have hnL:=hL' hst' x ha (λhd=>hD hd)
      have hxi:x≠i:=Z9
      rw[←bs.2.2 (kP (C1 G) b all x) λx' hx' ha' hD' he=>by
       have hDx':D x':=hD'.resolve_right Z9
       exact a1q ha ha' (λh=>hD (h▸hDx')) he]
      cases I:Y4 H' (kP (C1 G) b all x) with
      |none=>rfl
      |some ob=>exact absurd (ay.heap.live _ ob I).1 hnL
    exact hK _ _ ⟨(n v).1,(n v).2,E',i+1,H',hilt,bb,ba,bs,ct,ay,λx ha B=>hL' hst' x ha λhd=>B (.inl hd),bp hst'.stp,qO t hi af hst'.stp ⟨λ_=>aa,λhn=>absurd N hn⟩ hsl⟩
   |true=>
    obtain⟨H1,side,V,hh,ck⟩:=ah.al hal;obtain⟨_,cl,_⟩:=mG V;have ag:A6 (C1 G) all i=true:=by rw[cH hi];exact hal
    obtain⟨j,hj,cv⟩:=ae i ag;have aw:kP (C1 G) b all i<H.length:=by have:=hI.heap.lt j hj;omega
    have Y:=Y l;have e2:HH H0 S (i+1)=H1:=by simp only[HH,hh,y6]
    obtain⟨v,w',E',ob,e1,bz,g1,g2,g3,g4⟩:=c5U hI V ck aw (ad i ag Z) bo;refine zY (w':=w') (v:=v) bz (hK _ _ ⟨(n _).1,(n _).2,E',e,_,hen,λx X F=>.inl (hA x X F),λx X hd cu=>?_,⟨by rw[zW];exact hR.1,λx X ha hd=>?_,λk I=>?_⟩,ai,g1,λx ha B hL=>?_,bp g2,qO t hi af g2 ⟨λ_=>g3,λhn=>absurd N hn⟩ hsl⟩)
    ·rcases hd with hd|rfl
     ·exact hB x X hd cu
     ·exact ag
    ·by_cases hxi:x=i
     ·subst hxi;rw[U2 aw,if_pos rfl,e2,e1,U2 cl,if_pos rfl]
     ·rw[U2 aw,if_neg (a1q ha ag hxi)];exact hR.2.1 x X ha (hd.resolve_right hxi)
    ·have ce:=I i Y ag (.inr rfl);rw[U2 aw,if_neg ce];exact hR.2.2 k λx X ha hd=>I x X ha (.inl hd)
    ·rcases g4 _ hL with h1|h1
     ·exact ad x ha (λhd=>B (.inl hd)) h1
     ·exact a1q ha ag (λhxi=>B (.inr hxi)) h1
 have skip:¬jK all y (p i)->stays G o.op=true->K (a.put o.dst undef) w:=by
  intro hn l;have ak:∀{x:Nat},dU G all x->x≠i:=λ{x} X=>by
   rintro rfl;obtain⟨ox,hox,hsx⟩:=X;rw[hi] at hox;simp only[X0] at hox;subst hox;rw[l] at hsx;cases hsx
  exact hK _ _ ⟨(n _).1,(n _).2,E,e,H,hen,λx X F=>.inl (hA x X F),λx X hd=>hB x X (hd.resolve_right (ak X)),⟨hR.1,λx X ha hd=>hR.2.1 x X ha (hd.resolve_right (ak (a8p ha))),λk I=>hR.2.2 k λx X ha hd=>I x X ha (.inl hd)⟩,ai,hI,λx ha B=>ad x ha λhd=>B (.inl hd),ae,qO t hi af (Step.refl E w).stp ⟨λhp=>absurd hp hn,λ_=>rfl⟩ hsl⟩
 unfold wpOp;simp only[hi];cases hg:o.guard with
 |none=>
  have hw:Region.wanted o (yielded all a.tmps)=true:=by simp[Region.wanted,hg]
  rw[if_pos hw];refine .inl (run ?_)
  rw[(ah.plain hg).1];exact λz hz=>by cases hz
 |some gw=>
  obtain⟨j,aj⟩:=gw;obtain⟨g,x,bq,X,bm,hp,_,l,_⟩:=ah.guarded j aj hg;have bw:g ∈ nZ all o:=by
   unfold nZ;rw[hg];simp only[bq];exact List.mem_cons_self
  have hy:yielded all a.tmps j=match a.tmps[g]? with|some (.bool b)=>some b|_=>none:=by
   unfold yielded;rw[bq];rfl
  by_cases az:H5 (S i).s (S9 (S i).ps g)
  ·have hv:=(ab g bw).1 az;rw[X] at hv;have r:=r5 hv;have cs:a.tmps[g]? =some (.bool x):=by
    rw[Array.getD_eq_getD_getElem?] at r;cases hq:a.tmps[g]? with
    |none=>rw[hq] at r;simp[undef] at r
    |some z=>rw[hq] at r;simp at r;rw[r]
   have hyl:yielded all a.tmps j=some x:=by rw[hy,cs]
   by_cases hxw:x=aj
   ·have hw:Region.wanted o (yielded all a.tmps)=true:=by simp[Region.wanted,hg,hyl,hxw]
    rw[if_pos hw];refine .inl (run (ax.1 ?_))
    rw[hp];intro q hq;rcases vN.1 hq with rfl|hq
    ·exact⟨x,X,hxw⟩
    ·exact az q hq
   ·have hw:¬Region.wanted o (yielded all a.tmps)=true:=by simp[Region.wanted,hg,hyl,hxw]
    rw[if_neg hw];refine skip (λN=>?_) l
    have M:=ax.2 N;rw[hp] at M;obtain⟨x',hx',ch⟩:=M (g,aj) W7
    rw[X] at hx';cases hx';exact hxw ch
  ·have r:=(ab g bw).2 az;have hyl:yielded all a.tmps j=none:=by
    rw[hy];rw[Array.getD_eq_getD_getElem?] at r;cases hq:a.tmps[g]? with
    |none=>rfl
    |some z=>rw[hq] at r;simp at r;rw[r];rfl
   have hw:¬Region.wanted o (yielded all a.tmps)=true:=by simp[Region.wanted,hg,hyl]
   rw[if_neg hw];refine skip (λN=>az ?_) l
   have M:=ax.2 N;rw[hp] at M;exact λq hq=>M q (by simp[hq])
end
def wZ(n:Nat)(l:Array Bool):List Nat:=(List.range n).filter λk=> !l.getD k false
def a0J{n i:Nat}{listed:Array Bool}(hi:i<n)(hs:listed.size=n)(h:listed.getD i false=false):(wZ n (listed.setIfInBounds i true)).length<(wZ n listed).length:=by
 have B:∀k,(!(listed.setIfInBounds i true).getD k false)=true->(!listed.getD k false)=true:=by
  intro k e;by_cases I:i=k
  ·subst I;simp[h]
  ·rwa [getD_set_ne false I] at e
 have key:∀l:List Nat,(l.filter λk=> !(listed.setIfInBounds i true).getD k false).length<=(l.filter λk=> !listed.getD k false).length/\(i ∈ l->(l.filter λk=> !(listed.setIfInBounds i true).getD k false).length<(l.filter λk=> !listed.getD k false).length):=by
  intro l;induction l with
  |nil=>exact⟨U9 _,λh=>F3⟩
  |cons x l f=>
   obtain⟨g,d⟩:=f;simp only[List.filter_cons];by_cases hxi:x=i
   ·subst hxi;have e1:(!(listed.setIfInBounds x true).getD x false)=false:=by simp[hs,hi]
    rw[e1,h];simp only[Bool.false_eq_true,if_false,Bool.not_false,if_true,List.length_cons];exact⟨Z9,λ_=>Z9⟩
   ·rw[getD_set_ne false (Ne.symm hxi)];split
    ·simp only[List.length_cons];exact⟨Z9,λM=>by have:=d ((vN.1 M).resolve_left (Ne.symm hxi));omega⟩
    ·exact⟨g,λM=>d ((vN.1 M).resolve_left (Ne.symm hxi))⟩
 exact(key _).2 (List.mem_range.2 hi)
section
variable {c:Ctx} {P:Program} {G:H6} {all:Array Oper} {b:Nat} {H0:X9} {s0:W4} {S:Nat->St} {y:Nat->T} {p:Nat->C5} {m:Nat->Nat}
def RD.congr{D D':Nat->Prop}(h:∀k,k<all.size->(D k↔D' k)){a:Act}{w:World}(C:RD c G all b H0 s0 S y p D a w):RD c G all b H0 s0 S y p D' a w:=by
 obtain⟨r,n,E,e,H,F,B,M,R,N,v,z,I,i⟩:=C;have lt:∀{j:Nat} {o:Oper},all[j]? =some o->j<all.size:=λd=>(aC.1 d).1
 have L:∀{x:Nat},dU G all x->x<all.size:=λX=>by obtain⟨o,f,_⟩:=X;exact lt f
 have l:∀{x:Nat},A6 (C1 G) all x=true->x<all.size:=λX=>by obtain⟨o,f,_⟩:=z6 X;exact lt f
 exact⟨r,n,E,e,H,F,λx X t=>(h x (L X)).1 (B x X t),λx X hd=>M x X ((h x (L X)).2 hd),
  ⟨R.1,λx X A hd=>R.2.1 x X A ((h x (l A)).2 hd),λk q=>R.2.2 k λx X A hd=>q x X A ((h x (l A)).1 hd)⟩,N,v,λx A g=>z x A λhd=>g ((h x (l A)).1 hd),I,
  λu=>⟨λj o d hd J=>(i u).1 j o d hd ((h j (lt d)).2 J),λO=>(i u).2 λj o d hd J=>O j o d hd ((h j (lt d)).1 J)⟩⟩
def c8e(t:Trace P G c.nt all b H0 s0 S y p m)(Y:B6 P G)(N:∀x ∈ G,Q6 P x.1){Q:Exit->Act->World->Prop}(R:∀A w',RD c G all b H0 s0 S y p (λ_=>True) A w'->Q .normal A w'):
  ∀(f:Nat) (listed:Array Bool) (a:Act) (w:World),listed.size=all.size->(wZ all.size listed).length<=f->Cl all (λk=>listed.getD k false=true)->RD c G all b H0 s0 S y p (λk=>listed.getD k false=true) a w->
   wpAny P .any all Q f listed a w:=by
 have F:∀(listed:Array Bool) (a:Act) (w:World),listed.size=all.size->Cl all (λk=>listed.getD k false=true)->RD c G all b H0 s0 S y p (λk=>listed.getD k false=true) a w->Region.ready .any all listed=[]->Q .normal a w:=by
  intro listed a w q L r l;refine R a w (r.congr λk U=>⟨λ_=>trivial,λ_=>?_⟩)
  induction k using Nat.strongRecOn with
  |_ k O=>
   cases B:listed.getD k false with
   |true=>rfl
   |false=>
    have ho:=tB U
    have M:k ∈ Region.ready .any all listed:=by
     refine mem_ready.2 ⟨?_,_,ho,λe he hbd=>?_⟩
     ·have hlt:k<listed.size:=by omega
      simp only[Array.getD_eq_getD_getElem?,tB hlt,Option.getD_some] at B ⊢
      exact B
     ·have hlt:=t.edge k _ ho e a0q hbd
      exact O e.on hlt Z9
    rw[l] at M;cases M
 intro f;induction f with
 |zero=>
  intro listed a w q W L r;have l:Region.ready .any all listed=[]:=by
   cases V:Region.ready .any all listed with
   |nil=>rfl
   |cons x xs=>
    have X:x ∈ Region.ready .any all listed:=by rw[V];simp
    obtain⟨u,o,ho,_⟩:=mem_ready.1 X;have hlt:x<all.size:=(aC.1 ho).1
    have M:x ∈ wZ all.size listed:=by
     unfold wZ;rw[List.mem_filter,List.mem_range];refine⟨hlt,?_⟩
     have d:x<listed.size:=Z9
     simp only[Array.getD_eq_getD_getElem?,tB d,Option.getD_some] at u ⊢
     simp[u]
    have:=List.length_pos_of_mem M;omega
  exact⟨l,F listed a w q L r l⟩
 |succ f O=>
  intro listed a w q W L r;refine⟨F listed a w q L r,λi hi=>?_⟩
  obtain⟨u,o,ho,n⟩:=mem_ready.1 hi;have hlt:i<all.size:=(aC.1 ho).1
  have v:listed.getD i false=false:=by
   have d:i<listed.size:=Z9
   simp only[Array.getD_eq_getD_getElem?,tB d,Option.getD_some] at u ⊢
   exact u
  refine c2h t Y N L ho (by rw[v];simp) (λe he B=>n e a0q B) r λA w' z=>?_
  have g:∀k,(listed.setIfInBounds i true).getD k false=true↔(listed.getD k false=true∨k=i):=by
   intro k;by_cases I:i=k
   ·subst I;simp[q,hlt]
   ·rw[getD_set_ne false I];exact⟨.inl,λh=>h.resolve_right (Ne.symm I)⟩
  refine O _ A w' (by simp[q]) (by have:=a0J hlt q v;omega) (λj Z C J e he B=>?_) (z.congr λk _=>(g k).symm)
  refine(g e.on).2 ?_
  rcases(g j).1 C with h|rfl
  ·exact .inl (L j Z h J e he B)
  ·rw[ho] at J;simp only[X0] at J;subst J;exact .inl (n e a0q B)
def b91{E:Env}{H:X9}{w:World}(h:Inv c E H w):Inv c E H {w with drawn:=w.drawn+1}:=by
 have e:Step E w E {w with drawn:=w.drawn+1}:=⟨Env.le.refl E,λ_ _=>rfl,λ_ h=>.inl h⟩
 exact⟨⟨λk ob d=>⟨(h.heap.live k ob d).1,(h.heap.live k ob d).2.1.mono (h.heap.live k ob d).1 e (λ_ _=>rfl),(h.heap.live k ob d).2.2⟩,h.heap.inj,h.heap.lt,h.heap.l2,h.heap.cur⟩,h.nlt,h.nnew,h.bnew,⟨h.fr.os,h.fr.tape,h.fr.output,h.fr.size,h.fr.block⟩,h.keep.step e⟩
def c22{E:Env}{H:X9}{w:World}(h:Inv c E H w)(n:Nat):Inv c E (H++List.replicate n none) w:=by
 have g:∀k ob,Y4 (H++List.replicate n none) k=some ob->Y4 H k=some ob:=λk ob hk=>by
  unfold Y4 at hk ⊢;by_cases t:k<H.length
  ·rwa [rL t] at hk
  ·rw[qA Z9,List.getElem?_replicate] at hk
   split at hk<;>simp at hk
 exact⟨⟨λk ob hk=>h.heap.live k ob (g k ob hk),λk k' o o' x hk d=>h.heap.inj k k' o o' x (g k o hk) (g k' o' d),λk hk=>by have:=h.heap.lt k hk;simp;omega,h.heap.l2,λk ob v hk=>h.heap.cur k ob v (g k ob hk)⟩,h.nlt,h.nnew,λk ob x hk=>h.bnew k ob x (g k ob hk),h.fr,h.keep⟩
def a0A{all:Array Oper}{x:Nat}(h:wO (C1 G) all.toList=0):A6 (C1 G) all x=false:=by
 cases A:A6 (C1 G) all x with
 |false=>rfl
 |true=>
  obtain⟨o,O,_⟩:=z6 A;have:=iD A (aC.1 O).1
  rw[show all.size=all.toList.length by simp,j_l] at this
  omega
def c1c{all:Array Oper}{E:Env}{H:X9}{w:World}(h:Inv c E H w):
  ∃E1,Inv c E1 (a1k H (wO (C1 G) all.toList)) w/\Stp E w E1 w/\(∀x,A6 (C1 G) all x=true->¬E1.L (kP (C1 G) H.length all x))/\∀x,A6 (C1 G) all x=true->∃j,E1.L j/\kP (C1 G) H.length all x<j:=by
 cases e:wO (C1 G) all.toList with
 |zero=>exact⟨E,h,(Step.refl E w).stp,λx A=>by(rw[a0A e] at A;cases A),λx A=>by(rw[a0A e] at A;cases A)⟩
 |succ n=>
  obtain⟨f,g⟩:=b0Y (c22 h (n+1)) 0 1;have N:(H++List.replicate (n+1) (none:Option Ob)).length=H.length+(n+1):=W7
  have l:∀x,A6 (C1 G) all x=true->kP (C1 G) H.length all x<H.length+(n+1):=λx A=>by
   obtain⟨o,O,_⟩:=z6 A;have:=iD A (aC.1 O).1
   rw[show all.size=all.toList.length by simp,j_l,e] at this
   unfold kP;omega
  refine⟨_,f,g.stp,λx A d=>?_,λx A=>⟨H.length+(n+1),.inr N.symm,l x A⟩⟩
  have:=l x A;rcases d with d|d
  ·have:=h.heap.lt _ d;unfold kP at this;omega
  ·rw[N] at d;omega
def a0X(I:B6 P G)(C:∀x ∈ G,Q6 P x.1){K:W4->X9->Prop}{Q:Exit->Act->World->Prop}{s:W4}{H:X9}(O:∀s' H' n w',K s' H'->iX c s' H' n w'->Q .normal n w')
  {E:Env} {a:Act} {w:World} (h:sY P G c.nt all H.length (a1k H (wO (C1 G) all.toList)) all.toList 0 [] [] s [] [] K) (r:RealE c E s [] H a w):wpAny P .any all Q all.size (Array.replicate all.size false) a {w with drawn:=w.drawn+1}:=by
 obtain⟨S,y,p,m,f,J,_,d,hk⟩:=c8N I C all.toList 0 [] [] (λ_=>(none,none)) s [] [] rfl (N4 _) rfl (λk o hk=>Z9) h
 have t:Trace P G c.nt all H.length (a1k H (wO (C1 G) all.toList)) s S y p m:={
  start:=J
  step:=λk o ho=>(d k o (N4 _) ho).1
  edge:=λk o ho e he B=>by
   have:=b9.1 (d k o (N4 _) ho).2.1 e he;simp only[B,Bool.not_true,Bool.false_or] at this;exact yH this
  pair:=λk o k' o' ho l i=>by
   have h1:=(d k o (N4 _) ho).2.2.1;have h2:=(d k' o' (N4 _) l).2.2.1;have:=h1.2 k' o' i l;rw[h1.1,h2.1] at this;exact this
  mask:=λk o j ho B=>(d k o (N4 _) ho).2.2.2 j B}
 have M:=r.inv;refine c8e t I C (λn w' hrd=>?_) all.size _ a _ W7 (Nat.le_trans (List.length_filter_le _ _) W7) (λj o hD=>?_) ?_
 ·obtain⟨h1,h2,E',e,Hx,he,hA,hB,hR,_,hI,_,_,hsl⟩:=hrd;have hR':=a2H t he (U9 _) (λx q1 q2 hx=>⟨trivial,hB x hx trivial q1⟩) hR
  have V:Hx=HH (a1k H (wO (C1 G) all.toList)) S all.size:=a5q hR'.1 λk=>hR'.2.2 k λx hx A _=>by
   obtain⟨o,ho,_⟩:=z6 A;have:=(aC.1 ho).1
   omega
  refine O _ _ n w' hk ⟨E',h1,h2,⟨λu _=>?_,λu W=>absurd (λq v=>by cases v) W⟩,by rw[V] at hI;exact hI⟩
  rcases a37 (S all.size).s (S all.size).ps u with he'|⟨he',hp⟩
  ·rw[he'];exact .und _
  ·rw[he'];rcases eE all u all.size with⟨j,o,hj,ho,hd⟩|hno
   ·obtain⟨X,R⟩:=t.slot_some ho hd all.size hj (U9 _);rw[X];rw[R] at hp;exact((hsl u).1 j o ho hd trivial).1 (by rw[hp];exact λz Z=>by cases Z)
   ·rw[(t.slot_none u all.size (U9 _) hno).1];exact(hsl u).2 λj o ho hd _=>hno j o (aC.1 ho).1 ho hd
 ·simp only[Array.getD_eq_getD_getElem?,Array.getElem?_replicate] at hD
  split at hD<;>simp at hD
 ·have g:∀k,¬ (Array.replicate all.size false).getD k false=true:=by
   intro k hD;simp only[Array.getD_eq_getD_getElem?,Array.getElem?_replicate] at hD
   split at hD<;>simp at hD
  obtain⟨E1,F,N,L,U⟩:=c1c (G:=G) (all:=all) r.inv;have hH0:HH (a1k H (wO (C1 G) all.toList)) S 0=a1k H (wO (C1 G) all.toList):=by simp[HH,J,y6]
  refine⟨r.defers,r.size,E1,0,a1k H (wO (C1 G) all.toList),N4 _,λx _ i=>Z9,λx _ hD=>absurd hD (g x),⟨by rw[hH0],λx _ _ hD=>absurd hD (g x),λk _=>by rw[hH0]⟩,λx _ A=>?_,b91 F,λx A _=>L x A,U,λu=>⟨λj o _ _ hD=>absurd hD (g j),λ_=>?_⟩⟩
  ·rw[hH0];cases hk:Y4 (a1k H (wO (C1 G) all.toList)) (kP (C1 G) H.length all x) with
   |none=>rfl
   |some ob=>exact absurd (F.heap.live _ ob hk).1 (L x A)
  ·exact Rd.mono (w:=w) (w':={w with drawn:=w.drawn+1}) N.le (λ_ _=>rfl) (r.slots.on u (λq v=>by cases v))
end
def a4I(ops:Array Oper):Array Bool->List Nat->Prop
 |listed,[]=>Region.ready .any ops listed=[]
 |listed,k::L=>k ∈ Region.ready .any ops listed/\a4I ops (listed.setIfInBounds k true) L
def oA{ops:Array Oper}{l:Array Bool}(f:l.size=ops.size)(u:(wZ ops.size l).length<=0):Region.ready .any ops l=[]:=by
 cases L:Region.ready .any ops l with
 |nil=>rfl
 |cons x xs=>
  have X:x ∈ Region.ready .any ops l:=by rw[L];simp
  obtain⟨e,o,O,_⟩:=mem_ready.1 X;have t:x<ops.size:=(aC.1 O).1
  have h:x ∈ wZ ops.size l:=by
   unfold wZ;rw[List.mem_filter,List.mem_range];refine⟨t,?_⟩
   have d:x<l.size:=Z9
   simp only[Array.getD_eq_getD_getElem?,tB d,Option.getD_some] at e ⊢
   simp[e]
  have:=List.length_pos_of_mem h;omega
def nJ{ops:Array Oper}{l:Array Bool}{i:Nat}(e:l.size=ops.size)(hi:i ∈ Region.ready .any ops l):i<ops.size/\l.getD i false=false:=by
 obtain⟨d,o,O,_⟩:=mem_ready.1 hi;have t:i<ops.size:=(aC.1 O).1
 refine⟨t,?_⟩
 have h:i<l.size:=Z9
 simp only[Array.getD_eq_getD_getElem?,tB h,Option.getD_some] at d ⊢
 exact d
def c0X{ops:Array Oper}:∀(f t:Nat) (l:Array Bool),l.size=ops.size->(wZ ops.size l).length<=f->a4I ops l (Region.linearise.go .any ops f t l []):=by
 intro f;induction f with
 |zero=>intro t l d u;exact oA d u
 |succ f e=>
  intro t l d u;simp only[Region.linearise.go];change a4I ops l (match(Region.ready .any ops l)[t % (Region.ready .any ops l).length]? with
   |some i=>Region.linearise.go .any ops f (t/(Region.ready .any ops l).length) (l.setIfInBounds i true) [i]
   |none=>[].reverse)
  cases hi:(Region.ready .any ops l)[t % (Region.ready .any ops l).length]? with
  |none=>
   show Region.ready .any ops l=[];cases r:Region.ready .any ops l with
   |nil=>rfl
   |cons x xs=>
    rw[r] at hi;have h:t % (x::xs).length<(x::xs).length:=Nat.mod_lt _ W7
    simp at hi;simp at h;omega
  |some i=>
   have M:=y4 hi;obtain⟨h,I⟩:=nJ d M;simp only[];rw[linearise_go_acc,List.reverse_singleton,List.singleton_append];exact⟨M,e _ _ (by simp[d]) (by have:=a0J h d I;omega)⟩
def c0t{P:Program}{ops:Array Oper}{Q:Exit->Act->World->Prop}:∀(L:List Nat) (f:Nat) (l:Array Bool) (a:Act) (w:World),wpAny P .any ops Q f l a w->a4I ops l L->wpOps P ops Q L a w:=by
 intro L;induction L with
 |nil=>
  intro f l a w h r;cases f with
  |zero=>exact h.2
  |succ f=>exact h.1 r
 |cons k L i=>
  intro f l a w h r;cases f with
  |zero=>
   have:=r.1;rw[h.1] at this;cases this
  |succ f=>
   rw[wpOps_cons];exact wpOp_mono (λa w d=>i f _ a w d r.2) (h.2 k r.1)
structure Full(ops:Array Oper)(k:Nat):Prop where
 edge:∀(i:Nat) (o:Oper),ops[i]? =some o->∀e ∈ o.after.toList,Region.binds .any e=true->e.on<i
 gd:∀(i:Nat) (o:Oper) (j:Nat) (b:Bool),ops[i]? =some o->o.guard=some (j,b)->j<i
 full:∀(i:Nat) (o:Oper),k<=i->ops[i]? =some o->∀D:Nat->Prop,Cl ops D->(∀e ∈ o.after.toList,Region.binds .any e=true->D e.on)->∀j,j<i->D j
def a6F{a b:Nat}(h:Nat.blt a b=true):a<b:=yH h
def c2m{ops:Array Oper}{k:Nat}:∀(r:List Oper) (tab:List Nat),(∀j,ops[tab.length+j]? =r[j]?)->(∀D:Nat->Prop,Cl ops D->∀q,q<tab.length->D q->∀j,Nat.testBit (tab.getD q 0) j=true->D j)->a5P k r tab=true->
  (∀i o,tab.length<=i->ops[i]? =some o->(∀e ∈ o.after.toList,Region.binds .any e=true->e.on<i)/\(∀j b,o.guard=some (j,b)->j<i)/\(k<=i->∀D:Nat->Prop,Cl ops D->(∀e ∈ o.after.toList,Region.binds .any e=true->D e.on)->∀j,j<i->D j)):=by
 intro r;induction r with
 |nil=>
  intro tab hr t h i o hi O;have:=hr (i-tab.length);rw[show tab.length+(i-tab.length)=i by omega,O] at this
  cases this
 |cons o r ih=>
  intro tab hr t h;unfold a5P at h;simp only[J5,nT] at h;obtain⟨⟨⟨B,b2⟩,b3⟩,b4⟩:=h;have h0:ops[tab.length]? =some o:=by have:=hr 0;simpa using this
  have hedge:∀e ∈ o.after.toList,Region.binds .any e=true->e.on<tab.length:=λe d h=>by
   have:=b9.1 B e d;simp only[h,Bool.not_true,Bool.false_or] at this;exact a6F this
  have hmask:∀D:Nat->Prop,Cl ops D->(∀e ∈ o.after.toList,Region.binds .any e=true->D e.on)->∀j,Nat.testBit (maskOf tab o.after.toList) j=true->D j:=λD hD hpre j hj=>by
   obtain⟨e,d,h,R⟩:=b0f hj;rcases R with rfl|R
   ·exact hpre e d h
   ·exact t D hD e.on (hedge e d h) (hpre e d h) j R
  intro i o' hi ho';by_cases hit:i=tab.length
  ·subst hit;rw[h0] at ho';cases ho';refine⟨hedge,λj b hg=>?_,λhk D hD hpre j hj=>?_⟩
   ·unfold gdB at b2;rw[hg] at b2;exact a6F b2
   ·rcases b3 with b3|b3
    ·have:=a6F b3;omega
    ·refine hmask D hD hpre j ?_
     rw[F5 b3,Nat.testBit_two_pow_sub_one];exact mO hj
  ·refine ih (tab++[maskOf tab o.after.toList]) (λj=>?_) (λD hD q hq hDq j hj=>?_) b4 i o' C7 ho'
   ·have:=hr (j+1);rw[F9,List.length_singleton,show tab.length+1+j=tab.length+(j+1) by omega,this]
    rfl
   ·rw[F9,List.length_singleton] at hq;by_cases hqt:q=tab.length
    ·subst hqt;rw[P4,List.getElem?_concat_length] at hj
     exact hmask D hD (λe d h=>hD _ _ hDq h0 e d h) j hj
    ·rw[P4,rL Z9,←P4] at hj
     exact t D hD q Z9 hDq j hj
def c1a{ops:Array Oper}{k:Nat}(h:a5P k ops.toList []=true):Full ops k:=by
 have:=c2m (ops:=ops) (k:=k) ops.toList [] (λj=>W7) (λD e q Q=>absurd Q (D2 _)) h
 exact⟨λi o O=>(this i o (N4 _) O).1,λi o j b O g=>(this i o (N4 _) O).2.1 j b g,λi o d O=>(this i o (N4 _) O).2.2 d⟩
section
variable {P:Program} {ops:Array Oper} {k:Nat}
def eB{l:Array Bool}{k:Nat}(h:k<l.size):(l.setIfInBounds k true).getD k false=true:=by
 simp[h]
def a0T(hF:Full ops k):∀(L:List Nat) (i:Nat) (listed:Array Bool),listed.size=ops.size->k<=i->i<=ops.size->(∀j,listed.getD j false=true↔j<i)->a4I ops listed L->L=List.range' i (ops.size-i):=by
 intro L;induction L with
 |nil=>
  intro i listed d q hi hl r;by_cases he:i=ops.size
  ·subst he;simp
  ·exfalso;have ho:=tB (xs:=ops) (i:=i) Z9
   have M:i ∈ Region.ready .any ops listed:=mem_ready.2 ⟨by
    have g:listed.getD i false=false:=by
     cases hb:listed.getD i false with
     |false=>rfl
     |true=>have:=(hl i).1 hb;omega
    have t:i<listed.size:=Z9
    simp only[Array.getD_eq_getD_getElem?,tB t,Option.getD_some] at g ⊢
    exact g,_,ho,λe he hb=>(hl _).2 (hF.edge i _ ho e a0q hb)⟩
   rw[show Region.ready .any ops listed=[] from r] at M
   cases M
 |cons x L u=>
  intro i listed d q hi hl r;obtain⟨X,r⟩:=r;obtain⟨t,I⟩:=nJ d X;obtain⟨_,o,ho,hall⟩:=mem_ready.1 X;have l:i<=x:=by
   rcases Nat.lt_or_ge x i with h|h
   ·rw[(hl x).2 h] at I;cases I
   ·exact h
  have f:x=i:=by
   rcases Nat.lt_or_ge i x with h|h
   ·exfalso;have hD:=hF.full x o Z9 ho (λj=>listed.getD j false=true) (λj oj hj hoj e he hb=>(hl _).2 (by have:=(hl j).1 hj;have:=hF.edge j oj hoj e he hb;omega)) (λe he hb=>hall e a0q hb) i h
    have:=(hl i).1 hD;omega
   ·omega
  subst f;have n:ops.size-x=(ops.size- (x+1))+1:=Z9
  rw[n,List.range'_succ];congr 1
  refine u (x+1) _ (by simp[d]) Z9 Z9 (λj=>?_) r
  by_cases hj:x=j
  ·subst hj;constructor
   ·intro _;omega
   ·intro _;exact eB Z9
  ·rw[getD_set_ne false hj,hl];omega
def a2q(hF:Full ops k)(q:k<=ops.size){l1:Array Bool}(r:l1.size=ops.size)(C:Cl ops (λj=>l1.getD j false=true))(l:¬ ∀j,j<k->l1.getD j false=true):∃x,x<k/\x ∈ Region.ready .any ops l1:=by
 have key:∀n,n<=k->(∀j,j<n->l1.getD j false=true)∨∃x,x<k/\x ∈ Region.ready .any ops l1:=by
  intro n;induction n with
  |zero=>intro _;exact .inl λj J=>absurd J (D2 _)
  |succ n I=>
   intro g;rcases I Z9 with h|h
   ·cases hb:l1.getD n false with
    |true=>
     refine .inl λj J=>?_
     by_cases N:j=n
     ·rw[N];exact hb
     ·exact h j Z9
    |false=>
     have o:=tB (xs:=ops) (i:=n) Z9
     refine .inr ⟨n,Z9,mem_ready.2 ⟨?_,_,o,λe f d=>h _ (hF.edge n _ o e (by simpa using f) d)⟩⟩
     have t:n<l1.size:=Z9
     simp only[Array.getD_eq_getD_getElem?,tB t,Option.getD_some] at hb ⊢
     exact hb
   ·exact .inr h
 rcases key k (U9 _) with h|h
 ·exact absurd h l
 ·exact h
def a8e(hF:Full ops k)(hk:k<=ops.size){A:Array Oper}(r:A=(ops.toList.take k).toArray):∀(L:List Nat) (l1 l2:Array Bool),l1.size=ops.size->l2.size=k->(∀j,j<k->l2.getD j false=l1.getD j false)->(∀j,k<=j->l1.getD j false=false)->Cl ops (λj=>l1.getD j false=true)->a4I ops l1 L->
  ∃L1,L=L1++List.range' k (ops.size-k)/\a4I A l2 L1:=by
 have n:∀j,j<k->A[j]? =ops[j]? :=λj J=>by
  rw[r,List.getElem?_toArray,List.getElem?_take,if_pos J,Array.getElem?_toList]
 have f:A.size=k:=by rw[r];simp;omega
 intro L;induction L with
 |nil=>
  intro l1 l2 h1 l he hn hc hr;by_cases hall:∀j,j<k->l1.getD j false=true
  ·have hd:∀j,l1.getD j false=true↔j<k:=λj=>⟨λh=>(Nat.lt_or_ge j k).elim id λh'=>absurd ((hn j h').symm.trans h) W7,hall j⟩
   refine⟨[],a0T hF [] k l1 h1 (U9 _) hk hd hr,oA (by rw[l,f]) ?_⟩
   unfold wZ;rw[Nat.le_zero,List.length_eq_zero_iff,List.filter_eq_nil_iff];intro j J;rw[List.mem_range,f] at J;rw[he j J,hall j J];simp
  ·exfalso;obtain⟨x,hx,hm⟩:=a2q hF hk h1 hc hall;rw[show Region.ready .any ops l1=[] from hr] at hm
   cases hm
 |cons x L I=>
  intro l1 l2 h1 l he hn hc hr;by_cases hall:∀j,j<k->l1.getD j false=true
  ·have hd:∀j,l1.getD j false=true↔j<k:=λj=>⟨λh=>(Nat.lt_or_ge j k).elim id λh'=>absurd ((hn j h').symm.trans h) W7,hall j⟩
   refine⟨[],a0T hF (x::L) k l1 h1 (U9 _) hk hd hr,oA (by rw[l,f]) ?_⟩
   unfold wZ;rw[Nat.le_zero,List.length_eq_zero_iff,List.filter_eq_nil_iff];intro j J;rw[List.mem_range,f] at J;rw[he j J,hall j J];simp
  ·obtain⟨hx,hr⟩:=hr;obtain⟨q,hni⟩:=nJ h1 hx;obtain⟨v,o,ho,d⟩:=mem_ready.1 hx;have hxk:x<k:=by
    rcases Nat.lt_or_ge x k with h|h
    ·exact h
    ·exfalso;exact hall λj J=>hF.full x o h ho _ hc (λe he hb=>d e a0q hb) j Z9
   have t:∀j,(l1.setIfInBounds x true).getD j false=true↔(l1.getD j false=true∨j=x):=by
    intro j;by_cases J:x=j
    ·subst J;simp[h1,q]
    ·rw[getD_set_ne false J];exact⟨.inl,λh=>h.resolve_right (Ne.symm J)⟩
   obtain⟨L1,u,R⟩:=I (l1.setIfInBounds x true) (l2.setIfInBounds x true) (by simp[h1]) (by simp[l]) (λj J=>by
    by_cases X:x=j
    ·subst X;rw[eB Z9,eB Z9]
    ·rw[getD_set_ne false X,getD_set_ne false X];exact he j J) (λj J=>by rw[getD_set_ne false Z9];exact hn j J) (λj O J g e hem hb=>by
    refine(t _).2 ?_
    rcases(t j).1 J with h|rfl
    ·exact .inl (hc j O h g e hem hb)
    ·rw[ho] at g;cases g;exact .inl (d e (by simpa using hem) hb)) hr
   refine⟨x::L1,by rw[u];rfl,mem_ready.2 ⟨?_,o,by rw[n x hxk];exact ho,λe hem hb=>?_⟩,R⟩
   ·have h3:l2.getD x false=false:=by rw[he x hxk];exact hni
    have i:x<l2.size:=Z9
    simp only[Array.getD_eq_getD_getElem?,tB i,Option.getD_some] at h3 ⊢
    exact h3
   ·have:=hF.edge x o ho e (by simpa using hem) hb
    rw[he _ Z9]
    exact d e hem hb
def b33(hF:Full ops k){A:Array Oper}(u:∀j,j<k->A[j]? =ops[j]?)(z:A.size=k){Q Q':Exit->Act->World->Prop}{L2:List Nat}(N:∀a w,Q' .normal a w->wpOps P ops Q L2 a w)(q:∀e a w,e≠ .normal->Q' e a w->Q e a w):∀(L1:List Nat) (l:Array Bool),l.size=A.size->a4I A l L1->∀(a:Act) (w:World),wpOps P A Q' L1 a w->wpOps P ops Q (L1++L2) a w:=by
 intro L1;induction L1 with
 |nil=>intro l i _ a w h;exact N a w h
 |cons x L1 I=>
  intro l i R a w h;obtain⟨X,R⟩:=R;obtain⟨v,_⟩:=nJ i X;have f:x<k:=Z9
  rw[wpOps_cons] at h;rw[List.cons_append,wpOps_cons];have h:=wpOp_mono (λa w C=>I _ (by simp[i]) R a w C) h
  unfold wpOp at h ⊢;rw[u x f] at h;cases d:ops[x]? with
  |none=>rw[d] at h;exact h
  |some o=>
   rw[d] at h;simp only[] at h ⊢;have Y:Region.wanted o (yielded A a.tmps)=Region.wanted o (yielded ops a.tmps):=by
    unfold Region.wanted;cases B:o.guard with
    |none=>rfl
    |some g=>
     obtain⟨j,b⟩:=g;have:=hF.gd x o j b d B;simp only[];unfold yielded;rw[u j Z9]
   rw[Y] at h;have O:LetsOut Q'->LetsOut Q:=λ⟨a,w,h⟩=>⟨a,w,q _ a w (by intro h;cases h) h⟩
   split
   ·rename_i hw;rw[if_pos hw] at h;rcases h with h|⟨h1,h2⟩
    ·refine .inl ?_
     unfold Oper.wp at h ⊢;generalize (execOp a.eval o).run P w=r at h ⊢;cases r with
     |ok n w'=>
      cases n<;>simp only[Oper.upon] at h ⊢ <;>
       first
        |exact h
        |exact Calls.mono h (λe W t=>by cases e<;>first|exact t|exact q _ _ _ (by intro h;cases h) t|exact O t)
     |halt x w'=>cases x<;>simp only[Oper.upon] at h ⊢ <;>first|exact h|exact q _ _ _ (by intro h;cases h) h
    ·exact .inr ⟨h1,O h2⟩
   ·rename_i hw;rw[if_neg hw] at h;exact h
end
section
variable {c:Ctx} {E:Env} {H:X9} {w:World} {P:Program}
def b8c{t tx ty e:TypeId}{i:TypeInfo}{z:Value}(o:P.underlying t=some (.slice e))(hi:P.info? e=some i)(Z:i.zero=some z)(g:z.cells.size=i.size)
  {x:Value} {m:Nat} {N:List Value} (hs:Go.Src P i.size tx x m N w) {n:Nat} (B:U8 n m i.bytes) (base:Option Addr) (cap:Nat) (z0:List Value) (hol:z0.length=n*i.size) (d:(Builtin.firstCells i.size n (.slice base n cap)).run P w.drew= .ok z0.toArray w.drew) (h:cap<n+m):
  ∃r w',(Builtin.append_ #[t,tx] ty #[.slice base n cap,x]).run P w= .ok r w'/\Appended w i.size n m (λj=>z0[j]?) N none r w':=by
 obtain⟨l,q⟩:=B;have R:=run_append_grow_src (P:=P) w t tx ty e i z o hi Z base n cap z0 d x m N hs h Z9 (growslice_fits h l)
 have f:=grownCap_ge w (n+m) cap e;refine⟨_,_,R,rfl,rfl,rfl,W7,λb B _=>heap_alloc_old w.drew _ B,_,_,_,_,rfl,f,heap_alloc_new w.drew _,?_,.inl ⟨U9 _,λ_ A=>heap_alloc_old w.drew _ A⟩,λj J=>?_,λj J=>?_⟩
 ·refine Nat.le_of_eq (Eq.symm ?_)
  simp only[Array.size_append,List.size_toArray,F9,size_zeroCells,g,hol,hs.newsLen,←Nat.add_mul];congr 1
  omega
 ·rw[Array.getElem?_append_left (by simp[hol];omega)]
  rw[List.getElem?_toArray,rL Z9]
 ·have hnl:=hs.newsLen;rw[Array.getElem?_append_left (by simp[hol,hnl];omega)]
  rw[List.getElem?_toArray,qA Z9,hol]
  congr 1
  omega
def a7B(h:Inv c E H w){t tx ty e:TypeId}{i:TypeInfo}{z:Value}(ht:P.underlying t=some (.slice e))(hi:P.info? e=some i)(hz:i.zero=some z)(al:z.cells.size=i.size)(bf:0<i.size)
  {k off n N:Nat} {cl:Bool} {X:TypeId} {row:Nat->List T} (hk:Y4 H k=some (.arr cl X i.size N row)) {x:T} {S:Sr} (ai:wP H (P.underlying tx) i.size x=some S) (am:S.side.getD True) (bi:off+n<=N) (bb:0<S.n) (an:U8 (off+n) S.n i.bytes) {dv xv:Value}
  (hd:Rd E w (.osl k off n) dv) (hx:Rd E w x xv):∃(b:Bool) (r:Value) (w':World) (E':Env),(Builtin.append_ #[t,tx] ty #[dv,xv]).run P w= .ok r w'/\Rd E' w' (.osl H.length (cond b 0 off) (n+S.n)) r/\
   Inv c E' (H.set k none++[some (.arr (cl&&S.cl) e i.size (cond b (n+S.n) (off+n+S.n)) (cond b (X4 (λi=>row (off+i)) n S.row) (X4 row (off+n) S.row)))]) w'/\Step E w E' w':=by
 obtain⟨A,C,ac,v,L,g⟩:=vS (P:=P) h.heap ai am hx;have hA:T5 E w k ⟨cl,X,i.size,N,row⟩:=(h.heap.live _ _ hk).2.1;obtain⟨O,hn,hl,q,J,cs,U,d,af,hc⟩:=hA;simp only at O hn hl q J af hc;have ae:U8 n S.n i.bytes:=by
  obtain⟨a1,a2⟩:=an;refine⟨Nat.le_trans (kJ _ Z9) a1,Z9⟩
 cases hd with
 |osl _ _ _ o a hL bg ho ha=>
  have copy:∀(z0:List Value),z0.length=n*i.size->(Builtin.firstCells i.size n (.slice a n (E.κ k-off))).run P w.drew= .ok z0.toArray w.drew->E.κ k-off<n+S.n->(∀r j t,r<n->(row (off+r))[j]? =some t->∃u,z0[r*i.size+j]? =some u/\Rd E w t u)->
    ∃(b:Bool) (r:Value) (w':World) (E':Env),(Builtin.append_ #[t,tx] ty #[.slice a n (E.κ k-off),xv]).run P w= .ok r w'/\Rd E' w' (.osl H.length (cond b 0 off) (n+S.n)) r/\
   Inv c E' (H.set k none++[some (.arr (cl&&S.cl) e i.size (cond b (n+S.n) (off+n+S.n)) (cond b (X4 (λi=>row (off+i)) n S.row) (X4 row (off+n) S.row)))]) w'/\Step E w E' w':=by
   intro z0 ao ad f aq;obtain⟨r,w',l,Q⟩:=b8c (P:=P) (ty:=ty) ht hi hz al C ae a _ z0 ao ad f;have:=h.appended (.inl Q) (H.set k none) (λi=>i=k) W7 (nB hk) (λb hb=>by cases hb) (.arr (cl&&S.cl) e i.size (n+S.n) (X4 (λi=>row (off+i)) n S.row)) rfl rfl
     (λr hr=>by
      simp only[Ob.toArr];by_cases h:r<n
      ·rw[M8 h];exact hl _ Z9
      ·rw[N3 h];exact ac _ Z9)
     (λr t hr ht=>by
      simp only[Ob.toArr] at ht;by_cases h:r<n
      ·rw[M8 h] at ht;exact q _ t Z9 ht
      ·rw[N3 h] at ht;exact v _ t Z9 ht)
     (λhcc r t hr ht=>by
      simp only[Ob.toArr,J5] at ht hcc;by_cases h:r<n
      ·rw[M8 h] at ht;exact J hcc.1 _ t Z9 ht
      ·rw[N3 h] at ht;exact L hcc.2 _ t Z9 ht)
     (λr j t hr hj=>by
      simp only[Ob.toArr] at hj;rw[M8 hr] at hj;exact aq r j t hr hj)
     (λr j t hr hj=>by
      simp only[Ob.toArr] at hj;rw[N3 Z9,show n+r-n=r by omega] at hj
      exact g r j t hr hj)
   obtain⟨E',hr,hI,B⟩:=this;exact⟨true,r,w',E',l,hr,hI,B⟩
  by_cases hκ:E.κ k=0
  ·obtain rfl:n=0:=by omega
   refine copy [] W7 ?_ Z9 (λr j t hr=>absurd hr (D2 _))
   cases a with
   |none=>exact run_firstCells_none w.drew i.size 0 0 _
   |some a=>exact run_firstCells_some w.drew i.size 0 a 0 _ [] W7 (λj u h=>L4)
  have d:=d hκ;have Z:=af.le;by_cases M:n+S.n<=E.κ k-off
  ·-- in place
   have hoff:off<E.κ k:=Z9
   have ho:=ho (.inl hoff);rw[O] at ho;have f:(off+n+S.n)*i.size<=cs.size:=Nat.le_trans (kJ _ Z9) Z
   have F:(off+n)*i.size+A.length<=cs.size:=by rw[C.newsLen,←Nat.add_mul];exact f
   obtain⟨w',B,az,ak,ap,ah,ab,aj,ay,aa,W,au⟩:=u3 P w (E.β k) ((off+n)*i.size) U cs A d F C.one;rw[Nat.add_mul] at B;have l:(Builtin.append_ #[t,tx] ty #[.slice a n (E.κ k-off),xv]).run P w= .ok (.slice (some ⟨E.β k,off*i.size,none⟩) (n+S.n) (E.κ k-off)) w':=by
    rw[ha hκ,ho];rcases C.kind with⟨e',R⟩|R<;>simp[Builtin.append_,run_underlying ht,run_underlying R,sizeOf,typeInfo,hi,C.len,M,C.cells,Addr.add_lit,B]
   have Q:Appended w i.size (off+n) S.n (λj=>cs[j]?) A (some (E.β k)) (.slice (some ⟨E.β k,0,none⟩) (off+n+S.n) (E.κ k)) w':=
    ⟨az,ak,ap,Z9,λb' _ ag=>ab b' (λe=>ag (by rw[e])),E.β k,E.κ k,aj,U,rfl,Z9,ay,by rw[aa];exact Z,.inr rfl,λj hj=>W j (.inl hj),λj hj=>au j (by rw[C.newsLen];exact hj)⟩
   have:=h.appended (.inl Q) (H.set k none) (λi=>i=k) W7 (nB hk) (λb hb=>⟨k,_,rfl,hk,.inl ⟨hκ,(Option.some.inj hb).symm⟩⟩) (.arr (cl&&S.cl) e i.size (off+n+S.n) (X4 row (off+n) S.row)) rfl rfl
     (λr hr=>by
      simp only[Ob.toArr];by_cases h:r<off+n
      ·rw[M8 h];exact hl _ Z9
      ·rw[N3 h];exact ac _ Z9)
     (λr t hr ht=>by
      simp only[Ob.toArr] at ht;by_cases h:r<off+n
      ·rw[M8 h] at ht;exact q _ t Z9 ht
      ·rw[N3 h] at ht;exact v _ t Z9 ht)
     (λhcc r t hr ht=>by
      simp only[Ob.toArr,J5] at ht hcc;by_cases h:r<off+n
      ·rw[M8 h] at ht;exact J hcc.1 _ t Z9 ht
      ·rw[N3 h] at ht;exact L hcc.2 _ t Z9 ht)
     (λr j t hr hj=>by
      simp only[Ob.toArr] at hj;rw[M8 hr] at hj;exact hc r j t Z9 hj)
     (λr j t hr hj=>by
      simp only[Ob.toArr] at hj;rw[N3 Z9,show off+n+r- (off+n)=r by omega] at hj
      exact g r j t hr hj)
   obtain⟨E',hr,hI,Y⟩:=this;refine⟨false,_,w',E',l,?_,hI,Y⟩
   have ar:Y4 (H.set k none++[some (.arr (cl&&S.cl) e i.size (off+n+S.n) (X4 row (off+n) S.row))]) H.length=some (.arr (cl&&S.cl) e i.size (off+n+S.n) (X4 row (off+n) S.row)):=by
    unfold Y4;rw[qA W7]
    simp
   have aw:T5 E' w' H.length ⟨cl&&S.cl,e,i.size,off+n+S.n,X4 row (off+n) S.row⟩:=(hI.heap.live _ _ ar).2.1;have V:=aw.1;simp only at V;generalize hv:(Value.slice (some ⟨E.β k,0,none⟩) (off+n+S.n) (E.κ k))=rv at hr;cases hr with
   |osl _ _ _ o2 a2 ba bh bj ax=>
    simp only[Value.slice.injEq] at hv;obtain⟨v1,_,v3⟩:=hv;have av:E'.κ H.length=E.κ k:=Z9
    have e1:=ax Z9
    rw[←v1] at e1;simp only[X0,Addr.mk.injEq] at e1;rw[←av];refine .osl H.length off (n+S.n) (off*i.size) _ ba Z9 (λ_=>by rw[V]) (λ_=>by rw[e1.1])
  ·by_cases hn0:n=0
   ·subst hn0;refine copy [] W7 ?_ Z9 (λr j t hr=>absurd hr (D2 _))
    cases a with
    |none=>exact run_firstCells_none w.drew i.size 0 0 _
    |some a=>exact run_firstCells_some w.drew i.size 0 a 0 _ [] W7 (λj u h=>L4)
   ·have hoff:off<E.κ k:=by omega
    have ho:=ho (.inl hoff);rw[O] at ho;have F:off*i.size+n*i.size<=cs.size:=by rw[←Nat.add_mul];exact Nat.le_trans (kJ _ Z9) Z
    have I:∀j,((cs.toList.drop (off*i.size)).take (n*i.size))[j]? =if j<n*i.size then cs[off*i.size+j]? else none:=λj=>by
     rw[List.getElem?_take]
     split
     ·rw[List.getElem?_drop,Array.getElem?_toList]
     ·rfl
    refine copy ((cs.toList.drop (off*i.size)).take (n*i.size)) C7 ?_ Z9 (λr j t hr hj=>?_)
    ·rw[ha hκ,ho];refine run_firstCells_some w.drew i.size n ⟨E.β k,off*i.size,none⟩ n _ _ C7 (λj u hj=>?_)
     rw[Addr.add_lit];show w.cell? _=_;rw[S2 d];rw[I] at hj;split at hj
     ·exact hj
     ·cases hj
    ·obtain⟨u,hu,hr'⟩:=hc (off+r) j t Z9 hj
     have bc:j<i.size:=by
      have:=(u6.1 hj).1
      rw[hl (off+r) Z9] at this
      exact this
     refine⟨u,?_,hr'⟩
     rw[I,if_pos (by
      have:(r+1)*i.size<=n*i.size:=kJ _ hr;rw[Nat.add_mul] at this;omega),show off*i.size+(r*i.size+j)=(off+r)*i.size+j by rw[Nat.add_mul];omega]
     exact hu
def c3V(h:Inv c E H w){s:W4}{o:Oper}{a:Act}{K:Act->World->Prop}{Q:Exit->Act->World->Prop}(hop:∀x ∈ D7 o.op,F0 E w a s x)(hv:∀b,∃t H' side,rM P s H o b=some (t,H',side)/\side.getD True)
  (hK:∀b t H' side v w' E',rM P s H o b=some (t,H',side)->Inv c E' H' w'->Step E w E' w'->Rd E' w' t v->K (a.put o.dst v) w'):o.wp P a w K Q:=by
 obtain⟨t0,H0,side0,he0,hs0⟩:=hv true;have hev:=he0;unfold rM at he0;split at he0
 case h_2=>cases he0
 rename_i args at_ hg ho;split at he0
 case h_2=>cases he0
 rename_i d x t tx ha hat;obtain rfl:args= #[d,x]:=Array.ext' sT
 obtain rfl:at_= #[t,tx]:=Array.ext' a0K
 split at he0
 case h_2=>cases he0
 rename_i k off n e hd hu;split at he0
 case h_2=>cases he0
 rename_i i z cl tyb sz N row hi hz hk;split at he0
 case h_2=>cases he0
 rename_i hb;simp only[J5] at hb;obtain⟨⟨b1,b2⟩,b3⟩:=hb;obtain rfl:=F5 b3;cases hsb:wP H (P.underlying tx) i.size (K6 s x) with
 |none=>rw[hsb] at he0;cases he0
 |some S=>
  have hall:∀b,rM P s H o b=some (.osl H.length (cond b 0 off) (n+S.n),H.set k none++[some (.arr (cl&&S.cl) e i.size (cond b (n+S.n) (off+n+S.n)) (cond b (X4 (λi=>row (off+i)) n S.row) (X4 row (off+n) S.row)))],some (kI S.side (Le (off+n) N/\Lt 0 S.n/\U8 (off+n) S.n i.bytes))):=λb=>by
   unfold rM;rw[hg,ho];simp only[hd,hu,hi,hz,hk,b1,b2,b3,Bool.and_self,hsb,h9]
  rw[hall] at hev;simp only[X0,U4] at hev;obtain⟨_,_,rfl⟩:=hev;obtain⟨hls,hle,hpos,hab⟩:=yG hs0;obtain⟨zv,hzv,hzl⟩:=c9 hi hz;have hdo:=hop d (by rw[ho];simp[D7,Op.operands,Call.operands])
  unfold F0 at hdo;rw[hd] at hdo;have hn0:i.size≠0:=λh0=>by
   rw[h0] at b2;cases b2
  obtain⟨b,r,w',E',hrun,g1,g2,g3⟩:=a7B (P:=P) (ty:=o.type) h hu hi hzv (by rw[hzl];exact F5 b1) Z9 hk hsb hls hle hpos hab hdo (hop x (by rw[ho];simp[D7,Op.operands,Call.operands]))
  refine zY (w':=w') (v:=r) ?_ (hK b _ _ _ r w' E' (hall b) g2 g3 g1)
  simp[execOp,ho,resolve,invoke,builtin,hrun,Result.andThen]
end
def b1t{c:Ctx}{P:Program}{G:H6}{all:Array Oper}(U:B6 P G)(F:∀x ∈ G,Q6 P x.1){K:W4->X9->Prop}{Q:Exit->Act->World->Prop}{s:W4}{H:X9}(M:∀s' H' a' w',K s' H'->iX c s' H' a' w'->Q .normal a' w')
  {r:List Oper} {E:Env} {a:Act} {w:World} (h:kY P G c.nt all s H K r) (R:RealE c E s [] H a w):wpList P all Q r a w:=by
 cases r with
 |nil=>exact h.elim
 |cons o r=>
  unfold kY at h;dsimp only at h;have f:(F6 [] [] o.op&&jZ c.nt o.dst)=true:=by
   cases J:(F6 [] [] o.op&&jZ c.nt o.dst) with
   |true=>rfl
   |false=>rw[J] at h;exact h.elim
  rw[f] at h;rw[J5] at f;obtain⟨O,i⟩:=f;have l:H5 s []:=λq L=>by cases L
  obtain⟨z,_⟩:=rT R.slots l O;have hv:∀b,∃t H' side,rM P s H o b=some (t,H',side)/\side.getD True/\xL P G c.nt all r (wT s o.dst t) [] H' K:=λb=>by
   have:=h b;split at this
   ·rename_i t H' side g;obtain⟨C,e⟩:=wE this;exact⟨t,H',side,g,C l,e⟩
   ·exact this.elim
  have u:o.guard=none:=by
   obtain⟨t,H',side,g,_⟩:=hv true;unfold rM at g;split at g
   ·rename_i u _;exact u
   ·cases g
  refine wpList_plain u λKK A=>c3V R.inv z (λb=>by obtain⟨t,H',side,g,C,_⟩:=hv b;exact⟨t,H',side,g,C⟩) λb t H' side v w' E' g N n I=>?_
  obtain⟨V,H2,B,j,_,e⟩:=hv b;rw[g] at j;simp only[X0,U4] at j;obtain⟨rfl,rfl,_⟩:=j;refine A _ _ (a4E U F M r _ [] _ E' _ _ e ⟨?_,?_,?_,N⟩)
  ·cases o.dst with
   |none=>exact R.defers
   |some d=>exact R.defers
  ·cases o.dst with
   |none=>exact R.size
   |some d=>simp[Act.put,R.size]
  ·cases hd:o.dst with
   |none=>exact R.slots.step n
   |some d=>
    rw[hd] at i;exact(R.slots.step n).put (by rfl) (by rw[R.size];exact yH i) I
def cJ:∀{l:List Oper} {i:Nat} {r:Option Nat} {k:Nat},iE l i r=some k->(∀q,r=some q->q<i+l.length)->k<i+l.length
 | [],i,r,k,h,hr=>hr k h
 |o::l,i,r,k,h,hr=>by
  unfold iE at h;have:=cJ h (λq Q=>by
   split at Q
   ·cases Q;omega
   ·have:=hr q Q;rw[List.length_cons] at this;omega)
  rw[List.length_cons];omega
def kR{x:FuncId×Con}:∀{G:H6},x ∈ b1e G->x ∈ G
 | [],h=>h
 |(_,c)::r,h=>by
  cases c<;>first
   |exact List.mem_cons_of_mem _ (kR h)
   |(rcases vN.1 h with rfl|h
     ·exact List.mem_cons_self
     ·exact List.mem_cons_of_mem _ (kR h))
def oJ{x:FuncId×Con}:∀{G:H6},x ∈ a1s G->x ∈ G
 | [],h=>h
 |(_,c)::r,h=>by
  cases c<;>
   (rcases vN.1 h with rfl|h
    ·exact List.mem_cons_self
    ·first
     |exact List.mem_cons_of_mem _ (oJ h)
     |exact List.mem_cons_of_mem _ (kR h))
def b4Q{c:Ctx}{P:Program}{G:H6}{all:Array Oper}(M:P.follows .mixedOrders=true)(B:B6 P G)(C:∀x ∈ G,Q6 P x.1){id:Nat}{K:W4->X9->Prop}{Q:Exit->Act->World->Prop}{s:W4}{H:X9}(I:∀g H' A w',K g H'->iX c g H' A w'->Q .normal A w')
  {E:Env} {a:Act} {w:World} (h:oU P G c.nt all s H K) (R:RealE c E s [] H a w):(Code.region id all true).wp P Q a w:=by
 have one:a8x P G c.nt all s H K->(Code.region id all true).wp P Q a w:=λh=>wp_region_any M (a0X B C I h R)
 unfold oU at h;split at h
 ·exact one h
 ·split at h
  ·exact one h
  ·rename_i k hl;split at h
   ·exact one h
   ·rename_i L;have hF:=c1a L;have O:k<=all.size:=by
     have:=cJ hl (λq U=>by cases U)
     simp at this;omega
    have z:(all.toList.take k).toArray.size=k:=by simp;omega
    have F:=a0X (Q:=λe a w=>match e with| .normal=>wpList P all Q (all.toList.drop k) a w|e=>Q e a w) (G:=a1s G) (λx X=>B x (oJ X)) (λx X=>C x (oJ X)) (λg H' A w' u r=>by
     obtain⟨E',l⟩:=r;exact b1t B C I u l) h R
    refine wp_region_draw λt=>?_
    simp only[Region.schedule,M,Bool.true_or,if_true];have N:=c0X (ops:=all) all.size t (Array.replicate all.size false) W7 (Nat.le_trans (List.length_filter_le _ _) W7)
    have d:∀(n j:Nat),(Array.replicate n false).getD j false=false:=λn j=>by
     simp only[Array.getD_eq_getD_getElem?,Array.getElem?_replicate]
     split<;>rfl
    obtain⟨L1,V,J⟩:=a8e hF O rfl _ _ (Array.replicate k false) W7 W7 (λj _=>by rw[d,d]) (λj _=>d _ _) (λj o f=>by have f:(Array.replicate all.size false).getD j false=true:=f;rw[d] at f;cases f) N
    show wpOps P all Q (Region.linearise.go .any all all.size t (Array.replicate all.size false) []) a _;rw[V];rw[z] at F;refine b33 hF (λj W=>by rw[List.getElem?_toArray,List.getElem?_take,if_pos W,Array.getElem?_toList]) z (λa w v=>?_) (λe a w i v=>?_) L1 _ (by rw[z];simp) J a _ (c0t L1 _ _ a _ F J)
    ·have e1:=wpOps_eq_wpList (P:=P) (ops:=all) (Q:=Q) (all.toList.drop k) k (λj=>by rw[List.getElem?_drop,Array.getElem?_toList])
     rw[List.length_drop,Array.length_toList] at e1;rw[e1];exact v
    ·cases e<;>first|exact absurd rfl i|exact v
end Go.SS
