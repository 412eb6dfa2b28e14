/- A calculus of symbolic states: a region, in whatever order: the step and the whole. -/
import Derived.Test.YtghgljelnhfihaaGreatSSF
namespace Go.SS
open Go.RowKit

theorem a9P{E:Env}{w:World}{s:V5}{ps:C5}{a:Act}{pth:G8}{op:Op}(h:∀u,Operand.tmp u ∈ op.operands.toList->J9 s (S5 ps u)->Rd E w (j7 s u) (a.tmps.getD u undef))(hp:J9 s pth)(hop:F4 ps pth op=true):
  (∀x ∈ S1 op,I0 E w a s x)/\∀c x y,op= .pick c x y->(∀b,M7 s c= .bool b->b=true->I0 E w a s x)/\(∀b,M7 s c= .bool b->b=false->I0 E w a s y):=by
 have tmp:∀{q:G8} {x:Operand},x ∈ op.operands.toList->J9 s q->lH ps q x=true->I0 E w a s x:=by
  intro q x hx hq ht;refine aY λu hu=> ?_
  subst hu;exact h u hx (b2O ht hq)
 by_cases hpk:∃c x y,op= .pick c x y
 ·obtain⟨c,x,y,rfl⟩:=hpk;cases c with
  |tmp t=>
   simp only[F4,L3] at hop;obtain⟨⟨h1,h2⟩,h3⟩:=hop;refine⟨λz hz=> ?_,λc' x' y' he=> ?_⟩
   ·simp only[S1,List.mem_singleton] at hz;subst hz;exact tmp (by simp[Op.operands]) hp h1
   ·cases he;refine⟨λb hb hbt=>tmp (by simp[Op.operands]) (λq hq=> ?_) h2,λb hb hbt=>tmp (by simp[Op.operands]) (λq hq=> ?_) h3⟩
    ·rcases wY.1 hq with rfl|hq
     ·exact⟨b,hb,hbt⟩
     ·exact hp q hq
    ·rcases wY.1 hq with rfl|hq
     ·exact⟨b,hb,hbt⟩
     ·exact hp q hq
  |const=>simp[F4] at hop
  |global=>simp[F4] at hop
  |func=>simp[F4] at hop
 ·have hs:S1 op=op.operands.toList:=by
   cases op<;>first|rfl|exact absurd ⟨_,_,_,rfl⟩ hpk
  have hall:op.operands.toList.all (lH ps pth)=true:=by
   cases op<;>first|exact hop|exact absurd ⟨_,_,_,rfl⟩ hpk
  exact⟨λx hx=>tmp (by rw[←hs];exact hx) hp (i5.1 hall x (by rw[←hs];exact hx)),λc x y he=>absurd ⟨c,x,y,he⟩ hpk⟩

theorem sC{u:Nat}:∀{l:List Operand},Operand.tmp u ∈ l->u ∈ uM l:=by
 intro l;induction l with
 |nil=>intro h;cases h
 |cons x l ih=>
  intro h;cases x with
  |tmp t=>
   simp only[uM];rcases wY.1 h with h|h
   ·cases h;simp
   ·exact List.mem_cons_of_mem _ (ih h)
  |_=>
   simp only[uM];rcases wY.1 h with h|h
   ·cases h
   ·exact ih h

theorem a05{u:Nat}{l:List Nat}(h:u ∈ l):a7g (some u) l=true:=by
 simp only[a7g,List.any_eq_true];exact⟨u,h,by simp⟩

def b2a(all:Array Oper)(s0:V5)(y:Nat->T)(p:Nat->G8)(D:Nat->Prop)(E:Env)(w:World)(a:Act)(u:Nat):Prop:=
 (∀j o,all[j]? =some o->o.dst=some u->D j->(nS all y (p j)->Rd E w (y j) (a.tmps.getD u undef))/\(¬nS all y (p j)->a.tmps.getD u undef=undef))/\
  ((∀j o,all[j]? =some o->o.dst=some u->¬D j)->Rd E w (j7 s0 u) (a.tmps.getD u undef))

def a1f(G:I2)(all:Array Oper)(b:Nat)(H0:Y1)(S:Nat->St)(D:Nat->Prop)(e:Nat)(H:Y1):Prop:=
 H.length=(HH H0 S e).length/\(∀x,e<=x->F0 (G6 G) all x=true->D x->Z0 H (oS (G6 G) b all x)=Z0 (HH H0 S (x+1)) (oS (G6 G) b all x))/\
  ∀k,(∀x,e<=x->F0 (G6 G) all x=true->D x->k≠oS (G6 G) b all x)->Z0 H k=Z0 (HH H0 S e) k

def NR(G:I2)(all:Array Oper)(b:Nat)(H0:Y1)(S:Nat->St)(e:Nat):Prop:=
 ∀x,e<=x->F0 (G6 G) all x=true->Z0 (HH H0 S e) (oS (G6 G) b all x)=none

def RD(c:Ctx)(G:I2)(all:Array Oper)(b:Nat)(H0:Y1)(s0:V5)(S:Nat->St)(y:Nat->T)(p:Nat->G8)(D:Nat->Prop)(a:Act)(w:World):Prop:=
 a.defers=[]/\a.tmps.size=c.nt/\∃E e H,e<=all.size/\(∀x,jR G all x->x<e->D x)/\(∀x,jR G all x->D x->e<=x->F0 (G6 G) all x=true)/\a1f G all b H0 S D e H/\NR G all b H0 S e/\Inv c E H w/\
  (∀x,F0 (G6 G) all x=true->¬D x->¬E.L (oS (G6 G) b all x))/\(∀x,F0 (G6 G) all x=true->∃j,E.L j/\oS (G6 G) b all x<j)/\∀u,b2a all s0 y p D E w a u

theorem a2T{A B:Y1}(hl:A.length=B.length)(h:∀k,Z0 A k=Z0 B k):A=B:=by
 refine List.ext_getElem hl λk h1 h2=> ?_
 have:=h k;unfold Z0 at this;rw[K7 h1,K7 h2] at this
 exact this

theorem b1H(fl:Bool)(l r:List Oper):yX fl (l++r)=yX fl l+yX fl r:=by
 induction l with
 |nil=>simp[yX]
 |cons o l ih=>
  simp only[List.cons_append,yX,ih];split<;>omega

theorem D9{fl:Bool}{all:Array Oper}{x:Nat}(h:F0 fl all x=true):∃o,all[x]? =some o/\w8 fl o=true:=by
 unfold F0 at h;split at h
 ·rename_i o ho;exact⟨o,ho,h⟩
 ·cases h

theorem mT{fl:Bool}{all:Array Oper}{x n:Nat}(h:F0 fl all x=true)(hn:x<n):yX fl (all.toList.take x)<yX fl (all.toList.take n):=by
 obtain⟨o,ho,ht⟩:=D9 h;obtain⟨hlt,hox⟩:=j_p.1 ho
 have h1:all.toList.take n=all.toList.take x++(all.toList.take n).drop x:=by
  have:=(List.take_append_drop x (all.toList.take n)).symm;rw[List.take_take,Nat.min_eq_left (by omega)] at this
  exact this
 have h2:(all.toList.take n).drop x=o::(all.toList.take n).drop (x+1):=by
  have hl:x<(all.toList.take n).length:=by simp;omega
  rw[List.drop_eq_getElem_cons hl];simp[hox]
 rw[h1,b1H,h2];simp only[yX,ht];omega

theorem cH{fl:Bool}{all:Array Oper}{b x z:Nat}(h:F0 fl all x=true)(k:F0 fl all z=true)(hne:x≠z):oS fl b all x≠oS fl b all z:=by
 unfold oS;rcases Nat.lt_or_gt_of_ne hne with hl|hl
 ·have:=mT h hl;omega
 ·have:=mT k hl;omega

section
variable {c:Ctx} {P:Program} {G:I2} {all:Array Oper} {b:Nat} {H0:Y1} {s0:V5} {S:Nat->St} {y:Nat->T} {p:Nat->G8} {m:Nat->Nat} {D:Nat->Prop}

theorem tK{E E':Env}{w w':World}{a:Act}{i:Nat}{o:Oper}(t:Trace P G c.nt all b H0 s0 S y p m)(hi:all[i]? =some o)(hsz:a.tmps.size=c.nt)(hst:Stp E w E' w'){v:Value}
  (hv:(nS all y (p i)->Rd E' w' (y i) v)/\(¬nS all y (p i)->v=undef)) (h:∀u,b2a all s0 y p D E w a u) (u:Nat):b2a all s0 y p (λk=>D k∨k=i) E' w' (a.put o.dst v) u:=by
 have keep:(o.dst≠some u)->(a.put o.dst v).tmps.getD u undef=a.tmps.getD u undef:=by
  intro hne;cases hd:o.dst with
  |none=>rfl
  |some d=>
   have hdst:=(t.step i o hi).dst;rw[hd] at hdst;rw[tR a d v u (by rw[hsz];exact v6 hdst),if_neg (by rintro rfl;exact hne hd)]
 have new:o.dst=some u->(a.put o.dst v).tmps.getD u undef=v:=by
  intro hd;have hdst:=(t.step i o hi).dst;rw[hd] at hdst ⊢;rw[tR a u v u (by rw[hsz];exact v6 hdst),if_pos rfl]
 refine⟨λj oj hj hd hDj=> ?_,λhno=> ?_⟩
 ·by_cases hji:j=i
  ·subst hji;rw[hj] at hi;simp only[W8] at hi;subst hi;rw[new hd];exact hv
  ·have hne:o.dst≠some u:=λhe=>hji (t.distinct hj hi hd he)
   rw[keep hne];obtain⟨h1,h2⟩:=(h u).1 j oj hj hd (hDj.resolve_right hji);exact⟨λhp=>hst.rd (h1 hp),h2⟩
 ·have hne:o.dst≠some u:=λhe=>hno i o hi he (.inr rfl)
  rw[keep hne];exact hst.rd ((h u).2 λj oj hj hd hDj=>hno j oj hj hd (.inl hDj))

theorem a5d{x:Nat}(h:F0 (G6 G) all x=true):jR G all x:=by
 obtain⟨o,ho,ht⟩:=D9 h;exact⟨o,ho,(pX ht).1⟩

theorem a9L(t:Trace P G c.nt all b H0 s0 S y p m){e:Nat}{H:Y1}(he:e<all.size)(hd:jR G all e->D e/\F0 (G6 G) all e=true)(h:a1f G all b H0 S D e H):a1f G all b H0 S D (e+1) H:=by
 obtain⟨h1,h2,h3⟩:=h;by_cases hm:jR G all e
 ·obtain⟨hDe,hal⟩:=hd hm;obtain⟨o,ho,ht0⟩:=D9 hal;obtain⟨H',_,hev,hh,_⟩:=(t.step e o ho).al ht0;obtain⟨_,hr,_,e1⟩:=qG hev;have e2:HH H0 S (e+1)=H':=by simp only[HH,hh,C6]
  have e3:C6 H0 (S e).hist=HH H0 S e:=rfl;rw[e3] at e1 hr;refine⟨by rw[e2,e1,B1];exact h1,λx hx=>h2 x (by omega),λk hk=> ?_⟩
  by_cases hkr:k=oS (G6 G) b all e
  ·rw[hkr];exact h2 e (W4 e) hal hDe
  ·rw[e2,e1,U0 hr,if_neg hkr];refine h3 k λx hx ha hDx=> ?_
   by_cases hxe:x=e
   ·rw[hxe];exact hkr
   ·exact hk x (by omega) ha hDx
 ·have hs:=t.hist_same (a:=e) (e+1) (by omega) he (λx q1 q2 hx=>hm (by rwa [show e=x by omega]))
  have e2:HH H0 S (e+1)=HH H0 S e:=by simp only[HH,hs]
  refine⟨by rw[e2];exact h1,λx hx=>h2 x (by omega),λk hk=> ?_⟩
  rw[e2];refine h3 k λx hx ha hDx=> ?_
  by_cases hxe:x=e
  ·exact absurd (hxe▸a5d ha) hm
  ·exact hk x (by omega) ha hDx

theorem a0w(t:Trace P G c.nt all b H0 s0 S y p m){e:Nat}{H:Y1}:∀{q:Nat},e<=q->q<=all.size->(∀x,e<=x->x<q->jR G all x->D x/\F0 (G6 G) all x=true)->a1f G all b H0 S D e H->a1f G all b H0 S D q H:=by
 intro q;induction q with
 |zero=>intro h _ _ hr;rw[Nat.le_zero.1 h] at hr;exact hr
 |succ q ih=>
  intro h hq hd hr;by_cases he:e=q+1
  ·rw[←he];exact hr
  ·exact a9L t (by omega) (hd q (by omega) (by omega)) (ih (by omega) (by omega) (λx h1 h2=>hd x h1 (by omega)) hr)

theorem b6I(t:Trace P G c.nt all b H0 s0 S y p m){e:Nat}(he:e<all.size)(hd:jR G all e->F0 (G6 G) all e=true)(h:NR G all b H0 S e):NR G all b H0 S (e+1):=by
 intro x hx ha;have h0:=h x (by omega) ha
 by_cases hm:jR G all e
 ·have hal:=hd hm;obtain⟨o,ho,ht0⟩:=D9 hal;obtain⟨H',_,hev,hh,_⟩:=(t.step e o ho).al ht0;obtain⟨_,hr,_,e1⟩:=qG hev;have e2:HH H0 S (e+1)=H':=by simp only[HH,hh,C6]
  have e3:C6 H0 (S e).hist=HH H0 S e:=rfl;rw[e3] at e1 hr;rw[e2,e1,U0 hr,if_neg (cH ha hal (by omega))]
  exact h0
 ·have hs:=t.hist_same (a:=e) (e+1) (by omega) he (λx q1 q2 hx=>hm (by rwa [show e=x by omega]))
  have e2:HH H0 S (e+1)=HH H0 S e:=by simp only[HH,hs]
  rw[e2];exact h0

theorem b6K(t:Trace P G c.nt all b H0 s0 S y p m){e:Nat}:∀{q:Nat},e<=q->q<=all.size->(∀x,e<=x->x<q->jR G all x->F0 (G6 G) all x=true)->NR G all b H0 S e->NR G all b H0 S q:=by
 intro q;induction q with
 |zero=>intro h _ _ hr;rw[Nat.le_zero.1 h] at hr;exact hr
 |succ q ih=>
  intro h hq hd hr;by_cases he:e=q+1
  ·rw[←he];exact hr
  ·exact b6I t (by omega) (hd q (by omega) (by omega)) (ih (by omega) (by omega) (λx h1 h2=>hd x h1 (by omega)) hr)

theorem kQ{e:Nat}{H:Y1}(hn:NR G all b H0 S e)(h:a1f G all b H0 S D e H):H7 (HH H0 S e) H:=by
 intro k ob hk;by_cases hx:∃x,e<=x/\F0 (G6 G) all x=true/\D x/\k=oS (G6 G) b all x
 ·obtain⟨x,hex,ha,hDx,rfl⟩:=hx;rw[hn x hex ha] at hk;cases hk
 ·rw[h.2.2 k λx h1 h2 h3 he=>hx ⟨x,h1,h2,h3,he⟩]
  exact hk

theorem C1:∀{ks:List Nat} {os:List (Option Ob)} {A:Y1},(O4 A ks os).length=A.length
 | [],os,A=>by cases os<;>rfl
 |j::ks,[],A=>rfl
 |j::ks,o::os,A=>by
  show(O4 (A.set j o) ks os).length=_;rw[C1,B1]
theorem dQ{k:Nat}:∀{ks:List Nat} {os:List (Option Ob)} {A B:Y1},A.length=B.length->Z0 A k=Z0 B k->Z0 (O4 A ks os) k=Z0 (O4 B ks os) k
 | [],os,A,B,_,h=>by cases os<;>exact h
 |j::ks,[],A,B,_,h=>h
 |j::ks,o::os,A,B,hl,h=>by
  show Z0 (O4 (A.set j o) ks os) k=Z0 (O4 (B.set j o) ks os) k;refine dQ (by rw[B1,B1,hl]) ?_
  by_cases hj:j<A.length
  ·rw[U0 hj,U0 (hl▸hj),h]
  ·rw[List.set_eq_of_length_le (by omega),List.set_eq_of_length_le (by omega),h]

theorem b5s(t:Trace P G c.nt all b H0 s0 S y p m)(hG:D0 P G)(hGc:∀x ∈ G,P4 P x.1)(hcl:Cl all D){i:Nat}{o:Oper}(hi:all[i]? =some o)(hni:¬D i)
  (hpre:∀e ∈ o.after.toList,Region.binds .any e=true->D e.on) {a:Act} {w:World} (hr:RD c G all b H0 s0 S y p D a w) {K:Act->World->Prop} {Q:Exit->Act->World->Prop}
  (hK:∀a' w',RD c G all b H0 s0 S y p (λk=>D k∨k=i) a' w'->K a' w'):wpOp P all Q i K a w:=by
 obtain⟨hdef,hsz,E,e,H,hen,hA,hB,hR,hNR,hI,hres,hsen,hsl⟩:=hr;have hst:=t.step i o hi;have hilt:i<all.size:=(j_p.1 hi).1
 have hput:∀(v:Value),(a.put o.dst v).defers=[]/\(a.put o.dst v).tmps.size=c.nt:=by
  intro v;cases o.dst with
  |none=>exact⟨hdef,hsz⟩
  |some d=>exact⟨hdef,by simp[Act.put,hsz]⟩
 have hmask:=t.mask_done hcl i o hi hpre;have hlater:∀j oj,all[j]? =some oj->i<j->Nat.testBit (m j) i=true->¬D j:=λj oj hj hij hb hDj=>
  hni (t.mask_done hcl j oj hj (λe he hb'=>hcl j oj hDj hj e he hb') i hb)
 have hused:∀u,u ∈ rQ all o->(J9 (S i).s (S5 (S i).ps u)->Rd E w (j7 (S i).s u) (a.tmps.getD u undef))/\(¬J9 (S i).s (S5 (S i).ps u)->a.tmps.getD u undef=undef):=by
  intro u hu;rcases kE all u i with⟨j,oj,hji,hj,hd⟩|hno
  ·have hpr:=t.pair i o j oj hi hj hji;have hb:Nat.testBit (m i) j=true:=by
    unfold x1 at hpr;rw[hd,a05 hu] at hpr
    simpa using And.right (by simpa using hpr)
   obtain⟨e1,e2⟩:=t.slot_some hj hd i hji (Nat.le_of_lt hilt);rw[e1,e2];have hpl:∀z ∈ p j,∃k o',k<i/\all[k]? =some o'/\o'.dst=some z.1:=λz hz=>by
    obtain⟨k,o',hk,ho',hd'⟩:=t.path_lt j oj hj z hz;exact⟨k,o',by omega,ho',hd'⟩
   rw[t.pathV (Nat.le_of_lt hilt) hpl];exact(hsl u).1 j oj hj hd (hmask j hb)
  ·obtain⟨e1,e2⟩:=t.slot_none u i (Nat.le_of_lt hilt) hno;rw[e1,e2];refine⟨λ_=>(hsl u).2 λj oj hj hd hDj=> ?_,λhn=>absurd (λq hq=>by cases hq) hn⟩
   rcases Nat.lt_trichotomy j i with h|h|h
   ·exact hno j oj h hj hd
   ·subst h;exact hni hDj
   ·have hpr:=t.pair j oj i o hj hi h;have hb:Nat.testBit (m j) i=true:=by
     unfold x1 at hpr;rw[hd,a05 hu] at hpr
     simpa using And.right (by simpa using hpr)
    exact hlater j oj hj h hb hDj
 have huse:∀u,Operand.tmp u ∈ o.op.operands.toList->u ∈ rQ all o:=by
  intro u hu;unfold rQ;split
  ·exact sC hu
  ·split
   ·exact List.mem_cons_of_mem _ (sC hu)
   ·exact sC hu
 have hxt:H7 (HH H0 S e) H:=kQ hNR hR;have hreader:stays G o.op=true->∃G' H' side,Good P G G'/\A6 P G' (S i).s H o.op=some (y i,H',side)/\H'=H/\(J9 (S i).s (p i)->side.getD True):=by
  intro hs;obtain⟨_,G',H',side,hGG,hev,hside⟩:=hst.reader hs;by_cases hpu:pureB o.op=true
  ·exact⟨G',_,side,hGG,a9K hpu hev,rfl,hside⟩
  have hpu:pureB o.op=false:=Bool.eq_false_iff.2 hpu;obtain⟨q,hq,he,hno,hor⟩:=t.hist_at (m i) i (Nat.le_of_lt hilt);rw[he] at hev;have hdone:∀x,x<q->jR G all x->D x:=by
   intro x hx hxm;obtain⟨ox,hox,hsx⟩:=hxm;rcases hor with rfl|⟨x0,rfl,⟨o0,ho0,hs0⟩,hal0,hb0⟩
   ·omega
   ·have hD0:=hmask x0 hb0;by_cases hxx:x=x0
    ·subst hxx;exact hD0
    ·have hpr:=t.pair x0 o0 x ox ho0 hox (by omega)
     have hb:Nat.testBit (m x0) x=true:=by
      unfold x1 at hpr;rw[iR ho0] at hal0;rw[hsx,hs0,hal0] at hpr
      simpa using And.right (by simpa using hpr)
     exact t.mask_done hcl x0 o0 ho0 (λe he hb'=>hcl x0 o0 hD0 ho0 e he hb') x hb
  have hkey:∀x ox,q<=x->x<e->all[x]? =some ox->stays G ox.op=false->(zM G ox.op=true∨w8 (G6 G) ox=true)∨disjB (eJ (S i).s o.op) (vP (HH H0 S x) (S x).s ox.op)=true:=by
   intro x ox h1 h2 hox hsx;have hDx:=hA x ⟨ox,hox,hsx⟩ h2;rcases Nat.lt_trichotomy x i with h|h|h
   ·rcases hno x h1 h ⟨ox,hox,hsx⟩ with hb|hal
    ·have hpr:=t.pair i o x ox hi hox h;unfold x1 sI at hpr;rw[hb,hsx,hs,hpu] at hpr;simp only[Bool.false_or,Bool.or_false,L3,pP] at hpr;exact hpr.2.2.imp .inl id
    ·rw[iR hox] at hal;exact .inl (.inr hal)
   ·subst h;exact absurd hDx hni
   ·have hpr:=t.pair x ox i o hox hi h;unfold x1 sI at hpr;cases hb:Nat.testBit (m x) i with
    |true=>exact absurd hDx (hlater x ox hox h hb)
    |false=>
     rw[hb,hsx,hs,hpu] at hpr;simp only[Bool.false_or,Bool.or_false,L3,pP] at hpr;exact hpr.2.2.imp .inl id
  have hback:e<=q->H7 (HH H0 S q) H:=λheq=>
   kQ (b6K t heq (by omega) (λx h1 h2 hx=>hB x hx (hdone x h2 hx) h1) hNR) (a0w t heq (by omega) (λx h1 h2 hx=>⟨hdone x h2 hx,hB x hx (hdone x h2 hx) h1⟩) hR)
  cases hrd:eJ (S i).s o.op with
  |none=>
   have hext:H7 (HH H0 S q) H:=by
    rcases Nat.le_total q e with hqe|hqe
    ·refine(t.hist_ext e hqe hen λx ox h1 h2 hox hsx=> ?_).trans hxt
     rcases hkey x ox h1 h2 hox hsx with h|h
     ·exact h
     ·rw[hrd] at h;cases h
    ·exact hback hqe
   exact⟨G',_,side,hGG,b2y hext (by rw[hGG.stays];exact hs) hev,rfl,hside⟩
  |some R=>
   have hext:fB R (HH H0 S q) H:=by
    rcases Nat.le_total q e with hqe|hqe
    ·have h0:fB R (HH H0 S q) (HH H0 S e):=t.hist_extOn e hqe hen λx ox h1 h2 hox hsx=>by
      have:=hkey x ox h1 h2 hox hsx;rw[hrd] at this;exact this
     exact λk hk ob hob=>hxt k ob (h0 k hk ob hob)
    ·exact λk _ ob hob=>hback hqe k ob hob
   exact⟨G',_,side,hGG,b2M hrd (by rw[hGG.stays];exact hs) hext hev,rfl,hside⟩
 have hMi:stays G o.op=false->jR G all i:=λhs=>⟨o,hi,hs⟩
 have hei:stays G o.op=false->e<=i:=λhs=>by
  rcases Nat.lt_or_ge i e with h|h
  ·exact absurd (hA i (hMi hs) h) hni
  ·exact h
 have hwriter:stays G o.op=false->w8 (G6 G) o=false->∃G' side H',Good P G G'/\A6 P G' (S i).s H o.op=some (y i,H',side)/\side.getD True/\(∀x,jR G all x->x<i+1->D x∨x=i)/\(∀x,jR G all x->(D x∨x=i)->i+1<=x->F0 (G6 G) all x=true)/\a1f G all b H0 S (λk=>D k∨k=i) (i+1) H'/\(∀x,i+1<=x->F0 (G6 G) all x=true->D x->Z0 (HH H0 S (i+1)) (oS (G6 G) b all x)=none):=by
  intro hs hna;obtain⟨G',H',side,hGG,hev,hh,hside⟩:=hst.writer hs hna;have hnb:=hna;have hbef:∀x,jR G all x->x<i->D x:=by
   intro x hx hxi;obtain⟨ox,hox,hsx⟩:=hx;have hpr:=t.pair i o x ox hi hox hxi;have hb:Nat.testBit (m i) x=true:=by
    unfold x1 at hpr;rw[hsx,hs,hnb] at hpr
    simpa using And.right (by simpa using hpr)
   exact hmask x hb
  have hei:=hei hs;have hRi:a1f G all b H0 S D i H:=a0w t hei (Nat.le_of_lt hilt) (λx h1 h2 hx=>⟨hbef x hx h2,hB x hx (hbef x hx h2) h1⟩) hR
  have hNi:NR G all b H0 S i:=b6K t hei (Nat.le_of_lt hilt) (λx h1 h2 hx=>hB x hx (hbef x hx h2) h1) hNR
  have hBi:∀x,jR G all x->D x->i<=x->F0 (G6 G) all x=true:=λx hx hd hix=>hB x hx hd (by omega)
  have h1:C6 H0 (S i).hist=HH H0 S i:=rfl;have h2:HH H0 S (i+1)=H':=by simp only[HH,hh,C6]
  rw[h1] at hev;have hA':∀x,jR G all x->x<i+1->D x∨x=i:=λx hx hlt=>by
   by_cases hxi:x=i
   ·exact .inr hxi
   ·exact .inl (hbef x hx (by omega))
  have hB':∀x,jR G all x->(D x∨x=i)->i+1<=x->F0 (G6 G) all x=true:=λx hx hor hix=>hBi x hx (hor.resolve_right (by omega)) (by omega)
  by_cases hlate:∃x,i<x/\F0 (G6 G) all x=true/\D x
  ·obtain⟨x,hix,hax,hDx⟩:=hlate;obtain⟨ox,hox,htx⟩:=D9 hax;have hfl:floatB G o.op=true∨(a8u G o.op=true/\(vP (HH H0 S i) (S i).s o.op).isSome=true):=by
    have hpr:=t.pair x ox i o hox hi hix;have hb:Nat.testBit (m x) i=false:=by
     cases hb:Nat.testBit (m x) i with
     |false=>rfl
     |true=>exact absurd hDx (hlater x ox hox hix hb)
    unfold x1 at hpr;rw[hb,hs,(pX htx).1,hnb] at hpr;simp only[Bool.false_or,L3,pP] at hpr;exact hpr.2.2.2
   have hsame:∃ks os os2,H'=O4 (HH H0 S i) ks os++os2/\(∀k ∈ ks,∃ob,Z0 (HH H0 S i) k=some ob)/\∀H2:Y1,H2.length=(HH H0 S i).length->H7 (HH H0 S i) H2->A6 P G' (S i).s H2 o.op=some (y i,O4 H2 ks os++os2,side):=by
    rcases hfl with hfl|⟨hf,hw⟩
    ·have hfl':floatB G' o.op=true:=by unfold floatB at hfl ⊢;rw[hGG.grow];exact hfl
     obtain⟨os,e1,e2⟩:=b6x hfl' hev;exact⟨[],[],os,e1,λk hk=>absurd hk j_i,e2⟩
    ·have hf':a8u G' o.op=true:=by
      unfold a8u at hf ⊢;split at hf
      ·rw[hGG.ef];exact hf
      ·cases hf
     obtain⟨W,hW⟩:=Option.isSome_iff_exists.1 hw;exact b3L hf' hW hev
   obtain⟨ks,os,os2,e1,e0,e2⟩:=hsame;rw[e1] at h2;have hnk:∀x',i+1<=x'->F0 (G6 G) all x'=true->oS (G6 G) b all x' ∉ ks:=λx' hx' ha' hk=>by
    obtain⟨ob,hob⟩:=e0 _ hk;rw[hNi x' (by omega) ha'] at hob
    cases hob
   obtain⟨r1,r2,r3⟩:=hRi;have hsome:∀x',i+1<=x'->F0 (G6 G) all x'=true->D x'->∃ob,Z0 H (oS (G6 G) b all x')=some ob:=λx' hx' ha' hD'=>by
    have:=r2 x' (by omega) ha' hD'
    obtain⟨o',ho',ht'⟩:=D9 ha';obtain⟨H2,_,hev2,hh2,_⟩:=(t.step x' o' ho').al ht';obtain⟨_,hr,_,e3⟩:=qG hev2;have e4:HH H0 S (x'+1)=H2:=by simp only[HH,hh2,C6]
    rw[e4,e3,U0 hr,if_pos rfl] at this;exact⟨_,this⟩
   have hleft:∀(A:Y1) (k:Nat),k<A.length->Z0 (O4 A ks os++os2) k=Z0 (O4 A ks os) k:=λA k hk=>by
    unfold Z0;rw[tX (by rw[C1];exact hk)]
   refine⟨G',side,O4 H ks os++os2,hGG,e2 H r1 (kQ hNi ⟨r1,r2,r3⟩),hside,hA',hB',⟨by rw[h2,K6,K6,C1,C1,r1],λx' hx' ha' hD'=> ?_,λk hk=> ?_⟩,λx' hx' ha' hD'=> ?_⟩
   ·have hDx':D x':=hD'.resolve_right (by omega)
    obtain⟨ob,hob⟩:=hsome x' hx' ha' hDx';rw[hleft H _ (J2 hob),xS (hnk x' hx' ha')];exact r2 x' (by omega) ha' hDx'
   ·have:=r3 k λx' hx' ha' hDx'=>by
     by_cases hxi:x'=i
     ·exact absurd (hxi▸hDx') hni
     ·exact hk x' (by omega) ha' (.inl hDx')
    rw[h2];by_cases hkl:k<H.length
    ·rw[hleft H k hkl,hleft (HH H0 S i) k (by rw[←r1];exact hkl)]
     exact dQ r1 this
    ·unfold Z0;rw[rK (by rw[C1];omega),rK (by rw[C1,←r1];omega),C1,C1,r1]
   ·obtain⟨ob,hob⟩:=hsome x' hx' ha' hD';rw[h2,hleft (HH H0 S i) _ (by rw[←r1];exact J2 hob),xS (hnk x' hx' ha')]
    exact hNi x' (by omega) ha'
  ·have hH:H=HH H0 S i:=a2T hRi.1 λk=>hRi.2.2 k λx hx ha hDx=>by
    by_cases hxi:x=i
    ·exact absurd (hxi▸hDx) hni
    ·exact absurd ⟨x,by omega,ha,hDx⟩ hlate
   refine⟨G',side,H',hGG,by rw[hH];exact hev,hside,hA',hB',⟨by rw[h2],λx hx ha hD=> ?_,λk _=>by rw[h2]⟩,λx hx ha hD=>absurd ⟨x,by omega,ha,hD⟩ hlate⟩
   exact absurd ⟨x,by omega,ha,hD.resolve_right (by omega)⟩ hlate
 have hPV:J9 (S i).s (p i)↔nS all y (p i):=t.pathV (Nat.le_of_lt hilt) λz hz=>t.path_lt i o hi z hz
 have run:nS all y (p i)->o.wp P a w K Q:=by
  intro hpv;have hph:=hPV.2 hpv;obtain⟨hop,hpk⟩:=a9P (E:=E) (w:=w) (a:=a) (λu hu=>(hused u (huse u hu)).1) hph hst.paths
  have hnx:∀{x:Nat},stays G o.op=true->jR G all x->x≠i:=λ{x} hs hx=>by
   rintro rfl;obtain⟨ox,hox,hsx⟩:=hx;rw[hi] at hox;simp only[W8] at hox;subst hox;rw[hs] at hsx;cases hsx
  have hL':∀{E':Env} {w':World},Step E w E' w'->∀x,F0 (G6 G) all x=true->¬D x->¬E'.L (oS (G6 G) b all x):=λ{E' w'} hs' x ha hnd hL=>by
   obtain⟨j,hj,hlt⟩:=hsen x ha;rcases hs'.nl _ hL with h1|h1
   ·exact hres x ha hnd h1
   ·have:=h1 j hj;omega
  have hS':∀{E':Env} {w':World},Stp E w E' w'->∀x,F0 (G6 G) all x=true->∃j,E'.L j/\oS (G6 G) b all x<j:=λhs' x ha=>by
   obtain⟨j,hj,hlt⟩:=hsen x ha;exact⟨j,hs'.le.L j hj,hlt⟩
  cases hs:stays G o.op with
  |true=>
   obtain⟨G',H',side,hGG,hev,rfl,hside⟩:=hreader hs;refine a2V hGG.ok hGG.call hI hev (hside hph) hop hpk λv w' E' hI' hst' hrd=>hK _ _ ⟨(hput v).1,(hput v).2,E',e,_,hen,λx hx hlt=>.inl (hA x hx hlt),λx hx hd=>hB x hx (hd.resolve_right (hnx hs hx)),⟨hR.1,λx hx ha hd=>hR.2.1 x hx ha (hd.resolve_right (hnx hs (a5d ha))),λk hk=>hR.2.2 k λx hx ha hd=>hk x hx ha (.inl hd)⟩,hNR,hI',λx ha hnd=>hL' hst' x ha λhd=>hnd (.inl hd),hS' hst'.stp,tK t hi hsz hst'.stp ⟨λ_=>hrd,λhn=>absurd hpv hn⟩ hsl⟩
  |false=>
   cases hal:w8 (G6 G) o with
   |false=>
    obtain⟨G',side,H',hGG,hev,hside,hA',hB',hR',hlt'⟩:=hwriter hs hal;refine a2V hGG.ok hGG.call hI hev hside hop hpk λv w' E' hI' hst' hrd=> ?_
    have hN':NR G all b H0 S (i+1):=λx hx ha=>by
     by_cases hD:D x
     ·exact hlt' x hx ha hD
     ·have hnL:=hL' hst' x ha (λhd=>hD hd)
      have hxi:x≠i:=by omega
      rw[←hR'.2.2 (oS (G6 G) b all x) λx' hx' ha' hD' he=>by
       have hDx':D x':=hD'.resolve_right (by omega)
       exact cH ha ha' (λh=>hD (h▸hDx')) he]
      cases hk:Z0 H' (oS (G6 G) b all x) with
      |none=>rfl
      |some ob=>exact absurd (hI'.heap.live _ ob hk).1 hnL
    exact hK _ _ ⟨(hput v).1,(hput v).2,E',i+1,H',hilt,hA',hB',hR',hN',hI',λx ha hnd=>hL' hst' x ha λhd=>hnd (.inl hd),hS' hst'.stp,tK t hi hsz hst'.stp ⟨λ_=>hrd,λhn=>absurd hpv hn⟩ hsl⟩
   |true=>
    obtain⟨H1,side,hev,hh,hsd⟩:=hst.al hal;obtain⟨_,hrl,_⟩:=qG hev;have hai:F0 (G6 G) all i=true:=by rw[iR hi];exact hal
    obtain⟨j,hj,hjl⟩:=hsen i hai;have hrH:oS (G6 G) b all i<H.length:=by have:=hI.heap.lt j hj;omega
    have hei:=hei hs;have e2:HH H0 S (i+1)=H1:=by simp only[HH,hh,C6]
    obtain⟨v,w',E',ob,e1,hrun,g1,g2,g3,g4⟩:=b7X hI hev hsd hrH (hres i hai hni) hop;refine zN (w':=w') (v:=v) hrun (hK _ _ ⟨(hput _).1,(hput _).2,E',e,_,hen,λx hx hlt=>.inl (hA x hx hlt),λx hx hd hex=> ?_,⟨by rw[B1];exact hR.1,λx hx ha hd=> ?_,λk hk=> ?_⟩,hNR,g1,λx ha hnd hL=> ?_,hS' g2,tK t hi hsz g2 ⟨λ_=>g3,λhn=>absurd hpv hn⟩ hsl⟩)
    ·rcases hd with hd|rfl
     ·exact hB x hx hd hex
     ·exact hai
    ·by_cases hxi:x=i
     ·subst hxi;rw[U0 hrH,if_pos rfl,e2,e1,U0 hrl,if_pos rfl]
     ·rw[U0 hrH,if_neg (cH ha hai hxi)];exact hR.2.1 x hx ha (hd.resolve_right hxi)
    ·have hkr:=hk i hei hai (.inr rfl);rw[U0 hrH,if_neg hkr];exact hR.2.2 k λx hx ha hd=>hk x hx ha (.inl hd)
    ·rcases g4 _ hL with h1|h1
     ·exact hres x ha (λhd=>hnd (.inl hd)) h1
     ·exact cH ha hai (λhxi=>hnd (.inr hxi)) h1
 have skip:¬nS all y (p i)->stays G o.op=true->K (a.put o.dst undef) w:=by
  intro hn hs;have hnx:∀{x:Nat},jR G all x->x≠i:=λ{x} hx=>by
   rintro rfl;obtain⟨ox,hox,hsx⟩:=hx;rw[hi] at hox;simp only[W8] at hox;subst hox;rw[hs] at hsx;cases hsx
  exact hK _ _ ⟨(hput _).1,(hput _).2,E,e,H,hen,λx hx hlt=>.inl (hA x hx hlt),λx hx hd=>hB x hx (hd.resolve_right (hnx hx)),⟨hR.1,λx hx ha hd=>hR.2.1 x hx ha (hd.resolve_right (hnx (a5d ha))),λk hk=>hR.2.2 k λx hx ha hd=>hk x hx ha (.inl hd)⟩,hNR,hI,λx ha hnd=>hres x ha λhd=>hnd (.inl hd),hsen,tK t hi hsz (Step.refl E w).stp ⟨λhp=>absurd hp hn,λ_=>rfl⟩ hsl⟩
 unfold wpOp;simp only[hi];cases hg:o.guard with
 |none=>
  have hw:Region.wanted o (yielded all a.tmps)=true:=by simp[Region.wanted,hg]
  rw[if_pos hw];refine .inl (run ?_)
  rw[(hst.plain hg).1];exact λz hz=>by cases hz
 |some gw=>
  obtain⟨j,want⟩:=gw;obtain⟨g,x,hgd,hx,hji,hp,_,hs,_⟩:=hst.guarded j want hg;have hgu:g ∈ rQ all o:=by
   unfold rQ;rw[hg];simp only[hgd];exact List.mem_cons_self
  have hy:yielded all a.tmps j=match a.tmps[g]? with|some (.bool b)=>some b|_=>none:=by
   unfold yielded;rw[hgd];rfl
  by_cases hpg:J9 (S i).s (S5 (S i).ps g)
  ·have hv:=(hused g hgu).1 hpg;rw[hx] at hv;have hv':=z9 hv;have hgv:a.tmps[g]? =some (.bool x):=by
    rw[Array.getD_eq_getD_getElem?] at hv';cases hq:a.tmps[g]? with
    |none=>rw[hq] at hv';simp[undef] at hv'
    |some z=>rw[hq] at hv';simp at hv';rw[hv']
   have hyl:yielded all a.tmps j=some x:=by rw[hy,hgv]
   by_cases hxw:x=want
   ·have hw:Region.wanted o (yielded all a.tmps)=true:=by simp[Region.wanted,hg,hyl,hxw]
    rw[if_pos hw];refine .inl (run (hPV.1 ?_))
    rw[hp];intro q hq;rcases wY.1 hq with rfl|hq
    ·exact⟨x,hx,hxw⟩
    ·exact hpg q hq
   ·have hw:¬Region.wanted o (yielded all a.tmps)=true:=by simp[Region.wanted,hg,hyl,hxw]
    rw[if_neg hw];refine skip (λhpv=> ?_) hs
    have hph:=hPV.2 hpv;rw[hp] at hph;obtain⟨x',hx',he'⟩:=hph (g,want) (by simp)
    rw[hx] at hx';cases hx';exact hxw he'
  ·have hv':=(hused g hgu).2 hpg;have hyl:yielded all a.tmps j=none:=by
    rw[hy];rw[Array.getD_eq_getD_getElem?] at hv';cases hq:a.tmps[g]? with
    |none=>rfl
    |some z=>rw[hq] at hv';simp at hv';rw[hv'];rfl
   have hw:¬Region.wanted o (yielded all a.tmps)=true:=by simp[Region.wanted,hg,hyl]
   rw[if_neg hw];refine skip (λhpv=>hpg ?_) hs
   have hph:=hPV.2 hpv;rw[hp] at hph;exact λq hq=>hph q (by simp[hq])

end
end Go.SS
