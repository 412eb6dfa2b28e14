/- A calculus of symbolic states: a region, in whatever order: the step and the whole. -/
import Derived.Test.YtokaojbaacnngaaGreatSSF
namespace Go.SS
open Go.RowKit

theorem a7J{E:Env}{w:World}{s:V9}{ps:E7}{a:Act}{pth:J2}{op:Op}(h:∀u,Operand.tmp u ∈ op.operands.toList->L8 s (T6 ps u)->Rd E w (q8 s u) (a.tmps.getD u undef))(hp:L8 s pth)(hop:H6 ps pth op=true):
  (∀x ∈ S1 op,H3 E w a s x)/\∀c x y,op= .pick c x y->(∀b,N7 s c= .bool b->b=true->H3 E w a s x)/\(∀b,N7 s c= .bool b->b=false->H3 E w a s y):=by
 have tmp:∀{q:J2} {x:Operand},x ∈ op.operands.toList->L8 s q->mS ps q x=true->H3 E w a s x:=by
  intro q x hx hq ht;refine dG λu hu=> ?_
  subst hu;exact h u hx (b2L ht hq)
 by_cases hpk:∃c x y,op= .pick c x y
 ·obtain⟨c,x,y,rfl⟩:=hpk;cases c with
  |tmp t=>
   simp only[H6,J6] at hop;obtain⟨⟨h1,h2⟩,h3⟩:=hop;refine⟨λz hz=> ?_,λc' x' y' he=> ?_⟩
   ·simp only[S1,List.mem_singleton] at hz;subst hz;exact tmp (by simp[Op.operands]) hp h1
   ·cases he;refine⟨λb hb hbt=>tmp (by simp[Op.operands]) (λq hq=> ?_) h2,λb hb hbt=>tmp (by simp[Op.operands]) (λq hq=> ?_) h3⟩
    ·rcases vN.1 hq with rfl|hq
     ·exact⟨b,hb,hbt⟩
     ·exact hp q hq
    ·rcases vN.1 hq with rfl|hq
     ·exact⟨b,hb,hbt⟩
     ·exact hp q hq
  |const=>simp[H6] at hop
  |global=>simp[H6] at hop
  |func=>simp[H6] at hop
 ·have hs:S1 op=op.operands.toList:=by
   cases op<;>first|rfl|exact absurd ⟨_,_,_,rfl⟩ hpk
  have hall:op.operands.toList.all (mS ps pth)=true:=by
   cases op<;>first|exact hop|exact absurd ⟨_,_,_,rfl⟩ hpk
  exact⟨λx hx=>tmp (by rw[←hs];exact hx) hp (m4.1 hall x (by rw[←hs];exact hx)),λc x y he=>absurd ⟨c,x,y,he⟩ hpk⟩

theorem sZ{u:Nat}:∀{l:List Operand},Operand.tmp u ∈ l->u ∈ vU l:=by
 intro l;induction l with
 |nil=>intro h;cases h
 |cons x l ih=>
  intro h;cases x with
  |tmp t=>
   simp only[vU];rcases vN.1 h with h|h
   ·cases h;simp
   ·exact List.mem_cons_of_mem _ (ih h)
  |_=>
   simp only[vU];rcases vN.1 h with h|h
   ·cases h
   ·exact ih h

theorem a0m{u:Nat}{l:List Nat}(h:u ∈ l):a5N (some u) l=true:=by
 simp only[a5N,List.any_eq_true];exact⟨u,h,by simp⟩

def b1V(all:Array Oper)(s0:V9)(y:Nat->T)(p:Nat->J2)(D:Nat->Prop)(E:Env)(w:World)(a:Act)(u:Nat):Prop:=
 (∀j o,all[j]? =some o->o.dst=some u->D j->(pN all y (p j)->Rd E w (y j) (a.tmps.getD u undef))/\(¬pN all y (p j)->a.tmps.getD u undef=undef))/\
  ((∀j o,all[j]? =some o->o.dst=some u->¬D j)->Rd E w (q8 s0 u) (a.tmps.getD u undef))

def a09(all:Array Oper)(b:Nat)(H0:Y3)(S:Nat->St)(D:Nat->Prop)(e:Nat)(H:Y3):Prop:=
 H.length=(HH H0 S e).length/\(∀x,e<=x->C9 all x=true->D x->Z1 H (kR b all x)=Z1 (HH H0 S (x+1)) (kR b all x))/\
  ∀k,(∀x,e<=x->C9 all x=true->D x->k≠kR b all x)->Z1 H k=Z1 (HH H0 S e) k

def RD(c:Ctx)(G:I4)(all:Array Oper)(b:Nat)(H0:Y3)(s0:V9)(S:Nat->St)(y:Nat->T)(p:Nat->J2)(D:Nat->Prop)(a:Act)(w:World):Prop:=
 a.defers=[]/\a.tmps.size=c.nt/\∃E e H,e<=all.size/\(∀x,kU G all x->x<e->D x)/\(∀x,kU G all x->D x->e<=x->C9 all x=true)/\a09 all b H0 S D e H/\Inv c E H w/\
  (∀x,C9 all x=true->¬D x->¬E.L (kR b all x))/\(∀x,C9 all x=true->∃j,E.L j/\kR b all x<j)/\∀u,b1V all s0 y p D E w a u

theorem a08{A B:Y3}(hl:A.length=B.length)(h:∀k,Z1 A k=Z1 B k):A=B:=by
 refine List.ext_getElem hl λk h1 h2=> ?_
 have:=h k;unfold Z1 at this;rw[L4 h1,L4 h2] at this
 exact this

theorem b2j(l r:List Oper):zN (l++r)=zN l+zN r:=by
 induction l with
 |nil=>simp[zN]
 |cons o l ih=>
  simp only[List.cons_append,zN,ih];split<;>omega

theorem G3{all:Array Oper}{x:Nat}(h:C9 all x=true):∃o t,all[x]? =some o/\qH o=some t:=by
 unfold C9 at h;split at h
 ·rename_i o ho;obtain⟨t,ht⟩:=mG h;exact⟨o,t,ho,ht⟩
 ·cases h

theorem oR{all:Array Oper}{x n:Nat}(h:C9 all x=true)(hn:x<n):zN (all.toList.take x)<zN (all.toList.take n):=by
 obtain⟨o,t,ho,ht⟩:=G3 h;obtain⟨hlt,hox⟩:=cT.1 ho
 have h1:all.toList.take n=all.toList.take x++(all.toList.take n).drop x:=by
  have:=(List.take_append_drop x (all.toList.take n)).symm;rw[List.take_take,Nat.min_eq_left (by omega)] at this
  exact this
 have h2:(all.toList.take n).drop x=o::(all.toList.take n).drop (x+1):=by
  have hl:x<(all.toList.take n).length:=by simp;omega
  rw[List.drop_eq_getElem_cons hl];simp[hox]
 rw[h1,b2j,h2];have:xQ o=true:=by unfold xQ;rw[ht]
 simp only[zN,this];omega

theorem a86{all:Array Oper}{b x z:Nat}(h:C9 all x=true)(k:C9 all z=true)(hne:x≠z):kR b all x≠kR b all z:=by
 unfold kR;rcases Nat.lt_or_gt_of_ne hne with hl|hl
 ·have:=oR h hl;omega
 ·have:=oR k hl;omega

theorem eN{G:I4}{o:Oper}(h:xQ o=true):m8 G o.op=true:=by
 obtain⟨t,ht⟩:=mG h;rw[(zX (G:=G) ht).2.2];rfl

section
variable {c:Ctx} {P:Program} {G:I4} {all:Array Oper} {b:Nat} {H0:Y3} {s0:V9} {S:Nat->St} {y:Nat->T} {p:Nat->J2} {m:Nat->Nat} {D:Nat->Prop}

theorem uW{E E':Env}{w w':World}{a:Act}{i:Nat}{o:Oper}(t:Trace P G c.nt all b H0 s0 S y p m)(hi:all[i]? =some o)(hsz:a.tmps.size=c.nt)(hst:Stp E w E' w'){v:Value}
  (hv:(pN all y (p i)->Rd E' w' (y i) v)/\(¬pN all y (p i)->v=undef)) (h:∀u,b1V all s0 y p D E w a u) (u:Nat):b1V all s0 y p (λk=>D k∨k=i) E' w' (a.put o.dst v) u:=by
 have keep:(o.dst≠some u)->(a.put o.dst v).tmps.getD u undef=a.tmps.getD u undef:=by
  intro hne;cases hd:o.dst with
  |none=>rfl
  |some d=>
   have hdst:=(t.step i o hi).dst;rw[hd] at hdst;rw[vG a d v u (by rw[hsz];exact m5 hdst),if_neg (by rintro rfl;exact hne hd)]
 have new:o.dst=some u->(a.put o.dst v).tmps.getD u undef=v:=by
  intro hd;have hdst:=(t.step i o hi).dst;rw[hd] at hdst ⊢;rw[vG a u v u (by rw[hsz];exact m5 hdst),if_pos rfl]
 refine⟨λj oj hj hd hDj=> ?_,λhno=> ?_⟩
 ·by_cases hji:j=i
  ·subst hji;rw[hj] at hi;simp only[X1] at hi;subst hi;rw[new hd];exact hv
  ·have hne:o.dst≠some u:=λhe=>hji (t.distinct hj hi hd he)
   rw[keep hne];obtain⟨h1,h2⟩:=(h u).1 j oj hj hd (hDj.resolve_right hji);exact⟨λhp=>hst.rd (h1 hp),h2⟩
 ·have hne:o.dst≠some u:=λhe=>hno i o hi he (.inr rfl)
  rw[keep hne];exact hst.rd ((h u).2 λj oj hj hd hDj=>hno j oj hj hd (.inl hDj))

theorem a2h{x:Nat}(h:C9 all x=true):kU G all x:=by
 obtain⟨o,t,ho,ht⟩:=G3 h;exact⟨o,ho,(zX ht).1⟩

theorem a6K(t:Trace P G c.nt all b H0 s0 S y p m){e:Nat}{H:Y3}(he:e<all.size)(hd:kU G all e->D e/\C9 all e=true)(h:a09 all b H0 S D e H):a09 all b H0 S D (e+1) H:=by
 obtain⟨h1,h2,h3⟩:=h;by_cases hm:kU G all e
 ·obtain⟨hDe,hal⟩:=hd hm;obtain⟨o,t0,ho,ht0⟩:=G3 hal;obtain⟨H',hev,hh⟩:=(t.step e o ho).al t0 ht0;obtain⟨z,_,_,_,hr,_,e1⟩:=rF hev;have e2:HH H0 S (e+1)=H':=by simp only[HH,hh,D6]
  have e3:D6 H0 (S e).hist=HH H0 S e:=rfl;rw[e3] at e1 hr;refine⟨by rw[e2,e1,l9];exact h1,λx hx=>h2 x (by omega),λk hk=> ?_⟩
  by_cases hkr:k=kR b all e
  ·rw[hkr];exact h2 e (V2 e) hal hDe
  ·rw[e2,e1,S8 hr,if_neg hkr];refine h3 k λx hx ha hDx=> ?_
   by_cases hxe:x=e
   ·rw[hxe];exact hkr
   ·exact hk x (by omega) ha hDx
 ·have hs:=t.hist_same (a:=e) (e+1) (by omega) he (λx q1 q2 hx=>hm (by rwa [show e=x by omega]))
  have e2:HH H0 S (e+1)=HH H0 S e:=by simp only[HH,hs]
  refine⟨by rw[e2];exact h1,λx hx=>h2 x (by omega),λk hk=> ?_⟩
  rw[e2];refine h3 k λx hx ha hDx=> ?_
  by_cases hxe:x=e
  ·exact absurd (hxe▸a2h ha) hm
  ·exact hk x (by omega) ha hDx

theorem eY(t:Trace P G c.nt all b H0 s0 S y p m){e:Nat}{H:Y3}:∀{q:Nat},e<=q->q<=all.size->(∀x,e<=x->x<q->kU G all x->D x/\C9 all x=true)->a09 all b H0 S D e H->a09 all b H0 S D q H:=by
 intro q;induction q with
 |zero=>intro h _ _ hr;rw[Nat.le_zero.1 h] at hr;exact hr
 |succ q ih=>
  intro h hq hd hr;by_cases he:e=q+1
  ·rw[←he];exact hr
  ·exact a6K t (by omega) (hd q (by omega) (by omega)) (ih (by omega) (by omega) (λx h1 h2=>hd x h1 (by omega)) hr)

theorem lZ(t:Trace P G c.nt all b H0 s0 S y p m)(hcl:Cl all D){e:Nat}{H:Y3}(hB:∀x,kU G all x->D x->e<=x->C9 all x=true)(h:a09 all b H0 S D e H):G5 (HH H0 S e) H:=by
 intro k ob hk;by_cases hx:∃x,e<=x/\C9 all x=true/\D x/\k=kR b all x
 ·obtain⟨x,hex,ha,hDx,rfl⟩:=hx;obtain⟨o,t0,ho,ht0⟩:=G3 ha;obtain⟨H',hev,_⟩:=(t.step x o ho).al t0 ht0;obtain⟨_,_,_,hn,_⟩:=rF hev;have hxs:=(cT.1 ho).1
  have hext:=t.hist_ext (a:=e) x hex (Nat.le_of_lt hxs) (λj oj h1 h2 hoj hsj=>by
   have hMj:kU G all j:=⟨oj,hoj,hsj⟩;by_cases hDj:D j
   ·have:=hB j hMj hDj h1;rw[sD hoj] at this;exact eN this
   ·have hpr:=t.pair x o j oj ho hoj h2;have hb:Nat.testBit (m x) j=false:=by
     cases hb:Nat.testBit (m x) j with
     |false=>rfl
     |true=>exact absurd (t.mask_done hcl x o ho (λe he hb'=>hcl x o hDx ho e he hb') j hb) hDj
    unfold B7 at hpr;rw[hb,hsj,(zX (G:=G) ht0).1] at hpr;simp only[Bool.false_or,J6,oQ] at hpr;rcases hpr.2.2.2 with h3|h3
    ·exact eN h3
    ·unfold floatB at h3;simp only[J6] at h3;exact h3.2)
  have:=hext _ ob hk;have hn':Z1 (HH H0 S x) (kR b all x)=none:=hn;rw[hn'] at this;cases this
 ·rw[h.2.2 k λx h1 h2 h3 he=>hx ⟨x,h1,h2,h3,he⟩]
  exact hk

theorem b5f(t:Trace P G c.nt all b H0 s0 S y p m)(hG:F6 P G)(hGc:∀x ∈ G,R4 P x.1)(hcl:Cl all D){i:Nat}{o:Oper}(hi:all[i]? =some o)(hni:¬D i)
  (hpre:∀e ∈ o.after.toList,Region.binds .any e=true->D e.on) {a:Act} {w:World} (hr:RD c G all b H0 s0 S y p D a w) {K:Act->World->Prop} {Q:Exit->Act->World->Prop}
  (hK:∀a' w',RD c G all b H0 s0 S y p (λk=>D k∨k=i) a' w'->K a' w'):wpOp P all Q i K a w:=by
 obtain⟨hdef,hsz,E,e,H,hen,hA,hB,hR,hI,hres,hsen,hsl⟩:=hr;have hst:=t.step i o hi;have hilt:i<all.size:=(cT.1 hi).1
 have hput:∀(v:Value),(a.put o.dst v).defers=[]/\(a.put o.dst v).tmps.size=c.nt:=by
  intro v;cases o.dst with
  |none=>exact⟨hdef,hsz⟩
  |some d=>exact⟨hdef,by simp[Act.put,hsz]⟩
 have hmask:=t.mask_done hcl i o hi hpre;have hlater:∀j oj,all[j]? =some oj->i<j->Nat.testBit (m j) i=true->¬D j:=λj oj hj hij hb hDj=>
  hni (t.mask_done hcl j oj hj (λe he hb'=>hcl j oj hDj hj e he hb') i hb)
 have hused:∀u,u ∈ tN all o->(L8 (S i).s (T6 (S i).ps u)->Rd E w (q8 (S i).s u) (a.tmps.getD u undef))/\(¬L8 (S i).s (T6 (S i).ps u)->a.tmps.getD u undef=undef):=by
  intro u hu;rcases mN all u i with⟨j,oj,hji,hj,hd⟩|hno
  ·have hpr:=t.pair i o j oj hi hj hji;have hb:Nat.testBit (m i) j=true:=by
    unfold B7 at hpr;rw[hd,a0m hu] at hpr
    simpa using And.right (by simpa using hpr)
   obtain⟨e1,e2⟩:=t.slot_some hj hd i hji (Nat.le_of_lt hilt);rw[e1,e2];have hpl:∀z ∈ p j,∃k o',k<i/\all[k]? =some o'/\o'.dst=some z.1:=λz hz=>by
    obtain⟨k,o',hk,ho',hd'⟩:=t.path_lt j oj hj z hz;exact⟨k,o',by omega,ho',hd'⟩
   rw[t.pathV (Nat.le_of_lt hilt) hpl];exact(hsl u).1 j oj hj hd (hmask j hb)
  ·obtain⟨e1,e2⟩:=t.slot_none u i (Nat.le_of_lt hilt) hno;rw[e1,e2];refine⟨λ_=>(hsl u).2 λj oj hj hd hDj=> ?_,λhn=>absurd (λq hq=>by cases hq) hn⟩
   rcases Nat.lt_trichotomy j i with h|h|h
   ·exact hno j oj h hj hd
   ·subst h;exact hni hDj
   ·have hpr:=t.pair j oj i o hj hi h;have hb:Nat.testBit (m j) i=true:=by
     unfold B7 at hpr;rw[hd,a0m hu] at hpr
     simpa using And.right (by simpa using hpr)
    exact hlater j oj hj h hb hDj
 have huse:∀u,Operand.tmp u ∈ o.op.operands.toList->u ∈ tN all o:=by
  intro u hu;unfold tN;split
  ·exact sZ hu
  ·split
   ·exact List.mem_cons_of_mem _ (sZ hu)
   ·exact sZ hu
 have hxt:G5 (HH H0 S e) H:=lZ t hcl hB hR;have hreader:stays G o.op=true->∃G' H' side,Good P G G'/\z6 P G' (S i).s H o.op=some (y i,H',side)/\H'=H/\(L8 (S i).s (p i)->side.getD True):=by
  intro hs;obtain⟨_,G',H',side,hGG,hev,hside⟩:=hst.reader hs;by_cases hpu:pureB o.op=true
  ·exact⟨G',_,side,hGG,a6q hpu hev,rfl,hside⟩
  have hpu:pureB o.op=false:=Bool.eq_false_iff.2 hpu;obtain⟨q,hq,he,hno,hor⟩:=t.hist_at (m i) i (Nat.le_of_lt hilt);rw[he] at hev;have hdone:∀x,x<q->kU G all x->D x:=by
   intro x hx hxm;obtain⟨ox,hox,hsx⟩:=hxm;rcases hor with rfl|⟨x0,rfl,⟨o0,ho0,hs0⟩,hal0,hb0⟩
   ·omega
   ·have hD0:=hmask x0 hb0;by_cases hxx:x=x0
    ·subst hxx;exact hD0
    ·have hpr:=t.pair x0 o0 x ox ho0 hox (by omega)
     have hb:Nat.testBit (m x0) x=true:=by
      unfold B7 at hpr;rw[sD ho0] at hal0;rw[hsx,hs0,hal0] at hpr
      simpa using And.right (by simpa using hpr)
     exact t.mask_done hcl x0 o0 ho0 (λe he hb'=>hcl x0 o0 hD0 ho0 e he hb') x hb
  have hkey:∀x ox,q<=x->x<e->all[x]? =some ox->stays G ox.op=false->m8 G ox.op=true∨disjB (iB (S i).s o.op) (qF (HH H0 S x) (S x).s ox.op)=true:=by
   intro x ox h1 h2 hox hsx;have hDx:=hA x ⟨ox,hox,hsx⟩ h2;rcases Nat.lt_trichotomy x i with h|h|h
   ·rcases hno x h1 h ⟨ox,hox,hsx⟩ with hb|hal
    ·have hpr:=t.pair i o x ox hi hox h;unfold B7 sR at hpr;rw[hb,hsx,hs,hpu] at hpr;simp only[Bool.false_or,Bool.or_false,J6,oQ] at hpr;exact hpr.2.2
    ·rw[sD hox] at hal;exact .inl (eN hal)
   ·subst h;exact absurd hDx hni
   ·have hpr:=t.pair x ox i o hox hi h;unfold B7 sR at hpr;cases hb:Nat.testBit (m x) i with
    |true=>exact absurd hDx (hlater x ox hox h hb)
    |false=>
     rw[hb,hsx,hs,hpu] at hpr;simp only[Bool.false_or,Bool.or_false,J6,oQ] at hpr;exact hpr.2.2
  have hback:e<=q->G5 (HH H0 S q) H:=λheq=>
   lZ t hcl (λx hx hd hqx=>hB x hx hd (by omega)) (eY t heq (by omega) (λx h1 h2 hx=>⟨hdone x h2 hx,hB x hx (hdone x h2 hx) h1⟩) hR)
  cases hrd:iB (S i).s o.op with
  |none=>
   have hext:G5 (HH H0 S q) H:=by
    rcases Nat.le_total q e with hqe|hqe
    ·refine(t.hist_ext e hqe hen λx ox h1 h2 hox hsx=> ?_).trans hxt
     rcases hkey x ox h1 h2 hox hsx with h|h
     ·exact h
     ·rw[hrd] at h;cases h
    ·exact hback hqe
   exact⟨G',_,side,hGG,b1b hext (by rw[hGG.stays];exact hs) hev,rfl,hside⟩
  |some R=>
   have hext:hM R (HH H0 S q) H:=by
    rcases Nat.le_total q e with hqe|hqe
    ·have h0:hM R (HH H0 S q) (HH H0 S e):=t.hist_extOn e hqe hen λx ox h1 h2 hox hsx=>by
      have:=hkey x ox h1 h2 hox hsx;rw[hrd] at this;exact this
     exact λk hk ob hob=>hxt k ob (h0 k hk ob hob)
    ·exact λk _ ob hob=>hback hqe k ob hob
   exact⟨G',_,side,hGG,b0q hrd (by rw[hGG.stays];exact hs) hext hev,rfl,hside⟩
 have hMi:stays G o.op=false->kU G all i:=λhs=>⟨o,hi,hs⟩
 have hei:stays G o.op=false->e<=i:=λhs=>by
  rcases Nat.lt_or_ge i e with h|h
  ·exact absurd (hA i (hMi hs) h) hni
  ·exact h
 have hwriter:stays G o.op=false->qH o=none->∃G' side H',Good P G G'/\z6 P G' (S i).s H o.op=some (y i,H',side)/\side.getD True/\(∀x,kU G all x->x<i+1->D x∨x=i)/\(∀x,kU G all x->(D x∨x=i)->i+1<=x->C9 all x=true)/\a09 all b H0 S (λk=>D k∨k=i) (i+1) H':=by
  intro hs hna;obtain⟨G',H',side,hGG,hev,hh,hside⟩:=hst.writer hs hna;have hnb:xQ o=false:=by unfold xQ;rw[hna]
  have hbef:∀x,kU G all x->x<i->D x:=by
   intro x hx hxi;obtain⟨ox,hox,hsx⟩:=hx;have hpr:=t.pair i o x ox hi hox hxi;have hb:Nat.testBit (m i) x=true:=by
    unfold B7 at hpr;rw[hsx,hs,hnb] at hpr
    simpa using And.right (by simpa using hpr)
   exact hmask x hb
  have hei:=hei hs;have hRi:a09 all b H0 S D i H:=eY t hei (Nat.le_of_lt hilt) (λx h1 h2 hx=>⟨hbef x hx h2,hB x hx (hbef x hx h2) h1⟩) hR
  have hBi:∀x,kU G all x->D x->i<=x->C9 all x=true:=λx hx hd hix=>hB x hx hd (by omega)
  have h1:D6 H0 (S i).hist=HH H0 S i:=rfl;have h2:HH H0 S (i+1)=H':=by simp only[HH,hh,D6]
  rw[h1] at hev;have hA':∀x,kU G all x->x<i+1->D x∨x=i:=λx hx hlt=>by
   by_cases hxi:x=i
   ·exact .inr hxi
   ·exact .inl (hbef x hx (by omega))
  have hB':∀x,kU G all x->(D x∨x=i)->i+1<=x->C9 all x=true:=λx hx hor hix=>hBi x hx (hor.resolve_right (by omega)) (by omega)
  by_cases hlate:∃x,i<x/\C9 all x=true/\D x
  ·obtain⟨x,hix,hax,hDx⟩:=hlate;obtain⟨ox,tx,hox,htx⟩:=G3 hax;have hfl:floatB G o.op=true:=by
    have hpr:=t.pair x ox i o hox hi hix;have hb:Nat.testBit (m x) i=false:=by
     cases hb:Nat.testBit (m x) i with
     |false=>rfl
     |true=>exact absurd hDx (hlater x ox hox hix hb)
    unfold B7 at hpr;rw[hb,hs,(zX (G:=G) htx).1,hnb] at hpr;simp only[Bool.false_or,J6] at hpr;exact hpr.2.2.2
   have hfl':floatB G' o.op=true:=by unfold floatB at hfl ⊢;rw[hGG.grow];exact hfl
   obtain⟨os,e1,e2⟩:=b3B hfl' hev;refine⟨G',side,H++os,hGG,e2 H hRi.1 (lZ t hcl hBi hRi),hside,hA',hB',?_⟩
   rw[e1] at h2;obtain⟨r1,r2,r3⟩:=hRi;refine⟨by rw[h2,A3,A3,r1],λx' hx' ha' hD'=> ?_,λk hk=> ?_⟩
   ·have hDx':D x':=hD'.resolve_right (by omega)
    have:=r2 x' (by omega) ha' hDx'
    rw[←this];obtain⟨o',t',ho',ht'⟩:=G3 ha';obtain⟨H2,hev2,hh2⟩:=(t.step x' o' ho').al t' ht';obtain⟨z,_,_,_,hr,_,e3⟩:=rF hev2;have e4:HH H0 S (x'+1)=H2:=by simp only[HH,hh2,D6]
    rw[e4,e3,S8 hr,if_pos rfl] at this;have hlt:=K4 this;unfold Z1;rw[oX hlt]
   ·have:=r3 k λx' hx' ha' hDx'=>by
     by_cases hxi:x'=i
     ·exact absurd (hxi▸hDx') hni
     ·exact hk x' (by omega) ha' (.inl hDx')
    rw[h2];by_cases hkl:k<H.length
    ·have e5:Z1 (H++os) k=Z1 H k:=by unfold Z1;rw[oX hkl]
     have e6:Z1 (HH H0 S i++os) k=Z1 (HH H0 S i) k:=by unfold Z1;rw[oX (by rw[←r1];exact hkl)]
     rw[e5,e6,this]
    ·unfold Z1;rw[iA (by omega),iA (by rw[←r1];omega),r1]
  ·have hH:H=HH H0 S i:=a08 hRi.1 λk=>hRi.2.2 k λx hx ha hDx=>by
    by_cases hxi:x=i
    ·exact absurd (hxi▸hDx) hni
    ·exact absurd ⟨x,by omega,ha,hDx⟩ hlate
   refine⟨G',side,H',hGG,by rw[hH];exact hev,hside,hA',hB',by rw[h2],λx hx ha hD=> ?_,λk _=>by rw[h2]⟩
   exact absurd ⟨x,by omega,ha,hD.resolve_right (by omega)⟩ hlate
 have hPV:L8 (S i).s (p i)↔pN all y (p i):=t.pathV (Nat.le_of_lt hilt) λz hz=>t.path_lt i o hi z hz
 have run:pN all y (p i)->o.wp P a w K Q:=by
  intro hpv;have hph:=hPV.2 hpv;obtain⟨hop,hpk⟩:=a7J (E:=E) (w:=w) (a:=a) (λu hu=>(hused u (huse u hu)).1) hph hst.paths
  have hnx:∀{x:Nat},stays G o.op=true->kU G all x->x≠i:=λ{x} hs hx=>by
   rintro rfl;obtain⟨ox,hox,hsx⟩:=hx;rw[hi] at hox;simp only[X1] at hox;subst hox;rw[hs] at hsx;cases hsx
  have hL':∀{E':Env} {w':World},Step E w E' w'->∀x,C9 all x=true->¬D x->¬E'.L (kR b all x):=λ{E' w'} hs' x ha hnd hL=>by
   obtain⟨j,hj,hlt⟩:=hsen x ha;rcases hs'.nl _ hL with h1|h1
   ·exact hres x ha hnd h1
   ·have:=h1 j hj;omega
  have hS':∀{E':Env} {w':World},Stp E w E' w'->∀x,C9 all x=true->∃j,E'.L j/\kR b all x<j:=λhs' x ha=>by
   obtain⟨j,hj,hlt⟩:=hsen x ha;exact⟨j,hs'.le.L j hj,hlt⟩
  cases hs:stays G o.op with
  |true=>
   obtain⟨G',H',side,hGG,hev,rfl,hside⟩:=hreader hs;refine bF hGG.ok hGG.call hI hev (hside hph) hop hpk λv w' E' hI' hst' hrd=>hK _ _ ⟨(hput v).1,(hput v).2,E',e,_,hen,λx hx hlt=>.inl (hA x hx hlt),λx hx hd=>hB x hx (hd.resolve_right (hnx hs hx)),⟨hR.1,λx hx ha hd=>hR.2.1 x hx ha (hd.resolve_right (hnx hs (a2h ha))),λk hk=>hR.2.2 k λx hx ha hd=>hk x hx ha (.inl hd)⟩,hI',λx ha hnd=>hL' hst' x ha λhd=>hnd (.inl hd),hS' hst'.stp,uW t hi hsz hst'.stp ⟨λ_=>hrd,λhn=>absurd hpv hn⟩ hsl⟩
  |false=>
   cases hal:qH o with
   |none=>
    obtain⟨G',side,H',hGG,hev,hside,hA',hB',hR'⟩:=hwriter hs hal;exact bF hGG.ok hGG.call hI hev hside hop hpk λv w' E' hI' hst' hrd=>hK _ _ ⟨(hput v).1,(hput v).2,E',i+1,H',hilt,hA',hB',hR',hI',λx ha hnd=>hL' hst' x ha λhd=>hnd (.inl hd),hS' hst'.stp,uW t hi hsz hst'.stp ⟨λ_=>hrd,λhn=>absurd hpv hn⟩ hsl⟩
   |some t0=>
    obtain⟨H1,hev,hh⟩:=hst.al t0 hal;obtain⟨z,hz,hone,_,hrl,hy,e1⟩:=rF hev;have hai:C9 all i=true:=by rw[sD hi];unfold xQ;rw[hal]
    obtain⟨j,hj,hjl⟩:=hsen i hai;have hrH:kR b all i<H.length:=by have:=hI.heap.lt j hj;omega
    have hei:=hei hs;have e2:HH H0 S (i+1)=H1:=by simp only[HH,hh,D6]
    obtain⟨v,hv,hrl2,_⟩:=k6 (E:=E) (w:=w) hz;obtain⟨E',g1,g2,g3,g4⟩:=b9h (t:=t0) hI hrH (hres i hai hni) hone hrl2;obtain⟨_,_,hop0⟩:=zX (G:=G) hal;refine d9 (w':=_) (v:=_) ?_ (hK _ _ ⟨(hput _).1,(hput _).2,E',e,_,hen,λx hx hlt=>.inl (hA x hx hlt),λx hx hd hex=> ?_,⟨by rw[l9];exact hR.1,λx hx ha hd=> ?_,λk hk=> ?_⟩,g1,λx ha hnd hL=> ?_,hS' g2,uW t hi hsz g2 ⟨λ_=>by rw[hy];exact g3,λhn=>absurd hpv hn⟩ hsl⟩)
    ·simp only[execOp,hop0,Instr.alloc,newVar,newRow,I9,hv,run_newObj,J7,F8];rfl
    ·rcases hd with hd|rfl
     ·exact hB x hx hd hex
     ·exact hai
    ·by_cases hxi:x=i
     ·subst hxi;rw[S8 hrH,if_pos rfl,e2,e1,S8 hrl,if_pos rfl]
     ·rw[S8 hrH,if_neg (a86 ha hai hxi)];exact hR.2.1 x hx ha (hd.resolve_right hxi)
    ·have hkr:=hk i hei hai (.inr rfl);rw[S8 hrH,if_neg hkr];exact hR.2.2 k λx hx ha hd=>hk x hx ha (.inl hd)
    ·rcases g4 _ hL with h1|h1
     ·exact hres x ha (λhd=>hnd (.inl hd)) h1
     ·exact a86 ha hai (λhxi=>hnd (.inr hxi)) h1
 have skip:¬pN all y (p i)->stays G o.op=true->K (a.put o.dst undef) w:=by
  intro hn hs;have hnx:∀{x:Nat},kU G all x->x≠i:=λ{x} hx=>by
   rintro rfl;obtain⟨ox,hox,hsx⟩:=hx;rw[hi] at hox;simp only[X1] at hox;subst hox;rw[hs] at hsx;cases hsx
  exact hK _ _ ⟨(hput _).1,(hput _).2,E,e,H,hen,λx hx hlt=>.inl (hA x hx hlt),λx hx hd=>hB x hx (hd.resolve_right (hnx hx)),⟨hR.1,λx hx ha hd=>hR.2.1 x hx ha (hd.resolve_right (hnx (a2h ha))),λk hk=>hR.2.2 k λx hx ha hd=>hk x hx ha (.inl hd)⟩,hI,λx ha hnd=>hres x ha λhd=>hnd (.inl hd),hsen,uW t hi hsz (Step.refl E w).stp ⟨λhp=>absurd hp hn,λ_=>rfl⟩ hsl⟩
 unfold wpOp;simp only[hi];cases hg:o.guard with
 |none=>
  have hw:Region.wanted o (yielded all a.tmps)=true:=by simp[Region.wanted,hg]
  rw[if_pos hw];refine .inl (run ?_)
  rw[(hst.plain hg).1];exact λz hz=>by cases hz
 |some gw=>
  obtain⟨j,want⟩:=gw;obtain⟨g,x,hgd,hx,hji,hp,_,hs,_⟩:=hst.guarded j want hg;have hgu:g ∈ tN all o:=by
   unfold tN;rw[hg];simp only[hgd];exact List.mem_cons_self
  have hy:yielded all a.tmps j=match a.tmps[g]? with|some (.bool b)=>some b|_=>none:=by
   unfold yielded;rw[hgd];rfl
  by_cases hpg:L8 (S i).s (T6 (S i).ps g)
  ·have hv:=(hused g hgu).1 hpg;rw[hx] at hv;have hv':=B8 hv;have hgv:a.tmps[g]? =some (.bool x):=by
    rw[Array.getD_eq_getD_getElem?] at hv';cases hq:a.tmps[g]? with
    |none=>rw[hq] at hv';simp[undef] at hv'
    |some z=>rw[hq] at hv';simp at hv';rw[hv']
   have hyl:yielded all a.tmps j=some x:=by rw[hy,hgv]
   by_cases hxw:x=want
   ·have hw:Region.wanted o (yielded all a.tmps)=true:=by simp[Region.wanted,hg,hyl,hxw]
    rw[if_pos hw];refine .inl (run (hPV.1 ?_))
    rw[hp];intro q hq;rcases vN.1 hq with rfl|hq
    ·exact⟨x,hx,hxw⟩
    ·exact hpg q hq
   ·have hw:¬Region.wanted o (yielded all a.tmps)=true:=by simp[Region.wanted,hg,hyl,hxw]
    rw[if_neg hw];refine skip (λhpv=> ?_) hs
    have hph:=hPV.2 hpv;rw[hp] at hph;obtain⟨x',hx',he'⟩:=hph (g,want) (by simp)
    rw[hx] at hx';cases hx';exact hxw he'
  ·have hv':=(hused g hgu).2 hpg;have hyl:yielded all a.tmps j=none:=by
    rw[hy];rw[Array.getD_eq_getD_getElem?] at hv';cases hq:a.tmps[g]? with
    |none=>rfl
    |some z=>rw[hq] at hv';simp at hv';rw[hv'];rfl
   have hw:¬Region.wanted o (yielded all a.tmps)=true:=by simp[Region.wanted,hg,hyl]
   rw[if_neg hw];refine skip (λhpv=>hpg ?_) hs
   have hph:=hPV.2 hpv;rw[hp] at hph;exact λq hq=>hph q (by simp[hq])

end
end Go.SS
