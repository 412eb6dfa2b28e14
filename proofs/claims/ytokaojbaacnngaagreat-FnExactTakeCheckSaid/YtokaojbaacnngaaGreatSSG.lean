/- A calculus of symbolic states: a region, in whatever order: the step and the whole. -/
import Derived.Test.YtokaojbaacnngaaGreatSSF
namespace Go.SS
open Go.RowKit

theorem b0f{E:Env}{w:World}{s:W9}{ps:F9}{a:Act}{pth:K8}{op:Op}(h:∀u,Operand.tmp u ∈ op.operands.toList->N7 s (U4 ps u)->Rd E w (u6 s u) (a.tmps.getD u undef))(hp:N7 s pth)(hop:J1 ps pth op=true):
  (∀x ∈ S6 op,J5 E w a s x)/\∀c x y,op= .pick c x y->(∀b,P0 s c= .bool b->b=true->J5 E w a s x)/\(∀b,P0 s c= .bool b->b=false->J5 E w a s y):=by
 have tmp:∀{q:K8} {x:Operand},x ∈ op.operands.toList->N7 s q->lT ps q x=true->J5 E w a s x:=by
  intro q x hx hq ht;refine bG fun u hu=> ?_
  subst hu;exact h u hx (b73 ht hq)
 by_cases hpk:∃c x y,op= .pick c x y
 ·obtain⟨c,x,y,rfl⟩:=hpk;cases c with
  |tmp t=>
   simp only[J1,K5] at hop;obtain⟨⟨h1,h2⟩,h3⟩:=hop;refine⟨fun z hz=> ?_,fun c' x' y' he=> ?_⟩
   ·simp only[S6,List.mem_singleton] at hz;subst hz;exact tmp (by simp[Op.operands]) hp h1
   ·cases he;refine⟨fun b hb hbt=>tmp (by simp[Op.operands]) (fun q hq=> ?_) h2,fun b hb hbt=>tmp (by simp[Op.operands]) (fun q hq=> ?_) h3⟩
    ·rcases zJ.1 hq with rfl|hq
     ·exact⟨b,hb,hbt⟩
     ·exact hp q hq
    ·rcases zJ.1 hq with rfl|hq
     ·exact⟨b,hb,hbt⟩
     ·exact hp q hq
  |const=>simp[J1] at hop
  |global=>simp[J1] at hop
  |func=>simp[J1] at hop
 ·have hs:S6 op=op.operands.toList:=by
   cases op<;>first|rfl|exact absurd ⟨_,_,_,rfl⟩ hpk
  have hall:op.operands.toList.all (lT ps pth)=true:=by
   cases op<;>first|exact hop|exact absurd ⟨_,_,_,rfl⟩ hpk
  exact⟨fun x hx=>tmp (by rw[←hs];exact hx) hp (t5.1 hall x (by rw[←hs];exact hx)),fun c x y he=>absurd ⟨c,x,y,he⟩ hpk⟩

theorem uI{u:Nat}:∀{l:List Operand},Operand.tmp u ∈ l->u ∈ wT l:=by
 intro l;induction l with
 |nil=>intro h;cases h
 |cons x l ih=>
  intro h;cases x with
  |tmp t=>
   simp only[wT];rcases zJ.1 h with h|h
   ·cases h;simp
   ·exact List.mem_cons_of_mem _ (ih h)
  |_=>
   simp only[wT];rcases zJ.1 h with h|h
   ·cases h
   ·exact ih h

theorem a3R{u:Nat}{l:List Nat}(h:u ∈ l):a9s (some u) l=true:=by
 simp only[a9s,List.any_eq_true];exact⟨u,h,by simp⟩

def b7h(all:Array Oper)(s0:W9)(y:Nat->T)(p:Nat->K8)(D:Nat->Prop)(E:Env)(w:World)(a:Act)(u:Nat):Prop:=
 (∀j o,all[j]? =some o->o.dst=some u->D j->(pN all y (p j)->Rd E w (y j) (a.tmps.getD u undef))/\(¬pN all y (p j)->a.tmps.getD u undef=undef))/\
  ((∀j o,all[j]? =some o->o.dst=some u->¬D j)->Rd E w (u6 s0 u) (a.tmps.getD u undef))

def a30(all:Array Oper)(b:Nat)(H0:Y6)(S:Nat->St)(D:Nat->Prop)(e:Nat)(H:Y6):Prop:=
 H.length=(HH H0 S e).length/\(∀x,e<=x->E9 all x=true->D x->Z4 H (gY b all x)=Z4 (HH H0 S (x+1)) (gY b all x))/\
  ∀k,(∀x,e<=x->E9 all x=true->D x->k≠gY b all x)->Z4 H k=Z4 (HH H0 S e) k

def RD(c:Ctx)(G:K3)(all:Array Oper)(b:Nat)(H0:Y6)(s0:W9)(S:Nat->St)(y:Nat->T)(p:Nat->K8)(D:Nat->Prop)(a:Act)(w:World):Prop:=
 a.defers=[]/\a.tmps.size=c.nt/\∃E e H,e<=all.size/\(∀x,kG G all x->x<e->D x)/\(∀x,kG G all x->D x->e<=x->E9 all x=true)/\a30 all b H0 S D e H/\Inv c E H w/\
  (∀x,E9 all x=true->¬D x->¬E.L (gY b all x))/\(∀x,E9 all x=true->∃j,E.L j/\gY b all x<j)/\∀u,b7h all s0 y p D E w a u

theorem a1c{A B:Y6}(hl:A.length=B.length)(h:∀k,Z4 A k=Z4 B k):A=B:=by
 refine List.ext_getElem hl fun k h1 h2=> ?_
 have:=h k;unfold Z4 at this;rw[O1 h1,O1 h2] at this
 exact this

theorem b8o(l r:List Oper):i8 (l++r)=i8 l+i8 r:=by
 induction l with
 |nil=>simp[i8]
 |cons o l ih=>
  simp only[List.cons_append,i8,ih];split<;>omega

theorem I3{all:Array Oper}{x:Nat}(h:E9 all x=true):∃o t,all[x]? =some o/\qO o=some t:=by
 unfold E9 at h;split at h
 ·rename_i o ho;obtain⟨t,ht⟩:=nT h;exact⟨o,t,ho,ht⟩
 ·cases h

theorem oI{all:Array Oper}{x n:Nat}(h:E9 all x=true)(hn:x<n):i8 (all.toList.take x)<i8 (all.toList.take n):=by
 obtain⟨o,t,ho,ht⟩:=I3 h;obtain⟨hlt,hox⟩:=eE.1 ho
 have h1:all.toList.take n=all.toList.take x++(all.toList.take n).drop x:=by
  have:=(List.take_append_drop x (all.toList.take n)).symm;rw[List.take_take,Nat.min_eq_left (by omega)] at this
  exact this
 have h2:(all.toList.take n).drop x=o::(all.toList.take n).drop (x+1):=by
  have hl:x<(all.toList.take n).length:=by simp;omega
  rw[List.drop_eq_getElem_cons hl];simp[hox]
 rw[h1,b8o,h2];have:zG o=true:=by unfold zG;rw[ht]
 simp only[i8,this];omega

theorem c0b{all:Array Oper}{b x z:Nat}(h:E9 all x=true)(k:E9 all z=true)(hne:x≠z):gY b all x≠gY b all z:=by
 unfold gY;rcases Nat.lt_or_gt_of_ne hne with hl|hl
 ·have:=oI h hl;omega
 ·have:=oI k hl;omega

theorem a0o{G:K3}{o:Oper}(h:zG o=true):t3 G o.op=true:=by
 obtain⟨t,ht⟩:=nT h;rw[(l5 (G:=G) ht).2.2];rfl

section
variable {c:Ctx} {P:Program} {G:K3} {all:Array Oper} {b:Nat} {H0:Y6} {s0:W9} {S:Nat->St} {y:Nat->T} {p:Nat->K8} {m:Nat->Nat} {D:Nat->Prop}

theorem vU{E E':Env}{w w':World}{a:Act}{i:Nat}{o:Oper}(t:Trace P G c.nt all b H0 s0 S y p m)(hi:all[i]? =some o)(hsz:a.tmps.size=c.nt)(hst:Stp E w E' w'){v:Value}
  (hv:(pN all y (p i)->Rd E' w' (y i) v)/\(¬pN all y (p i)->v=undef)) (h:∀u,b7h all s0 y p D E w a u) (u:Nat):b7h all s0 y p (fun k=>D k∨k=i) E' w' (a.put o.dst v) u:=by
 have keep:(o.dst≠some u)->(a.put o.dst v).tmps.getD u undef=a.tmps.getD u undef:=by
  intro hne;cases hd:o.dst with
  |none=>rfl
  |some d=>
   have hdst:=(t.step i o hi).dst;rw[hd] at hdst;rw[wM a d v u (by rw[hsz];exact vS hdst),if_neg (by rintro rfl;exact hne hd)]
 have new:o.dst=some u->(a.put o.dst v).tmps.getD u undef=v:=by
  intro hd;have hdst:=(t.step i o hi).dst;rw[hd] at hdst ⊢;rw[wM a u v u (by rw[hsz];exact vS hdst),if_pos rfl]
 refine⟨fun j oj hj hd hDj=> ?_,fun hno=> ?_⟩
 ·by_cases hji:j=i
  ·subst hji;rw[hj] at hi;simp only[X6] at hi;subst hi;rw[new hd];exact hv
  ·have hne:o.dst≠some u:=fun he=>hji (t.distinct hj hi hd he)
   rw[keep hne];obtain⟨h1,h2⟩:=(h u).1 j oj hj hd (hDj.resolve_right hji);exact⟨fun hp=>hst.rd (h1 hp),h2⟩
 ·have hne:o.dst≠some u:=fun he=>hno i o hi he (.inr rfl)
  rw[keep hne];exact hst.rd ((h u).2 fun j oj hj hd hDj=>hno j oj hj hd (.inl hDj))

theorem a5D{x:Nat}(h:E9 all x=true):kG G all x:=by
 obtain⟨o,t,ho,ht⟩:=I3 h;exact⟨o,ho,(l5 ht).1⟩

theorem b3s(t:Trace P G c.nt all b H0 s0 S y p m){e:Nat}{H:Y6}(he:e<all.size)(hd:kG G all e->D e/\E9 all e=true)(h:a30 all b H0 S D e H):a30 all b H0 S D (e+1) H:=by
 obtain⟨h1,h2,h3⟩:=h;by_cases hm:kG G all e
 ·obtain⟨hDe,hal⟩:=hd hm;obtain⟨o,t0,ho,ht0⟩:=I3 hal;obtain⟨H',hev,hh⟩:=(t.step e o ho).al t0 ht0;obtain⟨z,_,_,_,hr,_,e1⟩:=sQ hev;have e2:HH H0 S (e+1)=H':=by simp only[HH,hh,F1]
  have e3:F1 H0 (S e).hist=HH H0 S e:=rfl;rw[e3] at e1 hr;refine⟨by rw[e2,e1,j_l];exact h1,fun x hx=>h2 x (by omega),fun k hk=> ?_⟩
  by_cases hkr:k=gY b all e
  ·rw[hkr];exact h2 e (V5 e) hal hDe
  ·rw[e2,e1,T9 hr,if_neg hkr];refine h3 k fun x hx ha hDx=> ?_
   by_cases hxe:x=e
   ·rw[hxe];exact hkr
   ·exact hk x (by omega) ha hDx
 ·have hs:=t.hist_same (a:=e) (e+1) (by omega) he (fun x q1 q2 hx=>hm (by rwa [show e=x by omega]))
  have e2:HH H0 S (e+1)=HH H0 S e:=by simp only[HH,hs]
  refine⟨by rw[e2];exact h1,fun x hx=>h2 x (by omega),fun k hk=> ?_⟩
  rw[e2];refine h3 k fun x hx ha hDx=> ?_
  by_cases hxe:x=e
  ·exact absurd (hxe▸a5D ha) hm
  ·exact hk x (by omega) ha hDx

theorem bW(t:Trace P G c.nt all b H0 s0 S y p m){e:Nat}{H:Y6}:∀{q:Nat},e<=q->q<=all.size->(∀x,e<=x->x<q->kG G all x->D x/\E9 all x=true)->a30 all b H0 S D e H->a30 all b H0 S D q H:=by
 intro q;induction q with
 |zero=>intro h _ _ hr;rw[Nat.le_zero.1 h] at hr;exact hr
 |succ q ih=>
  intro h hq hd hr;by_cases he:e=q+1
  ·rw[←he];exact hr
  ·exact b3s t (by omega) (hd q (by omega) (by omega)) (ih (by omega) (by omega) (fun x h1 h2=>hd x h1 (by omega)) hr)

theorem kK(t:Trace P G c.nt all b H0 s0 S y p m)(hcl:Cl all D){e:Nat}{H:Y6}(hB:∀x,kG G all x->D x->e<=x->E9 all x=true)(h:a30 all b H0 S D e H):J0 (HH H0 S e) H:=by
 intro k ob hk;by_cases hx:∃x,e<=x/\E9 all x=true/\D x/\k=gY b all x
 ·obtain⟨x,hex,ha,hDx,rfl⟩:=hx;obtain⟨o,t0,ho,ht0⟩:=I3 ha;obtain⟨H',hev,_⟩:=(t.step x o ho).al t0 ht0;obtain⟨_,_,_,hn,_⟩:=sQ hev;have hxs:=(eE.1 ho).1
  have hext:=t.hist_ext (a:=e) x hex (Nat.le_of_lt hxs) (fun j oj h1 h2 hoj hsj=>by
   have hMj:kG G all j:=⟨oj,hoj,hsj⟩;by_cases hDj:D j
   ·have:=hB j hMj hDj h1;rw[tM hoj] at this;exact a0o this
   ·have hpr:=t.pair x o j oj ho hoj h2;have hb:Nat.testBit (m x) j=false:=by
     cases hb:Nat.testBit (m x) j with
     |false=>rfl
     |true=>exact absurd (t.mask_done hcl x o ho (fun e he hb'=>hcl x o hDx ho e he hb') j hb) hDj
    unfold D2 at hpr;rw[hb,hsj,(l5 (G:=G) ht0).1] at hpr;simp only[Bool.false_or,K5,oU] at hpr;rcases hpr.2.2.2 with h3|h3
    ·exact a0o h3
    ·unfold floatB at h3;simp only[K5] at h3;exact h3.2)
  have:=hext _ ob hk;have hn':Z4 (HH H0 S x) (gY b all x)=none:=hn;rw[hn'] at this;cases this
 ·rw[h.2.2 k fun x h1 h2 h3 he=>hx ⟨x,h1,h2,h3,he⟩]
  exact hk

theorem c3q(t:Trace P G c.nt all b H0 s0 S y p m)(hG:H3 P G)(hGc:∀x ∈ G,Z7 P x.1)(hcl:Cl all D){i:Nat}{o:Oper}(hi:all[i]? =some o)(hni:¬D i)
  (hpre:∀e ∈ o.after.toList,Region.binds .any e=true->D e.on) {a:Act} {w:World} (hr:RD c G all b H0 s0 S y p D a w) {K:Act->World->Prop} {Q:Exit->Act->World->Prop}
  (hK:∀a' w',RD c G all b H0 s0 S y p (fun k=>D k∨k=i) a' w'->K a' w'):wpOp P all Q i K a w:=by
 obtain⟨hdef,hsz,E,e,H,hen,hA,hB,hR,hI,hres,hsen,hsl⟩:=hr;have hst:=t.step i o hi;have hilt:i<all.size:=(eE.1 hi).1
 have hput:∀(v:Value),(a.put o.dst v).defers=[]/\(a.put o.dst v).tmps.size=c.nt:=by
  intro v;cases o.dst with
  |none=>exact⟨hdef,hsz⟩
  |some d=>exact⟨hdef,by simp[Act.put,hsz]⟩
 have hmask:=t.mask_done hcl i o hi hpre;have hlater:∀j oj,all[j]? =some oj->i<j->Nat.testBit (m j) i=true->¬D j:=fun j oj hj hij hb hDj=>
  hni (t.mask_done hcl j oj hj (fun e he hb'=>hcl j oj hDj hj e he hb') i hb)
 have hused:∀u,u ∈ uJ all o->(N7 (S i).s (U4 (S i).ps u)->Rd E w (u6 (S i).s u) (a.tmps.getD u undef))/\(¬N7 (S i).s (U4 (S i).ps u)->a.tmps.getD u undef=undef):=by
  intro u hu;rcases oA all u i with⟨j,oj,hji,hj,hd⟩|hno
  ·have hpr:=t.pair i o j oj hi hj hji;have hb:Nat.testBit (m i) j=true:=by
    unfold D2 at hpr;rw[hd,a3R hu] at hpr
    simpa using And.right (by simpa using hpr)
   obtain⟨e1,e2⟩:=t.slot_some hj hd i hji (Nat.le_of_lt hilt);rw[e1,e2];have hpl:∀z ∈ p j,∃k o',k<i/\all[k]? =some o'/\o'.dst=some z.1:=fun z hz=>by
    obtain⟨k,o',hk,ho',hd'⟩:=t.path_lt j oj hj z hz;exact⟨k,o',by omega,ho',hd'⟩
   rw[t.pathV (Nat.le_of_lt hilt) hpl];exact(hsl u).1 j oj hj hd (hmask j hb)
  ·obtain⟨e1,e2⟩:=t.slot_none u i (Nat.le_of_lt hilt) hno;rw[e1,e2];refine⟨fun _=>(hsl u).2 fun j oj hj hd hDj=> ?_,fun hn=>absurd (fun q hq=>by cases hq) hn⟩
   rcases Nat.lt_trichotomy j i with h|h|h
   ·exact hno j oj h hj hd
   ·subst h;exact hni hDj
   ·have hpr:=t.pair j oj i o hj hi h;have hb:Nat.testBit (m j) i=true:=by
     unfold D2 at hpr;rw[hd,a3R hu] at hpr
     simpa using And.right (by simpa using hpr)
    exact hlater j oj hj h hb hDj
 have huse:∀u,Operand.tmp u ∈ o.op.operands.toList->u ∈ uJ all o:=by
  intro u hu;unfold uJ;split
  ·exact uI hu
  ·split
   ·exact List.mem_cons_of_mem _ (uI hu)
   ·exact uI hu
 have hxt:J0 (HH H0 S e) H:=kK t hcl hB hR;have hreader:stays G o.op=true->∃G' H' side,Good P G G'/\B7 P G' (S i).s H o.op=some (y i,H',side)/\H'=H/\(N7 (S i).s (p i)->side.getD True):=by
  intro hs;obtain⟨_,G',H',side,hGG,hev,hside⟩:=hst.reader hs;by_cases hpu:pureB o.op=true
  ·exact⟨G',_,side,hGG,b3E hpu hev,rfl,hside⟩
  have hpu:pureB o.op=false:=Bool.eq_false_iff.2 hpu;obtain⟨q,hq,he,hno,hor⟩:=t.hist_at (m i) i (Nat.le_of_lt hilt);rw[he] at hev;have hdone:∀x,x<q->kG G all x->D x:=by
   intro x hx hxm;obtain⟨ox,hox,hsx⟩:=hxm;rcases hor with rfl|⟨x0,rfl,⟨o0,ho0,hs0⟩,hal0,hb0⟩
   ·omega
   ·have hD0:=hmask x0 hb0;by_cases hxx:x=x0
    ·subst hxx;exact hD0
    ·have hpr:=t.pair x0 o0 x ox ho0 hox (by omega)
     have hb:Nat.testBit (m x0) x=true:=by
      unfold D2 at hpr;rw[tM ho0] at hal0;rw[hsx,hs0,hal0] at hpr
      simpa using And.right (by simpa using hpr)
     exact t.mask_done hcl x0 o0 ho0 (fun e he hb'=>hcl x0 o0 hD0 ho0 e he hb') x hb
  have hkey:∀x ox,q<=x->x<e->all[x]? =some ox->stays G ox.op=false->t3 G ox.op=true∨disjB (gS (S i).s o.op) (qY (HH H0 S x) (S x).s ox.op)=true:=by
   intro x ox h1 h2 hox hsx;have hDx:=hA x ⟨ox,hox,hsx⟩ h2;rcases Nat.lt_trichotomy x i with h|h|h
   ·rcases hno x h1 h ⟨ox,hox,hsx⟩ with hb|hal
    ·have hpr:=t.pair i o x ox hi hox h;unfold D2 uR at hpr;rw[hb,hsx,hs,hpu] at hpr;simp only[Bool.false_or,Bool.or_false,K5,oU] at hpr;exact hpr.2.2
    ·rw[tM hox] at hal;exact .inl (a0o hal)
   ·subst h;exact absurd hDx hni
   ·have hpr:=t.pair x ox i o hox hi h;unfold D2 uR at hpr;cases hb:Nat.testBit (m x) i with
    |true=>exact absurd hDx (hlater x ox hox h hb)
    |false=>
     rw[hb,hsx,hs,hpu] at hpr;simp only[Bool.false_or,Bool.or_false,K5,oU] at hpr;exact hpr.2.2
  have hback:e<=q->J0 (HH H0 S q) H:=fun heq=>
   kK t hcl (fun x hx hd hqx=>hB x hx hd (by omega)) (bW t heq (by omega) (fun x h1 h2 hx=>⟨hdone x h2 hx,hB x hx (hdone x h2 hx) h1⟩) hR)
  cases hrd:gS (S i).s o.op with
  |none=>
   have hext:J0 (HH H0 S q) H:=by
    rcases Nat.le_total q e with hqe|hqe
    ·refine(t.hist_ext e hqe hen fun x ox h1 h2 hox hsx=> ?_).trans hxt
     rcases hkey x ox h1 h2 hox hsx with h|h
     ·exact h
     ·rw[hrd] at h;cases h
    ·exact hback hqe
   exact⟨G',_,side,hGG,b7g hext (by rw[hGG.stays];exact hs) hev,rfl,hside⟩
  |some R=>
   have hext:fW R (HH H0 S q) H:=by
    rcases Nat.le_total q e with hqe|hqe
    ·have h0:fW R (HH H0 S q) (HH H0 S e):=t.hist_extOn e hqe hen fun x ox h1 h2 hox hsx=>by
      have:=hkey x ox h1 h2 hox hsx;rw[hrd] at this;exact this
     exact fun k hk ob hob=>hxt k ob (h0 k hk ob hob)
    ·exact fun k _ ob hob=>hback hqe k ob hob
   exact⟨G',_,side,hGG,b9W hrd (by rw[hGG.stays];exact hs) hext hev,rfl,hside⟩
 have hMi:stays G o.op=false->kG G all i:=fun hs=>⟨o,hi,hs⟩
 have hei:stays G o.op=false->e<=i:=fun hs=>by
  rcases Nat.lt_or_ge i e with h|h
  ·exact absurd (hA i (hMi hs) h) hni
  ·exact h
 have hwriter:stays G o.op=false->qO o=none->∃G' side H',Good P G G'/\B7 P G' (S i).s H o.op=some (y i,H',side)/\side.getD True/\(∀x,kG G all x->x<i+1->D x∨x=i)/\(∀x,kG G all x->(D x∨x=i)->i+1<=x->E9 all x=true)/\a30 all b H0 S (fun k=>D k∨k=i) (i+1) H':=by
  intro hs hna;obtain⟨G',H',side,hGG,hev,hh,hside⟩:=hst.writer hs hna;have hnb:zG o=false:=by unfold zG;rw[hna]
  have hbef:∀x,kG G all x->x<i->D x:=by
   intro x hx hxi;obtain⟨ox,hox,hsx⟩:=hx;have hpr:=t.pair i o x ox hi hox hxi;have hb:Nat.testBit (m i) x=true:=by
    unfold D2 at hpr;rw[hsx,hs,hnb] at hpr
    simpa using And.right (by simpa using hpr)
   exact hmask x hb
  have hei:=hei hs;have hRi:a30 all b H0 S D i H:=bW t hei (Nat.le_of_lt hilt) (fun x h1 h2 hx=>⟨hbef x hx h2,hB x hx (hbef x hx h2) h1⟩) hR
  have hBi:∀x,kG G all x->D x->i<=x->E9 all x=true:=fun x hx hd hix=>hB x hx hd (by omega)
  have h1:F1 H0 (S i).hist=HH H0 S i:=rfl;have h2:HH H0 S (i+1)=H':=by simp only[HH,hh,F1]
  rw[h1] at hev;have hA':∀x,kG G all x->x<i+1->D x∨x=i:=fun x hx hlt=>by
   by_cases hxi:x=i
   ·exact .inr hxi
   ·exact .inl (hbef x hx (by omega))
  have hB':∀x,kG G all x->(D x∨x=i)->i+1<=x->E9 all x=true:=fun x hx hor hix=>hBi x hx (hor.resolve_right (by omega)) (by omega)
  by_cases hlate:∃x,i<x/\E9 all x=true/\D x
  ·obtain⟨x,hix,hax,hDx⟩:=hlate;obtain⟨ox,tx,hox,htx⟩:=I3 hax;have hfl:floatB G o.op=true:=by
    have hpr:=t.pair x ox i o hox hi hix;have hb:Nat.testBit (m x) i=false:=by
     cases hb:Nat.testBit (m x) i with
     |false=>rfl
     |true=>exact absurd hDx (hlater x ox hox hix hb)
    unfold D2 at hpr;rw[hb,hs,(l5 (G:=G) htx).1,hnb] at hpr;simp only[Bool.false_or,K5] at hpr;exact hpr.2.2.2
   have hfl':floatB G' o.op=true:=by unfold floatB at hfl ⊢;rw[hGG.grow];exact hfl
   obtain⟨os,e1,e2⟩:=c0J hfl' hev;refine⟨G',side,H++os,hGG,e2 H hRi.1 (kK t hcl hBi hRi),hside,hA',hB',?_⟩
   rw[e1] at h2;obtain⟨r1,r2,r3⟩:=hRi;refine⟨by rw[h2,s7,s7,r1],fun x' hx' ha' hD'=> ?_,fun k hk=> ?_⟩
   ·have hDx':D x':=hD'.resolve_right (by omega)
    have:=r2 x' (by omega) ha' hDx'
    rw[←this];obtain⟨o',t',ho',ht'⟩:=I3 ha';obtain⟨H2,hev2,hh2⟩:=(t.step x' o' ho').al t' ht';obtain⟨z,_,_,_,hr,_,e3⟩:=sQ hev2;have e4:HH H0 S (x'+1)=H2:=by simp only[HH,hh2,F1]
    rw[e4,e3,T9 hr,if_pos rfl] at this;have hlt:=M2 this;unfold Z4;rw[kE hlt]
   ·have:=r3 k fun x' hx' ha' hDx'=>by
     by_cases hxi:x'=i
     ·exact absurd (hxi▸hDx') hni
     ·exact hk x' (by omega) ha' (.inl hDx')
    rw[h2];by_cases hkl:k<H.length
    ·have e5:Z4 (H++os) k=Z4 H k:=by unfold Z4;rw[kE hkl]
     have e6:Z4 (HH H0 S i++os) k=Z4 (HH H0 S i) k:=by unfold Z4;rw[kE (by rw[←r1];exact hkl)]
     rw[e5,e6,this]
    ·unfold Z4;rw[eT (by omega),eT (by rw[←r1];omega),r1]
  ·have hH:H=HH H0 S i:=a1c hRi.1 fun k=>hRi.2.2 k fun x hx ha hDx=>by
    by_cases hxi:x=i
    ·exact absurd (hxi▸hDx) hni
    ·exact absurd ⟨x,by omega,ha,hDx⟩ hlate
   refine⟨G',side,H',hGG,by rw[hH];exact hev,hside,hA',hB',by rw[h2],fun x hx ha hD=> ?_,fun k _=>by rw[h2]⟩
   exact absurd ⟨x,by omega,ha,hD.resolve_right (by omega)⟩ hlate
 have hPV:N7 (S i).s (p i)↔pN all y (p i):=t.pathV (Nat.le_of_lt hilt) fun z hz=>t.path_lt i o hi z hz
 have run:pN all y (p i)->o.wp P a w K Q:=by
  intro hpv;have hph:=hPV.2 hpv;obtain⟨hop,hpk⟩:=b0f (E:=E) (w:=w) (a:=a) (fun u hu=>(hused u (huse u hu)).1) hph hst.paths
  have hnx:∀{x:Nat},stays G o.op=true->kG G all x->x≠i:=fun{x} hs hx=>by
   rintro rfl;obtain⟨ox,hox,hsx⟩:=hx;rw[hi] at hox;simp only[X6] at hox;subst hox;rw[hs] at hsx;cases hsx
  have hL':∀{E':Env} {w':World},Step E w E' w'->∀x,E9 all x=true->¬D x->¬E'.L (gY b all x):=fun{E' w'} hs' x ha hnd hL=>by
   obtain⟨j,hj,hlt⟩:=hsen x ha;rcases hs'.nl _ hL with h1|h1
   ·exact hres x ha hnd h1
   ·have:=h1 j hj;omega
  have hS':∀{E':Env} {w':World},Stp E w E' w'->∀x,E9 all x=true->∃j,E'.L j/\gY b all x<j:=fun hs' x ha=>by
   obtain⟨j,hj,hlt⟩:=hsen x ha;exact⟨j,hs'.le.L j hj,hlt⟩
  cases hs:stays G o.op with
  |true=>
   obtain⟨G',H',side,hGG,hev,rfl,hside⟩:=hreader hs;refine a1k hGG.ok hGG.call hI hev (hside hph) hop hpk fun v w' E' hI' hst' hrd=>hK _ _ ⟨(hput v).1,(hput v).2,E',e,_,hen,fun x hx hlt=>.inl (hA x hx hlt),fun x hx hd=>hB x hx (hd.resolve_right (hnx hs hx)),⟨hR.1,fun x hx ha hd=>hR.2.1 x hx ha (hd.resolve_right (hnx hs (a5D ha))),fun k hk=>hR.2.2 k fun x hx ha hd=>hk x hx ha (.inl hd)⟩,hI',fun x ha hnd=>hL' hst' x ha fun hd=>hnd (.inl hd),hS' hst'.stp,vU t hi hsz hst'.stp ⟨fun _=>hrd,fun hn=>absurd hpv hn⟩ hsl⟩
  |false=>
   cases hal:qO o with
   |none=>
    obtain⟨G',side,H',hGG,hev,hside,hA',hB',hR'⟩:=hwriter hs hal;exact a1k hGG.ok hGG.call hI hev hside hop hpk fun v w' E' hI' hst' hrd=>hK _ _ ⟨(hput v).1,(hput v).2,E',i+1,H',hilt,hA',hB',hR',hI',fun x ha hnd=>hL' hst' x ha fun hd=>hnd (.inl hd),hS' hst'.stp,vU t hi hsz hst'.stp ⟨fun _=>hrd,fun hn=>absurd hpv hn⟩ hsl⟩
   |some t0=>
    obtain⟨H1,hev,hh⟩:=hst.al t0 hal;obtain⟨z,hz,hone,_,hrl,hy,e1⟩:=sQ hev;have hai:E9 all i=true:=by rw[tM hi];unfold zG;rw[hal]
    obtain⟨j,hj,hjl⟩:=hsen i hai;have hrH:gY b all i<H.length:=by have:=hI.heap.lt j hj;omega
    have hei:=hei hs;have e2:HH H0 S (i+1)=H1:=by simp only[HH,hh,F1]
    obtain⟨v,hv,hrl2,_⟩:=r5 (E:=E) (w:=w) hz;obtain⟨E',g1,g2,g3,g4⟩:=c7p (t:=t0) hI hrH (hres i hai hni) hone hrl2;obtain⟨_,_,hop0⟩:=l5 (G:=G) hal;refine k8 (w':=_) (v:=_) ?_ (hK _ _ ⟨(hput _).1,(hput _).2,E',e,_,hen,fun x hx hlt=>.inl (hA x hx hlt),fun x hx hd hex=> ?_,⟨by rw[j_l];exact hR.1,fun x hx ha hd=> ?_,fun k hk=> ?_⟩,g1,fun x ha hnd hL=> ?_,hS' g2,vU t hi hsz g2 ⟨fun _=>by rw[hy];exact g3,fun hn=>absurd hpv hn⟩ hsl⟩)
    ·simp only[execOp,hop0,Instr.alloc,newVar,newRow,L1,hv,run_newObj,L7,I1];rfl
    ·rcases hd with hd|rfl
     ·exact hB x hx hd hex
     ·exact hai
    ·by_cases hxi:x=i
     ·subst hxi;rw[T9 hrH,if_pos rfl,e2,e1,T9 hrl,if_pos rfl]
     ·rw[T9 hrH,if_neg (c0b ha hai hxi)];exact hR.2.1 x hx ha (hd.resolve_right hxi)
    ·have hkr:=hk i hei hai (.inr rfl);rw[T9 hrH,if_neg hkr];exact hR.2.2 k fun x hx ha hd=>hk x hx ha (.inl hd)
    ·rcases g4 _ hL with h1|h1
     ·exact hres x ha (fun hd=>hnd (.inl hd)) h1
     ·exact c0b ha hai (fun hxi=>hnd (.inr hxi)) h1
 have skip:¬pN all y (p i)->stays G o.op=true->K (a.put o.dst undef) w:=by
  intro hn hs;have hnx:∀{x:Nat},kG G all x->x≠i:=fun{x} hx=>by
   rintro rfl;obtain⟨ox,hox,hsx⟩:=hx;rw[hi] at hox;simp only[X6] at hox;subst hox;rw[hs] at hsx;cases hsx
  exact hK _ _ ⟨(hput _).1,(hput _).2,E,e,H,hen,fun x hx hlt=>.inl (hA x hx hlt),fun x hx hd=>hB x hx (hd.resolve_right (hnx hx)),⟨hR.1,fun x hx ha hd=>hR.2.1 x hx ha (hd.resolve_right (hnx (a5D ha))),fun k hk=>hR.2.2 k fun x hx ha hd=>hk x hx ha (.inl hd)⟩,hI,fun x ha hnd=>hres x ha fun hd=>hnd (.inl hd),hsen,vU t hi hsz (Step.refl E w).stp ⟨fun hp=>absurd hp hn,fun _=>rfl⟩ hsl⟩
 unfold wpOp;simp only[hi];cases hg:o.guard with
 |none=>
  have hw:Region.wanted o (yielded all a.tmps)=true:=by simp[Region.wanted,hg]
  rw[if_pos hw];refine .inl (run ?_)
  rw[(hst.plain hg).1];exact fun z hz=>by cases hz
 |some gw=>
  obtain⟨j,want⟩:=gw;obtain⟨g,x,hgd,hx,hji,hp,_,hs,_⟩:=hst.guarded j want hg;have hgu:g ∈ uJ all o:=by
   unfold uJ;rw[hg];simp only[hgd];exact List.mem_cons_self
  have hy:yielded all a.tmps j=match a.tmps[g]? with|some (.bool b)=>some b|_=>none:=by
   unfold yielded;rw[hgd];rfl
  by_cases hpg:N7 (S i).s (U4 (S i).ps g)
  ·have hv:=(hused g hgu).1 hpg;rw[hx] at hv;have hv':=D4 hv;have hgv:a.tmps[g]? =some (.bool x):=by
    rw[Array.getD_eq_getD_getElem?] at hv';cases hq:a.tmps[g]? with
    |none=>rw[hq] at hv';simp[undef] at hv'
    |some z=>rw[hq] at hv';simp at hv';rw[hv']
   have hyl:yielded all a.tmps j=some x:=by rw[hy,hgv]
   by_cases hxw:x=want
   ·have hw:Region.wanted o (yielded all a.tmps)=true:=by simp[Region.wanted,hg,hyl,hxw]
    rw[if_pos hw];refine .inl (run (hPV.1 ?_))
    rw[hp];intro q hq;rcases zJ.1 hq with rfl|hq
    ·exact⟨x,hx,hxw⟩
    ·exact hpg q hq
   ·have hw:¬Region.wanted o (yielded all a.tmps)=true:=by simp[Region.wanted,hg,hyl,hxw]
    rw[if_neg hw];refine skip (fun hpv=> ?_) hs
    have hph:=hPV.2 hpv;rw[hp] at hph;obtain⟨x',hx',he'⟩:=hph (g,want) (by simp)
    rw[hx] at hx';cases hx';exact hxw he'
  ·have hv':=(hused g hgu).2 hpg;have hyl:yielded all a.tmps j=none:=by
    rw[hy];rw[Array.getD_eq_getD_getElem?] at hv';cases hq:a.tmps[g]? with
    |none=>rfl
    |some z=>rw[hq] at hv';simp at hv';rw[hv'];rfl
   have hw:¬Region.wanted o (yielded all a.tmps)=true:=by simp[Region.wanted,hg,hyl]
   rw[if_neg hw];refine skip (fun hpv=>hpg ?_) hs
   have hph:=hPV.2 hpv;rw[hp] at hph;exact fun q hq=>hph q (by simp[hq])

end
end Go.SS
