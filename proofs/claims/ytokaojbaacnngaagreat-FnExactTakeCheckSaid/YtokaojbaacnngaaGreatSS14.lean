/- A calculus of symbolic states: a region, in the order of the text. -/
import Derived.Test.YtokaojbaacnngaaGreatSS13
namespace Go.SS
open Go.RowKit

def N7(s:W9)(p:K8):Prop:=∀q,q ∈ p->∃x,u6 s q.1= .bool x/\x=q.2

structure SlotsOk(E:Env)(w:World)(s:W9)(ps:F9)(a:Act):Prop where
 on:∀i,N7 s (U4 ps i)->Rd E w (u6 s i) (a.tmps.getD i undef)
 off:∀i,¬N7 s (U4 ps i)->a.tmps.getD i undef=undef

structure RealE(c:Ctx)(E:Env)(s:W9)(ps:F9)(H:Y6)(a:Act)(w:World):Prop where
 defers:a.defers=[]
 size:a.tmps.size=c.nt
 slots:SlotsOk E w s ps a
 inv:Inv c E H w

def hJ(c:Ctx)(s:W9)(H:Y6)(a:Act)(w:World):Prop:=∃E,RealE c E s [] H a w

theorem yM(s:W9)(d:Nat)(t:T)(i:Nat):u6 (zC s (some d) t) i=if i=d then t else u6 s i:=by
 simp only[zC,u6];split
 ·rename_i h;rw[if_pos (K1 h)]
 ·rename_i h;rw[if_neg (Nat.ne_of_beq_eq_false h)]

theorem lZ(ps:F9)(i:Nat):U4 ps i=[]∨(i,U4 ps i) ∈ ps:=by
 induction ps with
 |nil=>exact .inl rfl
 |cons x ps ih=>
  obtain⟨j,p⟩:=x;simp only[U4];split
  ·rename_i h;obtain rfl:=K1 h;exact .inr (by simp)
  ·rcases ih with ih|ih
   ·exact .inl ih
   ·exact .inr (by simp[ih])

theorem lJ{ps:F9}{d:Nat}(h:mH ps d=true):U4 ps d=[]/\∀i,∀q ∈ U4 ps i,q.1≠d:=by
 unfold mH at h;have h':=t5.1 h;constructor
 ·rcases lZ ps d with h1|h1
  ·exact h1
  ·have:=h' _ h1;simp at this
 ·intro i q hq;rcases lZ ps i with h1|h1
  ·rw[h1] at hq;cases hq
  ·have:=h' _ h1;simp only[K5] at this;have:=t5.1 this.2 q hq;intro e;rw[e] at this;simp at this

theorem m8{s:W9}{d:Nat}{t:T}{p:K8}(h:∀q ∈ p,q.1≠d):N7 (zC s (some d) t) p↔N7 s p:=by
 unfold N7;constructor
 ·intro hp q hq;have:=hp q hq
  rwa [yM,if_neg (h q hq)] at this
 ·intro hp q hq;have:=hp q hq
  rwa [yM,if_neg (h q hq)]

theorem wM(a:Act)(d:Nat)(v:Value)(i:Nat)(hd:d<a.tmps.size):(a.put (some d) v).tmps.getD i undef=if i=d then v else a.tmps.getD i undef:=by
 simp only[Act.put,Array.getD_eq_getD_getElem?,Array.getElem?_setIfInBounds]
 by_cases h:d=i
 ·subst h;simp[hd]
 ·rw[if_neg h,if_neg (fun e=>h e.symm)]

section
variable {c:Ctx} {E E':Env} {H H':Y6} {w w':World} {P:Program} {G:K3} {s:W9} {ps:F9} {a:Act}

theorem SlotsOk.step(h:SlotsOk E w s ps a)(hs:Step E w E' w'):SlotsOk E' w' s ps a:=⟨fun i hi=>hs.rd (h.on i hi),h.off⟩

theorem SlotsOk.put(h:SlotsOk E w s ps a){d:Nat}(hf:mH ps d=true)(hd:d<a.tmps.size){t:T}{v:Value}(hr:Rd E w t v):SlotsOk E w (zC s (some d) t) ps (a.put (some d) v):=by
 obtain⟨h1,h2⟩:=lJ hf;refine⟨fun i hi=> ?_,fun i hi=> ?_⟩
 ·rw[wM a d v i hd,yM];by_cases he:i=d
  ·rw[if_pos he,if_pos he];exact hr
  ·rw[if_neg he,if_neg he];exact h.on i ((m8 (h2 i)).1 hi)
 ·rw[wM a d v i hd];by_cases he:i=d
  ·subst he;rw[h1] at hi;exact absurd (fun q hq=>by cases hq) hi
  ·rw[if_neg he];exact h.off i (fun hp=>hi ((m8 (h2 i)).2 hp))

theorem SlotsOk.putG(h:SlotsOk E w s ps a){d:Nat}(hf:mH ps d=true)(hd:d<a.tmps.size){p:K8}(hp:∀q ∈ p,q.1≠d){t:T}{v:Value}(hr:N7 s p->Rd E w t v)(hu:¬N7 s p->v=undef):
  SlotsOk E w (zC s (some d) t) ((d,p)::ps) (a.put (some d) v):=by
 obtain⟨h1,h2⟩:=lJ hf;have hpo:∀i,U4 ((d,p)::ps) i=if i=d then p else U4 ps i:=by
  intro i;simp only[U4];split
  ·rename_i hb;rw[if_pos (K1 hb)]
  ·rename_i hb;rw[if_neg (Nat.ne_of_beq_eq_false hb)]
 refine⟨fun i hi=> ?_,fun i hi=> ?_⟩
 ·rw[hpo] at hi;rw[wM a d v i hd,yM];by_cases he:i=d
  ·rw[if_pos he] at hi;rw[if_pos he,if_pos he];exact hr ((m8 hp).1 hi)
  ·rw[if_neg he] at hi;rw[if_neg he,if_neg he];exact h.on i ((m8 (h2 i)).1 hi)
 ·rw[hpo] at hi;rw[wM a d v i hd];by_cases he:i=d
  ·rw[if_pos he] at hi;rw[if_pos he];exact hu (fun hp'=>hi ((m8 hp).2 hp'))
  ·rw[if_neg he] at hi;rw[if_neg he];exact h.off i (fun hp=>hi ((m8 (h2 i)).2 hp))

theorem gA:∀{p q:K8},uM p q=true->p=q:=by
 intro p;induction p with
 |nil=>intro q h;cases q with|nil=>rfl|cons=>simp[uM] at h
 |cons x p ih=>
  intro q h;cases q with
  |nil=>simp[uM] at h
  |cons y q=>
   obtain⟨a,b⟩:=x;obtain⟨c,d⟩:=y;simp only[uM,K5] at h;obtain⟨⟨h1,h2⟩,h3⟩:=h;obtain rfl:=K1 h1;obtain rfl:=eq_of_beq h2;rw[ih h3]

theorem b73{p:K8}:∀{q:K8},sufB p q=true->N7 s q->N7 s p:=by
 intro q;induction q with
 |nil=>intro h hq;rw[gA h];exact hq
 |cons x q ih=>
  intro h hq;simp only[sufB,oU] at h;rcases h with h|h
  ·rw[gA h];exact hq
  ·exact ih h (fun y hy=>hq y (by simp[hy]))

theorem tD(h:SlotsOk E w s ps a){pth:K8}(hp:N7 s pth){x:Operand}(hx:lT ps pth x=true):J5 E w a s x:=
 bG fun t ht=>by
  subst ht;exact h.on t (b73 hx hp)

theorem sW(h:SlotsOk E w s ps a){pth:K8}(hp:N7 s pth){op:Op}(hop:J1 ps pth op=true):
  (∀x ∈ S6 op,J5 E w a s x)/\∀c x y,op= .pick c x y->(∀b,P0 s c= .bool b->b=true->J5 E w a s x)/\(∀b,P0 s c= .bool b->b=false->J5 E w a s y):=by
 by_cases hpk:∃c x y,op= .pick c x y
 ·obtain⟨c,x,y,rfl⟩:=hpk;cases c with
  |tmp t=>
   simp only[J1,K5] at hop;obtain⟨⟨h1,h2⟩,h3⟩:=hop;refine⟨fun z hz=> ?_,fun c' x' y' he=> ?_⟩
   ·simp only[S6,List.mem_singleton] at hz;subst hz;exact tD h hp h1
   ·cases he;refine⟨fun b hb hbt=>tD h (fun q hq=> ?_) h2,fun b hb hbt=>tD h (fun q hq=> ?_) h3⟩
    ·rcases zJ.1 hq with rfl|hq
     ·exact⟨b,hb,hbt⟩
     ·exact hp q hq
    ·rcases zJ.1 hq with rfl|hq
     ·exact⟨b,hb,hbt⟩
     ·exact hp q hq
  |const=>simp[J1] at hop
  |global=>simp[J1] at hop
  |func=>simp[J1] at hop
 ·have hs:S6 op=op.operands.toList:=by
   cases op<;>first|rfl|exact absurd ⟨_,_,_,rfl⟩ hpk
  have hall:op.operands.toList.all (lT ps pth)=true:=by
   cases op<;>first|exact hop|exact absurd ⟨_,_,_,rfl⟩ hpk
  refine⟨fun x hx=>tD h hp (t5.1 hall x (by rw[←hs];exact hx)),fun c x y he=>absurd ⟨c,x,y,he⟩ hpk⟩

theorem pI:∀{p:K8} {q:Prop},I9 s p q->N7 s p->q:=by
 intro p;induction p with
 |nil=>intro q h _;exact h
 |cons x p ih=>
  intro q h hp;obtain⟨t,b⟩:=x;simp only[I9] at h;split at h
  ·rename_i y hy;have:=ih h (fun z hz=>hp z (by simp[hz]))
   obtain⟨x',hx',he⟩:=hp (t,b) (by simp)
   rw[hy] at hx';cases hx';exact this he
  ·exact h.elim

theorem a1Y:∀{p:K8} {q:Prop},xG s p=true->(N7 s p->q)->I9 s p q:=by
 intro p;induction p with
 |nil=>intro q _ h;exact h (fun z hz=>by cases hz)
 |cons x p ih=>
  intro q hb h;obtain⟨t,b⟩:=x;simp only[xG] at hb;simp only[I9];split at hb
  ·rename_i y hy;refine ih hb fun hp he=>h fun z hz=> ?_
   rcases zJ.1 hz with rfl|hz
   ·exact⟨y,hy,he⟩
   ·exact hp z hz
  ·cases hb

theorem a0h{p:K8}(hb:xG s p=true)(h:¬N7 s p):I9 s p False:=a1Y hb fun hp=>h hp

theorem wF{p:K8}{side:Option Prop}{q:Prop}(h:nV s p side q):(N7 s p->side.getD True)/\q:=by
 cases side with
 |none=>exact⟨fun _=>trivial,h⟩
 |some r=>exact⟨fun hp=>pI h.1 hp,h.2⟩

theorem a1w(s:W9)(ps:F9)(i:Nat):u6 (R0 s ps) i= .und∨(u6 (R0 s ps) i=u6 s i/\U4 ps i=[]):=by
 induction ps with
 |nil=>exact .inr ⟨rfl,rfl⟩
 |cons x ps ih=>
  obtain⟨d,p⟩:=x;simp only[R0,u6,U4];split
  ·exact .inl rfl
  ·exact ih

theorem SlotsOk.ends(h:SlotsOk E w s ps a):SlotsOk E w (R0 s ps) [] a:=by
 refine⟨fun i _=> ?_,fun i hi=>absurd (fun q hq=>by cases hq) hi⟩
 rcases a1w s ps i with he|⟨he,hp⟩
 ·rw[he];exact .und _
 ·rw[he];exact h.on i (by rw[hp];exact fun q hq=>by cases hq)

theorem b4B{op:Op}{y:T}{side:Option Prop}(he:O6 P G s H op=some (y,H',side))(hst:B0 G op=true):H'=H:=by
 unfold O6 at he;split at he
 ·simp only[X6,V1] at he;exact he.2.1.symm
 ·split at he
  ·rename_i r hm;simp only[X6] at he;subst he;unfold G5 at hm;split at hm
   all_goals first|(simp[B0] at hst;done)|skip
   ·split at hm
    ·split at hm
     ·simp only[X6,V1] at hm;exact hm.2.1.symm
     ·cases hm
    ·cases hm
   ·cases hm
  ·split at he
   ·rename_i x args at_;split at he
    ·rename_i hie;simp[B0,hie] at hst
    ·split at he
     ·simp only[L8,V1] at he;obtain⟨r,_,_,he,_⟩:=he;exact he.symm
     ·cases he
   ·cases he

theorem b6G{op:Op}{y:T}{side:Option Prop}(he:B7 P G s H op=some (y,H',side))(hst:stays G op=true):H'=H:=by
 unfold B7 at he;unfold stays at hst;split at he
 ·split at he
  ·simp only[X6,V1] at he;exact he.2.1.symm
  ·cases he
 ·rename_i ht;rw[ht] at hst;exact b4B he hst

theorem b4s{E:Env}{w:World}{a:Act}{s:W9}{o:Oper}{n:Nat}{neg:Bool}(h:a7P P s o.op=some (n,neg))(hop:∀x ∈ S6 o.op,J5 E w a s x):
  ∃b,c6t b n/\(execOp a.eval o).run P w= .ok (.value (.bool (cond neg (!b) b))) w:=by
 obtain⟨dst,op,ty,pos,after,guard⟩:=o;simp only at h hop;unfold a7P at h;split at h
 case h_2=>cases h
 rename_i bop t x y rt;have hx:=hop x (by simp[S6,Op.operands])
 have hy:=hop y (by simp[S6,Op.operands])
 unfold J5 at hx hy;have fin:∀{e:TypeId} {ad:Option Addr} {m cap:Nat},P.underlying t=some (.slice e)->a.eval x= .slice ad m cap->a.eval y= .slice none 0 0->(ad=none->m=0)->m=n->(bop= .eql/\neg=false)∨(bop= .neq/\neg=true)->
   ∃b,c6t b n/\(execOp a.eval ⟨dst,.binOp bop t x y rt,ty,pos,after,guard⟩).run P w= .ok (.value (.bool (cond neg (!b) b))) w:=by
  intro e ad m cap hu h1 h2 h3 h4 h5;refine⟨ad.isNone,fun hb=>by rw[←h4];exact h3 (by simpa using hb),?_⟩
  rcases h5 with⟨rfl,rfl⟩|⟨rfl,rfl⟩
  ·simp only[execOp,h1,h2,eqGuard_at_slice,binOp];simp[run_equal_slice_nil w t e ad m cap hu]
  ·simp only[execOp,h1,h2,eqGuard_at_slice,binOp];simp[run_equal_slice_nil w t e ad m cap hu]
 have key:∀{x:T} {v:Value} {n:Nat},((∃sz row,x= .sl sz n row)∨∃k off,x= .osl k off n)->Rd E w x v->∃ad cap,v= .slice ad n cap/\(ad=none->n=0):=by
  intro x v n hx hr;rcases hx with⟨sz,row,rfl⟩|⟨k,off,rfl⟩
  ·cases hr with
   |slNil=>exact⟨none,0,rfl,fun _=>rfl⟩
   |slEmp _ _ a=>exact⟨some a,0,rfl,fun _=>rfl⟩
   |sl _ _ _ b off cap=>exact⟨_,cap,rfl,fun h=>by cases h⟩
  ·cases hr with
   |osl _ _ _ o ad hL hn ho ha=>
    refine⟨ad,_,rfl,fun h=> ?_⟩
    by_cases hκ:E.κ k=0
    ·omega
    ·rw[ha hκ] at h;cases h
 split at h
 ·rename_i e sz n' row hu hsx hsy;simp only[X6,V1] at h;obtain⟨rfl,rfl⟩:=h;rw[hsx] at hx;rw[hsy] at hy;obtain⟨ad,cap,h1,h2⟩:=key (.inl ⟨_,_,rfl⟩) hx;exact fin hu h1 (yL hy) h2 rfl (.inl ⟨rfl,rfl⟩)
 ·rename_i e sz n' row hu hsx hsy;simp only[X6,V1] at h;obtain⟨rfl,rfl⟩:=h;rw[hsx] at hx;rw[hsy] at hy;obtain⟨ad,cap,h1,h2⟩:=key (.inl ⟨_,_,rfl⟩) hx;exact fin hu h1 (yL hy) h2 rfl (.inr ⟨rfl,rfl⟩)
 ·rename_i e k off n' hu hsx hsy;simp only[X6,V1] at h;obtain⟨rfl,rfl⟩:=h;rw[hsx] at hx;rw[hsy] at hy;obtain⟨ad,cap,h1,h2⟩:=key (.inr ⟨_,_,rfl⟩) hx;exact fin hu h1 (yL hy) h2 rfl (.inl ⟨rfl,rfl⟩)
 ·rename_i e k off n' hu hsx hsy;simp only[X6,V1] at h;obtain⟨rfl,rfl⟩:=h;rw[hsx] at hx;rw[hsy] at hy;obtain⟨ad,cap,h1,h2⟩:=key (.inr ⟨_,_,rfl⟩) hx;exact fin hu h1 (yL hy) h2 rfl (.inr ⟨rfl,rfl⟩)
 ·cases h

theorem b6S(hG:H3 P G)(hGc:∀x ∈ G,Z7 P x.1){all:Array Oper}{Q:Exit->Act->World->Prop}{K:W9->Y6->Prop}(hK:∀s' H' a' w',K s' H'->hJ c s' H' a' w'->Q .normal a' w'):
  ∀(rest:List Oper) (s:W9) (ps:F9) (H:Y6) (E:Env) (a:Act) (w:World),zI P G c.nt all rest s ps H K->RealE c E s ps H a w->wpList P all Q rest a w:=by
 intro rest;induction rest with
 |nil=>
  intro s ps H E a w h hr;exact hK _ _ _ _ h ⟨E,hr.defers,hr.size,hr.slots.ends,hr.inv⟩
 |cons o rest ih=>
  intro s ps H E a w h hr;have hput:∀(d:Option Tmp) (v:Value),(a.put d v).defers=[]/\(a.put d v).tmps.size=c.nt:=by
   intro d v;cases d with
   |none=>exact⟨hr.defers,hr.size⟩
   |some d=>exact⟨hr.defers,by simp[Act.put,hr.size]⟩
  unfold zI at h;split at h
  ·rename_i hg;split at h
   ·exact h.elim
   ·rename_i hchk;simp only[K5] at hchk;obtain⟨⟨hpo,hfr⟩,hdst⟩:=hchk;split at h
    ·rename_i n neg hnc;have hnil:N7 s []:=fun q hq=>by cases hq
     obtain⟨hop,hpk⟩:=sW hr.slots hnil hpo;obtain⟨b,hb,hrun⟩:=b4s (P:=P) (E:=E) (w:=w) (a:=a) hnc hop;refine wpList_plain hg fun KK hKK=>k8 hrun (hKK _ _ (ih _ _ _ E _ _ (h b hb) ⟨(hput _ _).1,(hput _ _).2,?_,hr.inv⟩))
     cases hd:o.dst with
     |none=>exact hr.slots
     |some d=>
      rw[hd] at hfr hdst;exact hr.slots.put hfr (by rw[hr.size];exact vS hdst) (.bool _)
    obtain⟨G',hGG,h⟩:=vR hG hGc h;split at h
    ·rename_i t H' side he;obtain⟨hs,hrest⟩:=wF h;have hnil:N7 s []:=fun q hq=>by cases hq
     obtain⟨hop,hpk⟩:=sW hr.slots hnil hpo;refine wpList_plain hg fun KK hKK=> ?_
     refine a1k hGG.ok hGG.call hr.inv he (hs hnil) hop hpk fun v w' E' hI hst hrd=> ?_
     refine hKK _ _ (ih _ _ _ E' _ _ hrest ⟨(hput _ _).1,(hput _ _).2,?_,hI⟩)
     cases hd:o.dst with
     |none=>exact hr.slots.step hst
     |some d=>
      rw[hd] at hfr hdst;exact(hr.slots.step hst).put hfr (by rw[hr.size];exact vS hdst) hrd
    ·exact h.elim
  ·rename_i j want hg;split at h
   ·rename_i g hgd;split at h
    ·rename_i x hx;split at h
     ·exact h.elim
     ·rename_i hchk;simp only[K5] at hchk;obtain⟨⟨⟨hpo,hfr⟩,hdst⟩,hgk⟩:=hchk;obtain⟨d,hd⟩:∃d,o.dst=some d:=by
       cases hd:o.dst with
       |none=>rw[hd] at hgk;simp[tQ] at hgk
       |some d=>exact⟨d,rfl⟩
      have hfr':=hfr;have hdst':=hdst;have hgk':=hgk;rw[hd] at hfr' hdst' hgk';have hdlt:d<a.tmps.size:=by rw[hr.size];exact vS hdst'
      have hpath:∀q ∈ ((g,want)::U4 ps g),q.1≠d:=by
       intro q hq;simp only[tQ,K5] at hgk';rcases zJ.1 hq with rfl|hq
       ·intro e;have:=hgk'.1;simp only at e;rw[e] at this;simp at this
       ·intro e;have:=t5.1 hgk'.2 q hq;rw[e] at this;simp at this
      have hy:yielded all a.tmps j=match a.tmps[g]? with|some (.bool b)=>some b|_=>none:=by
       unfold yielded;rw[hgd];rfl
      have core:(N7 s ((g,want)::U4 ps g)->o.wp P a w (wpList P all Q rest) Q)->(¬N7 s ((g,want)::U4 ps g)->wpList P all Q rest (a.put o.dst undef) w)->wpList P all Q (o::rest) a w:=by
       intro hT skip;unfold wpList;by_cases hpg:N7 s (U4 ps g)
       ·have hv:=hr.slots.on g hpg;rw[hx] at hv;have hv':=D4 hv;have hgv:a.tmps[g]? =some (.bool x):=by
         rw[Array.getD_eq_getD_getElem?] at hv';cases hq:a.tmps[g]? with
         |none=>rw[hq] at hv';simp[undef] at hv'
         |some y=>rw[hq] at hv';simp at hv';rw[hv']
        have hyl:yielded all a.tmps j=some x:=by rw[hy,hgv]
        by_cases hxw:x=want
        ·have hw:Region.wanted o (yielded all a.tmps)=true:=by simp[Region.wanted,hg,hyl,hxw]
         rw[if_pos hw];refine .inl (hT fun q hq=> ?_)
         rcases zJ.1 hq with rfl|hq
         ·exact⟨x,hx,hxw⟩
         ·exact hpg q hq
        ·have hw:¬Region.wanted o (yielded all a.tmps)=true:=by simp[Region.wanted,hg,hyl,hxw]
         rw[if_neg hw];exact skip fun hp=>by
          obtain⟨x',hx',he'⟩:=hp (g,want) (by simp)
          rw[hx] at hx';cases hx';exact hxw he'
       ·have hv':=hr.slots.off g hpg;have hyl:yielded all a.tmps j=none:=by
         rw[hy];rw[Array.getD_eq_getD_getElem?] at hv';cases hq:a.tmps[g]? with
         |none=>rfl
         |some y=>rw[hq] at hv';simp at hv';rw[hv'];rfl
        have hw:¬Region.wanted o (yielded all a.tmps)=true:=by simp[Region.wanted,hg,hyl]
        rw[if_neg hw];exact skip fun hp=>hpg fun q hq=>hp q (by simp[hq])
      have skip:∀{t:T},zI P G c.nt all rest (zC s o.dst t) (iP ps o.dst ((g,want)::U4 ps g)) H K->¬N7 s ((g,want)::U4 ps g)->wpList P all Q rest (a.put o.dst undef) w:=by
       intro t hrest hnp;refine ih _ _ _ E _ _ hrest ⟨(hput _ _).1,(hput _ _).2,?_,hr.inv⟩
       rw[hd];exact hr.slots.putG hfr' hdlt hpath (fun hp=>absurd hp hnp) (fun _=>rfl)
      split at h
      ·rename_i hst;obtain⟨G',hGG,h⟩:=vR hG hGc h;split at h
       ·rename_i t H' side he;obtain rfl:=b6G he (by rw[hGG.stays];exact hst)
        obtain⟨hs,hrest⟩:=wF h;refine core (fun hpp=> ?_) (skip hrest)
        obtain⟨hop,hpk⟩:=sW hr.slots hpp hpo;refine a1k hGG.ok hGG.call hr.inv he (hs hpp) hop hpk fun v w' E' hI hst hrd=> ?_
        refine ih _ _ _ E' _ _ hrest ⟨(hput _ _).1,(hput _ _).2,?_,hI⟩
        rw[hd];exact(hr.slots.step hst).putG hfr' hdlt hpath (fun _=>hrd) (fun hn=>absurd hpp hn)
       ·exact h.elim
      ·split at h
       ·exact h.elim
       ·rename_i hbp;obtain⟨G',hGG,h⟩:=vR hG hGc h;split at h
        ·rename_i t H' side he;obtain⟨hs,hrest⟩:=wF h;refine core (fun hpp=> ?_) (fun hnp=>skip (hrest.2 (a0h hbp hnp)) hnp)
         obtain⟨hop,hpk⟩:=sW hr.slots hpp hpo;refine a1k hGG.ok hGG.call hr.inv he (hs hpp) hop hpk fun v w' E' hI hst hrd=> ?_
         refine ih _ _ _ E' _ _ (pI hrest.1 hpp) ⟨(hput _ _).1,(hput _ _).2,?_,hI⟩
         rw[hd];exact(hr.slots.step hst).putG hfr' hdlt hpath (fun _=>hrd) (fun hn=>absurd hpp hn)
        ·exact h.elim
    ·exact h.elim
   ·exact h.elim

end
end Go.SS
