/- A calculus of symbolic states: a region, in the order of the text. -/
import Derived.Test.YtghgljelnhfihaaGreatSS13
namespace Go.SS
open Go.RowKit

def J9(s:V5)(p:G8):Prop:=∀q,q ∈ p->∃x,j7 s q.1= .bool x/\x=q.2

structure SlotsOk(E:Env)(w:World)(s:V5)(ps:C5)(a:Act):Prop where
 on:∀i,J9 s (S5 ps i)->Rd E w (j7 s i) (a.tmps.getD i undef)
 off:∀i,¬J9 s (S5 ps i)->a.tmps.getD i undef=undef

structure RealE(c:Ctx)(E:Env)(s:V5)(ps:C5)(H:Y1)(a:Act)(w:World):Prop where
 defers:a.defers=[]
 size:a.tmps.size=c.nt
 slots:SlotsOk E w s ps a
 inv:Inv c E H w

def hZ(c:Ctx)(s:V5)(H:Y1)(a:Act)(w:World):Prop:=∃E,RealE c E s [] H a w

theorem vT(s:V5)(d:Nat)(t:T)(i:Nat):j7 (xE s (some d) t) i=if i=d then t else j7 s i:=by
 simp only[xE,j7];split
 ·rename_i h;rw[if_pos (G3 h)]
 ·rename_i h;rw[if_neg (Nat.ne_of_beq_eq_false h)]

theorem kV(ps:C5)(i:Nat):S5 ps i=[]∨(i,S5 ps i) ∈ ps:=by
 induction ps with
 |nil=>exact .inl rfl
 |cons x ps ih=>
  obtain⟨j,p⟩:=x;simp only[S5];split
  ·rename_i h;obtain rfl:=G3 h;exact .inr (by simp)
  ·rcases ih with ih|ih
   ·exact .inl ih
   ·exact .inr (by simp[ih])

theorem lZ{ps:C5}{d:Nat}(h:jX ps d=true):S5 ps d=[]/\∀i,∀q ∈ S5 ps i,q.1≠d:=by
 unfold jX at h;have h':=i5.1 h;constructor
 ·rcases kV ps d with h1|h1
  ·exact h1
  ·have:=h' _ h1;simp at this
 ·intro i q hq;rcases kV ps i with h1|h1
  ·rw[h1] at hq;cases hq
  ·have:=h' _ h1;simp only[L3] at this;have:=i5.1 this.2 q hq;intro e;rw[e] at this;simp at this

theorem zU{s:V5}{d:Nat}{t:T}{p:G8}(h:∀q ∈ p,q.1≠d):J9 (xE s (some d) t) p↔J9 s p:=by
 unfold J9;constructor
 ·intro hp q hq;have:=hp q hq
  rwa [vT,if_neg (h q hq)] at this
 ·intro hp q hq;have:=hp q hq
  rwa [vT,if_neg (h q hq)]

theorem tR(a:Act)(d:Nat)(v:Value)(i:Nat)(hd:d<a.tmps.size):(a.put (some d) v).tmps.getD i undef=if i=d then v else a.tmps.getD i undef:=by
 simp only[Act.put,Array.getD_eq_getD_getElem?,Array.getElem?_setIfInBounds]
 by_cases h:d=i
 ·subst h;simp[hd]
 ·rw[if_neg h,if_neg (λe=>h e.symm)]

section
variable {c:Ctx} {E E':Env} {H H':Y1} {w w':World} {P:Program} {G:I2} {s:V5} {ps:C5} {a:Act}

theorem SlotsOk.step(h:SlotsOk E w s ps a)(hs:Step E w E' w'):SlotsOk E' w' s ps a:=⟨λi hi=>hs.rd (h.on i hi),h.off⟩

theorem SlotsOk.put(h:SlotsOk E w s ps a){d:Nat}(hf:jX ps d=true)(hd:d<a.tmps.size){t:T}{v:Value}(hr:Rd E w t v):SlotsOk E w (xE s (some d) t) ps (a.put (some d) v):=by
 obtain⟨h1,h2⟩:=lZ hf;refine⟨λi hi=> ?_,λi hi=> ?_⟩
 ·rw[tR a d v i hd,vT];by_cases he:i=d
  ·rw[if_pos he,if_pos he];exact hr
  ·rw[if_neg he,if_neg he];exact h.on i ((zU (h2 i)).1 hi)
 ·rw[tR a d v i hd];by_cases he:i=d
  ·subst he;rw[h1] at hi;exact absurd (λq hq=>by cases hq) hi
  ·rw[if_neg he];exact h.off i (λhp=>hi ((zU (h2 i)).2 hp))

theorem SlotsOk.putG(h:SlotsOk E w s ps a){d:Nat}(hf:jX ps d=true)(hd:d<a.tmps.size){p:G8}(hp:∀q ∈ p,q.1≠d){t:T}{v:Value}(hr:J9 s p->Rd E w t v)(hu:¬J9 s p->v=undef):
  SlotsOk E w (xE s (some d) t) ((d,p)::ps) (a.put (some d) v):=by
 obtain⟨h1,h2⟩:=lZ hf;have hpo:∀i,S5 ((d,p)::ps) i=if i=d then p else S5 ps i:=by
  intro i;simp only[S5];split
  ·rename_i hb;rw[if_pos (G3 hb)]
  ·rename_i hb;rw[if_neg (Nat.ne_of_beq_eq_false hb)]
 refine⟨λi hi=> ?_,λi hi=> ?_⟩
 ·rw[hpo] at hi;rw[tR a d v i hd,vT];by_cases he:i=d
  ·rw[if_pos he] at hi;rw[if_pos he,if_pos he];exact hr ((zU hp).1 hi)
  ·rw[if_neg he] at hi;rw[if_neg he,if_neg he];exact h.on i ((zU (h2 i)).1 hi)
 ·rw[hpo] at hi;rw[tR a d v i hd];by_cases he:i=d
  ·rw[if_pos he] at hi;rw[if_pos he];exact hu (λhp'=>hi ((zU hp).2 hp'))
  ·rw[if_neg he] at hi;rw[if_neg he];exact h.off i (λhp=>hi ((zU (h2 i)).2 hp))

theorem eM:∀{p q:G8},rN p q=true->p=q:=by
 intro p;induction p with
 |nil=>intro q h;cases q with|nil=>rfl|cons=>simp[rN] at h
 |cons x p ih=>
  intro q h;cases q with
  |nil=>simp[rN] at h
  |cons y q=>
   obtain⟨a,b⟩:=x;obtain⟨c,d⟩:=y;simp only[rN,L3] at h;obtain⟨⟨h1,h2⟩,h3⟩:=h;obtain rfl:=G3 h1;obtain rfl:=eq_of_beq h2;rw[ih h3]

theorem b2O{p:G8}:∀{q:G8},sufB p q=true->J9 s q->J9 s p:=by
 intro q;induction q with
 |nil=>intro h hq;rw[eM h];exact hq
 |cons x q ih=>
  intro h hq;simp only[sufB,pP] at h;rcases h with h|h
  ·rw[eM h];exact hq
  ·exact ih h (λy hy=>hq y (by simp[hy]))

theorem qC(h:SlotsOk E w s ps a){pth:G8}(hp:J9 s pth){x:Operand}(hx:lH ps pth x=true):I0 E w a s x:=
 aY λt ht=>by
  subst ht;exact h.on t (b2O hx hp)

theorem qL(h:SlotsOk E w s ps a){pth:G8}(hp:J9 s pth){op:Op}(hop:F4 ps pth op=true):
  (∀x ∈ S1 op,I0 E w a s x)/\∀c x y,op= .pick c x y->(∀b,M7 s c= .bool b->b=true->I0 E w a s x)/\(∀b,M7 s c= .bool b->b=false->I0 E w a s y):=by
 by_cases hpk:∃c x y,op= .pick c x y
 ·obtain⟨c,x,y,rfl⟩:=hpk;cases c with
  |tmp t=>
   simp only[F4,L3] at hop;obtain⟨⟨h1,h2⟩,h3⟩:=hop;refine⟨λz hz=> ?_,λc' x' y' he=> ?_⟩
   ·simp only[S1,List.mem_singleton] at hz;subst hz;exact qC h hp h1
   ·cases he;refine⟨λb hb hbt=>qC h (λq hq=> ?_) h2,λb hb hbt=>qC h (λq hq=> ?_) h3⟩
    ·rcases wY.1 hq with rfl|hq
     ·exact⟨b,hb,hbt⟩
     ·exact hp q hq
    ·rcases wY.1 hq with rfl|hq
     ·exact⟨b,hb,hbt⟩
     ·exact hp q hq
  |const=>simp[F4] at hop
  |global=>simp[F4] at hop
  |func=>simp[F4] at hop
 ·have hs:S1 op=op.operands.toList:=by
   cases op<;>first|rfl|exact absurd ⟨_,_,_,rfl⟩ hpk
  have hall:op.operands.toList.all (lH ps pth)=true:=by
   cases op<;>first|exact hop|exact absurd ⟨_,_,_,rfl⟩ hpk
  refine⟨λx hx=>qC h hp (i5.1 hall x (by rw[←hs];exact hx)),λc x y he=>absurd ⟨c,x,y,he⟩ hpk⟩

theorem oF:∀{p:G8} {q:Prop},E5 s p q->J9 s p->q:=by
 intro p;induction p with
 |nil=>intro q h _;exact h
 |cons x p ih=>
  intro q h hp;obtain⟨t,b⟩:=x;simp only[E5] at h;split at h
  ·rename_i y hy;have:=ih h (λz hz=>hp z (by simp[hz]))
   obtain⟨x',hx',he⟩:=hp (t,b) (by simp)
   rw[hy] at hx';cases hx';exact this he
  ·exact h.elim

theorem a19:∀{p:G8} {q:Prop},uC s p=true->(J9 s p->q)->E5 s p q:=by
 intro p;induction p with
 |nil=>intro q _ h;exact h (λz hz=>by cases hz)
 |cons x p ih=>
  intro q hb h;obtain⟨t,b⟩:=x;simp only[uC] at hb;simp only[E5];split at hb
  ·rename_i y hy;refine ih hb λhp he=>h λz hz=> ?_
   rcases wY.1 hz with rfl|hz
   ·exact⟨y,hy,he⟩
   ·exact hp z hz
  ·cases hb

theorem bL{p:G8}(hb:uC s p=true)(h:¬J9 s p):E5 s p False:=a19 hb λhp=>h hp

theorem vU{p:G8}{side:Option Prop}{q:Prop}(h:nB s p side q):(J9 s p->side.getD True)/\q:=by
 cases side with
 |none=>exact⟨λ_=>trivial,h⟩
 |some r=>exact⟨λhp=>oF h.1 hp,h.2⟩

theorem a1H(s:V5)(ps:C5)(i:Nat):j7 (gI s ps) i= .und∨(j7 (gI s ps) i=j7 s i/\S5 ps i=[]):=by
 induction ps with
 |nil=>exact .inr ⟨rfl,rfl⟩
 |cons x ps ih=>
  obtain⟨d,p⟩:=x;simp only[gI,j7,S5];split
  ·exact .inl rfl
  ·exact ih

theorem SlotsOk.ends(h:SlotsOk E w s ps a):SlotsOk E w (gI s ps) [] a:=by
 refine⟨λi _=> ?_,λi hi=>absurd (λq hq=>by cases hq) hi⟩
 rcases a1H s ps i with he|⟨he,hp⟩
 ·rw[he];exact .und _
 ·rw[he];exact h.on i (by rw[hp];exact λq hq=>by cases hq)

theorem a90{op:Op}{y:T}{side:Option Prop}(he:L6 P G s H op=some (y,H',side))(hst:z6 G op=true):H'=H:=by
 unfold L6 at he;split at he
 ·simp only[W8,T5] at he;exact he.2.1.symm
 ·split at he
  ·rename_i r hm;simp only[W8] at he;subst he;unfold D3 at hm;split at hm
   all_goals first|(simp[z6] at hst;done)|skip
   ·split at hm
    ·split at hm
     ·simp only[W8,T5] at hm;exact hm.2.1.symm
     ·cases hm
    ·cases hm
   ·cases hm
  ·split at he
   ·rename_i x args at_;split at he
    ·rename_i hie;simp[z6,hie] at hst
    ·split at he
     ·simp only[I3,T5] at he;obtain⟨r,_,_,he,_⟩:=he;exact he.symm
     ·cases he
   ·cases he

theorem b0M{op:Op}{y:T}{side:Option Prop}(he:A6 P G s H op=some (y,H',side))(hst:stays G op=true):H'=H:=by
 unfold A6 at he;unfold stays at hst;split at he
 ·split at he
  ·simp only[W8,T5] at he;exact he.2.1.symm
  ·cases he
 ·rename_i ht;rw[ht] at hst;exact a90 he hst

theorem a8a{E:Env}{w:World}{a:Act}{s:V5}{o:Oper}{n:Nat}{neg:Bool}(h:a5C P s o.op=some (n,neg))(hop:∀x ∈ S1 o.op,I0 E w a s x):
  ∃b,b90 b n/\(execOp a.eval o).run P w= .ok (.value (.bool (cond neg (!b) b))) w:=by
 obtain⟨dst,op,ty,pos,after,guard⟩:=o;simp only at h hop;unfold a5C at h;split at h
 case h_2=>cases h
 rename_i bop t x y rt;have hx:=hop x (by simp[S1,Op.operands])
 have hy:=hop y (by simp[S1,Op.operands])
 unfold I0 at hx hy;have fin:∀{e:TypeId} {ad:Option Addr} {m cap:Nat},P.underlying t=some (.slice e)->a.eval x= .slice ad m cap->a.eval y= .slice none 0 0->(ad=none->m=0)->m=n->(bop= .eql/\neg=false)∨(bop= .neq/\neg=true)->
   ∃b,b90 b n/\(execOp a.eval ⟨dst,.binOp bop t x y rt,ty,pos,after,guard⟩).run P w= .ok (.value (.bool (cond neg (!b) b))) w:=by
  intro e ad m cap hu h1 h2 h3 h4 h5;refine⟨ad.isNone,λhb=>by rw[←h4];exact h3 (by simpa using hb),?_⟩
  rcases h5 with⟨rfl,rfl⟩|⟨rfl,rfl⟩
  ·simp only[execOp,h1,h2,eqGuard_at_slice,binOp];simp[run_equal_slice_nil w t e ad m cap hu]
  ·simp only[execOp,h1,h2,eqGuard_at_slice,binOp];simp[run_equal_slice_nil w t e ad m cap hu]
 have key:∀{x:T} {v:Value} {n:Nat},((∃sz row,x= .sl sz n row)∨∃k off,x= .osl k off n)->Rd E w x v->∃ad cap,v= .slice ad n cap/\(ad=none->n=0):=by
  intro x v n hx hr;rcases hx with⟨sz,row,rfl⟩|⟨k,off,rfl⟩
  ·cases hr with
   |slNil=>exact⟨none,0,rfl,λ_=>rfl⟩
   |slEmp _ _ a=>exact⟨some a,0,rfl,λ_=>rfl⟩
   |sl _ _ _ b off cap=>exact⟨_,cap,rfl,λh=>by cases h⟩
  ·cases hr with
   |osl _ _ _ o ad hL hn ho ha=>
    refine⟨ad,_,rfl,λh=> ?_⟩
    by_cases hκ:E.κ k=0
    ·omega
    ·rw[ha hκ] at h;cases h
 split at h
 ·rename_i e sz n' row hu hsx hsy;simp only[W8,T5] at h;obtain⟨rfl,rfl⟩:=h;rw[hsx] at hx;rw[hsy] at hy;obtain⟨ad,cap,h1,h2⟩:=key (.inl ⟨_,_,rfl⟩) hx;exact fin hu h1 (wC hy) h2 rfl (.inl ⟨rfl,rfl⟩)
 ·rename_i e sz n' row hu hsx hsy;simp only[W8,T5] at h;obtain⟨rfl,rfl⟩:=h;rw[hsx] at hx;rw[hsy] at hy;obtain⟨ad,cap,h1,h2⟩:=key (.inl ⟨_,_,rfl⟩) hx;exact fin hu h1 (wC hy) h2 rfl (.inr ⟨rfl,rfl⟩)
 ·rename_i e k off n' hu hsx hsy;simp only[W8,T5] at h;obtain⟨rfl,rfl⟩:=h;rw[hsx] at hx;rw[hsy] at hy;obtain⟨ad,cap,h1,h2⟩:=key (.inr ⟨_,_,rfl⟩) hx;exact fin hu h1 (wC hy) h2 rfl (.inl ⟨rfl,rfl⟩)
 ·rename_i e k off n' hu hsx hsy;simp only[W8,T5] at h;obtain⟨rfl,rfl⟩:=h;rw[hsx] at hx;rw[hsy] at hy;obtain⟨ad,cap,h1,h2⟩:=key (.inr ⟨_,_,rfl⟩) hx;exact fin hu h1 (wC hy) h2 rfl (.inr ⟨rfl,rfl⟩)
 ·cases h

theorem b2r(hG:D0 P G)(hGc:∀x ∈ G,P4 P x.1){all:Array Oper}{Q:Exit->Act->World->Prop}{K:V5->Y1->Prop}(hK:∀s' H' a' w',K s' H'->hZ c s' H' a' w'->Q .normal a' w'):
  ∀(rest:List Oper) (s:V5) (ps:C5) (H:Y1) (E:Env) (a:Act) (w:World),xB P G c.nt all rest s ps H K->RealE c E s ps H a w->wpList P all Q rest a w:=by
 intro rest;induction rest with
 |nil=>
  intro s ps H E a w h hr;exact hK _ _ _ _ h ⟨E,hr.defers,hr.size,hr.slots.ends,hr.inv⟩
 |cons o rest ih=>
  intro s ps H E a w h hr;have hput:∀(d:Option Tmp) (v:Value),(a.put d v).defers=[]/\(a.put d v).tmps.size=c.nt:=by
   intro d v;cases d with
   |none=>exact⟨hr.defers,hr.size⟩
   |some d=>exact⟨hr.defers,by simp[Act.put,hr.size]⟩
  unfold xB at h;split at h
  ·rename_i hg;split at h
   ·exact h.elim
   ·rename_i hchk;simp only[L3] at hchk;obtain⟨⟨hpo,hfr⟩,hdst⟩:=hchk;split at h
    ·rename_i n neg hnc;have hnil:J9 s []:=λq hq=>by cases hq
     obtain⟨hop,hpk⟩:=qL hr.slots hnil hpo;obtain⟨b,hb,hrun⟩:=a8a (P:=P) (E:=E) (w:=w) (a:=a) hnc hop;refine wpList_plain hg λKK hKK=>zN hrun (hKK _ _ (ih _ _ _ E _ _ (h b hb) ⟨(hput _ _).1,(hput _ _).2,?_,hr.inv⟩))
     cases hd:o.dst with
     |none=>exact hr.slots
     |some d=>
      rw[hd] at hfr hdst;exact hr.slots.put hfr (by rw[hr.size];exact v6 hdst) (.bool _)
    obtain⟨G',hGG,h⟩:=tI hG hGc h;split at h
    ·rename_i t H' side he;obtain⟨hs,hrest⟩:=vU h;have hnil:J9 s []:=λq hq=>by cases hq
     obtain⟨hop,hpk⟩:=qL hr.slots hnil hpo;refine wpList_plain hg λKK hKK=> ?_
     refine a2V hGG.ok hGG.call hr.inv he (hs hnil) hop hpk λv w' E' hI hst hrd=> ?_
     refine hKK _ _ (ih _ _ _ E' _ _ hrest ⟨(hput _ _).1,(hput _ _).2,?_,hI⟩)
     cases hd:o.dst with
     |none=>exact hr.slots.step hst
     |some d=>
      rw[hd] at hfr hdst;exact(hr.slots.step hst).put hfr (by rw[hr.size];exact v6 hdst) hrd
    ·exact h.elim
  ·rename_i j want hg;split at h
   ·rename_i g hgd;split at h
    ·rename_i x hx;split at h
     ·exact h.elim
     ·rename_i hchk;simp only[L3] at hchk;obtain⟨⟨⟨hpo,hfr⟩,hdst⟩,hgk⟩:=hchk;obtain⟨d,hd⟩:∃d,o.dst=some d:=by
       cases hd:o.dst with
       |none=>rw[hd] at hgk;simp[qN] at hgk
       |some d=>exact⟨d,rfl⟩
      have hfr':=hfr;have hdst':=hdst;have hgk':=hgk;rw[hd] at hfr' hdst' hgk';have hdlt:d<a.tmps.size:=by rw[hr.size];exact v6 hdst'
      have hpath:∀q ∈ ((g,want)::S5 ps g),q.1≠d:=by
       intro q hq;simp only[qN,L3] at hgk';rcases wY.1 hq with rfl|hq
       ·intro e;have:=hgk'.1;simp only at e;rw[e] at this;simp at this
       ·intro e;have:=i5.1 hgk'.2 q hq;rw[e] at this;simp at this
      have hy:yielded all a.tmps j=match a.tmps[g]? with|some (.bool b)=>some b|_=>none:=by
       unfold yielded;rw[hgd];rfl
      have core:(J9 s ((g,want)::S5 ps g)->o.wp P a w (wpList P all Q rest) Q)->(¬J9 s ((g,want)::S5 ps g)->wpList P all Q rest (a.put o.dst undef) w)->wpList P all Q (o::rest) a w:=by
       intro hT skip;unfold wpList;by_cases hpg:J9 s (S5 ps g)
       ·have hv:=hr.slots.on g hpg;rw[hx] at hv;have hv':=z9 hv;have hgv:a.tmps[g]? =some (.bool x):=by
         rw[Array.getD_eq_getD_getElem?] at hv';cases hq:a.tmps[g]? with
         |none=>rw[hq] at hv';simp[undef] at hv'
         |some y=>rw[hq] at hv';simp at hv';rw[hv']
        have hyl:yielded all a.tmps j=some x:=by rw[hy,hgv]
        by_cases hxw:x=want
        ·have hw:Region.wanted o (yielded all a.tmps)=true:=by simp[Region.wanted,hg,hyl,hxw]
         rw[if_pos hw];refine .inl (hT λq hq=> ?_)
         rcases wY.1 hq with rfl|hq
         ·exact⟨x,hx,hxw⟩
         ·exact hpg q hq
        ·have hw:¬Region.wanted o (yielded all a.tmps)=true:=by simp[Region.wanted,hg,hyl,hxw]
         rw[if_neg hw];exact skip λhp=>by
          obtain⟨x',hx',he'⟩:=hp (g,want) (by simp)
          rw[hx] at hx';cases hx';exact hxw he'
       ·have hv':=hr.slots.off g hpg;have hyl:yielded all a.tmps j=none:=by
         rw[hy];rw[Array.getD_eq_getD_getElem?] at hv';cases hq:a.tmps[g]? with
         |none=>rfl
         |some y=>rw[hq] at hv';simp at hv';rw[hv'];rfl
        have hw:¬Region.wanted o (yielded all a.tmps)=true:=by simp[Region.wanted,hg,hyl]
        rw[if_neg hw];exact skip λhp=>hpg λq hq=>hp q (by simp[hq])
      have skip:∀{t:T},xB P G c.nt all rest (xE s o.dst t) (hM ps o.dst ((g,want)::S5 ps g)) H K->¬J9 s ((g,want)::S5 ps g)->wpList P all Q rest (a.put o.dst undef) w:=by
       intro t hrest hnp;refine ih _ _ _ E _ _ hrest ⟨(hput _ _).1,(hput _ _).2,?_,hr.inv⟩
       rw[hd];exact hr.slots.putG hfr' hdlt hpath (λhp=>absurd hp hnp) (λ_=>rfl)
      split at h
      ·rename_i hst;obtain⟨G',hGG,h⟩:=tI hG hGc h;split at h
       ·rename_i t H' side he;obtain rfl:=b0M he (by rw[hGG.stays];exact hst)
        obtain⟨hs,hrest⟩:=vU h;refine core (λhpp=> ?_) (skip hrest)
        obtain⟨hop,hpk⟩:=qL hr.slots hpp hpo;refine a2V hGG.ok hGG.call hr.inv he (hs hpp) hop hpk λv w' E' hI hst hrd=> ?_
        refine ih _ _ _ E' _ _ hrest ⟨(hput _ _).1,(hput _ _).2,?_,hI⟩
        rw[hd];exact(hr.slots.step hst).putG hfr' hdlt hpath (λ_=>hrd) (λhn=>absurd hpp hn)
       ·exact h.elim
      ·split at h
       ·exact h.elim
       ·rename_i hbp;obtain⟨G',hGG,h⟩:=tI hG hGc h;split at h
        ·rename_i t H' side he;obtain⟨hs,hrest⟩:=vU h;refine core (λhpp=> ?_) (λhnp=>skip (hrest.2 (bL hbp hnp)) hnp)
         obtain⟨hop,hpk⟩:=qL hr.slots hpp hpo;refine a2V hGG.ok hGG.call hr.inv he (hs hpp) hop hpk λv w' E' hI hst hrd=> ?_
         refine ih _ _ _ E' _ _ (oF hrest.1 hpp) ⟨(hput _ _).1,(hput _ _).2,?_,hI⟩
         rw[hd];exact(hr.slots.step hst).putG hfr' hdlt hpath (λ_=>hrd) (λhn=>absurd hpp hn)
        ·exact h.elim
    ·exact h.elim
   ·exact h.elim

end
end Go.SS
