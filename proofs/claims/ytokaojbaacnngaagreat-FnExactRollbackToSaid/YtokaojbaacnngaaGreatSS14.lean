/- A calculus of symbolic states: a region, in the order of the text. -/
import Derived.Test.YtokaojbaacnngaaGreatSS13
namespace Go.SS
open Go.RowKit

def L8(s:V9)(p:J2):Prop:=∀q,q ∈ p->∃x,q8 s q.1= .bool x/\x=q.2

structure SlotsOk(E:Env)(w:World)(s:V9)(ps:E7)(a:Act):Prop where
 on:∀i,L8 s (T6 ps i)->Rd E w (q8 s i) (a.tmps.getD i undef)
 off:∀i,¬L8 s (T6 ps i)->a.tmps.getD i undef=undef

structure RealE(c:Ctx)(E:Env)(s:V9)(ps:E7)(H:Y3)(a:Act)(w:World):Prop where
 defers:a.defers=[]
 size:a.tmps.size=c.nt
 slots:SlotsOk E w s ps a
 inv:Inv c E H w

def kL(c:Ctx)(s:V9)(H:Y3)(a:Act)(w:World):Prop:=∃E,RealE c E s [] H a w

theorem wG(s:V9)(d:Nat)(t:T)(i:Nat):q8 (xT s (some d) t) i=if i=d then t else q8 s i:=by
 simp only[xT,q8];split
 ·rename_i h;rw[if_pos (H9 h)]
 ·rename_i h;rw[if_neg (Nat.ne_of_beq_eq_false h)]

theorem lU(ps:E7)(i:Nat):T6 ps i=[]∨(i,T6 ps i) ∈ ps:=by
 induction ps with
 |nil=>exact .inl rfl
 |cons x ps ih=>
  obtain⟨j,p⟩:=x;simp only[T6];split
  ·rename_i h;obtain rfl:=H9 h;exact .inr (by simp)
  ·rcases ih with ih|ih
   ·exact .inl ih
   ·exact .inr (by simp[ih])

theorem nH{ps:E7}{d:Nat}(h:lQ ps d=true):T6 ps d=[]/\∀i,∀q ∈ T6 ps i,q.1≠d:=by
 unfold lQ at h;have h':=m4.1 h;constructor
 ·rcases lU ps d with h1|h1
  ·exact h1
  ·have:=h' _ h1;simp at this
 ·intro i q hq;rcases lU ps i with h1|h1
  ·rw[h1] at hq;cases hq
  ·have:=h' _ h1;simp only[J6] at this;have:=m4.1 this.2 q hq;intro e;rw[e] at this;simp at this

theorem k5{s:V9}{d:Nat}{t:T}{p:J2}(h:∀q ∈ p,q.1≠d):L8 (xT s (some d) t) p↔L8 s p:=by
 unfold L8;constructor
 ·intro hp q hq;have:=hp q hq
  rwa [wG,if_neg (h q hq)] at this
 ·intro hp q hq;have:=hp q hq
  rwa [wG,if_neg (h q hq)]

theorem vG(a:Act)(d:Nat)(v:Value)(i:Nat)(hd:d<a.tmps.size):(a.put (some d) v).tmps.getD i undef=if i=d then v else a.tmps.getD i undef:=by
 simp only[Act.put,Array.getD_eq_getD_getElem?,Array.getElem?_setIfInBounds]
 by_cases h:d=i
 ·subst h;simp[hd]
 ·rw[if_neg h,if_neg (λe=>h e.symm)]

section
variable {c:Ctx} {E E':Env} {H H':Y3} {w w':World} {P:Program} {G:I4} {s:V9} {ps:E7} {a:Act}

theorem SlotsOk.step(h:SlotsOk E w s ps a)(hs:Step E w E' w'):SlotsOk E' w' s ps a:=⟨λi hi=>hs.rd (h.on i hi),h.off⟩

theorem SlotsOk.put(h:SlotsOk E w s ps a){d:Nat}(hf:lQ ps d=true)(hd:d<a.tmps.size){t:T}{v:Value}(hr:Rd E w t v):SlotsOk E w (xT s (some d) t) ps (a.put (some d) v):=by
 obtain⟨h1,h2⟩:=nH hf;refine⟨λi hi=> ?_,λi hi=> ?_⟩
 ·rw[vG a d v i hd,wG];by_cases he:i=d
  ·rw[if_pos he,if_pos he];exact hr
  ·rw[if_neg he,if_neg he];exact h.on i ((k5 (h2 i)).1 hi)
 ·rw[vG a d v i hd];by_cases he:i=d
  ·subst he;rw[h1] at hi;exact absurd (λq hq=>by cases hq) hi
  ·rw[if_neg he];exact h.off i (λhp=>hi ((k5 (h2 i)).2 hp))

theorem SlotsOk.putG(h:SlotsOk E w s ps a){d:Nat}(hf:lQ ps d=true)(hd:d<a.tmps.size){p:J2}(hp:∀q ∈ p,q.1≠d){t:T}{v:Value}(hr:L8 s p->Rd E w t v)(hu:¬L8 s p->v=undef):
  SlotsOk E w (xT s (some d) t) ((d,p)::ps) (a.put (some d) v):=by
 obtain⟨h1,h2⟩:=nH hf;have hpo:∀i,T6 ((d,p)::ps) i=if i=d then p else T6 ps i:=by
  intro i;simp only[T6];split
  ·rename_i hb;rw[if_pos (H9 hb)]
  ·rename_i hb;rw[if_neg (Nat.ne_of_beq_eq_false hb)]
 refine⟨λi hi=> ?_,λi hi=> ?_⟩
 ·rw[hpo] at hi;rw[vG a d v i hd,wG];by_cases he:i=d
  ·rw[if_pos he] at hi;rw[if_pos he,if_pos he];exact hr ((k5 hp).1 hi)
  ·rw[if_neg he] at hi;rw[if_neg he,if_neg he];exact h.on i ((k5 (h2 i)).1 hi)
 ·rw[hpo] at hi;rw[vG a d v i hd];by_cases he:i=d
  ·rw[if_pos he] at hi;rw[if_pos he];exact hu (λhp'=>hi ((k5 hp).2 hp'))
  ·rw[if_neg he] at hi;rw[if_neg he];exact h.off i (λhp=>hi ((k5 (h2 i)).2 hp))

theorem iR:∀{p q:J2},tM p q=true->p=q:=by
 intro p;induction p with
 |nil=>intro q h;cases q with|nil=>rfl|cons=>simp[tM] at h
 |cons x p ih=>
  intro q h;cases q with
  |nil=>simp[tM] at h
  |cons y q=>
   obtain⟨a,b⟩:=x;obtain⟨c,d⟩:=y;simp only[tM,J6] at h;obtain⟨⟨h1,h2⟩,h3⟩:=h;obtain rfl:=H9 h1;obtain rfl:=eq_of_beq h2;rw[ih h3]

theorem b2L{p:J2}:∀{q:J2},sufB p q=true->L8 s q->L8 s p:=by
 intro q;induction q with
 |nil=>intro h hq;rw[iR h];exact hq
 |cons x q ih=>
  intro h hq;simp only[sufB,oQ] at h;rcases h with h|h
  ·rw[iR h];exact hq
  ·exact ih h (λy hy=>hq y (by simp[hy]))

theorem rN(h:SlotsOk E w s ps a){pth:J2}(hp:L8 s pth){x:Operand}(hx:mS ps pth x=true):H3 E w a s x:=
 dG λt ht=>by
  subst ht;exact h.on t (b2L hx hp)

theorem sM(h:SlotsOk E w s ps a){pth:J2}(hp:L8 s pth){op:Op}(hop:H6 ps pth op=true):
  (∀x ∈ S1 op,H3 E w a s x)/\∀c x y,op= .pick c x y->(∀b,N7 s c= .bool b->b=true->H3 E w a s x)/\(∀b,N7 s c= .bool b->b=false->H3 E w a s y):=by
 by_cases hpk:∃c x y,op= .pick c x y
 ·obtain⟨c,x,y,rfl⟩:=hpk;cases c with
  |tmp t=>
   simp only[H6,J6] at hop;obtain⟨⟨h1,h2⟩,h3⟩:=hop;refine⟨λz hz=> ?_,λc' x' y' he=> ?_⟩
   ·simp only[S1,List.mem_singleton] at hz;subst hz;exact rN h hp h1
   ·cases he;refine⟨λb hb hbt=>rN h (λq hq=> ?_) h2,λb hb hbt=>rN h (λq hq=> ?_) h3⟩
    ·rcases vN.1 hq with rfl|hq
     ·exact⟨b,hb,hbt⟩
     ·exact hp q hq
    ·rcases vN.1 hq with rfl|hq
     ·exact⟨b,hb,hbt⟩
     ·exact hp q hq
  |const=>simp[H6] at hop
  |global=>simp[H6] at hop
  |func=>simp[H6] at hop
 ·have hs:S1 op=op.operands.toList:=by
   cases op<;>first|rfl|exact absurd ⟨_,_,_,rfl⟩ hpk
  have hall:op.operands.toList.all (mS ps pth)=true:=by
   cases op<;>first|exact hop|exact absurd ⟨_,_,_,rfl⟩ hpk
  refine⟨λx hx=>rN h hp (m4.1 hall x (by rw[←hs];exact hx)),λc x y he=>absurd ⟨c,x,y,he⟩ hpk⟩

theorem pU:∀{p:J2} {q:Prop},G4 s p q->L8 s p->q:=by
 intro p;induction p with
 |nil=>intro q h _;exact h
 |cons x p ih=>
  intro q h hp;obtain⟨t,b⟩:=x;simp only[G4] at h;split at h
  ·rename_i y hy;have:=ih h (λz hz=>hp z (by simp[hz]))
   obtain⟨x',hx',he⟩:=hp (t,b) (by simp)
   rw[hy] at hx';cases hx';exact this he
  ·exact h.elim

theorem a0X:∀{p:J2} {q:Prop},vO s p=true->(L8 s p->q)->G4 s p q:=by
 intro p;induction p with
 |nil=>intro q _ h;exact h (λz hz=>by cases hz)
 |cons x p ih=>
  intro q hb h;obtain⟨t,b⟩:=x;simp only[vO] at hb;simp only[G4];split at hb
  ·rename_i y hy;refine ih hb λhp he=>h λz hz=> ?_
   rcases vN.1 hz with rfl|hz
   ·exact⟨y,hy,he⟩
   ·exact hp z hz
  ·cases hb

theorem eQ{p:J2}(hb:vO s p=true)(h:¬L8 s p):G4 s p False:=a0X hb λhp=>h hp

theorem vA{p:J2}{side:Option Prop}{q:Prop}(h:oD s p side q):(L8 s p->side.getD True)/\q:=by
 cases side with
 |none=>exact⟨λ_=>trivial,h⟩
 |some r=>exact⟨λhp=>pU h.1 hp,h.2⟩

theorem aV(s:V9)(ps:E7)(i:Nat):q8 (P1 s ps) i= .und∨(q8 (P1 s ps) i=q8 s i/\T6 ps i=[]):=by
 induction ps with
 |nil=>exact .inr ⟨rfl,rfl⟩
 |cons x ps ih=>
  obtain⟨d,p⟩:=x;simp only[P1,q8,T6];split
  ·exact .inl rfl
  ·exact ih

theorem SlotsOk.ends(h:SlotsOk E w s ps a):SlotsOk E w (P1 s ps) [] a:=by
 refine⟨λi _=> ?_,λi hi=>absurd (λq hq=>by cases hq) hi⟩
 rcases aV s ps i with he|⟨he,hp⟩
 ·rw[he];exact .und _
 ·rw[he];exact h.on i (by rw[hp];exact λq hq=>by cases hq)

theorem a7t{op:Op}{y:T}{side:Option Prop}(he:M6 P G s H op=some (y,H',side))(hst:z5 G op=true):H'=H:=by
 unfold M6 at he;split at he
 ·simp only[X1,U4] at he;exact he.2.1.symm
 ·split at he
  ·rename_i r hm;simp only[X1] at he;subst he;unfold D8 at hm;split at hm
   all_goals first|(simp[z5] at hst;done)|skip
   ·split at hm
    ·split at hm
     ·simp only[X1,U4] at hm;exact hm.2.1.symm
     ·cases hm
    ·cases hm
   ·cases hm
  ·split at he
   ·rename_i x args at_;split at he
    ·rename_i hie;simp[z5,hie] at hst
    ·split at he
     ·simp only[J8,U4] at he;obtain⟨r,_,_,he,_⟩:=he;exact he.symm
     ·cases he
   ·cases he

theorem b1i{op:Op}{y:T}{side:Option Prop}(he:z6 P G s H op=some (y,H',side))(hst:stays G op=true):H'=H:=by
 unfold z6 at he;unfold stays at hst;split at he
 ·split at he
  ·simp only[X1,U4] at he;exact he.2.1.symm
  ·cases he
 ·rename_i ht;rw[ht] at hst;exact a7t he hst

theorem a8M{E:Env}{w:World}{a:Act}{s:V9}{o:Oper}{n:Nat}{neg:Bool}(h:a3W P s o.op=some (n,neg))(hop:∀x ∈ S1 o.op,H3 E w a s x):
  ∃b,b8g b n/\(execOp a.eval o).run P w= .ok (.value (.bool (cond neg (!b) b))) w:=by
 obtain⟨dst,op,ty,pos,after,guard⟩:=o;simp only at h hop;unfold a3W at h;split at h
 case h_2=>cases h
 rename_i bop t x y rt;have hx:=hop x (by simp[S1,Op.operands])
 have hy:=hop y (by simp[S1,Op.operands])
 unfold H3 at hx hy;have fin:∀{e:TypeId} {ad:Option Addr} {m cap:Nat},P.underlying t=some (.slice e)->a.eval x= .slice ad m cap->a.eval y= .slice none 0 0->(ad=none->m=0)->m=n->(bop= .eql/\neg=false)∨(bop= .neq/\neg=true)->
   ∃b,b8g b n/\(execOp a.eval ⟨dst,.binOp bop t x y rt,ty,pos,after,guard⟩).run P w= .ok (.value (.bool (cond neg (!b) b))) w:=by
  intro e ad m cap hu h1 h2 h3 h4 h5;refine⟨ad.isNone,λhb=>by rw[←h4];exact h3 (by simpa using hb),?_⟩
  rcases h5 with⟨rfl,rfl⟩|⟨rfl,rfl⟩
  ·simp only[execOp,h1,h2,eqGuard_at_slice,binOp];simp[run_equal_slice_nil w t e ad m cap hu]
  ·simp only[execOp,h1,h2,eqGuard_at_slice,binOp];simp[run_equal_slice_nil w t e ad m cap hu]
 have key:∀{x:T} {v:Value} {n:Nat},((∃sz row,x= .sl sz n row)∨∃k off,x= .osl k off n)->Rd E w x v->∃ad cap,v= .slice ad n cap/\(ad=none->n=0):=by
  intro x v n hx hr;rcases hx with⟨sz,row,rfl⟩|⟨k,off,rfl⟩
  ·cases hr with
   |slNil=>exact⟨none,0,rfl,λ_=>rfl⟩
   |slEmp _ _ a=>exact⟨some a,0,rfl,λ_=>rfl⟩
   |sl _ _ _ b off cap=>exact⟨_,cap,rfl,λh=>by cases h⟩
  ·cases hr with
   |osl _ _ _ o ad hL hn ho ha=>
    refine⟨ad,_,rfl,λh=> ?_⟩
    by_cases hκ:E.κ k=0
    ·omega
    ·rw[ha hκ] at h;cases h
 split at h
 ·rename_i e sz n' row hu hsx hsy;simp only[X1,U4] at h;obtain⟨rfl,rfl⟩:=h;rw[hsx] at hx;rw[hsy] at hy;obtain⟨ad,cap,h1,h2⟩:=key (.inl ⟨_,_,rfl⟩) hx;exact fin hu h1 (xH hy) h2 rfl (.inl ⟨rfl,rfl⟩)
 ·rename_i e sz n' row hu hsx hsy;simp only[X1,U4] at h;obtain⟨rfl,rfl⟩:=h;rw[hsx] at hx;rw[hsy] at hy;obtain⟨ad,cap,h1,h2⟩:=key (.inl ⟨_,_,rfl⟩) hx;exact fin hu h1 (xH hy) h2 rfl (.inr ⟨rfl,rfl⟩)
 ·rename_i e k off n' hu hsx hsy;simp only[X1,U4] at h;obtain⟨rfl,rfl⟩:=h;rw[hsx] at hx;rw[hsy] at hy;obtain⟨ad,cap,h1,h2⟩:=key (.inr ⟨_,_,rfl⟩) hx;exact fin hu h1 (xH hy) h2 rfl (.inl ⟨rfl,rfl⟩)
 ·rename_i e k off n' hu hsx hsy;simp only[X1,U4] at h;obtain⟨rfl,rfl⟩:=h;rw[hsx] at hx;rw[hsy] at hy;obtain⟨ad,cap,h1,h2⟩:=key (.inr ⟨_,_,rfl⟩) hx;exact fin hu h1 (xH hy) h2 rfl (.inr ⟨rfl,rfl⟩)
 ·cases h

theorem b2Z(hG:F6 P G)(hGc:∀x ∈ G,R4 P x.1){all:Array Oper}{Q:Exit->Act->World->Prop}{K:V9->Y3->Prop}(hK:∀s' H' a' w',K s' H'->kL c s' H' a' w'->Q .normal a' w'):
  ∀(rest:List Oper) (s:V9) (ps:E7) (H:Y3) (E:Env) (a:Act) (w:World),xR P G c.nt all rest s ps H K->RealE c E s ps H a w->wpList P all Q rest a w:=by
 intro rest;induction rest with
 |nil=>
  intro s ps H E a w h hr;exact hK _ _ _ _ h ⟨E,hr.defers,hr.size,hr.slots.ends,hr.inv⟩
 |cons o rest ih=>
  intro s ps H E a w h hr;have hput:∀(d:Option Tmp) (v:Value),(a.put d v).defers=[]/\(a.put d v).tmps.size=c.nt:=by
   intro d v;cases d with
   |none=>exact⟨hr.defers,hr.size⟩
   |some d=>exact⟨hr.defers,by simp[Act.put,hr.size]⟩
  unfold xR at h;split at h
  ·rename_i hg;split at h
   ·exact h.elim
   ·rename_i hchk;simp only[J6] at hchk;obtain⟨⟨hpo,hfr⟩,hdst⟩:=hchk;split at h
    ·rename_i n neg hnc;have hnil:L8 s []:=λq hq=>by cases hq
     obtain⟨hop,hpk⟩:=sM hr.slots hnil hpo;obtain⟨b,hb,hrun⟩:=a8M (P:=P) (E:=E) (w:=w) (a:=a) hnc hop;refine wpList_plain hg λKK hKK=>d9 hrun (hKK _ _ (ih _ _ _ E _ _ (h b hb) ⟨(hput _ _).1,(hput _ _).2,?_,hr.inv⟩))
     cases hd:o.dst with
     |none=>exact hr.slots
     |some d=>
      rw[hd] at hfr hdst;exact hr.slots.put hfr (by rw[hr.size];exact m5 hdst) (.bool _)
    obtain⟨G',hGG,h⟩:=vC hG hGc h;split at h
    ·rename_i t H' side he;obtain⟨hs,hrest⟩:=vA h;have hnil:L8 s []:=λq hq=>by cases hq
     obtain⟨hop,hpk⟩:=sM hr.slots hnil hpo;refine wpList_plain hg λKK hKK=> ?_
     refine bF hGG.ok hGG.call hr.inv he (hs hnil) hop hpk λv w' E' hI hst hrd=> ?_
     refine hKK _ _ (ih _ _ _ E' _ _ hrest ⟨(hput _ _).1,(hput _ _).2,?_,hI⟩)
     cases hd:o.dst with
     |none=>exact hr.slots.step hst
     |some d=>
      rw[hd] at hfr hdst;exact(hr.slots.step hst).put hfr (by rw[hr.size];exact m5 hdst) hrd
    ·exact h.elim
  ·rename_i j want hg;split at h
   ·rename_i g hgd;split at h
    ·rename_i x hx;split at h
     ·exact h.elim
     ·rename_i hchk;simp only[J6] at hchk;obtain⟨⟨⟨hpo,hfr⟩,hdst⟩,hgk⟩:=hchk;obtain⟨d,hd⟩:∃d,o.dst=some d:=by
       cases hd:o.dst with
       |none=>rw[hd] at hgk;simp[rG] at hgk
       |some d=>exact⟨d,rfl⟩
      have hfr':=hfr;have hdst':=hdst;have hgk':=hgk;rw[hd] at hfr' hdst' hgk';have hdlt:d<a.tmps.size:=by rw[hr.size];exact m5 hdst'
      have hpath:∀q ∈ ((g,want)::T6 ps g),q.1≠d:=by
       intro q hq;simp only[rG,J6] at hgk';rcases vN.1 hq with rfl|hq
       ·intro e;have:=hgk'.1;simp only at e;rw[e] at this;simp at this
       ·intro e;have:=m4.1 hgk'.2 q hq;rw[e] at this;simp at this
      have hy:yielded all a.tmps j=match a.tmps[g]? with|some (.bool b)=>some b|_=>none:=by
       unfold yielded;rw[hgd];rfl
      have core:(L8 s ((g,want)::T6 ps g)->o.wp P a w (wpList P all Q rest) Q)->(¬L8 s ((g,want)::T6 ps g)->wpList P all Q rest (a.put o.dst undef) w)->wpList P all Q (o::rest) a w:=by
       intro hT skip;unfold wpList;by_cases hpg:L8 s (T6 ps g)
       ·have hv:=hr.slots.on g hpg;rw[hx] at hv;have hv':=B8 hv;have hgv:a.tmps[g]? =some (.bool x):=by
         rw[Array.getD_eq_getD_getElem?] at hv';cases hq:a.tmps[g]? with
         |none=>rw[hq] at hv';simp[undef] at hv'
         |some y=>rw[hq] at hv';simp at hv';rw[hv']
        have hyl:yielded all a.tmps j=some x:=by rw[hy,hgv]
        by_cases hxw:x=want
        ·have hw:Region.wanted o (yielded all a.tmps)=true:=by simp[Region.wanted,hg,hyl,hxw]
         rw[if_pos hw];refine .inl (hT λq hq=> ?_)
         rcases vN.1 hq with rfl|hq
         ·exact⟨x,hx,hxw⟩
         ·exact hpg q hq
        ·have hw:¬Region.wanted o (yielded all a.tmps)=true:=by simp[Region.wanted,hg,hyl,hxw]
         rw[if_neg hw];exact skip λhp=>by
          obtain⟨x',hx',he'⟩:=hp (g,want) (by simp)
          rw[hx] at hx';cases hx';exact hxw he'
       ·have hv':=hr.slots.off g hpg;have hyl:yielded all a.tmps j=none:=by
         rw[hy];rw[Array.getD_eq_getD_getElem?] at hv';cases hq:a.tmps[g]? with
         |none=>rfl
         |some y=>rw[hq] at hv';simp at hv';rw[hv'];rfl
        have hw:¬Region.wanted o (yielded all a.tmps)=true:=by simp[Region.wanted,hg,hyl]
        rw[if_neg hw];exact skip λhp=>hpg λq hq=>hp q (by simp[hq])
      have skip:∀{t:T},xR P G c.nt all rest (xT s o.dst t) (kG ps o.dst ((g,want)::T6 ps g)) H K->¬L8 s ((g,want)::T6 ps g)->wpList P all Q rest (a.put o.dst undef) w:=by
       intro t hrest hnp;refine ih _ _ _ E _ _ hrest ⟨(hput _ _).1,(hput _ _).2,?_,hr.inv⟩
       rw[hd];exact hr.slots.putG hfr' hdlt hpath (λhp=>absurd hp hnp) (λ_=>rfl)
      split at h
      ·rename_i hst;obtain⟨G',hGG,h⟩:=vC hG hGc h;split at h
       ·rename_i t H' side he;obtain rfl:=b1i he (by rw[hGG.stays];exact hst)
        obtain⟨hs,hrest⟩:=vA h;refine core (λhpp=> ?_) (skip hrest)
        obtain⟨hop,hpk⟩:=sM hr.slots hpp hpo;refine bF hGG.ok hGG.call hr.inv he (hs hpp) hop hpk λv w' E' hI hst hrd=> ?_
        refine ih _ _ _ E' _ _ hrest ⟨(hput _ _).1,(hput _ _).2,?_,hI⟩
        rw[hd];exact(hr.slots.step hst).putG hfr' hdlt hpath (λ_=>hrd) (λhn=>absurd hpp hn)
       ·exact h.elim
      ·split at h
       ·exact h.elim
       ·rename_i hbp;obtain⟨G',hGG,h⟩:=vC hG hGc h;split at h
        ·rename_i t H' side he;obtain⟨hs,hrest⟩:=vA h;refine core (λhpp=> ?_) (λhnp=>skip (hrest.2 (eQ hbp hnp)) hnp)
         obtain⟨hop,hpk⟩:=sM hr.slots hpp hpo;refine bF hGG.ok hGG.call hr.inv he (hs hpp) hop hpk λv w' E' hI hst hrd=> ?_
         refine ih _ _ _ E' _ _ (pU hrest.1 hpp) ⟨(hput _ _).1,(hput _ _).2,?_,hI⟩
         rw[hd];exact(hr.slots.step hst).putG hfr' hdlt hpath (λ_=>hrd) (λhn=>absurd hpp hn)
        ·exact h.elim
    ·exact h.elim
   ·exact h.elim

end
end Go.SS
