/- A calculus of symbolic states: a region, in the order of the text. -/
import Derived.Test.YtokaojbaacnngaaGreatSS13
namespace Go.SS
open Go.RowKit

def PathH(s:Slots)(p:Path):Prop:=∀q,q ∈ p->∃x,slk s q.1= .bool x/\x=q.2

structure SlotsOk(E:Env)(w:World)(s:Slots)(ps:Paths)(a:Act):Prop where
 on:∀i,PathH s (pathOf ps i)->Rd E w (slk s i) (a.tmps.getD i undef)
 off:∀i,¬PathH s (pathOf ps i)->a.tmps.getD i undef=undef

structure RealE(c:Ctx)(E:Env)(s:Slots)(ps:Paths)(H:Heap)(a:Act)(w:World):Prop where
 defers:a.defers=[]
 size:a.tmps.size=c.nt
 slots:SlotsOk E w s ps a
 inv:Inv c E H w

def Real(c:Ctx)(s:Slots)(H:Heap)(a:Act)(w:World):Prop:=∃E,RealE c E s [] H a w

theorem slk_put(s:Slots)(d:Nat)(t:T)(i:Nat):slk (putS s (some d) t) i=if i=d then t else slk s i:=by
 simp only[putS,slk];split
 ·rename_i h;rw[if_pos (Nat.eq_of_beq_eq_true h)]
 ·rename_i h;rw[if_neg (Nat.ne_of_beq_eq_false h)]

theorem pathOf_mem(ps:Paths)(i:Nat):pathOf ps i=[]∨(i,pathOf ps i) ∈ ps:=by
 induction ps with
 |nil=>exact .inl rfl
 |cons x ps ih=>
  obtain⟨j,p⟩:=x;simp only[pathOf];split
  ·rename_i h;obtain rfl:=Nat.eq_of_beq_eq_true h;exact .inr (by simp)
  ·rcases ih with ih|ih
   ·exact .inl ih
   ·exact .inr (by simp[ih])

theorem fresh_ok{ps:Paths}{d:Nat}(h:freshB ps d=true):pathOf ps d=[]/\∀i,∀q ∈ pathOf ps i,q.1≠d:=by
 unfold freshB at h;have h':=List.all_eq_true.1 h;constructor
 ·rcases pathOf_mem ps d with h1|h1
  ·exact h1
  ·have:=h' _ h1;simp at this
 ·intro i q hq;rcases pathOf_mem ps i with h1|h1
  ·rw[h1] at hq;cases hq
  ·have:=h' _ h1;simp only[Bool.and_eq_true] at this;have:=List.all_eq_true.1 this.2 q hq;intro e;rw[e] at this;simp at this

theorem pathH_put{s:Slots}{d:Nat}{t:T}{p:Path}(h:∀q ∈ p,q.1≠d):PathH (putS s (some d) t) p↔PathH s p:=by
 unfold PathH;constructor
 ·intro hp q hq;have:=hp q hq
  rwa [slk_put,if_neg (h q hq)] at this
 ·intro hp q hq;have:=hp q hq
  rwa [slk_put,if_neg (h q hq)]

theorem put_get(a:Act)(d:Nat)(v:Value)(i:Nat)(hd:d<a.tmps.size):(a.put (some d) v).tmps.getD i undef=if i=d then v else a.tmps.getD i undef:=by
 simp only[Act.put,Array.getD_eq_getD_getElem?,Array.getElem?_setIfInBounds]
 by_cases h:d=i
 ·subst h;simp[hd]
 ·rw[if_neg h,if_neg (fun e=>h e.symm)]

section
variable {c:Ctx} {E E':Env} {H H':Heap} {w w':World} {P:Program} {G:Gam} {s:Slots} {ps:Paths} {a:Act}

theorem SlotsOk.step(h:SlotsOk E w s ps a)(hs:Step E w E' w'):SlotsOk E' w' s ps a:=⟨fun i hi=>hs.rd (h.on i hi),h.off⟩

theorem SlotsOk.put(h:SlotsOk E w s ps a){d:Nat}(hf:freshB ps d=true)(hd:d<a.tmps.size){t:T}{v:Value}(hr:Rd E w t v):SlotsOk E w (putS s (some d) t) ps (a.put (some d) v):=by
 obtain⟨h1,h2⟩:=fresh_ok hf;refine⟨fun i hi=> ?_,fun i hi=> ?_⟩
 ·rw[put_get a d v i hd,slk_put];by_cases he:i=d
  ·rw[if_pos he,if_pos he];exact hr
  ·rw[if_neg he,if_neg he];exact h.on i ((pathH_put (h2 i)).1 hi)
 ·rw[put_get a d v i hd];by_cases he:i=d
  ·subst he;rw[h1] at hi;exact absurd (fun q hq=>by cases hq) hi
  ·rw[if_neg he];exact h.off i (fun hp=>hi ((pathH_put (h2 i)).2 hp))

theorem SlotsOk.putG(h:SlotsOk E w s ps a){d:Nat}(hf:freshB ps d=true)(hd:d<a.tmps.size){p:Path}(hp:∀q ∈ p,q.1≠d){t:T}{v:Value}(hr:PathH s p->Rd E w t v)(hu:¬PathH s p->v=undef):
  SlotsOk E w (putS s (some d) t) ((d,p)::ps) (a.put (some d) v):=by
 obtain⟨h1,h2⟩:=fresh_ok hf;have hpo:∀i,pathOf ((d,p)::ps) i=if i=d then p else pathOf ps i:=by
  intro i;simp only[pathOf];split
  ·rename_i hb;rw[if_pos (Nat.eq_of_beq_eq_true hb)]
  ·rename_i hb;rw[if_neg (Nat.ne_of_beq_eq_false hb)]
 refine⟨fun i hi=> ?_,fun i hi=> ?_⟩
 ·rw[hpo] at hi;rw[put_get a d v i hd,slk_put];by_cases he:i=d
  ·rw[if_pos he] at hi;rw[if_pos he,if_pos he];exact hr ((pathH_put hp).1 hi)
  ·rw[if_neg he] at hi;rw[if_neg he,if_neg he];exact h.on i ((pathH_put (h2 i)).1 hi)
 ·rw[hpo] at hi;rw[put_get a d v i hd];by_cases he:i=d
  ·rw[if_pos he] at hi;rw[if_pos he];exact hu (fun hp'=>hi ((pathH_put hp).2 hp'))
  ·rw[if_neg he] at hi;rw[if_neg he];exact h.off i (fun hp=>hi ((pathH_put (h2 i)).2 hp))

theorem pathEq_ok:∀{p q:Path},pathEq p q=true->p=q:=by
 intro p;induction p with
 |nil=>intro q h;cases q with|nil=>rfl|cons=>simp[pathEq] at h
 |cons x p ih=>
  intro q h;cases q with
  |nil=>simp[pathEq] at h
  |cons y q=>
   obtain⟨a,b⟩:=x;obtain⟨c,d⟩:=y;simp only[pathEq,Bool.and_eq_true] at h;obtain⟨⟨h1,h2⟩,h3⟩:=h;obtain rfl:=Nat.eq_of_beq_eq_true h1;obtain rfl:=eq_of_beq h2;rw[ih h3]

theorem suf_ok{p:Path}:∀{q:Path},sufB p q=true->PathH s q->PathH s p:=by
 intro q;induction q with
 |nil=>intro h hq;rw[pathEq_ok h];exact hq
 |cons x q ih=>
  intro h hq;simp only[sufB,Bool.or_eq_true] at h;rcases h with h|h
  ·rw[pathEq_ok h];exact hq
  ·exact ih h (fun y hy=>hq y (by simp[hy]))

theorem tmpOk_ok(h:SlotsOk E w s ps a){pth:Path}(hp:PathH s pth){x:Operand}(hx:tmpOk ps pth x=true):OpOk E w a s x:=
 opOk_of fun t ht=>by
  subst ht;exact h.on t (suf_ok hx hp)

theorem paths_ok(h:SlotsOk E w s ps a){pth:Path}(hp:PathH s pth){op:Op}(hop:pathsOk ps pth op=true):
  (∀x ∈ seen op,OpOk E w a s x)/\∀c x y,op= .pick c x y->(∀b,opT s c= .bool b->b=true->OpOk E w a s x)/\(∀b,opT s c= .bool b->b=false->OpOk E w a s y):=by
 by_cases hpk:∃c x y,op= .pick c x y
 ·obtain⟨c,x,y,rfl⟩:=hpk;cases c with
  |tmp t=>
   simp only[pathsOk,Bool.and_eq_true] at hop;obtain⟨⟨h1,h2⟩,h3⟩:=hop;refine⟨fun z hz=> ?_,fun c' x' y' he=> ?_⟩
   ·simp only[seen,List.mem_singleton] at hz;subst hz;exact tmpOk_ok h hp h1
   ·cases he;refine⟨fun b hb hbt=>tmpOk_ok h (fun q hq=> ?_) h2,fun b hb hbt=>tmpOk_ok h (fun q hq=> ?_) h3⟩
    ·rcases List.mem_cons.1 hq with rfl|hq
     ·exact⟨b,hb,hbt⟩
     ·exact hp q hq
    ·rcases List.mem_cons.1 hq with rfl|hq
     ·exact⟨b,hb,hbt⟩
     ·exact hp q hq
  |const=>simp[pathsOk] at hop
  |global=>simp[pathsOk] at hop
  |func=>simp[pathsOk] at hop
 ·have hs:seen op=op.operands.toList:=by
   cases op<;>first|rfl|exact absurd ⟨_,_,_,rfl⟩ hpk
  have hall:op.operands.toList.all (tmpOk ps pth)=true:=by
   cases op<;>first|exact hop|exact absurd ⟨_,_,_,rfl⟩ hpk
  refine⟨fun x hx=>tmpOk_ok h hp (List.all_eq_true.1 hall x (by rw[←hs];exact hx)),fun c x y he=>absurd ⟨c,x,y,he⟩ hpk⟩

theorem pathProp_ok:∀{p:Path} {q:Prop},pathProp s p q->PathH s p->q:=by
 intro p;induction p with
 |nil=>intro q h _;exact h
 |cons x p ih=>
  intro q h hp;obtain⟨t,b⟩:=x;simp only[pathProp] at h;split at h
  ·rename_i y hy;have:=ih h (fun z hz=>hp z (by simp[hz]))
   obtain⟨x',hx',he⟩:=hp (t,b) (by simp)
   rw[hy] at hx';cases hx';exact this he
  ·exact h.elim

theorem pathProp_of:∀{p:Path} {q:Prop},boolPath s p=true->(PathH s p->q)->pathProp s p q:=by
 intro p;induction p with
 |nil=>intro q _ h;exact h (fun z hz=>by cases hz)
 |cons x p ih=>
  intro q hb h;obtain⟨t,b⟩:=x;simp only[boolPath] at hb;simp only[pathProp];split at hb
  ·rename_i y hy;refine ih hb fun hp he=>h fun z hz=> ?_
   rcases List.mem_cons.1 hz with rfl|hz
   ·exact⟨y,hy,he⟩
   ·exact hp z hz
  ·cases hb

theorem pathProp_not{p:Path}(hb:boolPath s p=true)(h:¬PathH s p):pathProp s p False:=pathProp_of hb fun hp=>h hp

theorem andP_ok{p:Path}{side:Option Prop}{q:Prop}(h:andP s p side q):(PathH s p->side.getD True)/\q:=by
 cases side with
 |none=>exact⟨fun _=>trivial,h⟩
 |some r=>exact⟨fun hp=>pathProp_ok h.1 hp,h.2⟩

theorem slk_endS(s:Slots)(ps:Paths)(i:Nat):slk (endS s ps) i= .und∨(slk (endS s ps) i=slk s i/\pathOf ps i=[]):=by
 induction ps with
 |nil=>exact .inr ⟨rfl,rfl⟩
 |cons x ps ih=>
  obtain⟨d,p⟩:=x;simp only[endS,slk,pathOf];split
  ·exact .inl rfl
  ·exact ih

theorem SlotsOk.ends(h:SlotsOk E w s ps a):SlotsOk E w (endS s ps) [] a:=by
 refine⟨fun i _=> ?_,fun i hi=>absurd (fun q hq=>by cases hq) hi⟩
 rcases slk_endS s ps i with he|⟨he,hp⟩
 ·rw[he];exact .und _
 ·rw[he];exact h.on i (by rw[hp];exact fun q hq=>by cases hq)

theorem stays0_ok{op:Op}{y:T}{side:Option Prop}(he:evOp0 P G s H op=some (y,H',side))(hst:stays0 G op=true):H'=H:=by
 unfold evOp0 at he;split at he
 ·simp only[Option.some.injEq,Prod.mk.injEq] at he;exact he.2.1.symm
 ·split at he
  ·rename_i r hm;simp only[Option.some.injEq] at he;subst he;unfold evMem at hm;split at hm
   all_goals first|(simp[stays0] at hst;done)|skip
   ·split at hm
    ·split at hm
     ·simp only[Option.some.injEq,Prod.mk.injEq] at hm;exact hm.2.1.symm
     ·cases hm
    ·cases hm
   ·cases hm
  ·split at he
   ·rename_i x args at_;split at he
    ·rename_i hie;simp[stays0,hie] at hst
    ·split at he
     ·simp only[Option.map_eq_some_iff,Prod.mk.injEq] at he;obtain⟨r,_,_,he,_⟩:=he;exact he.symm
     ·cases he
   ·cases he

theorem stays_ok{op:Op}{y:T}{side:Option Prop}(he:evOp P G s H op=some (y,H',side))(hst:stays G op=true):H'=H:=by
 unfold evOp at he;unfold stays at hst;split at he
 ·split at he
  ·simp only[Option.some.injEq,Prod.mk.injEq] at he;exact he.2.1.symm
  ·cases he
 ·rename_i ht;rw[ht] at hst;exact stays0_ok he hst

theorem nilCmp_ok{E:Env}{w:World}{a:Act}{s:Slots}{o:Oper}{n:Nat}{neg:Bool}(h:nilCmp P s o.op=some (n,neg))(hop:∀x ∈ seen o.op,OpOk E w a s x):
  ∃b,NilB b n/\(execOp a.eval o).run P w= .ok (.value (.bool (cond neg (!b) b))) w:=by
 obtain⟨dst,op,ty,pos,after,guard⟩:=o;simp only at h hop;unfold nilCmp at h;split at h
 case h_2=>cases h
 rename_i bop t x y rt;have hx:=hop x (by simp[seen,Op.operands])
 have hy:=hop y (by simp[seen,Op.operands])
 unfold OpOk at hx hy;have fin:∀{e:TypeId} {ad:Option Addr} {m cap:Nat},P.underlying t=some (.slice e)->a.eval x= .slice ad m cap->a.eval y= .slice none 0 0->(ad=none->m=0)->m=n->(bop= .eql/\neg=false)∨(bop= .neq/\neg=true)->
   ∃b,NilB b n/\(execOp a.eval ⟨dst,.binOp bop t x y rt,ty,pos,after,guard⟩).run P w= .ok (.value (.bool (cond neg (!b) b))) w:=by
  intro e ad m cap hu h1 h2 h3 h4 h5;refine⟨ad.isNone,fun hb=>by rw[←h4];exact h3 (by simpa using hb),?_⟩
  rcases h5 with⟨rfl,rfl⟩|⟨rfl,rfl⟩
  ·simp only[execOp,h1,h2,eqGuard_at_slice,binOp];simp[run_equal_slice_nil w t e ad m cap hu]
  ·simp only[execOp,h1,h2,eqGuard_at_slice,binOp];simp[run_equal_slice_nil w t e ad m cap hu]
 have key:∀{x:T} {v:Value} {n:Nat},((∃sz row,x= .sl sz n row)∨∃k off,x= .osl k off n)->Rd E w x v->∃ad cap,v= .slice ad n cap/\(ad=none->n=0):=by
  intro x v n hx hr;rcases hx with⟨sz,row,rfl⟩|⟨k,off,rfl⟩
  ·cases hr with
   |slNil=>exact⟨none,0,rfl,fun _=>rfl⟩
   |slEmp _ _ a=>exact⟨some a,0,rfl,fun _=>rfl⟩
   |sl _ _ _ b off cap=>exact⟨_,cap,rfl,fun h=>by cases h⟩
  ·cases hr with
   |osl _ _ _ o ad hL hn ho ha=>
    refine⟨ad,_,rfl,fun h=> ?_⟩
    by_cases hκ:E.κ k=0
    ·omega
    ·rw[ha hκ] at h;cases h
 split at h
 ·rename_i e sz n' row hu hsx hsy;simp only[Option.some.injEq,Prod.mk.injEq] at h;obtain⟨rfl,rfl⟩:=h;rw[hsx] at hx;rw[hsy] at hy;obtain⟨ad,cap,h1,h2⟩:=key (.inl ⟨_,_,rfl⟩) hx;exact fin hu h1 (rd_v hy) h2 rfl (.inl ⟨rfl,rfl⟩)
 ·rename_i e sz n' row hu hsx hsy;simp only[Option.some.injEq,Prod.mk.injEq] at h;obtain⟨rfl,rfl⟩:=h;rw[hsx] at hx;rw[hsy] at hy;obtain⟨ad,cap,h1,h2⟩:=key (.inl ⟨_,_,rfl⟩) hx;exact fin hu h1 (rd_v hy) h2 rfl (.inr ⟨rfl,rfl⟩)
 ·rename_i e k off n' hu hsx hsy;simp only[Option.some.injEq,Prod.mk.injEq] at h;obtain⟨rfl,rfl⟩:=h;rw[hsx] at hx;rw[hsy] at hy;obtain⟨ad,cap,h1,h2⟩:=key (.inr ⟨_,_,rfl⟩) hx;exact fin hu h1 (rd_v hy) h2 rfl (.inl ⟨rfl,rfl⟩)
 ·rename_i e k off n' hu hsx hsy;simp only[Option.some.injEq,Prod.mk.injEq] at h;obtain⟨rfl,rfl⟩:=h;rw[hsx] at hx;rw[hsy] at hy;obtain⟨ad,cap,h1,h2⟩:=key (.inr ⟨_,_,rfl⟩) hx;exact fin hu h1 (rd_v hy) h2 rfl (.inr ⟨rfl,rfl⟩)
 ·cases h

theorem vcOps_ok(hG:GamOk P G)(hGc:∀x ∈ G,Callable P x.1){all:Array Oper}{Q:Exit->Act->World->Prop}{K:Slots->Heap->Prop}(hK:∀s' H' a' w',K s' H'->Real c s' H' a' w'->Q .normal a' w'):
  ∀(rest:List Oper) (s:Slots) (ps:Paths) (H:Heap) (E:Env) (a:Act) (w:World),vcOps P G c.nt all rest s ps H K->RealE c E s ps H a w->wpList P all Q rest a w:=by
 intro rest;induction rest with
 |nil=>
  intro s ps H E a w h hr;exact hK _ _ _ _ h ⟨E,hr.defers,hr.size,hr.slots.ends,hr.inv⟩
 |cons o rest ih=>
  intro s ps H E a w h hr;have hput:∀(d:Option Tmp) (v:Value),(a.put d v).defers=[]/\(a.put d v).tmps.size=c.nt:=by
   intro d v;cases d with
   |none=>exact⟨hr.defers,hr.size⟩
   |some d=>exact⟨hr.defers,by simp[Act.put,hr.size]⟩
  unfold vcOps at h;split at h
  ·rename_i hg;split at h
   ·exact h.elim
   ·rename_i hchk;simp only[Bool.and_eq_true] at hchk;obtain⟨⟨hpo,hfr⟩,hdst⟩:=hchk;split at h
    ·rename_i n neg hnc;have hnil:PathH s []:=fun q hq=>by cases hq
     obtain⟨hop,hpk⟩:=paths_ok hr.slots hnil hpo;obtain⟨b,hb,hrun⟩:=nilCmp_ok (P:=P) (E:=E) (w:=w) (a:=a) hnc hop;refine wpList_plain hg fun KK hKK=>value_wp hrun (hKK _ _ (ih _ _ _ E _ _ (h b hb) ⟨(hput _ _).1,(hput _ _).2,?_,hr.inv⟩))
     cases hd:o.dst with
     |none=>exact hr.slots
     |some d=>
      rw[hd] at hfr hdst;exact hr.slots.put hfr (by rw[hr.size];exact Nat.le_of_ble_eq_true hdst) (.bool _)
    obtain⟨G',hGG,h⟩:=relP_ok hG hGc h;split at h
    ·rename_i t H' side he;obtain⟨hs,hrest⟩:=andP_ok h;have hnil:PathH s []:=fun q hq=>by cases hq
     obtain⟨hop,hpk⟩:=paths_ok hr.slots hnil hpo;refine wpList_plain hg fun KK hKK=> ?_
     refine op_ok hGG.ok hGG.call hr.inv he (hs hnil) hop hpk fun v w' E' hI hst hrd=> ?_
     refine hKK _ _ (ih _ _ _ E' _ _ hrest ⟨(hput _ _).1,(hput _ _).2,?_,hI⟩)
     cases hd:o.dst with
     |none=>exact hr.slots.step hst
     |some d=>
      rw[hd] at hfr hdst;exact(hr.slots.step hst).put hfr (by rw[hr.size];exact Nat.le_of_ble_eq_true hdst) hrd
    ·exact h.elim
  ·rename_i j want hg;split at h
   ·rename_i g hgd;split at h
    ·rename_i x hx;split at h
     ·exact h.elim
     ·rename_i hchk;simp only[Bool.and_eq_true] at hchk;obtain⟨⟨⟨hpo,hfr⟩,hdst⟩,hgk⟩:=hchk;obtain⟨d,hd⟩:∃d,o.dst=some d:=by
       cases hd:o.dst with
       |none=>rw[hd] at hgk;simp[guardOk] at hgk
       |some d=>exact⟨d,rfl⟩
      have hfr':=hfr;have hdst':=hdst;have hgk':=hgk;rw[hd] at hfr' hdst' hgk';have hdlt:d<a.tmps.size:=by rw[hr.size];exact Nat.le_of_ble_eq_true hdst'
      have hpath:∀q ∈ ((g,want)::pathOf ps g),q.1≠d:=by
       intro q hq;simp only[guardOk,Bool.and_eq_true] at hgk';rcases List.mem_cons.1 hq with rfl|hq
       ·intro e;have:=hgk'.1;simp only at e;rw[e] at this;simp at this
       ·intro e;have:=List.all_eq_true.1 hgk'.2 q hq;rw[e] at this;simp at this
      have hy:yielded all a.tmps j=match a.tmps[g]? with|some (.bool b)=>some b|_=>none:=by
       unfold yielded;rw[hgd];rfl
      have core:(PathH s ((g,want)::pathOf ps g)->o.wp P a w (wpList P all Q rest) Q)->(¬PathH s ((g,want)::pathOf ps g)->wpList P all Q rest (a.put o.dst undef) w)->wpList P all Q (o::rest) a w:=by
       intro hT skip;unfold wpList;by_cases hpg:PathH s (pathOf ps g)
       ·have hv:=hr.slots.on g hpg;rw[hx] at hv;have hv':=rd_bool hv;have hgv:a.tmps[g]? =some (.bool x):=by
         rw[Array.getD_eq_getD_getElem?] at hv';cases hq:a.tmps[g]? with
         |none=>rw[hq] at hv';simp[undef] at hv'
         |some y=>rw[hq] at hv';simp at hv';rw[hv']
        have hyl:yielded all a.tmps j=some x:=by rw[hy,hgv]
        by_cases hxw:x=want
        ·have hw:Region.wanted o (yielded all a.tmps)=true:=by simp[Region.wanted,hg,hyl,hxw]
         rw[if_pos hw];refine .inl (hT fun q hq=> ?_)
         rcases List.mem_cons.1 hq with rfl|hq
         ·exact⟨x,hx,hxw⟩
         ·exact hpg q hq
        ·have hw:¬Region.wanted o (yielded all a.tmps)=true:=by simp[Region.wanted,hg,hyl,hxw]
         rw[if_neg hw];exact skip fun hp=>by
          obtain⟨x',hx',he'⟩:=hp (g,want) (by simp)
          rw[hx] at hx';cases hx';exact hxw he'
       ·have hv':=hr.slots.off g hpg;have hyl:yielded all a.tmps j=none:=by
         rw[hy];rw[Array.getD_eq_getD_getElem?] at hv';cases hq:a.tmps[g]? with
         |none=>rfl
         |some y=>rw[hq] at hv';simp at hv';rw[hv'];rfl
        have hw:¬Region.wanted o (yielded all a.tmps)=true:=by simp[Region.wanted,hg,hyl]
        rw[if_neg hw];exact skip fun hp=>hpg fun q hq=>hp q (by simp[hq])
      have skip:∀{t:T},vcOps P G c.nt all rest (putS s o.dst t) (putP ps o.dst ((g,want)::pathOf ps g)) H K->¬PathH s ((g,want)::pathOf ps g)->wpList P all Q rest (a.put o.dst undef) w:=by
       intro t hrest hnp;refine ih _ _ _ E _ _ hrest ⟨(hput _ _).1,(hput _ _).2,?_,hr.inv⟩
       rw[hd];exact hr.slots.putG hfr' hdlt hpath (fun hp=>absurd hp hnp) (fun _=>rfl)
      split at h
      ·rename_i hst;obtain⟨G',hGG,h⟩:=relP_ok hG hGc h;split at h
       ·rename_i t H' side he;obtain rfl:=stays_ok he (by rw[hGG.stays];exact hst)
        obtain⟨hs,hrest⟩:=andP_ok h;refine core (fun hpp=> ?_) (skip hrest)
        obtain⟨hop,hpk⟩:=paths_ok hr.slots hpp hpo;refine op_ok hGG.ok hGG.call hr.inv he (hs hpp) hop hpk fun v w' E' hI hst hrd=> ?_
        refine ih _ _ _ E' _ _ hrest ⟨(hput _ _).1,(hput _ _).2,?_,hI⟩
        rw[hd];exact(hr.slots.step hst).putG hfr' hdlt hpath (fun _=>hrd) (fun hn=>absurd hpp hn)
       ·exact h.elim
      ·split at h
       ·exact h.elim
       ·rename_i hbp;obtain⟨G',hGG,h⟩:=relP_ok hG hGc h;split at h
        ·rename_i t H' side he;obtain⟨hs,hrest⟩:=andP_ok h;refine core (fun hpp=> ?_) (fun hnp=>skip (hrest.2 (pathProp_not hbp hnp)) hnp)
         obtain⟨hop,hpk⟩:=paths_ok hr.slots hpp hpo;refine op_ok hGG.ok hGG.call hr.inv he (hs hpp) hop hpk fun v w' E' hI hst hrd=> ?_
         refine ih _ _ _ E' _ _ (pathProp_ok hrest.1 hpp) ⟨(hput _ _).1,(hput _ _).2,?_,hI⟩
         rw[hd];exact(hr.slots.step hst).putG hfr' hdlt hpath (fun _=>hrd) (fun hn=>absurd hpp hn)
        ·exact h.elim
    ·exact h.elim
   ·exact h.elim

end
end Go.SS
