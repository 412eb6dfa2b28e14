/- A calculus of symbolic states: a region, in whatever order. -/
import Derived.Test.YtokaojbaacnngaaGreatSS14
import Derived.Orders
namespace Go.SS
open Go.RowKit

def HExt(H H':Heap):Prop:=∀k ob,getOb H k=some ob->getOb H' k=some ob

theorem HExt.refl(H:Heap):HExt H H:=fun _ _ h=>h
theorem HExt.trans{A B C:Heap}(h:HExt A B)(k:HExt B C):HExt A C:=fun i ob hi=>k i ob (h i ob hi)

section
variable {P:Program} {G:Gam} {H H':Heap} {s:Slots}

theorem HExt.getA(h:HExt H H'){k:Nat}{A:Arr}(hk:getA H k=some A):SS.getA H' k=some A:=by
 obtain⟨ob,hob,⟨rfl,hi⟩|⟨v,ty,sz,n,row,rfl,rfl⟩⟩:=getA_ok hk
 ·exact getOb_getA (h k ob hob) hi
 ·unfold SS.getA;rw[h k _ hob]

theorem HExt.getOwn(h:HExt H H'){k v i j:Nat}{A:Own}(hk:getOwn H k v i j=some A):SS.getOwn H' k v i j=some A:=by
 obtain⟨ty,sz,row,hob,_,_⟩:=getOwn_ok hk;unfold SS.getOwn at hk ⊢;rw[h k _ hob];rw[hob] at hk;exact hk

theorem evLook_ext(h:HExt H H'){t:TypeId}{x y:T}{r:T×Option Prop}(he:evLook P H t x y=some r):evLook P H' t x y=some r:=by
 unfold evLook at he ⊢;split at he
 ·split at he
  ·rename_i hk;simp only[h _ _ hk];exact he
  ·cases he
 ·split at he
  ·rename_i hk;simp only[h _ _ hk];exact he
  ·cases he
 ·cases he

theorem evLoad_ext(h:HExt H H'){t:TypeId}{x:T}{r:T×Option Prop}(he:evLoad P H t x=some r):evLoad P H' t x=some r:=by
 unfold evLoad at he ⊢;split at he
 ·exact he
 ·split at he
  ·rename_i hk;rw[h.getA hk];exact he
  ·cases he
 ·split at he
  ·rename_i hk;rw[h.getOwn hk];exact he
  ·cases he
 ·cases he

theorem evIndexAddr_ext(h:HExt H H'){t:TypeId}{x i:T}{r:T×Option Prop}(he:evIndexAddr P H t x i=some r):evIndexAddr P H' t x i=some r:=by
 unfold evIndexAddr at he ⊢;split at he
 ·split at he
  case h_3 hu=>
   split at he
   ·rename_i hk;simp only[h.getA hk];exact he
   ·cases he
  case h_4 hu=>
   split at he
   ·rename_i hk;simp only[h.getOwn hk];exact he
   ·cases he
  all_goals first|(cases he;done)|(exact he)
 ·cases he

theorem evConv_ext(h:HExt H H'){a b:TypeId}{x:T}{r:T×Option Prop}(he:evConv P H a b x=some r):evConv P H' a b x=some r:=by
 unfold evConv at he ⊢;split at he
 case h_4 hu1 hu2=>
  split at he
  ·rename_i hu3 hk;simp only[hu3,h _ _ hk];exact he
  ·cases he
 all_goals first|(cases he;done)|(exact he)

theorem evSlice_ext(h:HExt H H'){t:TypeId}{x:T}{lo hi:Option T}{r:T×Option Prop}(he:evSlice P H t x lo hi=some r):evSlice P H' t x lo hi=some r:=by
 unfold evSlice at he ⊢;split at he
 ·split at he
  case h_4 hu=>
   split at he
   ·rename_i hk;simp only[h.getA hk];exact he
   ·cases he
  all_goals first|(cases he;done)|(exact he)
 ·cases he

theorem evVal_ext(h:HExt H H'){op:Op}{r:T×Option Prop}(he:evVal P s H op=some r):evVal P s H' op=some r:=by
 unfold evVal at he ⊢;split at he
 case h_4=>exact evLoad_ext h he
 case h_8=>exact evConv_ext h he
 case h_11=>exact evIndexAddr_ext h he
 case h_15=>exact evSlice_ext h he
 case h_18=>exact evLook_ext h he
 all_goals first|exact he|(cases he;done)

theorem mapO_ext{α β:Type}{f g:α->Option β}(h:∀a b,f a=some b->g a=some b):∀{l:List α} {q:List β},mapO f l=some q->mapO g l=some q:=by
 intro l;induction l with
 |nil=>intro q hq;exact hq
 |cons x l ih=>
  intro q hq;simp only[mapO] at hq ⊢;split at hq
  ·rename_i hb hr;rw[h _ _ hb,ih hr];exact hq
  ·cases hq

theorem borrow_ext{b0:Nat}(h:HExt H H'):∀(d:Nat) {t:T} {r:T×Option Prop},borrow b0 H d t=some r->borrow b0 H' d t=some r:=by
 intro d;induction d with
 |zero=>intro t r he;simp[borrow] at he
 |succ d ih=>
  intro t r he;unfold borrow at he ⊢;split at he
  ·split at he
   ·exact he
   split at he
   ·rename_i A hk;simp only[h.getA hk];split at he
    ·rename_i hA;split at he
     ·rename_i hm;rw[mapO_ext (fun a b hb=>ih hb) hm]
      exact he
     ·cases he
    ·cases he
   ·cases he
  ·split at he
   ·exact he
   split at he
   ·rename_i hk;simp only[h _ _ hk];exact he
   ·rename_i hk;simp only[h _ _ hk];exact he
   ·rename_i hk;simp only[h _ _ hk];exact he
   ·cases he
  ·simp only[Option.map_eq_some_iff] at he ⊢;obtain⟨a,ha,rfl⟩:=he;exact⟨a,mapO_ext (fun a b hb=>ih hb) ha,rfl⟩
  ·simp only[Option.map_eq_some_iff] at he ⊢;obtain⟨a,ha,rfl⟩:=he;exact⟨a,mapO_ext (fun a b hb=>ih hb) ha,rfl⟩
  ·simp only[Option.map_eq_some_iff] at he ⊢;obtain⟨a,ha,rfl⟩:=he;exact⟨a,mapO_ext (fun a b hb=>ih hb) ha,rfl⟩
  ·cases he
  ·split at he
   ·exact he
   split at he
   ·rename_i hk;simp only[h.getOwn hk];exact he
   ·cases he
  ·exact he
  ·cases he
  ·exact he

theorem evPure_ext(h:HExt H H'){f:FuncId}{args:List T}{r:T×Option Prop}(he:evPure G H f args=some r):evPure G H' f args=some r:=by
 unfold evPure at he ⊢;split at he
 ·exact he
 ·split at he
  ·rename_i hb;rw[mapO_ext (fun a b hb=>borrow_ext h 6 hb) hb]
   exact he
  ·cases he

theorem evOp0_ext(h:HExt H H'){op:Op}{y:T}{H1:Heap}{side:Option Prop}(hst:stays0 G op=true)(he:evOp0 P G s H op=some (y,H1,side)):evOp0 P G s H' op=some (y,H',side):=by
 unfold evOp0 at he;split at he
 ·rename_i hv;simp only[Option.some.injEq,Prod.mk.injEq] at he;obtain⟨rfl,rfl,rfl⟩:=he;unfold evOp0;rw[evVal_ext h hv]
 ·rename_i hv;split at he
  ·rename_i r hm;simp only[Option.some.injEq] at he;subst he;unfold evMem at hm;split at hm
   case h_6 src dst x=>
    split at hm
    ·rename_i e l hs hd hx;split at hm
     ·rename_i hb;simp only[Option.some.injEq,Prod.mk.injEq] at hm;obtain⟨rfl,rfl,rfl⟩:=hm;have h1:evVal P s H' (.convert src dst x)=none:=by simp only[evVal,evConv,hs,hd,hx]
      unfold evOp0;rw[h1];simp only[evMem,hs,hd,hx,hb]
     ·cases hm
    ·cases hm
   all_goals first|(simp[stays0] at hst;done)|(cases hm;done)
  ·rename_i hm;split at he
   ·rename_i f args argTypes;split at he
    ·rename_i hie;simp[stays0,hie] at hst
    ·rename_i hie;split at he
     ·rename_i g cs hfn;simp only[Option.map_eq_some_iff,Prod.mk.injEq] at he;obtain⟨r,hr,rfl,rfl,rfl⟩:=he;unfold evOp0;simp only[evVal,evMem,hie,hfn,evPure_ext h hr,Option.map_some]
     ·cases he
   ·cases he

theorem evOp0_pure{op:Op}{y:T}{H1:Heap}{side:Option Prop}(hp:pureB op=true)(he:evOp0 P G s H op=some (y,H1,side)):evOp0 P G s H' op=some (y,H',side):=by
 have hv:evVal P s H' op=evVal P s H op:=by
  unfold pureB at hp;split at hp<;>first|(cases hp;done)|rfl
 have hm:evMem P s H op=none:=by
  unfold pureB at hp;split at hp<;>first|(cases hp;done)|rfl
 have hc:∀c,op≠ .call c:=by
  rintro c rfl;simp[pureB] at hp
 unfold evOp0 at he ⊢;rw[hv];split at he
 ·simp only[Option.some.injEq,Prod.mk.injEq] at he ⊢;exact⟨he.1,trivial,he.2.2⟩
 ·rw[hm] at he;simp only at he;split at he
  ·exact absurd rfl (hc _)
  ·cases he

theorem hext_append(H:Heap)(x:Option Ob):HExt H (H++[x]):=by
 intro k ob hk;rw[getOb_append,if_pos (getOb_lt hk)];exact hk

theorem geff_mk{G:Gam}{f:FuncId}{c:List T->Option (T×Heap×Option Prop)}(h:gfind G f=some (.mk c)):geff G f=none:=by
 induction G with
 |nil=>cases h
 |cons x G ih=>
  obtain⟨g,d⟩:=x;simp only[gfind] at h;simp only[geff];split at h
  ·simp only[Option.some.injEq] at h;subst h;rfl
  ·exact ih h

theorem gfz_none{G:Gam}{f:FuncId}{c:Con}(h:gfind G f=some c)(hc:c.isMk=true):gfz G f=none:=by
 induction G with
 |nil=>cases h
 |cons x G ih=>
  obtain⟨g,d⟩:=x;simp only[gfind] at h;simp only[gfz];split at h
  ·simp only[Option.some.injEq] at h;subst h;cases d<;>first|rfl|(cases hc)
  ·exact ih h

theorem evMk_ext{c:List T->Option (T×Heap×Option Prop)}{args:List T}{y:T}{side:Option Prop}(he:evMk c H args=some (y,H',side)):HExt H H':=by
 unfold evMk at he;split at he
 ·split at he
  ·split at he
   ·simp only[Option.some.injEq,Prod.mk.injEq] at he;obtain⟨_,rfl,_⟩:=he;intro k ob hk;unfold getOb at hk ⊢;have hlt:=getOb_lt hk
    rwa [List.getElem?_append_left hlt]
   ·cases he
  ·cases he
 ·cases he

theorem grow0_ext{op:Op}{y:T}{side:Option Prop}(hg:growB G op=true)(he:evOp0 P G s H op=some (y,H',side)):HExt H H':=by
 unfold evOp0 at he;split at he
 ·simp only[Option.some.injEq,Prod.mk.injEq] at he;obtain⟨_,rfl,_⟩:=he;exact HExt.refl H
 ·split at he
  ·rename_i r hm;simp only[Option.some.injEq] at he;subst he;have box:∀{t:TypeId} {cs:List T} {y:T} {H':Heap} {side:Option Prop},evBox P H t cs=some (y,H',side)->HExt H H':=by
    intro t cs y H' side hb;unfold evBox at hb;split at hb
    ·simp only[Option.some.injEq,Prod.mk.injEq] at hb;obtain⟨_,rfl,_⟩:=hb;exact hext_append H _
    ·cases hb
   unfold evMem at hm;split at hm
   ·split at hm
    ·exact box hm
    ·cases hm
   ·split at hm
    ·exact box hm
    ·cases hm
   ·simp[growB] at hg
   ·unfold evMake at hm;split at hm
    ·split at hm
     ·split at hm
      ·simp only[Option.some.injEq,Prod.mk.injEq] at hm;obtain⟨_,rfl,_⟩:=hm;exact hext_append H _
      ·cases hm
     ·cases hm
    ·cases hm
   ·unfold evBuildSlice at hm;split at hm
    ·split at hm
     ·split at hm
      ·split at hm
       ·split at hm
        ·simp only[Option.map_eq_some_iff,Prod.mk.injEq] at hm;obtain⟨_,_,_,rfl,_⟩:=hm;exact hext_append H _
        ·split at hm
         ·simp only[Option.some.injEq,Prod.mk.injEq] at hm;obtain⟨_,rfl,_⟩:=hm;exact hext_append H _
         ·cases hm
       ·cases hm
      ·cases hm
     ·cases hm
    ·cases hm
   case h_8=>
    simp only[Option.map_eq_some_iff,Prod.mk.injEq] at hm;obtain⟨r',hr,rfl,rfl,_⟩:=hm;unfold evMakeMap at hr;split at hr
    ·simp only[Option.some.injEq] at hr;subst hr;exact hext_append H _
    ·simp only[Option.some.injEq] at hr;subst hr;exact hext_append H _
    ·split at hr
     ·simp only[Option.some.injEq] at hr;subst hr;exact hext_append H _
     ·cases hr
   case h_10=>
    unfold evSlice0 at hm;split at hm
    ·split at hm
     ·split at hm
      ·simp only[Option.some.injEq,Prod.mk.injEq] at hm;obtain⟨_,rfl,_⟩:=hm;exact hext_append H _
      ·cases hm
     ·cases hm
    ·cases hm
   all_goals first|(cases hm;done)|(simp[growB] at hg)
  ·split at he
   ·rename_i x args argTypes;simp only[growB] at hg;unfold isMk at hg;split at hg
    ·rename_i f;split at hg
     ·rename_i cn hcn;have h1:isEff G (.func f)=true:=by
       simp only[isEff,hcn];cases cn<;>first|rfl|(cases hg)
      have h2:geff G f=none:=by
       cases cn<;>first|(cases hg;done)|skip
       ·exact geff_mk hcn
       ·exact(geff_none hcn rfl).1
      rw[h1] at he;simp only at he;unfold evEff at he;rw[h2] at he;simp only at he;split at he
      ·exact evMk_ext he
      ·rw[gfz_none hcn (by cases cn<;>first|rfl|(cases hg))] at he
       cases he
     ·cases hg
    ·cases hg
   ·cases he

def ExtOn(R:List Nat)(H H':Heap):Prop:=∀k,k ∈ R->∀ob,getOb H k=some ob->getOb H' k=some ob

theorem evOp0_dep{op:Op}{y:T}{H1:Heap}{side:Option Prop}{R:List Nat}(hr:readB s op=some R)(hst:stays0 G op=true)(hx:ExtOn R H H')(he:evOp0 P G s H op=some (y,H1,side)):evOp0 P G s H' op=some (y,H',side):=by
 have val:∀{r:T×Option Prop},evVal P s H op=some r->evVal P s H' op=some r->evOp0 P G s H' op=some (y,H',side):=by
  intro r h1 h2;unfold evOp0 at he ⊢;rw[h1] at he;rw[h2];simp only[Option.some.injEq,Prod.mk.injEq] at he ⊢;exact⟨he.1,trivial,he.2.2⟩
 unfold readB at hr;split at hr
 ·rename_i t a;split at hr
  ·rename_i k i j ha;simp only[Option.some.injEq] at hr;subst hr;have hv:∀r,evVal P s H (.load t a)=some r->evVal P s H' (.load t a)=some r:=by
    intro r h;simp only[evVal,ha,evLoad,getA] at h ⊢;cases hob:getOb H k with
    |none=>rw[hob] at h;simp at h
    |some ob=>
     rw[hx k (by simp) ob hob]
     rw[hob] at h;exact h
   cases hv0:evVal P s H (.load t a) with
   |none=>
    unfold evOp0 at he;rw[hv0] at he;simp[evMem] at he
   |some r=>exact val hv0 (hv r hv0)
  ·rename_i cs ha;cases hv0:evVal P s H (.load t a) with
   |none=>
    unfold evOp0 at he;rw[hv0] at he;simp[evMem] at he
   |some r=>
    refine val hv0 ?_
    simp only[evVal,ha,evLoad] at hv0 ⊢;exact hv0
  ·cases hr
 ·rename_i t x ix;have hv:∀r,evVal P s H (.indexAddr t x ix)=some r->evVal P s H' (.indexAddr t x ix)=some r:=by
   intro r h;simp only[evVal] at h ⊢;unfold evIndexAddr at h ⊢;split at hr
   ·rename_i ha;rw[ha] at h ⊢;generalize opT s ix=q at h ⊢;generalize P.underlying t=u at h ⊢;cases q<;>first|exact h|skip
    cases u with
    |none=>exact h
    |some d=>cases d<;>exact h
   ·rename_i ha;rw[ha] at h ⊢;generalize opT s ix=q at h ⊢;generalize P.underlying t=u at h ⊢;cases q<;>first|exact h|skip
    cases u with
    |none=>exact h
    |some d=>cases d<;>exact h
   ·rename_i k off n ha;simp only[Option.some.injEq] at hr;subst hr;rw[ha] at h ⊢;generalize opT s ix=q at h ⊢;generalize P.underlying t=u at h ⊢;cases q<;>first|exact h|skip
    cases u with
    |none=>exact h
    |some d=>
     cases d<;>first|exact h|skip
     simp only[getA] at h ⊢;cases hob:getOb H k with
     |none=>rw[hob] at h;simp at h
     |some ob=>
      rw[hx k (by simp) ob hob]
      rw[hob] at h;exact h
   ·cases hr
  cases hv0:evVal P s H (.indexAddr t x ix) with
  |none=>
   unfold evOp0 at he;rw[hv0] at he;simp[evMem] at he
  |some r=>exact val hv0 (hv r hv0)
 ·rename_i src dst x;have same:evVal P s H' (.convert src dst x)=evVal P s H (.convert src dst x):=by
   simp only[evVal];split at hr
   ·rename_i ha;unfold evConv;rw[ha];cases P.underlying src with
    |none=>rfl
    |some d=>cases P.underlying dst with
     |none=>cases d<;>rfl
     |some d'=>cases d<;>cases d'<;>rfl
   ·rename_i ha;unfold evConv;rw[ha];cases P.underlying src with
    |none=>rfl
    |some d=>cases P.underlying dst with
     |none=>cases d<;>rfl
     |some d'=>cases d<;>cases d'<;>rfl
   ·rename_i ha;unfold evConv;rw[ha];cases P.underlying src with
    |none=>rfl
    |some d=>cases P.underlying dst with
     |none=>cases d<;>rfl
     |some d'=>cases d<;>cases d'<;>rfl
   ·cases hr
  cases hv0:evVal P s H (.convert src dst x) with
  |none=>
   unfold evOp0 at he ⊢;rw[same,hv0];rw[hv0] at he;simp only at he ⊢;have hmm:∀r,evMem P s H (.convert src dst x)=some r->evMem P s H' (.convert src dst x)=some (r.1,H',r.2.2):=by
    intro r hm;unfold evMem at hm ⊢;simp only at hm ⊢;generalize P.underlying src=a at hm ⊢;generalize P.underlying dst=b at hm ⊢;generalize opT s x=c at hm ⊢;split at hm
    ·split at hm
     ·rename_i hb;simp only[hb,Option.some.injEq] at hm ⊢;subst hm;rfl
     ·cases hm
    ·cases hm
   cases hm:evMem P s H (.convert src dst x) with
   |none=>
    rw[hm] at he;simp at he
   |some r=>
    rw[hm] at he;simp only[Option.some.injEq] at he;subst he;rw[hmm _ hm]
  |some r=>exact val hv0 (same.trans hv0)
 ·rename_i t x lo hi;have hv:∀r,evVal P s H (.slice t x lo hi none)=some r->evVal P s H' (.slice t x lo hi none)=some r:=by
   intro r h;simp only[evVal] at h ⊢;unfold evSlice at h ⊢;generalize intOfT (lo.map (opT s))=q1 at h ⊢;generalize intOfT (hi.map (opT s))=q2 at h ⊢;generalize P.underlying t=u at h ⊢;split at hr
   ·rename_i ha;rw[ha] at h ⊢;cases q1<;>cases q2<;>first|exact h|skip
    cases u with
    |none=>exact h
    |some d=>cases d<;>exact h
   ·rename_i ha;rw[ha] at h ⊢;cases q1<;>cases q2<;>first|exact h|skip
    cases u with
    |none=>exact h
    |some d=>cases d<;>exact h
   ·rename_i ha;rw[ha] at h ⊢;cases q1<;>cases q2<;>first|exact h|skip
    cases u with
    |none=>exact h
    |some d=>cases d<;>exact h
   ·rename_i k off n ha;simp only[Option.some.injEq] at hr;subst hr;rw[ha] at h ⊢;cases q1<;>cases q2<;>first|exact h|skip
    cases u with
    |none=>exact h
    |some d=>
     cases d<;>first|exact h|skip
     simp only[getA] at h ⊢;cases hob:getOb H k with
     |none=>rw[hob] at h;simp at h
     |some ob=>
      rw[hx k (by simp) ob hob]
      rw[hob] at h;exact h
   ·cases hr
  cases hv0:evVal P s H (.slice t x lo hi none) with
  |none=>
   unfold evOp0 at he;rw[hv0] at he;simp[evMem] at he
  |some r=>exact val hv0 (hv r hv0)
 ·simp[stays0] at hst
 ·rename_i args argTypes;have same:evVal P s H' (.call {callee:=.builtin .len,args,argTypes})=evVal P s H (.call {callee:=.builtin .len,args,argTypes}):=rfl;cases hv0:evVal P s H (.call {callee:=.builtin .len,args,argTypes}) with
  |none=>
   unfold evOp0 at he;rw[hv0] at he;simp[evMem] at he
  |some r=>exact val hv0 (same.trans hv0)
 ·rename_i x args argTypes;split at hr
  ·rename_i f cs hf;split at hr
   ·rename_i hcl;have he2:isEff G x=false:=by simpa[stays0] using hst
    unfold evOp0 at he ⊢;simp only[evVal,evMem,he2,hf] at he ⊢;unfold evPure at he ⊢;rw[hcl] at he ⊢;simp only[Option.map_eq_some_iff,Prod.mk.injEq] at he ⊢;obtain⟨r,h1,h2,h3,h4⟩:=he;exact⟨r,h1,h2,trivial,h4⟩
   ·cases hr
  ·cases hr
 ·cases hr

theorem getOb_set_ne{H:Heap}{j k:Nat}{x:Option Ob}(h:j≠k):getOb (H.set j x) k=getOb H k:=by
 unfold getOb;rw[List.getElem?_set_ne h]
theorem setObs_keep:∀{ks:List Nat} {os:List (Option Ob)} {H:Heap} {k:Nat},k ∉ ks->getOb (setObs H ks os) k=getOb H k
 | [],os,H,k,_=>by cases os<;>rfl
 |j::ks,[],H,k,_=>rfl
 |j::ks,o::os,H,k,h=>by
  simp only[List.mem_cons,not_or] at h;show getOb (setObs (H.set j o) ks os) k=_;rw[setObs_keep h.2,getOb_set_ne (Ne.symm h.1)]
theorem dropObs_keep:∀{ks:List Nat} {H:Heap} {k:Nat},k ∉ ks->getOb (dropObs H ks) k=getOb H k
 | [],H,k,_=>rfl
 |j::ks,H,k,h=>by
  simp only[List.mem_cons,not_or] at h;show getOb (dropObs (H.set j none) ks) k=_;rw[dropObs_keep h.2,getOb_set_ne (Ne.symm h.1)]
theorem appK(A B:Heap)(k:Nat){ob:Ob}(h:getOb A k=some ob):getOb (A++B) k=some ob:=by
 have hlt:=getOb_lt h;unfold getOb at h ⊢
 rwa [List.getElem?_append_left hlt]
theorem write0_keep{op:Op}{y:T}{side:Option Prop}{W:List Nat}(hw:writeB H s op=some W)(he:evOp0 P G s H op=some (y,H',side)):∀k,k ∉ W->∀ob,getOb H k=some ob->getOb H' k=some ob:=by
 intro k hk ob hob;have app:∀(A:Heap) (x:Option Ob),getOb A k=some ob->getOb (A++[x]) k=some ob:=fun A x h=>hext_append A x k ob h
 unfold writeB at hw;split at hw
 ·rename_i args argTypes;unfold evOp0 at he;simp only[evVal] at he;split at he
  ·rename_i r hm;simp only[Option.some.injEq] at he;subst he;simp only[evMem] at hm;split at hm
   ·rename_i d x t tx h1 h2;rw[h1] at hw;simp only at hw;unfold evAppend at hm;split at hm
    ·split at hm
     ·rename_i i z hi hz;split at hm
      ·rename_i hd;split at hm
       ·simp only[Option.map_eq_some_iff,Prod.mk.injEq] at hm;obtain⟨q,_,_,rfl,_⟩:=hm;exact app _ _ hob
       ·simp only[Option.map_eq_some_iff,Prod.mk.injEq] at hm;obtain⟨q,_,_,rfl,_⟩:=hm;exact app _ _ hob
      ·split at hm
       ·cases hm
       ·simp only[Option.map_eq_some_iff,Prod.mk.injEq] at hm;obtain⟨q,_,_,rfl,_⟩:=hm;exact app _ _ hob
      ·rename_i k0 n hb1 hb2 hd;rw[hd] at hw;simp only at hw;split at hw
       ·cases hw
       rename_i hnf;simp only[Option.some.injEq] at hw;subst hw;have hne:k0≠k:=fun h=>hk (by simp[h])
       have hob':∀x,getOb (H.set k0 x) k=some ob:=fun x=>by rw[getOb_set_ne hne];exact hob
       split at hm
       ·split at hm
        ·simp only[Option.map_eq_some_iff,Prod.mk.injEq] at hm;obtain⟨q,_,_,rfl,_⟩:=hm;exact app _ _ (hob' _)
        ·cases hm
       ·split at hm
        ·simp only[Option.map_eq_some_iff,Prod.mk.injEq] at hm;obtain⟨q,_,_,rfl,_⟩:=hm;exact app _ _ (hob' _)
        ·cases hm
       ·rename_i hf;exact absurd hf (hnf _ _ _ _ _)
       ·cases hm
      ·cases hm
     ·cases hm
    ·cases hm
   ·cases hm
  ·cases he
 ·rename_i t a x;unfold evOp0 at he;simp only[evVal] at he;split at he
  ·rename_i r hm;simp only[Option.some.injEq] at he;subst he;simp only[evMem,Option.map_eq_some_iff] at hm;obtain⟨q,hq,hq2⟩:=hm;simp only[Prod.mk.injEq] at hq2;obtain⟨_,rfl,_⟩:=hq2;split at hw
   ·rename_i k0 i j ha;have hne:k0≠k:=fun h=>by
     subst h;split at hw
     ·split at hw
      ·simp only[Option.some.injEq] at hw;subst hw;simp at hk
      ·cases hw
     ·simp only[Option.some.injEq] at hw;subst hw;simp at hk
    rw[ha] at hq;simp only[evStore] at hq;split at hq
    ·split at hq
     ·simp only[Option.some.injEq] at hq;subst hq;simp only;rw[getOb_set_ne hne];exact hob
     ·cases hq
    ·split at hq
     ·simp only[Option.some.injEq] at hq;subst hq;simp only;rw[getOb_set_ne hne];exact hob
     ·cases hq
    ·rename_i hf _ _ _;rw[hf] at hw;simp only at hw;split at hq
     ·split at hq
      ·simp only[Option.some.injEq] at hq;subst hq;simp only;rw[getOb_set_ne hne];exact hob
      ·rename_i hcl;rw[hcl] at hw;cases hw
     ·cases hq
    ·cases hq
   ·rename_i k0 v i j z a1 b1 ha;simp only[Option.some.injEq] at hw;subst hw;have hne:k0≠k:=fun h=>hk (by simp[h])
    rw[ha] at hq;simp only[evStore] at hq;split at hq
    ·split at hq
     ·simp only[Option.some.injEq] at hq;subst hq;simp only;rw[getOb_set_ne hne];exact hob
     ·cases hq
    ·cases hq
   ·cases hw
  ·cases he
 ·rename_i x args argTypes;have e1:evVal P s H (.call {callee:=.value x,args:=args,argTypes:=argTypes})=none:=rfl;have e2:evMem P s H (.call {callee:=.value x,args:=args,argTypes:=argTypes})=none:=rfl;unfold evOp0 at he;simp only[e1,e2] at he;have key:∀f cs,fnOf s x=some (f,cs)->evEff G H f (args.toList.map (opT s)++cs)=some (y,H',side)->getOb H' k=some ob:=fun f cs hf hv=>by
   rw[hf] at hw;simp only at hw;generalize args.toList.map (opT s)++cs=as at hw hv;split at hw
   ·cases hw
   rename_i hnp;simp only[Option.some.injEq] at hw;subst hw;unfold evEff at hv;split at hv
   ·split at hv
    ·exact absurd rfl (hnp _ _ _ _ _ _)
    ·unfold evEffAt at hv;split at hv
     ·split at hv
      ·split at hv
       ·simp only[Option.some.injEq,Prod.mk.injEq] at hv;obtain⟨_,rfl,_⟩:=hv;exact appK _ _ _ (by rw[setObs_keep hk];exact hob)
       ·cases hv
      ·cases hv
     ·cases hv
   ·split at hv
    ·exact evMk_ext hv k ob hob
    ·split at hv
     ·unfold evFz at hv;split at hv
      ·split at hv
       ·simp only[Option.some.injEq,Prod.mk.injEq] at hv;obtain⟨_,rfl,_⟩:=hv;rw[dropObs_keep hk];exact hob
       ·cases hv
      ·cases hv
     ·cases hv
  have pure:∀as f,(evPure G H f as).map (fun r=>(r.1,H,r.2))=some (y,H',side)->getOb H' k=some ob:=fun as f hv=>by
   rw[Option.map_eq_some_iff] at hv;obtain⟨q,_,hq⟩:=hv;simp only[Prod.mk.injEq] at hq;obtain⟨_,rfl,_⟩:=hq;exact hob
  split at he
  ·split at he
   ·rename_i f _;exact key f [] rfl (by rw[List.append_nil];exact he)
   ·split at he
    ·rename_i f cs hf;split at he
     ·exact key f cs hf he
     ·exact pure _ _ he
    ·cases he
  ·split at he
   ·exact pure _ _ he
   ·cases he
 ·cases hw

theorem evTmp_turn{op:Op}{y:T}{H1:Heap}{side:Option Prop}(ht:tmpS G op=true)(he:evOp P G s H op=some (y,H1,side)):H1=H/\evOp P G s H' op=some (y,H',side):=by
 unfold evOp at he ⊢;rw[ht] at he ⊢;simp only at he ⊢;split at he
 ·rename_i t p hv;simp only[Option.some.injEq,Prod.mk.injEq] at he;obtain⟨rfl,rfl,rfl⟩:=he;exact⟨rfl,rfl⟩
 ·cases he

theorem evOp_0{op:Op}(ht:tmpS G op=false):evOp P G s H op=evOp0 P G s H op:=by unfold evOp;rw[ht]
theorem stays_0{op:Op}(ht:tmpS G op=false):stays G op=stays0 G op:=by unfold stays;rw[ht]

theorem evOp_ext(h:HExt H H'){op:Op}{y:T}{H1:Heap}{side:Option Prop}(hst:stays G op=true)(he:evOp P G s H op=some (y,H1,side)):evOp P G s H' op=some (y,H',side):=by
 cases ht:tmpS G op with
 |true=>exact(evTmp_turn ht he).2
 |false=>rw[evOp_0 ht] at he ⊢;rw[stays_0 ht] at hst;exact evOp0_ext h hst he

theorem evOp_pure{op:Op}{y:T}{H1:Heap}{side:Option Prop}(hp:pureB op=true)(he:evOp P G s H op=some (y,H1,side)):evOp P G s H' op=some (y,H',side):=by
 cases ht:tmpS G op with
 |true=>exact(evTmp_turn ht he).2
 |false=>rw[evOp_0 ht] at he ⊢;exact evOp0_pure hp he

theorem grow_ext{op:Op}{y:T}{side:Option Prop}(hg:growB G op=true)(he:evOp P G s H op=some (y,H',side)):HExt H H':=by
 cases ht:tmpS G op with
 |true=>rw[(evTmp_turn (H':=H) ht he).1];exact fun k ob hk=>hk
 |false=>rw[evOp_0 ht] at he;exact grow0_ext hg he

theorem evMk_same{c:List T->Option (T×Heap×Option Prop)}{args:List T}{y:T}{side:Option Prop}(he:evMk c H args=some (y,H',side)):
  ∃os,H'=H++os/\∀H2:Heap,H2.length=H.length->HExt H H2->evMk c H2 args=some (y,H2++os,side):=by
 unfold evMk at he;split at he
 ·rename_i bs hbs;split at he
  ·rename_i r H0 p hc;split at he
   ·rename_i r' os hr hos;simp only[Option.some.injEq,Prod.mk.injEq] at he;obtain⟨rfl,rfl,rfl⟩:=he;refine⟨os,rfl,fun H2 hl hx=> ?_⟩
    unfold evMk;rw[mapO_ext (fun a b hb=>borrow_ext hx 6 hb) hbs]
    simp only[hc,hl,hr,hos]
   ·cases he
  ·cases he
 ·cases he

theorem mk_same{op:Op}{y:T}{side:Option Prop}(hf:floatB G op=true)(he:evOp P G s H op=some (y,H',side)):
  ∃os,H'=H++os/\∀H2:Heap,H2.length=H.length->HExt H H2->evOp P G s H2 op=some (y,H2++os,side):=by
 unfold floatB at hf;simp only[Bool.and_eq_true] at hf;obtain⟨hv,hg⟩:=hf;unfold isCallV at hv;split at hv
 case h_2=>cases hv
 rename_i x args at_;have ht:tmpS G (.call {callee:=.value x,args:=args,argTypes:=at_})=false:=rfl;rw[evOp_0 ht] at he
 suffices hh:∃os,H'=H++os/\∀H2:Heap,H2.length=H.length->HExt H H2->evOp0 P G s H2 (.call {callee:=.value x,args:=args,argTypes:=at_})=some (y,H2++os,side) by
  obtain⟨os,h1,h2⟩:=hh;exact⟨os,h1,fun H2 hl hx=>by rw[evOp_0 ht];exact h2 H2 hl hx⟩
 have e1:∀H,evVal P s H (.call {callee:=.value x,args:=args,argTypes:=at_})=none:=fun H=>rfl
 have e2:∀H,evMem P s H (.call {callee:=.value x,args:=args,argTypes:=at_})=none:=fun H=>rfl
 unfold evOp0 at he ⊢;simp only[e1,e2] at he ⊢;simp only[growB] at hg;unfold isMk at hg;split at hg
 ·rename_i f;split at hg
  ·rename_i cn hcn;have h1:isEff G (.func f)=true:=by
    simp only[isEff,hcn];cases cn<;>first|rfl|(cases hg)
   have h2:geff G f=none:=by
    cases cn<;>first|(cases hg;done)|skip
    ·exact geff_mk hcn
    ·exact(geff_none hcn rfl).1
   simp only[h1] at he ⊢;unfold evEff at he ⊢;rw[h2] at he;simp only[h2] at he ⊢;split at he
   ·rename_i c hc;obtain⟨os,e3,e4⟩:=evMk_same he;exact⟨os,e3,fun H2 hl hx=>e4 H2 hl hx⟩
   ·rw[gfz_none hcn (by cases cn<;>first|rfl|(cases hg))] at he
    cases he
  ·cases hg
 ·cases hg

theorem evAl_ok{t:TypeId}{r:Nat}{y:T}(he:evAl P H t r=some (y,H')):∃z,zeroCells P t=some z/\z.all oneT=true/\getOb H r=none/\r<H.length/\y= .ref r 0 0/\H'=H.set r (some (.arr (z.all closedT) 1000000 z.length 1 fun _=>z)):=by
 unfold evAl at he;split at he
 ·rename_i z hz;split at he
  ·rename_i h1 h2 h3 h4;simp only[Option.some.injEq,Prod.mk.injEq] at he;exact⟨z,hz,h2,h3,Nat.le_of_ble_eq_true h4,he.1.symm,he.2.symm⟩
  ·cases he
 ·cases he

theorem evAl_ext{t:TypeId}{r:Nat}{y:T}(he:evAl P H t r=some (y,H')):HExt H H':=by
 obtain⟨z,_,_,h3,h4,_,rfl⟩:=evAl_ok he;intro k ob hk;rw[getOb_set h4];split
 ·rename_i e;rw[e,h3] at hk;cases hk
 ·exact hk

theorem evOp_dep{op:Op}{y:T}{H1:Heap}{side:Option Prop}{R:List Nat}(hr:readB s op=some R)(hst:stays G op=true)(hx:ExtOn R H H')(he:evOp P G s H op=some (y,H1,side)):evOp P G s H' op=some (y,H',side):=by
 cases ht:tmpS G op with
 |true=>exact(evTmp_turn ht he).2
 |false=>rw[evOp_0 ht] at he ⊢;rw[stays_0 ht] at hst;exact evOp0_dep hr hst hx he

theorem write_keep{op:Op}{y:T}{side:Option Prop}{W:List Nat}(hw:writeB H s op=some W)(he:evOp P G s H op=some (y,H',side)):∀k,k ∉ W->∀ob,getOb H k=some ob->getOb H' k=some ob:=by
 cases ht:tmpS G op with
 |true=>rw[(evTmp_turn (H':=H) ht he).1];exact fun k _ ob hk=>hk
 |false=>rw[evOp_0 ht] at he;exact write0_keep hw he

end
end Go.SS
