/- A calculus of symbolic states: a region, in whatever order. -/
import Derived.Test.YtokaojbaacnngaaGreatSS14
import Derived.Orders
namespace Go.SS
open Go.RowKit

def J5(H H':Y5):Prop:=∀k ob,Z4 H k=some ob->Z4 H' k=some ob

theorem J5.refl(H:Y5):J5 H H:=fun _ _ h=>h
theorem J5.trans{A B C:Y5}(h:J5 A B)(k:J5 B C):J5 A C:=fun i ob hi=>k i ob (h i ob hi)

section
variable {P:Program} {G:K8} {H H':Y5} {s:X2}

theorem J5.getA(h:J5 H H'){k:Nat}{A:Arr}(hk:getA H k=some A):SS.getA H' k=some A:=by
 obtain⟨ob,hob,⟨rfl,hi⟩|⟨v,ty,sz,n,row,rfl,rfl⟩⟩:=a8z hk
 ·exact b5U (h k ob hob) hi
 ·unfold SS.getA;rw[h k _ hob]

theorem J5.getOwn(h:J5 H H'){k v i j:Nat}{A:Own}(hk:getOwn H k v i j=some A):SS.getOwn H' k v i j=some A:=by
 obtain⟨ty,sz,row,hob,_,_⟩:=u9 hk;unfold SS.getOwn at hk ⊢;rw[h k _ hob];rw[hob] at hk;exact hk

theorem b39(h:J5 H H'){t:TypeId}{x y:T}{r:T×Option Prop}(he:a20 P H t x y=some r):a20 P H' t x y=some r:=by
 unfold a20 at he ⊢;split at he
 ·split at he
  ·rename_i hk;simp only[h _ _ hk];exact he
  ·cases he
 ·split at he
  ·rename_i hk;simp only[h _ _ hk];exact he
  ·cases he
 ·cases he

theorem b3P(h:J5 H H'){t:TypeId}{x:T}{r:T×Option Prop}(he:s6 P H t x=some r):s6 P H' t x=some r:=by
 unfold s6 at he ⊢;split at he
 ·exact he
 ·split at he
  ·rename_i hk;rw[h.getA hk];exact he
  ·cases he
 ·split at he
  ·rename_i hk;rw[h.getOwn hk];exact he
  ·cases he
 ·cases he

theorem a3w(h:J5 H H'){t:TypeId}{x i:T}{r:T×Option Prop}(he:I1 P H t x i=some r):I1 P H' t x i=some r:=by
 unfold I1 at he ⊢;split at he
 ·split at he
  case h_3 hu=>
   split at he
   ·rename_i hk;simp only[h.getA hk];exact he
   ·cases he
  case h_4 hu=>
   split at he
   ·rename_i hk;simp only[h.getOwn hk];exact he
   ·cases he
  all_goals first|(cases he;done)|(exact he)
 ·cases he

theorem b4f(h:J5 H H'){a b:TypeId}{x:T}{r:T×Option Prop}(he:j5 P H a b x=some r):j5 P H' a b x=some r:=by
 unfold j5 at he ⊢;split at he
 case h_4 hu1 hu2=>
  split at he
  ·rename_i hu3 hk;simp only[hu3,h _ _ hk];exact he
  ·cases he
 all_goals first|(cases he;done)|(exact he)

theorem b1R(h:J5 H H'){t:TypeId}{x:T}{lo hi:Option T}{r:T×Option Prop}(he:a0s P H t x lo hi=some r):a0s P H' t x lo hi=some r:=by
 unfold a0s at he ⊢;split at he
 ·split at he
  case h_4 hu=>
   split at he
   ·rename_i hk;simp only[h.getA hk];exact he
   ·cases he
  all_goals first|(cases he;done)|(exact he)
 ·cases he

theorem c2L(h:J5 H H'){op:Op}{r:T×Option Prop}(he:Q0 P s H op=some r):Q0 P s H' op=some r:=by
 unfold Q0 at he ⊢;split at he
 case h_4=>exact b3P h he
 case h_8=>exact b4f h he
 case h_11=>exact a3w h he
 case h_15=>exact b1R h he
 case h_18=>exact b39 h he
 all_goals first|exact he|(cases he;done)

theorem a0g{α β:Type}{f g:α->Option β}(h:∀a b,f a=some b->g a=some b):∀{l:List α} {q:List β},Q9 f l=some q->Q9 g l=some q:=by
 intro l;induction l with
 |nil=>intro q hq;exact hq
 |cons x l ih=>
  intro q hq;simp only[Q9] at hq ⊢;split at hq
  ·rename_i hb hr;rw[h _ _ hb,ih hr];exact hq
  ·cases hq

theorem a4W{b0:Nat}(h:J5 H H'):∀(d:Nat) {t:T} {r:T×Option Prop},Q3 b0 H d t=some r->Q3 b0 H' d t=some r:=by
 intro d;induction d with
 |zero=>intro t r he;simp[Q3] at he
 |succ d ih=>
  intro t r he;unfold Q3 at he ⊢;split at he
  ·split at he
   ·exact he
   split at he
   ·rename_i A hk;simp only[h.getA hk];split at he
    ·rename_i hA;split at he
     ·rename_i hm;rw[a0g (fun a b hb=>ih hb) hm]
      exact he
     ·cases he
    ·cases he
   ·cases he
  ·split at he
   ·exact he
   split at he
   ·rename_i hk;simp only[h _ _ hk];exact he
   ·rename_i hk;simp only[h _ _ hk];exact he
   ·rename_i hk;simp only[h _ _ hk];exact he
   ·cases he
  ·simp only[Option.map_eq_some_iff] at he ⊢;obtain⟨a,ha,rfl⟩:=he;exact⟨a,a0g (fun a b hb=>ih hb) ha,rfl⟩
  ·simp only[Option.map_eq_some_iff] at he ⊢;obtain⟨a,ha,rfl⟩:=he;exact⟨a,a0g (fun a b hb=>ih hb) ha,rfl⟩
  ·simp only[Option.map_eq_some_iff] at he ⊢;obtain⟨a,ha,rfl⟩:=he;exact⟨a,a0g (fun a b hb=>ih hb) ha,rfl⟩
  ·cases he
  ·split at he
   ·exact he
   split at he
   ·rename_i hk;simp only[h.getOwn hk];exact he
   ·cases he
  ·exact he
  ·cases he
  ·exact he

theorem b6P(h:J5 H H'){f:FuncId}{args:List T}{r:T×Option Prop}(he:y5 G H f args=some r):y5 G H' f args=some r:=by
 unfold y5 at he ⊢;split at he
 ·exact he
 ·split at he
  ·rename_i hb;rw[a0g (fun a b hb=>a4W h 6 hb) hb]
   exact he
  ·cases he

theorem c05(h:J5 H H'){op:Op}{y:T}{H1:Y5}{side:Option Prop}(hst:D0 G op=true)(he:O7 P G s H op=some (y,H1,side)):O7 P G s H' op=some (y,H',side):=by
 unfold O7 at he;split at he
 ·rename_i hv;simp only[Option.some.injEq,Prod.mk.injEq] at he;obtain⟨rfl,rfl,rfl⟩:=he;unfold O7;rw[c2L h hv]
 ·rename_i hv;split at he
  ·rename_i r hm;simp only[Option.some.injEq] at he;subst he;unfold H3 at hm;split at hm
   case h_6 src dst x=>
    split at hm
    ·rename_i e l hs hd hx;split at hm
     ·rename_i hb;simp only[Option.some.injEq,Prod.mk.injEq] at hm;obtain⟨rfl,rfl,rfl⟩:=hm;have h1:Q0 P s H' (.convert src dst x)=none:=by simp only[Q0,j5,hs,hd,hx]
      unfold O7;rw[h1];simp only[H3,hs,hd,hx,hb]
     ·cases hm
    ·cases hm
   all_goals first|(simp[D0] at hst;done)|(cases hm;done)
  ·rename_i hm;split at he
   ·rename_i f args argTypes;split at he
    ·rename_i hie;simp[D0,hie] at hst
    ·rename_i hie;split at he
     ·rename_i g cs hfn;simp only[Option.map_eq_some_iff,Prod.mk.injEq] at he;obtain⟨r,hr,rfl,rfl,rfl⟩:=he;unfold O7;simp only[Q0,H3,hie,hfn,b6P h hr,Option.map_some]
     ·cases he
   ·cases he

theorem b3W{op:Op}{y:T}{H1:Y5}{side:Option Prop}(hp:pureB op=true)(he:O7 P G s H op=some (y,H1,side)):O7 P G s H' op=some (y,H',side):=by
 have hv:Q0 P s H' op=Q0 P s H op:=by
  unfold pureB at hp;split at hp<;>first|(cases hp;done)|rfl
 have hm:H3 P s H op=none:=by
  unfold pureB at hp;split at hp<;>first|(cases hp;done)|rfl
 have hc:∀c,op≠ .call c:=by
  rintro c rfl;simp[pureB] at hp
 unfold O7 at he ⊢;rw[hv];split at he
 ·simp only[Option.some.injEq,Prod.mk.injEq] at he ⊢;exact⟨he.1,trivial,he.2.2⟩
 ·rw[hm] at he;simp only at he;split at he
  ·exact absurd rfl (hc _)
  ·cases he

theorem M4(H:Y5)(x:Option Ob):J5 H (H++[x]):=by
 intro k ob hk;rw[D7,if_pos (M3 hk)];exact hk

theorem b7V{G:K8}{f:FuncId}{c:List T->Option (T×Y5×Option Prop)}(h:s5 G f=some (.mk c)):a3x G f=none:=by
 induction G with
 |nil=>cases h
 |cons x G ih=>
  obtain⟨g,d⟩:=x;simp only[s5] at h;simp only[a3x];split at h
  ·simp only[Option.some.injEq] at h;subst h;rfl
  ·exact ih h

theorem b1j{G:K8}{f:FuncId}{c:Con}(h:s5 G f=some c)(hc:c.isMk=true):gfz G f=none:=by
 induction G with
 |nil=>cases h
 |cons x G ih=>
  obtain⟨g,d⟩:=x;simp only[s5] at h;simp only[gfz];split at h
  ·simp only[Option.some.injEq] at h;subst h;cases d<;>first|rfl|(cases hc)
  ·exact ih h

theorem a9K{c:List T->Option (T×Y5×Option Prop)}{args:List T}{y:T}{side:Option Prop}(he:a7m c H args=some (y,H',side)):J5 H H':=by
 unfold a7m at he;split at he
 ·split at he
  ·split at he
   ·simp only[Option.some.injEq,Prod.mk.injEq] at he;obtain⟨_,rfl,_⟩:=he;intro k ob hk;unfold Z4 at hk ⊢;have hlt:=M3 hk
    rwa [List.getElem?_append_left hlt]
   ·cases he
  ·cases he
 ·cases he

theorem c0s{op:Op}{y:T}{side:Option Prop}(hg:w8 G op=true)(he:O7 P G s H op=some (y,H',side)):J5 H H':=by
 unfold O7 at he;split at he
 ·simp only[Option.some.injEq,Prod.mk.injEq] at he;obtain⟨_,rfl,_⟩:=he;exact J5.refl H
 ·split at he
  ·rename_i r hm;simp only[Option.some.injEq] at he;subst he;have box:∀{t:TypeId} {cs:List T} {y:T} {H':Y5} {side:Option Prop},a6I P H t cs=some (y,H',side)->J5 H H':=by
    intro t cs y H' side hb;unfold a6I at hb;split at hb
    ·simp only[Option.some.injEq,Prod.mk.injEq] at hb;obtain⟨_,rfl,_⟩:=hb;exact M4 H _
    ·cases hb
   unfold H3 at hm;split at hm
   ·split at hm
    ·exact box hm
    ·cases hm
   ·split at hm
    ·exact box hm
    ·cases hm
   ·simp[w8] at hg
   ·unfold a7o at hm;split at hm
    ·split at hm
     ·split at hm
      ·simp only[Option.some.injEq,Prod.mk.injEq] at hm;obtain⟨_,rfl,_⟩:=hm;exact M4 H _
      ·cases hm
     ·cases hm
    ·cases hm
   ·unfold w5 at hm;split at hm
    ·split at hm
     ·split at hm
      ·split at hm
       ·split at hm
        ·simp only[Option.map_eq_some_iff,Prod.mk.injEq] at hm;obtain⟨_,_,_,rfl,_⟩:=hm;exact M4 H _
        ·split at hm
         ·simp only[Option.some.injEq,Prod.mk.injEq] at hm;obtain⟨_,rfl,_⟩:=hm;exact M4 H _
         ·cases hm
       ·cases hm
      ·cases hm
     ·cases hm
    ·cases hm
   case h_8=>
    simp only[Option.map_eq_some_iff,Prod.mk.injEq] at hm;obtain⟨r',hr,rfl,rfl,_⟩:=hm;unfold a0e at hr;split at hr
    ·simp only[Option.some.injEq] at hr;subst hr;exact M4 H _
    ·simp only[Option.some.injEq] at hr;subst hr;exact M4 H _
    ·split at hr
     ·simp only[Option.some.injEq] at hr;subst hr;exact M4 H _
     ·cases hr
   case h_10=>
    unfold a2c at hm;split at hm
    ·split at hm
     ·split at hm
      ·simp only[Option.some.injEq,Prod.mk.injEq] at hm;obtain⟨_,rfl,_⟩:=hm;exact M4 H _
      ·cases hm
     ·cases hm
    ·cases hm
   all_goals first|(cases hm;done)|(simp[w8] at hg)
  ·split at he
   ·rename_i x args argTypes;simp only[w8] at hg;unfold isMk at hg;split at hg
    ·rename_i f;split at hg
     ·rename_i cn hcn;have h1:isEff G (.func f)=true:=by
       simp only[isEff,hcn];cases cn<;>first|rfl|(cases hg)
      have h2:a3x G f=none:=by
       cases cn<;>first|(cases hg;done)|skip
       ·exact b7V hcn
       ·exact(a6p hcn rfl).1
      rw[h1] at he;simp only at he;unfold a1n at he;rw[h2] at he;simp only at he;split at he
      ·exact a9K he
      ·rw[b1j hcn (by cases cn<;>first|rfl|(cases hg))] at he
       cases he
     ·cases hg
    ·cases hg
   ·cases he

def a6G(R:List Nat)(H H':Y5):Prop:=∀k,k ∈ R->∀ob,Z4 H k=some ob->Z4 H' k=some ob

theorem b9X{op:Op}{y:T}{H1:Y5}{side:Option Prop}{R:List Nat}(hr:a6r s op=some R)(hst:D0 G op=true)(hx:a6G R H H')(he:O7 P G s H op=some (y,H1,side)):O7 P G s H' op=some (y,H',side):=by
 have val:∀{r:T×Option Prop},Q0 P s H op=some r->Q0 P s H' op=some r->O7 P G s H' op=some (y,H',side):=by
  intro r h1 h2;unfold O7 at he ⊢;rw[h1] at he;rw[h2];simp only[Option.some.injEq,Prod.mk.injEq] at he ⊢;exact⟨he.1,trivial,he.2.2⟩
 unfold a6r at hr;split at hr
 ·rename_i t a;split at hr
  ·rename_i k i j ha;simp only[Option.some.injEq] at hr;subst hr;have hv:∀r,Q0 P s H (.load t a)=some r->Q0 P s H' (.load t a)=some r:=by
    intro r h;simp only[Q0,ha,s6,getA] at h ⊢;cases hob:Z4 H k with
    |none=>rw[hob] at h;simp at h
    |some ob=>
     rw[hx k (by simp) ob hob]
     rw[hob] at h;exact h
   cases hv0:Q0 P s H (.load t a) with
   |none=>
    unfold O7 at he;rw[hv0] at he;simp[H3] at he
   |some r=>exact val hv0 (hv r hv0)
  ·rename_i cs ha;cases hv0:Q0 P s H (.load t a) with
   |none=>
    unfold O7 at he;rw[hv0] at he;simp[H3] at he
   |some r=>
    refine val hv0 ?_
    simp only[Q0,ha,s6] at hv0 ⊢;exact hv0
  ·cases hr
 ·rename_i t x ix;have hv:∀r,Q0 P s H (.indexAddr t x ix)=some r->Q0 P s H' (.indexAddr t x ix)=some r:=by
   intro r h;simp only[Q0] at h ⊢;unfold I1 at h ⊢;split at hr
   ·rename_i ha;rw[ha] at h ⊢;generalize P2 s ix=q at h ⊢;generalize P.underlying t=u at h ⊢;cases q<;>first|exact h|skip
    cases u with
    |none=>exact h
    |some d=>cases d<;>exact h
   ·rename_i ha;rw[ha] at h ⊢;generalize P2 s ix=q at h ⊢;generalize P.underlying t=u at h ⊢;cases q<;>first|exact h|skip
    cases u with
    |none=>exact h
    |some d=>cases d<;>exact h
   ·rename_i k off n ha;simp only[Option.some.injEq] at hr;subst hr;rw[ha] at h ⊢;generalize P2 s ix=q at h ⊢;generalize P.underlying t=u at h ⊢;cases q<;>first|exact h|skip
    cases u with
    |none=>exact h
    |some d=>
     cases d<;>first|exact h|skip
     simp only[getA] at h ⊢;cases hob:Z4 H k with
     |none=>rw[hob] at h;simp at h
     |some ob=>
      rw[hx k (by simp) ob hob]
      rw[hob] at h;exact h
   ·cases hr
  cases hv0:Q0 P s H (.indexAddr t x ix) with
  |none=>
   unfold O7 at he;rw[hv0] at he;simp[H3] at he
  |some r=>exact val hv0 (hv r hv0)
 ·rename_i src dst x;have same:Q0 P s H' (.convert src dst x)=Q0 P s H (.convert src dst x):=by
   simp only[Q0];split at hr
   ·rename_i ha;unfold j5;rw[ha];cases P.underlying src with
    |none=>rfl
    |some d=>cases P.underlying dst with
     |none=>cases d<;>rfl
     |some d'=>cases d<;>cases d'<;>rfl
   ·rename_i ha;unfold j5;rw[ha];cases P.underlying src with
    |none=>rfl
    |some d=>cases P.underlying dst with
     |none=>cases d<;>rfl
     |some d'=>cases d<;>cases d'<;>rfl
   ·rename_i ha;unfold j5;rw[ha];cases P.underlying src with
    |none=>rfl
    |some d=>cases P.underlying dst with
     |none=>cases d<;>rfl
     |some d'=>cases d<;>cases d'<;>rfl
   ·cases hr
  cases hv0:Q0 P s H (.convert src dst x) with
  |none=>
   unfold O7 at he ⊢;rw[same,hv0];rw[hv0] at he;simp only at he ⊢;have hmm:∀r,H3 P s H (.convert src dst x)=some r->H3 P s H' (.convert src dst x)=some (r.1,H',r.2.2):=by
    intro r hm;unfold H3 at hm ⊢;simp only at hm ⊢;generalize P.underlying src=a at hm ⊢;generalize P.underlying dst=b at hm ⊢;generalize P2 s x=c at hm ⊢;split at hm
    ·split at hm
     ·rename_i hb;simp only[hb,Option.some.injEq] at hm ⊢;subst hm;rfl
     ·cases hm
    ·cases hm
   cases hm:H3 P s H (.convert src dst x) with
   |none=>
    rw[hm] at he;simp at he
   |some r=>
    rw[hm] at he;simp only[Option.some.injEq] at he;subst he;rw[hmm _ hm]
  |some r=>exact val hv0 (same.trans hv0)
 ·rename_i t x lo hi;have hv:∀r,Q0 P s H (.slice t x lo hi none)=some r->Q0 P s H' (.slice t x lo hi none)=some r:=by
   intro r h;simp only[Q0] at h ⊢;unfold a0s at h ⊢;generalize j4 (lo.map (P2 s))=q1 at h ⊢;generalize j4 (hi.map (P2 s))=q2 at h ⊢;generalize P.underlying t=u at h ⊢;split at hr
   ·rename_i ha;rw[ha] at h ⊢;cases q1<;>cases q2<;>first|exact h|skip
    cases u with
    |none=>exact h
    |some d=>cases d<;>exact h
   ·rename_i ha;rw[ha] at h ⊢;cases q1<;>cases q2<;>first|exact h|skip
    cases u with
    |none=>exact h
    |some d=>cases d<;>exact h
   ·rename_i ha;rw[ha] at h ⊢;cases q1<;>cases q2<;>first|exact h|skip
    cases u with
    |none=>exact h
    |some d=>cases d<;>exact h
   ·rename_i k off n ha;simp only[Option.some.injEq] at hr;subst hr;rw[ha] at h ⊢;cases q1<;>cases q2<;>first|exact h|skip
    cases u with
    |none=>exact h
    |some d=>
     cases d<;>first|exact h|skip
     simp only[getA] at h ⊢;cases hob:Z4 H k with
     |none=>rw[hob] at h;simp at h
     |some ob=>
      rw[hx k (by simp) ob hob]
      rw[hob] at h;exact h
   ·cases hr
  cases hv0:Q0 P s H (.slice t x lo hi none) with
  |none=>
   unfold O7 at he;rw[hv0] at he;simp[H3] at he
  |some r=>exact val hv0 (hv r hv0)
 ·simp[D0] at hst
 ·rename_i args argTypes;have same:Q0 P s H' (.call {callee:=.builtin .len,args,argTypes})=Q0 P s H (.call {callee:=.builtin .len,args,argTypes}):=rfl;cases hv0:Q0 P s H (.call {callee:=.builtin .len,args,argTypes}) with
  |none=>
   unfold O7 at he;rw[hv0] at he;simp[H3] at he
  |some r=>exact val hv0 (same.trans hv0)
 ·rename_i x args argTypes;split at hr
  ·rename_i f cs hf;split at hr
   ·rename_i hcl;have he2:isEff G x=false:=by simpa[D0] using hst
    unfold O7 at he ⊢;simp only[Q0,H3,he2,hf] at he ⊢;unfold y5 at he ⊢;rw[hcl] at he ⊢;simp only[Option.map_eq_some_iff,Prod.mk.injEq] at he ⊢;obtain⟨r,h1,h2,h3,h4⟩:=he;exact⟨r,h1,h2,trivial,h4⟩
   ·cases hr
  ·cases hr
 ·cases hr

theorem K1{H:Y5}{j k:Nat}{x:Option Ob}(h:j≠k):Z4 (H.set j x) k=Z4 H k:=by
 unfold Z4;rw[List.getElem?_set_ne h]
theorem a3v:∀{ks:List Nat} {os:List (Option Ob)} {H:Y5} {k:Nat},k ∉ ks->Z4 (H6 H ks os) k=Z4 H k
 | [],os,H,k,_=>by cases os<;>rfl
 |j::ks,[],H,k,_=>rfl
 |j::ks,o::os,H,k,h=>by
  simp only[List.mem_cons,not_or] at h;show Z4 (H6 (H.set j o) ks os) k=_;rw[a3v h.2,K1 (Ne.symm h.1)]
theorem a2r:∀{ks:List Nat} {H:Y5} {k:Nat},k ∉ ks->Z4 (L4 H ks) k=Z4 H k
 | [],H,k,_=>rfl
 |j::ks,H,k,h=>by
  simp only[List.mem_cons,not_or] at h;show Z4 (L4 (H.set j none) ks) k=_;rw[a2r h.2,K1 (Ne.symm h.1)]
theorem d7l(A B:Y5)(k:Nat){ob:Ob}(h:Z4 A k=some ob):Z4 (A++B) k=some ob:=by
 have hlt:=M3 h;unfold Z4 at h ⊢
 rwa [List.getElem?_append_left hlt]
theorem b04{op:Op}{y:T}{side:Option Prop}{W:List Nat}(hw:a24 H s op=some W)(he:O7 P G s H op=some (y,H',side)):∀k,k ∉ W->∀ob,Z4 H k=some ob->Z4 H' k=some ob:=by
 intro k hk ob hob;have app:∀(A:Y5) (x:Option Ob),Z4 A k=some ob->Z4 (A++[x]) k=some ob:=fun A x h=>M4 A x k ob h
 unfold a24 at hw;split at hw
 ·rename_i args argTypes;unfold O7 at he;simp only[Q0] at he;split at he
  ·rename_i r hm;simp only[Option.some.injEq] at he;subst he;simp only[H3] at hm;split at hm
   ·rename_i d x t tx h1 h2;rw[h1] at hw;simp only at hw;unfold a2i at hm;split at hm
    ·split at hm
     ·rename_i i z hi hz;split at hm
      ·rename_i hd;split at hm
       ·simp only[Option.map_eq_some_iff,Prod.mk.injEq] at hm;obtain⟨q,_,_,rfl,_⟩:=hm;exact app _ _ hob
       ·simp only[Option.map_eq_some_iff,Prod.mk.injEq] at hm;obtain⟨q,_,_,rfl,_⟩:=hm;exact app _ _ hob
      ·split at hm
       ·cases hm
       ·simp only[Option.map_eq_some_iff,Prod.mk.injEq] at hm;obtain⟨q,_,_,rfl,_⟩:=hm;exact app _ _ hob
      ·rename_i k0 n hb1 hb2 hd;rw[hd] at hw;simp only at hw;split at hw
       ·cases hw
       rename_i hnf;simp only[Option.some.injEq] at hw;subst hw;have hne:k0≠k:=fun h=>hk (by simp[h])
       have hob':∀x,Z4 (H.set k0 x) k=some ob:=fun x=>by rw[K1 hne];exact hob
       split at hm
       ·split at hm
        ·simp only[Option.map_eq_some_iff,Prod.mk.injEq] at hm;obtain⟨q,_,_,rfl,_⟩:=hm;exact app _ _ (hob' _)
        ·cases hm
       ·split at hm
        ·simp only[Option.map_eq_some_iff,Prod.mk.injEq] at hm;obtain⟨q,_,_,rfl,_⟩:=hm;exact app _ _ (hob' _)
        ·cases hm
       ·rename_i hf;exact absurd hf (hnf _ _ _ _ _)
       ·cases hm
      ·cases hm
     ·cases hm
    ·cases hm
   ·cases hm
  ·cases he
 ·rename_i t a x;unfold O7 at he;simp only[Q0] at he;split at he
  ·rename_i r hm;simp only[Option.some.injEq] at he;subst he;simp only[H3,Option.map_eq_some_iff] at hm;obtain⟨q,hq,hq2⟩:=hm;simp only[Prod.mk.injEq] at hq2;obtain⟨_,rfl,_⟩:=hq2;split at hw
   ·rename_i k0 i j ha;have hne:k0≠k:=fun h=>by
     subst h;split at hw
     ·split at hw
      ·simp only[Option.some.injEq] at hw;subst hw;simp at hk
      ·cases hw
     ·simp only[Option.some.injEq] at hw;subst hw;simp at hk
    rw[ha] at hq;simp only[a09] at hq;split at hq
    ·split at hq
     ·simp only[Option.some.injEq] at hq;subst hq;simp only;rw[K1 hne];exact hob
     ·cases hq
    ·split at hq
     ·simp only[Option.some.injEq] at hq;subst hq;simp only;rw[K1 hne];exact hob
     ·cases hq
    ·rename_i hf _ _ _;rw[hf] at hw;simp only at hw;split at hq
     ·split at hq
      ·simp only[Option.some.injEq] at hq;subst hq;simp only;rw[K1 hne];exact hob
      ·rename_i hcl;rw[hcl] at hw;cases hw
     ·cases hq
    ·cases hq
   ·rename_i k0 v i j z a1 b1 ha;simp only[Option.some.injEq] at hw;subst hw;have hne:k0≠k:=fun h=>hk (by simp[h])
    rw[ha] at hq;simp only[a09] at hq;split at hq
    ·split at hq
     ·simp only[Option.some.injEq] at hq;subst hq;simp only;rw[K1 hne];exact hob
     ·cases hq
    ·cases hq
   ·cases hw
  ·cases he
 ·rename_i x args argTypes;have e1:Q0 P s H (.call {callee:=.value x,args:=args,argTypes:=argTypes})=none:=rfl;have e2:H3 P s H (.call {callee:=.value x,args:=args,argTypes:=argTypes})=none:=rfl;unfold O7 at he;simp only[e1,e2] at he;have key:∀f cs,a73 s x=some (f,cs)->a1n G H f (args.toList.map (P2 s)++cs)=some (y,H',side)->Z4 H' k=some ob:=fun f cs hf hv=>by
   rw[hf] at hw;simp only at hw;generalize args.toList.map (P2 s)++cs=as at hw hv;split at hw
   ·cases hw
   rename_i hnp;simp only[Option.some.injEq] at hw;subst hw;unfold a1n at hv;split at hv
   ·split at hv
    ·exact absurd rfl (hnp _ _ _ _ _ _)
    ·unfold a2p at hv;split at hv
     ·split at hv
      ·split at hv
       ·simp only[Option.some.injEq,Prod.mk.injEq] at hv;obtain⟨_,rfl,_⟩:=hv;exact d7l _ _ _ (by rw[a3v hk];exact hob)
       ·cases hv
      ·cases hv
     ·cases hv
   ·split at hv
    ·exact a9K hv k ob hob
    ·split at hv
     ·unfold d1u at hv;split at hv
      ·split at hv
       ·simp only[Option.some.injEq,Prod.mk.injEq] at hv;obtain⟨_,rfl,_⟩:=hv;rw[a2r hk];exact hob
       ·cases hv
      ·cases hv
     ·cases hv
  have pure:∀as f,(y5 G H f as).map (fun r=>(r.1,H,r.2))=some (y,H',side)->Z4 H' k=some ob:=fun as f hv=>by
   rw[Option.map_eq_some_iff] at hv;obtain⟨q,_,hq⟩:=hv;simp only[Prod.mk.injEq] at hq;obtain⟨_,rfl,_⟩:=hq;exact hob
  split at he
  ·split at he
   ·rename_i f _;exact key f [] rfl (by rw[List.append_nil];exact he)
   ·split at he
    ·rename_i f cs hf;split at he
     ·exact key f cs hf he
     ·exact pure _ _ he
    ·cases he
  ·split at he
   ·exact pure _ _ he
   ·cases he
 ·cases hw

theorem t8{op:Op}{y:T}{H1:Y5}{side:Option Prop}(ht:a1G G op=true)(he:D5 P G s H op=some (y,H1,side)):H1=H/\D5 P G s H' op=some (y,H',side):=by
 unfold D5 at he ⊢;rw[ht] at he ⊢;simp only at he ⊢;split at he
 ·rename_i t p hv;simp only[Option.some.injEq,Prod.mk.injEq] at he;obtain⟨rfl,rfl,rfl⟩:=he;exact⟨rfl,rfl⟩
 ·cases he

theorem a1W{op:Op}(ht:a1G G op=false):D5 P G s H op=O7 P G s H op:=by unfold D5;rw[ht]
theorem b7s{op:Op}(ht:a1G G op=false):stays G op=D0 G op:=by unfold stays;rw[ht]

theorem c8D(h:J5 H H'){op:Op}{y:T}{H1:Y5}{side:Option Prop}(hst:stays G op=true)(he:D5 P G s H op=some (y,H1,side)):D5 P G s H' op=some (y,H',side):=by
 cases ht:a1G G op with
 |true=>exact(t8 ht he).2
 |false=>rw[a1W ht] at he ⊢;rw[b7s ht] at hst;exact c05 h hst he

theorem c2E{op:Op}{y:T}{H1:Y5}{side:Option Prop}(hp:pureB op=true)(he:D5 P G s H op=some (y,H1,side)):D5 P G s H' op=some (y,H',side):=by
 cases ht:a1G G op with
 |true=>exact(t8 ht he).2
 |false=>rw[a1W ht] at he ⊢;exact b3W hp he

theorem b05{op:Op}{y:T}{side:Option Prop}(hg:w8 G op=true)(he:D5 P G s H op=some (y,H',side)):J5 H H':=by
 cases ht:a1G G op with
 |true=>rw[(t8 (H':=H) ht he).1];exact fun k ob hk=>hk
 |false=>rw[a1W ht] at he;exact c0s hg he

theorem c2h{c:List T->Option (T×Y5×Option Prop)}{args:List T}{y:T}{side:Option Prop}(he:a7m c H args=some (y,H',side)):
  ∃os,H'=H++os/\∀H2:Y5,H2.length=H.length->J5 H H2->a7m c H2 args=some (y,H2++os,side):=by
 unfold a7m at he;split at he
 ·rename_i bs hbs;split at he
  ·rename_i r H0 p hc;split at he
   ·rename_i r' os hr hos;simp only[Option.some.injEq,Prod.mk.injEq] at he;obtain⟨rfl,rfl,rfl⟩:=he;refine⟨os,rfl,fun H2 hl hx=> ?_⟩
    unfold a7m;rw[a0g (fun a b hb=>a4W hx 6 hb) hbs]
    simp only[hc,hl,hr,hos]
   ·cases he
  ·cases he
 ·cases he

theorem d1e{op:Op}{y:T}{side:Option Prop}(hf:floatB G op=true)(he:D5 P G s H op=some (y,H',side)):
  ∃os,H'=H++os/\∀H2:Y5,H2.length=H.length->J5 H H2->D5 P G s H2 op=some (y,H2++os,side):=by
 unfold floatB at hf;simp only[Bool.and_eq_true] at hf;obtain⟨hv,hg⟩:=hf;unfold b7y at hv;split at hv
 case h_2=>cases hv
 rename_i x args at_;have ht:a1G G (.call {callee:=.value x,args:=args,argTypes:=at_})=false:=rfl;rw[a1W ht] at he
 suffices hh:∃os,H'=H++os/\∀H2:Y5,H2.length=H.length->J5 H H2->O7 P G s H2 (.call {callee:=.value x,args:=args,argTypes:=at_})=some (y,H2++os,side) by
  obtain⟨os,h1,h2⟩:=hh;exact⟨os,h1,fun H2 hl hx=>by rw[a1W ht];exact h2 H2 hl hx⟩
 have e1:∀H,Q0 P s H (.call {callee:=.value x,args:=args,argTypes:=at_})=none:=fun H=>rfl
 have e2:∀H,H3 P s H (.call {callee:=.value x,args:=args,argTypes:=at_})=none:=fun H=>rfl
 unfold O7 at he ⊢;simp only[e1,e2] at he ⊢;simp only[w8] at hg;unfold isMk at hg;split at hg
 ·rename_i f;split at hg
  ·rename_i cn hcn;have h1:isEff G (.func f)=true:=by
    simp only[isEff,hcn];cases cn<;>first|rfl|(cases hg)
   have h2:a3x G f=none:=by
    cases cn<;>first|(cases hg;done)|skip
    ·exact b7V hcn
    ·exact(a6p hcn rfl).1
   simp only[h1] at he ⊢;unfold a1n at he ⊢;rw[h2] at he;simp only[h2] at he ⊢;split at he
   ·rename_i c hc;obtain⟨os,e3,e4⟩:=c2h he;exact⟨os,e3,fun H2 hl hx=>e4 H2 hl hx⟩
   ·rw[b1j hcn (by cases cn<;>first|rfl|(cases hg))] at he
    cases he
  ·cases hg
 ·cases hg

theorem a1Y{t:TypeId}{r:Nat}{y:T}(he:c6B P H t r=some (y,H')):∃z,zeroCells P t=some z/\z.all O0=true/\Z4 H r=none/\r<H.length/\y= .ref r 0 0/\H'=H.set r (some (.arr (z.all X4) 1000000 z.length 1 fun _=>z)):=by
 unfold c6B at he;split at he
 ·rename_i z hz;split at he
  ·rename_i h1 h2 h3 h4;simp only[Option.some.injEq,Prod.mk.injEq] at he;exact⟨z,hz,h2,h3,Nat.le_of_ble_eq_true h4,he.1.symm,he.2.symm⟩
  ·cases he
 ·cases he

theorem a9s{t:TypeId}{r:Nat}{y:T}(he:c6B P H t r=some (y,H')):J5 H H':=by
 obtain⟨z,_,_,h3,h4,_,rfl⟩:=a1Y he;intro k ob hk;rw[U0 h4];split
 ·rename_i e;rw[e,h3] at hk;cases hk
 ·exact hk

theorem c8a{op:Op}{y:T}{H1:Y5}{side:Option Prop}{R:List Nat}(hr:a6r s op=some R)(hst:stays G op=true)(hx:a6G R H H')(he:D5 P G s H op=some (y,H1,side)):D5 P G s H' op=some (y,H',side):=by
 cases ht:a1G G op with
 |true=>exact(t8 ht he).2
 |false=>rw[a1W ht] at he ⊢;rw[b7s ht] at hst;exact b9X hr hst hx he

theorem b5A{op:Op}{y:T}{side:Option Prop}{W:List Nat}(hw:a24 H s op=some W)(he:D5 P G s H op=some (y,H',side)):∀k,k ∉ W->∀ob,Z4 H k=some ob->Z4 H' k=some ob:=by
 cases ht:a1G G op with
 |true=>rw[(t8 (H':=H) ht he).1];exact fun k _ ob hk=>hk
 |false=>rw[a1W ht] at he;exact b04 hw he

end
end Go.SS
