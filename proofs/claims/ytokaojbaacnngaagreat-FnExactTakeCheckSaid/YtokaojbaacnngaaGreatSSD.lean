/- A calculus of symbolic states: a region, in whatever order. -/
import Derived.Test.YtokaojbaacnngaaGreatSS14
import Derived.Orders
namespace Go.SS
open Go.RowKit

def J0(H H':Y6):Prop:=∀k ob,Z4 H k=some ob->Z4 H' k=some ob

theorem J0.refl(H:Y6):J0 H H:=fun _ _ h=>h
theorem J0.trans{A B C:Y6}(h:J0 A B)(k:J0 B C):J0 A C:=fun i ob hi=>k i ob (h i ob hi)

section
variable {P:Program} {G:K3} {H H':Y6} {s:W9}

theorem J0.getA(h:J0 H H'){k:Nat}{A:Arr}(hk:getA H k=some A):SS.getA H' k=some A:=by
 obtain⟨ob,hob,⟨rfl,hi⟩|⟨v,ty,sz,n,row,rfl,rfl⟩⟩:=dM hk
 ·exact a8D (h k ob hob) hi
 ·unfold SS.getA;rw[h k _ hob]

theorem J0.getOwn(h:J0 H H'){k v i j:Nat}{A:Own}(hk:getOwn H k v i j=some A):SS.getOwn H' k v i j=some A:=by
 obtain⟨ty,sz,row,hob,_,_⟩:=o6 hk;unfold SS.getOwn at hk ⊢;rw[h k _ hob];rw[hob] at hk;exact hk

theorem a5j(h:J0 H H'){t:TypeId}{x y:T}{r:T×Option Prop}(he:rK P H t x y=some r):rK P H' t x y=some r:=by
 unfold rK at he ⊢;split at he
 ·split at he
  ·rename_i hk;simp only[h _ _ hk];exact he
  ·cases he
 ·split at he
  ·rename_i hk;simp only[h _ _ hk];exact he
  ·cases he
 ·cases he

theorem a6J(h:J0 H H'){t:TypeId}{x:T}{r:T×Option Prop}(he:k5 P H t x=some r):k5 P H' t x=some r:=by
 unfold k5 at he ⊢;split at he
 ·exact he
 ·split at he
  ·rename_i hk;rw[h.getA hk];exact he
  ·cases he
 ·split at he
  ·rename_i hk;rw[h.getOwn hk];exact he
  ·cases he
 ·cases he

theorem oZ(h:J0 H H'){t:TypeId}{x i:T}{r:T×Option Prop}(he:G0 P H t x i=some r):G0 P H' t x i=some r:=by
 unfold G0 at he ⊢;split at he
 ·split at he
  case h_3 hu=>
   split at he
   ·rename_i hk;simp only[h.getA hk];exact he
   ·cases he
  case h_4 hu=>
   split at he
   ·rename_i hk;simp only[h.getOwn hk];exact he
   ·cases he
  all_goals first|(cases he;done)|(exact he)
 ·cases he

theorem a5s(h:J0 H H'){a b:TypeId}{x:T}{r:T×Option Prop}(he:zV P H a b x=some r):zV P H' a b x=some r:=by
 unfold zV at he ⊢;split at he
 case h_4 hu1 hu2=>
  split at he
  ·rename_i hu3 hk;simp only[hu3,h _ _ hk];exact he
  ·cases he
 all_goals first|(cases he;done)|(exact he)

theorem a25(h:J0 H H'){t:TypeId}{x:T}{lo hi:Option T}{r:T×Option Prop}(he:yE P H t x lo hi=some r):yE P H' t x lo hi=some r:=by
 unfold yE at he ⊢;split at he
 ·split at he
  case h_4 hu=>
   split at he
   ·rename_i hk;simp only[h.getA hk];exact he
   ·cases he
  all_goals first|(cases he;done)|(exact he)
 ·cases he

theorem b3m(h:J0 H H'){op:Op}{r:T×Option Prop}(he:P9 P s H op=some r):P9 P s H' op=some r:=by
 unfold P9 at he ⊢;split at he
 case h_4=>exact a6J h he
 case h_8=>exact a5s h he
 case h_11=>exact oZ h he
 case h_15=>exact a25 h he
 case h_18=>exact a5j h he
 all_goals first|exact he|(cases he;done)

theorem yR{α β:Type}{f g:α->Option β}(h:∀a b,f a=some b->g a=some b):∀{l:List α} {q:List β},Q9 f l=some q->Q9 g l=some q:=by
 intro l;induction l with
 |nil=>intro q hq;exact hq
 |cons x l ih=>
  intro q hq;simp only[Q9] at hq ⊢;split at hq
  ·rename_i hb hr;rw[h _ _ hb,ih hr];exact hq
  ·cases hq

theorem lL{b0:Nat}(h:J0 H H'):∀(d:Nat) {t:T} {r:T×Option Prop},Q2 b0 H d t=some r->Q2 b0 H' d t=some r:=by
 intro d;induction d with
 |zero=>intro t r he;simp[Q2] at he
 |succ d ih=>
  intro t r he;unfold Q2 at he ⊢;split at he
  ·split at he
   ·exact he
   split at he
   ·rename_i A hk;simp only[h.getA hk];split at he
    ·rename_i hA;split at he
     ·rename_i hm;rw[yR (fun a b hb=>ih hb) hm]
      exact he
     ·cases he
    ·cases he
   ·cases he
  ·split at he
   ·exact he
   split at he
   ·rename_i hk;simp only[h _ _ hk];exact he
   ·rename_i hk;simp only[h _ _ hk];exact he
   ·rename_i hk;simp only[h _ _ hk];exact he
   ·cases he
  ·simp only[L8] at he ⊢;obtain⟨a,ha,rfl⟩:=he;exact⟨a,yR (fun a b hb=>ih hb) ha,rfl⟩
  ·simp only[L8] at he ⊢;obtain⟨a,ha,rfl⟩:=he;exact⟨a,yR (fun a b hb=>ih hb) ha,rfl⟩
  ·simp only[L8] at he ⊢;obtain⟨a,ha,rfl⟩:=he;exact⟨a,yR (fun a b hb=>ih hb) ha,rfl⟩
  ·cases he
  ·split at he
   ·exact he
   split at he
   ·rename_i hk;simp only[h.getOwn hk];exact he
   ·cases he
  ·exact he
  ·cases he
  ·exact he

theorem a6E(h:J0 H H'){f:FuncId}{args:List T}{r:T×Option Prop}(he:u3 G H f args=some r):u3 G H' f args=some r:=by
 unfold u3 at he ⊢;split at he
 ·exact he
 ·split at he
  ·rename_i hb;rw[yR (fun a b hb=>lL h 6 hb) hb]
   exact he
  ·cases he

theorem b4p(h:J0 H H'){op:Op}{y:T}{H1:Y6}{side:Option Prop}(hst:B0 G op=true)(he:O6 P G s H op=some (y,H1,side)):O6 P G s H' op=some (y,H',side):=by
 unfold O6 at he;split at he
 ·rename_i hv;simp only[X6,V1] at he;obtain⟨rfl,rfl,rfl⟩:=he;unfold O6;rw[b3m h hv]
 ·rename_i hv;split at he
  ·rename_i r hm;simp only[X6] at he;subst he;unfold G5 at hm;split at hm
   case h_6 src dst x=>
    split at hm
    ·rename_i e l hs hd hx;split at hm
     ·rename_i hb;simp only[X6,V1] at hm;obtain⟨rfl,rfl,rfl⟩:=hm;have h1:P9 P s H' (.convert src dst x)=none:=by simp only[P9,zV,hs,hd,hx]
      unfold O6;rw[h1];simp only[G5,hs,hd,hx,hb]
     ·cases hm
    ·cases hm
   all_goals first|(simp[B0] at hst;done)|(cases hm;done)
  ·rename_i hm;split at he
   ·rename_i f args argTypes;split at he
    ·rename_i hie;simp[B0,hie] at hst
    ·rename_i hie;split at he
     ·rename_i g cs hfn;simp only[L8,V1] at he;obtain⟨r,hr,rfl,rfl,rfl⟩:=he;unfold O6;simp only[P9,G5,hie,hfn,a6E h hr,u5]
     ·cases he
   ·cases he

theorem a48{op:Op}{y:T}{H1:Y6}{side:Option Prop}(hp:pureB op=true)(he:O6 P G s H op=some (y,H1,side)):O6 P G s H' op=some (y,H',side):=by
 have hv:P9 P s H' op=P9 P s H op:=by
  unfold pureB at hp;split at hp<;>first|(cases hp;done)|rfl
 have hm:G5 P s H op=none:=by
  unfold pureB at hp;split at hp<;>first|(cases hp;done)|rfl
 have hc:∀c,op≠ .call c:=by
  rintro c rfl;simp[pureB] at hp
 unfold O6 at he ⊢;rw[hv];split at he
 ·simp only[X6,V1] at he ⊢;exact⟨he.1,trivial,he.2.2⟩
 ·rw[hm] at he;simp only at he;split at he
  ·exact absurd rfl (hc _)
  ·cases he

theorem M6(H:Y6)(x:Option Ob):J0 H (H++[x]):=by
 intro k ob hk;rw[B5,if_pos (M2 hk)];exact hk

theorem a9O{G:K3}{f:FuncId}{c:List T->Option (T×Y6×Option Prop)}(h:k4 G f=some (.mk c)):pH G f=none:=by
 induction G with
 |nil=>cases h
 |cons x G ih=>
  obtain⟨g,d⟩:=x;simp only[k4] at h;simp only[pH];split at h
  ·simp only[X6] at h;subst h;rfl
  ·exact ih h

theorem a26{G:K3}{f:FuncId}{c:Con}(h:k4 G f=some c)(hc:c.isMk=true):gfz G f=none:=by
 induction G with
 |nil=>cases h
 |cons x G ih=>
  obtain⟨g,d⟩:=x;simp only[k4] at h;simp only[gfz];split at h
  ·simp only[X6] at h;subst h;cases d<;>first|rfl|(cases hc)
  ·exact ih h

theorem a1t{c:List T->Option (T×Y6×Option Prop)}{args:List T}{y:T}{side:Option Prop}(he:aV c H args=some (y,H',side)):J0 H H':=by
 unfold aV at he;split at he
 ·split at he
  ·split at he
   ·simp only[X6,V1] at he;obtain⟨_,rfl,_⟩:=he;intro k ob hk;unfold Z4 at hk ⊢;have hlt:=M2 hk
    rwa [kE hlt]
   ·cases he
  ·cases he
 ·cases he

theorem b0v{op:Op}{y:T}{side:Option Prop}(hg:t3 G op=true)(he:O6 P G s H op=some (y,H',side)):J0 H H':=by
 unfold O6 at he;split at he
 ·simp only[X6,V1] at he;obtain⟨_,rfl,_⟩:=he;exact J0.refl H
 ·split at he
  ·rename_i r hm;simp only[X6] at he;subst he;have box:∀{t:TypeId} {cs:List T} {y:T} {H':Y6} {side:Option Prop},gV P H t cs=some (y,H',side)->J0 H H':=by
    intro t cs y H' side hb;unfold gV at hb;split at hb
    ·simp only[X6,V1] at hb;obtain⟨_,rfl,_⟩:=hb;exact M6 H _
    ·cases hb
   unfold G5 at hm;split at hm
   ·split at hm
    ·exact box hm
    ·cases hm
   ·split at hm
    ·exact box hm
    ·cases hm
   ·simp[t3] at hg
   ·unfold cK at hm;split at hm
    ·split at hm
     ·split at hm
      ·simp only[X6,V1] at hm;obtain⟨_,rfl,_⟩:=hm;exact M6 H _
      ·cases hm
     ·cases hm
    ·cases hm
   ·unfold s6 at hm;split at hm
    ·split at hm
     ·split at hm
      ·split at hm
       ·split at hm
        ·simp only[L8,V1] at hm;obtain⟨_,_,_,rfl,_⟩:=hm;exact M6 H _
        ·split at hm
         ·simp only[X6,V1] at hm;obtain⟨_,rfl,_⟩:=hm;exact M6 H _
         ·cases hm
       ·cases hm
      ·cases hm
     ·cases hm
    ·cases hm
   case h_8=>
    simp only[L8,V1] at hm;obtain⟨r',hr,rfl,rfl,_⟩:=hm;unfold yY at hr;split at hr
    ·simp only[X6] at hr;subst hr;exact M6 H _
    ·simp only[X6] at hr;subst hr;exact M6 H _
    ·split at hr
     ·simp only[X6] at hr;subst hr;exact M6 H _
     ·cases hr
   case h_10=>
    unfold rV at hm;split at hm
    ·split at hm
     ·split at hm
      ·simp only[X6,V1] at hm;obtain⟨_,rfl,_⟩:=hm;exact M6 H _
      ·cases hm
     ·cases hm
    ·cases hm
   all_goals first|(cases hm;done)|(simp[t3] at hg)
  ·split at he
   ·rename_i x args argTypes;simp only[t3] at hg;unfold isMk at hg;split at hg
    ·rename_i f;split at hg
     ·rename_i cn hcn;have h1:isEff G (.func f)=true:=by
       simp only[isEff,hcn];cases cn<;>first|rfl|(cases hg)
      have h2:pH G f=none:=by
       cases cn<;>first|(cases hg;done)|skip
       ·exact a9O hcn
       ·exact(gG hcn rfl).1
      rw[h1] at he;simp only at he;unfold uW at he;rw[h2] at he;simp only at he;split at he
      ·exact a1t he
      ·rw[a26 hcn (by cases cn<;>first|rfl|(cases hg))] at he
       cases he
     ·cases hg
    ·cases hg
   ·cases he

def fW(R:List Nat)(H H':Y6):Prop:=∀k,k ∈ R->∀ob,Z4 H k=some ob->Z4 H' k=some ob

theorem b1u{op:Op}{y:T}{H1:Y6}{side:Option Prop}{R:List Nat}(hr:gS s op=some R)(hst:B0 G op=true)(hx:fW R H H')(he:O6 P G s H op=some (y,H1,side)):O6 P G s H' op=some (y,H',side):=by
 have val:∀{r:T×Option Prop},P9 P s H op=some r->P9 P s H' op=some r->O6 P G s H' op=some (y,H',side):=by
  intro r h1 h2;unfold O6 at he ⊢;rw[h1] at he;rw[h2];simp only[X6,V1] at he ⊢;exact⟨he.1,trivial,he.2.2⟩
 unfold gS at hr;split at hr
 ·rename_i t a;split at hr
  ·rename_i k i j ha;simp only[X6] at hr;subst hr;have hv:∀r,P9 P s H (.load t a)=some r->P9 P s H' (.load t a)=some r:=by
    intro r h;simp only[P9,ha,k5,getA] at h ⊢;cases hob:Z4 H k with
    |none=>rw[hob] at h;simp at h
    |some ob=>
     rw[hx k (by simp) ob hob]
     rw[hob] at h;exact h
   cases hv0:P9 P s H (.load t a) with
   |none=>
    unfold O6 at he;rw[hv0] at he;simp[G5] at he
   |some r=>exact val hv0 (hv r hv0)
  ·rename_i cs ha;cases hv0:P9 P s H (.load t a) with
   |none=>
    unfold O6 at he;rw[hv0] at he;simp[G5] at he
   |some r=>
    refine val hv0 ?_
    simp only[P9,ha,k5] at hv0 ⊢;exact hv0
  ·cases hr
 ·rename_i t x ix;have hv:∀r,P9 P s H (.indexAddr t x ix)=some r->P9 P s H' (.indexAddr t x ix)=some r:=by
   intro r h;simp only[P9] at h ⊢;unfold G0 at h ⊢;split at hr
   ·rename_i ha;rw[ha] at h ⊢;generalize P0 s ix=q at h ⊢;generalize P.underlying t=u at h ⊢;cases q<;>first|exact h|skip
    cases u with
    |none=>exact h
    |some d=>cases d<;>exact h
   ·rename_i ha;rw[ha] at h ⊢;generalize P0 s ix=q at h ⊢;generalize P.underlying t=u at h ⊢;cases q<;>first|exact h|skip
    cases u with
    |none=>exact h
    |some d=>cases d<;>exact h
   ·rename_i k off n ha;simp only[X6] at hr;subst hr;rw[ha] at h ⊢;generalize P0 s ix=q at h ⊢;generalize P.underlying t=u at h ⊢;cases q<;>first|exact h|skip
    cases u with
    |none=>exact h
    |some d=>
     cases d<;>first|exact h|skip
     simp only[getA] at h ⊢;cases hob:Z4 H k with
     |none=>rw[hob] at h;simp at h
     |some ob=>
      rw[hx k (by simp) ob hob]
      rw[hob] at h;exact h
   ·cases hr
  cases hv0:P9 P s H (.indexAddr t x ix) with
  |none=>
   unfold O6 at he;rw[hv0] at he;simp[G5] at he
  |some r=>exact val hv0 (hv r hv0)
 ·rename_i src dst x;have same:P9 P s H' (.convert src dst x)=P9 P s H (.convert src dst x):=by
   simp only[P9];split at hr
   ·rename_i ha;unfold zV;rw[ha];cases P.underlying src with
    |none=>rfl
    |some d=>cases P.underlying dst with
     |none=>cases d<;>rfl
     |some d'=>cases d<;>cases d'<;>rfl
   ·rename_i ha;unfold zV;rw[ha];cases P.underlying src with
    |none=>rfl
    |some d=>cases P.underlying dst with
     |none=>cases d<;>rfl
     |some d'=>cases d<;>cases d'<;>rfl
   ·rename_i ha;unfold zV;rw[ha];cases P.underlying src with
    |none=>rfl
    |some d=>cases P.underlying dst with
     |none=>cases d<;>rfl
     |some d'=>cases d<;>cases d'<;>rfl
   ·cases hr
  cases hv0:P9 P s H (.convert src dst x) with
  |none=>
   unfold O6 at he ⊢;rw[same,hv0];rw[hv0] at he;simp only at he ⊢;have hmm:∀r,G5 P s H (.convert src dst x)=some r->G5 P s H' (.convert src dst x)=some (r.1,H',r.2.2):=by
    intro r hm;unfold G5 at hm ⊢;simp only at hm ⊢;generalize P.underlying src=a at hm ⊢;generalize P.underlying dst=b at hm ⊢;generalize P0 s x=c at hm ⊢;split at hm
    ·split at hm
     ·rename_i hb;simp only[hb,X6] at hm ⊢;subst hm;rfl
     ·cases hm
    ·cases hm
   cases hm:G5 P s H (.convert src dst x) with
   |none=>
    rw[hm] at he;simp at he
   |some r=>
    rw[hm] at he;simp only[X6] at he;subst he;rw[hmm _ hm]
  |some r=>exact val hv0 (same.trans hv0)
 ·rename_i t x lo hi;have hv:∀r,P9 P s H (.slice t x lo hi none)=some r->P9 P s H' (.slice t x lo hi none)=some r:=by
   intro r h;simp only[P9] at h ⊢;unfold yE at h ⊢;generalize zS (lo.map (P0 s))=q1 at h ⊢;generalize zS (hi.map (P0 s))=q2 at h ⊢;generalize P.underlying t=u at h ⊢;split at hr
   ·rename_i ha;rw[ha] at h ⊢;cases q1<;>cases q2<;>first|exact h|skip
    cases u with
    |none=>exact h
    |some d=>cases d<;>exact h
   ·rename_i ha;rw[ha] at h ⊢;cases q1<;>cases q2<;>first|exact h|skip
    cases u with
    |none=>exact h
    |some d=>cases d<;>exact h
   ·rename_i ha;rw[ha] at h ⊢;cases q1<;>cases q2<;>first|exact h|skip
    cases u with
    |none=>exact h
    |some d=>cases d<;>exact h
   ·rename_i k off n ha;simp only[X6] at hr;subst hr;rw[ha] at h ⊢;cases q1<;>cases q2<;>first|exact h|skip
    cases u with
    |none=>exact h
    |some d=>
     cases d<;>first|exact h|skip
     simp only[getA] at h ⊢;cases hob:Z4 H k with
     |none=>rw[hob] at h;simp at h
     |some ob=>
      rw[hx k (by simp) ob hob]
      rw[hob] at h;exact h
   ·cases hr
  cases hv0:P9 P s H (.slice t x lo hi none) with
  |none=>
   unfold O6 at he;rw[hv0] at he;simp[G5] at he
  |some r=>exact val hv0 (hv r hv0)
 ·simp[B0] at hst
 ·rename_i args argTypes;have same:P9 P s H' (.call {callee:=.builtin .len,args,argTypes})=P9 P s H (.call {callee:=.builtin .len,args,argTypes}):=rfl;cases hv0:P9 P s H (.call {callee:=.builtin .len,args,argTypes}) with
  |none=>
   unfold O6 at he;rw[hv0] at he;simp[G5] at he
  |some r=>exact val hv0 (same.trans hv0)
 ·rename_i x args argTypes;split at hr
  ·rename_i f cs hf;split at hr
   ·rename_i hcl;have he2:isEff G x=false:=by simpa[B0] using hst
    unfold O6 at he ⊢;simp only[P9,G5,he2,hf] at he ⊢;unfold u3 at he ⊢;rw[hcl] at he ⊢;simp only[L8,V1] at he ⊢;obtain⟨r,h1,h2,h3,h4⟩:=he;exact⟨r,h1,h2,trivial,h4⟩
   ·cases hr
  ·cases hr
 ·cases hr

theorem J7{H:Y6}{j k:Nat}{x:Option Ob}(h:j≠k):Z4 (H.set j x) k=Z4 H k:=by
 unfold Z4;rw[j_h h]
theorem pM:∀{ks:List Nat} {os:List (Option Ob)} {H:Y6} {k:Nat},k ∉ ks->Z4 (F4 H ks os) k=Z4 H k
 | [],os,H,k,_=>by cases os<;>rfl
 |j::ks,[],H,k,_=>rfl
 |j::ks,o::os,H,k,h=>by
  simp only[zJ,not_or] at h;show Z4 (F4 (H.set j o) ks os) k=_;rw[pM h.2,J7 (Ne.symm h.1)]
theorem sG:∀{ks:List Nat} {H:Y6} {k:Nat},k ∉ ks->Z4 (L0 H ks) k=Z4 H k
 | [],H,k,_=>rfl
 |j::ks,H,k,h=>by
  simp only[zJ,not_or] at h;show Z4 (L0 (H.set j none) ks) k=_;rw[sG h.2,J7 (Ne.symm h.1)]
theorem c8d(A B:Y6)(k:Nat){ob:Ob}(h:Z4 A k=some ob):Z4 (A++B) k=some ob:=by
 have hlt:=M2 h;unfold Z4 at h ⊢
 rwa [kE hlt]
theorem a0N{op:Op}{y:T}{side:Option Prop}{W:List Nat}(hw:qY H s op=some W)(he:O6 P G s H op=some (y,H',side)):∀k,k ∉ W->∀ob,Z4 H k=some ob->Z4 H' k=some ob:=by
 intro k hk ob hob;have app:∀(A:Y6) (x:Option Ob),Z4 A k=some ob->Z4 (A++[x]) k=some ob:=fun A x h=>M6 A x k ob h
 unfold qY at hw;split at hw
 ·rename_i args argTypes;unfold O6 at he;simp only[P9] at he;split at he
  ·rename_i r hm;simp only[X6] at he;subst he;simp only[G5] at hm;split at hm
   ·rename_i d x t tx h1 h2;rw[h1] at hw;simp only at hw;unfold sV at hm;split at hm
    ·split at hm
     ·rename_i i z hi hz;split at hm
      ·rename_i hd;split at hm
       ·simp only[L8,V1] at hm;obtain⟨q,_,_,rfl,_⟩:=hm;exact app _ _ hob
       ·simp only[L8,V1] at hm;obtain⟨q,_,_,rfl,_⟩:=hm;exact app _ _ hob
      ·split at hm
       ·cases hm
       ·simp only[L8,V1] at hm;obtain⟨q,_,_,rfl,_⟩:=hm;exact app _ _ hob
      ·rename_i k0 n hb1 hb2 hd;rw[hd] at hw;simp only at hw;split at hw
       ·cases hw
       rename_i hnf;simp only[X6] at hw;subst hw;have hne:k0≠k:=fun h=>hk (by simp[h])
       have hob':∀x,Z4 (H.set k0 x) k=some ob:=fun x=>by rw[J7 hne];exact hob
       split at hm
       ·split at hm
        ·simp only[L8,V1] at hm;obtain⟨q,_,_,rfl,_⟩:=hm;exact app _ _ (hob' _)
        ·cases hm
       ·split at hm
        ·simp only[L8,V1] at hm;obtain⟨q,_,_,rfl,_⟩:=hm;exact app _ _ (hob' _)
        ·cases hm
       ·rename_i hf;exact absurd hf (hnf _ _ _ _ _)
       ·cases hm
      ·cases hm
     ·cases hm
    ·cases hm
   ·cases hm
  ·cases he
 ·rename_i t a x;unfold O6 at he;simp only[P9] at he;split at he
  ·rename_i r hm;simp only[X6] at he;subst he;simp only[G5,L8] at hm;obtain⟨q,hq,hq2⟩:=hm;simp only[V1] at hq2;obtain⟨_,rfl,_⟩:=hq2;split at hw
   ·rename_i k0 i j ha;have hne:k0≠k:=fun h=>by
     subst h;split at hw
     ·split at hw
      ·simp only[X6] at hw;subst hw;simp at hk
      ·cases hw
     ·simp only[X6] at hw;subst hw;simp at hk
    rw[ha] at hq;simp only[wL] at hq;split at hq
    ·split at hq
     ·simp only[X6] at hq;subst hq;simp only;rw[J7 hne];exact hob
     ·cases hq
    ·split at hq
     ·simp only[X6] at hq;subst hq;simp only;rw[J7 hne];exact hob
     ·cases hq
    ·rename_i hf _ _ _;rw[hf] at hw;simp only at hw;split at hq
     ·split at hq
      ·simp only[X6] at hq;subst hq;simp only;rw[J7 hne];exact hob
      ·rename_i hcl;rw[hcl] at hw;cases hw
     ·cases hq
    ·cases hq
   ·rename_i k0 v i j z a1 b1 ha;simp only[X6] at hw;subst hw;have hne:k0≠k:=fun h=>hk (by simp[h])
    rw[ha] at hq;simp only[wL] at hq;split at hq
    ·split at hq
     ·simp only[X6] at hq;subst hq;simp only;rw[J7 hne];exact hob
     ·cases hq
    ·cases hq
   ·cases hw
  ·cases he
 ·rename_i x args argTypes;have e1:P9 P s H (.call {callee:=.value x,args:=args,argTypes:=argTypes})=none:=rfl;have e2:G5 P s H (.call {callee:=.value x,args:=args,argTypes:=argTypes})=none:=rfl;unfold O6 at he;simp only[e1,e2] at he;have key:∀f cs,a0f s x=some (f,cs)->uW G H f (args.toList.map (P0 s)++cs)=some (y,H',side)->Z4 H' k=some ob:=fun f cs hf hv=>by
   rw[hf] at hw;simp only at hw;generalize args.toList.map (P0 s)++cs=as at hw hv;split at hw
   ·cases hw
   rename_i hnp;simp only[X6] at hw;subst hw;unfold uW at hv;split at hv
   ·split at hv
    ·exact absurd rfl (hnp _ _ _ _ _ _)
    ·unfold sO at hv;split at hv
     ·split at hv
      ·split at hv
       ·simp only[X6,V1] at hv;obtain⟨_,rfl,_⟩:=hv;exact c8d _ _ _ (by rw[pM hk];exact hob)
       ·cases hv
      ·cases hv
     ·cases hv
   ·split at hv
    ·exact a1t hv k ob hob
    ·split at hv
     ·unfold c06 at hv;split at hv
      ·split at hv
       ·simp only[X6,V1] at hv;obtain⟨_,rfl,_⟩:=hv;rw[sG hk];exact hob
       ·cases hv
      ·cases hv
     ·cases hv
  have pure:∀as f,(u3 G H f as).map (fun r=>(r.1,H,r.2))=some (y,H',side)->Z4 H' k=some ob:=fun as f hv=>by
   rw[L8] at hv;obtain⟨q,_,hq⟩:=hv;simp only[V1] at hq;obtain⟨_,rfl,_⟩:=hq;exact hob
  split at he
  ·split at he
   ·rename_i f _;exact key f [] rfl (by rw[List.append_nil];exact he)
   ·split at he
    ·rename_i f cs hf;split at he
     ·exact key f cs hf he
     ·exact pure _ _ he
    ·cases he
  ·split at he
   ·exact pure _ _ he
   ·cases he
 ·cases hw

theorem m6{op:Op}{y:T}{H1:Y6}{side:Option Prop}(ht:uA G op=true)(he:B7 P G s H op=some (y,H1,side)):H1=H/\B7 P G s H' op=some (y,H',side):=by
 unfold B7 at he ⊢;rw[ht] at he ⊢;simp only at he ⊢;split at he
 ·rename_i t p hv;simp only[X6,V1] at he;obtain⟨rfl,rfl,rfl⟩:=he;exact⟨rfl,rfl⟩
 ·cases he

theorem uS{op:Op}(ht:uA G op=false):B7 P G s H op=O6 P G s H op:=by unfold B7;rw[ht]
theorem a9E{op:Op}(ht:uA G op=false):stays G op=B0 G op:=by unfold stays;rw[ht]

theorem b7g(h:J0 H H'){op:Op}{y:T}{H1:Y6}{side:Option Prop}(hst:stays G op=true)(he:B7 P G s H op=some (y,H1,side)):B7 P G s H' op=some (y,H',side):=by
 cases ht:uA G op with
 |true=>exact(m6 ht he).2
 |false=>rw[uS ht] at he ⊢;rw[a9E ht] at hst;exact b4p h hst he

theorem b3E{op:Op}{y:T}{H1:Y6}{side:Option Prop}(hp:pureB op=true)(he:B7 P G s H op=some (y,H1,side)):B7 P G s H' op=some (y,H',side):=by
 cases ht:uA G op with
 |true=>exact(m6 ht he).2
 |false=>rw[uS ht] at he ⊢;exact a48 hp he

theorem a3H{op:Op}{y:T}{side:Option Prop}(hg:t3 G op=true)(he:B7 P G s H op=some (y,H',side)):J0 H H':=by
 cases ht:uA G op with
 |true=>rw[(m6 (H':=H) ht he).1];exact fun k ob hk=>hk
 |false=>rw[uS ht] at he;exact b0v hg he

theorem b3e{c:List T->Option (T×Y6×Option Prop)}{args:List T}{y:T}{side:Option Prop}(he:aV c H args=some (y,H',side)):
  ∃os,H'=H++os/\∀H2:Y6,H2.length=H.length->J0 H H2->aV c H2 args=some (y,H2++os,side):=by
 unfold aV at he;split at he
 ·rename_i bs hbs;split at he
  ·rename_i r H0 p hc;split at he
   ·rename_i r' os hr hos;simp only[X6,V1] at he;obtain⟨rfl,rfl,rfl⟩:=he;refine⟨os,rfl,fun H2 hl hx=> ?_⟩
    unfold aV;rw[yR (fun a b hb=>lL hx 6 hb) hbs]
    simp only[hc,hl,hr,hos]
   ·cases he
  ·cases he
 ·cases he

theorem c0J{op:Op}{y:T}{side:Option Prop}(hf:floatB G op=true)(he:B7 P G s H op=some (y,H',side)):
  ∃os,H'=H++os/\∀H2:Y6,H2.length=H.length->J0 H H2->B7 P G s H2 op=some (y,H2++os,side):=by
 unfold floatB at hf;simp only[K5] at hf;obtain⟨hv,hg⟩:=hf;unfold a9b at hv;split at hv
 case h_2=>cases hv
 rename_i x args at_;have ht:uA G (.call {callee:=.value x,args:=args,argTypes:=at_})=false:=rfl;rw[uS ht] at he
 suffices hh:∃os,H'=H++os/\∀H2:Y6,H2.length=H.length->J0 H H2->O6 P G s H2 (.call {callee:=.value x,args:=args,argTypes:=at_})=some (y,H2++os,side) by
  obtain⟨os,h1,h2⟩:=hh;exact⟨os,h1,fun H2 hl hx=>by rw[uS ht];exact h2 H2 hl hx⟩
 have e1:∀H,P9 P s H (.call {callee:=.value x,args:=args,argTypes:=at_})=none:=fun H=>rfl
 have e2:∀H,G5 P s H (.call {callee:=.value x,args:=args,argTypes:=at_})=none:=fun H=>rfl
 unfold O6 at he ⊢;simp only[e1,e2] at he ⊢;simp only[t3] at hg;unfold isMk at hg;split at hg
 ·rename_i f;split at hg
  ·rename_i cn hcn;have h1:isEff G (.func f)=true:=by
    simp only[isEff,hcn];cases cn<;>first|rfl|(cases hg)
   have h2:pH G f=none:=by
    cases cn<;>first|(cases hg;done)|skip
    ·exact a9O hcn
    ·exact(gG hcn rfl).1
   simp only[h1] at he ⊢;unfold uW at he ⊢;rw[h2] at he;simp only[h2] at he ⊢;split at he
   ·rename_i c hc;obtain⟨os,e3,e4⟩:=b3e he;exact⟨os,e3,fun H2 hl hx=>e4 H2 hl hx⟩
   ·rw[a26 hcn (by cases cn<;>first|rfl|(cases hg))] at he
    cases he
  ·cases hg
 ·cases hg

theorem sQ{t:TypeId}{r:Nat}{y:T}(he:b5c P H t r=some (y,H')):∃z,zeroCells P t=some z/\z.all O2=true/\Z4 H r=none/\r<H.length/\y= .ref r 0 0/\H'=H.set r (some (.arr (z.all X4) 1000000 z.length 1 fun _=>z)):=by
 unfold b5c at he;split at he
 ·rename_i z hz;split at he
  ·rename_i h1 h2 h3 h4;simp only[X6,V1] at he;exact⟨z,hz,h2,h3,vS h4,he.1.symm,he.2.symm⟩
  ·cases he
 ·cases he

theorem a3b{t:TypeId}{r:Nat}{y:T}(he:b5c P H t r=some (y,H')):J0 H H':=by
 obtain⟨z,_,_,h3,h4,_,rfl⟩:=sQ he;intro k ob hk;rw[T9 h4];split
 ·rename_i e;rw[e,h3] at hk;cases hk
 ·exact hk

theorem b9W{op:Op}{y:T}{H1:Y6}{side:Option Prop}{R:List Nat}(hr:gS s op=some R)(hst:stays G op=true)(hx:fW R H H')(he:B7 P G s H op=some (y,H1,side)):B7 P G s H' op=some (y,H',side):=by
 cases ht:uA G op with
 |true=>exact(m6 ht he).2
 |false=>rw[uS ht] at he ⊢;rw[a9E ht] at hst;exact b1u hr hst hx he

theorem a8j{op:Op}{y:T}{side:Option Prop}{W:List Nat}(hw:qY H s op=some W)(he:B7 P G s H op=some (y,H',side)):∀k,k ∉ W->∀ob,Z4 H k=some ob->Z4 H' k=some ob:=by
 cases ht:uA G op with
 |true=>rw[(m6 (H':=H) ht he).1];exact fun k _ ob hk=>hk
 |false=>rw[uS ht] at he;exact a0N hw he

end
end Go.SS
