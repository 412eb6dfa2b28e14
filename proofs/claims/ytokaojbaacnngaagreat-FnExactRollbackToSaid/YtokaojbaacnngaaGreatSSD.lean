/- A calculus of symbolic states: a region, in whatever order. -/
import Derived.Test.YtokaojbaacnngaaGreatSS14
import Derived.Orders
namespace Go.SS
open Go.RowKit

def G5(H H':Y3):Prop:=∀k ob,Z1 H k=some ob->Z1 H' k=some ob

theorem G5.refl(H:Y3):G5 H H:=λ_ _ h=>h
theorem G5.trans{A B C:Y3}(h:G5 A B)(k:G5 B C):G5 A C:=λi ob hi=>k i ob (h i ob hi)

section
variable {P:Program} {G:I4} {H H':Y3} {s:V9}

theorem G5.getA(h:G5 H H'){k:Nat}{A:Arr}(hk:getA H k=some A):SS.getA H' k=some A:=by
 obtain⟨ob,hob,⟨rfl,hi⟩|⟨v,ty,sz,n,row,rfl,rfl⟩⟩:=fH hk
 ·exact a3r (h k ob hob) hi
 ·unfold SS.getA;rw[h k _ hob]

theorem G5.getOwn(h:G5 H H'){k v i j:Nat}{A:Own}(hk:getOwn H k v i j=some A):SS.getOwn H' k v i j=some A:=by
 obtain⟨ty,sz,row,hob,_,_⟩:=j8 hk;unfold SS.getOwn at hk ⊢;rw[h k _ hob];rw[hob] at hk;exact hk

theorem a2y(h:G5 H H'){t:TypeId}{x y:T}{r:T×Option Prop}(he:rA P H t x y=some r):rA P H' t x y=some r:=by
 unfold rA at he ⊢;split at he
 ·split at he
  ·rename_i hk;simp only[h _ _ hk];exact he
  ·cases he
 ·split at he
  ·rename_i hk;simp only[h _ _ hk];exact he
  ·cases he
 ·cases he

theorem a1V(h:G5 H H'){t:TypeId}{x:T}{r:T×Option Prop}(he:g8 P H t x=some r):g8 P H' t x=some r:=by
 unfold g8 at he ⊢;split at he
 ·exact he
 ·split at he
  ·rename_i hk;rw[h.getA hk];exact he
  ·cases he
 ·split at he
  ·rename_i hk;rw[h.getOwn hk];exact he
  ·cases he
 ·cases he

theorem pF(h:G5 H H'){t:TypeId}{x i:T}{r:T×Option Prop}(he:E5 P H t x i=some r):E5 P H' t x i=some r:=by
 unfold E5 at he ⊢;split at he
 ·split at he
  case h_3 hu=>
   split at he
   ·rename_i hk;simp only[h.getA hk];exact he
   ·cases he
  case h_4 hu=>
   split at he
   ·rename_i hk;simp only[h.getOwn hk];exact he
   ·cases he
  all_goals first|(cases he;done)|(exact he)
 ·cases he

theorem a3E(h:G5 H H'){a b:TypeId}{x:T}{r:T×Option Prop}(he:yW P H a b x=some r):yW P H' a b x=some r:=by
 unfold yW at he ⊢;split at he
 case h_4 hu1 hu2=>
  split at he
  ·rename_i hu3 hk;simp only[hu3,h _ _ hk];exact he
  ·cases he
 all_goals first|(cases he;done)|(exact he)

theorem a05(h:G5 H H'){t:TypeId}{x:T}{lo hi:Option T}{r:T×Option Prop}(he:wV P H t x lo hi=some r):wV P H' t x lo hi=some r:=by
 unfold wV at he ⊢;split at he
 ·split at he
  case h_4 hu=>
   split at he
   ·rename_i hk;simp only[h.getA hk];exact he
   ·cases he
  all_goals first|(cases he;done)|(exact he)
 ·cases he

theorem a6n(h:G5 H H'){op:Op}{r:T×Option Prop}(he:O6 P s H op=some r):O6 P s H' op=some r:=by
 unfold O6 at he ⊢;split at he
 case h_4=>exact a1V h he
 case h_8=>exact a3E h he
 case h_11=>exact pF h he
 case h_15=>exact a05 h he
 case h_18=>exact a2y h he
 all_goals first|exact he|(cases he;done)

theorem yM{α β:Type}{f g:α->Option β}(h:∀a b,f a=some b->g a=some b):∀{l:List α} {q:List β},P7 f l=some q->P7 g l=some q:=by
 intro l;induction l with
 |nil=>intro q hq;exact hq
 |cons x l ih=>
  intro q hq;simp only[P7] at hq ⊢;split at hq
  ·rename_i hb hr;rw[h _ _ hb,ih hr];exact hq
  ·cases hq

theorem nB{b0:Nat}(h:G5 H H'):∀(d:Nat) {t:T} {r:T×Option Prop},O9 b0 H d t=some r->O9 b0 H' d t=some r:=by
 intro d;induction d with
 |zero=>intro t r he;simp[O9] at he
 |succ d ih=>
  intro t r he;unfold O9 at he ⊢;split at he
  ·split at he
   ·exact he
   split at he
   ·rename_i A hk;simp only[h.getA hk];split at he
    ·rename_i hA;split at he
     ·rename_i hm;rw[yM (λa b hb=>ih hb) hm]
      exact he
     ·cases he
    ·cases he
   ·cases he
  ·split at he
   ·exact he
   split at he
   ·rename_i hk;simp only[h _ _ hk];exact he
   ·rename_i hk;simp only[h _ _ hk];exact he
   ·rename_i hk;simp only[h _ _ hk];exact he
   ·cases he
  ·simp only[J8] at he ⊢;obtain⟨a,ha,rfl⟩:=he;exact⟨a,yM (λa b hb=>ih hb) ha,rfl⟩
  ·simp only[J8] at he ⊢;obtain⟨a,ha,rfl⟩:=he;exact⟨a,yM (λa b hb=>ih hb) ha,rfl⟩
  ·simp only[J8] at he ⊢;obtain⟨a,ha,rfl⟩:=he;exact⟨a,yM (λa b hb=>ih hb) ha,rfl⟩
  ·cases he
  ·split at he
   ·exact he
   split at he
   ·rename_i hk;simp only[h.getOwn hk];exact he
   ·cases he
  ·exact he
  ·cases he
  ·exact he

theorem a3R(h:G5 H H'){f:FuncId}{args:List T}{r:T×Option Prop}(he:m9 G H f args=some r):m9 G H' f args=some r:=by
 unfold m9 at he ⊢;split at he
 ·exact he
 ·split at he
  ·rename_i hb;rw[yM (λa b hb=>nB h 6 hb) hb]
   exact he
  ·cases he

theorem a6z(h:G5 H H'){op:Op}{y:T}{H1:Y3}{side:Option Prop}(hst:z5 G op=true)(he:M6 P G s H op=some (y,H1,side)):M6 P G s H' op=some (y,H',side):=by
 unfold M6 at he;split at he
 ·rename_i hv;simp only[X1,U4] at he;obtain⟨rfl,rfl,rfl⟩:=he;unfold M6;rw[a6n h hv]
 ·rename_i hv;split at he
  ·rename_i r hm;simp only[X1] at he;subst he;unfold D8 at hm;split at hm
   case h_6 src dst x=>
    split at hm
    ·rename_i e l hs hd hx;split at hm
     ·rename_i hb;simp only[X1,U4] at hm;obtain⟨rfl,rfl,rfl⟩:=hm;have h1:O6 P s H' (.convert src dst x)=none:=by simp only[O6,yW,hs,hd,hx]
      unfold M6;rw[h1];simp only[D8,hs,hd,hx,hb]
     ·cases hm
    ·cases hm
   all_goals first|(simp[z5] at hst;done)|(cases hm;done)
  ·rename_i hm;split at he
   ·rename_i f args argTypes;split at he
    ·rename_i hie;simp[z5,hie] at hst
    ·rename_i hie;split at he
     ·rename_i g cs hfn;simp only[J8,U4] at he;obtain⟨r,hr,rfl,rfl,rfl⟩:=he;unfold M6;simp only[O6,D8,hie,hfn,a3R h hr,q7]
     ·cases he
   ·cases he

theorem a3V{op:Op}{y:T}{H1:Y3}{side:Option Prop}(hp:pureB op=true)(he:M6 P G s H op=some (y,H1,side)):M6 P G s H' op=some (y,H',side):=by
 have hv:O6 P s H' op=O6 P s H op:=by
  unfold pureB at hp;split at hp<;>first|(cases hp;done)|rfl
 have hm:D8 P s H op=none:=by
  unfold pureB at hp;split at hp<;>first|(cases hp;done)|rfl
 have hc:∀c,op≠ .call c:=by
  rintro c rfl;simp[pureB] at hp
 unfold M6 at he ⊢;rw[hv];split at he
 ·simp only[X1,U4] at he ⊢;exact⟨he.1,trivial,he.2.2⟩
 ·rw[hm] at he;simp only at he;split at he
  ·exact absurd rfl (hc _)
  ·cases he

theorem K5(H:Y3)(x:Option Ob):G5 H (H++[x]):=by
 intro k ob hk;rw[A1,if_pos (K4 hk)];exact hk

theorem a4J{G:I4}{f:FuncId}{c:List T->Option (T×Y3×Option Prop)}(h:d8 G f=some (.mk c)):pE G f=none:=by
 induction G with
 |nil=>cases h
 |cons x G ih=>
  obtain⟨g,d⟩:=x;simp only[d8] at h;simp only[pE];split at h
  ·simp only[X1] at h;subst h;rfl
  ·exact ih h

theorem bE{G:I4}{f:FuncId}{c:Con}(h:d8 G f=some c)(hc:c.isMk=true):gfz G f=none:=by
 induction G with
 |nil=>cases h
 |cons x G ih=>
  obtain⟨g,d⟩:=x;simp only[d8] at h;simp only[gfz];split at h
  ·simp only[X1] at h;subst h;cases d<;>first|rfl|(cases hc)
  ·exact ih h

theorem a00{c:List T->Option (T×Y3×Option Prop)}{args:List T}{y:T}{side:Option Prop}(he:fT c H args=some (y,H',side)):G5 H H':=by
 unfold fT at he;split at he
 ·split at he
  ·split at he
   ·simp only[X1,U4] at he;obtain⟨_,rfl,_⟩:=he;intro k ob hk;unfold Z1 at hk ⊢;have hlt:=K4 hk
    rwa [oX hlt]
   ·cases he
  ·cases he
 ·cases he

theorem a8f{op:Op}{y:T}{side:Option Prop}(hg:m8 G op=true)(he:M6 P G s H op=some (y,H',side)):G5 H H':=by
 unfold M6 at he;split at he
 ·simp only[X1,U4] at he;obtain⟨_,rfl,_⟩:=he;exact G5.refl H
 ·split at he
  ·rename_i r hm;simp only[X1] at he;subst he;have box:∀{t:TypeId} {cs:List T} {y:T} {H':Y3} {side:Option Prop},jG P H t cs=some (y,H',side)->G5 H H':=by
    intro t cs y H' side hb;unfold jG at hb;split at hb
    ·simp only[X1,U4] at hb;obtain⟨_,rfl,_⟩:=hb;exact K5 H _
    ·cases hb
   unfold D8 at hm;split at hm
   ·split at hm
    ·exact box hm
    ·cases hm
   ·split at hm
    ·exact box hm
    ·cases hm
   ·simp[m8] at hg
   ·unfold gV at hm;split at hm
    ·split at hm
     ·split at hm
      ·simp only[X1,U4] at hm;obtain⟨_,rfl,_⟩:=hm;exact K5 H _
      ·cases hm
     ·cases hm
    ·cases hm
   ·unfold k7 at hm;split at hm
    ·split at hm
     ·split at hm
      ·split at hm
       ·split at hm
        ·simp only[J8,U4] at hm;obtain⟨_,_,_,rfl,_⟩:=hm;exact K5 H _
        ·split at hm
         ·simp only[X1,U4] at hm;obtain⟨_,rfl,_⟩:=hm;exact K5 H _
         ·cases hm
       ·cases hm
      ·cases hm
     ·cases hm
    ·cases hm
   case h_8=>
    simp only[J8,U4] at hm;obtain⟨r',hr,rfl,rfl,_⟩:=hm;unfold xY at hr;split at hr
    ·simp only[X1] at hr;subst hr;exact K5 H _
    ·simp only[X1] at hr;subst hr;exact K5 H _
    ·split at hr
     ·simp only[X1] at hr;subst hr;exact K5 H _
     ·cases hr
   case h_10=>
    unfold rW at hm;split at hm
    ·split at hm
     ·split at hm
      ·simp only[X1,U4] at hm;obtain⟨_,rfl,_⟩:=hm;exact K5 H _
      ·cases hm
     ·cases hm
    ·cases hm
   all_goals first|(cases hm;done)|(simp[m8] at hg)
  ·split at he
   ·rename_i x args argTypes;simp only[m8] at hg;unfold isMk at hg;split at hg
    ·rename_i f;split at hg
     ·rename_i cn hcn;have h1:isEff G (.func f)=true:=by
       simp only[isEff,hcn];cases cn<;>first|rfl|(cases hg)
      have h2:pE G f=none:=by
       cases cn<;>first|(cases hg;done)|skip
       ·exact a4J hcn
       ·exact(jO hcn rfl).1
      rw[h1] at he;simp only at he;unfold tZ at he;rw[h2] at he;simp only at he;split at he
      ·exact a00 he
      ·rw[bE hcn (by cases cn<;>first|rfl|(cases hg))] at he
       cases he
     ·cases hg
    ·cases hg
   ·cases he

def hM(R:List Nat)(H H':Y3):Prop:=∀k,k ∈ R->∀ob,Z1 H k=some ob->Z1 H' k=some ob

theorem a6Y{op:Op}{y:T}{H1:Y3}{side:Option Prop}{R:List Nat}(hr:iB s op=some R)(hst:z5 G op=true)(hx:hM R H H')(he:M6 P G s H op=some (y,H1,side)):M6 P G s H' op=some (y,H',side):=by
 have val:∀{r:T×Option Prop},O6 P s H op=some r->O6 P s H' op=some r->M6 P G s H' op=some (y,H',side):=by
  intro r h1 h2;unfold M6 at he ⊢;rw[h1] at he;rw[h2];simp only[X1,U4] at he ⊢;exact⟨he.1,trivial,he.2.2⟩
 unfold iB at hr;split at hr
 ·rename_i t a;split at hr
  ·rename_i k i j ha;simp only[X1] at hr;subst hr;have hv:∀r,O6 P s H (.load t a)=some r->O6 P s H' (.load t a)=some r:=by
    intro r h;simp only[O6,ha,g8,getA] at h ⊢;cases hob:Z1 H k with
    |none=>rw[hob] at h;simp at h
    |some ob=>
     rw[hx k (by simp) ob hob]
     rw[hob] at h;exact h
   cases hv0:O6 P s H (.load t a) with
   |none=>
    unfold M6 at he;rw[hv0] at he;simp[D8] at he
   |some r=>exact val hv0 (hv r hv0)
  ·rename_i cs ha;cases hv0:O6 P s H (.load t a) with
   |none=>
    unfold M6 at he;rw[hv0] at he;simp[D8] at he
   |some r=>
    refine val hv0 ?_
    simp only[O6,ha,g8] at hv0 ⊢;exact hv0
  ·cases hr
 ·rename_i t x ix;have hv:∀r,O6 P s H (.indexAddr t x ix)=some r->O6 P s H' (.indexAddr t x ix)=some r:=by
   intro r h;simp only[O6] at h ⊢;unfold E5 at h ⊢;split at hr
   ·rename_i ha;rw[ha] at h ⊢;generalize N7 s ix=q at h ⊢;generalize P.underlying t=u at h ⊢;cases q<;>first|exact h|skip
    cases u with
    |none=>exact h
    |some d=>cases d<;>exact h
   ·rename_i ha;rw[ha] at h ⊢;generalize N7 s ix=q at h ⊢;generalize P.underlying t=u at h ⊢;cases q<;>first|exact h|skip
    cases u with
    |none=>exact h
    |some d=>cases d<;>exact h
   ·rename_i k off n ha;simp only[X1] at hr;subst hr;rw[ha] at h ⊢;generalize N7 s ix=q at h ⊢;generalize P.underlying t=u at h ⊢;cases q<;>first|exact h|skip
    cases u with
    |none=>exact h
    |some d=>
     cases d<;>first|exact h|skip
     simp only[getA] at h ⊢;cases hob:Z1 H k with
     |none=>rw[hob] at h;simp at h
     |some ob=>
      rw[hx k (by simp) ob hob]
      rw[hob] at h;exact h
   ·cases hr
  cases hv0:O6 P s H (.indexAddr t x ix) with
  |none=>
   unfold M6 at he;rw[hv0] at he;simp[D8] at he
  |some r=>exact val hv0 (hv r hv0)
 ·rename_i src dst x;have same:O6 P s H' (.convert src dst x)=O6 P s H (.convert src dst x):=by
   simp only[O6];split at hr
   ·rename_i ha;unfold yW;rw[ha];cases P.underlying src with
    |none=>rfl
    |some d=>cases P.underlying dst with
     |none=>cases d<;>rfl
     |some d'=>cases d<;>cases d'<;>rfl
   ·rename_i ha;unfold yW;rw[ha];cases P.underlying src with
    |none=>rfl
    |some d=>cases P.underlying dst with
     |none=>cases d<;>rfl
     |some d'=>cases d<;>cases d'<;>rfl
   ·rename_i ha;unfold yW;rw[ha];cases P.underlying src with
    |none=>rfl
    |some d=>cases P.underlying dst with
     |none=>cases d<;>rfl
     |some d'=>cases d<;>cases d'<;>rfl
   ·cases hr
  cases hv0:O6 P s H (.convert src dst x) with
  |none=>
   unfold M6 at he ⊢;rw[same,hv0];rw[hv0] at he;simp only at he ⊢;have hmm:∀r,D8 P s H (.convert src dst x)=some r->D8 P s H' (.convert src dst x)=some (r.1,H',r.2.2):=by
    intro r hm;unfold D8 at hm ⊢;simp only at hm ⊢;generalize P.underlying src=a at hm ⊢;generalize P.underlying dst=b at hm ⊢;generalize N7 s x=c at hm ⊢;split at hm
    ·split at hm
     ·rename_i hb;simp only[hb,X1] at hm ⊢;subst hm;rfl
     ·cases hm
    ·cases hm
   cases hm:D8 P s H (.convert src dst x) with
   |none=>
    rw[hm] at he;simp at he
   |some r=>
    rw[hm] at he;simp only[X1] at he;subst he;rw[hmm _ hm]
  |some r=>exact val hv0 (same.trans hv0)
 ·rename_i t x lo hi;have hv:∀r,O6 P s H (.slice t x lo hi none)=some r->O6 P s H' (.slice t x lo hi none)=some r:=by
   intro r h;simp only[O6] at h ⊢;unfold wV at h ⊢;generalize yU (lo.map (N7 s))=q1 at h ⊢;generalize yU (hi.map (N7 s))=q2 at h ⊢;generalize P.underlying t=u at h ⊢;split at hr
   ·rename_i ha;rw[ha] at h ⊢;cases q1<;>cases q2<;>first|exact h|skip
    cases u with
    |none=>exact h
    |some d=>cases d<;>exact h
   ·rename_i ha;rw[ha] at h ⊢;cases q1<;>cases q2<;>first|exact h|skip
    cases u with
    |none=>exact h
    |some d=>cases d<;>exact h
   ·rename_i ha;rw[ha] at h ⊢;cases q1<;>cases q2<;>first|exact h|skip
    cases u with
    |none=>exact h
    |some d=>cases d<;>exact h
   ·rename_i k off n ha;simp only[X1] at hr;subst hr;rw[ha] at h ⊢;cases q1<;>cases q2<;>first|exact h|skip
    cases u with
    |none=>exact h
    |some d=>
     cases d<;>first|exact h|skip
     simp only[getA] at h ⊢;cases hob:Z1 H k with
     |none=>rw[hob] at h;simp at h
     |some ob=>
      rw[hx k (by simp) ob hob]
      rw[hob] at h;exact h
   ·cases hr
  cases hv0:O6 P s H (.slice t x lo hi none) with
  |none=>
   unfold M6 at he;rw[hv0] at he;simp[D8] at he
  |some r=>exact val hv0 (hv r hv0)
 ·simp[z5] at hst
 ·rename_i args argTypes;have same:O6 P s H' (.call {callee:=.builtin .len,args,argTypes})=O6 P s H (.call {callee:=.builtin .len,args,argTypes}):=rfl;cases hv0:O6 P s H (.call {callee:=.builtin .len,args,argTypes}) with
  |none=>
   unfold M6 at he;rw[hv0] at he;simp[D8] at he
  |some r=>exact val hv0 (same.trans hv0)
 ·rename_i x args argTypes;split at hr
  ·rename_i f cs hf;split at hr
   ·rename_i hcl;have he2:isEff G x=false:=by simpa[z5] using hst
    unfold M6 at he ⊢;simp only[O6,D8,he2,hf] at he ⊢;unfold m9 at he ⊢;rw[hcl] at he ⊢;simp only[J8,U4] at he ⊢;obtain⟨r,h1,h2,h3,h4⟩:=he;exact⟨r,h1,h2,trivial,h4⟩
   ·cases hr
  ·cases hr
 ·cases hr

theorem H4{H:Y3}{j k:Nat}{x:Option Ob}(h:j≠k):Z1 (H.set j x) k=Z1 H k:=by
 unfold Z1;rw[j_l h]
theorem pT:∀{ks:List Nat} {os:List (Option Ob)} {H:Y3} {k:Nat},k ∉ ks->Z1 (D9 H ks os) k=Z1 H k
 | [],os,H,k,_=>by cases os<;>rfl
 |j::ks,[],H,k,_=>rfl
 |j::ks,o::os,H,k,h=>by
  simp only[vN,not_or] at h;show Z1 (D9 (H.set j o) ks os) k=_;rw[pT h.2,H4 (Ne.symm h.1)]
theorem rO:∀{ks:List Nat} {H:Y3} {k:Nat},k ∉ ks->Z1 (J3 H ks) k=Z1 H k
 | [],H,k,_=>rfl
 |j::ks,H,k,h=>by
  simp only[vN,not_or] at h;show Z1 (J3 (H.set j none) ks) k=_;rw[rO h.2,H4 (Ne.symm h.1)]
theorem b9K(A B:Y3)(k:Nat){ob:Ob}(h:Z1 A k=some ob):Z1 (A++B) k=some ob:=by
 have hlt:=K4 h;unfold Z1 at h ⊢
 rwa [oX hlt]
theorem aI{op:Op}{y:T}{side:Option Prop}{W:List Nat}(hw:qF H s op=some W)(he:M6 P G s H op=some (y,H',side)):∀k,k ∉ W->∀ob,Z1 H k=some ob->Z1 H' k=some ob:=by
 intro k hk ob hob;have app:∀(A:Y3) (x:Option Ob),Z1 A k=some ob->Z1 (A++[x]) k=some ob:=λA x h=>K5 A x k ob h
 unfold qF at hw;split at hw
 ·rename_i args argTypes;unfold M6 at he;simp only[O6] at he;split at he
  ·rename_i r hm;simp only[X1] at he;subst he;simp only[D8] at hm;split at hm
   ·rename_i d x t tx h1 h2;rw[h1] at hw;simp only at hw;unfold rR at hm;split at hm
    ·split at hm
     ·rename_i i z hi hz;split at hm
      ·rename_i hd;split at hm
       ·simp only[J8,U4] at hm;obtain⟨q,_,_,rfl,_⟩:=hm;exact app _ _ hob
       ·simp only[J8,U4] at hm;obtain⟨q,_,_,rfl,_⟩:=hm;exact app _ _ hob
      ·split at hm
       ·cases hm
       ·simp only[J8,U4] at hm;obtain⟨q,_,_,rfl,_⟩:=hm;exact app _ _ hob
      ·rename_i k0 n hb1 hb2 hd;rw[hd] at hw;simp only at hw;split at hw
       ·cases hw
       rename_i hnf;simp only[X1] at hw;subst hw;have hne:k0≠k:=λh=>hk (by simp[h])
       have hob':∀x,Z1 (H.set k0 x) k=some ob:=λx=>by rw[H4 hne];exact hob
       split at hm
       ·split at hm
        ·simp only[J8,U4] at hm;obtain⟨q,_,_,rfl,_⟩:=hm;exact app _ _ (hob' _)
        ·cases hm
       ·split at hm
        ·simp only[J8,U4] at hm;obtain⟨q,_,_,rfl,_⟩:=hm;exact app _ _ (hob' _)
        ·cases hm
       ·rename_i hf;exact absurd hf (hnf _ _ _ _ _)
       ·cases hm
      ·cases hm
     ·cases hm
    ·cases hm
   ·cases hm
  ·cases he
 ·rename_i t a x;unfold M6 at he;simp only[O6] at he;split at he
  ·rename_i r hm;simp only[X1] at he;subst he;simp only[D8,J8] at hm;obtain⟨q,hq,hq2⟩:=hm;simp only[U4] at hq2;obtain⟨_,rfl,_⟩:=hq2;split at hw
   ·rename_i k0 i j ha;have hne:k0≠k:=λh=>by
     subst h;split at hw
     ·split at hw
      ·simp only[X1] at hw;subst hw;simp at hk
      ·cases hw
     ·simp only[X1] at hw;subst hw;simp at hk
    rw[ha] at hq;simp only[vK] at hq;split at hq
    ·split at hq
     ·simp only[X1] at hq;subst hq;simp only;rw[H4 hne];exact hob
     ·cases hq
    ·split at hq
     ·simp only[X1] at hq;subst hq;simp only;rw[H4 hne];exact hob
     ·cases hq
    ·rename_i hf _ _ _;rw[hf] at hw;simp only at hw;split at hq
     ·split at hq
      ·simp only[X1] at hq;subst hq;simp only;rw[H4 hne];exact hob
      ·rename_i hcl;rw[hcl] at hw;cases hw
     ·cases hq
    ·cases hq
   ·rename_i k0 v i j z a1 b1 ha;simp only[X1] at hw;subst hw;have hne:k0≠k:=λh=>hk (by simp[h])
    rw[ha] at hq;simp only[vK] at hq;split at hq
    ·split at hq
     ·simp only[X1] at hq;subst hq;simp only;rw[H4 hne];exact hob
     ·cases hq
    ·cases hq
   ·cases hw
  ·cases he
 ·rename_i x args argTypes;have e1:O6 P s H (.call {callee:=.value x,args:=args,argTypes:=argTypes})=none:=rfl;have e2:D8 P s H (.call {callee:=.value x,args:=args,argTypes:=argTypes})=none:=rfl;unfold M6 at he;simp only[e1,e2] at he;have key:∀f cs,dK s x=some (f,cs)->tZ G H f (args.toList.map (N7 s)++cs)=some (y,H',side)->Z1 H' k=some ob:=λf cs hf hv=>by
   rw[hf] at hw;simp only at hw;generalize args.toList.map (N7 s)++cs=as at hw hv;split at hw
   ·cases hw
   rename_i hnp;simp only[X1] at hw;subst hw;unfold tZ at hv;split at hv
   ·split at hv
    ·exact absurd rfl (hnp _ _ _ _ _ _)
    ·unfold sN at hv;split at hv
     ·split at hv
      ·split at hv
       ·simp only[X1,U4] at hv;obtain⟨_,rfl,_⟩:=hv;exact b9K _ _ _ (by rw[pT hk];exact hob)
       ·cases hv
      ·cases hv
     ·cases hv
   ·split at hv
    ·exact a00 hv k ob hob
    ·split at hv
     ·unfold b3j at hv;split at hv
      ·split at hv
       ·simp only[X1,U4] at hv;obtain⟨_,rfl,_⟩:=hv;rw[rO hk];exact hob
       ·cases hv
      ·cases hv
     ·cases hv
  have pure:∀as f,(m9 G H f as).map (λr=>(r.1,H,r.2))=some (y,H',side)->Z1 H' k=some ob:=λas f hv=>by
   rw[J8] at hv;obtain⟨q,_,hq⟩:=hv;simp only[U4] at hq;obtain⟨_,rfl,_⟩:=hq;exact hob
  split at he
  ·split at he
   ·rename_i f _;exact key f [] rfl (by rw[List.append_nil];exact he)
   ·split at he
    ·rename_i f cs hf;split at he
     ·exact key f cs hf he
     ·exact pure _ _ he
    ·cases he
  ·split at he
   ·exact pure _ _ he
   ·cases he
 ·cases hw

theorem i4{op:Op}{y:T}{H1:Y3}{side:Option Prop}(ht:tI G op=true)(he:z6 P G s H op=some (y,H1,side)):H1=H/\z6 P G s H' op=some (y,H',side):=by
 unfold z6 at he ⊢;rw[ht] at he ⊢;simp only at he ⊢;split at he
 ·rename_i t p hv;simp only[X1,U4] at he;obtain⟨rfl,rfl,rfl⟩:=he;exact⟨rfl,rfl⟩
 ·cases he

theorem sW{op:Op}(ht:tI G op=false):z6 P G s H op=M6 P G s H op:=by unfold z6;rw[ht]
theorem a5I{op:Op}(ht:tI G op=false):stays G op=z5 G op:=by unfold stays;rw[ht]

theorem b1b(h:G5 H H'){op:Op}{y:T}{H1:Y3}{side:Option Prop}(hst:stays G op=true)(he:z6 P G s H op=some (y,H1,side)):z6 P G s H' op=some (y,H',side):=by
 cases ht:tI G op with
 |true=>exact(i4 ht he).2
 |false=>rw[sW ht] at he ⊢;rw[a5I ht] at hst;exact a6z h hst he

theorem a6q{op:Op}{y:T}{H1:Y3}{side:Option Prop}(hp:pureB op=true)(he:z6 P G s H op=some (y,H1,side)):z6 P G s H' op=some (y,H',side):=by
 cases ht:tI G op with
 |true=>exact(i4 ht he).2
 |false=>rw[sW ht] at he ⊢;exact a3V hp he

theorem cE{op:Op}{y:T}{side:Option Prop}(hg:m8 G op=true)(he:z6 P G s H op=some (y,H',side)):G5 H H':=by
 cases ht:tI G op with
 |true=>rw[(i4 (H':=H) ht he).1];exact λk ob hk=>hk
 |false=>rw[sW ht] at he;exact a8f hg he

theorem a8D{c:List T->Option (T×Y3×Option Prop)}{args:List T}{y:T}{side:Option Prop}(he:fT c H args=some (y,H',side)):
  ∃os,H'=H++os/\∀H2:Y3,H2.length=H.length->G5 H H2->fT c H2 args=some (y,H2++os,side):=by
 unfold fT at he;split at he
 ·rename_i bs hbs;split at he
  ·rename_i r H0 p hc;split at he
   ·rename_i r' os hr hos;simp only[X1,U4] at he;obtain⟨rfl,rfl,rfl⟩:=he;refine⟨os,rfl,λH2 hl hx=> ?_⟩
    unfold fT;rw[yM (λa b hb=>nB hx 6 hb) hbs]
    simp only[hc,hl,hr,hos]
   ·cases he
  ·cases he
 ·cases he

theorem b3B{op:Op}{y:T}{side:Option Prop}(hf:floatB G op=true)(he:z6 P G s H op=some (y,H',side)):
  ∃os,H'=H++os/\∀H2:Y3,H2.length=H.length->G5 H H2->z6 P G s H2 op=some (y,H2++os,side):=by
 unfold floatB at hf;simp only[J6] at hf;obtain⟨hv,hg⟩:=hf;unfold a4L at hv;split at hv
 case h_2=>cases hv
 rename_i x args at_;have ht:tI G (.call {callee:=.value x,args:=args,argTypes:=at_})=false:=rfl;rw[sW ht] at he
 suffices hh:∃os,H'=H++os/\∀H2:Y3,H2.length=H.length->G5 H H2->M6 P G s H2 (.call {callee:=.value x,args:=args,argTypes:=at_})=some (y,H2++os,side) by
  obtain⟨os,h1,h2⟩:=hh;exact⟨os,h1,λH2 hl hx=>by rw[sW ht];exact h2 H2 hl hx⟩
 have e1:∀H,O6 P s H (.call {callee:=.value x,args:=args,argTypes:=at_})=none:=λH=>rfl
 have e2:∀H,D8 P s H (.call {callee:=.value x,args:=args,argTypes:=at_})=none:=λH=>rfl
 unfold M6 at he ⊢;simp only[e1,e2] at he ⊢;simp only[m8] at hg;unfold isMk at hg;split at hg
 ·rename_i f;split at hg
  ·rename_i cn hcn;have h1:isEff G (.func f)=true:=by
    simp only[isEff,hcn];cases cn<;>first|rfl|(cases hg)
   have h2:pE G f=none:=by
    cases cn<;>first|(cases hg;done)|skip
    ·exact a4J hcn
    ·exact(jO hcn rfl).1
   simp only[h1] at he ⊢;unfold tZ at he ⊢;rw[h2] at he;simp only[h2] at he ⊢;split at he
   ·rename_i c hc;obtain⟨os,e3,e4⟩:=a8D he;exact⟨os,e3,λH2 hl hx=>e4 H2 hl hx⟩
   ·rw[bE hcn (by cases cn<;>first|rfl|(cases hg))] at he
    cases he
  ·cases hg
 ·cases hg

theorem rF{t:TypeId}{r:Nat}{y:T}(he:b17 P H t r=some (y,H')):∃z,zeroCells P t=some z/\z.all M0=true/\Z1 H r=none/\r<H.length/\y= .ref r 0 0/\H'=H.set r (some (.arr (z.all W9) 1000000 z.length 1 λ_=>z)):=by
 unfold b17 at he;split at he
 ·rename_i z hz;split at he
  ·rename_i h1 h2 h3 h4;simp only[X1,U4] at he;exact⟨z,hz,h2,h3,m5 h4,he.1.symm,he.2.symm⟩
  ·cases he
 ·cases he

theorem bC{t:TypeId}{r:Nat}{y:T}(he:b17 P H t r=some (y,H')):G5 H H':=by
 obtain⟨z,_,_,h3,h4,_,rfl⟩:=rF he;intro k ob hk;rw[S8 h4];split
 ·rename_i e;rw[e,h3] at hk;cases hk
 ·exact hk

theorem b0q{op:Op}{y:T}{H1:Y3}{side:Option Prop}{R:List Nat}(hr:iB s op=some R)(hst:stays G op=true)(hx:hM R H H')(he:z6 P G s H op=some (y,H1,side)):z6 P G s H' op=some (y,H',side):=by
 cases ht:tI G op with
 |true=>exact(i4 ht he).2
 |false=>rw[sW ht] at he ⊢;rw[a5I ht] at hst;exact a6Y hr hst hx he

theorem a2s{op:Op}{y:T}{side:Option Prop}{W:List Nat}(hw:qF H s op=some W)(he:z6 P G s H op=some (y,H',side)):∀k,k ∉ W->∀ob,Z1 H k=some ob->Z1 H' k=some ob:=by
 cases ht:tI G op with
 |true=>rw[(i4 (H':=H) ht he).1];exact λk _ ob hk=>hk
 |false=>rw[sW ht] at he;exact aI hw he

end
end Go.SS
