/- A calculus of symbolic states: a region, in whatever order. -/
import Derived.Test.YtokaojbaacnngaaGreatSS14
import Derived.Orders
namespace Go.SS
open Go.RowKit

def F9(H H':Y0):Prop:=∀k ob,Z1 H k=some ob->Z1 H' k=some ob

theorem F9.refl(H:Y0):F9 H H:=λ_ _ h=>h
theorem F9.trans{A B C:Y0}(h:F9 A B)(k:F9 B C):F9 A C:=λi ob hi=>k i ob (h i ob hi)

section
variable {P:Program} {G:H6} {H H':Y0} {s:V9}

theorem F9.getA(h:F9 H H'){k:Nat}{A:Arr}(hk:getA H k=some A):SS.getA H' k=some A:=by
 obtain⟨ob,hob,⟨rfl,hi⟩|⟨v,ty,sz,n,row,rfl,rfl⟩⟩:=fH hk
 ·exact a4L (h k ob hob) hi
 ·unfold SS.getA;rw[h k _ hob]

theorem F9.getOwn(h:F9 H H'){k v i j:Nat}{A:Own}(hk:getOwn H k v i j=some A):SS.getOwn H' k v i j=some A:=by
 obtain⟨ty,sz,row,hob,_,_⟩:=i4 hk;unfold SS.getOwn at hk ⊢;rw[h k _ hob];rw[hob] at hk;exact hk

theorem a4D(h:F9 H H'){t:TypeId}{x y:T}{r:T×Option Prop}(he:pY P H t x y=some r):pY P H' t x y=some r:=by
 unfold pY at he ⊢;split at he
 ·split at he
  ·rename_i hk;simp only[h _ _ hk];exact he
  ·cases he
 ·split at he
  ·rename_i hk;simp only[h _ _ hk];exact he
  ·cases he
 ·cases he

theorem a4q(h:F9 H H'){t:TypeId}{x:T}{r:T×Option Prop}(he:zP P H t x=some r):zP P H' t x=some r:=by
 unfold zP at he ⊢;split at he
 ·exact he
 ·split at he
  ·rename_i hk;rw[h.getA hk];exact he
  ·cases he
 ·split at he
  ·rename_i hk;rw[h.getOwn hk];exact he
  ·cases he
 ·cases he

theorem oQ(h:F9 H H'){t:TypeId}{x i:T}{r:T×Option Prop}(he:D5 P H t x i=some r):D5 P H' t x i=some r:=by
 unfold D5 at he ⊢;split at he
 ·split at he
  case h_3 hu=>
   split at he
   ·rename_i hk;simp only[h.getA hk];exact he
   ·cases he
  case h_4 hu=>
   split at he
   ·rename_i hk;simp only[h.getOwn hk];exact he
   ·cases he
  all_goals first|(cases he;done)|(exact he)
 ·cases he

theorem a2N(h:F9 H H'){a b:TypeId}{x:T}{r:T×Option Prop}(he:yJ P H a b x=some r):yJ P H' a b x=some r:=by
 unfold yJ at he ⊢;split at he
 case h_4 hu1 hu2=>
  split at he
  ·rename_i hu3 hk;simp only[hu3,h _ _ hk];exact he
  ·cases he
 all_goals first|(cases he;done)|(exact he)

theorem a1l(h:F9 H H'){t:TypeId}{x:T}{lo hi:Option T}{r:T×Option Prop}(he:wD P H t x lo hi=some r):wD P H' t x lo hi=some r:=by
 unfold wD at he ⊢;split at he
 ·split at he
  case h_4 hu=>
   split at he
   ·rename_i hk;simp only[h.getA hk];exact he
   ·cases he
  all_goals first|(cases he;done)|(exact he)
 ·cases he

theorem a9j(h:F9 H H'){op:Op}{r:T×Option Prop}(he:O3 P s H op=some r):O3 P s H' op=some r:=by
 unfold O3 at he ⊢;split at he
 case h_4=>exact a4q h he
 case h_8=>exact a2N h he
 case h_11=>exact oQ h he
 case h_15=>exact a1l h he
 case h_18=>exact a4D h he
 all_goals first|exact he|(cases he;done)

theorem xN{α β:Type}{f g:α->Option β}(h:∀a b,f a=some b->g a=some b):∀{l:List α} {q:List β},P2 f l=some q->P2 g l=some q:=by
 intro l;induction l with
 |nil=>intro q hq;exact hq
 |cons x l ih=>
  intro q hq;simp only[P2] at hq ⊢;split at hq
  ·rename_i hb hr;rw[h _ _ hb,ih hr];exact hq
  ·cases hq

theorem lV{b0:Nat}(h:F9 H H'):∀(d:Nat) {t:T} {r:T×Option Prop},O2 b0 H d t=some r->O2 b0 H' d t=some r:=by
 intro d;induction d with
 |zero=>intro t r he;simp[O2] at he
 |succ d ih=>
  intro t r he;unfold O2 at he ⊢;split at he
  ·split at he
   ·exact he
   split at he
   ·rename_i A hk;simp only[h.getA hk];split at he
    ·rename_i hA;split at he
     ·rename_i hm;rw[xN (λa b hb=>ih hb) hm]
      exact he
     ·cases he
    ·cases he
   ·cases he
  ·split at he
   ·exact he
   split at he
   ·rename_i hk;simp only[h _ _ hk];exact he
   ·rename_i hk;simp only[h _ _ hk];exact he
   ·rename_i hk;simp only[h _ _ hk];exact he
   ·cases he
  ·simp only[J3] at he ⊢;obtain⟨a,ha,rfl⟩:=he;exact⟨a,xN (λa b hb=>ih hb) ha,rfl⟩
  ·simp only[J3] at he ⊢;obtain⟨a,ha,rfl⟩:=he;exact⟨a,xN (λa b hb=>ih hb) ha,rfl⟩
  ·simp only[J3] at he ⊢;obtain⟨a,ha,rfl⟩:=he;exact⟨a,xN (λa b hb=>ih hb) ha,rfl⟩
  ·cases he
  ·split at he
   ·exact he
   split at he
   ·rename_i hk;simp only[h.getOwn hk];exact he
   ·cases he
  ·exact he
  ·cases he
  ·exact he

theorem a4c(h:F9 H H'){f:FuncId}{args:List T}{r:T×Option Prop}(he:m4 G H f args=some r):m4 G H' f args=some r:=by
 unfold m4 at he ⊢;split at he
 ·exact he
 ·split at he
  ·rename_i hb;rw[xN (λa b hb=>lV h 6 hb) hb]
   exact he
  ·cases he

theorem a8n(h:F9 H H'){op:Op}{y:T}{H1:Y0}{side:Option Prop}(hst:y6 G op=true)(he:M3 P G s H op=some (y,H1,side)):M3 P G s H' op=some (y,H',side):=by
 unfold M3 at he;split at he
 ·rename_i hv;simp only[W8,U0] at he;obtain⟨rfl,rfl,rfl⟩:=he;unfold M3;rw[a9j h hv]
 ·rename_i hv;split at he
  ·rename_i r hm;simp only[W8] at he;subst he;unfold D9 at hm;split at hm
   case h_6 src dst x=>
    split at hm
    ·rename_i e l hs hd hx;split at hm
     ·rename_i hb;simp only[W8,U0] at hm;obtain⟨rfl,rfl,rfl⟩:=hm;have h1:O3 P s H' (.convert src dst x)=none:=by simp only[O3,yJ,hs,hd,hx]
      unfold M3;rw[h1];simp only[D9,hs,hd,hx,hb]
     ·cases hm
    ·cases hm
   all_goals first|(simp[y6] at hst;done)|(cases hm;done)
  ·rename_i hm;split at he
   ·rename_i f args argTypes;split at he
    ·rename_i hie;simp[y6,hie] at hst
    ·rename_i hie;split at he
     ·rename_i g cs hfn;simp only[J3,U0] at he;obtain⟨r,hr,rfl,rfl,rfl⟩:=he;unfold M3;simp only[O3,D9,hie,hfn,a4c h hr,m6]
     ·cases he
   ·cases he

theorem a4r{op:Op}{y:T}{H1:Y0}{side:Option Prop}(hp:pureB op=true)(he:M3 P G s H op=some (y,H1,side)):M3 P G s H' op=some (y,H',side):=by
 have hv:O3 P s H' op=O3 P s H op:=by
  unfold pureB at hp;split at hp<;>first|(cases hp;done)|rfl
 have hm:D9 P s H op=none:=by
  unfold pureB at hp;split at hp<;>first|(cases hp;done)|rfl
 have hc:∀c,op≠ .call c:=by
  rintro c rfl;simp[pureB] at hp
 unfold M3 at he ⊢;rw[hv];split at he
 ·simp only[W8,U0] at he ⊢;exact⟨he.1,trivial,he.2.2⟩
 ·rw[hm] at he;simp only at he;split at he
  ·exact absurd rfl (hc _)
  ·cases he

theorem J7(H:Y0)(x:Option Ob):F9 H (H++[x]):=by
 intro k ob hk;rw[y9,if_pos (J6 hk)];exact hk

theorem a6s{G:H6}{f:FuncId}{c:List T->Option (T×Y0×Option Prop)}(h:zU G f=some (.mk c)):oT G f=none:=by
 induction G with
 |nil=>cases h
 |cons x G ih=>
  obtain⟨g,d⟩:=x;simp only[zU] at h;simp only[oT];split at h
  ·simp only[W8] at h;subst h;rfl
  ·exact ih h

theorem a0E{G:H6}{f:FuncId}{c:Con}(h:zU G f=some c)(hc:c.isMk=true):gfz G f=none:=by
 induction G with
 |nil=>cases h
 |cons x G ih=>
  obtain⟨g,d⟩:=x;simp only[zU] at h;simp only[gfz];split at h
  ·simp only[W8] at h;subst h;cases d<;>first|rfl|(cases hc)
  ·exact ih h

theorem bB{c:List T->Option (T×Y0×Option Prop)}{args:List T}{y:T}{side:Option Prop}(he:dF c H args=some (y,H',side)):F9 H H':=by
 unfold dF at he;split at he
 ·split at he
  ·split at he
   ·simp only[W8,U0] at he;obtain⟨_,rfl,_⟩:=he;intro k ob hk;unfold Z1 at hk ⊢;have hlt:=J6 hk
    rwa [sC hlt]
   ·cases he
  ·cases he
 ·cases he

theorem a7L{op:Op}{y:T}{side:Option Prop}(hg:k8 G op=true)(he:M3 P G s H op=some (y,H',side)):F9 H H':=by
 unfold M3 at he;split at he
 ·simp only[W8,U0] at he;obtain⟨_,rfl,_⟩:=he;exact F9.refl H
 ·split at he
  ·rename_i r hm;simp only[W8] at he;subst he;have box:∀{t:TypeId} {cs:List T} {y:T} {H':Y0} {side:Option Prop},hJ P H t cs=some (y,H',side)->F9 H H':=by
    intro t cs y H' side hb;unfold hJ at hb;split at hb
    ·simp only[W8,U0] at hb;obtain⟨_,rfl,_⟩:=hb;exact J7 H _
    ·cases hb
   unfold D9 at hm;split at hm
   ·split at hm
    ·exact box hm
    ·cases hm
   ·split at hm
    ·exact box hm
    ·cases hm
   ·simp[k8] at hg
   ·unfold dZ at hm;split at hm
    ·split at hm
     ·split at hm
      ·simp only[W8,U0] at hm;obtain⟨_,rfl,_⟩:=hm;exact J7 H _
      ·cases hm
     ·cases hm
    ·cases hm
   ·unfold k7 at hm;split at hm
    ·split at hm
     ·split at hm
      ·split at hm
       ·split at hm
        ·simp only[J3,U0] at hm;obtain⟨_,_,_,rfl,_⟩:=hm;exact J7 H _
        ·split at hm
         ·simp only[W8,U0] at hm;obtain⟨_,rfl,_⟩:=hm;exact J7 H _
         ·cases hm
       ·cases hm
      ·cases hm
     ·cases hm
    ·cases hm
   case h_8=>
    simp only[J3,U0] at hm;obtain⟨r',hr,rfl,rfl,_⟩:=hm;unfold xM at hr;split at hr
    ·simp only[W8] at hr;subst hr;exact J7 H _
    ·simp only[W8] at hr;subst hr;exact J7 H _
    ·split at hr
     ·simp only[W8] at hr;subst hr;exact J7 H _
     ·cases hr
   case h_10=>
    unfold rW at hm;split at hm
    ·split at hm
     ·split at hm
      ·simp only[W8,U0] at hm;obtain⟨_,rfl,_⟩:=hm;exact J7 H _
      ·cases hm
     ·cases hm
    ·cases hm
   all_goals first|(cases hm;done)|(simp[k8] at hg)
  ·split at he
   ·rename_i x args argTypes;simp only[k8] at hg;unfold isMk at hg;split at hg
    ·rename_i f;split at hg
     ·rename_i cn hcn;have h1:isEff G (.func f)=true:=by
       simp only[isEff,hcn];cases cn<;>first|rfl|(cases hg)
      have h2:oT G f=none:=by
       cases cn<;>first|(cases hg;done)|skip
       ·exact a6s hcn
       ·exact(gF hcn rfl).1
      rw[h1] at he;simp only at he;unfold tS at he;rw[h2] at he;simp only at he;split at he
      ·exact bB he
      ·rw[a0E hcn (by cases cn<;>first|rfl|(cases hg))] at he
       cases he
     ·cases hg
    ·cases hg
   ·cases he

def hZ(R:List Nat)(H H':Y0):Prop:=∀k,k ∈ R->∀ob,Z1 H k=some ob->Z1 H' k=some ob

theorem a76{op:Op}{y:T}{H1:Y0}{side:Option Prop}{R:List Nat}(hr:gX s op=some R)(hst:y6 G op=true)(hx:hZ R H H')(he:M3 P G s H op=some (y,H1,side)):M3 P G s H' op=some (y,H',side):=by
 have val:∀{r:T×Option Prop},O3 P s H op=some r->O3 P s H' op=some r->M3 P G s H' op=some (y,H',side):=by
  intro r h1 h2;unfold M3 at he ⊢;rw[h1] at he;rw[h2];simp only[W8,U0] at he ⊢;exact⟨he.1,trivial,he.2.2⟩
 unfold gX at hr;split at hr
 ·rename_i t a;split at hr
  ·rename_i k i j ha;simp only[W8] at hr;subst hr;have hv:∀r,O3 P s H (.load t a)=some r->O3 P s H' (.load t a)=some r:=by
    intro r h;simp only[O3,ha,zP,getA] at h ⊢;cases hob:Z1 H k with
    |none=>rw[hob] at h;simp at h
    |some ob=>
     rw[hx k (by simp) ob hob]
     rw[hob] at h;exact h
   cases hv0:O3 P s H (.load t a) with
   |none=>
    unfold M3 at he;rw[hv0] at he;simp[D9] at he
   |some r=>exact val hv0 (hv r hv0)
  ·rename_i cs ha;cases hv0:O3 P s H (.load t a) with
   |none=>
    unfold M3 at he;rw[hv0] at he;simp[D9] at he
   |some r=>
    refine val hv0 ?_
    simp only[O3,ha,zP] at hv0 ⊢;exact hv0
  ·cases hr
 ·rename_i t x ix;have hv:∀r,O3 P s H (.indexAddr t x ix)=some r->O3 P s H' (.indexAddr t x ix)=some r:=by
   intro r h;simp only[O3] at h ⊢;unfold D5 at h ⊢;split at hr
   ·rename_i ha;rw[ha] at h ⊢;generalize M9 s ix=q at h ⊢;generalize P.underlying t=u at h ⊢;cases q<;>first|exact h|skip
    cases u with
    |none=>exact h
    |some d=>cases d<;>exact h
   ·rename_i ha;rw[ha] at h ⊢;generalize M9 s ix=q at h ⊢;generalize P.underlying t=u at h ⊢;cases q<;>first|exact h|skip
    cases u with
    |none=>exact h
    |some d=>cases d<;>exact h
   ·rename_i k off n ha;simp only[W8] at hr;subst hr;rw[ha] at h ⊢;generalize M9 s ix=q at h ⊢;generalize P.underlying t=u at h ⊢;cases q<;>first|exact h|skip
    cases u with
    |none=>exact h
    |some d=>
     cases d<;>first|exact h|skip
     simp only[getA] at h ⊢;cases hob:Z1 H k with
     |none=>rw[hob] at h;simp at h
     |some ob=>
      rw[hx k (by simp) ob hob]
      rw[hob] at h;exact h
   ·cases hr
  cases hv0:O3 P s H (.indexAddr t x ix) with
  |none=>
   unfold M3 at he;rw[hv0] at he;simp[D9] at he
  |some r=>exact val hv0 (hv r hv0)
 ·rename_i src dst x;have same:O3 P s H' (.convert src dst x)=O3 P s H (.convert src dst x):=by
   simp only[O3];split at hr
   ·rename_i ha;unfold yJ;rw[ha];cases P.underlying src with
    |none=>rfl
    |some d=>cases P.underlying dst with
     |none=>cases d<;>rfl
     |some d'=>cases d<;>cases d'<;>rfl
   ·rename_i ha;unfold yJ;rw[ha];cases P.underlying src with
    |none=>rfl
    |some d=>cases P.underlying dst with
     |none=>cases d<;>rfl
     |some d'=>cases d<;>cases d'<;>rfl
   ·rename_i ha;unfold yJ;rw[ha];cases P.underlying src with
    |none=>rfl
    |some d=>cases P.underlying dst with
     |none=>cases d<;>rfl
     |some d'=>cases d<;>cases d'<;>rfl
   ·cases hr
  cases hv0:O3 P s H (.convert src dst x) with
  |none=>
   unfold M3 at he ⊢;rw[same,hv0];rw[hv0] at he;simp only at he ⊢;have hmm:∀r,D9 P s H (.convert src dst x)=some r->D9 P s H' (.convert src dst x)=some (r.1,H',r.2.2):=by
    intro r hm;unfold D9 at hm ⊢;simp only at hm ⊢;generalize P.underlying src=a at hm ⊢;generalize P.underlying dst=b at hm ⊢;generalize M9 s x=c at hm ⊢;split at hm
    ·split at hm
     ·rename_i hb;simp only[hb,W8] at hm ⊢;subst hm;rfl
     ·cases hm
    ·cases hm
   cases hm:D9 P s H (.convert src dst x) with
   |none=>
    rw[hm] at he;simp at he
   |some r=>
    rw[hm] at he;simp only[W8] at he;subst he;rw[hmm _ hm]
  |some r=>exact val hv0 (same.trans hv0)
 ·rename_i t x lo hi;have hv:∀r,O3 P s H (.slice t x lo hi none)=some r->O3 P s H' (.slice t x lo hi none)=some r:=by
   intro r h;simp only[O3] at h ⊢;unfold wD at h ⊢;generalize yK (lo.map (M9 s))=q1 at h ⊢;generalize yK (hi.map (M9 s))=q2 at h ⊢;generalize P.underlying t=u at h ⊢;split at hr
   ·rename_i ha;rw[ha] at h ⊢;cases q1<;>cases q2<;>first|exact h|skip
    cases u with
    |none=>exact h
    |some d=>cases d<;>exact h
   ·rename_i ha;rw[ha] at h ⊢;cases q1<;>cases q2<;>first|exact h|skip
    cases u with
    |none=>exact h
    |some d=>cases d<;>exact h
   ·rename_i ha;rw[ha] at h ⊢;cases q1<;>cases q2<;>first|exact h|skip
    cases u with
    |none=>exact h
    |some d=>cases d<;>exact h
   ·rename_i k off n ha;simp only[W8] at hr;subst hr;rw[ha] at h ⊢;cases q1<;>cases q2<;>first|exact h|skip
    cases u with
    |none=>exact h
    |some d=>
     cases d<;>first|exact h|skip
     simp only[getA] at h ⊢;cases hob:Z1 H k with
     |none=>rw[hob] at h;simp at h
     |some ob=>
      rw[hx k (by simp) ob hob]
      rw[hob] at h;exact h
   ·cases hr
  cases hv0:O3 P s H (.slice t x lo hi none) with
  |none=>
   unfold M3 at he;rw[hv0] at he;simp[D9] at he
  |some r=>exact val hv0 (hv r hv0)
 ·simp[y6] at hst
 ·rename_i args argTypes;have same:O3 P s H' (.call {callee:=.builtin .len,args,argTypes})=O3 P s H (.call {callee:=.builtin .len,args,argTypes}):=rfl;cases hv0:O3 P s H (.call {callee:=.builtin .len,args,argTypes}) with
  |none=>
   unfold M3 at he;rw[hv0] at he;simp[D9] at he
  |some r=>exact val hv0 (same.trans hv0)
 ·rename_i x args argTypes;split at hr
  ·rename_i f cs hf;split at hr
   ·rename_i hcl;have he2:isEff G x=false:=by simpa[y6] using hst
    unfold M3 at he ⊢;simp only[O3,D9,he2,hf] at he ⊢;unfold m4 at he ⊢;rw[hcl] at he ⊢;simp only[J3,U0] at he ⊢;obtain⟨r,h1,h2,h3,h4⟩:=he;exact⟨r,h1,h2,trivial,h4⟩
   ·cases hr
  ·cases hr
 ·cases hr

theorem G8{H:Y0}{j k:Nat}{x:Option Ob}(h:j≠k):Z1 (H.set j x) k=Z1 H k:=by
 unfold Z1;rw[j_l h]
theorem pM:∀{ks:List Nat} {os:List (Option Ob)} {H:Y0} {k:Nat},k ∉ ks->Z1 (E3 H ks os) k=Z1 H k
 | [],os,H,k,_=>by cases os<;>rfl
 |j::ks,[],H,k,_=>rfl
 |j::ks,o::os,H,k,h=>by
  simp only[wE,not_or] at h;show Z1 (E3 (H.set j o) ks os) k=_;rw[pM h.2,G8 (Ne.symm h.1)]
theorem rC:∀{ks:List Nat} {H:Y0} {k:Nat},k ∉ ks->Z1 (I7 H ks) k=Z1 H k
 | [],H,k,_=>rfl
 |j::ks,H,k,h=>by
  simp only[wE,not_or] at h;show Z1 (I7 (H.set j none) ks) k=_;rw[rC h.2,G8 (Ne.symm h.1)]
theorem c1j(A B:Y0)(k:Nat){ob:Ob}(h:Z1 A k=some ob):Z1 (A++B) k=some ob:=by
 have hlt:=J6 h;unfold Z1 at h ⊢
 rwa [sC hlt]
theorem a1q{op:Op}{y:T}{side:Option Prop}{W:List Nat}(hw:qA H s op=some W)(he:M3 P G s H op=some (y,H',side)):∀k,k ∉ W->∀ob,Z1 H k=some ob->Z1 H' k=some ob:=by
 intro k hk ob hob;have app:∀(A:Y0) (x:Option Ob),Z1 A k=some ob->Z1 (A++[x]) k=some ob:=λA x h=>J7 A x k ob h
 unfold qA at hw;split at hw
 ·rename_i args argTypes;unfold M3 at he;simp only[O3] at he;split at he
  ·rename_i r hm;simp only[W8] at he;subst he;simp only[D9] at hm;split at hm
   ·rename_i d x t tx h1 h2;rw[h1] at hw;simp only at hw;unfold qX at hm;split at hm
    ·split at hm
     ·rename_i i z hi hz;split at hm
      ·rename_i hd;split at hm
       ·simp only[J3,U0] at hm;obtain⟨q,_,_,rfl,_⟩:=hm;exact app _ _ hob
       ·simp only[J3,U0] at hm;obtain⟨q,_,_,rfl,_⟩:=hm;exact app _ _ hob
      ·split at hm
       ·cases hm
       ·simp only[J3,U0] at hm;obtain⟨q,_,_,rfl,_⟩:=hm;exact app _ _ hob
      ·rename_i k0 n hb1 hb2 hd;rw[hd] at hw;simp only at hw;split at hw
       ·cases hw
       rename_i hnf;simp only[W8] at hw;subst hw;have hne:k0≠k:=λh=>hk (by simp[h])
       have hob':∀x,Z1 (H.set k0 x) k=some ob:=λx=>by rw[G8 hne];exact hob
       split at hm
       ·split at hm
        ·simp only[J3,U0] at hm;obtain⟨q,_,_,rfl,_⟩:=hm;exact app _ _ (hob' _)
        ·cases hm
       ·split at hm
        ·simp only[J3,U0] at hm;obtain⟨q,_,_,rfl,_⟩:=hm;exact app _ _ (hob' _)
        ·cases hm
       ·rename_i hf;exact absurd hf (hnf _ _ _ _ _)
       ·cases hm
      ·cases hm
     ·cases hm
    ·cases hm
   ·cases hm
  ·cases he
 ·rename_i t a x;unfold M3 at he;simp only[O3] at he;split at he
  ·rename_i r hm;simp only[W8] at he;subst he;simp only[D9,J3] at hm;obtain⟨q,hq,hq2⟩:=hm;simp only[U0] at hq2;obtain⟨_,rfl,_⟩:=hq2;split at hw
   ·rename_i k0 i j ha;have hne:k0≠k:=λh=>by
     subst h;split at hw
     ·split at hw
      ·simp only[W8] at hw;subst hw;simp at hk
      ·cases hw
     ·simp only[W8] at hw;subst hw;simp at hk
    rw[ha] at hq;simp only[tY] at hq;split at hq
    ·split at hq
     ·simp only[W8] at hq;subst hq;simp only;rw[G8 hne];exact hob
     ·cases hq
    ·split at hq
     ·simp only[W8] at hq;subst hq;simp only;rw[G8 hne];exact hob
     ·cases hq
    ·rename_i hf _ _ _;rw[hf] at hw;simp only at hw;split at hq
     ·split at hq
      ·simp only[W8] at hq;subst hq;simp only;rw[G8 hne];exact hob
      ·rename_i hcl;rw[hcl] at hw;cases hw
     ·cases hq
    ·cases hq
   ·rename_i k0 v i j z a1 b1 ha;simp only[W8] at hw;subst hw;have hne:k0≠k:=λh=>hk (by simp[h])
    rw[ha] at hq;simp only[tY] at hq;split at hq
    ·split at hq
     ·simp only[W8] at hq;subst hq;simp only;rw[G8 hne];exact hob
     ·cases hq
    ·cases hq
   ·cases hw
  ·cases he
 ·rename_i x args argTypes;have e1:O3 P s H (.call {callee:=.value x,args:=args,argTypes:=argTypes})=none:=rfl;have e2:D9 P s H (.call {callee:=.value x,args:=args,argTypes:=argTypes})=none:=rfl;unfold M3 at he;simp only[e1,e2] at he;have key:∀f cs,cN s x=some (f,cs)->tS G H f (args.toList.map (M9 s)++cs)=some (y,H',side)->Z1 H' k=some ob:=λf cs hf hv=>by
   rw[hf] at hw;simp only at hw;generalize args.toList.map (M9 s)++cs=as at hw hv;split at hw
   ·cases hw
   rename_i hnp;simp only[W8] at hw;subst hw;unfold tS at hv;split at hv
   ·split at hv
    ·exact absurd rfl (hnp _ _ _ _ _ _)
    ·unfold rQ at hv;split at hv
     ·split at hv
      ·split at hv
       ·simp only[W8,U0] at hv;obtain⟨_,rfl,_⟩:=hv;exact c1j _ _ _ (by rw[pM hk];exact hob)
       ·cases hv
      ·cases hv
     ·cases hv
   ·split at hv
    ·exact bB hv k ob hob
    ·split at hv
     ·unfold b5e at hv;split at hv
      ·split at hv
       ·simp only[W8,U0] at hv;obtain⟨_,rfl,_⟩:=hv;rw[rC hk];exact hob
       ·cases hv
      ·cases hv
     ·cases hv
  have pure:∀as f,(m4 G H f as).map (λr=>(r.1,H,r.2))=some (y,H',side)->Z1 H' k=some ob:=λas f hv=>by
   rw[J3] at hv;obtain⟨q,_,hq⟩:=hv;simp only[U0] at hq;obtain⟨_,rfl,_⟩:=hq;exact hob
  split at he
  ·split at he
   ·rename_i f _;exact key f [] rfl (by rw[List.append_nil];exact he)
   ·split at he
    ·rename_i f cs hf;split at he
     ·exact key f cs hf he
     ·exact pure _ _ he
    ·cases he
  ·split at he
   ·exact pure _ _ he
   ·cases he
 ·cases hw

theorem g7{op:Op}{y:T}{H1:Y0}{side:Option Prop}(ht:sO G op=true)(he:y7 P G s H op=some (y,H1,side)):H1=H/\y7 P G s H' op=some (y,H',side):=by
 unfold y7 at he ⊢;rw[ht] at he ⊢;simp only at he ⊢;split at he
 ·rename_i t p hv;simp only[W8,U0] at he;obtain⟨rfl,rfl,rfl⟩:=he;exact⟨rfl,rfl⟩
 ·cases he

theorem tE{op:Op}(ht:sO G op=false):y7 P G s H op=M3 P G s H op:=by unfold y7;rw[ht]
theorem a6y{op:Op}(ht:sO G op=false):stays G op=y6 G op:=by unfold stays;rw[ht]

theorem b0X(h:F9 H H'){op:Op}{y:T}{H1:Y0}{side:Option Prop}(hst:stays G op=true)(he:y7 P G s H op=some (y,H1,side)):y7 P G s H' op=some (y,H',side):=by
 cases ht:sO G op with
 |true=>exact(g7 ht he).2
 |false=>rw[tE ht] at he ⊢;rw[a6y ht] at hst;exact a8n h hst he

theorem a9f{op:Op}{y:T}{H1:Y0}{side:Option Prop}(hp:pureB op=true)(he:y7 P G s H op=some (y,H1,side)):y7 P G s H' op=some (y,H',side):=by
 cases ht:sO G op with
 |true=>exact(g7 ht he).2
 |false=>rw[tE ht] at he ⊢;exact a4r hp he

theorem a0L{op:Op}{y:T}{side:Option Prop}(hg:k8 G op=true)(he:y7 P G s H op=some (y,H',side)):F9 H H':=by
 cases ht:sO G op with
 |true=>rw[(g7 (H':=H) ht he).1];exact λk ob hk=>hk
 |false=>rw[tE ht] at he;exact a7L hg he

theorem a9t{c:List T->Option (T×Y0×Option Prop)}{args:List T}{y:T}{side:Option Prop}(he:dF c H args=some (y,H',side)):
  ∃os,H'=H++os/\∀H2:Y0,H2.length=H.length->F9 H H2->dF c H2 args=some (y,H2++os,side):=by
 unfold dF at he;split at he
 ·rename_i bs hbs;split at he
  ·rename_i r H0 p hc;split at he
   ·rename_i r' os hr hos;simp only[W8,U0] at he;obtain⟨rfl,rfl,rfl⟩:=he;refine⟨os,rfl,λH2 hl hx=> ?_⟩
    unfold dF;rw[xN (λa b hb=>lV hx 6 hb) hbs]
    simp only[hc,hl,hr,hos]
   ·cases he
  ·cases he
 ·cases he

theorem b6x{op:Op}{y:T}{side:Option Prop}(hf:floatB G op=true)(he:y7 P G s H op=some (y,H',side)):
  ∃os,H'=H++os/\∀H2:Y0,H2.length=H.length->F9 H H2->y7 P G s H2 op=some (y,H2++os,side):=by
 unfold floatB at hf;simp only[I3] at hf;obtain⟨hv,hg⟩:=hf;unfold a5s at hv;split at hv
 case h_2=>cases hv
 rename_i x args at_;have ht:sO G (.call {callee:=.value x,args:=args,argTypes:=at_})=false:=rfl;rw[tE ht] at he
 suffices hh:∃os,H'=H++os/\∀H2:Y0,H2.length=H.length->F9 H H2->M3 P G s H2 (.call {callee:=.value x,args:=args,argTypes:=at_})=some (y,H2++os,side) by
  obtain⟨os,h1,h2⟩:=hh;exact⟨os,h1,λH2 hl hx=>by rw[tE ht];exact h2 H2 hl hx⟩
 have e1:∀H,O3 P s H (.call {callee:=.value x,args:=args,argTypes:=at_})=none:=λH=>rfl
 have e2:∀H,D9 P s H (.call {callee:=.value x,args:=args,argTypes:=at_})=none:=λH=>rfl
 unfold M3 at he ⊢;simp only[e1,e2] at he ⊢;simp only[k8] at hg;unfold isMk at hg;split at hg
 ·rename_i f;split at hg
  ·rename_i cn hcn;have h1:isEff G (.func f)=true:=by
    simp only[isEff,hcn];cases cn<;>first|rfl|(cases hg)
   have h2:oT G f=none:=by
    cases cn<;>first|(cases hg;done)|skip
    ·exact a6s hcn
    ·exact(gF hcn rfl).1
   simp only[h1] at he ⊢;unfold tS at he ⊢;rw[h2] at he;simp only[h2] at he ⊢;split at he
   ·rename_i c hc;obtain⟨os,e3,e4⟩:=a9t he;exact⟨os,e3,λH2 hl hx=>e4 H2 hl hx⟩
   ·rw[a0E hcn (by cases cn<;>first|rfl|(cases hg))] at he
    cases he
  ·cases hg
 ·cases hg

theorem rT{t:TypeId}{r:Nat}{y:T}(he:a9Z P H t r=some (y,H')):∃z,zeroCells P t=some z/\z.all L6=true/\Z1 H r=none/\r<H.length/\y= .ref r 0 0/\H'=H.set r (some (.arr (z.all W6) 1000000 z.length 1 λ_=>z)):=by
 unfold a9Z at he;split at he
 ·rename_i z hz;split at he
  ·rename_i h1 h2 h3 h4;simp only[W8,U0] at he;exact⟨z,hz,h2,h3,m8 h4,he.1.symm,he.2.symm⟩
  ·cases he
 ·cases he

theorem aS{t:TypeId}{r:Nat}{y:T}(he:a9Z P H t r=some (y,H')):F9 H H':=by
 obtain⟨z,_,_,h3,h4,_,rfl⟩:=rT he;intro k ob hk;rw[S4 h4];split
 ·rename_i e;rw[e,h3] at hk;cases hk
 ·exact hk

theorem b35{op:Op}{y:T}{H1:Y0}{side:Option Prop}{R:List Nat}(hr:gX s op=some R)(hst:stays G op=true)(hx:hZ R H H')(he:y7 P G s H op=some (y,H1,side)):y7 P G s H' op=some (y,H',side):=by
 cases ht:sO G op with
 |true=>exact(g7 ht he).2
 |false=>rw[tE ht] at he ⊢;rw[a6y ht] at hst;exact a76 hr hst hx he

theorem a4h{op:Op}{y:T}{side:Option Prop}{W:List Nat}(hw:qA H s op=some W)(he:y7 P G s H op=some (y,H',side)):∀k,k ∉ W->∀ob,Z1 H k=some ob->Z1 H' k=some ob:=by
 cases ht:sO G op with
 |true=>rw[(g7 (H':=H) ht he).1];exact λk _ ob hk=>hk
 |false=>rw[tE ht] at he;exact a1q hw he

end
end Go.SS
