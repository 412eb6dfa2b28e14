/- A calculus of symbolic states: a region, in whatever order. -/
import Derived.Test.YtghgljelnhfihaaGreatSS14
import Derived.Orders
namespace Go.SS
open Go.RowKit

def H7(H H':Y1):Prop:=∀k ob,Z0 H k=some ob->Z0 H' k=some ob

theorem H7.refl(H:Y1):H7 H H:=λ_ _ h=>h
theorem H7.trans{A B C:Y1}(h:H7 A B)(k:H7 B C):H7 A C:=λi ob hi=>k i ob (h i ob hi)

section
variable {P:Program} {G:I2} {H H':Y1} {s:V5}

theorem H7.getA(h:H7 H H'){k:Nat}{A:Arr}(hk:getA H k=some A):SS.getA H' k=some A:=by
 obtain⟨ob,hob,⟨rfl,hi⟩|⟨v,ty,sz,n,row,rfl,rfl⟩⟩:=cY hk
 ·exact a4Y (h k ob hob) hi
 ·unfold SS.getA;rw[h k _ hob]

theorem H7.getOwn(h:H7 H H'){k v i j:Nat}{A:Own}(hk:getOwn H k v i j=some A):SS.getOwn H' k v i j=some A:=by
 obtain⟨ty,sz,row,hob,_,_⟩:=zT hk;unfold SS.getOwn at hk ⊢;rw[h k _ hob];rw[hob] at hk;exact hk

theorem a4H(h:H7 H H'){t:TypeId}{x y:T}{r:T×Option Prop}(he:pC P H t x y=some r):pC P H' t x y=some r:=by
 unfold pC at he ⊢;split at he
 ·split at he
  ·rename_i hk;simp only[h _ _ hk];exact he
  ·cases he
 ·split at he
  ·rename_i hk;simp only[h _ _ hk];exact he
  ·cases he
 ·cases he

theorem a4f(h:H7 H H'){t:TypeId}{x:T}{r:T×Option Prop}(he:zA P H t x=some r):zA P H' t x=some r:=by
 unfold zA at he ⊢;split at he
 ·exact he
 ·split at he
  ·rename_i hk;rw[h.getA hk];exact he
  ·cases he
 ·split at he
  ·rename_i hk;rw[h.getOwn hk];exact he
  ·cases he
 ·cases he

theorem nF(h:H7 H H'){t:TypeId}{x i:T}{r:T×Option Prop}(he:C2 P H t x i=some r):C2 P H' t x i=some r:=by
 unfold C2 at he ⊢;split at he
 ·split at he
  case h_3 hu=>
   split at he
   ·rename_i hk;simp only[h.getA hk];exact he
   ·cases he
  case h_4 hu=>
   split at he
   ·rename_i hk;simp only[h.getOwn hk];exact he
   ·cases he
  all_goals first|(cases he;done)|(exact he)
 ·cases he

theorem a5B(h:H7 H H'){a b:TypeId}{x:T}{r:T×Option Prop}(he:xJ P H a b x=some r):xJ P H' a b x=some r:=by
 unfold xJ at he ⊢;split at he
 case h_4 hu1 hu2=>
  split at he
  ·rename_i hu3 hk;simp only[hu3,h _ _ hk];exact he
  ·cases he
 all_goals first|(cases he;done)|(exact he)

theorem a22(h:H7 H H'){t:TypeId}{x:T}{lo hi:Option T}{r:T×Option Prop}(he:vX P H t x lo hi=some r):vX P H' t x lo hi=some r:=by
 unfold vX at he ⊢;split at he
 ·split at he
  case h_4 hu=>
   split at he
   ·rename_i hk;simp only[h.getA hk];exact he
   ·cases he
  all_goals first|(cases he;done)|(exact he)
 ·cases he

theorem a96(h:H7 H H'){op:Op}{r:T×Option Prop}(he:N7 P s H op=some r):N7 P s H' op=some r:=by
 unfold N7 at he ⊢;split at he
 case h_4=>exact a4f h he
 case h_8=>exact a5B h he
 case h_11=>exact nF h he
 case h_15=>exact a22 h he
 case h_18=>exact a4H h he
 all_goals first|exact he|(cases he;done)

theorem yU{α β:Type}{f g:α->Option β}(h:∀a b,f a=some b->g a=some b):∀{l:List α} {q:List β},O5 f l=some q->O5 g l=some q:=by
 intro l;induction l with
 |nil=>intro q hq;exact hq
 |cons x l ih=>
  intro q hq;simp only[O5] at hq ⊢;split at hq
  ·rename_i hb hr;rw[h _ _ hb,ih hr];exact hq
  ·cases hq

theorem kS{b0:Nat}(h:H7 H H'):∀(d:Nat) {t:T} {r:T×Option Prop},N3 b0 H d t=some r->N3 b0 H' d t=some r:=by
 intro d;induction d with
 |zero=>intro t r he;simp[N3] at he
 |succ d ih=>
  intro t r he;unfold N3 at he ⊢;split at he
  ·split at he
   ·exact he
   split at he
   ·rename_i A hk;simp only[h.getA hk];split at he
    ·rename_i hA;split at he
     ·rename_i hm;rw[yU (λa b hb=>ih hb) hm]
      exact he
     ·cases he
    ·cases he
   ·cases he
  ·split at he
   ·exact he
   split at he
   ·rename_i hk;simp only[h _ _ hk];exact he
   ·rename_i hk;simp only[h _ _ hk];exact he
   ·rename_i hk;simp only[h _ _ hk];exact he
   ·cases he
  ·simp only[I3] at he ⊢;obtain⟨a,ha,rfl⟩:=he;exact⟨a,yU (λa b hb=>ih hb) ha,rfl⟩
  ·simp only[I3] at he ⊢;obtain⟨a,ha,rfl⟩:=he;exact⟨a,yU (λa b hb=>ih hb) ha,rfl⟩
  ·simp only[I3] at he ⊢;obtain⟨a,ha,rfl⟩:=he;exact⟨a,yU (λa b hb=>ih hb) ha,rfl⟩
  ·cases he
  ·split at he
   ·exact he
   split at he
   ·rename_i hk;simp only[h.getOwn hk];exact he
   ·cases he
  ·exact he
  ·cases he
  ·exact he

theorem a3V(h:H7 H H'){f:FuncId}{args:List T}{r:T×Option Prop}(he:i8 G H f args=some r):i8 G H' f args=some r:=by
 unfold i8 at he ⊢;split at he
 ·exact he
 ·split at he
  ·rename_i hb;rw[yU (λa b hb=>kS h 6 hb) hb]
   exact he
  ·cases he

theorem a9F(h:H7 H H'){op:Op}{y:T}{H1:Y1}{side:Option Prop}(hst:z6 G op=true)(he:L6 P G s H op=some (y,H1,side)):L6 P G s H' op=some (y,H',side):=by
 unfold L6 at he;split at he
 ·rename_i hv;simp only[W8,T5] at he;obtain⟨rfl,rfl,rfl⟩:=he;unfold L6;rw[a96 h hv]
 ·rename_i hv;split at he
  ·rename_i r hm;simp only[W8] at he;subst he;unfold D3 at hm;split at hm
   case h_6 src dst x=>
    split at hm
    ·rename_i e l hs hd hx;split at hm
     ·rename_i hb;simp only[W8,T5] at hm;obtain⟨rfl,rfl,rfl⟩:=hm;have h1:N7 P s H' (.convert src dst x)=none:=by simp only[N7,xJ,hs,hd,hx]
      unfold L6;rw[h1];simp only[D3,hs,hd,hx,hb]
     ·cases hm
    ·cases hm
   all_goals first|(simp[z6] at hst;done)|(cases hm;done)
  ·rename_i hm;split at he
   ·rename_i f args argTypes;split at he
    ·rename_i hie;simp[z6,hie] at hst
    ·rename_i hie;split at he
     ·rename_i g cs hfn;simp only[I3,T5] at he;obtain⟨r,hr,rfl,rfl,rfl⟩:=he;unfold L6;simp only[N7,D3,hie,hfn,a3V h hr,j8]
     ·cases he
   ·cases he

theorem a46{op:Op}{y:T}{H1:Y1}{side:Option Prop}(hp:pureB op=true)(he:L6 P G s H op=some (y,H1,side)):L6 P G s H' op=some (y,H',side):=by
 have hv:N7 P s H' op=N7 P s H op:=by
  unfold pureB at hp;split at hp<;>first|(cases hp;done)|rfl
 have hm:D3 P s H op=none:=by
  unfold pureB at hp;split at hp<;>first|(cases hp;done)|rfl
 have hc:∀c,op≠ .call c:=by
  rintro c rfl;simp[pureB] at hp
 unfold L6 at he ⊢;rw[hv];split at he
 ·simp only[W8,T5] at he ⊢;exact⟨he.1,trivial,he.2.2⟩
 ·rw[hm] at he;simp only at he;split at he
  ·exact absurd rfl (hc _)
  ·cases he

theorem I6(H:Y1)(x:Option Ob):H7 H (H++[x]):=by
 intro k ob hk;rw[v9,if_pos (J2 hk)];exact hk

theorem a50{G:I2}{f:FuncId}{c:List T->Option (T×Y1×Option Prop)}(h:y0 G f=some (.mk c)):tB G f=none:=by
 induction G with
 |nil=>cases h
 |cons x G ih=>
  obtain⟨g,d⟩:=x;simp only[y0] at h;simp only[tB];split at h
  ·simp only[W8] at h;subst h;rfl
  ·exact ih h

theorem a0N{G:I2}{f:FuncId}{c:Con}(h:y0 G f=some c)(hc:c.isMk=true):gfz G f=none:=by
 induction G with
 |nil=>cases h
 |cons x G ih=>
  obtain⟨g,d⟩:=x;simp only[y0] at h;simp only[gfz];split at h
  ·simp only[W8] at h;subst h;cases d<;>first|rfl|(cases hc)
  ·exact ih h

theorem a2i{c:List T->Option (T×Y1×Option Prop)}{args:List T}{y:T}{side:Option Prop}(he:a0C c H args=some (y,H',side)):H7 H H':=by
 unfold a0C at he;split at he
 ·split at he
  ·split at he
   ·simp only[W8,T5] at he;obtain⟨_,rfl,_⟩:=he;intro k ob hk;unfold Z0 at hk ⊢;have hlt:=J2 hk
    rwa [tX hlt]
   ·cases he
  ·cases he
 ·cases he

theorem a8i{op:Op}{y:T}{side:Option Prop}(hg:zM G op=true)(he:L6 P G s H op=some (y,H',side)):H7 H H':=by
 unfold L6 at he;split at he
 ·simp only[W8,T5] at he;obtain⟨_,rfl,_⟩:=he;exact H7.refl H
 ·split at he
  ·rename_i r hm;simp only[W8] at he;subst he;have box:∀{t:TypeId} {cs:List T} {y:T} {H':Y1} {side:Option Prop},fH P H t cs=some (y,H',side)->H7 H H':=by
    intro t cs y H' side hb;unfold fH at hb;split at hb
    ·simp only[W8,T5] at hb;obtain⟨_,rfl,_⟩:=hb;exact I6 H _
    ·cases hb
   unfold D3 at hm;split at hm
   ·split at hm
    ·exact box hm
    ·cases hm
   ·split at hm
    ·exact box hm
    ·cases hm
   ·simp[zM] at hg
   ·unfold a0n at hm;split at hm
    ·split at hm
     ·split at hm
      ·simp only[W8,T5] at hm;obtain⟨_,rfl,_⟩:=hm;exact I6 H _
      ·cases hm
     ·cases hm
    ·cases hm
   ·unfold zY at hm;split at hm
    ·split at hm
     ·split at hm
      ·split at hm
       ·split at hm
        ·simp only[I3,T5] at hm;obtain⟨_,_,_,rfl,_⟩:=hm;exact I6 H _
        ·split at hm
         ·simp only[W8,T5] at hm;obtain⟨_,rfl,_⟩:=hm;exact I6 H _
         ·cases hm
       ·cases hm
      ·cases hm
     ·cases hm
    ·cases hm
   case h_8=>
    simp only[I3,T5] at hm;obtain⟨r',hr,rfl,rfl,_⟩:=hm;unfold wN at hr;split at hr
    ·simp only[W8] at hr;subst hr;exact I6 H _
    ·simp only[W8] at hr;subst hr;exact I6 H _
    ·split at hr
     ·simp only[W8] at hr;subst hr;exact I6 H _
     ·cases hr
   case h_10=>
    unfold qH at hm;split at hm
    ·split at hm
     ·split at hm
      ·simp only[W8,T5] at hm;obtain⟨_,rfl,_⟩:=hm;exact I6 H _
      ·cases hm
     ·cases hm
    ·cases hm
   all_goals first|(cases hm;done)|(simp[zM] at hg)
  ·split at he
   ·rename_i x args argTypes;simp only[zM] at hg;unfold isMk at hg;split at hg
    ·rename_i f;split at hg
     ·rename_i cn hcn;have h1:isEff G (.func f)=true:=by
       simp only[isEff,hcn];cases cn<;>first|rfl|(cases hg)
      have h2:tB G f=none:=by
       cases cn<;>first|(cases hg;done)|skip
       ·exact a50 hcn
       ·exact(fU hcn rfl).1
      rw[h1] at he;simp only at he;unfold yD at he;rw[h2] at he;simp only at he;split at he
      ·exact a2i he
      ·rw[a0N hcn (by cases cn<;>first|rfl|(cases hg))] at he
       cases he
     ·cases hg
    ·cases hg
   ·cases he

def fB(R:List Nat)(H H':Y1):Prop:=∀k,k ∈ R->∀ob,Z0 H k=some ob->Z0 H' k=some ob

theorem a8S{op:Op}{y:T}{H1:Y1}{side:Option Prop}{R:List Nat}(hr:eJ s op=some R)(hst:z6 G op=true)(hx:fB R H H')(he:L6 P G s H op=some (y,H1,side)):L6 P G s H' op=some (y,H',side):=by
 have val:∀{r:T×Option Prop},N7 P s H op=some r->N7 P s H' op=some r->L6 P G s H' op=some (y,H',side):=by
  intro r h1 h2;unfold L6 at he ⊢;rw[h1] at he;rw[h2];simp only[W8,T5] at he ⊢;exact⟨he.1,trivial,he.2.2⟩
 unfold eJ at hr;split at hr
 ·rename_i t a;split at hr
  ·rename_i k i j ha;simp only[W8] at hr;subst hr;have hv:∀r,N7 P s H (.load t a)=some r->N7 P s H' (.load t a)=some r:=by
    intro r h;simp only[N7,ha,zA,getA] at h ⊢;cases hob:Z0 H k with
    |none=>rw[hob] at h;simp at h
    |some ob=>
     rw[hx k (by simp) ob hob]
     rw[hob] at h;exact h
   cases hv0:N7 P s H (.load t a) with
   |none=>
    unfold L6 at he;rw[hv0] at he;simp[D3] at he
   |some r=>exact val hv0 (hv r hv0)
  ·rename_i cs ha;cases hv0:N7 P s H (.load t a) with
   |none=>
    unfold L6 at he;rw[hv0] at he;simp[D3] at he
   |some r=>
    refine val hv0 ?_
    simp only[N7,ha,zA] at hv0 ⊢;exact hv0
  ·cases hr
 ·rename_i t x ix;have hv:∀r,N7 P s H (.indexAddr t x ix)=some r->N7 P s H' (.indexAddr t x ix)=some r:=by
   intro r h;simp only[N7] at h ⊢;unfold C2 at h ⊢;split at hr
   ·rename_i ha;rw[ha] at h ⊢;generalize M7 s ix=q at h ⊢;generalize P.underlying t=u at h ⊢;cases q<;>first|exact h|skip
    cases u with
    |none=>exact h
    |some d=>cases d<;>exact h
   ·rename_i ha;rw[ha] at h ⊢;generalize M7 s ix=q at h ⊢;generalize P.underlying t=u at h ⊢;cases q<;>first|exact h|skip
    cases u with
    |none=>exact h
    |some d=>cases d<;>exact h
   ·rename_i k off n ha;simp only[W8] at hr;subst hr;rw[ha] at h ⊢;generalize M7 s ix=q at h ⊢;generalize P.underlying t=u at h ⊢;cases q<;>first|exact h|skip
    cases u with
    |none=>exact h
    |some d=>
     cases d<;>first|exact h|skip
     simp only[getA] at h ⊢;cases hob:Z0 H k with
     |none=>rw[hob] at h;simp at h
     |some ob=>
      rw[hx k (by simp) ob hob]
      rw[hob] at h;exact h
   ·cases hr
  cases hv0:N7 P s H (.indexAddr t x ix) with
  |none=>
   unfold L6 at he;rw[hv0] at he;simp[D3] at he
  |some r=>exact val hv0 (hv r hv0)
 ·rename_i src dst x;have same:N7 P s H' (.convert src dst x)=N7 P s H (.convert src dst x):=by
   simp only[N7];split at hr
   ·rename_i ha;unfold xJ;rw[ha];cases P.underlying src with
    |none=>rfl
    |some d=>cases P.underlying dst with
     |none=>cases d<;>rfl
     |some d'=>cases d<;>cases d'<;>rfl
   ·rename_i ha;unfold xJ;rw[ha];cases P.underlying src with
    |none=>rfl
    |some d=>cases P.underlying dst with
     |none=>cases d<;>rfl
     |some d'=>cases d<;>cases d'<;>rfl
   ·rename_i ha;unfold xJ;rw[ha];cases P.underlying src with
    |none=>rfl
    |some d=>cases P.underlying dst with
     |none=>cases d<;>rfl
     |some d'=>cases d<;>cases d'<;>rfl
   ·cases hr
  cases hv0:N7 P s H (.convert src dst x) with
  |none=>
   unfold L6 at he ⊢;rw[same,hv0];rw[hv0] at he;simp only at he ⊢;have hmm:∀r,D3 P s H (.convert src dst x)=some r->D3 P s H' (.convert src dst x)=some (r.1,H',r.2.2):=by
    intro r hm;unfold D3 at hm ⊢;simp only at hm ⊢;generalize P.underlying src=a at hm ⊢;generalize P.underlying dst=b at hm ⊢;generalize M7 s x=c at hm ⊢;split at hm
    ·split at hm
     ·rename_i hb;simp only[hb,W8] at hm ⊢;subst hm;rfl
     ·cases hm
    ·cases hm
   cases hm:D3 P s H (.convert src dst x) with
   |none=>
    rw[hm] at he;simp at he
   |some r=>
    rw[hm] at he;simp only[W8] at he;subst he;rw[hmm _ hm]
  |some r=>exact val hv0 (same.trans hv0)
 ·rename_i t x lo hi;have hv:∀r,N7 P s H (.slice t x lo hi none)=some r->N7 P s H' (.slice t x lo hi none)=some r:=by
   intro r h;simp only[N7] at h ⊢;unfold vX at h ⊢;generalize xQ (lo.map (M7 s))=q1 at h ⊢;generalize xQ (hi.map (M7 s))=q2 at h ⊢;generalize P.underlying t=u at h ⊢;split at hr
   ·rename_i ha;rw[ha] at h ⊢;cases q1<;>cases q2<;>first|exact h|skip
    cases u with
    |none=>exact h
    |some d=>cases d<;>exact h
   ·rename_i ha;rw[ha] at h ⊢;cases q1<;>cases q2<;>first|exact h|skip
    cases u with
    |none=>exact h
    |some d=>cases d<;>exact h
   ·rename_i ha;rw[ha] at h ⊢;cases q1<;>cases q2<;>first|exact h|skip
    cases u with
    |none=>exact h
    |some d=>cases d<;>exact h
   ·rename_i k off n ha;simp only[W8] at hr;subst hr;rw[ha] at h ⊢;cases q1<;>cases q2<;>first|exact h|skip
    cases u with
    |none=>exact h
    |some d=>
     cases d<;>first|exact h|skip
     simp only[getA] at h ⊢;cases hob:Z0 H k with
     |none=>rw[hob] at h;simp at h
     |some ob=>
      rw[hx k (by simp) ob hob]
      rw[hob] at h;exact h
   ·cases hr
  cases hv0:N7 P s H (.slice t x lo hi none) with
  |none=>
   unfold L6 at he;rw[hv0] at he;simp[D3] at he
  |some r=>exact val hv0 (hv r hv0)
 ·simp[z6] at hst
 ·rename_i args argTypes;have same:N7 P s H' (.call {callee:=.builtin .len,args,argTypes})=N7 P s H (.call {callee:=.builtin .len,args,argTypes}):=rfl;cases hv0:N7 P s H (.call {callee:=.builtin .len,args,argTypes}) with
  |none=>
   unfold L6 at he;rw[hv0] at he;simp[D3] at he
  |some r=>exact val hv0 (same.trans hv0)
 ·simp[z6] at hst
 ·rename_i x args argTypes;split at hr
  ·rename_i f cs hf;split at hr
   ·rename_i hcl;have he2:isEff G x=false:=by simpa[z6] using hst
    unfold L6 at he ⊢;simp only[N7,D3,he2,hf] at he ⊢;unfold i8 at he ⊢;rw[hcl] at he ⊢;simp only[I3,T5] at he ⊢;obtain⟨r,h1,h2,h3,h4⟩:=he;exact⟨r,h1,h2,trivial,h4⟩
   ·cases hr
  ·cases hr
 ·cases hr

theorem E7{H:Y1}{j k:Nat}{x:Option Ob}(h:j≠k):Z0 (H.set j x) k=Z0 H k:=by
 unfold Z0;rw[aP h]
theorem xS:∀{ks:List Nat} {os:List (Option Ob)} {H:Y1} {k:Nat},k ∉ ks->Z0 (O4 H ks os) k=Z0 H k
 | [],os,H,k,_=>by cases os<;>rfl
 |j::ks,[],H,k,_=>rfl
 |j::ks,o::os,H,k,h=>by
  simp only[wY,not_or] at h;show Z0 (O4 (H.set j o) ks os) k=_;rw[xS h.2,E7 (Ne.symm h.1)]
theorem qD:∀{ks:List Nat} {H:Y1} {k:Nat},k ∉ ks->Z0 (H6 H ks) k=Z0 H k
 | [],H,k,_=>rfl
 |j::ks,H,k,h=>by
  simp only[wY,not_or] at h;show Z0 (H6 (H.set j none) ks) k=_;rw[qD h.2,E7 (Ne.symm h.1)]
theorem c10(A B:Y1)(k:Nat){ob:Ob}(h:Z0 A k=some ob):Z0 (A++B) k=some ob:=by
 have hlt:=J2 h;unfold Z0 at h ⊢
 rwa [tX hlt]
theorem a1p{op:Op}{y:T}{side:Option Prop}{W:List Nat}(hw:vP H s op=some W)(he:L6 P G s H op=some (y,H',side)):∀k,k ∉ W->∀ob,Z0 H k=some ob->Z0 H' k=some ob:=by
 intro k hk ob hob;have app:∀(A:Y1) (x:Option Ob),Z0 A k=some ob->Z0 (A++[x]) k=some ob:=λA x h=>I6 A x k ob h
 unfold vP at hw;split at hw
 ·rename_i args argTypes;unfold L6 at he;simp only[N7] at he;split at he
  ·rename_i r hm;simp only[W8] at he;subst he;simp only[D3] at hm;split at hm
   ·rename_i d x t tx h1 h2;rw[h1] at hw;simp only at hw;unfold rA at hm;split at hm
    ·split at hm
     ·rename_i i z hi hz;split at hm
      ·rename_i hd;split at hm
       ·simp only[I3,T5] at hm;obtain⟨q,_,_,rfl,_⟩:=hm;exact app _ _ hob
       ·simp only[I3,T5] at hm;obtain⟨q,_,_,rfl,_⟩:=hm;exact app _ _ hob
      ·split at hm
       ·cases hm
       ·simp only[I3,T5] at hm;obtain⟨q,_,_,rfl,_⟩:=hm;exact app _ _ hob
      ·rename_i k0 n hb1 hb2 hd;rw[hd] at hw;simp only at hw;split at hw
       ·cases hw
       rename_i hnf;simp only[W8] at hw;subst hw;have hne:k0≠k:=λh=>hk (by simp[h])
       have hob':∀x,Z0 (H.set k0 x) k=some ob:=λx=>by rw[E7 hne];exact hob
       split at hm
       ·split at hm
        ·simp only[I3,T5] at hm;obtain⟨q,_,_,rfl,_⟩:=hm;exact app _ _ (hob' _)
        ·cases hm
       ·split at hm
        ·simp only[I3,T5] at hm;obtain⟨q,_,_,rfl,_⟩:=hm;exact app _ _ (hob' _)
        ·cases hm
       ·rename_i hf;exact absurd hf (hnf _ _ _ _ _)
       ·cases hm
      ·cases hm
     ·cases hm
    ·cases hm
   ·cases hm
  ·cases he
 ·rename_i t a x;unfold L6 at he;simp only[N7] at he;split at he
  ·rename_i r hm;simp only[W8] at he;subst he;simp only[D3,I3] at hm;obtain⟨q,hq,hq2⟩:=hm;simp only[T5] at hq2;obtain⟨_,rfl,_⟩:=hq2;split at hw
   ·rename_i k0 i j ha;have hne:k0≠k:=λh=>by
     subst h;split at hw
     ·split at hw
      ·simp only[W8] at hw;subst hw;simp at hk
      ·cases hw
     ·simp only[W8] at hw;subst hw;simp at hk
    rw[ha] at hq;simp only[tT] at hq;split at hq
    ·split at hq
     ·simp only[W8] at hq;subst hq;simp only;rw[E7 hne];exact hob
     ·cases hq
    ·split at hq
     ·simp only[W8] at hq;subst hq;simp only;rw[E7 hne];exact hob
     ·cases hq
    ·rename_i hf _ _ _;rw[hf] at hw;simp only at hw;split at hq
     ·split at hq
      ·simp only[W8] at hq;subst hq;simp only;rw[E7 hne];exact hob
      ·rename_i hcl;rw[hcl] at hw;cases hw
     ·cases hq
    ·cases hq
   ·rename_i k0 v i j z a1 b1 ha;simp only[W8] at hw;subst hw;have hne:k0≠k:=λh=>hk (by simp[h])
    rw[ha] at hq;simp only[tT] at hq;split at hq
    ·split at hq
     ·simp only[W8] at hq;subst hq;simp only;rw[E7 hne];exact hob
     ·cases hq
    ·cases hq
   ·cases hw
  ·cases he
 ·rename_i x args argTypes;have e1:N7 P s H (.call {callee:=.value x,args:=args,argTypes:=argTypes})=none:=rfl;have e2:D3 P s H (.call {callee:=.value x,args:=args,argTypes:=argTypes})=none:=rfl;unfold L6 at he;simp only[e1,e2] at he;have key:∀f cs,gR s x=some (f,cs)->yD G H f (args.toList.map (M7 s)++cs)=some (y,H',side)->Z0 H' k=some ob:=λf cs hf hv=>by
   rw[hf] at hw;simp only at hw;generalize args.toList.map (M7 s)++cs=as at hw hv;split at hw
   ·cases hw
   rename_i hnp;simp only[W8] at hw;subst hw;unfold yD at hv;split at hv
   ·split at hv
    ·exact absurd rfl (hnp _ _ _ _ _ _)
    ·unfold m7 at hv;split at hv
     ·split at hv
      ·split at hv
       ·simp only[W8,T5] at hv;obtain⟨_,rfl,_⟩:=hv;exact c10 _ _ _ (by rw[xS hk];exact hob)
       ·cases hv
      ·cases hv
     ·cases hv
   ·split at hv
    ·exact a2i hv k ob hob
    ·split at hv
     ·unfold b6J at hv;split at hv
      ·split at hv
       ·simp only[W8,T5] at hv;obtain⟨_,rfl,_⟩:=hv;rw[qD hk];exact hob
       ·cases hv
      ·cases hv
     ·cases hv
  have pure:∀as f,(i8 G H f as).map (λr=>(r.1,H,r.2))=some (y,H',side)->Z0 H' k=some ob:=λas f hv=>by
   rw[I3] at hv;obtain⟨q,_,hq⟩:=hv;simp only[T5] at hq;obtain⟨_,rfl,_⟩:=hq;exact hob
  split at he
  ·split at he
   ·rename_i f _;exact key f [] rfl (by rw[List.append_nil];exact he)
   ·split at he
    ·rename_i f cs hf;split at he
     ·exact key f cs hf he
     ·exact pure _ _ he
    ·cases he
  ·split at he
   ·exact pure _ _ he
   ·cases he
 ·cases hw

theorem yO{op:Op}{y:T}{H1:Y1}{side:Option Prop}(ht:uD G op=true)(he:A6 P G s H op=some (y,H1,side)):H1=H/\A6 P G s H' op=some (y,H',side):=by
 unfold A6 at he ⊢;rw[ht] at he ⊢;simp only at he ⊢;split at he
 ·rename_i t p hv;simp only[W8,T5] at he;obtain⟨rfl,rfl,rfl⟩:=he;exact⟨rfl,rfl⟩
 ·cases he

theorem uI{op:Op}(ht:uD G op=false):A6 P G s H op=L6 P G s H op:=by unfold A6;rw[ht]
theorem a64{op:Op}(ht:uD G op=false):stays G op=z6 G op:=by unfold stays;rw[ht]

theorem b2y(h:H7 H H'){op:Op}{y:T}{H1:Y1}{side:Option Prop}(hst:stays G op=true)(he:A6 P G s H op=some (y,H1,side)):A6 P G s H' op=some (y,H',side):=by
 cases ht:uD G op with
 |true=>exact(yO ht he).2
 |false=>rw[uI ht] at he ⊢;rw[a64 ht] at hst;exact a9F h hst he

theorem a9K{op:Op}{y:T}{H1:Y1}{side:Option Prop}(hp:pureB op=true)(he:A6 P G s H op=some (y,H1,side)):A6 P G s H' op=some (y,H',side):=by
 cases ht:uD G op with
 |true=>exact(yO ht he).2
 |false=>rw[uI ht] at he ⊢;exact a46 hp he

theorem a2S{op:Op}{y:T}{side:Option Prop}(hg:zM G op=true)(he:A6 P G s H op=some (y,H',side)):H7 H H':=by
 cases ht:uD G op with
 |true=>rw[(yO (H':=H) ht he).1];exact λk ob hk=>hk
 |false=>rw[uI ht] at he;exact a8i hg he

theorem a93{c:List T->Option (T×Y1×Option Prop)}{args:List T}{y:T}{side:Option Prop}(he:a0C c H args=some (y,H',side)):
  ∃os,H'=H++os/\∀H2:Y1,H2.length=H.length->H7 H H2->a0C c H2 args=some (y,H2++os,side):=by
 unfold a0C at he;split at he
 ·rename_i bs hbs;split at he
  ·rename_i r H0 p hc;split at he
   ·rename_i r' os hr hos;simp only[W8,T5] at he;obtain⟨rfl,rfl,rfl⟩:=he;refine⟨os,rfl,λH2 hl hx=> ?_⟩
    unfold a0C;rw[yU (λa b hb=>kS hx 6 hb) hbs]
    simp only[hc,hl,hr,hos]
   ·cases he
  ·cases he
 ·cases he

theorem b6x{op:Op}{y:T}{side:Option Prop}(hf:floatB G op=true)(he:A6 P G s H op=some (y,H',side)):
  ∃os,H'=H++os/\∀H2:Y1,H2.length=H.length->H7 H H2->A6 P G s H2 op=some (y,H2++os,side):=by
 unfold floatB at hf;simp only[L3] at hf;obtain⟨hv,hg⟩:=hf;unfold a6X at hv;split at hv
 case h_2=>cases hv
 rename_i x args at_;have ht:uD G (.call {callee:=.value x,args:=args,argTypes:=at_})=false:=rfl;rw[uI ht] at he
 suffices hh:∃os,H'=H++os/\∀H2:Y1,H2.length=H.length->H7 H H2->L6 P G s H2 (.call {callee:=.value x,args:=args,argTypes:=at_})=some (y,H2++os,side) by
  obtain⟨os,h1,h2⟩:=hh;exact⟨os,h1,λH2 hl hx=>by rw[uI ht];exact h2 H2 hl hx⟩
 have e1:∀H,N7 P s H (.call {callee:=.value x,args:=args,argTypes:=at_})=none:=λH=>rfl
 have e2:∀H,D3 P s H (.call {callee:=.value x,args:=args,argTypes:=at_})=none:=λH=>rfl
 unfold L6 at he ⊢;simp only[e1,e2] at he ⊢;simp only[zM] at hg;unfold isMk at hg;split at hg
 ·rename_i f;split at hg
  ·rename_i cn hcn;have h1:isEff G (.func f)=true:=by
    simp only[isEff,hcn];cases cn<;>first|rfl|(cases hg)
   have h2:tB G f=none:=by
    cases cn<;>first|(cases hg;done)|skip
    ·exact a50 hcn
    ·exact(fU hcn rfl).1
   simp only[h1] at he ⊢;unfold yD at he ⊢;rw[h2] at he;simp only[h2] at he ⊢;split at he
   ·rename_i c hc;obtain⟨os,e3,e4⟩:=a93 he;exact⟨os,e3,λH2 hl hx=>e4 H2 hl hx⟩
   ·rw[a0N hcn (by cases cn<;>first|rfl|(cases hg))] at he
    cases he
  ·cases hg
 ·cases hg

theorem a1O{α β:Type}{f:α->Option β}:∀{l:List α} {q:List β},O5 f l=some q->∀a ∈ l,∃b,f a=some b
 | [],_,_,a,ha=>by cases ha
 |x::l,q,h,a,ha=>by
  simp only[O5] at h;split at h
  ·rename_i hb hr;rcases wY.1 ha with rfl|ha
   ·exact⟨_,hb⟩
   ·exact a1O hr a ha
  ·cases h

theorem sB{k:Nat}:∀(d:Nat) (r S1:List Nat),k ∈ S1->k ∈ t7 H d r S1
 |0,_,_,h=>h
 |_+1,[],_,h=>h
 |d+1,x::r,S1,h=>by
  unfold t7;split
  ·exact sB d r S1 h
  ·exact sB d _ _ (List.mem_append_left _ h)

theorem oO(hx:H7 H H'):∀(d:Nat) (r S1:List Nat),(∀k ∈ t7 H d r S1,∃ob,Z0 H k=some ob)->t7 H' d r S1=t7 H d r S1
 |0,_,_,_=>rfl
 |_+1,[],_,_=>rfl
 |d+1,x::r,S1,h=>by
  unfold t7 at h ⊢;cases hm:memN x S1 with
  |true=>
   rw[hm] at h;exact oO hx d r S1 h
  |false=>
   rw[hm] at h;simp only at h ⊢;obtain⟨ob,hob⟩:=h x (sB d _ _ (List.mem_append_right _ (List.mem_singleton.2 rfl)));rw[hx x ob hob,hob];rw[hob] at h;exact oO hx d _ _ h

theorem b91{c:List T->Y1->Option (T×Y1×Option Prop)}{args:List T}{y:T}{side:Option Prop}{r:List Nat}(he:m7 c H (t7 H 64 r []) args=some (y,H',side)):
  ∃ks os os2,H'=O4 H ks os++os2/\(∀k ∈ ks,∃ob,Z0 H k=some ob)/\∀H2:Y1,H2.length=H.length->H7 H H2->m7 c H2 (t7 H2 64 r []) args=some (y,O4 H2 ks os++os2,side):=by
 unfold m7 at he;split at he
 ·rename_i as obs hnd has hobs;split at he
  ·rename_i r0 H0 p hc;split at he
   ·rename_i r' os hle hr hos;simp only[W8,T5] at he;obtain⟨rfl,rfl,rfl⟩:=he;have hk:∀k ∈ t7 H 64 r [],∃ob,Z0 H k=some ob:=λk hk=>by
     obtain⟨b,hb⟩:=a1O hobs k hk;cases ho:Z0 H k with
     |none=>rw[ho] at hb;cases hb
     |some ob=>exact⟨ob,rfl⟩
    refine⟨_,_,_,rfl,hk,λH2 hl hx=> ?_⟩
    rw[oO hx 64 r [] hk];unfold m7;have h2:=yU (g:=λk=>(Z0 H2 k).bind (pH λk=>u7 k (t7 H 64 r []) 0)) (λa b hb=>by
     cases ho:Z0 H a with
     |none=>rw[ho] at hb;cases hb
     |some ob=>rw[hx a ob ho];rw[ho] at hb;exact hb) hobs
    simp only[hnd,has,h2,hc,hl,hle,hr,hos]
   ·cases he
  ·cases he
 ·cases he

theorem b4b{G:I2}{f:FuncId}{c:Con}(h:y0 G f=some c)(hc:c.isEf=true):(∃d,tB G f=some d)∨(tB G f=none/\gmk G f=none/\gfz G f=none):=by
 induction G with
 |nil=>cases h
 |cons x G ih=>
  obtain⟨g,d⟩:=x;simp only[y0] at h;simp only[tB,gmk,gfz];split at h
  ·simp only[W8] at h;subst h;cases d<;>first|exact .inl ⟨_,rfl⟩|exact .inr ⟨rfl,rfl,rfl⟩|(cases hc)
  ·exact ih h

theorem a1t{c:List T->Y1->Option (T×Y1×Option Prop)}{f:FuncId}(hc:tB G f=some c){l:List T}(hnp:∀k v i j n r,l≠ .posl k v i j n::r):yD G H f l=m7 c H (t7 H 64 (nL l) []) l:=by
 unfold yD;rw[hc];cases l with
 |nil=>rfl
 |cons t r=>cases t<;>first|rfl|exact absurd rfl (hnp _ _ _ _ _ _)

theorem b3L{op:Op}{y:T}{side:Option Prop}{W:List Nat}(hf:a8u G op=true)(hw:vP H s op=some W)(he:A6 P G s H op=some (y,H',side)):
  ∃ks os os2,H'=O4 H ks os++os2/\(∀k ∈ ks,∃ob,Z0 H k=some ob)/\∀H2:Y1,H2.length=H.length->H7 H H2->A6 P G s H2 op=some (y,O4 H2 ks os++os2,side):=by
 unfold a8u at hf;split at hf
 case h_2=>cases hf
 rename_i x args at_;have ht:uD G (.call {callee:=.value x,args:=args,argTypes:=at_})=false:=rfl;unfold isEf at hf;split at hf
 case h_2=>cases hf
 rename_i f;have e1:∀H,N7 P s H (.call {callee:=.value (.func f),args:=args,argTypes:=at_})=none:=λH=>rfl
 have e2:∀H,D3 P s H (.call {callee:=.value (.func f),args:=args,argTypes:=at_})=none:=λH=>rfl
 cases hcn:y0 G f with
 |none=>rw[hcn] at hf;cases hf
 |some cn=>
  rw[hcn] at hf;have hie:isEff G (.func f)=true:=by
   simp only[isEff,hcn];cases cn<;>first|rfl|(cases hf)
  have key:∀H,A6 P G s H (.call {callee:=.value (.func f),args:=args,argTypes:=at_})=yD G H f (args.toList.map (M7 s)):=λH=>by
   rw[uI ht];unfold L6;simp only[e1,e2,hie]
  rw[key] at he;have hnp:∀k v i j n r,args.toList.map (M7 s)≠ .posl k v i j n::r:=λk v i j n r hp=>by
   unfold vP at hw;simp only[gR,List.append_nil] at hw;rw[hp] at hw;cases hw
  rcases b4b hcn (by simpa using hf) with⟨c,hc⟩|⟨h1,h2,h3⟩
  ·rw[a1t hc hnp] at he;obtain⟨ks,os,os2,a1,a2,a3⟩:=b91 he;exact⟨ks,os,os2,a1,a2,λH2 hl hx=>by rw[key,a1t hc hnp];exact a3 H2 hl hx⟩
  ·unfold yD at he;rw[h1,h2,h3] at he;cases he

theorem qG{op:Op}{r:Nat}{y:T}{side:Option Prop}(he:a3t P s H op r=some (y,H',side)):Z0 H r=none/\r<H.length/\∃ob,H'=H.set r (some ob):=by
 unfold a3t at he;split at he
 ·split at he
  ·split at he
   ·rename_i h3 h4;simp only[W8,T5] at he;exact⟨h3,v6 h4,_,he.2.1.symm⟩
   ·cases he
  ·cases he
 ·split at he
  ·split at he
   ·split at he
    ·split at he
     ·split at he
      ·rename_i h3 h4;simp only[W8,T5] at he;exact⟨h3,v6 h4,_,he.2.1.symm⟩
      ·cases he
     ·cases he
    ·cases he
   ·cases he
  ·cases he
 ·cases he

theorem a2A{op:Op}{r:Nat}{y:T}{side:Option Prop}(he:a3t P s H op r=some (y,H',side)):H7 H H':=by
 obtain⟨h3,h4,_,rfl⟩:=qG he;intro k ob hk;rw[U0 h4];split
 ·rename_i e;rw[e,h3] at hk;cases hk
 ·exact hk

theorem b2M{op:Op}{y:T}{H1:Y1}{side:Option Prop}{R:List Nat}(hr:eJ s op=some R)(hst:stays G op=true)(hx:fB R H H')(he:A6 P G s H op=some (y,H1,side)):A6 P G s H' op=some (y,H',side):=by
 cases ht:uD G op with
 |true=>exact(yO ht he).2
 |false=>rw[uI ht] at he ⊢;rw[a64 ht] at hst;exact a8S hr hst hx he

theorem a42{op:Op}{y:T}{side:Option Prop}{W:List Nat}(hw:vP H s op=some W)(he:A6 P G s H op=some (y,H',side)):∀k,k ∉ W->∀ob,Z0 H k=some ob->Z0 H' k=some ob:=by
 cases ht:uD G op with
 |true=>rw[(yO (H':=H) ht he).1];exact λk _ ob hk=>hk
 |false=>rw[uI ht] at he;exact a1p hw he

end
end Go.SS
