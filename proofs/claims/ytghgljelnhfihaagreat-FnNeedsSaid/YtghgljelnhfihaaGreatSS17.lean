/- A calculus of symbolic states: one state as another says it. -/
import Derived.Test.YtghgljelnhfihaaGreatSS15SS16
namespace Go.SS
open Go.RowKit

def L4(ρ:Nat->Option Nat)(t t':T):Prop:=∃d t'',S4 ρ d t'=some t''/\RLe t t''

inductive OLe(ρ:Nat->Option Nat):Ob->Ob->Prop
 |mp (bo:Bool) (get get':Int->Int) (h:∀n,get n=get' n):OLe ρ (.mp bo get) (.mp bo get')
 |mp2 (get get':Int->Int->Bool) (h:∀a b,get a b=get' a b):OLe ρ (.mp2 get) (.mp2 get')
 |bys (ty ty':TypeId) (l:List UInt8):OLe ρ (.bys ty l) (.bys ty' l)
 |fam (v:Nat) (ty ty':TypeId) (sz n:Nat) (row row':Nat->List T) (h:T9 n row row'):OLe ρ (.fam v ty sz n row) (.fam v ty' sz n row')
 |same (ty ty':TypeId) (sz n:Nat) (row row':Nat->List T) (h:∀i,i<n->row i=row' i):OLe ρ (.arr true ty sz n row) (.arr true ty' sz n row')
 |ren (cl cl':Bool) (ty ty':TypeId) (sz n:Nat) (row row':Nat->List T) (hc:cl'=true->cl=true/\∀i,i<n->row i=row' i) (h:∀i,i<n->O5 (S4 ρ 6) (row' i)=some (row i)):OLe ρ (.arr cl ty sz n row) (.arr cl' ty' sz n row')
 |box (cl cl':Bool) (ty ty':TypeId) (sz:Nat) (row row':Nat->List T) (h1:∀t ∈ row' 0,J7 t=true) (hc:cl'=true->∀t ∈ row' 0,W5 t=true) (hl:(row 0).length=(row' 0).length) (h:∀(j:Nat) (a b:T),(row 0)[j]? =some a->(row' 0)[j]? =some b->L4 ρ a b):OLe ρ (.arr cl ty sz 1 row) (.arr cl' ty' sz 1 row')

section
variable {c:Ctx} {E:Env} {H H':Y1} {w:World} {ρ:Nat->Option Nat} {len:Nat}

theorem a6l(hlt:∀k m,ρ k=some m->k<H'.length)(hinj:∀k k' m,(Z0 H' k).isSome=true->(Z0 H' k').isSome=true->ρ k=some m->ρ k'=some m->k=k')
  (hH:∀k ob',Z0 H' k=some ob'->∃m ob,ρ k=some m/\Z0 H m=some ob/\OLe ρ ob ob') (hid:∀k,k<c.m->ρ k=some k) (h:Inv c E H w):Inv c (E.ren ρ H'.length) H' w:=by
 have hblk:∀{k:Nat} {ob':Ob} {b:Nat},Z0 H' k=some ob'->E6 (E.ren ρ H'.length) k ob' b->∃m ob,ρ k=some m/\Z0 H m=some ob/\E6 E m ob b:=by
  intro k ob' b hk hb;obtain⟨m,ob,hm,hob,hle⟩:=hH k ob' hk;refine⟨m,ob,hm,hob,?_⟩
  rcases hb with⟨h1,rfl⟩|⟨v,ty,sz,n,row,i,j,oty,osz,on,orow,rfl,hi,hj,hc,rfl⟩
  ·simp only[Env.ren,hm,Option.getD_some] at h1 ⊢;exact .inl ⟨h1,rfl⟩
  ·cases hle with
   |fam v ty1 ty2 sz n row1 sM hr=>
    have:=((mK (E:=E) (w:=w) (k:=m) (o:=.fam v ty1 sz n row1) (o':=.fam v ty sz n row) (by simp only[a1j,show Nat.beq sz sz=true from Nat.beq_refl sz];exact⟨trivial,trivial,hr⟩) (h.heap.live m _ hob).2.1).2.1 (E.b2 m v i j)).1
    simp only[Env.ren,hm,Option.getD_some] at hc ⊢;exact this (.inr ⟨v,ty,sz,n,row,i,j,oty,osz,on,orow,rfl,hi,hj,hc,rfl⟩)
 refine⟨⟨λk ob' hk=> ?_,λk k' o o' b hk hk' hb hb'=> ?_,λk hk=>hk.1,λk v hv=>(by obtain⟨g1,m,g2,g3⟩:=hv;exact⟨g1,m,g2,h.heap.l2 _ _ g3⟩),λk ob' v hk hv=> ?_⟩,h.nlt,h.nnew,λk ob' b hk hb=> ?_,h.fr,⟨h.keep.N,λk hk hL=> ?_,h.keep.same,λk v hk hv=> ?_⟩⟩
 ·obtain⟨m,ob,hm,hob,hle⟩:=hH k ob' hk;obtain⟨hL,hO,hN⟩:=h.heap.live m ob hob;have hNb:∀b,E6 (E.ren ρ H'.length) k ob' b->¬ (E.ren ρ H'.length).N b:=λb hb hn=>by
   obtain⟨m2,ob2,_,g1,g2⟩:=hblk hk hb;exact(h.heap.live m2 ob2 g1).2.2 b g2 hn
  have hb:(E.ren ρ H'.length).β k=E.β m:=by simp[Env.ren,hm]
  have hκ:(E.ren ρ H'.length).κ k=E.κ m:=by simp[Env.ren,hm]
  have hzz:(E.ren ρ H'.length).z k=E.z m:=by simp[Env.ren,hm]
  refine⟨⟨hlt k m hm,m,hm,hL⟩,?_,hNb⟩
  cases hle with
  |mp bo get get' hg=>
   obtain rfl:get=get':=funext hg;obtain⟨h0,es,clock,h1,h2⟩:=hO;exact(⟨by rw[hκ];exact h0,es,clock,by rw[hb];exact h1,h2⟩:a7i _ _ _ _ _)
  |mp2 get get' hg=>
   obtain rfl:get=get':=funext λa=>funext (hg a)
   obtain⟨h0,es,clock,h1,h2⟩:=hO;exact(⟨by rw[hκ];exact h0,es,clock,by rw[hb];exact h1,h2⟩:bX _ _ _ _)
  |fam v ty1 ty2 sz n row1 sM hr=>
   have hF:FamOk E w m v ty1 sz n row1:=hO;have hF2:FamOk E w m v ty2 sz n sM:=(mK (E:=E) (w:=w) (k:=m) (o:=.fam v ty1 sz n row1) (o':=.fam v ty2 sz n sM) (by simp only[a1j,show Nat.beq sz sz=true from Nat.beq_refl sz];exact⟨trivial,trivial,hr⟩) hO).1
   exact(FamOk.ren (E2:=E.ren ρ H'.length) (w':=w) hF2 (iW _) (λt x _ ht hx=>Rd.closed (E:=E) (E':=E.ren ρ H'.length) (λ_ h=>h) hx ht) hb hκ hzz ⟨hlt k m hm,m,hm,hF.l2⟩ (λi j=>by simp[Env.ren,hm]) (λi j=>by simp[Env.ren,hm]) (λ_ _=>rfl):FamOk _ _ _ _ _ _ _ _)
  |bys ty1 ty2 l=>
   obtain⟨hz,hn,hl,hone,hcl,cs,ty,hblk,hsz,hc⟩:=hO;show S9 _ _ _ _;unfold S9;rw[hb,hκ,hzz];simp only[Ob.toArr] at*;refine⟨hz,hn,hl,hone,hcl,cs,ty,hblk,hsz,λi j t hi hj=> ?_⟩
   obtain⟨u,hu,hr⟩:=hc i j t hi hj;exact⟨u,hu,Rd.closed (E:=E) (E':=E.ren ρ H'.length) (λ_ h=>h) hr (hcl trivial i t hi (B5 hj))⟩
  |same ty1 ty2 sz n row row' hrow=>
   obtain⟨hz,hn,hl,hone,hcl,cs,ty,hblk,hsz,hc⟩:=hO;show S9 _ _ _ _;unfold S9;rw[hb,hκ,hzz];simp only[Ob.toArr] at*;refine⟨hz,hn,λi hi=>by rw[←hrow i hi];exact hl i hi,λi t hi ht=>hone i t hi (by rw[hrow i hi];exact ht),λ_ i t hi ht=>hcl trivial i t hi (by rw[hrow i hi];exact ht),cs,ty,hblk,hsz,λi j t hi hj=> ?_⟩
   rw[←hrow i hi] at hj;obtain⟨u,hu,hr⟩:=hc i j t hi hj;exact⟨u,hu,Rd.closed (E:=E) (E':=E.ren ρ H'.length) (λ_ h=>h) hr (hcl trivial i t hi (B5 hj))⟩
  |ren cl1 cl2 ty1 ty2 sz n row row' hcc hrow=>
   obtain⟨hz,hn,hl,hone,hcl,cs,ty,hblk,hsz,hc⟩:=hO;show S9 _ _ _ _;unfold S9;rw[hb,hκ,hzz];simp only[Ob.toArr] at*;have hlen:∀i,i<n->(row' i).length=(row i).length:=λi hi=>(L5 (hrow i hi)).1.symm
   have hget:∀(i j:Nat) (t:T),i<n->(row' i)[j]? =some t->∃t0:T,(row i)[j]? =some t0/\S4 ρ 6 t=some t0:=by
    intro i j t hi hj;have hlt:j<(row i).length:=by rw[←hlen i hi];exact(z5.1 hj).1
    exact⟨_,K7 hlt,(L5 (hrow i hi)).2 j t _ hj (K7 hlt)⟩
   refine⟨hz,hn,λi hi=>by rw[hlen i hi];exact hl i hi,λi t hi ht=> ?_,λhc' i t hi ht=> ?_,cs,ty,hblk,hsz,λi j t hi hj=> ?_⟩
   ·obtain⟨j,hj⟩:=List.getElem?_of_mem ht
    obtain⟨t0,h0,h1⟩:=hget i j t hi hj;exact b3n h1 (hone i t0 hi (B5 h0))
   ·obtain⟨e1,e2⟩:=hcc hc';exact hcl e1 i t hi (by rw[e2 i hi];exact ht)
   ·obtain⟨t0,h0,h1⟩:=hget i j t hi hj;obtain⟨u,hu,hr⟩:=hc i j t0 hi h0;exact⟨u,hu,Rd.ren hlt 6 h1 hr⟩
  |box cl1 cl2 ty1 ty2 sz row row' h1 hcc hll htl=>
   obtain⟨hz,hn,hl,hone,hcl,cs,ty,hblk,hsz,hc⟩:=hO;show S9 _ _ _ _;unfold S9;rw[hb,hκ,hzz];simp only[Ob.toArr] at*;have hget:∀(j:Nat) (t:T),(row' 0)[j]? =some t->∃t0:T,(row 0)[j]? =some t0/\L4 ρ t0 t:=by
    intro j t hj;have hlt:j<(row 0).length:=by rw[hll];exact(z5.1 hj).1
    exact⟨_,K7 hlt,htl j _ t (K7 hlt) hj⟩
   refine⟨hz,hn,λi hi=> ?_,λi t hi ht=> ?_,λhc' i t hi ht=> ?_,cs,ty,hblk,hsz,λi j t hi hj=> ?_⟩
   ·obtain rfl:i=0:=by omega
    rw[←hll];exact hl 0 hi
   ·obtain rfl:i=0:=by omega
    exact h1 t ht
   ·obtain rfl:i=0:=by omega
    exact hcc hc' t ht
   ·obtain rfl:i=0:=by omega
    obtain⟨t0,h0,d,t'',hr1,hle⟩:=hget j t hj;obtain⟨u,hu,hr⟩:=hc 0 j t0 hi h0;exact⟨u,hu,Rd.ren hlt d hr1 (hle _ _ _ hr)⟩
 ·obtain⟨m,ob,hm,hob,hx⟩:=hblk hk hb;obtain⟨m',ob',hm',hob',hx'⟩:=hblk hk' hb';have:m=m':=h.heap.inj m m' ob ob' b hob hob' hx hx';subst this;exact hinj k k' m (by rw[hk];rfl) (by rw[hk'];rfl) hm hm'
 ·obtain⟨m,ob,hm,hob,hle⟩:=hH k ob' hk;obtain⟨_,m2,hm2,hv⟩:=hv;rw[hm] at hm2;simp only[W8] at hm2;subst hm2;obtain⟨v0,ty,sz,n,row,rfl,hle2⟩:=h.heap.cur m ob v hob hv;cases hle with
  |fam _ _ ty2 _ _ _ sM _=>exact⟨v0,ty2,sz,n,sM,rfl,hle2⟩
 ·obtain⟨m,ob,hm,hob,hx⟩:=hblk hk hb;exact h.bnew m ob b hob hx
 ·obtain⟨l1,l2,l3,l4⟩:=h.keep.L k hk hL;have hk':=hid k hk;refine⟨⟨hlt k k hk',k,hk',l1⟩,?_,?_,?_⟩<;>simp only[Env.ren,hk',Option.getD_some]<;>assumption
 ·obtain⟨l1,l2⟩:=h.keep.L2 k v hk hv;have hk':=hid k hk;refine⟨⟨hlt k k hk',k,hk',l1⟩,λi j=> ?_⟩
  simp only[Env.ren,hk',Option.getD_some];exact l2 i j

theorem b2E{s s':V5}{a:Act}(hlt:∀k m,ρ k=some m->k<H'.length)(hinj:∀k k' m,(Z0 H' k).isSome=true->(Z0 H' k').isSome=true->ρ k=some m->ρ k'=some m->k=k')
  (hs:∀p ∈ s',L4 ρ (j7 s p.1) p.2) (hH:∀k ob',Z0 H' k=some ob'->∃m ob,ρ k=some m/\Z0 H m=some ob/\OLe ρ ob ob') (hid:∀k,k<c.m->ρ k=some k) (h:hZ c s H a w):hZ c s' H' a w:=by
 obtain⟨E,hE⟩:=h;refine⟨E.ren ρ H'.length,hE.defers,hE.size,⟨λi _=> ?_,λi hi=>absurd (λq hq=>by cases hq) hi⟩,a6l hlt hinj hH hid hE.inv⟩
 ·have hsl:j7 s' i= .und∨(i,j7 s' i) ∈ s':=by
   rename_i hpp;clear hs hpp;induction s' with
   |nil=>exact .inl rfl
   |cons x s' ih=>
    obtain⟨j,t⟩:=x;simp only[j7];split
    ·rename_i hb;obtain rfl:=G3 hb;exact .inr (by simp)
    ·rcases ih with h|h
     ·exact .inl h
     ·exact .inr (by simp[h])
  rcases hsl with h|h
  ·rw[h];exact .und _
  ·obtain⟨d,t'',hr,hle⟩:=hs _ h;exact Rd.ren hlt d hr (hle _ _ _ (hE.slots.on i (λq hq=>by cases hq)))
def q9:List (Option Nat)->Nat->Option Nat
 | [],_=>none
 |m::_,0=>m
 |_::r,k+1=>q9 r k

def memO(m:Nat):List (Option Nat)->Bool
 | []=>false
 |none::r=>memO m r
 |some k::r=>Nat.beq m k||memO m r

def a0o:List (Option Nat)->Bool
 | []=>true
 |none::r=>a0o r
 |some m::r=> !memO m r&&a0o r

def a3d:List (Option Nat)->Y1->List (Option Nat)
 |x::r,some _::H=>x::a3d r H
 |_::r,none::H=>none::a3d r H
 |_,_=>[]

theorem b8b:∀{l:List (Option Nat)} {k m:Nat},q9 l k=some m->k<l.length:=by
 intro l;induction l with
 |nil=>intro k m h;simp[q9] at h
 |cons x l ih=>
  intro k m h;cases k with
  |zero=>simp
  |succ k=>simp only[q9] at h;have:=ih h;simp;omega

theorem a6A:∀{l:List (Option Nat)} {k m:Nat},q9 l k=some m->memO m l=true:=by
 intro l;induction l with
 |nil=>intro k m h;simp[q9] at h
 |cons x l ih=>
  intro k m h;cases k with
  |zero=>simp only[q9] at h;subst h;simp[memO]
  |succ k=>simp only[q9] at h;have:=ih h;cases x<;>simp[memO,this]

theorem b5H:∀{l:List (Option Nat)},a0o l=true->∀k k' m,q9 l k=some m->q9 l k'=some m->k=k':=by
 intro l;induction l with
 |nil=>intro _ k k' m h;simp[q9] at h
 |cons x l ih=>
  intro hb k k' m h h';have hl:a0o l=true:=by
   cases x with
   |none=>exact hb
   |some m=>simp only[a0o,L3] at hb;exact hb.2
  cases k with
  |zero=>
   cases k' with
   |zero=>rfl
   |succ k'=>
    simp only[q9] at h h';subst h;simp only[a0o,L3] at hb;rw[a6A h'] at hb;simp at hb
  |succ k=>
   cases k' with
   |zero=>
    simp only[q9] at h h';subst h';simp only[a0o,L3] at hb;rw[a6A h] at hb;simp at hb
   |succ k'=>
    simp only[q9] at h h';rw[ih hl k k' m h h']

theorem eP:∀{l:List (Option Nat)} {H:Y1} {k m:Nat},(Z0 H k).isSome=true->q9 l k=some m->q9 (a3d l H) k=some m:=by
 intro l;induction l with
 |nil=>intro H k m _ h;simp[q9] at h
 |cons x l ih=>
  intro H k m ho h;cases H with
  |nil=>simp[Z0] at ho
  |cons o H=>
   cases k with
   |zero=>
    cases o with
    |none=>simp[Z0] at ho
    |some o=>exact h
   |succ k=>
    have ho':(Z0 H k).isSome=true:=by simpa[Z0] using ho
    have h':q9 l k=some m:=h;cases o<;>exact ih ho' h'

theorem b3W{l:List (Option Nat)}{H:Y1}(h:a0o (a3d l H)=true)(k k' m:Nat)(ho:(Z0 H k).isSome=true)(ho':(Z0 H k').isSome=true)(e:q9 l k=some m)(e':q9 l k'=some m):k=k':=
 b5H h k k' m (eP ho e) (eP ho' e')

theorem Sub.refl(m:Nat)(σ:Sy):Sub m σ σ:=λ_ _ _ _ h=>h

theorem a7H:∀{d:Nat} {t t':T},S4 ρ d t=some t'->S4 ρ (d+1) t=some t':=by
 have list:∀{f g:T->Option T},(∀a b,f a=some b->g a=some b)->∀{l q:List T},O5 f l=some q->O5 g l=some q:=by
  intro f g h l;induction l with
  |nil=>intro q hq;exact hq
  |cons x l ih=>
   intro q hq;simp only[O5] at hq ⊢;split at hq
   ·rename_i hb hr;rw[h _ _ hb,ih hr];exact hq
   ·cases hq
 intro d;induction d with
 |zero=>intro t t' h;simp[S4] at h
 |succ d ih=>
  intro t t' h;unfold S4 at h ⊢;split at h
  ·exact h
  ·exact h
  ·exact h
  ·exact h
  ·exact h
  ·simp only[I3] at h ⊢;obtain⟨a,ha,rfl⟩:=h;exact⟨a,list (λa b hb=>ih hb) ha,rfl⟩
  ·simp only[I3] at h ⊢;obtain⟨a,ha,rfl⟩:=h;exact⟨a,list (λa b hb=>ih hb) ha,rfl⟩
  ·simp only[I3] at h ⊢;obtain⟨a,ha,rfl⟩:=h;exact⟨a,list (λa b hb=>ih hb) ha,rfl⟩
  ·exact h

theorem a7j{d e:Nat}(hde:d<=e){t t':T}(h:S4 ρ d t=some t'):S4 ρ e t=some t':=by
 induction hde with
 |refl=>exact h
 |step _ ih=>exact a7H ih

theorem L4.int{k:IntKind}{a b:Int}(h:a=b):L4 ρ (.int k a) (.int k b):=⟨1,_,rfl,by rw[h];exact RLe.refl _⟩
theorem L4.bool{a b:Bool}(h:a=b):L4 ρ (.bool a) (.bool b):=⟨1,_,rfl,by rw[h];exact RLe.refl _⟩
theorem L4.str{a b:List UInt8}(h:a=b):L4 ρ (.str a) (.str b):=⟨1,_,rfl,by rw[h];exact RLe.refl _⟩
theorem L4.bys{a b:List UInt8}(h:a=b):L4 ρ (.bys a) (.bys b):=⟨1,_,rfl,by rw[h];exact RLe.refl _⟩
theorem L4.v{x y:Value}(h:x=y):L4 ρ (.v x) (.v y):=⟨1,_,rfl,by rw[h];exact RLe.refl _⟩
theorem L4.slNil{sz n:Nat}{row:Nat->List T}(h:n=0):L4 ρ (.v (.slice none 0 0)) (.sl sz n row):=⟨1,_,rfl,by subst h;intro E w v hx;cases hx;exact .slNil _ _⟩
theorem L4.bysNil{l:List UInt8}(h:l=[]):L4 ρ (.v (.slice none 0 0)) (.bys l):=⟨1,_,rfl,by subst h;intro E w v hx;cases hx;exact .bysNil⟩
theorem L4.slE{sz n:Nat}{row:Nat->List T}(h:n=0):L4 ρ .emp (.sl sz n row):=⟨1,_,rfl,by subst h;intro E w v hx;cases hx with|emp a=>cases a with|none=>exact .slNil _ _|some a=>exact .slEmp _ _ _⟩
theorem L4.bysE{l:List UInt8}(h:l=[]):L4 ρ .emp (.bys l):=⟨1,_,rfl,by subst h;intro E w v hx;cases hx with|emp a=>cases a with|none=>exact .bysNil|some a=>exact .bysEmp _⟩
theorem L4.sl{sz n m:Nat}{row row':Nat->List T}(hn:n=m)(h:∀i,i<n->row i=row' i):L4 ρ (.sl sz n row) (.sl sz m row'):=by
 subst hn;refine⟨1,_,rfl,λE w v hx=> ?_⟩
 cases hx with
 |slNil=>exact .slNil _ _
 |slEmp=>exact .slEmp _ _ _
 |sl _ _ _ b off cap u h1 h2 h3 h4 h5 h6=>
  exact .sl _ _ _ b off cap u h1 h2 (λi hi=>by rw[←h i hi];exact h3 i hi) (λi t hi ht=>h4 i t hi (by rw[h i hi];exact ht)) (λi j t hi ht=>h5 i j t hi (by rw[h i hi];exact ht)) (λi j t hi ht=>h6 i j t hi (by rw[h i hi];exact ht))
theorem L4.osl{k m off off' n n':Nat}(h:ρ k=some m)(ho:off=off')(hn:n=n'):L4 ρ (.osl m off n) (.osl k off' n'):=by
 subst ho;subst hn;exact⟨1,.osl m off n,by simp[S4,h],RLe.refl _⟩
theorem L4.ref{k m i i' j j':Nat}(h:ρ k=some m)(hi:i=i')(hj:j=j'):L4 ρ (.ref m i j) (.ref k i' j'):=by
 subst hi;subst hj;exact⟨1,.ref m i j,by simp[S4,h],RLe.refl _⟩
theorem L4.posl{k m v v' i i' j j' n n':Nat}(h:ρ k=some m)(hv:v=v')(hi:i=i')(hj:j=j')(hn:n=n'):L4 ρ (.posl m v i j n) (.posl k v' i' j' n'):=by
 subst hv;subst hi;subst hj;subst hn;exact⟨1,.posl m v i j n,by simp[S4,h],RLe.refl _⟩
theorem L4.mpr{k m:Nat}(h:ρ k=some m):L4 ρ (.mpr m) (.mpr k):=⟨1,.mpr m,by simp[S4,h],RLe.refl _⟩
theorem L4.und(t:T):L4 ρ t .und:=⟨1,_,rfl,λ_ _ v _=>.und v⟩

def a94(ρ:Nat->Option Nat):List T->List T->Prop
 | [],[]=>True
 |a::r,b::q=>L4 ρ a b/\a94 ρ r q
 |_,_=>False

theorem aA:∀{as bs:List T},a94 ρ as bs->∃d cs,O5 (S4 ρ d) bs=some cs/\as.length=cs.length/\∀(i:Nat) (a c:T),as[i]? =some a->cs[i]? =some c->RLe a c:=by
 have mono:∀{d e:Nat},d<=e->∀{l q:List T},O5 (S4 ρ d) l=some q->O5 (S4 ρ e) l=some q:=by
  intro d e hde l;induction l with
  |nil=>intro q hq;exact hq
  |cons x l ih=>
   intro q hq;simp only[O5] at hq ⊢;split at hq
   ·rename_i hb hr;rw[a7j hde hb,ih hr];exact hq
   ·cases hq
 intro as;induction as with
 |nil=>
  intro bs h;cases bs with
  |nil=>exact⟨0,[],rfl,rfl,λi a c ha=>by simp at ha⟩
  |cons=>exact h.elim
 |cons a as ih=>
  intro bs h;cases bs with
  |nil=>exact h.elim
  |cons b bs=>
   obtain⟨⟨d,c,hc,hle⟩,h2⟩:=h;obtain⟨e,cs,hcs,hlen,hall⟩:=ih h2;refine⟨max d e,c::cs,?_,by simp[hlen],λi x z hx hz=> ?_⟩
   ·simp only[O5,a7j (Nat.le_max_left d e) hc,mono (Nat.le_max_right d e) hcs]
   ·cases i with
    |zero=>simp at hx hz;subst hx;subst hz;exact hle
    |succ i=>exact hall i x z (by simpa using hx) (by simpa using hz)

theorem L4.agg{as bs:List T}(h:a94 ρ as bs):L4 ρ (.agg as) (.agg bs):=by
 obtain⟨d,cs,hcs,hlen,hall⟩:=aA h;refine⟨d+1,.agg cs,by simp[S4,hcs],λE w v hx=> ?_⟩
 cases hx with
 |agg _ vs hl ht=>
  refine .agg _ vs (by omega) λi c x hc hx=> ?_
  have hlt:i<as.length:=by rw[hlen];exact(z5.1 hc).1
  exact hall i _ c (K7 hlt) hc _ _ _ (ht i _ x (K7 hlt) hx)
theorem L4.tup{as bs:List T}(h:a94 ρ as bs):L4 ρ (.tup as) (.tup bs):=by
 obtain⟨d,cs,hcs,hlen,hall⟩:=aA h;refine⟨d+1,.tup cs,by simp[S4,hcs],λE w v hx=> ?_⟩
 cases hx with
 |tup _ vs hl ht=>
  refine .tup _ vs (by omega) λi c x hc hx=> ?_
  have hlt:i<as.length:=by rw[hlen];exact(z5.1 hc).1
  exact hall i _ c (K7 hlt) hc _ _ _ (ht i _ x (K7 hlt) hx)
theorem L4.fn{f:Fn}{as bs:List T}(h:a94 ρ as bs):L4 ρ (.fn f as) (.fn f bs):=by
 obtain⟨d,cs,hcs,hlen,hall⟩:=aA h;refine⟨d+1,.fn f cs,by simp[S4,hcs],λE w v hx=> ?_⟩
 cases hx with
 |fn _ _ vs hl ht=>
  refine .fn _ _ vs (by omega) λi c x hc hx=> ?_
  have hlt:i<as.length:=by rw[hlen];exact(z5.1 hc).1
  exact hall i _ c (K7 hlt) hc _ _ _ (ht i _ x (K7 hlt) hx)

theorem b29:∀{d:Nat} {t t':T},S4 (λ_=>none) d t=some t'->t'=t:=by
 intro d;induction d with
 |zero=>intro t t' h;simp[S4] at h
 |succ d ih=>
  have list:∀{l q:List T},O5 (S4 (λ_=>none) d) l=some q->q=l:=by
   intro l;induction l with
   |nil=>intro q hq;simpa[O5] using hq.symm
   |cons x l ihl=>
    intro q hq;simp only[O5] at hq;split at hq
    ·rename_i hb hr;simp only[W8] at hq;rw[←hq,ih hb,ihl hr]
    ·cases hq
  intro t t' h;unfold S4 at h;split at h
  ·simp at h
  ·simp at h
  ·simp at h
  ·simp at h
  ·simp at h
  ·simp only[I3] at h;obtain⟨cs,hcs,rfl⟩:=h;rw[list hcs]
  ·simp only[I3] at h;obtain⟨cs,hcs,rfl⟩:=h;rw[list hcs]
  ·simp only[I3] at h;obtain⟨cs,hcs,rfl⟩:=h;rw[list hcs]
  ·simp only[W8] at h;exact h.symm

theorem L4.rle{t t':T}(h:L4 (λ_=>none) t t'):RLe t t':=by
 obtain⟨d,t'',h1,h2⟩:=h;rw[b29 h1] at h2;exact h2


def rE(ρ:Nat->Option Nat):Nat->T->T->Prop
 |0,t,t'=>L4 ρ t t'
 |d+1,t,t'=>
  match t,t' with
  |_,.und=>True
  | .int k a,.int k' b=>match decide (k=k') with|true=>a=b|false=>False
  | .bool a,.bool b=>a=b
  | .str a,.str b=>a=b
  | .bys a,.bys b=>a=b
  | .v x,.v y=>x=y
  | .v (.slice none 0 0),.sl _ n _=>n=0
  | .v (.slice none 0 0),.bys l=>l=[]
  | .emp,.sl _ n _=>n=0
  | .emp,.bys l=>l=[]
  | .emp,.emp=>True
  | .sl sz n row,.sl sz' m row'=>match Nat.beq sz sz' with|true=>n=m/\Z6 n row row'|false=>False
  | .osl m off n,.osl k off' n'=>match ρ k with
   |some m'=>match Nat.beq m m' with|true=>off=off'/\n=n'|false=>False
   |none=>False
  | .ref m i j,.ref k i' j'=>match ρ k with
   |some m'=>match Nat.beq m m' with|true=>i=i'/\j=j'|false=>False
   |none=>False
  | .mpr m,.mpr k=>match ρ k with
   |some m'=>match Nat.beq m m' with|true=>True|false=>False
   |none=>False
  | .posl m v i j n,.posl k v' i' j' n'=>match ρ k with
   |some m'=>match Nat.beq m m' with|true=>v=v'/\i=i'/\j=j'/\n=n'|false=>False
   |none=>False
  | .agg as,.agg bs=>tlesV (rE ρ d) as bs
  | .tup as,.tup bs=>tlesV (rE ρ d) as bs
  | .fn f as,.fn g bs=>f=g/\tlesV (rE ρ d) as bs
  |t,t'=>L4 ρ t t'
where
 tlesV (f:T->T->Prop):List T->List T->Prop
 | [],[]=>True
 |a::r,b::q=>f a b/\tlesV f r q
 |_,_=>False

theorem rG:∀{d:Nat} {t t':T},rE ρ d t t'->L4 ρ t t':=by
 intro d;induction d with
 |zero=>intro t t' h;exact h
 |succ d ih=>
  have list:∀{as bs:List T},rE.tlesV (rE ρ d) as bs->a94 ρ as bs:=by
   intro as;induction as with
   |nil=>intro bs h;cases bs<;>exact h
   |cons a as iha=>
    intro bs h;cases bs with
    |nil=>exact h
    |cons b bs=>exact⟨ih h.1,iha h.2⟩
  intro t t' h;unfold rE at h;split at h
  ·exact L4.und _
  ·split at h
   ·rename_i hk;rw[C7 hk];exact L4.int h
   ·exact h.elim
  ·exact L4.bool h
  ·exact L4.str h
  ·exact L4.bys h
  ·exact L4.v h
  ·exact L4.slNil h
  ·exact L4.bysNil h
  ·exact L4.slE h
  ·exact L4.bysE h
  ·exact⟨1,_,rfl,RLe.refl _⟩
  ·split at h
   ·rename_i hb;rw[G3 hb];exact L4.sl h.1 h.2
   ·exact h.elim
  ·split at h
   ·rename_i hr;split at h
    ·rename_i hb;rw[G3 hb];exact L4.osl hr h.1 h.2
    ·exact h.elim
   ·exact h.elim
  ·split at h
   ·rename_i hr;split at h
    ·rename_i hb;rw[G3 hb];exact L4.ref hr h.1 h.2
    ·exact h.elim
   ·exact h.elim
  ·split at h
   ·rename_i hr;split at h
    ·rename_i hb;rw[G3 hb];exact L4.mpr hr
    ·exact h.elim
   ·exact h.elim
  ·split at h
   ·rename_i hr;split at h
    ·rename_i hb;rw[G3 hb];exact L4.posl hr h.1 h.2.1 h.2.2.1 h.2.2.2
    ·exact h.elim
   ·exact h.elim
  ·exact L4.agg (list h)
  ·exact L4.tup (list h)
  ·obtain⟨rfl,h⟩:=h;exact L4.fn (list h)
  ·exact h

end
end Go.SS
