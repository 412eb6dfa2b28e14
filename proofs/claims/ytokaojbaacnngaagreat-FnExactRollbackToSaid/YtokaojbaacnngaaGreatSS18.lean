/- A calculus of symbolic states: loops with what holds at their heads. -/
import Derived.Test.YtokaojbaacnngaaGreatSS17
namespace Go.SS
open Go.RowKit

inductive Lk where
 |no
 |box (m:Nat)
 |arr (m:Nat)
 |ren (m:Nat)
 |nilC (k j:Nat) (ty:TypeId) (sz:Nat)
 |nilS (i:Nat) (p:List Nat) (ty:TypeId) (sz:Nat)
 |fam (k:Nat)
 |at_ (j:Nat)
 |frz (i:Nat)
 |cel (k j:Nat)
 |vl (i:Nat) (p:List Nat)
 |fav (i:Nat) (p:List Nat)
 |fac (k j:Nat)

def b1z(s:V9):List Lk->List Lk
 | []=>[]
 | .at_ j::r=>(match q8 s j with| .osl k _ _=>.arr k| .ref k _ _=>.arr k|_=>.no)::b1z s r
 |x::r=>x::b1z s r

def b8f:Option T->Bool
 |some (.v (.slice none 0 0))=>true
 |some .emp=>true
 |_=>false

def xE(k:Nat):List Nat->T->Option T
 | [],.v (.slice none 0 0)=>some (.osl k 0 0)
 | [],.emp=>some (.osl k 0 0)
 |j::p,.agg cs=>match cs[j]? with
  |some t=>(xE k p t).map λt'=>.agg (cs.set j t')
  |none=>none
 |j::p,.tup cs=>match cs[j]? with
  |some t=>(xE k p t).map λt'=>.tup (cs.set j t')
  |none=>none
 |_,_=>none

def a9p(σ:Sy):Lk->Option Sy
 | .nilC k j ty sz=>match Z1 σ.H k with
  |some (.arr _ bty bsz n row)=>match n,b8f ((row 0)[j]?),Nat.beq sz 0 with
   |1,true,false=>some ⟨σ.s,(σ.H++[some (Ob.arr true ty sz 0 λ_=>[])]).set k (some (.arr false bty bsz 1 λ_=>(row 0).set j (.osl σ.H.length 0 0)))⟩
   |_,_,_=>none
  |_=>none
 | .nilS i p ty sz=>match xE σ.H.length p (q8 σ.s i),Nat.beq sz 0 with
  |some t,false=>some ⟨(i,t)::σ.s,σ.H++[some (.arr true ty sz 0 λ_=>[])]⟩
  |_,_=>none
 | .fam k=>match Z1 σ.H k with
  |some (.arr true ty sz n row)=>some ⟨σ.s,σ.H.set k (some (.fam 0 ty sz n row))⟩
  |_=>none
 | .frz i=>match O9 0 (M1 (nN σ.H 64 (lX [q8 σ.s i]) []) σ.H 0) 6 (q8 σ.s i) with
  |some (t,none)=>some ⟨(i,t)::σ.s,J3 σ.H (nN σ.H 64 (lX [q8 σ.s i]) [])⟩
  |_=>none
 |_=>some σ

def a4K:List Nat->T->Option Nat
 | [],.osl k _ _=>some k
 |j::p,.agg cs=>match cs[j]? with
  |some t=>a4K p t
  |none=>none
 |j::p,.tup cs=>match cs[j]? with
  |some t=>a4K p t
  |none=>none
 |_,_=>none

def b6p(H:Y3)(k j:Nat):Option Nat:=
 match Z1 H k with
 |some (.arr _ _ _ _ row)=>match(row 0)[j]? with
  |some (.osl m _ _)=>some m
  |_=>none
 |_=>none

def b9d(σ:Sy):Lk->Lk
 | .fav i p=>match a4K p (q8 σ.s i) with
  |some k=>.fam k
  |none=>.no
 | .fac k j=>match b6p σ.H k j with
  |some k=>.fam k
  |none=>.no
 |x=>x

def b9G(σ:Sy)(x:Lk):Option Sy:=a9p σ (b9d σ x)

def a7u(σ:Sy):List Lk->Option Sy
 | []=>some σ
 |x::r=>match b9G σ x with
  |some σ'=>a7u σ' r
  |none=>none

def Lk.isG:Lk->Bool
 | .nilC .. | .nilS .. | .fam _| .frz _| .fav .. | .fac .. =>true
 |_=>false

def dW:List Lk->List Lk
 | []=>[]
 |x::r=>match x.isG with
  |true=>dW r
  |false=>x::dW r

def a9n:Option Nat->Lk
 |some m=>.arr m
 |none=>.no

def kP(s:V9)(H:Y3):List Lk->List Lk
 | []=>[]
 | .cel k j::r=>a9n (b6p H k j)::kP s H r
 | .vl i p::r=>a9n (a4K p (q8 s i))::kP s H r
 |x::r=>x::kP s H r

def Lk.old:Lk->Option Nat
 | .no| .nilC .. | .nilS .. | .fam _| .at_ _| .frz _| .cel .. | .vl .. | .fav .. | .fac .. =>none
 | .box m| .arr m| .ren m=>some m

def t5:List Lk->List (Option Nat)
 | []=>[]
 |x::r=>x.old::t5 r

def zE(ρ:Nat->Option Nat)(n:Nat)(row row':Nat->List T):Prop:=∀i,i<n->P7 (T5 ρ 6) (row' i)=some (row i)

def obV(ρ:Nat->Option Nat)(H:Y3)(lk:Lk)(o:Option Ob):Prop:=
 match o with
 |none=>True
 |some ob'=>match lk with
  | .no| .nilC .. | .nilS .. | .fam _| .at_ _| .frz _| .cel .. | .vl .. | .fav .. | .fac .. =>False
  | .box m=>match Z1 H m,ob' with
   |some (.arr _ _ sz n row),.arr cl' _ sz' n' row'=>match Nat.beq sz sz'&&(row' 0).all M0&&(!cl'||(row' 0).all W9) with
    |true=>n=1/\n'=1/\rY.tlesV (rY ρ 6) (row 0) (row' 0)
    |false=>False
   |_,_=>False
  | .arr m=>match Z1 H m,ob' with
   |some (.bys _ l),.bys _ l'=>l=l'
   |some (.arr true _ sz n row),.arr true _ sz' n' row'=>match Nat.beq sz sz' with
    |true=>n=n'/\Z6 n row row'
    |false=>False
   |some (.fam v _ sz n row),.fam v' _ sz' n' row'=>match Nat.beq sz sz' with
    |true=>v=v'/\n=n'/\U9 n row row'
    |false=>False
   |some (.mp bo get),.mp bo' get'=>match bo==bo' with
    |true=>∀n,get n=get' n
    |false=>False
   |some (.mp2 get),.mp2 get'=>∀a b,get a b=get' a b
   |_,_=>False
  | .ren m=>match Z1 H m,ob' with
   |some (.arr _ _ sz n row),.arr false _ sz' n' row'=>match Nat.beq sz sz' with
    |true=>n=n'/\zE ρ n row row'
    |false=>False
   |_,_=>False

def a2Q(ρ:Nat->Option Nat)(s:V9):V9->Prop
 | []=>True
 |(j,t)::r=>rY ρ 6 (q8 s j) t/\a2Q ρ s r

def a5l(ρ:Nat->Option Nat)(H:Y3):List Lk->Y3->Prop
 | [],[]=>True
 |lk::l,o::r=>obV ρ H lk o/\a5l ρ H l r
 |_,_=>False

def idB:Nat->Nat->List (Option Nat)->Bool
 |0,_,_=>true
 |m+1,i,some k::r=>Nat.beq i k&&idB m (i+1) r
 |_+1,_,_=>false

def kC(m:Nat)(l:List Lk)(σ σ':Sy):Prop:=
 match a7u σ l with
 |some σ=>match dX (cC (t5 (kP σ.s σ.H (dW l))) σ'.H)&&idB m 0 (t5 (kP σ.s σ.H (dW l))) with
  |true=>a2Q (v9 (t5 (kP σ.s σ.H (dW l)))) σ.s σ'.s/\a5l (v9 (t5 (kP σ.s σ.H (dW l)))) σ.H (kP σ.s σ.H (dW l)) σ'.H
  |false=>False
 |none=>False

def bY(m:Nat)(l:Option (List Lk))(σ σ':Sy):Prop:=
 match l with
 |some l=>kC m l σ σ'
 |none=>False

def frz(H:Y3)(s:V9):List Nat->Option (V9×Option Prop)
 | []=>some ([],none)
 |i::r=>match O9 0 H 6 (q8 s i),frz H s r with
  |some (t,p),some (q,p')=>some ((i,t)::q,rT p p')
  |_,_=>none

inductive Ann:Type 1
 |none
 |unr (n:Nat) (sub:Nat->Nat->Ann)
 |one (ι:Type) (I:ι->Sy) (μ:ι->Nat) (lin lback:List Lk) (sub:ι->Nat->Ann)
 |onef (ks:List Nat) (ι:Type) (I:ι->Sy) (μ:ι->Nat) (lback:List Lk) (sub:ι->Nat->Ann)
 |two (ι₁ ι₂:Type) (I₁:ι₁->Sy) (I₂:ι₂->Sy) (μ₁:ι₁->Nat) (μ₂:ι₂->Nat) (l1 l2 l11 l12 l21 l22:Option (List Lk)) (sub₁:ι₁->Nat->Ann) (sub₂:ι₂->Nat->Ann)

def wC:Code->Nat
 | .seq a b=>wC a+wC b
 | .cond _ a b=>wC a+wC b
 | .block _ b=>wC b
 | .loop b=>wC b+1
 |_=>0

def a4a(step:Nat->(Sy->Prop)->Sy->Prop):Nat->Sy->Prop
 |0,_=>False
 |n+1,σ=>step n (a4a step n) σ

def kE(P:Program)(G:I4)(nt m0:Nat):Code->Nat->(Exit->Sy->(Nat->Ann)->Prop)->Sy->(Nat->Ann)->Prop
 | .skip,_,Q,σ,A=>Q .normal σ A
 | .region _ ops draw,_,Q,σ,A=>match draw with
  |false=>xR P G nt ops ops.toList σ.s [] σ.H λs H=>Q .normal ⟨s,H⟩ A
  |true=>xX P G nt ops σ.H.length (gG σ.H (zN ops.toList)) ops.toList 0 [] [] σ.s [] [] λs H=>Q .normal ⟨s,H⟩ A
 | .seq a b,k,Q,σ,A=>kE P G nt m0 a k (λe σ' A'=>match e with| .normal=>kE P G nt m0 b (k+wC a) Q σ' A'|e=>Q e σ' A') σ A
 | .cond c x y,k,Q,σ,A=>match N7 σ.s c with
  | .bool b=>(b=true->kE P G nt m0 x k Q σ A)/\(b=false->kE P G nt m0 y (k+wC x) Q σ A)
  |_=>False
 | .block id body,k,Q,σ,A=>kE P G nt m0 body k (λe σ' A'=>match e with| .exit i=>(match Nat.beq i id with|true=>Q .normal σ' A'|false=>Q (.exit i) σ' A')|e=>Q e σ' A') σ A
 | .loop body,k,Q,σ,A=>match A k with
  | .none=>False
  | .unr n sub=>a4a (λm next σ'=>kE P G nt m0 body (k+1) (λe σ'' A'=>match e with| .normal=>next σ''|e=>Q e σ'' A') σ' (sub m)) n σ
  | .one ι I μ lin lback sub=>(∃x,kC m0 (b1z σ.s lin) σ (I x))/\∀x:ι,kE P G nt m0 body (k+1) (λe σ' A'=>match e with| .normal=>∃y,kC m0 (b1z σ'.s lback) σ' (I y)/\Lt (μ y) (μ x)|e=>Q e σ' A') (I x) (sub x)
  | .onef ks ι I μ lback sub=>(match m0,frz σ.H σ.s ks with
   |0,some (s',p)=>kS p (∃x,kC 0 [] ⟨s',[]⟩ (I x))
   |_,_=>False)/\∀x:ι,kE P G nt m0 body (k+1) (λe σ' A'=>match e with| .normal=>∃y,kC m0 (b1z σ'.s lback) σ' (I y)/\Lt (μ y) (μ x)|e=>Q e σ' A') (I x) (sub x)
  | .two ι₁ ι₂ I₁ I₂ μ₁ μ₂ l1 l2 l11 l12 l21 l22 sub₁ sub₂=>
   ((∃x,bY m0 l1 σ (I₁ x))∨(∃x,bY m0 l2 σ (I₂ x)))/\
   (∀x:ι₁,kE P G nt m0 body (k+1) (λe σ' A'=>match e with| .normal=>(∃y,bY m0 l11 σ' (I₁ y)/\Lt (μ₁ y) (μ₁ x))∨(∃y,bY m0 l12 σ' (I₂ y)/\Lt (μ₂ y) (μ₁ x))|e=>Q e σ' A') (I₁ x) (sub₁ x))/\
   (∀x:ι₂,kE P G nt m0 body (k+1) (λe σ' A'=>match e with| .normal=>(∃y,bY m0 l21 σ' (I₁ y)/\Lt (μ₁ y) (μ₂ x))∨(∃y,bY m0 l22 σ' (I₂ y)/\Lt (μ₂ y) (μ₂ x))|e=>Q e σ' A') (I₂ x) (sub₂ x))
 | .exit id,_,Q,σ,A=>Q (.exit id) σ A
 | .ret,_,Q,σ,A=>Q .ret σ A
 |_,_,_,_,_=>False

section
variable {P:Program} {G:I4} {nt m:Nat}

theorem a88{ρ:Nat->Option Nat}{d:Nat}:∀{as bs:List T},rY.tlesV (rY ρ d) as bs->as.length=bs.length/\∀(j:Nat) (a b:T),as[j]? =some a->bs[j]? =some b->M2 ρ a b:=by
 intro as;induction as with
 |nil=>
  intro bs h;cases bs with
  |nil=>exact⟨rfl,λj a b ha=>by simp at ha⟩
  |cons=>exact h.elim
 |cons a as ih=>
  intro bs h;cases bs with
  |nil=>exact h.elim
  |cons b bs=>
   obtain⟨h1,h2⟩:=ih h.2;refine⟨by simp[h1],λj x z hx hz=> ?_⟩
   cases j with
   |zero=>simp at hx hz;subst hx;subst hz;exact sG h.1
   |succ j=>exact h2 j x z (by simpa using hx) (by simpa using hz)

theorem b8u{ρ:Nat->Option Nat}{H:Y3}{lk:Lk}{ob':Ob}(h:obV ρ H lk (some ob')):∃m ob,lk.old=some m/\Z1 H m=some ob/\OLe ρ ob ob':=by
 unfold obV at h;split at h
 ·rename_i hn;cases hn
 ·rename_i ob hob;simp only[X1] at hob;subst hob;split at h
  iterate 10 exact h.elim
  ·split at h
   ·rename_i m _ _ cl ty sz n row cl' ty' sz' n' row' hm;split at h
    ·rename_i hb;simp only[J6,oQ,wD] at hb;obtain⟨⟨hb1,hb2⟩,hb3⟩:=hb;obtain⟨rfl,rfl,h⟩:=h;obtain rfl:=H9 hb1;obtain⟨e1,e2⟩:=a88 h;exact⟨m,_,rfl,hm,.box cl cl' ty ty' sz row row' (λt ht=>m4.1 hb2 t ht) (λhc t ht=>m4.1 (hb3.resolve_left (by simp[hc])) t ht) e1 e2⟩
    ·exact h.elim
   ·exact h.elim
  ·split at h
   ·rename_i m _ _ ty l ty' l' hm;subst h;exact⟨m,_,rfl,hm,.bys _ _ _⟩
   ·rename_i m _ _ ty sz n row ty' sz' n' row' hm;split at h
    ·rename_i hb;obtain⟨rfl,h⟩:=h;obtain rfl:=H9 hb;exact⟨m,_,rfl,hm,.same _ _ _ _ _ _ h⟩
    ·exact h.elim
   ·rename_i m _ _ v ty sz n row v' ty' sz' n' row' hm;split at h
    ·rename_i hb;obtain⟨rfl,rfl,h⟩:=h;obtain rfl:=H9 hb;exact⟨m,_,rfl,hm,.fam _ _ _ _ _ _ _ h⟩
    ·exact h.elim
   ·rename_i m _ _ bo get bo' get' hm;split at h
    ·rename_i hb;obtain rfl:bo=bo':=by simpa using hb
     exact⟨m,_,rfl,hm,.mp _ _ _ h⟩
    ·exact h.elim
   ·rename_i m _ _ get get' hm;exact⟨m,_,rfl,hm,.mp2 _ _ h⟩
   ·exact h.elim
  ·split at h
   ·rename_i m _ _ cl ty sz n row ty' sz' n' row' hm;split at h
    ·rename_i hb;obtain⟨rfl,h⟩:=h;obtain rfl:=H9 hb;exact⟨m,_,rfl,hm,.ren _ _ _ _ _ _ _ _ (λhc=>by cases hc) h⟩
    ·exact h.elim
   ·exact h.elim

theorem a1a{ρ:Nat->Option Nat}{H:Y3}:∀{l:List Lk} {H':Y3},a5l ρ H l H'->(t5 l).length=H'.length/\∀k ob',Z1 H' k=some ob'->∃m ob,v9 (t5 l) k=some m/\Z1 H m=some ob/\OLe ρ ob ob':=by
 intro l;induction l with
 |nil=>
  intro H' h;cases H' with
  |nil=>exact⟨rfl,λk ob' hk=>by simp[Z1] at hk⟩
  |cons=>exact h.elim
 |cons lk l ih=>
  intro H' h;cases H' with
  |nil=>exact h.elim
  |cons o H'=>
   obtain⟨h1,h2⟩:=ih h.2;refine⟨by simp[t5,h1],λk ob' hk=> ?_⟩
   cases k with
   |zero=>
    have:o=some ob':=by simpa[Z1] using hk
    subst this;exact b8u h.1
   |succ k=>exact h2 k ob' (by simpa[Z1] using hk)

theorem a8H{ρ:Nat->Option Nat}{s:V9}:∀{s':V9},a2Q ρ s s'->∀p ∈ s',M2 ρ (q8 s p.1) p.2:=by
 intro s';induction s' with
 |nil=>intro _ p hp;cases hp
 |cons x s' ih=>
  intro h p hp;obtain⟨j,t⟩:=x;rcases vN.1 hp with rfl|hp
  ·exact sG h.1
  ·exact ih h.2 p hp

theorem b8n:∀{m i:Nat} {l:List (Option Nat)},idB m i l=true->∀k,k<m->v9 l k=some (i+k):=by
 intro m;induction m with
 |zero=>intro i l _ k hk;omega
 |succ m ih=>
  intro i l h k hk;cases l with
  |nil=>simp[idB] at h
  |cons x l=>
   cases x with
   |none=>simp[idB] at h
   |some x=>
    simp only[idB,J6] at h;cases k with
    |zero=>simp only[v9];rw[←H9 h.1];rfl
    |succ k=>
     simp only[v9];rw[ih h.2 k (by omega)]
     congr 1
     omega

theorem iX{c:Ctx}{E:Env}{H:Y3}{w:World}(h:Inv c E H w)(ty:TypeId)(sz:Nat):Inv c (E.push H.length 0 0 sz) (H++[some (.arr true ty sz 0 λ_=>[])]) w/\Step E w (E.push H.length 0 0 sz) w:=
 h.push (ob:=.arr true ty sz 0 λ_=>[]) rfl rfl rfl (V2 _) (λ_ _=>rfl) 0 0 #[] 0 (λh=>absurd rfl h) (λh=>absurd rfl h) (by simp) (V2 0) (λi hi=>absurd hi (F2 _)) (λi t hi=>absurd hi (F2 _)) (λ_ i t hi=>absurd hi (F2 _)) (λi j t hi=>absurd hi (F2 _))

theorem b5N{o:Option T}(h:b8f o=true):∃t,o=some t/\∀{E:Env} {w:World} {u:Value},Rd E w t u->∃a,u= .slice a 0 0:=by
 unfold b8f at h;split at h
 ·exact⟨_,rfl,λhx=>⟨none,xH hx⟩⟩
 ·exact⟨_,rfl,λhx=>by cases hx with|emp a=>exact⟨a,rfl⟩⟩
 ·cases h

theorem a8v{E:Env}{w:World}{k sz:Nat}(hst:Step E w (E.push k 0 0 sz) w):∀(p:List Nat) {t t':T} {x:Value},xE k p t=some t'->Rd E w t x->Rd (E.push k 0 0 sz) w t' x:=by
 intro p;induction p with
 |nil=>
  intro t t' x h hx;have key:(∃a,x= .slice a 0 0)/\t'= .osl k 0 0:=by
   unfold xE at h;split at h
   ·simp only[X1] at h;exact⟨⟨none,xH hx⟩,h.symm⟩
   ·simp only[X1] at h;exact⟨by cases hx with|emp a=>exact⟨a,rfl⟩,h.symm⟩
   ·contradiction
   ·contradiction
   ·cases h
  obtain⟨⟨a,rfl⟩,rfl⟩:=key;exact a2B a
 |cons j p ih=>
  intro t t' x h hx;have list:∀{cs:List T} {vs:Array Value} {t0 t1:T},cs[j]? =some t0->xE k p t0=some t1->cs.length=vs.size->(∀(i:Nat) (t:T) (x:Value),cs[i]? =some t->vs[i]? =some x->Rd E w t x)->
    (cs.set j t1).length=vs.size/\∀(i:Nat) (t:T) (x:Value),(cs.set j t1)[i]? =some t->vs[i]? =some x->Rd (E.push k 0 0 sz) w t x:=by
   intro cs vs t0 t1 h0 h1 hl ht;refine⟨by simp[hl],λi t x hi hx=> ?_⟩
   rw[List.getElem?_set] at hi
   split at hi
   ·rename_i hji;subst hji;split at hi
    ·simp only[X1] at hi;subst hi;exact ih h1 (ht j t0 x h0 hx)
    ·cases hi
   ·exact hst.rd (ht i t x hi hx)
  cases t with
  |agg cs=>
   simp only[xE] at h;split at h
   ·rename_i t0 h0;simp only[J8] at h;obtain⟨t1,h1,rfl⟩:=h;cases hx with
    |agg _ vs hl ht=>obtain⟨a1,a2⟩:=list h0 h1 hl ht;exact .agg _ vs a1 a2
   ·cases h
  |tup cs=>
   simp only[xE] at h;split at h
   ·rename_i t0 h0;simp only[J8] at h;obtain⟨t1,h1,rfl⟩:=h;cases hx with
    |tup _ vs hl ht=>obtain⟨a1,a2⟩:=list h0 h1 hl ht;exact .tup _ vs a1 a2
   ·cases h
  |_=>simp[xE] at h

theorem b9W{c:Ctx}{E:Env}{H:Y3}{w:World}(h:Inv c E H w){ks:List Nat}{t r:T}{x:Value}(hb:O9 0 (M1 ks H 0) 6 t=some (r,none))(hx:Rd E w t x):
  ∃E2,Inv c E2 (J3 H ks) w/\Step E w E2 w/\Rd E2 w r x:=by
 have hK:Inv c E (M1 ks H 0) w:=by
  refine⟨⟨λk ob hk=>h.heap.live k ob (Q3 hk).1,λk k' o o' b hk hk'=>h.heap.inj k k' o o' b (Q3 hk).1 (Q3 hk').1,λk hk=>by rw[vZ];exact h.heap.lt k hk,h.heap.l2,λk ob v hk=>h.heap.cur k ob v (Q3 hk).1⟩,h.nlt,h.nnew,λk ob b hk=>h.bnew k ob b (Q3 hk).1,h.fr,h.keep⟩
 have hr:=A6 hK 6 hb trivial hx;let E2:Env:={E with N:=(E.lent 0 (M1 ks H 0)).N}
 have hstep:Step E w E2 w:=⟨⟨λb hb=>.inl hb,λ_ h=>h,λ_ _=>rfl,λ_ _=>rfl,λ_ _=>rfl,λ_ _ h=>h,λ_ _ _ _ _=>rfl,λ_ _ _ _ _=>rfl⟩,λb _=>rfl,λ_ h=>.inl h⟩
 refine⟨E2,⟨⟨λk ob hk=> ?_,λk k' o o' b hk hk'=>h.heap.inj k k' o o' b (P5 hk).1 (P5 hk').1,λk hk=>by rw[L1];exact h.heap.lt k hk,h.heap.l2,λk ob v hk=>h.heap.cur k ob v (P5 hk).1⟩,λb hb'=> ?_,λb hb'=> ?_,λk ob b hk=>h.bnew k ob b (P5 hk).1,h.fr,h.keep.step hstep⟩,hstep,?_⟩
 ·obtain⟨g1,g2⟩:=P5 hk;obtain⟨e1,e2,e3⟩:=h.heap.live k ob g1;refine⟨e1,e2.mono e1 hstep (λb hb'=>rfl),λb hb' hn=> ?_⟩
  have hb':G6 E k ob b:=hb';rcases hn with hn|⟨k2,ob2,_,hk2,hb2⟩
  ·exact e3 b hb' hn
  ·obtain⟨g3,g4⟩:=Q3 hk2;have:=h.heap.inj k k2 ob ob2 b g1 g3 hb' hb2;rw[C3] at g4;exact g2 (this▸g4)
 ·rcases hb' with hb'|⟨k2,ob2,_,hk2,hb2⟩
  ·exact h.nlt b hb'
  ·exact hK.heap.blt hk2 hb2
 ·rcases hb' with hn|⟨k2,ob2,_,hk2,hb2⟩
  ·exact h.nnew b hn
  ·exact .inr (h.bnew k2 ob2 b (Q3 hk2).1 hb2)
 ·exact Rd.mono (w:=w) (w':=w) (E:=E.lent 0 (M1 ks H 0)) (E':=E2) ⟨λ_ h=>h,λ_ h=>absurd h.2 (F2 _),λ_ h=>absurd h.2 (F2 _),λ_ h=>absurd h.2 (F2 _),λ_ h=>absurd h.2 (F2 _),λ_ _ h=>absurd h.2 (F2 _),λ_ _ _ _ h=>absurd h.2 (F2 _),λ_ _ _ _ h=>absurd h.2 (F2 _)⟩ (λ_ _=>rfl) hr

theorem a93{σ σ':Sy}{x:Lk}(h:a9p σ x=some σ'):Sub m σ σ':=by
 intro c a w _ hr;obtain⟨E,hr⟩:=hr;unfold a9p at h;split at h
 ·rename_i k j ty sz;split at h
  case h_2=>cases h
  rename_i cl bty bsz n row hk;split at h
  case h_2=>cases h
  rename_i hnj hsz;obtain⟨tj,hj,htj⟩:=b5N hnj;simp only[X1] at h;subst h;obtain⟨hI,hst⟩:=iX hr.inv ty sz;have hk1:Z1 (σ.H++[some (Ob.arr true ty sz 0 λ_=>[])]) k=some (.arr cl bty bsz 1 row):=by rw[A1,if_pos (K4 hk)];exact hk
  obtain⟨hL,hO,hN⟩:=hI.heap.live k _ hk1;have hO:T7 _ w k ⟨cl,bty,bsz,1,row⟩:=hO;obtain⟨e1,e2,e3,e4,e5,cs,tyc,e6,e7,e8⟩:=hO;have hW:=hI.writeO (w':=w) hk1 rfl rfl rfl (V2 _) (λ_ _ _=>rfl) (.arr false bty bsz 1 λ_=>(row 0).set j (.osl σ.H.length 0 0)) (λb hb=>.inl (hb.arr rfl)) (λv hv=>absurd hv (hI.noL2 hk1 rfl v)) (λhs=>by
   refine⟨e1,e2,λi hi=> ?_,λi t hi ht=> ?_,λhc=>(by cases hc),cs,tyc,e6,e7,λi q t hi hq=> ?_⟩
   ·exact(l9 ..).trans (e3 0 (Nat.lt_succ_self 0))
   ·rcases List.mem_or_eq_of_mem_set ht with h1|rfl
    ·exact e4 0 t (by simp) h1
    ·rfl
   ·obtain rfl:i=0:=by have:i<1:=hi;omega
    have hq2:((row 0).set j (T.osl σ.H.length 0 0))[q]? =some t:=hq;rw[List.getElem?_set] at hq2
    split at hq2
    ·rename_i hjq;subst hjq;split at hq2
     ·simp only[X1] at hq2;subst hq2;obtain⟨u,hu,hru⟩:=e8 0 j _ (by simp) hj
      refine⟨u,hu,?_⟩
      obtain⟨a,rfl⟩:=htj hru;exact a2B a
     ·cases hq2
    ·exact e8 0 q t (by simp) hq2)
  exact⟨_,hr.defers,hr.size,⟨λi hi=>hst.rd (hr.slots.on i hi),hr.slots.off⟩,hW.1⟩
 ·rename_i i p ty sz;split at h
  case h_2=>cases h
  rename_i t hs hsz;simp only[X1] at h;subst h;obtain⟨hI,hst⟩:=iX hr.inv ty sz;refine⟨_,hr.defers,hr.size,⟨λq hq=> ?_,λq hq=>absurd (λq hq=>by cases hq) hq⟩,hI⟩
  simp only[q8];split
  ·rename_i he;obtain rfl:=H9 he;have:=hr.slots.on q (λq hq=>by cases hq)
   exact a8v hst _ hs this
  ·exact hst.rd (hr.slots.on q (λq hq=>by cases hq))
 ·rename_i k;split at h
  case h_2=>cases h
  rename_i ty sz n row hk;simp only[X1] at h;subst h;have hI:=hr.inv;have hn2:¬E.L2 k 0:=hI.noL2 hk rfl 0;let E':=E.bump k 0 (λ_ _=>0) (λ_ _=>0)
  have hst:Step E w E' w:=⟨Env.bump_le hn2,λ_ _=>rfl,λ_ h=>.inl h⟩
  obtain⟨hL,hO,hN⟩:=hI.heap.live k _ hk;have hO:T7 E w k ⟨true,ty,sz,n,row⟩:=hO;obtain⟨e1,e2,e3,e4,e5,cs,tyc,e6,e7,e8⟩:=hO;simp only at e1 e2 e3 e4 e5 e7 e8;have hco:∀i t,i<n->t ∈ row i->closedOne t=true:=λi t hi ht=>by simp[closedOne,e4 i t hi ht,e5 trivial i t hi ht]
  have nown:∀(i j:Nat) (oty:TypeId) (osz on:Nat) (orow:Nat->List T),i<n->(row i)[j]? =some (.own oty osz on orow)->False:=λi j oty osz on orow hi hj=>by
   have:=hco i _ hi (C6 hj);simp[closedOne,W9] at this
  have hF:FamOk E' w k 0 ty sz n row:=w8 (.inr ⟨rfl,rfl⟩) e1 e2 cs tyc e6 e7 e3 (λr q t hr hq=>by
   obtain⟨u,hu,hru⟩:=e8 r q t hr hq;exact⟨u,hu,.inl ⟨hco r t hr (C6 hq),hst.rd hru⟩⟩) (λi j i' j' oty osz on orow oty' osz' on' orow' hi hi' hj=>(nown i j _ _ _ _ hi hj).elim)
  have hklt:=K4 hk;refine⟨E',hr.defers,hr.size,⟨λi hi=>hst.rd (hr.slots.on i hi),hr.slots.off⟩,hI.to rfl rfl rfl (V2 _) hst k (λi=>i=k) (λ_ h=>h) (λi o hi hne=> ?_) (λo ho=> ?_) (λ_ _ _=>rfl) (λi hi=>by rw[l9];exact hI.heap.lt i hi) (λi u hu=> ?_) (λo i u hi hu=> ?_)⟩
  ·rw[S8 hklt,if_neg hne] at hi;exact⟨hi,hne⟩
  ·rw[S8 hklt,if_pos rfl] at ho;simp only[X1] at ho;subst ho;refine⟨hL,hF,λb hb=>.inr ⟨k,_,rfl,hk,?_⟩⟩
   rcases hb with hb|⟨v0,ty0,sz0,n0,U5,i0,j0,oty1,osz1,on1,orow1,hobe,hi0,hj0,hc0,rfl⟩
   ·exact .inl hb
   ·simp only[Ob.fam.injEq] at hobe;obtain⟨rfl,rfl,rfl,rfl,rfl⟩:=hobe;exact(nown _ _ _ _ _ _ hi0 hj0).elim
  ·rcases hu with hu|⟨rfl,_⟩
   ·exact hI.heap.l2 _ _ hu
   ·exact hL
  ·rw[S8 hklt] at hi;split at hi
   ·rename_i he;subst he;simp only[X1] at hi;subst hi;refine⟨_,_,_,_,_,rfl,?_⟩
    rcases hu with hu|⟨_,rfl⟩
    ·exact absurd hu (hI.noL2 hk rfl u)
    ·exact V2 _
   ·rename_i hne;rcases hu with hu|⟨e,_⟩
    ·exact hI.heap.cur _ _ _ hi hu
    ·exact absurd e hne
 ·rename_i i;split at h
  case h_2=>cases h
  rename_i t hb;simp only[X1] at h;subst h;obtain⟨E2,hI,hst,hrd⟩:=b9W hr.inv hb (hr.slots.on i (λq hq=>by cases hq))
  refine⟨E2,hr.defers,hr.size,⟨λq hq=> ?_,λq hq=>absurd (λq hq=>by cases hq) hq⟩,hI⟩
  simp only[q8];split
  ·rename_i he;obtain rfl:=H9 he;exact hrd
  ·exact hst.rd (hr.slots.on q (λq hq=>by cases hq))
 ·simp only[X1] at h;subst h;exact⟨E,hr⟩

theorem b3S:∀{l:List Lk} {σ σ':Sy},a7u σ l=some σ'->Sub m σ σ':=by
 intro l;induction l with
 |nil=>intro σ σ' h;simp only[a7u,X1] at h;subst h;exact Sub.refl m σ
 |cons x l ih=>
  intro σ σ' h;simp only[a7u] at h;split at h
  ·rename_i σ1 h1;exact λc a w hm hr=>ih h c a w hm (a93 (m:=m) (x:=b9d _ _) h1 c a w hm hr)
  ·cases h

theorem wO{l:List Lk}{σ σ':Sy}(h:kC m l σ σ'):Sub m σ σ':=by
 unfold kC at h;split at h
 ·rename_i σ1 hg;split at h
  ·rename_i hi;simp only[J6] at hi;obtain⟨h1,h2⟩:=a1a h.2;intro c a w hm hr;exact b1d (ρ:=v9 (t5 (kP σ1.s σ1.H (dW l)))) (λk m hk=>by rw[←h1];exact b7Z hk) (b1o hi.1) (a8H h.1) h2 (λk hk=>by rw[b8n hi.2 k (by omega)];simp) (b3S (m:=m) hg c a w hm hr)
  ·exact h.elim
 ·exact h.elim

theorem b2p{c:Ctx}{E:Env}{H:Y3}{w:World}(hc0:c.m=0)(h:Inv c E H w):Inv c (E.lent 0 H) [] w:=by
 have hn:∀k ob,¬Z1 ([]:Y3) k=some ob:=λk ob hk=>by simp[Z1] at hk
 refine⟨⟨λk ob hk=>absurd hk (hn k ob),λk k' o o' b hk _ _ _=>absurd hk (hn k o),λk hk=>absurd hk.2 (F2 k),λk v hv=>absurd hv.2 (F2 k),λk ob v hk=>absurd hk (hn k ob)⟩,λx hx=> ?_,λx hx=> ?_,λk ob b hk=>absurd hk (hn k ob),h.fr,⟨λb hb=>.inl (h.keep.N b hb),λk hk=>by omega,h.keep.same,λk v hk=>by omega⟩⟩
 ·rcases hx with hx|⟨k,ob,_,hob,hx⟩
  ·exact h.nlt x hx
  ·exact h.heap.blt hob hx
 ·rcases hx with hx|⟨k,ob,hkb,hob,hx⟩
  ·exact h.nnew x hx
  ·exact .inr (h.bnew k ob x hob hx)
theorem b4b{H:Y3}{s:V9}:∀{ks:List Nat} {s':V9} {p:Option Prop},frz H s ks=some (s',p)->p.getD True->∀i,q8 s' i= .und∨∃q,O9 0 H 6 (q8 s i)=some (q8 s' i,q)/\q.getD True:=by
 intro ks;induction ks with
 |nil=>
  intro s' p h _ i;simp only[frz,X1,U4] at h;obtain⟨rfl,_⟩:=h;exact .inl rfl
 |cons j r ih=>
  intro s' p h hp i;simp only[frz] at h;split at h
  ·rename_i t q1 q p' h1 h2;simp only[X1,U4] at h;obtain⟨rfl,rfl⟩:=h;obtain⟨hp1,hp2⟩:=f9 hp;simp only[q8];split
   ·rename_i he;obtain rfl:=H9 he;exact .inr ⟨_,h1,hp1⟩
   ·exact ih h2 hp2 i
  ·cases h
theorem b7x{σ:Sy}{ks:List Nat}{s':V9}{p:Option Prop}(h:frz σ.H σ.s ks=some (s',p))(hp:p.getD True):Sub 0 σ ⟨s',[]⟩:=by
 intro c a w hc hr;obtain⟨E,hr⟩:=hr;refine⟨E.lent 0 σ.H,hr.defers,hr.size,⟨λi _=> ?_,λi hx=>absurd (λq hq=>by cases hq) hx⟩,b2p hc hr.inv⟩
 rcases b4b h hp i with hi|⟨q,hi,hq⟩
 ·show Rd _ w (q8 s' i) _;rw[hi];exact .und _
 ·exact A6 hr.inv 6 hi hq (hr.slots.on i (λq hq=>by cases hq))
theorem uO{l:Option (List Lk)}{σ σ':Sy}(h:bY m l σ σ'):Sub m σ σ':=by
 unfold bY at h;split at h
 ·exact wO h
 ·exact h.elim

theorem j6{s:V9}{op:Op}{k k':I4->Prop}(hk:∀G',k G'->k' G')(h:nS G s op k):nS G s op k':=by
 unfold nS at h ⊢;split at h
 ·exact hk _ h
 ·split at h
  ·obtain⟨x,hx⟩:=h;exact⟨x,hk _ hx⟩
  ·obtain⟨x,hx⟩:=h;exact⟨x,hk _ hx⟩
  ·obtain⟨x,hx⟩:=h;exact⟨x,hk _ hx⟩
  ·obtain⟨x,hx⟩:=h;exact⟨x,hk _ hx⟩
  ·exact hk _ h

theorem jY{s:V9}:∀{p:J2} {q q':Prop},(q->q')->G4 s p q->G4 s p q':=by
 intro p;induction p with
 |nil=>intro q q' hq h;exact hq h
 |cons x p ih=>
  intro q q' hq h;obtain⟨t,b⟩:=x;simp only[G4] at h ⊢;split at h
  ·exact ih (λh he=>hq (h he)) h
  ·exact h.elim

theorem a31{all:Array Oper}{K K':V9->Y3->Prop}(hK:∀s H,K s H->K' s H):∀(rest:List Oper) (s:V9) (ps:E7) (H:Y3),xR P G nt all rest s ps H K->xR P G nt all rest s ps H K':=by
 intro rest;induction rest with
 |nil=>intro s ps H h;exact hK _ _ h
 |cons o rest ih=>
  intro s ps H h;have andp:∀{p:J2} {side:Option Prop} {q q':Prop},(q->q')->oD s p side q->oD s p side q':=by
   intro p side q q' hq h;cases side with
   |none=>exact hq h
   |some r=>exact⟨h.1,hq h.2⟩
  unfold xR at h ⊢;split at h
  ·split at h
   ·exact h.elim
   ·split at h
    ·exact λb hb=>ih _ _ _ (h b hb)
    ·refine j6 (λG' h=> ?_) h
     split at h
     ·exact andp (ih _ _ _) h
     ·exact h.elim
  ·split at h
   ·split at h
    ·split at h
     ·exact h.elim
     ·split at h
      ·refine j6 (λG' h=> ?_) h
       split at h
       ·exact andp (ih _ _ _) h
       ·exact h.elim
      ·split at h
       ·exact h.elim
       ·refine j6 (λG' h=> ?_) h
        split at h
        ·exact andp (λh=>⟨jY (ih _ _ _) h.1,λhn=>ih _ _ _ (h.2 hn)⟩) h
        ·exact h.elim
    ·exact h.elim
   ·exact h.elim

theorem a3m{all:Array Oper}{b:Nat}{H0:Y3}{K K':V9->Y3->Prop}(hK:∀s H,K s H->K' s H):∀(rest:List Oper) (i:Nat) (earlier:List (Nat×Oper×RW)) (tab:List Nat) (s:V9) (ps:E7) (hist:List (Nat×Y3)),
  xX P G nt all b H0 rest i earlier tab s ps hist K->xX P G nt all b H0 rest i earlier tab s ps hist K':=by
 intro rest;induction rest with
 |nil=>intro i earlier tab s ps hist h;exact hK _ _ h
 |cons o rest ih=>
  intro i earlier tab s ps hist h;have andp:∀{p:J2} {side:Option Prop} {q q':Prop},(q->q')->oD s p side q->oD s p side q':=by
   intro p side q q' hq h;cases side with
   |none=>exact hq h
   |some r=>exact⟨h.1,hq h.2⟩
  unfold xX at h ⊢;split at h
  ·exact h.elim
  ·split at h
   ·split at h
    ·exact h.elim
    ·split at h
     ·split at h
      ·exact ih _ _ _ _ _ _ h
      ·exact h.elim
     ·split at h
      ·refine j6 (λG' h=> ?_) h
       split at h
       ·exact andp (ih _ _ _ _ _ _) h
       ·exact h.elim
      ·refine j6 (λG' h=> ?_) h
       split at h
       ·exact andp (ih _ _ _ _ _ _) h
       ·exact h.elim
   ·split at h
    ·split at h
     ·split at h
      ·exact h.elim
      ·refine j6 (λG' h=> ?_) h
       split at h
       ·exact andp (ih _ _ _ _ _ _) h
       ·exact h.elim
     ·exact h.elim
    ·exact h.elim

theorem a2G:∀(code:Code) (k:Nat) (Q:Exit->Sy->(Nat->Ann)->Prop) (Q':Exit->Sy->Prop) (σ:Sy) (A:Nat->Ann),(∀e σ A,Q e σ A->Q' e σ)->kE P G nt m code k Q σ A->vc P G nt (Sub m) code Q' σ:=by
 intro code;induction code with
 |skip=>intro k Q Q' σ A hQ h;exact hQ _ _ _ h
 |region id ops draw=>
  intro k Q Q' σ A hQ h;simp only[kE,vc] at h ⊢;split at h
  ·exact a31 (λs H hk=>hQ _ _ _ hk) _ _ _ _ h
  ·exact a3m (λs H hk=>hQ _ _ _ hk) _ _ _ _ _ _ _ h
 |seq x y ihx ihy=>
  intro k Q Q' σ A hQ h;simp only[kE,vc] at h ⊢;refine ihx _ _ _ _ _ (λe σ' A' h'=> ?_) h
  cases e with
  |normal=>exact ihy _ _ _ _ _ hQ h'
  |_=>exact hQ _ _ _ h'
 |cond cd x y ihx ihy=>
  intro k Q Q' σ A hQ h;simp only[kE,vc] at h ⊢;split at h
  ·rename_i b hb0;rw[hb0];exact⟨λhb=>ihx _ _ _ _ _ hQ (h.1 hb),λhb=>ihy _ _ _ _ _ hQ (h.2 hb)⟩
  ·exact h.elim
 |block id body ih=>
  intro k Q Q' σ A hQ h;simp only[kE,vc] at h ⊢;refine ih _ _ _ _ _ (λe σ' A' h'=> ?_) h
  cases e with
  |exit i=>
   simp only at h' ⊢;split at h'
   ·rename_i hb0;rw[hb0];exact hQ _ _ _ h'
   ·rename_i hb0;rw[hb0];exact hQ _ _ _ h'
  |_=>exact hQ _ _ _ h'
 |loop body ih=>
  intro k Q Q' σ A hQ h;simp only[kE,vc] at h ⊢;split at h
  ·exact h.elim
  ·rename_i n sub hA;refine⟨{p:Nat×Sy//a4a (λr next σ'=>kE P G nt m body (k+1) (λe σ'' A'=>match e with| .normal=>next σ''|e=>Q e σ'' A') σ' (sub r)) p.1 p.2},λp=>p.1.2,λp=>p.1.1,⟨⟨(n,σ),h⟩,λc a w _ hr=>hr⟩,λx=> ?_⟩
   obtain⟨⟨j,τ⟩,hx⟩:=x;cases j with
   |zero=>exact hx.elim
   |succ j=>
    refine ih _ _ _ _ _ (λe σ' A' h'=> ?_) hx
    cases e with
    |normal=>exact⟨⟨(j,σ'),h'⟩,λc a w _ hr=>hr,Nat.lt_succ_self j⟩
    |_=>exact hQ _ _ _ h'
  ·rename_i ι I μ lin lback sub hA;obtain⟨⟨x0,h0⟩,hround⟩:=h;refine⟨ι,I,μ,⟨x0,wO h0⟩,λx=>ih _ _ _ _ _ (λe σ' A' h'=> ?_) (hround x)⟩
   cases e with
   |normal=>obtain⟨y,hy,hlt⟩:=h';exact⟨y,wO hy,hlt⟩
   |_=>exact hQ _ _ _ h'
  ·rename_i ks ι I μ lback sub hA;obtain⟨h0,hround⟩:=h;split at h0
   ·rename_i s' p hz;have h0':p.getD True/\∃x,kC 0 [] ⟨s',[]⟩ (I x):=by
     cases p with
     |none=>exact⟨trivial,h0⟩
     |some p=>exact h0
    obtain⟨hp,x0,hx0⟩:=h0';refine⟨ι,I,μ,⟨x0,λc a w hc hr=>wO hx0 c a w hc (b7x hz hp c a w hc hr)⟩,λx=>ih _ _ _ _ _ (λe σ' A' h'=> ?_) (hround x)⟩
    cases e with
    |normal=>obtain⟨y,hy,hlt⟩:=h';exact⟨y,wO hy,hlt⟩
    |_=>exact hQ _ _ _ h'
   ·exact h0.elim
  ·rename_i ι₁ ι₂ I₁ I₂ μ₁ μ₂ l1 l2 l11 l12 l21 l22 sub₁ sub₂ hA;obtain⟨h0,h1,h2⟩:=h;refine⟨ι₁ ⊕ ι₂,λx=>match x with| .inl x=>I₁ x| .inr x=>I₂ x,λx=>match x with| .inl x=>μ₁ x| .inr x=>μ₂ x,?_,λx=> ?_⟩
   ·rcases h0 with⟨x,hx⟩|⟨x,hx⟩
    ·exact⟨.inl x,uO hx⟩
    ·exact⟨.inr x,uO hx⟩
   ·cases x with
    |inl x=>
     refine ih _ _ _ _ _ (λe σ' A' h'=> ?_) (h1 x)
     cases e with
     |normal=>
      rcases h' with⟨y,hy,hlt⟩|⟨y,hy,hlt⟩
      ·exact⟨.inl y,uO hy,hlt⟩
      ·exact⟨.inr y,uO hy,hlt⟩
     |_=>exact hQ _ _ _ h'
    |inr x=>
     refine ih _ _ _ _ _ (λe σ' A' h'=> ?_) (h2 x)
     cases e with
     |normal=>
      rcases h' with⟨y,hy,hlt⟩|⟨y,hy,hlt⟩
      ·exact⟨.inl y,uO hy,hlt⟩
      ·exact⟨.inr y,uO hy,hlt⟩
     |_=>exact hQ _ _ _ h'
 |exit id=>intro k Q Q' σ A hQ h;exact hQ _ _ _ h
 |ret=>intro k Q Q' σ A hQ h;exact hQ _ _ _ h
 |_=>intro k Q Q' σ A hQ h;simp[kE] at h

def b9y(res r:T):Prop:=rY (λ_=>none) 6 r res

def b9o(P:Program)(G:I4)(nt:Nat)(rs:List ResultVar)(code:Code)(args:List T)(res:T)(A:Nat->Ann):Prop:=
 kE P G nt 0 code 0 (λe σ _=>b0y P rs (b9y res) e σ) ⟨tY 0 args,[]⟩ A

theorem b9J(hm:P.follows .mixedOrders=true)(hG:F6 P G)(hGc:∀x ∈ G,R4 P x.1){f:FuncId}{fn:Func}{code:Code}{args:List T}{res:T}(hf:P.funcs[f]? =some fn)(hb:fn.body=some code)(hnt:args.length<=fn.ntmps)
  (A:Nat->Ann) (h:b9o P G fn.ntmps fn.results.toList code args res A):U6 P f args res:=by
 refine b4R hm hG hGc hf hb hnt (a2G _ _ _ _ _ _ (λe σ A' hq=> ?_) h)
 have mono:∀{p:Option Prop} {q q':Prop},(q->q')->kS p q->kS p q':=by
  intro p q q' hq h;cases p with
  |none=>exact hq h
  |some p=>exact⟨h.1,hq h.2⟩
 unfold b0y at hq ⊢;split at hq
 ·split at hq
  ·split at hq
   ·exact mono (mono λh=>M2.rle (sG h)) hq
   ·exact hq.elim
  ·exact hq.elim
 ·split at hq
  ·split at hq
   ·exact mono (mono λh=>M2.rle (sG h)) hq
   ·exact hq.elim
  ·exact hq.elim
 ·exact hq.elim

end
end Go.SS
