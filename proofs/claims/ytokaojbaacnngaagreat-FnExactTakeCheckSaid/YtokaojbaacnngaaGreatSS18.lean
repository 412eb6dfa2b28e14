/- A calculus of symbolic states: loops with what holds at their heads. -/
import Derived.Test.YtokaojbaacnngaaGreatSS17
namespace Go.SS
open Go.RowKit

inductive Lk where
 |no
 |box (m:Nat)
 |arr (m:Nat)
 |ren (m:Nat)
 |nilC (k j:Nat) (ty:TypeId) (sz:Nat)
 |nilS (i:Nat) (p:List Nat) (ty:TypeId) (sz:Nat)
 |fam (k:Nat)
 |at_ (j:Nat)
 |frz (i:Nat)
 |cel (k j:Nat)
 |vl (i:Nat) (p:List Nat)
 |fav (i:Nat) (p:List Nat)
 |fac (k j:Nat)

def b9A(s:W9):List Lk->List Lk
 | []=>[]
 | .at_ j::r=>(match u6 s j with| .osl k _ _=>.arr k| .ref k _ _=>.arr k|_=>.no)::b9A s r
 |x::r=>x::b9A s r

def c42:Option T->Bool
 |some (.v (.slice none 0 0))=>true
 |some .emp=>true
 |_=>false

def xV(k:Nat):List Nat->T->Option T
 | [],.v (.slice none 0 0)=>some (.osl k 0 0)
 | [],.emp=>some (.osl k 0 0)
 |j::p,.agg cs=>match cs[j]? with
  |some t=>(xV k p t).map fun t'=>.agg (cs.set j t')
  |none=>none
 |j::p,.tup cs=>match cs[j]? with
  |some t=>(xV k p t).map fun t'=>.tup (cs.set j t')
  |none=>none
 |_,_=>none

def b4R(σ:Sy):Lk->Option Sy
 | .nilC k j ty sz=>match Z4 σ.H k with
  |some (.arr _ bty bsz n row)=>match n,c42 ((row 0)[j]?),Nat.beq sz 0 with
   |1,true,false=>some ⟨σ.s,(σ.H++[some (Ob.arr true ty sz 0 fun _=>[])]).set k (some (.arr false bty bsz 1 fun _=>(row 0).set j (.osl σ.H.length 0 0)))⟩
   |_,_,_=>none
  |_=>none
 | .nilS i p ty sz=>match xV σ.H.length p (u6 σ.s i),Nat.beq sz 0 with
  |some t,false=>some ⟨(i,t)::σ.s,σ.H++[some (.arr true ty sz 0 fun _=>[])]⟩
  |_,_=>none
 | .fam k=>match Z4 σ.H k with
  |some (.arr true ty sz n row)=>some ⟨σ.s,σ.H.set k (some (.fam 0 ty sz n row))⟩
  |_=>none
 | .frz i=>match Q2 0 (N8 (lF σ.H 64 (kZ [u6 σ.s i]) []) σ.H 0) 6 (u6 σ.s i) with
  |some (t,none)=>some ⟨(i,t)::σ.s,L0 σ.H (lF σ.H 64 (kZ [u6 σ.s i]) [])⟩
  |_=>none
 |_=>some σ

def a8Y:List Nat->T->Option Nat
 | [],.osl k _ _=>some k
 |j::p,.agg cs=>match cs[j]? with
  |some t=>a8Y p t
  |none=>none
 |j::p,.tup cs=>match cs[j]? with
  |some t=>a8Y p t
  |none=>none
 |_,_=>none

def c4I(H:Y6)(k j:Nat):Option Nat:=
 match Z4 H k with
 |some (.arr _ _ _ _ row)=>match(row 0)[j]? with
  |some (.osl m _ _)=>some m
  |_=>none
 |_=>none

def c7t(σ:Sy):Lk->Lk
 | .fav i p=>match a8Y p (u6 σ.s i) with
  |some k=>.fam k
  |none=>.no
 | .fac k j=>match c4I σ.H k j with
  |some k=>.fam k
  |none=>.no
 |x=>x

def c76(σ:Sy)(x:Lk):Option Sy:=b4R σ (c7t σ x)

def b1j(σ:Sy):List Lk->Option Sy
 | []=>some σ
 |x::r=>match c76 σ x with
  |some σ'=>b1j σ' r
  |none=>none

def Lk.isG:Lk->Bool
 | .nilC .. | .nilS .. | .fam _| .frz _| .fav .. | .fac .. =>true
 |_=>false

def eD:List Lk->List Lk
 | []=>[]
 |x::r=>match x.isG with
  |true=>eD r
  |false=>x::eD r

def b7v:Option Nat->Lk
 |some m=>.arr m
 |none=>.no

def iE(s:W9)(H:Y6):List Lk->List Lk
 | []=>[]
 | .cel k j::r=>b7v (c4I H k j)::iE s H r
 | .vl i p::r=>b7v (a8Y p (u6 s i))::iE s H r
 |x::r=>x::iE s H r

def Lk.old:Lk->Option Nat
 | .no| .nilC .. | .nilS .. | .fam _| .at_ _| .frz _| .cel .. | .vl .. | .fav .. | .fac .. =>none
 | .box m| .arr m| .ren m=>some m

def w6:List Lk->List (Option Nat)
 | []=>[]
 |x::r=>x.old::w6 r

def i3(ρ:Nat->Option Nat)(n:Nat)(row row':Nat->List T):Prop:=∀i,i<n->Q9 (U5 ρ 6) (row' i)=some (row i)

def obV(ρ:Nat->Option Nat)(H:Y6)(lk:Lk)(o:Option Ob):Prop:=
 match o with
 |none=>True
 |some ob'=>match lk with
  | .no| .nilC .. | .nilS .. | .fam _| .at_ _| .frz _| .cel .. | .vl .. | .fav .. | .fac .. =>False
  | .box m=>match Z4 H m,ob' with
   |some (.arr _ _ sz n row),.arr cl' _ sz' n' row'=>match Nat.beq sz sz'&&(row' 0).all O2&&(!cl'||(row' 0).all X4) with
    |true=>n=1/\n'=1/\tR.tlesV (tR ρ 6) (row 0) (row' 0)
    |false=>False
   |_,_=>False
  | .arr m=>match Z4 H m,ob' with
   |some (.bys _ l),.bys _ l'=>l=l'
   |some (.arr true _ sz n row),.arr true _ sz' n' row'=>match Nat.beq sz sz' with
    |true=>n=n'/\Z8 n row row'
    |false=>False
   |some (.fam v _ sz n row),.fam v' _ sz' n' row'=>match Nat.beq sz sz' with
    |true=>v=v'/\n=n'/\T5 n row row'
    |false=>False
   |some (.mp bo get),.mp bo' get'=>match bo==bo' with
    |true=>∀n,get n=get' n
    |false=>False
   |some (.mp2 get),.mp2 get'=>∀a b,get a b=get' a b
   |_,_=>False
  | .ren m=>match Z4 H m,ob' with
   |some (.arr _ _ sz n row),.arr false _ sz' n' row'=>match Nat.beq sz sz' with
    |true=>n=n'/\i3 ρ n row row'
    |false=>False
   |_,_=>False

def a7w(ρ:Nat->Option Nat)(s:W9):W9->Prop
 | []=>True
 |(j,t)::r=>tR ρ 6 (u6 s j) t/\a7w ρ s r

def a8Z(ρ:Nat->Option Nat)(H:Y6):List Lk->Y6->Prop
 | [],[]=>True
 |lk::l,o::r=>obV ρ H lk o/\a8Z ρ H l r
 |_,_=>False

def idB:Nat->Nat->List (Option Nat)->Bool
 |0,_,_=>true
 |m+1,i,some k::r=>Nat.beq i k&&idB m (i+1) r
 |_+1,_,_=>false

def jM(m:Nat)(l:List Lk)(σ σ':Sy):Prop:=
 match b1j σ l with
 |some σ=>match bP (a3d (w6 (iE σ.s σ.H (eD l))) σ'.H)&&idB m 0 (w6 (iE σ.s σ.H (eD l))) with
  |true=>a7w (A5 (w6 (iE σ.s σ.H (eD l)))) σ.s σ'.s/\a8Z (A5 (w6 (iE σ.s σ.H (eD l)))) σ.H (iE σ.s σ.H (eD l)) σ'.H
  |false=>False
 |none=>False

def a3s(m:Nat)(l:Option (List Lk))(σ σ':Sy):Prop:=
 match l with
 |some l=>jM m l σ σ'
 |none=>False

def frz(H:Y6)(s:W9):List Nat->Option (W9×Option Prop)
 | []=>some ([],none)
 |i::r=>match Q2 0 H 6 (u6 s i),frz H s r with
  |some (t,p),some (q,p')=>some ((i,t)::q,sS p p')
  |_,_=>none

inductive Ann:Type 1
 |none
 |unr (n:Nat) (sub:Nat->Nat->Ann)
 |one (ι:Type) (I:ι->Sy) (μ:ι->Nat) (lin lback:List Lk) (sub:ι->Nat->Ann)
 |onef (ks:List Nat) (ι:Type) (I:ι->Sy) (μ:ι->Nat) (lback:List Lk) (sub:ι->Nat->Ann)
 |two (ι₁ ι₂:Type) (I₁:ι₁->Sy) (I₂:ι₂->Sy) (μ₁:ι₁->Nat) (μ₂:ι₂->Nat) (l1 l2 l11 l12 l21 l22:Option (List Lk)) (sub₁:ι₁->Nat->Ann) (sub₂:ι₂->Nat->Ann)

def xB:Code->Nat
 | .seq a b=>xB a+xB b
 | .cond _ a b=>xB a+xB b
 | .block _ b=>xB b
 | .loop b=>xB b+1
 |_=>0

def a5Z(step:Nat->(Sy->Prop)->Sy->Prop):Nat->Sy->Prop
 |0,_=>False
 |n+1,σ=>step n (a5Z step n) σ

def jT(P:Program)(G:K3)(nt m0:Nat):Code->Nat->(Exit->Sy->(Nat->Ann)->Prop)->Sy->(Nat->Ann)->Prop
 | .skip,_,Q,σ,A=>Q .normal σ A
 | .region _ ops draw,_,Q,σ,A=>match draw with
  |false=>zI P G nt ops ops.toList σ.s [] σ.H fun s H=>Q .normal ⟨s,H⟩ A
  |true=>zQ P G nt ops σ.H.length (bF σ.H (i8 ops.toList)) ops.toList 0 [] [] σ.s [] [] fun s H=>Q .normal ⟨s,H⟩ A
 | .seq a b,k,Q,σ,A=>jT P G nt m0 a k (fun e σ' A'=>match e with| .normal=>jT P G nt m0 b (k+xB a) Q σ' A'|e=>Q e σ' A') σ A
 | .cond c x y,k,Q,σ,A=>match P0 σ.s c with
  | .bool b=>(b=true->jT P G nt m0 x k Q σ A)/\(b=false->jT P G nt m0 y (k+xB x) Q σ A)
  |_=>False
 | .block id body,k,Q,σ,A=>jT P G nt m0 body k (fun e σ' A'=>match e with| .exit i=>(match Nat.beq i id with|true=>Q .normal σ' A'|false=>Q (.exit i) σ' A')|e=>Q e σ' A') σ A
 | .loop body,k,Q,σ,A=>match A k with
  | .none=>False
  | .unr n sub=>a5Z (fun m next σ'=>jT P G nt m0 body (k+1) (fun e σ'' A'=>match e with| .normal=>next σ''|e=>Q e σ'' A') σ' (sub m)) n σ
  | .one ι I μ lin lback sub=>(∃x,jM m0 (b9A σ.s lin) σ (I x))/\∀x:ι,jT P G nt m0 body (k+1) (fun e σ' A'=>match e with| .normal=>∃y,jM m0 (b9A σ'.s lback) σ' (I y)/\Lt (μ y) (μ x)|e=>Q e σ' A') (I x) (sub x)
  | .onef ks ι I μ lback sub=>(match m0,frz σ.H σ.s ks with
   |0,some (s',p)=>jU p (∃x,jM 0 [] ⟨s',[]⟩ (I x))
   |_,_=>False)/\∀x:ι,jT P G nt m0 body (k+1) (fun e σ' A'=>match e with| .normal=>∃y,jM m0 (b9A σ'.s lback) σ' (I y)/\Lt (μ y) (μ x)|e=>Q e σ' A') (I x) (sub x)
  | .two ι₁ ι₂ I₁ I₂ μ₁ μ₂ l1 l2 l11 l12 l21 l22 sub₁ sub₂=>
   ((∃x,a3s m0 l1 σ (I₁ x))∨(∃x,a3s m0 l2 σ (I₂ x)))/\
   (∀x:ι₁,jT P G nt m0 body (k+1) (fun e σ' A'=>match e with| .normal=>(∃y,a3s m0 l11 σ' (I₁ y)/\Lt (μ₁ y) (μ₁ x))∨(∃y,a3s m0 l12 σ' (I₂ y)/\Lt (μ₂ y) (μ₁ x))|e=>Q e σ' A') (I₁ x) (sub₁ x))/\
   (∀x:ι₂,jT P G nt m0 body (k+1) (fun e σ' A'=>match e with| .normal=>(∃y,a3s m0 l21 σ' (I₁ y)/\Lt (μ₁ y) (μ₂ x))∨(∃y,a3s m0 l22 σ' (I₂ y)/\Lt (μ₂ y) (μ₂ x))|e=>Q e σ' A') (I₂ x) (sub₂ x))
 | .exit id,_,Q,σ,A=>Q (.exit id) σ A
 | .ret,_,Q,σ,A=>Q .ret σ A
 |_,_,_,_,_=>False

section
variable {P:Program} {G:K3} {nt m:Nat}

theorem b48{ρ:Nat->Option Nat}{d:Nat}:∀{as bs:List T},tR.tlesV (tR ρ d) as bs->as.length=bs.length/\∀(j:Nat) (a b:T),as[j]? =some a->bs[j]? =some b->O0 ρ a b:=by
 intro as;induction as with
 |nil=>
  intro bs h;cases bs with
  |nil=>exact⟨rfl,fun j a b ha=>by simp at ha⟩
  |cons=>exact h.elim
 |cons a as ih=>
  intro bs h;cases bs with
  |nil=>exact h.elim
  |cons b bs=>
   obtain⟨h1,h2⟩:=ih h.2;refine⟨by simp[h1],fun j x z hx hz=> ?_⟩
   cases j with
   |zero=>simp at hx hz;subst hx;subst hz;exact sU h.1
   |succ j=>exact h2 j x z (by simpa using hx) (by simpa using hz)

theorem c5I{ρ:Nat->Option Nat}{H:Y6}{lk:Lk}{ob':Ob}(h:obV ρ H lk (some ob')):∃m ob,lk.old=some m/\Z4 H m=some ob/\OLe ρ ob ob':=by
 unfold obV at h;split at h
 ·rename_i hn;cases hn
 ·rename_i ob hob;simp only[X6] at hob;subst hob;split at h
  iterate 10 exact h.elim
  ·split at h
   ·rename_i m _ _ cl ty sz n row cl' ty' sz' n' row' hm;split at h
    ·rename_i hb;simp only[K5,oU,sB] at hb;obtain⟨⟨hb1,hb2⟩,hb3⟩:=hb;obtain⟨rfl,rfl,h⟩:=h;obtain rfl:=K1 hb1;obtain⟨e1,e2⟩:=b48 h;exact⟨m,_,rfl,hm,.box cl cl' ty ty' sz row row' (fun t ht=>t5.1 hb2 t ht) (fun hc t ht=>t5.1 (hb3.resolve_left (by simp[hc])) t ht) e1 e2⟩
    ·exact h.elim
   ·exact h.elim
  ·split at h
   ·rename_i m _ _ ty l ty' l' hm;subst h;exact⟨m,_,rfl,hm,.bys _ _ _⟩
   ·rename_i m _ _ ty sz n row ty' sz' n' row' hm;split at h
    ·rename_i hb;obtain⟨rfl,h⟩:=h;obtain rfl:=K1 hb;exact⟨m,_,rfl,hm,.same _ _ _ _ _ _ h⟩
    ·exact h.elim
   ·rename_i m _ _ v ty sz n row v' ty' sz' n' row' hm;split at h
    ·rename_i hb;obtain⟨rfl,rfl,h⟩:=h;obtain rfl:=K1 hb;exact⟨m,_,rfl,hm,.fam _ _ _ _ _ _ _ h⟩
    ·exact h.elim
   ·rename_i m _ _ bo get bo' get' hm;split at h
    ·rename_i hb;obtain rfl:bo=bo':=by simpa using hb
     exact⟨m,_,rfl,hm,.mp _ _ _ h⟩
    ·exact h.elim
   ·rename_i m _ _ get get' hm;exact⟨m,_,rfl,hm,.mp2 _ _ h⟩
   ·exact h.elim
  ·split at h
   ·rename_i m _ _ cl ty sz n row ty' sz' n' row' hm;split at h
    ·rename_i hb;obtain⟨rfl,h⟩:=h;obtain rfl:=K1 hb;exact⟨m,_,rfl,hm,.ren _ _ _ _ _ _ _ _ (fun hc=>by cases hc) h⟩
    ·exact h.elim
   ·exact h.elim

theorem a3k{ρ:Nat->Option Nat}{H:Y6}:∀{l:List Lk} {H':Y6},a8Z ρ H l H'->(w6 l).length=H'.length/\∀k ob',Z4 H' k=some ob'->∃m ob,A5 (w6 l) k=some m/\Z4 H m=some ob/\OLe ρ ob ob':=by
 intro l;induction l with
 |nil=>
  intro H' h;cases H' with
  |nil=>exact⟨rfl,fun k ob' hk=>by simp[Z4] at hk⟩
  |cons=>exact h.elim
 |cons lk l ih=>
  intro H' h;cases H' with
  |nil=>exact h.elim
  |cons o H'=>
   obtain⟨h1,h2⟩:=ih h.2;refine⟨by simp[w6,h1],fun k ob' hk=> ?_⟩
   cases k with
   |zero=>
    have:o=some ob':=by simpa[Z4] using hk
    subst this;exact c5I h.1
   |succ k=>exact h2 k ob' (by simpa[Z4] using hk)

theorem b02{ρ:Nat->Option Nat}{s:W9}:∀{s':W9},a7w ρ s s'->∀p ∈ s',O0 ρ (u6 s p.1) p.2:=by
 intro s';induction s' with
 |nil=>intro _ p hp;cases hp
 |cons x s' ih=>
  intro h p hp;obtain⟨j,t⟩:=x;rcases zJ.1 hp with rfl|hp
  ·exact sU h.1
  ·exact ih h.2 p hp

theorem c5P:∀{m i:Nat} {l:List (Option Nat)},idB m i l=true->∀k,k<m->A5 l k=some (i+k):=by
 intro m;induction m with
 |zero=>intro i l _ k hk;omega
 |succ m ih=>
  intro i l h k hk;cases l with
  |nil=>simp[idB] at h
  |cons x l=>
   cases x with
   |none=>simp[idB] at h
   |some x=>
    simp only[idB,K5] at h;cases k with
    |zero=>simp only[A5];rw[←K1 h.1];rfl
    |succ k=>
     simp only[A5];rw[ih h.2 k (by omega)]
     congr 1
     omega

theorem gI{c:Ctx}{E:Env}{H:Y6}{w:World}(h:Inv c E H w)(ty:TypeId)(sz:Nat):Inv c (E.push H.length 0 0 sz) (H++[some (.arr true ty sz 0 fun _=>[])]) w/\Step E w (E.push H.length 0 0 sz) w:=
 h.push (ob:=.arr true ty sz 0 fun _=>[]) rfl rfl rfl (V5 _) (fun _ _=>rfl) 0 0 #[] 0 (fun h=>absurd rfl h) (fun h=>absurd rfl h) (by simp) (V5 0) (fun i hi=>absurd hi (J2 _)) (fun i t hi=>absurd hi (J2 _)) (fun _ i t hi=>absurd hi (J2 _)) (fun i j t hi=>absurd hi (J2 _))

theorem c1q{o:Option T}(h:c42 o=true):∃t,o=some t/\∀{E:Env} {w:World} {u:Value},Rd E w t u->∃a,u= .slice a 0 0:=by
 unfold c42 at h;split at h
 ·exact⟨_,rfl,fun hx=>⟨none,yL hx⟩⟩
 ·exact⟨_,rfl,fun hx=>by cases hx with|emp a=>exact⟨a,rfl⟩⟩
 ·cases h

theorem b2G{E:Env}{w:World}{k sz:Nat}(hst:Step E w (E.push k 0 0 sz) w):∀(p:List Nat) {t t':T} {x:Value},xV k p t=some t'->Rd E w t x->Rd (E.push k 0 0 sz) w t' x:=by
 intro p;induction p with
 |nil=>
  intro t t' x h hx;have key:(∃a,x= .slice a 0 0)/\t'= .osl k 0 0:=by
   unfold xV at h;split at h
   ·simp only[X6] at h;exact⟨⟨none,yL hx⟩,h.symm⟩
   ·simp only[X6] at h;exact⟨by cases hx with|emp a=>exact⟨a,rfl⟩,h.symm⟩
   ·contradiction
   ·contradiction
   ·cases h
  obtain⟨⟨a,rfl⟩,rfl⟩:=key;exact a4O a
 |cons j p ih=>
  intro t t' x h hx;have list:∀{cs:List T} {vs:Array Value} {t0 t1:T},cs[j]? =some t0->xV k p t0=some t1->cs.length=vs.size->(∀(i:Nat) (t:T) (x:Value),cs[i]? =some t->vs[i]? =some x->Rd E w t x)->
    (cs.set j t1).length=vs.size/\∀(i:Nat) (t:T) (x:Value),(cs.set j t1)[i]? =some t->vs[i]? =some x->Rd (E.push k 0 0 sz) w t x:=by
   intro cs vs t0 t1 h0 h1 hl ht;refine⟨by simp[hl],fun i t x hi hx=> ?_⟩
   rw[List.getElem?_set] at hi
   split at hi
   ·rename_i hji;subst hji;split at hi
    ·simp only[X6] at hi;subst hi;exact ih h1 (ht j t0 x h0 hx)
    ·cases hi
   ·exact hst.rd (ht i t x hi hx)
  cases t with
  |agg cs=>
   simp only[xV] at h;split at h
   ·rename_i t0 h0;simp only[L8] at h;obtain⟨t1,h1,rfl⟩:=h;cases hx with
    |agg _ vs hl ht=>obtain⟨a1,a2⟩:=list h0 h1 hl ht;exact .agg _ vs a1 a2
   ·cases h
  |tup cs=>
   simp only[xV] at h;split at h
   ·rename_i t0 h0;simp only[L8] at h;obtain⟨t1,h1,rfl⟩:=h;cases hx with
    |tup _ vs hl ht=>obtain⟨a1,a2⟩:=list h0 h1 hl ht;exact .tup _ vs a1 a2
   ·cases h
  |_=>simp[xV] at h

theorem c8i{c:Ctx}{E:Env}{H:Y6}{w:World}(h:Inv c E H w){ks:List Nat}{t r:T}{x:Value}(hb:Q2 0 (N8 ks H 0) 6 t=some (r,none))(hx:Rd E w t x):
  ∃E2,Inv c E2 (L0 H ks) w/\Step E w E2 w/\Rd E2 w r x:=by
 have hK:Inv c E (N8 ks H 0) w:=by
  refine⟨⟨fun k ob hk=>h.heap.live k ob (R5 hk).1,fun k k' o o' b hk hk'=>h.heap.inj k k' o o' b (R5 hk).1 (R5 hk').1,fun k hk=>by rw[wU];exact h.heap.lt k hk,h.heap.l2,fun k ob v hk=>h.heap.cur k ob v (R5 hk).1⟩,h.nlt,h.nnew,fun k ob b hk=>h.bnew k ob b (R5 hk).1,h.fr,h.keep⟩
 have hr:=C3 hK 6 hb trivial hx;let E2:Env:={E with N:=(E.lent 0 (N8 ks H 0)).N}
 have hstep:Step E w E2 w:=⟨⟨fun b hb=>.inl hb,fun _ h=>h,fun _ _=>rfl,fun _ _=>rfl,fun _ _=>rfl,fun _ _ h=>h,fun _ _ _ _ _=>rfl,fun _ _ _ _ _=>rfl⟩,fun b _=>rfl,fun _ h=>.inl h⟩
 refine⟨E2,⟨⟨fun k ob hk=> ?_,fun k k' o o' b hk hk'=>h.heap.inj k k' o o' b (Q8 hk).1 (Q8 hk').1,fun k hk=>by rw[N3];exact h.heap.lt k hk,h.heap.l2,fun k ob v hk=>h.heap.cur k ob v (Q8 hk).1⟩,fun b hb'=> ?_,fun b hb'=> ?_,fun k ob b hk=>h.bnew k ob b (Q8 hk).1,h.fr,h.keep.step hstep⟩,hstep,?_⟩
 ·obtain⟨g1,g2⟩:=Q8 hk;obtain⟨e1,e2,e3⟩:=h.heap.live k ob g1;refine⟨e1,e2.mono e1 hstep (fun b hb'=>rfl),fun b hb' hn=> ?_⟩
  have hb':H9 E k ob b:=hb';rcases hn with hn|⟨k2,ob2,_,hk2,hb2⟩
  ·exact e3 b hb' hn
  ·obtain⟨g3,g4⟩:=R5 hk2;have:=h.heap.inj k k2 ob ob2 b g1 g3 hb' hb2;rw[yO] at g4;exact g2 (this▸g4)
 ·rcases hb' with hb'|⟨k2,ob2,_,hk2,hb2⟩
  ·exact h.nlt b hb'
  ·exact hK.heap.blt hk2 hb2
 ·rcases hb' with hn|⟨k2,ob2,_,hk2,hb2⟩
  ·exact h.nnew b hn
  ·exact .inr (h.bnew k2 ob2 b (R5 hk2).1 hb2)
 ·exact Rd.mono (w:=w) (w':=w) (E:=E.lent 0 (N8 ks H 0)) (E':=E2) ⟨fun _ h=>h,fun _ h=>absurd h.2 (J2 _),fun _ h=>absurd h.2 (J2 _),fun _ h=>absurd h.2 (J2 _),fun _ h=>absurd h.2 (J2 _),fun _ _ h=>absurd h.2 (J2 _),fun _ _ _ _ h=>absurd h.2 (J2 _),fun _ _ _ _ h=>absurd h.2 (J2 _)⟩ (fun _ _=>rfl) hr

theorem b7i{σ σ':Sy}{x:Lk}(h:b4R σ x=some σ'):Sub m σ σ':=by
 intro c a w _ hr;obtain⟨E,hr⟩:=hr;unfold b4R at h;split at h
 ·rename_i k j ty sz;split at h
  case h_2=>cases h
  rename_i cl bty bsz n row hk;split at h
  case h_2=>cases h
  rename_i hnj hsz;obtain⟨tj,hj,htj⟩:=c1q hnj;simp only[X6] at h;subst h;obtain⟨hI,hst⟩:=gI hr.inv ty sz;have hk1:Z4 (σ.H++[some (Ob.arr true ty sz 0 fun _=>[])]) k=some (.arr cl bty bsz 1 row):=by rw[B5,if_pos (M2 hk)];exact hk
  obtain⟨hL,hO,hN⟩:=hI.heap.live k _ hk1;have hO:U8 _ w k ⟨cl,bty,bsz,1,row⟩:=hO;obtain⟨e1,e2,e3,e4,e5,cs,tyc,e6,e7,e8⟩:=hO;have hW:=hI.writeO (w':=w) hk1 rfl rfl rfl (V5 _) (fun _ _ _=>rfl) (.arr false bty bsz 1 fun _=>(row 0).set j (.osl σ.H.length 0 0)) (fun b hb=>.inl (hb.arr rfl)) (fun v hv=>absurd hv (hI.noL2 hk1 rfl v)) (fun hs=>by
   refine⟨e1,e2,fun i hi=> ?_,fun i t hi ht=> ?_,fun hc=>(by cases hc),cs,tyc,e6,e7,fun i q t hi hq=> ?_⟩
   ·exact(j_l ..).trans (e3 0 (Nat.lt_succ_self 0))
   ·rcases List.mem_or_eq_of_mem_set ht with h1|rfl
    ·exact e4 0 t (by simp) h1
    ·rfl
   ·obtain rfl:i=0:=by have:i<1:=hi;omega
    have hq2:((row 0).set j (T.osl σ.H.length 0 0))[q]? =some t:=hq;rw[List.getElem?_set] at hq2
    split at hq2
    ·rename_i hjq;subst hjq;split at hq2
     ·simp only[X6] at hq2;subst hq2;obtain⟨u,hu,hru⟩:=e8 0 j _ (by simp) hj
      refine⟨u,hu,?_⟩
      obtain⟨a,rfl⟩:=htj hru;exact a4O a
     ·cases hq2
    ·exact e8 0 q t (by simp) hq2)
  exact⟨_,hr.defers,hr.size,⟨fun i hi=>hst.rd (hr.slots.on i hi),hr.slots.off⟩,hW.1⟩
 ·rename_i i p ty sz;split at h
  case h_2=>cases h
  rename_i t hs hsz;simp only[X6] at h;subst h;obtain⟨hI,hst⟩:=gI hr.inv ty sz;refine⟨_,hr.defers,hr.size,⟨fun q hq=> ?_,fun q hq=>absurd (fun q hq=>by cases hq) hq⟩,hI⟩
  simp only[u6];split
  ·rename_i he;obtain rfl:=K1 he;have:=hr.slots.on q (fun q hq=>by cases hq)
   exact b2G hst _ hs this
  ·exact hst.rd (hr.slots.on q (fun q hq=>by cases hq))
 ·rename_i k;split at h
  case h_2=>cases h
  rename_i ty sz n row hk;simp only[X6] at h;subst h;have hI:=hr.inv;have hn2:¬E.L2 k 0:=hI.noL2 hk rfl 0;let E':=E.bump k 0 (fun _ _=>0) (fun _ _=>0)
  have hst:Step E w E' w:=⟨Env.bump_le hn2,fun _ _=>rfl,fun _ h=>.inl h⟩
  obtain⟨hL,hO,hN⟩:=hI.heap.live k _ hk;have hO:U8 E w k ⟨true,ty,sz,n,row⟩:=hO;obtain⟨e1,e2,e3,e4,e5,cs,tyc,e6,e7,e8⟩:=hO;simp only at e1 e2 e3 e4 e5 e7 e8;have hco:∀i t,i<n->t ∈ row i->closedOne t=true:=fun i t hi ht=>by simp[closedOne,e4 i t hi ht,e5 trivial i t hi ht]
  have nown:∀(i j:Nat) (oty:TypeId) (osz on:Nat) (orow:Nat->List T),i<n->(row i)[j]? =some (.own oty osz on orow)->False:=fun i j oty osz on orow hi hj=>by
   have:=hco i _ hi (E8 hj);simp[closedOne,X4] at this
  have hF:FamOk E' w k 0 ty sz n row:=y9 (.inr ⟨rfl,rfl⟩) e1 e2 cs tyc e6 e7 e3 (fun r q t hr hq=>by
   obtain⟨u,hu,hru⟩:=e8 r q t hr hq;exact⟨u,hu,.inl ⟨hco r t hr (E8 hq),hst.rd hru⟩⟩) (fun i j i' j' oty osz on orow oty' osz' on' orow' hi hi' hj=>(nown i j _ _ _ _ hi hj).elim)
  have hklt:=M2 hk;refine⟨E',hr.defers,hr.size,⟨fun i hi=>hst.rd (hr.slots.on i hi),hr.slots.off⟩,hI.to rfl rfl rfl (V5 _) hst k (fun i=>i=k) (fun _ h=>h) (fun i o hi hne=> ?_) (fun o ho=> ?_) (fun _ _ _=>rfl) (fun i hi=>by rw[j_l];exact hI.heap.lt i hi) (fun i u hu=> ?_) (fun o i u hi hu=> ?_)⟩
  ·rw[T9 hklt,if_neg hne] at hi;exact⟨hi,hne⟩
  ·rw[T9 hklt,if_pos rfl] at ho;simp only[X6] at ho;subst ho;refine⟨hL,hF,fun b hb=>.inr ⟨k,_,rfl,hk,?_⟩⟩
   rcases hb with hb|⟨v0,ty0,sz0,n0,U1,i0,j0,oty1,osz1,on1,orow1,hobe,hi0,hj0,hc0,rfl⟩
   ·exact .inl hb
   ·simp only[Ob.fam.injEq] at hobe;obtain⟨rfl,rfl,rfl,rfl,rfl⟩:=hobe;exact(nown _ _ _ _ _ _ hi0 hj0).elim
  ·rcases hu with hu|⟨rfl,_⟩
   ·exact hI.heap.l2 _ _ hu
   ·exact hL
  ·rw[T9 hklt] at hi;split at hi
   ·rename_i he;subst he;simp only[X6] at hi;subst hi;refine⟨_,_,_,_,_,rfl,?_⟩
    rcases hu with hu|⟨_,rfl⟩
    ·exact absurd hu (hI.noL2 hk rfl u)
    ·exact V5 _
   ·rename_i hne;rcases hu with hu|⟨e,_⟩
    ·exact hI.heap.cur _ _ _ hi hu
    ·exact absurd e hne
 ·rename_i i;split at h
  case h_2=>cases h
  rename_i t hb;simp only[X6] at h;subst h;obtain⟨E2,hI,hst,hrd⟩:=c8i hr.inv hb (hr.slots.on i (fun q hq=>by cases hq))
  refine⟨E2,hr.defers,hr.size,⟨fun q hq=> ?_,fun q hq=>absurd (fun q hq=>by cases hq) hq⟩,hI⟩
  simp only[u6];split
  ·rename_i he;obtain rfl:=K1 he;exact hrd
  ·exact hst.rd (hr.slots.on q (fun q hq=>by cases hq))
 ·simp only[X6] at h;subst h;exact⟨E,hr⟩

theorem c0S:∀{l:List Lk} {σ σ':Sy},b1j σ l=some σ'->Sub m σ σ':=by
 intro l;induction l with
 |nil=>intro σ σ' h;simp only[b1j,X6] at h;subst h;exact Sub.refl m σ
 |cons x l ih=>
  intro σ σ' h;simp only[b1j] at h;split at h
  ·rename_i σ1 h1;exact fun c a w hm hr=>ih h c a w hm (b7i (m:=m) (x:=c7t _ _) h1 c a w hm hr)
  ·cases h

theorem yG{l:List Lk}{σ σ':Sy}(h:jM m l σ σ'):Sub m σ σ':=by
 unfold jM at h;split at h
 ·rename_i σ1 hg;split at h
  ·rename_i hi;simp only[K5] at hi;obtain⟨h1,h2⟩:=a3k h.2;intro c a w hm hr;exact b8w (ρ:=A5 (w6 (iE σ1.s σ1.H (eD l)))) (fun k m hk=>by rw[←h1];exact c6L hk) (b8W hi.1) (b02 h.1) h2 (fun k hk=>by rw[c5P hi.2 k (by omega)];simp) (c0S (m:=m) hg c a w hm hr)
  ·exact h.elim
 ·exact h.elim

theorem b4O{c:Ctx}{E:Env}{H:Y6}{w:World}(hc0:c.m=0)(h:Inv c E H w):Inv c (E.lent 0 H) [] w:=by
 have hn:∀k ob,¬Z4 ([]:Y6) k=some ob:=fun k ob hk=>by simp[Z4] at hk
 refine⟨⟨fun k ob hk=>absurd hk (hn k ob),fun k k' o o' b hk _ _ _=>absurd hk (hn k o),fun k hk=>absurd hk.2 (J2 k),fun k v hv=>absurd hv.2 (J2 k),fun k ob v hk=>absurd hk (hn k ob)⟩,fun x hx=> ?_,fun x hx=> ?_,fun k ob b hk=>absurd hk (hn k ob),h.fr,⟨fun b hb=>.inl (h.keep.N b hb),fun k hk=>by omega,h.keep.same,fun k v hk=>by omega⟩⟩
 ·rcases hx with hx|⟨k,ob,_,hob,hx⟩
  ·exact h.nlt x hx
  ·exact h.heap.blt hob hx
 ·rcases hx with hx|⟨k,ob,hkb,hob,hx⟩
  ·exact h.nnew x hx
  ·exact .inr (h.bnew k ob x hob hx)
theorem c1k{H:Y6}{s:W9}:∀{ks:List Nat} {s':W9} {p:Option Prop},frz H s ks=some (s',p)->p.getD True->∀i,u6 s' i= .und∨∃q,Q2 0 H 6 (u6 s i)=some (u6 s' i,q)/\q.getD True:=by
 intro ks;induction ks with
 |nil=>
  intro s' p h _ i;simp only[frz,X6,V1] at h;obtain⟨rfl,_⟩:=h;exact .inl rfl
 |cons j r ih=>
  intro s' p h hp i;simp only[frz] at h;split at h
  ·rename_i t q1 q p' h1 h2;simp only[X6,V1] at h;obtain⟨rfl,rfl⟩:=h;obtain⟨hp1,hp2⟩:=l7 hp;simp only[u6];split
   ·rename_i he;obtain rfl:=K1 he;exact .inr ⟨_,h1,hp1⟩
   ·exact ih h2 hp2 i
  ·cases h
theorem c64{σ:Sy}{ks:List Nat}{s':W9}{p:Option Prop}(h:frz σ.H σ.s ks=some (s',p))(hp:p.getD True):Sub 0 σ ⟨s',[]⟩:=by
 intro c a w hc hr;obtain⟨E,hr⟩:=hr;refine⟨E.lent 0 σ.H,hr.defers,hr.size,⟨fun i _=> ?_,fun i hx=>absurd (fun q hq=>by cases hq) hx⟩,b4O hc hr.inv⟩
 rcases c1k h hp i with hi|⟨q,hi,hq⟩
 ·show Rd _ w (u6 s' i) _;rw[hi];exact .und _
 ·exact C3 hr.inv 6 hi hq (hr.slots.on i (fun q hq=>by cases hq))
theorem vZ{l:Option (List Lk)}{σ σ':Sy}(h:a3s m l σ σ'):Sub m σ σ':=by
 unfold a3s at h;split at h
 ·exact yG h
 ·exact h.elim

theorem m9{s:W9}{op:Op}{k k':K3->Prop}(hk:∀G',k G'->k' G')(h:kX G s op k):kX G s op k':=by
 unfold kX at h ⊢;split at h
 ·exact hk _ h
 ·split at h
  ·obtain⟨x,hx⟩:=h;exact⟨x,hk _ hx⟩
  ·obtain⟨x,hx⟩:=h;exact⟨x,hk _ hx⟩
  ·obtain⟨x,hx⟩:=h;exact⟨x,hk _ hx⟩
  ·obtain⟨x,hx⟩:=h;exact⟨x,hk _ hx⟩
  ·exact hk _ h

theorem iR{s:W9}:∀{p:K8} {q q':Prop},(q->q')->I9 s p q->I9 s p q':=by
 intro p;induction p with
 |nil=>intro q q' hq h;exact hq h
 |cons x p ih=>
  intro q q' hq h;obtain⟨t,b⟩:=x;simp only[I9] at h ⊢;split at h
  ·exact ih (fun h he=>hq (h he)) h
  ·exact h.elim

theorem a4U{all:Array Oper}{K K':W9->Y6->Prop}(hK:∀s H,K s H->K' s H):∀(rest:List Oper) (s:W9) (ps:F9) (H:Y6),zI P G nt all rest s ps H K->zI P G nt all rest s ps H K':=by
 intro rest;induction rest with
 |nil=>intro s ps H h;exact hK _ _ h
 |cons o rest ih=>
  intro s ps H h;have andp:∀{p:K8} {side:Option Prop} {q q':Prop},(q->q')->nV s p side q->nV s p side q':=by
   intro p side q q' hq h;cases side with
   |none=>exact hq h
   |some r=>exact⟨h.1,hq h.2⟩
  unfold zI at h ⊢;split at h
  ·split at h
   ·exact h.elim
   ·split at h
    ·exact fun b hb=>ih _ _ _ (h b hb)
    ·refine m9 (fun G' h=> ?_) h
     split at h
     ·exact andp (ih _ _ _) h
     ·exact h.elim
  ·split at h
   ·split at h
    ·split at h
     ·exact h.elim
     ·split at h
      ·refine m9 (fun G' h=> ?_) h
       split at h
       ·exact andp (ih _ _ _) h
       ·exact h.elim
      ·split at h
       ·exact h.elim
       ·refine m9 (fun G' h=> ?_) h
        split at h
        ·exact andp (fun h=>⟨iR (ih _ _ _) h.1,fun hn=>ih _ _ _ (h.2 hn)⟩) h
        ·exact h.elim
    ·exact h.elim
   ·exact h.elim

theorem a6F{all:Array Oper}{b:Nat}{H0:Y6}{K K':W9->Y6->Prop}(hK:∀s H,K s H->K' s H):∀(rest:List Oper) (i:Nat) (earlier:List (Nat×Oper×RW)) (tab:List Nat) (s:W9) (ps:F9) (hist:List (Nat×Y6)),
  zQ P G nt all b H0 rest i earlier tab s ps hist K->zQ P G nt all b H0 rest i earlier tab s ps hist K':=by
 intro rest;induction rest with
 |nil=>intro i earlier tab s ps hist h;exact hK _ _ h
 |cons o rest ih=>
  intro i earlier tab s ps hist h;have andp:∀{p:K8} {side:Option Prop} {q q':Prop},(q->q')->nV s p side q->nV s p side q':=by
   intro p side q q' hq h;cases side with
   |none=>exact hq h
   |some r=>exact⟨h.1,hq h.2⟩
  unfold zQ at h ⊢;split at h
  ·exact h.elim
  ·split at h
   ·split at h
    ·exact h.elim
    ·split at h
     ·split at h
      ·exact ih _ _ _ _ _ _ h
      ·exact h.elim
     ·split at h
      ·refine m9 (fun G' h=> ?_) h
       split at h
       ·exact andp (ih _ _ _ _ _ _) h
       ·exact h.elim
      ·refine m9 (fun G' h=> ?_) h
       split at h
       ·exact andp (ih _ _ _ _ _ _) h
       ·exact h.elim
   ·split at h
    ·split at h
     ·split at h
      ·exact h.elim
      ·refine m9 (fun G' h=> ?_) h
       split at h
       ·exact andp (ih _ _ _ _ _ _) h
       ·exact h.elim
     ·exact h.elim
    ·exact h.elim

theorem a7U:∀(code:Code) (k:Nat) (Q:Exit->Sy->(Nat->Ann)->Prop) (Q':Exit->Sy->Prop) (σ:Sy) (A:Nat->Ann),(∀e σ A,Q e σ A->Q' e σ)->jT P G nt m code k Q σ A->vc P G nt (Sub m) code Q' σ:=by
 intro code;induction code with
 |skip=>intro k Q Q' σ A hQ h;exact hQ _ _ _ h
 |region id ops draw=>
  intro k Q Q' σ A hQ h;simp only[jT,vc] at h ⊢;split at h
  ·exact a4U (fun s H hk=>hQ _ _ _ hk) _ _ _ _ h
  ·exact a6F (fun s H hk=>hQ _ _ _ hk) _ _ _ _ _ _ _ h
 |seq x y ihx ihy=>
  intro k Q Q' σ A hQ h;simp only[jT,vc] at h ⊢;refine ihx _ _ _ _ _ (fun e σ' A' h'=> ?_) h
  cases e with
  |normal=>exact ihy _ _ _ _ _ hQ h'
  |_=>exact hQ _ _ _ h'
 |cond cd x y ihx ihy=>
  intro k Q Q' σ A hQ h;simp only[jT,vc] at h ⊢;split at h
  ·rename_i b hb0;rw[hb0];exact⟨fun hb=>ihx _ _ _ _ _ hQ (h.1 hb),fun hb=>ihy _ _ _ _ _ hQ (h.2 hb)⟩
  ·exact h.elim
 |block id body ih=>
  intro k Q Q' σ A hQ h;simp only[jT,vc] at h ⊢;refine ih _ _ _ _ _ (fun e σ' A' h'=> ?_) h
  cases e with
  |exit i=>
   simp only at h' ⊢;split at h'
   ·rename_i hb0;rw[hb0];exact hQ _ _ _ h'
   ·rename_i hb0;rw[hb0];exact hQ _ _ _ h'
  |_=>exact hQ _ _ _ h'
 |loop body ih=>
  intro k Q Q' σ A hQ h;simp only[jT,vc] at h ⊢;split at h
  ·exact h.elim
  ·rename_i n sub hA;refine⟨{p:Nat×Sy//a5Z (fun r next σ'=>jT P G nt m body (k+1) (fun e σ'' A'=>match e with| .normal=>next σ''|e=>Q e σ'' A') σ' (sub r)) p.1 p.2},fun p=>p.1.2,fun p=>p.1.1,⟨⟨(n,σ),h⟩,fun c a w _ hr=>hr⟩,fun x=> ?_⟩
   obtain⟨⟨j,τ⟩,hx⟩:=x;cases j with
   |zero=>exact hx.elim
   |succ j=>
    refine ih _ _ _ _ _ (fun e σ' A' h'=> ?_) hx
    cases e with
    |normal=>exact⟨⟨(j,σ'),h'⟩,fun c a w _ hr=>hr,Nat.lt_succ_self j⟩
    |_=>exact hQ _ _ _ h'
  ·rename_i ι I μ lin lback sub hA;obtain⟨⟨x0,h0⟩,hround⟩:=h;refine⟨ι,I,μ,⟨x0,yG h0⟩,fun x=>ih _ _ _ _ _ (fun e σ' A' h'=> ?_) (hround x)⟩
   cases e with
   |normal=>obtain⟨y,hy,hlt⟩:=h';exact⟨y,yG hy,hlt⟩
   |_=>exact hQ _ _ _ h'
  ·rename_i ks ι I μ lback sub hA;obtain⟨h0,hround⟩:=h;split at h0
   ·rename_i s' p hz;have h0':p.getD True/\∃x,jM 0 [] ⟨s',[]⟩ (I x):=by
     cases p with
     |none=>exact⟨trivial,h0⟩
     |some p=>exact h0
    obtain⟨hp,x0,hx0⟩:=h0';refine⟨ι,I,μ,⟨x0,fun c a w hc hr=>yG hx0 c a w hc (c64 hz hp c a w hc hr)⟩,fun x=>ih _ _ _ _ _ (fun e σ' A' h'=> ?_) (hround x)⟩
    cases e with
    |normal=>obtain⟨y,hy,hlt⟩:=h';exact⟨y,yG hy,hlt⟩
    |_=>exact hQ _ _ _ h'
   ·exact h0.elim
  ·rename_i ι₁ ι₂ I₁ I₂ μ₁ μ₂ l1 l2 l11 l12 l21 l22 sub₁ sub₂ hA;obtain⟨h0,h1,h2⟩:=h;refine⟨ι₁ ⊕ ι₂,fun x=>match x with| .inl x=>I₁ x| .inr x=>I₂ x,fun x=>match x with| .inl x=>μ₁ x| .inr x=>μ₂ x,?_,fun x=> ?_⟩
   ·rcases h0 with⟨x,hx⟩|⟨x,hx⟩
    ·exact⟨.inl x,vZ hx⟩
    ·exact⟨.inr x,vZ hx⟩
   ·cases x with
    |inl x=>
     refine ih _ _ _ _ _ (fun e σ' A' h'=> ?_) (h1 x)
     cases e with
     |normal=>
      rcases h' with⟨y,hy,hlt⟩|⟨y,hy,hlt⟩
      ·exact⟨.inl y,vZ hy,hlt⟩
      ·exact⟨.inr y,vZ hy,hlt⟩
     |_=>exact hQ _ _ _ h'
    |inr x=>
     refine ih _ _ _ _ _ (fun e σ' A' h'=> ?_) (h2 x)
     cases e with
     |normal=>
      rcases h' with⟨y,hy,hlt⟩|⟨y,hy,hlt⟩
      ·exact⟨.inl y,vZ hy,hlt⟩
      ·exact⟨.inr y,vZ hy,hlt⟩
     |_=>exact hQ _ _ _ h'
 |exit id=>intro k Q Q' σ A hQ h;exact hQ _ _ _ h
 |ret=>intro k Q Q' σ A hQ h;exact hQ _ _ _ h
 |_=>intro k Q Q' σ A hQ h;simp[jT] at h

def c7R(res r:T):Prop:=tR (fun _=>none) 6 r res

def c7q(P:Program)(G:K3)(nt:Nat)(rs:List ResultVar)(code:Code)(args:List T)(res:T)(A:Nat->Ann):Prop:=
 jT P G nt 0 code 0 (fun e σ _=>b76 P rs (c7R res) e σ) ⟨vF 0 args,[]⟩ A

theorem c7g(hm:P.follows .mixedOrders=true)(hG:H3 P G)(hGc:∀x ∈ G,Z7 P x.1){f:FuncId}{fn:Func}{code:Code}{args:List T}{res:T}(hf:P.funcs[f]? =some fn)(hb:fn.body=some code)(hnt:args.length<=fn.ntmps)
  (A:Nat->Ann) (h:c7q P G fn.ntmps fn.results.toList code args res A):Z2 P f args res:=by
 refine c2m hm hG hGc hf hb hnt (a7U _ _ _ _ _ _ (fun e σ A' hq=> ?_) h)
 have mono:∀{p:Option Prop} {q q':Prop},(q->q')->jU p q->jU p q':=by
  intro p q q' hq h;cases p with
  |none=>exact hq h
  |some p=>exact⟨h.1,hq h.2⟩
 unfold b76 at hq ⊢;split at hq
 ·split at hq
  ·split at hq
   ·exact mono (mono fun h=>O0.rle (sU h)) hq
   ·exact hq.elim
  ·exact hq.elim
 ·split at hq
  ·split at hq
   ·exact mono (mono fun h=>O0.rle (sU h)) hq
   ·exact hq.elim
  ·exact hq.elim
 ·exact hq.elim

end
end Go.SS
