/- A calculus of symbolic states: loops with what holds at their heads. -/
import Derived.Test.YtghgljelnhfihaaGreatSS17
namespace Go.SS
open Go.RowKit

inductive Lk where
 |no
 |box (m:Nat)
 |arr (m:Nat)
 |ren (m:Nat)
 |nilC (k j:Nat) (ty:TypeId) (sz:Nat)
 |nilS (i:Nat) (p:List Nat) (ty:TypeId) (sz:Nat)
 |fam (k:Nat)
 |at_ (j:Nat)
 |frz (i:Nat)
 |cel (k j:Nat)
 |vl (i:Nat) (p:List Nat)
 |fav (i:Nat) (p:List Nat)
 |fac (k j:Nat)

def b28(s:V5):List Lk->List Lk
 | []=>[]
 | .at_ j::r=>(match j7 s j with| .osl k _ _=>.arr k| .ref k _ _=>.arr k|_=>.no)::b28 s r
 |x::r=>x::b28 s r

def b7z:Option T->Bool
 |some (.v (.slice none 0 0))=>true
 |some .emp=>true
 |_=>false

def wA(k:Nat):List Nat->T->Option T
 | [],.v (.slice none 0 0)=>some (.osl k 0 0)
 | [],.emp=>some (.osl k 0 0)
 |j::p,.agg cs=>match cs[j]? with
  |some t=>(wA k p t).map λt'=>.agg (cs.set j t')
  |none=>none
 |j::p,.tup cs=>match cs[j]? with
  |some t=>(wA k p t).map λt'=>.tup (cs.set j t')
  |none=>none
 |_,_=>none

def b2U(σ:Sy):Lk->Option Sy
 | .nilC k j ty sz=>match Z0 σ.H k with
  |some (.arr _ bty bsz n row)=>match n,b7z ((row 0)[j]?),Nat.beq sz 0 with
   |1,true,false=>some ⟨σ.s,(σ.H++[some (Ob.arr true ty sz 0 λ_=>[])]).set k (some (.arr false bty bsz 1 λ_=>(row 0).set j (.osl σ.H.length 0 0)))⟩
   |_,_,_=>none
  |_=>none
 | .nilS i p ty sz=>match wA σ.H.length p (j7 σ.s i),Nat.beq sz 0 with
  |some t,false=>some ⟨(i,t)::σ.s,σ.H++[some (.arr true ty sz 0 λ_=>[])]⟩
  |_,_=>none
 | .fam k=>match Z0 σ.H k with
  |some (.arr true ty sz n row)=>some ⟨σ.s,σ.H.set k (some (.fam 0 ty sz n row))⟩
  |_=>none
 | .frz i=>match N3 0 (K3 (t7 σ.H 64 (nL [j7 σ.s i]) []) σ.H 0) 6 (j7 σ.s i) with
  |some (t,none)=>some ⟨(i,t)::σ.s,H6 σ.H (t7 σ.H 64 (nL [j7 σ.s i]) [])⟩
  |_=>none
 |_=>some σ

def a57:List Nat->T->Option Nat
 | [],.osl k _ _=>some k
 |j::p,.agg cs=>match cs[j]? with
  |some t=>a57 p t
  |none=>none
 |j::p,.tup cs=>match cs[j]? with
  |some t=>a57 p t
  |none=>none
 |_,_=>none

def b7l(H:Y1)(k j:Nat):Option Nat:=
 match Z0 H k with
 |some (.arr _ _ _ _ row)=>match(row 0)[j]? with
  |some (.osl m _ _)=>some m
  |_=>none
 |_=>none

def c0T(σ:Sy):Lk->Lk
 | .fav i p=>match a57 p (j7 σ.s i) with
  |some k=>.fam k
  |none=>.no
 | .fac k j=>match b7l σ.H k j with
  |some k=>.fam k
  |none=>.no
 |x=>x

def c0E(σ:Sy)(x:Lk):Option Sy:=b2U σ (c0T σ x)

def a84(σ:Sy):List Lk->Option Sy
 | []=>some σ
 |x::r=>match c0E σ x with
  |some σ'=>a84 σ' r
  |none=>none

def Lk.isG:Lk->Bool
 | .nilC .. | .nilS .. | .fam _| .frz _| .fav .. | .fac .. =>true
 |_=>false

def aZ:List Lk->List Lk
 | []=>[]
 |x::r=>match x.isG with
  |true=>aZ r
  |false=>x::aZ r

def b08:Option Nat->Lk
 |some m=>.arr m
 |none=>.no

def gX(s:V5)(H:Y1):List Lk->List Lk
 | []=>[]
 | .cel k j::r=>b08 (b7l H k j)::gX s H r
 | .vl i p::r=>b08 (a57 p (j7 s i))::gX s H r
 |x::r=>x::gX s H r

def Lk.old:Lk->Option Nat
 | .no| .nilC .. | .nilS .. | .fam _| .at_ _| .frz _| .cel .. | .vl .. | .fav .. | .fac .. =>none
 | .box m| .arr m| .ren m=>some m

def k7:List Lk->List (Option Nat)
 | []=>[]
 |x::r=>x.old::k7 r

def yC(ρ:Nat->Option Nat)(n:Nat)(row row':Nat->List T):Prop:=∀i,i<n->O5 (S4 ρ 6) (row' i)=some (row i)

def obV(ρ:Nat->Option Nat)(H:Y1)(lk:Lk)(o:Option Ob):Prop:=
 match o with
 |none=>True
 |some ob'=>match lk with
  | .no| .nilC .. | .nilS .. | .fam _| .at_ _| .frz _| .cel .. | .vl .. | .fav .. | .fac .. =>False
  | .box m=>match Z0 H m,ob' with
   |some (.arr _ _ sz n row),.arr cl' _ sz' n' row'=>match Nat.beq sz sz'&&(row' 0).all J7&&(!cl'||(row' 0).all W5) with
    |true=>n=1/\n'=1/\rE.tlesV (rE ρ 6) (row 0) (row' 0)
    |false=>False
   |_,_=>False
  | .arr m=>match Z0 H m,ob' with
   |some (.bys _ l),.bys _ l'=>l=l'
   |some (.arr true _ sz n row),.arr true _ sz' n' row'=>match Nat.beq sz sz' with
    |true=>n=n'/\Z6 n row row'
    |false=>False
   |some (.fam v _ sz n row),.fam v' _ sz' n' row'=>match Nat.beq sz sz' with
    |true=>v=v'/\n=n'/\T9 n row row'
    |false=>False
   |some (.mp bo get),.mp bo' get'=>match bo==bo' with
    |true=>∀n,get n=get' n
    |false=>False
   |some (.mp2 get),.mp2 get'=>∀a b,get a b=get' a b
   |_,_=>False
  | .ren m=>match Z0 H m,ob' with
   |some (.arr _ _ sz n row),.arr false _ sz' n' row'=>match Nat.beq sz sz' with
    |true=>n=n'/\yC ρ n row row'
    |false=>False
   |_,_=>False

def a3L(ρ:Nat->Option Nat)(s:V5):V5->Prop
 | []=>True
 |(j,t)::r=>rE ρ 6 (j7 s j) t/\a3L ρ s r

def a5Y(ρ:Nat->Option Nat)(H:Y1):List Lk->Y1->Prop
 | [],[]=>True
 |lk::l,o::r=>obV ρ H lk o/\a5Y ρ H l r
 |_,_=>False

def idB:Nat->Nat->List (Option Nat)->Bool
 |0,_,_=>true
 |m+1,i,some k::r=>Nat.beq i k&&idB m (i+1) r
 |_+1,_,_=>false

def gQ(m:Nat)(l:List Lk)(σ σ':Sy):Prop:=
 match a84 σ l with
 |some σ=>match a0o (a3d (k7 (gX σ.s σ.H (aZ l))) σ'.H)&&idB m 0 (k7 (gX σ.s σ.H (aZ l))) with
  |true=>a3L (q9 (k7 (gX σ.s σ.H (aZ l)))) σ.s σ'.s/\a5Y (q9 (k7 (gX σ.s σ.H (aZ l)))) σ.H (gX σ.s σ.H (aZ l)) σ'.H
  |false=>False
 |none=>False

def a2w(m:Nat)(l:Option (List Lk))(σ σ':Sy):Prop:=
 match l with
 |some l=>gQ m l σ σ'
 |none=>False

def frz(H:Y1)(s:V5):List Nat->Option (V5×Option Prop)
 | []=>some ([],none)
 |i::r=>match N3 0 H 6 (j7 s i),frz H s r with
  |some (t,p),some (q,p')=>some ((i,t)::q,qP p p')
  |_,_=>none

inductive Ann:Type 1
 |none
 |unr (n:Nat) (sub:Nat->Nat->Ann)
 |one (ι:Type) (I:ι->Sy) (μ:ι->Nat) (lin lback:List Lk) (sub:ι->Nat->Ann)
 |onef (ks:List Nat) (ι:Type) (I:ι->Sy) (μ:ι->Nat) (lback:List Lk) (sub:ι->Nat->Ann)
 |two (ι₁ ι₂:Type) (I₁:ι₁->Sy) (I₂:ι₂->Sy) (μ₁:ι₁->Nat) (μ₂:ι₂->Nat) (l1 l2 l11 l12 l21 l22:Option (List Lk)) (sub₁:ι₁->Nat->Ann) (sub₂:ι₂->Nat->Ann)

def uB:Code->Nat
 | .seq a b=>uB a+uB b
 | .cond _ a b=>uB a+uB b
 | .block _ b=>uB b
 | .loop b=>uB b+1
 |_=>0

def a5O(step:Nat->(Sy->Prop)->Sy->Prop):Nat->Sy->Prop
 |0,_=>False
 |n+1,σ=>step n (a5O step n) σ

def gP(P:Program)(G:I2)(nt m0:Nat):Code->Nat->(Exit->Sy->(Nat->Ann)->Prop)->Sy->(Nat->Ann)->Prop
 | .skip,_,Q,σ,A=>Q .normal σ A
 | .region _ ops draw,_,Q,σ,A=>match draw with
  |false=>xB P G nt ops ops.toList σ.s [] σ.H λs H=>Q .normal ⟨s,H⟩ A
  |true=>xG P G nt ops σ.H.length (iB σ.H (yX (G6 G) ops.toList)) ops.toList 0 [] [] σ.s [] [] λs H=>Q .normal ⟨s,H⟩ A
 | .seq a b,k,Q,σ,A=>gP P G nt m0 a k (λe σ' A'=>match e with| .normal=>gP P G nt m0 b (k+uB a) Q σ' A'|e=>Q e σ' A') σ A
 | .cond c x y,k,Q,σ,A=>match M7 σ.s c with
  | .bool b=>(b=true->gP P G nt m0 x k Q σ A)/\(b=false->gP P G nt m0 y (k+uB x) Q σ A)
  |_=>False
 | .block id body,k,Q,σ,A=>gP P G nt m0 body k (λe σ' A'=>match e with| .exit i=>(match Nat.beq i id with|true=>Q .normal σ' A'|false=>Q (.exit i) σ' A')|e=>Q e σ' A') σ A
 | .loop body,k,Q,σ,A=>match A k with
  | .none=>False
  | .unr n sub=>a5O (λm next σ'=>gP P G nt m0 body (k+1) (λe σ'' A'=>match e with| .normal=>next σ''|e=>Q e σ'' A') σ' (sub m)) n σ
  | .one ι I μ lin lback sub=>(∃x,gQ m0 (b28 σ.s lin) σ (I x))/\∀x:ι,gP P G nt m0 body (k+1) (λe σ' A'=>match e with| .normal=>∃y,gQ m0 (b28 σ'.s lback) σ' (I y)/\Lt (μ y) (μ x)|e=>Q e σ' A') (I x) (sub x)
  | .onef ks ι I μ lback sub=>(match m0,frz σ.H σ.s ks with
   |0,some (s',p)=>iM p (∃x,gQ 0 [] ⟨s',[]⟩ (I x))
   |_,_=>False)/\∀x:ι,gP P G nt m0 body (k+1) (λe σ' A'=>match e with| .normal=>∃y,gQ m0 (b28 σ'.s lback) σ' (I y)/\Lt (μ y) (μ x)|e=>Q e σ' A') (I x) (sub x)
  | .two ι₁ ι₂ I₁ I₂ μ₁ μ₂ l1 l2 l11 l12 l21 l22 sub₁ sub₂=>
   ((∃x,a2w m0 l1 σ (I₁ x))∨(∃x,a2w m0 l2 σ (I₂ x)))/\
   (∀x:ι₁,gP P G nt m0 body (k+1) (λe σ' A'=>match e with| .normal=>(∃y,a2w m0 l11 σ' (I₁ y)/\Lt (μ₁ y) (μ₁ x))∨(∃y,a2w m0 l12 σ' (I₂ y)/\Lt (μ₂ y) (μ₁ x))|e=>Q e σ' A') (I₁ x) (sub₁ x))/\
   (∀x:ι₂,gP P G nt m0 body (k+1) (λe σ' A'=>match e with| .normal=>(∃y,a2w m0 l21 σ' (I₁ y)/\Lt (μ₁ y) (μ₂ x))∨(∃y,a2w m0 l22 σ' (I₂ y)/\Lt (μ₂ y) (μ₂ x))|e=>Q e σ' A') (I₂ x) (sub₂ x))
 | .exit id,_,Q,σ,A=>Q (.exit id) σ A
 | .ret,_,Q,σ,A=>Q .ret σ A
 |_,_,_,_,_=>False

section
variable {P:Program} {G:I2} {nt m:Nat}

theorem b3g{ρ:Nat->Option Nat}{d:Nat}:∀{as bs:List T},rE.tlesV (rE ρ d) as bs->as.length=bs.length/\∀(j:Nat) (a b:T),as[j]? =some a->bs[j]? =some b->L4 ρ a b:=by
 intro as;induction as with
 |nil=>
  intro bs h;cases bs with
  |nil=>exact⟨rfl,λj a b ha=>by simp at ha⟩
  |cons=>exact h.elim
 |cons a as ih=>
  intro bs h;cases bs with
  |nil=>exact h.elim
  |cons b bs=>
   obtain⟨h1,h2⟩:=ih h.2;refine⟨by simp[h1],λj x z hx hz=> ?_⟩
   cases j with
   |zero=>simp at hx hz;subst hx;subst hz;exact rG h.1
   |succ j=>exact h2 j x z (by simpa using hx) (by simpa using hz)

theorem b73{ρ:Nat->Option Nat}{H:Y1}{lk:Lk}{ob':Ob}(h:obV ρ H lk (some ob')):∃m ob,lk.old=some m/\Z0 H m=some ob/\OLe ρ ob ob':=by
 unfold obV at h;split at h
 ·rename_i hn;cases hn
 ·rename_i ob hob;simp only[W8] at hob;subst hob;split at h
  iterate 10 exact h.elim
  ·split at h
   ·rename_i m _ _ cl ty sz n row cl' ty' sz' n' row' hm;split at h
    ·rename_i hb;simp only[L3,pP,xP] at hb;obtain⟨⟨hb1,hb2⟩,hb3⟩:=hb;obtain⟨rfl,rfl,h⟩:=h;obtain rfl:=G3 hb1;obtain⟨e1,e2⟩:=b3g h;exact⟨m,_,rfl,hm,.box cl cl' ty ty' sz row row' (λt ht=>i5.1 hb2 t ht) (λhc t ht=>i5.1 (hb3.resolve_left (by simp[hc])) t ht) e1 e2⟩
    ·exact h.elim
   ·exact h.elim
  ·split at h
   ·rename_i m _ _ ty l ty' l' hm;subst h;exact⟨m,_,rfl,hm,.bys _ _ _⟩
   ·rename_i m _ _ ty sz n row ty' sz' n' row' hm;split at h
    ·rename_i hb;obtain⟨rfl,h⟩:=h;obtain rfl:=G3 hb;exact⟨m,_,rfl,hm,.same _ _ _ _ _ _ h⟩
    ·exact h.elim
   ·rename_i m _ _ v ty sz n row v' ty' sz' n' row' hm;split at h
    ·rename_i hb;obtain⟨rfl,rfl,h⟩:=h;obtain rfl:=G3 hb;exact⟨m,_,rfl,hm,.fam _ _ _ _ _ _ _ h⟩
    ·exact h.elim
   ·rename_i m _ _ bo get bo' get' hm;split at h
    ·rename_i hb;obtain rfl:bo=bo':=by simpa using hb
     exact⟨m,_,rfl,hm,.mp _ _ _ h⟩
    ·exact h.elim
   ·rename_i m _ _ get get' hm;exact⟨m,_,rfl,hm,.mp2 _ _ h⟩
   ·exact h.elim
  ·split at h
   ·rename_i m _ _ cl ty sz n row ty' sz' n' row' hm;split at h
    ·rename_i hb;obtain⟨rfl,h⟩:=h;obtain rfl:=G3 hb;exact⟨m,_,rfl,hm,.ren _ _ _ _ _ _ _ _ (λhc=>by cases hc) h⟩
    ·exact h.elim
   ·exact h.elim

theorem a1z{ρ:Nat->Option Nat}{H:Y1}:∀{l:List Lk} {H':Y1},a5Y ρ H l H'->(k7 l).length=H'.length/\∀k ob',Z0 H' k=some ob'->∃m ob,q9 (k7 l) k=some m/\Z0 H m=some ob/\OLe ρ ob ob':=by
 intro l;induction l with
 |nil=>
  intro H' h;cases H' with
  |nil=>exact⟨rfl,λk ob' hk=>by simp[Z0] at hk⟩
  |cons=>exact h.elim
 |cons lk l ih=>
  intro H' h;cases H' with
  |nil=>exact h.elim
  |cons o H'=>
   obtain⟨h1,h2⟩:=ih h.2;refine⟨by simp[k7,h1],λk ob' hk=> ?_⟩
   cases k with
   |zero=>
    have:o=some ob':=by simpa[Z0] using hk
    subst this;exact b73 h.1
   |succ k=>exact h2 k ob' (by simpa[Z0] using hk)

theorem a9y{ρ:Nat->Option Nat}{s:V5}:∀{s':V5},a3L ρ s s'->∀p ∈ s',L4 ρ (j7 s p.1) p.2:=by
 intro s';induction s' with
 |nil=>intro _ p hp;cases hp
 |cons x s' ih=>
  intro h p hp;obtain⟨j,t⟩:=x;rcases wY.1 hp with rfl|hp
  ·exact rG h.1
  ·exact ih h.2 p hp

theorem b98:∀{m i:Nat} {l:List (Option Nat)},idB m i l=true->∀k,k<m->q9 l k=some (i+k):=by
 intro m;induction m with
 |zero=>intro i l _ k hk;omega
 |succ m ih=>
  intro i l h k hk;cases l with
  |nil=>simp[idB] at h
  |cons x l=>
   cases x with
   |none=>simp[idB] at h
   |some x=>
    simp only[idB,L3] at h;cases k with
    |zero=>simp only[q9];rw[←G3 h.1];rfl
    |succ k=>
     simp only[q9];rw[ih h.2 k (by omega)]
     congr 1
     omega

theorem fC{c:Ctx}{E:Env}{H:Y1}{w:World}(h:Inv c E H w)(ty:TypeId)(sz:Nat):Inv c (E.push H.length 0 0 sz) (H++[some (.arr true ty sz 0 λ_=>[])]) w/\Step E w (E.push H.length 0 0 sz) w:=
 h.push (ob:=.arr true ty sz 0 λ_=>[]) rfl rfl rfl (W4 _) (λ_ _=>rfl) 0 0 #[] 0 (λh=>absurd rfl h) (λh=>absurd rfl h) (by simp) (W4 0) (λi hi=>absurd hi (J5 _)) (λi t hi=>absurd hi (J5 _)) (λ_ i t hi=>absurd hi (J5 _)) (λi j t hi=>absurd hi (J5 _))

theorem b4q{o:Option T}(h:b7z o=true):∃t,o=some t/\∀{E:Env} {w:World} {u:Value},Rd E w t u->∃a,u= .slice a 0 0:=by
 unfold b7z at h;split at h
 ·exact⟨_,rfl,λhx=>⟨none,wC hx⟩⟩
 ·exact⟨_,rfl,λhx=>by cases hx with|emp a=>exact⟨a,rfl⟩⟩
 ·cases h

theorem a7O{E:Env}{w:World}{k sz:Nat}(hst:Step E w (E.push k 0 0 sz) w):∀(p:List Nat) {t t':T} {x:Value},wA k p t=some t'->Rd E w t x->Rd (E.push k 0 0 sz) w t' x:=by
 intro p;induction p with
 |nil=>
  intro t t' x h hx;have key:(∃a,x= .slice a 0 0)/\t'= .osl k 0 0:=by
   unfold wA at h;split at h
   ·simp only[W8] at h;exact⟨⟨none,wC hx⟩,h.symm⟩
   ·simp only[W8] at h;exact⟨by cases hx with|emp a=>exact⟨a,rfl⟩,h.symm⟩
   ·contradiction
   ·contradiction
   ·cases h
  obtain⟨⟨a,rfl⟩,rfl⟩:=key;exact a4c a
 |cons j p ih=>
  intro t t' x h hx;have list:∀{cs:List T} {vs:Array Value} {t0 t1:T},cs[j]? =some t0->wA k p t0=some t1->cs.length=vs.size->(∀(i:Nat) (t:T) (x:Value),cs[i]? =some t->vs[i]? =some x->Rd E w t x)->
    (cs.set j t1).length=vs.size/\∀(i:Nat) (t:T) (x:Value),(cs.set j t1)[i]? =some t->vs[i]? =some x->Rd (E.push k 0 0 sz) w t x:=by
   intro cs vs t0 t1 h0 h1 hl ht;refine⟨by simp[hl],λi t x hi hx=> ?_⟩
   rw[List.getElem?_set] at hi
   split at hi
   ·rename_i hji;subst hji;split at hi
    ·simp only[W8] at hi;subst hi;exact ih h1 (ht j t0 x h0 hx)
    ·cases hi
   ·exact hst.rd (ht i t x hi hx)
  cases t with
  |agg cs=>
   simp only[wA] at h;split at h
   ·rename_i t0 h0;simp only[I3] at h;obtain⟨t1,h1,rfl⟩:=h;cases hx with
    |agg _ vs hl ht=>obtain⟨a1,a2⟩:=list h0 h1 hl ht;exact .agg _ vs a1 a2
   ·cases h
  |tup cs=>
   simp only[wA] at h;split at h
   ·rename_i t0 h0;simp only[I3] at h;obtain⟨t1,h1,rfl⟩:=h;cases hx with
    |tup _ vs hl ht=>obtain⟨a1,a2⟩:=list h0 h1 hl ht;exact .tup _ vs a1 a2
   ·cases h
  |_=>simp[wA] at h

theorem c16{c:Ctx}{E:Env}{H:Y1}{w:World}(h:Inv c E H w){ks:List Nat}{t r:T}{x:Value}(hb:N3 0 (K3 ks H 0) 6 t=some (r,none))(hx:Rd E w t x):
  ∃E2,Inv c E2 (H6 H ks) w/\Step E w E2 w/\Rd E2 w r x:=by
 have hK:Inv c E (K3 ks H 0) w:=by
  refine⟨⟨λk ob hk=>h.heap.live k ob (O8 hk).1,λk k' o o' b hk hk'=>h.heap.inj k k' o o' b (O8 hk).1 (O8 hk').1,λk hk=>by rw[uP];exact h.heap.lt k hk,h.heap.l2,λk ob v hk=>h.heap.cur k ob v (O8 hk).1⟩,h.nlt,h.nnew,λk ob b hk=>h.bnew k ob b (O8 hk).1,h.fr,h.keep⟩
 have hr:=y5 hK 6 hb trivial hx;let E2:Env:={E with N:=(E.lent 0 (K3 ks H 0)).N}
 have hstep:Step E w E2 w:=⟨⟨λb hb=>.inl hb,λ_ h=>h,λ_ _=>rfl,λ_ _=>rfl,λ_ _=>rfl,λ_ _ h=>h,λ_ _ _ _ _=>rfl,λ_ _ _ _ _=>rfl⟩,λb _=>rfl,λ_ h=>.inl h⟩
 refine⟨E2,⟨⟨λk ob hk=> ?_,λk k' o o' b hk hk'=>h.heap.inj k k' o o' b (N9 hk).1 (N9 hk').1,λk hk=>by rw[J3];exact h.heap.lt k hk,h.heap.l2,λk ob v hk=>h.heap.cur k ob v (N9 hk).1⟩,λb hb'=> ?_,λb hb'=> ?_,λk ob b hk=>h.bnew k ob b (N9 hk).1,h.fr,h.keep.step hstep⟩,hstep,?_⟩
 ·obtain⟨g1,g2⟩:=N9 hk;obtain⟨e1,e2,e3⟩:=h.heap.live k ob g1;refine⟨e1,e2.mono e1 hstep (λb hb'=>rfl),λb hb' hn=> ?_⟩
  have hb':E6 E k ob b:=hb';rcases hn with hn|⟨k2,ob2,_,hk2,hb2⟩
  ·exact e3 b hb' hn
  ·obtain⟨g3,g4⟩:=O8 hk2;have:=h.heap.inj k k2 ob ob2 b g1 g3 hb' hb2;rw[G9] at g4;exact g2 (this▸g4)
 ·rcases hb' with hb'|⟨k2,ob2,_,hk2,hb2⟩
  ·exact h.nlt b hb'
  ·exact hK.heap.blt hk2 hb2
 ·rcases hb' with hn|⟨k2,ob2,_,hk2,hb2⟩
  ·exact h.nnew b hn
  ·exact .inr (h.bnew k2 ob2 b (O8 hk2).1 hb2)
 ·exact Rd.mono (w:=w) (w':=w) (E:=E.lent 0 (K3 ks H 0)) (E':=E2) ⟨λ_ h=>h,λ_ h=>absurd h.2 (J5 _),λ_ h=>absurd h.2 (J5 _),λ_ h=>absurd h.2 (J5 _),λ_ h=>absurd h.2 (J5 _),λ_ _ h=>absurd h.2 (J5 _),λ_ _ _ _ h=>absurd h.2 (J5 _),λ_ _ _ _ h=>absurd h.2 (J5 _)⟩ (λ_ _=>rfl) hr

theorem b1K{σ σ':Sy}{x:Lk}(h:b2U σ x=some σ'):Sub m σ σ':=by
 intro c a w _ hr;obtain⟨E,hr⟩:=hr;unfold b2U at h;split at h
 ·rename_i k j ty sz;split at h
  case h_2=>cases h
  rename_i cl bty bsz n row hk;split at h
  case h_2=>cases h
  rename_i hnj hsz;obtain⟨tj,hj,htj⟩:=b4q hnj;simp only[W8] at h;subst h;obtain⟨hI,hst⟩:=fC hr.inv ty sz;have hk1:Z0 (σ.H++[some (Ob.arr true ty sz 0 λ_=>[])]) k=some (.arr cl bty bsz 1 row):=by rw[v9,if_pos (J2 hk)];exact hk
  obtain⟨hL,hO,hN⟩:=hI.heap.live k _ hk1;have hO:S9 _ w k ⟨cl,bty,bsz,1,row⟩:=hO;obtain⟨e1,e2,e3,e4,e5,cs,tyc,e6,e7,e8⟩:=hO;have hW:=hI.writeO (w':=w) hk1 rfl rfl rfl (W4 _) (λ_ _ _=>rfl) (.arr false bty bsz 1 λ_=>(row 0).set j (.osl σ.H.length 0 0)) (λb hb=>.inl (hb.arr rfl)) (λv hv=>absurd hv (hI.noL2 hk1 rfl v)) (λhs=>by
   refine⟨e1,e2,λi hi=> ?_,λi t hi ht=> ?_,λhc=>(by cases hc),cs,tyc,e6,e7,λi q t hi hq=> ?_⟩
   ·exact(B1 ..).trans (e3 0 (Nat.lt_succ_self 0))
   ·rcases List.mem_or_eq_of_mem_set ht with h1|rfl
    ·exact e4 0 t (by simp) h1
    ·rfl
   ·obtain rfl:i=0:=by have:i<1:=hi;omega
    have hq2:((row 0).set j (T.osl σ.H.length 0 0))[q]? =some t:=hq;rw[List.getElem?_set] at hq2
    split at hq2
    ·rename_i hjq;subst hjq;split at hq2
     ·simp only[W8] at hq2;subst hq2;obtain⟨u,hu,hru⟩:=e8 0 j _ (by simp) hj
      refine⟨u,hu,?_⟩
      obtain⟨a,rfl⟩:=htj hru;exact a4c a
     ·cases hq2
    ·exact e8 0 q t (by simp) hq2)
  exact⟨_,hr.defers,hr.size,⟨λi hi=>hst.rd (hr.slots.on i hi),hr.slots.off⟩,hW.1⟩
 ·rename_i i p ty sz;split at h
  case h_2=>cases h
  rename_i t hs hsz;simp only[W8] at h;subst h;obtain⟨hI,hst⟩:=fC hr.inv ty sz;refine⟨_,hr.defers,hr.size,⟨λq hq=> ?_,λq hq=>absurd (λq hq=>by cases hq) hq⟩,hI⟩
  simp only[j7];split
  ·rename_i he;obtain rfl:=G3 he;have:=hr.slots.on q (λq hq=>by cases hq)
   exact a7O hst _ hs this
  ·exact hst.rd (hr.slots.on q (λq hq=>by cases hq))
 ·rename_i k;split at h
  case h_2=>cases h
  rename_i ty sz n row hk;simp only[W8] at h;subst h;have hI:=hr.inv;have hn2:¬E.L2 k 0:=hI.noL2 hk rfl 0;let E':=E.bump k 0 (λ_ _=>0) (λ_ _=>0)
  have hst:Step E w E' w:=⟨Env.bump_le hn2,λ_ _=>rfl,λ_ h=>.inl h⟩
  obtain⟨hL,hO,hN⟩:=hI.heap.live k _ hk;have hO:S9 E w k ⟨true,ty,sz,n,row⟩:=hO;obtain⟨e1,e2,e3,e4,e5,cs,tyc,e6,e7,e8⟩:=hO;simp only at e1 e2 e3 e4 e5 e7 e8;have hco:∀i t,i<n->t ∈ row i->closedOne t=true:=λi t hi ht=>by simp[closedOne,e4 i t hi ht,e5 trivial i t hi ht]
  have nown:∀(i j:Nat) (oty:TypeId) (osz on:Nat) (orow:Nat->List T),i<n->(row i)[j]? =some (.own oty osz on orow)->False:=λi j oty osz on orow hi hj=>by
   have:=hco i _ hi (B5 hj);simp[closedOne,W5] at this
  have hF:FamOk E' w k 0 ty sz n row:=s9 (.inr ⟨rfl,rfl⟩) e1 e2 cs tyc e6 e7 e3 (λr q t hr hq=>by
   obtain⟨u,hu,hru⟩:=e8 r q t hr hq;exact⟨u,hu,.inl ⟨hco r t hr (B5 hq),hst.rd hru⟩⟩) (λi j i' j' oty osz on orow oty' osz' on' orow' hi hi' hj=>(nown i j _ _ _ _ hi hj).elim)
  have hklt:=J2 hk;refine⟨E',hr.defers,hr.size,⟨λi hi=>hst.rd (hr.slots.on i hi),hr.slots.off⟩,hI.to rfl rfl rfl (W4 _) hst k (λi=>i=k) (λ_ h=>h) (λi o hi hne=> ?_) (λo ho=> ?_) (λ_ _ _=>rfl) (λi hi=>by rw[B1];exact hI.heap.lt i hi) (λi u hu=> ?_) (λo i u hi hu=> ?_)⟩
  ·rw[U0 hklt,if_neg hne] at hi;exact⟨hi,hne⟩
  ·rw[U0 hklt,if_pos rfl] at ho;simp only[W8] at ho;subst ho;refine⟨hL,hF,λb hb=>.inr ⟨k,_,rfl,hk,?_⟩⟩
   rcases hb with hb|⟨v0,ty0,sz0,n0,V7,i0,j0,oty1,osz1,on1,orow1,hobe,hi0,hj0,hc0,rfl⟩
   ·exact .inl hb
   ·simp only[Ob.fam.injEq] at hobe;obtain⟨rfl,rfl,rfl,rfl,rfl⟩:=hobe;exact(nown _ _ _ _ _ _ hi0 hj0).elim
  ·rcases hu with hu|⟨rfl,_⟩
   ·exact hI.heap.l2 _ _ hu
   ·exact hL
  ·rw[U0 hklt] at hi;split at hi
   ·rename_i he;subst he;simp only[W8] at hi;subst hi;refine⟨_,_,_,_,_,rfl,?_⟩
    rcases hu with hu|⟨_,rfl⟩
    ·exact absurd hu (hI.noL2 hk rfl u)
    ·exact W4 _
   ·rename_i hne;rcases hu with hu|⟨e,_⟩
    ·exact hI.heap.cur _ _ _ hi hu
    ·exact absurd e hne
 ·rename_i i;split at h
  case h_2=>cases h
  rename_i t hb;simp only[W8] at h;subst h;obtain⟨E2,hI,hst,hrd⟩:=c16 hr.inv hb (hr.slots.on i (λq hq=>by cases hq))
  refine⟨E2,hr.defers,hr.size,⟨λq hq=> ?_,λq hq=>absurd (λq hq=>by cases hq) hq⟩,hI⟩
  simp only[j7];split
  ·rename_i he;obtain rfl:=G3 he;exact hrd
  ·exact hst.rd (hr.slots.on q (λq hq=>by cases hq))
 ·simp only[W8] at h;subst h;exact⟨E,hr⟩

theorem b6i:∀{l:List Lk} {σ σ':Sy},a84 σ l=some σ'->Sub m σ σ':=by
 intro l;induction l with
 |nil=>intro σ σ' h;simp only[a84,W8] at h;subst h;exact Sub.refl m σ
 |cons x l ih=>
  intro σ σ' h;simp only[a84] at h;split at h
  ·rename_i σ1 h1;exact λc a w hm hr=>ih h c a w hm (b1K (m:=m) (x:=c0T _ _) h1 c a w hm hr)
  ·cases h

theorem vI{l:List Lk}{σ σ':Sy}(h:gQ m l σ σ'):Sub m σ σ':=by
 unfold gQ at h;split at h
 ·rename_i σ1 hg;split at h
  ·rename_i hi;simp only[L3] at hi;obtain⟨h1,h2⟩:=a1z h.2;intro c a w hm hr;exact b2E (ρ:=q9 (k7 (gX σ1.s σ1.H (aZ l)))) (λk m hk=>by rw[←h1];exact b8b hk) (b3W hi.1) (a9y h.1) h2 (λk hk=>by rw[b98 hi.2 k (by omega)];simp) (b6i (m:=m) hg c a w hm hr)
  ·exact h.elim
 ·exact h.elim

theorem b1z{c:Ctx}{E:Env}{H:Y1}{w:World}(hc0:c.m=0)(h:Inv c E H w):Inv c (E.lent 0 H) [] w:=by
 have hn:∀k ob,¬Z0 ([]:Y1) k=some ob:=λk ob hk=>by simp[Z0] at hk
 refine⟨⟨λk ob hk=>absurd hk (hn k ob),λk k' o o' b hk _ _ _=>absurd hk (hn k o),λk hk=>absurd hk.2 (J5 k),λk v hv=>absurd hv.2 (J5 k),λk ob v hk=>absurd hk (hn k ob)⟩,λx hx=> ?_,λx hx=> ?_,λk ob b hk=>absurd hk (hn k ob),h.fr,⟨λb hb=>.inl (h.keep.N b hb),λk hk=>by omega,h.keep.same,λk v hk=>by omega⟩⟩
 ·rcases hx with hx|⟨k,ob,_,hob,hx⟩
  ·exact h.nlt x hx
  ·exact h.heap.blt hob hx
 ·rcases hx with hx|⟨k,ob,hkb,hob,hx⟩
  ·exact h.nnew x hx
  ·exact .inr (h.bnew k ob x hob hx)
theorem b5z{H:Y1}{s:V5}:∀{ks:List Nat} {s':V5} {p:Option Prop},frz H s ks=some (s',p)->p.getD True->∀i,j7 s' i= .und∨∃q,N3 0 H 6 (j7 s i)=some (j7 s' i,q)/\q.getD True:=by
 intro ks;induction ks with
 |nil=>
  intro s' p h _ i;simp only[frz,W8,T5] at h;obtain⟨rfl,_⟩:=h;exact .inl rfl
 |cons j r ih=>
  intro s' p h hp i;simp only[frz] at h;split at h
  ·rename_i t q1 q p' h1 h2;simp only[W8,T5] at h;obtain⟨rfl,rfl⟩:=h;obtain⟨hp1,hp2⟩:=zI hp;simp only[j7];split
   ·rename_i he;obtain rfl:=G3 he;exact .inr ⟨_,h1,hp1⟩
   ·exact ih h2 hp2 i
  ·cases h
theorem b9r{σ:Sy}{ks:List Nat}{s':V5}{p:Option Prop}(h:frz σ.H σ.s ks=some (s',p))(hp:p.getD True):Sub 0 σ ⟨s',[]⟩:=by
 intro c a w hc hr;obtain⟨E,hr⟩:=hr;refine⟨E.lent 0 σ.H,hr.defers,hr.size,⟨λi _=> ?_,λi hx=>absurd (λq hq=>by cases hq) hx⟩,b1z hc hr.inv⟩
 rcases b5z h hp i with hi|⟨q,hi,hq⟩
 ·show Rd _ w (j7 s' i) _;rw[hi];exact .und _
 ·exact y5 hr.inv 6 hi hq (hr.slots.on i (λq hq=>by cases hq))
theorem tE{l:Option (List Lk)}{σ σ':Sy}(h:a2w m l σ σ'):Sub m σ σ':=by
 unfold a2w at h;split at h
 ·exact vI h
 ·exact h.elim

theorem zR{s:V5}{op:Op}{k k':I2->Prop}(hk:∀G',k G'->k' G')(h:lG G s op k):lG G s op k':=by
 unfold lG at h ⊢;split at h
 ·exact hk _ h
 ·split at h
  ·obtain⟨x,hx⟩:=h;exact⟨x,hk _ hx⟩
  ·obtain⟨x,hx⟩:=h;exact⟨x,hk _ hx⟩
  ·obtain⟨x,hx⟩:=h;exact⟨x,hk _ hx⟩
  ·obtain⟨x,hx⟩:=h;exact⟨x,hk _ hx⟩
  ·exact hk _ h

theorem iG{s:V5}:∀{p:G8} {q q':Prop},(q->q')->E5 s p q->E5 s p q':=by
 intro p;induction p with
 |nil=>intro q q' hq h;exact hq h
 |cons x p ih=>
  intro q q' hq h;obtain⟨t,b⟩:=x;simp only[E5] at h ⊢;split at h
  ·exact ih (λh he=>hq (h he)) h
  ·exact h.elim

theorem a33{all:Array Oper}{K K':V5->Y1->Prop}(hK:∀s H,K s H->K' s H):∀(rest:List Oper) (s:V5) (ps:C5) (H:Y1),xB P G nt all rest s ps H K->xB P G nt all rest s ps H K':=by
 intro rest;induction rest with
 |nil=>intro s ps H h;exact hK _ _ h
 |cons o rest ih=>
  intro s ps H h;have andp:∀{p:G8} {side:Option Prop} {q q':Prop},(q->q')->nB s p side q->nB s p side q':=by
   intro p side q q' hq h;cases side with
   |none=>exact hq h
   |some r=>exact⟨h.1,hq h.2⟩
  unfold xB at h ⊢;split at h
  ·split at h
   ·exact h.elim
   ·split at h
    ·exact λb hb=>ih _ _ _ (h b hb)
    ·refine zR (λG' h=> ?_) h
     split at h
     ·exact andp (ih _ _ _) h
     ·exact h.elim
  ·split at h
   ·split at h
    ·split at h
     ·exact h.elim
     ·split at h
      ·refine zR (λG' h=> ?_) h
       split at h
       ·exact andp (ih _ _ _) h
       ·exact h.elim
      ·split at h
       ·exact h.elim
       ·refine zR (λG' h=> ?_) h
        split at h
        ·exact andp (λh=>⟨iG (ih _ _ _) h.1,λhn=>ih _ _ _ (h.2 hn)⟩) h
        ·exact h.elim
    ·exact h.elim
   ·exact h.elim

theorem a4E{all:Array Oper}{b:Nat}{H0:Y1}{K K':V5->Y1->Prop}(hK:∀s H,K s H->K' s H):∀(rest:List Oper) (i:Nat) (earlier:List (Nat×Oper×RW)) (tab:List Nat) (s:V5) (ps:C5) (hist:List (Nat×Y1)),
  xG P G nt all b H0 rest i earlier tab s ps hist K->xG P G nt all b H0 rest i earlier tab s ps hist K':=by
 intro rest;induction rest with
 |nil=>intro i earlier tab s ps hist h;exact hK _ _ h
 |cons o rest ih=>
  intro i earlier tab s ps hist h;have andp:∀{p:G8} {side:Option Prop} {q q':Prop},(q->q')->nB s p side q->nB s p side q':=by
   intro p side q q' hq h;cases side with
   |none=>exact hq h
   |some r=>exact⟨h.1,hq h.2⟩
  unfold xG at h ⊢;split at h
  ·exact h.elim
  ·split at h
   ·split at h
    ·exact h.elim
    ·split at h
     ·split at h
      ·exact andp (ih _ _ _ _ _ _) h
      ·exact h.elim
     ·split at h
      ·refine zR (λG' h=> ?_) h
       split at h
       ·exact andp (ih _ _ _ _ _ _) h
       ·exact h.elim
      ·refine zR (λG' h=> ?_) h
       split at h
       ·exact andp (ih _ _ _ _ _ _) h
       ·exact h.elim
   ·split at h
    ·split at h
     ·split at h
      ·exact h.elim
      ·refine zR (λG' h=> ?_) h
       split at h
       ·exact andp (ih _ _ _ _ _ _) h
       ·exact h.elim
     ·exact h.elim
    ·exact h.elim

theorem a4h:∀(code:Code) (k:Nat) (Q:Exit->Sy->(Nat->Ann)->Prop) (Q':Exit->Sy->Prop) (σ:Sy) (A:Nat->Ann),(∀e σ A,Q e σ A->Q' e σ)->gP P G nt m code k Q σ A->vc P G nt (Sub m) code Q' σ:=by
 intro code;induction code with
 |skip=>intro k Q Q' σ A hQ h;exact hQ _ _ _ h
 |region id ops draw=>
  intro k Q Q' σ A hQ h;simp only[gP,vc] at h ⊢;split at h
  ·exact a33 (λs H hk=>hQ _ _ _ hk) _ _ _ _ h
  ·exact a4E (λs H hk=>hQ _ _ _ hk) _ _ _ _ _ _ _ h
 |seq x y ihx ihy=>
  intro k Q Q' σ A hQ h;simp only[gP,vc] at h ⊢;refine ihx _ _ _ _ _ (λe σ' A' h'=> ?_) h
  cases e with
  |normal=>exact ihy _ _ _ _ _ hQ h'
  |_=>exact hQ _ _ _ h'
 |cond cd x y ihx ihy=>
  intro k Q Q' σ A hQ h;simp only[gP,vc] at h ⊢;split at h
  ·rename_i b hb0;rw[hb0];exact⟨λhb=>ihx _ _ _ _ _ hQ (h.1 hb),λhb=>ihy _ _ _ _ _ hQ (h.2 hb)⟩
  ·exact h.elim
 |block id body ih=>
  intro k Q Q' σ A hQ h;simp only[gP,vc] at h ⊢;refine ih _ _ _ _ _ (λe σ' A' h'=> ?_) h
  cases e with
  |exit i=>
   simp only at h' ⊢;split at h'
   ·rename_i hb0;rw[hb0];exact hQ _ _ _ h'
   ·rename_i hb0;rw[hb0];exact hQ _ _ _ h'
  |_=>exact hQ _ _ _ h'
 |loop body ih=>
  intro k Q Q' σ A hQ h;simp only[gP,vc] at h ⊢;split at h
  ·exact h.elim
  ·rename_i n sub hA;refine⟨{p:Nat×Sy//a5O (λr next σ'=>gP P G nt m body (k+1) (λe σ'' A'=>match e with| .normal=>next σ''|e=>Q e σ'' A') σ' (sub r)) p.1 p.2},λp=>p.1.2,λp=>p.1.1,⟨⟨(n,σ),h⟩,λc a w _ hr=>hr⟩,λx=> ?_⟩
   obtain⟨⟨j,τ⟩,hx⟩:=x;cases j with
   |zero=>exact hx.elim
   |succ j=>
    refine ih _ _ _ _ _ (λe σ' A' h'=> ?_) hx
    cases e with
    |normal=>exact⟨⟨(j,σ'),h'⟩,λc a w _ hr=>hr,Nat.lt_succ_self j⟩
    |_=>exact hQ _ _ _ h'
  ·rename_i ι I μ lin lback sub hA;obtain⟨⟨x0,h0⟩,hround⟩:=h;refine⟨ι,I,μ,⟨x0,vI h0⟩,λx=>ih _ _ _ _ _ (λe σ' A' h'=> ?_) (hround x)⟩
   cases e with
   |normal=>obtain⟨y,hy,hlt⟩:=h';exact⟨y,vI hy,hlt⟩
   |_=>exact hQ _ _ _ h'
  ·rename_i ks ι I μ lback sub hA;obtain⟨h0,hround⟩:=h;split at h0
   ·rename_i s' p hz;have h0':p.getD True/\∃x,gQ 0 [] ⟨s',[]⟩ (I x):=by
     cases p with
     |none=>exact⟨trivial,h0⟩
     |some p=>exact h0
    obtain⟨hp,x0,hx0⟩:=h0';refine⟨ι,I,μ,⟨x0,λc a w hc hr=>vI hx0 c a w hc (b9r hz hp c a w hc hr)⟩,λx=>ih _ _ _ _ _ (λe σ' A' h'=> ?_) (hround x)⟩
    cases e with
    |normal=>obtain⟨y,hy,hlt⟩:=h';exact⟨y,vI hy,hlt⟩
    |_=>exact hQ _ _ _ h'
   ·exact h0.elim
  ·rename_i ι₁ ι₂ I₁ I₂ μ₁ μ₂ l1 l2 l11 l12 l21 l22 sub₁ sub₂ hA;obtain⟨h0,h1,h2⟩:=h;refine⟨ι₁ ⊕ ι₂,λx=>match x with| .inl x=>I₁ x| .inr x=>I₂ x,λx=>match x with| .inl x=>μ₁ x| .inr x=>μ₂ x,?_,λx=> ?_⟩
   ·rcases h0 with⟨x,hx⟩|⟨x,hx⟩
    ·exact⟨.inl x,tE hx⟩
    ·exact⟨.inr x,tE hx⟩
   ·cases x with
    |inl x=>
     refine ih _ _ _ _ _ (λe σ' A' h'=> ?_) (h1 x)
     cases e with
     |normal=>
      rcases h' with⟨y,hy,hlt⟩|⟨y,hy,hlt⟩
      ·exact⟨.inl y,tE hy,hlt⟩
      ·exact⟨.inr y,tE hy,hlt⟩
     |_=>exact hQ _ _ _ h'
    |inr x=>
     refine ih _ _ _ _ _ (λe σ' A' h'=> ?_) (h2 x)
     cases e with
     |normal=>
      rcases h' with⟨y,hy,hlt⟩|⟨y,hy,hlt⟩
      ·exact⟨.inl y,tE hy,hlt⟩
      ·exact⟨.inr y,tE hy,hlt⟩
     |_=>exact hQ _ _ _ h'
 |exit id=>intro k Q Q' σ A hQ h;exact hQ _ _ _ h
 |ret=>intro k Q Q' σ A hQ h;exact hQ _ _ _ h
 |_=>intro k Q Q' σ A hQ h;simp[gP] at h

def c09(res r:T):Prop:=rE (λ_=>none) 6 r res

def c0i(P:Program)(G:I2)(nt:Nat)(rs:List ResultVar)(code:Code)(args:List T)(res:T)(A:Nat->Ann):Prop:=
 gP P G nt 0 code 0 (λe σ _=>b1i P rs (c09 res) e σ) ⟨sV 0 args,[]⟩ A

theorem c0N(hm:P.follows .mixedOrders=true)(hG:D0 P G)(hGc:∀x ∈ G,P4 P x.1){f:FuncId}{fn:Func}{code:Code}{args:List T}{res:T}(hf:P.funcs[f]? =some fn)(hb:fn.body=some code)(hnt:args.length<=fn.ntmps)
  (A:Nat->Ann) (h:c0i P G fn.ntmps fn.results.toList code args res A):U1 P f args res:=by
 refine b6G hm hG hGc hf hb hnt (a4h _ _ _ _ _ _ (λe σ A' hq=> ?_) h)
 have mono:∀{p:Option Prop} {q q':Prop},(q->q')->iM p q->iM p q':=by
  intro p q q' hq h;cases p with
  |none=>exact hq h
  |some p=>exact⟨h.1,hq h.2⟩
 unfold b1i at hq ⊢;split at hq
 ·split at hq
  ·split at hq
   ·exact mono (mono λh=>L4.rle (rG h)) hq
   ·exact hq.elim
  ·exact hq.elim
 ·split at hq
  ·split at hq
   ·exact mono (mono λh=>L4.rle (rG h)) hq
   ·exact hq.elim
  ·exact hq.elim
 ·exact hq.elim

end
end Go.SS
