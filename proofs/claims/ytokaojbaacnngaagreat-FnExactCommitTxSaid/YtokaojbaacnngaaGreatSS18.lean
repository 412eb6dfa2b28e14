/- A calculus of symbolic states: loops with what holds at their heads. -/
import Derived.Test.YtokaojbaacnngaaGreatSS17
namespace Go.SS
open Go.RowKit

inductive Lk where
 |no
 |box (m:Nat)
 |arr (m:Nat)
 |ren (m:Nat)
 |nilC (k j:Nat) (ty:TypeId) (sz:Nat)
 |nilS (i:Nat) (p:List Nat) (ty:TypeId) (sz:Nat)
 |fam (k:Nat)
 |at_ (j:Nat)
 |frz (i:Nat)
 |cel (k j:Nat)
 |vl (i:Nat) (p:List Nat)
 |fav (i:Nat) (p:List Nat)
 |fac (k j:Nat)

def c7i(s:X2):List Lk->List Lk
 | []=>[]
 | .at_ j::r=>(match z5 s j with| .osl k _ _=>.arr k| .ref k _ _=>.arr k|_=>.no)::c7i s r
 |x::r=>x::c7i s r

def d4P:Option T->Bool
 |some (.v (.slice none 0 0))=>true
 |some .emp=>true
 |_=>false

def a0C(k:Nat):List Nat->T->Option T
 | [],.v (.slice none 0 0)=>some (.osl k 0 0)
 | [],.emp=>some (.osl k 0 0)
 |j::p,.agg cs=>match cs[j]? with
  |some t=>(a0C k p t).map fun t'=>.agg (cs.set j t')
  |none=>none
 |j::p,.tup cs=>match cs[j]? with
  |some t=>(a0C k p t).map fun t'=>.tup (cs.set j t')
  |none=>none
 |_,_=>none

def c7u(σ:Sy):Lk->Option Sy
 | .nilC k j ty sz=>match Z4 σ.H k with
  |some (.arr _ bty bsz n row)=>match n,d4P ((row 0)[j]?),Nat.beq sz 0 with
   |1,true,false=>some ⟨σ.s,(σ.H++[some (Ob.arr true ty sz 0 fun _=>[])]).set k (some (.arr false bty bsz 1 fun _=>(row 0).set j (.osl σ.H.length 0 0)))⟩
   |_,_,_=>none
  |_=>none
 | .nilS i p ty sz=>match a0C σ.H.length p (z5 σ.s i),Nat.beq sz 0 with
  |some t,false=>some ⟨(i,t)::σ.s,σ.H++[some (.arr true ty sz 0 fun _=>[])]⟩
  |_,_=>none
 | .fam k=>match Z4 σ.H k with
  |some (.arr true ty sz n row)=>some ⟨σ.s,σ.H.set k (some (.fam 0 ty sz n row))⟩
  |_=>none
 | .frz i=>match Q3 0 (O2 (a4t σ.H 64 (a5u [z5 σ.s i]) []) σ.H 0) 6 (z5 σ.s i) with
  |some (t,none)=>some ⟨(i,t)::σ.s,L4 σ.H (a4t σ.H 64 (a5u [z5 σ.s i]) [])⟩
  |_=>none
 |_=>some σ

def b7R:List Nat->T->Option Nat
 | [],.osl k _ _=>some k
 |j::p,.agg cs=>match cs[j]? with
  |some t=>b7R p t
  |none=>none
 |j::p,.tup cs=>match cs[j]? with
  |some t=>b7R p t
  |none=>none
 |_,_=>none

def d3o(H:Y5)(k j:Nat):Option Nat:=
 match Z4 H k with
 |some (.arr _ _ _ _ row)=>match(row 0)[j]? with
  |some (.osl m _ _)=>some m
  |_=>none
 |_=>none

def d6d(σ:Sy):Lk->Lk
 | .fav i p=>match b7R p (z5 σ.s i) with
  |some k=>.fam k
  |none=>.no
 | .fac k j=>match d3o σ.H k j with
  |some k=>.fam k
  |none=>.no
 |x=>x

def d6q(σ:Sy)(x:Lk):Option Sy:=c7u σ (d6d σ x)

def c1r(σ:Sy):List Lk->Option Sy
 | []=>some σ
 |x::r=>match d6q σ x with
  |some σ'=>c1r σ' r
  |none=>none

def Lk.isG:Lk->Bool
 | .nilC .. | .nilS .. | .fam _| .frz _| .fav .. | .fac .. =>true
 |_=>false

def a8b:List Lk->List Lk
 | []=>[]
 |x::r=>match x.isG with
  |true=>a8b r
  |false=>x::a8b r

def c7S:Option Nat->Lk
 |some m=>.arr m
 |none=>.no

def a5z(s:X2)(H:Y5):List Lk->List Lk
 | []=>[]
 | .cel k j::r=>c7S (d3o H k j)::a5z s H r
 | .vl i p::r=>c7S (b7R p (z5 s i))::a5z s H r
 |x::r=>x::a5z s H r

def Lk.old:Lk->Option Nat
 | .no| .nilC .. | .nilS .. | .fam _| .at_ _| .frz _| .cel .. | .vl .. | .fav .. | .fac .. =>none
 | .box m| .arr m| .ren m=>some m

def z6:List Lk->List (Option Nat)
 | []=>[]
 |x::r=>x.old::z6 r

def k8(ρ:Nat->Option Nat)(n:Nat)(row row':Nat->List T):Prop:=∀i,i<n->Q9 (U6 ρ 6) (row' i)=some (row i)

def obV(ρ:Nat->Option Nat)(H:Y5)(lk:Lk)(o:Option Ob):Prop:=
 match o with
 |none=>True
 |some ob'=>match lk with
  | .no| .nilC .. | .nilS .. | .fam _| .at_ _| .frz _| .cel .. | .vl .. | .fav .. | .fac .. =>False
  | .box m=>match Z4 H m,ob' with
   |some (.arr _ _ sz n row),.arr cl' _ sz' n' row'=>match Nat.beq sz sz'&&(row' 0).all O0&&(!cl'||(row' 0).all X4) with
    |true=>n=1/\n'=1/\a2x.tlesV (a2x ρ 6) (row 0) (row' 0)
    |false=>False
   |_,_=>False
  | .arr m=>match Z4 H m,ob' with
   |some (.bys _ l),.bys _ l'=>l=l'
   |some (.arr true _ sz n row),.arr true _ sz' n' row'=>match Nat.beq sz sz' with
    |true=>n=n'/\Z7 n row row'
    |false=>False
   |some (.fam v _ sz n row),.fam v' _ sz' n' row'=>match Nat.beq sz sz' with
    |true=>v=v'/\n=n'/\T9 n row row'
    |false=>False
   |some (.mp bo get),.mp bo' get'=>match bo==bo' with
    |true=>∀n,get n=get' n
    |false=>False
   |some (.mp2 get),.mp2 get'=>∀a b,get a b=get' a b
   |_,_=>False
  | .ren m=>match Z4 H m,ob' with
   |some (.arr _ _ sz n row),.arr false _ sz' n' row'=>match Nat.beq sz sz' with
    |true=>n=n'/\k8 ρ n row row'
    |false=>False
   |_,_=>False

def b6W(ρ:Nat->Option Nat)(s:X2):X2->Prop
 | []=>True
 |(j,t)::r=>a2x ρ 6 (z5 s j) t/\b6W ρ s r

def b7F(ρ:Nat->Option Nat)(H:Y5):List Lk->Y5->Prop
 | [],[]=>True
 |lk::l,o::r=>obV ρ H lk o/\b7F ρ H l r
 |_,_=>False

def idB:Nat->Nat->List (Option Nat)->Bool
 |0,_,_=>true
 |m+1,i,some k::r=>Nat.beq i k&&idB m (i+1) r
 |_+1,_,_=>false

def a5R(m:Nat)(l:List Lk)(σ σ':Sy):Prop:=
 match c1r σ l with
 |some σ=>match a84 (b2y (z6 (a5z σ.s σ.H (a8b l))) σ'.H)&&idB m 0 (z6 (a5z σ.s σ.H (a8b l))) with
  |true=>b6W (y4 (z6 (a5z σ.s σ.H (a8b l)))) σ.s σ'.s/\b7F (y4 (z6 (a5z σ.s σ.H (a8b l)))) σ.H (a5z σ.s σ.H (a8b l)) σ'.H
  |false=>False
 |none=>False

def a98(m:Nat)(l:Option (List Lk))(σ σ':Sy):Prop:=
 match l with
 |some l=>a5R m l σ σ'
 |none=>False

def frz(H:Y5)(s:X2):List Nat->Option (X2×Option Prop)
 | []=>some ([],none)
 |i::r=>match Q3 0 H 6 (z5 s i),frz H s r with
  |some (t,p),some (q,p')=>some ((i,t)::q,a2m p p')
  |_,_=>none

inductive Ann:Type 1
 |none
 |unr (n:Nat) (sub:Nat->Nat->Ann)
 |one (ι:Type) (I:ι->Sy) (μ:ι->Nat) (lin lback:List Lk) (sub:ι->Nat->Ann)
 |onef (ks:List Nat) (ι:Type) (I:ι->Sy) (μ:ι->Nat) (lback:List Lk) (sub:ι->Nat->Ann)
 |two (ι₁ ι₂:Type) (I₁:ι₁->Sy) (I₂:ι₂->Sy) (μ₁:ι₁->Nat) (μ₂:ι₂->Nat) (l1 l2 l11 l12 l21 l22:Option (List Lk)) (sub₁:ι₁->Nat->Ann) (sub₂:ι₂->Nat->Ann)

def a0S:Code->Nat
 | .seq a b=>a0S a+a0S b
 | .cond _ a b=>a0S a+a0S b
 | .block _ b=>a0S b
 | .loop b=>a0S b+1
 |_=>0

def b5W(step:Nat->(Sy->Prop)->Sy->Prop):Nat->Sy->Prop
 |0,_=>False
 |n+1,σ=>step n (b5W step n) σ

def vcI(P:Program)(G:K8)(nt m0:Nat):Code->Nat->(Exit->Sy->(Nat->Ann)->Prop)->Sy->(Nat->Ann)->Prop
 | .skip,_,Q,σ,A=>Q .normal σ A
 | .region _ ops draw,_,Q,σ,A=>match draw with
  |false=>d9 P G nt ops ops.toList σ.s [] σ.H fun s H=>Q .normal ⟨s,H⟩ A
  |true=>a0c P G nt ops σ.H.length (a78 σ.H (m6 ops.toList)) ops.toList 0 [] [] σ.s [] [] fun s H=>Q .normal ⟨s,H⟩ A
 | .seq a b,k,Q,σ,A=>vcI P G nt m0 a k (fun e σ' A'=>match e with| .normal=>vcI P G nt m0 b (k+a0S a) Q σ' A'|e=>Q e σ' A') σ A
 | .cond c x y,k,Q,σ,A=>match P2 σ.s c with
  | .bool b=>(b=true->vcI P G nt m0 x k Q σ A)/\(b=false->vcI P G nt m0 y (k+a0S x) Q σ A)
  |_=>False
 | .block id body,k,Q,σ,A=>vcI P G nt m0 body k (fun e σ' A'=>match e with| .exit i=>(match Nat.beq i id with|true=>Q .normal σ' A'|false=>Q (.exit i) σ' A')|e=>Q e σ' A') σ A
 | .loop body,k,Q,σ,A=>match A k with
  | .none=>False
  | .unr n sub=>b5W (fun m next σ'=>vcI P G nt m0 body (k+1) (fun e σ'' A'=>match e with| .normal=>next σ''|e=>Q e σ'' A') σ' (sub m)) n σ
  | .one ι I μ lin lback sub=>(∃x,a5R m0 (c7i σ.s lin) σ (I x))/\∀x:ι,vcI P G nt m0 body (k+1) (fun e σ' A'=>match e with| .normal=>∃y,a5R m0 (c7i σ'.s lback) σ' (I y)/\Lt (μ y) (μ x)|e=>Q e σ' A') (I x) (sub x)
  | .onef ks ι I μ lback sub=>(match m0,frz σ.H σ.s ks with
   |0,some (s',p)=>a6h p (∃x,a5R 0 [] ⟨s',[]⟩ (I x))
   |_,_=>False)/\∀x:ι,vcI P G nt m0 body (k+1) (fun e σ' A'=>match e with| .normal=>∃y,a5R m0 (c7i σ'.s lback) σ' (I y)/\Lt (μ y) (μ x)|e=>Q e σ' A') (I x) (sub x)
  | .two ι₁ ι₂ I₁ I₂ μ₁ μ₂ l1 l2 l11 l12 l21 l22 sub₁ sub₂=>
   ((∃x,a98 m0 l1 σ (I₁ x))∨(∃x,a98 m0 l2 σ (I₂ x)))/\
   (∀x:ι₁,vcI P G nt m0 body (k+1) (fun e σ' A'=>match e with| .normal=>(∃y,a98 m0 l11 σ' (I₁ y)/\Lt (μ₁ y) (μ₁ x))∨(∃y,a98 m0 l12 σ' (I₂ y)/\Lt (μ₂ y) (μ₁ x))|e=>Q e σ' A') (I₁ x) (sub₁ x))/\
   (∀x:ι₂,vcI P G nt m0 body (k+1) (fun e σ' A'=>match e with| .normal=>(∃y,a98 m0 l21 σ' (I₁ y)/\Lt (μ₁ y) (μ₂ x))∨(∃y,a98 m0 l22 σ' (I₂ y)/\Lt (μ₂ y) (μ₂ x))|e=>Q e σ' A') (I₂ x) (sub₂ x))
 | .exit id,_,Q,σ,A=>Q (.exit id) σ A
 | .ret,_,Q,σ,A=>Q .ret σ A
 |_,_,_,_,_=>False

section
variable {P:Program} {G:K8} {nt m:Nat}

theorem c4W{ρ:Nat->Option Nat}{d:Nat}:∀{as bs:List T},a2x.tlesV (a2x ρ d) as bs->as.length=bs.length/\∀(j:Nat) (a b:T),as[j]? =some a->bs[j]? =some b->O3 ρ a b:=by
 intro as;induction as with
 |nil=>
  intro bs h;cases bs with
  |nil=>exact⟨rfl,fun j a b ha=>by simp at ha⟩
  |cons=>exact h.elim
 |cons a as ih=>
  intro bs h;cases bs with
  |nil=>exact h.elim
  |cons b bs=>
   obtain⟨h1,h2⟩:=ih h.2;refine⟨by simp[h1],fun j x z hx hz=> ?_⟩
   cases j with
   |zero=>simp at hx hz;subst hx;subst hz;exact a2y h.1
   |succ j=>exact h2 j x z (by simpa using hx) (by simpa using hz)

theorem d4A{ρ:Nat->Option Nat}{H:Y5}{lk:Lk}{ob':Ob}(h:obV ρ H lk (some ob')):∃m ob,lk.old=some m/\Z4 H m=some ob/\OLe ρ ob ob':=by
 unfold obV at h;split at h
 ·rename_i hn;cases hn
 ·rename_i ob hob;simp only[Option.some.injEq] at hob;subst hob;split at h
  iterate 10 exact h.elim
  ·split at h
   ·rename_i m _ _ cl ty sz n row cl' ty' sz' n' row' hm;split at h
    ·rename_i hb;simp only[Bool.and_eq_true,Bool.or_eq_true,Bool.not_eq_true'] at hb;obtain⟨⟨hb1,hb2⟩,hb3⟩:=hb;obtain⟨rfl,rfl,h⟩:=h;obtain rfl:=Nat.eq_of_beq_eq_true hb1;obtain⟨e1,e2⟩:=c4W h;exact⟨m,_,rfl,hm,.box cl cl' ty ty' sz row row' (fun t ht=>List.all_eq_true.1 hb2 t ht) (fun hc t ht=>List.all_eq_true.1 (hb3.resolve_left (by simp[hc])) t ht) e1 e2⟩
    ·exact h.elim
   ·exact h.elim
  ·split at h
   ·rename_i m _ _ ty l ty' l' hm;subst h;exact⟨m,_,rfl,hm,.bys _ _ _⟩
   ·rename_i m _ _ ty sz n row ty' sz' n' row' hm;split at h
    ·rename_i hb;obtain⟨rfl,h⟩:=h;obtain rfl:=Nat.eq_of_beq_eq_true hb;exact⟨m,_,rfl,hm,.same _ _ _ _ _ _ h⟩
    ·exact h.elim
   ·rename_i m _ _ v ty sz n row v' ty' sz' n' row' hm;split at h
    ·rename_i hb;obtain⟨rfl,rfl,h⟩:=h;obtain rfl:=Nat.eq_of_beq_eq_true hb;exact⟨m,_,rfl,hm,.fam _ _ _ _ _ _ _ h⟩
    ·exact h.elim
   ·rename_i m _ _ bo get bo' get' hm;split at h
    ·rename_i hb;obtain rfl:bo=bo':=by simpa using hb
     exact⟨m,_,rfl,hm,.mp _ _ _ h⟩
    ·exact h.elim
   ·rename_i m _ _ get get' hm;exact⟨m,_,rfl,hm,.mp2 _ _ h⟩
   ·exact h.elim
  ·split at h
   ·rename_i m _ _ cl ty sz n row ty' sz' n' row' hm;split at h
    ·rename_i hb;obtain⟨rfl,h⟩:=h;obtain rfl:=Nat.eq_of_beq_eq_true hb;exact⟨m,_,rfl,hm,.ren _ _ _ _ _ _ _ _ (fun hc=>by cases hc) h⟩
    ·exact h.elim
   ·exact h.elim

theorem b1V{ρ:Nat->Option Nat}{H:Y5}:∀{l:List Lk} {H':Y5},b7F ρ H l H'->(z6 l).length=H'.length/\∀k ob',Z4 H' k=some ob'->∃m ob,y4 (z6 l) k=some m/\Z4 H m=some ob/\OLe ρ ob ob':=by
 intro l;induction l with
 |nil=>
  intro H' h;cases H' with
  |nil=>exact⟨rfl,fun k ob' hk=>by simp[Z4] at hk⟩
  |cons=>exact h.elim
 |cons lk l ih=>
  intro H' h;cases H' with
  |nil=>exact h.elim
  |cons o H'=>
   obtain⟨h1,h2⟩:=ih h.2;refine⟨by simp[z6,h1],fun k ob' hk=> ?_⟩
   cases k with
   |zero=>
    have:o=some ob':=by simpa[Z4] using hk
    subst this;exact d4A h.1
   |succ k=>exact h2 k ob' (by simpa[Z4] using hk)

theorem c1R{ρ:Nat->Option Nat}{s:X2}:∀{s':X2},b6W ρ s s'->∀p ∈ s',O3 ρ (z5 s p.1) p.2:=by
 intro s';induction s' with
 |nil=>intro _ p hp;cases hp
 |cons x s' ih=>
  intro h p hp;obtain⟨j,t⟩:=x;rcases List.mem_cons.1 hp with rfl|hp
  ·exact a2y h.1
  ·exact ih h.2 p hp

theorem d5U:∀{m i:Nat} {l:List (Option Nat)},idB m i l=true->∀k,k<m->y4 l k=some (i+k):=by
 intro m;induction m with
 |zero=>intro i l _ k hk;omega
 |succ m ih=>
  intro i l h k hk;cases l with
  |nil=>simp[idB] at h
  |cons x l=>
   cases x with
   |none=>simp[idB] at h
   |some x=>
    simp only[idB,Bool.and_eq_true] at h;cases k with
    |zero=>simp only[y4];rw[←Nat.eq_of_beq_eq_true h.1];rfl
    |succ k=>
     simp only[y4];rw[ih h.2 k (by omega)]
     congr 1
     omega

theorem a6E{c:Ctx}{E:Env}{H:Y5}{w:World}(h:Inv c E H w)(ty:TypeId)(sz:Nat):Inv c (E.push H.length 0 0 sz) (H++[some (.arr true ty sz 0 fun _=>[])]) w/\Step E w (E.push H.length 0 0 sz) w:=
 h.push (ob:=.arr true ty sz 0 fun _=>[]) rfl rfl rfl (Nat.le_refl _) (fun _ _=>rfl) 0 0 #[] 0 (fun h=>absurd rfl h) (fun h=>absurd rfl h) (by simp) (Nat.le_refl 0) (fun i hi=>absurd hi (Nat.not_lt_zero _)) (fun i t hi=>absurd hi (Nat.not_lt_zero _)) (fun _ i t hi=>absurd hi (Nat.not_lt_zero _)) (fun i j t hi=>absurd hi (Nat.not_lt_zero _))

theorem c9h{o:Option T}(h:d4P o=true):∃t,o=some t/\∀{E:Env} {w:World} {u:Value},Rd E w t u->∃a,u= .slice a 0 0:=by
 unfold d4P at h;split at h
 ·exact⟨_,rfl,fun hx=>⟨none,a0v hx⟩⟩
 ·exact⟨_,rfl,fun hx=>by cases hx with|emp a=>exact⟨a,rfl⟩⟩
 ·cases h

theorem c2Z{E:Env}{w:World}{k sz:Nat}(hst:Step E w (E.push k 0 0 sz) w):∀(p:List Nat) {t t':T} {x:Value},a0C k p t=some t'->Rd E w t x->Rd (E.push k 0 0 sz) w t' x:=by
 intro p;induction p with
 |nil=>
  intro t t' x h hx;have key:(∃a,x= .slice a 0 0)/\t'= .osl k 0 0:=by
   unfold a0C at h;split at h
   ·simp only[Option.some.injEq] at h;exact⟨⟨none,a0v hx⟩,h.symm⟩
   ·simp only[Option.some.injEq] at h;exact⟨by cases hx with|emp a=>exact⟨a,rfl⟩,h.symm⟩
   ·contradiction
   ·contradiction
   ·cases h
  obtain⟨⟨a,rfl⟩,rfl⟩:=key;exact b49 a
 |cons j p ih=>
  intro t t' x h hx;have list:∀{cs:List T} {vs:Array Value} {t0 t1:T},cs[j]? =some t0->a0C k p t0=some t1->cs.length=vs.size->(∀(i:Nat) (t:T) (x:Value),cs[i]? =some t->vs[i]? =some x->Rd E w t x)->
    (cs.set j t1).length=vs.size/\∀(i:Nat) (t:T) (x:Value),(cs.set j t1)[i]? =some t->vs[i]? =some x->Rd (E.push k 0 0 sz) w t x:=by
   intro cs vs t0 t1 h0 h1 hl ht;refine⟨by simp[hl],fun i t x hi hx=> ?_⟩
   rw[List.getElem?_set] at hi
   split at hi
   ·rename_i hji;subst hji;split at hi
    ·simp only[Option.some.injEq] at hi;subst hi;exact ih h1 (ht j t0 x h0 hx)
    ·cases hi
   ·exact hst.rd (ht i t x hi hx)
  cases t with
  |agg cs=>
   simp only[a0C] at h;split at h
   ·rename_i t0 h0;simp only[Option.map_eq_some_iff] at h;obtain⟨t1,h1,rfl⟩:=h;cases hx with
    |agg _ vs hl ht=>obtain⟨a1,a2⟩:=list h0 h1 hl ht;exact .agg _ vs a1 a2
   ·cases h
  |tup cs=>
   simp only[a0C] at h;split at h
   ·rename_i t0 h0;simp only[Option.map_eq_some_iff] at h;obtain⟨t1,h1,rfl⟩:=h;cases hx with
    |tup _ vs hl ht=>obtain⟨a1,a2⟩:=list h0 h1 hl ht;exact .tup _ vs a1 a2
   ·cases h
  |_=>simp[a0C] at h

theorem d7e{c:Ctx}{E:Env}{H:Y5}{w:World}(h:Inv c E H w){ks:List Nat}{t r:T}{x:Value}(hb:Q3 0 (O2 ks H 0) 6 t=some (r,none))(hx:Rd E w t x):
  ∃E2,Inv c E2 (L4 H ks) w/\Step E w E2 w/\Rd E2 w r x:=by
 have hK:Inv c E (O2 ks H 0) w:=by
  refine⟨⟨fun k ob hk=>h.heap.live k ob (R5 hk).1,fun k k' o o' b hk hk'=>h.heap.inj k k' o o' b (R5 hk).1 (R5 hk').1,fun k hk=>by rw[a0Q];exact h.heap.lt k hk,h.heap.l2,fun k ob v hk=>h.heap.cur k ob v (R5 hk).1⟩,h.nlt,h.nnew,fun k ob b hk=>h.bnew k ob b (R5 hk).1,h.fr,h.keep⟩
 have hr:=E5 hK 6 hb trivial hx;let E2:Env:={E with N:=(E.lent 0 (O2 ks H 0)).N}
 have hstep:Step E w E2 w:=⟨⟨fun b hb=>.inl hb,fun _ h=>h,fun _ _=>rfl,fun _ _=>rfl,fun _ _=>rfl,fun _ _ h=>h,fun _ _ _ _ _=>rfl,fun _ _ _ _ _=>rfl⟩,fun b _=>rfl,fun _ h=>.inl h⟩
 refine⟨E2,⟨⟨fun k ob hk=> ?_,fun k k' o o' b hk hk'=>h.heap.inj k k' o o' b (Q7 hk).1 (Q7 hk').1,fun k hk=>by rw[N4];exact h.heap.lt k hk,h.heap.l2,fun k ob v hk=>h.heap.cur k ob v (Q7 hk).1⟩,fun b hb'=> ?_,fun b hb'=> ?_,fun k ob b hk=>h.bnew k ob b (Q7 hk).1,h.fr,h.keep.step hstep⟩,hstep,?_⟩
 ·obtain⟨g1,g2⟩:=Q7 hk;obtain⟨e1,e2,e3⟩:=h.heap.live k ob g1;refine⟨e1,e2.mono e1 hstep (fun b hb'=>rfl),fun b hb' hn=> ?_⟩
  have hb':J9 E k ob b:=hb';rcases hn with hn|⟨k2,ob2,_,hk2,hb2⟩
  ·exact e3 b hb' hn
  ·obtain⟨g3,g4⟩:=R5 hk2;have:=h.heap.inj k k2 ob ob2 b g1 g3 hb' hb2;rw[Nat.zero_add] at g4;exact g2 (this▸g4)
 ·rcases hb' with hb'|⟨k2,ob2,_,hk2,hb2⟩
  ·exact h.nlt b hb'
  ·exact hK.heap.blt hk2 hb2
 ·rcases hb' with hn|⟨k2,ob2,_,hk2,hb2⟩
  ·exact h.nnew b hn
  ·exact .inr (h.bnew k2 ob2 b (R5 hk2).1 hb2)
 ·exact Rd.mono (w:=w) (w':=w) (E:=E.lent 0 (O2 ks H 0)) (E':=E2) ⟨fun _ h=>h,fun _ h=>absurd h.2 (Nat.not_lt_zero _),fun _ h=>absurd h.2 (Nat.not_lt_zero _),fun _ h=>absurd h.2 (Nat.not_lt_zero _),fun _ h=>absurd h.2 (Nat.not_lt_zero _),fun _ _ h=>absurd h.2 (Nat.not_lt_zero _),fun _ _ _ _ h=>absurd h.2 (Nat.not_lt_zero _),fun _ _ _ _ h=>absurd h.2 (Nat.not_lt_zero _)⟩ (fun _ _=>rfl) hr

theorem c6n{σ σ':Sy}{x:Lk}(h:c7u σ x=some σ'):Sub m σ σ':=by
 intro c a w _ hr;obtain⟨E,hr⟩:=hr;unfold c7u at h;split at h
 ·rename_i k j ty sz;split at h
  case h_2=>cases h
  rename_i cl bty bsz n row hk;split at h
  case h_2=>cases h
  rename_i hnj hsz;obtain⟨tj,hj,htj⟩:=c9h hnj;simp only[Option.some.injEq] at h;subst h;obtain⟨hI,hst⟩:=a6E hr.inv ty sz;have hk1:Z4 (σ.H++[some (Ob.arr true ty sz 0 fun _=>[])]) k=some (.arr cl bty bsz 1 row):=by rw[D7,if_pos (M3 hk)];exact hk
  obtain⟨hL,hO,hN⟩:=hI.heap.live k _ hk1;have hO:U9 _ w k ⟨cl,bty,bsz,1,row⟩:=hO;obtain⟨e1,e2,e3,e4,e5,cs,tyc,e6,e7,e8⟩:=hO;have hW:=hI.writeO (w':=w) hk1 rfl rfl rfl (Nat.le_refl _) (fun _ _ _=>rfl) (.arr false bty bsz 1 fun _=>(row 0).set j (.osl σ.H.length 0 0)) (fun b hb=>.inl (hb.arr rfl)) (fun v hv=>absurd hv (hI.noL2 hk1 rfl v)) (fun hs=>by
   refine⟨e1,e2,fun i hi=> ?_,fun i t hi ht=> ?_,fun hc=>(by cases hc),cs,tyc,e6,e7,fun i q t hi hq=> ?_⟩
   ·exact(List.length_set ..).trans (e3 0 (Nat.lt_succ_self 0))
   ·rcases List.mem_or_eq_of_mem_set ht with h1|rfl
    ·exact e4 0 t (by simp) h1
    ·rfl
   ·obtain rfl:i=0:=by have:i<1:=hi;omega
    have hq2:((row 0).set j (T.osl σ.H.length 0 0))[q]? =some t:=hq;rw[List.getElem?_set] at hq2
    split at hq2
    ·rename_i hjq;subst hjq;split at hq2
     ·simp only[Option.some.injEq] at hq2;subst hq2;obtain⟨u,hu,hru⟩:=e8 0 j _ (by simp) hj
      refine⟨u,hu,?_⟩
      obtain⟨a,rfl⟩:=htj hru;exact b49 a
     ·cases hq2
    ·exact e8 0 q t (by simp) hq2)
  exact⟨_,hr.defers,hr.size,⟨fun i hi=>hst.rd (hr.slots.on i hi),hr.slots.off⟩,hW.1⟩
 ·rename_i i p ty sz;split at h
  case h_2=>cases h
  rename_i t hs hsz;simp only[Option.some.injEq] at h;subst h;obtain⟨hI,hst⟩:=a6E hr.inv ty sz;refine⟨_,hr.defers,hr.size,⟨fun q hq=> ?_,fun q hq=>absurd (fun q hq=>by cases hq) hq⟩,hI⟩
  simp only[z5];split
  ·rename_i he;obtain rfl:=Nat.eq_of_beq_eq_true he;have:=hr.slots.on q (fun q hq=>by cases hq)
   exact c2Z hst _ hs this
  ·exact hst.rd (hr.slots.on q (fun q hq=>by cases hq))
 ·rename_i k;split at h
  case h_2=>cases h
  rename_i ty sz n row hk;simp only[Option.some.injEq] at h;subst h;have hI:=hr.inv;have hn2:¬E.L2 k 0:=hI.noL2 hk rfl 0;let E':=E.bump k 0 (fun _ _=>0) (fun _ _=>0)
  have hst:Step E w E' w:=⟨Env.bump_le hn2,fun _ _=>rfl,fun _ h=>.inl h⟩
  obtain⟨hL,hO,hN⟩:=hI.heap.live k _ hk;have hO:U9 E w k ⟨true,ty,sz,n,row⟩:=hO;obtain⟨e1,e2,e3,e4,e5,cs,tyc,e6,e7,e8⟩:=hO;simp only at e1 e2 e3 e4 e5 e7 e8;have hco:∀i t,i<n->t ∈ row i->closedOne t=true:=fun i t hi ht=>by simp[closedOne,e4 i t hi ht,e5 trivial i t hi ht]
  have nown:∀(i j:Nat) (oty:TypeId) (osz on:Nat) (orow:Nat->List T),i<n->(row i)[j]? =some (.own oty osz on orow)->False:=fun i j oty osz on orow hi hj=>by
   have:=hco i _ hi (List.mem_of_getElem? hj);simp[closedOne,X4] at this
  have hF:FamOk E' w k 0 ty sz n row:=B6 (.inr ⟨rfl,rfl⟩) e1 e2 cs tyc e6 e7 e3 (fun r q t hr hq=>by
   obtain⟨u,hu,hru⟩:=e8 r q t hr hq;exact⟨u,hu,.inl ⟨hco r t hr (List.mem_of_getElem? hq),hst.rd hru⟩⟩) (fun i j i' j' oty osz on orow oty' osz' on' orow' hi hi' hj=>(nown i j _ _ _ _ hi hj).elim)
  have hklt:=M3 hk;refine⟨E',hr.defers,hr.size,⟨fun i hi=>hst.rd (hr.slots.on i hi),hr.slots.off⟩,hI.to rfl rfl rfl (Nat.le_refl _) hst k (fun i=>i=k) (fun _ h=>h) (fun i o hi hne=> ?_) (fun o ho=> ?_) (fun _ _ _=>rfl) (fun i hi=>by rw[List.length_set];exact hI.heap.lt i hi) (fun i u hu=> ?_) (fun o i u hi hu=> ?_)⟩
  ·rw[U0 hklt,if_neg hne] at hi;exact⟨hi,hne⟩
  ·rw[U0 hklt,if_pos rfl] at ho;simp only[Option.some.injEq] at ho;subst ho;refine⟨hL,hF,fun b hb=>.inr ⟨k,_,rfl,hk,?_⟩⟩
   rcases hb with hb|⟨v0,ty0,sz0,n0,V0,i0,j0,oty1,osz1,on1,orow1,hobe,hi0,hj0,hc0,rfl⟩
   ·exact .inl hb
   ·simp only[Ob.fam.injEq] at hobe;obtain⟨rfl,rfl,rfl,rfl,rfl⟩:=hobe;exact(nown _ _ _ _ _ _ hi0 hj0).elim
  ·rcases hu with hu|⟨rfl,_⟩
   ·exact hI.heap.l2 _ _ hu
   ·exact hL
  ·rw[U0 hklt] at hi;split at hi
   ·rename_i he;subst he;simp only[Option.some.injEq] at hi;subst hi;refine⟨_,_,_,_,_,rfl,?_⟩
    rcases hu with hu|⟨_,rfl⟩
    ·exact absurd hu (hI.noL2 hk rfl u)
    ·exact Nat.le_refl _
   ·rename_i hne;rcases hu with hu|⟨e,_⟩
    ·exact hI.heap.cur _ _ _ hi hu
    ·exact absurd e hne
 ·rename_i i;split at h
  case h_2=>cases h
  rename_i t hb;simp only[Option.some.injEq] at h;subst h;obtain⟨E2,hI,hst,hrd⟩:=d7e hr.inv hb (hr.slots.on i (fun q hq=>by cases hq))
  refine⟨E2,hr.defers,hr.size,⟨fun q hq=> ?_,fun q hq=>absurd (fun q hq=>by cases hq) hq⟩,hI⟩
  simp only[z5];split
  ·rename_i he;obtain rfl:=Nat.eq_of_beq_eq_true he;exact hrd
  ·exact hst.rd (hr.slots.on q (fun q hq=>by cases hq))
 ·simp only[Option.some.injEq] at h;subst h;exact⟨E,hr⟩

theorem c9Y:∀{l:List Lk} {σ σ':Sy},c1r σ l=some σ'->Sub m σ σ':=by
 intro l;induction l with
 |nil=>intro σ σ' h;simp only[c1r,Option.some.injEq] at h;subst h;exact Sub.refl m σ
 |cons x l ih=>
  intro σ σ' h;simp only[c1r] at h;split at h
  ·rename_i σ1 h1;exact fun c a w hm hr=>ih h c a w hm (c6n (m:=m) (x:=d6d _ _) h1 c a w hm hr)
  ·cases h

theorem a0m{l:List Lk}{σ σ':Sy}(h:a5R m l σ σ'):Sub m σ σ':=by
 unfold a5R at h;split at h
 ·rename_i σ1 hg;split at h
  ·rename_i hi;simp only[Bool.and_eq_true] at hi;obtain⟨h1,h2⟩:=b1V h.2;intro c a w hm hr;exact c7I (ρ:=y4 (z6 (a5z σ1.s σ1.H (a8b l)))) (fun k m hk=>by rw[←h1];exact d4a hk) (c8C hi.1) (c1R h.1) h2 (fun k hk=>by rw[d5U hi.2 k (by omega)];simp) (c9Y (m:=m) hg c a w hm hr)
  ·exact h.elim
 ·exact h.elim

theorem c5o{c:Ctx}{E:Env}{H:Y5}{w:World}(hc0:c.m=0)(h:Inv c E H w):Inv c (E.lent 0 H) [] w:=by
 have hn:∀k ob,¬Z4 ([]:Y5) k=some ob:=fun k ob hk=>by simp[Z4] at hk
 refine⟨⟨fun k ob hk=>absurd hk (hn k ob),fun k k' o o' b hk _ _ _=>absurd hk (hn k o),fun k hk=>absurd hk.2 (Nat.not_lt_zero k),fun k v hv=>absurd hv.2 (Nat.not_lt_zero k),fun k ob v hk=>absurd hk (hn k ob)⟩,fun x hx=> ?_,fun x hx=> ?_,fun k ob b hk=>absurd hk (hn k ob),h.fr,⟨fun b hb=>.inl (h.keep.N b hb),fun k hk=>by omega,h.keep.same,fun k v hk=>by omega⟩⟩
 ·rcases hx with hx|⟨k,ob,_,hob,hx⟩
  ·exact h.nlt x hx
  ·exact h.heap.blt hob hx
 ·rcases hx with hx|⟨k,ob,hkb,hob,hx⟩
  ·exact h.nnew x hx
  ·exact .inr (h.bnew k ob x hob hx)
theorem d0S{H:Y5}{s:X2}:∀{ks:List Nat} {s':X2} {p:Option Prop},frz H s ks=some (s',p)->p.getD True->∀i,z5 s' i= .und∨∃q,Q3 0 H 6 (z5 s i)=some (z5 s' i,q)/\q.getD True:=by
 intro ks;induction ks with
 |nil=>
  intro s' p h _ i;simp only[frz,Option.some.injEq,Prod.mk.injEq] at h;obtain⟨rfl,_⟩:=h;exact .inl rfl
 |cons j r ih=>
  intro s' p h hp i;simp only[frz] at h;split at h
  ·rename_i t q1 q p' h1 h2;simp only[Option.some.injEq,Prod.mk.injEq] at h;obtain⟨rfl,rfl⟩:=h;obtain⟨hp1,hp2⟩:=t9 hp;simp only[z5];split
   ·rename_i he;obtain rfl:=Nat.eq_of_beq_eq_true he;exact .inr ⟨_,h1,hp1⟩
   ·exact ih h2 hp2 i
  ·cases h
theorem d5S{σ:Sy}{ks:List Nat}{s':X2}{p:Option Prop}(h:frz σ.H σ.s ks=some (s',p))(hp:p.getD True):Sub 0 σ ⟨s',[]⟩:=by
 intro c a w hc hr;obtain⟨E,hr⟩:=hr;refine⟨E.lent 0 σ.H,hr.defers,hr.size,⟨fun i _=> ?_,fun i hx=>absurd (fun q hq=>by cases hq) hx⟩,c5o hc hr.inv⟩
 rcases d0S h hp i with hi|⟨q,hi,hq⟩
 ·show Rd _ w (z5 s' i) _;rw[hi];exact .und _
 ·exact E5 hr.inv 6 hi hq (hr.slots.on i (fun q hq=>by cases hq))
theorem a03{l:Option (List Lk)}{σ σ':Sy}(h:a98 m l σ σ'):Sub m σ σ':=by
 unfold a98 at h;split at h
 ·exact a0m h
 ·exact h.elim

theorem v3{s:X2}{op:Op}{k k':K8->Prop}(hk:∀G',k G'->k' G')(h:a4a G s op k):a4a G s op k':=by
 unfold a4a at h ⊢;split at h
 ·exact hk _ h
 ·split at h
  ·obtain⟨x,hx⟩:=h;exact⟨x,hk _ hx⟩
  ·obtain⟨x,hx⟩:=h;exact⟨x,hk _ hx⟩
  ·obtain⟨x,hx⟩:=h;exact⟨x,hk _ hx⟩
  ·obtain⟨x,hx⟩:=h;exact⟨x,hk _ hx⟩
  ·exact hk _ h

theorem a5C{s:X2}:∀{p:L3} {q q':Prop},(q->q')->J6 s p q->J6 s p q':=by
 intro p;induction p with
 |nil=>intro q q' hq h;exact hq h
 |cons x p ih=>
  intro q q' hq h;obtain⟨t,b⟩:=x;simp only[J6] at h ⊢;split at h
  ·exact ih (fun h he=>hq (h he)) h
  ·exact h.elim

theorem b6x{all:Array Oper}{K K':X2->Y5->Prop}(hK:∀s H,K s H->K' s H):∀(rest:List Oper) (s:X2) (ps:H9) (H:Y5),d9 P G nt all rest s ps H K->d9 P G nt all rest s ps H K':=by
 intro rest;induction rest with
 |nil=>intro s ps H h;exact hK _ _ h
 |cons o rest ih=>
  intro s ps H h;have andp:∀{p:L3} {side:Option Prop} {q q':Prop},(q->q')->a5n s p side q->a5n s p side q':=by
   intro p side q q' hq h;cases side with
   |none=>exact hq h
   |some r=>exact⟨h.1,hq h.2⟩
  unfold d9 at h ⊢;split at h
  ·split at h
   ·exact h.elim
   ·split at h
    ·exact fun b hb=>ih _ _ _ (h b hb)
    ·refine v3 (fun G' h=> ?_) h
     split at h
     ·exact andp (ih _ _ _) h
     ·exact h.elim
  ·split at h
   ·split at h
    ·split at h
     ·exact h.elim
     ·split at h
      ·refine v3 (fun G' h=> ?_) h
       split at h
       ·exact andp (ih _ _ _) h
       ·exact h.elim
      ·split at h
       ·exact h.elim
       ·refine v3 (fun G' h=> ?_) h
        split at h
        ·exact andp (fun h=>⟨a5C (ih _ _ _) h.1,fun hn=>ih _ _ _ (h.2 hn)⟩) h
        ·exact h.elim
    ·exact h.elim
   ·exact h.elim

theorem b4e{all:Array Oper}{b:Nat}{H0:Y5}{K K':X2->Y5->Prop}(hK:∀s H,K s H->K' s H):∀(rest:List Oper) (i:Nat) (earlier:List (Nat×Oper×RW)) (tab:List Nat) (s:X2) (ps:H9) (hist:List (Nat×Y5)),
  a0c P G nt all b H0 rest i earlier tab s ps hist K->a0c P G nt all b H0 rest i earlier tab s ps hist K':=by
 intro rest;induction rest with
 |nil=>intro i earlier tab s ps hist h;exact hK _ _ h
 |cons o rest ih=>
  intro i earlier tab s ps hist h;have andp:∀{p:L3} {side:Option Prop} {q q':Prop},(q->q')->a5n s p side q->a5n s p side q':=by
   intro p side q q' hq h;cases side with
   |none=>exact hq h
   |some r=>exact⟨h.1,hq h.2⟩
  unfold a0c at h ⊢;split at h
  ·exact h.elim
  ·split at h
   ·split at h
    ·exact h.elim
    ·split at h
     ·split at h
      ·exact ih _ _ _ _ _ _ h
      ·exact h.elim
     ·split at h
      ·refine v3 (fun G' h=> ?_) h
       split at h
       ·exact andp (ih _ _ _ _ _ _) h
       ·exact h.elim
      ·refine v3 (fun G' h=> ?_) h
       split at h
       ·exact andp (ih _ _ _ _ _ _) h
       ·exact h.elim
   ·split at h
    ·split at h
     ·split at h
      ·exact h.elim
      ·refine v3 (fun G' h=> ?_) h
       split at h
       ·exact andp (ih _ _ _ _ _ _) h
       ·exact h.elim
     ·exact h.elim
    ·exact h.elim

theorem b4P:∀(code:Code) (k:Nat) (Q:Exit->Sy->(Nat->Ann)->Prop) (Q':Exit->Sy->Prop) (σ:Sy) (A:Nat->Ann),(∀e σ A,Q e σ A->Q' e σ)->vcI P G nt m code k Q σ A->vc P G nt (Sub m) code Q' σ:=by
 intro code;induction code with
 |skip=>intro k Q Q' σ A hQ h;exact hQ _ _ _ h
 |region id ops draw=>
  intro k Q Q' σ A hQ h;simp only[vcI,vc] at h ⊢;split at h
  ·exact b6x (fun s H hk=>hQ _ _ _ hk) _ _ _ _ h
  ·exact b4e (fun s H hk=>hQ _ _ _ hk) _ _ _ _ _ _ _ h
 |seq x y ihx ihy=>
  intro k Q Q' σ A hQ h;simp only[vcI,vc] at h ⊢;refine ihx _ _ _ _ _ (fun e σ' A' h'=> ?_) h
  cases e with
  |normal=>exact ihy _ _ _ _ _ hQ h'
  |_=>exact hQ _ _ _ h'
 |cond cd x y ihx ihy=>
  intro k Q Q' σ A hQ h;simp only[vcI,vc] at h ⊢;split at h
  ·rename_i b hb0;rw[hb0];exact⟨fun hb=>ihx _ _ _ _ _ hQ (h.1 hb),fun hb=>ihy _ _ _ _ _ hQ (h.2 hb)⟩
  ·exact h.elim
 |block id body ih=>
  intro k Q Q' σ A hQ h;simp only[vcI,vc] at h ⊢;refine ih _ _ _ _ _ (fun e σ' A' h'=> ?_) h
  cases e with
  |exit i=>
   simp only at h' ⊢;split at h'
   ·rename_i hb0;rw[hb0];exact hQ _ _ _ h'
   ·rename_i hb0;rw[hb0];exact hQ _ _ _ h'
  |_=>exact hQ _ _ _ h'
 |loop body ih=>
  intro k Q Q' σ A hQ h;simp only[vcI,vc] at h ⊢;split at h
  ·exact h.elim
  ·rename_i n sub hA;refine⟨{p:Nat×Sy//b5W (fun r next σ'=>vcI P G nt m body (k+1) (fun e σ'' A'=>match e with| .normal=>next σ''|e=>Q e σ'' A') σ' (sub r)) p.1 p.2},fun p=>p.1.2,fun p=>p.1.1,⟨⟨(n,σ),h⟩,fun c a w _ hr=>hr⟩,fun x=> ?_⟩
   obtain⟨⟨j,τ⟩,hx⟩:=x;cases j with
   |zero=>exact hx.elim
   |succ j=>
    refine ih _ _ _ _ _ (fun e σ' A' h'=> ?_) hx
    cases e with
    |normal=>exact⟨⟨(j,σ'),h'⟩,fun c a w _ hr=>hr,Nat.lt_succ_self j⟩
    |_=>exact hQ _ _ _ h'
  ·rename_i ι I μ lin lback sub hA;obtain⟨⟨x0,h0⟩,hround⟩:=h;refine⟨ι,I,μ,⟨x0,a0m h0⟩,fun x=>ih _ _ _ _ _ (fun e σ' A' h'=> ?_) (hround x)⟩
   cases e with
   |normal=>obtain⟨y,hy,hlt⟩:=h';exact⟨y,a0m hy,hlt⟩
   |_=>exact hQ _ _ _ h'
  ·rename_i ks ι I μ lback sub hA;obtain⟨h0,hround⟩:=h;split at h0
   ·rename_i s' p hz;have h0':p.getD True/\∃x,a5R 0 [] ⟨s',[]⟩ (I x):=by
     cases p with
     |none=>exact⟨trivial,h0⟩
     |some p=>exact h0
    obtain⟨hp,x0,hx0⟩:=h0';refine⟨ι,I,μ,⟨x0,fun c a w hc hr=>a0m hx0 c a w hc (d5S hz hp c a w hc hr)⟩,fun x=>ih _ _ _ _ _ (fun e σ' A' h'=> ?_) (hround x)⟩
    cases e with
    |normal=>obtain⟨y,hy,hlt⟩:=h';exact⟨y,a0m hy,hlt⟩
    |_=>exact hQ _ _ _ h'
   ·exact h0.elim
  ·rename_i ι₁ ι₂ I₁ I₂ μ₁ μ₂ l1 l2 l11 l12 l21 l22 sub₁ sub₂ hA;obtain⟨h0,h1,h2⟩:=h;refine⟨ι₁ ⊕ ι₂,fun x=>match x with| .inl x=>I₁ x| .inr x=>I₂ x,fun x=>match x with| .inl x=>μ₁ x| .inr x=>μ₂ x,?_,fun x=> ?_⟩
   ·rcases h0 with⟨x,hx⟩|⟨x,hx⟩
    ·exact⟨.inl x,a03 hx⟩
    ·exact⟨.inr x,a03 hx⟩
   ·cases x with
    |inl x=>
     refine ih _ _ _ _ _ (fun e σ' A' h'=> ?_) (h1 x)
     cases e with
     |normal=>
      rcases h' with⟨y,hy,hlt⟩|⟨y,hy,hlt⟩
      ·exact⟨.inl y,a03 hy,hlt⟩
      ·exact⟨.inr y,a03 hy,hlt⟩
     |_=>exact hQ _ _ _ h'
    |inr x=>
     refine ih _ _ _ _ _ (fun e σ' A' h'=> ?_) (h2 x)
     cases e with
     |normal=>
      rcases h' with⟨y,hy,hlt⟩|⟨y,hy,hlt⟩
      ·exact⟨.inl y,a03 hy,hlt⟩
      ·exact⟨.inr y,a03 hy,hlt⟩
     |_=>exact hQ _ _ _ h'
 |exit id=>intro k Q Q' σ A hQ h;exact hQ _ _ _ h
 |ret=>intro k Q Q' σ A hQ h;exact hQ _ _ _ h
 |_=>intro k Q Q' σ A hQ h;simp[vcI] at h

def d6F(res r:T):Prop:=a2x (fun _=>none) 6 r res

def d6y(P:Program)(G:K8)(nt:Nat)(rs:List ResultVar)(code:Code)(args:List T)(res:T)(A:Nat->Ann):Prop:=
 vcI P G nt 0 code 0 (fun e σ _=>c7l P rs (d6F res) e σ) ⟨a1u 0 args,[]⟩ A

theorem d6L(hm:P.follows .mixedOrders=true)(hG:I8 P G)(hGc:∀x ∈ G,Z8 P x.1){f:FuncId}{fn:Func}{code:Code}{args:List T}{res:T}(hf:P.funcs[f]? =some fn)(hb:fn.body=some code)(hnt:args.length<=fn.ntmps)
  (A:Nat->Ann) (h:d6y P G fn.ntmps fn.results.toList code args res A):Z1 P f args res:=by
 refine d17 hm hG hGc hf hb hnt (b4P _ _ _ _ _ _ (fun e σ A' hq=> ?_) h)
 have mono:∀{p:Option Prop} {q q':Prop},(q->q')->a6h p q->a6h p q':=by
  intro p q q' hq h;cases p with
  |none=>exact hq h
  |some p=>exact⟨h.1,hq h.2⟩
 unfold c7l at hq ⊢;split at hq
 ·split at hq
  ·split at hq
   ·exact mono (mono fun h=>O3.rle (a2y h)) hq
   ·exact hq.elim
  ·exact hq.elim
 ·split at hq
  ·split at hq
   ·exact mono (mono fun h=>O3.rle (a2y h)) hq
   ·exact hq.elim
  ·exact hq.elim
 ·exact hq.elim

end
end Go.SS
