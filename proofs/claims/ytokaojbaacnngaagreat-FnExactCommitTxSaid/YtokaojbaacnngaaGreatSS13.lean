/- A calculus of symbolic states: an operation of whatever kind. -/
import Derived.Test.YtokaojbaacnngaaGreatSSR2
import Derived.Test.YtokaojbaacnngaaGreatSSV
namespace Go.SS
open Go.RowKit
section
variable {c:Ctx} {E:Env} {H:Y5} {w:World} {P:Program} {G:K8}

theorem c9s(hG:I8 P G)(h:Inv c E H w){f:FuncId}{args:List T}{vs:Array Value}{r:T}{p:Option Prop}(he:y5 G H f args=some (r,p))(hp:p.getD True)(ha:RdL E w args vs):
  Calls P f vs w fun e w'=>∃v E',e= .returned v/\Inv c E' H w'/\Step E w E' w'/\Rd E' w' r v:=by
 unfold y5 at he;split at he
 ·rename_i hcl;have hpf:=c6k hG he hp;have:=hpf {E with L:=fun _=>False,L2:=fun _ _=>False} w vs (fun _=>⟨fun h=>h,fun _ h=>h⟩) h.nlt ⟨ha.1,fun i t x hi hx=>Rd.closedD (E:=E) (E':={E with L:=fun _=>False,L2:=fun _ _=>False}) (fun _ h=>h) 6 (ha.2 i t x hi hx) (List.all_eq_true.1 hcl t (List.mem_of_getElem? hi))⟩
  refine this.mono fun e w' hh=> ?_
  obtain⟨v,rfl,hb,hr⟩:=hh;obtain⟨h1,h2⟩:=h.grow hb.os hb.tape hb.output hb.size hb.block;exact⟨v,_,rfl,h1,h2,Rd.mono (E:=({E with L:=fun _=>False,L2:=fun _ _=>False}:Env).addN fun b=>w.heap.size<=b/\b<w'.heap.size) (E':=E.addN fun b=>w.heap.size<=b/\b<w'.heap.size) ⟨fun _ h=>h,fun _ h=>False.elim h,fun _ h=>False.elim h,fun _ h=>False.elim h,fun _ h=>False.elim h,fun _ _ h=>False.elim h,fun _ _ _ _ h=>False.elim h,fun _ _ _ _ h=>False.elim h⟩ (fun _ _=>rfl) hr⟩
 ·split at he
  ·rename_i bs hbs;split at he
   ·rename_i r' p' hg;split at he
    ·rename_i hpl;simp only[Option.some.injEq,Prod.mk.injEq] at he;obtain⟨rfl,rfl⟩:=he;obtain⟨hp1,hp2⟩:=t9 hp;have hpf:=c6k hG hg hp2;obtain⟨b1,b2⟩:=O6 hbs;have:=hpf (E.lent 0 H) w vs (fun _=>⟨fun h=>absurd h.2 (Nat.not_lt_zero _),fun _ h=>absurd h.2 (Nat.not_lt_zero _)⟩) (fun b hb=>by
      rcases hb with hb|⟨k,ob,_,hk,hb⟩
      ·exact h.nlt b hb
      ·exact h.heap.blt hk hb) ⟨by simp[b1,ha.1],fun i t x hi hx=>by
       simp only[List.getElem?_map,Option.map_eq_some_iff] at hi
       obtain⟨y,hy,rfl⟩:=hi;have hlt:i<args.length:=by rw[←b1];exact(List.getElem?_eq_some_iff.1 hy).1
       have hc:=List.getElem?_eq_getElem hlt
       exact E5 h 6 (r:=y.1) (p:=y.2) (b2 i _ y hc hy) (q9 hp1 y (List.mem_of_getElem? hy)) (ha.2 i _ x hc hx)⟩
     refine this.mono fun e w' hh=> ?_
     obtain⟨v,rfl,hb,hr⟩:=hh;obtain⟨h1,h2⟩:=h.grow hb.os hb.tape hb.output hb.size hb.block;exact⟨v,_,rfl,h1,h2,hr.plain 6 hpl⟩
    ·cases he
   ·cases he
  ·cases he

def d3g(c:Ctx)(E:Env)(w:World)(o:Oper)(a:Act)(y:T)(H':Y5)(K:Act->World->Prop):Prop:=
 ∀v w' E',Inv c E' H' w'->Step E w E' w'->Rd E' w' y v->K (a.put o.dst v) w'

theorem t3{o:Oper}{a:Act}{K:Act->World->Prop}{Q:Exit->Act->World->Prop}{v:Value}{w':World}(h:(execOp a.eval o).run P w= .ok (.value v) w')(hk:K (a.put o.dst v) w'):o.wp P a w K Q:=by
 unfold Oper.wp;rw[h];exact hk

theorem d2P{o:Oper}{a:Act}{K:Act->World->Prop}{Q:Exit->Act->World->Prop}{w':World}(h:(execOp a.eval o).run P w= .ok .skip w')(hk:K (a.put o.dst undef) w'):o.wp P a w K Q:=by
 unfold Oper.wp;rw[h];exact hk

theorem a4d{o:Oper}{a:Act}{K:Act->World->Prop}{Q:Exit->Act->World->Prop}{f:FuncId}{vs:Array Value}{w':World}(h:(execOp a.eval o).run P w= .ok (.enter f vs) w')
  (hk:Calls P f vs w' fun e w''=>∃v,e= .returned v/\K (a.put o.dst v) w''):o.wp P a w K Q:=by
 unfold Oper.wp;rw[h,Oper.upon_enter];refine hk.mono fun e w'' hh=> ?_
 obtain⟨v,rfl,hv⟩:=hh;exact hv

theorem b7w{a:Act}{s:X2}{x:Operand}{f:FuncId}{cs:List T}(h:a73 s x=some (f,cs))(hx:K4 E w a s x):∃caps,a.eval x= .func (.func f) #[] caps/\RdL E w cs caps:=by
 unfold a73 at h;split at h
 ·simp only[Option.some.injEq,Prod.mk.injEq] at h;obtain⟨rfl,rfl⟩:=h;exact⟨#[],rfl,rfl,fun i t x hi=>by simp at hi⟩
 ·unfold K4 at hx;split at h
  ·rename_i g cs' he;simp only[Option.some.injEq,Prod.mk.injEq] at h;obtain⟨rfl,rfl⟩:=h;rw[he] at hx;generalize a.eval x=v at hx;cases hx with
   |fn _ _ vs hl ht=>exact⟨vs,rfl,hl,ht⟩
  ·rename_i g first caps he
   rw[he] at hx;split at h
   ·rename_i hf hc;simp only[Option.some.injEq,Prod.mk.injEq] at h;obtain⟨rfl,rfl⟩:=h;obtain rfl:first= #[]:=Array.ext' (by simpa using hf)
    obtain rfl:caps= #[]:=Array.ext' (by simpa using hc)
    exact⟨#[],a0v hx,rfl,fun i t x hi=>by simp at hi⟩
   ·cases h
  ·cases h

def Z8(P:Program)(f:FuncId):Prop:=∃fn,P.funcs[f]? =some fn/\(fn.name== "runtime.NumGoroutine")=false/\fn.body.isNone=false

theorem a40{a:Act}{o:Oper}{x:Operand}{args:Array Operand}{at_:Array TypeId}{f:FuncId}{caps:Array Value}(ho:o.op= .call {callee:=.value x,args:=args,argTypes:=at_})(hf:Z8 P f)(hx:a.eval x= .func (.func f) #[] caps):
  (execOp a.eval o).run P w= .ok (.enter f (args.map a.eval++caps)) w:=by
 obtain⟨fn,h1,h2,h3⟩:=hf;simp only[execOp,ho,resolve,hx,Deferred.ofValue,Sem.run_bind,Sem.run_pure,Result.andThen_ok,invoke,callFunc,run_program,h1,h2,h3];simp

theorem a4m{as bs:List T}{us vs:Array Value}(h:RdL E w as us)(k:RdL E w bs vs):RdL E w (as++bs) (us++vs):=by
 refine⟨by simp[h.1,k.1],fun i t x hi hx=> ?_⟩
 rw[List.getElem?_append] at hi
 rw[Array.getElem?_append] at hx
 rw[←h.1] at hx;split at hi
 ·rename_i hlt;rw[if_pos hlt] at hx;exact h.2 i t x hi hx
 ·rename_i hlt;rw[if_neg hlt] at hx;exact k.2 _ t x hi hx

theorem a8H{a:Act}{s:X2}{args:Array Operand}(h:∀x ∈ args.toList,K4 E w a s x):RdL E w (args.toList.map (P2 s)) (args.map a.eval):=by
 refine⟨by simp,fun i t x hi hx=> ?_⟩
 simp only[List.getElem?_map,Array.getElem?_map,Option.map_eq_some_iff,Array.getElem?_toList] at hi hx
 obtain⟨p,hp,rfl⟩:=hi;obtain⟨q,hq,rfl⟩:=hx;rw[hp] at hq;simp only[Option.some.injEq] at hq;subst hq;exact h p (by simpa using Array.mem_of_getElem? hp)

theorem b7M:∀(d:Nat) {t t':T} {E:Env} {w:World} {v:Value},v7 d t t'->Rd E w t v->Rd E w t' v:=by
 intro d;induction d with
 |zero=>intro t t' E w v h;exact h.elim
 |succ d ih=>
  have list:∀{as bs:List T},v7.matsV (v7 d) as bs->as.length=bs.length/\∀(i:Nat) (a b:T),as[i]? =some a->bs[i]? =some b->v7 d a b:=by
   intro as;induction as with
   |nil=>
    intro bs h;cases bs with
    |nil=>exact⟨rfl,fun i a b ha=>by simp at ha⟩
    |cons=>exact h.elim
   |cons a as iha=>
    intro bs h;cases bs with
    |nil=>exact h.elim
    |cons b bs=>
     obtain⟨h1,h2⟩:=iha h.2;refine⟨by simp[h1],fun i x y hx hy=> ?_⟩
     cases i with
     |zero=>simp at hx hy;subst hx;subst hy;exact h.1
     |succ i=>exact h2 i x y (by simpa using hx) (by simpa using hy)
  have listP:∀{as bs:List T},v7.matsP (v7 d) as bs->∀(i:Nat) (b:T),bs[i]? =some b->∃a,as[i]? =some a/\v7 d a b:=by
   intro as bs;induction bs generalizing as with
   |nil=>intro _ i b hb;simp at hb
   |cons b bs ihb=>
    intro h i c hc;cases as with
    |nil=>exact h.elim
    |cons a as=>
     cases i with
     |zero=>simp at hc;subst hc;exact⟨a,rfl,h.1⟩
     |succ i=>obtain⟨x,hx,hm⟩:=ihb h.2 i c (by simpa using hc);exact⟨x,by simpa using hx,hm⟩
  intro t t' E w v h hx;have rdl:∀{as bs:List T} {vs:Array Value},v7.matsV (v7 d) as bs->as.length=vs.size->(∀(i:Nat) (t:T) (x:Value),as[i]? =some t->vs[i]? =some x->Rd E w t x)->
    bs.length=vs.size/\∀(i:Nat) (t:T) (x:Value),bs[i]? =some t->vs[i]? =some x->Rd E w t x:=by
   intro as bs vs hm hl ht;obtain⟨h1,h2⟩:=list hm;refine⟨by omega,fun i t x hi hx=> ?_⟩
   have hlt:i<as.length:=by rw[h1];exact(List.getElem?_eq_some_iff.1 hi).1
   exact ih (h2 i _ t (List.getElem?_eq_getElem hlt) hi) (ht i _ x (List.getElem?_eq_getElem hlt) hx)
  unfold v7 at h;split at h
  ·exact .und _
  ·split at h
   ·rename_i hk;obtain rfl:=of_decide_eq_true hk;subst h;exact hx
   ·exact h.elim
  ·subst h;exact hx
  ·subst h;exact hx
  ·subst h;exact hx
  ·subst h;rw[a0v hx];exact .slNil _ _
  ·subst h;rw[a0v hx];exact .bysNil
  ·subst h;cases hx with|emp a=>cases a with|none=>exact .slNil _ _|some a=>exact .slEmp _ _ _
  ·subst h;cases hx with|emp a=>cases a with|none=>exact .bysNil|some a=>exact .bysEmp _
  ·exact hx
  ·subst h;exact hx
  ·split at h
   ·rename_i hb;obtain rfl:=Nat.eq_of_beq_eq_true hb;obtain⟨rfl,hr⟩:=h;cases hx with
    |slNil=>exact .slNil _ _
    |slEmp=>exact .slEmp _ _ _
    |sl _ _ _ b off cap u hN hc hl h1 hr' ht=>
     exact .sl _ _ _ b off cap u hN hc (fun i hi=>by rw[←hr i hi];exact hl i hi) (fun i t hi hm=>by rw[←hr i hi] at hm;exact h1 i t hi hm) (fun i j t hi hj=>by rw[←hr i hi] at hj;exact hr' i j t hi hj) (fun i j t hi hj=>by rw[←hr i hi] at hj;exact ht i j t hi hj)
   ·exact h.elim
  ·split at h
   ·rename_i hb;obtain rfl:=Nat.eq_of_beq_eq_true hb;obtain⟨rfl,rfl⟩:=h;exact hx
   ·exact h.elim
  ·split at h
   ·rename_i hb;obtain rfl:=Nat.eq_of_beq_eq_true hb;obtain⟨rfl,rfl⟩:=h;exact hx
   ·exact h.elim
  ·split at h
   ·rename_i hb;obtain rfl:=Nat.eq_of_beq_eq_true hb;exact hx
   ·exact h.elim
  ·cases hx with
   |agg _ vs hl ht=>obtain⟨a1,a2⟩:=rdl h hl ht;exact .agg _ vs a1 a2
  ·cases hx with
   |tup _ vs hl ht=>obtain⟨a1,a2⟩:=rdl h hl ht;exact .tup _ vs a1 a2
  ·obtain⟨rfl,h⟩:=h;cases hx with
   |fn _ _ vs hl ht=>obtain⟨a1,a2⟩:=rdl h hl ht;exact .fn _ _ vs a1 a2
  ·rename_i as bs;split at h
   ·rename_i hcl;have h2:=listP h;cases hx with
    |bref _ b off u hN hc hr ht=>
     refine .bref _ b off u hN (fun t ht=>List.all_eq_true.1 hcl t ht) (fun j t hj=> ?_) (fun j t hj=> ?_)
     ·obtain⟨a,ha,_⟩:=h2 j t hj;exact hr j _ ha
     ·obtain⟨a,ha,hm⟩:=h2 j t hj;exact ih hm (ht j _ ha)
   ·exact h.elim
  ·exact h.elim

theorem b9G:∀{G:K8} {f:FuncId} {c:Con},s5 G f=some c->(f,c) ∈ G:=by
 intro G;induction G with
 |nil=>intro f c h;cases h
 |cons x G ih=>
  intro f c h;obtain⟨g,d⟩:=x;simp only[s5] at h;split at h
  ·rename_i hb;obtain rfl:=Nat.eq_of_beq_eq_true hb;simp only[Option.some.injEq] at h;subst h;simp
  ·simp[ih h]

theorem b23:∀{G:K8} {f:FuncId} {c:Con},(f,c) ∈ G->c.isEff=true->anyEff G=true:=by
 intro G;induction G with
 |nil=>intro f c h;cases h
 |cons x G ih=>
  intro f c h hc;obtain⟨g,d⟩:=x;simp only[anyEff,Bool.or_eq_true];rcases List.mem_cons.1 h with h|h
  ·simp only[Prod.mk.injEq] at h;obtain⟨_,rfl⟩:=h;exact .inl hc
  ·exact .inr (ih h hc)

theorem c4o{G:K8}{f:FuncId}{c:Con}(h:d04 G f=some c):(f,c) ∈ G/\s5 G f=some c:=by
 unfold d04 at h;split at h
 ·rename_i d hd;split at h
  ·simp only[Option.some.injEq] at h;subst h;exact⟨b9G hd,hd⟩
  ·cases h
 ·cases h

theorem a86{as bs:List T}{E:Env}{w:World}{vs:Array Value}(h:a4o as bs)(ha:RdL E w as vs):RdL E w bs vs:=by
 have list:∀{as bs:List T},v7.matsV (v7 6) as bs->as.length=bs.length/\∀(i:Nat) (a b:T),as[i]? =some a->bs[i]? =some b->v7 6 a b:=by
  intro as;induction as with
  |nil=>
   intro bs h;cases bs with
   |nil=>exact⟨rfl,fun i a b ha=>by simp at ha⟩
   |cons=>exact h.elim
  |cons a as iha=>
   intro bs h;cases bs with
   |nil=>exact h.elim
   |cons b bs=>
    obtain⟨h1,h2⟩:=iha h.2;refine⟨by simp[h1],fun i x y hx hy=> ?_⟩
    cases i with
    |zero=>simp at hx hy;subst hx;subst hy;exact h.1
    |succ i=>exact h2 i x y (by simpa using hx) (by simpa using hy)
 obtain⟨e1,e2⟩:=list h;refine⟨by rw[←e1];exact ha.1,fun i t v hi hv=> ?_⟩
 have hlt:i<as.length:=by rw[e1];exact(List.getElem?_eq_some_iff.1 hi).1
 exact b7M 6 (e2 i _ t (List.getElem?_eq_getElem hlt) hi) (ha.2 i _ v (List.getElem?_eq_getElem hlt) hv)

theorem c1N{d:Nat}:∀{as bs:List T},v7.matsV (v7 d) as bs->as.length=bs.length/\∀(i:Nat) (a b:T),as[i]? =some a->bs[i]? =some b->v7 d a b:=by
 intro as;induction as with
 |nil=>
  intro bs h;cases bs with
  |nil=>exact⟨rfl,fun i a b ha=>by simp at ha⟩
  |cons=>exact h.elim
 |cons a as iha=>
  intro bs h;cases bs with
  |nil=>exact h.elim
  |cons b bs=>
   obtain⟨h1,h2⟩:=iha h.2;refine⟨by simp[h1],fun i x y hx hy=> ?_⟩
   cases i with
   |zero=>simp at hx hy;subst hx;subst hy;exact h.1
   |succ i=>exact h2 i x y (by simpa using hx) (by simpa using hy)

theorem a4U:∀{as bs:List T},c92 as bs->as.length=bs.length/\∀(i:Nat) (b:T),bs[i]? =some b->∃a,as[i]? =some a/\c4M a b:=by
 intro as;induction as with
 |nil=>intro bs h;cases bs with
  |nil=>exact⟨rfl,fun i b hb=>by simp at hb⟩
  |cons=>exact h.elim
 |cons a as iha=>intro bs h;cases bs with
  |nil=>exact h.elim
  |cons b bs=>
   obtain⟨h1,h2⟩:=iha h.2;refine⟨by simp[h1],fun i y hy=> ?_⟩
   cases i with
   |zero=>simp at hy;subst hy;exact⟨a,rfl,h.1⟩
   |succ i=>obtain⟨x,hx,hf⟩:=h2 i y (by simpa using hy);exact⟨x,by simpa using hx,hf⟩

theorem a0B{a b:T}(h:c4M a b):(a=b)∨∃ty sz n row ty' row',a= .own ty sz n row/\b= .own ty' sz n row'/\Z7 n row row':=by
 unfold c4M at h;split at h
 ·obtain⟨rfl,rfl,h⟩:=h;exact .inr ⟨_,_,_,_,_,_,rfl,rfl,h⟩
 ·exact .inl h

theorem a3R{E:Env}{w:World}{k:Nat}{o o':Ob}(h:b0p (some o) (some o'))(ho:A0 E w k o):A0 E w k o'/\(∀b,J9 E k o' b↔J9 E k o b)/\∀v ty sz n row,o= .fam v ty sz n row->∃ty' row',o'= .fam v ty' sz n row':=by
 unfold b0p at h;split at h
 ·rename_i cl ty sz n row cl' ty' sz' n' row' he he';simp only[Option.some.injEq] at he he';subst he;subst he';have hblk:∀{o:Ob} (b:Nat),o.isArr=true->(J9 E k o b↔(E.κ k≠0/\b=E.β k)):=fun b hi=>⟨fun hb=>hb.arr hi,fun hb=>.inl hb⟩
  refine⟨?_,fun b=>(hblk b rfl).trans (hblk b rfl).symm,fun _ _ _ _ _ hh=>by cases hh⟩
  obtain⟨e1,e2,e3,e4,e5,cs,tyc,e6,e7,e8⟩:=(show U9 E w k ⟨cl,ty,sz,n,row⟩ from ho)
  show U9 E w k ⟨cl',ty',sz',n',row'⟩;simp only at e1 e2 e3 e4 e5 e7 e8;split at h
  ·rename_i hb;obtain rfl:=Nat.eq_of_beq_eq_true hb;obtain⟨rfl,hr⟩:=h;exact⟨e1,e2,fun i hi=>by simp only;rw[←hr i hi];exact e3 i hi,fun i t hi ht=>e4 i t hi (by rw[hr i hi];exact ht),fun _ i t hi ht=>e5 rfl i t hi (by rw[hr i hi];exact ht),cs,tyc,e6,e7,fun i j t hi hj=>e8 i j t hi (by rw[hr i hi];exact hj)⟩
  ·rename_i hb;obtain rfl:=Nat.eq_of_beq_eq_true hb;split at h
   ·rename_i hone;obtain⟨rfl,rfl,hm⟩:=h;obtain⟨m1,m2⟩:=c1N hm;refine⟨e1,e2,fun i hi=> ?_,fun i t hi ht=> ?_,fun hc=>(by cases hc),cs,tyc,e6,e7,fun i j t hi hj=> ?_⟩
    ·obtain rfl:i=0:=by have:i<1:=hi;omega
     simp only;rw[←m1];exact e3 0 (by omega)
    ·obtain rfl:i=0:=by have:i<1:=hi;omega
     exact List.all_eq_true.1 hone t ht
    ·obtain rfl:i=0:=by have:i<1:=hi;omega
     have hlt:j<(row 0).length:=by rw[m1];exact(List.getElem?_eq_some_iff.1 hj).1
     obtain⟨u,hu,hr⟩:=e8 0 j _ (by omega) (List.getElem?_eq_getElem hlt)
     exact⟨u,hu,b7M 6 (m2 j _ t (List.getElem?_eq_getElem hlt) hj) hr⟩
   ·exact h.elim
  ·exact h.elim
 ·rename_i v ty sz n row v' ty' sz' n' row' he he';simp only[Option.some.injEq] at he he';subst he;subst he';split at h
  case h_2=>exact h.elim
  rename_i hb;obtain rfl:=Nat.eq_of_beq_eq_true hb;obtain⟨rfl,rfl,hr⟩:=h;have hF:FamOk E w k v ty sz n row:=ho;have back:∀(i j:Nat) (t:T),i<n->(row' i)[j]? =some t->∃t0,(row i)[j]? =some t0/\c4M t0 t:=fun i j t hi hj=>(a4U (hr i hi)).2 j t hj
  have ownb:∀(i j:Nat) (oty:TypeId) (osz on:Nat) (orow:Nat->List T),i<n->(row' i)[j]? =some (.own oty osz on orow)->∃(oty0:TypeId) (orow0:Nat->List T),(row i)[j]? =some (.own oty0 osz on orow0)/\Z7 on orow0 orow:=by
   intro i j oty osz on orow hi hj;obtain⟨t0,h0,hc⟩:=back i j _ hi hj;rcases a0B hc with rfl|⟨ty1,sz1,n1,row1,ty2,a1B,rfl,he,hrr⟩
   ·exact⟨_,_,h0,fun _ _=>rfl⟩
   ·cases he;exact⟨_,_,h0,hrr⟩
  refine⟨?_,fun b=>⟨fun hb=> ?_,fun hb=> ?_⟩,fun _ _ _ _ _ hh=>by cases hh;exact⟨_,_,rfl⟩⟩
  ·show FamOk E w k v ty' sz n row';obtain⟨e1,e2,e3,e4,e5,cs,tyc,e6,e7,e8⟩:=hF.arr;refine B6 hF.l2 e1 e2 cs tyc e6 e7 (fun r hr'=>by rw[← (a4U (hr r hr')).1];have:=e3 r hr';rwa [R9] at this) (fun r q t hr' hq=> ?_) (fun i j i' j' oty osz on orow oty' osz' on' orow' hi hi' hj hj' hc hc' he=> ?_)
   ·obtain⟨t0,h0,hc⟩:=back r q t hr' hq;obtain⟨u,hu,hru⟩:=e8 r q (a0R k v r q t0) hr' (by simp only;rw[P6,h0];rfl)
    rcases hF.cell hr' h0 with hco|⟨oty,osz,on,orow,rfl⟩
    ·rcases a0B hc with rfl|⟨_,_,_,_,_,_,rfl,_⟩
     ·rw[R2 hco] at hru;exact⟨u,hu,.inl ⟨hco,hru⟩⟩
     ·simp[closedOne,X4] at hco
    ·obtain⟨g1,g2⟩:=hF.own r q _ _ _ _ hr' h0;have:∃(ty2:TypeId) (a1B:Nat->List T),t= .own ty2 osz on a1B/\Z7 on orow a1B:=by
      rcases a0B hc with rfl|⟨_,_,_,_,_,_,he,rfl,hrr⟩
      ·exact⟨_,_,rfl,fun _ _=>rfl⟩
      ·cases he;exact⟨_,_,rfl,hrr⟩
     obtain⟨ty2,a1B,rfl,hrr⟩:=this;refine⟨u,hu,.inr ⟨_,_,_,_,rfl,hru,?_,g2⟩⟩
     obtain⟨f1,f2,f3,f4,f5,cs2,tyc2,f6,f7,f8⟩:=g1;simp only at f3 f4 f5 f8;exact⟨f1,f2,fun i hi=>by simp only;rw[←hrr i hi];exact f3 i hi,fun i t hi ht=>f4 i t hi (by rw[hrr i hi];exact ht),fun _ i t hi ht=>f5 trivial i t hi (by rw[hrr i hi];exact ht),cs2,tyc2,f6,f7,fun i j t hi hj=>f8 i j t hi (by rw[hrr i hi];exact hj)⟩
   ·obtain⟨_,_,p1,_⟩:=ownb i j _ _ _ _ hi hj;obtain⟨_,_,p2,_⟩:=ownb i' j' _ _ _ _ hi' hj';exact hF.inj i j i' j' _ _ _ _ _ _ _ _ hi hi' p1 p2 hc hc' he
  ·rcases hb with hb|⟨v0,ty0,sz0,n0,V0,i0,j0,oty1,osz1,on1,orow1,hobe,hi0,hj0,hc0,rfl⟩
   ·exact .inl hb
   ·simp only[Ob.fam.injEq] at hobe;obtain⟨rfl,rfl,rfl,rfl,rfl⟩:=hobe;obtain⟨_,_,p1,_⟩:=ownb i0 j0 _ _ _ _ hi0 hj0;exact .inr ⟨_,_,_,_,_,_,_,_,_,_,_,rfl,hi0,p1,hc0,rfl⟩
  ·rcases hb with hb|⟨v0,ty0,sz0,n0,V0,i0,j0,oty1,osz1,on1,orow1,hobe,hi0,hj0,hc0,rfl⟩
   ·exact .inl hb
   ·simp only[Ob.fam.injEq] at hobe;obtain⟨rfl,rfl,rfl,rfl,rfl⟩:=hobe;have hl:=(a4U (hr i0 hi0)).1;have hlt:j0<(row' i0).length:=by rw[←hl];exact(List.getElem?_eq_some_iff.1 hj0).1
    obtain⟨t0,h0,hc⟩:=back i0 j0 _ hi0 (List.getElem?_eq_getElem hlt)
    rw[hj0] at h0;simp only[Option.some.injEq] at h0;subst h0;have hg:=List.getElem?_eq_getElem hlt
    rcases a0B hc with he|⟨_,_,_,_,_,_,he,he2,_⟩
    ·rw[←he] at hg;exact .inr ⟨_,_,_,_,_,_,_,_,_,_,_,rfl,hi0,hg,hc0,rfl⟩
    ·rw[he2] at hg;exact .inr ⟨_,_,_,_,_,_,_,_,_,_,_,rfl,hi0,hg,hc0,rfl⟩
 ·rename_i ty l ty' l' he he';simp only[Option.some.injEq] at he he';subst he;subst he';subst h;refine⟨?_,fun b=> ?_,fun _ _ _ _ _ hh=>by cases hh⟩
  ·exact ho
  ·exact⟨fun hb=>.inl (hb.arr rfl),fun hb=>.inl (hb.arr rfl)⟩
 ·exact h.elim

theorem d1A:∀{H H':Y5},b7n H H'->H.length=H'.length/\∀k,(Z4 H k=none/\Z4 H' k=none)∨∃o o',Z4 H k=some o/\Z4 H' k=some o'/\b0p (some o) (some o'):=by
 intro H;induction H with
 |nil=>intro H' h;cases H' with
  |nil=>exact⟨rfl,fun k=>.inl ⟨rfl,rfl⟩⟩
  |cons=>exact h.elim
 |cons o H ih=>intro H' h;cases H' with
  |nil=>exact h.elim
  |cons o' H'=>
   obtain⟨h1,h2⟩:=ih h.2;refine⟨by simp[h1],fun k=> ?_⟩
   cases k with
   |zero=>
    have hm:=h.1;cases o with
    |none=>simp[b0p] at hm
    |some o=>cases o' with
     |none=>simp[b0p] at hm
     |some o'=>exact .inr ⟨o,o',rfl,rfl,hm⟩
   |succ k=>simpa[Z4] using h2 k

theorem b8E{P:Program}{f:FuncId}{args args':List T}{H1 H2 H':Y5}{res:T}(ha:a4o args args')(hh:b7n H1 H2)(h:V7 P f args' H2 res H'):V7 P f args H1 res H':=by
 intro E w vs hH hN hv;obtain⟨h1,h2⟩:=d1A hh;have hb:∀k o',Z4 H2 k=some o'->∃o,Z4 H1 k=some o/\A0 E w k o'/\(∀b,J9 E k o' b↔J9 E k o b)/\∀v ty sz n row,o= .fam v ty sz n row->∃ty' row',o'= .fam v ty' sz n row':=fun k o' hk=>by
  rcases h2 k with⟨_,h3⟩|⟨o,o2,h3,h4,h5⟩
  ·rw[hk] at h3;cases h3
  ·rw[hk] at h4;simp only[Option.some.injEq] at h4;subst h4;exact⟨o,h3,a3R h5 (hH.live k o h3).2.1⟩
 have hH2:HeapOk E w H2:=by
  refine⟨fun k o' hk=> ?_,fun k k' o o' b hk hk' hx hx'=> ?_,fun k hk=>by rw[←h1];exact hH.lt k hk,hH.l2,fun k o' v hk hv=> ?_⟩
  ·obtain⟨o,g1,g2,g3,_⟩:=hb k o' hk;obtain⟨l1,_,l3⟩:=hH.live k o g1;exact⟨l1,g2,fun b hx=>l3 b ((g3 b).1 hx)⟩
  ·obtain⟨o1,g1,_,g3,_⟩:=hb k o hk;obtain⟨o2,g4,_,g6,_⟩:=hb k' o' hk';exact hH.inj k k' o1 o2 b g1 g4 ((g3 b).1 hx) ((g6 b).1 hx')
  ·obtain⟨o,g1,_,_,g4⟩:=hb k o' hk;obtain⟨v0,ty,sz,n,row,he,hle⟩:=hH.cur k o v g1 hv;obtain⟨ty',row',he'⟩:=g4 _ _ _ _ _ he;exact⟨v0,ty',sz,n,row',he',hle⟩
 have hX:XB E H2=XB E H1:=by
  funext b
  refine propext ⟨fun⟨k,o',hk,hx⟩=> ?_,fun⟨k,o,hk,hx⟩=> ?_⟩
  ·obtain⟨o,g1,_,g3,_⟩:=hb k o' hk;exact⟨k,o,g1,(g3 b).1 hx⟩
  ·rcases h2 k with⟨h3,_⟩|⟨o1,o2,h3,h4,h5⟩
   ·rw[hk] at h3;cases h3
   ·rw[hk] at h3;simp only[Option.some.injEq] at h3;subst h3;exact⟨k,o2,h4,((a3R h5 (hH.live k o hk).2.1).2.1 b).2 hx⟩
 have:=h E w vs hH2 hN (a86 ha hv);rw[hX] at this;exact this

structure Good(P:Program)(G G':K8):Prop where
 ok:I8 P G'
 call:∀x ∈ G',Z8 P x.1
 stays:∀op,stays G' op=stays G op
 grow:∀op,w8 G' op=w8 G op

theorem a6p{G:K8}{f:FuncId}{c:Con}(h:s5 G f=some c)(hr:c.isRel=true):a3x G f=none/\gmk G f=none:=by
 induction G with
 |nil=>cases h
 |cons x G ih=>
  obtain⟨g,d⟩:=x;simp only[s5] at h;simp only[a3x,gmk];split at h
  ·simp only[Option.some.injEq] at h;subst h;cases d<;>first|exact⟨rfl,rfl⟩|(cases hr)
  ·exact ih h

theorem a0Y(hG:I8 P G)(hGc:∀x ∈ G,Z8 P x.1){s:X2}{op:Op}{k:K8->Prop}(h:a4a G s op k):∃G',Good P G G'/\k G':=by
 unfold a4a at h;split at h
 ·exact⟨G,⟨hG,hGc,fun _=>rfl,fun _=>rfl⟩,h⟩
 ·rename_i f r hr;have hgr:d04 G f=some r:=by
   unfold d3i at hr;split at hr
   ·split at hr
    ·simp only[Option.map_eq_some_iff,Prod.mk.injEq] at hr;obtain⟨r',h1,rfl,rfl⟩:=hr;exact h1
    ·cases hr
   ·cases hr
  obtain⟨hm,hge⟩:=c4o hgr;have good:∀d:Con,Z2 P f d->d.isMk=r.isMk->(∀y,isEff ((f,d)::G) y=isEff G y)->b3O ((f,d)::G)=b3O G->Good P G ((f,d)::G):=by
   intro d hd he hie htb;have hts:∀op,a1G ((f,d)::G) op=a1G G op:=fun op=>by
    unfold a1G;rw[htb]
   have him:∀y:Operand,isMk ((f,d)::G) y=isMk G y:=by
    intro y;cases y with
    |func g=>
     simp only[isMk,s5];cases hb:Nat.beq g f with
     |true=>rw[Nat.eq_of_beq_eq_true hb,hge];exact he
     |false=>rfl
    |_=>rfl
   refine⟨fun y hy=> ?_,fun y hy=> ?_,fun op=> ?_,fun op=>by unfold w8;split<;>first|rfl|exact him _⟩
   ·rcases List.mem_cons.1 hy with rfl|hy
    ·exact hd
    ·exact hG y hy
   ·rcases List.mem_cons.1 hy with rfl|hy
    ·exact hGc (f,r) hm
    ·exact hGc y hy
   ·unfold SS.stays;rw[hts];have:D0 ((f,d)::G) op=D0 G op:=by
     unfold D0;split<;>first|rfl|rw[hie]
    rw[this]
  have hie:∀d:Con,d.isEff=r.isEff->∀y:Operand,isEff ((f,d)::G) y=isEff G y:=by
   intro d he y;cases y with
   |func g=>
    simp only[isEff,s5];cases hb:Nat.beq g f with
    |true=>rw[Nat.eq_of_beq_eq_true hb,hge];exact he
    |false=>rfl
   |_=>
    simp only[isEff,anyEff];cases hd:d.isEff with
    |false=>rfl
    |true=>rw[b23 hm (he.symm.trans hd)];rfl
  split at h
  ·rename_i r;obtain⟨x,hx⟩:=h;refine⟨_,good (.pure fun as=>some (r.res x,some (a4o as (r.args x)/\r.side x))) ?_ rfl (hie _ rfl) rfl,hx⟩
   intro as res p he hp;simp only[Option.some.injEq,Prod.mk.injEq] at he;obtain⟨rfl,rfl⟩:=he;obtain⟨h1,h2⟩:=hp;have hpf:=hG _ hm x h2;intro E w vs hL hN ha;exact hpf E w vs hL hN (a86 h1 ha)
  ·rename_i r;obtain⟨x,hx⟩:=h;refine⟨_,good (.eff fun as H=>d1p r x as H) ?_ rfl (hie _ rfl) rfl,hx⟩
   have base:a5e P f fun as H=>some (r.res x,r.post x,some (a4o as (r.args x)/\b7n H (r.pre x)/\r.side x)):=by
    intro as H res H' p he hp;simp only[Option.some.injEq,Prod.mk.injEq] at he;obtain⟨rfl,rfl,rfl⟩:=he;obtain⟨h1,h2,h3⟩:=hp;exact b8E h1 h2 (hG _ hm x h3)
   intro as H res H' p he hp;replace he:d1p r x as H=some (res,H',p):=he;unfold d1p at he;split at he
   ·exact base as H res H' p he hp
   ·exact d5r base as H res H' p he hp
  ·rename_i r;obtain⟨x,hx⟩:=h;refine⟨_,good (.mk fun as=>some (r.res x,r.post x,some (a4o as (r.args x)/\r.side x))) ?_ rfl (hie _ rfl) rfl,hx⟩
   intro as res H' p he hp;simp only[Option.some.injEq,Prod.mk.injEq] at he;obtain⟨rfl,rfl,rfl⟩:=he;obtain⟨h1,h3⟩:=hp;obtain⟨q1,q2,q3⟩:=hG _ hm x h3;exact⟨b8E (H2:=[]) h1 (show b7n [] [] from trivial) q1,q2,q3⟩
  ·rename_i r;obtain⟨x,hx⟩:=h;refine⟨_,good (.fz fun as=>some (r.res x,some (a4o as (r.args x)/\r.side x))) ?_ rfl (hie _ rfl) rfl,hx⟩
   intro as res p he hp;simp only[Option.some.injEq,Prod.mk.injEq] at he;obtain⟨rfl,rfl⟩:=he;obtain⟨h1,h2⟩:=hp;have hpf:=hG _ hm x h2;intro E w vs hL hN ha;exact hpf E w vs hL hN (a86 h1 ha)
  ·exact⟨G,⟨hG,hGc,fun _=>rfl,fun _=>rfl⟩,h⟩

theorem d54(hG:I8 P G)(hGc:∀x ∈ G,Z8 P x.1)(h:Inv c E H w){a:Act}{s:X2}{o:Oper}{y:T}{H':Y5}{side:Option Prop}(he:O7 P G s H o.op=some (y,H',side))(hs:side.getD True)
  (hop:∀x ∈ S7 o.op,K4 E w a s x)
  (hpk:∀c x y,o.op= .pick c x y->(∀b,P2 s c= .bool b->b=true->K4 E w a s x)/\(∀b,P2 s c= .bool b->b=false->K4 E w a s y))
  {K:Act->World->Prop} {Q:Exit->Act->World->Prop} (hk:d3g c E w o a y H' K):o.wp P a w K Q:=by
 unfold O7 at he;split at he
 ·rename_i t p hv;simp only[Option.some.injEq,Prod.mk.injEq] at he;obtain⟨rfl,rfl,rfl⟩:=he;obtain⟨v,hrun,hr⟩:=d4s (P:=P) hv hs h.heap hop hpk;exact t3 hrun (hk v w E h (Step.refl E w) hr)
 ·split at he
  ·rename_i r hm;simp only[Option.some.injEq] at he;subst he;obtain⟨w',E',hrun,hI,hst⟩:=d5c (P:=P) h hm hs hop;rcases hrun with⟨v,hrun,hr⟩|⟨hrun,rfl⟩
   ·exact t3 hrun (hk v w' E' hI hst hr)
   ·exact d2P hrun (hk undef w' E' hI hst (.und _))
  ·split at he
   ·rename_i x args argTypes hoe;have hmem:∀{α:Type} (g:Con->Option α) (sel:K8->FuncId->Option α),(∀f,sel [] f=none)->(∀h c r f,sel ((h,c)::r) f=match Nat.beq f h with|true=>g c|false=>sel r f)->∀(G:K8) (f:FuncId) (r:α),sel G f=some r->∃x ∈ G,x.1=f:=by
     intro α g sel h1 h2 G;induction G with
     |nil=>intro f r h;rw[h1] at h;cases h
     |cons x G ih=>
      intro f r h;obtain⟨a,b⟩:=x;rw[h2] at h;split at h
      ·rename_i hb;exact⟨(a,b),by simp,(Nat.eq_of_beq_eq_true hb).symm⟩
      ·obtain⟨x,hx,he⟩:=ih f r h;exact⟨x,by simp[hx],he⟩
    have effCall:∀{g:FuncId} {as:List T},a1n G H g as=some (y,H',side)->Z8 P g:=by
     intro g as he;unfold a1n at he;split at he
     ·rename_i c0 hc0;obtain⟨y,hy,rfl⟩:=hmem (fun c=>match c with| .eff c=>some c|_=>none) a3x (fun _=>rfl) (fun _ _ _ _=>rfl) G g c0 hc0
      exact hGc y hy
     ·split at he
      ·rename_i c0 hc0;obtain⟨y,hy,rfl⟩:=hmem (fun c=>match c with| .mk c=>some c|_=>none) gmk (fun _=>rfl) (fun _ _ _ _=>rfl) G g c0 hc0
       exact hGc y hy
      ·split at he
       ·rename_i c0 hc0;obtain⟨y,hy,rfl⟩:=hmem (fun c=>match c with| .fz c=>some c|_=>none) gfz (fun _=>rfl) (fun _ _ _ _=>rfl) G g c0 hc0
        exact hGc y hy
       ·cases he
    have pureGo:∀{g:FuncId} {cs:List T},a73 s x=some (g,cs)->((y5 G H g (args.toList.map (P2 s)++cs)).map fun r=>(r.1,H,r.2))=some (y,H',side)->o.wp P a w K Q:=by
     intro g cs hfn he;cases hp:y5 G H g (args.toList.map (P2 s)++cs) with
     |none=>rw[hp] at he;cases he
     |some r=>
      rw[hp] at he;simp only[Option.map_some,Option.some.injEq,Prod.mk.injEq] at he;obtain⟨rfl,rfl,rfl⟩:=he;rw[hoe] at hop;obtain⟨caps,hx,hcaps⟩:=b7w hfn (hop x (by simp[S7,Op.operands,Call.operands]))
      have hargs:=a4m (a8H (args:=args) (fun x hx=>hop x (by simp only[S7,Op.operands,Call.operands,Array.toList_append,List.mem_append];exact .inr hx))) hcaps
      have hcallable:Z8 P g:=by
       have:∃args r,gam G g args=some r:=by
        unfold y5 at hp;split at hp
        ·exact⟨_,_,hp⟩
        ·split at hp
         ·split at hp
          ·rename_i hg;exact⟨_,_,hg⟩
          ·cases hp
         ·cases hp
       obtain⟨as,rr,hg⟩:=this;obtain⟨y,hy,rfl⟩:=hmem (fun c=>match c with| .pure c=>c as|_=>none) (fun G f=>gam G f as) (fun _=>rfl) (fun _ _ _ _=>rfl) G g rr hg
       exact hGc y hy
      refine a4d (a40 (P:=P) (w:=w) hoe hcallable hx) ((c9s hG h hp hs hargs).mono fun e w' hh=> ?_)
      obtain⟨v,E',rfl,hI,hst,hr⟩:=hh;exact⟨v,rfl,hk v w' E' hI hst hr⟩
    split at he
    ·split at he
     ·rename_i g hie;have hcallable:=effCall he;rw[hoe] at hop;have hargs:=a8H (args:=args) (fun x hx=>hop x (by simp only[S7,Op.operands,Call.operands,Array.toList_append,List.mem_append];exact .inr hx))
      have hrun:=a40 (P:=P) (w:=w) (caps:= #[]) hoe hcallable (a:=a) (x:=.func g) rfl;rw[Array.append_empty] at hrun;refine a4d hrun ((c3R hG h he hs hargs).mono fun e w' hh=> ?_)
      obtain⟨v,E',rfl,hI,hst,hr⟩:=hh;exact⟨v,rfl,hk v w' E' hI hst hr⟩
     ·split at he
      ·rename_i g cs hfn;split at he
       ·have hcallable:=effCall he;rw[hoe] at hop;obtain⟨caps,hx,hcaps⟩:=b7w hfn (hop _ (by simp[S7,Op.operands,Call.operands]))
        have hargs:=a4m (a8H (args:=args) (fun x hx=>hop x (by simp only[S7,Op.operands,Call.operands,Array.toList_append,List.mem_append];exact .inr hx))) hcaps
        refine a4d (a40 (P:=P) (w:=w) hoe hcallable hx) ((c3R hG h he hs hargs).mono fun e w' hh=> ?_)
        obtain⟨v,E',rfl,hI,hst,hr⟩:=hh;exact⟨v,rfl,hk v w' E' hI hst hr⟩
       ·exact pureGo hfn he
      ·cases he
    ·split at he
     ·rename_i g cs hfn;exact pureGo hfn he
     ·cases he
   ·cases he

theorem a9x(hG:I8 P G)(hGc:∀x ∈ G,Z8 P x.1)(h:Inv c E H w){a:Act}{s:X2}{o:Oper}{y:T}{H':Y5}{side:Option Prop}(he:D5 P G s H o.op=some (y,H',side))(hs:side.getD True)
  (hop:∀x ∈ S7 o.op,K4 E w a s x)
  (hpk:∀c x y,o.op= .pick c x y->(∀b,P2 s c= .bool b->b=true->K4 E w a s x)/\(∀b,P2 s c= .bool b->b=false->K4 E w a s y))
  {K:Act->World->Prop} {Q:Exit->Act->World->Prop} (hk:d3g c E w o a y H' K):o.wp P a w K Q:=by
 unfold D5 at he;split at he
 ·rename_i ht;split at he
  ·rename_i t p hv;simp only[Option.some.injEq,Prod.mk.injEq] at he;obtain⟨rfl,rfl,rfl⟩:=he;unfold a1G at ht;split at ht
   ·rename_i ty n parts hoe;rw[hoe] at hv hop;obtain⟨r,w',E',hrun,h1,h2,h3⟩:=d5z (P:=P) (a:=a) h (show a9k P s ty (n+1) parts=some (_,_) from hv) (fun p hp=>hop p.2 (by simp only[S7,Op.operands,List.mem_map];exact⟨p,hp,rfl⟩))
    refine t3 (w':=w') (v:=r) ?_ (hk r w' E' h2 h3 h1)
    simp only[execOp,hoe,Sem.run_bind,hrun,Result.andThen_ok,Sem.run_pure]
   ·rename_i ty parts hoe;rw[hoe] at hv hop;obtain⟨r,w',E',hrun,h1,h2,h3⟩:=d2r (P:=P) (a:=a) h hv;refine t3 (w':=w') (v:=r) ?_ (hk r w' E' h2 h3 h1)
    simp only[execOp,hoe,Sem.run_bind,hrun,Result.andThen_ok,Sem.run_pure]
   ·rename_i args argTypes hoe;rw[hoe] at hv hop;simp only[b7W] at hv;split at hv
    case h_2=>cases hv
    rename_i d x t1 tx ha hat;obtain rfl:args= #[d,x]:=Array.ext' (by simpa using ha)
    obtain rfl:argTypes= #[t1,tx]:=Array.ext' (by simpa using hat)
    split at hv
    case h_2=>cases hv
    rename_i e hd hu;split at hv
    case h_2=>cases hv
    rename_i i z hi hz;split at hv
    case h_2=>cases hv
    rename_i q hl hq;split at hv
    case h_2=>cases hv
    rename_i hcl;simp only[Option.some.injEq,Prod.mk.injEq] at hv;obtain⟨rfl,rfl⟩:=hv;have hdo:=hop d (by simp[S7,Op.operands,Call.operands])
    unfold K4 at hdo;rw[hd] at hdo;obtain⟨r,w',E',hrun,h1,h2,h3⟩:=d2a (P:=P) (ty:=o.type) h hu hi hz hl hq hcl hs hdo (hop x (by simp[S7,Op.operands,Call.operands]))
    refine t3 (w':=w') (v:=r) ?_ (hk r w' E' h2 h3 h1)
    simp[execOp,hoe,resolve,invoke,builtin,hrun,Result.andThen]
   ·cases ht
  ·cases he
 ·exact d54 hG hGc h he hs hop hpk hk

end
end Go.SS
