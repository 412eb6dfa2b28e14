/- A calculus of symbolic states: an operation of whatever kind. -/
import Derived.Test.YtokaojbaacnngaaGreatSSR2
import Derived.Test.YtokaojbaacnngaaGreatSSV
namespace Go.SS
open Go.RowKit
section
variable {c:Ctx} {E:Env} {H:Y6} {w:World} {P:Program} {G:K3}

theorem c33(hG:H3 P G)(h:Inv c E H w){f:FuncId}{args:List T}{vs:Array Value}{r:T}{p:Option Prop}(he:u3 G H f args=some (r,p))(hp:p.getD True)(ha:xX E w args vs):
  Calls P f vs w fun e w'=>∃v E',e= .returned v/\Inv c E' H w'/\Step E w E' w'/\Rd E' w' r v:=by
 unfold u3 at he;split at he
 ·rename_i hcl;have hpf:=b4S hG he hp;have:=hpf {E with L:=fun _=>False,L2:=fun _ _=>False} w vs (fun _=>⟨fun h=>h,fun _ h=>h⟩) h.nlt ⟨ha.1,fun i t x hi hx=>Rd.closedD (E:=E) (E':={E with L:=fun _=>False,L2:=fun _ _=>False}) (fun _ h=>h) 6 (ha.2 i t x hi hx) (t5.1 hcl t (E8 hi))⟩
  refine this.mono fun e w' hh=> ?_
  obtain⟨v,rfl,hb,hr⟩:=hh;obtain⟨h1,h2⟩:=h.grow hb.os hb.tape hb.output hb.size hb.block;exact⟨v,_,rfl,h1,h2,Rd.mono (E:=({E with L:=fun _=>False,L2:=fun _ _=>False}:Env).addN fun b=>w.heap.size<=b/\b<w'.heap.size) (E':=E.addN fun b=>w.heap.size<=b/\b<w'.heap.size) ⟨fun _ h=>h,fun _ h=>False.elim h,fun _ h=>False.elim h,fun _ h=>False.elim h,fun _ h=>False.elim h,fun _ _ h=>False.elim h,fun _ _ _ _ h=>False.elim h,fun _ _ _ _ h=>False.elim h⟩ (fun _ _=>rfl) hr⟩
 ·split at he
  ·rename_i bs hbs;split at he
   ·rename_i r' p' hg;split at he
    ·rename_i hpl;simp only[X6,V1] at he;obtain⟨rfl,rfl⟩:=he;obtain⟨hp1,hp2⟩:=l7 hp;have hpf:=b4S hG hg hp2;obtain⟨b1,b2⟩:=O3 hbs;have:=hpf (E.lent 0 H) w vs (fun _=>⟨fun h=>absurd h.2 (J2 _),fun _ h=>absurd h.2 (J2 _)⟩) (fun b hb=>by
      rcases hb with hb|⟨k,ob,_,hk,hb⟩
      ·exact h.nlt b hb
      ·exact h.heap.blt hk hb) ⟨by simp[b1,ha.1],fun i t x hi hx=>by
       simp only[sJ,L8] at hi
       obtain⟨y,hy,rfl⟩:=hi;have hlt:i<args.length:=by rw[←b1];exact(C8.1 hy).1
       have hc:=O1 hlt
       exact C3 h 6 (r:=y.1) (p:=y.2) (b2 i _ y hc hy) (l9 hp1 y (E8 hy)) (ha.2 i _ x hc hx)⟩
     refine this.mono fun e w' hh=> ?_
     obtain⟨v,rfl,hb,hr⟩:=hh;obtain⟨h1,h2⟩:=h.grow hb.os hb.tape hb.output hb.size hb.block;exact⟨v,_,rfl,h1,h2,hr.plain 6 hpl⟩
    ·cases he
   ·cases he
  ·cases he

def c4U(c:Ctx)(E:Env)(w:World)(o:Oper)(a:Act)(y:T)(H':Y6)(K:Act->World->Prop):Prop:=
 ∀v w' E',Inv c E' H' w'->Step E w E' w'->Rd E' w' y v->K (a.put o.dst v) w'

theorem k8{o:Oper}{a:Act}{K:Act->World->Prop}{Q:Exit->Act->World->Prop}{v:Value}{w':World}(h:(execOp a.eval o).run P w= .ok (.value v) w')(hk:K (a.put o.dst v) w'):o.wp P a w K Q:=by
 unfold Oper.wp;rw[h];exact hk

theorem c3G{o:Oper}{a:Act}{K:Act->World->Prop}{Q:Exit->Act->World->Prop}{w':World}(h:(execOp a.eval o).run P w= .ok .skip w')(hk:K (a.put o.dst undef) w'):o.wp P a w K Q:=by
 unfold Oper.wp;rw[h];exact hk

theorem kW{o:Oper}{a:Act}{K:Act->World->Prop}{Q:Exit->Act->World->Prop}{f:FuncId}{vs:Array Value}{w':World}(h:(execOp a.eval o).run P w= .ok (.enter f vs) w')
  (hk:Calls P f vs w' fun e w''=>∃v,e= .returned v/\K (a.put o.dst v) w''):o.wp P a w K Q:=by
 unfold Oper.wp;rw[h,Oper.upon_enter];refine hk.mono fun e w'' hh=> ?_
 obtain⟨v,rfl,hv⟩:=hh;exact hv

theorem a8V{a:Act}{s:W9}{x:Operand}{f:FuncId}{cs:List T}(h:a0f s x=some (f,cs))(hx:J5 E w a s x):∃caps,a.eval x= .func (.func f) #[] caps/\xX E w cs caps:=by
 unfold a0f at h;split at h
 ·simp only[X6,V1] at h;obtain⟨rfl,rfl⟩:=h;exact⟨#[],rfl,rfl,fun i t x hi=>by simp at hi⟩
 ·unfold J5 at hx;split at h
  ·rename_i g cs' he;simp only[X6,V1] at h;obtain⟨rfl,rfl⟩:=h;rw[he] at hx;generalize a.eval x=v at hx;cases hx with
   |fn _ _ vs hl ht=>exact⟨vs,rfl,hl,ht⟩
  ·rename_i g first caps he
   rw[he] at hx;split at h
   ·rename_i hf hc;simp only[X6,V1] at h;obtain⟨rfl,rfl⟩:=h;obtain rfl:first= #[]:=Array.ext' (by simpa using hf)
    obtain rfl:caps= #[]:=Array.ext' (by simpa using hc)
    exact⟨#[],yL hx,rfl,fun i t x hi=>by simp at hi⟩
   ·cases h
  ·cases h

def Z7(P:Program)(f:FuncId):Prop:=∃fn,P.funcs[f]? =some fn/\(fn.name== "runtime.NumGoroutine")=false/\fn.body.isNone=false

theorem nN{a:Act}{o:Oper}{x:Operand}{args:Array Operand}{at_:Array TypeId}{f:FuncId}{caps:Array Value}(ho:o.op= .call {callee:=.value x,args:=args,argTypes:=at_})(hf:Z7 P f)(hx:a.eval x= .func (.func f) #[] caps):
  (execOp a.eval o).run P w= .ok (.enter f (args.map a.eval++caps)) w:=by
 obtain⟨fn,h1,h2,h3⟩:=hf;simp only[execOp,ho,resolve,hx,Deferred.ofValue,L1,I1,L7,invoke,callFunc,run_program,h1,h2,h3];simp

theorem lG{as bs:List T}{us vs:Array Value}(h:xX E w as us)(k:xX E w bs vs):xX E w (as++bs) (us++vs):=by
 refine⟨by simp[h.1,k.1],fun i t x hi hx=> ?_⟩
 rw[List.getElem?_append] at hi
 rw[Array.getElem?_append] at hx
 rw[←h.1] at hx;split at hi
 ·rename_i hlt;rw[if_pos hlt] at hx;exact h.2 i t x hi hx
 ·rename_i hlt;rw[if_neg hlt] at hx;exact k.2 _ t x hi hx

theorem dY{a:Act}{s:W9}{args:Array Operand}(h:∀x ∈ args.toList,J5 E w a s x):xX E w (args.toList.map (P0 s)) (args.map a.eval):=by
 refine⟨by simp,fun i t x hi hx=> ?_⟩
 simp only[sJ,Array.getElem?_map,L8,Array.getElem?_toList] at hi hx
 obtain⟨p,hp,rfl⟩:=hi;obtain⟨q,hq,rfl⟩:=hx;rw[hp] at hq;simp only[X6] at hq;subst hq;exact h p (by simpa using Array.mem_of_getElem? hp)

theorem a9r:∀(d:Nat) {t t':T} {E:Env} {w:World} {v:Value},r8 d t t'->Rd E w t v->Rd E w t' v:=by
 intro d;induction d with
 |zero=>intro t t' E w v h;exact h.elim
 |succ d ih=>
  have list:∀{as bs:List T},r8.matsV (r8 d) as bs->as.length=bs.length/\∀(i:Nat) (a b:T),as[i]? =some a->bs[i]? =some b->r8 d a b:=by
   intro as;induction as with
   |nil=>
    intro bs h;cases bs with
    |nil=>exact⟨rfl,fun i a b ha=>by simp at ha⟩
    |cons=>exact h.elim
   |cons a as iha=>
    intro bs h;cases bs with
    |nil=>exact h.elim
    |cons b bs=>
     obtain⟨h1,h2⟩:=iha h.2;refine⟨by simp[h1],fun i x y hx hy=> ?_⟩
     cases i with
     |zero=>simp at hx hy;subst hx;subst hy;exact h.1
     |succ i=>exact h2 i x y (by simpa using hx) (by simpa using hy)
  have listP:∀{as bs:List T},r8.matsP (r8 d) as bs->∀(i:Nat) (b:T),bs[i]? =some b->∃a,as[i]? =some a/\r8 d a b:=by
   intro as bs;induction bs generalizing as with
   |nil=>intro _ i b hb;simp at hb
   |cons b bs ihb=>
    intro h i c hc;cases as with
    |nil=>exact h.elim
    |cons a as=>
     cases i with
     |zero=>simp at hc;subst hc;exact⟨a,rfl,h.1⟩
     |succ i=>obtain⟨x,hx,hm⟩:=ihb h.2 i c (by simpa using hc);exact⟨x,by simpa using hx,hm⟩
  intro t t' E w v h hx;have rdl:∀{as bs:List T} {vs:Array Value},r8.matsV (r8 d) as bs->as.length=vs.size->(∀(i:Nat) (t:T) (x:Value),as[i]? =some t->vs[i]? =some x->Rd E w t x)->
    bs.length=vs.size/\∀(i:Nat) (t:T) (x:Value),bs[i]? =some t->vs[i]? =some x->Rd E w t x:=by
   intro as bs vs hm hl ht;obtain⟨h1,h2⟩:=list hm;refine⟨by omega,fun i t x hi hx=> ?_⟩
   have hlt:i<as.length:=by rw[h1];exact(C8.1 hi).1
   exact ih (h2 i _ t (O1 hlt) hi) (ht i _ x (O1 hlt) hx)
  unfold r8 at h;split at h
  ·exact .und _
  ·split at h
   ·rename_i hk;obtain rfl:=D8 hk;subst h;exact hx
   ·exact h.elim
  ·subst h;exact hx
  ·subst h;exact hx
  ·subst h;exact hx
  ·subst h;rw[yL hx];exact .slNil _ _
  ·subst h;rw[yL hx];exact .bysNil
  ·subst h;cases hx with|emp a=>cases a with|none=>exact .slNil _ _|some a=>exact .slEmp _ _ _
  ·subst h;cases hx with|emp a=>cases a with|none=>exact .bysNil|some a=>exact .bysEmp _
  ·exact hx
  ·subst h;exact hx
  ·split at h
   ·rename_i hb;obtain rfl:=K1 hb;obtain⟨rfl,hr⟩:=h;cases hx with
    |slNil=>exact .slNil _ _
    |slEmp=>exact .slEmp _ _ _
    |sl _ _ _ b off cap u hN hc hl h1 hr' ht=>
     exact .sl _ _ _ b off cap u hN hc (fun i hi=>by rw[←hr i hi];exact hl i hi) (fun i t hi hm=>by rw[←hr i hi] at hm;exact h1 i t hi hm) (fun i j t hi hj=>by rw[←hr i hi] at hj;exact hr' i j t hi hj) (fun i j t hi hj=>by rw[←hr i hi] at hj;exact ht i j t hi hj)
   ·exact h.elim
  ·split at h
   ·rename_i hb;obtain rfl:=K1 hb;obtain⟨rfl,rfl⟩:=h;exact hx
   ·exact h.elim
  ·split at h
   ·rename_i hb;obtain rfl:=K1 hb;obtain⟨rfl,rfl⟩:=h;exact hx
   ·exact h.elim
  ·split at h
   ·rename_i hb;obtain rfl:=K1 hb;exact hx
   ·exact h.elim
  ·cases hx with
   |agg _ vs hl ht=>obtain⟨a1,a2⟩:=rdl h hl ht;exact .agg _ vs a1 a2
  ·cases hx with
   |tup _ vs hl ht=>obtain⟨a1,a2⟩:=rdl h hl ht;exact .tup _ vs a1 a2
  ·obtain⟨rfl,h⟩:=h;cases hx with
   |fn _ _ vs hl ht=>obtain⟨a1,a2⟩:=rdl h hl ht;exact .fn _ _ vs a1 a2
  ·rename_i as bs;split at h
   ·rename_i hcl;have h2:=listP h;cases hx with
    |bref _ b off u hN hc hr ht=>
     refine .bref _ b off u hN (fun t ht=>t5.1 hcl t ht) (fun j t hj=> ?_) (fun j t hj=> ?_)
     ·obtain⟨a,ha,_⟩:=h2 j t hj;exact hr j _ ha
     ·obtain⟨a,ha,hm⟩:=h2 j t hj;exact ih hm (ht j _ ha)
   ·exact h.elim
  ·exact h.elim

theorem b3W:∀{G:K3} {f:FuncId} {c:Con},k4 G f=some c->(f,c) ∈ G:=by
 intro G;induction G with
 |nil=>intro f c h;cases h
 |cons x G ih=>
  intro f c h;obtain⟨g,d⟩:=x;simp only[k4] at h;split at h
  ·rename_i hb;obtain rfl:=K1 hb;simp only[X6] at h;subst h;simp
  ·simp[ih h]

theorem a6I:∀{G:K3} {f:FuncId} {c:Con},(f,c) ∈ G->c.isEff=true->anyEff G=true:=by
 intro G;induction G with
 |nil=>intro f c h;cases h
 |cons x G ih=>
  intro f c h hc;obtain⟨g,d⟩:=x;simp only[anyEff,oU];rcases zJ.1 h with h|h
  ·simp only[V1] at h;obtain⟨_,rfl⟩:=h;exact .inl hc
  ·exact .inr (ih h hc)

theorem b7f{G:K3}{f:FuncId}{c:Con}(h:c3b G f=some c):(f,c) ∈ G/\k4 G f=some c:=by
 unfold c3b at h;split at h
 ·rename_i d hd;split at h
  ·simp only[X6] at h;subst h;exact⟨b3W hd,hd⟩
  ·cases h
 ·cases h

theorem a0r{as bs:List T}{E:Env}{w:World}{vs:Array Value}(h:nO as bs)(ha:xX E w as vs):xX E w bs vs:=by
 have list:∀{as bs:List T},r8.matsV (r8 6) as bs->as.length=bs.length/\∀(i:Nat) (a b:T),as[i]? =some a->bs[i]? =some b->r8 6 a b:=by
  intro as;induction as with
  |nil=>
   intro bs h;cases bs with
   |nil=>exact⟨rfl,fun i a b ha=>by simp at ha⟩
   |cons=>exact h.elim
  |cons a as iha=>
   intro bs h;cases bs with
   |nil=>exact h.elim
   |cons b bs=>
    obtain⟨h1,h2⟩:=iha h.2;refine⟨by simp[h1],fun i x y hx hy=> ?_⟩
    cases i with
    |zero=>simp at hx hy;subst hx;subst hy;exact h.1
    |succ i=>exact h2 i x y (by simpa using hx) (by simpa using hy)
 obtain⟨e1,e2⟩:=list h;refine⟨by rw[←e1];exact ha.1,fun i t v hi hv=> ?_⟩
 have hlt:i<as.length:=by rw[e1];exact(C8.1 hi).1
 exact a9r 6 (e2 i _ t (O1 hlt) hi) (ha.2 i _ v (O1 hlt) hv)

theorem b4E{d:Nat}:∀{as bs:List T},r8.matsV (r8 d) as bs->as.length=bs.length/\∀(i:Nat) (a b:T),as[i]? =some a->bs[i]? =some b->r8 d a b:=by
 intro as;induction as with
 |nil=>
  intro bs h;cases bs with
  |nil=>exact⟨rfl,fun i a b ha=>by simp at ha⟩
  |cons=>exact h.elim
 |cons a as iha=>
  intro bs h;cases bs with
  |nil=>exact h.elim
  |cons b bs=>
   obtain⟨h1,h2⟩:=iha h.2;refine⟨by simp[h1],fun i x y hx hy=> ?_⟩
   cases i with
   |zero=>simp at hx hy;subst hx;subst hy;exact h.1
   |succ i=>exact h2 i x y (by simpa using hx) (by simpa using hy)

theorem kU:∀{as bs:List T},c2I as bs->as.length=bs.length/\∀(i:Nat) (b:T),bs[i]? =some b->∃a,as[i]? =some a/\b9F a b:=by
 intro as;induction as with
 |nil=>intro bs h;cases bs with
  |nil=>exact⟨rfl,fun i b hb=>by simp at hb⟩
  |cons=>exact h.elim
 |cons a as iha=>intro bs h;cases bs with
  |nil=>exact h.elim
  |cons b bs=>
   obtain⟨h1,h2⟩:=iha h.2;refine⟨by simp[h1],fun i y hy=> ?_⟩
   cases i with
   |zero=>simp at hy;subst hy;exact⟨a,rfl,h.1⟩
   |succ i=>obtain⟨x,hx,hf⟩:=h2 i y (by simpa using hy);exact⟨x,by simpa using hx,hf⟩

theorem xR{a b:T}(h:b9F a b):(a=b)∨∃ty sz n row ty' row',a= .own ty sz n row/\b= .own ty' sz n row'/\Z8 n row row':=by
 unfold b9F at h;split at h
 ·obtain⟨rfl,rfl,h⟩:=h;exact .inr ⟨_,_,_,_,_,_,rfl,rfl,h⟩
 ·exact .inl h

theorem oX{E:Env}{w:World}{k:Nat}{o o':Ob}(h:a2f (some o) (some o'))(ho:s5 E w k o):s5 E w k o'/\(∀b,H9 E k o' b↔H9 E k o b)/\∀v ty sz n row,o= .fam v ty sz n row->∃ty' row',o'= .fam v ty' sz n row':=by
 unfold a2f at h;split at h
 ·rename_i cl ty sz n row cl' ty' sz' n' row' he he';simp only[X6] at he he';subst he;subst he';have hblk:∀{o:Ob} (b:Nat),o.isArr=true->(H9 E k o b↔(E.κ k≠0/\b=E.β k)):=fun b hi=>⟨fun hb=>hb.arr hi,fun hb=>.inl hb⟩
  refine⟨?_,fun b=>(hblk b rfl).trans (hblk b rfl).symm,fun _ _ _ _ _ hh=>by cases hh⟩
  obtain⟨e1,e2,e3,e4,e5,cs,tyc,e6,e7,e8⟩:=(show U8 E w k ⟨cl,ty,sz,n,row⟩ from ho)
  show U8 E w k ⟨cl',ty',sz',n',row'⟩;simp only at e1 e2 e3 e4 e5 e7 e8;split at h
  ·rename_i hb;obtain rfl:=K1 hb;obtain⟨rfl,hr⟩:=h;exact⟨e1,e2,fun i hi=>by simp only;rw[←hr i hi];exact e3 i hi,fun i t hi ht=>e4 i t hi (by rw[hr i hi];exact ht),fun _ i t hi ht=>e5 rfl i t hi (by rw[hr i hi];exact ht),cs,tyc,e6,e7,fun i j t hi hj=>e8 i j t hi (by rw[hr i hi];exact hj)⟩
  ·rename_i hb;obtain rfl:=K1 hb;split at h
   ·rename_i hone;obtain⟨rfl,rfl,hm⟩:=h;obtain⟨m1,m2⟩:=b4E hm;refine⟨e1,e2,fun i hi=> ?_,fun i t hi ht=> ?_,fun hc=>(by cases hc),cs,tyc,e6,e7,fun i j t hi hj=> ?_⟩
    ·obtain rfl:i=0:=by have:i<1:=hi;omega
     simp only;rw[←m1];exact e3 0 (by omega)
    ·obtain rfl:i=0:=by have:i<1:=hi;omega
     exact t5.1 hone t ht
    ·obtain rfl:i=0:=by have:i<1:=hi;omega
     have hlt:j<(row 0).length:=by rw[m1];exact(C8.1 hj).1
     obtain⟨u,hu,hr⟩:=e8 0 j _ (by omega) (O1 hlt)
     exact⟨u,hu,a9r 6 (m2 j _ t (O1 hlt) hj) hr⟩
   ·exact h.elim
  ·exact h.elim
 ·rename_i v ty sz n row v' ty' sz' n' row' he he';simp only[X6] at he he';subst he;subst he';split at h
  case h_2=>exact h.elim
  rename_i hb;obtain rfl:=K1 hb;obtain⟨rfl,rfl,hr⟩:=h;have hF:FamOk E w k v ty sz n row:=ho;have back:∀(i j:Nat) (t:T),i<n->(row' i)[j]? =some t->∃t0,(row i)[j]? =some t0/\b9F t0 t:=fun i j t hi hj=>(kU (hr i hi)).2 j t hj
  have ownb:∀(i j:Nat) (oty:TypeId) (osz on:Nat) (orow:Nat->List T),i<n->(row' i)[j]? =some (.own oty osz on orow)->∃(oty0:TypeId) (orow0:Nat->List T),(row i)[j]? =some (.own oty0 osz on orow0)/\Z8 on orow0 orow:=by
   intro i j oty osz on orow hi hj;obtain⟨t0,h0,hc⟩:=back i j _ hi hj;rcases xR hc with rfl|⟨ty1,sz1,n1,row1,ty2,tX,rfl,he,hrr⟩
   ·exact⟨_,_,h0,fun _ _=>rfl⟩
   ·cases he;exact⟨_,_,h0,hrr⟩
  refine⟨?_,fun b=>⟨fun hb=> ?_,fun hb=> ?_⟩,fun _ _ _ _ _ hh=>by cases hh;exact⟨_,_,rfl⟩⟩
  ·show FamOk E w k v ty' sz n row';obtain⟨e1,e2,e3,e4,e5,cs,tyc,e6,e7,e8⟩:=hF.arr;refine y9 hF.l2 e1 e2 cs tyc e6 e7 (fun r hr'=>by rw[← (kU (hr r hr')).1];have:=e3 r hr';rwa [R9] at this) (fun r q t hr' hq=> ?_) (fun i j i' j' oty osz on orow oty' osz' on' orow' hi hi' hj hj' hc hc' he=> ?_)
   ·obtain⟨t0,h0,hc⟩:=back r q t hr' hq;obtain⟨u,hu,hru⟩:=e8 r q (wX k v r q t0) hr' (by simp only;rw[P3,h0];rfl)
    rcases hF.cell hr' h0 with hco|⟨oty,osz,on,orow,rfl⟩
    ·rcases xR hc with rfl|⟨_,_,_,_,_,_,rfl,_⟩
     ·rw[R2 hco] at hru;exact⟨u,hu,.inl ⟨hco,hru⟩⟩
     ·simp[closedOne,X4] at hco
    ·obtain⟨g1,g2⟩:=hF.own r q _ _ _ _ hr' h0;have:∃(ty2:TypeId) (tX:Nat->List T),t= .own ty2 osz on tX/\Z8 on orow tX:=by
      rcases xR hc with rfl|⟨_,_,_,_,_,_,he,rfl,hrr⟩
      ·exact⟨_,_,rfl,fun _ _=>rfl⟩
      ·cases he;exact⟨_,_,rfl,hrr⟩
     obtain⟨ty2,tX,rfl,hrr⟩:=this;refine⟨u,hu,.inr ⟨_,_,_,_,rfl,hru,?_,g2⟩⟩
     obtain⟨f1,f2,f3,f4,f5,cs2,tyc2,f6,f7,f8⟩:=g1;simp only at f3 f4 f5 f8;exact⟨f1,f2,fun i hi=>by simp only;rw[←hrr i hi];exact f3 i hi,fun i t hi ht=>f4 i t hi (by rw[hrr i hi];exact ht),fun _ i t hi ht=>f5 trivial i t hi (by rw[hrr i hi];exact ht),cs2,tyc2,f6,f7,fun i j t hi hj=>f8 i j t hi (by rw[hrr i hi];exact hj)⟩
   ·obtain⟨_,_,p1,_⟩:=ownb i j _ _ _ _ hi hj;obtain⟨_,_,p2,_⟩:=ownb i' j' _ _ _ _ hi' hj';exact hF.inj i j i' j' _ _ _ _ _ _ _ _ hi hi' p1 p2 hc hc' he
  ·rcases hb with hb|⟨v0,ty0,sz0,n0,U1,i0,j0,oty1,osz1,on1,orow1,hobe,hi0,hj0,hc0,rfl⟩
   ·exact .inl hb
   ·simp only[Ob.fam.injEq] at hobe;obtain⟨rfl,rfl,rfl,rfl,rfl⟩:=hobe;obtain⟨_,_,p1,_⟩:=ownb i0 j0 _ _ _ _ hi0 hj0;exact .inr ⟨_,_,_,_,_,_,_,_,_,_,_,rfl,hi0,p1,hc0,rfl⟩
  ·rcases hb with hb|⟨v0,ty0,sz0,n0,U1,i0,j0,oty1,osz1,on1,orow1,hobe,hi0,hj0,hc0,rfl⟩
   ·exact .inl hb
   ·simp only[Ob.fam.injEq] at hobe;obtain⟨rfl,rfl,rfl,rfl,rfl⟩:=hobe;have hl:=(kU (hr i0 hi0)).1;have hlt:j0<(row' i0).length:=by rw[←hl];exact(C8.1 hj0).1
    obtain⟨t0,h0,hc⟩:=back i0 j0 _ hi0 (O1 hlt)
    rw[hj0] at h0;simp only[X6] at h0;subst h0;have hg:=O1 hlt
    rcases xR hc with he|⟨_,_,_,_,_,_,he,he2,_⟩
    ·rw[←he] at hg;exact .inr ⟨_,_,_,_,_,_,_,_,_,_,_,rfl,hi0,hg,hc0,rfl⟩
    ·rw[he2] at hg;exact .inr ⟨_,_,_,_,_,_,_,_,_,_,_,rfl,hi0,hg,hc0,rfl⟩
 ·rename_i ty l ty' l' he he';simp only[X6] at he he';subst he;subst he';subst h;refine⟨?_,fun b=> ?_,fun _ _ _ _ _ hh=>by cases hh⟩
  ·exact ho
  ·exact⟨fun hb=>.inl (hb.arr rfl),fun hb=>.inl (hb.arr rfl)⟩
 ·exact h.elim

theorem c3m:∀{H H':Y6},a4P H H'->H.length=H'.length/\∀k,(Z4 H k=none/\Z4 H' k=none)∨∃o o',Z4 H k=some o/\Z4 H' k=some o'/\a2f (some o) (some o'):=by
 intro H;induction H with
 |nil=>intro H' h;cases H' with
  |nil=>exact⟨rfl,fun k=>.inl ⟨rfl,rfl⟩⟩
  |cons=>exact h.elim
 |cons o H ih=>intro H' h;cases H' with
  |nil=>exact h.elim
  |cons o' H'=>
   obtain⟨h1,h2⟩:=ih h.2;refine⟨by simp[h1],fun k=> ?_⟩
   cases k with
   |zero=>
    have hm:=h.1;cases o with
    |none=>simp[a2f] at hm
    |some o=>cases o' with
     |none=>simp[a2f] at hm
     |some o'=>exact .inr ⟨o,o',rfl,rfl,hm⟩
   |succ k=>simpa[Z4] using h2 k

theorem a8L{P:Program}{f:FuncId}{args args':List T}{H1 H2 H':Y6}{res:T}(ha:nO args args')(hh:a4P H1 H2)(h:V3 P f args' H2 res H'):V3 P f args H1 res H':=by
 intro E w vs hH hN hv;obtain⟨h1,h2⟩:=c3m hh;have hb:∀k o',Z4 H2 k=some o'->∃o,Z4 H1 k=some o/\s5 E w k o'/\(∀b,H9 E k o' b↔H9 E k o b)/\∀v ty sz n row,o= .fam v ty sz n row->∃ty' row',o'= .fam v ty' sz n row':=fun k o' hk=>by
  rcases h2 k with⟨_,h3⟩|⟨o,o2,h3,h4,h5⟩
  ·rw[hk] at h3;cases h3
  ·rw[hk] at h4;simp only[X6] at h4;subst h4;exact⟨o,h3,oX h5 (hH.live k o h3).2.1⟩
 have hH2:HeapOk E w H2:=by
  refine⟨fun k o' hk=> ?_,fun k k' o o' b hk hk' hx hx'=> ?_,fun k hk=>by rw[←h1];exact hH.lt k hk,hH.l2,fun k o' v hk hv=> ?_⟩
  ·obtain⟨o,g1,g2,g3,_⟩:=hb k o' hk;obtain⟨l1,_,l3⟩:=hH.live k o g1;exact⟨l1,g2,fun b hx=>l3 b ((g3 b).1 hx)⟩
  ·obtain⟨o1,g1,_,g3,_⟩:=hb k o hk;obtain⟨o2,g4,_,g6,_⟩:=hb k' o' hk';exact hH.inj k k' o1 o2 b g1 g4 ((g3 b).1 hx) ((g6 b).1 hx')
  ·obtain⟨o,g1,_,_,g4⟩:=hb k o' hk;obtain⟨v0,ty,sz,n,row,he,hle⟩:=hH.cur k o v g1 hv;obtain⟨ty',row',he'⟩:=g4 _ _ _ _ _ he;exact⟨v0,ty',sz,n,row',he',hle⟩
 have hX:XB E H2=XB E H1:=by
  funext b
  refine propext ⟨fun⟨k,o',hk,hx⟩=> ?_,fun⟨k,o,hk,hx⟩=> ?_⟩
  ·obtain⟨o,g1,_,g3,_⟩:=hb k o' hk;exact⟨k,o,g1,(g3 b).1 hx⟩
  ·rcases h2 k with⟨h3,_⟩|⟨o1,o2,h3,h4,h5⟩
   ·rw[hk] at h3;cases h3
   ·rw[hk] at h3;simp only[X6] at h3;subst h3;exact⟨k,o2,h4,((oX h5 (hH.live k o hk).2.1).2.1 b).2 hx⟩
 have:=h E w vs hH2 hN (a0r ha hv);rw[hX] at this;exact this

structure Good(P:Program)(G G':K3):Prop where
 ok:H3 P G'
 call:∀x ∈ G',Z7 P x.1
 stays:∀op,stays G' op=stays G op
 grow:∀op,t3 G' op=t3 G op

theorem gG{G:K3}{f:FuncId}{c:Con}(h:k4 G f=some c)(hr:c.isRel=true):pH G f=none/\gmk G f=none:=by
 induction G with
 |nil=>cases h
 |cons x G ih=>
  obtain⟨g,d⟩:=x;simp only[k4] at h;simp only[pH,gmk];split at h
  ·simp only[X6] at h;subst h;cases d<;>first|exact⟨rfl,rfl⟩|(cases hr)
  ·exact ih h

theorem vR(hG:H3 P G)(hGc:∀x ∈ G,Z7 P x.1){s:W9}{op:Op}{k:K3->Prop}(h:kX G s op k):∃G',Good P G G'/\k G':=by
 unfold kX at h;split at h
 ·exact⟨G,⟨hG,hGc,fun _=>rfl,fun _=>rfl⟩,h⟩
 ·rename_i f r hr;have hgr:c3b G f=some r:=by
   unfold c4V at hr;split at hr
   ·split at hr
    ·simp only[L8,V1] at hr;obtain⟨r',h1,rfl,rfl⟩:=hr;exact h1
    ·cases hr
   ·cases hr
  obtain⟨hm,hge⟩:=b7f hgr;have good:∀d:Con,Z1 P f d->d.isMk=r.isMk->(∀y,isEff ((f,d)::G) y=isEff G y)->a57 ((f,d)::G)=a57 G->Good P G ((f,d)::G):=by
   intro d hd he hie htb;have hts:∀op,uA ((f,d)::G) op=uA G op:=fun op=>by
    unfold uA;rw[htb]
   have him:∀y:Operand,isMk ((f,d)::G) y=isMk G y:=by
    intro y;cases y with
    |func g=>
     simp only[isMk,k4];cases hb:Nat.beq g f with
     |true=>rw[K1 hb,hge];exact he
     |false=>rfl
    |_=>rfl
   refine⟨fun y hy=> ?_,fun y hy=> ?_,fun op=> ?_,fun op=>by unfold t3;split<;>first|rfl|exact him _⟩
   ·rcases zJ.1 hy with rfl|hy
    ·exact hd
    ·exact hG y hy
   ·rcases zJ.1 hy with rfl|hy
    ·exact hGc (f,r) hm
    ·exact hGc y hy
   ·unfold SS.stays;rw[hts];have:B0 ((f,d)::G) op=B0 G op:=by
     unfold B0;split<;>first|rfl|rw[hie]
    rw[this]
  have hie:∀d:Con,d.isEff=r.isEff->∀y:Operand,isEff ((f,d)::G) y=isEff G y:=by
   intro d he y;cases y with
   |func g=>
    simp only[isEff,k4];cases hb:Nat.beq g f with
    |true=>rw[K1 hb,hge];exact he
    |false=>rfl
   |_=>
    simp only[isEff,anyEff];cases hd:d.isEff with
    |false=>rfl
    |true=>rw[a6I hm (he.symm.trans hd)];rfl
  split at h
  ·rename_i r;obtain⟨x,hx⟩:=h;refine⟨_,good (.pure fun as=>some (r.res x,some (nO as (r.args x)/\r.side x))) ?_ rfl (hie _ rfl) rfl,hx⟩
   intro as res p he hp;simp only[X6,V1] at he;obtain⟨rfl,rfl⟩:=he;obtain⟨h1,h2⟩:=hp;have hpf:=hG _ hm x h2;intro E w vs hL hN ha;exact hpf E w vs hL hN (a0r h1 ha)
  ·rename_i r;obtain⟨x,hx⟩:=h;refine⟨_,good (.eff fun as H=>c3J r x as H) ?_ rfl (hie _ rfl) rfl,hx⟩
   have base:nC P f fun as H=>some (r.res x,r.post x,some (nO as (r.args x)/\a4P H (r.pre x)/\r.side x)):=by
    intro as H res H' p he hp;simp only[X6,V1] at he;obtain⟨rfl,rfl,rfl⟩:=he;obtain⟨h1,h2,h3⟩:=hp;exact a8L h1 h2 (hG _ hm x h3)
   intro as H res H' p he hp;replace he:c3J r x as H=some (res,H',p):=he;unfold c3J at he;split at he
   ·exact base as H res H' p he hp
   ·exact c48 base as H res H' p he hp
  ·rename_i r;obtain⟨x,hx⟩:=h;refine⟨_,good (.mk fun as=>some (r.res x,r.post x,some (nO as (r.args x)/\r.side x))) ?_ rfl (hie _ rfl) rfl,hx⟩
   intro as res H' p he hp;simp only[X6,V1] at he;obtain⟨rfl,rfl,rfl⟩:=he;obtain⟨h1,h3⟩:=hp;obtain⟨q1,q2,q3⟩:=hG _ hm x h3;exact⟨a8L (H2:=[]) h1 (show a4P [] [] from trivial) q1,q2,q3⟩
  ·rename_i r;obtain⟨x,hx⟩:=h;refine⟨_,good (.fz fun as=>some (r.res x,some (nO as (r.args x)/\r.side x))) ?_ rfl (hie _ rfl) rfl,hx⟩
   intro as res p he hp;simp only[X6,V1] at he;obtain⟨rfl,rfl⟩:=he;obtain⟨h1,h2⟩:=hp;have hpf:=hG _ hm x h2;intro E w vs hL hN ha;exact hpf E w vs hL hN (a0r h1 ha)
  ·exact⟨G,⟨hG,hGc,fun _=>rfl,fun _=>rfl⟩,h⟩

theorem c5Q(hG:H3 P G)(hGc:∀x ∈ G,Z7 P x.1)(h:Inv c E H w){a:Act}{s:W9}{o:Oper}{y:T}{H':Y6}{side:Option Prop}(he:O6 P G s H o.op=some (y,H',side))(hs:side.getD True)
  (hop:∀x ∈ S6 o.op,J5 E w a s x)
  (hpk:∀c x y,o.op= .pick c x y->(∀b,P0 s c= .bool b->b=true->J5 E w a s x)/\(∀b,P0 s c= .bool b->b=false->J5 E w a s y))
  {K:Act->World->Prop} {Q:Exit->Act->World->Prop} (hk:c4U c E w o a y H' K):o.wp P a w K Q:=by
 unfold O6 at he;split at he
 ·rename_i t p hv;simp only[X6,V1] at he;obtain⟨rfl,rfl,rfl⟩:=he;obtain⟨v,hrun,hr⟩:=c5e (P:=P) hv hs h.heap hop hpk;exact k8 hrun (hk v w E h (Step.refl E w) hr)
 ·split at he
  ·rename_i r hm;simp only[X6] at he;subst he;obtain⟨w',E',hrun,hI,hst⟩:=c6X (P:=P) h hm hs hop;rcases hrun with⟨v,hrun,hr⟩|⟨hrun,rfl⟩
   ·exact k8 hrun (hk v w' E' hI hst hr)
   ·exact c3G hrun (hk undef w' E' hI hst (.und _))
  ·split at he
   ·rename_i x args argTypes hoe;have hmem:∀{α:Type} (g:Con->Option α) (sel:K3->FuncId->Option α),(∀f,sel [] f=none)->(∀h c r f,sel ((h,c)::r) f=match Nat.beq f h with|true=>g c|false=>sel r f)->∀(G:K3) (f:FuncId) (r:α),sel G f=some r->∃x ∈ G,x.1=f:=by
     intro α g sel h1 h2 G;induction G with
     |nil=>intro f r h;rw[h1] at h;cases h
     |cons x G ih=>
      intro f r h;obtain⟨a,b⟩:=x;rw[h2] at h;split at h
      ·rename_i hb;exact⟨(a,b),by simp,(K1 hb).symm⟩
      ·obtain⟨x,hx,he⟩:=ih f r h;exact⟨x,by simp[hx],he⟩
    have effCall:∀{g:FuncId} {as:List T},uW G H g as=some (y,H',side)->Z7 P g:=by
     intro g as he;unfold uW at he;split at he
     ·rename_i c0 hc0;obtain⟨y,hy,rfl⟩:=hmem (fun c=>match c with| .eff c=>some c|_=>none) pH (fun _=>rfl) (fun _ _ _ _=>rfl) G g c0 hc0
      exact hGc y hy
     ·split at he
      ·rename_i c0 hc0;obtain⟨y,hy,rfl⟩:=hmem (fun c=>match c with| .mk c=>some c|_=>none) gmk (fun _=>rfl) (fun _ _ _ _=>rfl) G g c0 hc0
       exact hGc y hy
      ·split at he
       ·rename_i c0 hc0;obtain⟨y,hy,rfl⟩:=hmem (fun c=>match c with| .fz c=>some c|_=>none) gfz (fun _=>rfl) (fun _ _ _ _=>rfl) G g c0 hc0
        exact hGc y hy
       ·cases he
    have pureGo:∀{g:FuncId} {cs:List T},a0f s x=some (g,cs)->((u3 G H g (args.toList.map (P0 s)++cs)).map fun r=>(r.1,H,r.2))=some (y,H',side)->o.wp P a w K Q:=by
     intro g cs hfn he;cases hp:u3 G H g (args.toList.map (P0 s)++cs) with
     |none=>rw[hp] at he;cases he
     |some r=>
      rw[hp] at he;simp only[u5,X6,V1] at he;obtain⟨rfl,rfl,rfl⟩:=he;rw[hoe] at hop;obtain⟨caps,hx,hcaps⟩:=a8V hfn (hop x (by simp[S6,Op.operands,Call.operands]))
      have hargs:=lG (dY (args:=args) (fun x hx=>hop x (by simp only[S6,Op.operands,Call.operands,Array.toList_append,List.mem_append];exact .inr hx))) hcaps
      have hcallable:Z7 P g:=by
       have:∃args r,gam G g args=some r:=by
        unfold u3 at hp;split at hp
        ·exact⟨_,_,hp⟩
        ·split at hp
         ·split at hp
          ·rename_i hg;exact⟨_,_,hg⟩
          ·cases hp
         ·cases hp
       obtain⟨as,rr,hg⟩:=this;obtain⟨y,hy,rfl⟩:=hmem (fun c=>match c with| .pure c=>c as|_=>none) (fun G f=>gam G f as) (fun _=>rfl) (fun _ _ _ _=>rfl) G g rr hg
       exact hGc y hy
      refine kW (nN (P:=P) (w:=w) hoe hcallable hx) ((c33 hG h hp hs hargs).mono fun e w' hh=> ?_)
      obtain⟨v,E',rfl,hI,hst,hr⟩:=hh;exact⟨v,rfl,hk v w' E' hI hst hr⟩
    split at he
    ·split at he
     ·rename_i g hie;have hcallable:=effCall he;rw[hoe] at hop;have hargs:=dY (args:=args) (fun x hx=>hop x (by simp only[S6,Op.operands,Call.operands,Array.toList_append,List.mem_append];exact .inr hx))
      have hrun:=nN (P:=P) (w:=w) (caps:= #[]) hoe hcallable (a:=a) (x:=.func g) rfl;rw[Array.append_empty] at hrun;refine kW hrun ((b7t hG h he hs hargs).mono fun e w' hh=> ?_)
      obtain⟨v,E',rfl,hI,hst,hr⟩:=hh;exact⟨v,rfl,hk v w' E' hI hst hr⟩
     ·split at he
      ·rename_i g cs hfn;split at he
       ·have hcallable:=effCall he;rw[hoe] at hop;obtain⟨caps,hx,hcaps⟩:=a8V hfn (hop _ (by simp[S6,Op.operands,Call.operands]))
        have hargs:=lG (dY (args:=args) (fun x hx=>hop x (by simp only[S6,Op.operands,Call.operands,Array.toList_append,List.mem_append];exact .inr hx))) hcaps
        refine kW (nN (P:=P) (w:=w) hoe hcallable hx) ((b7t hG h he hs hargs).mono fun e w' hh=> ?_)
        obtain⟨v,E',rfl,hI,hst,hr⟩:=hh;exact⟨v,rfl,hk v w' E' hI hst hr⟩
       ·exact pureGo hfn he
      ·cases he
    ·split at he
     ·rename_i g cs hfn;exact pureGo hfn he
     ·cases he
   ·cases he

theorem a1k(hG:H3 P G)(hGc:∀x ∈ G,Z7 P x.1)(h:Inv c E H w){a:Act}{s:W9}{o:Oper}{y:T}{H':Y6}{side:Option Prop}(he:B7 P G s H o.op=some (y,H',side))(hs:side.getD True)
  (hop:∀x ∈ S6 o.op,J5 E w a s x)
  (hpk:∀c x y,o.op= .pick c x y->(∀b,P0 s c= .bool b->b=true->J5 E w a s x)/\(∀b,P0 s c= .bool b->b=false->J5 E w a s y))
  {K:Act->World->Prop} {Q:Exit->Act->World->Prop} (hk:c4U c E w o a y H' K):o.wp P a w K Q:=by
 unfold B7 at he;split at he
 ·rename_i ht;split at he
  ·rename_i t p hv;simp only[X6,V1] at he;obtain⟨rfl,rfl,rfl⟩:=he;unfold uA at ht;split at ht
   ·rename_i ty n parts hoe;rw[hoe] at hv hop;obtain⟨r,w',E',hrun,h1,h2,h3⟩:=c6l (P:=P) (a:=a) h (show aE P s ty (n+1) parts=some (_,_) from hv) (fun p hp=>hop p.2 (by simp only[S6,Op.operands,List.mem_map];exact⟨p,hp,rfl⟩))
    refine k8 (w':=w') (v:=r) ?_ (hk r w' E' h2 h3 h1)
    simp only[execOp,hoe,L1,hrun,L7,I1]
   ·rename_i ty parts hoe;rw[hoe] at hv hop;obtain⟨r,w',E',hrun,h1,h2,h3⟩:=c2U (P:=P) (a:=a) h hv;refine k8 (w':=w') (v:=r) ?_ (hk r w' E' h2 h3 h1)
    simp only[execOp,hoe,L1,hrun,L7,I1]
   ·rename_i args argTypes hoe;rw[hoe] at hv hop;simp only[a9q] at hv;split at hv
    case h_2=>cases hv
    rename_i d x t1 tx ha hat;obtain rfl:args= #[d,x]:=Array.ext' (by simpa using ha)
    obtain rfl:argTypes= #[t1,tx]:=Array.ext' (by simpa using hat)
    split at hv
    case h_2=>cases hv
    rename_i e hd hu;split at hv
    case h_2=>cases hv
    rename_i i z hi hz;split at hv
    case h_2=>cases hv
    rename_i q hl hq;split at hv
    case h_2=>cases hv
    rename_i hcl;simp only[X6,V1] at hv;obtain⟨rfl,rfl⟩:=hv;have hdo:=hop d (by simp[S6,Op.operands,Call.operands])
    unfold J5 at hdo;rw[hd] at hdo;obtain⟨r,w',E',hrun,h1,h2,h3⟩:=c31 (P:=P) (ty:=o.type) h hu hi hz hl hq hcl hs hdo (hop x (by simp[S6,Op.operands,Call.operands]))
    refine k8 (w':=w') (v:=r) ?_ (hk r w' E' h2 h3 h1)
    simp[execOp,hoe,resolve,invoke,builtin,hrun,Result.andThen]
   ·cases ht
  ·cases he
 ·exact c5Q hG hGc h he hs hop hpk hk

end
end Go.SS
