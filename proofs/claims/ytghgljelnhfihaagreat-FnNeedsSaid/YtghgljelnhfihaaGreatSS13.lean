/- A calculus of symbolic states: an operation of whatever kind. -/
import Derived.Test.YtghgljelnhfihaaGreatSSR2
import Derived.Test.YtghgljelnhfihaaGreatSSV
namespace Go.SS
open Go.RowKit
section
variable {c:Ctx} {E:Env} {H:Y1} {w:World} {P:Program} {G:I2}

theorem b4K(hG:D0 P G)(h:Inv c E H w){f:FuncId}{args:List T}{vs:Array Value}{r:T}{p:Option Prop}(he:i8 G H f args=some (r,p))(hp:p.getD True)(ha:vB E w args vs):
  Calls P f vs w λe w'=>∃v E',e= .returned v/\Inv c E' H w'/\Step E w E' w'/\Rd E' w' r v:=by
 unfold i8 at he;split at he
 ·rename_i hcl;have hpf:=b1r hG he hp;have:=hpf {E with L:=λ_=>False,L2:=λ_ _=>False} w vs (λ_=>⟨λh=>h,λ_ h=>h⟩) h.nlt ⟨ha.1,λi t x hi hx=>Rd.closedD (E:=E) (E':={E with L:=λ_=>False,L2:=λ_ _=>False}) (λ_ h=>h) 6 (ha.2 i t x hi hx) (i5.1 hcl t (B5 hi))⟩
  refine this.mono λe w' hh=> ?_
  obtain⟨v,rfl,hb,hr⟩:=hh;obtain⟨h1,h2⟩:=h.grow hb.os hb.tape hb.output hb.size hb.block;exact⟨v,_,rfl,h1,h2,Rd.mono (E:=({E with L:=λ_=>False,L2:=λ_ _=>False}:Env).addN λb=>w.heap.size<=b/\b<w'.heap.size) (E':=E.addN λb=>w.heap.size<=b/\b<w'.heap.size) ⟨λ_ h=>h,λ_ h=>False.elim h,λ_ h=>False.elim h,λ_ h=>False.elim h,λ_ h=>False.elim h,λ_ _ h=>False.elim h,λ_ _ _ _ h=>False.elim h,λ_ _ _ _ h=>False.elim h⟩ (λ_ _=>rfl) hr⟩
 ·split at he
  ·rename_i bs hbs;split at he
   ·rename_i r' p' hg;split at he
    ·rename_i hpl;simp only[W8,T5] at he;obtain⟨rfl,rfl⟩:=he;obtain⟨hp1,hp2⟩:=zI hp;have hpf:=b1r hG hg hp2;obtain⟨b1,b2⟩:=L5 hbs;have:=hpf (E.lent 0 H) w vs (λ_=>⟨λh=>absurd h.2 (J5 _),λ_ h=>absurd h.2 (J5 _)⟩) (λb hb=>by
      rcases hb with hb|⟨k,ob,_,hk,hb⟩
      ·exact h.nlt b hb
      ·exact h.heap.blt hk hb) ⟨by simp[b1,ha.1],λi t x hi hx=>by
       simp only[pN,I3] at hi
       obtain⟨y,hy,rfl⟩:=hi;have hlt:i<args.length:=by rw[←b1];exact(z5.1 hy).1
       have hc:=K7 hlt
       exact y5 h 6 (r:=y.1) (p:=y.2) (b2 i _ y hc hy) (zB hp1 y (B5 hy)) (ha.2 i _ x hc hx)⟩
     refine this.mono λe w' hh=> ?_
     obtain⟨v,rfl,hb,hr⟩:=hh;obtain⟨h1,h2⟩:=h.grow hb.os hb.tape hb.output hb.size hb.block;exact⟨v,_,rfl,h1,h2,hr.plain 6 hpl⟩
    ·cases he
   ·cases he
  ·cases he

def b7m(c:Ctx)(E:Env)(w:World)(o:Oper)(a:Act)(y:T)(H':Y1)(K:Act->World->Prop):Prop:=
 ∀v w' E',Inv c E' H' w'->Step E w E' w'->Rd E' w' y v->K (a.put o.dst v) w'

theorem zN{o:Oper}{a:Act}{K:Act->World->Prop}{Q:Exit->Act->World->Prop}{v:Value}{w':World}(h:(execOp a.eval o).run P w= .ok (.value v) w')(hk:K (a.put o.dst v) w'):o.wp P a w K Q:=by
 unfold Oper.wp;rw[h];exact hk

theorem b6s{o:Oper}{a:Act}{K:Act->World->Prop}{Q:Exit->Act->World->Prop}{w':World}(h:(execOp a.eval o).run P w= .ok .skip w')(hk:K (a.put o.dst undef) w'):o.wp P a w K Q:=by
 unfold Oper.wp;rw[h];exact hk

theorem jD{o:Oper}{a:Act}{K:Act->World->Prop}{Q:Exit->Act->World->Prop}{f:FuncId}{vs:Array Value}{w':World}(h:(execOp a.eval o).run P w= .ok (.enter f vs) w')
  (hk:Calls P f vs w' λe w''=>∃v,e= .returned v/\K (a.put o.dst v) w''):o.wp P a w K Q:=by
 unfold Oper.wp;rw[h,Oper.upon_enter];refine hk.mono λe w'' hh=> ?_
 obtain⟨v,rfl,hv⟩:=hh;exact hv

theorem a6R{a:Act}{s:V5}{x:Operand}{f:FuncId}{cs:List T}(h:gR s x=some (f,cs))(hx:I0 E w a s x):∃caps,a.eval x= .func (.func f) #[] caps/\vB E w cs caps:=by
 unfold gR at h;split at h
 ·simp only[W8,T5] at h;obtain⟨rfl,rfl⟩:=h;exact⟨#[],rfl,rfl,λi t x hi=>by simp at hi⟩
 ·unfold I0 at hx;split at h
  ·rename_i g cs' he;simp only[W8,T5] at h;obtain⟨rfl,rfl⟩:=h;rw[he] at hx;generalize a.eval x=v at hx;cases hx with
   |fn _ _ vs hl ht=>exact⟨vs,rfl,hl,ht⟩
  ·rename_i g first caps he
   rw[he] at hx;split at h
   ·rename_i hf hc;simp only[W8,T5] at h;obtain⟨rfl,rfl⟩:=h;obtain rfl:first= #[]:=Array.ext' (by simpa using hf)
    obtain rfl:caps= #[]:=Array.ext' (by simpa using hc)
    exact⟨#[],wC hx,rfl,λi t x hi=>by simp at hi⟩
   ·cases h
  ·cases h

def P4(P:Program)(f:FuncId):Prop:=∃fn,P.funcs[f]? =some fn/\(fn.name== "runtime.NumGoroutine")=false/\fn.body.isNone=false

theorem jW{a:Act}{o:Oper}{x:Operand}{args:Array Operand}{at_:Array TypeId}{f:FuncId}{caps:Array Value}(ho:o.op= .call {callee:=.value x,args:=args,argTypes:=at_})(hf:P4 P f)(hx:a.eval x= .func (.func f) #[] caps):
  (execOp a.eval o).run P w= .ok (.enter f (args.map a.eval++caps)) w:=by
 obtain⟨fn,h1,h2,h3⟩:=hf;simp only[execOp,ho,resolve,hx,Deferred.ofValue,H4,D5,I1,invoke,callFunc,run_program,h1,h2,h3];simp

theorem kN{as bs:List T}{us vs:Array Value}(h:vB E w as us)(k:vB E w bs vs):vB E w (as++bs) (us++vs):=by
 refine⟨by simp[h.1,k.1],λi t x hi hx=> ?_⟩
 rw[List.getElem?_append] at hi
 rw[Array.getElem?_append] at hx
 rw[←h.1] at hx;split at hi
 ·rename_i hlt;rw[if_pos hlt] at hx;exact h.2 i t x hi hx
 ·rename_i hlt;rw[if_neg hlt] at hx;exact k.2 _ t x hi hx

theorem cT{a:Act}{s:V5}{args:Array Operand}(h:∀x ∈ args.toList,I0 E w a s x):vB E w (args.toList.map (M7 s)) (args.map a.eval):=by
 refine⟨by simp,λi t x hi hx=> ?_⟩
 simp only[pN,Array.getElem?_map,I3,Array.getElem?_toList] at hi hx
 obtain⟨p,hp,rfl⟩:=hi;obtain⟨q,hq,rfl⟩:=hx;rw[hp] at hq;simp only[W8] at hq;subst hq;exact h p (by simpa using Array.mem_of_getElem? hp)

theorem a65:∀(d:Nat) {t t':T} {E:Env} {w:World} {v:Value},zX d t t'->Rd E w t v->Rd E w t' v:=by
 intro d;induction d with
 |zero=>intro t t' E w v h;exact h.elim
 |succ d ih=>
  have list:∀{as bs:List T},zX.matsV (zX d) as bs->as.length=bs.length/\∀(i:Nat) (a b:T),as[i]? =some a->bs[i]? =some b->zX d a b:=by
   intro as;induction as with
   |nil=>
    intro bs h;cases bs with
    |nil=>exact⟨rfl,λi a b ha=>by simp at ha⟩
    |cons=>exact h.elim
   |cons a as iha=>
    intro bs h;cases bs with
    |nil=>exact h.elim
    |cons b bs=>
     obtain⟨h1,h2⟩:=iha h.2;refine⟨by simp[h1],λi x y hx hy=> ?_⟩
     cases i with
     |zero=>simp at hx hy;subst hx;subst hy;exact h.1
     |succ i=>exact h2 i x y (by simpa using hx) (by simpa using hy)
  have listP:∀{as bs:List T},zX.matsP (zX d) as bs->∀(i:Nat) (b:T),bs[i]? =some b->∃a,as[i]? =some a/\zX d a b:=by
   intro as bs;induction bs generalizing as with
   |nil=>intro _ i b hb;simp at hb
   |cons b bs ihb=>
    intro h i c hc;cases as with
    |nil=>exact h.elim
    |cons a as=>
     cases i with
     |zero=>simp at hc;subst hc;exact⟨a,rfl,h.1⟩
     |succ i=>obtain⟨x,hx,hm⟩:=ihb h.2 i c (by simpa using hc);exact⟨x,by simpa using hx,hm⟩
  intro t t' E w v h hx;have rdl:∀{as bs:List T} {vs:Array Value},zX.matsV (zX d) as bs->as.length=vs.size->(∀(i:Nat) (t:T) (x:Value),as[i]? =some t->vs[i]? =some x->Rd E w t x)->
    bs.length=vs.size/\∀(i:Nat) (t:T) (x:Value),bs[i]? =some t->vs[i]? =some x->Rd E w t x:=by
   intro as bs vs hm hl ht;obtain⟨h1,h2⟩:=list hm;refine⟨by omega,λi t x hi hx=> ?_⟩
   have hlt:i<as.length:=by rw[h1];exact(z5.1 hi).1
   exact ih (h2 i _ t (K7 hlt) hi) (ht i _ x (K7 hlt) hx)
  unfold zX at h;split at h
  ·exact .und _
  ·split at h
   ·rename_i hk;obtain rfl:=C7 hk;subst h;exact hx
   ·exact h.elim
  ·subst h;exact hx
  ·subst h;exact hx
  ·subst h;exact hx
  ·subst h;rw[wC hx];exact .slNil _ _
  ·subst h;rw[wC hx];exact .bysNil
  ·subst h;cases hx with|emp a=>cases a with|none=>exact .slNil _ _|some a=>exact .slEmp _ _ _
  ·subst h;cases hx with|emp a=>cases a with|none=>exact .bysNil|some a=>exact .bysEmp _
  ·exact hx
  ·subst h;exact hx
  ·split at h
   ·rename_i hb;obtain rfl:=G3 hb;obtain⟨rfl,hr⟩:=h;cases hx with
    |slNil=>exact .slNil _ _
    |slEmp=>exact .slEmp _ _ _
    |sl _ _ _ b off cap u hN hc hl h1 hr' ht=>
     exact .sl _ _ _ b off cap u hN hc (λi hi=>by rw[←hr i hi];exact hl i hi) (λi t hi hm=>by rw[←hr i hi] at hm;exact h1 i t hi hm) (λi j t hi hj=>by rw[←hr i hi] at hj;exact hr' i j t hi hj) (λi j t hi hj=>by rw[←hr i hi] at hj;exact ht i j t hi hj)
   ·exact h.elim
  ·split at h
   ·rename_i hb;obtain rfl:=G3 hb;obtain⟨rfl,rfl⟩:=h;exact hx
   ·exact h.elim
  ·split at h
   ·rename_i hb;obtain rfl:=G3 hb;obtain⟨rfl,rfl⟩:=h;exact hx
   ·exact h.elim
  ·split at h
   ·rename_i hb;obtain rfl:=G3 hb;exact hx
   ·exact h.elim
  ·cases hx with
   |agg _ vs hl ht=>obtain⟨a1,a2⟩:=rdl h hl ht;exact .agg _ vs a1 a2
  ·cases hx with
   |tup _ vs hl ht=>obtain⟨a1,a2⟩:=rdl h hl ht;exact .tup _ vs a1 a2
  ·obtain⟨rfl,h⟩:=h;cases hx with
   |fn _ _ vs hl ht=>obtain⟨a1,a2⟩:=rdl h hl ht;exact .fn _ _ vs a1 a2
  ·rename_i as bs;split at h
   ·rename_i hcl;have h2:=listP h;cases hx with
    |bref _ b off u hN hc hr ht=>
     refine .bref _ b off u hN (λt ht=>i5.1 hcl t ht) (λj t hj=> ?_) (λj t hj=> ?_)
     ·obtain⟨a,ha,_⟩:=h2 j t hj;exact hr j _ ha
     ·obtain⟨a,ha,hm⟩:=h2 j t hj;exact ih hm (ht j _ ha)
   ·exact h.elim
  ·exact h.elim

theorem a7z:∀{G:I2} {f:FuncId} {c:Con},y0 G f=some c->(f,c) ∈ G:=by
 intro G;induction G with
 |nil=>intro f c h;cases h
 |cons x G ih=>
  intro f c h;obtain⟨g,d⟩:=x;simp only[y0] at h;split at h
  ·rename_i hb;obtain rfl:=G3 hb;simp only[W8] at h;subst h;simp
  ·simp[ih h]

theorem a3l:∀{G:I2} {f:FuncId} {c:Con},(f,c) ∈ G->c.isEff=true->anyEff G=true:=by
 intro G;induction G with
 |nil=>intro f c h;cases h
 |cons x G ih=>
  intro f c h hc;obtain⟨g,d⟩:=x;simp only[anyEff,pP];rcases wY.1 h with h|h
  ·simp only[T5] at h;obtain⟨_,rfl⟩:=h;exact .inl hc
  ·exact .inr (ih h hc)

theorem b3J{G:I2}{f:FuncId}{c:Con}(h:b4H G f=some c):(f,c) ∈ G/\y0 G f=some c:=by
 unfold b4H at h;split at h
 ·rename_i d hd;split at h
  ·simp only[W8] at h;subst h;exact⟨a7z hd,hd⟩
  ·cases h
 ·cases h

theorem cM{as bs:List T}{E:Env}{w:World}{vs:Array Value}(h:jM as bs)(ha:vB E w as vs):vB E w bs vs:=by
 have list:∀{as bs:List T},zX.matsV (zX 6) as bs->as.length=bs.length/\∀(i:Nat) (a b:T),as[i]? =some a->bs[i]? =some b->zX 6 a b:=by
  intro as;induction as with
  |nil=>
   intro bs h;cases bs with
   |nil=>exact⟨rfl,λi a b ha=>by simp at ha⟩
   |cons=>exact h.elim
  |cons a as iha=>
   intro bs h;cases bs with
   |nil=>exact h.elim
   |cons b bs=>
    obtain⟨h1,h2⟩:=iha h.2;refine⟨by simp[h1],λi x y hx hy=> ?_⟩
    cases i with
    |zero=>simp at hx hy;subst hx;subst hy;exact h.1
    |succ i=>exact h2 i x y (by simpa using hx) (by simpa using hy)
 obtain⟨e1,e2⟩:=list h;refine⟨by rw[←e1];exact ha.1,λi t v hi hv=> ?_⟩
 have hlt:i<as.length:=by rw[e1];exact(z5.1 hi).1
 exact a65 6 (e2 i _ t (K7 hlt) hi) (ha.2 i _ v (K7 hlt) hv)

theorem a9n{d:Nat}:∀{as bs:List T},zX.matsV (zX d) as bs->as.length=bs.length/\∀(i:Nat) (a b:T),as[i]? =some a->bs[i]? =some b->zX d a b:=by
 intro as;induction as with
 |nil=>
  intro bs h;cases bs with
  |nil=>exact⟨rfl,λi a b ha=>by simp at ha⟩
  |cons=>exact h.elim
 |cons a as iha=>
  intro bs h;cases bs with
  |nil=>exact h.elim
  |cons b bs=>
   obtain⟨h1,h2⟩:=iha h.2;refine⟨by simp[h1],λi x y hx hy=> ?_⟩
   cases i with
   |zero=>simp at hx hy;subst hx;subst hy;exact h.1
   |succ i=>exact h2 i x y (by simpa using hx) (by simpa using hy)

theorem jO:∀{as bs:List T},b00 as bs->as.length=bs.length/\∀(i:Nat) (b:T),bs[i]? =some b->∃a,as[i]? =some a/\b3t a b:=by
 intro as;induction as with
 |nil=>intro bs h;cases bs with
  |nil=>exact⟨rfl,λi b hb=>by simp at hb⟩
  |cons=>exact h.elim
 |cons a as iha=>intro bs h;cases bs with
  |nil=>exact h.elim
  |cons b bs=>
   obtain⟨h1,h2⟩:=iha h.2;refine⟨by simp[h1],λi y hy=> ?_⟩
   cases i with
   |zero=>simp at hy;subst hy;exact⟨a,rfl,h.1⟩
   |succ i=>obtain⟨x,hx,hf⟩:=h2 i y (by simpa using hy);exact⟨x,by simpa using hx,hf⟩

theorem vK{a b:T}(h:b3t a b):(a=b)∨∃ty sz n row ty' row',a= .own ty sz n row/\b= .own ty' sz n row'/\Z6 n row row':=by
 unfold b3t at h;split at h
 ·obtain⟨rfl,rfl,h⟩:=h;exact .inr ⟨_,_,_,_,_,_,rfl,rfl,h⟩
 ·exact .inl h

theorem mK{E:Env}{w:World}{k:Nat}{o o':Ob}(h:a1j (some o) (some o'))(ho:m6 E w k o):m6 E w k o'/\(∀b,E6 E k o' b↔E6 E k o b)/\∀v ty sz n row,o= .fam v ty sz n row->∃ty' row',o'= .fam v ty' sz n row':=by
 unfold a1j at h;split at h
 ·rename_i cl ty sz n row cl' ty' sz' n' row' he he';simp only[W8] at he he';subst he;subst he';have hblk:∀{o:Ob} (b:Nat),o.isArr=true->(E6 E k o b↔(E.κ k≠0/\b=E.β k)):=λb hi=>⟨λhb=>hb.arr hi,λhb=>.inl hb⟩
  refine⟨?_,λb=>(hblk b rfl).trans (hblk b rfl).symm,λ_ _ _ _ _ hh=>by cases hh⟩
  obtain⟨e1,e2,e3,e4,e5,cs,tyc,e6,e7,e8⟩:=(show S9 E w k ⟨cl,ty,sz,n,row⟩ from ho)
  show S9 E w k ⟨cl',ty',sz',n',row'⟩;simp only at e1 e2 e3 e4 e5 e7 e8;split at h
  ·rename_i hb;obtain rfl:=G3 hb;obtain⟨rfl,hr⟩:=h;exact⟨e1,e2,λi hi=>by simp only;rw[←hr i hi];exact e3 i hi,λi t hi ht=>e4 i t hi (by rw[hr i hi];exact ht),λ_ i t hi ht=>e5 rfl i t hi (by rw[hr i hi];exact ht),cs,tyc,e6,e7,λi j t hi hj=>e8 i j t hi (by rw[hr i hi];exact hj)⟩
  ·rename_i hb;obtain rfl:=G3 hb;split at h
   ·rename_i hone;obtain⟨rfl,rfl,hm⟩:=h;obtain⟨m1,m2⟩:=a9n hm;refine⟨e1,e2,λi hi=> ?_,λi t hi ht=> ?_,λhc=>(by cases hc),cs,tyc,e6,e7,λi j t hi hj=> ?_⟩
    ·obtain rfl:i=0:=by have:i<1:=hi;omega
     simp only;rw[←m1];exact e3 0 (by omega)
    ·obtain rfl:i=0:=by have:i<1:=hi;omega
     exact i5.1 hone t ht
    ·obtain rfl:i=0:=by have:i<1:=hi;omega
     have hlt:j<(row 0).length:=by rw[m1];exact(z5.1 hj).1
     obtain⟨u,hu,hr⟩:=e8 0 j _ (by omega) (K7 hlt)
     exact⟨u,hu,a65 6 (m2 j _ t (K7 hlt) hj) hr⟩
   ·exact h.elim
  ·exact h.elim
 ·rename_i v ty sz n row v' ty' sz' n' row' he he';simp only[W8] at he he';subst he;subst he';split at h
  case h_2=>exact h.elim
  rename_i hb;obtain rfl:=G3 hb;obtain⟨rfl,rfl,hr⟩:=h;have hF:FamOk E w k v ty sz n row:=ho;have back:∀(i j:Nat) (t:T),i<n->(row' i)[j]? =some t->∃t0,(row i)[j]? =some t0/\b3t t0 t:=λi j t hi hj=>(jO (hr i hi)).2 j t hj
  have ownb:∀(i j:Nat) (oty:TypeId) (osz on:Nat) (orow:Nat->List T),i<n->(row' i)[j]? =some (.own oty osz on orow)->∃(oty0:TypeId) (orow0:Nat->List T),(row i)[j]? =some (.own oty0 osz on orow0)/\Z6 on orow0 orow:=by
   intro i j oty osz on orow hi hj;obtain⟨t0,h0,hc⟩:=back i j _ hi hj;rcases vK hc with rfl|⟨ty1,sz1,n1,row1,ty2,sM,rfl,he,hrr⟩
   ·exact⟨_,_,h0,λ_ _=>rfl⟩
   ·cases he;exact⟨_,_,h0,hrr⟩
  refine⟨?_,λb=>⟨λhb=> ?_,λhb=> ?_⟩,λ_ _ _ _ _ hh=>by cases hh;exact⟨_,_,rfl⟩⟩
  ·show FamOk E w k v ty' sz n row';obtain⟨e1,e2,e3,e4,e5,cs,tyc,e6,e7,e8⟩:=hF.arr;refine s9 hF.l2 e1 e2 cs tyc e6 e7 (λr hr'=>by rw[← (jO (hr r hr')).1];have:=e3 r hr';rwa [P0] at this) (λr q t hr' hq=> ?_) (λi j i' j' oty osz on orow oty' osz' on' orow' hi hi' hj hj' hc hc' he=> ?_)
   ·obtain⟨t0,h0,hc⟩:=back r q t hr' hq;obtain⟨u,hu,hru⟩:=e8 r q (uJ k v r q t0) hr' (by simp only;rw[M4,h0];rfl)
    rcases hF.cell hr' h0 with hco|⟨oty,osz,on,orow,rfl⟩
    ·rcases vK hc with rfl|⟨_,_,_,_,_,_,rfl,_⟩
     ·rw[O3 hco] at hru;exact⟨u,hu,.inl ⟨hco,hru⟩⟩
     ·simp[closedOne,W5] at hco
    ·obtain⟨g1,g2⟩:=hF.own r q _ _ _ _ hr' h0;have:∃(ty2:TypeId) (sM:Nat->List T),t= .own ty2 osz on sM/\Z6 on orow sM:=by
      rcases vK hc with rfl|⟨_,_,_,_,_,_,he,rfl,hrr⟩
      ·exact⟨_,_,rfl,λ_ _=>rfl⟩
      ·cases he;exact⟨_,_,rfl,hrr⟩
     obtain⟨ty2,sM,rfl,hrr⟩:=this;refine⟨u,hu,.inr ⟨_,_,_,_,rfl,hru,?_,g2⟩⟩
     obtain⟨f1,f2,f3,f4,f5,cs2,tyc2,f6,f7,f8⟩:=g1;simp only at f3 f4 f5 f8;exact⟨f1,f2,λi hi=>by simp only;rw[←hrr i hi];exact f3 i hi,λi t hi ht=>f4 i t hi (by rw[hrr i hi];exact ht),λ_ i t hi ht=>f5 trivial i t hi (by rw[hrr i hi];exact ht),cs2,tyc2,f6,f7,λi j t hi hj=>f8 i j t hi (by rw[hrr i hi];exact hj)⟩
   ·obtain⟨_,_,p1,_⟩:=ownb i j _ _ _ _ hi hj;obtain⟨_,_,p2,_⟩:=ownb i' j' _ _ _ _ hi' hj';exact hF.inj i j i' j' _ _ _ _ _ _ _ _ hi hi' p1 p2 hc hc' he
  ·rcases hb with hb|⟨v0,ty0,sz0,n0,V7,i0,j0,oty1,osz1,on1,orow1,hobe,hi0,hj0,hc0,rfl⟩
   ·exact .inl hb
   ·simp only[Ob.fam.injEq] at hobe;obtain⟨rfl,rfl,rfl,rfl,rfl⟩:=hobe;obtain⟨_,_,p1,_⟩:=ownb i0 j0 _ _ _ _ hi0 hj0;exact .inr ⟨_,_,_,_,_,_,_,_,_,_,_,rfl,hi0,p1,hc0,rfl⟩
  ·rcases hb with hb|⟨v0,ty0,sz0,n0,V7,i0,j0,oty1,osz1,on1,orow1,hobe,hi0,hj0,hc0,rfl⟩
   ·exact .inl hb
   ·simp only[Ob.fam.injEq] at hobe;obtain⟨rfl,rfl,rfl,rfl,rfl⟩:=hobe;have hl:=(jO (hr i0 hi0)).1;have hlt:j0<(row' i0).length:=by rw[←hl];exact(z5.1 hj0).1
    obtain⟨t0,h0,hc⟩:=back i0 j0 _ hi0 (K7 hlt)
    rw[hj0] at h0;simp only[W8] at h0;subst h0;have hg:=K7 hlt
    rcases vK hc with he|⟨_,_,_,_,_,_,he,he2,_⟩
    ·rw[←he] at hg;exact .inr ⟨_,_,_,_,_,_,_,_,_,_,_,rfl,hi0,hg,hc0,rfl⟩
    ·rw[he2] at hg;exact .inr ⟨_,_,_,_,_,_,_,_,_,_,_,rfl,hi0,hg,hc0,rfl⟩
 ·rename_i ty l ty' l' he he';simp only[W8] at he he';subst he;subst he';subst h;refine⟨?_,λb=> ?_,λ_ _ _ _ _ hh=>by cases hh⟩
  ·exact ho
  ·exact⟨λhb=>.inl (hb.arr rfl),λhb=>.inl (hb.arr rfl)⟩
 ·exact h.elim

theorem b6p:∀{H H':Y1},a5N H H'->H.length=H'.length/\∀k,(Z0 H k=none/\Z0 H' k=none)∨∃o o',Z0 H k=some o/\Z0 H' k=some o'/\a1j (some o) (some o'):=by
 intro H;induction H with
 |nil=>intro H' h;cases H' with
  |nil=>exact⟨rfl,λk=>.inl ⟨rfl,rfl⟩⟩
  |cons=>exact h.elim
 |cons o H ih=>intro H' h;cases H' with
  |nil=>exact h.elim
  |cons o' H'=>
   obtain⟨h1,h2⟩:=ih h.2;refine⟨by simp[h1],λk=> ?_⟩
   cases k with
   |zero=>
    have hm:=h.1;cases o with
    |none=>simp[a1j] at hm
    |some o=>cases o' with
     |none=>simp[a1j] at hm
     |some o'=>exact .inr ⟨o,o',rfl,rfl,hm⟩
   |succ k=>simpa[Z0] using h2 k

theorem a6i{P:Program}{f:FuncId}{args args':List T}{H1 H2 H':Y1}{res:T}(ha:jM args args')(hh:a5N H1 H2)(h:H3 P f args' H2 res H'):H3 P f args H1 res H':=by
 intro E w vs hH hN hv;obtain⟨h1,h2⟩:=b6p hh;have hb:∀k o',Z0 H2 k=some o'->∃o,Z0 H1 k=some o/\m6 E w k o'/\(∀b,E6 E k o' b↔E6 E k o b)/\∀v ty sz n row,o= .fam v ty sz n row->∃ty' row',o'= .fam v ty' sz n row':=λk o' hk=>by
  rcases h2 k with⟨_,h3⟩|⟨o,o2,h3,h4,h5⟩
  ·rw[hk] at h3;cases h3
  ·rw[hk] at h4;simp only[W8] at h4;subst h4;exact⟨o,h3,mK h5 (hH.live k o h3).2.1⟩
 have hH2:HeapOk E w H2:=by
  refine⟨λk o' hk=> ?_,λk k' o o' b hk hk' hx hx'=> ?_,λk hk=>by rw[←h1];exact hH.lt k hk,hH.l2,λk o' v hk hv=> ?_⟩
  ·obtain⟨o,g1,g2,g3,_⟩:=hb k o' hk;obtain⟨l1,_,l3⟩:=hH.live k o g1;exact⟨l1,g2,λb hx=>l3 b ((g3 b).1 hx)⟩
  ·obtain⟨o1,g1,_,g3,_⟩:=hb k o hk;obtain⟨o2,g4,_,g6,_⟩:=hb k' o' hk';exact hH.inj k k' o1 o2 b g1 g4 ((g3 b).1 hx) ((g6 b).1 hx')
  ·obtain⟨o,g1,_,_,g4⟩:=hb k o' hk;obtain⟨v0,ty,sz,n,row,he,hle⟩:=hH.cur k o v g1 hv;obtain⟨ty',row',he'⟩:=g4 _ _ _ _ _ he;exact⟨v0,ty',sz,n,row',he',hle⟩
 have hX:XB E H2=XB E H1:=by
  funext b
  refine propext ⟨λ⟨k,o',hk,hx⟩=> ?_,λ⟨k,o,hk,hx⟩=> ?_⟩
  ·obtain⟨o,g1,_,g3,_⟩:=hb k o' hk;exact⟨k,o,g1,(g3 b).1 hx⟩
  ·rcases h2 k with⟨h3,_⟩|⟨o1,o2,h3,h4,h5⟩
   ·rw[hk] at h3;cases h3
   ·rw[hk] at h3;simp only[W8] at h3;subst h3;exact⟨k,o2,h4,((mK h5 (hH.live k o hk).2.1).2.1 b).2 hx⟩
 have:=h E w vs hH2 hN (cM ha hv);rw[hX] at this;exact this

structure Good(P:Program)(G G':I2):Prop where
 ok:D0 P G'
 call:∀x ∈ G',P4 P x.1
 stays:∀op,stays G' op=stays G op
 grow:∀op,zM G' op=zM G op
 ef:∀y,isEf G' y=isEf G y

theorem fU{G:I2}{f:FuncId}{c:Con}(h:y0 G f=some c)(hr:c.isRel=true):tB G f=none/\gmk G f=none:=by
 induction G with
 |nil=>cases h
 |cons x G ih=>
  obtain⟨g,d⟩:=x;simp only[y0] at h;simp only[tB,gmk];split at h
  ·simp only[W8] at h;subst h;cases d<;>first|exact⟨rfl,rfl⟩|(cases hr)
  ·exact ih h

theorem tI(hG:D0 P G)(hGc:∀x ∈ G,P4 P x.1){s:V5}{op:Op}{k:I2->Prop}(h:lG G s op k):∃G',Good P G G'/\k G':=by
 unfold lG at h;split at h
 ·exact⟨G,⟨hG,hGc,λ_=>rfl,λ_=>rfl,λ_=>rfl⟩,h⟩
 ·rename_i f r hr;have hgr:b4H G f=some r:=by
   unfold b7x at hr;split at hr
   ·split at hr
    ·simp only[I3,T5] at hr;obtain⟨r',h1,rfl,rfl⟩:=hr;exact h1
    ·cases hr
   ·cases hr
  obtain⟨hm,hge⟩:=b3J hgr;have good:∀d:Con,a3c P f d->d.isMk=r.isMk->d.isEf=r.isEf->(∀y,isEff ((f,d)::G) y=isEff G y)->gT ((f,d)::G)=gT G->Good P G ((f,d)::G):=by
   intro d hd he hef hie htb;have hts:∀op,uD ((f,d)::G) op=uD G op:=λop=>by
    unfold uD;rw[htb]
   have him:∀y:Operand,isMk ((f,d)::G) y=isMk G y:=by
    intro y;cases y with
    |func g=>
     simp only[isMk,y0];cases hb:Nat.beq g f with
     |true=>rw[G3 hb,hge];exact he
     |false=>rfl
    |_=>rfl
   refine⟨λy hy=> ?_,λy hy=> ?_,λop=> ?_,λop=>by unfold zM;split<;>first|rfl|exact him _,λy=> ?_⟩
   ·rcases wY.1 hy with rfl|hy
    ·exact hd
    ·exact hG y hy
   ·rcases wY.1 hy with rfl|hy
    ·exact hGc (f,r) hm
    ·exact hGc y hy
   ·unfold SS.stays;rw[hts];have:z6 ((f,d)::G) op=z6 G op:=by
     unfold z6;split<;>first|rfl|rw[hie]
    rw[this]
   ·cases y with
    |func g=>
     simp only[isEf,y0];cases hb:Nat.beq g f with
     |true=>rw[G3 hb,hge];exact hef
     |false=>rfl
    |_=>rfl
  have hie:∀d:Con,d.isEff=r.isEff->∀y:Operand,isEff ((f,d)::G) y=isEff G y:=by
   intro d he y;cases y with
   |func g=>
    simp only[isEff,y0];cases hb:Nat.beq g f with
    |true=>rw[G3 hb,hge];exact he
    |false=>rfl
   |_=>
    simp only[isEff,anyEff];cases hd:d.isEff with
    |false=>rfl
    |true=>rw[a3l hm (he.symm.trans hd)];rfl
  split at h
  ·rename_i r;obtain⟨x,hx⟩:=h;refine⟨_,good (.pure λas=>some (r.res x,some (jM as (r.args x)/\r.side x))) ?_ rfl rfl (hie _ rfl) rfl,hx⟩
   intro as res p he hp;simp only[W8,T5] at he;obtain⟨rfl,rfl⟩:=he;obtain⟨h1,h2⟩:=hp;have hpf:=hG _ hm x h2;intro E w vs hL hN ha;exact hpf E w vs hL hN (cM h1 ha)
  ·rename_i r;obtain⟨x,hx⟩:=h;refine⟨_,good (.eff λas H=>b5C r x as H) ?_ rfl rfl (hie _ rfl) rfl,hx⟩
   have base:kH P f λas H=>some (r.res x,r.post x,some (jM as (r.args x)/\a5N H (r.pre x)/\r.side x)):=by
    intro as H res H' p he hp;simp only[W8,T5] at he;obtain⟨rfl,rfl,rfl⟩:=he;obtain⟨h1,h2,h3⟩:=hp;exact a6i h1 h2 (hG _ hm x h3)
   intro as H res H' p he hp;replace he:b5C r x as H=some (res,H',p):=he;unfold b5C at he;split at he
   ·exact base as H res H' p he hp
   ·exact b8f base as H res H' p he hp
  ·rename_i r;obtain⟨x,hx⟩:=h;refine⟨_,good (.mk λas=>some (r.res x,r.post x,some (jM as (r.args x)/\r.side x))) ?_ rfl rfl (hie _ rfl) rfl,hx⟩
   intro as res H' p he hp;simp only[W8,T5] at he;obtain⟨rfl,rfl,rfl⟩:=he;obtain⟨h1,h3⟩:=hp;obtain⟨q1,q2,q3⟩:=hG _ hm x h3;exact⟨a6i (H2:=[]) h1 (show a5N [] [] from trivial) q1,q2,q3⟩
  ·rename_i r;obtain⟨x,hx⟩:=h;refine⟨_,good (.fz λas=>some (r.res x,some (jM as (r.args x)/\r.side x))) ?_ rfl rfl (hie _ rfl) rfl,hx⟩
   intro as res p he hp;simp only[W8,T5] at he;obtain⟨rfl,rfl⟩:=he;obtain⟨h1,h2⟩:=hp;have hpf:=hG _ hm x h2;intro E w vs hL hN ha;exact hpf E w vs hL hN (cM h1 ha)
  ·exact⟨G,⟨hG,hGc,λ_=>rfl,λ_=>rfl,λ_=>rfl⟩,h⟩

theorem b8O(hG:D0 P G)(hGc:∀x ∈ G,P4 P x.1)(h:Inv c E H w){a:Act}{s:V5}{o:Oper}{y:T}{H':Y1}{side:Option Prop}(he:L6 P G s H o.op=some (y,H',side))(hs:side.getD True)
  (hop:∀x ∈ S1 o.op,I0 E w a s x)
  (hpk:∀c x y,o.op= .pick c x y->(∀b,M7 s c= .bool b->b=true->I0 E w a s x)/\(∀b,M7 s c= .bool b->b=false->I0 E w a s y))
  {K:Act->World->Prop} {Q:Exit->Act->World->Prop} (hk:b7m c E w o a y H' K):o.wp P a w K Q:=by
 unfold L6 at he;split at he
 ·rename_i t p hv;simp only[W8,T5] at he;obtain⟨rfl,rfl,rfl⟩:=he;obtain⟨v,hrun,hr⟩:=b8g (P:=P) hv hs h.heap hop hpk;exact zN hrun (hk v w E h (Step.refl E w) hr)
 ·split at he
  ·rename_i r hm;simp only[W8] at he;subst he;obtain⟨w',E',hrun,hI,hst⟩:=b79 (P:=P) h hm hs hop;rcases hrun with⟨v,hrun,hr⟩|⟨hrun,rfl⟩
   ·exact zN hrun (hk v w' E' hI hst hr)
   ·exact b6s hrun (hk undef w' E' hI hst (.und _))
  ·split at he
   ·rename_i x args argTypes hoe;have hmem:∀{α:Type} (g:Con->Option α) (sel:I2->FuncId->Option α),(∀f,sel [] f=none)->(∀h c r f,sel ((h,c)::r) f=match Nat.beq f h with|true=>g c|false=>sel r f)->∀(G:I2) (f:FuncId) (r:α),sel G f=some r->∃x ∈ G,x.1=f:=by
     intro α g sel h1 h2 G;induction G with
     |nil=>intro f r h;rw[h1] at h;cases h
     |cons x G ih=>
      intro f r h;obtain⟨a,b⟩:=x;rw[h2] at h;split at h
      ·rename_i hb;exact⟨(a,b),by simp,(G3 hb).symm⟩
      ·obtain⟨x,hx,he⟩:=ih f r h;exact⟨x,by simp[hx],he⟩
    have effCall:∀{g:FuncId} {as:List T},yD G H g as=some (y,H',side)->P4 P g:=by
     intro g as he;unfold yD at he;split at he
     ·rename_i c0 hc0;obtain⟨y,hy,rfl⟩:=hmem (λc=>match c with| .eff c=>some c|_=>none) tB (λ_=>rfl) (λ_ _ _ _=>rfl) G g c0 hc0
      exact hGc y hy
     ·split at he
      ·rename_i c0 hc0;obtain⟨y,hy,rfl⟩:=hmem (λc=>match c with| .mk c=>some c|_=>none) gmk (λ_=>rfl) (λ_ _ _ _=>rfl) G g c0 hc0
       exact hGc y hy
      ·split at he
       ·rename_i c0 hc0;obtain⟨y,hy,rfl⟩:=hmem (λc=>match c with| .fz c=>some c|_=>none) gfz (λ_=>rfl) (λ_ _ _ _=>rfl) G g c0 hc0
        exact hGc y hy
       ·cases he
    have pureGo:∀{g:FuncId} {cs:List T},gR s x=some (g,cs)->((i8 G H g (args.toList.map (M7 s)++cs)).map λr=>(r.1,H,r.2))=some (y,H',side)->o.wp P a w K Q:=by
     intro g cs hfn he;cases hp:i8 G H g (args.toList.map (M7 s)++cs) with
     |none=>rw[hp] at he;cases he
     |some r=>
      rw[hp] at he;simp only[j8,W8,T5] at he;obtain⟨rfl,rfl,rfl⟩:=he;rw[hoe] at hop;obtain⟨caps,hx,hcaps⟩:=a6R hfn (hop x (by simp[S1,Op.operands,Call.operands]))
      have hargs:=kN (cT (args:=args) (λx hx=>hop x (by simp only[S1,Op.operands,Call.operands,Array.toList_append,List.mem_append];exact .inr hx))) hcaps
      have hcallable:P4 P g:=by
       have:∃args r,gam G g args=some r:=by
        unfold i8 at hp;split at hp
        ·exact⟨_,_,hp⟩
        ·split at hp
         ·split at hp
          ·rename_i hg;exact⟨_,_,hg⟩
          ·cases hp
         ·cases hp
       obtain⟨as,rr,hg⟩:=this;obtain⟨y,hy,rfl⟩:=hmem (λc=>match c with| .pure c=>c as|_=>none) (λG f=>gam G f as) (λ_=>rfl) (λ_ _ _ _=>rfl) G g rr hg
       exact hGc y hy
      refine jD (jW (P:=P) (w:=w) hoe hcallable hx) ((b4K hG h hp hs hargs).mono λe w' hh=> ?_)
      obtain⟨v,E',rfl,hI,hst,hr⟩:=hh;exact⟨v,rfl,hk v w' E' hI hst hr⟩
    split at he
    ·split at he
     ·rename_i g hie;have hcallable:=effCall he;rw[hoe] at hop;have hargs:=cT (args:=args) (λx hx=>hop x (by simp only[S1,Op.operands,Call.operands,Array.toList_append,List.mem_append];exact .inr hx))
      have hrun:=jW (P:=P) (w:=w) (caps:= #[]) hoe hcallable (a:=a) (x:=.func g) rfl;rw[Array.append_empty] at hrun;refine jD hrun ((b3U hG h he hs hargs).mono λe w' hh=> ?_)
      obtain⟨v,E',rfl,hI,hst,hr⟩:=hh;exact⟨v,rfl,hk v w' E' hI hst hr⟩
     ·split at he
      ·rename_i g cs hfn;split at he
       ·have hcallable:=effCall he;rw[hoe] at hop;obtain⟨caps,hx,hcaps⟩:=a6R hfn (hop _ (by simp[S1,Op.operands,Call.operands]))
        have hargs:=kN (cT (args:=args) (λx hx=>hop x (by simp only[S1,Op.operands,Call.operands,Array.toList_append,List.mem_append];exact .inr hx))) hcaps
        refine jD (jW (P:=P) (w:=w) hoe hcallable hx) ((b3U hG h he hs hargs).mono λe w' hh=> ?_)
        obtain⟨v,E',rfl,hI,hst,hr⟩:=hh;exact⟨v,rfl,hk v w' E' hI hst hr⟩
       ·exact pureGo hfn he
      ·cases he
    ·split at he
     ·rename_i g cs hfn;exact pureGo hfn he
     ·cases he
   ·cases he

theorem a2V(hG:D0 P G)(hGc:∀x ∈ G,P4 P x.1)(h:Inv c E H w){a:Act}{s:V5}{o:Oper}{y:T}{H':Y1}{side:Option Prop}(he:A6 P G s H o.op=some (y,H',side))(hs:side.getD True)
  (hop:∀x ∈ S1 o.op,I0 E w a s x)
  (hpk:∀c x y,o.op= .pick c x y->(∀b,M7 s c= .bool b->b=true->I0 E w a s x)/\(∀b,M7 s c= .bool b->b=false->I0 E w a s y))
  {K:Act->World->Prop} {Q:Exit->Act->World->Prop} (hk:b7m c E w o a y H' K):o.wp P a w K Q:=by
 unfold A6 at he;split at he
 ·rename_i ht;split at he
  ·rename_i t p hv;simp only[W8,T5] at he;obtain⟨rfl,rfl,rfl⟩:=he;unfold uD at ht;split at ht
   ·rename_i ty n parts hoe;rw[hoe] at hv hop;obtain⟨r,w',E',hrun,h1,h2,h3⟩:=c0f (P:=P) (a:=a) h (show aV P s ty (n+1) parts=some (_,_) from hv) (λp hp=>hop p.2 (by simp only[S1,Op.operands,List.mem_map];exact⟨p,hp,rfl⟩))
    refine zN (w':=w') (v:=r) ?_ (hk r w' E' h2 h3 h1)
    simp only[execOp,hoe,H4,hrun,I1,D5]
   ·rename_i ty parts hoe;rw[hoe] at hv hop;obtain⟨r,w',E',hrun,h1,h2,h3⟩:=b4W (P:=P) (a:=a) h hv;refine zN (w':=w') (v:=r) ?_ (hk r w' E' h2 h3 h1)
    simp only[execOp,hoe,H4,hrun,I1,D5]
   ·rename_i args argTypes hoe;rw[hoe] at hv hop;simp only[a52] at hv;split at hv
    case h_2=>cases hv
    rename_i d x t1 tx ha hat;obtain rfl:args= #[d,x]:=Array.ext' (by simpa using ha)
    obtain rfl:argTypes= #[t1,tx]:=Array.ext' (by simpa using hat)
    split at hv
    case h_2=>cases hv
    rename_i e hd hu;split at hv
    case h_2=>cases hv
    rename_i i z hi hz;split at hv
    case h_2=>cases hv
    rename_i q hl hq;split at hv
    case h_2=>cases hv
    rename_i hcl;simp only[W8,T5] at hv;obtain⟨rfl,rfl⟩:=hv;have hdo:=hop d (by simp[S1,Op.operands,Call.operands])
    unfold I0 at hdo;rw[hd] at hdo;obtain⟨r,w',E',hrun,h1,h2,h3⟩:=b6F (P:=P) (ty:=o.type) h hu hi hz hl hq hcl hs hdo (hop x (by simp[S1,Op.operands,Call.operands]))
    refine zN (w':=w') (v:=r) ?_ (hk r w' E' h2 h3 h1)
    simp[execOp,hoe,resolve,invoke,builtin,hrun,Result.andThen]
   ·cases ht
  ·cases he
 ·exact b8O hG hGc h he hs hop hpk hk

end
end Go.SS
