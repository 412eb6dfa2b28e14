/- A part of the proof. -/
import Derived.Test.YtlbmgnomkjmafaaGreatSS8
import Derived.Orders
import Derived.Deep.LoopGhost
import Derived.Laws.Sem
import Derived.Deep.Slices
import Derived.OpenShut
import Derived.RowKit
import Derived.ChangeSame
namespace Go.SS
open Go.RowKit
section
variable {c:Ctx} {E:Env} {H:Y4} {w:World} {P:Program} {G:I5}
theorem b80(hG:C6 P G)(h:Inv c E H w){f:FuncId}{args:List T}{vs:Array Value}{r:T}{p:Option Prop}(he:zS G H f args=some (r,p))(hp:p.getD True)(ha:tT E w args vs):
  Calls P f vs w λe w'=>∃v E',e= .returned v/\Inv c E' H w'/\Step E w E' w'/\Rd E' w' r v:=by
 unfold zS at he;split at he
 ·rename_i hcl;have hpf:=b5b hG he hp;have:=hpf {E with L:=λ_=>False,L2:=λ_ _=>False} w vs (λ_=>⟨λh=>h,λ_ h=>h⟩) h.nlt ⟨ha.1,λi t x hi hx=>Rd.closedD (E:=E) (E':={E with L:=λ_=>False,L2:=λ_ _=>False}) (λ_ h=>h) 6 (ha.2 i t x hi hx) (i7.1 hcl t (A4 hi))⟩
  refine this.mono λe w' q=>?_
  obtain⟨v,rfl,hb,R⟩:=q;obtain⟨n,j⟩:=h.grow hb.os hb.tape hb.output hb.size hb.block;exact⟨v,_,rfl,n,j,Rd.mono (E:=({E with L:=λ_=>False,L2:=λ_ _=>False}:Env).addN λb=>w.heap.size<=b/\b<w'.heap.size) (E':=E.addN λb=>w.heap.size<=b/\b<w'.heap.size) ⟨λ_ h=>h,λ_ h=>False.elim h,λ_ h=>False.elim h,λ_ h=>False.elim h,λ_ h=>False.elim h,λ_ _ h=>False.elim h,λ_ _ _ _ h=>False.elim h,λ_ _ _ _ h=>False.elim h⟩ (λ_ _=>rfl) R⟩
 ·split at he
  ·rename_i bs hbs;split at he
   ·rename_i r' p' hg;split at he
    ·rename_i l;simp only[X2,U0] at he;obtain⟨rfl,rfl⟩:=he;obtain⟨d,o⟩:=yM hp;have hpf:=b5b hG hg o;obtain⟨b1,b2⟩:=K3 hbs;have:=hpf (E.lent 0 H) w vs (λ_=>⟨λh=>absurd h.2 (J5 _),λ_ h=>absurd h.2 (J5 _)⟩) (λb hb=>by
      rcases hb with hb|⟨k,ob,_,hk,hb⟩
      ·exact h.nlt b hb
      ·exact h.heap.blt hk hb) ⟨by simp[b1,ha.1],λi t x hi hx=>by
       simp only[pW,G4] at hi
       obtain⟨y,Y,rfl⟩:=hi;have g:i<args.length:=by rw[←b1];exact(w6.1 Y).1
       have C:=J4 g
       exact s5 h 6 (r:=y.1) (p:=y.2) (b2 i _ y C Y) (b7 d y (A4 Y)) (ha.2 i _ x C hx)⟩
     refine this.mono λe w' q=>?_
     obtain⟨v,rfl,hb,R⟩:=q;obtain⟨n,j⟩:=h.grow hb.os hb.tape hb.output hb.size hb.block;exact⟨v,_,rfl,n,j,R.plain 6 l⟩
    ·cases he
   ·cases he
  ·cases he
def c2p(c:Ctx)(E:Env)(w:World)(o:Oper)(a:Act)(y:T)(H':Y4)(K:Act->World->Prop):Prop:=
 ∀v w' E',Inv c E' H' w'->Step E w E' w'->Rd E' w' y v->K (a.put o.dst v) w'
theorem i4{o:Oper}{a:Act}{K:Act->World->Prop}{Q:Exit->Act->World->Prop}{v:Value}{w':World}(h:(execOp a.eval o).run P w= .ok (.value v) w')(d:K (a.put o.dst v) w'):o.wp P a w K Q:=by
 unfold Oper.wp;rw[h];exact d
theorem c06{o:Oper}{a:Act}{K:Act->World->Prop}{Q:Exit->Act->World->Prop}{w':World}(h:(execOp a.eval o).run P w= .ok .skip w')(d:K (a.put o.dst undef) w'):o.wp P a w K Q:=by
 unfold Oper.wp;rw[h];exact d
theorem dZ{o:Oper}{a:Act}{K:Act->World->Prop}{Q:Exit->Act->World->Prop}{f:FuncId}{vs:Array Value}{w':World}(h:(execOp a.eval o).run P w= .ok (.enter f vs) w')
  (d:Calls P f vs w' λe W=>∃v,e= .returned v/\K (a.put o.dst v) W):o.wp P a w K Q:=by
 unfold Oper.wp;rw[h,Oper.upon_enter];refine d.mono λe W g=>?_
 obtain⟨v,rfl,hv⟩:=g;exact hv
theorem a9Y{a:Act}{s:W5}{x:Operand}{f:FuncId}{cs:List T}(h:cE s x=some (f,cs))(hx:G0 E w a s x):∃caps,a.eval x= .func (.func f) #[] caps/\tT E w cs caps:=by
 unfold cE at h;split at h
 ·simp only[X2,U0] at h;obtain⟨rfl,rfl⟩:=h;exact⟨#[],rfl,rfl,λi t x hi=>by simp at hi⟩
 ·unfold G0 at hx;split at h
  ·rename_i g cs' he;simp only[X2,U0] at h;obtain⟨rfl,rfl⟩:=h;rw[he] at hx;generalize a.eval x=v at hx;cases hx with
   |fn _ _ vs hl d=>exact⟨vs,rfl,hl,d⟩
  ·rename_i g first caps he
   rw[he] at hx;split at h
   ·rename_i hf hc;simp only[X2,U0] at h;obtain⟨rfl,rfl⟩:=h;obtain rfl:first= #[]:=Array.ext' (by simpa using hf)
    obtain rfl:caps= #[]:=Array.ext' (by simpa using hc)
    exact⟨#[],wK hx,rfl,λi t x hi=>by simp at hi⟩
   ·cases h
  ·cases h
def Q2(P:Program)(f:FuncId):Prop:=∃fn,P.funcs[f]? =some fn/\(fn.name== "runtime.NumGoroutine")=false/\fn.body.isNone=false
theorem eV{a:Act}{o:Oper}{x:Operand}{args:Array Operand}{at_:Array TypeId}{f:FuncId}{caps:Array Value}(O:o.op= .call {callee:=.value x,args:=args,argTypes:=at_})(h:Q2 P f)(hx:a.eval x= .func (.func f) #[] caps):
  (execOp a.eval o).run P w= .ok (.enter f (args.map a.eval++caps)) w:=by
 obtain⟨fn,e,d,g⟩:=h;simp only[execOp,O,resolve,hx,Deferred.ofValue,D8,B2,E7,invoke,callFunc,run_program,e,d,g];simp
theorem fS{as bs:List T}{u vs:Array Value}(h:tT E w as u)(k:tT E w bs vs):tT E w (as++bs) (u++vs):=by
 refine⟨by simp[h.1,k.1],λi t x hi hx=>?_⟩
 rw[List.getElem?_append] at hi
 rw[Array.getElem?_append] at hx
 rw[←h.1] at hx;split at hi
 ·rename_i d;rw[if_pos d] at hx;exact h.2 i t x hi hx
 ·rename_i d;rw[if_neg d] at hx;exact k.2 _ t x hi hx
theorem a0U{a:Act}{s:W5}{args:Array Operand}(h:∀x ∈ args.toList,G0 E w a s x):tT E w (args.toList.map (L3 s)) (args.map a.eval):=by
 refine⟨W8,λi t x hi hx=>?_⟩
 simp only[pW,Array.getElem?_map,G4,Array.getElem?_toList] at hi hx
 obtain⟨p,hp,rfl⟩:=hi;obtain⟨q,Q,rfl⟩:=hx;rw[hp] at Q;simp only[X2] at Q;subst Q;exact h p (by simpa using Array.mem_of_getElem? hp)
theorem b0j:∀(d:Nat) {t o:T} {E:Env} {w:World} {v:Value},yX d t o->Rd E w t v->Rd E w o v:=by
 intro d;induction d with
 |zero=>intro t o E w v h;exact h.elim
 |succ d z=>
  have L:∀{as bs:List T},yX.matsV (yX d) as bs->as.length=bs.length/\∀(i:Nat) (a b:T),as[i]? =some a->bs[i]? =some b->yX d a b:=by
   intro as;induction as with
   |nil=>
    intro bs h;cases bs with
    |nil=>exact⟨rfl,λi a b n=>by simp at n⟩
    |cons=>exact h.elim
   |cons a as I=>
    intro bs h;cases bs with
    |nil=>exact h.elim
    |cons b bs=>
     obtain⟨g,h2⟩:=I h.2;refine⟨by simp[g],λi x y hx Y=>?_⟩
     cases i with
     |zero=>simp at hx Y;subst hx;subst Y;exact h.1
     |succ i=>exact h2 i x y qP a4X
  have listP:∀{as bs:List T},yX.matsP (yX d) as bs->∀(i:Nat) (b:T),bs[i]? =some b->∃a,as[i]? =some a/\yX d a b:=by
   intro as bs;induction bs generalizing as with
   |nil=>intro _ i b hb;simp at hb
   |cons b bs B=>
    intro h i c C;cases as with
    |nil=>exact h.elim
    |cons a as=>
     cases i with
     |zero=>simp at C;subst C;exact⟨a,rfl,h.1⟩
     |succ i=>obtain⟨x,hx,M⟩:=B h.2 i c (by simpa using C);exact⟨x,qP,M⟩
  intro t o E w v h hx;have r:∀{as bs:List T} {vs:Array Value},yX.matsV (yX d) as bs->as.length=vs.size->(∀(i:Nat) (t:T) (x:Value),as[i]? =some t->vs[i]? =some x->Rd E w t x)->
    bs.length=vs.size/\∀(i:Nat) (t:T) (x:Value),bs[i]? =some t->vs[i]? =some x->Rd E w t x:=by
   intro as bs vs M hl e;obtain⟨g,h2⟩:=L M;refine⟨Z9,λi t x hi hx=>?_⟩
   have f:i<as.length:=by rw[g];exact(w6.1 hi).1
   exact z (h2 i _ t (J4 f) hi) (e i _ x (J4 f) hx)
  unfold yX at h;split at h
  ·exact .und _
  ·split at h
   ·rename_i F;obtain rfl:=E4 F;subst h;exact hx
   ·exact h.elim
  ·subst h;exact hx
  ·subst h;exact hx
  ·subst h;exact hx
  ·subst h;rw[wK hx];exact .slNil _ _
  ·subst h;rw[wK hx];exact .bysNil
  ·subst h;cases hx with|emp a=>cases a with|none=>exact .slNil _ _|some a=>exact .slEmp _ _ _
  ·subst h;cases hx with|emp a=>cases a with|none=>exact .bysNil|some a=>exact .bysEmp _
  ·exact hx
  ·subst h;exact hx
  ·split at h
   ·rename_i hb;obtain rfl:=G1 hb;obtain⟨rfl,hr⟩:=h;cases hx with
    |slNil=>exact .slNil _ _
    |slEmp=>exact .slEmp _ _ _
    |sl _ _ _ b off cap u N C hl g q e=>
     exact .sl _ _ _ b off cap u N C (λi hi=>by rw[←hr i hi];exact hl i hi) (λi t hi M=>by rw[←hr i hi] at M;exact g i t hi M) (λi j t hi J=>by rw[←hr i hi] at J;exact q i j t hi J) (λi j t hi J=>by rw[←hr i hi] at J;exact e i j t hi J)
   ·exact h.elim
  ·split at h
   ·rename_i hb;obtain rfl:=G1 hb;obtain⟨rfl,rfl⟩:=h;exact hx
   ·exact h.elim
  ·split at h
   ·rename_i hb;obtain rfl:=G1 hb;obtain⟨rfl,rfl⟩:=h;exact hx
   ·exact h.elim
  ·split at h
   ·rename_i hb;obtain rfl:=G1 hb;exact hx
   ·exact h.elim
  ·cases hx with
   |agg _ vs hl e=>obtain⟨A,l⟩:=r h hl e;exact .agg _ vs A l
  ·cases hx with
   |tup _ vs hl e=>obtain⟨A,l⟩:=r h hl e;exact .tup _ vs A l
  ·obtain⟨rfl,h⟩:=h;cases hx with
   |fn _ _ vs hl e=>obtain⟨A,l⟩:=r h hl e;exact .fn _ _ vs A l
  ·rename_i as bs;split at h
   ·rename_i hcl;have h2:=listP h;cases hx with
    |bref _ b off u N C hr e=>
     refine .bref _ b off u N (λt e=>i7.1 hcl t e) (λj t J=>?_) (λj t J=>?_)
     ·obtain⟨a,n,_⟩:=h2 j t J;exact hr j _ n
     ·obtain⟨a,n,M⟩:=h2 j t J;exact z M (e j _ n)
   ·exact h.elim
  ·exact h.elim
theorem bQ:∀{G:I5} {f:FuncId} {c:Con},w4 G f=some c->(f,c) ∈ G:=by
 intro G;induction G with
 |nil=>intro f c h;cases h
 |cons x G i=>
  intro f c h;obtain⟨g,d⟩:=x;simp only[w4] at h;split at h
  ·rename_i B;obtain rfl:=G1 B;simp only[X2] at h;subst h;simp
  ·simp[i h]
theorem a5w:∀{G:I5} {f:FuncId} {c:Con},(f,c) ∈ G->c.isEff=true->anyEff G=true:=by
 intro G;induction G with
 |nil=>intro f c h;cases h
 |cons x G i=>
  intro f c h C;obtain⟨g,d⟩:=x;simp only[anyEff,tB];rcases vT.1 h with h|h
  ·simp only[U0] at h;obtain⟨_,rfl⟩:=h;exact .inl C
  ·exact .inr (i h C)
theorem b7T{G:I5}{f:FuncId}{c:Con}(h:b8Y G f=some c):(f,c) ∈ G/\w4 G f=some c:=by
 unfold b8Y at h;split at h
 ·rename_i d hd;split at h
  ·simp only[X2] at h;subst h;exact⟨bQ hd,hd⟩
  ·cases h
 ·cases h
theorem a02{as bs:List T}{E:Env}{w:World}{vs:Array Value}(h:eJ as bs)(A:tT E w as vs):tT E w bs vs:=by
 have l:∀{as bs:List T},yX.matsV (yX 6) as bs->as.length=bs.length/\∀(i:Nat) (a b:T),as[i]? =some a->bs[i]? =some b->yX 6 a b:=by
  intro as;induction as with
  |nil=>
   intro bs h;cases bs with
   |nil=>exact⟨rfl,λi a b A=>by simp at A⟩
   |cons=>exact h.elim
  |cons a as I=>
   intro bs h;cases bs with
   |nil=>exact h.elim
   |cons b bs=>
    obtain⟨g,f⟩:=I h.2;refine⟨by simp[g],λi x y hx Y=>?_⟩
    cases i with
    |zero=>simp at hx Y;subst hx;subst Y;exact h.1
    |succ i=>exact f i x y qP a4X
 obtain⟨e,j⟩:=l h;refine⟨by rw[←e];exact A.1,λi t v hi hv=>?_⟩
 have d:i<as.length:=by rw[e];exact(w6.1 hi).1
 exact b0j 6 (j i _ t (J4 d) hi) (A.2 i _ v (J4 d) hv)
theorem b2A{d:Nat}:∀{as bs:List T},yX.matsV (yX d) as bs->as.length=bs.length/\∀(i:Nat) (a b:T),as[i]? =some a->bs[i]? =some b->yX d a b:=by
 intro as;induction as with
 |nil=>
  intro bs h;cases bs with
  |nil=>exact⟨rfl,λi a b A=>by simp at A⟩
  |cons=>exact h.elim
 |cons a as I=>
  intro bs h;cases bs with
  |nil=>exact h.elim
  |cons b bs=>
   obtain⟨f,e⟩:=I h.2;refine⟨by simp[f],λi x y hx Y=>?_⟩
   cases i with
   |zero=>simp at hx Y;subst hx;subst Y;exact h.1
   |succ i=>exact e i x y qP a4X
theorem eK:∀{as bs:List T},b4C as bs->as.length=bs.length/\∀(i:Nat) (b:T),bs[i]? =some b->∃a,as[i]? =some a/\b7A a b:=by
 intro as;induction as with
 |nil=>intro bs h;cases bs with
  |nil=>exact⟨rfl,λi b B=>by simp at B⟩
  |cons=>exact h.elim
 |cons a as I=>intro bs h;cases bs with
  |nil=>exact h.elim
  |cons b bs=>
   obtain⟨e,d⟩:=I h.2;refine⟨by simp[e],λi y Y=>?_⟩
   cases i with
   |zero=>simp at Y;subst Y;exact⟨a,rfl,h.1⟩
   |succ i=>obtain⟨x,hx,f⟩:=d i y a4X;exact⟨x,qP,f⟩
theorem uA{a b:T}(h:b7A a b):(a=b)∨∃ty sz n row ty' row',a= .own ty sz n row/\b= .own ty' sz n row'/\Z7 n row row':=by
 unfold b7A at h;split at h
 ·obtain⟨rfl,rfl,h⟩:=h;exact .inr ⟨_,_,_,_,_,_,rfl,rfl,h⟩
 ·exact .inl h
theorem iR{E:Env}{w:World}{k:Nat}{o o':Ob}(h:a3g (some o) (some o'))(ho:i6 E w k o):i6 E w k o'/\(∀b,B7 E k o' b↔B7 E k o b)/\∀v ty sz n row,o= .fam v ty sz n row->∃ty' row',o'= .fam v ty' sz n row':=by
 unfold a3g at h;split at h
 ·rename_i cl ty sz n row cl' ty' sz' n' row' he he';simp only[X2] at he he';subst he;subst he';have hblk:∀{o:Ob} (b:Nat),o.isArr=true->(B7 E k o b↔(E.κ k≠0/\b=E.β k)):=λb hi=>⟨λhb=>hb.arr hi,λhb=>.inl hb⟩
  refine⟨?_,λb=>(hblk b rfl).trans (hblk b rfl).symm,λ_ _ _ _ _ hh=>by cases hh⟩
  obtain⟨e1,e2,e3,e4,e5,cs,tyc,e6,e7,e8⟩:=(show T4 E w k ⟨cl,ty,sz,n,row⟩ from ho)
  show T4 E w k ⟨cl',ty',sz',n',row'⟩;simp only at e1 e2 e3 e4 e5 e7 e8;split at h
  ·rename_i hb;obtain rfl:=G1 hb;obtain⟨rfl,hr⟩:=h;exact⟨e1,e2,λi hi=>by simp only;rw[←hr i hi];exact e3 i hi,λi t hi ht=>e4 i t hi (by rw[hr i hi];exact ht),λ_ i t hi ht=>e5 rfl i t hi (by rw[hr i hi];exact ht),cs,tyc,e6,e7,λi j t hi hj=>e8 i j t hi (by rw[hr i hi];exact hj)⟩
  ·rename_i hb;obtain rfl:=G1 hb;split at h
   ·rename_i hone;obtain⟨rfl,rfl,hm⟩:=h;obtain⟨m1,m2⟩:=b2A hm;refine⟨e1,e2,λi hi=>?_,λi t hi ht=>?_,λhc=>(by cases hc),cs,tyc,e6,e7,λi j t hi hj=>?_⟩
    ·obtain rfl:i=0:=by have:i<1:=hi;omega
     simp only;rw[←m1];exact e3 0 Z9
    ·obtain rfl:i=0:=by have:i<1:=hi;omega
     exact i7.1 hone t ht
    ·obtain rfl:i=0:=by have:i<1:=hi;omega
     have hlt:j<(row 0).length:=by rw[m1];exact(w6.1 hj).1
     obtain⟨u,hu,hr⟩:=e8 0 j _ Z9 (J4 hlt)
     exact⟨u,hu,b0j 6 (m2 j _ t (J4 hlt) hj) hr⟩
   ·exact h.elim
  ·exact h.elim
 ·rename_i v ty sz n row v' ty' sz' n' row' he he';simp only[X2] at he he';subst he;subst he';split at h
  case h_2=>exact h.elim
  rename_i hb;obtain rfl:=G1 hb;obtain⟨rfl,rfl,hr⟩:=h;have hF:FamOk E w k v ty sz n row:=ho;have back:∀(i j:Nat) (t:T),i<n->(row' i)[j]? =some t->∃t0,(row i)[j]? =some t0/\b7A t0 t:=λi j t hi hj=>(eK (hr i hi)).2 j t hj
  have ownb:∀(i j:Nat) (oty:TypeId) (osz on:Nat) (orow:Nat->List T),i<n->(row' i)[j]? =some (.own oty osz on orow)->∃(oty0:TypeId) (orow0:Nat->List T),(row i)[j]? =some (.own oty0 osz on orow0)/\Z7 on orow0 orow:=by
   intro i j oty osz on orow hi hj;obtain⟨t0,h0,hc⟩:=back i j _ hi hj;rcases uA hc with rfl|⟨ty1,sz1,n1,row1,ty2,pU,rfl,he,hrr⟩
   ·exact⟨_,_,h0,λ_ _=>rfl⟩
   ·cases he;exact⟨_,_,h0,hrr⟩
  refine⟨?_,λb=>⟨λhb=>?_,λhb=>?_⟩,λ_ _ _ _ _ hh=>by cases hh;exact⟨_,_,rfl⟩⟩
  ·show FamOk E w k v ty' sz n row';obtain⟨e1,e2,e3,e4,e5,cs,tyc,e6,e7,e8⟩:=hF.arr;refine l7 hF.l2 e1 e2 cs tyc e6 e7 (λr hr'=>by rw[← (eK (hr r hr')).1];have:=e3 r hr';rwa [N8] at this) (λr q t hr' hq=>?_) (λi j i' j' oty osz on orow oty' osz' on' orow' hi hi' hj hj' hc hc' he=>?_)
   ·obtain⟨t0,h0,hc⟩:=back r q t hr' hq;obtain⟨u,hu,hru⟩:=e8 r q (sP k v r q t0) hr' (by simp only;rw[J9,h0];rfl)
    rcases hF.cell hr' h0 with hco|⟨oty,osz,on,orow,rfl⟩
    ·rcases uA hc with rfl|⟨_,_,_,_,_,_,rfl,_⟩
     ·rw[M4 hco] at hru;exact⟨u,hu,.inl ⟨hco,hru⟩⟩
     ·simp[closedOne,W7] at hco
    ·obtain⟨g1,g2⟩:=hF.own r q _ _ _ _ hr' h0;have:∃(ty2:TypeId) (pU:Nat->List T),t= .own ty2 osz on pU/\Z7 on orow pU:=by
      rcases uA hc with rfl|⟨_,_,_,_,_,_,he,rfl,hrr⟩
      ·exact⟨_,_,rfl,λ_ _=>rfl⟩
      ·cases he;exact⟨_,_,rfl,hrr⟩
     obtain⟨ty2,pU,rfl,hrr⟩:=this;refine⟨u,hu,.inr ⟨_,_,_,_,rfl,hru,?_,g2⟩⟩
     obtain⟨f1,f2,f3,f4,f5,cs2,tyc2,f6,f7,f8⟩:=g1;simp only at f3 f4 f5 f8;exact⟨f1,f2,λi hi=>by simp only;rw[←hrr i hi];exact f3 i hi,λi t hi ht=>f4 i t hi (by rw[hrr i hi];exact ht),λ_ i t hi ht=>f5 trivial i t hi (by rw[hrr i hi];exact ht),cs2,tyc2,f6,f7,λi j t hi hj=>f8 i j t hi (by rw[hrr i hi];exact hj)⟩
   ·obtain⟨_,_,p1,_⟩:=ownb i j _ _ _ _ hi hj;obtain⟨_,_,p2,_⟩:=ownb i' j' _ _ _ _ hi' hj';exact hF.inj i j i' j' _ _ _ _ _ _ _ _ hi hi' p1 p2 hc hc' he
  ·rcases hb with hb|⟨v0,ty0,sz0,n0,K8,i0,j0,oty1,osz1,on1,orow1,hobe,hi0,hj0,hc0,rfl⟩
   ·exact .inl hb
   ·simp only[Ob.fam.injEq] at hobe;obtain⟨rfl,rfl,rfl,rfl,rfl⟩:=hobe;obtain⟨_,_,p1,_⟩:=ownb i0 j0 _ _ _ _ hi0 hj0;exact .inr ⟨_,_,_,_,_,_,_,_,_,_,_,rfl,hi0,p1,hc0,rfl⟩
  ·rcases hb with hb|⟨v0,ty0,sz0,n0,K8,i0,j0,oty1,osz1,on1,orow1,hobe,hi0,hj0,hc0,rfl⟩
   ·exact .inl hb
   ·simp only[Ob.fam.injEq] at hobe;obtain⟨rfl,rfl,rfl,rfl,rfl⟩:=hobe;have hl:=(eK (hr i0 hi0)).1;have hlt:j0<(row' i0).length:=by rw[←hl];exact(w6.1 hj0).1
    obtain⟨t0,h0,hc⟩:=back i0 j0 _ hi0 (J4 hlt)
    rw[hj0] at h0;simp only[X2] at h0;subst h0;have hg:=J4 hlt
    rcases uA hc with he|⟨_,_,_,_,_,_,he,he2,_⟩
    ·rw[←he] at hg;exact .inr ⟨_,_,_,_,_,_,_,_,_,_,_,rfl,hi0,hg,hc0,rfl⟩
    ·rw[he2] at hg;exact .inr ⟨_,_,_,_,_,_,_,_,_,_,_,rfl,hi0,hg,hc0,rfl⟩
 ·rename_i ty l ty' l' he he';simp only[X2] at he he';subst he;subst he';subst h;refine⟨?_,λb=>?_,λ_ _ _ _ _ hh=>by cases hh⟩
  ·exact ho
  ·exact⟨λhb=>.inl (hb.arr rfl),λhb=>.inl (hb.arr rfl)⟩
 ·exact h.elim
theorem c02:∀{H H':Y4},a8u H H'->H.length=H'.length/\∀k,(Z1 H k=none/\Z1 H' k=none)∨∃o o',Z1 H k=some o/\Z1 H' k=some o'/\a3g (some o) (some o'):=by
 intro H;induction H with
 |nil=>intro H' h;cases H' with
  |nil=>exact⟨rfl,λk=>.inl ⟨rfl,rfl⟩⟩
  |cons=>exact h.elim
 |cons o H i=>intro H' h;cases H' with
  |nil=>exact h.elim
  |cons o' H'=>
   obtain⟨e,d⟩:=i h.2;refine⟨by simp[e],λk=>?_⟩
   cases k with
   |zero=>
    have M:=h.1;cases o with
    |none=>simp[a3g] at M
    |some o=>cases o' with
     |none=>simp[a3g] at M
     |some o'=>exact .inr ⟨o,o',rfl,rfl,M⟩
   |succ k=>simpa[Z1] using d k
theorem a9c{P:Program}{f:FuncId}{args A:List T}{H1 H2 H':Y4}{res:T}(M:eJ args A)(I:a8u H1 H2)(h:H6 P f A H2 res H'):H6 P f args H1 res H':=by
 intro E w vs e N hv;obtain⟨F,h2⟩:=c02 I;have B:∀k o',Z1 H2 k=some o'->∃o,Z1 H1 k=some o/\i6 E w k o'/\(∀b,B7 E k o' b↔B7 E k o b)/\∀v ty sz n row,o= .fam v ty sz n row->∃t row',o'= .fam v t sz n row':=λk o' d=>by
  rcases h2 k with⟨_,h3⟩|⟨o,o2,h3,h4,h5⟩
  ·rw[d] at h3;cases h3
  ·rw[d] at h4;simp only[X2] at h4;subst h4;exact⟨o,h3,iR h5 (e.live k o h3).2.1⟩
 have x:HeapOk E w H2:=by
  refine⟨λk o' d=>?_,λk k' o o' b d l hx j=>?_,λk d=>by rw[←F];exact e.lt k d,e.l2,λk o' v d hv=>?_⟩
  ·obtain⟨o,g,C,i,_⟩:=B k o' d;obtain⟨l1,_,L⟩:=e.live k o g;exact⟨l1,C,λb hx=>L b ((i b).1 hx)⟩
  ·obtain⟨o1,g,_,i,_⟩:=B k o d;obtain⟨o2,r,_,z,_⟩:=B k' o' l;exact e.inj k k' o1 o2 b g r ((i b).1 hx) ((z b).1 j)
  ·obtain⟨o,g,_,_,r⟩:=B k o' d;obtain⟨V,ty,sz,n,row,J,u⟩:=e.cur k o v g hv;obtain⟨t,row',q⟩:=r _ _ _ _ _ J;exact⟨V,t,sz,n,row',q,u⟩
 have X:XB E H2=XB E H1:=by
  funext b
  refine propext ⟨λ⟨k,o',d,hx⟩=>?_,λ⟨k,o,d,hx⟩=>?_⟩
  ·obtain⟨o,g,_,i,_⟩:=B k o' d;exact⟨k,o,g,(i b).1 hx⟩
  ·rcases h2 k with⟨h3,_⟩|⟨o1,o2,h3,h4,h5⟩
   ·rw[d] at h3;cases h3
   ·rw[d] at h3;simp only[X2] at h3;subst h3;exact⟨k,o2,h4,((iR h5 (e.live k o d).2.1).2.1 b).2 hx⟩
 have:=h E w vs x N (a02 M hv);rw[X] at this;exact this
structure Good(P:Program)(G G':I5):Prop where
 ok:C6 P G'
 call:∀x ∈ G',Q2 P x.1
 stays:∀op,stays G' op=stays G op
 grow:∀op,yO G' op=yO G op
 ef:∀y,isEf G' y=isEf G y
theorem aZ{G:I5}{f:FuncId}{c:Con}(h:w4 G f=some c)(r:c.isRel=true):qS G f=none/\gmk G f=none:=by
 induction G with
 |nil=>cases h
 |cons x G i=>
  obtain⟨g,d⟩:=x;simp only[w4] at h;simp only[qS,gmk];split at h
  ·simp only[X2] at h;subst h;cases d<;>first|exact⟨rfl,rfl⟩|(cases r)
  ·exact i h
theorem a2F{f:FuncId}{c:Con}:∀{G:I5},b8f G f=some c->(f,c) ∈ G
 | [],h=>J6
 |(g,d)::r,h=>by
  unfold b8f at h;split at h
  ·exact List.mem_cons_of_mem _ (bQ h)
  ·exact List.mem_cons_of_mem _ (a2F h)
theorem rE(l:C6 P G)(C:∀x ∈ G,Q2 P x.1){s:W5}{op:Op}{k:I5->Prop}(h:gM G s op k):∃G',Good P G G'/\k G':=by
 unfold gM at h;split at h
 ·exact⟨G,⟨l,C,λ_=>rfl,λ_=>rfl,λ_=>rfl⟩,h⟩
 ·rename_i f r hr;have R:b8Y G f=some r:=by
   unfold c2f at hr;split at hr
   ·split at hr
    ·simp only[G4,U0] at hr;obtain⟨O,i,rfl,rfl⟩:=hr;exact i
    ·cases hr
   ·cases hr
  obtain⟨M,j⟩:=b7T R;have good:∀d:Con,a5i P f d->d.isMk=r.isMk->d.isEf=r.isEf->(∀y,isEff ((f,d)::G) y=isEff G y)->mV ((f,d)::G)=mV G->Good P G ((f,d)::G):=by
   intro d hd e v hie z;have u:∀op,tC ((f,d)::G) op=tC G op:=λop=>by
    unfold tC;rw[z]
   have o:∀y:Operand,isMk ((f,d)::G) y=isMk G y:=by
    intro y;cases y with
    |func g=>
     simp only[isMk,w4];cases B:Nat.beq g f with
     |true=>rw[G1 B,j];exact e
     |false=>rfl
    |_=>rfl
   refine⟨λy hy=>?_,λy hy=>?_,λop=>?_,λop=>by unfold yO;split<;>first|rfl|exact o _,λy=>?_⟩
   ·rcases vT.1 hy with rfl|hy
    ·exact hd
    ·exact l y hy
   ·rcases vT.1 hy with rfl|hy
    ·exact C (f,r) M
    ·exact C y hy
   ·unfold SS.stays;rw[u];have:s9 ((f,d)::G) op=s9 G op:=by
     unfold s9;split<;>first|rfl|rw[hie]
    rw[this]
   ·cases y with
    |func g=>
     simp only[isEf,w4];cases B:Nat.beq g f with
     |true=>rw[G1 B,j];exact v
     |false=>rfl
    |_=>rfl
  have hie:∀d:Con,d.isEff=r.isEff->∀y:Operand,isEff ((f,d)::G) y=isEff G y:=by
   intro d e y;cases y with
   |func g=>
    simp only[isEff,w4];cases B:Nat.beq g f with
    |true=>rw[G1 B,j];exact e
    |false=>rfl
   |_=>
    simp only[isEff,anyEff];cases hd:d.isEff with
    |false=>rfl
    |true=>rw[a5w M (e.symm.trans hd)];rfl
  split at h
  ·rename_i r;obtain⟨x,hx⟩:=h;refine⟨_,good (.pure λas=>some (r.res x,some (eJ as (r.args x)/\r.side x))) ?_ rfl rfl (hie _ rfl) rfl,hx⟩
   intro as res p e hp;simp only[X2,U0] at e;obtain⟨rfl,rfl⟩:=e;obtain⟨i,n⟩:=hp;have F:=l _ M x n;intro E w vs L N A;exact F E w vs L N (a02 i A)
  ·rename_i r;have one:∀(r2:Rle),(f,Con.reff r2) ∈ G->(∃x:r2.ι,k (b0i f r2 x G))->∃G',Good P G G'/\k G':=by
    intro r2 q h;obtain⟨x,hx⟩:=h;refine⟨_,good (.eff λas H=>b9Z r2 x as H) ?_ rfl rfl (hie _ rfl) rfl,hx⟩
    have base:fN P f λas H=>some (r2.res x,r2.post x,some (eJ as (r2.args x)/\a8u H (r2.pre x)/\r2.side x)):=by
     intro as H res H' p e hp;simp only[X2,U0] at e;obtain⟨rfl,rfl,rfl⟩:=e;obtain⟨i,n,t⟩:=hp;exact a9c i n (l _ q x t)
    intro as H res H' p e hp;replace e:b9Z r2 x as H=some (res,H',p):=e;unfold b9Z at e;split at e
    ·exact base as H res H' p e hp
    ·exact c3y base as H res H' p e hp
   split at h
   ·rename_i r2 hr2;rcases h with h|h
    ·exact one r M h
    ·exact one r2 (a2F hr2) h
   ·exact one r M h
  ·rename_i r;obtain⟨x,hx⟩:=h;refine⟨_,good (.mk λas=>some (r.res x,r.post x,some (eJ as (r.args x)/\r.side x))) ?_ rfl rfl (hie _ rfl) rfl,hx⟩
   intro as res H' p e hp;simp only[X2,U0] at e;obtain⟨rfl,rfl,rfl⟩:=e;obtain⟨i,t⟩:=hp;obtain⟨Q,J,I⟩:=l _ M x t;exact⟨a9c (H2:=[]) i (show a8u [] [] from trivial) Q,J,I⟩
  ·rename_i r;obtain⟨x,hx⟩:=h;refine⟨_,good (.fz λas=>some (r.res x,some (eJ as (r.args x)/\r.side x))) ?_ rfl rfl (hie _ rfl) rfl,hx⟩
   intro as res p e hp;simp only[X2,U0] at e;obtain⟨rfl,rfl⟩:=e;obtain⟨i,n⟩:=hp;have F:=l _ M x n;intro E w vs L N A;exact F E w vs L N (a02 i A)
  ·exact⟨G,⟨l,C,λ_=>rfl,λ_=>rfl,λ_=>rfl⟩,h⟩
theorem c4e(n:C6 P G)(C:∀x ∈ G,Q2 P x.1)(h:Inv c E H w){a:Act}{s:W5}{o:Oper}{y:T}{H':Y4}{side:Option Prop}(he:K1 P G s H o.op=some (y,H',side))(hs:side.getD True)
  (hop:∀x ∈ E8 o.op,G0 E w a s x)
  (l:∀c x y,o.op= .pick c x y->(∀b,L3 s c= .bool b->b=true->G0 E w a s x)/\(∀b,L3 s c= .bool b->b=false->G0 E w a s y))
  {K:Act->World->Prop} {Q:Exit->Act->World->Prop} (d:c2p c E w o a y H' K):o.wp P a w K Q:=by
 unfold K1 at he;split at he
 ·rename_i t p hv;simp only[X2,U0] at he;obtain⟨rfl,rfl,rfl⟩:=he;obtain⟨v,hrun,hr⟩:=c3z (P:=P) hv hs h.heap hop l;exact i4 hrun (d v w E h (Step.refl E w) hr)
 ·split at he
  ·rename_i r hm;simp only[X2] at he;subst he;obtain⟨w',E',hrun,hI,hst⟩:=c3s (P:=P) h hm hs hop;rcases hrun with⟨v,hrun,hr⟩|⟨hrun,rfl⟩
   ·exact i4 hrun (d v w' E' hI hst hr)
   ·exact c06 hrun (d undef w' E' hI hst (.und _))
  ·split at he
   ·rename_i x args argTypes hoe;have hmem:∀{α:Type} (g:Con->Option α) (sel:I5->FuncId->Option α),(∀f,sel [] f=none)->(∀h c r f,sel ((h,c)::r) f=match Nat.beq f h with|true=>g c|false=>sel r f)->∀(G:I5) (f:FuncId) (r:α),sel G f=some r->∃x ∈ G,x.1=f:=by
     intro α g sel u q G;induction G with
     |nil=>intro f r h;rw[u] at h;cases h
     |cons x G I=>
      intro f r h;obtain⟨a,b⟩:=x;rw[q] at h;split at h
      ·rename_i B;exact⟨(a,b),W8,(G1 B).symm⟩
      ·obtain⟨x,hx,he⟩:=I f r h;exact⟨x,aD,he⟩
    have effCall:∀{g:FuncId} {as:List T},xF G H g as=some (y,H',side)->Q2 P g:=by
     intro g as he;unfold xF at he;split at he
     ·rename_i c0 hc0;obtain⟨y,hy,rfl⟩:=hmem (λc=>match c with| .eff c=>some c|_=>none) qS (λ_=>rfl) (λ_ _ _ _=>rfl) G g c0 hc0
      exact C y hy
     ·split at he
      ·rename_i c0 hc0;obtain⟨y,hy,rfl⟩:=hmem (λc=>match c with| .mk c=>some c|_=>none) gmk (λ_=>rfl) (λ_ _ _ _=>rfl) G g c0 hc0
       exact C y hy
      ·split at he
       ·rename_i c0 hc0;obtain⟨y,hy,rfl⟩:=hmem (λc=>match c with| .fz c=>some c|_=>none) gfz (λ_=>rfl) (λ_ _ _ _=>rfl) G g c0 hc0
        exact C y hy
       ·cases he
    have O:∀{g:FuncId} {cs:List T},cE s x=some (g,cs)->((zS G H g (args.toList.map (L3 s)++cs)).map λr=>(r.1,H,r.2))=some (y,H',side)->o.wp P a w K Q:=by
     intro g cs hfn he;cases hp:zS G H g (args.toList.map (L3 s)++cs) with
     |none=>rw[hp] at he;cases he
     |some r=>
      rw[hp] at he;simp only[m8,X2,U0] at he;obtain⟨rfl,rfl,rfl⟩:=he;rw[hoe] at hop;obtain⟨caps,hx,hcaps⟩:=a9Y hfn (hop x vM)
      have hargs:=fS (a0U (args:=args) (λx hx=>hop x b5k)) hcaps
      have hcallable:Q2 P g:=by
       have:∃args r,gam G g args=some r:=by
        unfold zS at hp;split at hp
        ·exact⟨_,_,hp⟩
        ·split at hp
         ·split at hp
          ·rename_i j;exact⟨_,_,j⟩
          ·cases hp
         ·cases hp
       obtain⟨as,R,j⟩:=this;obtain⟨y,hy,rfl⟩:=hmem (λc=>match c with| .pure c=>c as|_=>none) (λG f=>gam G f as) (λ_=>rfl) (λ_ _ _ _=>rfl) G g R j
       exact C y hy
      refine dZ (eV (P:=P) (w:=w) hoe hcallable hx) ((b80 n h hp hs hargs).mono λe w' i=>?_)
      obtain⟨v,E',rfl,hI,hst,hr⟩:=i;exact⟨v,rfl,d v w' E' hI hst hr⟩
    split at he
    ·split at he
     ·rename_i g hie;have hcallable:=effCall he;rw[hoe] at hop;have hargs:=a0U (args:=args) (λx hx=>hop x b5k)
      have hrun:=eV (P:=P) (w:=w) (caps:= #[]) hoe hcallable (a:=a) (x:=.func g) rfl;rw[Array.append_empty] at hrun;refine dZ hrun ((b75 n h he hs hargs).mono λe w' i=>?_)
      obtain⟨v,E',rfl,hI,hst,hr⟩:=i;exact⟨v,rfl,d v w' E' hI hst hr⟩
     ·split at he
      ·rename_i g cs hfn;split at he
       ·have hcallable:=effCall he;rw[hoe] at hop;obtain⟨caps,hx,hcaps⟩:=a9Y hfn (hop _ vM)
        have hargs:=fS (a0U (args:=args) (λx hx=>hop x b5k)) hcaps
        refine dZ (eV (P:=P) (w:=w) hoe hcallable hx) ((b75 n h he hs hargs).mono λe w' i=>?_)
        obtain⟨v,E',rfl,hI,hst,hr⟩:=i;exact⟨v,rfl,d v w' E' hI hst hr⟩
       ·exact O hfn he
      ·cases he
    ·split at he
     ·rename_i g cs hfn;exact O hfn he
     ·cases he
   ·cases he
theorem a4T(hG:C6 P G)(hGc:∀x ∈ G,Q2 P x.1)(h:Inv c E H w){a:Act}{s:W5}{o:Oper}{y:T}{H':Y4}{side:Option Prop}(he:A5 P G s H o.op=some (y,H',side))(hs:side.getD True)
  (hop:∀x ∈ E8 o.op,G0 E w a s x)
  (hpk:∀c x y,o.op= .pick c x y->(∀b,L3 s c= .bool b->b=true->G0 E w a s x)/\(∀b,L3 s c= .bool b->b=false->G0 E w a s y))
  {K:Act->World->Prop} {Q:Exit->Act->World->Prop} (hk:c2p c E w o a y H' K):o.wp P a w K Q:=by
 unfold A5 at he;split at he
 ·rename_i ht;split at he
  ·rename_i t p hv;simp only[X2,U0] at he;obtain⟨rfl,rfl,rfl⟩:=he;unfold tC at ht;split at ht
   ·rename_i ty n parts hoe;rw[hoe] at hv hop;obtain⟨r,w',E',hrun,h1,h2,h3⟩:=a8z (P:=P) (a:=a) h (show a1H P s ty (n+1) parts=some (_,_) from hv) (λp hp=>hop p.2 (by simp only[E8,Op.operands,List.mem_map];exact⟨p,hp,rfl⟩))
    refine i4 (w':=w') (v:=r) ?_ (hk r w' E' h2 h3 h1)
    simp only[execOp,hoe,D8,hrun,E7,B2]
   ·rename_i ty parts hoe;rw[hoe] at hv hop;obtain⟨r,w',E',hrun,h1,h2,h3⟩:=b9j (P:=P) (a:=a) h hv;refine i4 (w':=w') (v:=r) ?_ (hk r w' E' h2 h3 h1)
    simp only[execOp,hoe,D8,hrun,E7,B2]
   ·rename_i args argTypes hoe;rw[hoe] at hv hop;simp only[a2X] at hv;split at hv
    case h_2=>cases hv
    rename_i d x t1 tx ha hat;obtain rfl:args= #[d,x]:=Array.ext' tN
    obtain rfl:argTypes= #[t1,tx]:=Array.ext' a0p
    split at hv
    case h_2=>cases hv
    rename_i e hd hu;split at hv
    case h_2=>cases hv
    rename_i i z hi hz;split at hv
    case h_2=>cases hv
    rename_i q hl hq;split at hv
    case h_2=>cases hv
    rename_i hcl;simp only[X2,U0] at hv;obtain⟨rfl,rfl⟩:=hv;have hdo:=hop d vM
    unfold G0 at hdo;rw[hd] at hdo;obtain⟨r,w',E',hrun,h1,h2,h3⟩:=c1o (P:=P) (ty:=o.type) h hu hi hz hl hq hcl hs hdo (hop x vM)
    refine i4 (w':=w') (v:=r) ?_ (hk r w' E' h2 h3 h1)
    simp[execOp,hoe,resolve,invoke,builtin,hrun,Result.andThen]
   ·cases ht
  ·cases he
 ·exact c4e hG hGc h he hs hop hpk hk
end
def I4(s:W5)(p:D4):Prop:=∀q,q ∈ p->∃x,zY s q.1= .bool x/\x=q.2
structure SlotsOk(E:Env)(w:World)(s:W5)(ps:A3)(a:Act):Prop where
 on:∀i,I4 s (S5 ps i)->Rd E w (zY s i) (a.tmps.getD i undef)
 off:∀i,¬I4 s (S5 ps i)->a.tmps.getD i undef=undef
structure RealE(c:Ctx)(E:Env)(s:W5)(ps:A3)(H:Y4)(a:Act)(w:World):Prop where
 defers:a.defers=[]
 size:a.tmps.size=c.nt
 slots:SlotsOk E w s ps a
 inv:Inv c E H w
def jQ(c:Ctx)(s:W5)(H:Y4)(a:Act)(w:World):Prop:=∃E,RealE c E s [] H a w
theorem uI(s:W5)(d:Nat)(t:T)(i:Nat):zY (xN s (some d) t) i=if i=d then t else zY s i:=by
 simp only[xN,zY];split
 ·rename_i h;rw[if_pos (G1 h)]
 ·rename_i h;rw[if_neg (Nat.ne_of_beq_eq_false h)]
theorem gD(ps:A3)(i:Nat):S5 ps i=[]∨(i,S5 ps i) ∈ ps:=by
 induction ps with
 |nil=>exact .inl rfl
 |cons x ps ih=>
  obtain⟨j,p⟩:=x;simp only[S5];split
  ·rename_i h;obtain rfl:=G1 h;exact .inr W8
  ·rcases ih with ih|ih
   ·exact .inl ih
   ·exact .inr (by simp[ih])
theorem iE{ps:A3}{d:Nat}(h:eX ps d=true):S5 ps d=[]/\∀i,∀q ∈ S5 ps i,q.1≠d:=by
 unfold eX at h;have f:=i7.1 h;constructor
 ·rcases gD ps d with h1|h1
  ·exact h1
  ·have:=f _ h1;simp at this
 ·intro i q hq;rcases gD ps i with h1|h1
  ·rw[h1] at hq;cases hq
  ·have:=f _ h1;simp only[O4] at this;have:=i7.1 this.2 q hq;intro e;rw[e] at this;simp at this
theorem yW{s:W5}{d:Nat}{t:T}{p:D4}(h:∀q ∈ p,q.1≠d):I4 (xN s (some d) t) p↔I4 s p:=by
 unfold I4;constructor
 ·intro hp q hq;have:=hp q hq
  rwa [uI,if_neg (h q hq)] at this
 ·intro hp q hq;have:=hp q hq
  rwa [uI,if_neg (h q hq)]
theorem rM(a:Act)(d:Nat)(v:Value)(i:Nat)(hd:d<a.tmps.size):(a.put (some d) v).tmps.getD i undef=if i=d then v else a.tmps.getD i undef:=by
 simp only[Act.put,Array.getD_eq_getD_getElem?,Array.getElem?_setIfInBounds]
 by_cases h:d=i
 ·subst h;simp[hd]
 ·rw[if_neg h,if_neg (λe=>h e.symm)]
section
variable {c:Ctx} {E E':Env} {H H':Y4} {w w':World} {P:Program} {G:I5} {s:W5} {ps:A3} {a:Act}
theorem SlotsOk.step(h:SlotsOk E w s ps a)(d:Step E w E' w'):SlotsOk E' w' s ps a:=⟨λi hi=>d.rd (h.on i hi),h.off⟩
theorem SlotsOk.put(h:SlotsOk E w s ps a){d:Nat}(f:eX ps d=true)(hd:d<a.tmps.size){t:T}{v:Value}(r:Rd E w t v):SlotsOk E w (xN s (some d) t) ps (a.put (some d) v):=by
 obtain⟨g,e⟩:=iE f;refine⟨λi hi=>?_,λi hi=>?_⟩
 ·rw[rM a d v i hd,uI];by_cases he:i=d
  ·rw[if_pos he,if_pos he];exact r
  ·rw[if_neg he,if_neg he];exact h.on i ((yW (e i)).1 hi)
 ·rw[rM a d v i hd];by_cases he:i=d
  ·subst he;rw[g] at hi;exact absurd (λq Q=>nK) hi
  ·rw[if_neg he];exact h.off i (λhp=>hi ((yW (e i)).2 hp))
theorem SlotsOk.putG(h:SlotsOk E w s ps a){d:Nat}(F:eX ps d=true)(hd:d<a.tmps.size){p:D4}(hp:∀q ∈ p,q.1≠d){t:T}{v:Value}(r:I4 s p->Rd E w t v)(u:¬I4 s p->v=undef):
  SlotsOk E w (xN s (some d) t) ((d,p)::ps) (a.put (some d) v):=by
 obtain⟨g,f⟩:=iE F;have hpo:∀i,S5 ((d,p)::ps) i=if i=d then p else S5 ps i:=by
  intro i;simp only[S5];split
  ·rename_i B;rw[if_pos (G1 B)]
  ·rename_i B;rw[if_neg (Nat.ne_of_beq_eq_false B)]
 refine⟨λi hi=>?_,λi hi=>?_⟩
 ·rw[hpo] at hi;rw[rM a d v i hd,uI];by_cases he:i=d
  ·rw[if_pos he] at hi;rw[if_pos he,if_pos he];exact r ((yW hp).1 hi)
  ·rw[if_neg he] at hi;rw[if_neg he,if_neg he];exact h.on i ((yW (f i)).1 hi)
 ·rw[hpo] at hi;rw[rM a d v i hd];by_cases he:i=d
  ·rw[if_pos he] at hi;rw[if_pos he];exact u (λe=>hi ((yW hp).2 e))
  ·rw[if_neg he] at hi;rw[if_neg he];exact h.off i (λhp=>hi ((yW (f i)).2 hp))
theorem a0i:∀{p q:D4},oL p q=true->p=q:=by
 intro p;induction p with
 |nil=>intro q h;cases q with|nil=>rfl|cons=>simp[oL] at h
 |cons x p i=>
  intro q h;cases q with
  |nil=>simp[oL] at h
  |cons y q=>
   obtain⟨a,b⟩:=x;obtain⟨c,d⟩:=y;simp only[oL,O4] at h;obtain⟨⟨f,e⟩,g⟩:=h;obtain rfl:=G1 f;obtain rfl:=eq_of_beq e;rw[i g]
theorem b6M{p:D4}:∀{q:D4},sufB p q=true->I4 s q->I4 s p:=by
 intro q;induction q with
 |nil=>intro h Q;rw[a0i h];exact Q
 |cons x q i=>
  intro h Q;simp only[sufB,tB] at h;rcases h with h|h
  ·rw[a0i h];exact Q
  ·exact i h (λy Y=>Q y (by simp[Y]))
theorem mY(h:SlotsOk E w s ps a){d:D4}(hp:I4 s d){x:Operand}(hx:gO ps d x=true):G0 E w a s x:=
 a1E λt e=>by
  subst e;exact h.on t (b6M hx hp)
theorem sO(h:SlotsOk E w s ps a){e:D4}(hp:I4 s e){op:Op}(d:G5 ps e op=true):
  (∀x ∈ E8 op,G0 E w a s x)/\∀c x y,op= .pick c x y->(∀b,L3 s c= .bool b->b=true->G0 E w a s x)/\(∀b,L3 s c= .bool b->b=false->G0 E w a s y):=by
 by_cases hpk:∃c x y,op= .pick c x y
 ·obtain⟨c,x,y,rfl⟩:=hpk;cases c with
  |tmp t=>
   simp only[G5,O4] at d;obtain⟨⟨g,h2⟩,h3⟩:=d;refine⟨λz Z=>?_,λC X Y he=>?_⟩
   ·simp only[E8,List.mem_singleton] at Z;subst Z;exact mY h hp g
   ·cases he;refine⟨λb hb hbt=>mY h (λq hq=>?_) h2,λb hb hbt=>mY h (λq hq=>?_) h3⟩
    ·rcases vT.1 hq with rfl|hq
     ·exact⟨b,hb,hbt⟩
     ·exact hp q hq
    ·rcases vT.1 hq with rfl|hq
     ·exact⟨b,hb,hbt⟩
     ·exact hp q hq
  |const=>simp[G5] at d
  |global=>simp[G5] at d
  |func=>simp[G5] at d
 ·have f:E8 op=op.operands.toList:=by
   cases op<;>first|rfl|exact absurd ⟨_,_,_,rfl⟩ hpk
  have l:op.operands.toList.all (gO ps e)=true:=by
   cases op<;>first|exact d|exact absurd ⟨_,_,_,rfl⟩ hpk
  refine⟨λx hx=>mY h hp (i7.1 l x (by rw[←f];exact hx)),λc x y he=>absurd ⟨c,x,y,he⟩ hpk⟩
theorem kR:∀{p:D4} {q:Prop},B6 s p q->I4 s p->q:=by
 intro p;induction p with
 |nil=>intro q h _;exact h
 |cons x p ih=>
  intro q h hp;obtain⟨t,b⟩:=x;simp only[B6] at h;split at h
  ·rename_i y hy;have:=ih h (λz hz=>hp z (by simp[hz]))
   obtain⟨X,d,e⟩:=hp (t,b) W8
   rw[hy] at d;cases d;exact this e
  ·exact h.elim
theorem a3X:∀{p:D4} {q:Prop},sD s p=true->(I4 s p->q)->B6 s p q:=by
 intro p;induction p with
 |nil=>intro q _ h;exact h (λz hz=>by cases hz)
 |cons x p ih=>
  intro q hb h;obtain⟨t,b⟩:=x;simp only[sD] at hb;simp only[B6];split at hb
  ·rename_i y hy;refine ih hb λhp he=>h λz hz=>?_
   rcases vT.1 hz with rfl|hz
   ·exact⟨y,hy,he⟩
   ·exact hp z hz
  ·cases hb
theorem a1u{p:D4}(B:sD s p=true)(h:¬I4 s p):B6 s p False:=a3X B λhp=>h hp
theorem xA{p:D4}{side:Option Prop}{q:Prop}(h:kX s p side q):(I4 s p->side.getD True)/\q:=by
 cases side with
 |none=>exact⟨λ_=>trivial,h⟩
 |some r=>exact⟨λhp=>kR h.1 hp,h.2⟩
theorem a3F(s:W5)(ps:A3)(i:Nat):zY (bV s ps) i= .und∨(zY (bV s ps) i=zY s i/\S5 ps i=[]):=by
 induction ps with
 |nil=>exact .inr ⟨rfl,rfl⟩
 |cons x ps h=>
  obtain⟨d,p⟩:=x;simp only[bV,zY,S5];split
  ·exact .inl rfl
  ·exact h
theorem SlotsOk.ends(h:SlotsOk E w s ps a):SlotsOk E w (bV s ps) [] a:=by
 refine⟨λi _=>?_,λi hi=>absurd (λq Q=>nK) hi⟩
 rcases a3F s ps i with he|⟨he,hp⟩
 ·rw[he];exact .und _
 ·rw[he];exact h.on i (by rw[hp];exact λq Q=>nK)
theorem b3n{op:Op}{y:T}{side:Option Prop}(he:K1 P G s H op=some (y,H',side))(h:s9 G op=true):H'=H:=by
 unfold K1 at he;split at he
 ·simp only[X2,U0] at he;exact he.2.1.symm
 ·split at he
  ·rename_i r hm;simp only[X2] at he;subst he;unfold A9 at hm;split at hm
   all_goals first|(simp[s9] at h;done)|skip
   ·split at hm
    ·split at hm
     ·simp only[X2,U0] at hm;exact hm.2.1.symm
     ·cases hm
    ·cases hm
   ·cases hm
  ·split at he
   ·rename_i x args at_;split at he
    ·rename_i e;simp[s9,e] at h
    ·split at he
     ·simp only[G4,U0] at he;obtain⟨r,_,_,he,_⟩:=he;exact he.symm
     ·cases he
   ·cases he
theorem b4i{op:Op}{y:T}{side:Option Prop}(he:A5 P G s H op=some (y,H',side))(h:stays G op=true):H'=H:=by
 unfold A5 at he;unfold stays at h;split at he
 ·split at he
  ·simp only[X2,U0] at he;exact he.2.1.symm
  ·cases he
 ·rename_i t;rw[t] at h;exact b3n he h
theorem b1n{E:Env}{w:World}{a:Act}{s:W5}{o:Oper}{n:Nat}{neg:Bool}(h:a8k P s o.op=some (n,neg))(hop:∀x ∈ E8 o.op,G0 E w a s x):
  ∃b,c5u b n/\(execOp a.eval o).run P w= .ok (.value (.bool (cond neg (!b) b))) w:=by
 obtain⟨dst,op,ty,pos,after,guard⟩:=o;simp only at h hop;unfold a8k at h;split at h
 case h_2=>cases h
 rename_i bop t x y rt;have hx:=hop x K5
 have hy:=hop y K5
 unfold G0 at hx hy;have fin:∀{e:TypeId} {ad:Option Addr} {m cap:Nat},P.underlying t=some (.slice e)->a.eval x= .slice ad m cap->a.eval y= .slice none 0 0->(ad=none->m=0)->m=n->(bop= .eql/\neg=false)∨(bop= .neq/\neg=true)->
   ∃b,c5u b n/\(execOp a.eval ⟨dst,.binOp bop t x y rt,ty,pos,after,guard⟩).run P w= .ok (.value (.bool (cond neg (!b) b))) w:=by
  intro e ad m cap hu h1 h2 h3 h4 h5;refine⟨ad.isNone,λhb=>by rw[←h4];exact h3 kA,?_⟩
  rcases h5 with⟨rfl,rfl⟩|⟨rfl,rfl⟩
  ·simp only[execOp,h1,h2,eqGuard_at_slice,binOp];simp[run_equal_slice_nil w t e ad m cap hu]
  ·simp only[execOp,h1,h2,eqGuard_at_slice,binOp];simp[run_equal_slice_nil w t e ad m cap hu]
 have key:∀{x:T} {v:Value} {n:Nat},((∃sz row,x= .sl sz n row)∨∃k off,x= .osl k off n)->Rd E w x v->∃ad cap,v= .slice ad n cap/\(ad=none->n=0):=by
  intro x v n hx hr;rcases hx with⟨sz,row,rfl⟩|⟨k,off,rfl⟩
  ·cases hr with
   |slNil=>exact⟨none,0,rfl,λ_=>rfl⟩
   |slEmp _ _ a=>exact⟨some a,0,rfl,λ_=>rfl⟩
   |sl _ _ _ b off cap=>exact⟨_,cap,rfl,λh=>J6⟩
  ·cases hr with
   |osl _ _ _ o ad hL hn ho ha=>
    refine⟨ad,_,rfl,λh=>?_⟩
    by_cases hκ:E.κ k=0
    ·omega
    ·rw[ha hκ] at h;cases h
 split at h
 ·rename_i e sz n' row hu hsx hsy;simp only[X2,U0] at h;obtain⟨rfl,rfl⟩:=h;rw[hsx] at hx;rw[hsy] at hy;obtain⟨ad,cap,h1,h2⟩:=key (.inl ⟨_,_,rfl⟩) hx;exact fin hu h1 (wK hy) h2 rfl (.inl ⟨rfl,rfl⟩)
 ·rename_i e sz n' row hu hsx hsy;simp only[X2,U0] at h;obtain⟨rfl,rfl⟩:=h;rw[hsx] at hx;rw[hsy] at hy;obtain⟨ad,cap,h1,h2⟩:=key (.inl ⟨_,_,rfl⟩) hx;exact fin hu h1 (wK hy) h2 rfl (.inr ⟨rfl,rfl⟩)
 ·rename_i e k off n' hu hsx hsy;simp only[X2,U0] at h;obtain⟨rfl,rfl⟩:=h;rw[hsx] at hx;rw[hsy] at hy;obtain⟨ad,cap,h1,h2⟩:=key (.inr ⟨_,_,rfl⟩) hx;exact fin hu h1 (wK hy) h2 rfl (.inl ⟨rfl,rfl⟩)
 ·rename_i e k off n' hu hsx hsy;simp only[X2,U0] at h;obtain⟨rfl,rfl⟩:=h;rw[hsx] at hx;rw[hsy] at hy;obtain⟨ad,cap,h1,h2⟩:=key (.inr ⟨_,_,rfl⟩) hx;exact fin hu h1 (wK hy) h2 rfl (.inr ⟨rfl,rfl⟩)
 ·cases h
theorem a36(hG:C6 P G)(hGc:∀x ∈ G,Q2 P x.1){all:Array Oper}{Q:Exit->Act->World->Prop}{K:W5->Y4->Prop}(hK:∀s' H' a' w',K s' H'->jQ c s' H' a' w'->Q .normal a' w'):
  ∀(r:List Oper) (s:W5) (ps:A3) (H:Y4) (E:Env) (a:Act) (w:World),yJ P G c.nt all r s ps H K->RealE c E s ps H a w->wpList P all Q r a w:=by
 intro r;induction r with
 |nil=>
  intro s ps H E a w h R;exact hK _ _ _ _ h ⟨E,R.defers,R.size,R.slots.ends,R.inv⟩
 |cons o r U=>
  intro s ps H E a w h R;have f:∀(d:Option Tmp) (v:Value),(a.put d v).defers=[]/\(a.put d v).tmps.size=c.nt:=by
   intro d v;cases d with
   |none=>exact⟨R.defers,R.size⟩
   |some d=>exact⟨R.defers,by simp[Act.put,R.size]⟩
  unfold yJ at h;split at h
  ·rename_i hg;split at h
   ·exact h.elim
   ·rename_i hchk;simp only[O4] at hchk;obtain⟨⟨hpo,hfr⟩,hdst⟩:=hchk;split at h
    ·rename_i n neg hnc;have hnil:I4 s []:=λq hq=>by cases hq
     obtain⟨u,B⟩:=sO R.slots hnil hpo;obtain⟨b,hb,O⟩:=b1n (P:=P) (E:=E) (w:=w) (a:=a) hnc u;refine wpList_plain hg λKK M=>i4 O (M _ _ (U _ _ _ E _ _ (h b hb) ⟨(f _ _).1,(f _ _).2,?_,R.inv⟩))
     cases hd:o.dst with
     |none=>exact R.slots
     |some d=>
      rw[hd] at hfr hdst;exact R.slots.put hfr (by rw[R.size];exact zP hdst) (.bool _)
    obtain⟨G',hGG,h⟩:=rE hG hGc h;split at h
    ·rename_i t H' side he;obtain⟨hs,hrest⟩:=xA h;have hnil:I4 s []:=λq hq=>by cases hq
     obtain⟨u,B⟩:=sO R.slots hnil hpo;refine wpList_plain hg λKK M=>?_
     refine a4T hGG.ok hGG.call R.inv he (hs hnil) u B λv w' E' V hst F=>?_
     refine M _ _ (U _ _ _ E' _ _ hrest ⟨(f _ _).1,(f _ _).2,?_,V⟩)
     cases hd:o.dst with
     |none=>exact R.slots.step hst
     |some d=>
      rw[hd] at hfr hdst;exact(R.slots.step hst).put hfr (by rw[R.size];exact zP hdst) F
    ·exact h.elim
  ·rename_i j want hg;split at h
   ·rename_i g hgd;split at h
    ·rename_i x hx;split at h
     ·exact h.elim
     ·rename_i hchk;simp only[O4] at hchk;obtain⟨⟨⟨hpo,hfr⟩,hdst⟩,L⟩:=hchk;obtain⟨d,hd⟩:∃d,o.dst=some d:=by
       cases hd:o.dst with
       |none=>rw[hd] at L;simp[nI] at L
       |some d=>exact⟨d,rfl⟩
      have z:=hfr;have C:=hdst;have A:=L;rw[hd] at z C A;have I:d<a.tmps.size:=by rw[R.size];exact zP C
      have l:∀q ∈ ((g,want)::S5 ps g),q.1≠d:=by
       intro q hq;simp only[nI,O4] at A;rcases vT.1 hq with rfl|hq
       ·intro e;have:=A.1;simp only at e;rw[e] at this;simp at this
       ·intro e;have:=i7.1 A.2 q hq;rw[e] at this;simp at this
      have Z:yielded all a.tmps j=match a.tmps[g]? with|some (.bool b)=>some b|_=>none:=by
       unfold yielded;rw[hgd];rfl
      have core:(I4 s ((g,want)::S5 ps g)->o.wp P a w (wpList P all Q r) Q)->(¬I4 s ((g,want)::S5 ps g)->wpList P all Q r (a.put o.dst undef) w)->wpList P all Q (o::r) a w:=by
       intro hT skip;unfold wpList;by_cases J:I4 s (S5 ps g)
       ·have hv:=R.slots.on g J;rw[hx] at hv;have i:=u5 hv;have X:a.tmps[g]? =some (.bool x):=by
         rw[Array.getD_eq_getD_getElem?] at i;cases hq:a.tmps[g]? with
         |none=>rw[hq] at i;simp[undef] at i
         |some y=>rw[hq] at i;simp at i;rw[i]
        have hyl:yielded all a.tmps j=some x:=by rw[Z,X]
        by_cases hxw:x=want
        ·have hw:Region.wanted o (yielded all a.tmps)=true:=by simp[Region.wanted,hg,hyl,hxw]
         rw[if_pos hw];refine .inl (hT λq hq=>?_)
         rcases vT.1 hq with rfl|hq
         ·exact⟨x,hx,hxw⟩
         ·exact J q hq
        ·have hw:¬Region.wanted o (yielded all a.tmps)=true:=by simp[Region.wanted,hg,hyl,hxw]
         rw[if_neg hw];exact skip λhp=>by
          obtain⟨x',N,W⟩:=hp (g,want) W8
          rw[hx] at N;cases N;exact hxw W
       ·have i:=R.slots.off g J;have hyl:yielded all a.tmps j=none:=by
         rw[Z];rw[Array.getD_eq_getD_getElem?] at i;cases hq:a.tmps[g]? with
         |none=>rfl
         |some y=>rw[hq] at i;simp at i;rw[i];rfl
        have hw:¬Region.wanted o (yielded all a.tmps)=true:=by simp[Region.wanted,hg,hyl]
        rw[if_neg hw];exact skip λhp=>J λq hq=>hp q (by simp[hq])
      have skip:∀{t:T},yJ P G c.nt all r (xN s o.dst t) (cU ps o.dst ((g,want)::S5 ps g)) H K->¬I4 s ((g,want)::S5 ps g)->wpList P all Q r (a.put o.dst undef) w:=by
       intro t hrest hnp;refine U _ _ _ E _ _ hrest ⟨(f _ _).1,(f _ _).2,?_,R.inv⟩
       rw[hd];exact R.slots.putG z I l (λhp=>absurd hp hnp) (λ_=>rfl)
      split at h
      ·rename_i hst;obtain⟨G',hGG,h⟩:=rE hG hGc h;split at h
       ·rename_i t H' side he;obtain rfl:=b4i he (by rw[hGG.stays];exact hst)
        obtain⟨hs,hrest⟩:=xA h;refine core (λhpp=>?_) (skip hrest)
        obtain⟨u,B⟩:=sO R.slots hpp hpo;refine a4T hGG.ok hGG.call R.inv he (hs hpp) u B λv w' E' V hst F=>?_
        refine U _ _ _ E' _ _ hrest ⟨(f _ _).1,(f _ _).2,?_,V⟩
        rw[hd];exact(R.slots.step hst).putG z I l (λ_=>F) (λY=>absurd hpp Y)
       ·exact h.elim
      ·split at h
       ·exact h.elim
       ·rename_i hbp;obtain⟨G',hGG,h⟩:=rE hG hGc h;split at h
        ·rename_i t H' side he;obtain⟨hs,hrest⟩:=xA h;refine core (λhpp=>?_) (λhnp=>skip (hrest.2 (a1u hbp hnp)) hnp)
         obtain⟨u,B⟩:=sO R.slots hpp hpo;refine a4T hGG.ok hGG.call R.inv he (hs hpp) u B λv w' E' V hst F=>?_
         refine U _ _ _ E' _ _ (kR hrest.1 hpp) ⟨(f _ _).1,(f _ _).2,?_,V⟩
         rw[hd];exact(R.slots.step hst).putG z I l (λ_=>F) (λY=>absurd hpp Y)
        ·exact h.elim
    ·exact h.elim
   ·exact h.elim
end
def E5(H H':Y4):Prop:=∀k ob,Z1 H k=some ob->Z1 H' k=some ob
theorem E5.refl(H:Y4):E5 H H:=λ_ _ h=>h
theorem E5.trans{A B C:Y4}(h:E5 A B)(k:E5 B C):E5 A C:=λi ob hi=>k i ob (h i ob hi)
section
variable {P:Program} {G:I5} {H H':Y4} {s:W5}
theorem E5.getA(h:E5 H H'){k:Nat}{A:Arr}(d:getA H k=some A):SS.getA H' k=some A:=by
 obtain⟨ob,B,⟨rfl,hi⟩|⟨v,ty,sz,n,row,rfl,rfl⟩⟩:=a0Q d
 ·exact a7y (h k ob B) hi
 ·unfold SS.getA;rw[h k _ B]
theorem E5.getOwn(h:E5 H H'){k v i j:Nat}{A:Own}(d:getOwn H k v i j=some A):SS.getOwn H' k v i j=some A:=by
 obtain⟨ty,sz,row,B,_,_⟩:=yV d;unfold SS.getOwn at d ⊢;rw[h k _ B];rw[B] at d;exact d
theorem a7d(h:E5 H H'){t:TypeId}{x y:T}{r:T×Option Prop}(he:lU P H t x y=some r):lU P H' t x y=some r:=by
 unfold lU at he ⊢;split at he
 ·split at he
  ·rename_i d;simp only[h _ _ d];exact he
  ·cases he
 ·split at he
  ·rename_i d;simp only[h _ _ d];exact he
  ·cases he
 ·cases he
theorem a6D(h:E5 H H'){t:TypeId}{x:T}{r:T×Option Prop}(he:yA P H t x=some r):yA P H' t x=some r:=by
 unfold yA at he ⊢;split at he
 ·exact he
 ·split at he
  ·rename_i d;rw[h.getA d];exact he
  ·cases he
 ·split at he
  ·rename_i d;rw[h.getOwn d];exact he
  ·cases he
 ·cases he
theorem jM(h:E5 H H'){t:TypeId}{x i:T}{r:T×Option Prop}(he:A0 P H t x i=some r):A0 P H' t x i=some r:=by
 unfold A0 at he ⊢;split at he
 ·split at he
  case h_3 hu=>
   split at he
   ·rename_i d;simp only[h.getA d];exact he
   ·cases he
  case h_4 hu=>
   split at he
   ·rename_i d;simp only[h.getOwn d];exact he
   ·cases he
  all_goals first|(cases he;done)|(exact he)
 ·cases he
theorem a8j(h:E5 H H'){a b:TypeId}{x:T}{r:T×Option Prop}(e:wC P H a b x=some r):wC P H' a b x=some r:=by
 unfold wC at e ⊢;split at e
 case h_4 hu1 hu2=>
  split at e
  ·rename_i d f;simp only[d,h _ _ f];exact e
  ·cases e
 all_goals first|(cases e;done)|(exact e)
theorem a4Z(h:E5 H H'){t:TypeId}{x:T}{l hi:Option T}{r:T×Option Prop}(he:uL P H t x l hi=some r):uL P H' t x l hi=some r:=by
 unfold uL at he ⊢;split at he
 ·split at he
  case h_4 hu=>
   split at he
   ·rename_i d;simp only[h.getA d];exact he
   ·cases he
  all_goals first|(cases he;done)|(exact he)
 ·cases he
theorem b3u(h:E5 H H'){op:Op}{r:T×Option Prop}(he:L7 P s H op=some r):L7 P s H' op=some r:=by
 unfold L7 at he ⊢;split at he
 case h_4=>exact a6D h he
 case h_8=>exact a8j h he
 case h_11=>exact jM h he
 case h_15=>exact a4Z h he
 case h_18=>exact a7d h he
 all_goals first|exact he|(cases he;done)
theorem o9{α β:Type}{f g:α->Option β}(h:∀a b,f a=some b->g a=some b):∀{l:List α} {q:List β},N5 f l=some q->N5 g l=some q:=by
 intro l;induction l with
 |nil=>intro q Q;exact Q
 |cons x l i=>
  intro q Q;simp only[N5] at Q ⊢;split at Q
  ·rename_i B r;rw[h _ _ B,i r];exact Q
  ·cases Q
theorem fZ{B:Nat}(h:E5 H H'):∀(d:Nat) {t:T} {r:T×Option Prop},M6 B H d t=some r->M6 B H' d t=some r:=by
 intro d;induction d with
 |zero=>intro t r he;simp[M6] at he
 |succ d ih=>
  intro t r he;unfold M6 at he ⊢;split at he
  ·split at he
   ·exact he
   split at he
   ·rename_i A hk;simp only[h.getA hk];split at he
    ·rename_i hA;split at he
     ·rename_i hm;rw[o9 (λa b hb=>ih hb) hm]
      exact he
     ·cases he
    ·cases he
   ·cases he
  ·split at he
   ·exact he
   split at he
   ·rename_i hk;simp only[h _ _ hk];exact he
   ·rename_i hk;simp only[h _ _ hk];exact he
   ·rename_i hk;simp only[h _ _ hk];exact he
   ·rename_i hk;simp only[h _ _ hk];split at he
    ·split at he
     ·rename_i h0 h1;rw[o9 (λa b hb=>ih hb) h0,o9 (λa b hb=>ih hb) h1]
      exact he
     ·cases he
    ·cases he
   ·cases he
  ·simp only[G4] at he ⊢;obtain⟨a,e,rfl⟩:=he;exact⟨a,o9 (λa b hb=>ih hb) e,rfl⟩
  ·simp only[G4] at he ⊢;obtain⟨a,e,rfl⟩:=he;exact⟨a,o9 (λa b hb=>ih hb) e,rfl⟩
  ·simp only[G4] at he ⊢;obtain⟨a,e,rfl⟩:=he;exact⟨a,o9 (λa b hb=>ih hb) e,rfl⟩
  ·cases he
  ·split at he
   ·exact he
   split at he
   ·rename_i hk;simp only[h.getOwn hk];exact he
   ·cases he
  ·exact he
  ·cases he
  ·exact he
theorem a6i(h:E5 H H'){f:FuncId}{args:List T}{r:T×Option Prop}(he:zS G H f args=some r):zS G H' f args=some r:=by
 unfold zS at he ⊢;split at he
 ·exact he
 ·split at he
  ·rename_i hb;rw[o9 (λa b hb=>fZ h 6 hb) hb]
   exact he
  ·cases he
theorem b2Z(h:E5 H H'){op:Op}{y:T}{H1:Y4}{side:Option Prop}(t:s9 G op=true)(he:K1 P G s H op=some (y,H1,side)):K1 P G s H' op=some (y,H',side):=by
 unfold K1 at he;split at he
 ·rename_i hv;simp only[X2,U0] at he;obtain⟨rfl,rfl,rfl⟩:=he;unfold K1;rw[b3u h hv]
 ·rename_i hv;split at he
  ·rename_i r hm;simp only[X2] at he;subst he;unfold A9 at hm;split at hm
   case h_6 src dst x=>
    split at hm
    ·rename_i e l hs hd hx;split at hm
     ·rename_i hb;simp only[X2,U0] at hm;obtain⟨rfl,rfl,rfl⟩:=hm;have h1:L7 P s H' (.convert src dst x)=none:=by simp only[L7,wC,hs,hd,hx]
      unfold K1;rw[h1];simp only[A9,hs,hd,hx,hb]
     ·cases hm
    ·cases hm
   all_goals first|(simp[s9] at t;done)|(cases hm;done)
  ·rename_i hm;split at he
   ·rename_i f args argTypes;split at he
    ·rename_i hie;simp[s9,hie] at t
    ·rename_i hie;split at he
     ·rename_i g cs n;simp only[G4,U0] at he;obtain⟨r,R,rfl,rfl,rfl⟩:=he;unfold K1;simp only[L7,A9,hie,n,a6i h R,m8]
     ·cases he
   ·cases he
theorem a7I{op:Op}{y:T}{H1:Y4}{side:Option Prop}(hp:pureB op=true)(he:K1 P G s H op=some (y,H1,side)):K1 P G s H' op=some (y,H',side):=by
 have hv:L7 P s H' op=L7 P s H op:=by
  unfold pureB at hp;split at hp<;>first|(cases hp;done)|rfl
 have hm:A9 P s H op=none:=by
  unfold pureB at hp;split at hp<;>first|(cases hp;done)|rfl
 have h:∀c,op≠ .call c:=by
  rintro c rfl;simp[pureB] at hp
 unfold K1 at he ⊢;rw[hv];split at he
 ·simp only[X2,U0] at he ⊢;exact⟨he.1,trivial,he.2.2⟩
 ·rw[hm] at he;simp only at he;split at he
  ·exact absurd rfl (h _)
  ·cases he
theorem F0(H:Y4)(x:Option Ob):E5 H (H++[x]):=by
 intro k ob h;rw[o7,if_pos (H3 h)];exact h
theorem a8J{G:I5}{f:FuncId}{c:List T->Option (T×Y4×Option Prop)}(h:w4 G f=some (.mk c)):qS G f=none:=by
 induction G with
 |nil=>cases h
 |cons x G i=>
  obtain⟨g,d⟩:=x;simp only[w4] at h;simp only[qS];split at h
  ·simp only[X2] at h;subst h;rfl
  ·exact i h
theorem a2C{G:I5}{f:FuncId}{c:Con}(h:w4 G f=some c)(C:c.isMk=true):gfz G f=none:=by
 induction G with
 |nil=>cases h
 |cons x G i=>
  obtain⟨g,d⟩:=x;simp only[w4] at h;simp only[gfz];split at h
  ·simp only[X2] at h;subst h;cases d<;>first|rfl|(cases C)
  ·exact i h
theorem a37{c:List T->Option (T×Y4×Option Prop)}{args:List T}{y:T}{side:Option Prop}(he:a2t c H args=some (y,H',side)):E5 H H':=by
 unfold a2t at he;split at he
 ·split at he
  ·split at he
   ·simp only[X2,U0] at he;obtain⟨_,rfl,_⟩:=he;intro k ob hk;unfold Z1 at hk ⊢;have hlt:=H3 hk
    rwa [uW hlt]
   ·cases he
  ·cases he
 ·cases he
theorem b1u{op:Op}{y:T}{side:Option Prop}(hg:yO G op=true)(he:K1 P G s H op=some (y,H',side)):E5 H H':=by
 unfold K1 at he;split at he
 ·simp only[X2,U0] at he;obtain⟨_,rfl,_⟩:=he;exact E5.refl H
 ·split at he
  ·rename_i r hm;simp only[X2] at he;subst he;have box:∀{t:TypeId} {cs:List T} {y:T} {H':Y4} {side:Option Prop},aN P H t cs=some (y,H',side)->E5 H H':=by
    intro t cs y H' side hb;unfold aN at hb;split at hb
    ·simp only[X2,U0] at hb;obtain⟨_,rfl,_⟩:=hb;exact F0 H _
    ·cases hb
   unfold A9 at hm;split at hm
   ·split at hm
    ·exact box hm
    ·cases hm
   ·split at hm
    ·exact box hm
    ·cases hm
   ·simp[yO] at hg
   ·unfold a2i at hm;split at hm
    ·split at hm
     ·split at hm
      ·simp only[X2,U0] at hm;obtain⟨_,rfl,_⟩:=hm;exact F0 H _
      ·cases hm
     ·cases hm
    ·cases hm
   ·unfold I1 at hm;split at hm
    ·split at hm
     ·split at hm
      ·split at hm
       ·split at hm
        ·simp only[G4,U0] at hm;obtain⟨_,_,_,rfl,_⟩:=hm;exact F0 H _
        ·split at hm
         ·simp only[X2,U0] at hm;obtain⟨_,rfl,_⟩:=hm;exact F0 H _
         ·cases hm
       ·cases hm
      ·cases hm
     ·cases hm
    ·cases hm
   case h_8=>
    simp only[G4,U0] at hm;obtain⟨r',hr,rfl,rfl,_⟩:=hm;unfold vB at hr;split at hr
    ·simp only[X2] at hr;subst hr;exact F0 H _
    ·simp only[X2] at hr;subst hr;exact F0 H _
    ·split at hr
     ·simp only[X2] at hr;subst hr;exact F0 H _
     ·cases hr
   case h_10=>
    unfold nD at hm;split at hm
    ·split at hm
     ·split at hm
      ·simp only[X2,U0] at hm;obtain⟨_,rfl,_⟩:=hm;exact F0 H _
      ·cases hm
     ·cases hm
    ·cases hm
   all_goals first|(cases hm;done)|(simp[yO] at hg)
  ·split at he
   ·rename_i x args argTypes;simp only[yO] at hg;unfold isMk at hg;split at hg
    ·rename_i f;split at hg
     ·rename_i cn hcn;have h1:isEff G (.func f)=true:=by
       simp only[isEff,hcn];cases cn<;>first|rfl|(cases hg)
      have h2:qS G f=none:=by
       cases cn<;>first|(cases hg;done)|skip
       ·exact a8J hcn
       ·exact(aZ hcn rfl).1
      rw[h1] at he;simp only at he;unfold xF at he;rw[h2] at he;simp only at he;split at he
      ·exact a37 he
      ·rw[a2C hcn (by cases cn<;>first|rfl|(cases hg))] at he
       cases he
     ·cases hg
    ·cases hg
   ·cases he
def aG(R:List Nat)(H H':Y4):Prop:=∀k,k ∈ R->∀ob,Z1 H k=some ob->Z1 H' k=some ob
theorem b11{op:Op}{y:T}{H1:Y4}{side:Option Prop}{R:List Nat}(hr:a0k s op=some R)(hst:s9 G op=true)(hx:aG R H H')(e:K1 P G s H op=some (y,H1,side)):K1 P G s H' op=some (y,H',side):=by
 have val:∀{r:T×Option Prop},L7 P s H op=some r->L7 P s H' op=some r->K1 P G s H' op=some (y,H',side):=by
  intro r v o;unfold K1 at e ⊢;rw[v] at e;rw[o];simp only[X2,U0] at e ⊢;exact⟨e.1,trivial,e.2.2⟩
 unfold a0k at hr;split at hr
 ·rename_i t a;split at hr
  ·rename_i k i j ha;simp only[X2] at hr;subst hr;have hv:∀r,L7 P s H (.load t a)=some r->L7 P s H' (.load t a)=some r:=by
    intro r h;simp only[L7,ha,yA,getA] at h ⊢;cases B:Z1 H k with
    |none=>rw[B] at h;simp at h
    |some ob=>
     rw[hx k W8 ob B]
     rw[B] at h;exact h
   cases hv0:L7 P s H (.load t a) with
   |none=>
    unfold K1 at e;rw[hv0] at e;simp[A9] at e
   |some r=>exact val hv0 (hv r hv0)
  ·rename_i cs ha;cases hv0:L7 P s H (.load t a) with
   |none=>
    unfold K1 at e;rw[hv0] at e;simp[A9] at e
   |some r=>
    refine val hv0 ?_
    simp only[L7,ha,yA] at hv0 ⊢;exact hv0
  ·cases hr
 ·rename_i t x ix;have hv:∀r,L7 P s H (.indexAddr t x ix)=some r->L7 P s H' (.indexAddr t x ix)=some r:=by
   intro r h;simp only[L7] at h ⊢;unfold A0 at h ⊢;split at hr
   ·rename_i ha;rw[ha] at h ⊢;generalize L3 s ix=q at h ⊢;generalize P.underlying t=u at h ⊢;cases q<;>first|exact h|skip
    cases u with
    |none=>exact h
    |some d=>cases d<;>exact h
   ·rename_i ha;rw[ha] at h ⊢;generalize L3 s ix=q at h ⊢;generalize P.underlying t=u at h ⊢;cases q<;>first|exact h|skip
    cases u with
    |none=>exact h
    |some d=>cases d<;>exact h
   ·rename_i k off n ha;simp only[X2] at hr;subst hr;rw[ha] at h ⊢;generalize L3 s ix=q at h ⊢;generalize P.underlying t=u at h ⊢;cases q<;>first|exact h|skip
    cases u with
    |none=>exact h
    |some d=>
     cases d<;>first|exact h|skip
     simp only[getA] at h ⊢;cases B:Z1 H k with
     |none=>rw[B] at h;simp at h
     |some ob=>
      rw[hx k W8 ob B]
      rw[B] at h;exact h
   ·cases hr
  cases hv0:L7 P s H (.indexAddr t x ix) with
  |none=>
   unfold K1 at e;rw[hv0] at e;simp[A9] at e
  |some r=>exact val hv0 (hv r hv0)
 ·rename_i src dst x;have same:L7 P s H' (.convert src dst x)=L7 P s H (.convert src dst x):=by
   simp only[L7];split at hr
   ·rename_i ha;unfold wC;rw[ha];cases P.underlying src with
    |none=>rfl
    |some d=>cases P.underlying dst with
     |none=>cases d<;>rfl
     |some g=>cases d<;>cases g<;>rfl
   ·rename_i ha;unfold wC;rw[ha];cases P.underlying src with
    |none=>rfl
    |some d=>cases P.underlying dst with
     |none=>cases d<;>rfl
     |some g=>cases d<;>cases g<;>rfl
   ·rename_i ha;unfold wC;rw[ha];cases P.underlying src with
    |none=>rfl
    |some d=>cases P.underlying dst with
     |none=>cases d<;>rfl
     |some g=>cases d<;>cases g<;>rfl
   ·cases hr
  cases hv0:L7 P s H (.convert src dst x) with
  |none=>
   unfold K1 at e ⊢;rw[same,hv0];rw[hv0] at e;simp only at e ⊢;have M:∀r,A9 P s H (.convert src dst x)=some r->A9 P s H' (.convert src dst x)=some (r.1,H',r.2.2):=by
    intro r hm;unfold A9 at hm ⊢;simp only at hm ⊢;generalize P.underlying src=a at hm ⊢;generalize P.underlying dst=b at hm ⊢;generalize L3 s x=c at hm ⊢;split at hm
    ·split at hm
     ·rename_i z;simp only[z,X2] at hm ⊢;subst hm;rfl
     ·cases hm
    ·cases hm
   cases hm:A9 P s H (.convert src dst x) with
   |none=>
    rw[hm] at e;simp at e
   |some r=>
    rw[hm] at e;simp only[X2] at e;subst e;rw[M _ hm]
  |some r=>exact val hv0 (same.trans hv0)
 ·rename_i t x l hi;have hv:∀r,L7 P s H (.slice t x l hi none)=some r->L7 P s H' (.slice t x l hi none)=some r:=by
   intro r h;simp only[L7] at h ⊢;unfold uL at h ⊢;generalize wL (l.map (L3 s))=q1 at h ⊢;generalize wL (hi.map (L3 s))=q2 at h ⊢;generalize P.underlying t=u at h ⊢;split at hr
   ·rename_i ha;rw[ha] at h ⊢;cases q1<;>cases q2<;>first|exact h|skip
    cases u with
    |none=>exact h
    |some d=>cases d<;>exact h
   ·rename_i ha;rw[ha] at h ⊢;cases q1<;>cases q2<;>first|exact h|skip
    cases u with
    |none=>exact h
    |some d=>cases d<;>exact h
   ·rename_i ha;rw[ha] at h ⊢;cases q1<;>cases q2<;>first|exact h|skip
    cases u with
    |none=>exact h
    |some d=>cases d<;>exact h
   ·rename_i k off n ha;simp only[X2] at hr;subst hr;rw[ha] at h ⊢;cases q1<;>cases q2<;>first|exact h|skip
    cases u with
    |none=>exact h
    |some d=>
     cases d<;>first|exact h|skip
     simp only[getA] at h ⊢;cases B:Z1 H k with
     |none=>rw[B] at h;simp at h
     |some ob=>
      rw[hx k W8 ob B]
      rw[B] at h;exact h
   ·cases hr
  cases hv0:L7 P s H (.slice t x l hi none) with
  |none=>
   unfold K1 at e;rw[hv0] at e;simp[A9] at e
  |some r=>exact val hv0 (hv r hv0)
 ·simp[s9] at hst
 ·rename_i args argTypes;have same:L7 P s H' (.call {callee:=.builtin .len,args,argTypes})=L7 P s H (.call {callee:=.builtin .len,args,argTypes}):=rfl;cases hv0:L7 P s H (.call {callee:=.builtin .len,args,argTypes}) with
  |none=>
   unfold K1 at e;rw[hv0] at e;simp[A9] at e
  |some r=>exact val hv0 (same.trans hv0)
 ·simp[s9] at hst
 ·rename_i x args argTypes;split at hr
  ·rename_i f cs hf;split at hr
   ·rename_i hcl;have he2:isEff G x=false:=by simpa[s9] using hst
    unfold K1 at e ⊢;simp only[L7,A9,he2,hf] at e ⊢;unfold zS at e ⊢;rw[hcl] at e ⊢;simp only[G4,U0] at e ⊢;obtain⟨r,v,o,C,A⟩:=e;exact⟨r,v,o,trivial,A⟩
   ·cases hr
  ·cases hr
 ·cases hr
theorem B8{H:Y4}{j k:Nat}{x:Option Ob}(h:j≠k):Z1 (H.set j x) k=Z1 H k:=by
 unfold Z1;rw[j_k h]
theorem wP:∀{ks:List Nat} {os:List (Option Ob)} {H:Y4} {k:Nat},k ∉ ks->Z1 (M5 H ks os) k=Z1 H k
 | [],os,H,k,_=>by cases os<;>rfl
 |j::ks,[],H,k,_=>rfl
 |j::ks,o::os,H,k,h=>by
  simp only[vT,not_or] at h;show Z1 (M5 (H.set j o) ks os) k=_;rw[wP h.2,B8 (Ne.symm h.1)]
theorem mZ:∀{ks:List Nat} {H:Y4} {k:Nat},k ∉ ks->Z1 (D7 H ks) k=Z1 H k
 | [],H,k,_=>rfl
 |j::ks,H,k,h=>by
  simp only[vT,not_or] at h;show Z1 (D7 (H.set j none) ks) k=_;rw[mZ h.2,B8 (Ne.symm h.1)]
theorem c7N(A B:Y4)(k:Nat){ob:Ob}(h:Z1 A k=some ob):Z1 (A++B) k=some ob:=by
 have t:=H3 h;unfold Z1 at h ⊢
 rwa [uW t]
theorem a3l{op:Op}{y:T}{side:Option Prop}{W:List Nat}(hw:uD H s op=some W)(he:K1 P G s H op=some (y,H',side)):∀k,k ∉ W->∀ob,Z1 H k=some ob->Z1 H' k=some ob:=by
 intro k hk ob B;have app:∀(A:Y4) (x:Option Ob),Z1 A k=some ob->Z1 (A++[x]) k=some ob:=λA x h=>F0 A x k ob h
 unfold uD at hw;split at hw
 ·rename_i args argTypes;unfold K1 at he;simp only[L7] at he;split at he
  ·rename_i r hm;simp only[X2] at he;subst he;simp only[A9] at hm;split at hm
   ·rename_i d x t tx h1 h2;rw[h1] at hw;simp only at hw;unfold nS at hm;split at hm
    ·split at hm
     ·rename_i i z hi hz;split at hm
      ·rename_i hd;split at hm
       ·simp only[G4,U0] at hm;obtain⟨q,_,_,rfl,_⟩:=hm;exact app _ _ B
       ·split at hm
        ·split at hm
         ·simp only[X2,U0] at hm;obtain⟨_,rfl,_⟩:=hm;exact app _ _ B
         ·cases hm
        ·simp only[G4,U0] at hm;obtain⟨q,_,_,rfl,_⟩:=hm;exact app _ _ B
      ·split at hm
       ·cases hm
       ·simp only[G4,U0] at hm;obtain⟨q,_,_,rfl,_⟩:=hm;exact app _ _ B
      ·rename_i k0 n hb1 hb2 hd;rw[hd] at hw;simp only at hw;split at hw
       ·cases hw
       rename_i F;simp only[X2] at hw;subst hw;have hne:k0≠k:=λh=>hk (by simp[h])
       have e:∀x,Z1 (H.set k0 x) k=some ob:=λx=>by rw[B8 hne];exact B
       split at hm
       ·split at hm
        ·simp only[G4,U0] at hm;obtain⟨q,_,_,rfl,_⟩:=hm;exact app _ _ (e _)
        ·cases hm
       ·split at hm
        ·simp only[G4,U0] at hm;obtain⟨q,_,_,rfl,_⟩:=hm;exact app _ _ (e _)
        ·cases hm
       ·rename_i hf;exact absurd hf (F _ _ _ _ _)
       ·cases hm
      ·cases hm
     ·cases hm
    ·cases hm
   ·cases hm
  ·cases he
 ·rename_i t a x;unfold K1 at he;simp only[L7] at he;split at he
  ·rename_i r hm;simp only[X2] at he;subst he;simp only[A9,G4] at hm;obtain⟨q,hq,hq2⟩:=hm;simp only[U0] at hq2;obtain⟨_,rfl,_⟩:=hq2;split at hw
   ·rename_i k0 i j ha;have hne:k0≠k:=λh=>by
     subst h;split at hw
     ·split at hw
      ·simp only[X2] at hw;subst hw;simp at hk
      ·cases hw
     ·simp only[X2] at hw;subst hw;simp at hk
    rw[ha] at hq;simp only[rO] at hq;split at hq
    ·split at hq
     ·simp only[X2] at hq;subst hq;simp only;rw[B8 hne];exact B
     ·cases hq
    ·split at hq
     ·simp only[X2] at hq;subst hq;simp only;rw[B8 hne];exact B
     ·cases hq
    ·rename_i hf _ _ _;rw[hf] at hw;simp only at hw;split at hq
     ·split at hq
      ·simp only[X2] at hq;subst hq;simp only;rw[B8 hne];exact B
      ·rename_i l;rw[l] at hw;cases hw
     ·cases hq
    ·cases hq
   ·rename_i k0 v i j z a1 b1 ha;simp only[X2] at hw;subst hw;have hne:k0≠k:=λh=>hk (by simp[h])
    rw[ha] at hq;simp only[rO] at hq;split at hq
    ·split at hq
     ·simp only[X2] at hq;subst hq;simp only;rw[B8 hne];exact B
     ·cases hq
    ·cases hq
   ·cases hw
  ·cases he
 ·rename_i x args argTypes;have u:L7 P s H (.call {callee:=.value x,args:=args,argTypes:=argTypes})=none:=rfl;have o:A9 P s H (.call {callee:=.value x,args:=args,argTypes:=argTypes})=none:=rfl;unfold K1 at he;simp only[u,o] at he;have key:∀f cs,cE s x=some (f,cs)->xF G H f (args.toList.map (L3 s)++cs)=some (y,H',side)->Z1 H' k=some ob:=λf cs hf hv=>by
   rw[hf] at hw;simp only at hw;generalize args.toList.map (L3 s)++cs=as at hw hv;split at hw
   ·cases hw
   rename_i g;simp only[X2] at hw;subst hw;unfold xF at hv;split at hv
   ·split at hv
    ·exact absurd rfl (g _ _ _ _ _ _)
    ·unfold i8 at hv;split at hv
     ·split at hv
      ·split at hv
       ·simp only[X2,U0] at hv;obtain⟨_,rfl,_⟩:=hv;exact c7N _ _ _ (by rw[wP hk];exact B)
       ·cases hv
      ·cases hv
     ·cases hv
   ·split at hv
    ·exact a37 hv k ob B
    ·split at hv
     ·unfold c1v at hv;split at hv
      ·split at hv
       ·simp only[X2,U0] at hv;obtain⟨_,rfl,_⟩:=hv;rw[mZ hk];exact B
       ·cases hv
      ·cases hv
     ·cases hv
  have pure:∀as f,(zS G H f as).map (λr=>(r.1,H,r.2))=some (y,H',side)->Z1 H' k=some ob:=λas f hv=>by
   rw[G4] at hv;obtain⟨q,_,hq⟩:=hv;simp only[U0] at hq;obtain⟨_,rfl,_⟩:=hq;exact B
  split at he
  ·split at he
   ·rename_i f _;exact key f [] rfl (by rw[List.append_nil];exact he)
   ·split at he
    ·rename_i f cs hf;split at he
     ·exact key f cs hf he
     ·exact pure _ _ he
    ·cases he
  ·split at he
   ·exact pure _ _ he
   ·cases he
 ·cases hw
theorem xS{op:Op}{y:T}{H1:Y4}{side:Option Prop}(d:tC G op=true)(h:A5 P G s H op=some (y,H1,side)):H1=H/\A5 P G s H' op=some (y,H',side):=by
 unfold A5 at h ⊢;rw[d] at h ⊢;simp only at h ⊢;split at h
 ·rename_i t p hv;simp only[X2,U0] at h;obtain⟨rfl,rfl,rfl⟩:=h;exact⟨rfl,rfl⟩
 ·cases h
theorem wI{op:Op}(h:tC G op=false):A5 P G s H op=K1 P G s H op:=by unfold A5;rw[h]
theorem b0h{op:Op}(h:tC G op=false):stays G op=s9 G op:=by unfold stays;rw[h]
theorem b6r(h:E5 H H'){op:Op}{y:T}{H1:Y4}{side:Option Prop}(t:stays G op=true)(e:A5 P G s H op=some (y,H1,side)):A5 P G s H' op=some (y,H',side):=by
 cases d:tC G op with
 |true=>exact(xS d e).2
 |false=>rw[wI d] at e ⊢;rw[b0h d] at t;exact b2Z h t e
theorem b25{op:Op}{y:T}{H1:Y4}{side:Option Prop}(hp:pureB op=true)(h:A5 P G s H op=some (y,H1,side)):A5 P G s H' op=some (y,H',side):=by
 cases t:tC G op with
 |true=>exact(xS t h).2
 |false=>rw[wI t] at h ⊢;exact a7I hp h
theorem a4P{op:Op}{y:T}{side:Option Prop}(g:yO G op=true)(h:A5 P G s H op=some (y,H',side)):E5 H H':=by
 cases t:tC G op with
 |true=>rw[(xS (H':=H) t h).1];exact λk ob d=>d
 |false=>rw[wI t] at h;exact b1u g h
theorem b3r{c:List T->Option (T×Y4×Option Prop)}{args:List T}{y:T}{side:Option Prop}(he:a2t c H args=some (y,H',side)):
  ∃os,H'=H++os/\∀H2:Y4,H2.length=H.length->E5 H H2->a2t c H2 args=some (y,H2++os,side):=by
 unfold a2t at he;split at he
 ·rename_i bs hbs;split at he
  ·rename_i r H0 p hc;split at he
   ·rename_i r' os hr hos;simp only[X2,U0] at he;obtain⟨rfl,rfl,rfl⟩:=he;refine⟨os,rfl,λH2 hl hx=>?_⟩
    unfold a2t;rw[o9 (λa b h=>fZ hx 6 h) hbs]
    simp only[hc,hl,hr,hos]
   ·cases he
  ·cases he
 ·cases he
theorem b4j{op:Op}{y:T}{side:Option Prop}(hf:b6O op=true)(he:A5 P G s H op=some (y,H',side)):
  ∃os,H'=H++os/\∀H2:Y4,H2.length=H.length->E5 H H2->A5 P G s H2 op=some (y,H2++os,side):=by
 unfold b6O at hf;split at hf
 case h_2=>cases hf
 rename_i t len parts;cases ht:tC G (.buildSlice t len parts) with
 |true=>
  unfold A5 at he ⊢;rw[ht] at he ⊢;simp only[] at he ⊢;cases hz:a2X P s (.buildSlice t len parts) with
  |none=>rw[hz] at he;cases he
  |some z=>
   rw[hz] at he;simp only[X2,U0] at he;obtain⟨h2,h3,h4⟩:=he;exact⟨[],by rw[List.append_nil];exact h3.symm,λH2 _ _=>by simp only[X2,U0,List.append_nil];exact⟨h2,trivial,h4⟩⟩
 |false=>
  rw[wI ht] at he;have e1:∀H,L7 P s H (.buildSlice t len parts)=none:=λH=>rfl
  have key:∀H2,K1 P G s H2 (.buildSlice t len parts)=I1 P s H2 t len parts:=λH2=>by
   unfold K1;simp only[e1];show(match I1 P s H2 t len parts with|some r=>some r|none=>_)=_
   cases I1 P s H2 t len parts<;>rfl
  rw[key] at he
  suffices hh:∃os,H'=H++os/\∀H2:Y4,H2.length=H.length->I1 P s H2 t len parts=some (y,H2++os,side) by
   obtain⟨os,h1,h2⟩:=hh;exact⟨os,h1,λH2 hl _=>by rw[wI ht,key];exact h2 H2 hl⟩
  unfold I1 at he ⊢;split at he
  case h_2=>cases he
  split at he
  case h_2=>cases he
  split at he
  case h_2=>cases he
  split at he
  case h_2=>cases he
  split at he
  ·simp only[G4,U0] at he;obtain⟨ns,h1,rfl,rfl,rfl⟩:=he;refine⟨_,rfl,λH2 hl=>?_⟩
   simp only[*,m8]
  ·split at he
   case h_2=>cases he
   simp only[X2,U0] at he;obtain⟨rfl,rfl,rfl⟩:=he;refine⟨_,rfl,λH2 hl=>?_⟩
   simp only[*]
theorem c1c{op:Op}{y:T}{side:Option Prop}(hf:floatB G op=true)(he:A5 P G s H op=some (y,H',side)):
  ∃os,H'=H++os/\∀H2:Y4,H2.length=H.length->E5 H H2->A5 P G s H2 op=some (y,H2++os,side):=by
 unfold floatB at hf;rw[tB] at hf;rcases hf with hf|hf
 ·exact b4j hf he
 simp only[O4] at hf;obtain⟨hv,hg⟩:=hf;unfold a97 at hv;split at hv
 case h_2=>cases hv
 rename_i x args at_;have ht:tC G (.call {callee:=.value x,args:=args,argTypes:=at_})=false:=rfl;rw[wI ht] at he
 suffices hh:∃os,H'=H++os/\∀H2:Y4,H2.length=H.length->E5 H H2->K1 P G s H2 (.call {callee:=.value x,args:=args,argTypes:=at_})=some (y,H2++os,side) by
  obtain⟨os,h1,h2⟩:=hh;exact⟨os,h1,λH2 hl hx=>by rw[wI ht];exact h2 H2 hl hx⟩
 have e1:∀H,L7 P s H (.call {callee:=.value x,args:=args,argTypes:=at_})=none:=λH=>rfl
 have e2:∀H,A9 P s H (.call {callee:=.value x,args:=args,argTypes:=at_})=none:=λH=>rfl
 unfold K1 at he ⊢;simp only[e1,e2] at he ⊢;simp only[yO] at hg;unfold isMk at hg;split at hg
 ·rename_i f;split at hg
  ·rename_i cn hcn;have h1:isEff G (.func f)=true:=by
    simp only[isEff,hcn];cases cn<;>first|rfl|(cases hg)
   have h2:qS G f=none:=by
    cases cn<;>first|(cases hg;done)|skip
    ·exact a8J hcn
    ·exact(aZ hcn rfl).1
   simp only[h1] at he ⊢;unfold xF at he ⊢;rw[h2] at he;simp only[h2] at he ⊢;split at he
   ·rename_i c hc;obtain⟨os,e3,e4⟩:=b3r he;exact⟨os,e3,λH2 hl hx=>e4 H2 hl hx⟩
   ·rw[a2C hcn (by cases cn<;>first|rfl|(cases hg))] at he
    cases he
  ·cases hg
 ·cases hg
theorem a3M{α β:Type}{f:α->Option β}:∀{l:List α} {q:List β},N5 f l=some q->∀a ∈ l,∃b,f a=some b
 | [],_,_,a,ha=>by cases ha
 |x::l,q,h,a,ha=>by
  simp only[N5] at h;split at h
  ·rename_i hb hr;rcases vT.1 ha with rfl|ha
   ·exact⟨_,hb⟩
   ·exact a3M hr a ha
  ·cases h
theorem pC{k:Nat}:∀(d:Nat) (r E8:List Nat),k ∈ E8->k ∈ m3 H d r E8
 |0,_,_,h=>h
 |_+1,[],_,h=>h
 |d+1,x::r,E8,h=>by
  unfold m3;split
  ·exact pC d r E8 h
  ·exact pC d _ _ (List.mem_append_left _ h)
theorem lF(hx:E5 H H'):∀(d:Nat) (r E8:List Nat),(∀k ∈ m3 H d r E8,∃ob,Z1 H k=some ob)->m3 H' d r E8=m3 H d r E8
 |0,_,_,_=>rfl
 |_+1,[],_,_=>rfl
 |d+1,x::r,E8,h=>by
  unfold m3 at h ⊢;cases M:memN x E8 with
  |true=>
   rw[M] at h;exact lF hx d r E8 h
  |false=>
   rw[M] at h;simp only at h ⊢;obtain⟨ob,B⟩:=h x (pC d _ _ (List.mem_append_right _ (List.mem_singleton.2 rfl)));rw[hx x ob B,B];rw[B] at h;exact lF hx d _ _ h
theorem c5v{c:List T->Y4->Option (T×Y4×Option Prop)}{args:List T}{y:T}{side:Option Prop}{r:List Nat}(he:i8 c H (m3 H 64 r []) args=some (y,H',side)):
  ∃ks os os2,H'=M5 H ks os++os2/\(∀k ∈ ks,∃ob,Z1 H k=some ob)/\∀H2:Y4,H2.length=H.length->E5 H H2->i8 c H2 (m3 H2 64 r []) args=some (y,M5 H2 ks os++os2,side):=by
 unfold i8 at he;split at he
 ·rename_i as obs hnd has hobs;split at he
  ·rename_i r0 H0 p hc;split at he
   ·rename_i j os f R e;simp only[X2,U0] at he;obtain⟨rfl,rfl,rfl⟩:=he;have d:∀k ∈ m3 H 64 r [],∃ob,Z1 H k=some ob:=λk d=>by
     obtain⟨b,h⟩:=a3M hobs k d;cases o:Z1 H k with
     |none=>rw[o] at h;cases h
     |some ob=>exact⟨ob,rfl⟩
    refine⟨_,_,_,rfl,d,λH2 hl hx=>?_⟩
    rw[lF hx 64 r [] d];unfold i8;have i:=o9 (g:=λk=>(Z1 H2 k).bind (mB λk=>m5 k (m3 H 64 r []) 0)) (λa b h=>by
     cases o:Z1 H a with
     |none=>rw[o] at h;cases h
     |some ob=>rw[hx a ob o];rw[o] at h;exact h) hobs
    simp only[hnd,has,i,hc,hl,f,R,e]
   ·cases he
  ·cases he
 ·cases he
theorem b8t{G:I5}{f:FuncId}{c:Con}(h:w4 G f=some c)(C:c.isEf=true):(∃d,qS G f=some d)∨(qS G f=none/\gmk G f=none/\gfz G f=none):=by
 induction G with
 |nil=>cases h
 |cons x G i=>
  obtain⟨g,d⟩:=x;simp only[w4] at h;simp only[qS,gmk,gfz];split at h
  ·simp only[X2] at h;subst h;cases d<;>first|exact .inl ⟨_,rfl⟩|exact .inr ⟨rfl,rfl,rfl⟩|(cases C)
  ·exact i h
theorem a3r{c:List T->Y4->Option (T×Y4×Option Prop)}{f:FuncId}(C:qS G f=some c){l:List T}(h:∀k v i j n r,l≠ .posl k v i j n::r):xF G H f l=i8 c H (m3 H 64 (jS l) []) l:=by
 unfold xF;rw[C];cases l with
 |nil=>rfl
 |cons t r=>cases t<;>first|rfl|exact absurd rfl (h _ _ _ _ _ _)
theorem b7V{op:Op}{y:T}{side:Option Prop}{W:List Nat}(hf:b1H G op=true)(hw:uD H s op=some W)(he:A5 P G s H op=some (y,H',side)):
  ∃ks os os2,H'=M5 H ks os++os2/\(∀k ∈ ks,∃ob,Z1 H k=some ob)/\∀H2:Y4,H2.length=H.length->E5 H H2->A5 P G s H2 op=some (y,M5 H2 ks os++os2,side):=by
 unfold b1H at hf;split at hf
 case h_2=>cases hf
 rename_i x args at_;have ht:tC G (.call {callee:=.value x,args:=args,argTypes:=at_})=false:=rfl;unfold isEf at hf;split at hf
 case h_2=>cases hf
 rename_i f;have e1:∀H,L7 P s H (.call {callee:=.value (.func f),args:=args,argTypes:=at_})=none:=λH=>rfl
 have e2:∀H,A9 P s H (.call {callee:=.value (.func f),args:=args,argTypes:=at_})=none:=λH=>rfl
 cases hcn:w4 G f with
 |none=>rw[hcn] at hf;cases hf
 |some cn=>
  rw[hcn] at hf;have hie:isEff G (.func f)=true:=by
   simp only[isEff,hcn];cases cn<;>first|rfl|(cases hf)
  have key:∀H,A5 P G s H (.call {callee:=.value (.func f),args:=args,argTypes:=at_})=xF G H f (args.toList.map (L3 s)):=λH=>by
   rw[wI ht];unfold K1;simp only[e1,e2,hie]
  rw[key] at he;have hnp:∀k v i j n r,args.toList.map (L3 s)≠ .posl k v i j n::r:=λk v i j n r hp=>by
   unfold uD at hw;simp only[cE,List.append_nil] at hw;rw[hp] at hw;cases hw
  rcases b8t hcn (by simpa using hf) with⟨c,hc⟩|⟨h1,h2,h3⟩
  ·rw[a3r hc hnp] at he;obtain⟨ks,os,os2,a1,a2,a3⟩:=c5v he;exact⟨ks,os,os2,a1,a2,λH2 hl hx=>by rw[key,a3r hc hnp];exact a3 H2 hl hx⟩
  ·unfold xF at he;rw[h1,h2,h3] at he;cases he
theorem nB{op:Op}{r:Nat}{y:T}{side:Option Prop}(he:a5G P s H op r=some (y,H',side)):Z1 H r=none/\r<H.length/\∃ob,H'=H.set r (some ob):=by
 unfold a5G at he;split at he
 ·split at he
  ·split at he
   ·rename_i h d;simp only[X2,U0] at he;exact⟨h,zP d,_,he.2.1.symm⟩
   ·cases he
  ·cases he
 ·split at he
  ·split at he
   ·split at he
    ·split at he
     ·split at he
      ·rename_i h d;simp only[X2,U0] at he;exact⟨h,zP d,_,he.2.1.symm⟩
      ·cases he
     ·cases he
    ·cases he
   ·cases he
  ·cases he
 ·cases he
theorem a4x{op:Op}{r:Nat}{y:T}{side:Option Prop}(d:a5G P s H op r=some (y,H',side)):E5 H H':=by
 obtain⟨g,f,_,rfl⟩:=nB d;intro k ob h;rw[T9 f];split
 ·rename_i e;rw[e,g] at h;cases h
 ·exact h
theorem b6J{op:Op}{y:T}{H1:Y4}{side:Option Prop}{R:List Nat}(r:a0k s op=some R)(h:stays G op=true)(hx:aG R H H')(e:A5 P G s H op=some (y,H1,side)):A5 P G s H' op=some (y,H',side):=by
 cases t:tC G op with
 |true=>exact(xS t e).2
 |false=>rw[wI t] at e ⊢;rw[b0h t] at h;exact b11 r h hx e
theorem a7D{op:Op}{y:T}{side:Option Prop}{W:List Nat}(d:uD H s op=some W)(h:A5 P G s H op=some (y,H',side)):∀k,k ∉ W->∀ob,Z1 H k=some ob->Z1 H' k=some ob:=by
 cases t:tC G op with
 |true=>rw[(xS (H':=H) t h).1];exact λk _ ob e=>e
 |false=>rw[wI t] at h;exact a3l d h
end
structure St where
 s:W5
 ps:A3
 hist:List (Nat×Y4)
structure StepOk(P:Program)(G:I5)(nt:Nat)(all:Array Oper)(b:Nat)(H0:Y4)(i:Nat)(o:Oper)(st st':St)(y:T)(p:D4)(m:Nat):Prop where
 fresh:gW st.ps o.dst=true
 dst:kS nt o.dst=true
 s:st'.s=xN st.s o.dst y
 paths:G5 st.ps p o.op=true
 plain:o.guard=none->p=[]/\st'.ps=st.ps
 guarded:∀j want,o.guard=some (j,want)->∃g x,(all[j]?).bind (·.dst)=some g/\zY st.s g= .bool x/\j<i/\p=(g,want)::S5 st.ps g/\st'.ps=cU st.ps o.dst p/\stays G o.op=true/\nI st.ps g o.dst=true
 reader:stays G o.op=true->st'.hist=st.hist/\∃G' H' side,Good P G G'/\A5 P G' st.s (hAt (O8 G) all H0 m st.hist) o.op=some (y,H',side)/\(I4 st.s p->side.getD True)
 writer:stays G o.op=false->q7 (O8 G) o=false->∃G' H' side,Good P G G'/\A5 P G' st.s (A6 H0 st.hist) o.op=some (y,H',side)/\st'.hist=(i,H')::st.hist/\side.getD True
 al:q7 (O8 G) o=true->∃H' side,a5G P st.s (A6 H0 st.hist) o.op (lL (O8 G) b all i)=some (y,H',side)/\st'.hist=(i,H')::st.hist/\side.getD True
section
variable {P:Program} {G:I5} {nt:Nat} {all:Array Oper} {b:Nat} {H0:Y4} {K:W5->Y4->Prop}
theorem a9q{tab:List Nat}{j:Nat}:∀{es:List Edge},Nat.testBit (maskOf tab es) j=true->∃e ∈ es,Region.binds .any e=true/\(e.on=j∨Nat.testBit (tab.getD e.on 0) j=true):=by
 intro es;induction es with
 |nil=>intro h;simp[maskOf] at h
 |cons e es i=>
  intro h;simp only[maskOf] at h;split at h
  ·rename_i hb;have h':Nat.testBit ((1<<<e.on|||tab.getD e.on 0)|||maskOf tab es) j=true:=h;rw[Nat.testBit_or,Nat.testBit_or,tB,tB] at h';rcases h' with(h1|h1)|h1
   ·refine⟨e,W8,hb,.inl ?_⟩
    rw[Nat.one_shiftLeft,Nat.testBit_two_pow] at h1
    simpa using h1
   ·exact⟨e,W8,hb,.inr h1⟩
   ·obtain⟨g,d,f⟩:=i h1;exact⟨g,by simp[d],f⟩
  ·obtain⟨g,d,f⟩:=i h;exact⟨g,by simp[d],f⟩
theorem mR{o:Oper}(h:q7 (O8 G) o=true):stays G o.op=false/\o.guard=none:=by
 unfold q7 at h;split at h
 ·cases h
 rename_i g;refine⟨?_,g⟩
 split at h
 ·rename_i t O;rw[O];rfl
 ·rename_i args at_ O;rw[O];have d:Nat.ble 8 (mV G)=true:=by
   have e:mV G=8:=(G1 h).symm;rw[e];rfl
  have f:tC G (.call {callee:=.builtin .append,args:=args,argTypes:=at_})=false:=by
   show P9 (mV G) args.toList=false;unfold P9;rw[d]
  unfold stays;rw[f];rfl
 ·cases h
theorem c6t(hG:C6 P G)(hGc:∀x ∈ G,Q2 P x.1):∀(R:List Oper) (i:Nat) (r:List (Nat×Oper×RW)) (B:List Nat) (V:Nat->RW) (s:W5) (ps:A3) (hist:List (Nat×Y4)),R=all.toList.drop i->i<=all.size->B.length=i->
  (∀k o,k<i->all[k]? =some o->(k,o,V k) ∈ r)->tO P G nt all b H0 R i r B s ps hist K->
  ∃(S:Nat->St) (y:Nat->T) (p:Nat->D4) (m:Nat->Nat) (f:Nat->RW),S i=⟨s,ps,hist⟩/\(∀k,k<i->m k=B.getD k 0/\f k=V k)/\
   (∀k o,i<=k->all[k]? =some o->StepOk P G nt all b H0 k o (S k) (S (k+1)) (y k) (p k) (m k)/\a1f k o=true/\(f k=pN (A6 H0 (S k).hist) (S k).s o.op/\∀k' o',k'<k->all[k']? =some o'->q8 G all (m k) k' o' (f k') o (f k)=true)/\
    (∀j,Nat.testBit (m k) j=true->∃e ∈ o.after.toList,Region.binds .any e=true/\e.on<k/\(e.on=j∨Nat.testBit (m e.on) j=true)))/\
   K (bV (S all.size).s (S all.size).ps) (A6 H0 (S all.size).hist):=by
 intro R;induction R with
 |nil=>
  intro i r B V s ps hist d hi A I h;have aj:i=all.size:=by
   have:=congrArg List.length d;simp at this;omega
  subst aj;refine⟨λ_=>⟨s,ps,hist⟩,λ_=>.und,λ_=>[],λk=>B.getD k 0,V,rfl,λk _=>⟨rfl,rfl⟩,λk o F ho=>?_,h⟩
  have:=(cP.1 ho).1
  omega
 |cons o R ih=>
  intro i r B V s ps hist d hi A I h;have W:i<all.size:=by
   have:=congrArg List.length d;simp at this;omega
  have Z:all.toList.drop i=all[i]::all.toList.drop (i+1):=by
   rw[List.drop_eq_getElem_cons (by simpa using W)]
   simp
  rw[Z] at d;obtain⟨ho,U⟩:=List.cons.inj d;have hoi:all[i]? =some o:=by rw[uJ W,ho]
  unfold tO at h;split at h
  ·exact h.elim
  rename_i ae;simp only[O4] at ae;obtain⟨z,Y⟩:=ae;have Q:∀k' o',k'<i->all[k']? =some o'->q8 G all (maskOf B o.after.toList) k' o' (V k') o (pN (A6 H0 hist) s o.op)=true:=λk' o' F ho'=>i7.1 Y _ (I k' o' F ho')
  have go:∀(v:St) (y:T) (p:D4),StepOk P G nt all b H0 i o ⟨s,ps,hist⟩ v y p (maskOf B o.after.toList)->
    tO P G nt all b H0 R (i+1) ((i,o,pN (A6 H0 hist) s o.op)::r) (B++[maskOf B o.after.toList]) v.s v.ps v.hist K->∃(S:Nat->St) (y:Nat->T) (p:Nat->D4) (m:Nat->Nat) (f:Nat->RW),S i=⟨s,ps,hist⟩/\(∀k,k<i->m k=B.getD k 0/\f k=V k)/\
   (∀k o,i<=k->all[k]? =some o->StepOk P G nt all b H0 k o (S k) (S (k+1)) (y k) (p k) (m k)/\a1f k o=true/\(f k=pN (A6 H0 (S k).hist) (S k).s o.op/\∀k' o',k'<k->all[k']? =some o'->q8 G all (m k) k' o' (f k') o (f k)=true)/\
    (∀j,Nat.testBit (m k) j=true->∃e ∈ o.after.toList,Region.binds .any e=true/\e.on<k/\(e.on=j∨Nat.testBit (m e.on) j=true)))/\
   K (bV (S all.size).s (S all.size).ps) (A6 H0 (S all.size).hist):=by
   intro v y p aa ah;obtain⟨S,y',p',m,f,hS,X,hall,hK⟩:=ih (i+1) _ _ (λk=>if k=i then pN (A6 H0 hist) s o.op else V k) _ _ _ U W (by simp[A]) (λk o' F ho'=>by
    by_cases hki:k=i
    ·subst hki;rw[hoi] at ho';simp only[X2] at ho';subst ho';simp
    ·rw[if_neg hki];exact List.mem_cons_of_mem _ (I k o' Z9 ho')) ah
   have hm:∀k,k<i+1->m k=(B++[maskOf B o.after.toList]).getD k 0:=λk F=>(X k F).1
   have ad:f i=pN (A6 H0 hist) s o.op:=by rw[(X i Z9).2,if_pos rfl]
   have ac:∀k,k<i->f k=V k:=λk F=>by rw[(X k Z9).2,if_neg Z9]
   have ak:m i=maskOf B o.after.toList:=by
    rw[hm i Z9]
    simp[R2,←A]
   have af:∀k,k<i->m k=B.getD k 0:=λk F=>by
    rw[hm k Z9]
    simp only[R2]
    rw[uW Z9]
   refine⟨λk=>if k<=i then⟨s,ps,hist⟩ else S k,λk=>if k<=i then y else y' k,λk=>if k<=i then p else p' k,m,f,W8,λk F=>⟨af k F,ac k F⟩,λk o' F ho'=>?_,?_⟩
   ·by_cases hki:k=i
    ·subst hki;rw[hoi] at ho';simp only[X2] at ho';subst ho';have e1:(if k<=k then(⟨s,ps,hist⟩:St) else S k)=⟨s,ps,hist⟩:=if_pos (V8 _)
     have e2:(if k+1<=k then(⟨s,ps,hist⟩:St) else S (k+1))=v:=by rw[if_neg Z9,hS]
     have e3:(if k<=k then y else y' k)=y:=if_pos (V8 _)
     have e4:(if k<=k then p else p' k)=p:=if_pos (V8 _)
     simp only[e1,e2,e3,e4,ak];refine⟨aa,z,⟨ad,λk' o' ab ho'=>by rw[ad,ac k' ab];exact Q k' o' ab ho'⟩,λj hj=>?_⟩
     obtain⟨e,M,hb,am⟩:=a9q hj;have ag:e.on<k:=by
      have:=i7.1 z e M;simp only[hb,Bool.not_true,Bool.false_or] at this;exact zP this
     refine⟨e,M,hb,ag,?_⟩
     rcases am with h1|h1
     ·exact .inl h1
     ·exact .inr (by rw[af _ ag];exact h1)
    ·have h1:=hall k o' Z9 ho'
     have e1:(if k<=i then(⟨s,ps,hist⟩:St) else S k)=S k:=if_neg Z9
     have e2:(if k+1<=i then(⟨s,ps,hist⟩:St) else S (k+1))=S (k+1):=if_neg Z9
     have e3:(if k<=i then y else y' k)=y' k:=if_neg Z9
     have e4:(if k<=i then p else p' k)=p' k:=if_neg Z9
     simp only[e1,e2,e3,e4];exact h1
   ·have e1:(if all.size<=i then(⟨s,ps,hist⟩:St) else S all.size)=S all.size:=if_neg Z9
    simp only[e1];exact hK
  have L:∀(s:W5),I4 s []:=λs q hq=>wO
  split at h
  ·rename_i hg;split at h
   ·exact h.elim
   rename_i n;simp only[O4] at n;obtain⟨⟨O,C⟩,l⟩:=n;split at h
   ·rename_i hal;have hsty:=(mR hal).1;split at h
    ·rename_i y H' side M;obtain⟨hs,h⟩:=xA h;exact go ⟨xN s o.dst y,ps,(i,H')::hist⟩ y [] ⟨C,l,rfl,O,λ_=>⟨rfl,rfl⟩,λj want J=>b6h,λN=>a8C,λ_ N=>by(rw[hal] at N;cases N),λ_=>⟨H',side,M,rfl,hs (L _)⟩⟩ h
    ·exact h.elim
   ·rename_i hal;split at h
    ·rename_i hsty;obtain⟨G',hGG,h⟩:=rE hG hGc h;split at h
     ·rename_i t H' side M;obtain⟨hs,d⟩:=xA h;exact go ⟨xN s o.dst t,ps,hist⟩ t [] ⟨C,l,rfl,O,λ_=>⟨rfl,rfl⟩,λj want J=>b6h,λ_=>⟨rfl,G',H',side,hGG,M,λ_=>hs (L _)⟩,λN=>a8C,λu=>by(rw[hal] at u;cases u)⟩ d
     ·exact h.elim
    ·rename_i hsty;obtain⟨G',hGG,h⟩:=rE hG hGc h;split at h
     ·rename_i t H' side M;obtain⟨hs,d⟩:=xA h;exact go ⟨xN s o.dst t,ps,(i,H')::hist⟩ t [] ⟨C,l,rfl,O,λ_=>⟨rfl,rfl⟩,λj want J=>b6h,λN=>a8C,λ_ _=>⟨G',H',side,hGG,M,rfl,hs (L _)⟩,λu=>by(rw[hal] at u;cases u)⟩ d
     ·exact h.elim
  ·rename_i j want hg;split at h
   ·rename_i g hgd;split at h
    ·rename_i x hx;split at h
     ·exact h.elim
     rename_i n;simp only[O4] at n;obtain⟨⟨⟨⟨⟨ai,O⟩,C⟩,l⟩,hsty⟩,al⟩:=n;obtain⟨G',hGG,h⟩:=rE hG hGc h;split at h
     ·rename_i t H' side M;obtain⟨hs,d⟩:=xA h;exact go ⟨xN s o.dst t,cU ps o.dst ((g,want)::S5 ps g),hist⟩ t ((g,want)::S5 ps g) ⟨C,l,rfl,O,λN=>by(rw[hg] at N;cases N),
       λj' an J=>by
        rw[hg] at J;simp only[X2,U0] at J;obtain⟨rfl,rfl⟩:=J;exact⟨g,x,hgd,hx,zP ai,rfl,rfl,hsty,al⟩,
       λ_=>⟨rfl,G',H',side,hGG,M,hs⟩,λN=>a8C,λu=>by(rw[(mR u).2] at hg;cases hg)⟩ d
     ·exact h.elim
    ·exact h.elim
   ·exact h.elim
end
structure Trace(P:Program)(G:I5)(nt:Nat)(all:Array Oper)(b:Nat)(H0:Y4)(s0:W5)(S:Nat->St)(y:Nat->T)(p:Nat->D4)(m:Nat->Nat):Prop where
 start:S 0=⟨s0,[],[]⟩
 step:∀k o,all[k]? =some o->StepOk P G nt all b H0 k o (S k) (S (k+1)) (y k) (p k) (m k)
 edge:∀k o,all[k]? =some o->∀e ∈ o.after.toList,Region.binds .any e=true->e.on<k
 pair:∀k o k' o',all[k]? =some o->all[k']? =some o'->k'<k->q8 G all (m k) k' o' (pN (A6 H0 (S k').hist) (S k').s o'.op) o (pN (A6 H0 (S k).hist) (S k).s o.op)=true
 mask:∀k o j,all[k]? =some o->Nat.testBit (m k) j=true->∃e ∈ o.after.toList,Region.binds .any e=true/\e.on<k/\(e.on=j∨Nat.testBit (m e.on) j=true)
def kC(all:Array Oper)(y:Nat->T)(q:D4):Prop:=∀z ∈ q,∃i o x,all[i]? =some o/\o.dst=some z.1/\y i= .bool x/\x=z.2
section
variable {P:Program} {G:I5} {nt:Nat} {all:Array Oper} {b:Nat} {H0:Y4} {s0:W5} {S:Nat->St} {y:Nat->T} {p:Nat->D4} {m:Nat->Nat}
theorem Trace.distinct(t:Trace P G nt all b H0 s0 S y p m){i j d:Nat}{o o':Oper}(hi:all[i]? =some o)(J:all[j]? =some o')(hd:o.dst=some d)(e:o'.dst=some d):i=j:=by
 rcases Nat.lt_trichotomy i j with h|h|h
 ·have:=t.pair j o' i o J hi h;simp[q8,a2p,hd,e] at this
 ·exact h
 ·have:=t.pair i o j o' hi J h;simp[q8,a2p,hd,e] at this
theorem Trace.slot_none(t:Trace P G nt all b H0 s0 S y p m)(u:Nat):∀k,k<=all.size->(∀j o,j<k->all[j]? =some o->o.dst≠some u)->zY (S k).s u=zY s0 u/\S5 (S k).ps u=[]:=by
 intro k;induction k with
 |zero=>intro _ _;rw[t.start];exact⟨rfl,rfl⟩
 |succ k I=>
  intro q h;obtain⟨n,f⟩:=I Z9 (λj o J=>h j o Z9)
  have O:=uJ (xs:=all) (i:=k) Z9
  have hst:=t.step k _ O;have e:=h k _ Z9 O
  constructor
  ·rw[hst.s];cases hd:all[k].dst with
   |none=>exact n
   |some d=>rw[uI,if_neg (by rintro rfl;exact e hd)];exact n
  ·cases hg:all[k].guard with
   |none=>rw[(hst.plain hg).2];exact f
   |some W=>
    obtain⟨g,x,_,_,_,_,l,_,_⟩:=hst.guarded W.1 W.2 hg;rw[l];cases hd:all[k].dst with
    |none=>exact f
    |some d=>
     simp only[cU,S5];split
     ·rename_i B;exact absurd (hd.trans (by rw[G1 B])) e
     ·exact f
theorem Trace.slot_some(t:Trace P G nt all b H0 s0 S y p m){u j:Nat}{o:Oper}(hj:all[j]? =some o)(hd:o.dst=some u):∀k,j<k->k<=all.size->zY (S k).s u=y j/\S5 (S k).ps u=p j:=by
 intro k;induction k with
 |zero=>intro h;omega
 |succ k ih=>
  intro l q;have ho:=uJ (xs:=all) (i:=k) Z9
  have hst:=t.step k _ ho;by_cases hjk':j=k
  ·subst hjk';have hst:=t.step j o hj;clear ho;constructor
   ·rw[hst.s,hd,uI,if_pos rfl]
   ·have hfr:=hst.fresh;rw[hd] at hfr;obtain⟨hf1,_⟩:=iE hfr;cases hg:o.guard with
    |none=>rw[(hst.plain hg).2,(hst.plain hg).1];exact hf1
    |some W=>
     obtain⟨g,x,_,_,_,_,e,_,_⟩:=hst.guarded W.1 W.2 hg;rw[e,hd];simp[cU,S5]
  ·obtain⟨h1,h2⟩:=ih Z9 Z9
   have f:all[k].dst≠some u:=λn=>hjk' (t.distinct hj ho hd n)
   constructor
   ·rw[hst.s];cases hd:all[k].dst with
    |none=>exact h1
    |some d=>rw[uI,if_neg (by rintro rfl;exact f hd)];exact h1
   ·cases hg:all[k].guard with
    |none=>rw[(hst.plain hg).2];exact h2
    |some W=>
     obtain⟨g,x,_,_,_,_,e,_,_⟩:=hst.guarded W.1 W.2 hg;rw[e];cases hd:all[k].dst with
     |none=>exact h2
     |some d=>
      simp only[cU,S5];split
      ·rename_i B;exact absurd (hd.trans (by rw[G1 B])) f
      ·exact h2
theorem fJ(all:Array Oper)(u k:Nat):(∃j o,j<k/\all[j]? =some o/\o.dst=some u)∨(∀j o,j<k->all[j]? =some o->o.dst≠some u):=by
 by_cases h:∃j o,j<k/\all[j]? =some o/\o.dst=some u
 ·exact .inl h
 ·exact .inr λj o J O hd=>h ⟨j,o,J,O,hd⟩
theorem Trace.path_lt(t:Trace P G nt all b H0 s0 S y p m):∀j o,all[j]? =some o->∀q ∈ p j,∃i o',i<j/\all[i]? =some o'/\o'.dst=some q.1:=by
 intro j;induction j using Nat.strongRecOn with
 |_ j I=>
  intro o hj q Q;have l:=t.step j o hj;cases v:o.guard with
  |none=>rw[(l.plain v).1] at Q;cases Q
  |some W=>
   obtain⟨g,x,d,_,e,hp,_,_,_⟩:=l.guarded W.1 W.2 v;rw[hp] at Q;have h:∃O,all[W.1]? =some O/\O.dst=some g:=by
    cases u:all[W.1]? with
    |none=>rw[u] at d;cases d
    |some O=>rw[u] at d;exact⟨O,rfl,d⟩
   obtain⟨O,h,f⟩:=h;rcases vT.1 Q with rfl|Q
   ·exact⟨W.1,O,e,h,f⟩
   ·have hjs:j<=all.size:=Nat.le_of_lt (cP.1 hj).1
    rw[(t.slot_some h f j e hjs).2] at Q;obtain⟨i,o',hi,n,r⟩:=I W.1 e O h q Q;exact⟨i,o',Z9,n,r⟩
theorem Trace.pathV(t:Trace P G nt all b H0 s0 S y p m){k:Nat}(l:k<=all.size){q:D4}(Q:∀z ∈ q,∃i o',i<k/\all[i]? =some o'/\o'.dst=some z.1):I4 (S k).s q↔kC all y q:=by
 constructor
 ·intro h z Z;obtain⟨i,o',hi,d,e⟩:=Q z Z;obtain⟨x,hx,g⟩:=h z Z;rw[(t.slot_some d e k hi l).1] at hx;exact⟨i,o',x,d,e,hx,g⟩
 ·intro h z Z;obtain⟨i,o',hi,d,e⟩:=Q z Z;obtain⟨I,o,x,j,f,hx,g⟩:=h z Z;obtain rfl:=t.distinct d j e f;exact⟨x,by rw[(t.slot_some d e k hi l).1];exact hx,g⟩
def Cl(all:Array Oper)(D:Nat->Prop):Prop:=∀j o,D j->all[j]? =some o->∀e ∈ o.after.toList,Region.binds .any e=true->D e.on
theorem Trace.mask_done(t:Trace P G nt all b H0 s0 S y p m){D:Nat->Prop}(l:Cl all D):∀k o,all[k]? =some o->(∀e ∈ o.after.toList,Region.binds .any e=true->D e.on)->∀j,Nat.testBit (m k) j=true->D j:=by
 intro k;induction k using Nat.strongRecOn with
 |_ k i=>
  intro o hk f j J;obtain⟨e,g,B,hlt,h⟩:=t.mask k o j hk J;have d:=f e g B;rcases h with rfl|h
  ·exact d
  ·have hlt':e.on<all.size:=Nat.lt_trans hlt (cP.1 hk).1
   have O:=uJ hlt'
   exact i e.on hlt _ O (l e.on _ d O) j h
def HH(H0:Y4)(S:Nat->St)(k:Nat):Y4:=A6 H0 (S k).hist
def eQ(G:I5)(all:Array Oper)(k:Nat):Prop:=∃o,all[k]? =some o/\stays G o.op=false
theorem Trace.hist_same(t:Trace P G nt all b H0 s0 S y p m){a:Nat}:∀b,a<=b->b<=all.size->(∀x,a<=x->x<b->¬eQ G all x)->(S b).hist=(S a).hist:=by
 intro b;induction b with
 |zero=>intro h _ _;rw[Nat.le_zero.1 h]
 |succ b I=>
  intro h B o;by_cases e:a=b+1
  ·rw[e]
  ·have ho:=uJ (xs:=all) (i:=b) Z9
   have d:=t.step b _ ho;have Y:stays G all[b].op=true:=by
    cases g:stays G all[b].op with
    |true=>rfl
    |false=>exact absurd ⟨_,ho,g⟩ (o b Z9 Z9)
   rw[(d.reader Y).1];exact I Z9 Z9 (λx f j=>o x f Z9)
theorem Trace.hist_ext(t:Trace P G nt all b H0 s0 S y p m){a:Nat}:∀b,a<=b->b<=all.size->(∀x o,a<=x->x<b->all[x]? =some o->stays G o.op=false->yO G o.op=true∨q7 (O8 G) o=true)->E5 (HH H0 S a) (HH H0 S b):=by
 intro b;induction b with
 |zero=>intro h _ _;rw[Nat.le_zero.1 h];exact E5.refl _
 |succ b I=>
  intro h B O;by_cases q:a=b+1
  ·rw[q];exact E5.refl _
  ·have ho:=uJ (xs:=all) (i:=b) Z9
   have d:=t.step b _ ho;refine(I Z9 Z9 (λx o r u=>O x o r Z9)).trans ?_
   cases f:stays G all[b].op with
   |true=>
    have:=(d.reader f).1;simp only[HH,this];exact E5.refl _
   |false=>
    cases l:q7 (O8 G) all[b] with
    |true=>
     obtain⟨H',side,j,e,_⟩:=d.al l;simp only[HH,e,A6];exact a4x j
    |false=>
     obtain⟨G',H',side,g,v,e,_⟩:=d.writer f l;have n:=(O b _ Z9 Z9 ho f).resolve_right (by rw[l];simp)
     simp only[HH,e,A6];exact a4P ((g.grow _).trans n) v
theorem Trace.hist_extOn(t:Trace P G nt all b H0 s0 S y p m){R:List Nat}{a:Nat}:∀b,a<=b->b<=all.size->(∀x o,a<=x->x<b->all[x]? =some o->stays G o.op=false->(yO G o.op=true∨q7 (O8 G) o=true)∨disjB (some R) (uD (HH H0 S x) (S x).s o.op)=true)->aG R (HH H0 S a) (HH H0 S b):=by
 intro b;induction b with
 |zero=>intro h _ _;rw[Nat.le_zero.1 h];exact λ_ _ _ h=>h
 |succ b I=>
  intro h B O;by_cases u:a=b+1
  ·rw[u];exact λ_ _ _ h=>h
  ·have ho:=uJ (xs:=all) (i:=b) Z9
   have d:=t.step b _ ho;have q:=I Z9 Z9 (λx o e v=>O x o e Z9)
   have e:aG R (HH H0 S b) (HH H0 S (b+1)):=by
    cases j:stays G all[b].op with
    |true=>
     have:=(d.reader j).1;simp only[HH,this];exact λ_ _ _ h=>h
    |false=>
     cases l:q7 (O8 G) all[b] with
     |true=>
      obtain⟨H',side,f,g,_⟩:=d.al l;simp only[HH,g,A6];exact λk _ ob hk=>a4x f k ob hk
     |false=>
      obtain⟨G',H',side,n,hev,g,_⟩:=d.writer j l;have hg:=O b _ Z9 Z9 ho j
      simp only[HH,g,A6];rcases hg with hg|hg
      ·exact λk _ ob hk=>a4P ((n.grow _).trans (hg.resolve_right (by rw[l];simp))) hev k ob hk
      ·unfold disjB at hg;split at hg
       ·rename_i r w hr hw;simp only[X2] at hr;subst hr;refine λk hk ob hob=>a7D hw hev k (λhkw=>?_) ob hob
        have:=i7.1 (i7.1 hg k hk) k hkw;simp at this
       ·cases hg
   exact λk hk ob hob=>e k hk ob (q k hk ob hob)
theorem dL{fl:Bool}{k:Nat}{o:Oper}(h:all[k]? =some o):B9 fl all k=q7 fl o:=by unfold B9;rw[h]
theorem Trace.hist_at(t:Trace P G nt all b H0 s0 S y p m)(M:Nat):∀i,i<=all.size->∃q,q<=i/\hAt (O8 G) all H0 M (S i).hist=HH H0 S q/\(∀x,q<=x->x<i->eQ G all x->Nat.testBit M x=false∨B9 (O8 G) all x=true)/\(q=0∨∃x,q=x+1/\eQ G all x/\B9 (O8 G) all x=false/\Nat.testBit M x=true):=by
 intro i;induction i with
 |zero=>intro _;exact⟨0,V8 _,by simp[HH,t.start,hAt,A6],λx _ h=>Z9,.inl rfl⟩
 |succ i A=>
  intro hi;obtain⟨q,Q,z,O,r⟩:=A Z9
  have u:=uJ (xs:=all) (i:=i) Z9
  have e:=t.step i _ u;cases j:stays G all[i].op with
  |true=>
   refine⟨q,Z9,by rw[(e.reader j).1];exact z,λx n v hx=>?_,r⟩
   by_cases I:x=i
   ·subst I;obtain⟨o,d,g⟩:=hx;rw[u] at d;simp only[X2] at d;subst d;rw[j] at g;cases g
   ·exact O x n Z9 hx
  |false=>
   obtain⟨H',f⟩:∃H',(S (i+1)).hist=(i,H')::(S i).hist:=by
    cases l:q7 (O8 G) all[i] with
    |true=>obtain⟨H',_,_,f,_⟩:=e.al l;exact⟨H',f⟩
    |false=>obtain⟨_,H',_,_,_,f,_⟩:=e.writer j l;exact⟨H',f⟩
   cases B:Nat.testBit M i&& !B9 (O8 G) all i with
   |true=>
    simp only[O4,xV] at B;exact⟨i+1,V8 _,by simp only[f,hAt,B.1,B.2,HH,A6];rfl,λx n v=>Z9,.inr ⟨i,rfl,⟨_,u,j⟩,B.2,B.1⟩⟩
   |false=>
    refine⟨q,Z9,by simp only[f,hAt,B];exact z,λx n v hx=>?_,r⟩
    by_cases I:x=i
    ·subst I;simp only[Bool.and_eq_false_iff,zF] at B;exact B
    ·exact O x n Z9 hx
end
section
variable {c:Ctx} {P:Program} {E:Env} {H:Y4} {w w':World}
theorem b6s(h:Inv c E H w)(O:w'.os=w.os)(t:w'.tape=w.tape)(hp:w'.output=w.output)(z:w.heap.size<=w'.heap.size)(W:∀b,b<w.heap.size->w'.heap[b]? =w.heap[b]?){r:Nat}(hr:r<H.length)(j:¬E.L r)
  (ob:Ob) (b κ:Nat) (hia:ob.isArr=true) (B:κ≠0->w.heap.size<=b) (hok:Stp E w (E.push r b κ ob.toArr.sz) w'->T4 (E.push r b κ ob.toArr.sz) w' r ob.toArr):
  Inv c (E.push r b κ ob.toArr.sz) (H.set r (some ob)) w'/\Stp E w (E.push r b κ ob.toArr.sz) w'/\∀k,(E.push r b κ ob.toArr.sz).L k->E.L k∨k=r:=by
 have hst:Stp E w (E.push r b κ ob.toArr.sz) w':=⟨Env.push_le j,λb B=>W b (h.nlt b B)⟩
 have f:(E.push r b κ ob.toArr.sz).β r=b:=if_pos rfl;have d:(E.push r b κ ob.toArr.sz).κ r=κ:=if_pos rfl;refine⟨h.to O t hp z hst r (λ_=>False) (λ_ h=>h) (λi o hi e=>?_) (λo hi=>?_) (λb B _=>W b B) (λi hi=>?_) (λi v hv=>.inl (h.heap.l2 i v hv)) (λo i v hi hv=>?_),hst,λk l=>l⟩
 ·rw[T9 hr,if_neg e] at hi;exact⟨hi,λh=>h⟩
 ·rw[T9 hr,if_pos rfl] at hi;simp only[X2] at hi;subst hi;refine⟨.inr rfl,T4.ob (hok hst) hia,λx hx=>?_⟩
  obtain⟨g,rfl⟩:=hx.arr hia;rw[f];rw[d] at g;exact .inl (B g)
 ·rw[yT];rcases hi with hi|rfl
  ·exact h.heap.lt i hi
  ·exact hr
 ·rw[T9 hr] at hi;split at hi
  ·rename_i n;subst n;exact absurd (h.heap.l2 _ v hv) j
  ·exact h.heap.cur i o v hi hv
theorem c6F(h:Inv c E H w){t tx ty e:TypeId}{x:T}{V xv:Value}{i:TypeInfo}{z:List T}{q:Sr}{r:Nat}(hr:r<H.length)(hL:¬E.L r)(hu:P.underlying t=some (.slice e))(hi:P.info? e=some i)(hz:zeroCells P e=some z)(hl:Nat.beq z.length i.size=true)
  (hq:xL [] (P.underlying tx) i.size x=some q) (C:q.cl=true) (hs:lA q.side (U9 0 q.n i.bytes)) (hd:Rd E w .emp V) (hx:Rd E w x xv):
  ∃v w' E',(Builtin.append_ #[t,tx] ty #[V,xv]).run P w= .ok v w'/\Inv c E' (H.set r (some (.arr true e i.size q.n q.row))) w'/\Stp E w E' w'/\Rd E' w' (.osl r 0 q.n) v/\∀k,E'.L k->E.L k∨k=r:=by
 obtain⟨zv,M,J⟩:=i9 hi hz;have O:zv.cells.size=i.size:=by rw[J];exact G1 hl
 obtain⟨I,rfl⟩:∃I,V= .slice I 0 0:=b5p
 obtain⟨Q,W⟩:=zB hs;obtain⟨aa,F,N,A,l,hnews⟩:=wN (P:=P) h.heap (a2I hq) Q hx;obtain⟨rv,w',o,ha⟩:=C7 (P:=P) (ty:=ty) hu hi M O F 0 W (.slice I 0 0) (λ_=>none) none (.inl ⟨I,rfl,rfl,rfl⟩)
 rcases ha with ha|⟨hm,rfl,a1,rfl⟩
 ·obtain⟨ho,ht,hp,hsize,hoth,b,cap,cs,tyb,rfl,hcap,hblk,hcs,hbg,_,hnew⟩:=ha;have hold:∀b,b<w.heap.size->w'.heap[b]? =w.heap[b]? :=λb hb=>hoth b hb W8
  have R:w.heap.size<=b:=by
   rcases hbg with h1|h1
   ·exact h1.1
   ·cases h1
  rw[C9] at hcap;obtain⟨Y,X,Z⟩:=b6s h ho ht hp hsize hold hr hL (.arr true e i.size q.n q.row) b cap rfl (λ_=>R) (λhst=>by
   have B:(E.push r b cap i.size).β r=b:=if_pos rfl;have d:(E.push r b cap i.size).κ r=cap:=if_pos rfl;have g:(E.push r b cap i.size).z r=(i.size,[]):=if_pos rfl;refine⟨by rw[show(Ob.arr true e i.size q.n q.row).toArr.sz=i.size from rfl,g],?_,λk hk=>N k hk,λk t hk ht=>A k t hk ht,λ_ k t hk ht=>l C k t hk ht,cs,tyb,λ_=>?_,?_,λk j t hk hj=>?_⟩
   ·show q.n<=(E.push r b cap i.size).κ r;rw[d];exact hcap
   ·show w'.heap[(E.push r b cap i.size).β r]? =_;rw[B];exact hblk
   ·show Siz cs ((E.push r b cap i.size).κ r*i.size) ((E.push r b cap i.size).z r).2;rw[d,g];exact a8A hcs
   ·obtain⟨u,hu',hr'⟩:=hnews k j t hk hj;refine⟨u,?_,hst.rd hr'⟩
    have hk:k<q.n:=hk;have ab:j<i.size:=by rw[←N k hk];exact(w6.1 hj).1
    have U:k*i.size+j<q.n*i.size:=by
     have:(k+1)*i.size<=q.n*i.size:=lD _ hk;rw[Nat.add_mul] at this;omega
    have:=hnew _ U;rw[Nat.zero_mul,C9] at this;show cs[k*i.size+j]? =some u;rw[this,hu'])
  refine⟨_,w',_,o,Y,X,?_,Z⟩
  have B:(E.push r b cap i.size).β r=b:=if_pos rfl;have d:(E.push r b cap i.size).κ r=cap:=if_pos rfl;have f:=Rd.osl (E:=E.push r b cap i.size) (w:=w') r 0 q.n 0 (some ⟨b,0,none⟩) (.inr rfl) (by rw[d];omega) (λ_=>W8) (λ_=>by rw[B])
  rw[d,Nat.sub_zero] at f;rw[C9];exact f
 ·have hn:q.n=0:=by omega
  obtain⟨Y,X,Z⟩:=b6s h rfl rfl rfl (V8 _) (λ_ _=>rfl) hr hL (.arr true e i.size q.n q.row) 0 0 rfl (λh=>absurd rfl h) (λhst=>by
   have d:(E.push r 0 0 i.size).κ r=0:=if_pos rfl;have g:(E.push r 0 0 i.size).z r=(i.size,[]):=if_pos rfl;refine⟨by rw[show(Ob.arr true e i.size q.n q.row).toArr.sz=i.size from rfl,g],?_,λk hk=>N k hk,λk t hk ht=>A k t hk ht,λ_ k t hk ht=>l C k t hk ht, #[],0,λhk=>absurd d hk,?_,λk j t hk=>?_⟩
   ·show q.n<=(E.push r 0 0 i.size).κ r;omega
   ·show Siz #[] ((E.push r 0 0 i.size).κ r*i.size) ((E.push r 0 0 i.size).z r).2;rw[d,g];exact a8A W8
   ·have hk:k<q.n:=hk;omega)
  refine⟨_,_,_,o,Y,X,?_,Z⟩
  have d:(E.push r 0 0 i.size).κ r=0:=if_pos rfl;have f:=Rd.osl (E:=E.push r 0 0 i.size) (w:=w') r 0 0 0 a1 (.inr rfl) (O3 _) (λ_=>W8) (λh=>absurd d h)
  rw[d] at f;rw[hn];exact f
theorem c3b(h:Inv c E H w){o:Oper}{s:W5}{H0 H1:Y4}{a:Act}{r:Nat}{y:T}{side:Option Prop}(he:a5G P s H0 o.op r=some (y,H1,side))(hs:side.getD True)(hr:r<H.length)(hL:¬E.L r)(hop:∀x ∈ E8 o.op,G0 E w a s x):
  ∃v w' E' ob,H1=H0.set r (some ob)/\(execOp a.eval o).run P w= .ok (.value v) w'/\Inv c E' (H.set r (some ob)) w'/\Stp E w E' w'/\Rd E' w' y v/\∀k,E'.L k->E.L k∨k=r:=by
 unfold a5G at he;split at he
 ·rename_i t ho;split at he
  ·rename_i z hz;split at he
   ·rename_i h1 hone h3 h4;simp only[X2,U0] at he;obtain⟨rfl,rfl,rfl⟩:=he;obtain⟨v,hv,hrl2,_⟩:=j4 (E:=E) (w:=w) hz;obtain⟨E',g1,g2,g3,g4⟩:=c7j (t:=t) h hr hL hone hrl2;refine⟨_,_,E',_,rfl,?_,g1,g2,g3,g4⟩
    simp only[execOp,ho,Instr.alloc,newVar,newRow,D8,hv,run_newObj,E7,B2];rfl
   ·cases he
  ·cases he
 ·rename_i args at_ ho;rw[ho] at hop;split at he
  case h_2=>cases he
  rename_i d x t tx ha hat;obtain rfl:args= #[d,x]:=Array.ext' tN
  obtain rfl:at_= #[t,tx]:=Array.ext' a0p
  split at he
  case h_2=>cases he
  rename_i e hd hu;split at he
  case h_2=>cases he
  rename_i i z hi hz;split at he
  case h_2=>cases he
  rename_i q hl hq;split at he
  case h_2=>cases he
  rename_i hcl h3 h4;simp only[X2,U0] at he;obtain⟨rfl,rfl,rfl⟩:=he;have hdo:=hop d vM
  unfold G0 at hdo;rw[hd] at hdo;obtain⟨rv,w',E',hrun,g1,g2,g3,g4⟩:=c6F (P:=P) (ty:=o.type) h hr hL hu hi hz hl hq hcl hs hdo (hop x vM)
  refine⟨rv,w',E',_,rfl,?_,g1,g2,g3,g4⟩
  simp[execOp,ho,resolve,invoke,builtin,hrun,Result.andThen]
 ·cases he
end
theorem b3b{E:Env}{w:World}{s:W5}{ps:A3}{a:Act}{e:D4}{op:Op}(h:∀u,Operand.tmp u ∈ op.operands.toList->I4 s (S5 ps u)->Rd E w (zY s u) (a.tmps.getD u undef))(hp:I4 s e)(d:G5 ps e op=true):
  (∀x ∈ E8 op,G0 E w a s x)/\∀c x y,op= .pick c x y->(∀b,L3 s c= .bool b->b=true->G0 E w a s x)/\(∀b,L3 s c= .bool b->b=false->G0 E w a s y):=by
 have tmp:∀{q:D4} {x:Operand},x ∈ op.operands.toList->I4 s q->gO ps q x=true->G0 E w a s x:=by
  intro q x hx hq g;refine a1E λu U=>?_
  subst U;exact h u hx (b6M g hq)
 by_cases hpk:∃c x y,op= .pick c x y
 ·obtain⟨c,x,y,rfl⟩:=hpk;cases c with
  |tmp t=>
   simp only[G5,O4] at d;obtain⟨⟨i,h2⟩,h3⟩:=d;refine⟨λz Z=>?_,λC X Y he=>?_⟩
   ·simp only[E8,List.mem_singleton] at Z;subst Z;exact tmp (by simp[Op.operands]) hp i
   ·cases he;refine⟨λb hb hbt=>tmp (by simp[Op.operands]) (λq hq=>?_) h2,λb hb hbt=>tmp (by simp[Op.operands]) (λq hq=>?_) h3⟩
    ·rcases vT.1 hq with rfl|hq
     ·exact⟨b,hb,hbt⟩
     ·exact hp q hq
    ·rcases vT.1 hq with rfl|hq
     ·exact⟨b,hb,hbt⟩
     ·exact hp q hq
  |const=>simp[G5] at d
  |global=>simp[G5] at d
  |func=>simp[G5] at d
 ·have f:E8 op=op.operands.toList:=by
   cases op<;>first|rfl|exact absurd ⟨_,_,_,rfl⟩ hpk
  have l:op.operands.toList.all (gO ps e)=true:=by
   cases op<;>first|exact d|exact absurd ⟨_,_,_,rfl⟩ hpk
  exact⟨λx hx=>tmp (by rw[←f];exact hx) hp (i7.1 l x (by rw[←f];exact hx)),λc x y he=>absurd ⟨c,x,y,he⟩ hpk⟩
theorem pD{u:Nat}:∀{l:List Operand},Operand.tmp u ∈ l->u ∈ sS l:=by
 intro l;induction l with
 |nil=>intro h;cases h
 |cons x l i=>
  intro h;cases x with
  |tmp t=>
   simp only[sS];rcases vT.1 h with h|h
   ·cases h;simp
   ·exact List.mem_cons_of_mem _ (i h)
  |_=>
   simp only[sS];rcases vT.1 h with h|h
   ·cases h
   ·exact i h
theorem a2Y{u:Nat}{l:List Nat}(h:u ∈ l):b0v (some u) l=true:=by
 simp only[b0v,List.any_eq_true];exact⟨u,h,W8⟩
def b52(all:Array Oper)(s0:W5)(y:Nat->T)(p:Nat->D4)(D:Nat->Prop)(E:Env)(w:World)(a:Act)(u:Nat):Prop:=
 (∀j o,all[j]? =some o->o.dst=some u->D j->(kC all y (p j)->Rd E w (y j) (a.tmps.getD u undef))/\(¬kC all y (p j)->a.tmps.getD u undef=undef))/\
  ((∀j o,all[j]? =some o->o.dst=some u->¬D j)->Rd E w (zY s0 u) (a.tmps.getD u undef))
def a3b(G:I5)(all:Array Oper)(b:Nat)(H0:Y4)(S:Nat->St)(D:Nat->Prop)(e:Nat)(H:Y4):Prop:=
 H.length=(HH H0 S e).length/\(∀x,e<=x->B9 (O8 G) all x=true->D x->Z1 H (lL (O8 G) b all x)=Z1 (HH H0 S (x+1)) (lL (O8 G) b all x))/\
  ∀k,(∀x,e<=x->B9 (O8 G) all x=true->D x->k≠lL (O8 G) b all x)->Z1 H k=Z1 (HH H0 S e) k
def NR(G:I5)(all:Array Oper)(b:Nat)(H0:Y4)(S:Nat->St)(e:Nat):Prop:=
 ∀x,e<=x->B9 (O8 G) all x=true->Z1 (HH H0 S e) (lL (O8 G) b all x)=none
def RD(c:Ctx)(G:I5)(all:Array Oper)(b:Nat)(H0:Y4)(s0:W5)(S:Nat->St)(y:Nat->T)(p:Nat->D4)(D:Nat->Prop)(a:Act)(w:World):Prop:=
 a.defers=[]/\a.tmps.size=c.nt/\∃E e H,e<=all.size/\(∀x,eQ G all x->x<e->D x)/\(∀x,eQ G all x->D x->e<=x->B9 (O8 G) all x=true)/\a3b G all b H0 S D e H/\NR G all b H0 S e/\Inv c E H w/\
  (∀x,B9 (O8 G) all x=true->¬D x->¬E.L (lL (O8 G) b all x))/\(∀x,B9 (O8 G) all x=true->∃j,E.L j/\lL (O8 G) b all x<j)/\∀u,b52 all s0 y p D E w a u
theorem a4R{A B:Y4}(hl:A.length=B.length)(h:∀k,Z1 A k=Z1 B k):A=B:=by
 refine List.ext_getElem hl λk d e=>?_
 have:=h k;unfold Z1 at this;rw[J4 d,J4 e] at this
 exact this
theorem b5u(fl:Bool)(l r:List Oper):xK fl (l++r)=xK fl l+xK fl r:=by
 induction l with
 |nil=>simp[xK]
 |cons o l i=>
  simp only[List.cons_append,xK,i];split<;>omega
theorem B3{fl:Bool}{all:Array Oper}{x:Nat}(h:B9 fl all x=true):∃o,all[x]? =some o/\q7 fl o=true:=by
 unfold B9 at h;split at h
 ·rename_i o O;exact⟨o,O,h⟩
 ·cases h
theorem jA{fl:Bool}{all:Array Oper}{x n:Nat}(h:B9 fl all x=true)(N:x<n):xK fl (all.toList.take x)<xK fl (all.toList.take n):=by
 obtain⟨o,O,f⟩:=B3 h;obtain⟨t,X⟩:=cP.1 O
 have e:all.toList.take n=all.toList.take x++(all.toList.take n).drop x:=by
  have:=(List.take_append_drop x (all.toList.take n)).symm;rw[List.take_take,Nat.min_eq_left Z9] at this
  exact this
 have d:(all.toList.take n).drop x=o::(all.toList.take n).drop (x+1):=by
  have hl:x<(all.toList.take n).length:=by simp;omega
  rw[List.drop_eq_getElem_cons hl];simp[X]
 rw[e,b5u,d];simp only[xK,f];omega
theorem a08{fl:Bool}{all:Array Oper}{b x z:Nat}(h:B9 fl all x=true)(k:B9 fl all z=true)(e:x≠z):lL fl b all x≠lL fl b all z:=by
 unfold lL;rcases Nat.lt_or_gt_of_ne e with hl|hl
 ·have:=jA h hl;omega
 ·have:=jA k hl;omega
section
variable {c:Ctx} {P:Program} {G:I5} {all:Array Oper} {b:Nat} {H0:Y4} {s0:W5} {S:Nat->St} {y:Nat->T} {p:Nat->D4} {m:Nat->Nat} {D:Nat->Prop}
theorem rG{E E':Env}{w w':World}{a:Act}{i:Nat}{o:Oper}(t:Trace P G c.nt all b H0 s0 S y p m)(hi:all[i]? =some o)(z:a.tmps.size=c.nt)(f:Stp E w E' w'){v:Value}
  (hv:(kC all y (p i)->Rd E' w' (y i) v)/\(¬kC all y (p i)->v=undef)) (h:∀u,b52 all s0 y p D E w a u) (u:Nat):b52 all s0 y p (λk=>D k∨k=i) E' w' (a.put o.dst v) u:=by
 have keep:(o.dst≠some u)->(a.put o.dst v).tmps.getD u undef=a.tmps.getD u undef:=by
  intro hne;cases hd:o.dst with
  |none=>rfl
  |some d=>
   have e:=(t.step i o hi).dst;rw[hd] at e;rw[rM a d v u (by rw[z];exact zP e),if_neg (by rintro rfl;exact hne hd)]
 have new:o.dst=some u->(a.put o.dst v).tmps.getD u undef=v:=by
  intro hd;have e:=(t.step i o hi).dst;rw[hd] at e ⊢;rw[rM a u v u (by rw[z];exact zP e),if_pos rfl]
 refine⟨λj O hj hd J=>?_,λhno=>?_⟩
 ·by_cases hji:j=i
  ·subst hji;rw[hj] at hi;simp only[X2] at hi;subst hi;rw[new hd];exact hv
  ·have hne:o.dst≠some u:=λhe=>hji (t.distinct hj hi hd he)
   rw[keep hne];obtain⟨l,g⟩:=(h u).1 j O hj hd (J.resolve_right hji);exact⟨λhp=>f.rd (l hp),g⟩
 ·have hne:o.dst≠some u:=λhe=>hno i o hi he (.inr rfl)
  rw[keep hne];exact f.rd ((h u).2 λj O hj hd J=>hno j O hj hd (.inl J))
theorem a7P{x:Nat}(h:B9 (O8 G) all x=true):eQ G all x:=by
 obtain⟨o,O,t⟩:=B3 h;exact⟨o,O,(mR t).1⟩
theorem b26(t:Trace P G c.nt all b H0 s0 S y p m){e:Nat}{H:Y4}(he:e<all.size)(hd:eQ G all e->D e/\B9 (O8 G) all e=true)(h:a3b G all b H0 S D e H):a3b G all b H0 S D (e+1) H:=by
 obtain⟨i,f,h3⟩:=h;by_cases hm:eQ G all e
 ·obtain⟨hDe,hal⟩:=hd hm;obtain⟨o,ho,ht0⟩:=B3 hal;obtain⟨H',_,hev,hh,_⟩:=(t.step e o ho).al ht0;obtain⟨_,hr,_,e1⟩:=nB hev;have e2:HH H0 S (e+1)=H':=by simp only[HH,hh,A6]
  have j:A6 H0 (S e).hist=HH H0 S e:=rfl;rw[j] at e1 hr;refine⟨by rw[e2,e1,yT];exact i,λx hx=>f x Z9,λk g=>?_⟩
  by_cases hkr:k=lL (O8 G) b all e
  ·rw[hkr];exact f e (V8 e) hal hDe
  ·rw[e2,e1,T9 hr,if_neg hkr];refine h3 k λx hx ha hDx=>?_
   by_cases d:x=e
   ·rw[d];exact hkr
   ·exact g x Z9 ha hDx
 ·have hs:=t.hist_same (a:=e) (e+1) Z9 he (λx q1 q2 hx=>hm (by rwa [show e=x by omega]))
  have e2:HH H0 S (e+1)=HH H0 S e:=by simp only[HH,hs]
  refine⟨by rw[e2];exact i,λx hx=>f x Z9,λk g=>?_⟩
  rw[e2];refine h3 k λx hx ha hDx=>?_
  by_cases d:x=e
  ·exact absurd (d▸a7P ha) hm
  ·exact g x Z9 ha hDx
theorem a2n(t:Trace P G c.nt all b H0 s0 S y p m){e:Nat}{H:Y4}:∀{q:Nat},e<=q->q<=all.size->(∀x,e<=x->x<q->eQ G all x->D x/\B9 (O8 G) all x=true)->a3b G all b H0 S D e H->a3b G all b H0 S D q H:=by
 intro q;induction q with
 |zero=>intro h _ _ r;rw[Nat.le_zero.1 h] at r;exact r
 |succ q i=>
  intro h Q hd r;by_cases d:e=q+1
  ·rw[←d];exact r
  ·exact b26 t Z9 (hd q Z9 Z9) (i Z9 Z9 (λx f g=>hd x f Z9) r)
theorem c1u(t:Trace P G c.nt all b H0 s0 S y p m){e:Nat}(he:e<all.size)(hd:eQ G all e->B9 (O8 G) all e=true)(h:NR G all b H0 S e):NR G all b H0 S (e+1):=by
 intro x hx A;have d:=h x Z9 A
 by_cases hm:eQ G all e
 ·have hal:=hd hm;obtain⟨o,ho,ht0⟩:=B3 hal;obtain⟨H',_,hev,hh,_⟩:=(t.step e o ho).al ht0;obtain⟨_,hr,_,e1⟩:=nB hev;have e2:HH H0 S (e+1)=H':=by simp only[HH,hh,A6]
  have f:A6 H0 (S e).hist=HH H0 S e:=rfl;rw[f] at e1 hr;rw[e2,e1,T9 hr,if_neg (a08 A hal Z9)]
  exact d
 ·have hs:=t.hist_same (a:=e) (e+1) Z9 he (λx q1 q2 hx=>hm (by rwa [show e=x by omega]))
  have e2:HH H0 S (e+1)=HH H0 S e:=by simp only[HH,hs]
  rw[e2];exact d
theorem c1A(t:Trace P G c.nt all b H0 s0 S y p m){e:Nat}:∀{q:Nat},e<=q->q<=all.size->(∀x,e<=x->x<q->eQ G all x->B9 (O8 G) all x=true)->NR G all b H0 S e->NR G all b H0 S q:=by
 intro q;induction q with
 |zero=>intro h _ _ r;rw[Nat.le_zero.1 h] at r;exact r
 |succ q i=>
  intro h Q hd r;by_cases d:e=q+1
  ·rw[←d];exact r
  ·exact c1u t Z9 (hd q Z9 Z9) (i Z9 Z9 (λx f g=>hd x f Z9) r)
theorem fW{e:Nat}{H:Y4}(n:NR G all b H0 S e)(h:a3b G all b H0 S D e H):E5 (HH H0 S e) H:=by
 intro k ob d;by_cases hx:∃x,e<=x/\B9 (O8 G) all x=true/\D x/\k=lL (O8 G) b all x
 ·obtain⟨x,X,A,f,rfl⟩:=hx;rw[n x X A] at d;cases d
 ·rw[h.2.2 k λx h1 h2 h3 he=>hx ⟨x,h1,h2,h3,he⟩]
  exact d
theorem z8:∀{ks:List Nat} {os:List (Option Ob)} {A:Y4},(M5 A ks os).length=A.length
 | [],os,A=>by cases os<;>rfl
 |j::ks,[],A=>rfl
 |j::ks,o::os,A=>by
  show(M5 (A.set j o) ks os).length=_;rw[z8,yT]
theorem a0D{k:Nat}:∀{ks:List Nat} {os:List (Option Ob)} {A B:Y4},A.length=B.length->Z1 A k=Z1 B k->Z1 (M5 A ks os) k=Z1 (M5 B ks os) k
 | [],os,A,B,_,h=>by cases os<;>exact h
 |j::ks,[],A,B,_,h=>h
 |j::ks,o::os,A,B,hl,h=>by
  show Z1 (M5 (A.set j o) ks os) k=Z1 (M5 (B.set j o) ks os) k;refine a0D (by rw[yT,yT,hl]) ?_
  by_cases J:j<A.length
  ·rw[T9 J,T9 (hl▸J),h]
  ·rw[List.set_eq_of_length_le Z9,List.set_eq_of_length_le Z9,h]
theorem b9P(t:Trace P G c.nt all b H0 s0 S y p m)(hG:C6 P G)(cw:∀x ∈ G,Q2 P x.1)(ar:Cl all D){i:Nat}{o:Oper}(hi:all[i]? =some o)(Y:¬D i)
  (cc:∀e ∈ o.after.toList,Region.binds .any e=true->D e.on) {a:Act} {w:World} (hr:RD c G all b H0 s0 S y p D a w) {K:Act->World->Prop} {Q:Exit->Act->World->Prop}
  (hK:∀a' w',RD c G all b H0 s0 S y p (λk=>D k∨k=i) a' w'->K a' w'):wpOp P all Q i K a w:=by
 obtain⟨bc,ae,E,e,H,hen,hA,hB,hR,ah,hI,ac,ad,hsl⟩:=hr;have ag:=t.step i o hi;have hilt:i<all.size:=(cP.1 hi).1
 have n:∀(v:Value),(a.put o.dst v).defers=[]/\(a.put o.dst v).tmps.size=c.nt:=by
  intro v;cases o.dst with
  |none=>exact⟨bc,ae⟩
  |some d=>exact⟨bc,by simp[Act.put,ae]⟩
 have hmask:=t.mask_done ar i o hi cc;have C:∀j oj,all[j]? =some oj->i<j->Nat.testBit (m j) i=true->¬D j:=λj oj hj cv hb hDj=>
  Y (t.mask_done ar j oj hj (λe he bj=>ar j oj hDj hj e he bj) i hb)
 have aa:∀u,u ∈ oN all o->(I4 (S i).s (S5 (S i).ps u)->Rd E w (zY (S i).s u) (a.tmps.getD u undef))/\(¬I4 (S i).s (S5 (S i).ps u)->a.tmps.getD u undef=undef):=by
  intro u hu;rcases fJ all u i with⟨j,oj,bl,hj,hd⟩|hno
  ·have hpr:=t.pair i o j oj hi hj bl;have hb:Nat.testBit (m i) j=true:=by
    unfold q8 at hpr;rw[hd,a2Y hu] at hpr
    simpa using And.right a8M
   obtain⟨e1,e2⟩:=t.slot_some hj hd i bl (Nat.le_of_lt hilt);rw[e1,e2];have co:∀z ∈ p j,∃k o',k<i/\all[k]? =some o'/\o'.dst=some z.1:=λz hz=>by
    obtain⟨k,o',I,bh,ci⟩:=t.path_lt j oj hj z hz;exact⟨k,o',Z9,bh,ci⟩
   rw[t.pathV (Nat.le_of_lt hilt) co];exact(hsl u).1 j oj hj hd (hmask j hb)
  ·obtain⟨e1,e2⟩:=t.slot_none u i (Nat.le_of_lt hilt) hno;rw[e1,e2];refine⟨λ_=>(hsl u).2 λj oj hj hd hDj=>?_,λhn=>absurd (λq hq=>wO) hn⟩
   rcases Nat.lt_trichotomy j i with h|h|h
   ·exact hno j oj h hj hd
   ·subst h;exact Y hDj
   ·have hpr:=t.pair j oj i o hj hi h;have hb:Nat.testBit (m j) i=true:=by
     unfold q8 at hpr;rw[hd,a2Y hu] at hpr
     simpa using And.right a8M
    exact C j oj hj h hb hDj
 have bz:∀u,Operand.tmp u ∈ o.op.operands.toList->u ∈ oN all o:=by
  intro u hu;unfold oN;split
  ·exact pD hu
  ·split
   ·exact List.mem_cons_of_mem _ (pD hu)
   ·exact pD hu
 have hxt:E5 (HH H0 S e) H:=fW ah hR;have ao:stays G o.op=true->∃G' H' side,Good P G G'/\A5 P G' (S i).s H o.op=some (y i,H',side)/\H'=H/\(I4 (S i).s (p i)->side.getD True):=by
  intro l;obtain⟨_,G',H',side,hGG,V,f⟩:=ag.reader l;by_cases aq:pureB o.op=true
  ·exact⟨G',_,side,hGG,b25 aq V,rfl,f⟩
  have aq:pureB o.op=false:=Bool.eq_false_iff.2 aq;obtain⟨q,hq,he,hno,bi⟩:=t.hist_at (m i) i (Nat.le_of_lt hilt);rw[he] at V;have O:∀x,x<q->eQ G all x->D x:=by
   intro x hx cl;obtain⟨ox,hox,hsx⟩:=cl;rcases bi with rfl|⟨x0,rfl,⟨o0,ho0,hs0⟩,hal0,hb0⟩
   ·omega
   ·have hD0:=hmask x0 hb0;by_cases hxx:x=x0
    ·subst hxx;exact hD0
    ·have hpr:=t.pair x0 o0 x ox ho0 hox Z9
     have hb:Nat.testBit (m x0) x=true:=by
      unfold q8 at hpr;rw[dL ho0] at hal0;rw[hsx,hs0,hal0] at hpr
      simpa using And.right a8M
     exact t.mask_done ar x0 o0 ho0 (λe he bj=>ar x0 o0 hD0 ho0 e he bj) x hb
  have bb:∀x ox,q<=x->x<e->all[x]? =some ox->stays G ox.op=false->(yO G ox.op=true∨q7 (O8 G) ox=true)∨disjB (a0k (S i).s o.op) (uD (HH H0 S x) (S x).s ox.op)=true:=by
   intro x ox h1 h2 hox hsx;have X:=hA x ⟨ox,hox,hsx⟩ h2;rcases Nat.lt_trichotomy x i with h|h|h
   ·rcases hno x h1 h ⟨ox,hox,hsx⟩ with hb|hal
    ·have hpr:=t.pair i o x ox hi hox h;unfold q8 pN at hpr;rw[hb,hsx,l,aq] at hpr;simp only[Bool.false_or,Bool.or_false,O4,tB] at hpr;exact hpr.2.2.imp .inl id
    ·rw[dL hox] at hal;exact .inl (.inr hal)
   ·subst h;exact absurd X Y
   ·have hpr:=t.pair x ox i o hox hi h;unfold q8 pN at hpr;cases hb:Nat.testBit (m x) i with
    |true=>exact absurd X (C x ox hox h hb)
    |false=>
     rw[hb,hsx,l,aq] at hpr;simp only[Bool.false_or,Bool.or_false,O4,tB] at hpr;exact hpr.2.2.imp .inl id
  have am:e<=q->E5 (HH H0 S q) H:=λbw=>
   fW (c1A t bw Z9 (λx h1 h2 hx=>hB x hx (O x h2 hx) h1) ah) (a2n t bw Z9 (λx h1 h2 hx=>⟨O x h2 hx,hB x hx (O x h2 hx) h1⟩) hR)
  cases Z:a0k (S i).s o.op with
  |none=>
   have ak:E5 (HH H0 S q) H:=by
    rcases Nat.le_total q e with hqe|hqe
    ·refine(t.hist_ext e hqe hen λx ox h1 h2 hox hsx=>?_).trans hxt
     rcases bb x ox h1 h2 hox hsx with h|h
     ·exact h
     ·rw[Z] at h;cases h
    ·exact am hqe
   exact⟨G',_,side,hGG,b6r ak (by rw[hGG.stays];exact l) V,rfl,f⟩
  |some R=>
   have ak:aG R (HH H0 S q) H:=by
    rcases Nat.le_total q e with hqe|hqe
    ·have h0:aG R (HH H0 S q) (HH H0 S e):=t.hist_extOn e hqe hen λx ox h1 h2 hox hsx=>by
      have:=bb x ox h1 h2 hox hsx;rw[Z] at this;exact this
     exact λk I ob hob=>hxt k ob (h0 k I ob hob)
    ·exact λk _ ob hob=>am hqe k ob hob
   exact⟨G',_,side,hGG,b6J Z (by rw[hGG.stays];exact l) ak V,rfl,f⟩
 have cq:stays G o.op=false->eQ G all i:=λl=>⟨o,hi,l⟩
 have U:stays G o.op=false->e<=i:=λl=>by
  rcases Nat.lt_or_ge i e with h|h
  ·exact absurd (hA i (cq l) h) Y
  ·exact h
 have ap:stays G o.op=false->q7 (O8 G) o=false->∃G' side H',Good P G G'/\A5 P G' (S i).s H o.op=some (y i,H',side)/\side.getD True/\(∀x,eQ G all x->x<i+1->D x∨x=i)/\(∀x,eQ G all x->(D x∨x=i)->i+1<=x->B9 (O8 G) all x=true)/\a3b G all b H0 S (λk=>D k∨k=i) (i+1) H'/\(∀x,i+1<=x->B9 (O8 G) all x=true->D x->Z1 (HH H0 S (i+1)) (lL (O8 G) b all x)=none):=by
  intro l bs;obtain⟨G',H',side,hGG,V,hh,f⟩:=ag.writer l bs;have bu:=bs;have ab:∀x,eQ G all x->x<i->D x:=by
   intro x hx hxi;obtain⟨ox,hox,hsx⟩:=hx;have hpr:=t.pair i o x ox hi hox hxi;have hb:Nat.testBit (m i) x=true:=by
    unfold q8 at hpr;rw[hsx,l,bu] at hpr
    simpa using And.right a8M
   exact hmask x hb
  have U:=U l;have bg:a3b G all b H0 S D i H:=a2n t U (Nat.le_of_lt hilt) (λx h1 h2 hx=>⟨ab x hx h2,hB x hx (ab x hx h2) h1⟩) hR
  have bm:NR G all b H0 S i:=c1A t U (Nat.le_of_lt hilt) (λx h1 h2 hx=>hB x hx (ab x hx h2) h1) ah
  have cm:∀x,eQ G all x->D x->i<=x->B9 (O8 G) all x=true:=λx hx hd au=>hB x hx hd Z9
  have h1:A6 H0 (S i).hist=HH H0 S i:=rfl;have h2:HH H0 S (i+1)=H':=by simp only[HH,hh,A6]
  rw[h1] at V;have ba:∀x,eQ G all x->x<i+1->D x∨x=i:=λx hx F=>by
   by_cases hxi:x=i
   ·exact .inr hxi
   ·exact .inl (ab x hx Z9)
  have az:∀x,eQ G all x->(D x∨x=i)->i+1<=x->B9 (O8 G) all x=true:=λx hx bi au=>cm x hx (bi.resolve_right Z9) Z9
  by_cases J:∃x,i<x/\B9 (O8 G) all x=true/\D x
  ·obtain⟨x,au,cn,X⟩:=J;obtain⟨ox,hox,ce⟩:=B3 cn;have hfl:floatB G o.op=true∨(b1H G o.op=true/\(uD (HH H0 S i) (S i).s o.op).isSome=true):=by
    have hpr:=t.pair x ox i o hox hi au;have hb:Nat.testBit (m x) i=false:=by
     cases hb:Nat.testBit (m x) i with
     |false=>rfl
     |true=>exact absurd X (C x ox hox au hb)
    unfold q8 at hpr;rw[hb,l,(mR ce).1,bu] at hpr;simp only[Bool.false_or,O4,tB] at hpr;exact hpr.2.2.2
   have bf:∃ks os an,H'=M5 (HH H0 S i) ks os++an/\(∀k ∈ ks,∃ob,Z1 (HH H0 S i) k=some ob)/\∀H2:Y4,H2.length=(HH H0 S i).length->E5 (HH H0 S i) H2->A5 P G' (S i).s H2 o.op=some (y i,M5 H2 ks os++an,side):=by
    rcases hfl with hfl|⟨hf,hw⟩
    ·have hfl':floatB G' o.op=true:=by unfold floatB at hfl ⊢;rw[hGG.grow];exact hfl
     obtain⟨os,e1,e2⟩:=c1c hfl' V;exact⟨[],[],os,e1,λk I=>absurd I j_h,e2⟩
    ·have cf:b1H G' o.op=true:=by
      unfold b1H at hf ⊢;split at hf
      ·rw[hGG.ef];exact hf
      ·cases hf
     obtain⟨W,hW⟩:=Option.isSome_iff_exists.1 hw;exact b7V cf hW V
   obtain⟨ks,os,an,e1,e0,e2⟩:=bf;rw[e1] at h2;have hnk:∀x',i+1<=x'->B9 (O8 G) all x'=true->lL (O8 G) b all x' ∉ ks:=λx' hx' ha' I=>by
    obtain⟨ob,hob⟩:=e0 _ I;rw[bm x' Z9 ha'] at hob
    cases hob
   obtain⟨r1,r2,r3⟩:=bg;have hsome:∀x',i+1<=x'->B9 (O8 G) all x'=true->D x'->∃ob,Z1 H (lL (O8 G) b all x')=some ob:=λx' hx' ha' hD'=>by
    have:=r2 x' Z9 ha' hD'
    obtain⟨o',bh,ch⟩:=B3 ha';obtain⟨H2,_,bt,cp,_⟩:=(t.step x' o' bh).al ch;obtain⟨_,hr,_,e3⟩:=nB bt;have e4:HH H0 S (x'+1)=H2:=by simp only[HH,cp,A6]
    rw[e4,e3,T9 hr,if_pos rfl] at this;exact⟨_,this⟩
   have hleft:∀(A:Y4) (k:Nat),k<A.length->Z1 (M5 A ks os++an) k=Z1 (M5 A ks os) k:=λA k I=>by
    unfold Z1;rw[uW (by rw[z8];exact I)]
   refine⟨G',side,M5 H ks os++an,hGG,e2 H r1 (fW bm ⟨r1,r2,r3⟩),f,ba,az,⟨by rw[h2,K2,K2,z8,z8,r1],λx' hx' ha' hD'=>?_,λk I=>?_⟩,λx' hx' ha' hD'=>?_⟩
   ·have hDx':D x':=hD'.resolve_right Z9
    obtain⟨ob,hob⟩:=hsome x' hx' ha' hDx';rw[hleft H _ (H3 hob),wP (hnk x' hx' ha')];exact r2 x' Z9 ha' hDx'
   ·have:=r3 k λx' hx' ha' hDx'=>by
     by_cases hxi:x'=i
     ·exact absurd (hxi▸hDx') Y
     ·exact I x' Z9 ha' (.inl hDx')
    rw[h2];by_cases hkl:k<H.length
    ·rw[hleft H k hkl,hleft (HH H0 S i) k (by rw[←r1];exact hkl)]
     exact a0D r1 this
    ·unfold Z1;rw[tG (by rw[z8];omega),tG (by rw[z8,←r1];omega),z8,z8,r1]
   ·obtain⟨ob,hob⟩:=hsome x' hx' ha' hD';rw[h2,hleft (HH H0 S i) _ (by rw[←r1];exact H3 hob),wP (hnk x' hx' ha')]
    exact bm x' Z9 ha'
  ·have hH:H=HH H0 S i:=a4R bg.1 λk=>bg.2.2 k λx hx ha X=>by
    by_cases hxi:x=i
    ·exact absurd (hxi▸X) Y
    ·exact absurd ⟨x,Z9,ha,X⟩ J
   refine⟨G',side,H',hGG,by rw[hH];exact V,f,ba,az,⟨by rw[h2],λx hx ha hD=>?_,λk _=>by rw[h2]⟩,λx hx ha hD=>absurd ⟨x,Z9,ha,hD⟩ J⟩
   exact absurd ⟨x,Z9,ha,hD.resolve_right Z9⟩ J
 have aw:I4 (S i).s (p i)↔kC all y (p i):=t.pathV (Nat.le_of_lt hilt) λz hz=>t.path_lt i o hi z hz
 have run:kC all y (p i)->o.wp P a w K Q:=by
  intro N;have M:=aw.2 N;obtain⟨bn,cb⟩:=b3b (E:=E) (w:=w) (a:=a) (λu hu=>(aa u (bz u hu)).1) M ag.paths
  have aj:∀{x:Nat},stays G o.op=true->eQ G all x->x≠i:=λ{x} l hx=>by
   rintro rfl;obtain⟨ox,hox,hsx⟩:=hx;rw[hi] at hox;simp only[X2] at hox;subst hox;rw[l] at hsx;cases hsx
  have hL':∀{E':Env} {w':World},Step E w E' w'->∀x,B9 (O8 G) all x=true->¬D x->¬E'.L (lL (O8 G) b all x):=λ{E' w'} bk x ha B hL=>by
   obtain⟨j,hj,F⟩:=ad x ha;rcases bk.nl _ hL with h1|h1
   ·exact ac x ha B h1
   ·have:=h1 j hj;omega
  have bo:∀{E':Env} {w':World},Stp E w E' w'->∀x,B9 (O8 G) all x=true->∃j,E'.L j/\lL (O8 G) b all x<j:=λbk x ha=>by
   obtain⟨j,hj,F⟩:=ad x ha;exact⟨j,bk.le.L j hj,F⟩
  cases l:stays G o.op with
  |true=>
   obtain⟨G',H',side,hGG,V,rfl,f⟩:=ao l;refine a4T hGG.ok hGG.call hI V (f M) bn cb λv w' E' ax hst' Z=>hK _ _ ⟨(n v).1,(n v).2,E',e,_,hen,λx hx F=>.inl (hA x hx F),λx hx hd=>hB x hx (hd.resolve_right (aj l hx)),⟨hR.1,λx hx ha hd=>hR.2.1 x hx ha (hd.resolve_right (aj l (a7P ha))),λk I=>hR.2.2 k λx hx ha hd=>I x hx ha (.inl hd)⟩,ah,ax,λx ha B=>hL' hst' x ha λhd=>B (.inl hd),bo hst'.stp,rG t hi ae hst'.stp ⟨λ_=>Z,λhn=>absurd N hn⟩ hsl⟩
  |false=>
   cases hal:q7 (O8 G) o with
   |false=>
    obtain⟨G',side,H',hGG,V,f,ba,az,bq,ca⟩:=ap l hal;refine a4T hGG.ok hGG.call hI V f bn cb λv w' E' ax hst' Z=>?_
    have cs:NR G all b H0 S (i+1):=λx hx ha=>by
     by_cases hD:D x
     ·exact ca x hx ha hD
     ·have hnL:=hL' hst' x ha (λhd=>hD hd)
      have hxi:x≠i:=Z9
      rw[←bq.2.2 (lL (O8 G) b all x) λx' hx' ha' hD' he=>by
       have hDx':D x':=hD'.resolve_right Z9
       exact a08 ha ha' (λh=>hD (h▸hDx')) he]
      cases I:Z1 H' (lL (O8 G) b all x) with
      |none=>rfl
      |some ob=>exact absurd (ax.heap.live _ ob I).1 hnL
    exact hK _ _ ⟨(n v).1,(n v).2,E',i+1,H',hilt,ba,az,bq,cs,ax,λx ha B=>hL' hst' x ha λhd=>B (.inl hd),bo hst'.stp,rG t hi ae hst'.stp ⟨λ_=>Z,λhn=>absurd N hn⟩ hsl⟩
   |true=>
    obtain⟨H1,side,V,hh,cj⟩:=ag.al hal;obtain⟨_,ck,_⟩:=nB V;have af:B9 (O8 G) all i=true:=by rw[dL hi];exact hal
    obtain⟨j,hj,cu⟩:=ad i af;have av:lL (O8 G) b all i<H.length:=by have:=hI.heap.lt j hj;omega
    have U:=U l;have e2:HH H0 S (i+1)=H1:=by simp only[HH,hh,A6]
    obtain⟨v,w',E',ob,e1,bx,g1,g2,g3,g4⟩:=c3b hI V cj av (ac i af Y) bn;refine i4 (w':=w') (v:=v) bx (hK _ _ ⟨(n _).1,(n _).2,E',e,_,hen,λx hx F=>.inl (hA x hx F),λx hx hd ct=>?_,⟨by rw[yT];exact hR.1,λx hx ha hd=>?_,λk I=>?_⟩,ah,g1,λx ha B hL=>?_,bo g2,rG t hi ae g2 ⟨λ_=>g3,λhn=>absurd N hn⟩ hsl⟩)
    ·rcases hd with hd|rfl
     ·exact hB x hx hd ct
     ·exact af
    ·by_cases hxi:x=i
     ·subst hxi;rw[T9 av,if_pos rfl,e2,e1,T9 ck,if_pos rfl]
     ·rw[T9 av,if_neg (a08 ha af hxi)];exact hR.2.1 x hx ha (hd.resolve_right hxi)
    ·have cd:=I i U af (.inr rfl);rw[T9 av,if_neg cd];exact hR.2.2 k λx hx ha hd=>I x hx ha (.inl hd)
    ·rcases g4 _ hL with h1|h1
     ·exact ac x ha (λhd=>B (.inl hd)) h1
     ·exact a08 ha af (λhxi=>B (.inr hxi)) h1
 have skip:¬kC all y (p i)->stays G o.op=true->K (a.put o.dst undef) w:=by
  intro hn l;have aj:∀{x:Nat},eQ G all x->x≠i:=λ{x} hx=>by
   rintro rfl;obtain⟨ox,hox,hsx⟩:=hx;rw[hi] at hox;simp only[X2] at hox;subst hox;rw[l] at hsx;cases hsx
  exact hK _ _ ⟨(n _).1,(n _).2,E,e,H,hen,λx hx F=>.inl (hA x hx F),λx hx hd=>hB x hx (hd.resolve_right (aj hx)),⟨hR.1,λx hx ha hd=>hR.2.1 x hx ha (hd.resolve_right (aj (a7P ha))),λk I=>hR.2.2 k λx hx ha hd=>I x hx ha (.inl hd)⟩,ah,hI,λx ha B=>ac x ha λhd=>B (.inl hd),ad,rG t hi ae (Step.refl E w).stp ⟨λhp=>absurd hp hn,λ_=>rfl⟩ hsl⟩
 unfold wpOp;simp only[hi];cases hg:o.guard with
 |none=>
  have hw:Region.wanted o (yielded all a.tmps)=true:=by simp[Region.wanted,hg]
  rw[if_pos hw];refine .inl (run ?_)
  rw[(ag.plain hg).1];exact λz hz=>by cases hz
 |some gw=>
  obtain⟨j,ai⟩:=gw;obtain⟨g,x,bp,hx,bl,hp,_,l,_⟩:=ag.guarded j ai hg;have bv:g ∈ oN all o:=by
   unfold oN;rw[hg];simp only[bp];exact List.mem_cons_self
  have hy:yielded all a.tmps j=match a.tmps[g]? with|some (.bool b)=>some b|_=>none:=by
   unfold yielded;rw[bp];rfl
  by_cases ay:I4 (S i).s (S5 (S i).ps g)
  ·have hv:=(aa g bv).1 ay;rw[hx] at hv;have r:=u5 hv;have cr:a.tmps[g]? =some (.bool x):=by
    rw[Array.getD_eq_getD_getElem?] at r;cases hq:a.tmps[g]? with
    |none=>rw[hq] at r;simp[undef] at r
    |some z=>rw[hq] at r;simp at r;rw[r]
   have hyl:yielded all a.tmps j=some x:=by rw[hy,cr]
   by_cases hxw:x=ai
   ·have hw:Region.wanted o (yielded all a.tmps)=true:=by simp[Region.wanted,hg,hyl,hxw]
    rw[if_pos hw];refine .inl (run (aw.1 ?_))
    rw[hp];intro q hq;rcases vT.1 hq with rfl|hq
    ·exact⟨x,hx,hxw⟩
    ·exact ay q hq
   ·have hw:¬Region.wanted o (yielded all a.tmps)=true:=by simp[Region.wanted,hg,hyl,hxw]
    rw[if_neg hw];refine skip (λN=>?_) l
    have M:=aw.2 N;rw[hp] at M;obtain⟨x',hx',cg⟩:=M (g,ai) W8
    rw[hx] at hx';cases hx';exact hxw cg
  ·have r:=(aa g bv).2 ay;have hyl:yielded all a.tmps j=none:=by
    rw[hy];rw[Array.getD_eq_getD_getElem?] at r;cases hq:a.tmps[g]? with
    |none=>rfl
    |some z=>rw[hq] at r;simp at r;rw[r];rfl
   have hw:¬Region.wanted o (yielded all a.tmps)=true:=by simp[Region.wanted,hg,hyl]
   rw[if_neg hw];refine skip (λN=>ay ?_) l
   have M:=aw.2 N;rw[hp] at M;exact λq hq=>M q (by simp[hq])
end
def xU(n:Nat)(l:Array Bool):List Nat:=(List.range n).filter λk=> !l.getD k false
theorem a0m{n i:Nat}{listed:Array Bool}(hi:i<n)(hs:listed.size=n)(h:listed.getD i false=false):(xU n (listed.setIfInBounds i true)).length<(xU n listed).length:=by
 have B:∀k,(!(listed.setIfInBounds i true).getD k false)=true->(!listed.getD k false)=true:=by
  intro k e;by_cases I:i=k
  ·subst I;simp[h]
  ·rwa [getD_set_ne false I] at e
 have key:∀l:List Nat,(l.filter λk=> !(listed.setIfInBounds i true).getD k false).length<=(l.filter λk=> !listed.getD k false).length/\(i ∈ l->(l.filter λk=> !(listed.setIfInBounds i true).getD k false).length<(l.filter λk=> !listed.getD k false).length):=by
  intro l;induction l with
  |nil=>exact⟨V8 _,λh=>J6⟩
  |cons x l f=>
   obtain⟨g,d⟩:=f;simp only[List.filter_cons];by_cases hxi:x=i
   ·subst hxi;have e1:(!(listed.setIfInBounds x true).getD x false)=false:=by simp[hs,hi]
    rw[e1,h];simp only[Bool.false_eq_true,if_false,Bool.not_false,if_true,List.length_cons];exact⟨Z9,λ_=>Z9⟩
   ·rw[getD_set_ne false (Ne.symm hxi)];split
    ·simp only[List.length_cons];exact⟨Z9,λM=>by have:=d ((vT.1 M).resolve_left (Ne.symm hxi));omega⟩
    ·exact⟨g,λM=>d ((vT.1 M).resolve_left (Ne.symm hxi))⟩
 exact(key _).2 (List.mem_range.2 hi)
section
variable {c:Ctx} {P:Program} {G:I5} {all:Array Oper} {b:Nat} {H0:Y4} {s0:W5} {S:Nat->St} {y:Nat->T} {p:Nat->D4} {m:Nat->Nat}
theorem RD.congr{D D':Nat->Prop}(h:∀k,k<all.size->(D k↔D' k)){a:Act}{w:World}(R:RD c G all b H0 s0 S y p D a w):RD c G all b H0 s0 S y p D' a w:=by
 obtain⟨r,n,E,e,H,C,B,I,hR,N,v,z,F,i⟩:=R;have lt:∀{j:Nat} {o:Oper},all[j]? =some o->j<all.size:=λd=>(cP.1 d).1
 have L:∀{x:Nat},eQ G all x->x<all.size:=λhx=>by obtain⟨o,f,_⟩:=hx;exact lt f
 have l:∀{x:Nat},B9 (O8 G) all x=true->x<all.size:=λhx=>by obtain⟨o,f,_⟩:=B3 hx;exact lt f
 exact⟨r,n,E,e,H,C,λx hx t=>(h x (L hx)).1 (B x hx t),λx hx hd=>I x hx ((h x (L hx)).2 hd),
  ⟨hR.1,λx hx A hd=>hR.2.1 x hx A ((h x (l A)).2 hd),λk q=>hR.2.2 k λx hx A hd=>q x hx A ((h x (l A)).1 hd)⟩,N,v,λx A g=>z x A λhd=>g ((h x (l A)).1 hd),F,
  λu=>⟨λj o d hd J=>(i u).1 j o d hd ((h j (lt d)).2 J),λO=>(i u).2 λj o d hd J=>O j o d hd ((h j (lt d)).1 J)⟩⟩
theorem c5F(t:Trace P G c.nt all b H0 s0 S y p m)(W:C6 P G)(N:∀x ∈ G,Q2 P x.1){Q:Exit->Act->World->Prop}(R:∀A w',RD c G all b H0 s0 S y p (λ_=>True) A w'->Q .normal A w'):
  ∀(f:Nat) (listed:Array Bool) (a:Act) (w:World),listed.size=all.size->(xU all.size listed).length<=f->Cl all (λk=>listed.getD k false=true)->RD c G all b H0 s0 S y p (λk=>listed.getD k false=true) a w->
   wpAny P .any all Q f listed a w:=by
 have F:∀(listed:Array Bool) (a:Act) (w:World),listed.size=all.size->Cl all (λk=>listed.getD k false=true)->RD c G all b H0 s0 S y p (λk=>listed.getD k false=true) a w->Region.ready .any all listed=[]->Q .normal a w:=by
  intro listed a w q L r l;refine R a w (r.congr λk U=>⟨λ_=>trivial,λ_=>?_⟩)
  induction k using Nat.strongRecOn with
  |_ k O=>
   cases B:listed.getD k false with
   |true=>rfl
   |false=>
    have ho:=uJ U
    have M:k ∈ Region.ready .any all listed:=by
     refine mem_ready.2 ⟨?_,_,ho,λe he hbd=>?_⟩
     ·have hlt:k<listed.size:=by omega
      simp only[Array.getD_eq_getD_getElem?,uJ hlt,Option.getD_some] at B ⊢
      exact B
     ·have hlt:=t.edge k _ ho e a0d hbd
      exact O e.on hlt Z9
    rw[l] at M;cases M
 intro f;induction f with
 |zero=>
  intro listed a w q V L r;have l:Region.ready .any all listed=[]:=by
   cases hl:Region.ready .any all listed with
   |nil=>rfl
   |cons x xs=>
    have hx:x ∈ Region.ready .any all listed:=by rw[hl];simp
    obtain⟨u,o,ho,_⟩:=mem_ready.1 hx;have hlt:x<all.size:=(cP.1 ho).1
    have M:x ∈ xU all.size listed:=by
     unfold xU;rw[List.mem_filter,List.mem_range];refine⟨hlt,?_⟩
     have d:x<listed.size:=Z9
     simp only[Array.getD_eq_getD_getElem?,uJ d,Option.getD_some] at u ⊢
     simp[u]
    have:=List.length_pos_of_mem M;omega
  exact⟨l,F listed a w q L r l⟩
 |succ f O=>
  intro listed a w q V L r;refine⟨F listed a w q L r,λi hi=>?_⟩
  obtain⟨u,o,ho,n⟩:=mem_ready.1 hi;have hlt:i<all.size:=(cP.1 ho).1
  have v:listed.getD i false=false:=by
   have d:i<listed.size:=Z9
   simp only[Array.getD_eq_getD_getElem?,uJ d,Option.getD_some] at u ⊢
   exact u
  refine b9P t W N L ho (by rw[v];simp) (λe he B=>n e a0d B) r λA w' z=>?_
  have g:∀k,(listed.setIfInBounds i true).getD k false=true↔(listed.getD k false=true∨k=i):=by
   intro k;by_cases I:i=k
   ·subst I;simp[q,hlt]
   ·rw[getD_set_ne false I];exact⟨.inl,λh=>h.resolve_right (Ne.symm I)⟩
  refine O _ A w' (by simp[q]) (by have:=a0m hlt q v;omega) (λj X C J e he B=>?_) (z.congr λk _=>(g k).symm)
  refine(g e.on).2 ?_
  rcases(g j).1 C with h|rfl
  ·exact .inl (L j X h J e he B)
  ·rw[ho] at J;simp only[X2] at J;subst J;exact .inl (n e a0d B)
theorem b7X{E:Env}{H:Y4}{w:World}(h:Inv c E H w):Inv c E H {w with drawn:=w.drawn+1}:=by
 have e:Step E w E {w with drawn:=w.drawn+1}:=⟨Env.le.refl E,λ_ _=>rfl,λ_ h=>.inl h⟩
 exact⟨⟨λk ob d=>⟨(h.heap.live k ob d).1,(h.heap.live k ob d).2.1.mono (h.heap.live k ob d).1 e (λ_ _=>rfl),(h.heap.live k ob d).2.2⟩,h.heap.inj,h.heap.lt,h.heap.l2,h.heap.cur⟩,h.nlt,h.nnew,h.bnew,⟨h.fr.os,h.fr.tape,h.fr.output,h.fr.size,h.fr.block⟩,h.keep.step e⟩
theorem c0y{E:Env}{H:Y4}{w:World}(h:Inv c E H w)(n:Nat):Inv c E (H++List.replicate n none) w:=by
 have g:∀k ob,Z1 (H++List.replicate n none) k=some ob->Z1 H k=some ob:=λk ob hk=>by
  unfold Z1 at hk ⊢;by_cases t:k<H.length
  ·rwa [uW t] at hk
  ·rw[tG Z9,List.getElem?_replicate] at hk
   split at hk<;>simp at hk
 exact⟨⟨λk ob hk=>h.heap.live k ob (g k ob hk),λk k' o o' x hk d=>h.heap.inj k k' o o' x (g k o hk) (g k' o' d),λk hk=>by have:=h.heap.lt k hk;simp;omega,h.heap.l2,λk ob v hk=>h.heap.cur k ob v (g k ob hk)⟩,h.nlt,h.nnew,λk ob x hk=>h.bnew k ob x (g k ob hk),h.fr,h.keep⟩
theorem a0g{all:Array Oper}{x:Nat}(h:xK (O8 G) all.toList=0):B9 (O8 G) all x=false:=by
 cases A:B9 (O8 G) all x with
 |false=>rfl
 |true=>
  obtain⟨o,O,_⟩:=B3 A;have:=jA A (cP.1 O).1
  rw[show all.size=all.toList.length by simp,cH] at this
  omega
theorem b8P{all:Array Oper}{E:Env}{H:Y4}{w:World}(h:Inv c E H w):
  ∃E1,Inv c E1 (a0X H (xK (O8 G) all.toList)) w/\Stp E w E1 w/\(∀x,B9 (O8 G) all x=true->¬E1.L (lL (O8 G) H.length all x))/\∀x,B9 (O8 G) all x=true->∃j,E1.L j/\lL (O8 G) H.length all x<j:=by
 cases e:xK (O8 G) all.toList with
 |zero=>exact⟨E,h,(Step.refl E w).stp,λx A=>by(rw[a0g e] at A;cases A),λx A=>by(rw[a0g e] at A;cases A)⟩
 |succ n=>
  obtain⟨f,g⟩:=b0b (c0y h (n+1)) 0 1;have N:(H++List.replicate (n+1) (none:Option Ob)).length=H.length+(n+1):=W8
  have l:∀x,B9 (O8 G) all x=true->lL (O8 G) H.length all x<H.length+(n+1):=λx A=>by
   obtain⟨o,O,_⟩:=B3 A;have:=jA A (cP.1 O).1
   rw[show all.size=all.toList.length by simp,cH,e] at this
   unfold lL;omega
  refine⟨_,f,g.stp,λx A d=>?_,λx A=>⟨H.length+(n+1),.inr N.symm,l x A⟩⟩
  have:=l x A;rcases d with d|d
  ·have:=h.heap.lt _ d;unfold lL at this;omega
  ·rw[N] at d;omega
theorem a0A(I:C6 P G)(C:∀x ∈ G,Q2 P x.1){K:W5->Y4->Prop}{Q:Exit->Act->World->Prop}{s:W5}{H:Y4}(O:∀s' H' n w',K s' H'->jQ c s' H' n w'->Q .normal n w')
  {E:Env} {a:Act} {w:World} (h:tO P G c.nt all H.length (a0X H (xK (O8 G) all.toList)) all.toList 0 [] [] s [] [] K) (r:RealE c E s [] H a w):wpAny P .any all Q all.size (Array.replicate all.size false) a {w with drawn:=w.drawn+1}:=by
 obtain⟨S,y,p,m,f,J,_,d,hk⟩:=c6t I C all.toList 0 [] [] (λ_=>(none,none)) s [] [] rfl (O3 _) rfl (λk o hk=>Z9) h
 have t:Trace P G c.nt all H.length (a0X H (xK (O8 G) all.toList)) s S y p m:={
  start:=J
  step:=λk o ho=>(d k o (O3 _) ho).1
  edge:=λk o ho e he B=>by
   have:=i7.1 (d k o (O3 _) ho).2.1 e he;simp only[B,Bool.not_true,Bool.false_or] at this;exact zP this
  pair:=λk o k' o' ho l i=>by
   have h1:=(d k o (O3 _) ho).2.2.1;have h2:=(d k' o' (O3 _) l).2.2.1;have:=h1.2 k' o' i l;rw[h1.1,h2.1] at this;exact this
  mask:=λk o j ho B=>(d k o (O3 _) ho).2.2.2 j B}
 have M:=r.inv;refine c5F t I C (λn w' hrd=>?_) all.size _ a _ W8 (Nat.le_trans (List.length_filter_le _ _) W8) (λj o hD=>?_) ?_
 ·obtain⟨h1,h2,E',e,Hx,he,hA,hB,hR,_,hI,_,_,hsl⟩:=hrd;have hR':=a2n t he (V8 _) (λx q1 q2 hx=>⟨trivial,hB x hx trivial q1⟩) hR
  have V:Hx=HH (a0X H (xK (O8 G) all.toList)) S all.size:=a4R hR'.1 λk=>hR'.2.2 k λx hx A _=>by
   obtain⟨o,ho,_⟩:=B3 A;have:=(cP.1 ho).1
   omega
  refine O _ _ n w' hk ⟨E',h1,h2,⟨λu _=>?_,λu W=>absurd (λq v=>by cases v) W⟩,by rw[V] at hI;exact hI⟩
  rcases a3F (S all.size).s (S all.size).ps u with he'|⟨he',hp⟩
  ·rw[he'];exact .und _
  ·rw[he'];rcases fJ all u all.size with⟨j,o,hj,ho,hd⟩|hno
   ·obtain⟨X,R⟩:=t.slot_some ho hd all.size hj (V8 _);rw[X];rw[R] at hp;exact((hsl u).1 j o ho hd trivial).1 (by rw[hp];exact λz Z=>by cases Z)
   ·rw[(t.slot_none u all.size (V8 _) hno).1];exact(hsl u).2 λj o ho hd _=>hno j o (cP.1 ho).1 ho hd
 ·simp only[Array.getD_eq_getD_getElem?,Array.getElem?_replicate] at hD
  split at hD<;>simp at hD
 ·have g:∀k,¬ (Array.replicate all.size false).getD k false=true:=by
   intro k hD;simp only[Array.getD_eq_getD_getElem?,Array.getElem?_replicate] at hD
   split at hD<;>simp at hD
  obtain⟨E1,F,N,L,U⟩:=b8P (G:=G) (all:=all) r.inv;have hH0:HH (a0X H (xK (O8 G) all.toList)) S 0=a0X H (xK (O8 G) all.toList):=by simp[HH,J,A6]
  refine⟨r.defers,r.size,E1,0,a0X H (xK (O8 G) all.toList),O3 _,λx _ i=>Z9,λx _ hD=>absurd hD (g x),⟨by rw[hH0],λx _ _ hD=>absurd hD (g x),λk _=>by rw[hH0]⟩,λx _ A=>?_,b7X F,λx A _=>L x A,U,λu=>⟨λj o _ _ hD=>absurd hD (g j),λ_=>?_⟩⟩
  ·rw[hH0];cases hk:Z1 (a0X H (xK (O8 G) all.toList)) (lL (O8 G) H.length all x) with
   |none=>rfl
   |some ob=>exact absurd (F.heap.live _ ob hk).1 (L x A)
  ·exact Rd.mono (w:=w) (w':={w with drawn:=w.drawn+1}) N.le (λ_ _=>rfl) (r.slots.on u (λq v=>by cases v))
end
def a4b(ops:Array Oper):Array Bool->List Nat->Prop
 |listed,[]=>Region.ready .any ops listed=[]
 |listed,k::L=>k ∈ Region.ready .any ops listed/\a4b ops (listed.setIfInBounds k true) L
theorem oO{ops:Array Oper}{l:Array Bool}(f:l.size=ops.size)(u:(xU ops.size l).length<=0):Region.ready .any ops l=[]:=by
 cases hl:Region.ready .any ops l with
 |nil=>rfl
 |cons x xs=>
  have hx:x ∈ Region.ready .any ops l:=by rw[hl];simp
  obtain⟨e,o,O,_⟩:=mem_ready.1 hx;have t:x<ops.size:=(cP.1 O).1
  have h:x ∈ xU ops.size l:=by
   unfold xU;rw[List.mem_filter,List.mem_range];refine⟨t,?_⟩
   have d:x<l.size:=Z9
   simp only[Array.getD_eq_getD_getElem?,uJ d,Option.getD_some] at e ⊢
   simp[e]
  have:=List.length_pos_of_mem h;omega
theorem oD{ops:Array Oper}{l:Array Bool}{i:Nat}(e:l.size=ops.size)(hi:i ∈ Region.ready .any ops l):i<ops.size/\l.getD i false=false:=by
 obtain⟨d,o,O,_⟩:=mem_ready.1 hi;have t:i<ops.size:=(cP.1 O).1
 refine⟨t,?_⟩
 have h:i<l.size:=Z9
 simp only[Array.getD_eq_getD_getElem?,uJ h,Option.getD_some] at d ⊢
 exact d
theorem b8G{ops:Array Oper}:∀(f t:Nat) (l:Array Bool),l.size=ops.size->(xU ops.size l).length<=f->a4b ops l (Region.linearise.go .any ops f t l []):=by
 intro f;induction f with
 |zero=>intro t l d u;exact oO d u
 |succ f e=>
  intro t l d u;simp only[Region.linearise.go];change a4b ops l (match(Region.ready .any ops l)[t % (Region.ready .any ops l).length]? with
   |some i=>Region.linearise.go .any ops f (t/(Region.ready .any ops l).length) (l.setIfInBounds i true) [i]
   |none=>[].reverse)
  cases hi:(Region.ready .any ops l)[t % (Region.ready .any ops l).length]? with
  |none=>
   show Region.ready .any ops l=[];cases r:Region.ready .any ops l with
   |nil=>rfl
   |cons x xs=>
    rw[r] at hi;have h:t % (x::xs).length<(x::xs).length:=Nat.mod_lt _ W8
    simp at hi;simp at h;omega
  |some i=>
   have M:=A4 hi;obtain⟨h,I⟩:=oD d M;simp only[];rw[linearise_go_acc,List.reverse_singleton,List.singleton_append];exact⟨M,e _ _ (by simp[d]) (by have:=a0m h d I;omega)⟩
theorem b8k{P:Program}{ops:Array Oper}{Q:Exit->Act->World->Prop}:∀(L:List Nat) (f:Nat) (l:Array Bool) (a:Act) (w:World),wpAny P .any ops Q f l a w->a4b ops l L->wpOps P ops Q L a w:=by
 intro L;induction L with
 |nil=>
  intro f l a w h r;cases f with
  |zero=>exact h.2
  |succ f=>exact h.1 r
 |cons k L i=>
  intro f l a w h r;cases f with
  |zero=>
   have:=r.1;rw[h.1] at this;cases this
  |succ f=>
   rw[wpOps_cons];exact wpOp_mono (λa w d=>i f _ a w d r.2) (h.2 k r.1)
structure Full(ops:Array Oper)(k:Nat):Prop where
 edge:∀(i:Nat) (o:Oper),ops[i]? =some o->∀e ∈ o.after.toList,Region.binds .any e=true->e.on<i
 gd:∀(i:Nat) (o:Oper) (j:Nat) (b:Bool),ops[i]? =some o->o.guard=some (j,b)->j<i
 full:∀(i:Nat) (o:Oper),k<=i->ops[i]? =some o->∀D:Nat->Prop,Cl ops D->(∀e ∈ o.after.toList,Region.binds .any e=true->D e.on)->∀j,j<i->D j
theorem a54{a b:Nat}(h:Nat.blt a b=true):a<b:=zP h
theorem b9T{ops:Array Oper}{k:Nat}:∀(r:List Oper) (tab:List Nat),(∀j,ops[tab.length+j]? =r[j]?)->(∀D:Nat->Prop,Cl ops D->∀q,q<tab.length->D q->∀j,Nat.testBit (tab.getD q 0) j=true->D j)->a5j k r tab=true->
  (∀i o,tab.length<=i->ops[i]? =some o->(∀e ∈ o.after.toList,Region.binds .any e=true->e.on<i)/\(∀j b,o.guard=some (j,b)->j<i)/\(k<=i->∀D:Nat->Prop,Cl ops D->(∀e ∈ o.after.toList,Region.binds .any e=true->D e.on)->∀j,j<i->D j)):=by
 intro r;induction r with
 |nil=>
  intro tab hr t h i o hi O;have:=hr (i-tab.length);rw[show tab.length+(i-tab.length)=i by omega,O] at this
  cases this
 |cons o r ih=>
  intro tab hr t h;unfold a5j at h;simp only[O4,tB] at h;obtain⟨⟨⟨B,b2⟩,b3⟩,b4⟩:=h;have h0:ops[tab.length]? =some o:=by have:=hr 0;simpa using this
  have hedge:∀e ∈ o.after.toList,Region.binds .any e=true->e.on<tab.length:=λe d h=>by
   have:=i7.1 B e d;simp only[h,Bool.not_true,Bool.false_or] at this;exact a54 this
  have hmask:∀D:Nat->Prop,Cl ops D->(∀e ∈ o.after.toList,Region.binds .any e=true->D e.on)->∀j,Nat.testBit (maskOf tab o.after.toList) j=true->D j:=λD hD hpre j hj=>by
   obtain⟨e,d,h,R⟩:=a9q hj;rcases R with rfl|R
   ·exact hpre e d h
   ·exact t D hD e.on (hedge e d h) (hpre e d h) j R
  intro i o' hi ho';by_cases hit:i=tab.length
  ·subst hit;rw[h0] at ho';cases ho';refine⟨hedge,λj b hg=>?_,λhk D hD hpre j hj=>?_⟩
   ·unfold gdB at b2;rw[hg] at b2;exact a54 b2
   ·rcases b3 with b3|b3
    ·have:=a54 b3;omega
    ·refine hmask D hD hpre j ?_
     rw[G1 b3,Nat.testBit_two_pow_sub_one];exact qK hj
  ·refine ih (tab++[maskOf tab o.after.toList]) (λj=>?_) (λD hD q hq hDq j hj=>?_) b4 i o' H4 ho'
   ·have:=hr (j+1);rw[K2,List.length_singleton,show tab.length+1+j=tab.length+(j+1) by omega,this]
    rfl
   ·rw[K2,List.length_singleton] at hq;by_cases hqt:q=tab.length
    ·subst hqt;rw[R2,List.getElem?_concat_length] at hj
     exact hmask D hD (λe d h=>hD _ _ hDq h0 e d h) j hj
    ·rw[R2,uW Z9,←R2] at hj
     exact t D hD q Z9 hDq j hj
theorem b8N{ops:Array Oper}{k:Nat}(h:a5j k ops.toList []=true):Full ops k:=by
 have:=b9T (ops:=ops) (k:=k) ops.toList [] (λj=>W8) (λD e q Q=>absurd Q (J5 _)) h
 exact⟨λi o O=>(this i o (O3 _) O).1,λi o j b O g=>(this i o (O3 _) O).2.1 j b g,λi o d O=>(this i o (O3 _) O).2.2 d⟩
section
variable {P:Program} {ops:Array Oper} {k:Nat}
theorem fA{l:Array Bool}{k:Nat}(h:k<l.size):(l.setIfInBounds k true).getD k false=true:=by
 simp[h]
theorem a0u(hF:Full ops k):∀(L:List Nat) (i:Nat) (listed:Array Bool),listed.size=ops.size->k<=i->i<=ops.size->(∀j,listed.getD j false=true↔j<i)->a4b ops listed L->L=List.range' i (ops.size-i):=by
 intro L;induction L with
 |nil=>
  intro i listed d l hi hl r;by_cases he:i=ops.size
  ·subst he;simp
  ·exfalso;have ho:=uJ (xs:=ops) (i:=i) Z9
   have M:i ∈ Region.ready .any ops listed:=mem_ready.2 ⟨by
    have g:listed.getD i false=false:=by
     cases hb:listed.getD i false with
     |false=>rfl
     |true=>have:=(hl i).1 hb;omega
    have t:i<listed.size:=Z9
    simp only[Array.getD_eq_getD_getElem?,uJ t,Option.getD_some] at g ⊢
    exact g,_,ho,λe he hb=>(hl _).2 (hF.edge i _ ho e a0d hb)⟩
   rw[show Region.ready .any ops listed=[] from r] at M
   cases M
 |cons x L q=>
  intro i listed d l hi hl r;obtain⟨hx,r⟩:=r;obtain⟨t,I⟩:=oD d hx;obtain⟨_,o,ho,hall⟩:=mem_ready.1 hx;have X:i<=x:=by
   rcases Nat.lt_or_ge x i with h|h
   ·rw[(hl x).2 h] at I;cases I
   ·exact h
  have f:x=i:=by
   rcases Nat.lt_or_ge i x with h|h
   ·exfalso;have hD:=hF.full x o Z9 ho (λj=>listed.getD j false=true) (λj oj hj hoj e he hb=>(hl _).2 (by have:=(hl j).1 hj;have:=hF.edge j oj hoj e he hb;omega)) (λe he hb=>hall e a0d hb) i h
    have:=(hl i).1 hD;omega
   ·omega
  subst f;have n:ops.size-x=(ops.size- (x+1))+1:=Z9
  rw[n,List.range'_succ];congr 1
  refine q (x+1) _ (by simp[d]) Z9 Z9 (λj=>?_) r
  by_cases hj:x=j
  ·subst hj;constructor
   ·intro _;omega
   ·intro _;exact fA Z9
  ·rw[getD_set_ne false hj,hl];omega
theorem a2a(hF:Full ops k)(q:k<=ops.size){l1:Array Bool}(r:l1.size=ops.size)(C:Cl ops (λj=>l1.getD j false=true))(l:¬ ∀j,j<k->l1.getD j false=true):∃x,x<k/\x ∈ Region.ready .any ops l1:=by
 have key:∀n,n<=k->(∀j,j<n->l1.getD j false=true)∨∃x,x<k/\x ∈ Region.ready .any ops l1:=by
  intro n;induction n with
  |zero=>intro _;exact .inl λj J=>absurd J (J5 _)
  |succ n I=>
   intro g;rcases I Z9 with h|h
   ·cases hb:l1.getD n false with
    |true=>
     refine .inl λj J=>?_
     by_cases N:j=n
     ·rw[N];exact hb
     ·exact h j Z9
    |false=>
     have o:=uJ (xs:=ops) (i:=n) Z9
     refine .inr ⟨n,Z9,mem_ready.2 ⟨?_,_,o,λe f d=>h _ (hF.edge n _ o e (by simpa using f) d)⟩⟩
     have t:n<l1.size:=Z9
     simp only[Array.getD_eq_getD_getElem?,uJ t,Option.getD_some] at hb ⊢
     exact hb
   ·exact .inr h
 rcases key k (V8 _) with h|h
 ·exact absurd h l
 ·exact h
theorem a7E(hF:Full ops k)(hk:k<=ops.size){A:Array Oper}(r:A=(ops.toList.take k).toArray):∀(L:List Nat) (l1 l2:Array Bool),l1.size=ops.size->l2.size=k->(∀j,j<k->l2.getD j false=l1.getD j false)->(∀j,k<=j->l1.getD j false=false)->Cl ops (λj=>l1.getD j false=true)->a4b ops l1 L->
  ∃L1,L=L1++List.range' k (ops.size-k)/\a4b A l2 L1:=by
 have n:∀j,j<k->A[j]? =ops[j]? :=λj J=>by
  rw[r,List.getElem?_toArray,List.getElem?_take,if_pos J,Array.getElem?_toList]
 have f:A.size=k:=by rw[r];simp;omega
 intro L;induction L with
 |nil=>
  intro l1 l2 h1 l he hn hc hr;by_cases hall:∀j,j<k->l1.getD j false=true
  ·have hd:∀j,l1.getD j false=true↔j<k:=λj=>⟨λh=>(Nat.lt_or_ge j k).elim id λh'=>absurd ((hn j h').symm.trans h) W8,hall j⟩
   refine⟨[],a0u hF [] k l1 h1 (V8 _) hk hd hr,oO (by rw[l,f]) ?_⟩
   unfold xU;rw[Nat.le_zero,List.length_eq_zero_iff,List.filter_eq_nil_iff];intro j J;rw[List.mem_range,f] at J;rw[he j J,hall j J];simp
  ·exfalso;obtain⟨x,hx,hm⟩:=a2a hF hk h1 hc hall;rw[show Region.ready .any ops l1=[] from hr] at hm
   cases hm
 |cons x L I=>
  intro l1 l2 h1 l he hn hc hr;by_cases hall:∀j,j<k->l1.getD j false=true
  ·have hd:∀j,l1.getD j false=true↔j<k:=λj=>⟨λh=>(Nat.lt_or_ge j k).elim id λh'=>absurd ((hn j h').symm.trans h) W8,hall j⟩
   refine⟨[],a0u hF (x::L) k l1 h1 (V8 _) hk hd hr,oO (by rw[l,f]) ?_⟩
   unfold xU;rw[Nat.le_zero,List.length_eq_zero_iff,List.filter_eq_nil_iff];intro j J;rw[List.mem_range,f] at J;rw[he j J,hall j J];simp
  ·obtain⟨hx,hr⟩:=hr;obtain⟨q,hni⟩:=oD h1 hx;obtain⟨v,o,ho,d⟩:=mem_ready.1 hx;have hxk:x<k:=by
    rcases Nat.lt_or_ge x k with h|h
    ·exact h
    ·exfalso;exact hall λj J=>hF.full x o h ho _ hc (λe he hb=>d e a0d hb) j Z9
   have t:∀j,(l1.setIfInBounds x true).getD j false=true↔(l1.getD j false=true∨j=x):=by
    intro j;by_cases J:x=j
    ·subst J;simp[h1,q]
    ·rw[getD_set_ne false J];exact⟨.inl,λh=>h.resolve_right (Ne.symm J)⟩
   obtain⟨L1,u,hR⟩:=I (l1.setIfInBounds x true) (l2.setIfInBounds x true) (by simp[h1]) (by simp[l]) (λj J=>by
    by_cases X:x=j
    ·subst X;rw[fA Z9,fA Z9]
    ·rw[getD_set_ne false X,getD_set_ne false X];exact he j J) (λj J=>by rw[getD_set_ne false Z9];exact hn j J) (λj O J g e hem hb=>by
    refine(t _).2 ?_
    rcases(t j).1 J with h|rfl
    ·exact .inl (hc j O h g e hem hb)
    ·rw[ho] at g;cases g;exact .inl (d e (by simpa using hem) hb)) hr
   refine⟨x::L1,by rw[u];rfl,mem_ready.2 ⟨?_,o,by rw[n x hxk];exact ho,λe hem hb=>?_⟩,hR⟩
   ·have h3:l2.getD x false=false:=by rw[he x hxk];exact hni
    have i:x<l2.size:=Z9
    simp only[Array.getD_eq_getD_getElem?,uJ i,Option.getD_some] at h3 ⊢
    exact h3
   ·have:=hF.edge x o ho e (by simpa using hem) hb
    rw[he _ Z9]
    exact d e hem hb
theorem b2H(hF:Full ops k){A:Array Oper}(u:∀j,j<k->A[j]? =ops[j]?)(z:A.size=k){Q Q':Exit->Act->World->Prop}{L2:List Nat}(N:∀a w,Q' .normal a w->wpOps P ops Q L2 a w)(q:∀e a w,e≠ .normal->Q' e a w->Q e a w):∀(L1:List Nat) (l:Array Bool),l.size=A.size->a4b A l L1->∀(a:Act) (w:World),wpOps P A Q' L1 a w->wpOps P ops Q (L1++L2) a w:=by
 intro L1;induction L1 with
 |nil=>intro l i _ a w h;exact N a w h
 |cons x L1 I=>
  intro l i R a w h;obtain⟨hx,R⟩:=R;obtain⟨v,_⟩:=oD i hx;have f:x<k:=Z9
  rw[wpOps_cons] at h;rw[List.cons_append,wpOps_cons];have h:=wpOp_mono (λa w C=>I _ (by simp[i]) R a w C) h
  unfold wpOp at h ⊢;rw[u x f] at h;cases d:ops[x]? with
  |none=>rw[d] at h;exact h
  |some o=>
   rw[d] at h;simp only[] at h ⊢;have Y:Region.wanted o (yielded A a.tmps)=Region.wanted o (yielded ops a.tmps):=by
    unfold Region.wanted;cases B:o.guard with
    |none=>rfl
    |some g=>
     obtain⟨j,b⟩:=g;have:=hF.gd x o j b d B;simp only[];unfold yielded;rw[u j Z9]
   rw[Y] at h;have O:LetsOut Q'->LetsOut Q:=λ⟨a,w,h⟩=>⟨a,w,q _ a w (by intro h;cases h) h⟩
   split
   ·rename_i hw;rw[if_pos hw] at h;rcases h with h|⟨h1,h2⟩
    ·refine .inl ?_
     unfold Oper.wp at h ⊢;generalize (execOp a.eval o).run P w=r at h ⊢;cases r with
     |ok n w'=>
      cases n<;>simp only[Oper.upon] at h ⊢ <;>
       first
        |exact h
        |exact Calls.mono h (λe W t=>by cases e<;>first|exact t|exact q _ _ _ (by intro h;cases h) t|exact O t)
     |halt x w'=>cases x<;>simp only[Oper.upon] at h ⊢ <;>first|exact h|exact q _ _ _ (by intro h;cases h) h
    ·exact .inr ⟨h1,O h2⟩
   ·rename_i hw;rw[if_neg hw] at h;exact h
end
section
variable {c:Ctx} {E:Env} {H:Y4} {w:World} {P:Program}
theorem b6e{t tx ty e:TypeId}{i:TypeInfo}{z:Value}(o:P.underlying t=some (.slice e))(hi:P.info? e=some i)(Z:i.zero=some z)(g:z.cells.size=i.size)
  {x:Value} {m:Nat} {N:List Value} (hs:Go.Src P i.size tx x m N w) {n:Nat} (B:U9 n m i.bytes) (base:Option Addr) (cap:Nat) (B0:List Value) (hol:B0.length=n*i.size) (d:(Builtin.firstCells i.size n (.slice base n cap)).run P w.drew= .ok B0.toArray w.drew) (h:cap<n+m):
  ∃r w',(Builtin.append_ #[t,tx] ty #[.slice base n cap,x]).run P w= .ok r w'/\Appended w i.size n m (λj=>B0[j]?) N none r w':=by
 obtain⟨l,q⟩:=B;have R:=run_append_grow_src (P:=P) w t tx ty e i z o hi Z base n cap B0 d x m N hs h Z9 (growslice_fits h l)
 have f:=grownCap_ge w (n+m) cap e;refine⟨_,_,R,rfl,rfl,rfl,W8,λb B _=>heap_alloc_old w.drew _ B,_,_,_,_,rfl,f,heap_alloc_new w.drew _,?_,.inl ⟨V8 _,λ_ A=>heap_alloc_old w.drew _ A⟩,λj J=>?_,λj J=>?_⟩
 ·refine Nat.le_of_eq (Eq.symm ?_)
  simp only[Array.size_append,List.size_toArray,K2,size_zeroCells,g,hol,hs.newsLen,←Nat.add_mul];congr 1
  omega
 ·rw[Array.getElem?_append_left (by simp[hol];omega)]
  rw[List.getElem?_toArray,uW Z9]
 ·have hnl:=hs.newsLen;rw[Array.getElem?_append_left (by simp[hol,hnl];omega)]
  rw[List.getElem?_toArray,tG Z9,hol]
  congr 1
  omega
theorem a63(h:Inv c E H w){t tx ty e:TypeId}{i:TypeInfo}{z:Value}(ht:P.underlying t=some (.slice e))(hi:P.info? e=some i)(hz:i.zero=some z)(al:z.cells.size=i.size)(bf:0<i.size)
  {k off n N:Nat} {cl:Bool} {X:TypeId} {row:Nat->List T} (hk:Z1 H k=some (.arr cl X i.size N row)) {x:T} {S:Sr} (ai:xL H (P.underlying tx) i.size x=some S) (am:S.side.getD True) (bi:off+n<=N) (bb:0<S.n) (an:U9 (off+n) S.n i.bytes) {dv xv:Value}
  (hd:Rd E w (.osl k off n) dv) (hx:Rd E w x xv):∃(b:Bool) (r:Value) (w':World) (E':Env),(Builtin.append_ #[t,tx] ty #[dv,xv]).run P w= .ok r w'/\Rd E' w' (.osl H.length (cond b 0 off) (n+S.n)) r/\
   Inv c E' (H.set k none++[some (.arr (cl&&S.cl) e i.size (cond b (n+S.n) (off+n+S.n)) (cond b (X7 (λi=>row (off+i)) n S.row) (X7 row (off+n) S.row)))]) w'/\Step E w E' w':=by
 obtain⟨A,C,ac,v,L,g⟩:=wN (P:=P) h.heap ai am hx;have hA:T4 E w k ⟨cl,X,i.size,N,row⟩:=(h.heap.live _ _ hk).2.1;obtain⟨O,hn,hl,q,J,cs,U,d,af,hc⟩:=hA;simp only at O hn hl q J af hc;have ae:U9 n S.n i.bytes:=by
  obtain⟨a1,a2⟩:=an;refine⟨Nat.le_trans (lD _ Z9) a1,Z9⟩
 cases hd with
 |osl _ _ _ o a hL bg ho ha=>
  have copy:∀(B0:List Value),B0.length=n*i.size->(Builtin.firstCells i.size n (.slice a n (E.κ k-off))).run P w.drew= .ok B0.toArray w.drew->E.κ k-off<n+S.n->(∀r j t,r<n->(row (off+r))[j]? =some t->∃u,B0[r*i.size+j]? =some u/\Rd E w t u)->
    ∃(b:Bool) (r:Value) (w':World) (E':Env),(Builtin.append_ #[t,tx] ty #[.slice a n (E.κ k-off),xv]).run P w= .ok r w'/\Rd E' w' (.osl H.length (cond b 0 off) (n+S.n)) r/\
   Inv c E' (H.set k none++[some (.arr (cl&&S.cl) e i.size (cond b (n+S.n) (off+n+S.n)) (cond b (X7 (λi=>row (off+i)) n S.row) (X7 row (off+n) S.row)))]) w'/\Step E w E' w':=by
   intro B0 ao ad f aq;obtain⟨r,w',l,Q⟩:=b6e (P:=P) (ty:=ty) ht hi hz al C ae a _ B0 ao ad f;have:=h.appended (.inl Q) (H.set k none) (λi=>i=k) W8 (nU hk) (λb hb=>by cases hb) (.arr (cl&&S.cl) e i.size (n+S.n) (X7 (λi=>row (off+i)) n S.row)) rfl rfl
     (λr hr=>by
      simp only[Ob.toArr];by_cases h:r<n
      ·rw[P7 h];exact hl _ Z9
      ·rw[P8 h];exact ac _ Z9)
     (λr t hr ht=>by
      simp only[Ob.toArr] at ht;by_cases h:r<n
      ·rw[P7 h] at ht;exact q _ t Z9 ht
      ·rw[P8 h] at ht;exact v _ t Z9 ht)
     (λhcc r t hr ht=>by
      simp only[Ob.toArr,O4] at ht hcc;by_cases h:r<n
      ·rw[P7 h] at ht;exact J hcc.1 _ t Z9 ht
      ·rw[P8 h] at ht;exact L hcc.2 _ t Z9 ht)
     (λr j t hr hj=>by
      simp only[Ob.toArr] at hj;rw[P7 hr] at hj;exact aq r j t hr hj)
     (λr j t hr hj=>by
      simp only[Ob.toArr] at hj;rw[P8 Z9,show n+r-n=r by omega] at hj
      exact g r j t hr hj)
   obtain⟨E',hr,hI,B⟩:=this;exact⟨true,r,w',E',l,hr,hI,B⟩
  by_cases hκ:E.κ k=0
  ·obtain rfl:n=0:=by omega
   refine copy [] W8 ?_ Z9 (λr j t hr=>absurd hr (J5 _))
   cases a with
   |none=>exact run_firstCells_none w.drew i.size 0 0 _
   |some a=>exact run_firstCells_some w.drew i.size 0 a 0 _ [] W8 (λj u h=>H8)
  have d:=d hκ;have Z:=af.le;by_cases M:n+S.n<=E.κ k-off
  ·-- in place
   have hoff:off<E.κ k:=Z9
   have ho:=ho (.inl hoff);rw[O] at ho;have f:(off+n+S.n)*i.size<=cs.size:=Nat.le_trans (lD _ Z9) Z
   have F:(off+n)*i.size+A.length<=cs.size:=by rw[C.newsLen,←Nat.add_mul];exact f
   obtain⟨w',B,az,ak,ap,ah,ab,aj,ay,aa,W,au⟩:=j3 P w (E.β k) ((off+n)*i.size) U cs A d F C.one;rw[Nat.add_mul] at B;have l:(Builtin.append_ #[t,tx] ty #[.slice a n (E.κ k-off),xv]).run P w= .ok (.slice (some ⟨E.β k,off*i.size,none⟩) (n+S.n) (E.κ k-off)) w':=by
    rw[ha hκ,ho];rcases C.kind with⟨e',R⟩|R<;>simp[Builtin.append_,run_underlying ht,run_underlying R,sizeOf,typeInfo,hi,C.len,M,C.cells,Addr.add_lit,B]
   have Q:Appended w i.size (off+n) S.n (λj=>cs[j]?) A (some (E.β k)) (.slice (some ⟨E.β k,0,none⟩) (off+n+S.n) (E.κ k)) w':=
    ⟨az,ak,ap,Z9,λb' _ ag=>ab b' (λe=>ag (by rw[e])),E.β k,E.κ k,aj,U,rfl,Z9,ay,by rw[aa];exact Z,.inr rfl,λj hj=>W j (.inl hj),λj hj=>au j (by rw[C.newsLen];exact hj)⟩
   have:=h.appended (.inl Q) (H.set k none) (λi=>i=k) W8 (nU hk) (λb hb=>⟨k,_,rfl,hk,.inl ⟨hκ,(Option.some.inj hb).symm⟩⟩) (.arr (cl&&S.cl) e i.size (off+n+S.n) (X7 row (off+n) S.row)) rfl rfl
     (λr hr=>by
      simp only[Ob.toArr];by_cases h:r<off+n
      ·rw[P7 h];exact hl _ Z9
      ·rw[P8 h];exact ac _ Z9)
     (λr t hr ht=>by
      simp only[Ob.toArr] at ht;by_cases h:r<off+n
      ·rw[P7 h] at ht;exact q _ t Z9 ht
      ·rw[P8 h] at ht;exact v _ t Z9 ht)
     (λhcc r t hr ht=>by
      simp only[Ob.toArr,O4] at ht hcc;by_cases h:r<off+n
      ·rw[P7 h] at ht;exact J hcc.1 _ t Z9 ht
      ·rw[P8 h] at ht;exact L hcc.2 _ t Z9 ht)
     (λr j t hr hj=>by
      simp only[Ob.toArr] at hj;rw[P7 hr] at hj;exact hc r j t Z9 hj)
     (λr j t hr hj=>by
      simp only[Ob.toArr] at hj;rw[P8 Z9,show off+n+r- (off+n)=r by omega] at hj
      exact g r j t hr hj)
   obtain⟨E',hr,hI,Y⟩:=this;refine⟨false,_,w',E',l,?_,hI,Y⟩
   have ar:Z1 (H.set k none++[some (.arr (cl&&S.cl) e i.size (off+n+S.n) (X7 row (off+n) S.row))]) H.length=some (.arr (cl&&S.cl) e i.size (off+n+S.n) (X7 row (off+n) S.row)):=by
    unfold Z1;rw[tG W8]
    simp
   have aw:T4 E' w' H.length ⟨cl&&S.cl,e,i.size,off+n+S.n,X7 row (off+n) S.row⟩:=(hI.heap.live _ _ ar).2.1;have V:=aw.1;simp only at V;generalize hv:(Value.slice (some ⟨E.β k,0,none⟩) (off+n+S.n) (E.κ k))=rv at hr;cases hr with
   |osl _ _ _ o2 a2 ba bh bj ax=>
    simp only[Value.slice.injEq] at hv;obtain⟨v1,_,v3⟩:=hv;have av:E'.κ H.length=E.κ k:=Z9
    have e1:=ax Z9
    rw[←v1] at e1;simp only[X2,Addr.mk.injEq] at e1;rw[←av];refine .osl H.length off (n+S.n) (off*i.size) _ ba Z9 (λ_=>by rw[V]) (λ_=>by rw[e1.1])
  ·by_cases hn0:n=0
   ·subst hn0;refine copy [] W8 ?_ Z9 (λr j t hr=>absurd hr (J5 _))
    cases a with
    |none=>exact run_firstCells_none w.drew i.size 0 0 _
    |some a=>exact run_firstCells_some w.drew i.size 0 a 0 _ [] W8 (λj u h=>H8)
   ·have hoff:off<E.κ k:=by omega
    have ho:=ho (.inl hoff);rw[O] at ho;have F:off*i.size+n*i.size<=cs.size:=by rw[←Nat.add_mul];exact Nat.le_trans (lD _ Z9) Z
    have I:∀j,((cs.toList.drop (off*i.size)).take (n*i.size))[j]? =if j<n*i.size then cs[off*i.size+j]? else none:=λj=>by
     rw[List.getElem?_take]
     split
     ·rw[List.getElem?_drop,Array.getElem?_toList]
     ·rfl
    refine copy ((cs.toList.drop (off*i.size)).take (n*i.size)) H4 ?_ Z9 (λr j t hr hj=>?_)
    ·rw[ha hκ,ho];refine run_firstCells_some w.drew i.size n ⟨E.β k,off*i.size,none⟩ n _ _ H4 (λj u hj=>?_)
     rw[Addr.add_lit];show w.cell? _=_;rw[Q4 d];rw[I] at hj;split at hj
     ·exact hj
     ·cases hj
    ·obtain⟨u,hu,hr'⟩:=hc (off+r) j t Z9 hj
     have bc:j<i.size:=by
      have:=(w6.1 hj).1
      rw[hl (off+r) Z9] at this
      exact this
     refine⟨u,?_,hr'⟩
     rw[I,if_pos (by
      have:(r+1)*i.size<=n*i.size:=lD _ hr;rw[Nat.add_mul] at this;omega),show off*i.size+(r*i.size+j)=(off+r)*i.size+j by rw[Nat.add_mul];omega]
     exact hu
theorem c1j(h:Inv c E H w){s:W5}{o:Oper}{a:Act}{K:Act->World->Prop}{Q:Exit->Act->World->Prop}(hop:∀x ∈ E8 o.op,G0 E w a s x)(hv:∀b,∃t H' side,sG P s H o b=some (t,H',side)/\side.getD True)
  (hK:∀b t H' side v w' E',sG P s H o b=some (t,H',side)->Inv c E' H' w'->Step E w E' w'->Rd E' w' t v->K (a.put o.dst v) w'):o.wp P a w K Q:=by
 obtain⟨t0,H0,side0,he0,hs0⟩:=hv true;have hev:=he0;unfold sG at he0;split at he0
 case h_2=>cases he0
 rename_i args at_ hg ho;split at he0
 case h_2=>cases he0
 rename_i d x t tx ha hat;obtain rfl:args= #[d,x]:=Array.ext' tN
 obtain rfl:at_= #[t,tx]:=Array.ext' a0p
 split at he0
 case h_2=>cases he0
 rename_i k off n e hd hu;split at he0
 case h_2=>cases he0
 rename_i i z cl tyb sz N row hi hz hk;split at he0
 case h_2=>cases he0
 rename_i hb;simp only[O4] at hb;obtain⟨⟨b1,b2⟩,b3⟩:=hb;obtain rfl:=G1 b3;cases hsb:xL H (P.underlying tx) i.size (L3 s x) with
 |none=>rw[hsb] at he0;cases he0
 |some S=>
  have hall:∀b,sG P s H o b=some (.osl H.length (cond b 0 off) (n+S.n),H.set k none++[some (.arr (cl&&S.cl) e i.size (cond b (n+S.n) (off+n+S.n)) (cond b (X7 (λi=>row (off+i)) n S.row) (X7 row (off+n) S.row)))],some (lA S.side (Le (off+n) N/\Lt 0 S.n/\U9 (off+n) S.n i.bytes))):=λb=>by
   unfold sG;rw[hg,ho];simp only[hd,hu,hi,hz,hk,b1,b2,b3,Bool.and_self,hsb,m8]
  rw[hall] at hev;simp only[X2,U0] at hev;obtain⟨_,_,rfl⟩:=hev;obtain⟨hls,hle,hpos,hab⟩:=zB hs0;obtain⟨zv,hzv,hzl⟩:=i9 hi hz;have hdo:=hop d (by rw[ho];simp[E8,Op.operands,Call.operands])
  unfold G0 at hdo;rw[hd] at hdo;have hn0:i.size≠0:=λh0=>by
   rw[h0] at b2;cases b2
  obtain⟨b,r,w',E',hrun,g1,g2,g3⟩:=a63 (P:=P) (ty:=o.type) h hu hi hzv (by rw[hzl];exact G1 b1) Z9 hk hsb hls hle hpos hab hdo (hop x (by rw[ho];simp[E8,Op.operands,Call.operands]))
  refine i4 (w':=w') (v:=r) ?_ (hK b _ _ _ r w' E' (hall b) g2 g3 g1)
  simp[execOp,ho,resolve,invoke,builtin,hrun,Result.andThen]
end
theorem b0F{c:Ctx}{P:Program}{G:I5}{all:Array Oper}(U:C6 P G)(F:∀x ∈ G,Q2 P x.1){K:W5->Y4->Prop}{Q:Exit->Act->World->Prop}{s:W5}{H:Y4}(M:∀s' H' a' w',K s' H'->jQ c s' H' a' w'->Q .normal a' w')
  {r:List Oper} {E:Env} {a:Act} {w:World} (h:lS P G c.nt all s H K r) (R:RealE c E s [] H a w):wpList P all Q r a w:=by
 cases r with
 |nil=>exact h.elim
 |cons o r=>
  unfold lS at h;dsimp only at h;have f:(G5 [] [] o.op&&kS c.nt o.dst)=true:=by
   cases J:(G5 [] [] o.op&&kS c.nt o.dst) with
   |true=>rfl
   |false=>rw[J] at h;exact h.elim
  rw[f] at h;rw[O4] at f;obtain⟨O,i⟩:=f;have l:I4 s []:=λq L=>by cases L
  obtain⟨z,_⟩:=sO R.slots l O;have hv:∀b,∃t H' side,sG P s H o b=some (t,H',side)/\side.getD True/\yJ P G c.nt all r (xN s o.dst t) [] H' K:=λb=>by
   have:=h b;split at this
   ·rename_i t H' side g;obtain⟨C,e⟩:=xA this;exact⟨t,H',side,g,C l,e⟩
   ·exact this.elim
  have u:o.guard=none:=by
   obtain⟨t,H',side,g,_⟩:=hv true;unfold sG at g;split at g
   ·rename_i u _;exact u
   ·cases g
  refine wpList_plain u λKK A=>c1j R.inv z (λb=>by obtain⟨t,H',side,g,C,_⟩:=hv b;exact⟨t,H',side,g,C⟩) λb t H' side v w' E' g N n I=>?_
  obtain⟨V,H2,B,j,_,e⟩:=hv b;rw[g] at j;simp only[X2,U0] at j;obtain⟨rfl,rfl,_⟩:=j;refine A _ _ (a36 U F M r _ [] _ E' _ _ e ⟨?_,?_,?_,N⟩)
  ·cases o.dst with
   |none=>exact R.defers
   |some d=>exact R.defers
  ·cases o.dst with
   |none=>exact R.size
   |some d=>simp[Act.put,R.size]
  ·cases hd:o.dst with
   |none=>exact R.slots.step n
   |some d=>
    rw[hd] at i;exact(R.slots.step n).put (by rfl) (by rw[R.size];exact zP i) I
theorem dN:∀{l:List Oper} {i:Nat} {r:Option Nat} {k:Nat},jC l i r=some k->(∀q,r=some q->q<i+l.length)->k<i+l.length
 | [],i,r,k,h,hr=>hr k h
 |o::l,i,r,k,h,hr=>by
  unfold jC at h;have:=dN h (λq Q=>by
   split at Q
   ·cases Q;omega
   ·have:=hr q Q;rw[List.length_cons] at this;omega)
  rw[List.length_cons];omega
theorem lN{x:FuncId×Con}:∀{G:I5},x ∈ b0p G->x ∈ G
 | [],h=>h
 |(_,c)::r,h=>by
  cases c<;>first
   |exact List.mem_cons_of_mem _ (lN h)
   |(rcases vT.1 h with rfl|h
     ·exact List.mem_cons_self
     ·exact List.mem_cons_of_mem _ (lN h))
theorem oY{x:FuncId×Con}:∀{G:I5},x ∈ a1b G->x ∈ G
 | [],h=>h
 |(_,c)::r,h=>by
  cases c<;>
   (rcases vT.1 h with rfl|h
    ·exact List.mem_cons_self
    ·first
     |exact List.mem_cons_of_mem _ (oY h)
     |exact List.mem_cons_of_mem _ (lN h))
theorem b3q{c:Ctx}{P:Program}{G:I5}{all:Array Oper}(M:P.follows .mixedOrders=true)(B:C6 P G)(C:∀x ∈ G,Q2 P x.1){id:Nat}{K:W5->Y4->Prop}{Q:Exit->Act->World->Prop}{s:W5}{H:Y4}(I:∀g H' A w',K g H'->jQ c g H' A w'->Q .normal A w')
  {E:Env} {a:Act} {w:World} (h:pH P G c.nt all s H K) (R:RealE c E s [] H a w):(Code.region id all true).wp P Q a w:=by
 have one:a7W P G c.nt all s H K->(Code.region id all true).wp P Q a w:=λh=>wp_region_any M (a0A B C I h R)
 unfold pH at h;split at h
 ·exact one h
 ·split at h
  ·exact one h
  ·rename_i k hl;split at h
   ·exact one h
   ·rename_i J;have hF:=b8N J;have L:k<=all.size:=by
     have:=dN hl (λq O=>by cases O)
     simp at this;omega
    have z:(all.toList.take k).toArray.size=k:=by simp;omega
    have F:=a0A (Q:=λe a w=>match e with| .normal=>wpList P all Q (all.toList.drop k) a w|e=>Q e a w) (G:=a1b G) (λx hx=>B x (oY hx)) (λx hx=>C x (oY hx)) (λg H' A w' u r=>by
     obtain⟨E',l⟩:=r;exact b0F B C I u l) h R
    refine wp_region_draw λt=>?_
    simp only[Region.schedule,M,Bool.true_or,if_true];have N:=b8G (ops:=all) all.size t (Array.replicate all.size false) W8 (Nat.le_trans (List.length_filter_le _ _) W8)
    have d:∀(n j:Nat),(Array.replicate n false).getD j false=false:=λn j=>by
     simp only[Array.getD_eq_getD_getElem?,Array.getElem?_replicate]
     split<;>rfl
    obtain⟨L1,U,hR⟩:=a7E hF L rfl _ _ (Array.replicate k false) W8 W8 (λj _=>by rw[d,d]) (λj _=>d _ _) (λj o f=>by have f:(Array.replicate all.size false).getD j false=true:=f;rw[d] at f;cases f) N
    show wpOps P all Q (Region.linearise.go .any all all.size t (Array.replicate all.size false) []) a _;rw[U];rw[z] at F;refine b2H hF (λj V=>by rw[List.getElem?_toArray,List.getElem?_take,if_pos V,Array.getElem?_toList]) z (λa w v=>?_) (λe a w i v=>?_) L1 _ (by rw[z];simp) hR a _ (b8k L1 _ _ a _ F hR)
    ·have e1:=wpOps_eq_wpList (P:=P) (ops:=all) (Q:=Q) (all.toList.drop k) k (λj=>by rw[List.getElem?_drop,Array.getElem?_toList])
     rw[List.length_drop,Array.length_toList] at e1;rw[e1];exact v
    ·cases e<;>first|exact absurd rfl i|exact v
def Sub(m:Nat)(σ σ':Sy):Prop:=∀c a w,c.m=m->jQ c σ.s σ.H a w->jQ c σ'.s σ'.H a w
section
variable {c:Ctx} {P:Program} {G:I5}
theorem b4f(M:P.follows .mixedOrders=true)(z:C6 P G)(j:∀x ∈ G,Q2 P x.1):∀(C:Code) (Q:Exit->Sy->Prop) (σ:Sy) (a:Act) (w:World),vc P G c.nt (Sub c.m) C Q σ->jQ c σ.s σ.H a w->
  C.wp P (λe A w'=>∃σ',Q e σ'/\jQ c σ'.s σ'.H A w') a w:=by
 intro C;induction C with
 |skip=>intro Q σ a w h hr;exact wp_skip ⟨σ,h,hr⟩
 |region id ops W=>
  intro Q σ a w h hr;simp only[vc] at h;split at h
  ·obtain⟨E,hE⟩:=hr;exact wp_region_list (a36 z j (λl H' A w' o d=>⟨⟨l,H'⟩,o,d⟩) _ _ _ _ E a w h hE)
  ·obtain⟨E,hE⟩:=hr;exact b3q M z j (λl H' A w' o d=>⟨⟨l,H'⟩,o,d⟩) h hE
 |seq x y X Y=>
  intro Q σ a w h hr;simp only[vc] at h;refine wp_seq (Code.wp_mono (λe A w' g=>?_) (X _ _ _ _ h hr))
  obtain⟨σ',hq,d⟩:=g;cases e with
  |normal=>exact Y _ _ _ _ hq d
  |_=>exact⟨σ',hq,d⟩
 |cond cd x y X Y=>
  intro Q σ a w h hr;simp only[vc] at h;split at h
  ·rename_i b hb;obtain⟨E,hE⟩:=hr;have hop:G0 E w a σ.s cd:=a1E λt ht=>hE.slots.on t (λq hq=>wO)
   unfold G0 at hop;rw[hb] at hop;refine wp_cond (t:=b) (u5 hop) ?_
   cases b with
   |true=>exact X _ _ _ _ (h.1 rfl) ⟨E,hE⟩
   |false=>exact Y _ _ _ _ (h.2 rfl) ⟨E,hE⟩
  ·exact h.elim
 |block id body r=>
  intro Q σ a w h hr;simp only[vc] at h;refine wp_block (Code.wp_mono (λe A w' g=>?_) (r _ _ _ _ h hr))
  obtain⟨σ',hq,d⟩:=g;cases e with
  |exit i=>
   simp only at hq;simp only[Exit.inBlock];split at hq
   ·rename_i hb;rw[if_pos (G1 hb)];exact⟨σ',hq,d⟩
   ·rename_i hb;rw[if_neg (Nat.ne_of_beq_eq_false hb)];exact⟨σ',hq,d⟩
  |_=>exact⟨σ',hq,d⟩
 |loop body r=>
  intro Q σ a w h hr;simp only[vc,b42] at h;obtain⟨ι,I,μ,⟨v,F⟩,f⟩:=h;refine wp_loop_ghost (λn a w=>∃x,μ x=n/\jQ c (I x).s (I x).H a w) (μ v) ⟨v,rfl,F c a w rfl hr⟩ λn a w J=>?_
  obtain⟨x,hx,u⟩:=J;refine Code.wp_mono (λe A w' g=>?_) (r _ _ _ _ (f x) u)
  obtain⟨σ',hq,d⟩:=g;cases e with
  |normal=>
   obtain⟨y,L,B⟩:=hq;exact⟨μ y,Z9,y,rfl,L c A w' rfl d⟩
  |_=>exact⟨σ',hq,d⟩
 |exit id=>intro Q σ a w h hr;exact wp_exit ⟨σ,h,hr⟩
 |ret=>intro Q σ a w h hr;exact wp_ret ⟨σ,h,hr⟩
 |_=>intro Q σ a w h hr;simp[vc] at h
end
def RLe(r res:T):Prop:=∀E w v,Rd E w r v->Rd E w res v
theorem RLe.refl(r:T):RLe r r:=λ_ _ _ h=>h
section
variable {c:Ctx} {E:Env} {H:Y4} {w:World} {P:Program} {G:I5}
theorem a0F:∀(args:List T) (n i:Nat),zY (qG n args) i=if n<=i then args.getD (i-n) .und else .und:=by
 intro args;induction args with
 |nil=>intro n i;simp[qG,zY]
 |cons x args ih=>
  intro n i;simp only[qG,zY];split
  ·rename_i h;obtain rfl:=G1 h;simp
  ·rename_i h;have hne:=Nat.ne_of_beq_eq_false h;rw[ih];by_cases h1:n<=i
   ·rw[if_pos h1,if_pos Z9,show i-n=(i- (n+1))+1 by omega]
    rfl
   ·rw[if_neg h1,if_neg Z9]
theorem cW(h:HeapOk E w H){t:TypeId}{x y:T}{v:Value}{side:Option Prop}(e:yA P H t x=some (y,side))(f:side.getD True)(hx:Rd E w x v):
  ∃r,(do loadVar t (←asAddr v):Sem Value).run P w= .ok r w/\Rd E w y r:=by
 obtain⟨r,R,Y⟩:=a9W h e f hx;refine⟨r,?_,Y⟩
 unfold yA at e;split at e
 ·cases hx with
  |bref _ b off u N g d i=>
   simp only[Instr.loadAt,Instr.sureAddr,asAddr,D8,B2,E7] at R ⊢;exact R
 ·cases hx with
  |ref _ _ _ L=>
   simp only[Instr.loadAt,Instr.sureAddr,asAddr,D8,B2,E7] at R ⊢;exact R
 ·cases hx with
  |pref _ _ _ _ _ _ _ L=>
   simp only[Instr.loadAt,Instr.sureAddr,asAddr,D8,B2,E7] at R ⊢;exact R
 ·cases e
def a8c(tmps:Array Value):ResultVar->Sem Value
 | .tmp t=>pure (tmps.getD t undef)
 | .cell a t=>do loadVar t (←asAddr (tmps.getD a undef))
theorem b1P(h:HeapOk E w H){s:W5}{tmps:Array Value}(l:∀i,Rd E w (zY s i) (tmps.getD i undef)){v:ResultVar}{y:T}{side:Option Prop}(e:a1Y P s H v=some (y,side))(d:side.getD True):
  ∃r,(a8c tmps v).run P w= .ok r w/\Rd E w y r:=by
 cases v with
 |tmp t=>
  simp only[a1Y,X2,U0] at e;obtain⟨rfl,rfl⟩:=e;exact⟨_,rfl,l t⟩
 |cell a t=>exact cW h e d (l a)
theorem gT(h:HeapOk E w H){s:W5}{tmps:Array Value}(hsl:∀i,Rd E w (zY s i) (tmps.getD i undef)):
  ∀{R:List ResultVar} {Y:List (T×Option Prop)},N5 (a1Y P s H) R=some Y->(∀x ∈ Y,x.2.getD True)->
   ∃vs:List Value,(R.mapM (a8c tmps)).run P w= .ok vs w/\vs.length=Y.length/\∀(i:Nat) (y:T×Option Prop) (x:Value),Y[i]? =some y->vs[i]? =some x->Rd E w y.1 x:=by
 intro R;induction R with
 |nil=>
  intro Y hm _;simp only[N5,X2] at hm;subst hm;exact⟨[],rfl,rfl,λi y x hy=>by simp at hy⟩
 |cons v R I=>
  intro Y hm hs;simp only[N5] at hm;split at hm
  ·rename_i y ys' hy hys;simp only[X2] at hm;subst hm;obtain⟨r,hr,hrd⟩:=b1P h hsl (y:=y.1) (side:=y.2) hy (hs y W8)
   obtain⟨vs,e,hl,t⟩:=I hys (λx hx=>hs x aD)
   refine⟨r::vs,?_,by simp[hl],λi f x d hx=>?_⟩
   ·simp only[List.mapM_cons,D8,hr,e,E7,B2]
   ·cases i with
    |zero=>simp at d hx;subst d;subst hx;exact hrd
    |succ i=>exact t i f x (by simpa using d) qP
  ·cases hm
theorem a2s(h:HeapOk E w H){s:W5}{tmps:Array Value}(hsl:∀i,Rd E w (zY s i) (tmps.getD i undef)){fn:Func}{y:T}{side:Option Prop}(he:b7f P s H fn.results.toList=some (y,side))(hs:side.getD True):
  ∃r,(results fn tmps).run P w= .ok r w/\Rd E w y r:=by
 unfold b7f at he;have d:results fn tmps=(do
   let vs ←fn.results.mapM (a8c tmps)
   pure (if h:vs.size=1 then vs[0] else .tuple vs)):=by
  unfold results;congr 1
 rw[d,Array.mapM_eq_mapM_toList];split at he
 ·rename_i x hm;simp only[X2] at he;subst he;obtain⟨vs,hr,hl,ht⟩:=gT (P:=P) h hsl hm (λx hx=>by simp at hx;subst hx;exact hs)
  match vs,hl with
  | [r],_=>
   refine⟨r,?_,ht 0 _ r rfl rfl⟩
   simp only[map_eq_pure_bind,D8,hr,E7,B2];rfl
 ·rename_i xs hne hm;simp only[X2,U0] at he;obtain⟨rfl,rfl⟩:=he;obtain⟨vs,hr,hl,ht⟩:=gT (P:=P) h hsl hm (b7 hs);refine⟨.tuple vs.toArray,?_,?_⟩
  ·simp only[map_eq_pure_bind,D8,hr,E7,B2];have:¬vs.toArray.size=1:=by
    simp only[List.size_toArray,hl];intro e
    match xs,e with
    | [x],_=>exact hne x rfl
   rw[dif_neg this]
  ·refine .tup _ _ (by simp[hl]) λi t x hi hx=>?_
   simp only[pW,G4,List.getElem?_toArray] at hi hx
   obtain⟨y,Y,rfl⟩:=hi;exact ht i y x Y hx
 ·cases he
theorem rV{p:Option Prop}{q:Prop}(h:dD p q):p.getD True/\q:=by
 cases p with
 |none=>exact⟨trivial,h⟩
 |some p=>exact h
theorem a8t{vs:Array Value}{args:List T}{nt:Nat}(e:∀k,¬E.L k/\∀v,¬E.L2 k v)(f:∀b,E.N b->b<w.heap.size)(A:tT E w args vs)(t:args.length<=nt):
  RealE ⟨w,λ_=>False,E.N,nt,E,0⟩ E (qG 0 args) [] [] {tmps:=vs++Array.replicate (nt-vs.size) undef,defers:=[]} w:=by
 have n:args.length=vs.size:=A.1;refine⟨rfl,H4,⟨λi _=>?_,λi hi=>absurd (λq Q=>nK) hi⟩,⟨⟨λk ob d=>aR,λk k' ob o b d=>aR,λk d=>absurd d (e k).1,λk v hv=>absurd hv ((e k).2 v),λk ob v d=>aR⟩,
  f,λb B=>.inl B,λk ob b d=>aR,⟨rfl,rfl,rfl,V8 _,λ_ _ _=>rfl⟩,⟨λ_ h=>h,λ_ h=>absurd h (J5 _),λ_ _=>rfl,λ_ _ h=>absurd h (J5 _)⟩⟩⟩
 rw[a0F,if_pos (O3 _),Nat.sub_zero];simp only[R2,Array.getD_eq_getD_getElem?,Array.getElem?_append]
 by_cases hi:i<vs.size
 ·rw[if_pos hi,J4 Z9,uJ hi]
  exact A.2 i _ _ (J4 Z9) (uJ hi)
 ·rw[List.getElem?_eq_none Z9]
  exact .und _
theorem c1p(M:P.follows .mixedOrders=true)(l:C6 P G)(d:∀x ∈ G,Q2 P x.1){f:FuncId}{fn:Func}{C:Code}{args:List T}{res:T}(F:P.funcs[f]? =some fn)(hb:fn.body=some C)(t:args.length<=fn.ntmps)
  (h:vc P G fn.ntmps (Sub 0) C (b40 P fn.results.toList λr=>RLe r res) ⟨qG 0 args,[]⟩):V4 P f args res:=by
 intro E w vs L o g;have z:vs.size=args.length:=g.1.symm;refine calls_of_wp F hb (Code.wp_mono (λe A w' j=>?_) (b4f (c:=⟨w,λ_=>False,E.N,fn.ntmps,E,0⟩) M l d C _ _ _ w h ⟨E,a8t L o g t⟩))
 obtain⟨σ',hq,E',hr⟩:=j;have n:b40 P fn.results.toList (λr=>RLe r res) .ret σ'->A.defers=[]/\∃v,(results fn A.tmps).run P w'= .ok v w'/\
   ∃v',Ending.returned v= .returned v'/\Below w.heap.size w w'/\Rd (E.addN λb=>w.heap.size<=b/\b<w'.heap.size) w' res v':=by
  intro hq;refine⟨hr.defers,?_⟩
  simp only[b40] at hq;split at hq
  ·rename_i r p hres;split at hq
   ·rename_i r' p' hbor;obtain⟨hp,hq⟩:=rV hq;obtain⟨hp',hle⟩:=rV hq;obtain⟨v,hrun,hrd⟩:=a2s (P:=P) hr.inv.heap (λi=>hr.slots.on i (λq hq=>wO)) hres hp
    have hI:=hr.inv;refine⟨v,hrun,v,rfl,⟨hI.fr.os,hI.fr.tape,hI.fr.output,hI.fr.size,λb hb=>hI.fr.block b hb (λh=>h)⟩,?_⟩
    refine hle _ _ _ (Rd.mono (E:=E'.lent 0 σ'.H) (w:=w') ⟨λb hb=>?_,λ_ h=>absurd h.2 (J5 _),λ_ h=>absurd h.2 (J5 _),λ_ h=>absurd h.2 (J5 _),λ_ h=>absurd h.2 (J5 _),λ_ _ h=>absurd h.2 (J5 _),λ_ _ _ _ h=>absurd h.2 (J5 _),λ_ _ _ _ h=>absurd h.2 (J5 _)⟩ (λ_ _=>rfl) (s5 hI 6 hbor hp' hrd))
    rcases hb with hb|⟨k,ob,_,hk,hb⟩
    ·rcases hI.nnew b hb with h1|h1|h1
     ·exact .inl h1
     ·exact .inr ⟨h1,hI.nlt b hb⟩
     ·exact h1.elim
    ·rcases hI.bnew k ob b hk hb with h1|h1
     ·exact .inr ⟨h1,hI.heap.blt hk hb⟩
     ·exact h1.elim
   ·exact hq.elim
  ·exact hq.elim
 cases e with
 |normal=>exact n hq
 |ret=>exact n hq
 |_=>exact hq.elim
end
def K4(ρ:Nat->Option Nat)(t e:T):Prop:=∃d t'',S4 ρ d e=some t''/\RLe t t''
inductive OLe(ρ:Nat->Option Nat):Ob->Ob->Prop
 |mp (bo:Bool) (get get':Int->Int) (h:∀n,get n=get' n):OLe ρ (.mp bo get) (.mp bo get')
 |mp2 (get get':Int->Int->Bool) (h:∀a b,get a b=get' a b):OLe ρ (.mp2 get) (.mp2 get')
 |bys (ty ty':TypeId) (l:Bz):OLe ρ (.bys ty l) (.bys ty' l)
 |fam (v:Nat) (ty ty':TypeId) (sz n:Nat) (row row':Nat->List T) (h:U7 n row row'):OLe ρ (.fam v ty sz n row) (.fam v ty' sz n row')
 |same (ty ty':TypeId) (sz n:Nat) (row row':Nat->List T) (h:∀i,i<n->row i=row' i):OLe ρ (.arr true ty sz n row) (.arr true ty' sz n row')
 |ren (cl cl':Bool) (ty ty':TypeId) (sz n:Nat) (row row':Nat->List T) (hc:cl'=true->cl=true/\∀i,i<n->row i=row' i) (h:∀i,i<n->N5 (S4 ρ 6) (row' i)=some (row i)):OLe ρ (.arr cl ty sz n row) (.arr cl' ty' sz n row')
 |box (cl cl':Bool) (ty ty':TypeId) (sz:Nat) (row row':Nat->List T) (h1:∀t ∈ row' 0,I7 t=true) (hc:cl'=true->∀t ∈ row' 0,W7 t=true) (hl:(row 0).length=(row' 0).length) (h:∀(j:Nat) (a b:T),(row 0)[j]? =some a->(row' 0)[j]? =some b->K4 ρ a b):OLe ρ (.arr cl ty sz 1 row) (.arr cl' ty' sz 1 row')
section
variable {c:Ctx} {E:Env} {H H':Y4} {w:World} {ρ:Nat->Option Nat} {len:Nat}
theorem a9g(hlt:∀k m,ρ k=some m->k<H'.length)(af:∀k k' m,(Z1 H' k).isSome=true->(Z1 H' k').isSome=true->ρ k=some m->ρ k'=some m->k=k')
  (hH:∀k ob',Z1 H' k=some ob'->∃m ob,ρ k=some m/\Z1 H m=some ob/\OLe ρ ob ob') (hid:∀k,k<c.m->ρ k=some k) (h:Inv c E H w):Inv c (E.ren ρ H'.length) H' w:=by
 have e:∀{k:Nat} {ob':Ob} {b:Nat},Z1 H' k=some ob'->B7 (E.ren ρ H'.length) k ob' b->∃m ob,ρ k=some m/\Z1 H m=some ob/\B7 E m ob b:=by
  intro k ob' b hk B;obtain⟨m,ob,hm,hob,hle⟩:=hH k ob' hk;refine⟨m,ob,hm,hob,?_⟩
  rcases B with⟨F,rfl⟩|⟨v,ty,sz,n,row,i,j,an,ah,on,ad,rfl,hi,hj,Q,rfl⟩
  ·simp only[Env.ren,hm,Option.getD_some] at F ⊢;exact .inl ⟨F,rfl⟩
  ·cases hle with
   |fam v q g sz n R pU M=>
    have:=((iR (E:=E) (w:=w) (k:=m) (o:=.fam v q sz n R) (o':=.fam v ty sz n row) (by simp only[a3g,show Nat.beq sz sz=true from Nat.beq_refl sz];exact⟨trivial,trivial,M⟩) (h.heap.live m _ hob).2.1).2.1 (E.b2 m v i j)).1
    simp only[Env.ren,hm,Option.getD_some] at Q ⊢;exact this (.inr ⟨v,ty,sz,n,row,i,j,an,ah,on,ad,rfl,hi,hj,Q,rfl⟩)
 refine⟨⟨λk ob' hk=>?_,λk k' o o' b hk hk' B ap=>?_,λk hk=>hk.1,λk v hv=>(by obtain⟨g1,m,g2,g3⟩:=hv;exact⟨g1,m,g2,h.heap.l2 _ _ g3⟩),λk ob' v hk hv=>?_⟩,h.nlt,h.nnew,λk ob' b hk B=>?_,h.fr,⟨h.keep.N,λk hk hL=>?_,h.keep.same,λk v hk hv=>?_⟩⟩
 ·obtain⟨m,ob,hm,hob,hle⟩:=hH k ob' hk;obtain⟨hL,X,hN⟩:=h.heap.live m ob hob;have ak:∀b,B7 (E.ren ρ H'.length) k ob' b->¬ (E.ren ρ H'.length).N b:=λb B V=>by
   obtain⟨m2,ob2,_,g1,g2⟩:=e hk B;exact(h.heap.live m2 ob2 g1).2.2 b g2 V
  have B:(E.ren ρ H'.length).β k=E.β m:=a2R
  have hκ:(E.ren ρ H'.length).κ k=E.κ m:=a2R
  have J:(E.ren ρ H'.length).z k=E.z m:=a2R
  refine⟨⟨hlt k m hm,m,hm,hL⟩,?_,ak⟩
  cases hle with
  |mp bo get O hg=>
   obtain rfl:get=O:=funext hg;obtain⟨U,es,C,F,h2⟩:=X;exact(⟨by rw[hκ];exact U,es,C,by rw[B];exact F,h2⟩:b0y _ _ _ _ _)
  |mp2 get O hg=>
   obtain rfl:get=O:=funext λa=>funext (hg a)
   obtain⟨U,es,C,F,h2⟩:=X;exact(⟨by rw[hκ];exact U,es,C,by rw[B];exact F,h2⟩:a1j _ _ _ _)
  |fam v q g sz n R pU M=>
   have hF:FamOk E w m v q sz n R:=X;have aq:FamOk E w m v g sz n pU:=(iR (E:=E) (w:=w) (k:=m) (o:=.fam v q sz n R) (o':=.fam v g sz n pU) (by simp only[a3g,show Nat.beq sz sz=true from Nat.beq_refl sz];exact⟨trivial,trivial,M⟩) X).1
   exact(FamOk.ren (E2:=E.ren ρ H'.length) (w':=w) aq (dT _) (λt x _ ht hx=>Rd.closed (E:=E) (E':=E.ren ρ H'.length) (λ_ h=>h) hx ht) B hκ J ⟨hlt k m hm,m,hm,hF.l2⟩ (λi j=>a2R) (λi j=>a2R) (λ_ _=>rfl):FamOk _ _ _ _ _ _ _ _)
  |bys q g l=>
   obtain⟨hz,V,hl,f,r,cs,ty,e,Z,Q⟩:=X;show T4 _ _ _ _;unfold T4;rw[B,hκ,J];simp only[Ob.toArr] at*;refine⟨hz,V,hl,f,r,cs,ty,e,Z,λi j t hi hj=>?_⟩
   obtain⟨u,hu,M⟩:=Q i j t hi hj;exact⟨u,hu,Rd.closed (E:=E) (E':=E.ren ρ H'.length) (λ_ h=>h) M (r trivial i t hi (A4 hj))⟩
  |same q g sz n row row' W=>
   obtain⟨hz,V,hl,f,r,cs,ty,e,Z,Q⟩:=X;show T4 _ _ _ _;unfold T4;rw[B,hκ,J];simp only[Ob.toArr] at*;refine⟨hz,V,λi hi=>by rw[←W i hi];exact hl i hi,λi t hi ht=>f i t hi (by rw[W i hi];exact ht),λ_ i t hi ht=>r trivial i t hi (by rw[W i hi];exact ht),cs,ty,e,Z,λi j t hi hj=>?_⟩
   rw[←W i hi] at hj;obtain⟨u,hu,M⟩:=Q i j t hi hj;exact⟨u,hu,Rd.closed (E:=E) (E':=E.ren ρ H'.length) (λ_ h=>h) M (r trivial i t hi (A4 hj))⟩
  |ren am ao q g sz n row row' aa W=>
   obtain⟨hz,V,hl,f,r,cs,ty,e,Z,Q⟩:=X;show T4 _ _ _ _;unfold T4;rw[B,hκ,J];simp only[Ob.toArr] at*;have Y:∀i,i<n->(row' i).length=(row i).length:=λi hi=>(K3 (W i hi)).1.symm
   have A:∀(i j:Nat) (t:T),i<n->(row' i)[j]? =some t->∃I:T,(row i)[j]? =some I/\S4 ρ 6 t=some I:=by
    intro i j t hi hj;have hlt:j<(row i).length:=by rw[←Y i hi];exact(w6.1 hj).1
    exact⟨_,J4 hlt,(K3 (W i hi)).2 j t _ hj (J4 hlt)⟩
   refine⟨hz,V,λi hi=>by rw[Y i hi];exact hl i hi,λi t hi ht=>?_,λab i t hi ht=>?_,cs,ty,e,Z,λi j t hi hj=>?_⟩
   ·obtain⟨j,hj⟩:=List.getElem?_of_mem ht
    obtain⟨I,U,F⟩:=A i j t hi hj;exact b7u F (f i I hi (A4 U))
   ·obtain⟨e1,e2⟩:=aa ab;exact r e1 i t hi (by rw[e2 i hi];exact ht)
   ·obtain⟨I,U,F⟩:=A i j t hi hj;obtain⟨u,hu,M⟩:=Q i j I hi U;exact⟨u,hu,Rd.ren hlt 6 F M⟩
  |box am ao q g sz row row' F aa ae al=>
   obtain⟨hz,V,hl,f,r,cs,ty,e,Z,Q⟩:=X;show T4 _ _ _ _;unfold T4;rw[B,hκ,J];simp only[Ob.toArr] at*;have A:∀(j:Nat) (t:T),(row' 0)[j]? =some t->∃I:T,(row 0)[j]? =some I/\K4 ρ I t:=by
    intro j t hj;have hlt:j<(row 0).length:=by rw[ae];exact(w6.1 hj).1
    exact⟨_,J4 hlt,al j _ t (J4 hlt) hj⟩
   refine⟨hz,V,λi hi=>?_,λi t hi ht=>?_,λab i t hi ht=>?_,cs,ty,e,Z,λi j t hi hj=>?_⟩
   ·obtain rfl:i=0:=by omega
    rw[←ae];exact hl 0 hi
   ·obtain rfl:i=0:=by omega
    exact F t ht
   ·obtain rfl:i=0:=by omega
    exact aa ab t ht
   ·obtain rfl:i=0:=by omega
    obtain⟨I,U,d,ar,ai,hle⟩:=A j t hj;obtain⟨u,hu,M⟩:=Q 0 j I hi U;exact⟨u,hu,Rd.ren hlt d ai (hle _ _ _ M)⟩
 ·obtain⟨m,ob,hm,hob,hx⟩:=e hk B;obtain⟨m',ob',aj,ac,ag⟩:=e hk' ap;have:m=m':=h.heap.inj m m' ob ob' b hob ac hx ag;subst this;exact af k k' m (by rw[hk];rfl) (by rw[hk'];rfl) hm aj
 ·obtain⟨m,ob,hm,hob,hle⟩:=hH k ob' hk;obtain⟨_,m2,hm2,hv⟩:=hv;rw[hm] at hm2;simp only[X2] at hm2;subst hm2;obtain⟨v0,ty,sz,n,row,rfl,hle2⟩:=h.heap.cur m ob v hob hv;cases hle with
  |fam _ _ g _ _ _ pU _=>exact⟨v0,g,sz,n,pU,rfl,hle2⟩
 ·obtain⟨m,ob,hm,hob,hx⟩:=e hk B;exact h.bnew m ob b hob hx
 ·obtain⟨l1,l2,l3,l4⟩:=h.keep.L k hk hL;have hk':=hid k hk;refine⟨⟨hlt k k hk',k,hk',l1⟩,?_,?_,?_⟩<;>simp only[Env.ren,hk',Option.getD_some]<;>assumption
 ·obtain⟨l1,l2⟩:=h.keep.L2 k v hk hv;have hk':=hid k hk;refine⟨⟨hlt k k hk',k,hk',l1⟩,λi j=>?_⟩
  simp only[Env.ren,hk',Option.getD_some];exact l2 i j
theorem b6A{s e:W5}{a:Act}(f:∀k m,ρ k=some m->k<H'.length)(J:∀k k' m,(Z1 H' k).isSome=true->(Z1 H' k').isSome=true->ρ k=some m->ρ k'=some m->k=k')
  (u:∀p ∈ e,K4 ρ (zY s p.1) p.2) (v:∀k ob',Z1 H' k=some ob'->∃m ob,ρ k=some m/\Z1 H m=some ob/\OLe ρ ob ob') (r:∀k,k<c.m->ρ k=some k) (h:jQ c s H a w):jQ c e H' a w:=by
 obtain⟨E,g⟩:=h;refine⟨E.ren ρ H'.length,g.defers,g.size,⟨λi _=>?_,λi hi=>absurd (λq Q=>nK) hi⟩,a9g f J v r g.inv⟩
 ·have l:zY e i= .und∨(i,zY e i) ∈ e:=by
   rename_i n;clear u n;induction e with
   |nil=>exact .inl rfl
   |cons x e ih=>
    obtain⟨j,t⟩:=x;simp only[zY];split
    ·rename_i B;obtain rfl:=G1 B;exact .inr W8
    ·rcases ih with h|h
     ·exact .inl h
     ·exact .inr (by simp[h])
  rcases l with h|h
  ·rw[h];exact .und _
  ·obtain⟨d,z,R,o⟩:=u _ h;exact Rd.ren f d R (o _ _ _ (g.slots.on i (λq Q=>nK)))
def u7:List (Option Nat)->Nat->Option Nat
 | [],_=>none
 |m::_,0=>m
 |_::r,k+1=>u7 r k
def memO(m:Nat):List (Option Nat)->Bool
 | []=>false
 |none::r=>memO m r
 |some k::r=>Nat.beq m k||memO m r
def a2j:List (Option Nat)->Bool
 | []=>true
 |none::r=>a2j r
 |some m::r=> !memO m r&&a2j r
def a5k:List (Option Nat)->Y4->List (Option Nat)
 |x::r,some _::H=>x::a5k r H
 |_::r,none::H=>none::a5k r H
 |_,_=>[]
theorem c3u:∀{l:List (Option Nat)} {k m:Nat},u7 l k=some m->k<l.length:=by
 intro l;induction l with
 |nil=>intro k m h;simp[u7] at h
 |cons x l i=>
  intro k m h;cases k with
  |zero=>simp
  |succ k=>simp only[u7] at h;have:=i h;simp;omega
theorem a9z:∀{l:List (Option Nat)} {k m:Nat},u7 l k=some m->memO m l=true:=by
 intro l;induction l with
 |nil=>intro k m h;simp[u7] at h
 |cons x l i=>
  intro k m h;cases k with
  |zero=>simp only[u7] at h;subst h;simp[memO]
  |succ k=>simp only[u7] at h;have:=i h;cases x<;>simp[memO,this]
theorem b95:∀{l:List (Option Nat)},a2j l=true->∀k k' m,u7 l k=some m->u7 l k'=some m->k=k':=by
 intro l;induction l with
 |nil=>intro _ k k' m h;simp[u7] at h
 |cons x l i=>
  intro B k k' m h d;have hl:a2j l=true:=by
   cases x with
   |none=>exact B
   |some m=>simp only[a2j,O4] at B;exact B.2
  cases k with
  |zero=>
   cases k' with
   |zero=>rfl
   |succ k'=>
    simp only[u7] at h d;subst h;simp only[a2j,O4] at B;rw[a9z d] at B;simp at B
  |succ k=>
   cases k' with
   |zero=>
    simp only[u7] at h d;subst d;simp only[a2j,O4] at B;rw[a9z h] at B;simp at B
   |succ k'=>
    simp only[u7] at h d;rw[i hl k k' m h d]
theorem a0f:∀{l:List (Option Nat)} {H:Y4} {k m:Nat},(Z1 H k).isSome=true->u7 l k=some m->u7 (a5k l H) k=some m:=by
 intro l;induction l with
 |nil=>intro H k m _ h;simp[u7] at h
 |cons x l i=>
  intro H k m O h;cases H with
  |nil=>simp[Z1] at O
  |cons o H=>
   cases k with
   |zero=>
    cases o with
    |none=>simp[Z1] at O
    |some o=>exact h
   |succ k=>
    have d:(Z1 H k).isSome=true:=by simpa[Z1] using O
    have e:u7 l k=some m:=h;cases o<;>exact i d e
theorem b77{l:List (Option Nat)}{H:Y4}(h:a2j (a5k l H)=true)(k k' m:Nat)(o:(Z1 H k).isSome=true)(d:(Z1 H k').isSome=true)(e:u7 l k=some m)(f:u7 l k'=some m):k=k':=
 b95 h k k' m (a0f o e) (a0f d f)
theorem Sub.refl(m:Nat)(σ:Sy):Sub m σ σ:=λ_ _ _ _ h=>h
theorem b0W:∀{d:Nat} {t e:T},S4 ρ d t=some e->S4 ρ (d+1) t=some e:=by
 have L:∀{f g:T->Option T},(∀a b,f a=some b->g a=some b)->∀{l q:List T},N5 f l=some q->N5 g l=some q:=by
  intro f g h l;induction l with
  |nil=>intro q Q;exact Q
  |cons x l i=>
   intro q Q;simp only[N5] at Q ⊢;split at Q
   ·rename_i B r;rw[h _ _ B,i r];exact Q
   ·cases Q
 intro d;induction d with
 |zero=>intro t e h;simp[S4] at h
 |succ d i=>
  intro t e h;unfold S4 at h ⊢;split at h
  ·exact h
  ·exact h
  ·exact h
  ·exact h
  ·exact h
  ·simp only[G4] at h ⊢;obtain⟨a,A,rfl⟩:=h;exact⟨a,L (λa b B=>i B) A,rfl⟩
  ·simp only[G4] at h ⊢;obtain⟨a,A,rfl⟩:=h;exact⟨a,L (λa b B=>i B) A,rfl⟩
  ·simp only[G4] at h ⊢;obtain⟨a,A,rfl⟩:=h;exact⟨a,L (λa b B=>i B) A,rfl⟩
  ·exact h
theorem b0z{d e:Nat}(f:d<=e){t g:T}(h:S4 ρ d t=some g):S4 ρ e t=some g:=by
 induction f with
 |refl=>exact h
 |step _ i=>exact b0W i
theorem a4y{p:Prop}(h:p:=by rw[h];exact RLe.refl _):p:=h
theorem K4.int{k:IntKind}{a b:Int}(h:a=b):K4 ρ (.int k a) (.int k b):=⟨1,_,rfl,a4y⟩
theorem K4.bool{a b:Bool}(h:a=b):K4 ρ (.bool a) (.bool b):=⟨1,_,rfl,a4y⟩
theorem K4.str{a b:Bz}(h:a=b):K4 ρ (.str a) (.str b):=⟨1,_,rfl,a4y⟩
theorem K4.bys{a b:Bz}(h:a=b):K4 ρ (.bys a) (.bys b):=⟨1,_,rfl,a4y⟩
theorem K4.v{x y:Value}(h:x=y):K4 ρ (.v x) (.v y):=⟨1,_,rfl,a4y⟩
theorem K4.slNil{sz n:Nat}{row:Nat->List T}(h:n=0):K4 ρ (.v (.slice none 0 0)) (.sl sz n row):=⟨1,_,rfl,by subst h;intro E w v hx;cases hx;exact .slNil _ _⟩
theorem K4.bysNil{l:Bz}(h:l=[]):K4 ρ (.v (.slice none 0 0)) (.bys l):=⟨1,_,rfl,by subst h;intro E w v hx;cases hx;exact .bysNil⟩
theorem K4.slE{sz n:Nat}{row:Nat->List T}(h:n=0):K4 ρ .emp (.sl sz n row):=⟨1,_,rfl,by subst h;intro E w v hx;cases hx with|emp a=>cases a with|none=>exact .slNil _ _|some a=>exact .slEmp _ _ _⟩
theorem K4.bysE{l:Bz}(h:l=[]):K4 ρ .emp (.bys l):=⟨1,_,rfl,by subst h;intro E w v hx;cases hx with|emp a=>cases a with|none=>exact .bysNil|some a=>exact .bysEmp _⟩
theorem K4.sl{sz n m:Nat}{row row':Nat->List T}(N:n=m)(h:∀i,i<n->row i=row' i):K4 ρ (.sl sz n row) (.sl sz m row'):=by
 subst N;refine⟨1,_,rfl,λE w v hx=>?_⟩
 cases hx with
 |slNil=>exact .slNil _ _
 |slEmp=>exact .slEmp _ _ _
 |sl _ _ _ b off cap u o e f l q g=>
  exact .sl _ _ _ b off cap u o e (λi hi=>by rw[←h i hi];exact f i hi) (λi t hi d=>l i t hi (by rw[h i hi];exact d)) (λi j t hi d=>q i j t hi (by rw[h i hi];exact d)) (λi j t hi d=>g i j t hi (by rw[h i hi];exact d))
theorem K4.osl{k m off o n N:Nat}(h:ρ k=some m)(O:off=o)(d:n=N):K4 ρ (.osl m off n) (.osl k o N):=by
 subst O;subst d;exact⟨1,.osl m off n,by simp[S4,h],RLe.refl _⟩
theorem K4.ref{k m i I j J:Nat}(h:ρ k=some m)(hi:i=I)(d:j=J):K4 ρ (.ref m i j) (.ref k I J):=by
 subst hi;subst d;exact⟨1,.ref m i j,by simp[S4,h],RLe.refl _⟩
theorem K4.posl{k m v V i I j J n N:Nat}(h:ρ k=some m)(hv:v=V)(hi:i=I)(d:j=J)(e:n=N):K4 ρ (.posl m v i j n) (.posl k V I J N):=by
 subst hv;subst hi;subst d;subst e;exact⟨1,.posl m v i j n,by simp[S4,h],RLe.refl _⟩
theorem K4.mpr{k m:Nat}(h:ρ k=some m):K4 ρ (.mpr m) (.mpr k):=⟨1,.mpr m,by simp[S4,h],RLe.refl _⟩
theorem K4.und(t:T):K4 ρ t .und:=⟨1,_,rfl,λ_ _ v _=>.und v⟩
def b3t(ρ:Nat->Option Nat):List T->List T->Prop
 | [],[]=>True
 |a::r,b::q=>K4 ρ a b/\b3t ρ r q
 |_,_=>False
theorem a13:∀{as bs:List T},b3t ρ as bs->∃d cs,N5 (S4 ρ d) bs=some cs/\as.length=cs.length/\∀(i:Nat) (a c:T),as[i]? =some a->cs[i]? =some c->RLe a c:=by
 have mono:∀{d e:Nat},d<=e->∀{l q:List T},N5 (S4 ρ d) l=some q->N5 (S4 ρ e) l=some q:=by
  intro d e g l;induction l with
  |nil=>intro q Q;exact Q
  |cons x l I=>
   intro q Q;simp only[N5] at Q ⊢;split at Q
   ·rename_i B r;rw[b0z g B,I r];exact Q
   ·cases Q
 intro as;induction as with
 |nil=>
  intro bs h;cases bs with
  |nil=>exact⟨0,[],rfl,rfl,λi a c A=>by simp at A⟩
  |cons=>exact h.elim
 |cons a as I=>
  intro bs h;cases bs with
  |nil=>exact h.elim
  |cons b bs=>
   obtain⟨⟨d,c,C,j⟩,o⟩:=h;obtain⟨e,cs,f,n,L⟩:=I o;refine⟨max d e,c::cs,?_,by simp[n],λi x z hx Z=>?_⟩
   ·simp only[N5,b0z (Nat.le_max_left d e) C,mono (Nat.le_max_right d e) f]
   ·cases i with
    |zero=>simp at hx Z;subst hx;subst Z;exact j
    |succ i=>exact L i x z qP (by simpa using Z)
theorem K4.agg{as bs:List T}(h:b3t ρ as bs):K4 ρ (.agg as) (.agg bs):=by
 obtain⟨d,cs,e,n,l⟩:=a13 h;refine⟨d+1,.agg cs,by simp[S4,e],λE w v hx=>?_⟩
 cases hx with
 |agg _ vs hl f=>
  refine .agg _ vs Z9 λi c x C hx=>?_
  have t:i<as.length:=by rw[n];exact(w6.1 C).1
  exact l i _ c (J4 t) C _ _ _ (f i _ x (J4 t) hx)
theorem K4.tup{as bs:List T}(h:b3t ρ as bs):K4 ρ (.tup as) (.tup bs):=by
 obtain⟨d,cs,e,n,l⟩:=a13 h;refine⟨d+1,.tup cs,by simp[S4,e],λE w v hx=>?_⟩
 cases hx with
 |tup _ vs hl f=>
  refine .tup _ vs Z9 λi c x C hx=>?_
  have t:i<as.length:=by rw[n];exact(w6.1 C).1
  exact l i _ c (J4 t) C _ _ _ (f i _ x (J4 t) hx)
theorem K4.fn{f:Fn}{as bs:List T}(h:b3t ρ as bs):K4 ρ (.fn f as) (.fn f bs):=by
 obtain⟨d,cs,e,n,l⟩:=a13 h;refine⟨d+1,.fn f cs,by simp[S4,e],λE w v hx=>?_⟩
 cases hx with
 |fn _ _ vs hl g=>
  refine .fn _ _ vs Z9 λi c x C hx=>?_
  have t:i<as.length:=by rw[n];exact(w6.1 C).1
  exact l i _ c (J4 t) C _ _ _ (g i _ x (J4 t) hx)
theorem b7e:∀{d:Nat} {t f:T},S4 (λ_=>none) d t=some f->f=t:=by
 intro d;induction d with
 |zero=>intro t f h;simp[S4] at h
 |succ d I=>
  have L:∀{l q:List T},N5 (S4 (λ_=>none) d) l=some q->q=l:=by
   intro l;induction l with
   |nil=>intro q Q;simpa[N5] using Q.symm
   |cons x l i=>
    intro q Q;simp only[N5] at Q;split at Q
    ·rename_i B r;simp only[X2] at Q;rw[←Q,I B,i r]
    ·cases Q
  intro t f h;unfold S4 at h;split at h
  ·simp at h
  ·simp at h
  ·simp at h
  ·simp at h
  ·simp at h
  ·simp only[G4] at h;obtain⟨cs,e,rfl⟩:=h;rw[L e]
  ·simp only[G4] at h;obtain⟨cs,e,rfl⟩:=h;rw[L e]
  ·simp only[G4] at h;obtain⟨cs,e,rfl⟩:=h;rw[L e]
  ·simp only[X2] at h;exact h.symm
theorem K4.rle{t e:T}(h:K4 (λ_=>none) t e):RLe t e:=by
 obtain⟨d,i,g,f⟩:=h;rw[b7e g] at f;exact f
def oA(ρ:Nat->Option Nat):Nat->T->T->Prop
 |0,t,t'=>K4 ρ t t'
 |d+1,t,t'=>
  match t,t' with
  |_,.und=>True
  | .int k a,.int k' b=>match decide (k=k') with|true=>a=b|false=>False
  | .bool a,.bool b=>a=b
  | .str a,.str b=>a=b
  | .bys a,.bys b=>a=b
  | .v x,.v y=>x=y
  | .v (.slice none 0 0),.sl _ n _=>n=0
  | .v (.slice none 0 0),.bys l=>l=[]
  | .emp,.sl _ n _=>n=0
  | .emp,.bys l=>l=[]
  | .emp,.emp=>True
  | .sl sz n row,.sl sz' m row'=>match Nat.beq sz sz' with|true=>n=m/\Z7 n row row'|false=>False
  | .osl m off n,.osl k off' n'=>match ρ k with
   |some M=>match Nat.beq m M with|true=>off=off'/\n=n'|false=>False
   |none=>False
  | .ref m i j,.ref k i' j'=>match ρ k with
   |some M=>match Nat.beq m M with|true=>i=i'/\j=j'|false=>False
   |none=>False
  | .mpr m,.mpr k=>match ρ k with
   |some M=>match Nat.beq m M with|true=>True|false=>False
   |none=>False
  | .posl m v i j n,.posl k v' i' j' n'=>match ρ k with
   |some M=>match Nat.beq m M with|true=>v=v'/\i=i'/\j=j'/\n=n'|false=>False
   |none=>False
  | .agg as,.agg bs=>tlesV (oA ρ d) as bs
  | .tup as,.tup bs=>tlesV (oA ρ d) as bs
  | .fn f as,.fn g bs=>f=g/\tlesV (oA ρ d) as bs
  |t,t'=>K4 ρ t t'
where
 tlesV (f:T->T->Prop):List T->List T->Prop
 | [],[]=>True
 |a::r,b::q=>f a b/\tlesV f r q
 |_,_=>False
theorem oC:∀{d:Nat} {t e:T},oA ρ d t e->K4 ρ t e:=by
 intro d;induction d with
 |zero=>intro t e h;exact h
 |succ d I=>
  have l:∀{as bs:List T},oA.tlesV (oA ρ d) as bs->b3t ρ as bs:=by
   intro as;induction as with
   |nil=>intro bs h;cases bs<;>exact h
   |cons a as i=>
    intro bs h;cases bs with
    |nil=>exact h
    |cons b bs=>exact⟨I h.1,i h.2⟩
  intro t e h;unfold oA at h;split at h
  ·exact K4.und _
  ·split at h
   ·rename_i f;rw[E4 f];exact K4.int h
   ·exact h.elim
  ·exact K4.bool h
  ·exact K4.str h
  ·exact K4.bys h
  ·exact K4.v h
  ·exact K4.slNil h
  ·exact K4.bysNil h
  ·exact K4.slE h
  ·exact K4.bysE h
  ·exact⟨1,_,rfl,RLe.refl _⟩
  ·split at h
   ·rename_i B;rw[G1 B];exact K4.sl h.1 h.2
   ·exact h.elim
  ·split at h
   ·rename_i hr;split at h
    ·rename_i B;rw[G1 B];exact K4.osl hr h.1 h.2
    ·exact h.elim
   ·exact h.elim
  ·split at h
   ·rename_i hr;split at h
    ·rename_i B;rw[G1 B];exact K4.ref hr h.1 h.2
    ·exact h.elim
   ·exact h.elim
  ·split at h
   ·rename_i hr;split at h
    ·rename_i B;rw[G1 B];exact K4.mpr hr
    ·exact h.elim
   ·exact h.elim
  ·split at h
   ·rename_i hr;split at h
    ·rename_i B;rw[G1 B];exact K4.posl hr h.1 h.2.1 h.2.2.1 h.2.2.2
    ·exact h.elim
   ·exact h.elim
  ·exact K4.agg (l h)
  ·exact K4.tup (l h)
  ·obtain⟨rfl,h⟩:=h;exact K4.fn (l h)
  ·exact h
end
inductive Lk where
 |no
 |box (m:Nat)
 |arr (m:Nat)
 |ren (m:Nat)
 |nilC (k j:Nat) (ty:TypeId) (sz:Nat)
 |nilS (i:Nat) (p:List Nat) (ty:TypeId) (sz:Nat)
 |fam (k:Nat)
 |at_ (j:Nat)
 |frz (i:Nat)
 |cel (k j:Nat)
 |vl (i:Nat) (p:List Nat)
 |fav (i:Nat) (p:List Nat)
 |fac (k j:Nat)
def b7d(s:W5):List Lk->List Lk
 | []=>[]
 | .at_ j::r=>(match zY s j with| .osl k _ _=>.arr k| .ref k _ _=>.arr k|_=>.no)::b7d s r
 |x::r=>x::b7d s r
def c2K:Option T->Bool
 |some (.v (.slice none 0 0))=>true
 |some .emp=>true
 |_=>false
def uP(k:Nat):List Nat->T->Option T
 | [],.v (.slice none 0 0)=>some (.osl k 0 0)
 | [],.emp=>some (.osl k 0 0)
 |j::p,.agg cs=>match cs[j]? with
  |some t=>(uP k p t).map λd=>.agg (cs.set j d)
  |none=>none
 |j::p,.tup cs=>match cs[j]? with
  |some t=>(uP k p t).map λd=>.tup (cs.set j d)
  |none=>none
 |_,_=>none
def b6V(σ:Sy):Lk->Option Sy
 | .nilC k j ty sz=>match Z1 σ.H k with
  |some (.arr _ bty bsz n row)=>match n,c2K ((row 0)[j]?),Nat.beq sz 0 with
   |1,true,false=>some ⟨σ.s,(σ.H++[some (Ob.arr true ty sz 0 λ_=>[])]).set k (some (.arr false bty bsz 1 λ_=>(row 0).set j (.osl σ.H.length 0 0)))⟩
   |_,_,_=>none
  |_=>none
 | .nilS i p ty sz=>match uP σ.H.length p (zY σ.s i),Nat.beq sz 0 with
  |some t,false=>some ⟨(i,t)::σ.s,σ.H++[some (.arr true ty sz 0 λ_=>[])]⟩
  |_,_=>none
 | .fam k=>match Z1 σ.H k with
  |some (.arr true ty sz n row)=>some ⟨σ.s,σ.H.set k (some (.fam 0 ty sz n row))⟩
  |_=>none
 | .frz i=>match M6 0 (I2 (m3 σ.H 64 (jS [zY σ.s i]) []) σ.H 0) 6 (zY σ.s i) with
  |some (t,none)=>some ⟨(i,t)::σ.s,D7 σ.H (m3 σ.H 64 (jS [zY σ.s i]) [])⟩
  |_=>none
 |_=>some σ
def a8U:List Nat->T->Option Nat
 | [],.osl k _ _=>some k
 |j::p,.agg cs=>match cs[j]? with
  |some t=>a8U p t
  |none=>none
 |j::p,.tup cs=>match cs[j]? with
  |some t=>a8U p t
  |none=>none
 |_,_=>none
def c2n(H:Y4)(k j:Nat):Option Nat:=
 match Z1 H k with
 |some (.arr _ _ _ _ row)=>match(row 0)[j]? with
  |some (.osl m _ _)=>some m
  |_=>none
 |_=>none
def c6x(σ:Sy):Lk->Lk
 | .fav i p=>match a8U p (zY σ.s i) with
  |some k=>.fam k
  |none=>.no
 | .fac k j=>match c2n σ.H k j with
  |some k=>.fam k
  |none=>.no
 |x=>x
def c6d(σ:Sy)(x:Lk):Option Sy:=b6V σ (c6x σ x)
def b2g(σ:Sy):List Lk->Option Sy
 | []=>some σ
 |x::r=>match c6d σ x with
  |some σ'=>b2g σ' r
  |none=>none
def Lk.isG:Lk->Bool
 | .nilC .. | .nilS .. | .fam _| .frz _| .fav .. | .fac .. =>true
 |_=>false
def a1D:List Lk->List Lk
 | []=>[]
 |x::r=>match x.isG with
  |true=>a1D r
  |false=>x::a1D r
def b4M:Option Nat->Lk
 |some m=>.arr m
 |none=>.no
def cK(s:W5)(H:Y4):List Lk->List Lk
 | []=>[]
 | .cel k j::r=>b4M (c2n H k j)::cK s H r
 | .vl i p::r=>b4M (a8U p (zY s i))::cK s H r
 |x::r=>x::cK s H r
def Lk.old:Lk->Option Nat
 | .no| .nilC .. | .nilS .. | .fam _| .at_ _| .frz _| .cel .. | .vl .. | .fav .. | .fac .. =>none
 | .box m| .arr m| .ren m=>some m
def B0:List Lk->List (Option Nat)
 | []=>[]
 |x::r=>x.old::B0 r
def xE(ρ:Nat->Option Nat)(n:Nat)(row row':Nat->List T):Prop:=∀i,i<n->N5 (S4 ρ 6) (row' i)=some (row i)
def obV(ρ:Nat->Option Nat)(H:Y4)(lk:Lk)(o:Option Ob):Prop:=
 match o with
 |none=>True
 |some O=>match lk with
  | .no| .nilC .. | .nilS .. | .fam _| .at_ _| .frz _| .cel .. | .vl .. | .fav .. | .fac .. =>False
  | .box m=>match Z1 H m,O with
   |some (.arr _ _ sz n row),.arr cl' _ sz' n' row'=>match Nat.beq sz sz'&&(row' 0).all I7&&(!cl'||(row' 0).all W7) with
    |true=>n=1/\n'=1/\oA.tlesV (oA ρ 6) (row 0) (row' 0)
    |false=>False
   |_,_=>False
  | .arr m=>match Z1 H m,O with
   |some (.bys _ l),.bys _ l'=>l=l'
   |some (.arr true _ sz n row),.arr true _ sz' n' row'=>match Nat.beq sz sz' with
    |true=>n=n'/\Z7 n row row'
    |false=>False
   |some (.fam v _ sz n row),.fam v' _ sz' n' row'=>match Nat.beq sz sz' with
    |true=>v=v'/\n=n'/\U7 n row row'
    |false=>False
   |some (.mp bo get),.mp bo' get'=>match bo==bo' with
    |true=>∀n,get n=get' n
    |false=>False
   |some (.mp2 get),.mp2 get'=>∀a b,get a b=get' a b
   |_,_=>False
  | .ren m=>match Z1 H m,O with
   |some (.arr _ _ sz n row),.arr false _ sz' n' row'=>match Nat.beq sz sz' with
    |true=>n=n'/\xE ρ n row row'
    |false=>False
   |_,_=>False
def a56(ρ:Nat->Option Nat)(s:W5):W5->Prop
 | []=>True
 |(j,t)::r=>oA ρ 6 (zY s j) t/\a56 ρ s r
def a8H(ρ:Nat->Option Nat)(H:Y4):List Lk->Y4->Prop
 | [],[]=>True
 |lk::l,o::r=>obV ρ H lk o/\a8H ρ H l r
 |_,_=>False
def idB:Nat->Nat->List (Option Nat)->Bool
 |0,_,_=>true
 |m+1,i,some k::r=>Nat.beq i k&&idB m (i+1) r
 |_+1,_,_=>false
def cD(m:Nat)(l:List Lk)(σ σ':Sy):Prop:=
 match b2g σ l with
 |some σ=>match a2j (a5k (B0 (cK σ.s σ.H (a1D l))) σ'.H)&&idB m 0 (B0 (cK σ.s σ.H (a1D l))) with
  |true=>a56 (u7 (B0 (cK σ.s σ.H (a1D l)))) σ.s σ'.s/\a8H (u7 (B0 (cK σ.s σ.H (a1D l)))) σ.H (cK σ.s σ.H (a1D l)) σ'.H
  |false=>False
 |none=>False
def a4s(m:Nat)(l:Option (List Lk))(σ σ':Sy):Prop:=
 match l with
 |some l=>cD m l σ σ'
 |none=>False
def frz(H:Y4)(s:W5):List Nat->Option (W5×Option Prop)
 | []=>some ([],none)
 |i::r=>match M6 0 H 6 (zY s i),frz H s r with
  |some (t,p),some (q,p')=>some ((i,t)::q,nJ p p')
  |_,_=>none
inductive Ann:Type 1
 |none
 |unr (n:Nat) (sub:Nat->Nat->Ann)
 |one (ι:Type) (I:ι->Sy) (μ:ι->Nat) (lin lback:List Lk) (sub:ι->Nat->Ann)
 |onef (ks:List Nat) (ι:Type) (I:ι->Sy) (μ:ι->Nat) (lback:List Lk) (sub:ι->Nat->Ann)
 |two (ι₁ ι₂:Type) (I₁:ι₁->Sy) (I₂:ι₂->Sy) (μ₁:ι₁->Nat) (μ₂:ι₂->Nat) (l1 l2 l11 l12 l21 l22:Option (List Lk)) (sub₁:ι₁->Nat->Ann) (sub₂:ι₂->Nat->Ann)
def sC:Code->Nat
 | .seq a b=>sC a+sC b
 | .cond _ a b=>sC a+sC b
 | .block _ b=>sC b
 | .loop b=>sC b+1
 |_=>0
def a8v(step:Nat->(Sy->Prop)->Sy->Prop):Nat->Sy->Prop
 |0,_=>False
 |n+1,σ=>step n (a8v step n) σ
def cC(P:Program)(G:I5)(nt M:Nat):Code->Nat->(Exit->Sy->(Nat->Ann)->Prop)->Sy->(Nat->Ann)->Prop
 | .skip,_,Q,σ,A=>Q .normal σ A
 | .region _ ops draw,_,Q,σ,A=>match draw with
  |false=>yJ P G nt ops ops.toList σ.s [] σ.H λs H=>Q .normal ⟨s,H⟩ A
  |true=>pH P G nt ops σ.s σ.H λs H=>Q .normal ⟨s,H⟩ A
 | .seq a b,k,Q,σ,A=>cC P G nt M a k (λe σ' A'=>match e with| .normal=>cC P G nt M b (k+sC a) Q σ' A'|e=>Q e σ' A') σ A
 | .cond c x y,k,Q,σ,A=>match L3 σ.s c with
  | .bool b=>(b=true->cC P G nt M x k Q σ A)/\(b=false->cC P G nt M y (k+sC x) Q σ A)
  |_=>False
 | .block id body,k,Q,σ,A=>cC P G nt M body k (λe σ' A'=>match e with| .exit i=>(match Nat.beq i id with|true=>Q .normal σ' A'|false=>Q (.exit i) σ' A')|e=>Q e σ' A') σ A
 | .loop body,k,Q,σ,A=>match A k with
  | .none=>False
  | .unr n sub=>a8v (λm next σ'=>cC P G nt M body (k+1) (λe σ'' A'=>match e with| .normal=>next σ''|e=>Q e σ'' A') σ' (sub m)) n σ
  | .one ι I μ lin lback sub=>(∃x,cD M (b7d σ.s lin) σ (I x))/\∀x:ι,cC P G nt M body (k+1) (λe σ' A'=>match e with| .normal=>∃y,cD M (b7d σ'.s lback) σ' (I y)/\Lt (μ y) (μ x)|e=>Q e σ' A') (I x) (sub x)
  | .onef ks ι I μ lback sub=>(match M,frz σ.H σ.s ks with
   |0,some (s',p)=>dD p (∃x,cD 0 [] ⟨s',[]⟩ (I x))
   |_,_=>False)/\∀x:ι,cC P G nt M body (k+1) (λe σ' A'=>match e with| .normal=>∃y,cD M (b7d σ'.s lback) σ' (I y)/\Lt (μ y) (μ x)|e=>Q e σ' A') (I x) (sub x)
  | .two ι₁ ι₂ I₁ I₂ μ₁ μ₂ l1 l2 l11 l12 l21 l22 sub₁ sub₂=>
   ((∃x,a4s M l1 σ (I₁ x))∨(∃x,a4s M l2 σ (I₂ x)))/\
   (∀x:ι₁,cC P G nt M body (k+1) (λe σ' A'=>match e with| .normal=>(∃y,a4s M l11 σ' (I₁ y)/\Lt (μ₁ y) (μ₁ x))∨(∃y,a4s M l12 σ' (I₂ y)/\Lt (μ₂ y) (μ₁ x))|e=>Q e σ' A') (I₁ x) (sub₁ x))/\
   (∀x:ι₂,cC P G nt M body (k+1) (λe σ' A'=>match e with| .normal=>(∃y,a4s M l21 σ' (I₁ y)/\Lt (μ₁ y) (μ₂ x))∨(∃y,a4s M l22 σ' (I₂ y)/\Lt (μ₂ y) (μ₂ x))|e=>Q e σ' A') (I₂ x) (sub₂ x))
 | .exit id,_,Q,σ,A=>Q (.exit id) σ A
 | .ret,_,Q,σ,A=>Q .ret σ A
 |_,_,_,_,_=>False
section
variable {P:Program} {G:I5} {nt m:Nat}
theorem b7o{ρ:Nat->Option Nat}{d:Nat}:∀{as bs:List T},oA.tlesV (oA ρ d) as bs->as.length=bs.length/\∀(j:Nat) (a b:T),as[j]? =some a->bs[j]? =some b->K4 ρ a b:=by
 intro as;induction as with
 |nil=>
  intro bs h;cases bs with
  |nil=>exact⟨rfl,λj a b A=>by simp at A⟩
  |cons=>exact h.elim
 |cons a as i=>
  intro bs h;cases bs with
  |nil=>exact h.elim
  |cons b bs=>
   obtain⟨f,e⟩:=i h.2;refine⟨by simp[f],λj x z hx Z=>?_⟩
   cases j with
   |zero=>simp at hx Z;subst hx;subst Z;exact oC h.1
   |succ j=>exact e j x z qP (by simpa using Z)
theorem c3m{ρ:Nat->Option Nat}{H:Y4}{lk:Lk}{o:Ob}(h:obV ρ H lk (some o)):∃m ob,lk.old=some m/\Z1 H m=some ob/\OLe ρ ob o:=by
 unfold obV at h;split at h
 ·rename_i N;cases N
 ·rename_i ob hob;simp only[X2] at hob;subst hob;split at h
  iterate 10 exact h.elim
  ·split at h
   ·rename_i m _ _ cl ty sz n row cl' ty' sz' n' row' hm;split at h
    ·rename_i hb;simp only[O4,tB,xV] at hb;obtain⟨⟨f,e⟩,g⟩:=hb;obtain⟨rfl,rfl,h⟩:=h;obtain rfl:=G1 f;obtain⟨j,i⟩:=b7o h;exact⟨m,_,rfl,hm,.box cl cl' ty ty' sz row row' (λt d=>i7.1 e t d) (λC t d=>i7.1 (g.resolve_left (by simp[C])) t d) j i⟩
    ·exact h.elim
   ·exact h.elim
  ·split at h
   ·rename_i m _ _ ty l ty' L hm;subst h;exact⟨m,_,rfl,hm,.bys _ _ _⟩
   ·rename_i m _ _ ty sz n row ty' sz' n' row' hm;split at h
    ·rename_i hb;obtain⟨rfl,h⟩:=h;obtain rfl:=G1 hb;exact⟨m,_,rfl,hm,.same _ _ _ _ _ _ h⟩
    ·exact h.elim
   ·rename_i m _ _ v ty sz n row v' ty' sz' n' row' hm;split at h
    ·rename_i hb;obtain⟨rfl,rfl,h⟩:=h;obtain rfl:=G1 hb;exact⟨m,_,rfl,hm,.fam _ _ _ _ _ _ _ h⟩
    ·exact h.elim
   ·rename_i m _ _ bo get bo' get' hm;split at h
    ·rename_i hb;obtain rfl:bo=bo':=by simpa using hb
     exact⟨m,_,rfl,hm,.mp _ _ _ h⟩
    ·exact h.elim
   ·rename_i m _ _ get get' hm;exact⟨m,_,rfl,hm,.mp2 _ _ h⟩
   ·exact h.elim
  ·split at h
   ·rename_i m _ _ cl ty sz n row ty' sz' n' row' hm;split at h
    ·rename_i hb;obtain⟨rfl,h⟩:=h;obtain rfl:=G1 hb;exact⟨m,_,rfl,hm,.ren _ _ _ _ _ _ _ _ (λC=>by cases C) h⟩
    ·exact h.elim
   ·exact h.elim
theorem a3y{ρ:Nat->Option Nat}{H:Y4}:∀{l:List Lk} {H':Y4},a8H ρ H l H'->(B0 l).length=H'.length/\∀k O,Z1 H' k=some O->∃m ob,u7 (B0 l) k=some m/\Z1 H m=some ob/\OLe ρ ob O:=by
 intro l;induction l with
 |nil=>
  intro H' h;cases H' with
  |nil=>exact⟨rfl,λk O d=>aR⟩
  |cons=>exact h.elim
 |cons lk l i=>
  intro H' h;cases H' with
  |nil=>exact h.elim
  |cons o H'=>
   obtain⟨f,e⟩:=i h.2;refine⟨by simp[B0,f],λk O d=>?_⟩
   cases k with
   |zero=>
    have:o=some O:=a8G
    subst this;exact c3m h.1
   |succ k=>exact e k O a8G
theorem b2R{ρ:Nat->Option Nat}{s:W5}:∀{d:W5},a56 ρ s d->∀p ∈ d,K4 ρ (zY s p.1) p.2:=by
 intro d;induction d with
 |nil=>intro _ p hp;cases hp
 |cons x d i=>
  intro h p hp;obtain⟨j,t⟩:=x;rcases vT.1 hp with rfl|hp
  ·exact oC h.1
  ·exact i h.2 p hp
theorem c5E:∀{m i:Nat} {l:List (Option Nat)},idB m i l=true->∀k,k<m->u7 l k=some (i+k):=by
 intro m;induction m with
 |zero=>intro i l _ k d;omega
 |succ m I=>
  intro i l h k d;cases l with
  |nil=>simp[idB] at h
  |cons x l=>
   cases x with
   |none=>simp[idB] at h
   |some x=>
    simp only[idB,O4] at h;cases k with
    |zero=>simp only[u7];rw[←G1 h.1];rfl
    |succ k=>
     simp only[u7];rw[I h.2 k Z9]
     congr 1
     omega
theorem aH{c:Ctx}{E:Env}{H:Y4}{w:World}(h:Inv c E H w)(ty:TypeId)(sz:Nat):Inv c (E.push H.length 0 0 sz) (H++[some (.arr true ty sz 0 λ_=>[])]) w/\Step E w (E.push H.length 0 0 sz) w:=
 h.push (ob:=.arr true ty sz 0 λ_=>[]) rfl rfl rfl (V8 _) (λ_ _=>rfl) 0 0 #[] 0 (λh=>absurd rfl h) (λh=>absurd rfl h) W8 (V8 0) (λi hi=>absurd hi (J5 _)) (λi t hi=>absurd hi (J5 _)) (λ_ i t hi=>absurd hi (J5 _)) (λi j t hi=>absurd hi (J5 _))
theorem b8H{o:Option T}(h:c2K o=true):∃t,o=some t/\∀{E:Env} {w:World} {u:Value},Rd E w t u->∃a,u= .slice a 0 0:=by
 unfold c2K at h;split at h
 ·exact⟨_,rfl,λhx=>⟨none,wK hx⟩⟩
 ·exact⟨_,rfl,λhx=>by cases hx with|emp a=>exact⟨a,rfl⟩⟩
 ·cases h
theorem b06{E:Env}{w:World}{k sz:Nat}(f:Step E w (E.push k 0 0 sz) w):∀(p:List Nat) {t e:T} {x:Value},uP k p t=some e->Rd E w t x->Rd (E.push k 0 0 sz) w e x:=by
 intro p;induction p with
 |nil=>
  intro t e x h hx;have key:(∃a,x= .slice a 0 0)/\e= .osl k 0 0:=by
   unfold uP at h;split at h
   ·simp only[X2] at h;exact⟨⟨none,wK hx⟩,h.symm⟩
   ·simp only[X2] at h;exact⟨by cases hx with|emp a=>exact⟨a,rfl⟩,h.symm⟩
   ·contradiction
   ·contradiction
   ·cases h
  obtain⟨⟨a,rfl⟩,rfl⟩:=key;exact a6B a
 |cons j p I=>
  intro t e x h hx;have l:∀{cs:List T} {vs:Array Value} {t0 t1:T},cs[j]? =some t0->uP k p t0=some t1->cs.length=vs.size->(∀(i:Nat) (t:T) (x:Value),cs[i]? =some t->vs[i]? =some x->Rd E w t x)->
    (cs.set j t1).length=vs.size/\∀(i:Nat) (t:T) (x:Value),(cs.set j t1)[i]? =some t->vs[i]? =some x->Rd (E.push k 0 0 sz) w t x:=by
   intro cs vs t0 t1 h0 h1 hl d;refine⟨by simp[hl],λi t x hi hx=>?_⟩
   rw[List.getElem?_set] at hi
   split at hi
   ·rename_i hji;subst hji;split at hi
    ·simp only[X2] at hi;subst hi;exact I h1 (d j t0 x h0 hx)
    ·cases hi
   ·exact f.rd (d i t x hi hx)
  cases t with
  |agg cs=>
   simp only[uP] at h;split at h
   ·rename_i t0 h0;simp only[G4] at h;obtain⟨t1,h1,rfl⟩:=h;cases hx with
    |agg _ vs hl d=>obtain⟨A,g⟩:=l h0 h1 hl d;exact .agg _ vs A g
   ·cases h
  |tup cs=>
   simp only[uP] at h;split at h
   ·rename_i t0 h0;simp only[G4] at h;obtain⟨t1,h1,rfl⟩:=h;cases hx with
    |tup _ vs hl d=>obtain⟨A,g⟩:=l h0 h1 hl d;exact .tup _ vs A g
   ·cases h
  |_=>simp[uP] at h
theorem c7T{c:Ctx}{E:Env}{H:Y4}{w:World}(h:Inv c E H w){ks:List Nat}{t r:T}{x:Value}(B:M6 0 (I2 ks H 0) 6 t=some (r,none))(hx:Rd E w t x):
  ∃E2,Inv c E2 (D7 H ks) w/\Step E w E2 w/\Rd E2 w r x:=by
 have e:Inv c E (I2 ks H 0) w:=by
  refine⟨⟨λk ob hk=>h.heap.live k ob (N3 hk).1,λk k' o o' b hk d=>h.heap.inj k k' o o' b (N3 hk).1 (N3 d).1,λk hk=>by rw[sU];exact h.heap.lt k hk,h.heap.l2,λk ob v hk=>h.heap.cur k ob v (N3 hk).1⟩,h.nlt,h.nnew,λk ob b hk=>h.bnew k ob b (N3 hk).1,h.fr,h.keep⟩
 have R:=s5 e 6 B trivial hx;let E2:Env:={E with N:=(E.lent 0 (I2 ks H 0)).N}
 have hstep:Step E w E2 w:=⟨⟨λb B=>.inl B,λ_ h=>h,λ_ _=>rfl,λ_ _=>rfl,λ_ _=>rfl,λ_ _ h=>h,λ_ _ _ _ _=>rfl,λ_ _ _ _ _=>rfl⟩,λb _=>rfl,λ_ h=>.inl h⟩
 refine⟨E2,⟨⟨λk ob hk=>?_,λk k' o o' b hk d=>h.heap.inj k k' o o' b (L8 hk).1 (L8 d).1,λk hk=>by rw[H5];exact h.heap.lt k hk,h.heap.l2,λk ob v hk=>h.heap.cur k ob v (L8 hk).1⟩,λb hb'=>?_,λb hb'=>?_,λk ob b hk=>h.bnew k ob b (L8 hk).1,h.fr,h.keep.step hstep⟩,hstep,?_⟩
 ·obtain⟨g1,g2⟩:=L8 hk;obtain⟨e1,e2,e3⟩:=h.heap.live k ob g1;refine⟨e1,e2.mono e1 hstep (λb hb'=>rfl),λb hb' hn=>?_⟩
  have hb':B7 E k ob b:=hb';rcases hn with hn|⟨k2,ob2,_,hk2,hb2⟩
  ·exact e3 b hb' hn
  ·obtain⟨f,g⟩:=N3 hk2;have:=h.heap.inj k k2 ob ob2 b g1 f hb' hb2;rw[C9] at g;exact g2 (this▸g)
 ·rcases hb' with hb'|⟨k2,ob2,_,hk2,hb2⟩
  ·exact h.nlt b hb'
  ·exact e.heap.blt hk2 hb2
 ·rcases hb' with hn|⟨k2,ob2,_,hk2,hb2⟩
  ·exact h.nnew b hn
  ·exact .inr (h.bnew k2 ob2 b (N3 hk2).1 hb2)
 ·exact Rd.mono (w:=w) (w':=w) (E:=E.lent 0 (I2 ks H 0)) (E':=E2) ⟨λ_ h=>h,λ_ h=>absurd h.2 (J5 _),λ_ h=>absurd h.2 (J5 _),λ_ h=>absurd h.2 (J5 _),λ_ h=>absurd h.2 (J5 _),λ_ _ h=>absurd h.2 (J5 _),λ_ _ _ _ h=>absurd h.2 (J5 _),λ_ _ _ _ h=>absurd h.2 (J5 _)⟩ (λ_ _=>rfl) R
theorem b5y{σ σ':Sy}{x:Lk}(h:b6V σ x=some σ'):Sub m σ σ':=by
 intro c a w _ hr;obtain⟨E,hr⟩:=hr;unfold b6V at h;split at h
 ·rename_i k j ty sz;split at h
  case h_2=>cases h
  rename_i cl bty bsz n row hk;split at h
  case h_2=>cases h
  rename_i hnj hsz;obtain⟨tj,hj,htj⟩:=b8H hnj;simp only[X2] at h;subst h;obtain⟨hI,hst⟩:=aH hr.inv ty sz;have hk1:Z1 (σ.H++[some (Ob.arr true ty sz 0 λ_=>[])]) k=some (.arr cl bty bsz 1 row):=by rw[o7,if_pos (H3 hk)];exact hk
  obtain⟨hL,hO,hN⟩:=hI.heap.live k _ hk1;have hO:T4 _ w k ⟨cl,bty,bsz,1,row⟩:=hO;obtain⟨e1,e2,e3,e4,e5,cs,tyc,e6,e7,e8⟩:=hO;have hW:=hI.writeO (w':=w) hk1 rfl rfl rfl (V8 _) (λ_ _ _=>rfl) (.arr false bty bsz 1 λ_=>(row 0).set j (.osl σ.H.length 0 0)) (λb hb=>.inl (hb.arr rfl)) (λv hv=>absurd hv (hI.noL2 hk1 rfl v)) (λhs=>by
   refine⟨e1,e2,λi hi=>?_,λi t hi ht=>?_,λhc=>(by cases hc),cs,tyc,e6,e7,λi q t hi hq=>?_⟩
   ·exact(yT ..).trans (e3 0 (Nat.lt_succ_self 0))
   ·rcases List.mem_or_eq_of_mem_set ht with h1|rfl
    ·exact e4 0 t W8 h1
    ·rfl
   ·obtain rfl:i=0:=by have:i<1:=hi;omega
    have hq2:((row 0).set j (T.osl σ.H.length 0 0))[q]? =some t:=hq;rw[List.getElem?_set] at hq2
    split at hq2
    ·rename_i hjq;subst hjq;split at hq2
     ·simp only[X2] at hq2;subst hq2;obtain⟨u,hu,hru⟩:=e8 0 j _ W8 hj
      refine⟨u,hu,?_⟩
      obtain⟨a,rfl⟩:=htj hru;exact a6B a
     ·cases hq2
    ·exact e8 0 q t W8 hq2)
  exact⟨_,hr.defers,hr.size,⟨λi hi=>hst.rd (hr.slots.on i hi),hr.slots.off⟩,hW.1⟩
 ·rename_i i p ty sz;split at h
  case h_2=>cases h
  rename_i t hs hsz;simp only[X2] at h;subst h;obtain⟨hI,hst⟩:=aH hr.inv ty sz;refine⟨_,hr.defers,hr.size,⟨λq hq=>?_,λq hq=>absurd (λq hq=>wO) hq⟩,hI⟩
  simp only[zY];split
  ·rename_i he;obtain rfl:=G1 he;have:=hr.slots.on q (λq hq=>wO)
   exact b06 hst _ hs this
  ·exact hst.rd (hr.slots.on q (λq hq=>wO))
 ·rename_i k;split at h
  case h_2=>cases h
  rename_i ty sz n row hk;simp only[X2] at h;subst h;have hI:=hr.inv;have hn2:¬E.L2 k 0:=hI.noL2 hk rfl 0;let E':=E.bump k 0 (λ_ _=>0) (λ_ _=>0)
  have hst:Step E w E' w:=⟨Env.bump_le hn2,λ_ _=>rfl,λ_ h=>.inl h⟩
  obtain⟨hL,hO,hN⟩:=hI.heap.live k _ hk;have hO:T4 E w k ⟨true,ty,sz,n,row⟩:=hO;obtain⟨e1,e2,e3,e4,e5,cs,tyc,e6,e7,e8⟩:=hO;simp only at e1 e2 e3 e4 e5 e7 e8;have hco:∀i t,i<n->t ∈ row i->closedOne t=true:=λi t hi ht=>by simp[closedOne,e4 i t hi ht,e5 trivial i t hi ht]
  have nown:∀(i j:Nat) (oty:TypeId) (osz on:Nat) (orow:Nat->List T),i<n->(row i)[j]? =some (.own oty osz on orow)->False:=λi j oty osz on orow hi hj=>by
   have:=hco i _ hi (A4 hj);simp[closedOne,W7] at this
  have hF:FamOk E' w k 0 ty sz n row:=l7 (.inr ⟨rfl,rfl⟩) e1 e2 cs tyc e6 e7 e3 (λr q t hr hq=>by
   obtain⟨u,hu,hru⟩:=e8 r q t hr hq;exact⟨u,hu,.inl ⟨hco r t hr (A4 hq),hst.rd hru⟩⟩) (λi j i' j' oty osz on orow oty' osz' on' orow' hi hi' hj=>(nown i j _ _ _ _ hi hj).elim)
  have hklt:=H3 hk;refine⟨E',hr.defers,hr.size,⟨λi hi=>hst.rd (hr.slots.on i hi),hr.slots.off⟩,hI.to rfl rfl rfl (V8 _) hst k (λi=>i=k) (λ_ h=>h) (λi o hi hne=>?_) (λo ho=>?_) (λ_ _ _=>rfl) (λi hi=>by rw[yT];exact hI.heap.lt i hi) (λi u hu=>?_) (λo i u hi hu=>?_)⟩
  ·rw[T9 hklt,if_neg hne] at hi;exact⟨hi,hne⟩
  ·rw[T9 hklt,if_pos rfl] at ho;simp only[X2] at ho;subst ho;refine⟨hL,hF,λb hb=>.inr ⟨k,_,rfl,hk,?_⟩⟩
   rcases hb with hb|⟨v0,ty0,sz0,n0,K8,i0,j0,oty1,osz1,on1,orow1,hobe,hi0,hj0,hc0,rfl⟩
   ·exact .inl hb
   ·simp only[Ob.fam.injEq] at hobe;obtain⟨rfl,rfl,rfl,rfl,rfl⟩:=hobe;exact(nown _ _ _ _ _ _ hi0 hj0).elim
  ·rcases hu with hu|⟨rfl,_⟩
   ·exact hI.heap.l2 _ _ hu
   ·exact hL
  ·rw[T9 hklt] at hi;split at hi
   ·rename_i he;subst he;simp only[X2] at hi;subst hi;refine⟨_,_,_,_,_,rfl,?_⟩
    rcases hu with hu|⟨_,rfl⟩
    ·exact absurd hu (hI.noL2 hk rfl u)
    ·exact V8 _
   ·rename_i hne;rcases hu with hu|⟨e,_⟩
    ·exact hI.heap.cur _ _ _ hi hu
    ·exact absurd e hne
 ·rename_i i;split at h
  case h_2=>cases h
  rename_i t hb;simp only[X2] at h;subst h;obtain⟨E2,hI,hst,hrd⟩:=c7T hr.inv hb (hr.slots.on i (λq hq=>wO))
  refine⟨E2,hr.defers,hr.size,⟨λq hq=>?_,λq hq=>absurd (λq hq=>wO) hq⟩,hI⟩
  simp only[zY];split
  ·rename_i he;obtain rfl:=G1 he;exact hrd
  ·exact hst.rd (hr.slots.on q (λq hq=>wO))
 ·simp only[X2] at h;subst h;exact⟨E,hr⟩
theorem c0U:∀{l:List Lk} {σ σ':Sy},b2g σ l=some σ'->Sub m σ σ':=by
 intro l;induction l with
 |nil=>intro σ σ' h;simp only[b2g,X2] at h;subst h;exact Sub.refl m σ
 |cons x l i=>
  intro σ σ' h;simp only[b2g] at h;split at h
  ·rename_i σ1 d;exact λc a w M r=>i h c a w M (b5y (m:=m) (x:=c6x _ _) d c a w M r)
  ·cases h
theorem tZ{l:List Lk}{σ σ':Sy}(h:cD m l σ σ'):Sub m σ σ':=by
 unfold cD at h;split at h
 ·rename_i σ1 hg;split at h
  ·rename_i hi;simp only[O4] at hi;obtain⟨f,e⟩:=a3y h.2;intro c a w M r;exact b6A (ρ:=u7 (B0 (cK σ1.s σ1.H (a1D l)))) (λk m d=>by rw[←f];exact c3u d) (b77 hi.1) (b2R h.1) e (λk d=>by rw[c5E hi.2 k Z9];simp) (c0U (m:=m) hg c a w M r)
  ·exact h.elim
 ·exact h.elim
theorem b5i{c:Ctx}{E:Env}{H:Y4}{w:World}(e:c.m=0)(h:Inv c E H w):Inv c (E.lent 0 H) [] w:=by
 have n:∀k ob,¬Z1 ([]:Y4) k=some ob:=λk ob d=>aR
 refine⟨⟨λk ob d=>absurd d (n k ob),λk k' o o' b d _ _ _=>absurd d (n k o),λk d=>absurd d.2 (J5 k),λk v hv=>absurd hv.2 (J5 k),λk ob v d=>absurd d (n k ob)⟩,λx hx=>?_,λx hx=>?_,λk ob b d=>absurd d (n k ob),h.fr,⟨λb B=>.inl (h.keep.N b B),λk d=>Z9,h.keep.same,λk v d=>Z9⟩⟩
 ·rcases hx with hx|⟨k,ob,_,hob,hx⟩
  ·exact h.nlt x hx
  ·exact h.heap.blt hob hx
 ·rcases hx with hx|⟨k,ob,hkb,hob,hx⟩
  ·exact h.nnew x hx
  ·exact .inr (h.bnew k ob x hob hx)
theorem b9W{H:Y4}{s:W5}:∀{ks:List Nat} {d:W5} {p:Option Prop},frz H s ks=some (d,p)->p.getD True->∀i,zY d i= .und∨∃q,M6 0 H 6 (zY s i)=some (zY d i,q)/\q.getD True:=by
 intro ks;induction ks with
 |nil=>
  intro d p h _ i;simp only[frz,X2,U0] at h;obtain⟨rfl,_⟩:=h;exact .inl rfl
 |cons j r I=>
  intro d p h hp i;simp only[frz] at h;split at h
  ·rename_i t q1 q p' h1 h2;simp only[X2,U0] at h;obtain⟨rfl,rfl⟩:=h;obtain⟨hp1,hp2⟩:=yM hp;simp only[zY];split
   ·rename_i e;obtain rfl:=G1 e;exact .inr ⟨_,h1,hp1⟩
   ·exact I h2 hp2 i
  ·cases h
theorem c4V{σ:Sy}{ks:List Nat}{d:W5}{p:Option Prop}(h:frz σ.H σ.s ks=some (d,p))(hp:p.getD True):Sub 0 σ ⟨d,[]⟩:=by
 intro c a w C r;obtain⟨E,r⟩:=r;refine⟨E.lent 0 σ.H,r.defers,r.size,⟨λi _=>?_,λi hx=>absurd (λq Q=>nK) hx⟩,b5i C r.inv⟩
 rcases b9W h hp i with hi|⟨q,hi,Q⟩
 ·show Rd _ w (zY d i) _;rw[hi];exact .und _
 ·exact s5 r.inv 6 hi Q (r.slots.on i (λq Q=>nK))
theorem qZ{l:Option (List Lk)}{σ σ':Sy}(h:a4s m l σ σ'):Sub m σ σ':=by
 unfold a4s at h;split at h
 ·exact tZ h
 ·exact h.elim
theorem yR{s:W5}{op:Op}{k k':I5->Prop}(d:∀G',k G'->k' G')(h:gM G s op k):gM G s op k':=by
 unfold gM at h ⊢;split at h
 ·exact d _ h
 ·split at h
  ·obtain⟨x,hx⟩:=h;exact⟨x,d _ hx⟩
  ·split at h
   ·rcases h with⟨x,hx⟩|⟨x,hx⟩
    ·exact .inl ⟨x,d _ hx⟩
    ·exact .inr ⟨x,d _ hx⟩
   ·obtain⟨x,hx⟩:=h;exact⟨x,d _ hx⟩
  ·obtain⟨x,hx⟩:=h;exact⟨x,d _ hx⟩
  ·obtain⟨x,hx⟩:=h;exact⟨x,d _ hx⟩
  ·exact d _ h
theorem cX{s:W5}:∀{p:D4} {q q':Prop},(q->q')->B6 s p q->B6 s p q':=by
 intro p;induction p with
 |nil=>intro q q' Q h;exact Q h
 |cons x p i=>
  intro q q' Q h;obtain⟨t,b⟩:=x;simp only[B6] at h ⊢;split at h
  ·exact i (λh e=>Q (h e)) h
  ·exact h.elim
theorem pK{all:Array Oper}{K K':W5->Y4->Prop}(d:∀s H,K s H->K' s H):∀(t:List Oper) (s:W5) (ps:A3) (H:Y4),yJ P G nt all t s ps H K->yJ P G nt all t s ps H K':=by
 intro t;induction t with
 |nil=>intro s ps H h;exact d _ _ h
 |cons o t i=>
  intro s ps H h;have A:∀{p:D4} {side:Option Prop} {q q':Prop},(q->q')->kX s p side q->kX s p side q':=by
   intro p side q q' Q h;cases side with
   |none=>exact Q h
   |some r=>exact⟨h.1,Q h.2⟩
  unfold yJ at h ⊢;split at h
  ·split at h
   ·exact h.elim
   ·split at h
    ·exact λb B=>i _ _ _ (h b B)
    ·refine yR (λG' h=>?_) h
     split at h
     ·exact A (i _ _ _) h
     ·exact h.elim
  ·split at h
   ·split at h
    ·split at h
     ·exact h.elim
     ·split at h
      ·refine yR (λG' h=>?_) h
       split at h
       ·exact A (i _ _ _) h
       ·exact h.elim
      ·split at h
       ·exact h.elim
       ·refine yR (λG' h=>?_) h
        split at h
        ·exact A (λh=>⟨cX (i _ _ _) h.1,λn=>i _ _ _ (h.2 n)⟩) h
        ·exact h.elim
    ·exact h.elim
   ·exact h.elim
theorem a7a{all:Array Oper}{b:Nat}{H0:Y4}{K K':W5->Y4->Prop}(d:∀s H,K s H->K' s H):∀(t:List Oper) (i:Nat) (e:List (Nat×Oper×RW)) (B:List Nat) (s:W5) (ps:A3) (hist:List (Nat×Y4)),
  tO P G nt all b H0 t i e B s ps hist K->tO P G nt all b H0 t i e B s ps hist K':=by
 intro t;induction t with
 |nil=>intro i e B s ps hist h;exact d _ _ h
 |cons o t I=>
  intro i e B s ps hist h;have A:∀{p:D4} {side:Option Prop} {q q':Prop},(q->q')->kX s p side q->kX s p side q':=by
   intro p side q q' Q h;cases side with
   |none=>exact Q h
   |some r=>exact⟨h.1,Q h.2⟩
  unfold tO at h ⊢;split at h
  ·exact h.elim
  ·split at h
   ·split at h
    ·exact h.elim
    ·split at h
     ·split at h
      ·exact A (I _ _ _ _ _ _) h
      ·exact h.elim
     ·split at h
      ·refine yR (λG' h=>?_) h
       split at h
       ·exact A (I _ _ _ _ _ _) h
       ·exact h.elim
      ·refine yR (λG' h=>?_) h
       split at h
       ·exact A (I _ _ _ _ _ _) h
       ·exact h.elim
   ·split at h
    ·split at h
     ·split at h
      ·exact h.elim
      ·refine yR (λG' h=>?_) h
       split at h
       ·exact A (I _ _ _ _ _ _) h
       ·exact h.elim
     ·exact h.elim
    ·exact h.elim
theorem a5b{all:Array Oper}{K K':W5->Y4->Prop}{s:W5}{H:Y4}(d:∀s H,K s H->K' s H):∀{R:List Oper},lS P G nt all s H K R->lS P G nt all s H K' R:=by
 intro R h;cases R with
 |nil=>exact h
 |cons o R=>
  unfold lS at h ⊢;dsimp only at h ⊢;split at h
  ·exact h.elim
  ·rename_i hp;intro b;have hb:=h b;split at hb
   ·rename_i t H' side he;cases side with
    |none=>exact pK d _ _ _ _ hb
    |some r=>exact⟨hb.1,pK d _ _ _ _ hb.2⟩
   ·exact hb.elim
theorem a3W{ops:Array Oper}{K K':W5->Y4->Prop}{s:W5}{H:Y4}(d:∀s H,K s H->K' s H)(h:pH P G nt ops s H K):pH P G nt ops s H K':=by
 have one:∀{o:Array Oper} {G:I5} {K K':W5->Y4->Prop},(∀s H,K s H->K' s H)->a7W P G nt o s H K->a7W P G nt o s H K':=λ{o G K K'} d h=>a7a d _ _ _ _ _ _ _ h
 unfold pH at h ⊢;split at h
 ·exact one d h
 ·split at h
  ·exact one d h
  ·split at h
   ·exact one d h
   ·exact one (λs H h=>a5b d h) h
theorem a6F:∀(C:Code) (k:Nat) (Q:Exit->Sy->(Nat->Ann)->Prop) (Q':Exit->Sy->Prop) (σ:Sy) (A:Nat->Ann),(∀e σ A,Q e σ A->Q' e σ)->cC P G nt m C k Q σ A->vc P G nt (Sub m) C Q' σ:=by
 intro C;induction C with
 |skip=>intro k Q Q' σ A d h;exact d _ _ _ h
 |region id ops W=>
  intro k Q Q' σ A d h;simp only[cC,vc] at h ⊢;split at h
  ·exact pK (λs H q=>d _ _ _ q) _ _ _ _ h
  ·exact a3W (λs H q=>d _ _ _ q) h
 |seq x y X g=>
  intro k Q Q' σ A d h;simp only[cC,vc] at h ⊢;refine X _ _ _ _ _ (λe σ' A' h'=>?_) h
  cases e with
  |normal=>exact g _ _ _ _ _ d h'
  |_=>exact d _ _ _ h'
 |cond F x y X g=>
  intro k Q Q' σ A d h;simp only[cC,vc] at h ⊢;split at h
  ·rename_i b f;rw[f];exact⟨λB=>X _ _ _ _ _ d (h.1 B),λB=>g _ _ _ _ _ d (h.2 B)⟩
  ·exact h.elim
 |block id body ih=>
  intro k Q Q' σ A d h;simp only[cC,vc] at h ⊢;refine ih _ _ _ _ _ (λe σ' A' h'=>?_) h
  cases e with
  |exit i=>
   simp only at h' ⊢;split at h'
   ·rename_i f;rw[f];exact d _ _ _ h'
   ·rename_i f;rw[f];exact d _ _ _ h'
  |_=>exact d _ _ _ h'
 |loop body ih=>
  intro k Q Q' σ A d h;simp only[cC,vc] at h ⊢;split at h
  ·exact h.elim
  ·rename_i n sub hA;refine⟨{p:Nat×Sy//a8v (λr next σ'=>cC P G nt m body (k+1) (λe σ'' A'=>match e with| .normal=>next σ''|e=>Q e σ'' A') σ' (sub r)) p.1 p.2},λp=>p.1.2,λp=>p.1.1,⟨⟨(n,σ),h⟩,λc a w _ hr=>hr⟩,λx=>?_⟩
   obtain⟨⟨j,τ⟩,hx⟩:=x;cases j with
   |zero=>exact hx.elim
   |succ j=>
    refine ih _ _ _ _ _ (λe σ' A' h'=>?_) hx
    cases e with
    |normal=>exact⟨⟨(j,σ'),h'⟩,λc a w _ hr=>hr,Nat.lt_succ_self j⟩
    |_=>exact d _ _ _ h'
  ·rename_i ι I μ lin lback sub hA;obtain⟨⟨x0,h0⟩,hround⟩:=h;refine⟨ι,I,μ,⟨x0,tZ h0⟩,λx=>ih _ _ _ _ _ (λe σ' A' h'=>?_) (hround x)⟩
   cases e with
   |normal=>obtain⟨y,Y,t⟩:=h';exact⟨y,tZ Y,t⟩
   |_=>exact d _ _ _ h'
  ·rename_i ks ι I μ lback sub hA;obtain⟨h0,hround⟩:=h;split at h0
   ·rename_i v p z;have o:p.getD True/\∃x,cD 0 [] ⟨v,[]⟩ (I x):=by
     cases p with
     |none=>exact⟨trivial,h0⟩
     |some p=>exact h0
    obtain⟨hp,x0,l⟩:=o;refine⟨ι,I,μ,⟨x0,λc a w u hr=>tZ l c a w u (c4V z hp c a w u hr)⟩,λx=>ih _ _ _ _ _ (λe σ' A' h'=>?_) (hround x)⟩
    cases e with
    |normal=>obtain⟨y,Y,t⟩:=h';exact⟨y,tZ Y,t⟩
    |_=>exact d _ _ _ h'
   ·exact h0.elim
  ·rename_i ι₁ ι₂ I₁ I₂ μ₁ μ₂ l1 l2 l11 l12 l21 l22 sub₁ sub₂ hA;obtain⟨h0,h1,h2⟩:=h;refine⟨ι₁ ⊕ ι₂,λx=>match x with| .inl x=>I₁ x| .inr x=>I₂ x,λx=>match x with| .inl x=>μ₁ x| .inr x=>μ₂ x,?_,λx=>?_⟩
   ·rcases h0 with⟨x,hx⟩|⟨x,hx⟩
    ·exact⟨.inl x,qZ hx⟩
    ·exact⟨.inr x,qZ hx⟩
   ·cases x with
    |inl x=>
     refine ih _ _ _ _ _ (λe σ' A' h'=>?_) (h1 x)
     cases e with
     |normal=>
      rcases h' with⟨y,Y,t⟩|⟨y,Y,t⟩
      ·exact⟨.inl y,qZ Y,t⟩
      ·exact⟨.inr y,qZ Y,t⟩
     |_=>exact d _ _ _ h'
    |inr x=>
     refine ih _ _ _ _ _ (λe σ' A' h'=>?_) (h2 x)
     cases e with
     |normal=>
      rcases h' with⟨y,Y,t⟩|⟨y,Y,t⟩
      ·exact⟨.inl y,qZ Y,t⟩
      ·exact⟨.inr y,qZ Y,t⟩
     |_=>exact d _ _ _ h'
 |exit id=>intro k Q Q' σ A d h;exact d _ _ _ h
 |ret=>intro k Q Q' σ A d h;exact d _ _ _ h
 |_=>intro k Q Q' σ A d h;simp[cC] at h
def c6Q(res r:T):Prop:=oA (λ_=>none) 6 r res
def c5M(P:Program)(G:I5)(nt:Nat)(r:List ResultVar)(C:Code)(args:List T)(res:T)(A:Nat->Ann):Prop:=
 cC P G nt 0 C 0 (λe σ _=>b40 P r (c6Q res) e σ) ⟨qG 0 args,[]⟩ A
theorem c6r(M:P.follows .mixedOrders=true)(g:C6 P G)(d:∀x ∈ G,Q2 P x.1){f:FuncId}{fn:Func}{C:Code}{args:List T}{res:T}(F:P.funcs[f]? =some fn)(B:fn.body=some C)(t:args.length<=fn.ntmps)
  (A:Nat->Ann) (h:c5M P G fn.ntmps fn.results.toList C args res A):V4 P f args res:=by
 refine c1p M g d F B t (a6F _ _ _ _ _ _ (λe σ A' hq=>?_) h)
 have mono:∀{p:Option Prop} {q q':Prop},(q->q')->dD p q->dD p q':=by
  intro p q q' hq h;cases p with
  |none=>exact hq h
  |some p=>exact⟨h.1,hq h.2⟩
 unfold b40 at hq ⊢;split at hq
 ·split at hq
  ·split at hq
   ·exact mono (mono λh=>K4.rle (oC h)) hq
   ·exact hq.elim
  ·exact hq.elim
 ·split at hq
  ·split at hq
   ·exact mono (mono λh=>K4.rle (oC h)) hq
   ·exact hq.elim
  ·exact hq.elim
 ·exact hq.elim
end
def iA(b:Nat)(H:Y4)(o:Option Ob):Option (Option Ob×Option Prop):=
 match o with
 |none=>some (none,none)
 |some (.arr false ty sz n row)=>match n with
  |1=>match N5 (M6 b H 6) (row 0) with
   |some cs=>some (some (.arr (cs.all λx=>W7 x.1) ty sz 1 λ_=>cs.map (·.1)),wW cs)
   |none=>none
  |_=>none
 |some ob=>some (some ob,none)
def fK:List (Option Ob×Option Prop)->Option Prop
 | []=>none
 |x::r=>nJ x.2 (fK r)
def lks:Nat->List Bool->List Lk
 |_,[]=>[]
 |i,true::r=>.box i::lks (i+1) r
 |i,false::r=>.arr i::lks (i+1) r
def b9N(P:Program)(R:List ResultVar)(bs:List Bool)(res:T)(Hres:Y4):Exit->Sy->Prop
 | .normal,σ| .ret,σ=>match b7f P σ.s σ.H R with
  |some (r,p)=>match M6 bs.length σ.H 6 r,N5 (iA bs.length σ.H) (σ.H.take bs.length) with
   |some (r',p'),some os=>dD p (dD p' (dD (fK os) (oA (u7 (B0 (lks 0 bs))) 6 r' res/\a8H (u7 (B0 (lks 0 bs))) (os.map (·.1)) (lks 0 bs) Hres)))
   |_,_=>False
  |none=>False
 |_,_=>False
def c2s(P:Program)(G:I5)(nt:Nat)(r:List ResultVar)(C:Code)(args:List T)(H:Y4)(bs:List Bool)(res:T)(Hres:Y4)(A:Nat->Ann):Prop:=
 cC P G nt bs.length C 0 (λe σ _=>b9N P r bs res Hres e σ) ⟨qG 0 args,H⟩ A
section
variable {c:Ctx} {E:Env} {H:Y4} {w:World} {P:Program} {G:I5}
theorem b0Y:∀{l:List (Option Ob×Option Prop)},(fK l).getD True->∀x ∈ l,x.2.getD True:=by
 intro l;induction l with
 |nil=>intro _ x hx;cases hx
 |cons y l i=>
  intro h x hx;simp only[fK] at h;obtain⟨e,d⟩:=yM h;rcases vT.1 hx with rfl|hx
  ·exact e
  ·exact i d x hx
theorem a7Y{b:Nat}{d:Nat}{t r:T}{p:Option Prop}(h:M6 b H d t=some (r,p))(e:I7 t=true):I7 r=true:=by
 cases d with
 |zero=>simp[M6] at h
 |succ d=>
  unfold M6 at h;split at h
  ·split at h
   ·simp only[X2,U0] at h;rw[←h.1];rfl
   ·split at h
    ·split at h
     ·split at h
      ·split at h
       ·simp only[X2,U0] at h;rw[←h.1];rfl
       ·cases h
      ·cases h
     ·cases h
    ·cases h
  ·split at h
   ·simp only[X2,U0] at h;rw[←h.1];rfl
   ·split at h
    ·simp only[X2,U0] at h;rw[←h.1];rfl
    ·simp only[X2,U0] at h;rw[←h.1];rfl
    ·simp only[X2,U0] at h;rw[←h.1];rfl
    ·split at h
     ·split at h
      ·split at h
       ·simp only[X2,U0] at h;rw[←h.1];rfl
       ·cases h
      ·cases h
     ·cases h
    ·cases h
  ·simp[I7] at e
  ·simp only[G4,U0] at h;obtain⟨_,_,rfl,_⟩:=h;rfl
  ·simp[I7] at e
  ·cases h
  ·split at h
   ·simp only[X2,U0] at h;rw[←h.1];rfl
   ·split at h
    ·simp only[X2,U0] at h;rw[←h.1];rfl
    ·cases h
  ·split at h
   ·simp only[X2,U0] at h;rw[←h.1];rfl
   ·cases h
  ·cases h
  ·simp only[X2,U0] at h;rw[←h.1];exact e
theorem gE:∀(bs:List Bool) (i k:Nat),u7 (B0 (lks i bs)) k=if k<bs.length then some (i+k) else none:=by
 intro bs;induction bs with
 |nil=>intro i k;simp[lks,B0,u7]
 |cons b bs I=>
  intro i k;cases b<;>
  ·simp only[lks,B0,Lk.old];cases k with
   |zero=>simp[u7]
   |succ k=>
    simp only[u7,I,List.length_cons];by_cases h:k<bs.length
    ·rw[if_pos h,if_pos Z9];congr 1;omega
    ·rw[if_neg h,if_neg Z9]
theorem b5R:∀(l:List Lk),(B0 l).length=l.length:=by
 intro l;induction l with
 |nil=>rfl
 |cons x l i=>simp[B0,i]
theorem b9t:∀(bs:List Bool) (i:Nat),(lks i bs).length=bs.length:=by
 intro bs;induction bs with
 |nil=>intro i;rfl
 |cons b bs h=>intro i;cases b<;>simp[lks,h]
theorem c3T{b:Nat}{os:List (Option Ob×Option Prop)}(hc0:c.m=0)(h:Inv c E H w)(hm:N5 (iA b H) (H.take b)=some os)(hs:(fK os).getD True):Inv c (E.lent b H) (os.map (·.1)) w:=by
 obtain⟨m1,m2⟩:=K3 hm;have hget:∀k ob',Z1 (os.map (·.1)) k=some ob'->k<b/\∃ob,Z1 H k=some ob/\∃p,iA b H (some ob)=some (some ob',p)/\p.getD True:=by
  intro k ob' hk;have hlt:k<(os.map (·.1)).length:=H3 hk;have hlt1:k<os.length:=by simpa using hlt
  have hlt2:k<(H.take b).length:=by rw[←m1];exact hlt1
  have hkb:k<b:=by simp at hlt2;omega
  have hkH:k<H.length:=by simp at hlt2;omega
  have he:=m2 k _ _ (J4 hlt2) (J4 hlt1)
  have hk':os[k].1=some ob':=by
   unfold Z1 at hk;simp only[pW,J4 hlt1,m8,Option.bind_some,id] at hk
   exact hk
  have hside:=b0Y hs _ (List.getElem_mem hlt1);rw[List.getElem_take] at he;cases hob:H[k] with
  |none=>
   rw[hob] at he;simp only[iA,X2] at he;rw[←he] at hk';cases hk'
  |some ob=>
   rw[hob] at he;refine⟨hkb,ob,?_,os[k].2,?_,hside⟩
   ·unfold Z1;rw[J4 hkH,hob]
    rfl
   ·rw[he,←hk']
 have hstep:∀t x,W7 t=true->Rd E w t x->Rd (E.lent b H) w t x:=λt x ht hx=>Rd.closed (E:=E) (E':=E.lent b H) (λ_ h=>Or.inl h) hx ht
 have hblk:∀{k:Nat} {ob':Ob} {x:Nat},Z1 (os.map (·.1)) k=some ob'->B7 (E.lent b H) k ob' x->∃ob,k<b/\Z1 H k=some ob/\B7 E k ob x:=by
  intro k ob' x hk hx;obtain⟨hkb,ob,hob,p,hfin,hp⟩:=hget k ob' hk;refine⟨ob,hkb,hob,?_⟩
  rcases hx with hx|⟨v,ty,sz,n,row,i,j,oty,osz,on,orow,rfl,hi,hj,hc,rfl⟩
  ·exact .inl hx
  ·unfold iA at hfin;split at hfin
   ·cases hfin
   ·split at hfin
    ·split at hfin
     ·cases hfin
     ·cases hfin
    ·cases hfin
   ·rename_i he;simp only[X2,U0] at hfin he;obtain⟨rfl,_⟩:=hfin;subst he;exact .inr ⟨v,ty,sz,n,row,i,j,oty,osz,on,orow,rfl,hi,hj,hc,rfl⟩
 refine⟨⟨λk ob' hk=>?_,λk k' o o' x hk hk' hx hx'=>?_,λk hk=>?_,λk v hv=>⟨h.heap.l2 k v hv.1,hv.2⟩,λk ob' v hk hv=>?_⟩,λx hx=>?_,λx hx=>?_,λk ob' x hk hx=>?_,h.fr,⟨λb hb=>.inl (h.keep.N b hb),λk hk=>Z9,h.keep.same,λk v hk=>Z9⟩⟩
 ·obtain⟨hkb,ob,hob,p,hfin,hp⟩:=hget k ob' hk;obtain⟨hL,hO,hN⟩:=h.heap.live k ob hob;refine⟨⟨hL,hkb⟩,?_,λx hx hN'=>?_⟩
  ·unfold iA at hfin;split at hfin
   ·rename_i he;cases he
   ·rename_i ty0 sz n row he;simp only[X2] at he;subst he;obtain⟨hz0,hn,hl,hone,hcl,cs,ty,hblk,hsz,hc⟩:=hO;simp only[Ob.toArr] at hz0 hn hl hone hcl hsz hc;split at hfin
    ·rename_i n0;split at hfin
     ·rename_i cs' hcs';simp only[X2,U0] at hfin;obtain⟨rfl,rfl⟩:=hfin;obtain⟨q1,q2⟩:=K3 hcs';have hgc:∀(j:Nat) (t':T),(cs'.map (·.1))[j]? =some t'->∃t p,(row 0)[j]? =some t/\M6 b H 6 t=some (t',p)/\p.getD True:=by
       intro j t' hj;simp only[pW,G4] at hj
       obtain⟨x,hx,rfl⟩:=hj;have hlt:j<(row 0).length:=by rw[←q1];exact(w6.1 hx).1
       exact⟨_,x.2,J4 hlt,q2 j _ x (J4 hlt) hx,b7 hp x (A4 hx)⟩
      refine⟨hz0,hn,λi hi=>?_,λi t hi ht=>?_,λhall i t hi ht=>?_,cs,ty,hblk,hsz,λi j t hi hj=>?_⟩
      ·simp only[Ob.toArr,List.length_map,q1];exact hl 0 (Nat.lt_succ_self 0)
      ·obtain⟨j,hj⟩:=List.getElem?_of_mem ht
       obtain⟨t0,p0,h0,hb0,_⟩:=hgc j t hj;exact a7Y hb0 (hone 0 t0 Z9 (A4 h0))
      ·obtain⟨x,hx,rfl⟩:=List.mem_map.1 ht;exact i7.1 hall x hx
      ·obtain rfl:i=0:=by have:i<1:=hi;omega
       obtain⟨t0,p0,h0,hb0,hp0⟩:=hgc j t hj;obtain⟨u,hu,hr⟩:=hc 0 j t0 Z9 h0
       exact⟨u,hu,s5 h 6 hb0 hp0 hr⟩
     ·cases hfin
    ·cases hfin
   ·rename_i ob2 hne he;simp only[X2] at he;subst he;simp only[X2,U0] at hfin;obtain⟨rfl,rfl⟩:=hfin;by_cases hia:ob.isArr=true
    case neg=>
     cases ob with
     |mp bo get=>
      obtain⟨h0,es,clock,h1,h2⟩:=hO;exact(⟨h0,es,clock,h1,h2⟩:b0y _ _ _ _ _)
     |mp2 get=>
      obtain⟨h0,es,clock,h1,h2⟩:=hO;exact(⟨h0,es,clock,h1,h2⟩:a1j _ _ _ _)
     |fam v ty sz n row=>
      have hF:FamOk E w k v ty sz n row:=hO;exact(FamOk.ren (E2:=E.lent b H) (w':=w) hF (dT _) (λt x _ ht hx=>hstep t x ht hx) rfl rfl rfl ⟨hF.l2,hkb⟩ (λ_ _=>rfl) (λ_ _=>rfl) (λ_ _=>rfl):FamOk _ _ _ _ _ _ _ _)
     |_=>exact absurd rfl hia
    obtain⟨hz0,hn,hl,hone,hcl,cs,ty,hblk,hsz,hc⟩:=hO.arr hia;have hclo:ob.toArr.cl=true:=by
     cases ob with
     |bys=>rfl
     |mp=>rfl
     |mp2=>rfl
     |fam=>cases hia
     |arr cl ty sz n row=>cases cl with
      |true=>rfl
      |false=>exact absurd rfl (hne _ _ _ _)
    refine T4.ob ?_ hia
    refine⟨hz0,hn,hl,hone,hcl,cs,ty,hblk,hsz,λi j t hi hj=>?_⟩
    obtain⟨u,hu,hr⟩:=hc i j t hi hj;exact⟨u,hu,hstep t u (hcl hclo i t hi (A4 hj)) hr⟩
  ·obtain⟨ob3,_,hob3,hx⟩:=hblk hk hx;rw[hob] at hob3;simp only[X2] at hob3;subst hob3;rcases hN' with hN'|⟨k',ob2,hk',hob2,he⟩
   ·exact hN x hx hN'
   ·have:=h.heap.inj k k' ob ob2 x hob hob2 hx he;omega
 ·obtain⟨ob,_,hob,hx⟩:=hblk hk hx;obtain⟨ob',_,hob',hx'⟩:=hblk hk' hx';exact h.heap.inj k k' ob ob' x hob hob' hx hx'
 ·have:=h.heap.lt k hk.1;simp only[List.length_map,m1,List.length_take];have:=hk.2;omega
 ·obtain⟨hkb,ob,hob,p,hfin,hp⟩:=hget k ob' hk;obtain⟨v0,ty,sz,n,row,rfl,hle⟩:=h.heap.cur k ob v hob hv.1;simp only[iA,X2,U0] at hfin;exact⟨v0,ty,sz,n,row,hfin.1.symm,hle⟩
 ·rcases hx with hx|⟨k,ob,_,hob,hx⟩
  ·exact h.nlt x hx
  ·exact h.heap.blt hob hx
 ·rcases hx with hx|⟨k,ob,hkb,hob,hx⟩
  ·exact h.nnew x hx
  ·exact .inr (h.bnew k ob x hob hx)
 ·obtain⟨ob,_,hob,hx⟩:=hblk hk hx;exact h.bnew k ob x hob hx
theorem aF{vs:Array Value}{args:List T}{nt:Nat}(d:HeapOk E w H)(f:∀b,E.N b->b<w.heap.size)(A:tT E w args vs)(t:args.length<=nt):
  RealE ⟨w,XB E H,E.N,nt,E,H.length⟩ E (qG 0 args) [] H {tmps:=vs++Array.replicate (nt-vs.size) undef,defers:=[]} w:=by
 have n:args.length=vs.size:=A.1;refine⟨rfl,H4,⟨λi _=>?_,λi hi=>absurd (λq Q=>nK) hi⟩,⟨d,f,λb B=>.inl B,λk ob b e B=>.inr ⟨k,ob,e,B⟩,⟨rfl,rfl,rfl,V8 _,λ_ _ _=>rfl⟩,⟨λ_ h=>h,λ_ _ h=>⟨h,rfl,rfl,rfl⟩,λ_ _=>rfl,λ_ _ _ h=>⟨h,λ_ _=>⟨rfl,rfl⟩⟩⟩⟩⟩
 rw[a0F,if_pos (O3 _),Nat.sub_zero];simp only[R2,Array.getD_eq_getD_getElem?,Array.getElem?_append]
 by_cases hi:i<vs.size
 ·rw[if_pos hi,J4 Z9,uJ hi]
  exact A.2 i _ _ (J4 Z9) (uJ hi)
 ·rw[List.getElem?_eq_none Z9]
  exact .und _
theorem c3f(hm:P.follows .mixedOrders=true)(hG:C6 P G)(W:∀x ∈ G,Q2 P x.1){f:FuncId}{fn:Func}{C:Code}{args:List T}{H Hres:Y4}{bs:List Bool}{res:T}(hf:P.funcs[f]? =some fn)(O:fn.body=some C)(R:args.length<=fn.ntmps)
  (hl:H.length=bs.length) (A:Nat->Ann) (h:c2s P G fn.ntmps fn.results.toList C args H bs res Hres A):H6 P f args H res Hres:=by
 intro E w vs u hN ha;have ab:vs.size=args.length:=ha.1.symm;have J:=a6F (P:=P) (G:=G) (nt:=fn.ntmps) (m:=bs.length) C 0 _ (λe σ=>b9N P fn.results.toList bs res Hres e σ) _ A (λe σ A' hq=>hq) h
 rw[←hl] at J;refine calls_of_wp hf O (Code.wp_mono (λe Z w' hh=>?_) (b4f (c:=⟨w,XB E H,E.N,fn.ntmps,E,H.length⟩) hm hG W C _ _ _ w J ⟨E,aF u hN ha R⟩))
 obtain⟨σ',hq,E',hr⟩:=hh;have t:∀k,E.L k->k<bs.length:=λk g=>by rw[←hl];exact u.lt k g
 have M:b9N P fn.results.toList bs res Hres .ret σ'->Z.defers=[]/\∃v,(results fn Z.tmps).run P w'= .ok v w'/\
   ∃v' E',Ending.returned v= .returned v'/\Inv ⟨w,XB E H,E.N,0,E,0⟩ E' Hres w'/\Stp E w E' w'/\Rd E' w' res v':=by
  intro hq;have g:=hr.inv.keep;have l:(∀b,E.N b->E'.N b)/\(∀k,E.L k->E'.L k/\E'.β k=E.β k/\E'.κ k=E.κ k/\E'.z k=E.z k)/\∀b,E.N b->w'.heap[b]? =w.heap[b]? :=⟨g.N,λk o=>g.L k (u.lt k o) o,g.same⟩
  have X:Inv ⟨w,XB E H,E.N,0,E,0⟩ E' σ'.H w':=⟨hr.inv.heap,hr.inv.nlt,hr.inv.nnew,hr.inv.bnew,hr.inv.fr,⟨g.N,λk h=>absurd h (J5 _),g.same,λk v h=>absurd h (J5 _)⟩⟩
  refine⟨hr.defers,?_⟩
  simp only[b9N] at hq;split at hq
  ·rename_i r p hres;split at hq
   ·rename_i r' p' os hbor hfin;obtain⟨hp,hq⟩:=rV hq;obtain⟨hp',hq⟩:=rV hq;obtain⟨hos,htl,hhp⟩:=rV hq;obtain⟨v,hrun,hrd⟩:=a2s (P:=P) hr.inv.heap (λi=>hr.slots.on i (λq hq=>wO)) hres hp
    have U:=c3T (b:=bs.length) rfl X hfin hos;obtain⟨e1,e2⟩:=a3y hhp;have B:Hres.length=bs.length:=by rw[←e1,b5R,b9t]
    have I:∀k m,u7 (B0 (lks 0 bs)) k=some m->k<Hres.length:=λk m g=>by
     rw[gE] at g;split at g
     ·omega
     ·cases g
    have F:∀k m,u7 (B0 (lks 0 bs)) k=some m->m=k:=λk m g=>by
     rw[gE] at g;split at g
     ·simp at g;omega
     ·cases g
    have Q:=a9g (ρ:=u7 (B0 (lks 0 bs))) (H':=Hres) I (λk k' m _ _ h1 h2=>by rw[←F k m h1,←F k' m h2]) e2 (λk g=>absurd g (J5 _)) U
    have n:∀k,E.L k->(u7 (B0 (lks 0 bs)) k)=some k:=λk g=>by rw[gE,if_pos (t k g)];simp
    refine⟨v,hrun,v,_,rfl,Q,⟨⟨λb O=>.inl (l.1 b O),λk g=>⟨?_,k,n k g,(l.2.1 k g).1,t k g⟩,λk g=>?_,λk g=>?_,λk g=>?_,λk v hv=>?_,λk v i j hv=>?_,λk v i j hv=>?_⟩,λb O=>l.2.2 b O⟩,?_⟩
    ·rw[B];exact t k g
    ·simp only[Env.ren,n k g,Option.getD_some];exact(l.2.1 k g).2.1
    ·simp only[Env.ren,n k g,Option.getD_some];exact(l.2.1 k g).2.2.1
    ·simp only[Env.ren,n k g,Option.getD_some];exact(l.2.1 k g).2.2.2
    ·have o:=u.l2 k v hv;exact⟨by rw[B];exact t k o,k,n k o,(g.L2 k v (u.lt k o) hv).1,t k o⟩
    ·have o:=u.l2 k v hv;simp only[Env.ren,n k o,Option.getD_some];exact((g.L2 k v (u.lt k o) hv).2 i j).1
    ·have o:=u.l2 k v hv;simp only[Env.ren,n k o,Option.getD_some];exact((g.L2 k v (u.lt k o) hv).2 i j).2
    ·obtain⟨d,aa,V,Y⟩:=oC htl;exact Rd.ren I d V (Y _ _ _ (s5 hr.inv 6 hbor hp' hrd))
   ·exact hq.elim
  ·exact hq.elim
 cases e with
 |normal=>exact M hq
 |ret=>exact M hq
 |_=>exact hq.elim
end
inductive ObEq:Option Ob->Option Ob->Prop
 |same (o:Option Ob):ObEq o o
 |rows (cl:Bool) (ty ty':TypeId) (sz n:Nat) (row row':Nat->List T) (h:∀i,i<n->row i=row' i):ObEq (some (.arr cl ty sz n row)) (some (.arr cl ty' sz n row'))
def b9H:Y4->Y4->Prop
 | [],[]=>True
 |o::r,o'::r'=>ObEq o o'/\b9H r r'
 |_,_=>False
theorem b8e:∀{H H':Y4},b9H H H'->H.length=H'.length/\∀k,ObEq (Z1 H k) (Z1 H' k):=by
 intro H;induction H with
 |nil=>intro H' h;cases H' with
  |nil=>exact⟨rfl,λk=>.same _⟩
  |cons=>exact h.elim
 |cons o H i=>intro H' h;cases H' with
  |nil=>exact h.elim
  |cons o' H'=>
   obtain⟨e,d⟩:=i h.2;refine⟨by simp[e],λk=>?_⟩
   cases k with
   |zero=>simpa[Z1] using h.1
   |succ k=>simpa[Z1] using d k
theorem rQ{P:Program}{f:FuncId}{args:List T}{H H1 H':Y4}{res:T}(J:b9H H H1)(h:H6 P f args H1 res H'):H6 P f args H res H':=by
 obtain⟨I,B⟩:=b8e J;have key:∀k ob,Z1 H k=some ob->∃ob',Z1 H1 k=some ob'/\(ob'=ob∨∃cl ty d sz n row row',ob= .arr cl ty sz n row/\ob'= .arr cl d sz n row'/\∀i,i<n->row i=row' i):=by
  intro k ob hk;have:=B k;rw[hk] at this;generalize Z1 H1 k=b at this;cases this with
  |same=>exact⟨ob,rfl,.inl rfl⟩
  |rows cl ty d sz n row row' h=>exact⟨_,rfl,.inr ⟨cl,ty,d,sz,n,row,row',rfl,rfl,h⟩⟩
 have key':∀k ob',Z1 H1 k=some ob'->∃ob,Z1 H k=some ob/\(ob'=ob∨∃cl ty d sz n row row',ob= .arr cl ty sz n row/\ob'= .arr cl d sz n row'/\∀i,i<n->row i=row' i):=by
  intro k ob hk;have:=B k;rw[hk] at this;generalize Z1 H k=b at this;cases this with
  |same=>exact⟨ob,rfl,.inl rfl⟩
  |rows cl ty d sz n row row' h=>exact⟨_,rfl,.inr ⟨cl,ty,d,sz,n,row,row',rfl,rfl,h⟩⟩
 intro E w vs hH Q M;have hbk:∀k ob ob' b,(ob'=ob∨∃cl ty d sz n row row',ob= .arr cl ty sz n row/\ob'= .arr cl d sz n row'/\∀i,i<n->row i=row' i)->(B7 E k ob' b↔B7 E k ob b):=by
  intro k ob ob' b hc;rcases hc with rfl|⟨cl,ty,d,sz,n,row,row',rfl,rfl,_⟩
  ·exact Iff.rfl
  ·exact⟨λhb=>.inl (hb.arr rfl),λhb=>.inl (hb.arr rfl)⟩
 have F:XB E H1=XB E H:=by
  funext b
  refine propext ⟨λ⟨k,ob',hk,hb⟩=>?_,λ⟨k,ob,hk,hb⟩=>?_⟩
  ·obtain⟨ob,hk',hc⟩:=key' k ob' hk;exact⟨k,ob,hk',(hbk k ob ob' b hc).1 hb⟩
  ·obtain⟨ob',hk',hc⟩:=key k ob hk;exact⟨k,ob',hk',(hbk k ob ob' b hc).2 hb⟩
 have u:HeapOk E w H1:=by
  refine⟨λk ob' hk=>?_,λk k' o o' b hk hk' hb A=>?_,λk hk=>by rw[←I];exact hH.lt k hk,hH.l2,λk ob' v hk hv=>?_⟩
  ·obtain⟨ob,hk',hc⟩:=key' k ob' hk;obtain⟨l1,l2,l3⟩:=hH.live k ob hk';refine⟨l1,?_,λb hb=>l3 b ((hbk k ob ob' b hc).1 hb)⟩
   rcases hc with rfl|⟨cl,ty,d,sz,n,row,row',rfl,rfl,hr⟩
   ·exact l2
   ·obtain⟨Z,N,hl,g,L,cs,C,l,z,hc⟩:=l2;simp only[Ob.toArr] at*;exact⟨Z,N,λi hi=>(congrArg List.length (hr i hi)).symm.trans (hl i hi),λi t hi r=>g i t hi ((hr i hi)▸r),λe i t hi r=>L e i t hi ((hr i hi)▸r),cs,C,l,z,λi j t hi O=>hc i j t hi ((hr i hi)▸O)⟩
  ·obtain⟨x,hx,hc⟩:=key' k o hk;obtain⟨X,q,e⟩:=key' k' o' hk';exact hH.inj k k' x X b hx q ((hbk k x o b hc).1 hb) ((hbk k' X o' b e).1 A)
  ·obtain⟨ob,hk',hc⟩:=key' k ob' hk;obtain⟨v0,ty,sz,n,row,rfl,hle⟩:=hH.cur k ob v hk' hv;rcases hc with rfl|⟨_,_,_,_,_,_,_,he,_⟩
   ·exact⟨v0,ty,sz,n,row,rfl,hle⟩
   ·cases he
 have:=h E w vs u Q M;rw[F] at this;exact this
def a7Z:Y4->List Lk->Y4->Bool
 |H,lk::l,some _::r=>(match lk.old with|some m=>(Z1 H m).isSome|none=>false)&&a7Z H l r
 |H,_::l,none::r=>a7Z H l r
 |_,_,_=>true
def c7m(σ:Sy)(l:List Lk)(σ':Sy):Bool:=
 match b2g σ l with
 |some σ1=>a7Z σ1.H (cK σ1.s σ1.H (a1D l)) σ'.H
 |none=>false
def b8m(m:Nat)(σ σ':Sy):List (List Lk)->Prop
 | []=>False
 | [l]=>cD m l σ σ'
 |l::r=>match c7m σ l σ' with
  |true=>cD m l σ σ'
  |false=>b8m m σ σ' r
theorem b9X{m:Nat}{σ σ':Sy}:∀{L:List (List Lk)},b8m m σ σ' L->Sub m σ σ':=by
 intro L;induction L with
 |nil=>intro h;exact h.elim
 |cons l L i=>
  intro h;cases L with
  |nil=>exact tZ h
  |cons d L=>
   simp only[b8m] at h;split at h
   ·exact tZ h
   ·exact i h
def c1d(P:Program)(R:List ResultVar)(m:Nat)(lk:List (List Lk))(res:T)(Hres:Y4):Exit->Sy->Prop
 | .normal,σ| .ret,σ=>match b7f P σ.s σ.H R with
  |some (r,p)=>dD p (b8m m ⟨[(0,r)],σ.H⟩ ⟨[(0,res)],Hres⟩ lk)
  |none=>False
 |_,_=>False
def c2w(P:Program)(G:I5)(nt:Nat)(r:List ResultVar)(C:Code)(args:List T)(H:Y4)(res:T)(Hres:Y4)(A:Nat->Ann)(lk:List (List Lk)):Prop:=
 cC P G nt H.length C 0 (λe σ _=>c1d P r H.length lk res Hres e σ) ⟨qG 0 args,H⟩ A
theorem c3o{P:Program}{G:I5}(X:P.follows .mixedOrders=true)(W:C6 P G)(B:∀x ∈ G,Q2 P x.1){f:FuncId}{fn:Func}{C:Code}{args:List T}{H Hres:Y4}{res:T}(R:P.funcs[f]? =some fn)(O:fn.body=some C)(z:args.length<=fn.ntmps)
  (A:Nat->Ann) (lk:List (List Lk)) (h:c2w P G fn.ntmps fn.results.toList C args H res Hres A lk):H6 P f args H res Hres:=by
 intro E w vs n Y J;have Z:vs.size=args.length:=J.1.symm;have t:=a6F (P:=P) (G:=G) (nt:=fn.ntmps) (m:=H.length) C 0 _ (λe σ=>c1d P fn.results.toList H.length lk res Hres e σ) _ A (λe σ A' hq=>hq) h
 refine calls_of_wp R O (Code.wp_mono (λe F w' V=>?_) (b4f (c:=⟨w,XB E H,E.N,fn.ntmps,E,H.length⟩) X W B C _ _ _ w t ⟨E,aF n Y J z⟩))
 obtain⟨σ',hq,E',hr⟩:=V;have M:c1d P fn.results.toList H.length lk res Hres .ret σ'->F.defers=[]/\∃v,(results fn F.tmps).run P w'= .ok v w'/\
   ∃v' E',Ending.returned v= .returned v'/\Inv ⟨w,XB E H,E.N,0,E,0⟩ E' Hres w'/\Stp E w E' w'/\Rd E' w' res v':=by
  intro hq;refine⟨hr.defers,?_⟩
  simp only[c1d] at hq;split at hq
  ·rename_i r p hres;obtain⟨hp,hq⟩:=rV hq;obtain⟨v,hrun,hrd⟩:=a2s (P:=P) hr.inv.heap (λi=>hr.slots.on i (λq hq=>wO)) hres hp
   refine⟨v,hrun,v,?_⟩
   have I:=hr.inv;have Q:jQ ⟨w,XB E H,E.N,1,E,H.length⟩ [(0,r)] σ'.H {tmps:= #[v],defers:=[]} w':=by
    refine⟨E',rfl,rfl,⟨λi _=>?_,λi hi=>absurd (λq hq=>wO) hi⟩,⟨I.heap,I.nlt,I.nnew,I.bnew,I.fr,⟨I.keep.N,I.keep.L,I.keep.same,I.keep.L2⟩⟩⟩
    cases i with
    |zero=>exact hrd
    |succ i=>exact .und _
   obtain⟨E2,o⟩:=b9X hq ⟨w,XB E H,E.N,1,E,H.length⟩ _ w' rfl Q;have d:=o.inv;have g:=d.keep;refine⟨E2,rfl,⟨d.heap,d.nlt,d.nnew,d.bnew,d.fr,⟨g.N,λk h=>absurd h (J5 _),g.same,λk v h=>absurd h (J5 _)⟩⟩,⟨⟨g.N,λk l=>?_,λk l=>?_,λk l=>?_,λk l=>?_,λk u U=>?_,λk u i j U=>?_,λk u i j U=>?_⟩,g.same⟩,?_⟩
   ·exact(g.L k (n.lt k l) l).1
   ·exact(g.L k (n.lt k l) l).2.1
   ·exact(g.L k (n.lt k l) l).2.2.1
   ·exact(g.L k (n.lt k l) l).2.2.2
   ·exact(g.L2 k u (n.lt k (n.l2 k u U)) U).1
   ·exact((g.L2 k u (n.lt k (n.l2 k u U)) U).2 i j).1
   ·exact((g.L2 k u (n.lt k (n.l2 k u U)) U).2 i j).2
   ·exact o.slots.on 0 (λq hq=>wO)
  ·exact hq.elim
 cases e with
 |normal=>exact M hq
 |ret=>exact M hq
 |_=>exact hq.elim
def lI(P:Program):Nat->TypeId->Bool
 |0,_=>false
 |d+1,t=>match P.underlying t with
  |some .bool=>Nat.beq (P.cellsOf t) 1
  |some (.int _)=>Nat.beq (P.cellsOf t) 1
  |some .string=>Nat.beq (P.cellsOf t) 1
  |some (.slice e)=>Nat.beq (P.cellsOf t) 1&&Nat.blt 0 (P.cellsOf e)&&lI P d e
  |some (.struct fs)=>(Nat.beq (endsAt fs.toList 0) (P.cellsOf t)&&Nat.blt (P.cellsOf t) 18446744073709551616)&&fs.toList.all λf=>lI P d f.type
  |_=>false
where
 endsAt:List Field->Nat->Nat
 | [],n=>n
 |f::r,n=>match Nat.beq f.offset n with
  |true=>endsAt r (n+P.cellsOf f.type)
  |false=>18446744073709551616
def dI{H:Type}:DataW H->Int
 | .lit (.int _ n)=>n
 |_=>0
def dB{H:Type}:DataW H->Bool
 | .lit (.bool b)=>b
 |_=>false
def dS{H:Type}:DataW H->Bz
 | .lit (.string l)=>l
 |_=>[]
def sB{H:Type}:DataW H->List (DataW H)
 | .slice xs _=>xs
 |_=>[]
def b4J{H:Type}:DataW H->List (DataW H)
 | .agg xs=>xs
 |_=>[]
def trF{H:Type}(g:TypeId->DataW H->List T):List Field->List (DataW H)->List T
 | [],_=>[]
 |f::r,xs=>g f.type (xs.headD .nil)++trF g r xs.tail
def trT{H:Type}(P:Program):Nat->TypeId->DataW H->List T
 |0,_,_=>[]
 |d+1,t,x=>match P.underlying t with
  |some .bool=>[.bool (dB x)]
  |some (.int k)=>[.int k (dI x)]
  |some .string=>[.str (dS x)]
  |some (.slice e)=>match P.underlying e with
   |some (.int .u8)=>[.bys ((sB x).map byD)]
   |_=>[.sl (P.cellsOf e) (sB x).length λi=>trT P d e ((sB x).getD i .nil)]
  |some (.struct fs)=>trF (trT P d) fs.toList (b4J x)
  |_=>[]
where
 byD:DataW H->UInt8
 | .lit (.int _ n)=>Q8 n
 |_=>0
theorem a9u{H:Type}(g:TypeId->DataW H->List T):∀(fl:List Field) (xs:List (DataW H)),xs.length=fl.length->trF g fl xs=(fl.zip xs).flatMap λp=>g p.1.type p.2
 | [],_,_=>rfl
 |f::fl,[],h=>H8
 |f::fl,x::xs,h=>by
  simp only[trF,List.headD_cons,List.tail_cons,List.zip_cons_cons,List.flatMap_cons];rw[a9u g fl xs A8]
theorem b3P{α β:Type}{f:α->Option β}:∀{l:List α} {q:List β},l.mapM f=some q->q.length=l.length/\∀(i:Nat) (a:α) (b:β),l[i]? =some a->q[i]? =some b->f a=some b:=by
 intro l;induction l with
 |nil=>intro q h;simp at h;subst h;exact⟨rfl,λi a b A=>by simp at A⟩
 |cons x l I=>
  intro q h;simp only[List.mapM_cons,Option.bind_eq_bind,Option.bind_eq_some_iff,Option.pure_def,X2] at h;obtain⟨b,g,q',Q,rfl⟩:=h;obtain⟨j,e⟩:=I Q;refine⟨by simp[j],λi a B A d=>?_⟩
  cases i with
  |zero=>simp at A d;subst A;subst d;exact g
  |succ i=>exact e i a B (by simpa using A) (by simpa using d)
theorem iV{α β:Type}{f:α->Option β}:∀{l:List α} {q:List β},q.length=l.length->(∀(i:Nat) (a:α) (b:β),l[i]? =some a->q[i]? =some b->f a=some b)->l.mapM f=some q:=by
 intro l;induction l with
 |nil=>intro q h _;cases q with|nil=>rfl|cons=>simp at h
 |cons x l I=>
  intro q h F;cases q with
  |nil=>simp at h
  |cons b q=>
   have e:=F 0 x b rfl rfl;have d:=I (q:=q) A8 λi a b A B=>F (i+1) a b (by simpa using A) (by simpa using B)
   simp only[List.mapM_cons,e,d,Option.bind_eq_bind,Option.bind_some,Option.pure_def]
section
variable {H:Type} {enc:TypeId×Value->H} {P:Program} {w w':World} {base:Nat} {held:Bool}
theorem k8{a:Addr}{n:Nat}{cs:List Value}(h:w.cells? base a n=some cs):base<=a.block/\cs.length=n/\∀j v,cs[j]? =some v->w.cell? (a.add j)=some v:=by
 unfold World.cells? at h;split at h
 ·rename_i hb;obtain⟨h1,h2⟩:=b3P h;refine⟨hb,by simpa using h1,λj v hj=>?_⟩
  have t:j<n:=by have:=(w6.1 hj).1;simpa[h1] using this
  exact h2 j j v (by simp[t]) hj
 ·cases h
theorem b6n{a:Addr}{n:Nat}{cs:List Value}(B:base<=a.block)(hl:cs.length=n)(h:∀j v,cs[j]? =some v->w.cell? (a.add j)=some v):w.cells? base a n=some cs:=by
 unfold World.cells?;rw[if_pos B];refine iV a9o λi k v d hv=>?_
 have I:i=k:=by
  have t:=(w6.1 d).1
  simp at t
  simpa[t] using d
 subst I;exact h i v hv
theorem rJ(a:Addr)(n:Nat):(a.add n).block=a.block:=by unfold Addr.add;split<;>rfl
theorem a7V{a:Addr}{n:Nat}{cs:List Value}(W:∀b,b<w.heap.size->w'.heap[b]? =w.heap[b]?)(h:w.cells? base a n=some cs):w'.cells? base a n=some cs:=by
 obtain⟨f,e,g⟩:=k8 h;refine b6n f e λj v J=>?_
 have d:=g j v J;have t:(a.add j).block<w.heap.size:=by
  unfold World.cell? at d;split at d
  ·rename_i B;exact(cP.1 B).1
  ·cases d
 unfold World.cell? at d ⊢;rw[W _ t];exact d
theorem c0J{a:Addr}{n:Nat}(h:0<n):(.cell a.block a.off:MemPlace) ∈ MemPlace.row a n:=by
 unfold MemPlace.row;exact List.mem_map.2 ⟨0,A8,rfl⟩
theorem a6h{v:Nat->Bool}(W:∀b,b<w.heap.size->w'.heap[b]? =w.heap[b]?):∀(d:Nat) {fuel:Nat} {t:TypeId} {cs:List Value} {x:DataW H} {ps:List MemPlace},lI P d t=true->
  DataW.trod enc P w base (λ_=>true) held fuel t cs=some (x,ps)->(∀p ∈ ps,v p.block=true)->DataW.trod enc P w' base v held fuel t cs=some (x,ps):=by
 intro d;induction d with
 |zero=>intro fuel t cs x ps h;simp[lI] at h
 |succ d C=>
  intro fuel t cs x ps hok h q;cases fuel with
  |zero=>simp[DataW.trod] at h
  |succ fuel=>
   unfold lI at hok;split at hok
   ·rename_i hu;obtain⟨b,rfl,he⟩:=DataW.trod_bool hu h;rw[he];simp[DataW.trod,hu]
   ·rename_i k hu;obtain⟨n,rfl,he,F⟩:=DataW.trod_int hu h;rw[he];simp[DataW.trod,hu,F]
   ·rename_i hu;obtain⟨s,rfl,he,F⟩:=DataW.trod_string hu h;rw[he];simp[DataW.trod,hu,F]
   ·rename_i e hu;simp only[O4] at hok;obtain⟨⟨_,hpos⟩,hoe⟩:=hok;have hpos:0<P.cellsOf e:=zP hpos;rcases DataW.trod_slice hu h with⟨rfl,he⟩|⟨a,len,cap,elems,rest,n,hn,rfl,hx,hb,hl,hm,hlen,hel,hsp1,_⟩
    ·rw[he];simp[DataW.trod,hu]
    ·obtain rfl:fuel=n:=by omega
     obtain⟨L,u⟩:=hsp1 rfl;simp only[U0] at hx;obtain⟨hx,g⟩:=hx;have r:∀(i:Nat) (y:DataW H×List MemPlace),y ∈ elems++rest->((w.cells? base (a.add (i*P.cellsOf e)) (P.cellsOf e)).bind (DataW.trod enc P w base (λ_=>true) held fuel e))=some y->
       ((w'.cells? base (a.add (i*P.cellsOf e)) (P.cellsOf e)).bind (DataW.trod enc P w' base v held fuel e))=some y:=by
      intro i y Y h;obtain⟨M,O,J⟩:=Option.bind_eq_some_iff.1 h;rw[a7V W O];simp only[Option.bind_some];obtain⟨N,Q⟩:=y;refine C hoe J λp hp=>q p ?_
      rw[g];exact List.mem_append_right _ (List.mem_flatMap.2 ⟨_,Y,hp⟩)
     have R:∀{n i k:Nat},(List.range n)[i]? =some k->i=k/\k<n:=by
      intro n i k z;have l:=(w6.1 z).1
      simp at l;have:i=k:=by simpa[l] using z
      exact⟨this,this▸l⟩
     have B:(List.range len).mapM (λi=>(w'.cells? base (a.add (i*P.cellsOf e)) (P.cellsOf e)).bind (DataW.trod enc P w' base v held fuel e))=some elems:=
      iV (by simpa using hlen) λi k y z Y=>by
       obtain⟨rfl,l⟩:=R z;exact r i y (List.mem_append_left _ (A4 Y)) ((hel i l).trans Y)
     have o:(List.range (cap-len)).mapM (λj=>(w'.cells? base (a.add ((len+j)*P.cellsOf e)) (P.cellsOf e)).bind (DataW.trod enc P w' base v held fuel e))=some rest:=
      iV (by simpa using L) λi k y z Y=>by
       obtain⟨rfl,l⟩:=R z;exact r (len+i) y (List.mem_append_right _ (A4 Y)) ((u i l).trans Y)
     have A:v a.block=true∨cap-len=0:=by
      by_cases Z:cap-len=0
      ·exact .inr Z
      ·left
       refine q (.cell a.block a.off) ?_
       rw[g];exact List.mem_append_left _ (c0J (Nat.mul_pos Z9 hpos))
     simp only[DataW.trod,hu];rw[if_pos ⟨hb,hl,hm⟩,B];simp only[Option.bind_some];rcases A with hs|Z
     ·rw[hs];simp only[if_true,o,m8,hx,g]
     ·have hrest0:rest=[]:=List.eq_nil_of_length_eq_zero Z9
      rw[hrest0] at hx g o;cases v a.block
      ·simp only[Bool.false_eq_true,if_false,m8,hx,g]
      ·simp only[if_true,o,m8,hx,g]
   ·rename_i fs hu;simp only[O4] at hok;have hof:=i7.1 hok.2;obtain⟨xs,n,hn,hx,hl,hxl,hf⟩:=DataW.trod_struct hu h;obtain rfl:fuel=n:=by omega
    simp only[U0] at hx;obtain⟨hx,g⟩:=hx;rw[hx,g];refine ChangeShapes.trod_struct_mk hu hl (iV a8K λi f y I Y=>?_)
    obtain⟨N,Q⟩:=y;refine C (hof f (A4 I)) ((hf i f (by simpa using I)).trans Y) λp hp=>q p ?_
    rw[g];exact List.mem_flatMap.2 ⟨_,A4 Y,hp⟩
   ·cases hok
def RdC(E:Env)(w:World)(ts:List T)(cs:List Value):Prop:=ts.length=cs.length/\∀(i:Nat) (t:T) (v:Value),ts[i]? =some t->cs[i]? =some v->Rd E w t v/\W7 t=true/\I7 t=true
theorem a6k{E:Env}{as bs:List T}{u vs:List Value}(h:RdC E w as u)(k:RdC E w bs vs):RdC E w (as++bs) (u++vs):=by
 refine⟨by simp[h.1,k.1],λi t v hi hv=>?_⟩
 rw[List.getElem?_append] at hi hv
 rw[←h.1] at hv;split at hi
 ·rename_i d;rw[if_pos d] at hv;exact h.2 i t v hi hv
 ·rename_i d;rw[if_neg d] at hv;exact k.2 _ t v hi hv
theorem zD{E:Env}{t:T}{v:Value}(h:Rd E w t v)(C:W7 t=true)(o:I7 t=true):RdC E w [t] [v]:=by
 refine⟨rfl,λi d V hi hv=>?_⟩
 cases i with
 |zero=>simp at hi hv;subst hi;subst hv;exact⟨h,C,o⟩
 |succ i=>simp at hi
theorem bI:∀{F:List Field} {n m:Nat},lI.endsAt P F n=m->m<18446744073709551616->n<=m/\∀f r,F=f::r->f.offset=n/\lI.endsAt P r (n+P.cellsOf f.type)=m:=by
 intro F;induction F with
 |nil=>intro n m h _;simp only[lI.endsAt] at h;exact⟨Z9,λf r d=>by cases d⟩
 |cons f F ih=>
  intro n m h hm;simp only[lI.endsAt] at h;split at h
  ·rename_i hb;obtain⟨h1,_⟩:=ih h hm;refine⟨Z9,λg r hg=>?_⟩
   cases hg;exact⟨G1 hb,h⟩
  ·omega
theorem c1k{E:Env}(hE:∀b,b<w.heap.size->E.N b):∀(d:Nat) {fuel:Nat} {t:TypeId} {cs:List Value} {x:DataW H} {ps:List MemPlace},lI P d t=true->
  DataW.trod enc P w base (λ_=>true) held fuel t cs=some (x,ps)->RdC E w (trT P d t x) cs:=by
 intro d;induction d with
 |zero=>intro fuel t cs x ps h;simp[lI] at h
 |succ d ih=>
  intro fuel t cs x ps hok h;unfold lI at hok;unfold trT;split at hok
  ·rename_i hu;obtain⟨b,rfl,he⟩:=DataW.trod_bool hu h;simp only[U0] at he;rw[he.1];exact zD (.bool b) rfl rfl
  ·rename_i k hu;obtain⟨n,rfl,he,F⟩:=DataW.trod_int hu h;simp only[U0] at he;rw[he.1];exact zD (.int k n) rfl rfl
  ·rename_i hu;obtain⟨s,rfl,he,F⟩:=DataW.trod_string hu h;simp only[U0] at he;rw[he.1];exact zD (.str s.data.toList) rfl rfl
  ·rename_i e hu;simp only[O4] at hok;obtain⟨⟨_,hpos⟩,hoe⟩:=hok;have hpos:0<P.cellsOf e:=zP hpos;rcases DataW.trod_slice hu h with⟨rfl,he⟩|⟨a,len,cap,elems,rest,n,hn,rfl,hx,hb,hl,hm,hlen,hel,hsp1,_⟩
   ·simp only[U0] at he;rw[he.1];simp only[sB];split
    ·exact zD .bysNil rfl rfl
    ·exact zD (.slNil _ _) rfl rfl
   ·obtain rfl:fuel=n+1:=by omega
    simp only[U0] at hx;rw[hx.1];simp only[sB];have W:∀i,i<len->∃C,w.cells? base (a.add (i*P.cellsOf e)) (P.cellsOf e)=some C/\RdC E w (trT P d e ((elems.map (·.1)).getD i .nil)) C:=by
     intro i hi;have hl0:=hel i hi;have l:i<elems.length:=Z9
     rw[J4 l] at hl0
     obtain⟨C,r,O⟩:=Option.bind_eq_some_iff.1 hl0;refine⟨C,r,?_⟩
     have:=ih hoe (x:=elems[i].1) (ps:=elems[i].2) O;rw[R2,pW,J4 l]
     exact this
    by_cases hz:cap=0
    ·have hl0:len=0:=by omega
     have Q:elems=[]:=List.eq_nil_of_length_eq_zero Z9
     subst hz;subst hl0;subst Q;simp only[List.map_nil];split
     ·exact zD (.bysEmp a) rfl rfl
     ·exact zD (.slEmp _ _ a) rfl rfl
    ·have B:a.spot=none:=by
      have:∃C,w.cells? base (a.add (0*P.cellsOf e)) (P.cellsOf e)=some C:=by
       by_cases hl0:0<len
       ·obtain⟨C,r,_⟩:=W 0 hl0;exact⟨C,r⟩
       ·obtain⟨hrl,hrest⟩:=hsp1 rfl;have h0:=hrest 0 Z9
        have l:0<rest.length:=Z9
        rw[J4 l] at h0
        obtain⟨C,r,_⟩:=Option.bind_eq_some_iff.1 h0;rw[show len+0=0 by omega] at r
        exact⟨C,r⟩
      obtain⟨C,r⟩:=this;obtain⟨_,g2,z⟩:=k8 r;have l:0<C.length:=Z9
      have:=z 0 C[0] (J4 l)
      have hs:=World.cell?_spot this
      rw[Nat.zero_mul] at hs
      simpa[Addr.add] using hs
     obtain⟨b,off,spot⟩:=a;simp only at B;subst B;have u:b<w.heap.size∨len=0:=by
      by_cases hl0:0<len
      ·left
       obtain⟨C,r,_⟩:=W 0 hl0;obtain⟨_,g2,z⟩:=k8 r;have l:0<C.length:=Z9
       have I:=z 0 C[0] (J4 l)
       unfold World.cell? at I;split at I
       ·rename_i hb';have:=(cP.1 hb').1
        rw[rJ,rJ] at this;exact this
       ·cases I
      ·exact .inr Z9
     have u:b<w.heap.size:=by
      rcases u with h|h
      ·exact h
      ·obtain⟨hrl,hrest⟩:=hsp1 rfl;have h0:=hrest 0 Z9
       have l:0<rest.length:=Z9
       rw[J4 l] at h0
       obtain⟨C,r,_⟩:=Option.bind_eq_some_iff.1 h0;obtain⟨_,g2,z⟩:=k8 r;have l:0<C.length:=Z9
       have I:=z 0 C[0] (J4 l)
       unfold World.cell? at I;split at I
       ·rename_i hb';have:=(cP.1 hb').1
        rw[rJ,rJ] at this;exact this
       ·cases I
     have A:∀i j,(Addr.add (Addr.add ⟨b,off,none⟩ i) j)=⟨b,off+i+j,none⟩:=λi j=>by rw[Addr.add_lit,Addr.add_lit]
     skip
     split
     ·rename_i M;have ab:P.cellsOf e=1:=by
       cases d with
       |zero=>simp[lI] at hoe
       |succ d=>
        unfold lI at hoe;rw[M] at hoe;exact G1 hoe
      refine zD ?_ rfl rfl
      have q:((elems.map (·.1)).map trT.byD).length=len:=by simp[hlen]
      rw[←q];refine .bys _ b off cap (hE b u) (by rw[q];exact hl) λi x hx=>?_
      have hi:i<len:=by have:=(w6.1 hx).1;omega
      have hl0:=hel i hi;have l:i<elems.length:=Z9
      rw[J4 l] at hl0
      obtain⟨C,r,O⟩:=Option.bind_eq_some_iff.1 hl0;obtain⟨nn,aa,X,F⟩:=DataW.trod_int M O;obtain⟨_,_,z⟩:=k8 r;have:=z 0 (.int .u8 nn) (by rw[aa];rfl)
      rw[A,ab,Nat.mul_one,Nat.add_zero] at this;rw[this];simp only[pW,J4 l,m8,X2] at hx
      rw[←hx,X];simp only[trT.byD];have Z:O7 .u8 nn:=by
       simp only[Lit.wf] at F
       simpa[O7] using F
      rw[a2d Z]
     ·refine zD ?_ rfl rfl
      have q:(elems.map (·.1)).length=len:=by simp[hlen]
      rw[q];have J:∀i j,i<len->∀t,(trT P d e ((elems.map (·.1)).getD i .nil))[j]? =some t->∃v,w.cell? ⟨b,off+i*P.cellsOf e+j,none⟩=some v/\Rd E w t v/\W7 t=true/\I7 t=true:=by
       intro i j hi t ht;obtain⟨C,r,V,q2⟩:=W i hi;obtain⟨_,_,z⟩:=k8 r;have l:j<C.length:=by rw[←V];exact(w6.1 ht).1
       have hv:=J4 l
       refine⟨_,?_,q2 j t _ ht hv⟩
       have:=z j _ hv;rw[A] at this;exact this
      refine .sl _ _ _ b off cap (λi j=>(w.cell? ⟨b,off+i*P.cellsOf e+j,none⟩).getD undef) (hE b u) hl (λi hi=>?_) (λi t hi ht=>?_) (λi j t hi ht=>?_) (λi j t hi ht=>?_)
      ·obtain⟨C,r,V,_⟩:=W i hi;rw[V];exact(k8 r).2.1
      ·obtain⟨j,hj⟩:=List.getElem?_of_mem ht
       obtain⟨v,_,_,hc,ho⟩:=J i j hi t hj;exact⟨ho,hc⟩
      ·obtain⟨v,hv,_⟩:=J i j hi t ht;rw[hv];rfl
      ·obtain⟨v,hv,Z,_⟩:=J i j hi t ht;rw[hv];exact Z
  ·rename_i fs hu;simp only[O4] at hok;have hof:=i7.1 hok.2;have hend:=G1 hok.1.1;have hbig:=Nat.blt_eq.mp hok.1.2;obtain⟨xs,n,hn,hx,hl,hxl,hf⟩:=DataW.trod_struct hu h;simp only[U0] at hx;rw[hx.1];simp only[b4J];rw[a9u _ _ _ a8K]
   have key:∀(fl:List Field) (Y:List (DataW H×List MemPlace)) (o:Nat),lI.endsAt P fl o=P.cellsOf t->Y.length=fl.length->(∀f ∈ fl,lI P d f.type=true)->
     (∀(i:Nat) (f:Field),fl[i]? =some f->DataW.trod enc P w base (λ_=>true) held n f.type ((cs.drop f.offset).take (P.cellsOf f.type))=Y[i]?)->
     RdC E w ((fl.zip (Y.map (·.1))).flatMap λp=>trT P d p.1.type p.2) (cs.drop o):=by
    intro fl;induction fl with
    |nil=>
     intro Y o he L _ _;simp only[lI.endsAt] at he;subst he;rw[List.drop_of_length_le Z9]
     exact⟨rfl,λi t v hi=>by simp at hi⟩
    |cons f fl R=>
     intro Y o he L hok hg;cases Y with
     |nil=>simp at L
     |cons y Y=>
      obtain⟨e1,e2⟩:=(bI he hbig).2 f fl rfl;have ac:=(bI e2 hbig).1;have h0:=hg 0 f rfl;obtain⟨y1,y2⟩:=y;have r0:=ih (hok f W8) h0
      rw[e1] at r0;have r1:=R Y (o+P.cellsOf f.type) e2 (by simpa using L) (λg U=>hok g (by simp[U])) (λi g hi=>by
       have:=hg (i+1) g aE
       simpa using this)
      have:=a6k r0 r1;rw[←List.drop_drop,List.take_append_drop] at this
      simpa using this
   have:=key fs.toList xs 0 hend a8K hof (λi f hi=>hf i f aE)
   simpa using this
  ·cases hok
def wfD{H:Type}(P:Program):Nat->TypeId->DataW H->Prop
 |0,_,_=>False
 |d+1,t,x=>match P.underlying t with
  |some .bool=>∃b,x= .lit (.bool b)
  |some (.int k)=>∃n,x= .lit (.int k n)/\(Lit.int k n).wf=true
  |some .string=>∃l,x= .lit (.string l)/\l.length<=maxLen
  |some (.slice e)=>x= .nil∨∃xs sp,x= .slice xs sp/\xs.length<=maxLen/\∀y,y ∈ xs->wfD P d e y
  |some (.struct fs)=>∃xs,x= .agg xs/\xs.length=fs.size/\∀(i:Nat) (f:Field) (y:DataW H),fs[i]? =some f->xs[i]? =some y->wfD P d f.type y
  |_=>False
theorem c0p{g:Nat->Bool}:∀(d:Nat) {l:Nat} {t:TypeId} {cs:List Value} {x:DataW H} {ps:List MemPlace},lI P d t=true->DataW.trod enc P w base g held l t cs=some (x,ps)->wfD P d t x:=by
 intro d;induction d with
 |zero=>intro l t cs x ps h;simp[lI] at h
 |succ d I=>
  intro l t cs x ps hok h;unfold lI at hok;unfold wfD;split at hok
  ·rename_i hu;obtain⟨b,rfl,he⟩:=DataW.trod_bool hu h;simp only[U0] at he;exact⟨b,he.1⟩
  ·rename_i k hu;obtain⟨n,rfl,he,F⟩:=DataW.trod_int hu h;simp only[U0] at he;exact⟨n,he.1,F⟩
  ·rename_i hu;obtain⟨s,rfl,he,F⟩:=DataW.trod_string hu h;simp only[U0] at he;exact⟨_,he.1,by rw[Array.length_toList];exact F⟩
  ·rename_i e hu;simp only[O4] at hok;rcases DataW.trod_slice hu h with⟨rfl,he⟩|⟨a,len,cap,elems,rest,n,hn,rfl,hx,hb,hl,hm,hlen,hel,hsp1,_⟩
   ·simp only[U0] at he;exact .inl he.1
   ·simp only[U0] at hx;refine .inr ⟨_,_,hx.1,H4,λy hy=>?_⟩
    obtain⟨z,Z,rfl⟩:=List.mem_map.1 hy;obtain⟨i,hi,rfl⟩:=List.mem_iff_getElem.1 Z;have:=hel i Z9
    rw[J4 hi] at this
    obtain⟨C,o,j⟩:=Option.bind_eq_some_iff.1 this;exact I hok.2 j
  ·rename_i fs hu;simp only[O4] at hok;have hof:=i7.1 hok.2;obtain⟨xs,n,hn,hx,hl,hxl,hf⟩:=DataW.trod_struct hu h;simp only[U0] at hx;refine⟨_,hx.1,a8K,λi f y hfi hy=>?_⟩
   simp only[pW,G4] at hy
   obtain⟨z,Z,rfl⟩:=hy;exact I (hof f (by simpa using Array.mem_of_getElem? hfi)) ((hf i f hfi).trans Z)
  ·cases hok
theorem dA{j:Nat->Bool}{d:Nat}(W:∀b,b<w.heap.size->w'.heap[b]? =w.heap[b]?):∀{ts:List TypeId} {vs:List Value} {e:List (DataW H)} {ps:List MemPlace},(∀t ∈ ts,lI P d t=true)->
  DataW.TrodAll enc P w base (λ_=>true) held ts vs e ps->(∀p ∈ ps,j p.block=true)->DataW.TrodAll enc P w' base j held ts vs e ps:=by
 intro ts;induction ts with
 |nil=>
  intro vs e ps _ h _;cases vs<;>cases e<;>first|exact h|exact h.elim
 |cons t ts I=>
  intro vs e ps g h i;cases vs with
  |nil=>cases e<;>exact h.elim
  |cons v vs=>
   cases e with
   |nil=>exact h.elim
   |cons x e=>
    obtain⟨p,q,⟨f,hp⟩,Q,rfl⟩:=h;exact⟨p,q,⟨f,a6h W d (g t W8) hp λz Z=>i z (List.mem_append_left _ Z)⟩,I (λt l=>g t (by simp[l])) Q λz Z=>i z (List.mem_append_right _ Z),rfl⟩
theorem b19{n:Bool}{f:Func}{s:ChangeSpec}{W W':World}{args:Array Value}{l M:List (DataW H)}{B:List MemPlace}{d:Nat}{tb:TypeId}
  (F:DataW.Whole enc P f.params.toList s.vars false W args.toList l M B) (e:s.vars=[]) (N:s.fn H l={results:=[.lit (.bool true)],args:=l})
  (j:f.resultTypes= #[tb]) (v:P.underlying tb=some .bool) (A:∀t ∈ f.params.toList,lI P d t=true) (x:Below W.heap.size W W'):
  s.post enc P f false true false n W args (.bool true) W':=by
 have r:=F;obtain⟨p,q,J,V,rfl,Z,O⟩:=F;rw[e] at V;obtain⟨rfl,rfl⟩:=ChangeShapes.trodVars_none V;simp only[List.append_nil] at r Z;have o:∀z ∈ p,z.block<W.heap.size:=λz hz=>J.lt z hz
 have g:∀(b:Nat) (i:Nat->Bool) (hd:Bool),DataW.TrodAll enc P W' b i hd f.resultTypes.toList ((Value.bool true).resultList f.resultTypes.size) (s.fn H (l++[])).results []:=by
  intro b i hd;rw[List.append_nil,N,j];exact trodAll_cons_mk (shut_bool v _) ChangeShapes.trodAll_mk0
 have h:∀i:Nat->Bool,(∀z ∈ p,i z.block=true)->DataW.TrodAll enc P W' 0 i true f.params.toList args.toList (s.fn H (l++[])).args p:=by
  intro i C;rw[List.append_nil,N];exact dA x.block A J C
 have u:∀i:Nat->Bool,DataW.TrodVars enc P W' i s.vars (s.fn H (l++[])).vars []:=by
  intro i;rw[List.append_nil,N,e];rfl
 refine⟨l,[],p,[],p,[],r,g _ _ _,h _ (λz hz=>by simpa using o z hz),u _,x.frame _,λ_=>⟨?_,_,_,([]++p)++[],⟨[]++p,[],ChangeShapes.trodAll_append (h _ (λ_ _=>rfl)) (g _ _ _),u _,rfl,?_,?_⟩,?_⟩⟩
 ·exact ok_one j rfl (okWide_bool_mk v _)
 ·intro b off hp;have hp':MemPlace.cell b off ∈ p:=by simpa using hp
  have I:=Z b off hp';have L:=x.block b (o _ hp');unfold World.frozen? at I ⊢;rw[L];exact I
 ·intro Q;cases Q
 ·intro z hz _
  simpa using hz
def E0(W:World):Env:=⟨λb=>b<W.heap.size,λ_=>False,λ_=>0,λ_=>0,λ_=>(0,[]),λ_ _=>False,λ_ _ _ _=>0,λ_ _ _ _=>0⟩
theorem b23{f:FuncId}{W:World}{args:Array Value}{ts:List T}(h:V4 P f ts (.bool true))(A:tT (E0 W) W ts args):Calls P f args W λe W'=>e= .returned (.bool true)/\Below W.heap.size W W':=by
 refine(h (E0 W) W args (λ_=>⟨λh=>h,λ_ h=>h⟩) (λ_ h=>h) A).mono λe W' d=>?_
 obtain⟨v,rfl,B,r⟩:=d;rw[u5 r];exact⟨rfl,B⟩
def kL{H:Type}(P:Program)(d:Nat):List TypeId->List (DataW H)->Prop
 | [],[]=>True
 |t::ts,x::xs=>wfD P d t x/\kL P d ts xs
 |_,_=>False
theorem uR{d:Nat}{t:TypeId}{ts:List TypeId}{xs:List (DataW H)}(h:kL P d (t::ts) xs):∃x xs',xs=x::xs'/\wfD P d t x/\kL P d ts xs':=by
 cases xs with
 |nil=>exact h.elim
 |cons x xs=>exact⟨x,xs,rfl,h.1,h.2⟩
theorem aI{d:Nat}{xs:List (DataW H)}(h:kL P d [] xs):xs=[]:=by
 cases xs with
 |nil=>rfl
 |cons x xs=>exact h.elim
def a6T{H:Type}(P:Program)(d:Nat)(t:TypeId)(x:DataW H):T:=match P.underlying t with
 |some (.struct _)=>.agg (trT P d t x)
 |_=>(trT P d t x).headD .und
def qF{H:Type}(P:Program)(d:Nat):List TypeId->List (DataW H)->List T
 |t::ts,x::xs=>a6T P d t x::qF P d ts xs
 |_,_=>[]
theorem c4j{E:Env}{d:Nat}{t:TypeId}{x:DataW H}{v:Value}{B:Nat}(f:lI P d t=true)(hval:Value.okWide P w .any B t v)(h:RdC E w (trT P d t x) v.cells.toList):Rd E w (a6T P d t x) v:=by
 cases d with
 |zero=>simp[lI] at f
 |succ d=>
  have one:∀{v:Value} {ts:List T},v.cells= #[v]->RdC E w ts v.cells.toList->Rd E w (ts.headD .und) v:=by
   intro v ts C h;rw[C] at h;obtain⟨h1,h2⟩:=h;cases ts with
   |nil=>simp at h1
   |cons y ts=>exact(h2 0 y v rfl rfl).1
  unfold lI at f;unfold a6T;split at f
  ·rename_i hu;rw[hu];obtain⟨b,rfl⟩:=WideShapes.okWide_bool hu hval;exact one rfl h
  ·rename_i k hu;rw[hu];obtain⟨b,rfl⟩:=WideShapes.okWide_int hu hval;exact one rfl h
  ·rename_i hu;rw[hu];obtain⟨b,rfl⟩:=WideShapes.okWide_string hu hval;exact one rfl h
  ·rename_i e hu;rw[hu];obtain⟨a,l,c,rfl⟩:=WideShapes.okWide_slice hu hval;exact one rfl h
  ·rename_i fs hu;rw[hu];obtain⟨cs,rfl,_⟩:=WideShapes.okWide_struct hu hval;obtain⟨h1,h2⟩:=h;refine .agg _ _ (by simpa[Value.cells] using h1) λi t x hi hx=>(h2 i t x hi ?_).1
   simpa[Value.cells] using hx
  ·cases f
theorem b9C{d:Nat}:∀{ts:List TypeId} {vs:List Value} {f:List (DataW H)} {ps:List MemPlace} {base:Nat},(∀t ∈ ts,lI P d t=true)->DataW.TrodAll enc P w 0 (λ_=>true) true ts vs f ps->
  (∀(j:Nat) t v,ts[j]? =some t->vs[j]? =some v->Value.okWide P w .any base t v)->kL P d ts f/\(qF P d ts f).length=vs.length/\∀(i:Nat) (t:T) (x:Value),(qF P d ts f)[i]? =some t->vs[i]? =some x->Rd (E0 w) w t x:=by
 intro ts;induction ts with
 |nil=>
  intro vs f ps base _ h _;obtain⟨rfl,rfl,rfl⟩:=ChangeShapes.trodAll_nil h;exact⟨trivial,rfl,λi t x hi=>by simp[qF] at hi⟩
 |cons t ts I=>
  intro vs f ps base g h hv;obtain⟨C,V,J,u,p0,Q,rfl,rfl,rfl,⟨F,o⟩,R⟩:=ChangeShapes.trodAll_cons h;obtain⟨z,q,A⟩:=I (base:=base) (λt l=>g t (by simp[l])) R λj t v l n=>hv (j+1) t v (by simpa using l) (by simpa using n)
  have e:=g t W8
  refine⟨⟨c0p d e o,z⟩,by simp[qF,q],λi r x hi hx=>?_⟩
  cases i with
  |zero=>
   simp[qF] at hi hx;subst hi;subst hx;exact c4j e (hv 0 t C rfl rfl) (c1k (E:=E0 w) (λb B=>B) d e o)
  |succ i=>exact A i r x (by simpa[qF] using hi) qP
theorem b9x{n:Bool}{f:FuncId}{fn:Func}{s:ChangeSpec}{W:World}{base:Nat}{args:Array Value}{o Q:List (DataW H)}{B:List MemPlace}(d:Nat){tb:TypeId}
  (L:∀(j:Nat) t v,fn.params[j]? =some t->args[j]? =some v->Value.okWide P W .any base t v)
  (F:DataW.Whole enc P fn.params.toList s.vars false W args.toList o Q B) (h:s.vars=[]) (N:kL P d fn.params.toList o->s.fn H o={results:=[.lit (.bool true)],args:=o})
  (u:fn.resultTypes= #[tb]) (C:P.underlying tb=some .bool) (g:fn.params.toList.all (lI P d)=true)
  (r:kL P d fn.params.toList o->∃ts,V4 P f ts (.bool true)/\∀vs:Array Value,tT (E0 W) W (qF P d fn.params.toList o) vs->tT (E0 W) W ts vs):
  Calls P f args W λe W'=>∃v,e= .returned v/\s.post enc P fn false true false n W args v W':=by
 have g:=i7.1 g;have z:=F;obtain⟨p,q,R,V,rfl,Z,X⟩:=F;rw[h] at V;obtain⟨rfl,rfl⟩:=ChangeShapes.trodVars_none V;obtain⟨I,J,Y⟩:=b9C (base:=base) g R λj t v M hv=>L j t v (by simpa using M) a0n
 obtain⟨ts,l,A⟩:=r I;refine(b23 l (A args ⟨by simpa using J,λi t x hi hx=>Y i t x hi qP⟩)).mono λe W' U=>?_
 obtain⟨rfl,O⟩:=U;exact⟨_,rfl,b19 (d:=d) z h (N I) u C g O⟩
end
end Go.SS
