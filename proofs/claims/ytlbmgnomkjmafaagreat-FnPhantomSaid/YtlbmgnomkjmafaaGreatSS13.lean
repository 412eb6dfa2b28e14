/- A part of the proof. -/
import Derived.Test.YtlbmgnomkjmafaaGreatSS8
import Derived.Orders
import Derived.Deep.LoopGhost
import Derived.Laws.Sem
import Derived.Deep.Slices
import Derived.OpenShut
import Derived.RowKit
import Derived.ChangeSame
namespace Go.SS
open Go.RowKit
section
variable {c:Ctx} {E:Env} {H:Y5} {w:World} {P:Program} {G:I7}
theorem b8e(hG:D1 P G)(h:Inv c E H w){f:FuncId}{args:List T}{vs:Array Value}{r:T}{p:Option Prop}(he:zX G H f args=some (r,p))(hp:p.getD True)(ha:uJ E w args vs):
  Calls P f vs w λe w'=>∃v E',e= .returned v/\Inv c E' H w'/\Step E w E' w'/\Rd E' w' r v:=by
 unfold zX at he;split at he
 ·rename_i hcl;have hpf:=b4w hG he hp;have:=hpf {E with L:=λ_=>False,L2:=λ_ _=>False} w vs (λ_=>⟨λh=>h,λ_ h=>h⟩) h.nlt ⟨ha.1,λi t x hi hx=>Rd.closedD (E:=E) (E':={E with L:=λ_=>False,L2:=λ_ _=>False}) (λ_ h=>h) 6 (ha.2 i t x hi hx) (j8.1 hcl t (A6 hi))⟩
  refine this.mono λe w' q=>?_
  obtain⟨v,rfl,hb,R⟩:=q;obtain⟨n,j⟩:=h.grow hb.os hb.tape hb.output hb.size hb.block;exact⟨v,_,rfl,n,j,Rd.mono (E:=({E with L:=λ_=>False,L2:=λ_ _=>False}:Env).addN λb=>w.heap.size<=b/\b<w'.heap.size) (E':=E.addN λb=>w.heap.size<=b/\b<w'.heap.size) ⟨λ_ h=>h,λ_ h=>False.elim h,λ_ h=>False.elim h,λ_ h=>False.elim h,λ_ h=>False.elim h,λ_ _ h=>False.elim h,λ_ _ _ _ h=>False.elim h,λ_ _ _ _ h=>False.elim h⟩ (λ_ _=>rfl) R⟩
 ·split at he
  ·rename_i bs hbs;split at he
   ·rename_i r' p' hg;split at he
    ·rename_i l;simp only[X4,U1] at he;obtain⟨rfl,rfl⟩:=he;obtain⟨d,o⟩:=yS hp;have hpf:=b4w hG hg o;obtain⟨b1,b2⟩:=K8 hbs;have:=hpf (E.lent 0 H) w vs (λ_=>⟨λh=>absurd h.2 (J9 _),λ_ h=>absurd h.2 (J9 _)⟩) (λb hb=>by
      rcases hb with hb|⟨k,ob,_,hk,hb⟩
      ·exact h.nlt b hb
      ·exact h.heap.blt hk hb) ⟨by simp[b1,ha.1],λi t x hi hx=>by
       simp only[pH,G8] at hi
       obtain⟨y,Y,rfl⟩:=hi;have g:i<args.length:=by rw[←b1];exact(x7.1 Y).1
       have C:=J5 g
       exact s9 h 6 (r:=y.1) (p:=y.2) (b2 i _ y C Y) (i3 d y (A6 Y)) (ha.2 i _ x C hx)⟩
     refine this.mono λe w' q=>?_
     obtain⟨v,rfl,hb,R⟩:=q;obtain⟨n,j⟩:=h.grow hb.os hb.tape hb.output hb.size hb.block;exact⟨v,_,rfl,n,j,R.plain 6 l⟩
    ·cases he
   ·cases he
  ·cases he
def c1H(c:Ctx)(E:Env)(w:World)(o:Oper)(a:Act)(y:T)(H':Y5)(K:Act->World->Prop):Prop:=
 ∀v w' E',Inv c E' H' w'->Step E w E' w'->Rd E' w' y v->K (a.put o.dst v) w'
theorem j3{o:Oper}{a:Act}{K:Act->World->Prop}{Q:Exit->Act->World->Prop}{v:Value}{w':World}(h:(execOp a.eval o).run P w= .ok (.value v) w')(d:K (a.put o.dst v) w'):o.wp P a w K Q:=by
 unfold Oper.wp;rw[h];exact d
theorem c0r{o:Oper}{a:Act}{K:Act->World->Prop}{Q:Exit->Act->World->Prop}{w':World}(h:(execOp a.eval o).run P w= .ok .skip w')(d:K (a.put o.dst undef) w'):o.wp P a w K Q:=by
 unfold Oper.wp;rw[h];exact d
theorem eY{o:Oper}{a:Act}{K:Act->World->Prop}{Q:Exit->Act->World->Prop}{f:FuncId}{vs:Array Value}{w':World}(h:(execOp a.eval o).run P w= .ok (.enter f vs) w')
  (d:Calls P f vs w' λe W=>∃v,e= .returned v/\K (a.put o.dst v) W):o.wp P a w K Q:=by
 unfold Oper.wp;rw[h,Oper.upon_enter];refine d.mono λe W g=>?_
 obtain⟨v,rfl,hv⟩:=g;exact hv
theorem a9u{a:Act}{s:W7}{x:Operand}{f:FuncId}{cs:List T}(h:cX s x=some (f,cs))(hx:G7 E w a s x):∃caps,a.eval x= .func (.func f) #[] caps/\uJ E w cs caps:=by
 unfold cX at h;split at h
 ·simp only[X4,U1] at h;obtain⟨rfl,rfl⟩:=h;exact⟨#[],rfl,rfl,λi t x hi=>by simp at hi⟩
 ·unfold G7 at hx;split at h
  ·rename_i g cs' he;simp only[X4,U1] at h;obtain⟨rfl,rfl⟩:=h;rw[he] at hx;generalize a.eval x=v at hx;cases hx with
   |fn _ _ vs l d=>exact⟨vs,rfl,l,d⟩
  ·rename_i g first caps he
   rw[he] at hx;split at h
   ·rename_i hf hc;simp only[X4,U1] at h;obtain⟨rfl,rfl⟩:=h;obtain rfl:first= #[]:=Array.ext' (by simpa using hf)
    obtain rfl:caps= #[]:=Array.ext' (by simpa using hc)
    exact⟨#[],wV hx,rfl,λi t x hi=>by simp at hi⟩
   ·cases h
  ·cases h
def Q8(P:Program)(f:FuncId):Prop:=∃fn,P.funcs[f]? =some fn/\(fn.name== "runtime.NumGoroutine")=false/\fn.body.isNone=false
theorem fN{a:Act}{o:Oper}{x:Operand}{args:Array Operand}{at_:Array TypeId}{f:FuncId}{caps:Array Value}(O:o.op= .call {callee:=.value x,args:=args,argTypes:=at_})(h:Q8 P f)(X:a.eval x= .func (.func f) #[] caps):
  (execOp a.eval o).run P w= .ok (.enter f (args.map a.eval++caps)) w:=by
 obtain⟨fn,e,d,g⟩:=h;simp only[execOp,O,resolve,X,Deferred.ofValue,E9,B2,F4,invoke,callFunc,run_program,e,d,g];simp
theorem gP{as bs:List T}{u vs:Array Value}(h:uJ E w as u)(k:uJ E w bs vs):uJ E w (as++bs) (u++vs):=by
 refine⟨by simp[h.1,k.1],λi t x hi X=>?_⟩
 rw[List.getElem?_append] at hi
 rw[Array.getElem?_append] at X
 rw[←h.1] at X;split at hi
 ·rename_i d;rw[if_pos d] at X;exact h.2 i t x hi X
 ·rename_i d;rw[if_neg d] at X;exact k.2 _ t x hi X
theorem a0I{a:Act}{s:W7}{args:Array Operand}(h:∀x ∈ args.toList,G7 E w a s x):uJ E w (args.toList.map (L8 s)) (args.map a.eval):=by
 refine⟨X3,λi t x hi X=>?_⟩
 simp only[pH,Array.getElem?_map,G8,Array.getElem?_toList] at hi X
 obtain⟨p,hp,rfl⟩:=hi;obtain⟨q,Q,rfl⟩:=X;rw[hp] at Q;simp only[X4] at Q;subst Q;exact h p (by simpa using Array.mem_of_getElem? hp)
theorem a9N:∀(d:Nat) {t q:T} {E:Env} {w:World} {v:Value},zE d t q->Rd E w t v->Rd E w q v:=by
 intro d;induction d with
 |zero=>intro t q E w v h;exact h.elim
 |succ d F=>
  have L:∀{as bs:List T},zE.matsV (zE d) as bs->as.length=bs.length/\∀(i:Nat) (a b:T),as[i]? =some a->bs[i]? =some b->zE d a b:=by
   intro as;induction as with
   |nil=>
    intro bs h;cases bs with
    |nil=>exact⟨rfl,λi a b o=>by simp at o⟩
    |cons=>exact h.elim
   |cons a as I=>
    intro bs h;cases bs with
    |nil=>exact h.elim
    |cons b bs=>
     obtain⟨g,h2⟩:=I h.2;refine⟨by simp[g],λi x y hx Y=>?_⟩
     cases i with
     |zero=>simp at hx Y;subst hx;subst Y;exact h.1
     |succ i=>exact h2 i x y (by simpa using hx) a3Y
  have listP:∀{as bs:List T},zE.matsP (zE d) as bs->∀(i:Nat) (b:T),bs[i]? =some b->∃a,as[i]? =some a/\zE d a b:=by
   intro as bs;induction bs generalizing as with
   |nil=>intro _ i b hb;simp at hb
   |cons b bs B=>
    intro h i c C;cases as with
    |nil=>exact h.elim
    |cons a as=>
     cases i with
     |zero=>simp at C;subst C;exact⟨a,rfl,h.1⟩
     |succ i=>obtain⟨x,hx,M⟩:=B h.2 i c (by simpa using C);exact⟨x,by simpa using hx,M⟩
  intro t q E w v h hx;have r:∀{as bs:List T} {vs:Array Value},zE.matsV (zE d) as bs->as.length=vs.size->(∀(i:Nat) (t:T) (x:Value),as[i]? =some t->vs[i]? =some x->Rd E w t x)->
    bs.length=vs.size/\∀(i:Nat) (t:T) (x:Value),bs[i]? =some t->vs[i]? =some x->Rd E w t x:=by
   intro as bs vs M l e;obtain⟨g,h2⟩:=L M;refine⟨Z9,λi t x hi hx=>?_⟩
   have f:i<as.length:=by rw[g];exact(x7.1 hi).1
   exact F (h2 i _ t (J5 f) hi) (e i _ x (J5 f) hx)
  unfold zE at h;split at h
  ·exact .und _
  ·split at h
   ·rename_i O;obtain rfl:=D4 O;subst h;exact hx
   ·exact h.elim
  ·subst h;exact hx
  ·subst h;exact hx
  ·subst h;exact hx
  ·subst h;rw[wV hx];exact .slNil _ _
  ·subst h;rw[wV hx];exact .bysNil
  ·subst h;cases hx with|emp a=>cases a with|none=>exact .slNil _ _|some a=>exact .slEmp _ _ _
  ·subst h;cases hx with|emp a=>cases a with|none=>exact .bysNil|some a=>exact .bysEmp _
  ·exact hx
  ·subst h;exact hx
  ·split at h
   ·rename_i hb;obtain rfl:=H4 hb;obtain⟨rfl,hr⟩:=h;cases hx with
    |slNil=>exact .slNil _ _
    |slEmp=>exact .slEmp _ _ _
    |sl _ _ _ b off cap u N C l g z e=>
     exact .sl _ _ _ b off cap u N C (λi hi=>by rw[←hr i hi];exact l i hi) (λi t hi M=>by rw[←hr i hi] at M;exact g i t hi M) (λi j t hi J=>by rw[←hr i hi] at J;exact z i j t hi J) (λi j t hi J=>by rw[←hr i hi] at J;exact e i j t hi J)
   ·exact h.elim
  ·split at h
   ·rename_i hb;obtain rfl:=H4 hb;obtain⟨rfl,rfl⟩:=h;exact hx
   ·exact h.elim
  ·split at h
   ·rename_i hb;obtain rfl:=H4 hb;obtain⟨rfl,rfl⟩:=h;exact hx
   ·exact h.elim
  ·split at h
   ·rename_i hb;obtain rfl:=H4 hb;exact hx
   ·exact h.elim
  ·cases hx with
   |agg _ vs l e=>obtain⟨A,n⟩:=r h l e;exact .agg _ vs A n
  ·cases hx with
   |tup _ vs l e=>obtain⟨A,n⟩:=r h l e;exact .tup _ vs A n
  ·obtain⟨rfl,h⟩:=h;cases hx with
   |fn _ _ vs l e=>obtain⟨A,n⟩:=r h l e;exact .fn _ _ vs A n
  ·rename_i as bs;split at h
   ·rename_i hcl;have h2:=listP h;cases hx with
    |bref _ b off u N C hr e=>
     refine .bref _ b off u N (λt e=>j8.1 hcl t e) (λj t J=>?_) (λj t J=>?_)
     ·obtain⟨a,o,_⟩:=h2 j t J;exact hr j _ o
     ·obtain⟨a,o,M⟩:=h2 j t J;exact F M (e j _ o)
   ·exact h.elim
  ·exact h.elim
theorem cD:∀{G:I7} {f:FuncId} {c:Con},w5 G f=some c->(f,c) ∈ G:=by
 intro G;induction G with
 |nil=>intro f c h;cases h
 |cons x G i=>
  intro f c h;obtain⟨g,d⟩:=x;simp only[w5] at h;split at h
  ·rename_i B;obtain rfl:=H4 B;simp only[X4] at h;subst h;simp
  ·simp[i h]
theorem a5f:∀{G:I7} {f:FuncId} {c:Con},(f,c) ∈ G->c.isEff=true->anyEff G=true:=by
 intro G;induction G with
 |nil=>intro f c h;cases h
 |cons x G i=>
  intro f c h C;obtain⟨g,d⟩:=x;simp only[anyEff,qR];rcases xX.1 h with h|h
  ·simp only[U1] at h;obtain⟨_,rfl⟩:=h;exact .inl C
  ·exact .inr (i h C)
theorem b63{G:I7}{f:FuncId}{c:Con}(h:b8c G f=some c):(f,c) ∈ G/\w5 G f=some c:=by
 unfold b8c at h;split at h
 ·rename_i d hd;split at h
  ·simp only[X4] at h;subst h;exact⟨cD hd,hd⟩
  ·cases h
 ·cases h
theorem a0P{as bs:List T}{E:Env}{w:World}{vs:Array Value}(h:fG as bs)(A:uJ E w as vs):uJ E w bs vs:=by
 have l:∀{as bs:List T},zE.matsV (zE 6) as bs->as.length=bs.length/\∀(i:Nat) (a b:T),as[i]? =some a->bs[i]? =some b->zE 6 a b:=by
  intro as;induction as with
  |nil=>
   intro bs h;cases bs with
   |nil=>exact⟨rfl,λi a b A=>by simp at A⟩
   |cons=>exact h.elim
  |cons a as I=>
   intro bs h;cases bs with
   |nil=>exact h.elim
   |cons b bs=>
    obtain⟨g,f⟩:=I h.2;refine⟨by simp[g],λi x y X Y=>?_⟩
    cases i with
    |zero=>simp at X Y;subst X;subst Y;exact h.1
    |succ i=>exact f i x y gB a3Y
 obtain⟨e,j⟩:=l h;refine⟨by rw[←e];exact A.1,λi t v hi hv=>?_⟩
 have d:i<as.length:=by rw[e];exact(x7.1 hi).1
 exact a9N 6 (j i _ t (J5 d) hi) (A.2 i _ v (J5 d) hv)
theorem b2a{d:Nat}:∀{as bs:List T},zE.matsV (zE d) as bs->as.length=bs.length/\∀(i:Nat) (a b:T),as[i]? =some a->bs[i]? =some b->zE d a b:=by
 intro as;induction as with
 |nil=>
  intro bs h;cases bs with
  |nil=>exact⟨rfl,λi a b A=>by simp at A⟩
  |cons=>exact h.elim
 |cons a as I=>
  intro bs h;cases bs with
  |nil=>exact h.elim
  |cons b bs=>
   obtain⟨f,e⟩:=I h.2;refine⟨by simp[f],λi x y X Y=>?_⟩
   cases i with
   |zero=>simp at X Y;subst X;subst Y;exact h.1
   |succ i=>exact e i x y gB a3Y
theorem fH:∀{as bs:List T},b30 as bs->as.length=bs.length/\∀(i:Nat) (b:T),bs[i]? =some b->∃a,as[i]? =some a/\b6O a b:=by
 intro as;induction as with
 |nil=>intro bs h;cases bs with
  |nil=>exact⟨rfl,λi b B=>by simp at B⟩
  |cons=>exact h.elim
 |cons a as I=>intro bs h;cases bs with
  |nil=>exact h.elim
  |cons b bs=>
   obtain⟨e,d⟩:=I h.2;refine⟨by simp[e],λi y Y=>?_⟩
   cases i with
   |zero=>simp at Y;subst Y;exact⟨a,rfl,h.1⟩
   |succ i=>obtain⟨x,X,f⟩:=d i y a3Y;exact⟨x,gB,f⟩
theorem uR{a b:T}(h:b6O a b):(a=b)∨∃ty sz n row ty' row',a= .own ty sz n row/\b= .own ty' sz n row'/\Z7 n row row':=by
 unfold b6O at h;split at h
 ·obtain⟨rfl,rfl,h⟩:=h;exact .inr ⟨_,_,_,_,_,_,rfl,rfl,h⟩
 ·exact .inl h
theorem jP{E:Env}{w:World}{k:Nat}{o o':Ob}(h:a2W (some o) (some o'))(ho:j4 E w k o):j4 E w k o'/\(∀b,C1 E k o' b↔C1 E k o b)/\∀v ty sz n row,o= .fam v ty sz n row->∃ty' row',o'= .fam v ty' sz n row':=by
 unfold a2W at h;split at h
 ·rename_i cl ty sz n row cl' ty' sz' n' row' he he';simp only[X4] at he he';subst he;subst he';have hblk:∀{o:Ob} (b:Nat),o.isArr=true->(C1 E k o b↔(E.κ k≠0/\b=E.β k)):=λb hi=>⟨λhb=>hb.arr hi,λhb=>.inl hb⟩
  refine⟨?_,λb=>(hblk b rfl).trans (hblk b rfl).symm,λ_ _ _ _ _ hh=>by cases hh⟩
  obtain⟨e1,e2,e3,e4,e5,cs,tyc,e6,e7,e8⟩:=(show T3 E w k ⟨cl,ty,sz,n,row⟩ from ho)
  show T3 E w k ⟨cl',ty',sz',n',row'⟩;simp only at e1 e2 e3 e4 e5 e7 e8;split at h
  ·rename_i hb;obtain rfl:=H4 hb;obtain⟨rfl,hr⟩:=h;exact⟨e1,e2,λi hi=>by simp only;rw[←hr i hi];exact e3 i hi,λi t hi ht=>e4 i t hi (by rw[hr i hi];exact ht),λ_ i t hi ht=>e5 rfl i t hi (by rw[hr i hi];exact ht),cs,tyc,e6,e7,λi j t hi hj=>e8 i j t hi (by rw[hr i hi];exact hj)⟩
  ·rename_i hb;obtain rfl:=H4 hb;split at h
   ·rename_i hone;obtain⟨rfl,rfl,hm⟩:=h;obtain⟨m1,m2⟩:=b2a hm;refine⟨e1,e2,λi hi=>?_,λi t hi ht=>?_,λhc=>(by cases hc),cs,tyc,e6,e7,λi j t hi hj=>?_⟩
    ·obtain rfl:i=0:=by have:i<1:=hi;omega
     simp only;rw[←m1];exact e3 0 Z9
    ·obtain rfl:i=0:=by have:i<1:=hi;omega
     exact j8.1 hone t ht
    ·obtain rfl:i=0:=by have:i<1:=hi;omega
     have hlt:j<(row 0).length:=by rw[m1];exact(x7.1 hj).1
     obtain⟨u,hu,hr⟩:=e8 0 j _ Z9 (J5 hlt)
     exact⟨u,hu,a9N 6 (m2 j _ t (J5 hlt) hj) hr⟩
   ·exact h.elim
  ·exact h.elim
 ·rename_i v ty sz n row v' ty' sz' n' row' he he';simp only[X4] at he he';subst he;subst he';split at h
  case h_2=>exact h.elim
  rename_i hb;obtain rfl:=H4 hb;obtain⟨rfl,rfl,hr⟩:=h;have hF:FamOk E w k v ty sz n row:=ho;have back:∀(i j:Nat) (t:T),i<n->(row' i)[j]? =some t->∃t0,(row i)[j]? =some t0/\b6O t0 t:=λi j t hi hj=>(fH (hr i hi)).2 j t hj
  have ownb:∀(i j:Nat) (oty:TypeId) (osz on:Nat) (orow:Nat->List T),i<n->(row' i)[j]? =some (.own oty osz on orow)->∃(oty0:TypeId) (orow0:Nat->List T),(row i)[j]? =some (.own oty0 osz on orow0)/\Z7 on orow0 orow:=by
   intro i j oty osz on orow hi hj;obtain⟨t0,h0,hc⟩:=back i j _ hi hj;rcases uR hc with rfl|⟨ty1,sz1,n1,row1,ty2,qQ,rfl,he,hrr⟩
   ·exact⟨_,_,h0,λ_ _=>rfl⟩
   ·cases he;exact⟨_,_,h0,hrr⟩
  refine⟨?_,λb=>⟨λhb=>?_,λhb=>?_⟩,λ_ _ _ _ _ hh=>by cases hh;exact⟨_,_,rfl⟩⟩
  ·show FamOk E w k v ty' sz n row';obtain⟨e1,e2,e3,e4,e5,cs,tyc,e6,e7,e8⟩:=hF.arr;refine m0 hF.l2 e1 e2 cs tyc e6 e7 (λr hr'=>by rw[← (fH (hr r hr')).1];have:=e3 r hr';rwa [O6] at this) (λr q t hr' hq=>?_) (λi j i' j' oty osz on orow oty' osz' on' orow' hi hi' hj hj' hc hc' he=>?_)
   ·obtain⟨t0,h0,hc⟩:=back r q t hr' hq;obtain⟨u,hu,hru⟩:=e8 r q (tH k v r q t0) hr' (by simp only;rw[K4,h0];rfl)
    rcases hF.cell hr' h0 with hco|⟨oty,osz,on,orow,rfl⟩
    ·rcases uR hc with rfl|⟨_,_,_,_,_,_,rfl,_⟩
     ·rw[M9 hco] at hru;exact⟨u,hu,.inl ⟨hco,hru⟩⟩
     ·simp[closedOne,W9] at hco
    ·obtain⟨g1,g2⟩:=hF.own r q _ _ _ _ hr' h0;have:∃(ty2:TypeId) (qQ:Nat->List T),t= .own ty2 osz on qQ/\Z7 on orow qQ:=by
      rcases uR hc with rfl|⟨_,_,_,_,_,_,he,rfl,hrr⟩
      ·exact⟨_,_,rfl,λ_ _=>rfl⟩
      ·cases he;exact⟨_,_,rfl,hrr⟩
     obtain⟨ty2,qQ,rfl,hrr⟩:=this;refine⟨u,hu,.inr ⟨_,_,_,_,rfl,hru,?_,g2⟩⟩
     obtain⟨f1,f2,f3,f4,f5,cs2,tyc2,f6,f7,f8⟩:=g1;simp only at f3 f4 f5 f8;exact⟨f1,f2,λi hi=>by simp only;rw[←hrr i hi];exact f3 i hi,λi t hi ht=>f4 i t hi (by rw[hrr i hi];exact ht),λ_ i t hi ht=>f5 trivial i t hi (by rw[hrr i hi];exact ht),cs2,tyc2,f6,f7,λi j t hi hj=>f8 i j t hi (by rw[hrr i hi];exact hj)⟩
   ·obtain⟨_,_,p1,_⟩:=ownb i j _ _ _ _ hi hj;obtain⟨_,_,p2,_⟩:=ownb i' j' _ _ _ _ hi' hj';exact hF.inj i j i' j' _ _ _ _ _ _ _ _ hi hi' p1 p2 hc hc' he
  ·rcases hb with hb|⟨v0,ty0,sz0,n0,K0,i0,j0,oty1,osz1,on1,orow1,hobe,hi0,hj0,hc0,rfl⟩
   ·exact .inl hb
   ·simp only[Ob.fam.injEq] at hobe;obtain⟨rfl,rfl,rfl,rfl,rfl⟩:=hobe;obtain⟨_,_,p1,_⟩:=ownb i0 j0 _ _ _ _ hi0 hj0;exact .inr ⟨_,_,_,_,_,_,_,_,_,_,_,rfl,hi0,p1,hc0,rfl⟩
  ·rcases hb with hb|⟨v0,ty0,sz0,n0,K0,i0,j0,oty1,osz1,on1,orow1,hobe,hi0,hj0,hc0,rfl⟩
   ·exact .inl hb
   ·simp only[Ob.fam.injEq] at hobe;obtain⟨rfl,rfl,rfl,rfl,rfl⟩:=hobe;have hl:=(fH (hr i0 hi0)).1;have hlt:j0<(row' i0).length:=by rw[←hl];exact(x7.1 hj0).1
    obtain⟨t0,h0,hc⟩:=back i0 j0 _ hi0 (J5 hlt)
    rw[hj0] at h0;simp only[X4] at h0;subst h0;have hg:=J5 hlt
    rcases uR hc with he|⟨_,_,_,_,_,_,he,he2,_⟩
    ·rw[←he] at hg;exact .inr ⟨_,_,_,_,_,_,_,_,_,_,_,rfl,hi0,hg,hc0,rfl⟩
    ·rw[he2] at hg;exact .inr ⟨_,_,_,_,_,_,_,_,_,_,_,rfl,hi0,hg,hc0,rfl⟩
 ·rename_i ty l ty' l' he he';simp only[X4] at he he';subst he;subst he';subst h;refine⟨?_,λb=>?_,λ_ _ _ _ _ hh=>by cases hh⟩
  ·exact ho
  ·exact⟨λhb=>.inl (hb.arr rfl),λhb=>.inl (hb.arr rfl)⟩
 ·exact h.elim
theorem c0m:∀{H H':Y5},a8c H H'->H.length=H'.length/\∀k,(Z0 H k=none/\Z0 H' k=none)∨∃o o',Z0 H k=some o/\Z0 H' k=some o'/\a2W (some o) (some o'):=by
 intro H;induction H with
 |nil=>intro H' h;cases H' with
  |nil=>exact⟨rfl,λk=>.inl ⟨rfl,rfl⟩⟩
  |cons=>exact h.elim
 |cons o H i=>intro H' h;cases H' with
  |nil=>exact h.elim
  |cons o' H'=>
   obtain⟨e,d⟩:=i h.2;refine⟨by simp[e],λk=>?_⟩
   cases k with
   |zero=>
    have M:=h.1;cases o with
    |none=>simp[a2W] at M
    |some o=>cases o' with
     |none=>simp[a2W] at M
     |some o'=>exact .inr ⟨o,o',rfl,rfl,M⟩
   |succ k=>simpa[Z0] using d k
theorem a8O{P:Program}{f:FuncId}{args A:List T}{H1 H2 H':Y5}{res:T}(O:fG args A)(J:a8c H1 H2)(h:I8 P f A H2 res H'):I8 P f args H1 res H':=by
 intro E w vs e Q hv;obtain⟨I,h2⟩:=c0m J;have B:∀k o',Z0 H2 k=some o'->∃o,Z0 H1 k=some o/\j4 E w k o'/\(∀b,C1 E k o' b↔C1 E k o b)/\∀v ty sz n row,o= .fam v ty sz n row->∃t row',o'= .fam v t sz n row':=λk o' d=>by
  rcases h2 k with⟨_,h3⟩|⟨o,o2,h3,h4,h5⟩
  ·rw[d] at h3;cases h3
  ·rw[d] at h4;simp only[X4] at h4;subst h4;exact⟨o,h3,jP h5 (e.live k o h3).2.1⟩
 have z:HeapOk E w H2:=by
  refine⟨λk o' d=>?_,λk k' o o' b d l x j=>?_,λk d=>by rw[←I];exact e.lt k d,e.l2,λk o' v d hv=>?_⟩
  ·obtain⟨o,g,F,i,_⟩:=B k o' d;obtain⟨N,_,L⟩:=e.live k o g;exact⟨N,F,λb x=>L b ((i b).1 x)⟩
  ·obtain⟨o1,g,_,i,_⟩:=B k o d;obtain⟨o2,r,_,C,_⟩:=B k' o' l;exact e.inj k k' o1 o2 b g r ((i b).1 x) ((C b).1 j)
  ·obtain⟨o,g,_,_,r⟩:=B k o' d;obtain⟨V,ty,sz,n,row,M,u⟩:=e.cur k o v g hv;obtain⟨t,row',q⟩:=r _ _ _ _ _ M;exact⟨V,t,sz,n,row',q,u⟩
 have X:XB E H2=XB E H1:=by
  funext b
  refine propext ⟨λ⟨k,o',d,x⟩=>?_,λ⟨k,o,d,x⟩=>?_⟩
  ·obtain⟨o,g,_,i,_⟩:=B k o' d;exact⟨k,o,g,(i b).1 x⟩
  ·rcases h2 k with⟨h3,_⟩|⟨o1,o2,h3,h4,h5⟩
   ·rw[d] at h3;cases h3
   ·rw[d] at h3;simp only[X4] at h3;subst h3;exact⟨k,o2,h4,((jP h5 (e.live k o d).2.1).2.1 b).2 x⟩
 have:=h E w vs z Q (a0P O hv);rw[X] at this;exact this
structure Good(P:Program)(G G':I7):Prop where
 ok:D1 P G'
 call:∀x ∈ G',Q8 P x.1
 stays:∀op,stays G' op=stays G op
 grow:∀op,yU G' op=yU G op
 ef:∀y,isEf G' y=isEf G y
theorem bO{G:I7}{f:FuncId}{c:Con}(h:w5 G f=some c)(r:c.isRel=true):rN G f=none/\gmk G f=none:=by
 induction G with
 |nil=>cases h
 |cons x G i=>
  obtain⟨g,d⟩:=x;simp only[w5] at h;simp only[rN,gmk];split at h
  ·simp only[X4] at h;subst h;cases d<;>first|exact⟨rfl,rfl⟩|(cases r)
  ·exact i h
theorem a2p{f:FuncId}{c:Con}:∀{G:I7},b7s G f=some c->(f,c) ∈ G
 | [],h=>J4
 |(g,d)::r,h=>by
  unfold b7s at h;split at h
  ·exact List.mem_cons_of_mem _ (cD h)
  ·exact List.mem_cons_of_mem _ (a2p h)
theorem rZ(l:D1 P G)(C:∀x ∈ G,Q8 P x.1){s:W7}{op:Op}{k:I7->Prop}(h:iF G s op k):∃G',Good P G G'/\k G':=by
 unfold iF at h;split at h
 ·exact⟨G,⟨l,C,λ_=>rfl,λ_=>rfl,λ_=>rfl⟩,h⟩
 ·rename_i f r hr;have R:b8c G f=some r:=by
   unfold c1y at hr;split at hr
   ·split at hr
    ·simp only[G8,U1] at hr;obtain⟨O,i,rfl,rfl⟩:=hr;exact i
    ·cases hr
   ·cases hr
  obtain⟨M,j⟩:=b63 R;have good:∀d:Con,a40 P f d->d.isMk=r.isMk->d.isEf=r.isEf->(∀y,isEff ((f,d)::G) y=isEff G y)->nP ((f,d)::G)=nP G->Good P G ((f,d)::G):=by
   intro d hd e v hie z;have u:∀op,tU ((f,d)::G) op=tU G op:=λop=>by
    unfold tU;rw[z]
   have o:∀y:Operand,isMk ((f,d)::G) y=isMk G y:=by
    intro y;cases y with
    |func g=>
     simp only[isMk,w5];cases B:Nat.beq g f with
     |true=>rw[H4 B,j];exact e
     |false=>rfl
    |_=>rfl
   refine⟨λy hy=>?_,λy hy=>?_,λop=>?_,λop=>by unfold yU;split<;>first|rfl|exact o _,λy=>?_⟩
   ·rcases xX.1 hy with rfl|hy
    ·exact hd
    ·exact l y hy
   ·rcases xX.1 hy with rfl|hy
    ·exact C (f,r) M
    ·exact C y hy
   ·unfold SS.stays;rw[u];have:u6 ((f,d)::G) op=u6 G op:=by
     unfold u6;split<;>first|rfl|rw[hie]
    rw[this]
   ·cases y with
    |func g=>
     simp only[isEf,w5];cases B:Nat.beq g f with
     |true=>rw[H4 B,j];exact v
     |false=>rfl
    |_=>rfl
  have hie:∀d:Con,d.isEff=r.isEff->∀y:Operand,isEff ((f,d)::G) y=isEff G y:=by
   intro d e y;cases y with
   |func g=>
    simp only[isEff,w5];cases B:Nat.beq g f with
    |true=>rw[H4 B,j];exact e
    |false=>rfl
   |_=>
    simp only[isEff,anyEff];cases hd:d.isEff with
    |false=>rfl
    |true=>rw[a5f M (e.symm.trans hd)];rfl
  split at h
  ·rename_i r;obtain⟨x,hx⟩:=h;refine⟨_,good (.pure λas=>some (r.res x,some (fG as (r.args x)/\r.side x))) ?_ rfl rfl (hie _ rfl) rfl,hx⟩
   intro as res p e hp;simp only[X4,U1] at e;obtain⟨rfl,rfl⟩:=e;obtain⟨i,n⟩:=hp;have F:=l _ M x n;intro E w vs L N A;exact F E w vs L N (a0P i A)
  ·rename_i r;have one:∀(r2:Rle),(f,Con.reff r2) ∈ G->(∃x:r2.ι,k (a9M f r2 x G))->∃G',Good P G G'/\k G':=by
    intro r2 q h;obtain⟨x,hx⟩:=h;refine⟨_,good (.eff λas H=>b9m r2 x as H) ?_ rfl rfl (hie _ rfl) rfl,hx⟩
    have base:gJ P f λas H=>some (r2.res x,r2.post x,some (fG as (r2.args x)/\a8c H (r2.pre x)/\r2.side x)):=by
     intro as H res H' p e hp;simp only[X4,U1] at e;obtain⟨rfl,rfl,rfl⟩:=e;obtain⟨i,n,t⟩:=hp;exact a8O i n (l _ q x t)
    intro as H res H' p e hp;replace e:b9m r2 x as H=some (res,H',p):=e;unfold b9m at e;split at e
    ·exact base as H res H' p e hp
    ·exact c2J base as H res H' p e hp
   split at h
   ·rename_i r2 hr2;rcases h with h|h
    ·exact one r M h
    ·exact one r2 (a2p hr2) h
   ·exact one r M h
  ·rename_i r;obtain⟨x,hx⟩:=h;refine⟨_,good (.mk λas=>some (r.res x,r.post x,some (fG as (r.args x)/\r.side x))) ?_ rfl rfl (hie _ rfl) rfl,hx⟩
   intro as res H' p e hp;simp only[X4,U1] at e;obtain⟨rfl,rfl,rfl⟩:=e;obtain⟨i,t⟩:=hp;obtain⟨Q,J,I⟩:=l _ M x t;exact⟨a8O (H2:=[]) i (show a8c [] [] from trivial) Q,J,I⟩
  ·rename_i r;obtain⟨x,hx⟩:=h;refine⟨_,good (.fz λas=>some (r.res x,some (fG as (r.args x)/\r.side x))) ?_ rfl rfl (hie _ rfl) rfl,hx⟩
   intro as res p e hp;simp only[X4,U1] at e;obtain⟨rfl,rfl⟩:=e;obtain⟨i,n⟩:=hp;have F:=l _ M x n;intro E w vs L N A;exact F E w vs L N (a0P i A)
  ·exact⟨G,⟨l,C,λ_=>rfl,λ_=>rfl,λ_=>rfl⟩,h⟩
theorem c3g(n:D1 P G)(C:∀x ∈ G,Q8 P x.1)(h:Inv c E H w){a:Act}{s:W7}{o:Oper}{y:T}{H':Y5}{side:Option Prop}(he:K5 P G s H o.op=some (y,H',side))(hs:side.getD True)
  (hop:∀x ∈ F5 o.op,G7 E w a s x)
  (l:∀c x y,o.op= .pick c x y->(∀b,L8 s c= .bool b->b=true->G7 E w a s x)/\(∀b,L8 s c= .bool b->b=false->G7 E w a s y))
  {K:Act->World->Prop} {Q:Exit->Act->World->Prop} (d:c1H c E w o a y H' K):o.wp P a w K Q:=by
 unfold K5 at he;split at he
 ·rename_i t p hv;simp only[X4,U1] at he;obtain⟨rfl,rfl,rfl⟩:=he;obtain⟨v,hrun,hr⟩:=c2K (P:=P) hv hs h.heap hop l;exact j3 hrun (d v w E h (Step.refl E w) hr)
 ·split at he
  ·rename_i r hm;simp only[X4] at he;subst he;obtain⟨w',E',hrun,hI,hst⟩:=c2D (P:=P) h hm hs hop;rcases hrun with⟨v,hrun,hr⟩|⟨hrun,rfl⟩
   ·exact j3 hrun (d v w' E' hI hst hr)
   ·exact c0r hrun (d undef w' E' hI hst (.und _))
  ·split at he
   ·rename_i x args argTypes hoe;have hmem:∀{α:Type} (g:Con->Option α) (sel:I7->FuncId->Option α),(∀f,sel [] f=none)->(∀h c r f,sel ((h,c)::r) f=match Nat.beq f h with|true=>g c|false=>sel r f)->∀(G:I7) (f:FuncId) (r:α),sel G f=some r->∃x ∈ G,x.1=f:=by
     intro α g sel u q G;induction G with
     |nil=>intro f r h;rw[u] at h;cases h
     |cons x G I=>
      intro f r h;obtain⟨a,b⟩:=x;rw[q] at h;split at h
      ·rename_i B;exact⟨(a,b),X3,(H4 B).symm⟩
      ·obtain⟨x,hx,he⟩:=I f r h;exact⟨x,by simp[hx],he⟩
    have effCall:∀{g:FuncId} {as:List T},xR G H g as=some (y,H',side)->Q8 P g:=by
     intro g as he;unfold xR at he;split at he
     ·rename_i c0 hc0;obtain⟨y,hy,rfl⟩:=hmem (λc=>match c with| .eff c=>some c|_=>none) rN (λ_=>rfl) (λ_ _ _ _=>rfl) G g c0 hc0
      exact C y hy
     ·split at he
      ·rename_i c0 hc0;obtain⟨y,hy,rfl⟩:=hmem (λc=>match c with| .mk c=>some c|_=>none) gmk (λ_=>rfl) (λ_ _ _ _=>rfl) G g c0 hc0
       exact C y hy
      ·split at he
       ·rename_i c0 hc0;obtain⟨y,hy,rfl⟩:=hmem (λc=>match c with| .fz c=>some c|_=>none) gfz (λ_=>rfl) (λ_ _ _ _=>rfl) G g c0 hc0
        exact C y hy
       ·cases he
    have O:∀{g:FuncId} {cs:List T},cX s x=some (g,cs)->((zX G H g (args.toList.map (L8 s)++cs)).map λr=>(r.1,H,r.2))=some (y,H',side)->o.wp P a w K Q:=by
     intro g cs hfn he;cases hp:zX G H g (args.toList.map (L8 s)++cs) with
     |none=>rw[hp] at he;cases he
     |some r=>
      rw[hp] at he;simp only[o7,X4,U1] at he;obtain⟨rfl,rfl,rfl⟩:=he;rw[hoe] at hop;obtain⟨caps,hx,hcaps⟩:=a9u hfn (hop x wM)
      have hargs:=gP (a0I (args:=args) (λx hx=>hop x b6B)) hcaps
      have hcallable:Q8 P g:=by
       have:∃args r,gam G g args=some r:=by
        unfold zX at hp;split at hp
        ·exact⟨_,_,hp⟩
        ·split at hp
         ·split at hp
          ·rename_i j;exact⟨_,_,j⟩
          ·cases hp
         ·cases hp
       obtain⟨as,R,j⟩:=this;obtain⟨y,hy,rfl⟩:=hmem (λc=>match c with| .pure c=>c as|_=>none) (λG f=>gam G f as) (λ_=>rfl) (λ_ _ _ _=>rfl) G g R j
       exact C y hy
      refine eY (fN (P:=P) (w:=w) hoe hcallable hx) ((b8e n h hp hs hargs).mono λe w' i=>?_)
      obtain⟨v,E',rfl,hI,hst,hr⟩:=i;exact⟨v,rfl,d v w' E' hI hst hr⟩
    split at he
    ·split at he
     ·rename_i g hie;have hcallable:=effCall he;rw[hoe] at hop;have hargs:=a0I (args:=args) (λx hx=>hop x b6B)
      have hrun:=fN (P:=P) (w:=w) (caps:= #[]) hoe hcallable (a:=a) (x:=.func g) rfl;rw[Array.append_empty] at hrun;refine eY hrun ((b7c n h he hs hargs).mono λe w' i=>?_)
      obtain⟨v,E',rfl,hI,hst,hr⟩:=i;exact⟨v,rfl,d v w' E' hI hst hr⟩
     ·split at he
      ·rename_i g cs hfn;split at he
       ·have hcallable:=effCall he;rw[hoe] at hop;obtain⟨caps,hx,hcaps⟩:=a9u hfn (hop _ wM)
        have hargs:=gP (a0I (args:=args) (λx hx=>hop x b6B)) hcaps
        refine eY (fN (P:=P) (w:=w) hoe hcallable hx) ((b7c n h he hs hargs).mono λe w' i=>?_)
        obtain⟨v,E',rfl,hI,hst,hr⟩:=i;exact⟨v,rfl,d v w' E' hI hst hr⟩
       ·exact O hfn he
      ·cases he
    ·split at he
     ·rename_i g cs hfn;exact O hfn he
     ·cases he
   ·cases he
theorem a4E(hG:D1 P G)(hGc:∀x ∈ G,Q8 P x.1)(h:Inv c E H w){a:Act}{s:W7}{o:Oper}{y:T}{H':Y5}{side:Option Prop}(he:A3 P G s H o.op=some (y,H',side))(hs:side.getD True)
  (hop:∀x ∈ F5 o.op,G7 E w a s x)
  (hpk:∀c x y,o.op= .pick c x y->(∀b,L8 s c= .bool b->b=true->G7 E w a s x)/\(∀b,L8 s c= .bool b->b=false->G7 E w a s y))
  {K:Act->World->Prop} {Q:Exit->Act->World->Prop} (hk:c1H c E w o a y H' K):o.wp P a w K Q:=by
 unfold A3 at he;split at he
 ·rename_i ht;split at he
  ·rename_i t p hv;simp only[X4,U1] at he;obtain⟨rfl,rfl,rfl⟩:=he;unfold tU at ht;split at ht
   ·rename_i ty n parts hoe;rw[hoe] at hv hop;obtain⟨r,w',E',hrun,h1,h2,h3⟩:=b7n (P:=P) (a:=a) h (show a1q P s ty (n+1) parts=some (_,_) from hv) (λp hp=>hop p.2 (by simp only[F5,Op.operands,List.mem_map];exact⟨p,hp,rfl⟩))
    refine j3 (w':=w') (v:=r) ?_ (hk r w' E' h2 h3 h1)
    simp only[execOp,hoe,E9,hrun,F4,B2]
   ·rename_i ty parts hoe;rw[hoe] at hv hop;obtain⟨r,w',E',hrun,h1,h2,h3⟩:=b8A (P:=P) (a:=a) h hv;refine j3 (w':=w') (v:=r) ?_ (hk r w' E' h2 h3 h1)
    simp only[execOp,hoe,E9,hrun,F4,B2]
   ·rename_i args argTypes hoe;rw[hoe] at hv hop;simp only[a2G] at hv;split at hv
    case h_2=>cases hv
    rename_i d x t1 tx ha hat;obtain rfl:args= #[d,x]:=Array.ext' tZ
    obtain rfl:argTypes= #[t1,tx]:=Array.ext' a0l
    split at hv
    case h_2=>cases hv
    rename_i e hd hu;split at hv
    case h_2=>cases hv
    rename_i i z hi hz;split at hv
    case h_2=>cases hv
    rename_i q hl hq;split at hv
    case h_2=>cases hv
    rename_i hcl;simp only[X4,U1] at hv;obtain⟨rfl,rfl⟩:=hv;have hdo:=hop d wM
    unfold G7 at hdo;rw[hd] at hdo;obtain⟨r,w',E',hrun,h1,h2,h3⟩:=c0J (P:=P) (ty:=o.type) h hu hi hz hl hq hcl hs hdo (hop x wM)
    refine j3 (w':=w') (v:=r) ?_ (hk r w' E' h2 h3 h1)
    simp[execOp,hoe,resolve,invoke,builtin,hrun,Result.andThen]
   ·cases ht
  ·cases he
 ·exact c3g hG hGc h he hs hop hpk hk
end
def I6(s:W7)(p:E4):Prop:=∀q,q ∈ p->∃x,b9 s q.1= .bool x/\x=q.2
structure SlotsOk(E:Env)(w:World)(s:W7)(ps:A2)(a:Act):Prop where
 on:∀i,I6 s (S6 ps i)->Rd E w (b9 s i) (a.tmps.getD i undef)
 off:∀i,¬I6 s (S6 ps i)->a.tmps.getD i undef=undef
structure RealE(c:Ctx)(E:Env)(s:W7)(ps:A2)(H:Y5)(a:Act)(w:World):Prop where
 defers:a.defers=[]
 size:a.tmps.size=c.nt
 slots:SlotsOk E w s ps a
 inv:Inv c E H w
def kP(c:Ctx)(s:W7)(H:Y5)(a:Act)(w:World):Prop:=∃E,RealE c E s [] H a w
theorem vA(s:W7)(d:Nat)(t:T)(i:Nat):b9 (yB s (some d) t) i=if i=d then t else b9 s i:=by
 simp only[yB,b9];split
 ·rename_i h;rw[if_pos (H4 h)]
 ·rename_i h;rw[if_neg (Nat.ne_of_beq_eq_false h)]
theorem hJ(ps:A2)(i:Nat):S6 ps i=[]∨(i,S6 ps i) ∈ ps:=by
 induction ps with
 |nil=>exact .inl rfl
 |cons x ps ih=>
  obtain⟨j,p⟩:=x;simp only[S6];split
  ·rename_i h;obtain rfl:=H4 h;exact .inr X3
  ·rcases ih with ih|ih
   ·exact .inl ih
   ·exact .inr (by simp[ih])
theorem jC{ps:A2}{d:Nat}(h:fO ps d=true):S6 ps d=[]/\∀i,∀q ∈ S6 ps i,q.1≠d:=by
 unfold fO at h;have f:=j8.1 h;constructor
 ·rcases hJ ps d with h1|h1
  ·exact h1
  ·have:=f _ h1;simp at this
 ·intro i q hq;rcases hJ ps i with h1|h1
  ·rw[h1] at hq;cases hq
  ·have:=f _ h1;simp only[M1] at this;have:=j8.1 this.2 q hq;intro e;rw[e] at this;simp at this
theorem zD{s:W7}{d:Nat}{t:T}{p:E4}(h:∀q ∈ p,q.1≠d):I6 (yB s (some d) t) p↔I6 s p:=by
 unfold I6;constructor
 ·intro hp q hq;have:=hp q hq
  rwa [vA,if_neg (h q hq)] at this
 ·intro hp q hq;have:=hp q hq
  rwa [vA,if_neg (h q hq)]
theorem sH(a:Act)(d:Nat)(v:Value)(i:Nat)(hd:d<a.tmps.size):(a.put (some d) v).tmps.getD i undef=if i=d then v else a.tmps.getD i undef:=by
 simp only[Act.put,Array.getD_eq_getD_getElem?,Array.getElem?_setIfInBounds]
 by_cases h:d=i
 ·subst h;simp[hd]
 ·rw[if_neg h,if_neg (λe=>h e.symm)]
section
variable {c:Ctx} {E E':Env} {H H':Y5} {w w':World} {P:Program} {G:I7} {s:W7} {ps:A2} {a:Act}
theorem SlotsOk.step(h:SlotsOk E w s ps a)(d:Step E w E' w'):SlotsOk E' w' s ps a:=⟨λi hi=>d.rd (h.on i hi),h.off⟩
theorem SlotsOk.put(h:SlotsOk E w s ps a){d:Nat}(f:fO ps d=true)(hd:d<a.tmps.size){t:T}{v:Value}(r:Rd E w t v):SlotsOk E w (yB s (some d) t) ps (a.put (some d) v):=by
 obtain⟨g,e⟩:=jC f;refine⟨λi hi=>?_,λi hi=>?_⟩
 ·rw[sH a d v i hd,vA];by_cases he:i=d
  ·rw[if_pos he,if_pos he];exact r
  ·rw[if_neg he,if_neg he];exact h.on i ((zD (e i)).1 hi)
 ·rw[sH a d v i hd];by_cases he:i=d
  ·subst he;rw[g] at hi;exact absurd (λq Q=>oE) hi
  ·rw[if_neg he];exact h.off i (λhp=>hi ((zD (e i)).2 hp))
theorem SlotsOk.putG(h:SlotsOk E w s ps a){d:Nat}(F:fO ps d=true)(hd:d<a.tmps.size){p:E4}(hp:∀q ∈ p,q.1≠d){t:T}{v:Value}(r:I6 s p->Rd E w t v)(u:¬I6 s p->v=undef):
  SlotsOk E w (yB s (some d) t) ((d,p)::ps) (a.put (some d) v):=by
 obtain⟨g,f⟩:=jC F;have hpo:∀i,S6 ((d,p)::ps) i=if i=d then p else S6 ps i:=by
  intro i;simp only[S6];split
  ·rename_i B;rw[if_pos (H4 B)]
  ·rename_i B;rw[if_neg (Nat.ne_of_beq_eq_false B)]
 refine⟨λi hi=>?_,λi hi=>?_⟩
 ·rw[hpo] at hi;rw[sH a d v i hd,vA];by_cases he:i=d
  ·rw[if_pos he] at hi;rw[if_pos he,if_pos he];exact r ((zD hp).1 hi)
  ·rw[if_neg he] at hi;rw[if_neg he,if_neg he];exact h.on i ((zD (f i)).1 hi)
 ·rw[hpo] at hi;rw[sH a d v i hd];by_cases he:i=d
  ·rw[if_pos he] at hi;rw[if_pos he];exact u (λe=>hi ((zD hp).2 e))
  ·rw[if_neg he] at hi;rw[if_neg he];exact h.off i (λhp=>hi ((zD (f i)).2 hp))
theorem aF:∀{p q:E4},pK p q=true->p=q:=by
 intro p;induction p with
 |nil=>intro q h;cases q with|nil=>rfl|cons=>simp[pK] at h
 |cons x p i=>
  intro q h;cases q with
  |nil=>simp[pK] at h
  |cons y q=>
   obtain⟨a,b⟩:=x;obtain⟨c,d⟩:=y;simp only[pK,M1] at h;obtain⟨⟨f,e⟩,g⟩:=h;obtain rfl:=H4 f;obtain rfl:=eq_of_beq e;rw[i g]
theorem b5Z{p:E4}:∀{q:E4},sufB p q=true->I6 s q->I6 s p:=by
 intro q;induction q with
 |nil=>intro h Q;rw[aF h];exact Q
 |cons x q i=>
  intro h Q;simp only[sufB,qR] at h;rcases h with h|h
  ·rw[aF h];exact Q
  ·exact i h (λy Y=>Q y (by simp[Y]))
theorem nS(h:SlotsOk E w s ps a){d:E4}(hp:I6 s d){x:Operand}(X:iG ps d x=true):G7 E w a s x:=
 a1n λt e=>by
  subst e;exact h.on t (b5Z X hp)
theorem tG(h:SlotsOk E w s ps a){e:E4}(hp:I6 s e){op:Op}(d:H6 ps e op=true):
  (∀x ∈ F5 op,G7 E w a s x)/\∀c x y,op= .pick c x y->(∀b,L8 s c= .bool b->b=true->G7 E w a s x)/\(∀b,L8 s c= .bool b->b=false->G7 E w a s y):=by
 by_cases hpk:∃c x y,op= .pick c x y
 ·obtain⟨c,x,y,rfl⟩:=hpk;cases c with
  |tmp t=>
   simp only[H6,M1] at d;obtain⟨⟨g,h2⟩,h3⟩:=d;refine⟨λz Z=>?_,λC i Y he=>?_⟩
   ·simp only[F5,List.mem_singleton] at Z;subst Z;exact nS h hp g
   ·cases he;refine⟨λb hb hbt=>nS h (λq hq=>?_) h2,λb hb hbt=>nS h (λq hq=>?_) h3⟩
    ·rcases xX.1 hq with rfl|hq
     ·exact⟨b,hb,hbt⟩
     ·exact hp q hq
    ·rcases xX.1 hq with rfl|hq
     ·exact⟨b,hb,hbt⟩
     ·exact hp q hq
  |const=>simp[H6] at d
  |global=>simp[H6] at d
  |func=>simp[H6] at d
 ·have f:F5 op=op.operands.toList:=by
   cases op<;>first|rfl|exact absurd ⟨_,_,_,rfl⟩ hpk
  have l:op.operands.toList.all (iG ps e)=true:=by
   cases op<;>first|exact d|exact absurd ⟨_,_,_,rfl⟩ hpk
  refine⟨λx X=>nS h hp (j8.1 l x (by rw[←f];exact X)),λc x y he=>absurd ⟨c,x,y,he⟩ hpk⟩
theorem lQ:∀{p:E4} {q:Prop},C0 s p q->I6 s p->q:=by
 intro p;induction p with
 |nil=>intro q h _;exact h
 |cons x p ih=>
  intro q h hp;obtain⟨t,b⟩:=x;simp only[C0] at h;split at h
  ·rename_i y hy;have:=ih h (λz hz=>hp z (by simp[hz]))
   obtain⟨X,d,e⟩:=hp (t,b) X3
   rw[hy] at d;cases d;exact this e
  ·exact h.elim
theorem a3I:∀{p:E4} {q:Prop},sY s p=true->(I6 s p->q)->C0 s p q:=by
 intro p;induction p with
 |nil=>intro q _ h;exact h (λz hz=>by cases hz)
 |cons x p ih=>
  intro q hb h;obtain⟨t,b⟩:=x;simp only[sY] at hb;simp only[C0];split at hb
  ·rename_i y hy;refine ih hb λhp he=>h λz hz=>?_
   rcases xX.1 hz with rfl|hz
   ·exact⟨y,hy,he⟩
   ·exact hp z hz
  ·cases hb
theorem a1d{p:E4}(B:sY s p=true)(h:¬I6 s p):C0 s p False:=a3I B λhp=>h hp
theorem xL{p:E4}{side:Option Prop}{q:Prop}(h:lU s p side q):(I6 s p->side.getD True)/\q:=by
 cases side with
 |none=>exact⟨λ_=>trivial,h⟩
 |some r=>exact⟨λhp=>lQ h.1 hp,h.2⟩
theorem a3n(s:W7)(ps:A2)(i:Nat):b9 (cI s ps) i= .und∨(b9 (cI s ps) i=b9 s i/\S6 ps i=[]):=by
 induction ps with
 |nil=>exact .inr ⟨rfl,rfl⟩
 |cons x ps h=>
  obtain⟨d,p⟩:=x;simp only[cI,b9,S6];split
  ·exact .inl rfl
  ·exact h
theorem SlotsOk.ends(h:SlotsOk E w s ps a):SlotsOk E w (cI s ps) [] a:=by
 refine⟨λi _=>?_,λi hi=>absurd (λq Q=>oE) hi⟩
 rcases a3n s ps i with he|⟨he,hp⟩
 ·rw[he];exact .und _
 ·rw[he];exact h.on i (by rw[hp];exact λq Q=>oE)
theorem b2T{op:Op}{y:T}{side:Option Prop}(he:K5 P G s H op=some (y,H',side))(h:u6 G op=true):H'=H:=by
 unfold K5 at he;split at he
 ·simp only[X4,U1] at he;exact he.2.1.symm
 ·split at he
  ·rename_i r hm;simp only[X4] at he;subst he;unfold A8 at hm;split at hm
   all_goals first|(simp[u6] at h;done)|skip
   ·split at hm
    ·split at hm
     ·simp only[X4,U1] at hm;exact hm.2.1.symm
     ·cases hm
    ·cases hm
   ·cases hm
  ·split at he
   ·rename_i x args at_;split at he
    ·rename_i e;simp[u6,e] at h
    ·split at he
     ·simp only[G8,U1] at he;obtain⟨r,_,_,he,_⟩:=he;exact he.symm
     ·cases he
   ·cases he
theorem b3J{op:Op}{y:T}{side:Option Prop}(he:A3 P G s H op=some (y,H',side))(h:stays G op=true):H'=H:=by
 unfold A3 at he;unfold stays at h;split at he
 ·split at he
  ·simp only[X4,U1] at he;exact he.2.1.symm
  ·cases he
 ·rename_i t;rw[t] at h;exact b2T he h
theorem b0S{E:Env}{w:World}{a:Act}{s:W7}{o:Oper}{n:Nat}{neg:Bool}(h:a71 P s o.op=some (n,neg))(hop:∀x ∈ F5 o.op,G7 E w a s x):
  ∃b,c4G b n/\(execOp a.eval o).run P w= .ok (.value (.bool (cond neg (!b) b))) w:=by
 obtain⟨dst,op,ty,pos,after,guard⟩:=o;simp only at h hop;unfold a71 at h;split at h
 case h_2=>cases h
 rename_i bop t x y rt;have hx:=hop x B5
 have hy:=hop y B5
 unfold G7 at hx hy;have fin:∀{e:TypeId} {ad:Option Addr} {m cap:Nat},P.underlying t=some (.slice e)->a.eval x= .slice ad m cap->a.eval y= .slice none 0 0->(ad=none->m=0)->m=n->(bop= .eql/\neg=false)∨(bop= .neq/\neg=true)->
   ∃b,c4G b n/\(execOp a.eval ⟨dst,.binOp bop t x y rt,ty,pos,after,guard⟩).run P w= .ok (.value (.bool (cond neg (!b) b))) w:=by
  intro e ad m cap hu h1 h2 h3 h4 h5;refine⟨ad.isNone,λhb=>by rw[←h4];exact h3 lO,?_⟩
  rcases h5 with⟨rfl,rfl⟩|⟨rfl,rfl⟩
  ·simp only[execOp,h1,h2,eqGuard_at_slice,binOp];simp[run_equal_slice_nil w t e ad m cap hu]
  ·simp only[execOp,h1,h2,eqGuard_at_slice,binOp];simp[run_equal_slice_nil w t e ad m cap hu]
 have key:∀{x:T} {v:Value} {n:Nat},((∃sz row,x= .sl sz n row)∨∃k off,x= .osl k off n)->Rd E w x v->∃ad cap,v= .slice ad n cap/\(ad=none->n=0):=by
  intro x v n hx hr;rcases hx with⟨sz,row,rfl⟩|⟨k,off,rfl⟩
  ·cases hr with
   |slNil=>exact⟨none,0,rfl,λ_=>rfl⟩
   |slEmp _ _ a=>exact⟨some a,0,rfl,λ_=>rfl⟩
   |sl _ _ _ b off cap=>exact⟨_,cap,rfl,λh=>J4⟩
  ·cases hr with
   |osl _ _ _ o ad hL hn ho ha=>
    refine⟨ad,_,rfl,λh=>?_⟩
    by_cases hκ:E.κ k=0
    ·omega
    ·rw[ha hκ] at h;cases h
 split at h
 ·rename_i e sz n' row hu hsx hsy;simp only[X4,U1] at h;obtain⟨rfl,rfl⟩:=h;rw[hsx] at hx;rw[hsy] at hy;obtain⟨ad,cap,h1,h2⟩:=key (.inl ⟨_,_,rfl⟩) hx;exact fin hu h1 (wV hy) h2 rfl (.inl ⟨rfl,rfl⟩)
 ·rename_i e sz n' row hu hsx hsy;simp only[X4,U1] at h;obtain⟨rfl,rfl⟩:=h;rw[hsx] at hx;rw[hsy] at hy;obtain⟨ad,cap,h1,h2⟩:=key (.inl ⟨_,_,rfl⟩) hx;exact fin hu h1 (wV hy) h2 rfl (.inr ⟨rfl,rfl⟩)
 ·rename_i e k off n' hu hsx hsy;simp only[X4,U1] at h;obtain⟨rfl,rfl⟩:=h;rw[hsx] at hx;rw[hsy] at hy;obtain⟨ad,cap,h1,h2⟩:=key (.inr ⟨_,_,rfl⟩) hx;exact fin hu h1 (wV hy) h2 rfl (.inl ⟨rfl,rfl⟩)
 ·rename_i e k off n' hu hsx hsy;simp only[X4,U1] at h;obtain⟨rfl,rfl⟩:=h;rw[hsx] at hx;rw[hsy] at hy;obtain⟨ad,cap,h1,h2⟩:=key (.inr ⟨_,_,rfl⟩) hx;exact fin hu h1 (wV hy) h2 rfl (.inr ⟨rfl,rfl⟩)
 ·cases h
theorem a3S(hG:D1 P G)(hGc:∀x ∈ G,Q8 P x.1){all:Array Oper}{Q:Exit->Act->World->Prop}{K:W7->Y5->Prop}(hK:∀s' H' a' w',K s' H'->kP c s' H' a' w'->Q .normal a' w'):
  ∀(r:List Oper) (s:W7) (ps:A2) (H:Y5) (E:Env) (a:Act) (w:World),yR P G c.nt all r s ps H K->RealE c E s ps H a w->wpList P all Q r a w:=by
 intro r;induction r with
 |nil=>
  intro s ps H E a w h R;exact hK _ _ _ _ h ⟨E,R.defers,R.size,R.slots.ends,R.inv⟩
 |cons o r U=>
  intro s ps H E a w h R;have f:∀(d:Option Tmp) (v:Value),(a.put d v).defers=[]/\(a.put d v).tmps.size=c.nt:=by
   intro d v;cases d with
   |none=>exact⟨R.defers,R.size⟩
   |some d=>exact⟨R.defers,by simp[Act.put,R.size]⟩
  unfold yR at h;split at h
  ·rename_i hg;split at h
   ·exact h.elim
   ·rename_i hchk;simp only[M1] at hchk;obtain⟨⟨hpo,hfr⟩,hdst⟩:=hchk;split at h
    ·rename_i n neg hnc;have hnil:I6 s []:=λq hq=>by cases hq
     obtain⟨u,B⟩:=tG R.slots hnil hpo;obtain⟨b,hb,O⟩:=b0S (P:=P) (E:=E) (w:=w) (a:=a) hnc u;refine wpList_plain hg λKK M=>j3 O (M _ _ (U _ _ _ E _ _ (h b hb) ⟨(f _ _).1,(f _ _).2,?_,R.inv⟩))
     cases hd:o.dst with
     |none=>exact R.slots
     |some d=>
      rw[hd] at hfr hdst;exact R.slots.put hfr (by rw[R.size];exact zT hdst) (.bool _)
    obtain⟨G',hGG,h⟩:=rZ hG hGc h;split at h
    ·rename_i t H' side he;obtain⟨hs,hrest⟩:=xL h;have hnil:I6 s []:=λq hq=>by cases hq
     obtain⟨u,B⟩:=tG R.slots hnil hpo;refine wpList_plain hg λKK M=>?_
     refine a4E hGG.ok hGG.call R.inv he (hs hnil) u B λv w' E' V hst F=>?_
     refine M _ _ (U _ _ _ E' _ _ hrest ⟨(f _ _).1,(f _ _).2,?_,V⟩)
     cases hd:o.dst with
     |none=>exact R.slots.step hst
     |some d=>
      rw[hd] at hfr hdst;exact(R.slots.step hst).put hfr (by rw[R.size];exact zT hdst) F
    ·exact h.elim
  ·rename_i j want hg;split at h
   ·rename_i g hgd;split at h
    ·rename_i x hx;split at h
     ·exact h.elim
     ·rename_i hchk;simp only[M1] at hchk;obtain⟨⟨⟨hpo,hfr⟩,hdst⟩,L⟩:=hchk;obtain⟨d,hd⟩:∃d,o.dst=some d:=by
       cases hd:o.dst with
       |none=>rw[hd] at L;simp[oF] at L
       |some d=>exact⟨d,rfl⟩
      have z:=hfr;have C:=hdst;have A:=L;rw[hd] at z C A;have I:d<a.tmps.size:=by rw[R.size];exact zT C
      have l:∀q ∈ ((g,want)::S6 ps g),q.1≠d:=by
       intro q hq;simp only[oF,M1] at A;rcases xX.1 hq with rfl|hq
       ·intro e;have:=A.1;simp only at e;rw[e] at this;simp at this
       ·intro e;have:=j8.1 A.2 q hq;rw[e] at this;simp at this
      have Z:yielded all a.tmps j=match a.tmps[g]? with|some (.bool b)=>some b|_=>none:=by
       unfold yielded;rw[hgd];rfl
      have core:(I6 s ((g,want)::S6 ps g)->o.wp P a w (wpList P all Q r) Q)->(¬I6 s ((g,want)::S6 ps g)->wpList P all Q r (a.put o.dst undef) w)->wpList P all Q (o::r) a w:=by
       intro hT skip;unfold wpList;by_cases J:I6 s (S6 ps g)
       ·have hv:=R.slots.on g J;rw[hx] at hv;have i:=u7 hv;have X:a.tmps[g]? =some (.bool x):=by
         rw[Array.getD_eq_getD_getElem?] at i;cases hq:a.tmps[g]? with
         |none=>rw[hq] at i;simp[undef] at i
         |some y=>rw[hq] at i;simp at i;rw[i]
        have hyl:yielded all a.tmps j=some x:=by rw[Z,X]
        by_cases hxw:x=want
        ·have hw:Region.wanted o (yielded all a.tmps)=true:=by simp[Region.wanted,hg,hyl,hxw]
         rw[if_pos hw];refine .inl (hT λq hq=>?_)
         rcases xX.1 hq with rfl|hq
         ·exact⟨x,hx,hxw⟩
         ·exact J q hq
        ·have hw:¬Region.wanted o (yielded all a.tmps)=true:=by simp[Region.wanted,hg,hyl,hxw]
         rw[if_neg hw];exact skip λhp=>by
          obtain⟨x',N,W⟩:=hp (g,want) X3
          rw[hx] at N;cases N;exact hxw W
       ·have i:=R.slots.off g J;have hyl:yielded all a.tmps j=none:=by
         rw[Z];rw[Array.getD_eq_getD_getElem?] at i;cases hq:a.tmps[g]? with
         |none=>rfl
         |some y=>rw[hq] at i;simp at i;rw[i];rfl
        have hw:¬Region.wanted o (yielded all a.tmps)=true:=by simp[Region.wanted,hg,hyl]
        rw[if_neg hw];exact skip λhp=>J λq hq=>hp q (by simp[hq])
      have skip:∀{t:T},yR P G c.nt all r (yB s o.dst t) (dK ps o.dst ((g,want)::S6 ps g)) H K->¬I6 s ((g,want)::S6 ps g)->wpList P all Q r (a.put o.dst undef) w:=by
       intro t hrest hnp;refine U _ _ _ E _ _ hrest ⟨(f _ _).1,(f _ _).2,?_,R.inv⟩
       rw[hd];exact R.slots.putG z I l (λhp=>absurd hp hnp) (λ_=>rfl)
      split at h
      ·rename_i hst;obtain⟨G',hGG,h⟩:=rZ hG hGc h;split at h
       ·rename_i t H' side he;obtain rfl:=b3J he (by rw[hGG.stays];exact hst)
        obtain⟨hs,hrest⟩:=xL h;refine core (λhpp=>?_) (skip hrest)
        obtain⟨u,B⟩:=tG R.slots hpp hpo;refine a4E hGG.ok hGG.call R.inv he (hs hpp) u B λv w' E' V hst F=>?_
        refine U _ _ _ E' _ _ hrest ⟨(f _ _).1,(f _ _).2,?_,V⟩
        rw[hd];exact(R.slots.step hst).putG z I l (λ_=>F) (λY=>absurd hpp Y)
       ·exact h.elim
      ·split at h
       ·exact h.elim
       ·rename_i hbp;obtain⟨G',hGG,h⟩:=rZ hG hGc h;split at h
        ·rename_i t H' side he;obtain⟨hs,hrest⟩:=xL h;refine core (λhpp=>?_) (λhnp=>skip (hrest.2 (a1d hbp hnp)) hnp)
         obtain⟨u,B⟩:=tG R.slots hpp hpo;refine a4E hGG.ok hGG.call R.inv he (hs hpp) u B λv w' E' V hst F=>?_
         refine U _ _ _ E' _ _ (lQ hrest.1 hpp) ⟨(f _ _).1,(f _ _).2,?_,V⟩
         rw[hd];exact(R.slots.step hst).putG z I l (λ_=>F) (λY=>absurd hpp Y)
        ·exact h.elim
    ·exact h.elim
   ·exact h.elim
end
def F3(H H':Y5):Prop:=∀k ob,Z0 H k=some ob->Z0 H' k=some ob
theorem F3.refl(H:Y5):F3 H H:=λ_ _ h=>h
theorem F3.trans{A B C:Y5}(h:F3 A B)(k:F3 B C):F3 A C:=λi ob hi=>k i ob (h i ob hi)
section
variable {P:Program} {G:I7} {H H':Y5} {s:W7}
theorem F3.getA(h:F3 H H'){k:Nat}{A:Arr}(d:getA H k=some A):SS.getA H' k=some A:=by
 obtain⟨ob,B,⟨rfl,hi⟩|⟨v,ty,sz,n,row,rfl,rfl⟩⟩:=a0D d
 ·exact a7k (h k ob B) hi
 ·unfold SS.getA;rw[h k _ B]
theorem F3.getOwn(h:F3 H H'){k v i j:Nat}{A:Own}(d:getOwn H k v i j=some A):SS.getOwn H' k v i j=some A:=by
 obtain⟨ty,sz,row,B,_,_⟩:=zC d;unfold SS.getOwn at d ⊢;rw[h k _ B];rw[B] at d;exact d
theorem a6X(h:F3 H H'){t:TypeId}{x y:T}{r:T×Option Prop}(he:mR P H t x y=some r):mR P H' t x y=some r:=by
 unfold mR at he ⊢;split at he
 ·split at he
  ·rename_i d;simp only[h _ _ d];exact he
  ·cases he
 ·split at he
  ·rename_i d;simp only[h _ _ d];exact he
  ·cases he
 ·cases he
theorem a6p(h:F3 H H'){t:TypeId}{x:T}{r:T×Option Prop}(he:yL P H t x=some r):yL P H' t x=some r:=by
 unfold yL at he ⊢;split at he
 ·exact he
 ·split at he
  ·rename_i d;rw[h.getA d];exact he
  ·cases he
 ·split at he
  ·rename_i d;rw[h.getOwn d];exact he
  ·cases he
 ·cases he
theorem kI(h:F3 H H'){t:TypeId}{x i:T}{r:T×Option Prop}(he:A0 P H t x i=some r):A0 P H' t x i=some r:=by
 unfold A0 at he ⊢;split at he
 ·split at he
  case h_3 hu=>
   split at he
   ·rename_i d;simp only[h.getA d];exact he
   ·cases he
  case h_4 hu=>
   split at he
   ·rename_i d;simp only[h.getOwn d];exact he
   ·cases he
  all_goals first|(cases he;done)|(exact he)
 ·cases he
theorem a7Z(h:F3 H H'){a b:TypeId}{x:T}{r:T×Option Prop}(e:wO P H a b x=some r):wO P H' a b x=some r:=by
 unfold wO at e ⊢;split at e
 case h_4 hu1 hu2=>
  split at e
  ·rename_i d f;simp only[d,h _ _ f];exact e
  ·cases e
 all_goals first|(cases e;done)|(exact e)
theorem a4K(h:F3 H H'){t:TypeId}{x:T}{l hi:Option T}{r:T×Option Prop}(he:vC P H t x l hi=some r):vC P H' t x l hi=some r:=by
 unfold vC at he ⊢;split at he
 ·split at he
  case h_4 hu=>
   split at he
   ·rename_i d;simp only[h.getA d];exact he
   ·cases he
  all_goals first|(cases he;done)|(exact he)
 ·cases he
theorem b2Z(h:F3 H H'){op:Op}{r:T×Option Prop}(he:M3 P s H op=some r):M3 P s H' op=some r:=by
 unfold M3 at he ⊢;split at he
 case h_4=>exact a6p h he
 case h_8=>exact a7Z h he
 case h_11=>exact kI h he
 case h_15=>exact a4K h he
 case h_18=>exact a6X h he
 all_goals first|exact he|(cases he;done)
theorem r6{α β:Type}{f g:α->Option β}(h:∀a b,f a=some b->g a=some b):∀{l:List α} {q:List β},O3 f l=some q->O3 g l=some q:=by
 intro l;induction l with
 |nil=>intro q Q;exact Q
 |cons x l i=>
  intro q Q;simp only[O3] at Q ⊢;split at Q
  ·rename_i B r;rw[h _ _ B,i r];exact Q
  ·cases Q
theorem gX{B:Nat}(h:F3 H H'):∀(d:Nat) {t:T} {r:T×Option Prop},N4 B H d t=some r->N4 B H' d t=some r:=by
 intro d;induction d with
 |zero=>intro t r he;simp[N4] at he
 |succ d ih=>
  intro t r he;unfold N4 at he ⊢;split at he
  ·split at he
   ·exact he
   split at he
   ·rename_i A hk;simp only[h.getA hk];split at he
    ·rename_i hA;split at he
     ·rename_i hm;rw[r6 (λa b hb=>ih hb) hm]
      exact he
     ·cases he
    ·cases he
   ·cases he
  ·split at he
   ·exact he
   split at he
   ·rename_i hk;simp only[h _ _ hk];exact he
   ·rename_i hk;simp only[h _ _ hk];exact he
   ·rename_i hk;simp only[h _ _ hk];exact he
   ·rename_i hk;simp only[h _ _ hk];split at he
    ·split at he
     ·rename_i h0 h1;rw[r6 (λa b hb=>ih hb) h0,r6 (λa b hb=>ih hb) h1]
      exact he
     ·cases he
    ·cases he
   ·cases he
  ·simp only[G8] at he ⊢;obtain⟨a,e,rfl⟩:=he;exact⟨a,r6 (λa b hb=>ih hb) e,rfl⟩
  ·simp only[G8] at he ⊢;obtain⟨a,e,rfl⟩:=he;exact⟨a,r6 (λa b hb=>ih hb) e,rfl⟩
  ·simp only[G8] at he ⊢;obtain⟨a,e,rfl⟩:=he;exact⟨a,r6 (λa b hb=>ih hb) e,rfl⟩
  ·cases he
  ·split at he
   ·exact he
   split at he
   ·rename_i hk;simp only[h.getOwn hk];exact he
   ·cases he
  ·exact he
  ·cases he
  ·exact he
theorem a52(h:F3 H H'){f:FuncId}{args:List T}{r:T×Option Prop}(he:zX G H f args=some r):zX G H' f args=some r:=by
 unfold zX at he ⊢;split at he
 ·exact he
 ·split at he
  ·rename_i hb;rw[r6 (λa b hb=>gX h 6 hb) hb]
   exact he
  ·cases he
theorem b2u(h:F3 H H'){op:Op}{y:T}{H1:Y5}{side:Option Prop}(t:u6 G op=true)(he:K5 P G s H op=some (y,H1,side)):K5 P G s H' op=some (y,H',side):=by
 unfold K5 at he;split at he
 ·rename_i hv;simp only[X4,U1] at he;obtain⟨rfl,rfl,rfl⟩:=he;unfold K5;rw[b2Z h hv]
 ·rename_i hv;split at he
  ·rename_i r hm;simp only[X4] at he;subst he;unfold A8 at hm;split at hm
   case h_6 src dst x=>
    split at hm
    ·rename_i e l hs hd hx;split at hm
     ·rename_i hb;simp only[X4,U1] at hm;obtain⟨rfl,rfl,rfl⟩:=hm;have h1:M3 P s H' (.convert src dst x)=none:=by simp only[M3,wO,hs,hd,hx]
      unfold K5;rw[h1];simp only[A8,hs,hd,hx,hb]
     ·cases hm
    ·cases hm
   all_goals first|(simp[u6] at t;done)|(cases hm;done)
  ·rename_i hm;split at he
   ·rename_i f args argTypes;split at he
    ·rename_i hie;simp[u6,hie] at t
    ·rename_i hie;split at he
     ·rename_i g cs n;simp only[G8,U1] at he;obtain⟨r,R,rfl,rfl,rfl⟩:=he;unfold K5;simp only[M3,A8,hie,n,a52 h R,o7]
     ·cases he
   ·cases he
theorem a7s{op:Op}{y:T}{H1:Y5}{side:Option Prop}(hp:pureB op=true)(he:K5 P G s H op=some (y,H1,side)):K5 P G s H' op=some (y,H',side):=by
 have hv:M3 P s H' op=M3 P s H op:=by
  unfold pureB at hp;split at hp<;>first|(cases hp;done)|rfl
 have hm:A8 P s H op=none:=by
  unfold pureB at hp;split at hp<;>first|(cases hp;done)|rfl
 have h:∀c,op≠ .call c:=by
  rintro c rfl;simp[pureB] at hp
 unfold K5 at he ⊢;rw[hv];split at he
 ·simp only[X4,U1] at he ⊢;exact⟨he.1,trivial,he.2.2⟩
 ·rw[hm] at he;simp only at he;split at he
  ·exact absurd rfl (h _)
  ·cases he
theorem F8(H:Y5)(x:Option Ob):F3 H (H++[x]):=by
 intro k ob h;rw[q9,if_pos (H9 h)];exact h
theorem a8r{G:I7}{f:FuncId}{c:List T->Option (T×Y5×Option Prop)}(h:w5 G f=some (.mk c)):rN G f=none:=by
 induction G with
 |nil=>cases h
 |cons x G i=>
  obtain⟨g,d⟩:=x;simp only[w5] at h;simp only[rN];split at h
  ·simp only[X4] at h;subst h;rfl
  ·exact i h
theorem a2m{G:I7}{f:FuncId}{c:Con}(h:w5 G f=some c)(C:c.isMk=true):gfz G f=none:=by
 induction G with
 |nil=>cases h
 |cons x G i=>
  obtain⟨g,d⟩:=x;simp only[w5] at h;simp only[gfz];split at h
  ·simp only[X4] at h;subst h;cases d<;>first|rfl|(cases C)
  ·exact i h
theorem a3T{c:List T->Option (T×Y5×Option Prop)}{args:List T}{y:T}{side:Option Prop}(he:a2d c H args=some (y,H',side)):F3 H H':=by
 unfold a2d at he;split at he
 ·split at he
  ·split at he
   ·simp only[X4,U1] at he;obtain⟨_,rfl,_⟩:=he;intro k ob hk;unfold Z0 at hk ⊢;have hlt:=H9 hk
    rwa [tT hlt]
   ·cases he
  ·cases he
 ·cases he
theorem b0Z{op:Op}{y:T}{side:Option Prop}(hg:yU G op=true)(he:K5 P G s H op=some (y,H',side)):F3 H H':=by
 unfold K5 at he;split at he
 ·simp only[X4,U1] at he;obtain⟨_,rfl,_⟩:=he;exact F3.refl H
 ·split at he
  ·rename_i r hm;simp only[X4] at he;subst he;have box:∀{t:TypeId} {cs:List T} {y:T} {H':Y5} {side:Option Prop},bB P H t cs=some (y,H',side)->F3 H H':=by
    intro t cs y H' side hb;unfold bB at hb;split at hb
    ·simp only[X4,U1] at hb;obtain⟨_,rfl,_⟩:=hb;exact F8 H _
    ·cases hb
   unfold A8 at hm;split at hm
   ·split at hm
    ·exact box hm
    ·cases hm
   ·split at hm
    ·exact box hm
    ·cases hm
   ·simp[yU] at hg
   ·unfold a10 at hm;split at hm
    ·split at hm
     ·split at hm
      ·simp only[X4,U1] at hm;obtain⟨_,rfl,_⟩:=hm;exact F8 H _
      ·cases hm
     ·cases hm
    ·cases hm
   ·unfold I3 at hm;split at hm
    ·split at hm
     ·split at hm
      ·split at hm
       ·split at hm
        ·simp only[G8,U1] at hm;obtain⟨_,_,_,rfl,_⟩:=hm;exact F8 H _
        ·split at hm
         ·simp only[X4,U1] at hm;obtain⟨_,rfl,_⟩:=hm;exact F8 H _
         ·cases hm
       ·cases hm
      ·cases hm
     ·cases hm
    ·cases hm
   case h_8=>
    simp only[G8,U1] at hm;obtain⟨r',hr,rfl,rfl,_⟩:=hm;unfold vR at hr;split at hr
    ·simp only[X4] at hr;subst hr;exact F8 H _
    ·simp only[X4] at hr;subst hr;exact F8 H _
    ·split at hr
     ·simp only[X4] at hr;subst hr;exact F8 H _
     ·cases hr
   case h_10=>
    unfold nY at hm;split at hm
    ·split at hm
     ·split at hm
      ·simp only[X4,U1] at hm;obtain⟨_,rfl,_⟩:=hm;exact F8 H _
      ·cases hm
     ·cases hm
    ·cases hm
   all_goals first|(cases hm;done)|(simp[yU] at hg)
  ·split at he
   ·rename_i x args argTypes;simp only[yU] at hg;unfold isMk at hg;split at hg
    ·rename_i f;split at hg
     ·rename_i cn hcn;have h1:isEff G (.func f)=true:=by
       simp only[isEff,hcn];cases cn<;>first|rfl|(cases hg)
      have h2:rN G f=none:=by
       cases cn<;>first|(cases hg;done)|skip
       ·exact a8r hcn
       ·exact(bO hcn rfl).1
      rw[h1] at he;simp only at he;unfold xR at he;rw[h2] at he;simp only at he;split at he
      ·exact a3T he
      ·rw[a2m hcn (by cases cn<;>first|rfl|(cases hg))] at he
       cases he
     ·cases hg
    ·cases hg
   ·cases he
def aU(R:List Nat)(H H':Y5):Prop:=∀k,k ∈ R->∀ob,Z0 H k=some ob->Z0 H' k=some ob
theorem b1A{op:Op}{y:T}{H1:Y5}{side:Option Prop}{R:List Nat}(hr:aD s op=some R)(hst:u6 G op=true)(X:aU R H H')(e:K5 P G s H op=some (y,H1,side)):K5 P G s H' op=some (y,H',side):=by
 have val:∀{r:T×Option Prop},M3 P s H op=some r->M3 P s H' op=some r->K5 P G s H' op=some (y,H',side):=by
  intro r v o;unfold K5 at e ⊢;rw[v] at e;rw[o];simp only[X4,U1] at e ⊢;exact⟨e.1,trivial,e.2.2⟩
 unfold aD at hr;split at hr
 ·rename_i t a;split at hr
  ·rename_i k i j ha;simp only[X4] at hr;subst hr;have hv:∀r,M3 P s H (.load t a)=some r->M3 P s H' (.load t a)=some r:=by
    intro r h;simp only[M3,ha,yL,getA] at h ⊢;cases B:Z0 H k with
    |none=>rw[B] at h;simp at h
    |some ob=>
     rw[X k X3 ob B]
     rw[B] at h;exact h
   cases hv0:M3 P s H (.load t a) with
   |none=>
    unfold K5 at e;rw[hv0] at e;simp[A8] at e
   |some r=>exact val hv0 (hv r hv0)
  ·rename_i cs ha;cases hv0:M3 P s H (.load t a) with
   |none=>
    unfold K5 at e;rw[hv0] at e;simp[A8] at e
   |some r=>
    refine val hv0 ?_
    simp only[M3,ha,yL] at hv0 ⊢;exact hv0
  ·cases hr
 ·rename_i t x ix;have hv:∀r,M3 P s H (.indexAddr t x ix)=some r->M3 P s H' (.indexAddr t x ix)=some r:=by
   intro r h;simp only[M3] at h ⊢;unfold A0 at h ⊢;split at hr
   ·rename_i ha;rw[ha] at h ⊢;generalize L8 s ix=q at h ⊢;generalize P.underlying t=u at h ⊢;cases q<;>first|exact h|skip
    cases u with
    |none=>exact h
    |some d=>cases d<;>exact h
   ·rename_i ha;rw[ha] at h ⊢;generalize L8 s ix=q at h ⊢;generalize P.underlying t=u at h ⊢;cases q<;>first|exact h|skip
    cases u with
    |none=>exact h
    |some d=>cases d<;>exact h
   ·rename_i k off n ha;simp only[X4] at hr;subst hr;rw[ha] at h ⊢;generalize L8 s ix=q at h ⊢;generalize P.underlying t=u at h ⊢;cases q<;>first|exact h|skip
    cases u with
    |none=>exact h
    |some d=>
     cases d<;>first|exact h|skip
     simp only[getA] at h ⊢;cases B:Z0 H k with
     |none=>rw[B] at h;simp at h
     |some ob=>
      rw[X k X3 ob B]
      rw[B] at h;exact h
   ·cases hr
  cases hv0:M3 P s H (.indexAddr t x ix) with
  |none=>
   unfold K5 at e;rw[hv0] at e;simp[A8] at e
  |some r=>exact val hv0 (hv r hv0)
 ·rename_i src dst x;have same:M3 P s H' (.convert src dst x)=M3 P s H (.convert src dst x):=by
   simp only[M3];split at hr
   ·rename_i ha;unfold wO;rw[ha];cases P.underlying src with
    |none=>rfl
    |some d=>cases P.underlying dst with
     |none=>cases d<;>rfl
     |some g=>cases d<;>cases g<;>rfl
   ·rename_i ha;unfold wO;rw[ha];cases P.underlying src with
    |none=>rfl
    |some d=>cases P.underlying dst with
     |none=>cases d<;>rfl
     |some g=>cases d<;>cases g<;>rfl
   ·rename_i ha;unfold wO;rw[ha];cases P.underlying src with
    |none=>rfl
    |some d=>cases P.underlying dst with
     |none=>cases d<;>rfl
     |some g=>cases d<;>cases g<;>rfl
   ·cases hr
  cases hv0:M3 P s H (.convert src dst x) with
  |none=>
   unfold K5 at e ⊢;rw[same,hv0];rw[hv0] at e;simp only at e ⊢;have M:∀r,A8 P s H (.convert src dst x)=some r->A8 P s H' (.convert src dst x)=some (r.1,H',r.2.2):=by
    intro r hm;unfold A8 at hm ⊢;simp only at hm ⊢;generalize P.underlying src=a at hm ⊢;generalize P.underlying dst=b at hm ⊢;generalize L8 s x=c at hm ⊢;split at hm
    ·split at hm
     ·rename_i z;simp only[z,X4] at hm ⊢;subst hm;rfl
     ·cases hm
    ·cases hm
   cases hm:A8 P s H (.convert src dst x) with
   |none=>
    rw[hm] at e;simp at e
   |some r=>
    rw[hm] at e;simp only[X4] at e;subst e;rw[M _ hm]
  |some r=>exact val hv0 (same.trans hv0)
 ·rename_i t x l hi;have hv:∀r,M3 P s H (.slice t x l hi none)=some r->M3 P s H' (.slice t x l hi none)=some r:=by
   intro r h;simp only[M3] at h ⊢;unfold vC at h ⊢;generalize wW (l.map (L8 s))=q1 at h ⊢;generalize wW (hi.map (L8 s))=q2 at h ⊢;generalize P.underlying t=u at h ⊢;split at hr
   ·rename_i ha;rw[ha] at h ⊢;cases q1<;>cases q2<;>first|exact h|skip
    cases u with
    |none=>exact h
    |some d=>cases d<;>exact h
   ·rename_i ha;rw[ha] at h ⊢;cases q1<;>cases q2<;>first|exact h|skip
    cases u with
    |none=>exact h
    |some d=>cases d<;>exact h
   ·rename_i ha;rw[ha] at h ⊢;cases q1<;>cases q2<;>first|exact h|skip
    cases u with
    |none=>exact h
    |some d=>cases d<;>exact h
   ·rename_i k off n ha;simp only[X4] at hr;subst hr;rw[ha] at h ⊢;cases q1<;>cases q2<;>first|exact h|skip
    cases u with
    |none=>exact h
    |some d=>
     cases d<;>first|exact h|skip
     simp only[getA] at h ⊢;cases B:Z0 H k with
     |none=>rw[B] at h;simp at h
     |some ob=>
      rw[X k X3 ob B]
      rw[B] at h;exact h
   ·cases hr
  cases hv0:M3 P s H (.slice t x l hi none) with
  |none=>
   unfold K5 at e;rw[hv0] at e;simp[A8] at e
  |some r=>exact val hv0 (hv r hv0)
 ·simp[u6] at hst
 ·rename_i args argTypes;have same:M3 P s H' (.call {callee:=.builtin .len,args,argTypes})=M3 P s H (.call {callee:=.builtin .len,args,argTypes}):=rfl;cases hv0:M3 P s H (.call {callee:=.builtin .len,args,argTypes}) with
  |none=>
   unfold K5 at e;rw[hv0] at e;simp[A8] at e
  |some r=>exact val hv0 (same.trans hv0)
 ·simp[u6] at hst
 ·rename_i x args argTypes;split at hr
  ·rename_i f cs hf;split at hr
   ·rename_i hcl;have he2:isEff G x=false:=by simpa[u6] using hst
    unfold K5 at e ⊢;simp only[M3,A8,he2,hf] at e ⊢;unfold zX at e ⊢;rw[hcl] at e ⊢;simp only[G8,U1] at e ⊢;obtain⟨r,v,o,C,A⟩:=e;exact⟨r,v,o,trivial,A⟩
   ·cases hr
  ·cases hr
 ·cases hr
theorem C2{H:Y5}{j k:Nat}{x:Option Ob}(h:j≠k):Z0 (H.set j x) k=Z0 H k:=by
 unfold Z0;rw[j_l h]
theorem wZ:∀{ks:List Nat} {os:List (Option Ob)} {H:Y5} {k:Nat},k ∉ ks->Z0 (N3 H ks os) k=Z0 H k
 | [],os,H,k,_=>by cases os<;>rfl
 |j::ks,[],H,k,_=>rfl
 |j::ks,o::os,H,k,h=>by
  simp only[xX,not_or] at h;show Z0 (N3 (H.set j o) ks os) k=_;rw[wZ h.2,C2 (Ne.symm h.1)]
theorem nT:∀{ks:List Nat} {H:Y5} {k:Nat},k ∉ ks->Z0 (E7 H ks) k=Z0 H k
 | [],H,k,_=>rfl
 |j::ks,H,k,h=>by
  simp only[xX,not_or] at h;show Z0 (E7 (H.set j none) ks) k=_;rw[nT h.2,C2 (Ne.symm h.1)]
theorem c6L(A B:Y5)(k:Nat){ob:Ob}(h:Z0 A k=some ob):Z0 (A++B) k=some ob:=by
 have t:=H9 h;unfold Z0 at h ⊢
 rwa [tT t]
theorem a21{op:Op}{y:T}{side:Option Prop}{W:List Nat}(hw:uU H s op=some W)(he:K5 P G s H op=some (y,H',side)):∀k,k ∉ W->∀ob,Z0 H k=some ob->Z0 H' k=some ob:=by
 intro k hk ob B;have app:∀(A:Y5) (x:Option Ob),Z0 A k=some ob->Z0 (A++[x]) k=some ob:=λA x h=>F8 A x k ob h
 unfold uU at hw;split at hw
 ·rename_i args argTypes;unfold K5 at he;simp only[M3] at he;split at he
  ·rename_i r hm;simp only[X4] at he;subst he;simp only[A8] at hm;split at hm
   ·rename_i d x t tx h1 h2;rw[h1] at hw;simp only at hw;unfold oO at hm;split at hm
    ·split at hm
     ·rename_i i z hi hz;split at hm
      ·rename_i hd;split at hm
       ·simp only[G8,U1] at hm;obtain⟨q,_,_,rfl,_⟩:=hm;exact app _ _ B
       ·split at hm
        ·split at hm
         ·simp only[X4,U1] at hm;obtain⟨_,rfl,_⟩:=hm;exact app _ _ B
         ·cases hm
        ·simp only[G8,U1] at hm;obtain⟨q,_,_,rfl,_⟩:=hm;exact app _ _ B
      ·split at hm
       ·cases hm
       ·simp only[G8,U1] at hm;obtain⟨q,_,_,rfl,_⟩:=hm;exact app _ _ B
      ·rename_i k0 n hb1 hb2 hd;rw[hd] at hw;simp only at hw;split at hw
       ·cases hw
       rename_i F;simp only[X4] at hw;subst hw;have hne:k0≠k:=λh=>hk eZ
       have e:∀x,Z0 (H.set k0 x) k=some ob:=λx=>by rw[C2 hne];exact B
       split at hm
       ·split at hm
        ·simp only[G8,U1] at hm;obtain⟨q,_,_,rfl,_⟩:=hm;exact app _ _ (e _)
        ·cases hm
       ·split at hm
        ·simp only[G8,U1] at hm;obtain⟨q,_,_,rfl,_⟩:=hm;exact app _ _ (e _)
        ·cases hm
       ·rename_i hf;exact absurd hf (F _ _ _ _ _)
       ·cases hm
      ·cases hm
     ·cases hm
    ·cases hm
   ·cases hm
  ·cases he
 ·rename_i t a x;unfold K5 at he;simp only[M3] at he;split at he
  ·rename_i r hm;simp only[X4] at he;subst he;simp only[A8,G8] at hm;obtain⟨q,hq,hq2⟩:=hm;simp only[U1] at hq2;obtain⟨_,rfl,_⟩:=hq2;split at hw
   ·rename_i k0 i j ha;have hne:k0≠k:=λh=>by
     subst h;split at hw
     ·split at hw
      ·simp only[X4] at hw;subst hw;simp at hk
      ·cases hw
     ·simp only[X4] at hw;subst hw;simp at hk
    rw[ha] at hq;simp only[sJ] at hq;split at hq
    ·split at hq
     ·simp only[X4] at hq;subst hq;simp only;rw[C2 hne];exact B
     ·cases hq
    ·split at hq
     ·simp only[X4] at hq;subst hq;simp only;rw[C2 hne];exact B
     ·cases hq
    ·rename_i hf _ _ _;rw[hf] at hw;simp only at hw;split at hq
     ·split at hq
      ·simp only[X4] at hq;subst hq;simp only;rw[C2 hne];exact B
      ·rename_i l;rw[l] at hw;cases hw
     ·cases hq
    ·cases hq
   ·rename_i k0 v i j z a1 b1 ha;simp only[X4] at hw;subst hw;have hne:k0≠k:=λh=>hk eZ
    rw[ha] at hq;simp only[sJ] at hq;split at hq
    ·split at hq
     ·simp only[X4] at hq;subst hq;simp only;rw[C2 hne];exact B
     ·cases hq
    ·cases hq
   ·cases hw
  ·cases he
 ·rename_i x args argTypes;have u:M3 P s H (.call {callee:=.value x,args:=args,argTypes:=argTypes})=none:=rfl;have o:A8 P s H (.call {callee:=.value x,args:=args,argTypes:=argTypes})=none:=rfl;unfold K5 at he;simp only[u,o] at he;have key:∀f cs,cX s x=some (f,cs)->xR G H f (args.toList.map (L8 s)++cs)=some (y,H',side)->Z0 H' k=some ob:=λf cs hf hv=>by
   rw[hf] at hw;simp only at hw;generalize args.toList.map (L8 s)++cs=as at hw hv;split at hw
   ·cases hw
   rename_i g;simp only[X4] at hw;subst hw;unfold xR at hv;split at hv
   ·split at hv
    ·exact absurd rfl (g _ _ _ _ _ _)
    ·unfold j5 at hv;split at hv
     ·split at hv
      ·split at hv
       ·simp only[X4,U1] at hv;obtain⟨_,rfl,_⟩:=hv;exact c6L _ _ _ (by rw[wZ hk];exact B)
       ·cases hv
      ·cases hv
     ·cases hv
   ·split at hv
    ·exact a3T hv k ob B
    ·split at hv
     ·unfold c0Q at hv;split at hv
      ·split at hv
       ·simp only[X4,U1] at hv;obtain⟨_,rfl,_⟩:=hv;rw[nT hk];exact B
       ·cases hv
      ·cases hv
     ·cases hv
  have pure:∀as f,(zX G H f as).map (λr=>(r.1,H,r.2))=some (y,H',side)->Z0 H' k=some ob:=λas f hv=>by
   rw[G8] at hv;obtain⟨q,_,hq⟩:=hv;simp only[U1] at hq;obtain⟨_,rfl,_⟩:=hq;exact B
  split at he
  ·split at he
   ·rename_i f _;exact key f [] rfl (by rw[List.append_nil];exact he)
   ·split at he
    ·rename_i f cs hf;split at he
     ·exact key f cs hf he
     ·exact pure _ _ he
    ·cases he
  ·split at he
   ·exact pure _ _ he
   ·cases he
 ·cases hw
theorem yD{op:Op}{y:T}{H1:Y5}{side:Option Prop}(d:tU G op=true)(h:A3 P G s H op=some (y,H1,side)):H1=H/\A3 P G s H' op=some (y,H',side):=by
 unfold A3 at h ⊢;rw[d] at h ⊢;simp only at h ⊢;split at h
 ·rename_i t p hv;simp only[X4,U1] at h;obtain⟨rfl,rfl,rfl⟩:=h;exact⟨rfl,rfl⟩
 ·cases h
theorem wR{op:Op}(h:tU G op=false):A3 P G s H op=K5 P G s H op:=by unfold A3;rw[h]
theorem a9L{op:Op}(h:tU G op=false):stays G op=u6 G op:=by unfold stays;rw[h]
theorem b5F(h:F3 H H'){op:Op}{y:T}{H1:Y5}{side:Option Prop}(t:stays G op=true)(e:A3 P G s H op=some (y,H1,side)):A3 P G s H' op=some (y,H',side):=by
 cases d:tU G op with
 |true=>exact(yD d e).2
 |false=>rw[wR d] at e ⊢;rw[a9L d] at t;exact b2u h t e
theorem b2A{op:Op}{y:T}{H1:Y5}{side:Option Prop}(hp:pureB op=true)(h:A3 P G s H op=some (y,H1,side)):A3 P G s H' op=some (y,H',side):=by
 cases t:tU G op with
 |true=>exact(yD t h).2
 |false=>rw[wR t] at h ⊢;exact a7s hp h
theorem a4A{op:Op}{y:T}{side:Option Prop}(g:yU G op=true)(h:A3 P G s H op=some (y,H',side)):F3 H H':=by
 cases t:tU G op with
 |true=>rw[(yD (H':=H) t h).1];exact λk ob d=>d
 |false=>rw[wR t] at h;exact b0Z g h
theorem b2W{c:List T->Option (T×Y5×Option Prop)}{args:List T}{y:T}{side:Option Prop}(he:a2d c H args=some (y,H',side)):
  ∃os,H'=H++os/\∀H2:Y5,H2.length=H.length->F3 H H2->a2d c H2 args=some (y,H2++os,side):=by
 unfold a2d at he;split at he
 ·rename_i bs hbs;split at he
  ·rename_i r H0 p hc;split at he
   ·rename_i r' os hr hos;simp only[X4,U1] at he;obtain⟨rfl,rfl,rfl⟩:=he;refine⟨os,rfl,λH2 hl hx=>?_⟩
    unfold a2d;rw[r6 (λa b h=>gX hx 6 h) hbs]
    simp only[hc,hl,hr,hos]
   ·cases he
  ·cases he
 ·cases he
theorem b3K{op:Op}{y:T}{side:Option Prop}(hf:b51 op=true)(he:A3 P G s H op=some (y,H',side)):
  ∃os,H'=H++os/\∀H2:Y5,H2.length=H.length->F3 H H2->A3 P G s H2 op=some (y,H2++os,side):=by
 unfold b51 at hf;split at hf
 case h_2=>cases hf
 rename_i t len parts;cases ht:tU G (.buildSlice t len parts) with
 |true=>
  unfold A3 at he ⊢;rw[ht] at he ⊢;simp only[] at he ⊢;cases hz:a2G P s (.buildSlice t len parts) with
  |none=>rw[hz] at he;cases he
  |some z=>
   rw[hz] at he;simp only[X4,U1] at he;obtain⟨h2,h3,h4⟩:=he;exact⟨[],by rw[List.append_nil];exact h3.symm,λH2 _ _=>by simp only[X4,U1,List.append_nil];exact⟨h2,trivial,h4⟩⟩
 |false=>
  rw[wR ht] at he;have e1:∀H,M3 P s H (.buildSlice t len parts)=none:=λH=>rfl
  have key:∀H2,K5 P G s H2 (.buildSlice t len parts)=I3 P s H2 t len parts:=λH2=>by
   unfold K5;simp only[e1];show(match I3 P s H2 t len parts with|some r=>some r|none=>_)=_
   cases I3 P s H2 t len parts<;>rfl
  rw[key] at he
  suffices hh:∃os,H'=H++os/\∀H2:Y5,H2.length=H.length->I3 P s H2 t len parts=some (y,H2++os,side) by
   obtain⟨os,h1,h2⟩:=hh;exact⟨os,h1,λH2 hl _=>by rw[wR ht,key];exact h2 H2 hl⟩
  unfold I3 at he ⊢;split at he
  case h_2=>cases he
  split at he
  case h_2=>cases he
  split at he
  case h_2=>cases he
  split at he
  case h_2=>cases he
  split at he
  ·simp only[G8,U1] at he;obtain⟨ns,h1,rfl,rfl,rfl⟩:=he;refine⟨_,rfl,λH2 hl=>?_⟩
   simp only[*,o7]
  ·split at he
   case h_2=>cases he
   simp only[X4,U1] at he;obtain⟨rfl,rfl,rfl⟩:=he;refine⟨_,rfl,λH2 hl=>?_⟩
   simp only[*]
theorem c0x{op:Op}{y:T}{side:Option Prop}(hf:floatB G op=true)(he:A3 P G s H op=some (y,H',side)):
  ∃os,H'=H++os/\∀H2:Y5,H2.length=H.length->F3 H H2->A3 P G s H2 op=some (y,H2++os,side):=by
 unfold floatB at hf;rw[qR] at hf;rcases hf with hf|hf
 ·exact b3K hf he
 simp only[M1] at hf;obtain⟨hv,hg⟩:=hf;unfold a9D at hv;split at hv
 case h_2=>cases hv
 rename_i x args at_;have ht:tU G (.call {callee:=.value x,args:=args,argTypes:=at_})=false:=rfl;rw[wR ht] at he
 suffices hh:∃os,H'=H++os/\∀H2:Y5,H2.length=H.length->F3 H H2->K5 P G s H2 (.call {callee:=.value x,args:=args,argTypes:=at_})=some (y,H2++os,side) by
  obtain⟨os,h1,h2⟩:=hh;exact⟨os,h1,λH2 hl hx=>by rw[wR ht];exact h2 H2 hl hx⟩
 have e1:∀H,M3 P s H (.call {callee:=.value x,args:=args,argTypes:=at_})=none:=λH=>rfl
 have e2:∀H,A8 P s H (.call {callee:=.value x,args:=args,argTypes:=at_})=none:=λH=>rfl
 unfold K5 at he ⊢;simp only[e1,e2] at he ⊢;simp only[yU] at hg;unfold isMk at hg;split at hg
 ·rename_i f;split at hg
  ·rename_i cn hcn;have h1:isEff G (.func f)=true:=by
    simp only[isEff,hcn];cases cn<;>first|rfl|(cases hg)
   have h2:rN G f=none:=by
    cases cn<;>first|(cases hg;done)|skip
    ·exact a8r hcn
    ·exact(bO hcn rfl).1
   simp only[h1] at he ⊢;unfold xR at he ⊢;rw[h2] at he;simp only[h2] at he ⊢;split at he
   ·rename_i c hc;obtain⟨os,e3,e4⟩:=b2W he;exact⟨os,e3,λH2 hl hx=>e4 H2 hl hx⟩
   ·rw[a2m hcn (by cases cn<;>first|rfl|(cases hg))] at he
    cases he
  ·cases hg
 ·cases hg
theorem a3u{α β:Type}{f:α->Option β}:∀{l:List α} {q:List β},O3 f l=some q->∀a ∈ l,∃b,f a=some b
 | [],_,_,a,ha=>by cases ha
 |x::l,q,h,a,ha=>by
  simp only[O3] at h;split at h
  ·rename_i hb hr;rcases xX.1 ha with rfl|ha
   ·exact⟨_,hb⟩
   ·exact a3u hr a ha
  ·cases h
theorem pZ{k:Nat}:∀(d:Nat) (r F5:List Nat),k ∈ F5->k ∈ m8 H d r F5
 |0,_,_,h=>h
 |_+1,[],_,h=>h
 |d+1,x::r,F5,h=>by
  unfold m8;split
  ·exact pZ d r F5 h
  ·exact pZ d _ _ (List.mem_append_left _ h)
theorem mC(X:F3 H H'):∀(d:Nat) (r F5:List Nat),(∀k ∈ m8 H d r F5,∃ob,Z0 H k=some ob)->m8 H' d r F5=m8 H d r F5
 |0,_,_,_=>rfl
 |_+1,[],_,_=>rfl
 |d+1,x::r,F5,h=>by
  unfold m8 at h ⊢;cases M:memN x F5 with
  |true=>
   rw[M] at h;exact mC X d r F5 h
  |false=>
   rw[M] at h;simp only at h ⊢;obtain⟨ob,B⟩:=h x (pZ d _ _ (List.mem_append_right _ (List.mem_singleton.2 rfl)));rw[X x ob B,B];rw[B] at h;exact mC X d _ _ h
theorem c4H{c:List T->Y5->Option (T×Y5×Option Prop)}{args:List T}{y:T}{side:Option Prop}{r:List Nat}(he:j5 c H (m8 H 64 r []) args=some (y,H',side)):
  ∃ks os os2,H'=N3 H ks os++os2/\(∀k ∈ ks,∃ob,Z0 H k=some ob)/\∀H2:Y5,H2.length=H.length->F3 H H2->j5 c H2 (m8 H2 64 r []) args=some (y,N3 H2 ks os++os2,side):=by
 unfold j5 at he;split at he
 ·rename_i as obs hnd has hobs;split at he
  ·rename_i r0 H0 p hc;split at he
   ·rename_i j os f R e;simp only[X4,U1] at he;obtain⟨rfl,rfl,rfl⟩:=he;have d:∀k ∈ m8 H 64 r [],∃ob,Z0 H k=some ob:=λk d=>by
     obtain⟨b,h⟩:=a3u hobs k d;cases o:Z0 H k with
     |none=>rw[o] at h;cases h
     |some ob=>exact⟨ob,rfl⟩
    refine⟨_,_,_,rfl,d,λH2 l x=>?_⟩
    rw[mC x 64 r [] d];unfold j5;have i:=r6 (g:=λk=>(Z0 H2 k).bind (mX λk=>m9 k (m8 H 64 r []) 0)) (λa b h=>by
     cases o:Z0 H a with
     |none=>rw[o] at h;cases h
     |some ob=>rw[x a ob o];rw[o] at h;exact h) hobs
    simp only[hnd,has,i,hc,l,f,R,e]
   ·cases he
  ·cases he
 ·cases he
theorem b7G{G:I7}{f:FuncId}{c:Con}(h:w5 G f=some c)(C:c.isEf=true):(∃d,rN G f=some d)∨(rN G f=none/\gmk G f=none/\gfz G f=none):=by
 induction G with
 |nil=>cases h
 |cons x G i=>
  obtain⟨g,d⟩:=x;simp only[w5] at h;simp only[rN,gmk,gfz];split at h
  ·simp only[X4] at h;subst h;cases d<;>first|exact .inl ⟨_,rfl⟩|exact .inr ⟨rfl,rfl,rfl⟩|(cases C)
  ·exact i h
theorem a29{c:List T->Y5->Option (T×Y5×Option Prop)}{f:FuncId}(C:rN G f=some c){l:List T}(h:∀k v i j n r,l≠ .posl k v i j n::r):xR G H f l=j5 c H (m8 H 64 (kQ l) []) l:=by
 unfold xR;rw[C];cases l with
 |nil=>rfl
 |cons t r=>cases t<;>first|rfl|exact absurd rfl (h _ _ _ _ _ _)
theorem b65{op:Op}{y:T}{side:Option Prop}{W:List Nat}(hf:b1d G op=true)(hw:uU H s op=some W)(he:A3 P G s H op=some (y,H',side)):
  ∃ks os os2,H'=N3 H ks os++os2/\(∀k ∈ ks,∃ob,Z0 H k=some ob)/\∀H2:Y5,H2.length=H.length->F3 H H2->A3 P G s H2 op=some (y,N3 H2 ks os++os2,side):=by
 unfold b1d at hf;split at hf
 case h_2=>cases hf
 rename_i x args at_;have ht:tU G (.call {callee:=.value x,args:=args,argTypes:=at_})=false:=rfl;unfold isEf at hf;split at hf
 case h_2=>cases hf
 rename_i f;have e1:∀H,M3 P s H (.call {callee:=.value (.func f),args:=args,argTypes:=at_})=none:=λH=>rfl
 have e2:∀H,A8 P s H (.call {callee:=.value (.func f),args:=args,argTypes:=at_})=none:=λH=>rfl
 cases hcn:w5 G f with
 |none=>rw[hcn] at hf;cases hf
 |some cn=>
  rw[hcn] at hf;have hie:isEff G (.func f)=true:=by
   simp only[isEff,hcn];cases cn<;>first|rfl|(cases hf)
  have key:∀H,A3 P G s H (.call {callee:=.value (.func f),args:=args,argTypes:=at_})=xR G H f (args.toList.map (L8 s)):=λH=>by
   rw[wR ht];unfold K5;simp only[e1,e2,hie]
  rw[key] at he;have hnp:∀k v i j n r,args.toList.map (L8 s)≠ .posl k v i j n::r:=λk v i j n r hp=>by
   unfold uU at hw;simp only[cX,List.append_nil] at hw;rw[hp] at hw;cases hw
  rcases b7G hcn (by simpa using hf) with⟨c,hc⟩|⟨h1,h2,h3⟩
  ·rw[a29 hc hnp] at he;obtain⟨ks,os,os2,a1,a2,a3⟩:=c4H he;exact⟨ks,os,os2,a1,a2,λH2 hl hx=>by rw[key,a29 hc hnp];exact a3 H2 hl hx⟩
  ·unfold xR at he;rw[h1,h2,h3] at he;cases he
theorem nV{op:Op}{r:Nat}{y:T}{side:Option Prop}(he:a5q P s H op r=some (y,H',side)):Z0 H r=none/\r<H.length/\∃ob,H'=H.set r (some ob):=by
 unfold a5q at he;split at he
 ·split at he
  ·split at he
   ·rename_i h d;simp only[X4,U1] at he;exact⟨h,zT d,_,he.2.1.symm⟩
   ·cases he
  ·cases he
 ·split at he
  ·split at he
   ·split at he
    ·split at he
     ·split at he
      ·rename_i h d;simp only[X4,U1] at he;exact⟨h,zT d,_,he.2.1.symm⟩
      ·cases he
     ·cases he
    ·cases he
   ·cases he
  ·cases he
 ·cases he
theorem a4i{op:Op}{r:Nat}{y:T}{side:Option Prop}(d:a5q P s H op r=some (y,H',side)):F3 H H':=by
 obtain⟨g,f,_,rfl⟩:=nV d;intro k ob h;rw[T9 f];split
 ·rename_i e;rw[e,g] at h;cases h
 ·exact h
theorem b5X{op:Op}{y:T}{H1:Y5}{side:Option Prop}{R:List Nat}(r:aD s op=some R)(h:stays G op=true)(x:aU R H H')(e:A3 P G s H op=some (y,H1,side)):A3 P G s H' op=some (y,H',side):=by
 cases t:tU G op with
 |true=>exact(yD t e).2
 |false=>rw[wR t] at e ⊢;rw[a9L t] at h;exact b1A r h x e
theorem a7n{op:Op}{y:T}{side:Option Prop}{W:List Nat}(d:uU H s op=some W)(h:A3 P G s H op=some (y,H',side)):∀k,k ∉ W->∀ob,Z0 H k=some ob->Z0 H' k=some ob:=by
 cases t:tU G op with
 |true=>rw[(yD (H':=H) t h).1];exact λk _ ob e=>e
 |false=>rw[wR t] at h;exact a21 d h
end
structure St where
 s:W7
 ps:A2
 hist:List (Nat×Y5)
structure StepOk(P:Program)(G:I7)(nt:Nat)(all:Array Oper)(b:Nat)(H0:Y5)(i:Nat)(o:Oper)(st st':St)(y:T)(p:E4)(m:Nat):Prop where
 fresh:iP st.ps o.dst=true
 dst:lR nt o.dst=true
 s:st'.s=yB st.s o.dst y
 paths:H6 st.ps p o.op=true
 plain:o.guard=none->p=[]/\st'.ps=st.ps
 guarded:∀j want,o.guard=some (j,want)->∃g x,(all[j]?).bind (·.dst)=some g/\b9 st.s g= .bool x/\j<i/\p=(g,want)::S6 st.ps g/\st'.ps=dK st.ps o.dst p/\stays G o.op=true/\oF st.ps g o.dst=true
 reader:stays G o.op=true->st'.hist=st.hist/\∃G' H' side,Good P G G'/\A3 P G' st.s (hAt (D6 G) all H0 m st.hist) o.op=some (y,H',side)/\(I6 st.s p->side.getD True)
 writer:stays G o.op=false->r7 (D6 G) o=false->∃G' H' side,Good P G G'/\A3 P G' st.s (A4 H0 st.hist) o.op=some (y,H',side)/\st'.hist=(i,H')::st.hist/\side.getD True
 al:r7 (D6 G) o=true->∃H' side,a5q P st.s (A4 H0 st.hist) o.op (mI (D6 G) b all i)=some (y,H',side)/\st'.hist=(i,H')::st.hist/\side.getD True
section
variable {P:Program} {G:I7} {nt:Nat} {all:Array Oper} {b:Nat} {H0:Y5} {K:W7->Y5->Prop}
theorem a82{tab:List Nat}{j:Nat}:∀{es:List Edge},Nat.testBit (maskOf tab es) j=true->∃e ∈ es,Region.binds .any e=true/\(e.on=j∨Nat.testBit (tab.getD e.on 0) j=true):=by
 intro es;induction es with
 |nil=>intro h;simp[maskOf] at h
 |cons e es i=>
  intro h;simp only[maskOf] at h;split at h
  ·rename_i hb;have h':Nat.testBit ((1<<<e.on|||tab.getD e.on 0)|||maskOf tab es) j=true:=h;rw[Nat.testBit_or,Nat.testBit_or,qR,qR] at h';rcases h' with(h1|h1)|h1
   ·refine⟨e,X3,hb,.inl ?_⟩
    rw[Nat.one_shiftLeft,Nat.testBit_two_pow] at h1
    simpa using h1
   ·exact⟨e,X3,hb,.inr h1⟩
   ·obtain⟨g,d,f⟩:=i h1;exact⟨g,by simp[d],f⟩
  ·obtain⟨g,d,f⟩:=i h;exact⟨g,by simp[d],f⟩
theorem nM{o:Oper}(h:r7 (D6 G) o=true):stays G o.op=false/\o.guard=none:=by
 unfold r7 at h;split at h
 ·cases h
 rename_i g;refine⟨?_,g⟩
 split at h
 ·rename_i t O;rw[O];rfl
 ·rename_i args at_ O;rw[O];have d:Nat.ble 8 (nP G)=true:=by
   have e:nP G=8:=(H4 h).symm;rw[e];rfl
  have f:tU G (.call {callee:=.builtin .append,args:=args,argTypes:=at_})=false:=by
   show Q7 (nP G) args.toList=false;unfold Q7;rw[d]
  unfold stays;rw[f];rfl
 ·cases h
theorem c5v(hG:D1 P G)(hGc:∀x ∈ G,Q8 P x.1):∀(R:List Oper) (i:Nat) (r:List (Nat×Oper×RW)) (B:List Nat) (V:Nat->RW) (s:W7) (ps:A2) (hist:List (Nat×Y5)),R=all.toList.drop i->i<=all.size->B.length=i->
  (∀k o,k<i->all[k]? =some o->(k,o,V k) ∈ r)->uF P G nt all b H0 R i r B s ps hist K->
  ∃(S:Nat->St) (y:Nat->T) (p:Nat->E4) (m:Nat->Nat) (f:Nat->RW),S i=⟨s,ps,hist⟩/\(∀k,k<i->m k=B.getD k 0/\f k=V k)/\
   (∀k o,i<=k->all[k]? =some o->StepOk P G nt all b H0 k o (S k) (S (k+1)) (y k) (p k) (m k)/\a00 k o=true/\(f k=qL (A4 H0 (S k).hist) (S k).s o.op/\∀k' o',k'<k->all[k']? =some o'->r9 G all (m k) k' o' (f k') o (f k)=true)/\
    (∀j,Nat.testBit (m k) j=true->∃e ∈ o.after.toList,Region.binds .any e=true/\e.on<k/\(e.on=j∨Nat.testBit (m e.on) j=true)))/\
   K (cI (S all.size).s (S all.size).ps) (A4 H0 (S all.size).hist):=by
 intro R;induction R with
 |nil=>
  intro i r B V s ps hist d hi A I h;have aj:i=all.size:=by
   have:=congrArg List.length d;simp at this;omega
  subst aj;refine⟨λ_=>⟨s,ps,hist⟩,λ_=>.und,λ_=>[],λk=>B.getD k 0,V,rfl,λk _=>⟨rfl,rfl⟩,λk o F ho=>?_,h⟩
  have:=(dH.1 ho).1
  omega
 |cons o R ih=>
  intro i r B V s ps hist d hi A I h;have W:i<all.size:=by
   have:=congrArg List.length d;simp at this;omega
  have Z:all.toList.drop i=all[i]::all.toList.drop (i+1):=by
   rw[List.drop_eq_getElem_cons (by simpa using W)]
   simp
  rw[Z] at d;obtain⟨ho,U⟩:=List.cons.inj d;have hoi:all[i]? =some o:=by rw[vM W,ho]
  unfold uF at h;split at h
  ·exact h.elim
  rename_i ae;simp only[M1] at ae;obtain⟨z,Y⟩:=ae;have Q:∀k' o',k'<i->all[k']? =some o'->r9 G all (maskOf B o.after.toList) k' o' (V k') o (qL (A4 H0 hist) s o.op)=true:=λk' o' F ho'=>j8.1 Y _ (I k' o' F ho')
  have go:∀(v:St) (y:T) (p:E4),StepOk P G nt all b H0 i o ⟨s,ps,hist⟩ v y p (maskOf B o.after.toList)->
    uF P G nt all b H0 R (i+1) ((i,o,qL (A4 H0 hist) s o.op)::r) (B++[maskOf B o.after.toList]) v.s v.ps v.hist K->∃(S:Nat->St) (y:Nat->T) (p:Nat->E4) (m:Nat->Nat) (f:Nat->RW),S i=⟨s,ps,hist⟩/\(∀k,k<i->m k=B.getD k 0/\f k=V k)/\
   (∀k o,i<=k->all[k]? =some o->StepOk P G nt all b H0 k o (S k) (S (k+1)) (y k) (p k) (m k)/\a00 k o=true/\(f k=qL (A4 H0 (S k).hist) (S k).s o.op/\∀k' o',k'<k->all[k']? =some o'->r9 G all (m k) k' o' (f k') o (f k)=true)/\
    (∀j,Nat.testBit (m k) j=true->∃e ∈ o.after.toList,Region.binds .any e=true/\e.on<k/\(e.on=j∨Nat.testBit (m e.on) j=true)))/\
   K (cI (S all.size).s (S all.size).ps) (A4 H0 (S all.size).hist):=by
   intro v y p aa ah;obtain⟨S,y',p',m,f,hS,X,hall,hK⟩:=ih (i+1) _ _ (λk=>if k=i then qL (A4 H0 hist) s o.op else V k) _ _ _ U W (by simp[A]) (λk o' F ho'=>by
    by_cases hki:k=i
    ·subst hki;rw[hoi] at ho';simp only[X4] at ho';subst ho';simp
    ·rw[if_neg hki];exact List.mem_cons_of_mem _ (I k o' Z9 ho')) ah
   have hm:∀k,k<i+1->m k=(B++[maskOf B o.after.toList]).getD k 0:=λk F=>(X k F).1
   have ad:f i=qL (A4 H0 hist) s o.op:=by rw[(X i Z9).2,if_pos rfl]
   have ac:∀k,k<i->f k=V k:=λk F=>by rw[(X k Z9).2,if_neg Z9]
   have ak:m i=maskOf B o.after.toList:=by
    rw[hm i Z9]
    simp[Q2,←A]
   have af:∀k,k<i->m k=B.getD k 0:=λk F=>by
    rw[hm k Z9]
    simp only[Q2]
    rw[tT Z9]
   refine⟨λk=>if k<=i then⟨s,ps,hist⟩ else S k,λk=>if k<=i then y else y' k,λk=>if k<=i then p else p' k,m,f,X3,λk F=>⟨af k F,ac k F⟩,λk o' F ho'=>?_,?_⟩
   ·by_cases hki:k=i
    ·subst hki;rw[hoi] at ho';simp only[X4] at ho';subst ho';have e1:(if k<=k then(⟨s,ps,hist⟩:St) else S k)=⟨s,ps,hist⟩:=if_pos (U9 _)
     have e2:(if k+1<=k then(⟨s,ps,hist⟩:St) else S (k+1))=v:=by rw[if_neg Z9,hS]
     have e3:(if k<=k then y else y' k)=y:=if_pos (U9 _)
     have e4:(if k<=k then p else p' k)=p:=if_pos (U9 _)
     simp only[e1,e2,e3,e4,ak];refine⟨aa,z,⟨ad,λk' o' ab ho'=>by rw[ad,ac k' ab];exact Q k' o' ab ho'⟩,λj hj=>?_⟩
     obtain⟨e,M,hb,am⟩:=a82 hj;have ag:e.on<k:=by
      have:=j8.1 z e M;simp only[hb,Bool.not_true,Bool.false_or] at this;exact zT this
     refine⟨e,M,hb,ag,?_⟩
     rcases am with h1|h1
     ·exact .inl h1
     ·exact .inr (by rw[af _ ag];exact h1)
    ·have h1:=hall k o' Z9 ho'
     have e1:(if k<=i then(⟨s,ps,hist⟩:St) else S k)=S k:=if_neg Z9
     have e2:(if k+1<=i then(⟨s,ps,hist⟩:St) else S (k+1))=S (k+1):=if_neg Z9
     have e3:(if k<=i then y else y' k)=y' k:=if_neg Z9
     have e4:(if k<=i then p else p' k)=p' k:=if_neg Z9
     simp only[e1,e2,e3,e4];exact h1
   ·have e1:(if all.size<=i then(⟨s,ps,hist⟩:St) else S all.size)=S all.size:=if_neg Z9
    simp only[e1];exact hK
  have L:∀(s:W7),I6 s []:=λs q hq=>xI
  split at h
  ·rename_i hg;split at h
   ·exact h.elim
   rename_i n;simp only[M1] at n;obtain⟨⟨O,C⟩,l⟩:=n;split at h
   ·rename_i hal;have hsty:=(nM hal).1;split at h
    ·rename_i y H' side M;obtain⟨hs,h⟩:=xL h;exact go ⟨yB s o.dst y,ps,(i,H')::hist⟩ y [] ⟨C,l,rfl,O,λ_=>⟨rfl,rfl⟩,λj want J=>b49,λN=>a80,λ_ N=>by(rw[hal] at N;cases N),λ_=>⟨H',side,M,rfl,hs (L _)⟩⟩ h
    ·exact h.elim
   ·rename_i hal;split at h
    ·rename_i hsty;obtain⟨G',hGG,h⟩:=rZ hG hGc h;split at h
     ·rename_i t H' side M;obtain⟨hs,d⟩:=xL h;exact go ⟨yB s o.dst t,ps,hist⟩ t [] ⟨C,l,rfl,O,λ_=>⟨rfl,rfl⟩,λj want J=>b49,λ_=>⟨rfl,G',H',side,hGG,M,λ_=>hs (L _)⟩,λN=>a80,λu=>by(rw[hal] at u;cases u)⟩ d
     ·exact h.elim
    ·rename_i hsty;obtain⟨G',hGG,h⟩:=rZ hG hGc h;split at h
     ·rename_i t H' side M;obtain⟨hs,d⟩:=xL h;exact go ⟨yB s o.dst t,ps,(i,H')::hist⟩ t [] ⟨C,l,rfl,O,λ_=>⟨rfl,rfl⟩,λj want J=>b49,λN=>a80,λ_ _=>⟨G',H',side,hGG,M,rfl,hs (L _)⟩,λu=>by(rw[hal] at u;cases u)⟩ d
     ·exact h.elim
  ·rename_i j want hg;split at h
   ·rename_i g hgd;split at h
    ·rename_i x hx;split at h
     ·exact h.elim
     rename_i n;simp only[M1] at n;obtain⟨⟨⟨⟨⟨ai,O⟩,C⟩,l⟩,hsty⟩,al⟩:=n;obtain⟨G',hGG,h⟩:=rZ hG hGc h;split at h
     ·rename_i t H' side M;obtain⟨hs,d⟩:=xL h;exact go ⟨yB s o.dst t,dK ps o.dst ((g,want)::S6 ps g),hist⟩ t ((g,want)::S6 ps g) ⟨C,l,rfl,O,λN=>by(rw[hg] at N;cases N),
       λj' an J=>by
        rw[hg] at J;simp only[X4,U1] at J;obtain⟨rfl,rfl⟩:=J;exact⟨g,x,hgd,hx,zT ai,rfl,rfl,hsty,al⟩,
       λ_=>⟨rfl,G',H',side,hGG,M,hs⟩,λN=>a80,λu=>by(rw[(nM u).2] at hg;cases hg)⟩ d
     ·exact h.elim
    ·exact h.elim
   ·exact h.elim
end
structure Trace(P:Program)(G:I7)(nt:Nat)(all:Array Oper)(b:Nat)(H0:Y5)(s0:W7)(S:Nat->St)(y:Nat->T)(p:Nat->E4)(m:Nat->Nat):Prop where
 start:S 0=⟨s0,[],[]⟩
 step:∀k o,all[k]? =some o->StepOk P G nt all b H0 k o (S k) (S (k+1)) (y k) (p k) (m k)
 edge:∀k o,all[k]? =some o->∀e ∈ o.after.toList,Region.binds .any e=true->e.on<k
 pair:∀k o k' o',all[k]? =some o->all[k']? =some o'->k'<k->r9 G all (m k) k' o' (qL (A4 H0 (S k').hist) (S k').s o'.op) o (qL (A4 H0 (S k).hist) (S k).s o.op)=true
 mask:∀k o j,all[k]? =some o->Nat.testBit (m k) j=true->∃e ∈ o.after.toList,Region.binds .any e=true/\e.on<k/\(e.on=j∨Nat.testBit (m e.on) j=true)
def lC(all:Array Oper)(y:Nat->T)(q:E4):Prop:=∀z ∈ q,∃i o x,all[i]? =some o/\o.dst=some z.1/\y i= .bool x/\x=z.2
section
variable {P:Program} {G:I7} {nt:Nat} {all:Array Oper} {b:Nat} {H0:Y5} {s0:W7} {S:Nat->St} {y:Nat->T} {p:Nat->E4} {m:Nat->Nat}
theorem Trace.distinct(t:Trace P G nt all b H0 s0 S y p m){i j d:Nat}{o o':Oper}(hi:all[i]? =some o)(J:all[j]? =some o')(hd:o.dst=some d)(e:o'.dst=some d):i=j:=by
 rcases Nat.lt_trichotomy i j with h|h|h
 ·have:=t.pair j o' i o J hi h;simp[r9,a18,hd,e] at this
 ·exact h
 ·have:=t.pair i o j o' hi J h;simp[r9,a18,hd,e] at this
theorem Trace.slot_none(t:Trace P G nt all b H0 s0 S y p m)(u:Nat):∀k,k<=all.size->(∀j o,j<k->all[j]? =some o->o.dst≠some u)->b9 (S k).s u=b9 s0 u/\S6 (S k).ps u=[]:=by
 intro k;induction k with
 |zero=>intro _ _;rw[t.start];exact⟨rfl,rfl⟩
 |succ k I=>
  intro q h;obtain⟨n,f⟩:=I Z9 (λj o J=>h j o Z9)
  have O:=vM (xs:=all) (i:=k) Z9
  have hst:=t.step k _ O;have e:=h k _ Z9 O
  constructor
  ·rw[hst.s];cases hd:all[k].dst with
   |none=>exact n
   |some d=>rw[vA,if_neg (by rintro rfl;exact e hd)];exact n
  ·cases hg:all[k].guard with
   |none=>rw[(hst.plain hg).2];exact f
   |some W=>
    obtain⟨g,x,_,_,_,_,l,_,_⟩:=hst.guarded W.1 W.2 hg;rw[l];cases hd:all[k].dst with
    |none=>exact f
    |some d=>
     simp only[dK,S6];split
     ·rename_i B;exact absurd (hd.trans (by rw[H4 B])) e
     ·exact f
theorem Trace.slot_some(t:Trace P G nt all b H0 s0 S y p m){u j:Nat}{o:Oper}(hj:all[j]? =some o)(hd:o.dst=some u):∀k,j<k->k<=all.size->b9 (S k).s u=y j/\S6 (S k).ps u=p j:=by
 intro k;induction k with
 |zero=>intro h;omega
 |succ k ih=>
  intro l q;have ho:=vM (xs:=all) (i:=k) Z9
  have hst:=t.step k _ ho;by_cases hjk':j=k
  ·subst hjk';have hst:=t.step j o hj;clear ho;constructor
   ·rw[hst.s,hd,vA,if_pos rfl]
   ·have hfr:=hst.fresh;rw[hd] at hfr;obtain⟨hf1,_⟩:=jC hfr;cases hg:o.guard with
    |none=>rw[(hst.plain hg).2,(hst.plain hg).1];exact hf1
    |some W=>
     obtain⟨g,x,_,_,_,_,e,_,_⟩:=hst.guarded W.1 W.2 hg;rw[e,hd];simp[dK,S6]
  ·obtain⟨h1,h2⟩:=ih Z9 Z9
   have f:all[k].dst≠some u:=λn=>hjk' (t.distinct hj ho hd n)
   constructor
   ·rw[hst.s];cases hd:all[k].dst with
    |none=>exact h1
    |some d=>rw[vA,if_neg (by rintro rfl;exact f hd)];exact h1
   ·cases hg:all[k].guard with
    |none=>rw[(hst.plain hg).2];exact h2
    |some W=>
     obtain⟨g,x,_,_,_,_,e,_,_⟩:=hst.guarded W.1 W.2 hg;rw[e];cases hd:all[k].dst with
     |none=>exact h2
     |some d=>
      simp only[dK,S6];split
      ·rename_i B;exact absurd (hd.trans (by rw[H4 B])) f
      ·exact h2
theorem gA(all:Array Oper)(u k:Nat):(∃j o,j<k/\all[j]? =some o/\o.dst=some u)∨(∀j o,j<k->all[j]? =some o->o.dst≠some u):=by
 by_cases h:∃j o,j<k/\all[j]? =some o/\o.dst=some u
 ·exact .inl h
 ·exact .inr λj o J O hd=>h ⟨j,o,J,O,hd⟩
theorem Trace.path_lt(t:Trace P G nt all b H0 s0 S y p m):∀j o,all[j]? =some o->∀q ∈ p j,∃i o',i<j/\all[i]? =some o'/\o'.dst=some q.1:=by
 intro j;induction j using Nat.strongRecOn with
 |_ j I=>
  intro o hj q Q;have l:=t.step j o hj;cases v:o.guard with
  |none=>rw[(l.plain v).1] at Q;cases Q
  |some W=>
   obtain⟨g,x,d,_,e,hp,_,_,_⟩:=l.guarded W.1 W.2 v;rw[hp] at Q;have h:∃O,all[W.1]? =some O/\O.dst=some g:=by
    cases u:all[W.1]? with
    |none=>rw[u] at d;cases d
    |some O=>rw[u] at d;exact⟨O,rfl,d⟩
   obtain⟨O,h,f⟩:=h;rcases xX.1 Q with rfl|Q
   ·exact⟨W.1,O,e,h,f⟩
   ·have hjs:j<=all.size:=Nat.le_of_lt (dH.1 hj).1
    rw[(t.slot_some h f j e hjs).2] at Q;obtain⟨i,o',hi,n,r⟩:=I W.1 e O h q Q;exact⟨i,o',Z9,n,r⟩
theorem Trace.pathV(t:Trace P G nt all b H0 s0 S y p m){k:Nat}(l:k<=all.size){q:E4}(Q:∀z ∈ q,∃i o',i<k/\all[i]? =some o'/\o'.dst=some z.1):I6 (S k).s q↔lC all y q:=by
 constructor
 ·intro h z Z;obtain⟨i,o',hi,d,e⟩:=Q z Z;obtain⟨x,X,g⟩:=h z Z;rw[(t.slot_some d e k hi l).1] at X;exact⟨i,o',x,d,e,X,g⟩
 ·intro h z Z;obtain⟨i,o',hi,d,e⟩:=Q z Z;obtain⟨I,o,x,j,f,X,g⟩:=h z Z;obtain rfl:=t.distinct d j e f;exact⟨x,by rw[(t.slot_some d e k hi l).1];exact X,g⟩
def Cl(all:Array Oper)(D:Nat->Prop):Prop:=∀j o,D j->all[j]? =some o->∀e ∈ o.after.toList,Region.binds .any e=true->D e.on
theorem Trace.mask_done(t:Trace P G nt all b H0 s0 S y p m){D:Nat->Prop}(l:Cl all D):∀k o,all[k]? =some o->(∀e ∈ o.after.toList,Region.binds .any e=true->D e.on)->∀j,Nat.testBit (m k) j=true->D j:=by
 intro k;induction k using Nat.strongRecOn with
 |_ k i=>
  intro o hk f j J;obtain⟨e,g,B,hlt,h⟩:=t.mask k o j hk J;have d:=f e g B;rcases h with rfl|h
  ·exact d
  ·have hlt':e.on<all.size:=Nat.lt_trans hlt (dH.1 hk).1
   have O:=vM hlt'
   exact i e.on hlt _ O (l e.on _ d O) j h
def HH(H0:Y5)(S:Nat->St)(k:Nat):Y5:=A4 H0 (S k).hist
def fL(G:I7)(all:Array Oper)(k:Nat):Prop:=∃o,all[k]? =some o/\stays G o.op=false
theorem Trace.hist_same(t:Trace P G nt all b H0 s0 S y p m){a:Nat}:∀b,a<=b->b<=all.size->(∀x,a<=x->x<b->¬fL G all x)->(S b).hist=(S a).hist:=by
 intro b;induction b with
 |zero=>intro h _ _;rw[Nat.le_zero.1 h]
 |succ b I=>
  intro h B o;by_cases e:a=b+1
  ·rw[e]
  ·have ho:=vM (xs:=all) (i:=b) Z9
   have d:=t.step b _ ho;have Y:stays G all[b].op=true:=by
    cases g:stays G all[b].op with
    |true=>rfl
    |false=>exact absurd ⟨_,ho,g⟩ (o b Z9 Z9)
   rw[(d.reader Y).1];exact I Z9 Z9 (λx f j=>o x f Z9)
theorem Trace.hist_ext(t:Trace P G nt all b H0 s0 S y p m){a:Nat}:∀b,a<=b->b<=all.size->(∀x o,a<=x->x<b->all[x]? =some o->stays G o.op=false->yU G o.op=true∨r7 (D6 G) o=true)->F3 (HH H0 S a) (HH H0 S b):=by
 intro b;induction b with
 |zero=>intro h _ _;rw[Nat.le_zero.1 h];exact F3.refl _
 |succ b I=>
  intro h B O;by_cases q:a=b+1
  ·rw[q];exact F3.refl _
  ·have ho:=vM (xs:=all) (i:=b) Z9
   have d:=t.step b _ ho;refine(I Z9 Z9 (λx o r u=>O x o r Z9)).trans ?_
   cases f:stays G all[b].op with
   |true=>
    have:=(d.reader f).1;simp only[HH,this];exact F3.refl _
   |false=>
    cases l:r7 (D6 G) all[b] with
    |true=>
     obtain⟨H',side,j,e,_⟩:=d.al l;simp only[HH,e,A4];exact a4i j
    |false=>
     obtain⟨G',H',side,g,v,e,_⟩:=d.writer f l;have n:=(O b _ Z9 Z9 ho f).resolve_right (by rw[l];simp)
     simp only[HH,e,A4];exact a4A ((g.grow _).trans n) v
theorem Trace.hist_extOn(t:Trace P G nt all b H0 s0 S y p m){R:List Nat}{a:Nat}:∀b,a<=b->b<=all.size->(∀x o,a<=x->x<b->all[x]? =some o->stays G o.op=false->(yU G o.op=true∨r7 (D6 G) o=true)∨disjB (some R) (uU (HH H0 S x) (S x).s o.op)=true)->aU R (HH H0 S a) (HH H0 S b):=by
 intro b;induction b with
 |zero=>intro h _ _;rw[Nat.le_zero.1 h];exact λ_ _ _ h=>h
 |succ b I=>
  intro h B O;by_cases u:a=b+1
  ·rw[u];exact λ_ _ _ h=>h
  ·have ho:=vM (xs:=all) (i:=b) Z9
   have d:=t.step b _ ho;have q:=I Z9 Z9 (λx o e v=>O x o e Z9)
   have e:aU R (HH H0 S b) (HH H0 S (b+1)):=by
    cases j:stays G all[b].op with
    |true=>
     have:=(d.reader j).1;simp only[HH,this];exact λ_ _ _ h=>h
    |false=>
     cases l:r7 (D6 G) all[b] with
     |true=>
      obtain⟨H',side,f,g,_⟩:=d.al l;simp only[HH,g,A4];exact λk _ ob hk=>a4i f k ob hk
     |false=>
      obtain⟨G',H',side,n,hev,g,_⟩:=d.writer j l;have hg:=O b _ Z9 Z9 ho j
      simp only[HH,g,A4];rcases hg with hg|hg
      ·exact λk _ ob hk=>a4A ((n.grow _).trans (hg.resolve_right (by rw[l];simp))) hev k ob hk
      ·unfold disjB at hg;split at hg
       ·rename_i r w hr hw;simp only[X4] at hr;subst hr;refine λk hk ob hob=>a7n hw hev k (λhkw=>?_) ob hob
        have:=j8.1 (j8.1 hg k hk) k hkw;simp at this
       ·cases hg
   exact λk hk ob hob=>e k hk ob (q k hk ob hob)
theorem eF{fl:Bool}{k:Nat}{o:Oper}(h:all[k]? =some o):C3 fl all k=r7 fl o:=by unfold C3;rw[h]
theorem Trace.hist_at(t:Trace P G nt all b H0 s0 S y p m)(M:Nat):∀i,i<=all.size->∃q,q<=i/\hAt (D6 G) all H0 M (S i).hist=HH H0 S q/\(∀x,q<=x->x<i->fL G all x->Nat.testBit M x=false∨C3 (D6 G) all x=true)/\(q=0∨∃x,q=x+1/\fL G all x/\C3 (D6 G) all x=false/\Nat.testBit M x=true):=by
 intro i;induction i with
 |zero=>intro _;exact⟨0,U9 _,by simp[HH,t.start,hAt,A4],λx _ h=>Z9,.inl rfl⟩
 |succ i A=>
  intro hi;obtain⟨q,Q,z,O,r⟩:=A Z9
  have u:=vM (xs:=all) (i:=i) Z9
  have e:=t.step i _ u;cases j:stays G all[i].op with
  |true=>
   refine⟨q,Z9,by rw[(e.reader j).1];exact z,λx n v X=>?_,r⟩
   by_cases I:x=i
   ·subst I;obtain⟨o,d,g⟩:=X;rw[u] at d;simp only[X4] at d;subst d;rw[j] at g;cases g
   ·exact O x n Z9 X
  |false=>
   obtain⟨H',f⟩:∃H',(S (i+1)).hist=(i,H')::(S i).hist:=by
    cases l:r7 (D6 G) all[i] with
    |true=>obtain⟨H',_,_,f,_⟩:=e.al l;exact⟨H',f⟩
    |false=>obtain⟨_,H',_,_,_,f,_⟩:=e.writer j l;exact⟨H',f⟩
   cases B:Nat.testBit M i&& !C3 (D6 G) all i with
   |true=>
    simp only[M1,xO] at B;exact⟨i+1,U9 _,by simp only[f,hAt,B.1,B.2,HH,A4];rfl,λx n v=>Z9,.inr ⟨i,rfl,⟨_,u,j⟩,B.2,B.1⟩⟩
   |false=>
    refine⟨q,Z9,by simp only[f,hAt,B];exact z,λx n v X=>?_,r⟩
    by_cases I:x=i
    ·subst I;simp only[Bool.and_eq_false_iff,yC] at B;exact B
    ·exact O x n Z9 X
end
section
variable {c:Ctx} {P:Program} {E:Env} {H:Y5} {w w':World}
theorem b5G(h:Inv c E H w)(O:w'.os=w.os)(t:w'.tape=w.tape)(hp:w'.output=w.output)(z:w.heap.size<=w'.heap.size)(W:∀b,b<w.heap.size->w'.heap[b]? =w.heap[b]?){r:Nat}(hr:r<H.length)(j:¬E.L r)
  (ob:Ob) (b κ:Nat) (hia:ob.isArr=true) (B:κ≠0->w.heap.size<=b) (hok:Stp E w (E.push r b κ ob.toArr.sz) w'->T3 (E.push r b κ ob.toArr.sz) w' r ob.toArr):
  Inv c (E.push r b κ ob.toArr.sz) (H.set r (some ob)) w'/\Stp E w (E.push r b κ ob.toArr.sz) w'/\∀k,(E.push r b κ ob.toArr.sz).L k->E.L k∨k=r:=by
 have hst:Stp E w (E.push r b κ ob.toArr.sz) w':=⟨Env.push_le j,λb B=>W b (h.nlt b B)⟩
 have f:(E.push r b κ ob.toArr.sz).β r=b:=if_pos rfl;have d:(E.push r b κ ob.toArr.sz).κ r=κ:=if_pos rfl;refine⟨h.to O t hp z hst r (λ_=>False) (λ_ h=>h) (λi o hi e=>?_) (λo hi=>?_) (λb B _=>W b B) (λi hi=>?_) (λi v hv=>.inl (h.heap.l2 i v hv)) (λo i v hi hv=>?_),hst,λk l=>l⟩
 ·rw[T9 hr,if_neg e] at hi;exact⟨hi,λh=>h⟩
 ·rw[T9 hr,if_pos rfl] at hi;simp only[X4] at hi;subst hi;refine⟨.inr rfl,T3.ob (hok hst) hia,λx hx=>?_⟩
  obtain⟨g,rfl⟩:=hx.arr hia;rw[f];rw[d] at g;exact .inl (B g)
 ·rw[zN];rcases hi with hi|rfl
  ·exact h.heap.lt i hi
  ·exact hr
 ·rw[T9 hr] at hi;split at hi
  ·rename_i n;subst n;exact absurd (h.heap.l2 _ v hv) j
  ·exact h.heap.cur i o v hi hv
theorem c5F(h:Inv c E H w){t tx ty e:TypeId}{x:T}{V xv:Value}{i:TypeInfo}{z:List T}{q:Sr}{r:Nat}(hr:r<H.length)(hL:¬E.L r)(hu:P.underlying t=some (.slice e))(hi:P.info? e=some i)(hz:zeroCells P e=some z)(hl:Nat.beq z.length i.size=true)
  (hq:xW [] (P.underlying tx) i.size x=some q) (C:q.cl=true) (hs:lX q.side (U8 0 q.n i.bytes)) (hd:Rd E w .emp V) (hx:Rd E w x xv):
  ∃v w' E',(Builtin.append_ #[t,tx] ty #[V,xv]).run P w= .ok v w'/\Inv c E' (H.set r (some (.arr true e i.size q.n q.row))) w'/\Stp E w E' w'/\Rd E' w' (.osl r 0 q.n) v/\∀k,E'.L k->E.L k∨k=r:=by
 obtain⟨zv,M,J⟩:=j6 hi hz;have O:zv.cells.size=i.size:=by rw[J];exact H4 hl
 obtain⟨I,rfl⟩:∃I,V= .slice I 0 0:=b37
 obtain⟨Q,W⟩:=zI hs;obtain⟨aa,F,N,A,l,hnews⟩:=wY (P:=P) h.heap (a2s hq) Q hx;obtain⟨rv,w',o,ha⟩:=D2 (P:=P) (ty:=ty) hu hi M O F 0 W (.slice I 0 0) (λ_=>none) none (.inl ⟨I,rfl,rfl,rfl⟩)
 rcases ha with ha|⟨hm,rfl,a1,rfl⟩
 ·obtain⟨ho,ht,hp,hsize,hoth,b,cap,cs,tyb,rfl,hcap,hblk,hcs,hbg,_,hnew⟩:=ha;have hold:∀b,b<w.heap.size->w'.heap[b]? =w.heap[b]? :=λb hb=>hoth b hb X3
  have R:w.heap.size<=b:=by
   rcases hbg with h1|h1
   ·exact h1.1
   ·cases h1
  rw[E5] at hcap;obtain⟨Y,X,Z⟩:=b5G h ho ht hp hsize hold hr hL (.arr true e i.size q.n q.row) b cap rfl (λ_=>R) (λhst=>by
   have B:(E.push r b cap i.size).β r=b:=if_pos rfl;have d:(E.push r b cap i.size).κ r=cap:=if_pos rfl;have g:(E.push r b cap i.size).z r=(i.size,[]):=if_pos rfl;refine⟨by rw[show(Ob.arr true e i.size q.n q.row).toArr.sz=i.size from rfl,g],?_,λk hk=>N k hk,λk t hk ht=>A k t hk ht,λ_ k t hk ht=>l C k t hk ht,cs,tyb,λ_=>?_,?_,λk j t hk hj=>?_⟩
   ·show q.n<=(E.push r b cap i.size).κ r;rw[d];exact hcap
   ·show w'.heap[(E.push r b cap i.size).β r]? =_;rw[B];exact hblk
   ·show aA cs ((E.push r b cap i.size).κ r*i.size) ((E.push r b cap i.size).z r).2;rw[d,g];exact a8i hcs
   ·obtain⟨u,hu',hr'⟩:=hnews k j t hk hj;refine⟨u,?_,hst.rd hr'⟩
    have hk:k<q.n:=hk;have ab:j<i.size:=by rw[←N k hk];exact(x7.1 hj).1
    have U:k*i.size+j<q.n*i.size:=by
     have:(k+1)*i.size<=q.n*i.size:=mA _ hk;rw[Nat.add_mul] at this;omega
    have:=hnew _ U;rw[Nat.zero_mul,E5] at this;show cs[k*i.size+j]? =some u;rw[this,hu'])
  refine⟨_,w',_,o,Y,X,?_,Z⟩
  have B:(E.push r b cap i.size).β r=b:=if_pos rfl;have d:(E.push r b cap i.size).κ r=cap:=if_pos rfl;have f:=Rd.osl (E:=E.push r b cap i.size) (w:=w') r 0 q.n 0 (some ⟨b,0,none⟩) (.inr rfl) (by rw[d];omega) (λ_=>X3) (λ_=>by rw[B])
  rw[d,Nat.sub_zero] at f;rw[E5];exact f
 ·have hn:q.n=0:=by omega
  obtain⟨Y,X,Z⟩:=b5G h rfl rfl rfl (U9 _) (λ_ _=>rfl) hr hL (.arr true e i.size q.n q.row) 0 0 rfl (λh=>absurd rfl h) (λhst=>by
   have d:(E.push r 0 0 i.size).κ r=0:=if_pos rfl;have g:(E.push r 0 0 i.size).z r=(i.size,[]):=if_pos rfl;refine⟨by rw[show(Ob.arr true e i.size q.n q.row).toArr.sz=i.size from rfl,g],?_,λk hk=>N k hk,λk t hk ht=>A k t hk ht,λ_ k t hk ht=>l C k t hk ht, #[],0,λhk=>absurd d hk,?_,λk j t hk=>?_⟩
   ·show q.n<=(E.push r 0 0 i.size).κ r;omega
   ·show aA #[] ((E.push r 0 0 i.size).κ r*i.size) ((E.push r 0 0 i.size).z r).2;rw[d,g];exact a8i X3
   ·have hk:k<q.n:=hk;omega)
  refine⟨_,_,_,o,Y,X,?_,Z⟩
  have d:(E.push r 0 0 i.size).κ r=0:=if_pos rfl;have f:=Rd.osl (E:=E.push r 0 0 i.size) (w:=w') r 0 0 0 a1 (.inr rfl) (N7 _) (λ_=>X3) (λh=>absurd d h)
  rw[d] at f;rw[hn];exact f
theorem c2m(h:Inv c E H w){o:Oper}{s:W7}{H0 H1:Y5}{a:Act}{r:Nat}{y:T}{side:Option Prop}(he:a5q P s H0 o.op r=some (y,H1,side))(hs:side.getD True)(hr:r<H.length)(hL:¬E.L r)(hop:∀x ∈ F5 o.op,G7 E w a s x):
  ∃v w' E' ob,H1=H0.set r (some ob)/\(execOp a.eval o).run P w= .ok (.value v) w'/\Inv c E' (H.set r (some ob)) w'/\Stp E w E' w'/\Rd E' w' y v/\∀k,E'.L k->E.L k∨k=r:=by
 unfold a5q at he;split at he
 ·rename_i t ho;split at he
  ·rename_i z hz;split at he
   ·rename_i h1 hone h3 h4;simp only[X4,U1] at he;obtain⟨rfl,rfl,rfl⟩:=he;obtain⟨v,hv,hrl2,_⟩:=j7 (E:=E) (w:=w) hz;obtain⟨E',g1,g2,g3,g4⟩:=c6f (t:=t) h hr hL hone hrl2;refine⟨_,_,E',_,rfl,?_,g1,g2,g3,g4⟩
    simp only[execOp,ho,Instr.alloc,newVar,newRow,E9,hv,run_newObj,F4,B2];rfl
   ·cases he
  ·cases he
 ·rename_i args at_ ho;rw[ho] at hop;split at he
  case h_2=>cases he
  rename_i d x t tx ha hat;obtain rfl:args= #[d,x]:=Array.ext' tZ
  obtain rfl:at_= #[t,tx]:=Array.ext' a0l
  split at he
  case h_2=>cases he
  rename_i e hd hu;split at he
  case h_2=>cases he
  rename_i i z hi hz;split at he
  case h_2=>cases he
  rename_i q hl hq;split at he
  case h_2=>cases he
  rename_i hcl h3 h4;simp only[X4,U1] at he;obtain⟨rfl,rfl,rfl⟩:=he;have hdo:=hop d wM
  unfold G7 at hdo;rw[hd] at hdo;obtain⟨rv,w',E',hrun,g1,g2,g3,g4⟩:=c5F (P:=P) (ty:=o.type) h hr hL hu hi hz hl hq hcl hs hdo (hop x wM)
  refine⟨rv,w',E',_,rfl,?_,g1,g2,g3,g4⟩
  simp[execOp,ho,resolve,invoke,builtin,hrun,Result.andThen]
 ·cases he
end
theorem b2H{E:Env}{w:World}{s:W7}{ps:A2}{a:Act}{e:E4}{op:Op}(h:∀u,Operand.tmp u ∈ op.operands.toList->I6 s (S6 ps u)->Rd E w (b9 s u) (a.tmps.getD u undef))(hp:I6 s e)(d:H6 ps e op=true):
  (∀x ∈ F5 op,G7 E w a s x)/\∀c x y,op= .pick c x y->(∀b,L8 s c= .bool b->b=true->G7 E w a s x)/\(∀b,L8 s c= .bool b->b=false->G7 E w a s y):=by
 have tmp:∀{q:E4} {x:Operand},x ∈ op.operands.toList->I6 s q->iG ps q x=true->G7 E w a s x:=by
  intro q x X hq g;refine a1n λu U=>?_
  subst U;exact h u X (b5Z g hq)
 by_cases hpk:∃c x y,op= .pick c x y
 ·obtain⟨c,x,y,rfl⟩:=hpk;cases c with
  |tmp t=>
   simp only[H6,M1] at d;obtain⟨⟨i,h2⟩,h3⟩:=d;refine⟨λz Z=>?_,λC j Y he=>?_⟩
   ·simp only[F5,List.mem_singleton] at Z;subst Z;exact tmp (by simp[Op.operands]) hp i
   ·cases he;refine⟨λb hb hbt=>tmp (by simp[Op.operands]) (λq hq=>?_) h2,λb hb hbt=>tmp (by simp[Op.operands]) (λq hq=>?_) h3⟩
    ·rcases xX.1 hq with rfl|hq
     ·exact⟨b,hb,hbt⟩
     ·exact hp q hq
    ·rcases xX.1 hq with rfl|hq
     ·exact⟨b,hb,hbt⟩
     ·exact hp q hq
  |const=>simp[H6] at d
  |global=>simp[H6] at d
  |func=>simp[H6] at d
 ·have f:F5 op=op.operands.toList:=by
   cases op<;>first|rfl|exact absurd ⟨_,_,_,rfl⟩ hpk
  have l:op.operands.toList.all (iG ps e)=true:=by
   cases op<;>first|exact d|exact absurd ⟨_,_,_,rfl⟩ hpk
  exact⟨λx X=>tmp (by rw[←f];exact X) hp (j8.1 l x (by rw[←f];exact X)),λc x y he=>absurd ⟨c,x,y,he⟩ hpk⟩
theorem qA{u:Nat}:∀{l:List Operand},Operand.tmp u ∈ l->u ∈ tK l:=by
 intro l;induction l with
 |nil=>intro h;cases h
 |cons x l i=>
  intro h;cases x with
  |tmp t=>
   simp only[tK];rcases xX.1 h with h|h
   ·cases h;simp
   ·exact List.mem_cons_of_mem _ (i h)
  |_=>
   simp only[tK];rcases xX.1 h with h|h
   ·cases h
   ·exact i h
theorem a2H{u:Nat}{l:List Nat}(h:u ∈ l):a90 (some u) l=true:=by
 simp only[a90,List.any_eq_true];exact⟨u,h,X3⟩
def b5m(all:Array Oper)(s0:W7)(y:Nat->T)(p:Nat->E4)(D:Nat->Prop)(E:Env)(w:World)(a:Act)(u:Nat):Prop:=
 (∀j o,all[j]? =some o->o.dst=some u->D j->(lC all y (p j)->Rd E w (y j) (a.tmps.getD u undef))/\(¬lC all y (p j)->a.tmps.getD u undef=undef))/\
  ((∀j o,all[j]? =some o->o.dst=some u->¬D j)->Rd E w (b9 s0 u) (a.tmps.getD u undef))
def a2S(G:I7)(all:Array Oper)(b:Nat)(H0:Y5)(S:Nat->St)(D:Nat->Prop)(e:Nat)(H:Y5):Prop:=
 H.length=(HH H0 S e).length/\(∀x,e<=x->C3 (D6 G) all x=true->D x->Z0 H (mI (D6 G) b all x)=Z0 (HH H0 S (x+1)) (mI (D6 G) b all x))/\
  ∀k,(∀x,e<=x->C3 (D6 G) all x=true->D x->k≠mI (D6 G) b all x)->Z0 H k=Z0 (HH H0 S e) k
def NR(G:I7)(all:Array Oper)(b:Nat)(H0:Y5)(S:Nat->St)(e:Nat):Prop:=
 ∀x,e<=x->C3 (D6 G) all x=true->Z0 (HH H0 S e) (mI (D6 G) b all x)=none
def RD(c:Ctx)(G:I7)(all:Array Oper)(b:Nat)(H0:Y5)(s0:W7)(S:Nat->St)(y:Nat->T)(p:Nat->E4)(D:Nat->Prop)(a:Act)(w:World):Prop:=
 a.defers=[]/\a.tmps.size=c.nt/\∃E e H,e<=all.size/\(∀x,fL G all x->x<e->D x)/\(∀x,fL G all x->D x->e<=x->C3 (D6 G) all x=true)/\a2S G all b H0 S D e H/\NR G all b H0 S e/\Inv c E H w/\
  (∀x,C3 (D6 G) all x=true->¬D x->¬E.L (mI (D6 G) b all x))/\(∀x,C3 (D6 G) all x=true->∃j,E.L j/\mI (D6 G) b all x<j)/\∀u,b5m all s0 y p D E w a u
theorem a4C{A B:Y5}(l:A.length=B.length)(h:∀k,Z0 A k=Z0 B k):A=B:=by
 refine List.ext_getElem l λk d e=>?_
 have:=h k;unfold Z0 at this;rw[J5 d,J5 e] at this
 exact this
theorem b4R(fl:Bool)(l r:List Oper):xV fl (l++r)=xV fl l+xV fl r:=by
 induction l with
 |nil=>simp[xV]
 |cons o l i=>
  simp only[List.cons_append,xV,i];split<;>omega
theorem B4{fl:Bool}{all:Array Oper}{x:Nat}(h:C3 fl all x=true):∃o,all[x]? =some o/\r7 fl o=true:=by
 unfold C3 at h;split at h
 ·rename_i o O;exact⟨o,O,h⟩
 ·cases h
theorem jX{fl:Bool}{all:Array Oper}{x n:Nat}(h:C3 fl all x=true)(N:x<n):xV fl (all.toList.take x)<xV fl (all.toList.take n):=by
 obtain⟨o,O,f⟩:=B4 h;obtain⟨t,X⟩:=dH.1 O
 have e:all.toList.take n=all.toList.take x++(all.toList.take n).drop x:=by
  have:=(List.take_append_drop x (all.toList.take n)).symm;rw[List.take_take,Nat.min_eq_left Z9] at this
  exact this
 have d:(all.toList.take n).drop x=o::(all.toList.take n).drop (x+1):=by
  have l:x<(all.toList.take n).length:=by simp;omega
  rw[List.drop_eq_getElem_cons l];simp[X]
 rw[e,b4R,d];simp only[xV,f];omega
theorem a0T{fl:Bool}{all:Array Oper}{b x z:Nat}(h:C3 fl all x=true)(k:C3 fl all z=true)(e:x≠z):mI fl b all x≠mI fl b all z:=by
 unfold mI;rcases Nat.lt_or_gt_of_ne e with hl|hl
 ·have:=jX h hl;omega
 ·have:=jX k hl;omega
section
variable {c:Ctx} {P:Program} {G:I7} {all:Array Oper} {b:Nat} {H0:Y5} {s0:W7} {S:Nat->St} {y:Nat->T} {p:Nat->E4} {m:Nat->Nat} {D:Nat->Prop}
theorem sB{E E':Env}{w w':World}{a:Act}{i:Nat}{o:Oper}(t:Trace P G c.nt all b H0 s0 S y p m)(hi:all[i]? =some o)(z:a.tmps.size=c.nt)(f:Stp E w E' w'){v:Value}
  (hv:(lC all y (p i)->Rd E' w' (y i) v)/\(¬lC all y (p i)->v=undef)) (h:∀u,b5m all s0 y p D E w a u) (u:Nat):b5m all s0 y p (λk=>D k∨k=i) E' w' (a.put o.dst v) u:=by
 have keep:(o.dst≠some u)->(a.put o.dst v).tmps.getD u undef=a.tmps.getD u undef:=by
  intro hne;cases hd:o.dst with
  |none=>rfl
  |some d=>
   have e:=(t.step i o hi).dst;rw[hd] at e;rw[sH a d v u (by rw[z];exact zT e),if_neg (by rintro rfl;exact hne hd)]
 have new:o.dst=some u->(a.put o.dst v).tmps.getD u undef=v:=by
  intro hd;have e:=(t.step i o hi).dst;rw[hd] at e ⊢;rw[sH a u v u (by rw[z];exact zT e),if_pos rfl]
 refine⟨λj O hj hd J=>?_,λhno=>?_⟩
 ·by_cases hji:j=i
  ·subst hji;rw[hj] at hi;simp only[X4] at hi;subst hi;rw[new hd];exact hv
  ·have hne:o.dst≠some u:=λhe=>hji (t.distinct hj hi hd he)
   rw[keep hne];obtain⟨l,g⟩:=(h u).1 j O hj hd (J.resolve_right hji);exact⟨λhp=>f.rd (l hp),g⟩
 ·have hne:o.dst≠some u:=λhe=>hno i o hi he (.inr rfl)
  rw[keep hne];exact f.rd ((h u).2 λj O hj hd J=>hno j O hj hd (.inl J))
theorem a7z{x:Nat}(h:C3 (D6 G) all x=true):fL G all x:=by
 obtain⟨o,O,t⟩:=B4 h;exact⟨o,O,(nM t).1⟩
theorem b2B(t:Trace P G c.nt all b H0 s0 S y p m){e:Nat}{H:Y5}(he:e<all.size)(hd:fL G all e->D e/\C3 (D6 G) all e=true)(h:a2S G all b H0 S D e H):a2S G all b H0 S D (e+1) H:=by
 obtain⟨i,f,h3⟩:=h;by_cases hm:fL G all e
 ·obtain⟨hDe,hal⟩:=hd hm;obtain⟨o,ho,ht0⟩:=B4 hal;obtain⟨H',_,hev,hh,_⟩:=(t.step e o ho).al ht0;obtain⟨_,hr,_,e1⟩:=nV hev;have e2:HH H0 S (e+1)=H':=by simp only[HH,hh,A4]
  have j:A4 H0 (S e).hist=HH H0 S e:=rfl;rw[j] at e1 hr;refine⟨by rw[e2,e1,zN];exact i,λx hx=>f x Z9,λk g=>?_⟩
  by_cases hkr:k=mI (D6 G) b all e
  ·rw[hkr];exact f e (U9 e) hal hDe
  ·rw[e2,e1,T9 hr,if_neg hkr];refine h3 k λx hx ha hDx=>?_
   by_cases d:x=e
   ·rw[d];exact hkr
   ·exact g x Z9 ha hDx
 ·have hs:=t.hist_same (a:=e) (e+1) Z9 he (λx q1 q2 hx=>hm (by rwa [show e=x by omega]))
  have e2:HH H0 S (e+1)=HH H0 S e:=by simp only[HH,hs]
  refine⟨by rw[e2];exact i,λx hx=>f x Z9,λk g=>?_⟩
  rw[e2];refine h3 k λx hx ha hDx=>?_
  by_cases d:x=e
  ·exact absurd (d▸a7z ha) hm
  ·exact g x Z9 ha hDx
theorem a16(t:Trace P G c.nt all b H0 s0 S y p m){e:Nat}{H:Y5}:∀{q:Nat},e<=q->q<=all.size->(∀x,e<=x->x<q->fL G all x->D x/\C3 (D6 G) all x=true)->a2S G all b H0 S D e H->a2S G all b H0 S D q H:=by
 intro q;induction q with
 |zero=>intro h _ _ r;rw[Nat.le_zero.1 h] at r;exact r
 |succ q i=>
  intro h Q hd r;by_cases d:e=q+1
  ·rw[←d];exact r
  ·exact b2B t Z9 (hd q Z9 Z9) (i Z9 Z9 (λx f g=>hd x f Z9) r)
theorem c0P(t:Trace P G c.nt all b H0 s0 S y p m){e:Nat}(he:e<all.size)(hd:fL G all e->C3 (D6 G) all e=true)(h:NR G all b H0 S e):NR G all b H0 S (e+1):=by
 intro x hx A;have d:=h x Z9 A
 by_cases hm:fL G all e
 ·have hal:=hd hm;obtain⟨o,ho,ht0⟩:=B4 hal;obtain⟨H',_,hev,hh,_⟩:=(t.step e o ho).al ht0;obtain⟨_,hr,_,e1⟩:=nV hev;have e2:HH H0 S (e+1)=H':=by simp only[HH,hh,A4]
  have f:A4 H0 (S e).hist=HH H0 S e:=rfl;rw[f] at e1 hr;rw[e2,e1,T9 hr,if_neg (a0T A hal Z9)]
  exact d
 ·have hs:=t.hist_same (a:=e) (e+1) Z9 he (λx q1 q2 hx=>hm (by rwa [show e=x by omega]))
  have e2:HH H0 S (e+1)=HH H0 S e:=by simp only[HH,hs]
  rw[e2];exact d
theorem c0U(t:Trace P G c.nt all b H0 s0 S y p m){e:Nat}:∀{q:Nat},e<=q->q<=all.size->(∀x,e<=x->x<q->fL G all x->C3 (D6 G) all x=true)->NR G all b H0 S e->NR G all b H0 S q:=by
 intro q;induction q with
 |zero=>intro h _ _ r;rw[Nat.le_zero.1 h] at r;exact r
 |succ q i=>
  intro h Q hd r;by_cases d:e=q+1
  ·rw[←d];exact r
  ·exact c0P t Z9 (hd q Z9 Z9) (i Z9 Z9 (λx f g=>hd x f Z9) r)
theorem gT{e:Nat}{H:Y5}(n:NR G all b H0 S e)(h:a2S G all b H0 S D e H):F3 (HH H0 S e) H:=by
 intro k ob d;by_cases hx:∃x,e<=x/\C3 (D6 G) all x=true/\D x/\k=mI (D6 G) b all x
 ·obtain⟨x,X,A,f,rfl⟩:=hx;rw[n x X A] at d;cases d
 ·rw[h.2.2 k λx h1 h2 h3 he=>hx ⟨x,h1,h2,h3,he⟩]
  exact d
theorem z8:∀{ks:List Nat} {os:List (Option Ob)} {A:Y5},(N3 A ks os).length=A.length
 | [],os,A=>by cases os<;>rfl
 |j::ks,[],A=>rfl
 |j::ks,o::os,A=>by
  show(N3 (A.set j o) ks os).length=_;rw[z8,zN]
theorem a0s{k:Nat}:∀{ks:List Nat} {os:List (Option Ob)} {A B:Y5},A.length=B.length->Z0 A k=Z0 B k->Z0 (N3 A ks os) k=Z0 (N3 B ks os) k
 | [],os,A,B,_,h=>by cases os<;>exact h
 |j::ks,[],A,B,_,h=>h
 |j::ks,o::os,A,B,hl,h=>by
  show Z0 (N3 (A.set j o) ks os) k=Z0 (N3 (B.set j o) ks os) k;refine a0s (by rw[zN,zN,hl]) ?_
  by_cases J:j<A.length
  ·rw[T9 J,T9 (hl▸J),h]
  ·rw[List.set_eq_of_length_le Z9,List.set_eq_of_length_le Z9,h]
theorem b9c(t:Trace P G c.nt all b H0 s0 S y p m)(hG:D1 P G)(cx:∀x ∈ G,Q8 P x.1)(au:Cl all D){i:Nat}{o:Oper}(hi:all[i]? =some o)(Z:¬D i)
  (cd:∀e ∈ o.after.toList,Region.binds .any e=true->D e.on) {a:Act} {w:World} (hr:RD c G all b H0 s0 S y p D a w) {K:Act->World->Prop} {Q:Exit->Act->World->Prop}
  (hK:∀a' w',RD c G all b H0 s0 S y p (λk=>D k∨k=i) a' w'->K a' w'):wpOp P all Q i K a w:=by
 obtain⟨bf,af,E,e,H,hen,hA,hB,hR,ai,hI,ad,ae,hsl⟩:=hr;have ah:=t.step i o hi;have hilt:i<all.size:=(dH.1 hi).1
 have n:∀(v:Value),(a.put o.dst v).defers=[]/\(a.put o.dst v).tmps.size=c.nt:=by
  intro v;cases o.dst with
  |none=>exact⟨bf,af⟩
  |some d=>exact⟨bf,by simp[Act.put,af]⟩
 have hmask:=t.mask_done au i o hi cd;have C:∀j oj,all[j]? =some oj->i<j->Nat.testBit (m j) i=true->¬D j:=λj oj hj cw hb hDj=>
  Z (t.mask_done au j oj hj (λe he bk=>au j oj hDj hj e he bk) i hb)
 have ab:∀u,u ∈ pM all o->(I6 (S i).s (S6 (S i).ps u)->Rd E w (b9 (S i).s u) (a.tmps.getD u undef))/\(¬I6 (S i).s (S6 (S i).ps u)->a.tmps.getD u undef=undef):=by
  intro u hu;rcases gA all u i with⟨j,oj,bm,hj,hd⟩|hno
  ·have hpr:=t.pair i o j oj hi hj bm;have hb:Nat.testBit (m i) j=true:=by
    unfold r9 at hpr;rw[hd,a2H hu] at hpr
    simpa using And.right a9S
   obtain⟨e1,e2⟩:=t.slot_some hj hd i bm (Nat.le_of_lt hilt);rw[e1,e2];have cp:∀z ∈ p j,∃k o',k<i/\all[k]? =some o'/\o'.dst=some z.1:=λz hz=>by
    obtain⟨k,o',I,bi,cj⟩:=t.path_lt j oj hj z hz;exact⟨k,o',Z9,bi,cj⟩
   rw[t.pathV (Nat.le_of_lt hilt) cp];exact(hsl u).1 j oj hj hd (hmask j hb)
  ·obtain⟨e1,e2⟩:=t.slot_none u i (Nat.le_of_lt hilt) hno;rw[e1,e2];refine⟨λ_=>(hsl u).2 λj oj hj hd hDj=>?_,λhn=>absurd (λq hq=>xI) hn⟩
   rcases Nat.lt_trichotomy j i with h|h|h
   ·exact hno j oj h hj hd
   ·subst h;exact Z hDj
   ·have hpr:=t.pair j oj i o hj hi h;have hb:Nat.testBit (m j) i=true:=by
     unfold r9 at hpr;rw[hd,a2H hu] at hpr
     simpa using And.right a9S
    exact C j oj hj h hb hDj
 have ca:∀u,Operand.tmp u ∈ o.op.operands.toList->u ∈ pM all o:=by
  intro u hu;unfold pM;split
  ·exact qA hu
  ·split
   ·exact List.mem_cons_of_mem _ (qA hu)
   ·exact qA hu
 have hxt:F3 (HH H0 S e) H:=gT ai hR;have ap:stays G o.op=true->∃G' H' side,Good P G G'/\A3 P G' (S i).s H o.op=some (y i,H',side)/\H'=H/\(I6 (S i).s (p i)->side.getD True):=by
  intro l;obtain⟨_,G',H',side,hGG,V,f⟩:=ah.reader l;by_cases ar:pureB o.op=true
  ·exact⟨G',_,side,hGG,b2A ar V,rfl,f⟩
  have ar:pureB o.op=false:=Bool.eq_false_iff.2 ar;obtain⟨q,hq,he,hno,bj⟩:=t.hist_at (m i) i (Nat.le_of_lt hilt);rw[he] at V;have O:∀x,x<q->fL G all x->D x:=by
   intro x X cm;obtain⟨ox,hox,hsx⟩:=cm;rcases bj with rfl|⟨x0,rfl,⟨o0,ho0,hs0⟩,hal0,hb0⟩
   ·omega
   ·have hD0:=hmask x0 hb0;by_cases hxx:x=x0
    ·subst hxx;exact hD0
    ·have hpr:=t.pair x0 o0 x ox ho0 hox Z9
     have hb:Nat.testBit (m x0) x=true:=by
      unfold r9 at hpr;rw[eF ho0] at hal0;rw[hsx,hs0,hal0] at hpr
      simpa using And.right a9S
     exact t.mask_done au x0 o0 ho0 (λe he bk=>au x0 o0 hD0 ho0 e he bk) x hb
  have bc:∀x ox,q<=x->x<e->all[x]? =some ox->stays G ox.op=false->(yU G ox.op=true∨r7 (D6 G) ox=true)∨disjB (aD (S i).s o.op) (uU (HH H0 S x) (S x).s ox.op)=true:=by
   intro x ox h1 h2 hox hsx;have U:=hA x ⟨ox,hox,hsx⟩ h2;rcases Nat.lt_trichotomy x i with h|h|h
   ·rcases hno x h1 h ⟨ox,hox,hsx⟩ with hb|hal
    ·have hpr:=t.pair i o x ox hi hox h;unfold r9 qL at hpr;rw[hb,hsx,l,ar] at hpr;simp only[Bool.false_or,Bool.or_false,M1,qR] at hpr;exact hpr.2.2.imp .inl id
    ·rw[eF hox] at hal;exact .inl (.inr hal)
   ·subst h;exact absurd U Z
   ·have hpr:=t.pair x ox i o hox hi h;unfold r9 qL at hpr;cases hb:Nat.testBit (m x) i with
    |true=>exact absurd U (C x ox hox h hb)
    |false=>
     rw[hb,hsx,l,ar] at hpr;simp only[Bool.false_or,Bool.or_false,M1,qR] at hpr;exact hpr.2.2.imp .inl id
  have an:e<=q->F3 (HH H0 S q) H:=λbx=>
   gT (c0U t bx Z9 (λx h1 h2 X=>hB x X (O x h2 X) h1) ai) (a16 t bx Z9 (λx h1 h2 X=>⟨O x h2 X,hB x X (O x h2 X) h1⟩) hR)
  cases aa:aD (S i).s o.op with
  |none=>
   have am:F3 (HH H0 S q) H:=by
    rcases Nat.le_total q e with hqe|hqe
    ·refine(t.hist_ext e hqe hen λx ox h1 h2 hox hsx=>?_).trans hxt
     rcases bc x ox h1 h2 hox hsx with h|h
     ·exact h
     ·rw[aa] at h;cases h
    ·exact an hqe
   exact⟨G',_,side,hGG,b5F am (by rw[hGG.stays];exact l) V,rfl,f⟩
  |some R=>
   have am:aU R (HH H0 S q) H:=by
    rcases Nat.le_total q e with hqe|hqe
    ·have h0:aU R (HH H0 S q) (HH H0 S e):=t.hist_extOn e hqe hen λx ox h1 h2 hox hsx=>by
      have:=bc x ox h1 h2 hox hsx;rw[aa] at this;exact this
     exact λk I ob hob=>hxt k ob (h0 k I ob hob)
    ·exact λk _ ob hob=>an hqe k ob hob
   exact⟨G',_,side,hGG,b5X aa (by rw[hGG.stays];exact l) am V,rfl,f⟩
 have cr:stays G o.op=false->fL G all i:=λl=>⟨o,hi,l⟩
 have Y:stays G o.op=false->e<=i:=λl=>by
  rcases Nat.lt_or_ge i e with h|h
  ·exact absurd (hA i (cr l) h) Z
  ·exact h
 have aq:stays G o.op=false->r7 (D6 G) o=false->∃G' side H',Good P G G'/\A3 P G' (S i).s H o.op=some (y i,H',side)/\side.getD True/\(∀x,fL G all x->x<i+1->D x∨x=i)/\(∀x,fL G all x->(D x∨x=i)->i+1<=x->C3 (D6 G) all x=true)/\a2S G all b H0 S (λk=>D k∨k=i) (i+1) H'/\(∀x,i+1<=x->C3 (D6 G) all x=true->D x->Z0 (HH H0 S (i+1)) (mI (D6 G) b all x)=none):=by
  intro l bt;obtain⟨G',H',side,hGG,V,hh,f⟩:=ah.writer l bt;have bv:=bt;have ac:∀x,fL G all x->x<i->D x:=by
   intro x X hxi;obtain⟨ox,hox,hsx⟩:=X;have hpr:=t.pair i o x ox hi hox hxi;have hb:Nat.testBit (m i) x=true:=by
    unfold r9 at hpr;rw[hsx,l,bv] at hpr
    simpa using And.right a9S
   exact hmask x hb
  have Y:=Y l;have bh:a2S G all b H0 S D i H:=a16 t Y (Nat.le_of_lt hilt) (λx h1 h2 X=>⟨ac x X h2,hB x X (ac x X h2) h1⟩) hR
  have bn:NR G all b H0 S i:=c0U t Y (Nat.le_of_lt hilt) (λx h1 h2 X=>hB x X (ac x X h2) h1) ai
  have cn:∀x,fL G all x->D x->i<=x->C3 (D6 G) all x=true:=λx X hd av=>hB x X hd Z9
  have h1:A4 H0 (S i).hist=HH H0 S i:=rfl;have h2:HH H0 S (i+1)=H':=by simp only[HH,hh,A4]
  rw[h1] at V;have bb:∀x,fL G all x->x<i+1->D x∨x=i:=λx X F=>by
   by_cases hxi:x=i
   ·exact .inr hxi
   ·exact .inl (ac x X Z9)
  have ba:∀x,fL G all x->(D x∨x=i)->i+1<=x->C3 (D6 G) all x=true:=λx X bj av=>cn x X (bj.resolve_right Z9) Z9
  by_cases J:∃x,i<x/\C3 (D6 G) all x=true/\D x
  ·obtain⟨x,av,co,U⟩:=J;obtain⟨ox,hox,cf⟩:=B4 co;have hfl:floatB G o.op=true∨(b1d G o.op=true/\(uU (HH H0 S i) (S i).s o.op).isSome=true):=by
    have hpr:=t.pair x ox i o hox hi av;have hb:Nat.testBit (m x) i=false:=by
     cases hb:Nat.testBit (m x) i with
     |false=>rfl
     |true=>exact absurd U (C x ox hox av hb)
    unfold r9 at hpr;rw[hb,l,(nM cf).1,bv] at hpr;simp only[Bool.false_or,M1,qR] at hpr;exact hpr.2.2.2
   have bg:∃ks os ao,H'=N3 (HH H0 S i) ks os++ao/\(∀k ∈ ks,∃ob,Z0 (HH H0 S i) k=some ob)/\∀H2:Y5,H2.length=(HH H0 S i).length->F3 (HH H0 S i) H2->A3 P G' (S i).s H2 o.op=some (y i,N3 H2 ks os++ao,side):=by
    rcases hfl with hfl|⟨hf,hw⟩
    ·have hfl':floatB G' o.op=true:=by unfold floatB at hfl ⊢;rw[hGG.grow];exact hfl
     obtain⟨os,e1,e2⟩:=c0x hfl' V;exact⟨[],[],os,e1,λk I=>absurd I j_i,e2⟩
    ·have cg:b1d G' o.op=true:=by
      unfold b1d at hf ⊢;split at hf
      ·rw[hGG.ef];exact hf
      ·cases hf
     obtain⟨W,hW⟩:=Option.isSome_iff_exists.1 hw;exact b65 cg hW V
   obtain⟨ks,os,ao,e1,e0,e2⟩:=bg;rw[e1] at h2;have hnk:∀x',i+1<=x'->C3 (D6 G) all x'=true->mI (D6 G) b all x' ∉ ks:=λx' hx' ha' I=>by
    obtain⟨ob,hob⟩:=e0 _ I;rw[bn x' Z9 ha'] at hob
    cases hob
   obtain⟨r1,r2,r3⟩:=bh;have hsome:∀x',i+1<=x'->C3 (D6 G) all x'=true->D x'->∃ob,Z0 H (mI (D6 G) b all x')=some ob:=λx' hx' ha' hD'=>by
    have:=r2 x' Z9 ha' hD'
    obtain⟨o',bi,ci⟩:=B4 ha';obtain⟨H2,_,bu,cq,_⟩:=(t.step x' o' bi).al ci;obtain⟨_,hr,_,e3⟩:=nV bu;have e4:HH H0 S (x'+1)=H2:=by simp only[HH,cq,A4]
    rw[e4,e3,T9 hr,if_pos rfl] at this;exact⟨_,this⟩
   have hleft:∀(A:Y5) (k:Nat),k<A.length->Z0 (N3 A ks os++ao) k=Z0 (N3 A ks os) k:=λA k I=>by
    unfold Z0;rw[tT (by rw[z8];exact I)]
   refine⟨G',side,N3 H ks os++ao,hGG,e2 H r1 (gT bn ⟨r1,r2,r3⟩),f,bb,ba,⟨by rw[h2,J3,J3,z8,z8,r1],λx' hx' ha' hD'=>?_,λk I=>?_⟩,λx' hx' ha' hD'=>?_⟩
   ·have hDx':D x':=hD'.resolve_right Z9
    obtain⟨ob,hob⟩:=hsome x' hx' ha' hDx';rw[hleft H _ (H9 hob),wZ (hnk x' hx' ha')];exact r2 x' Z9 ha' hDx'
   ·have:=r3 k λx' hx' ha' hDx'=>by
     by_cases hxi:x'=i
     ·exact absurd (hxi▸hDx') Z
     ·exact I x' Z9 ha' (.inl hDx')
    rw[h2];by_cases hkl:k<H.length
    ·rw[hleft H k hkl,hleft (HH H0 S i) k (by rw[←r1];exact hkl)]
     exact a0s r1 this
    ·unfold Z0;rw[rL (by rw[z8];omega),rL (by rw[z8,←r1];omega),z8,z8,r1]
   ·obtain⟨ob,hob⟩:=hsome x' hx' ha' hD';rw[h2,hleft (HH H0 S i) _ (by rw[←r1];exact H9 hob),wZ (hnk x' hx' ha')]
    exact bn x' Z9 ha'
  ·have hH:H=HH H0 S i:=a4C bh.1 λk=>bh.2.2 k λx X ha U=>by
    by_cases hxi:x=i
    ·exact absurd (hxi▸U) Z
    ·exact absurd ⟨x,Z9,ha,U⟩ J
   refine⟨G',side,H',hGG,by rw[hH];exact V,f,bb,ba,⟨by rw[h2],λx X ha hD=>?_,λk _=>by rw[h2]⟩,λx X ha hD=>absurd ⟨x,Z9,ha,hD⟩ J⟩
   exact absurd ⟨x,Z9,ha,hD.resolve_right Z9⟩ J
 have ax:I6 (S i).s (p i)↔lC all y (p i):=t.pathV (Nat.le_of_lt hilt) λz hz=>t.path_lt i o hi z hz
 have run:lC all y (p i)->o.wp P a w K Q:=by
  intro N;have M:=ax.2 N;obtain⟨bo,cc⟩:=b2H (E:=E) (w:=w) (a:=a) (λu hu=>(ab u (ca u hu)).1) M ah.paths
  have ak:∀{x:Nat},stays G o.op=true->fL G all x->x≠i:=λ{x} l X=>by
   rintro rfl;obtain⟨ox,hox,hsx⟩:=X;rw[hi] at hox;simp only[X4] at hox;subst hox;rw[l] at hsx;cases hsx
  have hL':∀{E':Env} {w':World},Step E w E' w'->∀x,C3 (D6 G) all x=true->¬D x->¬E'.L (mI (D6 G) b all x):=λ{E' w'} bl x ha B hL=>by
   obtain⟨j,hj,F⟩:=ae x ha;rcases bl.nl _ hL with h1|h1
   ·exact ad x ha B h1
   ·have:=h1 j hj;omega
  have bp:∀{E':Env} {w':World},Stp E w E' w'->∀x,C3 (D6 G) all x=true->∃j,E'.L j/\mI (D6 G) b all x<j:=λbl x ha=>by
   obtain⟨j,hj,F⟩:=ae x ha;exact⟨j,bl.le.L j hj,F⟩
  cases l:stays G o.op with
  |true=>
   obtain⟨G',H',side,hGG,V,rfl,f⟩:=ap l;refine a4E hGG.ok hGG.call hI V (f M) bo cc λv w' E' ay hst' aa=>hK _ _ ⟨(n v).1,(n v).2,E',e,_,hen,λx X F=>.inl (hA x X F),λx X hd=>hB x X (hd.resolve_right (ak l X)),⟨hR.1,λx X ha hd=>hR.2.1 x X ha (hd.resolve_right (ak l (a7z ha))),λk I=>hR.2.2 k λx X ha hd=>I x X ha (.inl hd)⟩,ai,ay,λx ha B=>hL' hst' x ha λhd=>B (.inl hd),bp hst'.stp,sB t hi af hst'.stp ⟨λ_=>aa,λhn=>absurd N hn⟩ hsl⟩
  |false=>
   cases hal:r7 (D6 G) o with
   |false=>
    obtain⟨G',side,H',hGG,V,f,bb,ba,bs,cb⟩:=aq l hal;refine a4E hGG.ok hGG.call hI V f bo cc λv w' E' ay hst' aa=>?_
    have ct:NR G all b H0 S (i+1):=λx X ha=>by
     by_cases hD:D x
     ·exact cb x X ha hD
     ·have hnL:=hL' hst' x ha (λhd=>hD hd)
      have hxi:x≠i:=Z9
      rw[←bs.2.2 (mI (D6 G) b all x) λx' hx' ha' hD' he=>by
       have hDx':D x':=hD'.resolve_right Z9
       exact a0T ha ha' (λh=>hD (h▸hDx')) he]
      cases I:Z0 H' (mI (D6 G) b all x) with
      |none=>rfl
      |some ob=>exact absurd (ay.heap.live _ ob I).1 hnL
    exact hK _ _ ⟨(n v).1,(n v).2,E',i+1,H',hilt,bb,ba,bs,ct,ay,λx ha B=>hL' hst' x ha λhd=>B (.inl hd),bp hst'.stp,sB t hi af hst'.stp ⟨λ_=>aa,λhn=>absurd N hn⟩ hsl⟩
   |true=>
    obtain⟨H1,side,V,hh,ck⟩:=ah.al hal;obtain⟨_,cl,_⟩:=nV V;have ag:C3 (D6 G) all i=true:=by rw[eF hi];exact hal
    obtain⟨j,hj,cv⟩:=ae i ag;have aw:mI (D6 G) b all i<H.length:=by have:=hI.heap.lt j hj;omega
    have Y:=Y l;have e2:HH H0 S (i+1)=H1:=by simp only[HH,hh,A4]
    obtain⟨v,w',E',ob,e1,bz,g1,g2,g3,g4⟩:=c2m hI V ck aw (ad i ag Z) bo;refine j3 (w':=w') (v:=v) bz (hK _ _ ⟨(n _).1,(n _).2,E',e,_,hen,λx X F=>.inl (hA x X F),λx X hd cu=>?_,⟨by rw[zN];exact hR.1,λx X ha hd=>?_,λk I=>?_⟩,ai,g1,λx ha B hL=>?_,bp g2,sB t hi af g2 ⟨λ_=>g3,λhn=>absurd N hn⟩ hsl⟩)
    ·rcases hd with hd|rfl
     ·exact hB x X hd cu
     ·exact ag
    ·by_cases hxi:x=i
     ·subst hxi;rw[T9 aw,if_pos rfl,e2,e1,T9 cl,if_pos rfl]
     ·rw[T9 aw,if_neg (a0T ha ag hxi)];exact hR.2.1 x X ha (hd.resolve_right hxi)
    ·have ce:=I i Y ag (.inr rfl);rw[T9 aw,if_neg ce];exact hR.2.2 k λx X ha hd=>I x X ha (.inl hd)
    ·rcases g4 _ hL with h1|h1
     ·exact ad x ha (λhd=>B (.inl hd)) h1
     ·exact a0T ha ag (λhxi=>B (.inr hxi)) h1
 have skip:¬lC all y (p i)->stays G o.op=true->K (a.put o.dst undef) w:=by
  intro hn l;have ak:∀{x:Nat},fL G all x->x≠i:=λ{x} X=>by
   rintro rfl;obtain⟨ox,hox,hsx⟩:=X;rw[hi] at hox;simp only[X4] at hox;subst hox;rw[l] at hsx;cases hsx
  exact hK _ _ ⟨(n _).1,(n _).2,E,e,H,hen,λx X F=>.inl (hA x X F),λx X hd=>hB x X (hd.resolve_right (ak X)),⟨hR.1,λx X ha hd=>hR.2.1 x X ha (hd.resolve_right (ak (a7z ha))),λk I=>hR.2.2 k λx X ha hd=>I x X ha (.inl hd)⟩,ai,hI,λx ha B=>ad x ha λhd=>B (.inl hd),ae,sB t hi af (Step.refl E w).stp ⟨λhp=>absurd hp hn,λ_=>rfl⟩ hsl⟩
 unfold wpOp;simp only[hi];cases hg:o.guard with
 |none=>
  have hw:Region.wanted o (yielded all a.tmps)=true:=by simp[Region.wanted,hg]
  rw[if_pos hw];refine .inl (run ?_)
  rw[(ah.plain hg).1];exact λz hz=>by cases hz
 |some gw=>
  obtain⟨j,aj⟩:=gw;obtain⟨g,x,bq,X,bm,hp,_,l,_⟩:=ah.guarded j aj hg;have bw:g ∈ pM all o:=by
   unfold pM;rw[hg];simp only[bq];exact List.mem_cons_self
  have hy:yielded all a.tmps j=match a.tmps[g]? with|some (.bool b)=>some b|_=>none:=by
   unfold yielded;rw[bq];rfl
  by_cases az:I6 (S i).s (S6 (S i).ps g)
  ·have hv:=(ab g bw).1 az;rw[X] at hv;have r:=u7 hv;have cs:a.tmps[g]? =some (.bool x):=by
    rw[Array.getD_eq_getD_getElem?] at r;cases hq:a.tmps[g]? with
    |none=>rw[hq] at r;simp[undef] at r
    |some z=>rw[hq] at r;simp at r;rw[r]
   have hyl:yielded all a.tmps j=some x:=by rw[hy,cs]
   by_cases hxw:x=aj
   ·have hw:Region.wanted o (yielded all a.tmps)=true:=by simp[Region.wanted,hg,hyl,hxw]
    rw[if_pos hw];refine .inl (run (ax.1 ?_))
    rw[hp];intro q hq;rcases xX.1 hq with rfl|hq
    ·exact⟨x,X,hxw⟩
    ·exact az q hq
   ·have hw:¬Region.wanted o (yielded all a.tmps)=true:=by simp[Region.wanted,hg,hyl,hxw]
    rw[if_neg hw];refine skip (λN=>?_) l
    have M:=ax.2 N;rw[hp] at M;obtain⟨x',hx',ch⟩:=M (g,aj) X3
    rw[X] at hx';cases hx';exact hxw ch
  ·have r:=(ab g bw).2 az;have hyl:yielded all a.tmps j=none:=by
    rw[hy];rw[Array.getD_eq_getD_getElem?] at r;cases hq:a.tmps[g]? with
    |none=>rfl
    |some z=>rw[hq] at r;simp at r;rw[r];rfl
   have hw:¬Region.wanted o (yielded all a.tmps)=true:=by simp[Region.wanted,hg,hyl]
   rw[if_neg hw];refine skip (λN=>az ?_) l
   have M:=ax.2 N;rw[hp] at M;exact λq hq=>M q (by simp[hq])
end
def yG(n:Nat)(l:Array Bool):List Nat:=(List.range n).filter λk=> !l.getD k false
theorem a0a{n i:Nat}{listed:Array Bool}(hi:i<n)(hs:listed.size=n)(h:listed.getD i false=false):(yG n (listed.setIfInBounds i true)).length<(yG n listed).length:=by
 have B:∀k,(!(listed.setIfInBounds i true).getD k false)=true->(!listed.getD k false)=true:=by
  intro k e;by_cases I:i=k
  ·subst I;simp[h]
  ·rwa [getD_set_ne false I] at e
 have key:∀l:List Nat,(l.filter λk=> !(listed.setIfInBounds i true).getD k false).length<=(l.filter λk=> !listed.getD k false).length/\(i ∈ l->(l.filter λk=> !(listed.setIfInBounds i true).getD k false).length<(l.filter λk=> !listed.getD k false).length):=by
  intro l;induction l with
  |nil=>exact⟨U9 _,λh=>J4⟩
  |cons x l f=>
   obtain⟨g,d⟩:=f;simp only[List.filter_cons];by_cases hxi:x=i
   ·subst hxi;have e1:(!(listed.setIfInBounds x true).getD x false)=false:=by simp[hs,hi]
    rw[e1,h];simp only[Bool.false_eq_true,if_false,Bool.not_false,if_true,List.length_cons];exact⟨Z9,λ_=>Z9⟩
   ·rw[getD_set_ne false (Ne.symm hxi)];split
    ·simp only[List.length_cons];exact⟨Z9,λM=>by have:=d ((xX.1 M).resolve_left (Ne.symm hxi));omega⟩
    ·exact⟨g,λM=>d ((xX.1 M).resolve_left (Ne.symm hxi))⟩
 exact(key _).2 (List.mem_range.2 hi)
section
variable {c:Ctx} {P:Program} {G:I7} {all:Array Oper} {b:Nat} {H0:Y5} {s0:W7} {S:Nat->St} {y:Nat->T} {p:Nat->E4} {m:Nat->Nat}
theorem RD.congr{D D':Nat->Prop}(h:∀k,k<all.size->(D k↔D' k)){a:Act}{w:World}(C:RD c G all b H0 s0 S y p D a w):RD c G all b H0 s0 S y p D' a w:=by
 obtain⟨r,n,E,e,H,F,B,M,R,N,v,z,I,i⟩:=C;have lt:∀{j:Nat} {o:Oper},all[j]? =some o->j<all.size:=λd=>(dH.1 d).1
 have L:∀{x:Nat},fL G all x->x<all.size:=λX=>by obtain⟨o,f,_⟩:=X;exact lt f
 have l:∀{x:Nat},C3 (D6 G) all x=true->x<all.size:=λX=>by obtain⟨o,f,_⟩:=B4 X;exact lt f
 exact⟨r,n,E,e,H,F,λx X t=>(h x (L X)).1 (B x X t),λx X hd=>M x X ((h x (L X)).2 hd),
  ⟨R.1,λx X A hd=>R.2.1 x X A ((h x (l A)).2 hd),λk q=>R.2.2 k λx X A hd=>q x X A ((h x (l A)).1 hd)⟩,N,v,λx A g=>z x A λhd=>g ((h x (l A)).1 hd),I,
  λu=>⟨λj o d hd J=>(i u).1 j o d hd ((h j (lt d)).2 J),λO=>(i u).2 λj o d hd J=>O j o d hd ((h j (lt d)).1 J)⟩⟩
theorem c4R(t:Trace P G c.nt all b H0 s0 S y p m)(Y:D1 P G)(N:∀x ∈ G,Q8 P x.1){Q:Exit->Act->World->Prop}(R:∀A w',RD c G all b H0 s0 S y p (λ_=>True) A w'->Q .normal A w'):
  ∀(f:Nat) (listed:Array Bool) (a:Act) (w:World),listed.size=all.size->(yG all.size listed).length<=f->Cl all (λk=>listed.getD k false=true)->RD c G all b H0 s0 S y p (λk=>listed.getD k false=true) a w->
   wpAny P .any all Q f listed a w:=by
 have F:∀(listed:Array Bool) (a:Act) (w:World),listed.size=all.size->Cl all (λk=>listed.getD k false=true)->RD c G all b H0 s0 S y p (λk=>listed.getD k false=true) a w->Region.ready .any all listed=[]->Q .normal a w:=by
  intro listed a w q L r l;refine R a w (r.congr λk U=>⟨λ_=>trivial,λ_=>?_⟩)
  induction k using Nat.strongRecOn with
  |_ k O=>
   cases B:listed.getD k false with
   |true=>rfl
   |false=>
    have ho:=vM U
    have M:k ∈ Region.ready .any all listed:=by
     refine mem_ready.2 ⟨?_,_,ho,λe he hbd=>?_⟩
     ·have hlt:k<listed.size:=by omega
      simp only[Array.getD_eq_getD_getElem?,vM hlt,Option.getD_some] at B ⊢
      exact B
     ·have hlt:=t.edge k _ ho e aR hbd
      exact O e.on hlt Z9
    rw[l] at M;cases M
 intro f;induction f with
 |zero=>
  intro listed a w q W L r;have l:Region.ready .any all listed=[]:=by
   cases V:Region.ready .any all listed with
   |nil=>rfl
   |cons x xs=>
    have X:x ∈ Region.ready .any all listed:=by rw[V];simp
    obtain⟨u,o,ho,_⟩:=mem_ready.1 X;have hlt:x<all.size:=(dH.1 ho).1
    have M:x ∈ yG all.size listed:=by
     unfold yG;rw[List.mem_filter,List.mem_range];refine⟨hlt,?_⟩
     have d:x<listed.size:=Z9
     simp only[Array.getD_eq_getD_getElem?,vM d,Option.getD_some] at u ⊢
     simp[u]
    have:=List.length_pos_of_mem M;omega
  exact⟨l,F listed a w q L r l⟩
 |succ f O=>
  intro listed a w q W L r;refine⟨F listed a w q L r,λi hi=>?_⟩
  obtain⟨u,o,ho,n⟩:=mem_ready.1 hi;have hlt:i<all.size:=(dH.1 ho).1
  have v:listed.getD i false=false:=by
   have d:i<listed.size:=Z9
   simp only[Array.getD_eq_getD_getElem?,vM d,Option.getD_some] at u ⊢
   exact u
  refine b9c t Y N L ho (by rw[v];simp) (λe he B=>n e aR B) r λA w' z=>?_
  have g:∀k,(listed.setIfInBounds i true).getD k false=true↔(listed.getD k false=true∨k=i):=by
   intro k;by_cases I:i=k
   ·subst I;simp[q,hlt]
   ·rw[getD_set_ne false I];exact⟨.inl,λh=>h.resolve_right (Ne.symm I)⟩
  refine O _ A w' (by simp[q]) (by have:=a0a hlt q v;omega) (λj Z C J e he B=>?_) (z.congr λk _=>(g k).symm)
  refine(g e.on).2 ?_
  rcases(g j).1 C with h|rfl
  ·exact .inl (L j Z h J e he B)
  ·rw[ho] at J;simp only[X4] at J;subst J;exact .inl (n e aR B)
theorem b67{E:Env}{H:Y5}{w:World}(h:Inv c E H w):Inv c E H {w with drawn:=w.drawn+1}:=by
 have e:Step E w E {w with drawn:=w.drawn+1}:=⟨Env.le.refl E,λ_ _=>rfl,λ_ h=>.inl h⟩
 exact⟨⟨λk ob d=>⟨(h.heap.live k ob d).1,(h.heap.live k ob d).2.1.mono (h.heap.live k ob d).1 e (λ_ _=>rfl),(h.heap.live k ob d).2.2⟩,h.heap.inj,h.heap.lt,h.heap.l2,h.heap.cur⟩,h.nlt,h.nnew,h.bnew,⟨h.fr.os,h.fr.tape,h.fr.output,h.fr.size,h.fr.block⟩,h.keep.step e⟩
theorem b9S{E:Env}{H:Y5}{w:World}(h:Inv c E H w)(n:Nat):Inv c E (H++List.replicate n none) w:=by
 have g:∀k ob,Z0 (H++List.replicate n none) k=some ob->Z0 H k=some ob:=λk ob hk=>by
  unfold Z0 at hk ⊢;by_cases t:k<H.length
  ·rwa [tT t] at hk
  ·rw[rL Z9,List.getElem?_replicate] at hk
   split at hk<;>simp at hk
 exact⟨⟨λk ob hk=>h.heap.live k ob (g k ob hk),λk k' o o' x hk d=>h.heap.inj k k' o o' x (g k o hk) (g k' o' d),λk hk=>by have:=h.heap.lt k hk;simp;omega,h.heap.l2,λk ob v hk=>h.heap.cur k ob v (g k ob hk)⟩,h.nlt,h.nnew,λk ob x hk=>h.bnew k ob x (g k ob hk),h.fr,h.keep⟩
theorem aI{all:Array Oper}{x:Nat}(h:xV (D6 G) all.toList=0):C3 (D6 G) all x=false:=by
 cases A:C3 (D6 G) all x with
 |false=>rfl
 |true=>
  obtain⟨o,O,_⟩:=B4 A;have:=jX A (dH.1 O).1
  rw[show all.size=all.toList.length by simp,dC] at this
  omega
theorem b74{all:Array Oper}{E:Env}{H:Y5}{w:World}(h:Inv c E H w):
  ∃E1,Inv c E1 (a0L H (xV (D6 G) all.toList)) w/\Stp E w E1 w/\(∀x,C3 (D6 G) all x=true->¬E1.L (mI (D6 G) H.length all x))/\∀x,C3 (D6 G) all x=true->∃j,E1.L j/\mI (D6 G) H.length all x<j:=by
 cases e:xV (D6 G) all.toList with
 |zero=>exact⟨E,h,(Step.refl E w).stp,λx A=>by(rw[aI e] at A;cases A),λx A=>by(rw[aI e] at A;cases A)⟩
 |succ n=>
  obtain⟨f,g⟩:=a9H (b9S h (n+1)) 0 1;have N:(H++List.replicate (n+1) (none:Option Ob)).length=H.length+(n+1):=X3
  have l:∀x,C3 (D6 G) all x=true->mI (D6 G) H.length all x<H.length+(n+1):=λx A=>by
   obtain⟨o,O,_⟩:=B4 A;have:=jX A (dH.1 O).1
   rw[show all.size=all.toList.length by simp,dC,e] at this
   unfold mI;omega
  refine⟨_,f,g.stp,λx A d=>?_,λx A=>⟨H.length+(n+1),.inr N.symm,l x A⟩⟩
  have:=l x A;rcases d with d|d
  ·have:=h.heap.lt _ d;unfold mI at this;omega
  ·rw[N] at d;omega
theorem a0p(I:D1 P G)(C:∀x ∈ G,Q8 P x.1){K:W7->Y5->Prop}{Q:Exit->Act->World->Prop}{s:W7}{H:Y5}(O:∀s' H' n w',K s' H'->kP c s' H' n w'->Q .normal n w')
  {E:Env} {a:Act} {w:World} (h:uF P G c.nt all H.length (a0L H (xV (D6 G) all.toList)) all.toList 0 [] [] s [] [] K) (r:RealE c E s [] H a w):wpAny P .any all Q all.size (Array.replicate all.size false) a {w with drawn:=w.drawn+1}:=by
 obtain⟨S,y,p,m,f,J,_,d,hk⟩:=c5v I C all.toList 0 [] [] (λ_=>(none,none)) s [] [] rfl (N7 _) rfl (λk o hk=>Z9) h
 have t:Trace P G c.nt all H.length (a0L H (xV (D6 G) all.toList)) s S y p m:={
  start:=J
  step:=λk o ho=>(d k o (N7 _) ho).1
  edge:=λk o ho e he B=>by
   have:=j8.1 (d k o (N7 _) ho).2.1 e he;simp only[B,Bool.not_true,Bool.false_or] at this;exact zT this
  pair:=λk o k' o' ho l i=>by
   have h1:=(d k o (N7 _) ho).2.2.1;have h2:=(d k' o' (N7 _) l).2.2.1;have:=h1.2 k' o' i l;rw[h1.1,h2.1] at this;exact this
  mask:=λk o j ho B=>(d k o (N7 _) ho).2.2.2 j B}
 have M:=r.inv;refine c4R t I C (λn w' hrd=>?_) all.size _ a _ X3 (Nat.le_trans (List.length_filter_le _ _) X3) (λj o hD=>?_) ?_
 ·obtain⟨h1,h2,E',e,Hx,he,hA,hB,hR,_,hI,_,_,hsl⟩:=hrd;have hR':=a16 t he (U9 _) (λx q1 q2 hx=>⟨trivial,hB x hx trivial q1⟩) hR
  have V:Hx=HH (a0L H (xV (D6 G) all.toList)) S all.size:=a4C hR'.1 λk=>hR'.2.2 k λx hx A _=>by
   obtain⟨o,ho,_⟩:=B4 A;have:=(dH.1 ho).1
   omega
  refine O _ _ n w' hk ⟨E',h1,h2,⟨λu _=>?_,λu W=>absurd (λq v=>by cases v) W⟩,by rw[V] at hI;exact hI⟩
  rcases a3n (S all.size).s (S all.size).ps u with he'|⟨he',hp⟩
  ·rw[he'];exact .und _
  ·rw[he'];rcases gA all u all.size with⟨j,o,hj,ho,hd⟩|hno
   ·obtain⟨X,R⟩:=t.slot_some ho hd all.size hj (U9 _);rw[X];rw[R] at hp;exact((hsl u).1 j o ho hd trivial).1 (by rw[hp];exact λz Z=>by cases Z)
   ·rw[(t.slot_none u all.size (U9 _) hno).1];exact(hsl u).2 λj o ho hd _=>hno j o (dH.1 ho).1 ho hd
 ·simp only[Array.getD_eq_getD_getElem?,Array.getElem?_replicate] at hD
  split at hD<;>simp at hD
 ·have g:∀k,¬ (Array.replicate all.size false).getD k false=true:=by
   intro k hD;simp only[Array.getD_eq_getD_getElem?,Array.getElem?_replicate] at hD
   split at hD<;>simp at hD
  obtain⟨E1,F,N,L,U⟩:=b74 (G:=G) (all:=all) r.inv;have hH0:HH (a0L H (xV (D6 G) all.toList)) S 0=a0L H (xV (D6 G) all.toList):=by simp[HH,J,A4]
  refine⟨r.defers,r.size,E1,0,a0L H (xV (D6 G) all.toList),N7 _,λx _ i=>Z9,λx _ hD=>absurd hD (g x),⟨by rw[hH0],λx _ _ hD=>absurd hD (g x),λk _=>by rw[hH0]⟩,λx _ A=>?_,b67 F,λx A _=>L x A,U,λu=>⟨λj o _ _ hD=>absurd hD (g j),λ_=>?_⟩⟩
  ·rw[hH0];cases hk:Z0 (a0L H (xV (D6 G) all.toList)) (mI (D6 G) H.length all x) with
   |none=>rfl
   |some ob=>exact absurd (F.heap.live _ ob hk).1 (L x A)
  ·exact Rd.mono (w:=w) (w':={w with drawn:=w.drawn+1}) N.le (λ_ _=>rfl) (r.slots.on u (λq v=>by cases v))
end
def a3W(ops:Array Oper):Array Bool->List Nat->Prop
 |listed,[]=>Region.ready .any ops listed=[]
 |listed,k::L=>k ∈ Region.ready .any ops listed/\a3W ops (listed.setIfInBounds k true) L
theorem pN{ops:Array Oper}{l:Array Bool}(f:l.size=ops.size)(u:(yG ops.size l).length<=0):Region.ready .any ops l=[]:=by
 cases L:Region.ready .any ops l with
 |nil=>rfl
 |cons x xs=>
  have X:x ∈ Region.ready .any ops l:=by rw[L];simp
  obtain⟨e,o,O,_⟩:=mem_ready.1 X;have t:x<ops.size:=(dH.1 O).1
  have h:x ∈ yG ops.size l:=by
   unfold yG;rw[List.mem_filter,List.mem_range];refine⟨t,?_⟩
   have d:x<l.size:=Z9
   simp only[Array.getD_eq_getD_getElem?,vM d,Option.getD_some] at e ⊢
   simp[e]
  have:=List.length_pos_of_mem h;omega
theorem pB{ops:Array Oper}{l:Array Bool}{i:Nat}(e:l.size=ops.size)(hi:i ∈ Region.ready .any ops l):i<ops.size/\l.getD i false=false:=by
 obtain⟨d,o,O,_⟩:=mem_ready.1 hi;have t:i<ops.size:=(dH.1 O).1
 refine⟨t,?_⟩
 have h:i<l.size:=Z9
 simp only[Array.getD_eq_getD_getElem?,vM h,Option.getD_some] at d ⊢
 exact d
theorem b7T{ops:Array Oper}:∀(f t:Nat) (l:Array Bool),l.size=ops.size->(yG ops.size l).length<=f->a3W ops l (Region.linearise.go .any ops f t l []):=by
 intro f;induction f with
 |zero=>intro t l d u;exact pN d u
 |succ f e=>
  intro t l d u;simp only[Region.linearise.go];change a3W ops l (match(Region.ready .any ops l)[t % (Region.ready .any ops l).length]? with
   |some i=>Region.linearise.go .any ops f (t/(Region.ready .any ops l).length) (l.setIfInBounds i true) [i]
   |none=>[].reverse)
  cases hi:(Region.ready .any ops l)[t % (Region.ready .any ops l).length]? with
  |none=>
   show Region.ready .any ops l=[];cases r:Region.ready .any ops l with
   |nil=>rfl
   |cons x xs=>
    rw[r] at hi;have h:t % (x::xs).length<(x::xs).length:=Nat.mod_lt _ X3
    simp at hi;simp at h;omega
  |some i=>
   have M:=A6 hi;obtain⟨h,I⟩:=pB d M;simp only[];rw[linearise_go_acc,List.reverse_singleton,List.singleton_append];exact⟨M,e _ _ (by simp[d]) (by have:=a0a h d I;omega)⟩
theorem b7x{P:Program}{ops:Array Oper}{Q:Exit->Act->World->Prop}:∀(L:List Nat) (f:Nat) (l:Array Bool) (a:Act) (w:World),wpAny P .any ops Q f l a w->a3W ops l L->wpOps P ops Q L a w:=by
 intro L;induction L with
 |nil=>
  intro f l a w h r;cases f with
  |zero=>exact h.2
  |succ f=>exact h.1 r
 |cons k L i=>
  intro f l a w h r;cases f with
  |zero=>
   have:=r.1;rw[h.1] at this;cases this
  |succ f=>
   rw[wpOps_cons];exact wpOp_mono (λa w d=>i f _ a w d r.2) (h.2 k r.1)
structure Full(ops:Array Oper)(k:Nat):Prop where
 edge:∀(i:Nat) (o:Oper),ops[i]? =some o->∀e ∈ o.after.toList,Region.binds .any e=true->e.on<i
 gd:∀(i:Nat) (o:Oper) (j:Nat) (b:Bool),ops[i]? =some o->o.guard=some (j,b)->j<i
 full:∀(i:Nat) (o:Oper),k<=i->ops[i]? =some o->∀D:Nat->Prop,Cl ops D->(∀e ∈ o.after.toList,Region.binds .any e=true->D e.on)->∀j,j<i->D j
theorem a5O{a b:Nat}(h:Nat.blt a b=true):a<b:=zT h
theorem b9g{ops:Array Oper}{k:Nat}:∀(r:List Oper) (tab:List Nat),(∀j,ops[tab.length+j]? =r[j]?)->(∀D:Nat->Prop,Cl ops D->∀q,q<tab.length->D q->∀j,Nat.testBit (tab.getD q 0) j=true->D j)->a41 k r tab=true->
  (∀i o,tab.length<=i->ops[i]? =some o->(∀e ∈ o.after.toList,Region.binds .any e=true->e.on<i)/\(∀j b,o.guard=some (j,b)->j<i)/\(k<=i->∀D:Nat->Prop,Cl ops D->(∀e ∈ o.after.toList,Region.binds .any e=true->D e.on)->∀j,j<i->D j)):=by
 intro r;induction r with
 |nil=>
  intro tab hr t h i o hi O;have:=hr (i-tab.length);rw[show tab.length+(i-tab.length)=i by omega,O] at this
  cases this
 |cons o r ih=>
  intro tab hr t h;unfold a41 at h;simp only[M1,qR] at h;obtain⟨⟨⟨B,b2⟩,b3⟩,b4⟩:=h;have h0:ops[tab.length]? =some o:=by have:=hr 0;simpa using this
  have hedge:∀e ∈ o.after.toList,Region.binds .any e=true->e.on<tab.length:=λe d h=>by
   have:=j8.1 B e d;simp only[h,Bool.not_true,Bool.false_or] at this;exact a5O this
  have hmask:∀D:Nat->Prop,Cl ops D->(∀e ∈ o.after.toList,Region.binds .any e=true->D e.on)->∀j,Nat.testBit (maskOf tab o.after.toList) j=true->D j:=λD hD hpre j hj=>by
   obtain⟨e,d,h,R⟩:=a82 hj;rcases R with rfl|R
   ·exact hpre e d h
   ·exact t D hD e.on (hedge e d h) (hpre e d h) j R
  intro i o' hi ho';by_cases hit:i=tab.length
  ·subst hit;rw[h0] at ho';cases ho';refine⟨hedge,λj b hg=>?_,λhk D hD hpre j hj=>?_⟩
   ·unfold gdB at b2;rw[hg] at b2;exact a5O b2
   ·rcases b3 with b3|b3
    ·have:=a5O b3;omega
    ·refine hmask D hD hpre j ?_
     rw[H4 b3,Nat.testBit_two_pow_sub_one];exact mN hj
  ·refine ih (tab++[maskOf tab o.after.toList]) (λj=>?_) (λD hD q hq hDq j hj=>?_) b4 i o' I0 ho'
   ·have:=hr (j+1);rw[J3,List.length_singleton,show tab.length+1+j=tab.length+(j+1) by omega,this]
    rfl
   ·rw[J3,List.length_singleton] at hq;by_cases hqt:q=tab.length
    ·subst hqt;rw[Q2,List.getElem?_concat_length] at hj
     exact hmask D hD (λe d h=>hD _ _ hDq h0 e d h) j hj
    ·rw[Q2,tT Z9,←Q2] at hj
     exact t D hD q Z9 hDq j hj
theorem b72{ops:Array Oper}{k:Nat}(h:a41 k ops.toList []=true):Full ops k:=by
 have:=b9g (ops:=ops) (k:=k) ops.toList [] (λj=>X3) (λD e q Q=>absurd Q (J9 _)) h
 exact⟨λi o O=>(this i o (N7 _) O).1,λi o j b O g=>(this i o (N7 _) O).2.1 j b g,λi o d O=>(this i o (N7 _) O).2.2 d⟩
section
variable {P:Program} {ops:Array Oper} {k:Nat}
theorem fS{l:Array Bool}{k:Nat}(h:k<l.size):(l.setIfInBounds k true).getD k false=true:=by
 simp[h]
theorem a0j(hF:Full ops k):∀(L:List Nat) (i:Nat) (listed:Array Bool),listed.size=ops.size->k<=i->i<=ops.size->(∀j,listed.getD j false=true↔j<i)->a3W ops listed L->L=List.range' i (ops.size-i):=by
 intro L;induction L with
 |nil=>
  intro i listed d q hi hl r;by_cases he:i=ops.size
  ·subst he;simp
  ·exfalso;have ho:=vM (xs:=ops) (i:=i) Z9
   have M:i ∈ Region.ready .any ops listed:=mem_ready.2 ⟨by
    have g:listed.getD i false=false:=by
     cases hb:listed.getD i false with
     |false=>rfl
     |true=>have:=(hl i).1 hb;omega
    have t:i<listed.size:=Z9
    simp only[Array.getD_eq_getD_getElem?,vM t,Option.getD_some] at g ⊢
    exact g,_,ho,λe he hb=>(hl _).2 (hF.edge i _ ho e aR hb)⟩
   rw[show Region.ready .any ops listed=[] from r] at M
   cases M
 |cons x L u=>
  intro i listed d q hi hl r;obtain⟨X,r⟩:=r;obtain⟨t,I⟩:=pB d X;obtain⟨_,o,ho,hall⟩:=mem_ready.1 X;have l:i<=x:=by
   rcases Nat.lt_or_ge x i with h|h
   ·rw[(hl x).2 h] at I;cases I
   ·exact h
  have f:x=i:=by
   rcases Nat.lt_or_ge i x with h|h
   ·exfalso;have hD:=hF.full x o Z9 ho (λj=>listed.getD j false=true) (λj oj hj hoj e he hb=>(hl _).2 (by have:=(hl j).1 hj;have:=hF.edge j oj hoj e he hb;omega)) (λe he hb=>hall e aR hb) i h
    have:=(hl i).1 hD;omega
   ·omega
  subst f;have n:ops.size-x=(ops.size- (x+1))+1:=Z9
  rw[n,List.range'_succ];congr 1
  refine u (x+1) _ (by simp[d]) Z9 Z9 (λj=>?_) r
  by_cases hj:x=j
  ·subst hj;constructor
   ·intro _;omega
   ·intro _;exact fS Z9
  ·rw[getD_set_ne false hj,hl];omega
theorem a1S(hF:Full ops k)(q:k<=ops.size){l1:Array Bool}(r:l1.size=ops.size)(C:Cl ops (λj=>l1.getD j false=true))(l:¬ ∀j,j<k->l1.getD j false=true):∃x,x<k/\x ∈ Region.ready .any ops l1:=by
 have key:∀n,n<=k->(∀j,j<n->l1.getD j false=true)∨∃x,x<k/\x ∈ Region.ready .any ops l1:=by
  intro n;induction n with
  |zero=>intro _;exact .inl λj J=>absurd J (J9 _)
  |succ n I=>
   intro g;rcases I Z9 with h|h
   ·cases hb:l1.getD n false with
    |true=>
     refine .inl λj J=>?_
     by_cases N:j=n
     ·rw[N];exact hb
     ·exact h j Z9
    |false=>
     have o:=vM (xs:=ops) (i:=n) Z9
     refine .inr ⟨n,Z9,mem_ready.2 ⟨?_,_,o,λe f d=>h _ (hF.edge n _ o e (by simpa using f) d)⟩⟩
     have t:n<l1.size:=Z9
     simp only[Array.getD_eq_getD_getElem?,vM t,Option.getD_some] at hb ⊢
     exact hb
   ·exact .inr h
 rcases key k (U9 _) with h|h
 ·exact absurd h l
 ·exact h
theorem a7o(hF:Full ops k)(hk:k<=ops.size){A:Array Oper}(r:A=(ops.toList.take k).toArray):∀(L:List Nat) (l1 l2:Array Bool),l1.size=ops.size->l2.size=k->(∀j,j<k->l2.getD j false=l1.getD j false)->(∀j,k<=j->l1.getD j false=false)->Cl ops (λj=>l1.getD j false=true)->a3W ops l1 L->
  ∃L1,L=L1++List.range' k (ops.size-k)/\a3W A l2 L1:=by
 have n:∀j,j<k->A[j]? =ops[j]? :=λj J=>by
  rw[r,List.getElem?_toArray,List.getElem?_take,if_pos J,Array.getElem?_toList]
 have f:A.size=k:=by rw[r];simp;omega
 intro L;induction L with
 |nil=>
  intro l1 l2 h1 l he hn hc hr;by_cases hall:∀j,j<k->l1.getD j false=true
  ·have hd:∀j,l1.getD j false=true↔j<k:=λj=>⟨λh=>(Nat.lt_or_ge j k).elim id λh'=>absurd ((hn j h').symm.trans h) X3,hall j⟩
   refine⟨[],a0j hF [] k l1 h1 (U9 _) hk hd hr,pN (by rw[l,f]) ?_⟩
   unfold yG;rw[Nat.le_zero,List.length_eq_zero_iff,List.filter_eq_nil_iff];intro j J;rw[List.mem_range,f] at J;rw[he j J,hall j J];simp
  ·exfalso;obtain⟨x,hx,hm⟩:=a1S hF hk h1 hc hall;rw[show Region.ready .any ops l1=[] from hr] at hm
   cases hm
 |cons x L I=>
  intro l1 l2 h1 l he hn hc hr;by_cases hall:∀j,j<k->l1.getD j false=true
  ·have hd:∀j,l1.getD j false=true↔j<k:=λj=>⟨λh=>(Nat.lt_or_ge j k).elim id λh'=>absurd ((hn j h').symm.trans h) X3,hall j⟩
   refine⟨[],a0j hF (x::L) k l1 h1 (U9 _) hk hd hr,pN (by rw[l,f]) ?_⟩
   unfold yG;rw[Nat.le_zero,List.length_eq_zero_iff,List.filter_eq_nil_iff];intro j J;rw[List.mem_range,f] at J;rw[he j J,hall j J];simp
  ·obtain⟨hx,hr⟩:=hr;obtain⟨q,hni⟩:=pB h1 hx;obtain⟨v,o,ho,d⟩:=mem_ready.1 hx;have hxk:x<k:=by
    rcases Nat.lt_or_ge x k with h|h
    ·exact h
    ·exfalso;exact hall λj J=>hF.full x o h ho _ hc (λe he hb=>d e aR hb) j Z9
   have t:∀j,(l1.setIfInBounds x true).getD j false=true↔(l1.getD j false=true∨j=x):=by
    intro j;by_cases J:x=j
    ·subst J;simp[h1,q]
    ·rw[getD_set_ne false J];exact⟨.inl,λh=>h.resolve_right (Ne.symm J)⟩
   obtain⟨L1,u,R⟩:=I (l1.setIfInBounds x true) (l2.setIfInBounds x true) (by simp[h1]) (by simp[l]) (λj J=>by
    by_cases X:x=j
    ·subst X;rw[fS Z9,fS Z9]
    ·rw[getD_set_ne false X,getD_set_ne false X];exact he j J) (λj J=>by rw[getD_set_ne false Z9];exact hn j J) (λj O J g e hem hb=>by
    refine(t _).2 ?_
    rcases(t j).1 J with h|rfl
    ·exact .inl (hc j O h g e hem hb)
    ·rw[ho] at g;cases g;exact .inl (d e (by simpa using hem) hb)) hr
   refine⟨x::L1,by rw[u];rfl,mem_ready.2 ⟨?_,o,by rw[n x hxk];exact ho,λe hem hb=>?_⟩,R⟩
   ·have h3:l2.getD x false=false:=by rw[he x hxk];exact hni
    have i:x<l2.size:=Z9
    simp only[Array.getD_eq_getD_getElem?,vM i,Option.getD_some] at h3 ⊢
    exact h3
   ·have:=hF.edge x o ho e (by simpa using hem) hb
    rw[he _ Z9]
    exact d e hem hb
theorem b2f(hF:Full ops k){A:Array Oper}(u:∀j,j<k->A[j]? =ops[j]?)(z:A.size=k){Q Q':Exit->Act->World->Prop}{L2:List Nat}(N:∀a w,Q' .normal a w->wpOps P ops Q L2 a w)(q:∀e a w,e≠ .normal->Q' e a w->Q e a w):∀(L1:List Nat) (l:Array Bool),l.size=A.size->a3W A l L1->∀(a:Act) (w:World),wpOps P A Q' L1 a w->wpOps P ops Q (L1++L2) a w:=by
 intro L1;induction L1 with
 |nil=>intro l i _ a w h;exact N a w h
 |cons x L1 I=>
  intro l i R a w h;obtain⟨X,R⟩:=R;obtain⟨v,_⟩:=pB i X;have f:x<k:=Z9
  rw[wpOps_cons] at h;rw[List.cons_append,wpOps_cons];have h:=wpOp_mono (λa w C=>I _ (by simp[i]) R a w C) h
  unfold wpOp at h ⊢;rw[u x f] at h;cases d:ops[x]? with
  |none=>rw[d] at h;exact h
  |some o=>
   rw[d] at h;simp only[] at h ⊢;have Y:Region.wanted o (yielded A a.tmps)=Region.wanted o (yielded ops a.tmps):=by
    unfold Region.wanted;cases B:o.guard with
    |none=>rfl
    |some g=>
     obtain⟨j,b⟩:=g;have:=hF.gd x o j b d B;simp only[];unfold yielded;rw[u j Z9]
   rw[Y] at h;have O:LetsOut Q'->LetsOut Q:=λ⟨a,w,h⟩=>⟨a,w,q _ a w (by intro h;cases h) h⟩
   split
   ·rename_i hw;rw[if_pos hw] at h;rcases h with h|⟨h1,h2⟩
    ·refine .inl ?_
     unfold Oper.wp at h ⊢;generalize (execOp a.eval o).run P w=r at h ⊢;cases r with
     |ok n w'=>
      cases n<;>simp only[Oper.upon] at h ⊢ <;>
       first
        |exact h
        |exact Calls.mono h (λe W t=>by cases e<;>first|exact t|exact q _ _ _ (by intro h;cases h) t|exact O t)
     |halt x w'=>cases x<;>simp only[Oper.upon] at h ⊢ <;>first|exact h|exact q _ _ _ (by intro h;cases h) h
    ·exact .inr ⟨h1,O h2⟩
   ·rename_i hw;rw[if_neg hw] at h;exact h
end
section
variable {c:Ctx} {E:Env} {H:Y5} {w:World} {P:Program}
theorem b5v{t tx ty e:TypeId}{i:TypeInfo}{z:Value}(o:P.underlying t=some (.slice e))(hi:P.info? e=some i)(Z:i.zero=some z)(g:z.cells.size=i.size)
  {x:Value} {m:Nat} {N:List Value} (hs:Go.Src P i.size tx x m N w) {n:Nat} (B:U8 n m i.bytes) (base:Option Addr) (cap:Nat) (B0:List Value) (hol:B0.length=n*i.size) (d:(Builtin.firstCells i.size n (.slice base n cap)).run P w.drew= .ok B0.toArray w.drew) (h:cap<n+m):
  ∃r w',(Builtin.append_ #[t,tx] ty #[.slice base n cap,x]).run P w= .ok r w'/\Appended w i.size n m (λj=>B0[j]?) N none r w':=by
 obtain⟨l,q⟩:=B;have R:=run_append_grow_src (P:=P) w t tx ty e i z o hi Z base n cap B0 d x m N hs h Z9 (growslice_fits h l)
 have f:=grownCap_ge w (n+m) cap e;refine⟨_,_,R,rfl,rfl,rfl,X3,λb B _=>heap_alloc_old w.drew _ B,_,_,_,_,rfl,f,heap_alloc_new w.drew _,?_,.inl ⟨U9 _,λ_ A=>heap_alloc_old w.drew _ A⟩,λj J=>?_,λj J=>?_⟩
 ·refine Nat.le_of_eq (Eq.symm ?_)
  simp only[Array.size_append,List.size_toArray,J3,size_zeroCells,g,hol,hs.newsLen,←Nat.add_mul];congr 1
  omega
 ·rw[Array.getElem?_append_left (by simp[hol];omega)]
  rw[List.getElem?_toArray,tT Z9]
 ·have hnl:=hs.newsLen;rw[Array.getElem?_append_left (by simp[hol,hnl];omega)]
  rw[List.getElem?_toArray,rL Z9,hol]
  congr 1
  omega
theorem a6N(h:Inv c E H w){t tx ty e:TypeId}{i:TypeInfo}{z:Value}(ht:P.underlying t=some (.slice e))(hi:P.info? e=some i)(hz:i.zero=some z)(al:z.cells.size=i.size)(bf:0<i.size)
  {k off n N:Nat} {cl:Bool} {X:TypeId} {row:Nat->List T} (hk:Z0 H k=some (.arr cl X i.size N row)) {x:T} {S:Sr} (ai:xW H (P.underlying tx) i.size x=some S) (am:S.side.getD True) (bi:off+n<=N) (bb:0<S.n) (an:U8 (off+n) S.n i.bytes) {dv xv:Value}
  (hd:Rd E w (.osl k off n) dv) (hx:Rd E w x xv):∃(b:Bool) (r:Value) (w':World) (E':Env),(Builtin.append_ #[t,tx] ty #[dv,xv]).run P w= .ok r w'/\Rd E' w' (.osl H.length (cond b 0 off) (n+S.n)) r/\
   Inv c E' (H.set k none++[some (.arr (cl&&S.cl) e i.size (cond b (n+S.n) (off+n+S.n)) (cond b (X6 (λi=>row (off+i)) n S.row) (X6 row (off+n) S.row)))]) w'/\Step E w E' w':=by
 obtain⟨A,C,ac,v,L,g⟩:=wY (P:=P) h.heap ai am hx;have hA:T3 E w k ⟨cl,X,i.size,N,row⟩:=(h.heap.live _ _ hk).2.1;obtain⟨O,hn,hl,q,J,cs,U,d,af,hc⟩:=hA;simp only at O hn hl q J af hc;have ae:U8 n S.n i.bytes:=by
  obtain⟨a1,a2⟩:=an;refine⟨Nat.le_trans (mA _ Z9) a1,Z9⟩
 cases hd with
 |osl _ _ _ o a hL bg ho ha=>
  have copy:∀(B0:List Value),B0.length=n*i.size->(Builtin.firstCells i.size n (.slice a n (E.κ k-off))).run P w.drew= .ok B0.toArray w.drew->E.κ k-off<n+S.n->(∀r j t,r<n->(row (off+r))[j]? =some t->∃u,B0[r*i.size+j]? =some u/\Rd E w t u)->
    ∃(b:Bool) (r:Value) (w':World) (E':Env),(Builtin.append_ #[t,tx] ty #[.slice a n (E.κ k-off),xv]).run P w= .ok r w'/\Rd E' w' (.osl H.length (cond b 0 off) (n+S.n)) r/\
   Inv c E' (H.set k none++[some (.arr (cl&&S.cl) e i.size (cond b (n+S.n) (off+n+S.n)) (cond b (X6 (λi=>row (off+i)) n S.row) (X6 row (off+n) S.row)))]) w'/\Step E w E' w':=by
   intro B0 ao ad f aq;obtain⟨r,w',l,Q⟩:=b5v (P:=P) (ty:=ty) ht hi hz al C ae a _ B0 ao ad f;have:=h.appended (.inl Q) (H.set k none) (λi=>i=k) X3 (oQ hk) (λb hb=>by cases hb) (.arr (cl&&S.cl) e i.size (n+S.n) (X6 (λi=>row (off+i)) n S.row)) rfl rfl
     (λr hr=>by
      simp only[Ob.toArr];by_cases h:r<n
      ·rw[N8 h];exact hl _ Z9
      ·rw[O0 h];exact ac _ Z9)
     (λr t hr ht=>by
      simp only[Ob.toArr] at ht;by_cases h:r<n
      ·rw[N8 h] at ht;exact q _ t Z9 ht
      ·rw[O0 h] at ht;exact v _ t Z9 ht)
     (λhcc r t hr ht=>by
      simp only[Ob.toArr,M1] at ht hcc;by_cases h:r<n
      ·rw[N8 h] at ht;exact J hcc.1 _ t Z9 ht
      ·rw[O0 h] at ht;exact L hcc.2 _ t Z9 ht)
     (λr j t hr hj=>by
      simp only[Ob.toArr] at hj;rw[N8 hr] at hj;exact aq r j t hr hj)
     (λr j t hr hj=>by
      simp only[Ob.toArr] at hj;rw[O0 Z9,show n+r-n=r by omega] at hj
      exact g r j t hr hj)
   obtain⟨E',hr,hI,B⟩:=this;exact⟨true,r,w',E',l,hr,hI,B⟩
  by_cases hκ:E.κ k=0
  ·obtain rfl:n=0:=by omega
   refine copy [] X3 ?_ Z9 (λr j t hr=>absurd hr (J9 _))
   cases a with
   |none=>exact run_firstCells_none w.drew i.size 0 0 _
   |some a=>exact run_firstCells_some w.drew i.size 0 a 0 _ [] X3 (λj u h=>J2)
  have d:=d hκ;have Z:=af.le;by_cases M:n+S.n<=E.κ k-off
  ·-- in place
   have hoff:off<E.κ k:=Z9
   have ho:=ho (.inl hoff);rw[O] at ho;have f:(off+n+S.n)*i.size<=cs.size:=Nat.le_trans (mA _ Z9) Z
   have F:(off+n)*i.size+A.length<=cs.size:=by rw[C.newsLen,←Nat.add_mul];exact f
   obtain⟨w',B,az,ak,ap,ah,ab,aj,ay,aa,W,au⟩:=w8 P w (E.β k) ((off+n)*i.size) U cs A d F C.one;rw[Nat.add_mul] at B;have l:(Builtin.append_ #[t,tx] ty #[.slice a n (E.κ k-off),xv]).run P w= .ok (.slice (some ⟨E.β k,off*i.size,none⟩) (n+S.n) (E.κ k-off)) w':=by
    rw[ha hκ,ho];rcases C.kind with⟨e',R⟩|R<;>simp[Builtin.append_,run_underlying ht,run_underlying R,sizeOf,typeInfo,hi,C.len,M,C.cells,Addr.add_lit,B]
   have Q:Appended w i.size (off+n) S.n (λj=>cs[j]?) A (some (E.β k)) (.slice (some ⟨E.β k,0,none⟩) (off+n+S.n) (E.κ k)) w':=
    ⟨az,ak,ap,Z9,λb' _ ag=>ab b' (λe=>ag (by rw[e])),E.β k,E.κ k,aj,U,rfl,Z9,ay,by rw[aa];exact Z,.inr rfl,λj hj=>W j (.inl hj),λj hj=>au j (by rw[C.newsLen];exact hj)⟩
   have:=h.appended (.inl Q) (H.set k none) (λi=>i=k) X3 (oQ hk) (λb hb=>⟨k,_,rfl,hk,.inl ⟨hκ,(Option.some.inj hb).symm⟩⟩) (.arr (cl&&S.cl) e i.size (off+n+S.n) (X6 row (off+n) S.row)) rfl rfl
     (λr hr=>by
      simp only[Ob.toArr];by_cases h:r<off+n
      ·rw[N8 h];exact hl _ Z9
      ·rw[O0 h];exact ac _ Z9)
     (λr t hr ht=>by
      simp only[Ob.toArr] at ht;by_cases h:r<off+n
      ·rw[N8 h] at ht;exact q _ t Z9 ht
      ·rw[O0 h] at ht;exact v _ t Z9 ht)
     (λhcc r t hr ht=>by
      simp only[Ob.toArr,M1] at ht hcc;by_cases h:r<off+n
      ·rw[N8 h] at ht;exact J hcc.1 _ t Z9 ht
      ·rw[O0 h] at ht;exact L hcc.2 _ t Z9 ht)
     (λr j t hr hj=>by
      simp only[Ob.toArr] at hj;rw[N8 hr] at hj;exact hc r j t Z9 hj)
     (λr j t hr hj=>by
      simp only[Ob.toArr] at hj;rw[O0 Z9,show off+n+r- (off+n)=r by omega] at hj
      exact g r j t hr hj)
   obtain⟨E',hr,hI,Y⟩:=this;refine⟨false,_,w',E',l,?_,hI,Y⟩
   have ar:Z0 (H.set k none++[some (.arr (cl&&S.cl) e i.size (off+n+S.n) (X6 row (off+n) S.row))]) H.length=some (.arr (cl&&S.cl) e i.size (off+n+S.n) (X6 row (off+n) S.row)):=by
    unfold Z0;rw[rL X3]
    simp
   have aw:T3 E' w' H.length ⟨cl&&S.cl,e,i.size,off+n+S.n,X6 row (off+n) S.row⟩:=(hI.heap.live _ _ ar).2.1;have V:=aw.1;simp only at V;generalize hv:(Value.slice (some ⟨E.β k,0,none⟩) (off+n+S.n) (E.κ k))=rv at hr;cases hr with
   |osl _ _ _ o2 a2 ba bh bj ax=>
    simp only[Value.slice.injEq] at hv;obtain⟨v1,_,v3⟩:=hv;have av:E'.κ H.length=E.κ k:=Z9
    have e1:=ax Z9
    rw[←v1] at e1;simp only[X4,Addr.mk.injEq] at e1;rw[←av];refine .osl H.length off (n+S.n) (off*i.size) _ ba Z9 (λ_=>by rw[V]) (λ_=>by rw[e1.1])
  ·by_cases hn0:n=0
   ·subst hn0;refine copy [] X3 ?_ Z9 (λr j t hr=>absurd hr (J9 _))
    cases a with
    |none=>exact run_firstCells_none w.drew i.size 0 0 _
    |some a=>exact run_firstCells_some w.drew i.size 0 a 0 _ [] X3 (λj u h=>J2)
   ·have hoff:off<E.κ k:=by omega
    have ho:=ho (.inl hoff);rw[O] at ho;have F:off*i.size+n*i.size<=cs.size:=by rw[←Nat.add_mul];exact Nat.le_trans (mA _ Z9) Z
    have I:∀j,((cs.toList.drop (off*i.size)).take (n*i.size))[j]? =if j<n*i.size then cs[off*i.size+j]? else none:=λj=>by
     rw[List.getElem?_take]
     split
     ·rw[List.getElem?_drop,Array.getElem?_toList]
     ·rfl
    refine copy ((cs.toList.drop (off*i.size)).take (n*i.size)) I0 ?_ Z9 (λr j t hr hj=>?_)
    ·rw[ha hκ,ho];refine run_firstCells_some w.drew i.size n ⟨E.β k,off*i.size,none⟩ n _ _ I0 (λj u hj=>?_)
     rw[Addr.add_lit];show w.cell? _=_;rw[S1 d];rw[I] at hj;split at hj
     ·exact hj
     ·cases hj
    ·obtain⟨u,hu,hr'⟩:=hc (off+r) j t Z9 hj
     have bc:j<i.size:=by
      have:=(x7.1 hj).1
      rw[hl (off+r) Z9] at this
      exact this
     refine⟨u,?_,hr'⟩
     rw[I,if_pos (by
      have:(r+1)*i.size<=n*i.size:=mA _ hr;rw[Nat.add_mul] at this;omega),show off*i.size+(r*i.size+j)=(off+r)*i.size+j by rw[Nat.add_mul];omega]
     exact hu
theorem c0E(h:Inv c E H w){s:W7}{o:Oper}{a:Act}{K:Act->World->Prop}{Q:Exit->Act->World->Prop}(hop:∀x ∈ F5 o.op,G7 E w a s x)(hv:∀b,∃t H' side,tA P s H o b=some (t,H',side)/\side.getD True)
  (hK:∀b t H' side v w' E',tA P s H o b=some (t,H',side)->Inv c E' H' w'->Step E w E' w'->Rd E' w' t v->K (a.put o.dst v) w'):o.wp P a w K Q:=by
 obtain⟨t0,H0,side0,he0,hs0⟩:=hv true;have hev:=he0;unfold tA at he0;split at he0
 case h_2=>cases he0
 rename_i args at_ hg ho;split at he0
 case h_2=>cases he0
 rename_i d x t tx ha hat;obtain rfl:args= #[d,x]:=Array.ext' tZ
 obtain rfl:at_= #[t,tx]:=Array.ext' a0l
 split at he0
 case h_2=>cases he0
 rename_i k off n e hd hu;split at he0
 case h_2=>cases he0
 rename_i i z cl tyb sz N row hi hz hk;split at he0
 case h_2=>cases he0
 rename_i hb;simp only[M1] at hb;obtain⟨⟨b1,b2⟩,b3⟩:=hb;obtain rfl:=H4 b3;cases hsb:xW H (P.underlying tx) i.size (L8 s x) with
 |none=>rw[hsb] at he0;cases he0
 |some S=>
  have hall:∀b,tA P s H o b=some (.osl H.length (cond b 0 off) (n+S.n),H.set k none++[some (.arr (cl&&S.cl) e i.size (cond b (n+S.n) (off+n+S.n)) (cond b (X6 (λi=>row (off+i)) n S.row) (X6 row (off+n) S.row)))],some (lX S.side (Le (off+n) N/\Lt 0 S.n/\U8 (off+n) S.n i.bytes))):=λb=>by
   unfold tA;rw[hg,ho];simp only[hd,hu,hi,hz,hk,b1,b2,b3,Bool.and_self,hsb,o7]
  rw[hall] at hev;simp only[X4,U1] at hev;obtain⟨_,_,rfl⟩:=hev;obtain⟨hls,hle,hpos,hab⟩:=zI hs0;obtain⟨zv,hzv,hzl⟩:=j6 hi hz;have hdo:=hop d (by rw[ho];simp[F5,Op.operands,Call.operands])
  unfold G7 at hdo;rw[hd] at hdo;have hn0:i.size≠0:=λh0=>by
   rw[h0] at b2;cases b2
  obtain⟨b,r,w',E',hrun,g1,g2,g3⟩:=a6N (P:=P) (ty:=o.type) h hu hi hzv (by rw[hzl];exact H4 b1) Z9 hk hsb hls hle hpos hab hdo (hop x (by rw[ho];simp[F5,Op.operands,Call.operands]))
  refine j3 (w':=w') (v:=r) ?_ (hK b _ _ _ r w' E' (hall b) g2 g3 g1)
  simp[execOp,ho,resolve,invoke,builtin,hrun,Result.andThen]
end
theorem b0a{c:Ctx}{P:Program}{G:I7}{all:Array Oper}(U:D1 P G)(F:∀x ∈ G,Q8 P x.1){K:W7->Y5->Prop}{Q:Exit->Act->World->Prop}{s:W7}{H:Y5}(M:∀s' H' a' w',K s' H'->kP c s' H' a' w'->Q .normal a' w')
  {r:List Oper} {E:Env} {a:Act} {w:World} (h:mP P G c.nt all s H K r) (R:RealE c E s [] H a w):wpList P all Q r a w:=by
 cases r with
 |nil=>exact h.elim
 |cons o r=>
  unfold mP at h;dsimp only at h;have f:(H6 [] [] o.op&&lR c.nt o.dst)=true:=by
   cases J:(H6 [] [] o.op&&lR c.nt o.dst) with
   |true=>rfl
   |false=>rw[J] at h;exact h.elim
  rw[f] at h;rw[M1] at f;obtain⟨O,i⟩:=f;have l:I6 s []:=λq L=>by cases L
  obtain⟨z,_⟩:=tG R.slots l O;have hv:∀b,∃t H' side,tA P s H o b=some (t,H',side)/\side.getD True/\yR P G c.nt all r (yB s o.dst t) [] H' K:=λb=>by
   have:=h b;split at this
   ·rename_i t H' side g;obtain⟨C,e⟩:=xL this;exact⟨t,H',side,g,C l,e⟩
   ·exact this.elim
  have u:o.guard=none:=by
   obtain⟨t,H',side,g,_⟩:=hv true;unfold tA at g;split at g
   ·rename_i u _;exact u
   ·cases g
  refine wpList_plain u λKK A=>c0E R.inv z (λb=>by obtain⟨t,H',side,g,C,_⟩:=hv b;exact⟨t,H',side,g,C⟩) λb t H' side v w' E' g N n I=>?_
  obtain⟨V,H2,B,j,_,e⟩:=hv b;rw[g] at j;simp only[X4,U1] at j;obtain⟨rfl,rfl,_⟩:=j;refine A _ _ (a3S U F M r _ [] _ E' _ _ e ⟨?_,?_,?_,N⟩)
  ·cases o.dst with
   |none=>exact R.defers
   |some d=>exact R.defers
  ·cases o.dst with
   |none=>exact R.size
   |some d=>simp[Act.put,R.size]
  ·cases hd:o.dst with
   |none=>exact R.slots.step n
   |some d=>
    rw[hd] at i;exact(R.slots.step n).put (by rfl) (by rw[R.size];exact zT i) I
theorem eK:∀{l:List Oper} {i:Nat} {r:Option Nat} {k:Nat},jY l i r=some k->(∀q,r=some q->q<i+l.length)->k<i+l.length
 | [],i,r,k,h,hr=>hr k h
 |o::l,i,r,k,h,hr=>by
  unfold jY at h;have:=eK h (λq Q=>by
   split at Q
   ·cases Q;omega
   ·have:=hr q Q;rw[List.length_cons] at this;omega)
  rw[List.length_cons];omega
theorem mL{x:FuncId×Con}:∀{G:I7},x ∈ a9T G->x ∈ G
 | [],h=>h
 |(_,c)::r,h=>by
  cases c<;>first
   |exact List.mem_cons_of_mem _ (mL h)
   |(rcases xX.1 h with rfl|h
     ·exact List.mem_cons_self
     ·exact List.mem_cons_of_mem _ (mL h))
theorem pU{x:FuncId×Con}:∀{G:I7},x ∈ a0W G->x ∈ G
 | [],h=>h
 |(_,c)::r,h=>by
  cases c<;>
   (rcases xX.1 h with rfl|h
    ·exact List.mem_cons_self
    ·first
     |exact List.mem_cons_of_mem _ (pU h)
     |exact List.mem_cons_of_mem _ (mL h))
theorem b2V{c:Ctx}{P:Program}{G:I7}{all:Array Oper}(M:P.follows .mixedOrders=true)(B:D1 P G)(C:∀x ∈ G,Q8 P x.1){id:Nat}{K:W7->Y5->Prop}{Q:Exit->Act->World->Prop}{s:W7}{H:Y5}(I:∀g H' A w',K g H'->kP c g H' A w'->Q .normal A w')
  {E:Env} {a:Act} {w:World} (h:qE P G c.nt all s H K) (R:RealE c E s [] H a w):(Code.region id all true).wp P Q a w:=by
 have one:a7G P G c.nt all s H K->(Code.region id all true).wp P Q a w:=λh=>wp_region_any M (a0p B C I h R)
 unfold qE at h;split at h
 ·exact one h
 ·split at h
  ·exact one h
  ·rename_i k hl;split at h
   ·exact one h
   ·rename_i L;have hF:=b72 L;have O:k<=all.size:=by
     have:=eK hl (λq U=>by cases U)
     simp at this;omega
    have z:(all.toList.take k).toArray.size=k:=by simp;omega
    have F:=a0p (Q:=λe a w=>match e with| .normal=>wpList P all Q (all.toList.drop k) a w|e=>Q e a w) (G:=a0W G) (λx X=>B x (pU X)) (λx X=>C x (pU X)) (λg H' A w' u r=>by
     obtain⟨E',l⟩:=r;exact b0a B C I u l) h R
    refine wp_region_draw λt=>?_
    simp only[Region.schedule,M,Bool.true_or,if_true];have N:=b7T (ops:=all) all.size t (Array.replicate all.size false) X3 (Nat.le_trans (List.length_filter_le _ _) X3)
    have d:∀(n j:Nat),(Array.replicate n false).getD j false=false:=λn j=>by
     simp only[Array.getD_eq_getD_getElem?,Array.getElem?_replicate]
     split<;>rfl
    obtain⟨L1,V,J⟩:=a7o hF O rfl _ _ (Array.replicate k false) X3 X3 (λj _=>by rw[d,d]) (λj _=>d _ _) (λj o f=>by have f:(Array.replicate all.size false).getD j false=true:=f;rw[d] at f;cases f) N
    show wpOps P all Q (Region.linearise.go .any all all.size t (Array.replicate all.size false) []) a _;rw[V];rw[z] at F;refine b2f hF (λj W=>by rw[List.getElem?_toArray,List.getElem?_take,if_pos W,Array.getElem?_toList]) z (λa w v=>?_) (λe a w i v=>?_) L1 _ (by rw[z];simp) J a _ (b7x L1 _ _ a _ F J)
    ·have e1:=wpOps_eq_wpList (P:=P) (ops:=all) (Q:=Q) (all.toList.drop k) k (λj=>by rw[List.getElem?_drop,Array.getElem?_toList])
     rw[List.length_drop,Array.length_toList] at e1;rw[e1];exact v
    ·cases e<;>first|exact absurd rfl i|exact v
def Sub(m:Nat)(σ σ':Sy):Prop:=∀c a w,c.m=m->kP c σ.s σ.H a w->kP c σ'.s σ'.H a w
section
variable {c:Ctx} {P:Program} {G:I7}
theorem b3F(M:P.follows .mixedOrders=true)(z:D1 P G)(j:∀x ∈ G,Q8 P x.1):∀(C:Code) (Q:Exit->Sy->Prop) (σ:Sy) (a:Act) (w:World),vc P G c.nt (Sub c.m) C Q σ->kP c σ.s σ.H a w->
  C.wp P (λe A w'=>∃σ',Q e σ'/\kP c σ'.s σ'.H A w') a w:=by
 intro C;induction C with
 |skip=>intro Q σ a w h hr;exact wp_skip ⟨σ,h,hr⟩
 |region id ops W=>
  intro Q σ a w h hr;simp only[vc] at h;split at h
  ·obtain⟨E,hE⟩:=hr;exact wp_region_list (a3S z j (λl H' A w' o d=>⟨⟨l,H'⟩,o,d⟩) _ _ _ _ E a w h hE)
  ·obtain⟨E,hE⟩:=hr;exact b2V M z j (λl H' A w' o d=>⟨⟨l,H'⟩,o,d⟩) h hE
 |seq x y X Y=>
  intro Q σ a w h hr;simp only[vc] at h;refine wp_seq (Code.wp_mono (λe A w' g=>?_) (X _ _ _ _ h hr))
  obtain⟨σ',hq,d⟩:=g;cases e with
  |normal=>exact Y _ _ _ _ hq d
  |_=>exact⟨σ',hq,d⟩
 |cond cd x y X Y=>
  intro Q σ a w h hr;simp only[vc] at h;split at h
  ·rename_i b hb;obtain⟨E,hE⟩:=hr;have hop:G7 E w a σ.s cd:=a1n λt ht=>hE.slots.on t (λq hq=>xI)
   unfold G7 at hop;rw[hb] at hop;refine wp_cond (t:=b) (u7 hop) ?_
   cases b with
   |true=>exact X _ _ _ _ (h.1 rfl) ⟨E,hE⟩
   |false=>exact Y _ _ _ _ (h.2 rfl) ⟨E,hE⟩
  ·exact h.elim
 |block id body r=>
  intro Q σ a w h hr;simp only[vc] at h;refine wp_block (Code.wp_mono (λe A w' g=>?_) (r _ _ _ _ h hr))
  obtain⟨σ',hq,d⟩:=g;cases e with
  |exit i=>
   simp only at hq;simp only[Exit.inBlock];split at hq
   ·rename_i hb;rw[if_pos (H4 hb)];exact⟨σ',hq,d⟩
   ·rename_i hb;rw[if_neg (Nat.ne_of_beq_eq_false hb)];exact⟨σ',hq,d⟩
  |_=>exact⟨σ',hq,d⟩
 |loop body r=>
  intro Q σ a w h hr;simp only[vc,b4p] at h;obtain⟨ι,I,μ,⟨v,F⟩,f⟩:=h;refine wp_loop_ghost (λn a w=>∃x,μ x=n/\kP c (I x).s (I x).H a w) (μ v) ⟨v,rfl,F c a w rfl hr⟩ λn a w J=>?_
  obtain⟨x,N,u⟩:=J;refine Code.wp_mono (λe A w' g=>?_) (r _ _ _ _ (f x) u)
  obtain⟨σ',hq,d⟩:=g;cases e with
  |normal=>
   obtain⟨y,L,B⟩:=hq;exact⟨μ y,Z9,y,rfl,L c A w' rfl d⟩
  |_=>exact⟨σ',hq,d⟩
 |exit id=>intro Q σ a w h hr;exact wp_exit ⟨σ,h,hr⟩
 |ret=>intro Q σ a w h hr;exact wp_ret ⟨σ,h,hr⟩
 |_=>intro Q σ a w h hr;simp[vc] at h
end
def RLe(r res:T):Prop:=∀E w v,Rd E w r v->Rd E w res v
theorem RLe.refl(r:T):RLe r r:=λ_ _ _ h=>h
section
variable {c:Ctx} {E:Env} {H:Y5} {w:World} {P:Program} {G:I7}
theorem a0u:∀(args:List T) (n i:Nat),b9 (rC n args) i=if n<=i then args.getD (i-n) .und else .und:=by
 intro args;induction args with
 |nil=>intro n i;simp[rC,b9]
 |cons x args ih=>
  intro n i;simp only[rC,b9];split
  ·rename_i h;obtain rfl:=H4 h;simp
  ·rename_i h;have hne:=Nat.ne_of_beq_eq_false h;rw[ih];by_cases h1:n<=i
   ·rw[if_pos h1,if_pos Z9,show i-n=(i- (n+1))+1 by omega]
    rfl
   ·rw[if_neg h1,if_neg Z9]
theorem dO(h:HeapOk E w H){t:TypeId}{x y:T}{v:Value}{side:Option Prop}(e:yL P H t x=some (y,side))(f:side.getD True)(hx:Rd E w x v):
  ∃r,(do loadVar t (←asAddr v):Sem Value).run P w= .ok r w/\Rd E w y r:=by
 obtain⟨r,R,Y⟩:=a9t h e f hx;refine⟨r,?_,Y⟩
 unfold yL at e;split at e
 ·cases hx with
  |bref _ b off u N g d i=>
   simp only[Instr.loadAt,Instr.sureAddr,asAddr,E9,B2,F4] at R ⊢;exact R
 ·cases hx with
  |ref _ _ _ L=>
   simp only[Instr.loadAt,Instr.sureAddr,asAddr,E9,B2,F4] at R ⊢;exact R
 ·cases hx with
  |pref _ _ _ _ _ _ _ L=>
   simp only[Instr.loadAt,Instr.sureAddr,asAddr,E9,B2,F4] at R ⊢;exact R
 ·cases e
def a7S(tmps:Array Value):ResultVar->Sem Value
 | .tmp t=>pure (tmps.getD t undef)
 | .cell a t=>do loadVar t (←asAddr (tmps.getD a undef))
theorem b1m(h:HeapOk E w H){s:W7}{tmps:Array Value}(l:∀i,Rd E w (b9 s i) (tmps.getD i undef)){v:ResultVar}{y:T}{side:Option Prop}(e:a1I P s H v=some (y,side))(d:side.getD True):
  ∃r,(a7S tmps v).run P w= .ok r w/\Rd E w y r:=by
 cases v with
 |tmp t=>
  simp only[a1I,X4,U1] at e;obtain⟨rfl,rfl⟩:=e;exact⟨_,rfl,l t⟩
 |cell a t=>exact dO h e d (l a)
theorem iL(h:HeapOk E w H){s:W7}{tmps:Array Value}(hsl:∀i,Rd E w (b9 s i) (tmps.getD i undef)):
  ∀{R:List ResultVar} {Y:List (T×Option Prop)},O3 (a1I P s H) R=some Y->(∀x ∈ Y,x.2.getD True)->
   ∃vs:List Value,(R.mapM (a7S tmps)).run P w= .ok vs w/\vs.length=Y.length/\∀(i:Nat) (y:T×Option Prop) (x:Value),Y[i]? =some y->vs[i]? =some x->Rd E w y.1 x:=by
 intro R;induction R with
 |nil=>
  intro Y hm _;simp only[O3,X4] at hm;subst hm;exact⟨[],rfl,rfl,λi y x hy=>by simp at hy⟩
 |cons v R I=>
  intro Y hm hs;simp only[O3] at hm;split at hm
  ·rename_i y ys' hy hys;simp only[X4] at hm;subst hm;obtain⟨r,hr,hrd⟩:=b1m h hsl (y:=y.1) (side:=y.2) hy (hs y X3)
   obtain⟨vs,e,l,t⟩:=I hys (λx X=>hs x (by simp[X]))
   refine⟨r::vs,?_,by simp[l],λi f x d X=>?_⟩
   ·simp only[List.mapM_cons,E9,hr,e,F4,B2]
   ·cases i with
    |zero=>simp at d X;subst d;subst X;exact hrd
    |succ i=>exact t i f x (by simpa using d) gB
  ·cases hm
theorem a2c(h:HeapOk E w H){s:W7}{tmps:Array Value}(hsl:∀i,Rd E w (b9 s i) (tmps.getD i undef)){fn:Func}{y:T}{side:Option Prop}(he:b6n P s H fn.results.toList=some (y,side))(hs:side.getD True):
  ∃r,(results fn tmps).run P w= .ok r w/\Rd E w y r:=by
 unfold b6n at he;have d:results fn tmps=(do
   let vs ←fn.results.mapM (a7S tmps)
   pure (if h:vs.size=1 then vs[0] else .tuple vs)):=by
  unfold results;congr 1
 rw[d,Array.mapM_eq_mapM_toList];split at he
 ·rename_i x hm;simp only[X4] at he;subst he;obtain⟨vs,hr,hl,ht⟩:=iL (P:=P) h hsl hm (λx hx=>by simp at hx;subst hx;exact hs)
  match vs,hl with
  | [r],_=>
   refine⟨r,?_,ht 0 _ r rfl rfl⟩
   simp only[map_eq_pure_bind,E9,hr,F4,B2];rfl
 ·rename_i xs hne hm;simp only[X4,U1] at he;obtain⟨rfl,rfl⟩:=he;obtain⟨vs,hr,hl,ht⟩:=iL (P:=P) h hsl hm (i3 hs);refine⟨.tuple vs.toArray,?_,?_⟩
  ·simp only[map_eq_pure_bind,E9,hr,F4,B2];have:¬vs.toArray.size=1:=by
    simp only[List.size_toArray,hl];intro e
    match xs,e with
    | [x],_=>exact hne x rfl
   rw[dif_neg this]
  ·refine .tup _ _ (by simp[hl]) λi t x hi hx=>?_
   simp only[pH,G8,List.getElem?_toArray] at hi hx
   obtain⟨y,Y,rfl⟩:=hi;exact ht i y x Y hx
 ·cases he
theorem sR{p:Option Prop}{q:Prop}(h:dV p q):p.getD True/\q:=by
 cases p with
 |none=>exact⟨trivial,h⟩
 |some p=>exact h
theorem a8b{vs:Array Value}{args:List T}{nt:Nat}(e:∀k,¬E.L k/\∀v,¬E.L2 k v)(f:∀b,E.N b->b<w.heap.size)(A:uJ E w args vs)(t:args.length<=nt):
  RealE ⟨w,λ_=>False,E.N,nt,E,0⟩ E (rC 0 args) [] [] {tmps:=vs++Array.replicate (nt-vs.size) undef,defers:=[]} w:=by
 have n:args.length=vs.size:=A.1;refine⟨rfl,I0,⟨λi _=>?_,λi hi=>absurd (λq Q=>oE) hi⟩,⟨⟨λk ob d=>aS,λk k' ob o b d=>aS,λk d=>absurd d (e k).1,λk v hv=>absurd hv ((e k).2 v),λk ob v d=>aS⟩,
  f,λb B=>.inl B,λk ob b d=>aS,⟨rfl,rfl,rfl,U9 _,λ_ _ _=>rfl⟩,⟨λ_ h=>h,λ_ h=>absurd h (J9 _),λ_ _=>rfl,λ_ _ h=>absurd h (J9 _)⟩⟩⟩
 rw[a0u,if_pos (N7 _),Nat.sub_zero];simp only[Q2,Array.getD_eq_getD_getElem?,Array.getElem?_append]
 by_cases hi:i<vs.size
 ·rw[if_pos hi,J5 Z9,vM hi]
  exact A.2 i _ _ (J5 Z9) (vM hi)
 ·rw[List.getElem?_eq_none Z9]
  exact .und _
theorem c0K(M:P.follows .mixedOrders=true)(l:D1 P G)(d:∀x ∈ G,Q8 P x.1){f:FuncId}{fn:Func}{C:Code}{args:List T}{res:T}(F:P.funcs[f]? =some fn)(hb:fn.body=some C)(t:args.length<=fn.ntmps)
  (h:vc P G fn.ntmps (Sub 0) C (b4m P fn.results.toList λr=>RLe r res) ⟨rC 0 args,[]⟩):V2 P f args res:=by
 intro E w vs L o g;have z:vs.size=args.length:=g.1.symm;refine calls_of_wp F hb (Code.wp_mono (λe A w' j=>?_) (b3F (c:=⟨w,λ_=>False,E.N,fn.ntmps,E,0⟩) M l d C _ _ _ w h ⟨E,a8b L o g t⟩))
 obtain⟨σ',hq,E',hr⟩:=j;have n:b4m P fn.results.toList (λr=>RLe r res) .ret σ'->A.defers=[]/\∃v,(results fn A.tmps).run P w'= .ok v w'/\
   ∃v',Ending.returned v= .returned v'/\Below w.heap.size w w'/\Rd (E.addN λb=>w.heap.size<=b/\b<w'.heap.size) w' res v':=by
  intro hq;refine⟨hr.defers,?_⟩
  simp only[b4m] at hq;split at hq
  ·rename_i r p hres;split at hq
   ·rename_i r' p' hbor;obtain⟨hp,hq⟩:=sR hq;obtain⟨hp',hle⟩:=sR hq;obtain⟨v,hrun,hrd⟩:=a2c (P:=P) hr.inv.heap (λi=>hr.slots.on i (λq hq=>xI)) hres hp
    have hI:=hr.inv;refine⟨v,hrun,v,rfl,⟨hI.fr.os,hI.fr.tape,hI.fr.output,hI.fr.size,λb hb=>hI.fr.block b hb (λh=>h)⟩,?_⟩
    refine hle _ _ _ (Rd.mono (E:=E'.lent 0 σ'.H) (w:=w') ⟨λb hb=>?_,λ_ h=>absurd h.2 (J9 _),λ_ h=>absurd h.2 (J9 _),λ_ h=>absurd h.2 (J9 _),λ_ h=>absurd h.2 (J9 _),λ_ _ h=>absurd h.2 (J9 _),λ_ _ _ _ h=>absurd h.2 (J9 _),λ_ _ _ _ h=>absurd h.2 (J9 _)⟩ (λ_ _=>rfl) (s9 hI 6 hbor hp' hrd))
    rcases hb with hb|⟨k,ob,_,hk,hb⟩
    ·rcases hI.nnew b hb with h1|h1|h1
     ·exact .inl h1
     ·exact .inr ⟨h1,hI.nlt b hb⟩
     ·exact h1.elim
    ·rcases hI.bnew k ob b hk hb with h1|h1
     ·exact .inr ⟨h1,hI.heap.blt hk hb⟩
     ·exact h1.elim
   ·exact hq.elim
  ·exact hq.elim
 cases e with
 |normal=>exact n hq
 |ret=>exact n hq
 |_=>exact hq.elim
end
def L6(ρ:Nat->Option Nat)(t e:T):Prop:=∃d t'',S5 ρ d e=some t''/\RLe t t''
inductive OLe(ρ:Nat->Option Nat):Ob->Ob->Prop
 |mp (bo:Bool) (get get':Int->Int) (h:∀n,get n=get' n):OLe ρ (.mp bo get) (.mp bo get')
 |mp2 (get get':Int->Int->Bool) (h:∀a b,get a b=get' a b):OLe ρ (.mp2 get) (.mp2 get')
 |bys (ty ty':TypeId) (l:Bz):OLe ρ (.bys ty l) (.bys ty' l)
 |fam (v:Nat) (ty ty':TypeId) (sz n:Nat) (row row':Nat->List T) (h:V3 n row row'):OLe ρ (.fam v ty sz n row) (.fam v ty' sz n row')
 |same (ty ty':TypeId) (sz n:Nat) (row row':Nat->List T) (h:∀i,i<n->row i=row' i):OLe ρ (.arr true ty sz n row) (.arr true ty' sz n row')
 |ren (cl cl':Bool) (ty ty':TypeId) (sz n:Nat) (row row':Nat->List T) (hc:cl'=true->cl=true/\∀i,i<n->row i=row' i) (h:∀i,i<n->O3 (S5 ρ 6) (row' i)=some (row i)):OLe ρ (.arr cl ty sz n row) (.arr cl' ty' sz n row')
 |box (cl cl':Bool) (ty ty':TypeId) (sz:Nat) (row row':Nat->List T) (h1:∀t ∈ row' 0,J1 t=true) (hc:cl'=true->∀t ∈ row' 0,W9 t=true) (hl:(row 0).length=(row' 0).length) (h:∀(j:Nat) (a b:T),(row 0)[j]? =some a->(row' 0)[j]? =some b->L6 ρ a b):OLe ρ (.arr cl ty sz 1 row) (.arr cl' ty' sz 1 row')
section
variable {c:Ctx} {E:Env} {H H':Y5} {w:World} {ρ:Nat->Option Nat} {len:Nat}
theorem a8R(hlt:∀k m,ρ k=some m->k<H'.length)(af:∀k k' m,(Z0 H' k).isSome=true->(Z0 H' k').isSome=true->ρ k=some m->ρ k'=some m->k=k')
  (hH:∀k ob',Z0 H' k=some ob'->∃m ob,ρ k=some m/\Z0 H m=some ob/\OLe ρ ob ob') (hid:∀k,k<c.m->ρ k=some k) (h:Inv c E H w):Inv c (E.ren ρ H'.length) H' w:=by
 have e:∀{k:Nat} {ob':Ob} {b:Nat},Z0 H' k=some ob'->C1 (E.ren ρ H'.length) k ob' b->∃m ob,ρ k=some m/\Z0 H m=some ob/\C1 E m ob b:=by
  intro k ob' b hk B;obtain⟨m,ob,hm,hob,hle⟩:=hH k ob' hk;refine⟨m,ob,hm,hob,?_⟩
  rcases B with⟨F,rfl⟩|⟨v,ty,sz,n,row,i,j,an,ah,on,ad,rfl,hi,hj,Q,rfl⟩
  ·simp only[Env.ren,hm,Option.getD_some] at F ⊢;exact .inl ⟨F,rfl⟩
  ·cases hle with
   |fam v q g sz n R qQ M=>
    have:=((jP (E:=E) (w:=w) (k:=m) (o:=.fam v q sz n R) (o':=.fam v ty sz n row) (by simp only[a2W,show Nat.beq sz sz=true from Nat.beq_refl sz];exact⟨trivial,trivial,M⟩) (h.heap.live m _ hob).2.1).2.1 (E.b2 m v i j)).1
    simp only[Env.ren,hm,Option.getD_some] at Q ⊢;exact this (.inr ⟨v,ty,sz,n,row,i,j,an,ah,on,ad,rfl,hi,hj,Q,rfl⟩)
 refine⟨⟨λk ob' hk=>?_,λk k' o o' b hk hk' B ap=>?_,λk hk=>hk.1,λk v hv=>(by obtain⟨g1,m,g2,g3⟩:=hv;exact⟨g1,m,g2,h.heap.l2 _ _ g3⟩),λk ob' v hk hv=>?_⟩,h.nlt,h.nnew,λk ob' b hk B=>?_,h.fr,⟨h.keep.N,λk hk hL=>?_,h.keep.same,λk v hk hv=>?_⟩⟩
 ·obtain⟨m,ob,hm,hob,hle⟩:=hH k ob' hk;obtain⟨hL,X,hN⟩:=h.heap.live m ob hob;have ak:∀b,C1 (E.ren ρ H'.length) k ob' b->¬ (E.ren ρ H'.length).N b:=λb B V=>by
   obtain⟨m2,ob2,_,g1,g2⟩:=e hk B;exact(h.heap.live m2 ob2 g1).2.2 b g2 V
  have B:(E.ren ρ H'.length).β k=E.β m:=a4H
  have hκ:(E.ren ρ H'.length).κ k=E.κ m:=a4H
  have J:(E.ren ρ H'.length).z k=E.z m:=a4H
  refine⟨⟨hlt k m hm,m,hm,hL⟩,?_,ak⟩
  cases hle with
  |mp bo get O hg=>
   obtain rfl:get=O:=funext hg;obtain⟨U,es,C,F,h2⟩:=X;exact(⟨by rw[hκ];exact U,es,C,by rw[B];exact F,h2⟩:a93 _ _ _ _ _)
  |mp2 get O hg=>
   obtain rfl:get=O:=funext λa=>funext (hg a)
   obtain⟨U,es,C,F,h2⟩:=X;exact(⟨by rw[hκ];exact U,es,C,by rw[B];exact F,h2⟩:a03 _ _ _ _)
  |fam v q g sz n R qQ M=>
   have hF:FamOk E w m v q sz n R:=X;have aq:FamOk E w m v g sz n qQ:=(jP (E:=E) (w:=w) (k:=m) (o:=.fam v q sz n R) (o':=.fam v g sz n qQ) (by simp only[a2W,show Nat.beq sz sz=true from Nat.beq_refl sz];exact⟨trivial,trivial,M⟩) X).1
   exact(FamOk.ren (E2:=E.ren ρ H'.length) (w':=w) aq (eP _) (λt x _ ht hx=>Rd.closed (E:=E) (E':=E.ren ρ H'.length) (λ_ h=>h) hx ht) B hκ J ⟨hlt k m hm,m,hm,hF.l2⟩ (λi j=>a4H) (λi j=>a4H) (λ_ _=>rfl):FamOk _ _ _ _ _ _ _ _)
  |bys q g l=>
   obtain⟨hz,V,hl,f,r,cs,ty,e,Z,Q⟩:=X;show T3 _ _ _ _;unfold T3;rw[B,hκ,J];simp only[Ob.toArr] at*;refine⟨hz,V,hl,f,r,cs,ty,e,Z,λi j t hi hj=>?_⟩
   obtain⟨u,hu,M⟩:=Q i j t hi hj;exact⟨u,hu,Rd.closed (E:=E) (E':=E.ren ρ H'.length) (λ_ h=>h) M (r trivial i t hi (A6 hj))⟩
  |same q g sz n row row' W=>
   obtain⟨hz,V,hl,f,r,cs,ty,e,Z,Q⟩:=X;show T3 _ _ _ _;unfold T3;rw[B,hκ,J];simp only[Ob.toArr] at*;refine⟨hz,V,λi hi=>by rw[←W i hi];exact hl i hi,λi t hi ht=>f i t hi (by rw[W i hi];exact ht),λ_ i t hi ht=>r trivial i t hi (by rw[W i hi];exact ht),cs,ty,e,Z,λi j t hi hj=>?_⟩
   rw[←W i hi] at hj;obtain⟨u,hu,M⟩:=Q i j t hi hj;exact⟨u,hu,Rd.closed (E:=E) (E':=E.ren ρ H'.length) (λ_ h=>h) M (r trivial i t hi (A6 hj))⟩
  |ren am ao q g sz n row row' aa W=>
   obtain⟨hz,V,hl,f,r,cs,ty,e,Z,Q⟩:=X;show T3 _ _ _ _;unfold T3;rw[B,hκ,J];simp only[Ob.toArr] at*;have Y:∀i,i<n->(row' i).length=(row i).length:=λi hi=>(K8 (W i hi)).1.symm
   have A:∀(i j:Nat) (t:T),i<n->(row' i)[j]? =some t->∃I:T,(row i)[j]? =some I/\S5 ρ 6 t=some I:=by
    intro i j t hi hj;have hlt:j<(row i).length:=by rw[←Y i hi];exact(x7.1 hj).1
    exact⟨_,J5 hlt,(K8 (W i hi)).2 j t _ hj (J5 hlt)⟩
   refine⟨hz,V,λi hi=>by rw[Y i hi];exact hl i hi,λi t hi ht=>?_,λab i t hi ht=>?_,cs,ty,e,Z,λi j t hi hj=>?_⟩
   ·obtain⟨j,hj⟩:=List.getElem?_of_mem ht
    obtain⟨I,U,F⟩:=A i j t hi hj;exact b6G F (f i I hi (A6 U))
   ·obtain⟨e1,e2⟩:=aa ab;exact r e1 i t hi (by rw[e2 i hi];exact ht)
   ·obtain⟨I,U,F⟩:=A i j t hi hj;obtain⟨u,hu,M⟩:=Q i j I hi U;exact⟨u,hu,Rd.ren hlt 6 F M⟩
  |box am ao q g sz row row' F aa ae al=>
   obtain⟨hz,V,hl,f,r,cs,ty,e,Z,Q⟩:=X;show T3 _ _ _ _;unfold T3;rw[B,hκ,J];simp only[Ob.toArr] at*;have A:∀(j:Nat) (t:T),(row' 0)[j]? =some t->∃I:T,(row 0)[j]? =some I/\L6 ρ I t:=by
    intro j t hj;have hlt:j<(row 0).length:=by rw[ae];exact(x7.1 hj).1
    exact⟨_,J5 hlt,al j _ t (J5 hlt) hj⟩
   refine⟨hz,V,λi hi=>?_,λi t hi ht=>?_,λab i t hi ht=>?_,cs,ty,e,Z,λi j t hi hj=>?_⟩
   ·obtain rfl:i=0:=by omega
    rw[←ae];exact hl 0 hi
   ·obtain rfl:i=0:=by omega
    exact F t ht
   ·obtain rfl:i=0:=by omega
    exact aa ab t ht
   ·obtain rfl:i=0:=by omega
    obtain⟨I,U,d,ar,ai,hle⟩:=A j t hj;obtain⟨u,hu,M⟩:=Q 0 j I hi U;exact⟨u,hu,Rd.ren hlt d ai (hle _ _ _ M)⟩
 ·obtain⟨m,ob,hm,hob,hx⟩:=e hk B;obtain⟨m',ob',aj,ac,ag⟩:=e hk' ap;have:m=m':=h.heap.inj m m' ob ob' b hob ac hx ag;subst this;exact af k k' m (by rw[hk];rfl) (by rw[hk'];rfl) hm aj
 ·obtain⟨m,ob,hm,hob,hle⟩:=hH k ob' hk;obtain⟨_,m2,hm2,hv⟩:=hv;rw[hm] at hm2;simp only[X4] at hm2;subst hm2;obtain⟨v0,ty,sz,n,row,rfl,hle2⟩:=h.heap.cur m ob v hob hv;cases hle with
  |fam _ _ g _ _ _ qQ _=>exact⟨v0,g,sz,n,qQ,rfl,hle2⟩
 ·obtain⟨m,ob,hm,hob,hx⟩:=e hk B;exact h.bnew m ob b hob hx
 ·obtain⟨l1,l2,l3,l4⟩:=h.keep.L k hk hL;have hk':=hid k hk;refine⟨⟨hlt k k hk',k,hk',l1⟩,?_,?_,?_⟩<;>simp only[Env.ren,hk',Option.getD_some]<;>assumption
 ·obtain⟨l1,l2⟩:=h.keep.L2 k v hk hv;have hk':=hid k hk;refine⟨⟨hlt k k hk',k,hk',l1⟩,λi j=>?_⟩
  simp only[Env.ren,hk',Option.getD_some];exact l2 i j
theorem b5O{s e:W7}{a:Act}(f:∀k m,ρ k=some m->k<H'.length)(J:∀k k' m,(Z0 H' k).isSome=true->(Z0 H' k').isSome=true->ρ k=some m->ρ k'=some m->k=k')
  (u:∀p ∈ e,L6 ρ (b9 s p.1) p.2) (v:∀k ob',Z0 H' k=some ob'->∃m ob,ρ k=some m/\Z0 H m=some ob/\OLe ρ ob ob') (r:∀k,k<c.m->ρ k=some k) (h:kP c s H a w):kP c e H' a w:=by
 obtain⟨E,g⟩:=h;refine⟨E.ren ρ H'.length,g.defers,g.size,⟨λi _=>?_,λi hi=>absurd (λq Q=>oE) hi⟩,a8R f J v r g.inv⟩
 ·have l:b9 e i= .und∨(i,b9 e i) ∈ e:=by
   rename_i n;clear u n;induction e with
   |nil=>exact .inl rfl
   |cons x e ih=>
    obtain⟨j,t⟩:=x;simp only[b9];split
    ·rename_i B;obtain rfl:=H4 B;exact .inr X3
    ·rcases ih with h|h
     ·exact .inl h
     ·exact .inr eZ
  rcases l with h|h
  ·rw[h];exact .und _
  ·obtain⟨d,z,R,o⟩:=u _ h;exact Rd.ren f d R (o _ _ _ (g.slots.on i (λq Q=>oE)))
def v6:List (Option Nat)->Nat->Option Nat
 | [],_=>none
 |m::_,0=>m
 |_::r,k+1=>v6 r k
def memO(m:Nat):List (Option Nat)->Bool
 | []=>false
 |none::r=>memO m r
 |some k::r=>Nat.beq m k||memO m r
def a11:List (Option Nat)->Bool
 | []=>true
 |none::r=>a11 r
 |some m::r=> !memO m r&&a11 r
def a42:List (Option Nat)->Y5->List (Option Nat)
 |x::r,some _::H=>x::a42 r H
 |_::r,none::H=>none::a42 r H
 |_,_=>[]
theorem c2F:∀{l:List (Option Nat)} {k m:Nat},v6 l k=some m->k<l.length:=by
 intro l;induction l with
 |nil=>intro k m h;simp[v6] at h
 |cons x l i=>
  intro k m h;cases k with
  |zero=>simp
  |succ k=>simp only[v6] at h;have:=i h;simp;omega
theorem a9a:∀{l:List (Option Nat)} {k m:Nat},v6 l k=some m->memO m l=true:=by
 intro l;induction l with
 |nil=>intro k m h;simp[v6] at h
 |cons x l i=>
  intro k m h;cases k with
  |zero=>simp only[v6] at h;subst h;simp[memO]
  |succ k=>simp only[v6] at h;have:=i h;cases x<;>simp[memO,this]
theorem b9s:∀{l:List (Option Nat)},a11 l=true->∀k k' m,v6 l k=some m->v6 l k'=some m->k=k':=by
 intro l;induction l with
 |nil=>intro _ k k' m h;simp[v6] at h
 |cons x l i=>
  intro B k k' m h d;have L:a11 l=true:=by
   cases x with
   |none=>exact B
   |some m=>simp only[a11,M1] at B;exact B.2
  cases k with
  |zero=>
   cases k' with
   |zero=>rfl
   |succ k'=>
    simp only[v6] at h d;subst h;simp only[a11,M1] at B;rw[a9a d] at B;simp at B
  |succ k=>
   cases k' with
   |zero=>
    simp only[v6] at h d;subst d;simp only[a11,M1] at B;rw[a9a h] at B;simp at B
   |succ k'=>
    simp only[v6] at h d;rw[i L k k' m h d]
theorem aJ:∀{l:List (Option Nat)} {H:Y5} {k m:Nat},(Z0 H k).isSome=true->v6 l k=some m->v6 (a42 l H) k=some m:=by
 intro l;induction l with
 |nil=>intro H k m _ h;simp[v6] at h
 |cons x l i=>
  intro H k m O h;cases H with
  |nil=>simp[Z0] at O
  |cons o H=>
   cases k with
   |zero=>
    cases o with
    |none=>simp[Z0] at O
    |some o=>exact h
   |succ k=>
    have d:(Z0 H k).isSome=true:=by simpa[Z0] using O
    have e:v6 l k=some m:=h;cases o<;>exact i d e
theorem b7e{l:List (Option Nat)}{H:Y5}(h:a11 (a42 l H)=true)(k k' m:Nat)(o:(Z0 H k).isSome=true)(d:(Z0 H k').isSome=true)(e:v6 l k=some m)(f:v6 l k'=some m):k=k':=
 b9s h k k' m (aJ o e) (aJ d f)
theorem Sub.refl(m:Nat)(σ:Sy):Sub m σ σ:=λ_ _ _ _ h=>h
theorem b0p:∀{d:Nat} {t e:T},S5 ρ d t=some e->S5 ρ (d+1) t=some e:=by
 have L:∀{f g:T->Option T},(∀a b,f a=some b->g a=some b)->∀{l q:List T},O3 f l=some q->O3 g l=some q:=by
  intro f g h l;induction l with
  |nil=>intro q Q;exact Q
  |cons x l i=>
   intro q Q;simp only[O3] at Q ⊢;split at Q
   ·rename_i B r;rw[h _ _ B,i r];exact Q
   ·cases Q
 intro d;induction d with
 |zero=>intro t e h;simp[S5] at h
 |succ d i=>
  intro t e h;unfold S5 at h ⊢;split at h
  ·exact h
  ·exact h
  ·exact h
  ·exact h
  ·exact h
  ·simp only[G8] at h ⊢;obtain⟨a,A,rfl⟩:=h;exact⟨a,L (λa b B=>i B) A,rfl⟩
  ·simp only[G8] at h ⊢;obtain⟨a,A,rfl⟩:=h;exact⟨a,L (λa b B=>i B) A,rfl⟩
  ·simp only[G8] at h ⊢;obtain⟨a,A,rfl⟩:=h;exact⟨a,L (λa b B=>i B) A,rfl⟩
  ·exact h
theorem a94{d e:Nat}(f:d<=e){t g:T}(h:S5 ρ d t=some g):S5 ρ e t=some g:=by
 induction f with
 |refl=>exact h
 |step _ i=>exact b0p i
theorem a2A{p:Prop}(h:p:=by rw[h];exact RLe.refl _):p:=h
theorem L6.int{k:IntKind}{a b:Int}(h:a=b):L6 ρ (.int k a) (.int k b):=⟨1,_,rfl,a2A⟩
theorem L6.bool{a b:Bool}(h:a=b):L6 ρ (.bool a) (.bool b):=⟨1,_,rfl,a2A⟩
theorem L6.str{a b:Bz}(h:a=b):L6 ρ (.str a) (.str b):=⟨1,_,rfl,a2A⟩
theorem L6.bys{a b:Bz}(h:a=b):L6 ρ (.bys a) (.bys b):=⟨1,_,rfl,a2A⟩
theorem L6.v{x y:Value}(h:x=y):L6 ρ (.v x) (.v y):=⟨1,_,rfl,a2A⟩
theorem L6.slNil{sz n:Nat}{row:Nat->List T}(h:n=0):L6 ρ (.v (.slice none 0 0)) (.sl sz n row):=⟨1,_,rfl,by subst h;intro E w v x;cases x;exact .slNil _ _⟩
theorem L6.bysNil{l:Bz}(h:l=[]):L6 ρ (.v (.slice none 0 0)) (.bys l):=⟨1,_,rfl,by subst h;intro E w v x;cases x;exact .bysNil⟩
theorem L6.slE{sz n:Nat}{row:Nat->List T}(h:n=0):L6 ρ .emp (.sl sz n row):=⟨1,_,rfl,by subst h;intro E w v x;cases x with|emp a=>cases a with|none=>exact .slNil _ _|some a=>exact .slEmp _ _ _⟩
theorem L6.bysE{l:Bz}(h:l=[]):L6 ρ .emp (.bys l):=⟨1,_,rfl,by subst h;intro E w v x;cases x with|emp a=>cases a with|none=>exact .bysNil|some a=>exact .bysEmp _⟩
theorem L6.sl{sz n m:Nat}{row row':Nat->List T}(N:n=m)(h:∀i,i<n->row i=row' i):L6 ρ (.sl sz n row) (.sl sz m row'):=by
 subst N;refine⟨1,_,rfl,λE w v x=>?_⟩
 cases x with
 |slNil=>exact .slNil _ _
 |slEmp=>exact .slEmp _ _ _
 |sl _ _ _ b off cap u o e f l q g=>
  exact .sl _ _ _ b off cap u o e (λi hi=>by rw[←h i hi];exact f i hi) (λi t hi d=>l i t hi (by rw[h i hi];exact d)) (λi j t hi d=>q i j t hi (by rw[h i hi];exact d)) (λi j t hi d=>g i j t hi (by rw[h i hi];exact d))
theorem L6.osl{k m off o n N:Nat}(h:ρ k=some m)(O:off=o)(d:n=N):L6 ρ (.osl m off n) (.osl k o N):=by
 subst O;subst d;exact⟨1,.osl m off n,by simp[S5,h],RLe.refl _⟩
theorem L6.ref{k m i I j J:Nat}(h:ρ k=some m)(hi:i=I)(d:j=J):L6 ρ (.ref m i j) (.ref k I J):=by
 subst hi;subst d;exact⟨1,.ref m i j,by simp[S5,h],RLe.refl _⟩
theorem L6.posl{k m v V i I j J n N:Nat}(h:ρ k=some m)(hv:v=V)(hi:i=I)(d:j=J)(e:n=N):L6 ρ (.posl m v i j n) (.posl k V I J N):=by
 subst hv;subst hi;subst d;subst e;exact⟨1,.posl m v i j n,by simp[S5,h],RLe.refl _⟩
theorem L6.mpr{k m:Nat}(h:ρ k=some m):L6 ρ (.mpr m) (.mpr k):=⟨1,.mpr m,by simp[S5,h],RLe.refl _⟩
theorem L6.und(t:T):L6 ρ t .und:=⟨1,_,rfl,λ_ _ v _=>.und v⟩
def b2Y(ρ:Nat->Option Nat):List T->List T->Prop
 | [],[]=>True
 |a::r,b::q=>L6 ρ a b/\b2Y ρ r q
 |_,_=>False
theorem a1N:∀{as bs:List T},b2Y ρ as bs->∃d cs,O3 (S5 ρ d) bs=some cs/\as.length=cs.length/\∀(i:Nat) (a c:T),as[i]? =some a->cs[i]? =some c->RLe a c:=by
 have mono:∀{d e:Nat},d<=e->∀{l q:List T},O3 (S5 ρ d) l=some q->O3 (S5 ρ e) l=some q:=by
  intro d e g l;induction l with
  |nil=>intro q Q;exact Q
  |cons x l I=>
   intro q Q;simp only[O3] at Q ⊢;split at Q
   ·rename_i B r;rw[a94 g B,I r];exact Q
   ·cases Q
 intro as;induction as with
 |nil=>
  intro bs h;cases bs with
  |nil=>exact⟨0,[],rfl,rfl,λi a c A=>by simp at A⟩
  |cons=>exact h.elim
 |cons a as I=>
  intro bs h;cases bs with
  |nil=>exact h.elim
  |cons b bs=>
   obtain⟨⟨d,c,C,j⟩,o⟩:=h;obtain⟨e,cs,f,n,L⟩:=I o;refine⟨max d e,c::cs,?_,by simp[n],λi x z X Z=>?_⟩
   ·simp only[O3,a94 (Nat.le_max_left d e) C,mono (Nat.le_max_right d e) f]
   ·cases i with
    |zero=>simp at X Z;subst X;subst Z;exact j
    |succ i=>exact L i x z gB (by simpa using Z)
theorem L6.agg{as bs:List T}(h:b2Y ρ as bs):L6 ρ (.agg as) (.agg bs):=by
 obtain⟨d,cs,e,n,l⟩:=a1N h;refine⟨d+1,.agg cs,by simp[S5,e],λE w v X=>?_⟩
 cases X with
 |agg _ vs L f=>
  refine .agg _ vs Z9 λi c x C X=>?_
  have t:i<as.length:=by rw[n];exact(x7.1 C).1
  exact l i _ c (J5 t) C _ _ _ (f i _ x (J5 t) X)
theorem L6.tup{as bs:List T}(h:b2Y ρ as bs):L6 ρ (.tup as) (.tup bs):=by
 obtain⟨d,cs,e,n,l⟩:=a1N h;refine⟨d+1,.tup cs,by simp[S5,e],λE w v X=>?_⟩
 cases X with
 |tup _ vs L f=>
  refine .tup _ vs Z9 λi c x C X=>?_
  have t:i<as.length:=by rw[n];exact(x7.1 C).1
  exact l i _ c (J5 t) C _ _ _ (f i _ x (J5 t) X)
theorem L6.fn{f:Fn}{as bs:List T}(h:b2Y ρ as bs):L6 ρ (.fn f as) (.fn f bs):=by
 obtain⟨d,cs,e,n,l⟩:=a1N h;refine⟨d+1,.fn f cs,by simp[S5,e],λE w v X=>?_⟩
 cases X with
 |fn _ _ vs L g=>
  refine .fn _ _ vs Z9 λi c x C X=>?_
  have t:i<as.length:=by rw[n];exact(x7.1 C).1
  exact l i _ c (J5 t) C _ _ _ (g i _ x (J5 t) X)
theorem b6l:∀{d:Nat} {t f:T},S5 (λ_=>none) d t=some f->f=t:=by
 intro d;induction d with
 |zero=>intro t f h;simp[S5] at h
 |succ d I=>
  have L:∀{l q:List T},O3 (S5 (λ_=>none) d) l=some q->q=l:=by
   intro l;induction l with
   |nil=>intro q Q;simpa[O3] using Q.symm
   |cons x l i=>
    intro q Q;simp only[O3] at Q;split at Q
    ·rename_i B r;simp only[X4] at Q;rw[←Q,I B,i r]
    ·cases Q
  intro t f h;unfold S5 at h;split at h
  ·simp at h
  ·simp at h
  ·simp at h
  ·simp at h
  ·simp at h
  ·simp only[G8] at h;obtain⟨cs,e,rfl⟩:=h;rw[L e]
  ·simp only[G8] at h;obtain⟨cs,e,rfl⟩:=h;rw[L e]
  ·simp only[G8] at h;obtain⟨cs,e,rfl⟩:=h;rw[L e]
  ·simp only[X4] at h;exact h.symm
theorem L6.rle{t e:T}(h:L6 (λ_=>none) t e):RLe t e:=by
 obtain⟨d,i,g,f⟩:=h;rw[b6l g] at f;exact f
def oY(ρ:Nat->Option Nat):Nat->T->T->Prop
 |0,t,t'=>L6 ρ t t'
 |d+1,t,t'=>
  match t,t' with
  |_,.und=>True
  | .int k a,.int k' b=>match decide (k=k') with|true=>a=b|false=>False
  | .bool a,.bool b=>a=b
  | .str a,.str b=>a=b
  | .bys a,.bys b=>a=b
  | .v x,.v y=>x=y
  | .v (.slice none 0 0),.sl _ n _=>n=0
  | .v (.slice none 0 0),.bys l=>l=[]
  | .emp,.sl _ n _=>n=0
  | .emp,.bys l=>l=[]
  | .emp,.emp=>True
  | .sl sz n row,.sl sz' m row'=>match Nat.beq sz sz' with|true=>n=m/\Z7 n row row'|false=>False
  | .osl m off n,.osl k off' n'=>match ρ k with
   |some M=>match Nat.beq m M with|true=>off=off'/\n=n'|false=>False
   |none=>False
  | .ref m i j,.ref k i' j'=>match ρ k with
   |some M=>match Nat.beq m M with|true=>i=i'/\j=j'|false=>False
   |none=>False
  | .mpr m,.mpr k=>match ρ k with
   |some M=>match Nat.beq m M with|true=>True|false=>False
   |none=>False
  | .posl m v i j n,.posl k v' i' j' n'=>match ρ k with
   |some M=>match Nat.beq m M with|true=>v=v'/\i=i'/\j=j'/\n=n'|false=>False
   |none=>False
  | .agg as,.agg bs=>tlesV (oY ρ d) as bs
  | .tup as,.tup bs=>tlesV (oY ρ d) as bs
  | .fn f as,.fn g bs=>f=g/\tlesV (oY ρ d) as bs
  |t,t'=>L6 ρ t t'
where
 tlesV (f:T->T->Prop):List T->List T->Prop
 | [],[]=>True
 |a::r,b::q=>f a b/\tlesV f r q
 |_,_=>False
theorem pA:∀{d:Nat} {t e:T},oY ρ d t e->L6 ρ t e:=by
 intro d;induction d with
 |zero=>intro t e h;exact h
 |succ d I=>
  have l:∀{as bs:List T},oY.tlesV (oY ρ d) as bs->b2Y ρ as bs:=by
   intro as;induction as with
   |nil=>intro bs h;cases bs<;>exact h
   |cons a as i=>
    intro bs h;cases bs with
    |nil=>exact h
    |cons b bs=>exact⟨I h.1,i h.2⟩
  intro t e h;unfold oY at h;split at h
  ·exact L6.und _
  ·split at h
   ·rename_i f;rw[D4 f];exact L6.int h
   ·exact h.elim
  ·exact L6.bool h
  ·exact L6.str h
  ·exact L6.bys h
  ·exact L6.v h
  ·exact L6.slNil h
  ·exact L6.bysNil h
  ·exact L6.slE h
  ·exact L6.bysE h
  ·exact⟨1,_,rfl,RLe.refl _⟩
  ·split at h
   ·rename_i B;rw[H4 B];exact L6.sl h.1 h.2
   ·exact h.elim
  ·split at h
   ·rename_i hr;split at h
    ·rename_i B;rw[H4 B];exact L6.osl hr h.1 h.2
    ·exact h.elim
   ·exact h.elim
  ·split at h
   ·rename_i hr;split at h
    ·rename_i B;rw[H4 B];exact L6.ref hr h.1 h.2
    ·exact h.elim
   ·exact h.elim
  ·split at h
   ·rename_i hr;split at h
    ·rename_i B;rw[H4 B];exact L6.mpr hr
    ·exact h.elim
   ·exact h.elim
  ·split at h
   ·rename_i hr;split at h
    ·rename_i B;rw[H4 B];exact L6.posl hr h.1 h.2.1 h.2.2.1 h.2.2.2
    ·exact h.elim
   ·exact h.elim
  ·exact L6.agg (l h)
  ·exact L6.tup (l h)
  ·obtain⟨rfl,h⟩:=h;exact L6.fn (l h)
  ·exact h
end
inductive Lk where
 |no
 |box (m:Nat)
 |arr (m:Nat)
 |ren (m:Nat)
 |nilC (k j:Nat) (ty:TypeId) (sz:Nat)
 |nilS (i:Nat) (p:List Nat) (ty:TypeId) (sz:Nat)
 |fam (k:Nat)
 |at_ (j:Nat)
 |frz (i:Nat)
 |cel (k j:Nat)
 |vl (i:Nat) (p:List Nat)
 |fav (i:Nat) (p:List Nat)
 |fac (k j:Nat)
def b6k(s:W7):List Lk->List Lk
 | []=>[]
 | .at_ j::r=>(match b9 s j with| .osl k _ _=>.arr k| .ref k _ _=>.arr k|_=>.no)::b6k s r
 |x::r=>x::b6k s r
def c1X:Option T->Bool
 |some (.v (.slice none 0 0))=>true
 |some .emp=>true
 |_=>false
def vG(k:Nat):List Nat->T->Option T
 | [],.v (.slice none 0 0)=>some (.osl k 0 0)
 | [],.emp=>some (.osl k 0 0)
 |j::p,.agg cs=>match cs[j]? with
  |some t=>(vG k p t).map λd=>.agg (cs.set j d)
  |none=>none
 |j::p,.tup cs=>match cs[j]? with
  |some t=>(vG k p t).map λd=>.tup (cs.set j d)
  |none=>none
 |_,_=>none
def b55(σ:Sy):Lk->Option Sy
 | .nilC k j ty sz=>match Z0 σ.H k with
  |some (.arr _ bty bsz n row)=>match n,c1X ((row 0)[j]?),Nat.beq sz 0 with
   |1,true,false=>some ⟨σ.s,(σ.H++[some (Ob.arr true ty sz 0 λ_=>[])]).set k (some (.arr false bty bsz 1 λ_=>(row 0).set j (.osl σ.H.length 0 0)))⟩
   |_,_,_=>none
  |_=>none
 | .nilS i p ty sz=>match vG σ.H.length p (b9 σ.s i),Nat.beq sz 0 with
  |some t,false=>some ⟨(i,t)::σ.s,σ.H++[some (.arr true ty sz 0 λ_=>[])]⟩
  |_,_=>none
 | .fam k=>match Z0 σ.H k with
  |some (.arr true ty sz n row)=>some ⟨σ.s,σ.H.set k (some (.fam 0 ty sz n row))⟩
  |_=>none
 | .frz i=>match N4 0 (I4 (m8 σ.H 64 (kQ [b9 σ.s i]) []) σ.H 0) 6 (b9 σ.s i) with
  |some (t,none)=>some ⟨(i,t)::σ.s,E7 σ.H (m8 σ.H 64 (kQ [b9 σ.s i]) [])⟩
  |_=>none
 |_=>some σ
def a8D:List Nat->T->Option Nat
 | [],.osl k _ _=>some k
 |j::p,.agg cs=>match cs[j]? with
  |some t=>a8D p t
  |none=>none
 |j::p,.tup cs=>match cs[j]? with
  |some t=>a8D p t
  |none=>none
 |_,_=>none
def c1F(H:Y5)(k j:Nat):Option Nat:=
 match Z0 H k with
 |some (.arr _ _ _ _ row)=>match(row 0)[j]? with
  |some (.osl m _ _)=>some m
  |_=>none
 |_=>none
def c5x(σ:Sy):Lk->Lk
 | .fav i p=>match a8D p (b9 σ.s i) with
  |some k=>.fam k
  |none=>.no
 | .fac k j=>match c1F σ.H k j with
  |some k=>.fam k
  |none=>.no
 |x=>x
def c5j(σ:Sy)(x:Lk):Option Sy:=b55 σ (c5x σ x)
def b1Q(σ:Sy):List Lk->Option Sy
 | []=>some σ
 |x::r=>match c5j σ x with
  |some σ'=>b1Q σ' r
  |none=>none
def Lk.isG:Lk->Bool
 | .nilC .. | .nilS .. | .fam _| .frz _| .fav .. | .fac .. =>true
 |_=>false
def a1m:List Lk->List Lk
 | []=>[]
 |x::r=>match x.isG with
  |true=>a1m r
  |false=>x::a1m r
def b39:Option Nat->Lk
 |some m=>.arr m
 |none=>.no
def dF(s:W7)(H:Y5):List Lk->List Lk
 | []=>[]
 | .cel k j::r=>b39 (c1F H k j)::dF s H r
 | .vl i p::r=>b39 (a8D p (b9 s i))::dF s H r
 |x::r=>x::dF s H r
def Lk.old:Lk->Option Nat
 | .no| .nilC .. | .nilS .. | .fam _| .at_ _| .frz _| .cel .. | .vl .. | .fav .. | .fac .. =>none
 | .box m| .arr m| .ren m=>some m
def B0:List Lk->List (Option Nat)
 | []=>[]
 |x::r=>x.old::B0 r
def xQ(ρ:Nat->Option Nat)(n:Nat)(row row':Nat->List T):Prop:=∀i,i<n->O3 (S5 ρ 6) (row' i)=some (row i)
def obV(ρ:Nat->Option Nat)(H:Y5)(lk:Lk)(o:Option Ob):Prop:=
 match o with
 |none=>True
 |some O=>match lk with
  | .no| .nilC .. | .nilS .. | .fam _| .at_ _| .frz _| .cel .. | .vl .. | .fav .. | .fac .. =>False
  | .box m=>match Z0 H m,O with
   |some (.arr _ _ sz n row),.arr cl' _ sz' n' row'=>match Nat.beq sz sz'&&(row' 0).all J1&&(!cl'||(row' 0).all W9) with
    |true=>n=1/\n'=1/\oY.tlesV (oY ρ 6) (row 0) (row' 0)
    |false=>False
   |_,_=>False
  | .arr m=>match Z0 H m,O with
   |some (.bys _ l),.bys _ l'=>l=l'
   |some (.arr true _ sz n row),.arr true _ sz' n' row'=>match Nat.beq sz sz' with
    |true=>n=n'/\Z7 n row row'
    |false=>False
   |some (.fam v _ sz n row),.fam v' _ sz' n' row'=>match Nat.beq sz sz' with
    |true=>v=v'/\n=n'/\V3 n row row'
    |false=>False
   |some (.mp bo get),.mp bo' get'=>match bo==bo' with
    |true=>∀n,get n=get' n
    |false=>False
   |some (.mp2 get),.mp2 get'=>∀a b,get a b=get' a b
   |_,_=>False
  | .ren m=>match Z0 H m,O with
   |some (.arr _ _ sz n row),.arr false _ sz' n' row'=>match Nat.beq sz sz' with
    |true=>n=n'/\xQ ρ n row row'
    |false=>False
   |_,_=>False
def a5P(ρ:Nat->Option Nat)(s:W7):W7->Prop
 | []=>True
 |(j,t)::r=>oY ρ 6 (b9 s j) t/\a5P ρ s r
def a8p(ρ:Nat->Option Nat)(H:Y5):List Lk->Y5->Prop
 | [],[]=>True
 |lk::l,o::r=>obV ρ H lk o/\a8p ρ H l r
 |_,_=>False
def idB:Nat->Nat->List (Option Nat)->Bool
 |0,_,_=>true
 |m+1,i,some k::r=>Nat.beq i k&&idB m (i+1) r
 |_+1,_,_=>false
def cW(m:Nat)(l:List Lk)(σ σ':Sy):Prop:=
 match b1Q σ l with
 |some σ=>match a11 (a42 (B0 (dF σ.s σ.H (a1m l))) σ'.H)&&idB m 0 (B0 (dF σ.s σ.H (a1m l))) with
  |true=>a5P (v6 (B0 (dF σ.s σ.H (a1m l)))) σ.s σ'.s/\a8p (v6 (B0 (dF σ.s σ.H (a1m l)))) σ.H (dF σ.s σ.H (a1m l)) σ'.H
  |false=>False
 |none=>False
def a4d(m:Nat)(l:Option (List Lk))(σ σ':Sy):Prop:=
 match l with
 |some l=>cW m l σ σ'
 |none=>False
def frz(H:Y5)(s:W7):List Nat->Option (W7×Option Prop)
 | []=>some ([],none)
 |i::r=>match N4 0 H 6 (b9 s i),frz H s r with
  |some (t,p),some (q,p')=>some ((i,t)::q,oH p p')
  |_,_=>none
inductive Ann:Type 1
 |none
 |unr (n:Nat) (sub:Nat->Nat->Ann)
 |one (ι:Type) (I:ι->Sy) (μ:ι->Nat) (lin lback:List Lk) (sub:ι->Nat->Ann)
 |onef (ks:List Nat) (ι:Type) (I:ι->Sy) (μ:ι->Nat) (lback:List Lk) (sub:ι->Nat->Ann)
 |two (ι₁ ι₂:Type) (I₁:ι₁->Sy) (I₂:ι₂->Sy) (μ₁:ι₁->Nat) (μ₂:ι₂->Nat) (l1 l2 l11 l12 l21 l22:Option (List Lk)) (sub₁:ι₁->Nat->Ann) (sub₂:ι₂->Nat->Ann)
def sW:Code->Nat
 | .seq a b=>sW a+sW b
 | .cond _ a b=>sW a+sW b
 | .block _ b=>sW b
 | .loop b=>sW b+1
 |_=>0
def a8d(step:Nat->(Sy->Prop)->Sy->Prop):Nat->Sy->Prop
 |0,_=>False
 |n+1,σ=>step n (a8d step n) σ
def cV(P:Program)(G:I7)(nt M:Nat):Code->Nat->(Exit->Sy->(Nat->Ann)->Prop)->Sy->(Nat->Ann)->Prop
 | .skip,_,Q,σ,A=>Q .normal σ A
 | .region _ ops draw,_,Q,σ,A=>match draw with
  |false=>yR P G nt ops ops.toList σ.s [] σ.H λs H=>Q .normal ⟨s,H⟩ A
  |true=>qE P G nt ops σ.s σ.H λs H=>Q .normal ⟨s,H⟩ A
 | .seq a b,k,Q,σ,A=>cV P G nt M a k (λe σ' A'=>match e with| .normal=>cV P G nt M b (k+sW a) Q σ' A'|e=>Q e σ' A') σ A
 | .cond c x y,k,Q,σ,A=>match L8 σ.s c with
  | .bool b=>(b=true->cV P G nt M x k Q σ A)/\(b=false->cV P G nt M y (k+sW x) Q σ A)
  |_=>False
 | .block id body,k,Q,σ,A=>cV P G nt M body k (λe σ' A'=>match e with| .exit i=>(match Nat.beq i id with|true=>Q .normal σ' A'|false=>Q (.exit i) σ' A')|e=>Q e σ' A') σ A
 | .loop body,k,Q,σ,A=>match A k with
  | .none=>False
  | .unr n sub=>a8d (λm next σ'=>cV P G nt M body (k+1) (λe σ'' A'=>match e with| .normal=>next σ''|e=>Q e σ'' A') σ' (sub m)) n σ
  | .one ι I μ lin lback sub=>(∃x,cW M (b6k σ.s lin) σ (I x))/\∀x:ι,cV P G nt M body (k+1) (λe σ' A'=>match e with| .normal=>∃y,cW M (b6k σ'.s lback) σ' (I y)/\Lt (μ y) (μ x)|e=>Q e σ' A') (I x) (sub x)
  | .onef ks ι I μ lback sub=>(match M,frz σ.H σ.s ks with
   |0,some (s',p)=>dV p (∃x,cW 0 [] ⟨s',[]⟩ (I x))
   |_,_=>False)/\∀x:ι,cV P G nt M body (k+1) (λe σ' A'=>match e with| .normal=>∃y,cW M (b6k σ'.s lback) σ' (I y)/\Lt (μ y) (μ x)|e=>Q e σ' A') (I x) (sub x)
  | .two ι₁ ι₂ I₁ I₂ μ₁ μ₂ l1 l2 l11 l12 l21 l22 sub₁ sub₂=>
   ((∃x,a4d M l1 σ (I₁ x))∨(∃x,a4d M l2 σ (I₂ x)))/\
   (∀x:ι₁,cV P G nt M body (k+1) (λe σ' A'=>match e with| .normal=>(∃y,a4d M l11 σ' (I₁ y)/\Lt (μ₁ y) (μ₁ x))∨(∃y,a4d M l12 σ' (I₂ y)/\Lt (μ₂ y) (μ₁ x))|e=>Q e σ' A') (I₁ x) (sub₁ x))/\
   (∀x:ι₂,cV P G nt M body (k+1) (λe σ' A'=>match e with| .normal=>(∃y,a4d M l21 σ' (I₁ y)/\Lt (μ₁ y) (μ₂ x))∨(∃y,a4d M l22 σ' (I₂ y)/\Lt (μ₂ y) (μ₂ x))|e=>Q e σ' A') (I₂ x) (sub₂ x))
 | .exit id,_,Q,σ,A=>Q (.exit id) σ A
 | .ret,_,Q,σ,A=>Q .ret σ A
 |_,_,_,_,_=>False
section
variable {P:Program} {G:I7} {nt m:Nat}
theorem b6x{ρ:Nat->Option Nat}{d:Nat}:∀{as bs:List T},oY.tlesV (oY ρ d) as bs->as.length=bs.length/\∀(j:Nat) (a b:T),as[j]? =some a->bs[j]? =some b->L6 ρ a b:=by
 intro as;induction as with
 |nil=>
  intro bs h;cases bs with
  |nil=>exact⟨rfl,λj a b A=>by simp at A⟩
  |cons=>exact h.elim
 |cons a as i=>
  intro bs h;cases bs with
  |nil=>exact h.elim
  |cons b bs=>
   obtain⟨f,e⟩:=i h.2;refine⟨by simp[f],λj x z X Z=>?_⟩
   cases j with
   |zero=>simp at X Z;subst X;subst Z;exact pA h.1
   |succ j=>exact e j x z gB (by simpa using Z)
theorem c2x{ρ:Nat->Option Nat}{H:Y5}{lk:Lk}{o:Ob}(h:obV ρ H lk (some o)):∃m ob,lk.old=some m/\Z0 H m=some ob/\OLe ρ ob o:=by
 unfold obV at h;split at h
 ·rename_i N;cases N
 ·rename_i ob hob;simp only[X4] at hob;subst hob;split at h
  iterate 10 exact h.elim
  ·split at h
   ·rename_i m _ _ cl ty sz n row cl' ty' sz' n' row' hm;split at h
    ·rename_i hb;simp only[M1,qR,xO] at hb;obtain⟨⟨f,e⟩,g⟩:=hb;obtain⟨rfl,rfl,h⟩:=h;obtain rfl:=H4 f;obtain⟨j,i⟩:=b6x h;exact⟨m,_,rfl,hm,.box cl cl' ty ty' sz row row' (λt d=>j8.1 e t d) (λC t d=>j8.1 (g.resolve_left (by simp[C])) t d) j i⟩
    ·exact h.elim
   ·exact h.elim
  ·split at h
   ·rename_i m _ _ ty l ty' L hm;subst h;exact⟨m,_,rfl,hm,.bys _ _ _⟩
   ·rename_i m _ _ ty sz n row ty' sz' n' row' hm;split at h
    ·rename_i hb;obtain⟨rfl,h⟩:=h;obtain rfl:=H4 hb;exact⟨m,_,rfl,hm,.same _ _ _ _ _ _ h⟩
    ·exact h.elim
   ·rename_i m _ _ v ty sz n row v' ty' sz' n' row' hm;split at h
    ·rename_i hb;obtain⟨rfl,rfl,h⟩:=h;obtain rfl:=H4 hb;exact⟨m,_,rfl,hm,.fam _ _ _ _ _ _ _ h⟩
    ·exact h.elim
   ·rename_i m _ _ bo get bo' get' hm;split at h
    ·rename_i hb;obtain rfl:bo=bo':=by simpa using hb
     exact⟨m,_,rfl,hm,.mp _ _ _ h⟩
    ·exact h.elim
   ·rename_i m _ _ get get' hm;exact⟨m,_,rfl,hm,.mp2 _ _ h⟩
   ·exact h.elim
  ·split at h
   ·rename_i m _ _ cl ty sz n row ty' sz' n' row' hm;split at h
    ·rename_i hb;obtain⟨rfl,h⟩:=h;obtain rfl:=H4 hb;exact⟨m,_,rfl,hm,.ren _ _ _ _ _ _ _ _ (λC=>by cases C) h⟩
    ·exact h.elim
   ·exact h.elim
theorem a3g{ρ:Nat->Option Nat}{H:Y5}:∀{l:List Lk} {H':Y5},a8p ρ H l H'->(B0 l).length=H'.length/\∀k O,Z0 H' k=some O->∃m ob,v6 (B0 l) k=some m/\Z0 H m=some ob/\OLe ρ ob O:=by
 intro l;induction l with
 |nil=>
  intro H' h;cases H' with
  |nil=>exact⟨rfl,λk O d=>aS⟩
  |cons=>exact h.elim
 |cons lk l i=>
  intro H' h;cases H' with
  |nil=>exact h.elim
  |cons o H'=>
   obtain⟨f,e⟩:=i h.2;refine⟨by simp[B0,f],λk O d=>?_⟩
   cases k with
   |zero=>
    have:o=some O:=a8k
    subst this;exact c2x h.1
   |succ k=>exact e k O a8k
theorem b2n{ρ:Nat->Option Nat}{s:W7}:∀{d:W7},a5P ρ s d->∀p ∈ d,L6 ρ (b9 s p.1) p.2:=by
 intro d;induction d with
 |nil=>intro _ p hp;cases hp
 |cons x d i=>
  intro h p hp;obtain⟨j,t⟩:=x;rcases xX.1 hp with rfl|hp
  ·exact pA h.1
  ·exact i h.2 p hp
theorem c4Q:∀{m i:Nat} {l:List (Option Nat)},idB m i l=true->∀k,k<m->v6 l k=some (i+k):=by
 intro m;induction m with
 |zero=>intro i l _ k d;omega
 |succ m I=>
  intro i l h k d;cases l with
  |nil=>simp[idB] at h
  |cons x l=>
   cases x with
   |none=>simp[idB] at h
   |some x=>
    simp only[idB,M1] at h;cases k with
    |zero=>simp only[v6];rw[←H4 h.1];rfl
    |succ k=>
     simp only[v6];rw[I h.2 k Z9]
     congr 1
     omega
theorem aV{c:Ctx}{E:Env}{H:Y5}{w:World}(h:Inv c E H w)(ty:TypeId)(sz:Nat):Inv c (E.push H.length 0 0 sz) (H++[some (.arr true ty sz 0 λ_=>[])]) w/\Step E w (E.push H.length 0 0 sz) w:=
 h.push (ob:=.arr true ty sz 0 λ_=>[]) rfl rfl rfl (U9 _) (λ_ _=>rfl) 0 0 #[] 0 (λh=>absurd rfl h) (λh=>absurd rfl h) X3 (U9 0) (λi hi=>absurd hi (J9 _)) (λi t hi=>absurd hi (J9 _)) (λ_ i t hi=>absurd hi (J9 _)) (λi j t hi=>absurd hi (J9 _))
theorem b7U{o:Option T}(h:c1X o=true):∃t,o=some t/\∀{E:Env} {w:World} {u:Value},Rd E w t u->∃a,u= .slice a 0 0:=by
 unfold c1X at h;split at h
 ·exact⟨_,rfl,λx=>⟨none,wV x⟩⟩
 ·exact⟨_,rfl,λx=>by cases x with|emp a=>exact⟨a,rfl⟩⟩
 ·cases h
theorem b0y{E:Env}{w:World}{k sz:Nat}(f:Step E w (E.push k 0 0 sz) w):∀(p:List Nat) {t e:T} {x:Value},vG k p t=some e->Rd E w t x->Rd (E.push k 0 0 sz) w e x:=by
 intro p;induction p with
 |nil=>
  intro t e x h hx;have key:(∃a,x= .slice a 0 0)/\e= .osl k 0 0:=by
   unfold vG at h;split at h
   ·simp only[X4] at h;exact⟨⟨none,wV hx⟩,h.symm⟩
   ·simp only[X4] at h;exact⟨by cases hx with|emp a=>exact⟨a,rfl⟩,h.symm⟩
   ·contradiction
   ·contradiction
   ·cases h
  obtain⟨⟨a,rfl⟩,rfl⟩:=key;exact a6o a
 |cons j p I=>
  intro t e x h hx;have l:∀{cs:List T} {vs:Array Value} {t0 t1:T},cs[j]? =some t0->vG k p t0=some t1->cs.length=vs.size->(∀(i:Nat) (t:T) (x:Value),cs[i]? =some t->vs[i]? =some x->Rd E w t x)->
    (cs.set j t1).length=vs.size/\∀(i:Nat) (t:T) (x:Value),(cs.set j t1)[i]? =some t->vs[i]? =some x->Rd (E.push k 0 0 sz) w t x:=by
   intro cs vs t0 t1 h0 h1 L d;refine⟨by simp[L],λi t x hi hx=>?_⟩
   rw[List.getElem?_set] at hi
   split at hi
   ·rename_i hji;subst hji;split at hi
    ·simp only[X4] at hi;subst hi;exact I h1 (d j t0 x h0 hx)
    ·cases hi
   ·exact f.rd (d i t x hi hx)
  cases t with
  |agg cs=>
   simp only[vG] at h;split at h
   ·rename_i t0 h0;simp only[G8] at h;obtain⟨t1,h1,rfl⟩:=h;cases hx with
    |agg _ vs L d=>obtain⟨A,g⟩:=l h0 h1 L d;exact .agg _ vs A g
   ·cases h
  |tup cs=>
   simp only[vG] at h;split at h
   ·rename_i t0 h0;simp only[G8] at h;obtain⟨t1,h1,rfl⟩:=h;cases hx with
    |tup _ vs L d=>obtain⟨A,g⟩:=l h0 h1 L d;exact .tup _ vs A g
   ·cases h
  |_=>simp[vG] at h
theorem c6Q{c:Ctx}{E:Env}{H:Y5}{w:World}(h:Inv c E H w){ks:List Nat}{t r:T}{x:Value}(B:N4 0 (I4 ks H 0) 6 t=some (r,none))(X:Rd E w t x):
  ∃E2,Inv c E2 (E7 H ks) w/\Step E w E2 w/\Rd E2 w r x:=by
 have e:Inv c E (I4 ks H 0) w:=by
  refine⟨⟨λk ob hk=>h.heap.live k ob (O2 hk).1,λk k' o o' b hk d=>h.heap.inj k k' o o' b (O2 hk).1 (O2 d).1,λk hk=>by rw[tN];exact h.heap.lt k hk,h.heap.l2,λk ob v hk=>h.heap.cur k ob v (O2 hk).1⟩,h.nlt,h.nnew,λk ob b hk=>h.bnew k ob b (O2 hk).1,h.fr,h.keep⟩
 have R:=s9 e 6 B trivial X;let E2:Env:={E with N:=(E.lent 0 (I4 ks H 0)).N}
 have hstep:Step E w E2 w:=⟨⟨λb B=>.inl B,λ_ h=>h,λ_ _=>rfl,λ_ _=>rfl,λ_ _=>rfl,λ_ _ h=>h,λ_ _ _ _ _=>rfl,λ_ _ _ _ _=>rfl⟩,λb _=>rfl,λ_ h=>.inl h⟩
 refine⟨E2,⟨⟨λk ob hk=>?_,λk k' o o' b hk d=>h.heap.inj k k' o o' b (M4 hk).1 (M4 d).1,λk hk=>by rw[I1];exact h.heap.lt k hk,h.heap.l2,λk ob v hk=>h.heap.cur k ob v (M4 hk).1⟩,λb hb'=>?_,λb hb'=>?_,λk ob b hk=>h.bnew k ob b (M4 hk).1,h.fr,h.keep.step hstep⟩,hstep,?_⟩
 ·obtain⟨g1,g2⟩:=M4 hk;obtain⟨e1,e2,e3⟩:=h.heap.live k ob g1;refine⟨e1,e2.mono e1 hstep (λb hb'=>rfl),λb hb' hn=>?_⟩
  have hb':C1 E k ob b:=hb';rcases hn with hn|⟨k2,ob2,_,hk2,hb2⟩
  ·exact e3 b hb' hn
  ·obtain⟨f,g⟩:=O2 hk2;have:=h.heap.inj k k2 ob ob2 b g1 f hb' hb2;rw[E5] at g;exact g2 (this▸g)
 ·rcases hb' with hb'|⟨k2,ob2,_,hk2,hb2⟩
  ·exact h.nlt b hb'
  ·exact e.heap.blt hk2 hb2
 ·rcases hb' with hn|⟨k2,ob2,_,hk2,hb2⟩
  ·exact h.nnew b hn
  ·exact .inr (h.bnew k2 ob2 b (O2 hk2).1 hb2)
 ·exact Rd.mono (w:=w) (w':=w) (E:=E.lent 0 (I4 ks H 0)) (E':=E2) ⟨λ_ h=>h,λ_ h=>absurd h.2 (J9 _),λ_ h=>absurd h.2 (J9 _),λ_ h=>absurd h.2 (J9 _),λ_ h=>absurd h.2 (J9 _),λ_ _ h=>absurd h.2 (J9 _),λ_ _ _ _ h=>absurd h.2 (J9 _),λ_ _ _ _ h=>absurd h.2 (J9 _)⟩ (λ_ _=>rfl) R
theorem b4U{σ σ':Sy}{x:Lk}(h:b55 σ x=some σ'):Sub m σ σ':=by
 intro c a w _ hr;obtain⟨E,hr⟩:=hr;unfold b55 at h;split at h
 ·rename_i k j ty sz;split at h
  case h_2=>cases h
  rename_i cl bty bsz n row hk;split at h
  case h_2=>cases h
  rename_i hnj hsz;obtain⟨tj,hj,htj⟩:=b7U hnj;simp only[X4] at h;subst h;obtain⟨hI,hst⟩:=aV hr.inv ty sz;have hk1:Z0 (σ.H++[some (Ob.arr true ty sz 0 λ_=>[])]) k=some (.arr cl bty bsz 1 row):=by rw[q9,if_pos (H9 hk)];exact hk
  obtain⟨hL,hO,hN⟩:=hI.heap.live k _ hk1;have hO:T3 _ w k ⟨cl,bty,bsz,1,row⟩:=hO;obtain⟨e1,e2,e3,e4,e5,cs,tyc,e6,e7,e8⟩:=hO;have hW:=hI.writeO (w':=w) hk1 rfl rfl rfl (U9 _) (λ_ _ _=>rfl) (.arr false bty bsz 1 λ_=>(row 0).set j (.osl σ.H.length 0 0)) (λb hb=>.inl (hb.arr rfl)) (λv hv=>absurd hv (hI.noL2 hk1 rfl v)) (λhs=>by
   refine⟨e1,e2,λi hi=>?_,λi t hi ht=>?_,λhc=>(by cases hc),cs,tyc,e6,e7,λi q t hi hq=>?_⟩
   ·exact(zN ..).trans (e3 0 (Nat.lt_succ_self 0))
   ·rcases List.mem_or_eq_of_mem_set ht with h1|rfl
    ·exact e4 0 t X3 h1
    ·rfl
   ·obtain rfl:i=0:=by have:i<1:=hi;omega
    have hq2:((row 0).set j (T.osl σ.H.length 0 0))[q]? =some t:=hq;rw[List.getElem?_set] at hq2
    split at hq2
    ·rename_i hjq;subst hjq;split at hq2
     ·simp only[X4] at hq2;subst hq2;obtain⟨u,hu,hru⟩:=e8 0 j _ X3 hj
      refine⟨u,hu,?_⟩
      obtain⟨a,rfl⟩:=htj hru;exact a6o a
     ·cases hq2
    ·exact e8 0 q t X3 hq2)
  exact⟨_,hr.defers,hr.size,⟨λi hi=>hst.rd (hr.slots.on i hi),hr.slots.off⟩,hW.1⟩
 ·rename_i i p ty sz;split at h
  case h_2=>cases h
  rename_i t hs hsz;simp only[X4] at h;subst h;obtain⟨hI,hst⟩:=aV hr.inv ty sz;refine⟨_,hr.defers,hr.size,⟨λq hq=>?_,λq hq=>absurd (λq hq=>xI) hq⟩,hI⟩
  simp only[b9];split
  ·rename_i he;obtain rfl:=H4 he;have:=hr.slots.on q (λq hq=>xI)
   exact b0y hst _ hs this
  ·exact hst.rd (hr.slots.on q (λq hq=>xI))
 ·rename_i k;split at h
  case h_2=>cases h
  rename_i ty sz n row hk;simp only[X4] at h;subst h;have hI:=hr.inv;have hn2:¬E.L2 k 0:=hI.noL2 hk rfl 0;let E':=E.bump k 0 (λ_ _=>0) (λ_ _=>0)
  have hst:Step E w E' w:=⟨Env.bump_le hn2,λ_ _=>rfl,λ_ h=>.inl h⟩
  obtain⟨hL,hO,hN⟩:=hI.heap.live k _ hk;have hO:T3 E w k ⟨true,ty,sz,n,row⟩:=hO;obtain⟨e1,e2,e3,e4,e5,cs,tyc,e6,e7,e8⟩:=hO;simp only at e1 e2 e3 e4 e5 e7 e8;have hco:∀i t,i<n->t ∈ row i->closedOne t=true:=λi t hi ht=>by simp[closedOne,e4 i t hi ht,e5 trivial i t hi ht]
  have nown:∀(i j:Nat) (oty:TypeId) (osz on:Nat) (orow:Nat->List T),i<n->(row i)[j]? =some (.own oty osz on orow)->False:=λi j oty osz on orow hi hj=>by
   have:=hco i _ hi (A6 hj);simp[closedOne,W9] at this
  have hF:FamOk E' w k 0 ty sz n row:=m0 (.inr ⟨rfl,rfl⟩) e1 e2 cs tyc e6 e7 e3 (λr q t hr hq=>by
   obtain⟨u,hu,hru⟩:=e8 r q t hr hq;exact⟨u,hu,.inl ⟨hco r t hr (A6 hq),hst.rd hru⟩⟩) (λi j i' j' oty osz on orow oty' osz' on' orow' hi hi' hj=>(nown i j _ _ _ _ hi hj).elim)
  have hklt:=H9 hk;refine⟨E',hr.defers,hr.size,⟨λi hi=>hst.rd (hr.slots.on i hi),hr.slots.off⟩,hI.to rfl rfl rfl (U9 _) hst k (λi=>i=k) (λ_ h=>h) (λi o hi hne=>?_) (λo ho=>?_) (λ_ _ _=>rfl) (λi hi=>by rw[zN];exact hI.heap.lt i hi) (λi u hu=>?_) (λo i u hi hu=>?_)⟩
  ·rw[T9 hklt,if_neg hne] at hi;exact⟨hi,hne⟩
  ·rw[T9 hklt,if_pos rfl] at ho;simp only[X4] at ho;subst ho;refine⟨hL,hF,λb hb=>.inr ⟨k,_,rfl,hk,?_⟩⟩
   rcases hb with hb|⟨v0,ty0,sz0,n0,K0,i0,j0,oty1,osz1,on1,orow1,hobe,hi0,hj0,hc0,rfl⟩
   ·exact .inl hb
   ·simp only[Ob.fam.injEq] at hobe;obtain⟨rfl,rfl,rfl,rfl,rfl⟩:=hobe;exact(nown _ _ _ _ _ _ hi0 hj0).elim
  ·rcases hu with hu|⟨rfl,_⟩
   ·exact hI.heap.l2 _ _ hu
   ·exact hL
  ·rw[T9 hklt] at hi;split at hi
   ·rename_i he;subst he;simp only[X4] at hi;subst hi;refine⟨_,_,_,_,_,rfl,?_⟩
    rcases hu with hu|⟨_,rfl⟩
    ·exact absurd hu (hI.noL2 hk rfl u)
    ·exact U9 _
   ·rename_i hne;rcases hu with hu|⟨e,_⟩
    ·exact hI.heap.cur _ _ _ hi hu
    ·exact absurd e hne
 ·rename_i i;split at h
  case h_2=>cases h
  rename_i t hb;simp only[X4] at h;subst h;obtain⟨E2,hI,hst,hrd⟩:=c6Q hr.inv hb (hr.slots.on i (λq hq=>xI))
  refine⟨E2,hr.defers,hr.size,⟨λq hq=>?_,λq hq=>absurd (λq hq=>xI) hq⟩,hI⟩
  simp only[b9];split
  ·rename_i he;obtain rfl:=H4 he;exact hrd
  ·exact hst.rd (hr.slots.on q (λq hq=>xI))
 ·simp only[X4] at h;subst h;exact⟨E,hr⟩
theorem c0e:∀{l:List Lk} {σ σ':Sy},b1Q σ l=some σ'->Sub m σ σ':=by
 intro l;induction l with
 |nil=>intro σ σ' h;simp only[b1Q,X4] at h;subst h;exact Sub.refl m σ
 |cons x l i=>
  intro σ σ' h;simp only[b1Q] at h;split at h
  ·rename_i σ1 d;exact λc a w M r=>i h c a w M (b4U (m:=m) (x:=c5x _ _) d c a w M r)
  ·cases h
theorem uQ{l:List Lk}{σ σ':Sy}(h:cW m l σ σ'):Sub m σ σ':=by
 unfold cW at h;split at h
 ·rename_i σ1 hg;split at h
  ·rename_i hi;simp only[M1] at hi;obtain⟨f,e⟩:=a3g h.2;intro c a w M r;exact b5O (ρ:=v6 (B0 (dF σ1.s σ1.H (a1m l)))) (λk m d=>by rw[←f];exact c2F d) (b7e hi.1) (b2n h.1) e (λk d=>by rw[c4Q hi.2 k Z9];simp) (c0e (m:=m) hg c a w M r)
  ·exact h.elim
 ·exact h.elim
theorem b4F{c:Ctx}{E:Env}{H:Y5}{w:World}(e:c.m=0)(h:Inv c E H w):Inv c (E.lent 0 H) [] w:=by
 have n:∀k ob,¬Z0 ([]:Y5) k=some ob:=λk ob d=>aS
 refine⟨⟨λk ob d=>absurd d (n k ob),λk k' o o' b d _ _ _=>absurd d (n k o),λk d=>absurd d.2 (J9 k),λk v hv=>absurd hv.2 (J9 k),λk ob v d=>absurd d (n k ob)⟩,λx hx=>?_,λx hx=>?_,λk ob b d=>absurd d (n k ob),h.fr,⟨λb B=>.inl (h.keep.N b B),λk d=>Z9,h.keep.same,λk v d=>Z9⟩⟩
 ·rcases hx with hx|⟨k,ob,_,hob,hx⟩
  ·exact h.nlt x hx
  ·exact h.heap.blt hob hx
 ·rcases hx with hx|⟨k,ob,hkb,hob,hx⟩
  ·exact h.nnew x hx
  ·exact .inr (h.bnew k ob x hob hx)
theorem b9j{H:Y5}{s:W7}:∀{ks:List Nat} {d:W7} {p:Option Prop},frz H s ks=some (d,p)->p.getD True->∀i,b9 d i= .und∨∃q,N4 0 H 6 (b9 s i)=some (b9 d i,q)/\q.getD True:=by
 intro ks;induction ks with
 |nil=>
  intro d p h _ i;simp only[frz,X4,U1] at h;obtain⟨rfl,_⟩:=h;exact .inl rfl
 |cons j r I=>
  intro d p h hp i;simp only[frz] at h;split at h
  ·rename_i t q1 q p' h1 h2;simp only[X4,U1] at h;obtain⟨rfl,rfl⟩:=h;obtain⟨hp1,hp2⟩:=yS hp;simp only[b9];split
   ·rename_i e;obtain rfl:=H4 e;exact .inr ⟨_,h1,hp1⟩
   ·exact I h2 hp2 i
  ·cases h
theorem c30{σ:Sy}{ks:List Nat}{d:W7}{p:Option Prop}(h:frz σ.H σ.s ks=some (d,p))(hp:p.getD True):Sub 0 σ ⟨d,[]⟩:=by
 intro c a w C r;obtain⟨E,r⟩:=r;refine⟨E.lent 0 σ.H,r.defers,r.size,⟨λi _=>?_,λi x=>absurd (λq Q=>oE) x⟩,b4F C r.inv⟩
 rcases b9j h hp i with hi|⟨q,hi,Q⟩
 ·show Rd _ w (b9 d i) _;rw[hi];exact .und _
 ·exact s9 r.inv 6 hi Q (r.slots.on i (λq Q=>oE))
theorem rT{l:Option (List Lk)}{σ σ':Sy}(h:a4d m l σ σ'):Sub m σ σ':=by
 unfold a4d at h;split at h
 ·exact uQ h
 ·exact h.elim
theorem yZ{s:W7}{op:Op}{k k':I7->Prop}(d:∀G',k G'->k' G')(h:iF G s op k):iF G s op k':=by
 unfold iF at h ⊢;split at h
 ·exact d _ h
 ·split at h
  ·obtain⟨x,hx⟩:=h;exact⟨x,d _ hx⟩
  ·split at h
   ·rcases h with⟨x,hx⟩|⟨x,hx⟩
    ·exact .inl ⟨x,d _ hx⟩
    ·exact .inr ⟨x,d _ hx⟩
   ·obtain⟨x,hx⟩:=h;exact⟨x,d _ hx⟩
  ·obtain⟨x,hx⟩:=h;exact⟨x,d _ hx⟩
  ·obtain⟨x,hx⟩:=h;exact⟨x,d _ hx⟩
  ·exact d _ h
theorem dP{s:W7}:∀{p:E4} {q q':Prop},(q->q')->C0 s p q->C0 s p q':=by
 intro p;induction p with
 |nil=>intro q q' Q h;exact Q h
 |cons x p i=>
  intro q q' Q h;obtain⟨t,b⟩:=x;simp only[C0] at h ⊢;split at h
  ·exact i (λh e=>Q (h e)) h
  ·exact h.elim
theorem qH{all:Array Oper}{K K':W7->Y5->Prop}(d:∀s H,K s H->K' s H):∀(t:List Oper) (s:W7) (ps:A2) (H:Y5),yR P G nt all t s ps H K->yR P G nt all t s ps H K':=by
 intro t;induction t with
 |nil=>intro s ps H h;exact d _ _ h
 |cons o t i=>
  intro s ps H h;have A:∀{p:E4} {side:Option Prop} {q q':Prop},(q->q')->lU s p side q->lU s p side q':=by
   intro p side q q' Q h;cases side with
   |none=>exact Q h
   |some r=>exact⟨h.1,Q h.2⟩
  unfold yR at h ⊢;split at h
  ·split at h
   ·exact h.elim
   ·split at h
    ·exact λb B=>i _ _ _ (h b B)
    ·refine yZ (λG' h=>?_) h
     split at h
     ·exact A (i _ _ _) h
     ·exact h.elim
  ·split at h
   ·split at h
    ·split at h
     ·exact h.elim
     ·split at h
      ·refine yZ (λG' h=>?_) h
       split at h
       ·exact A (i _ _ _) h
       ·exact h.elim
      ·split at h
       ·exact h.elim
       ·refine yZ (λG' h=>?_) h
        split at h
        ·exact A (λh=>⟨dP (i _ _ _) h.1,λn=>i _ _ _ (h.2 n)⟩) h
        ·exact h.elim
    ·exact h.elim
   ·exact h.elim
theorem a6U{all:Array Oper}{b:Nat}{H0:Y5}{K K':W7->Y5->Prop}(d:∀s H,K s H->K' s H):∀(t:List Oper) (i:Nat) (e:List (Nat×Oper×RW)) (B:List Nat) (s:W7) (ps:A2) (hist:List (Nat×Y5)),
  uF P G nt all b H0 t i e B s ps hist K->uF P G nt all b H0 t i e B s ps hist K':=by
 intro t;induction t with
 |nil=>intro i e B s ps hist h;exact d _ _ h
 |cons o t I=>
  intro i e B s ps hist h;have A:∀{p:E4} {side:Option Prop} {q q':Prop},(q->q')->lU s p side q->lU s p side q':=by
   intro p side q q' Q h;cases side with
   |none=>exact Q h
   |some r=>exact⟨h.1,Q h.2⟩
  unfold uF at h ⊢;split at h
  ·exact h.elim
  ·split at h
   ·split at h
    ·exact h.elim
    ·split at h
     ·split at h
      ·exact A (I _ _ _ _ _ _) h
      ·exact h.elim
     ·split at h
      ·refine yZ (λG' h=>?_) h
       split at h
       ·exact A (I _ _ _ _ _ _) h
       ·exact h.elim
      ·refine yZ (λG' h=>?_) h
       split at h
       ·exact A (I _ _ _ _ _ _) h
       ·exact h.elim
   ·split at h
    ·split at h
     ·split at h
      ·exact h.elim
      ·refine yZ (λG' h=>?_) h
       split at h
       ·exact A (I _ _ _ _ _ _) h
       ·exact h.elim
     ·exact h.elim
    ·exact h.elim
theorem a4U{all:Array Oper}{K K':W7->Y5->Prop}{s:W7}{H:Y5}(d:∀s H,K s H->K' s H):∀{R:List Oper},mP P G nt all s H K R->mP P G nt all s H K' R:=by
 intro R h;cases R with
 |nil=>exact h
 |cons o R=>
  unfold mP at h ⊢;dsimp only at h ⊢;split at h
  ·exact h.elim
  ·rename_i hp;intro b;have hb:=h b;split at hb
   ·rename_i t H' side he;cases side with
    |none=>exact qH d _ _ _ _ hb
    |some r=>exact⟨hb.1,qH d _ _ _ _ hb.2⟩
   ·exact hb.elim
theorem a3H{ops:Array Oper}{K K':W7->Y5->Prop}{s:W7}{H:Y5}(d:∀s H,K s H->K' s H)(h:qE P G nt ops s H K):qE P G nt ops s H K':=by
 have one:∀{o:Array Oper} {G:I7} {K K':W7->Y5->Prop},(∀s H,K s H->K' s H)->a7G P G nt o s H K->a7G P G nt o s H K':=λ{o G K K'} d h=>a6U d _ _ _ _ _ _ _ h
 unfold qE at h ⊢;split at h
 ·exact one d h
 ·split at h
  ·exact one d h
  ·split at h
   ·exact one d h
   ·exact one (λs H h=>a4U d h) h
theorem a6r:∀(C:Code) (k:Nat) (Q:Exit->Sy->(Nat->Ann)->Prop) (Q':Exit->Sy->Prop) (σ:Sy) (A:Nat->Ann),(∀e σ A,Q e σ A->Q' e σ)->cV P G nt m C k Q σ A->vc P G nt (Sub m) C Q' σ:=by
 intro C;induction C with
 |skip=>intro k Q Q' σ A d h;exact d _ _ _ h
 |region id ops W=>
  intro k Q Q' σ A d h;simp only[cV,vc] at h ⊢;split at h
  ·exact qH (λs H q=>d _ _ _ q) _ _ _ _ h
  ·exact a3H (λs H q=>d _ _ _ q) h
 |seq x y X g=>
  intro k Q Q' σ A d h;simp only[cV,vc] at h ⊢;refine X _ _ _ _ _ (λe σ' A' h'=>?_) h
  cases e with
  |normal=>exact g _ _ _ _ _ d h'
  |_=>exact d _ _ _ h'
 |cond F x y X g=>
  intro k Q Q' σ A d h;simp only[cV,vc] at h ⊢;split at h
  ·rename_i b f;rw[f];exact⟨λB=>X _ _ _ _ _ d (h.1 B),λB=>g _ _ _ _ _ d (h.2 B)⟩
  ·exact h.elim
 |block id body ih=>
  intro k Q Q' σ A d h;simp only[cV,vc] at h ⊢;refine ih _ _ _ _ _ (λe σ' A' h'=>?_) h
  cases e with
  |exit i=>
   simp only at h' ⊢;split at h'
   ·rename_i f;rw[f];exact d _ _ _ h'
   ·rename_i f;rw[f];exact d _ _ _ h'
  |_=>exact d _ _ _ h'
 |loop body ih=>
  intro k Q Q' σ A d h;simp only[cV,vc] at h ⊢;split at h
  ·exact h.elim
  ·rename_i n sub hA;refine⟨{p:Nat×Sy//a8d (λr next σ'=>cV P G nt m body (k+1) (λe σ'' A'=>match e with| .normal=>next σ''|e=>Q e σ'' A') σ' (sub r)) p.1 p.2},λp=>p.1.2,λp=>p.1.1,⟨⟨(n,σ),h⟩,λc a w _ hr=>hr⟩,λx=>?_⟩
   obtain⟨⟨j,τ⟩,hx⟩:=x;cases j with
   |zero=>exact hx.elim
   |succ j=>
    refine ih _ _ _ _ _ (λe σ' A' h'=>?_) hx
    cases e with
    |normal=>exact⟨⟨(j,σ'),h'⟩,λc a w _ hr=>hr,Nat.lt_succ_self j⟩
    |_=>exact d _ _ _ h'
  ·rename_i ι I μ lin lback sub hA;obtain⟨⟨x0,h0⟩,hround⟩:=h;refine⟨ι,I,μ,⟨x0,uQ h0⟩,λx=>ih _ _ _ _ _ (λe σ' A' h'=>?_) (hround x)⟩
   cases e with
   |normal=>obtain⟨y,Y,t⟩:=h';exact⟨y,uQ Y,t⟩
   |_=>exact d _ _ _ h'
  ·rename_i ks ι I μ lback sub hA;obtain⟨h0,hround⟩:=h;split at h0
   ·rename_i v p z;have o:p.getD True/\∃x,cW 0 [] ⟨v,[]⟩ (I x):=by
     cases p with
     |none=>exact⟨trivial,h0⟩
     |some p=>exact h0
    obtain⟨hp,x0,l⟩:=o;refine⟨ι,I,μ,⟨x0,λc a w u hr=>uQ l c a w u (c30 z hp c a w u hr)⟩,λx=>ih _ _ _ _ _ (λe σ' A' h'=>?_) (hround x)⟩
    cases e with
    |normal=>obtain⟨y,Y,t⟩:=h';exact⟨y,uQ Y,t⟩
    |_=>exact d _ _ _ h'
   ·exact h0.elim
  ·rename_i ι₁ ι₂ I₁ I₂ μ₁ μ₂ l1 l2 l11 l12 l21 l22 sub₁ sub₂ hA;obtain⟨h0,h1,h2⟩:=h;refine⟨ι₁ ⊕ ι₂,λx=>match x with| .inl x=>I₁ x| .inr x=>I₂ x,λx=>match x with| .inl x=>μ₁ x| .inr x=>μ₂ x,?_,λx=>?_⟩
   ·rcases h0 with⟨x,hx⟩|⟨x,hx⟩
    ·exact⟨.inl x,rT hx⟩
    ·exact⟨.inr x,rT hx⟩
   ·cases x with
    |inl x=>
     refine ih _ _ _ _ _ (λe σ' A' h'=>?_) (h1 x)
     cases e with
     |normal=>
      rcases h' with⟨y,Y,t⟩|⟨y,Y,t⟩
      ·exact⟨.inl y,rT Y,t⟩
      ·exact⟨.inr y,rT Y,t⟩
     |_=>exact d _ _ _ h'
    |inr x=>
     refine ih _ _ _ _ _ (λe σ' A' h'=>?_) (h2 x)
     cases e with
     |normal=>
      rcases h' with⟨y,Y,t⟩|⟨y,Y,t⟩
      ·exact⟨.inl y,rT Y,t⟩
      ·exact⟨.inr y,rT Y,t⟩
     |_=>exact d _ _ _ h'
 |exit id=>intro k Q Q' σ A d h;exact d _ _ _ h
 |ret=>intro k Q Q' σ A d h;exact d _ _ _ h
 |_=>intro k Q Q' σ A d h;simp[cV] at h
def c5O(res r:T):Prop:=oY (λ_=>none) 6 r res
def c4Y(P:Program)(G:I7)(nt:Nat)(r:List ResultVar)(C:Code)(args:List T)(res:T)(A:Nat->Ann):Prop:=
 cV P G nt 0 C 0 (λe σ _=>b4m P r (c5O res) e σ) ⟨rC 0 args,[]⟩ A
theorem c5u(M:P.follows .mixedOrders=true)(g:D1 P G)(d:∀x ∈ G,Q8 P x.1){f:FuncId}{fn:Func}{C:Code}{args:List T}{res:T}(F:P.funcs[f]? =some fn)(B:fn.body=some C)(t:args.length<=fn.ntmps)
  (A:Nat->Ann) (h:c4Y P G fn.ntmps fn.results.toList C args res A):V2 P f args res:=by
 refine c0K M g d F B t (a6r _ _ _ _ _ _ (λe σ A' hq=>?_) h)
 have mono:∀{p:Option Prop} {q q':Prop},(q->q')->dV p q->dV p q':=by
  intro p q q' hq h;cases p with
  |none=>exact hq h
  |some p=>exact⟨h.1,hq h.2⟩
 unfold b4m at hq ⊢;split at hq
 ·split at hq
  ·split at hq
   ·exact mono (mono λh=>L6.rle (pA h)) hq
   ·exact hq.elim
  ·exact hq.elim
 ·split at hq
  ·split at hq
   ·exact mono (mono λh=>L6.rle (pA h)) hq
   ·exact hq.elim
  ·exact hq.elim
 ·exact hq.elim
end
def iX(b:Nat)(H:Y5)(o:Option Ob):Option (Option Ob×Option Prop):=
 match o with
 |none=>some (none,none)
 |some (.arr false ty sz n row)=>match n with
  |1=>match O3 (N4 b H 6) (row 0) with
   |some cs=>some (some (.arr (cs.all λx=>W9 x.1) ty sz 1 λ_=>cs.map (·.1)),xH cs)
   |none=>none
  |_=>none
 |some ob=>some (some ob,none)
def gG:List (Option Ob×Option Prop)->Option Prop
 | []=>none
 |x::r=>oH x.2 (gG r)
def lks:Nat->List Bool->List Lk
 |_,[]=>[]
 |i,true::r=>.box i::lks (i+1) r
 |i,false::r=>.arr i::lks (i+1) r
def b9a(P:Program)(R:List ResultVar)(bs:List Bool)(res:T)(Hres:Y5):Exit->Sy->Prop
 | .normal,σ| .ret,σ=>match b6n P σ.s σ.H R with
  |some (r,p)=>match N4 bs.length σ.H 6 r,O3 (iX bs.length σ.H) (σ.H.take bs.length) with
   |some (r',p'),some os=>dV p (dV p' (dV (gG os) (oY (v6 (B0 (lks 0 bs))) 6 r' res/\a8p (v6 (B0 (lks 0 bs))) (os.map (·.1)) (lks 0 bs) Hres)))
   |_,_=>False
  |none=>False
 |_,_=>False
def c1J(P:Program)(G:I7)(nt:Nat)(r:List ResultVar)(C:Code)(args:List T)(H:Y5)(bs:List Bool)(res:T)(Hres:Y5)(A:Nat->Ann):Prop:=
 cV P G nt bs.length C 0 (λe σ _=>b9a P r bs res Hres e σ) ⟨rC 0 args,H⟩ A
section
variable {c:Ctx} {E:Env} {H:Y5} {w:World} {P:Program} {G:I7}
theorem b0q:∀{l:List (Option Ob×Option Prop)},(gG l).getD True->∀x ∈ l,x.2.getD True:=by
 intro l;induction l with
 |nil=>intro _ x X;cases X
 |cons y l i=>
  intro h x X;simp only[gG] at h;obtain⟨e,d⟩:=yS h;rcases xX.1 X with rfl|X
  ·exact e
  ·exact i d x X
theorem a7I{b:Nat}{d:Nat}{t r:T}{p:Option Prop}(h:N4 b H d t=some (r,p))(e:J1 t=true):J1 r=true:=by
 cases d with
 |zero=>simp[N4] at h
 |succ d=>
  unfold N4 at h;split at h
  ·split at h
   ·simp only[X4,U1] at h;rw[←h.1];rfl
   ·split at h
    ·split at h
     ·split at h
      ·split at h
       ·simp only[X4,U1] at h;rw[←h.1];rfl
       ·cases h
      ·cases h
     ·cases h
    ·cases h
  ·split at h
   ·simp only[X4,U1] at h;rw[←h.1];rfl
   ·split at h
    ·simp only[X4,U1] at h;rw[←h.1];rfl
    ·simp only[X4,U1] at h;rw[←h.1];rfl
    ·simp only[X4,U1] at h;rw[←h.1];rfl
    ·split at h
     ·split at h
      ·split at h
       ·simp only[X4,U1] at h;rw[←h.1];rfl
       ·cases h
      ·cases h
     ·cases h
    ·cases h
  ·simp[J1] at e
  ·simp only[G8,U1] at h;obtain⟨_,_,rfl,_⟩:=h;rfl
  ·simp[J1] at e
  ·cases h
  ·split at h
   ·simp only[X4,U1] at h;rw[←h.1];rfl
   ·split at h
    ·simp only[X4,U1] at h;rw[←h.1];rfl
    ·cases h
  ·split at h
   ·simp only[X4,U1] at h;rw[←h.1];rfl
   ·cases h
  ·cases h
  ·simp only[X4,U1] at h;rw[←h.1];exact e
theorem hM:∀(bs:List Bool) (i k:Nat),v6 (B0 (lks i bs)) k=if k<bs.length then some (i+k) else none:=by
 intro bs;induction bs with
 |nil=>intro i k;simp[lks,B0,v6]
 |cons b bs I=>
  intro i k;cases b<;>
  ·simp only[lks,B0,Lk.old];cases k with
   |zero=>simp[v6]
   |succ k=>
    simp only[v6,I,List.length_cons];by_cases h:k<bs.length
    ·rw[if_pos h,if_pos Z9];congr 1;omega
    ·rw[if_neg h,if_neg Z9]
theorem b5c:∀(l:List Lk),(B0 l).length=l.length:=by
 intro l;induction l with
 |nil=>rfl
 |cons x l i=>simp[B0,i]
theorem b8S:∀(bs:List Bool) (i:Nat),(lks i bs).length=bs.length:=by
 intro bs;induction bs with
 |nil=>intro i;rfl
 |cons b bs h=>intro i;cases b<;>simp[lks,h]
theorem c2Z{b:Nat}{os:List (Option Ob×Option Prop)}(hc0:c.m=0)(h:Inv c E H w)(hm:O3 (iX b H) (H.take b)=some os)(hs:(gG os).getD True):Inv c (E.lent b H) (os.map (·.1)) w:=by
 obtain⟨m1,m2⟩:=K8 hm;have hget:∀k ob',Z0 (os.map (·.1)) k=some ob'->k<b/\∃ob,Z0 H k=some ob/\∃p,iX b H (some ob)=some (some ob',p)/\p.getD True:=by
  intro k ob' hk;have hlt:k<(os.map (·.1)).length:=H9 hk;have hlt1:k<os.length:=by simpa using hlt
  have hlt2:k<(H.take b).length:=by rw[←m1];exact hlt1
  have hkb:k<b:=by simp at hlt2;omega
  have hkH:k<H.length:=by simp at hlt2;omega
  have he:=m2 k _ _ (J5 hlt2) (J5 hlt1)
  have hk':os[k].1=some ob':=by
   unfold Z0 at hk;simp only[pH,J5 hlt1,o7,Option.bind_some,id] at hk
   exact hk
  have hside:=b0q hs _ (List.getElem_mem hlt1);rw[List.getElem_take] at he;cases hob:H[k] with
  |none=>
   rw[hob] at he;simp only[iX,X4] at he;rw[←he] at hk';cases hk'
  |some ob=>
   rw[hob] at he;refine⟨hkb,ob,?_,os[k].2,?_,hside⟩
   ·unfold Z0;rw[J5 hkH,hob]
    rfl
   ·rw[he,←hk']
 have hstep:∀t x,W9 t=true->Rd E w t x->Rd (E.lent b H) w t x:=λt x ht hx=>Rd.closed (E:=E) (E':=E.lent b H) (λ_ h=>Or.inl h) hx ht
 have hblk:∀{k:Nat} {ob':Ob} {x:Nat},Z0 (os.map (·.1)) k=some ob'->C1 (E.lent b H) k ob' x->∃ob,k<b/\Z0 H k=some ob/\C1 E k ob x:=by
  intro k ob' x hk hx;obtain⟨hkb,ob,hob,p,hfin,hp⟩:=hget k ob' hk;refine⟨ob,hkb,hob,?_⟩
  rcases hx with hx|⟨v,ty,sz,n,row,i,j,oty,osz,on,orow,rfl,hi,hj,hc,rfl⟩
  ·exact .inl hx
  ·unfold iX at hfin;split at hfin
   ·cases hfin
   ·split at hfin
    ·split at hfin
     ·cases hfin
     ·cases hfin
    ·cases hfin
   ·rename_i he;simp only[X4,U1] at hfin he;obtain⟨rfl,_⟩:=hfin;subst he;exact .inr ⟨v,ty,sz,n,row,i,j,oty,osz,on,orow,rfl,hi,hj,hc,rfl⟩
 refine⟨⟨λk ob' hk=>?_,λk k' o o' x hk hk' hx hx'=>?_,λk hk=>?_,λk v hv=>⟨h.heap.l2 k v hv.1,hv.2⟩,λk ob' v hk hv=>?_⟩,λx hx=>?_,λx hx=>?_,λk ob' x hk hx=>?_,h.fr,⟨λb hb=>.inl (h.keep.N b hb),λk hk=>Z9,h.keep.same,λk v hk=>Z9⟩⟩
 ·obtain⟨hkb,ob,hob,p,hfin,hp⟩:=hget k ob' hk;obtain⟨hL,hO,hN⟩:=h.heap.live k ob hob;refine⟨⟨hL,hkb⟩,?_,λx hx hN'=>?_⟩
  ·unfold iX at hfin;split at hfin
   ·rename_i he;cases he
   ·rename_i ty0 sz n row he;simp only[X4] at he;subst he;obtain⟨hz0,hn,hl,hone,hcl,cs,ty,hblk,hsz,hc⟩:=hO;simp only[Ob.toArr] at hz0 hn hl hone hcl hsz hc;split at hfin
    ·rename_i n0;split at hfin
     ·rename_i cs' hcs';simp only[X4,U1] at hfin;obtain⟨rfl,rfl⟩:=hfin;obtain⟨q1,q2⟩:=K8 hcs';have hgc:∀(j:Nat) (t':T),(cs'.map (·.1))[j]? =some t'->∃t p,(row 0)[j]? =some t/\N4 b H 6 t=some (t',p)/\p.getD True:=by
       intro j t' hj;simp only[pH,G8] at hj
       obtain⟨x,hx,rfl⟩:=hj;have hlt:j<(row 0).length:=by rw[←q1];exact(x7.1 hx).1
       exact⟨_,x.2,J5 hlt,q2 j _ x (J5 hlt) hx,i3 hp x (A6 hx)⟩
      refine⟨hz0,hn,λi hi=>?_,λi t hi ht=>?_,λhall i t hi ht=>?_,cs,ty,hblk,hsz,λi j t hi hj=>?_⟩
      ·simp only[Ob.toArr,List.length_map,q1];exact hl 0 (Nat.lt_succ_self 0)
      ·obtain⟨j,hj⟩:=List.getElem?_of_mem ht
       obtain⟨t0,p0,h0,hb0,_⟩:=hgc j t hj;exact a7I hb0 (hone 0 t0 Z9 (A6 h0))
      ·obtain⟨x,hx,rfl⟩:=List.mem_map.1 ht;exact j8.1 hall x hx
      ·obtain rfl:i=0:=by have:i<1:=hi;omega
       obtain⟨t0,p0,h0,hb0,hp0⟩:=hgc j t hj;obtain⟨u,hu,hr⟩:=hc 0 j t0 Z9 h0
       exact⟨u,hu,s9 h 6 hb0 hp0 hr⟩
     ·cases hfin
    ·cases hfin
   ·rename_i ob2 hne he;simp only[X4] at he;subst he;simp only[X4,U1] at hfin;obtain⟨rfl,rfl⟩:=hfin;by_cases hia:ob.isArr=true
    case neg=>
     cases ob with
     |mp bo get=>
      obtain⟨h0,es,clock,h1,h2⟩:=hO;exact(⟨h0,es,clock,h1,h2⟩:a93 _ _ _ _ _)
     |mp2 get=>
      obtain⟨h0,es,clock,h1,h2⟩:=hO;exact(⟨h0,es,clock,h1,h2⟩:a03 _ _ _ _)
     |fam v ty sz n row=>
      have hF:FamOk E w k v ty sz n row:=hO;exact(FamOk.ren (E2:=E.lent b H) (w':=w) hF (eP _) (λt x _ ht hx=>hstep t x ht hx) rfl rfl rfl ⟨hF.l2,hkb⟩ (λ_ _=>rfl) (λ_ _=>rfl) (λ_ _=>rfl):FamOk _ _ _ _ _ _ _ _)
     |_=>exact absurd rfl hia
    obtain⟨hz0,hn,hl,hone,hcl,cs,ty,hblk,hsz,hc⟩:=hO.arr hia;have hclo:ob.toArr.cl=true:=by
     cases ob with
     |bys=>rfl
     |mp=>rfl
     |mp2=>rfl
     |fam=>cases hia
     |arr cl ty sz n row=>cases cl with
      |true=>rfl
      |false=>exact absurd rfl (hne _ _ _ _)
    refine T3.ob ?_ hia
    refine⟨hz0,hn,hl,hone,hcl,cs,ty,hblk,hsz,λi j t hi hj=>?_⟩
    obtain⟨u,hu,hr⟩:=hc i j t hi hj;exact⟨u,hu,hstep t u (hcl hclo i t hi (A6 hj)) hr⟩
  ·obtain⟨ob3,_,hob3,hx⟩:=hblk hk hx;rw[hob] at hob3;simp only[X4] at hob3;subst hob3;rcases hN' with hN'|⟨k',ob2,hk',hob2,he⟩
   ·exact hN x hx hN'
   ·have:=h.heap.inj k k' ob ob2 x hob hob2 hx he;omega
 ·obtain⟨ob,_,hob,hx⟩:=hblk hk hx;obtain⟨ob',_,hob',hx'⟩:=hblk hk' hx';exact h.heap.inj k k' ob ob' x hob hob' hx hx'
 ·have:=h.heap.lt k hk.1;simp only[List.length_map,m1,List.length_take];have:=hk.2;omega
 ·obtain⟨hkb,ob,hob,p,hfin,hp⟩:=hget k ob' hk;obtain⟨v0,ty,sz,n,row,rfl,hle⟩:=h.heap.cur k ob v hob hv.1;simp only[iX,X4,U1] at hfin;exact⟨v0,ty,sz,n,row,hfin.1.symm,hle⟩
 ·rcases hx with hx|⟨k,ob,_,hob,hx⟩
  ·exact h.nlt x hx
  ·exact h.heap.blt hob hx
 ·rcases hx with hx|⟨k,ob,hkb,hob,hx⟩
  ·exact h.nnew x hx
  ·exact .inr (h.bnew k ob x hob hx)
 ·obtain⟨ob,_,hob,hx⟩:=hblk hk hx;exact h.bnew k ob x hob hx
theorem aT{vs:Array Value}{args:List T}{nt:Nat}(d:HeapOk E w H)(f:∀b,E.N b->b<w.heap.size)(A:uJ E w args vs)(t:args.length<=nt):
  RealE ⟨w,XB E H,E.N,nt,E,H.length⟩ E (rC 0 args) [] H {tmps:=vs++Array.replicate (nt-vs.size) undef,defers:=[]} w:=by
 have n:args.length=vs.size:=A.1;refine⟨rfl,I0,⟨λi _=>?_,λi hi=>absurd (λq Q=>oE) hi⟩,⟨d,f,λb B=>.inl B,λk ob b e B=>.inr ⟨k,ob,e,B⟩,⟨rfl,rfl,rfl,U9 _,λ_ _ _=>rfl⟩,⟨λ_ h=>h,λ_ _ h=>⟨h,rfl,rfl,rfl⟩,λ_ _=>rfl,λ_ _ _ h=>⟨h,λ_ _=>⟨rfl,rfl⟩⟩⟩⟩⟩
 rw[a0u,if_pos (N7 _),Nat.sub_zero];simp only[Q2,Array.getD_eq_getD_getElem?,Array.getElem?_append]
 by_cases hi:i<vs.size
 ·rw[if_pos hi,J5 Z9,vM hi]
  exact A.2 i _ _ (J5 Z9) (vM hi)
 ·rw[List.getElem?_eq_none Z9]
  exact .und _
theorem c2p(hm:P.follows .mixedOrders=true)(hG:D1 P G)(W:∀x ∈ G,Q8 P x.1){f:FuncId}{fn:Func}{C:Code}{args:List T}{H Hres:Y5}{bs:List Bool}{res:T}(hf:P.funcs[f]? =some fn)(O:fn.body=some C)(R:args.length<=fn.ntmps)
  (hl:H.length=bs.length) (A:Nat->Ann) (h:c1J P G fn.ntmps fn.results.toList C args H bs res Hres A):I8 P f args H res Hres:=by
 intro E w vs u hN ha;have ab:vs.size=args.length:=ha.1.symm;have J:=a6r (P:=P) (G:=G) (nt:=fn.ntmps) (m:=bs.length) C 0 _ (λe σ=>b9a P fn.results.toList bs res Hres e σ) _ A (λe σ A' hq=>hq) h
 rw[←hl] at J;refine calls_of_wp hf O (Code.wp_mono (λe Z w' hh=>?_) (b3F (c:=⟨w,XB E H,E.N,fn.ntmps,E,H.length⟩) hm hG W C _ _ _ w J ⟨E,aT u hN ha R⟩))
 obtain⟨σ',hq,E',hr⟩:=hh;have t:∀k,E.L k->k<bs.length:=λk g=>by rw[←hl];exact u.lt k g
 have M:b9a P fn.results.toList bs res Hres .ret σ'->Z.defers=[]/\∃v,(results fn Z.tmps).run P w'= .ok v w'/\
   ∃v' E',Ending.returned v= .returned v'/\Inv ⟨w,XB E H,E.N,0,E,0⟩ E' Hres w'/\Stp E w E' w'/\Rd E' w' res v':=by
  intro hq;have g:=hr.inv.keep;have l:(∀b,E.N b->E'.N b)/\(∀k,E.L k->E'.L k/\E'.β k=E.β k/\E'.κ k=E.κ k/\E'.z k=E.z k)/\∀b,E.N b->w'.heap[b]? =w.heap[b]? :=⟨g.N,λk o=>g.L k (u.lt k o) o,g.same⟩
  have X:Inv ⟨w,XB E H,E.N,0,E,0⟩ E' σ'.H w':=⟨hr.inv.heap,hr.inv.nlt,hr.inv.nnew,hr.inv.bnew,hr.inv.fr,⟨g.N,λk h=>absurd h (J9 _),g.same,λk v h=>absurd h (J9 _)⟩⟩
  refine⟨hr.defers,?_⟩
  simp only[b9a] at hq;split at hq
  ·rename_i r p hres;split at hq
   ·rename_i r' p' os hbor hfin;obtain⟨hp,hq⟩:=sR hq;obtain⟨hp',hq⟩:=sR hq;obtain⟨hos,htl,hhp⟩:=sR hq;obtain⟨v,hrun,hrd⟩:=a2c (P:=P) hr.inv.heap (λi=>hr.slots.on i (λq hq=>xI)) hres hp
    have U:=c2Z (b:=bs.length) rfl X hfin hos;obtain⟨e1,e2⟩:=a3g hhp;have B:Hres.length=bs.length:=by rw[←e1,b5c,b8S]
    have I:∀k m,v6 (B0 (lks 0 bs)) k=some m->k<Hres.length:=λk m g=>by
     rw[hM] at g;split at g
     ·omega
     ·cases g
    have F:∀k m,v6 (B0 (lks 0 bs)) k=some m->m=k:=λk m g=>by
     rw[hM] at g;split at g
     ·simp at g;omega
     ·cases g
    have Q:=a8R (ρ:=v6 (B0 (lks 0 bs))) (H':=Hres) I (λk k' m _ _ h1 h2=>by rw[←F k m h1,←F k' m h2]) e2 (λk g=>absurd g (J9 _)) U
    have n:∀k,E.L k->(v6 (B0 (lks 0 bs)) k)=some k:=λk g=>by rw[hM,if_pos (t k g)];simp
    refine⟨v,hrun,v,_,rfl,Q,⟨⟨λb O=>.inl (l.1 b O),λk g=>⟨?_,k,n k g,(l.2.1 k g).1,t k g⟩,λk g=>?_,λk g=>?_,λk g=>?_,λk v hv=>?_,λk v i j hv=>?_,λk v i j hv=>?_⟩,λb O=>l.2.2 b O⟩,?_⟩
    ·rw[B];exact t k g
    ·simp only[Env.ren,n k g,Option.getD_some];exact(l.2.1 k g).2.1
    ·simp only[Env.ren,n k g,Option.getD_some];exact(l.2.1 k g).2.2.1
    ·simp only[Env.ren,n k g,Option.getD_some];exact(l.2.1 k g).2.2.2
    ·have o:=u.l2 k v hv;exact⟨by rw[B];exact t k o,k,n k o,(g.L2 k v (u.lt k o) hv).1,t k o⟩
    ·have o:=u.l2 k v hv;simp only[Env.ren,n k o,Option.getD_some];exact((g.L2 k v (u.lt k o) hv).2 i j).1
    ·have o:=u.l2 k v hv;simp only[Env.ren,n k o,Option.getD_some];exact((g.L2 k v (u.lt k o) hv).2 i j).2
    ·obtain⟨d,aa,V,Y⟩:=pA htl;exact Rd.ren I d V (Y _ _ _ (s9 hr.inv 6 hbor hp' hrd))
   ·exact hq.elim
  ·exact hq.elim
 cases e with
 |normal=>exact M hq
 |ret=>exact M hq
 |_=>exact hq.elim
end
inductive ObEq:Option Ob->Option Ob->Prop
 |same (o:Option Ob):ObEq o o
 |rows (cl:Bool) (ty ty':TypeId) (sz n:Nat) (row row':Nat->List T) (h:∀i,i<n->row i=row' i):ObEq (some (.arr cl ty sz n row)) (some (.arr cl ty' sz n row'))
def b85:Y5->Y5->Prop
 | [],[]=>True
 |o::r,o'::r'=>ObEq o o'/\b85 r r'
 |_,_=>False
theorem b7q:∀{H H':Y5},b85 H H'->H.length=H'.length/\∀k,ObEq (Z0 H k) (Z0 H' k):=by
 intro H;induction H with
 |nil=>intro H' h;cases H' with
  |nil=>exact⟨rfl,λk=>.same _⟩
  |cons=>exact h.elim
 |cons o H i=>intro H' h;cases H' with
  |nil=>exact h.elim
  |cons o' H'=>
   obtain⟨e,d⟩:=i h.2;refine⟨by simp[e],λk=>?_⟩
   cases k with
   |zero=>simpa[Z0] using h.1
   |succ k=>simpa[Z0] using d k
theorem sL{P:Program}{f:FuncId}{args:List T}{H H1 H':Y5}{res:T}(M:b85 H H1)(h:I8 P f args H1 res H'):I8 P f args H res H':=by
 obtain⟨I,B⟩:=b7q M;have key:∀k ob,Z0 H k=some ob->∃ob',Z0 H1 k=some ob'/\(ob'=ob∨∃cl ty d sz n row row',ob= .arr cl ty sz n row/\ob'= .arr cl d sz n row'/\∀i,i<n->row i=row' i):=by
  intro k ob hk;have:=B k;rw[hk] at this;generalize Z0 H1 k=b at this;cases this with
  |same=>exact⟨ob,rfl,.inl rfl⟩
  |rows cl ty d sz n row row' h=>exact⟨_,rfl,.inr ⟨cl,ty,d,sz,n,row,row',rfl,rfl,h⟩⟩
 have key':∀k ob',Z0 H1 k=some ob'->∃ob,Z0 H k=some ob/\(ob'=ob∨∃cl ty d sz n row row',ob= .arr cl ty sz n row/\ob'= .arr cl d sz n row'/\∀i,i<n->row i=row' i):=by
  intro k ob hk;have:=B k;rw[hk] at this;generalize Z0 H k=b at this;cases this with
  |same=>exact⟨ob,rfl,.inl rfl⟩
  |rows cl ty d sz n row row' h=>exact⟨_,rfl,.inr ⟨cl,ty,d,sz,n,row,row',rfl,rfl,h⟩⟩
 intro E w vs hH U Q;have hbk:∀k ob ob' b,(ob'=ob∨∃cl ty d sz n row row',ob= .arr cl ty sz n row/\ob'= .arr cl d sz n row'/\∀i,i<n->row i=row' i)->(C1 E k ob' b↔C1 E k ob b):=by
  intro k ob ob' b hc;rcases hc with rfl|⟨cl,ty,d,sz,n,row,row',rfl,rfl,_⟩
  ·exact Iff.rfl
  ·exact⟨λhb=>.inl (hb.arr rfl),λhb=>.inl (hb.arr rfl)⟩
 have F:XB E H1=XB E H:=by
  funext b
  refine propext ⟨λ⟨k,ob',hk,hb⟩=>?_,λ⟨k,ob,hk,hb⟩=>?_⟩
  ·obtain⟨ob,hk',hc⟩:=key' k ob' hk;exact⟨k,ob,hk',(hbk k ob ob' b hc).1 hb⟩
  ·obtain⟨ob',hk',hc⟩:=key k ob hk;exact⟨k,ob',hk',(hbk k ob ob' b hc).2 hb⟩
 have u:HeapOk E w H1:=by
  refine⟨λk ob' hk=>?_,λk k' o o' b hk hk' hb A=>?_,λk hk=>by rw[←I];exact hH.lt k hk,hH.l2,λk ob' v hk hv=>?_⟩
  ·obtain⟨ob,hk',hc⟩:=key' k ob' hk;obtain⟨l1,l2,l3⟩:=hH.live k ob hk';refine⟨l1,?_,λb hb=>l3 b ((hbk k ob ob' b hc).1 hb)⟩
   rcases hc with rfl|⟨cl,ty,d,sz,n,row,row',rfl,rfl,hr⟩
   ·exact l2
   ·obtain⟨Z,O,J,g,L,cs,C,l,z,hc⟩:=l2;simp only[Ob.toArr] at*;exact⟨Z,O,λi hi=>(congrArg List.length (hr i hi)).symm.trans (J i hi),λi t hi r=>g i t hi ((hr i hi)▸r),λe i t hi r=>L e i t hi ((hr i hi)▸r),cs,C,l,z,λi j t hi R=>hc i j t hi ((hr i hi)▸R)⟩
  ·obtain⟨x,N,hc⟩:=key' k o hk;obtain⟨X,q,e⟩:=key' k' o' hk';exact hH.inj k k' x X b N q ((hbk k x o b hc).1 hb) ((hbk k' X o' b e).1 A)
  ·obtain⟨ob,hk',hc⟩:=key' k ob' hk;obtain⟨v0,ty,sz,n,row,rfl,hle⟩:=hH.cur k ob v hk' hv;rcases hc with rfl|⟨_,_,_,_,_,_,_,he,_⟩
   ·exact⟨v0,ty,sz,n,row,rfl,hle⟩
   ·cases he
 have:=h E w vs u U Q;rw[F] at this;exact this
def a7K:Y5->List Lk->Y5->Bool
 |H,lk::l,some _::r=>(match lk.old with|some m=>(Z0 H m).isSome|none=>false)&&a7K H l r
 |H,_::l,none::r=>a7K H l r
 |_,_,_=>true
def c6h(σ:Sy)(l:List Lk)(σ':Sy):Bool:=
 match b1Q σ l with
 |some σ1=>a7K σ1.H (dF σ1.s σ1.H (a1m l)) σ'.H
 |none=>false
def b7z(m:Nat)(σ σ':Sy):List (List Lk)->Prop
 | []=>False
 | [l]=>cW m l σ σ'
 |l::r=>match c6h σ l σ' with
  |true=>cW m l σ σ'
  |false=>b7z m σ σ' r
theorem b9k{m:Nat}{σ σ':Sy}:∀{L:List (List Lk)},b7z m σ σ' L->Sub m σ σ':=by
 intro L;induction L with
 |nil=>intro h;exact h.elim
 |cons l L i=>
  intro h;cases L with
  |nil=>exact uQ h
  |cons d L=>
   simp only[b7z] at h;split at h
   ·exact uQ h
   ·exact i h
def c0y(P:Program)(R:List ResultVar)(m:Nat)(lk:List (List Lk))(res:T)(Hres:Y5):Exit->Sy->Prop
 | .normal,σ| .ret,σ=>match b6n P σ.s σ.H R with
  |some (r,p)=>dV p (b7z m ⟨[(0,r)],σ.H⟩ ⟨[(0,res)],Hres⟩ lk)
  |none=>False
 |_,_=>False
def c1M(P:Program)(G:I7)(nt:Nat)(r:List ResultVar)(C:Code)(args:List T)(H:Y5)(res:T)(Hres:Y5)(A:Nat->Ann)(lk:List (List Lk)):Prop:=
 cV P G nt H.length C 0 (λe σ _=>c0y P r H.length lk res Hres e σ) ⟨rC 0 args,H⟩ A
theorem c2y{P:Program}{G:I7}(X:P.follows .mixedOrders=true)(W:D1 P G)(B:∀x ∈ G,Q8 P x.1){f:FuncId}{fn:Func}{C:Code}{args:List T}{H Hres:Y5}{res:T}(R:P.funcs[f]? =some fn)(O:fn.body=some C)(z:args.length<=fn.ntmps)
  (A:Nat->Ann) (lk:List (List Lk)) (h:c1M P G fn.ntmps fn.results.toList C args H res Hres A lk):I8 P f args H res Hres:=by
 intro E w vs n Y J;have Z:vs.size=args.length:=J.1.symm;have t:=a6r (P:=P) (G:=G) (nt:=fn.ntmps) (m:=H.length) C 0 _ (λe σ=>c0y P fn.results.toList H.length lk res Hres e σ) _ A (λe σ A' hq=>hq) h
 refine calls_of_wp R O (Code.wp_mono (λe F w' V=>?_) (b3F (c:=⟨w,XB E H,E.N,fn.ntmps,E,H.length⟩) X W B C _ _ _ w t ⟨E,aT n Y J z⟩))
 obtain⟨σ',hq,E',hr⟩:=V;have M:c0y P fn.results.toList H.length lk res Hres .ret σ'->F.defers=[]/\∃v,(results fn F.tmps).run P w'= .ok v w'/\
   ∃v' E',Ending.returned v= .returned v'/\Inv ⟨w,XB E H,E.N,0,E,0⟩ E' Hres w'/\Stp E w E' w'/\Rd E' w' res v':=by
  intro hq;refine⟨hr.defers,?_⟩
  simp only[c0y] at hq;split at hq
  ·rename_i r p hres;obtain⟨hp,hq⟩:=sR hq;obtain⟨v,hrun,hrd⟩:=a2c (P:=P) hr.inv.heap (λi=>hr.slots.on i (λq hq=>xI)) hres hp
   refine⟨v,hrun,v,?_⟩
   have I:=hr.inv;have Q:kP ⟨w,XB E H,E.N,1,E,H.length⟩ [(0,r)] σ'.H {tmps:= #[v],defers:=[]} w':=by
    refine⟨E',rfl,rfl,⟨λi _=>?_,λi hi=>absurd (λq hq=>xI) hi⟩,⟨I.heap,I.nlt,I.nnew,I.bnew,I.fr,⟨I.keep.N,I.keep.L,I.keep.same,I.keep.L2⟩⟩⟩
    cases i with
    |zero=>exact hrd
    |succ i=>exact .und _
   obtain⟨E2,o⟩:=b9k hq ⟨w,XB E H,E.N,1,E,H.length⟩ _ w' rfl Q;have d:=o.inv;have g:=d.keep;refine⟨E2,rfl,⟨d.heap,d.nlt,d.nnew,d.bnew,d.fr,⟨g.N,λk h=>absurd h (J9 _),g.same,λk v h=>absurd h (J9 _)⟩⟩,⟨⟨g.N,λk l=>?_,λk l=>?_,λk l=>?_,λk l=>?_,λk u U=>?_,λk u i j U=>?_,λk u i j U=>?_⟩,g.same⟩,?_⟩
   ·exact(g.L k (n.lt k l) l).1
   ·exact(g.L k (n.lt k l) l).2.1
   ·exact(g.L k (n.lt k l) l).2.2.1
   ·exact(g.L k (n.lt k l) l).2.2.2
   ·exact(g.L2 k u (n.lt k (n.l2 k u U)) U).1
   ·exact((g.L2 k u (n.lt k (n.l2 k u U)) U).2 i j).1
   ·exact((g.L2 k u (n.lt k (n.l2 k u U)) U).2 i j).2
   ·exact o.slots.on 0 (λq hq=>xI)
  ·exact hq.elim
 cases e with
 |normal=>exact M hq
 |ret=>exact M hq
 |_=>exact hq.elim
def mF(P:Program):Nat->TypeId->Bool
 |0,_=>false
 |d+1,t=>match P.underlying t with
  |some .bool=>Nat.beq (P.cellsOf t) 1
  |some (.int _)=>Nat.beq (P.cellsOf t) 1
  |some .string=>Nat.beq (P.cellsOf t) 1
  |some (.slice e)=>Nat.beq (P.cellsOf t) 1&&Nat.blt 0 (P.cellsOf e)&&mF P d e
  |some (.struct fs)=>(Nat.beq (endsAt fs.toList 0) (P.cellsOf t)&&Nat.blt (P.cellsOf t) 18446744073709551616)&&fs.toList.all λf=>mF P d f.type
  |_=>false
where
 endsAt:List Field->Nat->Nat
 | [],n=>n
 |f::r,n=>match Nat.beq f.offset n with
  |true=>endsAt r (n+P.cellsOf f.type)
  |false=>18446744073709551616
def dI{H:Type}:DataW H->Int
 | .lit (.int _ n)=>n
 |_=>0
def dB{H:Type}:DataW H->Bool
 | .lit (.bool b)=>b
 |_=>false
def dS{H:Type}:DataW H->Bz
 | .lit (.string l)=>l
 |_=>[]
def sV{H:Type}:DataW H->List (DataW H)
 | .slice xs _=>xs
 |_=>[]
def b36{H:Type}:DataW H->List (DataW H)
 | .agg xs=>xs
 |_=>[]
def trF{H:Type}(g:TypeId->DataW H->List T):List Field->List (DataW H)->List T
 | [],_=>[]
 |f::r,xs=>g f.type (xs.headD .nil)++trF g r xs.tail
def trT{H:Type}(P:Program):Nat->TypeId->DataW H->List T
 |0,_,_=>[]
 |d+1,t,x=>match P.underlying t with
  |some .bool=>[.bool (dB x)]
  |some (.int k)=>[.int k (dI x)]
  |some .string=>[.str (dS x)]
  |some (.slice e)=>match P.underlying e with
   |some (.int .u8)=>[.bys ((sV x).map byD)]
   |_=>[.sl (P.cellsOf e) (sV x).length λi=>trT P d e ((sV x).getD i .nil)]
  |some (.struct fs)=>trF (trT P d) fs.toList (b36 x)
  |_=>[]
where
 byD:DataW H->UInt8
 | .lit (.int _ n)=>R4 n
 |_=>0
theorem a85{H:Type}(g:TypeId->DataW H->List T):∀(fl:List Field) (xs:List (DataW H)),xs.length=fl.length->trF g fl xs=(fl.zip xs).flatMap λp=>g p.1.type p.2
 | [],_,_=>rfl
 |f::fl,[],h=>J2
 |f::fl,x::xs,h=>by
  simp only[trF,List.headD_cons,List.tail_cons,List.zip_cons_cons,List.flatMap_cons];rw[a85 g fl xs D3]
theorem b3h{α β:Type}{f:α->Option β}:∀{l:List α} {q:List β},l.mapM f=some q->q.length=l.length/\∀(i:Nat) (a:α) (b:β),l[i]? =some a->q[i]? =some b->f a=some b:=by
 intro l;induction l with
 |nil=>intro q h;simp at h;subst h;exact⟨rfl,λi a b A=>by simp at A⟩
 |cons x l I=>
  intro q h;simp only[List.mapM_cons,Option.bind_eq_bind,Option.bind_eq_some_iff,Option.pure_def,X4] at h;obtain⟨b,g,q',Q,rfl⟩:=h;obtain⟨j,e⟩:=I Q;refine⟨by simp[j],λi a B A d=>?_⟩
  cases i with
  |zero=>simp at A d;subst A;subst d;exact g
  |succ i=>exact e i a B (by simpa using A) (by simpa using d)
theorem jT{α β:Type}{f:α->Option β}:∀{l:List α} {q:List β},q.length=l.length->(∀(i:Nat) (a:α) (b:β),l[i]? =some a->q[i]? =some b->f a=some b)->l.mapM f=some q:=by
 intro l;induction l with
 |nil=>intro q h _;cases q with|nil=>rfl|cons=>simp at h
 |cons x l I=>
  intro q h F;cases q with
  |nil=>simp at h
  |cons b q=>
   have e:=F 0 x b rfl rfl;have d:=I (q:=q) D3 λi a b A B=>F (i+1) a b (by simpa using A) (by simpa using B)
   simp only[List.mapM_cons,e,d,Option.bind_eq_bind,Option.bind_some,Option.pure_def]
section
variable {H:Type} {enc:TypeId×Value->H} {P:Program} {w w':World} {base:Nat} {held:Bool}
theorem k9{a:Addr}{n:Nat}{cs:List Value}(h:w.cells? base a n=some cs):base<=a.block/\cs.length=n/\∀j v,cs[j]? =some v->w.cell? (a.add j)=some v:=by
 unfold World.cells? at h;split at h
 ·rename_i hb;obtain⟨h1,h2⟩:=b3h h;refine⟨hb,by simpa using h1,λj v hj=>?_⟩
  have t:j<n:=by have:=(x7.1 hj).1;simpa[h1] using this
  exact h2 j j v (by simp[t]) hj
 ·cases h
theorem b5B{a:Addr}{n:Nat}{cs:List Value}(B:base<=a.block)(l:cs.length=n)(h:∀j v,cs[j]? =some v->w.cell? (a.add j)=some v):w.cells? base a n=some cs:=by
 unfold World.cells?;rw[if_pos B];refine jT (by simpa using l) λi k v d hv=>?_
 have I:i=k:=by
  have t:=(x7.1 d).1
  simp at t
  simpa[t] using d
 subst I;exact h i v hv
theorem sE(a:Addr)(n:Nat):(a.add n).block=a.block:=by unfold Addr.add;split<;>rfl
theorem a7F{a:Addr}{n:Nat}{cs:List Value}(W:∀b,b<w.heap.size->w'.heap[b]? =w.heap[b]?)(h:w.cells? base a n=some cs):w'.cells? base a n=some cs:=by
 obtain⟨f,e,g⟩:=k9 h;refine b5B f e λj v J=>?_
 have d:=g j v J;have t:(a.add j).block<w.heap.size:=by
  unfold World.cell? at d;split at d
  ·rename_i B;exact(dH.1 B).1
  ·cases d
 unfold World.cell? at d ⊢;rw[W _ t];exact d
theorem b95{a:Addr}{n:Nat}(h:0<n):(.cell a.block a.off:MemPlace) ∈ MemPlace.row a n:=by
 unfold MemPlace.row;exact List.mem_map.2 ⟨0,D3,rfl⟩
theorem a51{v:Nat->Bool}(W:∀b,b<w.heap.size->w'.heap[b]? =w.heap[b]?):∀(d:Nat) {fuel:Nat} {t:TypeId} {cs:List Value} {x:DataW H} {ps:List MemPlace},mF P d t=true->
  DataW.trod enc P w base (λ_=>true) held fuel t cs=some (x,ps)->(∀p ∈ ps,v p.block=true)->DataW.trod enc P w' base v held fuel t cs=some (x,ps):=by
 intro d;induction d with
 |zero=>intro fuel t cs x ps h;simp[mF] at h
 |succ d C=>
  intro fuel t cs x ps hok h q;cases fuel with
  |zero=>simp[DataW.trod] at h
  |succ fuel=>
   unfold mF at hok;split at hok
   ·rename_i hu;obtain⟨b,rfl,he⟩:=DataW.trod_bool hu h;rw[he];simp[DataW.trod,hu]
   ·rename_i k hu;obtain⟨n,rfl,he,F⟩:=DataW.trod_int hu h;rw[he];simp[DataW.trod,hu,F]
   ·rename_i hu;obtain⟨s,rfl,he,F⟩:=DataW.trod_string hu h;rw[he];simp[DataW.trod,hu,F]
   ·rename_i e hu;simp only[M1] at hok;obtain⟨⟨_,hpos⟩,hoe⟩:=hok;have hpos:0<P.cellsOf e:=zT hpos;rcases DataW.trod_slice hu h with⟨rfl,he⟩|⟨a,len,cap,elems,rest,n,hn,rfl,hx,hb,hl,hm,hlen,hel,hsp1,_⟩
    ·rw[he];simp[DataW.trod,hu]
    ·obtain rfl:fuel=n:=by omega
     obtain⟨L,u⟩:=hsp1 rfl;simp only[U1] at hx;obtain⟨hx,g⟩:=hx;have r:∀(i:Nat) (y:DataW H×List MemPlace),y ∈ elems++rest->((w.cells? base (a.add (i*P.cellsOf e)) (P.cellsOf e)).bind (DataW.trod enc P w base (λ_=>true) held fuel e))=some y->
       ((w'.cells? base (a.add (i*P.cellsOf e)) (P.cellsOf e)).bind (DataW.trod enc P w' base v held fuel e))=some y:=by
      intro i y Y h;obtain⟨M,O,J⟩:=Option.bind_eq_some_iff.1 h;rw[a7F W O];simp only[Option.bind_some];obtain⟨N,Q⟩:=y;refine C hoe J λp hp=>q p ?_
      rw[g];exact List.mem_append_right _ (List.mem_flatMap.2 ⟨_,Y,hp⟩)
     have R:∀{n i k:Nat},(List.range n)[i]? =some k->i=k/\k<n:=by
      intro n i k z;have l:=(x7.1 z).1
      simp at l;have:i=k:=by simpa[l] using z
      exact⟨this,this▸l⟩
     have B:(List.range len).mapM (λi=>(w'.cells? base (a.add (i*P.cellsOf e)) (P.cellsOf e)).bind (DataW.trod enc P w' base v held fuel e))=some elems:=
      jT (by simpa using hlen) λi k y z Y=>by
       obtain⟨rfl,l⟩:=R z;exact r i y (List.mem_append_left _ (A6 Y)) ((hel i l).trans Y)
     have o:(List.range (cap-len)).mapM (λj=>(w'.cells? base (a.add ((len+j)*P.cellsOf e)) (P.cellsOf e)).bind (DataW.trod enc P w' base v held fuel e))=some rest:=
      jT (by simpa using L) λi k y z Y=>by
       obtain⟨rfl,l⟩:=R z;exact r (len+i) y (List.mem_append_right _ (A6 Y)) ((u i l).trans Y)
     have A:v a.block=true∨cap-len=0:=by
      by_cases Z:cap-len=0
      ·exact .inr Z
      ·left
       refine q (.cell a.block a.off) ?_
       rw[g];exact List.mem_append_left _ (b95 (Nat.mul_pos Z9 hpos))
     simp only[DataW.trod,hu];rw[if_pos ⟨hb,hl,hm⟩,B];simp only[Option.bind_some];rcases A with hs|Z
     ·rw[hs];simp only[if_true,o,o7,hx,g]
     ·have hrest0:rest=[]:=List.eq_nil_of_length_eq_zero Z9
      rw[hrest0] at hx g o;cases v a.block
      ·simp only[Bool.false_eq_true,if_false,o7,hx,g]
      ·simp only[if_true,o,o7,hx,g]
   ·rename_i fs hu;simp only[M1] at hok;have hof:=j8.1 hok.2;obtain⟨xs,n,hn,hx,hl,hxl,hf⟩:=DataW.trod_struct hu h;obtain rfl:fuel=n:=by omega
    simp only[U1] at hx;obtain⟨hx,g⟩:=hx;rw[hx,g];refine ChangeShapes.trod_struct_mk hu hl (jT a9s λi f y I Y=>?_)
    obtain⟨N,Q⟩:=y;refine C (hof f (A6 I)) ((hf i f (by simpa using I)).trans Y) λp hp=>q p ?_
    rw[g];exact List.mem_flatMap.2 ⟨_,A6 Y,hp⟩
   ·cases hok
def RdC(E:Env)(w:World)(ts:List T)(cs:List Value):Prop:=ts.length=cs.length/\∀(i:Nat) (t:T) (v:Value),ts[i]? =some t->cs[i]? =some v->Rd E w t v/\W9 t=true/\J1 t=true
theorem a58{E:Env}{as bs:List T}{u vs:List Value}(h:RdC E w as u)(k:RdC E w bs vs):RdC E w (as++bs) (u++vs):=by
 refine⟨by simp[h.1,k.1],λi t v hi hv=>?_⟩
 rw[List.getElem?_append] at hi hv
 rw[←h.1] at hv;split at hi
 ·rename_i d;rw[if_pos d] at hv;exact h.2 i t v hi hv
 ·rename_i d;rw[if_neg d] at hv;exact k.2 _ t v hi hv
theorem zJ{E:Env}{t:T}{v:Value}(h:Rd E w t v)(C:W9 t=true)(o:J1 t=true):RdC E w [t] [v]:=by
 refine⟨rfl,λi d V hi hv=>?_⟩
 cases i with
 |zero=>simp at hi hv;subst hi;subst hv;exact⟨h,C,o⟩
 |succ i=>simp at hi
theorem bX:∀{F:List Field} {n m:Nat},mF.endsAt P F n=m->m<18446744073709551616->n<=m/\∀f r,F=f::r->f.offset=n/\mF.endsAt P r (n+P.cellsOf f.type)=m:=by
 intro F;induction F with
 |nil=>intro n m h _;simp only[mF.endsAt] at h;exact⟨Z9,λf r d=>by cases d⟩
 |cons f F ih=>
  intro n m h hm;simp only[mF.endsAt] at h;split at h
  ·rename_i hb;obtain⟨h1,_⟩:=ih h hm;refine⟨Z9,λg r hg=>?_⟩
   cases hg;exact⟨H4 hb,h⟩
  ·omega
theorem c0F{E:Env}(hE:∀b,b<w.heap.size->E.N b):∀(d:Nat) {fuel:Nat} {t:TypeId} {cs:List Value} {x:DataW H} {ps:List MemPlace},mF P d t=true->
  DataW.trod enc P w base (λ_=>true) held fuel t cs=some (x,ps)->RdC E w (trT P d t x) cs:=by
 intro d;induction d with
 |zero=>intro fuel t cs x ps h;simp[mF] at h
 |succ d ih=>
  intro fuel t cs x ps hok h;unfold mF at hok;unfold trT;split at hok
  ·rename_i hu;obtain⟨b,rfl,he⟩:=DataW.trod_bool hu h;simp only[U1] at he;rw[he.1];exact zJ (.bool b) rfl rfl
  ·rename_i k hu;obtain⟨n,rfl,he,F⟩:=DataW.trod_int hu h;simp only[U1] at he;rw[he.1];exact zJ (.int k n) rfl rfl
  ·rename_i hu;obtain⟨s,rfl,he,F⟩:=DataW.trod_string hu h;simp only[U1] at he;rw[he.1];exact zJ (.str s.data.toList) rfl rfl
  ·rename_i e hu;simp only[M1] at hok;obtain⟨⟨_,hpos⟩,hoe⟩:=hok;have hpos:0<P.cellsOf e:=zT hpos;rcases DataW.trod_slice hu h with⟨rfl,he⟩|⟨a,len,cap,elems,rest,n,hn,rfl,hx,hb,hl,hm,hlen,hel,hsp1,_⟩
   ·simp only[U1] at he;rw[he.1];simp only[sV];split
    ·exact zJ .bysNil rfl rfl
    ·exact zJ (.slNil _ _) rfl rfl
   ·obtain rfl:fuel=n+1:=by omega
    simp only[U1] at hx;rw[hx.1];simp only[sV];have W:∀i,i<len->∃C,w.cells? base (a.add (i*P.cellsOf e)) (P.cellsOf e)=some C/\RdC E w (trT P d e ((elems.map (·.1)).getD i .nil)) C:=by
     intro i hi;have hl0:=hel i hi;have l:i<elems.length:=Z9
     rw[J5 l] at hl0
     obtain⟨C,r,O⟩:=Option.bind_eq_some_iff.1 hl0;refine⟨C,r,?_⟩
     have:=ih hoe (x:=elems[i].1) (ps:=elems[i].2) O;rw[Q2,pH,J5 l]
     exact this
    by_cases hz:cap=0
    ·have hl0:len=0:=by omega
     have Q:elems=[]:=List.eq_nil_of_length_eq_zero Z9
     subst hz;subst hl0;subst Q;simp only[List.map_nil];split
     ·exact zJ (.bysEmp a) rfl rfl
     ·exact zJ (.slEmp _ _ a) rfl rfl
    ·have B:a.spot=none:=by
      have:∃C,w.cells? base (a.add (0*P.cellsOf e)) (P.cellsOf e)=some C:=by
       by_cases hl0:0<len
       ·obtain⟨C,r,_⟩:=W 0 hl0;exact⟨C,r⟩
       ·obtain⟨hrl,hrest⟩:=hsp1 rfl;have h0:=hrest 0 Z9
        have l:0<rest.length:=Z9
        rw[J5 l] at h0
        obtain⟨C,r,_⟩:=Option.bind_eq_some_iff.1 h0;rw[show len+0=0 by omega] at r
        exact⟨C,r⟩
      obtain⟨C,r⟩:=this;obtain⟨_,g2,z⟩:=k9 r;have l:0<C.length:=Z9
      have:=z 0 C[0] (J5 l)
      have hs:=World.cell?_spot this
      rw[Nat.zero_mul] at hs
      simpa[Addr.add] using hs
     obtain⟨b,off,spot⟩:=a;simp only at B;subst B;have u:b<w.heap.size∨len=0:=by
      by_cases hl0:0<len
      ·left
       obtain⟨C,r,_⟩:=W 0 hl0;obtain⟨_,g2,z⟩:=k9 r;have l:0<C.length:=Z9
       have I:=z 0 C[0] (J5 l)
       unfold World.cell? at I;split at I
       ·rename_i hb';have:=(dH.1 hb').1
        rw[sE,sE] at this;exact this
       ·cases I
      ·exact .inr Z9
     have u:b<w.heap.size:=by
      rcases u with h|h
      ·exact h
      ·obtain⟨hrl,hrest⟩:=hsp1 rfl;have h0:=hrest 0 Z9
       have l:0<rest.length:=Z9
       rw[J5 l] at h0
       obtain⟨C,r,_⟩:=Option.bind_eq_some_iff.1 h0;obtain⟨_,g2,z⟩:=k9 r;have l:0<C.length:=Z9
       have I:=z 0 C[0] (J5 l)
       unfold World.cell? at I;split at I
       ·rename_i hb';have:=(dH.1 hb').1
        rw[sE,sE] at this;exact this
       ·cases I
     have A:∀i j,(Addr.add (Addr.add ⟨b,off,none⟩ i) j)=⟨b,off+i+j,none⟩:=λi j=>by rw[Addr.add_lit,Addr.add_lit]
     skip
     split
     ·rename_i M;have ab:P.cellsOf e=1:=by
       cases d with
       |zero=>simp[mF] at hoe
       |succ d=>
        unfold mF at hoe;rw[M] at hoe;exact H4 hoe
      refine zJ ?_ rfl rfl
      have q:((elems.map (·.1)).map trT.byD).length=len:=by simp[hlen]
      rw[←q];refine .bys _ b off cap (hE b u) (by rw[q];exact hl) λi x hx=>?_
      have hi:i<len:=by have:=(x7.1 hx).1;omega
      have hl0:=hel i hi;have l:i<elems.length:=Z9
      rw[J5 l] at hl0
      obtain⟨C,r,O⟩:=Option.bind_eq_some_iff.1 hl0;obtain⟨nn,aa,X,F⟩:=DataW.trod_int M O;obtain⟨_,_,z⟩:=k9 r;have:=z 0 (.int .u8 nn) (by rw[aa];rfl)
      rw[A,ab,Nat.mul_one,Nat.add_zero] at this;rw[this];simp only[pH,J5 l,o7,X4] at hx
      rw[←hx,X];simp only[trT.byD];have Z:P6 .u8 nn:=by
       simp only[Lit.wf] at F
       simpa[P6] using F
      rw[a1V Z]
     ·refine zJ ?_ rfl rfl
      have q:(elems.map (·.1)).length=len:=by simp[hlen]
      rw[q];have J:∀i j,i<len->∀t,(trT P d e ((elems.map (·.1)).getD i .nil))[j]? =some t->∃v,w.cell? ⟨b,off+i*P.cellsOf e+j,none⟩=some v/\Rd E w t v/\W9 t=true/\J1 t=true:=by
       intro i j hi t ht;obtain⟨C,r,V,q2⟩:=W i hi;obtain⟨_,_,z⟩:=k9 r;have l:j<C.length:=by rw[←V];exact(x7.1 ht).1
       have hv:=J5 l
       refine⟨_,?_,q2 j t _ ht hv⟩
       have:=z j _ hv;rw[A] at this;exact this
      refine .sl _ _ _ b off cap (λi j=>(w.cell? ⟨b,off+i*P.cellsOf e+j,none⟩).getD undef) (hE b u) hl (λi hi=>?_) (λi t hi ht=>?_) (λi j t hi ht=>?_) (λi j t hi ht=>?_)
      ·obtain⟨C,r,V,_⟩:=W i hi;rw[V];exact(k9 r).2.1
      ·obtain⟨j,hj⟩:=List.getElem?_of_mem ht
       obtain⟨v,_,_,hc,ho⟩:=J i j hi t hj;exact⟨ho,hc⟩
      ·obtain⟨v,hv,_⟩:=J i j hi t ht;rw[hv];rfl
      ·obtain⟨v,hv,Z,_⟩:=J i j hi t ht;rw[hv];exact Z
  ·rename_i fs hu;simp only[M1] at hok;have hof:=j8.1 hok.2;have hend:=H4 hok.1.1;have hbig:=Nat.blt_eq.mp hok.1.2;obtain⟨xs,n,hn,hx,hl,hxl,hf⟩:=DataW.trod_struct hu h;simp only[U1] at hx;rw[hx.1];simp only[b36];rw[a85 _ _ _ a9s]
   have key:∀(fl:List Field) (Y:List (DataW H×List MemPlace)) (o:Nat),mF.endsAt P fl o=P.cellsOf t->Y.length=fl.length->(∀f ∈ fl,mF P d f.type=true)->
     (∀(i:Nat) (f:Field),fl[i]? =some f->DataW.trod enc P w base (λ_=>true) held n f.type ((cs.drop f.offset).take (P.cellsOf f.type))=Y[i]?)->
     RdC E w ((fl.zip (Y.map (·.1))).flatMap λp=>trT P d p.1.type p.2) (cs.drop o):=by
    intro fl;induction fl with
    |nil=>
     intro Y o he L _ _;simp only[mF.endsAt] at he;subst he;rw[List.drop_of_length_le Z9]
     exact⟨rfl,λi t v hi=>by simp at hi⟩
    |cons f fl R=>
     intro Y o he L hok hg;cases Y with
     |nil=>simp at L
     |cons y Y=>
      obtain⟨e1,e2⟩:=(bX he hbig).2 f fl rfl;have ac:=(bX e2 hbig).1;have h0:=hg 0 f rfl;obtain⟨y1,y2⟩:=y;have r0:=ih (hok f X3) h0
      rw[e1] at r0;have r1:=R Y (o+P.cellsOf f.type) e2 (by simpa using L) (λg U=>hok g (by simp[U])) (λi g hi=>by
       have:=hg (i+1) g aZ
       simpa using this)
      have:=a58 r0 r1;rw[←List.drop_drop,List.take_append_drop] at this
      simpa using this
   have:=key fs.toList xs 0 hend a9s hof (λi f hi=>hf i f aZ)
   simpa using this
  ·cases hok
def wfD{H:Type}(P:Program):Nat->TypeId->DataW H->Prop
 |0,_,_=>False
 |d+1,t,x=>match P.underlying t with
  |some .bool=>∃b,x= .lit (.bool b)
  |some (.int k)=>∃n,x= .lit (.int k n)/\(Lit.int k n).wf=true
  |some .string=>∃l,x= .lit (.string l)/\l.length<=maxLen
  |some (.slice e)=>x= .nil∨∃xs sp,x= .slice xs sp/\xs.length<=maxLen/\∀y,y ∈ xs->wfD P d e y
  |some (.struct fs)=>∃xs,x= .agg xs/\xs.length=fs.size/\∀(i:Nat) (f:Field) (y:DataW H),fs[i]? =some f->xs[i]? =some y->wfD P d f.type y
  |_=>False
theorem b9I{g:Nat->Bool}:∀(d:Nat) {l:Nat} {t:TypeId} {cs:List Value} {x:DataW H} {ps:List MemPlace},mF P d t=true->DataW.trod enc P w base g held l t cs=some (x,ps)->wfD P d t x:=by
 intro d;induction d with
 |zero=>intro l t cs x ps h;simp[mF] at h
 |succ d I=>
  intro l t cs x ps hok h;unfold mF at hok;unfold wfD;split at hok
  ·rename_i hu;obtain⟨b,rfl,he⟩:=DataW.trod_bool hu h;simp only[U1] at he;exact⟨b,he.1⟩
  ·rename_i k hu;obtain⟨n,rfl,he,F⟩:=DataW.trod_int hu h;simp only[U1] at he;exact⟨n,he.1,F⟩
  ·rename_i hu;obtain⟨s,rfl,he,F⟩:=DataW.trod_string hu h;simp only[U1] at he;exact⟨_,he.1,by rw[Array.length_toList];exact F⟩
  ·rename_i e hu;simp only[M1] at hok;rcases DataW.trod_slice hu h with⟨rfl,he⟩|⟨a,len,cap,elems,rest,n,hn,rfl,hx,hb,hl,hm,hlen,hel,hsp1,_⟩
   ·simp only[U1] at he;exact .inl he.1
   ·simp only[U1] at hx;refine .inr ⟨_,_,hx.1,I0,λy hy=>?_⟩
    obtain⟨z,Z,rfl⟩:=List.mem_map.1 hy;obtain⟨i,hi,rfl⟩:=List.mem_iff_getElem.1 Z;have:=hel i Z9
    rw[J5 hi] at this
    obtain⟨C,o,j⟩:=Option.bind_eq_some_iff.1 this;exact I hok.2 j
  ·rename_i fs hu;simp only[M1] at hok;have hof:=j8.1 hok.2;obtain⟨xs,n,hn,hx,hl,hxl,hf⟩:=DataW.trod_struct hu h;simp only[U1] at hx;refine⟨_,hx.1,a9s,λi f y hfi hy=>?_⟩
   simp only[pH,G8] at hy
   obtain⟨z,Z,rfl⟩:=hy;exact I (hof f (by simpa using Array.mem_of_getElem? hfi)) ((hf i f hfi).trans Z)
  ·cases hok
theorem dT{j:Nat->Bool}{d:Nat}(W:∀b,b<w.heap.size->w'.heap[b]? =w.heap[b]?):∀{ts:List TypeId} {vs:List Value} {e:List (DataW H)} {ps:List MemPlace},(∀t ∈ ts,mF P d t=true)->
  DataW.TrodAll enc P w base (λ_=>true) held ts vs e ps->(∀p ∈ ps,j p.block=true)->DataW.TrodAll enc P w' base j held ts vs e ps:=by
 intro ts;induction ts with
 |nil=>
  intro vs e ps _ h _;cases vs<;>cases e<;>first|exact h|exact h.elim
 |cons t ts I=>
  intro vs e ps g h i;cases vs with
  |nil=>cases e<;>exact h.elim
  |cons v vs=>
   cases e with
   |nil=>exact h.elim
   |cons x e=>
    obtain⟨p,q,⟨f,hp⟩,Q,rfl⟩:=h;exact⟨p,q,⟨f,a51 W d (g t X3) hp λz Z=>i z (List.mem_append_left _ Z)⟩,I (λt l=>g t (by simp[l])) Q λz Z=>i z (List.mem_append_right _ Z),rfl⟩
theorem b1J{n:Bool}{f:Func}{s:ChangeSpec}{W W':World}{args:Array Value}{l M:List (DataW H)}{B:List MemPlace}{d:Nat}{tb:TypeId}
  (F:DataW.Whole enc P f.params.toList s.vars false W args.toList l M B) (e:s.vars=[]) (N:s.fn H l={results:=[.lit (.bool true)],args:=l})
  (j:f.resultTypes= #[tb]) (v:P.underlying tb=some .bool) (A:∀t ∈ f.params.toList,mF P d t=true) (x:Below W.heap.size W W'):
  s.post enc P f false true false n W args (.bool true) W':=by
 have r:=F;obtain⟨p,q,J,V,rfl,Z,O⟩:=F;rw[e] at V;obtain⟨rfl,rfl⟩:=ChangeShapes.trodVars_none V;simp only[List.append_nil] at r Z;have o:∀z ∈ p,z.block<W.heap.size:=λz hz=>J.lt z hz
 have g:∀(b:Nat) (i:Nat->Bool) (hd:Bool),DataW.TrodAll enc P W' b i hd f.resultTypes.toList ((Value.bool true).resultList f.resultTypes.size) (s.fn H (l++[])).results []:=by
  intro b i hd;rw[List.append_nil,N,j];exact trodAll_cons_mk (shut_bool v _) ChangeShapes.trodAll_mk0
 have h:∀i:Nat->Bool,(∀z ∈ p,i z.block=true)->DataW.TrodAll enc P W' 0 i true f.params.toList args.toList (s.fn H (l++[])).args p:=by
  intro i C;rw[List.append_nil,N];exact dT x.block A J C
 have u:∀i:Nat->Bool,DataW.TrodVars enc P W' i s.vars (s.fn H (l++[])).vars []:=by
  intro i;rw[List.append_nil,N,e];rfl
 refine⟨l,[],p,[],p,[],r,g _ _ _,h _ (λz hz=>by simpa using o z hz),u _,x.frame _,λ_=>⟨?_,_,_,([]++p)++[],⟨[]++p,[],ChangeShapes.trodAll_append (h _ (λ_ _=>rfl)) (g _ _ _),u _,rfl,?_,?_⟩,?_⟩⟩
 ·exact ok_one j rfl (okWide_bool_mk v _)
 ·intro b off hp;have hp':MemPlace.cell b off ∈ p:=by simpa using hp
  have I:=Z b off hp';have L:=x.block b (o _ hp');unfold World.frozen? at I ⊢;rw[L];exact I
 ·intro Q;cases Q
 ·intro z hz _
  simpa using hz
def E0(W:World):Env:=⟨λb=>b<W.heap.size,λ_=>False,λ_=>0,λ_=>0,λ_=>(0,[]),λ_ _=>False,λ_ _ _ _=>0,λ_ _ _ _=>0⟩
theorem b2y{f:FuncId}{W:World}{args:Array Value}{ts:List T}(h:V2 P f ts (.bool true))(A:uJ (E0 W) W ts args):Calls P f args W λe W'=>e= .returned (.bool true)/\Below W.heap.size W W':=by
 refine(h (E0 W) W args (λ_=>⟨λh=>h,λ_ h=>h⟩) (λ_ h=>h) A).mono λe W' d=>?_
 obtain⟨v,rfl,B,r⟩:=d;rw[u7 r];exact⟨rfl,B⟩
def lJ{H:Type}(P:Program)(d:Nat):List TypeId->List (DataW H)->Prop
 | [],[]=>True
 |t::ts,x::xs=>wfD P d t x/\lJ P d ts xs
 |_,_=>False
theorem vI{d:Nat}{t:TypeId}{ts:List TypeId}{xs:List (DataW H)}(h:lJ P d (t::ts) xs):∃x xs',xs=x::xs'/\wfD P d t x/\lJ P d ts xs':=by
 cases xs with
 |nil=>exact h.elim
 |cons x xs=>exact⟨x,xs,rfl,h.1,h.2⟩
theorem aW{d:Nat}{xs:List (DataW H)}(h:lJ P d [] xs):xs=[]:=by
 cases xs with
 |nil=>rfl
 |cons x xs=>exact h.elim
def a6G{H:Type}(P:Program)(d:Nat)(t:TypeId)(x:DataW H):T:=match P.underlying t with
 |some (.struct _)=>.agg (trT P d t x)
 |_=>(trT P d t x).headD .und
def rA{H:Type}(P:Program)(d:Nat):List TypeId->List (DataW H)->List T
 |t::ts,x::xs=>a6G P d t x::rA P d ts xs
 |_,_=>[]
theorem c3m{E:Env}{d:Nat}{t:TypeId}{x:DataW H}{v:Value}{B:Nat}(f:mF P d t=true)(hval:Value.okWide P w .any B t v)(h:RdC E w (trT P d t x) v.cells.toList):Rd E w (a6G P d t x) v:=by
 cases d with
 |zero=>simp[mF] at f
 |succ d=>
  have one:∀{v:Value} {ts:List T},v.cells= #[v]->RdC E w ts v.cells.toList->Rd E w (ts.headD .und) v:=by
   intro v ts C h;rw[C] at h;obtain⟨h1,h2⟩:=h;cases ts with
   |nil=>simp at h1
   |cons y ts=>exact(h2 0 y v rfl rfl).1
  unfold mF at f;unfold a6G;split at f
  ·rename_i hu;rw[hu];obtain⟨b,rfl⟩:=WideShapes.okWide_bool hu hval;exact one rfl h
  ·rename_i k hu;rw[hu];obtain⟨b,rfl⟩:=WideShapes.okWide_int hu hval;exact one rfl h
  ·rename_i hu;rw[hu];obtain⟨b,rfl⟩:=WideShapes.okWide_string hu hval;exact one rfl h
  ·rename_i e hu;rw[hu];obtain⟨a,l,c,rfl⟩:=WideShapes.okWide_slice hu hval;exact one rfl h
  ·rename_i fs hu;rw[hu];obtain⟨cs,rfl,_⟩:=WideShapes.okWide_struct hu hval;obtain⟨h1,h2⟩:=h;refine .agg _ _ (by simpa[Value.cells] using h1) λi t x hi hx=>(h2 i t x hi ?_).1
   simpa[Value.cells] using hx
  ·cases f
theorem b80{d:Nat}:∀{ts:List TypeId} {vs:List Value} {f:List (DataW H)} {ps:List MemPlace} {base:Nat},(∀t ∈ ts,mF P d t=true)->DataW.TrodAll enc P w 0 (λ_=>true) true ts vs f ps->
  (∀(j:Nat) t v,ts[j]? =some t->vs[j]? =some v->Value.okWide P w .any base t v)->lJ P d ts f/\(rA P d ts f).length=vs.length/\∀(i:Nat) (t:T) (x:Value),(rA P d ts f)[i]? =some t->vs[i]? =some x->Rd (E0 w) w t x:=by
 intro ts;induction ts with
 |nil=>
  intro vs f ps base _ h _;obtain⟨rfl,rfl,rfl⟩:=ChangeShapes.trodAll_nil h;exact⟨trivial,rfl,λi t x hi=>by simp[rA] at hi⟩
 |cons t ts I=>
  intro vs f ps base g h hv;obtain⟨C,V,J,u,p0,Q,rfl,rfl,rfl,⟨F,o⟩,R⟩:=ChangeShapes.trodAll_cons h;obtain⟨z,q,A⟩:=I (base:=base) (λt l=>g t (by simp[l])) R λj t v l n=>hv (j+1) t v (by simpa using l) (by simpa using n)
  have e:=g t X3
  refine⟨⟨b9I d e o,z⟩,by simp[rA,q],λi r x hi X=>?_⟩
  cases i with
  |zero=>
   simp[rA] at hi X;subst hi;subst X;exact c3m e (hv 0 t C rfl rfl) (c0F (E:=E0 w) (λb B=>B) d e o)
  |succ i=>exact A i r x (by simpa[rA] using hi) gB
theorem b8W{n:Bool}{f:FuncId}{fn:Func}{s:ChangeSpec}{W:World}{base:Nat}{args:Array Value}{o Q:List (DataW H)}{B:List MemPlace}(d:Nat){tb:TypeId}
  (L:∀(j:Nat) t v,fn.params[j]? =some t->args[j]? =some v->Value.okWide P W .any base t v)
  (F:DataW.Whole enc P fn.params.toList s.vars false W args.toList o Q B) (h:s.vars=[]) (N:lJ P d fn.params.toList o->s.fn H o={results:=[.lit (.bool true)],args:=o})
  (u:fn.resultTypes= #[tb]) (C:P.underlying tb=some .bool) (g:fn.params.toList.all (mF P d)=true)
  (r:lJ P d fn.params.toList o->∃ts,V2 P f ts (.bool true)/\∀vs:Array Value,uJ (E0 W) W (rA P d fn.params.toList o) vs->uJ (E0 W) W ts vs):
  Calls P f args W λe W'=>∃v,e= .returned v/\s.post enc P fn false true false n W args v W':=by
 have g:=j8.1 g;have z:=F;obtain⟨p,q,R,V,rfl,Z,X⟩:=F;rw[h] at V;obtain⟨rfl,rfl⟩:=ChangeShapes.trodVars_none V;obtain⟨I,J,Y⟩:=b80 (base:=base) g R λj t v M hv=>L j t v (by simpa using M) a0f
 obtain⟨ts,l,A⟩:=r I;refine(b2y l (A args ⟨by simpa using J,λi t x hi hx=>Y i t x hi (by simpa using hx)⟩)).mono λe W' U=>?_
 obtain⟨rfl,O⟩:=U;exact⟨_,rfl,b1J (d:=d) z h (N I) u C g O⟩
end
end Go.SS
