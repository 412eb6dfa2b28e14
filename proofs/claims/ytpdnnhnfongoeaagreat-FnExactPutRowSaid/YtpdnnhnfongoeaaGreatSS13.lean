/- A part of the proof. -/
import Derived.Test.YtpdnnhnfongoeaaGreatSS11
import Derived.Orders
namespace Go.SS
open Go.RowKit
section
variable {c:Ctx} {E:Env} {H:X9} {w:World} {P:Program} {G:H6}
def c1p(hG:B6 P G)(h:Inv c E H w){f:FuncId}{args:List T}{vs:Array Value}{r:T}{p:Option Prop}(he:zA G H f args=some (r,p))(hp:p.getD True)(ha:tC E w args vs):
  Calls P f vs w λe w'=>∃v E',e= .returned v/\Inv c E' H w'/\Step E w E' w'/\Rd E' w' r v:=by
 unfold zA at he;split at he
 ·rename_i hcl;have hpf:=b6R hG he hp;have:=hpf {E with L:=λ_=>False,L2:=λ_ _=>False} w vs (λ_=>⟨λh=>h,λ_ h=>h⟩) h.nlt ⟨ha.1,λi t x hi hx=>Rd.closedD (E:=E) (E':={E with L:=λ_=>False,L2:=λ_ _=>False}) (λ_ h=>h) 6 (ha.2 i t x hi hx) (b9.1 hcl t (y4 hi))⟩
  refine this.mono λe w' q=>?_
  obtain⟨v,rfl,hb,R⟩:=q;obtain⟨n,j⟩:=h.grow hb.os hb.tape hb.output hb.size hb.block;exact⟨v,_,rfl,n,j,Rd.mono (E:=({E with L:=λ_=>False,L2:=λ_ _=>False}:Env).addN λb=>w.heap.size<=b/\b<w'.heap.size) (E':=E.addN λb=>w.heap.size<=b/\b<w'.heap.size) ⟨λ_ h=>h,λ_ h=>False.elim h,λ_ h=>False.elim h,λ_ h=>False.elim h,λ_ h=>False.elim h,λ_ _ h=>False.elim h,λ_ _ _ _ h=>False.elim h,λ_ _ _ _ h=>False.elim h⟩ (λ_ _=>rfl) R⟩
 ·split at he
  ·rename_i bs hbs;split at he
   ·rename_i r' p' hg;split at he
    ·rename_i l;simp only[X0,U4] at he;obtain⟨rfl,rfl⟩:=he;obtain⟨d,o⟩:=xN hp;have hpf:=b6R hG hg o;obtain⟨b1,b2⟩:=J3 hbs;have:=hpf (E.lent 0 H) w vs (λ_=>⟨λh=>absurd h.2 (D2 _),λ_ h=>absurd h.2 (D2 _)⟩) (λb hb=>by
      rcases hb with hb|⟨k,ob,_,hk,hb⟩
      ·exact h.nlt b hb
      ·exact h.heap.blt hk hb) ⟨by simp[b1,ha.1],λi t x hi hx=>by
       simp only[oE,F1] at hi
       obtain⟨y,Y,rfl⟩:=hi;have g:i<args.length:=by rw[←b1];exact(u6.1 Y).1
       have C:=I1 g
       exact o6 h 6 (r:=y.1) (p:=y.2) (b2 i _ y C Y) (zU d y (y4 Y)) (ha.2 i _ x C hx)⟩
     refine this.mono λe w' q=>?_
     obtain⟨v,rfl,hb,R⟩:=q;obtain⟨n,j⟩:=h.grow hb.os hb.tape hb.output hb.size hb.block;exact⟨v,_,rfl,n,j,R.plain 6 l⟩
    ·cases he
   ·cases he
  ·cases he
def c47(c:Ctx)(E:Env)(w:World)(o:Oper)(a:Act)(y:T)(H':X9)(K:Act->World->Prop):Prop:=
 ∀v w' E',Inv c E' H' w'->Step E w E' w'->Rd E' w' y v->K (a.put o.dst v) w'
def zY{o:Oper}{a:Act}{K:Act->World->Prop}{Q:Exit->Act->World->Prop}{v:Value}{w':World}(h:(execOp a.eval o).run P w= .ok (.value v) w')(d:K (a.put o.dst v) w'):o.wp P a w K Q:=by
 unfold Oper.wp;rw[h];exact d
def c3F{o:Oper}{a:Act}{K:Act->World->Prop}{Q:Exit->Act->World->Prop}{w':World}(h:(execOp a.eval o).run P w= .ok .skip w')(d:K (a.put o.dst undef) w'):o.wp P a w K Q:=by
 unfold Oper.wp;rw[h];exact d
def dC{o:Oper}{a:Act}{K:Act->World->Prop}{Q:Exit->Act->World->Prop}{f:FuncId}{vs:Array Value}{w':World}(h:(execOp a.eval o).run P w= .ok (.enter f vs) w')
  (d:Calls P f vs w' λe W=>∃v,e= .returned v/\K (a.put o.dst v) W):o.wp P a w K Q:=by
 unfold Oper.wp;rw[h,Oper.upon_enter];refine d.mono λe W g=>?_
 obtain⟨v,rfl,hv⟩:=g;exact hv
def b0L{a:Act}{s:W4}{x:Operand}{f:FuncId}{cs:List T}(h:bB s x=some (f,cs))(hx:F0 E w a s x):∃caps,a.eval x= .func (.func f) #[] caps/\tC E w cs caps:=by
 unfold bB at h;split at h
 ·simp only[X0,U4] at h;obtain⟨rfl,rfl⟩:=h;exact⟨#[],rfl,rfl,λi t x hi=>by simp at hi⟩
 ·unfold F0 at hx;split at h
  ·rename_i g cs' he;simp only[X0,U4] at h;obtain⟨rfl,rfl⟩:=h;rw[he] at hx;generalize a.eval x=v at hx;cases hx with
   |fn _ _ vs l d=>exact⟨vs,rfl,l,d⟩
  ·rename_i g first caps he
   rw[he] at hx;split at h
   ·rename_i hf hc;simp only[X0,U4] at h;obtain⟨rfl,rfl⟩:=h;obtain rfl:first= #[]:=Array.ext' a4N
    obtain rfl:caps= #[]:=Array.ext' (by simpa using hc)
    exact⟨#[],vP hx,rfl,λi t x hi=>by simp at hi⟩
   ·cases h
  ·cases h
def Q6(P:Program)(f:FuncId):Prop:=∃fn,P.funcs[f]? =some fn/\(fn.name== "runtime.NumGoroutine")=false/\fn.body.isNone=false
def dX{a:Act}{o:Oper}{x:Operand}{args:Array Operand}{at_:Array TypeId}{f:FuncId}{caps:Array Value}(O:o.op= .call {callee:=.value x,args:=args,argTypes:=at_})(h:Q6 P f)(X:a.eval x= .func (.func f) #[] caps):
  (execOp a.eval o).run P w= .ok (.enter f (args.map a.eval++caps)) w:=by
 obtain⟨fn,e,d,g⟩:=h;simp only[execOp,O,resolve,X,Deferred.ofValue,D1,z5,D6,invoke,callFunc,run_program,e,d,g];simp
def eS{as bs:List T}{u vs:Array Value}(h:tC E w as u)(k:tC E w bs vs):tC E w (as++bs) (u++vs):=by
 refine⟨by simp[h.1,k.1],λi t x hi X=>?_⟩
 rw[List.getElem?_append] at hi
 rw[Array.getElem?_append] at X
 rw[←h.1] at X;split at hi
 ·rename_i d;rw[if_pos d] at X;exact h.2 i t x hi X
 ·rename_i d;rw[if_neg d] at X;exact k.2 _ t x hi X
def a1i{a:Act}{s:W4}{args:Array Operand}(h:∀x ∈ args.toList,F0 E w a s x):tC E w (args.toList.map (K6 s)) (args.map a.eval):=by
 refine⟨W7,λi t x hi X=>?_⟩
 simp only[oE,Array.getElem?_map,F1,Array.getElem?_toList] at hi X
 obtain⟨p,hp,rfl⟩:=hi;obtain⟨q,Q,rfl⟩:=X;rw[hp] at Q;simp only[X0] at Q;subst Q;exact h p (by simpa using Array.mem_of_getElem? hp)
def b08:∀(d:Nat) {t q:T} {E:Env} {w:World} {v:Value},yD d t q->Rd E w t v->Rd E w q v:=by
 intro d;induction d with
 |zero=>intro t q E w v h;exact h.elim
 |succ d F=>
  have L:∀{as bs:List T},yD.matsV (yD d) as bs->as.length=bs.length/\∀(i:Nat) (a b:T),as[i]? =some a->bs[i]? =some b->yD d a b:=by
   intro as;induction as with
   |nil=>
    intro bs h;cases bs with
    |nil=>exact⟨rfl,λi a b o=>by simp at o⟩
    |cons=>exact h.elim
   |cons a as I=>
    intro bs h;cases bs with
    |nil=>exact h.elim
    |cons b bs=>
     obtain⟨g,h2⟩:=I h.2;refine⟨by simp[g],λi x y hx Y=>?_⟩
     cases i with
     |zero=>simp at hx Y;subst hx;subst Y;exact h.1
     |succ i=>exact h2 i x y (by simpa using hx) a4J
  have listP:∀{as bs:List T},yD.matsP (yD d) as bs->∀(i:Nat) (b:T),bs[i]? =some b->∃a,as[i]? =some a/\yD d a b:=by
   intro as bs;induction bs generalizing as with
   |nil=>intro _ i b hb;simp at hb
   |cons b bs B=>
    intro h i c C;cases as with
    |nil=>exact h.elim
    |cons a as=>
     cases i with
     |zero=>simp at C;subst C;exact⟨a,rfl,h.1⟩
     |succ i=>obtain⟨x,hx,M⟩:=B h.2 i c (by simpa using C);exact⟨x,by simpa using hx,M⟩
  intro t q E w v h hx;have r:∀{as bs:List T} {vs:Array Value},yD.matsV (yD d) as bs->as.length=vs.size->(∀(i:Nat) (t:T) (x:Value),as[i]? =some t->vs[i]? =some x->Rd E w t x)->
    bs.length=vs.size/\∀(i:Nat) (t:T) (x:Value),bs[i]? =some t->vs[i]? =some x->Rd E w t x:=by
   intro as bs vs M l e;obtain⟨g,h2⟩:=L M;refine⟨Z9,λi t x hi hx=>?_⟩
   have f:i<as.length:=by rw[g];exact(u6.1 hi).1
   exact F (h2 i _ t (I1 f) hi) (e i _ x (I1 f) hx)
  unfold yD at h;split at h
  ·exact .und _
  ·split at h
   ·rename_i O;obtain rfl:=G7 O;subst h;exact hx
   ·exact h.elim
  ·subst h;exact hx
  ·subst h;exact hx
  ·subst h;exact hx
  ·subst h;rw[vP hx];exact .slNil _ _
  ·subst h;rw[vP hx];exact .bysNil
  ·subst h;cases hx with|emp a=>cases a with|none=>exact .slNil _ _|some a=>exact .slEmp _ _ _
  ·subst h;cases hx with|emp a=>cases a with|none=>exact .bysNil|some a=>exact .bysEmp _
  ·exact hx
  ·subst h;exact hx
  ·split at h
   ·rename_i hb;obtain rfl:=F5 hb;obtain⟨rfl,hr⟩:=h;cases hx with
    |slNil=>exact .slNil _ _
    |slEmp=>exact .slEmp _ _ _
    |sl _ _ _ b off cap u N C l g z e=>
     exact .sl _ _ _ b off cap u N C (λi hi=>by rw[←hr i hi];exact l i hi) (λi t hi M=>by rw[←hr i hi] at M;exact g i t hi M) (λi j t hi J=>by rw[←hr i hi] at J;exact z i j t hi J) (λi j t hi J=>by rw[←hr i hi] at J;exact e i j t hi J)
   ·exact h.elim
  ·split at h
   ·rename_i hb;obtain rfl:=F5 hb;obtain⟨rfl,rfl⟩:=h;exact hx
   ·exact h.elim
  ·split at h
   ·rename_i hb;obtain rfl:=F5 hb;obtain⟨rfl,rfl⟩:=h;exact hx
   ·exact h.elim
  ·split at h
   ·rename_i hb;obtain rfl:=F5 hb;exact hx
   ·exact h.elim
  ·cases hx with
   |agg _ vs l e=>obtain⟨A,n⟩:=r h l e;exact .agg _ vs A n
  ·cases hx with
   |tup _ vs l e=>obtain⟨A,n⟩:=r h l e;exact .tup _ vs A n
  ·obtain⟨rfl,h⟩:=h;cases hx with
   |fn _ _ vs l e=>obtain⟨A,n⟩:=r h l e;exact .fn _ _ vs A n
  ·rename_i as bs;split at h
   ·rename_i hcl;have h2:=listP h;cases hx with
    |bref _ b off u N C hr e=>
     refine .bref _ b off u N (λt e=>b9.1 hcl t e) (λj t J=>?_) (λj t J=>?_)
     ·obtain⟨a,o,_⟩:=h2 j t J;exact hr j _ o
     ·obtain⟨a,o,M⟩:=h2 j t J;exact F M (e j _ o)
   ·exact h.elim
  ·exact h.elim
def aS:∀{G:H6} {f:FuncId} {c:Con},s9 G f=some c->(f,c) ∈ G:=by
 intro G;induction G with
 |nil=>intro f c h;cases h
 |cons x G i=>
  intro f c h;obtain⟨g,d⟩:=x;simp only[s9] at h;split at h
  ·rename_i B;obtain rfl:=F5 B;simp only[X0] at h;subst h;simp
  ·simp[i h]
def a54:∀{G:H6} {f:FuncId} {c:Con},(f,c) ∈ G->c.isEff=true->anyEff G=true:=by
 intro G;induction G with
 |nil=>intro f c h;cases h
 |cons x G i=>
  intro f c h C;obtain⟨g,d⟩:=x;simp only[anyEff,nT];rcases vN.1 h with h|h
  ·simp only[U4] at h;obtain⟨_,rfl⟩:=h;exact .inl C
  ·exact .inr (i h C)
def b9X{G:H6}{f:FuncId}{c:Con}(h:c1l G f=some c):(f,c) ∈ G/\s9 G f=some c:=by
 unfold c1l at h;split at h
 ·rename_i d hd;split at h
  ·simp only[X0] at h;subst h;exact⟨aS hd,hd⟩
  ·cases h
 ·cases h
def iJ{as bs:List T}{E:Env}{w:World}{vs:Array Value}(h:kM as bs)(A:tC E w as vs):tC E w bs vs:=by
 have l:∀{as bs:List T},yD.matsV (yD 6) as bs->as.length=bs.length/\∀(i:Nat) (a b:T),as[i]? =some a->bs[i]? =some b->yD 6 a b:=by
  intro as;induction as with
  |nil=>
   intro bs h;cases bs with
   |nil=>exact⟨rfl,λi a b A=>by simp at A⟩
   |cons=>exact h.elim
  |cons a as I=>
   intro bs h;cases bs with
   |nil=>exact h.elim
   |cons b bs=>
    obtain⟨g,f⟩:=I h.2;refine⟨by simp[g],λi x y X Y=>?_⟩
    cases i with
    |zero=>simp at X Y;subst X;subst Y;exact h.1
    |succ i=>exact f i x y eF a4J
 obtain⟨e,j⟩:=l h;refine⟨by rw[←e];exact A.1,λi t v hi hv=>?_⟩
 have d:i<as.length:=by rw[e];exact(u6.1 hi).1
 exact b08 6 (j i _ t (I1 d) hi) (A.2 i _ v (I1 d) hv)
def b3W{d:Nat}:∀{as bs:List T},yD.matsV (yD d) as bs->as.length=bs.length/\∀(i:Nat) (a b:T),as[i]? =some a->bs[i]? =some b->yD d a b:=by
 intro as;induction as with
 |nil=>
  intro bs h;cases bs with
  |nil=>exact⟨rfl,λi a b A=>by simp at A⟩
  |cons=>exact h.elim
 |cons a as I=>
  intro bs h;cases bs with
  |nil=>exact h.elim
  |cons b bs=>
   obtain⟨f,e⟩:=I h.2;refine⟨by simp[f],λi x y X Y=>?_⟩
   cases i with
   |zero=>simp at X Y;subst X;subst Y;exact h.1
   |succ i=>exact e i x y eF a4J
def dQ:∀{as bs:List T},b58 as bs->as.length=bs.length/\∀(i:Nat) (b:T),bs[i]? =some b->∃a,as[i]? =some a/\b9F a b:=by
 intro as;induction as with
 |nil=>intro bs h;cases bs with
  |nil=>exact⟨rfl,λi b B=>by simp at B⟩
  |cons=>exact h.elim
 |cons a as I=>intro bs h;cases bs with
  |nil=>exact h.elim
  |cons b bs=>
   obtain⟨e,d⟩:=I h.2;refine⟨by simp[e],λi y Y=>?_⟩
   cases i with
   |zero=>simp at Y;subst Y;exact⟨a,rfl,h.1⟩
   |succ i=>obtain⟨x,X,f⟩:=d i y a4J;exact⟨x,eF,f⟩
def tJ{a b:T}(h:b9F a b):(a=b)∨∃ty sz n row ty' row',a= .own ty sz n row/\b= .own ty' sz n row'/\Z7 n row row':=by
 unfold b9F at h;split at h
 ·obtain⟨rfl,rfl,h⟩:=h;exact .inr ⟨_,_,_,_,_,_,rfl,rfl,h⟩
 ·exact .inl h
def gY{E:Env}{w:World}{k:Nat}{o o':Ob}(h:a3H (some o) (some o'))(ho:zZ E w k o):zZ E w k o'/\(∀b,A3 E k o' b↔A3 E k o b)/\∀v ty sz n row,o= .fam v ty sz n row->∃ty' row',o'= .fam v ty' sz n row':=by
 unfold a3H at h;split at h
 ·rename_i cl ty sz n row cl' ty' sz' n' row' he he';simp only[X0] at he he';subst he;subst he';have hblk:∀{o:Ob} (b:Nat),o.isArr=true->(A3 E k o b↔(E.κ k≠0/\b=E.β k)):=λb hi=>⟨λhb=>hb.arr hi,λhb=>.inl hb⟩
  refine⟨?_,λb=>(hblk b rfl).trans (hblk b rfl).symm,λ_ _ _ _ _ hh=>by cases hh⟩
  obtain⟨e1,e2,e3,e4,e5,cs,tyc,e6,e7,e8⟩:=(show T5 E w k ⟨cl,ty,sz,n,row⟩ from ho)
  show T5 E w k ⟨cl',ty',sz',n',row'⟩;simp only at e1 e2 e3 e4 e5 e7 e8;split at h
  ·rename_i hb;obtain rfl:=F5 hb;obtain⟨rfl,hr⟩:=h;exact⟨e1,e2,λi hi=>by simp only;rw[←hr i hi];exact e3 i hi,λi t hi ht=>e4 i t hi (by rw[hr i hi];exact ht),λ_ i t hi ht=>e5 rfl i t hi (by rw[hr i hi];exact ht),cs,tyc,e6,e7,λi j t hi hj=>e8 i j t hi (by rw[hr i hi];exact hj)⟩
  ·rename_i hb;obtain rfl:=F5 hb;split at h
   ·rename_i hone;obtain⟨rfl,rfl,hm⟩:=h;obtain⟨m1,m2⟩:=b3W hm;refine⟨e1,e2,λi hi=>?_,λi t hi ht=>?_,λhc=>(by cases hc),cs,tyc,e6,e7,λi j t hi hj=>?_⟩
    ·obtain rfl:i=0:=by have:i<1:=hi;omega
     simp only;rw[←m1];exact e3 0 Z9
    ·obtain rfl:i=0:=by have:i<1:=hi;omega
     exact b9.1 hone t ht
    ·obtain rfl:i=0:=by have:i<1:=hi;omega
     have hlt:j<(row 0).length:=by rw[m1];exact(u6.1 hj).1
     obtain⟨u,hu,hr⟩:=e8 0 j _ Z9 (I1 hlt)
     exact⟨u,hu,b08 6 (m2 j _ t (I1 hlt) hj) hr⟩
   ·exact h.elim
  ·exact h.elim
 ·rename_i v ty sz n row v' ty' sz' n' row' he he';simp only[X0] at he he';subst he;subst he';split at h
  case h_2=>exact h.elim
  rename_i hb;obtain rfl:=F5 hb;obtain⟨rfl,rfl,hr⟩:=h;have hF:FamOk E w k v ty sz n row:=ho;have back:∀(i j:Nat) (t:T),i<n->(row' i)[j]? =some t->∃t0,(row i)[j]? =some t0/\b9F t0 t:=λi j t hi hj=>(dQ (hr i hi)).2 j t hj
  have ownb:∀(i j:Nat) (oty:TypeId) (osz on:Nat) (orow:Nat->List T),i<n->(row' i)[j]? =some (.own oty osz on orow)->∃(oty0:TypeId) (orow0:Nat->List T),(row i)[j]? =some (.own oty0 osz on orow0)/\Z7 on orow0 orow:=by
   intro i j oty osz on orow hi hj;obtain⟨t0,h0,hc⟩:=back i j _ hi hj;rcases tJ hc with rfl|⟨ty1,sz1,n1,row1,ty2,pH,rfl,he,hrr⟩
   ·exact⟨_,_,h0,λ_ _=>rfl⟩
   ·cases he;exact⟨_,_,h0,hrr⟩
  refine⟨?_,λb=>⟨λhb=>?_,λhb=>?_⟩,λ_ _ _ _ _ hh=>by cases hh;exact⟨_,_,rfl⟩⟩
  ·show FamOk E w k v ty' sz n row';obtain⟨e1,e2,e3,e4,e5,cs,tyc,e6,e7,e8⟩:=hF.arr;refine i7 hF.l2 e1 e2 cs tyc e6 e7 (λr hr'=>by rw[← (dQ (hr r hr')).1];have:=e3 r hr';rwa [O5] at this) (λr q t hr' hq=>?_) (λi j i' j' oty osz on orow oty' osz' on' orow' hi hi' hj hj' hc hc' he=>?_)
   ·obtain⟨t0,h0,hc⟩:=back r q t hr' hq;obtain⟨u,hu,hru⟩:=e8 r q (rV k v r q t0) hr' (by simp only;rw[I5,h0];rfl)
    rcases hF.cell hr' h0 with hco|⟨oty,osz,on,orow,rfl⟩
    ·rcases tJ hc with rfl|⟨_,_,_,_,_,_,rfl,_⟩
     ·rw[M1 hco] at hru;exact⟨u,hu,.inl ⟨hco,hru⟩⟩
     ·simp[closedOne,W5] at hco
    ·obtain⟨g1,g2⟩:=hF.own r q _ _ _ _ hr' h0;have:∃(ty2:TypeId) (pH:Nat->List T),t= .own ty2 osz on pH/\Z7 on orow pH:=by
      rcases tJ hc with rfl|⟨_,_,_,_,_,_,he,rfl,hrr⟩
      ·exact⟨_,_,rfl,λ_ _=>rfl⟩
      ·cases he;exact⟨_,_,rfl,hrr⟩
     obtain⟨ty2,pH,rfl,hrr⟩:=this;refine⟨u,hu,.inr ⟨_,_,_,_,rfl,hru,?_,g2⟩⟩
     obtain⟨f1,f2,f3,f4,f5,cs2,tyc2,f6,f7,f8⟩:=g1;simp only at f3 f4 f5 f8;exact⟨f1,f2,λi hi=>by simp only;rw[←hrr i hi];exact f3 i hi,λi t hi ht=>f4 i t hi (by rw[hrr i hi];exact ht),λ_ i t hi ht=>f5 trivial i t hi (by rw[hrr i hi];exact ht),cs2,tyc2,f6,f7,λi j t hi hj=>f8 i j t hi (by rw[hrr i hi];exact hj)⟩
   ·obtain⟨_,_,p1,_⟩:=ownb i j _ _ _ _ hi hj;obtain⟨_,_,p2,_⟩:=ownb i' j' _ _ _ _ hi' hj';exact hF.inj i j i' j' _ _ _ _ _ _ _ _ hi hi' p1 p2 hc hc' he
  ·rcases hb with hb|⟨v0,ty0,sz0,n0,P1,i0,j0,oty1,osz1,on1,orow1,hobe,hi0,hj0,hc0,rfl⟩
   ·exact .inl hb
   ·simp only[Ob.fam.injEq] at hobe;obtain⟨rfl,rfl,rfl,rfl,rfl⟩:=hobe;obtain⟨_,_,p1,_⟩:=ownb i0 j0 _ _ _ _ hi0 hj0;exact .inr ⟨_,_,_,_,_,_,_,_,_,_,_,rfl,hi0,p1,hc0,rfl⟩
  ·rcases hb with hb|⟨v0,ty0,sz0,n0,P1,i0,j0,oty1,osz1,on1,orow1,hobe,hi0,hj0,hc0,rfl⟩
   ·exact .inl hb
   ·simp only[Ob.fam.injEq] at hobe;obtain⟨rfl,rfl,rfl,rfl,rfl⟩:=hobe;have hl:=(dQ (hr i0 hi0)).1;have hlt:j0<(row' i0).length:=by rw[←hl];exact(u6.1 hj0).1
    obtain⟨t0,h0,hc⟩:=back i0 j0 _ hi0 (I1 hlt)
    rw[hj0] at h0;simp only[X0] at h0;subst h0;have hg:=I1 hlt
    rcases tJ hc with he|⟨_,_,_,_,_,_,he,he2,_⟩
    ·rw[←he] at hg;exact .inr ⟨_,_,_,_,_,_,_,_,_,_,_,rfl,hi0,hg,hc0,rfl⟩
    ·rw[he2] at hg;exact .inr ⟨_,_,_,_,_,_,_,_,_,_,_,rfl,hi0,hg,hc0,rfl⟩
 ·rename_i ty l ty' l' he he';simp only[X0] at he he';subst he;subst he';subst h;refine⟨?_,λb=>?_,λ_ _ _ _ _ hh=>by cases hh⟩
  ·exact ho
  ·exact⟨λhb=>.inl (hb.arr rfl),λhb=>.inl (hb.arr rfl)⟩
 ·exact h.elim
def c3C:∀{H H':X9},a9e H H'->H.length=H'.length/\∀k,(Y4 H k=none/\Y4 H' k=none)∨∃o o',Y4 H k=some o/\Y4 H' k=some o'/\a3H (some o) (some o'):=by
 intro H;induction H with
 |nil=>intro H' h;cases H' with
  |nil=>exact⟨rfl,λk=>.inl ⟨rfl,rfl⟩⟩
  |cons=>exact h.elim
 |cons o H i=>intro H' h;cases H' with
  |nil=>exact h.elim
  |cons o' H'=>
   obtain⟨e,d⟩:=i h.2;refine⟨by simp[e],λk=>?_⟩
   cases k with
   |zero=>
    have M:=h.1;cases o with
    |none=>simp[a3H] at M
    |some o=>cases o' with
     |none=>simp[a3H] at M
     |some o'=>exact .inr ⟨o,o',rfl,rfl,M⟩
   |succ k=>simpa[Y4] using d k
def a9Z{P:Program}{f:FuncId}{args A:List T}{H1 H2 H':X9}{res:T}(O:kM args A)(J:a9e H1 H2)(h:G3 P f A H2 res H'):G3 P f args H1 res H':=by
 intro E w vs e Q hv;obtain⟨I,h2⟩:=c3C J;have B:∀k o',Y4 H2 k=some o'->∃o,Y4 H1 k=some o/\zZ E w k o'/\(∀b,A3 E k o' b↔A3 E k o b)/\∀v ty sz n row,o= .fam v ty sz n row->∃t row',o'= .fam v t sz n row':=λk o' d=>by
  rcases h2 k with⟨_,h3⟩|⟨o,o2,h3,h4,h5⟩
  ·rw[d] at h3;cases h3
  ·rw[d] at h4;simp only[X0] at h4;subst h4;exact⟨o,h3,gY h5 (e.live k o h3).2.1⟩
 have z:HeapOk E w H2:=by
  refine⟨λk o' d=>?_,λk k' o o' b d l x j=>?_,λk d=>by rw[←I];exact e.lt k d,e.l2,λk o' v d hv=>?_⟩
  ·obtain⟨o,g,F,i,_⟩:=B k o' d;obtain⟨N,_,L⟩:=e.live k o g;exact⟨N,F,λb x=>L b ((i b).1 x)⟩
  ·obtain⟨o1,g,_,i,_⟩:=B k o d;obtain⟨o2,r,_,C,_⟩:=B k' o' l;exact e.inj k k' o1 o2 b g r ((i b).1 x) ((C b).1 j)
  ·obtain⟨o,g,_,_,r⟩:=B k o' d;obtain⟨V,ty,sz,n,row,M,u⟩:=e.cur k o v g hv;obtain⟨t,row',q⟩:=r _ _ _ _ _ M;exact⟨V,t,sz,n,row',q,u⟩
 have X:XB E H2=XB E H1:=by
  funext b
  refine propext ⟨λ⟨k,o',d,x⟩=>?_,λ⟨k,o,d,x⟩=>?_⟩
  ·obtain⟨o,g,_,i,_⟩:=B k o' d;exact⟨k,o,g,(i b).1 x⟩
  ·rcases h2 k with⟨h3,_⟩|⟨o1,o2,h3,h4,h5⟩
   ·rw[d] at h3;cases h3
   ·rw[d] at h3;simp only[X0] at h3;subst h3;exact⟨k,o2,h4,((gY h5 (e.live k o d).2.1).2.1 b).2 x⟩
 have:=h E w vs z Q (iJ O hv);rw[X] at this;exact this
structure Good(P:Program)(G G':H6):Prop where
 ok:B6 P G'
 call:∀x ∈ G',Q6 P x.1
 stays:∀op,stays G' op=stays G op
 grow:∀op,xP G' op=xP G op
 ef:∀y,isEf G' y=isEf G y
def aI{G:H6}{f:FuncId}{c:Con}(h:s9 G f=some c)(r:c.isRel=true):qB G f=none/\gmk G f=none:=by
 induction G with
 |nil=>cases h
 |cons x G i=>
  obtain⟨g,d⟩:=x;simp only[s9] at h;simp only[qB,gmk];split at h
  ·simp only[X0] at h;subst h;cases d<;>first|exact⟨rfl,rfl⟩|(cases r)
  ·exact i h
def a22{f:FuncId}{c:Con}:∀{G:H6},c0n G f=some c->(f,c) ∈ G
 | [],h=>F3
 |(g,d)::r,h=>by
  unfold c0n at h;split at h
  ·exact List.mem_cons_of_mem _ (aS h)
  ·exact List.mem_cons_of_mem _ (a22 h)
def qM(l:B6 P G)(C:∀x ∈ G,Q6 P x.1){s:W4}{op:Op}{k:H6->Prop}(h:fP G s op k):∃G',Good P G G'/\k G':=by
 unfold fP at h;split at h
 ·exact⟨G,⟨l,C,λ_=>rfl,λ_=>rfl,λ_=>rfl⟩,h⟩
 ·rename_i f r hr;have R:c1l G f=some r:=by
   unfold c4X at hr;split at hr
   ·split at hr
    ·simp only[F1,U4] at hr;obtain⟨O,i,rfl,rfl⟩:=hr;exact i
    ·cases hr
   ·cases hr
  obtain⟨M,j⟩:=b9X R;have good:∀d:Con,a5O P f d->d.isMk=r.isMk->d.isEf=r.isEf->(∀y,isEff ((f,d)::G) y=isEff G y)->lZ ((f,d)::G)=lZ G->Good P G ((f,d)::G):=by
   intro d hd e v hie z;have u:∀op,sO ((f,d)::G) op=sO G op:=λop=>by
    unfold sO;rw[z]
   have o:∀y:Operand,isMk ((f,d)::G) y=isMk G y:=by
    intro y;cases y with
    |func g=>
     simp only[isMk,s9];cases B:Nat.beq g f with
     |true=>rw[F5 B,j];exact e
     |false=>rfl
    |_=>rfl
   refine⟨λy hy=>?_,λy hy=>?_,λop=>?_,λop=>by unfold xP;split<;>first|rfl|exact o _,λy=>?_⟩
   ·rcases vN.1 hy with rfl|hy
    ·exact hd
    ·exact l y hy
   ·rcases vN.1 hy with rfl|hy
    ·exact C (f,r) M
    ·exact C y hy
   ·unfold SS.stays;rw[u];have:q8 ((f,d)::G) op=q8 G op:=by
     unfold q8;split<;>first|rfl|rw[hie]
    rw[this]
   ·cases y with
    |func g=>
     simp only[isEf,s9];cases B:Nat.beq g f with
     |true=>rw[F5 B,j];exact v
     |false=>rfl
    |_=>rfl
  have hie:∀d:Con,d.isEff=r.isEff->∀y:Operand,isEff ((f,d)::G) y=isEff G y:=by
   intro d e y;cases y with
   |func g=>
    simp only[isEff,s9];cases B:Nat.beq g f with
    |true=>rw[F5 B,j];exact e
    |false=>rfl
   |_=>
    simp only[isEff,anyEff];cases hd:d.isEff with
    |false=>rfl
    |true=>rw[a54 M (e.symm.trans hd)];rfl
  split at h
  ·rename_i r;obtain⟨x,hx⟩:=h;refine⟨_,good (.pure λas=>some (r.res x,some (kM as (r.args x)/\r.side x))) ?_ rfl rfl (hie _ rfl) rfl,hx⟩
   intro as res p e hp;simp only[X0,U4] at e;obtain⟨rfl,rfl⟩:=e;obtain⟨i,n⟩:=hp;have F:=l _ M x n;intro E w vs L N A;exact F E w vs L N (iJ i A)
  ·rename_i r;have one:∀(r2:Rle),(f,Con.reff r2) ∈ G->(∃x:r2.ι,k (b06 f r2 x G))->∃G',Good P G G'/\k G':=by
    intro r2 q h;obtain⟨x,hx⟩:=h;refine⟨_,good (.eff λas H=>c2t r2 x as H) ?_ rfl rfl (hie _ rfl) rfl,hx⟩
    have base:eM P f λas H=>some (r2.res x,r2.post x,some (kM as (r2.args x)/\a9e H (r2.pre x)/\r2.side x)):=by
     intro as H res H' p e hp;simp only[X0,U4] at e;obtain⟨rfl,rfl,rfl⟩:=e;obtain⟨i,n,t⟩:=hp;exact a9Z i n (l _ q x t)
    intro as H res H' p e hp;replace e:c2t r2 x as H=some (res,H',p):=e;unfold c2t at e;split at e
    ·exact base as H res H' p e hp
    ·exact c6e base as H res H' p e hp
   split at h
   ·rename_i r2 hr2;rcases h with h|h
    ·exact one r M h
    ·exact one r2 (a22 hr2) h
   ·exact one r M h
  ·rename_i r;obtain⟨x,hx⟩:=h;refine⟨_,good (.mk λas=>some (r.res x,r.post x,some (kM as (r.args x)/\r.side x))) ?_ rfl rfl (hie _ rfl) rfl,hx⟩
   intro as res H' p e hp;simp only[X0,U4] at e;obtain⟨rfl,rfl,rfl⟩:=e;obtain⟨i,t⟩:=hp;obtain⟨Q,J,I⟩:=l _ M x t;exact⟨a9Z (H2:=[]) i (show a9e [] [] from trivial) Q,J,I⟩
  ·rename_i r;obtain⟨x,hx⟩:=h;refine⟨_,good (.fz λas=>some (r.res x,some (kM as (r.args x)/\r.side x))) ?_ rfl rfl (hie _ rfl) rfl,hx⟩
   intro as res p e hp;simp only[X0,U4] at e;obtain⟨rfl,rfl⟩:=e;obtain⟨i,n⟩:=hp;have F:=l _ M x n;intro E w vs L N A;exact F E w vs L N (iJ i A)
  ·exact⟨G,⟨l,C,λ_=>rfl,λ_=>rfl,λ_=>rfl⟩,h⟩
def c6S(n:B6 P G)(C:∀x ∈ G,Q6 P x.1)(h:Inv c E H w){a:Act}{s:W4}{o:Oper}{y:T}{H':X9}{side:Option Prop}(he:I8 P G s H o.op=some (y,H',side))(hs:side.getD True)
  (hop:∀x ∈ D7 o.op,F0 E w a s x)
  (l:∀c x y,o.op= .pick c x y->(∀b,K6 s c= .bool b->b=true->F0 E w a s x)/\(∀b,K6 s c= .bool b->b=false->F0 E w a s y))
  {K:Act->World->Prop} {Q:Exit->Act->World->Prop} (d:c47 c E w o a y H' K):o.wp P a w K Q:=by
 unfold I8 at he;split at he
 ·rename_i t p hv;simp only[X0,U4] at he;obtain⟨rfl,rfl,rfl⟩:=he;obtain⟨v,hrun,hr⟩:=c6g (P:=P) hv hs h.heap hop l;exact zY hrun (d v w E h (Step.refl E w) hr)
 ·split at he
  ·rename_i r hm;simp only[X0] at he;subst he;obtain⟨w',E',hrun,hI,hst⟩:=c57 (P:=P) h hm hs hop;rcases hrun with⟨v,hrun,hr⟩|⟨hrun,rfl⟩
   ·exact zY hrun (d v w' E' hI hst hr)
   ·exact c3F hrun (d undef w' E' hI hst (.und _))
  ·split at he
   ·rename_i x args argTypes hoe;have hmem:∀{α:Type} (g:Con->Option α) (sel:H6->FuncId->Option α),(∀f,sel [] f=none)->(∀h c r f,sel ((h,c)::r) f=match Nat.beq f h with|true=>g c|false=>sel r f)->∀(G:H6) (f:FuncId) (r:α),sel G f=some r->∃x ∈ G,x.1=f:=by
     intro α g sel u q G;induction G with
     |nil=>intro f r h;rw[u] at h;cases h
     |cons x G I=>
      intro f r h;obtain⟨a,b⟩:=x;rw[q] at h;split at h
      ·rename_i B;exact⟨(a,b),W7,(F5 B).symm⟩
      ·obtain⟨x,hx,he⟩:=I f r h;exact⟨x,by simp[hx],he⟩
    have effCall:∀{g:FuncId} {as:List T},wJ G H g as=some (y,H',side)->Q6 P g:=by
     intro g as he;unfold wJ at he;split at he
     ·rename_i c0 hc0;obtain⟨y,hy,rfl⟩:=hmem (λc=>match c with| .eff c=>some c|_=>none) qB (λ_=>rfl) (λ_ _ _ _=>rfl) G g c0 hc0
      exact C y hy
     ·split at he
      ·rename_i c0 hc0;obtain⟨y,hy,rfl⟩:=hmem (λc=>match c with| .mk c=>some c|_=>none) gmk (λ_=>rfl) (λ_ _ _ _=>rfl) G g c0 hc0
       exact C y hy
      ·split at he
       ·rename_i c0 hc0;obtain⟨y,hy,rfl⟩:=hmem (λc=>match c with| .fz c=>some c|_=>none) gfz (λ_=>rfl) (λ_ _ _ _=>rfl) G g c0 hc0
        exact C y hy
       ·cases he
    have O:∀{g:FuncId} {cs:List T},bB s x=some (g,cs)->((zA G H g (args.toList.map (K6 s)++cs)).map λr=>(r.1,H,r.2))=some (y,H',side)->o.wp P a w K Q:=by
     intro g cs hfn he;cases hp:zA G H g (args.toList.map (K6 s)++cs) with
     |none=>rw[hp] at he;cases he
     |some r=>
      rw[hp] at he;simp only[h9,X0,U4] at he;obtain⟨rfl,rfl,rfl⟩:=he;rw[hoe] at hop;obtain⟨caps,hx,hcaps⟩:=b0L hfn (hop x vD)
      have hargs:=eS (a1i (args:=args) (λx hx=>hop x b5A)) hcaps
      have hcallable:Q6 P g:=by
       have:∃args r,gam G g args=some r:=by
        unfold zA at hp;split at hp
        ·exact⟨_,_,hp⟩
        ·split at hp
         ·split at hp
          ·rename_i j;exact⟨_,_,j⟩
          ·cases hp
         ·cases hp
       obtain⟨as,R,j⟩:=this;obtain⟨y,hy,rfl⟩:=hmem (λc=>match c with| .pure c=>c as|_=>none) (λG f=>gam G f as) (λ_=>rfl) (λ_ _ _ _=>rfl) G g R j
       exact C y hy
      refine dC (dX (P:=P) (w:=w) hoe hcallable hx) ((c1p n h hp hs hargs).mono λe w' i=>?_)
      obtain⟨v,E',rfl,hI,hst,hr⟩:=i;exact⟨v,rfl,d v w' E' hI hst hr⟩
    split at he
    ·split at he
     ·rename_i g hie;have hcallable:=effCall he;rw[hoe] at hop;have hargs:=a1i (args:=args) (λx hx=>hop x b5A)
      have hrun:=dX (P:=P) (w:=w) (caps:= #[]) hoe hcallable (a:=a) (x:=.func g) rfl;rw[Array.append_empty] at hrun;refine dC hrun ((c0b n h he hs hargs).mono λe w' i=>?_)
      obtain⟨v,E',rfl,hI,hst,hr⟩:=i;exact⟨v,rfl,d v w' E' hI hst hr⟩
     ·split at he
      ·rename_i g cs hfn;split at he
       ·have hcallable:=effCall he;rw[hoe] at hop;obtain⟨caps,hx,hcaps⟩:=b0L hfn (hop _ vD)
        have hargs:=eS (a1i (args:=args) (λx hx=>hop x b5A)) hcaps
        refine dC (dX (P:=P) (w:=w) hoe hcallable hx) ((c0b n h he hs hargs).mono λe w' i=>?_)
        obtain⟨v,E',rfl,hI,hst,hr⟩:=i;exact⟨v,rfl,d v w' E' hI hst hr⟩
       ·exact O hfn he
      ·cases he
    ·split at he
     ·rename_i g cs hfn;exact O hfn he
     ·cases he
   ·cases he
def a5s(hG:B6 P G)(hGc:∀x ∈ G,Q6 P x.1)(h:Inv c E H w){a:Act}{s:W4}{o:Oper}{y:T}{H':X9}{side:Option Prop}(he:y5 P G s H o.op=some (y,H',side))(hs:side.getD True)
  (hop:∀x ∈ D7 o.op,F0 E w a s x)
  (hpk:∀c x y,o.op= .pick c x y->(∀b,K6 s c= .bool b->b=true->F0 E w a s x)/\(∀b,K6 s c= .bool b->b=false->F0 E w a s y))
  {K:Act->World->Prop} {Q:Exit->Act->World->Prop} (hk:c47 c E w o a y H' K):o.wp P a w K Q:=by
 unfold y5 at he;split at he
 ·rename_i ht;split at he
  ·rename_i t p hv;simp only[X0,U4] at he;obtain⟨rfl,rfl,rfl⟩:=he;unfold sO at ht;split at ht
   ·rename_i ty n parts hoe;rw[hoe] at hv hop;obtain⟨r,w',E',hrun,h1,h2,h3⟩:=c8h (P:=P) (a:=a) h (show a11 P s ty (n+1) parts=some (_,_) from hv) (λp hp=>hop p.2 (by simp only[D7,Op.operands,List.mem_map];exact⟨p,hp,rfl⟩))
    refine zY (w':=w') (v:=r) ?_ (hk r w' E' h2 h3 h1)
    simp only[execOp,hoe,D1,hrun,D6,z5]
   ·rename_i ty parts hoe;rw[hoe] at hv hop;obtain⟨r,w',E',hrun,h1,h2,h3⟩:=c1K (P:=P) (a:=a) h hv;refine zY (w':=w') (v:=r) ?_ (hk r w' E' h2 h3 h1)
    simp only[execOp,hoe,D1,hrun,D6,z5]
   ·rename_i args argTypes hoe;rw[hoe] at hv hop;simp only[a3o] at hv;split at hv
    case h_2=>cases hv
    rename_i d x t1 tx ha hat;obtain rfl:args= #[d,x]:=Array.ext' sT
    obtain rfl:argTypes= #[t1,tx]:=Array.ext' a0K
    split at hv
    case h_2=>cases hv
    rename_i e hd hu;split at hv
    case h_2=>cases hv
    rename_i i z hi hz;split at hv
    case h_2=>cases hv
    rename_i q hl hq;split at hv
    case h_2=>cases hv
    rename_i hcl;simp only[X0,U4] at hv;obtain⟨rfl,rfl⟩:=hv;have hdo:=hop d vD
    unfold F0 at hdo;rw[hd] at hdo;obtain⟨r,w',E',hrun,h1,h2,h3⟩:=c34 (P:=P) (ty:=o.type) h hu hi hz hl hq hcl hs hdo (hop x vD)
    refine zY (w':=w') (v:=r) ?_ (hk r w' E' h2 h3 h1)
    simp[execOp,hoe,resolve,invoke,builtin,hrun,Result.andThen]
   ·cases ht
  ·cases he
 ·exact c6S hG hGc h he hs hop hpk hk
end
def H5(s:W4)(p:C5):Prop:=∀q,q ∈ p->∃x,zH s q.1= .bool x/\x=q.2
structure SlotsOk(E:Env)(w:World)(s:W4)(ps:y3)(a:Act):Prop where
 on:∀i,H5 s (S9 ps i)->Rd E w (zH s i) (a.tmps.getD i undef)
 off:∀i,¬H5 s (S9 ps i)->a.tmps.getD i undef=undef
structure RealE(c:Ctx)(E:Env)(s:W4)(ps:y3)(H:X9)(a:Act)(w:World):Prop where
 defers:a.defers=[]
 size:a.tmps.size=c.nt
 slots:SlotsOk E w s ps a
 inv:Inv c E H w
def iX(c:Ctx)(s:W4)(H:X9)(a:Act)(w:World):Prop:=∃E,RealE c E s [] H a w
def tS(s:W4)(d:Nat)(t:T)(i:Nat):zH (wT s (some d) t) i=if i=d then t else zH s i:=by
 simp only[wT,zH];split
 ·rename_i h;rw[if_pos (F5 h)]
 ·rename_i h;rw[if_neg (Nat.ne_of_beq_eq_false h)]
def fD(ps:y3)(i:Nat):S9 ps i=[]∨(i,S9 ps i) ∈ ps:=by
 induction ps with
 |nil=>exact .inl rfl
 |cons x ps ih=>
  obtain⟨j,p⟩:=x;simp only[S9];split
  ·rename_i h;obtain rfl:=F5 h;exact .inr W7
  ·rcases ih with ih|ih
   ·exact .inl ih
   ·exact .inr (by simp[ih])
def gQ{ps:y3}{d:Nat}(h:dY ps d=true):S9 ps d=[]/\∀i,∀q ∈ S9 ps i,q.1≠d:=by
 unfold dY at h;have f:=b9.1 h;constructor
 ·rcases fD ps d with h1|h1
  ·exact h1
  ·have:=f _ h1;simp at this
 ·intro i q hq;rcases fD ps i with h1|h1
  ·rw[h1] at hq;cases hq
  ·have:=f _ h1;simp only[J5] at this;have:=b9.1 this.2 q hq;intro e;rw[e] at this;simp at this
def xZ{s:W4}{d:Nat}{t:T}{p:C5}(h:∀q ∈ p,q.1≠d):H5 (wT s (some d) t) p↔H5 s p:=by
 unfold H5;constructor
 ·intro hp q hq;have:=hp q hq
  rwa [tS,if_neg (h q hq)] at this
 ·intro hp q hq;have:=hp q hq
  rwa [tS,if_neg (h q hq)]
def qV(a:Act)(d:Nat)(v:Value)(i:Nat)(hd:d<a.tmps.size):(a.put (some d) v).tmps.getD i undef=if i=d then v else a.tmps.getD i undef:=by
 simp only[Act.put,Array.getD_eq_getD_getElem?,Array.getElem?_setIfInBounds]
 by_cases h:d=i
 ·subst h;simp[hd]
 ·rw[if_neg h,if_neg (λe=>h e.symm)]
section
variable {c:Ctx} {E E':Env} {H H':X9} {w w':World} {P:Program} {G:H6} {s:W4} {ps:y3} {a:Act}
def SlotsOk.step(h:SlotsOk E w s ps a)(d:Step E w E' w'):SlotsOk E' w' s ps a:=⟨λi hi=>d.rd (h.on i hi),h.off⟩
def SlotsOk.put(h:SlotsOk E w s ps a){d:Nat}(f:dY ps d=true)(hd:d<a.tmps.size){t:T}{v:Value}(r:Rd E w t v):SlotsOk E w (wT s (some d) t) ps (a.put (some d) v):=by
 obtain⟨g,e⟩:=gQ f;refine⟨λi hi=>?_,λi hi=>?_⟩
 ·rw[qV a d v i hd,tS];by_cases he:i=d
  ·rw[if_pos he,if_pos he];exact r
  ·rw[if_neg he,if_neg he];exact h.on i ((xZ (e i)).1 hi)
 ·rw[qV a d v i hd];by_cases he:i=d
  ·subst he;rw[g] at hi;exact absurd (λq Q=>lQ) hi
  ·rw[if_neg he];exact h.off i (λhp=>hi ((xZ (e i)).2 hp))
def SlotsOk.putG(h:SlotsOk E w s ps a){d:Nat}(F:dY ps d=true)(hd:d<a.tmps.size){p:C5}(hp:∀q ∈ p,q.1≠d){t:T}{v:Value}(r:H5 s p->Rd E w t v)(u:¬H5 s p->v=undef):
  SlotsOk E w (wT s (some d) t) ((d,p)::ps) (a.put (some d) v):=by
 obtain⟨g,f⟩:=gQ F;have hpo:∀i,S9 ((d,p)::ps) i=if i=d then p else S9 ps i:=by
  intro i;simp only[S9];split
  ·rename_i B;rw[if_pos (F5 B)]
  ·rename_i B;rw[if_neg (Nat.ne_of_beq_eq_false B)]
 refine⟨λi hi=>?_,λi hi=>?_⟩
 ·rw[hpo] at hi;rw[qV a d v i hd,tS];by_cases he:i=d
  ·rw[if_pos he] at hi;rw[if_pos he,if_pos he];exact r ((xZ hp).1 hi)
  ·rw[if_neg he] at hi;rw[if_neg he,if_neg he];exact h.on i ((xZ (f i)).1 hi)
 ·rw[hpo] at hi;rw[qV a d v i hd];by_cases he:i=d
  ·rw[if_pos he] at hi;rw[if_pos he];exact u (λe=>hi ((xZ hp).2 e))
  ·rw[if_neg he] at hi;rw[if_neg he];exact h.off i (λhp=>hi ((xZ (f i)).2 hp))
def a0E:∀{p q:C5},nX p q=true->p=q:=by
 intro p;induction p with
 |nil=>intro q h;cases q with|nil=>rfl|cons=>simp[nX] at h
 |cons x p i=>
  intro q h;cases q with
  |nil=>simp[nX] at h
  |cons y q=>
   obtain⟨a,b⟩:=x;obtain⟨c,d⟩:=y;simp only[nX,J5] at h;obtain⟨⟨f,e⟩,g⟩:=h;obtain rfl:=F5 f;obtain rfl:=eq_of_beq e;rw[i g]
def b8L{p:C5}:∀{q:C5},sufB p q=true->H5 s q->H5 s p:=by
 intro q;induction q with
 |nil=>intro h Q;rw[a0E h];exact Q
 |cons x q i=>
  intro h Q;simp only[sufB,nT] at h;rcases h with h|h
  ·rw[a0E h];exact Q
  ·exact i h (λy Y=>Q y (by simp[Y]))
def mE(h:SlotsOk E w s ps a){d:C5}(hp:H5 s d){x:Operand}(X:fT ps d x=true):F0 E w a s x:=
 a1Y λt e=>by
  subst e;exact h.on t (b8L X hp)
def rT(h:SlotsOk E w s ps a){e:C5}(hp:H5 s e){op:Op}(d:F6 ps e op=true):
  (∀x ∈ D7 op,F0 E w a s x)/\∀c x y,op= .pick c x y->(∀b,K6 s c= .bool b->b=true->F0 E w a s x)/\(∀b,K6 s c= .bool b->b=false->F0 E w a s y):=by
 by_cases hpk:∃c x y,op= .pick c x y
 ·obtain⟨c,x,y,rfl⟩:=hpk;cases c with
  |tmp t=>
   simp only[F6,J5] at d;obtain⟨⟨g,h2⟩,h3⟩:=d;refine⟨λz Z=>?_,λC i Y he=>?_⟩
   ·simp only[D7,List.mem_singleton] at Z;subst Z;exact mE h hp g
   ·cases he;refine⟨λb hb hbt=>mE h (λq hq=>?_) h2,λb hb hbt=>mE h (λq hq=>?_) h3⟩
    ·rcases vN.1 hq with rfl|hq
     ·exact⟨b,hb,hbt⟩
     ·exact hp q hq
    ·rcases vN.1 hq with rfl|hq
     ·exact⟨b,hb,hbt⟩
     ·exact hp q hq
  |const=>simp[F6] at d
  |global=>simp[F6] at d
  |func=>simp[F6] at d
 ·have f:D7 op=op.operands.toList:=by
   cases op<;>first|rfl|exact absurd ⟨_,_,_,rfl⟩ hpk
  have l:op.operands.toList.all (fT ps e)=true:=by
   cases op<;>first|exact d|exact absurd ⟨_,_,_,rfl⟩ hpk
  refine⟨λx X=>mE h hp (b9.1 l x (by rw[←f];exact X)),λc x y he=>absurd ⟨c,x,y,he⟩ hpk⟩
def jY:∀{p:C5} {q:Prop},A2 s p q->H5 s p->q:=by
 intro p;induction p with
 |nil=>intro q h _;exact h
 |cons x p ih=>
  intro q h hp;obtain⟨t,b⟩:=x;simp only[A2] at h;split at h
  ·rename_i y hy;have:=ih h (λz hz=>hp z (by simp[hz]))
   obtain⟨X,d,e⟩:=hp (t,b) W7
   rw[hy] at d;cases d;exact this e
  ·exact h.elim
def a4v:∀{p:C5} {q:Prop},rK s p=true->(H5 s p->q)->A2 s p q:=by
 intro p;induction p with
 |nil=>intro q _ h;exact h (λz hz=>by cases hz)
 |cons x p ih=>
  intro q hb h;obtain⟨t,b⟩:=x;simp only[rK] at hb;simp only[A2];split at hb
  ·rename_i y hy;refine ih hb λhp he=>h λz hz=>?_
   rcases vN.1 hz with rfl|hz
   ·exact⟨y,hy,he⟩
   ·exact hp z hz
  ·cases hb
def a1O{p:C5}(B:rK s p=true)(h:¬H5 s p):A2 s p False:=a4v B λhp=>h hp
def wE{p:C5}{side:Option Prop}{q:Prop}(h:kC s p side q):(H5 s p->side.getD True)/\q:=by
 cases side with
 |none=>exact⟨λ_=>trivial,h⟩
 |some r=>exact⟨λhp=>jY h.1 hp,h.2⟩
def a37(s:W4)(ps:y3)(i:Nat):zH (K7 s ps) i= .und∨(zH (K7 s ps) i=zH s i/\S9 ps i=[]):=by
 induction ps with
 |nil=>exact .inr ⟨rfl,rfl⟩
 |cons x ps h=>
  obtain⟨d,p⟩:=x;simp only[K7,zH,S9];split
  ·exact .inl rfl
  ·exact h
def SlotsOk.ends(h:SlotsOk E w s ps a):SlotsOk E w (K7 s ps) [] a:=by
 refine⟨λi _=>?_,λi hi=>absurd (λq Q=>lQ) hi⟩
 rcases a37 s ps i with he|⟨he,hp⟩
 ·rw[he];exact .und _
 ·rw[he];exact h.on i (by rw[hp];exact λq Q=>lQ)
def b4O{op:Op}{y:T}{side:Option Prop}(he:I8 P G s H op=some (y,H',side))(h:q8 G op=true):H'=H:=by
 unfold I8 at he;split at he
 ·simp only[X0,U4] at he;exact he.2.1.symm
 ·split at he
  ·rename_i r hm;simp only[X0] at he;subst he;unfold y8 at hm;split at hm
   all_goals first|(simp[q8] at h;done)|skip
   ·split at hm
    ·split at hm
     ·simp only[X0,U4] at hm;exact hm.2.1.symm
     ·cases hm
    ·cases hm
   ·cases hm
  ·split at he
   ·rename_i x args at_;split at he
    ·rename_i e;simp[q8,e] at h
    ·split at he
     ·simp only[F1,U4] at he;obtain⟨r,_,_,he,_⟩:=he;exact he.symm
     ·cases he
   ·cases he
def b5N{op:Op}{y:T}{side:Option Prop}(he:y5 P G s H op=some (y,H',side))(h:stays G op=true):H'=H:=by
 unfold y5 at he;unfold stays at h;split at he
 ·split at he
  ·simp only[X0,U4] at he;exact he.2.1.symm
  ·cases he
 ·rename_i t;rw[t] at h;exact b4O he h
def b2n{E:Env}{w:World}{a:Act}{s:W4}{o:Oper}{n:Nat}{neg:Bool}(h:a83 P s o.op=some (n,neg))(hop:∀x ∈ D7 o.op,F0 E w a s x):
  ∃b,c73 b n/\(execOp a.eval o).run P w= .ok (.value (.bool (cond neg (!b) b))) w:=by
 obtain⟨dst,op,ty,pos,after,guard⟩:=o;simp only at h hop;unfold a83 at h;split at h
 case h_2=>cases h
 rename_i bop t x y rt;have hx:=hop x J9
 have hy:=hop y J9
 unfold F0 at hx hy;have fin:∀{e:TypeId} {ad:Option Addr} {m cap:Nat},P.underlying t=some (.slice e)->a.eval x= .slice ad m cap->a.eval y= .slice none 0 0->(ad=none->m=0)->m=n->(bop= .eql/\neg=false)∨(bop= .neq/\neg=true)->
   ∃b,c73 b n/\(execOp a.eval ⟨dst,.binOp bop t x y rt,ty,pos,after,guard⟩).run P w= .ok (.value (.bool (cond neg (!b) b))) w:=by
  intro e ad m cap hu h1 h2 h3 h4 h5;refine⟨ad.isNone,λhb=>by rw[←h4];exact h3 jH,?_⟩
  rcases h5 with⟨rfl,rfl⟩|⟨rfl,rfl⟩
  ·simp only[execOp,h1,h2,eqGuard_at_slice,binOp];simp[run_equal_slice_nil w t e ad m cap hu]
  ·simp only[execOp,h1,h2,eqGuard_at_slice,binOp];simp[run_equal_slice_nil w t e ad m cap hu]
 have key:∀{x:T} {v:Value} {n:Nat},((∃sz row,x= .sl sz n row)∨∃k off,x= .osl k off n)->Rd E w x v->∃ad cap,v= .slice ad n cap/\(ad=none->n=0):=by
  intro x v n hx hr;rcases hx with⟨sz,row,rfl⟩|⟨k,off,rfl⟩
  ·cases hr with
   |slNil=>exact⟨none,0,rfl,λ_=>rfl⟩
   |slEmp _ _ a=>exact⟨some a,0,rfl,λ_=>rfl⟩
   |sl _ _ _ b off cap=>exact⟨_,cap,rfl,λh=>F3⟩
  ·cases hr with
   |osl _ _ _ o ad hL hn ho ha=>
    refine⟨ad,_,rfl,λh=>?_⟩
    by_cases hκ:E.κ k=0
    ·omega
    ·rw[ha hκ] at h;cases h
 split at h
 ·rename_i e sz n' row hu hsx hsy;simp only[X0,U4] at h;obtain⟨rfl,rfl⟩:=h;rw[hsx] at hx;rw[hsy] at hy;obtain⟨ad,cap,h1,h2⟩:=key (.inl ⟨_,_,rfl⟩) hx;exact fin hu h1 (vP hy) h2 rfl (.inl ⟨rfl,rfl⟩)
 ·rename_i e sz n' row hu hsx hsy;simp only[X0,U4] at h;obtain⟨rfl,rfl⟩:=h;rw[hsx] at hx;rw[hsy] at hy;obtain⟨ad,cap,h1,h2⟩:=key (.inl ⟨_,_,rfl⟩) hx;exact fin hu h1 (vP hy) h2 rfl (.inr ⟨rfl,rfl⟩)
 ·rename_i e k off n' hu hsx hsy;simp only[X0,U4] at h;obtain⟨rfl,rfl⟩:=h;rw[hsx] at hx;rw[hsy] at hy;obtain⟨ad,cap,h1,h2⟩:=key (.inr ⟨_,_,rfl⟩) hx;exact fin hu h1 (vP hy) h2 rfl (.inl ⟨rfl,rfl⟩)
 ·rename_i e k off n' hu hsx hsy;simp only[X0,U4] at h;obtain⟨rfl,rfl⟩:=h;rw[hsx] at hx;rw[hsy] at hy;obtain⟨ad,cap,h1,h2⟩:=key (.inr ⟨_,_,rfl⟩) hx;exact fin hu h1 (vP hy) h2 rfl (.inr ⟨rfl,rfl⟩)
 ·cases h
def a4E(hG:B6 P G)(hGc:∀x ∈ G,Q6 P x.1){all:Array Oper}{Q:Exit->Act->World->Prop}{K:W4->X9->Prop}(hK:∀s' H' a' w',K s' H'->iX c s' H' a' w'->Q .normal a' w'):
  ∀(r:List Oper) (s:W4) (ps:y3) (H:X9) (E:Env) (a:Act) (w:World),xL P G c.nt all r s ps H K->RealE c E s ps H a w->wpList P all Q r a w:=by
 intro r;induction r with
 |nil=>
  intro s ps H E a w h R;exact hK _ _ _ _ h ⟨E,R.defers,R.size,R.slots.ends,R.inv⟩
 |cons o r U=>
  intro s ps H E a w h R;have f:∀(d:Option Tmp) (v:Value),(a.put d v).defers=[]/\(a.put d v).tmps.size=c.nt:=by
   intro d v;cases d with
   |none=>exact⟨R.defers,R.size⟩
   |some d=>exact⟨R.defers,by simp[Act.put,R.size]⟩
  unfold xL at h;split at h
  ·rename_i hg;split at h
   ·exact h.elim
   ·rename_i hchk;simp only[J5] at hchk;obtain⟨⟨hpo,hfr⟩,hdst⟩:=hchk;split at h
    ·rename_i n neg hnc;have hnil:H5 s []:=λq hq=>by cases hq
     obtain⟨u,B⟩:=rT R.slots hnil hpo;obtain⟨b,hb,O⟩:=b2n (P:=P) (E:=E) (w:=w) (a:=a) hnc u;refine wpList_plain hg λKK M=>zY O (M _ _ (U _ _ _ E _ _ (h b hb) ⟨(f _ _).1,(f _ _).2,?_,R.inv⟩))
     cases hd:o.dst with
     |none=>exact R.slots
     |some d=>
      rw[hd] at hfr hdst;exact R.slots.put hfr (by rw[R.size];exact yH hdst) (.bool _)
    obtain⟨G',hGG,h⟩:=qM hG hGc h;split at h
    ·rename_i t H' side he;obtain⟨hs,hrest⟩:=wE h;have hnil:H5 s []:=λq hq=>by cases hq
     obtain⟨u,B⟩:=rT R.slots hnil hpo;refine wpList_plain hg λKK M=>?_
     refine a5s hGG.ok hGG.call R.inv he (hs hnil) u B λv w' E' V hst F=>?_
     refine M _ _ (U _ _ _ E' _ _ hrest ⟨(f _ _).1,(f _ _).2,?_,V⟩)
     cases hd:o.dst with
     |none=>exact R.slots.step hst
     |some d=>
      rw[hd] at hfr hdst;exact(R.slots.step hst).put hfr (by rw[R.size];exact yH hdst) F
    ·exact h.elim
  ·rename_i j want hg;split at h
   ·rename_i g hgd;split at h
    ·rename_i x hx;split at h
     ·exact h.elim
     ·rename_i hchk;simp only[J5] at hchk;obtain⟨⟨⟨hpo,hfr⟩,hdst⟩,L⟩:=hchk;obtain⟨d,hd⟩:∃d,o.dst=some d:=by
       cases hd:o.dst with
       |none=>rw[hd] at L;simp[mM] at L
       |some d=>exact⟨d,rfl⟩
      have z:=hfr;have C:=hdst;have A:=L;rw[hd] at z C A;have I:d<a.tmps.size:=by rw[R.size];exact yH C
      have l:∀q ∈ ((g,want)::S9 ps g),q.1≠d:=by
       intro q hq;simp only[mM,J5] at A;rcases vN.1 hq with rfl|hq
       ·intro e;have:=A.1;simp only at e;rw[e] at this;simp at this
       ·intro e;have:=b9.1 A.2 q hq;rw[e] at this;simp at this
      have Z:yielded all a.tmps j=match a.tmps[g]? with|some (.bool b)=>some b|_=>none:=by
       unfold yielded;rw[hgd];rfl
      have core:(H5 s ((g,want)::S9 ps g)->o.wp P a w (wpList P all Q r) Q)->(¬H5 s ((g,want)::S9 ps g)->wpList P all Q r (a.put o.dst undef) w)->wpList P all Q (o::r) a w:=by
       intro hT skip;unfold wpList;by_cases J:H5 s (S9 ps g)
       ·have hv:=R.slots.on g J;rw[hx] at hv;have i:=r5 hv;have X:a.tmps[g]? =some (.bool x):=by
         rw[Array.getD_eq_getD_getElem?] at i;cases hq:a.tmps[g]? with
         |none=>rw[hq] at i;simp[undef] at i
         |some y=>rw[hq] at i;simp at i;rw[i]
        have hyl:yielded all a.tmps j=some x:=by rw[Z,X]
        by_cases hxw:x=want
        ·have hw:Region.wanted o (yielded all a.tmps)=true:=by simp[Region.wanted,hg,hyl,hxw]
         rw[if_pos hw];refine .inl (hT λq hq=>?_)
         rcases vN.1 hq with rfl|hq
         ·exact⟨x,hx,hxw⟩
         ·exact J q hq
        ·have hw:¬Region.wanted o (yielded all a.tmps)=true:=by simp[Region.wanted,hg,hyl,hxw]
         rw[if_neg hw];exact skip λhp=>by
          obtain⟨x',N,W⟩:=hp (g,want) W7
          rw[hx] at N;cases N;exact hxw W
       ·have i:=R.slots.off g J;have hyl:yielded all a.tmps j=none:=by
         rw[Z];rw[Array.getD_eq_getD_getElem?] at i;cases hq:a.tmps[g]? with
         |none=>rfl
         |some y=>rw[hq] at i;simp at i;rw[i];rfl
        have hw:¬Region.wanted o (yielded all a.tmps)=true:=by simp[Region.wanted,hg,hyl]
        rw[if_neg hw];exact skip λhp=>J λq hq=>hp q (by simp[hq])
      have skip:∀{t:T},xL P G c.nt all r (wT s o.dst t) (bO ps o.dst ((g,want)::S9 ps g)) H K->¬H5 s ((g,want)::S9 ps g)->wpList P all Q r (a.put o.dst undef) w:=by
       intro t hrest hnp;refine U _ _ _ E _ _ hrest ⟨(f _ _).1,(f _ _).2,?_,R.inv⟩
       rw[hd];exact R.slots.putG z I l (λhp=>absurd hp hnp) (λ_=>rfl)
      split at h
      ·rename_i hst;obtain⟨G',hGG,h⟩:=qM hG hGc h;split at h
       ·rename_i t H' side he;obtain rfl:=b5N he (by rw[hGG.stays];exact hst)
        obtain⟨hs,hrest⟩:=wE h;refine core (λhpp=>?_) (skip hrest)
        obtain⟨u,B⟩:=rT R.slots hpp hpo;refine a5s hGG.ok hGG.call R.inv he (hs hpp) u B λv w' E' V hst F=>?_
        refine U _ _ _ E' _ _ hrest ⟨(f _ _).1,(f _ _).2,?_,V⟩
        rw[hd];exact(R.slots.step hst).putG z I l (λ_=>F) (λY=>absurd hpp Y)
       ·exact h.elim
      ·split at h
       ·exact h.elim
       ·rename_i hbp;obtain⟨G',hGG,h⟩:=qM hG hGc h;split at h
        ·rename_i t H' side he;obtain⟨hs,hrest⟩:=wE h;refine core (λhpp=>?_) (λhnp=>skip (hrest.2 (a1O hbp hnp)) hnp)
         obtain⟨u,B⟩:=rT R.slots hpp hpo;refine a5s hGG.ok hGG.call R.inv he (hs hpp) u B λv w' E' V hst F=>?_
         refine U _ _ _ E' _ _ (jY hrest.1 hpp) ⟨(f _ _).1,(f _ _).2,?_,V⟩
         rw[hd];exact(R.slots.step hst).putG z I l (λ_=>F) (λY=>absurd hpp Y)
        ·exact h.elim
    ·exact h.elim
   ·exact h.elim
end
def D5(H H':X9):Prop:=∀k ob,Y4 H k=some ob->Y4 H' k=some ob
def D5.refl(H:X9):D5 H H:=λ_ _ h=>h
def D5.trans{A B C:X9}(h:D5 A B)(k:D5 B C):D5 A C:=λi ob hi=>k i ob (h i ob hi)
section
variable {P:Program} {G:H6} {H H':X9} {s:W4}
def D5.getA(h:D5 H H'){k:Nat}{A:Arr}(d:getA H k=some A):SS.getA H' k=some A:=by
 obtain⟨ob,B,⟨rfl,hi⟩|⟨v,ty,sz,n,row,rfl,rfl⟩⟩:=a1e d
 ·exact a77 (h k ob B) hi
 ·unfold SS.getA;rw[h k _ B]
def D5.getOwn(h:D5 H H'){k v i j:Nat}{A:Own}(d:getOwn H k v i j=some A):SS.getOwn H' k v i j=some A:=by
 obtain⟨ty,sz,row,B,_,_⟩:=xW d;unfold SS.getOwn at d ⊢;rw[h k _ B];rw[B] at d;exact d
def a7K(h:D5 H H'){t:TypeId}{x y:T}{r:T×Option Prop}(he:lA P H t x y=some r):lA P H' t x y=some r:=by
 unfold lA at he ⊢;split at he
 ·split at he
  ·rename_i d;simp only[h _ _ d];exact he
  ·cases he
 ·split at he
  ·rename_i d;simp only[h _ _ d];exact he
  ·cases he
 ·cases he
def a7b(h:D5 H H'){t:TypeId}{x:T}{r:T×Option Prop}(he:xF P H t x=some r):xF P H' t x=some r:=by
 unfold xF at he ⊢;split at he
 ·exact he
 ·split at he
  ·rename_i d;rw[h.getA d];exact he
  ·cases he
 ·split at he
  ·rename_i d;rw[h.getOwn d];exact he
  ·cases he
 ·cases he
def iT(h:D5 H H'){t:TypeId}{x i:T}{r:T×Option Prop}(he:x8 P H t x i=some r):x8 P H' t x i=some r:=by
 unfold x8 at he ⊢;split at he
 ·split at he
  case h_3 hu=>
   split at he
   ·rename_i d;simp only[h.getA d];exact he
   ·cases he
  case h_4 hu=>
   split at he
   ·rename_i d;simp only[h.getOwn d];exact he
   ·cases he
  all_goals first|(cases he;done)|(exact he)
 ·cases he
def a82(h:D5 H H'){a b:TypeId}{x:T}{r:T×Option Prop}(e:vG P H a b x=some r):vG P H' a b x=some r:=by
 unfold vG at e ⊢;split at e
 case h_4 hu1 hu2=>
  split at e
  ·rename_i d f;simp only[d,h _ _ f];exact e
  ·cases e
 all_goals first|(cases e;done)|(exact e)
def a5y(h:D5 H H'){t:TypeId}{x:T}{l hi:Option T}{r:T×Option Prop}(he:tU P H t x l hi=some r):tU P H' t x l hi=some r:=by
 unfold tU at he ⊢;split at he
 ·split at he
  case h_4 hu=>
   split at he
   ·rename_i d;simp only[h.getA d];exact he
   ·cases he
  all_goals first|(cases he;done)|(exact he)
 ·cases he
def b4U(h:D5 H H'){op:Op}{r:T×Option Prop}(he:L6 P s H op=some r):L6 P s H' op=some r:=by
 unfold L6 at he ⊢;split at he
 case h_4=>exact a7b h he
 case h_8=>exact a82 h he
 case h_11=>exact iT h he
 case h_15=>exact a5y h he
 case h_18=>exact a7K h he
 all_goals first|exact he|(cases he;done)
def l6{α β:Type}{f g:α->Option β}(h:∀a b,f a=some b->g a=some b):∀{l:List α} {q:List β},O0 f l=some q->O0 g l=some q:=by
 intro l;induction l with
 |nil=>intro q Q;exact Q
 |cons x l i=>
  intro q Q;simp only[O0] at Q ⊢;split at Q
  ·rename_i B r;rw[h _ _ B,i r];exact Q
  ·cases Q
def fA{B:Nat}(h:D5 H H'):∀(d:Nat) {t:T} {r:T×Option Prop},M5 B H d t=some r->M5 B H' d t=some r:=by
 intro d;induction d with
 |zero=>intro t r he;simp[M5] at he
 |succ d ih=>
  intro t r he;unfold M5 at he ⊢;split at he
  ·split at he
   ·exact he
   split at he
   ·rename_i A hk;simp only[h.getA hk];split at he
    ·rename_i hA;split at he
     ·rename_i hm;rw[l6 (λa b hb=>ih hb) hm]
      exact he
     ·cases he
    ·cases he
   ·cases he
  ·split at he
   ·exact he
   split at he
   ·rename_i hk;simp only[h _ _ hk];exact he
   ·rename_i hk;simp only[h _ _ hk];exact he
   ·rename_i hk;simp only[h _ _ hk];exact he
   ·rename_i hk;simp only[h _ _ hk];split at he
    ·split at he
     ·rename_i h0 h1;rw[l6 (λa b hb=>ih hb) h0,l6 (λa b hb=>ih hb) h1]
      exact he
     ·cases he
    ·cases he
   ·cases he
  ·simp only[F1] at he ⊢;obtain⟨a,e,rfl⟩:=he;exact⟨a,l6 (λa b hb=>ih hb) e,rfl⟩
  ·simp only[F1] at he ⊢;obtain⟨a,e,rfl⟩:=he;exact⟨a,l6 (λa b hb=>ih hb) e,rfl⟩
  ·simp only[F1] at he ⊢;obtain⟨a,e,rfl⟩:=he;exact⟨a,l6 (λa b hb=>ih hb) e,rfl⟩
  ·cases he
  ·split at he
   ·exact he
   split at he
   ·rename_i hk;simp only[h.getOwn hk];exact he
   ·cases he
  ·exact he
  ·cases he
  ·exact he
def a6S(h:D5 H H'){f:FuncId}{args:List T}{r:T×Option Prop}(he:zA G H f args=some r):zA G H' f args=some r:=by
 unfold zA at he ⊢;split at he
 ·exact he
 ·split at he
  ·rename_i hb;rw[l6 (λa b hb=>fA h 6 hb) hb]
   exact he
  ·cases he
def b4q(h:D5 H H'){op:Op}{y:T}{H1:X9}{side:Option Prop}(t:q8 G op=true)(he:I8 P G s H op=some (y,H1,side)):I8 P G s H' op=some (y,H',side):=by
 unfold I8 at he;split at he
 ·rename_i hv;simp only[X0,U4] at he;obtain⟨rfl,rfl,rfl⟩:=he;unfold I8;rw[b4U h hv]
 ·rename_i hv;split at he
  ·rename_i r hm;simp only[X0] at he;subst he;unfold y8 at hm;split at hm
   case h_6 src dst x=>
    split at hm
    ·rename_i e l hs hd hx;split at hm
     ·rename_i hb;simp only[X0,U4] at hm;obtain⟨rfl,rfl,rfl⟩:=hm;have h1:L6 P s H' (.convert src dst x)=none:=by simp only[L6,vG,hs,hd,hx]
      unfold I8;rw[h1];simp only[y8,hs,hd,hx,hb]
     ·cases hm
    ·cases hm
   all_goals first|(simp[q8] at t;done)|(cases hm;done)
  ·rename_i hm;split at he
   ·rename_i f args argTypes;split at he
    ·rename_i hie;simp[q8,hie] at t
    ·rename_i hie;split at he
     ·rename_i g cs n;simp only[F1,U4] at he;obtain⟨r,R,rfl,rfl,rfl⟩:=he;unfold I8;simp only[L6,y8,hie,n,a6S h R,h9]
     ·cases he
   ·cases he
def a8i{op:Op}{y:T}{H1:X9}{side:Option Prop}(hp:pureB op=true)(he:I8 P G s H op=some (y,H1,side)):I8 P G s H' op=some (y,H',side):=by
 have hv:L6 P s H' op=L6 P s H op:=by
  unfold pureB at hp;split at hp<;>first|(cases hp;done)|rfl
 have hm:y8 P s H op=none:=by
  unfold pureB at hp;split at hp<;>first|(cases hp;done)|rfl
 have h:∀c,op≠ .call c:=by
  rintro c rfl;simp[pureB] at hp
 unfold I8 at he ⊢;rw[hv];split at he
 ·simp only[X0,U4] at he ⊢;exact⟨he.1,trivial,he.2.2⟩
 ·rw[hm] at he;simp only at he;split at he
  ·exact absurd rfl (h _)
  ·cases he
def E4(H:X9)(x:Option Ob):D5 H (H++[x]):=by
 intro k ob h;rw[k6,if_pos (G1 h)];exact h
def a9B{G:H6}{f:FuncId}{c:List T->Option (T×X9×Option Prop)}(h:s9 G f=some (.mk c)):qB G f=none:=by
 induction G with
 |nil=>cases h
 |cons x G i=>
  obtain⟨g,d⟩:=x;simp only[s9] at h;simp only[qB];split at h
  ·simp only[X0] at h;subst h;rfl
  ·exact i h
def a2Z{G:H6}{f:FuncId}{c:Con}(h:s9 G f=some c)(C:c.isMk=true):gfz G f=none:=by
 induction G with
 |nil=>cases h
 |cons x G i=>
  obtain⟨g,d⟩:=x;simp only[s9] at h;simp only[gfz];split at h
  ·simp only[X0] at h;subst h;cases d<;>first|rfl|(cases C)
  ·exact i h
def a4F{c:List T->Option (T×X9×Option Prop)}{args:List T}{y:T}{side:Option Prop}(he:a2O c H args=some (y,H',side)):D5 H H':=by
 unfold a2O at he;split at he
 ·split at he
  ·split at he
   ·simp only[X0,U4] at he;obtain⟨_,rfl,_⟩:=he;intro k ob hk;unfold Y4 at hk ⊢;have hlt:=G1 hk
    rwa [rL hlt]
   ·cases he
  ·cases he
 ·cases he
def b2w{op:Op}{y:T}{side:Option Prop}(hg:xP G op=true)(he:I8 P G s H op=some (y,H',side)):D5 H H':=by
 unfold I8 at he;split at he
 ·simp only[X0,U4] at he;obtain⟨_,rfl,_⟩:=he;exact D5.refl H
 ·split at he
  ·rename_i r hm;simp only[X0] at he;subst he;have box:∀{t:TypeId} {cs:List T} {y:T} {H':X9} {side:Option Prop},a0f P H t cs=some (y,H',side)->D5 H H':=by
    intro t cs y H' side hb;unfold a0f at hb;split at hb
    ·simp only[X0,U4] at hb;obtain⟨_,rfl,_⟩:=hb;exact E4 H _
    ·cases hb
   unfold y8 at hm;split at hm
   ·split at hm
    ·exact box hm
    ·cases hm
   ·split at hm
    ·exact box hm
    ·cases hm
   ·simp[xP] at hg
   ·unfold a2y at hm;split at hm
    ·split at hm
     ·split at hm
      ·simp only[X0,U4] at hm;obtain⟨_,rfl,_⟩:=hm;exact E4 H _
      ·cases hm
     ·cases hm
    ·cases hm
   ·unfold G8 at hm;split at hm
    ·split at hm
     ·split at hm
      ·split at hm
       ·split at hm
        ·simp only[F1,U4] at hm;obtain⟨_,_,_,rfl,_⟩:=hm;exact E4 H _
        ·split at hm
         ·simp only[X0,U4] at hm;obtain⟨_,rfl,_⟩:=hm;exact E4 H _
         ·cases hm
       ·cases hm
      ·cases hm
     ·cases hm
    ·cases hm
   case h_8=>
    simp only[F1,U4] at hm;obtain⟨r',hr,rfl,rfl,_⟩:=hm;unfold uL at hr;split at hr
    ·simp only[X0] at hr;subst hr;exact E4 H _
    ·simp only[X0] at hr;subst hr;exact E4 H _
    ·split at hr
     ·simp only[X0] at hr;subst hr;exact E4 H _
     ·cases hr
   case h_10=>
    unfold mJ at hm;split at hm
    ·split at hm
     ·split at hm
      ·simp only[X0,U4] at hm;obtain⟨_,rfl,_⟩:=hm;exact E4 H _
      ·cases hm
     ·cases hm
    ·cases hm
   all_goals first|(cases hm;done)|(simp[xP] at hg)
  ·split at he
   ·rename_i x args argTypes;simp only[xP] at hg;unfold isMk at hg;split at hg
    ·rename_i f;split at hg
     ·rename_i cn hcn;have h1:isEff G (.func f)=true:=by
       simp only[isEff,hcn];cases cn<;>first|rfl|(cases hg)
      have h2:qB G f=none:=by
       cases cn<;>first|(cases hg;done)|skip
       ·exact a9B hcn
       ·exact(aI hcn rfl).1
      rw[h1] at he;simp only at he;unfold wJ at he;rw[h2] at he;simp only at he;split at he
      ·exact a4F he
      ·rw[a2Z hcn (by cases cn<;>first|rfl|(cases hg))] at he
       cases he
     ·cases hg
    ·cases hg
   ·cases he
def a0o(R:List Nat)(H H':X9):Prop:=∀k,k ∈ R->∀ob,Y4 H k=some ob->Y4 H' k=some ob
def b3f{op:Op}{y:T}{H1:X9}{side:Option Prop}{R:List Nat}(hr:a0G s op=some R)(hst:q8 G op=true)(X:a0o R H H')(e:I8 P G s H op=some (y,H1,side)):I8 P G s H' op=some (y,H',side):=by
 have val:∀{r:T×Option Prop},L6 P s H op=some r->L6 P s H' op=some r->I8 P G s H' op=some (y,H',side):=by
  intro r o g;unfold I8 at e ⊢;rw[o] at e;rw[g];simp only[X0,U4] at e ⊢;exact⟨e.1,trivial,e.2.2⟩
 unfold a0G at hr;split at hr
 ·rename_i t a;split at hr
  ·rename_i k i j ha;simp only[X0] at hr;subst hr;have hv:∀r,L6 P s H (.load t a)=some r->L6 P s H' (.load t a)=some r:=by
    intro r h;simp only[L6,ha,xF,getA] at h ⊢;cases B:Y4 H k with
    |none=>rw[B] at h;simp at h
    |some ob=>
     rw[X k W7 ob B]
     rw[B] at h;exact h
   cases hv0:L6 P s H (.load t a) with
   |none=>
    unfold I8 at e;rw[hv0] at e;simp[y8] at e
   |some r=>exact val hv0 (hv r hv0)
  ·rename_i cs ha;cases hv0:L6 P s H (.load t a) with
   |none=>
    unfold I8 at e;rw[hv0] at e;simp[y8] at e
   |some r=>
    refine val hv0 ?_
    simp only[L6,ha,xF] at hv0 ⊢;exact hv0
  ·cases hr
 ·rename_i t x ix;have hv:∀r,L6 P s H (.indexAddr t x ix)=some r->L6 P s H' (.indexAddr t x ix)=some r:=by
   intro r h;simp only[L6] at h ⊢;unfold x8 at h ⊢;split at hr
   ·rename_i ha;rw[ha] at h ⊢;generalize K6 s ix=q at h ⊢;generalize P.underlying t=u at h ⊢;cases q<;>first|exact h|skip
    cases u with
    |none=>exact h
    |some d=>cases d<;>exact h
   ·rename_i ha;rw[ha] at h ⊢;generalize K6 s ix=q at h ⊢;generalize P.underlying t=u at h ⊢;cases q<;>first|exact h|skip
    cases u with
    |none=>exact h
    |some d=>cases d<;>exact h
   ·rename_i k off n ha;simp only[X0] at hr;subst hr;rw[ha] at h ⊢;generalize K6 s ix=q at h ⊢;generalize P.underlying t=u at h ⊢;cases q<;>first|exact h|skip
    cases u with
    |none=>exact h
    |some d=>
     cases d<;>first|exact h|skip
     simp only[getA] at h ⊢;cases B:Y4 H k with
     |none=>rw[B] at h;simp at h
     |some ob=>
      rw[X k W7 ob B]
      rw[B] at h;exact h
   ·cases hr
  cases hv0:L6 P s H (.indexAddr t x ix) with
  |none=>
   unfold I8 at e;rw[hv0] at e;simp[y8] at e
  |some r=>exact val hv0 (hv r hv0)
 ·rename_i src dst x;have same:L6 P s H' (.convert src dst x)=L6 P s H (.convert src dst x):=by
   simp only[L6];split at hr
   ·rename_i ha;unfold vG;rw[ha];cases P.underlying src with
    |none=>rfl
    |some d=>cases P.underlying dst with
     |none=>cases d<;>rfl
     |some d'=>cases d<;>cases d'<;>rfl
   ·rename_i ha;unfold vG;rw[ha];cases P.underlying src with
    |none=>rfl
    |some d=>cases P.underlying dst with
     |none=>cases d<;>rfl
     |some d'=>cases d<;>cases d'<;>rfl
   ·rename_i ha;unfold vG;rw[ha];cases P.underlying src with
    |none=>rfl
    |some d=>cases P.underlying dst with
     |none=>cases d<;>rfl
     |some d'=>cases d<;>cases d'<;>rfl
   ·cases hr
  cases hv0:L6 P s H (.convert src dst x) with
  |none=>
   unfold I8 at e ⊢;rw[same,hv0];rw[hv0] at e;simp only at e ⊢;have M:∀r,y8 P s H (.convert src dst x)=some r->y8 P s H' (.convert src dst x)=some (r.1,H',r.2.2):=by
    intro r hm;unfold y8 at hm ⊢;simp only at hm ⊢;generalize P.underlying src=a at hm ⊢;generalize P.underlying dst=b at hm ⊢;generalize K6 s x=c at hm ⊢;split at hm
    ·split at hm
     ·rename_i v;simp only[v,X0] at hm ⊢;subst hm;rfl
     ·cases hm
    ·cases hm
   cases hm:y8 P s H (.convert src dst x) with
   |none=>
    rw[hm] at e;simp at e
   |some r=>
    rw[hm] at e;simp only[X0] at e;subst e;rw[M _ hm]
  |some r=>exact val hv0 (same.trans hv0)
 ·rename_i t x l hi;have hv:∀r,L6 P s H (.slice t x l hi none)=some r->L6 P s H' (.slice t x l hi none)=some r:=by
   intro r h;simp only[L6] at h ⊢;unfold tU at h ⊢;generalize vQ (l.map (K6 s))=q1 at h ⊢;generalize vQ (hi.map (K6 s))=q2 at h ⊢;generalize P.underlying t=u at h ⊢;split at hr
   ·rename_i ha;rw[ha] at h ⊢;cases q1<;>cases q2<;>first|exact h|skip
    cases u with
    |none=>exact h
    |some d=>cases d<;>exact h
   ·rename_i ha;rw[ha] at h ⊢;cases q1<;>cases q2<;>first|exact h|skip
    cases u with
    |none=>exact h
    |some d=>cases d<;>exact h
   ·rename_i ha;rw[ha] at h ⊢;cases q1<;>cases q2<;>first|exact h|skip
    cases u with
    |none=>exact h
    |some d=>cases d<;>exact h
   ·rename_i k off n ha;simp only[X0] at hr;subst hr;rw[ha] at h ⊢;cases q1<;>cases q2<;>first|exact h|skip
    cases u with
    |none=>exact h
    |some d=>
     cases d<;>first|exact h|skip
     simp only[getA] at h ⊢;cases B:Y4 H k with
     |none=>rw[B] at h;simp at h
     |some ob=>
      rw[X k W7 ob B]
      rw[B] at h;exact h
   ·cases hr
  cases hv0:L6 P s H (.slice t x l hi none) with
  |none=>
   unfold I8 at e;rw[hv0] at e;simp[y8] at e
  |some r=>exact val hv0 (hv r hv0)
 ·simp[q8] at hst
 ·rename_i args argTypes;have same:L6 P s H' (.call {callee:=.builtin .len,args,argTypes})=L6 P s H (.call {callee:=.builtin .len,args,argTypes}):=rfl;cases hv0:L6 P s H (.call {callee:=.builtin .len,args,argTypes}) with
  |none=>
   unfold I8 at e;rw[hv0] at e;simp[y8] at e
  |some r=>exact val hv0 (same.trans hv0)
 ·simp[q8] at hst
 ·rename_i x args argTypes;split at hr
  ·rename_i f cs hf;split at hr
   ·rename_i hcl;have he2:isEff G x=false:=by simpa[q8] using hst
    unfold I8 at e ⊢;simp only[L6,y8,he2,hf] at e ⊢;unfold zA at e ⊢;rw[hcl] at e ⊢;simp only[F1,U4] at e ⊢;obtain⟨r,o,g,A,z⟩:=e;exact⟨r,o,g,trivial,z⟩
   ·cases hr
  ·cases hr
 ·cases hr
def A5{H:X9}{j k:Nat}{x:Option Ob}(h:j≠k):Y4 (H.set j x) k=Y4 H k:=by
 unfold Y4;rw[j_k h]
def vT:∀{ks:List Nat} {os:List (Option Ob)} {H:X9} {k:Nat},k ∉ ks->Y4 (M2 H ks os) k=Y4 H k
 | [],os,H,k,_=>by cases os<;>rfl
 |j::ks,[],H,k,_=>rfl
 |j::ks,o::os,H,k,h=>by
  simp only[vN,not_or] at h;show Y4 (M2 (H.set j o) ks os) k=_;rw[vT h.2,A5 (Ne.symm h.1)]
def mF:∀{ks:List Nat} {H:X9} {k:Nat},k ∉ ks->Y4 (D0 H ks) k=Y4 H k
 | [],H,k,_=>rfl
 |j::ks,H,k,h=>by
  simp only[vN,not_or] at h;show Y4 (D0 (H.set j none) ks) k=_;rw[mF h.2,A5 (Ne.symm h.1)]
def c9I(A B:X9)(k:Nat){ob:Ob}(h:Y4 A k=some ob):Y4 (A++B) k=some ob:=by
 have t:=G1 h;unfold Y4 at h ⊢
 rwa [rL t]
def a3M{op:Op}{y:T}{side:Option Prop}{W:List Nat}(hw:tN H s op=some W)(he:I8 P G s H op=some (y,H',side)):∀k,k ∉ W->∀ob,Y4 H k=some ob->Y4 H' k=some ob:=by
 intro k hk ob B;have app:∀(A:X9) (x:Option Ob),Y4 A k=some ob->Y4 (A++[x]) k=some ob:=λA x h=>E4 A x k ob h
 unfold tN at hw;split at hw
 ·rename_i args argTypes;unfold I8 at he;simp only[L6] at he;split at he
  ·rename_i r hm;simp only[X0] at he;subst he;simp only[y8] at hm;split at hm
   ·rename_i d x t tx h1 h2;rw[h1] at hw;simp only at hw;unfold mY at hm;split at hm
    ·split at hm
     ·rename_i i z hi hz;split at hm
      ·rename_i hd;split at hm
       ·simp only[F1,U4] at hm;obtain⟨q,_,_,rfl,_⟩:=hm;exact app _ _ B
       ·split at hm
        ·split at hm
         ·simp only[X0,U4] at hm;obtain⟨_,rfl,_⟩:=hm;exact app _ _ B
         ·cases hm
        ·simp only[F1,U4] at hm;obtain⟨q,_,_,rfl,_⟩:=hm;exact app _ _ B
      ·split at hm
       ·cases hm
       ·simp only[F1,U4] at hm;obtain⟨q,_,_,rfl,_⟩:=hm;exact app _ _ B
      ·rename_i k0 n hb1 hb2 hd;rw[hd] at hw;simp only at hw;split at hw
       ·cases hw
       rename_i F;simp only[X0] at hw;subst hw;have hne:k0≠k:=λh=>hk dH
       have e:∀x,Y4 (H.set k0 x) k=some ob:=λx=>by rw[A5 hne];exact B
       split at hm
       ·split at hm
        ·simp only[F1,U4] at hm;obtain⟨q,_,_,rfl,_⟩:=hm;exact app _ _ (e _)
        ·cases hm
       ·split at hm
        ·simp only[F1,U4] at hm;obtain⟨q,_,_,rfl,_⟩:=hm;exact app _ _ (e _)
        ·cases hm
       ·rename_i hf;exact absurd hf (F _ _ _ _ _)
       ·cases hm
      ·cases hm
     ·cases hm
    ·cases hm
   ·cases hm
  ·cases he
 ·rename_i t a x;unfold I8 at he;simp only[L6] at he;split at he
  ·rename_i r hm;simp only[X0] at he;subst he;simp only[y8,F1] at hm;obtain⟨q,hq,hq2⟩:=hm;simp only[U4] at hq2;obtain⟨_,rfl,_⟩:=hq2;split at hw
   ·rename_i k0 i j ha;have hne:k0≠k:=λh=>by
     subst h;split at hw
     ·split at hw
      ·simp only[X0] at hw;subst hw;simp at hk
      ·cases hw
     ·simp only[X0] at hw;subst hw;simp at hk
    rw[ha] at hq;simp only[qX] at hq;split at hq
    ·split at hq
     ·simp only[X0] at hq;subst hq;simp only;rw[A5 hne];exact B
     ·cases hq
    ·split at hq
     ·simp only[X0] at hq;subst hq;simp only;rw[A5 hne];exact B
     ·cases hq
    ·rename_i hf _ _ _;rw[hf] at hw;simp only at hw;split at hq
     ·split at hq
      ·simp only[X0] at hq;subst hq;simp only;rw[A5 hne];exact B
      ·rename_i l;rw[l] at hw;cases hw
     ·cases hq
    ·cases hq
   ·rename_i k0 v i j z a1 b1 ha;simp only[X0] at hw;subst hw;have hne:k0≠k:=λh=>hk dH
    rw[ha] at hq;simp only[qX] at hq;split at hq
    ·split at hq
     ·simp only[X0] at hq;subst hq;simp only;rw[A5 hne];exact B
     ·cases hq
    ·cases hq
   ·cases hw
  ·cases he
 ·rename_i x args argTypes;have u:L6 P s H (.call {callee:=.value x,args:=args,argTypes:=argTypes})=none:=rfl;have o:y8 P s H (.call {callee:=.value x,args:=args,argTypes:=argTypes})=none:=rfl;unfold I8 at he;simp only[u,o] at he;have key:∀f cs,bB s x=some (f,cs)->wJ G H f (args.toList.map (K6 s)++cs)=some (y,H',side)->Y4 H' k=some ob:=λf cs hf hv=>by
   rw[hf] at hw;simp only at hw;generalize args.toList.map (K6 s)++cs=as at hw hv;split at hw
   ·cases hw
   rename_i g;simp only[X0] at hw;subst hw;unfold wJ at hv;split at hv
   ·split at hv
    ·exact absurd rfl (g _ _ _ _ _ _)
    ·unfold c8 at hv;split at hv
     ·split at hv
      ·split at hv
       ·simp only[X0,U4] at hv;obtain⟨_,rfl,_⟩:=hv;exact c9I _ _ _ (by rw[vT hk];exact B)
       ·cases hv
      ·cases hv
     ·cases hv
   ·split at hv
    ·exact a4F hv k ob B
    ·split at hv
     ·unfold c0j at hv;split at hv
      ·split at hv
       ·simp only[X0,U4] at hv;obtain⟨_,rfl,_⟩:=hv;rw[mF hk];exact B
       ·cases hv
      ·cases hv
     ·cases hv
  have pure:∀as f,(zA G H f as).map (λr=>(r.1,H,r.2))=some (y,H',side)->Y4 H' k=some ob:=λas f hv=>by
   rw[F1] at hv;obtain⟨q,_,hq⟩:=hv;simp only[U4] at hq;obtain⟨_,rfl,_⟩:=hq;exact B
  split at he
  ·split at he
   ·rename_i f _;exact key f [] rfl (by rw[List.append_nil];exact he)
   ·split at he
    ·rename_i f cs hf;split at he
     ·exact key f cs hf he
     ·exact pure _ _ he
    ·cases he
  ·split at he
   ·exact pure _ _ he
   ·cases he
 ·cases hw
def wV{op:Op}{y:T}{H1:X9}{side:Option Prop}(d:sO G op=true)(h:y5 P G s H op=some (y,H1,side)):H1=H/\y5 P G s H' op=some (y,H',side):=by
 unfold y5 at h ⊢;rw[d] at h ⊢;simp only at h ⊢;split at h
 ·rename_i t p hv;simp only[X0,U4] at h;obtain⟨rfl,rfl,rfl⟩:=h;exact⟨rfl,rfl⟩
 ·cases h
def vK{op:Op}(h:sO G op=false):y5 P G s H op=I8 P G s H op:=by unfold y5;rw[h]
def b04{op:Op}(h:sO G op=false):stays G op=q8 G op:=by unfold stays;rw[h]
def b8o(h:D5 H H'){op:Op}{y:T}{H1:X9}{side:Option Prop}(t:stays G op=true)(e:y5 P G s H op=some (y,H1,side)):y5 P G s H' op=some (y,H',side):=by
 cases d:sO G op with
 |true=>exact(wV d e).2
 |false=>rw[vK d] at e ⊢;rw[b04 d] at t;exact b4q h t e
def b4w{op:Op}{y:T}{H1:X9}{side:Option Prop}(hp:pureB op=true)(h:y5 P G s H op=some (y,H1,side)):y5 P G s H' op=some (y,H',side):=by
 cases t:sO G op with
 |true=>exact(wV t h).2
 |false=>rw[vK t] at h ⊢;exact a8i hp h
def a5o{op:Op}{y:T}{side:Option Prop}(g:xP G op=true)(h:y5 P G s H op=some (y,H',side)):D5 H H':=by
 cases t:sO G op with
 |true=>rw[(wV (H':=H) t h).1];exact λk ob d=>d
 |false=>rw[vK t] at h;exact b2w g h
def b4R{c:List T->Option (T×X9×Option Prop)}{args:List T}{y:T}{side:Option Prop}(he:a2O c H args=some (y,H',side)):
  ∃os,H'=H++os/\∀H2:X9,H2.length=H.length->D5 H H2->a2O c H2 args=some (y,H2++os,side):=by
 unfold a2O at he;split at he
 ·rename_i bs hbs;split at he
  ·rename_i r H0 p hc;split at he
   ·rename_i r' os hr hos;simp only[X0,U4] at he;obtain⟨rfl,rfl,rfl⟩:=he;refine⟨os,rfl,λH2 hl hx=>?_⟩
    unfold a2O;rw[l6 (λa b h=>fA hx 6 h) hbs]
    simp only[hc,hl,hr,hos]
   ·cases he
  ·cases he
 ·cases he
def b5P{op:Op}{y:T}{side:Option Prop}(hf:b8N op=true)(he:y5 P G s H op=some (y,H',side)):
  ∃os,H'=H++os/\∀H2:X9,H2.length=H.length->D5 H H2->y5 P G s H2 op=some (y,H2++os,side):=by
 unfold b8N at hf;split at hf
 case h_2=>cases hf
 rename_i t len parts;cases ht:sO G (.buildSlice t len parts) with
 |true=>
  unfold y5 at he ⊢;rw[ht] at he ⊢;simp only[] at he ⊢;cases hz:a3o P s (.buildSlice t len parts) with
  |none=>rw[hz] at he;cases he
  |some z=>
   rw[hz] at he;simp only[X0,U4] at he;obtain⟨h2,h3,h4⟩:=he;exact⟨[],by rw[List.append_nil];exact h3.symm,λH2 _ _=>by simp only[X0,U4,List.append_nil];exact⟨h2,trivial,h4⟩⟩
 |false=>
  rw[vK ht] at he;have e1:∀H,L6 P s H (.buildSlice t len parts)=none:=λH=>rfl
  have key:∀H2,I8 P G s H2 (.buildSlice t len parts)=G8 P s H2 t len parts:=λH2=>by
   unfold I8;simp only[e1];show(match G8 P s H2 t len parts with|some r=>some r|none=>_)=_
   cases G8 P s H2 t len parts<;>rfl
  rw[key] at he
  suffices hh:∃os,H'=H++os/\∀H2:X9,H2.length=H.length->G8 P s H2 t len parts=some (y,H2++os,side) by
   obtain⟨os,h1,h2⟩:=hh;exact⟨os,h1,λH2 hl _=>by rw[vK ht,key];exact h2 H2 hl⟩
  unfold G8 at he ⊢;split at he
  case h_2=>cases he
  split at he
  case h_2=>cases he
  split at he
  case h_2=>cases he
  split at he
  case h_2=>cases he
  split at he
  ·simp only[F1,U4] at he;obtain⟨ns,h1,rfl,rfl,rfl⟩:=he;refine⟨_,rfl,λH2 hl=>?_⟩
   simp only[*,h9]
  ·split at he
   case h_2=>cases he
   simp only[X0,U4] at he;obtain⟨rfl,rfl,rfl⟩:=he;refine⟨_,rfl,λH2 hl=>?_⟩
   simp only[*]
def c3O{op:Op}{y:T}{side:Option Prop}(hf:floatB G op=true)(he:y5 P G s H op=some (y,H',side)):
  ∃os,H'=H++os/\∀H2:X9,H2.length=H.length->D5 H H2->y5 P G s H2 op=some (y,H2++os,side):=by
 unfold floatB at hf;rw[nT] at hf;rcases hf with hf|hf
 ·exact b5P hf he
 simp only[J5] at hf;obtain⟨hv,hg⟩:=hf;unfold b0U at hv;split at hv
 case h_2=>cases hv
 rename_i x args at_;have ht:sO G (.call {callee:=.value x,args:=args,argTypes:=at_})=false:=rfl;rw[vK ht] at he
 suffices hh:∃os,H'=H++os/\∀H2:X9,H2.length=H.length->D5 H H2->I8 P G s H2 (.call {callee:=.value x,args:=args,argTypes:=at_})=some (y,H2++os,side) by
  obtain⟨os,h1,h2⟩:=hh;exact⟨os,h1,λH2 hl hx=>by rw[vK ht];exact h2 H2 hl hx⟩
 have e1:∀H,L6 P s H (.call {callee:=.value x,args:=args,argTypes:=at_})=none:=λH=>rfl
 have e2:∀H,y8 P s H (.call {callee:=.value x,args:=args,argTypes:=at_})=none:=λH=>rfl
 unfold I8 at he ⊢;simp only[e1,e2] at he ⊢;simp only[xP] at hg;unfold isMk at hg;split at hg
 ·rename_i f;split at hg
  ·rename_i cn hcn;have h1:isEff G (.func f)=true:=by
    simp only[isEff,hcn];cases cn<;>first|rfl|(cases hg)
   have h2:qB G f=none:=by
    cases cn<;>first|(cases hg;done)|skip
    ·exact a9B hcn
    ·exact(aI hcn rfl).1
   simp only[h1] at he ⊢;unfold wJ at he ⊢;rw[h2] at he;simp only[h2] at he ⊢;split at he
   ·rename_i c hc;obtain⟨os,e3,e4⟩:=b4R he;exact⟨os,e3,λH2 hl hx=>e4 H2 hl hx⟩
   ·rw[a2Z hcn (by cases cn<;>first|rfl|(cases hg))] at he
    cases he
  ·cases hg
 ·cases hg
def a4e{α β:Type}{f:α->Option β}:∀{l:List α} {q:List β},O0 f l=some q->∀a ∈ l,∃b,f a=some b
 | [],_,_,a,ha=>by cases ha
 |x::l,q,h,a,ha=>by
  simp only[O0] at h;split at h
  ·rename_i hb hr;rcases vN.1 ha with rfl|ha
   ·exact⟨_,hb⟩
   ·exact a4e hr a ha
  ·cases h
def oO{k:Nat}:∀(d:Nat) (r D7:List Nat),k ∈ D7->k ∈ i9 H d r D7
 |0,_,_,h=>h
 |_+1,[],_,h=>h
 |d+1,x::r,D7,h=>by
  unfold i9;split
  ·exact oO d r D7 h
  ·exact oO d _ _ (List.mem_append_left _ h)
def kL(X:D5 H H'):∀(d:Nat) (r D7:List Nat),(∀k ∈ i9 H d r D7,∃ob,Y4 H k=some ob)->i9 H' d r D7=i9 H d r D7
 |0,_,_,_=>rfl
 |_+1,[],_,_=>rfl
 |d+1,x::r,D7,h=>by
  unfold i9 at h ⊢;cases M:memN x D7 with
  |true=>
   rw[M] at h;exact kL X d r D7 h
  |false=>
   rw[M] at h;simp only at h ⊢;obtain⟨ob,B⟩:=h x (oO d _ _ (List.mem_append_right _ (List.mem_singleton.2 rfl)));rw[X x ob B,B];rw[B] at h;exact kL X d _ _ h
def c74{c:List T->X9->Option (T×X9×Option Prop)}{args:List T}{y:T}{side:Option Prop}{r:List Nat}(he:c8 c H (i9 H 64 r []) args=some (y,H',side)):
  ∃ks os os2,H'=M2 H ks os++os2/\(∀k ∈ ks,∃ob,Y4 H k=some ob)/\∀H2:X9,H2.length=H.length->D5 H H2->c8 c H2 (i9 H2 64 r []) args=some (y,M2 H2 ks os++os2,side):=by
 unfold c8 at he;split at he
 ·rename_i as obs hnd has hobs;split at he
  ·rename_i r0 H0 p hc;split at he
   ·rename_i j os f R e;simp only[X0,U4] at he;obtain⟨rfl,rfl,rfl⟩:=he;have d:∀k ∈ i9 H 64 r [],∃ob,Y4 H k=some ob:=λk d=>by
     obtain⟨b,h⟩:=a4e hobs k d;cases o:Y4 H k with
     |none=>rw[o] at h;cases h
     |some ob=>exact⟨ob,rfl⟩
    refine⟨_,_,_,rfl,d,λH2 l x=>?_⟩
    rw[kL x 64 r [] d];unfold c8;have i:=l6 (g:=λk=>(Y4 H2 k).bind (lJ λk=>j3 k (i9 H 64 r []) 0)) (λa b h=>by
     cases o:Y4 H a with
     |none=>rw[o] at h;cases h
     |some ob=>rw[x a ob o];rw[o] at h;exact h) hobs
    simp only[hnd,has,i,hc,l,f,R,e]
   ·cases he
  ·cases he
 ·cases he
def c0G{G:H6}{f:FuncId}{c:Con}(h:s9 G f=some c)(C:c.isEf=true):(∃d,qB G f=some d)∨(qB G f=none/\gmk G f=none/\gfz G f=none):=by
 induction G with
 |nil=>cases h
 |cons x G i=>
  obtain⟨g,d⟩:=x;simp only[s9] at h;simp only[qB,gmk,gfz];split at h
  ·simp only[X0] at h;subst h;cases d<;>first|exact .inl ⟨_,rfl⟩|exact .inr ⟨rfl,rfl,rfl⟩|(cases C)
  ·exact i h
def a3R{c:List T->X9->Option (T×X9×Option Prop)}{f:FuncId}(C:qB G f=some c){l:List T}(h:∀k v i j n r,l≠ .posl k v i j n::r):wJ G H f l=c8 c H (i9 H 64 (iY l) []) l:=by
 unfold wJ;rw[C];cases l with
 |nil=>rfl
 |cons t r=>cases t<;>first|rfl|exact absurd rfl (h _ _ _ _ _ _)
def b9Z{op:Op}{y:T}{side:Option Prop}{W:List Nat}(hf:b2N G op=true)(hw:tN H s op=some W)(he:y5 P G s H op=some (y,H',side)):
  ∃ks os os2,H'=M2 H ks os++os2/\(∀k ∈ ks,∃ob,Y4 H k=some ob)/\∀H2:X9,H2.length=H.length->D5 H H2->y5 P G s H2 op=some (y,M2 H2 ks os++os2,side):=by
 unfold b2N at hf;split at hf
 case h_2=>cases hf
 rename_i x args at_;have ht:sO G (.call {callee:=.value x,args:=args,argTypes:=at_})=false:=rfl;unfold isEf at hf;split at hf
 case h_2=>cases hf
 rename_i f;have e1:∀H,L6 P s H (.call {callee:=.value (.func f),args:=args,argTypes:=at_})=none:=λH=>rfl
 have e2:∀H,y8 P s H (.call {callee:=.value (.func f),args:=args,argTypes:=at_})=none:=λH=>rfl
 cases hcn:s9 G f with
 |none=>rw[hcn] at hf;cases hf
 |some cn=>
  rw[hcn] at hf;have hie:isEff G (.func f)=true:=by
   simp only[isEff,hcn];cases cn<;>first|rfl|(cases hf)
  have key:∀H,y5 P G s H (.call {callee:=.value (.func f),args:=args,argTypes:=at_})=wJ G H f (args.toList.map (K6 s)):=λH=>by
   rw[vK ht];unfold I8;simp only[e1,e2,hie]
  rw[key] at he;have hnp:∀k v i j n r,args.toList.map (K6 s)≠ .posl k v i j n::r:=λk v i j n r hp=>by
   unfold tN at hw;simp only[bB,List.append_nil] at hw;rw[hp] at hw;cases hw
  rcases c0G hcn a4N with⟨c,hc⟩|⟨h1,h2,h3⟩
  ·rw[a3R hc hnp] at he;obtain⟨ks,os,os2,a1,a2,a3⟩:=c74 he;exact⟨ks,os,os2,a1,a2,λH2 hl hx=>by rw[key,a3R hc hnp];exact a3 H2 hl hx⟩
  ·unfold wJ at he;rw[h1,h2,h3] at he;cases he
def mG{op:Op}{r:Nat}{y:T}{side:Option Prop}(he:a6j P s H op r=some (y,H',side)):Y4 H r=none/\r<H.length/\∃ob,H'=H.set r (some ob):=by
 unfold a6j at he;split at he
 ·split at he
  ·split at he
   ·rename_i h d;simp only[X0,U4] at he;exact⟨h,yH d,_,he.2.1.symm⟩
   ·cases he
  ·cases he
 ·split at he
  ·split at he
   ·split at he
    ·split at he
     ·split at he
      ·rename_i h d;simp only[X0,U4] at he;exact⟨h,yH d,_,he.2.1.symm⟩
      ·cases he
     ·cases he
    ·cases he
   ·cases he
  ·cases he
 ·cases he
def a43{op:Op}{r:Nat}{y:T}{side:Option Prop}(d:a6j P s H op r=some (y,H',side)):D5 H H':=by
 obtain⟨g,f,_,rfl⟩:=mG d;intro k ob h;rw[U2 f];split
 ·rename_i e;rw[e,g] at h;cases h
 ·exact h
def b8J{op:Op}{y:T}{H1:X9}{side:Option Prop}{R:List Nat}(r:a0G s op=some R)(h:stays G op=true)(x:a0o R H H')(e:y5 P G s H op=some (y,H1,side)):y5 P G s H' op=some (y,H',side):=by
 cases t:sO G op with
 |true=>exact(wV t e).2
 |false=>rw[vK t] at e ⊢;rw[b04 t] at h;exact b3f r h x e
def a8d{op:Op}{y:T}{side:Option Prop}{W:List Nat}(d:tN H s op=some W)(h:y5 P G s H op=some (y,H',side)):∀k,k ∉ W->∀ob,Y4 H k=some ob->Y4 H' k=some ob:=by
 cases t:sO G op with
 |true=>rw[(wV (H':=H) t h).1];exact λk _ ob e=>e
 |false=>rw[vK t] at h;exact a3M d h
end
structure St where
 s:W4
 ps:y3
 hist:List (Nat×X9)
structure StepOk(P:Program)(G:H6)(nt:Nat)(all:Array Oper)(b:Nat)(H0:X9)(i:Nat)(o:Oper)(st st':St)(y:T)(p:C5)(m:Nat):Prop where
 fresh:gA st.ps o.dst=true
 dst:jZ nt o.dst=true
 s:st'.s=wT st.s o.dst y
 paths:F6 st.ps p o.op=true
 plain:o.guard=none->p=[]/\st'.ps=st.ps
 guarded:∀j want,o.guard=some (j,want)->∃g x,(all[j]?).bind (·.dst)=some g/\zH st.s g= .bool x/\j<i/\p=(g,want)::S9 st.ps g/\st'.ps=bO st.ps o.dst p/\stays G o.op=true/\mM st.ps g o.dst=true
 reader:stays G o.op=true->st'.hist=st.hist/\∃G' H' side,Good P G G'/\y5 P G' st.s (hAt (C1 G) all H0 m st.hist) o.op=some (y,H',side)/\(H5 st.s p->side.getD True)
 writer:stays G o.op=false->l7 (C1 G) o=false->∃G' H' side,Good P G G'/\y5 P G' st.s (y6 H0 st.hist) o.op=some (y,H',side)/\st'.hist=(i,H')::st.hist/\side.getD True
 al:l7 (C1 G) o=true->∃H' side,a6j P st.s (y6 H0 st.hist) o.op (kP (C1 G) b all i)=some (y,H',side)/\st'.hist=(i,H')::st.hist/\side.getD True
section
variable {P:Program} {G:H6} {nt:Nat} {all:Array Oper} {b:Nat} {H0:X9} {K:W4->X9->Prop}
def b0f{tab:List Nat}{j:Nat}:∀{es:List Edge},Nat.testBit (maskOf tab es) j=true->∃e ∈ es,Region.binds .any e=true/\(e.on=j∨Nat.testBit (tab.getD e.on 0) j=true):=by
 intro es;induction es with
 |nil=>intro h;simp[maskOf] at h
 |cons e es i=>
  intro h;simp only[maskOf] at h;split at h
  ·rename_i hb;have h':Nat.testBit ((1<<<e.on|||tab.getD e.on 0)|||maskOf tab es) j=true:=h;rw[Nat.testBit_or,Nat.testBit_or,nT,nT] at h';rcases h' with(h1|h1)|h1
   ·refine⟨e,W7,hb,.inl ?_⟩
    rw[Nat.one_shiftLeft,Nat.testBit_two_pow] at h1
    simpa using h1
   ·exact⟨e,W7,hb,.inr h1⟩
   ·obtain⟨g,d,f⟩:=i h1;exact⟨g,by simp[d],f⟩
  ·obtain⟨g,d,f⟩:=i h;exact⟨g,by simp[d],f⟩
def lV{o:Oper}(h:l7 (C1 G) o=true):stays G o.op=false/\o.guard=none:=by
 unfold l7 at h;split at h
 ·cases h
 rename_i g;refine⟨?_,g⟩
 split at h
 ·rename_i t O;rw[O];rfl
 ·rename_i args at_ O;rw[O];have d:Nat.ble 8 (lZ G)=true:=by
   have e:lZ G=8:=(F5 h).symm;rw[e];rfl
  have f:sO G (.call {callee:=.builtin .append,args:=args,argTypes:=at_})=false:=by
   show Q5 (lZ G) args.toList=false;unfold Q5;rw[d]
  unfold stays;rw[f];rfl
 ·cases h
def c8N(hG:B6 P G)(hGc:∀x ∈ G,Q6 P x.1):∀(R:List Oper) (i:Nat) (r:List (Nat×Oper×RW)) (B:List Nat) (V:Nat->RW) (s:W4) (ps:y3) (hist:List (Nat×X9)),R=all.toList.drop i->i<=all.size->B.length=i->
  (∀k o,k<i->all[k]? =some o->(k,o,V k) ∈ r)->sY P G nt all b H0 R i r B s ps hist K->
  ∃(S:Nat->St) (y:Nat->T) (p:Nat->C5) (m:Nat->Nat) (f:Nat->RW),S i=⟨s,ps,hist⟩/\(∀k,k<i->m k=B.getD k 0/\f k=V k)/\
   (∀k o,i<=k->all[k]? =some o->StepOk P G nt all b H0 k o (S k) (S (k+1)) (y k) (p k) (m k)/\a1v k o=true/\(f k=pB (y6 H0 (S k).hist) (S k).s o.op/\∀k' o',k'<k->all[k']? =some o'->l9 G all (m k) k' o' (f k') o (f k)=true)/\
    (∀j,Nat.testBit (m k) j=true->∃e ∈ o.after.toList,Region.binds .any e=true/\e.on<k/\(e.on=j∨Nat.testBit (m e.on) j=true)))/\
   K (K7 (S all.size).s (S all.size).ps) (y6 H0 (S all.size).hist):=by
 intro R;induction R with
 |nil=>
  intro i r B V s ps hist d hi A I h;have aj:i=all.size:=by
   have:=congrArg List.length d;simp at this;omega
  subst aj;refine⟨λ_=>⟨s,ps,hist⟩,λ_=>.und,λ_=>[],λk=>B.getD k 0,V,rfl,λk _=>⟨rfl,rfl⟩,λk o F ho=>?_,h⟩
  have:=(aC.1 ho).1
  omega
 |cons o R ih=>
  intro i r B V s ps hist d hi A I h;have W:i<all.size:=by
   have:=congrArg List.length d;simp at this;omega
  have Z:all.toList.drop i=all[i]::all.toList.drop (i+1):=by
   rw[List.drop_eq_getElem_cons (by simpa using W)]
   simp
  rw[Z] at d;obtain⟨ho,U⟩:=List.cons.inj d;have hoi:all[i]? =some o:=by rw[tB W,ho]
  unfold sY at h;split at h
  ·exact h.elim
  rename_i ae;simp only[J5] at ae;obtain⟨z,Y⟩:=ae;have Q:∀k' o',k'<i->all[k']? =some o'->l9 G all (maskOf B o.after.toList) k' o' (V k') o (pB (y6 H0 hist) s o.op)=true:=λk' o' F ho'=>b9.1 Y _ (I k' o' F ho')
  have go:∀(v:St) (y:T) (p:C5),StepOk P G nt all b H0 i o ⟨s,ps,hist⟩ v y p (maskOf B o.after.toList)->
    sY P G nt all b H0 R (i+1) ((i,o,pB (y6 H0 hist) s o.op)::r) (B++[maskOf B o.after.toList]) v.s v.ps v.hist K->∃(S:Nat->St) (y:Nat->T) (p:Nat->C5) (m:Nat->Nat) (f:Nat->RW),S i=⟨s,ps,hist⟩/\(∀k,k<i->m k=B.getD k 0/\f k=V k)/\
   (∀k o,i<=k->all[k]? =some o->StepOk P G nt all b H0 k o (S k) (S (k+1)) (y k) (p k) (m k)/\a1v k o=true/\(f k=pB (y6 H0 (S k).hist) (S k).s o.op/\∀k' o',k'<k->all[k']? =some o'->l9 G all (m k) k' o' (f k') o (f k)=true)/\
    (∀j,Nat.testBit (m k) j=true->∃e ∈ o.after.toList,Region.binds .any e=true/\e.on<k/\(e.on=j∨Nat.testBit (m e.on) j=true)))/\
   K (K7 (S all.size).s (S all.size).ps) (y6 H0 (S all.size).hist):=by
   intro v y p aa ah;obtain⟨S,y',p',m,f,hS,X,hall,hK⟩:=ih (i+1) _ _ (λk=>if k=i then pB (y6 H0 hist) s o.op else V k) _ _ _ U W (by simp[A]) (λk o' F ho'=>by
    by_cases hki:k=i
    ·subst hki;rw[hoi] at ho';simp only[X0] at ho';subst ho';simp
    ·rw[if_neg hki];exact List.mem_cons_of_mem _ (I k o' Z9 ho')) ah
   have hm:∀k,k<i+1->m k=(B++[maskOf B o.after.toList]).getD k 0:=λk F=>(X k F).1
   have ad:f i=pB (y6 H0 hist) s o.op:=by rw[(X i Z9).2,if_pos rfl]
   have ac:∀k,k<i->f k=V k:=λk F=>by rw[(X k Z9).2,if_neg Z9]
   have ak:m i=maskOf B o.after.toList:=by
    rw[hm i Z9]
    simp[P4,←A]
   have af:∀k,k<i->m k=B.getD k 0:=λk F=>by
    rw[hm k Z9]
    simp only[P4]
    rw[rL Z9]
   refine⟨λk=>if k<=i then⟨s,ps,hist⟩ else S k,λk=>if k<=i then y else y' k,λk=>if k<=i then p else p' k,m,f,W7,λk F=>⟨af k F,ac k F⟩,λk o' F ho'=>?_,?_⟩
   ·by_cases hki:k=i
    ·subst hki;rw[hoi] at ho';simp only[X0] at ho';subst ho';have e1:(if k<=k then(⟨s,ps,hist⟩:St) else S k)=⟨s,ps,hist⟩:=if_pos (U9 _)
     have e2:(if k+1<=k then(⟨s,ps,hist⟩:St) else S (k+1))=v:=by rw[if_neg Z9,hS]
     have e3:(if k<=k then y else y' k)=y:=if_pos (U9 _)
     have e4:(if k<=k then p else p' k)=p:=if_pos (U9 _)
     simp only[e1,e2,e3,e4,ak];refine⟨aa,z,⟨ad,λk' o' ab ho'=>by rw[ad,ac k' ab];exact Q k' o' ab ho'⟩,λj hj=>?_⟩
     obtain⟨e,M,hb,am⟩:=b0f hj;have ag:e.on<k:=by
      have:=b9.1 z e M;simp only[hb,Bool.not_true,Bool.false_or] at this;exact yH this
     refine⟨e,M,hb,ag,?_⟩
     rcases am with h1|h1
     ·exact .inl h1
     ·exact .inr (by rw[af _ ag];exact h1)
    ·have h1:=hall k o' Z9 ho'
     have e1:(if k<=i then(⟨s,ps,hist⟩:St) else S k)=S k:=if_neg Z9
     have e2:(if k+1<=i then(⟨s,ps,hist⟩:St) else S (k+1))=S (k+1):=if_neg Z9
     have e3:(if k<=i then y else y' k)=y' k:=if_neg Z9
     have e4:(if k<=i then p else p' k)=p' k:=if_neg Z9
     simp only[e1,e2,e3,e4];exact h1
   ·have e1:(if all.size<=i then(⟨s,ps,hist⟩:St) else S all.size)=S all.size:=if_neg Z9
    simp only[e1];exact hK
  have L:∀(s:W4),H5 s []:=λs q hq=>wB
  split at h
  ·rename_i hg;split at h
   ·exact h.elim
   rename_i n;simp only[J5] at n;obtain⟨⟨O,C⟩,l⟩:=n;split at h
   ·rename_i hal;have hsty:=(lV hal).1;split at h
    ·rename_i y H' side M;obtain⟨hs,h⟩:=wE h;exact go ⟨wT s o.dst y,ps,(i,H')::hist⟩ y [] ⟨C,l,rfl,O,λ_=>⟨rfl,rfl⟩,λj want J=>b9q,λN=>a9C,λ_ N=>by(rw[hal] at N;cases N),λ_=>⟨H',side,M,rfl,hs (L _)⟩⟩ h
    ·exact h.elim
   ·rename_i hal;split at h
    ·rename_i hsty;obtain⟨G',hGG,h⟩:=qM hG hGc h;split at h
     ·rename_i t H' side M;obtain⟨hs,d⟩:=wE h;exact go ⟨wT s o.dst t,ps,hist⟩ t [] ⟨C,l,rfl,O,λ_=>⟨rfl,rfl⟩,λj want J=>b9q,λ_=>⟨rfl,G',H',side,hGG,M,λ_=>hs (L _)⟩,λN=>a9C,λu=>by(rw[hal] at u;cases u)⟩ d
     ·exact h.elim
    ·rename_i hsty;obtain⟨G',hGG,h⟩:=qM hG hGc h;split at h
     ·rename_i t H' side M;obtain⟨hs,d⟩:=wE h;exact go ⟨wT s o.dst t,ps,(i,H')::hist⟩ t [] ⟨C,l,rfl,O,λ_=>⟨rfl,rfl⟩,λj want J=>b9q,λN=>a9C,λ_ _=>⟨G',H',side,hGG,M,rfl,hs (L _)⟩,λu=>by(rw[hal] at u;cases u)⟩ d
     ·exact h.elim
  ·rename_i j want hg;split at h
   ·rename_i g hgd;split at h
    ·rename_i x hx;split at h
     ·exact h.elim
     rename_i n;simp only[J5] at n;obtain⟨⟨⟨⟨⟨ai,O⟩,C⟩,l⟩,hsty⟩,al⟩:=n;obtain⟨G',hGG,h⟩:=qM hG hGc h;split at h
     ·rename_i t H' side M;obtain⟨hs,d⟩:=wE h;exact go ⟨wT s o.dst t,bO ps o.dst ((g,want)::S9 ps g),hist⟩ t ((g,want)::S9 ps g) ⟨C,l,rfl,O,λN=>by(rw[hg] at N;cases N),
       λj' an J=>by
        rw[hg] at J;simp only[X0,U4] at J;obtain⟨rfl,rfl⟩:=J;exact⟨g,x,hgd,hx,yH ai,rfl,rfl,hsty,al⟩,
       λ_=>⟨rfl,G',H',side,hGG,M,hs⟩,λN=>a9C,λu=>by(rw[(lV u).2] at hg;cases hg)⟩ d
     ·exact h.elim
    ·exact h.elim
   ·exact h.elim
end
end Go.SS
