/- A part of the proof. -/
import Derived.Test.YtpdnnhnfongoeaaGreatSSF
import Derived.Deep.LoopGhost
import Derived.Laws.Sem
namespace Go.SS
open Go.RowKit
def Sub(m:Nat)(σ σ':Sy):Prop:=∀c a w,c.m=m->iX c σ.s σ.H a w->iX c σ'.s σ'.H a w
section
variable {c:Ctx} {P:Program} {G:H6}
def b5I(M:P.follows .mixedOrders=true)(z:B6 P G)(j:∀x ∈ G,Q6 P x.1):∀(C:Code) (Q:Exit->Sy->Prop) (σ:Sy) (a:Act) (w:World),vc P G c.nt (Sub c.m) C Q σ->iX c σ.s σ.H a w->
  C.wp P (λe A w'=>∃σ',Q e σ'/\iX c σ'.s σ'.H A w') a w:=by
 intro C;induction C with
 |skip=>intro Q σ a w h hr;exact wp_skip ⟨σ,h,hr⟩
 |region id ops W=>
  intro Q σ a w h hr;simp only[vc] at h;split at h
  ·obtain⟨E,hE⟩:=hr;exact wp_region_list (a4E z j (λl H' A w' o d=>⟨⟨l,H'⟩,o,d⟩) _ _ _ _ E a w h hE)
  ·obtain⟨E,hE⟩:=hr;exact b4Q M z j (λl H' A w' o d=>⟨⟨l,H'⟩,o,d⟩) h hE
 |seq x y X Y=>
  intro Q σ a w h hr;simp only[vc] at h;refine wp_seq (Code.wp_mono (λe A w' g=>?_) (X _ _ _ _ h hr))
  obtain⟨σ',hq,d⟩:=g;cases e with
  |normal=>exact Y _ _ _ _ hq d
  |_=>exact⟨σ',hq,d⟩
 |cond cd x y X Y=>
  intro Q σ a w h hr;simp only[vc] at h;split at h
  ·rename_i b hb;obtain⟨E,hE⟩:=hr;have hop:F0 E w a σ.s cd:=a1Y λt ht=>hE.slots.on t (λq hq=>wB)
   unfold F0 at hop;rw[hb] at hop;refine wp_cond (t:=b) (r5 hop) ?_
   cases b with
   |true=>exact X _ _ _ _ (h.1 rfl) ⟨E,hE⟩
   |false=>exact Y _ _ _ _ (h.2 rfl) ⟨E,hE⟩
  ·exact h.elim
 |block id body r=>
  intro Q σ a w h hr;simp only[vc] at h;refine wp_block (Code.wp_mono (λe A w' g=>?_) (r _ _ _ _ h hr))
  obtain⟨σ',hq,d⟩:=g;cases e with
  |exit i=>
   simp only at hq;simp only[Exit.inBlock];split at hq
   ·rename_i hb;rw[if_pos (F5 hb)];exact⟨σ',hq,d⟩
   ·rename_i hb;rw[if_neg (Nat.ne_of_beq_eq_false hb)];exact⟨σ',hq,d⟩
  |_=>exact⟨σ',hq,d⟩
 |loop body r=>
  intro Q σ a w h hr;simp only[vc,b6F] at h;obtain⟨ι,I,μ,⟨v,F⟩,f⟩:=h;refine wp_loop_ghost (λn a w=>∃x,μ x=n/\iX c (I x).s (I x).H a w) (μ v) ⟨v,rfl,F c a w rfl hr⟩ λn a w J=>?_
  obtain⟨x,N,u⟩:=J;refine Code.wp_mono (λe A w' g=>?_) (r _ _ _ _ (f x) u)
  obtain⟨σ',hq,d⟩:=g;cases e with
  |normal=>
   obtain⟨y,L,B⟩:=hq;exact⟨μ y,Z9,y,rfl,L c A w' rfl d⟩
  |_=>exact⟨σ',hq,d⟩
 |exit id=>intro Q σ a w h hr;exact wp_exit ⟨σ,h,hr⟩
 |ret=>intro Q σ a w h hr;exact wp_ret ⟨σ,h,hr⟩
 |_=>intro Q σ a w h hr;simp[vc] at h
end
def RLe(r res:T):Prop:=∀E w v,Rd E w r v->Rd E w res v
def RLe.refl(r:T):RLe r r:=λ_ _ _ h=>h
section
variable {c:Ctx} {E:Env} {H:X9} {w:World} {P:Program} {G:H6}
def a01:∀(args:List T) (n i:Nat),zH (pS n args) i=if n<=i then args.getD (i-n) .und else .und:=by
 intro args;induction args with
 |nil=>intro n i;simp[pS,zH]
 |cons x args ih=>
  intro n i;simp only[pS,zH];split
  ·rename_i h;obtain rfl:=F5 h;simp
  ·rename_i h;have hne:=Nat.ne_of_beq_eq_false h;rw[ih];by_cases h1:n<=i
   ·rw[if_pos h1,if_pos Z9,show i-n=(i- (n+1))+1 by omega]
    rfl
   ·rw[if_neg h1,if_neg Z9]
def bT(h:HeapOk E w H){t:TypeId}{x y:T}{v:Value}{side:Option Prop}(e:xF P H t x=some (y,side))(f:side.getD True)(hx:Rd E w x v):
  ∃r,(do loadVar t (←asAddr v):Sem Value).run P w= .ok r w/\Rd E w y r:=by
 obtain⟨r,R,Y⟩:=b0K h e f hx;refine⟨r,?_,Y⟩
 unfold xF at e;split at e
 ·cases hx with
  |bref _ b off u N g d i=>
   simp only[Instr.loadAt,Instr.sureAddr,asAddr,D1,z5,D6] at R ⊢;exact R
 ·cases hx with
  |ref _ _ _ L=>
   simp only[Instr.loadAt,Instr.sureAddr,asAddr,D1,z5,D6] at R ⊢;exact R
 ·cases hx with
  |pref _ _ _ _ _ _ _ L=>
   simp only[Instr.loadAt,Instr.sureAddr,asAddr,D1,z5,D6] at R ⊢;exact R
 ·cases e
def a8P(tmps:Array Value):ResultVar->Sem Value
 | .tmp t=>pure (tmps.getD t undef)
 | .cell a t=>do loadVar t (←asAddr (tmps.getD a undef))
def b2X(h:HeapOk E w H){s:W4}{tmps:Array Value}(l:∀i,Rd E w (zH s i) (tmps.getD i undef)){v:ResultVar}{y:T}{side:Option Prop}(e:a2f P s H v=some (y,side))(d:side.getD True):
  ∃r,(a8P tmps v).run P w= .ok r w/\Rd E w y r:=by
 cases v with
 |tmp t=>
  simp only[a2f,X0,U4] at e;obtain⟨rfl,rfl⟩:=e;exact⟨_,rfl,l t⟩
 |cell a t=>exact bT h e d (l a)
def fX(h:HeapOk E w H){s:W4}{tmps:Array Value}(hsl:∀i,Rd E w (zH s i) (tmps.getD i undef)):
  ∀{R:List ResultVar} {Y:List (T×Option Prop)},O0 (a2f P s H) R=some Y->(∀x ∈ Y,x.2.getD True)->
   ∃vs:List Value,(R.mapM (a8P tmps)).run P w= .ok vs w/\vs.length=Y.length/\∀(i:Nat) (y:T×Option Prop) (x:Value),Y[i]? =some y->vs[i]? =some x->Rd E w y.1 x:=by
 intro R;induction R with
 |nil=>
  intro Y hm _;simp only[O0,X0] at hm;subst hm;exact⟨[],rfl,rfl,λi y x hy=>by simp at hy⟩
 |cons v R I=>
  intro Y hm hs;simp only[O0] at hm;split at hm
  ·rename_i y ys' hy hys;simp only[X0] at hm;subst hm;obtain⟨r,hr,hrd⟩:=b2X h hsl (y:=y.1) (side:=y.2) hy (hs y W7)
   obtain⟨vs,e,l,t⟩:=I hys (λx X=>hs x (by simp[X]))
   refine⟨r::vs,?_,by simp[l],λi f x d X=>?_⟩
   ·simp only[List.mapM_cons,D1,hr,e,D6,z5]
   ·cases i with
    |zero=>simp at d X;subst d;subst X;exact hrd
    |succ i=>exact t i f x (by simpa using d) eF
  ·cases hm
def a2N(h:HeapOk E w H){s:W4}{tmps:Array Value}(hsl:∀i,Rd E w (zH s i) (tmps.getD i undef)){fn:Func}{y:T}{side:Option Prop}(he:b9a P s H fn.results.toList=some (y,side))(hs:side.getD True):
  ∃r,(results fn tmps).run P w= .ok r w/\Rd E w y r:=by
 unfold b9a at he;have d:results fn tmps=(do
   let vs ←fn.results.mapM (a8P tmps)
   pure (if h:vs.size=1 then vs[0] else .tuple vs)):=by
  unfold results;congr 1
 rw[d,Array.mapM_eq_mapM_toList];split at he
 ·rename_i x hm;simp only[X0] at he;subst he;obtain⟨vs,hr,hl,ht⟩:=fX (P:=P) h hsl hm (λx hx=>by simp at hx;subst hx;exact hs)
  match vs,hl with
  | [r],_=>
   refine⟨r,?_,ht 0 _ r rfl rfl⟩
   simp only[map_eq_pure_bind,D1,hr,D6,z5];rfl
 ·rename_i xs hne hm;simp only[X0,U4] at he;obtain⟨rfl,rfl⟩:=he;obtain⟨vs,hr,hl,ht⟩:=fX (P:=P) h hsl hm (zU hs);refine⟨.tuple vs.toArray,?_,?_⟩
  ·simp only[map_eq_pure_bind,D1,hr,D6,z5];have:¬vs.toArray.size=1:=by
    simp only[List.size_toArray,hl];intro e
    match xs,e with
    | [x],_=>exact hne x rfl
   rw[dif_neg this]
  ·refine .tup _ _ (by simp[hl]) λi t x hi hx=>?_
   simp only[oE,F1,List.getElem?_toArray] at hi hx
   obtain⟨y,Y,rfl⟩:=hi;exact ht i y x Y hx
 ·cases he
def rF{p:Option Prop}{q:Prop}(h:bZ p q):p.getD True/\q:=by
 cases p with
 |none=>exact⟨trivial,h⟩
 |some p=>exact h
def a9d{vs:Array Value}{args:List T}{nt:Nat}(e:∀k,¬E.L k/\∀v,¬E.L2 k v)(f:∀b,E.N b->b<w.heap.size)(A:tC E w args vs)(t:args.length<=nt):
  RealE ⟨w,λ_=>False,E.N,nt,E,0⟩ E (pS 0 args) [] [] {tmps:=vs++Array.replicate (nt-vs.size) undef,defers:=[]} w:=by
 have n:args.length=vs.size:=A.1;refine⟨rfl,C7,⟨λi _=>?_,λi hi=>absurd (λq Q=>lQ) hi⟩,⟨⟨λk ob d=>a0y,λk k' ob o b d=>a0y,λk d=>absurd d (e k).1,λk v hv=>absurd hv ((e k).2 v),λk ob v d=>a0y⟩,
  f,λb B=>.inl B,λk ob b d=>a0y,⟨rfl,rfl,rfl,U9 _,λ_ _ _=>rfl⟩,⟨λ_ h=>h,λ_ h=>absurd h (D2 _),λ_ _=>rfl,λ_ _ h=>absurd h (D2 _)⟩⟩⟩
 rw[a01,if_pos (N4 _),Nat.sub_zero];simp only[P4,Array.getD_eq_getD_getElem?,Array.getElem?_append]
 by_cases hi:i<vs.size
 ·rw[if_pos hi,I1 Z9,tB hi]
  exact A.2 i _ _ (I1 Z9) (tB hi)
 ·rw[List.getElem?_eq_none Z9]
  exact .und _
def c36(M:P.follows .mixedOrders=true)(l:B6 P G)(d:∀x ∈ G,Q6 P x.1){f:FuncId}{fn:Func}{C:Code}{args:List T}{res:T}(F:P.funcs[f]? =some fn)(hb:fn.body=some C)(t:args.length<=fn.ntmps)
  (h:vc P G fn.ntmps (Sub 0) C (b6y P fn.results.toList λr=>RLe r res) ⟨pS 0 args,[]⟩):V4 P f args res:=by
 intro E w vs L o g;have z:vs.size=args.length:=g.1.symm;refine calls_of_wp F hb (Code.wp_mono (λe A w' j=>?_) (b5I (c:=⟨w,λ_=>False,E.N,fn.ntmps,E,0⟩) M l d C _ _ _ w h ⟨E,a9d L o g t⟩))
 obtain⟨σ',hq,E',hr⟩:=j;have n:b6y P fn.results.toList (λr=>RLe r res) .ret σ'->A.defers=[]/\∃v,(results fn A.tmps).run P w'= .ok v w'/\
   ∃v',Ending.returned v= .returned v'/\Below w.heap.size w w'/\Rd (E.addN λb=>w.heap.size<=b/\b<w'.heap.size) w' res v':=by
  intro hq;refine⟨hr.defers,?_⟩
  simp only[b6y] at hq;split at hq
  ·rename_i r p hres;split at hq
   ·rename_i r' p' hbor;obtain⟨hp,hq⟩:=rF hq;obtain⟨hp',hle⟩:=rF hq;obtain⟨v,hrun,hrd⟩:=a2N (P:=P) hr.inv.heap (λi=>hr.slots.on i (λq hq=>wB)) hres hp
    have hI:=hr.inv;refine⟨v,hrun,v,rfl,⟨hI.fr.os,hI.fr.tape,hI.fr.output,hI.fr.size,λb hb=>hI.fr.block b hb (λh=>h)⟩,?_⟩
    refine hle _ _ _ (Rd.mono (E:=E'.lent 0 σ'.H) (w:=w') ⟨λb hb=>?_,λ_ h=>absurd h.2 (D2 _),λ_ h=>absurd h.2 (D2 _),λ_ h=>absurd h.2 (D2 _),λ_ h=>absurd h.2 (D2 _),λ_ _ h=>absurd h.2 (D2 _),λ_ _ _ _ h=>absurd h.2 (D2 _),λ_ _ _ _ h=>absurd h.2 (D2 _)⟩ (λ_ _=>rfl) (o6 hI 6 hbor hp' hrd))
    rcases hb with hb|⟨k,ob,_,hk,hb⟩
    ·rcases hI.nnew b hb with h1|h1|h1
     ·exact .inl h1
     ·exact .inr ⟨h1,hI.nlt b hb⟩
     ·exact h1.elim
    ·rcases hI.bnew k ob b hk hb with h1|h1
     ·exact .inr ⟨h1,hI.heap.blt hk hb⟩
     ·exact h1.elim
   ·exact hq.elim
  ·exact hq.elim
 cases e with
 |normal=>exact n hq
 |ret=>exact n hq
 |_=>exact hq.elim
end
def J7(ρ:Nat->Option Nat)(t e:T):Prop:=∃d t'',S8 ρ d e=some t''/\RLe t t''
inductive OLe(ρ:Nat->Option Nat):Ob->Ob->Prop
 |mp (bo:Bool) (get get':Int->Int) (h:∀n,get n=get' n):OLe ρ (.mp bo get) (.mp bo get')
 |mp2 (get get':Int->Int->Bool) (h:∀a b,get a b=get' a b):OLe ρ (.mp2 get) (.mp2 get')
 |bys (ty ty':TypeId) (l:Bz):OLe ρ (.bys ty l) (.bys ty' l)
 |fam (v:Nat) (ty ty':TypeId) (sz n:Nat) (row row':Nat->List T) (h:V2 n row row'):OLe ρ (.fam v ty sz n row) (.fam v ty' sz n row')
 |same (ty ty':TypeId) (sz n:Nat) (row row':Nat->List T) (h:∀i,i<n->row i=row' i):OLe ρ (.arr true ty sz n row) (.arr true ty' sz n row')
 |ren (cl cl':Bool) (ty ty':TypeId) (sz n:Nat) (row row':Nat->List T) (hc:cl'=true->cl=true/\∀i,i<n->row i=row' i) (h:∀i,i<n->O0 (S8 ρ 6) (row' i)=some (row i)):OLe ρ (.arr cl ty sz n row) (.arr cl' ty' sz n row')
 |box (cl cl':Bool) (ty ty':TypeId) (sz:Nat) (row row':Nat->List T) (h1:∀t ∈ row' 0,H7 t=true) (hc:cl'=true->∀t ∈ row' 0,W5 t=true) (hl:(row 0).length=(row' 0).length) (h:∀(j:Nat) (a b:T),(row 0)[j]? =some a->(row' 0)[j]? =some b->J7 ρ a b):OLe ρ (.arr cl ty sz 1 row) (.arr cl' ty' sz 1 row')
section
variable {c:Ctx} {E:Env} {H H':X9} {w:World} {ρ:Nat->Option Nat} {len:Nat}
def a92(hlt:∀k m,ρ k=some m->k<H'.length)(af:∀k k' m,(Y4 H' k).isSome=true->(Y4 H' k').isSome=true->ρ k=some m->ρ k'=some m->k=k')
  (hH:∀k ob',Y4 H' k=some ob'->∃m ob,ρ k=some m/\Y4 H m=some ob/\OLe ρ ob ob') (hid:∀k,k<c.m->ρ k=some k) (h:Inv c E H w):Inv c (E.ren ρ H'.length) H' w:=by
 have e:∀{k:Nat} {ob':Ob} {b:Nat},Y4 H' k=some ob'->A3 (E.ren ρ H'.length) k ob' b->∃m ob,ρ k=some m/\Y4 H m=some ob/\A3 E m ob b:=by
  intro k ob' b hk B;obtain⟨m,ob,hm,hob,hle⟩:=hH k ob' hk;refine⟨m,ob,hm,hob,?_⟩
  rcases B with⟨F,rfl⟩|⟨v,ty,sz,n,row,i,j,an,ah,on,ad,rfl,hi,hj,Q,rfl⟩
  ·simp only[Env.ren,hm,Option.getD_some] at F ⊢;exact .inl ⟨F,rfl⟩
  ·cases hle with
   |fam v q g sz n R pH M=>
    have:=((gY (E:=E) (w:=w) (k:=m) (o:=.fam v q sz n R) (o':=.fam v ty sz n row) (by simp only[a3H,show Nat.beq sz sz=true from Nat.beq_refl sz];exact⟨trivial,trivial,M⟩) (h.heap.live m _ hob).2.1).2.1 (E.b2 m v i j)).1
    simp only[Env.ren,hm,Option.getD_some] at Q ⊢;exact this (.inr ⟨v,ty,sz,n,row,i,j,an,ah,on,ad,rfl,hi,hj,Q,rfl⟩)
 refine⟨⟨λk ob' hk=>?_,λk k' o o' b hk hk' B ap=>?_,λk hk=>hk.1,λk v hv=>(by obtain⟨g1,m,g2,g3⟩:=hv;exact⟨g1,m,g2,h.heap.l2 _ _ g3⟩),λk ob' v hk hv=>?_⟩,h.nlt,h.nnew,λk ob' b hk B=>?_,h.fr,⟨h.keep.N,λk hk hL=>?_,h.keep.same,λk v hk hv=>?_⟩⟩
 ·obtain⟨m,ob,hm,hob,hle⟩:=hH k ob' hk;obtain⟨hL,X,hN⟩:=h.heap.live m ob hob;have ak:∀b,A3 (E.ren ρ H'.length) k ob' b->¬ (E.ren ρ H'.length).N b:=λb B V=>by
   obtain⟨m2,ob2,_,g1,g2⟩:=e hk B;exact(h.heap.live m2 ob2 g1).2.2 b g2 V
  have B:(E.ren ρ H'.length).β k=E.β m:=a5v
  have hκ:(E.ren ρ H'.length).κ k=E.κ m:=a5v
  have J:(E.ren ρ H'.length).z k=E.z m:=a5v
  refine⟨⟨hlt k m hm,m,hm,hL⟩,?_,ak⟩
  cases hle with
  |mp bo get O hg=>
   obtain rfl:get=O:=funext hg;obtain⟨U,es,C,F,h2⟩:=X;exact(⟨by rw[hκ];exact U,es,C,by rw[B];exact F,h2⟩:b1k _ _ _ _ _)
  |mp2 get O hg=>
   obtain rfl:get=O:=funext λa=>funext (hg a)
   obtain⟨U,es,C,F,h2⟩:=X;exact(⟨by rw[hκ];exact U,es,C,by rw[B];exact F,h2⟩:a1y _ _ _ _)
  |fam v q g sz n R pH M=>
   have hF:FamOk E w m v q sz n R:=X;have aq:FamOk E w m v g sz n pH:=(gY (E:=E) (w:=w) (k:=m) (o:=.fam v q sz n R) (o':=.fam v g sz n pH) (by simp only[a3H,show Nat.beq sz sz=true from Nat.beq_refl sz];exact⟨trivial,trivial,M⟩) X).1
   exact(FamOk.ren (E2:=E.ren ρ H'.length) (w':=w) aq (cQ _) (λt x _ ht hx=>Rd.closed (E:=E) (E':=E.ren ρ H'.length) (λ_ h=>h) hx ht) B hκ J ⟨hlt k m hm,m,hm,hF.l2⟩ (λi j=>a5v) (λi j=>a5v) (λ_ _=>rfl):FamOk _ _ _ _ _ _ _ _)
  |bys q g l=>
   obtain⟨hz,V,hl,f,r,cs,ty,e,Z,Q⟩:=X;show T5 _ _ _ _;unfold T5;rw[B,hκ,J];simp only[Ob.toArr] at*;refine⟨hz,V,hl,f,r,cs,ty,e,Z,λi j t hi hj=>?_⟩
   obtain⟨u,hu,M⟩:=Q i j t hi hj;exact⟨u,hu,Rd.closed (E:=E) (E':=E.ren ρ H'.length) (λ_ h=>h) M (r trivial i t hi (y4 hj))⟩
  |same q g sz n row row' W=>
   obtain⟨hz,V,hl,f,r,cs,ty,e,Z,Q⟩:=X;show T5 _ _ _ _;unfold T5;rw[B,hκ,J];simp only[Ob.toArr] at*;refine⟨hz,V,λi hi=>by rw[←W i hi];exact hl i hi,λi t hi ht=>f i t hi (by rw[W i hi];exact ht),λ_ i t hi ht=>r trivial i t hi (by rw[W i hi];exact ht),cs,ty,e,Z,λi j t hi hj=>?_⟩
   rw[←W i hi] at hj;obtain⟨u,hu,M⟩:=Q i j t hi hj;exact⟨u,hu,Rd.closed (E:=E) (E':=E.ren ρ H'.length) (λ_ h=>h) M (r trivial i t hi (y4 hj))⟩
  |ren am ao q g sz n row row' aa W=>
   obtain⟨hz,V,hl,f,r,cs,ty,e,Z,Q⟩:=X;show T5 _ _ _ _;unfold T5;rw[B,hκ,J];simp only[Ob.toArr] at*;have Y:∀i,i<n->(row' i).length=(row i).length:=λi hi=>(J3 (W i hi)).1.symm
   have A:∀(i j:Nat) (t:T),i<n->(row' i)[j]? =some t->∃I:T,(row i)[j]? =some I/\S8 ρ 6 t=some I:=by
    intro i j t hi hj;have hlt:j<(row i).length:=by rw[←Y i hi];exact(u6.1 hj).1
    exact⟨_,I1 hlt,(J3 (W i hi)).2 j t _ hj (I1 hlt)⟩
   refine⟨hz,V,λi hi=>by rw[Y i hi];exact hl i hi,λi t hi ht=>?_,λab i t hi ht=>?_,cs,ty,e,Z,λi j t hi hj=>?_⟩
   ·obtain⟨j,hj⟩:=List.getElem?_of_mem ht
    obtain⟨I,U,F⟩:=A i j t hi hj;exact b9w F (f i I hi (y4 U))
   ·obtain⟨e1,e2⟩:=aa ab;exact r e1 i t hi (by rw[e2 i hi];exact ht)
   ·obtain⟨I,U,F⟩:=A i j t hi hj;obtain⟨u,hu,M⟩:=Q i j I hi U;exact⟨u,hu,Rd.ren hlt 6 F M⟩
  |box am ao q g sz row row' F aa ae al=>
   obtain⟨hz,V,hl,f,r,cs,ty,e,Z,Q⟩:=X;show T5 _ _ _ _;unfold T5;rw[B,hκ,J];simp only[Ob.toArr] at*;have A:∀(j:Nat) (t:T),(row' 0)[j]? =some t->∃I:T,(row 0)[j]? =some I/\J7 ρ I t:=by
    intro j t hj;have hlt:j<(row 0).length:=by rw[ae];exact(u6.1 hj).1
    exact⟨_,I1 hlt,al j _ t (I1 hlt) hj⟩
   refine⟨hz,V,λi hi=>?_,λi t hi ht=>?_,λab i t hi ht=>?_,cs,ty,e,Z,λi j t hi hj=>?_⟩
   ·obtain rfl:i=0:=by omega
    rw[←ae];exact hl 0 hi
   ·obtain rfl:i=0:=by omega
    exact F t ht
   ·obtain rfl:i=0:=by omega
    exact aa ab t ht
   ·obtain rfl:i=0:=by omega
    obtain⟨I,U,d,ar,ai,hle⟩:=A j t hj;obtain⟨u,hu,M⟩:=Q 0 j I hi U;exact⟨u,hu,Rd.ren hlt d ai (hle _ _ _ M)⟩
 ·obtain⟨m,ob,hm,hob,hx⟩:=e hk B;obtain⟨m',ob',aj,ac,ag⟩:=e hk' ap;have:m=m':=h.heap.inj m m' ob ob' b hob ac hx ag;subst this;exact af k k' m (by rw[hk];rfl) (by rw[hk'];rfl) hm aj
 ·obtain⟨m,ob,hm,hob,hle⟩:=hH k ob' hk;obtain⟨_,m2,hm2,hv⟩:=hv;rw[hm] at hm2;simp only[X0] at hm2;subst hm2;obtain⟨v0,ty,sz,n,row,rfl,hle2⟩:=h.heap.cur m ob v hob hv;cases hle with
  |fam _ _ g _ _ _ pH _=>exact⟨v0,g,sz,n,pH,rfl,hle2⟩
 ·obtain⟨m,ob,hm,hob,hx⟩:=e hk B;exact h.bnew m ob b hob hx
 ·obtain⟨l1,l2,l3,l4⟩:=h.keep.L k hk hL;have hk':=hid k hk;refine⟨⟨hlt k k hk',k,hk',l1⟩,?_,?_,?_⟩<;>simp only[Env.ren,hk',Option.getD_some]<;>assumption
 ·obtain⟨l1,l2⟩:=h.keep.L2 k v hk hv;have hk':=hid k hk;refine⟨⟨hlt k k hk',k,hk',l1⟩,λi j=>?_⟩
  simp only[Env.ren,hk',Option.getD_some];exact l2 i j
def b8B{s e:W4}{a:Act}(f:∀k m,ρ k=some m->k<H'.length)(J:∀k k' m,(Y4 H' k).isSome=true->(Y4 H' k').isSome=true->ρ k=some m->ρ k'=some m->k=k')
  (u:∀p ∈ e,J7 ρ (zH s p.1) p.2) (v:∀k ob',Y4 H' k=some ob'->∃m ob,ρ k=some m/\Y4 H m=some ob/\OLe ρ ob ob') (r:∀k,k<c.m->ρ k=some k) (h:iX c s H a w):iX c e H' a w:=by
 obtain⟨E,g⟩:=h;refine⟨E.ren ρ H'.length,g.defers,g.size,⟨λi _=>?_,λi hi=>absurd (λq Q=>lQ) hi⟩,a92 f J v r g.inv⟩
 ·have l:zH e i= .und∨(i,zH e i) ∈ e:=by
   rename_i n;clear u n;induction e with
   |nil=>exact .inl rfl
   |cons x e ih=>
    obtain⟨j,t⟩:=x;simp only[zH];split
    ·rename_i B;obtain rfl:=F5 B;exact .inr W7
    ·rcases ih with h|h
     ·exact .inl h
     ·exact .inr dH
  rcases l with h|h
  ·rw[h];exact .und _
  ·obtain⟨d,z,R,o⟩:=u _ h;exact Rd.ren f d R (o _ _ _ (g.slots.on i (λq Q=>lQ)))
def m9:List (Option Nat)->Nat->Option Nat
 | [],_=>none
 |m::_,0=>m
 |_::r,k+1=>m9 r k
def memO(m:Nat):List (Option Nat)->Bool
 | []=>false
 |none::r=>memO m r
 |some k::r=>Nat.beq m k||memO m r
def a2z:List (Option Nat)->Bool
 | []=>true
 |none::r=>a2z r
 |some m::r=> !memO m r&&a2z r
def a5Q:List (Option Nat)->X9->List (Option Nat)
 |x::r,some _::H=>x::a5Q r H
 |_::r,none::H=>none::a5Q r H
 |_,_=>[]
def c59:∀{l:List (Option Nat)} {k m:Nat},m9 l k=some m->k<l.length:=by
 intro l;induction l with
 |nil=>intro k m h;simp[m9] at h
 |cons x l i=>
  intro k m h;cases k with
  |zero=>simp
  |succ k=>simp only[m9] at h;have:=i h;simp;omega
def b0p:∀{l:List (Option Nat)} {k m:Nat},m9 l k=some m->memO m l=true:=by
 intro l;induction l with
 |nil=>intro k m h;simp[m9] at h
 |cons x l i=>
  intro k m h;cases k with
  |zero=>simp only[m9] at h;subst h;simp[memO]
  |succ k=>simp only[m9] at h;have:=i h;cases x<;>simp[memO,this]
def c2A:∀{l:List (Option Nat)},a2z l=true->∀k k' m,m9 l k=some m->m9 l k'=some m->k=k':=by
 intro l;induction l with
 |nil=>intro _ k k' m h;simp[m9] at h
 |cons x l i=>
  intro B k k' m h d;have L:a2z l=true:=by
   cases x with
   |none=>exact B
   |some m=>simp only[a2z,J5] at B;exact B.2
  cases k with
  |zero=>
   cases k' with
   |zero=>rfl
   |succ k'=>
    simp only[m9] at h d;subst h;simp only[a2z,J5] at B;rw[b0p d] at B;simp at B
  |succ k=>
   cases k' with
   |zero=>
    simp only[m9] at h d;subst d;simp only[a2z,J5] at B;rw[b0p h] at B;simp at B
   |succ k'=>
    simp only[m9] at h d;rw[i L k k' m h d]
def a0z:∀{l:List (Option Nat)} {H:X9} {k m:Nat},(Y4 H k).isSome=true->m9 l k=some m->m9 (a5Q l H) k=some m:=by
 intro l;induction l with
 |nil=>intro H k m _ h;simp[m9] at h
 |cons x l i=>
  intro H k m O h;cases H with
  |nil=>simp[Y4] at O
  |cons o H=>
   cases k with
   |zero=>
    cases o with
    |none=>simp[Y4] at O
    |some o=>exact h
   |succ k=>
    have d:(Y4 H k).isSome=true:=by simpa[Y4] using O
    have e:m9 l k=some m:=h;cases o<;>exact i d e
def c0d{l:List (Option Nat)}{H:X9}(h:a2z (a5Q l H)=true)(k k' m:Nat)(o:(Y4 H k).isSome=true)(d:(Y4 H k').isSome=true)(e:m9 l k=some m)(f:m9 l k'=some m):k=k':=
 c2A h k k' m (a0z o e) (a0z d f)
def Sub.refl(m:Nat)(σ:Sy):Sub m σ σ:=λ_ _ _ _ h=>h
def b1L:∀{d:Nat} {t e:T},S8 ρ d t=some e->S8 ρ (d+1) t=some e:=by
 have L:∀{f g:T->Option T},(∀a b,f a=some b->g a=some b)->∀{l q:List T},O0 f l=some q->O0 g l=some q:=by
  intro f g h l;induction l with
  |nil=>intro q Q;exact Q
  |cons x l i=>
   intro q Q;simp only[O0] at Q ⊢;split at Q
   ·rename_i B r;rw[h _ _ B,i r];exact Q
   ·cases Q
 intro d;induction d with
 |zero=>intro t e h;simp[S8] at h
 |succ d i=>
  intro t e h;unfold S8 at h ⊢;split at h
  ·exact h
  ·exact h
  ·exact h
  ·exact h
  ·exact h
  ·simp only[F1] at h ⊢;obtain⟨a,A,rfl⟩:=h;exact⟨a,L (λa b B=>i B) A,rfl⟩
  ·simp only[F1] at h ⊢;obtain⟨a,A,rfl⟩:=h;exact⟨a,L (λa b B=>i B) A,rfl⟩
  ·simp only[F1] at h ⊢;obtain⟨a,A,rfl⟩:=h;exact⟨a,L (λa b B=>i B) A,rfl⟩
  ·exact h
def b1l{d e:Nat}(f:d<=e){t g:T}(h:S8 ρ d t=some g):S8 ρ e t=some g:=by
 induction f with
 |refl=>exact h
 |step _ i=>exact b1L i
def a3e{p:Prop}(h:p:=by rw[h];exact RLe.refl _):p:=h
def J7.int{k:IntKind}{a b:Int}(h:a=b):J7 ρ (.int k a) (.int k b):=⟨1,_,rfl,a3e⟩
def J7.bool{a b:Bool}(h:a=b):J7 ρ (.bool a) (.bool b):=⟨1,_,rfl,a3e⟩
def J7.str{a b:Bz}(h:a=b):J7 ρ (.str a) (.str b):=⟨1,_,rfl,a3e⟩
def J7.bys{a b:Bz}(h:a=b):J7 ρ (.bys a) (.bys b):=⟨1,_,rfl,a3e⟩
def J7.v{x y:Value}(h:x=y):J7 ρ (.v x) (.v y):=⟨1,_,rfl,a3e⟩
def J7.slNil{sz n:Nat}{row:Nat->List T}(h:n=0):J7 ρ (.v (.slice none 0 0)) (.sl sz n row):=⟨1,_,rfl,by subst h;intro E w v x;cases x;exact .slNil _ _⟩
def J7.bysNil{l:Bz}(h:l=[]):J7 ρ (.v (.slice none 0 0)) (.bys l):=⟨1,_,rfl,by subst h;intro E w v x;cases x;exact .bysNil⟩
def J7.slE{sz n:Nat}{row:Nat->List T}(h:n=0):J7 ρ .emp (.sl sz n row):=⟨1,_,rfl,by subst h;intro E w v x;cases x with|emp a=>cases a with|none=>exact .slNil _ _|some a=>exact .slEmp _ _ _⟩
def J7.bysE{l:Bz}(h:l=[]):J7 ρ .emp (.bys l):=⟨1,_,rfl,by subst h;intro E w v x;cases x with|emp a=>cases a with|none=>exact .bysNil|some a=>exact .bysEmp _⟩
def J7.sl{sz n m:Nat}{row row':Nat->List T}(N:n=m)(h:∀i,i<n->row i=row' i):J7 ρ (.sl sz n row) (.sl sz m row'):=by
 subst N;refine⟨1,_,rfl,λE w v x=>?_⟩
 cases x with
 |slNil=>exact .slNil _ _
 |slEmp=>exact .slEmp _ _ _
 |sl _ _ _ b off cap u o e f l q g=>
  exact .sl _ _ _ b off cap u o e (λi hi=>by rw[←h i hi];exact f i hi) (λi t hi d=>l i t hi (by rw[h i hi];exact d)) (λi j t hi d=>q i j t hi (by rw[h i hi];exact d)) (λi j t hi d=>g i j t hi (by rw[h i hi];exact d))
def J7.osl{k m off o n N:Nat}(h:ρ k=some m)(O:off=o)(d:n=N):J7 ρ (.osl m off n) (.osl k o N):=by
 subst O;subst d;exact⟨1,.osl m off n,by simp[S8,h],RLe.refl _⟩
def J7.ref{k m i I j J:Nat}(h:ρ k=some m)(hi:i=I)(d:j=J):J7 ρ (.ref m i j) (.ref k I J):=by
 subst hi;subst d;exact⟨1,.ref m i j,by simp[S8,h],RLe.refl _⟩
def J7.posl{k m v V i I j J n N:Nat}(h:ρ k=some m)(hv:v=V)(hi:i=I)(d:j=J)(e:n=N):J7 ρ (.posl m v i j n) (.posl k V I J N):=by
 subst hv;subst hi;subst d;subst e;exact⟨1,.posl m v i j n,by simp[S8,h],RLe.refl _⟩
def J7.mpr{k m:Nat}(h:ρ k=some m):J7 ρ (.mpr m) (.mpr k):=⟨1,.mpr m,by simp[S8,h],RLe.refl _⟩
def J7.und(t:T):J7 ρ t .und:=⟨1,_,rfl,λ_ _ v _=>.und v⟩
def b4T(ρ:Nat->Option Nat):List T->List T->Prop
 | [],[]=>True
 |a::r,b::q=>J7 ρ a b/\b4T ρ r q
 |_,_=>False
def a2k:∀{as bs:List T},b4T ρ as bs->∃d cs,O0 (S8 ρ d) bs=some cs/\as.length=cs.length/\∀(i:Nat) (a c:T),as[i]? =some a->cs[i]? =some c->RLe a c:=by
 have mono:∀{d e:Nat},d<=e->∀{l q:List T},O0 (S8 ρ d) l=some q->O0 (S8 ρ e) l=some q:=by
  intro d e g l;induction l with
  |nil=>intro q Q;exact Q
  |cons x l I=>
   intro q Q;simp only[O0] at Q ⊢;split at Q
   ·rename_i B r;rw[b1l g B,I r];exact Q
   ·cases Q
 intro as;induction as with
 |nil=>
  intro bs h;cases bs with
  |nil=>exact⟨0,[],rfl,rfl,λi a c A=>by simp at A⟩
  |cons=>exact h.elim
 |cons a as I=>
  intro bs h;cases bs with
  |nil=>exact h.elim
  |cons b bs=>
   obtain⟨⟨d,c,C,j⟩,o⟩:=h;obtain⟨e,cs,f,n,L⟩:=I o;refine⟨max d e,c::cs,?_,by simp[n],λi x z X Z=>?_⟩
   ·simp only[O0,b1l (Nat.le_max_left d e) C,mono (Nat.le_max_right d e) f]
   ·cases i with
    |zero=>simp at X Z;subst X;subst Z;exact j
    |succ i=>exact L i x z eF (by simpa using Z)
def J7.agg{as bs:List T}(h:b4T ρ as bs):J7 ρ (.agg as) (.agg bs):=by
 obtain⟨d,cs,e,n,l⟩:=a2k h;refine⟨d+1,.agg cs,by simp[S8,e],λE w v X=>?_⟩
 cases X with
 |agg _ vs L f=>
  refine .agg _ vs Z9 λi c x C X=>?_
  have t:i<as.length:=by rw[n];exact(u6.1 C).1
  exact l i _ c (I1 t) C _ _ _ (f i _ x (I1 t) X)
def J7.tup{as bs:List T}(h:b4T ρ as bs):J7 ρ (.tup as) (.tup bs):=by
 obtain⟨d,cs,e,n,l⟩:=a2k h;refine⟨d+1,.tup cs,by simp[S8,e],λE w v X=>?_⟩
 cases X with
 |tup _ vs L f=>
  refine .tup _ vs Z9 λi c x C X=>?_
  have t:i<as.length:=by rw[n];exact(u6.1 C).1
  exact l i _ c (I1 t) C _ _ _ (f i _ x (I1 t) X)
def J7.fn{f:Fn}{as bs:List T}(h:b4T ρ as bs):J7 ρ (.fn f as) (.fn f bs):=by
 obtain⟨d,cs,e,n,l⟩:=a2k h;refine⟨d+1,.fn f cs,by simp[S8,e],λE w v X=>?_⟩
 cases X with
 |fn _ _ vs L g=>
  refine .fn _ _ vs Z9 λi c x C X=>?_
  have t:i<as.length:=by rw[n];exact(u6.1 C).1
  exact l i _ c (I1 t) C _ _ _ (g i _ x (I1 t) X)
def b89:∀{d:Nat} {t f:T},S8 (λ_=>none) d t=some f->f=t:=by
 intro d;induction d with
 |zero=>intro t f h;simp[S8] at h
 |succ d I=>
  have L:∀{l q:List T},O0 (S8 (λ_=>none) d) l=some q->q=l:=by
   intro l;induction l with
   |nil=>intro q Q;simpa[O0] using Q.symm
   |cons x l i=>
    intro q Q;simp only[O0] at Q;split at Q
    ·rename_i B r;simp only[X0] at Q;rw[←Q,I B,i r]
    ·cases Q
  intro t f h;unfold S8 at h;split at h
  ·simp at h
  ·simp at h
  ·simp at h
  ·simp at h
  ·simp at h
  ·simp only[F1] at h;obtain⟨cs,e,rfl⟩:=h;rw[L e]
  ·simp only[F1] at h;obtain⟨cs,e,rfl⟩:=h;rw[L e]
  ·simp only[F1] at h;obtain⟨cs,e,rfl⟩:=h;rw[L e]
  ·simp only[X0] at h;exact h.symm
def J7.rle{t e:T}(h:J7 (λ_=>none) t e):RLe t e:=by
 obtain⟨d,i,g,f⟩:=h;rw[b89 g] at f;exact f
def nF(ρ:Nat->Option Nat):Nat->T->T->Prop
 |0,t,t'=>J7 ρ t t'
 |d+1,t,t'=>
  match t,t' with
  |_,.und=>True
  | .int k a,.int k' b=>match decide (k=k') with|true=>a=b|false=>False
  | .bool a,.bool b=>a=b
  | .str a,.str b=>a=b
  | .bys a,.bys b=>a=b
  | .v x,.v y=>x=y
  | .v (.slice none 0 0),.sl _ n _=>n=0
  | .v (.slice none 0 0),.bys l=>l=[]
  | .emp,.sl _ n _=>n=0
  | .emp,.bys l=>l=[]
  | .emp,.emp=>True
  | .sl sz n row,.sl sz' m row'=>match Nat.beq sz sz' with|true=>n=m/\Z7 n row row'|false=>False
  | .osl m off n,.osl k off' n'=>match ρ k with
   |some M=>match Nat.beq m M with|true=>off=off'/\n=n'|false=>False
   |none=>False
  | .ref m i j,.ref k i' j'=>match ρ k with
   |some M=>match Nat.beq m M with|true=>i=i'/\j=j'|false=>False
   |none=>False
  | .mpr m,.mpr k=>match ρ k with
   |some M=>match Nat.beq m M with|true=>True|false=>False
   |none=>False
  | .posl m v i j n,.posl k v' i' j' n'=>match ρ k with
   |some M=>match Nat.beq m M with|true=>v=v'/\i=i'/\j=j'/\n=n'|false=>False
   |none=>False
  | .agg as,.agg bs=>tlesV (nF ρ d) as bs
  | .tup as,.tup bs=>tlesV (nF ρ d) as bs
  | .fn f as,.fn g bs=>f=g/\tlesV (nF ρ d) as bs
  |t,t'=>J7 ρ t t'
where
 tlesV (f:T->T->Prop):List T->List T->Prop
 | [],[]=>True
 |a::r,b::q=>f a b/\tlesV f r q
 |_,_=>False
def nI:∀{d:Nat} {t e:T},nF ρ d t e->J7 ρ t e:=by
 intro d;induction d with
 |zero=>intro t e h;exact h
 |succ d I=>
  have l:∀{as bs:List T},nF.tlesV (nF ρ d) as bs->b4T ρ as bs:=by
   intro as;induction as with
   |nil=>intro bs h;cases bs<;>exact h
   |cons a as i=>
    intro bs h;cases bs with
    |nil=>exact h
    |cons b bs=>exact⟨I h.1,i h.2⟩
  intro t e h;unfold nF at h;split at h
  ·exact J7.und _
  ·split at h
   ·rename_i f;rw[G7 f];exact J7.int h
   ·exact h.elim
  ·exact J7.bool h
  ·exact J7.str h
  ·exact J7.bys h
  ·exact J7.v h
  ·exact J7.slNil h
  ·exact J7.bysNil h
  ·exact J7.slE h
  ·exact J7.bysE h
  ·exact⟨1,_,rfl,RLe.refl _⟩
  ·split at h
   ·rename_i B;rw[F5 B];exact J7.sl h.1 h.2
   ·exact h.elim
  ·split at h
   ·rename_i hr;split at h
    ·rename_i B;rw[F5 B];exact J7.osl hr h.1 h.2
    ·exact h.elim
   ·exact h.elim
  ·split at h
   ·rename_i hr;split at h
    ·rename_i B;rw[F5 B];exact J7.ref hr h.1 h.2
    ·exact h.elim
   ·exact h.elim
  ·split at h
   ·rename_i hr;split at h
    ·rename_i B;rw[F5 B];exact J7.mpr hr
    ·exact h.elim
   ·exact h.elim
  ·split at h
   ·rename_i hr;split at h
    ·rename_i B;rw[F5 B];exact J7.posl hr h.1 h.2.1 h.2.2.1 h.2.2.2
    ·exact h.elim
   ·exact h.elim
  ·exact J7.agg (l h)
  ·exact J7.tup (l h)
  ·obtain⟨rfl,h⟩:=h;exact J7.fn (l h)
  ·exact h
end
inductive Lk where
 |no
 |box (m:Nat)
 |arr (m:Nat)
 |ren (m:Nat)
 |nilC (k j:Nat) (ty:TypeId) (sz:Nat)
 |nilS (i:Nat) (p:List Nat) (ty:TypeId) (sz:Nat)
 |fam (k:Nat)
 |at_ (j:Nat)
 |frz (i:Nat)
 |cel (k j:Nat)
 |vl (i:Nat) (p:List Nat)
 |fav (i:Nat) (p:List Nat)
 |fac (k j:Nat)
def b88(s:W4):List Lk->List Lk
 | []=>[]
 | .at_ j::r=>(match zH s j with| .osl k _ _=>.arr k| .ref k _ _=>.arr k|_=>.no)::b88 s r
 |x::r=>x::b88 s r
def c5u:Option T->Bool
 |some (.v (.slice none 0 0))=>true
 |some .emp=>true
 |_=>false
def tZ(k:Nat):List Nat->T->Option T
 | [],.v (.slice none 0 0)=>some (.osl k 0 0)
 | [],.emp=>some (.osl k 0 0)
 |j::p,.agg cs=>match cs[j]? with
  |some t=>(tZ k p t).map λd=>.agg (cs.set j d)
  |none=>none
 |j::p,.tup cs=>match cs[j]? with
  |some t=>(tZ k p t).map λd=>.tup (cs.set j d)
  |none=>none
 |_,_=>none
def b8S(σ:Sy):Lk->Option Sy
 | .nilC k j ty sz=>match Y4 σ.H k with
  |some (.arr _ bty bsz n row)=>match n,c5u ((row 0)[j]?),Nat.beq sz 0 with
   |1,true,false=>some ⟨σ.s,(σ.H++[some (Ob.arr true ty sz 0 λ_=>[])]).set k (some (.arr false bty bsz 1 λ_=>(row 0).set j (.osl σ.H.length 0 0)))⟩
   |_,_,_=>none
  |_=>none
 | .nilS i p ty sz=>match tZ σ.H.length p (zH σ.s i),Nat.beq sz 0 with
  |some t,false=>some ⟨(i,t)::σ.s,σ.H++[some (.arr true ty sz 0 λ_=>[])]⟩
  |_,_=>none
 | .fam k=>match Y4 σ.H k with
  |some (.arr true ty sz n row)=>some ⟨σ.s,σ.H.set k (some (.fam 0 ty sz n row))⟩
  |_=>none
 | .frz i=>match M5 0 (H3 (i9 σ.H 64 (iY [zH σ.s i]) []) σ.H 0) 6 (zH σ.s i) with
  |some (t,none)=>some ⟨(i,t)::σ.s,D0 σ.H (i9 σ.H 64 (iY [zH σ.s i]) [])⟩
  |_=>none
 |_=>some σ
def a9K:List Nat->T->Option Nat
 | [],.osl k _ _=>some k
 |j::p,.agg cs=>match cs[j]? with
  |some t=>a9K p t
  |none=>none
 |j::p,.tup cs=>match cs[j]? with
  |some t=>a9K p t
  |none=>none
 |_,_=>none
def c45(H:X9)(k j:Nat):Option Nat:=
 match Y4 H k with
 |some (.arr _ _ _ _ row)=>match(row 0)[j]? with
  |some (.osl m _ _)=>some m
  |_=>none
 |_=>none
def c8Q(σ:Sy):Lk->Lk
 | .fav i p=>match a9K p (zH σ.s i) with
  |some k=>.fam k
  |none=>.no
 | .fac k j=>match c45 σ.H k j with
  |some k=>.fam k
  |none=>.no
 |x=>x
def c8z(σ:Sy)(x:Lk):Option Sy:=b8S σ (c8Q σ x)
def b3A(σ:Sy):List Lk->Option Sy
 | []=>some σ
 |x::r=>match c8z σ x with
  |some σ'=>b3A σ' r
  |none=>none
def Lk.isG:Lk->Bool
 | .nilC .. | .nilS .. | .fam _| .frz _| .fav .. | .fac .. =>true
 |_=>false
def a1X:List Lk->List Lk
 | []=>[]
 |x::r=>match x.isG with
  |true=>a1X r
  |false=>x::a1X r
def b6n:Option Nat->Lk
 |some m=>.arr m
 |none=>.no
def bH(s:W4)(H:X9):List Lk->List Lk
 | []=>[]
 | .cel k j::r=>b6n (c45 H k j)::bH s H r
 | .vl i p::r=>b6n (a9K p (zH s i))::bH s H r
 |x::r=>x::bH s H r
def Lk.old:Lk->Option Nat
 | .no| .nilC .. | .nilS .. | .fam _| .at_ _| .frz _| .cel .. | .vl .. | .fav .. | .fac .. =>none
 | .box m| .arr m| .ren m=>some m
def z0:List Lk->List (Option Nat)
 | []=>[]
 |x::r=>x.old::z0 r
def wI(ρ:Nat->Option Nat)(n:Nat)(row row':Nat->List T):Prop:=∀i,i<n->O0 (S8 ρ 6) (row' i)=some (row i)
def obV(ρ:Nat->Option Nat)(H:X9)(lk:Lk)(o:Option Ob):Prop:=
 match o with
 |none=>True
 |some O=>match lk with
  | .no| .nilC .. | .nilS .. | .fam _| .at_ _| .frz _| .cel .. | .vl .. | .fav .. | .fac .. =>False
  | .box m=>match Y4 H m,O with
   |some (.arr _ _ sz n row),.arr cl' _ sz' n' row'=>match Nat.beq sz sz'&&(row' 0).all H7&&(!cl'||(row' 0).all W5) with
    |true=>n=1/\n'=1/\nF.tlesV (nF ρ 6) (row 0) (row' 0)
    |false=>False
   |_,_=>False
  | .arr m=>match Y4 H m,O with
   |some (.bys _ l),.bys _ l'=>l=l'
   |some (.arr true _ sz n row),.arr true _ sz' n' row'=>match Nat.beq sz sz' with
    |true=>n=n'/\Z7 n row row'
    |false=>False
   |some (.fam v _ sz n row),.fam v' _ sz' n' row'=>match Nat.beq sz sz' with
    |true=>v=v'/\n=n'/\V2 n row row'
    |false=>False
   |some (.mp bo get),.mp bo' get'=>match bo==bo' with
    |true=>∀n,get n=get' n
    |false=>False
   |some (.mp2 get),.mp2 get'=>∀a b,get a b=get' a b
   |_,_=>False
  | .ren m=>match Y4 H m,O with
   |some (.arr _ _ sz n row),.arr false _ sz' n' row'=>match Nat.beq sz sz' with
    |true=>n=n'/\wI ρ n row row'
    |false=>False
   |_,_=>False
def a6H(ρ:Nat->Option Nat)(s:W4):W4->Prop
 | []=>True
 |(j,t)::r=>nF ρ 6 (zH s j) t/\a6H ρ s r
def a9y(ρ:Nat->Option Nat)(H:X9):List Lk->X9->Prop
 | [],[]=>True
 |lk::l,o::r=>obV ρ H lk o/\a9y ρ H l r
 |_,_=>False
def idB:Nat->Nat->List (Option Nat)->Bool
 |0,_,_=>true
 |m+1,i,some k::r=>Nat.beq i k&&idB m (i+1) r
 |_+1,_,_=>false
def aZ(m:Nat)(l:List Lk)(σ σ':Sy):Prop:=
 match b3A σ l with
 |some σ=>match a2z (a5Q (z0 (bH σ.s σ.H (a1X l))) σ'.H)&&idB m 0 (z0 (bH σ.s σ.H (a1X l))) with
  |true=>a6H (m9 (z0 (bH σ.s σ.H (a1X l)))) σ.s σ'.s/\a9y (m9 (z0 (bH σ.s σ.H (a1X l)))) σ.H (bH σ.s σ.H (a1X l)) σ'.H
  |false=>False
 |none=>False
def a4Y(m:Nat)(l:Option (List Lk))(σ σ':Sy):Prop:=
 match l with
 |some l=>aZ m l σ σ'
 |none=>False
def frz(H:X9)(s:W4):List Nat->Option (W4×Option Prop)
 | []=>some ([],none)
 |i::r=>match M5 0 H 6 (zH s i),frz H s r with
  |some (t,p),some (q,p')=>some ((i,t)::q,mN p p')
  |_,_=>none
inductive Ann:Type 1
 |none
 |unr (n:Nat) (sub:Nat->Nat->Ann)
 |one (ι:Type) (I:ι->Sy) (μ:ι->Nat) (lin lback:List Lk) (sub:ι->Nat->Ann)
 |onef (ks:List Nat) (ι:Type) (I:ι->Sy) (μ:ι->Nat) (lback:List Lk) (sub:ι->Nat->Ann)
 |two (ι₁ ι₂:Type) (I₁:ι₁->Sy) (I₂:ι₂->Sy) (μ₁:ι₁->Nat) (μ₂:ι₂->Nat) (l1 l2 l11 l12 l21 l22:Option (List Lk)) (sub₁:ι₁->Nat->Ann) (sub₂:ι₂->Nat->Ann)
def rI:Code->Nat
 | .seq a b=>rI a+rI b
 | .cond _ a b=>rI a+rI b
 | .block _ b=>rI b
 | .loop b=>rI b+1
 |_=>0
def a9f(step:Nat->(Sy->Prop)->Sy->Prop):Nat->Sy->Prop
 |0,_=>False
 |n+1,σ=>step n (a9f step n) σ
def aY(P:Program)(G:H6)(nt M:Nat):Code->Nat->(Exit->Sy->(Nat->Ann)->Prop)->Sy->(Nat->Ann)->Prop
 | .skip,_,Q,σ,A=>Q .normal σ A
 | .region _ ops draw,_,Q,σ,A=>match draw with
  |false=>xL P G nt ops ops.toList σ.s [] σ.H λs H=>Q .normal ⟨s,H⟩ A
  |true=>oU P G nt ops σ.s σ.H λs H=>Q .normal ⟨s,H⟩ A
 | .seq a b,k,Q,σ,A=>aY P G nt M a k (λe σ' A'=>match e with| .normal=>aY P G nt M b (k+rI a) Q σ' A'|e=>Q e σ' A') σ A
 | .cond c x y,k,Q,σ,A=>match K6 σ.s c with
  | .bool b=>(b=true->aY P G nt M x k Q σ A)/\(b=false->aY P G nt M y (k+rI x) Q σ A)
  |_=>False
 | .block id body,k,Q,σ,A=>aY P G nt M body k (λe σ' A'=>match e with| .exit i=>(match Nat.beq i id with|true=>Q .normal σ' A'|false=>Q (.exit i) σ' A')|e=>Q e σ' A') σ A
 | .loop body,k,Q,σ,A=>match A k with
  | .none=>False
  | .unr n sub=>a9f (λm next σ'=>aY P G nt M body (k+1) (λe σ'' A'=>match e with| .normal=>next σ''|e=>Q e σ'' A') σ' (sub m)) n σ
  | .one ι I μ lin lback sub=>(∃x,aZ M (b88 σ.s lin) σ (I x))/\∀x:ι,aY P G nt M body (k+1) (λe σ' A'=>match e with| .normal=>∃y,aZ M (b88 σ'.s lback) σ' (I y)/\Lt (μ y) (μ x)|e=>Q e σ' A') (I x) (sub x)
  | .onef ks ι I μ lback sub=>(match M,frz σ.H σ.s ks with
   |0,some (s',p)=>bZ p (∃x,aZ 0 [] ⟨s',[]⟩ (I x))
   |_,_=>False)/\∀x:ι,aY P G nt M body (k+1) (λe σ' A'=>match e with| .normal=>∃y,aZ M (b88 σ'.s lback) σ' (I y)/\Lt (μ y) (μ x)|e=>Q e σ' A') (I x) (sub x)
  | .two ι₁ ι₂ I₁ I₂ μ₁ μ₂ l1 l2 l11 l12 l21 l22 sub₁ sub₂=>
   ((∃x,a4Y M l1 σ (I₁ x))∨(∃x,a4Y M l2 σ (I₂ x)))/\
   (∀x:ι₁,aY P G nt M body (k+1) (λe σ' A'=>match e with| .normal=>(∃y,a4Y M l11 σ' (I₁ y)/\Lt (μ₁ y) (μ₁ x))∨(∃y,a4Y M l12 σ' (I₂ y)/\Lt (μ₂ y) (μ₁ x))|e=>Q e σ' A') (I₁ x) (sub₁ x))/\
   (∀x:ι₂,aY P G nt M body (k+1) (λe σ' A'=>match e with| .normal=>(∃y,a4Y M l21 σ' (I₁ y)/\Lt (μ₁ y) (μ₂ x))∨(∃y,a4Y M l22 σ' (I₂ y)/\Lt (μ₂ y) (μ₂ x))|e=>Q e σ' A') (I₂ x) (sub₂ x))
 | .exit id,_,Q,σ,A=>Q (.exit id) σ A
 | .ret,_,Q,σ,A=>Q .ret σ A
 |_,_,_,_,_=>False
section
variable {P:Program} {G:H6} {nt m:Nat}
def b9k{ρ:Nat->Option Nat}{d:Nat}:∀{as bs:List T},nF.tlesV (nF ρ d) as bs->as.length=bs.length/\∀(j:Nat) (a b:T),as[j]? =some a->bs[j]? =some b->J7 ρ a b:=by
 intro as;induction as with
 |nil=>
  intro bs h;cases bs with
  |nil=>exact⟨rfl,λj a b A=>by simp at A⟩
  |cons=>exact h.elim
 |cons a as i=>
  intro bs h;cases bs with
  |nil=>exact h.elim
  |cons b bs=>
   obtain⟨f,e⟩:=i h.2;refine⟨by simp[f],λj x z X Z=>?_⟩
   cases j with
   |zero=>simp at X Z;subst X;subst Z;exact nI h.1
   |succ j=>exact e j x z eF (by simpa using Z)
def c51{ρ:Nat->Option Nat}{H:X9}{lk:Lk}{o:Ob}(h:obV ρ H lk (some o)):∃m ob,lk.old=some m/\Y4 H m=some ob/\OLe ρ ob o:=by
 unfold obV at h;split at h
 ·rename_i N;cases N
 ·rename_i ob hob;simp only[X0] at hob;subst hob;split at h
  iterate 10 exact h.elim
  ·split at h
   ·rename_i m _ _ cl ty sz n row cl' ty' sz' n' row' hm;split at h
    ·rename_i hb;simp only[J5,nT,vZ] at hb;obtain⟨⟨f,e⟩,g⟩:=hb;obtain⟨rfl,rfl,h⟩:=h;obtain rfl:=F5 f;obtain⟨j,i⟩:=b9k h;exact⟨m,_,rfl,hm,.box cl cl' ty ty' sz row row' (λt d=>b9.1 e t d) (λC t d=>b9.1 (g.resolve_left (by simp[C])) t d) j i⟩
    ·exact h.elim
   ·exact h.elim
  ·split at h
   ·rename_i m _ _ ty l ty' L hm;subst h;exact⟨m,_,rfl,hm,.bys _ _ _⟩
   ·rename_i m _ _ ty sz n row ty' sz' n' row' hm;split at h
    ·rename_i hb;obtain⟨rfl,h⟩:=h;obtain rfl:=F5 hb;exact⟨m,_,rfl,hm,.same _ _ _ _ _ _ h⟩
    ·exact h.elim
   ·rename_i m _ _ v ty sz n row v' ty' sz' n' row' hm;split at h
    ·rename_i hb;obtain⟨rfl,rfl,h⟩:=h;obtain rfl:=F5 hb;exact⟨m,_,rfl,hm,.fam _ _ _ _ _ _ _ h⟩
    ·exact h.elim
   ·rename_i m _ _ bo get bo' get' hm;split at h
    ·rename_i hb;obtain rfl:bo=bo':=by simpa using hb
     exact⟨m,_,rfl,hm,.mp _ _ _ h⟩
    ·exact h.elim
   ·rename_i m _ _ get get' hm;exact⟨m,_,rfl,hm,.mp2 _ _ h⟩
   ·exact h.elim
  ·split at h
   ·rename_i m _ _ cl ty sz n row ty' sz' n' row' hm;split at h
    ·rename_i hb;obtain⟨rfl,h⟩:=h;obtain rfl:=F5 hb;exact⟨m,_,rfl,hm,.ren _ _ _ _ _ _ _ _ (λC=>by cases C) h⟩
    ·exact h.elim
   ·exact h.elim
def a3Z{ρ:Nat->Option Nat}{H:X9}:∀{l:List Lk} {H':X9},a9y ρ H l H'->(z0 l).length=H'.length/\∀k O,Y4 H' k=some O->∃m ob,m9 (z0 l) k=some m/\Y4 H m=some ob/\OLe ρ ob O:=by
 intro l;induction l with
 |nil=>
  intro H' h;cases H' with
  |nil=>exact⟨rfl,λk O d=>a0y⟩
  |cons=>exact h.elim
 |cons lk l i=>
  intro H' h;cases H' with
  |nil=>exact h.elim
  |cons o H'=>
   obtain⟨f,e⟩:=i h.2;refine⟨by simp[z0,f],λk O d=>?_⟩
   cases k with
   |zero=>
    have:o=some O:=b0I
    subst this;exact c51 h.1
   |succ k=>exact e k O b0I
def b4f{ρ:Nat->Option Nat}{s:W4}:∀{d:W4},a6H ρ s d->∀p ∈ d,J7 ρ (zH s p.1) p.2:=by
 intro d;induction d with
 |nil=>intro _ p hp;cases hp
 |cons x d i=>
  intro h p hp;obtain⟨j,t⟩:=x;rcases vN.1 hp with rfl|hp
  ·exact nI h.1
  ·exact i h.2 p hp
def c8d:∀{m i:Nat} {l:List (Option Nat)},idB m i l=true->∀k,k<m->m9 l k=some (i+k):=by
 intro m;induction m with
 |zero=>intro i l _ k d;omega
 |succ m I=>
  intro i l h k d;cases l with
  |nil=>simp[idB] at h
  |cons x l=>
   cases x with
   |none=>simp[idB] at h
   |some x=>
    simp only[idB,J5] at h;cases k with
    |zero=>simp only[m9];rw[←F5 h.1];rfl
    |succ k=>
     simp only[m9];rw[I h.2 k Z9]
     congr 1
     omega
def a0n{c:Ctx}{E:Env}{H:X9}{w:World}(h:Inv c E H w)(ty:TypeId)(sz:Nat):Inv c (E.push H.length 0 0 sz) (H++[some (.arr true ty sz 0 λ_=>[])]) w/\Step E w (E.push H.length 0 0 sz) w:=
 h.push (ob:=.arr true ty sz 0 λ_=>[]) rfl rfl rfl (U9 _) (λ_ _=>rfl) 0 0 #[] 0 (λh=>absurd rfl h) (λh=>absurd rfl h) W7 (U9 0) (λi hi=>absurd hi (D2 _)) (λi t hi=>absurd hi (D2 _)) (λ_ i t hi=>absurd hi (D2 _)) (λi j t hi=>absurd hi (D2 _))
def c0Z{o:Option T}(h:c5u o=true):∃t,o=some t/\∀{E:Env} {w:World} {u:Value},Rd E w t u->∃a,u= .slice a 0 0:=by
 unfold c5u at h;split at h
 ·exact⟨_,rfl,λx=>⟨none,vP x⟩⟩
 ·exact⟨_,rfl,λx=>by cases x with|emp a=>exact⟨a,rfl⟩⟩
 ·cases h
def b1V{E:Env}{w:World}{k sz:Nat}(f:Step E w (E.push k 0 0 sz) w):∀(p:List Nat) {t e:T} {x:Value},tZ k p t=some e->Rd E w t x->Rd (E.push k 0 0 sz) w e x:=by
 intro p;induction p with
 |nil=>
  intro t e x h hx;have key:(∃a,x= .slice a 0 0)/\e= .osl k 0 0:=by
   unfold tZ at h;split at h
   ·simp only[X0] at h;exact⟨⟨none,vP hx⟩,h.symm⟩
   ·simp only[X0] at h;exact⟨by cases hx with|emp a=>exact⟨a,rfl⟩,h.symm⟩
   ·contradiction
   ·contradiction
   ·cases h
  obtain⟨⟨a,rfl⟩,rfl⟩:=key;exact a7a a
 |cons j p I=>
  intro t e x h hx;have l:∀{cs:List T} {vs:Array Value} {t0 t1:T},cs[j]? =some t0->tZ k p t0=some t1->cs.length=vs.size->(∀(i:Nat) (t:T) (x:Value),cs[i]? =some t->vs[i]? =some x->Rd E w t x)->
    (cs.set j t1).length=vs.size/\∀(i:Nat) (t:T) (x:Value),(cs.set j t1)[i]? =some t->vs[i]? =some x->Rd (E.push k 0 0 sz) w t x:=by
   intro cs vs t0 t1 h0 h1 L d;refine⟨by simp[L],λi t x hi hx=>?_⟩
   rw[List.getElem?_set] at hi
   split at hi
   ·rename_i hji;subst hji;split at hi
    ·simp only[X0] at hi;subst hi;exact I h1 (d j t0 x h0 hx)
    ·cases hi
   ·exact f.rd (d i t x hi hx)
  cases t with
  |agg cs=>
   simp only[tZ] at h;split at h
   ·rename_i t0 h0;simp only[F1] at h;obtain⟨t1,h1,rfl⟩:=h;cases hx with
    |agg _ vs L d=>obtain⟨A,g⟩:=l h0 h1 L d;exact .agg _ vs A g
   ·cases h
  |tup cs=>
   simp only[tZ] at h;split at h
   ·rename_i t0 h0;simp only[F1] at h;obtain⟨t1,h1,rfl⟩:=h;cases hx with
    |tup _ vs L d=>obtain⟨A,g⟩:=l h0 h1 L d;exact .tup _ vs A g
   ·cases h
  |_=>simp[tZ] at h
def c9O{c:Ctx}{E:Env}{H:X9}{w:World}(h:Inv c E H w){ks:List Nat}{t r:T}{x:Value}(B:M5 0 (H3 ks H 0) 6 t=some (r,none))(X:Rd E w t x):
  ∃E2,Inv c E2 (D0 H ks) w/\Step E w E2 w/\Rd E2 w r x:=by
 have e:Inv c E (H3 ks H 0) w:=by
  refine⟨⟨λk ob hk=>h.heap.live k ob (N7 hk).1,λk k' o o' b hk d=>h.heap.inj k k' o o' b (N7 hk).1 (N7 d).1,λk hk=>by rw[sF];exact h.heap.lt k hk,h.heap.l2,λk ob v hk=>h.heap.cur k ob v (N7 hk).1⟩,h.nlt,h.nnew,λk ob b hk=>h.bnew k ob b (N7 hk).1,h.fr,h.keep⟩
 have R:=o6 e 6 B trivial X;let E2:Env:={E with N:=(E.lent 0 (H3 ks H 0)).N}
 have hstep:Step E w E2 w:=⟨⟨λb B=>.inl B,λ_ h=>h,λ_ _=>rfl,λ_ _=>rfl,λ_ _=>rfl,λ_ _ h=>h,λ_ _ _ _ _=>rfl,λ_ _ _ _ _=>rfl⟩,λb _=>rfl,λ_ h=>.inl h⟩
 refine⟨E2,⟨⟨λk ob hk=>?_,λk k' o o' b hk d=>h.heap.inj k k' o o' b (L8 hk).1 (L8 d).1,λk hk=>by rw[G2];exact h.heap.lt k hk,h.heap.l2,λk ob v hk=>h.heap.cur k ob v (L8 hk).1⟩,λb hb'=>?_,λb hb'=>?_,λk ob b hk=>h.bnew k ob b (L8 hk).1,h.fr,h.keep.step hstep⟩,hstep,?_⟩
 ·obtain⟨g1,g2⟩:=L8 hk;obtain⟨e1,e2,e3⟩:=h.heap.live k ob g1;refine⟨e1,e2.mono e1 hstep (λb hb'=>rfl),λb hb' hn=>?_⟩
  have hb':A3 E k ob b:=hb';rcases hn with hn|⟨k2,ob2,_,hk2,hb2⟩
  ·exact e3 b hb' hn
  ·obtain⟨f,g⟩:=N7 hk2;have:=h.heap.inj k k2 ob ob2 b g1 f hb' hb2;rw[D4] at g;exact g2 (this▸g)
 ·rcases hb' with hb'|⟨k2,ob2,_,hk2,hb2⟩
  ·exact h.nlt b hb'
  ·exact e.heap.blt hk2 hb2
 ·rcases hb' with hn|⟨k2,ob2,_,hk2,hb2⟩
  ·exact h.nnew b hn
  ·exact .inr (h.bnew k2 ob2 b (N7 hk2).1 hb2)
 ·exact Rd.mono (w:=w) (w':=w) (E:=E.lent 0 (H3 ks H 0)) (E':=E2) ⟨λ_ h=>h,λ_ h=>absurd h.2 (D2 _),λ_ h=>absurd h.2 (D2 _),λ_ h=>absurd h.2 (D2 _),λ_ h=>absurd h.2 (D2 _),λ_ _ h=>absurd h.2 (D2 _),λ_ _ _ _ h=>absurd h.2 (D2 _),λ_ _ _ _ h=>absurd h.2 (D2 _)⟩ (λ_ _=>rfl) R
def b7q{σ σ':Sy}{x:Lk}(h:b8S σ x=some σ'):Sub m σ σ':=by
 intro c a w _ hr;obtain⟨E,hr⟩:=hr;unfold b8S at h;split at h
 ·rename_i k j ty sz;split at h
  case h_2=>cases h
  rename_i cl bty bsz n row hk;split at h
  case h_2=>cases h
  rename_i hnj hsz;obtain⟨tj,hj,htj⟩:=c0Z hnj;simp only[X0] at h;subst h;obtain⟨hI,hst⟩:=a0n hr.inv ty sz;have hk1:Y4 (σ.H++[some (Ob.arr true ty sz 0 λ_=>[])]) k=some (.arr cl bty bsz 1 row):=by rw[k6,if_pos (G1 hk)];exact hk
  obtain⟨hL,hO,hN⟩:=hI.heap.live k _ hk1;have hO:T5 _ w k ⟨cl,bty,bsz,1,row⟩:=hO;obtain⟨e1,e2,e3,e4,e5,cs,tyc,e6,e7,e8⟩:=hO;have hW:=hI.writeO (w':=w) hk1 rfl rfl rfl (U9 _) (λ_ _ _=>rfl) (.arr false bty bsz 1 λ_=>(row 0).set j (.osl σ.H.length 0 0)) (λb hb=>.inl (hb.arr rfl)) (λv hv=>absurd hv (hI.noL2 hk1 rfl v)) (λhs=>by
   refine⟨e1,e2,λi hi=>?_,λi t hi ht=>?_,λhc=>(by cases hc),cs,tyc,e6,e7,λi q t hi hq=>?_⟩
   ·exact(zW ..).trans (e3 0 (Nat.lt_succ_self 0))
   ·rcases List.mem_or_eq_of_mem_set ht with h1|rfl
    ·exact e4 0 t W7 h1
    ·rfl
   ·obtain rfl:i=0:=by have:i<1:=hi;omega
    have hq2:((row 0).set j (T.osl σ.H.length 0 0))[q]? =some t:=hq;rw[List.getElem?_set] at hq2
    split at hq2
    ·rename_i hjq;subst hjq;split at hq2
     ·simp only[X0] at hq2;subst hq2;obtain⟨u,hu,hru⟩:=e8 0 j _ W7 hj
      refine⟨u,hu,?_⟩
      obtain⟨a,rfl⟩:=htj hru;exact a7a a
     ·cases hq2
    ·exact e8 0 q t W7 hq2)
  exact⟨_,hr.defers,hr.size,⟨λi hi=>hst.rd (hr.slots.on i hi),hr.slots.off⟩,hW.1⟩
 ·rename_i i p ty sz;split at h
  case h_2=>cases h
  rename_i t hs hsz;simp only[X0] at h;subst h;obtain⟨hI,hst⟩:=a0n hr.inv ty sz;refine⟨_,hr.defers,hr.size,⟨λq hq=>?_,λq hq=>absurd (λq hq=>wB) hq⟩,hI⟩
  simp only[zH];split
  ·rename_i he;obtain rfl:=F5 he;have:=hr.slots.on q (λq hq=>wB)
   exact b1V hst _ hs this
  ·exact hst.rd (hr.slots.on q (λq hq=>wB))
 ·rename_i k;split at h
  case h_2=>cases h
  rename_i ty sz n row hk;simp only[X0] at h;subst h;have hI:=hr.inv;have hn2:¬E.L2 k 0:=hI.noL2 hk rfl 0;let E':=E.bump k 0 (λ_ _=>0) (λ_ _=>0)
  have hst:Step E w E' w:=⟨Env.bump_le hn2,λ_ _=>rfl,λ_ h=>.inl h⟩
  obtain⟨hL,hO,hN⟩:=hI.heap.live k _ hk;have hO:T5 E w k ⟨true,ty,sz,n,row⟩:=hO;obtain⟨e1,e2,e3,e4,e5,cs,tyc,e6,e7,e8⟩:=hO;simp only at e1 e2 e3 e4 e5 e7 e8;have hco:∀i t,i<n->t ∈ row i->closedOne t=true:=λi t hi ht=>by simp[closedOne,e4 i t hi ht,e5 trivial i t hi ht]
  have nown:∀(i j:Nat) (oty:TypeId) (osz on:Nat) (orow:Nat->List T),i<n->(row i)[j]? =some (.own oty osz on orow)->False:=λi j oty osz on orow hi hj=>by
   have:=hco i _ hi (y4 hj);simp[closedOne,W5] at this
  have hF:FamOk E' w k 0 ty sz n row:=i7 (.inr ⟨rfl,rfl⟩) e1 e2 cs tyc e6 e7 e3 (λr q t hr hq=>by
   obtain⟨u,hu,hru⟩:=e8 r q t hr hq;exact⟨u,hu,.inl ⟨hco r t hr (y4 hq),hst.rd hru⟩⟩) (λi j i' j' oty osz on orow oty' osz' on' orow' hi hi' hj=>(nown i j _ _ _ _ hi hj).elim)
  have hklt:=G1 hk;refine⟨E',hr.defers,hr.size,⟨λi hi=>hst.rd (hr.slots.on i hi),hr.slots.off⟩,hI.to rfl rfl rfl (U9 _) hst k (λi=>i=k) (λ_ h=>h) (λi o hi hne=>?_) (λo ho=>?_) (λ_ _ _=>rfl) (λi hi=>by rw[zW];exact hI.heap.lt i hi) (λi u hu=>?_) (λo i u hi hu=>?_)⟩
  ·rw[U2 hklt,if_neg hne] at hi;exact⟨hi,hne⟩
  ·rw[U2 hklt,if_pos rfl] at ho;simp only[X0] at ho;subst ho;refine⟨hL,hF,λb hb=>.inr ⟨k,_,rfl,hk,?_⟩⟩
   rcases hb with hb|⟨v0,ty0,sz0,n0,P1,i0,j0,oty1,osz1,on1,orow1,hobe,hi0,hj0,hc0,rfl⟩
   ·exact .inl hb
   ·simp only[Ob.fam.injEq] at hobe;obtain⟨rfl,rfl,rfl,rfl,rfl⟩:=hobe;exact(nown _ _ _ _ _ _ hi0 hj0).elim
  ·rcases hu with hu|⟨rfl,_⟩
   ·exact hI.heap.l2 _ _ hu
   ·exact hL
  ·rw[U2 hklt] at hi;split at hi
   ·rename_i he;subst he;simp only[X0] at hi;subst hi;refine⟨_,_,_,_,_,rfl,?_⟩
    rcases hu with hu|⟨_,rfl⟩
    ·exact absurd hu (hI.noL2 hk rfl u)
    ·exact U9 _
   ·rename_i hne;rcases hu with hu|⟨e,_⟩
    ·exact hI.heap.cur _ _ _ hi hu
    ·exact absurd e hne
 ·rename_i i;split at h
  case h_2=>cases h
  rename_i t hb;simp only[X0] at h;subst h;obtain⟨E2,hI,hst,hrd⟩:=c9O hr.inv hb (hr.slots.on i (λq hq=>wB))
  refine⟨E2,hr.defers,hr.size,⟨λq hq=>?_,λq hq=>absurd (λq hq=>wB) hq⟩,hI⟩
  simp only[zH];split
  ·rename_i he;obtain rfl:=F5 he;exact hrd
  ·exact hst.rd (hr.slots.on q (λq hq=>wB))
 ·simp only[X0] at h;subst h;exact⟨E,hr⟩
def c3p:∀{l:List Lk} {σ σ':Sy},b3A σ l=some σ'->Sub m σ σ':=by
 intro l;induction l with
 |nil=>intro σ σ' h;simp only[b3A,X0] at h;subst h;exact Sub.refl m σ
 |cons x l i=>
  intro σ σ' h;simp only[b3A] at h;split at h
  ·rename_i σ1 d;exact λc a w M r=>i h c a w M (b7q (m:=m) (x:=c8Q _ _) d c a w M r)
  ·cases h
def tI{l:List Lk}{σ σ':Sy}(h:aZ m l σ σ'):Sub m σ σ':=by
 unfold aZ at h;split at h
 ·rename_i σ1 hg;split at h
  ·rename_i hi;simp only[J5] at hi;obtain⟨f,e⟩:=a3Z h.2;intro c a w M r;exact b8B (ρ:=m9 (z0 (bH σ1.s σ1.H (a1X l)))) (λk m d=>by rw[←f];exact c59 d) (c0d hi.1) (b4f h.1) e (λk d=>by rw[c8d hi.2 k Z9];simp) (c3p (m:=m) hg c a w M r)
  ·exact h.elim
 ·exact h.elim
def b65{c:Ctx}{E:Env}{H:X9}{w:World}(e:c.m=0)(h:Inv c E H w):Inv c (E.lent 0 H) [] w:=by
 have n:∀k ob,¬Y4 ([]:X9) k=some ob:=λk ob d=>a0y
 refine⟨⟨λk ob d=>absurd d (n k ob),λk k' o o' b d _ _ _=>absurd d (n k o),λk d=>absurd d.2 (D2 k),λk v hv=>absurd hv.2 (D2 k),λk ob v d=>absurd d (n k ob)⟩,λx hx=>?_,λx hx=>?_,λk ob b d=>absurd d (n k ob),h.fr,⟨λb B=>.inl (h.keep.N b B),λk d=>Z9,h.keep.same,λk v d=>Z9⟩⟩
 ·rcases hx with hx|⟨k,ob,_,hob,hx⟩
  ·exact h.nlt x hx
  ·exact h.heap.blt hob hx
 ·rcases hx with hx|⟨k,ob,hkb,hob,hx⟩
  ·exact h.nnew x hx
  ·exact .inr (h.bnew k ob x hob hx)
def c2q{H:X9}{s:W4}:∀{ks:List Nat} {d:W4} {p:Option Prop},frz H s ks=some (d,p)->p.getD True->∀i,zH d i= .und∨∃q,M5 0 H 6 (zH s i)=some (zH d i,q)/\q.getD True:=by
 intro ks;induction ks with
 |nil=>
  intro d p h _ i;simp only[frz,X0,U4] at h;obtain⟨rfl,_⟩:=h;exact .inl rfl
 |cons j r I=>
  intro d p h hp i;simp only[frz] at h;split at h
  ·rename_i t q1 q p' h1 h2;simp only[X0,U4] at h;obtain⟨rfl,rfl⟩:=h;obtain⟨hp1,hp2⟩:=xN hp;simp only[zH];split
   ·rename_i e;obtain rfl:=F5 e;exact .inr ⟨_,h1,hp1⟩
   ·exact I h2 hp2 i
  ·cases h
def c7v{σ:Sy}{ks:List Nat}{d:W4}{p:Option Prop}(h:frz σ.H σ.s ks=some (d,p))(hp:p.getD True):Sub 0 σ ⟨d,[]⟩:=by
 intro c a w C r;obtain⟨E,r⟩:=r;refine⟨E.lent 0 σ.H,r.defers,r.size,⟨λi _=>?_,λi x=>absurd (λq Q=>lQ) x⟩,b65 C r.inv⟩
 rcases c2q h hp i with hi|⟨q,hi,Q⟩
 ·show Rd _ w (zH d i) _;rw[hi];exact .und _
 ·exact o6 r.inv 6 hi Q (r.slots.on i (λq Q=>lQ))
def qH{l:Option (List Lk)}{σ σ':Sy}(h:a4Y m l σ σ'):Sub m σ σ':=by
 unfold a4Y at h;split at h
 ·exact tI h
 ·exact h.elim
def xT{s:W4}{op:Op}{k k':H6->Prop}(d:∀G',k G'->k' G')(h:fP G s op k):fP G s op k':=by
 unfold fP at h ⊢;split at h
 ·exact d _ h
 ·split at h
  ·obtain⟨x,hx⟩:=h;exact⟨x,d _ hx⟩
  ·split at h
   ·rcases h with⟨x,hx⟩|⟨x,hx⟩
    ·exact .inl ⟨x,d _ hx⟩
    ·exact .inr ⟨x,d _ hx⟩
   ·obtain⟨x,hx⟩:=h;exact⟨x,d _ hx⟩
  ·obtain⟨x,hx⟩:=h;exact⟨x,d _ hx⟩
  ·obtain⟨x,hx⟩:=h;exact⟨x,d _ hx⟩
  ·exact d _ h
def bU{s:W4}:∀{p:C5} {q q':Prop},(q->q')->A2 s p q->A2 s p q':=by
 intro p;induction p with
 |nil=>intro q q' Q h;exact Q h
 |cons x p i=>
  intro q q' Q h;obtain⟨t,b⟩:=x;simp only[A2] at h ⊢;split at h
  ·exact i (λh e=>Q (h e)) h
  ·exact h.elim
def oY{all:Array Oper}{K K':W4->X9->Prop}(d:∀s H,K s H->K' s H):∀(t:List Oper) (s:W4) (ps:y3) (H:X9),xL P G nt all t s ps H K->xL P G nt all t s ps H K':=by
 intro t;induction t with
 |nil=>intro s ps H h;exact d _ _ h
 |cons o t i=>
  intro s ps H h;have A:∀{p:C5} {side:Option Prop} {q q':Prop},(q->q')->kC s p side q->kC s p side q':=by
   intro p side q q' Q h;cases side with
   |none=>exact Q h
   |some r=>exact⟨h.1,Q h.2⟩
  unfold xL at h ⊢;split at h
  ·split at h
   ·exact h.elim
   ·split at h
    ·exact λb B=>i _ _ _ (h b B)
    ·refine xT (λG' h=>?_) h
     split at h
     ·exact A (i _ _ _) h
     ·exact h.elim
  ·split at h
   ·split at h
    ·split at h
     ·exact h.elim
     ·split at h
      ·refine xT (λG' h=>?_) h
       split at h
       ·exact A (i _ _ _) h
       ·exact h.elim
      ·split at h
       ·exact h.elim
       ·refine xT (λG' h=>?_) h
        split at h
        ·exact A (λh=>⟨bU (i _ _ _) h.1,λn=>i _ _ _ (h.2 n)⟩) h
        ·exact h.elim
    ·exact h.elim
   ·exact h.elim
def a7F{all:Array Oper}{b:Nat}{H0:X9}{K K':W4->X9->Prop}(d:∀s H,K s H->K' s H):∀(t:List Oper) (i:Nat) (e:List (Nat×Oper×RW)) (B:List Nat) (s:W4) (ps:y3) (hist:List (Nat×X9)),
  sY P G nt all b H0 t i e B s ps hist K->sY P G nt all b H0 t i e B s ps hist K':=by
 intro t;induction t with
 |nil=>intro i e B s ps hist h;exact d _ _ h
 |cons o t I=>
  intro i e B s ps hist h;have A:∀{p:C5} {side:Option Prop} {q q':Prop},(q->q')->kC s p side q->kC s p side q':=by
   intro p side q q' Q h;cases side with
   |none=>exact Q h
   |some r=>exact⟨h.1,Q h.2⟩
  unfold sY at h ⊢;split at h
  ·exact h.elim
  ·split at h
   ·split at h
    ·exact h.elim
    ·split at h
     ·split at h
      ·exact A (I _ _ _ _ _ _) h
      ·exact h.elim
     ·split at h
      ·refine xT (λG' h=>?_) h
       split at h
       ·exact A (I _ _ _ _ _ _) h
       ·exact h.elim
      ·refine xT (λG' h=>?_) h
       split at h
       ·exact A (I _ _ _ _ _ _) h
       ·exact h.elim
   ·split at h
    ·split at h
     ·split at h
      ·exact h.elim
      ·refine xT (λG' h=>?_) h
       split at h
       ·exact A (I _ _ _ _ _ _) h
       ·exact h.elim
     ·exact h.elim
    ·exact h.elim
def a5I{all:Array Oper}{K K':W4->X9->Prop}{s:W4}{H:X9}(d:∀s H,K s H->K' s H):∀{R:List Oper},kY P G nt all s H K R->kY P G nt all s H K' R:=by
 intro R h;cases R with
 |nil=>exact h
 |cons o R=>
  unfold kY at h ⊢;dsimp only at h ⊢;split at h
  ·exact h.elim
  ·rename_i hp;intro b;have hb:=h b;split at hb
   ·rename_i t H' side he;cases side with
    |none=>exact oY d _ _ _ _ hb
    |some r=>exact⟨hb.1,oY d _ _ _ _ hb.2⟩
   ·exact hb.elim
def a4u{ops:Array Oper}{K K':W4->X9->Prop}{s:W4}{H:X9}(d:∀s H,K s H->K' s H)(h:oU P G nt ops s H K):oU P G nt ops s H K':=by
 have one:∀{o:Array Oper} {G:H6} {K K':W4->X9->Prop},(∀s H,K s H->K' s H)->a8x P G nt o s H K->a8x P G nt o s H K':=λ{o G K K'} d h=>a7F d _ _ _ _ _ _ _ h
 unfold oU at h ⊢;split at h
 ·exact one d h
 ·split at h
  ·exact one d h
  ·split at h
   ·exact one d h
   ·exact one (λs H h=>a5I d h) h
def a7d:∀(C:Code) (k:Nat) (Q:Exit->Sy->(Nat->Ann)->Prop) (Q':Exit->Sy->Prop) (σ:Sy) (A:Nat->Ann),(∀e σ A,Q e σ A->Q' e σ)->aY P G nt m C k Q σ A->vc P G nt (Sub m) C Q' σ:=by
 intro C;induction C with
 |skip=>intro k Q Q' σ A d h;exact d _ _ _ h
 |region id ops W=>
  intro k Q Q' σ A d h;simp only[aY,vc] at h ⊢;split at h
  ·exact oY (λs H q=>d _ _ _ q) _ _ _ _ h
  ·exact a4u (λs H q=>d _ _ _ q) h
 |seq x y X g=>
  intro k Q Q' σ A d h;simp only[aY,vc] at h ⊢;refine X _ _ _ _ _ (λe σ' A' h'=>?_) h
  cases e with
  |normal=>exact g _ _ _ _ _ d h'
  |_=>exact d _ _ _ h'
 |cond F x y X g=>
  intro k Q Q' σ A d h;simp only[aY,vc] at h ⊢;split at h
  ·rename_i b f;rw[f];exact⟨λB=>X _ _ _ _ _ d (h.1 B),λB=>g _ _ _ _ _ d (h.2 B)⟩
  ·exact h.elim
 |block id body ih=>
  intro k Q Q' σ A d h;simp only[aY,vc] at h ⊢;refine ih _ _ _ _ _ (λe σ' A' h'=>?_) h
  cases e with
  |exit i=>
   simp only at h' ⊢;split at h'
   ·rename_i f;rw[f];exact d _ _ _ h'
   ·rename_i f;rw[f];exact d _ _ _ h'
  |_=>exact d _ _ _ h'
 |loop body ih=>
  intro k Q Q' σ A d h;simp only[aY,vc] at h ⊢;split at h
  ·exact h.elim
  ·rename_i n sub hA;refine⟨{p:Nat×Sy//a9f (λr next σ'=>aY P G nt m body (k+1) (λe σ'' A'=>match e with| .normal=>next σ''|e=>Q e σ'' A') σ' (sub r)) p.1 p.2},λp=>p.1.2,λp=>p.1.1,⟨⟨(n,σ),h⟩,λc a w _ hr=>hr⟩,λx=>?_⟩
   obtain⟨⟨j,τ⟩,hx⟩:=x;cases j with
   |zero=>exact hx.elim
   |succ j=>
    refine ih _ _ _ _ _ (λe σ' A' h'=>?_) hx
    cases e with
    |normal=>exact⟨⟨(j,σ'),h'⟩,λc a w _ hr=>hr,Nat.lt_succ_self j⟩
    |_=>exact d _ _ _ h'
  ·rename_i ι I μ lin lback sub hA;obtain⟨⟨x0,h0⟩,hround⟩:=h;refine⟨ι,I,μ,⟨x0,tI h0⟩,λx=>ih _ _ _ _ _ (λe σ' A' h'=>?_) (hround x)⟩
   cases e with
   |normal=>obtain⟨y,Y,t⟩:=h';exact⟨y,tI Y,t⟩
   |_=>exact d _ _ _ h'
  ·rename_i ks ι I μ lback sub hA;obtain⟨h0,hround⟩:=h;split at h0
   ·rename_i v p z;have o:p.getD True/\∃x,aZ 0 [] ⟨v,[]⟩ (I x):=by
     cases p with
     |none=>exact⟨trivial,h0⟩
     |some p=>exact h0
    obtain⟨hp,x0,l⟩:=o;refine⟨ι,I,μ,⟨x0,λc a w u hr=>tI l c a w u (c7v z hp c a w u hr)⟩,λx=>ih _ _ _ _ _ (λe σ' A' h'=>?_) (hround x)⟩
    cases e with
    |normal=>obtain⟨y,Y,t⟩:=h';exact⟨y,tI Y,t⟩
    |_=>exact d _ _ _ h'
   ·exact h0.elim
  ·rename_i ι₁ ι₂ I₁ I₂ μ₁ μ₂ l1 l2 l11 l12 l21 l22 sub₁ sub₂ hA;obtain⟨h0,h1,h2⟩:=h;refine⟨ι₁ ⊕ ι₂,λx=>match x with| .inl x=>I₁ x| .inr x=>I₂ x,λx=>match x with| .inl x=>μ₁ x| .inr x=>μ₂ x,?_,λx=>?_⟩
   ·rcases h0 with⟨x,hx⟩|⟨x,hx⟩
    ·exact⟨.inl x,qH hx⟩
    ·exact⟨.inr x,qH hx⟩
   ·cases x with
    |inl x=>
     refine ih _ _ _ _ _ (λe σ' A' h'=>?_) (h1 x)
     cases e with
     |normal=>
      rcases h' with⟨y,Y,t⟩|⟨y,Y,t⟩
      ·exact⟨.inl y,qH Y,t⟩
      ·exact⟨.inr y,qH Y,t⟩
     |_=>exact d _ _ _ h'
    |inr x=>
     refine ih _ _ _ _ _ (λe σ' A' h'=>?_) (h2 x)
     cases e with
     |normal=>
      rcases h' with⟨y,Y,t⟩|⟨y,Y,t⟩
      ·exact⟨.inl y,qH Y,t⟩
      ·exact⟨.inr y,qH Y,t⟩
     |_=>exact d _ _ _ h'
 |exit id=>intro k Q Q' σ A d h;exact d _ _ _ h
 |ret=>intro k Q Q' σ A d h;exact d _ _ _ h
 |_=>intro k Q Q' σ A d h;simp[aY] at h
def c86(res r:T):Prop:=nF (λ_=>none) 6 r res
def c8j(P:Program)(G:H6)(nt:Nat)(r:List ResultVar)(C:Code)(args:List T)(res:T)(A:Nat->Ann):Prop:=
 aY P G nt 0 C 0 (λe σ _=>b6y P r (c86 res) e σ) ⟨pS 0 args,[]⟩ A
def c8M(M:P.follows .mixedOrders=true)(g:B6 P G)(d:∀x ∈ G,Q6 P x.1){f:FuncId}{fn:Func}{C:Code}{args:List T}{res:T}(F:P.funcs[f]? =some fn)(B:fn.body=some C)(t:args.length<=fn.ntmps)
  (A:Nat->Ann) (h:c8j P G fn.ntmps fn.results.toList C args res A):V4 P f args res:=by
 refine c36 M g d F B t (a7d _ _ _ _ _ _ (λe σ A' hq=>?_) h)
 have mono:∀{p:Option Prop} {q q':Prop},(q->q')->bZ p q->bZ p q':=by
  intro p q q' hq h;cases p with
  |none=>exact hq h
  |some p=>exact⟨h.1,hq h.2⟩
 unfold b6y at hq ⊢;split at hq
 ·split at hq
  ·split at hq
   ·exact mono (mono λh=>J7.rle (nI h)) hq
   ·exact hq.elim
  ·exact hq.elim
 ·split at hq
  ·split at hq
   ·exact mono (mono λh=>J7.rle (nI h)) hq
   ·exact hq.elim
  ·exact hq.elim
 ·exact hq.elim
end
def gK(b:Nat)(H:X9)(o:Option Ob):Option (Option Ob×Option Prop):=
 match o with
 |none=>some (none,none)
 |some (.arr false ty sz n row)=>match n with
  |1=>match O0 (M5 b H 6) (row 0) with
   |some cs=>some (some (.arr (cs.all λx=>W5 x.1) ty sz 1 λ_=>cs.map (·.1)),wA cs)
   |none=>none
  |_=>none
 |some ob=>some (some ob,none)
def eJ:List (Option Ob×Option Prop)->Option Prop
 | []=>none
 |x::r=>mN x.2 (eJ r)
def lks:Nat->List Bool->List Lk
 |_,[]=>[]
 |i,true::r=>.box i::lks (i+1) r
 |i,false::r=>.arr i::lks (i+1) r
def c2f(P:Program)(R:List ResultVar)(bs:List Bool)(res:T)(Hres:X9):Exit->Sy->Prop
 | .normal,σ| .ret,σ=>match b9a P σ.s σ.H R with
  |some (r,p)=>match M5 bs.length σ.H 6 r,O0 (gK bs.length σ.H) (σ.H.take bs.length) with
   |some (r',p'),some os=>bZ p (bZ p' (bZ (eJ os) (nF (m9 (z0 (lks 0 bs))) 6 r' res/\a9y (m9 (z0 (lks 0 bs))) (os.map (·.1)) (lks 0 bs) Hres)))
   |_,_=>False
  |none=>False
 |_,_=>False
def c5c(P:Program)(G:H6)(nt:Nat)(r:List ResultVar)(C:Code)(args:List T)(H:X9)(bs:List Bool)(res:T)(Hres:X9)(A:Nat->Ann):Prop:=
 aY P G nt bs.length C 0 (λe σ _=>c2f P r bs res Hres e σ) ⟨pS 0 args,H⟩ A
section
variable {c:Ctx} {E:Env} {H:X9} {w:World} {P:Program} {G:H6}
def b1O:∀{l:List (Option Ob×Option Prop)},(eJ l).getD True->∀x ∈ l,x.2.getD True:=by
 intro l;induction l with
 |nil=>intro _ x X;cases X
 |cons y l i=>
  intro h x X;simp only[eJ] at h;obtain⟨e,d⟩:=xN h;rcases vN.1 X with rfl|X
  ·exact e
  ·exact i d x X
def a8B{b:Nat}{d:Nat}{t r:T}{p:Option Prop}(h:M5 b H d t=some (r,p))(e:H7 t=true):H7 r=true:=by
 cases d with
 |zero=>simp[M5] at h
 |succ d=>
  unfold M5 at h;split at h
  ·split at h
   ·simp only[X0,U4] at h;rw[←h.1];rfl
   ·split at h
    ·split at h
     ·split at h
      ·split at h
       ·simp only[X0,U4] at h;rw[←h.1];rfl
       ·cases h
      ·cases h
     ·cases h
    ·cases h
  ·split at h
   ·simp only[X0,U4] at h;rw[←h.1];rfl
   ·split at h
    ·simp only[X0,U4] at h;rw[←h.1];rfl
    ·simp only[X0,U4] at h;rw[←h.1];rfl
    ·simp only[X0,U4] at h;rw[←h.1];rfl
    ·split at h
     ·split at h
      ·split at h
       ·simp only[X0,U4] at h;rw[←h.1];rfl
       ·cases h
      ·cases h
     ·cases h
    ·cases h
  ·simp[H7] at e
  ·simp only[F1,U4] at h;obtain⟨_,_,rfl,_⟩:=h;rfl
  ·simp[H7] at e
  ·cases h
  ·split at h
   ·simp only[X0,U4] at h;rw[←h.1];rfl
   ·split at h
    ·simp only[X0,U4] at h;rw[←h.1];rfl
    ·cases h
  ·split at h
   ·simp only[X0,U4] at h;rw[←h.1];rfl
   ·cases h
  ·cases h
  ·simp only[X0,U4] at h;rw[←h.1];exact e
def fE:∀(bs:List Bool) (i k:Nat),m9 (z0 (lks i bs)) k=if k<bs.length then some (i+k) else none:=by
 intro bs;induction bs with
 |nil=>intro i k;simp[lks,z0,m9]
 |cons b bs I=>
  intro i k;cases b<;>
  ·simp only[lks,z0,Lk.old];cases k with
   |zero=>simp[m9]
   |succ k=>
    simp only[m9,I,List.length_cons];by_cases h:k<bs.length
    ·rw[if_pos h,if_pos Z9];congr 1;omega
    ·rw[if_neg h,if_neg Z9]
def b7N:∀(l:List Lk),(z0 l).length=l.length:=by
 intro l;induction l with
 |nil=>rfl
 |cons x l i=>simp[z0,i]
def c1Y:∀(bs:List Bool) (i:Nat),(lks i bs).length=bs.length:=by
 intro bs;induction bs with
 |nil=>intro i;rfl
 |cons b bs h=>intro i;cases b<;>simp[lks,h]
def c6x{b:Nat}{os:List (Option Ob×Option Prop)}(hc0:c.m=0)(h:Inv c E H w)(hm:O0 (gK b H) (H.take b)=some os)(hs:(eJ os).getD True):Inv c (E.lent b H) (os.map (·.1)) w:=by
 obtain⟨m1,m2⟩:=J3 hm;have hget:∀k ob',Y4 (os.map (·.1)) k=some ob'->k<b/\∃ob,Y4 H k=some ob/\∃p,gK b H (some ob)=some (some ob',p)/\p.getD True:=by
  intro k ob' hk;have hlt:k<(os.map (·.1)).length:=G1 hk;have hlt1:k<os.length:=by simpa using hlt
  have hlt2:k<(H.take b).length:=by rw[←m1];exact hlt1
  have hkb:k<b:=by simp at hlt2;omega
  have hkH:k<H.length:=by simp at hlt2;omega
  have he:=m2 k _ _ (I1 hlt2) (I1 hlt1)
  have hk':os[k].1=some ob':=by
   unfold Y4 at hk;simp only[oE,I1 hlt1,h9,Option.bind_some,id] at hk
   exact hk
  have hside:=b1O hs _ (List.getElem_mem hlt1);rw[List.getElem_take] at he;cases hob:H[k] with
  |none=>
   rw[hob] at he;simp only[gK,X0] at he;rw[←he] at hk';cases hk'
  |some ob=>
   rw[hob] at he;refine⟨hkb,ob,?_,os[k].2,?_,hside⟩
   ·unfold Y4;rw[I1 hkH,hob]
    rfl
   ·rw[he,←hk']
 have hstep:∀t x,W5 t=true->Rd E w t x->Rd (E.lent b H) w t x:=λt x ht hx=>Rd.closed (E:=E) (E':=E.lent b H) (λ_ h=>Or.inl h) hx ht
 have hblk:∀{k:Nat} {ob':Ob} {x:Nat},Y4 (os.map (·.1)) k=some ob'->A3 (E.lent b H) k ob' x->∃ob,k<b/\Y4 H k=some ob/\A3 E k ob x:=by
  intro k ob' x hk hx;obtain⟨hkb,ob,hob,p,hfin,hp⟩:=hget k ob' hk;refine⟨ob,hkb,hob,?_⟩
  rcases hx with hx|⟨v,ty,sz,n,row,i,j,oty,osz,on,orow,rfl,hi,hj,hc,rfl⟩
  ·exact .inl hx
  ·unfold gK at hfin;split at hfin
   ·cases hfin
   ·split at hfin
    ·split at hfin
     ·cases hfin
     ·cases hfin
    ·cases hfin
   ·rename_i he;simp only[X0,U4] at hfin he;obtain⟨rfl,_⟩:=hfin;subst he;exact .inr ⟨v,ty,sz,n,row,i,j,oty,osz,on,orow,rfl,hi,hj,hc,rfl⟩
 refine⟨⟨λk ob' hk=>?_,λk k' o o' x hk hk' hx hx'=>?_,λk hk=>?_,λk v hv=>⟨h.heap.l2 k v hv.1,hv.2⟩,λk ob' v hk hv=>?_⟩,λx hx=>?_,λx hx=>?_,λk ob' x hk hx=>?_,h.fr,⟨λb hb=>.inl (h.keep.N b hb),λk hk=>Z9,h.keep.same,λk v hk=>Z9⟩⟩
 ·obtain⟨hkb,ob,hob,p,hfin,hp⟩:=hget k ob' hk;obtain⟨hL,hO,hN⟩:=h.heap.live k ob hob;refine⟨⟨hL,hkb⟩,?_,λx hx hN'=>?_⟩
  ·unfold gK at hfin;split at hfin
   ·rename_i he;cases he
   ·rename_i ty0 sz n row he;simp only[X0] at he;subst he;obtain⟨hz0,hn,hl,hone,hcl,cs,ty,hblk,hsz,hc⟩:=hO;simp only[Ob.toArr] at hz0 hn hl hone hcl hsz hc;split at hfin
    ·rename_i n0;split at hfin
     ·rename_i cs' hcs';simp only[X0,U4] at hfin;obtain⟨rfl,rfl⟩:=hfin;obtain⟨q1,q2⟩:=J3 hcs';have hgc:∀(j:Nat) (t':T),(cs'.map (·.1))[j]? =some t'->∃t p,(row 0)[j]? =some t/\M5 b H 6 t=some (t',p)/\p.getD True:=by
       intro j t' hj;simp only[oE,F1] at hj
       obtain⟨x,hx,rfl⟩:=hj;have hlt:j<(row 0).length:=by rw[←q1];exact(u6.1 hx).1
       exact⟨_,x.2,I1 hlt,q2 j _ x (I1 hlt) hx,zU hp x (y4 hx)⟩
      refine⟨hz0,hn,λi hi=>?_,λi t hi ht=>?_,λhall i t hi ht=>?_,cs,ty,hblk,hsz,λi j t hi hj=>?_⟩
      ·simp only[Ob.toArr,List.length_map,q1];exact hl 0 (Nat.lt_succ_self 0)
      ·obtain⟨j,hj⟩:=List.getElem?_of_mem ht
       obtain⟨t0,p0,h0,hb0,_⟩:=hgc j t hj;exact a8B hb0 (hone 0 t0 Z9 (y4 h0))
      ·obtain⟨x,hx,rfl⟩:=List.mem_map.1 ht;exact b9.1 hall x hx
      ·obtain rfl:i=0:=by have:i<1:=hi;omega
       obtain⟨t0,p0,h0,hb0,hp0⟩:=hgc j t hj;obtain⟨u,hu,hr⟩:=hc 0 j t0 Z9 h0
       exact⟨u,hu,o6 h 6 hb0 hp0 hr⟩
     ·cases hfin
    ·cases hfin
   ·rename_i ob2 hne he;simp only[X0] at he;subst he;simp only[X0,U4] at hfin;obtain⟨rfl,rfl⟩:=hfin;by_cases hia:ob.isArr=true
    case neg=>
     cases ob with
     |mp bo get=>
      obtain⟨h0,es,clock,h1,h2⟩:=hO;exact(⟨h0,es,clock,h1,h2⟩:b1k _ _ _ _ _)
     |mp2 get=>
      obtain⟨h0,es,clock,h1,h2⟩:=hO;exact(⟨h0,es,clock,h1,h2⟩:a1y _ _ _ _)
     |fam v ty sz n row=>
      have hF:FamOk E w k v ty sz n row:=hO;exact(FamOk.ren (E2:=E.lent b H) (w':=w) hF (cQ _) (λt x _ ht hx=>hstep t x ht hx) rfl rfl rfl ⟨hF.l2,hkb⟩ (λ_ _=>rfl) (λ_ _=>rfl) (λ_ _=>rfl):FamOk _ _ _ _ _ _ _ _)
     |_=>exact absurd rfl hia
    obtain⟨hz0,hn,hl,hone,hcl,cs,ty,hblk,hsz,hc⟩:=hO.arr hia;have hclo:ob.toArr.cl=true:=by
     cases ob with
     |bys=>rfl
     |mp=>rfl
     |mp2=>rfl
     |fam=>cases hia
     |arr cl ty sz n row=>cases cl with
      |true=>rfl
      |false=>exact absurd rfl (hne _ _ _ _)
    refine T5.ob ?_ hia
    refine⟨hz0,hn,hl,hone,hcl,cs,ty,hblk,hsz,λi j t hi hj=>?_⟩
    obtain⟨u,hu,hr⟩:=hc i j t hi hj;exact⟨u,hu,hstep t u (hcl hclo i t hi (y4 hj)) hr⟩
  ·obtain⟨ob3,_,hob3,hx⟩:=hblk hk hx;rw[hob] at hob3;simp only[X0] at hob3;subst hob3;rcases hN' with hN'|⟨k',ob2,hk',hob2,he⟩
   ·exact hN x hx hN'
   ·have:=h.heap.inj k k' ob ob2 x hob hob2 hx he;omega
 ·obtain⟨ob,_,hob,hx⟩:=hblk hk hx;obtain⟨ob',_,hob',hx'⟩:=hblk hk' hx';exact h.heap.inj k k' ob ob' x hob hob' hx hx'
 ·have:=h.heap.lt k hk.1;simp only[List.length_map,m1,List.length_take];have:=hk.2;omega
 ·obtain⟨hkb,ob,hob,p,hfin,hp⟩:=hget k ob' hk;obtain⟨v0,ty,sz,n,row,rfl,hle⟩:=h.heap.cur k ob v hob hv.1;simp only[gK,X0,U4] at hfin;exact⟨v0,ty,sz,n,row,hfin.1.symm,hle⟩
 ·rcases hx with hx|⟨k,ob,_,hob,hx⟩
  ·exact h.nlt x hx
  ·exact h.heap.blt hob hx
 ·rcases hx with hx|⟨k,ob,hkb,hob,hx⟩
  ·exact h.nnew x hx
  ·exact .inr (h.bnew k ob x hob hx)
 ·obtain⟨ob,_,hob,hx⟩:=hblk hk hx;exact h.bnew k ob x hob hx
def a0p{vs:Array Value}{args:List T}{nt:Nat}(d:HeapOk E w H)(f:∀b,E.N b->b<w.heap.size)(A:tC E w args vs)(t:args.length<=nt):
  RealE ⟨w,XB E H,E.N,nt,E,H.length⟩ E (pS 0 args) [] H {tmps:=vs++Array.replicate (nt-vs.size) undef,defers:=[]} w:=by
 have n:args.length=vs.size:=A.1;refine⟨rfl,C7,⟨λi _=>?_,λi hi=>absurd (λq Q=>lQ) hi⟩,⟨d,f,λb B=>.inl B,λk ob b e B=>.inr ⟨k,ob,e,B⟩,⟨rfl,rfl,rfl,U9 _,λ_ _ _=>rfl⟩,⟨λ_ h=>h,λ_ _ h=>⟨h,rfl,rfl,rfl⟩,λ_ _=>rfl,λ_ _ _ h=>⟨h,λ_ _=>⟨rfl,rfl⟩⟩⟩⟩⟩
 rw[a01,if_pos (N4 _),Nat.sub_zero];simp only[P4,Array.getD_eq_getD_getElem?,Array.getElem?_append]
 by_cases hi:i<vs.size
 ·rw[if_pos hi,I1 Z9,tB hi]
  exact A.2 i _ _ (I1 Z9) (tB hi)
 ·rw[List.getElem?_eq_none Z9]
  exact .und _
def c5W(hm:P.follows .mixedOrders=true)(hG:B6 P G)(W:∀x ∈ G,Q6 P x.1){f:FuncId}{fn:Func}{C:Code}{args:List T}{H Hres:X9}{bs:List Bool}{res:T}(hf:P.funcs[f]? =some fn)(O:fn.body=some C)(R:args.length<=fn.ntmps)
  (hl:H.length=bs.length) (A:Nat->Ann) (h:c5c P G fn.ntmps fn.results.toList C args H bs res Hres A):G3 P f args H res Hres:=by
 intro E w vs u hN ha;have ab:vs.size=args.length:=ha.1.symm;have J:=a7d (P:=P) (G:=G) (nt:=fn.ntmps) (m:=bs.length) C 0 _ (λe σ=>c2f P fn.results.toList bs res Hres e σ) _ A (λe σ A' hq=>hq) h
 rw[←hl] at J;refine calls_of_wp hf O (Code.wp_mono (λe Z w' hh=>?_) (b5I (c:=⟨w,XB E H,E.N,fn.ntmps,E,H.length⟩) hm hG W C _ _ _ w J ⟨E,a0p u hN ha R⟩))
 obtain⟨σ',hq,E',hr⟩:=hh;have t:∀k,E.L k->k<bs.length:=λk g=>by rw[←hl];exact u.lt k g
 have M:c2f P fn.results.toList bs res Hres .ret σ'->Z.defers=[]/\∃v,(results fn Z.tmps).run P w'= .ok v w'/\
   ∃v' E',Ending.returned v= .returned v'/\Inv ⟨w,XB E H,E.N,0,E,0⟩ E' Hres w'/\Stp E w E' w'/\Rd E' w' res v':=by
  intro hq;have g:=hr.inv.keep;have l:(∀b,E.N b->E'.N b)/\(∀k,E.L k->E'.L k/\E'.β k=E.β k/\E'.κ k=E.κ k/\E'.z k=E.z k)/\∀b,E.N b->w'.heap[b]? =w.heap[b]? :=⟨g.N,λk o=>g.L k (u.lt k o) o,g.same⟩
  have X:Inv ⟨w,XB E H,E.N,0,E,0⟩ E' σ'.H w':=⟨hr.inv.heap,hr.inv.nlt,hr.inv.nnew,hr.inv.bnew,hr.inv.fr,⟨g.N,λk h=>absurd h (D2 _),g.same,λk v h=>absurd h (D2 _)⟩⟩
  refine⟨hr.defers,?_⟩
  simp only[c2f] at hq;split at hq
  ·rename_i r p hres;split at hq
   ·rename_i r' p' os hbor hfin;obtain⟨hp,hq⟩:=rF hq;obtain⟨hp',hq⟩:=rF hq;obtain⟨hos,htl,hhp⟩:=rF hq;obtain⟨v,hrun,hrd⟩:=a2N (P:=P) hr.inv.heap (λi=>hr.slots.on i (λq hq=>wB)) hres hp
    have U:=c6x (b:=bs.length) rfl X hfin hos;obtain⟨e1,e2⟩:=a3Z hhp;have B:Hres.length=bs.length:=by rw[←e1,b7N,c1Y]
    have I:∀k m,m9 (z0 (lks 0 bs)) k=some m->k<Hres.length:=λk m g=>by
     rw[fE] at g;split at g
     ·omega
     ·cases g
    have F:∀k m,m9 (z0 (lks 0 bs)) k=some m->m=k:=λk m g=>by
     rw[fE] at g;split at g
     ·simp at g;omega
     ·cases g
    have Q:=a92 (ρ:=m9 (z0 (lks 0 bs))) (H':=Hres) I (λk k' m _ _ h1 h2=>by rw[←F k m h1,←F k' m h2]) e2 (λk g=>absurd g (D2 _)) U
    have n:∀k,E.L k->(m9 (z0 (lks 0 bs)) k)=some k:=λk g=>by rw[fE,if_pos (t k g)];simp
    refine⟨v,hrun,v,_,rfl,Q,⟨⟨λb O=>.inl (l.1 b O),λk g=>⟨?_,k,n k g,(l.2.1 k g).1,t k g⟩,λk g=>?_,λk g=>?_,λk g=>?_,λk v hv=>?_,λk v i j hv=>?_,λk v i j hv=>?_⟩,λb O=>l.2.2 b O⟩,?_⟩
    ·rw[B];exact t k g
    ·simp only[Env.ren,n k g,Option.getD_some];exact(l.2.1 k g).2.1
    ·simp only[Env.ren,n k g,Option.getD_some];exact(l.2.1 k g).2.2.1
    ·simp only[Env.ren,n k g,Option.getD_some];exact(l.2.1 k g).2.2.2
    ·have o:=u.l2 k v hv;exact⟨by rw[B];exact t k o,k,n k o,(g.L2 k v (u.lt k o) hv).1,t k o⟩
    ·have o:=u.l2 k v hv;simp only[Env.ren,n k o,Option.getD_some];exact((g.L2 k v (u.lt k o) hv).2 i j).1
    ·have o:=u.l2 k v hv;simp only[Env.ren,n k o,Option.getD_some];exact((g.L2 k v (u.lt k o) hv).2 i j).2
    ·obtain⟨d,aa,V,Y⟩:=nI htl;exact Rd.ren I d V (Y _ _ _ (o6 hr.inv 6 hbor hp' hrd))
   ·exact hq.elim
  ·exact hq.elim
 cases e with
 |normal=>exact M hq
 |ret=>exact M hq
 |_=>exact hq.elim
end
inductive ObEq:Option Ob->Option Ob->Prop
 |same (o:Option Ob):ObEq o o
 |rows (cl:Bool) (ty ty':TypeId) (sz n:Nat) (row row':Nat->List T) (h:∀i,i<n->row i=row' i):ObEq (some (.arr cl ty sz n row)) (some (.arr cl ty' sz n row'))
def c2a:X9->X9->Prop
 | [],[]=>True
 |o::r,o'::r'=>ObEq o o'/\c2a r r'
 |_,_=>False
def c0k:∀{H H':X9},c2a H H'->H.length=H'.length/\∀k,ObEq (Y4 H k) (Y4 H' k):=by
 intro H;induction H with
 |nil=>intro H' h;cases H' with
  |nil=>exact⟨rfl,λk=>.same _⟩
  |cons=>exact h.elim
 |cons o H i=>intro H' h;cases H' with
  |nil=>exact h.elim
  |cons o' H'=>
   obtain⟨e,d⟩:=i h.2;refine⟨by simp[e],λk=>?_⟩
   cases k with
   |zero=>simpa[Y4] using h.1
   |succ k=>simpa[Y4] using d k
def qZ{P:Program}{f:FuncId}{args:List T}{H H1 H':X9}{res:T}(M:c2a H H1)(h:G3 P f args H1 res H'):G3 P f args H res H':=by
 obtain⟨I,B⟩:=c0k M;have key:∀k ob,Y4 H k=some ob->∃ob',Y4 H1 k=some ob'/\(ob'=ob∨∃cl ty d sz n row row',ob= .arr cl ty sz n row/\ob'= .arr cl d sz n row'/\∀i,i<n->row i=row' i):=by
  intro k ob hk;have:=B k;rw[hk] at this;generalize Y4 H1 k=b at this;cases this with
  |same=>exact⟨ob,rfl,.inl rfl⟩
  |rows cl ty d sz n row row' h=>exact⟨_,rfl,.inr ⟨cl,ty,d,sz,n,row,row',rfl,rfl,h⟩⟩
 have key':∀k ob',Y4 H1 k=some ob'->∃ob,Y4 H k=some ob/\(ob'=ob∨∃cl ty d sz n row row',ob= .arr cl ty sz n row/\ob'= .arr cl d sz n row'/\∀i,i<n->row i=row' i):=by
  intro k ob hk;have:=B k;rw[hk] at this;generalize Y4 H k=b at this;cases this with
  |same=>exact⟨ob,rfl,.inl rfl⟩
  |rows cl ty d sz n row row' h=>exact⟨_,rfl,.inr ⟨cl,ty,d,sz,n,row,row',rfl,rfl,h⟩⟩
 intro E w vs hH U Q;have hbk:∀k ob ob' b,(ob'=ob∨∃cl ty d sz n row row',ob= .arr cl ty sz n row/\ob'= .arr cl d sz n row'/\∀i,i<n->row i=row' i)->(A3 E k ob' b↔A3 E k ob b):=by
  intro k ob ob' b hc;rcases hc with rfl|⟨cl,ty,d,sz,n,row,row',rfl,rfl,_⟩
  ·exact Iff.rfl
  ·exact⟨λhb=>.inl (hb.arr rfl),λhb=>.inl (hb.arr rfl)⟩
 have F:XB E H1=XB E H:=by
  funext b
  refine propext ⟨λ⟨k,ob',hk,hb⟩=>?_,λ⟨k,ob,hk,hb⟩=>?_⟩
  ·obtain⟨ob,hk',hc⟩:=key' k ob' hk;exact⟨k,ob,hk',(hbk k ob ob' b hc).1 hb⟩
  ·obtain⟨ob',hk',hc⟩:=key k ob hk;exact⟨k,ob',hk',(hbk k ob ob' b hc).2 hb⟩
 have u:HeapOk E w H1:=by
  refine⟨λk ob' hk=>?_,λk k' o o' b hk hk' hb A=>?_,λk hk=>by rw[←I];exact hH.lt k hk,hH.l2,λk ob' v hk hv=>?_⟩
  ·obtain⟨ob,hk',hc⟩:=key' k ob' hk;obtain⟨l1,l2,l3⟩:=hH.live k ob hk';refine⟨l1,?_,λb hb=>l3 b ((hbk k ob ob' b hc).1 hb)⟩
   rcases hc with rfl|⟨cl,ty,d,sz,n,row,row',rfl,rfl,hr⟩
   ·exact l2
   ·obtain⟨Z,O,J,g,L,cs,C,l,z,hc⟩:=l2;simp only[Ob.toArr] at*;exact⟨Z,O,λi hi=>(congrArg List.length (hr i hi)).symm.trans (J i hi),λi t hi r=>g i t hi ((hr i hi)▸r),λe i t hi r=>L e i t hi ((hr i hi)▸r),cs,C,l,z,λi j t hi R=>hc i j t hi ((hr i hi)▸R)⟩
  ·obtain⟨x,N,hc⟩:=key' k o hk;obtain⟨X,q,e⟩:=key' k' o' hk';exact hH.inj k k' x X b N q ((hbk k x o b hc).1 hb) ((hbk k' X o' b e).1 A)
  ·obtain⟨ob,hk',hc⟩:=key' k ob' hk;obtain⟨v0,ty,sz,n,row,rfl,hle⟩:=hH.cur k ob v hk' hv;rcases hc with rfl|⟨_,_,_,_,_,_,_,he,_⟩
   ·exact⟨v0,ty,sz,n,row,rfl,hle⟩
   ·cases he
 have:=h E w vs u U Q;rw[F] at this;exact this
def a8E:X9->List Lk->X9->Bool
 |H,lk::l,some _::r=>(match lk.old with|some m=>(Y4 H m).isSome|none=>false)&&a8E H l r
 |H,_::l,none::r=>a8E H l r
 |_,_,_=>true
def c9o(σ:Sy)(l:List Lk)(σ':Sy):Bool:=
 match b3A σ l with
 |some σ1=>a8E σ1.H (bH σ1.s σ1.H (a1X l)) σ'.H
 |none=>false
def c0z(m:Nat)(σ σ':Sy):List (List Lk)->Prop
 | []=>False
 | [l]=>aZ m l σ σ'
 |l::r=>match c9o σ l σ' with
  |true=>aZ m l σ σ'
  |false=>c0z m σ σ' r
def c2r{m:Nat}{σ σ':Sy}:∀{L:List (List Lk)},c0z m σ σ' L->Sub m σ σ':=by
 intro L;induction L with
 |nil=>intro h;exact h.elim
 |cons l L i=>
  intro h;cases L with
  |nil=>exact tI h
  |cons d L=>
   simp only[c0z] at h;split at h
   ·exact tI h
   ·exact i h
def c3Q(P:Program)(R:List ResultVar)(m:Nat)(lk:List (List Lk))(res:T)(Hres:X9):Exit->Sy->Prop
 | .normal,σ| .ret,σ=>match b9a P σ.s σ.H R with
  |some (r,p)=>bZ p (c0z m ⟨[(0,r)],σ.H⟩ ⟨[(0,res)],Hres⟩ lk)
  |none=>False
 |_,_=>False
def c5f(P:Program)(G:H6)(nt:Nat)(r:List ResultVar)(C:Code)(args:List T)(H:X9)(res:T)(Hres:X9)(A:Nat->Ann)(lk:List (List Lk)):Prop:=
 aY P G nt H.length C 0 (λe σ _=>c3Q P r H.length lk res Hres e σ) ⟨pS 0 args,H⟩ A
def c52{P:Program}{G:H6}(X:P.follows .mixedOrders=true)(W:B6 P G)(B:∀x ∈ G,Q6 P x.1){f:FuncId}{fn:Func}{C:Code}{args:List T}{H Hres:X9}{res:T}(R:P.funcs[f]? =some fn)(O:fn.body=some C)(z:args.length<=fn.ntmps)
  (A:Nat->Ann) (lk:List (List Lk)) (h:c5f P G fn.ntmps fn.results.toList C args H res Hres A lk):G3 P f args H res Hres:=by
 intro E w vs n Y J;have Z:vs.size=args.length:=J.1.symm;have t:=a7d (P:=P) (G:=G) (nt:=fn.ntmps) (m:=H.length) C 0 _ (λe σ=>c3Q P fn.results.toList H.length lk res Hres e σ) _ A (λe σ A' hq=>hq) h
 refine calls_of_wp R O (Code.wp_mono (λe F w' V=>?_) (b5I (c:=⟨w,XB E H,E.N,fn.ntmps,E,H.length⟩) X W B C _ _ _ w t ⟨E,a0p n Y J z⟩))
 obtain⟨σ',hq,E',hr⟩:=V;have M:c3Q P fn.results.toList H.length lk res Hres .ret σ'->F.defers=[]/\∃v,(results fn F.tmps).run P w'= .ok v w'/\
   ∃v' E',Ending.returned v= .returned v'/\Inv ⟨w,XB E H,E.N,0,E,0⟩ E' Hres w'/\Stp E w E' w'/\Rd E' w' res v':=by
  intro hq;refine⟨hr.defers,?_⟩
  simp only[c3Q] at hq;split at hq
  ·rename_i r p hres;obtain⟨hp,hq⟩:=rF hq;obtain⟨v,hrun,hrd⟩:=a2N (P:=P) hr.inv.heap (λi=>hr.slots.on i (λq hq=>wB)) hres hp
   refine⟨v,hrun,v,?_⟩
   have I:=hr.inv;have Q:iX ⟨w,XB E H,E.N,1,E,H.length⟩ [(0,r)] σ'.H {tmps:= #[v],defers:=[]} w':=by
    refine⟨E',rfl,rfl,⟨λi _=>?_,λi hi=>absurd (λq hq=>wB) hi⟩,⟨I.heap,I.nlt,I.nnew,I.bnew,I.fr,⟨I.keep.N,I.keep.L,I.keep.same,I.keep.L2⟩⟩⟩
    cases i with
    |zero=>exact hrd
    |succ i=>exact .und _
   obtain⟨E2,o⟩:=c2r hq ⟨w,XB E H,E.N,1,E,H.length⟩ _ w' rfl Q;have d:=o.inv;have g:=d.keep;refine⟨E2,rfl,⟨d.heap,d.nlt,d.nnew,d.bnew,d.fr,⟨g.N,λk h=>absurd h (D2 _),g.same,λk v h=>absurd h (D2 _)⟩⟩,⟨⟨g.N,λk l=>?_,λk l=>?_,λk l=>?_,λk l=>?_,λk u U=>?_,λk u i j U=>?_,λk u i j U=>?_⟩,g.same⟩,?_⟩
   ·exact(g.L k (n.lt k l) l).1
   ·exact(g.L k (n.lt k l) l).2.1
   ·exact(g.L k (n.lt k l) l).2.2.1
   ·exact(g.L k (n.lt k l) l).2.2.2
   ·exact(g.L2 k u (n.lt k (n.l2 k u U)) U).1
   ·exact((g.L2 k u (n.lt k (n.l2 k u U)) U).2 i j).1
   ·exact((g.L2 k u (n.lt k (n.l2 k u U)) U).2 i j).2
   ·exact o.slots.on 0 (λq hq=>wB)
  ·exact hq.elim
 cases e with
 |normal=>exact M hq
 |ret=>exact M hq
 |_=>exact hq.elim
end Go.SS
