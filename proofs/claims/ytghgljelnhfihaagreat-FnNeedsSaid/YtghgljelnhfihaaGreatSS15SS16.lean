/- A part of the proof. -/
import Derived.Test.YtghgljelnhfihaaGreatSSH
import Derived.Deep.LoopGhost
import Derived.Laws.Sem
namespace Go.SS
open Go.RowKit

def Sub(m:Nat)(σ σ':Sy):Prop:=∀c a w,c.m=m->hZ c σ.s σ.H a w->hZ c σ'.s σ'.H a w

section
variable {c:Ctx} {P:Program} {G:I2}

theorem b0I(hm:P.follows .mixedOrders=true)(hG:D0 P G)(hGc:∀x ∈ G,P4 P x.1):∀(code:Code) (Q:Exit->Sy->Prop) (σ:Sy) (a:Act) (w:World),vc P G c.nt (Sub c.m) code Q σ->hZ c σ.s σ.H a w->
  code.wp P (λe a' w'=>∃σ',Q e σ'/\hZ c σ'.s σ'.H a' w') a w:=by
 intro code;induction code with
 |skip=>intro Q σ a w h hr;exact wp_skip ⟨σ,h,hr⟩
 |region id ops draw=>
  intro Q σ a w h hr;simp only[vc] at h;split at h
  ·obtain⟨E,hE⟩:=hr;exact wp_region_list (b2r hG hGc (λs' H' a' w' hk hr'=>⟨⟨s',H'⟩,hk,hr'⟩) _ _ _ _ E a w h hE)
  ·obtain⟨E,hE⟩:=hr;exact b2i hm hG hGc (λs' H' a' w' hk hr'=>⟨⟨s',H'⟩,hk,hr'⟩) h hE
 |seq x y ihx ihy=>
  intro Q σ a w h hr;simp only[vc] at h;refine wp_seq (Code.wp_mono (λe a' w' hh=> ?_) (ihx _ _ _ _ h hr))
  obtain⟨σ',hq,hr'⟩:=hh;cases e with
  |normal=>exact ihy _ _ _ _ hq hr'
  |_=>exact⟨σ',hq,hr'⟩
 |cond cd x y ihx ihy=>
  intro Q σ a w h hr;simp only[vc] at h;split at h
  ·rename_i b hb;obtain⟨E,hE⟩:=hr;have hop:I0 E w a σ.s cd:=aY λt ht=>hE.slots.on t (λq hq=>by cases hq)
   unfold I0 at hop;rw[hb] at hop;refine wp_cond (t:=b) (z9 hop) ?_
   cases b with
   |true=>exact ihx _ _ _ _ (h.1 rfl) ⟨E,hE⟩
   |false=>exact ihy _ _ _ _ (h.2 rfl) ⟨E,hE⟩
  ·exact h.elim
 |block id body ih=>
  intro Q σ a w h hr;simp only[vc] at h;refine wp_block (Code.wp_mono (λe a' w' hh=> ?_) (ih _ _ _ _ h hr))
  obtain⟨σ',hq,hr'⟩:=hh;cases e with
  |exit i=>
   simp only at hq;simp only[Exit.inBlock];split at hq
   ·rename_i hb;rw[if_pos (G3 hb)];exact⟨σ',hq,hr'⟩
   ·rename_i hb;rw[if_neg (Nat.ne_of_beq_eq_false hb)];exact⟨σ',hq,hr'⟩
  |_=>exact⟨σ',hq,hr'⟩
 |loop body ih=>
  intro Q σ a w h hr;simp only[vc,b1k] at h;obtain⟨ι,I,μ,⟨x0,h0⟩,hround⟩:=h;refine wp_loop_ghost (λn a w=>∃x,μ x=n/\hZ c (I x).s (I x).H a w) (μ x0) ⟨x0,rfl,h0 c a w rfl hr⟩ λn a w hI=> ?_
  obtain⟨x,hx,hrx⟩:=hI;refine Code.wp_mono (λe a' w' hh=> ?_) (ih _ _ _ _ (hround x) hrx)
  obtain⟨σ',hq,hr'⟩:=hh;cases e with
  |normal=>
   obtain⟨y,hy,hlt⟩:=hq;exact⟨μ y,by omega,y,rfl,hy c a' w' rfl hr'⟩
  |_=>exact⟨σ',hq,hr'⟩
 |exit id=>intro Q σ a w h hr;exact wp_exit ⟨σ,h,hr⟩
 |ret=>intro Q σ a w h hr;exact wp_ret ⟨σ,h,hr⟩
 |_=>intro Q σ a w h hr;simp[vc] at h

end
end Go.SS
/- A calculus of symbolic states: a function that only reads, from its code. -/
namespace Go.SS
open Go.RowKit

def RLe(r res:T):Prop:=∀E w v,Rd E w r v->Rd E w res v

theorem RLe.refl(r:T):RLe r r:=λ_ _ _ h=>h

section
variable {c:Ctx} {E:Env} {H:Y1} {w:World} {P:Program} {G:I2}

theorem dO:∀(args:List T) (n i:Nat),j7 (sV n args) i=if n<=i then args.getD (i-n) .und else .und:=by
 intro args;induction args with
 |nil=>intro n i;simp[sV,j7]
 |cons x args ih=>
  intro n i;simp only[sV,j7];split
  ·rename_i h;obtain rfl:=G3 h;simp
  ·rename_i h;have hne:=Nat.ne_of_beq_eq_false h;rw[ih];by_cases h1:n<=i
   ·rw[if_pos h1,if_pos (by omega),show i-n=(i- (n+1))+1 by omega]
    rfl
   ·rw[if_neg h1,if_neg (by omega)]

theorem iF(h:HeapOk E w H){t:TypeId}{x y:T}{v:Value}{side:Option Prop}(he:zA P H t x=some (y,side))(hs:side.getD True)(hx:Rd E w x v):
  ∃r,(do loadVar t (←asAddr v):Sem Value).run P w= .ok r w/\Rd E w y r:=by
 obtain⟨r,hr,hy⟩:=a6Q h he hs hx;refine⟨r,?_,hy⟩
 unfold zA at he;split at he
 ·cases hx with
  |bref _ b off u hN hb1 hr' ht=>
   simp only[Instr.loadAt,Instr.sureAddr,asAddr,H4,D5,I1] at hr ⊢;exact hr
 ·cases hx with
  |ref _ _ _ hL=>
   simp only[Instr.loadAt,Instr.sureAddr,asAddr,H4,D5,I1] at hr ⊢;exact hr
 ·cases hx with
  |pref _ _ _ _ _ _ _ hL=>
   simp only[Instr.loadAt,Instr.sureAddr,asAddr,H4,D5,I1] at hr ⊢;exact hr
 ·cases he

def a5s(tmps:Array Value):ResultVar->Sem Value
 | .tmp t=>pure (tmps.getD t undef)
 | .cell a t=>do loadVar t (←asAddr (tmps.getD a undef))

theorem a8D(h:HeapOk E w H){s:V5}{tmps:Array Value}(hsl:∀i,Rd E w (j7 s i) (tmps.getD i undef)){rv:ResultVar}{y:T}{side:Option Prop}(he:aF P s H rv=some (y,side))(hs:side.getD True):
  ∃r,(a5s tmps rv).run P w= .ok r w/\Rd E w y r:=by
 cases rv with
 |tmp t=>
  simp only[aF,W8,T5] at he;obtain⟨rfl,rfl⟩:=he;exact⟨_,rfl,hsl t⟩
 |cell a t=>exact iF h he hs (hsl a)

theorem lK(h:HeapOk E w H){s:V5}{tmps:Array Value}(hsl:∀i,Rd E w (j7 s i) (tmps.getD i undef)):
  ∀{rs:List ResultVar} {ys:List (T×Option Prop)},O5 (aF P s H) rs=some ys->(∀x ∈ ys,x.2.getD True)->
   ∃vs:List Value,(rs.mapM (a5s tmps)).run P w= .ok vs w/\vs.length=ys.length/\∀(i:Nat) (y:T×Option Prop) (x:Value),ys[i]? =some y->vs[i]? =some x->Rd E w y.1 x:=by
 intro rs;induction rs with
 |nil=>
  intro ys hm _;simp only[O5,W8] at hm;subst hm;exact⟨[],rfl,rfl,λi y x hy=>by simp at hy⟩
 |cons rv rs ih=>
  intro ys hm hs;simp only[O5] at hm;split at hm
  ·rename_i y ys' hy hys;simp only[W8] at hm;subst hm;obtain⟨r,hr,hrd⟩:=a8D h hsl (y:=y.1) (side:=y.2) hy (hs y (by simp))
   obtain⟨vs,hvs,hl,ht⟩:=ih hys (λx hx=>hs x (by simp[hx]))
   refine⟨r::vs,?_,by simp[hl],λi y' x hy' hx=> ?_⟩
   ·simp only[List.mapM_cons,H4,hr,hvs,I1,D5]
   ·cases i with
    |zero=>simp at hy' hx;subst hy';subst hx;exact hrd
    |succ i=>exact ht i y' x (by simpa using hy') (by simpa using hx)
  ·cases hm

theorem a0B(h:HeapOk E w H){s:V5}{tmps:Array Value}(hsl:∀i,Rd E w (j7 s i) (tmps.getD i undef)){fn:Func}{y:T}{side:Option Prop}(he:b3a P s H fn.results.toList=some (y,side))(hs:side.getD True):
  ∃r,(results fn tmps).run P w= .ok r w/\Rd E w y r:=by
 unfold b3a at he;have hres:results fn tmps=(do
   let vs ←fn.results.mapM (a5s tmps)
   pure (if h:vs.size=1 then vs[0] else .tuple vs)):=by
  unfold results;congr 1
 rw[hres,Array.mapM_eq_mapM_toList];split at he
 ·rename_i x hm;simp only[W8] at he;subst he;obtain⟨vs,hr,hl,ht⟩:=lK (P:=P) h hsl hm (λx hx=>by simp at hx;subst hx;exact hs)
  match vs,hl with
  | [r],_=>
   refine⟨r,?_,ht 0 _ r rfl rfl⟩
   simp only[map_eq_pure_bind,H4,hr,I1,D5];rfl
 ·rename_i xs hne hm;simp only[W8,T5] at he;obtain⟨rfl,rfl⟩:=he;obtain⟨vs,hr,hl,ht⟩:=lK (P:=P) h hsl hm (zB hs);refine⟨.tuple vs.toArray,?_,?_⟩
  ·simp only[map_eq_pure_bind,H4,hr,I1,D5];have:¬vs.toArray.size=1:=by
    simp only[List.size_toArray,hl];intro h1
    match xs,h1 with
    | [x],_=>exact hne x rfl
   rw[dif_neg this]
  ·refine .tup _ _ (by simp[hl]) λi t x hi hx=> ?_
   simp only[pN,I3,List.getElem?_toArray] at hi hx
   obtain⟨y,hy,rfl⟩:=hi;exact ht i y x hy hx
 ·cases he

theorem tZ{p:Option Prop}{q:Prop}(h:iM p q):p.getD True/\q:=by
 cases p with
 |none=>exact⟨trivial,h⟩
 |some p=>exact h

theorem a5M{vs:Array Value}{args:List T}{nt:Nat}(hL:∀k,¬E.L k/\∀v,¬E.L2 k v)(hN:∀b,E.N b->b<w.heap.size)(ha:vB E w args vs)(hnt:args.length<=nt):
  RealE ⟨w,λ_=>False,E.N,nt,E,0⟩ E (sV 0 args) [] [] {tmps:=vs++Array.replicate (nt-vs.size) undef,defers:=[]} w:=by
 have hlen:args.length=vs.size:=ha.1;refine⟨rfl,by simp;omega,⟨λi _=> ?_,λi hi=>absurd (λq hq=>by cases hq) hi⟩,⟨⟨λk ob hk=>by simp[Z0] at hk,λk k' ob ob' b hk=>by simp[Z0] at hk,λk hk=>absurd hk (hL k).1,λk v hv=>absurd hv ((hL k).2 v),λk ob v hk=>by simp[Z0] at hk⟩,
  hN,λb hb=>.inl hb,λk ob b hk=>by simp[Z0] at hk,⟨rfl,rfl,rfl,W4 _,λ_ _ _=>rfl⟩,⟨λ_ h=>h,λ_ h=>absurd h (J5 _),λ_ _=>rfl,λ_ _ h=>absurd h (J5 _)⟩⟩⟩
 rw[dO,if_pos (S7 _),Nat.sub_zero];simp only[P8,Array.getD_eq_getD_getElem?,Array.getElem?_append]
 by_cases hi:i<vs.size
 ·rw[if_pos hi,K7 (by omega),rL hi]
  exact ha.2 i _ _ (K7 (by omega)) (rL hi)
 ·rw[List.getElem?_eq_none (by omega)]
  exact .und _

theorem b6G(hm:P.follows .mixedOrders=true)(hG:D0 P G)(hGc:∀x ∈ G,P4 P x.1){f:FuncId}{fn:Func}{code:Code}{args:List T}{res:T}(hf:P.funcs[f]? =some fn)(hb:fn.body=some code)(hnt:args.length<=fn.ntmps)
  (h:vc P G fn.ntmps (Sub 0) code (b1i P fn.results.toList λr=>RLe r res) ⟨sV 0 args,[]⟩):U1 P f args res:=by
 intro E w vs hL hN ha;have hsz:vs.size=args.length:=ha.1.symm;refine calls_of_wp hf hb (Code.wp_mono (λe a' w' hh=> ?_) (b0I (c:=⟨w,λ_=>False,E.N,fn.ntmps,E,0⟩) hm hG hGc code _ _ _ w h ⟨E,a5M hL hN ha hnt⟩))
 obtain⟨σ',hq,E',hr⟩:=hh;have main:b1i P fn.results.toList (λr=>RLe r res) .ret σ'->a'.defers=[]/\∃v,(results fn a'.tmps).run P w'= .ok v w'/\
   ∃v',Ending.returned v= .returned v'/\Below w.heap.size w w'/\Rd (E.addN λb=>w.heap.size<=b/\b<w'.heap.size) w' res v':=by
  intro hq;refine⟨hr.defers,?_⟩
  simp only[b1i] at hq;split at hq
  ·rename_i r p hres;split at hq
   ·rename_i r' p' hbor;obtain⟨hp,hq⟩:=tZ hq;obtain⟨hp',hle⟩:=tZ hq;obtain⟨v,hrun,hrd⟩:=a0B (P:=P) hr.inv.heap (λi=>hr.slots.on i (λq hq=>by cases hq)) hres hp
    have hI:=hr.inv;refine⟨v,hrun,v,rfl,⟨hI.fr.os,hI.fr.tape,hI.fr.output,hI.fr.size,λb hb=>hI.fr.block b hb (λh=>h)⟩,?_⟩
    refine hle _ _ _ (Rd.mono (E:=E'.lent 0 σ'.H) (w:=w') ⟨λb hb=> ?_,λ_ h=>absurd h.2 (J5 _),λ_ h=>absurd h.2 (J5 _),λ_ h=>absurd h.2 (J5 _),λ_ h=>absurd h.2 (J5 _),λ_ _ h=>absurd h.2 (J5 _),λ_ _ _ _ h=>absurd h.2 (J5 _),λ_ _ _ _ h=>absurd h.2 (J5 _)⟩ (λ_ _=>rfl) (y5 hI 6 hbor hp' hrd))
    rcases hb with hb|⟨k,ob,_,hk,hb⟩
    ·rcases hI.nnew b hb with h1|h1|h1
     ·exact .inl h1
     ·exact .inr ⟨h1,hI.nlt b hb⟩
     ·exact h1.elim
    ·rcases hI.bnew k ob b hk hb with h1|h1
     ·exact .inr ⟨h1,hI.heap.blt hk hb⟩
     ·exact h1.elim
   ·exact hq.elim
  ·exact hq.elim
 cases e with
 |normal=>exact main hq
 |ret=>exact main hq
 |_=>exact hq.elim

end
end Go.SS
