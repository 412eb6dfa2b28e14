/- A part of the proof. -/
import Derived.Test.YtokaojbaacnngaaGreatSSH
import Derived.Deep.LoopGhost
import Derived.Laws.Sem
namespace Go.SS
open Go.RowKit

def Sub(m:Nat)(σ σ':Sy):Prop:=∀c a w,c.m=m->hJ c σ.s σ.H a w->hJ c σ'.s σ'.H a w

section
variable {c:Ctx} {P:Program} {G:K3}

theorem b9I(hm:P.follows .mixedOrders=true)(hG:H3 P G)(hGc:∀x ∈ G,Z7 P x.1):∀(code:Code) (Q:Exit->Sy->Prop) (σ:Sy) (a:Act) (w:World),vc P G c.nt (Sub c.m) code Q σ->hJ c σ.s σ.H a w->
  code.wp P (fun e a' w'=>∃σ',Q e σ'/\hJ c σ'.s σ'.H a' w') a w:=by
 intro code;induction code with
 |skip=>intro Q σ a w h hr;exact wp_skip ⟨σ,h,hr⟩
 |region id ops draw=>
  intro Q σ a w h hr;simp only[vc] at h;split at h
  ·obtain⟨E,hE⟩:=hr;exact wp_region_list (b6S hG hGc (fun s' H' a' w' hk hr'=>⟨⟨s',H'⟩,hk,hr'⟩) _ _ _ _ E a w h hE)
  ·obtain⟨E,hE⟩:=hr;exact b8S hm hG hGc (fun s' H' a' w' hk hr'=>⟨⟨s',H'⟩,hk,hr'⟩) h hE
 |seq x y ihx ihy=>
  intro Q σ a w h hr;simp only[vc] at h;refine wp_seq (Code.wp_mono (fun e a' w' hh=> ?_) (ihx _ _ _ _ h hr))
  obtain⟨σ',hq,hr'⟩:=hh;cases e with
  |normal=>exact ihy _ _ _ _ hq hr'
  |_=>exact⟨σ',hq,hr'⟩
 |cond cd x y ihx ihy=>
  intro Q σ a w h hr;simp only[vc] at h;split at h
  ·rename_i b hb;obtain⟨E,hE⟩:=hr;have hop:J5 E w a σ.s cd:=bG fun t ht=>hE.slots.on t (fun q hq=>by cases hq)
   unfold J5 at hop;rw[hb] at hop;refine wp_cond (t:=b) (D4 hop) ?_
   cases b with
   |true=>exact ihx _ _ _ _ (h.1 rfl) ⟨E,hE⟩
   |false=>exact ihy _ _ _ _ (h.2 rfl) ⟨E,hE⟩
  ·exact h.elim
 |block id body ih=>
  intro Q σ a w h hr;simp only[vc] at h;refine wp_block (Code.wp_mono (fun e a' w' hh=> ?_) (ih _ _ _ _ h hr))
  obtain⟨σ',hq,hr'⟩:=hh;cases e with
  |exit i=>
   simp only at hq;simp only[Exit.inBlock];split at hq
   ·rename_i hb;rw[if_pos (K1 hb)];exact⟨σ',hq,hr'⟩
   ·rename_i hb;rw[if_neg (Nat.ne_of_beq_eq_false hb)];exact⟨σ',hq,hr'⟩
  |_=>exact⟨σ',hq,hr'⟩
 |loop body ih=>
  intro Q σ a w h hr;simp only[vc,b83] at h;obtain⟨ι,I,μ,⟨x0,h0⟩,hround⟩:=h;refine wp_loop_ghost (fun n a w=>∃x,μ x=n/\hJ c (I x).s (I x).H a w) (μ x0) ⟨x0,rfl,h0 c a w rfl hr⟩ fun n a w hI=> ?_
  obtain⟨x,hx,hrx⟩:=hI;refine Code.wp_mono (fun e a' w' hh=> ?_) (ih _ _ _ _ (hround x) hrx)
  obtain⟨σ',hq,hr'⟩:=hh;cases e with
  |normal=>
   obtain⟨y,hy,hlt⟩:=hq;exact⟨μ y,by omega,y,rfl,hy c a' w' rfl hr'⟩
  |_=>exact⟨σ',hq,hr'⟩
 |exit id=>intro Q σ a w h hr;exact wp_exit ⟨σ,h,hr⟩
 |ret=>intro Q σ a w h hr;exact wp_ret ⟨σ,h,hr⟩
 |_=>intro Q σ a w h hr;simp[vc] at h

end
end Go.SS
/- A calculus of symbolic states: a function that only reads, from its code. -/
namespace Go.SS
open Go.RowKit

def RLe(r res:T):Prop:=∀E w v,Rd E w r v->Rd E w res v

theorem RLe.refl(r:T):RLe r r:=fun _ _ _ h=>h

section
variable {c:Ctx} {E:Env} {H:Y6} {w:World} {P:Program} {G:K3}

theorem gF:∀(args:List T) (n i:Nat),u6 (vF n args) i=if n<=i then args.getD (i-n) .und else .und:=by
 intro args;induction args with
 |nil=>intro n i;simp[vF,u6]
 |cons x args ih=>
  intro n i;simp only[vF,u6];split
  ·rename_i h;obtain rfl:=K1 h;simp
  ·rename_i h;have hne:=Nat.ne_of_beq_eq_false h;rw[ih];by_cases h1:n<=i
   ·rw[if_pos h1,if_pos (by omega),show i-n=(i- (n+1))+1 by omega]
    rfl
   ·rw[if_neg h1,if_neg (by omega)]

theorem iG(h:HeapOk E w H){t:TypeId}{x y:T}{v:Value}{side:Option Prop}(he:k5 P H t x=some (y,side))(hs:side.getD True)(hx:Rd E w x v):
  ∃r,(do loadVar t (←asAddr v):Sem Value).run P w= .ok r w/\Rd E w y r:=by
 obtain⟨r,hr,hy⟩:=a9Z h he hs hx;refine⟨r,?_,hy⟩
 unfold k5 at he;split at he
 ·cases hx with
  |bref _ b off u hN hb1 hr' ht=>
   simp only[Instr.loadAt,Instr.sureAddr,asAddr,L1,I1,L7] at hr ⊢;exact hr
 ·cases hx with
  |ref _ _ _ hL=>
   simp only[Instr.loadAt,Instr.sureAddr,asAddr,L1,I1,L7] at hr ⊢;exact hr
 ·cases hx with
  |pref _ _ _ _ _ _ _ hL=>
   simp only[Instr.loadAt,Instr.sureAddr,asAddr,L1,I1,L7] at hr ⊢;exact hr
 ·cases he

def a5g(tmps:Array Value):ResultVar->Sem Value
 | .tmp t=>pure (tmps.getD t undef)
 | .cell a t=>do loadVar t (←asAddr (tmps.getD a undef))

theorem b3Q(h:HeapOk E w H){s:W9}{tmps:Array Value}(hsl:∀i,Rd E w (u6 s i) (tmps.getD i undef)){rv:ResultVar}{y:T}{side:Option Prop}(he:dD P s H rv=some (y,side))(hs:side.getD True):
  ∃r,(a5g tmps rv).run P w= .ok r w/\Rd E w y r:=by
 cases rv with
 |tmp t=>
  simp only[dD,X6,V1] at he;obtain⟨rfl,rfl⟩:=he;exact⟨_,rfl,hsl t⟩
 |cell a t=>exact iG h he hs (hsl a)

theorem lV(h:HeapOk E w H){s:W9}{tmps:Array Value}(hsl:∀i,Rd E w (u6 s i) (tmps.getD i undef)):
  ∀{rs:List ResultVar} {ys:List (T×Option Prop)},Q9 (dD P s H) rs=some ys->(∀x ∈ ys,x.2.getD True)->
   ∃vs:List Value,(rs.mapM (a5g tmps)).run P w= .ok vs w/\vs.length=ys.length/\∀(i:Nat) (y:T×Option Prop) (x:Value),ys[i]? =some y->vs[i]? =some x->Rd E w y.1 x:=by
 intro rs;induction rs with
 |nil=>
  intro ys hm _;simp only[Q9,X6] at hm;subst hm;exact⟨[],rfl,rfl,fun i y x hy=>by simp at hy⟩
 |cons rv rs ih=>
  intro ys hm hs;simp only[Q9] at hm;split at hm
  ·rename_i y ys' hy hys;simp only[X6] at hm;subst hm;obtain⟨r,hr,hrd⟩:=b3Q h hsl (y:=y.1) (side:=y.2) hy (hs y (by simp))
   obtain⟨vs,hvs,hl,ht⟩:=ih hys (fun x hx=>hs x (by simp[hx]))
   refine⟨r::vs,?_,by simp[hl],fun i y' x hy' hx=> ?_⟩
   ·simp only[List.mapM_cons,L1,hr,hvs,L7,I1]
   ·cases i with
    |zero=>simp at hy' hx;subst hy';subst hx;exact hrd
    |succ i=>exact ht i y' x (by simpa using hy') (by simpa using hx)
  ·cases hm

theorem a0c(h:HeapOk E w H){s:W9}{tmps:Array Value}(hsl:∀i,Rd E w (u6 s i) (tmps.getD i undef)){fn:Func}{y:T}{side:Option Prop}(he:b6g P s H fn.results.toList=some (y,side))(hs:side.getD True):
  ∃r,(results fn tmps).run P w= .ok r w/\Rd E w y r:=by
 unfold b6g at he;have hres:results fn tmps=(do
   let vs ←fn.results.mapM (a5g tmps)
   pure (if h:vs.size=1 then vs[0] else .tuple vs)):=by
  unfold results;congr 1
 rw[hres,Array.mapM_eq_mapM_toList];split at he
 ·rename_i x hm;simp only[X6] at he;subst he;obtain⟨vs,hr,hl,ht⟩:=lV (P:=P) h hsl hm (fun x hx=>by simp at hx;subst hx;exact hs)
  match vs,hl with
  | [r],_=>
   refine⟨r,?_,ht 0 _ r rfl rfl⟩
   simp only[map_eq_pure_bind,L1,hr,L7,I1];rfl
 ·rename_i xs hne hm;simp only[X6,V1] at he;obtain⟨rfl,rfl⟩:=he;obtain⟨vs,hr,hl,ht⟩:=lV (P:=P) h hsl hm (l9 hs);refine⟨.tuple vs.toArray,?_,?_⟩
  ·simp only[map_eq_pure_bind,L1,hr,L7,I1];have:¬vs.toArray.size=1:=by
    simp only[List.size_toArray,hl];intro h1
    match xs,h1 with
    | [x],_=>exact hne x rfl
   rw[dif_neg this]
  ·refine .tup _ _ (by simp[hl]) fun i t x hi hx=> ?_
   simp only[sJ,L8,List.getElem?_toArray] at hi hx
   obtain⟨y,hy,rfl⟩:=hi;exact ht i y x hy hx
 ·cases he

theorem wE{p:Option Prop}{q:Prop}(h:jU p q):p.getD True/\q:=by
 cases p with
 |none=>exact⟨trivial,h⟩
 |some p=>exact h

theorem a7j{vs:Array Value}{args:List T}{nt:Nat}(hL:∀k,¬E.L k/\∀v,¬E.L2 k v)(hN:∀b,E.N b->b<w.heap.size)(ha:xX E w args vs)(hnt:args.length<=nt):
  RealE ⟨w,fun _=>False,E.N,nt,E,0⟩ E (vF 0 args) [] [] {tmps:=vs++Array.replicate (nt-vs.size) undef,defers:=[]} w:=by
 have hlen:args.length=vs.size:=ha.1;refine⟨rfl,by simp;omega,⟨fun i _=> ?_,fun i hi=>absurd (fun q hq=>by cases hq) hi⟩,⟨⟨fun k ob hk=>by simp[Z4] at hk,fun k k' ob ob' b hk=>by simp[Z4] at hk,fun k hk=>absurd hk (hL k).1,fun k v hv=>absurd hv ((hL k).2 v),fun k ob v hk=>by simp[Z4] at hk⟩,
  hN,fun b hb=>.inl hb,fun k ob b hk=>by simp[Z4] at hk,⟨rfl,rfl,rfl,V5 _,fun _ _ _=>rfl⟩,⟨fun _ h=>h,fun _ h=>absurd h (J2 _),fun _ _=>rfl,fun _ _ h=>absurd h (J2 _)⟩⟩⟩
 rw[gF,if_pos (T0 _),Nat.sub_zero];simp only[C0,Array.getD_eq_getD_getElem?,Array.getElem?_append]
 by_cases hi:i<vs.size
 ·rw[if_pos hi,O1 (by omega),vC hi]
  exact ha.2 i _ _ (O1 (by omega)) (vC hi)
 ·rw[List.getElem?_eq_none (by omega)]
  exact .und _

theorem c2m(hm:P.follows .mixedOrders=true)(hG:H3 P G)(hGc:∀x ∈ G,Z7 P x.1){f:FuncId}{fn:Func}{code:Code}{args:List T}{res:T}(hf:P.funcs[f]? =some fn)(hb:fn.body=some code)(hnt:args.length<=fn.ntmps)
  (h:vc P G fn.ntmps (Sub 0) code (b76 P fn.results.toList fun r=>RLe r res) ⟨vF 0 args,[]⟩):Z2 P f args res:=by
 intro E w vs hL hN ha;have hsz:vs.size=args.length:=ha.1.symm;refine calls_of_wp hf hb (Code.wp_mono (fun e a' w' hh=> ?_) (b9I (c:=⟨w,fun _=>False,E.N,fn.ntmps,E,0⟩) hm hG hGc code _ _ _ w h ⟨E,a7j hL hN ha hnt⟩))
 obtain⟨σ',hq,E',hr⟩:=hh;have main:b76 P fn.results.toList (fun r=>RLe r res) .ret σ'->a'.defers=[]/\∃v,(results fn a'.tmps).run P w'= .ok v w'/\
   ∃v',Ending.returned v= .returned v'/\Below w.heap.size w w'/\Rd (E.addN fun b=>w.heap.size<=b/\b<w'.heap.size) w' res v':=by
  intro hq;refine⟨hr.defers,?_⟩
  simp only[b76] at hq;split at hq
  ·rename_i r p hres;split at hq
   ·rename_i r' p' hbor;obtain⟨hp,hq⟩:=wE hq;obtain⟨hp',hle⟩:=wE hq;obtain⟨v,hrun,hrd⟩:=a0c (P:=P) hr.inv.heap (fun i=>hr.slots.on i (fun q hq=>by cases hq)) hres hp
    have hI:=hr.inv;refine⟨v,hrun,v,rfl,⟨hI.fr.os,hI.fr.tape,hI.fr.output,hI.fr.size,fun b hb=>hI.fr.block b hb (fun h=>h)⟩,?_⟩
    refine hle _ _ _ (Rd.mono (E:=E'.lent 0 σ'.H) (w:=w') ⟨fun b hb=> ?_,fun _ h=>absurd h.2 (J2 _),fun _ h=>absurd h.2 (J2 _),fun _ h=>absurd h.2 (J2 _),fun _ h=>absurd h.2 (J2 _),fun _ _ h=>absurd h.2 (J2 _),fun _ _ _ _ h=>absurd h.2 (J2 _),fun _ _ _ _ h=>absurd h.2 (J2 _)⟩ (fun _ _=>rfl) (C3 hI 6 hbor hp' hrd))
    rcases hb with hb|⟨k,ob,_,hk,hb⟩
    ·rcases hI.nnew b hb with h1|h1|h1
     ·exact .inl h1
     ·exact .inr ⟨h1,hI.nlt b hb⟩
     ·exact h1.elim
    ·rcases hI.bnew k ob b hk hb with h1|h1
     ·exact .inr ⟨h1,hI.heap.blt hk hb⟩
     ·exact h1.elim
   ·exact hq.elim
  ·exact hq.elim
 cases e with
 |normal=>exact main hq
 |ret=>exact main hq
 |_=>exact hq.elim

end
end Go.SS
