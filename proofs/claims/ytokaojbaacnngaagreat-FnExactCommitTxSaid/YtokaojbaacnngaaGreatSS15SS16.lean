/- A part of the proof. -/
import Derived.Test.YtokaojbaacnngaaGreatSSH
import Derived.Deep.LoopGhost
import Derived.Laws.Sem
namespace Go.SS
open Go.RowKit

def Sub(m:Nat)(σ σ':Sy):Prop:=∀c a w,c.m=m->a6a c σ.s σ.H a w->a6a c σ'.s σ'.H a w

section
variable {c:Ctx} {P:Program} {G:K8}

theorem c6a(hm:P.follows .mixedOrders=true)(hG:I8 P G)(hGc:∀x ∈ G,Z8 P x.1):∀(code:Code) (Q:Exit->Sy->Prop) (σ:Sy) (a:Act) (w:World),vc P G c.nt (Sub c.m) code Q σ->a6a c σ.s σ.H a w->
  code.wp P (fun e a' w'=>∃σ',Q e σ'/\a6a c σ'.s σ'.H a' w') a w:=by
 intro code;induction code with
 |skip=>intro Q σ a w h hr;exact wp_skip ⟨σ,h,hr⟩
 |region id ops draw=>
  intro Q σ a w h hr;simp only[vc] at h;split at h
  ·obtain⟨E,hE⟩:=hr;exact wp_region_list (c4f hG hGc (fun s' H' a' w' hk hr'=>⟨⟨s',H'⟩,hk,hr'⟩) _ _ _ _ E a w h hE)
  ·obtain⟨E,hE⟩:=hr;exact c8M hm hG hGc (fun s' H' a' w' hk hr'=>⟨⟨s',H'⟩,hk,hr'⟩) h hE
 |seq x y ihx ihy=>
  intro Q σ a w h hr;simp only[vc] at h;refine wp_seq (Code.wp_mono (fun e a' w' hh=> ?_) (ihx _ _ _ _ h hr))
  obtain⟨σ',hq,hr'⟩:=hh;cases e with
  |normal=>exact ihy _ _ _ _ hq hr'
  |_=>exact⟨σ',hq,hr'⟩
 |cond cd x y ihx ihy=>
  intro Q σ a w h hr;simp only[vc] at h;split at h
  ·rename_i b hb;obtain⟨E,hE⟩:=hr;have hop:K4 E w a σ.s cd:=a7v fun t ht=>hE.slots.on t (fun q hq=>by cases hq)
   unfold K4 at hop;rw[hb] at hop;refine wp_cond (t:=b) (F4 hop) ?_
   cases b with
   |true=>exact ihx _ _ _ _ (h.1 rfl) ⟨E,hE⟩
   |false=>exact ihy _ _ _ _ (h.2 rfl) ⟨E,hE⟩
  ·exact h.elim
 |block id body ih=>
  intro Q σ a w h hr;simp only[vc] at h;refine wp_block (Code.wp_mono (fun e a' w' hh=> ?_) (ih _ _ _ _ h hr))
  obtain⟨σ',hq,hr'⟩:=hh;cases e with
  |exit i=>
   simp only at hq;simp only[Exit.inBlock];split at hq
   ·rename_i hb;rw[if_pos (Nat.eq_of_beq_eq_true hb)];exact⟨σ',hq,hr'⟩
   ·rename_i hb;rw[if_neg (Nat.ne_of_beq_eq_false hb)];exact⟨σ',hq,hr'⟩
  |_=>exact⟨σ',hq,hr'⟩
 |loop body ih=>
  intro Q σ a w h hr;simp only[vc,c6E] at h;obtain⟨ι,I,μ,⟨x0,h0⟩,hround⟩:=h;refine wp_loop_ghost (fun n a w=>∃x,μ x=n/\a6a c (I x).s (I x).H a w) (μ x0) ⟨x0,rfl,h0 c a w rfl hr⟩ fun n a w hI=> ?_
  obtain⟨x,hx,hrx⟩:=hI;refine Code.wp_mono (fun e a' w' hh=> ?_) (ih _ _ _ _ (hround x) hrx)
  obtain⟨σ',hq,hr'⟩:=hh;cases e with
  |normal=>
   obtain⟨y,hy,hlt⟩:=hq;exact⟨μ y,by omega,y,rfl,hy c a' w' rfl hr'⟩
  |_=>exact⟨σ',hq,hr'⟩
 |exit id=>intro Q σ a w h hr;exact wp_exit ⟨σ,h,hr⟩
 |ret=>intro Q σ a w h hr;exact wp_ret ⟨σ,h,hr⟩
 |_=>intro Q σ a w h hr;simp[vc] at h

end
end Go.SS
/- A calculus of symbolic states: a function that only reads, from its code. -/
namespace Go.SS
open Go.RowKit

def RLe(r res:T):Prop:=∀E w v,Rd E w r v->Rd E w res v

theorem RLe.refl(r:T):RLe r r:=fun _ _ _ h=>h

section
variable {c:Ctx} {E:Env} {H:Y5} {w:World} {P:Program} {G:K8}

theorem a6R:∀(args:List T) (n i:Nat),z5 (a1u n args) i=if n<=i then args.getD (i-n) .und else .und:=by
 intro args;induction args with
 |nil=>intro n i;simp[a1u,z5]
 |cons x args ih=>
  intro n i;simp only[a1u,z5];split
  ·rename_i h;obtain rfl:=Nat.eq_of_beq_eq_true h;simp
  ·rename_i h;have hne:=Nat.ne_of_beq_eq_false h;rw[ih];by_cases h1:n<=i
   ·rw[if_pos h1,if_pos (by omega),show i-n=(i- (n+1))+1 by omega]
    rfl
   ·rw[if_neg h1,if_neg (by omega)]

theorem a5W(h:HeapOk E w H){t:TypeId}{x y:T}{v:Value}{side:Option Prop}(he:s6 P H t x=some (y,side))(hs:side.getD True)(hx:Rd E w x v):
  ∃r,(do loadVar t (←asAddr v):Sem Value).run P w= .ok r w/\Rd E w y r:=by
 obtain⟨r,hr,hy⟩:=b8j h he hs hx;refine⟨r,?_,hy⟩
 unfold s6 at he;split at he
 ·cases hx with
  |bref _ b off u hN hb1 hr' ht=>
   simp only[Instr.loadAt,Instr.sureAddr,asAddr,Sem.run_bind,Sem.run_pure,Result.andThen_ok] at hr ⊢;exact hr
 ·cases hx with
  |ref _ _ _ hL=>
   simp only[Instr.loadAt,Instr.sureAddr,asAddr,Sem.run_bind,Sem.run_pure,Result.andThen_ok] at hr ⊢;exact hr
 ·cases hx with
  |pref _ _ _ _ _ _ _ hL=>
   simp only[Instr.loadAt,Instr.sureAddr,asAddr,Sem.run_bind,Sem.run_pure,Result.andThen_ok] at hr ⊢;exact hr
 ·cases he

def b6i(tmps:Array Value):ResultVar->Sem Value
 | .tmp t=>pure (tmps.getD t undef)
 | .cell a t=>do loadVar t (←asAddr (tmps.getD a undef))

theorem c2p(h:HeapOk E w H){s:X2}{tmps:Array Value}(hsl:∀i,Rd E w (z5 s i) (tmps.getD i undef)){rv:ResultVar}{y:T}{side:Option Prop}(he:a7z P s H rv=some (y,side))(hs:side.getD True):
  ∃r,(b6i tmps rv).run P w= .ok r w/\Rd E w y r:=by
 cases rv with
 |tmp t=>
  simp only[a7z,Option.some.injEq,Prod.mk.injEq] at he;obtain⟨rfl,rfl⟩:=he;exact⟨_,rfl,hsl t⟩
 |cell a t=>exact a5W h he hs (hsl a)

theorem a5a(h:HeapOk E w H){s:X2}{tmps:Array Value}(hsl:∀i,Rd E w (z5 s i) (tmps.getD i undef)):
  ∀{rs:List ResultVar} {ys:List (T×Option Prop)},Q9 (a7z P s H) rs=some ys->(∀x ∈ ys,x.2.getD True)->
   ∃vs:List Value,(rs.mapM (b6i tmps)).run P w= .ok vs w/\vs.length=ys.length/\∀(i:Nat) (y:T×Option Prop) (x:Value),ys[i]? =some y->vs[i]? =some x->Rd E w y.1 x:=by
 intro rs;induction rs with
 |nil=>
  intro ys hm _;simp only[Q9,Option.some.injEq] at hm;subst hm;exact⟨[],rfl,rfl,fun i y x hy=>by simp at hy⟩
 |cons rv rs ih=>
  intro ys hm hs;simp only[Q9] at hm;split at hm
  ·rename_i y ys' hy hys;simp only[Option.some.injEq] at hm;subst hm;obtain⟨r,hr,hrd⟩:=c2p h hsl (y:=y.1) (side:=y.2) hy (hs y (by simp))
   obtain⟨vs,hvs,hl,ht⟩:=ih hys (fun x hx=>hs x (by simp[hx]))
   refine⟨r::vs,?_,by simp[hl],fun i y' x hy' hx=> ?_⟩
   ·simp only[List.mapM_cons,Sem.run_bind,hr,hvs,Result.andThen_ok,Sem.run_pure]
   ·cases i with
    |zero=>simp at hy' hx;subst hy';subst hx;exact hrd
    |succ i=>exact ht i y' x (by simpa using hy') (by simpa using hx)
  ·cases hm

theorem a9a(h:HeapOk E w H){s:X2}{tmps:Array Value}(hsl:∀i,Rd E w (z5 s i) (tmps.getD i undef)){fn:Func}{y:T}{side:Option Prop}(he:c4B P s H fn.results.toList=some (y,side))(hs:side.getD True):
  ∃r,(results fn tmps).run P w= .ok r w/\Rd E w y r:=by
 unfold c4B at he;have hres:results fn tmps=(do
   let vs ←fn.results.mapM (b6i tmps)
   pure (if h:vs.size=1 then vs[0] else .tuple vs)):=by
  unfold results;congr 1
 rw[hres,Array.mapM_eq_mapM_toList];split at he
 ·rename_i x hm;simp only[Option.some.injEq] at he;subst he;obtain⟨vs,hr,hl,ht⟩:=a5a (P:=P) h hsl hm (fun x hx=>by simp at hx;subst hx;exact hs)
  match vs,hl with
  | [r],_=>
   refine⟨r,?_,ht 0 _ r rfl rfl⟩
   simp only[map_eq_pure_bind,Sem.run_bind,hr,Result.andThen_ok,Sem.run_pure];rfl
 ·rename_i xs hne hm;simp only[Option.some.injEq,Prod.mk.injEq] at he;obtain⟨rfl,rfl⟩:=he;obtain⟨vs,hr,hl,ht⟩:=a5a (P:=P) h hsl hm (q9 hs);refine⟨.tuple vs.toArray,?_,?_⟩
  ·simp only[map_eq_pure_bind,Sem.run_bind,hr,Result.andThen_ok,Sem.run_pure];have:¬vs.toArray.size=1:=by
    simp only[List.size_toArray,hl];intro h1
    match xs,h1 with
    | [x],_=>exact hne x rfl
   rw[dif_neg this]
  ·refine .tup _ _ (by simp[hl]) fun i t x hi hx=> ?_
   simp only[List.getElem?_map,Option.map_eq_some_iff,List.getElem?_toArray] at hi hx
   obtain⟨y,hy,rfl⟩:=hi;exact ht i y x hy hx
 ·cases he

theorem a1c{p:Option Prop}{q:Prop}(h:a6h p q):p.getD True/\q:=by
 cases p with
 |none=>exact⟨trivial,h⟩
 |some p=>exact h

theorem b5V{vs:Array Value}{args:List T}{nt:Nat}(hL:∀k,¬E.L k/\∀v,¬E.L2 k v)(hN:∀b,E.N b->b<w.heap.size)(ha:RdL E w args vs)(hnt:args.length<=nt):
  RealE ⟨w,fun _=>False,E.N,nt,E,0⟩ E (a1u 0 args) [] [] {tmps:=vs++Array.replicate (nt-vs.size) undef,defers:=[]} w:=by
 have hlen:args.length=vs.size:=ha.1;refine⟨rfl,by simp;omega,⟨fun i _=> ?_,fun i hi=>absurd (fun q hq=>by cases hq) hi⟩,⟨⟨fun k ob hk=>by simp[Z4] at hk,fun k k' ob ob' b hk=>by simp[Z4] at hk,fun k hk=>absurd hk (hL k).1,fun k v hv=>absurd hv ((hL k).2 v),fun k ob v hk=>by simp[Z4] at hk⟩,
  hN,fun b hb=>.inl hb,fun k ob b hk=>by simp[Z4] at hk,⟨rfl,rfl,rfl,Nat.le_refl _,fun _ _ _=>rfl⟩,⟨fun _ h=>h,fun _ h=>absurd h (Nat.not_lt_zero _),fun _ _=>rfl,fun _ _ h=>absurd h (Nat.not_lt_zero _)⟩⟩⟩
 rw[a6R,if_pos (Nat.zero_le _),Nat.sub_zero];simp only[List.getD_eq_getElem?_getD,Array.getD_eq_getD_getElem?,Array.getElem?_append]
 by_cases hi:i<vs.size
 ·rw[if_pos hi,List.getElem?_eq_getElem (by omega),Array.getElem?_eq_getElem hi]
  exact ha.2 i _ _ (List.getElem?_eq_getElem (by omega)) (Array.getElem?_eq_getElem hi)
 ·rw[List.getElem?_eq_none (by omega)]
  exact .und _

theorem d17(hm:P.follows .mixedOrders=true)(hG:I8 P G)(hGc:∀x ∈ G,Z8 P x.1){f:FuncId}{fn:Func}{code:Code}{args:List T}{res:T}(hf:P.funcs[f]? =some fn)(hb:fn.body=some code)(hnt:args.length<=fn.ntmps)
  (h:vc P G fn.ntmps (Sub 0) code (c7l P fn.results.toList fun r=>RLe r res) ⟨a1u 0 args,[]⟩):Z1 P f args res:=by
 intro E w vs hL hN ha;have hsz:vs.size=args.length:=ha.1.symm;refine calls_of_wp hf hb (Code.wp_mono (fun e a' w' hh=> ?_) (c6a (c:=⟨w,fun _=>False,E.N,fn.ntmps,E,0⟩) hm hG hGc code _ _ _ w h ⟨E,b5V hL hN ha hnt⟩))
 obtain⟨σ',hq,E',hr⟩:=hh;have main:c7l P fn.results.toList (fun r=>RLe r res) .ret σ'->a'.defers=[]/\∃v,(results fn a'.tmps).run P w'= .ok v w'/\
   ∃v',Ending.returned v= .returned v'/\Below w.heap.size w w'/\Rd (E.addN fun b=>w.heap.size<=b/\b<w'.heap.size) w' res v':=by
  intro hq;refine⟨hr.defers,?_⟩
  simp only[c7l] at hq;split at hq
  ·rename_i r p hres;split at hq
   ·rename_i r' p' hbor;obtain⟨hp,hq⟩:=a1c hq;obtain⟨hp',hle⟩:=a1c hq;obtain⟨v,hrun,hrd⟩:=a9a (P:=P) hr.inv.heap (fun i=>hr.slots.on i (fun q hq=>by cases hq)) hres hp
    have hI:=hr.inv;refine⟨v,hrun,v,rfl,⟨hI.fr.os,hI.fr.tape,hI.fr.output,hI.fr.size,fun b hb=>hI.fr.block b hb (fun h=>h)⟩,?_⟩
    refine hle _ _ _ (Rd.mono (E:=E'.lent 0 σ'.H) (w:=w') ⟨fun b hb=> ?_,fun _ h=>absurd h.2 (Nat.not_lt_zero _),fun _ h=>absurd h.2 (Nat.not_lt_zero _),fun _ h=>absurd h.2 (Nat.not_lt_zero _),fun _ h=>absurd h.2 (Nat.not_lt_zero _),fun _ _ h=>absurd h.2 (Nat.not_lt_zero _),fun _ _ _ _ h=>absurd h.2 (Nat.not_lt_zero _),fun _ _ _ _ h=>absurd h.2 (Nat.not_lt_zero _)⟩ (fun _ _=>rfl) (E5 hI 6 hbor hp' hrd))
    rcases hb with hb|⟨k,ob,_,hk,hb⟩
    ·rcases hI.nnew b hb with h1|h1|h1
     ·exact .inl h1
     ·exact .inr ⟨h1,hI.nlt b hb⟩
     ·exact h1.elim
    ·rcases hI.bnew k ob b hk hb with h1|h1
     ·exact .inr ⟨h1,hI.heap.blt hk hb⟩
     ·exact h1.elim
   ·exact hq.elim
  ·exact hq.elim
 cases e with
 |normal=>exact main hq
 |ret=>exact main hq
 |_=>exact hq.elim

end
end Go.SS
