/- A calculus of symbolic states: a region, in whatever order: the whole. -/
import Derived.Test.YtokaojbaacnngaaGreatSSG
namespace Go.SS
open Go.RowKit

def kN(n:Nat)(listed:Array Bool):List Nat:=(List.range n).filter fun k=> !listed.getD k false

theorem b3r{n i:Nat}{listed:Array Bool}(hi:i<n)(hs:listed.size=n)(h:listed.getD i false=false):(kN n (listed.setIfInBounds i true)).length<(kN n listed).length:=by
 have hsub:∀k,(!(listed.setIfInBounds i true).getD k false)=true->(!listed.getD k false)=true:=by
  intro k hk;by_cases hki:i=k
  ·subst hki;simp[h]
  ·rwa [getD_set_ne false hki] at hk
 have key:∀l:List Nat,(l.filter fun k=> !(listed.setIfInBounds i true).getD k false).length<=(l.filter fun k=> !listed.getD k false).length/\(i ∈ l->(l.filter fun k=> !(listed.setIfInBounds i true).getD k false).length<(l.filter fun k=> !listed.getD k false).length):=by
  intro l;induction l with
  |nil=>exact⟨V5 _,fun h=>by cases h⟩
  |cons x l ih=>
   obtain⟨h1,h2⟩:=ih;simp only[List.filter_cons];by_cases hxi:x=i
   ·subst hxi;have e1:(!(listed.setIfInBounds x true).getD x false)=false:=by simp[hs,hi]
    rw[e1,h];simp only[Bool.false_eq_true,if_false,Bool.not_false,if_true,List.length_cons];exact⟨by omega,fun _=>by omega⟩
   ·rw[getD_set_ne false (Ne.symm hxi)];split
    ·simp only[List.length_cons];exact⟨by omega,fun hm=>by have:=h2 ((zJ.1 hm).resolve_left (Ne.symm hxi));omega⟩
    ·exact⟨h1,fun hm=>h2 ((zJ.1 hm).resolve_left (Ne.symm hxi))⟩
 exact(key _).2 (List.mem_range.2 hi)

section
variable {c:Ctx} {P:Program} {G:K3} {all:Array Oper} {b:Nat} {H0:Y6} {s0:W9} {S:Nat->St} {y:Nat->T} {p:Nat->K8} {m:Nat->Nat}

theorem RD.congr{D D':Nat->Prop}(h:∀k,k<all.size->(D k↔D' k)){a:Act}{w:World}(hr:RD c G all b H0 s0 S y p D a w):RD c G all b H0 s0 S y p D' a w:=by
 obtain⟨h1,h2,E,e,H,h3,hA,hB,hR,h5,hL,hS,h6⟩:=hr;have lt:∀{j:Nat} {o:Oper},all[j]? =some o->j<all.size:=fun hj=>(eE.1 hj).1
 have ltm:∀{x:Nat},kG G all x->x<all.size:=fun hx=>by obtain⟨o,ho,_⟩:=hx;exact lt ho
 have lta:∀{x:Nat},E9 all x=true->x<all.size:=fun hx=>by obtain⟨o,t,ho,_⟩:=I3 hx;exact lt ho
 exact⟨h1,h2,E,e,H,h3,fun x hx hlt=>(h x (ltm hx)).1 (hA x hx hlt),fun x hx hd=>hB x hx ((h x (ltm hx)).2 hd),
  ⟨hR.1,fun x hx ha hd=>hR.2.1 x hx ha ((h x (lta ha)).2 hd),fun k hk=>hR.2.2 k fun x hx ha hd=>hk x hx ha ((h x (lta ha)).1 hd)⟩,h5,fun x ha hnd=>hL x ha fun hd=>hnd ((h x (lta ha)).1 hd),hS,
  fun u=>⟨fun j o hj hd hDj=>(h6 u).1 j o hj hd ((h j (lt hj)).2 hDj),fun hno=>(h6 u).2 fun j o hj hd hDj=>hno j o hj hd ((h j (lt hj)).1 hDj)⟩⟩

theorem c5z(t:Trace P G c.nt all b H0 s0 S y p m)(hG:H3 P G)(hGc:∀x ∈ G,Z7 P x.1){Q:Exit->Act->World->Prop}(hQ:∀a' w',RD c G all b H0 s0 S y p (fun _=>True) a' w'->Q .normal a' w'):
  ∀(fuel:Nat) (listed:Array Bool) (a:Act) (w:World),listed.size=all.size->(kN all.size listed).length<=fuel->Cl all (fun k=>listed.getD k false=true)->RD c G all b H0 s0 S y p (fun k=>listed.getD k false=true) a w->
   wpAny P .any all Q fuel listed a w:=by
 have fin:∀(listed:Array Bool) (a:Act) (w:World),listed.size=all.size->Cl all (fun k=>listed.getD k false=true)->RD c G all b H0 s0 S y p (fun k=>listed.getD k false=true) a w->Region.ready .any all listed=[]->Q .normal a w:=by
  intro listed a w hs hcl hr hnil;refine hQ a w (hr.congr fun k hk=>⟨fun _=>trivial,fun _=> ?_⟩)
  induction k using Nat.strongRecOn with
  |_ k ih=>
   cases hb:listed.getD k false with
   |true=>rfl
   |false=>
    have ho:=vC hk
    have hmem:k ∈ Region.ready .any all listed:=by
     refine mem_ready.2 ⟨?_,_,ho,fun e he hbd=> ?_⟩
     ·have hlt:k<listed.size:=by omega
      simp only[Array.getD_eq_getD_getElem?,vC hlt,Option.getD_some] at hb ⊢
      exact hb
     ·have hlt:=t.edge k _ ho e (by simpa using he) hbd
      exact ih e.on hlt (by omega)
    rw[hnil] at hmem;cases hmem
 intro fuel;induction fuel with
 |zero=>
  intro listed a w hs hu hcl hr;have hnil:Region.ready .any all listed=[]:=by
   cases hl:Region.ready .any all listed with
   |nil=>rfl
   |cons x xs=>
    have hx:x ∈ Region.ready .any all listed:=by rw[hl];simp
    obtain⟨h0,o,ho,_⟩:=mem_ready.1 hx;have hlt:x<all.size:=(eE.1 ho).1
    have hmem:x ∈ kN all.size listed:=by
     unfold kN;rw[List.mem_filter,List.mem_range];refine⟨hlt,?_⟩
     have hlt':x<listed.size:=by omega
     simp only[Array.getD_eq_getD_getElem?,vC hlt',Option.getD_some] at h0 ⊢
     simp[h0]
    have:=List.length_pos_of_mem hmem;omega
  exact⟨hnil,fin listed a w hs hcl hr hnil⟩
 |succ fuel ih=>
  intro listed a w hs hu hcl hr;refine⟨fin listed a w hs hcl hr,fun i hi=> ?_⟩
  obtain⟨h0,o,ho,hpre⟩:=mem_ready.1 hi;have hlt:i<all.size:=(eE.1 ho).1
  have hni:listed.getD i false=false:=by
   have hlt':i<listed.size:=by omega
   simp only[Array.getD_eq_getD_getElem?,vC hlt',Option.getD_some] at h0 ⊢
   exact h0
  refine c3q t hG hGc hcl ho (by rw[hni];simp) (fun e he hb=>hpre e (by simpa using he) hb) hr fun a' w' hr'=> ?_
  have hset:∀k,(listed.setIfInBounds i true).getD k false=true↔(listed.getD k false=true∨k=i):=by
   intro k;by_cases hki:i=k
   ·subst hki;simp[hs,hlt]
   ·rw[getD_set_ne false hki];exact⟨.inl,fun h=>h.resolve_right (Ne.symm hki)⟩
  refine ih _ a' w' (by simp[hs]) (by have:=b3r hlt hs hni;omega) (fun j oj hDj hj e he hb=> ?_) (hr'.congr fun k _=>(hset k).symm)
  refine(hset e.on).2 ?_
  rcases(hset j).1 hDj with h|rfl
  ·exact .inl (hcl j oj h hj e he hb)
  ·rw[ho] at hj;simp only[X6] at hj;subst hj;exact .inl (hpre e (by simpa using he) hb)

theorem b5W{E:Env}{H:Y6}{w:World}(h:Inv c E H w):Inv c E H {w with drawn:=w.drawn+1}:=by
 have hs:Step E w E {w with drawn:=w.drawn+1}:=⟨Env.le.refl E,fun _ _=>rfl,fun _ h=>.inl h⟩
 exact⟨⟨fun k ob hk=>⟨(h.heap.live k ob hk).1,(h.heap.live k ob hk).2.1.mono (h.heap.live k ob hk).1 hs (fun _ _=>rfl),(h.heap.live k ob hk).2.2⟩,h.heap.inj,h.heap.lt,h.heap.l2,h.heap.cur⟩,h.nlt,h.nnew,h.bnew,⟨h.fr.os,h.fr.tape,h.fr.output,h.fr.size,h.fr.block⟩,h.keep.step hs⟩

theorem c3s{E:Env}{H:Y6}{w:World}(h:Inv c E H w)(n:Nat):Inv c E (H++List.replicate n none) w:=by
 have hg:∀k ob,Z4 (H++List.replicate n none) k=some ob->Z4 H k=some ob:=fun k ob hk=>by
  unfold Z4 at hk ⊢;by_cases hlt:k<H.length
  ·rwa [kE hlt] at hk
  ·rw[eT (by omega),List.getElem?_replicate] at hk
   split at hk<;>simp at hk
 exact⟨⟨fun k ob hk=>h.heap.live k ob (hg k ob hk),fun k k' o o' x hk hk'=>h.heap.inj k k' o o' x (hg k o hk) (hg k' o' hk'),fun k hk=>by have:=h.heap.lt k hk;simp;omega,h.heap.l2,fun k ob v hk=>h.heap.cur k ob v (hg k ob hk)⟩,h.nlt,h.nnew,fun k ob x hk=>h.bnew k ob x (hg k ob hk),h.fr,h.keep⟩

theorem fA{all:Array Oper}{x:Nat}(h:i8 all.toList=0):E9 all x=false:=by
 cases ha:E9 all x with
 |false=>rfl
 |true=>
  obtain⟨o,t,ho,_⟩:=I3 ha;have:=oI ha (eE.1 ho).1
  rw[show all.size=all.toList.length by simp,nQ] at this
  omega

theorem c4e{all:Array Oper}{E:Env}{H:Y6}{w:World}(h:Inv c E H w):
  ∃E1,Inv c E1 (bF H (i8 all.toList)) w/\Stp E w E1 w/\(∀x,E9 all x=true->¬E1.L (gY H.length all x))/\∀x,E9 all x=true->∃j,E1.L j/\gY H.length all x<j:=by
 cases hn:i8 all.toList with
 |zero=>exact⟨E,h,(Step.refl E w).stp,fun x ha=>by(rw[fA hn] at ha;cases ha),fun x ha=>by(rw[fA hn] at ha;cases ha)⟩
 |succ n=>
  obtain⟨g1,g2⟩:=a90 (c3s h (n+1)) 0 1;have hlen:(H++List.replicate (n+1) (none:Option Ob)).length=H.length+(n+1):=by simp
  have hpl:∀x,E9 all x=true->gY H.length all x<H.length+(n+1):=fun x ha=>by
   obtain⟨o,t,ho,_⟩:=I3 ha;have:=oI ha (eE.1 ho).1
   rw[show all.size=all.toList.length by simp,nQ,hn] at this
   unfold gY;omega
  refine⟨_,g1,g2.stp,fun x ha hL=> ?_,fun x ha=>⟨H.length+(n+1),.inr hlen.symm,hpl x ha⟩⟩
  have:=hpl x ha;rcases hL with hL|hL
  ·have:=h.heap.lt _ hL;unfold gY at this;omega
  ·rw[hlen] at hL;omega

theorem b8S(hm:P.follows .mixedOrders=true)(hG:H3 P G)(hGc:∀x ∈ G,Z7 P x.1){id:Nat}{K:W9->Y6->Prop}{Q:Exit->Act->World->Prop}{s:W9}{H:Y6}(hK:∀s' H' a' w',K s' H'->hJ c s' H' a' w'->Q .normal a' w')
  {E:Env} {a:Act} {w:World} (h:zQ P G c.nt all H.length (bF H (i8 all.toList)) all.toList 0 [] [] s [] [] K) (hr:RealE c E s [] H a w):(Code.region id all true).wp P Q a w:=by
 obtain⟨S,y,p,m,f,hS,_,hstep,hk⟩:=c7U hG hGc all.toList 0 [] [] (fun _=>(none,none)) s [] [] rfl (T0 _) rfl (fun k o hk=>by omega) h
 have t:Trace P G c.nt all H.length (bF H (i8 all.toList)) s S y p m:={
  start:=hS
  step:=fun k o ho=>(hstep k o (T0 _) ho).1
  edge:=fun k o ho e he hb=>by
   have:=t5.1 (hstep k o (T0 _) ho).2.1 e he;simp only[hb,Bool.not_true,Bool.false_or] at this;exact vS this
  pair:=fun k o k' o' ho ho' hlt=>by
   have h1:=(hstep k o (T0 _) ho).2.2.1;have h2:=(hstep k' o' (T0 _) ho').2.2.1;have:=h1.2 k' o' hlt ho';rw[h1.1,h2.1] at this;exact this
  mask:=fun k o j ho hb=>(hstep k o (T0 _) ho).2.2.2 j hb}
 have hr':=hr.inv;refine wp_region_any hm (c5z t hG hGc (fun a' w' hrd=> ?_) all.size _ a _ (by simp) (Nat.le_trans (List.length_filter_le _ _) (by simp)) (fun j o hD=> ?_) ?_)
 ·obtain⟨h1,h2,E',e,Hx,he,hA,hB,hR,hI,_,_,hsl⟩:=hrd;have hR':=bW t he (V5 _) (fun x q1 q2 hx=>⟨trivial,hB x hx trivial q1⟩) hR
  have hH:Hx=HH (bF H (i8 all.toList)) S all.size:=a1c hR'.1 fun k=>hR'.2.2 k fun x hx ha _=>by
   obtain⟨o,t0,ho,_⟩:=I3 ha;have:=(eE.1 ho).1
   omega
  refine hK _ _ a' w' hk ⟨E',h1,h2,⟨fun u _=> ?_,fun u hu=>absurd (fun q hq=>by cases hq) hu⟩,by rw[hH] at hI;exact hI⟩
  rcases a1w (S all.size).s (S all.size).ps u with he'|⟨he',hp⟩
  ·rw[he'];exact .und _
  ·rw[he'];rcases oA all u all.size with⟨j,o,hj,ho,hd⟩|hno
   ·obtain⟨e1,e2⟩:=t.slot_some ho hd all.size hj (V5 _);rw[e1];rw[e2] at hp;exact((hsl u).1 j o ho hd trivial).1 (by rw[hp];exact fun z hz=>by cases hz)
   ·rw[(t.slot_none u all.size (V5 _) hno).1];exact(hsl u).2 fun j o ho hd _=>hno j o (eE.1 ho).1 ho hd
 ·simp only[Array.getD_eq_getD_getElem?,Array.getElem?_replicate] at hD
  split at hD<;>simp at hD
 ·have hnd:∀k,¬ (Array.replicate all.size false).getD k false=true:=by
   intro k hD;simp only[Array.getD_eq_getD_getElem?,Array.getElem?_replicate] at hD
   split at hD<;>simp at hD
  obtain⟨E1,g1,g2,g3,g4⟩:=c4e (all:=all) hr.inv;have hH0:HH (bF H (i8 all.toList)) S 0=bF H (i8 all.toList):=by simp[HH,hS,F1]
  refine⟨hr.defers,hr.size,E1,0,bF H (i8 all.toList),T0 _,fun x _ hlt=>by omega,fun x _ hD=>absurd hD (hnd x),⟨by rw[hH0],fun x _ _ hD=>absurd hD (hnd x),fun k _=>by rw[hH0]⟩,b5W g1,fun x ha _=>g3 x ha,g4,fun u=>⟨fun j o _ _ hD=>absurd hD (hnd j),fun _=> ?_⟩⟩
  exact Rd.mono (w:=w) (w':={w with drawn:=w.drawn+1}) g2.le (fun _ _=>rfl) (hr.slots.on u (fun q hq=>by cases hq))

end
end Go.SS
