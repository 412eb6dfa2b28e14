/- A calculus of symbolic states: a region, in whatever order: the whole. -/
import Derived.Test.YtghgljelnhfihaaGreatSSG
namespace Go.SS
open Go.RowKit

def jA(n:Nat)(listed:Array Bool):List Nat:=(List.range n).filter λk=> !listed.getD k false

theorem a9r{n i:Nat}{listed:Array Bool}(hi:i<n)(hs:listed.size=n)(h:listed.getD i false=false):(jA n (listed.setIfInBounds i true)).length<(jA n listed).length:=by
 have hsub:∀k,(!(listed.setIfInBounds i true).getD k false)=true->(!listed.getD k false)=true:=by
  intro k hk;by_cases hki:i=k
  ·subst hki;simp[h]
  ·rwa [getD_set_ne false hki] at hk
 have key:∀l:List Nat,(l.filter λk=> !(listed.setIfInBounds i true).getD k false).length<=(l.filter λk=> !listed.getD k false).length/\(i ∈ l->(l.filter λk=> !(listed.setIfInBounds i true).getD k false).length<(l.filter λk=> !listed.getD k false).length):=by
  intro l;induction l with
  |nil=>exact⟨W4 _,λh=>by cases h⟩
  |cons x l ih=>
   obtain⟨h1,h2⟩:=ih;simp only[List.filter_cons];by_cases hxi:x=i
   ·subst hxi;have e1:(!(listed.setIfInBounds x true).getD x false)=false:=by simp[hs,hi]
    rw[e1,h];simp only[Bool.false_eq_true,if_false,Bool.not_false,if_true,List.length_cons];exact⟨by omega,λ_=>by omega⟩
   ·rw[getD_set_ne false (Ne.symm hxi)];split
    ·simp only[List.length_cons];exact⟨by omega,λhm=>by have:=h2 ((wY.1 hm).resolve_left (Ne.symm hxi));omega⟩
    ·exact⟨h1,λhm=>h2 ((wY.1 hm).resolve_left (Ne.symm hxi))⟩
 exact(key _).2 (List.mem_range.2 hi)

section
variable {c:Ctx} {P:Program} {G:I2} {all:Array Oper} {b:Nat} {H0:Y1} {s0:V5} {S:Nat->St} {y:Nat->T} {p:Nat->G8} {m:Nat->Nat}

theorem RD.congr{D D':Nat->Prop}(h:∀k,k<all.size->(D k↔D' k)){a:Act}{w:World}(hr:RD c G all b H0 s0 S y p D a w):RD c G all b H0 s0 S y p D' a w:=by
 obtain⟨h1,h2,E,e,H,h3,hA,hB,hR,hN,h5,hL,hS,h6⟩:=hr;have lt:∀{j:Nat} {o:Oper},all[j]? =some o->j<all.size:=λhj=>(j_p.1 hj).1
 have ltm:∀{x:Nat},jR G all x->x<all.size:=λhx=>by obtain⟨o,ho,_⟩:=hx;exact lt ho
 have lta:∀{x:Nat},F0 (G6 G) all x=true->x<all.size:=λhx=>by obtain⟨o,ho,_⟩:=D9 hx;exact lt ho
 exact⟨h1,h2,E,e,H,h3,λx hx hlt=>(h x (ltm hx)).1 (hA x hx hlt),λx hx hd=>hB x hx ((h x (ltm hx)).2 hd),
  ⟨hR.1,λx hx ha hd=>hR.2.1 x hx ha ((h x (lta ha)).2 hd),λk hk=>hR.2.2 k λx hx ha hd=>hk x hx ha ((h x (lta ha)).1 hd)⟩,hN,h5,λx ha hnd=>hL x ha λhd=>hnd ((h x (lta ha)).1 hd),hS,
  λu=>⟨λj o hj hd hDj=>(h6 u).1 j o hj hd ((h j (lt hj)).2 hDj),λhno=>(h6 u).2 λj o hj hd hDj=>hno j o hj hd ((h j (lt hj)).1 hDj)⟩⟩

theorem b99(t:Trace P G c.nt all b H0 s0 S y p m)(hG:D0 P G)(hGc:∀x ∈ G,P4 P x.1){Q:Exit->Act->World->Prop}(hQ:∀a' w',RD c G all b H0 s0 S y p (λ_=>True) a' w'->Q .normal a' w'):
  ∀(fuel:Nat) (listed:Array Bool) (a:Act) (w:World),listed.size=all.size->(jA all.size listed).length<=fuel->Cl all (λk=>listed.getD k false=true)->RD c G all b H0 s0 S y p (λk=>listed.getD k false=true) a w->
   wpAny P .any all Q fuel listed a w:=by
 have fin:∀(listed:Array Bool) (a:Act) (w:World),listed.size=all.size->Cl all (λk=>listed.getD k false=true)->RD c G all b H0 s0 S y p (λk=>listed.getD k false=true) a w->Region.ready .any all listed=[]->Q .normal a w:=by
  intro listed a w hs hcl hr hnil;refine hQ a w (hr.congr λk hk=>⟨λ_=>trivial,λ_=> ?_⟩)
  induction k using Nat.strongRecOn with
  |_ k ih=>
   cases hb:listed.getD k false with
   |true=>rfl
   |false=>
    have ho:=rL hk
    have hmem:k ∈ Region.ready .any all listed:=by
     refine mem_ready.2 ⟨?_,_,ho,λe he hbd=> ?_⟩
     ·have hlt:k<listed.size:=by omega
      simp only[Array.getD_eq_getD_getElem?,rL hlt,Option.getD_some] at hb ⊢
      exact hb
     ·have hlt:=t.edge k _ ho e (by simpa using he) hbd
      exact ih e.on hlt (by omega)
    rw[hnil] at hmem;cases hmem
 intro fuel;induction fuel with
 |zero=>
  intro listed a w hs hu hcl hr;have hnil:Region.ready .any all listed=[]:=by
   cases hl:Region.ready .any all listed with
   |nil=>rfl
   |cons x xs=>
    have hx:x ∈ Region.ready .any all listed:=by rw[hl];simp
    obtain⟨h0,o,ho,_⟩:=mem_ready.1 hx;have hlt:x<all.size:=(j_p.1 ho).1
    have hmem:x ∈ jA all.size listed:=by
     unfold jA;rw[List.mem_filter,List.mem_range];refine⟨hlt,?_⟩
     have hlt':x<listed.size:=by omega
     simp only[Array.getD_eq_getD_getElem?,rL hlt',Option.getD_some] at h0 ⊢
     simp[h0]
    have:=List.length_pos_of_mem hmem;omega
  exact⟨hnil,fin listed a w hs hcl hr hnil⟩
 |succ fuel ih=>
  intro listed a w hs hu hcl hr;refine⟨fin listed a w hs hcl hr,λi hi=> ?_⟩
  obtain⟨h0,o,ho,hpre⟩:=mem_ready.1 hi;have hlt:i<all.size:=(j_p.1 ho).1
  have hni:listed.getD i false=false:=by
   have hlt':i<listed.size:=by omega
   simp only[Array.getD_eq_getD_getElem?,rL hlt',Option.getD_some] at h0 ⊢
   exact h0
  refine b5s t hG hGc hcl ho (by rw[hni];simp) (λe he hb=>hpre e (by simpa using he) hb) hr λa' w' hr'=> ?_
  have hset:∀k,(listed.setIfInBounds i true).getD k false=true↔(listed.getD k false=true∨k=i):=by
   intro k;by_cases hki:i=k
   ·subst hki;simp[hs,hlt]
   ·rw[getD_set_ne false hki];exact⟨.inl,λh=>h.resolve_right (Ne.symm hki)⟩
  refine ih _ a' w' (by simp[hs]) (by have:=a9r hlt hs hni;omega) (λj oj hDj hj e he hb=> ?_) (hr'.congr λk _=>(hset k).symm)
  refine(hset e.on).2 ?_
  rcases(hset j).1 hDj with h|rfl
  ·exact .inl (hcl j oj h hj e he hb)
  ·rw[ho] at hj;simp only[W8] at hj;subst hj;exact .inl (hpre e (by simpa using he) hb)

theorem b3N{E:Env}{H:Y1}{w:World}(h:Inv c E H w):Inv c E H {w with drawn:=w.drawn+1}:=by
 have hs:Step E w E {w with drawn:=w.drawn+1}:=⟨Env.le.refl E,λ_ _=>rfl,λ_ h=>.inl h⟩
 exact⟨⟨λk ob hk=>⟨(h.heap.live k ob hk).1,(h.heap.live k ob hk).2.1.mono (h.heap.live k ob hk).1 hs (λ_ _=>rfl),(h.heap.live k ob hk).2.2⟩,h.heap.inj,h.heap.lt,h.heap.l2,h.heap.cur⟩,h.nlt,h.nnew,h.bnew,⟨h.fr.os,h.fr.tape,h.fr.output,h.fr.size,h.fr.block⟩,h.keep.step hs⟩

theorem b52{E:Env}{H:Y1}{w:World}(h:Inv c E H w)(n:Nat):Inv c E (H++List.replicate n none) w:=by
 have hg:∀k ob,Z0 (H++List.replicate n none) k=some ob->Z0 H k=some ob:=λk ob hk=>by
  unfold Z0 at hk ⊢;by_cases hlt:k<H.length
  ·rwa [tX hlt] at hk
  ·rw[rK (by omega),List.getElem?_replicate] at hk
   split at hk<;>simp at hk
 exact⟨⟨λk ob hk=>h.heap.live k ob (hg k ob hk),λk k' o o' x hk hk'=>h.heap.inj k k' o o' x (hg k o hk) (hg k' o' hk'),λk hk=>by have:=h.heap.lt k hk;simp;omega,h.heap.l2,λk ob v hk=>h.heap.cur k ob v (hg k ob hk)⟩,h.nlt,h.nnew,λk ob x hk=>h.bnew k ob x (hg k ob hk),h.fr,h.keep⟩

theorem eO{all:Array Oper}{x:Nat}(h:yX (G6 G) all.toList=0):F0 (G6 G) all x=false:=by
 cases ha:F0 (G6 G) all x with
 |false=>rfl
 |true=>
  obtain⟨o,ho,_⟩:=D9 ha;have:=mT ha (j_p.1 ho).1
  rw[show all.size=all.toList.length by simp,nJ] at this
  omega

theorem b4A{all:Array Oper}{E:Env}{H:Y1}{w:World}(h:Inv c E H w):
  ∃E1,Inv c E1 (iB H (yX (G6 G) all.toList)) w/\Stp E w E1 w/\(∀x,F0 (G6 G) all x=true->¬E1.L (oS (G6 G) H.length all x))/\∀x,F0 (G6 G) all x=true->∃j,E1.L j/\oS (G6 G) H.length all x<j:=by
 cases hn:yX (G6 G) all.toList with
 |zero=>exact⟨E,h,(Step.refl E w).stp,λx ha=>by(rw[eO hn] at ha;cases ha),λx ha=>by(rw[eO hn] at ha;cases ha)⟩
 |succ n=>
  obtain⟨g1,g2⟩:=a60 (b52 h (n+1)) 0 1;have hlen:(H++List.replicate (n+1) (none:Option Ob)).length=H.length+(n+1):=by simp
  have hpl:∀x,F0 (G6 G) all x=true->oS (G6 G) H.length all x<H.length+(n+1):=λx ha=>by
   obtain⟨o,ho,_⟩:=D9 ha;have:=mT ha (j_p.1 ho).1
   rw[show all.size=all.toList.length by simp,nJ,hn] at this
   unfold oS;omega
  refine⟨_,g1,g2.stp,λx ha hL=> ?_,λx ha=>⟨H.length+(n+1),.inr hlen.symm,hpl x ha⟩⟩
  have:=hpl x ha;rcases hL with hL|hL
  ·have:=h.heap.lt _ hL;unfold oS at this;omega
  ·rw[hlen] at hL;omega

theorem b2i(hm:P.follows .mixedOrders=true)(hG:D0 P G)(hGc:∀x ∈ G,P4 P x.1){id:Nat}{K:V5->Y1->Prop}{Q:Exit->Act->World->Prop}{s:V5}{H:Y1}(hK:∀s' H' a' w',K s' H'->hZ c s' H' a' w'->Q .normal a' w')
  {E:Env} {a:Act} {w:World} (h:xG P G c.nt all H.length (iB H (yX (G6 G) all.toList)) all.toList 0 [] [] s [] [] K) (hr:RealE c E s [] H a w):(Code.region id all true).wp P Q a w:=by
 obtain⟨S,y,p,m,f,hS,_,hstep,hk⟩:=c0O hG hGc all.toList 0 [] [] (λ_=>(none,none)) s [] [] rfl (S7 _) rfl (λk o hk=>by omega) h
 have t:Trace P G c.nt all H.length (iB H (yX (G6 G) all.toList)) s S y p m:={
  start:=hS
  step:=λk o ho=>(hstep k o (S7 _) ho).1
  edge:=λk o ho e he hb=>by
   have:=i5.1 (hstep k o (S7 _) ho).2.1 e he;simp only[hb,Bool.not_true,Bool.false_or] at this;exact v6 this
  pair:=λk o k' o' ho ho' hlt=>by
   have h1:=(hstep k o (S7 _) ho).2.2.1;have h2:=(hstep k' o' (S7 _) ho').2.2.1;have:=h1.2 k' o' hlt ho';rw[h1.1,h2.1] at this;exact this
  mask:=λk o j ho hb=>(hstep k o (S7 _) ho).2.2.2 j hb}
 have hr':=hr.inv;refine wp_region_any hm (b99 t hG hGc (λa' w' hrd=> ?_) all.size _ a _ (by simp) (Nat.le_trans (List.length_filter_le _ _) (by simp)) (λj o hD=> ?_) ?_)
 ·obtain⟨h1,h2,E',e,Hx,he,hA,hB,hR,_,hI,_,_,hsl⟩:=hrd;have hR':=a0w t he (W4 _) (λx q1 q2 hx=>⟨trivial,hB x hx trivial q1⟩) hR
  have hH:Hx=HH (iB H (yX (G6 G) all.toList)) S all.size:=a2T hR'.1 λk=>hR'.2.2 k λx hx ha _=>by
   obtain⟨o,ho,_⟩:=D9 ha;have:=(j_p.1 ho).1
   omega
  refine hK _ _ a' w' hk ⟨E',h1,h2,⟨λu _=> ?_,λu hu=>absurd (λq hq=>by cases hq) hu⟩,by rw[hH] at hI;exact hI⟩
  rcases a1H (S all.size).s (S all.size).ps u with he'|⟨he',hp⟩
  ·rw[he'];exact .und _
  ·rw[he'];rcases kE all u all.size with⟨j,o,hj,ho,hd⟩|hno
   ·obtain⟨e1,e2⟩:=t.slot_some ho hd all.size hj (W4 _);rw[e1];rw[e2] at hp;exact((hsl u).1 j o ho hd trivial).1 (by rw[hp];exact λz hz=>by cases hz)
   ·rw[(t.slot_none u all.size (W4 _) hno).1];exact(hsl u).2 λj o ho hd _=>hno j o (j_p.1 ho).1 ho hd
 ·simp only[Array.getD_eq_getD_getElem?,Array.getElem?_replicate] at hD
  split at hD<;>simp at hD
 ·have hnd:∀k,¬ (Array.replicate all.size false).getD k false=true:=by
   intro k hD;simp only[Array.getD_eq_getD_getElem?,Array.getElem?_replicate] at hD
   split at hD<;>simp at hD
  obtain⟨E1,g1,g2,g3,g4⟩:=b4A (G:=G) (all:=all) hr.inv;have hH0:HH (iB H (yX (G6 G) all.toList)) S 0=iB H (yX (G6 G) all.toList):=by simp[HH,hS,C6]
  refine⟨hr.defers,hr.size,E1,0,iB H (yX (G6 G) all.toList),S7 _,λx _ hlt=>by omega,λx _ hD=>absurd hD (hnd x),⟨by rw[hH0],λx _ _ hD=>absurd hD (hnd x),λk _=>by rw[hH0]⟩,λx _ ha=> ?_,b3N g1,λx ha _=>g3 x ha,g4,λu=>⟨λj o _ _ hD=>absurd hD (hnd j),λ_=> ?_⟩⟩
  ·rw[hH0];cases hk:Z0 (iB H (yX (G6 G) all.toList)) (oS (G6 G) H.length all x) with
   |none=>rfl
   |some ob=>exact absurd (g1.heap.live _ ob hk).1 (g3 x ha)
  ·exact Rd.mono (w:=w) (w':={w with drawn:=w.drawn+1}) g2.le (λ_ _=>rfl) (hr.slots.on u (λq hq=>by cases hq))

end
end Go.SS
