/- A calculus of symbolic states: a region, in whatever order: the run in the text's order, said operation by operation. -/
import Derived.Test.YtokaojbaacnngaaGreatSSD
namespace Go.SS
open Go.RowKit

structure St where
 s:W9
 ps:F9
 hist:List (Nat×Y6)

structure StepOk(P:Program)(G:K3)(nt:Nat)(all:Array Oper)(b:Nat)(H0:Y6)(i:Nat)(o:Oper)(st st':St)(y:T)(p:K8)(m:Nat):Prop where
 fresh:mB st.ps o.dst=true
 dst:a1O nt o.dst=true
 s:st'.s=zC st.s o.dst y
 paths:J1 st.ps p o.op=true
 plain:o.guard=none->p=[]/\st'.ps=st.ps
 guarded:∀j want,o.guard=some (j,want)->∃g x,(all[j]?).bind (·.dst)=some g/\u6 st.s g= .bool x/\j<i/\p=(g,want)::U4 st.ps g/\st'.ps=iP st.ps o.dst p/\stays G o.op=true/\tQ st.ps g o.dst=true
 reader:stays G o.op=true->st'.hist=st.hist/\∃G' H' side,Good P G G'/\B7 P G' st.s (hAt all H0 m st.hist) o.op=some (y,H',side)/\(N7 st.s p->side.getD True)
 writer:stays G o.op=false->qO o=none->∃G' H' side,Good P G G'/\B7 P G' st.s (F1 H0 st.hist) o.op=some (y,H',side)/\st'.hist=(i,H')::st.hist/\side.getD True
 al:∀t,qO o=some t->∃H',b5c P (F1 H0 st.hist) t (gY b all i)=some (y,H')/\st'.hist=(i,H')::st.hist

section
variable {P:Program} {G:K3} {nt:Nat} {all:Array Oper} {b:Nat} {H0:Y6} {K:W9->Y6->Prop}

theorem c1v{tab:List Nat}{j:Nat}:∀{es:List Edge},Nat.testBit (maskOf tab es) j=true->∃e ∈ es,Region.binds .any e=true/\(e.on=j∨Nat.testBit (tab.getD e.on 0) j=true):=by
 intro es;induction es with
 |nil=>intro h;simp[maskOf] at h
 |cons e es ih=>
  intro h;simp only[maskOf] at h;split at h
  ·rename_i hb;have h':Nat.testBit ((1<<<e.on|||tab.getD e.on 0)|||maskOf tab es) j=true:=h;rw[Nat.testBit_or,Nat.testBit_or,oU,oU] at h';rcases h' with(h1|h1)|h1
   ·refine⟨e,by simp,hb,.inl ?_⟩
    rw[Nat.one_shiftLeft,Nat.testBit_two_pow] at h1
    simpa using h1
   ·exact⟨e,by simp,hb,.inr h1⟩
   ·obtain⟨e',he,h2⟩:=ih h1;exact⟨e',by simp[he],h2⟩
  ·obtain⟨e',he,h2⟩:=ih h;exact⟨e',by simp[he],h2⟩

theorem l5{o:Oper}{t:TypeId}(h:qO o=some t):stays G o.op=false/\o.guard=none/\o.op= .alloc t:=by
 unfold qO at h;split at h
 ·rename_i t' h1 h2;simp only[X6] at h;subst h;rw[h1];exact⟨rfl,h2,rfl⟩
 ·cases h

theorem c7U(hG:H3 P G)(hGc:∀x ∈ G,Z7 P x.1):∀(rest:List Oper) (i:Nat) (earlier:List (Nat×Oper×RW)) (tab:List Nat) (f0:Nat->RW) (s:W9) (ps:F9) (hist:List (Nat×Y6)),rest=all.toList.drop i->i<=all.size->tab.length=i->
  (∀k o,k<i->all[k]? =some o->(k,o,f0 k) ∈ earlier)->zQ P G nt all b H0 rest i earlier tab s ps hist K->
  ∃(S:Nat->St) (y:Nat->T) (p:Nat->K8) (m:Nat->Nat) (f:Nat->RW),S i=⟨s,ps,hist⟩/\(∀k,k<i->m k=tab.getD k 0/\f k=f0 k)/\
   (∀k o,i<=k->all[k]? =some o->StepOk P G nt all b H0 k o (S k) (S (k+1)) (y k) (p k) (m k)/\eG k o=true/\(f k=uR (F1 H0 (S k).hist) (S k).s o.op/\∀k' o',k'<k->all[k']? =some o'->D2 G all (m k) k' o' (f k') o (f k)=true)/\
    (∀j,Nat.testBit (m k) j=true->∃e ∈ o.after.toList,Region.binds .any e=true/\e.on<k/\(e.on=j∨Nat.testBit (m e.on) j=true)))/\
   K (R0 (S all.size).s (S all.size).ps) (F1 H0 (S all.size).hist):=by
 intro rest;induction rest with
 |nil=>
  intro i earlier tab f0 s ps hist hrest hi htab hear h;have hsz:i=all.size:=by
   have:=congrArg List.length hrest;simp at this;omega
  subst hsz;refine⟨fun _=>⟨s,ps,hist⟩,fun _=>.und,fun _=>[],fun k=>tab.getD k 0,f0,rfl,fun k _=>⟨rfl,rfl⟩,fun k o hk ho=> ?_,h⟩
  have:=(eE.1 ho).1
  omega
 |cons o rest ih=>
  intro i earlier tab f0 s ps hist hrest hi htab hear h;have hlt:i<all.size:=by
   have:=congrArg List.length hrest;simp at this;omega
  have hdrop:all.toList.drop i=all[i]::all.toList.drop (i+1):=by
   rw[List.drop_eq_getElem_cons (by simpa using hlt)]
   simp
  rw[hdrop] at hrest;obtain⟨ho,hrest'⟩:=List.cons.inj hrest;have hoi:all[i]? =some o:=by rw[vC hlt,ho]
  unfold zQ at h;split at h
  ·exact h.elim
  rename_i hst;simp only[K5] at hst;obtain⟨hedge,hpair⟩:=hst;have hpair':∀k' o',k'<i->all[k']? =some o'->D2 G all (maskOf tab o.after.toList) k' o' (f0 k') o (uR (F1 H0 hist) s o.op)=true:=fun k' o' hk ho'=>t5.1 hpair _ (hear k' o' hk ho')
  have go:∀(st':St) (y:T) (p:K8),StepOk P G nt all b H0 i o ⟨s,ps,hist⟩ st' y p (maskOf tab o.after.toList)->
    zQ P G nt all b H0 rest (i+1) ((i,o,uR (F1 H0 hist) s o.op)::earlier) (tab++[maskOf tab o.after.toList]) st'.s st'.ps st'.hist K->∃(S:Nat->St) (y:Nat->T) (p:Nat->K8) (m:Nat->Nat) (f:Nat->RW),S i=⟨s,ps,hist⟩/\(∀k,k<i->m k=tab.getD k 0/\f k=f0 k)/\
   (∀k o,i<=k->all[k]? =some o->StepOk P G nt all b H0 k o (S k) (S (k+1)) (y k) (p k) (m k)/\eG k o=true/\(f k=uR (F1 H0 (S k).hist) (S k).s o.op/\∀k' o',k'<k->all[k']? =some o'->D2 G all (m k) k' o' (f k') o (f k)=true)/\
    (∀j,Nat.testBit (m k) j=true->∃e ∈ o.after.toList,Region.binds .any e=true/\e.on<k/\(e.on=j∨Nat.testBit (m e.on) j=true)))/\
   K (R0 (S all.size).s (S all.size).ps) (F1 H0 (S all.size).hist):=by
   intro st' y p hstep hvc;obtain⟨S,y',p',m,f,hS,hmf,hall,hK⟩:=ih (i+1) _ _ (fun k=>if k=i then uR (F1 H0 hist) s o.op else f0 k) _ _ _ hrest' hlt (by simp[htab]) (fun k o' hk ho'=>by
    by_cases hki:k=i
    ·subst hki;rw[hoi] at ho';simp only[X6] at ho';subst ho';simp
    ·rw[if_neg hki];exact List.mem_cons_of_mem _ (hear k o' (by omega) ho')) hvc
   have hm:∀k,k<i+1->m k=(tab++[maskOf tab o.after.toList]).getD k 0:=fun k hk=>(hmf k hk).1
   have hfi:f i=uR (F1 H0 hist) s o.op:=by rw[(hmf i (by omega)).2,if_pos rfl]
   have hfk:∀k,k<i->f k=f0 k:=fun k hk=>by rw[(hmf k (by omega)).2,if_neg (by omega)]
   have hmi:m i=maskOf tab o.after.toList:=by
    rw[hm i (by omega)]
    simp[C0,←htab]
   have hmk:∀k,k<i->m k=tab.getD k 0:=fun k hk=>by
    rw[hm k (by omega)]
    simp only[C0]
    rw[kE (by omega)]
   refine⟨fun k=>if k<=i then⟨s,ps,hist⟩ else S k,fun k=>if k<=i then y else y' k,fun k=>if k<=i then p else p' k,m,f,by simp,fun k hk=>⟨hmk k hk,hfk k hk⟩,fun k o' hk ho'=> ?_,?_⟩
   ·by_cases hki:k=i
    ·subst hki;rw[hoi] at ho';simp only[X6] at ho';subst ho';have e1:(if k<=k then(⟨s,ps,hist⟩:St) else S k)=⟨s,ps,hist⟩:=if_pos (V5 _)
     have e2:(if k+1<=k then(⟨s,ps,hist⟩:St) else S (k+1))=st':=by rw[if_neg (by omega),hS]
     have e3:(if k<=k then y else y' k)=y:=if_pos (V5 _)
     have e4:(if k<=k then p else p' k)=p:=if_pos (V5 _)
     simp only[e1,e2,e3,e4,hmi];refine⟨hstep,hedge,⟨hfi,fun k' o' hk' ho'=>by rw[hfi,hfk k' hk'];exact hpair' k' o' hk' ho'⟩,fun j hj=> ?_⟩
     obtain⟨e,he,hb,hor⟩:=c1v hj;have hle:e.on<k:=by
      have:=t5.1 hedge e he;simp only[hb,Bool.not_true,Bool.false_or] at this;exact vS this
     refine⟨e,he,hb,hle,?_⟩
     rcases hor with h1|h1
     ·exact .inl h1
     ·exact .inr (by rw[hmk _ hle];exact h1)
    ·have h1:=hall k o' (by omega) ho'
     have e1:(if k<=i then(⟨s,ps,hist⟩:St) else S k)=S k:=if_neg (by omega)
     have e2:(if k+1<=i then(⟨s,ps,hist⟩:St) else S (k+1))=S (k+1):=if_neg (by omega)
     have e3:(if k<=i then y else y' k)=y' k:=if_neg (by omega)
     have e4:(if k<=i then p else p' k)=p' k:=if_neg (by omega)
     simp only[e1,e2,e3,e4];exact h1
   ·have e1:(if all.size<=i then(⟨s,ps,hist⟩:St) else S all.size)=S all.size:=if_neg (by omega)
    simp only[e1];exact hK
  have hnil:∀(s:W9),N7 s []:=fun s q hq=>by cases hq
  split at h
  ·rename_i hg;split at h
   ·exact h.elim
   rename_i hchk;simp only[K5] at hchk;obtain⟨⟨hpo,hfr⟩,hdst⟩:=hchk;split at h
   ·rename_i t hal;have hsty:=(l5 (G:=G) hal).1;split at h
    ·rename_i y H' he;exact go ⟨zC s o.dst y,ps,(i,H')::hist⟩ y [] ⟨hfr,hdst,rfl,hpo,fun _=>⟨rfl,rfl⟩,fun j want hgj=>by(rw[hg] at hgj;cases hgj),fun hn=>by(rw[hsty] at hn;cases hn),fun _ hn=>by(rw[hal] at hn;cases hn),fun t' ht'=>by(rw[hal] at ht';cases ht';exact⟨H',he,rfl⟩)⟩ h
    ·exact h.elim
   ·rename_i hal;split at h
    ·rename_i hsty;obtain⟨G',hGG,h⟩:=vR hG hGc h;split at h
     ·rename_i t H' side he;obtain⟨hs,hrest⟩:=wF h;exact go ⟨zC s o.dst t,ps,hist⟩ t [] ⟨hfr,hdst,rfl,hpo,fun _=>⟨rfl,rfl⟩,fun j want hgj=>by(rw[hg] at hgj;cases hgj),fun _=>⟨rfl,G',H',side,hGG,he,fun _=>hs (hnil _)⟩,fun hn=>by(rw[hsty] at hn;cases hn),fun t' ht'=>by(rw[hal] at ht';cases ht')⟩ hrest
     ·exact h.elim
    ·rename_i hsty;obtain⟨G',hGG,h⟩:=vR hG hGc h;split at h
     ·rename_i t H' side he;obtain⟨hs,hrest⟩:=wF h;exact go ⟨zC s o.dst t,ps,(i,H')::hist⟩ t [] ⟨hfr,hdst,rfl,hpo,fun _=>⟨rfl,rfl⟩,fun j want hgj=>by(rw[hg] at hgj;cases hgj),fun hn=>by(rw[hsty] at hn;cases hn),fun _ _=>⟨G',H',side,hGG,he,rfl,hs (hnil _)⟩,fun t' ht'=>by(rw[hal] at ht';cases ht')⟩ hrest
     ·exact h.elim
  ·rename_i j want hg;split at h
   ·rename_i g hgd;split at h
    ·rename_i x hx;split at h
     ·exact h.elim
     rename_i hchk;simp only[K5] at hchk;obtain⟨⟨⟨⟨⟨hji,hpo⟩,hfr⟩,hdst⟩,hsty⟩,hgk⟩:=hchk;obtain⟨G',hGG,h⟩:=vR hG hGc h;split at h
     ·rename_i t H' side he;obtain⟨hs,hrest⟩:=wF h;exact go ⟨zC s o.dst t,iP ps o.dst ((g,want)::U4 ps g),hist⟩ t ((g,want)::U4 ps g) ⟨hfr,hdst,rfl,hpo,fun hn=>by(rw[hg] at hn;cases hn),
       fun j' want' hgj=>by
        rw[hg] at hgj;simp only[X6,V1] at hgj;obtain⟨rfl,rfl⟩:=hgj;exact⟨g,x,hgd,hx,vS hji,rfl,rfl,hsty,hgk⟩,
       fun _=>⟨rfl,G',H',side,hGG,he,hs⟩,fun hn=>by(rw[hsty] at hn;cases hn),fun t' ht'=>by(rw[(l5 (G:=G) ht').2.1] at hg;cases hg)⟩ hrest
     ·exact h.elim
    ·exact h.elim
   ·exact h.elim

end
end Go.SS
