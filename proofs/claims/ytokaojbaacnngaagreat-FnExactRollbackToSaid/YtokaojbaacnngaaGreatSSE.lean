/- A calculus of symbolic states: a region, in whatever order: the run in the text's order, said operation by operation. -/
import Derived.Test.YtokaojbaacnngaaGreatSSD
namespace Go.SS
open Go.RowKit

structure St where
 s:V9
 ps:E7
 hist:List (Nat×Y3)

structure StepOk(P:Program)(G:I4)(nt:Nat)(all:Array Oper)(b:Nat)(H0:Y3)(i:Nat)(o:Oper)(st st':St)(y:T)(p:J2)(m:Nat):Prop where
 fresh:mX st.ps o.dst=true
 dst:a0n nt o.dst=true
 s:st'.s=xT st.s o.dst y
 paths:H6 st.ps p o.op=true
 plain:o.guard=none->p=[]/\st'.ps=st.ps
 guarded:∀j want,o.guard=some (j,want)->∃g x,(all[j]?).bind (·.dst)=some g/\q8 st.s g= .bool x/\j<i/\p=(g,want)::T6 st.ps g/\st'.ps=kG st.ps o.dst p/\stays G o.op=true/\rG st.ps g o.dst=true
 reader:stays G o.op=true->st'.hist=st.hist/\∃G' H' side,Good P G G'/\z6 P G' st.s (hAt all H0 m st.hist) o.op=some (y,H',side)/\(L8 st.s p->side.getD True)
 writer:stays G o.op=false->qH o=none->∃G' H' side,Good P G G'/\z6 P G' st.s (D6 H0 st.hist) o.op=some (y,H',side)/\st'.hist=(i,H')::st.hist/\side.getD True
 al:∀t,qH o=some t->∃H',b17 P (D6 H0 st.hist) t (kR b all i)=some (y,H')/\st'.hist=(i,H')::st.hist

section
variable {P:Program} {G:I4} {nt:Nat} {all:Array Oper} {b:Nat} {H0:Y3} {K:V9->Y3->Prop}

theorem b5D{tab:List Nat}{j:Nat}:∀{es:List Edge},Nat.testBit (maskOf tab es) j=true->∃e ∈ es,Region.binds .any e=true/\(e.on=j∨Nat.testBit (tab.getD e.on 0) j=true):=by
 intro es;induction es with
 |nil=>intro h;simp[maskOf] at h
 |cons e es ih=>
  intro h;simp only[maskOf] at h;split at h
  ·rename_i hb;have h':Nat.testBit ((1<<<e.on|||tab.getD e.on 0)|||maskOf tab es) j=true:=h;rw[Nat.testBit_or,Nat.testBit_or,oQ,oQ] at h';rcases h' with(h1|h1)|h1
   ·refine⟨e,by simp,hb,.inl ?_⟩
    rw[Nat.one_shiftLeft,Nat.testBit_two_pow] at h1
    simpa using h1
   ·exact⟨e,by simp,hb,.inr h1⟩
   ·obtain⟨e',he,h2⟩:=ih h1;exact⟨e',by simp[he],h2⟩
  ·obtain⟨e',he,h2⟩:=ih h;exact⟨e',by simp[he],h2⟩

theorem zX{o:Oper}{t:TypeId}(h:qH o=some t):stays G o.op=false/\o.guard=none/\o.op= .alloc t:=by
 unfold qH at h;split at h
 ·rename_i t' h1 h2;simp only[X1] at h;subst h;rw[h1];exact⟨rfl,h2,rfl⟩
 ·cases h

theorem b9u(hG:F6 P G)(hGc:∀x ∈ G,R4 P x.1):∀(rest:List Oper) (i:Nat) (earlier:List (Nat×Oper×RW)) (tab:List Nat) (f0:Nat->RW) (s:V9) (ps:E7) (hist:List (Nat×Y3)),rest=all.toList.drop i->i<=all.size->tab.length=i->
  (∀k o,k<i->all[k]? =some o->(k,o,f0 k) ∈ earlier)->xX P G nt all b H0 rest i earlier tab s ps hist K->
  ∃(S:Nat->St) (y:Nat->T) (p:Nat->J2) (m:Nat->Nat) (f:Nat->RW),S i=⟨s,ps,hist⟩/\(∀k,k<i->m k=tab.getD k 0/\f k=f0 k)/\
   (∀k o,i<=k->all[k]? =some o->StepOk P G nt all b H0 k o (S k) (S (k+1)) (y k) (p k) (m k)/\dL k o=true/\(f k=sR (D6 H0 (S k).hist) (S k).s o.op/\∀k' o',k'<k->all[k']? =some o'->B7 G all (m k) k' o' (f k') o (f k)=true)/\
    (∀j,Nat.testBit (m k) j=true->∃e ∈ o.after.toList,Region.binds .any e=true/\e.on<k/\(e.on=j∨Nat.testBit (m e.on) j=true)))/\
   K (P1 (S all.size).s (S all.size).ps) (D6 H0 (S all.size).hist):=by
 intro rest;induction rest with
 |nil=>
  intro i earlier tab f0 s ps hist hrest hi htab hear h;have hsz:i=all.size:=by
   have:=congrArg List.length hrest;simp at this;omega
  subst hsz;refine⟨λ_=>⟨s,ps,hist⟩,λ_=>.und,λ_=>[],λk=>tab.getD k 0,f0,rfl,λk _=>⟨rfl,rfl⟩,λk o hk ho=> ?_,h⟩
  have:=(cT.1 ho).1
  omega
 |cons o rest ih=>
  intro i earlier tab f0 s ps hist hrest hi htab hear h;have hlt:i<all.size:=by
   have:=congrArg List.length hrest;simp at this;omega
  have hdrop:all.toList.drop i=all[i]::all.toList.drop (i+1):=by
   rw[List.drop_eq_getElem_cons (by simpa using hlt)]
   simp
  rw[hdrop] at hrest;obtain⟨ho,hrest'⟩:=List.cons.inj hrest;have hoi:all[i]? =some o:=by rw[sJ hlt,ho]
  unfold xX at h;split at h
  ·exact h.elim
  rename_i hst;simp only[J6] at hst;obtain⟨hedge,hpair⟩:=hst;have hpair':∀k' o',k'<i->all[k']? =some o'->B7 G all (maskOf tab o.after.toList) k' o' (f0 k') o (sR (D6 H0 hist) s o.op)=true:=λk' o' hk ho'=>m4.1 hpair _ (hear k' o' hk ho')
  have go:∀(st':St) (y:T) (p:J2),StepOk P G nt all b H0 i o ⟨s,ps,hist⟩ st' y p (maskOf tab o.after.toList)->
    xX P G nt all b H0 rest (i+1) ((i,o,sR (D6 H0 hist) s o.op)::earlier) (tab++[maskOf tab o.after.toList]) st'.s st'.ps st'.hist K->∃(S:Nat->St) (y:Nat->T) (p:Nat->J2) (m:Nat->Nat) (f:Nat->RW),S i=⟨s,ps,hist⟩/\(∀k,k<i->m k=tab.getD k 0/\f k=f0 k)/\
   (∀k o,i<=k->all[k]? =some o->StepOk P G nt all b H0 k o (S k) (S (k+1)) (y k) (p k) (m k)/\dL k o=true/\(f k=sR (D6 H0 (S k).hist) (S k).s o.op/\∀k' o',k'<k->all[k']? =some o'->B7 G all (m k) k' o' (f k') o (f k)=true)/\
    (∀j,Nat.testBit (m k) j=true->∃e ∈ o.after.toList,Region.binds .any e=true/\e.on<k/\(e.on=j∨Nat.testBit (m e.on) j=true)))/\
   K (P1 (S all.size).s (S all.size).ps) (D6 H0 (S all.size).hist):=by
   intro st' y p hstep hvc;obtain⟨S,y',p',m,f,hS,hmf,hall,hK⟩:=ih (i+1) _ _ (λk=>if k=i then sR (D6 H0 hist) s o.op else f0 k) _ _ _ hrest' hlt (by simp[htab]) (λk o' hk ho'=>by
    by_cases hki:k=i
    ·subst hki;rw[hoi] at ho';simp only[X1] at ho';subst ho';simp
    ·rw[if_neg hki];exact List.mem_cons_of_mem _ (hear k o' (by omega) ho')) hvc
   have hm:∀k,k<i+1->m k=(tab++[maskOf tab o.after.toList]).getD k 0:=λk hk=>(hmf k hk).1
   have hfi:f i=sR (D6 H0 hist) s o.op:=by rw[(hmf i (by omega)).2,if_pos rfl]
   have hfk:∀k,k<i->f k=f0 k:=λk hk=>by rw[(hmf k (by omega)).2,if_neg (by omega)]
   have hmi:m i=maskOf tab o.after.toList:=by
    rw[hm i (by omega)]
    simp[L5,←htab]
   have hmk:∀k,k<i->m k=tab.getD k 0:=λk hk=>by
    rw[hm k (by omega)]
    simp only[L5]
    rw[oX (by omega)]
   refine⟨λk=>if k<=i then⟨s,ps,hist⟩ else S k,λk=>if k<=i then y else y' k,λk=>if k<=i then p else p' k,m,f,by simp,λk hk=>⟨hmk k hk,hfk k hk⟩,λk o' hk ho'=> ?_,?_⟩
   ·by_cases hki:k=i
    ·subst hki;rw[hoi] at ho';simp only[X1] at ho';subst ho';have e1:(if k<=k then(⟨s,ps,hist⟩:St) else S k)=⟨s,ps,hist⟩:=if_pos (V2 _)
     have e2:(if k+1<=k then(⟨s,ps,hist⟩:St) else S (k+1))=st':=by rw[if_neg (by omega),hS]
     have e3:(if k<=k then y else y' k)=y:=if_pos (V2 _)
     have e4:(if k<=k then p else p' k)=p:=if_pos (V2 _)
     simp only[e1,e2,e3,e4,hmi];refine⟨hstep,hedge,⟨hfi,λk' o' hk' ho'=>by rw[hfi,hfk k' hk'];exact hpair' k' o' hk' ho'⟩,λj hj=> ?_⟩
     obtain⟨e,he,hb,hor⟩:=b5D hj;have hle:e.on<k:=by
      have:=m4.1 hedge e he;simp only[hb,Bool.not_true,Bool.false_or] at this;exact m5 this
     refine⟨e,he,hb,hle,?_⟩
     rcases hor with h1|h1
     ·exact .inl h1
     ·exact .inr (by rw[hmk _ hle];exact h1)
    ·have h1:=hall k o' (by omega) ho'
     have e1:(if k<=i then(⟨s,ps,hist⟩:St) else S k)=S k:=if_neg (by omega)
     have e2:(if k+1<=i then(⟨s,ps,hist⟩:St) else S (k+1))=S (k+1):=if_neg (by omega)
     have e3:(if k<=i then y else y' k)=y' k:=if_neg (by omega)
     have e4:(if k<=i then p else p' k)=p' k:=if_neg (by omega)
     simp only[e1,e2,e3,e4];exact h1
   ·have e1:(if all.size<=i then(⟨s,ps,hist⟩:St) else S all.size)=S all.size:=if_neg (by omega)
    simp only[e1];exact hK
  have hnil:∀(s:V9),L8 s []:=λs q hq=>by cases hq
  split at h
  ·rename_i hg;split at h
   ·exact h.elim
   rename_i hchk;simp only[J6] at hchk;obtain⟨⟨hpo,hfr⟩,hdst⟩:=hchk;split at h
   ·rename_i t hal;have hsty:=(zX (G:=G) hal).1;split at h
    ·rename_i y H' he;exact go ⟨xT s o.dst y,ps,(i,H')::hist⟩ y [] ⟨hfr,hdst,rfl,hpo,λ_=>⟨rfl,rfl⟩,λj want hgj=>by(rw[hg] at hgj;cases hgj),λhn=>by(rw[hsty] at hn;cases hn),λ_ hn=>by(rw[hal] at hn;cases hn),λt' ht'=>by(rw[hal] at ht';cases ht';exact⟨H',he,rfl⟩)⟩ h
    ·exact h.elim
   ·rename_i hal;split at h
    ·rename_i hsty;obtain⟨G',hGG,h⟩:=vC hG hGc h;split at h
     ·rename_i t H' side he;obtain⟨hs,hrest⟩:=vA h;exact go ⟨xT s o.dst t,ps,hist⟩ t [] ⟨hfr,hdst,rfl,hpo,λ_=>⟨rfl,rfl⟩,λj want hgj=>by(rw[hg] at hgj;cases hgj),λ_=>⟨rfl,G',H',side,hGG,he,λ_=>hs (hnil _)⟩,λhn=>by(rw[hsty] at hn;cases hn),λt' ht'=>by(rw[hal] at ht';cases ht')⟩ hrest
     ·exact h.elim
    ·rename_i hsty;obtain⟨G',hGG,h⟩:=vC hG hGc h;split at h
     ·rename_i t H' side he;obtain⟨hs,hrest⟩:=vA h;exact go ⟨xT s o.dst t,ps,(i,H')::hist⟩ t [] ⟨hfr,hdst,rfl,hpo,λ_=>⟨rfl,rfl⟩,λj want hgj=>by(rw[hg] at hgj;cases hgj),λhn=>by(rw[hsty] at hn;cases hn),λ_ _=>⟨G',H',side,hGG,he,rfl,hs (hnil _)⟩,λt' ht'=>by(rw[hal] at ht';cases ht')⟩ hrest
     ·exact h.elim
  ·rename_i j want hg;split at h
   ·rename_i g hgd;split at h
    ·rename_i x hx;split at h
     ·exact h.elim
     rename_i hchk;simp only[J6] at hchk;obtain⟨⟨⟨⟨⟨hji,hpo⟩,hfr⟩,hdst⟩,hsty⟩,hgk⟩:=hchk;obtain⟨G',hGG,h⟩:=vC hG hGc h;split at h
     ·rename_i t H' side he;obtain⟨hs,hrest⟩:=vA h;exact go ⟨xT s o.dst t,kG ps o.dst ((g,want)::T6 ps g),hist⟩ t ((g,want)::T6 ps g) ⟨hfr,hdst,rfl,hpo,λhn=>by(rw[hg] at hn;cases hn),
       λj' want' hgj=>by
        rw[hg] at hgj;simp only[X1,U4] at hgj;obtain⟨rfl,rfl⟩:=hgj;exact⟨g,x,hgd,hx,m5 hji,rfl,rfl,hsty,hgk⟩,
       λ_=>⟨rfl,G',H',side,hGG,he,hs⟩,λhn=>by(rw[hsty] at hn;cases hn),λt' ht'=>by(rw[(zX (G:=G) ht').2.1] at hg;cases hg)⟩ hrest
     ·exact h.elim
    ·exact h.elim
   ·exact h.elim

end
end Go.SS
