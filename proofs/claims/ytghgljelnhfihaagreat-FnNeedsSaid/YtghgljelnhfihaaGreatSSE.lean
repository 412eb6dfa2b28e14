/- A calculus of symbolic states: a region, in whatever order: the run in the text's order, said operation by operation. -/
import Derived.Test.YtghgljelnhfihaaGreatSSD
namespace Go.SS
open Go.RowKit

structure St where
 s:V5
 ps:C5
 hist:List (Nat×Y1)

structure StepOk(P:Program)(G:I2)(nt:Nat)(all:Array Oper)(b:Nat)(H0:Y1)(i:Nat)(o:Oper)(st st':St)(y:T)(p:G8)(m:Nat):Prop where
 fresh:lN st.ps o.dst=true
 dst:a03 nt o.dst=true
 s:st'.s=xE st.s o.dst y
 paths:F4 st.ps p o.op=true
 plain:o.guard=none->p=[]/\st'.ps=st.ps
 guarded:∀j want,o.guard=some (j,want)->∃g x,(all[j]?).bind (·.dst)=some g/\j7 st.s g= .bool x/\j<i/\p=(g,want)::S5 st.ps g/\st'.ps=hM st.ps o.dst p/\stays G o.op=true/\qN st.ps g o.dst=true
 reader:stays G o.op=true->st'.hist=st.hist/\∃G' H' side,Good P G G'/\A6 P G' st.s (hAt (G6 G) all H0 m st.hist) o.op=some (y,H',side)/\(J9 st.s p->side.getD True)
 writer:stays G o.op=false->w8 (G6 G) o=false->∃G' H' side,Good P G G'/\A6 P G' st.s (C6 H0 st.hist) o.op=some (y,H',side)/\st'.hist=(i,H')::st.hist/\side.getD True
 al:w8 (G6 G) o=true->∃H' side,a3t P st.s (C6 H0 st.hist) o.op (oS (G6 G) b all i)=some (y,H',side)/\st'.hist=(i,H')::st.hist/\side.getD True

section
variable {P:Program} {G:I2} {nt:Nat} {all:Array Oper} {b:Nat} {H0:Y1} {K:V5->Y1->Prop}

theorem b5c{tab:List Nat}{j:Nat}:∀{es:List Edge},Nat.testBit (maskOf tab es) j=true->∃e ∈ es,Region.binds .any e=true/\(e.on=j∨Nat.testBit (tab.getD e.on 0) j=true):=by
 intro es;induction es with
 |nil=>intro h;simp[maskOf] at h
 |cons e es ih=>
  intro h;simp only[maskOf] at h;split at h
  ·rename_i hb;have h':Nat.testBit ((1<<<e.on|||tab.getD e.on 0)|||maskOf tab es) j=true:=h;rw[Nat.testBit_or,Nat.testBit_or,pP,pP] at h';rcases h' with(h1|h1)|h1
   ·refine⟨e,by simp,hb,.inl ?_⟩
    rw[Nat.one_shiftLeft,Nat.testBit_two_pow] at h1
    simpa using h1
   ·exact⟨e,by simp,hb,.inr h1⟩
   ·obtain⟨e',he,h2⟩:=ih h1;exact⟨e',by simp[he],h2⟩
  ·obtain⟨e',he,h2⟩:=ih h;exact⟨e',by simp[he],h2⟩

theorem pX{o:Oper}(h:w8 (G6 G) o=true):stays G o.op=false/\o.guard=none:=by
 unfold w8 at h;split at h
 ·cases h
 rename_i hg;refine⟨?_,hg⟩
 split at h
 ·rename_i t ho;rw[ho];rfl
 ·rename_i args at_ ho;rw[ho];have h8:Nat.ble 8 (gT G)=true:=h;have ht:uD G (.call {callee:=.builtin .append,args:=args,argTypes:=at_})=false:=by
   show Q7 (gT G) args.toList=false;unfold Q7;rw[h8]
  unfold stays;rw[ht];rfl
 ·cases h

theorem c0O(hG:D0 P G)(hGc:∀x ∈ G,P4 P x.1):∀(rest:List Oper) (i:Nat) (earlier:List (Nat×Oper×RW)) (tab:List Nat) (f0:Nat->RW) (s:V5) (ps:C5) (hist:List (Nat×Y1)),rest=all.toList.drop i->i<=all.size->tab.length=i->
  (∀k o,k<i->all[k]? =some o->(k,o,f0 k) ∈ earlier)->xG P G nt all b H0 rest i earlier tab s ps hist K->
  ∃(S:Nat->St) (y:Nat->T) (p:Nat->G8) (m:Nat->Nat) (f:Nat->RW),S i=⟨s,ps,hist⟩/\(∀k,k<i->m k=tab.getD k 0/\f k=f0 k)/\
   (∀k o,i<=k->all[k]? =some o->StepOk P G nt all b H0 k o (S k) (S (k+1)) (y k) (p k) (m k)/\cB k o=true/\(f k=sI (C6 H0 (S k).hist) (S k).s o.op/\∀k' o',k'<k->all[k']? =some o'->x1 G all (m k) k' o' (f k') o (f k)=true)/\
    (∀j,Nat.testBit (m k) j=true->∃e ∈ o.after.toList,Region.binds .any e=true/\e.on<k/\(e.on=j∨Nat.testBit (m e.on) j=true)))/\
   K (gI (S all.size).s (S all.size).ps) (C6 H0 (S all.size).hist):=by
 intro rest;induction rest with
 |nil=>
  intro i earlier tab f0 s ps hist hrest hi htab hear h;have hsz:i=all.size:=by
   have:=congrArg List.length hrest;simp at this;omega
  subst hsz;refine⟨λ_=>⟨s,ps,hist⟩,λ_=>.und,λ_=>[],λk=>tab.getD k 0,f0,rfl,λk _=>⟨rfl,rfl⟩,λk o hk ho=> ?_,h⟩
  have:=(j_p.1 ho).1
  omega
 |cons o rest ih=>
  intro i earlier tab f0 s ps hist hrest hi htab hear h;have hlt:i<all.size:=by
   have:=congrArg List.length hrest;simp at this;omega
  have hdrop:all.toList.drop i=all[i]::all.toList.drop (i+1):=by
   rw[List.drop_eq_getElem_cons (by simpa using hlt)]
   simp
  rw[hdrop] at hrest;obtain⟨ho,hrest'⟩:=List.cons.inj hrest;have hoi:all[i]? =some o:=by rw[rL hlt,ho]
  unfold xG at h;split at h
  ·exact h.elim
  rename_i hst;simp only[L3] at hst;obtain⟨hedge,hpair⟩:=hst;have hpair':∀k' o',k'<i->all[k']? =some o'->x1 G all (maskOf tab o.after.toList) k' o' (f0 k') o (sI (C6 H0 hist) s o.op)=true:=λk' o' hk ho'=>i5.1 hpair _ (hear k' o' hk ho')
  have go:∀(st':St) (y:T) (p:G8),StepOk P G nt all b H0 i o ⟨s,ps,hist⟩ st' y p (maskOf tab o.after.toList)->
    xG P G nt all b H0 rest (i+1) ((i,o,sI (C6 H0 hist) s o.op)::earlier) (tab++[maskOf tab o.after.toList]) st'.s st'.ps st'.hist K->∃(S:Nat->St) (y:Nat->T) (p:Nat->G8) (m:Nat->Nat) (f:Nat->RW),S i=⟨s,ps,hist⟩/\(∀k,k<i->m k=tab.getD k 0/\f k=f0 k)/\
   (∀k o,i<=k->all[k]? =some o->StepOk P G nt all b H0 k o (S k) (S (k+1)) (y k) (p k) (m k)/\cB k o=true/\(f k=sI (C6 H0 (S k).hist) (S k).s o.op/\∀k' o',k'<k->all[k']? =some o'->x1 G all (m k) k' o' (f k') o (f k)=true)/\
    (∀j,Nat.testBit (m k) j=true->∃e ∈ o.after.toList,Region.binds .any e=true/\e.on<k/\(e.on=j∨Nat.testBit (m e.on) j=true)))/\
   K (gI (S all.size).s (S all.size).ps) (C6 H0 (S all.size).hist):=by
   intro st' y p hstep hvc;obtain⟨S,y',p',m,f,hS,hmf,hall,hK⟩:=ih (i+1) _ _ (λk=>if k=i then sI (C6 H0 hist) s o.op else f0 k) _ _ _ hrest' hlt (by simp[htab]) (λk o' hk ho'=>by
    by_cases hki:k=i
    ·subst hki;rw[hoi] at ho';simp only[W8] at ho';subst ho';simp
    ·rw[if_neg hki];exact List.mem_cons_of_mem _ (hear k o' (by omega) ho')) hvc
   have hm:∀k,k<i+1->m k=(tab++[maskOf tab o.after.toList]).getD k 0:=λk hk=>(hmf k hk).1
   have hfi:f i=sI (C6 H0 hist) s o.op:=by rw[(hmf i (by omega)).2,if_pos rfl]
   have hfk:∀k,k<i->f k=f0 k:=λk hk=>by rw[(hmf k (by omega)).2,if_neg (by omega)]
   have hmi:m i=maskOf tab o.after.toList:=by
    rw[hm i (by omega)]
    simp[P8,←htab]
   have hmk:∀k,k<i->m k=tab.getD k 0:=λk hk=>by
    rw[hm k (by omega)]
    simp only[P8]
    rw[tX (by omega)]
   refine⟨λk=>if k<=i then⟨s,ps,hist⟩ else S k,λk=>if k<=i then y else y' k,λk=>if k<=i then p else p' k,m,f,by simp,λk hk=>⟨hmk k hk,hfk k hk⟩,λk o' hk ho'=> ?_,?_⟩
   ·by_cases hki:k=i
    ·subst hki;rw[hoi] at ho';simp only[W8] at ho';subst ho';have e1:(if k<=k then(⟨s,ps,hist⟩:St) else S k)=⟨s,ps,hist⟩:=if_pos (W4 _)
     have e2:(if k+1<=k then(⟨s,ps,hist⟩:St) else S (k+1))=st':=by rw[if_neg (by omega),hS]
     have e3:(if k<=k then y else y' k)=y:=if_pos (W4 _)
     have e4:(if k<=k then p else p' k)=p:=if_pos (W4 _)
     simp only[e1,e2,e3,e4,hmi];refine⟨hstep,hedge,⟨hfi,λk' o' hk' ho'=>by rw[hfi,hfk k' hk'];exact hpair' k' o' hk' ho'⟩,λj hj=> ?_⟩
     obtain⟨e,he,hb,hor⟩:=b5c hj;have hle:e.on<k:=by
      have:=i5.1 hedge e he;simp only[hb,Bool.not_true,Bool.false_or] at this;exact v6 this
     refine⟨e,he,hb,hle,?_⟩
     rcases hor with h1|h1
     ·exact .inl h1
     ·exact .inr (by rw[hmk _ hle];exact h1)
    ·have h1:=hall k o' (by omega) ho'
     have e1:(if k<=i then(⟨s,ps,hist⟩:St) else S k)=S k:=if_neg (by omega)
     have e2:(if k+1<=i then(⟨s,ps,hist⟩:St) else S (k+1))=S (k+1):=if_neg (by omega)
     have e3:(if k<=i then y else y' k)=y' k:=if_neg (by omega)
     have e4:(if k<=i then p else p' k)=p' k:=if_neg (by omega)
     simp only[e1,e2,e3,e4];exact h1
   ·have e1:(if all.size<=i then(⟨s,ps,hist⟩:St) else S all.size)=S all.size:=if_neg (by omega)
    simp only[e1];exact hK
  have hnil:∀(s:V5),J9 s []:=λs q hq=>by cases hq
  split at h
  ·rename_i hg;split at h
   ·exact h.elim
   rename_i hchk;simp only[L3] at hchk;obtain⟨⟨hpo,hfr⟩,hdst⟩:=hchk;split at h
   ·rename_i hal;have hsty:=(pX hal).1;split at h
    ·rename_i y H' side he;obtain⟨hs,h⟩:=vU h;exact go ⟨xE s o.dst y,ps,(i,H')::hist⟩ y [] ⟨hfr,hdst,rfl,hpo,λ_=>⟨rfl,rfl⟩,λj want hgj=>by(rw[hg] at hgj;cases hgj),λhn=>by(rw[hsty] at hn;cases hn),λ_ hn=>by(rw[hal] at hn;cases hn),λ_=>⟨H',side,he,rfl,hs (hnil _)⟩⟩ h
    ·exact h.elim
   ·rename_i hal;split at h
    ·rename_i hsty;obtain⟨G',hGG,h⟩:=tI hG hGc h;split at h
     ·rename_i t H' side he;obtain⟨hs,hrest⟩:=vU h;exact go ⟨xE s o.dst t,ps,hist⟩ t [] ⟨hfr,hdst,rfl,hpo,λ_=>⟨rfl,rfl⟩,λj want hgj=>by(rw[hg] at hgj;cases hgj),λ_=>⟨rfl,G',H',side,hGG,he,λ_=>hs (hnil _)⟩,λhn=>by(rw[hsty] at hn;cases hn),λht'=>by(rw[hal] at ht';cases ht')⟩ hrest
     ·exact h.elim
    ·rename_i hsty;obtain⟨G',hGG,h⟩:=tI hG hGc h;split at h
     ·rename_i t H' side he;obtain⟨hs,hrest⟩:=vU h;exact go ⟨xE s o.dst t,ps,(i,H')::hist⟩ t [] ⟨hfr,hdst,rfl,hpo,λ_=>⟨rfl,rfl⟩,λj want hgj=>by(rw[hg] at hgj;cases hgj),λhn=>by(rw[hsty] at hn;cases hn),λ_ _=>⟨G',H',side,hGG,he,rfl,hs (hnil _)⟩,λht'=>by(rw[hal] at ht';cases ht')⟩ hrest
     ·exact h.elim
  ·rename_i j want hg;split at h
   ·rename_i g hgd;split at h
    ·rename_i x hx;split at h
     ·exact h.elim
     rename_i hchk;simp only[L3] at hchk;obtain⟨⟨⟨⟨⟨hji,hpo⟩,hfr⟩,hdst⟩,hsty⟩,hgk⟩:=hchk;obtain⟨G',hGG,h⟩:=tI hG hGc h;split at h
     ·rename_i t H' side he;obtain⟨hs,hrest⟩:=vU h;exact go ⟨xE s o.dst t,hM ps o.dst ((g,want)::S5 ps g),hist⟩ t ((g,want)::S5 ps g) ⟨hfr,hdst,rfl,hpo,λhn=>by(rw[hg] at hn;cases hn),
       λj' want' hgj=>by
        rw[hg] at hgj;simp only[W8,T5] at hgj;obtain⟨rfl,rfl⟩:=hgj;exact⟨g,x,hgd,hx,v6 hji,rfl,rfl,hsty,hgk⟩,
       λ_=>⟨rfl,G',H',side,hGG,he,hs⟩,λhn=>by(rw[hsty] at hn;cases hn),λht'=>by(rw[(pX ht').2] at hg;cases hg)⟩ hrest
     ·exact h.elim
    ·exact h.elim
   ·exact h.elim

end
end Go.SS
