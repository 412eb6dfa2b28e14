/- A calculus of symbolic states: operations that lay or write memory, 3. -/
import Derived.Test.YtghgljelnhfihaaGreatSS8S
namespace Go.SS
open Go.RowKit
section
variable {c:Ctx} {E:Env} {H:Y1} {w w':World} {P:Program}

theorem zO{e:TypeId}(h:o5 P e=true):P.underlying e=some (.int .u8)/\zeroCells P e=some [.int .u8 0]:=by
 unfold o5 at h;split at h
 ·rename_i n hu hz;have:=C7 h;subst this;exact⟨hu,hz⟩
 ·cases h

theorem bT{k b κ z n:Nat}(hn:n<=κ):Rd (E.push k b κ z) w (.osl k 0 n) (.slice (some ⟨b,0,none⟩) n κ):=by
 have:=Rd.osl (E:=E.push k b κ z) (w:=w) k 0 n 0 (some ⟨b,0,none⟩) (.inr rfl) (by rw[show(E.push k b κ z).κ k=κ from if_pos rfl];omega) (λ_=>by simp) (λ_=>by rw[show(E.push k b κ z).β k=b from if_pos rfl])
 rw[show(E.push k b κ z).κ k=κ from if_pos rfl] at this
 exact this

theorem b5x(h:Inv c E H w){t:TypeId}{l m:T}{lv mv:Value}{y:T}{H':Y1}{side:Option Prop}(he:a0n P H t l m=some (y,H',side))(hs:side.getD True)(hl:Rd E w l lv)(hm:Rd E w m mv):
  ∃r w' E',(Instr.makeSlice t lv mv).run P w= .ok r w'/\Rd E' w' y r/\Inv c E' H' w'/\Step E w E' w':=by
 unfold a0n at he;split at he
 ·rename_i e n m hu;split at he
  ·rename_i i z hi hz;split at he
   ·rename_i h1 h2 hone;simp only[W8,T5] at he;obtain⟨rfl,rfl,rfl⟩:=he;obtain⟨hn0,hnm,hby,hlt⟩:0<=n/\n<=m/\wK i.bytes m.toNat 140737488355328/\m.toNat<9223372036854775808:=hs;unfold wK at hby;have hzl:=G3 h1;have hsz0:=Nat.ne_of_beq_eq_false h2;obtain⟨v,_,hrl,i',hi',hzv⟩:=d9 (E:=E) (w:=w) hz;rw[hi] at hi';simp only[W8] at hi';subst hi';rw[K5 hl,K5 hm];have hmm:((m.toNat:Nat):Int)=m:=by omega
    have hb':(i.bytes:Int)*m<=281474976710656:=by
     have:((i.bytes*m.toNat:Nat):Int)<=140737488355328:=by omega
     rw[Int.natCast_mul,hmm] at this;omega
    have hrun:=run_make (P:=P) w t e i v hu hi hzv .i64 .i64 n m hn0 hnm hb' (by omega)
    obtain⟨a1,a2,a3,a4,a5⟩:=F9 w (.cells (madeCells v.cells (m.toNat*i.size)) e);have hvs:v.cells.size=i.size:=by rw[←hrl.1];exact hzl
    have hcell:∀(r j:Nat),r<m.toNat->j<i.size->(madeCells v.cells (m.toNat*i.size))[r*i.size+j]? =v.cells[j]? :=by
     intro r j hr hj;have hlt':r*i.size+j<m.toNat*i.size:=by
      have:(r+1)*i.size<=m.toNat*i.size:=iN _ hr;rw[Nat.add_mul] at this;omega
     unfold madeCells;simp only[Array.getElem?_map,Array.getElem?_range]
     rw[if_pos hlt'];simp only[j8,hvs];rw[show(r*i.size+j) % i.size=j by rw[Nat.add_comm,Nat.add_mul_mod_self_right,Nat.mod_eq_of_lt hj]]
     have:v.cells[j]? =some v.cells[j]! :=by
      rw[rL (by omega),getElem!_pos v.cells j (by omega)]
     rw[this]
    have main:∀(ob:Ob),ob.isArr=true->ob.toArr.sz=i.size->ob.toArr.n=n.toNat->(∀r,ob.toArr.row r=z∨(r<n.toNat->ob.toArr.row r=z))->(ob.toArr.cl=true->∀t ∈ z,W5 t=true)->
      ∃r w' E',(Instr.makeSlice t (.int .i64 n) (.int .i64 m)).run P w= .ok r w'/\Rd E' w' (.osl H.length 0 n.toNat) r/\Inv c E' (H++[some ob]) w'/\Step E w E' w':=by
     intro ob hia hsz hon hrow hcl;have hrow':∀r,r<n.toNat->ob.toArr.row r=z:=λr hr=>by rcases hrow r with h|h;exact h;exact h hr
     have:=h.push a1 a2 a3 (by simp) a4 ob w.heap.size m.toNat _ e (λ_=>W4 _) (λ_=>a5) (by rw[hsz,size_madeCells]) (by rw[hon];omega)
      (λr hr=>by rw[hsz,hrow' r (by omega)];exact hzl) (λr t hr ht=>by rw[hrow' r (by omega)] at ht;exact i5.1 hone t ht) (λhc r t hr ht=>by rw[hrow' r (by omega)] at ht;exact hcl hc t ht)
      (λr j t hr hj=>by
       rw[hon] at hr;rw[hrow' r hr] at hj;have hj':j<z.length:=(z5.1 hj).1
       have hvj:v.cells[j]? =some (v.cells[j]'(by omega)):=rL _
       exact⟨_,by rw[hsz,hcell r j (by omega) (by omega)];exact hvj,hrl.2 _ _ _ hj hvj⟩) hia
     refine⟨_,_,_,hrun,?_,this.1,this.2⟩
     rw[hsz];exact bT (by omega)
    split
    ·rename_i hb;have hz1:=(zO hb).2;rw[hz] at hz1;simp only[W8] at hz1;have hs1:i.size=1:=by rw[←hzl,hz1];rfl
     refine main (.bys e (List.replicate n.toNat 0)) rfl hs1.symm (by simp[Ob.toArr]) (λr=>.inr λhr=> ?_) (λ_ t ht=>by rw[hz1] at ht;simp at ht;subst ht;rfl)
     simp only[Ob.toArr,I4,hz1];simp[List.getD,hr]
    ·exact main (.arr (z.all W5) e i.size n.toNat λ_=>z) rfl rfl rfl (λ_=>.inl rfl) (λhc t ht=>i5.1 hc t ht)
   ·cases he
  ·cases he
 ·cases he


theorem a8L:∀(cs:List T) (ns:List Int),xR cs=some ns->cs=ns.map (.int .u8):=by
 intro cs;induction cs with
 |nil=>intro ns h;simp[xR] at h;subst h;rfl
 |cons x cs ih=>
  intro ns h;unfold xR at h;split at h
  ·rename_i heq;cases heq
  ·rename_i n r heq;simp only[List.cons.injEq] at heq;obtain⟨rfl,rfl⟩:=heq;cases hb:xR cs with
   |none=>rw[hb] at h;cases h
   |some ms=>
    rw[hb] at h;simp only[j8,W8] at h;subst h;rw[ih ms hb];rfl
  ·cases h

theorem b5j:∀(ns:List Int),(b3p ns).getD True->∀n ∈ ns,W7 .u8 n:=by
 intro ns;induction ns with
 |nil=>intro _ n hn;cases hn
 |cons m ns ih=>
  intro h n hn;unfold b3p at h;cases hr:b3p ns with
  |none=>
   rw[hr] at h ih;simp only[Option.getD_some] at h;rcases wY.1 hn with rfl|hn
   ·exact h
   ·exact ih trivial n hn
  |some p=>
   rw[hr] at h ih;simp only[Option.getD_some] at h ih;rcases wY.1 hn with rfl|hn
   ·exact h.1
   ·exact ih h.2 n hn

theorem b5b{n:Int}{v:Value}(hn:W7 .u8 n)(h:Rd E w (.int .u8 n) v):Rd E w (.int .u8 ((P2 n).toNat:Int)) v:=by
 rw[a0i hn];exact h

theorem rJ{place:Nat->Option (Nat×Nat)}:∀(parts:List (Nat×T)) (cs out:List T),k5 place cs parts=some out->out.length=cs.length:=by
 intro parts;induction parts with
 |nil=>intro cs out h;simp[k5] at h;rw[h]
 |cons p parts ih=>
  intro cs out h;obtain⟨i,x⟩:=p;simp only[k5] at h;split at h
  ·split at h
   ·rename_i h1 h2;have h2':=v6 h2;rw[ih _ _ h];simp;omega
   ·cases h
  ·cases h

theorem fQ(h:Inv c E H w){a:Act}{s:V5}{t e:TypeId}{len:Nat}{parts:Array (Nat×Operand)}{i:TypeInfo}{z cs:List T}(hu:P.underlying t=some (.slice e))(hi:P.info? e=some i)(hz:zeroCells P e=some z)
  (h1:Nat.beq z.length i.size=true) (h2:Nat.beq i.size 0=false) (h3:Nat.ble (len*i.size) 16777216=true) (hfill:k5 (λk=>some (k*i.size,i.size)) ((List.replicate len z).flatten) (parts.toList.map λp=>(p.1,M7 s p.2))=some cs)
  (hop:∀p ∈ parts.toList,I0 E w a s p.2):
  ∃us,(Instr.buildSlice t len (parts.map λ(i,x)=>(i,a.eval x))).run P w= .ok (.slice (some ⟨w.heap.size,0,none⟩) len len) (w.alloc (.cells us e))/\vB E w cs us/\cs.length=len*i.size:=by
 have hparts:∀(i:Nat) (p:Nat×T) (q:Nat×Value),(parts.toList.map λp=>(p.1,M7 s p.2))[i]? =some p->(parts.map λ(i,x)=>(i,a.eval x)).toList[i]? =some q->p.1=q.1/\Rd E w p.2 q.2:=by
  intro i p q hp hq;simp only[Array.toList_map,pN,I3] at hp hq
  obtain⟨x,hx,rfl⟩:=hp;obtain⟨x',hx',rfl⟩:=hq;rw[hx] at hx';simp only[W8] at hx';subst hx';exact⟨rfl,hop x (B5 hx)⟩
 have hlen:(parts.toList.map λp=>(p.1,M7 s p.2)).length=(parts.map λ(i,x)=>(i,a.eval x)).toList.length:=by simp
 have hzl:=G3 h1;have hsz0:=Nat.ne_of_beq_eq_false h2;have hle:=v6 h3;obtain⟨v,hv,hrl,i',hi',hzv⟩:=d9 (E:=E) (w:=w) hz;rw[hi] at hi';simp only[W8] at hi';subst hi';have hvs:v.cells.size=i.size:=by rw[←hrl.1];exact hzl
 have hsizeOf:P.cellsOf e=i.size:=by unfold Program.cellsOf;rw[hi];rfl
 have hrunsz:(sizeOf e).run P w= .ok i.size w:=by rw[F3 e (by rw[hi];rfl),hsizeOf]
 have flat:∀(m k:Nat),((List.replicate m z).flatten)[k]? =if k<m*z.length then z[k % z.length]? else none:=by
  intro m;induction m with
  |zero=>intro k;simp
  |succ m ih=>
   intro k;rw[List.replicate_succ,List.flatten_cons,List.getElem?_append]
   by_cases hk:k<z.length
   ·rw[if_pos hk,if_pos (by rw[Nat.add_mul];omega),Nat.mod_eq_of_lt hk]
   ·rw[if_neg hk,ih];by_cases hk2:k-z.length<m*z.length
    ·rw[if_pos hk2,if_pos (by rw[Nat.add_mul];omega),←Nat.mod_eq_sub_mod (a:=k) (by omega)]
    ·rw[if_neg hk2,if_neg (by rw[Nat.add_mul];omega)]
 have hzero:vB E w ((List.replicate len z).flatten) ((Array.range (len*i.size)).map (v.cells[· % v.cells.size]!)):=by
  refine⟨by simp[hzl],λk t x ht hx=> ?_⟩
  rw[flat] at ht;split at ht
  ·rename_i hk;simp only[Array.getElem?_map,Array.getElem?_range] at hx
   rw[if_pos (by rw[←hzl];exact hk)] at hx
   simp only[j8,W8] at hx;subst hx;have hlt:k % v.cells.size<v.cells.size:=Nat.mod_lt _ (by omega)
   refine hrl.2 (k % z.length) _ _ ht ?_
   rw[getElem!_pos v.cells _ hlt,hzl,←hvs];exact rL hlt
  ·cases ht
 obtain⟨us,hus,hout⟩:=mU _ _ _ _ _ hfill hzero hlen hparts;have hrun:(Instr.buildSlice t len (parts.map λ(i,x)=>(i,a.eval x))).run P w= .ok (.slice (some ⟨w.heap.size,0,none⟩) len len) (w.alloc (.cells us e)):=by
  simp only[Instr.buildSlice,H4,run_underlying hu,I1,hrunsz];rw[if_neg (by omega)]
  by_cases hz':len*i.size=0
  ·rw[if_pos hz'];simp only[H4,D5,I1];have hl0:len=0:=by
    rcases Nat.mul_eq_zero.1 hz' with h|h
    ·exact h
    ·exact absurd h hsz0
   have he':((Array.range (len*i.size)).map (v.cells[· % v.cells.size]!))=((Array.range (len*i.size)).map ((#[]:Array Value)[· % (#[]:Array Value).size]!)):=by rw[hz'];simp[Array.range_zero']
   rw[show(λ(x:Nat×Operand)=>(x.1,a.eval x.2))=(λ(x:Nat×Operand)=>match x with|(i,x)=>(i,a.eval x)) from rfl,←he',hus]
   simp only[newRow,H4,run_newObj,I1,D5];rfl
  ·rw[if_neg hz'];simp only[H4,hv,D5,I1,hus,newRow,run_newObj];rfl
 have hcslen:cs.length=len*i.size:=by
  rw[rJ _ _ _ hfill];simp[hzl]
 exact⟨us,hrun,hout,hcslen⟩

theorem hJ(h:Inv c E H w){a:Act}{s:V5}{t:TypeId}{len:Nat}{parts:Array (Nat×Operand)}{y:T}{H':Y1}{side:Option Prop}(he:zY P s H t len parts=some (y,H',side))(hs:side.getD True)
  (hop:∀p ∈ parts.toList,I0 E w a s p.2):
  ∃r w' E',(Instr.buildSlice t len (parts.map λ(i,x)=>(i,a.eval x))).run P w= .ok r w'/\Rd E' w' y r/\Inv c E' H' w'/\Step E w E' w':=by
 have hparts:∀(i:Nat) (p:Nat×T) (q:Nat×Value),(parts.toList.map λp=>(p.1,M7 s p.2))[i]? =some p->(parts.map λ(i,x)=>(i,a.eval x)).toList[i]? =some q->p.1=q.1/\Rd E w p.2 q.2:=by
  intro i p q hp hq;simp only[Array.toList_map,pN,I3] at hp hq
  obtain⟨x,hx,rfl⟩:=hp;obtain⟨x',hx',rfl⟩:=hq;rw[hx] at hx';simp only[W8] at hx';subst hx';exact⟨rfl,hop x (B5 hx)⟩
 have hlen:(parts.toList.map λp=>(p.1,M7 s p.2)).length=(parts.map λ(i,x)=>(i,a.eval x)).toList.length:=by simp
 unfold zY at he;split at he
 ·rename_i e hu;split at he
  ·rename_i i z hi hz;split at he
   ·rename_i h1 h2 h3;have hzl:=G3 h1;have hsz0:=Nat.ne_of_beq_eq_false h2;have hle:=v6 h3;obtain⟨v,hv,hrl,i',hi',hzv⟩:=d9 (E:=E) (w:=w) hz;rw[hi] at hi';simp only[W8] at hi';subst hi';have hvs:v.cells.size=i.size:=by rw[←hrl.1];exact hzl
    split at he
    ·rename_i cs hfill;have hsizeOf:P.cellsOf e=i.size:=by unfold Program.cellsOf;rw[hi];rfl
     have hrunsz:(sizeOf e).run P w= .ok i.size w:=by rw[F3 e (by rw[hi];rfl),hsizeOf]
     have flat:∀(m k:Nat),((List.replicate m z).flatten)[k]? =if k<m*z.length then z[k % z.length]? else none:=by
      intro m;induction m with
      |zero=>intro k;simp
      |succ m ih=>
       intro k;rw[List.replicate_succ,List.flatten_cons,List.getElem?_append]
       by_cases hk:k<z.length
       ·rw[if_pos hk,if_pos (by rw[Nat.add_mul];omega),Nat.mod_eq_of_lt hk]
       ·rw[if_neg hk,ih];by_cases hk2:k-z.length<m*z.length
        ·rw[if_pos hk2,if_pos (by rw[Nat.add_mul];omega),←Nat.mod_eq_sub_mod (a:=k) (by omega)]
        ·rw[if_neg hk2,if_neg (by rw[Nat.add_mul];omega)]
     have hzero:vB E w ((List.replicate len z).flatten) ((Array.range (len*i.size)).map (v.cells[· % v.cells.size]!)):=by
      refine⟨by simp[hzl],λk t x ht hx=> ?_⟩
      rw[flat] at ht;split at ht
      ·rename_i hk;simp only[Array.getElem?_map,Array.getElem?_range] at hx
       rw[if_pos (by rw[←hzl];exact hk)] at hx
       simp only[j8,W8] at hx;subst hx;have hlt:k % v.cells.size<v.cells.size:=Nat.mod_lt _ (by omega)
       refine hrl.2 (k % z.length) _ _ ht ?_
       rw[getElem!_pos v.cells _ hlt,hzl,←hvs];exact rL hlt
      ·cases ht
     obtain⟨us,hus,hout⟩:=mU _ _ _ _ _ hfill hzero hlen hparts;have hrun:(Instr.buildSlice t len (parts.map λ(i,x)=>(i,a.eval x))).run P w= .ok (.slice (some ⟨w.heap.size,0,none⟩) len len) (w.alloc (.cells us e)):=by
      simp only[Instr.buildSlice,H4,run_underlying hu,I1,hrunsz];rw[if_neg (by omega)]
      by_cases hz':len*i.size=0
      ·rw[if_pos hz'];simp only[H4,D5,I1];have hl0:len=0:=by
        rcases Nat.mul_eq_zero.1 hz' with h|h
        ·exact h
        ·exact absurd h hsz0
       have he':((Array.range (len*i.size)).map (v.cells[· % v.cells.size]!))=((Array.range (len*i.size)).map ((#[]:Array Value)[· % (#[]:Array Value).size]!)):=by rw[hz'];simp[Array.range_zero']
       rw[show(λ(x:Nat×Operand)=>(x.1,a.eval x.2))=(λ(x:Nat×Operand)=>match x with|(i,x)=>(i,a.eval x)) from rfl,←he',hus]
       simp only[newRow,H4,run_newObj,I1,D5];rfl
      ·rw[if_neg hz'];simp only[H4,hv,D5,I1,hus,newRow,run_newObj];rfl
     have hcslen:cs.length=len*i.size:=by
      rw[rJ _ _ _ hfill];simp[hzl]
     obtain⟨a1,a2,a3,a4,a5⟩:=F9 w (.cells us e);split at he
     ·rename_i hb;cases hbt:xR cs with
      |none=>rw[hbt] at he;cases he
      |some ns=>
       rw[hbt] at he;simp only[j8,W8,T5] at he;obtain⟨rfl,rfl,rfl⟩:=he;have hcs:=a8L cs ns hbt;have hrng:=b5j ns hs;have hz1:=(zO hb).2;rw[hz] at hz1;simp only[W8] at hz1;have hs1:i.size=1:=by rw[←hzl,hz1];rfl
       have hnl:ns.length=len:=by
        rw[hcs,List.length_map,hs1,Nat.mul_one] at hcslen;exact hcslen
       have:=h.push a1 a2 a3 (by simp) a4 (.bys e (ns.map P2)) w.heap.size len us e (λ_=>W4 _) (λ_=>a5) (by simp only[Ob.toArr];rw[←hout.1,hcslen,hs1]) (by simp[Ob.toArr,hnl]) (λr hr=>rfl) (λr t hr ht=>by simp[Ob.toArr,I4] at ht;subst ht;rfl)
        (λ_ r t hr ht=>by simp[Ob.toArr,I4] at ht;subst ht;rfl)
        (λr j t hr hj=>by
         simp only[Ob.toArr,List.length_map] at hr hj ⊢;have hj0:j=0:=by
          have:=(z5.1 hj).1
          simp[I4] at this;exact this
         subst hj0;simp only[I4,List.getElem?_cons_zero,W8] at hj
         subst hj;have hrlt:r<us.size:=by rw[←hout.1,hcslen,hs1];omega
         have hru:us[r]? =some (us[r]'hrlt):=rL _
         have hcr:cs[r]? =some (.int .u8 ns[r]):=by rw[hcs];simp[hr]
         refine⟨_,by rw[Nat.mul_one,Nat.add_zero];exact hru,?_⟩
         have hrd:=hout.2 _ _ _ hcr hru;rw[show(List.map P2 ns).getD r 0=P2 ns[r] by simp[List.getD,hr]]
         exact b5b (hrng _ (List.getElem_mem hr)) hrd)
       refine⟨_,_,_,hrun,?_,this.1,this.2⟩
       exact bT (W4 _)
     ·split at he
      case h_2=>cases he
      rename_i hone;simp only[W8,T5] at he;obtain⟨rfl,rfl,rfl⟩:=he;have:=h.push a1 a2 a3 (by simp) a4 (.arr (cs.all W5) e i.size len λk=>(cs.drop (k*i.size)).take i.size) w.heap.size len us e (λ_=>W4 _) (λ_=>a5) (by simp only[Ob.toArr];rw[←hout.1];exact hcslen) (W4 _)
       (λr hr=>by
        simp only[Ob.toArr] at hr ⊢;have:(r+1)*i.size<=len*i.size:=iN _ hr;rw[Nat.add_mul] at this;simp only[List.length_take,List.length_drop];omega)
       (λr t hr ht=>i5.1 hone t (List.mem_of_mem_drop (List.mem_of_mem_take ht)))
       (λhc r t hr ht=>i5.1 hc t (List.mem_of_mem_drop (List.mem_of_mem_take ht)))
       (λr j t hr hj=>by
        simp only[Ob.toArr] at hr hj ⊢;rw[List.getElem?_take] at hj
        split at hj
        ·rename_i hjs;rw[List.getElem?_drop] at hj
         have hlt:=(z5.1 hj).1
         have hru:us[r*i.size+j]? =some (us[r*i.size+j]'(by have:=hout.1;omega)):=rL _
         exact⟨_,hru,hout.2 _ _ _ hj hru⟩
        ·cases hj)
      refine⟨_,_,_,hrun,?_,this.1,this.2⟩
      exact bT (W4 _)
    ·cases he
   ·cases he
  ·cases he
 ·cases he

end
end Go.SS
