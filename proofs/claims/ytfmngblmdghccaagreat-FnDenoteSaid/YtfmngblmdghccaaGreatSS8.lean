/- A part of the proof. -/
import Derived.Test.YtfmngblmdghccaaGreatSS1
import Derived.Lib.AppendZeros
namespace Go.SS
open Go.RowKit
section
variable {c:Ctx} {E:Env} {H:Heap} {w w':World} {P:Program}

theorem Inv.writeO(h:Inv c E H w){k:Nat}{ob0:Ob}(hk:getOb H k=some ob0)(ho:w'.os=w.os)(ht:w'.tape=w.tape)(hp:w'.output=w.output)(hs:w.heap.size<=w'.heap.size)
  (hw:∀b,b<w.heap.size->¬Blk E k ob0 b->w'.heap[b]? =w.heap[b]?) (ob:Ob) (hB:∀b,Blk E k ob b->Blk E k ob0 b) (hcur:∀v,E.L2 k v->∃v0 ty sz n row,ob= .fam v0 ty sz n row/\v<=v0) (hnew:Step E w E w'->ObOk E w' k ob) (hd:w.drawn<=w'.drawn:=by first|assumption|exact Nat.le_refl _|exact Nat.le_succ _):
  Inv c E (H.set k (some ob)) w'/\Step E w E w':=by
 obtain⟨hL,hA,hN⟩:=h.heap.live k ob0 hk;have hklt:=getOb_lt hk;have hstep:Step E w E w':=⟨Env.le.refl E,fun b hb=>hw b (h.nlt b hb) (fun e=>hN b e hb),fun _ h=>.inl h⟩
 refine⟨h.to ho ht hp hs hstep k (fun m=>m=k) (fun _ h=>h) (fun i o hi hne=> ?_) (fun o hi=> ?_) (fun b hb hn=>hw b hb (hn k ob0 rfl hk)) (fun i hi=>by rw[List.length_set];exact h.heap.lt i hi) h.heap.l2 (fun o i v hi hv=> ?_),hstep⟩
 ·rw[getOb_set hklt,if_neg hne] at hi;exact⟨hi,hne⟩
 ·rw[getOb_set hklt,if_pos rfl] at hi;simp only[Option.some.injEq] at hi;subst hi;exact⟨hL,hnew hstep,fun b hb=>.inr ⟨k,ob0,rfl,hk,hB b hb⟩⟩
 ·rw[getOb_set hklt] at hi;split at hi
  ·rename_i he;subst he;simp only[Option.some.injEq] at hi;subst hi;exact hcur v hv
  ·exact h.heap.cur i o v hi hv

theorem Inv.noL2(h:Inv c E H w){k:Nat}{ob:Ob}(hk:getOb H k=some ob)(hi:ob.isArr=true)(v:Nat):¬E.L2 k v:=fun hv=>by
 obtain⟨v0,ty,sz,n,row,rfl,_⟩:=h.heap.cur k ob v hk hv;cases hi

theorem Inv.write(h:Inv c E H w){k:Nat}{ob0:Ob}(hk:getOb H k=some ob0)(hi0:ob0.isArr=true)(ho:w'.os=w.os)(ht:w'.tape=w.tape)(hp:w'.output=w.output)(hs:w.heap.size<=w'.heap.size)
  (hw:∀b,b<w.heap.size->b≠E.β k->w'.heap[b]? =w.heap[b]?) (hκ:E.κ k≠0) (ob:Ob) (cs:Array Value) (ty:TypeId) (hblk:w'.heap[E.β k]? =some (.cells cs ty (0,0)))
  (hz:ob.toArr.sz=(E.z k).1) (hcs:Siz cs (E.κ k*(E.z k).1) (E.z k).2) (hn:ob.toArr.n<=E.κ k)
  (hl:∀i,i<ob.toArr.n->(ob.toArr.row i).length=ob.toArr.sz) (hone:∀i t,i<ob.toArr.n->t ∈ ob.toArr.row i->oneT t=true) (hcl:ob.toArr.cl=true->∀i t,i<ob.toArr.n->t ∈ ob.toArr.row i->closedT t=true)
  (hr:∀i j t,i<ob.toArr.n->(ob.toArr.row i)[j]? =some t->∃u,cs[i*ob.toArr.sz+j]? =some u/\Rd E w t u) (hia:ob.isArr=true:=by rfl) (hd:w.drawn<=w'.drawn:=by first|assumption|exact Nat.le_refl _|exact Nat.le_succ _):
  Inv c E (H.set k (some ob)) w'/\Step E w E w':=by
 refine h.writeO hk ho ht hp hs (fun b hb hn=>hw b hb fun e=>hn (.inl ⟨hκ,e⟩)) ob (fun b hb=>.inl (hb.arr hia)) (fun v hv=>absurd hv (h.noL2 hk hi0 v)) fun hstep=>ArrOk.ob ⟨hz.symm,hn,hl,hone,hcl,cs,ty,fun _=>hblk,by rw[hz];exact hcs,fun i j t hi hj=> ?_⟩ hia
 obtain⟨u,hu,hrd⟩:=hr i j t hi hj;exact⟨u,hu,hstep.rd hrd⟩

theorem keyThat_int(n:Int):(Instr.keyThatStays (.int .i64 n) (.int .i64 n)).run P w= .ok (.int .i64 n) w:=by
 unfold Instr.keyThatStays;rw[if_pos (by unfold Instr.sameBits;simp)]
 rfl

theorem mapUp_ok(h:Inv c E H w){t:TypeId}{m k x:T}{mv kv xv:Value}{H':Heap}(he:evMapUp P H t m k x=some H')(hm:Rd E w m mv)(hk:Rd E w k kv)(hx:Rd E w x xv):
  ∃w',(Instr.mapUpdate t mv kv xv).run P w= .ok () w'/\Inv c E H' w'/\Step E w E w':=by
 unfold evMapUp at he;split at he
 ·rename_i j n;split at he
  ·rename_i bo get hob;split at he
   ·rename_i v hb hv;simp only[Option.some.injEq] at he;subst he;rw[rd_int hk];obtain⟨kt,et,hu,hku,hz0⟩:=mapB_ok (w:=w) hb;clear hz0;obtain⟨hL,⟨hκ,es,clock,hblk,hi,hg⟩,hN⟩:=h.heap.live j _ hob;have hxv:xv=mvalue bo v:=by
     unfold munT at hv;split at hv
     ·cases bo
      ·simp only[Option.some.injEq] at hv;subst hv;exact rd_int hx
      ·cases hv
     ·cases bo
      ·cases hv
      ·rename_i b;simp only[Option.some.injEq] at hv;subst hv;rw[rd_bool hx];cases b<;>rfl
     ·cases hv
    have hck:=checkKey_int (w:=w) hku false 9999 n;cases hm with
    |mpr _ _=>
     have fin:∀(es':Array MapEntry) (clock':Nat),MapI bo (fun i=>cond (decide (i=n)) v (get i)) es'.toList->
       Inv c E (H.set j (some (.mp bo fun i=>cond (decide (i=n)) v (get i)))) {w with heap:=w.heap.setIfInBounds (E.β j) (.map es' clock')}/\Step E w E {w with heap:=w.heap.setIfInBounds (E.β j) (.map es' clock')}:=by
      intro es' clock' hI;have hlt:E.β j<w.heap.size:=(Array.getElem?_eq_some_iff.1 hblk).1
      have ho:∀b,b≠E.β j->(w.heap.setIfInBounds (E.β j) (.map es' clock'))[b]? =w.heap[b]? :=fun b hne=>by rw[Array.getElem?_setIfInBounds,if_neg (Ne.symm hne)]
      have hn:(w.heap.setIfInBounds (E.β j) (.map es' clock'))[E.β j]? =some (.map es' clock'):=by rw[Array.getElem?_setIfInBounds,if_pos rfl,if_pos hlt]
      exact h.writeO (w':={w with heap:=w.heap.setIfInBounds (E.β j) (.map es' clock')}) hob rfl rfl rfl (by simp) (fun b _ hne=>ho b fun e=>hne (.inl ⟨hκ,e⟩)) (.mp bo fun i=>cond (decide (i=n)) v (get i)) (fun b hb=>by
       rcases hb with hb|hb
       ·exact .inl hb
       ·exact(hb.not (by rintro v ty sz n row he;cases he)).elim) (fun v hv=>by
       obtain⟨v0,ty,sz,n,row,he,_⟩:=h.heap.cur j _ v hob hv;cases he) fun _=>(⟨hκ,es',clock',hn,hI⟩:MapOk E _ j bo _)
     have hmi:∀(l:List MapEntry),(∀e ∈ l,∃m,e.key= .int .i64 m)->(∀n',lk n' l=if n'=n then some xv else lk n' es.toList)->MapI bo (fun i=>cond (decide (i=n)) v (get i)) l:=by
      intro l h1 h2;refine⟨h1,fun n'=> ?_⟩
      rw[h2 n'];by_cases hn:n'=n
      ·rw[if_pos hn];simp[hn,hxv]
      ·rw[if_neg hn];have:=hg n';simp only[hn,decide_false,cond_false];exact this
     cases hl:lk n es.toList with
     |none=>
      have hf:=MapKept.run_findKey (w:=w) hku (findNow_none es.toList 0 hi hl);refine⟨_,?_,fin (es.push {key:=.int .i64 n,val:=xv,born:=clock}) (clock+1) (hmi _ (fun e he=> ?_) fun n'=> ?_)⟩
      ·simp only[Instr.mapUpdate,Sem.run_bind,run_underlying hu,Result.andThen_ok,MapKept.run_getObj_map hblk,hck,hf];exact MapKept.run_setObj_map _ hblk
      ·simp only[Array.toList_push,List.mem_append,List.mem_singleton] at he;rcases he with he|rfl
       ·exact hi e he
       ·exact⟨n,rfl⟩
      ·have key:∀l:List MapEntry,(∀e ∈ l,∃m,e.key= .int .i64 m)->lk n l=none->lk n' (l++[{key:=.int .i64 n,val:=xv,born:=clock}])=if n'=n then some xv else lk n' l:=by
        intro l;induction l with
        |nil=>intro _ _;simp[lk]
        |cons e l ih=>
         intro hi hn;obtain⟨m,hm⟩:=hi e (by simp)
         simp only[List.cons_append,lk,hm] at hn ⊢;split at hn
         ·cases hn
         ·rename_i hne;split
          ·rename_i he;subst he;rw[if_neg (Ne.symm hne)]
          ·exact ih (fun e he=>hi e (by simp[he])) hn
       rw[Array.toList_push];exact key es.toList hi hl
     |some v0=>
      obtain⟨i,e,he,hek,_,hfn,hmod⟩:=findNow_some es.toList 0 hi hl;obtain⟨g1,g2⟩:=hmod xv;have hf:=MapKept.run_findKey (w:=w) hku hfn;refine⟨_,?_,fin (es.modify i fun e=>{e with key:=.int .i64 n,val:=xv}) clock (hmi _ (fun e he=> ?_) fun n'=> ?_)⟩
      ·have hei:es[i]? =some e:=by simpa using he
       simp only[Instr.mapUpdate,Sem.run_bind,run_underlying hu,Result.andThen_ok,MapKept.run_getObj_map hblk,hck,hf,Nat.zero_add,hei,Option.map_some,hek,Option.getD_some,keyThat_int];exact MapKept.run_setObj_map _ hblk
      ·rw[Array.toList_modify] at he;exact g1 e he
      ·rw[Array.toList_modify];exact g2 n'
   ·cases he
  ·cases he
 ·cases he

theorem mapUp2_ok(h:Inv c E H w){t:TypeId}{m k x:T}{mv kv xv:Value}{H':Heap}{side:Option Prop}(he:evMapUp2 P H t m k x=some (H',side))(hs:side.getD True)(hm:Rd E w m mv)(hk:Rd E w k kv)(hx:Rd E w x xv):
  ∃w',(Instr.mapUpdate t mv kv xv).run P w= .ok () w'/\Inv c E H' w'/\Step E w E w':=by
 unfold evMapUp2 at he;split at he
 ·rename_i j a b v;split at he
  ·rename_i get hob;split at he
   ·rename_i hb;simp only[Option.some.injEq,Prod.mk.injEq] at he;obtain⟨rfl,rfl⟩:=he;obtain⟨ra,rb⟩:=hs;obtain⟨kt,et,hu,K,hp,hk',_⟩:=map2_ok (w:=w) hb;obtain⟨hL,⟨hκ,es,clock,hblk,hent,hex,hnd⟩,hN⟩:=h.heap.live j _ hob;obtain⟨l,hl⟩:=pair_key hp hk' ra rb;have hkv:kv=pairV a b:=by
     cases hk with
     |agg _ vs hlen ht=>
      obtain⟨v0,v1,rfl⟩:∃v0 v1,vs= #[v0,v1]:=by
       match vs,hlen with
       |⟨[v0,v1]⟩,_=>exact⟨v0,v1,rfl⟩
      rw[rd_int (ht 0 _ v0 rfl rfl),rd_int (ht 1 _ v1 rfl rfl)];rfl
    subst hkv;rw[rd_bool hx];have hall:∀e ∈ es.toList,∃l,keyOf P kt e.key=some l:=fun e he=>by
     obtain⟨a',b',r1,r2,hke,_⟩:=hent e he;rw[hke];exact pair_key hp hk' r1 r2
    cases hm with
    |mpr _ _=>
     have fin:∀(es':Array MapEntry) (clock':Nat),(∀e ∈ es'.toList,∃a1 b1,Rng .i64 a1/\Rng .i64 b1/\e.key=pairV a1 b1/\e.val= .bool (cond (decide (a1=a/\b1=b)) v (get a1 b1)))->
       (∀a1 b1,cond (decide (a1=a/\b1=b)) v (get a1 b1)=true->∃e ∈ es'.toList,e.key=pairV a1 b1)->(es'.toList.map (·.key)).Nodup->
       Inv c E (H.set j (some (.mp2 fun a' b'=>cond (decide (a'=a/\b'=b)) v (get a' b')))) {w with heap:=w.heap.setIfInBounds (E.β j) (.map es' clock')}/\Step E w E {w with heap:=w.heap.setIfInBounds (E.β j) (.map es' clock')}:=by
      intro es' clock' g1 g2 g3;have hlt:E.β j<w.heap.size:=(Array.getElem?_eq_some_iff.1 hblk).1
      have ho:∀b,b≠E.β j->(w.heap.setIfInBounds (E.β j) (.map es' clock'))[b]? =w.heap[b]? :=fun b hne=>by rw[Array.getElem?_setIfInBounds,if_neg (Ne.symm hne)]
      have hn:(w.heap.setIfInBounds (E.β j) (.map es' clock'))[E.β j]? =some (.map es' clock'):=by rw[Array.getElem?_setIfInBounds,if_pos rfl,if_pos hlt]
      exact h.writeO (w':={w with heap:=w.heap.setIfInBounds (E.β j) (.map es' clock')}) hob rfl rfl rfl (by simp) (fun b _ hne=>ho b fun e=>hne (.inl ⟨hκ,e⟩)) (.mp2 fun a' b'=>cond (decide (a'=a/\b'=b)) v (get a' b')) (fun b hb=>by
       rcases hb with hb|hb
       ·exact .inl hb
       ·exact(hb.not (by rintro v ty sz n row he;cases he)).elim) (fun v hv=>by
       obtain⟨v0,ty,sz,n,row,he,_⟩:=h.heap.cur j _ v hob hv;cases he) fun _=>(⟨hκ,es',clock',hn,g1,g2,g3⟩:MapOk2 E _ j _)
     rcases K.find w hl es.toList hall with⟨h1,h2⟩|⟨i,e,h1,h2,h3⟩
     ·refine⟨_,?_,fin (es.push {key:=pairV a b,val:=.bool v,born:=clock}) (clock+1) (fun e he=> ?_) (fun a1 b1 hg=> ?_) ?_⟩
      ·simp only[Instr.mapUpdate,Sem.run_bind,run_underlying hu,Result.andThen_ok,MapKept.run_getObj_map hblk,K.check w _ hl,h1];exact MapKept.run_setObj_map _ hblk
      ·simp only[Array.toList_push,List.mem_append,List.mem_singleton] at he;rcases he with he|rfl
       ·obtain⟨a1,b1,r1,r2,r3,r4⟩:=hent e he;refine⟨a1,b1,r1,r2,r3,?_⟩
        rw[decide_eq_false (fun hh=>h2 e he (by rw[r3,hh.1,hh.2]))]
        exact r4
       ·exact⟨a,b,ra,rb,rfl,by simp⟩
      ·simp only[Array.toList_push,List.mem_append,List.mem_singleton];by_cases hab:a1=a/\b1=b
       ·exact⟨_,.inr rfl,by rw[hab.1,hab.2]⟩
       ·rw[decide_eq_false hab] at hg;obtain⟨e,he,hke⟩:=hex a1 b1 hg;exact⟨e,.inl he,hke⟩
      ·rw[Array.toList_push,List.map_append,List.nodup_append];refine⟨hnd,by simp,fun y hy z hz=> ?_⟩
       obtain⟨e,he,rfl⟩:=List.mem_map.1 hy;simp only[List.map_cons,List.map_nil,List.mem_singleton] at hz;rw[hz];exact h2 e he
     ·have hei:es[i]? =some e:=by simpa using h2
      have hmod:∀p,(es.toList.modify i fun e=>{e with key:=pairV a b,val:=Value.bool v})[p]? =if i=p then some {e with key:=pairV a b,val:=.bool v} else es.toList[p]? :=fun p=>by
       rw[List.getElem?_modify]
       by_cases hip:i=p
       ·subst hip;rw[h2];simp
       ·simp[hip]
      have hkeys:(es.toList.modify i fun e=>{e with key:=pairV a b,val:=Value.bool v}).map (·.key)=es.toList.map (·.key):=by
       refine List.ext_getElem? fun p=> ?_
       rw[List.getElem?_map,List.getElem?_map,hmod]
       by_cases hip:i=p
       ·subst hip;rw[if_pos rfl,h2];simp[h3]
       ·rw[if_neg hip]
      refine⟨_,?_,fin (es.modify i fun e=>{e with key:=pairV a b,val:=.bool v}) clock (fun e' he'=> ?_) (fun a1 b1 hg=> ?_) (by rw[Array.toList_modify,hkeys];exact hnd)⟩
      ·simp only[Instr.mapUpdate,Sem.run_bind,run_underlying hu,Result.andThen_ok,MapKept.run_getObj_map hblk,K.check w _ hl,h1,hei,Option.map_some,h3,Option.getD_some,K.stays w hl];exact MapKept.run_setObj_map _ hblk
      ·rw[Array.toList_modify] at he';obtain⟨p,hp'⟩:=List.mem_iff_getElem?.1 he';rw[hmod] at hp';by_cases hip:i=p
       ·rw[if_pos hip] at hp';simp only[Option.some.injEq] at hp';subst hp';exact⟨a,b,ra,rb,rfl,by simp⟩
       ·rw[if_neg hip] at hp';obtain⟨a1,b1,r1,r2,r3,r4⟩:=hent e' (List.mem_of_getElem? hp');refine⟨a1,b1,r1,r2,r3,?_⟩
        rw[decide_eq_false (fun hh=>hip ?_)]
        ·exact r4
        ·have q1:(es.toList.map (·.key))[i]? =some (pairV a b):=by rw[List.getElem?_map,h2];simp[h3]
         have q2:(es.toList.map (·.key))[p]? =some (pairV a b):=by rw[List.getElem?_map,hp'];simp[r3,hh.1,hh.2]
         obtain⟨l1,e1⟩:=List.getElem?_eq_some_iff.1 q1
         obtain⟨l2,e2⟩:=List.getElem?_eq_some_iff.1 q2
         have hpw:=List.pairwise_iff_getElem.1 hnd;rcases Nat.lt_trichotomy i p with hlt|heq|hgt
         ·exact absurd (e1.trans e2.symm) (hpw i p l1 l2 hlt)
         ·exact heq
         ·exact absurd (e2.trans e1.symm) (hpw p i l2 l1 hgt)
      ·rw[Array.toList_modify];have hk2:∃y ∈ es.toList.map (·.key),y=pairV a1 b1:=by
        by_cases hab:a1=a/\b1=b
        ·exact⟨_,List.mem_map.2 ⟨e,List.mem_of_getElem? h2,rfl⟩,by rw[h3,hab.1,hab.2]⟩
        ·rw[decide_eq_false hab] at hg;obtain⟨e',he',hke⟩:=hex a1 b1 hg;exact⟨_,List.mem_map.2 ⟨e',he',rfl⟩,hke⟩
       obtain⟨y,hy,rfl⟩:=hk2;rw[←hkeys] at hy;obtain⟨e',he',hke⟩:=List.mem_map.1 hy;exact⟨e',he',hke⟩
   ·cases he
  ·cases he
 ·cases he

theorem Inv.drop(h:Inv c E H w)(k:Nat):Inv c E (H.set k none) w:=by
 have key:∀i o,getOb (H.set k none) i=some o->getOb H i=some o/\i≠k:=by
  intro i o hi;by_cases hk:k<H.length
  ·rw[getOb_set hk] at hi;split at hi
   ·cases hi
   ·rename_i hne;exact⟨hi,hne⟩
  ·rw[List.set_eq_of_length_le (by omega)] at hi
   exact⟨hi,fun e=>by have:=getOb_lt hi;omega⟩
 exact⟨⟨fun i ob hi=>h.heap.live i ob (key i ob hi).1,fun i i' o o' b hi hi'=>h.heap.inj i i' o o' b (key i o hi).1 (key i' o' hi').1,fun i hi=>by rw[List.length_set];exact h.heap.lt i hi,h.heap.l2,fun i ob v hi=>h.heap.cur i ob v (key i ob hi).1⟩,
  h.nlt,h.nnew,fun i ob b hi=>h.bnew i ob b (key i ob hi).1,h.fr,h.keep⟩

theorem oneT_ok{x:T}{v:Value}(hx:Rd E w x v)(h1:oneT x=true):v.oneCell'=true:=by
 cases hx with
 |v=>cases v<;>first|rfl|(simp[oneT] at h1)
 |agg=>simp[oneT] at h1
 |tup=>simp[oneT] at h1
 |und=>simp[oneT] at h1
 |_=>rfl

theorem setCells_same(P:Program)(w:World)(b o:Nat)(ty:TypeId)(cs:Array Value)(news:List Value)(hb:w.heap[b]? =some (.cells cs ty (0,0)))(hfit:o+news.length<=cs.size)(h1:∀v ∈ news,v.oneCell'=true):
  ∃w',(storeCells ⟨b,o,none⟩ news).run P w= .ok () w'/\w'.os=w.os/\w'.tape=w.tape/\w'.output=w.output/\w.drawn<=w'.drawn/\w'.heap.size=w.heap.size/\(∀k,k≠b->w'.heap[k]? =w.heap[k]?)/\
   ∃cs',w'.heap[b]? =some (.cells cs' ty (0,0))/\cs'.size=cs.size/\(∀i,i<o∨o+news.length<=i->cs'[i]? =cs[i]?)/\∀i,i<news.length->cs'[o+i]? =news[i]? :=by
 have hst:=run_storeCells_at P b o ty news 0 cs w hb (by simpa using hfit) h1
 refine⟨_,hst,rfl,rfl,rfl,Nat.le_refl _,by simp[World.setRow],fun k hk=>setRow_other w b k _ hk,_,setRow_heap w b cs _ ty _ hb,?_,fun i hi=> ?_,fun i hi=> ?_⟩
 ·simp;omega
 ·simp only[Nat.add_zero,List.getElem?_toArray,List.getElem?_append,List.length_append,List.length_take,Array.length_toList,List.getElem?_take,List.getElem?_drop]
  rw[Nat.min_eq_left (by omega)]
  rcases hi with hi|hi
  ·rw[if_pos (by omega),if_pos hi,if_pos hi]
   simp
  ·rw[if_neg (by omega)]
   simp only[Array.getElem?_toList]
   congr 1
   omega
 ·simp only[Nat.add_zero,List.getElem?_toArray,List.getElem?_append,List.length_append,List.length_take,Array.length_toList,List.getElem?_take,List.getElem?_drop]
  rw[Nat.min_eq_left (by omega)]
  rw[if_pos (by omega),if_neg (by omega)]
  congr 1
  omega


theorem rows_apart{i r sz j m j':Nat}(hr:r≠i)(hj:j+m<=sz)(hj':j'<sz):r*sz+j'<i*sz+j∨i*sz+j+m<=r*sz+j':=by
 rcases Nat.lt_or_gt_of_ne hr with h|h
 ·left
  have:(r+1)*sz<=i*sz:=Nat.mul_le_mul_right _ h;rw[Nat.add_mul] at this;omega
 ·right
  have:(i+1)*sz<=r*sz:=Nat.mul_le_mul_right _ h;rw[Nat.add_mul] at this;omega

theorem row_fits{i n sz j m κ:Nat}(hi:i<n)(hn:n<=κ)(hj:j+m<=sz):i*sz+j+m<=κ*sz:=by
 have:(i+1)*sz<=κ*sz:=Nat.mul_le_mul_right _ (by omega)
 rw[Nat.add_mul] at this;omega

theorem ofI_eq{m:Int}(h:Rng .u8 m):((ofI m).toNat:Int)=m:=by
 obtain⟨h1,h2⟩:=h;have h1':0<=m:=h1;have h2':m<=255:=h2;unfold ofI;rw[UInt8.toNat_ofNat'];omega

theorem mrg_eq(b:Bool)(x y:T):mrg b x y=match b with|true=>x|false=>y:=by
 unfold mrg;split
 ·split
  ·rename_i h;obtain rfl:=of_decide_eq_true h;cases b<;>rfl
  ·cases b<;>rfl
 ·cases b<;>rfl
 ·cases b<;>rfl
 ·split
  ·rename_i h1 h2;obtain rfl:=of_decide_eq_true h1;obtain rfl:=of_decide_eq_true h2;cases b<;>rfl
  ·cases b<;>rfl
 ·cases b<;>rfl

theorem zipB_eq(b:Bool):∀(xs os:List T),xs.length<=os.length->zipB b xs os=match b with|true=>xs++os.drop xs.length|false=>os:=by
 intro xs;induction xs with
 |nil=>intro os _;cases b<;>cases os<;>simp[zipB]
 |cons x xs ih=>
  intro os h;cases os with
  |nil=>simp at h
  |cons o os=>
   simp only[zipB,mrg_eq,ih os (by simpa using h)]
   cases b<;>simp

theorem putB_eq(b:Bool):∀(j:Nat) (xs os:List T),j+xs.length<=os.length->putB b j xs os=match b with|true=>os.take j++xs++os.drop (j+xs.length)|false=>os:=by
 intro j;induction j with
 |zero=>intro xs os h;simp only[putB,zipB_eq b xs os (by omega)];cases b<;>simp
 |succ j ih=>
  intro xs os h;cases os with
  |nil=>simp at h
  |cons o os=>
   simp only[putB,ih xs os (by simp at h;omega)]
   cases b
   ·rfl
   ·simp only[List.take_succ_cons,List.cons_append];rw[show j+1+xs.length=(j+xs.length)+1 by omega,List.drop_succ_cons]

theorem setRow_eq{row:Nat->List T}{i j k:Nat}{cs:List T}(h:j+cs.length<=(row k).length):setRow row i j cs k=match Nat.beq k i with|true=>(row k).take j++cs++(row k).drop (j+cs.length)|false=>row k:=by
 unfold setRow;rw[putB_eq _ _ _ _ h]

theorem arr_store{k:Nat}{A:Arr}(hA:ArrOk E w k A){i j:Nat}(hi:i<A.n){xs:List T}{vs:List Value}(hj:j+xs.length<=A.sz)(hone:∀t ∈ xs,oneT t=true)(hlen:vs.length=xs.length)
  (hxt:∀(m:Nat) (t:T) (v:Value),xs[m]? =some t->vs[m]? =some v->Rd E w t v):
  ∃w',(storeCells ⟨E.β k,i*(E.z k).1+j,none⟩ vs).run P w= .ok () w'/\w'.os=w.os/\w'.tape=w.tape/\w'.output=w.output/\w.drawn<=w'.drawn/\w'.heap.size=w.heap.size/\(∀b,b≠E.β k->w'.heap[b]? =w.heap[b]?)/\
   ∃cs ty,w'.heap[E.β k]? =some (.cells cs ty (0,0))/\Siz cs (E.κ k*A.sz) (E.z k).2/\(∀r,r<A.n->(setRow A.row i j xs r).length=A.sz)/\(∀r t,r<A.n->t ∈ setRow A.row i j xs r->oneT t=true)/\
    (A.cl=true->(∀t ∈ xs,closedT t=true)->∀r t,r<A.n->t ∈ setRow A.row i j xs r->closedT t=true)/\
    ∀r q t,r<A.n->(setRow A.row i j xs r)[q]? =some t->∃u,cs[r*A.sz+q]? =some u/\Rd E w t u/\((r=i/\j<=q/\q<j+xs.length/\xs[q-j]? =some t)∨(¬ (r=i/\j<=q/\q<j+xs.length)/\(A.row r)[q]? =some t)):=by
 obtain⟨hz,hn,hl,hold1,hcl,cs,ty',hb,hcs,hr⟩:=hA;have hb:=hb (by omega)
 have hsr:∀r,r<A.n->setRow A.row i j xs r=match Nat.beq r i with|true=>(A.row r).take j++xs++(A.row r).drop (j+xs.length)|false=>A.row r:=fun r hr=>setRow_eq (by rw[hl r hr];exact hj)
 have hones:∀v ∈ vs,v.oneCell'=true:=by
  intro v hv;obtain⟨m,hm,rfl⟩:=List.mem_iff_getElem.1 hv;have h1:m<xs.length:=by omega
  exact oneT_ok (hxt m _ _ (List.getElem?_eq_getElem h1) (List.getElem?_eq_getElem hm)) (hone _ (List.getElem_mem h1))
 obtain⟨w',hst,ho,ht,hp,hdr,hsize,hoth,cs',hb',hcs',hout,hin⟩:=setCells_same P w (E.β k) (i*(E.z k).1+j) ty' cs vs hb (Nat.le_trans (by rw[hlen,hz];exact row_fits hi hn hj) hcs.le) hones
 refine⟨w',hst,ho,ht,hp,hdr,hsize,hoth,cs',ty',hb',hcs.keep hcs' fun q hq=>hout q (.inr (by rw[hlen,hz];exact Nat.le_trans (row_fits hi hn hj) hq)),fun r hr'=> ?_,fun r t hr' ht=> ?_,fun hcl' hxc r t hr' ht=> ?_,fun r j' t hr' hj'=> ?_⟩
 ·rw[hsr r hr'];split
  ·rename_i hbeq;obtain rfl:=Nat.eq_of_beq_eq_true hbeq;simp only[List.length_append,List.length_take,List.length_drop,hl r hi];omega
  ·exact hl r hr'
 ·rw[hsr r hr'] at ht;split at ht
  ·rename_i hbeq;obtain rfl:=Nat.eq_of_beq_eq_true hbeq;simp only[List.mem_append] at ht;rcases ht with(ht|ht)|ht
   ·exact hold1 r t hi (List.mem_of_mem_take ht)
   ·exact hone t ht
   ·exact hold1 r t hi (List.mem_of_mem_drop ht)
  ·exact hold1 r t hr' ht
 ·rw[hsr r hr'] at ht;split at ht
  ·rename_i hbeq;obtain rfl:=Nat.eq_of_beq_eq_true hbeq;simp only[List.mem_append] at ht;rcases ht with(ht|ht)|ht
   ·exact hcl hcl' r t hi (List.mem_of_mem_take ht)
   ·exact hxc t ht
   ·exact hcl hcl' r t hi (List.mem_of_mem_drop ht)
  ·exact hcl hcl' r t hr' ht
 ·rw[hsr r hr'] at hj';split at hj'
  ·rename_i hbeq;obtain rfl:=Nat.eq_of_beq_eq_true hbeq;have hrl:=hl r hi;simp only[List.getElem?_append,List.length_append,List.length_take,List.getElem?_take,List.getElem?_drop] at hj'
   rw[Nat.min_eq_left (by omega)] at hj'
   by_cases h1:j'<j+xs.length
   ·rw[if_pos h1] at hj';by_cases h2:j'<j
    ·rw[if_pos h2,if_pos h2] at hj';obtain⟨u,hu,hrd⟩:=hr r j' t hi hj';exact⟨u,by rw[hout _ (.inl (by rw[hz];omega))];exact hu,hrd,.inr ⟨by omega,hj'⟩⟩
    ·rw[if_neg h2] at hj';have h3:j'-j<vs.length:=by rw[hlen];omega
     have h4:=hin (j'-j) h3;rw[List.getElem?_eq_getElem h3] at h4
     exact⟨_,by rw[←hz,show r*(E.z k).1+j'=r*(E.z k).1+j+(j'-j) by omega];exact h4,hxt _ _ _ hj' (List.getElem?_eq_getElem h3),.inl ⟨rfl,by omega,h1,hj'⟩⟩
   ·rw[if_neg h1] at hj';have hj'':(A.row r)[j']? =some t:=by
     rw[←hj'];congr 1
     omega
    obtain⟨u,hu,hrd⟩:=hr r j' t hi hj'';exact⟨u,by rw[hout _ (.inr (by rw[hlen,hz];omega))];exact hu,hrd,.inr ⟨by omega,hj''⟩⟩
  ·rename_i hbeq;have hne:r≠i:=Nat.ne_of_beq_eq_false hbeq;obtain⟨u,hu,hrd⟩:=hr r j' t hr' hj';have hj'':j'<A.sz:=by
    have:=(List.getElem?_eq_some_iff.1 hj').1
    rw[hl r hr'] at this;exact this
   exact⟨u,by rw[hout _ (by rw[hlen,hz];exact rows_apart hne hj hj'')];exact hu,hrd,.inr ⟨fun h=>hne h.1,hj'⟩⟩

def viewT(k v i j:Nat):T->T
 | .own _ _ n _=>.posl k v i j n
 |t=>t

theorem viewC_get(k v i:Nat):∀(l:List T) (j q:Nat),(viewC k v i j l)[q]? =(l[q]?).map (viewT k v i (j+q)):=by
 intro l;induction l with
 |nil=>intro j q;simp[viewC]
 |cons t l ih=>
  intro j q;cases q with
  |zero=>cases t<;>rfl
  |succ q=>
   have:=ih (j+1) q;rw[show j+1+q=j+(q+1) by omega] at this
   cases t<;>exact this

theorem viewR_get(k v i q:Nat)(row:Nat->List T):(viewR k v row i)[q]? =((row i)[q]?).map (viewT k v i q):=by
 unfold viewR;rw[viewC_get,Nat.zero_add]

theorem viewR_length(k v i:Nat)(row:Nat->List T):(viewR k v row i).length=(row i).length:=by
 unfold viewR;generalize row i=l;generalize 0=j;induction l generalizing j with
 |nil=>rfl
 |cons t l ih=>cases t<;>simp[viewC,ih]

theorem closedOne_ok{t:T}(h:closedOne t=true):closedT t=true/\oneT t=true:=by simpa[closedOne] using h

theorem famT_cases{t:T}(h:famT t=true):(∃ty sz n row,t= .own ty sz n row)∨(closedOne t=true/\isOwn t=false):=by
 cases t<;>simp_all [famT,isOwn]

theorem viewT_closed{k v i j:Nat}{t:T}(h:closedOne t=true):viewT k v i j t=t:=by
 cases t<;>first|rfl|(simp[closedOne,closedT] at h)

theorem fam_build{k v:Nat}{ty:TypeId}{sz n:Nat}{row:Nat->List T}(hL2:E.L2 k v)(hz:(E.z k).1=sz)(hn:n<=E.κ k)(cs:Array Value)(tyb:TypeId)(hblk:E.κ k≠0->w.heap[E.β k]? =some (.cells cs tyb (0,0)))
  (hcs:Siz cs (E.κ k*sz) (E.z k).2) (hl:∀r,r<n->(row r).length=sz)
  (hcell:∀r q t,r<n->(row r)[q]? =some t->∃u,cs[r*sz+q]? =some u/\((closedOne t=true/\Rd E w t u)∨∃oty osz on orow,t= .own oty osz on orow/\Rd E w (.posl k v r q on) u/\ArrOk (E.sub k v r q osz) w 0 ⟨true,oty,osz,on,orow⟩/\(E.c2 k v r q≠0->E.κ k≠0->E.b2 k v r q≠E.β k)))
  (hinj:∀i j i' j' oty osz on orow oty' osz' on' orow',i<n->i'<n->(row i)[j]? =some (.own oty osz on orow)->(row i')[j']? =some (.own oty' osz' on' orow')->E.c2 k v i j≠0->E.c2 k v i' j'≠0->E.b2 k v i j=E.b2 k v i' j'->i=i'/\j=j'):
  FamOk E w k v ty sz n row:=by
 have hfam:∀i t,i<n->t ∈ row i->famT t=true:=fun i t hi ht=>by
  obtain⟨q,hq⟩:=List.getElem?_of_mem ht
  obtain⟨u,_,h|⟨oty,osz,on,orow,rfl,_⟩⟩:=hcell i q t hi hq
  ·simp[famT,h.1]
  ·rfl
 refine⟨hL2,⟨hz,hn,fun i hi=> ?_,fun i t hi ht=> ?_,fun h=>(by cases h),cs,tyb,hblk,hcs,fun i j t hi hj=> ?_⟩,hfam,fun i j oty osz on orow hi hj=> ?_,hinj⟩
 ·simp only[viewR_length];exact hl i hi
 ·obtain⟨q,hq⟩:=List.getElem?_of_mem ht
  simp only at hq;rw[viewR_get,Option.map_eq_some_iff] at hq;obtain⟨t0,h0,rfl⟩:=hq;rcases famT_cases (hfam i t0 hi (List.mem_of_getElem? h0)) with⟨_,_,_,_,rfl⟩|⟨h1,_⟩
  ·rfl
  ·rw[viewT_closed h1];exact(closedOne_ok h1).2
 ·simp only at hj;rw[viewR_get,Option.map_eq_some_iff] at hj;obtain⟨t0,h0,rfl⟩:=hj;obtain⟨u,hu,h|⟨oty,osz,on,orow,rfl,h1,_⟩⟩:=hcell i j t0 hi h0
  ·exact⟨u,hu,by rw[viewT_closed h.1];exact h.2⟩
  ·exact⟨u,hu,h1⟩
 ·obtain⟨u,hu,h|⟨oty',osz',on',orow',he,_,h2,h3⟩⟩:=hcell i j _ hi hj
  ·simp[closedOne,closedT] at h
  ·cases he;exact⟨h2,h3⟩

theorem FamOk.cell{k v:Nat}{ty:TypeId}{sz n:Nat}{row:Nat->List T}(h:FamOk E w k v ty sz n row){i j:Nat}{t:T}(hi:i<n)(hj:(row i)[j]? =some t):
  (closedOne t=true)∨∃oty osz on orow,t= .own oty osz on orow:=by
 rcases famT_cases (h.fam i t hi (List.mem_of_getElem? hj)) with⟨a,b,c,d,rfl⟩|⟨h1,_⟩
 ·exact .inr ⟨a,b,c,d,rfl⟩
 ·exact .inl h1

abbrev Srcs:=Nat->Nat->(Nat×Nat) ⊕ Nat

def srcB2(E:Env)(k v:Nat):(Nat×Nat) ⊕ Nat->Nat
 | .inl p=>E.b2 k v p.1 p.2
 | .inr m=>E.β m
def srcC2(E:Env)(k v:Nat):(Nat×Nat) ⊕ Nat->Nat
 | .inl p=>E.c2 k v p.1 p.2
 | .inr m=>E.κ m

def SrcOk(E:Env)(w:World)(H:Heap)(k v n0:Nat)(row0:Nat->List T)(osz on:Nat)(orow:Nat->List T)(u:Value):(Nat×Nat) ⊕ Nat->Prop
 | .inl p=>p.1<n0/\(∃oty,(row0 p.1)[p.2]? =some (.own oty osz on orow))/\Rd E w (.posl k v p.1 p.2 on) u
 | .inr m=>m≠k/\(∃oty N,getOb H m=some (.arr true oty osz N orow)/\on<=N)/\Rd E w (.osl m 0 on) u

theorem fam_move{E':Env}(hH:HeapOk E w H)(hst:Step E w E' w'){k v:Nat}{ty0:TypeId}{sz0 n0:Nat}{row0:Nat->List T}(hk:getOb H k=some (.fam v ty0 sz0 n0 row0)){K V:Nat}{ty:TypeId}{sz n:Nat}{row:Nat->List T}(S:Srcs)
  (hL2:E'.L2 K V) (hb2:∀r q,E'.b2 K V r q=srcB2 E k v (S r q)) (hc2:∀r q,E'.c2 K V r q=srcC2 E k v (S r q))
  (hz:(E'.z K).1=sz) (hn:n<=E'.κ K) (cs:Array Value) (tyb:TypeId) (hblk:E'.κ K≠0->w'.heap[E'.β K]? =some (.cells cs tyb (0,0))) (hcs:Siz cs (E'.κ K*sz) (E'.z K).2) (hl:∀r,r<n->(row r).length=sz)
  (hcell:∀r q t,r<n->(row r)[q]? =some t->∃u,cs[r*sz+q]? =some u/\((closedOne t=true/\Rd E w t u)∨∃oty osz on orow,t= .own oty osz on orow/\SrcOk E w H k v n0 row0 osz on orow u (S r q)))
  (hS:∀i j i' j' oty osz on orow oty' osz' on' orow',i<n->i'<n->(row i)[j]? =some (.own oty osz on orow)->(row i')[j']? =some (.own oty' osz' on' orow')->S i j=S i' j'->i=i'/\j=j')
  (hkeep:∀b,((∃r q,b=E.b2 k v r q/\E.c2 k v r q≠0/\OwnB E k (.fam v ty0 sz0 n0 row0) b)∨∃m o,m≠k/\getOb H m=some o/\Blk E m o b)->w'.heap[b]? =w.heap[b]?)
  (hap:∀b,((∃r q,b=E.b2 k v r q/\E.c2 k v r q≠0/\OwnB E k (.fam v ty0 sz0 n0 row0) b)∨∃m o,m≠k/\getOb H m=some o/\Blk E m o b)->E'.κ K≠0->b≠E'.β K):
  FamOk E' w' K V ty sz n row:=by
 obtain⟨hL,hF,_⟩:=hH.live k _ hk;have hF:FamOk E w k v ty0 sz0 n0 row0:=hF;have src:∀{osz on:Nat} {orow:Nat->List T} {u:Value} {x:(Nat×Nat) ⊕ Nat},SrcOk E w H k v n0 row0 osz on orow u x->srcC2 E k v x≠0->(∃r q,srcB2 E k v x=E.b2 k v r q/\E.c2 k v r q≠0/\OwnB E k (.fam v ty0 sz0 n0 row0) (srcB2 E k v x))∨∃m o,m≠k/\getOb H m=some o/\Blk E m o (srcB2 E k v x):=by
  intro osz on orow u x hx hc;cases x with
  |inl p=>
   obtain⟨h1,⟨oty,h2⟩,_⟩:=hx;exact .inl ⟨p.1,p.2,rfl,hc,v,ty0,sz0,n0,row0,p.1,p.2,oty,osz,on,orow,rfl,h1,h2,hc,rfl⟩
  |inr m=>
   obtain⟨h1,⟨oty,N,h2,_⟩,_⟩:=hx;exact .inr ⟨m,_,h1,h2,.inl ⟨hc,rfl⟩⟩
 refine fam_build hL2 hz hn cs tyb hblk hcs hl (fun r q t hr hq=> ?_) (fun i j i' j' oty osz on orow oty' osz' on' orow' hi hi' hj hj' hc hc' he=> ?_)
 ·obtain⟨u,hu,h|⟨oty,osz,on,orow,rfl,hs⟩⟩:=hcell r q t hr hq
  ·exact⟨u,hu,.inl ⟨h.1,hst.rd h.2⟩⟩
  ·refine⟨u,hu,.inr ⟨oty,osz,on,orow,rfl,?_,?_,fun hc hκ=>by rw[hb2];rw[hc2] at hc;exact hap _ (src hs hc) hκ⟩⟩
   ·cases hx:S r q with
    |inl p=>
     rw[hx] at hs;obtain⟨_,_,hrd⟩:=hs;cases hrd with
     |posl _ _ _ _ _ a hL hn ha=>
      have:=Rd.posl (E:=E') (w:=w') K V r q on a hL2 (by rw[hc2,hx];exact hn) (by rw[hc2,hb2,hx];exact ha)
      rw[hc2,hx] at this;exact this
    |inr m=>
     rw[hx] at hs;obtain⟨_,_,hrd⟩:=hs;cases hrd with
     |osl _ _ _ o a hL hn ho ha=>
      have:=Rd.posl (E:=E') (w:=w') K V r q on a hL2 (by rw[hc2,hx];simp only[srcC2];omega) (by rw[hc2,hb2,hx];intro hc;rw[ha hc,ho (.inr rfl),Nat.zero_mul];rfl)
      rw[hc2,hx] at this;exact this
   ·have hkp:srcC2 E k v (S r q)≠0->w'.heap[srcB2 E k v (S r q)]? =w.heap[srcB2 E k v (S r q)]? :=fun hc=>hkeep _ (src hs hc)
    cases hx:S r q with
    |inl p=>
     rw[hx] at hs hkp;obtain⟨h1,⟨oty',h2⟩,_⟩:=hs;have h3:=(hF.own p.1 p.2 _ _ _ _ h1 h2).1;exact h3.closed (k':=0) (E':=E'.sub K V r q osz) rfl (fun b hb=>hst.le.N b hb) (fun b hb=>hst.same b hb) ((hb2 r q).trans (by rw[hx];rfl)) ((hc2 r q).trans (by rw[hx];rfl)) rfl hkp
    |inr m=>
     rw[hx] at hs hkp;obtain⟨h1,⟨oty',N,h2,h4⟩,_⟩:=hs;have h3:ArrOk E w m ⟨true,oty',osz,N,orow⟩:=(hH.live m _ h2).2.1;have h5:ArrOk E w m ⟨true,oty,osz,on,orow⟩:=by
      obtain⟨e1,e2,e3,e4,e5,cs,ty,e6,e7,e8⟩:=h3;exact⟨e1,Nat.le_trans h4 e2,fun i hi=>e3 i (Nat.lt_of_lt_of_le hi h4),fun i t hi=>e4 i t (Nat.lt_of_lt_of_le hi h4),fun hc i t hi=>e5 hc i t (Nat.lt_of_lt_of_le hi h4),cs,ty,e6,e7,fun i j t hi=>e8 i j t (Nat.lt_of_lt_of_le hi h4)⟩
     exact h5.closedN (k':=0) (E':=E'.sub K V r q osz) rfl (fun b hb=>hst.le.N b hb) (fun b hb=>hst.same b hb) ((hb2 r q).trans (by rw[hx];rfl)) ((hc2 r q).trans (by rw[hx];rfl)) rfl (fun _ _ h=>h.any) hkp
 ·rw[hc2] at hc hc';rw[hb2,hb2] at he;refine hS i j i' j' oty osz on orow oty' osz' on' orow' hi hi' hj hj' ?_
  have own:∀i j oty osz on orow,i<n->(row i)[j]? =some (T.own oty osz on orow)->∃u,SrcOk E w H k v n0 row0 osz on orow u (S i j):=by
   intro i j oty osz on orow hi hj;obtain⟨u,_,h|⟨_,_,_,_,he,hs⟩⟩:=hcell i j _ hi hj
   ·simp[closedOne,closedT] at h
   ·cases he;exact⟨u,hs⟩
  obtain⟨u,hs⟩:=own i j oty osz on orow hi hj;obtain⟨u',hs'⟩:=own i' j' oty' osz' on' orow' hi' hj';generalize S i j=x at hs hc he;generalize S i' j'=y at hs' hc' he;cases x with
  |inl p=>
   obtain⟨h1,⟨oty2,h2⟩,_⟩:=hs;cases y with
   |inl p'=>
    obtain⟨h1',⟨oty2',h2'⟩,_⟩:=hs';obtain⟨e1,e2⟩:=hF.inj p.1 p.2 p'.1 p'.2 _ _ _ _ _ _ _ _ h1 h1' h2 h2' hc hc' he;congr 1
    exact Prod.ext e1 e2
   |inr m=>
    obtain⟨h1',⟨oty2',N,h2',_⟩,_⟩:=hs';have:=hH.inj k m _ _ (E.b2 k v p.1 p.2) hk h2' (.inr ⟨v,ty0,sz0,n0,row0,p.1,p.2,oty2,osz,on,orow,rfl,h1,h2,hc,rfl⟩) (.inl ⟨hc',he⟩);exact absurd this.symm h1'
  |inr m=>
   obtain⟨h1,⟨oty2,N,h2,_⟩,_⟩:=hs;cases y with
   |inl p'=>
    obtain⟨h1',⟨oty2',h2'⟩,_⟩:=hs';have:=hH.inj k m _ _ (E.b2 k v p'.1 p'.2) hk h2 (.inr ⟨v,ty0,sz0,n0,row0,p'.1,p'.2,oty2',osz',on',orow',rfl,h1',h2',hc',rfl⟩) (.inl ⟨hc,he.symm⟩);exact absurd this.symm h1
   |inr m'=>
    obtain⟨h1',⟨oty2',N',h2',_⟩,_⟩:=hs';have:=hH.inj m m' _ _ (E.β m) h2 h2' (.inl ⟨hc,rfl⟩) (.inl ⟨hc',he⟩);rw[this]

end
end Go.SS
/- A calculus of symbolic states: a store. -/
namespace Go.SS
open Go.RowKit
section
variable {c:Ctx} {E:Env} {H:Heap} {w w':World} {P:Program}

inductive AbsR(H:Heap):List T->List T->List Nat->Prop
 |nil:AbsR H [] [] []
 |own (m n N:Nat) (ty:TypeId) (sz:Nat) (row:Nat->List T) (r r':List T) (ks:List Nat) (hm:getOb H m=some (.arr true ty sz N row)) (hn:n<=N) (h:AbsR H r r' ks):AbsR H (.osl m 0 n::r) (.own ty sz n row::r') (m::ks)
 |cl (t:T) (r r':List T) (ks:List Nat) (ht:closedOne t=true) (h:AbsR H r r' ks):AbsR H (t::r) (t::r') ks

theorem absorb_rel:∀{cs:List T} {A:Abs},absorb H cs=some A->A.side.getD True->AbsR H cs A.cs A.ks:=by
 intro cs;induction cs with
 |nil=>intro A h _;simp only[absorb,Option.some.injEq] at h;subst h;exact .nil
 |cons t r ih=>
  intro A h hs;unfold absorb at h;split at h
  ·rename_i he;cases he
  ·rename_i m off n r' he;simp only[List.cons.injEq] at he;obtain⟨rfl,rfl⟩:=he;split at h
   ·rename_i ty sz N row B hm hB;simp only[Option.some.injEq] at h;subst h;cases hBs:B.side with
    |none=>
     simp only[hBs,Option.getD_some] at hs;exact .own _ _ _ _ _ _ _ _ _ hm hs (ih hB (by rw[hBs];trivial))
    |some p=>
     simp only[hBs,Option.getD_some] at hs;exact .own _ _ _ _ _ _ _ _ _ hm hs.1 (ih hB (by rw[hBs];exact hs.2))
   ·cases h
  ·rename_i t' r' hne he;simp only[List.cons.injEq] at he;obtain⟨rfl,rfl⟩:=he;split at h
   ·rename_i B ht hB;simp only[Option.some.injEq] at h;subst h;exact .cl _ _ _ _ ht (ih hB hs)
   ·cases h

theorem AbsR.length{cs cs':List T}{ks:List Nat}(h:AbsR H cs cs' ks):cs'.length=cs.length:=by
 induction h<;>simp_all

def srcO(cs:List T)(q:Nat):Option Nat:=match cs[q]? with
 |some (.osl m _ _)=>some m
 |_=>none

theorem AbsR.get{cs cs':List T}{ks:List Nat}(h:AbsR H cs cs' ks):∀{q:Nat} {t':T},cs'[q]? =some t'->(closedOne t'=true/\cs[q]? =some t')∨∃m n N ty sz row,t'= .own ty sz n row/\cs[q]? =some (.osl m 0 n)/\getOb H m=some (.arr true ty sz N row)/\n<=N/\m ∈ ks:=by
 induction h with
 |nil=>intro q t' h;simp at h
 |own m n N ty sz row r r' ks hm hn h ih=>
  intro q t' hq;cases q with
  |zero=>simp at hq;subst hq;exact .inr ⟨m,n,N,ty,sz,row,rfl,rfl,hm,hn,by simp⟩
  |succ q=>
   rcases ih (by simpa using hq) with h1|⟨m',n',N',ty',sz',row',a,b,c,d,e⟩
   ·exact .inl h1
   ·exact .inr ⟨m',n',N',ty',sz',row',a,b,c,d,by simp[e]⟩
 |cl t r r' ks ht h ih=>
  intro q t' hq;cases q with
  |zero=>simp at hq;subst hq;exact .inl ⟨ht,rfl⟩
  |succ q=>exact ih (by simpa using hq)

theorem AbsR.mem{cs cs':List T}{ks:List Nat}(h:AbsR H cs cs' ks):∀{q m:Nat},srcO cs q=some m->m ∈ ks:=by
 induction h with
 |nil=>intro q m h;simp[srcO] at h
 |own m n N ty sz row r r' ks hm hn h ih=>
  intro q m' hq;cases q with
  |zero=>simp[srcO] at hq;subst hq;simp
  |succ q=>have:=ih (q:=q) (by simpa[srcO] using hq);simp[this]
 |cl t r r' ks ht h ih=>
  intro q m' hq;cases q with
  |zero=>
   cases t<;>simp[srcO] at hq
   simp[closedOne,closedT] at ht
  |succ q=>exact ih (q:=q) (by simpa[srcO] using hq)

theorem nodupN_ok:∀{l:List Nat},nodupN l=true->l.Nodup:=by
 intro l;induction l with
 |nil=>intro _;exact .nil
 |cons x l ih=>
  intro h;simp only[nodupN,Bool.and_eq_true,List.all_eq_true,Bool.not_eq_true'] at h;exact List.nodup_cons.2 ⟨fun hm=>Nat.ne_of_beq_eq_false (h.1 x hm) rfl,ih h.2⟩

theorem AbsR.inj{cs cs':List T}{ks:List Nat}(h:AbsR H cs cs' ks):ks.Nodup->∀{q q' m:Nat},srcO cs q=some m->srcO cs q'=some m->q=q':=by
 induction h with
 |nil=>intro _ q q' m h;simp[srcO] at h
 |own m n N ty sz row r r' ks hm hn h ih=>
  intro hnd q q' m' hq hq';obtain⟨h1,h2⟩:=List.nodup_cons.1 hnd;cases q with
  |zero=>
   cases q' with
   |zero=>rfl
   |succ q'=>
    simp[srcO] at hq;subst hq;exact absurd (h.mem (q:=q') (by simpa[srcO] using hq')) h1
  |succ q=>
   cases q' with
   |zero=>
    simp[srcO] at hq';subst hq';exact absurd (h.mem (q:=q) (by simpa[srcO] using hq)) h1
   |succ q'=>rw[ih h2 (q:=q) (q':=q') (by simpa[srcO] using hq) (by simpa[srcO] using hq')]
 |cl t r r' ks ht h ih=>
  intro hnd q q' m' hq hq';have z:srcO (t::r) 0=none:=by cases t<;>first|rfl|(simp[closedOne,closedT] at ht)
  cases q with
  |zero=>rw[z] at hq;cases hq
  |succ q=>
   cases q' with
   |zero=>rw[z] at hq';cases hq'
   |succ q'=>rw[ih hnd (q:=q) (q':=q') (by simpa[srcO] using hq) (by simpa[srcO] using hq')]

theorem dropObs_length:∀(ks:List Nat) (H:Heap),(dropObs H ks).length=H.length:=by
 intro ks;induction ks with
 |nil=>intro H;rfl
 |cons k ks ih=>intro H;simp[dropObs,ih]

theorem dropObs_get:∀{ks:List Nat} {H:Heap} {i:Nat} {o:Ob},getOb (dropObs H ks) i=some o->getOb H i=some o/\i ∉ ks:=by
 intro ks;induction ks with
 |nil=>intro H i o h;exact⟨h,by simp⟩
 |cons k ks ih=>
  intro H i o h;obtain⟨h1,h2⟩:=ih h;by_cases hk:k<H.length
  ·rw[getOb_set hk] at h1;split at h1
   ·cases h1
   ·rename_i hne;exact⟨h1,by simp[hne,h2]⟩
  ·rw[List.set_eq_of_length_le (by omega)] at h1
   refine⟨h1,?_⟩
   have:=getOb_lt h1;simp only[List.mem_cons,not_or];exact⟨by omega,h2⟩

def Env.bump(E:Env)(k v:Nat)(B C:Nat->Nat->Nat):Env:=
 {E with L2:=fun a u=>E.L2 a u∨(a=k/\u=v),b2:=fun a u r q=>if a=k/\u=v then B r q else E.b2 a u r q,c2:=fun a u r q=>if a=k/\u=v then C r q else E.c2 a u r q}

theorem Env.bump_le{E:Env}{k v:Nat}{B C:Nat->Nat->Nat}(h:¬E.L2 k v):E.le (E.bump k v B C):=
 ⟨fun _ h=>h,fun _ h=>h,fun _ _=>rfl,fun _ _=>rfl,fun _ _=>rfl,fun _ _ h=>.inl h,fun a u _ _ hu=>if_neg (by rintro⟨rfl,rfl⟩;exact h hu),fun a u _ _ hu=>if_neg (by rintro⟨rfl,rfl⟩;exact h hu)⟩

theorem setRow_get{row:Nat->List T}{i j r q:Nat}{cs:List T}{t:T}(h:j+cs.length<=(row r).length)(hq:(setRow row i j cs r)[q]? =some t):
  (r=i/\j<=q/\q<j+cs.length/\cs[q-j]? =some t)∨(¬ (r=i/\j<=q/\q<j+cs.length)/\(row r)[q]? =some t):=by
 rw[setRow_eq h] at hq;split at hq
 ·rename_i hb;obtain rfl:=Nat.eq_of_beq_eq_true hb;simp only[List.getElem?_append,List.length_append,List.length_take,List.getElem?_take,List.getElem?_drop] at hq
  rw[Nat.min_eq_left (by omega)] at hq
  by_cases h1:q<j+cs.length
  ·rw[if_pos h1] at hq;by_cases h2:q<j
   ·rw[if_pos h2,if_pos h2] at hq;exact .inr ⟨by omega,hq⟩
   ·rw[if_neg h2] at hq;exact .inl ⟨rfl,by omega,h1,hq⟩
  ·rw[if_neg h1] at hq;refine .inr ⟨by omega,?_⟩
   rw[←hq];congr 1
   omega
 ·rename_i hb;exact .inr ⟨fun h=>Nat.ne_of_beq_eq_false hb h.1,hq⟩

theorem setRow_length{row:Nat->List T}{i j r:Nat}{cs:List T}(h:j+cs.length<=(row r).length):(setRow row i j cs r).length=(row r).length:=by
 rw[setRow_eq h];split
 ·simp;omega
 ·rfl

theorem viewC_set_closed(k v:Nat){row:Nat->List T}{i j r:Nat}{cs:List T}(h:j+cs.length<=(row r).length)(hc:∀t ∈ cs,closedOne t=true):
  viewR k v (setRow row i j cs) r=setRow (viewR k v row) i j cs r:=by
 refine List.ext_getElem? fun q=> ?_
 rw[viewR_get];have hl:j+cs.length<=(viewR k v row r).length:=by rw[viewR_length];exact h
 cases hq:(setRow row i j cs r)[q]? with
 |none=>
  have:(row r).length<=q:=by
   rw[←setRow_length (i:=i) h];rcases Nat.lt_or_ge q (setRow row i j cs r).length with h'|h'
   ·rw[List.getElem?_eq_getElem h'] at hq;cases hq
   ·exact h'
  rw[List.getElem?_eq_none (by rw[setRow_length hl,viewR_length];exact this)]
  rfl
 |some t=>
  have hql:q<(setRow (viewR k v row) i j cs r).length:=by
   rw[setRow_length hl,viewR_length,←setRow_length (i:=i) h];exact(List.getElem?_eq_some_iff.1 hq).1
  have hq2:=List.getElem?_eq_getElem hql
  rw[hq2];rcases setRow_get h hq with⟨h1,h2,h3,h4⟩|⟨h1,h2⟩<;>rcases setRow_get hl hq2 with⟨g1,g2,g3,g4⟩|⟨g1,g2⟩
  ·rw[h4] at g4;simp only[Option.map_some];rw[viewT_closed (hc t (List.mem_of_getElem? h4))];exact g4
  ·exact absurd ⟨h1,h2,h3⟩ g1
  ·exact absurd ⟨g1,g2,g3⟩ h1
  ·rw[viewR_get,h2] at g2;exact g2

theorem store_ok(h:Inv c E H w){t:TypeId}{a x:T}{av xv:Value}{H':Heap}{side:Option Prop}(he:evStore P H t a x=some (H',side))(hs:side.getD True)(ha:Rd E w a av)(hx:Rd E w x xv):
  ∃w' E',(Instr.storeAt t av xv).run P w= .ok () w'/\Inv c E' H' w'/\Step E w E' w':=by
 have go:∀{b o:Nat} {w':World},cellsB P t (cellsT x).length=true->(cellsT x).length=xv.cells.size->av= .pointer (some ⟨b,o,none⟩)->(storeCells ⟨b,o,none⟩ xv.cells.toList).run P w= .ok () w'->(Instr.storeAt t av xv).run P w= .ok () w':=by
  intro b o w' hsz hxl hav hst;rw[hav];simp only[Instr.storeAt,Instr.sureAddr,storeVar,Sem.run_bind,Sem.run_pure,Result.andThen_ok,(cellsB_ok (w:=w) hsz).1];rw[if_neg (by rw[hxl];simp)]
  exact hst
 unfold evStore at he;split at he
 ·rename_i k v i j z a b;split at he
  ·rename_i v' ty sz n row A hk hA hsz hpx hone;split at he
   ·rename_i hzb hble;simp only[Option.some.injEq,Prod.mk.injEq] at he;obtain⟨rfl,rfl⟩:=he;obtain rfl:=Nat.eq_of_beq_eq_true hzb;have hb:=Nat.le_of_ble_eq_true hble;obtain⟨ty2,sz2,row2,hk2,hj,hcl⟩:=getOwn_ok hA;rw[hk] at hk2;simp only[Option.some.injEq,Ob.fam.injEq] at hk2;obtain⟨rfl,rfl,rfl,rfl,rfl⟩:=hk2;obtain⟨hv,hi,ha'⟩:PfB v A.v i A.n a A.A.n:=hs;subst hv;obtain⟨hO,hL,hL2⟩:=own_ok h.heap hA rfl hi;obtain⟨_,hF,hNk⟩:=h.heap.live _ _ hk;have hF:FamOk E w k A.v ty sz A.n row:=hF;obtain⟨hxl,hxt⟩:=rdL_cells hx hpx;have hco:∀t ∈ cellsT x,closedOne t=true:=fun t ht=>List.all_eq_true.1 hone t ht
    have hc2:E.c2 k A.v i j≠0:=by have h1:A.A.n<=E.c2 k A.v i j:=hO.2.1;omega
    obtain⟨w',hst,ho,ht,hp,hdr,hsize,hoth,cs,tyc,hblk,hcs,hlen,hone',hcl',hcell⟩:=arr_store (P:=P) hO ha' (xs:=cellsT x) (vs:=xv.cells.toList) hb (fun t ht=>(closedOne_ok (hco t ht)).2) (by simp[hxl])
     (fun m t v hm hv=>rd_closed0 (E:=E) (E':=E.sub k A.v i j A.A.sz) (fun b hb=>hb) (hxt m t v hm (by simpa using hv)) (closedOne_ok (hco t (List.mem_of_getElem? hm))).1)
    have hav:av= .pointer (some ⟨E.b2 k A.v i j,a*A.A.sz+b,none⟩):=by cases ha;rfl
    have hfit:j+[T.own A.A.ty A.A.sz A.A.n (setRow A.A.row a b (cellsT x))].length<=(row i).length:=by
     have:=(List.getElem?_eq_some_iff.1 hj).1
     simp only[List.length_singleton];omega
    have hlr:∀r,r<A.n->(row r).length=sz:=fun r hr=>by have:=hF.arr.2.2.1 r hr;rwa [viewR_length] at this
    have hfit':∀r,r<A.n->j+[T.own A.A.ty A.A.sz A.A.n (setRow A.A.row a b (cellsT x))].length<=(row r).length:=fun r hr=>by rw[hlr r hr,←hlr i hi];exact hfit
    have back:∀(r q:Nat) (t:T),r<A.n->(setRow row i j [T.own A.A.ty A.A.sz A.A.n (setRow A.A.row a b (cellsT x))] r)[q]? =some t->(r=i/\q=j/\t= .own A.A.ty A.A.sz A.A.n (setRow A.A.row a b (cellsT x)))∨(¬ (r=i/\q=j)/\(row r)[q]? =some t):=by
     intro r q t hr hq;rcases setRow_get (hfit' r hr) hq with⟨h1,h2,h3,h4⟩|⟨h1,h2⟩
     ·simp only[List.length_singleton] at h3;obtain rfl:q=j:=by omega
      simp at h4;exact .inl ⟨h1,rfl,h4.symm⟩
     ·simp only[List.length_singleton] at h1;exact .inr ⟨fun hh=>h1 ⟨hh.1,by omega,by omega⟩,h2⟩
    have hB:∀b',Blk E k (.fam A.v ty sz A.n (setRow row i j [T.own A.A.ty A.A.sz A.A.n (setRow A.A.row a b (cellsT x))])) b'->Blk E k (.fam A.v ty sz A.n row) b':=by
     intro b' hb';rcases hb' with hb'|⟨v0,ty0,sz0,n0,row0,i0,j0,oty,osz,on,orow,hobe,hi0,hj0,hc0,rfl⟩
     ·exact .inl hb'
     ·simp only[Ob.fam.injEq] at hobe;obtain⟨rfl,rfl,rfl,rfl,rfl⟩:=hobe;rcases back i0 j0 _ hi0 hj0 with⟨rfl,rfl,_⟩|⟨_,h2⟩
      ·exact .inr ⟨_,_,_,_,_,_,_,_,_,_,_,rfl,hi,hj,hc0,rfl⟩
      ·exact .inr ⟨_,_,_,_,_,_,_,_,_,_,_,rfl,hi0,h2,hc0,rfl⟩
    have:=h.writeO hk ho ht hp (by omega) (fun b' _ hn=>hoth b' fun e=>hn (.inr ⟨_,_,_,_,_,_,_,_,_,_,_,rfl,hi,hj,hc2,e⟩)) (.fam A.v ty sz A.n (setRow row i j [.own A.A.ty A.A.sz A.A.n (setRow A.A.row a b (cellsT x))])) hB
     (fun u hu=>by
      obtain⟨v0,_,_,_,_,he,hle⟩:=h.heap.cur k _ u hk hu;cases he;exact⟨_,_,_,_,_,rfl,hle⟩) (fun hstep=>by
      have hκb:E.κ k≠0->w'.heap[E.β k]? =w.heap[E.β k]? :=fun hκ=>hoth _ fun e=>((hF.own i j _ _ _ _ hi hj).2 hc2 hκ) e.symm
      obtain⟨e1,e2,e3,e4,e5,cs0,ty0,e6,e7,e8⟩:=hF.arr;refine fam_build (E:=E) hF.l2 e1 e2 cs0 ty0 (fun hκ=>by rw[hκb hκ];exact e6 hκ) e7 (fun r hr=>by rw[setRow_length (hfit' r hr)];exact hlr r hr) (fun r q t hr hq=> ?_) (fun i1 j1 i2 j2 oty osz on orow oty' osz' on' orow' h1 h2 h3 h4 h5 h6 h7=> ?_)
      ·rcases back r q t hr hq with⟨rfl,rfl,rfl⟩|⟨hne,hq0⟩
       ·obtain⟨u,hu,hru⟩:=e8 r q (.posl k A.v r q A.A.n) hr (by simp only;rw[viewR_get,hj];rfl)
        refine⟨u,hu,.inr ⟨_,_,_,_,rfl,hstep.rd hru,?_,(hF.own r q _ _ _ _ hr hj).2⟩⟩
        refine⟨hO.1,hO.2.1,hlen,hone',fun _ r t hr ht=>hcl' hcl (fun t ht=>(closedOne_ok (hco t ht)).1) r t hr ht,cs,tyc,fun _=>hblk,hcs,fun r1 q1 t1 hr1 hq1=> ?_⟩
        obtain⟨u1,hu1,hrd1,_⟩:=hcell r1 q1 t1 hr1 hq1;refine⟨u1,hu1,?_⟩
        have hct:=hcl' hcl (fun t ht=>(closedOne_ok (hco t ht)).1) r1 t1 hr1 (List.mem_of_getElem? hq1)
        have:=hstep.rd (rd_closed0 (E:=E.sub k A.v r q A.A.sz) (E':=E) (fun b hb=>hb) hrd1 hct)
        exact rd_closed0 (E:=E) (E':=E.sub k A.v r q A.A.sz) (fun b hb=>hb) this hct
       ·obtain⟨u,hu,hru⟩:=e8 r q (viewT k A.v r q t) hr (by simp only;rw[viewR_get,hq0];rfl)
        rcases hF.cell hr hq0 with hc|⟨oty,osz,on,orow,rfl⟩
        ·rw[viewT_closed hc] at hru;exact⟨u,hu,.inl ⟨hc,hstep.rd hru⟩⟩
        ·obtain⟨g1,g2⟩:=hF.own r q _ _ _ _ hr hq0;refine⟨u,hu,.inr ⟨_,_,_,_,rfl,hstep.rd hru,g1.closed (k':=0) (E':=E.sub k A.v r q osz) rfl (fun b hb=>hb) (fun b hb=>hstep.same b hb) rfl rfl rfl (fun hc0=>hoth _ fun e=>hne ?_),g2⟩⟩
         exact hF.inj r q i j _ _ _ _ _ _ _ _ hr hi hq0 hj hc0 hc2 e
      ·have own:∀(r q:Nat) (oty:TypeId) (osz on:Nat) (orow:Nat->List T),r<A.n->(setRow row i j [T.own A.A.ty A.A.sz A.A.n (setRow A.A.row a b (cellsT x))] r)[q]? =some (T.own oty osz on orow)->∃(oty':TypeId) (osz' on':Nat) (orow':Nat->List T),(row r)[q]? =some (T.own oty' osz' on' orow'):=by
        intro r q oty osz on orow hr hq;rcases back r q _ hr hq with⟨rfl,rfl,_⟩|⟨_,h2⟩
        ·exact⟨_,_,_,_,hj⟩
        ·exact⟨_,_,_,_,h2⟩
       obtain⟨_,_,_,_,p1⟩:=own i1 j1 _ _ _ _ h1 h3;obtain⟨_,_,_,_,p2⟩:=own i2 j2 _ _ _ _ h2 h4;exact hF.inj i1 j1 i2 j2 _ _ _ _ _ _ _ _ h1 h2 p1 p2 h5 h6 h7)
    exact⟨w',E,go hsz hxl hav hst,this.1,this.2⟩
   ·cases he
  ·cases he
 ·rename_i k i j;have hav:=rd_ref ha;split at he
  ·rename_i cl ty sz n row hk hsz hpx hone;split at he
   ·rename_i hble;simp only[Option.some.injEq,Prod.mk.injEq] at he;obtain⟨rfl,rfl⟩:=he;have hi:=inB_ok hs;have hj:=Nat.le_of_ble_eq_true hble;obtain⟨hL,hA,hN⟩:=h.heap.live _ _ hk;have hA:ArrOk E w k ⟨cl,ty,sz,n,row⟩:=hA;obtain⟨hxl,hxt⟩:=rdL_cells hx hpx;obtain⟨w',hst,ho,ht,hp,hdr,hsize,hoth,cs,tyc,hblk,hcs,hlen,hone',hcl',hcell⟩:=arr_store (P:=P) hA hi (xs:=cellsT x) (vs:=xv.cells.toList) hj (fun t ht=>List.all_eq_true.1 hone t ht) (by simp[hxl]) (fun m t v hm hv=>hxt m t v hm (by simpa using hv))
    have hκ:E.κ k≠0:=by have h1:n<=E.κ k:=hA.2.1;have h2:i<n:=hi;omega
    have:=h.write hk rfl ho ht hp (by omega) (fun b _ hne=>hoth b hne) hκ (.arr (cl&&(cellsT x).all closedT) ty sz n (setRow row i j (cellsT x))) cs tyc hblk hA.1.symm (by rw[hA.1];exact hcs) hA.2.1 hlen hone'
     (fun hc r t hr ht=>by simp only[Ob.toArr,Bool.and_eq_true] at hc;exact hcl' hc.1 (fun t ht=>List.all_eq_true.1 hc.2 t ht) r t hr ht) (fun r q t hr hq=>by obtain⟨u,hu,hrd,_⟩:=hcell r q t hr hq;exact⟨u,hu,hrd⟩)
    exact⟨w',E,go hsz hxl hav hst,this.1,this.2⟩
   ·cases he
  ·rename_i ty l hk hsz hpx hone;split at he
   ·rename_i m;simp only[Option.some.injEq,Prod.mk.injEq] at he;obtain⟨rfl,rfl⟩:=he;obtain⟨hi,hm⟩:i<l.length/\Rng .u8 m:=hs;obtain⟨hL,hA,hN⟩:=h.heap.live _ _ hk;have hA:ArrOk E w k ⟨true,ty,1,l.length,byRow l⟩:=hA;obtain⟨hxl,hxt⟩:=rdL_cells hx hpx;have hκ:E.κ k≠0:=by have h1:l.length<=E.κ k:=hA.2.1;omega
    obtain⟨w',hst,ho,ht,hp,hdr,hsize,hoth,cs,tyc,hblk,hcs,hlen,hone',hcl',hcell⟩:=arr_store (P:=P) hA hi (j:=0) (xs:=[.int .u8 m]) (vs:=xv.cells.toList) (Nat.le_refl 1) (by simp[oneT]) (by simp at hxl ⊢;exact hxl.symm) (fun m t v hm hv=>hxt m t v hm (by simpa using hv))
    have:=h.write hk rfl ho ht hp (by omega) (fun b _ hne=>hoth b hne) hκ (.bys ty (l.set i (ofI m))) cs tyc hblk hA.1.symm (by rw[hA.1];exact hcs) (by simp only[Ob.toArr,List.length_set];exact hA.2.1) (fun r hr'=>rfl) (fun r t hr' ht=>by simp[Ob.toArr,byRow] at ht;subst ht;rfl) (fun _ r t hr' ht=>by simp[Ob.toArr,byRow] at ht;subst ht;rfl) (fun r q t hr hq=>by
      simp only[Ob.toArr,List.length_set] at hr hq ⊢;have hq0:q=0:=by
       have:=(List.getElem?_eq_some_iff.1 hq).1
       simp[byRow] at this;exact this
      subst hq0;simp only[byRow,List.getElem?_cons_zero,Option.some.injEq] at hq
      subst hq;have hrow:(setRow (byRow l) i 0 [.int .u8 m] r)[0]? =some (if r=i then .int .u8 m else .int .u8 ((l.getD r 0).toNat:Int)):=by
       rw[setRow_eq (by simp[byRow])]
       split
       ·rename_i hb;rw[if_pos (Nat.eq_of_beq_eq_true hb)];rfl
       ·rename_i hb;rw[if_neg (Nat.ne_of_beq_eq_false hb)];rfl
      obtain⟨u,hu,hrd,_⟩:=hcell r 0 _ hr hrow;refine⟨u,hu,?_⟩
      by_cases he:r=i
      ·rw[if_pos he] at hrd;subst he;rw[show((l.set r (ofI m)).getD r 0)=ofI m by simp[List.getD,hi],ofI_eq hm]
       exact hrd
      ·rw[if_neg he] at hrd;rw[show((l.set i (ofI m)).getD r 0)=l.getD r 0 by simp[List.getD,Ne.symm he]]
       exact hrd)
    exact⟨w',E,go hsz hxl hav hst,this.1,this.2⟩
   ·cases he
  ·rename_i v ty sz n row hk hsz hpx hone;split at he
   case h_2=>cases he
   rename_i hble;have hj:=Nat.le_of_ble_eq_true hble;obtain⟨hL,hF,hN⟩:=h.heap.live _ _ hk;have hF:FamOk E w k v ty sz n row:=hF;obtain⟨hxl,hxt⟩:=rdL_cells hx hpx;have hlr:∀r,r<n->(row r).length=sz:=fun r hr=>by have:=hF.arr.2.2.1 r hr;rwa [viewR_length] at this
   have hklt:=getOb_lt hk;have hcurk:∀u,E.L2 k u->u<=v:=fun u hu=>by
    obtain⟨v0,_,_,_,_,he,hle⟩:=h.heap.cur k _ u hk hu;cases he;exact hle
   split at he
   ·-- cells that own nothing
    rename_i hco;simp only[Option.some.injEq,Prod.mk.injEq] at he;obtain⟨rfl,rfl⟩:=he;obtain⟨hi,hno⟩:FamB i n (((row i).drop j).take (cellsT x).length):=hs;have hco:∀t ∈ cellsT x,closedOne t=true:=fun t ht=>List.all_eq_true.1 hco t ht
    obtain⟨w',hst,ho,ht,hp,hdr,hsize,hoth,cs,tyc,hblk,hcs,hlen,hone',hcl',hcell⟩:=arr_store (P:=P) hF.arr hi (xs:=cellsT x) (vs:=xv.cells.toList) hj (fun t ht=>List.all_eq_true.1 hone t ht) (by simp[hxl]) (fun m t v hm hv=>hxt m t v hm (by simpa using hv))
    have hfit:∀r,r<n->j+(cellsT x).length<=(row r).length:=fun r hr=>by rw[hlr r hr];exact hj
    have old:∀(r q:Nat) (oty:TypeId) (osz on:Nat) (orow:Nat->List T),r<n->(setRow row i j (cellsT x) r)[q]? =some (T.own oty osz on orow)->(row r)[q]? =some (T.own oty osz on orow):=by
     intro r q oty osz on orow hr hq;rcases setRow_get (hfit r hr) hq with⟨_,_,_,h4⟩|⟨_,h2⟩
     ·have:=hco _ (List.mem_of_getElem? h4);simp[closedOne,closedT] at this
     ·exact h2
    have hB:∀b',Blk E k (.fam v ty sz n (setRow row i j (cellsT x))) b'->Blk E k (.fam v ty sz n row) b':=by
     intro b' hb';rcases hb' with hb'|⟨v0,ty0,sz0,n0,row0,i0,j0,oty,osz,on,orow,hobe,hi0,hj0,hc0,rfl⟩
     ·exact .inl hb'
     ·simp only[Ob.fam.injEq] at hobe;obtain⟨rfl,rfl,rfl,rfl,rfl⟩:=hobe;exact .inr ⟨_,_,_,_,_,_,_,_,_,_,_,rfl,hi0,old _ _ _ _ _ _ hi0 hj0,hc0,rfl⟩
    have hκ:E.κ k≠0:=by have h1:n<=E.κ k:=hF.arr.2.1;omega
    have:=h.writeO hk ho ht hp (by omega) (fun b' _ hn=>hoth b' fun e=>hn (.inl ⟨hκ,e⟩)) (.fam v ty sz n (setRow row i j (cellsT x))) hB (fun u hu=>⟨_,_,_,_,_,rfl,hcurk u hu⟩) (fun hstep=>by
     refine fam_build (E:=E) hF.l2 hF.arr.1 hF.arr.2.1 cs tyc (fun _=>hblk) hcs (fun r hr=>by rw[setRow_length (hfit r hr)];exact hlr r hr) (fun r q t hr hq=> ?_) (fun i1 j1 i2 j2 oty osz on orow oty' osz' on' orow' h1 h2 h3 h4 h5 h6 h7=> ?_)
     ·obtain⟨u,hu,hrd,_⟩:=hcell r q (viewT k v r q t) hr (by simp only;rw[←viewC_set_closed k v (hfit r hr) hco,viewR_get,hq];rfl)
      rcases setRow_get (hfit r hr) hq with⟨_,_,_,h4⟩|⟨_,h2⟩
      ·have hc:=hco _ (List.mem_of_getElem? h4);rw[viewT_closed hc] at hrd;exact⟨u,hu,.inl ⟨hc,hstep.rd hrd⟩⟩
      ·rcases hF.cell hr h2 with hc|⟨oty,osz,on,orow,rfl⟩
       ·rw[viewT_closed hc] at hrd;exact⟨u,hu,.inl ⟨hc,hstep.rd hrd⟩⟩
       ·obtain⟨g1,g2⟩:=hF.own r q _ _ _ _ hr h2;exact⟨u,hu,.inr ⟨_,_,_,_,rfl,hstep.rd hrd,g1.closed (k':=0) (E':=E.sub k v r q osz) rfl (fun b hb=>hb) (fun b hb=>hstep.same b hb) rfl rfl rfl (fun hc0=>hoth _ (g2 hc0 hκ)),g2⟩⟩
     ·exact hF.inj i1 j1 i2 j2 _ _ _ _ _ _ _ _ h1 h2 (old _ _ _ _ _ _ h1 h3) (old _ _ _ _ _ _ h2 h4) h5 h6 h7)
    exact⟨w',E,go hsz hxl hav hst,this.1,this.2⟩
   ·-- cells that are given rows
    split at he
    case h_2=>cases he
    rename_i A hA;split at he
    case h_2=>cases he
    rename_i hnd;simp only[Option.some.injEq,Prod.mk.injEq] at he;obtain⟨rfl,rfl⟩:=he;have hi:i<n:=by cases hAs:A.side with
     |none=>rw[hAs] at hs;exact hs
     |some p=>rw[hAs] at hs;exact hs.1
    have hsd:A.side.getD True:=by cases hAs:A.side with
     |none=>trivial
     |some p=>rw[hAs] at hs;exact hs.2
    have hR:=absorb_rel hA hsd;have hnd:=nodupN_ok hnd;obtain⟨hkn,hnd⟩:=List.nodup_cons.1 hnd;have hl':=hR.length;obtain⟨w',hst,ho,ht,hp,hdr,hsize,hoth,cs,tyc,hblk,hcs,_,_,_,hcell⟩:=arr_store (P:=P) hF.arr hi (xs:=cellsT x) (vs:=xv.cells.toList) hj (fun t ht=>List.all_eq_true.1 hone t ht) (by simp[hxl]) (fun m t v hm hv=>hxt m t v hm (by simpa using hv))
    have hfit:∀r,r<n->j+A.cs.length<=(row r).length:=fun r hr=>by rw[hlr r hr,hl'];exact hj
    have hfitx:∀r,r<n->j+(cellsT x).length<=(viewR k v row r).length:=fun r hr=>by rw[viewR_length,hlr r hr];exact hj
    have hκ:E.κ k≠0:=by have h1:n<=E.κ k:=hF.arr.2.1;omega
    let S:Srcs:=fun r q=>if r=i/\j<=q/\q<j+(cellsT x).length then(match srcO (cellsT x) (q-j) with|some m=>.inr m|none=>.inl (r,q)) else .inl (r,q)
    have hnL2:¬E.L2 k (v+1):=fun hu=>by have:=hcurk _ hu;omega
    let E':=E.bump k (v+1) (fun r q=>srcB2 E k v (S r q)) (fun r q=>srcC2 E k v (S r q))
    have hle:E.le E':=Env.bump_le hnL2;have hstep:Step E w E' w':=⟨hle,fun b hb=>hoth b fun e=>hN b (.inl ⟨hκ,e⟩) hb,fun _ h=>.inl h⟩
    have hb2:∀r q,E'.b2 k (v+1) r q=srcB2 E k v (S r q):=fun r q=>if_pos ⟨rfl,rfl⟩
    have hc2:∀r q,E'.c2 k (v+1) r q=srcC2 E k v (S r q):=fun r q=>if_pos ⟨rfl,rfl⟩
    have cellN:∀(r q:Nat) (t:T),r<n->(setRow row i j A.cs r)[q]? =some t->
      (∃m nn N oty osz orow,t= .own oty osz nn orow/\r=i/\j<=q/\q<j+(cellsT x).length/\(cellsT x)[q-j]? =some (.osl m 0 nn)/\getOb H m=some (.arr true oty osz N orow)/\nn<=N/\m ∈ A.ks/\S r q= .inr m)∨
      (closedOne t=true/\r=i/\j<=q/\q<j+(cellsT x).length/\(cellsT x)[q-j]? =some t)∨(¬ (r=i/\j<=q/\q<j+(cellsT x).length)/\(row r)[q]? =some t/\S r q= .inl (r,q)):=by
     intro r q t hr hq;rcases setRow_get (hfit r hr) hq with⟨h1,h2,h3,h4⟩|⟨h1,h2⟩
     ·rw[hl'] at h3;rcases hR.get h4 with⟨g1,g2⟩|⟨m,nn,N,oty,osz,orow,rfl,g2,g3,g4,g5⟩
      ·exact .inr (.inl ⟨g1,h1,h2,h3,g2⟩)
      ·refine .inl ⟨m,nn,N,oty,osz,orow,rfl,h1,h2,h3,g2,g3,g4,g5,?_⟩
       simp only[S,if_pos (And.intro h1 (And.intro h2 h3)),srcO,g2]
     ·rw[hl'] at h1;exact .inr (.inr ⟨h1,h2,if_neg h1⟩)
    have hFam:FamOk E' w' k (v+1) ty sz n (setRow row i j A.cs):=by
     refine fam_move (E:=E) (w:=w) h.heap hstep hk S (.inr ⟨rfl,rfl⟩) hb2 hc2 hF.arr.1 hF.arr.2.1 cs tyc (fun _=>hblk) hcs (fun r hr=>by rw[setRow_length (hfit r hr)];exact hlr r hr) (fun r q t hr hq=> ?_) (fun i1 j1 i2 j2 oty osz on orow oty' osz' on' orow' h1 h2 h3 h4 h5=> ?_) (fun b hb=>hoth b ?_) (fun b hb _=> ?_)
     ·have hx1:∃t1,(setRow (viewR k v row) i j (cellsT x) r)[q]? =some t1:=by
       have:q<(setRow (viewR k v row) i j (cellsT x) r).length:=by
        rw[setRow_length (hfitx r hr),viewR_length,←setRow_length (i:=i) (hfit r hr)];exact(List.getElem?_eq_some_iff.1 hq).1
       exact⟨_,List.getElem?_eq_getElem this⟩
      obtain⟨t1,ht1⟩:=hx1;obtain⟨u,hu,hrd,hwh⟩:=hcell r q t1 hr ht1;refine⟨u,hu,?_⟩
      rcases cellN r q t hr hq with⟨m,nn,N,oty,osz,orow,rfl,h1,h2,h3,g2,g3,g4,g5,g6⟩|⟨hc,h1,h2,h3,g2⟩|⟨hne,h2,g6⟩
      ·rcases hwh with⟨_,_,_,h4⟩|⟨h4,_⟩
       ·rw[g2] at h4;simp only[Option.some.injEq] at h4;subst h4;refine .inr ⟨_,_,_,_,rfl,?_⟩
        rw[g6];exact⟨fun e=>hkn (e▸g5),⟨_,_,g3,g4⟩,hrd⟩
       ·exact absurd ⟨h1,h2,h3⟩ h4
      ·rcases hwh with⟨_,_,_,h4⟩|⟨h4,_⟩
       ·rw[g2] at h4;simp only[Option.some.injEq] at h4;subst h4;exact .inl ⟨hc,hrd⟩
       ·exact absurd ⟨h1,h2,h3⟩ h4
      ·rcases hwh with⟨p1,p2,p3,_⟩|⟨_,h4⟩
       ·exact absurd ⟨p1,p2,p3⟩ hne
       ·simp only at h4;rw[viewR_get,h2] at h4;simp only[Option.map_some,Option.some.injEq] at h4;subst h4;rcases hF.cell hr h2 with hc|⟨oty,osz,on,orow,rfl⟩
        ·rw[viewT_closed hc] at hrd;exact .inl ⟨hc,hrd⟩
        ·refine .inr ⟨_,_,_,_,rfl,?_⟩
         rw[g6];exact⟨hr,⟨_,h2⟩,hrd⟩
     ·rcases cellN i1 j1 _ h1 h3 with⟨m,nn,N,_,_,_,_,p1,p2,p3,p4,_,_,p5,p6⟩|⟨hc,_⟩|⟨p1,p2,p6⟩
      ·rcases cellN i2 j2 _ h2 h4 with⟨m',nn',N',_,_,_,_,q1,q2,q3,q4,_,_,q5,q6⟩|⟨hc,_⟩|⟨q1,q2,q6⟩
       ·rw[p6,q6] at h5;simp only[Sum.inr.injEq] at h5;subst h5;have:=hR.inj hnd (q:=j1-j) (q':=j2-j) (m:=m) (by simp[srcO,p4]) (by simp[srcO,q4])
        exact⟨by omega,by omega⟩
       ·simp[closedOne,closedT] at hc
       ·rw[p6,q6] at h5;cases h5
      ·simp[closedOne,closedT] at hc
      ·rcases cellN i2 j2 _ h2 h4 with⟨m',nn',N',_,_,_,_,q1,q2,q3,q4,_,_,q5,q6⟩|⟨hc,_⟩|⟨q1,q2,q6⟩
       ·rw[p6,q6] at h5;cases h5
       ·simp[closedOne,closedT] at hc
       ·rw[p6,q6] at h5;simp only[Sum.inl.injEq,Prod.mk.injEq] at h5;exact h5
     ·rcases hb with⟨r,q,rfl,hcq,v0,ty0,sz0,n0,row0,i0,j0,oty,osz,on,orow,hobe,hi0,hj0,hc0,he0⟩|⟨m,o,hmk,hmo,hmb⟩
      ·simp only[Ob.fam.injEq] at hobe;obtain⟨rfl,rfl,rfl,rfl,rfl⟩:=hobe;rw[he0];exact(hF.own i0 j0 _ _ _ _ hi0 hj0).2 hc0 hκ
      ·rintro rfl;exact hmk (h.heap.inj m k _ _ _ hmo hk hmb (.inl ⟨hκ,rfl⟩))
     ·show b≠E.β k;rcases hb with⟨r,q,rfl,hcq,v0,ty0,sz0,n0,row0,i0,j0,oty,osz,on,orow,hobe,hi0,hj0,hc0,he0⟩|⟨m,o,hmk,hmo,hmb⟩
      ·simp only[Ob.fam.injEq] at hobe;obtain⟨rfl,rfl,rfl,rfl,rfl⟩:=hobe;rw[he0];exact(hF.own i0 j0 _ _ _ _ hi0 hj0).2 hc0 hκ
      ·rintro rfl;exact hmk (h.heap.inj m k _ _ _ hmo hk hmb (.inl ⟨hκ,rfl⟩))
    have hgs:∀i o,getOb ((dropObs H A.ks).set k (some (.fam (v+1) ty sz n (setRow row i j A.cs)))) i=some o->True:=fun _ _ _=>trivial
    have hklt':k<(dropObs H A.ks).length:=by rw[dropObs_length];exact hklt
    refine⟨w',E',go hsz hxl hav hst,h.to ho ht hp (by omega) hstep k (fun m=>m=k∨m ∈ A.ks) (fun _ h=>h) (fun i2 o2 hi2 hne=> ?_) (fun o2 ho2=> ?_) (fun b hb hn=>hoth b fun e=>hn k _ (.inl rfl) hk (.inl ⟨hκ,e⟩)) (fun i2 hi2=>by rw[List.length_set,dropObs_length];exact h.heap.lt i2 hi2) (fun i2 v2 hv2=> ?_) (fun o2 i2 v2 hi2 hv2=> ?_),hstep⟩
    ·rw[getOb_set hklt',if_neg hne] at hi2;obtain⟨g1,g2⟩:=dropObs_get hi2;exact⟨g1,fun hh=>hh.elim hne g2⟩
    ·rw[getOb_set hklt',if_pos rfl] at ho2;simp only[Option.some.injEq] at ho2;subst ho2;refine⟨hL,hFam,fun b hb=>.inr ?_⟩
     rcases hb with hb|⟨v0,ty0,sz0,n0,row0,i0,j0,oty,osz,on,orow,hobe,hi0,hj0,hc0,rfl⟩
     ·exact⟨k,_,.inl rfl,hk,.inl hb⟩
     ·simp only[Ob.fam.injEq] at hobe;obtain⟨rfl,rfl,rfl,rfl,rfl⟩:=hobe;rw[hc2] at hc0;rw[hb2];rcases cellN i0 j0 _ hi0 hj0 with⟨m,nn,N,_,_,_,he3,p1,p2,p3,p4,p7,_,p5,p6⟩|⟨hc,_⟩|⟨p1,p2,p6⟩
      ·rw[p6] at hc0 ⊢;exact⟨m,_,.inr p5,p7,.inl ⟨hc0,rfl⟩⟩
      ·simp[closedOne,closedT] at hc
      ·rw[p6] at hc0 ⊢;exact⟨k,_,.inl rfl,hk,.inr ⟨_,_,_,_,_,_,_,_,_,_,_,rfl,hi0,p2,hc0,rfl⟩⟩
    ·rcases hv2 with hv2|⟨rfl,rfl⟩
     ·exact h.heap.l2 _ _ hv2
     ·exact hL
    ·rw[getOb_set hklt'] at hi2;split at hi2
     ·rename_i he2;subst he2;simp only[Option.some.injEq] at hi2;subst hi2;refine⟨_,_,_,_,_,rfl,?_⟩
      rcases hv2 with hv2|⟨_,rfl⟩
      ·have:=hcurk _ hv2;omega
      ·exact Nat.le_refl _
     ·rename_i hne;obtain⟨g1,g2⟩:=dropObs_get hi2;rcases hv2 with hv2|⟨e1,_⟩
      ·exact h.heap.cur _ _ _ g1 hv2
      ·exact absurd e1 hne
  ·cases he
 ·cases he

end
end Go.SS
/- A calculus of symbolic states: operations that lay or write memory, 3. -/
namespace Go.SS
open Go.RowKit
section
variable {c:Ctx} {E:Env} {H:Heap} {w w':World} {P:Program}

theorem isByteT_ok{e:TypeId}(h:isByteT P e=true):P.underlying e=some (.int .u8)/\zeroCells P e=some [.int .u8 0]:=by
 unfold isByteT at h;split at h
 ·rename_i n hu hz;have:=of_decide_eq_true h;subst this;exact⟨hu,hz⟩
 ·cases h

theorem rd_new{k b κ z n:Nat}(hn:n<=κ):Rd (E.push k b κ z) w (.osl k 0 n) (.slice (some ⟨b,0,none⟩) n κ):=by
 have:=Rd.osl (E:=E.push k b κ z) (w:=w) k 0 n 0 (some ⟨b,0,none⟩) (.inr rfl) (by rw[show(E.push k b κ z).κ k=κ from if_pos rfl];omega) (fun _=>by simp) (fun _=>by rw[show(E.push k b κ z).β k=b from if_pos rfl])
 rw[show(E.push k b κ z).κ k=κ from if_pos rfl] at this
 exact this

theorem make_ok(h:Inv c E H w){t:TypeId}{l m:T}{lv mv:Value}{y:T}{H':Heap}{side:Option Prop}(he:evMake P H t l m=some (y,H',side))(hs:side.getD True)(hl:Rd E w l lv)(hm:Rd E w m mv):
  ∃r w' E',(Instr.makeSlice t lv mv).run P w= .ok r w'/\Rd E' w' y r/\Inv c E' H' w'/\Step E w E' w':=by
 unfold evMake at he;split at he
 ·rename_i e n m hu;split at he
  ·rename_i i z hi hz;split at he
   ·rename_i h1 h2 hone;simp only[Option.some.injEq,Prod.mk.injEq] at he;obtain⟨rfl,rfl,rfl⟩:=he;obtain⟨hn0,hnm,hby,hlt⟩:0<=n/\n<=m/\sizeB i.bytes m.toNat 140737488355328/\m.toNat<9223372036854775808:=hs;unfold sizeB at hby;have hzl:=Nat.eq_of_beq_eq_true h1;have hsz0:=Nat.ne_of_beq_eq_false h2;obtain⟨v,_,hrl,i',hi',hzv⟩:=zero_ok (E:=E) (w:=w) hz;rw[hi] at hi';simp only[Option.some.injEq] at hi';subst hi';rw[rd_int hl,rd_int hm];have hmm:((m.toNat:Nat):Int)=m:=by omega
    have hb':(i.bytes:Int)*m<=281474976710656:=by
     have:((i.bytes*m.toNat:Nat):Int)<=140737488355328:=by omega
     rw[Int.natCast_mul,hmm] at this;omega
    have hrun:=run_make (P:=P) w t e i v hu hi hzv .i64 .i64 n m hn0 hnm hb' (by omega)
    obtain⟨a1,a2,a3,a4,a5⟩:=alloc_facts w (.cells (madeCells v.cells (m.toNat*i.size)) e);have hvs:v.cells.size=i.size:=by rw[←hrl.1];exact hzl
    have hcell:∀(r j:Nat),r<m.toNat->j<i.size->(madeCells v.cells (m.toNat*i.size))[r*i.size+j]? =v.cells[j]? :=by
     intro r j hr hj;have hlt':r*i.size+j<m.toNat*i.size:=by
      have:(r+1)*i.size<=m.toNat*i.size:=Nat.mul_le_mul_right _ hr;rw[Nat.add_mul] at this;omega
     unfold madeCells;simp only[Array.getElem?_map,Array.getElem?_range]
     rw[if_pos hlt'];simp only[Option.map_some,hvs];rw[show(r*i.size+j) % i.size=j by rw[Nat.add_comm,Nat.add_mul_mod_self_right,Nat.mod_eq_of_lt hj]]
     have:v.cells[j]? =some v.cells[j]! :=by
      rw[Array.getElem?_eq_getElem (by omega),getElem!_pos v.cells j (by omega)]
     rw[this]
    have main:∀(ob:Ob),ob.isArr=true->ob.toArr.sz=i.size->ob.toArr.n=n.toNat->(∀r,ob.toArr.row r=z∨(r<n.toNat->ob.toArr.row r=z))->(ob.toArr.cl=true->∀t ∈ z,closedT t=true)->
      ∃r w' E',(Instr.makeSlice t (.int .i64 n) (.int .i64 m)).run P w= .ok r w'/\Rd E' w' (.osl H.length 0 n.toNat) r/\Inv c E' (H++[some ob]) w'/\Step E w E' w':=by
     intro ob hia hsz hon hrow hcl;have hrow':∀r,r<n.toNat->ob.toArr.row r=z:=fun r hr=>by rcases hrow r with h|h;exact h;exact h hr
     have:=h.push a1 a2 a3 (by simp) a4 ob w.heap.size m.toNat _ e (fun _=>Nat.le_refl _) (fun _=>a5) (by rw[hsz,size_madeCells]) (by rw[hon];omega)
      (fun r hr=>by rw[hsz,hrow' r (by omega)];exact hzl) (fun r t hr ht=>by rw[hrow' r (by omega)] at ht;exact List.all_eq_true.1 hone t ht) (fun hc r t hr ht=>by rw[hrow' r (by omega)] at ht;exact hcl hc t ht)
      (fun r j t hr hj=>by
       rw[hon] at hr;rw[hrow' r hr] at hj;have hj':j<z.length:=(List.getElem?_eq_some_iff.1 hj).1
       have hvj:v.cells[j]? =some (v.cells[j]'(by omega)):=Array.getElem?_eq_getElem _
       exact⟨_,by rw[hsz,hcell r j (by omega) (by omega)];exact hvj,hrl.2 _ _ _ hj hvj⟩) hia
     refine⟨_,_,_,hrun,?_,this.1,this.2⟩
     rw[hsz];exact rd_new (by omega)
    split
    ·rename_i hb;have hz1:=(isByteT_ok hb).2;rw[hz] at hz1;simp only[Option.some.injEq] at hz1;have hs1:i.size=1:=by rw[←hzl,hz1];rfl
     refine main (.bys e (List.replicate n.toNat 0)) rfl hs1.symm (by simp[Ob.toArr]) (fun r=>.inr fun hr=> ?_) (fun _ t ht=>by rw[hz1] at ht;simp at ht;subst ht;rfl)
     simp only[Ob.toArr,byRow,hz1];simp[List.getD,hr]
    ·exact main (.arr (z.all closedT) e i.size n.toNat fun _=>z) rfl rfl rfl (fun _=>.inl rfl) (fun hc t ht=>List.all_eq_true.1 hc t ht)
   ·cases he
  ·cases he
 ·cases he


theorem bytesT_ok:∀(cs:List T) (ns:List Int),bytesT cs=some ns->cs=ns.map (.int .u8):=by
 intro cs;induction cs with
 |nil=>intro ns h;simp[bytesT] at h;subst h;rfl
 |cons x cs ih=>
  intro ns h;unfold bytesT at h;split at h
  ·rename_i heq;cases heq
  ·rename_i n r heq;simp only[List.cons.injEq] at heq;obtain⟨rfl,rfl⟩:=heq;cases hb:bytesT cs with
   |none=>rw[hb] at h;cases h
   |some ms=>
    rw[hb] at h;simp only[Option.map_some,Option.some.injEq] at h;subst h;rw[ih ms hb];rfl
  ·cases h

theorem rngs_ok:∀(ns:List Int),(rngs ns).getD True->∀n ∈ ns,Rng .u8 n:=by
 intro ns;induction ns with
 |nil=>intro _ n hn;cases hn
 |cons m ns ih=>
  intro h n hn;unfold rngs at h;cases hr:rngs ns with
  |none=>
   rw[hr] at h ih;simp only[Option.getD_some] at h;rcases List.mem_cons.1 hn with rfl|hn
   ·exact h
   ·exact ih trivial n hn
  |some p=>
   rw[hr] at h ih;simp only[Option.getD_some] at h ih;rcases List.mem_cons.1 hn with rfl|hn
   ·exact h.1
   ·exact ih h.2 n hn

theorem rd_byte{n:Int}{v:Value}(hn:Rng .u8 n)(h:Rd E w (.int .u8 n) v):Rd E w (.int .u8 ((ofI n).toNat:Int)) v:=by
 rw[ofI_eq hn];exact h

theorem fillT_length{place:Nat->Option (Nat×Nat)}:∀(parts:List (Nat×T)) (cs out:List T),fillT place cs parts=some out->out.length=cs.length:=by
 intro parts;induction parts with
 |nil=>intro cs out h;simp[fillT] at h;rw[h]
 |cons p parts ih=>
  intro cs out h;obtain⟨i,x⟩:=p;simp only[fillT] at h;split at h
  ·split at h
   ·rename_i h1 h2;have h2':=Nat.le_of_ble_eq_true h2;rw[ih _ _ h];simp;omega
   ·cases h
  ·cases h

theorem build_run(h:Inv c E H w){a:Act}{s:Slots}{t e:TypeId}{len:Nat}{parts:Array (Nat×Operand)}{i:TypeInfo}{z cs:List T}(hu:P.underlying t=some (.slice e))(hi:P.info? e=some i)(hz:zeroCells P e=some z)
  (h1:Nat.beq z.length i.size=true) (h2:Nat.beq i.size 0=false) (h3:Nat.ble (len*i.size) 16777216=true) (hfill:fillT (fun k=>some (k*i.size,i.size)) ((List.replicate len z).flatten) (parts.toList.map fun p=>(p.1,opT s p.2))=some cs)
  (hop:∀p ∈ parts.toList,OpOk E w a s p.2):
  ∃us,(Instr.buildSlice t len (parts.map fun(i,x)=>(i,a.eval x))).run P w= .ok (.slice (some ⟨w.heap.size,0,none⟩) len len) (w.alloc (.cells us e))/\RdL E w cs us/\cs.length=len*i.size:=by
 have hparts:∀(i:Nat) (p:Nat×T) (q:Nat×Value),(parts.toList.map fun p=>(p.1,opT s p.2))[i]? =some p->(parts.map fun(i,x)=>(i,a.eval x)).toList[i]? =some q->p.1=q.1/\Rd E w p.2 q.2:=by
  intro i p q hp hq;simp only[Array.toList_map,List.getElem?_map,Option.map_eq_some_iff] at hp hq
  obtain⟨x,hx,rfl⟩:=hp;obtain⟨x',hx',rfl⟩:=hq;rw[hx] at hx';simp only[Option.some.injEq] at hx';subst hx';exact⟨rfl,hop x (List.mem_of_getElem? hx)⟩
 have hlen:(parts.toList.map fun p=>(p.1,opT s p.2)).length=(parts.map fun(i,x)=>(i,a.eval x)).toList.length:=by simp
 have hzl:=Nat.eq_of_beq_eq_true h1;have hsz0:=Nat.ne_of_beq_eq_false h2;have hle:=Nat.le_of_ble_eq_true h3;obtain⟨v,hv,hrl,i',hi',hzv⟩:=zero_ok (E:=E) (w:=w) hz;rw[hi] at hi';simp only[Option.some.injEq] at hi';subst hi';have hvs:v.cells.size=i.size:=by rw[←hrl.1];exact hzl
 have hsizeOf:P.cellsOf e=i.size:=by unfold Program.cellsOf;rw[hi];rfl
 have hrunsz:(sizeOf e).run P w= .ok i.size w:=by rw[run_sizeOf e (by rw[hi];rfl),hsizeOf]
 have flat:∀(m k:Nat),((List.replicate m z).flatten)[k]? =if k<m*z.length then z[k % z.length]? else none:=by
  intro m;induction m with
  |zero=>intro k;simp
  |succ m ih=>
   intro k;rw[List.replicate_succ,List.flatten_cons,List.getElem?_append]
   by_cases hk:k<z.length
   ·rw[if_pos hk,if_pos (by rw[Nat.add_mul];omega),Nat.mod_eq_of_lt hk]
   ·rw[if_neg hk,ih];by_cases hk2:k-z.length<m*z.length
    ·rw[if_pos hk2,if_pos (by rw[Nat.add_mul];omega),←Nat.mod_eq_sub_mod (a:=k) (by omega)]
    ·rw[if_neg hk2,if_neg (by rw[Nat.add_mul];omega)]
 have hzero:RdL E w ((List.replicate len z).flatten) ((Array.range (len*i.size)).map (v.cells[· % v.cells.size]!)):=by
  refine⟨by simp[hzl],fun k t x ht hx=> ?_⟩
  rw[flat] at ht;split at ht
  ·rename_i hk;simp only[Array.getElem?_map,Array.getElem?_range] at hx
   rw[if_pos (by rw[←hzl];exact hk)] at hx
   simp only[Option.map_some,Option.some.injEq] at hx;subst hx;have hlt:k % v.cells.size<v.cells.size:=Nat.mod_lt _ (by omega)
   refine hrl.2 (k % z.length) _ _ ht ?_
   rw[getElem!_pos v.cells _ hlt,hzl,←hvs];exact Array.getElem?_eq_getElem hlt
  ·cases ht
 obtain⟨us,hus,hout⟩:=fill_ok _ _ _ _ _ hfill hzero hlen hparts;have hrun:(Instr.buildSlice t len (parts.map fun(i,x)=>(i,a.eval x))).run P w= .ok (.slice (some ⟨w.heap.size,0,none⟩) len len) (w.alloc (.cells us e)):=by
  simp only[Instr.buildSlice,Sem.run_bind,run_underlying hu,Result.andThen_ok,hrunsz];rw[if_neg (by omega)]
  by_cases hz':len*i.size=0
  ·rw[if_pos hz'];simp only[Sem.run_bind,Sem.run_pure,Result.andThen_ok];have hl0:len=0:=by
    rcases Nat.mul_eq_zero.1 hz' with h|h
    ·exact h
    ·exact absurd h hsz0
   have he':((Array.range (len*i.size)).map (v.cells[· % v.cells.size]!))=((Array.range (len*i.size)).map ((#[]:Array Value)[· % (#[]:Array Value).size]!)):=by rw[hz'];simp[Array.range_zero']
   rw[show(fun(x:Nat×Operand)=>(x.1,a.eval x.2))=(fun(x:Nat×Operand)=>match x with|(i,x)=>(i,a.eval x)) from rfl,←he',hus]
   simp only[newRow,Sem.run_bind,run_newObj,Result.andThen_ok,Sem.run_pure];rfl
  ·rw[if_neg hz'];simp only[Sem.run_bind,hv,Sem.run_pure,Result.andThen_ok,hus,newRow,run_newObj];rfl
 have hcslen:cs.length=len*i.size:=by
  rw[fillT_length _ _ _ hfill];simp[hzl]
 exact⟨us,hrun,hout,hcslen⟩

theorem buildSlice_ok(h:Inv c E H w){a:Act}{s:Slots}{t:TypeId}{len:Nat}{parts:Array (Nat×Operand)}{y:T}{H':Heap}{side:Option Prop}(he:evBuildSlice P s H t len parts=some (y,H',side))(hs:side.getD True)
  (hop:∀p ∈ parts.toList,OpOk E w a s p.2):
  ∃r w' E',(Instr.buildSlice t len (parts.map fun(i,x)=>(i,a.eval x))).run P w= .ok r w'/\Rd E' w' y r/\Inv c E' H' w'/\Step E w E' w':=by
 have hparts:∀(i:Nat) (p:Nat×T) (q:Nat×Value),(parts.toList.map fun p=>(p.1,opT s p.2))[i]? =some p->(parts.map fun(i,x)=>(i,a.eval x)).toList[i]? =some q->p.1=q.1/\Rd E w p.2 q.2:=by
  intro i p q hp hq;simp only[Array.toList_map,List.getElem?_map,Option.map_eq_some_iff] at hp hq
  obtain⟨x,hx,rfl⟩:=hp;obtain⟨x',hx',rfl⟩:=hq;rw[hx] at hx';simp only[Option.some.injEq] at hx';subst hx';exact⟨rfl,hop x (List.mem_of_getElem? hx)⟩
 have hlen:(parts.toList.map fun p=>(p.1,opT s p.2)).length=(parts.map fun(i,x)=>(i,a.eval x)).toList.length:=by simp
 unfold evBuildSlice at he;split at he
 ·rename_i e hu;split at he
  ·rename_i i z hi hz;split at he
   ·rename_i h1 h2 h3;have hzl:=Nat.eq_of_beq_eq_true h1;have hsz0:=Nat.ne_of_beq_eq_false h2;have hle:=Nat.le_of_ble_eq_true h3;obtain⟨v,hv,hrl,i',hi',hzv⟩:=zero_ok (E:=E) (w:=w) hz;rw[hi] at hi';simp only[Option.some.injEq] at hi';subst hi';have hvs:v.cells.size=i.size:=by rw[←hrl.1];exact hzl
    split at he
    ·rename_i cs hfill;have hsizeOf:P.cellsOf e=i.size:=by unfold Program.cellsOf;rw[hi];rfl
     have hrunsz:(sizeOf e).run P w= .ok i.size w:=by rw[run_sizeOf e (by rw[hi];rfl),hsizeOf]
     have flat:∀(m k:Nat),((List.replicate m z).flatten)[k]? =if k<m*z.length then z[k % z.length]? else none:=by
      intro m;induction m with
      |zero=>intro k;simp
      |succ m ih=>
       intro k;rw[List.replicate_succ,List.flatten_cons,List.getElem?_append]
       by_cases hk:k<z.length
       ·rw[if_pos hk,if_pos (by rw[Nat.add_mul];omega),Nat.mod_eq_of_lt hk]
       ·rw[if_neg hk,ih];by_cases hk2:k-z.length<m*z.length
        ·rw[if_pos hk2,if_pos (by rw[Nat.add_mul];omega),←Nat.mod_eq_sub_mod (a:=k) (by omega)]
        ·rw[if_neg hk2,if_neg (by rw[Nat.add_mul];omega)]
     have hzero:RdL E w ((List.replicate len z).flatten) ((Array.range (len*i.size)).map (v.cells[· % v.cells.size]!)):=by
      refine⟨by simp[hzl],fun k t x ht hx=> ?_⟩
      rw[flat] at ht;split at ht
      ·rename_i hk;simp only[Array.getElem?_map,Array.getElem?_range] at hx
       rw[if_pos (by rw[←hzl];exact hk)] at hx
       simp only[Option.map_some,Option.some.injEq] at hx;subst hx;have hlt:k % v.cells.size<v.cells.size:=Nat.mod_lt _ (by omega)
       refine hrl.2 (k % z.length) _ _ ht ?_
       rw[getElem!_pos v.cells _ hlt,hzl,←hvs];exact Array.getElem?_eq_getElem hlt
      ·cases ht
     obtain⟨us,hus,hout⟩:=fill_ok _ _ _ _ _ hfill hzero hlen hparts;have hrun:(Instr.buildSlice t len (parts.map fun(i,x)=>(i,a.eval x))).run P w= .ok (.slice (some ⟨w.heap.size,0,none⟩) len len) (w.alloc (.cells us e)):=by
      simp only[Instr.buildSlice,Sem.run_bind,run_underlying hu,Result.andThen_ok,hrunsz];rw[if_neg (by omega)]
      by_cases hz':len*i.size=0
      ·rw[if_pos hz'];simp only[Sem.run_bind,Sem.run_pure,Result.andThen_ok];have hl0:len=0:=by
        rcases Nat.mul_eq_zero.1 hz' with h|h
        ·exact h
        ·exact absurd h hsz0
       have he':((Array.range (len*i.size)).map (v.cells[· % v.cells.size]!))=((Array.range (len*i.size)).map ((#[]:Array Value)[· % (#[]:Array Value).size]!)):=by rw[hz'];simp[Array.range_zero']
       rw[show(fun(x:Nat×Operand)=>(x.1,a.eval x.2))=(fun(x:Nat×Operand)=>match x with|(i,x)=>(i,a.eval x)) from rfl,←he',hus]
       simp only[newRow,Sem.run_bind,run_newObj,Result.andThen_ok,Sem.run_pure];rfl
      ·rw[if_neg hz'];simp only[Sem.run_bind,hv,Sem.run_pure,Result.andThen_ok,hus,newRow,run_newObj];rfl
     have hcslen:cs.length=len*i.size:=by
      rw[fillT_length _ _ _ hfill];simp[hzl]
     obtain⟨a1,a2,a3,a4,a5⟩:=alloc_facts w (.cells us e);split at he
     ·rename_i hb;cases hbt:bytesT cs with
      |none=>rw[hbt] at he;cases he
      |some ns=>
       rw[hbt] at he;simp only[Option.map_some,Option.some.injEq,Prod.mk.injEq] at he;obtain⟨rfl,rfl,rfl⟩:=he;have hcs:=bytesT_ok cs ns hbt;have hrng:=rngs_ok ns hs;have hz1:=(isByteT_ok hb).2;rw[hz] at hz1;simp only[Option.some.injEq] at hz1;have hs1:i.size=1:=by rw[←hzl,hz1];rfl
       have hnl:ns.length=len:=by
        rw[hcs,List.length_map,hs1,Nat.mul_one] at hcslen;exact hcslen
       have:=h.push a1 a2 a3 (by simp) a4 (.bys e (ns.map ofI)) w.heap.size len us e (fun _=>Nat.le_refl _) (fun _=>a5) (by simp only[Ob.toArr];rw[←hout.1,hcslen,hs1]) (by simp[Ob.toArr,hnl]) (fun r hr=>rfl) (fun r t hr ht=>by simp[Ob.toArr,byRow] at ht;subst ht;rfl)
        (fun _ r t hr ht=>by simp[Ob.toArr,byRow] at ht;subst ht;rfl)
        (fun r j t hr hj=>by
         simp only[Ob.toArr,List.length_map] at hr hj ⊢;have hj0:j=0:=by
          have:=(List.getElem?_eq_some_iff.1 hj).1
          simp[byRow] at this;exact this
         subst hj0;simp only[byRow,List.getElem?_cons_zero,Option.some.injEq] at hj
         subst hj;have hrlt:r<us.size:=by rw[←hout.1,hcslen,hs1];omega
         have hru:us[r]? =some (us[r]'hrlt):=Array.getElem?_eq_getElem _
         have hcr:cs[r]? =some (.int .u8 ns[r]):=by rw[hcs];simp[hr]
         refine⟨_,by rw[Nat.mul_one,Nat.add_zero];exact hru,?_⟩
         have hrd:=hout.2 _ _ _ hcr hru;rw[show(List.map ofI ns).getD r 0=ofI ns[r] by simp[List.getD,hr]]
         exact rd_byte (hrng _ (List.getElem_mem hr)) hrd)
       refine⟨_,_,_,hrun,?_,this.1,this.2⟩
       exact rd_new (Nat.le_refl _)
     ·split at he
      case h_2=>cases he
      rename_i hone;simp only[Option.some.injEq,Prod.mk.injEq] at he;obtain⟨rfl,rfl,rfl⟩:=he;have:=h.push a1 a2 a3 (by simp) a4 (.arr (cs.all closedT) e i.size len fun k=>(cs.drop (k*i.size)).take i.size) w.heap.size len us e (fun _=>Nat.le_refl _) (fun _=>a5) (by simp only[Ob.toArr];rw[←hout.1];exact hcslen) (Nat.le_refl _)
       (fun r hr=>by
        simp only[Ob.toArr] at hr ⊢;have:(r+1)*i.size<=len*i.size:=Nat.mul_le_mul_right _ hr;rw[Nat.add_mul] at this;simp only[List.length_take,List.length_drop];omega)
       (fun r t hr ht=>List.all_eq_true.1 hone t (List.mem_of_mem_drop (List.mem_of_mem_take ht)))
       (fun hc r t hr ht=>List.all_eq_true.1 hc t (List.mem_of_mem_drop (List.mem_of_mem_take ht)))
       (fun r j t hr hj=>by
        simp only[Ob.toArr] at hr hj ⊢;rw[List.getElem?_take] at hj
        split at hj
        ·rename_i hjs;rw[List.getElem?_drop] at hj
         have hlt:=(List.getElem?_eq_some_iff.1 hj).1
         have hru:us[r*i.size+j]? =some (us[r*i.size+j]'(by have:=hout.1;omega)):=Array.getElem?_eq_getElem _
         exact⟨_,hru,hout.2 _ _ _ hj hru⟩
        ·cases hj)
      refine⟨_,_,_,hrun,?_,this.1,this.2⟩
      exact rd_new (Nat.le_refl _)
    ·cases he
   ·cases he
  ·cases he
 ·cases he

end
end Go.SS
/- A calculus of symbolic states: append, and the bytes of a string. -/
namespace Go.SS
open Go.RowKit
section
variable {c:Ctx} {E:Env} {H:Heap} {w w':World} {P:Program}

structure Appended(w:World)(sz n m:Nat)(old:Nat->Option Value)(news:List Value)(g:Option Nat)(r:Value)(w':World):Prop where
 os:w'.os=w.os
 tape:w'.tape=w.tape
 output:w'.output=w.output
 dr:w.drawn<=w'.drawn
 size:w.heap.size<=w'.heap.size
 other:∀b,b<w.heap.size->some b≠g->w'.heap[b]? =w.heap[b]?
 block:∃b cap cs tyb,r= .slice (some ⟨b,0,none⟩) (n+m) cap/\n+m<=cap/\w'.heap[b]? =some (.cells cs tyb (0,0))/\cap*sz<=cs.size/\((w.heap.size<=b/\∀a,a<w.heap.size->w'.heap[a]? =w.heap[a]?)∨g=some b)/\
  (∀j,j<n*sz->cs[j]? =old j)/\∀j,j<m*sz->cs[n*sz+j]? =news[j]?

theorem append_core{t tx ty e:TypeId}{i:TypeInfo}{z:Value}(ht:P.underlying t=some (.slice e))(hi:P.info? e=some i)(hz:i.zero=some z)(hzs:z.cells.size=i.size)
  {x:Value} {m:Nat} {news:List Value} (hs:Go.Src P i.size tx x m news w) (n:Nat) (hb:AppB n m i.bytes)
  (d:Value) (old:Nat->Option Value) (g:Option Nat)
  (hd:(∃a,d= .slice a 0 0/\n=0/\g=none)∨∃b cap cur tyb,d= .slice (some ⟨b,0,none⟩) n cap/\g=some b/\w.heap[b]? =some (.cells cur tyb (0,0))/\n<=cap/\cap*i.size<=cur.size/\∀j,j<n*i.size->cur[j]? =old j):
  ∃r w',(Builtin.append_ #[t,tx] ty #[d,x]).run P w= .ok r w'/\(Appended w i.size n m old news g r w'∨(n+m=0/\w'=w/\∃a,r= .slice a 0 0)):=by
 obtain⟨hb1,hb2⟩:=hb;have grow:∀(base:Option Addr) (cap:Nat) (olds:List Value),olds.length=n*i.size->(Builtin.firstCells i.size n (.slice base n cap)).run P w.drew= .ok olds.toArray w.drew->cap<n+m->
   (∀j,j<n*i.size->olds[j]? =old j)->d= .slice base n cap->
   ∃r w',(Builtin.append_ #[t,tx] ty #[d,x]).run P w= .ok r w'/\(Appended w i.size n m old news g r w'∨(n+m=0/\w'=w/\∃a,r= .slice a 0 0)):=by
  intro base cap olds hol hold hcap holds hdd;have hr:=run_append_grow_src (P:=P) w t tx ty e i z ht hi hz base n cap olds hold x m news hs hcap (by omega) (growslice_fits hcap hb1)
  rw[hdd];have hge:=grownCap_ge w (n+m) cap e;refine⟨_,_,hr,.inl ⟨rfl,rfl,rfl,Nat.le_succ _,by simp,fun b hb _=>heap_alloc_old w.drew _ hb,_,_,_,_,rfl,hge,heap_alloc_new w.drew _,?_,.inl ⟨Nat.le_refl _,fun _ ha=>heap_alloc_old w.drew _ ha⟩,fun j hj=> ?_,fun j hj=> ?_⟩⟩
  ·refine Nat.le_of_eq (Eq.symm ?_)
   simp only[Array.size_append,List.size_toArray,List.length_append,size_zeroCells,hzs,hol,hs.newsLen,←Nat.add_mul];congr 1
   omega
  ·rw[Array.getElem?_append_left (by simp[hol];omega)]
   rw[List.getElem?_toArray,List.getElem?_append_left (by omega)]
   exact holds j hj
  ·have hnl:=hs.newsLen;rw[Array.getElem?_append_left (by simp[hol,hnl];omega)]
   rw[List.getElem?_toArray,List.getElem?_append_right (by omega),hol]
   congr 1
   omega
 rcases hd with⟨a,hdd,hn,hg⟩|⟨b,cap,cur,tyb,hdd,hg,hblk,hnc,hcs,hold⟩
 ·subst hn;by_cases hm:0<m
  ·refine grow a 0 [] (by simp) ?_ (by omega) (fun j hj=>by omega) hdd
   cases a with
   |none=>exact run_firstCells_none w.drew i.size 0 0 0
   |some a=>exact run_firstCells_some w.drew i.size 0 a 0 0 [] (by simp) (fun j u h=>by simp at h)
  ·obtain rfl:m=0:=by omega
   have hnl:news=[]:=List.length_eq_zero_iff.1 (by rw[hs.newsLen,Nat.zero_mul])
   subst hnl;rw[hdd];refine⟨.slice a 0 0,w,?_,.inr ⟨rfl,rfl,a,rfl⟩⟩
   cases a<;>(rcases hs.kind with⟨e',hk⟩|hk<;>simp[Builtin.append_,run_underlying ht,run_underlying hk,sizeOf,typeInfo,hi,hs.len,hs.cells,storeCells])
 ·by_cases hroom:n+m<=cap
  ·have hcell:∀j,w.cell? ⟨b,j,none⟩=cur[j]? :=fun j=>cell_of_heap hblk
   have hfit:n*i.size+news.length<=cur.size:=by rw[hs.newsLen,←Nat.add_mul];exact Nat.le_trans (Nat.mul_le_mul_right _ hroom) hcs
   obtain⟨w',hst,ho,htp,hop,hdr,hsize,hoth,cs',hb',hcs',hout,hin⟩:=setCells_same P w b (n*i.size) tyb cur news hblk hfit hs.one;rw[hdd];refine⟨.slice (some ⟨b,0,none⟩) (n+m) cap,w',?_,.inl ⟨ho,htp,hop,hdr,by omega,fun b' _ hne=>hoth b' (fun e=>hne (by rw[hg,e])),b,cap,cs',tyb,rfl,hroom,hb',by rw[hcs'];exact hcs,.inr hg,fun j hj=> ?_,fun j hj=> ?_⟩⟩
   ·rcases hs.kind with⟨e',hk⟩|hk<;>simp[Builtin.append_,run_underlying ht,run_underlying hk,sizeOf,typeInfo,hi,hs.len,hroom,hs.cells,Addr.add_lit,hst]
   ·rw[hout j (.inl hj)];exact hold j hj
   ·exact hin j (by rw[hs.newsLen];exact hj)
  ·have hmin:n*i.size<=cur.size:=Nat.le_trans (Nat.mul_le_mul_right _ hnc) hcs;have holds:(Builtin.firstCells i.size n (.slice (some ⟨b,0,none⟩) n cap)).run P w.drew= .ok (cur.toList.take (n*i.size)).toArray w.drew:=by
    refine run_firstCells_some w.drew i.size n ⟨b,0,none⟩ n cap _ (by simp[Nat.min_eq_left hmin]) (fun j u hj=> ?_)
    rw[Addr.add_lit,Nat.zero_add];show w.cell? _=_;rw[cell_of_heap hblk];rw[List.getElem?_take] at hj
    split at hj
    ·simpa using hj
    ·cases hj
   refine grow (some ⟨b,0,none⟩) cap _ (by simp[Nat.min_eq_left hmin]) holds (by omega) (fun j hj=> ?_) hdd
   rw[List.getElem?_take,if_pos hj,Array.getElem?_toList]
   exact hold j hj


theorem andS_ok{p:Option Prop}{q:Prop}(h:andS p q):p.getD True/\q:=by
 cases p with
 |none=>exact⟨trivial,h⟩
 |some p=>exact h

theorem bysCells{l:List UInt8}{b o:Nat}(hr:∀i x,l[i]? =some x->w.cell? ⟨b,o+i,none⟩=some (.int .u8 (x.toNat:Int))):
  ∀(j:Nat) (u:Value),(l.map fun x=>Value.int .u8 (x.toNat:Int))[j]? =some u->w.cell? (Addr.add ⟨b,o,none⟩ j)=some u:=by
 intro j u hj;simp only[List.getElem?_map,Option.map_eq_some_iff] at hj
 obtain⟨x,hx,rfl⟩:=hj;rw[Addr.add_lit];exact hr j x hx

theorem oneBytes(l:List UInt8):∀u ∈ l.map (fun x=>Value.int .u8 (x.toNat:Int)),u.oneCell'=true:=by
 intro u hu;obtain⟨x,_,rfl⟩:=List.mem_map.1 hu;rfl

theorem bys_part(hH:HeapOk E w H){k off n o:Nat}{ty:TypeId}{l:List UInt8}(hk:getOb H k=some (.bys ty l))(hle:off+n<=l.length)(ho:off<E.κ k∨off=0->o=off*(E.z k).1):
  ((l.drop off).take n).length=n/\∀i x,((l.drop off).take n)[i]? =some x->w.cell? ⟨E.β k,o+i,none⟩=some (.int .u8 (x.toNat:Int)):=by
 obtain⟨hL,⟨hz,hn,hl,hone,hcl,cs,ty,hb,hsz,hc⟩,hN⟩:=hH.live _ _ hk;simp only[Ob.toArr] at hz hn hl hone hcl hsz hc;have hlen:((l.drop off).take n).length=n:=by simp;omega
 refine⟨hlen,fun i x hx=> ?_⟩
 have hi:i<n:=by
  rcases Nat.lt_or_ge i n with h'|h'
  ·exact h'
  ·rw[List.getElem?_eq_none (by omega)] at hx;cases hx
 have hx':l[off+i]? =some x:=by
  rw[List.getElem?_take] at hx
  rw[if_pos hi,List.getElem?_drop] at hx
  exact hx
 have hrow:(byRow l (off+i))[0]? =some (.int .u8 (x.toNat:Int)):=by
  simp[byRow,List.getD,hx']
 obtain⟨u,hu,hru⟩:=hc (off+i) 0 _ (by omega) hrow
 have hob:o=off:=by
  have:=ho (.inl (by omega))
  rw[hz,Nat.mul_one] at this;exact this
 rw[cell_of_heap (hb (by omega)),hob]
 rw[rd_int hru] at hu;rw[Nat.mul_one,Nat.add_zero] at hu;exact hu

theorem src_nil{sz:Nat}{tx e:TypeId}(hd:P.underlying tx=some (.slice e))(a:Option Addr):Go.Src P sz tx (.slice a 0 0) 0 [] w:=by
 cases a with
 |none=>exact Src.ofNil (P:=P) w hd 0
 |some a=>exact Src.ofSlice (P:=P) w hd a 0 0 [] (by simp) (fun j u h=>by simp at h) (fun _ h=>by cases h)

theorem srcB_ok(hH:HeapOk E w H){tx:TypeId}{x:T}{v:Value}{l:List UInt8}{side:Option Prop}(h:srcB H (P.underlying tx) x=some (l,side))(hs:side.getD True)(hx:Rd E w x v):
  Go.Src P 1 tx v l.length (l.map fun x=>Value.int .u8 (x.toNat:Int)) w:=by
 unfold srcB at h;split at h
 ·rename_i l' hd;simp only[Option.some.injEq,Prod.mk.injEq] at h;obtain⟨rfl,rfl⟩:=h;rw[rd_str hx];have:=Src.ofString (P:=P) w hd ⟨l'.toArray⟩
  simpa[byteCells,ByteArray.size] using this
 ·rename_i e l' hd;simp only[Option.some.injEq,Prod.mk.injEq] at h;obtain⟨rfl,rfl⟩:=h;cases hx with
  |bysNil=>exact Src.ofNil (P:=P) w hd 0
  |bysEmp a=>exact Src.ofSlice (P:=P) w hd a 0 0 [] (by simp) (fun j u h=>by simp at h) (fun _ h=>by cases h)
  |bys _ b off cap hN hc hr=>exact Src.ofSlice (P:=P) w hd _ _ _ _ (by simp) (bysCells hr) (oneBytes _)
 ·rename_i e hd;simp only[Option.some.injEq,Prod.mk.injEq] at h;obtain⟨rfl,rfl⟩:=h;rw[rd_v hx];exact Src.ofNil (P:=P) w hd 0
 ·rename_i e k off n hd;split at h
  ·rename_i ty l' hk;simp only[Option.some.injEq,Prod.mk.injEq] at h;obtain⟨rfl,rfl⟩:=h;have hle:off+n<=l'.length:=hs;cases hx with
   |osl _ _ _ o a _ hn ho ha=>
    obtain⟨hlen,hcell⟩:=bys_part hH hk hle ho;by_cases hκ:E.κ k=0
    ·obtain rfl:n=0:=by omega
     rw[hκ,Nat.zero_sub,List.take_zero];exact src_nil hd a
    rw[ha hκ];have:=Src.ofSlice (P:=P) (size:=1) w hd ⟨E.β k,o,none⟩ n (E.κ k-off) (((l'.drop off).take n).map fun x=>Value.int .u8 (x.toNat:Int)) (by rw[List.length_map,hlen,Nat.mul_one]) (bysCells hcell) (oneBytes _)
    rw[hlen];exact this
  ·cases h
 ·cases h

theorem rows_flat(n sz:Nat)(u:Nat->Nat->Value):
  ∃news:List Value,news.length=n*sz/\∀i j,i<n->j<sz->news[i*sz+j]? =some (u i j):=by
 have hlen:∀n,(((List.range n).map fun i=>(List.range sz).map fun j=>u i j).flatten).length=n*sz:=by
  intro n;induction n with
  |zero=>simp
  |succ n ih=>rw[List.range_succ,List.map_append,List.flatten_append,List.length_append,ih,Nat.add_mul];simp
 refine⟨((List.range n).map fun i=>(List.range sz).map fun j=>u i j).flatten,hlen n,?_⟩
 induction n with
 |zero=>intro i j hi;omega
 |succ n ih=>
  intro i j hi hj;rw[List.range_succ,List.map_append,List.flatten_append];by_cases h:i<n
  ·rw[List.getElem?_append_left (by rw[hlen];have:(i+1)*sz<=n*sz:=Nat.mul_le_mul_right _ h;rw[Nat.add_mul] at this;omega)]
   exact ih i j h hj
  ·obtain rfl:i=n:=by omega
   rw[List.getElem?_append_right (by rw[hlen];omega),hlen]
   simp[hj]

theorem flat_place{n sz j:Nat}(hj:j<n*sz):j/sz<n/\j % sz<sz/\j/sz*sz+j % sz=j:=by
 have hsz:0<sz:=by
  rcases Nat.eq_zero_or_pos sz with h|h
  ·subst h;simp at hj
  ·exact h
 exact⟨(Nat.div_lt_iff_lt_mul hsz).2 hj,Nat.mod_lt _ hsz,by rw[Nat.mul_comm];exact Nat.div_add_mod j sz⟩

theorem src_rows{tx e:TypeId}{sz n b o cap:Nat}{row:Nat->List T}{u:Nat->Nat->Value}(hd:P.underlying tx=some (.slice e))
  (hl:∀i,i<n->(row i).length=sz) (h1:∀i t,i<n->t ∈ row i->oneT t=true)
  (hr:∀i j t,i<n->(row i)[j]? =some t->w.cell? ⟨b,o+i*sz+j,none⟩=some (u i j)) (ht:∀i j t,i<n->(row i)[j]? =some t->Rd E w t (u i j)):
  ∃news,Go.Src P sz tx (.slice (some ⟨b,o,none⟩) n cap) n news w/\∀i j t,i<n->(row i)[j]? =some t->∃u,news[i*sz+j]? =some u/\Rd E w t u:=by
 obtain⟨news,hlen,hnews⟩:=rows_flat n sz u;have key:∀j v,news[j]? =some v->∃i k t,i<n/\(row i)[k]? =some t/\v=u i k/\i*sz+k=j:=by
  intro j v hj;have hlt:j<n*sz:=by rw[←hlen];exact(List.getElem?_eq_some_iff.1 hj).1
  obtain⟨p1,p2,p3⟩:=flat_place hlt;have hk:j % sz<(row (j/sz)).length:=by rw[hl _ p1];exact p2
  refine⟨j/sz,j % sz,_,p1,List.getElem?_eq_getElem hk,?_,p3⟩
  have:=hnews _ _ p1 p2;rw[p3,hj] at this
  simpa using this
 refine⟨news,Src.ofSlice (P:=P) w hd ⟨b,o,none⟩ n cap news hlen (fun j v hj=> ?_) (fun v hv=> ?_),fun i j t hi hj=> ?_⟩
 ·obtain⟨i,k,t,hi,hk,rfl,rfl⟩:=key j v hj;rw[Addr.add_lit,←Nat.add_assoc];exact hr i k t hi hk
 ·obtain⟨j,hj,rfl⟩:=List.mem_iff_getElem.1 hv;obtain⟨i,k,t,hi,hk,he,_⟩:=key j _ (List.getElem?_eq_getElem hj)
  rw[he];exact oneT_ok (ht i k t hi hk) (h1 i t hi (List.mem_of_getElem? hk))
 ·have hj':j<sz:=by rw[←hl i hi];exact(List.getElem?_eq_some_iff.1 hj).1
  exact⟨_,hnews i j hi hj',ht i j t hi hj⟩

theorem offRow_eq(row:Nat->List T)(off:Nat):offRow row off=fun i=>row (off+i):=by
 cases off with
 |zero=>funext i;simp[offRow]
 |succ n=>rfl

theorem src_nilC{w:World}{sz:Nat}{tx e:TypeId}(hd:P.underlying tx=some (.slice e))(a:Option Addr)(c:Nat)(h:c≠0->a.isSome=true):Go.Src P sz tx (.slice a 0 c) 0 [] w:=by
 cases a with
 |none=>
  by_cases hc:c=0
  ·subst hc;exact Src.ofNil (P:=P) w hd 0
  ·have:=h hc;cases this
 |some a=>exact Src.ofSlice (P:=P) w hd a 0 c [] (by simp) (fun j u h=>by simp at h) (fun _ h=>by cases h)

theorem offSide_ok{off n m:Nat}(h:(offSide off n m).getD True):off+n<=m:=h

theorem srcT_ok(hH:HeapOk E w H){tx:TypeId}{sz:Nat}{x:T}{v:Value}{S:Sr}(h:srcT H (P.underlying tx) sz x=some S)(hs:S.side.getD True)(hx:Rd E w x v):
  ∃news,Go.Src P sz tx v S.n news w/\(∀i,i<S.n->(S.row i).length=sz)/\(∀i t,i<S.n->t ∈ S.row i->oneT t=true)/\(S.cl=true->∀i t,i<S.n->t ∈ S.row i->closedT t=true)/\
   ∀i j t,i<S.n->(S.row i)[j]? =some t->∃u,news[i*sz+j]? =some u/\Rd E w t u:=by
 unfold srcT at h;split at h
 ·rename_i e sz' n row hd;split at h
  ·rename_i hbeq;obtain rfl:=Nat.eq_of_beq_eq_true hbeq;simp only[Option.some.injEq] at h;subst h;cases hx with
   |slEmp _ _ a=>exact⟨[],Src.ofSlice (P:=P) w hd a 0 0 [] (by simp) (fun j u h=>by simp at h) (fun _ h=>by cases h),fun i hi=>absurd hi (by simp),fun i t hi=>absurd hi (by simp),fun _ i t hi=>absurd hi (by simp),fun i j t hi=>absurd hi (by simp)⟩
   |slNil=>exact⟨[],Src.ofNil (P:=P) w hd 0,fun i hi=>absurd hi (by simp),fun i t hi=>absurd hi (by simp),fun _ i t hi=>absurd hi (by simp),fun i j t hi=>absurd hi (by simp)⟩
   |sl _ _ _ b off cap u hN hcap hl h1 hr ht=>
    obtain⟨news,hsrc,hnews⟩:=src_rows (P:=P) (cap:=cap) hd hl (fun i t hi h=>(h1 i t hi h).1) hr ht
    exact⟨news,hsrc,hl,fun i t hi h=>(h1 i t hi h).1,fun _ i t hi h=>(h1 i t hi h).2,hnews⟩
  ·cases h
 ·rename_i e hd;simp only[Option.some.injEq] at h;subst h;rw[rd_v hx];exact⟨[],Src.ofNil (P:=P) w hd 0,fun i hi=>absurd hi (by simp),fun i t hi=>absurd hi (by simp),fun _ i t hi=>absurd hi (by simp),fun i j t hi=>absurd hi (by simp)⟩
 ·rename_i e k off n hd;split at h
  ·rename_i cl ty sz' m row hk;split at h
   ·rename_i hbeq;obtain rfl:=Nat.eq_of_beq_eq_true hbeq;simp only[Option.some.injEq] at h;subst h;have hle:=offSide_ok hs;obtain⟨hL,⟨hz,hn,hl,hone,hcl,cs,ty,hb,hsz,hc⟩,hN⟩:=hH.live _ _ hk;simp only[Ob.toArr] at hz hn hl hone hcl hsz hc;cases hx with
    |osl _ _ _ o a _ hn' ho ha=>
     simp only[offRow_eq];by_cases hn0:n=0
     ·subst hn0;refine⟨[],src_nilC hd a _ (fun h0=>ha (by omega)▸rfl),fun i hi=>absurd hi (by simp),fun i t hi=>absurd hi (by simp),fun _ i t hi=>absurd hi (by simp),fun i j t hi=>absurd hi (by simp)⟩
     ·have hob:o=off*sz:=by rw[ho (.inl (by omega)),hz]
      have hb:=hb (by omega)
      rw[ha (by omega)]
      obtain⟨news,hsrc,hnews⟩:=src_rows (P:=P) (E:=E) (n:=n) (cap:=E.κ k-off) (b:=E.β k) (o:=o) (row:=fun i=>row (off+i)) (u:=fun i j=>(cs[(off+i)*sz+j]?).getD undef) hd (fun i hi=>hl _ (by omega)) (fun i t hi h=>hone _ t (by omega) h)
       (fun i j t hi hj=>by
        obtain⟨u,hu,_⟩:=hc (off+i) j t (by omega) hj
        rw[cell_of_heap hb,hob,←Nat.add_mul,hu];rfl)
       (fun i j t hi hj=>by
        obtain⟨u,hu,hr⟩:=hc (off+i) j t (by omega) hj
        rw[hu];exact hr)
      exact⟨news,hsrc,fun i hi=>hl _ (by have:i<n:=hi;omega),fun i t hi h=>hone _ t (by have:i<n:=hi;omega) h,fun hc i t hi h=>hcl hc _ t (by have:i<n:=hi;omega) h,hnews⟩
   ·cases h
  ·cases h
 ·cases h


theorem zeroCells_val{e:TypeId}{i:TypeInfo}{z:List T}(hi:P.info? e=some i)(hz:zeroCells P e=some z):∃v,i.zero=some v/\v.cells.size=z.length:=by
 obtain⟨v,_,hrl,i',hi',hzv⟩:=zero_ok (P:=P) (E:=⟨fun _=>False,fun _=>False,fun _=>0,fun _=>0,fun _=>(0,[]),fun _ _=>False,fun _ _ _ _=>0,fun _ _ _ _=>0⟩) (w:=default) hz
 rw[hi] at hi';simp only[Option.some.injEq] at hi';subst hi';exact⟨v,hzv,hrl.1.symm⟩

theorem Inv.appended(h:Inv c E H w){sz n m:Nat}{old:Nat->Option Value}{news:List Value}{g:Option Nat}{r:Value}{w':World}(ha:Appended w sz n m old news g r w'∨(n+m=0/\w'=w/\∃a,r= .slice a 0 0))
  (H1:Heap) (Gv:Nat->Prop) (hlen:H1.length=H.length) (hH1:∀i o,getOb H1 i=some o->getOb H i=some o/\¬Gv i) (hg:∀b,g=some b->∃k o,Gv k/\getOb H k=some o/\Blk E k o b) (ob:Ob) (hsz:ob.toArr.sz=sz) (hn:ob.toArr.n=n+m)
  (hl:∀i,i<n+m->(ob.toArr.row i).length=sz) (hone:∀i t,i<n+m->t ∈ ob.toArr.row i->oneT t=true) (hcl:ob.toArr.cl=true->∀i t,i<n+m->t ∈ ob.toArr.row i->closedT t=true)
  (hold:∀i j t,i<n->(ob.toArr.row i)[j]? =some t->∃u,old (i*sz+j)=some u/\Rd E w t u)
  (hnew:∀i j t,i<m->(ob.toArr.row (n+i))[j]? =some t->∃u,news[i*sz+j]? =some u/\Rd E w t u) (hia:ob.isArr=true:=by rfl):
  ∃E',Rd E' w' (.osl H.length 0 (n+m)) r/\Inv c E' (H1++[some ob]) w'/\Step E w E' w':=by
 have hnf:∀v ty sz n row,ob≠ .fam v ty sz n row:=by rintro v ty sz n row rfl;cases hia
 have hnL:¬E.L H.length:=fun hL=>by have:=h.heap.lt _ hL;omega
 have key:∀i o,getOb (H1++[some ob]) i=some o->(getOb H1 i=some o/\i≠H.length)∨(i=H.length/\o=ob):=fun i o hi=>by
  rw[getOb_append,hlen] at hi;split at hi
  ·exact .inl ⟨hi,by omega⟩
  ·split at hi
   ·simp only[Option.some.injEq] at hi;exact .inr ⟨by assumption,hi.symm⟩
   ·cases hi
 have fin:∀(b κ:Nat) (cs:Array Value) (ty:TypeId),w'.os=w.os->w'.tape=w.tape->w'.output=w.output->w.drawn<=w'.drawn->w.heap.size<=w'.heap.size->(∀x,E.N x->w'.heap[x]? =w.heap[x]?)->
   (κ≠0->w.heap.size<=b∨∃k o,Gv k/\getOb H k=some o/\Blk E k o b)->(∀x,x<w.heap.size->(∀k o,Gv k->getOb H k=some o->¬Blk E k o x)->w'.heap[x]? =w.heap[x]?)->
   (κ≠0->w'.heap[b]? =some (.cells cs ty (0,0)))->κ*sz<=cs.size->n+m<=κ->(∀i j t,i<n+m->(ob.toArr.row i)[j]? =some t->∃u,cs[i*sz+j]? =some u/\Rd E w t u)->
   Inv c (E.push H.length b κ sz) (H1++[some ob]) w'/\Step E w (E.push H.length b κ sz) w':=by
  intro b κ cs ty ho ht hp hdr hs hN hb hw hblk hcs hκ hrow;have hbk:(E.push H.length b κ sz).β H.length=b:=if_pos rfl;have hκk:(E.push H.length b κ sz).κ H.length=κ:=if_pos rfl;have hzk:(E.push H.length b κ sz).z H.length=(sz,[]):=if_pos rfl;have hst:Step E w (E.push H.length b κ sz) w':=⟨Env.push_le hnL,hN,fun i hi=>hi.elim .inl fun e=>.inr fun j hj=>e▸h.heap.lt j hj⟩
  refine⟨h.to ho ht hp hs hst H.length Gv (fun _ h=>h) (fun i o hi hne=> ?_) (fun o hi=> ?_) hw (fun i hi=> ?_) (fun i v hv=>.inl (h.heap.l2 i v hv)) (fun o i v hi hv=> ?_),hst⟩
  ·rcases key i o hi with⟨h1,_⟩|⟨h1,_⟩
   ·exact hH1 i o h1
   ·exact absurd h1 hne
  ·rcases key _ o hi with⟨_,h1⟩|⟨_,rfl⟩
   ·exact absurd rfl h1
   ·refine⟨.inr rfl,ArrOk.ob ⟨by rw[hzk];exact hsz.symm,by rw[hκk,hn];exact hκ,fun i hi=>by rw[hsz];exact hl i (by omega),fun i t hi=>hone i t (by omega),fun hc i t hi=>hcl hc i t (by omega),cs,ty,by rw[hκk,hbk];exact hblk,by rw[hκk,hsz,hzk];exact siz0 hcs,fun i j t hi hj=> ?_⟩ hia,fun x hx=> ?_⟩
    ·obtain⟨u,hu,hr⟩:=hrow i j t (by omega) hj
     exact⟨u,by rw[hsz];exact hu,hst.rd hr⟩
    ·obtain⟨h1,rfl⟩:=hx.arr hia;rw[hκk] at h1;rw[hbk];exact hb h1
  ·rcases hi with hi|rfl
   ·have:=h.heap.lt i hi;simp;omega
   ·simp;omega
  ·rcases key i o hi with⟨h1,_⟩|⟨rfl,rfl⟩
   ·exact h.heap.cur i o v (hH1 i o h1).1 hv
   ·exact absurd (h.heap.l2 _ v hv) hnL
 rcases ha with ha|⟨h0,rfl,a,rfl⟩
 ·obtain⟨ho,ht,hp,hdr,hsize,hoth,b,cap,cs,tyb,rfl,hcap,hblk,hcs,hbg,hcold,hcnew⟩:=ha;have hother:∀x,x<w.heap.size->(∀k o,Gv k->getOb H k=some o->¬Blk E k o x)->w'.heap[x]? =w.heap[x]? :=fun x hx hn=>hoth x hx fun e=>by
   obtain⟨k,o,h1,h2,h3⟩:=hg x e.symm;exact hn k o h1 h2 h3
  have hN:∀x,E.N x->w'.heap[x]? =w.heap[x]? :=fun x hx=>hother x (h.nlt x hx) fun k o _ h2 h3=>(h.heap.live k o h2).2.2 x h3 hx
  have hrow:∀i j t,i<n+m->(ob.toArr.row i)[j]? =some t->∃u,cs[i*sz+j]? =some u/\Rd E w t u:=by
   intro i j t hi hj;have hj':j<sz:=by rw[←hl i hi];exact(List.getElem?_eq_some_iff.1 hj).1
   by_cases hin:i<n
   ·obtain⟨u,hu,hr⟩:=hold i j t hin hj;have:(i+1)*sz<=n*sz:=Nat.mul_le_mul_right _ hin;rw[Nat.add_mul] at this;exact⟨u,by rw[hcold _ (by omega)];exact hu,hr⟩
   ·obtain⟨u,hu,hr⟩:=hnew (i-n) j t (by omega) (by rw[show n+(i-n)=i by omega];exact hj)
    have h2:(i-n+1)*sz<=m*sz:=Nat.mul_le_mul_right _ (by omega)
    rw[Nat.add_mul] at h2;refine⟨u,?_,hr⟩
    rw[show i*sz+j=n*sz+((i-n)*sz+j) by rw[←Nat.add_assoc,←Nat.add_mul,show n+(i-n)=i by omega]]
    rw[hcnew _ (by omega)]
    exact hu
  have:=fin b cap cs tyb ho ht hp hdr hsize hN (fun _=>by rcases hbg with h1|h1;exact .inl h1.1;exact .inr (hg b h1)) hother (fun _=>hblk) hcs hcap hrow
  exact⟨_,rd_new hcap,this.1,this.2⟩
 ·have:=fin 0 0 #[] 0 rfl rfl rfl (Nat.le_refl _) (Nat.le_refl _) (fun _ _=>rfl) (fun h=>absurd rfl h) (fun _ _ _=>rfl) (fun h=>absurd rfl h) (by simp) (by omega) (fun i j t hi=>by omega)
  refine⟨_,?_,this.1,this.2⟩
  have hr:=Rd.osl (E:=E.push H.length 0 0 sz) (w:=w') H.length 0 (n+m) 0 a (.inr rfl) (by rw[show(E.push H.length 0 0 sz).κ H.length=0 from if_pos rfl];omega) (fun _=>by simp) (fun h=>absurd (if_pos rfl) h)
  rw[show(E.push H.length 0 0 sz).κ H.length=0 from if_pos rfl,h0] at hr
  rw[h0];exact hr


theorem dest_ok{k n:Nat}{A:Arr}{dv:Value}(hA:ArrOk E w k A)(hn:n<=A.n)(hd:Rd E w (.osl k 0 n) dv):∃(cs:Array Value) (g:Option Nat),
  ((∃a,dv= .slice a 0 0/\n=0/\g=none)∨∃b cap cur tyb,dv= .slice (some ⟨b,0,none⟩) n cap/\g=some b/\w.heap[b]? =some (.cells cur tyb (0,0))/\n<=cap/\cap*A.sz<=cur.size/\∀j,j<n*A.sz->cur[j]? =cs[j]?)/\
  (∀b,g=some b->E.κ k≠0/\b=E.β k)/\∀i j t,i<A.n->(A.row i)[j]? =some t->∃u,cs[i*A.sz+j]? =some u/\Rd E w t u:=by
 obtain⟨hz,hnk,hl,hone,hcl,cs,ty,hblk,hcs,hc⟩:=hA;cases hd with
 |osl _ _ _ o a _ hn' ho ha=>
  obtain rfl:o=0:=by rw[ho (.inr rfl),Nat.zero_mul]
  by_cases hκ:E.κ k=0
  ·refine⟨cs,none,.inl ⟨a,by rw[hκ,show n=0 by omega],by omega,rfl⟩,fun b h=>(by cases h),hc⟩
  ·refine⟨cs,some (E.β k),.inr ⟨_,_,cs,ty,by rw[ha hκ,Nat.sub_zero],rfl,hblk hκ,by omega,hcs.le,fun _ _=>rfl⟩,fun b h=>⟨hκ,(Option.some.inj h).symm⟩,hc⟩

theorem drop_get{k:Nat}{o0:Ob}(hk:getOb H k=some o0):∀i o,getOb (H.set k none) i=some o->getOb H i=some o/\¬i=k:=by
 intro i o hi;rw[getOb_set (getOb_lt hk)] at hi;split at hi
 ·cases hi
 ·rename_i hne;exact⟨hi,hne⟩

theorem appRow_lt{row row':Nat->List T}{n r:Nat}(h:r<n):appRow row n row' r=row r:=by
 unfold appRow;rw[show Nat.blt r n=true from by simp[Nat.blt];omega]

theorem appRow_ge{row row':Nat->List T}{n r:Nat}(h:¬r<n):appRow row n row' r=row' (r-n):=by
 unfold appRow;rw[show Nat.blt r n=false from Bool.eq_false_iff.2 fun h'=>h (Nat.le_of_ble_eq_true h')]

theorem byRow_one(l:List UInt8)(i:Nat)(t:T)(h:t ∈ byRow l i):oneT t=true/\closedT t=true:=by
 simp[byRow] at h;subst h;exact⟨rfl,rfl⟩

theorem byRow_get{l:List UInt8}{i j:Nat}{t:T}(h:(byRow l i)[j]? =some t):j=0/\t= .int .u8 ((l.getD i 0).toNat:Int):=by
 have hj:j=0:=by
  have:=(List.getElem?_eq_some_iff.1 h).1
  simp[byRow] at this;exact this
 subst hj;simp[byRow] at h;exact⟨rfl,h.symm⟩

theorem bytes_new{l:List UInt8}{i:Nat}(hi:i<l.length):∃u,(l.map fun x=>Value.int .u8 (x.toNat:Int))[i*1+0]? =some u/\Rd E w (.int .u8 ((l.getD i 0).toNat:Int)) u:=by
 refine⟨.int .u8 (l[i].toNat:Int),by simp[hi],?_⟩
 rw[show l.getD i 0=l[i] by simp[List.getD,hi]]
 exact .int _ _

theorem srcF_ok(hH:HeapOk E w H){tx e:TypeId}(hd:P.underlying tx=some (.slice e)){sz:Nat}{x:T}{v:Value}{S:SrF}(h:srcF H sz x=some S)(hs:S.side.getD True)(hx:Rd E w x v)(hnd:S.ks.Nodup):
  ∃(news:List Value) (sm:Nat->Option Nat),Go.Src P sz tx v S.n news w/\(∀i,i<S.n->(S.row i).length=sz)/\
   (∀i j t,i<S.n->(S.row i)[j]? =some t->∃u,news[i*sz+j]? =some u/\((closedOne t=true/\Rd E w t u)∨∃m nn N oty osz orow,t= .own oty osz nn orow/\Rd E w (.osl m 0 nn) u/\getOb H m=some (.arr true oty osz N orow)/\nn<=N/\m ∈ S.ks/\i=0/\sm j=some m))/\
   ∀j j' m,sm j=some m->sm j'=some m->j=j':=by
 unfold srcF at h;split at h
 case h_2=>cases h
 rename_i k off n;split at h
 ·rename_i ty sz' m row hk;split at h
  case h_2=>cases h
  rename_i hbeq;simp only[Option.some.injEq] at h;subst h;have hT:srcT H (P.underlying tx) sz (.osl k off n)=some ⟨true,n,offRow row off,offSide off n m⟩:=by
   simp only[srcT,hd,hk,hbeq]
  obtain⟨news,h1,h2,h3,h4,h5⟩:=srcT_ok (P:=P) hH hT hs hx;refine⟨news,fun _=>none,h1,h2,fun i j t hi hj=> ?_,fun j j' m h=>by cases h⟩
  obtain⟨u,hu,hr⟩:=h5 i j t hi hj;have hm:=List.mem_of_getElem? hj;exact⟨u,hu,.inl ⟨by simp[closedOne,h3 i t hi hm,h4 rfl i t hi hm],hr⟩⟩
 ·rename_i ty sz' m row hk;split at h
  case h_2=>cases h
  rename_i hbeq;split at h
  case h_2=>cases h
  rename_i A hA;simp only[Option.some.injEq] at h;subst h;have hT:srcT H (P.underlying tx) sz (.osl k 0 1)=some ⟨false,1,offRow row 0,offSide 0 1 1⟩:=by
   simp only[srcT,hd,hk,hbeq]
  obtain⟨news,h1,h2,h3,h4,h5⟩:=srcT_ok (P:=P) hH hT (Nat.le_refl 1) hx;have hR:=absorb_rel hA hs;refine⟨news,srcO (row 0),h1,fun i hi=>by rw[hR.length];exact h2 0 (Nat.lt_succ_self 0),fun i j t hi hj=> ?_,fun j j' m h h'=>hR.inj hnd h h'⟩
  obtain rfl:i=0:=by have:i<1:=hi;omega
  rcases hR.get hj with⟨g1,g2⟩|⟨m,nn,N,oty,osz,orow,rfl,g2,g3,g4,g5⟩
  ·obtain⟨u,hu,hr⟩:=h5 0 j t (Nat.lt_succ_self 0) g2;exact⟨u,hu,.inl ⟨g1,hr⟩⟩
  ·obtain⟨u,hu,hr⟩:=h5 0 j _ (Nat.lt_succ_self 0) g2;exact⟨u,hu,.inr ⟨m,nn,N,oty,osz,orow,rfl,hr,g3,g4,g5,rfl,by simp[srcO,g2]⟩⟩
 ·cases h

theorem append_fam(h:Inv c E H w){t tx ty e:TypeId}{i:TypeInfo}{z:List T}{zv:Value}{k n vv N:Nat}{tyb:TypeId}{row:Nat->List T}{x:T}{S:SrF}{dv xv:Value}{e2:TypeId}(ht:P.underlying t=some (.slice e))(hi:P.info? e=some i)(_hz:zeroCells P e=some z)
  (hzv:i.zero=some zv) (hzs:zv.cells.size=i.size) (hk:getOb H k=some (.fam vv tyb i.size N row)) (hdx:P.underlying tx=some (.slice e2)) (hsf:srcF H i.size x=some S) (hnd:nodupN (k::S.ks)=true) (hls:S.side.getD True) (hle:n<=N) (hab:AppB n S.n i.bytes)
  (hd:Rd E w (.osl k 0 n) dv) (hx:Rd E w x xv):
  ∃r w' E',(Builtin.append_ #[t,tx] ty #[dv,xv]).run P w= .ok r w'/\Rd E' w' (.osl H.length 0 (n+S.n)) r/\Inv c E' (dropObs H (k::S.ks)++[some (.fam 0 e i.size (n+S.n) (appRow row n S.row))]) w'/\Step E w E' w':=by
 have hnd:=nodupN_ok hnd;obtain⟨hkn,hnd⟩:=List.nodup_cons.1 hnd;obtain⟨news,sm,hsrc,hsl,hnews,hsm⟩:=srcF_ok (P:=P) h.heap hdx hsf hls hx hnd;obtain⟨hL,hF,hN⟩:=h.heap.live _ _ hk;have hF:FamOk E w k vv tyb i.size N row:=hF;obtain⟨cs,g,hdd,hg,hc⟩:=dest_ok hF.arr hle hd;obtain⟨r,w',hrun,ha⟩:=append_core (P:=P) (ty:=ty) ht hi hzv hzs hsrc n hab dv (fun j=>cs[j]?) g hdd
 have hlr:∀r,r<N->(row r).length=i.size:=fun r hr=>by have:=hF.arr.2.2.1 r hr;rwa [viewR_length] at this
 have hnL:¬E.L H.length:=fun hL=>by have:=h.heap.lt _ hL;omega
 let Ss:Srcs:=fun r q=>if r<n then .inl (r,q) else match sm q with|some m=>.inr m|none=>.inl (0,0)
 have hlA:∀r,r<n+S.n->(appRow row n S.row r).length=i.size:=fun r hr=>by
  by_cases h1:r<n
  ·rw[appRow_lt h1];exact hlr r (by omega)
  ·rw[appRow_ge h1];exact hsl _ (by omega)
 have fin:∀(b κ:Nat) (cs':Array Value) (tyc:TypeId),w'.os=w.os->w'.tape=w.tape->w'.output=w.output->w.drawn<=w'.drawn->w.heap.size<=w'.heap.size->
   (∀x,x<w.heap.size->(E.κ k≠0->x≠E.β k)->w'.heap[x]? =w.heap[x]?)->(κ≠0->w.heap.size<=b∨(E.κ k≠0/\b=E.β k))->
   (κ≠0->w'.heap[b]? =some (.cells cs' tyc (0,0)))->κ*i.size<=cs'.size->n+S.n<=κ->(∀j,j<n*i.size->cs'[j]? =cs[j]?)->(∀j,j<S.n*i.size->cs'[n*i.size+j]? =news[j]?)->
   ∃E',E'.κ H.length=κ/\E'.β H.length=b/\E'.z H.length=(i.size,[])/\E'.L H.length/\Inv c E' (dropObs H (k::S.ks)++[some (.fam 0 e i.size (n+S.n) (appRow row n S.row))]) w'/\Step E w E' w':=by
  intro b κ cs' tyc ho htp hop hdr hsz hoth hb hblk hcs hκ hcold hcnew;have hN1:∀x,E.N x->w'.heap[x]? =w.heap[x]? :=fun x hx=>hoth x (h.nlt x hx) fun hκ e=>hN x (.inl ⟨hκ,e⟩) hx
  let E1:=E.push H.length b κ i.size
  have hle1:E.le E1:=Env.push_le hnL;have hn2:¬E1.L2 H.length 0:=fun hu=>hnL (h.heap.l2 _ _ hu)
  let E':=E1.bump H.length 0 (fun r q=>srcB2 E k vv (Ss r q)) (fun r q=>srcC2 E k vv (Ss r q))
  have hst:Step E w E' w':=⟨hle1.trans (Env.bump_le hn2),hN1,fun i hi=>hi.elim .inl fun e=>.inr fun j hj=>e▸h.heap.lt j hj⟩
  have hb2:∀r q,E'.b2 H.length 0 r q=srcB2 E k vv (Ss r q):=fun r q=>if_pos ⟨rfl,rfl⟩
  have hc2:∀r q,E'.c2 H.length 0 r q=srcC2 E k vv (Ss r q):=fun r q=>if_pos ⟨rfl,rfl⟩
  have hbk:E'.β H.length=b:=if_pos rfl;have hκk:E'.κ H.length=κ:=if_pos rfl;have hzk:E'.z H.length=(i.size,[]):=if_pos rfl;have key:∀q o,getOb (dropObs H (k::S.ks)++[some (.fam 0 e i.size (n+S.n) (appRow row n S.row))]) q=some o->(getOb H q=some o/\q ∉ k::S.ks/\q≠H.length)∨(q=H.length/\o= .fam 0 e i.size (n+S.n) (appRow row n S.row)):=fun q o hq=>by
   rw[getOb_append,dropObs_length] at hq;split at hq
   ·obtain⟨g1,g2⟩:=dropObs_get hq;exact .inl ⟨g1,g2,by omega⟩
   ·split at hq
    ·simp only[Option.some.injEq] at hq;exact .inr ⟨by assumption,hq.symm⟩
    ·cases hq
  have other:∀x,((∃r q,x=E.b2 k vv r q/\E.c2 k vv r q≠0/\OwnB E k (.fam vv tyb i.size N row) x)∨∃m o,m≠k/\getOb H m=some o/\Blk E m o x)->x<w.heap.size/\(E.κ k≠0->x≠E.β k):=by
   intro x hx;rcases hx with⟨r,q,rfl,hcq,v0,ty0,sz0,n0,row0,i0,j0,oty,osz,on,orow,hobe,hi0,hj0,hc0,he0⟩|⟨m,o,hmk,hmo,hmb⟩
   ·simp only[Ob.fam.injEq] at hobe;obtain⟨rfl,rfl,rfl,rfl,rfl⟩:=hobe;refine⟨h.heap.blt hk (.inr ⟨_,_,_,_,_,i0,j0,oty,osz,on,orow,rfl,hi0,hj0,hc0,he0⟩),fun hκ0=> ?_⟩
    rw[he0];exact(hF.own i0 j0 _ _ _ _ hi0 hj0).2 hc0 hκ0
   ·refine⟨h.heap.blt hmo hmb,fun hκ0=> ?_⟩
    rintro rfl;exact hmk (h.heap.inj m k _ _ _ hmo hk hmb (.inl ⟨hκ0,rfl⟩))
  have cells:∀r q t,r<n+S.n->(appRow row n S.row r)[q]? =some t->∃u,cs'[r*i.size+q]? =some u/\((closedOne t=true/\Rd E w t u)∨∃oty osz on orow,t= .own oty osz on orow/\SrcOk E w H k vv N row osz on orow u (Ss r q)/\(r<n∨∃m,¬r<n/\r-n=0/\sm q=some m/\m ∈ S.ks/\Ss r q= .inr m)):=by
   intro r q t hr hq;have hql:q<i.size:=by rw[←hlA r hr];exact(List.getElem?_eq_some_iff.1 hq).1
   by_cases h1:r<n
   ·rw[appRow_lt h1] at hq;obtain⟨u,hu,hru⟩:=hc r q (viewT k vv r q t) (by simp only;omega) (by simp only;rw[viewR_get,hq];rfl)
    have:(r+1)*i.size<=n*i.size:=Nat.mul_le_mul_right _ h1;rw[Nat.add_mul] at this;refine⟨u,by rw[hcold _ (by omega)];exact hu,?_⟩
    rcases hF.cell (show r<N by omega) hq with hcl|⟨oty,osz,on,orow,rfl⟩
    ·rw[viewT_closed hcl] at hru;exact .inl ⟨hcl,hru⟩
    ·refine .inr ⟨_,_,_,_,rfl,?_,.inl h1⟩
     rw[show Ss r q= .inl (r,q) from if_pos h1]
     exact⟨show r<N by omega,⟨_,hq⟩,hru⟩
   ·rw[appRow_ge h1] at hq;obtain⟨u,hu,hru⟩:=hnews (r-n) q t (by omega) hq
    have h2:(r-n+1)*i.size<=S.n*i.size:=Nat.mul_le_mul_right _ (by omega)
    rw[Nat.add_mul] at h2;refine⟨u,?_,?_⟩
    ·rw[show r*i.size+q=n*i.size+((r-n)*i.size+q) by rw[←Nat.add_assoc,←Nat.add_mul,show n+(r-n)=r by omega]]
     rw[hcnew _ (by omega)]
     exact hu
    ·rcases hru with hru|⟨m,nn,NN,oty,osz,orow,rfl,g1,g2,g3,g4,g5,g6⟩
     ·exact .inl hru
     ·have hSs:Ss r q= .inr m:=by simp only[Ss,if_neg h1,g6]
      refine .inr ⟨_,_,_,_,rfl,?_,.inr ⟨m,h1,g5,g6,g4,hSs⟩⟩
      rw[hSs];exact⟨fun e=>hkn (e▸g4),⟨_,_,g2,g3⟩,g1⟩
  have hFam:FamOk E' w' H.length 0 e i.size (n+S.n) (appRow row n S.row):=by
   refine fam_move (E:=E) (w:=w) h.heap hst hk Ss (.inr ⟨rfl,rfl⟩) hb2 hc2 (by rw[hzk]) (by rw[hκk];exact hκ) cs' tyc (by rw[hκk,hbk];exact hblk) (by rw[hκk,hzk];exact siz0 hcs) hlA (fun r q t hr hq=> ?_) (fun i1 j1 i2 j2 oty osz on orow oty' osz' on' orow' h1 h2 h3 h4 h5=> ?_) (fun x hx=>hoth x (other x hx).1 (other x hx).2) (fun x hx hκ0=> ?_)
   ·obtain⟨u,hu,h1|⟨oty,osz,on,orow,rfl,h1,_⟩⟩:=cells r q t hr hq
    ·exact⟨u,hu,.inl h1⟩
    ·exact⟨u,hu,.inr ⟨_,_,_,_,rfl,h1⟩⟩
   ·obtain⟨_,_,hc1|⟨_,_,_,_,_,_,p1⟩⟩:=cells i1 j1 _ h1 h3
    ·simp[closedOne,closedT] at hc1
    obtain⟨_,_,hc1|⟨_,_,_,_,_,_,p2⟩⟩:=cells i2 j2 _ h2 h4
    ·simp[closedOne,closedT] at hc1
    rcases p1 with p1|⟨m1,p1,p3,p5,p7,p9⟩
    ·rcases p2 with p2|⟨m2,p2,p4,p6,p8,p10⟩
     ·rw[show Ss i1 j1= .inl (i1,j1) from if_pos p1,show Ss i2 j2= .inl (i2,j2) from if_pos p2] at h5
      simp only[Sum.inl.injEq,Prod.mk.injEq] at h5;exact h5
     ·rw[show Ss i1 j1= .inl (i1,j1) from if_pos p1,p10] at h5
      cases h5
    ·rcases p2 with p2|⟨m2,p2,p4,p6,p8,p10⟩
     ·rw[show Ss i2 j2= .inl (i2,j2) from if_pos p2,p9] at h5
      cases h5
     ·rw[p9,p10] at h5;simp only[Sum.inr.injEq] at h5;subst h5;exact⟨by omega,hsm _ _ _ p5 p6⟩
   ·rw[hκk] at hκ0;rw[hbk];obtain⟨o1,o2⟩:=other x hx;rcases hb hκ0 with h1|⟨h1,rfl⟩
    ·omega
    ·exact o2 h1
  refine⟨E',hκk,hbk,hzk,.inr rfl,h.to ho htp hop hsz hst H.length (fun m=>m ∈ k::S.ks) (fun _ h=>h) (fun q o hq hne=> ?_) (fun o hq=> ?_) (fun x hx hn=>hoth x hx fun hκ0 e=>hn k _ (by simp) hk (.inl ⟨hκ0,e⟩)) (fun q hq=> ?_) (fun q u hu=> ?_) (fun o q u hq hu=> ?_),hst⟩
  ·rcases key q o hq with⟨g1,g2,_⟩|⟨g1,_⟩
   ·exact⟨g1,g2⟩
   ·exact absurd g1 hne
  ·rcases key _ o hq with⟨_,_,g1⟩|⟨_,rfl⟩
   ·exact absurd rfl g1
   ·refine⟨.inr rfl,hFam,fun x hx=> ?_⟩
    rcases hx with⟨g1,rfl⟩|⟨v0,ty0,sz0,n0,row0,i0,j0,oty,osz,on,orow,hobe,hi0,hj0,hc0,rfl⟩
    ·rw[hκk] at g1;rw[hbk];rcases hb g1 with g2|g2
     ·exact .inl g2
     ·exact .inr ⟨k,_,by simp,hk,.inl g2⟩
    ·simp only[Ob.fam.injEq] at hobe;obtain⟨rfl,rfl,rfl,rfl,rfl⟩:=hobe;rw[hc2] at hc0;rw[hb2];obtain⟨_,_,hc1|⟨_,_,_,_,he1,hs1,p1⟩⟩:=cells i0 j0 _ hi0 hj0
     ·simp[closedOne,closedT] at hc1
     ·rcases p1 with p1|⟨m1,p1,p3,p5,p7,p9⟩
      ·rw[show Ss i0 j0= .inl (i0,j0) from if_pos p1] at hs1 hc0 ⊢
       obtain⟨q1,⟨oty1,q2⟩,_⟩:=hs1;exact .inr ⟨k,_,by simp,hk,.inr ⟨_,_,_,_,_,_,_,_,_,_,_,rfl,q1,q2,hc0,rfl⟩⟩
      ·rw[p9] at hs1 hc0 ⊢;obtain⟨_,⟨oty1,N1,q2,_⟩,_⟩:=hs1;exact .inr ⟨m1,_,by simp[p7],q2,.inl ⟨hc0,rfl⟩⟩
  ·rcases hq with hq|rfl
   ·have:=h.heap.lt q hq;simp[dropObs_length];omega
   ·simp[dropObs_length]
  ·rcases hu with hu|⟨rfl,_⟩
   ·exact .inl (h.heap.l2 _ _ hu)
   ·exact .inr rfl
  ·rcases key q o hq with⟨g1,_,g2⟩|⟨rfl,rfl⟩
   ·rcases hu with hu|⟨e1,_⟩
    ·exact h.heap.cur _ _ _ g1 hu
    ·exact absurd e1 g2
   ·refine⟨_,_,_,_,_,rfl,?_⟩
    rcases hu with hu|⟨_,rfl⟩
    ·exact absurd (h.heap.l2 _ _ hu) hnL
    ·exact Nat.le_refl _
 rcases ha with ha|⟨h0,rfl,a,rfl⟩
 ·obtain⟨ho,htp,hop,hdr,hsize,hoth,b,cap,cs',tyc,rfl,hcap,hblk,hcs,hbg,hcold,hcnew⟩:=ha;obtain⟨E',e1,e2,e3,e4,hI,hst⟩:=fin b cap cs' tyc ho htp hop hdr hsize (fun x hx hn=>hoth x hx fun e=>by obtain⟨g1,g2⟩:=hg x e.symm;exact hn g1 g2) (fun _=>by rcases hbg with h1|h1;exact .inl h1.1;exact .inr (hg b h1)) (fun _=>hblk) hcs hcap hcold hcnew
  refine⟨_,w',E',hrun,?_,hI,hst⟩
  have:=Rd.osl (E:=E') (w:=w') H.length 0 (n+S.n) 0 (some ⟨b,0,none⟩) e4 (by rw[e1];omega) (fun _=>by simp) (fun _=>by rw[e2])
  rw[e1] at this;exact this
 ·obtain⟨E',e1,e2,e3,e4,hI,hst⟩:=fin 0 0 #[] 0 rfl rfl rfl (Nat.le_refl _) (Nat.le_refl _) (fun _ _ _=>rfl) (fun h=>absurd rfl h) (fun h=>absurd rfl h) (by simp) (by omega) (fun j hj=>by rw[show n=0 by omega] at hj;omega) (fun j hj=>by rw[show S.n=0 by omega] at hj;omega)
  refine⟨_,_,E',hrun,?_,hI,hst⟩
  have hr:=Rd.osl (E:=E') (w:=w') H.length 0 (n+S.n) 0 a e4 (by rw[e1];omega) (fun _=>by simp) (fun h=>absurd e1 h)
  rw[e1,h0] at hr;rw[h0];exact hr

theorem zsrc_ok{d:Option TypeDesc}{x:T}{n:Int}(h:zsrc d x=some n):∃kn kx,d=some (.int kn)/\x= .int kx n:=by
 unfold zsrc at h;split at h
 ·simp only[Option.some.injEq] at h;subst h;exact⟨_,_,rfl,rfl⟩
 ·cases h

theorem zc_get0{z:Array Value}{n r q:Nat}(hr:r<n)(hq:q<z.size):(Builtin.zeroCells z n).toList[r*z.size+q]? =z[q]? :=by
 have hlt:r*z.size+q<n*z.size:=by
  have:(r+1)*z.size<=n*z.size:=Nat.mul_le_mul_right _ hr;rw[Nat.add_mul] at this;omega
 rw[Array.getElem?_toList]
 unfold Builtin.zeroCells;simp only[Array.getElem?_map,Array.getElem?_range]
 rw[if_pos hlt];simp only[Option.map_some];rw[show(r*z.size+q) % z.size=q by rw[Nat.add_comm,Nat.add_mul_mod_self_right,Nat.mod_eq_of_lt hq]]
 rw[Array.getElem?_eq_getElem hq,getElem!_pos z q hq]

theorem append_zeros0{t tx ty e:TypeId}{i:TypeInfo}{z:Value}{kn k:IntKind}(ht:P.underlying t=some (.slice e))(htn:P.underlying tx=some (.int kn))(hi:P.info? e=some i)(hz:i.zero=some z)(hzs:z.cells.size=i.size){m:Nat}(h0:0<m)(hsz:0<i.size)(hb:AppB 0 m i.bytes):
  ∃r w',(Builtin.append_ #[t,tx] ty #[.slice none 0 0,.int k m]).run P w= .ok r w'/\Appended w i.size 0 m (fun _=>none) (Builtin.zeroCells z.cells m).toList none r w':=by
 obtain⟨hb1,hb2⟩:=hb;rw[Nat.zero_add] at hb1 hb2;have hr:=Lib.run_append_nil_zeros (P:=P) w t tx ty e i z k kn ht htn hi hz m h0 hsz (by omega) (by omega)
 have hge:=grownCap_ge w m 0 e;refine⟨_,_,hr,rfl,rfl,rfl,Nat.le_succ _,by simp,fun b hb _=>heap_alloc_old w.drew _ hb,w.heap.size,grownCap w m 0 e,_,_,(by rw[Nat.zero_add]),by omega,heap_alloc_new w.drew _,?_,.inl ⟨Nat.le_refl _,fun _ ha=>heap_alloc_old w.drew _ ha⟩,fun j hj=>absurd hj (by omega),fun j hj=> ?_⟩
 ·refine Nat.le_of_eq (Eq.symm ?_)
  simp only[Array.size_append,size_zeroCells,hzs,←Nat.add_mul];rw[show m+(grownCap w m 0 e-m)=grownCap w m 0 e by omega]
 ·rw[Array.getElem?_append_left (by rw[size_zeroCells,hzs];omega),Array.getElem?_toList,Nat.zero_mul,Nat.zero_add]

theorem append_ok(h:Inv c E H w){t tx ty:TypeId}{d x:T}{dv xv:Value}{y:T}{H':Heap}{side:Option Prop}(he:evAppend P H t tx d x=some (y,H',side))(hs:side.getD True)(hd:Rd E w d dv)(hx:Rd E w x xv):
  ∃r w' E',(Builtin.append_ #[t,tx] ty #[dv,xv]).run P w= .ok r w'/\Rd E' w' y r/\Inv c E' H' w'/\Step E w E' w':=by
 unfold evAppend at he;split at he
 case h_2=>cases he
 rename_i e ht;split at he
 case h_2=>cases he
 rename_i i z hi hz;obtain⟨zv,hzv,hzl⟩:=zeroCells_val hi hz;split at he
 ·-- a nil slice
  rename_i h1 h2;have hzs:zv.cells.size=i.size:=by rw[hzl];exact Nat.eq_of_beq_eq_true h1
  rw[rd_v hd];split at he
  ·rename_i hb;have hz1:=(isByteT_ok hb).2;rw[hz] at hz1;simp only[Option.some.injEq] at hz1;have hs1:i.size=1:=by rw[←Nat.eq_of_beq_eq_true h1,hz1];rfl
   cases hsb:srcB H (P.underlying tx) x with
   |none=>rw[hsb] at he;cases he
   |some S=>
    obtain⟨l,ls⟩:=S;rw[hsb] at he;simp only[Option.map_some,Option.some.injEq,Prod.mk.injEq] at he;obtain⟨rfl,rfl,rfl⟩:=he;obtain⟨hls,hpos,hab⟩:=andS_ok hs;have hpos:0<l.length:=hpos;have hsrc:=srcB_ok h.heap hsb hls hx;obtain⟨r,w',hrun,ha⟩:=append_core (P:=P) (ty:=ty) ht hi hzv hzs (by rw[hs1];exact hsrc) 0 hab (.slice none 0 0) (fun _=>none) none (.inl ⟨none,rfl,rfl,rfl⟩)
    rw[hs1] at ha;have:=h.appended ha H (fun _=>False) rfl (fun i o h=>⟨h,fun h=>h⟩) (fun b h=>by cases h) (.bys e l) rfl (by simp[Ob.toArr]) (fun _ _=>rfl) (fun i t _ ht=>(byRow_one l i t ht).1) (fun _ i t _ ht=>(byRow_one l i t ht).2) (fun i j t hi=>absurd hi (by omega))
     (fun i j t hi hj=>by
      simp only[Nat.zero_add] at hj;obtain⟨rfl,rfl⟩:=byRow_get hj;exact bytes_new hi)
    obtain⟨E',hr,hI,hst⟩:=this;rw[Nat.zero_add] at hr;exact⟨r,w',E',hrun,hr,hI,hst⟩
  ·split at he
   ·rename_i n hzs0;split at he
    case h_2=>cases he
    rename_i hone;simp only[Option.some.injEq,Prod.mk.injEq] at he;obtain⟨rfl,rfl,rfl⟩:=he;obtain⟨hn0,hpos,hab⟩:0<=n/\0<n.toNat/\AppB 0 n.toNat i.bytes:=hs;obtain⟨kn,kx,htn,rfl⟩:=zsrc_ok hzs0;rw[rd_int hx];obtain⟨v2,_,hrl,i',hi',hzv'⟩:=zero_ok (P:=P) (E:=E) (w:=w) hz;rw[hi] at hi';simp only[Option.some.injEq] at hi';subst hi';rw[hzv] at hzv';simp only[Option.some.injEq] at hzv';subst hzv';obtain⟨r,w',hrun,ha⟩:=append_zeros0 (P:=P) (w:=w) (ty:=ty) (k:=kx) ht htn hi hzv hzs hpos (by have:=Nat.ne_of_beq_eq_false h2;omega) hab
    rw[show((n.toNat:Nat):Int)=n by omega] at hrun
    have hzl':=Nat.eq_of_beq_eq_true h1;have:=h.appended (.inl ha) H (fun _=>False) rfl (fun i o h=>⟨h,fun h=>h⟩) (fun b h=>by cases h) (.arr (z.all closedT) e i.size n.toNat fun _=>z) rfl (by simp[Ob.toArr]) (fun _ _=>hzl') (fun _ t _ ht=>List.all_eq_true.1 hone t ht) (fun hc _ t _ ht=>List.all_eq_true.1 hc t ht) (fun i j t hi=>absurd hi (by omega))
     (fun a j t ha hj=>by
      have hj:z[j]? =some t:=hj;have hj':j<z.length:=(List.getElem?_eq_some_iff.1 hj).1
      have hvj:zv.cells[j]? =some (zv.cells[j]'(by omega)):=Array.getElem?_eq_getElem _
      refine⟨_,?_,hrl.2 _ _ _ hj hvj⟩
      rw[←hzs,zc_get0 ha (by omega)]
      exact hvj)
    obtain⟨E',hr,hI,hst⟩:=this;rw[Nat.zero_add] at hr;exact⟨r,w',E',hrun,hr,hI,hst⟩
   ·cases hsb:srcT H (P.underlying tx) i.size x with
    |none=>rw[hsb] at he;cases he
    |some S=>
     rw[hsb] at he;simp only[Option.map_some,Option.some.injEq,Prod.mk.injEq] at he;obtain⟨rfl,rfl,rfl⟩:=he;obtain⟨hls,hpos,hab⟩:=andS_ok hs;have hpos:0<S.n:=hpos;obtain⟨news,hsrc,hl,hone,hcl,hnews⟩:=srcT_ok (P:=P) h.heap hsb hls hx;obtain⟨r,w',hrun,ha⟩:=append_core (P:=P) (ty:=ty) ht hi hzv hzs hsrc 0 hab (.slice none 0 0) (fun _=>none) none (.inl ⟨none,rfl,rfl,rfl⟩)
     have:=h.appended ha H (fun _=>False) rfl (fun i o h=>⟨h,fun h=>h⟩) (fun b h=>by cases h) (.arr S.cl e i.size S.n S.row) rfl (by simp[Ob.toArr]) (fun i hi=>hl i (by omega)) (fun i t hi ht=>hone i t (by omega) ht) (fun hc i t hi ht=>hcl hc i t (by omega) ht) (fun i j t hi=>absurd hi (by omega))
      (fun i j t hi hj=>by
       simp only[Nat.zero_add] at hj;exact hnews i j t hi hj)
     obtain⟨E',hr,hI,hst⟩:=this;rw[Nat.zero_add] at hr;exact⟨r,w',E',hrun,hr,hI,hst⟩
 ·-- an empty slice
  rename_i h1 h2;have hzs:zv.cells.size=i.size:=by rw[hzl];exact Nat.eq_of_beq_eq_true h1
  obtain⟨a0,rfl⟩:∃a0,dv= .slice a0 0 0:=by cases hd with|emp a=>exact⟨a,rfl⟩
  split at he
  ·cases he
  ·cases hsb:srcT H (P.underlying tx) i.size x with
   |none=>rw[hsb] at he;cases he
   |some S=>
    rw[hsb] at he;simp only[Option.map_some,Option.some.injEq,Prod.mk.injEq] at he;obtain⟨rfl,rfl,rfl⟩:=he;obtain⟨hls,hab⟩:=andS_ok hs;obtain⟨news,hsrc,hl,hone,hcl,hnews⟩:=srcT_ok (P:=P) h.heap hsb hls hx;obtain⟨r,w',hrun,ha⟩:=append_core (P:=P) (ty:=ty) ht hi hzv hzs hsrc 0 hab (.slice a0 0 0) (fun _=>none) none (.inl ⟨a0,rfl,rfl,rfl⟩)
    have:=h.appended ha H (fun _=>False) rfl (fun i o h=>⟨h,fun h=>h⟩) (fun b h=>by cases h) (.arr S.cl e i.size S.n S.row) rfl (by simp[Ob.toArr]) (fun i hi=>hl i (by omega)) (fun i t hi ht=>hone i t (by omega) ht) (fun hc i t hi ht=>hcl hc i t (by omega) ht) (fun i j t hi=>absurd hi (by omega))
     (fun i j t hi hj=>by
      simp only[Nat.zero_add] at hj;exact hnews i j t hi hj)
    obtain⟨E',hr,hI,hst⟩:=this;rw[Nat.zero_add] at hr;exact⟨r,w',E',hrun,hr,hI,hst⟩
 ·rename_i k n h1 h2;have hzs:zv.cells.size=i.size:=by rw[hzl];exact Nat.eq_of_beq_eq_true h1
  split at he
  ·-- bytes
   rename_i tyb l hk;split at he
   case h_2=>cases he
   rename_i hb;have hz1:=(isByteT_ok hb).2;rw[hz] at hz1;simp only[Option.some.injEq] at hz1;have hbu:i.size=1:=by rw[←Nat.eq_of_beq_eq_true h1,hz1];rfl
   cases hsb:srcB H (P.underlying tx) x with
   |none=>rw[hsb] at he;cases he
   |some S=>
    obtain⟨m,ls⟩:=S;rw[hsb] at he;simp only[Option.map_some,Option.some.injEq,Prod.mk.injEq] at he;obtain⟨rfl,rfl,rfl⟩:=he;obtain⟨hls,hle,hab⟩:=andS_ok hs;have hle:n<=l.length:=hle;have hsrc:=srcB_ok h.heap hsb hls hx;have hA:ArrOk E w k ⟨true,tyb,1,l.length,byRow l⟩:=(h.heap.live _ _ hk).2.1;obtain⟨cs,g,hdd,hg,hc⟩:=dest_ok hA hle hd;obtain⟨r,w',hrun,ha⟩:=append_core (P:=P) (ty:=ty) ht hi hzv hzs (by rw[hbu];exact hsrc) n hab dv (fun j=>cs[j]?) g (by rw[hbu];exact hdd)
    rw[hbu] at ha;have hlen:(l.take n++m).length=n+m.length:=by simp;omega
    have:=h.appended ha (H.set k none) (fun i=>i=k) (by simp) (drop_get hk) (fun b hb=>⟨k,_,rfl,hk,.inl (hg b hb)⟩) (.bys e (l.take n++m)) rfl hlen (fun _ _=>rfl) (fun i t _ ht=>(byRow_one _ i t ht).1) (fun _ i t _ ht=>(byRow_one _ i t ht).2)
      (fun i j t hi hj=>by
       obtain⟨rfl,rfl⟩:=byRow_get hj;obtain⟨u,hu,hr⟩:=hc i 0 (.int .u8 ((l.getD i 0).toNat:Int)) (by simp only;omega) rfl
       refine⟨u,hu,?_⟩
       rw[show(l.take n++m).getD i 0=l.getD i 0 by
        simp only[List.getD];rw[List.getElem?_append_left (by simp;omega),List.getElem?_take,if_pos hi]]
       exact hr)
      (fun i j t hi hj=>by
       obtain⟨rfl,rfl⟩:=byRow_get hj;rw[show(l.take n++m).getD (n+i) 0=m.getD i 0 by
        simp only[List.getD];rw[List.getElem?_append_right (by simp;omega)]
        congr 2
        simp;omega]
       exact bytes_new hi)
    obtain⟨E',hr,hI,hst⟩:=this;exact⟨r,w',E',hrun,hr,hI,hst⟩
  ·rename_i cl tyb sz N row hk;split at he
   case h_2=>cases he
   rename_i hbeq;obtain rfl:=Nat.eq_of_beq_eq_true hbeq;cases hsb:srcT H (P.underlying tx) i.size x with
   |none=>rw[hsb] at he;cases he
   |some S=>
    rw[hsb] at he;simp only[Option.map_some,Option.some.injEq,Prod.mk.injEq] at he;obtain⟨rfl,rfl,rfl⟩:=he;obtain⟨hls,hle,hab⟩:=andS_ok hs;have hle:n<=N:=hle;obtain⟨news,hsrc,hsl,hsone,hscl,hnews⟩:=srcT_ok (P:=P) h.heap hsb hls hx;have hA:ArrOk E w k ⟨cl,tyb,i.size,N,row⟩:=(h.heap.live _ _ hk).2.1;obtain⟨cs,g,hdd,hg,hc⟩:=dest_ok hA hle hd;obtain⟨hz',hn,hl,hone,hcl,_⟩:=hA;obtain⟨r,w',hrun,ha⟩:=append_core (P:=P) (ty:=ty) ht hi hzv hzs hsrc n hab dv (fun j=>cs[j]?) g hdd
    have:=h.appended ha (H.set k none) (fun i=>i=k) (by simp) (drop_get hk) (fun b hb=>⟨k,_,rfl,hk,.inl (hg b hb)⟩) (.arr (cl&&S.cl) e i.size (n+S.n) (appRow row n S.row)) rfl rfl
      (fun r hr=>by
       simp only[Ob.toArr];by_cases h:r<n
       ·rw[appRow_lt h];exact hl r (by simp only;omega)
       ·rw[appRow_ge h];exact hsl _ (by omega))
      (fun r t hr ht=>by
       simp only[Ob.toArr] at ht;by_cases h:r<n
       ·rw[appRow_lt h] at ht;exact hone r t (by simp only;omega) ht
       ·rw[appRow_ge h] at ht;exact hsone _ t (by omega) ht)
      (fun hcc r t hr ht=>by
       simp only[Ob.toArr,Bool.and_eq_true] at ht hcc;by_cases h:r<n
       ·rw[appRow_lt h] at ht;exact hcl hcc.1 r t (by simp only;omega) ht
       ·rw[appRow_ge h] at ht;exact hscl hcc.2 _ t (by omega) ht)
      (fun r j t hr hj=>by
       simp only[Ob.toArr] at hj;rw[appRow_lt hr] at hj;exact hc r j t (Nat.lt_of_lt_of_le hr hle) hj)
      (fun r j t hr hj=>by
       simp only[Ob.toArr] at hj;rw[appRow_ge (by omega),show n+r-n=r by omega] at hj
       exact hnews r j t hr hj)
    obtain⟨E',hr,hI,hst⟩:=this;exact⟨r,w',E',hrun,hr,hI,hst⟩
  ·-- rows with cells that own rows
   rename_i vv tyb sz N row hk;split at he
   case h_2=>cases he
   rename_i S hbeq hdx hsf;split at he
   case h_2=>cases he
   rename_i hnd;obtain rfl:=Nat.eq_of_beq_eq_true hbeq;simp only[Option.some.injEq,Prod.mk.injEq] at he;obtain⟨rfl,rfl,rfl⟩:=he;obtain⟨hls,hle,hab⟩:=andS_ok hs;exact append_fam h ht hi hz hzv hzs hk hdx hsf hnd hls hle hab hd hx
  ·cases he
 ·cases he

end
end Go.SS
/- A calculus of symbolic states: operations that lay or write memory, together. -/
namespace Go.SS
open Go.RowKit
section
variable {c:Ctx} {E:Env} {H:Heap} {w w':World} {P:Program}

def Env.addN(E:Env)(p:Nat->Prop):Env:={E with N:=fun b=>E.N b∨p b}

theorem Env.addN_le(E:Env)(p:Nat->Prop):E.le (E.addN p):=⟨fun _ h=>.inl h,fun _ h=>h,fun _ _=>rfl,fun _ _=>rfl,fun _ _=>rfl,fun _ _ h=>h,fun _ _ _ _ _=>rfl,fun _ _ _ _ _=>rfl⟩

theorem Inv.grow(h:Inv c E H w)(ho:w'.os=w.os)(ht:w'.tape=w.tape)(hp:w'.output=w.output)(hsz:w.heap.size<=w'.heap.size)(hw:∀b,b<w.heap.size->w'.heap[b]? =w.heap[b]?)(hd:w.drawn<=w'.drawn:=by first|assumption|exact Nat.le_refl _|exact Nat.le_succ _):
  Inv c (E.addN fun b=>w.heap.size<=b/\b<w'.heap.size) H w'/\Step E w (E.addN fun b=>w.heap.size<=b/\b<w'.heap.size) w':=by
 have hstep:Step E w (E.addN fun b=>w.heap.size<=b/\b<w'.heap.size) w':=⟨E.addN_le _,fun b hb=>hw b (h.nlt b hb),fun _ h=>.inl h⟩
 refine⟨⟨⟨fun k ob hk=> ?_,h.heap.inj,h.heap.lt,h.heap.l2,h.heap.cur⟩,fun b hb=> ?_,fun b hb=> ?_,h.bnew,h.fr.heap ho ht hp hsz (fun b h1 h2=>hw b (by have:=h.fr.size;omega)),h.keep.step hstep⟩,hstep⟩
 ·obtain⟨h1,h2,h3⟩:=h.heap.live k ob hk;refine⟨h1,h2.mono h1 hstep (fun b hb=>hw b (h2.blt hb)),fun b hb hN=> ?_⟩
  have hb:Blk E k ob b:=hb;rcases hN with hN|hN
  ·exact h3 b hb hN
  ·have:=h2.blt hb;have:=hN.1;omega
 ·rcases hb with hb|hb
  ·have:=h.nlt b hb;omega
  ·exact hb.2
 ·rcases hb with hb|hb
  ·exact h.nnew b hb
  ·have:=h.fr.size;exact .inr (.inl (by omega))

theorem strBytes_ok(h:Inv c E H w){src dst e:TypeId}{l:List UInt8}(hs:P.underlying src=some .string)(hd:P.underlying dst=some (.slice e))(he:isByteT P e=true):
  ∃r w' E',(convert src dst (.string ⟨l.toArray⟩)).run P w= .ok r w'/\Rd E' w' (.bys l) r/\Inv c E' H w'/\Step E w E' w':=by
 have hrun:=run_bytes_of_string (P:=P) w src dst e ⟨l.toArray⟩ hs hd (isByteT_ok he).1;have hsz:(ByteArray.mk l.toArray).size=l.length:=by simp[ByteArray.size]
 rw[hsz] at hrun;refine⟨_,_,_,hrun,?_,h.grow (w':=w.drew.alloc _) rfl rfl rfl (by simp) (fun b hb=>heap_alloc_old w.drew _ hb)⟩
 have hge:=grownCap_ge w l.length 0 e;refine .bys l w.heap.size 0 _ (.inr ⟨Nat.le_refl _,by simp⟩) hge (fun i x hx=> ?_)
 have hlt:i<l.length:=(List.getElem?_eq_some_iff.1 hx).1
 have hnew:=heap_alloc_new w.drew (.cells (bytesRow ⟨l.toArray⟩ (grownCap w l.length 0 e)) e ((bytesRow ⟨l.toArray⟩ (grownCap w l.length 0 e)).size,(bytesRow ⟨l.toArray⟩ (grownCap w l.length 0 e)).size+1));have hcell:=cell_of_heap (i:=0+i) hnew;refine hcell.trans ?_
 rw[Nat.zero_add,bytesRow_at ⟨l.toArray⟩ _ i (by simpa using hlt)]
 simp only[List.getElem_toArray];rw[(List.getElem?_eq_some_iff.1 hx).2]

theorem ints_row:∀{cs:List T} {l:List Int},intsT cs=some l->∀k,k<cs.length->(cs.drop k).take 1=[.int .i64 (l.getD k 0)]
 | [],_,_,k,hk=>absurd hk (Nat.not_lt_zero k)
 |c::cs,l,h,k,hk=>by
  unfold intsT at h;split at h
  ·rename_i h0;cases h0
  ·rename_i n r h0;simp only[List.cons.injEq] at h0;obtain⟨rfl,rfl⟩:=h0;simp only[Option.map_eq_some_iff] at h;obtain⟨l',hl,rfl⟩:=h;cases k with
   |zero=>rfl
   |succ k=>exact ints_row hl k (by simpa using hk)
  ·cases h
theorem litR_eq(cs:List T)(sz len:Nat)(k:Nat)(hk:k<len):litR cs sz len k=(cs.drop (k*sz)).take sz:=by
 unfold litR;cases hl:intsT cs with
 |none=>rfl
 |some l=>
  cases hb:Nat.beq sz 1&&Nat.beq cs.length len with
  |false=>rfl
  |true=>
   simp only[Bool.and_eq_true] at hb;have e1:=Nat.eq_of_beq_eq_true hb.1;have e2:=Nat.eq_of_beq_eq_true hb.2;rw[e1,Nat.mul_one];exact(ints_row hl k (by omega)).symm
theorem Rd.rows{sz n:Nat}{row row':Nat->List T}{v:Value}(h:Rd E w (.sl sz n row) v)(e:∀i,i<n->row' i=row i):Rd E w (.sl sz n row') v:=by
 cases h with
 |slNil=>exact .slNil _ _
 |slEmp=>exact .slEmp _ _ _
 |sl _ _ _ b off cap u hN hc hl h1 hr ht=>
  exact .sl sz n row' b off cap u hN hc (fun i hi=>by rw[e i hi];exact hl i hi) (fun i t hi hm=>h1 i t hi (by rw[←e i hi];exact hm)) (fun i j t hi hj=>hr i j t hi (by rw[←e i hi];exact hj)) (fun i j t hi hj=>ht i j t hi (by rw[←e i hi];exact hj))

theorem tmp_ok(h:Inv c E H w){a:Act}{s:Slots}{t:TypeId}{len:Nat}{parts:Array (Nat×Operand)}{y:T}{side:Option Prop}(he:evTmpL P s t len parts=some (y,side))(hop:∀p ∈ parts.toList,OpOk E w a s p.2):
  ∃r w' E',(Instr.buildSlice t len (parts.map fun(i,x)=>(i,a.eval x))).run P w= .ok r w'/\Rd E' w' y r/\Inv c E' H w'/\Step E w E' w':=by
 unfold evTmpL at he;split at he
 ·rename_i e hu;split at he
  ·rename_i i z hi hz;split at he
   ·rename_i h1 h2 h3;split at he
    ·rename_i cs hfill;split at he
     ·rename_i _ hone hcl;simp only[Option.some.injEq,Prod.mk.injEq] at he;obtain⟨rfl,rfl⟩:=he;obtain⟨us,hrun,hout,hcslen⟩:=build_run h hu hi hz h1 h2 h3 hfill hop;obtain⟨a1,a2,a3,a4,a5⟩:=alloc_facts w (.cells us e);obtain⟨hI,hS⟩:=h.grow (w':=w.alloc (.cells us e)) a1 a2 a3 (by simp) a4
      have at_:∀r j t,r<len->((cs.drop (r*i.size)).take i.size)[j]? =some t->cs[r*i.size+j]? =some t/\us[r*i.size+j]? =some (us.getD (r*i.size+j) undef):=by
       intro r j t hr hj;rw[List.getElem?_take] at hj
       split at hj
       ·rw[List.getElem?_drop] at hj
        have hlt:=(List.getElem?_eq_some_iff.1 hj).1
        refine⟨hj,?_⟩
        have hlu:r*i.size+j<us.size:=by have:=hout.1;omega
        rw[Array.getD_eq_getD_getElem?,Array.getElem?_eq_getElem hlu]
        rfl
       ·cases hj
      refine⟨_,_,_,hrun,Rd.rows (row:=fun k=>(cs.drop (k*i.size)).take i.size) ?_ (litR_eq cs i.size len),hI,hS⟩
      refine .sl i.size len _ w.heap.size 0 len (fun r j=>us.getD (r*i.size+j) undef) (.inr ⟨Nat.le_refl _,by simp⟩) (Nat.le_refl _) (fun r hr=> ?_) (fun r t hr ht=> ?_) (fun r j t hr hj=> ?_) (fun r j t hr hj=> ?_)
      ·have:(r+1)*i.size<=len*i.size:=Nat.mul_le_mul_right _ hr;rw[Nat.add_mul] at this;simp only[List.length_take,List.length_drop];omega
      ·have hm:=List.mem_of_mem_drop (List.mem_of_mem_take ht);exact⟨List.all_eq_true.1 hone t hm,List.all_eq_true.1 hcl t hm⟩
      ·rw[Nat.zero_add];exact(cell_of_heap a5).trans (at_ r j t hr hj).2
      ·obtain⟨q1,q2⟩:=at_ r j t hr hj;exact hS.rd (hout.2 _ _ _ q1 q2)
     ·cases he
    ·cases he
   ·cases he
  ·cases he
 ·cases he

theorem tmp0_ok(h:Inv c E H w){a:Act}{s:Slots}{t:TypeId}{parts:Array (Nat×Operand)}{y:T}{side:Option Prop}(he:evTmp P s (.buildSlice t 0 parts)=some (y,side)):
  ∃r w' E',(Instr.buildSlice t 0 (parts.map fun(i,x)=>(i,a.eval x))).run P w= .ok r w'/\Rd E' w' y r/\Inv c E' H w'/\Step E w E' w':=by
 simp only[evTmp] at he;split at he
 case h_2=>cases he
 rename_i e hu hp;obtain rfl:parts= #[]:=Array.ext' (by simpa using hp)
 split at he
 case h_2=>cases he
 rename_i i z hi hz;split at he
 case h_2=>cases he
 rename_i h1 h2;simp only[Option.some.injEq,Prod.mk.injEq] at he;obtain⟨rfl,rfl⟩:=he;obtain⟨us,hrun,_,_⟩:=build_run (a:=a) (s:=s) (len:=0) (parts:= #[]) (cs:=[]) h hu hi hz h1 h2 (by simp) rfl (fun p hp=>by simp at hp)
 obtain⟨a1,a2,a3,a4,a5⟩:=alloc_facts w (.cells us e);obtain⟨hI,hS⟩:=h.grow (w':=w.alloc (.cells us e)) a1 a2 a3 (by simp) a4
 exact⟨_,_,_,hrun,.emp _,hI,hS⟩

theorem srcT_nil{u:Option TypeDesc}{sz:Nat}{x:T}{q:Sr}(h:srcT [] u sz x=some q):srcT H u sz x=some q:=by
 unfold srcT at h ⊢;split at h
 ·exact h
 ·exact h
 ·cases h
 ·cases h

theorem tmpA_ok(h:Inv c E H w){t tx ty e:TypeId}{x:T}{dv xv:Value}{i:TypeInfo}{z:List T}{q:Sr}(hu:P.underlying t=some (.slice e))(hi:P.info? e=some i)(hz:zeroCells P e=some z)(hl:Nat.beq z.length i.size=true)
  (hq:srcT [] (P.underlying tx) i.size x=some q) (hcl:q.cl=true) (hs:andS q.side (AppB 0 q.n i.bytes)) (hd:Rd E w .emp dv) (hx:Rd E w x xv):
  ∃r w' E',(Builtin.append_ #[t,tx] ty #[dv,xv]).run P w= .ok r w'/\Rd E' w' (.sl i.size q.n q.row) r/\Inv c E' H w'/\Step E w E' w':=by
 obtain⟨zv,hzv,hzl⟩:=zeroCells_val hi hz;have hzs:zv.cells.size=i.size:=by rw[hzl];exact Nat.eq_of_beq_eq_true hl
 obtain⟨a0,rfl⟩:∃a0,dv= .slice a0 0 0:=by cases hd with|emp a=>exact⟨a,rfl⟩
 obtain⟨hls,hab⟩:=andS_ok hs;obtain⟨news,hsrc,hlen,hone,hcl',hnews⟩:=srcT_ok (P:=P) h.heap (srcT_nil hq) hls hx;obtain⟨r,w',hrun,ha⟩:=append_core (P:=P) (ty:=ty) hu hi hzv hzs hsrc 0 hab (.slice a0 0 0) (fun _=>none) none (.inl ⟨a0,rfl,rfl,rfl⟩)
 rcases ha with ha|⟨hm,rfl,a1,rfl⟩
 ·obtain⟨ho,ht,hp,hdr,hsize,hoth,b,cap,cs,tyb,rfl,hcap,hblk,hcs,hbg,_,hnew⟩:=ha;have hold:∀b,b<w.heap.size->w'.heap[b]? =w.heap[b]? :=fun b hb=>hoth b hb (by simp)
  obtain⟨hI,hS⟩:=h.grow (w':=w') ho ht hp hsize hold;refine⟨_,w',_,hrun,?_,hI,hS⟩
  have hge:w.heap.size<=b:=by
   rcases hbg with h1|h1
   ·exact h1.1
   ·cases h1
  rw[Nat.zero_add] at hcap ⊢;refine .sl i.size q.n q.row b 0 cap (fun r j=>(news[r*i.size+j]?).getD undef) (.inr ⟨hge,getElem?_lt hblk⟩) hcap hlen (fun r t hr ht=>⟨hone r t hr ht,hcl' hcl r t hr ht⟩) (fun r j t hr hj=> ?_) (fun r j t hr hj=> ?_)
  ·obtain⟨u,hu',_⟩:=hnews r j t hr hj;have hj':j<i.size:=by rw[←hlen r hr];exact(List.getElem?_eq_some_iff.1 hj).1
   have hlt:r*i.size+j<q.n*i.size:=by
    have:(r+1)*i.size<=q.n*i.size:=Nat.mul_le_mul_right _ hr;rw[Nat.add_mul] at this;omega
   have:=hnew _ hlt;rw[Nat.zero_mul,Nat.zero_add] at this;rw[Nat.zero_add,cell_of_heap hblk,this,hu'];rfl
  ·obtain⟨u,hu',hr'⟩:=hnews r j t hr hj;rw[hu'];exact hS.rd hr'
 ·refine⟨_,w',E,hrun,?_,h,Step.refl E w'⟩
  rw[show q.n=0 by omega]
  cases a1 with
  |none=>exact .slNil _ _
  |some a=>exact .slEmp _ _ _

theorem pushEmp(h:Inv c E H w)(ty:TypeId)(sz:Nat):Inv c (E.push H.length 0 0 sz) (H++[some (.arr true ty sz 0 fun _=>[])]) w/\Step E w (E.push H.length 0 0 sz) w:=
 h.push (ob:=.arr true ty sz 0 fun _=>[]) rfl rfl rfl (Nat.le_refl _) (fun _ _=>rfl) 0 0 #[] 0 (fun h=>absurd rfl h) (fun h=>absurd rfl h) (by simp) (Nat.le_refl 0) (fun i hi=>absurd hi (Nat.not_lt_zero _)) (fun i t hi=>absurd hi (Nat.not_lt_zero _)) (fun _ i t hi=>absurd hi (Nat.not_lt_zero _)) (fun i j t hi=>absurd hi (Nat.not_lt_zero _))

theorem rd_emp{k sz:Nat}(a:Option Addr):Rd (E.push k 0 0 sz) w (.osl k 0 0) (.slice a 0 0):=by
 have:=Rd.osl (E:=E.push k 0 0 sz) (w:=w) k 0 0 0 a (.inr rfl) (Nat.zero_le _) (fun _=>by simp) (fun h=>absurd (if_pos rfl) h)
 rwa [show(E.push k 0 0 sz).κ k=0 from if_pos rfl] at this

theorem isSlT_ok{x:T}{v:Value}(h:isSlT x=true)(hx:Rd E w x v):∃a n m,v= .slice a n m:=by
 cases hx with
 |slNil=>exact⟨_,_,_,rfl⟩
 |sl=>exact⟨_,_,_,rfl⟩
 |slEmp=>exact⟨_,_,_,rfl⟩
 |osl=>exact⟨_,_,_,rfl⟩
 |posl=>exact⟨_,_,_,rfl⟩
 |v x=>
  unfold isSlT at h;split at h
  ·rename_i hh;cases hh
  ·rename_i hh;cases hh
  ·rename_i hh;cases hh
  ·rename_i hh;simp only[T.v.injEq] at hh;exact⟨_,_,_,hh⟩
  ·cases h
 |_=>simp[isSlT] at h

theorem isZ_ok{x:T}{v:Value}(h:isZ x=true)(hx:Rd E w x v):∃k,v= .int k 0:=by
 unfold isZ at h;split at h
 ·rename_i k i;rw[rd_int hx,of_decide_eq_true h];exact⟨_,rfl⟩
 ·cases h

theorem slice0_ok(h:Inv c E H w){t:TypeId}{x hi mx y:T}{lo:Option T}{v hv mv:Value}{lv:Option Value}{H':Heap}{side:Option Prop}(he:evSlice0 P H t x lo hi mx=some (y,H',side))(hx:Rd E w x v)
  (hlo:∀x,lo=some x->∃v,lv=some v/\Rd E w x v) (hlo':lo=none->lv=none) (hhi:Rd E w hi hv) (hmx:Rd E w mx mv):
  ∃r E',(Instr.sliceAt t v lv (some hv) (some mv)).run P w= .ok r w/\Rd E' w y r/\Inv c E' H' w/\Step E w E' w:=by
 unfold evSlice0 at he;split at he
 ·rename_i e hu hb;simp only[Bool.and_eq_true] at hb;obtain⟨⟨⟨b1,b2⟩,b3⟩,b4⟩:=hb;split at he
  ·rename_i i hi;split at he
   ·rename_i hz hc;simp only[Option.some.injEq,Prod.mk.injEq] at he;obtain⟨rfl,rfl,rfl⟩:=he;obtain⟨a,n,m,rfl⟩:=isSlT_ok b1 hx;obtain⟨k1,rfl⟩:=isZ_ok b3 hhi;obtain⟨k2,rfl⟩:=isZ_ok b4 hmx;have hl:lv=none∨∃k3,lv=some (.int k3 0):=by
     cases lo with
     |none=>exact .inl (hlo' rfl)
     |some t0=>
      obtain⟨v0,hv0,hr0⟩:=hlo t0 rfl;obtain⟨k3,rfl⟩:=isZ_ok b2 hr0;exact .inr ⟨k3,hv0⟩
    obtain⟨g1,g2⟩:=pushEmp h e i.size;refine⟨.slice a 0 0,_,?_,rd_emp a,g1,g2⟩
    rcases hl with rfl|⟨k3,rfl⟩
    ·simp[Instr.sliceAt,Instr.slice,run_underlying hu,Instr.sliceBounds,Instr.sliceBound,Result.andThen,asIntOf,(cellsB_ok (w:=w) hc).1]
    ·simp[Instr.sliceAt,Instr.slice,run_underlying hu,Instr.sliceBounds,Instr.sliceBound,Result.andThen,asIntOf,(cellsB_ok (w:=w) hc).1]
   ·cases he
  ·cases he
 ·cases he

theorem zc_get{z:Array Value}{n r q:Nat}(hr:r<n)(hq:q<z.size):(Builtin.zeroCells z n).toList[r*z.size+q]? =z[q]? :=by
 have hlt:r*z.size+q<n*z.size:=by
  have:(r+1)*z.size<=n*z.size:=Nat.mul_le_mul_right _ hr;rw[Nat.add_mul] at this;omega
 have hm:(r*z.size+q) % z.size=q:=by rw[Nat.add_comm,Nat.add_mul_mod_self_right,Nat.mod_eq_of_lt hq]
 unfold Builtin.zeroCells;rw[Array.getElem?_toList,Array.getElem?_map,Array.getElem?_range,if_pos hlt]
 simp only[Option.map_some,hm];rw[getElem!_pos z q hq];exact(Array.getElem?_eq_getElem hq).symm

theorem clear_ok(h:Inv c E H w){t ty:TypeId}{x:T}{xv:Value}{y:T}{H':Heap}{side:Option Prop}(he:evClear P H t x=some (y,H',side))(hs:side.getD True)(hx:Rd E w x xv):
  ∃w',(Builtin.clear_ #[t] ty #[xv]).run P w= .ok (.tuple #[]) w'/\y= .und/\Inv c E H' w'/\Step E w E w':=by
 unfold evClear at he;split at he
 case h_2=>cases he
 rename_i e k off n hu;split at he
 case h_2=>cases he
 rename_i i z tyb sz N row hi hz hk;split at he
 case h_2=>cases he
 rename_i hb;simp only[Option.some.injEq,Prod.mk.injEq] at he;obtain⟨rfl,rfl,rfl⟩:=he;simp only[Bool.and_eq_true,Bool.not_eq_true'] at hb;obtain⟨⟨⟨b1,b2⟩,b3⟩,b4⟩:=hb;have hzl:z.length=i.size:=Nat.eq_of_beq_eq_true b1;obtain rfl:sz=i.size:=Nat.eq_of_beq_eq_true b2;have hle:off+n<=N:=hs;have hA:ArrOk E w k ⟨true,tyb,i.size,N,row⟩:=(h.heap.live k _ hk).2.1;have hA0:=hA;obtain⟨hz1,hnk,hl,hone,hcl,cs,tyc,hblk,hcs,hr⟩:=hA0;simp only at hz1 hnk hl hone hcl hcs hr;cases hx with
 |osl _ _ _ o a hL hn ho ha=>
  by_cases hn0:n=0
  ·subst hn0;have hrow:clrRow row off 0 z=row:=funext fun j=>by
    unfold clrRow;cases h1:Nat.ble off j&&Nat.blt j (off+0) with
    |false=>rfl
    |true=>
     simp only[Bool.and_eq_true] at h1;have:=Nat.le_of_ble_eq_true h1.1;have:j<off+0:=Nat.le_of_ble_eq_true h1.2;omega
   have hH:H.set k (some (.arr true tyb i.size N row))=H:=by
    apply List.ext_getElem?
    intro j;rw[List.getElem?_set]
    split
    ·rename_i e1;subst e1;have hlt:=getOb_lt hk;rw[if_pos hlt];unfold getOb at hk;rw[List.getElem?_eq_getElem hlt] at hk ⊢
     simp only[Option.bind_some,id] at hk;rw[hk]
    ·rfl
   rw[hrow,hH];refine⟨w,?_,rfl,h,Step.refl E w⟩
   cases a<;>simp[Builtin.clear_,run_underlying hu]
  ·have hκ:E.κ k≠0:=by omega
   obtain rfl:o=off*i.size:=by rw[ho (.inl (by omega)),hz1]
   obtain⟨v,hv,hrl,i',hi',hzv⟩:=zero_ok (E:=E) (w:=w) hz;rw[hi] at hi';simp only[Option.some.injEq] at hi';subst hi';have hvs:v.cells.size=i.size:=by rw[←hrl.1];exact hzl
   have hlen:(Builtin.zeroCells v.cells n).toList.length=n*i.size:=by rw[Array.length_toList,size_zeroCells,hvs]
   have hle2:(off+n)*i.size<=E.κ k*i.size:=Nat.mul_le_mul_right _ (by omega)
   have hget:∀r q,r<n->q<i.size->(Builtin.zeroCells v.cells n).toList[r*i.size+q]? =v.cells[q]? :=fun r q hr hq=>by
    have:=zc_get (z:=v.cells) hr (by rw[hvs];exact hq)
    rwa [hvs] at this
   have hz0:0<i.size:=Nat.pos_of_ne_zero (Nat.ne_of_beq_eq_false b3);have hones:∀u ∈ (Builtin.zeroCells v.cells n).toList,u.oneCell'=true:=by
    intro u hu;obtain⟨m,hm,rfl⟩:=List.mem_iff_getElem.1 hu;have hm':m<n*i.size:=by rw[←hlen];exact hm
    have hd:m/i.size<n:=(Nat.div_lt_iff_lt_mul hz0).2 hm';have hq:m % i.size<i.size:=Nat.mod_lt _ hz0;have e1:m=m/i.size*i.size+m % i.size:=by rw[Nat.mul_comm];exact(Nat.div_add_mod m i.size).symm
    have hg:=hget _ _ hd hq;rw[←e1,List.getElem?_eq_getElem hm] at hg
    have hzq:z[m % i.size]? =some z[m % i.size]:=List.getElem?_eq_getElem (by omega)
    exact oneT_ok (hrl.2 _ _ _ hzq hg.symm) (closedOne_ok (List.all_eq_true.1 b4 _ (List.getElem_mem _))).2
   obtain⟨w',hst,hos,htp,hop,hdr,hsize,hoth,cs',hb',hcs',hout,hin⟩:=setCells_same P w (E.β k) (off*i.size) tyc cs (Builtin.zeroCells v.cells n).toList (hblk hκ) (by
    rw[hlen,←Nat.add_mul];exact Nat.le_trans hle2 hcs.le) hones
   have hclr:∀j,clrRow row off n z j=z∨clrRow row off n z j=row j:=fun j=>by
    unfold clrRow;split
    ·exact .inl rfl
    ·exact .inr rfl
   have hzz:∀t ∈ z,closedT t=true/\oneT t=true:=fun t ht=>closedOne_ok (List.all_eq_true.1 b4 t ht)
   refine⟨w',?_,rfl,h.write hk rfl hos htp hop (by omega) (fun b _ hne=>hoth b hne) hκ (.arr true tyb i.size N (clrRow row off n z)) cs' tyc hb' hz1.symm (by
    rw[hz1];exact hcs.keep hcs' fun q hq=>hout q (.inr (by rw[hlen,←Nat.add_mul];omega))) hnk (fun j hj=> ?_) (fun j t hj ht=> ?_) (fun _ j t hj ht=> ?_) (fun j q t hj hq=> ?_)⟩
   ·rw[ha hκ];obtain⟨m,rfl⟩:∃m,n=m+1:=⟨n-1,by omega⟩
    simp[Builtin.clear_,run_underlying hu,hv,hst]
   ·rcases hclr j with e1|e1
    ·rw[show(Ob.arr true tyb i.size N (clrRow row off n z)).toArr.row j=z from e1];exact hzl
    ·rw[show(Ob.arr true tyb i.size N (clrRow row off n z)).toArr.row j=row j from e1];exact hl j hj
   ·rcases hclr j with e1|e1
    ·rw[show(Ob.arr true tyb i.size N (clrRow row off n z)).toArr.row j=z from e1] at ht;exact(hzz t ht).2
    ·rw[show(Ob.arr true tyb i.size N (clrRow row off n z)).toArr.row j=row j from e1] at ht;exact hone j t hj ht
   ·rcases hclr j with e1|e1
    ·rw[show(Ob.arr true tyb i.size N (clrRow row off n z)).toArr.row j=z from e1] at ht;exact(hzz t ht).1
    ·rw[show(Ob.arr true tyb i.size N (clrRow row off n z)).toArr.row j=row j from e1] at ht;exact hA.2.2.2.2.1 rfl j t hj ht
   ·have hq':(clrRow row off n z j)[q]? =some t:=hq;show ∃u,cs'[j*i.size+q]? =some u/\_;have hqs:q<i.size:=by
     have:=(List.getElem?_eq_some_iff.1 hq').1
     rcases hclr j with e1|e1
     ·rw[e1,hzl] at this;exact this
     ·rw[e1,hl j hj] at this;exact this
    by_cases hin':off<=j/\j<off+n
    ·have e1:clrRow row off n z j=z:=by
      unfold clrRow;rw[show(Nat.ble off j&&Nat.blt j (off+n))=true by rw[Nat.ble_eq_true_of_le hin'.1,show Nat.blt j (off+n)=true from Nat.ble_eq_true_of_le hin'.2];rfl]
     rw[e1] at hq';have hg:=hget (j-off) q (by omega) hqs
     have hlt:(j-off)*i.size+q<(Builtin.zeroCells v.cells n).toList.length:=by
      rw[hlen];have:(j-off+1)*i.size<=n*i.size:=Nat.mul_le_mul_right _ (by omega)
      rw[Nat.add_mul] at this;omega
     have h2:=hin _ hlt;rw[hg] at h2;have hvq:v.cells[q]? =some (v.cells[q]'(by omega)):=Array.getElem?_eq_getElem _
     refine⟨_,?_,hrl.2 q t _ hq' hvq⟩
     rw[←hvq,←h2];congr 1
     rw[←Nat.add_assoc,←Nat.add_mul];congr 2
     omega
    ·have e1:clrRow row off n z j=row j:=by
      unfold clrRow;cases h1:Nat.ble off j&&Nat.blt j (off+n) with
      |false=>rfl
      |true=>
       simp only[Bool.and_eq_true] at h1;exact absurd ⟨Nat.le_of_ble_eq_true h1.1,Nat.le_of_ble_eq_true h1.2⟩ hin'
     rw[e1] at hq';obtain⟨u,hu',hru⟩:=hr j q t hj hq';refine⟨u,?_,hru⟩
     rw[hout _ ?_]
     ·exact hu'
     ·rw[hlen,←Nat.add_mul];by_cases hj2:j<off
      ·refine .inl ?_
       have:(j+1)*i.size<=off*i.size:=Nat.mul_le_mul_right _ hj2;rw[Nat.add_mul] at this;omega
      ·refine .inr ?_
       have:(off+n)*i.size<=j*i.size:=Nat.mul_le_mul_right _ (by omega)
       omega

theorem mem_ok(h:Inv c E H w){a:Act}{s:Slots}{o:Oper}{y:T}{H':Heap}{side:Option Prop}(he:evMem P s H o.op=some (y,H',side))(hs:side.getD True)(hop:∀x ∈ seen o.op,OpOk E w a s x):
  ∃w' E',((∃v,(execOp a.eval o).run P w= .ok (.value v) w'/\Rd E' w' y v)∨((execOp a.eval o).run P w= .ok .skip w'/\y= .und))/\Inv c E' H' w'/\Step E w E' w':=by
 have lift:∀{m:Sem Value} {v:Value} {w':World},m.run P w= .ok v w'->(do pure (Next.value (←m)):Sem Next).run P w= .ok (.value v) w':=by
  intro m v w' hm;simp only[Sem.run_bind,hm,Result.andThen_ok,Sem.run_pure]
 obtain⟨dst,op,ty,pos,after,guard⟩:=o;simp only at he hop ⊢;unfold evMem at he;split at he
 case h_1 t x=>
  split at he
  ·rename_i hp;have hx:=hop x (by simp[seen,Op.operands])
   obtain⟨E',h1,h2,h3⟩:=box_ok h he (rdL_cells hx hp);refine⟨_,E',.inl ⟨_,?_,h3⟩,h1,h2⟩
   refine lift (m:=Instr.box t (a.eval x)) ?_
   simp only[Instr.box,newVar,newRow,Sem.run_bind,run_newObj,Result.andThen_ok,Sem.run_pure];rfl
  ·cases he
 case h_2 t=>
  split at he
  ·rename_i z hz;obtain⟨v,hv,hrl,_⟩:=zero_ok (E:=E) (w:=w) hz;obtain⟨E',h1,h2,h3⟩:=box_ok h he hrl;refine⟨_,E',.inl ⟨_,?_,h3⟩,h1,h2⟩
   refine lift (m:=Instr.alloc t true (.tuple #[])) ?_
   simp only[Instr.alloc,newVar,newRow,Sem.run_bind,hv,run_newObj,Result.andThen_ok,Sem.run_pure];rfl
  ·cases he
 case h_3 t ad x=>
  cases hst:evStore P H t (opT s ad) (opT s x) with
  |none=>rw[hst] at he;cases he
  |some r=>
   rw[hst] at he;simp only[Option.map_some,Option.some.injEq,Prod.mk.injEq] at he;obtain⟨rfl,rfl,rfl⟩:=he;obtain⟨w',E',hrun,h1,h2⟩:=store_ok (P:=P) h hst hs (hop ad (by simp[seen,Op.operands])) (hop x (by simp[seen,Op.operands]))
   refine⟨w',E',.inr ⟨?_,rfl⟩,h1,h2⟩
   simp only[execOp,Sem.run_bind,hrun,Result.andThen_ok,Sem.run_pure]
 case h_4 t l m=>
  obtain⟨r,w',E',hrun,h1,h2,h3⟩:=make_ok (P:=P) h he hs (hop l (by simp[seen,Op.operands])) (hop m (by simp[seen,Op.operands]))
  exact⟨w',E',.inl ⟨r,lift hrun,h1⟩,h2,h3⟩
 case h_5 t len parts=>
  obtain⟨r,w',E',hrun,h1,h2,h3⟩:=buildSlice_ok (P:=P) (a:=a) h he hs (fun p hp=>hop p.2 (by simp only[seen,Op.operands,List.mem_map];exact⟨p,hp,rfl⟩))
  exact⟨w',E',.inl ⟨r,lift hrun,h1⟩,h2,h3⟩
 case h_6 src dst' x=>
  split at he
  ·rename_i e l hu hd hx;split at he
   ·rename_i hb;simp only[Option.some.injEq,Prod.mk.injEq] at he;obtain⟨rfl,rfl,rfl⟩:=he;have hxo:=hop x (by simp[seen,Op.operands])
    unfold OpOk at hxo;rw[hx] at hxo;obtain⟨r,w',E',hrun,h1,h2,h3⟩:=strBytes_ok (P:=P) (l:=l) h hu hd hb;refine⟨w',E',.inl ⟨r,lift (m:=convert src dst' (a.eval x)) ?_,h1⟩,h2,h3⟩
    rw[rd_str hxo];exact hrun
   ·cases he
  ·cases he
 case h_7 args argTypes=>
  split at he
  ·rename_i d x t tx ha hat;obtain rfl:args= #[d,x]:=Array.ext' (by simpa using ha)
   obtain rfl:argTypes= #[t,tx]:=Array.ext' (by simpa using hat)
   obtain⟨r,w',E',hrun,h1,h2,h3⟩:=append_ok (P:=P) (ty:=ty) h he hs (hop d (by simp[seen,Op.operands,Call.operands])) (hop x (by simp[seen,Op.operands,Call.operands]))
   refine⟨w',E',.inl ⟨r,?_,h1⟩,h2,h3⟩
   simp[execOp,resolve,invoke,builtin,hrun,Result.andThen]
  ·cases he
 case h_8 t=>
  cases hst:evMakeMap P H t with
  |none=>rw[hst] at he;cases he
  |some r=>
   rw[hst] at he;simp only[Option.map_some,Option.some.injEq,Prod.mk.injEq] at he;obtain⟨rfl,rfl,rfl⟩:=he;obtain⟨r',w',E',hrun,h1,h2,h3⟩:=makeMap_ok (P:=P) h hst;exact⟨w',E',.inl ⟨r',lift (m:=Instr.makeMap t none) hrun,h1⟩,h2,h3⟩
 case h_9 t m k x=>
  split at he
  ·rename_i r hst;simp only[Option.some.injEq,Prod.mk.injEq] at he;obtain⟨rfl,rfl,rfl⟩:=he;obtain⟨w',hrun,h1,h2⟩:=mapUp_ok (P:=P) h hst (hop m (by simp[seen,Op.operands])) (hop k (by simp[seen,Op.operands])) (hop x (by simp[seen,Op.operands]))
   refine⟨w',E,.inr ⟨?_,rfl⟩,h1,h2⟩
   simp only[execOp,Sem.run_bind,hrun,Result.andThen_ok,Sem.run_pure]
  ·cases hst:evMapUp2 P H t (opT s m) (opT s k) (opT s x) with
   |none=>rw[hst] at he;cases he
   |some r=>
    rw[hst] at he;simp only[Option.map_some,Option.some.injEq,Prod.mk.injEq] at he;obtain⟨rfl,rfl,rfl⟩:=he;obtain⟨w',hrun,h1,h2⟩:=mapUp2_ok (P:=P) h hst hs (hop m (by simp[seen,Op.operands])) (hop k (by simp[seen,Op.operands])) (hop x (by simp[seen,Op.operands]))
    refine⟨w',E,.inr ⟨?_,rfl⟩,h1,h2⟩
    simp only[execOp,Sem.run_bind,hrun,Result.andThen_ok,Sem.run_pure]
 case h_10 t x lo hi mx=>
  obtain⟨r,E',hrun,h1,h2,h3⟩:=slice0_ok (P:=P) (lv:=lo.map a.eval) h he (hop x (by simp[seen,Op.operands])) (fun t ht=>by
   cases lo with
   |none=>cases ht
   |some q=>
    simp only[Option.map_some,Option.some.injEq] at ht;subst ht;exact⟨_,rfl,hop q (by simp[seen,Op.operands])⟩) (fun hn=>by
   cases lo with
   |none=>rfl
   |some q=>cases hn) (hop hi (by simp[seen,Op.operands])) (hop mx (by simp[seen,Op.operands]))
  exact⟨w,E',.inl ⟨r,lift hrun,h1⟩,h2,h3⟩
 case h_11 args argTypes=>
  split at he
  ·rename_i x t ha hat;obtain rfl:args= #[x]:=Array.ext' (by simpa using ha)
   obtain rfl:argTypes= #[t]:=Array.ext' (by simpa using hat)
   obtain⟨w',hrun,rfl,h2,h3⟩:=clear_ok (P:=P) (ty:=ty) h he hs (hop x (by simp[seen,Op.operands,Call.operands]))
   refine⟨w',E,.inl ⟨.tuple #[],?_,.und _⟩,h2,h3⟩
   simp[execOp,resolve,invoke,builtin,hrun,Result.andThen]
  ·cases he
 case h_12=>cases he

end
end Go.SS
/- A calculus of symbolic states: calls that only read. -/
namespace Go.SS
open Go.RowKit

structure Bl(w w':World):Prop extends Below w.heap.size w w' where
 dr:w.drawn<=w'.drawn

def PureFn(P:Program)(f:FuncId)(args:List T)(res:T):Prop:=
 ∀(E:Env) (w:World) (vs:Array Value),(∀k,¬E.L k/\∀v,¬E.L2 k v)->(∀b,E.N b->b<w.heap.size)->RdL E w args vs->
  Calls P f vs w fun e w'=>∃v,e= .returned v/\Bl w w'/\Rd (E.addN fun b=>w.heap.size<=b/\b<w'.heap.size) w' res v

def PureOk(P:Program)(f:FuncId)(c:List T->Option (T×Option Prop)):Prop:=
 ∀args res p,c args=some (res,p)->p.getD True->PureFn P f args res

def XB(E:Env)(H:Heap)(b:Nat):Prop:=∃k ob,getOb H k=some ob/\Blk E k ob b

def EffFn(P:Program)(f:FuncId)(args:List T)(H:Heap)(res:T)(H':Heap):Prop:=
 ∀(E:Env) (w:World) (vs:Array Value),HeapOk E w H->(∀b,E.N b->b<w.heap.size)->RdL E w args vs->
  Calls P f vs w fun e w'=>∃v E',e= .returned v/\Inv ⟨w,XB E H,E.N,0,E,0⟩ E' H' w'/\Stp E w E' w'/\Rd E' w' res v

def EffOk(P:Program)(f:FuncId)(c:List T->Heap->Option (T×Heap×Option Prop)):Prop:=
 ∀args H res H' p,c args H=some (res,H',p)->p.getD True->EffFn P f args H res H'

def plainO(t:T):Bool:=
 match t with
 | .osl .. | .ref .. =>true
 |t=>plainV t

def plainR:Nat->T->Bool
 |0,_=>false
 |d+1,t=>match t with
  | .agg cs=>cs.all (plainR d)
  | .tup cs=>cs.all (plainR d)
  |t=>plainO t

def plainC(t:T):Prop:=
 match t with
 | .own _ _ n row=>∀i,i<n->∀t ∈ row i,plainV t=true
 |t=>plainV t=true

def PlainOb:Ob->Prop
 | .arr true _ _ n row=>∀i,i<n->∀t ∈ row i,plainV t=true
 | .arr false _ _ n row=>n=1/\∀t ∈ row 0,plainO t=true
 | .fam _ _ _ n row=>∀i,i<n->∀t ∈ row i,plainC t
 | .bys _ _=>True
 | .mp _ _=>True
 | .mp2 _=>True

def PlainH(H:Heap):Prop:=∀k ob,getOb H k=some ob->PlainOb ob

def MkOk(P:Program)(f:FuncId)(c:List T->Option (T×Heap×Option Prop)):Prop:=
 ∀args res H' p,c args=some (res,H',p)->p.getD True->EffFn P f args [] res H'/\plainR 6 res=true/\PlainH H'

def ReffOk(P:Program)(f:FuncId)(r:Rle):Prop:=∀x,r.side x->EffFn P f (r.args x) (r.pre x) (r.res x) (r.post x)
def RmkOk(P:Program)(f:FuncId)(r:Rle):Prop:=∀x,r.side x->EffFn P f (r.args x) [] (r.res x) (r.post x)/\plainR 6 (r.res x)=true/\PlainH (r.post x)

def RelOk(P:Program)(f:FuncId)(r:Rl):Prop:=∀x,r.side x->PureFn P f (r.args x) (r.res x)

def ConOk(P:Program)(f:FuncId):Con->Prop
 | .pure c=>PureOk P f c
 | .eff c=>EffOk P f c
 | .rel r=>RelOk P f r
 | .mk c=>MkOk P f c
 | .reff r=>ReffOk P f r
 | .rmk r=>RmkOk P f r
 | .fz c=>PureOk P f c
 | .rfz r=>RelOk P f r
 | .tmp=>True

def GamOk(P:Program)(G:Gam):Prop:=∀x,x ∈ G->ConOk P x.1 x.2

theorem gam_ok{P:Program}{G:Gam}(h:GamOk P G){f:FuncId}{args:List T}{r:T}{p:Option Prop}(hg:gam G f args=some (r,p))(hp:p.getD True):PureFn P f args r:=by
 induction G with
 |nil=>simp[gam] at hg
 |cons x G ih=>
  obtain⟨g,c⟩:=x;simp only[gam] at hg;split at hg
  ·rename_i hb;obtain rfl:=Nat.eq_of_beq_eq_true hb;split at hg
   ·rename_i c;exact h (f,.pure c) (by simp) args r p hg hp
   ·cases hg
  ·exact ih (fun x hx=>h x (by simp[hx])) hg

theorem gmk_ok{P:Program}{G:Gam}(h:GamOk P G){f:FuncId}{c:List T->Option (T×Heap×Option Prop)}(hg:gmk G f=some c):MkOk P f c:=by
 induction G with
 |nil=>simp[gmk] at hg
 |cons x G ih=>
  obtain⟨g,d⟩:=x;simp only[gmk] at hg;split at hg
  ·rename_i hb;obtain rfl:=Nat.eq_of_beq_eq_true hb;split at hg
   ·rename_i c';simp only[Option.some.injEq] at hg;subst hg;exact h (f,.mk c') (by simp)
   ·cases hg
  ·exact ih (fun x hx=>h x (by simp[hx])) hg

theorem gfz_ok{P:Program}{G:Gam}(h:GamOk P G){f:FuncId}{c:List T->Option (T×Option Prop)}(hg:gfz G f=some c):PureOk P f c:=by
 induction G with
 |nil=>simp[gfz] at hg
 |cons x G ih=>
  obtain⟨g,d⟩:=x;simp only[gfz] at hg;split at hg
  ·rename_i hb;obtain rfl:=Nat.eq_of_beq_eq_true hb;split at hg
   ·rename_i c';simp only[Option.some.injEq] at hg;subst hg;exact h (f,.fz c') (by simp)
   ·cases hg
  ·exact ih (fun x hx=>h x (by simp[hx])) hg

theorem geff_ok{P:Program}{G:Gam}(h:GamOk P G){f:FuncId}{c:List T->Heap->Option (T×Heap×Option Prop)}(hg:geff G f=some c):EffOk P f c:=by
 induction G with
 |nil=>simp[geff] at hg
 |cons x G ih=>
  obtain⟨g,d⟩:=x;simp only[geff] at hg;split at hg
  ·rename_i hb;obtain rfl:=Nat.eq_of_beq_eq_true hb;split at hg
   ·rename_i c';simp only[Option.some.injEq] at hg;subst hg;exact h (f,.eff c') (by simp)
   ·cases hg
  ·exact ih (fun x hx=>h x (by simp[hx])) hg

section
variable {c:Ctx} {E E':Env} {H:Heap} {w w':World} {P:Program}

theorem Rd.closed(hN:∀b,E.N b->E'.N b){t:T}{x:Value}(h:Rd E w t x):closedT t=true->Rd E' w t x:=by
 induction h with
 |int k n=>exact fun _=>.int k n
 |bool b=>exact fun _=>.bool b
 |str l=>exact fun _=>.str l
 |v x=>exact fun _=>.v x
 |slNil sz row=>exact fun _=>.slNil sz row
 |slEmp sz row a=>exact fun _=>.slEmp sz row a
 |emp a=>exact fun _=>.emp a
 |bysEmp a=>exact fun _=>.bysEmp a
 |sl sz n row b off cap u hb hc hl h1 hr _ ih=>
  exact fun _=>.sl sz n row b off cap u (hN b hb) hc hl h1 hr (fun i j t hi hj=>ih i j t hi hj (h1 i t hi (List.mem_of_getElem? hj)).2)
 |bysNil=>exact fun _=>.bysNil
 |bys l b off cap hb hc hr=>exact fun _=>.bys l b off cap (hN b hb) hc hr
 |bref cells b off u hb h1 hr _ ih=>exact fun _=>.bref cells b off u (hN b hb) h1 hr (fun j t hj=>ih j t hj (h1 t (List.mem_of_getElem? hj)))
 |ref=>intro h;cases h
 |osl=>intro h;cases h
 |posl=>intro h;cases h
 |pref=>intro h;cases h
 |agg=>intro h;cases h
 |tup=>intro h;cases h
 |fn=>intro h;cases h
 |mpr=>intro h;cases h
 |ifp=>intro h;cases h
 |und x=>exact fun _=>.und x

theorem Rd.closedD(hN:∀b,E.N b->E'.N b):∀(d:Nat) {t:T} {x:Value},Rd E w t x->closedD d t=true->Rd E' w t x:=by
 intro d;induction d with
 |zero=>intro t x _ hc;simp[SS.closedD] at hc
 |succ d ih=>
  intro t x h hc;have h0:=h;cases h with
  |agg cs vs hl ht=>exact .agg cs vs hl fun i t x hi hx=>ih (ht i t x hi hx) (List.all_eq_true.1 hc t (List.mem_of_getElem? hi))
  |tup cs vs hl ht=>exact .tup cs vs hl fun i t x hi hx=>ih (ht i t x hi hx) (List.all_eq_true.1 hc t (List.mem_of_getElem? hi))
  |fn f cs vs hl ht=>exact .fn f cs vs hl fun i t x hi hx=>ih (ht i t x hi hx) (List.all_eq_true.1 hc t (List.mem_of_getElem? hi))
  |ref=>simp[SS.closedD,closedT] at hc
  |osl=>simp[SS.closedD,closedT] at hc
  |posl=>simp[SS.closedD,closedT] at hc
  |pref=>simp[SS.closedD,closedT] at hc
  |mpr=>simp[SS.closedD,closedT] at hc
  |ifp=>simp[SS.closedD,closedT] at hc
  |und=>exact .und x
  |_=>exact h0.closed hN rfl

theorem Rd.plain:∀(d:Nat) {t:T} {x:Value},Rd E w t x->plainD d t=true->Rd E' w' t x:=by
 intro d;induction d with
 |zero=>intro t x _ hc;simp[plainD] at hc
 |succ d ih=>
  intro t x h hc;cases h with
  |agg cs vs hl ht=>exact .agg cs vs hl fun i t x hi hx=>ih (ht i t x hi hx) (List.all_eq_true.1 hc t (List.mem_of_getElem? hi))
  |tup cs vs hl ht=>exact .tup cs vs hl fun i t x hi hx=>ih (ht i t x hi hx) (List.all_eq_true.1 hc t (List.mem_of_getElem? hi))
  |int k n=>exact .int k n
  |bool b=>exact .bool b
  |str l=>exact .str l
  |_=>simp[plainD] at hc

def Env.lent(E:Env)(b0:Nat)(H:Heap):Env where
 N:=fun b=>E.N b∨∃k ob,b0<=k/\getOb H k=some ob/\Blk E k ob b
 L:=fun k=>E.L k/\k<b0
 β:=E.β
 κ:=E.κ
 z:=E.z
 L2:=fun k v=>E.L2 k v/\k<b0
 b2:=E.b2
 c2:=E.c2

theorem mapO_ok{α β:Type}{f:α->Option β}:∀{l:List α} {q:List β},mapO f l=some q->q.length=l.length/\∀(i:Nat) (a:α) (b:β),l[i]? =some a->q[i]? =some b->f a=some b:=by
 intro l;induction l with
 |nil=>intro q h;simp[mapO] at h;subst h;exact⟨rfl,fun i a b ha=>by simp at ha⟩
 |cons x l ih=>
  intro q h;simp only[mapO] at h;split at h
  ·rename_i b q' hb hq;simp only[Option.some.injEq] at h;subst h;obtain⟨h1,h2⟩:=ih hq;refine⟨by simp[h1],fun i a b' ha hb'=> ?_⟩
   cases i with
   |zero=>simp at ha hb';subst ha;subst hb';exact hb
   |succ i=>exact h2 i a b' (by simpa using ha) (by simpa using hb')
  ·cases h

theorem andOO_ok{p q:Option Prop}(h:(andOO p q).getD True):p.getD True/\q.getD True:=by
 cases p with
 |none=>exact⟨trivial,by simpa[andOO] using h⟩
 |some p=>
  cases q with
  |none=>exact⟨h,trivial⟩
  |some q=>exact h

theorem sides_ok:∀{l:List (T×Option Prop)},(sides l).getD True->∀x ∈ l,x.2.getD True:=by
 intro l;induction l with
 |nil=>intro _ x hx;cases hx
 |cons y l ih=>
  intro h x hx;simp only[sides] at h;obtain⟨h1,h2⟩:=andOO_ok h;rcases List.mem_cons.1 hx with rfl|hx
  ·exact h1
  ·exact ih h2 x hx

theorem rd_sl0(sz:Nat)(row:Nat->List T)(a:Option Addr):Rd E w (.sl sz 0 row) (.slice a 0 0):=by
 cases a with
 |none=>exact .slNil _ _
 |some a=>exact .slEmp _ _ _

theorem frzC_closed{t:T}(h:closedOne t=true):frzC t=t:=by
 cases t<;>first|rfl|(simp[closedOne,closedT] at h)

theorem own_sl{k v i j n m osz:Nat}{oty:TypeId}{orow:Nat->List T}{u:Value}(hN:∀b,E.N b->E'.N b)(hO:ArrOk (E.sub k v i j osz) w 0 ⟨true,oty,osz,m,orow⟩)(hn:n<=m)(hb:E.c2 k v i j≠0->E'.N (E.b2 k v i j))(hu:Rd E w (.posl k v i j n) u):
  Rd E' w (.sl osz n orow) u:=by
 obtain⟨hz,hnk,hl,hone,hcl,cs,ty,hblk,hcs,hc⟩:=hO;simp only at hz hnk hl hone hcl hcs hc;cases hu with
 |posl _ _ _ _ _ a hL hn' ha=>
  by_cases hc2:E.c2 k v i j=0
  ·obtain rfl:n=0:=by omega
   rw[hc2];exact rd_sl0 _ _ a
  ·rw[ha hc2];have hblk:=hblk hc2;refine .sl osz n orow (E.b2 k v i j) 0 (E.c2 k v i j) (fun r q=>(cs[r*osz+q]?).getD undef) (hb hc2) hn' (fun r hr=>hl r (by omega)) (fun r t hr ht=>⟨hone r t (by omega) ht,hcl trivial r t (by omega) ht⟩) (fun r q t hr hq=> ?_) (fun r q t hr hq=> ?_)
   ·obtain⟨u,hu,_⟩:=hc r q t (by omega) hq
    rw[Nat.zero_add];exact(cell_of_heap hblk).trans (by rw[hu];rfl)
   ·obtain⟨u,hu,hr'⟩:=hc r q t (by omega) hq
    rw[hu];exact Rd.closed (E:=E.sub k v i j osz) (E':=E') hN hr' (hcl trivial r t (by omega) (List.mem_of_getElem? hq))

theorem borrow_ok{b0:Nat}(h:Inv c E H w):∀(d:Nat) {t r:T} {p:Option Prop} {x:Value},borrow b0 H d t=some (r,p)->p.getD True->Rd E w t x->Rd (E.lent b0 H) w r x:=by
 intro d;induction d with
 |zero=>intro t r p x hb;simp[borrow] at hb
 |succ d ih=>
  intro t r p x hb hp hx;have hN:∀b,E.N b->(E.lent b0 H).N b:=fun b hb=>.inl hb
  have list:∀(cs:List T) (vs:Array Value) (cs':List (T×Option Prop)),mapO (borrow b0 H d) cs=some cs'->(sides cs').getD True->cs.length=vs.size->(∀(i:Nat) (t:T) (x:Value),cs[i]? =some t->vs[i]? =some x->Rd E w t x)->
    (cs'.map (·.1)).length=vs.size/\∀(i:Nat) (t:T) (x:Value),(cs'.map (·.1))[i]? =some t->vs[i]? =some x->Rd (E.lent b0 H) w t x:=by
   intro cs vs cs' hm hs hl ht;obtain⟨h1,h2⟩:=mapO_ok hm;refine⟨by simp[h1,hl],fun i t x hi hx=> ?_⟩
   simp only[List.getElem?_map,Option.map_eq_some_iff] at hi
   obtain⟨y,hy,rfl⟩:=hi;have hlt:i<cs.length:=by rw[←h1];exact(List.getElem?_eq_some_iff.1 hy).1
   have hc:=List.getElem?_eq_getElem hlt
   have hb:=h2 i _ y hc hy;exact ih (r:=y.1) (p:=y.2) hb (sides_ok hs y (List.mem_of_getElem? hy)) (ht i _ x hc hx)
  unfold borrow at hb;split at hb
  ·rename_i k i j;split at hb
   ·rename_i hlt;simp only[Option.some.injEq,Prod.mk.injEq] at hb;obtain⟨rfl,rfl⟩:=hb;cases hx with
    |ref _ _ _ hL=>exact .ref (E:=E.lent b0 H) k i j ⟨hL,Nat.le_of_ble_eq_true hlt⟩
   rename_i hge;have hge:b0<=k:=by
    rcases Nat.lt_or_ge k b0 with h|h
    ·have:Nat.blt k b0=true:=Nat.ble_eq_true_of_le h;rw[hge] at this;cases this
    ·exact h
   split at hb
   ·rename_i A hA;split at hb
    ·rename_i hA1;split at hb
     ·rename_i cs hm;split at hb
      case h_2=>cases hb
      rename_i hall;simp only[Option.some.injEq,Prod.mk.injEq] at hb;obtain⟨rfl,rfl⟩:=hb;obtain⟨u,hr,ht⟩:=row_ok h.heap hA (i:=0) (by omega)
      obtain⟨hL,⟨hz,hn,hl,hone,hcl,_⟩,_⟩:=h.heap.arr hA;obtain⟨ob,hob,_⟩:=getA_ok hA;obtain⟨h1,h2⟩:=mapO_ok hm;rw[rd_ref hx];refine .bref _ _ _ (fun i=>u (j+i)) (.inr ⟨k,ob,hge,hob,.inl ⟨by omega,rfl⟩⟩) (fun t hmem=> ?_) (fun i t hi=> ?_) (fun i t hi=> ?_)
      ·obtain⟨y,hy,rfl⟩:=List.mem_map.1 hmem;exact List.all_eq_true.1 hall y hy
      ·simp only[List.getElem?_map,Option.map_eq_some_iff] at hi
       obtain⟨y,hy,rfl⟩:=hi;have hlt:i<((A.row 0).drop j).length:=by rw[←h1];exact(List.getElem?_eq_some_iff.1 hy).1
       have hc:=List.getElem?_eq_getElem hlt
       rw[List.getElem?_drop] at hc
       have:=hr _ _ hc
       rwa [show 0*(E.z k).1+(j+i)=0*(E.z k).1+j+i by omega] at this
      ·simp only[List.getElem?_map,Option.map_eq_some_iff] at hi
       obtain⟨y,hy,rfl⟩:=hi;have hlt:i<((A.row 0).drop j).length:=by rw[←h1];exact(List.getElem?_eq_some_iff.1 hy).1
       have hc:=List.getElem?_eq_getElem hlt
       have hb:=h2 i _ y hc hy;rw[List.getElem?_drop] at hc
       exact ih (r:=y.1) (p:=y.2) hb (sides_ok hp y (List.mem_of_getElem? hy)) (ht _ _ hc)
     ·cases hb
    ·cases hb
   ·cases hb
  ·rename_i k off n;split at hb
   ·rename_i hlt;simp only[Option.some.injEq,Prod.mk.injEq] at hb;obtain⟨rfl,rfl⟩:=hb;cases hx with
    |osl _ _ _ o a hL hn ho ha=>exact .osl (E:=E.lent b0 H) k off n o a ⟨hL,Nat.le_of_ble_eq_true hlt⟩ hn ho ha
   rename_i hge;have hge:b0<=k:=by
    rcases Nat.lt_or_ge k b0 with h|h
    ·have:Nat.blt k b0=true:=Nat.ble_eq_true_of_le h;rw[hge] at this;cases this
    ·exact h
   split at hb
   ·rename_i ty sz m row hk;simp only[Option.some.injEq,Prod.mk.injEq] at hb;obtain⟨rfl,rfl⟩:=hb;have hle:=offSide_ok hp;obtain⟨hL,⟨hz,hn,hl,hone,hcl,cs,ty,hblk,hsz,hc⟩,hNk⟩:=h.heap.live _ _ hk;simp only[Ob.toArr] at hz hn hl hone hcl hsz hc;cases hx with
    |osl _ _ _ o a _ hn' ho ha=>
     rw[offRow_eq];by_cases hκ:E.κ k=0
     ·obtain rfl:n=0:=by omega
      rw[hκ,Nat.zero_sub];exact rd_sl0 _ _ a
     have hblk:=hblk hκ;rw[ha hκ];have hob:0<n->o=off*sz:=fun h=>by rw[ho (.inl (by omega)),hz]
     refine .sl sz n _ (E.β k) o (E.κ k-off) (fun i j=>(cs[(off+i)*sz+j]?).getD undef) (.inr ⟨k,_,hge,hk,.inl ⟨hκ,rfl⟩⟩) (by omega) (fun i hi=>hl _ (by omega)) (fun i t hi ht=>⟨hone _ t (by omega) ht,hcl trivial _ t (by omega) ht⟩) (fun i j t hi hj=> ?_) (fun i j t hi hj=> ?_)
     ·obtain⟨u,hu,_⟩:=hc (off+i) j t (by omega) hj
      rw[cell_of_heap hblk,hob (by omega),←Nat.add_mul,hu]
      rfl
     ·obtain⟨u,hu,hr⟩:=hc (off+i) j t (by omega) hj
      rw[hu];exact Rd.closed hN hr (hcl trivial _ t (by omega) (List.mem_of_getElem? hj))
   ·rename_i v0 ty sz m row hk;simp only[Option.some.injEq,Prod.mk.injEq] at hb;obtain⟨rfl,rfl⟩:=hb;have hle:=offSide_ok hp;obtain⟨hL,hF,hNk⟩:=h.heap.live _ _ hk;have hF:FamOk E w k v0 ty sz m row:=hF;obtain⟨hz,hn,hl,hone,hcl,cs,ty2,hblk,hsz,hc⟩:=hF.arr;simp only at hz hn hl hone hcl hsz hc;cases hx with
    |osl _ _ _ o a _ hn' ho ha=>
     rw[offRow_eq];by_cases hκ:E.κ k=0
     ·obtain rfl:n=0:=by omega
      rw[hκ,Nat.zero_sub];exact rd_sl0 _ _ a
     have hblk:=hblk hκ;rw[ha hκ];have hob:0<n->o=off*sz:=fun h=>by rw[ho (.inl (by omega)),hz]
     have get:∀(i j:Nat) (t:T),i<n->(frzR (fun i=>row (off+i)) i)[j]? =some t->∃t0:T,(row (off+i))[j]? =some t0/\t=frzC t0:=fun i j t hi hj=>by
      simp only[frzR,List.getElem?_map,Option.map_eq_some_iff] at hj
      obtain⟨t0,h0,rfl⟩:=hj;exact⟨t0,h0,rfl⟩
     refine .sl sz n _ (E.β k) o (E.κ k-off) (fun i j=>(cs[(off+i)*sz+j]?).getD undef) (.inr ⟨k,_,hge,hk,.inl ⟨hκ,rfl⟩⟩) (by omega) (fun i hi=>by simp only[frzR,List.length_map];have:=hl (off+i) (by omega);rwa [viewR_length] at this) (fun i t hi ht=> ?_) (fun i j t hi hj=> ?_) (fun i j t hi hj=> ?_)
     ·obtain⟨j,hj⟩:=List.getElem?_of_mem ht
      obtain⟨t0,h0,rfl⟩:=get i j t hi hj;rcases hF.cell (show off+i<m by omega) h0 with hco|⟨oty,osz,on,orow,rfl⟩
      ·rw[frzC_closed hco];exact⟨(closedOne_ok hco).2,(closedOne_ok hco).1⟩
      ·exact⟨rfl,rfl⟩
     ·obtain⟨t0,h0,rfl⟩:=get i j t hi hj;obtain⟨u,hu,_⟩:=hc (off+i) j (viewT k v0 (off+i) j t0) (by omega) (by rw[viewR_get,h0];rfl)
      rw[cell_of_heap hblk,hob (by omega),←Nat.add_mul,hu]
      rfl
     ·obtain⟨t0,h0,rfl⟩:=get i j t hi hj;obtain⟨u,hu,hr⟩:=hc (off+i) j (viewT k v0 (off+i) j t0) (by omega) (by rw[viewR_get,h0];rfl)
      rw[hu];rcases hF.cell (show off+i<m by omega) h0 with hco|⟨oty,osz,on,orow,rfl⟩
      ·rw[viewT_closed hco] at hr;rw[frzC_closed hco];exact Rd.closed hN hr (closedOne_ok hco).1
      ·refine own_sl (E':=E.lent b0 H) hN (hF.own (off+i) j oty osz on orow (by omega) h0).1 (Nat.le_refl _) (fun hc2=>.inr ⟨k,_,hge,hk,.inr ⟨_,_,_,_,_,_,_,_,_,_,_,rfl,by omega,h0,hc2,rfl⟩⟩) hr
   ·rename_i ty l hk;simp only[Option.some.injEq,Prod.mk.injEq] at hb;obtain⟨rfl,rfl⟩:=hb;cases hx with
    |osl _ _ _ o a _ hn' ho ha=>
     obtain⟨hlen,hcell⟩:=bys_part h.heap hk hp ho;by_cases hκ:E.κ k=0
     ·obtain rfl:n=0:=by omega
      rw[hκ,Nat.zero_sub,List.take_zero];cases a with
      |none=>exact .bysNil
      |some a=>exact .bysEmp a
     rw[ha hκ];have:=Rd.bys (E:=E.lent b0 H) (w:=w) ((l.drop off).take n) (E.β k) o (E.κ k-off) (.inr ⟨k,_,hge,hk,.inl ⟨hκ,rfl⟩⟩) (by omega) hcell
     rwa [hlen] at this
   ·rename_i ty sz m row hk;split at hb
    case h_2=>cases hb
    rename_i hg;simp only[Bool.and_eq_true] at hg;obtain⟨⟨⟨g1,g2⟩,g3⟩,g4⟩:=hg;obtain rfl:=Nat.eq_of_beq_eq_true g1;obtain rfl:=Nat.eq_of_beq_eq_true g2;obtain rfl:=Nat.eq_of_beq_eq_true g3;obtain rfl:=Nat.eq_of_beq_eq_true g4;split at hb
    case h_2=>cases hb
    rename_i c0 c1 hm0 hm1;split at hb
    case h_2=>cases hb
    rename_i hall;simp only[Option.some.injEq,Prod.mk.injEq] at hb;obtain⟨rfl,rfl⟩:=hb;obtain⟨hL,⟨hz,hn,hl,hone,hcl,cs,ty,hblk,hsz,hc⟩,hNk⟩:=h.heap.live _ _ hk;simp only[Ob.toArr] at hz hn hl hone hcl hsz hc;obtain⟨p1,p2⟩:=mapO_ok hm0;obtain⟨q1,q2⟩:=mapO_ok hm1;have hl0:=hl 0 (by omega)
    have hl1:=hl 1 (by omega)
    have get:∀(i j:Nat) (t:T),i<2->(pairR (c0.map (·.1)) (c1.map (·.1)) i)[j]? =some t->∃y,y ∈ c0++c1/\t=y.1/\∃t0,(row i)[j]? =some t0/\borrow b0 H d t0=some y:=fun i j t hi hj=>by
     match i,hi with
     |0,_=>
      simp only[pairR,List.getElem?_map,Option.map_eq_some_iff] at hj
      obtain⟨y,hy,rfl⟩:=hj;have hlt:j<(row 0).length:=by rw[←p1];exact(List.getElem?_eq_some_iff.1 hy).1
      have hc0:=List.getElem?_eq_getElem hlt
      exact⟨y,List.mem_append_left _ (List.mem_of_getElem? hy),rfl,_,hc0,p2 j _ y hc0 hy⟩
     |1,_=>
      simp only[pairR,List.getElem?_map,Option.map_eq_some_iff] at hj
      obtain⟨y,hy,rfl⟩:=hj;have hlt:j<(row 1).length:=by rw[←q1];exact(List.getElem?_eq_some_iff.1 hy).1
      have hc0:=List.getElem?_eq_getElem hlt
      exact⟨y,List.mem_append_right _ (List.mem_of_getElem? hy),rfl,_,hc0,q2 j _ y hc0 hy⟩
    cases hx with
    |osl _ _ _ o a _ hn' ho ha=>
     by_cases hκ:E.κ k=0
     ·omega
     have hblk:=hblk hκ;rw[ha hκ];have hob:o=0*1:=by rw[ho (.inl (by omega))];omega
     refine .sl 1 2 _ (E.β k) o (E.κ k-0) (fun i j=>(cs[(0+i)*1+j]?).getD undef) (.inr ⟨k,_,hge,hk,.inl ⟨hκ,rfl⟩⟩) (by omega) (fun i hi=> ?_) (fun i t hi ht=> ?_) (fun i j t hi hj=> ?_) (fun i j t hi hj=> ?_)
     ·match i,hi with
      |0,_=>simp only[pairR,List.length_map,p1];exact hl0
      |1,_=>simp only[pairR,List.length_map,q1];exact hl1
     ·obtain⟨j,hj⟩:=List.getElem?_of_mem ht
      obtain⟨y,hy,rfl,_⟩:=get i j t hi hj;have:=List.all_eq_true.1 hall y hy;rw[Bool.and_eq_true] at this;exact⟨this.2,this.1⟩
     ·obtain⟨y,hy,rfl,t0,h0,_⟩:=get i j t hi hj;obtain⟨u,hu,_⟩:=hc (0+i) j t0 (by omega) (by rw[Nat.zero_add];exact h0)
      rw[cell_of_heap hblk,hob,←Nat.add_mul,hu];rfl
     ·obtain⟨y,hy,rfl,t0,h0,hb0⟩:=get i j t hi hj;obtain⟨u,hu,hr⟩:=hc (0+i) j t0 (by omega) (by rw[Nat.zero_add];exact h0)
      rw[hu];exact ih (r:=y.1) (p:=y.2) hb0 (sides_ok hp y hy) hr
   ·cases hb
  ·rename_i cs;cases hm:mapO (borrow b0 H d) cs with
   |none=>rw[hm] at hb;cases hb
   |some cs'=>
    rw[hm] at hb;simp only[Option.map_some,Option.some.injEq,Prod.mk.injEq] at hb;obtain⟨rfl,rfl⟩:=hb;cases hx with
    |agg _ vs hl ht=>
     obtain⟨a1,a2⟩:=list cs vs cs' hm hp hl ht;exact .agg _ vs a1 a2
  ·rename_i f cs;cases hm:mapO (borrow b0 H d) cs with
   |none=>rw[hm] at hb;cases hb
   |some cs'=>
    rw[hm] at hb;simp only[Option.map_some,Option.some.injEq,Prod.mk.injEq] at hb;obtain⟨rfl,rfl⟩:=hb;cases hx with
    |fn _ _ vs hl ht=>
     obtain⟨a1,a2⟩:=list cs vs cs' hm hp hl ht;exact .fn _ _ vs a1 a2
  ·rename_i cs;cases hm:mapO (borrow b0 H d) cs with
   |none=>rw[hm] at hb;cases hb
   |some cs'=>
    rw[hm] at hb;simp only[Option.map_some,Option.some.injEq,Prod.mk.injEq] at hb;obtain⟨rfl,rfl⟩:=hb;cases hx with
    |tup _ vs hl ht=>
     obtain⟨a1,a2⟩:=list cs vs cs' hm hp hl ht;exact .tup _ vs a1 a2
  ·cases hb
  ·cases hb
  ·rename_i k v i j n;split at hb
   ·rename_i hlt;simp only[Option.some.injEq,Prod.mk.injEq] at hb;obtain⟨rfl,rfl⟩:=hb;cases hx with
    |posl _ _ _ _ _ a hL hn ha=>exact .posl (E:=E.lent b0 H) k v i j n a ⟨hL,Nat.le_of_ble_eq_true hlt⟩ hn ha
   rename_i hge;have hge:b0<=k:=by
    rcases Nat.lt_or_ge k b0 with h|h
    ·have:Nat.blt k b0=true:=Nat.ble_eq_true_of_le h;rw[hge] at this;cases this
    ·exact h
   split at hb
   ·rename_i A hA;simp only[Option.some.injEq,Prod.mk.injEq] at hb;obtain⟨rfl,rfl⟩:=hb;obtain⟨hv,hi,hn⟩:PoB v A.v i A.n n A.A.n:=hp;obtain⟨hO,_,_⟩:=own_ok h.heap hA hv hi;obtain⟨ty,sz,row,hk,hj,hcl⟩:=getOwn_ok hA;subst hv;obtain⟨v',n',cl,oty,osz,m,orow⟩:=A;simp only at hcl;subst hcl;exact own_sl (E':=E.lent b0 H) hN hO hn (fun hc2=>.inr ⟨k,_,hge,hk,.inr ⟨_,_,_,_,_,_,_,_,_,_,_,rfl,hi,hj,hc2,rfl⟩⟩) hx
   ·cases hb
  ·rename_i k v i j z a b;split at hb
   ·rename_i hlt;simp only[Option.some.injEq,Prod.mk.injEq] at hb;obtain⟨rfl,rfl⟩:=hb;cases hx with
    |pref _ _ _ _ _ _ _ hL=>exact .pref (E:=E.lent b0 H) k v i j z a b ⟨hL,Nat.le_of_ble_eq_true hlt⟩
   ·cases hb
  ·cases hb
  ·rename_i n1 n2 n3 n4 n5 n6 n10 n7 n8 n9;simp only[Option.some.injEq,Prod.mk.injEq] at hb;obtain⟨rfl,rfl⟩:=hb;refine Rd.closed hN hx ?_
   cases t<;>first|rfl|(exfalso;first|exact n1 _ _ _ rfl|exact n2 _ _ _ rfl|exact n3 _ rfl|exact n4 _ _ rfl|exact n5 _ rfl|exact n6 _ rfl|exact n10 _ _ _ rfl|exact n7 _ _ _ _ _ rfl|exact n8 _ _ _ _ _ _ _ rfl|exact n9 _ _ _ _ rfl)

end
end Go.SS
/- A calculus of symbolic states: objects under other names; calls that write to what they are given. -/
namespace Go.SS
open Go.RowKit

def Env.ren(E:Env)(ρ:Nat->Option Nat)(len:Nat):Env where
 N:=E.N
 L:=fun k=>k<len/\∃m,ρ k=some m/\E.L m
 β:=fun k=>E.β ((ρ k).getD k)
 κ:=fun k=>E.κ ((ρ k).getD k)
 z:=fun k=>E.z ((ρ k).getD k)
 L2:=fun k v=>k<len/\∃m,ρ k=some m/\E.L2 m v
 b2:=fun k=>E.b2 ((ρ k).getD k)
 c2:=fun k=>E.c2 ((ρ k).getD k)

section
variable {c:Ctx} {E:Env} {H H':Heap} {w w':World} {ρ:Nat->Option Nat} {len:Nat} {P:Program} {G:Gam}

theorem Rd.ren(hlt:∀k m,ρ k=some m->k<len):∀(d:Nat) {t t':T} {x:Value},renT ρ d t'=some t->Rd E w t x->Rd (E.ren ρ len) w t' x:=by
 intro d;induction d with
 |zero=>intro t t' x h;simp[renT] at h
 |succ d ih=>
  intro t t' x h hx;have list:∀(cs cs':List T) (vs:Array Value),mapO (renT ρ d) cs'=some cs->cs.length=vs.size->(∀(i:Nat) (t:T) (x:Value),cs[i]? =some t->vs[i]? =some x->Rd E w t x)->
    cs'.length=vs.size/\∀(i:Nat) (t:T) (x:Value),cs'[i]? =some t->vs[i]? =some x->Rd (E.ren ρ len) w t x:=by
   intro cs cs' vs hm hl ht;obtain⟨h1,h2⟩:=mapO_ok hm;refine⟨by omega,fun i t x hi hx=> ?_⟩
   have hlt:i<cs.length:=by rw[h1];exact(List.getElem?_eq_some_iff.1 hi).1
   have hc:=List.getElem?_eq_getElem hlt
   exact ih (h2 i t _ hi hc) (ht i _ x hc hx)
  unfold renT at h;split at h
  ·rename_i k i j;simp only[Option.map_eq_some_iff] at h;obtain⟨m,hm,rfl⟩:=h;cases hx with
   |ref _ _ _ hL=>
    have:=Rd.ref (E:=E.ren ρ len) (w:=w) k i j ⟨hlt k m hm,m,hm,hL⟩
    simpa[Env.ren,hm] using this
  ·rename_i k off n;simp only[Option.map_eq_some_iff] at h;obtain⟨m,hm,rfl⟩:=h;cases hx with
   |osl _ _ _ o a hL hn ho ha=>
    have:=Rd.osl (E:=E.ren ρ len) (w:=w) k off n o a ⟨hlt k m hm,m,hm,hL⟩ (by simpa[Env.ren,hm] using hn) (by simpa[Env.ren,hm] using ho) (by simpa[Env.ren,hm] using ha)
    simpa[Env.ren,hm] using this
  ·rename_i k;simp only[Option.map_eq_some_iff] at h;obtain⟨m,hm,rfl⟩:=h;cases hx with
   |mpr _ hL=>
    have:=Rd.mpr (E:=E.ren ρ len) (w:=w) k ⟨hlt k m hm,m,hm,hL⟩
    simpa[Env.ren,hm] using this
  ·rename_i t k ms;simp only[Option.map_eq_some_iff] at h;obtain⟨m,hm,rfl⟩:=h;cases hx with
   |ifp _ _ _ hL=>
    have:=Rd.ifp (E:=E.ren ρ len) (w:=w) t k ms ⟨hlt k m hm,m,hm,hL⟩
    simpa[Env.ren,hm] using this
  ·rename_i k v i j n;simp only[Option.map_eq_some_iff] at h;obtain⟨m,hm,rfl⟩:=h;cases hx with
   |posl _ _ _ _ _ a hL hn ha=>
    have:=Rd.posl (E:=E.ren ρ len) (w:=w) k v i j n a ⟨hlt k m hm,m,hm,hL⟩ (by simpa[Env.ren,hm] using hn) (by simpa[Env.ren,hm] using ha)
    simpa[Env.ren,hm] using this
  ·rename_i k v i j z a b;simp only[Option.map_eq_some_iff] at h;obtain⟨m,hm,rfl⟩:=h;cases hx with
   |pref _ _ _ _ _ _ _ hL=>
    have:=Rd.pref (E:=E.ren ρ len) (w:=w) k v i j z a b ⟨hlt k m hm,m,hm,hL⟩
    simpa[Env.ren,hm] using this
  ·rename_i cs';simp only[Option.map_eq_some_iff] at h;obtain⟨cs,hm,rfl⟩:=h;cases hx with
   |agg _ vs hl ht=>obtain⟨a1,a2⟩:=list cs cs' vs hm hl ht;exact .agg _ vs a1 a2
  ·rename_i cs';simp only[Option.map_eq_some_iff] at h;obtain⟨cs,hm,rfl⟩:=h;cases hx with
   |tup _ vs hl ht=>obtain⟨a1,a2⟩:=list cs cs' vs hm hl ht;exact .tup _ vs a1 a2
  ·rename_i f cs';simp only[Option.map_eq_some_iff] at h;obtain⟨cs,hm,rfl⟩:=h;cases hx with
   |fn _ _ vs hl ht=>obtain⟨a1,a2⟩:=list cs cs' vs hm hl ht;exact .fn _ _ vs a1 a2
  ·rename_i n1 n2 n6 n9 n7 n8 n3 n4 n5;simp only[Option.some.injEq] at h;subst h;have hc:∀{t:T} {x:Value},Rd E w t x->closedT t=true->Rd (E.ren ρ len) w t x:=fun hx ht=>Rd.closed (E:=E) (E':=E.ren ρ len) (fun _ h=>h) hx ht
   cases hx with
   |und x=>exact .und x
   |ref=>exact absurd rfl (n1 _ _ _)
   |osl=>exact absurd rfl (n2 _ _ _)
   |mpr=>exact absurd rfl (n6 _)
   |ifp=>exact absurd rfl (n9 _ _ _)
   |posl=>exact absurd rfl (n7 _ _ _ _ _)
   |pref=>exact absurd rfl (n8 _ _ _ _ _ _ _)
   |agg=>exact absurd rfl (n3 _)
   |tup=>exact absurd rfl (n4 _)
   |fn=>exact absurd rfl (n5 _ _)
   |int=>exact .int _ _
   |bool=>exact .bool _
   |str=>exact .str _
   |v=>exact .v _
   |slNil=>exact .slNil _ _
   |slEmp=>exact .slEmp _ _ _
   |emp=>exact .emp _
   |bysEmp=>exact .bysEmp _
   |bysNil=>exact .bysNil
   |sl sz n row b off cap u h1 h2 h3 h4 h5 h6=>exact hc (.sl sz n row b off cap u h1 h2 h3 h4 h5 h6) rfl
   |bys l b off cap h1 h2 h3=>exact hc (.bys l b off cap h1 h2 h3) rfl
   |bref cells b off u h1 h2 h3 h4=>exact hc (.bref cells b off u h1 h2 h3 h4) rfl

theorem renT_one:∀{d:Nat} {t t':T},renT ρ d t'=some t->oneT t=true->oneT t'=true:=by
 intro d t t' h ht;cases d with
 |zero=>simp[renT] at h
 |succ d=>
  unfold renT at h;split at h
  ·rfl
  ·rfl
  ·rfl
  ·rfl
  ·rfl
  ·rfl
  ·simp only[Option.map_eq_some_iff] at h;obtain⟨cs,_,rfl⟩:=h;simp[oneT] at ht
  ·simp only[Option.map_eq_some_iff] at h;obtain⟨cs,_,rfl⟩:=h;simp[oneT] at ht
  ·rfl
  ·simp only[Option.some.injEq] at h;subst h;exact ht


theorem renT_inv{ρ1 ρ2:Nat->Option Nat}(h:∀k i,ρ1 k=some i->ρ2 i=some k):∀{d:Nat} {t t':T},renT ρ1 d t=some t'->renT ρ2 d t'=some t:=by
 intro d;induction d with
 |zero=>intro t t' ht;simp[renT] at ht
 |succ d ih=>
  have list:∀{l q:List T},mapO (renT ρ1 d) l=some q->mapO (renT ρ2 d) q=some l:=by
   intro l;induction l with
   |nil=>intro q hq;simp only[mapO,Option.some.injEq] at hq;subst hq;rfl
   |cons x l ihl=>
    intro q hq;simp only[mapO] at hq;split at hq
    ·rename_i hb hr;simp only[Option.some.injEq] at hq;subst hq;simp only[mapO,ih hb,ihl hr]
    ·cases hq
  intro t t' ht;unfold renT at ht;split at ht
  ·simp only[Option.map_eq_some_iff] at ht;obtain⟨m,hm,rfl⟩:=ht;simp[renT,h _ _ hm]
  ·simp only[Option.map_eq_some_iff] at ht;obtain⟨m,hm,rfl⟩:=ht;simp[renT,h _ _ hm]
  ·simp only[Option.map_eq_some_iff] at ht;obtain⟨m,hm,rfl⟩:=ht;simp[renT,h _ _ hm]
  ·simp only[Option.map_eq_some_iff] at ht;obtain⟨m,hm,rfl⟩:=ht;simp[renT,h _ _ hm]
  ·simp only[Option.map_eq_some_iff] at ht;obtain⟨m,hm,rfl⟩:=ht;simp[renT,h _ _ hm]
  ·simp only[Option.map_eq_some_iff] at ht;obtain⟨m,hm,rfl⟩:=ht;simp[renT,h _ _ hm]
  ·simp only[Option.map_eq_some_iff] at ht;obtain⟨cs,hm,rfl⟩:=ht;simp[renT,list hm]
  ·simp only[Option.map_eq_some_iff] at ht;obtain⟨cs,hm,rfl⟩:=ht;simp[renT,list hm]
  ·simp only[Option.map_eq_some_iff] at ht;obtain⟨cs,hm,rfl⟩:=ht;simp[renT,list hm]
  ·rename_i n1 n2 n6 n9 n7 n8 n3 n4 n5;simp only[Option.some.injEq] at ht;subst ht;unfold renT;split
   ·exact absurd rfl (n1 _ _ _)
   ·exact absurd rfl (n2 _ _ _)
   ·exact absurd rfl (n6 _)
   ·exact absurd rfl (n9 _ _ _)
   ·exact absurd rfl (n7 _ _ _ _ _)
   ·exact absurd rfl (n8 _ _ _ _ _ _ _)
   ·exact absurd rfl (n3 _)
   ·exact absurd rfl (n4 _)
   ·exact absurd rfl (n5 _ _)
   ·rfl

theorem renT_closed{d:Nat}{t:T}(h:closedT t=true):renT ρ (d+1) t=some t:=by
 cases t<;>first|rfl|(simp[closedT] at h)

theorem renT_one'{d:Nat}{t t':T}(h:renT ρ d t=some t')(ht:oneT t=true):oneT t'=true:=by
 cases d with
 |zero=>simp[renT] at h
 |succ d=>
  unfold renT at h;split at h
  ·simp only[Option.map_eq_some_iff] at h;obtain⟨_,_,rfl⟩:=h;rfl
  ·simp only[Option.map_eq_some_iff] at h;obtain⟨_,_,rfl⟩:=h;rfl
  ·simp only[Option.map_eq_some_iff] at h;obtain⟨_,_,rfl⟩:=h;rfl
  ·simp only[Option.map_eq_some_iff] at h;obtain⟨_,_,rfl⟩:=h;rfl
  ·simp only[Option.map_eq_some_iff] at h;obtain⟨_,_,rfl⟩:=h;rfl
  ·simp only[Option.map_eq_some_iff] at h;obtain⟨_,_,rfl⟩:=h;rfl
  ·simp[oneT] at ht
  ·simp[oneT] at ht
  ·simp only[Option.map_eq_some_iff] at h;obtain⟨_,_,rfl⟩:=h;rfl
  ·simp only[Option.some.injEq] at h;subst h;exact ht

def ObQ(Q:T->Prop)(ob:Ob):Prop:=
 match ob with
 | .fam _ _ _ n row=>(∀i t,i<n->t ∈ row i->closedOne t=true->Q t)/\∀i oty osz on orow,i<n->T.own oty osz on orow ∈ row i->∀a t,a<on->t ∈ orow a->Q t
 |ob=>∀i t,i<ob.toArr.n->t ∈ ob.toArr.row i->Q t

theorem obF_okA{Q:T->Prop}{E2:Env}{k k2:Nat}{ob ob':Ob}(h:ArrOk E w k ob.toArr)(hQ:∀i t,i<ob.toArr.n->t ∈ ob.toArr.row i->Q t)(hia:ob.isArr=true)(hf:obF ρ ob=some ob')(hrd:∀t t' x,Q t->renT ρ 6 t=some t'->Rd E w t x->Rd E2 w' t' x)
  (hb:E2.β k2=E.β k) (hκ:E2.κ k2=E.κ k) (hz:E2.z k2=E.z k) (hw:E.κ k≠0->w'.heap[E.β k]? =w.heap[E.β k]?):ArrOk E2 w' k2 ob'.toArr:=by
 obtain⟨hz0,hn,hl,hone,hcl,cs,ty,hblk0,hsz,hc⟩:=h;have hblk:E.κ k≠0->w'.heap[E.β k]? =some (.cells cs ty (0,0)):=fun hκ=>by rw[hw hκ];exact hblk0 hκ
 have hcl':∀t x,Q t->closedT t=true->Rd E w t x->Rd E2 w' t x:=fun t x hq ht hx=>hrd t t x hq (renT_closed ht) hx
 unfold ArrOk;rw[hb,hκ,hz];unfold obF at hf;split at hf
 ·simp only[Option.some.injEq] at hf;subst hf;refine⟨hz0,hn,hl,hone,hcl,cs,ty,hblk,hsz,fun i j t hi hj=> ?_⟩
  obtain⟨u,hu,hr⟩:=hc i j t hi hj;exact⟨u,hu,hcl' t u (hQ i t hi (List.mem_of_getElem? hj)) (hcl rfl i t hi (List.mem_of_getElem? hj)) hr⟩
 ·cases hia
 ·simp only[Option.some.injEq] at hf;subst hf;refine⟨hz0,hn,hl,hone,hcl,cs,ty,hblk,hsz,fun i j t hi hj=> ?_⟩
  obtain⟨u,hu,hr⟩:=hc i j t hi hj;exact⟨u,hu,hcl' t u (hQ i t hi (List.mem_of_getElem? hj)) (hcl rfl i t hi (List.mem_of_getElem? hj)) hr⟩
 ·split at hf
  ·rename_i ty0 sz row n0;simp only[Option.map_eq_some_iff] at hf;obtain⟨r,hr,rfl⟩:=hf;obtain⟨h1,h2⟩:=mapO_ok hr;simp only[Ob.toArr] at*;have hget:∀(j:Nat) (t':T),r[j]? =some t'->∃t,(row 0)[j]? =some t/\renT ρ 6 t=some t':=by
    intro j t' hj;have hlt:j<(row 0).length:=by rw[←h1];exact(List.getElem?_eq_some_iff.1 hj).1
    exact⟨_,List.getElem?_eq_getElem hlt,h2 j _ t' (List.getElem?_eq_getElem hlt) hj⟩
   refine⟨hz0,hn,fun i hi=> ?_,fun i t hi ht=> ?_,fun hc'=>(by cases hc'),cs,ty,hblk,hsz,fun i j t hi hj=> ?_⟩
   ·rw[h1];exact hl 0 (by omega)
   ·obtain⟨j,hj⟩:=List.getElem?_of_mem ht
    obtain⟨t0,h0,hr0⟩:=hget j t hj;exact renT_one' hr0 (hone 0 t0 (by omega) (List.mem_of_getElem? h0))
   ·obtain rfl:i=0:=by omega
    obtain⟨t0,h0,hr0⟩:=hget j t hj;obtain⟨u,hu,hr⟩:=hc 0 j t0 (by omega) h0
    exact⟨u,hu,hrd t0 t u (hQ 0 t0 (by omega) (List.mem_of_getElem? h0)) hr0 hr⟩
  ·cases hf
 ·cases hia
 ·cases hia

theorem FamOk.ren{E2:Env}{k k2 v:Nat}{ty:TypeId}{sz n:Nat}{row:Nat->List T}(h:FamOk E w k v ty sz n row){Q:T->Prop}(hQ:ObQ Q (.fam v ty sz n row))(hrd:∀t x,Q t->closedT t=true->Rd E w t x->Rd E2 w' t x)
  (hb:E2.β k2=E.β k) (hκ:E2.κ k2=E.κ k) (hz:E2.z k2=E.z k) (hL2:E2.L2 k2 v) (hb2:∀i j,E2.b2 k2 v i j=E.b2 k v i j) (hc2:∀i j,E2.c2 k2 v i j=E.c2 k v i j)
  (hw:∀b,Blk E k (.fam v ty sz n row) b->w'.heap[b]? =w.heap[b]?):FamOk E2 w' k2 v ty sz n row:=by
 obtain⟨hz0,hn,hl,hone,hcl,cs,ty',hblk,hsz,hc⟩:=h.arr;refine fam_build hL2 (by rw[hz];exact hz0) (by rw[hκ];exact hn) cs ty' (fun h0=>by rw[hκ] at h0;rw[hb,hw _ (.inl ⟨h0,rfl⟩)];exact hblk h0) (by rw[hκ,hz];exact hsz) (fun r hr=>by have:=hl r hr;rwa [viewR_length] at this) (fun r q t hr hq=> ?_) (fun i j i' j' oty osz on orow oty' osz' on' orow' hi hi' hj hj' hc hc' he=> ?_)
 ·obtain⟨u,hu,hru⟩:=hc r q (viewT k v r q t) hr (by simp only;rw[viewR_get,hq];rfl)
  rcases h.cell hr hq with hco|⟨oty,osz,on,orow,rfl⟩
  ·rw[viewT_closed hco] at hru;exact⟨u,hu,.inl ⟨hco,hrd t u (hQ.1 r t hr (List.mem_of_getElem? hq) hco) (closedOne_ok hco).1 hru⟩⟩
  ·obtain⟨g1,g2⟩:=h.own r q _ _ _ _ hr hq;refine⟨u,hu,.inr ⟨_,_,_,_,rfl,?_,?_,by rw[hb2,hc2,hκ,hb];exact g2⟩⟩
   ·cases hru with
    |posl _ _ _ _ _ a hL hn ha=>
     have:=Rd.posl (E:=E2) (w:=w') k2 v r q on a hL2 (by rw[hc2];exact hn) (by rw[hc2,hb2];exact ha)
     rw[hc2] at this;exact this
   ·obtain⟨e1,e2,e3,e4,e5,cs2,ty2,e6,e7,e8⟩:=g1;refine⟨e1,(show on<=E2.c2 k2 v r q by rw[hc2];exact e2),e3,e4,e5,cs2,ty2,fun h0=> ?_,(show Siz cs2 (E2.c2 k2 v r q*osz) [] by rw[hc2];exact e7),fun i j t hi hj=> ?_⟩
    ·have h0:E2.c2 k2 v r q≠0:=h0;rw[hc2] at h0;show w'.heap[E2.b2 k2 v r q]? =_;rw[hb2,hw _ (.inr ⟨_,_,_,_,_,_,_,_,_,_,_,rfl,hr,hq,h0,rfl⟩)];exact e6 h0
    ·obtain⟨u1,hu1,hr1⟩:=e8 i j t hi hj;have hct:=e5 rfl i t hi (List.mem_of_getElem? hj);exact⟨u1,hu1,rd_closed0 (E:=E2) (E':=E2.sub k2 v r q osz) (fun _ h=>h) (hrd t u1 (hQ.2 r _ _ _ _ hr (List.mem_of_getElem? hq) i t hi (List.mem_of_getElem? hj)) hct (rd_closed0 (E:=E.sub k v r q osz) (E':=E) (fun _ h=>h) hr1 hct)) hct⟩
 ·rw[hc2] at hc hc';rw[hb2,hb2] at he;exact h.inj i j i' j' oty osz on orow oty' osz' on' orow' hi hi' hj hj' hc hc' he

theorem obF_fam{ob ob':Ob}(hf:obF ρ ob=some ob'):(∃v ty sz n row,ob= .fam v ty sz n row/\ob'= .fam v ty sz n row)∨((∀v ty sz n row,ob≠ .fam v ty sz n row)/\∀v ty sz n row,ob'≠ .fam v ty sz n row):=by
 unfold obF at hf;split at hf
 ·simp only[Option.some.injEq] at hf;subst hf;exact .inr ⟨(by rintro _ _ _ _ _ h;cases h),(by rintro _ _ _ _ _ h;cases h)⟩
 ·simp only[Option.some.injEq] at hf;subst hf;exact .inl ⟨_,_,_,_,_,rfl,rfl⟩
 ·simp only[Option.some.injEq] at hf;subst hf;exact .inr ⟨(by rintro _ _ _ _ _ h;cases h),(by rintro _ _ _ _ _ h;cases h)⟩
 ·split at hf
  ·simp only[Option.map_eq_some_iff] at hf;obtain⟨_,_,rfl⟩:=hf;exact .inr ⟨(by rintro _ _ _ _ _ h;cases h),(by rintro _ _ _ _ _ h;cases h)⟩
  ·cases hf
 ·simp only[Option.some.injEq] at hf;subst hf;exact .inr ⟨(by rintro _ _ _ _ _ h;cases h),(by rintro _ _ _ _ _ h;cases h)⟩
 ·simp only[Option.some.injEq] at hf;subst hf;exact .inr ⟨(by rintro _ _ _ _ _ h;cases h),(by rintro _ _ _ _ _ h;cases h)⟩

theorem obF_blk{E2:Env}{k k2:Nat}{ob ob':Ob}{b:Nat}(h:ObOk E w k ob)(hf:obF ρ ob=some ob')(hb:E2.β k2=E.β k)(hκ:E2.κ k2=E.κ k)
  (h2:∀v,E.L2 k v->E2.L2 k2 v/\∀i j,E2.b2 k2 v i j=E.b2 k v i j/\E2.c2 k2 v i j=E.c2 k v i j) (hx:Blk E2 k2 ob' b):Blk E k ob b:=by
 rcases hx with⟨h1,rfl⟩|⟨v,ty,sz,n,row,i,j,oty,osz,on,orow,rfl,hi,hj,hc,rfl⟩
 ·rw[hκ] at h1;exact .inl ⟨h1,hb⟩
 ·rcases obF_fam hf with⟨v',ty',sz',n',row',rfl,he⟩|⟨_,hn⟩
  ·cases he;have hF:FamOk E w k v ty sz n row:=h;obtain⟨_,h3⟩:=h2 v hF.l2;rw[(h3 i j).2] at hc;exact .inr ⟨v,ty,sz,n,row,i,j,oty,osz,on,orow,rfl,hi,hj,hc,(h3 i j).1⟩
  ·exact absurd rfl (hn _ _ _ _ _)

theorem obF_okQ{Q:T->Prop}{E2:Env}{k k2:Nat}{ob ob':Ob}(h:ObOk E w k ob)(hQ:ObQ Q ob)(hf:obF ρ ob=some ob')(hrd:∀t t' x,Q t->renT ρ 6 t=some t'->Rd E w t x->Rd E2 w' t' x)
  (hb:E2.β k2=E.β k) (hκ:E2.κ k2=E.κ k) (hz:E2.z k2=E.z k) (h2:∀v,E.L2 k v->E2.L2 k2 v/\∀i j,E2.b2 k2 v i j=E.b2 k v i j/\E2.c2 k2 v i j=E.c2 k v i j) (hw:∀b,Blk E k ob b->w'.heap[b]? =w.heap[b]?):ObOk E2 w' k2 ob':=by
 have hw0:E.κ k≠0->w'.heap[E.β k]? =w.heap[E.β k]? :=fun h0=>hw _ (.inl ⟨h0,rfl⟩)
 cases ob with
 |mp bo get=>
  simp only[obF,Option.some.injEq] at hf;subst hf;obtain⟨h0,es,clock,h1,h2⟩:=h;exact⟨by rw[hκ];exact h0,es,clock,by rw[hb,hw0 h0];exact h1,h2⟩
 |mp2 get=>
  simp only[obF,Option.some.injEq] at hf;subst hf;obtain⟨h0,es,clock,h1,h2⟩:=h;exact⟨by rw[hκ];exact h0,es,clock,by rw[hb,hw0 h0];exact h1,h2⟩
 |fam v ty sz n row=>
  simp only[obF,Option.some.injEq] at hf;subst hf;have hF:FamOk E w k v ty sz n row:=h;obtain⟨h3,h4⟩:=h2 v hF.l2;exact FamOk.ren hF hQ (fun t x hq ht hx=>hrd t t x hq (renT_closed ht) hx) hb hκ hz h3 (fun i j=>(h4 i j).1) (fun i j=>(h4 i j).2) hw
 |arr cl ty sz n row=>
  have hia:ob'.isArr=true:=by
   cases cl
   ·simp only[obF] at hf;split at hf
    ·simp only[Option.map_eq_some_iff] at hf;obtain⟨_,_,rfl⟩:=hf;rfl
    ·cases hf
   ·simp only[obF,Option.some.injEq] at hf;subst hf;rfl
  exact ArrOk.ob (obF_okA (ob:=.arr cl ty sz n row) h hQ rfl hf hrd hb hκ hz hw0) hia
 |bys ty l=>
  have hia:ob'.isArr=true:=by simp only[obF,Option.some.injEq] at hf;subst hf;rfl
  exact ArrOk.ob (obF_okA (ob:=.bys ty l) h hQ rfl hf hrd hb hκ hz hw0) hia

theorem obQ_true(ob:Ob):ObQ (fun _=>True) ob:=by
 cases ob<;>first|exact⟨fun _ _ _ _ _=>trivial,fun _ _ _ _ _ _ _ _ _ _ _=>trivial⟩|exact fun _ _ _ _=>trivial

theorem obF_ok{E2:Env}{k k2:Nat}{ob ob':Ob}(h:ObOk E w k ob)(hf:obF ρ ob=some ob')(hrd:∀t t' x,renT ρ 6 t=some t'->Rd E w t x->Rd E2 w' t' x)
  (hb:E2.β k2=E.β k) (hκ:E2.κ k2=E.κ k) (hz:E2.z k2=E.z k) (h2:∀v,E.L2 k v->E2.L2 k2 v/\∀i j,E2.b2 k2 v i j=E.b2 k v i j/\E2.c2 k2 v i j=E.c2 k v i j) (hw:∀b,Blk E k ob b->w'.heap[b]? =w.heap[b]?):ObOk E2 w' k2 ob':=
 obF_okQ h (obQ_true ob) hf (fun t t' x _=>hrd t t' x) hb hκ hz h2 hw

theorem memN_ok{k:Nat}:∀{l:List Nat},memN k l=true↔k ∈ l:=by
 intro l;induction l with
 |nil=>simp[memN]
 |cons x l ih=>simp[memN,ih]

theorem nodupB_ok:∀{l:List Nat},nodupB l=true->l.Nodup:=by
 intro l;induction l with
 |nil=>intro _;exact List.nodup_nil
 |cons x l ih=>
  intro h;simp only[nodupB,Bool.and_eq_true,Bool.not_eq_true'] at h;refine List.nodup_cons.2 ⟨fun hm=> ?_,ih h.2⟩
  rw[memN_ok.2 hm] at h;cases h.1

theorem nthN_eq:∀{l:List Nat} {i:Nat},nthN l i=l[i]? :=by
 intro l;induction l with
 |nil=>intro i;simp[nthN]
 |cons x l ih=>intro i;cases i with|zero=>simp[nthN]|succ i=>simp[nthN,ih]

theorem idxOf_ok{k:Nat}:∀{l:List Nat} {n i:Nat},idxOf k l n=some i->n<=i/\l[i-n]? =some k:=by
 intro l;induction l with
 |nil=>intro n i h;simp[idxOf] at h
 |cons x l ih=>
  intro n i h;simp only[idxOf] at h;split at h
  ·rename_i hb;simp only[Option.some.injEq] at h;subst h;rw[Nat.eq_of_beq_eq_true hb];simp
  ·obtain⟨h1,h2⟩:=ih h;refine⟨by omega,?_⟩
   rw[show i-n=(i- (n+1))+1 by omega]
   simpa using h2

theorem idxOf_of{k:Nat}:∀{l:List Nat} {n i:Nat},l.Nodup->l[i]? =some k->idxOf k l n=some (n+i):=by
 intro l;induction l with
 |nil=>intro n i _ h;simp at h
 |cons x l ih=>
  intro n i hnd h;obtain⟨hx,hnd'⟩:=List.nodup_cons.1 hnd;simp only[idxOf];cases i with
  |zero=>
   simp only[List.getElem?_cons_zero,Option.some.injEq] at h
   subst h;simp
  |succ i=>
   simp only[List.getElem?_cons_succ] at h
   have hne:Nat.beq k x=false:=by
    cases hb:Nat.beq k x with
    |false=>rfl
    |true=>rw[Nat.eq_of_beq_eq_true hb] at h;exact absurd (List.mem_of_getElem? h) hx
   rw[hne];simp only;rw[ih hnd' h];congr 1
   omega

theorem setObs_ok:∀{ks:List Nat} {os:List (Option Ob)} {H:Heap},ks.Nodup->(∀k ∈ ks,k<H.length)->os.length=ks.length->(setObs H ks os).length=H.length/\
  (∀(i k:Nat) (o:Option Ob),ks[i]? =some k->os[i]? =some o->getOb (setObs H ks os) k=o)/\∀k,k ∉ ks->getOb (setObs H ks os) k=getOb H k:=by
 intro ks;induction ks with
 |nil=>intro os H _ _ _;exact⟨by cases os<;>simp[setObs],fun i k o h=>by simp at h,fun k _=>by cases os<;>simp[setObs]⟩
 |cons x ks ih=>
  intro os H hnd hlt hlen;cases os with
  |nil=>simp at hlen
  |cons o os=>
   obtain⟨hx,hnd'⟩:=List.nodup_cons.1 hnd;have hxl:=hlt x (by simp)
   obtain⟨h1,h2,h3⟩:=ih (os:=os) (H:=H.set x o) hnd' (fun k hk=>by simp;exact hlt k (by simp[hk])) (by simpa using hlen)
   simp only[setObs];refine⟨by simpa using h1,fun i k o' hi ho=> ?_,fun k hk=> ?_⟩
   ·cases i with
    |zero=>
     simp at hi ho;subst hi;subst ho;rw[h3 _ hx,getOb_set hxl,if_pos rfl]
    |succ i=>exact h2 i k o' (by simpa using hi) (by simpa using ho)
   ·simp only[List.mem_cons,not_or] at hk;rw[h3 k hk.2,getOb_set hxl,if_neg hk.1]

theorem getOb_map{obs:List Ob}{i:Nat}{ob:Ob}:getOb (obs.map some) i=some ob↔obs[i]? =some ob:=by
 unfold getOb;simp only[List.getElem?_map]
 cases obs[i]? with
 |none=>simp
 |some x=>simp

def Env.glue(E E':Env)(ι:Nat->Option Nat)(N:Nat->Prop):Env where
 N:=N
 L:=fun k=>match ι k with|some i=>E'.L i|none=>E.L k
 β:=fun k=>match ι k with|some i=>E'.β i|none=>E.β k
 κ:=fun k=>match ι k with|some i=>E'.κ i|none=>E.κ k
 z:=fun k=>match ι k with|some i=>E'.z i|none=>E.z k
 L2:=fun k v=>match ι k with|some i=>E'.L2 i v|none=>E.L2 k v
 b2:=fun k=>match ι k with|some i=>E'.b2 i|none=>E.b2 k
 c2:=fun k=>match ι k with|some i=>E'.c2 i|none=>E.c2 k

theorem glue_ok(h:Inv c E H w){E':Env}{H0 H'':Heap}{w':World}{ι:Nat->Option Nat}{N:Nat->Prop}{X N0:Nat->Prop}{nt:Nat}{E1:Env}(hI:Inv ⟨w,X,N0,nt,E1,0⟩ E' H0 w')
  (hst:Step E w (E.glue E' ι N) w') (hN:∀b,N b->E'.N b) (hnn:∀b,N b->E.N b∨w.heap.size<=b∨X b) (hX:∀b,X b->∃k ob i,getOb H k=some ob/\Blk E k ob b/\ι k=some i)
  (hinj:∀k k' i,ι k=some i->ι k'=some i->k=k')
  (hget:∀k ob,getOb H'' k=some ob->(∃i ob',ι k=some i/\getOb H0 i=some ob'/\ObOk (E.glue E' ι N) w' k ob/\(∀b,Blk (E.glue E' ι N) k ob b->Blk E' i ob' b)/\∀v ty sz n row,ob'= .fam v ty sz n row->∃row',ob= .fam v ty sz n row')∨(ι k=none/\getOb H k=some ob))
  (hlen:∀k i,ι k=some i->i<H0.length->k<H''.length) (hle:H.length<=H''.length):Inv c (E.glue E' ι N) H'' w':=by
 have hsize:w.heap.size<=w'.heap.size:=hI.fr.size;have old:∀{k ob},ι k=none->getOb H k=some ob->∀b,Blk (E.glue E' ι N) k ob b->Blk E k ob b:=fun{k ob} hk hob b hb=>by
  obtain⟨e1,e2,_⟩:=h.heap.live k ob hob;exact hb.back e2 e1 hst.le
 have notX:∀{k ob},ι k=none->getOb H k=some ob->∀b,Blk E k ob b->¬X b:=fun{k ob} hk hob b hb hx=>by
  obtain⟨k2,ob2,i,h1,h2,h3⟩:=hX b hx;have:=h.heap.inj k k2 ob ob2 b hob h1 hb h2;subst this;rw[hk] at h3;cases h3
 refine⟨⟨fun k ob hk=> ?_,fun k k' o o' b hk hk' hb hb'=> ?_,fun k hk=> ?_,fun k v hk=> ?_,fun k ob v hk hv=> ?_⟩,fun b hb=>hI.nlt b (hN b hb),fun b hb=> ?_,fun k ob b hk hb=> ?_,?_,h.keep.step hst⟩
 ·rcases hget k ob hk with⟨i,ob',hi,hob',h1,h2,_⟩|⟨hi,hob⟩
  ·obtain⟨l1,l2,l3⟩:=hI.heap.live i ob' hob';refine⟨by simp only[Env.glue,hi];exact l1,h1,fun b hb hb'=>l3 b (h2 b hb) (hN b hb')⟩
  ·obtain⟨l1,l2,l3⟩:=h.heap.live k ob hob;refine⟨by simp only[Env.glue,hi];exact l1,l2.mono l1 hst (fun b hb=>hI.fr.block b (l2.blt hb) (notX hi hob b hb)),fun b hb hb'=> ?_⟩
   have hb:=old hi hob b hb;rcases hnn b hb' with h3|h3|h3
   ·exact l3 b hb h3
   ·have:=l2.blt hb;omega
   ·exact notX hi hob b hb h3
 ·rcases hget k o hk with⟨i,ob,hi,hob,_,h2,_⟩|⟨hi,hob⟩<;>rcases hget k' o' hk' with⟨i',ob',hi',hob',_,h2',_⟩|⟨hi',hob'⟩
  ·have:=hI.heap.inj i i' ob ob' b hob hob' (h2 b hb) (h2' b hb');subst this;exact hinj k k' i hi hi'
  ·have hb':=old hi' hob' b hb';rcases hI.bnew i ob b hob (h2 b hb) with h3|h3
   ·have:=h.heap.blt hob' hb';have h3:w.heap.size<=b:=h3;omega
   ·exact absurd h3 (notX hi' hob' b hb')
  ·have hb:=old hi hob b hb;rcases hI.bnew i' ob' b hob' (h2' b hb') with h3|h3
   ·have:=h.heap.blt hob hb;have h3:w.heap.size<=b:=h3;omega
   ·exact absurd h3 (notX hi hob b hb)
  ·exact h.heap.inj k k' o o' b hob hob' (old hi hob b hb) (old hi' hob' b hb')
 ·simp only[Env.glue] at hk;cases hi:ι k with
  |some i=>rw[hi] at hk;exact hlen k i hi (hI.heap.lt i hk)
  |none=>rw[hi] at hk;have:=h.heap.lt k hk;omega
 ·simp only[Env.glue] at hk ⊢;cases hi:ι k with
  |some i=>rw[hi] at hk;exact hI.heap.l2 i v hk
  |none=>rw[hi] at hk;exact h.heap.l2 k v hk
 ·simp only[Env.glue] at hv;rcases hget k ob hk with⟨i,ob',hi,hob',_,_,h3⟩|⟨hi,hob⟩
  ·rw[hi] at hv;obtain⟨v0,ty,sz,n,row,he,hle⟩:=hI.heap.cur i ob' v hob' hv;obtain⟨row',he'⟩:=h3 _ _ _ _ _ he;exact⟨v0,ty,sz,n,row',he',hle⟩
  ·rw[hi] at hv;exact h.heap.cur k ob v hob hv
 ·rcases hnn b hb with h3|h3|h3
  ·exact h.nnew b h3
  ·have:=h.fr.size;exact .inr (.inl (by omega))
  ·obtain⟨k,ob,_,h1,h2,_⟩:=hX b h3;exact .inr (h.bnew k ob b h1 h2)
 ·rcases hget k ob hk with⟨i,ob',hi,hob',_,h2,_⟩|⟨hi,hob⟩
  ·rcases hI.bnew i ob' b hob' (h2 b hb) with h3|h3
   ·have h3:w.heap.size<=b:=h3;have:=h.fr.size;exact .inl (by omega)
   ·obtain⟨k2,ob2,_,g1,g2,_⟩:=hX b h3;exact h.bnew k2 ob2 b g1 g2
  ·exact h.bnew k ob b hob (old hi hob b hb)
 ·refine⟨hI.fr.os.trans h.fr.os,hI.fr.tape.trans h.fr.tape,hI.fr.output.trans h.fr.output,Nat.le_trans h.fr.size hsize,fun b hb hXb=> ?_,Nat.le_trans h.fr.dr hI.fr.dr⟩
  have hb':b<w.heap.size:=Nat.lt_of_lt_of_le hb h.fr.size;refine(hI.fr.block b hb' fun hx=> ?_).trans (h.fr.block b hb hXb)
  obtain⟨k,ob,_,h1,h2,_⟩:=hX b hx;rcases h.bnew k ob b h1 h2 with h3|h3
  ·omega
  ·exact hXb h3

theorem setObs_take:∀(ks:List Nat) (os:List (Option Ob)) (H:Heap),setObs H ks os=setObs H ks (os.take ks.length):=by
 intro ks;induction ks with
 |nil=>intro os H;cases os<;>rfl
 |cons k ks ih=>
  intro os H;cases os with
  |nil=>rfl
  |cons o os=>simp only[List.length_cons,List.take_succ_cons,setObs];exact ih os _

theorem rd_glueN{E':Env}{ι ρ:Nat->Option Nat}{N:Nat->Prop}(hN:∀b,E'.N b->N b)(hρ:∀i k,ρ i=some k->ι k=some i):∀(d:Nat) {t t':T} {x:Value},renT ρ d t=some t'->Rd E' w' t x->Rd (E.glue E' ι N) w' t' x:=by
 intro d;induction d with
 |zero=>intro t t' x h;simp[renT] at h
 |succ d ih=>
  intro t t' x h hx;have list:∀(cs cs':List T) (vs:Array Value),mapO (renT ρ d) cs=some cs'->cs.length=vs.size->(∀(i:Nat) (t:T) (x:Value),cs[i]? =some t->vs[i]? =some x->Rd E' w' t x)->
    cs'.length=vs.size/\∀(i:Nat) (t:T) (x:Value),cs'[i]? =some t->vs[i]? =some x->Rd (E.glue E' ι N) w' t x:=by
   intro cs cs' vs hm hl ht;obtain⟨h1,h2⟩:=mapO_ok hm;refine⟨by omega,fun i t x hi hx=> ?_⟩
   have hlt:i<cs.length:=by rw[←h1];exact(List.getElem?_eq_some_iff.1 hi).1
   have hc:=List.getElem?_eq_getElem hlt
   exact ih (h2 i _ t hc hi) (ht i _ x hc hx)
  unfold renT at h;split at h
  ·rename_i k i j;simp only[Option.map_eq_some_iff] at h;obtain⟨m,hm,rfl⟩:=h;cases hx with
   |ref _ _ _ hL=>
    have hi:=hρ _ _ hm;have:=Rd.ref (E:=E.glue E' ι N) (w:=w') m i j (by simp only[Env.glue,hi];exact hL)
    simpa[Env.glue,hi] using this
  ·rename_i k off n;simp only[Option.map_eq_some_iff] at h;obtain⟨m,hm,rfl⟩:=h;cases hx with
   |osl _ _ _ o a hL hn ho ha=>
    have hi:=hρ _ _ hm;have:=Rd.osl (E:=E.glue E' ι N) (w:=w') m off n o a (by simp only[Env.glue,hi];exact hL) (by simpa[Env.glue,hi] using hn) (by simpa[Env.glue,hi] using ho) (by simpa[Env.glue,hi] using ha)
    simpa[Env.glue,hi] using this
  ·simp only[Option.map_eq_some_iff] at h;obtain⟨m,hm,rfl⟩:=h;cases hx with
   |mpr k hL=>
    have hi:=hρ _ _ hm;have:=Rd.mpr (E:=E.glue E' ι N) (w:=w') m (by simp only[Env.glue,hi];exact hL)
    simpa[Env.glue,hi] using this
  ·rename_i t k ms;simp only[Option.map_eq_some_iff] at h;obtain⟨m,hm,rfl⟩:=h;cases hx with
   |ifp _ _ _ hL=>
    have hi:=hρ _ _ hm;have:=Rd.ifp (E:=E.glue E' ι N) (w:=w') t m ms (by simp only[Env.glue,hi];exact hL)
    simpa[Env.glue,hi] using this
  ·rename_i k v i j n;simp only[Option.map_eq_some_iff] at h;obtain⟨m,hm,rfl⟩:=h;cases hx with
   |posl _ _ _ _ _ a hL hn ha=>
    have hi:=hρ _ _ hm;have:=Rd.posl (E:=E.glue E' ι N) (w:=w') m v i j n a (by simp only[Env.glue,hi];exact hL) (by simpa[Env.glue,hi] using hn) (by simpa[Env.glue,hi] using ha)
    simpa[Env.glue,hi] using this
  ·rename_i k v i j z a b;simp only[Option.map_eq_some_iff] at h;obtain⟨m,hm,rfl⟩:=h;cases hx with
   |pref _ _ _ _ _ _ _ hL=>
    have hi:=hρ _ _ hm;have:=Rd.pref (E:=E.glue E' ι N) (w:=w') m v i j z a b (by simp only[Env.glue,hi];exact hL)
    simpa[Env.glue,hi] using this
  ·simp only[Option.map_eq_some_iff] at h;obtain⟨cs,hm,rfl⟩:=h;cases hx with
   |agg _ vs hl ht=>obtain⟨a1,a2⟩:=list _ _ vs hm hl ht;exact .agg _ vs a1 a2
  ·simp only[Option.map_eq_some_iff] at h;obtain⟨cs,hm,rfl⟩:=h;cases hx with
   |tup _ vs hl ht=>obtain⟨a1,a2⟩:=list _ _ vs hm hl ht;exact .tup _ vs a1 a2
  ·simp only[Option.map_eq_some_iff] at h;obtain⟨cs,hm,rfl⟩:=h;cases hx with
   |fn _ _ vs hl ht=>obtain⟨a1,a2⟩:=list _ _ vs hm hl ht;exact .fn _ _ vs a1 a2
  ·rename_i n1 n2 n6 n9 n7 n8 n3 n4 n5;simp only[Option.some.injEq] at h;subst h;cases hx with
   |und x=>exact .und x
   |ref=>exact absurd rfl (n1 _ _ _)
   |osl=>exact absurd rfl (n2 _ _ _)
   |mpr=>exact absurd rfl (n6 _)
   |ifp=>exact absurd rfl (n9 _ _ _)
   |posl=>exact absurd rfl (n7 _ _ _ _ _)
   |pref=>exact absurd rfl (n8 _ _ _ _ _ _ _)
   |agg=>exact absurd rfl (n3 _)
   |tup=>exact absurd rfl (n4 _)
   |fn=>exact absurd rfl (n5 _ _)
   |int=>exact .int _ _
   |bool=>exact .bool _
   |str=>exact .str _
   |v=>exact .v _
   |slNil=>exact .slNil _ _
   |slEmp=>exact .slEmp _ _ _
   |emp=>exact .emp _
   |bysEmp=>exact .bysEmp _
   |bysNil=>exact .bysNil
   |sl sz n row b off cap u h1 h2 h3 h4 h5 h6=>exact Rd.closed (E':=E.glue E' ι N) hN (.sl sz n row b off cap u h1 h2 h3 h4 h5 h6) rfl
   |bys l b off cap h1 h2 h3=>exact Rd.closed (E':=E.glue E' ι N) hN (.bys l b off cap h1 h2 h3) rfl
   |bref cells b off u h1 h2 h3 h4=>exact Rd.closed (E':=E.glue E' ι N) hN (.bref cells b off u h1 h2 h3 h4) rfl

theorem obB_ok{ρ:Nat->Option Nat}{o o':Option Ob}(h:obB ρ o=some o'):(o=none/\o'=none)∨∃ob ob',o=some ob/\o'=some ob'/\obF ρ ob=some ob':=by
 cases o with
 |none=>simp only[obB,Option.some.injEq] at h;exact .inl ⟨rfl,h.symm⟩
 |some ob=>simp only[obB,Option.map_eq_some_iff] at h;obtain⟨ob',h1,rfl⟩:=h;exact .inr ⟨ob,ob',rfl,rfl,h1⟩

theorem effAt_ok(h:Inv c E H w){f:FuncId}{cf:List T->Heap->Option (T×Heap×Option Prop)}(hf:EffOk P f cf){ks:List Nat}{args:List T}{vs:Array Value}{r:T}{p:Option Prop}(he:evEffAt cf H ks args=some (r,H',p))(hp:p.getD True)(ha:RdL E w args vs):
  Calls P f vs w fun e w'=>∃v E',e= .returned v/\Inv c E' H' w'/\Step E w E' w'/\Rd E' w' r v:=by
 unfold evEffAt at he;split at he
 case h_2=>cases he
 rename_i as obs hnd has hobs;split at he
 case h_2=>cases he
 rename_i r0 H0' p0 hc;split at he
 case h_2=>cases he
 rename_i r1 os hlen hr1 hos;simp only[Option.some.injEq,Prod.mk.injEq] at he;obtain⟨rfl,rfl,rfl⟩:=he;have hlen:=Nat.le_of_ble_eq_true hlen;have hnodup:=nodupB_ok hnd;have hfn:=hf as (obs.map some) r0 H0' p0 hc hp;obtain⟨o1,o2⟩:=mapO_ok hobs;obtain⟨a1,a2⟩:=mapO_ok has;obtain⟨s1,s2⟩:=mapO_ok hos;have inv1:∀k i,(fun k=>idxOf k ks 0) k=some i->nthN ks i=some k:=fun k i hk=>by
  rw[nthN_eq];have:=(idxOf_ok hk).2;simpa using this
 have inv2:∀i k,nthN ks i=some k->idxOf k ks 0=some i:=fun i k hi=>by
  rw[nthN_eq] at hi;have:=idxOf_of (n:=0) hnodup hi
  simpa using this
 have nlt:∀i k,nthN ks i=some k->i<ks.length:=fun i k hi=>by rw[nthN_eq] at hi;exact(List.getElem?_eq_some_iff.1 hi).1
 have hob:∀(i k:Nat),ks[i]? =some k->∃ob ob',getOb H k=some ob/\obs[i]? =some ob'/\obF (fun k=>idxOf k ks 0) ob=some ob':=by
  intro i k hk;have hlt:i<obs.length:=by rw[o1];exact(List.getElem?_eq_some_iff.1 hk).1
  have:=o2 i k _ hk (List.getElem?_eq_getElem hlt)
  simp only[Option.bind_eq_some_iff] at this;obtain⟨ob,hob,hF⟩:=this;exact⟨ob,_,hob,List.getElem?_eq_getElem hlt,hF⟩
 have hkL:∀(i k:Nat),ks[i]? =some k->E.L k:=fun i k hk=>by
  obtain⟨ob,_,hob,_⟩:=hob i k hk;exact(h.heap.live k ob hob).1
 have hksl:∀k ∈ ks,k<H.length:=fun k hk=>by
  obtain⟨i,hi⟩:=List.getElem?_of_mem hk
  exact h.heap.lt k (hkL i k hi)
 let E1:=E.ren (nthN ks) ks.length
 have hn1:∀(i k:Nat),ks[i]? =some k->nthN ks i=some k:=fun i k hk=>by rw[nthN_eq];exact hk
 have hβ1:∀(i k:Nat),ks[i]? =some k->E1.β i=E.β k/\E1.κ i=E.κ k/\E1.z i=E.z k/\E1.L i:=by
  intro i k hk;have hn:=hn1 i k hk;exact⟨by simp[E1,Env.ren,hn],by simp[E1,Env.ren,hn],by simp[E1,Env.ren,hn],nlt i k hn,k,hn,hkL i k hk⟩
 have h21:∀(i k:Nat),ks[i]? =some k->∀v,E.L2 k v->E1.L2 i v/\∀a b,E1.b2 i v a b=E.b2 k v a b/\E1.c2 i v a b=E.c2 k v a b:=by
  intro i k hk v hv;have hn:=hn1 i k hk;exact⟨⟨nlt i k hn,k,hn,hv⟩,fun a b=>⟨by simp[E1,Env.ren,hn],by simp[E1,Env.ren,hn]⟩⟩
 have hrd1:∀t t' x,renT (fun k=>idxOf k ks 0) 6 t=some t'->Rd E w t x->Rd E1 w t' x:=fun t t' x ht hx=>Rd.ren nlt 6 (renT_inv inv1 ht) hx
 have obk:∀i ob',getOb (obs.map some) i=some ob'->∃k ob,ks[i]? =some k/\getOb H k=some ob/\obF (fun k=>idxOf k ks 0) ob=some ob':=by
  intro i ob' hi;rw[getOb_map] at hi;have hlt:i<ks.length:=by rw[←o1];exact(List.getElem?_eq_some_iff.1 hi).1
  have hk:=List.getElem?_eq_getElem hlt
  obtain⟨ob,ob2,hob',ho2,hF⟩:=hob i _ hk;rw[hi] at ho2;simp only[Option.some.injEq] at ho2;subst ho2;exact⟨_,ob,hk,hob',hF⟩
 have blk1:∀{i k:Nat} {ob ob':Ob} {b:Nat},ks[i]? =some k->getOb H k=some ob->obF (fun k=>idxOf k ks 0) ob=some ob'->Blk E1 i ob' b->Blk E k ob b:=fun hk hob' hF hb=>by
  obtain⟨b1,b2,_,_⟩:=hβ1 _ _ hk;exact obF_blk (h.heap.live _ _ hob').2.1 hF b1 b2 (h21 _ _ hk) hb
 have hH1:HeapOk E1 w (obs.map some):=by
  refine⟨fun i ob' hi=> ?_,fun i i' ob ob' b hi hi' hb hb'=> ?_,fun i hi=> ?_,fun i v hv=> ?_,fun i ob' v hi hv=> ?_⟩
  ·obtain⟨k,ob,hk,hob',hF⟩:=obk i ob' hi;obtain⟨b1,b2,b3,b4⟩:=hβ1 i _ hk;obtain⟨l1,l2,l3⟩:=h.heap.live _ ob hob';exact⟨b4,obF_ok l2 hF hrd1 b1 b2 b3 (h21 i k hk) (fun _ _=>rfl),fun b hb=>l3 b (blk1 hk hob' hF hb)⟩
  ·obtain⟨k,ob2,hk,hob2,hF2⟩:=obk i ob hi;obtain⟨k',ob3,hk',hob3,hF3⟩:=obk i' ob' hi';have:=h.heap.inj _ _ _ _ b hob2 hob3 (blk1 hk hob2 hF2 hb) (blk1 hk' hob3 hF3 hb');subst this;exact(List.getElem?_inj (List.getElem?_eq_some_iff.1 hk).1 hnodup).1 (by rw[hk,hk'])
  ·obtain⟨hlt,_⟩:=hi;simp[o1];exact hlt
  ·obtain⟨hlt,m,hm,hv⟩:=hv;exact⟨hlt,m,hm,h.heap.l2 m v hv⟩
  ·obtain⟨k,ob,hk,hob',hF⟩:=obk i ob' hi;obtain⟨_,m,hm,hv⟩:=hv;rw[hn1 i k hk] at hm;simp only[Option.some.injEq] at hm;subst hm;obtain⟨v0,ty,sz,n,row,rfl,hle⟩:=h.heap.cur k ob v hob' hv;simp only[obF,Option.some.injEq] at hF;exact⟨v0,ty,sz,n,row,hF.symm,hle⟩
 have hval:RdL E1 w as vs:=⟨by rw[a1];exact ha.1,fun i t x hi hx=>by
  have hlt:i<args.length:=by rw[←a1];exact(List.getElem?_eq_some_iff.1 hi).1
  exact hrd1 _ _ x (a2 i _ t (List.getElem?_eq_getElem hlt) hi) (ha.2 i _ x (List.getElem?_eq_getElem hlt) hx)⟩
 refine(hfn E1 w vs hH1 h.nlt hval).mono fun e w' hh=> ?_
 obtain⟨v,E',rfl,hI,hst,hrd⟩:=hh;let ι:Nat->Option Nat:=fun k=>if H.length<=k then some (ks.length+(k-H.length)) else idxOf k ks 0
 have hιold:∀{k:Nat},k<H.length->ι k=idxOf k ks 0:=fun hk=>if_neg (by omega)
 have hρι:∀i k,nthX ks H.length i=some k->ι k=some i:=by
  intro i k hk;unfold nthX at hk;split at hk
  ·rename_i k' hk';simp only[Option.some.injEq] at hk;subst hk;have hm:k' ∈ ks:=by rw[nthN_eq] at hk';exact List.mem_of_getElem? hk'
   rw[hιold (hksl k' hm)];exact inv2 i k' hk'
  ·rename_i hn;simp only[Option.some.injEq] at hk;subst hk;have hge:ks.length<=i:=by
    rw[nthN_eq] at hn;rcases Nat.lt_or_ge i ks.length with h'|h'
    ·rw[List.getElem?_eq_getElem h'] at hn;cases hn
    ·exact h'
   simp only[ι];rw[if_pos (by omega)]
   congr 1
   omega
 have hιk:∀{k i:Nat},ι k=some i->(k<H.length/\ks[i]? =some k)∨(H.length<=k/\i=ks.length+(k-H.length)):=by
  intro k i hi;by_cases hk:H.length<=k
  ·simp only[ι,if_pos hk,Option.some.injEq] at hi;exact .inr ⟨hk,hi.symm⟩
  ·simp only[ι,if_neg hk] at hi;have:=inv1 k i hi;rw[nthN_eq] at this;exact .inl ⟨by omega,this⟩
 let E2:=E.glue E' ι E'.N
 have hL1:∀{k i:Nat},E.L k->ι k=some i->ks[i]? =some k:=fun hk hi=>by
  rcases hιk hi with h1|h1
  ·exact h1.2
  ·have:=h.heap.lt _ hk;omega
 have hnl:∀k,E2.L k->E.L k∨∀j,E.L j->j<k:=fun k hk=>by
  simp only[E2,Env.glue] at hk;cases hi:ι k with
  |none=>rw[hi] at hk;exact .inl hk
  |some i=>
   rcases hιk hi with h1|h1
   ·obtain⟨ob,ob',ho,_⟩:=hob i k h1.2;exact .inl (h.heap.live k ob ho).1
   ·exact .inr fun j hj=>by have:=h.heap.lt j hj;omega
 have hstep:Step E w E2 w':=by
  refine⟨⟨fun b hb=>hst.le.N b hb,fun k hk=> ?_,fun k hk=> ?_,fun k hk=> ?_,fun k hk=> ?_,fun k v hk=> ?_,fun k v a b hk=> ?_,fun k v a b hk=> ?_⟩,fun b hb=>hst.same b hb,fun k hk=>hnl k hk⟩<;>simp only[E2,Env.glue]<;>cases hi:ι k
  ·exact hk
  ·exact hst.le.L _ (hβ1 _ k (hL1 hk hi)).2.2.2
  ·rfl
  ·exact(hst.le.β _ (hβ1 _ k (hL1 hk hi)).2.2.2).trans (hβ1 _ k (hL1 hk hi)).1
  ·rfl
  ·exact(hst.le.κ _ (hβ1 _ k (hL1 hk hi)).2.2.2).trans (hβ1 _ k (hL1 hk hi)).2.1
  ·rfl
  ·exact(hst.le.z _ (hβ1 _ k (hL1 hk hi)).2.2.2).trans (hβ1 _ k (hL1 hk hi)).2.2.1
  ·exact hk
  ·exact hst.le.L2 _ v (h21 _ k (hL1 (h.heap.l2 k v hk) hi) v hk).1
  ·rfl
  ·have h1:=h21 _ k (hL1 (h.heap.l2 k v hk) hi) v hk;exact(hst.le.b2 _ v a b h1.1).trans (h1.2 a b).1
  ·rfl
  ·have h1:=h21 _ k (hL1 (h.heap.l2 k v hk) hi) v hk;exact(hst.le.c2 _ v a b h1.1).trans (h1.2 a b).2
 have hrd2:∀t t' x,renT (nthX ks H.length) 6 t=some t'->Rd E' w' t x->Rd E2 w' t' x:=by
  intro t t' x ht hx;exact rd_glueN (fun _ h=>h) hρι 6 ht hx
 obtain⟨z1,z2,z3⟩:=setObs_ok (os:=os.take ks.length) hnodup hksl (by simp[s1];omega)
 have hset:setObs H ks os=setObs H ks (os.take ks.length):=setObs_take ks os H;have hoslen:os.length=H0'.length:=s1;have hgetN:∀k ob,getOb (setObs H ks os++os.drop ks.length) k=some ob->(∃i ob',ι k=some i/\getOb H0' i=some ob'/\obF (nthX ks H.length) ob'=some ob)∨(ι k=none/\getOb H k=some ob):=by
  intro k ob hk;have fromos:∀i,os[i]? =some (some ob)->∃ob',getOb H0' i=some ob'/\obF (nthX ks H.length) ob'=some ob:=by
   intro i hi;have hlt:i<H0'.length:=by rw[←hoslen];exact(List.getElem?_eq_some_iff.1 hi).1
   have:=s2 i _ _ (List.getElem?_eq_getElem hlt) hi
   rcases obB_ok this with⟨_,h1⟩|⟨ob1,ob2,h1,h2,h3⟩
   ·cases h1
   ·cases h2;exact⟨ob1,by unfold getOb;rw[List.getElem?_eq_getElem hlt,h1];rfl,h3⟩
  rw[hset] at hk;by_cases hkl:k<H.length
  ·have hk':getOb (setObs H ks (os.take ks.length)) k=some ob:=by
    unfold getOb at hk ⊢
    rwa [List.getElem?_append_left (by rw[z1];exact hkl)] at hk
   by_cases hm:k ∈ ks
   ·obtain⟨i,hi⟩:=List.getElem?_of_mem hm
    have hik:i<ks.length:=(List.getElem?_eq_some_iff.1 hi).1
    have hlt:i<os.length:=by omega
    have ho:(os.take ks.length)[i]? =some (os[i]):=by rw[List.getElem?_take,if_pos hik];exact List.getElem?_eq_getElem hlt
    rw[z2 i k _ hi ho] at hk';obtain⟨ob',h1,h2⟩:=fromos i (by rw[List.getElem?_eq_getElem hlt,hk'])
    exact .inl ⟨i,ob',by rw[hιold hkl];exact inv2 i k (hn1 i k hi),h1,h2⟩
   ·rw[z3 k hm] at hk';refine .inr ⟨?_,hk'⟩
    rw[hιold hkl];cases hx:idxOf k ks 0 with
    |none=>rfl
    |some i=>
     have:=inv1 k i hx;rw[nthN_eq] at this;exact absurd (List.mem_of_getElem? this) hm
  ·have hk':os[ks.length+(k-H.length)]? =some (some ob):=by
    unfold getOb at hk;rw[List.getElem?_append_right (by rw[z1];omega),z1,List.getElem?_drop] at hk
    cases hx:os[ks.length+(k-H.length)]? with
    |none=>rw[hx] at hk;cases hk
    |some y=>rw[hx] at hk;simp at hk;rw[hk]
   obtain⟨ob',h1,h2⟩:=fromos _ hk';exact .inl ⟨_,ob',if_pos (by omega),h1,h2⟩
 have hXB:∀b,XB E1 (obs.map some) b->∃k ob i,getOb H k=some ob/\Blk E k ob b/\ι k=some i:=by
  intro b hb;obtain⟨i,ob',hi,hb⟩:=hb;obtain⟨k,ob,hk,hob',hF⟩:=obk i ob' hi;exact⟨k,ob,i,hob',blk1 hk hob' hF hb,by rw[hιold (hksl k (List.mem_of_getElem? hk))];exact inv2 i k (hn1 i k hk)⟩
 have hιname:∀{k i:Nat},ι k=some i->E2.β k=E'.β i/\E2.κ k=E'.κ i/\E2.z k=E'.z i/\∀v,E'.L2 i v->E2.L2 k v/\∀a b,E2.b2 k v a b=E'.b2 i v a b/\E2.c2 k v a b=E'.c2 i v a b:=by
  intro k i hi;simp only[E2,Env.glue,hi];exact⟨trivial,trivial,trivial,fun v hv=>⟨hv,fun _ _=>⟨trivial,trivial⟩⟩⟩
 refine⟨v,E2,rfl,glue_ok h hI hstep (fun _ h=>h) (fun b hb=> ?_) hXB (fun k k' i hi hi'=> ?_) (fun k ob hk=> ?_) (fun k i hi hlt=> ?_) (by simp[hset,z1]),hstep,hrd2 _ _ v hr1 hrd⟩
 ·rcases hI.nnew b hb with h1|h1|h1
  ·exact .inl h1
  ·exact .inr (.inl h1)
  ·exact .inr (.inr h1)
 ·rcases hιk hi with⟨g1,g2⟩|⟨g1,g2⟩<;>rcases hιk hi' with⟨g3,g4⟩|⟨g3,g4⟩
  ·rw[g2] at g4;exact Option.some.inj g4
  ·have:=(List.getElem?_eq_some_iff.1 g2).1;omega
  ·have:=(List.getElem?_eq_some_iff.1 g4).1;omega
  ·omega
 ·rcases hgetN k ob hk with⟨i,ob',hi,hob',hF⟩|h1
  ·obtain⟨n1,n2,n3,n4⟩:=hιname hi;have hO:=(hI.heap.live i ob' hob').2.1;refine .inl ⟨i,ob',hi,hob',obF_ok hO hF hrd2 n1 n2 n3 n4 (fun _ _=>rfl),fun b hb=>obF_blk hO hF n1 n2 n4 hb,fun v ty sz n row he=> ?_⟩
   subst he;simp only[obF,Option.some.injEq] at hF;exact⟨row,hF.symm⟩
  ·exact .inr h1
 ·rw[List.length_append,hset,z1,List.length_drop,hoslen];rcases hιk hi with⟨g1,g2⟩|⟨g1,g2⟩<;>omega

end
end Go.SS
/- A calculus of symbolic states: calls that lay objects; calls that write to what a cell owns. -/
namespace Go.SS
open Go.RowKit
section
variable {c:Ctx} {E:Env} {H H':Heap} {w w':World} {P:Program} {G:Gam}

theorem rd_plainO{E':Env}{ι ρ:Nat->Option Nat}{N:Nat->Prop}(hρ:∀i k,ρ i=some k->ι k=some i){d:Nat}{t t':T}{x:Value}(hp:plainO t=true)(ht:renT ρ d t=some t')(hx:Rd E' w t x):Rd (E.glue E' ι N) w t' x:=by
 cases d with
 |zero=>simp[renT] at ht
 |succ d=>
  cases t with
  |ref k i j=>
   simp only[renT,Option.map_eq_some_iff] at ht;obtain⟨m,hm,rfl⟩:=ht;cases hx with
   |ref _ _ _ hL=>
    have hi:=hρ _ _ hm;have:=Rd.ref (E:=E.glue E' ι N) (w:=w) m i j (by simp only[Env.glue,hi];exact hL)
    simpa[Env.glue,hi] using this
  |osl k off n=>
   simp only[renT,Option.map_eq_some_iff] at ht;obtain⟨m,hm,rfl⟩:=ht;cases hx with
   |osl _ _ _ o a hL hn ho ha=>
    have hi:=hρ _ _ hm;have:=Rd.osl (E:=E.glue E' ι N) (w:=w) m off n o a (by simp only[Env.glue,hi];exact hL) (by simpa[Env.glue,hi] using hn) (by simpa[Env.glue,hi] using ho) (by simpa[Env.glue,hi] using ha)
    simpa[Env.glue,hi] using this
  |int k n=>simp only[renT,Option.some.injEq] at ht;subst ht;cases hx;exact .int _ _
  |bool b=>simp only[renT,Option.some.injEq] at ht;subst ht;cases hx;exact .bool _
  |str l=>simp only[renT,Option.some.injEq] at ht;subst ht;cases hx;exact .str _
  |v y=>simp only[renT,Option.some.injEq] at ht;subst ht;cases hx;exact .v _
  |_=>simp[plainO,plainV] at hp

theorem plainV_O{t:T}(h:plainV t=true):plainO t=true:=by cases t<;>first|rfl|exact h

theorem rd_plainR{E':Env}{ι ρ:Nat->Option Nat}{N:Nat->Prop}(hρ:∀i k,ρ i=some k->ι k=some i):∀(d e:Nat) {t t':T} {x:Value},plainR e t=true->renT ρ d t=some t'->Rd E' w t x->Rd (E.glue E' ι N) w t' x:=by
 intro d;induction d with
 |zero=>intro e t t' x _ ht;simp[renT] at ht
 |succ d ih=>
  intro e t t' x hp ht hx;cases e with
  |zero=>simp[plainR] at hp
  |succ e=>
   have list:∀(cs cs':List T) (vs:Array Value),(∀t ∈ cs,plainR e t=true)->mapO (renT ρ d) cs=some cs'->cs.length=vs.size->(∀(i:Nat) (t:T) (x:Value),cs[i]? =some t->vs[i]? =some x->Rd E' w t x)->
     cs'.length=vs.size/\∀(i:Nat) (t:T) (x:Value),cs'[i]? =some t->vs[i]? =some x->Rd (E.glue E' ι N) w t x:=by
    intro cs cs' vs hcs hm hl ht;obtain⟨h1,h2⟩:=mapO_ok hm;refine⟨by omega,fun i t x hi hx=> ?_⟩
    have hlt:i<cs.length:=by rw[←h1];exact(List.getElem?_eq_some_iff.1 hi).1
    have hc:=List.getElem?_eq_getElem hlt
    exact ih e (hcs _ (List.getElem_mem hlt)) (h2 i _ t hc hi) (ht i _ x hc hx)
   cases t with
   |agg cs=>
    simp only[renT,Option.map_eq_some_iff] at ht;obtain⟨cs',hm,rfl⟩:=ht;cases hx with
    |agg _ vs hl h=>
     obtain⟨a1,a2⟩:=list cs cs' vs (fun t ht=>List.all_eq_true.1 hp t ht) hm hl h
     exact .agg _ vs a1 a2
   |tup cs=>
    simp only[renT,Option.map_eq_some_iff] at ht;obtain⟨cs',hm,rfl⟩:=ht;cases hx with
    |tup _ vs hl h=>
     obtain⟨a1,a2⟩:=list cs cs' vs (fun t ht=>List.all_eq_true.1 hp t ht) hm hl h
     exact .tup _ vs a1 a2
   |_=>
    refine rd_plainO hρ ?_ ht hx
    exact hp

theorem plainOb_Q{ob:Ob}(h:PlainOb ob):ObQ (fun t=>plainO t=true) ob:=by
 cases ob with
 |arr cl ty sz n row=>
  cases cl with
  |true=>exact fun i t hi ht=>plainV_O (h i hi t ht)
  |false=>
   obtain⟨rfl,h⟩:=h;intro i t hi ht;simp only[Ob.toArr] at hi ht;obtain rfl:i=0:=by omega
   exact h t ht
 |fam v ty sz n row=>
  refine⟨fun i t hi ht hc=> ?_,fun i oty osz on orow hi ht a t ha hm=> ?_⟩
  ·have:=h i hi t ht;cases t<;>first|exact plainV_O this|(simp[closedOne,closedT] at hc)
  ·exact plainV_O (h i hi _ ht a ha t hm)
 |bys ty l=>intro i t hi ht;simp[Ob.toArr,byRow] at ht;subst ht;rfl
 |mp bo get=>intro i t hi ht;simp[Ob.toArr] at hi
 |mp2 get=>intro i t hi ht;simp[Ob.toArr] at hi

theorem mk_ok(h:Inv c E H w){f:FuncId}{cf:List T->Option (T×Heap×Option Prop)}(hf:MkOk P f cf){args:List T}{vs:Array Value}{r:T}{p:Option Prop}(he:evMk cf H args=some (r,H',p))(hp:p.getD True)(ha:RdL E w args vs):
  Calls P f vs w fun e w'=>∃v E',e= .returned v/\Inv c E' H' w'/\Step E w E' w'/\Rd E' w' r v:=by
 unfold evMk at he;split at he
 case h_2=>cases he
 rename_i bs hbs;split at he
 case h_2=>cases he
 rename_i r0 H0 p0 hc;split at he
 case h_2=>cases he
 rename_i r1 os hr1 hos;simp only[Option.some.injEq,Prod.mk.injEq] at he;obtain⟨rfl,rfl,rfl⟩:=he;obtain⟨hsb,hp0⟩:=andOO_ok hp;obtain⟨hfn,hpr,hph⟩:=hf _ r0 H0 p0 hc hp0;obtain⟨b1,b2⟩:=mapO_ok hbs;obtain⟨s1,s2⟩:=mapO_ok hos;have hval:RdL (E.lent 0 H) w (bs.map (·.1)) vs:=⟨by simp[b1];exact ha.1,fun i t x hi hx=>by
  simp only[List.getElem?_map,Option.map_eq_some_iff] at hi
  obtain⟨y,hy,rfl⟩:=hi;have hlt:i<args.length:=by rw[←b1];exact(List.getElem?_eq_some_iff.1 hy).1
  have hc:=List.getElem?_eq_getElem hlt
  exact borrow_ok h 6 (r:=y.1) (p:=y.2) (b2 i _ y hc hy) (sides_ok hsb y (List.mem_of_getElem? hy)) (ha.2 i _ x hc hx)⟩
 have hH1:HeapOk (E.lent 0 H) w []:=⟨fun k ob hk=>by simp[getOb] at hk,fun k k' o o' b hk=>by simp[getOb] at hk,fun k hk=>absurd hk.2 (Nat.not_lt_zero _),fun k v hv=>absurd hv.2 (Nat.not_lt_zero _),fun k ob v hk=>by simp[getOb] at hk⟩
 have hN1:∀b,(E.lent 0 H).N b->b<w.heap.size:=fun b hb=>by
  rcases hb with hb|⟨k,ob,_,hk,hb⟩
  ·exact h.nlt b hb
  ·exact h.heap.blt hk hb
 refine(hfn (E.lent 0 H) w vs hH1 hN1 hval).mono fun e w' hh=> ?_
 obtain⟨v,E',rfl,hI,hst,hrd⟩:=hh;let ι:Nat->Option Nat:=fun k=>if H.length<=k then some (k-H.length) else none
 have hρι:∀i k,(fun k=>some (H.length+k)) i=some k->ι k=some i:=fun i k hk=>by
  simp only[Option.some.injEq] at hk;subst hk;simp only[ι];rw[if_pos (by omega)]
  congr 1
  omega
 have hιnone:∀{k},E.L k->ι k=none:=fun hk=>if_neg (by have:=h.heap.lt _ hk;omega)
 have hnl:∀k,(E.glue E' ι E.N).L k->E.L k∨∀j,E.L j->j<k:=fun k hk=>by
  by_cases hlt:H.length<=k
  ·exact .inr fun j hj=>by have:=h.heap.lt j hj;omega
  ·have hi:ι k=none:=if_neg hlt;simp only[Env.glue] at hk;rw[hi] at hk;exact .inl hk
 have hstep:Step E w (E.glue E' ι E.N) w':=by
  refine⟨⟨fun b hb=>hb,fun k hk=> ?_,fun k hk=> ?_,fun k hk=> ?_,fun k hk=> ?_,fun k v hk=> ?_,fun k v a b hk=> ?_,fun k v a b hk=> ?_⟩,fun b hb=>hst.same b (.inl hb),fun k hk=>hnl k hk⟩<;>simp only[Env.glue]
  ·rw[hιnone hk];exact hk
  ·rw[hιnone hk]
  ·rw[hιnone hk]
  ·rw[hιnone hk]
  ·rw[hιnone (h.heap.l2 _ _ hk)];exact hk
  ·rw[hιnone (h.heap.l2 _ _ hk)]
  ·rw[hιnone (h.heap.l2 _ _ hk)]
 refine⟨v,E.glue E' ι E.N,rfl,glue_ok h hI hstep (fun b hb=>hst.le.N b (.inl hb)) (fun b hb=>.inl hb) (fun b hb=> ?_) (fun k k' i hi hi'=> ?_) (fun k ob hk=> ?_) (fun k i hi hlt=> ?_) (by simp),hstep,rd_plainR hρι 6 6 hpr hr1 hrd⟩
 ·obtain⟨k,ob,hk,_⟩:=hb;simp[getOb] at hk
 ·simp only[ι] at hi hi';split at hi
  ·split at hi'
   ·simp only[Option.some.injEq] at hi hi';omega
   ·cases hi'
  ·cases hi
 ·by_cases hkl:k<H.length
  ·refine .inr ⟨if_neg (by omega),?_⟩
   unfold getOb at hk ⊢
   rwa [List.getElem?_append_left hkl] at hk
  ·have hi:ι k=some (k-H.length):=if_pos (by omega)
   have hk':os[k-H.length]? =some (some ob):=by
    unfold getOb at hk;rw[List.getElem?_append_right (by omega)] at hk
    cases hx:os[k-H.length]? with
    |none=>rw[hx] at hk;cases hk
    |some y=>rw[hx] at hk;simp at hk;rw[hk]
   have hlt:k-H.length<H0.length:=by rw[←s1];exact(List.getElem?_eq_some_iff.1 hk').1
   rcases obB_ok (s2 _ _ _ (List.getElem?_eq_getElem hlt) hk') with⟨_,h1⟩|⟨ob1,ob2,h1,h2,hF⟩
   ·cases h1
   ·cases h2;have hob':getOb H0 (k-H.length)=some ob1:=by unfold getOb;rw[List.getElem?_eq_getElem hlt,h1];rfl
    have hO:=(hI.heap.live _ ob1 hob').2.1;have n1:(E.glue E' ι E.N).β k=E'.β (k-H.length):=by simp only[Env.glue,hi]
    have n2:(E.glue E' ι E.N).κ k=E'.κ (k-H.length):=by simp only[Env.glue,hi]
    have n3:(E.glue E' ι E.N).z k=E'.z (k-H.length):=by simp only[Env.glue,hi]
    have n4:∀v,E'.L2 (k-H.length) v->(E.glue E' ι E.N).L2 k v/\∀a b,(E.glue E' ι E.N).b2 k v a b=E'.b2 (k-H.length) v a b/\(E.glue E' ι E.N).c2 k v a b=E'.c2 (k-H.length) v a b:=fun v hv=>by
     simp only[Env.glue,hi];exact⟨hv,fun _ _=>⟨trivial,trivial⟩⟩
    refine .inl ⟨k-H.length,ob1,hi,hob',obF_okQ hO (plainOb_Q (hph _ _ hob')) hF (fun t t' x hq ht hx=>rd_plainO hρι hq ht hx) n1 n2 n3 n4 (fun _ _=>rfl),fun b hb=>obF_blk hO hF n1 n2 n4 hb,fun v ty sz n row he=> ?_⟩
    subst he;simp only[obF,Option.some.injEq] at hF;exact⟨row,hF.symm⟩
 ·simp only[ι] at hi;split at hi
  ·simp only[Option.some.injEq] at hi;rw[List.length_append,s1];omega
  ·cases hi

theorem rd_plainV{E':Env}{t:T}{x:Value}(hp:plainV t=true)(hx:Rd E w t x):Rd E' w' t x:=by
 cases t with
 |int k n=>cases hx;exact .int _ _
 |bool b=>cases hx;exact .bool _
 |str l=>cases hx;exact .str _
 |v y=>cases hx;exact .v _
 |_=>simp[plainV] at hp

theorem fam_own{k v:Nat}{ty:TypeId}{sz n:Nat}{row:Nat->List T}(hF:FamOk E w k v ty sz n row){i j:Nat}{oty:TypeId}{osz on:Nat}{orow orow':Nat->List T}(hi:i<n)(hj:(row i)[j]? =some (.own oty osz on orow))
  (hw:∀b,(E.c2 k v i j≠0->b≠E.b2 k v i j)->b<w.heap.size->w'.heap[b]? =w.heap[b]?) (hNb:∀b,Blk E k (.fam v ty sz n row) b->¬E.N b) (hNlt:∀b,E.N b->b<w.heap.size) (hO:ArrOk (E.sub k v i j osz) w' 0 ⟨true,oty,osz,on,orow'⟩):
  FamOk E w' k v ty sz n (setRow row i j [.own oty osz on orow'])/\∀b,Blk E k (.fam v ty sz n (setRow row i j [.own oty osz on orow'])) b->Blk E k (.fam v ty sz n row) b:=by
 have hbl:∀b,Blk E k (.fam v ty sz n row) b->b<w.heap.size:=fun b hb=>ObOk.blt (ob:=.fam v ty sz n row) hF hb
 have hN:∀b,E.N b->w'.heap[b]? =w.heap[b]? :=fun b hb=>hw b (fun hc e=>hNb b (.inr ⟨_,_,_,_,_,_,_,_,_,_,_,rfl,hi,hj,hc,e⟩) hb) (hNlt b hb)
 have hstep:Step E w E w':=⟨Env.le.refl E,hN,fun _ h=>.inl h⟩
 have hlr:∀r,r<n->(row r).length=sz:=fun r hr=>by have:=hF.arr.2.2.1 r hr;rwa [viewR_length] at this
 have hjl:=(List.getElem?_eq_some_iff.1 hj).1
 have hfit:∀r,r<n->j+[T.own oty osz on orow'].length<=(row r).length:=fun r hr=>by rw[hlr r hr,←hlr i hi];simp only[List.length_singleton];omega
 have back:∀(r q:Nat) (t:T),r<n->(setRow row i j [T.own oty osz on orow'] r)[q]? =some t->(r=i/\q=j/\t= .own oty osz on orow')∨(¬ (r=i/\q=j)/\(row r)[q]? =some t):=by
  intro r q t hr hq;rcases setRow_get (hfit r hr) hq with⟨h1,h2,h3,h4⟩|⟨h1,h2⟩
  ·simp only[List.length_singleton] at h3;obtain rfl:q=j:=by omega
   simp at h4;exact .inl ⟨h1,rfl,h4.symm⟩
  ·simp only[List.length_singleton] at h1;exact .inr ⟨fun hh=>h1 ⟨hh.1,by omega,by omega⟩,h2⟩
 have own:∀(r q:Nat) (oty1:TypeId) (osz1 on1:Nat) (orow1:Nat->List T),r<n->(setRow row i j [T.own oty osz on orow'] r)[q]? =some (T.own oty1 osz1 on1 orow1)->∃(oty2:TypeId) (osz2 on2:Nat) (orow2:Nat->List T),(row r)[q]? =some (T.own oty2 osz2 on2 orow2):=by
  intro r q oty1 osz1 on1 orow1 hr hq;rcases back r q _ hr hq with⟨rfl,rfl,_⟩|⟨_,h2⟩
  ·exact⟨_,_,_,_,hj⟩
  ·exact⟨_,_,_,_,h2⟩
 have hκb:E.κ k≠0->w'.heap[E.β k]? =w.heap[E.β k]? :=fun hκ=>hw _ (fun hc e=>((hF.own i j _ _ _ _ hi hj).2 hc hκ) e.symm) (hbl _ (.inl ⟨hκ,rfl⟩))
 refine⟨?_,fun b hb=> ?_⟩
 ·obtain⟨e1,e2,e3,e4,e5,cs0,ty0,e6,e7,e8⟩:=hF.arr;refine fam_build (E:=E) hF.l2 e1 e2 cs0 ty0 (fun hκ=>by rw[hκb hκ];exact e6 hκ) e7 (fun r hr=>by rw[setRow_length (hfit r hr)];exact hlr r hr) (fun r q t hr hq=> ?_) (fun i1 j1 i2 j2 oty osz on orow oty' osz' on' orow' h1 h2 h3 h4 h5 h6 h7=> ?_)
  ·rcases back r q t hr hq with⟨rfl,rfl,rfl⟩|⟨hne,hq0⟩
   ·obtain⟨u,hu,hru⟩:=e8 r q (.posl k v r q on) hr (by simp only;rw[viewR_get,hj];rfl)
    exact⟨u,hu,.inr ⟨_,_,_,_,rfl,hstep.rd hru,hO,(hF.own r q _ _ _ _ hr hj).2⟩⟩
   ·obtain⟨u,hu,hru⟩:=e8 r q (viewT k v r q t) hr (by simp only;rw[viewR_get,hq0];rfl)
    rcases hF.cell hr hq0 with hc|⟨oty1,osz1,on1,orow1,rfl⟩
    ·rw[viewT_closed hc] at hru;exact⟨u,hu,.inl ⟨hc,hstep.rd hru⟩⟩
    ·obtain⟨g1,g2⟩:=hF.own r q _ _ _ _ hr hq0;refine⟨u,hu,.inr ⟨_,_,_,_,rfl,hstep.rd hru,g1.closed (k':=0) (E':=E.sub k v r q osz1) rfl (fun b hb=>hb) (fun b hb=>hstep.same b hb) rfl rfl rfl (fun hc0=>hw _ (fun hc e=>hne ?_) (hbl _ (.inr ⟨_,_,_,_,_,_,_,_,_,_,_,rfl,hr,hq0,hc0,rfl⟩))),g2⟩⟩
     exact hF.inj r q i j _ _ _ _ _ _ _ _ hr hi hq0 hj hc0 hc e
  ·obtain⟨_,_,_,_,p1⟩:=own i1 j1 _ _ _ _ h1 h3;obtain⟨_,_,_,_,p2⟩:=own i2 j2 _ _ _ _ h2 h4;exact hF.inj i1 j1 i2 j2 _ _ _ _ _ _ _ _ h1 h2 p1 p2 h5 h6 h7
 ·rcases hb with hb|⟨v0,ty0,sz0,n0,row0,i0,j0,oty1,osz1,on1,orow1,hobe,hi0,hj0,hc0,rfl⟩
  ·exact .inl hb
  ·simp only[Ob.fam.injEq] at hobe;obtain⟨rfl,rfl,rfl,rfl,rfl⟩:=hobe;obtain⟨_,_,_,_,p1⟩:=own i0 j0 _ _ _ _ hi0 hj0;exact .inr ⟨_,_,_,_,_,_,_,_,_,_,_,rfl,hi0,p1,hc0,rfl⟩

theorem sub_ok(h:Inv c E H w){f:FuncId}{cf:List T->Heap->Option (T×Heap×Option Prop)}(hf:EffOk P f cf){args:List T}{vs:Array Value}{r:T}{p:Option Prop}(he:evSub cf H args=some (r,H',p))(hp:p.getD True)(ha:RdL E w args vs):
  Calls P f vs w fun e w'=>∃v E',e= .returned v/\Inv c E' H' w'/\Step E w E' w'/\Rd E' w' r v:=by
 unfold evSub at he;split at he
 case h_2=>cases he
 rename_i k v i j n rest;split at he
 case h_2=>cases he
 rename_i v' ty sz N row A hrest hk hA;split at he
 case h_2=>cases he
 rename_i r0 ty' sz' n' row' p0 hc;split at he
 case h_2=>cases he
 rename_i hpl hbeq;obtain rfl:=Nat.eq_of_beq_eq_true hbeq;simp only[Option.some.injEq,Prod.mk.injEq] at he;obtain⟨rfl,rfl,rfl⟩:=he;obtain⟨hp0,hv,hi,hn,hn',hpv⟩:=andOO_ok hp;obtain⟨ty2,sz2,row2,hk2,hj,hcl⟩:=getOwn_ok hA;rw[hk] at hk2;simp only[Option.some.injEq,Ob.fam.injEq] at hk2;obtain⟨rfl,rfl,rfl,rfl,rfl⟩:=hk2;subst hv;subst hn';obtain⟨hO,hL,hL2⟩:=own_ok h.heap hA rfl hi;obtain⟨v,N,cl,oty,osz,on,orow⟩:=A;simp only at hcl hj hO hc hi hn hpv hk hL2 hA;subst hcl;obtain⟨_,hF,hNk⟩:=h.heap.live _ _ hk;have hF:FamOk E w k v ty sz N row:=hF;have hfn:=hf _ _ r0 _ p0 hc hp0;let E1:Env:={E.sub k v i j osz with L:=fun a=>a=0,L2:=fun _ _=>False}
 have cv:∀{w:World} {t:T} {x:Value},closedT t=true->Rd E w t x->Rd E1 w t x:=fun ht hx=>rd_closed0 (E:=E) (E':=E1) (fun _ h=>h) hx ht
 have cv':∀{w:World} {t:T} {x:Value},closedT t=true->Rd (E.sub k v i j osz) w t x->Rd E1 w t x:=fun ht hx=>rd_closed0 (E:=E.sub k v i j osz) (E':=E1) (fun _ h=>h) hx ht
 have hsub:E.c2 k v i j≠0->Blk E k (.fam v ty sz N row) (E.b2 k v i j):=fun hc2=>.inr ⟨_,_,_,_,_,_,_,_,_,_,_,rfl,hi,hj,hc2,rfl⟩
 have hone:∀a ob,getOb [some (Ob.arr true oty osz on orow)] a=some ob->a=0/\ob= .arr true oty osz on orow:=fun a ob ho=>by
  cases a with
  |zero=>simp[getOb] at ho;exact⟨rfl,ho.symm⟩
  |succ a=>simp[getOb] at ho
 have hH1:HeapOk E1 w [some (.arr true oty osz on orow)]:=by
  refine⟨fun a ob ho=> ?_,fun a a' o o' b ho ho' _ _=>by rw[(hone a o ho).1,(hone a' o' ho').1],fun a ha=> ?_,fun a u hu=>hu.elim,fun a ob u _ hu=>hu.elim⟩
  ·obtain⟨rfl,rfl⟩:=hone a ob ho;refine⟨rfl,?_,fun b hb=> ?_⟩
   ·obtain⟨e1,e2,e3,e4,e5,cs,tyc,e6,e7,e8⟩:=hO;exact⟨e1,e2,e3,e4,e5,cs,tyc,e6,e7,fun a b t ha hb=>by obtain⟨u,hu,hr⟩:=e8 a b t ha hb;exact⟨u,hu,cv' (e5 rfl a t ha (List.mem_of_getElem? hb)) hr⟩⟩
   ·obtain⟨h1,rfl⟩:=hb.arr rfl;exact hNk _ (hsub h1)
  ·have ha:a=0:=ha;subst ha;exact Nat.lt_succ_self 0
 have hval:RdL E1 w (.osl 0 0 n::rest) vs:=by
  refine⟨ha.1,fun a t x hi hx=> ?_⟩
  cases a with
  |zero=>
   simp only[List.getElem?_cons_zero,Option.some.injEq] at hi
   subst hi;have:=ha.2 0 _ x rfl hx;cases this with
   |posl _ _ _ _ _ ad hL hn ha=>
    have:=Rd.osl (E:=E1) (w:=w) 0 0 n 0 ad rfl (by rw[Nat.zero_add];exact hn) (fun _=>by simp) ha
    exact this
  |succ a=>exact Rd.closedD (E:=E) (E':=E1) (fun _ h=>h) 6 (ha.2 (a+1) t x hi hx) (List.all_eq_true.1 hrest t (List.mem_of_getElem? (by simpa using hi)))
 refine(hfn E1 w vs hH1 h.nlt hval).mono fun e w' hh=> ?_
 obtain⟨vv,E',rfl,hI,hst,hrd⟩:=hh;have hXb:∀b,XB E1 [some (.arr true oty osz on orow)] b->E.c2 k v i j≠0/\b=E.b2 k v i j:=fun b hb=>by
  obtain⟨a,ob,ho,hb⟩:=hb;obtain⟨rfl,rfl⟩:=hone a ob ho;exact hb.arr rfl
 have hwo:∀b,(E.c2 k v i j≠0->b≠E.b2 k v i j)->b<w.heap.size->w'.heap[b]? =w.heap[b]? :=fun b hb hlt=>hI.fr.block b hlt fun hx=>by
  obtain⟨h1,h2⟩:=hXb b hx;exact hb h1 h2
 have hO':ArrOk (E.sub k v i j osz) w' 0 ⟨true,oty,osz,on,row'⟩:=by
  obtain⟨_,hA0,_⟩:=hI.heap.live 0 (.arr true ty' osz on row') rfl;obtain⟨e1,e2,e3,e4,e5,cs,tyc,e6,e7,e8⟩:=(show ArrOk E' w' 0 ⟨true,ty',osz,on,row'⟩ from hA0)
  have k1:E'.κ 0=E.c2 k v i j:=hst.le.κ 0 rfl;have k2:E'.β 0=E.b2 k v i j:=hst.le.β 0 rfl;refine⟨rfl,(show on<=E.c2 k v i j by rw[←k1];exact e2),e3,e4,e5,cs,tyc,fun h0=> ?_,(show Siz cs (E.c2 k v i j*osz) [] by rw[←k1];exact e7.any),fun a b t ha hb=> ?_⟩
  ·show w'.heap[E.b2 k v i j]? =_;rw[←k2];exact e6 (by rw[k1];exact h0)
  ·obtain⟨u,hu,hr⟩:=e8 a b t ha hb;exact⟨u,hu,rd_plainV (hpv a ha t (List.mem_of_getElem? hb)) hr⟩
 obtain⟨hF',hB⟩:=fam_own (orow':=row') hF hi hj hwo hNk h.nlt hO';have hdr:w.drawn<=w'.drawn:=hI.fr.dr;have:=h.writeO hk hI.fr.os hI.fr.tape hI.fr.output hI.fr.size (fun b hlt hn=>hwo b (fun hc e=>hn (e▸hsub hc)) hlt) (.fam v ty sz N (setRow row i j [.own oty osz on row'])) hB (fun u hu=>by
  obtain⟨v0,_,_,_,_,he,hle⟩:=h.heap.cur k _ u hk hu;cases he;exact⟨_,_,_,_,_,rfl,hle⟩) (fun _=>hF')
 exact⟨vv,E,rfl,this.1,this.2,Rd.plain 6 hrd hpl⟩

theorem keepObs_get{ks:List Nat}:∀{H:Heap} {i k:Nat} {ob:Ob},getOb (keepObs ks H i) k=some ob->getOb H k=some ob/\(i+k) ∈ ks:=by
 intro H;induction H with
 |nil=>intro i k ob h;simp[keepObs,getOb] at h
 |cons o H ih=>
  intro i k ob h;cases k with
  |zero=>
   simp only[keepObs,getOb,List.getElem?_cons_zero,Option.bind_some,id] at h ⊢
   split at h
   ·rename_i hm;exact⟨h,by simpa using memN_ok.1 hm⟩
   ·cases h
  |succ k=>
   have:=ih (i:=i+1) (k:=k) (ob:=ob) (by simpa[keepObs,getOb] using h)
   refine⟨by simpa[getOb] using this.1,?_⟩
   have h2:=this.2
   rwa [show i+1+k=i+(k+1) by omega] at h2

theorem keepObs_length{ks:List Nat}:∀{H:Heap} {i:Nat},(keepObs ks H i).length=H.length:=by
 intro H;induction H with
 |nil=>intro i;rfl
 |cons o H ih=>intro i;simp[keepObs,ih]

theorem fz_ok(h:Inv c E H w){f:FuncId}{cf:List T->Option (T×Option Prop)}(hf:PureOk P f cf){ks:List Nat}{args:List T}{vs:Array Value}{r:T}{p:Option Prop}(he:evFz cf H ks args=some (r,H',p))(hp:p.getD True)(ha:RdL E w args vs):
  Calls P f vs w fun e w'=>∃v E',e= .returned v/\Inv c E' H' w'/\Step E w E' w'/\Rd E' w' r v:=by
 unfold evFz at he;split at he
 case h_2=>cases he
 rename_i bs hbs;split at he
 case h_2=>cases he
 rename_i r0 p0 hc;simp only[Option.some.injEq,Prod.mk.injEq] at he;obtain⟨rfl,rfl,rfl⟩:=he;obtain⟨hsb,hp0⟩:=andOO_ok hp;have hfn:=hf _ r0 p0 hc hp0;obtain⟨b1,b2⟩:=mapO_ok hbs;have hK:Inv c E (keepObs ks H 0) w:=by
  refine⟨⟨fun k ob hk=>h.heap.live k ob (keepObs_get hk).1,fun k k' o o' b hk hk'=>h.heap.inj k k' o o' b (keepObs_get hk).1 (keepObs_get hk').1,fun k hk=>by rw[keepObs_length];exact h.heap.lt k hk,h.heap.l2,fun k ob v hk=>h.heap.cur k ob v (keepObs_get hk).1⟩,h.nlt,h.nnew,fun k ob b hk=>h.bnew k ob b (keepObs_get hk).1,h.fr,h.keep⟩
 have hval:RdL (E.lent 0 (keepObs ks H 0)) w (bs.map (·.1)) vs:=⟨by simp[b1];exact ha.1,fun i t x hi hx=>by
  simp only[List.getElem?_map,Option.map_eq_some_iff] at hi
  obtain⟨y,hy,rfl⟩:=hi;have hlt:i<args.length:=by rw[←b1];exact(List.getElem?_eq_some_iff.1 hy).1
  have hc:=List.getElem?_eq_getElem hlt
  exact borrow_ok hK 6 (r:=y.1) (p:=y.2) (b2 i _ y hc hy) (sides_ok hsb y (List.mem_of_getElem? hy)) (ha.2 i _ x hc hx)⟩
 have hN1:∀b,(E.lent 0 (keepObs ks H 0)).N b->b<w.heap.size:=fun b hb=>by
  rcases hb with hb|⟨k,ob,_,hk,hb⟩
  ·exact h.nlt b hb
  ·exact hK.heap.blt hk hb
 refine(hfn (E.lent 0 (keepObs ks H 0)) w vs (fun _=>⟨fun h=>absurd h.2 (Nat.not_lt_zero _),fun _ h=>absurd h.2 (Nat.not_lt_zero _)⟩) hN1 hval).mono fun e w' hh=> ?_
 obtain⟨v,rfl,hb,hr⟩:=hh;let N2:Nat->Prop:=((E.lent 0 (keepObs ks H 0)).addN fun b=>w.heap.size<=b/\b<w'.heap.size).N
 let E2:Env:={E with N:=N2}
 have hstep:Step E w E2 w':=⟨⟨fun b hb=>.inl (.inl hb),fun _ h=>h,fun _ _=>rfl,fun _ _=>rfl,fun _ _=>rfl,fun _ _ h=>h,fun _ _ _ _ _=>rfl,fun _ _ _ _ _=>rfl⟩,fun b hb'=>hb.block b (h.nlt b hb'),fun _ h=>.inl h⟩
 refine⟨v,E2,rfl,⟨⟨fun k ob hk=> ?_,fun k k' o o' b hk hk'=>h.heap.inj k k' o o' b (dropObs_get hk).1 (dropObs_get hk').1,fun k hk=>by rw[dropObs_length];exact h.heap.lt k hk,h.heap.l2,fun k ob v hk=>h.heap.cur k ob v (dropObs_get hk).1⟩,fun b hb'=> ?_,fun b hb'=> ?_,fun k ob b hk=>h.bnew k ob b (dropObs_get hk).1,h.fr.heap hb.os hb.tape hb.output hb.size (fun b h1 _=>hb.block b (by have:=h.fr.size;omega)) hb.dr,h.keep.step hstep⟩,hstep,?_⟩
 ·obtain⟨g1,g2⟩:=dropObs_get hk;obtain⟨e1,e2,e3⟩:=h.heap.live k ob g1;refine⟨e1,e2.mono e1 hstep (fun b hb'=>hb.block b (e2.blt hb')),fun b hb' hn=> ?_⟩
  have hb':Blk E k ob b:=hb';rcases hn with(hn|⟨k2,ob2,_,hk2,hb2⟩)|hn
  ·exact e3 b hb' hn
  ·obtain⟨g3,g4⟩:=keepObs_get hk2;have:=h.heap.inj k k2 ob ob2 b g1 g3 hb' hb2;rw[Nat.zero_add] at g4;exact g2 (this▸g4)
  ·have:=e2.blt hb';have:=hn.1;omega
 ·rcases hb' with hb'|hb'
  ·have:=hN1 b hb';have:=hb.size;omega
  ·exact hb'.2
 ·rcases hb' with(hn|⟨k2,ob2,_,hk2,hb2⟩)|hn
  ·exact h.nnew b hn
  ·exact .inr (h.bnew k2 ob2 b (keepObs_get hk2).1 hb2)
  ·have:=h.fr.size;exact .inr (.inl (by have:=hn.1;omega))
 ·exact Rd.mono (w:=w') (w':=w') (E:=(E.lent 0 (keepObs ks H 0)).addN fun b=>w.heap.size<=b/\b<w'.heap.size) (E':=E2) ⟨fun _ h=>h,fun _ h=>absurd h.2 (Nat.not_lt_zero _),fun _ h=>absurd h.2 (Nat.not_lt_zero _),fun _ h=>absurd h.2 (Nat.not_lt_zero _),fun _ h=>absurd h.2 (Nat.not_lt_zero _),fun _ _ h=>absurd h.2 (Nat.not_lt_zero _),fun _ _ _ _ h=>absurd h.2 (Nat.not_lt_zero _),fun _ _ _ _ h=>absurd h.2 (Nat.not_lt_zero _)⟩ (fun _ _=>rfl) hr

theorem eff_ok(hG:GamOk P G)(h:Inv c E H w){f:FuncId}{args:List T}{vs:Array Value}{r:T}{p:Option Prop}(he:evEff G H f args=some (r,H',p))(hp:p.getD True)(ha:RdL E w args vs):
  Calls P f vs w fun e w'=>∃v E',e= .returned v/\Inv c E' H' w'/\Step E w E' w'/\Rd E' w' r v:=by
 unfold evEff at he;split at he
 ·rename_i cf hcf;split at he
  ·exact sub_ok h (geff_ok hG hcf) he hp ha
  ·exact effAt_ok h (geff_ok hG hcf) he hp ha
 ·split at he
  ·rename_i cf hcf;exact mk_ok h (gmk_ok hG hcf) he hp ha
  ·split at he
   ·rename_i cf hcf;exact fz_ok h (gfz_ok hG hcf) he hp ha
   ·cases he

end
end Go.SS
/- A calculus of symbolic states: a call of what is said of a box's first cells. -/
namespace Go.SS
open Go.RowKit

section
variable {c:Ctx} {E:Env} {H H':Heap} {w w':World} {ρ:Nat->Option Nat} {P:Program}

theorem renT_id(hρ:∀k m,ρ k=some m->m=k):∀{d:Nat} {t t':T},renT ρ d t=some t'->t'=t:=by
 intro d;induction d with
 |zero=>intro t t' h;simp[renT] at h
 |succ d ih=>
  intro t t' h;have list:∀{cs cs':List T},mapO (renT ρ d) cs=some cs'->cs'=cs:=by
   intro cs cs' hm;obtain⟨h1,h2⟩:=mapO_ok hm;refine List.ext_getElem h1 fun i h3 h4=> ?_
   exact ih (h2 i _ _ (List.getElem?_eq_getElem h4) (List.getElem?_eq_getElem h3))
  unfold renT at h;split at h
  case h_7=>
   simp only[Option.map_eq_some_iff] at h;obtain⟨cs,hm,rfl⟩:=h;rw[list hm]
  case h_8=>
   simp only[Option.map_eq_some_iff] at h;obtain⟨cs,hm,rfl⟩:=h;rw[list hm]
  case h_9=>
   simp only[Option.map_eq_some_iff] at h;obtain⟨cs,hm,rfl⟩:=h;rw[list hm]
  case h_10=>simp only[Option.some.injEq] at h;exact h.symm
  all_goals
   simp only[Option.map_eq_some_iff] at h;obtain⟨m,hm,rfl⟩:=h;rw[hρ _ _ hm]

theorem no0_id:∀k m,no0 k=some m->m=k:=by
 intro k m h;cases k with
 |zero=>cases h
 |succ k=>simp only[no0,Option.some.injEq] at h;exact h.symm

theorem no0_inv:∀i k,no0 i=some k->no0 k=some i:=by
 intro i k h;rw[no0_id i k h];cases i with
 |zero=>cases h
 |succ i=>rfl

theorem no0_cells{cs cs':List T}(h:mapO (renT no0 6) cs=some cs'):cs'=cs/\∀t ∈ cs',renT no0 6 t=some t:=by
 obtain⟨h1,h2⟩:=mapO_ok h;have e:cs'=cs:=List.ext_getElem h1 fun i h3 h4=>renT_id no0_id (h2 i _ _ (List.getElem?_eq_getElem h4) (List.getElem?_eq_getElem h3))
 refine⟨e,fun t ht=> ?_⟩
 obtain⟨i,hi,rfl⟩:=List.getElem_of_mem ht;have:=h2 i _ _ (List.getElem?_eq_getElem (by rw[←e];exact hi)) (List.getElem?_eq_getElem hi)
 have e2:=renT_id no0_id this;rw[←e2] at this;exact this

theorem rd_no0{X:Env}{t t':T}{x:Value}(ht:renT no0 6 t=some t')(h:Rd E w t x):Rd (X.glue E no0 E.N) w t' x:=
 rd_glueN (fun _ h=>h) no0_inv 6 ht h

theorem isArr_not{ob:Ob}(h:ob.isArr=true):∀v ty sz n row,ob≠ .fam v ty sz n row:=by rintro v ty sz n row rfl;cases h

theorem swap0{X:Env}{ob1 ob2:Ob}{rest rest2:Heap}(h:HeapOk E w (some ob1::rest))(hm:mapO (obB no0) rest=some rest2)(h1:ob1.isArr=true)(h2:ob2.isArr=true)(hL:X.L 0)(hb:X.β 0=E.β 0)(hκ:E.κ 0≠0)
  (hl2:∀v,X.L2 0 v->E.L2 0 v) (ho:ObOk (X.glue E no0 E.N) w 0 ob2):
  HeapOk (X.glue E no0 E.N) w (some ob2::rest2)/\∀k ob b,getOb (some ob2::rest2) k=some ob->Blk (X.glue E no0 E.N) k ob b->∃ob',getOb (some ob1::rest) k=some ob'/\Blk E k ob' b:=by
 obtain⟨m1,m2⟩:=mapO_ok hm;have hL1:ob1.isArr=true->∀v,¬E.L2 0 v:=fun hi v hv=>by
  obtain⟨v0,ty,sz,n,row,he,_⟩:=h.cur 0 ob1 v rfl hv;exact isArr_not hi _ _ _ _ _ he
 have get:∀k ob,getOb (some ob2::rest2) (k+1)=some ob->∃ob',getOb (some ob1::rest) (k+1)=some ob'/\obF no0 ob'=some ob:=by
  intro k ob hk;have hlt:k<rest2.length:=by
   have:=getOb_lt hk;simp only[List.length_cons] at this;omega
  have hk':rest2[k]? =some (some ob):=by
   have:getOb rest2 k=some ob:=hk;unfold getOb at this;rw[List.getElem?_eq_getElem hlt] at this ⊢
   simp only[Option.bind_some,id] at this;rw[this]
  have hlt':k<rest.length:=by omega
  rcases obB_ok (m2 k _ _ (List.getElem?_eq_getElem hlt') hk') with⟨_,e⟩|⟨o1,o2,e1,e2,e3⟩
  ·cases e
  ·cases e2;exact⟨o1,by show getOb rest k=_;unfold getOb;rw[List.getElem?_eq_getElem hlt',e1];rfl,e3⟩
 have blk:∀k ob b,getOb (some ob2::rest2) k=some ob->Blk (X.glue E no0 E.N) k ob b->∃ob',getOb (some ob1::rest) k=some ob'/\Blk E k ob' b:=by
  intro k ob b hk hb';cases k with
  |zero=>
   have:ob2=ob:=by simpa[getOb] using hk
   subst this;obtain⟨_,e2⟩:=hb'.arr h2;exact⟨ob1,rfl,.inl ⟨hκ,e2.trans hb⟩⟩
  |succ k=>
   obtain⟨ob',g1,g2⟩:=get k ob hk;exact⟨ob',g1,obF_blk (h.live _ _ g1).2.1 g2 rfl rfl (fun v hv=>⟨hv,fun _ _=>⟨rfl,rfl⟩⟩) hb'⟩
 refine⟨⟨fun k ob hk=> ?_,fun k k' o o' b hk hk' hx hx'=> ?_,fun k hk=> ?_,fun k v hk=> ?_,fun k ob v hk hv=> ?_⟩,blk⟩
 ·refine⟨?_,?_,fun b hb'=> ?_⟩
  ·cases k with
   |zero=>exact hL
   |succ k=>obtain⟨ob',g1,_⟩:=get k ob hk;exact(h.live _ _ g1).1
  ·cases k with
   |zero=>
    have:ob2=ob:=by simpa[getOb] using hk
    subst this;exact ho
   |succ k=>
    obtain⟨ob',g1,g2⟩:=get k ob hk;exact obF_ok (h.live _ _ g1).2.1 g2 (fun t t' x ht hx=>rd_no0 ht hx) rfl rfl rfl (fun v hv=>⟨hv,fun _ _=>⟨rfl,rfl⟩⟩) (fun _ _=>rfl)
  ·obtain⟨ob',g1,g2⟩:=blk k ob b hk hb';exact(h.live _ _ g1).2.2 b g2
 ·obtain⟨p,p1,p2⟩:=blk k o b hk hx;obtain⟨q,q1,q2⟩:=blk k' o' b hk' hx';exact h.inj k k' p q b p1 q1 p2 q2
 ·cases k with
  |zero=>simp
  |succ k=>
   have:=h.lt (k+1) hk;simp only[List.length_cons] at this ⊢;omega
 ·cases k with
  |zero=>exact hL
  |succ k=>exact h.l2 (k+1) v hk
 ·cases k with
  |zero=>exact absurd (hl2 v hv) (hL1 h1 v)
  |succ k=>
   obtain⟨ob',g1,g2⟩:=get k ob hk;obtain⟨v0,ty,sz,n,row,rfl,hle⟩:=h.cur _ _ v g1 hv;simp only[obF,Option.some.injEq] at g2;exact⟨v0,ty,sz,n,row,g2.symm,hle⟩

theorem wid_ok{f:FuncId}{cf:List T->Heap->Option (T×Heap×Option Prop)}(hf:EffOk P f cf){sz n:Nat}:EffOk P f fun as H=>widE cf sz n H as:=by
 intro as Hw res Hw' p he hp;replace he:widE cf sz n Hw as=some (res,Hw',p):=he;unfold widE at he;split at he
 case h_2=>cases he
 rename_i ty szW m row rest;split at he
 case h_2=>cases he
 rename_i m' or0 ob0 hb rest0 cs hrest hcs hok;simp only[Bool.and_eq_true] at hok;obtain⟨hoa,hsz⟩:=hok;have hsz:=Nat.le_of_ble_eq_true hsz;split at he
 case h_2=>cases he
 rename_i oe r cl' ty' sz' m'' row' rest' p' hev;split at he
 case h_2=>cases he
 rename_i r' rest2 cs' hs' hr' hrest2 hcs';simp only[Option.some.injEq,Prod.mk.injEq] at he;obtain⟨rfl,rfl,rfl⟩:=he;obtain rfl:=Nat.eq_of_beq_eq_true hs';obtain⟨ecs,ncs⟩:=no0_cells hcs;obtain⟨ecs',ncs'⟩:=no0_cells hcs';subst ecs;subst ecs';intro E w vs hH hN hv;obtain⟨l1,l2,l3⟩:=hH.live 0 _ rfl;obtain⟨e1,e2,e3,e4,e5,arr,aty,e6,e7,e8⟩:=(show ArrOk E w 0 ⟨false,ty,szW,1,row⟩ from l2)
 simp only at e1 e2 e3 e4 e7 e8;have hκ0:E.κ 0≠0:=by omega
 have hlen:(row 0).length=szW:=e3 0 Nat.zero_lt_one;have hle7:szW<=arr.size:=by
  have:=e7.le;have h2:1*szW<=E.κ 0*szW:=Nat.mul_le_mul_right _ e2;omega
 obtain⟨tl,htl⟩:∃tl,tl=arr.toList.drop sz':=⟨_,rfl⟩;have htlen:tl.length=arr.size-sz':=by rw[htl];simp
 have htget:∀j,tl[j]? =arr[sz'+j]? :=fun j=>by rw[htl,List.getElem?_drop];simp
 let X:Env:={E with κ:=fun _=>1,z:=fun _=>(sz',tl)}
 let En:=X.glue E no0 E.N
 have hbox:ArrOk En w 0 ⟨false,ty,sz',1,fun _=>(row 0).take sz'⟩:=by
  refine⟨rfl,Nat.le_refl _,fun i _=> ?_,fun i t _ ht=>e4 0 t Nat.zero_lt_one (List.mem_of_mem_take ht),fun h=>(by cases h),arr,aty,fun _=>e6 hκ0,⟨?_,fun j u hj=> ?_⟩,fun i j t hi hj=> ?_⟩
  ·show((row 0).take sz').length=sz';rw[List.length_take,hlen];omega
  ·show 1*sz'+tl.length<=_;omega
  ·show arr[1*sz'+j]? =_;rw[Nat.one_mul,←htget];exact hj
  ·have hi:i<1:=hi;obtain rfl:i=0:=by omega
   have hj:((row 0).take sz')[j]? =some t:=hj;rw[List.getElem?_take] at hj
   split at hj
   ·obtain⟨u,hu,hr⟩:=e8 0 j t Nat.zero_lt_one hj;refine⟨u,?_,rd_no0 (ncs t (List.mem_of_getElem? hj)) hr⟩
    show arr[0*sz'+j]? =_;rw[Nat.zero_mul] at hu ⊢;exact hu
   ·cases hj
 obtain⟨hHn,hbn⟩:=swap0 (X:=X) hH hrest rfl (ob2:=.arr false ty sz' 1 fun _=>(row 0).take sz') rfl l1 rfl hκ0 (fun _ h=>h) hbox
 have hvn:RdL En w as vs:=⟨hv.1,fun i t x hi hx=>by
  have hr:=hv.2 i t x hi hx;have ho:=List.all_eq_true.1 hoa t (List.mem_of_getElem? hi);unfold okA at ho;split at ho
  ·rename_i j;cases hr with
   |ref _ _ _ hL=>
    have:=Rd.ref (E:=En) (w:=w) 0 0 j l1;rw[Nat.zero_mul] at this ⊢;exact this
  ·split at ho
   ·rename_i t' ht;have:=renT_id no0_id ht;subst this;exact rd_no0 ht hr
   ·cases ho⟩
 have hI0:Inv ⟨w,XB E (some (.arr false ty szW 1 row)::rest),E.N,0,E,0⟩ En (some (.arr false ty sz' 1 fun _=>(row 0).take sz')::rest0) w:=
  ⟨hHn,hN,fun b hb=>.inl hb,fun k ob b hk hb=>.inr (by obtain⟨ob',g1,g2⟩:=hbn k ob b hk hb;exact⟨k,ob',g1,g2⟩),⟨rfl,rfl,rfl,Nat.le_refl _,fun _ _ _=>rfl,Nat.le_refl _⟩,⟨fun _ h=>h,fun k hk=>absurd hk (Nat.not_lt_zero k),fun _ _=>rfl,fun k _ hk=>absurd hk (Nat.not_lt_zero k)⟩⟩
 refine(effAt_ok hI0 hf hev hp hvn).mono fun e w' hh=> ?_
 obtain⟨v,E',rfl,hI,hst,hrd⟩:=hh;have hE0:E'.β 0=E.β 0:=hst.le.β 0 l1;have hE1:E'.κ 0=1:=hst.le.κ 0 l1;have hE2:E'.z 0=(sz',tl):=hst.le.z 0 l1;obtain⟨k1,k2,k3⟩:=hI.heap.live 0 _ rfl;obtain⟨f1,f2,f3,f4,f5,arr',aty',f6,f7,f8⟩:=(show ArrOk E' w' 0 ⟨cl',ty',sz',1,row'⟩ from by cases cl'<;>exact k2)
 simp only at f1 f2 f3 f4 f7 f8;rw[hE1,Nat.one_mul,hE2] at f7;obtain⟨f71,f72⟩:=f7;have f71:sz'+tl.length<=arr'.size:=f71;have hlen':(row' 0).length=sz':=f3 0 Nat.zero_lt_one;have hkeep:∀q u,sz'<=q->arr[q]? =some u->arr'[q]? =some u:=fun q u hq hu=>by
  have:=f72 (q-sz') u (by rw[htget,show sz'+(q-sz')=q by omega];exact hu)
  rwa [show sz'+(q-sz')=q by omega] at this
 have hbox':ArrOk (E.glue E' no0 E'.N) w' 0 ⟨false,ty',szW,1,fun _=>row' 0++(row 0).drop sz'⟩:=by
  refine⟨e1,e2,fun i _=> ?_,fun i t _ ht=> ?_,fun h=>(by cases h),arr',aty',fun _=> ?_,⟨?_,fun j u hj=> ?_⟩,fun i j t hi hj=> ?_⟩
  ·show(row' 0++(row 0).drop sz').length=szW;rw[List.length_append,List.length_drop,hlen,hlen'];omega
  ·rcases List.mem_append.1 ht with ht|ht
   ·exact f4 0 t Nat.zero_lt_one ht
   ·exact e4 0 t Nat.zero_lt_one (List.mem_of_mem_drop ht)
  ·have:=f6 (by omega)
   rwa [hE0] at this
  ·have:=e7.1;show E.κ 0*szW+(E.z 0).2.length<=_;omega
  ·have h2:1*szW<=E.κ 0*szW:=Nat.mul_le_mul_right _ e2;exact hkeep _ u (by show sz'<=E.κ 0*szW+j;omega) (e7.2 j u hj)
  ·have hi:i<1:=hi;obtain rfl:i=0:=by omega
   have hj:(row' 0++(row 0).drop sz')[j]? =some t:=hj;show ∃u,arr'[0*szW+j]? =some u/\_;rw[Nat.zero_mul,Nat.zero_add];rw[List.getElem?_append,hlen'] at hj
   split at hj
   ·obtain⟨u,hu,hr⟩:=f8 0 j t Nat.zero_lt_one hj;rw[Nat.zero_mul,Nat.zero_add] at hu;exact⟨u,hu,rd_no0 (ncs' t (List.mem_of_getElem? hj)) hr⟩
   ·rw[List.getElem?_drop,show sz'+(j-sz')=j by omega] at hj
    obtain⟨u,hu,hr⟩:=e8 0 j t Nat.zero_lt_one hj;rw[Nat.zero_mul,Nat.zero_add] at hu;have ht:=ncs t (List.mem_of_getElem? hj);exact⟨u,hkeep j u (by omega) hu,rd_no0 ht (hst.rd (rd_no0 ht hr))⟩
 obtain⟨hH2,hb2⟩:=swap0 (X:=E) hI.heap hrest2 (by cases cl'<;>rfl) (ob2:=.arr false ty' szW 1 fun _=>row' 0++(row 0).drop sz') rfl l1 hE0.symm (by omega) (fun v h=>hst.le.L2 0 v h) hbox'
 refine⟨v,E.glue E' no0 E'.N,rfl,⟨hH2,hI.nlt,hI.nnew,fun k ob b hk hb=> ?_,hI.fr,⟨hI.keep.N,fun k hk=>absurd hk (Nat.not_lt_zero k),hI.keep.same,fun k _ hk=>absurd hk (Nat.not_lt_zero k)⟩⟩,⟨⟨fun b hb=>hst.le.N b hb,fun k hk=> ?_,fun k hk=> ?_,fun k hk=> ?_,fun k hk=> ?_,fun k v hk=> ?_,fun k v a b hk=> ?_,fun k v a b hk=> ?_⟩,fun b hb=>hst.same b hb⟩,rd_no0 hr' hrd⟩
 ·obtain⟨ob',g1,g2⟩:=hb2 k ob b hk hb;exact hI.bnew k ob' b g1 g2
 ·cases k with
  |zero=>exact hk
  |succ k=>exact hst.le.L (k+1) hk
 ·cases k with
  |zero=>rfl
  |succ k=>exact hst.le.β (k+1) hk
 ·cases k with
  |zero=>rfl
  |succ k=>exact hst.le.κ (k+1) hk
 ·cases k with
  |zero=>rfl
  |succ k=>exact hst.le.z (k+1) hk
 ·cases k with
  |zero=>exact hk
  |succ k=>exact hst.le.L2 (k+1) v hk
 ·cases k with
  |zero=>rfl
  |succ k=>exact hst.le.b2 (k+1) v a b hk
 ·cases k with
  |zero=>rfl
  |succ k=>exact hst.le.c2 (k+1) v a b hk
end
end Go.SS
