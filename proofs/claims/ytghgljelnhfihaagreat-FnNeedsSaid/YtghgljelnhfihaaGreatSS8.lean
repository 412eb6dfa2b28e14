/- A calculus of symbolic states: operations that lay or write memory, 2. -/
import Derived.Test.YtghgljelnhfihaaGreatSS7
namespace Go.SS
open Go.RowKit
section
variable {c:Ctx} {E:Env} {H:Y1} {w w':World} {P:Program}

theorem Inv.writeO(h:Inv c E H w){k:Nat}{ob0:Ob}(hk:Z0 H k=some ob0)(ho:w'.os=w.os)(ht:w'.tape=w.tape)(hp:w'.output=w.output)(hs:w.heap.size<=w'.heap.size)
  (hw:∀b,b<w.heap.size->¬E6 E k ob0 b->w'.heap[b]? =w.heap[b]?) (ob:Ob) (hB:∀b,E6 E k ob b->E6 E k ob0 b) (hcur:∀v,E.L2 k v->∃v0 ty sz n row,ob= .fam v0 ty sz n row/\v<=v0) (hnew:Step E w E w'->m6 E w' k ob):
  Inv c E (H.set k (some ob)) w'/\Step E w E w':=by
 obtain⟨hL,hA,hN⟩:=h.heap.live k ob0 hk;have hklt:=J2 hk;have hstep:Step E w E w':=⟨Env.le.refl E,λb hb=>hw b (h.nlt b hb) (λe=>hN b e hb),λ_ h=>.inl h⟩
 refine⟨h.to ho ht hp hs hstep k (λm=>m=k) (λ_ h=>h) (λi o hi hne=> ?_) (λo hi=> ?_) (λb hb hn=>hw b hb (hn k ob0 rfl hk)) (λi hi=>by rw[B1];exact h.heap.lt i hi) h.heap.l2 (λo i v hi hv=> ?_),hstep⟩
 ·rw[U0 hklt,if_neg hne] at hi;exact⟨hi,hne⟩
 ·rw[U0 hklt,if_pos rfl] at hi;simp only[W8] at hi;subst hi;exact⟨hL,hnew hstep,λb hb=>.inr ⟨k,ob0,rfl,hk,hB b hb⟩⟩
 ·rw[U0 hklt] at hi;split at hi
  ·rename_i he;subst he;simp only[W8] at hi;subst hi;exact hcur v hv
  ·exact h.heap.cur i o v hi hv

theorem Inv.noL2(h:Inv c E H w){k:Nat}{ob:Ob}(hk:Z0 H k=some ob)(hi:ob.isArr=true)(v:Nat):¬E.L2 k v:=λhv=>by
 obtain⟨v0,ty,sz,n,row,rfl,_⟩:=h.heap.cur k ob v hk hv;cases hi

theorem Inv.write(h:Inv c E H w){k:Nat}{ob0:Ob}(hk:Z0 H k=some ob0)(hi0:ob0.isArr=true)(ho:w'.os=w.os)(ht:w'.tape=w.tape)(hp:w'.output=w.output)(hs:w.heap.size<=w'.heap.size)
  (hw:∀b,b<w.heap.size->b≠E.β k->w'.heap[b]? =w.heap[b]?) (hκ:E.κ k≠0) (ob:Ob) (cs:Array Value) (ty:TypeId) (hblk:w'.heap[E.β k]? =some (.cells cs ty (0,0)))
  (hz:ob.toArr.sz=(E.z k).1) (hcs:eE cs (E.κ k*(E.z k).1) (E.z k).2) (hn:ob.toArr.n<=E.κ k)
  (hl:∀i,i<ob.toArr.n->(ob.toArr.row i).length=ob.toArr.sz) (hone:∀i t,i<ob.toArr.n->t ∈ ob.toArr.row i->J7 t=true) (hcl:ob.toArr.cl=true->∀i t,i<ob.toArr.n->t ∈ ob.toArr.row i->W5 t=true)
  (hr:∀i j t,i<ob.toArr.n->(ob.toArr.row i)[j]? =some t->∃u,cs[i*ob.toArr.sz+j]? =some u/\Rd E w t u) (hia:ob.isArr=true:=by rfl):
  Inv c E (H.set k (some ob)) w'/\Step E w E w':=by
 refine h.writeO hk ho ht hp hs (λb hb hn=>hw b hb λe=>hn (.inl ⟨hκ,e⟩)) ob (λb hb=>.inl (hb.arr hia)) (λv hv=>absurd hv (h.noL2 hk hi0 v)) λhstep=>S9.ob ⟨hz.symm,hn,hl,hone,hcl,cs,ty,λ_=>hblk,by rw[hz];exact hcs,λi j t hi hj=> ?_⟩ hia
 obtain⟨u,hu,hrd⟩:=hr i j t hi hj;exact⟨u,hu,hstep.rd hrd⟩

theorem a1s(n:Int):(Instr.keyThatStays (.int .i64 n) (.int .i64 n)).run P w= .ok (.int .i64 n) w:=by
 unfold Instr.keyThatStays;rw[if_pos (by unfold Instr.sameBits;simp)]
 rfl

theorem b3X(h:Inv c E H w){t:TypeId}{m k x:T}{mv kv xv:Value}{H':Y1}(he:cN P H t m k x=some H')(hm:Rd E w m mv)(hk:Rd E w k kv)(hx:Rd E w x xv):
  ∃w',(Instr.mapUpdate t mv kv xv).run P w= .ok () w'/\Inv c E H' w'/\Step E w E w':=by
 unfold cN at he;split at he
 ·rename_i j n;split at he
  ·rename_i bo get hob;split at he
   ·rename_i v hb hv;simp only[W8] at he;subst he;rw[K5 hk];obtain⟨kt,et,hu,hku,hz0⟩:=a6G (w:=w) hb;clear hz0;obtain⟨hL,⟨hκ,es,clock,hblk,hi,hg⟩,hN⟩:=h.heap.live j _ hob;have hxv:xv=cZ bo v:=by
     unfold c1h at hv;split at hv
     ·cases bo
      ·simp only[W8] at hv;subst hv;exact K5 hx
      ·cases hv
     ·cases bo
      ·cases hv
      ·rename_i b;simp only[W8] at hv;subst hv;rw[z9 hx];cases b<;>rfl
     ·cases hv
    have hck:=rF (w:=w) hku false 9999 n;cases hm with
    |mpr _ _=>
     have fin:∀(es':Array MapEntry) (clock':Nat),b9m bo (λi=>cond (decide (i=n)) v (get i)) es'.toList->
       Inv c E (H.set j (some (.mp bo λi=>cond (decide (i=n)) v (get i)))) {w with heap:=w.heap.setIfInBounds (E.β j) (.map es' clock')}/\Step E w E {w with heap:=w.heap.setIfInBounds (E.β j) (.map es' clock')}:=by
      intro es' clock' hI;have hlt:E.β j<w.heap.size:=(j_p.1 hblk).1
      have ho:∀b,b≠E.β j->(w.heap.setIfInBounds (E.β j) (.map es' clock'))[b]? =w.heap[b]? :=λb hne=>by rw[Array.getElem?_setIfInBounds,if_neg (Ne.symm hne)]
      have hn:(w.heap.setIfInBounds (E.β j) (.map es' clock'))[E.β j]? =some (.map es' clock'):=by rw[Array.getElem?_setIfInBounds,if_pos rfl,if_pos hlt]
      exact h.writeO (w':={w with heap:=w.heap.setIfInBounds (E.β j) (.map es' clock')}) hob rfl rfl rfl (by simp) (λb _ hne=>ho b λe=>hne (.inl ⟨hκ,e⟩)) (.mp bo λi=>cond (decide (i=n)) v (get i)) (λb hb=>by
       rcases hb with hb|hb
       ·exact .inl hb
       ·exact(hb.not (by rintro v ty sz n row he;cases he)).elim) (λv hv=>by
       obtain⟨v0,ty,sz,n,row,he,_⟩:=h.heap.cur j _ v hob hv;cases he) λ_=>(⟨hκ,es',clock',hn,hI⟩:a7i E _ j bo _)
     have hmi:∀(l:List MapEntry),(∀e ∈ l,∃m,e.key= .int .i64 m)->(∀n',lk n' l=if n'=n then some xv else lk n' es.toList)->b9m bo (λi=>cond (decide (i=n)) v (get i)) l:=by
      intro l h1 h2;refine⟨h1,λn'=> ?_⟩
      rw[h2 n'];by_cases hn:n'=n
      ·rw[if_pos hn];simp[hn,hxv]
      ·rw[if_neg hn];have:=hg n';simp only[hn,decide_false,cond_false];exact this
     cases hl:lk n es.toList with
     |none=>
      have hf:=MapKept.run_findKey (w:=w) hku (qV es.toList 0 hi hl);refine⟨_,?_,fin (es.push {key:=.int .i64 n,val:=xv,born:=clock}) (clock+1) (hmi _ (λe he=> ?_) λn'=> ?_)⟩
      ·simp only[Instr.mapUpdate,H4,run_underlying hu,I1,MapKept.run_getObj_map hblk,hck,hf];exact MapKept.run_setObj_map _ hblk
      ·simp only[Array.toList_push,List.mem_append,List.mem_singleton] at he;rcases he with he|rfl
       ·exact hi e he
       ·exact⟨n,rfl⟩
      ·have key:∀l:List MapEntry,(∀e ∈ l,∃m,e.key= .int .i64 m)->lk n l=none->lk n' (l++[{key:=.int .i64 n,val:=xv,born:=clock}])=if n'=n then some xv else lk n' l:=by
        intro l;induction l with
        |nil=>intro _ _;simp[lk]
        |cons e l ih=>
         intro hi hn;obtain⟨m,hm⟩:=hi e (by simp)
         simp only[List.cons_append,lk,hm] at hn ⊢;split at hn
         ·cases hn
         ·rename_i hne;split
          ·rename_i he;subst he;rw[if_neg (Ne.symm hne)]
          ·exact ih (λe he=>hi e (by simp[he])) hn
       rw[Array.toList_push];exact key es.toList hi hl
     |some v0=>
      obtain⟨i,e,he,hek,_,hfn,hmod⟩:=qA es.toList 0 hi hl;obtain⟨g1,g2⟩:=hmod xv;have hf:=MapKept.run_findKey (w:=w) hku hfn;refine⟨_,?_,fin (es.modify i λe=>{e with key:=.int .i64 n,val:=xv}) clock (hmi _ (λe he=> ?_) λn'=> ?_)⟩
      ·have hei:es[i]? =some e:=by simpa using he
       simp only[Instr.mapUpdate,H4,run_underlying hu,I1,MapKept.run_getObj_map hblk,hck,hf,G9,hei,j8,hek,Option.getD_some,a1s];exact MapKept.run_setObj_map _ hblk
      ·rw[Array.toList_modify] at he;exact g1 e he
      ·rw[Array.toList_modify];exact g2 n'
   ·cases he
  ·cases he
 ·cases he

theorem a9T(h:Inv c E H w){t:TypeId}{m k x:T}{mv kv xv:Value}{H':Y1}{side:Option Prop}(he:qB P H t m k x=some (H',side))(hs:side.getD True)(hm:Rd E w m mv)(hk:Rd E w k kv)(hx:Rd E w x xv):
  ∃w',(Instr.mapUpdate t mv kv xv).run P w= .ok () w'/\Inv c E H' w'/\Step E w E w':=by
 unfold qB at he;split at he
 ·rename_i j a b v;split at he
  ·rename_i get hob;split at he
   ·rename_i hb;simp only[W8,T5] at he;obtain⟨rfl,rfl⟩:=he;obtain⟨ra,rb⟩:=hs;obtain⟨kt,et,hu,K,hp,hk',_⟩:=a56 (w:=w) hb;obtain⟨hL,⟨hκ,es,clock,hblk,hent,hex,hnd⟩,hN⟩:=h.heap.live j _ hob;obtain⟨l,hl⟩:=rB hp hk' ra rb;have hkv:kv=x8 a b:=by
     cases hk with
     |agg _ vs hlen ht=>
      obtain⟨v0,v1,rfl⟩:∃v0 v1,vs= #[v0,v1]:=by
       match vs,hlen with
       |⟨[v0,v1]⟩,_=>exact⟨v0,v1,rfl⟩
      rw[K5 (ht 0 _ v0 rfl rfl),K5 (ht 1 _ v1 rfl rfl)];rfl
    subst hkv;rw[z9 hx];have hall:∀e ∈ es.toList,∃l,keyOf P kt e.key=some l:=λe he=>by
     obtain⟨a',b',r1,r2,hke,_⟩:=hent e he;rw[hke];exact rB hp hk' r1 r2
    cases hm with
    |mpr _ _=>
     have fin:∀(es':Array MapEntry) (clock':Nat),(∀e ∈ es'.toList,∃a1 b1,W7 .i64 a1/\W7 .i64 b1/\e.key=x8 a1 b1/\e.val= .bool (cond (decide (a1=a/\b1=b)) v (get a1 b1)))->
       (∀a1 b1,cond (decide (a1=a/\b1=b)) v (get a1 b1)=true->∃e ∈ es'.toList,e.key=x8 a1 b1)->(es'.toList.map (·.key)).Nodup->
       Inv c E (H.set j (some (.mp2 λa' b'=>cond (decide (a'=a/\b'=b)) v (get a' b')))) {w with heap:=w.heap.setIfInBounds (E.β j) (.map es' clock')}/\Step E w E {w with heap:=w.heap.setIfInBounds (E.β j) (.map es' clock')}:=by
      intro es' clock' g1 g2 g3;have hlt:E.β j<w.heap.size:=(j_p.1 hblk).1
      have ho:∀b,b≠E.β j->(w.heap.setIfInBounds (E.β j) (.map es' clock'))[b]? =w.heap[b]? :=λb hne=>by rw[Array.getElem?_setIfInBounds,if_neg (Ne.symm hne)]
      have hn:(w.heap.setIfInBounds (E.β j) (.map es' clock'))[E.β j]? =some (.map es' clock'):=by rw[Array.getElem?_setIfInBounds,if_pos rfl,if_pos hlt]
      exact h.writeO (w':={w with heap:=w.heap.setIfInBounds (E.β j) (.map es' clock')}) hob rfl rfl rfl (by simp) (λb _ hne=>ho b λe=>hne (.inl ⟨hκ,e⟩)) (.mp2 λa' b'=>cond (decide (a'=a/\b'=b)) v (get a' b')) (λb hb=>by
       rcases hb with hb|hb
       ·exact .inl hb
       ·exact(hb.not (by rintro v ty sz n row he;cases he)).elim) (λv hv=>by
       obtain⟨v0,ty,sz,n,row,he,_⟩:=h.heap.cur j _ v hob hv;cases he) λ_=>(⟨hκ,es',clock',hn,g1,g2,g3⟩:bX E _ j _)
     rcases K.find w hl es.toList hall with⟨h1,h2⟩|⟨i,e,h1,h2,h3⟩
     ·refine⟨_,?_,fin (es.push {key:=x8 a b,val:=.bool v,born:=clock}) (clock+1) (λe he=> ?_) (λa1 b1 hg=> ?_) ?_⟩
      ·simp only[Instr.mapUpdate,H4,run_underlying hu,I1,MapKept.run_getObj_map hblk,K.check w _ hl,h1];exact MapKept.run_setObj_map _ hblk
      ·simp only[Array.toList_push,List.mem_append,List.mem_singleton] at he;rcases he with he|rfl
       ·obtain⟨a1,b1,r1,r2,r3,r4⟩:=hent e he;refine⟨a1,b1,r1,r2,r3,?_⟩
        rw[uV (λhh=>h2 e he (by rw[r3,hh.1,hh.2]))]
        exact r4
       ·exact⟨a,b,ra,rb,rfl,by simp⟩
      ·simp only[Array.toList_push,List.mem_append,List.mem_singleton];by_cases hab:a1=a/\b1=b
       ·exact⟨_,.inr rfl,by rw[hab.1,hab.2]⟩
       ·rw[uV hab] at hg;obtain⟨e,he,hke⟩:=hex a1 b1 hg;exact⟨e,.inl he,hke⟩
      ·rw[Array.toList_push,List.map_append,List.nodup_append];refine⟨hnd,by simp,λy hy z hz=> ?_⟩
       obtain⟨e,he,rfl⟩:=List.mem_map.1 hy;simp only[List.map_cons,List.map_nil,List.mem_singleton] at hz;rw[hz];exact h2 e he
     ·have hei:es[i]? =some e:=by simpa using h2
      have hmod:∀p,(es.toList.modify i λe=>{e with key:=x8 a b,val:=Value.bool v})[p]? =if i=p then some {e with key:=x8 a b,val:=.bool v} else es.toList[p]? :=λp=>by
       rw[List.getElem?_modify]
       by_cases hip:i=p
       ·subst hip;rw[h2];simp
       ·simp[hip]
      have hkeys:(es.toList.modify i λe=>{e with key:=x8 a b,val:=Value.bool v}).map (·.key)=es.toList.map (·.key):=by
       refine List.ext_getElem? λp=> ?_
       rw[pN,pN,hmod]
       by_cases hip:i=p
       ·subst hip;rw[if_pos rfl,h2];simp[h3]
       ·rw[if_neg hip]
      refine⟨_,?_,fin (es.modify i λe=>{e with key:=x8 a b,val:=.bool v}) clock (λe' he'=> ?_) (λa1 b1 hg=> ?_) (by rw[Array.toList_modify,hkeys];exact hnd)⟩
      ·simp only[Instr.mapUpdate,H4,run_underlying hu,I1,MapKept.run_getObj_map hblk,K.check w _ hl,h1,hei,j8,h3,Option.getD_some,K.stays w hl];exact MapKept.run_setObj_map _ hblk
      ·rw[Array.toList_modify] at he';obtain⟨p,hp'⟩:=List.mem_iff_getElem?.1 he';rw[hmod] at hp';by_cases hip:i=p
       ·rw[if_pos hip] at hp';simp only[W8] at hp';subst hp';exact⟨a,b,ra,rb,rfl,by simp⟩
       ·rw[if_neg hip] at hp';obtain⟨a1,b1,r1,r2,r3,r4⟩:=hent e' (B5 hp');refine⟨a1,b1,r1,r2,r3,?_⟩
        rw[uV (λhh=>hip ?_)]
        ·exact r4
        ·have q1:(es.toList.map (·.key))[i]? =some (x8 a b):=by rw[pN,h2];simp[h3]
         have q2:(es.toList.map (·.key))[p]? =some (x8 a b):=by rw[pN,hp'];simp[r3,hh.1,hh.2]
         obtain⟨l1,e1⟩:=z5.1 q1
         obtain⟨l2,e2⟩:=z5.1 q2
         have hpw:=List.pairwise_iff_getElem.1 hnd;rcases Nat.lt_trichotomy i p with hlt|heq|hgt
         ·exact absurd (e1.trans e2.symm) (hpw i p l1 l2 hlt)
         ·exact heq
         ·exact absurd (e2.trans e1.symm) (hpw p i l2 l1 hgt)
      ·rw[Array.toList_modify];have hk2:∃y ∈ es.toList.map (·.key),y=x8 a1 b1:=by
        by_cases hab:a1=a/\b1=b
        ·exact⟨_,List.mem_map.2 ⟨e,B5 h2,rfl⟩,by rw[h3,hab.1,hab.2]⟩
        ·rw[uV hab] at hg;obtain⟨e',he',hke⟩:=hex a1 b1 hg;exact⟨_,List.mem_map.2 ⟨e',he',rfl⟩,hke⟩
       obtain⟨y,hy,rfl⟩:=hk2;rw[←hkeys] at hy;obtain⟨e',he',hke⟩:=List.mem_map.1 hy;exact⟨e',he',hke⟩
   ·cases he
  ·cases he
 ·cases he

theorem Inv.drop(h:Inv c E H w)(k:Nat):Inv c E (H.set k none) w:=by
 have key:∀i o,Z0 (H.set k none) i=some o->Z0 H i=some o/\i≠k:=by
  intro i o hi;by_cases hk:k<H.length
  ·rw[U0 hk] at hi;split at hi
   ·cases hi
   ·rename_i hne;exact⟨hi,hne⟩
  ·rw[List.set_eq_of_length_le (by omega)] at hi
   exact⟨hi,λe=>by have:=J2 hi;omega⟩
 exact⟨⟨λi ob hi=>h.heap.live i ob (key i ob hi).1,λi i' o o' b hi hi'=>h.heap.inj i i' o o' b (key i o hi).1 (key i' o' hi').1,λi hi=>by rw[B1];exact h.heap.lt i hi,h.heap.l2,λi ob v hi=>h.heap.cur i ob v (key i ob hi).1⟩,
  h.nlt,h.nnew,λi ob b hi=>h.bnew i ob b (key i ob hi).1,h.fr,h.keep⟩

theorem mY{x:T}{v:Value}(hx:Rd E w x v)(h1:J7 x=true):v.oneCell'=true:=by
 cases hx with
 |v=>cases v<;>first|rfl|(simp[J7] at h1)
 |agg=>simp[J7] at h1
 |tup=>simp[J7] at h1
 |und=>simp[J7] at h1
 |_=>rfl

theorem m9(P:Program)(w:World)(b o:Nat)(ty:TypeId)(cs:Array Value)(news:List Value)(hb:w.heap[b]? =some (.cells cs ty (0,0)))(hfit:o+news.length<=cs.size)(h1:∀v ∈ news,v.oneCell'=true):
  ∃w',(storeCells ⟨b,o,none⟩ news).run P w= .ok () w'/\w'.os=w.os/\w'.tape=w.tape/\w'.output=w.output/\w'.heap.size=w.heap.size/\(∀k,k≠b->w'.heap[k]? =w.heap[k]?)/\
   ∃cs',w'.heap[b]? =some (.cells cs' ty (0,0))/\cs'.size=cs.size/\(∀i,i<o∨o+news.length<=i->cs'[i]? =cs[i]?)/\∀i,i<news.length->cs'[o+i]? =news[i]? :=by
 have hst:=run_storeCells_at P b o ty news 0 cs w hb (by simpa using hfit) h1
 refine⟨_,hst,rfl,rfl,rfl,by simp[World.setRow],λk hk=>setRow_other w b k _ hk,_,setRow_heap w b cs _ ty _ hb,?_,λi hi=> ?_,λi hi=> ?_⟩
 ·simp;omega
 ·simp only[Nat.add_zero,List.getElem?_toArray,List.getElem?_append,K6,List.length_take,Array.length_toList,List.getElem?_take,List.getElem?_drop]
  rw[Nat.min_eq_left (by omega)]
  rcases hi with hi|hi
  ·rw[if_pos (by omega),if_pos hi,if_pos hi]
   simp
  ·rw[if_neg (by omega)]
   simp only[Array.getElem?_toList]
   congr 1
   omega
 ·simp only[Nat.add_zero,List.getElem?_toArray,List.getElem?_append,K6,List.length_take,Array.length_toList,List.getElem?_take,List.getElem?_drop]
  rw[Nat.min_eq_left (by omega)]
  rw[if_pos (by omega),if_neg (by omega)]
  congr 1
  omega


theorem a3u{i r sz j m j':Nat}(hr:r≠i)(hj:j+m<=sz)(hj':j'<sz):r*sz+j'<i*sz+j∨i*sz+j+m<=r*sz+j':=by
 rcases Nat.lt_or_gt_of_ne hr with h|h
 ·left
  have:(r+1)*sz<=i*sz:=iN _ h;rw[Nat.add_mul] at this;omega
 ·right
  have:(i+1)*sz<=r*sz:=iN _ h;rw[Nat.add_mul] at this;omega

theorem a2t{i n sz j m κ:Nat}(hi:i<n)(hn:n<=κ)(hj:j+m<=sz):i*sz+j+m<=κ*sz:=by
 have:(i+1)*sz<=κ*sz:=iN _ (by omega)
 rw[Nat.add_mul] at this;omega

theorem a0i{m:Int}(h:W7 .u8 m):((P2 m).toNat:Int)=m:=by
 obtain⟨h1,h2⟩:=h;have h1':0<=m:=h1;have h2':m<=255:=h2;unfold P2;rw[UInt8.toNat_ofNat'];omega

theorem b9z(b:Bool)(x y:T):mrg b x y=match b with|true=>x|false=>y:=by
 unfold mrg;split
 ·split
  ·rename_i h;obtain rfl:=C7 h;cases b<;>rfl
  ·cases b<;>rfl
 ·cases b<;>rfl
 ·cases b<;>rfl
 ·split
  ·rename_i h1 h2;obtain rfl:=C7 h1;obtain rfl:=C7 h2;cases b<;>rfl
  ·cases b<;>rfl
 ·cases b<;>rfl

theorem b4B(b:Bool):∀(xs os:List T),xs.length<=os.length->b25 b xs os=match b with|true=>xs++os.drop xs.length|false=>os:=by
 intro xs;induction xs with
 |nil=>intro os _;cases b<;>cases os<;>simp[b25]
 |cons x xs ih=>
  intro os h;cases os with
  |nil=>simp at h
  |cons o os=>
   simp only[b25,b9z,ih os (by simpa using h)]
   cases b<;>simp

theorem b5J(b:Bool):∀(j:Nat) (xs os:List T),j+xs.length<=os.length->b0u b j xs os=match b with|true=>os.take j++xs++os.drop (j+xs.length)|false=>os:=by
 intro j;induction j with
 |zero=>intro xs os h;simp only[b0u,b4B b xs os (by omega)];cases b<;>simp
 |succ j ih=>
  intro xs os h;cases os with
  |nil=>simp at h
  |cons o os=>
   simp only[b0u,ih xs os (by simp at h;omega)]
   cases b
   ·rfl
   ·simp only[List.take_succ_cons,List.cons_append];rw[show j+1+xs.length=(j+xs.length)+1 by omega,List.drop_succ_cons]

theorem o8{row:Nat->List T}{i j k:Nat}{cs:List T}(h:j+cs.length<=(row k).length):setRow row i j cs k=match Nat.beq k i with|true=>(row k).take j++cs++(row k).drop (j+cs.length)|false=>row k:=by
 unfold setRow;rw[b5J _ _ _ _ h]

theorem xD{k:Nat}{A:Arr}(hA:S9 E w k A){i j:Nat}(hi:i<A.n){xs:List T}{vs:List Value}(hj:j+xs.length<=A.sz)(hone:∀t ∈ xs,J7 t=true)(hlen:vs.length=xs.length)
  (hxt:∀(m:Nat) (t:T) (v:Value),xs[m]? =some t->vs[m]? =some v->Rd E w t v):
  ∃w',(storeCells ⟨E.β k,i*(E.z k).1+j,none⟩ vs).run P w= .ok () w'/\w'.os=w.os/\w'.tape=w.tape/\w'.output=w.output/\w'.heap.size=w.heap.size/\(∀b,b≠E.β k->w'.heap[b]? =w.heap[b]?)/\
   ∃cs ty,w'.heap[E.β k]? =some (.cells cs ty (0,0))/\eE cs (E.κ k*A.sz) (E.z k).2/\(∀r,r<A.n->(setRow A.row i j xs r).length=A.sz)/\(∀r t,r<A.n->t ∈ setRow A.row i j xs r->J7 t=true)/\
    (A.cl=true->(∀t ∈ xs,W5 t=true)->∀r t,r<A.n->t ∈ setRow A.row i j xs r->W5 t=true)/\
    ∀r q t,r<A.n->(setRow A.row i j xs r)[q]? =some t->∃u,cs[r*A.sz+q]? =some u/\Rd E w t u/\((r=i/\j<=q/\q<j+xs.length/\xs[q-j]? =some t)∨(¬ (r=i/\j<=q/\q<j+xs.length)/\(A.row r)[q]? =some t)):=by
 obtain⟨hz,hn,hl,hold1,hcl,cs,ty',hb,hcs,hr⟩:=hA;have hb:=hb (by omega)
 have hsr:∀r,r<A.n->setRow A.row i j xs r=match Nat.beq r i with|true=>(A.row r).take j++xs++(A.row r).drop (j+xs.length)|false=>A.row r:=λr hr=>o8 (by rw[hl r hr];exact hj)
 have hones:∀v ∈ vs,v.oneCell'=true:=by
  intro v hv;obtain⟨m,hm,rfl⟩:=List.mem_iff_getElem.1 hv;have h1:m<xs.length:=by omega
  exact mY (hxt m _ _ (K7 h1) (K7 hm)) (hone _ (List.getElem_mem h1))
 obtain⟨w',hst,ho,ht,hp,hsize,hoth,cs',hb',hcs',hout,hin⟩:=m9 P w (E.β k) (i*(E.z k).1+j) ty' cs vs hb (Nat.le_trans (by rw[hlen,hz];exact a2t hi hn hj) hcs.le) hones
 refine⟨w',hst,ho,ht,hp,hsize,hoth,cs',ty',hb',hcs.keep hcs' λq hq=>hout q (.inr (by rw[hlen,hz];exact Nat.le_trans (a2t hi hn hj) hq)),λr hr'=> ?_,λr t hr' ht=> ?_,λhcl' hxc r t hr' ht=> ?_,λr j' t hr' hj'=> ?_⟩
 ·rw[hsr r hr'];split
  ·rename_i hbeq;obtain rfl:=G3 hbeq;simp only[K6,List.length_take,List.length_drop,hl r hi];omega
  ·exact hl r hr'
 ·rw[hsr r hr'] at ht;split at ht
  ·rename_i hbeq;obtain rfl:=G3 hbeq;simp only[List.mem_append] at ht;rcases ht with(ht|ht)|ht
   ·exact hold1 r t hi (List.mem_of_mem_take ht)
   ·exact hone t ht
   ·exact hold1 r t hi (List.mem_of_mem_drop ht)
  ·exact hold1 r t hr' ht
 ·rw[hsr r hr'] at ht;split at ht
  ·rename_i hbeq;obtain rfl:=G3 hbeq;simp only[List.mem_append] at ht;rcases ht with(ht|ht)|ht
   ·exact hcl hcl' r t hi (List.mem_of_mem_take ht)
   ·exact hxc t ht
   ·exact hcl hcl' r t hi (List.mem_of_mem_drop ht)
  ·exact hcl hcl' r t hr' ht
 ·rw[hsr r hr'] at hj';split at hj'
  ·rename_i hbeq;obtain rfl:=G3 hbeq;have hrl:=hl r hi;simp only[List.getElem?_append,K6,List.length_take,List.getElem?_take,List.getElem?_drop] at hj'
   rw[Nat.min_eq_left (by omega)] at hj'
   by_cases h1:j'<j+xs.length
   ·rw[if_pos h1] at hj';by_cases h2:j'<j
    ·rw[if_pos h2,if_pos h2] at hj';obtain⟨u,hu,hrd⟩:=hr r j' t hi hj';exact⟨u,by rw[hout _ (.inl (by rw[hz];omega))];exact hu,hrd,.inr ⟨by omega,hj'⟩⟩
    ·rw[if_neg h2] at hj';have h3:j'-j<vs.length:=by rw[hlen];omega
     have h4:=hin (j'-j) h3;rw[K7 h3] at h4
     exact⟨_,by rw[←hz,show r*(E.z k).1+j'=r*(E.z k).1+j+(j'-j) by omega];exact h4,hxt _ _ _ hj' (K7 h3),.inl ⟨rfl,by omega,h1,hj'⟩⟩
   ·rw[if_neg h1] at hj';have hj'':(A.row r)[j']? =some t:=by
     rw[←hj'];congr 1
     omega
    obtain⟨u,hu,hrd⟩:=hr r j' t hi hj'';exact⟨u,by rw[hout _ (.inr (by rw[hlen,hz];omega))];exact hu,hrd,.inr ⟨by omega,hj''⟩⟩
  ·rename_i hbeq;have hne:r≠i:=Nat.ne_of_beq_eq_false hbeq;obtain⟨u,hu,hrd⟩:=hr r j' t hr' hj';have hj'':j'<A.sz:=by
    have:=(z5.1 hj').1
    rw[hl r hr'] at this;exact this
   exact⟨u,by rw[hout _ (by rw[hlen,hz];exact a3u hne hj hj'')];exact hu,hrd,.inr ⟨λh=>hne h.1,hj'⟩⟩

def uJ(k v i j:Nat):T->T
 | .own _ _ n _=>.posl k v i j n
 |t=>t

theorem a99(k v i:Nat):∀(l:List T) (j q:Nat),(fP k v i j l)[q]? =(l[q]?).map (uJ k v i (j+q)):=by
 intro l;induction l with
 |nil=>intro j q;simp[fP]
 |cons t l ih=>
  intro j q;cases q with
  |zero=>cases t<;>rfl
  |succ q=>
   have:=ih (j+1) q;rw[show j+1+q=j+(q+1) by omega] at this
   cases t<;>exact this

theorem M4(k v i q:Nat)(row:Nat->List T):(yB k v row i)[q]? =((row i)[q]?).map (uJ k v i q):=by
 unfold yB;rw[a99,G9]

theorem P0(k v i:Nat)(row:Nat->List T):(yB k v row i).length=(row i).length:=by
 unfold yB;generalize row i=l;generalize 0=j;induction l generalizing j with
 |nil=>rfl
 |cons t l ih=>cases t<;>simp[fP,ih]

theorem N4{t:T}(h:closedOne t=true):W5 t=true/\J7 t=true:=by simpa[closedOne] using h

theorem kK{t:T}(h:b1e t=true):(∃ty sz n row,t= .own ty sz n row)∨(closedOne t=true/\a51 t=false):=by
 cases t<;>simp_all [b1e,a51]

theorem O3{k v i j:Nat}{t:T}(h:closedOne t=true):uJ k v i j t=t:=by
 cases t<;>first|rfl|(simp[closedOne,W5] at h)

theorem s9{k v:Nat}{ty:TypeId}{sz n:Nat}{row:Nat->List T}(hL2:E.L2 k v)(hz:(E.z k).1=sz)(hn:n<=E.κ k)(cs:Array Value)(tyb:TypeId)(hblk:E.κ k≠0->w.heap[E.β k]? =some (.cells cs tyb (0,0)))
  (hcs:eE cs (E.κ k*sz) (E.z k).2) (hl:∀r,r<n->(row r).length=sz)
  (hcell:∀r q t,r<n->(row r)[q]? =some t->∃u,cs[r*sz+q]? =some u/\((closedOne t=true/\Rd E w t u)∨∃oty osz on orow,t= .own oty osz on orow/\Rd E w (.posl k v r q on) u/\S9 (E.sub k v r q osz) w 0 ⟨true,oty,osz,on,orow⟩/\(E.c2 k v r q≠0->E.κ k≠0->E.b2 k v r q≠E.β k)))
  (hinj:∀i j i' j' oty osz on orow oty' osz' on' orow',i<n->i'<n->(row i)[j]? =some (.own oty osz on orow)->(row i')[j']? =some (.own oty' osz' on' orow')->E.c2 k v i j≠0->E.c2 k v i' j'≠0->E.b2 k v i j=E.b2 k v i' j'->i=i'/\j=j'):
  FamOk E w k v ty sz n row:=by
 have hfam:∀i t,i<n->t ∈ row i->b1e t=true:=λi t hi ht=>by
  obtain⟨q,hq⟩:=List.getElem?_of_mem ht
  obtain⟨u,_,h|⟨oty,osz,on,orow,rfl,_⟩⟩:=hcell i q t hi hq
  ·simp[b1e,h.1]
  ·rfl
 refine⟨hL2,⟨hz,hn,λi hi=> ?_,λi t hi ht=> ?_,λh=>(by cases h),cs,tyb,hblk,hcs,λi j t hi hj=> ?_⟩,hfam,λi j oty osz on orow hi hj=> ?_,hinj⟩
 ·simp only[P0];exact hl i hi
 ·obtain⟨q,hq⟩:=List.getElem?_of_mem ht
  simp only at hq;rw[M4,I3] at hq;obtain⟨t0,h0,rfl⟩:=hq;rcases kK (hfam i t0 hi (B5 h0)) with⟨_,_,_,_,rfl⟩|⟨h1,_⟩
  ·rfl
  ·rw[O3 h1];exact(N4 h1).2
 ·simp only at hj;rw[M4,I3] at hj;obtain⟨t0,h0,rfl⟩:=hj;obtain⟨u,hu,h|⟨oty,osz,on,orow,rfl,h1,_⟩⟩:=hcell i j t0 hi h0
  ·exact⟨u,hu,by rw[O3 h.1];exact h.2⟩
  ·exact⟨u,hu,h1⟩
 ·obtain⟨u,hu,h|⟨oty',osz',on',orow',he,_,h2,h3⟩⟩:=hcell i j _ hi hj
  ·simp[closedOne,W5] at h
  ·cases he;exact⟨h2,h3⟩

theorem FamOk.cell{k v:Nat}{ty:TypeId}{sz n:Nat}{row:Nat->List T}(h:FamOk E w k v ty sz n row){i j:Nat}{t:T}(hi:i<n)(hj:(row i)[j]? =some t):
  (closedOne t=true)∨∃oty osz on orow,t= .own oty osz on orow:=by
 rcases kK (h.fam i t hi (B5 hj)) with⟨a,b,c,d,rfl⟩|⟨h1,_⟩
 ·exact .inr ⟨a,b,c,d,rfl⟩
 ·exact .inl h1

abbrev b8l:=Nat->Nat->(Nat×Nat) ⊕ Nat

def sZ(E:Env)(k v:Nat):(Nat×Nat) ⊕ Nat->Nat
 | .inl p=>E.b2 k v p.1 p.2
 | .inr m=>E.β m
def nZ(E:Env)(k v:Nat):(Nat×Nat) ⊕ Nat->Nat
 | .inl p=>E.c2 k v p.1 p.2
 | .inr m=>E.κ m

def a6g(E:Env)(w:World)(H:Y1)(k v n0:Nat)(V7:Nat->List T)(osz on:Nat)(orow:Nat->List T)(u:Value):(Nat×Nat) ⊕ Nat->Prop
 | .inl p=>p.1<n0/\(∃oty,(V7 p.1)[p.2]? =some (.own oty osz on orow))/\Rd E w (.posl k v p.1 p.2 on) u
 | .inr m=>m≠k/\(∃oty N,Z0 H m=some (.arr true oty osz N orow)/\on<=N)/\Rd E w (.osl m 0 on) u

theorem a06{E':Env}(hH:HeapOk E w H)(hst:Step E w E' w'){k v:Nat}{ty0:TypeId}{sz0 n0:Nat}{V7:Nat->List T}(hk:Z0 H k=some (.fam v ty0 sz0 n0 V7)){K V:Nat}{ty:TypeId}{sz n:Nat}{row:Nat->List T}(S:b8l)
  (hL2:E'.L2 K V) (hb2:∀r q,E'.b2 K V r q=sZ E k v (S r q)) (hc2:∀r q,E'.c2 K V r q=nZ E k v (S r q))
  (hz:(E'.z K).1=sz) (hn:n<=E'.κ K) (cs:Array Value) (tyb:TypeId) (hblk:E'.κ K≠0->w'.heap[E'.β K]? =some (.cells cs tyb (0,0))) (hcs:eE cs (E'.κ K*sz) (E'.z K).2) (hl:∀r,r<n->(row r).length=sz)
  (hcell:∀r q t,r<n->(row r)[q]? =some t->∃u,cs[r*sz+q]? =some u/\((closedOne t=true/\Rd E w t u)∨∃oty osz on orow,t= .own oty osz on orow/\a6g E w H k v n0 V7 osz on orow u (S r q)))
  (hS:∀i j i' j' oty osz on orow oty' osz' on' orow',i<n->i'<n->(row i)[j]? =some (.own oty osz on orow)->(row i')[j']? =some (.own oty' osz' on' orow')->S i j=S i' j'->i=i'/\j=j')
  (hkeep:∀b,((∃r q,b=E.b2 k v r q/\E.c2 k v r q≠0/\a5u E k (.fam v ty0 sz0 n0 V7) b)∨∃m o,m≠k/\Z0 H m=some o/\E6 E m o b)->w'.heap[b]? =w.heap[b]?)
  (hap:∀b,((∃r q,b=E.b2 k v r q/\E.c2 k v r q≠0/\a5u E k (.fam v ty0 sz0 n0 V7) b)∨∃m o,m≠k/\Z0 H m=some o/\E6 E m o b)->E'.κ K≠0->b≠E'.β K):
  FamOk E' w' K V ty sz n row:=by
 obtain⟨hL,hF,_⟩:=hH.live k _ hk;have hF:FamOk E w k v ty0 sz0 n0 V7:=hF;have src:∀{osz on:Nat} {orow:Nat->List T} {u:Value} {x:(Nat×Nat) ⊕ Nat},a6g E w H k v n0 V7 osz on orow u x->nZ E k v x≠0->(∃r q,sZ E k v x=E.b2 k v r q/\E.c2 k v r q≠0/\a5u E k (.fam v ty0 sz0 n0 V7) (sZ E k v x))∨∃m o,m≠k/\Z0 H m=some o/\E6 E m o (sZ E k v x):=by
  intro osz on orow u x hx hc;cases x with
  |inl p=>
   obtain⟨h1,⟨oty,h2⟩,_⟩:=hx;exact .inl ⟨p.1,p.2,rfl,hc,v,ty0,sz0,n0,V7,p.1,p.2,oty,osz,on,orow,rfl,h1,h2,hc,rfl⟩
  |inr m=>
   obtain⟨h1,⟨oty,N,h2,_⟩,_⟩:=hx;exact .inr ⟨m,_,h1,h2,.inl ⟨hc,rfl⟩⟩
 refine s9 hL2 hz hn cs tyb hblk hcs hl (λr q t hr hq=> ?_) (λi j i' j' oty osz on orow oty' osz' on' orow' hi hi' hj hj' hc hc' he=> ?_)
 ·obtain⟨u,hu,h|⟨oty,osz,on,orow,rfl,hs⟩⟩:=hcell r q t hr hq
  ·exact⟨u,hu,.inl ⟨h.1,hst.rd h.2⟩⟩
  ·refine⟨u,hu,.inr ⟨oty,osz,on,orow,rfl,?_,?_,λhc hκ=>by rw[hb2];rw[hc2] at hc;exact hap _ (src hs hc) hκ⟩⟩
   ·cases hx:S r q with
    |inl p=>
     rw[hx] at hs;obtain⟨_,_,hrd⟩:=hs;cases hrd with
     |posl _ _ _ _ _ a hL hn ha=>
      have:=Rd.posl (E:=E') (w:=w') K V r q on a hL2 (by rw[hc2,hx];exact hn) (by rw[hc2,hb2,hx];exact ha)
      rw[hc2,hx] at this;exact this
    |inr m=>
     rw[hx] at hs;obtain⟨_,_,hrd⟩:=hs;cases hrd with
     |osl _ _ _ o a hL hn ho ha=>
      have:=Rd.posl (E:=E') (w:=w') K V r q on a hL2 (by rw[hc2,hx];simp only[nZ];omega) (by rw[hc2,hb2,hx];intro hc;rw[ha hc,ho (.inr rfl),Nat.zero_mul];rfl)
      rw[hc2,hx] at this;exact this
   ·have hkp:nZ E k v (S r q)≠0->w'.heap[sZ E k v (S r q)]? =w.heap[sZ E k v (S r q)]? :=λhc=>hkeep _ (src hs hc)
    cases hx:S r q with
    |inl p=>
     rw[hx] at hs hkp;obtain⟨h1,⟨oty',h2⟩,_⟩:=hs;have h3:=(hF.own p.1 p.2 _ _ _ _ h1 h2).1;exact h3.closed (k':=0) (E':=E'.sub K V r q osz) rfl (λb hb=>hst.le.N b hb) (λb hb=>hst.same b hb) ((hb2 r q).trans (by rw[hx];rfl)) ((hc2 r q).trans (by rw[hx];rfl)) rfl hkp
    |inr m=>
     rw[hx] at hs hkp;obtain⟨h1,⟨oty',N,h2,h4⟩,_⟩:=hs;have h3:S9 E w m ⟨true,oty',osz,N,orow⟩:=(hH.live m _ h2).2.1;have h5:S9 E w m ⟨true,oty,osz,on,orow⟩:=by
      obtain⟨e1,e2,e3,e4,e5,cs,ty,e6,e7,e8⟩:=h3;exact⟨e1,Nat.le_trans h4 e2,λi hi=>e3 i (wM hi h4),λi t hi=>e4 i t (wM hi h4),λhc i t hi=>e5 hc i t (wM hi h4),cs,ty,e6,e7,λi j t hi=>e8 i j t (wM hi h4)⟩
     exact h5.closedN (k':=0) (E':=E'.sub K V r q osz) rfl (λb hb=>hst.le.N b hb) (λb hb=>hst.same b hb) ((hb2 r q).trans (by rw[hx];rfl)) ((hc2 r q).trans (by rw[hx];rfl)) rfl (λ_ _ h=>h.any) hkp
 ·rw[hc2] at hc hc';rw[hb2,hb2] at he;refine hS i j i' j' oty osz on orow oty' osz' on' orow' hi hi' hj hj' ?_
  have own:∀i j oty osz on orow,i<n->(row i)[j]? =some (T.own oty osz on orow)->∃u,a6g E w H k v n0 V7 osz on orow u (S i j):=by
   intro i j oty osz on orow hi hj;obtain⟨u,_,h|⟨_,_,_,_,he,hs⟩⟩:=hcell i j _ hi hj
   ·simp[closedOne,W5] at h
   ·cases he;exact⟨u,hs⟩
  obtain⟨u,hs⟩:=own i j oty osz on orow hi hj;obtain⟨u',hs'⟩:=own i' j' oty' osz' on' orow' hi' hj';generalize S i j=x at hs hc he;generalize S i' j'=y at hs' hc' he;cases x with
  |inl p=>
   obtain⟨h1,⟨oty2,h2⟩,_⟩:=hs;cases y with
   |inl p'=>
    obtain⟨h1',⟨oty2',h2'⟩,_⟩:=hs';obtain⟨e1,e2⟩:=hF.inj p.1 p.2 p'.1 p'.2 _ _ _ _ _ _ _ _ h1 h1' h2 h2' hc hc' he;congr 1
    exact Prod.ext e1 e2
   |inr m=>
    obtain⟨h1',⟨oty2',N,h2',_⟩,_⟩:=hs';have:=hH.inj k m _ _ (E.b2 k v p.1 p.2) hk h2' (.inr ⟨v,ty0,sz0,n0,V7,p.1,p.2,oty2,osz,on,orow,rfl,h1,h2,hc,rfl⟩) (.inl ⟨hc',he⟩);exact absurd this.symm h1'
  |inr m=>
   obtain⟨h1,⟨oty2,N,h2,_⟩,_⟩:=hs;cases y with
   |inl p'=>
    obtain⟨h1',⟨oty2',h2'⟩,_⟩:=hs';have:=hH.inj k m _ _ (E.b2 k v p'.1 p'.2) hk h2 (.inr ⟨v,ty0,sz0,n0,V7,p'.1,p'.2,oty2',osz',on',orow',rfl,h1',h2',hc',rfl⟩) (.inl ⟨hc,he.symm⟩);exact absurd this.symm h1
   |inr m'=>
    obtain⟨h1',⟨oty2',N',h2',_⟩,_⟩:=hs';have:=hH.inj m m' _ _ (E.β m) h2 h2' (.inl ⟨hc,rfl⟩) (.inl ⟨hc',he⟩);rw[this]

end
end Go.SS
