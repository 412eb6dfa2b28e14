/- A part of the proof. -/
import Derived.Test.YtlbmgnomkjmafaaGreatSS1
import Derived.Lib.AppendZeros
namespace Go.SS
open Go.RowKit
variable{p:Prop}
section
variable {c:Ctx} {E:Env} {H:Y4} {w w':World} {P:Program}
theorem Inv.writeO(h:Inv c E H w){k:Nat}{O:Ob}(g:Z1 H k=some O)(l:w'.os=w.os)(t:w'.tape=w.tape)(hp:w'.output=w.output)(q:w.heap.size<=w'.heap.size)
  (j:∀b,b<w.heap.size->¬B7 E k O b->w'.heap[b]? =w.heap[b]?) (ob:Ob) (x:∀b,B7 E k ob b->B7 E k O b) (r:∀v,E.L2 k v->∃v0 ty sz n row,ob= .fam v0 ty sz n row/\v<=v0) (W:Step E w E w'->i6 E w' k ob):
  Inv c E (H.set k (some ob)) w'/\Step E w E w':=by
 obtain⟨L,A,z⟩:=h.heap.live k O g;have hklt:=H3 g;have d:Step E w E w':=⟨Env.le.refl E,λb B=>j b (h.nlt b B) (λe=>z b e B),λ_ h=>.inl h⟩
 refine⟨h.to l t hp q d k (λm=>m=k) (λ_ h=>h) (λi o hi f=>?_) (λo hi=>?_) (λb B N=>j b B (N k O rfl g)) (λi hi=>by rw[yT];exact h.heap.lt i hi) h.heap.l2 (λo i v hi hv=>?_),d⟩
 ·rw[T9 hklt,if_neg f] at hi;exact⟨hi,f⟩
 ·rw[T9 hklt,if_pos rfl] at hi;simp only[X2] at hi;subst hi;exact⟨L,W d,λb B=>.inr ⟨k,O,rfl,g,x b B⟩⟩
 ·rw[T9 hklt] at hi;split at hi
  ·rename_i u;subst u;simp only[X2] at hi;subst hi;exact r v hv
  ·exact h.heap.cur i o v hi hv
theorem Inv.noL2(h:Inv c E H w){k:Nat}{ob:Ob}(d:Z1 H k=some ob)(hi:ob.isArr=true)(v:Nat):¬E.L2 k v:=λhv=>by
 obtain⟨V,ty,sz,n,row,rfl,_⟩:=h.heap.cur k ob v d hv;cases hi
theorem Inv.write(h:Inv c E H w){k:Nat}{o:Ob}(x:Z1 H k=some o)(r:o.isArr=true)(O:w'.os=w.os)(C:w'.tape=w.tape)(hp:w'.output=w.output)(F:w.heap.size<=w'.heap.size)
  (W:∀b,b<w.heap.size->b≠E.β k->w'.heap[b]? =w.heap[b]?) (I:E.κ k≠0) (ob:Ob) (cs:Array Value) (ty:TypeId) (g:w'.heap[E.β k]? =some (.cells cs ty (0,0)))
  (Z:ob.toArr.sz=(E.z k).1) (l:Siz cs (E.κ k*(E.z k).1) (E.z k).2) (N:ob.toArr.n<=E.κ k)
  (hl:∀i,i<ob.toArr.n->(ob.toArr.row i).length=ob.toArr.sz) (f:∀i t,i<ob.toArr.n->t ∈ ob.toArr.row i->I7 t=true) (L:ob.toArr.cl=true->∀i t,i<ob.toArr.n->t ∈ ob.toArr.row i->W7 t=true)
  (R:∀i j t,i<ob.toArr.n->(ob.toArr.row i)[j]? =some t->∃u,cs[i*ob.toArr.sz+j]? =some u/\Rd E w t u) (A:ob.isArr=true:=by rfl):
  Inv c E (H.set k (some ob)) w'/\Step E w E w':=by
 refine h.writeO x O C hp F (λb B N=>W b B λe=>N (.inl ⟨I,e⟩)) ob (λb B=>.inl (B.arr A)) (λv hv=>absurd hv (h.noL2 x r v)) λd=>T4.ob ⟨Z.symm,N,hl,f,L,cs,ty,λ_=>g,by rw[Z];exact l,λi j t hi J=>?_⟩ A
 obtain⟨u,U,q⟩:=R i j t hi J;exact⟨u,U,d.rd q⟩
theorem a3q(n:Int):(Instr.keyThatStays (.int .i64 n) (.int .i64 n)).run P w= .ok (.int .i64 n) w:=by
 unfold Instr.keyThatStays;rw[if_pos (by unfold Instr.sameBits;simp)]
 rfl
theorem b8a(h:Inv c E H w){t:TypeId}{m k x:T}{W Q X:Value}{H':Y4}(he:a01 P H t m k x=some H')(M:Rd E w m W)(hk:Rd E w k Q)(hx:Rd E w x X):
  ∃w',(Instr.mapUpdate t W Q X).run P w= .ok () w'/\Inv c E H' w'/\Step E w E w':=by
 unfold a01 at he;split at he
 ·rename_i j n;split at he
  ·rename_i bo get hob;split at he
   ·rename_i v B hv;simp only[X2] at he;subst he;rw[J3 hk];obtain⟨kt,et,U,u,A⟩:=a9I (w:=w) B;clear A;obtain⟨hL,⟨R,es,f,g,hi,Z⟩,hN⟩:=h.heap.live j _ hob;have V:X=a0P bo v:=by
     unfold c61 at hv;split at hv
     ·cases bo
      ·simp only[X2] at hv;subst hv;exact J3 hx
      ·cases hv
     ·cases bo
      ·cases hv
      ·rename_i b;simp only[X2] at hv;subst hv;rw[u5 hx];cases b<;>rfl
     ·cases hv
    have r:=oB (w:=w) u false 9999 n;cases M with
    |mpr _ _=>
     have F:∀(d:Array MapEntry) (C:Nat),c4Q bo (λi=>cond (decide (i=n)) v (get i)) d.toList->
       Inv c E (H.set j (some (.mp bo λi=>cond (decide (i=n)) v (get i)))) {w with heap:=w.heap.setIfInBounds (E.β j) (.map d C)}/\Step E w E {w with heap:=w.heap.setIfInBounds (E.β j) (.map d C)}:=by
      intro d C hI;have z:E.β j<w.heap.size:=(cP.1 g).1
      have ho:∀b,b≠E.β j->(w.heap.setIfInBounds (E.β j) (.map d C))[b]? =w.heap[b]? :=λb hne=>by rw[Array.getElem?_setIfInBounds,if_neg (Ne.symm hne)]
      have o:(w.heap.setIfInBounds (E.β j) (.map d C))[E.β j]? =some (.map d C):=by rw[Array.getElem?_setIfInBounds,if_pos rfl,if_pos z]
      exact h.writeO (w':={w with heap:=w.heap.setIfInBounds (E.β j) (.map d C)}) hob rfl rfl rfl W8 (λb _ hne=>ho b λe=>hne (.inl ⟨R,e⟩)) (.mp bo λi=>cond (decide (i=n)) v (get i)) (λb B=>by
       rcases B with B|B
       ·exact .inl B
       ·exact(B.not (by rintro v ty sz n row he;cases he)).elim) (λv hv=>by
       obtain⟨v0,ty,sz,n,row,he,_⟩:=h.heap.cur j _ v hob hv;cases he) λ_=>(⟨R,d,C,o,hI⟩:b0y E _ j bo _)
     have I:∀(l:List MapEntry),(∀e ∈ l,∃m,e.key= .int .i64 m)->(∀N,lk N l=if N=n then some X else lk N es.toList)->c4Q bo (λi=>cond (decide (i=n)) v (get i)) l:=by
      intro l h1 Y;refine⟨h1,λN=>?_⟩
      rw[Y N];by_cases o:N=n
      ·rw[if_pos o];simp[o,V]
      ·rw[if_neg o];have:=Z N;simp only[o,decide_false,cond_false];exact this
     cases hl:lk n es.toList with
     |none=>
      have L:=MapKept.run_findKey (w:=w) u (nP es.toList 0 hi hl);refine⟨_,?_,F (es.push {key:=.int .i64 n,val:=X,born:=f}) (f+1) (I _ (λe he=>?_) λN=>?_)⟩
      ·simp only[Instr.mapUpdate,D8,run_underlying U,E7,MapKept.run_getObj_map g,r,L];exact MapKept.run_setObj_map _ g
      ·simp only[Array.toList_push,List.mem_append,List.mem_singleton] at he;rcases he with he|rfl
       ·exact hi e he
       ·exact⟨n,rfl⟩
      ·have key:∀l:List MapEntry,(∀e ∈ l,∃m,e.key= .int .i64 m)->lk n l=none->lk N (l++[{key:=.int .i64 n,val:=X,born:=f}])=if N=n then some X else lk N l:=by
        intro l;induction l with
        |nil=>intro _ _;simp[lk]
        |cons e l ih=>
         intro hi o;obtain⟨m,M⟩:=hi e W8
         simp only[List.cons_append,lk,M] at o ⊢;split at o
         ·cases o
         ·rename_i hne;split
          ·rename_i he;subst he;rw[if_neg (Ne.symm hne)]
          ·exact ih (λe he=>hi e (by simp[he])) o
       rw[Array.toList_push];exact key es.toList hi hl
     |some v0=>
      obtain⟨i,e,he,J,_,O,q⟩:=mU es.toList 0 hi hl;obtain⟨g1,g2⟩:=q X;have L:=MapKept.run_findKey (w:=w) u O;refine⟨_,?_,F (es.modify i λe=>{e with key:=.int .i64 n,val:=X}) f (I _ (λe he=>?_) λN=>?_)⟩
      ·have hei:es[i]? =some e:=by simpa using he
       simp only[Instr.mapUpdate,D8,run_underlying U,E7,MapKept.run_getObj_map g,r,L,C9,hei,m8,J,Option.getD_some,a3q];exact MapKept.run_setObj_map _ g
      ·rw[Array.toList_modify] at he;exact g1 e he
      ·rw[Array.toList_modify];exact g2 N
   ·cases he
  ·cases he
 ·cases he
theorem b3d(h:Inv c E H w){t:TypeId}{m k x:T}{mv Y xv:Value}{H':Y4}{side:Option Prop}(he:mX P H t m k x=some (H',side))(hs:side.getD True)(hm:Rd E w m mv)(hk:Rd E w k Y)(hx:Rd E w x xv):
  ∃w',(Instr.mapUpdate t mv Y xv).run P w= .ok () w'/\Inv c E H' w'/\Step E w E w':=by
 unfold mX at he;split at he
 ·rename_i j a b v;split at he
  ·rename_i get hob;split at he
   ·rename_i B;simp only[X2,U0] at he;obtain⟨rfl,rfl⟩:=he;obtain⟨O,R⟩:=hs;obtain⟨kt,et,hu,K,hp,F,_⟩:=a8R (w:=w) B;obtain⟨hL,⟨hκ,es,clock,f,hent,X,hnd⟩,hN⟩:=h.heap.live j _ hob;obtain⟨l,hl⟩:=nT hp F O R;have U:Y=r9 a b:=by
     cases hk with
     |agg _ vs N Z=>
      obtain⟨V,I,rfl⟩:∃V I,vs= #[V,I]:=by
       match vs,N with
       |⟨[V,I]⟩,_=>exact⟨V,I,rfl⟩
      rw[J3 (Z 0 _ V rfl rfl),J3 (Z 1 _ I rfl rfl)];rfl
    subst U;rw[u5 hx];have L:∀e ∈ es.toList,∃l,keyOf P kt e.key=some l:=λe he=>by
     obtain⟨A,u,r1,r2,g,_⟩:=hent e he;rw[g];exact nT hp F r1 r2
    cases hm with
    |mpr _ _=>
     have fin:∀(d:Array MapEntry) (C:Nat),(∀e ∈ d.toList,∃a1 b1,O7 .i64 a1/\O7 .i64 b1/\e.key=r9 a1 b1/\e.val= .bool (cond (decide (a1=a/\b1=b)) v (get a1 b1)))->
       (∀a1 b1,cond (decide (a1=a/\b1=b)) v (get a1 b1)=true->∃e ∈ d.toList,e.key=r9 a1 b1)->(d.toList.map (·.key)).Nodup->
       Inv c E (H.set j (some (.mp2 λA u=>cond (decide (A=a/\u=b)) v (get A u)))) {w with heap:=w.heap.setIfInBounds (E.β j) (.map d C)}/\Step E w E {w with heap:=w.heap.setIfInBounds (E.β j) (.map d C)}:=by
      intro d C g1 g2 g3;have r:E.β j<w.heap.size:=(cP.1 f).1
      have ho:∀b,b≠E.β j->(w.heap.setIfInBounds (E.β j) (.map d C))[b]? =w.heap[b]? :=λb q=>by rw[Array.getElem?_setIfInBounds,if_neg (Ne.symm q)]
      have hn:(w.heap.setIfInBounds (E.β j) (.map d C))[E.β j]? =some (.map d C):=by rw[Array.getElem?_setIfInBounds,if_pos rfl,if_pos r]
      exact h.writeO (w':={w with heap:=w.heap.setIfInBounds (E.β j) (.map d C)}) hob rfl rfl rfl W8 (λb _ q=>ho b λe=>q (.inl ⟨hκ,e⟩)) (.mp2 λA u=>cond (decide (A=a/\u=b)) v (get A u)) (λb B=>by
       rcases B with B|B
       ·exact .inl B
       ·exact(B.not (by rintro v ty sz n row he;cases he)).elim) (λv hv=>by
       obtain⟨V,ty,sz,n,row,he,_⟩:=h.heap.cur j _ v hob hv;cases he) λ_=>(⟨hκ,d,C,hn,g1,g2,g3⟩:a1j E _ j _)
     rcases K.find w hl es.toList L with⟨Q,h2⟩|⟨i,e,Q,h2,h3⟩
     ·refine⟨_,?_,fin (es.push {key:=r9 a b,val:=.bool v,born:=clock}) (clock+1) (λe he=>?_) (λa1 b1 hg=>?_) ?_⟩
      ·simp only[Instr.mapUpdate,D8,run_underlying hu,E7,MapKept.run_getObj_map f,K.check w _ hl,Q];exact MapKept.run_setObj_map _ f
      ·simp only[Array.toList_push,List.mem_append,List.mem_singleton] at he;rcases he with he|rfl
       ·obtain⟨a1,b1,r1,r2,r3,r4⟩:=hent e he;refine⟨a1,b1,r1,r2,r3,?_⟩
        rw[uG (λJ=>h2 e he (by rw[r3,J.1,J.2]))]
        exact r4
       ·exact⟨a,b,O,R,rfl,W8⟩
      ·simp only[Array.toList_push,List.mem_append,List.mem_singleton];by_cases hab:a1=a/\b1=b
       ·exact⟨_,.inr rfl,by rw[hab.1,hab.2]⟩
       ·rw[uG hab] at hg;obtain⟨e,he,g⟩:=X a1 b1 hg;exact⟨e,.inl he,g⟩
      ·rw[Array.toList_push,List.map_append,List.nodup_append];refine⟨hnd,W8,λy hy z hz=>?_⟩
       obtain⟨e,he,rfl⟩:=List.mem_map.1 hy;simp only[List.map_cons,List.map_nil,List.mem_singleton] at hz;rw[hz];exact h2 e he
     ·have hei:es[i]? =some e:=by simpa using h2
      have hmod:∀p,(es.toList.modify i λe=>{e with key:=r9 a b,val:=Value.bool v})[p]? =if i=p then some {e with key:=r9 a b,val:=.bool v} else es.toList[p]? :=λp=>by
       rw[List.getElem?_modify]
       by_cases hip:i=p
       ·subst hip;rw[h2];simp
       ·simp[hip]
      have o:(es.toList.modify i λe=>{e with key:=r9 a b,val:=Value.bool v}).map (·.key)=es.toList.map (·.key):=by
       refine List.ext_getElem? λp=>?_
       rw[pW,pW,hmod]
       by_cases hip:i=p
       ·subst hip;rw[if_pos rfl,h2];simp[h3]
       ·rw[if_neg hip]
      refine⟨_,?_,fin (es.modify i λe=>{e with key:=r9 a b,val:=.bool v}) clock (λe' he'=>?_) (λa1 b1 hg=>?_) (by rw[Array.toList_modify,o];exact hnd)⟩
      ·simp only[Instr.mapUpdate,D8,run_underlying hu,E7,MapKept.run_getObj_map f,K.check w _ hl,Q,hei,m8,h3,Option.getD_some,K.stays w hl];exact MapKept.run_setObj_map _ f
      ·rw[Array.toList_modify] at he';obtain⟨p,hp'⟩:=List.mem_iff_getElem?.1 he';rw[hmod] at hp';by_cases hip:i=p
       ·rw[if_pos hip] at hp';simp only[X2] at hp';subst hp';exact⟨a,b,O,R,rfl,W8⟩
       ·rw[if_neg hip] at hp';obtain⟨a1,b1,r1,r2,r3,r4⟩:=hent e' (A4 hp');refine⟨a1,b1,r1,r2,r3,?_⟩
        rw[uG (λJ=>hip ?_)]
        ·exact r4
        ·have q1:(es.toList.map (·.key))[i]? =some (r9 a b):=by rw[pW,h2];simp[h3]
         have q2:(es.toList.map (·.key))[p]? =some (r9 a b):=by rw[pW,hp'];simp[r3,J.1,J.2]
         obtain⟨l1,e1⟩:=w6.1 q1
         obtain⟨l2,e2⟩:=w6.1 q2
         have W:=List.pairwise_iff_getElem.1 hnd;rcases Nat.lt_trichotomy i p with r|heq|hgt
         ·exact absurd (e1.trans e2.symm) (W i p l1 l2 r)
         ·exact heq
         ·exact absurd (e2.trans e1.symm) (W p i l2 l1 hgt)
      ·rw[Array.toList_modify];have M:∃y ∈ es.toList.map (·.key),y=r9 a1 b1:=by
        by_cases hab:a1=a/\b1=b
        ·exact⟨_,List.mem_map.2 ⟨e,A4 h2,rfl⟩,by rw[h3,hab.1,hab.2]⟩
        ·rw[uG hab] at hg;obtain⟨e',he',g⟩:=X a1 b1 hg;exact⟨_,List.mem_map.2 ⟨e',he',rfl⟩,g⟩
       obtain⟨y,hy,rfl⟩:=M;rw[←o] at hy;obtain⟨e',he',g⟩:=List.mem_map.1 hy;exact⟨e',he',g⟩
   ·cases he
  ·cases he
 ·cases he
theorem Inv.drop(h:Inv c E H w)(k:Nat):Inv c E (H.set k none) w:=by
 have key:∀i o,Z1 (H.set k none) i=some o->Z1 H i=some o/\i≠k:=by
  intro i o hi;by_cases hk:k<H.length
  ·rw[T9 hk] at hi;split at hi
   ·cases hi
   ·rename_i d;exact⟨hi,d⟩
  ·rw[List.set_eq_of_length_le Z9] at hi
   exact⟨hi,λe=>by have:=H3 hi;omega⟩
 exact⟨⟨λi ob hi=>h.heap.live i ob (key i ob hi).1,λi I o o' b hi f=>h.heap.inj i I o o' b (key i o hi).1 (key I o' f).1,λi hi=>by rw[yT];exact h.heap.lt i hi,h.heap.l2,λi ob v hi=>h.heap.cur i ob v (key i ob hi).1⟩,
  h.nlt,h.nnew,λi ob b hi=>h.bnew i ob b (key i ob hi).1,h.fr,h.keep⟩
theorem a0V{x:T}{v:Value}(hx:Rd E w x v)(h:I7 x=true):v.oneCell'=true:=by
 cases hx with
 |v=>cases v<;>first|rfl|(simp[I7] at h)
 |agg=>simp[I7] at h
 |tup=>simp[I7] at h
 |und=>simp[I7] at h
 |_=>rfl
theorem j3(P:Program)(w:World)(b o:Nat)(ty:TypeId)(cs:Array Value)(n:List Value)(B:w.heap[b]? =some (.cells cs ty (0,0)))(h:o+n.length<=cs.size)(e:∀v ∈ n,v.oneCell'=true):
  ∃w',(storeCells ⟨b,o,none⟩ n).run P w= .ok () w'/\w'.os=w.os/\w'.tape=w.tape/\w'.output=w.output/\w'.heap.size=w.heap.size/\(∀k,k≠b->w'.heap[k]? =w.heap[k]?)/\
   ∃cs',w'.heap[b]? =some (.cells cs' ty (0,0))/\cs'.size=cs.size/\(∀i,i<o∨o+n.length<=i->cs'[i]? =cs[i]?)/\∀i,i<n.length->cs'[o+i]? =n[i]? :=by
 have t:=run_storeCells_at P b o ty n 0 cs w B A8 e
 refine⟨_,t,rfl,rfl,rfl,by simp[World.setRow],λk d=>setRow_other w b k _ d,_,setRow_heap w b cs _ ty _ B,?_,λi hi=>?_,λi hi=>?_⟩
 ·simp;omega
 ·simp only[Nat.add_zero,List.getElem?_toArray,List.getElem?_append,K2,List.length_take,Array.length_toList,List.getElem?_take,List.getElem?_drop]
  rw[Nat.min_eq_left Z9]
  rcases hi with hi|hi
  ·rw[if_pos Z9,if_pos hi,if_pos hi]
   simp
  ·rw[if_neg Z9]
   simp only[Array.getElem?_toList]
   congr 1
   omega
 ·simp only[Nat.add_zero,List.getElem?_toArray,List.getElem?_append,K2,List.length_take,Array.length_toList,List.getElem?_take,List.getElem?_drop]
  rw[Nat.min_eq_left Z9]
  rw[if_pos Z9,if_neg Z9]
  congr 1
  omega
theorem a5H{i r sz j m J:Nat}(R:r≠i)(e:j+m<=sz)(d:J<sz):r*sz+J<i*sz+j∨i*sz+j+m<=r*sz+J:=by
 rcases Nat.lt_or_gt_of_ne R with h|h
 ·left
  have:(r+1)*sz<=i*sz:=lD _ h;rw[Nat.add_mul] at this;omega
 ·right
  have:(i+1)*sz<=r*sz:=lD _ h;rw[Nat.add_mul] at this;omega
theorem a4p{i n sz j m κ:Nat}(hi:i<n)(N:n<=κ)(h:j+m<=sz):i*sz+j+m<=κ*sz:=by
 have:(i+1)*sz<=κ*sz:=lD _ Z9
 rw[Nat.add_mul] at this;omega
theorem a2d{m:Int}(h:O7 .u8 m):((Q8 m).toNat:Int)=m:=by
 obtain⟨d,g⟩:=h;have f:0<=m:=d;have e:m<=255:=g;unfold Q8;rw[UInt8.toNat_ofNat'];omega
theorem c43(b:Bool)(x y:T):mrg b x y=match b with|true=>x|false=>y:=by
 unfold mrg;split
 ·split
  ·rename_i h;obtain rfl:=E4 h;cases b<;>rfl
  ·cases b<;>rfl
 ·cases b<;>rfl
 ·cases b<;>rfl
 ·split
  ·rename_i d e;obtain rfl:=E4 d;obtain rfl:=E4 e;cases b<;>rfl
  ·cases b<;>rfl
 ·cases b<;>rfl
theorem b8Q(b:Bool):∀(xs os:List T),xs.length<=os.length->b7a b xs os=match b with|true=>xs++os.drop xs.length|false=>os:=by
 intro xs;induction xs with
 |nil=>intro os _;cases b<;>cases os<;>simp[b7a]
 |cons x xs i=>
  intro os h;cases os with
  |nil=>simp at h
  |cons o os=>
   simp only[b7a,c43,i os A8]
   cases b<;>simp
theorem b96(b:Bool):∀(j:Nat) (xs os:List T),j+xs.length<=os.length->b3X b j xs os=match b with|true=>os.take j++xs++os.drop (j+xs.length)|false=>os:=by
 intro j;induction j with
 |zero=>intro xs os h;simp only[b3X,b8Q b xs os Z9];cases b<;>simp
 |succ j i=>
  intro xs os h;cases os with
  |nil=>simp at h
  |cons o os=>
   simp only[b3X,i xs os (by simp at h;omega)]
   cases b
   ·rfl
   ·simp only[List.take_succ_cons,List.cons_append];rw[show j+1+xs.length=(j+xs.length)+1 by omega,List.drop_succ_cons]
theorem j6{row:Nat->List T}{i j k:Nat}{cs:List T}(h:j+cs.length<=(row k).length):setRow row i j cs k=match Nat.beq k i with|true=>(row k).take j++cs++(row k).drop (j+cs.length)|false=>row k:=by
 unfold setRow;rw[b96 _ _ _ _ h]
theorem vV{k:Nat}{A:Arr}(hA:T4 E w k A){i j:Nat}(hi:i<A.n){xs:List T}{vs:List Value}(O:j+xs.length<=A.sz)(o:∀t ∈ xs,I7 t=true)(hlen:vs.length=xs.length)
  (M:∀(m:Nat) (t:T) (v:Value),xs[m]? =some t->vs[m]? =some v->Rd E w t v):
  ∃w',(storeCells ⟨E.β k,i*(E.z k).1+j,none⟩ vs).run P w= .ok () w'/\w'.os=w.os/\w'.tape=w.tape/\w'.output=w.output/\w'.heap.size=w.heap.size/\(∀b,b≠E.β k->w'.heap[b]? =w.heap[b]?)/\
   ∃cs ty,w'.heap[E.β k]? =some (.cells cs ty (0,0))/\Siz cs (E.κ k*A.sz) (E.z k).2/\(∀r,r<A.n->(setRow A.row i j xs r).length=A.sz)/\(∀r t,r<A.n->t ∈ setRow A.row i j xs r->I7 t=true)/\
    (A.cl=true->(∀t ∈ xs,W7 t=true)->∀r t,r<A.n->t ∈ setRow A.row i j xs r->W7 t=true)/\
    ∀r q t,r<A.n->(setRow A.row i j xs r)[q]? =some t->∃u,cs[r*A.sz+q]? =some u/\Rd E w t u/\((r=i/\j<=q/\q<j+xs.length/\xs[q-j]? =some t)∨(¬ (r=i/\j<=q/\q<j+xs.length)/\(A.row r)[q]? =some t)):=by
 obtain⟨Z,hn,hl,d,L,cs,C,Q,J,R⟩:=hA;have Q:=Q Z9
 have hsr:∀r,r<A.n->setRow A.row i j xs r=match Nat.beq r i with|true=>(A.row r).take j++xs++(A.row r).drop (j+xs.length)|false=>A.row r:=λr R=>j6 (by rw[hl r R];exact O)
 have B:∀v ∈ vs,v.oneCell'=true:=by
  intro v hv;obtain⟨m,hm,rfl⟩:=List.mem_iff_getElem.1 hv;have h1:m<xs.length:=Z9
  exact a0V (M m _ _ (J4 h1) (J4 hm)) (o _ (List.getElem_mem h1))
 obtain⟨w',V,ho,ht,hp,x,I,X,Y,N,e,W⟩:=j3 P w (E.β k) (i*(E.z k).1+j) C cs vs Q (Nat.le_trans (by rw[hlen,Z];exact a4p hi hn O) J.le) B
 refine⟨w',V,ho,ht,hp,x,I,X,C,Y,J.keep N λq hq=>e q (.inr (by rw[hlen,Z];exact Nat.le_trans (a4p hi hn O) hq)),λr hr'=>?_,λr t hr' ht=>?_,λg aa r t hr' ht=>?_,λr j' t hr' hj'=>?_⟩
 ·rw[hsr r hr'];split
  ·rename_i hbeq;obtain rfl:=G1 hbeq;simp only[K2,List.length_take,List.length_drop,hl r hi];omega
  ·exact hl r hr'
 ·rw[hsr r hr'] at ht;split at ht
  ·rename_i hbeq;obtain rfl:=G1 hbeq;simp only[List.mem_append] at ht;rcases ht with(ht|ht)|ht
   ·exact d r t hi (List.mem_of_mem_take ht)
   ·exact o t ht
   ·exact d r t hi (List.mem_of_mem_drop ht)
  ·exact d r t hr' ht
 ·rw[hsr r hr'] at ht;split at ht
  ·rename_i hbeq;obtain rfl:=G1 hbeq;simp only[List.mem_append] at ht;rcases ht with(ht|ht)|ht
   ·exact L g r t hi (List.mem_of_mem_take ht)
   ·exact aa t ht
   ·exact L g r t hi (List.mem_of_mem_drop ht)
  ·exact L g r t hr' ht
 ·rw[hsr r hr'] at hj';split at hj'
  ·rename_i hbeq;obtain rfl:=G1 hbeq;have hrl:=hl r hi;simp only[List.getElem?_append,K2,List.length_take,List.getElem?_take,List.getElem?_drop] at hj'
   rw[Nat.min_eq_left Z9] at hj'
   by_cases h1:j'<j+xs.length
   ·rw[if_pos h1] at hj';by_cases h2:j'<j
    ·rw[if_pos h2,if_pos h2] at hj';obtain⟨u,U,l⟩:=R r j' t hi hj';exact⟨u,by rw[e _ (.inl (by rw[Z];omega))];exact U,l,.inr ⟨Z9,hj'⟩⟩
    ·rw[if_neg h2] at hj';have h3:j'-j<vs.length:=by rw[hlen];omega
     have h4:=W (j'-j) h3;rw[J4 h3] at h4
     exact⟨_,by rw[←Z,show r*(E.z k).1+j'=r*(E.z k).1+j+(j'-j) by omega];exact h4,M _ _ _ hj' (J4 h3),.inl ⟨rfl,Z9,h1,hj'⟩⟩
   ·rw[if_neg h1] at hj';have f:(A.row r)[j']? =some t:=by
     rw[←hj'];congr 1
     omega
    obtain⟨u,U,l⟩:=R r j' t hi f;exact⟨u,by rw[e _ (.inr (by rw[hlen,Z];omega))];exact U,l,.inr ⟨Z9,f⟩⟩
  ·rename_i hbeq;have F:r≠i:=Nat.ne_of_beq_eq_false hbeq;obtain⟨u,U,l⟩:=R r j' t hr' hj';have f:j'<A.sz:=by
    have:=(w6.1 hj').1
    rw[hl r hr'] at this;exact this
   exact⟨u,by rw[e _ (by rw[hlen,Z];exact a5H F O f)];exact U,l,.inr ⟨λh=>F h.1,hj'⟩⟩
def sP(k v i j:Nat):T->T
 | .own _ _ n _=>.posl k v i j n
 |t=>t
theorem b3y(k v i:Nat):∀(l:List T) (j q:Nat),(aV k v i j l)[q]? =(l[q]?).map (sP k v i (j+q)):=by
 intro l;induction l with
 |nil=>intro j q;simp[aV]
 |cons t l h=>
  intro j q;cases q with
  |zero=>cases t<;>rfl
  |succ q=>
   have:=h (j+1) q;rw[show j+1+q=j+(q+1) by omega] at this
   cases t<;>exact this
theorem J9(k v i q:Nat)(row:Nat->List T):(xD k v row i)[q]? =((row i)[q]?).map (sP k v i q):=by
 unfold xD;rw[b3y,C9]
theorem N8(k v i:Nat)(row:Nat->List T):(xD k v row i).length=(row i).length:=by
 unfold xD;generalize row i=l;generalize 0=j;induction l generalizing j with
 |nil=>rfl
 |cons t l h=>cases t<;>simp[aV,h]
theorem L0{t:T}(h:closedOne t=true):W7 t=true/\I7 t=true:=by simpa[closedOne] using h
theorem fP{t:T}(h:b4U t=true):(∃ty sz n row,t= .own ty sz n row)∨(closedOne t=true/\a8L t=false):=by
 cases t<;>simp_all [b4U,a8L]
theorem M4{k v i j:Nat}{t:T}(h:closedOne t=true):sP k v i j t=t:=by
 cases t<;>first|rfl|(simp[closedOne,W7] at h)
theorem l7{k v:Nat}{ty:TypeId}{sz n:Nat}{row:Nat->List T}(f:E.L2 k v)(Z:(E.z k).1=sz)(N:n<=E.κ k)(cs:Array Value)(B:TypeId)(d:E.κ k≠0->w.heap[E.β k]? =some (.cells cs B (0,0)))
  (e:Siz cs (E.κ k*sz) (E.z k).2) (hl:∀r,r<n->(row r).length=sz)
  (hcell:∀r q t,r<n->(row r)[q]? =some t->∃u,cs[r*sz+q]? =some u/\((closedOne t=true/\Rd E w t u)∨∃oty osz on orow,t= .own oty osz on orow/\Rd E w (.posl k v r q on) u/\T4 (E.sub k v r q osz) w 0 ⟨true,oty,osz,on,orow⟩/\(E.c2 k v r q≠0->E.κ k≠0->E.b2 k v r q≠E.β k)))
  (J:∀i j i' j' oty osz on orow oty' osz' on' orow',i<n->i'<n->(row i)[j]? =some (.own oty osz on orow)->(row i')[j']? =some (.own oty' osz' on' orow')->E.c2 k v i j≠0->E.c2 k v i' j'≠0->E.b2 k v i j=E.b2 k v i' j'->i=i'/\j=j'):
  FamOk E w k v ty sz n row:=by
 have M:∀i t,i<n->t ∈ row i->b4U t=true:=λi t hi ht=>by
  obtain⟨q,hq⟩:=List.getElem?_of_mem ht
  obtain⟨u,_,h|⟨oty,osz,on,orow,rfl,_⟩⟩:=hcell i q t hi hq
  ·simp[b4U,h.1]
  ·rfl
 refine⟨f,⟨Z,N,λi hi=>?_,λi t hi ht=>?_,λh=>J6,cs,B,d,e,λi j t hi hj=>?_⟩,M,λi j oty osz on orow hi hj=>?_,J⟩
 ·simp only[N8];exact hl i hi
 ·obtain⟨q,hq⟩:=List.getElem?_of_mem ht
  simp only at hq;rw[J9,G4] at hq;obtain⟨t0,h0,rfl⟩:=hq;rcases fP (M i t0 hi (A4 h0)) with⟨_,_,_,_,rfl⟩|⟨h1,_⟩
  ·rfl
  ·rw[M4 h1];exact(L0 h1).2
 ·simp only at hj;rw[J9,G4] at hj;obtain⟨t0,h0,rfl⟩:=hj;obtain⟨u,hu,h|⟨oty,osz,on,orow,rfl,h1,_⟩⟩:=hcell i j t0 hi h0
  ·exact⟨u,hu,by rw[M4 h.1];exact h.2⟩
  ·exact⟨u,hu,h1⟩
 ·obtain⟨u,hu,h|⟨oty',osz',on',orow',he,_,h2,h3⟩⟩:=hcell i j _ hi hj
  ·simp[closedOne,W7] at h
  ·cases he;exact⟨h2,h3⟩
theorem FamOk.cell{k v:Nat}{ty:TypeId}{sz n:Nat}{row:Nat->List T}(h:FamOk E w k v ty sz n row){i j:Nat}{t:T}(hi:i<n)(J:(row i)[j]? =some t):
  (closedOne t=true)∨∃oty osz on orow,t= .own oty osz on orow:=by
 rcases fP (h.fam i t hi (A4 J)) with⟨a,b,c,d,rfl⟩|⟨e,_⟩
 ·exact .inr ⟨a,b,c,d,rfl⟩
 ·exact .inl e
abbrev c3D:=Nat->Nat->(Nat×Nat) ⊕ Nat
def qO(E:Env)(k v:Nat):(Nat×Nat) ⊕ Nat->Nat
 | .inl p=>E.b2 k v p.1 p.2
 | .inr m=>E.β m
def kI(E:Env)(k v:Nat):(Nat×Nat) ⊕ Nat->Nat
 | .inl p=>E.c2 k v p.1 p.2
 | .inr m=>E.κ m
def a9a(E:Env)(w:World)(H:Y4)(k v n:Nat)(K8:Nat->List T)(z on:Nat)(o:Nat->List T)(u:Value):(Nat×Nat) ⊕ Nat->Prop
 | .inl p=>p.1<n/\(∃oty,(K8 p.1)[p.2]? =some (.own oty z on o))/\Rd E w (.posl k v p.1 p.2 on) u
 | .inr m=>m≠k/\(∃oty N,Z1 H m=some (.arr true oty z N o)/\on<=N)/\Rd E w (.osl m 0 on) u
theorem a2Z{E':Env}(W:HeapOk E w H)(C:Step E w E' w'){k v:Nat}{d:TypeId}{e B:Nat}{K8:Nat->List T}(hk:Z1 H k=some (.fam v d e B K8)){K V:Nat}{ty:TypeId}{sz n:Nat}{row:Nat->List T}(S:c3D)
  (Q:E'.L2 K V) (hb2:∀r q,E'.b2 K V r q=qO E k v (S r q)) (hc2:∀r q,E'.c2 K V r q=kI E k v (S r q))
  (hz:(E'.z K).1=sz) (Y:n<=E'.κ K) (cs:Array Value) (U:TypeId) (X:E'.κ K≠0->w'.heap[E'.β K]? =some (.cells cs U (0,0))) (aa:Siz cs (E'.κ K*sz) (E'.z K).2) (hl:∀r,r<n->(row r).length=sz)
  (hcell:∀r q t,r<n->(row r)[q]? =some t->∃u,cs[r*sz+q]? =some u/\((closedOne t=true/\Rd E w t u)∨∃oty osz on orow,t= .own oty osz on orow/\a9a E w H k v B K8 osz on orow u (S r q)))
  (hS:∀i j i' j' oty osz on orow oty' osz' on' orow',i<n->i'<n->(row i)[j]? =some (.own oty osz on orow)->(row i')[j']? =some (.own oty' osz' on' orow')->S i j=S i' j'->i=i'/\j=j')
  (hkeep:∀b,((∃r q,b=E.b2 k v r q/\E.c2 k v r q≠0/\a8e E k (.fam v d e B K8) b)∨∃m o,m≠k/\Z1 H m=some o/\B7 E m o b)->w'.heap[b]? =w.heap[b]?)
  (hap:∀b,((∃r q,b=E.b2 k v r q/\E.c2 k v r q≠0/\a8e E k (.fam v d e B K8) b)∨∃m o,m≠k/\Z1 H m=some o/\B7 E m o b)->E'.κ K≠0->b≠E'.β K):
  FamOk E' w' K V ty sz n row:=by
 obtain⟨hL,hF,_⟩:=W.live k _ hk;have hF:FamOk E w k v d e B K8:=hF;have src:∀{osz on:Nat} {orow:Nat->List T} {u:Value} {x:(Nat×Nat) ⊕ Nat},a9a E w H k v B K8 osz on orow u x->kI E k v x≠0->(∃r q,qO E k v x=E.b2 k v r q/\E.c2 k v r q≠0/\a8e E k (.fam v d e B K8) (qO E k v x))∨∃m o,m≠k/\Z1 H m=some o/\B7 E m o (qO E k v x):=by
  intro osz on orow u x hx hc;cases x with
  |inl p=>
   obtain⟨F,⟨oty,g⟩,_⟩:=hx;exact .inl ⟨p.1,p.2,rfl,hc,v,d,e,B,K8,p.1,p.2,oty,osz,on,orow,rfl,F,g,hc,rfl⟩
  |inr m=>
   obtain⟨F,⟨oty,N,g,_⟩,_⟩:=hx;exact .inr ⟨m,_,F,g,.inl ⟨hc,rfl⟩⟩
 refine l7 Q hz Y cs U X aa hl (λr q t hr hq=>?_) (λi j i' j' oty osz on orow oty' osz' on' orow' hi hi' hj hj' hc hc' he=>?_)
 ·obtain⟨u,hu,h|⟨oty,osz,on,orow,rfl,hs⟩⟩:=hcell r q t hr hq
  ·exact⟨u,hu,.inl ⟨h.1,C.rd h.2⟩⟩
  ·refine⟨u,hu,.inr ⟨oty,osz,on,orow,rfl,?_,?_,λhc hκ=>by rw[hb2];rw[hc2] at hc;exact hap _ (src hs hc) hκ⟩⟩
   ·cases hx:S r q with
    |inl p=>
     rw[hx] at hs;obtain⟨_,_,L⟩:=hs;cases L with
     |posl _ _ _ _ _ a hL Y ha=>
      have:=Rd.posl (E:=E') (w:=w') K V r q on a Q (by rw[hc2,hx];exact Y) (by rw[hc2,hb2,hx];exact ha)
      rw[hc2,hx] at this;exact this
    |inr m=>
     rw[hx] at hs;obtain⟨_,_,L⟩:=hs;cases L with
     |osl _ _ _ o a hL Y ho ha=>
      have:=Rd.posl (E:=E') (w:=w') K V r q on a Q (by rw[hc2,hx];simp only[kI];omega) (by rw[hc2,hb2,hx];intro hc;rw[ha hc,ho (.inr rfl),Nat.zero_mul];rfl)
      rw[hc2,hx] at this;exact this
   ·have hkp:kI E k v (S r q)≠0->w'.heap[qO E k v (S r q)]? =w.heap[qO E k v (S r q)]? :=λhc=>hkeep _ (src hs hc)
    cases hx:S r q with
    |inl p=>
     rw[hx] at hs hkp;obtain⟨F,⟨oty',g⟩,_⟩:=hs;have h3:=(hF.own p.1 p.2 _ _ _ _ F g).1;exact h3.closed (k':=0) (E':=E'.sub K V r q osz) rfl (λb J=>C.le.N b J) (λb J=>C.same b J) ((hb2 r q).trans (by rw[hx];rfl)) ((hc2 r q).trans (by rw[hx];rfl)) rfl hkp
    |inr m=>
     rw[hx] at hs hkp;obtain⟨F,⟨oty',N,g,R⟩,_⟩:=hs;have h3:T4 E w m ⟨true,oty',osz,N,orow⟩:=(W.live m _ g).2.1;have h5:T4 E w m ⟨true,oty,osz,on,orow⟩:=by
      obtain⟨e1,Z,e3,e4,e5,cs,ty,e6,e7,e8⟩:=h3;exact⟨e1,Nat.le_trans R Z,λi hi=>e3 i (yK hi R),λi t hi=>e4 i t (yK hi R),λhc i t hi=>e5 hc i t (yK hi R),cs,ty,e6,e7,λi j t hi=>e8 i j t (yK hi R)⟩
     exact h5.closedN (k':=0) (E':=E'.sub K V r q osz) rfl (λb J=>C.le.N b J) (λb J=>C.same b J) ((hb2 r q).trans (by rw[hx];rfl)) ((hc2 r q).trans (by rw[hx];rfl)) rfl (λ_ _ h=>h.any) hkp
 ·rw[hc2] at hc hc';rw[hb2,hb2] at he;refine hS i j i' j' oty osz on orow oty' osz' on' orow' hi hi' hj hj' ?_
  have own:∀i j oty osz on orow,i<n->(row i)[j]? =some (T.own oty osz on orow)->∃u,a9a E w H k v B K8 osz on orow u (S i j):=by
   intro i j oty osz on orow hi hj;obtain⟨u,_,h|⟨_,_,_,_,he,hs⟩⟩:=hcell i j _ hi hj
   ·simp[closedOne,W7] at h
   ·cases he;exact⟨u,hs⟩
  obtain⟨u,hs⟩:=own i j oty osz on orow hi hj;obtain⟨u',A⟩:=own i' j' oty' osz' on' orow' hi' hj';generalize S i j=x at hs hc he;generalize S i' j'=y at A hc' he;cases x with
  |inl p=>
   obtain⟨F,⟨I,g⟩,_⟩:=hs;cases y with
   |inl M=>
    obtain⟨l,⟨O,f⟩,_⟩:=A;obtain⟨e1,Z⟩:=hF.inj p.1 p.2 M.1 M.2 _ _ _ _ _ _ _ _ F l g f hc hc' he;congr 1
    exact Prod.ext e1 Z
   |inr m=>
    obtain⟨l,⟨O,N,f,_⟩,_⟩:=A;have:=W.inj k m _ _ (E.b2 k v p.1 p.2) hk f (.inr ⟨v,d,e,B,K8,p.1,p.2,I,osz,on,orow,rfl,F,g,hc,rfl⟩) (.inl ⟨hc',he⟩);exact absurd this.symm l
  |inr m=>
   obtain⟨F,⟨I,N,g,_⟩,_⟩:=hs;cases y with
   |inl M=>
    obtain⟨l,⟨O,f⟩,_⟩:=A;have:=W.inj k m _ _ (E.b2 k v M.1 M.2) hk g (.inr ⟨v,d,e,B,K8,M.1,M.2,O,osz',on',orow',rfl,l,f,hc',rfl⟩) (.inl ⟨hc,he.symm⟩);exact absurd this.symm F
   |inr m'=>
    obtain⟨l,⟨O,N',f,_⟩,_⟩:=A;have:=W.inj m m' _ _ (E.β m) g f (.inl ⟨hc,rfl⟩) (.inl ⟨hc',he⟩);rw[this]
end
section
variable {c:Ctx} {E:Env} {H:Y4} {w w':World} {P:Program}
inductive AbsR(H:Y4):List T->List T->List Nat->Prop
 |nil:AbsR H [] [] []
 |own (m n N:Nat) (ty:TypeId) (sz:Nat) (row:Nat->List T) (r r':List T) (ks:List Nat) (hm:Z1 H m=some (.arr true ty sz N row)) (hn:n<=N) (h:AbsR H r r' ks):AbsR H (.osl m 0 n::r) (.own ty sz n row::r') (m::ks)
 |cl (t:T) (r r':List T) (ks:List Nat) (ht:closedOne t=true) (h:AbsR H r r' ks):AbsR H (t::r) (t::r') ks
theorem gA:∀{cs:List T} {A:Abs},oV H cs=some A->A.side.getD True->AbsR H cs A.cs A.ks:=by
 intro cs;induction cs with
 |nil=>intro A h _;simp only[oV,X2] at h;subst h;exact .nil
 |cons t r i=>
  intro A h d;unfold oV at h;split at h
  ·rename_i he;cases he
  ·rename_i m off n r' he;simp only[List.cons.injEq] at he;obtain⟨rfl,rfl⟩:=he;split at h
   ·rename_i ty sz N row B hm hB;simp only[X2] at h;subst h;cases hBs:B.side with
    |none=>
     simp only[hBs,Option.getD_some] at d;exact .own _ _ _ _ _ _ _ _ _ hm d (i hB (by rw[hBs];trivial))
    |some p=>
     simp only[hBs,Option.getD_some] at d;exact .own _ _ _ _ _ _ _ _ _ hm d.1 (i hB (by rw[hBs];exact d.2))
   ·cases h
  ·rename_i t' r' hne he;simp only[List.cons.injEq] at he;obtain⟨rfl,rfl⟩:=he;split at h
   ·rename_i B e hB;simp only[X2] at h;subst h;exact .cl _ _ _ _ e (i hB d)
   ·cases h
theorem AbsR.length{cs C:List T}{ks:List Nat}(h:AbsR H cs C ks):C.length=cs.length:=by
 induction h<;>simp_all
theorem a9N(h:p:=by rw[show((b.length:Int)-4).toNat=b.length-4 by omega]):p:=h
def vG(cs:List T)(q:Nat):Option Nat:=match cs[q]? with
 |some (.osl m _ _)=>some m
 |_=>none
theorem AbsR.get{cs C:List T}{ks:List Nat}(h:AbsR H cs C ks):∀{q:Nat} {f:T},C[q]? =some f->(closedOne f=true/\cs[q]? =some f)∨∃m n N ty sz row,f= .own ty sz n row/\cs[q]? =some (.osl m 0 n)/\Z1 H m=some (.arr true ty sz N row)/\n<=N/\m ∈ ks:=by
 induction h with
 |nil=>intro q f h;simp at h
 |own m n N ty sz row r R ks M j h i=>
  intro q f Q;cases q with
  |zero=>simp at Q;subst Q;exact .inr ⟨m,n,N,ty,sz,row,rfl,rfl,M,j,W8⟩
  |succ q=>
   rcases i (by simpa using Q) with h1|⟨m',n',N',ty',sz',row',a,b,c,d,e⟩
   ·exact .inl h1
   ·exact .inr ⟨m',n',N',ty',sz',row',a,b,c,d,by simp[e]⟩
 |cl t r R ks g h i=>
  intro q f Q;cases q with
  |zero=>simp at Q;subst Q;exact .inl ⟨g,rfl⟩
  |succ q=>exact i (by simpa using Q)
theorem a26(h:p:=by simpa[vG] using Q):p:=h
theorem AbsR.mem{cs C:List T}{ks:List Nat}(h:AbsR H cs C ks):∀{q m:Nat},vG cs q=some m->m ∈ ks:=by
 induction h with
 |nil=>intro q m h;simp[vG] at h
 |own m n N ty sz row r R ks f e h i=>
  intro q M Q;cases q with
  |zero=>simp[vG] at Q;subst Q;simp
  |succ q=>have:=i (q:=q) a26;simp[this]
 |cl t r R ks d h i=>
  intro q M Q;cases q with
  |zero=>
   cases t<;>simp[vG] at Q
   simp[closedOne,W7] at d
  |succ q=>exact i (q:=q) a26
theorem bJ:∀{l:List Nat},lJ l=true->l.Nodup:=by
 intro l;induction l with
 |nil=>intro _;exact .nil
 |cons x l i=>
  intro h;simp only[lJ,O4,i7,xV] at h;exact List.nodup_cons.2 ⟨λM=>Nat.ne_of_beq_eq_false (h.1 x M) rfl,i h.2⟩
theorem AbsR.inj{cs C:List T}{ks:List Nat}(h:AbsR H cs C ks):ks.Nodup->∀{q q' m:Nat},vG cs q=some m->vG cs q'=some m->q=q':=by
 induction h with
 |nil=>intro _ q q' m h;simp[vG] at h
 |own m n N ty sz row r R ks o l h i=>
  intro e q q' M Q d;obtain⟨f,g⟩:=List.nodup_cons.1 e;cases q with
  |zero=>
   cases q' with
   |zero=>rfl
   |succ q'=>
    simp[vG] at Q;subst Q;exact absurd (h.mem (q:=q') (by simpa[vG] using d)) f
  |succ q=>
   cases q' with
   |zero=>
    simp[vG] at d;subst d;exact absurd (h.mem (q:=q) a26) f
   |succ q'=>rw[i g (q:=q) (q':=q') a26 (by simpa[vG] using d)]
 |cl t r R ks j h i=>
  intro e q q' M Q d;have z:vG (t::r) 0=none:=by cases t<;>first|rfl|(simp[closedOne,W7] at j)
  cases q with
  |zero=>rw[z] at Q;cases Q
  |succ q=>
   cases q' with
   |zero=>rw[z] at d;cases d
   |succ q'=>rw[i e (q:=q) (q':=q') a26 (by simpa[vG] using d)]
theorem H5:∀(ks:List Nat) (H:Y4),(D7 H ks).length=H.length:=by
 intro ks;induction ks with
 |nil=>intro H;rfl
 |cons k ks i=>intro H;simp[D7,i]
theorem L8:∀{ks:List Nat} {H:Y4} {i:Nat} {o:Ob},Z1 (D7 H ks) i=some o->Z1 H i=some o/\i ∉ ks:=by
 intro ks;induction ks with
 |nil=>intro H i o h;exact⟨h,W8⟩
 |cons k ks I=>
  intro H i o h;obtain⟨h1,d⟩:=I h;by_cases hk:k<H.length
  ·rw[T9 hk] at h1;split at h1
   ·cases h1
   ·rename_i e;exact⟨h1,by simp[e,d]⟩
  ·rw[List.set_eq_of_length_le Z9] at h1
   refine⟨h1,?_⟩
   have:=H3 h1;simp only[vT,not_or];exact⟨Z9,d⟩
def Env.bump(E:Env)(k v:Nat)(B C:Nat->Nat->Nat):Env:=
 {E with L2:=λa u=>E.L2 a u∨(a=k/\u=v),b2:=λa u r q=>if a=k/\u=v then B r q else E.b2 a u r q,c2:=λa u r q=>if a=k/\u=v then C r q else E.c2 a u r q}
theorem Env.bump_le{E:Env}{k v:Nat}{B C:Nat->Nat->Nat}(h:¬E.L2 k v):E.le (E.bump k v B C):=
 ⟨λ_ h=>h,λ_ h=>h,λ_ _=>rfl,λ_ _=>rfl,λ_ _=>rfl,λ_ _ h=>.inl h,λa u _ _ U=>if_neg (by rintro⟨rfl,rfl⟩;exact h U),λa u _ _ U=>if_neg (by rintro⟨rfl,rfl⟩;exact h U)⟩
theorem s7{row:Nat->List T}{i j r q:Nat}{cs:List T}{t:T}(h:j+cs.length<=(row r).length)(hq:(setRow row i j cs r)[q]? =some t):
  (r=i/\j<=q/\q<j+cs.length/\cs[q-j]? =some t)∨(¬ (r=i/\j<=q/\q<j+cs.length)/\(row r)[q]? =some t):=by
 rw[j6 h] at hq;split at hq
 ·rename_i hb;obtain rfl:=G1 hb;simp only[List.getElem?_append,K2,List.length_take,List.getElem?_take,List.getElem?_drop] at hq
  rw[Nat.min_eq_left Z9] at hq
  by_cases h1:q<j+cs.length
  ·rw[if_pos h1] at hq;by_cases h2:q<j
   ·rw[if_pos h2,if_pos h2] at hq;exact .inr ⟨Z9,hq⟩
   ·rw[if_neg h2] at hq;exact .inl ⟨rfl,Z9,h1,hq⟩
  ·rw[if_neg h1] at hq;refine .inr ⟨Z9,?_⟩
   rw[←hq];congr 1
   omega
 ·rename_i hb;exact .inr ⟨λh=>Nat.ne_of_beq_eq_false hb h.1,hq⟩
theorem T6{row:Nat->List T}{i j r:Nat}{cs:List T}(h:j+cs.length<=(row r).length):(setRow row i j cs r).length=(row r).length:=by
 rw[j6 h];split
 ·simp;omega
 ·rfl
theorem lO(k v:Nat){row:Nat->List T}{i j r:Nat}{cs:List T}(h:j+cs.length<=(row r).length)(C:∀t ∈ cs,closedOne t=true):
  xD k v (setRow row i j cs) r=setRow (xD k v row) i j cs r:=by
 refine List.ext_getElem? λq=>?_
 rw[J9];have hl:j+cs.length<=(xD k v row r).length:=by rw[N8];exact h
 cases Q:(setRow row i j cs r)[q]? with
 |none=>
  have:(row r).length<=q:=by
   rw[←T6 (i:=i) h];rcases Nat.lt_or_ge q (setRow row i j cs r).length with h'|h'
   ·rw[J4 h'] at Q;cases Q
   ·exact h'
  rw[List.getElem?_eq_none (by rw[T6 hl,N8];exact this)]
  rfl
 |some t=>
  have L:q<(setRow (xD k v row) i j cs r).length:=by
   rw[T6 hl,N8,←T6 (i:=i) h];exact(w6.1 Q).1
  have d:=J4 L
  rw[d];rcases s7 h Q with⟨l,f,u,o⟩|⟨l,f⟩<;>rcases s7 hl d with⟨e,g,x,n⟩|⟨e,g⟩
  ·rw[o] at n;simp only[m8];rw[M4 (C t (A4 o))];exact n
  ·exact absurd ⟨l,f,u⟩ e
  ·exact absurd ⟨e,g,x⟩ l
  ·rw[J9,f] at g;exact g
theorem b6S(h:Inv c E H w){t:TypeId}{a x:T}{av xv:Value}{H':Y4}{side:Option Prop}(he:rO P H t a x=some (H',side))(hs:side.getD True)(ha:Rd E w a av)(hx:Rd E w x xv):
  ∃w' E',(Instr.storeAt t av xv).run P w= .ok () w'/\Inv c E' H' w'/\Step E w E' w':=by
 have go:∀{b o:Nat} {w':World},x6 P t (U4 x).length=true->(U4 x).length=xv.cells.size->av= .pointer (some ⟨b,o,none⟩)->(storeCells ⟨b,o,none⟩ xv.cells.toList).run P w= .ok () w'->(Instr.storeAt t av xv).run P w= .ok () w':=by
  intro b o w' hsz hxl hav hst;rw[hav];simp only[Instr.storeAt,Instr.sureAddr,storeVar,D8,B2,E7,(M8 (w:=w) hsz).1];rw[if_neg (by rw[hxl];simp)]
  exact hst
 unfold rO at he;split at he
 ·rename_i k v i j z a b;split at he
  ·rename_i v' ty sz n row A hk hA hsz hpx hone;split at he
   ·rename_i hzb hble;simp only[X2,U0] at he;obtain⟨rfl,rfl⟩:=he;obtain rfl:=G1 hzb;have hb:=zP hble;obtain⟨ty2,sz2,pU,hk2,hj,hcl⟩:=yV hA;rw[hk] at hk2;simp only[X2,Ob.fam.injEq] at hk2;obtain⟨rfl,rfl,rfl,rfl,rfl⟩:=hk2;obtain⟨hv,hi,ha'⟩:PfB v A.v i A.n a A.A.n:=hs;subst hv;obtain⟨hO,hL,hL2⟩:=a10 h.heap hA rfl hi;obtain⟨_,hF,hNk⟩:=h.heap.live _ _ hk;have hF:FamOk E w k A.v ty sz A.n row:=hF;obtain⟨hxl,hxt⟩:=yU hx hpx;have hco:∀t ∈ U4 x,closedOne t=true:=λt ht=>i7.1 hone t ht
    have hc2:E.c2 k A.v i j≠0:=by have h1:A.A.n<=E.c2 k A.v i j:=hO.2.1;omega
    obtain⟨w',hst,ho,ht,hp,hsize,hoth,cs,tyc,hblk,hcs,hlen,hone',hcl',hcell⟩:=vV (P:=P) hO ha' (xs:=U4 x) (vs:=xv.cells.toList) hb (λt ht=>(L0 (hco t ht)).2) (by simp[hxl])
     (λm t v hm hv=>C0 (E:=E) (E':=E.sub k A.v i j A.A.sz) (λb hb=>hb) (hxt m t v hm a0n) (L0 (hco t (A4 hm))).1)
    have hav:av= .pointer (some ⟨E.b2 k A.v i j,a*A.A.sz+b,none⟩):=by cases ha;rfl
    have hfit:j+[T.own A.A.ty A.A.sz A.A.n (setRow A.A.row a b (U4 x))].length<=(row i).length:=by
     have:=(w6.1 hj).1
     simp only[List.length_singleton];omega
    have hlr:∀r,r<A.n->(row r).length=sz:=λr hr=>(by have:=hF.arr.2.2.1 r hr;rwa [N8] at this)
    have hfit':∀r,r<A.n->j+[T.own A.A.ty A.A.sz A.A.n (setRow A.A.row a b (U4 x))].length<=(row r).length:=λr hr=>by rw[hlr r hr,←hlr i hi];exact hfit
    have back:∀(r q:Nat) (t:T),r<A.n->(setRow row i j [T.own A.A.ty A.A.sz A.A.n (setRow A.A.row a b (U4 x))] r)[q]? =some t->(r=i/\q=j/\t= .own A.A.ty A.A.sz A.A.n (setRow A.A.row a b (U4 x)))∨(¬ (r=i/\q=j)/\(row r)[q]? =some t):=by
     intro r q t hr hq;rcases s7 (hfit' r hr) hq with⟨h1,h2,h3,h4⟩|⟨h1,h2⟩
     ·simp only[List.length_singleton] at h3;obtain rfl:q=j:=by omega
      simp at h4;exact .inl ⟨h1,rfl,h4.symm⟩
     ·simp only[List.length_singleton] at h1;exact .inr ⟨λhh=>h1 ⟨hh.1,Z9,Z9⟩,h2⟩
    have hB:∀b',B7 E k (.fam A.v ty sz A.n (setRow row i j [T.own A.A.ty A.A.sz A.A.n (setRow A.A.row a b (U4 x))])) b'->B7 E k (.fam A.v ty sz A.n row) b':=by
     intro b' hb';rcases hb' with hb'|⟨v0,ty0,sz0,n0,K8,i0,j0,oty,osz,on,orow,hobe,hi0,hj0,hc0,rfl⟩
     ·exact .inl hb'
     ·simp only[Ob.fam.injEq] at hobe;obtain⟨rfl,rfl,rfl,rfl,rfl⟩:=hobe;rcases back i0 j0 _ hi0 hj0 with⟨rfl,rfl,_⟩|⟨_,h2⟩
      ·exact .inr ⟨_,_,_,_,_,_,_,_,_,_,_,rfl,hi,hj,hc0,rfl⟩
      ·exact .inr ⟨_,_,_,_,_,_,_,_,_,_,_,rfl,hi0,h2,hc0,rfl⟩
    have:=h.writeO hk ho ht hp Z9 (λb' _ hn=>hoth b' λe=>hn (.inr ⟨_,_,_,_,_,_,_,_,_,_,_,rfl,hi,hj,hc2,e⟩)) (.fam A.v ty sz A.n (setRow row i j [.own A.A.ty A.A.sz A.A.n (setRow A.A.row a b (U4 x))])) hB
     (λu hu=>by
      obtain⟨v0,_,_,_,_,he,hle⟩:=h.heap.cur k _ u hk hu;cases he;exact⟨_,_,_,_,_,rfl,hle⟩) (λhstep=>by
      have hκb:E.κ k≠0->w'.heap[E.β k]? =w.heap[E.β k]? :=λhκ=>hoth _ λe=>((hF.own i j _ _ _ _ hi hj).2 hc2 hκ) e.symm
      obtain⟨e1,e2,e3,e4,e5,cs0,ty0,e6,e7,e8⟩:=hF.arr;refine l7 (E:=E) hF.l2 e1 e2 cs0 ty0 (λhκ=>by rw[hκb hκ];exact e6 hκ) e7 (λr hr=>by rw[T6 (hfit' r hr)];exact hlr r hr) (λr q t hr hq=>?_) (λi1 j1 i2 j2 oty osz on orow oty' osz' on' orow' h1 h2 h3 h4 h5 h6 h7=>?_)
      ·rcases back r q t hr hq with⟨rfl,rfl,rfl⟩|⟨hne,hq0⟩
       ·obtain⟨u,hu,hru⟩:=e8 r q (.posl k A.v r q A.A.n) hr (by simp only;rw[J9,hj];rfl)
        refine⟨u,hu,.inr ⟨_,_,_,_,rfl,hstep.rd hru,?_,(hF.own r q _ _ _ _ hr hj).2⟩⟩
        refine⟨hO.1,hO.2.1,hlen,hone',λ_ r t hr ht=>hcl' hcl (λt ht=>(L0 (hco t ht)).1) r t hr ht,cs,tyc,λ_=>hblk,hcs,λr1 q1 t1 hr1 hq1=>?_⟩
        obtain⟨u1,hu1,hrd1,_⟩:=hcell r1 q1 t1 hr1 hq1;refine⟨u1,hu1,?_⟩
        have hct:=hcl' hcl (λt ht=>(L0 (hco t ht)).1) r1 t1 hr1 (A4 hq1)
        have:=hstep.rd (C0 (E:=E.sub k A.v r q A.A.sz) (E':=E) (λb hb=>hb) hrd1 hct)
        exact C0 (E:=E) (E':=E.sub k A.v r q A.A.sz) (λb hb=>hb) this hct
       ·obtain⟨u,hu,hru⟩:=e8 r q (sP k A.v r q t) hr (by simp only;rw[J9,hq0];rfl)
        rcases hF.cell hr hq0 with hc|⟨oty,osz,on,orow,rfl⟩
        ·rw[M4 hc] at hru;exact⟨u,hu,.inl ⟨hc,hstep.rd hru⟩⟩
        ·obtain⟨g1,g2⟩:=hF.own r q _ _ _ _ hr hq0;refine⟨u,hu,.inr ⟨_,_,_,_,rfl,hstep.rd hru,g1.closed (k':=0) (E':=E.sub k A.v r q osz) rfl (λb hb=>hb) (λb hb=>hstep.same b hb) rfl rfl rfl (λhc0=>hoth _ λe=>hne ?_),g2⟩⟩
         exact hF.inj r q i j _ _ _ _ _ _ _ _ hr hi hq0 hj hc0 hc2 e
      ·have own:∀(r q:Nat) (oty:TypeId) (osz on:Nat) (orow:Nat->List T),r<A.n->(setRow row i j [T.own A.A.ty A.A.sz A.A.n (setRow A.A.row a b (U4 x))] r)[q]? =some (T.own oty osz on orow)->∃(oty':TypeId) (osz' on':Nat) (orow':Nat->List T),(row r)[q]? =some (T.own oty' osz' on' orow'):=by
        intro r q oty osz on orow hr hq;rcases back r q _ hr hq with⟨rfl,rfl,_⟩|⟨_,h2⟩
        ·exact⟨_,_,_,_,hj⟩
        ·exact⟨_,_,_,_,h2⟩
       obtain⟨_,_,_,_,p1⟩:=own i1 j1 _ _ _ _ h1 h3;obtain⟨_,_,_,_,p2⟩:=own i2 j2 _ _ _ _ h2 h4;exact hF.inj i1 j1 i2 j2 _ _ _ _ _ _ _ _ h1 h2 p1 p2 h5 h6 h7)
    exact⟨w',E,go hsz hxl hav hst,this.1,this.2⟩
   ·cases he
  ·cases he
 ·rename_i k i j;have hav:=a0S ha;split at he
  ·rename_i cl ty sz n row hk hsz hpx hone;split at he
   ·rename_i hble;simp only[X2,U0] at he;obtain⟨rfl,rfl⟩:=he;have hi:=b5r hs;have hj:=zP hble;obtain⟨hL,hA,hN⟩:=h.heap.live _ _ hk;have hA:T4 E w k ⟨cl,ty,sz,n,row⟩:=hA;obtain⟨hxl,hxt⟩:=yU hx hpx;obtain⟨w',hst,ho,ht,hp,hsize,hoth,cs,tyc,hblk,hcs,hlen,hone',hcl',hcell⟩:=vV (P:=P) hA hi (xs:=U4 x) (vs:=xv.cells.toList) hj (λt ht=>i7.1 hone t ht) (by simp[hxl]) (λm t v hm hv=>hxt m t v hm a0n)
    have hκ:E.κ k≠0:=by have h1:n<=E.κ k:=hA.2.1;have h2:i<n:=hi;omega
    have:=h.write hk rfl ho ht hp Z9 (λb _ hne=>hoth b hne) hκ (.arr (cl&&(U4 x).all W7) ty sz n (setRow row i j (U4 x))) cs tyc hblk hA.1.symm (by rw[hA.1];exact hcs) hA.2.1 hlen hone'
     (λhc r t hr ht=>by simp only[Ob.toArr,O4] at hc;exact hcl' hc.1 (λt ht=>i7.1 hc.2 t ht) r t hr ht) (λr q t hr hq=>by obtain⟨u,hu,hrd,_⟩:=hcell r q t hr hq;exact⟨u,hu,hrd⟩)
    exact⟨w',E,go hsz hxl hav hst,this.1,this.2⟩
   ·cases he
  ·rename_i ty l hk hsz hpx hone;split at he
   ·rename_i m;simp only[X2,U0] at he;obtain⟨rfl,rfl⟩:=he;obtain⟨hi,hm⟩:i<l.length/\O7 .u8 m:=hs;obtain⟨hL,hA,hN⟩:=h.heap.live _ _ hk;have hA:T4 E w k ⟨true,ty,1,l.length,C5 l⟩:=hA;obtain⟨hxl,hxt⟩:=yU hx hpx;have hκ:E.κ k≠0:=by have h1:l.length<=E.κ k:=hA.2.1;omega
    obtain⟨w',hst,ho,ht,hp,hsize,hoth,cs,tyc,hblk,hcs,hlen,hone',hcl',hcell⟩:=vV (P:=P) hA hi (j:=0) (xs:=[.int .u8 m]) (vs:=xv.cells.toList) (V8 1) (by simp[I7]) (by simp at hxl ⊢;exact hxl.symm) (λm t v hm hv=>hxt m t v hm a0n)
    have:=h.write hk rfl ho ht hp Z9 (λb _ hne=>hoth b hne) hκ (.bys ty (l.set i (Q8 m))) cs tyc hblk hA.1.symm (by rw[hA.1];exact hcs) (by simp only[Ob.toArr,yT];exact hA.2.1) (λr hr'=>rfl) (λr t hr' ht=>a9T) (λ_ r t hr' ht=>a9T) (λr q t hr hq=>by
      simp only[Ob.toArr,yT] at hr hq ⊢;have hq0:q=0:=by
       have:=(w6.1 hq).1
       simp[C5] at this;exact this
      subst hq0;simp only[C5,List.getElem?_cons_zero,X2] at hq
      subst hq;have hrow:(setRow (C5 l) i 0 [.int .u8 m] r)[0]? =some (if r=i then .int .u8 m else .int .u8 ((l.getD r 0).toNat:Int)):=by
       rw[j6 (by simp[C5])]
       split
       ·rename_i hb;rw[if_pos (G1 hb)];rfl
       ·rename_i hb;rw[if_neg (Nat.ne_of_beq_eq_false hb)];rfl
      obtain⟨u,hu,hrd,_⟩:=hcell r 0 _ hr hrow;refine⟨u,hu,?_⟩
      by_cases he:r=i
      ·rw[if_pos he] at hrd;subst he;rw[show((l.set r (Q8 m)).getD r 0)=Q8 m by simp[List.getD,hi],a2d hm]
       exact hrd
      ·rw[if_neg he] at hrd;rw[show((l.set i (Q8 m)).getD r 0)=l.getD r 0 by simp[List.getD,Ne.symm he]]
       exact hrd)
    exact⟨w',E,go hsz hxl hav hst,this.1,this.2⟩
   ·cases he
  ·rename_i v ty sz n row hk hsz hpx hone;split at he
   case h_2=>cases he
   rename_i hble;have hj:=zP hble;obtain⟨hL,hF,hN⟩:=h.heap.live _ _ hk;have hF:FamOk E w k v ty sz n row:=hF;obtain⟨hxl,hxt⟩:=yU hx hpx;have hlr:∀r,r<n->(row r).length=sz:=λr hr=>(by have:=hF.arr.2.2.1 r hr;rwa [N8] at this)
   have hklt:=H3 hk;have hcurk:∀u,E.L2 k u->u<=v:=λu hu=>by
    obtain⟨v0,_,_,_,_,he,hle⟩:=h.heap.cur k _ u hk hu;cases he;exact hle
   split at he
   ·-- cells that own nothing
    rename_i hco;simp only[X2,U0] at he;obtain⟨rfl,rfl⟩:=he;obtain⟨hi,hno⟩:a1o i n (((row i).drop j).take (U4 x).length):=hs;have hco:∀t ∈ U4 x,closedOne t=true:=λt ht=>i7.1 hco t ht
    obtain⟨w',hst,ho,ht,hp,hsize,hoth,cs,tyc,hblk,hcs,hlen,hone',hcl',hcell⟩:=vV (P:=P) hF.arr hi (xs:=U4 x) (vs:=xv.cells.toList) hj (λt ht=>i7.1 hone t ht) (by simp[hxl]) (λm t v hm hv=>hxt m t v hm a0n)
    have hfit:∀r,r<n->j+(U4 x).length<=(row r).length:=λr hr=>by rw[hlr r hr];exact hj
    have old:∀(r q:Nat) (oty:TypeId) (osz on:Nat) (orow:Nat->List T),r<n->(setRow row i j (U4 x) r)[q]? =some (T.own oty osz on orow)->(row r)[q]? =some (T.own oty osz on orow):=by
     intro r q oty osz on orow hr hq;rcases s7 (hfit r hr) hq with⟨_,_,_,h4⟩|⟨_,h2⟩
     ·have:=hco _ (A4 h4);simp[closedOne,W7] at this
     ·exact h2
    have hB:∀b',B7 E k (.fam v ty sz n (setRow row i j (U4 x))) b'->B7 E k (.fam v ty sz n row) b':=by
     intro b' hb';rcases hb' with hb'|⟨v0,ty0,sz0,n0,K8,i0,j0,oty,osz,on,orow,hobe,hi0,hj0,hc0,rfl⟩
     ·exact .inl hb'
     ·simp only[Ob.fam.injEq] at hobe;obtain⟨rfl,rfl,rfl,rfl,rfl⟩:=hobe;exact .inr ⟨_,_,_,_,_,_,_,_,_,_,_,rfl,hi0,old _ _ _ _ _ _ hi0 hj0,hc0,rfl⟩
    have hκ:E.κ k≠0:=by have h1:n<=E.κ k:=hF.arr.2.1;omega
    have:=h.writeO hk ho ht hp Z9 (λb' _ hn=>hoth b' λe=>hn (.inl ⟨hκ,e⟩)) (.fam v ty sz n (setRow row i j (U4 x))) hB (λu hu=>⟨_,_,_,_,_,rfl,hcurk u hu⟩) (λhstep=>by
     refine l7 (E:=E) hF.l2 hF.arr.1 hF.arr.2.1 cs tyc (λ_=>hblk) hcs (λr hr=>(by rw[T6 (hfit r hr)];exact hlr r hr)) (λr q t hr hq=>?_) (λi1 j1 i2 j2 oty osz on orow oty' osz' on' orow' h1 h2 h3 h4 h5 h6 h7=>?_)
     ·obtain⟨u,hu,hrd,_⟩:=hcell r q (sP k v r q t) hr (by simp only;rw[←lO k v (hfit r hr) hco,J9,hq];rfl)
      rcases s7 (hfit r hr) hq with⟨_,_,_,h4⟩|⟨_,h2⟩
      ·have hc:=hco _ (A4 h4);rw[M4 hc] at hrd;exact⟨u,hu,.inl ⟨hc,hstep.rd hrd⟩⟩
      ·rcases hF.cell hr h2 with hc|⟨oty,osz,on,orow,rfl⟩
       ·rw[M4 hc] at hrd;exact⟨u,hu,.inl ⟨hc,hstep.rd hrd⟩⟩
       ·obtain⟨g1,g2⟩:=hF.own r q _ _ _ _ hr h2;exact⟨u,hu,.inr ⟨_,_,_,_,rfl,hstep.rd hrd,g1.closed (k':=0) (E':=E.sub k v r q osz) rfl (λb hb=>hb) (λb hb=>hstep.same b hb) rfl rfl rfl (λhc0=>hoth _ (g2 hc0 hκ)),g2⟩⟩
     ·exact hF.inj i1 j1 i2 j2 _ _ _ _ _ _ _ _ h1 h2 (old _ _ _ _ _ _ h1 h3) (old _ _ _ _ _ _ h2 h4) h5 h6 h7)
    exact⟨w',E,go hsz hxl hav hst,this.1,this.2⟩
   ·-- cells that are given rows
    split at he
    case h_2=>cases he
    rename_i A hA;split at he
    case h_2=>cases he
    rename_i hnd;simp only[X2,U0] at he;obtain⟨rfl,rfl⟩:=he;have hi:i<n:=by cases hAs:A.side with
     |none=>rw[hAs] at hs;exact hs
     |some p=>rw[hAs] at hs;exact hs.1
    have hsd:A.side.getD True:=by cases hAs:A.side with
     |none=>trivial
     |some p=>rw[hAs] at hs;exact hs.2
    have hR:=gA hA hsd;have hnd:=bJ hnd;obtain⟨hkn,hnd⟩:=List.nodup_cons.1 hnd;have hl':=hR.length;obtain⟨w',hst,ho,ht,hp,hsize,hoth,cs,tyc,hblk,hcs,_,_,_,hcell⟩:=vV (P:=P) hF.arr hi (xs:=U4 x) (vs:=xv.cells.toList) hj (λt ht=>i7.1 hone t ht) (by simp[hxl]) (λm t v hm hv=>hxt m t v hm a0n)
    have hfit:∀r,r<n->j+A.cs.length<=(row r).length:=λr hr=>by rw[hlr r hr,hl'];exact hj
    have hfitx:∀r,r<n->j+(U4 x).length<=(xD k v row r).length:=λr hr=>by rw[N8,hlr r hr];exact hj
    have hκ:E.κ k≠0:=by have h1:n<=E.κ k:=hF.arr.2.1;omega
    let S:c3D:=λr q=>if r=i/\j<=q/\q<j+(U4 x).length then(match vG (U4 x) (q-j) with|some m=>.inr m|none=>.inl (r,q)) else .inl (r,q)
    have hnL2:¬E.L2 k (v+1):=λhu=>by have:=hcurk _ hu;omega
    let E':=E.bump k (v+1) (λr q=>qO E k v (S r q)) (λr q=>kI E k v (S r q))
    have hle:E.le E':=Env.bump_le hnL2;have hstep:Step E w E' w':=⟨hle,λb hb=>hoth b λe=>hN b (.inl ⟨hκ,e⟩) hb,λ_ h=>.inl h⟩
    have hb2:∀r q,E'.b2 k (v+1) r q=qO E k v (S r q):=λr q=>if_pos ⟨rfl,rfl⟩
    have hc2:∀r q,E'.c2 k (v+1) r q=kI E k v (S r q):=λr q=>if_pos ⟨rfl,rfl⟩
    have cellN:∀(r q:Nat) (t:T),r<n->(setRow row i j A.cs r)[q]? =some t->
      (∃m nn N oty osz orow,t= .own oty osz nn orow/\r=i/\j<=q/\q<j+(U4 x).length/\(U4 x)[q-j]? =some (.osl m 0 nn)/\Z1 H m=some (.arr true oty osz N orow)/\nn<=N/\m ∈ A.ks/\S r q= .inr m)∨
      (closedOne t=true/\r=i/\j<=q/\q<j+(U4 x).length/\(U4 x)[q-j]? =some t)∨(¬ (r=i/\j<=q/\q<j+(U4 x).length)/\(row r)[q]? =some t/\S r q= .inl (r,q)):=by
     intro r q t hr hq;rcases s7 (hfit r hr) hq with⟨h1,h2,h3,h4⟩|⟨h1,h2⟩
     ·rw[hl'] at h3;rcases hR.get h4 with⟨g1,g2⟩|⟨m,nn,N,oty,osz,orow,rfl,g2,g3,g4,g5⟩
      ·exact .inr (.inl ⟨g1,h1,h2,h3,g2⟩)
      ·refine .inl ⟨m,nn,N,oty,osz,orow,rfl,h1,h2,h3,g2,g3,g4,g5,?_⟩
       simp only[S,if_pos (And.intro h1 (And.intro h2 h3)),vG,g2]
     ·rw[hl'] at h1;exact .inr (.inr ⟨h1,h2,if_neg h1⟩)
    have hFam:FamOk E' w' k (v+1) ty sz n (setRow row i j A.cs):=by
     refine a2Z (E:=E) (w:=w) h.heap hstep hk S (.inr ⟨rfl,rfl⟩) hb2 hc2 hF.arr.1 hF.arr.2.1 cs tyc (λ_=>hblk) hcs (λr hr=>(by rw[T6 (hfit r hr)];exact hlr r hr)) (λr q t hr hq=>?_) (λi1 j1 i2 j2 oty osz on orow oty' osz' on' orow' h1 h2 h3 h4 h5=>?_) (λb hb=>hoth b ?_) (λb hb _=>?_)
     ·have hx1:∃t1,(setRow (xD k v row) i j (U4 x) r)[q]? =some t1:=by
       have:q<(setRow (xD k v row) i j (U4 x) r).length:=by
        rw[T6 (hfitx r hr),N8,←T6 (i:=i) (hfit r hr)];exact(w6.1 hq).1
       exact⟨_,J4 this⟩
      obtain⟨t1,ht1⟩:=hx1;obtain⟨u,hu,hrd,hwh⟩:=hcell r q t1 hr ht1;refine⟨u,hu,?_⟩
      rcases cellN r q t hr hq with⟨m,nn,N,oty,osz,orow,rfl,h1,h2,h3,g2,g3,g4,g5,g6⟩|⟨hc,h1,h2,h3,g2⟩|⟨hne,h2,g6⟩
      ·rcases hwh with⟨_,_,_,h4⟩|⟨h4,_⟩
       ·rw[g2] at h4;simp only[X2] at h4;subst h4;refine .inr ⟨_,_,_,_,rfl,?_⟩
        rw[g6];exact⟨λe=>hkn (e▸g5),⟨_,_,g3,g4⟩,hrd⟩
       ·exact absurd ⟨h1,h2,h3⟩ h4
      ·rcases hwh with⟨_,_,_,h4⟩|⟨h4,_⟩
       ·rw[g2] at h4;simp only[X2] at h4;subst h4;exact .inl ⟨hc,hrd⟩
       ·exact absurd ⟨h1,h2,h3⟩ h4
      ·rcases hwh with⟨p1,p2,p3,_⟩|⟨_,h4⟩
       ·exact absurd ⟨p1,p2,p3⟩ hne
       ·simp only at h4;rw[J9,h2] at h4;simp only[m8,X2] at h4;subst h4;rcases hF.cell hr h2 with hc|⟨oty,osz,on,orow,rfl⟩
        ·rw[M4 hc] at hrd;exact .inl ⟨hc,hrd⟩
        ·refine .inr ⟨_,_,_,_,rfl,?_⟩
         rw[g6];exact⟨hr,⟨_,h2⟩,hrd⟩
     ·rcases cellN i1 j1 _ h1 h3 with⟨m,nn,N,_,_,_,_,p1,p2,p3,p4,_,_,p5,p6⟩|⟨hc,_⟩|⟨p1,p2,p6⟩
      ·rcases cellN i2 j2 _ h2 h4 with⟨m',nn',N',_,_,_,_,q1,q2,q3,q4,_,_,q5,q6⟩|⟨hc,_⟩|⟨q1,q2,q6⟩
       ·rw[p6,q6] at h5;simp only[Sum.inr.injEq] at h5;subst h5;have:=hR.inj hnd (q:=j1-j) (q':=j2-j) (m:=m) (by simp[vG,p4]) (by simp[vG,q4])
        exact⟨Z9,Z9⟩
       ·simp[closedOne,W7] at hc
       ·rw[p6,q6] at h5;cases h5
      ·simp[closedOne,W7] at hc
      ·rcases cellN i2 j2 _ h2 h4 with⟨m',nn',N',_,_,_,_,q1,q2,q3,q4,_,_,q5,q6⟩|⟨hc,_⟩|⟨q1,q2,q6⟩
       ·rw[p6,q6] at h5;cases h5
       ·simp[closedOne,W7] at hc
       ·rw[p6,q6] at h5;simp only[Sum.inl.injEq,U0] at h5;exact h5
     ·rcases hb with⟨r,q,rfl,hcq,v0,ty0,sz0,n0,K8,i0,j0,oty,osz,on,orow,hobe,hi0,hj0,hc0,he0⟩|⟨m,o,hmk,hmo,hmb⟩
      ·simp only[Ob.fam.injEq] at hobe;obtain⟨rfl,rfl,rfl,rfl,rfl⟩:=hobe;rw[he0];exact(hF.own i0 j0 _ _ _ _ hi0 hj0).2 hc0 hκ
      ·rintro rfl;exact hmk (h.heap.inj m k _ _ _ hmo hk hmb (.inl ⟨hκ,rfl⟩))
     ·show b≠E.β k;rcases hb with⟨r,q,rfl,hcq,v0,ty0,sz0,n0,K8,i0,j0,oty,osz,on,orow,hobe,hi0,hj0,hc0,he0⟩|⟨m,o,hmk,hmo,hmb⟩
      ·simp only[Ob.fam.injEq] at hobe;obtain⟨rfl,rfl,rfl,rfl,rfl⟩:=hobe;rw[he0];exact(hF.own i0 j0 _ _ _ _ hi0 hj0).2 hc0 hκ
      ·rintro rfl;exact hmk (h.heap.inj m k _ _ _ hmo hk hmb (.inl ⟨hκ,rfl⟩))
    have hgs:∀i o,Z1 ((D7 H A.ks).set k (some (.fam (v+1) ty sz n (setRow row i j A.cs)))) i=some o->True:=λ_ _ _=>trivial
    have hklt':k<(D7 H A.ks).length:=by rw[H5];exact hklt
    refine⟨w',E',go hsz hxl hav hst,h.to ho ht hp Z9 hstep k (λm=>m=k∨m ∈ A.ks) (λ_ h=>h) (λi2 o2 hi2 hne=>?_) (λo2 ho2=>?_) (λb hb hn=>hoth b λe=>hn k _ (.inl rfl) hk (.inl ⟨hκ,e⟩)) (λi2 hi2=>by rw[yT,H5];exact h.heap.lt i2 hi2) (λi2 v2 hv2=>?_) (λo2 i2 v2 hi2 hv2=>?_),hstep⟩
    ·rw[T9 hklt',if_neg hne] at hi2;obtain⟨g1,g2⟩:=L8 hi2;exact⟨g1,λhh=>hh.elim hne g2⟩
    ·rw[T9 hklt',if_pos rfl] at ho2;simp only[X2] at ho2;subst ho2;refine⟨hL,hFam,λb hb=>.inr ?_⟩
     rcases hb with hb|⟨v0,ty0,sz0,n0,K8,i0,j0,oty,osz,on,orow,hobe,hi0,hj0,hc0,rfl⟩
     ·exact⟨k,_,.inl rfl,hk,.inl hb⟩
     ·simp only[Ob.fam.injEq] at hobe;obtain⟨rfl,rfl,rfl,rfl,rfl⟩:=hobe;rw[hc2] at hc0;rw[hb2];rcases cellN i0 j0 _ hi0 hj0 with⟨m,nn,N,_,_,_,he3,p1,p2,p3,p4,p7,_,p5,p6⟩|⟨hc,_⟩|⟨p1,p2,p6⟩
      ·rw[p6] at hc0 ⊢;exact⟨m,_,.inr p5,p7,.inl ⟨hc0,rfl⟩⟩
      ·simp[closedOne,W7] at hc
      ·rw[p6] at hc0 ⊢;exact⟨k,_,.inl rfl,hk,.inr ⟨_,_,_,_,_,_,_,_,_,_,_,rfl,hi0,p2,hc0,rfl⟩⟩
    ·rcases hv2 with hv2|⟨rfl,rfl⟩
     ·exact h.heap.l2 _ _ hv2
     ·exact hL
    ·rw[T9 hklt'] at hi2;split at hi2
     ·rename_i he2;subst he2;simp only[X2] at hi2;subst hi2;refine⟨_,_,_,_,_,rfl,?_⟩
      rcases hv2 with hv2|⟨_,rfl⟩
      ·have:=hcurk _ hv2;omega
      ·exact V8 _
     ·rename_i hne;obtain⟨g1,g2⟩:=L8 hi2;rcases hv2 with hv2|⟨e1,_⟩
      ·exact h.heap.cur _ _ _ g1 hv2
      ·exact absurd e1 hne
  ·cases he
 ·cases he
end
section
variable {c:Ctx} {E:Env} {H:Y4} {w w':World} {P:Program}
theorem yP{e:TypeId}(h:j5 P e=true):P.underlying e=some (.int .u8)/\zeroCells P e=some [.int .u8 0]:=by
 unfold j5 at h;split at h
 ·rename_i n u z;have:=E4 h;subst this;exact⟨u,z⟩
 ·cases h
theorem a1n{k b κ z n:Nat}(h:n<=κ):Rd (E.push k b κ z) w (.osl k 0 n) (.slice (some ⟨b,0,none⟩) n κ):=by
 have:=Rd.osl (E:=E.push k b κ z) (w:=w) k 0 n 0 (some ⟨b,0,none⟩) (.inr rfl) (by rw[show(E.push k b κ z).κ k=κ from if_pos rfl];omega) (λ_=>W8) (λ_=>by rw[show(E.push k b κ z).β k=b from if_pos rfl])
 rw[show(E.push k b κ z).κ k=κ from if_pos rfl] at this
 exact this
theorem b9U(h:Inv c E H w){t:TypeId}{l m:T}{lv V:Value}{y:T}{H':Y4}{side:Option Prop}(he:a2i P H t l m=some (y,H',side))(hs:side.getD True)(hl:Rd E w l lv)(hm:Rd E w m V):
  ∃r w' E',(Instr.makeSlice t lv V).run P w= .ok r w'/\Rd E' w' y r/\Inv c E' H' w'/\Step E w E' w':=by
 unfold a2i at he;split at he
 ·rename_i e n m hu;split at he
  ·rename_i i z hi hz;split at he
   ·rename_i h1 h2 hone;simp only[X2,U0] at he;obtain⟨rfl,rfl,rfl⟩:=he;obtain⟨hn0,hnm,hby,hlt⟩:0<=n/\n<=m/\mK i.bytes m.toNat 140737488355328/\m.toNat<9223372036854775808:=hs;unfold mK at hby;have hzl:=G1 h1;have hsz0:=Nat.ne_of_beq_eq_false h2;obtain⟨v,_,hrl,i',hi',hzv⟩:=j4 (E:=E) (w:=w) hz;rw[hi] at hi';simp only[X2] at hi';subst hi';rw[J3 hl,J3 hm];have hmm:((m.toNat:Nat):Int)=m:=by omega
    have q:(i.bytes:Int)*m<=281474976710656:=by
     have:((i.bytes*m.toNat:Nat):Int)<=140737488355328:=Z9
     rw[Int.natCast_mul,hmm] at this;omega
    have o:=run_make (P:=P) w t e i v hu hi hzv .i64 .i64 n m hn0 hnm q Z9
    obtain⟨Q,R,B,I,F⟩:=C4 w (.cells (madeCells v.cells (m.toNat*i.size)) e);have u:v.cells.size=i.size:=by rw[←hrl.1];exact hzl
    have L:∀(r j:Nat),r<m.toNat->j<i.size->(madeCells v.cells (m.toNat*i.size))[r*i.size+j]? =v.cells[j]? :=by
     intro r j hr hj;have g:r*i.size+j<m.toNat*i.size:=by
      have:(r+1)*i.size<=m.toNat*i.size:=lD _ hr;rw[Nat.add_mul] at this;omega
     unfold madeCells;simp only[Array.getElem?_map,Array.getElem?_range]
     rw[if_pos g];simp only[m8,u];rw[show(r*i.size+j) % i.size=j by rw[Nat.add_comm,Nat.add_mul_mod_self_right,Nat.mod_eq_of_lt hj]]
     have:v.cells[j]? =some v.cells[j]! :=by
      rw[uJ Z9,getElem!_pos v.cells j Z9]
     rw[this]
    have M:∀(ob:Ob),ob.isArr=true->ob.toArr.sz=i.size->ob.toArr.n=n.toNat->(∀r,ob.toArr.row r=z∨(r<n.toNat->ob.toArr.row r=z))->(ob.toArr.cl=true->∀t ∈ z,W7 t=true)->
      ∃r w' E',(Instr.makeSlice t (.int .i64 n) (.int .i64 m)).run P w= .ok r w'/\Rd E' w' (.osl H.length 0 n.toNat) r/\Inv c E' (H++[some ob]) w'/\Step E w E' w':=by
     intro ob A Z N W x;have d:∀r,r<n.toNat->ob.toArr.row r=z:=λr hr=>by rcases W r with h|h;exact h;exact h hr
     have:=h.push Q R B W8 I ob w.heap.size m.toNat _ e (λ_=>V8 _) (λ_=>F) (by rw[Z,size_madeCells]) (by rw[N];omega)
      (λr hr=>by rw[Z,d r Z9];exact hzl) (λr t hr f=>by rw[d r Z9] at f;exact i7.1 hone t f) (λC r t hr f=>by rw[d r Z9] at f;exact x C t f)
      (λr j t hr hj=>by
       rw[N] at hr;rw[d r hr] at hj;have O:j<z.length:=(w6.1 hj).1
       have J:v.cells[j]? =some (v.cells[j]' Z9):=uJ _
       exact⟨_,by rw[Z,L r j Z9 Z9];exact J,hrl.2 _ _ _ hj J⟩) A
     refine⟨_,_,_,o,?_,this.1,this.2⟩
     rw[Z];exact a1n Z9
    split
    ·rename_i hb;have hz1:=(yP hb).2;rw[hz] at hz1;simp only[X2] at hz1;have hs1:i.size=1:=by rw[←hzl,hz1];rfl
     refine M (.bys e (List.replicate n.toNat 0)) rfl hs1.symm a3P (λr=>.inr λhr=>?_) (λ_ t f=>by rw[hz1] at f;simp at f;subst f;rfl)
     simp only[Ob.toArr,C5,hz1];simp[List.getD,hr]
    ·exact M (.arr (z.all W7) e i.size n.toNat λ_=>z) rfl rfl rfl (λ_=>.inl rfl) (λC t f=>i7.1 C t f)
   ·cases he
  ·cases he
 ·cases he
theorem b1X:∀(cs:List T) (N:List Int),wM cs=some N->cs=N.map (.int .u8):=by
 intro cs;induction cs with
 |nil=>intro N h;simp[wM] at h;subst h;rfl
 |cons x cs i=>
  intro N h;unfold wM at h;split at h
  ·rename_i heq;cases heq
  ·rename_i n r heq;simp only[List.cons.injEq] at heq;obtain⟨rfl,rfl⟩:=heq;cases hb:wM cs with
   |none=>rw[hb] at h;cases h
   |some M=>
    rw[hb] at h;simp only[m8,X2] at h;subst h;rw[i M hb];rfl
  ·cases h
theorem b9E:∀(d:List Int),(b7v d).getD True->∀n ∈ d,O7 .u8 n:=by
 intro d;induction d with
 |nil=>intro _ n N;cases N
 |cons m d i=>
  intro h n N;unfold b7v at h;cases r:b7v d with
  |none=>
   rw[r] at h i;simp only[Option.getD_some] at h;rcases vT.1 N with rfl|N
   ·exact h
   ·exact i trivial n N
  |some p=>
   rw[r] at h i;simp only[Option.getD_some] at h i;rcases vT.1 N with rfl|N
   ·exact h.1
   ·exact i h.2 n N
theorem b9u{n:Int}{v:Value}(N:O7 .u8 n)(h:Rd E w (.int .u8 n) v):Rd E w (.int .u8 ((Q8 n).toNat:Int)) v:=by
 rw[a2d N];exact h
theorem oF{e:Nat->Option (Nat×Nat)}:∀(parts:List (Nat×T)) (cs out:List T),a7 e cs parts=some out->out.length=cs.length:=by
 intro parts;induction parts with
 |nil=>intro cs out h;simp[a7] at h;rw[h]
 |cons p parts I=>
  intro cs out h;obtain⟨i,x⟩:=p;simp only[a7] at h;split at h
  ·split at h
   ·rename_i g f;have d:=zP f;rw[I _ _ h];simp;omega
   ·cases h
  ·cases h
theorem aW(h:Inv c E H w){a:Act}{s:W5}{t e:TypeId}{len:Nat}{parts:Array (Nat×Operand)}{i:TypeInfo}{z cs:List T}(hu:P.underlying t=some (.slice e))(hi:P.info? e=some i)(hz:zeroCells P e=some z)
  (Y:Nat.beq z.length i.size=true) (W:Nat.beq i.size 0=false) (h3:Nat.ble (len*i.size) 16777216=true) (l:a7 (λk=>some (k*i.size,i.size)) ((List.replicate len z).flatten) (parts.toList.map λp=>(p.1,L3 s p.2))=some cs)
  (M:∀p ∈ parts.toList,G0 E w a s p.2):
  ∃U,(Instr.buildSlice t len (parts.map λ(i,x)=>(i,a.eval x))).run P w= .ok (.slice (some ⟨w.heap.size,0,none⟩) len len) (w.alloc (.cells U e))/\tT E w cs U/\cs.length=len*i.size:=by
 have d:∀(i:Nat) (p:Nat×T) (q:Nat×Value),(parts.toList.map λp=>(p.1,L3 s p.2))[i]? =some p->(parts.map λ(i,x)=>(i,a.eval x)).toList[i]? =some q->p.1=q.1/\Rd E w p.2 q.2:=by
  intro i p q hp V;simp only[Array.toList_map,pW,G4] at hp V
  obtain⟨x,hx,rfl⟩:=hp;obtain⟨x',j,rfl⟩:=V;rw[hx] at j;simp only[X2] at j;subst j;exact⟨rfl,M x (A4 hx)⟩
 have N:(parts.toList.map λp=>(p.1,L3 s p.2)).length=(parts.map λ(i,x)=>(i,a.eval x)).toList.length:=W8
 have L:=G1 Y;have A:=Nat.ne_of_beq_eq_false W;have ab:=zP h3;obtain⟨v,hv,C,i',o,aa⟩:=j4 (E:=E) (w:=w) hz;rw[hi] at o;simp only[X2] at o;subst o;have R:v.cells.size=i.size:=by rw[←C.1];exact L
 have f:P.cellsOf e=i.size:=by unfold Program.cellsOf;rw[hi];rfl
 have Z:(sizeOf e).run P w= .ok i.size w:=by rw[C2 e (by rw[hi];rfl),f]
 have F:∀(m k:Nat),((List.replicate m z).flatten)[k]? =if k<m*z.length then z[k % z.length]? else none:=by
  intro m;induction m with
  |zero=>intro k;simp
  |succ m ih=>
   intro k;rw[List.replicate_succ,List.flatten_cons,List.getElem?_append]
   by_cases hk:k<z.length
   ·rw[if_pos hk,if_pos aM,Nat.mod_eq_of_lt hk]
   ·rw[if_neg hk,ih];by_cases hk2:k-z.length<m*z.length
    ·rw[if_pos hk2,if_pos aM,←Nat.mod_eq_sub_mod (a:=k) Z9]
    ·rw[if_neg hk2,if_neg aM]
 have O:tT E w ((List.replicate len z).flatten) ((Array.range (len*i.size)).map (v.cells[· % v.cells.size]!)):=by
  refine⟨by simp[L],λk t x J hx=>?_⟩
  rw[F] at J;split at J
  ·rename_i hk;simp only[Array.getElem?_map,Array.getElem?_range] at hx
   rw[if_pos (by rw[←L];exact hk)] at hx
   simp only[m8,X2] at hx;subst hx;have r:k % v.cells.size<v.cells.size:=Nat.mod_lt _ Z9
   refine C.2 (k % z.length) _ _ J ?_
   rw[getElem!_pos v.cells _ r,L,←R];exact uJ r
  ·cases J
 obtain⟨U,u,I⟩:=jD _ _ _ _ _ l O N d;have B:(Instr.buildSlice t len (parts.map λ(i,x)=>(i,a.eval x))).run P w= .ok (.slice (some ⟨w.heap.size,0,none⟩) len len) (w.alloc (.cells U e)):=by
  simp only[Instr.buildSlice,D8,run_underlying hu,E7,Z];rw[if_neg Z9]
  by_cases g:len*i.size=0
  ·rw[if_pos g];simp only[D8,B2,E7];have X:len=0:=by
    rcases Nat.mul_eq_zero.1 g with h|h
    ·exact h
    ·exact absurd h A
   have Q:((Array.range (len*i.size)).map (v.cells[· % v.cells.size]!))=((Array.range (len*i.size)).map ((#[]:Array Value)[· % (#[]:Array Value).size]!)):=by rw[g];simp[Array.range_zero']
   rw[show(λ(x:Nat×Operand)=>(x.1,a.eval x.2))=(λ(x:Nat×Operand)=>match x with|(i,x)=>(i,a.eval x)) from rfl,←Q,u]
   simp only[newRow,D8,run_newObj,E7,B2];rfl
  ·rw[if_neg g];simp only[D8,hv,B2,E7,u,newRow,run_newObj];rfl
 have n:cs.length=len*i.size:=by
  rw[oF _ _ _ l];simp[L]
 exact⟨U,B,I,n⟩
theorem cQ(h:Inv c E H w){a:Act}{s:W5}{t:TypeId}{len:Nat}{parts:Array (Nat×Operand)}{y:T}{H':Y4}{side:Option Prop}(he:I1 P s H t len parts=some (y,H',side))(hs:side.getD True)
  (hop:∀p ∈ parts.toList,G0 E w a s p.2):
  ∃r w' E',(Instr.buildSlice t len (parts.map λ(i,x)=>(i,a.eval x))).run P w= .ok r w'/\Rd E' w' y r/\Inv c E' H' w'/\Step E w E' w':=by
 have hparts:∀(i:Nat) (p:Nat×T) (q:Nat×Value),(parts.toList.map λp=>(p.1,L3 s p.2))[i]? =some p->(parts.map λ(i,x)=>(i,a.eval x)).toList[i]? =some q->p.1=q.1/\Rd E w p.2 q.2:=by
  intro i p q hp hq;simp only[Array.toList_map,pW,G4] at hp hq
  obtain⟨x,hx,rfl⟩:=hp;obtain⟨x',hx',rfl⟩:=hq;rw[hx] at hx';simp only[X2] at hx';subst hx';exact⟨rfl,hop x (A4 hx)⟩
 have hlen:(parts.toList.map λp=>(p.1,L3 s p.2)).length=(parts.map λ(i,x)=>(i,a.eval x)).toList.length:=W8
 unfold I1 at he;split at he
 ·rename_i e hu;split at he
  ·rename_i i z hi hz;split at he
   ·rename_i h1 h2 h3;have hzl:=G1 h1;have hsz0:=Nat.ne_of_beq_eq_false h2;have hle:=zP h3;obtain⟨v,hv,hrl,i',hi',hzv⟩:=j4 (E:=E) (w:=w) hz;rw[hi] at hi';simp only[X2] at hi';subst hi';have hvs:v.cells.size=i.size:=by rw[←hrl.1];exact hzl
    split at he
    ·rename_i cs hfill;have hsizeOf:P.cellsOf e=i.size:=by unfold Program.cellsOf;rw[hi];rfl
     have hrunsz:(sizeOf e).run P w= .ok i.size w:=by rw[C2 e (by rw[hi];rfl),hsizeOf]
     have flat:∀(m k:Nat),((List.replicate m z).flatten)[k]? =if k<m*z.length then z[k % z.length]? else none:=by
      intro m;induction m with
      |zero=>intro k;simp
      |succ m ih=>
       intro k;rw[List.replicate_succ,List.flatten_cons,List.getElem?_append]
       by_cases hk:k<z.length
       ·rw[if_pos hk,if_pos aM,Nat.mod_eq_of_lt hk]
       ·rw[if_neg hk,ih];by_cases hk2:k-z.length<m*z.length
        ·rw[if_pos hk2,if_pos aM,←Nat.mod_eq_sub_mod (a:=k) Z9]
        ·rw[if_neg hk2,if_neg aM]
     have hzero:tT E w ((List.replicate len z).flatten) ((Array.range (len*i.size)).map (v.cells[· % v.cells.size]!)):=by
      refine⟨by simp[hzl],λk t x ht hx=>?_⟩
      rw[flat] at ht;split at ht
      ·rename_i hk;simp only[Array.getElem?_map,Array.getElem?_range] at hx
       rw[if_pos (by rw[←hzl];exact hk)] at hx
       simp only[m8,X2] at hx;subst hx;have hlt:k % v.cells.size<v.cells.size:=Nat.mod_lt _ Z9
       refine hrl.2 (k % z.length) _ _ ht ?_
       rw[getElem!_pos v.cells _ hlt,hzl,←hvs];exact uJ hlt
      ·cases ht
     obtain⟨us,hus,hout⟩:=jD _ _ _ _ _ hfill hzero hlen hparts;have hrun:(Instr.buildSlice t len (parts.map λ(i,x)=>(i,a.eval x))).run P w= .ok (.slice (some ⟨w.heap.size,0,none⟩) len len) (w.alloc (.cells us e)):=by
      simp only[Instr.buildSlice,D8,run_underlying hu,E7,hrunsz];rw[if_neg Z9]
      by_cases hz':len*i.size=0
      ·rw[if_pos hz'];simp only[D8,B2,E7];have hl0:len=0:=by
        rcases Nat.mul_eq_zero.1 hz' with h|h
        ·exact h
        ·exact absurd h hsz0
       have he':((Array.range (len*i.size)).map (v.cells[· % v.cells.size]!))=((Array.range (len*i.size)).map ((#[]:Array Value)[· % (#[]:Array Value).size]!)):=by rw[hz'];simp[Array.range_zero']
       rw[show(λ(x:Nat×Operand)=>(x.1,a.eval x.2))=(λ(x:Nat×Operand)=>match x with|(i,x)=>(i,a.eval x)) from rfl,←he',hus]
       simp only[newRow,D8,run_newObj,E7,B2];rfl
      ·rw[if_neg hz'];simp only[D8,hv,B2,E7,hus,newRow,run_newObj];rfl
     have hcslen:cs.length=len*i.size:=by
      rw[oF _ _ _ hfill];simp[hzl]
     obtain⟨a1,a2,a3,a4,a5⟩:=C4 w (.cells us e);split at he
     ·rename_i hb;cases hbt:wM cs with
      |none=>rw[hbt] at he;cases he
      |some ns=>
       rw[hbt] at he;simp only[m8,X2,U0] at he;obtain⟨rfl,rfl,rfl⟩:=he;have hcs:=b1X cs ns hbt;have hrng:=b9E ns hs;have hz1:=(yP hb).2;rw[hz] at hz1;simp only[X2] at hz1;have hs1:i.size=1:=by rw[←hzl,hz1];rfl
       have hnl:ns.length=len:=by
        rw[hcs,List.length_map,hs1,Nat.mul_one] at hcslen;exact hcslen
       have:=h.push a1 a2 a3 W8 a4 (.bys e (ns.map Q8)) w.heap.size len us e (λ_=>V8 _) (λ_=>a5) (by simp only[Ob.toArr];rw[←hout.1,hcslen,hs1]) (by simp[Ob.toArr,hnl]) (λr hr=>rfl) (λr t hr ht=>a9T)
        (λ_ r t hr ht=>a9T)
        (λr j t hr hj=>by
         simp only[Ob.toArr,List.length_map] at hr hj ⊢;have hj0:j=0:=by
          have:=(w6.1 hj).1
          simp[C5] at this;exact this
         subst hj0;simp only[C5,List.getElem?_cons_zero,X2] at hj
         subst hj;have hrlt:r<us.size:=by rw[←hout.1,hcslen,hs1];omega
         have hru:us[r]? =some (us[r]'hrlt):=uJ _
         have hcr:cs[r]? =some (.int .u8 ns[r]):=by rw[hcs];simp[hr]
         refine⟨_,by rw[Nat.mul_one,Nat.add_zero];exact hru,?_⟩
         have hrd:=hout.2 _ _ _ hcr hru;rw[show(List.map Q8 ns).getD r 0=Q8 ns[r] by simp[List.getD,hr]]
         exact b9u (hrng _ (List.getElem_mem hr)) hrd)
       refine⟨_,_,_,hrun,?_,this.1,this.2⟩
       exact a1n (V8 _)
     ·split at he
      case h_2=>cases he
      rename_i hone;simp only[X2,U0] at he;obtain⟨rfl,rfl,rfl⟩:=he;have:=h.push a1 a2 a3 W8 a4 (.arr (cs.all W7) e i.size len λk=>(cs.drop (k*i.size)).take i.size) w.heap.size len us e (λ_=>V8 _) (λ_=>a5) (by simp only[Ob.toArr];rw[←hout.1];exact hcslen) (V8 _)
       (λr hr=>by
        simp only[Ob.toArr] at hr ⊢;have:(r+1)*i.size<=len*i.size:=lD _ hr;rw[Nat.add_mul] at this;simp only[List.length_take,List.length_drop];omega)
       (λr t hr ht=>i7.1 hone t (List.mem_of_mem_drop (List.mem_of_mem_take ht)))
       (λhc r t hr ht=>i7.1 hc t (List.mem_of_mem_drop (List.mem_of_mem_take ht)))
       (λr j t hr hj=>by
        simp only[Ob.toArr] at hr hj ⊢;rw[List.getElem?_take] at hj
        split at hj
        ·rename_i hjs;rw[List.getElem?_drop] at hj
         have hlt:=(w6.1 hj).1
         have hru:us[r*i.size+j]? =some (us[r*i.size+j]'(by have:=hout.1;omega)):=uJ _
         exact⟨_,hru,hout.2 _ _ _ hj hru⟩
        ·cases hj)
      refine⟨_,_,_,hrun,?_,this.1,this.2⟩
      exact a1n (V8 _)
    ·cases he
   ·cases he
  ·cases he
 ·cases he
end
section
variable {c:Ctx} {E:Env} {H:Y4} {w w':World} {P:Program}
structure Appended(w:World)(sz n m:Nat)(old:Nat->Option Value)(news:List Value)(g:Option Nat)(r:Value)(w':World):Prop where
 os:w'.os=w.os
 tape:w'.tape=w.tape
 output:w'.output=w.output
 size:w.heap.size<=w'.heap.size
 other:∀b,b<w.heap.size->some b≠g->w'.heap[b]? =w.heap[b]?
 block:∃b cap cs tyb,r= .slice (some ⟨b,0,none⟩) (n+m) cap/\n+m<=cap/\w'.heap[b]? =some (.cells cs tyb (0,0))/\cap*sz<=cs.size/\((w.heap.size<=b/\∀a,a<w.heap.size->w'.heap[a]? =w.heap[a]?)∨g=some b)/\
  (∀j,j<n*sz->cs[j]? =old j)/\∀j,j<m*sz->cs[n*sz+j]? =news[j]?
theorem C7{t tx ty e:TypeId}{i:TypeInfo}{z:Value}(Q:P.underlying t=some (.slice e))(hi:P.info? e=some i)(hz:i.zero=some z)(ab:z.cells.size=i.size)
  {x:Value} {m:Nat} {N:List Value} (hs:Go.Src P i.size tx x m N w) (n:Nat) (R:U9 n m i.bytes)
  (d:Value) (old:Nat->Option Value) (g:Option Nat)
  (hd:(∃a,d= .slice a 0 0/\n=0/\g=none)∨∃b cap cur B,d= .slice (some ⟨b,0,none⟩) n cap/\g=some b/\w.heap[b]? =some (.cells cur B (0,0))/\n<=cap/\cap*i.size<=cur.size/\∀j,j<n*i.size->cur[j]? =old j):
  ∃r w',(Builtin.append_ #[t,tx] ty #[d,x]).run P w= .ok r w'/\(Appended w i.size n m old N g r w'∨(n+m=0/\w'=w/\∃a,r= .slice a 0 0)):=by
 obtain⟨ad,ae⟩:=R;have grow:∀(base:Option Addr) (cap:Nat) (B0:List Value),B0.length=n*i.size->(Builtin.firstCells i.size n (.slice base n cap)).run P w.drew= .ok B0.toArray w.drew->cap<n+m->
   (∀j,j<n*i.size->B0[j]? =old j)->d= .slice base n cap->
   ∃r w',(Builtin.append_ #[t,tx] ty #[d,x]).run P w= .ok r w'/\(Appended w i.size n m old N g r w'∨(n+m=0/\w'=w/\∃a,r= .slice a 0 0)):=by
  intro base cap B0 hol l q f hdd;have hr:=run_append_grow_src (P:=P) w t tx ty e i z Q hi hz base n cap B0 l x m N hs q Z9 (growslice_fits q ad)
  rw[hdd];have L:=grownCap_ge w (n+m) cap e;refine⟨_,_,hr,.inl ⟨rfl,rfl,rfl,W8,λb R _=>heap_alloc_old w.drew _ R,_,_,_,_,rfl,L,heap_alloc_new w.drew _,?_,.inl ⟨V8 _,λ_ ha=>heap_alloc_old w.drew _ ha⟩,λj hj=>?_,λj hj=>?_⟩⟩
  ·refine Nat.le_of_eq (Eq.symm ?_)
   simp only[Array.size_append,List.size_toArray,K2,size_zeroCells,ab,hol,hs.newsLen,←Nat.add_mul];congr 1
   omega
  ·rw[Array.getElem?_append_left (by simp[hol];omega)]
   rw[List.getElem?_toArray,uW Z9]
   exact f j hj
  ·have hnl:=hs.newsLen;rw[Array.getElem?_append_left (by simp[hol,hnl];omega)]
   rw[List.getElem?_toArray,tG Z9,hol]
   congr 1
   omega
 rcases hd with⟨a,hdd,hn,U⟩|⟨b,cap,cur,B,hdd,U,hblk,Z,v,l⟩
 ·subst hn;by_cases hm:0<m
  ·refine grow a 0 [] W8 ?_ Z9 (λj hj=>Z9) hdd
   cases a with
   |none=>exact run_firstCells_none w.drew i.size 0 0 0
   |some a=>exact run_firstCells_some w.drew i.size 0 a 0 0 [] W8 (λj u h=>H8)
  ·obtain rfl:m=0:=by omega
   have hnl:N=[]:=List.length_eq_zero_iff.1 (by rw[hs.newsLen,Nat.zero_mul])
   subst hnl;rw[hdd];refine⟨.slice a 0 0,w,?_,.inr ⟨rfl,rfl,a,rfl⟩⟩
   cases a<;>(rcases hs.kind with⟨e',C⟩|C<;>simp[Builtin.append_,run_underlying Q,run_underlying C,sizeOf,typeInfo,hi,hs.len,hs.cells,storeCells])
 ·by_cases hroom:n+m<=cap
  ·have hcell:∀j,w.cell? ⟨b,j,none⟩=cur[j]? :=λj=>Q4 hblk
   have F:n*i.size+N.length<=cur.size:=by rw[hs.newsLen,←Nat.add_mul];exact Nat.le_trans (lD _ hroom) v
   obtain⟨w',W,ho,aa,V,M,A,Y,ac,J,I,X⟩:=j3 P w b (n*i.size) B cur N hblk F hs.one;rw[hdd];refine⟨.slice (some ⟨b,0,none⟩) (n+m) cap,w',?_,.inl ⟨ho,aa,V,Z9,λb' _ O=>A b' (λe=>O (by rw[U,e])),b,cap,Y,B,rfl,hroom,ac,by rw[J];exact v,.inr U,λj hj=>?_,λj hj=>?_⟩⟩
   ·rcases hs.kind with⟨e',C⟩|C<;>simp[Builtin.append_,run_underlying Q,run_underlying C,sizeOf,typeInfo,hi,hs.len,hroom,hs.cells,Addr.add_lit,W]
   ·rw[I j (.inl hj)];exact l j hj
   ·exact X j (by rw[hs.newsLen];exact hj)
  ·have o:n*i.size<=cur.size:=Nat.le_trans (lD _ Z) v;have f:(Builtin.firstCells i.size n (.slice (some ⟨b,0,none⟩) n cap)).run P w.drew= .ok (cur.toList.take (n*i.size)).toArray w.drew:=by
    refine run_firstCells_some w.drew i.size n ⟨b,0,none⟩ n cap _ (by simp[Nat.min_eq_left o]) (λj u hj=>?_)
    rw[Addr.add_lit,C9];show w.cell? _=_;rw[Q4 hblk];rw[List.getElem?_take] at hj
    split at hj
    ·simpa using hj
    ·cases hj
   refine grow (some ⟨b,0,none⟩) cap _ (by simp[Nat.min_eq_left o]) f Z9 (λj hj=>?_) hdd
   rw[List.getElem?_take,if_pos hj,Array.getElem?_toList]
   exact l j hj
theorem zB{p:Option Prop}{q:Prop}(h:lA p q):p.getD True/\q:=by
 cases p with
 |none=>exact⟨trivial,h⟩
 |some p=>exact h
theorem a2W{l:Bz}{b o:Nat}(r:∀i x,l[i]? =some x->w.cell? ⟨b,o+i,none⟩=some (.int .u8 (x.toNat:Int))):
  ∀(j:Nat) (u:Value),(l.map λx=>Value.int .u8 (x.toNat:Int))[j]? =some u->w.cell? (Addr.add ⟨b,o,none⟩ j)=some u:=by
 intro j u h;simp only[pW,G4] at h
 obtain⟨x,hx,rfl⟩:=h;rw[Addr.add_lit];exact r j x hx
theorem a2V(l:Bz):∀u ∈ l.map (λx=>Value.int .u8 (x.toNat:Int)),u.oneCell'=true:=by
 intro u h;obtain⟨x,_,rfl⟩:=List.mem_map.1 h;rfl
theorem a2G(g:HeapOk E w H){k off n o:Nat}{ty:TypeId}{l:Bz}(r:Z1 H k=some (.bys ty l))(t:off+n<=l.length)(O:off<E.κ k∨off=0->o=off*(E.z k).1):
  ((l.drop off).take n).length=n/\∀i x,((l.drop off).take n)[i]? =some x->w.cell? ⟨E.β k,o+i,none⟩=some (.int .u8 (x.toNat:Int)):=by
 obtain⟨v,⟨f,q,hl,h,L,cs,ty,j,Z,C⟩,A⟩:=g.live _ _ r;simp only[Ob.toArr] at f q hl h L Z C;have N:((l.drop off).take n).length=n:=by simp;omega
 refine⟨N,λi x hx=>?_⟩
 have hi:i<n:=by
  rcases Nat.lt_or_ge i n with h'|h'
  ·exact h'
  ·rw[List.getElem?_eq_none Z9] at hx;cases hx
 have d:l[off+i]? =some x:=by
  rw[List.getElem?_take] at hx
  rw[if_pos hi,List.getElem?_drop] at hx
  exact hx
 have W:(C5 l (off+i))[0]? =some (.int .u8 (x.toNat:Int)):=by
  simp[C5,List.getD,d]
 obtain⟨u,U,e⟩:=C (off+i) 0 _ Z9 W
 have B:o=off:=by
  have:=O (.inl Z9)
  rw[f,Nat.mul_one] at this;exact this
 rw[Q4 (j Z9),B]
 rw[J3 e] at U;rw[Nat.mul_one,Nat.add_zero] at U;exact U
theorem b8A{sz:Nat}{tx e:TypeId}(hd:P.underlying tx=some (.slice e))(a:Option Addr):Go.Src P sz tx (.slice a 0 0) 0 [] w:=by
 cases a with
 |none=>exact Src.ofNil (P:=P) w hd 0
 |some a=>exact Src.ofSlice (P:=P) w hd a 0 0 [] W8 (λj u h=>H8) (λ_ h=>J6)
theorem b0t(f:HeapOk E w H){tx:TypeId}{x:T}{v:Value}{l:Bz}{side:Option Prop}(h:i3 H (P.underlying tx) x=some (l,side))(hs:side.getD True)(hx:Rd E w x v):
  Go.Src P 1 tx v l.length (l.map λx=>Value.int .u8 (x.toNat:Int)) w:=by
 unfold i3 at h;split at h
 ·rename_i l' hd;simp only[X2,U0] at h;obtain⟨rfl,rfl⟩:=h;rw[yE hx];have:=Src.ofString (P:=P) w hd ⟨l'.toArray⟩
  simpa[byteCells,ByteArray.size] using this
 ·rename_i e l' hd;simp only[X2,U0] at h;obtain⟨rfl,rfl⟩:=h;cases hx with
  |bysNil=>exact Src.ofNil (P:=P) w hd 0
  |bysEmp a=>exact Src.ofSlice (P:=P) w hd a 0 0 [] W8 (λj u h=>H8) (λ_ h=>J6)
  |bys _ b off cap i C r=>exact Src.ofSlice (P:=P) w hd _ _ _ _ W8 (a2W r) (a2V _)
 ·rename_i e hd;simp only[X2,U0] at h;obtain⟨rfl,rfl⟩:=h;rw[wK hx];exact Src.ofNil (P:=P) w hd 0
 ·rename_i e k off n hd;split at h
  ·rename_i ty l' hk;simp only[X2,U0] at h;obtain⟨rfl,rfl⟩:=h;have hle:off+n<=l'.length:=hs;cases hx with
   |osl _ _ _ o a _ g O A=>
    obtain⟨N,L⟩:=a2G f hk hle O;by_cases d:E.κ k=0
    ·obtain rfl:n=0:=by omega
     rw[d,Nat.zero_sub,List.take_zero];exact b8A hd a
    rw[A d];have:=Src.ofSlice (P:=P) (size:=1) w hd ⟨E.β k,o,none⟩ n (E.κ k-off) (((l'.drop off).take n).map λx=>Value.int .u8 (x.toNat:Int)) (by rw[List.length_map,N,Nat.mul_one]) (a2W L) (a2V _)
    rw[N];exact this
  ·cases h
 ·cases h
theorem b2w(n sz:Nat)(u:Nat->Nat->Value):
  ∃news:List Value,news.length=n*sz/\∀i j,i<n->j<sz->news[i*sz+j]? =some (u i j):=by
 have hlen:∀n,(((List.range n).map λi=>(List.range sz).map λj=>u i j).flatten).length=n*sz:=by
  intro n;induction n with
  |zero=>simp
  |succ n I=>rw[List.range_succ,List.map_append,List.flatten_append,K2,I,Nat.add_mul];simp
 refine⟨((List.range n).map λi=>(List.range sz).map λj=>u i j).flatten,hlen n,?_⟩
 induction n with
 |zero=>intro i j hi;omega
 |succ n I=>
  intro i j hi J;rw[List.range_succ,List.map_append,List.flatten_append];by_cases h:i<n
  ·rw[uW (by rw[hlen];have:(i+1)*sz<=n*sz:=lD _ h;rw[Nat.add_mul] at this;omega)]
   exact I i j h J
  ·obtain rfl:i=n:=by omega
   rw[tG (by rw[hlen];omega),hlen]
   simp[J]
theorem a6P{n sz j:Nat}(J:j<n*sz):j/sz<n/\j % sz<sz/\j/sz*sz+j % sz=j:=by
 have z:0<sz:=by
  rcases Nat.eq_zero_or_pos sz with h|h
  ·subst h;simp at J
  ·exact h
 exact⟨(Nat.div_lt_iff_lt_mul z).2 J,Nat.mod_lt _ z,by rw[Nat.mul_comm];exact Nat.div_add_mod j sz⟩
theorem a3o{tx e:TypeId}{sz n b o cap:Nat}{row:Nat->List T}{u:Nat->Nat->Value}(hd:P.underlying tx=some (.slice e))
  (hl:∀i,i<n->(row i).length=sz) (x:∀i t,i<n->t ∈ row i->I7 t=true)
  (R:∀i j t,i<n->(row i)[j]? =some t->w.cell? ⟨b,o+i*sz+j,none⟩=some (u i j)) (r:∀i j t,i<n->(row i)[j]? =some t->Rd E w t (u i j)):
  ∃N,Go.Src P sz tx (.slice (some ⟨b,o,none⟩) n cap) n N w/\∀i j t,i<n->(row i)[j]? =some t->∃u,N[i*sz+j]? =some u/\Rd E w t u:=by
 obtain⟨N,d,h⟩:=b2w n sz u;have key:∀j v,N[j]? =some v->∃i k t,i<n/\(row i)[k]? =some t/\v=u i k/\i*sz+k=j:=by
  intro j v hj;have g:j<n*sz:=by rw[←d];exact(w6.1 hj).1
  obtain⟨f,q,l⟩:=a6P g;have hk:j % sz<(row (j/sz)).length:=by rw[hl _ f];exact q
  refine⟨j/sz,j % sz,_,f,J4 hk,?_,l⟩
  have:=h _ _ f q;rw[l,hj] at this
  simpa using this
 refine⟨N,Src.ofSlice (P:=P) w hd ⟨b,o,none⟩ n cap N d (λj v hj=>?_) (λv hv=>?_),λi j t hi hj=>?_⟩
 ·obtain⟨i,k,t,hi,hk,rfl,rfl⟩:=key j v hj;rw[Addr.add_lit,←Nat.add_assoc];exact R i k t hi hk
 ·obtain⟨j,hj,rfl⟩:=List.mem_iff_getElem.1 hv;obtain⟨i,k,t,hi,hk,he,_⟩:=key j _ (J4 hj)
  rw[he];exact a0V (r i k t hi hk) (x i t hi (A4 hk))
 ·have hj':j<sz:=by rw[←hl i hi];exact(w6.1 hj).1
  exact⟨_,h i j hi hj',r i j t hi hj⟩
theorem mA(row:Nat->List T)(off:Nat):yL row off=λi=>row (off+i):=by
 cases off with
 |zero=>funext i;simp[yL]
 |succ n=>rfl
theorem b4s{w:World}{sz:Nat}{tx e:TypeId}(hd:P.underlying tx=some (.slice e))(a:Option Addr)(c:Nat)(h:c≠0->a.isSome=true):Go.Src P sz tx (.slice a 0 c) 0 [] w:=by
 cases a with
 |none=>
  by_cases C:c=0
  ·subst C;exact Src.ofNil (P:=P) w hd 0
  ·have:=h C;cases this
 |some a=>exact Src.ofSlice (P:=P) w hd a 0 c [] W8 (λj u h=>H8) (λ_ h=>J6)
theorem oR{off n m:Nat}(h:(uU off n m).getD True):off+n<=m:=h
theorem wN(hH:HeapOk E w H){tx:TypeId}{sz:Nat}{x:T}{v:Value}{S:Sr}(h:xL H (P.underlying tx) sz x=some S)(hs:S.side.getD True)(hx:Rd E w x v):
  ∃N,Go.Src P sz tx v S.n N w/\(∀i,i<S.n->(S.row i).length=sz)/\(∀i t,i<S.n->t ∈ S.row i->I7 t=true)/\(S.cl=true->∀i t,i<S.n->t ∈ S.row i->W7 t=true)/\
   ∀i j t,i<S.n->(S.row i)[j]? =some t->∃u,N[i*sz+j]? =some u/\Rd E w t u:=by
 unfold xL at h;split at h
 ·rename_i e sz' n row hd;split at h
  ·rename_i hbeq;obtain rfl:=G1 hbeq;simp only[X2] at h;subst h;cases hx with
   |slEmp _ _ a=>exact⟨[],Src.ofSlice (P:=P) w hd a 0 0 [] W8 (λj u h=>H8) (λ_ h=>J6),λi hi=>absurd hi W8,λi t hi=>absurd hi W8,λ_ i t hi=>absurd hi W8,λi j t hi=>absurd hi W8⟩
   |slNil=>exact⟨[],Src.ofNil (P:=P) w hd 0,λi hi=>absurd hi W8,λi t hi=>absurd hi W8,λ_ i t hi=>absurd hi W8,λi j t hi=>absurd hi W8⟩
   |sl _ _ _ b off cap u hN l hl f r q=>
    obtain⟨N,C,d⟩:=a3o (P:=P) (cap:=cap) hd hl (λi t hi h=>(f i t hi h).1) r q
    exact⟨N,C,hl,λi t hi h=>(f i t hi h).1,λ_ i t hi h=>(f i t hi h).2,d⟩
  ·cases h
 ·rename_i e hd;simp only[X2] at h;subst h;rw[wK hx];exact⟨[],Src.ofNil (P:=P) w hd 0,λi hi=>absurd hi W8,λi t hi=>absurd hi W8,λ_ i t hi=>absurd hi W8,λi j t hi=>absurd hi W8⟩
 ·rename_i e k off n hd;split at h
  ·rename_i cl ty sz' m row hk;split at h
   ·rename_i hbeq;obtain rfl:=G1 hbeq;simp only[X2] at h;subst h;have hle:=oR hs;obtain⟨hL,⟨hz,hn,hl,hone,hcl,cs,ty,hb,hsz,hc⟩,hN⟩:=hH.live _ _ hk;simp only[Ob.toArr] at hz hn hl hone hcl hsz hc;cases hx with
    |osl _ _ _ o a _ z ho A=>
     simp only[mA];by_cases g:n=0
     ·subst g;refine⟨[],b4s hd a _ (λB=>A Z9▸rfl),λi hi=>absurd hi W8,λi t hi=>absurd hi W8,λ_ i t hi=>absurd hi W8,λi j t hi=>absurd hi W8⟩
     ·have hob:o=off*sz:=by rw[ho (.inl Z9),hz]
      have hb:=hb Z9
      rw[A Z9]
      obtain⟨N,C,d⟩:=a3o (P:=P) (E:=E) (n:=n) (cap:=E.κ k-off) (b:=E.β k) (o:=o) (row:=λi=>row (off+i)) (u:=λi j=>(cs[(off+i)*sz+j]?).getD undef) hd (λi hi=>hl _ Z9) (λi t hi h=>hone _ t Z9 h)
       (λi j t hi hj=>by
        obtain⟨u,U,_⟩:=hc (off+i) j t Z9 hj
        rw[Q4 hb,hob,←Nat.add_mul,U];rfl)
       (λi j t hi hj=>by
        obtain⟨u,U,r⟩:=hc (off+i) j t Z9 hj
        rw[U];exact r)
      exact⟨N,C,λi hi=>hl _ (by have:i<n:=hi;omega),λi t hi h=>hone _ t (by have:i<n:=hi;omega) h,λhc i t hi h=>hcl hc _ t (by have:i<n:=hi;omega) h,d⟩
   ·cases h
  ·cases h
 ·cases h
theorem i9{e:TypeId}{i:TypeInfo}{z:List T}(hi:P.info? e=some i)(Z:zeroCells P e=some z):∃v,i.zero=some v/\v.cells.size=z.length:=by
 obtain⟨v,_,l,I,h,V⟩:=j4 (P:=P) (E:=⟨λ_=>False,λ_=>False,λ_=>0,λ_=>0,λ_=>(0,[]),λ_ _=>False,λ_ _ _ _=>0,λ_ _ _ _=>0⟩) (w:=default) Z
 rw[hi] at h;simp only[X2] at h;subst h;exact⟨v,V,l.1.symm⟩
theorem Inv.appended(h:Inv c E H w){sz n m:Nat}{old:Nat->Option Value}{f:List Value}{g:Option Nat}{r:Value}{w':World}(ha:Appended w sz n m old f g r w'∨(n+m=0/\w'=w/\∃a,r= .slice a 0 0))
  (H1:Y4) (Gv:Nat->Prop) (C:H1.length=H.length) (O:∀i o,Z1 H1 i=some o->Z1 H i=some o/\¬Gv i) (hg:∀b,g=some b->∃k o,Gv k/\Z1 H k=some o/\B7 E k o b) (ob:Ob) (hsz:ob.toArr.sz=sz) (hn:ob.toArr.n=n+m)
  (hl:∀i,i<n+m->(ob.toArr.row i).length=sz) (hone:∀i t,i<n+m->t ∈ ob.toArr.row i->I7 t=true) (hcl:ob.toArr.cl=true->∀i t,i<n+m->t ∈ ob.toArr.row i->W7 t=true)
  (J:∀i j t,i<n->(ob.toArr.row i)[j]? =some t->∃u,old (i*sz+j)=some u/\Rd E w t u)
  (hnew:∀i j t,i<m->(ob.toArr.row (n+i))[j]? =some t->∃u,f[i*sz+j]? =some u/\Rd E w t u) (hia:ob.isArr=true:=by rfl):
  ∃E',Rd E' w' (.osl H.length 0 (n+m)) r/\Inv c E' (H1++[some ob]) w'/\Step E w E' w':=by
 have aa:∀v ty sz n row,ob≠ .fam v ty sz n row:=by rintro v ty sz n row rfl;cases hia
 have F:¬E.L H.length:=λhL=>by have:=h.heap.lt _ hL;omega
 have key:∀i o,Z1 (H1++[some ob]) i=some o->(Z1 H1 i=some o/\i≠H.length)∨(i=H.length/\o=ob):=λi o hi=>by
  rw[o7,C] at hi;split at hi
  ·exact .inl ⟨hi,Z9⟩
  ·split at hi
   ·simp only[X2] at hi;exact .inr ⟨by assumption,hi.symm⟩
   ·cases hi
 have fin:∀(b κ:Nat) (cs:Array Value) (ty:TypeId),w'.os=w.os->w'.tape=w.tape->w'.output=w.output->w.heap.size<=w'.heap.size->(∀x,E.N x->w'.heap[x]? =w.heap[x]?)->
   (κ≠0->w.heap.size<=b∨∃k o,Gv k/\Z1 H k=some o/\B7 E k o b)->(∀x,x<w.heap.size->(∀k o,Gv k->Z1 H k=some o->¬B7 E k o x)->w'.heap[x]? =w.heap[x]?)->
   (κ≠0->w'.heap[b]? =some (.cells cs ty (0,0)))->κ*sz<=cs.size->n+m<=κ->(∀i j t,i<n+m->(ob.toArr.row i)[j]? =some t->∃u,cs[i*sz+j]? =some u/\Rd E w t u)->
   Inv c (E.push H.length b κ sz) (H1++[some ob]) w'/\Step E w (E.push H.length b κ sz) w':=by
  intro b κ cs ty V U hp hs hN hb hw hblk hcs hκ hrow;have hbk:(E.push H.length b κ sz).β H.length=b:=if_pos rfl;have hκk:(E.push H.length b κ sz).κ H.length=κ:=if_pos rfl;have hzk:(E.push H.length b κ sz).z H.length=(sz,[]):=if_pos rfl;have q:Step E w (E.push H.length b κ sz) w':=⟨Env.push_le F,hN,λi hi=>hi.elim .inl λe=>.inr λj hj=>e▸h.heap.lt j hj⟩
  refine⟨h.to V U hp hs q H.length Gv (λ_ h=>h) (λi o hi Q=>?_) (λo hi=>?_) hw (λi hi=>?_) (λi v hv=>.inl (h.heap.l2 i v hv)) (λo i v hi hv=>?_),q⟩
  ·rcases key i o hi with⟨h1,_⟩|⟨h1,_⟩
   ·exact O i o h1
   ·exact absurd h1 Q
  ·rcases key _ o hi with⟨_,h1⟩|⟨_,rfl⟩
   ·exact absurd rfl h1
   ·refine⟨.inr rfl,T4.ob ⟨by rw[hzk];exact hsz.symm,by rw[hκk,hn];exact hκ,λi hi=>by rw[hsz];exact hl i Z9,λi t hi=>hone i t Z9,λhc i t hi=>hcl hc i t Z9,cs,ty,by rw[hκk,hbk];exact hblk,by rw[hκk,hsz,hzk];exact a8A hcs,λi j t hi hj=>?_⟩ hia,λx hx=>?_⟩
    ·obtain⟨u,hu,hr⟩:=hrow i j t Z9 hj
     exact⟨u,by rw[hsz];exact hu,q.rd hr⟩
    ·obtain⟨h1,rfl⟩:=hx.arr hia;rw[hκk] at h1;rw[hbk];exact hb h1
  ·rcases hi with hi|rfl
   ·have:=h.heap.lt i hi;simp;omega
   ·simp;omega
  ·rcases key i o hi with⟨h1,_⟩|⟨rfl,rfl⟩
   ·exact h.heap.cur i o v (O i o h1).1 hv
   ·exact absurd (h.heap.l2 _ v hv) F
 rcases ha with ha|⟨h0,rfl,a,rfl⟩
 ·obtain⟨V,U,hp,l,I,b,cap,cs,Z,rfl,d,hblk,hcs,X,A,W⟩:=ha;have R:∀x,x<w.heap.size->(∀k o,Gv k->Z1 H k=some o->¬B7 E k o x)->w'.heap[x]? =w.heap[x]? :=λx hx hn=>I x hx λe=>by
   obtain⟨k,o,h1,B,Y⟩:=hg x e.symm;exact hn k o h1 B Y
  have hN:∀x,E.N x->w'.heap[x]? =w.heap[x]? :=λx hx=>R x (h.nlt x hx) λk o _ B Y=>(h.heap.live k o B).2.2 x Y hx
  have hrow:∀i j t,i<n+m->(ob.toArr.row i)[j]? =some t->∃u,cs[i*sz+j]? =some u/\Rd E w t u:=by
   intro i j t hi hj;have ab:j<sz:=by rw[←hl i hi];exact(w6.1 hj).1
   by_cases M:i<n
   ·obtain⟨u,hu,hr⟩:=J i j t M hj;have:(i+1)*sz<=n*sz:=lD _ M;rw[Nat.add_mul] at this;exact⟨u,by rw[A _ Z9];exact hu,hr⟩
   ·obtain⟨u,hu,hr⟩:=hnew (i-n) j t Z9 (by rw[show n+(i-n)=i by omega];exact hj)
    have B:(i-n+1)*sz<=m*sz:=lD _ Z9
    rw[Nat.add_mul] at B;refine⟨u,?_,hr⟩
    rw[show i*sz+j=n*sz+((i-n)*sz+j) by rw[←Nat.add_assoc,←Nat.add_mul,show n+(i-n)=i by omega]]
    rw[W _ Z9]
    exact hu
  have:=fin b cap cs Z V U hp l hN (λ_=>by rcases X with h1|h1;exact .inl h1.1;exact .inr (hg b h1)) R (λ_=>hblk) hcs d hrow
  exact⟨_,a1n d,this.1,this.2⟩
 ·have:=fin 0 0 #[] 0 rfl rfl rfl (V8 _) (λ_ _=>rfl) (λh=>absurd rfl h) (λ_ _ _=>rfl) (λh=>absurd rfl h) W8 Z9 (λi j t hi=>Z9)
  refine⟨_,?_,this.1,this.2⟩
  have hr:=Rd.osl (E:=E.push H.length 0 0 sz) (w:=w') H.length 0 (n+m) 0 a (.inr rfl) (by rw[show(E.push H.length 0 0 sz).κ H.length=0 from if_pos rfl];omega) (λ_=>W8) (λh=>absurd (if_pos rfl) h)
  rw[show(E.push H.length 0 0 sz).κ H.length=0 from if_pos rfl,h0] at hr
  rw[h0];exact hr
theorem a2c{k n:Nat}{A:Arr}{v:Value}(z:T4 E w k A)(N:n<=A.n)(hd:Rd E w (.osl k 0 n) v):∃(cs:Array Value) (g:Option Nat),
  ((∃a,v= .slice a 0 0/\n=0/\g=none)∨∃b cap cur tyb,v= .slice (some ⟨b,0,none⟩) n cap/\g=some b/\w.heap[b]? =some (.cells cur tyb (0,0))/\n<=cap/\cap*A.sz<=cur.size/\∀j,j<n*A.sz->cur[j]? =cs[j]?)/\
  (∀b,g=some b->E.κ k≠0/\b=E.β k)/\∀i j t,i<A.n->(A.row i)[j]? =some t->∃u,cs[i*A.sz+j]? =some u/\Rd E w t u:=by
 obtain⟨Z,r,hl,l,L,cs,ty,d,f,C⟩:=z;cases hd with
 |osl _ _ _ o a _ q O x=>
  obtain rfl:o=0:=by rw[O (.inr rfl),Nat.zero_mul]
  by_cases e:E.κ k=0
  ·refine⟨cs,none,.inl ⟨a,by rw[e,show n=0 by omega],Z9,rfl⟩,λb h=>J6,C⟩
  ·refine⟨cs,some (E.β k),.inr ⟨_,_,cs,ty,by rw[x e,Nat.sub_zero],rfl,d e,Z9,f.le,λ_ _=>rfl⟩,λb h=>⟨e,(Option.some.inj h).symm⟩,C⟩
theorem nU{k:Nat}{O:Ob}(d:Z1 H k=some O):∀i o,Z1 (H.set k none) i=some o->Z1 H i=some o/\¬i=k:=by
 intro i o hi;rw[T9 (H3 d)] at hi;split at hi
 ·cases hi
 ·rename_i h;exact⟨hi,h⟩
theorem P7{row row':Nat->List T}{n r:Nat}(h:r<n):X7 row n row' r=row r:=by
 unfold X7;rw[show Nat.blt r n=true from by simp[Nat.blt];omega]
theorem P8{row row':Nat->List T}{n r:Nat}(h:¬r<n):X7 row n row' r=row' (r-n):=by
 unfold X7;rw[show Nat.blt r n=false from Bool.eq_false_iff.2 λd=>h (zP d)]
theorem rK(l:Bz)(i:Nat)(t:T)(h:t ∈ C5 l i):I7 t=true/\W7 t=true:=by
 simp[C5] at h;subst h;exact⟨rfl,rfl⟩
theorem mD{l:Bz}{i j:Nat}{t:T}(h:(C5 l i)[j]? =some t):j=0/\t= .int .u8 ((l.getD i 0).toNat:Int):=by
 have J:j=0:=by
  have:=(w6.1 h).1
  simp[C5] at this;exact this
 subst J;simp[C5] at h;exact⟨rfl,h.symm⟩
theorem a0l{l:Bz}{i:Nat}(hi:i<l.length):∃u,(l.map λx=>Value.int .u8 (x.toNat:Int))[i*1+0]? =some u/\Rd E w (.int .u8 ((l.getD i 0).toNat:Int)) u:=by
 refine⟨.int .u8 (l[i].toNat:Int),by simp[hi],?_⟩
 rw[show l.getD i 0=l[i] by simp[List.getD,hi]]
 exact .int _ _
theorem c1r(hH:HeapOk E w H){tx e:TypeId}(hd:P.underlying tx=some (.slice e)){sz:Nat}{x:T}{v:Value}{S:SrF}(h:c01 H sz x=some S)(hs:S.side.getD True)(hx:Rd E w x v)(hnd:S.ks.Nodup):
  ∃(news:List Value) (sm:Nat->Option Nat),Go.Src P sz tx v S.n news w/\(∀i,i<S.n->(S.row i).length=sz)/\
   (∀i j t,i<S.n->(S.row i)[j]? =some t->∃u,news[i*sz+j]? =some u/\((closedOne t=true/\Rd E w t u)∨∃m nn N oty osz orow,t= .own oty osz nn orow/\Rd E w (.osl m 0 nn) u/\Z1 H m=some (.arr true oty osz N orow)/\nn<=N/\m ∈ S.ks/\i=0/\sm j=some m))/\
   ∀j j' m,sm j=some m->sm j'=some m->j=j':=by
 unfold c01 at h;split at h
 case h_2=>cases h
 rename_i k off n;split at h
 ·rename_i ty sz' m row hk;split at h
  case h_2=>cases h
  rename_i hbeq;simp only[X2] at h;subst h;have hT:xL H (P.underlying tx) sz (.osl k off n)=some ⟨true,n,yL row off,uU off n m⟩:=by
   simp only[xL,hd,hk,hbeq]
  obtain⟨news,h1,h2,h3,h4,h5⟩:=wN (P:=P) hH hT hs hx;refine⟨news,λ_=>none,h1,h2,λi j t hi hj=>?_,λj j' m h=>J6⟩
  obtain⟨u,hu,hr⟩:=h5 i j t hi hj;have hm:=A4 hj;exact⟨u,hu,.inl ⟨by simp[closedOne,h3 i t hi hm,h4 rfl i t hi hm],hr⟩⟩
 ·rename_i ty sz' m row hk;split at h
  case h_2=>cases h
  rename_i hbeq;split at h
  case h_2=>cases h
  rename_i A hA;simp only[X2] at h;subst h;have hT:xL H (P.underlying tx) sz (.osl k 0 1)=some ⟨false,1,yL row 0,uU 0 1 1⟩:=by
   simp only[xL,hd,hk,hbeq]
  obtain⟨news,h1,h2,h3,h4,h5⟩:=wN (P:=P) hH hT (V8 1) hx;have hR:=gA hA hs;refine⟨news,vG (row 0),h1,λi hi=>by rw[hR.length];exact h2 0 (Nat.lt_succ_self 0),λi j t hi hj=>?_,λj j' m h h'=>hR.inj hnd h h'⟩
  obtain rfl:i=0:=by have:i<1:=hi;omega
  rcases hR.get hj with⟨g1,g2⟩|⟨m,nn,N,oty,osz,orow,rfl,g2,g3,g4,g5⟩
  ·obtain⟨u,hu,hr⟩:=h5 0 j t (Nat.lt_succ_self 0) g2;exact⟨u,hu,.inl ⟨g1,hr⟩⟩
  ·obtain⟨u,hu,hr⟩:=h5 0 j _ (Nat.lt_succ_self 0) g2;exact⟨u,hu,.inr ⟨m,nn,N,oty,osz,orow,rfl,hr,g3,g4,g5,rfl,by simp[vG,g2]⟩⟩
 ·cases h
theorem a6H(h:Inv c E H w){t tx ty e:TypeId}{i:TypeInfo}{z:List T}{zv:Value}{k n vv N:Nat}{B:TypeId}{row:Nat->List T}{x:T}{S:SrF}{dv xv:Value}{e2:TypeId}(ht:P.underlying t=some (.slice e))(hi:P.info? e=some i)(_hz:zeroCells P e=some z)
  (V:i.zero=some zv) (R:zv.cells.size=i.size) (hk:Z1 H k=some (.fam vv B i.size N row)) (ad:P.underlying tx=some (.slice e2)) (ah:c01 H i.size x=some S) (d:lJ (k::S.ks)=true) (ae:S.side.getD True) (ab:n<=N) (af:U9 n S.n i.bytes)
  (hd:Rd E w (.osl k 0 n) dv) (hx:Rd E w x xv):
  ∃r w' E',(Builtin.append_ #[t,tx] ty #[dv,xv]).run P w= .ok r w'/\Rd E' w' (.osl H.length 0 (n+S.n)) r/\Inv c E' (D7 H (k::S.ks)++[some (.fam 0 e i.size (n+S.n) (X7 row n S.row))]) w'/\Step E w E' w':=by
 have d:=bJ d;obtain⟨J,d⟩:=List.nodup_cons.1 d;obtain⟨C,sm,I,X,hnews,Q⟩:=c1r (P:=P) h.heap ad ah ae hx d;obtain⟨hL,hF,hN⟩:=h.heap.live _ _ hk;have hF:FamOk E w k vv B i.size N row:=hF;obtain⟨cs,g,ac,hg,hc⟩:=a2c hF.arr ab hd;obtain⟨r,w',f,ha⟩:=C7 (P:=P) (ty:=ty) ht hi V R I n af dv (λj=>cs[j]?) g ac
 have U:∀r,r<N->(row r).length=i.size:=λr hr=>(by have:=hF.arr.2.2.1 r hr;rwa [N8] at this)
 have l:¬E.L H.length:=λhL=>by have:=h.heap.lt _ hL;omega
 let Ss:c3D:=λr q=>if r<n then .inl (r,q) else match sm q with|some m=>.inr m|none=>.inl (0,0)
 have A:∀r,r<n+S.n->(X7 row n S.row r).length=i.size:=λr hr=>by
  by_cases h1:r<n
  ·rw[P7 h1];exact U r Z9
  ·rw[P8 h1];exact X _ Z9
 have fin:∀(b κ:Nat) (cs':Array Value) (tyc:TypeId),w'.os=w.os->w'.tape=w.tape->w'.output=w.output->w.heap.size<=w'.heap.size->
   (∀x,x<w.heap.size->(E.κ k≠0->x≠E.β k)->w'.heap[x]? =w.heap[x]?)->(κ≠0->w.heap.size<=b∨(E.κ k≠0/\b=E.β k))->
   (κ≠0->w'.heap[b]? =some (.cells cs' tyc (0,0)))->κ*i.size<=cs'.size->n+S.n<=κ->(∀j,j<n*i.size->cs'[j]? =cs[j]?)->(∀j,j<S.n*i.size->cs'[n*i.size+j]? =C[j]?)->
   ∃E',E'.κ H.length=κ/\E'.β H.length=b/\E'.z H.length=(i.size,[])/\E'.L H.length/\Inv c E' (D7 H (k::S.ks)++[some (.fam 0 e i.size (n+S.n) (X7 row n S.row))]) w'/\Step E w E' w':=by
  intro b κ cs' tyc ho htp hop Z hoth hb hblk hcs hκ hcold hcnew;have ag:∀x,E.N x->w'.heap[x]? =w.heap[x]? :=λx hx=>hoth x (h.nlt x hx) λhκ e=>hN x (.inl ⟨hκ,e⟩) hx
  let E1:=E.push H.length b κ i.size
  have F:E.le E1:=Env.push_le l;have ai:¬E1.L2 H.length 0:=λhu=>l (h.heap.l2 _ _ hu)
  let E':=E1.bump H.length 0 (λr q=>qO E k vv (Ss r q)) (λr q=>kI E k vv (Ss r q))
  have hst:Step E w E' w':=⟨F.trans (Env.bump_le ai),ag,λi hi=>hi.elim .inl λe=>.inr λj hj=>e▸h.heap.lt j hj⟩
  have hb2:∀r q,E'.b2 H.length 0 r q=qO E k vv (Ss r q):=λr q=>if_pos ⟨rfl,rfl⟩
  have hc2:∀r q,E'.c2 H.length 0 r q=kI E k vv (Ss r q):=λr q=>if_pos ⟨rfl,rfl⟩
  have hbk:E'.β H.length=b:=if_pos rfl;have hκk:E'.κ H.length=κ:=if_pos rfl;have v:E'.z H.length=(i.size,[]):=if_pos rfl;have key:∀q o,Z1 (D7 H (k::S.ks)++[some (.fam 0 e i.size (n+S.n) (X7 row n S.row))]) q=some o->(Z1 H q=some o/\q ∉ k::S.ks/\q≠H.length)∨(q=H.length/\o= .fam 0 e i.size (n+S.n) (X7 row n S.row)):=λq o hq=>by
   rw[o7,H5] at hq;split at hq
   ·obtain⟨g1,g2⟩:=L8 hq;exact .inl ⟨g1,g2,Z9⟩
   ·split at hq
    ·simp only[X2] at hq;exact .inr ⟨by assumption,hq.symm⟩
    ·cases hq
  have other:∀x,((∃r q,x=E.b2 k vv r q/\E.c2 k vv r q≠0/\a8e E k (.fam vv B i.size N row) x)∨∃m o,m≠k/\Z1 H m=some o/\B7 E m o x)->x<w.heap.size/\(E.κ k≠0->x≠E.β k):=by
   intro x hx;rcases hx with⟨r,q,rfl,al,v0,W,Y,n0,K8,i0,j0,oty,osz,on,orow,hobe,hi0,hj0,hc0,he0⟩|⟨m,o,aa,hmo,hmb⟩
   ·simp only[Ob.fam.injEq] at hobe;obtain⟨rfl,rfl,rfl,rfl,rfl⟩:=hobe;refine⟨h.heap.blt hk (.inr ⟨_,_,_,_,_,i0,j0,oty,osz,on,orow,rfl,hi0,hj0,hc0,he0⟩),λhκ0=>?_⟩
    rw[he0];exact(hF.own i0 j0 _ _ _ _ hi0 hj0).2 hc0 hκ0
   ·refine⟨h.heap.blt hmo hmb,λhκ0=>?_⟩
    rintro rfl;exact aa (h.heap.inj m k _ _ _ hmo hk hmb (.inl ⟨hκ0,rfl⟩))
  have cells:∀r q t,r<n+S.n->(X7 row n S.row r)[q]? =some t->∃u,cs'[r*i.size+q]? =some u/\((closedOne t=true/\Rd E w t u)∨∃oty osz on orow,t= .own oty osz on orow/\a9a E w H k vv N row osz on orow u (Ss r q)/\(r<n∨∃m,¬r<n/\r-n=0/\sm q=some m/\m ∈ S.ks/\Ss r q= .inr m)):=by
   intro r q t hr hq;have am:q<i.size:=by rw[←A r hr];exact(w6.1 hq).1
   by_cases h1:r<n
   ·rw[P7 h1] at hq;obtain⟨u,hu,hru⟩:=hc r q (sP k vv r q t) F3 (by simp only;rw[J9,hq];rfl)
    have:(r+1)*i.size<=n*i.size:=lD _ h1;rw[Nat.add_mul] at this;refine⟨u,by rw[hcold _ Z9];exact hu,?_⟩
    rcases hF.cell (show r<N by omega) hq with hcl|⟨oty,osz,on,orow,rfl⟩
    ·rw[M4 hcl] at hru;exact .inl ⟨hcl,hru⟩
    ·refine .inr ⟨_,_,_,_,rfl,?_,.inl h1⟩
     rw[show Ss r q= .inl (r,q) from if_pos h1]
     exact⟨show r<N by omega,⟨_,hq⟩,hru⟩
   ·rw[P8 h1] at hq;obtain⟨u,hu,hru⟩:=hnews (r-n) q t Z9 hq
    have h2:(r-n+1)*i.size<=S.n*i.size:=lD _ Z9
    rw[Nat.add_mul] at h2;refine⟨u,?_,?_⟩
    ·rw[show r*i.size+q=n*i.size+((r-n)*i.size+q) by rw[←Nat.add_assoc,←Nat.add_mul,show n+(r-n)=r by omega]]
     rw[hcnew _ Z9]
     exact hu
    ·rcases hru with hru|⟨m,nn,NN,oty,osz,orow,rfl,g1,g2,g3,g4,g5,g6⟩
     ·exact .inl hru
     ·have hSs:Ss r q= .inr m:=by simp only[Ss,if_neg h1,g6]
      refine .inr ⟨_,_,_,_,rfl,?_,.inr ⟨m,h1,g5,g6,g4,hSs⟩⟩
      rw[hSs];exact⟨λe=>J (e▸g4),⟨_,_,g2,g3⟩,g1⟩
  have hFam:FamOk E' w' H.length 0 e i.size (n+S.n) (X7 row n S.row):=by
   refine a2Z (E:=E) (w:=w) h.heap hst hk Ss (.inr ⟨rfl,rfl⟩) hb2 hc2 (by rw[v]) (by rw[hκk];exact hκ) cs' tyc (by rw[hκk,hbk];exact hblk) (by rw[hκk,v];exact a8A hcs) A (λr q t hr hq=>?_) (λi1 j1 i2 j2 oty osz on orow ak aj an orow' h1 h2 h3 h4 h5=>?_) (λx hx=>hoth x (other x hx).1 (other x hx).2) (λx hx hκ0=>?_)
   ·obtain⟨u,hu,h1|⟨oty,osz,on,orow,rfl,h1,_⟩⟩:=cells r q t hr hq
    ·exact⟨u,hu,.inl h1⟩
    ·exact⟨u,hu,.inr ⟨_,_,_,_,rfl,h1⟩⟩
   ·obtain⟨_,_,hc1|⟨_,_,_,_,_,_,p1⟩⟩:=cells i1 j1 _ h1 h3
    ·simp[closedOne,W7] at hc1
    obtain⟨_,_,hc1|⟨_,_,_,_,_,_,p2⟩⟩:=cells i2 j2 _ h2 h4
    ·simp[closedOne,W7] at hc1
    rcases p1 with p1|⟨m1,p1,p3,p5,p7,p9⟩
    ·rcases p2 with p2|⟨m2,p2,p4,p6,p8,p10⟩
     ·rw[show Ss i1 j1= .inl (i1,j1) from if_pos p1,show Ss i2 j2= .inl (i2,j2) from if_pos p2] at h5
      simp only[Sum.inl.injEq,U0] at h5;exact h5
     ·rw[show Ss i1 j1= .inl (i1,j1) from if_pos p1,p10] at h5
      cases h5
    ·rcases p2 with p2|⟨m2,p2,p4,p6,p8,p10⟩
     ·rw[show Ss i2 j2= .inl (i2,j2) from if_pos p2,p9] at h5
      cases h5
     ·rw[p9,p10] at h5;simp only[Sum.inr.injEq] at h5;subst h5;exact⟨Z9,Q _ _ _ p5 p6⟩
   ·rw[hκk] at hκ0;rw[hbk];obtain⟨o1,o2⟩:=other x hx;rcases hb hκ0 with h1|⟨h1,rfl⟩
    ·omega
    ·exact o2 h1
  refine⟨E',hκk,hbk,v,.inr rfl,h.to ho htp hop Z hst H.length (λm=>m ∈ k::S.ks) (λ_ h=>h) (λq o hq M=>?_) (λo hq=>?_) (λx hx hn=>hoth x hx λhκ0 e=>hn k _ W8 hk (.inl ⟨hκ0,e⟩)) (λq hq=>?_) (λq u hu=>?_) (λo q u hq hu=>?_),hst⟩
  ·rcases key q o hq with⟨g1,g2,_⟩|⟨g1,_⟩
   ·exact⟨g1,g2⟩
   ·exact absurd g1 M
  ·rcases key _ o hq with⟨_,_,g1⟩|⟨_,rfl⟩
   ·exact absurd rfl g1
   ·refine⟨.inr rfl,hFam,λx hx=>?_⟩
    rcases hx with⟨g1,rfl⟩|⟨v0,W,Y,n0,K8,i0,j0,oty,osz,on,orow,hobe,hi0,hj0,hc0,rfl⟩
    ·rw[hκk] at g1;rw[hbk];rcases hb g1 with g2|g2
     ·exact .inl g2
     ·exact .inr ⟨k,_,W8,hk,.inl g2⟩
    ·simp only[Ob.fam.injEq] at hobe;obtain⟨rfl,rfl,rfl,rfl,rfl⟩:=hobe;rw[hc2] at hc0;rw[hb2];obtain⟨_,_,hc1|⟨_,_,_,_,he1,hs1,p1⟩⟩:=cells i0 j0 _ hi0 hj0
     ·simp[closedOne,W7] at hc1
     ·rcases p1 with p1|⟨m1,p1,p3,p5,p7,p9⟩
      ·rw[show Ss i0 j0= .inl (i0,j0) from if_pos p1] at hs1 hc0 ⊢
       obtain⟨q1,⟨O,q2⟩,_⟩:=hs1;exact .inr ⟨k,_,W8,hk,.inr ⟨_,_,_,_,_,_,_,_,_,_,_,rfl,q1,q2,hc0,rfl⟩⟩
      ·rw[p9] at hs1 hc0 ⊢;obtain⟨_,⟨O,N1,q2,_⟩,_⟩:=hs1;exact .inr ⟨m1,_,by simp[p7],q2,.inl ⟨hc0,rfl⟩⟩
  ·rcases hq with hq|rfl
   ·have:=h.heap.lt q hq;simp[H5];omega
   ·simp[H5]
  ·rcases hu with hu|⟨rfl,_⟩
   ·exact .inl (h.heap.l2 _ _ hu)
   ·exact .inr rfl
  ·rcases key q o hq with⟨g1,_,g2⟩|⟨rfl,rfl⟩
   ·rcases hu with hu|⟨e1,_⟩
    ·exact h.heap.cur _ _ _ g1 hu
    ·exact absurd e1 g2
   ·refine⟨_,_,_,_,_,rfl,?_⟩
    rcases hu with hu|⟨_,rfl⟩
    ·exact absurd (h.heap.l2 _ _ hu) l
    ·exact V8 _
 rcases ha with ha|⟨h0,rfl,a,rfl⟩
 ·obtain⟨ho,htp,hop,hsize,hoth,b,cap,cs',tyc,rfl,hcap,hblk,hcs,hbg,hcold,hcnew⟩:=ha;obtain⟨E',e1,e2,e3,e4,hI,hst⟩:=fin b cap cs' tyc ho htp hop hsize (λx hx hn=>hoth x hx λe=>by obtain⟨g1,g2⟩:=hg x e.symm;exact hn g1 g2) (λ_=>by rcases hbg with h1|h1;exact .inl h1.1;exact .inr (hg b h1)) (λ_=>hblk) hcs hcap hcold hcnew
  refine⟨_,w',E',f,?_,hI,hst⟩
  have:=Rd.osl (E:=E') (w:=w') H.length 0 (n+S.n) 0 (some ⟨b,0,none⟩) e4 (by rw[e1];omega) (λ_=>W8) (λ_=>by rw[e2])
  rw[e1] at this;exact this
 ·obtain⟨E',e1,e2,e3,e4,hI,hst⟩:=fin 0 0 #[] 0 rfl rfl rfl (V8 _) (λ_ _ _=>rfl) (λh=>absurd rfl h) (λh=>absurd rfl h) W8 Z9 (λj hj=>by rw[show n=0 by omega] at hj;omega) (λj hj=>by rw[show S.n=0 by omega] at hj;omega)
  refine⟨_,_,E',f,?_,hI,hst⟩
  have hr:=Rd.osl (E:=E') (w:=w') H.length 0 (n+S.n) 0 a e4 (by rw[e1];omega) (λ_=>W8) (λh=>absurd e1 h)
  rw[e1,h0] at hr;rw[h0];exact hr
theorem c0C{d:Option TypeDesc}{x:T}{n:Int}(h:c32 d x=some n):∃kn kx,d=some (.int kn)/\x= .int kx n:=by
 unfold c32 at h;split at h
 ·simp only[X2] at h;subst h;exact⟨_,_,rfl,rfl⟩
 ·cases h
theorem c1q{z:Array Value}{n r q:Nat}(R:r<n)(h:q<z.size):(Builtin.zeroCells z n).toList[r*z.size+q]? =z[q]? :=by
 have t:r*z.size+q<n*z.size:=by
  have:(r+1)*z.size<=n*z.size:=lD _ R;rw[Nat.add_mul] at this;omega
 rw[Array.getElem?_toList]
 unfold Builtin.zeroCells;simp only[Array.getElem?_map,Array.getElem?_range]
 rw[if_pos t];simp only[m8];rw[show(r*z.size+q) % z.size=q by rw[Nat.add_comm,Nat.add_mul_mod_self_right,Nat.mod_eq_of_lt h]]
 rw[uJ h,getElem!_pos z q h]
theorem cJ{t tx ty e:TypeId}{i:TypeInfo}{z:Value}{N k:IntKind}(l:P.underlying t=some (.slice e))(n:P.underlying tx=some (.int N))(hi:P.info? e=some i)(q:i.zero=some z)(h:z.cells.size=i.size){m:Nat}(o:0<m)(Z:0<i.size)(B:U9 0 m i.bytes):
  ∃r w',(Builtin.append_ #[t,tx] ty #[.slice none 0 0,.int k m]).run P w= .ok r w'/\Appended w i.size 0 m (λ_=>none) (Builtin.zeroCells z.cells m).toList none r w':=by
 obtain⟨f,d⟩:=B;rw[C9] at f d;have R:=Lib.run_append_nil_zeros (P:=P) w t tx ty e i z k N l n hi q m o Z Z9 Z9
 have g:=grownCap_ge w m 0 e;refine⟨_,_,R,rfl,rfl,rfl,W8,λb B _=>heap_alloc_old w.drew _ B,w.heap.size,grownCap w m 0 e,_,_,(by rw[C9]),Z9,heap_alloc_new w.drew _,?_,.inl ⟨V8 _,λ_ A=>heap_alloc_old w.drew _ A⟩,λj J=>absurd J Z9,λj J=>?_⟩
 ·refine Nat.le_of_eq (Eq.symm ?_)
  simp only[Array.size_append,size_zeroCells,h,←Nat.add_mul];rw[show m+(grownCap w m 0 e-m)=grownCap w m 0 e by omega]
 ·rw[Array.getElem?_append_left (by rw[size_zeroCells,h];omega),Array.getElem?_toList,Nat.zero_mul,C9]
theorem kZ(h:Inv c E H w){t tx ty:TypeId}{d x:T}{dv xv:Value}{y:T}{H':Y4}{side:Option Prop}(he:nS P H t tx d x=some (y,H',side))(hs:side.getD True)(hd:Rd E w d dv)(hx:Rd E w x xv):
  ∃r w' E',(Builtin.append_ #[t,tx] ty #[dv,xv]).run P w= .ok r w'/\Rd E' w' y r/\Inv c E' H' w'/\Step E w E' w':=by
 unfold nS at he;split at he
 case h_2=>cases he
 rename_i e ht;split at he
 case h_2=>cases he
 rename_i i z hi hz;obtain⟨zv,hzv,hzl⟩:=i9 hi hz;split at he
 ·-- a nil slice
  rename_i h1 h2;have hzs:zv.cells.size=i.size:=by rw[hzl];exact G1 h1
  rw[wK hd];split at he
  ·rename_i hb;have hz1:=(yP hb).2;rw[hz] at hz1;simp only[X2] at hz1;have hs1:i.size=1:=by rw[←G1 h1,hz1];rfl
   cases hsb:i3 H (P.underlying tx) x with
   |none=>rw[hsb] at he;cases he
   |some S=>
    obtain⟨l,ls⟩:=S;rw[hsb] at he;simp only[m8,X2,U0] at he;obtain⟨rfl,rfl,rfl⟩:=he;obtain⟨hls,hpos,hab⟩:=zB hs;have hpos:0<l.length:=hpos;have hsrc:=b0t h.heap hsb hls hx;obtain⟨r,w',hrun,ha⟩:=C7 (P:=P) (ty:=ty) ht hi hzv hzs (by rw[hs1];exact hsrc) 0 hab (.slice none 0 0) (λ_=>none) none (.inl ⟨none,rfl,rfl,rfl⟩)
    rw[hs1] at ha;have:=h.appended ha H (λ_=>False) rfl (λi o h=>⟨h,λh=>h⟩) (λb h=>J6) (.bys e l) rfl a3P (λ_ _=>rfl) (λi t _ ht=>(rK l i t ht).1) (λ_ i t _ ht=>(rK l i t ht).2) (λi j t hi=>absurd hi Z9)
     (λi j t hi hj=>by
      simp only[C9] at hj;obtain⟨rfl,rfl⟩:=mD hj;exact a0l hi)
    obtain⟨E',hr,hI,hst⟩:=this;rw[C9] at hr;exact⟨r,w',E',hrun,hr,hI,hst⟩
  ·split at he
   ·rename_i n hzs0;split at he
    case h_2=>cases he
    rename_i hone;simp only[X2,U0] at he;obtain⟨rfl,rfl,rfl⟩:=he;obtain⟨hn0,hpos,hab⟩:0<=n/\0<n.toNat/\U9 0 n.toNat i.bytes:=hs;obtain⟨kn,kx,htn,rfl⟩:=c0C hzs0;rw[J3 hx];obtain⟨v2,_,hrl,i',hi',hzv'⟩:=j4 (P:=P) (E:=E) (w:=w) hz;rw[hi] at hi';simp only[X2] at hi';subst hi';rw[hzv] at hzv';simp only[X2] at hzv';subst hzv';obtain⟨r,w',hrun,ha⟩:=cJ (P:=P) (w:=w) (ty:=ty) (k:=kx) ht htn hi hzv hzs hpos (by have:=Nat.ne_of_beq_eq_false h2;omega) hab
    rw[show((n.toNat:Nat):Int)=n by omega] at hrun
    have hzl':=G1 h1;have:=h.appended (.inl ha) H (λ_=>False) rfl (λi o h=>⟨h,λh=>h⟩) (λb h=>J6) (.arr (z.all W7) e i.size n.toNat λ_=>z) rfl a3P (λ_ _=>hzl') (λ_ t _ ht=>i7.1 hone t ht) (λhc _ t _ ht=>i7.1 hc t ht) (λi j t hi=>absurd hi Z9)
     (λa j t ha hj=>by
      have hj:z[j]? =some t:=hj;have hj':j<z.length:=(w6.1 hj).1
      have hvj:zv.cells[j]? =some (zv.cells[j]' Z9):=uJ _
      refine⟨_,?_,hrl.2 _ _ _ hj hvj⟩
      rw[←hzs,c1q ha Z9]
      exact hvj)
    obtain⟨E',hr,hI,hst⟩:=this;rw[C9] at hr;exact⟨r,w',E',hrun,hr,hI,hst⟩
   ·cases hsb:xL H (P.underlying tx) i.size x with
    |none=>rw[hsb] at he;cases he
    |some S=>
     rw[hsb] at he;simp only[m8,X2,U0] at he;obtain⟨rfl,rfl,rfl⟩:=he;obtain⟨hls,hpos,hab⟩:=zB hs;have hpos:0<S.n:=hpos;obtain⟨news,hsrc,hl,hone,hcl,hnews⟩:=wN (P:=P) h.heap hsb hls hx;obtain⟨r,w',hrun,ha⟩:=C7 (P:=P) (ty:=ty) ht hi hzv hzs hsrc 0 hab (.slice none 0 0) (λ_=>none) none (.inl ⟨none,rfl,rfl,rfl⟩)
     have:=h.appended ha H (λ_=>False) rfl (λi o h=>⟨h,λh=>h⟩) (λb h=>J6) (.arr S.cl e i.size S.n S.row) rfl a3P (λi hi=>hl i Z9) (λi t hi ht=>hone i t Z9 ht) (λhc i t hi ht=>hcl hc i t Z9 ht) (λi j t hi=>absurd hi Z9)
      (λi j t hi hj=>by
       simp only[C9] at hj;exact hnews i j t hi hj)
     obtain⟨E',hr,hI,hst⟩:=this;rw[C9] at hr;exact⟨r,w',E',hrun,hr,hI,hst⟩
 ·-- an empty slice
  rename_i h1 h2;have hzs:zv.cells.size=i.size:=by rw[hzl];exact G1 h1
  obtain⟨a0,rfl⟩:∃a0,dv= .slice a0 0 0:=b5p
  split at he
  ·cases he
  ·cases hsb:xL H (P.underlying tx) i.size x with
   |none=>rw[hsb] at he;cases he
   |some S=>
    rw[hsb] at he;simp only[m8,X2,U0] at he;obtain⟨rfl,rfl,rfl⟩:=he;obtain⟨hls,hab⟩:=zB hs;obtain⟨news,hsrc,hl,hone,hcl,hnews⟩:=wN (P:=P) h.heap hsb hls hx;obtain⟨r,w',hrun,ha⟩:=C7 (P:=P) (ty:=ty) ht hi hzv hzs hsrc 0 hab (.slice a0 0 0) (λ_=>none) none (.inl ⟨a0,rfl,rfl,rfl⟩)
    have:=h.appended ha H (λ_=>False) rfl (λi o h=>⟨h,λh=>h⟩) (λb h=>J6) (.arr S.cl e i.size S.n S.row) rfl a3P (λi hi=>hl i Z9) (λi t hi ht=>hone i t Z9 ht) (λhc i t hi ht=>hcl hc i t Z9 ht) (λi j t hi=>absurd hi Z9)
     (λi j t hi hj=>by
      simp only[C9] at hj;exact hnews i j t hi hj)
    obtain⟨E',hr,hI,hst⟩:=this;rw[C9] at hr;exact⟨r,w',E',hrun,hr,hI,hst⟩
 ·rename_i k n h1 h2;have hzs:zv.cells.size=i.size:=by rw[hzl];exact G1 h1
  split at he
  ·-- bytes
   rename_i tyb l hk;split at he
   case h_2=>cases he
   rename_i hb;have hz1:=(yP hb).2;rw[hz] at hz1;simp only[X2] at hz1;have hbu:i.size=1:=by rw[←G1 h1,hz1];rfl
   cases hsb:i3 H (P.underlying tx) x with
   |none=>rw[hsb] at he;cases he
   |some S=>
    obtain⟨m,ls⟩:=S;rw[hsb] at he;simp only[m8,X2,U0] at he;obtain⟨rfl,rfl,rfl⟩:=he;obtain⟨hls,hle,hab⟩:=zB hs;have hle:n<=l.length:=hle;have hsrc:=b0t h.heap hsb hls hx;have hA:T4 E w k ⟨true,tyb,1,l.length,C5 l⟩:=(h.heap.live _ _ hk).2.1;obtain⟨cs,g,hdd,hg,hc⟩:=a2c hA hle hd;obtain⟨r,w',hrun,ha⟩:=C7 (P:=P) (ty:=ty) ht hi hzv hzs (by rw[hbu];exact hsrc) n hab dv (λj=>cs[j]?) g (by rw[hbu];exact hdd)
    rw[hbu] at ha;have hlen:(l.take n++m).length=n+m.length:=by simp;omega
    have:=h.appended ha (H.set k none) (λi=>i=k) W8 (nU hk) (λb hb=>⟨k,_,rfl,hk,.inl (hg b hb)⟩) (.bys e (l.take n++m)) rfl hlen (λ_ _=>rfl) (λi t _ ht=>(rK _ i t ht).1) (λ_ i t _ ht=>(rK _ i t ht).2)
      (λi j t hi hj=>by
       obtain⟨rfl,rfl⟩:=mD hj;obtain⟨u,hu,hr⟩:=hc i 0 (.int .u8 ((l.getD i 0).toNat:Int)) F3 rfl
       refine⟨u,hu,?_⟩
       rw[show(l.take n++m).getD i 0=l.getD i 0 by
        simp only[List.getD];rw[uW H4,List.getElem?_take,if_pos hi]]
       exact hr)
      (λi j t hi hj=>by
       obtain⟨rfl,rfl⟩:=mD hj;rw[show(l.take n++m).getD (n+i) 0=m.getD i 0 by
        simp only[List.getD];rw[tG H4]
        congr 2
        simp;omega]
       exact a0l hi)
    obtain⟨E',hr,hI,hst⟩:=this;exact⟨r,w',E',hrun,hr,hI,hst⟩
  ·rename_i cl tyb sz N row hk;split at he
   case h_2=>cases he
   rename_i hbeq;obtain rfl:=G1 hbeq;cases hsb:xL H (P.underlying tx) i.size x with
   |none=>rw[hsb] at he;cases he
   |some S=>
    rw[hsb] at he;simp only[m8,X2,U0] at he;obtain⟨rfl,rfl,rfl⟩:=he;obtain⟨hls,hle,hab⟩:=zB hs;have hle:n<=N:=hle;obtain⟨news,hsrc,hsl,hsone,hscl,hnews⟩:=wN (P:=P) h.heap hsb hls hx;have hA:T4 E w k ⟨cl,tyb,i.size,N,row⟩:=(h.heap.live _ _ hk).2.1;obtain⟨cs,g,hdd,hg,hc⟩:=a2c hA hle hd;obtain⟨hz',hn,hl,hone,hcl,_⟩:=hA;obtain⟨r,w',hrun,ha⟩:=C7 (P:=P) (ty:=ty) ht hi hzv hzs hsrc n hab dv (λj=>cs[j]?) g hdd
    have:=h.appended ha (H.set k none) (λi=>i=k) W8 (nU hk) (λb hb=>⟨k,_,rfl,hk,.inl (hg b hb)⟩) (.arr (cl&&S.cl) e i.size (n+S.n) (X7 row n S.row)) rfl rfl
      (λr hr=>by
       simp only[Ob.toArr];by_cases h:r<n
       ·rw[P7 h];exact hl r F3
       ·rw[P8 h];exact hsl _ Z9)
      (λr t hr ht=>by
       simp only[Ob.toArr] at ht;by_cases h:r<n
       ·rw[P7 h] at ht;exact hone r t F3 ht
       ·rw[P8 h] at ht;exact hsone _ t Z9 ht)
      (λhcc r t hr ht=>by
       simp only[Ob.toArr,O4] at ht hcc;by_cases h:r<n
       ·rw[P7 h] at ht;exact hcl hcc.1 r t F3 ht
       ·rw[P8 h] at ht;exact hscl hcc.2 _ t Z9 ht)
      (λr j t hr hj=>by
       simp only[Ob.toArr] at hj;rw[P7 hr] at hj;exact hc r j t (yK hr hle) hj)
      (λr j t hr hj=>by
       simp only[Ob.toArr] at hj;rw[P8 Z9,show n+r-n=r by omega] at hj
       exact hnews r j t hr hj)
    obtain⟨E',hr,hI,hst⟩:=this;exact⟨r,w',E',hrun,hr,hI,hst⟩
  ·-- rows with cells that own rows
   rename_i vv tyb sz N row hk;split at he
   case h_2=>cases he
   rename_i S hbeq hdx hsf;split at he
   case h_2=>cases he
   rename_i hnd;obtain rfl:=G1 hbeq;simp only[X2,U0] at he;obtain⟨rfl,rfl,rfl⟩:=he;obtain⟨hls,hle,hab⟩:=zB hs;exact a6H h ht hi hz hzv hzs hk hdx hsf hnd hls hle hab hd hx
  ·cases he
 ·cases he
end
section
variable {c:Ctx} {E:Env} {H:Y4} {w w':World} {P:Program}
def Env.addN(E:Env)(p:Nat->Prop):Env:={E with N:=λb=>E.N b∨p b}
theorem Env.addN_le(E:Env)(p:Nat->Prop):E.le (E.addN p):=⟨λ_ h=>.inl h,λ_ h=>h,λ_ _=>rfl,λ_ _=>rfl,λ_ _=>rfl,λ_ _ h=>h,λ_ _ _ _ _=>rfl,λ_ _ _ _ _=>rfl⟩
theorem Inv.grow(h:Inv c E H w)(o:w'.os=w.os)(t:w'.tape=w.tape)(hp:w'.output=w.output)(z:w.heap.size<=w'.heap.size)(hw:∀b,b<w.heap.size->w'.heap[b]? =w.heap[b]?):
  Inv c (E.addN λb=>w.heap.size<=b/\b<w'.heap.size) H w'/\Step E w (E.addN λb=>w.heap.size<=b/\b<w'.heap.size) w':=by
 have hstep:Step E w (E.addN λb=>w.heap.size<=b/\b<w'.heap.size) w':=⟨E.addN_le _,λb hb=>hw b (h.nlt b hb),λ_ h=>.inl h⟩
 refine⟨⟨⟨λk ob hk=>?_,h.heap.inj,h.heap.lt,h.heap.l2,h.heap.cur⟩,λb hb=>?_,λb hb=>?_,h.bnew,h.fr.heap o t hp z (λb h1 h2=>hw b b0o),h.keep.step hstep⟩,hstep⟩
 ·obtain⟨h1,h2,h3⟩:=h.heap.live k ob hk;refine⟨h1,h2.mono h1 hstep (λb hb=>hw b (h2.blt hb)),λb hb hN=>?_⟩
  have hb:B7 E k ob b:=hb;rcases hN with hN|hN
  ·exact h3 b hb hN
  ·have:=h2.blt hb;have:=hN.1;omega
 ·rcases hb with hb|hb
  ·have:=h.nlt b hb;omega
  ·exact hb.2
 ·rcases hb with hb|hb
  ·exact h.nnew b hb
  ·have:=h.fr.size;exact .inr (.inl Z9)
theorem a3Y(h:Inv c E H w){C dst e:TypeId}{l:Bz}(f:P.underlying C=some .string)(hd:P.underlying dst=some (.slice e))(g:j5 P e=true):
  ∃r w' E',(convert C dst (.string ⟨l.toArray⟩)).run P w= .ok r w'/\Rd E' w' (.bys l) r/\Inv c E' H w'/\Step E w E' w':=by
 have n:=run_bytes_of_string (P:=P) w C dst e ⟨l.toArray⟩ f hd (yP g).1;have z:(ByteArray.mk l.toArray).size=l.length:=by simp[ByteArray.size]
 rw[z] at n;refine⟨_,_,_,n,?_,h.grow (w':=w.drew.alloc _) rfl rfl rfl W8 (λb B=>heap_alloc_old w.drew _ B)⟩
 have d:=grownCap_ge w l.length 0 e;refine .bys l w.heap.size 0 _ (.inr ⟨V8 _,W8⟩) d (λi x hx=>?_)
 have t:i<l.length:=(w6.1 hx).1
 have W:=heap_alloc_new w.drew (.cells (bytesRow ⟨l.toArray⟩ (grownCap w l.length 0 e)) e ((bytesRow ⟨l.toArray⟩ (grownCap w l.length 0 e)).size,(bytesRow ⟨l.toArray⟩ (grownCap w l.length 0 e)).size+1));have L:=Q4 (i:=0+i) W;refine L.trans ?_
 rw[C9,bytesRow_at ⟨l.toArray⟩ _ i (by simpa using t)]
 simp only[List.getElem_toArray];rw[(w6.1 hx).2]
theorem a3h:∀{cs:List T} {l:List Int},a4D cs=some l->∀k,k<cs.length->(cs.drop k).take 1=[.int .i64 (l.getD k 0)]
 | [],_,_,k,hk=>absurd hk (J5 k)
 |c::cs,l,h,k,hk=>by
  unfold a4D at h;split at h
  ·rename_i h0;cases h0
  ·rename_i n r h0;simp only[List.cons.injEq] at h0;obtain⟨rfl,rfl⟩:=h0;simp only[G4] at h;obtain⟨l',hl,rfl⟩:=h;cases k with
   |zero=>rfl
   |succ k=>exact a3h hl k (by simpa using hk)
  ·cases h
theorem b91(cs:List T)(sz len:Nat)(k:Nat)(d:k<len):c34 cs sz len k=(cs.drop (k*sz)).take sz:=by
 unfold c34;cases hl:a4D cs with
 |none=>rfl
 |some l=>
  cases h:Nat.beq sz 1&&Nat.beq cs.length len with
  |false=>rfl
  |true=>
   simp only[O4] at h;have e:=G1 h.1;have f:=G1 h.2;rw[e,Nat.mul_one];exact(a3h hl k Z9).symm
theorem Rd.rows{sz n:Nat}{row row':Nat->List T}{v:Value}(h:Rd E w (.sl sz n row) v)(e:∀i,i<n->row' i=row i):Rd E w (.sl sz n row') v:=by
 cases h with
 |slNil=>exact .slNil _ _
 |slEmp=>exact .slEmp _ _ _
 |sl _ _ _ b off cap u N C hl f r d=>
  exact .sl sz n row' b off cap u N C (λi hi=>by rw[e i hi];exact hl i hi) (λi t hi M=>f i t hi (by rw[←e i hi];exact M)) (λi j t hi J=>r i j t hi (by rw[←e i hi];exact J)) (λi j t hi J=>d i j t hi (by rw[←e i hi];exact J))
theorem a8z(h:Inv c E H w){a:Act}{s:W5}{t:TypeId}{len:Nat}{parts:Array (Nat×Operand)}{y:T}{side:Option Prop}(he:a1H P s t len parts=some (y,side))(hop:∀p ∈ parts.toList,G0 E w a s p.2):
  ∃r w' E',(Instr.buildSlice t len (parts.map λ(i,x)=>(i,a.eval x))).run P w= .ok r w'/\Rd E' w' y r/\Inv c E' H w'/\Step E w E' w':=by
 unfold a1H at he;split at he
 ·rename_i e hu;split at he
  ·rename_i i z hi hz;split at he
   ·rename_i h1 h2 h3;split at he
    ·rename_i cs hfill;split at he
     ·rename_i _ hone hcl;simp only[X2,U0] at he;obtain⟨rfl,rfl⟩:=he;obtain⟨us,hrun,hout,hcslen⟩:=aW h hu hi hz h1 h2 h3 hfill hop;obtain⟨a1,a2,a3,a4,a5⟩:=C4 w (.cells us e);obtain⟨hI,hS⟩:=h.grow (w':=w.alloc (.cells us e)) a1 a2 a3 W8 a4
      have at_:∀r j t,r<len->((cs.drop (r*i.size)).take i.size)[j]? =some t->cs[r*i.size+j]? =some t/\us[r*i.size+j]? =some (us.getD (r*i.size+j) undef):=by
       intro r j t R hj;rw[List.getElem?_take] at hj
       split at hj
       ·rw[List.getElem?_drop] at hj
        have d:=(w6.1 hj).1
        refine⟨hj,?_⟩
        have u:r*i.size+j<us.size:=by have:=hout.1;omega
        rw[Array.getD_eq_getD_getElem?,uJ u]
        rfl
       ·cases hj
      refine⟨_,_,_,hrun,Rd.rows (row:=λk=>(cs.drop (k*i.size)).take i.size) ?_ (b91 cs i.size len),hI,hS⟩
      refine .sl i.size len _ w.heap.size 0 len (λr j=>us.getD (r*i.size+j) undef) (.inr ⟨V8 _,W8⟩) (V8 _) (λr R=>?_) (λr t R f=>?_) (λr j t R hj=>?_) (λr j t R hj=>?_)
      ·have:(r+1)*i.size<=len*i.size:=lD _ R;rw[Nat.add_mul] at this;simp only[List.length_take,List.length_drop];omega
      ·have M:=List.mem_of_mem_drop (List.mem_of_mem_take f);exact⟨i7.1 hone t M,i7.1 hcl t M⟩
      ·rw[C9];exact(Q4 a5).trans (at_ r j t R hj).2
      ·obtain⟨q,Q⟩:=at_ r j t R hj;exact hS.rd (hout.2 _ _ _ q Q)
     ·cases he
    ·cases he
   ·cases he
  ·cases he
 ·cases he
theorem b9j(h:Inv c E H w){a:Act}{s:W5}{t:TypeId}{parts:Array (Nat×Operand)}{y:T}{side:Option Prop}(he:a2X P s (.buildSlice t 0 parts)=some (y,side)):
  ∃r w' E',(Instr.buildSlice t 0 (parts.map λ(i,x)=>(i,a.eval x))).run P w= .ok r w'/\Rd E' w' y r/\Inv c E' H w'/\Step E w E' w':=by
 simp only[a2X] at he;split at he
 case h_2=>cases he
 rename_i e hu hp;obtain rfl:parts= #[]:=Array.ext' (by simpa using hp)
 split at he
 case h_2=>cases he
 rename_i i z hi hz;split at he
 case h_2=>cases he
 rename_i h1 h2;simp only[X2,U0] at he;obtain⟨rfl,rfl⟩:=he;obtain⟨us,hrun,_,_⟩:=aW (a:=a) (s:=s) (len:=0) (parts:= #[]) (cs:=[]) h hu hi hz h1 h2 W8 rfl (λp hp=>by simp at hp)
 obtain⟨a1,a2,a3,a4,a5⟩:=C4 w (.cells us e);obtain⟨hI,hS⟩:=h.grow (w':=w.alloc (.cells us e)) a1 a2 a3 W8 a4
 exact⟨_,_,_,hrun,.emp _,hI,hS⟩
theorem a2I{u:Option TypeDesc}{sz:Nat}{x:T}{q:Sr}(h:xL [] u sz x=some q):xL H u sz x=some q:=by
 unfold xL at h ⊢;split at h
 ·exact h
 ·exact h
 ·cases h
 ·cases h
theorem c1o(h:Inv c E H w){t tx ty e:TypeId}{x:T}{v X:Value}{i:TypeInfo}{z:List T}{q:Sr}(U:P.underlying t=some (.slice e))(hi:P.info? e=some i)(Z:zeroCells P e=some z)(hl:Nat.beq z.length i.size=true)
  (Q:xL [] (P.underlying tx) i.size x=some q) (I:q.cl=true) (R:lA q.side (U9 0 q.n i.bytes)) (hd:Rd E w .emp v) (hx:Rd E w x X):
  ∃r w' E',(Builtin.append_ #[t,tx] ty #[v,X]).run P w= .ok r w'/\Rd E' w' (.sl i.size q.n q.row) r/\Inv c E' H w'/\Step E w E' w':=by
 obtain⟨W,V,L⟩:=i9 hi Z;have F:W.cells.size=i.size:=by rw[L];exact G1 hl
 obtain⟨A,rfl⟩:∃A,v= .slice A 0 0:=b5p
 obtain⟨J,B⟩:=zB R;obtain⟨N,C,hlen,f,d,hnews⟩:=wN (P:=P) h.heap (a2I Q) J hx;obtain⟨r,w',hrun,ha⟩:=C7 (P:=P) (ty:=ty) U hi V F C 0 B (.slice A 0 0) (λ_=>none) none (.inl ⟨A,rfl,rfl,rfl⟩)
 rcases ha with ha|⟨hm,rfl,a1,rfl⟩
 ·obtain⟨ho,ht,hp,hsize,hoth,b,cap,cs,tyb,rfl,hcap,hblk,hcs,hbg,_,hnew⟩:=ha;have hold:∀b,b<w.heap.size->w'.heap[b]? =w.heap[b]? :=λb hb=>hoth b hb W8
  obtain⟨O,M⟩:=h.grow (w':=w') ho ht hp hsize hold;refine⟨_,w',_,hrun,?_,O,M⟩
  have g:w.heap.size<=b:=by
   rcases hbg with h1|h1
   ·exact h1.1
   ·cases h1
  rw[C9] at hcap ⊢;refine .sl i.size q.n q.row b 0 cap (λr j=>(N[r*i.size+j]?).getD undef) (.inr ⟨g,A2 hblk⟩) hcap hlen (λr t hr ht=>⟨f r t hr ht,d I r t hr ht⟩) (λr j t hr hj=>?_) (λr j t hr hj=>?_)
  ·obtain⟨u,hu',_⟩:=hnews r j t hr hj;have hj':j<i.size:=by rw[←hlen r hr];exact(w6.1 hj).1
   have l:r*i.size+j<q.n*i.size:=by
    have:(r+1)*i.size<=q.n*i.size:=lD _ hr;rw[Nat.add_mul] at this;omega
   have:=hnew _ l;rw[Nat.zero_mul,C9] at this;rw[C9,Q4 hblk,this,hu'];rfl
  ·obtain⟨u,hu',o⟩:=hnews r j t hr hj;rw[hu'];exact M.rd o
 ·refine⟨_,w',E,hrun,?_,h,Step.refl E w'⟩
  rw[show q.n=0 by omega]
  cases a1 with
  |none=>exact .slNil _ _
  |some a=>exact .slEmp _ _ _
theorem b0b(h:Inv c E H w)(ty:TypeId)(sz:Nat):Inv c (E.push H.length 0 0 sz) (H++[some (.arr true ty sz 0 λ_=>[])]) w/\Step E w (E.push H.length 0 0 sz) w:=
 h.push (ob:=.arr true ty sz 0 λ_=>[]) rfl rfl rfl (V8 _) (λ_ _=>rfl) 0 0 #[] 0 (λh=>absurd rfl h) (λh=>absurd rfl h) W8 (V8 0) (λi hi=>absurd hi (J5 _)) (λi t hi=>absurd hi (J5 _)) (λ_ i t hi=>absurd hi (J5 _)) (λi j t hi=>absurd hi (J5 _))
theorem a6B{k sz:Nat}(a:Option Addr):Rd (E.push k 0 0 sz) w (.osl k 0 0) (.slice a 0 0):=by
 have:=Rd.osl (E:=E.push k 0 0 sz) (w:=w) k 0 0 0 a (.inr rfl) (O3 _) (λ_=>W8) (λh=>absurd (if_pos rfl) h)
 rwa [show(E.push k 0 0 sz).κ k=0 from if_pos rfl] at this
theorem b5h{x:T}{v:Value}(h:a85 x=true)(hx:Rd E w x v):∃a n m,v= .slice a n m:=by
 cases hx with
 |slNil=>exact⟨_,_,_,rfl⟩
 |sl=>exact⟨_,_,_,rfl⟩
 |slEmp=>exact⟨_,_,_,rfl⟩
 |osl=>exact⟨_,_,_,rfl⟩
 |posl=>exact⟨_,_,_,rfl⟩
 |v x=>
  unfold a85 at h;split at h
  ·rename_i d;cases d
  ·rename_i d;cases d
  ·rename_i d;cases d
  ·rename_i d;simp only[T.v.injEq] at d;exact⟨_,_,_,d⟩
  ·cases h
 |_=>simp[a85] at h
theorem a6m{x:T}{v:Value}(h:isZ x=true)(hx:Rd E w x v):∃k,v= .int k 0:=by
 unfold isZ at h;split at h
 ·rename_i k i;rw[J3 hx,E4 h];exact⟨_,rfl⟩
 ·cases h
theorem b2k(h:Inv c E H w){t:TypeId}{x hi M y:T}{l:Option T}{v hv V:Value}{lv:Option Value}{H':Y4}{side:Option Prop}(he:nD P H t x l hi M=some (y,H',side))(hx:Rd E w x v)
  (o:∀x,l=some x->∃v,lv=some v/\Rd E w x v) (d:l=none->lv=none) (I:Rd E w hi hv) (X:Rd E w M V):
  ∃r E',(Instr.sliceAt t v lv (some hv) (some V)).run P w= .ok r w/\Rd E' w y r/\Inv c E' H' w/\Step E w E' w:=by
 unfold nD at he;split at he
 ·rename_i e hu hb;simp only[O4] at hb;obtain⟨⟨⟨b1,b2⟩,b3⟩,b4⟩:=hb;split at he
  ·rename_i i hi;split at he
   ·rename_i Z C;simp only[X2,U0] at he;obtain⟨rfl,rfl,rfl⟩:=he;obtain⟨a,n,m,rfl⟩:=b5h b1 hx;obtain⟨k1,rfl⟩:=a6m b3 I;obtain⟨A,rfl⟩:=a6m b4 X;have hl:lv=none∨∃f,lv=some (.int f 0):=by
     cases l with
     |none=>exact .inl (d rfl)
     |some u=>
      obtain⟨B,g,j⟩:=o u rfl;obtain⟨f,rfl⟩:=a6m b2 j;exact .inr ⟨f,g⟩
    obtain⟨z,q⟩:=b0b h e i.size;refine⟨.slice a 0 0,_,?_,a6B a,z,q⟩
    rcases hl with rfl|⟨f,rfl⟩
    ·simp[Instr.sliceAt,Instr.slice,run_underlying hu,Instr.sliceBounds,Instr.sliceBound,Result.andThen,asIntOf,(M8 (w:=w) C).1]
    ·simp[Instr.sliceAt,Instr.slice,run_underlying hu,Instr.sliceBounds,Instr.sliceBound,Result.andThen,asIntOf,(M8 (w:=w) C).1]
   ·cases he
  ·cases he
 ·cases he
theorem c2X{z:Array Value}{n r q:Nat}(R:r<n)(Q:q<z.size):(Builtin.zeroCells z n).toList[r*z.size+q]? =z[q]? :=by
 have h:r*z.size+q<n*z.size:=by
  have:(r+1)*z.size<=n*z.size:=lD _ R;rw[Nat.add_mul] at this;omega
 have M:(r*z.size+q) % z.size=q:=by rw[Nat.add_comm,Nat.add_mul_mod_self_right,Nat.mod_eq_of_lt Q]
 unfold Builtin.zeroCells;rw[Array.getElem?_toList,Array.getElem?_map,Array.getElem?_range,if_pos h]
 simp only[m8,M];rw[getElem!_pos z q Q];exact(uJ Q).symm
theorem b5P(h:Inv c E H w){t ty:TypeId}{x:T}{xv:Value}{y:T}{H':Y4}{side:Option Prop}(he:a2v P H t x=some (y,H',side))(hs:side.getD True)(hx:Rd E w x xv):
  ∃w',(Builtin.clear_ #[t] ty #[xv]).run P w= .ok (.tuple #[]) w'/\y= .und/\Inv c E H' w'/\Step E w E w':=by
 unfold a2v at he;split at he
 case h_2=>cases he
 rename_i e k off n hu;split at he
 case h_2=>cases he
 rename_i i z tyb sz N row hi hz hk;split at he
 case h_2=>cases he
 rename_i hb;simp only[X2,U0] at he;obtain⟨rfl,rfl,rfl⟩:=he;simp only[O4,xV] at hb;obtain⟨⟨⟨b1,b2⟩,b3⟩,b4⟩:=hb;have hzl:z.length=i.size:=G1 b1;obtain rfl:sz=i.size:=G1 b2;have hle:off+n<=N:=hs;have hA:T4 E w k ⟨true,tyb,i.size,N,row⟩:=(h.heap.live k _ hk).2.1;have hA0:=hA;obtain⟨hz1,hnk,hl,hone,hcl,cs,tyc,hblk,hcs,hr⟩:=hA0;simp only at hz1 hnk hl hone hcl hcs hr;cases hx with
 |osl _ _ _ o a hL hn ho ha=>
  by_cases hn0:n=0
  ·subst hn0;have hrow:G8 row off 0 z=row:=funext λj=>by
    unfold G8;cases h1:Nat.ble off j&&Nat.blt j (off+0) with
    |false=>rfl
    |true=>
     simp only[O4] at h1;have:=zP h1.1;have:j<off+0:=zP h1.2;omega
   have hH:H.set k (some (.arr true tyb i.size N row))=H:=by
    apply List.ext_getElem?
    intro j;rw[List.getElem?_set]
    split
    ·rename_i e1;subst e1;have hlt:=H3 hk;rw[if_pos hlt];unfold Z1 at hk;rw[J4 hlt] at hk ⊢
     simp only[Option.bind_some,id] at hk;rw[hk]
    ·rfl
   rw[hrow,hH];refine⟨w,?_,rfl,h,Step.refl E w⟩
   cases a<;>simp[Builtin.clear_,run_underlying hu]
  ·have hκ:E.κ k≠0:=by omega
   obtain rfl:o=off*i.size:=by rw[ho (.inl Z9),hz1]
   obtain⟨v,hv,hrl,i',hi',hzv⟩:=j4 (E:=E) (w:=w) hz;rw[hi] at hi';simp only[X2] at hi';subst hi';have hvs:v.cells.size=i.size:=by rw[←hrl.1];exact hzl
   have hlen:(Builtin.zeroCells v.cells n).toList.length=n*i.size:=by rw[Array.length_toList,size_zeroCells,hvs]
   have hle2:(off+n)*i.size<=E.κ k*i.size:=lD _ Z9
   have hget:∀r q,r<n->q<i.size->(Builtin.zeroCells v.cells n).toList[r*i.size+q]? =v.cells[q]? :=λr q hr hq=>by
    have:=c2X (z:=v.cells) hr (by rw[hvs];exact hq)
    rwa [hvs] at this
   have hz0:0<i.size:=Nat.pos_of_ne_zero (Nat.ne_of_beq_eq_false b3);have hones:∀u ∈ (Builtin.zeroCells v.cells n).toList,u.oneCell'=true:=by
    intro u hu;obtain⟨m,hm,rfl⟩:=List.mem_iff_getElem.1 hu;have hm':m<n*i.size:=by rw[←hlen];exact hm
    have hd:m/i.size<n:=(Nat.div_lt_iff_lt_mul hz0).2 hm';have hq:m % i.size<i.size:=Nat.mod_lt _ hz0;have e1:m=m/i.size*i.size+m % i.size:=by rw[Nat.mul_comm];exact(Nat.div_add_mod m i.size).symm
    have hg:=hget _ _ hd hq;rw[←e1,J4 hm] at hg
    have hzq:z[m % i.size]? =some z[m % i.size]:=J4 Z9
    exact a0V (hrl.2 _ _ _ hzq hg.symm) (L0 (i7.1 b4 _ (List.getElem_mem _))).2
   obtain⟨w',hst,hos,htp,hop,hsize,hoth,cs',hb',hcs',hout,hin⟩:=j3 P w (E.β k) (off*i.size) tyc cs (Builtin.zeroCells v.cells n).toList (hblk hκ) (by
    rw[hlen,←Nat.add_mul];exact Nat.le_trans hle2 hcs.le) hones
   have hclr:∀j,G8 row off n z j=z∨G8 row off n z j=row j:=λj=>by
    unfold G8;split
    ·exact .inl rfl
    ·exact .inr rfl
   have hzz:∀t ∈ z,W7 t=true/\I7 t=true:=λt ht=>L0 (i7.1 b4 t ht)
   refine⟨w',?_,rfl,h.write hk rfl hos htp hop Z9 (λb _ hne=>hoth b hne) hκ (.arr true tyb i.size N (G8 row off n z)) cs' tyc hb' hz1.symm (by
    rw[hz1];exact hcs.keep hcs' λq hq=>hout q (.inr (by rw[hlen,←Nat.add_mul];omega))) hnk (λj hj=>?_) (λj t hj ht=>?_) (λ_ j t hj ht=>?_) (λj q t hj hq=>?_)⟩
   ·rw[ha hκ];obtain⟨m,rfl⟩:∃m,n=m+1:=⟨n-1,Z9⟩
    simp[Builtin.clear_,run_underlying hu,hv,hst]
   ·rcases hclr j with e1|e1
    ·rw[show(Ob.arr true tyb i.size N (G8 row off n z)).toArr.row j=z from e1];exact hzl
    ·rw[show(Ob.arr true tyb i.size N (G8 row off n z)).toArr.row j=row j from e1];exact hl j hj
   ·rcases hclr j with e1|e1
    ·rw[show(Ob.arr true tyb i.size N (G8 row off n z)).toArr.row j=z from e1] at ht;exact(hzz t ht).2
    ·rw[show(Ob.arr true tyb i.size N (G8 row off n z)).toArr.row j=row j from e1] at ht;exact hone j t hj ht
   ·rcases hclr j with e1|e1
    ·rw[show(Ob.arr true tyb i.size N (G8 row off n z)).toArr.row j=z from e1] at ht;exact(hzz t ht).1
    ·rw[show(Ob.arr true tyb i.size N (G8 row off n z)).toArr.row j=row j from e1] at ht;exact hA.2.2.2.2.1 rfl j t hj ht
   ·have hq':(G8 row off n z j)[q]? =some t:=hq;show ∃u,cs'[j*i.size+q]? =some u/\_;have hqs:q<i.size:=by
     have:=(w6.1 hq').1
     rcases hclr j with e1|e1
     ·rw[e1,hzl] at this;exact this
     ·rw[e1,hl j hj] at this;exact this
    by_cases hin':off<=j/\j<off+n
    ·have e1:G8 row off n z j=z:=by
      unfold G8;rw[show(Nat.ble off j&&Nat.blt j (off+n))=true by rw[Nat.ble_eq_true_of_le hin'.1,show Nat.blt j (off+n)=true from Nat.ble_eq_true_of_le hin'.2];rfl]
     rw[e1] at hq';have hg:=hget (j-off) q Z9 hqs
     have hlt:(j-off)*i.size+q<(Builtin.zeroCells v.cells n).toList.length:=by
      rw[hlen];have:(j-off+1)*i.size<=n*i.size:=lD _ Z9
      rw[Nat.add_mul] at this;omega
     have h2:=hin _ hlt;rw[hg] at h2;have hvq:v.cells[q]? =some (v.cells[q]' Z9):=uJ _
     refine⟨_,?_,hrl.2 q t _ hq' hvq⟩
     rw[←hvq,←h2];congr 1
     rw[←Nat.add_assoc,←Nat.add_mul];congr 2
     omega
    ·have e1:G8 row off n z j=row j:=by
      unfold G8;cases h1:Nat.ble off j&&Nat.blt j (off+n) with
      |false=>rfl
      |true=>
       simp only[O4] at h1;exact absurd ⟨zP h1.1,zP h1.2⟩ hin'
     rw[e1] at hq';obtain⟨u,hu',hru⟩:=hr j q t hj hq';refine⟨u,?_,hru⟩
     rw[hout _ ?_]
     ·exact hu'
     ·rw[hlen,←Nat.add_mul];by_cases hj2:j<off
      ·refine .inl ?_
       have:(j+1)*i.size<=off*i.size:=lD _ hj2;rw[Nat.add_mul] at this;omega
      ·refine .inr ?_
       have:(off+n)*i.size<=j*i.size:=lD _ Z9
       omega
theorem c3s(h:Inv c E H w){a:Act}{s:W5}{o:Oper}{y:T}{H':Y4}{side:Option Prop}(he:A9 P s H o.op=some (y,H',side))(hs:side.getD True)(hop:∀x ∈ E8 o.op,G0 E w a s x):
  ∃w' E',((∃v,(execOp a.eval o).run P w= .ok (.value v) w'/\Rd E' w' y v)∨((execOp a.eval o).run P w= .ok .skip w'/\y= .und))/\Inv c E' H' w'/\Step E w E' w':=by
 have lift:∀{m:Sem Value} {v:Value} {w':World},m.run P w= .ok v w'->(do pure (Next.value (←m)):Sem Next).run P w= .ok (.value v) w':=by
  intro m v w' hm;simp only[D8,hm,E7,B2]
 obtain⟨dst,op,ty,pos,after,guard⟩:=o;simp only at he hop ⊢;unfold A9 at he;split at he
 case h_1 t x=>
  split at he
  ·rename_i hp;have hx:=hop x K5
   obtain⟨E',h1,h2,h3⟩:=b3I h he (yU hx hp);refine⟨_,E',.inl ⟨_,?_,h3⟩,h1,h2⟩
   refine lift (m:=Instr.box t (a.eval x)) ?_
   simp only[Instr.box,newVar,newRow,D8,run_newObj,E7,B2];rfl
  ·cases he
 case h_2 t=>
  split at he
  ·rename_i z hz;obtain⟨v,hv,hrl,_⟩:=j4 (E:=E) (w:=w) hz;obtain⟨E',h1,h2,h3⟩:=b3I h he hrl;refine⟨_,E',.inl ⟨_,?_,h3⟩,h1,h2⟩
   refine lift (m:=Instr.alloc t true (.tuple #[])) ?_
   simp only[Instr.alloc,newVar,newRow,D8,hv,run_newObj,E7,B2];rfl
  ·cases he
 case h_3 t ad x=>
  cases hst:rO P H t (L3 s ad) (L3 s x) with
  |none=>rw[hst] at he;cases he
  |some r=>
   rw[hst] at he;simp only[m8,X2,U0] at he;obtain⟨rfl,rfl,rfl⟩:=he;obtain⟨w',E',hrun,h1,h2⟩:=b6S (P:=P) h hst hs (hop ad K5) (hop x K5)
   refine⟨w',E',.inr ⟨?_,rfl⟩,h1,h2⟩
   simp only[execOp,D8,hrun,E7,B2]
 case h_4 t l m=>
  obtain⟨r,w',E',hrun,h1,h2,h3⟩:=b9U (P:=P) h he hs (hop l K5) (hop m K5)
  exact⟨w',E',.inl ⟨r,lift hrun,h1⟩,h2,h3⟩
 case h_5 t len parts=>
  obtain⟨r,w',E',hrun,h1,h2,h3⟩:=cQ (P:=P) (a:=a) h he hs (λp hp=>hop p.2 (by simp only[E8,Op.operands,List.mem_map];exact⟨p,hp,rfl⟩))
  exact⟨w',E',.inl ⟨r,lift hrun,h1⟩,h2,h3⟩
 case h_6 src dst' x=>
  split at he
  ·rename_i e l hu hd hx;split at he
   ·rename_i hb;simp only[X2,U0] at he;obtain⟨rfl,rfl,rfl⟩:=he;have hxo:=hop x K5
    unfold G0 at hxo;rw[hx] at hxo;obtain⟨r,w',E',hrun,h1,h2,h3⟩:=a3Y (P:=P) (l:=l) h hu hd hb;refine⟨w',E',.inl ⟨r,lift (m:=convert src dst' (a.eval x)) ?_,h1⟩,h2,h3⟩
    rw[yE hxo];exact hrun
   ·cases he
  ·cases he
 case h_7 args argTypes=>
  split at he
  ·rename_i d x t tx ha hat;obtain rfl:args= #[d,x]:=Array.ext' tN
   obtain rfl:argTypes= #[t,tx]:=Array.ext' a0p
   obtain⟨r,w',E',hrun,h1,h2,h3⟩:=kZ (P:=P) (ty:=ty) h he hs (hop d vM) (hop x vM)
   refine⟨w',E',.inl ⟨r,?_,h1⟩,h2,h3⟩
   simp[execOp,resolve,invoke,builtin,hrun,Result.andThen]
  ·cases he
 case h_8 t=>
  cases hst:vB P H t with
  |none=>rw[hst] at he;cases he
  |some r=>
   rw[hst] at he;simp only[m8,X2,U0] at he;obtain⟨rfl,rfl,rfl⟩:=he;obtain⟨r',w',E',hrun,h1,h2,h3⟩:=a8p (P:=P) h hst;exact⟨w',E',.inl ⟨r',lift (m:=Instr.makeMap t none) hrun,h1⟩,h2,h3⟩
 case h_9 t m k x=>
  split at he
  ·rename_i r hst;simp only[X2,U0] at he;obtain⟨rfl,rfl,rfl⟩:=he;obtain⟨w',hrun,h1,h2⟩:=b8a (P:=P) h hst (hop m K5) (hop k K5) (hop x K5)
   refine⟨w',E,.inr ⟨?_,rfl⟩,h1,h2⟩
   simp only[execOp,D8,hrun,E7,B2]
  ·cases hst:mX P H t (L3 s m) (L3 s k) (L3 s x) with
   |none=>rw[hst] at he;cases he
   |some r=>
    rw[hst] at he;simp only[m8,X2,U0] at he;obtain⟨rfl,rfl,rfl⟩:=he;obtain⟨w',hrun,h1,h2⟩:=b3d (P:=P) h hst hs (hop m K5) (hop k K5) (hop x K5)
    refine⟨w',E,.inr ⟨?_,rfl⟩,h1,h2⟩
    simp only[execOp,D8,hrun,E7,B2]
 case h_10 t x lo hi mx=>
  obtain⟨r,E',hrun,h1,h2,h3⟩:=b2k (P:=P) (lv:=lo.map a.eval) h he (hop x K5) (λt ht=>by
   cases lo with
   |none=>cases ht
   |some q=>
    simp only[m8,X2] at ht;subst ht;exact⟨_,rfl,hop q K5⟩) (λhn=>by
   cases lo with
   |none=>rfl
   |some q=>cases hn) (hop hi K5) (hop mx K5)
  exact⟨w,E',.inl ⟨r,lift hrun,h1⟩,h2,h3⟩
 case h_11 args argTypes=>
  split at he
  ·rename_i x t ha hat;obtain rfl:args= #[x]:=Array.ext' tN
   obtain rfl:argTypes= #[t]:=Array.ext' a0p
   obtain⟨w',hrun,rfl,h2,h3⟩:=b5P (P:=P) (ty:=ty) h he hs (hop x vM)
   refine⟨w',E,.inl ⟨.tuple #[],?_,.und _⟩,h2,h3⟩
   simp[execOp,resolve,invoke,builtin,hrun,Result.andThen]
  ·cases he
 case h_12=>cases he
end
def V4(P:Program)(f:FuncId)(args:List T)(res:T):Prop:=
 ∀(E:Env) (w:World) (vs:Array Value),(∀k,¬E.L k/\∀v,¬E.L2 k v)->(∀b,E.N b->b<w.heap.size)->tT E w args vs->
  Calls P f vs w λe w'=>∃v,e= .returned v/\Below w.heap.size w w'/\Rd (E.addN λb=>w.heap.size<=b/\b<w'.heap.size) w' res v
def a2l(P:Program)(f:FuncId)(c:List T->Option (T×Option Prop)):Prop:=
 ∀args res p,c args=some (res,p)->p.getD True->V4 P f args res
def XB(E:Env)(H:Y4)(b:Nat):Prop:=∃k ob,Z1 H k=some ob/\B7 E k ob b
def H6(P:Program)(f:FuncId)(args:List T)(H:Y4)(res:T)(H':Y4):Prop:=
 ∀(E:Env) (w:World) (vs:Array Value),HeapOk E w H->(∀b,E.N b->b<w.heap.size)->tT E w args vs->
  Calls P f vs w λe w'=>∃v E',e= .returned v/\Inv ⟨w,XB E H,E.N,0,E,0⟩ E' H' w'/\Stp E w E' w'/\Rd E' w' res v
def fN(P:Program)(f:FuncId)(c:List T->Y4->Option (T×Y4×Option Prop)):Prop:=
 ∀args H res H' p,c args H=some (res,H',p)->p.getD True->H6 P f args H res H'
def lZ(t:T):Bool:=
 match t with
 | .osl .. | .ref .. =>true
 |t=>uQ t
def pF:Nat->T->Bool
 |0,_=>false
 |d+1,t=>match t with
  | .agg cs=>cs.all (pF d)
  | .tup cs=>cs.all (pF d)
  |t=>lZ t
def c3S(t:T):Prop:=
 match t with
 | .own _ _ n row=>∀i,i<n->∀t ∈ row i,uQ t=true
 |t=>uQ t=true
def a1O:Ob->Prop
 | .arr true _ _ n row=>∀i,i<n->∀t ∈ row i,uQ t=true
 | .arr false _ _ n row=>n=1/\∀t ∈ row 0,lZ t=true
 | .fam _ _ _ n row=>∀i,i<n->∀t ∈ row i,c3S t
 | .bys _ _=>True
 | .mp _ _=>True
 | .mp2 _=>True
def D6(H:Y4):Prop:=∀k ob,Z1 H k=some ob->a1O ob
def c5p(P:Program)(f:FuncId)(c:List T->Option (T×Y4×Option Prop)):Prop:=
 ∀args res H' p,c args=some (res,H',p)->p.getD True->H6 P f args [] res H'/\pF 6 res=true/\D6 H'
def c5r(P:Program)(f:FuncId)(r:Rle):Prop:=∀x,r.side x->H6 P f (r.args x) (r.pre x) (r.res x) (r.post x)
def c7c(P:Program)(f:FuncId)(r:Rle):Prop:=∀x,r.side x->H6 P f (r.args x) [] (r.res x) (r.post x)/\pF 6 (r.res x)=true/\D6 (r.post x)
def c1M(P:Program)(f:FuncId)(r:Rl):Prop:=∀x,r.side x->V4 P f (r.args x) (r.res x)
def a5i(P:Program)(f:FuncId):Con->Prop
 | .pure c=>a2l P f c
 | .eff c=>fN P f c
 | .rel r=>c1M P f r
 | .mk c=>c5p P f c
 | .reff r=>c5r P f r
 | .rmk r=>c7c P f r
 | .fz c=>a2l P f c
 | .rfz r=>c1M P f r
 | .tmp=>True
def C6(P:Program)(G:I5):Prop:=∀x,x ∈ G->a5i P x.1 x.2
theorem b5b{P:Program}{G:I5}(h:C6 P G){f:FuncId}{args:List T}{r:T}{p:Option Prop}(hg:gam G f args=some (r,p))(hp:p.getD True):V4 P f args r:=by
 induction G with
 |nil=>simp[gam] at hg
 |cons x G i=>
  obtain⟨g,c⟩:=x;simp only[gam] at hg;split at hg
  ·rename_i hb;obtain rfl:=G1 hb;split at hg
   ·rename_i c;exact h (f,.pure c) W8 args r p hg hp
   ·cases hg
  ·exact i (λx hx=>h x aD) hg
theorem c27{P:Program}{G:I5}(h:C6 P G){f:FuncId}{c:List T->Option (T×Y4×Option Prop)}(hg:gmk G f=some c):c5p P f c:=by
 induction G with
 |nil=>simp[gmk] at hg
 |cons x G i=>
  obtain⟨g,d⟩:=x;simp only[gmk] at hg;split at hg
  ·rename_i hb;obtain rfl:=G1 hb;split at hg
   ·rename_i C;simp only[X2] at hg;subst hg;exact h (f,.mk C) W8
   ·cases hg
  ·exact i (λx hx=>h x aD) hg
theorem c4M{P:Program}{G:I5}(h:C6 P G){f:FuncId}{c:List T->Option (T×Option Prop)}(hg:gfz G f=some c):a2l P f c:=by
 induction G with
 |nil=>simp[gfz] at hg
 |cons x G i=>
  obtain⟨g,d⟩:=x;simp only[gfz] at hg;split at hg
  ·rename_i hb;obtain rfl:=G1 hb;split at hg
   ·rename_i C;simp only[X2] at hg;subst hg;exact h (f,.fz C) W8
   ·cases hg
  ·exact i (λx hx=>h x aD) hg
theorem a90{P:Program}{G:I5}(h:C6 P G){f:FuncId}{c:List T->Y4->Option (T×Y4×Option Prop)}(hg:qS G f=some c):fN P f c:=by
 induction G with
 |nil=>simp[qS] at hg
 |cons x G i=>
  obtain⟨g,d⟩:=x;simp only[qS] at hg;split at hg
  ·rename_i hb;obtain rfl:=G1 hb;split at hg
   ·rename_i C;simp only[X2] at hg;subst hg;exact h (f,.eff C) W8
   ·cases hg
  ·exact i (λx hx=>h x aD) hg
section
variable {c:Ctx} {E E':Env} {H:Y4} {w w':World} {P:Program}
theorem Rd.closed(e:∀b,E.N b->E'.N b){t:T}{x:Value}(h:Rd E w t x):W7 t=true->Rd E' w t x:=by
 induction h with
 |int k n=>exact λ_=>.int k n
 |bool b=>exact λ_=>.bool b
 |str l=>exact λ_=>.str l
 |v x=>exact λ_=>.v x
 |slNil sz row=>exact λ_=>.slNil sz row
 |slEmp sz row a=>exact λ_=>.slEmp sz row a
 |emp a=>exact λ_=>.emp a
 |bysEmp a=>exact λ_=>.bysEmp a
 |sl sz n row b off cap u B C hl d r _ I=>
  exact λ_=>.sl sz n row b off cap u (e b B) C hl d r (λi j t hi J=>I i j t hi J (d i t hi (A4 J)).2)
 |bysNil=>exact λ_=>.bysNil
 |bys l b off cap B C r=>exact λ_=>.bys l b off cap (e b B) C r
 |bref cells b off u B d r _ I=>exact λ_=>.bref cells b off u (e b B) d r (λj t J=>I j t J (d t (A4 J)))
 |ref=>intro h;cases h
 |osl=>intro h;cases h
 |posl=>intro h;cases h
 |pref=>intro h;cases h
 |agg=>intro h;cases h
 |tup=>intro h;cases h
 |fn=>intro h;cases h
 |mpr=>intro h;cases h
 |und x=>exact λ_=>.und x
theorem Rd.closedD(j:∀b,E.N b->E'.N b):∀(d:Nat) {t:T} {x:Value},Rd E w t x->closedD d t=true->Rd E' w t x:=by
 intro d;induction d with
 |zero=>intro t x _ C;simp[SS.closedD] at C
 |succ d I=>
  intro t x h C;have g:=h;cases h with
  |agg cs vs hl e=>exact .agg cs vs hl λi t x hi hx=>I (e i t x hi hx) (i7.1 C t (A4 hi))
  |tup cs vs hl e=>exact .tup cs vs hl λi t x hi hx=>I (e i t x hi hx) (i7.1 C t (A4 hi))
  |fn f cs vs hl e=>exact .fn f cs vs hl λi t x hi hx=>I (e i t x hi hx) (i7.1 C t (A4 hi))
  |ref=>simp[SS.closedD,W7] at C
  |osl=>simp[SS.closedD,W7] at C
  |posl=>simp[SS.closedD,W7] at C
  |pref=>simp[SS.closedD,W7] at C
  |mpr=>simp[SS.closedD,W7] at C
  |und=>exact .und x
  |_=>exact g.closed j rfl
theorem Rd.plain:∀(d:Nat) {t:T} {x:Value},Rd E w t x->pJ d t=true->Rd E' w' t x:=by
 intro d;induction d with
 |zero=>intro t x _ C;simp[pJ] at C
 |succ d I=>
  intro t x h C;cases h with
  |agg cs vs hl e=>exact .agg cs vs hl λi t x hi hx=>I (e i t x hi hx) (i7.1 C t (A4 hi))
  |tup cs vs hl e=>exact .tup cs vs hl λi t x hi hx=>I (e i t x hi hx) (i7.1 C t (A4 hi))
  |int k n=>exact .int k n
  |bool b=>exact .bool b
  |str l=>exact .str l
  |_=>simp[pJ] at C
def Env.lent(E:Env)(B:Nat)(H:Y4):Env where
 N:=λb=>E.N b∨∃k ob,B<=k/\Z1 H k=some ob/\B7 E k ob b
 L:=λk=>E.L k/\k<B
 β:=E.β
 κ:=E.κ
 z:=E.z
 L2:=λk v=>E.L2 k v/\k<B
 b2:=E.b2
 c2:=E.c2
theorem K3{α β:Type}{f:α->Option β}:∀{l:List α} {q:List β},N5 f l=some q->q.length=l.length/\∀(i:Nat) (a:α) (b:β),l[i]? =some a->q[i]? =some b->f a=some b:=by
 intro l;induction l with
 |nil=>intro q h;simp[N5] at h;subst h;exact⟨rfl,λi a b ha=>by simp at ha⟩
 |cons x l ih=>
  intro q h;simp only[N5] at h;split at h
  ·rename_i b q' hb hq;simp only[X2] at h;subst h;obtain⟨h1,h2⟩:=ih hq;refine⟨by simp[h1],λi a b' ha hb'=>?_⟩
   cases i with
   |zero=>simp at ha hb';subst ha;subst hb';exact hb
   |succ i=>exact h2 i a b' tN (by simpa using hb')
  ·cases h
theorem yM{p q:Option Prop}(h:(nJ p q).getD True):p.getD True/\q.getD True:=by
 cases p with
 |none=>exact⟨trivial,by simpa[nJ] using h⟩
 |some p=>
  cases q with
  |none=>exact⟨h,trivial⟩
  |some q=>exact h
theorem b7:∀{l:List (T×Option Prop)},(wW l).getD True->∀x ∈ l,x.2.getD True:=by
 intro l;induction l with
 |nil=>intro _ x hx;cases hx
 |cons y l i=>
  intro h x hx;simp only[wW] at h;obtain⟨e,d⟩:=yM h;rcases vT.1 hx with rfl|hx
  ·exact e
  ·exact i d x hx
theorem a7G(sz:Nat)(row:Nat->List T)(a:Option Addr):Rd E w (.sl sz 0 row) (.slice a 0 0):=by
 cases a with
 |none=>exact .slNil _ _
 |some a=>exact .slEmp _ _ _
theorem jZ{t:T}(h:closedOne t=true):c5n t=t:=by
 cases t<;>first|rfl|(simp[closedOne,W7] at h)
theorem b3J{k v i j n m osz:Nat}{o:TypeId}{orow:Nat->List T}{u:Value}(e:∀b,E.N b->E'.N b)(O:T4 (E.sub k v i j osz) w 0 ⟨true,o,osz,m,orow⟩)(f:n<=m)(hb:E.c2 k v i j≠0->E'.N (E.b2 k v i j))(hu:Rd E w (.posl k v i j n) u):
  Rd E' w (.sl osz n orow) u:=by
 obtain⟨z,d,hl,hone,hcl,cs,ty,hblk,h,hc⟩:=O;simp only at z d hl hone hcl h hc;cases hu with
 |posl _ _ _ _ _ a L hn' ha=>
  by_cases hc2:E.c2 k v i j=0
  ·obtain rfl:n=0:=by omega
   rw[hc2];exact a7G _ _ a
  ·rw[ha hc2];have hblk:=hblk hc2;refine .sl osz n orow (E.b2 k v i j) 0 (E.c2 k v i j) (λr q=>(cs[r*osz+q]?).getD undef) (hb hc2) hn' (λr hr=>hl r Z9) (λr t hr ht=>⟨hone r t Z9 ht,hcl trivial r t Z9 ht⟩) (λr q t hr hq=>?_) (λr q t hr hq=>?_)
   ·obtain⟨u,hu,_⟩:=hc r q t Z9 hq
    rw[C9];exact(Q4 hblk).trans (by rw[hu];rfl)
   ·obtain⟨u,hu,hr'⟩:=hc r q t Z9 hq
    rw[hu];exact Rd.closed (E:=E.sub k v i j osz) (E':=E') e hr' (hcl trivial r t Z9 (A4 hq))
theorem s5{b0:Nat}(h:Inv c E H w):∀(d:Nat) {t r:T} {p:Option Prop} {x:Value},M6 b0 H d t=some (r,p)->p.getD True->Rd E w t x->Rd (E.lent b0 H) w r x:=by
 intro d;induction d with
 |zero=>intro t r p x hb;simp[M6] at hb
 |succ d ih=>
  intro t r p x hb hp hx;have hN:∀b,E.N b->(E.lent b0 H).N b:=λb hb=>.inl hb
  have list:∀(cs:List T) (vs:Array Value) (cs':List (T×Option Prop)),N5 (M6 b0 H d) cs=some cs'->(wW cs').getD True->cs.length=vs.size->(∀(i:Nat) (t:T) (x:Value),cs[i]? =some t->vs[i]? =some x->Rd E w t x)->
    (cs'.map (·.1)).length=vs.size/\∀(i:Nat) (t:T) (x:Value),(cs'.map (·.1))[i]? =some t->vs[i]? =some x->Rd (E.lent b0 H) w t x:=by
   intro cs vs cs' hm hs hl ht;obtain⟨h1,h2⟩:=K3 hm;refine⟨by simp[h1,hl],λi t x hi hx=>?_⟩
   simp only[pW,G4] at hi
   obtain⟨y,hy,rfl⟩:=hi;have hlt:i<cs.length:=by rw[←h1];exact(w6.1 hy).1
   have hc:=J4 hlt
   have hb:=h2 i _ y hc hy;exact ih (r:=y.1) (p:=y.2) hb (b7 hs y (A4 hy)) (ht i _ x hc hx)
  unfold M6 at hb;split at hb
  ·rename_i k i j;split at hb
   ·rename_i hlt;simp only[X2,U0] at hb;obtain⟨rfl,rfl⟩:=hb;cases hx with
    |ref _ _ _ hL=>exact .ref (E:=E.lent b0 H) k i j ⟨hL,zP hlt⟩
   rename_i hge;have hge:b0<=k:=by
    rcases Nat.lt_or_ge k b0 with h|h
    ·have:Nat.blt k b0=true:=Nat.ble_eq_true_of_le h;rw[hge] at this;cases this
    ·exact h
   split at hb
   ·rename_i A hA;split at hb
    ·rename_i hA1;split at hb
     ·rename_i cs hm;split at hb
      case h_2=>cases hb
      rename_i hall;simp only[X2,U0] at hb;obtain⟨rfl,rfl⟩:=hb;obtain⟨u,hr,ht⟩:=eU h.heap hA (i:=0) Z9
      obtain⟨hL,⟨hz,hn,hl,hone,hcl,_⟩,_⟩:=h.heap.arr hA;obtain⟨ob,hob,_⟩:=a0Q hA;obtain⟨h1,h2⟩:=K3 hm;rw[a0S hx];refine .bref _ _ _ (λi=>u (j+i)) (.inr ⟨k,ob,hge,hob,.inl ⟨Z9,rfl⟩⟩) (λt hmem=>?_) (λi t hi=>?_) (λi t hi=>?_)
      ·obtain⟨y,hy,rfl⟩:=List.mem_map.1 hmem;exact i7.1 hall y hy
      ·simp only[pW,G4] at hi
       obtain⟨y,hy,rfl⟩:=hi;have hlt:i<((A.row 0).drop j).length:=by rw[←h1];exact(w6.1 hy).1
       have hc:=J4 hlt
       rw[List.getElem?_drop] at hc
       have:=hr _ _ hc
       rwa [show 0*(E.z k).1+(j+i)=0*(E.z k).1+j+i by omega] at this
      ·simp only[pW,G4] at hi
       obtain⟨y,hy,rfl⟩:=hi;have hlt:i<((A.row 0).drop j).length:=by rw[←h1];exact(w6.1 hy).1
       have hc:=J4 hlt
       have hb:=h2 i _ y hc hy;rw[List.getElem?_drop] at hc
       exact ih (r:=y.1) (p:=y.2) hb (b7 hp y (A4 hy)) (ht _ _ hc)
     ·cases hb
    ·cases hb
   ·cases hb
  ·rename_i k off n;split at hb
   ·rename_i hlt;simp only[X2,U0] at hb;obtain⟨rfl,rfl⟩:=hb;cases hx with
    |osl _ _ _ o a hL hn ho ha=>exact .osl (E:=E.lent b0 H) k off n o a ⟨hL,zP hlt⟩ hn ho ha
   rename_i hge;have hge:b0<=k:=by
    rcases Nat.lt_or_ge k b0 with h|h
    ·have:Nat.blt k b0=true:=Nat.ble_eq_true_of_le h;rw[hge] at this;cases this
    ·exact h
   split at hb
   ·rename_i ty sz m row hk;simp only[X2,U0] at hb;obtain⟨rfl,rfl⟩:=hb;have hle:=oR hp;obtain⟨hL,⟨hz,hn,hl,hone,hcl,cs,ty,hblk,hsz,hc⟩,hNk⟩:=h.heap.live _ _ hk;simp only[Ob.toArr] at hz hn hl hone hcl hsz hc;cases hx with
    |osl _ _ _ o a _ hn' ho ha=>
     rw[mA];by_cases hκ:E.κ k=0
     ·obtain rfl:n=0:=by omega
      rw[hκ,Nat.zero_sub];exact a7G _ _ a
     have hblk:=hblk hκ;rw[ha hκ];have hob:0<n->o=off*sz:=λh=>by rw[ho (.inl Z9),hz]
     refine .sl sz n _ (E.β k) o (E.κ k-off) (λi j=>(cs[(off+i)*sz+j]?).getD undef) (.inr ⟨k,_,hge,hk,.inl ⟨hκ,rfl⟩⟩) Z9 (λi hi=>hl _ Z9) (λi t hi ht=>⟨hone _ t Z9 ht,hcl trivial _ t Z9 ht⟩) (λi j t hi hj=>?_) (λi j t hi hj=>?_)
     ·obtain⟨u,hu,_⟩:=hc (off+i) j t Z9 hj
      rw[Q4 hblk,hob Z9,←Nat.add_mul,hu]
      rfl
     ·obtain⟨u,hu,hr⟩:=hc (off+i) j t Z9 hj
      rw[hu];exact Rd.closed hN hr (hcl trivial _ t Z9 (A4 hj))
   ·rename_i v0 ty sz m row hk;simp only[X2,U0] at hb;obtain⟨rfl,rfl⟩:=hb;have hle:=oR hp;obtain⟨hL,hF,hNk⟩:=h.heap.live _ _ hk;have hF:FamOk E w k v0 ty sz m row:=hF;obtain⟨hz,hn,hl,hone,hcl,cs,ty2,hblk,hsz,hc⟩:=hF.arr;simp only at hz hn hl hone hcl hsz hc;cases hx with
    |osl _ _ _ o a _ hn' ho ha=>
     rw[mA];by_cases hκ:E.κ k=0
     ·obtain rfl:n=0:=by omega
      rw[hκ,Nat.zero_sub];exact a7G _ _ a
     have hblk:=hblk hκ;rw[ha hκ];have hob:0<n->o=off*sz:=λh=>by rw[ho (.inl Z9),hz]
     have get:∀(i j:Nat) (t:T),i<n->(a6C (λi=>row (off+i)) i)[j]? =some t->∃t0:T,(row (off+i))[j]? =some t0/\t=c5n t0:=λi j t hi hj=>by
      simp only[a6C,pW,G4] at hj
      obtain⟨t0,h0,rfl⟩:=hj;exact⟨t0,h0,rfl⟩
     refine .sl sz n _ (E.β k) o (E.κ k-off) (λi j=>(cs[(off+i)*sz+j]?).getD undef) (.inr ⟨k,_,hge,hk,.inl ⟨hκ,rfl⟩⟩) Z9 (λi hi=>by simp only[a6C,List.length_map];have:=hl (off+i) Z9;rwa [N8] at this) (λi t hi ht=>?_) (λi j t hi hj=>?_) (λi j t hi hj=>?_)
     ·obtain⟨j,hj⟩:=List.getElem?_of_mem ht
      obtain⟨t0,h0,rfl⟩:=get i j t hi hj;rcases hF.cell (show off+i<m by omega) h0 with hco|⟨oty,osz,on,orow,rfl⟩
      ·rw[jZ hco];exact⟨(L0 hco).2,(L0 hco).1⟩
      ·exact⟨rfl,rfl⟩
     ·obtain⟨t0,h0,rfl⟩:=get i j t hi hj;obtain⟨u,hu,_⟩:=hc (off+i) j (sP k v0 (off+i) j t0) Z9 (by rw[J9,h0];rfl)
      rw[Q4 hblk,hob Z9,←Nat.add_mul,hu]
      rfl
     ·obtain⟨t0,h0,rfl⟩:=get i j t hi hj;obtain⟨u,hu,hr⟩:=hc (off+i) j (sP k v0 (off+i) j t0) Z9 (by rw[J9,h0];rfl)
      rw[hu];rcases hF.cell (show off+i<m by omega) h0 with hco|⟨oty,osz,on,orow,rfl⟩
      ·rw[M4 hco] at hr;rw[jZ hco];exact Rd.closed hN hr (L0 hco).1
      ·refine b3J (E':=E.lent b0 H) hN (hF.own (off+i) j oty osz on orow Z9 h0).1 (V8 _) (λhc2=>.inr ⟨k,_,hge,hk,.inr ⟨_,_,_,_,_,_,_,_,_,_,_,rfl,Z9,h0,hc2,rfl⟩⟩) hr
   ·rename_i ty l hk;simp only[X2,U0] at hb;obtain⟨rfl,rfl⟩:=hb;cases hx with
    |osl _ _ _ o a _ hn' ho ha=>
     obtain⟨hlen,hcell⟩:=a2G h.heap hk hp ho;by_cases hκ:E.κ k=0
     ·obtain rfl:n=0:=by omega
      rw[hκ,Nat.zero_sub,List.take_zero];cases a with
      |none=>exact .bysNil
      |some a=>exact .bysEmp a
     rw[ha hκ];have:=Rd.bys (E:=E.lent b0 H) (w:=w) ((l.drop off).take n) (E.β k) o (E.κ k-off) (.inr ⟨k,_,hge,hk,.inl ⟨hκ,rfl⟩⟩) Z9 hcell
     rwa [hlen] at this
   ·rename_i ty sz m row hk;split at hb
    case h_2=>cases hb
    rename_i hg;simp only[O4] at hg;obtain⟨⟨⟨g1,g2⟩,g3⟩,g4⟩:=hg;obtain rfl:=G1 g1;obtain rfl:=G1 g2;obtain rfl:=G1 g3;obtain rfl:=G1 g4;split at hb
    case h_2=>cases hb
    rename_i c0 c1 hm0 hm1;split at hb
    case h_2=>cases hb
    rename_i hall;simp only[X2,U0] at hb;obtain⟨rfl,rfl⟩:=hb;obtain⟨hL,⟨hz,hn,hl,hone,hcl,cs,ty,hblk,hsz,hc⟩,hNk⟩:=h.heap.live _ _ hk;simp only[Ob.toArr] at hz hn hl hone hcl hsz hc;obtain⟨p1,p2⟩:=K3 hm0;obtain⟨q1,q2⟩:=K3 hm1;have hl0:=hl 0 Z9
    have hl1:=hl 1 Z9
    have get:∀(i j:Nat) (t:T),i<2->(eY (c0.map (·.1)) (c1.map (·.1)) i)[j]? =some t->∃y,y ∈ c0++c1/\t=y.1/\∃t0,(row i)[j]? =some t0/\M6 b0 H d t0=some y:=λi j t hi hj=>by
     match i,hi with
     |0,_=>
      simp only[eY,pW,G4] at hj
      obtain⟨y,hy,rfl⟩:=hj;have hlt:j<(row 0).length:=by rw[←p1];exact(w6.1 hy).1
      have hc0:=J4 hlt
      exact⟨y,List.mem_append_left _ (A4 hy),rfl,_,hc0,p2 j _ y hc0 hy⟩
     |1,_=>
      simp only[eY,pW,G4] at hj
      obtain⟨y,hy,rfl⟩:=hj;have hlt:j<(row 1).length:=by rw[←q1];exact(w6.1 hy).1
      have hc0:=J4 hlt
      exact⟨y,List.mem_append_right _ (A4 hy),rfl,_,hc0,q2 j _ y hc0 hy⟩
    cases hx with
    |osl _ _ _ o a _ hn' ho ha=>
     by_cases hκ:E.κ k=0
     ·omega
     have hblk:=hblk hκ;rw[ha hκ];have hob:o=0*1:=by rw[ho (.inl Z9)];omega
     refine .sl 1 2 _ (E.β k) o (E.κ k-0) (λi j=>(cs[(0+i)*1+j]?).getD undef) (.inr ⟨k,_,hge,hk,.inl ⟨hκ,rfl⟩⟩) Z9 (λi hi=>?_) (λi t hi ht=>?_) (λi j t hi hj=>?_) (λi j t hi hj=>?_)
     ·match i,hi with
      |0,_=>simp only[eY,List.length_map,p1];exact hl0
      |1,_=>simp only[eY,List.length_map,q1];exact hl1
     ·obtain⟨j,hj⟩:=List.getElem?_of_mem ht
      obtain⟨y,hy,rfl,_⟩:=get i j t hi hj;have:=i7.1 hall y hy;rw[O4] at this;exact⟨this.2,this.1⟩
     ·obtain⟨y,hy,rfl,t0,h0,_⟩:=get i j t hi hj;obtain⟨u,hu,_⟩:=hc (0+i) j t0 Z9 (by rw[C9];exact h0)
      rw[Q4 hblk,hob,←Nat.add_mul,hu];rfl
     ·obtain⟨y,hy,rfl,t0,h0,hb0⟩:=get i j t hi hj;obtain⟨u,hu,hr⟩:=hc (0+i) j t0 Z9 (by rw[C9];exact h0)
      rw[hu];exact ih (r:=y.1) (p:=y.2) hb0 (b7 hp y hy) hr
   ·cases hb
  ·rename_i cs;cases hm:N5 (M6 b0 H d) cs with
   |none=>rw[hm] at hb;cases hb
   |some cs'=>
    rw[hm] at hb;simp only[m8,X2,U0] at hb;obtain⟨rfl,rfl⟩:=hb;cases hx with
    |agg _ vs hl ht=>
     obtain⟨a1,a2⟩:=list cs vs cs' hm hp hl ht;exact .agg _ vs a1 a2
  ·rename_i f cs;cases hm:N5 (M6 b0 H d) cs with
   |none=>rw[hm] at hb;cases hb
   |some cs'=>
    rw[hm] at hb;simp only[m8,X2,U0] at hb;obtain⟨rfl,rfl⟩:=hb;cases hx with
    |fn _ _ vs hl ht=>
     obtain⟨a1,a2⟩:=list cs vs cs' hm hp hl ht;exact .fn _ _ vs a1 a2
  ·rename_i cs;cases hm:N5 (M6 b0 H d) cs with
   |none=>rw[hm] at hb;cases hb
   |some cs'=>
    rw[hm] at hb;simp only[m8,X2,U0] at hb;obtain⟨rfl,rfl⟩:=hb;cases hx with
    |tup _ vs hl ht=>
     obtain⟨a1,a2⟩:=list cs vs cs' hm hp hl ht;exact .tup _ vs a1 a2
  ·cases hb
  ·rename_i k v i j n;split at hb
   ·rename_i hlt;simp only[X2,U0] at hb;obtain⟨rfl,rfl⟩:=hb;cases hx with
    |posl _ _ _ _ _ a hL hn ha=>exact .posl (E:=E.lent b0 H) k v i j n a ⟨hL,zP hlt⟩ hn ha
   rename_i hge;have hge:b0<=k:=by
    rcases Nat.lt_or_ge k b0 with h|h
    ·have:Nat.blt k b0=true:=Nat.ble_eq_true_of_le h;rw[hge] at this;cases this
    ·exact h
   split at hb
   ·rename_i A hA;simp only[X2,U0] at hb;obtain⟨rfl,rfl⟩:=hb;obtain⟨hv,hi,hn⟩:PoB v A.v i A.n n A.A.n:=hp;obtain⟨hO,_,_⟩:=a10 h.heap hA hv hi;obtain⟨ty,sz,row,hk,hj,hcl⟩:=yV hA;subst hv;obtain⟨v',n',cl,oty,osz,m,orow⟩:=A;simp only at hcl;subst hcl;exact b3J (E':=E.lent b0 H) hN hO hn (λhc2=>.inr ⟨k,_,hge,hk,.inr ⟨_,_,_,_,_,_,_,_,_,_,_,rfl,hi,hj,hc2,rfl⟩⟩) hx
   ·cases hb
  ·rename_i k v i j z a b;split at hb
   ·rename_i hlt;simp only[X2,U0] at hb;obtain⟨rfl,rfl⟩:=hb;cases hx with
    |pref _ _ _ _ _ _ _ hL=>exact .pref (E:=E.lent b0 H) k v i j z a b ⟨hL,zP hlt⟩
   ·cases hb
  ·cases hb
  ·rename_i n1 n2 n3 n4 n5 n6 n7 n8 n9;simp only[X2,U0] at hb;obtain⟨rfl,rfl⟩:=hb;refine Rd.closed hN hx ?_
   cases t<;>first|rfl|(exfalso;first|exact n1 _ _ _ rfl|exact n2 _ _ _ rfl|exact n3 _ rfl|exact n4 _ _ rfl|exact n5 _ rfl|exact n6 _ rfl|exact n7 _ _ _ _ _ rfl|exact n8 _ _ _ _ _ _ _ rfl|exact n9 _ _ _ _ rfl)
end
def Env.ren(E:Env)(ρ:Nat->Option Nat)(len:Nat):Env where
 N:=E.N
 L:=λk=>k<len/\∃m,ρ k=some m/\E.L m
 β:=λk=>E.β ((ρ k).getD k)
 κ:=λk=>E.κ ((ρ k).getD k)
 z:=λk=>E.z ((ρ k).getD k)
 L2:=λk v=>k<len/\∃m,ρ k=some m/\E.L2 m v
 b2:=λk=>E.b2 ((ρ k).getD k)
 c2:=λk=>E.c2 ((ρ k).getD k)
section
variable {c:Ctx} {E:Env} {H H':Y4} {w w':World} {ρ:Nat->Option Nat} {len:Nat} {P:Program} {G:I5}
theorem a2R(h:p:=by simp[Env.ren,hm]):p:=h
theorem Rd.ren(e:∀k m,ρ k=some m->k<len):∀(d:Nat) {t F:T} {x:Value},S4 ρ d F=some t->Rd E w t x->Rd (E.ren ρ len) w F x:=by
 intro d;induction d with
 |zero=>intro t F x h;simp[S4] at h
 |succ d R=>
  intro t F x h hx;have L:∀(cs cs':List T) (vs:Array Value),N5 (S4 ρ d) cs'=some cs->cs.length=vs.size->(∀(i:Nat) (t:T) (x:Value),cs[i]? =some t->vs[i]? =some x->Rd E w t x)->
    cs'.length=vs.size/\∀(i:Nat) (t:T) (x:Value),cs'[i]? =some t->vs[i]? =some x->Rd (E.ren ρ len) w t x:=by
   intro cs cs' vs hm hl ht;obtain⟨r,q⟩:=K3 hm;refine⟨Z9,λi t x hi hx=>?_⟩
   have e:i<cs.length:=by rw[r];exact(w6.1 hi).1
   have hc:=J4 e
   exact R (q i t _ hi hc) (ht i _ x hc hx)
  unfold S4 at h;split at h
  ·rename_i k i j;simp only[G4] at h;obtain⟨m,hm,rfl⟩:=h;cases hx with
   |ref _ _ _ g=>
    have:=Rd.ref (E:=E.ren ρ len) (w:=w) k i j ⟨e k m hm,m,hm,g⟩
    simpa[Env.ren,hm] using this
  ·rename_i k off n;simp only[G4] at h;obtain⟨m,hm,rfl⟩:=h;cases hx with
   |osl _ _ _ o a g N O J=>
    have:=Rd.osl (E:=E.ren ρ len) (w:=w) k off n o a ⟨e k m hm,m,hm,g⟩ (by simpa[Env.ren,hm] using N) (by simpa[Env.ren,hm] using O) (by simpa[Env.ren,hm] using J)
    simpa[Env.ren,hm] using this
  ·rename_i k;simp only[G4] at h;obtain⟨m,hm,rfl⟩:=h;cases hx with
   |mpr _ g=>
    have:=Rd.mpr (E:=E.ren ρ len) (w:=w) k ⟨e k m hm,m,hm,g⟩
    simpa[Env.ren,hm] using this
  ·rename_i k v i j n;simp only[G4] at h;obtain⟨m,hm,rfl⟩:=h;cases hx with
   |posl _ _ _ _ _ a g N J=>
    have:=Rd.posl (E:=E.ren ρ len) (w:=w) k v i j n a ⟨e k m hm,m,hm,g⟩ (by simpa[Env.ren,hm] using N) (by simpa[Env.ren,hm] using J)
    simpa[Env.ren,hm] using this
  ·rename_i k v i j z a b;simp only[G4] at h;obtain⟨m,hm,rfl⟩:=h;cases hx with
   |pref _ _ _ _ _ _ _ g=>
    have:=Rd.pref (E:=E.ren ρ len) (w:=w) k v i j z a b ⟨e k m hm,m,hm,g⟩
    simpa[Env.ren,hm] using this
  ·rename_i cs';simp only[G4] at h;obtain⟨cs,hm,rfl⟩:=h;cases hx with
   |agg _ vs hl ht=>obtain⟨B,C⟩:=L cs cs' vs hm hl ht;exact .agg _ vs B C
  ·rename_i cs';simp only[G4] at h;obtain⟨cs,hm,rfl⟩:=h;cases hx with
   |tup _ vs hl ht=>obtain⟨B,C⟩:=L cs cs' vs hm hl ht;exact .tup _ vs B C
  ·rename_i f cs';simp only[G4] at h;obtain⟨cs,hm,rfl⟩:=h;cases hx with
   |fn _ _ vs hl ht=>obtain⟨B,C⟩:=L cs cs' vs hm hl ht;exact .fn _ _ vs B C
  ·rename_i n1 n2 n6 n7 n8 n3 n4 n5;simp only[X2] at h;subst h;have hc:∀{t:T} {x:Value},Rd E w t x->W7 t=true->Rd (E.ren ρ len) w t x:=λhx ht=>Rd.closed (E:=E) (E':=E.ren ρ len) (λ_ h=>h) hx ht
   cases hx with
   |und x=>exact .und x
   |ref=>exact absurd rfl (n1 _ _ _)
   |osl=>exact absurd rfl (n2 _ _ _)
   |mpr=>exact absurd rfl (n6 _)
   |posl=>exact absurd rfl (n7 _ _ _ _ _)
   |pref=>exact absurd rfl (n8 _ _ _ _ _ _ _)
   |agg=>exact absurd rfl (n3 _)
   |tup=>exact absurd rfl (n4 _)
   |fn=>exact absurd rfl (n5 _ _)
   |int=>exact .int _ _
   |bool=>exact .bool _
   |str=>exact .str _
   |v=>exact .v _
   |slNil=>exact .slNil _ _
   |slEmp=>exact .slEmp _ _ _
   |emp=>exact .emp _
   |bysEmp=>exact .bysEmp _
   |bysNil=>exact .bysNil
   |sl sz n row b off cap u r q A I M Q=>exact hc (.sl sz n row b off cap u r q A I M Q) rfl
   |bys l b off cap r q A=>exact hc (.bys l b off cap r q A) rfl
   |bref cells b off u r q A I=>exact hc (.bref cells b off u r q A I) rfl
theorem b7u:∀{d:Nat} {t e:T},S4 ρ d e=some t->I7 t=true->I7 e=true:=by
 intro d t e h f;cases d with
 |zero=>simp[S4] at h
 |succ d=>
  unfold S4 at h;split at h
  ·rfl
  ·rfl
  ·rfl
  ·rfl
  ·rfl
  ·simp only[G4] at h;obtain⟨cs,_,rfl⟩:=h;simp[I7] at f
  ·simp only[G4] at h;obtain⟨cs,_,rfl⟩:=h;simp[I7] at f
  ·rfl
  ·simp only[X2] at h;subst h;exact f
theorem b7C{ρ1 ρ2:Nat->Option Nat}(h:∀k i,ρ1 k=some i->ρ2 i=some k):∀{d:Nat} {t e:T},S4 ρ1 d t=some e->S4 ρ2 d e=some t:=by
 intro d;induction d with
 |zero=>intro t e ht;simp[S4] at ht
 |succ d f=>
  have L:∀{l q:List T},N5 (S4 ρ1 d) l=some q->N5 (S4 ρ2 d) q=some l:=by
   intro l;induction l with
   |nil=>intro q Q;simp only[N5,X2] at Q;subst Q;rfl
   |cons x l I=>
    intro q Q;simp only[N5] at Q;split at Q
    ·rename_i B r;simp only[X2] at Q;subst Q;simp only[N5,f B,I r]
    ·cases Q
  intro t e ht;unfold S4 at ht;split at ht
  ·simp only[G4] at ht;obtain⟨m,M,rfl⟩:=ht;simp[S4,h _ _ M]
  ·simp only[G4] at ht;obtain⟨m,M,rfl⟩:=ht;simp[S4,h _ _ M]
  ·simp only[G4] at ht;obtain⟨m,M,rfl⟩:=ht;simp[S4,h _ _ M]
  ·simp only[G4] at ht;obtain⟨m,M,rfl⟩:=ht;simp[S4,h _ _ M]
  ·simp only[G4] at ht;obtain⟨m,M,rfl⟩:=ht;simp[S4,h _ _ M]
  ·simp only[G4] at ht;obtain⟨cs,M,rfl⟩:=ht;simp[S4,L M]
  ·simp only[G4] at ht;obtain⟨cs,M,rfl⟩:=ht;simp[S4,L M]
  ·simp only[G4] at ht;obtain⟨cs,M,rfl⟩:=ht;simp[S4,L M]
  ·rename_i n1 n2 n6 n7 n8 n3 n4 n5;simp only[X2] at ht;subst ht;unfold S4;split
   ·exact absurd rfl (n1 _ _ _)
   ·exact absurd rfl (n2 _ _ _)
   ·exact absurd rfl (n6 _)
   ·exact absurd rfl (n7 _ _ _ _ _)
   ·exact absurd rfl (n8 _ _ _ _ _ _ _)
   ·exact absurd rfl (n3 _)
   ·exact absurd rfl (n4 _)
   ·exact absurd rfl (n5 _ _)
   ·rfl
theorem jV{d:Nat}{t:T}(h:W7 t=true):S4 ρ (d+1) t=some t:=by
 cases t<;>first|rfl|(simp[W7] at h)
theorem b1x{d:Nat}{t f:T}(h:S4 ρ d t=some f)(e:I7 t=true):I7 f=true:=by
 cases d with
 |zero=>simp[S4] at h
 |succ d=>
  unfold S4 at h;split at h
  ·simp only[G4] at h;obtain⟨_,_,rfl⟩:=h;rfl
  ·simp only[G4] at h;obtain⟨_,_,rfl⟩:=h;rfl
  ·simp only[G4] at h;obtain⟨_,_,rfl⟩:=h;rfl
  ·simp only[G4] at h;obtain⟨_,_,rfl⟩:=h;rfl
  ·simp only[G4] at h;obtain⟨_,_,rfl⟩:=h;rfl
  ·simp[I7] at e
  ·simp[I7] at e
  ·simp only[G4] at h;obtain⟨_,_,rfl⟩:=h;rfl
  ·simp only[X2] at h;subst h;exact e
def ObQ(Q:T->Prop)(ob:Ob):Prop:=
 match ob with
 | .fam _ _ _ n row=>(∀i t,i<n->t ∈ row i->closedOne t=true->Q t)/\∀i oty osz on orow,i<n->T.own oty osz on orow ∈ row i->∀a t,a<on->t ∈ orow a->Q t
 |ob=>∀i t,i<ob.toArr.n->t ∈ ob.toArr.row i->Q t
theorem a9m{Q:T->Prop}{E2:Env}{k F:Nat}{ob O:Ob}(h:T4 E w k ob.toArr)(I:∀i t,i<ob.toArr.n->t ∈ ob.toArr.row i->Q t)(A:ob.isArr=true)(hf:mB ρ ob=some O)(v:∀t f x,Q t->S4 ρ 6 t=some f->Rd E w t x->Rd E2 w' f x)
  (V:E2.β F=E.β k) (C:E2.κ F=E.κ k) (Z:E2.z F=E.z k) (Y:E.κ k≠0->w'.heap[E.β k]? =w.heap[E.β k]?):T4 E2 w' F O.toArr:=by
 obtain⟨hz0,hn,hl,hone,hcl,cs,ty,g,hsz,L⟩:=h;have hblk:E.κ k≠0->w'.heap[E.β k]? =some (.cells cs ty (0,0)):=λC=>by rw[Y C];exact g C
 have d:∀t x,Q t->W7 t=true->Rd E w t x->Rd E2 w' t x:=λt x X ht hx=>v t t x X (jV ht) hx
 unfold T4;rw[V,C,Z];unfold mB at hf;split at hf
 ·simp only[X2] at hf;subst hf;refine⟨hz0,hn,hl,hone,hcl,cs,ty,hblk,hsz,λi j t hi hj=>?_⟩
  obtain⟨u,U,R⟩:=L i j t hi hj;exact⟨u,U,d t u (I i t hi (A4 hj)) (hcl rfl i t hi (A4 hj)) R⟩
 ·cases A
 ·simp only[X2] at hf;subst hf;refine⟨hz0,hn,hl,hone,hcl,cs,ty,hblk,hsz,λi j t hi hj=>?_⟩
  obtain⟨u,U,R⟩:=L i j t hi hj;exact⟨u,U,d t u (I i t hi (A4 hj)) (hcl rfl i t hi (A4 hj)) R⟩
 ·split at hf
  ·rename_i W sz row n0;simp only[G4] at hf;obtain⟨r,R,rfl⟩:=hf;obtain⟨M,N⟩:=K3 R;simp only[Ob.toArr] at*;have e:∀(j:Nat) (f:T),r[j]? =some f->∃t,(row 0)[j]? =some t/\S4 ρ 6 t=some f:=by
    intro j f hj;have o:j<(row 0).length:=by rw[←M];exact(w6.1 hj).1
    exact⟨_,J4 o,N j _ f (J4 o) hj⟩
   refine⟨hz0,hn,λi hi=>?_,λi t hi ht=>?_,λJ=>(by cases J),cs,ty,hblk,hsz,λi j t hi hj=>?_⟩
   ·rw[M];exact hl 0 Z9
   ·obtain⟨j,hj⟩:=List.getElem?_of_mem ht
    obtain⟨q,B,l⟩:=e j t hj;exact b1x l (hone 0 q Z9 (A4 B))
   ·obtain rfl:i=0:=by omega
    obtain⟨q,B,l⟩:=e j t hj;obtain⟨u,U,R⟩:=L 0 j q Z9 B
    exact⟨u,U,v q t u (I 0 q Z9 (A4 B)) l R⟩
  ·cases hf
 ·cases A
 ·cases A
theorem FamOk.ren{E2:Env}{k k2 v:Nat}{ty:TypeId}{sz n:Nat}{row:Nat->List T}(h:FamOk E w k v ty sz n row){Q:T->Prop}(hQ:ObQ Q (.fam v ty sz n row))(e:∀t x,Q t->W7 t=true->Rd E w t x->Rd E2 w' t x)
  (hb:E2.β k2=E.β k) (hκ:E2.κ k2=E.κ k) (R:E2.z k2=E.z k) (A:E2.L2 k2 v) (hb2:∀i j,E2.b2 k2 v i j=E.b2 k v i j) (hc2:∀i j,E2.c2 k2 v i j=E.c2 k v i j)
  (W:∀b,B7 E k (.fam v ty sz n row) b->w'.heap[b]? =w.heap[b]?):FamOk E2 w' k2 v ty sz n row:=by
 obtain⟨J,N,hl,V,aa,cs,F,l,Z,hc⟩:=h.arr;refine l7 A (by rw[R];exact J) (by rw[hκ];exact N) cs F (λh0=>by rw[hκ] at h0;rw[hb,W _ (.inl ⟨h0,rfl⟩)];exact l h0) (by rw[hκ,R];exact Z) (λr hr=>by have:=hl r hr;rwa [N8] at this) (λr q t hr hq=>?_) (λi j i' j' Y osz on o g O M orow' hi B hj L hc f X=>?_)
 ·obtain⟨u,hu,hru⟩:=hc r q (sP k v r q t) hr (by simp only;rw[J9,hq];rfl)
  rcases h.cell hr hq with hco|⟨Y,osz,on,o,rfl⟩
  ·rw[M4 hco] at hru;exact⟨u,hu,.inl ⟨hco,e t u (hQ.1 r t hr (A4 hq) hco) (L0 hco).1 hru⟩⟩
  ·obtain⟨g1,g2⟩:=h.own r q _ _ _ _ hr hq;refine⟨u,hu,.inr ⟨_,_,_,_,rfl,?_,?_,by rw[hb2,hc2,hκ,hb];exact g2⟩⟩
   ·cases hru with
    |posl _ _ _ _ _ a hL N ha=>
     have:=Rd.posl (E:=E2) (w:=w') k2 v r q on a A (by rw[hc2];exact N) (by rw[hc2,hb2];exact ha)
     rw[hc2] at this;exact this
   ·obtain⟨e1,e2,e3,e4,e5,cs2,ty2,e6,e7,e8⟩:=g1;refine⟨e1,(show on<=E2.c2 k2 v r q by rw[hc2];exact e2),e3,e4,e5,cs2,ty2,λh0=>?_,(show Siz cs2 (E2.c2 k2 v r q*osz) [] by rw[hc2];exact e7),λi j t hi hj=>?_⟩
    ·have h0:E2.c2 k2 v r q≠0:=h0;rw[hc2] at h0;show w'.heap[E2.b2 k2 v r q]? =_;rw[hb2,W _ (.inr ⟨_,_,_,_,_,_,_,_,_,_,_,rfl,hr,hq,h0,rfl⟩)];exact e6 h0
    ·obtain⟨U,I,C⟩:=e8 i j t hi hj;have d:=e5 rfl i t hi (A4 hj);exact⟨U,I,C0 (E:=E2) (E':=E2.sub k2 v r q osz) (λ_ h=>h) (e t U (hQ.2 r _ _ _ _ hr (A4 hq) i t hi (A4 hj)) d (C0 (E:=E.sub k v r q osz) (E':=E) (λ_ h=>h) C d)) d⟩
 ·rw[hc2] at hc f;rw[hb2,hb2] at X;exact h.inj i j i' j' Y osz on o g O M orow' hi B hj L hc f X
theorem c0H{ob o:Ob}(hf:mB ρ ob=some o):(∃v ty sz n row,ob= .fam v ty sz n row/\o= .fam v ty sz n row)∨((∀v ty sz n row,ob≠ .fam v ty sz n row)/\∀v ty sz n row,o≠ .fam v ty sz n row):=by
 unfold mB at hf;split at hf
 ·simp only[X2] at hf;subst hf;exact .inr ⟨qA,qA⟩
 ·simp only[X2] at hf;subst hf;exact .inl ⟨_,_,_,_,_,rfl,rfl⟩
 ·simp only[X2] at hf;subst hf;exact .inr ⟨qA,qA⟩
 ·split at hf
  ·simp only[G4] at hf;obtain⟨_,_,rfl⟩:=hf;exact .inr ⟨qA,qA⟩
  ·cases hf
 ·simp only[X2] at hf;subst hf;exact .inr ⟨qA,qA⟩
 ·simp only[X2] at hf;subst hf;exact .inr ⟨qA,qA⟩
theorem jF{E2:Env}{k d:Nat}{ob o:Ob}{b:Nat}(h:i6 E w k ob)(hf:mB ρ ob=some o)(B:E2.β d=E.β k)(l:E2.κ d=E.κ k)
  (g:∀v,E.L2 k v->E2.L2 d v/\∀i j,E2.b2 d v i j=E.b2 k v i j/\E2.c2 d v i j=E.c2 k v i j) (hx:B7 E2 d o b):B7 E k ob b:=by
 rcases hx with⟨e,rfl⟩|⟨v,ty,sz,n,row,i,j,Y,z,on,O,rfl,hi,J,C,rfl⟩
 ·rw[l] at e;exact .inl ⟨e,B⟩
 ·rcases c0H hf with⟨v',ty',sz',n',row',rfl,he⟩|⟨_,hn⟩
  ·cases he;have hF:FamOk E w k v ty sz n row:=h;obtain⟨_,f⟩:=g v hF.l2;rw[(f i j).2] at C;exact .inr ⟨v,ty,sz,n,row,i,j,Y,z,on,O,rfl,hi,J,C,(f i j).1⟩
  ·exact absurd rfl (hn _ _ _ _ _)
theorem a8P{Q:T->Prop}{E2:Env}{k f:Nat}{ob o:Ob}(h:i6 E w k ob)(u:ObQ Q ob)(hf:mB ρ ob=some o)(g:∀t t' x,Q t->S4 ρ 6 t=some t'->Rd E w t x->Rd E2 w' t' x)
  (B:E2.β f=E.β k) (r:E2.κ f=E.κ k) (Z:E2.z f=E.z k) (q:∀v,E.L2 k v->E2.L2 f v/\∀i j,E2.b2 f v i j=E.b2 k v i j/\E2.c2 f v i j=E.c2 k v i j) (W:∀b,B7 E k ob b->w'.heap[b]? =w.heap[b]?):i6 E2 w' f o:=by
 have d:E.κ k≠0->w'.heap[E.β k]? =w.heap[E.β k]? :=λe=>W _ (.inl ⟨e,rfl⟩)
 cases ob with
 |mp O get=>
  simp only[mB,X2] at hf;subst hf;obtain⟨e,I,C,F,q⟩:=h;exact⟨by rw[r];exact e,I,C,by rw[B,d e];exact F,q⟩
 |mp2 get=>
  simp only[mB,X2] at hf;subst hf;obtain⟨e,I,C,F,q⟩:=h;exact⟨by rw[r];exact e,I,C,by rw[B,d e];exact F,q⟩
 |fam v ty sz n row=>
  simp only[mB,X2] at hf;subst hf;have hF:FamOk E w k v ty sz n row:=h;obtain⟨N,J⟩:=q v hF.l2;exact FamOk.ren hF u (λt x M L hx=>g t t x M (jV L) hx) B r Z N (λi j=>(J i j).1) (λi j=>(J i j).2) W
 |arr cl ty sz n row=>
  have A:o.isArr=true:=by
   cases cl
   ·simp only[mB] at hf;split at hf
    ·simp only[G4] at hf;obtain⟨_,_,rfl⟩:=hf;rfl
    ·cases hf
   ·simp only[mB,X2] at hf;subst hf;rfl
  exact T4.ob (a9m (ob:=.arr cl ty sz n row) h u rfl hf g B r Z d) A
 |bys ty l=>
  have A:o.isArr=true:=by simp only[mB,X2] at hf;subst hf;rfl
  exact T4.ob (a9m (ob:=.bys ty l) h u rfl hf g B r Z d) A
theorem dT(ob:Ob):ObQ (λ_=>True) ob:=by
 cases ob<;>first|exact⟨λ_ _ _ _ _=>trivial,λ_ _ _ _ _ _ _ _ _ _ _=>trivial⟩|exact λ_ _ _ _=>trivial
theorem a5s{E2:Env}{k d:Nat}{ob o:Ob}(h:i6 E w k ob)(F:mB ρ ob=some o)(f:∀t e x,S4 ρ 6 t=some e->Rd E w t x->Rd E2 w' e x)
  (B:E2.β d=E.β k) (l:E2.κ d=E.κ k) (Z:E2.z d=E.z k) (g:∀v,E.L2 k v->E2.L2 d v/\∀i j,E2.b2 d v i j=E.b2 k v i j/\E2.c2 d v i j=E.c2 k v i j) (W:∀b,B7 E k ob b->w'.heap[b]? =w.heap[b]?):i6 E2 w' d o:=
 a8P h (dT ob) F (λt e x _=>f t e x) B l Z g W
theorem a9p{k:Nat}:∀{l:List Nat},memN k l=true↔k ∈ l:=by
 intro l;induction l with
 |nil=>simp[memN]
 |cons x l i=>simp[memN,i]
theorem b1V:∀{l:List Nat},a2y l=true->l.Nodup:=by
 intro l;induction l with
 |nil=>intro _;exact List.nodup_nil
 |cons x l i=>
  intro h;simp only[a2y,O4,xV] at h;refine List.nodup_cons.2 ⟨λM=>?_,i h.2⟩
  rw[a9p.2 M] at h;cases h.1
theorem xG:∀{l:List Nat} {i:Nat},iF l i=l[i]? :=by
 intro l;induction l with
 |nil=>intro i;simp[iF]
 |cons x l h=>intro i;cases i with|zero=>simp[iF]|succ i=>simp[iF,h]
theorem b7U{k:Nat}:∀{l:List Nat} {n i:Nat},m5 k l n=some i->n<=i/\l[i-n]? =some k:=by
 intro l;induction l with
 |nil=>intro n i h;simp[m5] at h
 |cons x l ih=>
  intro n i h;simp only[m5] at h;split at h
  ·rename_i B;simp only[X2] at h;subst h;rw[G1 B];simp
  ·obtain⟨h1,h2⟩:=ih h;refine⟨Z9,?_⟩
   rw[show i-n=(i- (n+1))+1 by omega]
   simpa using h2
theorem b4v{k:Nat}:∀{l:List Nat} {n i:Nat},l.Nodup->l[i]? =some k->m5 k l n=some (n+i):=by
 intro l;induction l with
 |nil=>intro n i _ h;simp at h
 |cons x l I=>
  intro n i f h;obtain⟨hx,d⟩:=List.nodup_cons.1 f;simp only[m5];cases i with
  |zero=>
   simp only[List.getElem?_cons_zero,X2] at h
   subst h;simp
  |succ i=>
   simp only[List.getElem?_cons_succ] at h
   have e:Nat.beq k x=false:=by
    cases B:Nat.beq k x with
    |false=>rfl
    |true=>rw[G1 B] at h;exact absurd (A4 h) hx
   rw[e];simp only;rw[I d h];congr 1
   omega
theorem b1G:∀{ks:List Nat} {os:List (Option Ob)} {H:Y4},ks.Nodup->(∀k ∈ ks,k<H.length)->os.length=ks.length->(M5 H ks os).length=H.length/\
  (∀(i k:Nat) (o:Option Ob),ks[i]? =some k->os[i]? =some o->Z1 (M5 H ks os) k=o)/\∀k,k ∉ ks->Z1 (M5 H ks os) k=Z1 H k:=by
 intro ks;induction ks with
 |nil=>intro os H _ _ _;exact⟨by cases os<;>simp[M5],λi k o h=>H8,λk _=>by cases os<;>simp[M5]⟩
 |cons x ks I=>
  intro os H f t n;cases os with
  |nil=>simp at n
  |cons o os=>
   obtain⟨hx,d⟩:=List.nodup_cons.1 f;have l:=t x W8
   obtain⟨q,j,g⟩:=I (os:=os) (H:=H.set x o) d (λk e=>by simp;exact t k (by simp[e])) (by simpa using n)
   simp only[M5];refine⟨by simpa using q,λi k o' hi O=>?_,λk e=>?_⟩
   ·cases i with
    |zero=>
     simp at hi O;subst hi;subst O;rw[g _ hx,T9 l,if_pos rfl]
    |succ i=>exact j i k o' aE (by simpa using O)
   ·simp only[vT,not_or] at e;rw[g k e.2,T9 l,if_neg e.1]
theorem b2P{o:List Ob}{i:Nat}{ob:Ob}:Z1 (o.map some) i=some ob↔o[i]? =some ob:=by
 unfold Z1;simp only[pW]
 cases o[i]? with
 |none=>simp
 |some x=>simp
def Env.glue(E E':Env)(ι:Nat->Option Nat)(N:Nat->Prop):Env where
 N:=N
 L:=λk=>match ι k with|some i=>E'.L i|none=>E.L k
 β:=λk=>match ι k with|some i=>E'.β i|none=>E.β k
 κ:=λk=>match ι k with|some i=>E'.κ i|none=>E.κ k
 z:=λk=>match ι k with|some i=>E'.z i|none=>E.z k
 L2:=λk v=>match ι k with|some i=>E'.L2 i v|none=>E.L2 k v
 b2:=λk=>match ι k with|some i=>E'.b2 i|none=>E.b2 k
 c2:=λk=>match ι k with|some i=>E'.c2 i|none=>E.c2 k
theorem a9j(h:Inv c E H w){E':Env}{H0 H'':Y4}{w':World}{ι:Nat->Option Nat}{N:Nat->Prop}{X N0:Nat->Prop}{nt:Nat}{E1:Env}(hI:Inv ⟨w,X,N0,nt,E1,0⟩ E' H0 w')
  (hst:Step E w (E.glue E' ι N) w') (q:∀b,N b->E'.N b) (hnn:∀b,N b->E.N b∨w.heap.size<=b∨X b) (f:∀b,X b->∃k ob i,Z1 H k=some ob/\B7 E k ob b/\ι k=some i)
  (j:∀k k' i,ι k=some i->ι k'=some i->k=k')
  (hget:∀k ob,Z1 H'' k=some ob->(∃i ob',ι k=some i/\Z1 H0 i=some ob'/\i6 (E.glue E' ι N) w' k ob/\(∀b,B7 (E.glue E' ι N) k ob b->B7 E' i ob' b)/\∀v ty sz n row,ob'= .fam v ty sz n row->∃row',ob= .fam v ty sz n row')∨(ι k=none/\Z1 H k=some ob))
  (d:∀k i,ι k=some i->i<H0.length->k<H''.length) (e:H.length<=H''.length):Inv c (E.glue E' ι N) H'' w':=by
 have hsize:w.heap.size<=w'.heap.size:=hI.fr.size;have old:∀{k ob},ι k=none->Z1 H k=some ob->∀b,B7 (E.glue E' ι N) k ob b->B7 E k ob b:=λ{k ob} hk hob b hb=>by
  obtain⟨x,t,_⟩:=h.heap.live k ob hob;exact hb.back t x hst.le
 have notX:∀{k ob},ι k=none->Z1 H k=some ob->∀b,B7 E k ob b->¬X b:=λ{k ob} hk hob b hb hx=>by
  obtain⟨l,ob2,i,h1,h2,h3⟩:=f b hx;have:=h.heap.inj k l ob ob2 b hob h1 hb h2;subst this;rw[hk] at h3;cases h3
 refine⟨⟨λk ob hk=>?_,λk k' o o' b hk hk' hb hb'=>?_,λk hk=>?_,λk v hk=>?_,λk ob v hk hv=>?_⟩,λb hb=>hI.nlt b (q b hb),λb hb=>?_,λk ob b hk hb=>?_,?_,h.keep.step hst⟩
 ·rcases hget k ob hk with⟨i,ob',hi,hob',h1,h2,_⟩|⟨hi,hob⟩
  ·obtain⟨l1,l2,l3⟩:=hI.heap.live i ob' hob';refine⟨by simp only[Env.glue,hi];exact l1,h1,λb hb hb'=>l3 b (h2 b hb) (q b hb')⟩
  ·obtain⟨l1,l2,l3⟩:=h.heap.live k ob hob;refine⟨by simp only[Env.glue,hi];exact l1,l2.mono l1 hst (λb hb=>hI.fr.block b (l2.blt hb) (notX hi hob b hb)),λb hb hb'=>?_⟩
   have hb:=old hi hob b hb;rcases hnn b hb' with h3|h3|h3
   ·exact l3 b hb h3
   ·have:=l2.blt hb;omega
   ·exact notX hi hob b hb h3
 ·rcases hget k o hk with⟨i,ob,hi,hob,_,h2,_⟩|⟨hi,hob⟩<;>rcases hget k' o' hk' with⟨i',ob',hi',hob',_,h2',_⟩|⟨hi',hob'⟩
  ·have:=hI.heap.inj i i' ob ob' b hob hob' (h2 b hb) (h2' b hb');subst this;exact j k k' i hi hi'
  ·have hb':=old hi' hob' b hb';rcases hI.bnew i ob b hob (h2 b hb) with h3|h3
   ·have:=h.heap.blt hob' hb';have h3:w.heap.size<=b:=h3;omega
   ·exact absurd h3 (notX hi' hob' b hb')
  ·have hb:=old hi hob b hb;rcases hI.bnew i' ob' b hob' (h2' b hb') with h3|h3
   ·have:=h.heap.blt hob hb;have h3:w.heap.size<=b:=h3;omega
   ·exact absurd h3 (notX hi hob b hb)
  ·exact h.heap.inj k k' o o' b hob hob' (old hi hob b hb) (old hi' hob' b hb')
 ·simp only[Env.glue] at hk;cases hi:ι k with
  |some i=>rw[hi] at hk;exact d k i hi (hI.heap.lt i hk)
  |none=>rw[hi] at hk;have:=h.heap.lt k hk;omega
 ·simp only[Env.glue] at hk ⊢;cases hi:ι k with
  |some i=>rw[hi] at hk;exact hI.heap.l2 i v hk
  |none=>rw[hi] at hk;exact h.heap.l2 k v hk
 ·simp only[Env.glue] at hv;rcases hget k ob hk with⟨i,ob',hi,hob',_,_,h3⟩|⟨hi,hob⟩
  ·rw[hi] at hv;obtain⟨V,ty,sz,n,row,z,e⟩:=hI.heap.cur i ob' v hob' hv;obtain⟨row',g⟩:=h3 _ _ _ _ _ z;exact⟨V,ty,sz,n,row',g,e⟩
  ·rw[hi] at hv;exact h.heap.cur k ob v hob hv
 ·rcases hnn b hb with h3|h3|h3
  ·exact h.nnew b h3
  ·have:=h.fr.size;exact .inr (.inl Z9)
  ·obtain⟨k,ob,_,h1,h2,_⟩:=f b h3;exact .inr (h.bnew k ob b h1 h2)
 ·rcases hget k ob hk with⟨i,ob',hi,hob',_,h2,_⟩|⟨hi,hob⟩
  ·rcases hI.bnew i ob' b hob' (h2 b hb) with h3|h3
   ·have h3:w.heap.size<=b:=h3;have:=h.fr.size;exact .inl Z9
   ·obtain⟨l,ob2,_,u,r,_⟩:=f b h3;exact h.bnew l ob2 b u r
  ·exact h.bnew k ob b hob (old hi hob b hb)
 ·refine⟨hI.fr.os.trans h.fr.os,hI.fr.tape.trans h.fr.tape,hI.fr.output.trans h.fr.output,Nat.le_trans h.fr.size hsize,λb hb hXb=>?_⟩
  have hb':b<w.heap.size:=yK hb h.fr.size;refine(hI.fr.block b hb' λhx=>?_).trans (h.fr.block b hb hXb)
  obtain⟨k,ob,_,h1,h2,_⟩:=f b hx;rcases h.bnew k ob b h1 h2 with h3|h3
  ·omega
  ·exact hXb h3
theorem a34:∀(ks:List Nat) (os:List (Option Ob)) (H:Y4),M5 H ks os=M5 H ks (os.take ks.length):=by
 intro ks;induction ks with
 |nil=>intro os H;cases os<;>rfl
 |cons k ks i=>
  intro os H;cases os with
  |nil=>rfl
  |cons o os=>simp only[List.length_cons,List.take_succ_cons,M5];exact i os _
theorem a4j(h:p:=by simp only[Env.glue,hi];exact e):p:=h
theorem b5x(h:p:=by simpa[Env.glue,hi] using O):p:=h
theorem a4i{E':Env}{ι ρ:Nat->Option Nat}{N:Nat->Prop}(R:∀b,E'.N b->N b)(A:∀i k,ρ i=some k->ι k=some i):∀(d:Nat) {t I:T} {x:Value},S4 ρ d t=some I->Rd E' w' t x->Rd (E.glue E' ι N) w' I x:=by
 intro d;induction d with
 |zero=>intro t I x h;simp[S4] at h
 |succ d Y=>
  intro t I x h hx;have L:∀(cs C:List T) (vs:Array Value),N5 (S4 ρ d) cs=some C->cs.length=vs.size->(∀(i:Nat) (t:T) (x:Value),cs[i]? =some t->vs[i]? =some x->Rd E' w' t x)->
    C.length=vs.size/\∀(i:Nat) (t:T) (x:Value),C[i]? =some t->vs[i]? =some x->Rd (E.glue E' ι N) w' t x:=by
   intro cs C vs hm hl g;obtain⟨q,f⟩:=K3 hm;refine⟨Z9,λi t x hi hx=>?_⟩
   have J:i<cs.length:=by rw[←q];exact(w6.1 hi).1
   have U:=J4 J
   exact Y (f i _ t U hi) (g i _ x U hx)
  unfold S4 at h;split at h
  ·rename_i k i j;simp only[G4] at h;obtain⟨m,hm,rfl⟩:=h;cases hx with
   |ref _ _ _ e=>
    have hi:=A _ _ hm;have:=Rd.ref (E:=E.glue E' ι N) (w:=w') m i j a4j
    simpa[Env.glue,hi] using this
  ·rename_i k off n;simp only[G4] at h;obtain⟨m,hm,rfl⟩:=h;cases hx with
   |osl _ _ _ o a e O W Q=>
    have hi:=A _ _ hm;have:=Rd.osl (E:=E.glue E' ι N) (w:=w') m off n o a a4j b5x (by simpa[Env.glue,hi] using W) (by simpa[Env.glue,hi] using Q)
    simpa[Env.glue,hi] using this
  ·simp only[G4] at h;obtain⟨m,hm,rfl⟩:=h;cases hx with
   |mpr k e=>
    have hi:=A _ _ hm;have:=Rd.mpr (E:=E.glue E' ι N) (w:=w') m a4j
    simpa[Env.glue,hi] using this
  ·rename_i k v i j n;simp only[G4] at h;obtain⟨m,hm,rfl⟩:=h;cases hx with
   |posl _ _ _ _ _ a e O Q=>
    have hi:=A _ _ hm;have:=Rd.posl (E:=E.glue E' ι N) (w:=w') m v i j n a a4j b5x (by simpa[Env.glue,hi] using Q)
    simpa[Env.glue,hi] using this
  ·rename_i k v i j z a b;simp only[G4] at h;obtain⟨m,hm,rfl⟩:=h;cases hx with
   |pref _ _ _ _ _ _ _ e=>
    have hi:=A _ _ hm;have:=Rd.pref (E:=E.glue E' ι N) (w:=w') m v i j z a b a4j
    simpa[Env.glue,hi] using this
  ·simp only[G4] at h;obtain⟨cs,hm,rfl⟩:=h;cases hx with
   |agg _ vs hl g=>obtain⟨B,F⟩:=L _ _ vs hm hl g;exact .agg _ vs B F
  ·simp only[G4] at h;obtain⟨cs,hm,rfl⟩:=h;cases hx with
   |tup _ vs hl g=>obtain⟨B,F⟩:=L _ _ vs hm hl g;exact .tup _ vs B F
  ·simp only[G4] at h;obtain⟨cs,hm,rfl⟩:=h;cases hx with
   |fn _ _ vs hl g=>obtain⟨B,F⟩:=L _ _ vs hm hl g;exact .fn _ _ vs B F
  ·rename_i n1 n2 n6 n7 n8 n3 n4 n5;simp only[X2] at h;subst h;cases hx with
   |und x=>exact .und x
   |ref=>exact absurd rfl (n1 _ _ _)
   |osl=>exact absurd rfl (n2 _ _ _)
   |mpr=>exact absurd rfl (n6 _)
   |posl=>exact absurd rfl (n7 _ _ _ _ _)
   |pref=>exact absurd rfl (n8 _ _ _ _ _ _ _)
   |agg=>exact absurd rfl (n3 _)
   |tup=>exact absurd rfl (n4 _)
   |fn=>exact absurd rfl (n5 _ _)
   |int=>exact .int _ _
   |bool=>exact .bool _
   |str=>exact .str _
   |v=>exact .v _
   |slNil=>exact .slNil _ _
   |slEmp=>exact .slEmp _ _ _
   |emp=>exact .emp _
   |bysEmp=>exact .bysEmp _
   |bysNil=>exact .bysNil
   |sl sz n row b off cap u q f r M V X=>exact Rd.closed (E':=E.glue E' ι N) R (.sl sz n row b off cap u q f r M V X) rfl
   |bys l b off cap q f r=>exact Rd.closed (E':=E.glue E' ι N) R (.bys l b off cap q f r) rfl
   |bref cells b off u q f r M=>exact Rd.closed (E':=E.glue E' ι N) R (.bref cells b off u q f r M) rfl
theorem a5C{ρ:Nat->Option Nat}{o o':Option Ob}(h:obB ρ o=some o'):(o=none/\o'=none)∨∃ob O,o=some ob/\o'=some O/\mB ρ ob=some O:=by
 cases o with
 |none=>simp only[obB,X2] at h;exact .inl ⟨rfl,h.symm⟩
 |some ob=>simp only[obB,G4] at h;obtain⟨O,d,rfl⟩:=h;exact .inr ⟨ob,O,rfl,rfl,d⟩
theorem a4d(h:p:=by simp[E1,Env.ren,hn]):p:=h
theorem a3K(h:Inv c E H w){f:FuncId}{cf:List T->Y4->Option (T×Y4×Option Prop)}(hf:fN P f cf){ks:List Nat}{args:List T}{vs:Array Value}{r:T}{p:Option Prop}(he:i8 cf H ks args=some (r,H',p))(hp:p.getD True)(ha:tT E w args vs):
  Calls P f vs w λe w'=>∃v E',e= .returned v/\Inv c E' H' w'/\Step E w E' w'/\Rd E' w' r v:=by
 unfold i8 at he;split at he
 case h_2=>cases he
 rename_i as obs hnd has hobs;split at he
 case h_2=>cases he
 rename_i r0 H0' p0 hc;split at he
 case h_2=>cases he
 rename_i r1 os hlen hr1 hos;simp only[X2,U0] at he;obtain⟨rfl,rfl,rfl⟩:=he;have hlen:=zP hlen;have hnodup:=b1V hnd;have hfn:=hf as (obs.map some) r0 H0' p0 hc hp;obtain⟨o1,o2⟩:=K3 hobs;obtain⟨a1,a2⟩:=K3 has;obtain⟨s1,s2⟩:=K3 hos;have inv1:∀k i,(λk=>m5 k ks 0) k=some i->iF ks i=some k:=λk i hk=>by
  rw[xG];have:=(b7U hk).2;simpa using this
 have inv2:∀i k,iF ks i=some k->m5 k ks 0=some i:=λi k hi=>by
  rw[xG] at hi;have:=b4v (n:=0) hnodup hi
  simpa using this
 have nlt:∀i k,iF ks i=some k->i<ks.length:=λi k hi=>by rw[xG] at hi;exact(w6.1 hi).1
 have hob:∀(i k:Nat),ks[i]? =some k->∃ob ob',Z1 H k=some ob/\obs[i]? =some ob'/\mB (λk=>m5 k ks 0) ob=some ob':=by
  intro i k hk;have hlt:i<obs.length:=by rw[o1];exact(w6.1 hk).1
  have:=o2 i k _ hk (J4 hlt)
  simp only[Option.bind_eq_some_iff] at this;obtain⟨ob,hob,hF⟩:=this;exact⟨ob,_,hob,J4 hlt,hF⟩
 have hkL:∀(i k:Nat),ks[i]? =some k->E.L k:=λi k hk=>by
  obtain⟨ob,_,hob,_⟩:=hob i k hk;exact(h.heap.live k ob hob).1
 have hksl:∀k ∈ ks,k<H.length:=λk hk=>by
  obtain⟨i,hi⟩:=List.getElem?_of_mem hk
  exact h.heap.lt k (hkL i k hi)
 let E1:=E.ren (iF ks) ks.length
 have hn1:∀(i k:Nat),ks[i]? =some k->iF ks i=some k:=λi k hk=>by rw[xG];exact hk
 have hβ1:∀(i k:Nat),ks[i]? =some k->E1.β i=E.β k/\E1.κ i=E.κ k/\E1.z i=E.z k/\E1.L i:=by
  intro i k hk;have hn:=hn1 i k hk;exact⟨a4d,a4d,a4d,nlt i k hn,k,hn,hkL i k hk⟩
 have h21:∀(i k:Nat),ks[i]? =some k->∀v,E.L2 k v->E1.L2 i v/\∀a b,E1.b2 i v a b=E.b2 k v a b/\E1.c2 i v a b=E.c2 k v a b:=by
  intro i k hk v hv;have hn:=hn1 i k hk;exact⟨⟨nlt i k hn,k,hn,hv⟩,λa b=>⟨a4d,a4d⟩⟩
 have hrd1:∀t t' x,S4 (λk=>m5 k ks 0) 6 t=some t'->Rd E w t x->Rd E1 w t' x:=λt t' x ht hx=>Rd.ren nlt 6 (b7C inv1 ht) hx
 have obk:∀i ob',Z1 (obs.map some) i=some ob'->∃k ob,ks[i]? =some k/\Z1 H k=some ob/\mB (λk=>m5 k ks 0) ob=some ob':=by
  intro i ob' hi;rw[b2P] at hi;have hlt:i<ks.length:=by rw[←o1];exact(w6.1 hi).1
  have hk:=J4 hlt
  obtain⟨ob,ob2,hob',ho2,hF⟩:=hob i _ hk;rw[hi] at ho2;simp only[X2] at ho2;subst ho2;exact⟨_,ob,hk,hob',hF⟩
 have blk1:∀{i k:Nat} {ob ob':Ob} {b:Nat},ks[i]? =some k->Z1 H k=some ob->mB (λk=>m5 k ks 0) ob=some ob'->B7 E1 i ob' b->B7 E k ob b:=λhk hob' hF hb=>by
  obtain⟨b1,b2,_,_⟩:=hβ1 _ _ hk;exact jF (h.heap.live _ _ hob').2.1 hF b1 b2 (h21 _ _ hk) hb
 have hH1:HeapOk E1 w (obs.map some):=by
  refine⟨λi ob' hi=>?_,λi i' ob ob' b hi hi' hb hb'=>?_,λi hi=>?_,λi v hv=>?_,λi ob' v hi hv=>?_⟩
  ·obtain⟨k,ob,hk,hob',hF⟩:=obk i ob' hi;obtain⟨b1,b2,b3,b4⟩:=hβ1 i _ hk;obtain⟨l1,l2,l3⟩:=h.heap.live _ ob hob';exact⟨b4,a5s l2 hF hrd1 b1 b2 b3 (h21 i k hk) (λ_ _=>rfl),λb hb=>l3 b (blk1 hk hob' hF hb)⟩
  ·obtain⟨k,ob2,hk,hob2,hF2⟩:=obk i ob hi;obtain⟨k',ob3,hk',hob3,hF3⟩:=obk i' ob' hi';have:=h.heap.inj _ _ _ _ b hob2 hob3 (blk1 hk hob2 hF2 hb) (blk1 hk' hob3 hF3 hb');subst this;exact(List.getElem?_inj (w6.1 hk).1 hnodup).1 (by rw[hk,hk'])
  ·obtain⟨hlt,_⟩:=hi;simp[o1];exact hlt
  ·obtain⟨hlt,m,hm,hv⟩:=hv;exact⟨hlt,m,hm,h.heap.l2 m v hv⟩
  ·obtain⟨k,ob,hk,hob',hF⟩:=obk i ob' hi;obtain⟨_,m,hm,hv⟩:=hv;rw[hn1 i k hk] at hm;simp only[X2] at hm;subst hm;obtain⟨v0,ty,sz,n,row,rfl,hle⟩:=h.heap.cur k ob v hob' hv;simp only[mB,X2] at hF;exact⟨v0,ty,sz,n,row,hF.symm,hle⟩
 have hval:tT E1 w as vs:=⟨by rw[a1];exact ha.1,λi t x hi hx=>by
  have hlt:i<args.length:=by rw[←a1];exact(w6.1 hi).1
  exact hrd1 _ _ x (a2 i _ t (J4 hlt) hi) (ha.2 i _ x (J4 hlt) hx)⟩
 refine(hfn E1 w vs hH1 h.nlt hval).mono λe w' hh=>?_
 obtain⟨v,E',rfl,hI,hst,hrd⟩:=hh;let ι:Nat->Option Nat:=λk=>if H.length<=k then some (ks.length+(k-H.length)) else m5 k ks 0
 have hιold:∀{k:Nat},k<H.length->ι k=m5 k ks 0:=λhk=>if_neg Z9
 have hρι:∀i k,a6W ks H.length i=some k->ι k=some i:=by
  intro i k hk;unfold a6W at hk;split at hk
  ·rename_i k' hk';simp only[X2] at hk;subst hk;have hm:k' ∈ ks:=by rw[xG] at hk';exact A4 hk'
   rw[hιold (hksl k' hm)];exact inv2 i k' hk'
  ·rename_i hn;simp only[X2] at hk;subst hk;have hge:ks.length<=i:=by
    rw[xG] at hn;rcases Nat.lt_or_ge i ks.length with h'|h'
    ·rw[J4 h'] at hn;cases hn
    ·exact h'
   simp only[ι];rw[if_pos Z9]
   congr 1
   omega
 have hιk:∀{k i:Nat},ι k=some i->(k<H.length/\ks[i]? =some k)∨(H.length<=k/\i=ks.length+(k-H.length)):=by
  intro k i hi;by_cases hk:H.length<=k
  ·simp only[ι,if_pos hk,X2] at hi;exact .inr ⟨hk,hi.symm⟩
  ·simp only[ι,if_neg hk] at hi;have:=inv1 k i hi;rw[xG] at this;exact .inl ⟨Z9,this⟩
 let E2:=E.glue E' ι E'.N
 have hL1:∀{k i:Nat},E.L k->ι k=some i->ks[i]? =some k:=λhk hi=>by
  rcases hιk hi with h1|h1
  ·exact h1.2
  ·have:=h.heap.lt _ hk;omega
 have hnl:∀k,E2.L k->E.L k∨∀j,E.L j->j<k:=λk hk=>by
  simp only[E2,Env.glue] at hk;cases hi:ι k with
  |none=>rw[hi] at hk;exact .inl hk
  |some i=>
   rcases hιk hi with h1|h1
   ·obtain⟨ob,ob',ho,_⟩:=hob i k h1.2;exact .inl (h.heap.live k ob ho).1
   ·exact .inr λj hj=>by have:=h.heap.lt j hj;omega
 have hstep:Step E w E2 w':=by
  refine⟨⟨λb hb=>hst.le.N b hb,λk hk=>?_,λk hk=>?_,λk hk=>?_,λk hk=>?_,λk v hk=>?_,λk v a b hk=>?_,λk v a b hk=>?_⟩,λb hb=>hst.same b hb,λk hk=>hnl k hk⟩<;>simp only[E2,Env.glue]<;>cases hi:ι k
  ·exact hk
  ·exact hst.le.L _ (hβ1 _ k (hL1 hk hi)).2.2.2
  ·rfl
  ·exact(hst.le.β _ (hβ1 _ k (hL1 hk hi)).2.2.2).trans (hβ1 _ k (hL1 hk hi)).1
  ·rfl
  ·exact(hst.le.κ _ (hβ1 _ k (hL1 hk hi)).2.2.2).trans (hβ1 _ k (hL1 hk hi)).2.1
  ·rfl
  ·exact(hst.le.z _ (hβ1 _ k (hL1 hk hi)).2.2.2).trans (hβ1 _ k (hL1 hk hi)).2.2.1
  ·exact hk
  ·exact hst.le.L2 _ v (h21 _ k (hL1 (h.heap.l2 k v hk) hi) v hk).1
  ·rfl
  ·have h1:=h21 _ k (hL1 (h.heap.l2 k v hk) hi) v hk;exact(hst.le.b2 _ v a b h1.1).trans (h1.2 a b).1
  ·rfl
  ·have h1:=h21 _ k (hL1 (h.heap.l2 k v hk) hi) v hk;exact(hst.le.c2 _ v a b h1.1).trans (h1.2 a b).2
 have hrd2:∀t t' x,S4 (a6W ks H.length) 6 t=some t'->Rd E' w' t x->Rd E2 w' t' x:=by
  intro t t' x ht hx;exact a4i (λ_ h=>h) hρι 6 ht hx
 obtain⟨z1,z2,z3⟩:=b1G (os:=os.take ks.length) hnodup hksl (by simp[s1];omega)
 have hset:M5 H ks os=M5 H ks (os.take ks.length):=a34 ks os H;have hoslen:os.length=H0'.length:=s1;have hgetN:∀k ob,Z1 (M5 H ks os++os.drop ks.length) k=some ob->(∃i ob',ι k=some i/\Z1 H0' i=some ob'/\mB (a6W ks H.length) ob'=some ob)∨(ι k=none/\Z1 H k=some ob):=by
  intro k ob hk;have fromos:∀i,os[i]? =some (some ob)->∃ob',Z1 H0' i=some ob'/\mB (a6W ks H.length) ob'=some ob:=by
   intro i hi;have hlt:i<H0'.length:=by rw[←hoslen];exact(w6.1 hi).1
   have:=s2 i _ _ (J4 hlt) hi
   rcases a5C this with⟨_,h1⟩|⟨ob1,ob2,h1,h2,h3⟩
   ·cases h1
   ·cases h2;exact⟨ob1,by unfold Z1;rw[J4 hlt,h1];rfl,h3⟩
  rw[hset] at hk;by_cases hkl:k<H.length
  ·have hk':Z1 (M5 H ks (os.take ks.length)) k=some ob:=by
    unfold Z1 at hk ⊢
    rwa [uW (by rw[z1];exact hkl)] at hk
   by_cases hm:k ∈ ks
   ·obtain⟨i,hi⟩:=List.getElem?_of_mem hm
    have hik:i<ks.length:=(w6.1 hi).1
    have hlt:i<os.length:=Z9
    have ho:(os.take ks.length)[i]? =some (os[i]):=by rw[List.getElem?_take,if_pos hik];exact J4 hlt
    rw[z2 i k _ hi ho] at hk';obtain⟨ob',h1,h2⟩:=fromos i (by rw[J4 hlt,hk'])
    exact .inl ⟨i,ob',by rw[hιold hkl];exact inv2 i k (hn1 i k hi),h1,h2⟩
   ·rw[z3 k hm] at hk';refine .inr ⟨?_,hk'⟩
    rw[hιold hkl];cases hx:m5 k ks 0 with
    |none=>rfl
    |some i=>
     have:=inv1 k i hx;rw[xG] at this;exact absurd (A4 this) hm
  ·have hk':os[ks.length+(k-H.length)]? =some (some ob):=by
    unfold Z1 at hk;rw[tG (by rw[z1];omega),z1,List.getElem?_drop] at hk
    cases hx:os[ks.length+(k-H.length)]? with
    |none=>rw[hx] at hk;cases hk
    |some y=>rw[hx] at hk;simp at hk;rw[hk]
   obtain⟨ob',h1,h2⟩:=fromos _ hk';exact .inl ⟨_,ob',if_pos Z9,h1,h2⟩
 have hXB:∀b,XB E1 (obs.map some) b->∃k ob i,Z1 H k=some ob/\B7 E k ob b/\ι k=some i:=by
  intro b hb;obtain⟨i,ob',hi,hb⟩:=hb;obtain⟨k,ob,hk,hob',hF⟩:=obk i ob' hi;exact⟨k,ob,i,hob',blk1 hk hob' hF hb,by rw[hιold (hksl k (A4 hk))];exact inv2 i k (hn1 i k hk)⟩
 have hιname:∀{k i:Nat},ι k=some i->E2.β k=E'.β i/\E2.κ k=E'.κ i/\E2.z k=E'.z i/\∀v,E'.L2 i v->E2.L2 k v/\∀a b,E2.b2 k v a b=E'.b2 i v a b/\E2.c2 k v a b=E'.c2 i v a b:=by
  intro k i hi;simp only[E2,Env.glue,hi];exact⟨trivial,trivial,trivial,λv hv=>⟨hv,λ_ _=>⟨trivial,trivial⟩⟩⟩
 refine⟨v,E2,rfl,a9j h hI hstep (λ_ h=>h) (λb hb=>?_) hXB (λk k' i hi hi'=>?_) (λk ob hk=>?_) (λk i hi hlt=>?_) (by simp[hset,z1]),hstep,hrd2 _ _ v hr1 hrd⟩
 ·rcases hI.nnew b hb with h1|h1|h1
  ·exact .inl h1
  ·exact .inr (.inl h1)
  ·exact .inr (.inr h1)
 ·rcases hιk hi with⟨g1,g2⟩|⟨g1,g2⟩<;>rcases hιk hi' with⟨g3,g4⟩|⟨g3,g4⟩
  ·rw[g2] at g4;exact Option.some.inj g4
  ·have:=(w6.1 g2).1;omega
  ·have:=(w6.1 g4).1;omega
  ·omega
 ·rcases hgetN k ob hk with⟨i,ob',hi,hob',hF⟩|h1
  ·obtain⟨n1,n2,n3,n4⟩:=hιname hi;have hO:=(hI.heap.live i ob' hob').2.1;refine .inl ⟨i,ob',hi,hob',a5s hO hF hrd2 n1 n2 n3 n4 (λ_ _=>rfl),λb hb=>jF hO hF n1 n2 n4 hb,λv ty sz n row he=>?_⟩
   subst he;simp only[mB,X2] at hF;exact⟨row,hF.symm⟩
  ·exact .inr h1
 ·rw[K2,hset,z1,List.length_drop,hoslen];rcases hιk hi with⟨g1,g2⟩|⟨g1,g2⟩<;>omega
end
section
variable {c:Ctx} {E:Env} {H H':Y4} {w w':World} {P:Program} {G:I5}
theorem aC{E':Env}{ι ρ:Nat->Option Nat}{N:Nat->Prop}(f:∀i k,ρ i=some k->ι k=some i){d:Nat}{t e:T}{x:Value}(hp:lZ t=true)(h:S4 ρ d t=some e)(hx:Rd E' w t x):Rd (E.glue E' ι N) w e x:=by
 cases d with
 |zero=>simp[S4] at h
 |succ d=>
  cases t with
  |ref k i j=>
   simp only[S4,G4] at h;obtain⟨m,M,rfl⟩:=h;cases hx with
   |ref _ _ _ L=>
    have hi:=f _ _ M;have:=Rd.ref (E:=E.glue E' ι N) (w:=w) m i j (by simp only[Env.glue,hi];exact L)
    simpa[Env.glue,hi] using this
  |osl k off n=>
   simp only[S4,G4] at h;obtain⟨m,M,rfl⟩:=h;cases hx with
   |osl _ _ _ o a L g O A=>
    have hi:=f _ _ M;have:=Rd.osl (E:=E.glue E' ι N) (w:=w) m off n o a (by simp only[Env.glue,hi];exact L) (by simpa[Env.glue,hi] using g) b5x (by simpa[Env.glue,hi] using A)
    simpa[Env.glue,hi] using this
  |int k n=>simp only[S4,X2] at h;subst h;cases hx;exact .int _ _
  |bool b=>simp only[S4,X2] at h;subst h;cases hx;exact .bool _
  |str l=>simp only[S4,X2] at h;subst h;cases hx;exact .str _
  |v y=>simp only[S4,X2] at h;subst h;cases hx;exact .v _
  |_=>simp[lZ,uQ] at hp
theorem fB{t:T}(h:uQ t=true):lZ t=true:=by cases t<;>first|rfl|exact h
theorem b15{E':Env}{ι ρ:Nat->Option Nat}{N:Nat->Prop}(u:∀i k,ρ i=some k->ι k=some i):∀(d e:Nat) {t j:T} {x:Value},pF e t=true->S4 ρ d t=some j->Rd E' w t x->Rd (E.glue E' ι N) w j x:=by
 intro d;induction d with
 |zero=>intro e t j x _ f;simp[S4] at f
 |succ d I=>
  intro e t j x hp f hx;cases e with
  |zero=>simp[pF] at hp
  |succ e=>
   have l:∀(cs C:List T) (vs:Array Value),(∀t ∈ cs,pF e t=true)->N5 (S4 ρ d) cs=some C->cs.length=vs.size->(∀(i:Nat) (t:T) (x:Value),cs[i]? =some t->vs[i]? =some x->Rd E' w t x)->
     C.length=vs.size/\∀(i:Nat) (t:T) (x:Value),C[i]? =some t->vs[i]? =some x->Rd (E.glue E' ι N) w t x:=by
    intro cs C vs n M hl f;obtain⟨v,r⟩:=K3 M;refine⟨Z9,λi t x hi hx=>?_⟩
    have g:i<cs.length:=by rw[←v];exact(w6.1 hi).1
    have q:=J4 g
    exact I e (n _ (List.getElem_mem g)) (r i _ t q hi) (f i _ x q hx)
   cases t with
   |agg cs=>
    simp only[S4,G4] at f;obtain⟨C,M,rfl⟩:=f;cases hx with
    |agg _ vs hl h=>
     obtain⟨A,o⟩:=l cs C vs (λt f=>i7.1 hp t f) M hl h
     exact .agg _ vs A o
   |tup cs=>
    simp only[S4,G4] at f;obtain⟨C,M,rfl⟩:=f;cases hx with
    |tup _ vs hl h=>
     obtain⟨A,o⟩:=l cs C vs (λt f=>i7.1 hp t f) M hl h
     exact .tup _ vs A o
   |_=>
    refine aC u ?_ f hx
    exact hp
theorem b0R{ob:Ob}(h:a1O ob):ObQ (λt=>lZ t=true) ob:=by
 cases ob with
 |arr cl ty sz n row=>
  cases cl with
  |true=>exact λi t hi d=>fB (h i hi t d)
  |false=>
   obtain⟨rfl,h⟩:=h;intro i t hi d;simp only[Ob.toArr] at hi d;obtain rfl:i=0:=Z9
   exact h t d
 |fam v ty sz n row=>
  refine⟨λi t hi d C=>?_,λi O z on o hi d a t A M=>?_⟩
  ·have:=h i hi t d;cases t<;>first|exact fB this|(simp[closedOne,W7] at C)
  ·exact fB (h i hi _ d a A t M)
 |bys ty l=>intro i t hi d;simp[Ob.toArr,C5] at d;subst d;rfl
 |mp B get=>intro i t hi d;simp[Ob.toArr] at hi
 |mp2 get=>intro i t hi d;simp[Ob.toArr] at hi
theorem b8d(h:p:=by simp only[Env.glue,hi]):p:=h
theorem c64(h:Inv c E H w){f:FuncId}{cf:List T->Option (T×Y4×Option Prop)}(hf:c5p P f cf){args:List T}{vs:Array Value}{r:T}{p:Option Prop}(he:a2t cf H args=some (r,H',p))(hp:p.getD True)(ha:tT E w args vs):
  Calls P f vs w λe w'=>∃v E',e= .returned v/\Inv c E' H' w'/\Step E w E' w'/\Rd E' w' r v:=by
 unfold a2t at he;split at he
 case h_2=>cases he
 rename_i bs hbs;split at he
 case h_2=>cases he
 rename_i r0 H0 p0 hc;split at he
 case h_2=>cases he
 rename_i r1 os hr1 hos;simp only[X2,U0] at he;obtain⟨rfl,rfl,rfl⟩:=he;obtain⟨hsb,hp0⟩:=yM hp;obtain⟨hfn,hpr,hph⟩:=hf _ r0 H0 p0 hc hp0;obtain⟨b1,b2⟩:=K3 hbs;obtain⟨s1,s2⟩:=K3 hos;have hval:tT (E.lent 0 H) w (bs.map (·.1)) vs:=⟨by simp[b1];exact ha.1,λi t x hi hx=>by
  simp only[pW,G4] at hi
  obtain⟨y,hy,rfl⟩:=hi;have hlt:i<args.length:=by rw[←b1];exact(w6.1 hy).1
  have hc:=J4 hlt
  exact s5 h 6 (r:=y.1) (p:=y.2) (b2 i _ y hc hy) (b7 hsb y (A4 hy)) (ha.2 i _ x hc hx)⟩
 have hH1:HeapOk (E.lent 0 H) w []:=⟨λk ob hk=>by simp[Z1] at hk,λk k' o o' b hk=>by simp[Z1] at hk,λk hk=>absurd hk.2 (J5 _),λk v hv=>absurd hv.2 (J5 _),λk ob v hk=>by simp[Z1] at hk⟩
 have hN1:∀b,(E.lent 0 H).N b->b<w.heap.size:=λb hb=>by
  rcases hb with hb|⟨k,ob,_,hk,hb⟩
  ·exact h.nlt b hb
  ·exact h.heap.blt hk hb
 refine(hfn (E.lent 0 H) w vs hH1 hN1 hval).mono λe w' hh=>?_
 obtain⟨v,E',rfl,hI,hst,hrd⟩:=hh;let ι:Nat->Option Nat:=λk=>if H.length<=k then some (k-H.length) else none
 have hρι:∀i k,(λk=>some (H.length+k)) i=some k->ι k=some i:=λi k hk=>by
  simp only[X2] at hk;subst hk;simp only[ι];rw[if_pos Z9]
  congr 1
  omega
 have hιnone:∀{k},E.L k->ι k=none:=λhk=>if_neg (by have:=h.heap.lt _ hk;omega)
 have hnl:∀k,(E.glue E' ι E.N).L k->E.L k∨∀j,E.L j->j<k:=λk hk=>by
  by_cases hlt:H.length<=k
  ·exact .inr λj hj=>by have:=h.heap.lt j hj;omega
  ·have hi:ι k=none:=if_neg hlt;simp only[Env.glue] at hk;rw[hi] at hk;exact .inl hk
 have hstep:Step E w (E.glue E' ι E.N) w':=by
  refine⟨⟨λb hb=>hb,λk hk=>?_,λk hk=>?_,λk hk=>?_,λk hk=>?_,λk v hk=>?_,λk v a b hk=>?_,λk v a b hk=>?_⟩,λb hb=>hst.same b (.inl hb),λk hk=>hnl k hk⟩<;>simp only[Env.glue]
  ·rw[hιnone hk];exact hk
  ·rw[hιnone hk]
  ·rw[hιnone hk]
  ·rw[hιnone hk]
  ·rw[hιnone (h.heap.l2 _ _ hk)];exact hk
  ·rw[hιnone (h.heap.l2 _ _ hk)]
  ·rw[hιnone (h.heap.l2 _ _ hk)]
 refine⟨v,E.glue E' ι E.N,rfl,a9j h hI hstep (λb hb=>hst.le.N b (.inl hb)) (λb hb=>.inl hb) (λb hb=>?_) (λk k' i hi hi'=>?_) (λk ob hk=>?_) (λk i hi hlt=>?_) W8,hstep,b15 hρι 6 6 hpr hr1 hrd⟩
 ·obtain⟨k,ob,hk,_⟩:=hb;simp[Z1] at hk
 ·simp only[ι] at hi hi';split at hi
  ·split at hi'
   ·simp only[X2] at hi hi';omega
   ·cases hi'
  ·cases hi
 ·by_cases hkl:k<H.length
  ·refine .inr ⟨if_neg Z9,?_⟩
   unfold Z1 at hk ⊢
   rwa [uW hkl] at hk
  ·have hi:ι k=some (k-H.length):=if_pos Z9
   have hk':os[k-H.length]? =some (some ob):=by
    unfold Z1 at hk;rw[tG Z9] at hk
    cases hx:os[k-H.length]? with
    |none=>rw[hx] at hk;cases hk
    |some y=>rw[hx] at hk;simp at hk;rw[hk]
   have hlt:k-H.length<H0.length:=by rw[←s1];exact(w6.1 hk').1
   rcases a5C (s2 _ _ _ (J4 hlt) hk') with⟨_,h1⟩|⟨ob1,ob2,h1,h2,hF⟩
   ·cases h1
   ·cases h2;have hob':Z1 H0 (k-H.length)=some ob1:=by unfold Z1;rw[J4 hlt,h1];rfl
    have hO:=(hI.heap.live _ ob1 hob').2.1;have n1:(E.glue E' ι E.N).β k=E'.β (k-H.length):=b8d
    have n2:(E.glue E' ι E.N).κ k=E'.κ (k-H.length):=b8d
    have n3:(E.glue E' ι E.N).z k=E'.z (k-H.length):=b8d
    have n4:∀v,E'.L2 (k-H.length) v->(E.glue E' ι E.N).L2 k v/\∀a b,(E.glue E' ι E.N).b2 k v a b=E'.b2 (k-H.length) v a b/\(E.glue E' ι E.N).c2 k v a b=E'.c2 (k-H.length) v a b:=λv hv=>by
     simp only[Env.glue,hi];exact⟨hv,λ_ _=>⟨trivial,trivial⟩⟩
    refine .inl ⟨k-H.length,ob1,hi,hob',a8P hO (b0R (hph _ _ hob')) hF (λt t' x hq ht hx=>aC hρι hq ht hx) n1 n2 n3 n4 (λ_ _=>rfl),λb hb=>jF hO hF n1 n2 n4 hb,λv ty sz n row he=>?_⟩
    subst he;simp only[mB,X2] at hF;exact⟨row,hF.symm⟩
 ·simp only[ι] at hi;split at hi
  ·simp only[X2] at hi;rw[K2,s1];omega
  ·cases hi
theorem b27{E':Env}{t:T}{x:Value}(hp:uQ t=true)(hx:Rd E w t x):Rd E' w' t x:=by
 cases t with
 |int k n=>cases hx;exact .int _ _
 |bool b=>cases hx;exact .bool _
 |str l=>cases hx;exact .str _
 |v y=>cases hx;exact .v _
 |_=>simp[uQ] at hp
theorem c0x{k v:Nat}{ty:TypeId}{sz n:Nat}{row:Nat->List T}(hF:FamOk E w k v ty sz n row){i j:Nat}{oty:TypeId}{osz on:Nat}{orow orow':Nat->List T}(hi:i<n)(hj:(row i)[j]? =some (.own oty osz on orow))
  (hw:∀b,(E.c2 k v i j≠0->b≠E.b2 k v i j)->b<w.heap.size->w'.heap[b]? =w.heap[b]?) (B:∀b,B7 E k (.fam v ty sz n row) b->¬E.N b) (d:∀b,E.N b->b<w.heap.size) (O:T4 (E.sub k v i j osz) w' 0 ⟨true,oty,osz,on,orow'⟩):
  FamOk E w' k v ty sz n (setRow row i j [.own oty osz on orow'])/\∀b,B7 E k (.fam v ty sz n (setRow row i j [.own oty osz on orow'])) b->B7 E k (.fam v ty sz n row) b:=by
 have hbl:∀b,B7 E k (.fam v ty sz n row) b->b<w.heap.size:=λb hb=>i6.blt (ob:=.fam v ty sz n row) hF hb
 have z:∀b,E.N b->w'.heap[b]? =w.heap[b]? :=λb hb=>hw b (λhc e=>B b (.inr ⟨_,_,_,_,_,_,_,_,_,_,_,rfl,hi,hj,hc,e⟩) hb) (d b hb)
 have hstep:Step E w E w':=⟨Env.le.refl E,z,λ_ h=>.inl h⟩
 have hlr:∀r,r<n->(row r).length=sz:=λr hr=>(by have:=hF.arr.2.2.1 r hr;rwa [N8] at this)
 have l:=(w6.1 hj).1
 have hfit:∀r,r<n->j+[T.own oty osz on orow'].length<=(row r).length:=λr hr=>by rw[hlr r hr,←hlr i hi];simp only[List.length_singleton];omega
 have back:∀(r q:Nat) (t:T),r<n->(setRow row i j [T.own oty osz on orow'] r)[q]? =some t->(r=i/\q=j/\t= .own oty osz on orow')∨(¬ (r=i/\q=j)/\(row r)[q]? =some t):=by
  intro r q t hr hq;rcases s7 (hfit r hr) hq with⟨h1,h2,h3,h4⟩|⟨h1,h2⟩
  ·simp only[List.length_singleton] at h3;obtain rfl:q=j:=by omega
   simp at h4;exact .inl ⟨h1,rfl,h4.symm⟩
  ·simp only[List.length_singleton] at h1;exact .inr ⟨λx=>h1 ⟨x.1,Z9,Z9⟩,h2⟩
 have own:∀(r q:Nat) (oty1:TypeId) (osz1 on1:Nat) (orow1:Nat->List T),r<n->(setRow row i j [T.own oty osz on orow'] r)[q]? =some (T.own oty1 osz1 on1 orow1)->∃(o:TypeId) (osz2 on2:Nat) (orow2:Nat->List T),(row r)[q]? =some (T.own o osz2 on2 orow2):=by
  intro r q oty1 osz1 on1 orow1 hr hq;rcases back r q _ hr hq with⟨rfl,rfl,_⟩|⟨_,h2⟩
  ·exact⟨_,_,_,_,hj⟩
  ·exact⟨_,_,_,_,h2⟩
 have hκb:E.κ k≠0->w'.heap[E.β k]? =w.heap[E.β k]? :=λhκ=>hw _ (λhc e=>((hF.own i j _ _ _ _ hi hj).2 hc hκ) e.symm) (hbl _ (.inl ⟨hκ,rfl⟩))
 refine⟨?_,λb hb=>?_⟩
 ·obtain⟨e1,e2,e3,e4,e5,cs0,ty0,e6,e7,e8⟩:=hF.arr;refine l7 (E:=E) hF.l2 e1 e2 cs0 ty0 (λhκ=>by rw[hκb hκ];exact e6 hκ) e7 (λr hr=>(by rw[T6 (hfit r hr)];exact hlr r hr)) (λr q t hr hq=>?_) (λi1 j1 i2 j2 oty osz on orow oty' osz' on' orow' h1 h2 h3 h4 h5 h6 h7=>?_)
  ·rcases back r q t hr hq with⟨rfl,rfl,rfl⟩|⟨hne,hq0⟩
   ·obtain⟨u,hu,hru⟩:=e8 r q (.posl k v r q on) hr (by simp only;rw[J9,hj];rfl)
    exact⟨u,hu,.inr ⟨_,_,_,_,rfl,hstep.rd hru,O,(hF.own r q _ _ _ _ hr hj).2⟩⟩
   ·obtain⟨u,hu,hru⟩:=e8 r q (sP k v r q t) hr (by simp only;rw[J9,hq0];rfl)
    rcases hF.cell hr hq0 with hc|⟨oty1,osz1,on1,orow1,rfl⟩
    ·rw[M4 hc] at hru;exact⟨u,hu,.inl ⟨hc,hstep.rd hru⟩⟩
    ·obtain⟨g1,g2⟩:=hF.own r q _ _ _ _ hr hq0;refine⟨u,hu,.inr ⟨_,_,_,_,rfl,hstep.rd hru,g1.closed (k':=0) (E':=E.sub k v r q osz1) rfl (λb hb=>hb) (λb hb=>hstep.same b hb) rfl rfl rfl (λhc0=>hw _ (λhc e=>hne ?_) (hbl _ (.inr ⟨_,_,_,_,_,_,_,_,_,_,_,rfl,hr,hq0,hc0,rfl⟩))),g2⟩⟩
     exact hF.inj r q i j _ _ _ _ _ _ _ _ hr hi hq0 hj hc0 hc e
  ·obtain⟨_,_,_,_,f⟩:=own i1 j1 _ _ _ _ h1 h3;obtain⟨_,_,_,_,g⟩:=own i2 j2 _ _ _ _ h2 h4;exact hF.inj i1 j1 i2 j2 _ _ _ _ _ _ _ _ h1 h2 f g h5 h6 h7
 ·rcases hb with hb|⟨v0,ty0,sz0,n0,K8,i0,j0,oty1,osz1,on1,orow1,hobe,hi0,hj0,hc0,rfl⟩
  ·exact .inl hb
  ·simp only[Ob.fam.injEq] at hobe;obtain⟨rfl,rfl,rfl,rfl,rfl⟩:=hobe;obtain⟨_,_,_,_,f⟩:=own i0 j0 _ _ _ _ hi0 hj0;exact .inr ⟨_,_,_,_,_,_,_,_,_,_,_,rfl,hi0,f,hc0,rfl⟩
theorem c4K(h:Inv c E H w){f:FuncId}{cf:List T->Y4->Option (T×Y4×Option Prop)}(hf:fN P f cf){args:List T}{vs:Array Value}{r:T}{p:Option Prop}(he:b5C cf H args=some (r,H',p))(hp:p.getD True)(ha:tT E w args vs):
  Calls P f vs w λe w'=>∃v E',e= .returned v/\Inv c E' H' w'/\Step E w E' w'/\Rd E' w' r v:=by
 unfold b5C at he;split at he
 case h_2=>cases he
 rename_i k v i j n rest;split at he
 case h_2=>cases he
 rename_i v' ty sz N row A hrest hk hA;split at he
 case h_2=>cases he
 rename_i r0 ty' sz' n' row' p0 hc;split at he
 case h_2=>cases he
 rename_i hpl hbeq;obtain rfl:=G1 hbeq;simp only[X2,U0] at he;obtain⟨rfl,rfl,rfl⟩:=he;obtain⟨hp0,hv,hi,hn,hn',hpv⟩:=yM hp;obtain⟨ty2,sz2,pU,hk2,hj,hcl⟩:=yV hA;rw[hk] at hk2;simp only[X2,Ob.fam.injEq] at hk2;obtain⟨rfl,rfl,rfl,rfl,rfl⟩:=hk2;subst hv;subst hn';obtain⟨hO,hL,hL2⟩:=a10 h.heap hA rfl hi;obtain⟨v,N,cl,oty,osz,on,orow⟩:=A;simp only at hcl hj hO hc hi hn hpv hk hL2 hA;subst hcl;obtain⟨_,hF,hNk⟩:=h.heap.live _ _ hk;have hF:FamOk E w k v ty sz N row:=hF;have hfn:=hf _ _ r0 _ p0 hc hp0;let E1:Env:={E.sub k v i j osz with L:=λa=>a=0,L2:=λ_ _=>False}
 have cv:∀{w:World} {t:T} {x:Value},W7 t=true->Rd E w t x->Rd E1 w t x:=λht hx=>C0 (E:=E) (E':=E1) (λ_ h=>h) hx ht
 have cv':∀{w:World} {t:T} {x:Value},W7 t=true->Rd (E.sub k v i j osz) w t x->Rd E1 w t x:=λht hx=>C0 (E:=E.sub k v i j osz) (E':=E1) (λ_ h=>h) hx ht
 have hsub:E.c2 k v i j≠0->B7 E k (.fam v ty sz N row) (E.b2 k v i j):=λhc2=>.inr ⟨_,_,_,_,_,_,_,_,_,_,_,rfl,hi,hj,hc2,rfl⟩
 have hone:∀a ob,Z1 [some (Ob.arr true oty osz on orow)] a=some ob->a=0/\ob= .arr true oty osz on orow:=λa ob ho=>by
  cases a with
  |zero=>simp[Z1] at ho;exact⟨rfl,ho.symm⟩
  |succ a=>simp[Z1] at ho
 have hH1:HeapOk E1 w [some (.arr true oty osz on orow)]:=by
  refine⟨λa ob ho=>?_,λa a' o o' b ho ho' _ _=>by rw[(hone a o ho).1,(hone a' o' ho').1],λa ha=>?_,λa u hu=>hu.elim,λa ob u _ hu=>hu.elim⟩
  ·obtain⟨rfl,rfl⟩:=hone a ob ho;refine⟨rfl,?_,λb hb=>?_⟩
   ·obtain⟨e1,e2,e3,e4,e5,cs,tyc,e6,e7,e8⟩:=hO;exact⟨e1,e2,e3,e4,e5,cs,tyc,e6,e7,λa b t ha hb=>by obtain⟨u,hu,hr⟩:=e8 a b t ha hb;exact⟨u,hu,cv' (e5 rfl a t ha (A4 hb)) hr⟩⟩
   ·obtain⟨h1,rfl⟩:=hb.arr rfl;exact hNk _ (hsub h1)
  ·have ha:a=0:=ha;subst ha;exact Nat.lt_succ_self 0
 have hval:tT E1 w (.osl 0 0 n::rest) vs:=by
  refine⟨ha.1,λa t x hi hx=>?_⟩
  cases a with
  |zero=>
   simp only[List.getElem?_cons_zero,X2] at hi
   subst hi;have:=ha.2 0 _ x rfl hx;cases this with
   |posl _ _ _ _ _ ad hL hn ha=>
    have:=Rd.osl (E:=E1) (w:=w) 0 0 n 0 ad rfl (by rw[C9];exact hn) (λ_=>W8) ha
    exact this
  |succ a=>exact Rd.closedD (E:=E) (E':=E1) (λ_ h=>h) 6 (ha.2 (a+1) t x hi hx) (i7.1 hrest t (A4 aE))
 refine(hfn E1 w vs hH1 h.nlt hval).mono λe w' hh=>?_
 obtain⟨vv,E',rfl,hI,hst,hrd⟩:=hh;have hXb:∀b,XB E1 [some (.arr true oty osz on orow)] b->E.c2 k v i j≠0/\b=E.b2 k v i j:=λb hb=>by
  obtain⟨a,ob,ho,hb⟩:=hb;obtain⟨rfl,rfl⟩:=hone a ob ho;exact hb.arr rfl
 have hwo:∀b,(E.c2 k v i j≠0->b≠E.b2 k v i j)->b<w.heap.size->w'.heap[b]? =w.heap[b]? :=λb hb hlt=>hI.fr.block b hlt λhx=>by
  obtain⟨h1,h2⟩:=hXb b hx;exact hb h1 h2
 have hO':T4 (E.sub k v i j osz) w' 0 ⟨true,oty,osz,on,row'⟩:=by
  obtain⟨_,hA0,_⟩:=hI.heap.live 0 (.arr true ty' osz on row') rfl;obtain⟨e1,e2,e3,e4,e5,cs,tyc,e6,e7,e8⟩:=(show T4 E' w' 0 ⟨true,ty',osz,on,row'⟩ from hA0)
  have k1:E'.κ 0=E.c2 k v i j:=hst.le.κ 0 rfl;have k2:E'.β 0=E.b2 k v i j:=hst.le.β 0 rfl;refine⟨rfl,(show on<=E.c2 k v i j by rw[←k1];exact e2),e3,e4,e5,cs,tyc,λh0=>?_,(show Siz cs (E.c2 k v i j*osz) [] by rw[←k1];exact e7.any),λa b t ha hb=>?_⟩
  ·show w'.heap[E.b2 k v i j]? =_;rw[←k2];exact e6 (by rw[k1];exact h0)
  ·obtain⟨u,hu,hr⟩:=e8 a b t ha hb;exact⟨u,hu,b27 (hpv a ha t (A4 hb)) hr⟩
 obtain⟨hF',hB⟩:=c0x (orow':=row') hF hi hj hwo hNk h.nlt hO';have:=h.writeO hk hI.fr.os hI.fr.tape hI.fr.output hI.fr.size (λb hlt hn=>hwo b (λhc e=>hn (e▸hsub hc)) hlt) (.fam v ty sz N (setRow row i j [.own oty osz on row'])) hB (λu hu=>by
  obtain⟨v0,_,_,_,_,he,hle⟩:=h.heap.cur k _ u hk hu;cases he;exact⟨_,_,_,_,_,rfl,hle⟩) (λ_=>hF')
 exact⟨vv,E,rfl,this.1,this.2,Rd.plain 6 hrd hpl⟩
theorem N3{ks:List Nat}:∀{H:Y4} {i k:Nat} {ob:Ob},Z1 (I2 ks H i) k=some ob->Z1 H k=some ob/\(i+k) ∈ ks:=by
 intro H;induction H with
 |nil=>intro i k ob h;simp[I2,Z1] at h
 |cons o H I=>
  intro i k ob h;cases k with
  |zero=>
   simp only[I2,Z1,List.getElem?_cons_zero,Option.bind_some,id] at h ⊢
   split at h
   ·rename_i M;exact⟨h,by simpa using a9p.1 M⟩
   ·cases h
  |succ k=>
   have:=I (i:=i+1) (k:=k) (ob:=ob) (by simpa[I2,Z1] using h)
   refine⟨by simpa[Z1] using this.1,?_⟩
   have d:=this.2
   rwa [show i+1+k=i+(k+1) by omega] at d
theorem sU{ks:List Nat}:∀{H:Y4} {i:Nat},(I2 ks H i).length=H.length:=by
 intro H;induction H with
 |nil=>intro i;rfl
 |cons o H h=>intro i;simp[I2,h]
theorem c6B(h:Inv c E H w){f:FuncId}{cf:List T->Option (T×Option Prop)}(hf:a2l P f cf){ks:List Nat}{args:List T}{vs:Array Value}{r:T}{p:Option Prop}(he:c1v cf H ks args=some (r,H',p))(hp:p.getD True)(ha:tT E w args vs):
  Calls P f vs w λe w'=>∃v E',e= .returned v/\Inv c E' H' w'/\Step E w E' w'/\Rd E' w' r v:=by
 unfold c1v at he;split at he
 case h_2=>cases he
 rename_i bs hbs;split at he
 case h_2=>cases he
 rename_i r0 p0 hc;simp only[X2,U0] at he;obtain⟨rfl,rfl,rfl⟩:=he;obtain⟨hsb,hp0⟩:=yM hp;have hfn:=hf _ r0 p0 hc hp0;obtain⟨b1,b2⟩:=K3 hbs;have hK:Inv c E (I2 ks H 0) w:=by
  refine⟨⟨λk ob hk=>h.heap.live k ob (N3 hk).1,λk k' o o' b hk hk'=>h.heap.inj k k' o o' b (N3 hk).1 (N3 hk').1,λk hk=>by rw[sU];exact h.heap.lt k hk,h.heap.l2,λk ob v hk=>h.heap.cur k ob v (N3 hk).1⟩,h.nlt,h.nnew,λk ob b hk=>h.bnew k ob b (N3 hk).1,h.fr,h.keep⟩
 have hval:tT (E.lent 0 (I2 ks H 0)) w (bs.map (·.1)) vs:=⟨by simp[b1];exact ha.1,λi t x hi hx=>by
  simp only[pW,G4] at hi
  obtain⟨y,hy,rfl⟩:=hi;have hlt:i<args.length:=by rw[←b1];exact(w6.1 hy).1
  have hc:=J4 hlt
  exact s5 hK 6 (r:=y.1) (p:=y.2) (b2 i _ y hc hy) (b7 hsb y (A4 hy)) (ha.2 i _ x hc hx)⟩
 have hN1:∀b,(E.lent 0 (I2 ks H 0)).N b->b<w.heap.size:=λb hb=>by
  rcases hb with hb|⟨k,ob,_,hk,hb⟩
  ·exact h.nlt b hb
  ·exact hK.heap.blt hk hb
 refine(hfn (E.lent 0 (I2 ks H 0)) w vs (λ_=>⟨λh=>absurd h.2 (J5 _),λ_ h=>absurd h.2 (J5 _)⟩) hN1 hval).mono λe w' hh=>?_
 obtain⟨v,rfl,hb,hr⟩:=hh;let N2:Nat->Prop:=((E.lent 0 (I2 ks H 0)).addN λb=>w.heap.size<=b/\b<w'.heap.size).N
 let E2:Env:={E with N:=N2}
 have hstep:Step E w E2 w':=⟨⟨λb hb=>.inl (.inl hb),λ_ h=>h,λ_ _=>rfl,λ_ _=>rfl,λ_ _=>rfl,λ_ _ h=>h,λ_ _ _ _ _=>rfl,λ_ _ _ _ _=>rfl⟩,λb hb'=>hb.block b (h.nlt b hb'),λ_ h=>.inl h⟩
 refine⟨v,E2,rfl,⟨⟨λk ob hk=>?_,λk k' o o' b hk hk'=>h.heap.inj k k' o o' b (L8 hk).1 (L8 hk').1,λk hk=>by rw[H5];exact h.heap.lt k hk,h.heap.l2,λk ob v hk=>h.heap.cur k ob v (L8 hk).1⟩,λb hb'=>?_,λb hb'=>?_,λk ob b hk=>h.bnew k ob b (L8 hk).1,h.fr.heap hb.os hb.tape hb.output hb.size (λb h1 _=>hb.block b b0o),h.keep.step hstep⟩,hstep,?_⟩
 ·obtain⟨g1,g2⟩:=L8 hk;obtain⟨e1,e2,e3⟩:=h.heap.live k ob g1;refine⟨e1,e2.mono e1 hstep (λb hb'=>hb.block b (e2.blt hb')),λb hb' hn=>?_⟩
  have hb':B7 E k ob b:=hb';rcases hn with(hn|⟨k2,ob2,_,hk2,hb2⟩)|hn
  ·exact e3 b hb' hn
  ·obtain⟨g3,g4⟩:=N3 hk2;have:=h.heap.inj k k2 ob ob2 b g1 g3 hb' hb2;rw[C9] at g4;exact g2 (this▸g4)
  ·have:=e2.blt hb';have:=hn.1;omega
 ·rcases hb' with hb'|hb'
  ·have:=hN1 b hb';have:=hb.size;omega
  ·exact hb'.2
 ·rcases hb' with(hn|⟨k2,ob2,_,hk2,hb2⟩)|hn
  ·exact h.nnew b hn
  ·exact .inr (h.bnew k2 ob2 b (N3 hk2).1 hb2)
  ·have:=h.fr.size;exact .inr (.inl (by have:=hn.1;omega))
 ·exact Rd.mono (w:=w') (w':=w') (E:=(E.lent 0 (I2 ks H 0)).addN λb=>w.heap.size<=b/\b<w'.heap.size) (E':=E2) ⟨λ_ h=>h,λ_ h=>absurd h.2 (J5 _),λ_ h=>absurd h.2 (J5 _),λ_ h=>absurd h.2 (J5 _),λ_ h=>absurd h.2 (J5 _),λ_ _ h=>absurd h.2 (J5 _),λ_ _ _ _ h=>absurd h.2 (J5 _),λ_ _ _ _ h=>absurd h.2 (J5 _)⟩ (λ_ _=>rfl) hr
theorem b75(d:C6 P G)(h:Inv c E H w){f:FuncId}{args:List T}{vs:Array Value}{r:T}{p:Option Prop}(he:xF G H f args=some (r,H',p))(hp:p.getD True)(A:tT E w args vs):
  Calls P f vs w λe w'=>∃v E',e= .returned v/\Inv c E' H' w'/\Step E w E' w'/\Rd E' w' r v:=by
 unfold xF at he;split at he
 ·rename_i cf hcf;split at he
  ·exact c4K h (a90 d hcf) he hp A
  ·exact a3K h (a90 d hcf) he hp A
 ·split at he
  ·rename_i cf hcf;exact c64 h (c27 d hcf) he hp A
  ·split at he
   ·rename_i cf hcf;exact c6B h (c4M d hcf) he hp A
   ·cases he
end
section
variable {c:Ctx} {E:Env} {H H':Y4} {w w':World} {ρ:Nat->Option Nat} {P:Program}
theorem a2r(hρ:∀k m,ρ k=some m->m=k):∀{d:Nat} {t t':T},S4 ρ d t=some t'->t'=t:=by
 intro d;induction d with
 |zero=>intro t t' h;simp[S4] at h
 |succ d ih=>
  intro t t' h;have list:∀{cs cs':List T},N5 (S4 ρ d) cs=some cs'->cs'=cs:=by
   intro cs cs' hm;obtain⟨h1,h2⟩:=K3 hm;refine List.ext_getElem h1 λi h3 h4=>?_
   exact ih (h2 i _ _ (J4 h4) (J4 h3))
  unfold S4 at h;split at h
  case h_6=>
   simp only[G4] at h;obtain⟨cs,hm,rfl⟩:=h;rw[list hm]
  case h_7=>
   simp only[G4] at h;obtain⟨cs,hm,rfl⟩:=h;rw[list hm]
  case h_8=>
   simp only[G4] at h;obtain⟨cs,hm,rfl⟩:=h;rw[list hm]
  case h_9=>simp only[X2] at h;exact h.symm
  all_goals
   simp only[G4] at h;obtain⟨m,hm,rfl⟩:=h;rw[hρ _ _ hm]
theorem a1v:∀k m,dV k=some m->m=k:=by
 intro k m h;cases k with
 |zero=>cases h
 |succ k=>simp only[dV,X2] at h;exact h.symm
theorem c0t:∀i k,dV i=some k->dV k=some i:=by
 intro i k h;rw[a1v i k h];cases i with
 |zero=>cases h
 |succ i=>rfl
theorem a0C{cs C:List T}(h:N5 (S4 dV 6) cs=some C):C=cs/\∀t ∈ C,S4 dV 6 t=some t:=by
 obtain⟨g,d⟩:=K3 h;have e:C=cs:=List.ext_getElem g λi n f=>a2r a1v (d i _ _ (J4 f) (J4 n))
 refine⟨e,λt l=>?_⟩
 obtain⟨i,hi,rfl⟩:=List.getElem_of_mem l;have:=d i _ _ (J4 (by rw[←e];exact hi)) (J4 hi)
 have j:=a2r a1v this;rw[←j] at this;exact this
theorem pI{X:Env}{t d:T}{x:Value}(e:S4 dV 6 t=some d)(h:Rd E w t x):Rd (X.glue E dV E.N) w d x:=
 a4i (λ_ h=>h) c0t 6 e h
theorem b3w{ob:Ob}(h:ob.isArr=true):∀v ty sz n row,ob≠ .fam v ty sz n row:=by rintro v ty sz n row rfl;cases h
theorem c1G{X:Env}{f ob2:Ob}{R r:Y4}(h:HeapOk E w (some f::R))(hm:N5 (obB dV) R=some r)(Z:f.isArr=true)(J:ob2.isArr=true)(I:X.L 0)(W:X.β 0=E.β 0)(hκ:E.κ 0≠0)
  (A:∀v,X.L2 0 v->E.L2 0 v) (ho:i6 (X.glue E dV E.N) w 0 ob2):
  HeapOk (X.glue E dV E.N) w (some ob2::r)/\∀k ob b,Z1 (some ob2::r) k=some ob->B7 (X.glue E dV E.N) k ob b->∃O,Z1 (some f::R) k=some O/\B7 E k O b:=by
 obtain⟨m1,M⟩:=K3 hm;have B:f.isArr=true->∀v,¬E.L2 0 v:=λhi v hv=>by
  obtain⟨V,ty,sz,n,row,he,_⟩:=h.cur 0 f v rfl hv;exact b3w hi _ _ _ _ _ he
 have get:∀k ob,Z1 (some ob2::r) (k+1)=some ob->∃O,Z1 (some f::R) (k+1)=some O/\mB dV O=some ob:=by
  intro k ob d;have z:k<r.length:=by
   have:=H3 d;simp only[List.length_cons] at this;omega
  have l:r[k]? =some (some ob):=by
   have:Z1 r k=some ob:=d;unfold Z1 at this;rw[J4 z] at this ⊢
   simp only[Option.bind_some,id] at this;rw[this]
  have i:k<R.length:=Z9
  rcases a5C (M k _ _ (J4 i) l) with⟨_,e⟩|⟨o1,o2,e1,C,e3⟩
  ·cases e
  ·cases C;exact⟨o1,by show Z1 R k=_;unfold Z1;rw[J4 i,e1];rfl,e3⟩
 have blk:∀k ob b,Z1 (some ob2::r) k=some ob->B7 (X.glue E dV E.N) k ob b->∃O,Z1 (some f::R) k=some O/\B7 E k O b:=by
  intro k ob b d hb';cases k with
  |zero=>
   have:ob2=ob:=a8G
   subst this;obtain⟨_,C⟩:=hb'.arr J;exact⟨f,rfl,.inl ⟨hκ,C.trans W⟩⟩
  |succ k=>
   obtain⟨O,g,j⟩:=get k ob d;exact⟨O,g,jF (h.live _ _ g).2.1 j rfl rfl (λv hv=>⟨hv,λ_ _=>⟨rfl,rfl⟩⟩) hb'⟩
 refine⟨⟨λk ob d=>?_,λk k' o o' b d l hx u=>?_,λk d=>?_,λk v d=>?_,λk ob v d hv=>?_⟩,blk⟩
 ·refine⟨?_,?_,λb hb'=>?_⟩
  ·cases k with
   |zero=>exact I
   |succ k=>obtain⟨O,g,_⟩:=get k ob d;exact(h.live _ _ g).1
  ·cases k with
   |zero=>
    have:ob2=ob:=a8G
    subst this;exact ho
   |succ k=>
    obtain⟨O,g,j⟩:=get k ob d;exact a5s (h.live _ _ g).2.1 j (λt t' x U hx=>pI U hx) rfl rfl rfl (λv hv=>⟨hv,λ_ _=>⟨rfl,rfl⟩⟩) (λ_ _=>rfl)
  ·obtain⟨O,g,j⟩:=blk k ob b d hb';exact(h.live _ _ g).2.2 b j
 ·obtain⟨p,p1,Q⟩:=blk k o b d hx;obtain⟨q,Y,q2⟩:=blk k' o' b l u;exact h.inj k k' p q b p1 Y Q q2
 ·cases k with
  |zero=>simp
  |succ k=>
   have:=h.lt (k+1) d;simp only[List.length_cons] at this ⊢;omega
 ·cases k with
  |zero=>exact I
  |succ k=>exact h.l2 (k+1) v d
 ·cases k with
  |zero=>exact absurd (A v hv) (B Z v)
  |succ k=>
   obtain⟨O,g,j⟩:=get k ob d;obtain⟨V,ty,sz,n,row,rfl,F⟩:=h.cur _ _ v g hv;simp only[mB,X2] at j;exact⟨V,ty,sz,n,row,j.symm,F⟩
theorem c3y{f:FuncId}{cf:List T->Y4->Option (T×Y4×Option Prop)}(hf:fN P f cf){sz n:Nat}:fN P f λas H=>b9s cf sz n H as:=by
 intro as Hw res Hw' p he hp;replace he:b9s cf sz n Hw as=some (res,Hw',p):=he;unfold b9s at he;split at he
 case h_2=>cases he
 rename_i ty szW m row rest;split at he
 case h_2=>cases he
 rename_i m' or0 ob0 hb rest0 cs hrest hcs hok;simp only[O4] at hok;obtain⟨hoa,hsz⟩:=hok;have hsz:=zP hsz;split at he
 case h_2=>cases he
 rename_i oe r cl' ty' sz' m'' row' rest' p' hev;split at he
 case h_2=>cases he
 rename_i r' rest2 cs' hs' hr' hrest2 hcs';simp only[X2,U0] at he;obtain⟨rfl,rfl,rfl⟩:=he;obtain rfl:=G1 hs';obtain⟨ecs,ncs⟩:=a0C hcs;obtain⟨ecs',ncs'⟩:=a0C hcs';subst ecs;subst ecs';intro E w vs hH hN hv;obtain⟨l1,l2,l3⟩:=hH.live 0 _ rfl;obtain⟨e1,e2,e3,e4,e5,arr,aty,e6,e7,e8⟩:=(show T4 E w 0 ⟨false,ty,szW,1,row⟩ from l2)
 simp only at e1 e2 e3 e4 e7 e8;have hκ0:E.κ 0≠0:=Z9
 have hlen:(row 0).length=szW:=e3 0 Nat.zero_lt_one;have hle7:szW<=arr.size:=by
  have:=e7.le;have h2:1*szW<=E.κ 0*szW:=lD _ e2;omega
 obtain⟨tl,htl⟩:∃tl,tl=arr.toList.drop sz':=⟨_,rfl⟩;have htlen:tl.length=arr.size-sz':=by rw[htl];simp
 have htget:∀j,tl[j]? =arr[sz'+j]? :=λj=>by rw[htl,List.getElem?_drop];simp
 let X:Env:={E with κ:=λ_=>1,z:=λ_=>(sz',tl)}
 let En:=X.glue E dV E.N
 have hbox:T4 En w 0 ⟨false,ty,sz',1,λ_=>(row 0).take sz'⟩:=by
  refine⟨rfl,V8 _,λi _=>?_,λi t _ ht=>e4 0 t Nat.zero_lt_one (List.mem_of_mem_take ht),λh=>J6,arr,aty,λ_=>e6 hκ0,⟨?_,λj u hj=>?_⟩,λi j t hi hj=>?_⟩
  ·show((row 0).take sz').length=sz';rw[List.length_take,hlen];omega
  ·show 1*sz'+tl.length<=_;omega
  ·show arr[1*sz'+j]? =_;rw[Nat.one_mul,←htget];exact hj
  ·have hi:i<1:=hi;obtain rfl:i=0:=by omega
   have hj:((row 0).take sz')[j]? =some t:=hj;rw[List.getElem?_take] at hj
   split at hj
   ·obtain⟨u,hu,hr⟩:=e8 0 j t Nat.zero_lt_one hj;refine⟨u,?_,pI (ncs t (A4 hj)) hr⟩
    show arr[0*sz'+j]? =_;rw[Nat.zero_mul] at hu ⊢;exact hu
   ·cases hj
 obtain⟨hHn,hbn⟩:=c1G (X:=X) hH hrest rfl (ob2:=.arr false ty sz' 1 λ_=>(row 0).take sz') rfl l1 rfl hκ0 (λ_ h=>h) hbox
 have hvn:tT En w as vs:=⟨hv.1,λi t x hi hx=>by
  have hr:=hv.2 i t x hi hx;have ho:=i7.1 hoa t (A4 hi);unfold okA at ho;split at ho
  ·rename_i j;cases hr with
   |ref _ _ _ hL=>
    have:=Rd.ref (E:=En) (w:=w) 0 0 j l1;rw[Nat.zero_mul] at this ⊢;exact this
  ·split at ho
   ·rename_i t' ht;have:=a2r a1v ht;subst this;exact pI ht hr
   ·cases ho⟩
 have hI0:Inv ⟨w,XB E (some (.arr false ty szW 1 row)::rest),E.N,0,E,0⟩ En (some (.arr false ty sz' 1 λ_=>(row 0).take sz')::rest0) w:=
  ⟨hHn,hN,λb hb=>.inl hb,λk ob b hk hb=>.inr (by obtain⟨ob',g1,g2⟩:=hbn k ob b hk hb;exact⟨k,ob',g1,g2⟩),⟨rfl,rfl,rfl,V8 _,λ_ _ _=>rfl⟩,⟨λ_ h=>h,λk hk=>absurd hk (J5 k),λ_ _=>rfl,λk _ hk=>absurd hk (J5 k)⟩⟩
 refine(a3K hI0 hf hev hp hvn).mono λe w' hh=>?_
 obtain⟨v,E',rfl,hI,hst,hrd⟩:=hh;have hE0:E'.β 0=E.β 0:=hst.le.β 0 l1;have hE1:E'.κ 0=1:=hst.le.κ 0 l1;have hE2:E'.z 0=(sz',tl):=hst.le.z 0 l1;obtain⟨k1,k2,k3⟩:=hI.heap.live 0 _ rfl;obtain⟨f1,f2,f3,f4,f5,arr',aty',f6,f7,f8⟩:=(show T4 E' w' 0 ⟨cl',ty',sz',1,row'⟩ from by cases cl'<;>exact k2)
 simp only at f1 f2 f3 f4 f7 f8;rw[hE1,Nat.one_mul,hE2] at f7;obtain⟨f71,f72⟩:=f7;have f71:sz'+tl.length<=arr'.size:=f71;have hlen':(row' 0).length=sz':=f3 0 Nat.zero_lt_one;have hkeep:∀q u,sz'<=q->arr[q]? =some u->arr'[q]? =some u:=λq u hq hu=>by
  have:=f72 (q-sz') u (by rw[htget,show sz'+(q-sz')=q by omega];exact hu)
  rwa [show sz'+(q-sz')=q by omega] at this
 have hbox':T4 (E.glue E' dV E'.N) w' 0 ⟨false,ty',szW,1,λ_=>row' 0++(row 0).drop sz'⟩:=by
  refine⟨e1,e2,λi _=>?_,λi t _ ht=>?_,λh=>J6,arr',aty',λ_=>?_,⟨?_,λj u hj=>?_⟩,λi j t hi hj=>?_⟩
  ·show(row' 0++(row 0).drop sz').length=szW;rw[K2,List.length_drop,hlen,hlen'];omega
  ·rcases List.mem_append.1 ht with ht|ht
   ·exact f4 0 t Nat.zero_lt_one ht
   ·exact e4 0 t Nat.zero_lt_one (List.mem_of_mem_drop ht)
  ·have:=f6 Z9
   rwa [hE0] at this
  ·have:=e7.1;show E.κ 0*szW+(E.z 0).2.length<=_;omega
  ·have h2:1*szW<=E.κ 0*szW:=lD _ e2;exact hkeep _ u (by show sz'<=E.κ 0*szW+j;omega) (e7.2 j u hj)
  ·have hi:i<1:=hi;obtain rfl:i=0:=by omega
   have hj:(row' 0++(row 0).drop sz')[j]? =some t:=hj;show ∃u,arr'[0*szW+j]? =some u/\_;rw[Nat.zero_mul,C9];rw[List.getElem?_append,hlen'] at hj
   split at hj
   ·obtain⟨u,hu,hr⟩:=f8 0 j t Nat.zero_lt_one hj;rw[Nat.zero_mul,C9] at hu;exact⟨u,hu,pI (ncs' t (A4 hj)) hr⟩
   ·rw[List.getElem?_drop,show sz'+(j-sz')=j by omega] at hj
    obtain⟨u,hu,hr⟩:=e8 0 j t Nat.zero_lt_one hj;rw[Nat.zero_mul,C9] at hu;have ht:=ncs t (A4 hj);exact⟨u,hkeep j u Z9 hu,pI ht (hst.rd (pI ht hr))⟩
 obtain⟨hH2,hb2⟩:=c1G (X:=E) hI.heap hrest2 (by cases cl'<;>rfl) (ob2:=.arr false ty' szW 1 λ_=>row' 0++(row 0).drop sz') rfl l1 hE0.symm Z9 (λv h=>hst.le.L2 0 v h) hbox'
 refine⟨v,E.glue E' dV E'.N,rfl,⟨hH2,hI.nlt,hI.nnew,λk ob b hk hb=>?_,hI.fr,⟨hI.keep.N,λk hk=>absurd hk (J5 k),hI.keep.same,λk _ hk=>absurd hk (J5 k)⟩⟩,⟨⟨λb hb=>hst.le.N b hb,λk hk=>?_,λk hk=>?_,λk hk=>?_,λk hk=>?_,λk v hk=>?_,λk v a b hk=>?_,λk v a b hk=>?_⟩,λb hb=>hst.same b hb⟩,pI hr' hrd⟩
 ·obtain⟨ob',g1,g2⟩:=hb2 k ob b hk hb;exact hI.bnew k ob' b g1 g2
 ·cases k with
  |zero=>exact hk
  |succ k=>exact hst.le.L (k+1) hk
 ·cases k with
  |zero=>rfl
  |succ k=>exact hst.le.β (k+1) hk
 ·cases k with
  |zero=>rfl
  |succ k=>exact hst.le.κ (k+1) hk
 ·cases k with
  |zero=>rfl
  |succ k=>exact hst.le.z (k+1) hk
 ·cases k with
  |zero=>exact hk
  |succ k=>exact hst.le.L2 (k+1) v hk
 ·cases k with
  |zero=>rfl
  |succ k=>exact hst.le.b2 (k+1) v a b hk
 ·cases k with
  |zero=>rfl
  |succ k=>exact hst.le.c2 (k+1) v a b hk
end
end Go.SS
