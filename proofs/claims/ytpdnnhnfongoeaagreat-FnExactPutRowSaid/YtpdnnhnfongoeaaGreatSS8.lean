/- A part of the proof. -/
import Derived.Test.YtpdnnhnfongoeaaGreatSS2
import Derived.Lib.AppendZeros
namespace Go.SS
open Go.RowKit
section
variable {c:Ctx} {E:Env} {H:X9} {w w':World} {P:Program}
def Inv.writeO(h:Inv c E H w){k:Nat}{O:Ob}(g:Y4 H k=some O)(l:w'.os=w.os)(t:w'.tape=w.tape)(hp:w'.output=w.output)(q:w.heap.size<=w'.heap.size)
  (j:∀b,b<w.heap.size->¬A3 E k O b->w'.heap[b]? =w.heap[b]?) (ob:Ob) (x:∀b,A3 E k ob b->A3 E k O b) (r:∀v,E.L2 k v->∃v0 ty sz n row,ob= .fam v0 ty sz n row/\v<=v0) (W:Step E w E w'->zZ E w' k ob):
  Inv c E (H.set k (some ob)) w'/\Step E w E w':=by
 obtain⟨L,A,z⟩:=h.heap.live k O g;have hklt:=G1 g;have d:Step E w E w':=⟨Env.le.refl E,λb B=>j b (h.nlt b B) (λe=>z b e B),λ_ h=>.inl h⟩
 refine⟨h.to l t hp q d k (λm=>m=k) (λ_ h=>h) (λi o hi f=>?_) (λo hi=>?_) (λb B N=>j b B (N k O rfl g)) (λi hi=>by rw[zW];exact h.heap.lt i hi) h.heap.l2 (λo i v hi hv=>?_),d⟩
 ·rw[U2 hklt,if_neg f] at hi;exact⟨hi,f⟩
 ·rw[U2 hklt,if_pos rfl] at hi;simp only[X0] at hi;subst hi;exact⟨L,W d,λb B=>.inr ⟨k,O,rfl,g,x b B⟩⟩
 ·rw[U2 hklt] at hi;split at hi
  ·rename_i u;subst u;simp only[X0] at hi;subst hi;exact r v hv
  ·exact h.heap.cur i o v hi hv
def Inv.noL2(h:Inv c E H w){k:Nat}{ob:Ob}(d:Y4 H k=some ob)(hi:ob.isArr=true)(v:Nat):¬E.L2 k v:=λhv=>by
 obtain⟨V,ty,sz,n,row,rfl,_⟩:=h.heap.cur k ob v d hv;cases hi
def Inv.write(h:Inv c E H w){k:Nat}{o:Ob}(x:Y4 H k=some o)(r:o.isArr=true)(O:w'.os=w.os)(C:w'.tape=w.tape)(hp:w'.output=w.output)(I:w.heap.size<=w'.heap.size)
  (W:∀b,b<w.heap.size->b≠E.β k->w'.heap[b]? =w.heap[b]?) (J:E.κ k≠0) (ob:Ob) (cs:Array Value) (ty:TypeId) (g:w'.heap[E.β k]? =some (.cells cs ty (0,0)))
  (Z:ob.toArr.sz=(E.z k).1) (l:Siz cs (E.κ k*(E.z k).1) (E.z k).2) (N:ob.toArr.n<=E.κ k)
  (F:∀i,i<ob.toArr.n->(ob.toArr.row i).length=ob.toArr.sz) (f:∀i t,i<ob.toArr.n->t ∈ ob.toArr.row i->H7 t=true) (L:ob.toArr.cl=true->∀i t,i<ob.toArr.n->t ∈ ob.toArr.row i->W5 t=true)
  (R:∀i j t,i<ob.toArr.n->(ob.toArr.row i)[j]? =some t->∃u,cs[i*ob.toArr.sz+j]? =some u/\Rd E w t u) (A:ob.isArr=true:=by rfl):
  Inv c E (H.set k (some ob)) w'/\Step E w E w':=by
 refine h.writeO x O C hp I (λb B N=>W b B λe=>N (.inl ⟨J,e⟩)) ob (λb B=>.inl (B.arr A)) (λv hv=>absurd hv (h.noL2 x r v)) λd=>T5.ob ⟨Z.symm,N,F,f,L,cs,ty,λ_=>g,by rw[Z];exact l,λi j t hi M=>?_⟩ A
 obtain⟨u,U,q⟩:=R i j t hi M;exact⟨u,U,d.rd q⟩
def a3Q(n:Int):(Instr.keyThatStays (.int .i64 n) (.int .i64 n)).run P w= .ok (.int .i64 n) w:=by
 unfold Instr.keyThatStays;rw[if_pos (by unfold Instr.sameBits;simp)]
 rfl
def c0f(h:Inv c E H w){t:TypeId}{m k x:T}{Z R X:Value}{H':X9}(he:a1n P H t m k x=some H')(O:Rd E w m Z)(hk:Rd E w k R)(W:Rd E w x X):
  ∃w',(Instr.mapUpdate t Z R X).run P w= .ok () w'/\Inv c E H' w'/\Step E w E w':=by
 unfold a1n at he;split at he
 ·rename_i j n;split at he
  ·rename_i bo get hob;split at he
   ·rename_i v B hv;simp only[X0] at he;subst he;rw[H9 hk];obtain⟨kt,et,U,u,A⟩:=b0z (w:=w) B;clear A;obtain⟨hL,⟨Y,es,f,g,hi,hg⟩,hN⟩:=h.heap.live j _ hob;have V:X=a1d bo v:=by
     unfold c9a at hv;split at hv
     ·cases bo
      ·simp only[X0] at hv;subst hv;exact H9 W
      ·cases hv
     ·cases bo
      ·cases hv
      ·rename_i b;simp only[X0] at hv;subst hv;rw[r5 W];cases b<;>rfl
     ·cases hv
    have r:=nH (w:=w) u false 9999 n;cases O with
    |mpr _ _=>
     have F:∀(d:Array MapEntry) (C:Nat),c7s bo (λi=>cond (decide (i=n)) v (get i)) d.toList->
       Inv c E (H.set j (some (.mp bo λi=>cond (decide (i=n)) v (get i)))) {w with heap:=w.heap.setIfInBounds (E.β j) (.map d C)}/\Step E w E {w with heap:=w.heap.setIfInBounds (E.β j) (.map d C)}:=by
      intro d C hI;have z:E.β j<w.heap.size:=(aC.1 g).1
      have ho:∀b,b≠E.β j->(w.heap.setIfInBounds (E.β j) (.map d C))[b]? =w.heap[b]? :=λb hne=>by rw[Array.getElem?_setIfInBounds,if_neg (Ne.symm hne)]
      have o:(w.heap.setIfInBounds (E.β j) (.map d C))[E.β j]? =some (.map d C):=by rw[Array.getElem?_setIfInBounds,if_pos rfl,if_pos z]
      exact h.writeO (w':={w with heap:=w.heap.setIfInBounds (E.β j) (.map d C)}) hob rfl rfl rfl W7 (λb _ hne=>ho b λe=>hne (.inl ⟨Y,e⟩)) (.mp bo λi=>cond (decide (i=n)) v (get i)) (λb B=>by
       rcases B with B|B
       ·exact .inl B
       ·exact(B.not (by rintro v ty sz n row he;cases he)).elim) (λv hv=>by
       obtain⟨v0,ty,sz,n,row,he,_⟩:=h.heap.cur j _ v hob hv;cases he) λ_=>(⟨Y,d,C,o,hI⟩:b1k E _ j bo _)
     have I:∀(l:List MapEntry),(∀e ∈ l,∃m,e.key= .int .i64 m)->(∀N,lk N l=if N=n then some X else lk N es.toList)->c7s bo (λi=>cond (decide (i=n)) v (get i)) l:=by
      intro l h1 h2;refine⟨h1,λN=>?_⟩
      rw[h2 N];by_cases o:N=n
      ·rw[if_pos o];simp[o,V]
      ·rw[if_neg o];have:=hg N;simp only[o,decide_false,cond_false];exact this
     cases M:lk n es.toList with
     |none=>
      have L:=MapKept.run_findKey (w:=w) u (mT es.toList 0 hi M);refine⟨_,?_,F (es.push {key:=.int .i64 n,val:=X,born:=f}) (f+1) (I _ (λe he=>?_) λN=>?_)⟩
      ·simp only[Instr.mapUpdate,D1,run_underlying U,D6,MapKept.run_getObj_map g,r,L];exact MapKept.run_setObj_map _ g
      ·simp only[Array.toList_push,List.mem_append,List.mem_singleton] at he;rcases he with he|rfl
       ·exact hi e he
       ·exact⟨n,rfl⟩
      ·have key:∀l:List MapEntry,(∀e ∈ l,∃m,e.key= .int .i64 m)->lk n l=none->lk N (l++[{key:=.int .i64 n,val:=X,born:=f}])=if N=n then some X else lk N l:=by
        intro l;induction l with
        |nil=>intro _ _;simp[lk]
        |cons e l ih=>
         intro hi o;obtain⟨m,O⟩:=hi e W7
         simp only[List.cons_append,lk,O] at o ⊢;split at o
         ·cases o
         ·rename_i hne;split
          ·rename_i he;subst he;rw[if_neg (Ne.symm hne)]
          ·exact ih (λe he=>hi e (by simp[he])) o
       rw[Array.toList_push];exact key es.toList hi M
     |some v0=>
      obtain⟨i,e,he,J,_,Q,q⟩:=lY es.toList 0 hi M;obtain⟨g1,g2⟩:=q X;have L:=MapKept.run_findKey (w:=w) u Q;refine⟨_,?_,F (es.modify i λe=>{e with key:=.int .i64 n,val:=X}) f (I _ (λe he=>?_) λN=>?_)⟩
      ·have hei:es[i]? =some e:=by simpa using he
       simp only[Instr.mapUpdate,D1,run_underlying U,D6,MapKept.run_getObj_map g,r,L,D4,hei,h9,J,Option.getD_some,a3Q];exact MapKept.run_setObj_map _ g
      ·rw[Array.toList_modify] at he;exact g1 e he
      ·rw[Array.toList_modify];exact g2 N
   ·cases he
  ·cases he
 ·cases he
def b4F(h:Inv c E H w){t:TypeId}{m k x:T}{mv Z xv:Value}{H':X9}{side:Option Prop}(he:mB P H t m k x=some (H',side))(hs:side.getD True)(hm:Rd E w m mv)(hk:Rd E w k Z)(hx:Rd E w x xv):
  ∃w',(Instr.mapUpdate t mv Z xv).run P w= .ok () w'/\Inv c E H' w'/\Step E w E w':=by
 unfold mB at he;split at he
 ·rename_i j a b v;split at he
  ·rename_i get hob;split at he
   ·rename_i B;simp only[X0,U4] at he;obtain⟨rfl,rfl⟩:=he;obtain⟨Q,R⟩:=hs;obtain⟨kt,et,hu,K,hp,F,_⟩:=a9J (w:=w) B;obtain⟨hL,⟨hκ,es,clock,f,hent,X,hnd⟩,hN⟩:=h.heap.live j _ hob;obtain⟨l,M⟩:=mZ hp F Q R;have Y:Z=m8 a b:=by
     cases hk with
     |agg _ vs N ht=>
      obtain⟨V,I,rfl⟩:∃V I,vs= #[V,I]:=by
       match vs,N with
       |⟨[V,I]⟩,_=>exact⟨V,I,rfl⟩
      rw[H9 (ht 0 _ V rfl rfl),H9 (ht 1 _ I rfl rfl)];rfl
    subst Y;rw[r5 hx];have L:∀e ∈ es.toList,∃l,keyOf P kt e.key=some l:=λe he=>by
     obtain⟨A,u,r1,r2,g,_⟩:=hent e he;rw[g];exact mZ hp F r1 r2
    cases hm with
    |mpr _ _=>
     have fin:∀(d:Array MapEntry) (C:Nat),(∀e ∈ d.toList,∃a1 b1,R2 .i64 a1/\R2 .i64 b1/\e.key=m8 a1 b1/\e.val= .bool (cond (decide (a1=a/\b1=b)) v (get a1 b1)))->
       (∀a1 b1,cond (decide (a1=a/\b1=b)) v (get a1 b1)=true->∃e ∈ d.toList,e.key=m8 a1 b1)->(d.toList.map (·.key)).Nodup->
       Inv c E (H.set j (some (.mp2 λA u=>cond (decide (A=a/\u=b)) v (get A u)))) {w with heap:=w.heap.setIfInBounds (E.β j) (.map d C)}/\Step E w E {w with heap:=w.heap.setIfInBounds (E.β j) (.map d C)}:=by
      intro d C g1 g2 g3;have r:E.β j<w.heap.size:=(aC.1 f).1
      have ho:∀b,b≠E.β j->(w.heap.setIfInBounds (E.β j) (.map d C))[b]? =w.heap[b]? :=λb q=>by rw[Array.getElem?_setIfInBounds,if_neg (Ne.symm q)]
      have hn:(w.heap.setIfInBounds (E.β j) (.map d C))[E.β j]? =some (.map d C):=by rw[Array.getElem?_setIfInBounds,if_pos rfl,if_pos r]
      exact h.writeO (w':={w with heap:=w.heap.setIfInBounds (E.β j) (.map d C)}) hob rfl rfl rfl W7 (λb _ q=>ho b λe=>q (.inl ⟨hκ,e⟩)) (.mp2 λA u=>cond (decide (A=a/\u=b)) v (get A u)) (λb B=>by
       rcases B with B|B
       ·exact .inl B
       ·exact(B.not (by rintro v ty sz n row he;cases he)).elim) (λv hv=>by
       obtain⟨V,ty,sz,n,row,he,_⟩:=h.heap.cur j _ v hob hv;cases he) λ_=>(⟨hκ,d,C,hn,g1,g2,g3⟩:a1y E _ j _)
     rcases K.find w M es.toList L with⟨U,h2⟩|⟨i,e,U,h2,h3⟩
     ·refine⟨_,?_,fin (es.push {key:=m8 a b,val:=.bool v,born:=clock}) (clock+1) (λe he=>?_) (λa1 b1 hg=>?_) ?_⟩
      ·simp only[Instr.mapUpdate,D1,run_underlying hu,D6,MapKept.run_getObj_map f,K.check w _ M,U];exact MapKept.run_setObj_map _ f
      ·simp only[Array.toList_push,List.mem_append,List.mem_singleton] at he;rcases he with he|rfl
       ·obtain⟨a1,b1,r1,r2,r3,r4⟩:=hent e he;refine⟨a1,b1,r1,r2,r3,?_⟩
        rw[tQ (λJ=>h2 e he (by rw[r3,J.1,J.2]))]
        exact r4
       ·exact⟨a,b,Q,R,rfl,W7⟩
      ·simp only[Array.toList_push,List.mem_append,List.mem_singleton];by_cases hab:a1=a/\b1=b
       ·exact⟨_,.inr rfl,by rw[hab.1,hab.2]⟩
       ·rw[tQ hab] at hg;obtain⟨e,he,g⟩:=X a1 b1 hg;exact⟨e,.inl he,g⟩
      ·rw[Array.toList_push,List.map_append,List.nodup_append];refine⟨hnd,W7,λy hy z hz=>?_⟩
       obtain⟨e,he,rfl⟩:=List.mem_map.1 hy;simp only[List.map_cons,List.map_nil,List.mem_singleton] at hz;rw[hz];exact h2 e he
     ·have hei:es[i]? =some e:=by simpa using h2
      have hmod:∀p,(es.toList.modify i λe=>{e with key:=m8 a b,val:=Value.bool v})[p]? =if i=p then some {e with key:=m8 a b,val:=.bool v} else es.toList[p]? :=λp=>by
       rw[List.getElem?_modify]
       by_cases hip:i=p
       ·subst hip;rw[h2];simp
       ·simp[hip]
      have o:(es.toList.modify i λe=>{e with key:=m8 a b,val:=Value.bool v}).map (·.key)=es.toList.map (·.key):=by
       refine List.ext_getElem? λp=>?_
       rw[oE,oE,hmod]
       by_cases hip:i=p
       ·subst hip;rw[if_pos rfl,h2];simp[h3]
       ·rw[if_neg hip]
      refine⟨_,?_,fin (es.modify i λe=>{e with key:=m8 a b,val:=.bool v}) clock (λe' he'=>?_) (λa1 b1 hg=>?_) (by rw[Array.toList_modify,o];exact hnd)⟩
      ·simp only[Instr.mapUpdate,D1,run_underlying hu,D6,MapKept.run_getObj_map f,K.check w _ M,U,hei,h9,h3,Option.getD_some,K.stays w M];exact MapKept.run_setObj_map _ f
      ·rw[Array.toList_modify] at he';obtain⟨p,hp'⟩:=List.mem_iff_getElem?.1 he';rw[hmod] at hp';by_cases hip:i=p
       ·rw[if_pos hip] at hp';simp only[X0] at hp';subst hp';exact⟨a,b,Q,R,rfl,W7⟩
       ·rw[if_neg hip] at hp';obtain⟨a1,b1,r1,r2,r3,r4⟩:=hent e' (y4 hp');refine⟨a1,b1,r1,r2,r3,?_⟩
        rw[tQ (λJ=>hip ?_)]
        ·exact r4
        ·have q1:(es.toList.map (·.key))[i]? =some (m8 a b):=by rw[oE,h2];simp[h3]
         have q2:(es.toList.map (·.key))[p]? =some (m8 a b):=by rw[oE,hp'];simp[r3,J.1,J.2]
         obtain⟨l1,e1⟩:=u6.1 q1
         obtain⟨l2,e2⟩:=u6.1 q2
         have W:=List.pairwise_iff_getElem.1 hnd;rcases Nat.lt_trichotomy i p with r|heq|hgt
         ·exact absurd (e1.trans e2.symm) (W i p l1 l2 r)
         ·exact heq
         ·exact absurd (e2.trans e1.symm) (W p i l2 l1 hgt)
      ·rw[Array.toList_modify];have O:∃y ∈ es.toList.map (·.key),y=m8 a1 b1:=by
        by_cases hab:a1=a/\b1=b
        ·exact⟨_,List.mem_map.2 ⟨e,y4 h2,rfl⟩,by rw[h3,hab.1,hab.2]⟩
        ·rw[tQ hab] at hg;obtain⟨e',he',g⟩:=X a1 b1 hg;exact⟨_,List.mem_map.2 ⟨e',he',rfl⟩,g⟩
       obtain⟨y,hy,rfl⟩:=O;rw[←o] at hy;obtain⟨e',he',g⟩:=List.mem_map.1 hy;exact⟨e',he',g⟩
   ·cases he
  ·cases he
 ·cases he
def Inv.drop(h:Inv c E H w)(k:Nat):Inv c E (H.set k none) w:=by
 have key:∀i o,Y4 (H.set k none) i=some o->Y4 H i=some o/\i≠k:=by
  intro i o hi;by_cases hk:k<H.length
  ·rw[U2 hk] at hi;split at hi
   ·cases hi
   ·rename_i d;exact⟨hi,d⟩
  ·rw[List.set_eq_of_length_le Z9] at hi
   exact⟨hi,λe=>by have:=G1 hi;omega⟩
 exact⟨⟨λi ob hi=>h.heap.live i ob (key i ob hi).1,λi I o o' b hi f=>h.heap.inj i I o o' b (key i o hi).1 (key I o' f).1,λi hi=>by rw[zW];exact h.heap.lt i hi,h.heap.l2,λi ob v hi=>h.heap.cur i ob v (key i ob hi).1⟩,
  h.nlt,h.nnew,λi ob b hi=>h.bnew i ob b (key i ob hi).1,h.fr,h.keep⟩
def iN{x:T}{v:Value}(X:Rd E w x v)(h:H7 x=true):v.oneCell'=true:=by
 cases X with
 |v=>cases v<;>first|rfl|(simp[H7] at h)
 |agg=>simp[H7] at h
 |tup=>simp[H7] at h
 |und=>simp[H7] at h
 |_=>rfl
def u3(P:Program)(w:World)(b o:Nat)(ty:TypeId)(cs:Array Value)(n:List Value)(B:w.heap[b]? =some (.cells cs ty (0,0)))(h:o+n.length<=cs.size)(e:∀v ∈ n,v.oneCell'=true):
  ∃w',(storeCells ⟨b,o,none⟩ n).run P w= .ok () w'/\w'.os=w.os/\w'.tape=w.tape/\w'.output=w.output/\w'.heap.size=w.heap.size/\(∀k,k≠b->w'.heap[k]? =w.heap[k]?)/\
   ∃cs',w'.heap[b]? =some (.cells cs' ty (0,0))/\cs'.size=cs.size/\(∀i,i<o∨o+n.length<=i->cs'[i]? =cs[i]?)/\∀i,i<n.length->cs'[o+i]? =n[i]? :=by
 have t:=run_storeCells_at P b o ty n 0 cs w B x5 e
 refine⟨_,t,rfl,rfl,rfl,by simp[World.setRow],λk d=>setRow_other w b k _ d,_,setRow_heap w b cs _ ty _ B,?_,λi hi=>?_,λi hi=>?_⟩
 ·simp;omega
 ·simp only[Nat.add_zero,List.getElem?_toArray,List.getElem?_append,F9,List.length_take,Array.length_toList,List.getElem?_take,List.getElem?_drop]
  rw[Nat.min_eq_left Z9]
  rcases hi with hi|hi
  ·rw[if_pos Z9,if_pos hi,if_pos hi]
   simp
  ·rw[if_neg Z9]
   simp only[Array.getElem?_toList]
   congr 1
   omega
 ·simp only[Nat.add_zero,List.getElem?_toArray,List.getElem?_append,F9,List.length_take,Array.length_toList,List.getElem?_take,List.getElem?_drop]
  rw[Nat.min_eq_left Z9]
  rw[if_pos Z9,if_neg Z9]
  congr 1
  omega
def a6k{i r sz j m J:Nat}(R:r≠i)(e:j+m<=sz)(d:J<sz):r*sz+J<i*sz+j∨i*sz+j+m<=r*sz+J:=by
 rcases Nat.lt_or_gt_of_ne R with h|h
 ·left
  have:(r+1)*sz<=i*sz:=kJ _ h;rw[Nat.add_mul] at this;omega
 ·right
  have:(i+1)*sz<=r*sz:=kJ _ h;rw[Nat.add_mul] at this;omega
def a4U{i n sz j m κ:Nat}(hi:i<n)(N:n<=κ)(h:j+m<=sz):i*sz+j+m<=κ*sz:=by
 have:(i+1)*sz<=κ*sz:=kJ _ Z9
 rw[Nat.add_mul] at this;omega
def a2t{m:Int}(h:R2 .u8 m):((R1 m).toNat:Int)=m:=by
 obtain⟨d,g⟩:=h;have f:0<=m:=d;have e:m<=255:=g;unfold R1;rw[UInt8.toNat_ofNat'];omega
def c7E(b:Bool)(x y:T):mrg b x y=match b with|true=>x|false=>y:=by
 unfold mrg;split
 ·split
  ·rename_i h;obtain rfl:=G7 h;cases b<;>rfl
  ·cases b<;>rfl
 ·cases b<;>rfl
 ·cases b<;>rfl
 ·split
  ·rename_i d e;obtain rfl:=G7 d;obtain rfl:=G7 e;cases b<;>rfl
  ·cases b<;>rfl
 ·cases b<;>rfl
def c1d(b:Bool):∀(xs os:List T),xs.length<=os.length->b85 b xs os=match b with|true=>xs++os.drop xs.length|false=>os:=by
 intro xs;induction xs with
 |nil=>intro os _;cases b<;>cases os<;>simp[b85]
 |cons x xs i=>
  intro os h;cases os with
  |nil=>simp at h
  |cons o os=>
   simp only[b85,c7E,i os x5]
   cases b<;>simp
def c2B(b:Bool):∀(j:Nat) (xs os:List T),j+xs.length<=os.length->b5q b j xs os=match b with|true=>os.take j++xs++os.drop (j+xs.length)|false=>os:=by
 intro j;induction j with
 |zero=>intro xs os h;simp only[b5q,c1d b xs os Z9];cases b<;>simp
 |succ j i=>
  intro xs os h;cases os with
  |nil=>simp at h
  |cons o os=>
   simp only[b5q,i xs os (by simp at h;omega)]
   cases b
   ·rfl
   ·simp only[List.take_succ_cons,List.cons_append];rw[show j+1+xs.length=(j+xs.length)+1 by omega,List.drop_succ_cons]
def g9{row:Nat->List T}{i j k:Nat}{cs:List T}(h:j+cs.length<=(row k).length):setRow row i j cs k=match Nat.beq k i with|true=>(row k).take j++cs++(row k).drop (j+cs.length)|false=>row k:=by
 unfold setRow;rw[c2B _ _ _ _ h]
def vB{k:Nat}{A:Arr}(hA:T5 E w k A){i j:Nat}(hi:i<A.n){xs:List T}{vs:List Value}(O:j+xs.length<=A.sz)(o:∀t ∈ xs,H7 t=true)(hlen:vs.length=xs.length)
  (M:∀(m:Nat) (t:T) (v:Value),xs[m]? =some t->vs[m]? =some v->Rd E w t v):
  ∃w',(storeCells ⟨E.β k,i*(E.z k).1+j,none⟩ vs).run P w= .ok () w'/\w'.os=w.os/\w'.tape=w.tape/\w'.output=w.output/\w'.heap.size=w.heap.size/\(∀b,b≠E.β k->w'.heap[b]? =w.heap[b]?)/\
   ∃cs ty,w'.heap[E.β k]? =some (.cells cs ty (0,0))/\Siz cs (E.κ k*A.sz) (E.z k).2/\(∀r,r<A.n->(setRow A.row i j xs r).length=A.sz)/\(∀r t,r<A.n->t ∈ setRow A.row i j xs r->H7 t=true)/\
    (A.cl=true->(∀t ∈ xs,W5 t=true)->∀r t,r<A.n->t ∈ setRow A.row i j xs r->W5 t=true)/\
    ∀r q t,r<A.n->(setRow A.row i j xs r)[q]? =some t->∃u,cs[r*A.sz+q]? =some u/\Rd E w t u/\((r=i/\j<=q/\q<j+xs.length/\xs[q-j]? =some t)∨(¬ (r=i/\j<=q/\q<j+xs.length)/\(A.row r)[q]? =some t)):=by
 obtain⟨Z,hn,hl,d,L,cs,C,Q,J,R⟩:=hA;have Q:=Q Z9
 have hsr:∀r,r<A.n->setRow A.row i j xs r=match Nat.beq r i with|true=>(A.row r).take j++xs++(A.row r).drop (j+xs.length)|false=>A.row r:=λr R=>g9 (by rw[hl r R];exact O)
 have B:∀v ∈ vs,v.oneCell'=true:=by
  intro v hv;obtain⟨m,hm,rfl⟩:=List.mem_iff_getElem.1 hv;have h1:m<xs.length:=Z9
  exact iN (M m _ _ (I1 h1) (I1 hm)) (o _ (List.getElem_mem h1))
 obtain⟨w',V,ho,ht,hp,x,I,X,Y,N,e,W⟩:=u3 P w (E.β k) (i*(E.z k).1+j) C cs vs Q (Nat.le_trans (by rw[hlen,Z];exact a4U hi hn O) J.le) B
 refine⟨w',V,ho,ht,hp,x,I,X,C,Y,J.keep N λq hq=>e q (.inr (by rw[hlen,Z];exact Nat.le_trans (a4U hi hn O) hq)),λr hr'=>?_,λr t hr' ht=>?_,λg aa r t hr' ht=>?_,λr j' t hr' hj'=>?_⟩
 ·rw[hsr r hr'];split
  ·rename_i hbeq;obtain rfl:=F5 hbeq;simp only[F9,List.length_take,List.length_drop,hl r hi];omega
  ·exact hl r hr'
 ·rw[hsr r hr'] at ht;split at ht
  ·rename_i hbeq;obtain rfl:=F5 hbeq;simp only[List.mem_append] at ht;rcases ht with(ht|ht)|ht
   ·exact d r t hi (List.mem_of_mem_take ht)
   ·exact o t ht
   ·exact d r t hi (List.mem_of_mem_drop ht)
  ·exact d r t hr' ht
 ·rw[hsr r hr'] at ht;split at ht
  ·rename_i hbeq;obtain rfl:=F5 hbeq;simp only[List.mem_append] at ht;rcases ht with(ht|ht)|ht
   ·exact L g r t hi (List.mem_of_mem_take ht)
   ·exact aa t ht
   ·exact L g r t hi (List.mem_of_mem_drop ht)
  ·exact L g r t hr' ht
 ·rw[hsr r hr'] at hj';split at hj'
  ·rename_i hbeq;obtain rfl:=F5 hbeq;have hrl:=hl r hi;simp only[List.getElem?_append,F9,List.length_take,List.getElem?_take,List.getElem?_drop] at hj'
   rw[Nat.min_eq_left Z9] at hj'
   by_cases h1:j'<j+xs.length
   ·rw[if_pos h1] at hj';by_cases h2:j'<j
    ·rw[if_pos h2,if_pos h2] at hj';obtain⟨u,U,l⟩:=R r j' t hi hj';exact⟨u,by rw[e _ (.inl (by rw[Z];omega))];exact U,l,.inr ⟨Z9,hj'⟩⟩
    ·rw[if_neg h2] at hj';have h3:j'-j<vs.length:=by rw[hlen];omega
     have h4:=W (j'-j) h3;rw[I1 h3] at h4
     exact⟨_,by rw[←Z,show r*(E.z k).1+j'=r*(E.z k).1+j+(j'-j) by omega];exact h4,M _ _ _ hj' (I1 h3),.inl ⟨rfl,Z9,h1,hj'⟩⟩
   ·rw[if_neg h1] at hj';have f:(A.row r)[j']? =some t:=by
     rw[←hj'];congr 1
     omega
    obtain⟨u,U,l⟩:=R r j' t hi f;exact⟨u,by rw[e _ (.inr (by rw[hlen,Z];omega))];exact U,l,.inr ⟨Z9,f⟩⟩
  ·rename_i hbeq;have F:r≠i:=Nat.ne_of_beq_eq_false hbeq;obtain⟨u,U,l⟩:=R r j' t hr' hj';have f:j'<A.sz:=by
    have:=(u6.1 hj').1
    rw[hl r hr'] at this;exact this
   exact⟨u,by rw[e _ (by rw[hlen,Z];exact a6k F O f)];exact U,l,.inr ⟨λh=>F h.1,hj'⟩⟩
def rV(k v i j:Nat):T->T
 | .own _ _ n _=>.posl k v i j n
 |t=>t
def b4X(k v i:Nat):∀(l:List T) (j q:Nat),(aE k v i j l)[q]? =(l[q]?).map (rV k v i (j+q)):=by
 intro l;induction l with
 |nil=>intro j q;simp[aE]
 |cons t l h=>
  intro j q;cases q with
  |zero=>cases t<;>rfl
  |succ q=>
   have:=h (j+1) q;rw[show j+1+q=j+(q+1) by omega] at this
   cases t<;>exact this
def I5(k v i q:Nat)(row:Nat->List T):(wH k v row i)[q]? =((row i)[q]?).map (rV k v i q):=by
 unfold wH;rw[b4X,D4]
def O5(k v i:Nat)(row:Nat->List T):(wH k v row i).length=(row i).length:=by
 unfold wH;generalize row i=l;generalize 0=j;induction l generalizing j with
 |nil=>rfl
 |cons t l h=>cases t<;>simp[aE,h]
def K4{t:T}(h:closedOne t=true):W5 t=true/\H7 t=true:=by simpa[closedOne] using h
def eQ{t:T}(h:b6s t=true):(∃ty sz n row,t= .own ty sz n row)∨(closedOne t=true/\a9E t=false):=by
 cases t<;>simp_all [b6s,a9E]
def M1{k v i j:Nat}{t:T}(h:closedOne t=true):rV k v i j t=t:=by
 cases t<;>first|rfl|(simp[closedOne,W5] at h)
def i7{k v:Nat}{ty:TypeId}{sz n:Nat}{row:Nat->List T}(f:E.L2 k v)(Z:(E.z k).1=sz)(N:n<=E.κ k)(cs:Array Value)(B:TypeId)(d:E.κ k≠0->w.heap[E.β k]? =some (.cells cs B (0,0)))
  (e:Siz cs (E.κ k*sz) (E.z k).2) (l:∀r,r<n->(row r).length=sz)
  (hcell:∀r q t,r<n->(row r)[q]? =some t->∃u,cs[r*sz+q]? =some u/\((closedOne t=true/\Rd E w t u)∨∃oty osz on orow,t= .own oty osz on orow/\Rd E w (.posl k v r q on) u/\T5 (E.sub k v r q osz) w 0 ⟨true,oty,osz,on,orow⟩/\(E.c2 k v r q≠0->E.κ k≠0->E.b2 k v r q≠E.β k)))
  (J:∀i j i' j' oty osz on orow oty' osz' on' orow',i<n->i'<n->(row i)[j]? =some (.own oty osz on orow)->(row i')[j']? =some (.own oty' osz' on' orow')->E.c2 k v i j≠0->E.c2 k v i' j'≠0->E.b2 k v i j=E.b2 k v i' j'->i=i'/\j=j'):
  FamOk E w k v ty sz n row:=by
 have M:∀i t,i<n->t ∈ row i->b6s t=true:=λi t hi ht=>by
  obtain⟨q,hq⟩:=List.getElem?_of_mem ht
  obtain⟨u,_,h|⟨oty,osz,on,orow,rfl,_⟩⟩:=hcell i q t hi hq
  ·simp[b6s,h.1]
  ·rfl
 refine⟨f,⟨Z,N,λi hi=>?_,λi t hi ht=>?_,λh=>F3,cs,B,d,e,λi j t hi hj=>?_⟩,M,λi j oty osz on orow hi hj=>?_,J⟩
 ·simp only[O5];exact l i hi
 ·obtain⟨q,hq⟩:=List.getElem?_of_mem ht
  simp only at hq;rw[I5,F1] at hq;obtain⟨t0,h0,rfl⟩:=hq;rcases eQ (M i t0 hi (y4 h0)) with⟨_,_,_,_,rfl⟩|⟨h1,_⟩
  ·rfl
  ·rw[M1 h1];exact(K4 h1).2
 ·simp only at hj;rw[I5,F1] at hj;obtain⟨t0,h0,rfl⟩:=hj;obtain⟨u,hu,h|⟨oty,osz,on,orow,rfl,h1,_⟩⟩:=hcell i j t0 hi h0
  ·exact⟨u,hu,by rw[M1 h.1];exact h.2⟩
  ·exact⟨u,hu,h1⟩
 ·obtain⟨u,hu,h|⟨oty',osz',on',orow',he,_,h2,h3⟩⟩:=hcell i j _ hi hj
  ·simp[closedOne,W5] at h
  ·cases he;exact⟨h2,h3⟩
def FamOk.cell{k v:Nat}{ty:TypeId}{sz n:Nat}{row:Nat->List T}(h:FamOk E w k v ty sz n row){i j:Nat}{t:T}(hi:i<n)(J:(row i)[j]? =some t):
  (closedOne t=true)∨∃oty osz on orow,t= .own oty osz on orow:=by
 rcases eQ (h.fam i t hi (y4 J)) with⟨a,b,c,d,rfl⟩|⟨e,_⟩
 ·exact .inr ⟨a,b,c,d,rfl⟩
 ·exact .inl e
abbrev c6k:=Nat->Nat->(Nat×Nat) ⊕ Nat
def pX(E:Env)(k v:Nat):(Nat×Nat) ⊕ Nat->Nat
 | .inl p=>E.b2 k v p.1 p.2
 | .inr m=>E.β m
def jP(E:Env)(k v:Nat):(Nat×Nat) ⊕ Nat->Nat
 | .inl p=>E.c2 k v p.1 p.2
 | .inr m=>E.κ m
def a9V(E:Env)(w:World)(H:X9)(k v n:Nat)(P1:Nat->List T)(z on:Nat)(o:Nat->List T)(u:Value):(Nat×Nat) ⊕ Nat->Prop
 | .inl p=>p.1<n/\(∃oty,(P1 p.1)[p.2]? =some (.own oty z on o))/\Rd E w (.posl k v p.1 p.2 on) u
 | .inr m=>m≠k/\(∃oty N,Y4 H m=some (.arr true oty z N o)/\on<=N)/\Rd E w (.osl m 0 on) u
def a3q{E':Env}(W:HeapOk E w H)(C:Step E w E' w'){k v:Nat}{d:TypeId}{e B:Nat}{P1:Nat->List T}(hk:Y4 H k=some (.fam v d e B P1)){K V:Nat}{ty:TypeId}{sz n:Nat}{row:Nat->List T}(S:c6k)
  (Q:E'.L2 K V) (hb2:∀r q,E'.b2 K V r q=pX E k v (S r q)) (hc2:∀r q,E'.c2 K V r q=jP E k v (S r q))
  (hz:(E'.z K).1=sz) (Y:n<=E'.κ K) (cs:Array Value) (U:TypeId) (X:E'.κ K≠0->w'.heap[E'.β K]? =some (.cells cs U (0,0))) (aa:Siz cs (E'.κ K*sz) (E'.z K).2) (hl:∀r,r<n->(row r).length=sz)
  (hcell:∀r q t,r<n->(row r)[q]? =some t->∃u,cs[r*sz+q]? =some u/\((closedOne t=true/\Rd E w t u)∨∃oty osz on orow,t= .own oty osz on orow/\a9V E w H k v B P1 osz on orow u (S r q)))
  (hS:∀i j i' j' oty osz on orow oty' osz' on' orow',i<n->i'<n->(row i)[j]? =some (.own oty osz on orow)->(row i')[j']? =some (.own oty' osz' on' orow')->S i j=S i' j'->i=i'/\j=j')
  (hkeep:∀b,((∃r q,b=E.b2 k v r q/\E.c2 k v r q≠0/\a8T E k (.fam v d e B P1) b)∨∃m o,m≠k/\Y4 H m=some o/\A3 E m o b)->w'.heap[b]? =w.heap[b]?)
  (hap:∀b,((∃r q,b=E.b2 k v r q/\E.c2 k v r q≠0/\a8T E k (.fam v d e B P1) b)∨∃m o,m≠k/\Y4 H m=some o/\A3 E m o b)->E'.κ K≠0->b≠E'.β K):
  FamOk E' w' K V ty sz n row:=by
 obtain⟨hL,hF,_⟩:=W.live k _ hk;have hF:FamOk E w k v d e B P1:=hF;have src:∀{osz on:Nat} {orow:Nat->List T} {u:Value} {x:(Nat×Nat) ⊕ Nat},a9V E w H k v B P1 osz on orow u x->jP E k v x≠0->(∃r q,pX E k v x=E.b2 k v r q/\E.c2 k v r q≠0/\a8T E k (.fam v d e B P1) (pX E k v x))∨∃m o,m≠k/\Y4 H m=some o/\A3 E m o (pX E k v x):=by
  intro osz on orow u x hx hc;cases x with
  |inl p=>
   obtain⟨F,⟨oty,g⟩,_⟩:=hx;exact .inl ⟨p.1,p.2,rfl,hc,v,d,e,B,P1,p.1,p.2,oty,osz,on,orow,rfl,F,g,hc,rfl⟩
  |inr m=>
   obtain⟨F,⟨oty,N,g,_⟩,_⟩:=hx;exact .inr ⟨m,_,F,g,.inl ⟨hc,rfl⟩⟩
 refine i7 Q hz Y cs U X aa hl (λr q t hr hq=>?_) (λi j i' j' oty osz on orow oty' osz' on' orow' hi hi' hj hj' hc hc' he=>?_)
 ·obtain⟨u,hu,h|⟨oty,osz,on,orow,rfl,hs⟩⟩:=hcell r q t hr hq
  ·exact⟨u,hu,.inl ⟨h.1,C.rd h.2⟩⟩
  ·refine⟨u,hu,.inr ⟨oty,osz,on,orow,rfl,?_,?_,λhc hκ=>by rw[hb2];rw[hc2] at hc;exact hap _ (src hs hc) hκ⟩⟩
   ·cases hx:S r q with
    |inl p=>
     rw[hx] at hs;obtain⟨_,_,L⟩:=hs;cases L with
     |posl _ _ _ _ _ a hL Y ha=>
      have:=Rd.posl (E:=E') (w:=w') K V r q on a Q (by rw[hc2,hx];exact Y) (by rw[hc2,hb2,hx];exact ha)
      rw[hc2,hx] at this;exact this
    |inr m=>
     rw[hx] at hs;obtain⟨_,_,L⟩:=hs;cases L with
     |osl _ _ _ o a hL Y ho ha=>
      have:=Rd.posl (E:=E') (w:=w') K V r q on a Q (by rw[hc2,hx];simp only[jP];omega) (by rw[hc2,hb2,hx];intro hc;rw[ha hc,ho (.inr rfl),Nat.zero_mul];rfl)
      rw[hc2,hx] at this;exact this
   ·have hkp:jP E k v (S r q)≠0->w'.heap[pX E k v (S r q)]? =w.heap[pX E k v (S r q)]? :=λhc=>hkeep _ (src hs hc)
    cases hx:S r q with
    |inl p=>
     rw[hx] at hs hkp;obtain⟨F,⟨oty',g⟩,_⟩:=hs;have h3:=(hF.own p.1 p.2 _ _ _ _ F g).1;exact h3.closed (k':=0) (E':=E'.sub K V r q osz) rfl (λb J=>C.le.N b J) (λb J=>C.same b J) ((hb2 r q).trans (by rw[hx];rfl)) ((hc2 r q).trans (by rw[hx];rfl)) rfl hkp
    |inr m=>
     rw[hx] at hs hkp;obtain⟨F,⟨oty',N,g,R⟩,_⟩:=hs;have h3:T5 E w m ⟨true,oty',osz,N,orow⟩:=(W.live m _ g).2.1;have h5:T5 E w m ⟨true,oty,osz,on,orow⟩:=by
      obtain⟨e1,Z,e3,e4,e5,cs,ty,e6,e7,e8⟩:=h3;exact⟨e1,Nat.le_trans R Z,λi hi=>e3 i (xY hi R),λi t hi=>e4 i t (xY hi R),λhc i t hi=>e5 hc i t (xY hi R),cs,ty,e6,e7,λi j t hi=>e8 i j t (xY hi R)⟩
     exact h5.closedN (k':=0) (E':=E'.sub K V r q osz) rfl (λb J=>C.le.N b J) (λb J=>C.same b J) ((hb2 r q).trans (by rw[hx];rfl)) ((hc2 r q).trans (by rw[hx];rfl)) rfl (λ_ _ h=>h.any) hkp
 ·rw[hc2] at hc hc';rw[hb2,hb2] at he;refine hS i j i' j' oty osz on orow oty' osz' on' orow' hi hi' hj hj' ?_
  have own:∀i j oty osz on orow,i<n->(row i)[j]? =some (T.own oty osz on orow)->∃u,a9V E w H k v B P1 osz on orow u (S i j):=by
   intro i j oty osz on orow hi hj;obtain⟨u,_,h|⟨_,_,_,_,he,hs⟩⟩:=hcell i j _ hi hj
   ·simp[closedOne,W5] at h
   ·cases he;exact⟨u,hs⟩
  obtain⟨u,hs⟩:=own i j oty osz on orow hi hj;obtain⟨u',A⟩:=own i' j' oty' osz' on' orow' hi' hj';generalize S i j=x at hs hc he;generalize S i' j'=y at A hc' he;cases x with
  |inl p=>
   obtain⟨F,⟨I,g⟩,_⟩:=hs;cases y with
   |inl M=>
    obtain⟨l,⟨O,f⟩,_⟩:=A;obtain⟨e1,Z⟩:=hF.inj p.1 p.2 M.1 M.2 _ _ _ _ _ _ _ _ F l g f hc hc' he;congr 1
    exact Prod.ext e1 Z
   |inr m=>
    obtain⟨l,⟨O,N,f,_⟩,_⟩:=A;have:=W.inj k m _ _ (E.b2 k v p.1 p.2) hk f (.inr ⟨v,d,e,B,P1,p.1,p.2,I,osz,on,orow,rfl,F,g,hc,rfl⟩) (.inl ⟨hc',he⟩);exact absurd this.symm l
  |inr m=>
   obtain⟨F,⟨I,N,g,_⟩,_⟩:=hs;cases y with
   |inl M=>
    obtain⟨l,⟨O,f⟩,_⟩:=A;have:=W.inj k m _ _ (E.b2 k v M.1 M.2) hk g (.inr ⟨v,d,e,B,P1,M.1,M.2,O,osz',on',orow',rfl,l,f,hc',rfl⟩) (.inl ⟨hc,he.symm⟩);exact absurd this.symm F
   |inr m'=>
    obtain⟨l,⟨O,N',f,_⟩,_⟩:=A;have:=W.inj m m' _ _ (E.β m) g f (.inl ⟨hc,rfl⟩) (.inl ⟨hc',he⟩);rw[this]
end
section
variable {c:Ctx} {E:Env} {H:X9} {w w':World} {P:Program}
inductive AbsR(H:X9):List T->List T->List Nat->Prop
 |nil:AbsR H [] [] []
 |own (m n N:Nat) (ty:TypeId) (sz:Nat) (row:Nat->List T) (r r':List T) (ks:List Nat) (hm:Y4 H m=some (.arr true ty sz N row)) (hn:n<=N) (h:AbsR H r r' ks):AbsR H (.osl m 0 n::r) (.own ty sz n row::r') (m::ks)
 |cl (t:T) (r r':List T) (ks:List Nat) (ht:closedOne t=true) (h:AbsR H r r' ks):AbsR H (t::r) (t::r') ks
def fB:∀{cs:List T} {A:Abs},oH H cs=some A->A.side.getD True->AbsR H cs A.cs A.ks:=by
 intro cs;induction cs with
 |nil=>intro A h _;simp only[oH,X0] at h;subst h;exact .nil
 |cons t r i=>
  intro A h d;unfold oH at h;split at h
  ·rename_i he;cases he
  ·rename_i m off n r' he;simp only[List.cons.injEq] at he;obtain⟨rfl,rfl⟩:=he;split at h
   ·rename_i ty sz N row B hm hB;simp only[X0] at h;subst h;cases hBs:B.side with
    |none=>
     simp only[hBs,Option.getD_some] at d;exact .own _ _ _ _ _ _ _ _ _ hm d (i hB (by rw[hBs];trivial))
    |some p=>
     simp only[hBs,Option.getD_some] at d;exact .own _ _ _ _ _ _ _ _ _ hm d.1 (i hB (by rw[hBs];exact d.2))
   ·cases h
  ·rename_i t' r' hne he;simp only[List.cons.injEq] at he;obtain⟨rfl,rfl⟩:=he;split at h
   ·rename_i B e hB;simp only[X0] at h;subst h;exact .cl _ _ _ _ e (i hB d)
   ·cases h
def AbsR.length{cs C:List T}{ks:List Nat}(h:AbsR H cs C ks):C.length=cs.length:=by
 induction h<;>simp_all
def a9F{p:Prop}(h:p:=by rw[show((b.length:Int)-4).toNat=b.length-4 by omega]):p:=h
def uO(cs:List T)(q:Nat):Option Nat:=match cs[q]? with
 |some (.osl m _ _)=>some m
 |_=>none
def AbsR.get{cs C:List T}{ks:List Nat}(h:AbsR H cs C ks):∀{q:Nat} {f:T},C[q]? =some f->(closedOne f=true/\cs[q]? =some f)∨∃m n N ty sz row,f= .own ty sz n row/\cs[q]? =some (.osl m 0 n)/\Y4 H m=some (.arr true ty sz N row)/\n<=N/\m ∈ ks:=by
 induction h with
 |nil=>intro q f h;simp at h
 |own m n N ty sz row r R ks M j h i=>
  intro q f Q;cases q with
  |zero=>simp at Q;subst Q;exact .inr ⟨m,n,N,ty,sz,row,rfl,rfl,M,j,W7⟩
  |succ q=>
   rcases i (by simpa using Q) with h1|⟨m',n',N',ty',sz',row',a,b,c,d,e⟩
   ·exact .inl h1
   ·exact .inr ⟨m',n',N',ty',sz',row',a,b,c,d,by simp[e]⟩
 |cl t r R ks g h i=>
  intro q f Q;cases q with
  |zero=>simp at Q;subst Q;exact .inl ⟨g,rfl⟩
  |succ q=>exact i (by simpa using Q)
def a3b{p:Prop}(h:p:=by simpa[uO] using Q):p:=h
def AbsR.mem{cs C:List T}{ks:List Nat}(h:AbsR H cs C ks):∀{q m:Nat},uO cs q=some m->m ∈ ks:=by
 induction h with
 |nil=>intro q m h;simp[uO] at h
 |own m n N ty sz row r R ks f e h i=>
  intro q M Q;cases q with
  |zero=>simp[uO] at Q;subst Q;simp
  |succ q=>have:=i (q:=q) a3b;simp[this]
 |cl t r R ks d h i=>
  intro q M Q;cases q with
  |zero=>
   cases t<;>simp[uO] at Q
   simp[closedOne,W5] at d
  |succ q=>exact i (q:=q) a3b
def aO:∀{l:List Nat},kO l=true->l.Nodup:=by
 intro l;induction l with
 |nil=>intro _;exact .nil
 |cons x l i=>
  intro h;simp only[kO,J5,b9,vZ] at h;exact List.nodup_cons.2 ⟨λM=>Nat.ne_of_beq_eq_false (h.1 x M) rfl,i h.2⟩
def AbsR.inj{cs C:List T}{ks:List Nat}(h:AbsR H cs C ks):ks.Nodup->∀{q q' m:Nat},uO cs q=some m->uO cs q'=some m->q=q':=by
 induction h with
 |nil=>intro _ q q' m h;simp[uO] at h
 |own m n N ty sz row r R ks o l h i=>
  intro e q q' M Q d;obtain⟨f,g⟩:=List.nodup_cons.1 e;cases q with
  |zero=>
   cases q' with
   |zero=>rfl
   |succ q'=>
    simp[uO] at Q;subst Q;exact absurd (h.mem (q:=q') (by simpa[uO] using d)) f
  |succ q=>
   cases q' with
   |zero=>
    simp[uO] at d;subst d;exact absurd (h.mem (q:=q) a3b) f
   |succ q'=>rw[i g (q:=q) (q':=q') a3b (by simpa[uO] using d)]
 |cl t r R ks j h i=>
  intro e q q' M Q d;have z:uO (t::r) 0=none:=by cases t<;>first|rfl|(simp[closedOne,W5] at j)
  cases q with
  |zero=>rw[z] at Q;cases Q
  |succ q=>
   cases q' with
   |zero=>rw[z] at d;cases d
   |succ q'=>rw[i e (q:=q) (q':=q') a3b (by simpa[uO] using d)]
def G2:∀(ks:List Nat) (H:X9),(D0 H ks).length=H.length:=by
 intro ks;induction ks with
 |nil=>intro H;rfl
 |cons k ks i=>intro H;simp[D0,i]
def L8:∀{ks:List Nat} {H:X9} {i:Nat} {o:Ob},Y4 (D0 H ks) i=some o->Y4 H i=some o/\i ∉ ks:=by
 intro ks;induction ks with
 |nil=>intro H i o h;exact⟨h,W7⟩
 |cons k ks I=>
  intro H i o h;obtain⟨h1,d⟩:=I h;by_cases hk:k<H.length
  ·rw[U2 hk] at h1;split at h1
   ·cases h1
   ·rename_i e;exact⟨h1,by simp[e,d]⟩
  ·rw[List.set_eq_of_length_le Z9] at h1
   refine⟨h1,?_⟩
   have:=G1 h1;simp only[vN,not_or];exact⟨Z9,d⟩
def Env.bump(E:Env)(k v:Nat)(B C:Nat->Nat->Nat):Env:=
 {E with L2:=λa u=>E.L2 a u∨(a=k/\u=v),b2:=λa u r q=>if a=k/\u=v then B r q else E.b2 a u r q,c2:=λa u r q=>if a=k/\u=v then C r q else E.c2 a u r q}
def Env.bump_le{E:Env}{k v:Nat}{B C:Nat->Nat->Nat}(h:¬E.L2 k v):E.le (E.bump k v B C):=
 ⟨λ_ h=>h,λ_ h=>h,λ_ _=>rfl,λ_ _=>rfl,λ_ _=>rfl,λ_ _ h=>.inl h,λa u _ _ U=>if_neg (by rintro⟨rfl,rfl⟩;exact h U),λa u _ _ U=>if_neg (by rintro⟨rfl,rfl⟩;exact h U)⟩
def o9{row:Nat->List T}{i j r q:Nat}{cs:List T}{t:T}(h:j+cs.length<=(row r).length)(hq:(setRow row i j cs r)[q]? =some t):
  (r=i/\j<=q/\q<j+cs.length/\cs[q-j]? =some t)∨(¬ (r=i/\j<=q/\q<j+cs.length)/\(row r)[q]? =some t):=by
 rw[g9 h] at hq;split at hq
 ·rename_i hb;obtain rfl:=F5 hb;simp only[List.getElem?_append,F9,List.length_take,List.getElem?_take,List.getElem?_drop] at hq
  rw[Nat.min_eq_left Z9] at hq
  by_cases h1:q<j+cs.length
  ·rw[if_pos h1] at hq;by_cases h2:q<j
   ·rw[if_pos h2,if_pos h2] at hq;exact .inr ⟨Z9,hq⟩
   ·rw[if_neg h2] at hq;exact .inl ⟨rfl,Z9,h1,hq⟩
  ·rw[if_neg h1] at hq;refine .inr ⟨Z9,?_⟩
   rw[←hq];congr 1
   omega
 ·rename_i hb;exact .inr ⟨λh=>Nat.ne_of_beq_eq_false hb h.1,hq⟩
def T7{row:Nat->List T}{i j r:Nat}{cs:List T}(h:j+cs.length<=(row r).length):(setRow row i j cs r).length=(row r).length:=by
 rw[g9 h];split
 ·simp;omega
 ·rfl
def kS(k v:Nat){row:Nat->List T}{i j r:Nat}{cs:List T}(h:j+cs.length<=(row r).length)(C:∀t ∈ cs,closedOne t=true):
  wH k v (setRow row i j cs) r=setRow (wH k v row) i j cs r:=by
 refine List.ext_getElem? λq=>?_
 rw[I5];have l:j+cs.length<=(wH k v row r).length:=by rw[O5];exact h
 cases Q:(setRow row i j cs r)[q]? with
 |none=>
  have:(row r).length<=q:=by
   rw[←T7 (i:=i) h];rcases Nat.lt_or_ge q (setRow row i j cs r).length with h'|h'
   ·rw[I1 h'] at Q;cases Q
   ·exact h'
  rw[List.getElem?_eq_none (by rw[T7 l,O5];exact this)]
  rfl
 |some t=>
  have L:q<(setRow (wH k v row) i j cs r).length:=by
   rw[T7 l,O5,←T7 (i:=i) h];exact(u6.1 Q).1
  have d:=I1 L
  rw[d];rcases o9 h Q with⟨n,f,x,u⟩|⟨n,f⟩<;>rcases o9 l d with⟨e,g,z,o⟩|⟨e,g⟩
  ·rw[u] at o;simp only[h9];rw[M1 (C t (y4 u))];exact o
  ·exact absurd ⟨n,f,x⟩ e
  ·exact absurd ⟨e,g,z⟩ n
  ·rw[I5,f] at g;exact g
def b8R(h:Inv c E H w){t:TypeId}{a x:T}{av xv:Value}{H':X9}{side:Option Prop}(he:qX P H t a x=some (H',side))(hs:side.getD True)(ha:Rd E w a av)(hx:Rd E w x xv):
  ∃w' E',(Instr.storeAt t av xv).run P w= .ok () w'/\Inv c E' H' w'/\Step E w E' w':=by
 have go:∀{b o:Nat} {w':World},u9 P t (U7 x).length=true->(U7 x).length=xv.cells.size->av= .pointer (some ⟨b,o,none⟩)->(storeCells ⟨b,o,none⟩ xv.cells.toList).run P w= .ok () w'->(Instr.storeAt t av xv).run P w= .ok () w':=by
  intro b o w' hsz hxl hav hst;rw[hav];simp only[Instr.storeAt,Instr.sureAddr,storeVar,D1,z5,D6,(M9 (w:=w) hsz).1];rw[if_neg (by rw[hxl];simp)]
  exact hst
 unfold qX at he;split at he
 ·rename_i k v i j z a b;split at he
  ·rename_i v' ty sz n row A hk hA hsz hpx hone;split at he
   ·rename_i hzb hble;simp only[X0,U4] at he;obtain⟨rfl,rfl⟩:=he;obtain rfl:=F5 hzb;have hb:=yH hble;obtain⟨ty2,sz2,pH,hk2,hj,hcl⟩:=xW hA;rw[hk] at hk2;simp only[X0,Ob.fam.injEq] at hk2;obtain⟨rfl,rfl,rfl,rfl,rfl⟩:=hk2;obtain⟨hv,hi,ha'⟩:PfB v A.v i A.n a A.A.n:=hs;subst hv;obtain⟨hO,hL,hL2⟩:=a2h h.heap hA rfl hi;obtain⟨_,hF,hNk⟩:=h.heap.live _ _ hk;have hF:FamOk E w k A.v ty sz A.n row:=hF;obtain⟨hxl,hxt⟩:=xV hx hpx;have hco:∀t ∈ U7 x,closedOne t=true:=λt ht=>b9.1 hone t ht
    have hc2:E.c2 k A.v i j≠0:=by have h1:A.A.n<=E.c2 k A.v i j:=hO.2.1;omega
    obtain⟨w',hst,ho,ht,hp,hsize,hoth,cs,tyc,hblk,hcs,hlen,hone',hcl',hcell⟩:=vB (P:=P) hO ha' (xs:=U7 x) (vs:=xv.cells.toList) hb (λt ht=>(K4 (hco t ht)).2) (by simp[hxl])
     (λm t v hm hv=>A7 (E:=E) (E':=E.sub k A.v i j A.A.sz) (λb hb=>hb) (hxt m t v hm a0g) (K4 (hco t (y4 hm))).1)
    have hav:av= .pointer (some ⟨E.b2 k A.v i j,a*A.A.sz+b,none⟩):=by cases ha;rfl
    have hfit:j+[T.own A.A.ty A.A.sz A.A.n (setRow A.A.row a b (U7 x))].length<=(row i).length:=by
     have:=(u6.1 hj).1
     simp only[List.length_singleton];omega
    have hlr:∀r,r<A.n->(row r).length=sz:=λr hr=>(by have:=hF.arr.2.2.1 r hr;rwa [O5] at this)
    have hfit':∀r,r<A.n->j+[T.own A.A.ty A.A.sz A.A.n (setRow A.A.row a b (U7 x))].length<=(row r).length:=λr hr=>by rw[hlr r hr,←hlr i hi];exact hfit
    have back:∀(r q:Nat) (t:T),r<A.n->(setRow row i j [T.own A.A.ty A.A.sz A.A.n (setRow A.A.row a b (U7 x))] r)[q]? =some t->(r=i/\q=j/\t= .own A.A.ty A.A.sz A.A.n (setRow A.A.row a b (U7 x)))∨(¬ (r=i/\q=j)/\(row r)[q]? =some t):=by
     intro r q t hr hq;rcases o9 (hfit' r hr) hq with⟨h1,h2,h3,h4⟩|⟨h1,h2⟩
     ·simp only[List.length_singleton] at h3;obtain rfl:q=j:=by omega
      simp at h4;exact .inl ⟨h1,rfl,h4.symm⟩
     ·simp only[List.length_singleton] at h1;exact .inr ⟨λhh=>h1 ⟨hh.1,Z9,Z9⟩,h2⟩
    have hB:∀b',A3 E k (.fam A.v ty sz A.n (setRow row i j [T.own A.A.ty A.A.sz A.A.n (setRow A.A.row a b (U7 x))])) b'->A3 E k (.fam A.v ty sz A.n row) b':=by
     intro b' hb';rcases hb' with hb'|⟨v0,ty0,sz0,n0,P1,i0,j0,oty,osz,on,orow,hobe,hi0,hj0,hc0,rfl⟩
     ·exact .inl hb'
     ·simp only[Ob.fam.injEq] at hobe;obtain⟨rfl,rfl,rfl,rfl,rfl⟩:=hobe;rcases back i0 j0 _ hi0 hj0 with⟨rfl,rfl,_⟩|⟨_,h2⟩
      ·exact .inr ⟨_,_,_,_,_,_,_,_,_,_,_,rfl,hi,hj,hc0,rfl⟩
      ·exact .inr ⟨_,_,_,_,_,_,_,_,_,_,_,rfl,hi0,h2,hc0,rfl⟩
    have:=h.writeO hk ho ht hp Z9 (λb' _ hn=>hoth b' λe=>hn (.inr ⟨_,_,_,_,_,_,_,_,_,_,_,rfl,hi,hj,hc2,e⟩)) (.fam A.v ty sz A.n (setRow row i j [.own A.A.ty A.A.sz A.A.n (setRow A.A.row a b (U7 x))])) hB
     (λu hu=>by
      obtain⟨v0,_,_,_,_,he,hle⟩:=h.heap.cur k _ u hk hu;cases he;exact⟨_,_,_,_,_,rfl,hle⟩) (λhstep=>by
      have hκb:E.κ k≠0->w'.heap[E.β k]? =w.heap[E.β k]? :=λhκ=>hoth _ λe=>((hF.own i j _ _ _ _ hi hj).2 hc2 hκ) e.symm
      obtain⟨e1,e2,e3,e4,e5,cs0,ty0,e6,e7,e8⟩:=hF.arr;refine i7 (E:=E) hF.l2 e1 e2 cs0 ty0 (λhκ=>by rw[hκb hκ];exact e6 hκ) e7 (λr hr=>by rw[T7 (hfit' r hr)];exact hlr r hr) (λr q t hr hq=>?_) (λi1 j1 i2 j2 oty osz on orow oty' osz' on' orow' h1 h2 h3 h4 h5 h6 h7=>?_)
      ·rcases back r q t hr hq with⟨rfl,rfl,rfl⟩|⟨hne,hq0⟩
       ·obtain⟨u,hu,hru⟩:=e8 r q (.posl k A.v r q A.A.n) hr (by simp only;rw[I5,hj];rfl)
        refine⟨u,hu,.inr ⟨_,_,_,_,rfl,hstep.rd hru,?_,(hF.own r q _ _ _ _ hr hj).2⟩⟩
        refine⟨hO.1,hO.2.1,hlen,hone',λ_ r t hr ht=>hcl' hcl (λt ht=>(K4 (hco t ht)).1) r t hr ht,cs,tyc,λ_=>hblk,hcs,λr1 q1 t1 hr1 hq1=>?_⟩
        obtain⟨u1,hu1,hrd1,_⟩:=hcell r1 q1 t1 hr1 hq1;refine⟨u1,hu1,?_⟩
        have hct:=hcl' hcl (λt ht=>(K4 (hco t ht)).1) r1 t1 hr1 (y4 hq1)
        have:=hstep.rd (A7 (E:=E.sub k A.v r q A.A.sz) (E':=E) (λb hb=>hb) hrd1 hct)
        exact A7 (E:=E) (E':=E.sub k A.v r q A.A.sz) (λb hb=>hb) this hct
       ·obtain⟨u,hu,hru⟩:=e8 r q (rV k A.v r q t) hr (by simp only;rw[I5,hq0];rfl)
        rcases hF.cell hr hq0 with hc|⟨oty,osz,on,orow,rfl⟩
        ·rw[M1 hc] at hru;exact⟨u,hu,.inl ⟨hc,hstep.rd hru⟩⟩
        ·obtain⟨g1,g2⟩:=hF.own r q _ _ _ _ hr hq0;refine⟨u,hu,.inr ⟨_,_,_,_,rfl,hstep.rd hru,g1.closed (k':=0) (E':=E.sub k A.v r q osz) rfl (λb hb=>hb) (λb hb=>hstep.same b hb) rfl rfl rfl (λhc0=>hoth _ λe=>hne ?_),g2⟩⟩
         exact hF.inj r q i j _ _ _ _ _ _ _ _ hr hi hq0 hj hc0 hc2 e
      ·have own:∀(r q:Nat) (oty:TypeId) (osz on:Nat) (orow:Nat->List T),r<A.n->(setRow row i j [T.own A.A.ty A.A.sz A.A.n (setRow A.A.row a b (U7 x))] r)[q]? =some (T.own oty osz on orow)->∃(oty':TypeId) (osz' on':Nat) (orow':Nat->List T),(row r)[q]? =some (T.own oty' osz' on' orow'):=by
        intro r q oty osz on orow hr hq;rcases back r q _ hr hq with⟨rfl,rfl,_⟩|⟨_,h2⟩
        ·exact⟨_,_,_,_,hj⟩
        ·exact⟨_,_,_,_,h2⟩
       obtain⟨_,_,_,_,p1⟩:=own i1 j1 _ _ _ _ h1 h3;obtain⟨_,_,_,_,p2⟩:=own i2 j2 _ _ _ _ h2 h4;exact hF.inj i1 j1 i2 j2 _ _ _ _ _ _ _ _ h1 h2 p1 p2 h5 h6 h7)
    exact⟨w',E,go hsz hxl hav hst,this.1,this.2⟩
   ·cases he
  ·cases he
 ·rename_i k i j;have hav:=a1h ha;split at he
  ·rename_i cl ty sz n row hk hsz hpx hone;split at he
   ·rename_i hble;simp only[X0,U4] at he;obtain⟨rfl,rfl⟩:=he;have hi:=b7j hs;have hj:=yH hble;obtain⟨hL,hA,hN⟩:=h.heap.live _ _ hk;have hA:T5 E w k ⟨cl,ty,sz,n,row⟩:=hA;obtain⟨hxl,hxt⟩:=xV hx hpx;obtain⟨w',hst,ho,ht,hp,hsize,hoth,cs,tyc,hblk,hcs,hlen,hone',hcl',hcell⟩:=vB (P:=P) hA hi (xs:=U7 x) (vs:=xv.cells.toList) hj (λt ht=>b9.1 hone t ht) (by simp[hxl]) (λm t v hm hv=>hxt m t v hm a0g)
    have hκ:E.κ k≠0:=by have h1:n<=E.κ k:=hA.2.1;have h2:i<n:=hi;omega
    have:=h.write hk rfl ho ht hp Z9 (λb _ hne=>hoth b hne) hκ (.arr (cl&&(U7 x).all W5) ty sz n (setRow row i j (U7 x))) cs tyc hblk hA.1.symm (by rw[hA.1];exact hcs) hA.2.1 hlen hone'
     (λhc r t hr ht=>by simp only[Ob.toArr,J5] at hc;exact hcl' hc.1 (λt ht=>b9.1 hc.2 t ht) r t hr ht) (λr q t hr hq=>by obtain⟨u,hu,hrd,_⟩:=hcell r q t hr hq;exact⟨u,hu,hrd⟩)
    exact⟨w',E,go hsz hxl hav hst,this.1,this.2⟩
   ·cases he
  ·rename_i ty l hk hsz hpx hone;split at he
   ·rename_i m;simp only[X0,U4] at he;obtain⟨rfl,rfl⟩:=he;obtain⟨hi,hm⟩:i<l.length/\R2 .u8 m:=hs;obtain⟨hL,hA,hN⟩:=h.heap.live _ _ hk;have hA:T5 E w k ⟨true,ty,1,l.length,B5 l⟩:=hA;obtain⟨hxl,hxt⟩:=xV hx hpx;have hκ:E.κ k≠0:=by have h1:l.length<=E.κ k:=hA.2.1;omega
    obtain⟨w',hst,ho,ht,hp,hsize,hoth,cs,tyc,hblk,hcs,hlen,hone',hcl',hcell⟩:=vB (P:=P) hA hi (j:=0) (xs:=[.int .u8 m]) (vs:=xv.cells.toList) (U9 1) (by simp[H7]) (by simp at hxl ⊢;exact hxl.symm) (λm t v hm hv=>hxt m t v hm a0g)
    have:=h.write hk rfl ho ht hp Z9 (λb _ hne=>hoth b hne) hκ (.bys ty (l.set i (R1 m))) cs tyc hblk hA.1.symm (by rw[hA.1];exact hcs) (by simp only[Ob.toArr,zW];exact hA.2.1) (λr hr'=>rfl) (λr t hr' ht=>b0d) (λ_ r t hr' ht=>b0d) (λr q t hr hq=>by
      simp only[Ob.toArr,zW] at hr hq ⊢;have hq0:q=0:=by
       have:=(u6.1 hq).1
       simp[B5] at this;exact this
      subst hq0;simp only[B5,List.getElem?_cons_zero,X0] at hq
      subst hq;have hrow:(setRow (B5 l) i 0 [.int .u8 m] r)[0]? =some (if r=i then .int .u8 m else .int .u8 ((l.getD r 0).toNat:Int)):=by
       rw[g9 (by simp[B5])]
       split
       ·rename_i hb;rw[if_pos (F5 hb)];rfl
       ·rename_i hb;rw[if_neg (Nat.ne_of_beq_eq_false hb)];rfl
      obtain⟨u,hu,hrd,_⟩:=hcell r 0 _ hr hrow;refine⟨u,hu,?_⟩
      by_cases he:r=i
      ·rw[if_pos he] at hrd;subst he;rw[show((l.set r (R1 m)).getD r 0)=R1 m by simp[List.getD,hi],a2t hm]
       exact hrd
      ·rw[if_neg he] at hrd;rw[show((l.set i (R1 m)).getD r 0)=l.getD r 0 by simp[List.getD,Ne.symm he]]
       exact hrd)
    exact⟨w',E,go hsz hxl hav hst,this.1,this.2⟩
   ·cases he
  ·rename_i v ty sz n row hk hsz hpx hone;split at he
   case h_2=>cases he
   rename_i hble;have hj:=yH hble;obtain⟨hL,hF,hN⟩:=h.heap.live _ _ hk;have hF:FamOk E w k v ty sz n row:=hF;obtain⟨hxl,hxt⟩:=xV hx hpx;have hlr:∀r,r<n->(row r).length=sz:=λr hr=>(by have:=hF.arr.2.2.1 r hr;rwa [O5] at this)
   have hklt:=G1 hk;have hcurk:∀u,E.L2 k u->u<=v:=λu hu=>by
    obtain⟨v0,_,_,_,_,he,hle⟩:=h.heap.cur k _ u hk hu;cases he;exact hle
   split at he
   ·-- cells that own nothing
    rename_i hco;simp only[X0,U4] at he;obtain⟨rfl,rfl⟩:=he;obtain⟨hi,hno⟩:kV i n (((row i).drop j).take (U7 x).length):=hs;have hco:∀t ∈ U7 x,closedOne t=true:=λt ht=>b9.1 hco t ht
    obtain⟨w',hst,ho,ht,hp,hsize,hoth,cs,tyc,hblk,hcs,hlen,hone',hcl',hcell⟩:=vB (P:=P) hF.arr hi (xs:=U7 x) (vs:=xv.cells.toList) hj (λt ht=>b9.1 hone t ht) (by simp[hxl]) (λm t v hm hv=>hxt m t v hm a0g)
    have hfit:∀r,r<n->j+(U7 x).length<=(row r).length:=λr hr=>by rw[hlr r hr];exact hj
    have old:∀(r q:Nat) (oty:TypeId) (osz on:Nat) (orow:Nat->List T),r<n->(setRow row i j (U7 x) r)[q]? =some (T.own oty osz on orow)->(row r)[q]? =some (T.own oty osz on orow):=by
     intro r q oty osz on orow hr hq;rcases o9 (hfit r hr) hq with⟨_,_,_,h4⟩|⟨_,h2⟩
     ·have:=hco _ (y4 h4);simp[closedOne,W5] at this
     ·exact h2
    have hB:∀b',A3 E k (.fam v ty sz n (setRow row i j (U7 x))) b'->A3 E k (.fam v ty sz n row) b':=by
     intro b' hb';rcases hb' with hb'|⟨v0,ty0,sz0,n0,P1,i0,j0,oty,osz,on,orow,hobe,hi0,hj0,hc0,rfl⟩
     ·exact .inl hb'
     ·simp only[Ob.fam.injEq] at hobe;obtain⟨rfl,rfl,rfl,rfl,rfl⟩:=hobe;exact .inr ⟨_,_,_,_,_,_,_,_,_,_,_,rfl,hi0,old _ _ _ _ _ _ hi0 hj0,hc0,rfl⟩
    have hκ:E.κ k≠0:=by have h1:n<=E.κ k:=hF.arr.2.1;omega
    have:=h.writeO hk ho ht hp Z9 (λb' _ hn=>hoth b' λe=>hn (.inl ⟨hκ,e⟩)) (.fam v ty sz n (setRow row i j (U7 x))) hB (λu hu=>⟨_,_,_,_,_,rfl,hcurk u hu⟩) (λhstep=>by
     refine i7 (E:=E) hF.l2 hF.arr.1 hF.arr.2.1 cs tyc (λ_=>hblk) hcs (λr hr=>(by rw[T7 (hfit r hr)];exact hlr r hr)) (λr q t hr hq=>?_) (λi1 j1 i2 j2 oty osz on orow oty' osz' on' orow' h1 h2 h3 h4 h5 h6 h7=>?_)
     ·obtain⟨u,hu,hrd,_⟩:=hcell r q (rV k v r q t) hr (by simp only;rw[←kS k v (hfit r hr) hco,I5,hq];rfl)
      rcases o9 (hfit r hr) hq with⟨_,_,_,h4⟩|⟨_,h2⟩
      ·have hc:=hco _ (y4 h4);rw[M1 hc] at hrd;exact⟨u,hu,.inl ⟨hc,hstep.rd hrd⟩⟩
      ·rcases hF.cell hr h2 with hc|⟨oty,osz,on,orow,rfl⟩
       ·rw[M1 hc] at hrd;exact⟨u,hu,.inl ⟨hc,hstep.rd hrd⟩⟩
       ·obtain⟨g1,g2⟩:=hF.own r q _ _ _ _ hr h2;exact⟨u,hu,.inr ⟨_,_,_,_,rfl,hstep.rd hrd,g1.closed (k':=0) (E':=E.sub k v r q osz) rfl (λb hb=>hb) (λb hb=>hstep.same b hb) rfl rfl rfl (λhc0=>hoth _ (g2 hc0 hκ)),g2⟩⟩
     ·exact hF.inj i1 j1 i2 j2 _ _ _ _ _ _ _ _ h1 h2 (old _ _ _ _ _ _ h1 h3) (old _ _ _ _ _ _ h2 h4) h5 h6 h7)
    exact⟨w',E,go hsz hxl hav hst,this.1,this.2⟩
   ·-- cells that are given rows
    split at he
    case h_2=>cases he
    rename_i A hA;split at he
    case h_2=>cases he
    rename_i hnd;simp only[X0,U4] at he;obtain⟨rfl,rfl⟩:=he;have hi:i<n:=by cases hAs:A.side with
     |none=>rw[hAs] at hs;exact hs
     |some p=>rw[hAs] at hs;exact hs.1
    have hsd:A.side.getD True:=by cases hAs:A.side with
     |none=>trivial
     |some p=>rw[hAs] at hs;exact hs.2
    have hR:=fB hA hsd;have hnd:=aO hnd;obtain⟨hkn,hnd⟩:=List.nodup_cons.1 hnd;have hl':=hR.length;obtain⟨w',hst,ho,ht,hp,hsize,hoth,cs,tyc,hblk,hcs,_,_,_,hcell⟩:=vB (P:=P) hF.arr hi (xs:=U7 x) (vs:=xv.cells.toList) hj (λt ht=>b9.1 hone t ht) (by simp[hxl]) (λm t v hm hv=>hxt m t v hm a0g)
    have hfit:∀r,r<n->j+A.cs.length<=(row r).length:=λr hr=>by rw[hlr r hr,hl'];exact hj
    have hfitx:∀r,r<n->j+(U7 x).length<=(wH k v row r).length:=λr hr=>by rw[O5,hlr r hr];exact hj
    have hκ:E.κ k≠0:=by have h1:n<=E.κ k:=hF.arr.2.1;omega
    let S:c6k:=λr q=>if r=i/\j<=q/\q<j+(U7 x).length then(match uO (U7 x) (q-j) with|some m=>.inr m|none=>.inl (r,q)) else .inl (r,q)
    have hnL2:¬E.L2 k (v+1):=λhu=>by have:=hcurk _ hu;omega
    let E':=E.bump k (v+1) (λr q=>pX E k v (S r q)) (λr q=>jP E k v (S r q))
    have hle:E.le E':=Env.bump_le hnL2;have hstep:Step E w E' w':=⟨hle,λb hb=>hoth b λe=>hN b (.inl ⟨hκ,e⟩) hb,λ_ h=>.inl h⟩
    have hb2:∀r q,E'.b2 k (v+1) r q=pX E k v (S r q):=λr q=>if_pos ⟨rfl,rfl⟩
    have hc2:∀r q,E'.c2 k (v+1) r q=jP E k v (S r q):=λr q=>if_pos ⟨rfl,rfl⟩
    have cellN:∀(r q:Nat) (t:T),r<n->(setRow row i j A.cs r)[q]? =some t->
      (∃m nn N oty osz orow,t= .own oty osz nn orow/\r=i/\j<=q/\q<j+(U7 x).length/\(U7 x)[q-j]? =some (.osl m 0 nn)/\Y4 H m=some (.arr true oty osz N orow)/\nn<=N/\m ∈ A.ks/\S r q= .inr m)∨
      (closedOne t=true/\r=i/\j<=q/\q<j+(U7 x).length/\(U7 x)[q-j]? =some t)∨(¬ (r=i/\j<=q/\q<j+(U7 x).length)/\(row r)[q]? =some t/\S r q= .inl (r,q)):=by
     intro r q t hr hq;rcases o9 (hfit r hr) hq with⟨h1,h2,h3,h4⟩|⟨h1,h2⟩
     ·rw[hl'] at h3;rcases hR.get h4 with⟨g1,g2⟩|⟨m,nn,N,oty,osz,orow,rfl,g2,g3,g4,g5⟩
      ·exact .inr (.inl ⟨g1,h1,h2,h3,g2⟩)
      ·refine .inl ⟨m,nn,N,oty,osz,orow,rfl,h1,h2,h3,g2,g3,g4,g5,?_⟩
       simp only[S,if_pos (And.intro h1 (And.intro h2 h3)),uO,g2]
     ·rw[hl'] at h1;exact .inr (.inr ⟨h1,h2,if_neg h1⟩)
    have hFam:FamOk E' w' k (v+1) ty sz n (setRow row i j A.cs):=by
     refine a3q (E:=E) (w:=w) h.heap hstep hk S (.inr ⟨rfl,rfl⟩) hb2 hc2 hF.arr.1 hF.arr.2.1 cs tyc (λ_=>hblk) hcs (λr hr=>(by rw[T7 (hfit r hr)];exact hlr r hr)) (λr q t hr hq=>?_) (λi1 j1 i2 j2 oty osz on orow oty' osz' on' orow' h1 h2 h3 h4 h5=>?_) (λb hb=>hoth b ?_) (λb hb _=>?_)
     ·have hx1:∃t1,(setRow (wH k v row) i j (U7 x) r)[q]? =some t1:=by
       have:q<(setRow (wH k v row) i j (U7 x) r).length:=by
        rw[T7 (hfitx r hr),O5,←T7 (i:=i) (hfit r hr)];exact(u6.1 hq).1
       exact⟨_,I1 this⟩
      obtain⟨t1,ht1⟩:=hx1;obtain⟨u,hu,hrd,hwh⟩:=hcell r q t1 hr ht1;refine⟨u,hu,?_⟩
      rcases cellN r q t hr hq with⟨m,nn,N,oty,osz,orow,rfl,h1,h2,h3,g2,g3,g4,g5,g6⟩|⟨hc,h1,h2,h3,g2⟩|⟨hne,h2,g6⟩
      ·rcases hwh with⟨_,_,_,h4⟩|⟨h4,_⟩
       ·rw[g2] at h4;simp only[X0] at h4;subst h4;refine .inr ⟨_,_,_,_,rfl,?_⟩
        rw[g6];exact⟨λe=>hkn (e▸g5),⟨_,_,g3,g4⟩,hrd⟩
       ·exact absurd ⟨h1,h2,h3⟩ h4
      ·rcases hwh with⟨_,_,_,h4⟩|⟨h4,_⟩
       ·rw[g2] at h4;simp only[X0] at h4;subst h4;exact .inl ⟨hc,hrd⟩
       ·exact absurd ⟨h1,h2,h3⟩ h4
      ·rcases hwh with⟨p1,p2,p3,_⟩|⟨_,h4⟩
       ·exact absurd ⟨p1,p2,p3⟩ hne
       ·simp only at h4;rw[I5,h2] at h4;simp only[h9,X0] at h4;subst h4;rcases hF.cell hr h2 with hc|⟨oty,osz,on,orow,rfl⟩
        ·rw[M1 hc] at hrd;exact .inl ⟨hc,hrd⟩
        ·refine .inr ⟨_,_,_,_,rfl,?_⟩
         rw[g6];exact⟨hr,⟨_,h2⟩,hrd⟩
     ·rcases cellN i1 j1 _ h1 h3 with⟨m,nn,N,_,_,_,_,p1,p2,p3,p4,_,_,p5,p6⟩|⟨hc,_⟩|⟨p1,p2,p6⟩
      ·rcases cellN i2 j2 _ h2 h4 with⟨m',nn',N',_,_,_,_,q1,q2,q3,q4,_,_,q5,q6⟩|⟨hc,_⟩|⟨q1,q2,q6⟩
       ·rw[p6,q6] at h5;simp only[Sum.inr.injEq] at h5;subst h5;have:=hR.inj hnd (q:=j1-j) (q':=j2-j) (m:=m) (by simp[uO,p4]) (by simp[uO,q4])
        exact⟨Z9,Z9⟩
       ·simp[closedOne,W5] at hc
       ·rw[p6,q6] at h5;cases h5
      ·simp[closedOne,W5] at hc
      ·rcases cellN i2 j2 _ h2 h4 with⟨m',nn',N',_,_,_,_,q1,q2,q3,q4,_,_,q5,q6⟩|⟨hc,_⟩|⟨q1,q2,q6⟩
       ·rw[p6,q6] at h5;cases h5
       ·simp[closedOne,W5] at hc
       ·rw[p6,q6] at h5;simp only[Sum.inl.injEq,U4] at h5;exact h5
     ·rcases hb with⟨r,q,rfl,hcq,v0,ty0,sz0,n0,P1,i0,j0,oty,osz,on,orow,hobe,hi0,hj0,hc0,he0⟩|⟨m,o,hmk,hmo,hmb⟩
      ·simp only[Ob.fam.injEq] at hobe;obtain⟨rfl,rfl,rfl,rfl,rfl⟩:=hobe;rw[he0];exact(hF.own i0 j0 _ _ _ _ hi0 hj0).2 hc0 hκ
      ·rintro rfl;exact hmk (h.heap.inj m k _ _ _ hmo hk hmb (.inl ⟨hκ,rfl⟩))
     ·show b≠E.β k;rcases hb with⟨r,q,rfl,hcq,v0,ty0,sz0,n0,P1,i0,j0,oty,osz,on,orow,hobe,hi0,hj0,hc0,he0⟩|⟨m,o,hmk,hmo,hmb⟩
      ·simp only[Ob.fam.injEq] at hobe;obtain⟨rfl,rfl,rfl,rfl,rfl⟩:=hobe;rw[he0];exact(hF.own i0 j0 _ _ _ _ hi0 hj0).2 hc0 hκ
      ·rintro rfl;exact hmk (h.heap.inj m k _ _ _ hmo hk hmb (.inl ⟨hκ,rfl⟩))
    have hgs:∀i o,Y4 ((D0 H A.ks).set k (some (.fam (v+1) ty sz n (setRow row i j A.cs)))) i=some o->True:=λ_ _ _=>trivial
    have hklt':k<(D0 H A.ks).length:=by rw[G2];exact hklt
    refine⟨w',E',go hsz hxl hav hst,h.to ho ht hp Z9 hstep k (λm=>m=k∨m ∈ A.ks) (λ_ h=>h) (λi2 o2 hi2 hne=>?_) (λo2 ho2=>?_) (λb hb hn=>hoth b λe=>hn k _ (.inl rfl) hk (.inl ⟨hκ,e⟩)) (λi2 hi2=>by rw[zW,G2];exact h.heap.lt i2 hi2) (λi2 v2 hv2=>?_) (λo2 i2 v2 hi2 hv2=>?_),hstep⟩
    ·rw[U2 hklt',if_neg hne] at hi2;obtain⟨g1,g2⟩:=L8 hi2;exact⟨g1,λhh=>hh.elim hne g2⟩
    ·rw[U2 hklt',if_pos rfl] at ho2;simp only[X0] at ho2;subst ho2;refine⟨hL,hFam,λb hb=>.inr ?_⟩
     rcases hb with hb|⟨v0,ty0,sz0,n0,P1,i0,j0,oty,osz,on,orow,hobe,hi0,hj0,hc0,rfl⟩
     ·exact⟨k,_,.inl rfl,hk,.inl hb⟩
     ·simp only[Ob.fam.injEq] at hobe;obtain⟨rfl,rfl,rfl,rfl,rfl⟩:=hobe;rw[hc2] at hc0;rw[hb2];rcases cellN i0 j0 _ hi0 hj0 with⟨m,nn,N,_,_,_,he3,p1,p2,p3,p4,p7,_,p5,p6⟩|⟨hc,_⟩|⟨p1,p2,p6⟩
      ·rw[p6] at hc0 ⊢;exact⟨m,_,.inr p5,p7,.inl ⟨hc0,rfl⟩⟩
      ·simp[closedOne,W5] at hc
      ·rw[p6] at hc0 ⊢;exact⟨k,_,.inl rfl,hk,.inr ⟨_,_,_,_,_,_,_,_,_,_,_,rfl,hi0,p2,hc0,rfl⟩⟩
    ·rcases hv2 with hv2|⟨rfl,rfl⟩
     ·exact h.heap.l2 _ _ hv2
     ·exact hL
    ·rw[U2 hklt'] at hi2;split at hi2
     ·rename_i he2;subst he2;simp only[X0] at hi2;subst hi2;refine⟨_,_,_,_,_,rfl,?_⟩
      rcases hv2 with hv2|⟨_,rfl⟩
      ·have:=hcurk _ hv2;omega
      ·exact U9 _
     ·rename_i hne;obtain⟨g1,g2⟩:=L8 hi2;rcases hv2 with hv2|⟨e1,_⟩
      ·exact h.heap.cur _ _ _ g1 hv2
      ·exact absurd e1 hne
  ·cases he
 ·cases he
end
section
variable {c:Ctx} {E:Env} {H:X9} {w w':World} {P:Program}
def xQ{e:TypeId}(h:g7 P e=true):P.underlying e=some (.int .u8)/\zeroCells P e=some [.int .u8 0]:=by
 unfold g7 at h;split at h
 ·rename_i n u z;have:=G7 h;subst this;exact⟨u,z⟩
 ·cases h
def a1F{k b κ z n:Nat}(h:n<=κ):Rd (E.push k b κ z) w (.osl k 0 n) (.slice (some ⟨b,0,none⟩) n κ):=by
 have:=Rd.osl (E:=E.push k b κ z) (w:=w) k 0 n 0 (some ⟨b,0,none⟩) (.inr rfl) (by rw[show(E.push k b κ z).κ k=κ from if_pos rfl];omega) (λ_=>W7) (λ_=>by rw[show(E.push k b κ z).β k=b from if_pos rfl])
 rw[show(E.push k b κ z).κ k=κ from if_pos rfl] at this
 exact this
def c2n(h:Inv c E H w){t:TypeId}{l m:T}{lv V:Value}{y:T}{H':X9}{side:Option Prop}(he:a2y P H t l m=some (y,H',side))(hs:side.getD True)(hl:Rd E w l lv)(hm:Rd E w m V):
  ∃r w' E',(Instr.makeSlice t lv V).run P w= .ok r w'/\Rd E' w' y r/\Inv c E' H' w'/\Step E w E' w':=by
 unfold a2y at he;split at he
 ·rename_i e n m hu;split at he
  ·rename_i i z hi hz;split at he
   ·rename_i h1 h2 hone;simp only[X0,U4] at he;obtain⟨rfl,rfl,rfl⟩:=he;obtain⟨hn0,hnm,hby,hlt⟩:0<=n/\n<=m/\yO i.bytes m.toNat 140737488355328/\m.toNat<9223372036854775808:=hs;unfold yO at hby;have hzl:=F5 h1;have hsz0:=Nat.ne_of_beq_eq_false h2;obtain⟨v,_,hrl,i',hi',hzv⟩:=e9 (E:=E) (w:=w) hz;rw[hi] at hi';simp only[X0] at hi';subst hi';rw[H9 hl,H9 hm];have hmm:((m.toNat:Nat):Int)=m:=by omega
    have q:(i.bytes:Int)*m<=281474976710656:=by
     have:((i.bytes*m.toNat:Nat):Int)<=140737488355328:=Z9
     rw[Int.natCast_mul,hmm] at this;omega
    have o:=run_make (P:=P) w t e i v hu hi hzv .i64 .i64 n m hn0 hnm q Z9
    obtain⟨Q,R,B,I,F⟩:=B4 w (.cells (madeCells v.cells (m.toNat*i.size)) e);have u:v.cells.size=i.size:=by rw[←hrl.1];exact hzl
    have L:∀(r j:Nat),r<m.toNat->j<i.size->(madeCells v.cells (m.toNat*i.size))[r*i.size+j]? =v.cells[j]? :=by
     intro r j hr hj;have g:r*i.size+j<m.toNat*i.size:=by
      have:(r+1)*i.size<=m.toNat*i.size:=kJ _ hr;rw[Nat.add_mul] at this;omega
     unfold madeCells;simp only[Array.getElem?_map,Array.getElem?_range]
     rw[if_pos g];simp only[h9,u];rw[show(r*i.size+j) % i.size=j by rw[Nat.add_comm,Nat.add_mul_mod_self_right,Nat.mod_eq_of_lt hj]]
     have:v.cells[j]? =some v.cells[j]! :=by
      rw[tB Z9,getElem!_pos v.cells j Z9]
     rw[this]
    have M:∀(ob:Ob),ob.isArr=true->ob.toArr.sz=i.size->ob.toArr.n=n.toNat->(∀r,ob.toArr.row r=z∨(r<n.toNat->ob.toArr.row r=z))->(ob.toArr.cl=true->∀t ∈ z,W5 t=true)->
      ∃r w' E',(Instr.makeSlice t (.int .i64 n) (.int .i64 m)).run P w= .ok r w'/\Rd E' w' (.osl H.length 0 n.toNat) r/\Inv c E' (H++[some ob]) w'/\Step E w E' w':=by
     intro ob A Z N W x;have d:∀r,r<n.toNat->ob.toArr.row r=z:=λr hr=>by rcases W r with h|h;exact h;exact h hr
     have:=h.push Q R B W7 I ob w.heap.size m.toNat _ e (λ_=>U9 _) (λ_=>F) (by rw[Z,size_madeCells]) (by rw[N];omega)
      (λr hr=>by rw[Z,d r Z9];exact hzl) (λr t hr f=>by rw[d r Z9] at f;exact b9.1 hone t f) (λC r t hr f=>by rw[d r Z9] at f;exact x C t f)
      (λr j t hr hj=>by
       rw[N] at hr;rw[d r hr] at hj;have O:j<z.length:=(u6.1 hj).1
       have J:v.cells[j]? =some (v.cells[j]' Z9):=tB _
       exact⟨_,by rw[Z,L r j Z9 Z9];exact J,hrl.2 _ _ _ hj J⟩) A
     refine⟨_,_,_,o,?_,this.1,this.2⟩
     rw[Z];exact a1F Z9
    split
    ·rename_i hb;have hz1:=(xQ hb).2;rw[hz] at hz1;simp only[X0] at hz1;have hs1:i.size=1:=by rw[←hzl,hz1];rfl
     refine M (.bys e (List.replicate n.toNat 0)) rfl hs1.symm a3w (λr=>.inr λhr=>?_) (λ_ t f=>by rw[hz1] at f;simp at f;subst f;rfl)
     simp only[Ob.toArr,B5,hz1];simp[List.getD,hr]
    ·exact M (.arr (z.all W5) e i.size n.toNat λ_=>z) rfl rfl rfl (λ_=>.inl rfl) (λC t f=>b9.1 C t f)
   ·cases he
  ·cases he
 ·cases he
def b25:∀(cs:List T) (N:List Int),pK cs=some N->cs=N.map (.int .u8):=by
 intro cs;induction cs with
 |nil=>intro N h;simp[pK] at h;subst h;rfl
 |cons x cs i=>
  intro N h;unfold pK at h;split at h
  ·rename_i heq;cases heq
  ·rename_i n r heq;simp only[List.cons.injEq] at heq;obtain⟨rfl,rfl⟩:=heq;cases hb:pK cs with
   |none=>rw[hb] at h;cases h
   |some M=>
    rw[hb] at h;simp only[h9,X0] at h;subst h;rw[i M hb];rfl
  ·cases h
def c16:∀(d:List Int),(b9A d).getD True->∀n ∈ d,R2 .u8 n:=by
 intro d;induction d with
 |nil=>intro _ n N;cases N
 |cons m d i=>
  intro h n N;unfold b9A at h;cases r:b9A d with
  |none=>
   rw[r] at h i;simp only[Option.getD_some] at h;rcases vN.1 N with rfl|N
   ·exact h
   ·exact i trivial n N
  |some p=>
   rw[r] at h i;simp only[Option.getD_some] at h i;rcases vN.1 N with rfl|N
   ·exact h.1
   ·exact i h.2 n N
def c1Z{n:Int}{v:Value}(N:R2 .u8 n)(h:Rd E w (.int .u8 n) v):Rd E w (.int .u8 ((R1 n).toNat:Int)) v:=by
 rw[a2t N];exact h
def nM{e:Nat->Option (Nat×Nat)}:∀(parts:List (Nat×T)) (cs out:List T),zN e cs parts=some out->out.length=cs.length:=by
 intro parts;induction parts with
 |nil=>intro cs out h;simp[zN] at h;rw[h]
 |cons p parts I=>
  intro cs out h;obtain⟨i,x⟩:=p;simp only[zN] at h;split at h
  ·split at h
   ·rename_i g f;have d:=yH f;rw[I _ _ h];simp;omega
   ·cases h
  ·cases h
def aF(h:Inv c E H w){a:Act}{s:W4}{t e:TypeId}{len:Nat}{parts:Array (Nat×Operand)}{i:TypeInfo}{z cs:List T}(hu:P.underlying t=some (.slice e))(hi:P.info? e=some i)(hz:zeroCells P e=some z)
  (Y:Nat.beq z.length i.size=true) (W:Nat.beq i.size 0=false) (h3:Nat.ble (len*i.size) 16777216=true) (l:zN (λk=>some (k*i.size,i.size)) ((List.replicate len z).flatten) (parts.toList.map λp=>(p.1,K6 s p.2))=some cs)
  (M:∀p ∈ parts.toList,F0 E w a s p.2):
  ∃U,(Instr.buildSlice t len (parts.map λ(i,x)=>(i,a.eval x))).run P w= .ok (.slice (some ⟨w.heap.size,0,none⟩) len len) (w.alloc (.cells U e))/\tC E w cs U/\cs.length=len*i.size:=by
 have d:∀(i:Nat) (p:Nat×T) (q:Nat×Value),(parts.toList.map λp=>(p.1,K6 s p.2))[i]? =some p->(parts.map λ(i,x)=>(i,a.eval x)).toList[i]? =some q->p.1=q.1/\Rd E w p.2 q.2:=by
  intro i p q hp V;simp only[Array.toList_map,oE,F1] at hp V
  obtain⟨x,hx,rfl⟩:=hp;obtain⟨x',j,rfl⟩:=V;rw[hx] at j;simp only[X0] at j;subst j;exact⟨rfl,M x (y4 hx)⟩
 have N:(parts.toList.map λp=>(p.1,K6 s p.2)).length=(parts.map λ(i,x)=>(i,a.eval x)).toList.length:=W7
 have L:=F5 Y;have A:=Nat.ne_of_beq_eq_false W;have ab:=yH h3;obtain⟨v,hv,C,i',o,aa⟩:=e9 (E:=E) (w:=w) hz;rw[hi] at o;simp only[X0] at o;subst o;have R:v.cells.size=i.size:=by rw[←C.1];exact L
 have f:P.cellsOf e=i.size:=by unfold Program.cellsOf;rw[hi];rfl
 have Z:(sizeOf e).run P w= .ok i.size w:=by rw[A9 e (by rw[hi];rfl),f]
 have F:∀(m k:Nat),((List.replicate m z).flatten)[k]? =if k<m*z.length then z[k % z.length]? else none:=by
  intro m;induction m with
  |zero=>intro k;simp
  |succ m ih=>
   intro k;rw[List.replicate_succ,List.flatten_cons,List.getElem?_append]
   by_cases hk:k<z.length
   ·rw[if_pos hk,if_pos a0r,Nat.mod_eq_of_lt hk]
   ·rw[if_neg hk,ih];by_cases hk2:k-z.length<m*z.length
    ·rw[if_pos hk2,if_pos a0r,←Nat.mod_eq_sub_mod (a:=k) Z9]
    ·rw[if_neg hk2,if_neg a0r]
 have O:tC E w ((List.replicate len z).flatten) ((Array.range (len*i.size)).map (v.cells[· % v.cells.size]!)):=by
  refine⟨by simp[L],λk t x J hx=>?_⟩
  rw[F] at J;split at J
  ·rename_i hk;simp only[Array.getElem?_map,Array.getElem?_range] at hx
   rw[if_pos (by rw[←L];exact hk)] at hx
   simp only[h9,X0] at hx;subst hx;have r:k % v.cells.size<v.cells.size:=Nat.mod_lt _ Z9
   refine C.2 (k % z.length) _ _ J ?_
   rw[getElem!_pos v.cells _ r,L,←R];exact tB r
  ·cases J
 obtain⟨U,u,I⟩:=iH _ _ _ _ _ l O N d;have B:(Instr.buildSlice t len (parts.map λ(i,x)=>(i,a.eval x))).run P w= .ok (.slice (some ⟨w.heap.size,0,none⟩) len len) (w.alloc (.cells U e)):=by
  simp only[Instr.buildSlice,D1,run_underlying hu,D6,Z];rw[if_neg Z9]
  by_cases g:len*i.size=0
  ·rw[if_pos g];simp only[D1,z5,D6];have X:len=0:=by
    rcases Nat.mul_eq_zero.1 g with h|h
    ·exact h
    ·exact absurd h A
   have Q:((Array.range (len*i.size)).map (v.cells[· % v.cells.size]!))=((Array.range (len*i.size)).map ((#[]:Array Value)[· % (#[]:Array Value).size]!)):=by rw[g];simp[Array.range_zero']
   rw[show(λ(x:Nat×Operand)=>(x.1,a.eval x.2))=(λ(x:Nat×Operand)=>match x with|(i,x)=>(i,a.eval x)) from rfl,←Q,u]
   simp only[newRow,D1,run_newObj,D6,z5];rfl
  ·rw[if_neg g];simp only[D1,hv,z5,D6,u,newRow,run_newObj];rfl
 have n:cs.length=len*i.size:=by
  rw[nM _ _ _ l];simp[L]
 exact⟨U,B,I,n⟩
def bL(h:Inv c E H w){a:Act}{s:W4}{t:TypeId}{len:Nat}{parts:Array (Nat×Operand)}{y:T}{H':X9}{side:Option Prop}(he:G8 P s H t len parts=some (y,H',side))(hs:side.getD True)
  (hop:∀p ∈ parts.toList,F0 E w a s p.2):
  ∃r w' E',(Instr.buildSlice t len (parts.map λ(i,x)=>(i,a.eval x))).run P w= .ok r w'/\Rd E' w' y r/\Inv c E' H' w'/\Step E w E' w':=by
 have hparts:∀(i:Nat) (p:Nat×T) (q:Nat×Value),(parts.toList.map λp=>(p.1,K6 s p.2))[i]? =some p->(parts.map λ(i,x)=>(i,a.eval x)).toList[i]? =some q->p.1=q.1/\Rd E w p.2 q.2:=by
  intro i p q hp hq;simp only[Array.toList_map,oE,F1] at hp hq
  obtain⟨x,hx,rfl⟩:=hp;obtain⟨x',hx',rfl⟩:=hq;rw[hx] at hx';simp only[X0] at hx';subst hx';exact⟨rfl,hop x (y4 hx)⟩
 have hlen:(parts.toList.map λp=>(p.1,K6 s p.2)).length=(parts.map λ(i,x)=>(i,a.eval x)).toList.length:=W7
 unfold G8 at he;split at he
 ·rename_i e hu;split at he
  ·rename_i i z hi hz;split at he
   ·rename_i h1 h2 h3;have hzl:=F5 h1;have hsz0:=Nat.ne_of_beq_eq_false h2;have hle:=yH h3;obtain⟨v,hv,hrl,i',hi',hzv⟩:=e9 (E:=E) (w:=w) hz;rw[hi] at hi';simp only[X0] at hi';subst hi';have hvs:v.cells.size=i.size:=by rw[←hrl.1];exact hzl
    split at he
    ·rename_i cs hfill;have hsizeOf:P.cellsOf e=i.size:=by unfold Program.cellsOf;rw[hi];rfl
     have hrunsz:(sizeOf e).run P w= .ok i.size w:=by rw[A9 e (by rw[hi];rfl),hsizeOf]
     have flat:∀(m k:Nat),((List.replicate m z).flatten)[k]? =if k<m*z.length then z[k % z.length]? else none:=by
      intro m;induction m with
      |zero=>intro k;simp
      |succ m ih=>
       intro k;rw[List.replicate_succ,List.flatten_cons,List.getElem?_append]
       by_cases hk:k<z.length
       ·rw[if_pos hk,if_pos a0r,Nat.mod_eq_of_lt hk]
       ·rw[if_neg hk,ih];by_cases hk2:k-z.length<m*z.length
        ·rw[if_pos hk2,if_pos a0r,←Nat.mod_eq_sub_mod (a:=k) Z9]
        ·rw[if_neg hk2,if_neg a0r]
     have hzero:tC E w ((List.replicate len z).flatten) ((Array.range (len*i.size)).map (v.cells[· % v.cells.size]!)):=by
      refine⟨by simp[hzl],λk t x ht hx=>?_⟩
      rw[flat] at ht;split at ht
      ·rename_i hk;simp only[Array.getElem?_map,Array.getElem?_range] at hx
       rw[if_pos (by rw[←hzl];exact hk)] at hx
       simp only[h9,X0] at hx;subst hx;have hlt:k % v.cells.size<v.cells.size:=Nat.mod_lt _ Z9
       refine hrl.2 (k % z.length) _ _ ht ?_
       rw[getElem!_pos v.cells _ hlt,hzl,←hvs];exact tB hlt
      ·cases ht
     obtain⟨us,hus,hout⟩:=iH _ _ _ _ _ hfill hzero hlen hparts;have hrun:(Instr.buildSlice t len (parts.map λ(i,x)=>(i,a.eval x))).run P w= .ok (.slice (some ⟨w.heap.size,0,none⟩) len len) (w.alloc (.cells us e)):=by
      simp only[Instr.buildSlice,D1,run_underlying hu,D6,hrunsz];rw[if_neg Z9]
      by_cases hz':len*i.size=0
      ·rw[if_pos hz'];simp only[D1,z5,D6];have hl0:len=0:=by
        rcases Nat.mul_eq_zero.1 hz' with h|h
        ·exact h
        ·exact absurd h hsz0
       have he':((Array.range (len*i.size)).map (v.cells[· % v.cells.size]!))=((Array.range (len*i.size)).map ((#[]:Array Value)[· % (#[]:Array Value).size]!)):=by rw[hz'];simp[Array.range_zero']
       rw[show(λ(x:Nat×Operand)=>(x.1,a.eval x.2))=(λ(x:Nat×Operand)=>match x with|(i,x)=>(i,a.eval x)) from rfl,←he',hus]
       simp only[newRow,D1,run_newObj,D6,z5];rfl
      ·rw[if_neg hz'];simp only[D1,hv,z5,D6,hus,newRow,run_newObj];rfl
     have hcslen:cs.length=len*i.size:=by
      rw[nM _ _ _ hfill];simp[hzl]
     obtain⟨a1,a2,a3,a4,a5⟩:=B4 w (.cells us e);split at he
     ·rename_i hb;cases hbt:pK cs with
      |none=>rw[hbt] at he;cases he
      |some ns=>
       rw[hbt] at he;simp only[h9,X0,U4] at he;obtain⟨rfl,rfl,rfl⟩:=he;have hcs:=b25 cs ns hbt;have hrng:=c16 ns hs;have hz1:=(xQ hb).2;rw[hz] at hz1;simp only[X0] at hz1;have hs1:i.size=1:=by rw[←hzl,hz1];rfl
       have hnl:ns.length=len:=by
        rw[hcs,List.length_map,hs1,Nat.mul_one] at hcslen;exact hcslen
       have:=h.push a1 a2 a3 W7 a4 (.bys e (ns.map R1)) w.heap.size len us e (λ_=>U9 _) (λ_=>a5) (by simp only[Ob.toArr];rw[←hout.1,hcslen,hs1]) (by simp[Ob.toArr,hnl]) (λr hr=>rfl) (λr t hr ht=>b0d)
        (λ_ r t hr ht=>b0d)
        (λr j t hr hj=>by
         simp only[Ob.toArr,List.length_map] at hr hj ⊢;have hj0:j=0:=by
          have:=(u6.1 hj).1
          simp[B5] at this;exact this
         subst hj0;simp only[B5,List.getElem?_cons_zero,X0] at hj
         subst hj;have hrlt:r<us.size:=by rw[←hout.1,hcslen,hs1];omega
         have hru:us[r]? =some (us[r]'hrlt):=tB _
         have hcr:cs[r]? =some (.int .u8 ns[r]):=by rw[hcs];simp[hr]
         refine⟨_,by rw[Nat.mul_one,Nat.add_zero];exact hru,?_⟩
         have hrd:=hout.2 _ _ _ hcr hru;rw[show(List.map R1 ns).getD r 0=R1 ns[r] by simp[List.getD,hr]]
         exact c1Z (hrng _ (List.getElem_mem hr)) hrd)
       refine⟨_,_,_,hrun,?_,this.1,this.2⟩
       exact a1F (U9 _)
     ·split at he
      case h_2=>cases he
      rename_i hone;simp only[X0,U4] at he;obtain⟨rfl,rfl,rfl⟩:=he;have:=h.push a1 a2 a3 W7 a4 (.arr (cs.all W5) e i.size len λk=>(cs.drop (k*i.size)).take i.size) w.heap.size len us e (λ_=>U9 _) (λ_=>a5) (by simp only[Ob.toArr];rw[←hout.1];exact hcslen) (U9 _)
       (λr hr=>by
        simp only[Ob.toArr] at hr ⊢;have:(r+1)*i.size<=len*i.size:=kJ _ hr;rw[Nat.add_mul] at this;simp only[List.length_take,List.length_drop];omega)
       (λr t hr ht=>b9.1 hone t (List.mem_of_mem_drop (List.mem_of_mem_take ht)))
       (λhc r t hr ht=>b9.1 hc t (List.mem_of_mem_drop (List.mem_of_mem_take ht)))
       (λr j t hr hj=>by
        simp only[Ob.toArr] at hr hj ⊢;rw[List.getElem?_take] at hj
        split at hj
        ·rename_i hjs;rw[List.getElem?_drop] at hj
         have hlt:=(u6.1 hj).1
         have hru:us[r*i.size+j]? =some (us[r*i.size+j]'(by have:=hout.1;omega)):=tB _
         exact⟨_,hru,hout.2 _ _ _ hj hru⟩
        ·cases hj)
      refine⟨_,_,_,hrun,?_,this.1,this.2⟩
      exact a1F (U9 _)
    ·cases he
   ·cases he
  ·cases he
 ·cases he
end
section
variable {c:Ctx} {E:Env} {H:X9} {w w':World} {P:Program}
structure Appended(w:World)(sz n m:Nat)(old:Nat->Option Value)(news:List Value)(g:Option Nat)(r:Value)(w':World):Prop where
 os:w'.os=w.os
 tape:w'.tape=w.tape
 output:w'.output=w.output
 size:w.heap.size<=w'.heap.size
 other:∀b,b<w.heap.size->some b≠g->w'.heap[b]? =w.heap[b]?
 block:∃b cap cs tyb,r= .slice (some ⟨b,0,none⟩) (n+m) cap/\n+m<=cap/\w'.heap[b]? =some (.cells cs tyb (0,0))/\cap*sz<=cs.size/\((w.heap.size<=b/\∀a,a<w.heap.size->w'.heap[a]? =w.heap[a]?)∨g=some b)/\
  (∀j,j<n*sz->cs[j]? =old j)/\∀j,j<m*sz->cs[n*sz+j]? =news[j]?
def B7{t tx ty e:TypeId}{i:TypeInfo}{z:Value}(Q:P.underlying t=some (.slice e))(hi:P.info? e=some i)(hz:i.zero=some z)(ab:z.cells.size=i.size)
  {x:Value} {m:Nat} {N:List Value} (hs:Go.Src P i.size tx x m N w) (n:Nat) (R:U8 n m i.bytes)
  (d:Value) (old:Nat->Option Value) (g:Option Nat)
  (hd:(∃a,d= .slice a 0 0/\n=0/\g=none)∨∃b cap cur B,d= .slice (some ⟨b,0,none⟩) n cap/\g=some b/\w.heap[b]? =some (.cells cur B (0,0))/\n<=cap/\cap*i.size<=cur.size/\∀j,j<n*i.size->cur[j]? =old j):
  ∃r w',(Builtin.append_ #[t,tx] ty #[d,x]).run P w= .ok r w'/\(Appended w i.size n m old N g r w'∨(n+m=0/\w'=w/\∃a,r= .slice a 0 0)):=by
 obtain⟨ad,ae⟩:=R;have grow:∀(base:Option Addr) (cap:Nat) (z0:List Value),z0.length=n*i.size->(Builtin.firstCells i.size n (.slice base n cap)).run P w.drew= .ok z0.toArray w.drew->cap<n+m->
   (∀j,j<n*i.size->z0[j]? =old j)->d= .slice base n cap->
   ∃r w',(Builtin.append_ #[t,tx] ty #[d,x]).run P w= .ok r w'/\(Appended w i.size n m old N g r w'∨(n+m=0/\w'=w/\∃a,r= .slice a 0 0)):=by
  intro base cap z0 hol l q f hdd;have hr:=run_append_grow_src (P:=P) w t tx ty e i z Q hi hz base n cap z0 l x m N hs q Z9 (growslice_fits q ad)
  rw[hdd];have L:=grownCap_ge w (n+m) cap e;refine⟨_,_,hr,.inl ⟨rfl,rfl,rfl,W7,λb R _=>heap_alloc_old w.drew _ R,_,_,_,_,rfl,L,heap_alloc_new w.drew _,?_,.inl ⟨U9 _,λ_ ha=>heap_alloc_old w.drew _ ha⟩,λj hj=>?_,λj hj=>?_⟩⟩
  ·refine Nat.le_of_eq (Eq.symm ?_)
   simp only[Array.size_append,List.size_toArray,F9,size_zeroCells,ab,hol,hs.newsLen,←Nat.add_mul];congr 1
   omega
  ·rw[Array.getElem?_append_left (by simp[hol];omega)]
   rw[List.getElem?_toArray,rL Z9]
   exact f j hj
  ·have hnl:=hs.newsLen;rw[Array.getElem?_append_left (by simp[hol,hnl];omega)]
   rw[List.getElem?_toArray,qA Z9,hol]
   congr 1
   omega
 rcases hd with⟨a,hdd,hn,U⟩|⟨b,cap,cur,B,hdd,U,hblk,Z,v,l⟩
 ·subst hn;by_cases hm:0<m
  ·refine grow a 0 [] W7 ?_ Z9 (λj hj=>Z9) hdd
   cases a with
   |none=>exact run_firstCells_none w.drew i.size 0 0 0
   |some a=>exact run_firstCells_some w.drew i.size 0 a 0 0 [] W7 (λj u h=>L4)
  ·obtain rfl:m=0:=by omega
   have hnl:N=[]:=List.length_eq_zero_iff.1 (by rw[hs.newsLen,Nat.zero_mul])
   subst hnl;rw[hdd];refine⟨.slice a 0 0,w,?_,.inr ⟨rfl,rfl,a,rfl⟩⟩
   cases a<;>(rcases hs.kind with⟨e',C⟩|C<;>simp[Builtin.append_,run_underlying Q,run_underlying C,sizeOf,typeInfo,hi,hs.len,hs.cells,storeCells])
 ·by_cases hroom:n+m<=cap
  ·have hcell:∀j,w.cell? ⟨b,j,none⟩=cur[j]? :=λj=>S2 hblk
   have F:n*i.size+N.length<=cur.size:=by rw[hs.newsLen,←Nat.add_mul];exact Nat.le_trans (kJ _ hroom) v
   obtain⟨w',W,ho,aa,V,M,A,Y,ac,J,I,X⟩:=u3 P w b (n*i.size) B cur N hblk F hs.one;rw[hdd];refine⟨.slice (some ⟨b,0,none⟩) (n+m) cap,w',?_,.inl ⟨ho,aa,V,Z9,λb' _ O=>A b' (λe=>O (by rw[U,e])),b,cap,Y,B,rfl,hroom,ac,by rw[J];exact v,.inr U,λj hj=>?_,λj hj=>?_⟩⟩
   ·rcases hs.kind with⟨e',C⟩|C<;>simp[Builtin.append_,run_underlying Q,run_underlying C,sizeOf,typeInfo,hi,hs.len,hroom,hs.cells,Addr.add_lit,W]
   ·rw[I j (.inl hj)];exact l j hj
   ·exact X j (by rw[hs.newsLen];exact hj)
  ·have o:n*i.size<=cur.size:=Nat.le_trans (kJ _ Z) v;have f:(Builtin.firstCells i.size n (.slice (some ⟨b,0,none⟩) n cap)).run P w.drew= .ok (cur.toList.take (n*i.size)).toArray w.drew:=by
    refine run_firstCells_some w.drew i.size n ⟨b,0,none⟩ n cap _ (by simp[Nat.min_eq_left o]) (λj u hj=>?_)
    rw[Addr.add_lit,D4];show w.cell? _=_;rw[S2 hblk];rw[List.getElem?_take] at hj
    split at hj
    ·simpa using hj
    ·cases hj
   refine grow (some ⟨b,0,none⟩) cap _ (by simp[Nat.min_eq_left o]) f Z9 (λj hj=>?_) hdd
   rw[List.getElem?_take,if_pos hj,Array.getElem?_toList]
   exact l j hj
def yG{p:Option Prop}{q:Prop}(h:kI p q):p.getD True/\q:=by
 cases p with
 |none=>exact⟨trivial,h⟩
 |some p=>exact h
def a3m{l:Bz}{b o:Nat}(r:∀i x,l[i]? =some x->w.cell? ⟨b,o+i,none⟩=some (.int .u8 (x.toNat:Int))):
  ∀(j:Nat) (u:Value),(l.map λx=>Value.int .u8 (x.toNat:Int))[j]? =some u->w.cell? (Addr.add ⟨b,o,none⟩ j)=some u:=by
 intro j u h;simp only[oE,F1] at h
 obtain⟨x,X,rfl⟩:=h;rw[Addr.add_lit];exact r j x X
def a3l(l:Bz):∀u ∈ l.map (λx=>Value.int .u8 (x.toNat:Int)),u.oneCell'=true:=by
 intro u h;obtain⟨x,_,rfl⟩:=List.mem_map.1 h;rfl
def a23(j:HeapOk E w H){k off n o:Nat}{ty:TypeId}{l:Bz}(t:Y4 H k=some (.bys ty l))(v:off+n<=l.length)(O:off<E.κ k∨off=0->o=off*(E.z k).1):
  ((l.drop off).take n).length=n/\∀i x,((l.drop off).take n)[i]? =some x->w.cell? ⟨E.β k,o+i,none⟩=some (.int .u8 (x.toNat:Int)):=by
 obtain⟨A,⟨f,r,g,h,L,cs,ty,q,Z,C⟩,F⟩:=j.live _ _ t;simp only[Ob.toArr] at f r g h L Z C;have N:((l.drop off).take n).length=n:=by simp;omega
 refine⟨N,λi x X=>?_⟩
 have hi:i<n:=by
  rcases Nat.lt_or_ge i n with h'|h'
  ·exact h'
  ·rw[List.getElem?_eq_none Z9] at X;cases X
 have d:l[off+i]? =some x:=by
  rw[List.getElem?_take] at X
  rw[if_pos hi,List.getElem?_drop] at X
  exact X
 have W:(B5 l (off+i))[0]? =some (.int .u8 (x.toNat:Int)):=by
  simp[B5,List.getD,d]
 obtain⟨u,U,e⟩:=C (off+i) 0 _ Z9 W
 have B:o=off:=by
  have:=O (.inl Z9)
  rw[f,Nat.mul_one] at this;exact this
 rw[S2 (q Z9),B]
 rw[H9 e] at U;rw[Nat.mul_one,Nat.add_zero] at U;exact U
def c0N{sz:Nat}{tx e:TypeId}(hd:P.underlying tx=some (.slice e))(a:Option Addr):Go.Src P sz tx (.slice a 0 0) 0 [] w:=by
 cases a with
 |none=>exact Src.ofNil (P:=P) w hd 0
 |some a=>exact Src.ofSlice (P:=P) w hd a 0 0 [] W7 (λj u h=>L4) (λ_ h=>F3)
def b1h(f:HeapOk E w H){tx:TypeId}{x:T}{v:Value}{l:Bz}{side:Option Prop}(h:b1P H (P.underlying tx) x=some (l,side))(hs:side.getD True)(hx:Rd E w x v):
  Go.Src P 1 tx v l.length (l.map λx=>Value.int .u8 (x.toNat:Int)) w:=by
 unfold b1P at h;split at h
 ·rename_i l' hd;simp only[X0,U4] at h;obtain⟨rfl,rfl⟩:=h;rw[vL hx];have:=Src.ofString (P:=P) w hd ⟨l'.toArray⟩
  simpa[byteCells,ByteArray.size] using this
 ·rename_i e l' hd;simp only[X0,U4] at h;obtain⟨rfl,rfl⟩:=h;cases hx with
  |bysNil=>exact Src.ofNil (P:=P) w hd 0
  |bysEmp a=>exact Src.ofSlice (P:=P) w hd a 0 0 [] W7 (λj u h=>L4) (λ_ h=>F3)
  |bys _ b off cap i C r=>exact Src.ofSlice (P:=P) w hd _ _ _ _ W7 (a3m r) (a3l _)
 ·rename_i e hd;simp only[X0,U4] at h;obtain⟨rfl,rfl⟩:=h;rw[vP hx];exact Src.ofNil (P:=P) w hd 0
 ·rename_i e k off n hd;split at h
  ·rename_i ty l' hk;simp only[X0,U4] at h;obtain⟨rfl,rfl⟩:=h;have hle:off+n<=l'.length:=hs;cases hx with
   |osl _ _ _ o a _ g O A=>
    obtain⟨N,L⟩:=a23 f hk hle O;by_cases d:E.κ k=0
    ·obtain rfl:n=0:=by omega
     rw[d,Nat.zero_sub,List.take_zero];exact c0N hd a
    rw[A d];have:=Src.ofSlice (P:=P) (size:=1) w hd ⟨E.β k,o,none⟩ n (E.κ k-off) (((l'.drop off).take n).map λx=>Value.int .u8 (x.toNat:Int)) (by rw[List.length_map,N,Nat.mul_one]) (a3m L) (a3l _)
    rw[N];exact this
  ·cases h
 ·cases h
def b3R(n sz:Nat)(u:Nat->Nat->Value):
  ∃news:List Value,news.length=n*sz/\∀i j,i<n->j<sz->news[i*sz+j]? =some (u i j):=by
 have hlen:∀n,(((List.range n).map λi=>(List.range sz).map λj=>u i j).flatten).length=n*sz:=by
  intro n;induction n with
  |zero=>simp
  |succ n I=>rw[List.range_succ,List.map_append,List.flatten_append,F9,I,Nat.add_mul];simp
 refine⟨((List.range n).map λi=>(List.range sz).map λj=>u i j).flatten,hlen n,?_⟩
 induction n with
 |zero=>intro i j hi;omega
 |succ n I=>
  intro i j hi J;rw[List.range_succ,List.map_append,List.flatten_append];by_cases h:i<n
  ·rw[rL (by rw[hlen];have:(i+1)*sz<=n*sz:=kJ _ h;rw[Nat.add_mul] at this;omega)]
   exact I i j h J
  ·obtain rfl:i=n:=by omega
   rw[qA (by rw[hlen];omega),hlen]
   simp[J]
def a7o{n sz j:Nat}(J:j<n*sz):j/sz<n/\j % sz<sz/\j/sz*sz+j % sz=j:=by
 have z:0<sz:=by
  rcases Nat.eq_zero_or_pos sz with h|h
  ·subst h;simp at J
  ·exact h
 exact⟨(Nat.div_lt_iff_lt_mul z).2 J,Nat.mod_lt _ z,by rw[Nat.mul_comm];exact Nat.div_add_mod j sz⟩
def a3P{tx e:TypeId}{sz n b o cap:Nat}{row:Nat->List T}{u:Nat->Nat->Value}(hd:P.underlying tx=some (.slice e))
  (hl:∀i,i<n->(row i).length=sz) (x:∀i t,i<n->t ∈ row i->H7 t=true)
  (R:∀i j t,i<n->(row i)[j]? =some t->w.cell? ⟨b,o+i*sz+j,none⟩=some (u i j)) (r:∀i j t,i<n->(row i)[j]? =some t->Rd E w t (u i j)):
  ∃N,Go.Src P sz tx (.slice (some ⟨b,o,none⟩) n cap) n N w/\∀i j t,i<n->(row i)[j]? =some t->∃u,N[i*sz+j]? =some u/\Rd E w t u:=by
 obtain⟨N,d,h⟩:=b3R n sz u;have key:∀j v,N[j]? =some v->∃i k t,i<n/\(row i)[k]? =some t/\v=u i k/\i*sz+k=j:=by
  intro j v hj;have g:j<n*sz:=by rw[←d];exact(u6.1 hj).1
  obtain⟨f,q,l⟩:=a7o g;have hk:j % sz<(row (j/sz)).length:=by rw[hl _ f];exact q
  refine⟨j/sz,j % sz,_,f,I1 hk,?_,l⟩
  have:=h _ _ f q;rw[l,hj] at this
  simpa using this
 refine⟨N,Src.ofSlice (P:=P) w hd ⟨b,o,none⟩ n cap N d (λj v hj=>?_) (λv hv=>?_),λi j t hi hj=>?_⟩
 ·obtain⟨i,k,t,hi,hk,rfl,rfl⟩:=key j v hj;rw[Addr.add_lit,←Nat.add_assoc];exact R i k t hi hk
 ·obtain⟨j,hj,rfl⟩:=List.mem_iff_getElem.1 hv;obtain⟨i,k,t,hi,hk,he,_⟩:=key j _ (I1 hj)
  rw[he];exact iN (r i k t hi hk) (x i t hi (y4 hk))
 ·have hj':j<sz:=by rw[←hl i hi];exact(u6.1 hj).1
  exact⟨_,h i j hi hj',r i j t hi hj⟩
def lF(row:Nat->List T)(off:Nat):sE row off=λi=>row (off+i):=by
 cases off with
 |zero=>funext i;simp[sE]
 |succ n=>rfl
def b5Y{w:World}{sz:Nat}{tx e:TypeId}(hd:P.underlying tx=some (.slice e))(a:Option Addr)(c:Nat)(h:c≠0->a.isSome=true):Go.Src P sz tx (.slice a 0 c) 0 [] w:=by
 cases a with
 |none=>
  by_cases C:c=0
  ·subst C;exact Src.ofNil (P:=P) w hd 0
  ·have:=h C;cases this
 |some a=>exact Src.ofSlice (P:=P) w hd a 0 c [] W7 (λj u h=>L4) (λ_ h=>F3)
def oD{off n m:Nat}(h:(uF off n m).getD True):off+n<=m:=h
def vS(hH:HeapOk E w H){tx:TypeId}{sz:Nat}{x:T}{v:Value}{S:Sr}(h:wP H (P.underlying tx) sz x=some S)(hs:S.side.getD True)(hx:Rd E w x v):
  ∃N,Go.Src P sz tx v S.n N w/\(∀i,i<S.n->(S.row i).length=sz)/\(∀i t,i<S.n->t ∈ S.row i->H7 t=true)/\(S.cl=true->∀i t,i<S.n->t ∈ S.row i->W5 t=true)/\
   ∀i j t,i<S.n->(S.row i)[j]? =some t->∃u,N[i*sz+j]? =some u/\Rd E w t u:=by
 unfold wP at h;split at h
 ·rename_i e sz' n row hd;split at h
  ·rename_i hbeq;obtain rfl:=F5 hbeq;simp only[X0] at h;subst h;cases hx with
   |slEmp _ _ a=>exact⟨[],Src.ofSlice (P:=P) w hd a 0 0 [] W7 (λj u h=>L4) (λ_ h=>F3),λi hi=>absurd hi W7,λi t hi=>absurd hi W7,λ_ i t hi=>absurd hi W7,λi j t hi=>absurd hi W7⟩
   |slNil=>exact⟨[],Src.ofNil (P:=P) w hd 0,λi hi=>absurd hi W7,λi t hi=>absurd hi W7,λ_ i t hi=>absurd hi W7,λi j t hi=>absurd hi W7⟩
   |sl _ _ _ b off cap u hN l hl f r q=>
    obtain⟨N,C,d⟩:=a3P (P:=P) (cap:=cap) hd hl (λi t hi h=>(f i t hi h).1) r q
    exact⟨N,C,hl,λi t hi h=>(f i t hi h).1,λ_ i t hi h=>(f i t hi h).2,d⟩
  ·cases h
 ·rename_i e hd;simp only[X0] at h;subst h;rw[vP hx];exact⟨[],Src.ofNil (P:=P) w hd 0,λi hi=>absurd hi W7,λi t hi=>absurd hi W7,λ_ i t hi=>absurd hi W7,λi j t hi=>absurd hi W7⟩
 ·rename_i e k off n hd;split at h
  ·rename_i cl ty sz' m row hk;split at h
   ·rename_i hbeq;obtain rfl:=F5 hbeq;simp only[X0] at h;subst h;have hle:=oD hs;obtain⟨hL,⟨hz,hn,hl,hone,hcl,cs,ty,hb,hsz,hc⟩,hN⟩:=hH.live _ _ hk;simp only[Ob.toArr] at hz hn hl hone hcl hsz hc;cases hx with
    |osl _ _ _ o a _ z ho A=>
     simp only[lF];by_cases g:n=0
     ·subst g;refine⟨[],b5Y hd a _ (λB=>A Z9▸rfl),λi hi=>absurd hi W7,λi t hi=>absurd hi W7,λ_ i t hi=>absurd hi W7,λi j t hi=>absurd hi W7⟩
     ·have hob:o=off*sz:=by rw[ho (.inl Z9),hz]
      have hb:=hb Z9
      rw[A Z9]
      obtain⟨N,C,d⟩:=a3P (P:=P) (E:=E) (n:=n) (cap:=E.κ k-off) (b:=E.β k) (o:=o) (row:=λi=>row (off+i)) (u:=λi j=>(cs[(off+i)*sz+j]?).getD undef) hd (λi hi=>hl _ Z9) (λi t hi h=>hone _ t Z9 h)
       (λi j t hi hj=>by
        obtain⟨u,U,_⟩:=hc (off+i) j t Z9 hj
        rw[S2 hb,hob,←Nat.add_mul,U];rfl)
       (λi j t hi hj=>by
        obtain⟨u,U,r⟩:=hc (off+i) j t Z9 hj
        rw[U];exact r)
      exact⟨N,C,λi hi=>hl _ (by have:i<n:=hi;omega),λi t hi h=>hone _ t (by have:i<n:=hi;omega) h,λhc i t hi h=>hcl hc _ t (by have:i<n:=hi;omega) h,d⟩
   ·cases h
  ·cases h
 ·cases h
def c9{e:TypeId}{i:TypeInfo}{z:List T}(hi:P.info? e=some i)(Z:zeroCells P e=some z):∃v,i.zero=some v/\v.cells.size=z.length:=by
 obtain⟨v,_,l,I,h,V⟩:=e9 (P:=P) (E:=⟨λ_=>False,λ_=>False,λ_=>0,λ_=>0,λ_=>(0,[]),λ_ _=>False,λ_ _ _ _=>0,λ_ _ _ _=>0⟩) (w:=default) Z
 rw[hi] at h;simp only[X0] at h;subst h;exact⟨v,V,l.1.symm⟩
def Inv.appended(h:Inv c E H w){sz n m:Nat}{old:Nat->Option Value}{f:List Value}{g:Option Nat}{r:Value}{w':World}(ha:Appended w sz n m old f g r w'∨(n+m=0/\w'=w/\∃a,r= .slice a 0 0))
  (H1:X9) (Gv:Nat->Prop) (C:H1.length=H.length) (O:∀i o,Y4 H1 i=some o->Y4 H i=some o/\¬Gv i) (hg:∀b,g=some b->∃k o,Gv k/\Y4 H k=some o/\A3 E k o b) (ob:Ob) (hsz:ob.toArr.sz=sz) (hn:ob.toArr.n=n+m)
  (hl:∀i,i<n+m->(ob.toArr.row i).length=sz) (hone:∀i t,i<n+m->t ∈ ob.toArr.row i->H7 t=true) (hcl:ob.toArr.cl=true->∀i t,i<n+m->t ∈ ob.toArr.row i->W5 t=true)
  (J:∀i j t,i<n->(ob.toArr.row i)[j]? =some t->∃u,old (i*sz+j)=some u/\Rd E w t u)
  (hnew:∀i j t,i<m->(ob.toArr.row (n+i))[j]? =some t->∃u,f[i*sz+j]? =some u/\Rd E w t u) (hia:ob.isArr=true:=by rfl):
  ∃E',Rd E' w' (.osl H.length 0 (n+m)) r/\Inv c E' (H1++[some ob]) w'/\Step E w E' w':=by
 have aa:∀v ty sz n row,ob≠ .fam v ty sz n row:=by rintro v ty sz n row rfl;cases hia
 have F:¬E.L H.length:=λhL=>by have:=h.heap.lt _ hL;omega
 have key:∀i o,Y4 (H1++[some ob]) i=some o->(Y4 H1 i=some o/\i≠H.length)∨(i=H.length/\o=ob):=λi o hi=>by
  rw[k6,C] at hi;split at hi
  ·exact .inl ⟨hi,Z9⟩
  ·split at hi
   ·simp only[X0] at hi;exact .inr ⟨by assumption,hi.symm⟩
   ·cases hi
 have fin:∀(b κ:Nat) (cs:Array Value) (ty:TypeId),w'.os=w.os->w'.tape=w.tape->w'.output=w.output->w.heap.size<=w'.heap.size->(∀x,E.N x->w'.heap[x]? =w.heap[x]?)->
   (κ≠0->w.heap.size<=b∨∃k o,Gv k/\Y4 H k=some o/\A3 E k o b)->(∀x,x<w.heap.size->(∀k o,Gv k->Y4 H k=some o->¬A3 E k o x)->w'.heap[x]? =w.heap[x]?)->
   (κ≠0->w'.heap[b]? =some (.cells cs ty (0,0)))->κ*sz<=cs.size->n+m<=κ->(∀i j t,i<n+m->(ob.toArr.row i)[j]? =some t->∃u,cs[i*sz+j]? =some u/\Rd E w t u)->
   Inv c (E.push H.length b κ sz) (H1++[some ob]) w'/\Step E w (E.push H.length b κ sz) w':=by
  intro b κ cs ty V U hp hs hN hb hw hblk hcs hκ hrow;have hbk:(E.push H.length b κ sz).β H.length=b:=if_pos rfl;have hκk:(E.push H.length b κ sz).κ H.length=κ:=if_pos rfl;have hzk:(E.push H.length b κ sz).z H.length=(sz,[]):=if_pos rfl;have q:Step E w (E.push H.length b κ sz) w':=⟨Env.push_le F,hN,λi hi=>hi.elim .inl λe=>.inr λj hj=>e▸h.heap.lt j hj⟩
  refine⟨h.to V U hp hs q H.length Gv (λ_ h=>h) (λi o hi Q=>?_) (λo hi=>?_) hw (λi hi=>?_) (λi v hv=>.inl (h.heap.l2 i v hv)) (λo i v hi hv=>?_),q⟩
  ·rcases key i o hi with⟨h1,_⟩|⟨h1,_⟩
   ·exact O i o h1
   ·exact absurd h1 Q
  ·rcases key _ o hi with⟨_,h1⟩|⟨_,rfl⟩
   ·exact absurd rfl h1
   ·refine⟨.inr rfl,T5.ob ⟨by rw[hzk];exact hsz.symm,by rw[hκk,hn];exact hκ,λi hi=>by rw[hsz];exact hl i Z9,λi t hi=>hone i t Z9,λhc i t hi=>hcl hc i t Z9,cs,ty,by rw[hκk,hbk];exact hblk,by rw[hκk,hsz,hzk];exact a9m hcs,λi j t hi hj=>?_⟩ hia,λx hx=>?_⟩
    ·obtain⟨u,hu,hr⟩:=hrow i j t Z9 hj
     exact⟨u,by rw[hsz];exact hu,q.rd hr⟩
    ·obtain⟨h1,rfl⟩:=hx.arr hia;rw[hκk] at h1;rw[hbk];exact hb h1
  ·rcases hi with hi|rfl
   ·have:=h.heap.lt i hi;simp;omega
   ·simp;omega
  ·rcases key i o hi with⟨h1,_⟩|⟨rfl,rfl⟩
   ·exact h.heap.cur i o v (O i o h1).1 hv
   ·exact absurd (h.heap.l2 _ v hv) F
 rcases ha with ha|⟨h0,rfl,a,rfl⟩
 ·obtain⟨V,U,hp,l,I,b,cap,cs,Z,rfl,d,hblk,hcs,X,A,W⟩:=ha;have R:∀x,x<w.heap.size->(∀k o,Gv k->Y4 H k=some o->¬A3 E k o x)->w'.heap[x]? =w.heap[x]? :=λx hx hn=>I x hx λe=>by
   obtain⟨k,o,h1,B,Y⟩:=hg x e.symm;exact hn k o h1 B Y
  have hN:∀x,E.N x->w'.heap[x]? =w.heap[x]? :=λx hx=>R x (h.nlt x hx) λk o _ B Y=>(h.heap.live k o B).2.2 x Y hx
  have hrow:∀i j t,i<n+m->(ob.toArr.row i)[j]? =some t->∃u,cs[i*sz+j]? =some u/\Rd E w t u:=by
   intro i j t hi hj;have ab:j<sz:=by rw[←hl i hi];exact(u6.1 hj).1
   by_cases M:i<n
   ·obtain⟨u,hu,hr⟩:=J i j t M hj;have:(i+1)*sz<=n*sz:=kJ _ M;rw[Nat.add_mul] at this;exact⟨u,by rw[A _ Z9];exact hu,hr⟩
   ·obtain⟨u,hu,hr⟩:=hnew (i-n) j t Z9 (by rw[show n+(i-n)=i by omega];exact hj)
    have B:(i-n+1)*sz<=m*sz:=kJ _ Z9
    rw[Nat.add_mul] at B;refine⟨u,?_,hr⟩
    rw[show i*sz+j=n*sz+((i-n)*sz+j) by rw[←Nat.add_assoc,←Nat.add_mul,show n+(i-n)=i by omega]]
    rw[W _ Z9]
    exact hu
  have:=fin b cap cs Z V U hp l hN (λ_=>by rcases X with h1|h1;exact .inl h1.1;exact .inr (hg b h1)) R (λ_=>hblk) hcs d hrow
  exact⟨_,a1F d,this.1,this.2⟩
 ·have:=fin 0 0 #[] 0 rfl rfl rfl (U9 _) (λ_ _=>rfl) (λh=>absurd rfl h) (λ_ _ _=>rfl) (λh=>absurd rfl h) W7 Z9 (λi j t hi=>Z9)
  refine⟨_,?_,this.1,this.2⟩
  have hr:=Rd.osl (E:=E.push H.length 0 0 sz) (w:=w') H.length 0 (n+m) 0 a (.inr rfl) (by rw[show(E.push H.length 0 0 sz).κ H.length=0 from if_pos rfl];omega) (λ_=>W7) (λh=>absurd (if_pos rfl) h)
  rw[show(E.push H.length 0 0 sz).κ H.length=0 from if_pos rfl,h0] at hr
  rw[h0];exact hr
def a2s{k n:Nat}{A:Arr}{v:Value}(z:T5 E w k A)(N:n<=A.n)(hd:Rd E w (.osl k 0 n) v):∃(cs:Array Value) (g:Option Nat),
  ((∃a,v= .slice a 0 0/\n=0/\g=none)∨∃b cap cur tyb,v= .slice (some ⟨b,0,none⟩) n cap/\g=some b/\w.heap[b]? =some (.cells cur tyb (0,0))/\n<=cap/\cap*A.sz<=cur.size/\∀j,j<n*A.sz->cur[j]? =cs[j]?)/\
  (∀b,g=some b->E.κ k≠0/\b=E.β k)/\∀i j t,i<A.n->(A.row i)[j]? =some t->∃u,cs[i*A.sz+j]? =some u/\Rd E w t u:=by
 obtain⟨Z,r,B,l,L,cs,ty,d,f,C⟩:=z;cases hd with
 |osl _ _ _ o a _ q O x=>
  obtain rfl:o=0:=by rw[O (.inr rfl),Nat.zero_mul]
  by_cases e:E.κ k=0
  ·refine⟨cs,none,.inl ⟨a,by rw[e,show n=0 by omega],Z9,rfl⟩,λb h=>F3,C⟩
  ·refine⟨cs,some (E.β k),.inr ⟨_,_,cs,ty,by rw[x e,Nat.sub_zero],rfl,d e,Z9,f.le,λ_ _=>rfl⟩,λb h=>⟨e,(Option.some.inj h).symm⟩,C⟩
def nB{k:Nat}{O:Ob}(d:Y4 H k=some O):∀i o,Y4 (H.set k none) i=some o->Y4 H i=some o/\¬i=k:=by
 intro i o hi;rw[U2 (G1 d)] at hi;split at hi
 ·cases hi
 ·rename_i h;exact⟨hi,h⟩
theorem M8{row row':Nat->List T}{n r:Nat}(h:r<n):X4 row n row' r=row r:=by
 unfold X4;rw[show Nat.blt r n=true from by simp[Nat.blt];omega]
theorem N3{row row':Nat->List T}{n r:Nat}(h:¬r<n):X4 row n row' r=row' (r-n):=by
 unfold X4;rw[show Nat.blt r n=false from Bool.eq_false_iff.2 λd=>h (yH d)]
def qS(l:Bz)(i:Nat)(t:T)(h:t ∈ B5 l i):H7 t=true/\W5 t=true:=by
 simp[B5] at h;subst h;exact⟨rfl,rfl⟩
def lK{l:Bz}{i j:Nat}{t:T}(h:(B5 l i)[j]? =some t):j=0/\t= .int .u8 ((l.getD i 0).toNat:Int):=by
 have J:j=0:=by
  have:=(u6.1 h).1
  simp[B5] at this;exact this
 subst J;simp[B5] at h;exact⟨rfl,h.symm⟩
def a0I{l:Bz}{i:Nat}(hi:i<l.length):∃u,(l.map λx=>Value.int .u8 (x.toNat:Int))[i*1+0]? =some u/\Rd E w (.int .u8 ((l.getD i 0).toNat:Int)) u:=by
 refine⟨.int .u8 (l[i].toNat:Int),by simp[hi],?_⟩
 rw[show l.getD i 0=l[i] by simp[List.getD,hi]]
 exact .int _ _
def c38(hH:HeapOk E w H){tx e:TypeId}(hd:P.underlying tx=some (.slice e)){sz:Nat}{x:T}{v:Value}{S:SrF}(h:c3y H sz x=some S)(hs:S.side.getD True)(hx:Rd E w x v)(hnd:S.ks.Nodup):
  ∃(news:List Value) (sm:Nat->Option Nat),Go.Src P sz tx v S.n news w/\(∀i,i<S.n->(S.row i).length=sz)/\
   (∀i j t,i<S.n->(S.row i)[j]? =some t->∃u,news[i*sz+j]? =some u/\((closedOne t=true/\Rd E w t u)∨∃m nn N oty osz orow,t= .own oty osz nn orow/\Rd E w (.osl m 0 nn) u/\Y4 H m=some (.arr true oty osz N orow)/\nn<=N/\m ∈ S.ks/\i=0/\sm j=some m))/\
   ∀j j' m,sm j=some m->sm j'=some m->j=j':=by
 unfold c3y at h;split at h
 case h_2=>cases h
 rename_i k off n;split at h
 ·rename_i ty sz' m row hk;split at h
  case h_2=>cases h
  rename_i hbeq;simp only[X0] at h;subst h;have hT:wP H (P.underlying tx) sz (.osl k off n)=some ⟨true,n,sE row off,uF off n m⟩:=by
   simp only[wP,hd,hk,hbeq]
  obtain⟨news,h1,h2,h3,h4,h5⟩:=vS (P:=P) hH hT hs hx;refine⟨news,λ_=>none,h1,h2,λi j t hi hj=>?_,λj j' m h=>F3⟩
  obtain⟨u,hu,hr⟩:=h5 i j t hi hj;have hm:=y4 hj;exact⟨u,hu,.inl ⟨by simp[closedOne,h3 i t hi hm,h4 rfl i t hi hm],hr⟩⟩
 ·rename_i ty sz' m row hk;split at h
  case h_2=>cases h
  rename_i hbeq;split at h
  case h_2=>cases h
  rename_i A hA;simp only[X0] at h;subst h;have hT:wP H (P.underlying tx) sz (.osl k 0 1)=some ⟨false,1,sE row 0,uF 0 1 1⟩:=by
   simp only[wP,hd,hk,hbeq]
  obtain⟨news,h1,h2,h3,h4,h5⟩:=vS (P:=P) hH hT (U9 1) hx;have hR:=fB hA hs;refine⟨news,uO (row 0),h1,λi hi=>by rw[hR.length];exact h2 0 (Nat.lt_succ_self 0),λi j t hi hj=>?_,λj j' m h h'=>hR.inj hnd h h'⟩
  obtain rfl:i=0:=by have:i<1:=hi;omega
  rcases hR.get hj with⟨g1,g2⟩|⟨m,nn,N,oty,osz,orow,rfl,g2,g3,g4,g5⟩
  ·obtain⟨u,hu,hr⟩:=h5 0 j t (Nat.lt_succ_self 0) g2;exact⟨u,hu,.inl ⟨g1,hr⟩⟩
  ·obtain⟨u,hu,hr⟩:=h5 0 j _ (Nat.lt_succ_self 0) g2;exact⟨u,hu,.inr ⟨m,nn,N,oty,osz,orow,rfl,hr,g3,g4,g5,rfl,by simp[uO,g2]⟩⟩
 ·cases h
def a7g(h:Inv c E H w){t tx ty e:TypeId}{i:TypeInfo}{z:List T}{zv:Value}{k n vv N:Nat}{B:TypeId}{row:Nat->List T}{x:T}{S:SrF}{dv xv:Value}{e2:TypeId}(ht:P.underlying t=some (.slice e))(hi:P.info? e=some i)(_hz:zeroCells P e=some z)
  (V:i.zero=some zv) (R:zv.cells.size=i.size) (hk:Y4 H k=some (.fam vv B i.size N row)) (ad:P.underlying tx=some (.slice e2)) (ah:c3y H i.size x=some S) (d:kO (k::S.ks)=true) (ae:S.side.getD True) (ab:n<=N) (af:U8 n S.n i.bytes)
  (hd:Rd E w (.osl k 0 n) dv) (hx:Rd E w x xv):
  ∃r w' E',(Builtin.append_ #[t,tx] ty #[dv,xv]).run P w= .ok r w'/\Rd E' w' (.osl H.length 0 (n+S.n)) r/\Inv c E' (D0 H (k::S.ks)++[some (.fam 0 e i.size (n+S.n) (X4 row n S.row))]) w'/\Step E w E' w':=by
 have d:=aO d;obtain⟨J,d⟩:=List.nodup_cons.1 d;obtain⟨C,sm,I,X,hnews,Q⟩:=c38 (P:=P) h.heap ad ah ae hx d;obtain⟨hL,hF,hN⟩:=h.heap.live _ _ hk;have hF:FamOk E w k vv B i.size N row:=hF;obtain⟨cs,g,ac,hg,hc⟩:=a2s hF.arr ab hd;obtain⟨r,w',f,ha⟩:=B7 (P:=P) (ty:=ty) ht hi V R I n af dv (λj=>cs[j]?) g ac
 have U:∀r,r<N->(row r).length=i.size:=λr hr=>(by have:=hF.arr.2.2.1 r hr;rwa [O5] at this)
 have l:¬E.L H.length:=λhL=>by have:=h.heap.lt _ hL;omega
 let Ss:c6k:=λr q=>if r<n then .inl (r,q) else match sm q with|some m=>.inr m|none=>.inl (0,0)
 have A:∀r,r<n+S.n->(X4 row n S.row r).length=i.size:=λr hr=>by
  by_cases h1:r<n
  ·rw[M8 h1];exact U r Z9
  ·rw[N3 h1];exact X _ Z9
 have fin:∀(b κ:Nat) (cs':Array Value) (tyc:TypeId),w'.os=w.os->w'.tape=w.tape->w'.output=w.output->w.heap.size<=w'.heap.size->
   (∀x,x<w.heap.size->(E.κ k≠0->x≠E.β k)->w'.heap[x]? =w.heap[x]?)->(κ≠0->w.heap.size<=b∨(E.κ k≠0/\b=E.β k))->
   (κ≠0->w'.heap[b]? =some (.cells cs' tyc (0,0)))->κ*i.size<=cs'.size->n+S.n<=κ->(∀j,j<n*i.size->cs'[j]? =cs[j]?)->(∀j,j<S.n*i.size->cs'[n*i.size+j]? =C[j]?)->
   ∃E',E'.κ H.length=κ/\E'.β H.length=b/\E'.z H.length=(i.size,[])/\E'.L H.length/\Inv c E' (D0 H (k::S.ks)++[some (.fam 0 e i.size (n+S.n) (X4 row n S.row))]) w'/\Step E w E' w':=by
  intro b κ cs' tyc ho htp hop Z hoth hb hblk hcs hκ hcold hcnew;have ag:∀x,E.N x->w'.heap[x]? =w.heap[x]? :=λx hx=>hoth x (h.nlt x hx) λhκ e=>hN x (.inl ⟨hκ,e⟩) hx
  let E1:=E.push H.length b κ i.size
  have F:E.le E1:=Env.push_le l;have ai:¬E1.L2 H.length 0:=λhu=>l (h.heap.l2 _ _ hu)
  let E':=E1.bump H.length 0 (λr q=>pX E k vv (Ss r q)) (λr q=>jP E k vv (Ss r q))
  have hst:Step E w E' w':=⟨F.trans (Env.bump_le ai),ag,λi hi=>hi.elim .inl λe=>.inr λj hj=>e▸h.heap.lt j hj⟩
  have hb2:∀r q,E'.b2 H.length 0 r q=pX E k vv (Ss r q):=λr q=>if_pos ⟨rfl,rfl⟩
  have hc2:∀r q,E'.c2 H.length 0 r q=jP E k vv (Ss r q):=λr q=>if_pos ⟨rfl,rfl⟩
  have hbk:E'.β H.length=b:=if_pos rfl;have hκk:E'.κ H.length=κ:=if_pos rfl;have v:E'.z H.length=(i.size,[]):=if_pos rfl;have key:∀q o,Y4 (D0 H (k::S.ks)++[some (.fam 0 e i.size (n+S.n) (X4 row n S.row))]) q=some o->(Y4 H q=some o/\q ∉ k::S.ks/\q≠H.length)∨(q=H.length/\o= .fam 0 e i.size (n+S.n) (X4 row n S.row)):=λq o hq=>by
   rw[k6,G2] at hq;split at hq
   ·obtain⟨g1,g2⟩:=L8 hq;exact .inl ⟨g1,g2,Z9⟩
   ·split at hq
    ·simp only[X0] at hq;exact .inr ⟨by assumption,hq.symm⟩
    ·cases hq
  have other:∀x,((∃r q,x=E.b2 k vv r q/\E.c2 k vv r q≠0/\a8T E k (.fam vv B i.size N row) x)∨∃m o,m≠k/\Y4 H m=some o/\A3 E m o x)->x<w.heap.size/\(E.κ k≠0->x≠E.β k):=by
   intro x hx;rcases hx with⟨r,q,rfl,al,v0,W,Y,n0,P1,i0,j0,oty,osz,on,orow,hobe,hi0,hj0,hc0,he0⟩|⟨m,o,aa,hmo,hmb⟩
   ·simp only[Ob.fam.injEq] at hobe;obtain⟨rfl,rfl,rfl,rfl,rfl⟩:=hobe;refine⟨h.heap.blt hk (.inr ⟨_,_,_,_,_,i0,j0,oty,osz,on,orow,rfl,hi0,hj0,hc0,he0⟩),λhκ0=>?_⟩
    rw[he0];exact(hF.own i0 j0 _ _ _ _ hi0 hj0).2 hc0 hκ0
   ·refine⟨h.heap.blt hmo hmb,λhκ0=>?_⟩
    rintro rfl;exact aa (h.heap.inj m k _ _ _ hmo hk hmb (.inl ⟨hκ0,rfl⟩))
  have cells:∀r q t,r<n+S.n->(X4 row n S.row r)[q]? =some t->∃u,cs'[r*i.size+q]? =some u/\((closedOne t=true/\Rd E w t u)∨∃oty osz on orow,t= .own oty osz on orow/\a9V E w H k vv N row osz on orow u (Ss r q)/\(r<n∨∃m,¬r<n/\r-n=0/\sm q=some m/\m ∈ S.ks/\Ss r q= .inr m)):=by
   intro r q t hr hq;have am:q<i.size:=by rw[←A r hr];exact(u6.1 hq).1
   by_cases h1:r<n
   ·rw[M8 h1] at hq;obtain⟨u,hu,hru⟩:=hc r q (rV k vv r q t) M0 (by simp only;rw[I5,hq];rfl)
    have:(r+1)*i.size<=n*i.size:=kJ _ h1;rw[Nat.add_mul] at this;refine⟨u,by rw[hcold _ Z9];exact hu,?_⟩
    rcases hF.cell (show r<N by omega) hq with hcl|⟨oty,osz,on,orow,rfl⟩
    ·rw[M1 hcl] at hru;exact .inl ⟨hcl,hru⟩
    ·refine .inr ⟨_,_,_,_,rfl,?_,.inl h1⟩
     rw[show Ss r q= .inl (r,q) from if_pos h1]
     exact⟨show r<N by omega,⟨_,hq⟩,hru⟩
   ·rw[N3 h1] at hq;obtain⟨u,hu,hru⟩:=hnews (r-n) q t Z9 hq
    have h2:(r-n+1)*i.size<=S.n*i.size:=kJ _ Z9
    rw[Nat.add_mul] at h2;refine⟨u,?_,?_⟩
    ·rw[show r*i.size+q=n*i.size+((r-n)*i.size+q) by rw[←Nat.add_assoc,←Nat.add_mul,show n+(r-n)=r by omega]]
     rw[hcnew _ Z9]
     exact hu
    ·rcases hru with hru|⟨m,nn,NN,oty,osz,orow,rfl,g1,g2,g3,g4,g5,g6⟩
     ·exact .inl hru
     ·have hSs:Ss r q= .inr m:=by simp only[Ss,if_neg h1,g6]
      refine .inr ⟨_,_,_,_,rfl,?_,.inr ⟨m,h1,g5,g6,g4,hSs⟩⟩
      rw[hSs];exact⟨λe=>J (e▸g4),⟨_,_,g2,g3⟩,g1⟩
  have hFam:FamOk E' w' H.length 0 e i.size (n+S.n) (X4 row n S.row):=by
   refine a3q (E:=E) (w:=w) h.heap hst hk Ss (.inr ⟨rfl,rfl⟩) hb2 hc2 (by rw[v]) (by rw[hκk];exact hκ) cs' tyc (by rw[hκk,hbk];exact hblk) (by rw[hκk,v];exact a9m hcs) A (λr q t hr hq=>?_) (λi1 j1 i2 j2 oty osz on orow ak aj an orow' h1 h2 h3 h4 h5=>?_) (λx hx=>hoth x (other x hx).1 (other x hx).2) (λx hx hκ0=>?_)
   ·obtain⟨u,hu,h1|⟨oty,osz,on,orow,rfl,h1,_⟩⟩:=cells r q t hr hq
    ·exact⟨u,hu,.inl h1⟩
    ·exact⟨u,hu,.inr ⟨_,_,_,_,rfl,h1⟩⟩
   ·obtain⟨_,_,hc1|⟨_,_,_,_,_,_,p1⟩⟩:=cells i1 j1 _ h1 h3
    ·simp[closedOne,W5] at hc1
    obtain⟨_,_,hc1|⟨_,_,_,_,_,_,p2⟩⟩:=cells i2 j2 _ h2 h4
    ·simp[closedOne,W5] at hc1
    rcases p1 with p1|⟨m1,p1,p3,p5,p7,p9⟩
    ·rcases p2 with p2|⟨m2,p2,p4,p6,p8,p10⟩
     ·rw[show Ss i1 j1= .inl (i1,j1) from if_pos p1,show Ss i2 j2= .inl (i2,j2) from if_pos p2] at h5
      simp only[Sum.inl.injEq,U4] at h5;exact h5
     ·rw[show Ss i1 j1= .inl (i1,j1) from if_pos p1,p10] at h5
      cases h5
    ·rcases p2 with p2|⟨m2,p2,p4,p6,p8,p10⟩
     ·rw[show Ss i2 j2= .inl (i2,j2) from if_pos p2,p9] at h5
      cases h5
     ·rw[p9,p10] at h5;simp only[Sum.inr.injEq] at h5;subst h5;exact⟨Z9,Q _ _ _ p5 p6⟩
   ·rw[hκk] at hκ0;rw[hbk];obtain⟨o1,o2⟩:=other x hx;rcases hb hκ0 with h1|⟨h1,rfl⟩
    ·omega
    ·exact o2 h1
  refine⟨E',hκk,hbk,v,.inr rfl,h.to ho htp hop Z hst H.length (λm=>m ∈ k::S.ks) (λ_ h=>h) (λq o hq M=>?_) (λo hq=>?_) (λx hx hn=>hoth x hx λhκ0 e=>hn k _ W7 hk (.inl ⟨hκ0,e⟩)) (λq hq=>?_) (λq u hu=>?_) (λo q u hq hu=>?_),hst⟩
  ·rcases key q o hq with⟨g1,g2,_⟩|⟨g1,_⟩
   ·exact⟨g1,g2⟩
   ·exact absurd g1 M
  ·rcases key _ o hq with⟨_,_,g1⟩|⟨_,rfl⟩
   ·exact absurd rfl g1
   ·refine⟨.inr rfl,hFam,λx hx=>?_⟩
    rcases hx with⟨g1,rfl⟩|⟨v0,W,Y,n0,P1,i0,j0,oty,osz,on,orow,hobe,hi0,hj0,hc0,rfl⟩
    ·rw[hκk] at g1;rw[hbk];rcases hb g1 with g2|g2
     ·exact .inl g2
     ·exact .inr ⟨k,_,W7,hk,.inl g2⟩
    ·simp only[Ob.fam.injEq] at hobe;obtain⟨rfl,rfl,rfl,rfl,rfl⟩:=hobe;rw[hc2] at hc0;rw[hb2];obtain⟨_,_,hc1|⟨_,_,_,_,he1,hs1,p1⟩⟩:=cells i0 j0 _ hi0 hj0
     ·simp[closedOne,W5] at hc1
     ·rcases p1 with p1|⟨m1,p1,p3,p5,p7,p9⟩
      ·rw[show Ss i0 j0= .inl (i0,j0) from if_pos p1] at hs1 hc0 ⊢
       obtain⟨q1,⟨O,q2⟩,_⟩:=hs1;exact .inr ⟨k,_,W7,hk,.inr ⟨_,_,_,_,_,_,_,_,_,_,_,rfl,q1,q2,hc0,rfl⟩⟩
      ·rw[p9] at hs1 hc0 ⊢;obtain⟨_,⟨O,N1,q2,_⟩,_⟩:=hs1;exact .inr ⟨m1,_,by simp[p7],q2,.inl ⟨hc0,rfl⟩⟩
  ·rcases hq with hq|rfl
   ·have:=h.heap.lt q hq;simp[G2];omega
   ·simp[G2]
  ·rcases hu with hu|⟨rfl,_⟩
   ·exact .inl (h.heap.l2 _ _ hu)
   ·exact .inr rfl
  ·rcases key q o hq with⟨g1,_,g2⟩|⟨rfl,rfl⟩
   ·rcases hu with hu|⟨e1,_⟩
    ·exact h.heap.cur _ _ _ g1 hu
    ·exact absurd e1 g2
   ·refine⟨_,_,_,_,_,rfl,?_⟩
    rcases hu with hu|⟨_,rfl⟩
    ·exact absurd (h.heap.l2 _ _ hu) l
    ·exact U9 _
 rcases ha with ha|⟨h0,rfl,a,rfl⟩
 ·obtain⟨ho,htp,hop,hsize,hoth,b,cap,cs',tyc,rfl,hcap,hblk,hcs,hbg,hcold,hcnew⟩:=ha;obtain⟨E',e1,e2,e3,e4,hI,hst⟩:=fin b cap cs' tyc ho htp hop hsize (λx hx hn=>hoth x hx λe=>by obtain⟨g1,g2⟩:=hg x e.symm;exact hn g1 g2) (λ_=>by rcases hbg with h1|h1;exact .inl h1.1;exact .inr (hg b h1)) (λ_=>hblk) hcs hcap hcold hcnew
  refine⟨_,w',E',f,?_,hI,hst⟩
  have:=Rd.osl (E:=E') (w:=w') H.length 0 (n+S.n) 0 (some ⟨b,0,none⟩) e4 (by rw[e1];omega) (λ_=>W7) (λ_=>by rw[e2])
  rw[e1] at this;exact this
 ·obtain⟨E',e1,e2,e3,e4,hI,hst⟩:=fin 0 0 #[] 0 rfl rfl rfl (U9 _) (λ_ _ _=>rfl) (λh=>absurd rfl h) (λh=>absurd rfl h) W7 Z9 (λj hj=>by rw[show n=0 by omega] at hj;omega) (λj hj=>by rw[show S.n=0 by omega] at hj;omega)
  refine⟨_,_,E',f,?_,hI,hst⟩
  have hr:=Rd.osl (E:=E') (w:=w') H.length 0 (n+S.n) 0 a e4 (by rw[e1];omega) (λ_=>W7) (λh=>absurd e1 h)
  rw[e1,h0] at hr;rw[h0];exact hr
def c26{d:Option TypeDesc}{x:T}{n:Int}(h:c6F d x=some n):∃kn kx,d=some (.int kn)/\x= .int kx n:=by
 unfold c6F at h;split at h
 ·simp only[X0] at h;subst h;exact⟨_,_,rfl,rfl⟩
 ·cases h
def c37{z:Array Value}{n r q:Nat}(R:r<n)(h:q<z.size):(Builtin.zeroCells z n).toList[r*z.size+q]? =z[q]? :=by
 have t:r*z.size+q<n*z.size:=by
  have:(r+1)*z.size<=n*z.size:=kJ _ R;rw[Nat.add_mul] at this;omega
 rw[Array.getElem?_toList]
 unfold Builtin.zeroCells;simp only[Array.getElem?_map,Array.getElem?_range]
 rw[if_pos t];simp only[h9];rw[show(r*z.size+q) % z.size=q by rw[Nat.add_comm,Nat.add_mul_mod_self_right,Nat.mod_eq_of_lt h]]
 rw[tB h,getElem!_pos z q h]
def bG{t tx ty e:TypeId}{i:TypeInfo}{z:Value}{N k:IntKind}(l:P.underlying t=some (.slice e))(n:P.underlying tx=some (.int N))(hi:P.info? e=some i)(q:i.zero=some z)(h:z.cells.size=i.size){m:Nat}(o:0<m)(Z:0<i.size)(B:U8 0 m i.bytes):
  ∃r w',(Builtin.append_ #[t,tx] ty #[.slice none 0 0,.int k m]).run P w= .ok r w'/\Appended w i.size 0 m (λ_=>none) (Builtin.zeroCells z.cells m).toList none r w':=by
 obtain⟨f,d⟩:=B;rw[D4] at f d;have R:=Lib.run_append_nil_zeros (P:=P) w t tx ty e i z k N l n hi q m o Z Z9 Z9
 have g:=grownCap_ge w m 0 e;refine⟨_,_,R,rfl,rfl,rfl,W7,λb B _=>heap_alloc_old w.drew _ B,w.heap.size,grownCap w m 0 e,_,_,(by rw[D4]),Z9,heap_alloc_new w.drew _,?_,.inl ⟨U9 _,λ_ A=>heap_alloc_old w.drew _ A⟩,λj J=>absurd J Z9,λj J=>?_⟩
 ·refine Nat.le_of_eq (Eq.symm ?_)
  simp only[Array.size_append,size_zeroCells,h,←Nat.add_mul];rw[show m+(grownCap w m 0 e-m)=grownCap w m 0 e by omega]
 ·rw[Array.getElem?_append_left (by rw[size_zeroCells,h];omega),Array.getElem?_toList,Nat.zero_mul,D4]
theorem kF(h:Inv c E H w){t tx ty:TypeId}{d x:T}{dv xv:Value}{y:T}{H':X9}{side:Option Prop}(he:mY P H t tx d x=some (y,H',side))(hs:side.getD True)(hd:Rd E w d dv)(hx:Rd E w x xv):
  ∃r w' E',(Builtin.append_ #[t,tx] ty #[dv,xv]).run P w= .ok r w'/\Rd E' w' y r/\Inv c E' H' w'/\Step E w E' w':=by
 unfold mY at he;split at he
 case h_2=>cases he
 rename_i e ht;split at he
 case h_2=>cases he
 rename_i i z hi hz;obtain⟨zv,hzv,hzl⟩:=c9 hi hz;split at he
 ·-- a nil slice
  rename_i h1 h2;have hzs:zv.cells.size=i.size:=by rw[hzl];exact F5 h1
  rw[vP hd];split at he
  ·rename_i hb;have hz1:=(xQ hb).2;rw[hz] at hz1;simp only[X0] at hz1;have hs1:i.size=1:=by rw[←F5 h1,hz1];rfl
   cases hsb:b1P H (P.underlying tx) x with
   |none=>rw[hsb] at he;cases he
   |some S=>
    obtain⟨l,ls⟩:=S;rw[hsb] at he;simp only[h9,X0,U4] at he;obtain⟨rfl,rfl,rfl⟩:=he;obtain⟨hls,hpos,hab⟩:=yG hs;have hpos:0<l.length:=hpos;have hsrc:=b1h h.heap hsb hls hx;obtain⟨r,w',hrun,ha⟩:=B7 (P:=P) (ty:=ty) ht hi hzv hzs (by rw[hs1];exact hsrc) 0 hab (.slice none 0 0) (λ_=>none) none (.inl ⟨none,rfl,rfl,rfl⟩)
    rw[hs1] at ha;have:=h.appended ha H (λ_=>False) rfl (λi o h=>⟨h,λh=>h⟩) (λb h=>F3) (.bys e l) rfl a3w (λ_ _=>rfl) (λi t _ ht=>(qS l i t ht).1) (λ_ i t _ ht=>(qS l i t ht).2) (λi j t hi=>absurd hi Z9)
     (λi j t hi hj=>by
      simp only[D4] at hj;obtain⟨rfl,rfl⟩:=lK hj;exact a0I hi)
    obtain⟨E',hr,hI,hst⟩:=this;rw[D4] at hr;exact⟨r,w',E',hrun,hr,hI,hst⟩
  ·split at he
   ·rename_i n hzs0;split at he
    case h_2=>cases he
    rename_i hone;simp only[X0,U4] at he;obtain⟨rfl,rfl,rfl⟩:=he;obtain⟨hn0,hpos,hab⟩:0<=n/\0<n.toNat/\U8 0 n.toNat i.bytes:=hs;obtain⟨kn,kx,htn,rfl⟩:=c26 hzs0;rw[H9 hx];obtain⟨v2,_,hrl,i',hi',hzv'⟩:=e9 (P:=P) (E:=E) (w:=w) hz;rw[hi] at hi';simp only[X0] at hi';subst hi';rw[hzv] at hzv';simp only[X0] at hzv';subst hzv';obtain⟨r,w',hrun,ha⟩:=bG (P:=P) (w:=w) (ty:=ty) (k:=kx) ht htn hi hzv hzs hpos (by have:=Nat.ne_of_beq_eq_false h2;omega) hab
    rw[show((n.toNat:Nat):Int)=n by omega] at hrun
    have hzl':=F5 h1;have:=h.appended (.inl ha) H (λ_=>False) rfl (λi o h=>⟨h,λh=>h⟩) (λb h=>F3) (.arr (z.all W5) e i.size n.toNat λ_=>z) rfl a3w (λ_ _=>hzl') (λ_ t _ ht=>b9.1 hone t ht) (λhc _ t _ ht=>b9.1 hc t ht) (λi j t hi=>absurd hi Z9)
     (λa j t ha hj=>by
      have hj:z[j]? =some t:=hj;have hj':j<z.length:=(u6.1 hj).1
      have hvj:zv.cells[j]? =some (zv.cells[j]' Z9):=tB _
      refine⟨_,?_,hrl.2 _ _ _ hj hvj⟩
      rw[←hzs,c37 ha Z9]
      exact hvj)
    obtain⟨E',hr,hI,hst⟩:=this;rw[D4] at hr;exact⟨r,w',E',hrun,hr,hI,hst⟩
   ·cases hsb:wP H (P.underlying tx) i.size x with
    |none=>rw[hsb] at he;cases he
    |some S=>
     rw[hsb] at he;simp only[h9,X0,U4] at he;obtain⟨rfl,rfl,rfl⟩:=he;obtain⟨hls,hpos,hab⟩:=yG hs;have hpos:0<S.n:=hpos;obtain⟨news,hsrc,hl,hone,hcl,hnews⟩:=vS (P:=P) h.heap hsb hls hx;obtain⟨r,w',hrun,ha⟩:=B7 (P:=P) (ty:=ty) ht hi hzv hzs hsrc 0 hab (.slice none 0 0) (λ_=>none) none (.inl ⟨none,rfl,rfl,rfl⟩)
     have:=h.appended ha H (λ_=>False) rfl (λi o h=>⟨h,λh=>h⟩) (λb h=>F3) (.arr S.cl e i.size S.n S.row) rfl a3w (λi hi=>hl i Z9) (λi t hi ht=>hone i t Z9 ht) (λhc i t hi ht=>hcl hc i t Z9 ht) (λi j t hi=>absurd hi Z9)
      (λi j t hi hj=>by
       simp only[D4] at hj;exact hnews i j t hi hj)
     obtain⟨E',hr,hI,hst⟩:=this;rw[D4] at hr;exact⟨r,w',E',hrun,hr,hI,hst⟩
 ·-- an empty slice
  rename_i h1 h2;have hzs:zv.cells.size=i.size:=by rw[hzl];exact F5 h1
  obtain⟨a0,rfl⟩:∃a0,dv= .slice a0 0 0:=b8y
  split at he
  ·cases he
  ·cases hsb:wP H (P.underlying tx) i.size x with
   |none=>rw[hsb] at he;cases he
   |some S=>
    rw[hsb] at he;simp only[h9,X0,U4] at he;obtain⟨rfl,rfl,rfl⟩:=he;obtain⟨hls,hab⟩:=yG hs;obtain⟨news,hsrc,hl,hone,hcl,hnews⟩:=vS (P:=P) h.heap hsb hls hx;obtain⟨r,w',hrun,ha⟩:=B7 (P:=P) (ty:=ty) ht hi hzv hzs hsrc 0 hab (.slice a0 0 0) (λ_=>none) none (.inl ⟨a0,rfl,rfl,rfl⟩)
    have:=h.appended ha H (λ_=>False) rfl (λi o h=>⟨h,λh=>h⟩) (λb h=>F3) (.arr S.cl e i.size S.n S.row) rfl a3w (λi hi=>hl i Z9) (λi t hi ht=>hone i t Z9 ht) (λhc i t hi ht=>hcl hc i t Z9 ht) (λi j t hi=>absurd hi Z9)
     (λi j t hi hj=>by
      simp only[D4] at hj;exact hnews i j t hi hj)
    obtain⟨E',hr,hI,hst⟩:=this;rw[D4] at hr;exact⟨r,w',E',hrun,hr,hI,hst⟩
 ·rename_i k n h1 h2;have hzs:zv.cells.size=i.size:=by rw[hzl];exact F5 h1
  split at he
  ·-- bytes
   rename_i tyb l hk;split at he
   case h_2=>cases he
   rename_i hb;have hz1:=(xQ hb).2;rw[hz] at hz1;simp only[X0] at hz1;have hbu:i.size=1:=by rw[←F5 h1,hz1];rfl
   cases hsb:b1P H (P.underlying tx) x with
   |none=>rw[hsb] at he;cases he
   |some S=>
    obtain⟨m,ls⟩:=S;rw[hsb] at he;simp only[h9,X0,U4] at he;obtain⟨rfl,rfl,rfl⟩:=he;obtain⟨hls,hle,hab⟩:=yG hs;have hle:n<=l.length:=hle;have hsrc:=b1h h.heap hsb hls hx;have hA:T5 E w k ⟨true,tyb,1,l.length,B5 l⟩:=(h.heap.live _ _ hk).2.1;obtain⟨cs,g,hdd,hg,hc⟩:=a2s hA hle hd;obtain⟨r,w',hrun,ha⟩:=B7 (P:=P) (ty:=ty) ht hi hzv hzs (by rw[hbu];exact hsrc) n hab dv (λj=>cs[j]?) g (by rw[hbu];exact hdd)
    rw[hbu] at ha;have hlen:(l.take n++m).length=n+m.length:=by simp;omega
    have:=h.appended ha (H.set k none) (λi=>i=k) W7 (nB hk) (λb hb=>⟨k,_,rfl,hk,.inl (hg b hb)⟩) (.bys e (l.take n++m)) rfl hlen (λ_ _=>rfl) (λi t _ ht=>(qS _ i t ht).1) (λ_ i t _ ht=>(qS _ i t ht).2)
      (λi j t hi hj=>by
       obtain⟨rfl,rfl⟩:=lK hj;obtain⟨u,hu,hr⟩:=hc i 0 (.int .u8 ((l.getD i 0).toNat:Int)) M0 rfl
       refine⟨u,hu,?_⟩
       rw[show(l.take n++m).getD i 0=l.getD i 0 by
        simp only[List.getD];rw[rL C7,List.getElem?_take,if_pos hi]]
       exact hr)
      (λi j t hi hj=>by
       obtain⟨rfl,rfl⟩:=lK hj;rw[show(l.take n++m).getD (n+i) 0=m.getD i 0 by
        simp only[List.getD];rw[qA C7]
        congr 2
        simp;omega]
       exact a0I hi)
    obtain⟨E',hr,hI,hst⟩:=this;exact⟨r,w',E',hrun,hr,hI,hst⟩
  ·rename_i cl tyb sz N row hk;split at he
   case h_2=>cases he
   rename_i hbeq;obtain rfl:=F5 hbeq;cases hsb:wP H (P.underlying tx) i.size x with
   |none=>rw[hsb] at he;cases he
   |some S=>
    rw[hsb] at he;simp only[h9,X0,U4] at he;obtain⟨rfl,rfl,rfl⟩:=he;obtain⟨hls,hle,hab⟩:=yG hs;have hle:n<=N:=hle;obtain⟨news,hsrc,hsl,hsone,hscl,hnews⟩:=vS (P:=P) h.heap hsb hls hx;have hA:T5 E w k ⟨cl,tyb,i.size,N,row⟩:=(h.heap.live _ _ hk).2.1;obtain⟨cs,g,hdd,hg,hc⟩:=a2s hA hle hd;obtain⟨hz',hn,hl,hone,hcl,_⟩:=hA;obtain⟨r,w',hrun,ha⟩:=B7 (P:=P) (ty:=ty) ht hi hzv hzs hsrc n hab dv (λj=>cs[j]?) g hdd
    have:=h.appended ha (H.set k none) (λi=>i=k) W7 (nB hk) (λb hb=>⟨k,_,rfl,hk,.inl (hg b hb)⟩) (.arr (cl&&S.cl) e i.size (n+S.n) (X4 row n S.row)) rfl rfl
      (λr hr=>by
       simp only[Ob.toArr];by_cases h:r<n
       ·rw[M8 h];exact hl r M0
       ·rw[N3 h];exact hsl _ Z9)
      (λr t hr ht=>by
       simp only[Ob.toArr] at ht;by_cases h:r<n
       ·rw[M8 h] at ht;exact hone r t M0 ht
       ·rw[N3 h] at ht;exact hsone _ t Z9 ht)
      (λhcc r t hr ht=>by
       simp only[Ob.toArr,J5] at ht hcc;by_cases h:r<n
       ·rw[M8 h] at ht;exact hcl hcc.1 r t M0 ht
       ·rw[N3 h] at ht;exact hscl hcc.2 _ t Z9 ht)
      (λr j t hr hj=>by
       simp only[Ob.toArr] at hj;rw[M8 hr] at hj;exact hc r j t (xY hr hle) hj)
      (λr j t hr hj=>by
       simp only[Ob.toArr] at hj;rw[N3 Z9,show n+r-n=r by omega] at hj
       exact hnews r j t hr hj)
    obtain⟨E',hr,hI,hst⟩:=this;exact⟨r,w',E',hrun,hr,hI,hst⟩
  ·-- rows with cells that own rows
   rename_i vv tyb sz N row hk;split at he
   case h_2=>cases he
   rename_i S hbeq hdx hsf;split at he
   case h_2=>cases he
   rename_i hnd;obtain rfl:=F5 hbeq;simp only[X0,U4] at he;obtain⟨rfl,rfl,rfl⟩:=he;obtain⟨hls,hle,hab⟩:=yG hs;exact a7g h ht hi hz hzv hzs hk hdx hsf hnd hls hle hab hd hx
  ·cases he
 ·cases he
end
end Go.SS
