/- A part of the proof. -/
import Derived.Test.YtokaojbaacnngaaGreatU13U14U15U16
import Derived.WalkKit
import Derived.Deep.RegionLaw
import Derived.Deep.LoopGhost
import Derived.Lib.SliceRun
import Derived.Deep.MidRow
import Derived.Shelf.RegionOpenPlain
import Derived.Laws.IdiomCopy
namespace Go.Proofs.YtokaojbaacnngaaGreat
open Go.SS Go.RowKit

theorem b1Z:Z8 Tryz.prog 188:=⟨_,Tryz.func188,by kernel_rfl,by kernel_rfl⟩
def a3A:List Value:=[.int .i64 0,.int .i64 0]
theorem b1J:(Tryz.prog.info? 102).map (fun i=>(i.zero,i.size,i.bytes))=some (some (.agg a3A.toArray),2,16):=by kernel_rfl
theorem a61:Tryz.prog.underlying 46=some (.slice 102):=by kernel_rfl
theorem a6o(w:World)(ty:TypeId)(b o c:Nat)(hc:∀j,j<2->(w.cell? ⟨b,o+j,none⟩).isSome=true)(hf:∀j,j<2->w.frozen? ⟨b,o+j,none⟩=false):
  (Builtin.clear_ #[46] ty #[.slice (some ⟨b,o,none⟩) 1 c]).run Tryz.prog w= .ok (.tuple #[]) (w.setCells b o a3A):=by
 obtain⟨i0,hi0,hz0,_⟩:=info_parts b1J;have hv:∀w,(zeroValue 102).run Tryz.prog w= .ok (.agg a3A.toArray) w:=fun w=>by
  simp[zeroValue,typeInfo,hi0,hz0]
 have hst:=run_storeCells_cells (P:=Tryz.prog) b o a3A 0 w (fun j (hj:j<2)=>by rw[Nat.add_zero];exact hc j hj) (fun j (hj:j<2)=>by rw[Nat.add_zero];exact hf j hj) (by intro v hv';simp only[a3A,List.mem_cons,List.not_mem_nil,or_false] at hv';rcases hv' with rfl|rfl<;>rfl)
 simp only[Nat.add_zero] at hst;have hzc:(Builtin.zeroCells (Value.agg a3A.toArray).cells 1).toList=a3A:=by kernel_rfl
 simp[Builtin.clear_,run_underlying a61,hv,hzc,hst]
set_option maxHeartbeats 4000000 in
set_option maxRecDepth 1000000 in
theorem c19(b cap n i j:Nat)(news:List Value)(w:World)(hj1:j=i+1)(hj:j<=n)(hn:n<=cap)(hl:news.length=(n-j)*2)(h1:∀u ∈ news,u.oneCell'=true)
  (hs:∀q u,news[q]? =some u->w.cell? ⟨b,j*2+q,none⟩=some u) (hc:∀q,q<n*2->(w.cell? ⟨b,q,none⟩).isSome=true) (hf:∀q,q<n*2->w.frozen? ⟨b,q,none⟩=false):
  Calls Tryz.prog 188 #[.slice (some ⟨b,0,none⟩) n cap,.int .i64 i,.int .i64 j] w fun e w'=>e= .returned (.slice (some ⟨b,0,none⟩) (i+(n-j)) cap)/\w'=(w.drew.setCells b (i*2) news).setCells b ((i+(n-j))*2) a3A:=by
 have b8q:Tryz.prog.follows .mixedOrders=true:=by kernel_rfl
 obtain⟨i0,hi0,hz0,hz1,hz2⟩:=info_parts b1J;obtain⟨A,hA,hnews⟩:∃A:Addr,(if cap=j then some (⟨b,0,none⟩:Addr) else some ⟨b,j*2,none⟩)=some A/\Hid (∀q u,news[q]? =some u->w.drew.cell? (A.add q)=some u):=by
  by_cases h:cap=j
  ·refine⟨⟨b,0,none⟩,by simp[h],fun q u hu=> ?_⟩
   have h0:news.length=0:=by rw[hl];omega
   rw[List.length_eq_zero_iff.1 h0] at hu;simp at hu
  ·exact⟨⟨b,j*2,none⟩,by simp[h],fun q u hu=>by rw[Addr.add_lit];exact hs q u hu⟩
 have s1:Hid (news.length=(n-j)*2):=hl;have s2:Hid (∀u ∈ news,u.oneCell'=true):=h1;have s3:Hid (∀q,q<news.length->(w.drew.cell? ⟨b,0+i*2+q,none⟩).isSome=true/\w.drew.frozen? ⟨b,0+i*2+q,none⟩=false):=by
  intro q hq;rw[hl] at hq;exact⟨hc _ (by omega),hf _ (by omega)⟩
 obtain⟨W1,hW1⟩:∃W1,W1=w.drew.setCells b (0+i*2) news:=⟨_,rfl⟩;have hcl:∀ty,(Builtin.clear_ #[46] ty #[.slice (some ⟨b,(i+(n-j))*2,none⟩) (n- (i+(n-j))) (cap- (i+(n-j)))]).run Tryz.prog W1= .ok (.tuple #[]) (W1.setCells b ((i+(n-j))*2) a3A):=by
  intro ty;rw[show n- (i+(n-j))=1 by omega]
  refine a6o W1 ty b _ _ (fun q hq=> ?_) (fun q hq=> ?_)
  ·rw[hW1];exact World.isSome_setCells b _ _ _ _ (hc _ (by omega))
  ·rw[hW1,World.frozen?_setCells]
   exact hf _ (by omega)
 have hW:Hid (W1=w.drew.setCells b (0+i*2) news):=hW1;have X:Aside (W1=w.drew.setCells b (i*2) news):=by rw[hW1,Nat.zero_add];exact rfl
 have hic:i<=cap:=by omega
 have hjc:j<=cap:=by omega
 have hlt:i<j:=by omega
 have heq:¬i=j:=by omega
 have hij:i<=j:=by omega
 have hin:i<=n:=by omega
 clear hW1 hc hf hs h1 hl hj1
 go_enter Tryz.func188,Tryz.ntmps188
 go_wp2_with fail
 go_region_law_o (refine step_append_room rfl (.tmp 22) (.tmp 25) 46 rfl 102 i0 2 a61 hi0 hz1 b 0 i cap (by simp[Act.eval,Act.put]) A (n-j) (cap-j) news (by simp[Act.eval,Act.put]) s1.out hnews.out s2.out (by omega) s3.out ?_;rw[←hW.out])
 go_wp2
 go_ret
 exact⟨rfl,by rw[X]⟩
theorem a1z(w:World)(b o:Nat)(ty:TypeId)(cs:Array Value)(news:List Value)(hb:w.heap[b]? =some (.cells cs ty (0,0)))(hfit:o+news.length<=cs.size)(h1:∀v ∈ news,v.oneCell'=true):
  (w.setCells b o news).os=w.os/\(w.setCells b o news).tape=w.tape/\(w.setCells b o news).output=w.output/\(w.setCells b o news).heap.size=w.heap.size/\(∀k,k≠b->(w.setCells b o news).heap[k]? =w.heap[k]?)/\
   ∃cs',(w.setCells b o news).heap[b]? =some (.cells cs' ty (0,0))/\cs'.size=cs.size/\(∀i,i<o∨o+news.length<=i->cs'[i]? =cs[i]?)/\∀i,i<news.length->cs'[o+i]? =news[i]? :=by
 obtain⟨w',hst,h⟩:=B3 Tryz.prog w b o ty cs news hb hfit h1;have hr:=run_storeCells_cells (P:=Tryz.prog) b o news 0 w (fun j hj=>by rw[T5 hb,Array.getElem?_eq_getElem (show o+0+j<cs.size by omega)];rfl) (fun j hj=>by simp[World.frozen?,hb]) h1
 rw[Nat.add_zero,hst] at hr;simp only[Result.ok.injEq,true_and] at hr;rw[←hr];exact h
def shJ(k r:Nat):Nat:=if r<k then r else r+1
def v5{α:Type}(L:List α)(k:Nat):List α:=L.take k++L.drop (k+1)
theorem d15{α:Type}{L:List α}{k:Nat}(hk:k<L.length):(v5 L k).length=k+(L.length- (k+1)):=by
 unfold v5;rw[List.length_append,List.length_take,List.length_drop];omega
theorem d4n{α:Type}[Inhabited α]{L:List α}{k:Nat}(hk:k<L.length)(i:Nat):(v5 L k).getD i default=L.getD (shJ k i) default:=by
 have hl:(L.take k).length=k:=by rw[List.length_take];omega
 unfold v5 shJ;rw[List.getD_eq_getElem?_getD,List.getD_eq_getElem?_getD]
 split
 ·rename_i h;rw[List.getElem?_append_left (by omega),List.getElem?_take_of_lt h]
 ·rename_i h;rw[List.getElem?_append_right (by omega),hl,List.getElem?_drop,show k+1+(i-k)=i+1 by omega]
def c7z:Con:=.reff ⟨List Txn×Nat,fun x=>[.osl 0 0 x.1.length,.int .i64 x.2,.int .i64 (x.2+1:Nat)],fun x=>[a1l x.1],fun x=>.osl 0 0 (v5 x.1 x.2).length,fun x=>[a1l (v5 x.1 x.2)],fun x=>x.2<x.1.length⟩
theorem b5E{E:Env}{w:World}{k off n:Nat}{v:Value}(h:Rd E w (.osl k off n) v):∃a o,v= .slice a n (E.κ k-off)/\E.L k/\off+n<=E.κ k/\(off<E.κ k∨off=0->o=off*(E.z k).1)/\(E.κ k≠0->a=some ⟨E.β k,o,none⟩):=by
 cases h with
 |osl k off n o a h1 h2 h3 h4=>exact⟨a,o,rfl,h1,h2,h3,h4⟩
theorem d7s{E:Env}{w:World}{H:Y5}(hH:HeapOk E w H)(hN:∀b,E.N b->b<w.heap.size):Inv ⟨w,XB E H,E.N,0,E,0⟩ E H w:=⟨hH,hN,fun b hb=>.inl hb,fun k ob b h1 h2=>.inr ⟨k,ob,h1,h2⟩,⟨rfl,rfl,rfl,Nat.le_refl _,fun _ _ _=>rfl⟩,⟨fun _ h=>h,fun k hk=>absurd hk (Nat.not_lt_zero _),fun _ _=>rfl,fun k v hk=>absurd hk (Nat.not_lt_zero _)⟩⟩
theorem b9I:Z2 Tryz.prog 188 c7z:=by
 rintro⟨L,k⟩ (hk:k<L.length);intro E w vs hH hN hr;dsimp only at hH hr ⊢;have hob:Z4 [a1l L] 0=some (.arr true 0 2 L.length (X9 L)):=rfl;obtain⟨hL,hF,hNb⟩:=hH.live 0 _ hob;obtain⟨e1,e2,e3,e4,_,cs,tyb,e6,e7,e8⟩:=(show U9 E w 0 ⟨true,0,2,L.length,X9 L⟩ from hF)
 dsimp only at e1 e2 e3 e4 e7 e8;have hκ:E.κ 0≠0:=by omega
 have e6:=e6 hκ;have e7l:=e7.le;obtain⟨hsz,hv⟩:=hr;obtain⟨v0,v1,v2,rfl⟩:∃v0 v1 v2,vs= #[v0,v1,v2]:=by
  have h2:vs.size=3:=hsz.symm;exact⟨vs[0],vs[1],vs[2],by apply Array.ext<;>simp[h2];intro i hi _;match i,hi with|0,_=>rfl|1,_=>rfl|2,_=>rfl⟩
 obtain rfl:=a0o (hv 1 (.int .i64 k) v1 rfl rfl);obtain rfl:=a0o (hv 2 (.int .i64 (k+1:Nat)) v2 rfl rfl);obtain⟨a,o,rfl,_,_,ho,ha⟩:=b5E (hv 0 (.osl 0 0 L.length) v0 rfl rfl);have ho:o=0:=by have:=ho (.inr rfl);omega
 subst ho;rw[ha hκ,Nat.sub_zero];have hrow:∀i q,i<L.length->q<2->∃t u,(X9 L i)[q]? =some t/\cs[i*2+q]? =some u/\Rd E w t u/\u.oneCell'=true:=fun i q hi hq=>by
  have h5:(X9 L i).length=2:=rfl;obtain⟨t,ht⟩:∃t,(X9 L i)[q]? =some t:=⟨_,List.getElem?_eq_getElem (by omega)⟩
  obtain⟨u,hu,hru⟩:=e8 i q _ hi ht;exact⟨t,u,ht,hu,hru,a3L hru (e4 i _ hi (List.mem_of_getElem? ht))⟩
 have hcell:∀j,j<L.length*2->∃u,cs[j]? =some u/\u.oneCell'=true:=fun j hj=>by
  obtain⟨_,u,_,h2,_,h4⟩:=hrow (j/2) (j % 2) (by omega) (by omega)
  exact⟨u,by rw[show j=j/2*2+j % 2 by omega];exact h2,h4⟩
 have hsz2:L.length*2<=cs.size:=by omega
 have hnl:((cs.toList.drop ((k+1)*2)).take ((L.length- (k+1))*2)).length=(L.length- (k+1))*2:=by
  rw[List.length_take,List.length_drop,Array.length_toList (xs:=cs)];omega
 have hng:∀q,q<(L.length- (k+1))*2->((cs.toList.drop ((k+1)*2)).take ((L.length- (k+1))*2))[q]? =cs[(k+1)*2+q]? :=fun q hq=>by
  rw[List.getElem?_take,if_pos hq,List.getElem?_drop,Array.getElem?_toList]
 have hn1:∀u ∈ (cs.toList.drop ((k+1)*2)).take ((L.length- (k+1))*2),u.oneCell'=true:=fun u hu=>by
  obtain⟨q,hq⟩:=List.getElem?_of_mem hu
  have hlt:q<(L.length- (k+1))*2:=by rw[←hnl];exact(List.getElem?_eq_some_iff.1 hq).1
  rw[hng q hlt] at hq;obtain⟨u',h1,h2⟩:=hcell ((k+1)*2+q) (by omega)
  rw[h1] at hq;simp only[Option.some.injEq] at hq;rw[←hq];exact h2
 generalize hnews:(cs.toList.drop ((k+1)*2)).take ((L.length- (k+1))*2)=news at hnl hng hn1;have hb:∀j,w.cell? ⟨E.β 0,j,none⟩=cs[j]? :=fun j=>T5 e6
 have hs:∀q u,news[q]? =some u->w.cell? ⟨E.β 0,(k+1)*2+q,none⟩=some u:=fun q u hq=>by
  have hlt:q<(L.length- (k+1))*2:=by rw[←hnl];exact(List.getElem?_eq_some_iff.1 hq).1
  rw[hb,←hng q hlt];exact hq
 have hc:∀q,q<L.length*2->(w.cell? ⟨E.β 0,q,none⟩).isSome=true:=fun q hq=>by
  obtain⟨u,h1,_⟩:=hcell q hq;rw[hb,h1];rfl
 have hf:∀q,q<L.length*2->w.frozen? ⟨E.β 0,q,none⟩=false:=fun q _=>by simp[World.frozen?,e6]
 refine(c19 (E.β 0) (E.κ 0) L.length k (k+1) news w rfl hk e2 hnl hn1 hs hc hf).mono ?_
 rintro e w' ⟨rfl,hw'⟩;have hd6:w.drew.heap[E.β 0]? =some (.cells cs tyb (0,0)):=e6;obtain⟨a1,a2,a3,a4,a5,cs1,a6,a7,a8,a9⟩:=a1z w.drew (E.β 0) (k*2) tyb cs news hd6 (by rw[hnl];omega) hn1
 generalize w.drew.setCells (E.β 0) (k*2) news=w1 at hw' a1 a2 a3 a4 a5 a6;obtain⟨b1,b2,b3,b4,b5,cs2,b6,b7,b8,_⟩:=a1z w1 (E.β 0) ((k+(L.length- (k+1)))*2) tyb cs1 a3A a6 (by rw[a7];show _+2<=_;omega) (by intro v hv';simp only[a3A,List.mem_cons,List.not_mem_nil,or_false] at hv';rcases hv' with rfl|rfl<;>rfl)
 rw[←hw'] at b1 b2 b3 b4 b5 b6;have hlen:(v5 L k).length=k+(L.length- (k+1)):=d15 hk;have hz2:a3A.length=2:=rfl;have hnew:∀r q,r<(v5 L k).length->q<2->cs2[r*2+q]? =cs[shJ k r*2+q]? :=fun r q hr hq=>by
  rw[b8 _ (.inl (by omega))]
  unfold shJ;by_cases h:r<k
  ·rw[if_pos h,a8 _ (.inl (by omega))]
  ·rw[if_neg h];have:=a9 ((r-k)*2+q) (by rw[hnl];omega)
   rw[show k*2+((r-k)*2+q)=r*2+q by omega] at this
   rw[this,hng _ (by omega)]
   congr 1
   omega
 have hsh:∀r,r<(v5 L k).length->shJ k r<L.length:=fun r hr=>by unfold shJ;split<;>omega
 have hrw:∀r,X9 (v5 L k) r=X9 L (shJ k r):=fun r=>by unfold X9;rw[d4n hk]
 obtain⟨hI,hst⟩:=(d7s hH hN).write (w':=w') hob rfl (b1.trans a1) (b2.trans a2) (b3.trans a3) (Nat.le_of_eq (b4.trans a4).symm) (fun b _ hne=>(b5 b hne).trans (a5 b hne)) hκ (.arr true 0 2 (v5 L k).length (X9 (v5 L k))) cs2 tyb b6 e1.symm (by
   rw[e1];refine e7.keep (b7.trans a7) fun q hq=> ?_
   rw[b8 q (.inr (by rw[hz2];omega)),a8 q (.inr (by rw[hnl];omega))]) (show(v5 L k).length<=E.κ 0 by omega) (fun i _=>rfl) (fun i t _ ht=>by
   simp only[Ob.toArr,X9,Txn.ts,List.mem_cons,List.not_mem_nil,or_false] at ht;rcases ht with rfl|rfl<;>rfl) (fun _ i t _ ht=>by
   simp only[Ob.toArr,X9,Txn.ts,List.mem_cons,List.not_mem_nil,or_false] at ht;rcases ht with rfl|rfl<;>rfl) (fun i j t hi hj=>by
   have hi:i<(v5 L k).length:=hi;have hj:(X9 (v5 L k) i)[j]? =some t:=hj;have hq5:j<2:=(List.getElem?_eq_some_iff.1 hj).1
   rw[hrw i] at hj;obtain⟨t',u,h1,h2,h3,_⟩:=hrow (shJ k i) j (hsh i hi) hq5;rw[hj] at h1;simp only[Option.some.injEq] at h1;subst h1;exact⟨u,by show cs2[i*2+j]? =_;rw[hnew i j hi hq5];exact h2,h3⟩)
 refine⟨_,_,rfl,hI,hst.stp,?_⟩
 rw[hlen];have:=Rd.osl (E:=E) (w:=w') 0 0 (k+(L.length- (k+1))) 0 (some ⟨E.β 0,0,none⟩) hL (show 0+_<=E.κ 0 by omega) (fun _=>by simp) (fun _=>rfl)
 rw[Nat.sub_zero] at this;exact this
end Go.Proofs.YtokaojbaacnngaaGreat

