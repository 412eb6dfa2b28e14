/- A part of the proof. -/
import Derived.Test.YtghgljelnhfihaaGreatU13U14U15U16
import Derived.WalkKit
import Derived.Deep.RegionLaw
import Derived.Deep.LoopGhost
import Derived.Lib.SliceRun
import Derived.Deep.MidRow
import Derived.Shelf.RegionOpenPlain
import Derived.Laws.IdiomCopy
import Derived.Test.YtghgljelnhfihaaGreatU3U4U5
import Derived.Test.YtghgljelnhfihaaGreatX11X11rX12X13X14
import Derived.Test.YtghgljelnhfihaaGreatL7L8U10
namespace Go.Proofs.YtghgljelnhfihaaGreat
open Go.SS Go.RowKit

def nK:List Value:=[.int .i64 0,.int .i64 0]
theorem a1W:(Tryz.prog.info? 45).map (λi=>(i.zero,i.size,i.bytes))=some (some (.agg nK.toArray),2,16):=by kernel_rfl
theorem dZ:Tryz.prog.underlying 32=some (.slice 45):=by kernel_rfl
theorem iH(w:World)(ty:TypeId)(b o c:Nat)(hc:∀j,j<2->(w.cell? ⟨b,o+j,none⟩).isSome=true)(hf:∀j,j<2->w.frozen? ⟨b,o+j,none⟩=false):
  (Builtin.clear_ #[32] ty #[.slice (some ⟨b,o,none⟩) 1 c]).run Tryz.prog w= .ok (.tuple #[]) (w.setCells b o nK):=by
 obtain⟨i0,hi0,hz0,_⟩:=info_parts a1W;have hv:∀w,(zeroValue 45).run Tryz.prog w= .ok (.agg nK.toArray) w:=λw=>by
  simp[zeroValue,typeInfo,hi0,hz0]
 have hst:=run_storeCells_cells (P:=Tryz.prog) b o nK 0 w (λj (hj:j<2)=>by rw[Nat.add_zero];exact hc j hj) (λj (hj:j<2)=>by rw[Nat.add_zero];exact hf j hj) (by intro v hv';simp only[nK,wY,j_i,or_false] at hv';rcases hv' with rfl|rfl<;>rfl)
 simp only[Nat.add_zero] at hst;have hzc:(Builtin.zeroCells (Value.agg nK.toArray).cells 1).toList=nK:=by kernel_rfl
 simp[Builtin.clear_,run_underlying dZ,hv,hzc,hst]
set_option maxHeartbeats 4000000 in
set_option maxRecDepth 1000000 in
theorem a8I(b cap n i j:Nat)(news:List Value)(w:World)(hj1:j=i+1)(hj:j<=n)(hn:n<=cap)(hl:news.length=(n-j)*2)(h1:∀u ∈ news,u.oneCell'=true)
  (hs:∀q u,news[q]? =some u->w.cell? ⟨b,j*2+q,none⟩=some u) (hc:∀q,q<n*2->(w.cell? ⟨b,q,none⟩).isSome=true) (hf:∀q,q<n*2->w.frozen? ⟨b,q,none⟩=false):
  Calls Tryz.prog 212 #[.slice (some ⟨b,0,none⟩) n cap,.int .i64 i,.int .i64 j] w λe w'=>e= .returned (.slice (some ⟨b,0,none⟩) (i+(n-j)) cap)/\w'=(w.drew.setCells b (i*2) news).setCells b ((i+(n-j))*2) nK:=by
 have a59:Tryz.prog.follows .mixedOrders=true:=by kernel_rfl
 obtain⟨i0,hi0,hz0,hz1,hz2⟩:=info_parts a1W;obtain⟨A,hA,hnews⟩:∃A:Addr,(if cap=j then some (⟨b,0,none⟩:Addr) else some ⟨b,j*2,none⟩)=some A/\Hid (∀q u,news[q]? =some u->w.drew.cell? (A.add q)=some u):=by
  by_cases h:cap=j
  ·refine⟨⟨b,0,none⟩,by simp[h],λq u hu=> ?_⟩
   have h0:news.length=0:=by rw[hl];omega
   rw[List.length_eq_zero_iff.1 h0] at hu;simp at hu
  ·exact⟨⟨b,j*2,none⟩,by simp[h],λq u hu=>by rw[Addr.add_lit];exact hs q u hu⟩
 have s1:Hid (news.length=(n-j)*2):=hl;have s2:Hid (∀u ∈ news,u.oneCell'=true):=h1;have s3:Hid (∀q,q<news.length->(w.drew.cell? ⟨b,0+i*2+q,none⟩).isSome=true/\w.drew.frozen? ⟨b,0+i*2+q,none⟩=false):=by
  intro q hq;rw[hl] at hq;exact⟨hc _ (by omega),hf _ (by omega)⟩
 obtain⟨W1,hW1⟩:∃W1,W1=w.drew.setCells b (0+i*2) news:=⟨_,rfl⟩;have hcl:∀ty,(Builtin.clear_ #[32] ty #[.slice (some ⟨b,(i+(n-j))*2,none⟩) (n- (i+(n-j))) (cap- (i+(n-j)))]).run Tryz.prog W1= .ok (.tuple #[]) (W1.setCells b ((i+(n-j))*2) nK):=by
  intro ty;rw[show n- (i+(n-j))=1 by omega]
  refine iH W1 ty b _ _ (λq hq=> ?_) (λq hq=> ?_)
  ·rw[hW1];exact World.isSome_setCells b _ _ _ _ (hc _ (by omega))
  ·rw[hW1,World.frozen?_setCells]
   exact hf _ (by omega)
 have hW:Hid (W1=w.drew.setCells b (0+i*2) news):=hW1;have X:Aside (W1=w.drew.setCells b (i*2) news):=by rw[hW1,G9];exact rfl
 have hic:i<=cap:=by omega
 have hjc:j<=cap:=by omega
 have hlt:i<j:=by omega
 have heq:¬i=j:=by omega
 have hij:i<=j:=by omega
 have hin:i<=n:=by omega
 clear hW1 hc hf hs h1 hl hj1
 go_enter Tryz.func212,Tryz.ntmps212
 go_wp2_with fail
 go_region_law_o (refine step_append_room rfl (.tmp 22) (.tmp 25) 32 rfl 45 i0 2 dZ hi0 hz1 b 0 i cap (by simp[Act.eval,Act.put]) A (n-j) (cap-j) news (by simp[Act.eval,Act.put]) s1.out hnews.out s2.out (by omega) s3.out ?_;rw[←hW.out])
 go_wp2
 go_ret
 exact⟨rfl,by rw[X]⟩
theorem sQ(w:World)(b o:Nat)(ty:TypeId)(cs:Array Value)(news:List Value)(hb:w.heap[b]? =some (.cells cs ty (0,0)))(hfit:o+news.length<=cs.size)(h1:∀v ∈ news,v.oneCell'=true):
  (w.setCells b o news).os=w.os/\(w.setCells b o news).tape=w.tape/\(w.setCells b o news).output=w.output/\(w.setCells b o news).heap.size=w.heap.size/\(∀k,k≠b->(w.setCells b o news).heap[k]? =w.heap[k]?)/\
   ∃cs',(w.setCells b o news).heap[b]? =some (.cells cs' ty (0,0))/\cs'.size=cs.size/\(∀i,i<o∨o+news.length<=i->cs'[i]? =cs[i]?)/\∀i,i<news.length->cs'[o+i]? =news[i]? :=by
 obtain⟨w',hst,h⟩:=m9 Tryz.prog w b o ty cs news hb hfit h1;have hr:=run_storeCells_cells (P:=Tryz.prog) b o news 0 w (λj hj=>by rw[R0 hb,rL (show o+0+j<cs.size by omega)];rfl) (λj hj=>by simp[World.frozen?,hb]) h1
 rw[Nat.add_zero,hst] at hr;simp only[Result.ok.injEq,true_and] at hr;rw[←hr];exact h
def shJ(k r:Nat):Nat:=if r<k then r else r+1
def c9{α:Type}(L:List α)(k:Nat):List α:=L.take k++L.drop (k+1)
theorem b4R{α:Type}{L:List α}{k:Nat}(hk:k<L.length):(c9 L k).length=k+(L.length- (k+1)):=by
 unfold c9;rw[K6,List.length_take,List.length_drop];omega
theorem b82{α:Type}[Inhabited α]{L:List α}{k:Nat}(hk:k<L.length)(i:Nat):(c9 L k).getD i dz=L.getD (shJ k i) dz:=by
 have hl:(L.take k).length=k:=by rw[List.length_take];omega
 unfold c9 shJ;rw[P8,P8]
 split
 ·rename_i h;rw[tX (by omega),List.getElem?_take_of_lt h]
 ·rename_i h;rw[rK (by omega),hl,List.getElem?_drop,show k+1+(i-k)=i+1 by omega]
def b1B:Con:=.reff ⟨List Txn×Nat,λx=>[.osl 0 0 x.1.length,.int .i64 x.2,.int .i64 (x.2+1:Nat)],λx=>[qM x.1],λx=>.osl 0 0 (c9 x.1 x.2).length,λx=>[qM (c9 x.1 x.2)],λx=>x.2<x.1.length⟩
theorem a5T{E:Env}{w:World}{k off n:Nat}{v:Value}(h:Rd E w (.osl k off n) v):∃a o,v= .slice a n (E.κ k-off)/\E.L k/\off+n<=E.κ k/\(off<E.κ k∨off=0->o=off*(E.z k).1)/\(E.κ k≠0->a=some ⟨E.β k,o,none⟩):=by
 cases h with
 |osl k off n o a h1 h2 h3 h4=>exact⟨a,o,rfl,h1,h2,h3,h4⟩
theorem c1T{E:Env}{w:World}{H:Y1}(hH:HeapOk E w H)(hN:∀b,E.N b->b<w.heap.size):Inv ⟨w,XB E H,E.N,0,E,0⟩ E H w:=⟨hH,hN,λb hb=>.inl hb,λk ob b h1 h2=>.inr ⟨k,ob,h1,h2⟩,⟨rfl,rfl,rfl,W4 _,λ_ _ _=>rfl⟩,⟨λ_ h=>h,λk hk=>absurd hk (J5 _),λ_ _=>rfl,λk v hk=>absurd hk (J5 _)⟩⟩
theorem a7Y:GK 212 b1B:=gk Tryz.func212<|by
 rintro⟨L,k⟩ (hk:k<L.length);intro E w vs hH hN hr;dsimp only at hH hr ⊢;have hob:Z0 [qM L] 0=some (.arr true 0 2 L.length (X0 L)):=rfl;obtain⟨hL,hF,hNb⟩:=hH.live 0 _ hob;obtain⟨e1,e2,e3,e4,_,cs,tyb,e6,e7,e8⟩:=(show S9 E w 0 ⟨true,0,2,L.length,X0 L⟩ from hF)
 dsimp only at e1 e2 e3 e4 e7 e8;have hκ:E.κ 0≠0:=by omega
 have e6:=e6 hκ;have e7l:=e7.le;obtain⟨hsz,hv⟩:=hr;obtain⟨v0,v1,v2,rfl⟩:∃v0 v1 v2,vs= #[v0,v1,v2]:=by
  have h2:vs.size=3:=hsz.symm;exact⟨vs[0],vs[1],vs[2],by apply Array.ext<;>simp[h2];intro i hi _;match i,hi with|0,_=>rfl|1,_=>rfl|2,_=>rfl⟩
 obtain rfl:=vH (hv 1 (.int .i64 k) v1 rfl rfl);obtain rfl:=vH (hv 2 (.int .i64 (k+1:Nat)) v2 rfl rfl);obtain⟨a,o,rfl,_,_,ho,ha⟩:=a5T (hv 0 (.osl 0 0 L.length) v0 rfl rfl);have ho:o=0:=by have:=ho (.inr rfl);omega
 subst ho;rw[ha hκ,Nat.sub_zero];have hrow:∀i q,i<L.length->q<2->∃t u,(X0 L i)[q]? =some t/\cs[i*2+q]? =some u/\Rd E w t u/\u.oneCell'=true:=λi q hi hq=>by
  have h5:(X0 L i).length=2:=rfl;obtain⟨t,ht⟩:∃t,(X0 L i)[q]? =some t:=⟨_,K7 (by omega)⟩
  obtain⟨u,hu,hru⟩:=e8 i q _ hi ht;exact⟨t,u,ht,hu,hru,mY hru (e4 i _ hi (B5 ht))⟩
 have hcell:∀j,j<L.length*2->∃u,cs[j]? =some u/\u.oneCell'=true:=λj hj=>by
  obtain⟨_,u,_,h2,_,h4⟩:=hrow (j/2) (j % 2) (by omega) (by omega)
  exact⟨u,by rw[show j=j/2*2+j % 2 by omega];exact h2,h4⟩
 have hsz2:L.length*2<=cs.size:=by omega
 have hnl:((cs.toList.drop ((k+1)*2)).take ((L.length- (k+1))*2)).length=(L.length- (k+1))*2:=by
  rw[List.length_take,List.length_drop,Array.length_toList (xs:=cs)];omega
 have hng:∀q,q<(L.length- (k+1))*2->((cs.toList.drop ((k+1)*2)).take ((L.length- (k+1))*2))[q]? =cs[(k+1)*2+q]? :=λq hq=>by
  rw[List.getElem?_take,if_pos hq,List.getElem?_drop,Array.getElem?_toList]
 have hn1:∀u ∈ (cs.toList.drop ((k+1)*2)).take ((L.length- (k+1))*2),u.oneCell'=true:=λu hu=>by
  obtain⟨q,hq⟩:=List.getElem?_of_mem hu
  have hlt:q<(L.length- (k+1))*2:=by rw[←hnl];exact(z5.1 hq).1
  rw[hng q hlt] at hq;obtain⟨u',h1,h2⟩:=hcell ((k+1)*2+q) (by omega)
  rw[h1] at hq;simp only[W8] at hq;rw[←hq];exact h2
 generalize hnews:(cs.toList.drop ((k+1)*2)).take ((L.length- (k+1))*2)=news at hnl hng hn1;have hb:∀j,w.cell? ⟨E.β 0,j,none⟩=cs[j]? :=λj=>R0 e6
 have hs:∀q u,news[q]? =some u->w.cell? ⟨E.β 0,(k+1)*2+q,none⟩=some u:=λq u hq=>by
  have hlt:q<(L.length- (k+1))*2:=by rw[←hnl];exact(z5.1 hq).1
  rw[hb,←hng q hlt];exact hq
 have hc:∀q,q<L.length*2->(w.cell? ⟨E.β 0,q,none⟩).isSome=true:=λq hq=>by
  obtain⟨u,h1,_⟩:=hcell q hq;rw[hb,h1];rfl
 have hf:∀q,q<L.length*2->w.frozen? ⟨E.β 0,q,none⟩=false:=λq _=>by simp[World.frozen?,e6]
 refine(a8I (E.β 0) (E.κ 0) L.length k (k+1) news w rfl hk e2 hnl hn1 hs hc hf).mono ?_
 rintro e w' ⟨rfl,hw'⟩;have hd6:w.drew.heap[E.β 0]? =some (.cells cs tyb (0,0)):=e6;obtain⟨a1,a2,a3,a4,a5,cs1,a6,a7,a8,a9⟩:=sQ w.drew (E.β 0) (k*2) tyb cs news hd6 (by rw[hnl];omega) hn1
 generalize w.drew.setCells (E.β 0) (k*2) news=w1 at hw' a1 a2 a3 a4 a5 a6;obtain⟨b1,b2,b3,b4,b5,cs2,b6,b7,b8,_⟩:=sQ w1 (E.β 0) ((k+(L.length- (k+1)))*2) tyb cs1 nK a6 (by rw[a7];show _+2<=_;omega) (by intro v hv';simp only[nK,wY,j_i,or_false] at hv';rcases hv' with rfl|rfl<;>rfl)
 rw[←hw'] at b1 b2 b3 b4 b5 b6;have hlen:(c9 L k).length=k+(L.length- (k+1)):=b4R hk;have hz2:nK.length=2:=rfl;have hnew:∀r q,r<(c9 L k).length->q<2->cs2[r*2+q]? =cs[shJ k r*2+q]? :=λr q hr hq=>by
  rw[b8 _ (.inl (by omega))]
  unfold shJ;by_cases h:r<k
  ·rw[if_pos h,a8 _ (.inl (by omega))]
  ·rw[if_neg h];have:=a9 ((r-k)*2+q) (by rw[hnl];omega)
   rw[show k*2+((r-k)*2+q)=r*2+q by omega] at this
   rw[this,hng _ (by omega)]
   congr 1
   omega
 have hsh:∀r,r<(c9 L k).length->shJ k r<L.length:=λr hr=>by unfold shJ;split<;>omega
 have hrw:∀r,X0 (c9 L k) r=X0 L (shJ k r):=λr=>by unfold X0;rw[b82 hk]
 obtain⟨hI,hst⟩:=(c1T hH hN).write (w':=w') hob rfl (b1.trans a1) (b2.trans a2) (b3.trans a3) (Nat.le_of_eq (b4.trans a4).symm) (λb _ hne=>(b5 b hne).trans (a5 b hne)) hκ (.arr true 0 2 (c9 L k).length (X0 (c9 L k))) cs2 tyb b6 e1.symm (by
   rw[e1];refine e7.keep (b7.trans a7) λq hq=> ?_
   rw[b8 q (.inr (by rw[hz2];omega)),a8 q (.inr (by rw[hnl];omega))]) (show(c9 L k).length<=E.κ 0 by omega) (λi _=>rfl) (λi t _ ht=>by
   simp only[Ob.toArr,X0,Txn.ts,wY,j_i,or_false] at ht;rcases ht with rfl|rfl<;>rfl) (λ_ i t _ ht=>by
   simp only[Ob.toArr,X0,Txn.ts,wY,j_i,or_false] at ht;rcases ht with rfl|rfl<;>rfl) (λi j t hi hj=>by
   have hi:i<(c9 L k).length:=hi;have hj:(X0 (c9 L k) i)[j]? =some t:=hj;have hq5:j<2:=(z5.1 hj).1
   rw[hrw i] at hj;obtain⟨t',u,h1,h2,h3,_⟩:=hrow (shJ k i) j (hsh i hi) hq5;rw[hj] at h1;simp only[W8] at h1;subst h1;exact⟨u,by show cs2[i*2+j]? =_;rw[hnew i j hi hq5];exact h2,h3⟩)
 refine⟨_,_,rfl,hI,hst.stp,?_⟩
 rw[hlen];have:=Rd.osl (E:=E) (w:=w') 0 0 (k+(L.length- (k+1))) 0 (some ⟨E.β 0,0,none⟩) hL (show 0+_<=E.κ 0 by omega) (λ_=>by simp) (λ_=>rfl)
 rw[Nat.sub_zero] at this;exact this
end Go.Proofs.YtghgljelnhfihaaGreat

namespace Go.Proofs.YtghgljelnhfihaaGreat
open Go.SS Go.RowKit

def fW(o o':Ob):Prop:=o=o'∨∃cl ty sz n n' row row',o= .arr cl ty sz n row/\o'= .arr cl ty sz n' row'/\n'<=n/\∀i,i<n'->row' i=row i
def b9I(H H':Y1):Prop:=H'.length=H.length/\∀k o',Z0 H' k=some o'->∃o,Z0 H k=some o/\fW o o'
theorem fW.blk{E:Env}{k:Nat}{o o':Ob}{b:Nat}(h:fW o o')(hb:E6 E k o' b):E6 E k o b:=by
 rcases h with rfl|⟨cl,ty,sz,n,n',row,row',rfl,rfl,_,_⟩
 ·exact hb
 ·exact .inl (hb.arr rfl)
theorem fW.ok{E:Env}{w:World}{k:Nat}{o o':Ob}(h:fW o o')(ho:m6 E w k o):m6 E w k o':=by
 rcases h with rfl|⟨cl,ty,sz,n,n',row,row',rfl,rfl,hn,hr⟩
 ·exact ho
 ·obtain⟨e1,e2,e3,e4,e5,cs,tyb,e6,e7,e8⟩:=(show S9 E w k ⟨cl,ty,sz,n,row⟩ from ho)
  dsimp only at e1 e2 e3 e4 e5 e7 e8;refine(show S9 E w k ⟨cl,ty,sz,n',row'⟩ from⟨e1,Nat.le_trans hn e2,λi hi=> ?_,λi t hi ht=> ?_,λhc i t hi ht=> ?_,cs,tyb,e6,e7,λi j t hi hj=> ?_⟩)
  ·have hi:i<n':=hi;show(row' i).length=sz;rw[hr i hi];exact e3 i (by omega)
  ·have hi:i<n':=hi;have ht:t ∈ row' i:=ht;rw[hr i hi] at ht;exact e4 i t (by omega) ht
  ·have hi:i<n':=hi;have ht:t ∈ row' i:=ht;rw[hr i hi] at ht;exact e5 hc i t (by omega) ht
  ·have hi:i<n':=hi;have hj:(row' i)[j]? =some t:=hj;rw[hr i hi] at hj;exact e8 i j t (by omega) hj
theorem a63{P:Program}{f:FuncId}{args:List T}{H H1 H2:Y1}{res:T}(h:H3 P f args H res H1)(hc:b9I H1 H2):H3 P f args H res H2:=by
 intro E w vs hH hN hr;refine(h E w vs hH hN hr).mono ?_
 rintro e w' ⟨v,E',rfl,hI,hs,hr'⟩;refine⟨v,E',rfl,⟨⟨λk o hk=> ?_,λk k' o o' b hk hk' hb hb'=> ?_,λk hk=>by rw[hc.1];exact hI.heap.lt k hk,hI.heap.l2,λk o v hk hv=> ?_⟩,hI.nlt,hI.nnew,λk o b hk hb=> ?_,hI.fr,hI.keep⟩,hs,hr'⟩
 ·obtain⟨o0,h0,hcut⟩:=hc.2 k o hk;obtain⟨a1,a2,a3⟩:=hI.heap.live k o0 h0;exact⟨a1,hcut.ok a2,λb hb=>a3 b (hcut.blk hb)⟩
 ·obtain⟨o0,h0,hcut⟩:=hc.2 k o hk;obtain⟨o1,h1,hcut'⟩:=hc.2 k' o' hk';exact hI.heap.inj k k' o0 o1 b h0 h1 (hcut.blk hb) (hcut'.blk hb')
 ·obtain⟨o0,h0,hcut⟩:=hc.2 k o hk;obtain⟨v0,ty,sz,n,row,rfl,hle⟩:=hI.heap.cur k o0 v h0 hv;rcases hcut with rfl|⟨_,_,_,_,_,_,_,e,_⟩
  ·exact⟨v0,ty,sz,n,row,rfl,hle⟩
  ·cases e
 ·obtain⟨o0,h0,hcut⟩:=hc.2 k o hk;exact hI.bnew k o0 b h0 (hcut.blk hb)
theorem b4O{a b c:Option Ob}(h:∀o',c=some o'->∃o,a=some o/\fW o o'):b9I [a,b] [c,b]:=by
 refine⟨rfl,λk o' hk=> ?_⟩
 match k,hk with
 |0,hk=>exact h o' hk
 |1,hk=>exact⟨o',hk,.inl rfl⟩
 |k+2,hk=>simp[Z0] at hk

def A9{α:Type}[Inhabited α](f:α->Bool)(L:List α)(j:Nat):List α:=X9 f L j++L.drop (X9 f L j).length
theorem b6V{α:Type}[Inhabited α]{f:α->Bool}{L:List α}{j q:Nat}(hq:(X9 f L j).length<=q):(A9 f L j).getD q dz=L.getD q dz:=by
 unfold A9;rw[P8,rK hq,List.getElem?_drop,←P8]
 congr 1
 omega
theorem c02{α:Type}[Inhabited α]{f:α->Bool}{L:List α}{j q:Nat}(hq:q<(X9 f L j).length):(A9 f L j).getD q dz=(X9 f L j).getD q dz:=by
 unfold A9;rw[P8,tX hq,←P8]
theorem b5A{α:Type}[Inhabited α]{f:α->Bool}{L:List α}{j:Nat}(h:f (L.getD j dz)=false):A9 f L (j+1)=A9 f L j:=by
 unfold A9;rw[oA h]
theorem c19{α:Type}[Inhabited α]{f:α->Bool}{L:List α}{j:Nat}(h:f (L.getD j dz)=true)(q:Nat):(A9 f L (j+1)).getD q dz=if q=(X9 f L j).length then L.getD j dz else(A9 f L j).getD q dz:=by
 have e1:A9 f L (j+1)=X9 f L j++(L.getD j dz::L.drop ((X9 f L j).length+1)):=by
  unfold A9;rw[fS h,K6,List.length_singleton,List.append_assoc];rfl
 rw[e1];unfold A9;generalize X9 f L j=A;generalize L.getD j dz=x;rcases Nat.lt_trichotomy q A.length with h1|h1|h1
 ·rw[if_neg (by omega),P8,P8,tX h1,tX h1]
 ·rw[if_pos h1,P8,h1,rK (W4 _),j_h]
  rfl
 ·rw[if_neg (by omega),P8,P8,rK (by omega),rK (by omega)]
  obtain⟨d,hd⟩:∃d,q-A.length=d+1:=⟨q-A.length-1,by omega⟩
  rw[hd,List.getElem?_cons_succ,List.getElem?_drop,List.getElem?_drop]
  congr 2
  omega
theorem a6K{α:Type}[Inhabited α]{f:α->Bool}{L:List α}:∀j,j<=L.length->(∀q,q<j->f (L.getD q dz)=true)->X9 f L j=L.take j
 |0,_,_=>by simp[X9]
 |j+1,hj,h=>by
  rw[fS (h j (by omega)),a6K j (by omega) λq hq=>h q (by omega),List.take_add_one,P8,K7 (show j<L.length by omega)]
  rfl
theorem dG{α:Type}[Inhabited α]{f:α->Bool}{L:List α}{j:Nat}(hj:j<=L.length)(h:∀q,q<j->f (L.getD q dz)=true):(X9 f L j).length=j/\A9 f L j=L:=by
 have e:=a6K j hj h;have hl:(L.take j).length=j:=by rw[List.length_take];omega
 unfold A9;rw[e,hl];exact⟨rfl,List.take_append_drop j L⟩
end Go.Proofs.YtghgljelnhfihaaGreat

namespace Go.Proofs.YtghgljelnhfihaaGreat
set_option maxRecDepth 100000
open Go.SS Go.RowKit

def uU(n:Int):Option Ob:=some (.arr true 1000000 1 1 λ_=>[.int .i64 n])
def b6o:Con:=.rel ⟨Lck×Int,λx=>[.agg x.1.ts,.bref [.int .i64 x.2]],λx=>.bool (x.1.tx==x.2),λ_=>True⟩
theorem b44(x:Lck)(tx:Int)(h:
  (x.tx==tx)=(x.tx==tx)):
  U1 Tryz.prog 288 [.agg x.ts,.bref [.int .i64 tx]] (.bool (x.tx==tx)):=
 Q5 gN Tryz.func288 Y5 h
theorem a2I:GK 288 b6o:=gk Tryz.func288<|λx _=>b44 x.1 x.2 rfl
def b4Y:Con:=.rel ⟨Wt×Int,λx=>[.agg x.1.ts,.bref [.int .i64 x.2]],λx=>.bool (x.1.tx==x.2||x.1.fo==x.2),λ_=>True⟩
theorem b5m(x:Wt)(tx:Int)(h:
  (x.tx==tx||x.fo==tx)=(x.tx==tx||x.fo==tx)):
  U1 Tryz.prog 290 [.agg x.ts,.bref [.int .i64 tx]] (.bool (x.tx==tx||x.fo==tx)):=
 Q5 gN Tryz.func290 Y5 h
theorem a1Q:GK 290 b4Y:=gk Tryz.func290<|λx _=>b5m x.1 x.2 rfl
def c1K(tx:Int):T:=.fn (.func 288) [.bref [.int .i64 tx]]
def c0V(tx:Int):T:=.fn (.func 290) [.bref [.int .i64 tx]]
def d1(L:List Lck)(tx:Int)(i:Nat):Bool:=(L.getD i dz).tx==tx
def d2(L:List Wt)(tx:Int)(i:Nat):Bool:=(L.getD i dz).tx==tx||(L.getD i dz).fo==tx
def a7Z:Con:=.rel ⟨List Lck×Int,λx=>[jQ x.1,c1K x.2],λx=>.int .i64 (P9 x.1.length (d1 x.1 x.2)),λx=>O6 x.1.length⟩
def a9S(L:List Lck)(tx:Int):Nat->Ann
 |0=>.one (V1 L.length (d1 L tx)) (λx=>⟨[(0,jQ L),(1,c1K tx),(7,.int .i64 L.length),(8,.int .i64 x.1)],[]⟩) (λx=>L.length-x.1) [] [] (λ_=>Y5)
 |_=>.none
theorem a4K:GK 249 a7Z:=gk Tryz.func249<|by
 rintro⟨L,tx⟩ (hL:L.length<1000000000000);refine Q5 (gC a2I gN) Tryz.func249 (a9S L tx) (α:=let r:=(L.length:Int);let q:=(T.bref [T.int .i64 tx]);(∃(x:V1 L.length (d1 L tx)),((Y8 Y7 L L)/\(Fn.func 288=Fn.func 288/\L4 (λ(x:Nat)=>none) q q/\True)/\r=r/\0=(x.val:Int)/\True)/\True)/\∀(x:V1 L.length (d1 L tx)),let p:=(x.val:Int);let z:=(L.getD p.toNat dz);(decide (p<r)=true->V3 p L.length/\∃(x_1:(Lck×Int)),(((z.tx=x_1.1.tx/\z.ta=x_1.1.ta/\z.row=x_1.1.row/\z.mo=x_1.1.mo/\True)/\(tx=x_1.2/\True)/\True)/\True)/\((x_1.1.tx==x_1.2)=true->p=P9 L.length (d1 L tx))/\((x_1.1.tx==x_1.2)=false->W7 .i64 (p+1)/\∃(y:V1 L.length (d1 L tx)),(((Y8 Y7 L L)/\(Fn.func 288=Fn.func 288/\L4 (λ(x:Nat)=>none) q q/\True)/\r=r/\p+1=(y.val:Int)/\True)/\True)/\Lt (L.length-y.val) (L.length-x.val)))/\(decide (p<r)=false->(-1:Int)=P9 L.length (d1 L tx))) ⟨⟨F7,⟨Z7,⟨rfl,R2 _,trivial⟩,rfl,Z9⟩,trivial⟩,λx=>⟨λhc=> ?_,λhc=> ?_⟩⟩
 ·have hlt:=X6 hc;refine⟨X8 hlt,(L.getD x.val dz,tx),⟨⟨⟨rfl,rfl,rfl,Z9⟩,Z9,trivial⟩,trivial⟩,λhp=>(M6 hlt hp x.2.2).symm,λhp=>⟨U5 hlt (by omega),x.succ hlt hp,⟨⟨Z7,⟨rfl,R2 _,trivial⟩,rfl,by simp only[V1.succ];omega,trivial⟩,trivial⟩,V1.ext_lt hlt⟩⟩
 ·have hge:=X4 hc;exact(J1 λj hj=>x.2.2 j (wM hj hge)).symm
def b3I:Con:=.rel ⟨List Wt×Int,λx=>[wtS x.1,c0V x.2],λx=>.int .i64 (P9 x.1.length (d2 x.1 x.2)),λx=>O6 x.1.length⟩
def b1M(L:List Wt)(tx:Int):Nat->Ann
 |0=>.one (V1 L.length (d2 L tx)) (λx=>⟨[(0,wtS L),(1,c0V tx),(7,.int .i64 L.length),(8,.int .i64 x.1)],[]⟩) (λx=>L.length-x.1) [] [] (λ_=>Y5)
 |_=>.none
theorem a8e:GK 250 b3I:=gk Tryz.func250<|by
 rintro⟨L,tx⟩ (hL:L.length<1000000000000);refine Q5 (gC a1Q gN) Tryz.func250 (b1M L tx) (α:=let r:=(L.length:Int);let p:=(T.bref [T.int .i64 tx]);(∃(x:V1 L.length (d2 L tx)),((Y8 Y0 L L)/\(Fn.func 290=Fn.func 290/\L4 (λ(x:Nat)=>none) p p/\True)/\r=r/\0=(x.val:Int)/\True)/\True)/\∀(x:V1 L.length (d2 L tx)),let q:=(x.val:Int);let u:=(L.getD q.toNat dz);(decide (q<r)=true->V3 q L.length/\∃(x_1:(Wt×Int)),let z:=(x_1.1.tx==x_1.2||x_1.1.fo==x_1.2);(((u.tx=x_1.1.tx/\u.fo=x_1.1.fo/\True)/\(tx=x_1.2/\True)/\True)/\True)/\(z=true->q=P9 L.length (d2 L tx))/\(z=false->W7 .i64 (q+1)/\∃(y:V1 L.length (d2 L tx)),(((Y8 Y0 L L)/\(Fn.func 290=Fn.func 290/\L4 (λ(x:Nat)=>none) p p/\True)/\r=r/\q+1=(y.val:Int)/\True)/\True)/\Lt (L.length-y.val) (L.length-x.val)))/\(decide (q<r)=false->(-1:Int)=P9 L.length (d2 L tx))) ⟨⟨F7,⟨Z7,⟨rfl,R2 _,trivial⟩,rfl,Z9⟩,trivial⟩,λx=>⟨λhc=> ?_,λhc=> ?_⟩⟩
 ·have hlt:=X6 hc;refine⟨X8 hlt,(L.getD x.val dz,tx),⟨⟨⟨rfl,Z9⟩,Z9,trivial⟩,trivial⟩,λhp=>(M6 hlt hp x.2.2).symm,λhp=>⟨U5 hlt (by omega),x.succ hlt hp,⟨⟨Z7,⟨rfl,R2 _,trivial⟩,rfl,by simp only[V1.succ];omega,trivial⟩,trivial⟩,V1.ext_lt hlt⟩⟩
 ·have hge:=X4 hc;exact(J1 λj hj=>x.2.2 j (wM hj hge)).symm
def c0r:List T:=[.int .i64 0,.int .i64 0,.int .i64 0,.int .i64 0]
def zWt:List T:=[.int .i64 0,.int .i64 0]
def c07(L:List Lck)(tx:Int):Option Ob:=some (.arr true 0 4 L.length (K1 (Y7 (A9 (hF tx) L L.length)) (X9 (hF tx) L L.length).length (L.length- (X9 (hF tx) L L.length).length) c0r))
def c1S(L:List Wt)(tx:Int):Option Ob:=some (.arr true 0 2 L.length (K1 (Y0 (A9 (wF tx) L L.length)) (X9 (wF tx) L L.length).length (L.length- (X9 (wF tx) L L.length).length) zWt))
def b3o:Con:=.reff ⟨List Lck×Int,λx=>[.osl 0 0 x.1.length,.fn (.func 288) [.ref 1 0 0]],λx=>[xH x.1,uU x.2],λx=>.osl 0 0 (X9 (hF x.2) x.1 x.1.length).length,λx=>[xH (X9 (hF x.2) x.1 x.1.length),uU x.2],λx=>x.1.length<=1048576⟩
def b0H(L:List Lck)(tx:Int):Nat->Ann
 |0=>.one {j:Nat//j<=L.length} (λx=>⟨[(0,.osl 0 0 L.length),(1,.fn (.func 288) [.ref 1 0 0]),(5,.int .i64 (X9 (hF tx) L x.1).length),(6,.int .i64 x.1)],[some (.arr true 0 4 L.length (Y7 (A9 (hF tx) L x.1))),uU tx]⟩) (λx=>L.length-x.1) [.arr 0,.box 1] [.arr 0,.box 1] (λ_=>Y5)
 |_=>.none
theorem b0L(L:List Lck)(tx:Int)(h:
  ∃(x:(List Lck×Int)),(Le (0+L.length) L.length/\((Y8 Y7 L x.1)/\(Fn.func 288=Fn.func 288/\(tx=x.2/\True)/\True)/\True)/\O6 x.1.length)/\((P9 x.1.length (d1 x.1 x.2)==(-1:Int))=true->((0=0/\L.length=(X9 (hF tx) L L.length).length)/\True)/\(L.length=L.length/\Z6 L.length (Y7 L) λ(j:Nat)=>match(X9 (hF tx) L L.length).length.ble j&&j.blt ((X9 (hF tx) L L.length).length+(L.length- (X9 (hF tx) L L.length).length)) with|true=>[T.int .i64 (0:Int),T.int .i64 (0:Int),T.int .i64 (0:Int),T.int .i64 (0:Int)]|false=>[T.int .i64 ((A9 (hF tx) L L.length).getD j dz).tx,T.int .i64 ((A9 (hF tx) L L.length).getD j dz).ta,T.int .i64 ((A9 (hF tx) L L.length).getD j dz).row,T.int .i64 ((A9 (hF tx) L L.length).getD j dz).mo])/\(1=1/\1=1/\tx=tx/\True)/\True)/\((P9 x.1.length (d1 x.1 x.2)==(-1:Int))=false->W7 .i64 (P9 x.1.length (d1 x.1 x.2)+(1:Int))/\(∃(x_1:{j:Nat//j<=L.length}),((0=0/\L.length=L.length)/\(Fn.func 288=Fn.func 288/\(0=0/\0=0)/\True)/\P9 x.1.length (d1 x.1 x.2)=(↑(X9 (hF tx) L x_1.val).length:Int)/\P9 x.1.length (d1 x.1 x.2)+(1:Int)=(x_1.val:Int)/\True)/\(L.length=L.length/\Z6 L.length (Y7 L) (Y7 (A9 (hF tx) L x_1.val)))/\(1=1/\1=1/\tx=tx/\True)/\True)/\∀(x:{j:Nat//j<=L.length}),(decide ((x.val:Int)<(L.length:Int))=true->V3 (x.val:Int) L.length/\Lt (0+(x.val:Int).toNat) L.length/\∃(x_1:(Lck×Int)),(((((A9 (hF tx) L x.val).getD (0+(x.val:Int).toNat) dz).tx=x_1.1.tx/\((A9 (hF tx) L x.val).getD (0+(x.val:Int).toNat) dz).ta=x_1.1.ta/\((A9 (hF tx) L x.val).getD (0+(x.val:Int).toNat) dz).row=x_1.1.row/\((A9 (hF tx) L x.val).getD (0+(x.val:Int).toNat) dz).mo=x_1.1.mo/\True)/\(tx=x_1.2/\True)/\True)/\True)/\((!x_1.1.tx==x_1.2)=true->V3 (↑(X9 (hF tx) L x.val).length:Int) L.length/\Lt (0+(↑(X9 (hF tx) L x.val).length:Int).toNat) L.length/\W7 .i64 ((↑(X9 (hF tx) L x.val).length:Int)+(1:Int))/\W7 .i64 ((x.val:Int)+(1:Int))/\∃(y:{j:Nat//j<=L.length}),(((0=0/\L.length=L.length)/\(Fn.func 288=Fn.func 288/\(0=0/\0=0)/\True)/\(↑(X9 (hF tx) L x.val).length:Int)+(1:Int)=(↑(X9 (hF tx) L y.val).length:Int)/\(x.val:Int)+(1:Int)=(y.val:Int)/\True)/\(L.length=L.length/\Z6 L.length (setRow (Y7 (A9 (hF tx) L x.val)) (0+(↑(X9 (hF tx) L x.val).length:Int).toNat) 0 [T.int .i64 ((A9 (hF tx) L x.val).getD (0+(x.val:Int).toNat) dz).tx,T.int .i64 ((A9 (hF tx) L x.val).getD (0+(x.val:Int).toNat) dz).ta,T.int .i64 ((A9 (hF tx) L x.val).getD (0+(x.val:Int).toNat) dz).row,T.int .i64 ((A9 (hF tx) L x.val).getD (0+(x.val:Int).toNat) dz).mo]) (Y7 (A9 (hF tx) L y.val)))/\(1=1/\1=1/\tx=tx/\True)/\True)/\Lt (L.length-y.val) (L.length-x.val))/\((!x_1.1.tx==x_1.2)=false->W7 .i64 ((x.val:Int)+(1:Int))/\∃(y:{j:Nat//j<=L.length}),(((0=0/\L.length=L.length)/\(Fn.func 288=Fn.func 288/\(0=0/\0=0)/\True)/\(↑(X9 (hF tx) L x.val).length:Int)=(↑(X9 (hF tx) L y.val).length:Int)/\(x.val:Int)+(1:Int)=(y.val:Int)/\True)/\(L.length=L.length/\Z6 L.length (Y7 (A9 (hF tx) L x.val)) (Y7 (A9 (hF tx) L y.val)))/\(1=1/\1=1/\tx=tx/\True)/\True)/\Lt (L.length-y.val) (L.length-x.val)))/\(decide ((x.val:Int)<(L.length:Int))=false->lL (↑(X9 (hF tx) L x.val).length:Int) L.length/\Le (0+(↑(X9 (hF tx) L x.val).length:Int).toNat+(L.length- (↑(X9 (hF tx) L x.val).length:Int).toNat)) L.length/\lL (↑(X9 (hF tx) L x.val).length:Int) L.length/\((0=0/\(↑(X9 (hF tx) L x.val).length:Int).toNat=(X9 (hF tx) L L.length).length)/\True)/\(L.length=L.length/\Z6 L.length (λ(j:Nat)=>match(0+(↑(X9 (hF tx) L x.val).length:Int).toNat).ble j&&j.blt (0+(↑(X9 (hF tx) L x.val).length:Int).toNat+(L.length- (↑(X9 (hF tx) L x.val).length:Int).toNat)) with|true=>[T.int .i64 (0:Int),T.int .i64 (0:Int),T.int .i64 (0:Int),T.int .i64 (0:Int)]|false=>[T.int .i64 ((A9 (hF tx) L x.val).getD j dz).tx,T.int .i64 ((A9 (hF tx) L x.val).getD j dz).ta,T.int .i64 ((A9 (hF tx) L x.val).getD j dz).row,T.int .i64 ((A9 (hF tx) L x.val).getD j dz).mo]) λ(j:Nat)=>match(X9 (hF tx) L L.length).length.ble j&&j.blt ((X9 (hF tx) L L.length).length+(L.length- (X9 (hF tx) L L.length).length)) with|true=>[T.int .i64 (0:Int),T.int .i64 (0:Int),T.int .i64 (0:Int),T.int .i64 (0:Int)]|false=>[T.int .i64 ((A9 (hF tx) L L.length).getD j dz).tx,T.int .i64 ((A9 (hF tx) L L.length).getD j dz).ta,T.int .i64 ((A9 (hF tx) L L.length).getD j dz).row,T.int .i64 ((A9 (hF tx) L L.length).getD j dz).mo])/\(1=1/\1=1/\tx=tx/\True)/\True))):
  H3 Tryz.prog 287 [.osl 0 0 L.length,.fn (.func 288) [.ref 1 0 0]] [xH L,uU tx] (.osl 0 0 (X9 (hF tx) L L.length).length) [c07 L tx,uU tx]:=
 v8 (gC a4K (gC a2I gN)) Tryz.func287 (b0H L tx) [[.arr 0,.box 1]] h
def b4u:Con:=.reff ⟨List Wt×Int,λx=>[.osl 0 0 x.1.length,.fn (.func 290) [.ref 1 0 0]],λx=>[nC x.1,uU x.2],λx=>.osl 0 0 (X9 (wF x.2) x.1 x.1.length).length,λx=>[nC (X9 (wF x.2) x.1 x.1.length),uU x.2],λx=>x.1.length<=1048576⟩
def b56(L:List Wt)(tx:Int):Nat->Ann
 |0=>.one {j:Nat//j<=L.length} (λx=>⟨[(0,.osl 0 0 L.length),(1,.fn (.func 290) [.ref 1 0 0]),(5,.int .i64 (X9 (wF tx) L x.1).length),(6,.int .i64 x.1)],[some (.arr true 0 2 L.length (Y0 (A9 (wF tx) L x.1))),uU tx]⟩) (λx=>L.length-x.1) [.arr 0,.box 1] [.arr 0,.box 1] (λ_=>Y5)
 |_=>.none
theorem b4t(L:List Wt)(tx:Int)(h:
  ∃(x:(List Wt×Int)),(Le (0+L.length) L.length/\((Y8 Y0 L x.1)/\(Fn.func 290=Fn.func 290/\(tx=x.2/\True)/\True)/\True)/\O6 x.1.length)/\((P9 x.1.length (d2 x.1 x.2)==(-1:Int))=true->((0=0/\L.length=(X9 (wF tx) L L.length).length)/\True)/\(L.length=L.length/\Z6 L.length (Y0 L) λ(j:Nat)=>match(X9 (wF tx) L L.length).length.ble j&&j.blt ((X9 (wF tx) L L.length).length+(L.length- (X9 (wF tx) L L.length).length)) with|true=>[T.int .i64 (0:Int),T.int .i64 (0:Int)]|false=>[T.int .i64 ((A9 (wF tx) L L.length).getD j dz).tx,T.int .i64 ((A9 (wF tx) L L.length).getD j dz).fo])/\(1=1/\1=1/\tx=tx/\True)/\True)/\((P9 x.1.length (d2 x.1 x.2)==(-1:Int))=false->W7 .i64 (P9 x.1.length (d2 x.1 x.2)+(1:Int))/\(∃(x_1:{j:Nat//j<=L.length}),((0=0/\L.length=L.length)/\(Fn.func 290=Fn.func 290/\(0=0/\0=0)/\True)/\P9 x.1.length (d2 x.1 x.2)=(↑(X9 (wF tx) L x_1.val).length:Int)/\P9 x.1.length (d2 x.1 x.2)+(1:Int)=(x_1.val:Int)/\True)/\(L.length=L.length/\Z6 L.length (Y0 L) (Y0 (A9 (wF tx) L x_1.val)))/\(1=1/\1=1/\tx=tx/\True)/\True)/\∀(x:{j:Nat//j<=L.length}),(decide ((x.val:Int)<(L.length:Int))=true->V3 (x.val:Int) L.length/\Lt (0+(x.val:Int).toNat) L.length/\∃(x_1:(Wt×Int)),(((((A9 (wF tx) L x.val).getD (0+(x.val:Int).toNat) dz).tx=x_1.1.tx/\((A9 (wF tx) L x.val).getD (0+(x.val:Int).toNat) dz).fo=x_1.1.fo/\True)/\(tx=x_1.2/\True)/\True)/\True)/\((!(x_1.1.tx==x_1.2||x_1.1.fo==x_1.2))=true->V3 (↑(X9 (wF tx) L x.val).length:Int) L.length/\Lt (0+(↑(X9 (wF tx) L x.val).length:Int).toNat) L.length/\W7 .i64 ((↑(X9 (wF tx) L x.val).length:Int)+(1:Int))/\W7 .i64 ((x.val:Int)+(1:Int))/\∃(y:{j:Nat//j<=L.length}),(((0=0/\L.length=L.length)/\(Fn.func 290=Fn.func 290/\(0=0/\0=0)/\True)/\(↑(X9 (wF tx) L x.val).length:Int)+(1:Int)=(↑(X9 (wF tx) L y.val).length:Int)/\(x.val:Int)+(1:Int)=(y.val:Int)/\True)/\(L.length=L.length/\Z6 L.length (setRow (Y0 (A9 (wF tx) L x.val)) (0+(↑(X9 (wF tx) L x.val).length:Int).toNat) 0 [T.int .i64 ((A9 (wF tx) L x.val).getD (0+(x.val:Int).toNat) dz).tx,T.int .i64 ((A9 (wF tx) L x.val).getD (0+(x.val:Int).toNat) dz).fo]) (Y0 (A9 (wF tx) L y.val)))/\(1=1/\1=1/\tx=tx/\True)/\True)/\Lt (L.length-y.val) (L.length-x.val))/\((!(x_1.1.tx==x_1.2||x_1.1.fo==x_1.2))=false->W7 .i64 ((x.val:Int)+(1:Int))/\∃(y:{j:Nat//j<=L.length}),(((0=0/\L.length=L.length)/\(Fn.func 290=Fn.func 290/\(0=0/\0=0)/\True)/\(↑(X9 (wF tx) L x.val).length:Int)=(↑(X9 (wF tx) L y.val).length:Int)/\(x.val:Int)+(1:Int)=(y.val:Int)/\True)/\(L.length=L.length/\Z6 L.length (Y0 (A9 (wF tx) L x.val)) (Y0 (A9 (wF tx) L y.val)))/\(1=1/\1=1/\tx=tx/\True)/\True)/\Lt (L.length-y.val) (L.length-x.val)))/\(decide ((x.val:Int)<(L.length:Int))=false->lL (↑(X9 (wF tx) L x.val).length:Int) L.length/\Le (0+(↑(X9 (wF tx) L x.val).length:Int).toNat+(L.length- (↑(X9 (wF tx) L x.val).length:Int).toNat)) L.length/\lL (↑(X9 (wF tx) L x.val).length:Int) L.length/\((0=0/\(↑(X9 (wF tx) L x.val).length:Int).toNat=(X9 (wF tx) L L.length).length)/\True)/\(L.length=L.length/\Z6 L.length (λ(j:Nat)=>match(0+(↑(X9 (wF tx) L x.val).length:Int).toNat).ble j&&j.blt (0+(↑(X9 (wF tx) L x.val).length:Int).toNat+(L.length- (↑(X9 (wF tx) L x.val).length:Int).toNat)) with|true=>[T.int .i64 (0:Int),T.int .i64 (0:Int)]|false=>[T.int .i64 ((A9 (wF tx) L x.val).getD j dz).tx,T.int .i64 ((A9 (wF tx) L x.val).getD j dz).fo]) λ(j:Nat)=>match(X9 (wF tx) L L.length).length.ble j&&j.blt ((X9 (wF tx) L L.length).length+(L.length- (X9 (wF tx) L L.length).length)) with|true=>[T.int .i64 (0:Int),T.int .i64 (0:Int)]|false=>[T.int .i64 ((A9 (wF tx) L L.length).getD j dz).tx,T.int .i64 ((A9 (wF tx) L L.length).getD j dz).fo])/\(1=1/\1=1/\tx=tx/\True)/\True))):
  H3 Tryz.prog 289 [.osl 0 0 L.length,.fn (.func 290) [.ref 1 0 0]] [nC L,uU tx] (.osl 0 0 (X9 (wF tx) L L.length).length) [c1S L tx,uU tx]:=
 v8 (gC a8e (gC a1Q gN)) Tryz.func289 (b56 L tx) [[.arr 0,.box 1]] h
theorem a6L{n:Nat}{p:Nat->Bool}(h:P9 n p= -1):∀q,q<n->p q=false:=by
 intro q;induction q using Nat.strongRecOn with
 |ind q ih=>
  intro hq;cases hp:p q with
  |false=>rfl
  |true=>
   have:=M6 hq hp λj hj=>ih j hj (by omega)
   rw[this] at h;omega
theorem a1e{n:Nat}{p:Nat->Bool}(h:(P9 n p==(-1:Int))=false):∃i,i<n/\p i=true/\(∀j,j<i->p j=false)/\P9 n p=(i:Int):=by
 refine mO λhn=> ?_
 cases ha:anyI n p with
 |false=>
  rw[J1 (Q8.1 ha)] at h;cases h
 |true=>
  obtain⟨i,hi,hp⟩:=Q9.1 ha;have hf:∃i,i<n/\p i=true/\∀j,j<i->p j=false:=by
   induction i using Nat.strongRecOn with
   |ind i ih=>
    by_cases hj:∃j,j<i/\p j=true
    ·obtain⟨j,hj,hpj⟩:=hj;exact ih j hj (by omega) hpj
    ·refine⟨i,hi,hp,λj hj'=> ?_⟩
     cases hpj:p j with
     |false=>rfl
     |true=>exact absurd ⟨j,hj',hpj⟩ hj
  obtain⟨i,hi,hp,hl⟩:=hf;rw[M6 hi hp hl] at hn;omega
theorem a6H{α:Type}[Inhabited α]{ts:α->List T}{m:Nat}(hm:∀a,(ts a).length=m){f:α->Bool}{L:List α}{j:Nat}(h:f (L.getD j dz)=true):Z6 L.length (setRow (λi=>ts ((A9 f L j).getD i dz)) (X9 f L j).length 0 (ts (L.getD j dz))) λi=>ts ((A9 f L (j+1)).getD i dz):=λi _=>by
 rw[m5 (by rw[hm,hm])]
 dsimp only;rw[c19 h];cases hb:Nat.beq i (X9 f L j).length with
 |true=>
  rw[if_pos (G3 hb)]
 |false=>
  rw[if_neg λe=>by rw[e,Nat.beq_refl] at hb;cases hb]
theorem a1Y{row row':Nat->List T}{n m:Nat}{z:List T}(he:∀i,i<n->row i=row' i)(hm:n<=m):Z6 n row (K1 row' m (n-m) z):=λi hi=>by
 unfold K1;cases hb:Nat.ble m i with
 |true=>exact absurd (v6 hb) (by omega)
 |false=>exact he i hi
theorem a62{α:Type}[Inhabited α]{ts:α->List T}{sz:Nat}{f:α->Bool}{L:List α}{z:List T}{b:Option Ob}(h:(X9 f L L.length).length<=L.length):b9I [some (.arr true 0 sz L.length (K1 (λi=>ts ((A9 f L L.length).getD i dz)) (X9 f L L.length).length (L.length- (X9 f L L.length).length) z)),b] [some (.arr true 0 sz (X9 f L L.length).length (λi=>ts ((X9 f L L.length).getD i dz))),b]:=b4O λo' ho=>by
 simp only[W8] at ho;subst ho;refine⟨_,rfl,.inr ⟨_,_,_,_,_,_,_,rfl,rfl,h,λi hi=> ?_⟩⟩
 unfold K1;cases hb:Nat.ble (X9 f L L.length).length i with
 |true=>exact absurd (v6 hb) (by omega)
 |false=>exact(congrArg ts (c02 hi)).symm
theorem a87:GK 287 b3o:=gk Tryz.func287<|by
 rintro⟨L,tx⟩ (hL:L.length<=1048576);have hfl:=yW (hF tx) L L.length;refine a63 (b0L L tx ⟨(L,tx),⟨S8 _,⟨Z7,⟨rfl,Z9,trivial⟩,trivial⟩,by unfold O6;dsimp only;omega⟩,λhn=> ?_,λhn=> ?_⟩) (a62 (ts:=Lck.ts) hfl)
 ·obtain⟨e1,e2⟩:=dG (f:=hF tx) (W4 L.length) λq hq=>by
   have:=a6L (beq_iff_eq.1 hn) q hq;unfold d1 at this;unfold hF bne;rw[this];rfl
  refine⟨⟨⟨rfl,e1.symm⟩,trivial⟩,⟨rfl,?_⟩,⟨rfl,rfl,Z9⟩,trivial⟩
  exact a1Y (row:=Y7 L) (row':=Y7 (A9 (hF tx) L L.length)) (z:=c0r) (λi _=>by rw[e2]) (Nat.le_of_eq e1.symm)
 ·obtain⟨i,hi,hp,hl,he⟩:=a1e hn;have hi:i<L.length:=hi;obtain⟨e1,e2⟩:=dG (f:=hF tx) (L:=L) (j:=i) (by omega) λq hq=>by
   have:=hl q hq;unfold d1 at this;unfold hF bne;rw[this];rfl
  have hfi:hF tx (L.getD i dz)=false:=by
   unfold d1 at hp;unfold hF bne;rw[hp];rfl
  have e3:(X9 (hF tx) L (i+1)).length=i:=by rw[oA hfi];exact e1
  have e4:A9 (hF tx) L (i+1)=L:=by rw[b5A hfi];exact e2
  have he:P9 L.length (d1 L tx)=(i:Int):=he;refine⟨?_,⟨⟨i+1,hi⟩,⟨Z8,⟨rfl,U3⟩,?_,?_,trivial⟩,⟨rfl,?_⟩,⟨rfl,rfl,Z9⟩,trivial⟩,λx=>⟨λhc=> ?_,λhc=> ?_⟩⟩
  ·dsimp only;rw[he];exact Z4 (by omega)
  ·dsimp only;rw[he,e3]
  ·dsimp only;rw[he];omega
  ·dsimp only;rw[e4];exact Z2 _ _
  ·have hlt:=X6 hc;have hle:=yW (hF tx) L x.val;have e0:(A9 (hF tx) L x.val).getD x.val dz=L.getD x.val dz:=b6V hle;rw[F5,F5,G9,G9,e0];refine⟨X8 hlt,hlt,(L.getD x.val dz,tx),⟨⟨⟨rfl,rfl,rfl,Z9⟩,Z9,trivial⟩,trivial⟩,λhd=> ?_,λhd=> ?_⟩
   ·have hd:hF tx (L.getD x.val dz)=true:=by
     exact hd
    exact⟨X8 (by omega),by unfold Lt;omega,Z4 (by omega),Z4 (by omega),⟨x.val+1,hlt⟩,⟨⟨Z8,⟨rfl,U3⟩,congrArg Int.ofNat (rD hd),by dsimp only;omega,trivial⟩,⟨rfl,a6H (m:=4) (ts:=Lck.ts) (λ_=>rfl) hd⟩,⟨rfl,rfl,Z9⟩,trivial⟩,V1.ext_lt hlt⟩
   ·have hd:hF tx (L.getD x.val dz)=false:=by
     exact hd
    refine⟨Z4 (by omega),⟨x.val+1,hlt⟩,⟨⟨Z8,⟨rfl,U3⟩,?_,by dsimp only;omega,trivial⟩,⟨rfl,?_⟩,⟨rfl,rfl,rfl,trivial⟩,trivial⟩,V1.ext_lt hlt⟩
    ·dsimp only;rw[oA hd]
    ·dsimp only;rw[b5A hd];exact Z2 _ _
  ·have hx:x.val=L.length:=by have:=x.2;have:=X4 hc;omega
   rw[hx,F5,G9];exact⟨⟨by omega,by omega⟩,by unfold Le;omega,⟨by omega,by omega⟩,U3,Z7,⟨rfl,rfl,Z9⟩,trivial⟩
theorem b3l:GK 289 b4u:=gk Tryz.func289<|by
 rintro⟨L,tx⟩ (hL:L.length<=1048576);have hfl:=yW (wF tx) L L.length;refine a63 (b4t L tx ⟨(L,tx),⟨S8 _,⟨Z7,⟨rfl,Z9,trivial⟩,trivial⟩,by unfold O6;dsimp only;omega⟩,λhn=> ?_,λhn=> ?_⟩) (a62 (ts:=Wt.ts) hfl)
 ·obtain⟨e1,e2⟩:=dG (f:=wF tx) (W4 L.length) λq hq=>by
   have:=a6L (beq_iff_eq.1 hn) q hq;unfold d2 at this;unfold wF bne;rw[←Bool.not_or,this];rfl
  refine⟨⟨⟨rfl,e1.symm⟩,trivial⟩,⟨rfl,?_⟩,⟨rfl,rfl,Z9⟩,trivial⟩
  exact a1Y (row:=Y0 L) (row':=Y0 (A9 (wF tx) L L.length)) (z:=zWt) (λi _=>by rw[e2]) (Nat.le_of_eq e1.symm)
 ·obtain⟨i,hi,hp,hl,he⟩:=a1e hn;have hi:i<L.length:=hi;obtain⟨e1,e2⟩:=dG (f:=wF tx) (L:=L) (j:=i) (by omega) λq hq=>by
   have:=hl q hq;unfold d2 at this;unfold wF bne;rw[←Bool.not_or,this];rfl
  have hfi:wF tx (L.getD i dz)=false:=by
   unfold d2 at hp;unfold wF bne;rw[←Bool.not_or,hp];rfl
  have e3:(X9 (wF tx) L (i+1)).length=i:=by rw[oA hfi];exact e1
  have e4:A9 (wF tx) L (i+1)=L:=by rw[b5A hfi];exact e2
  have he:P9 L.length (d2 L tx)=(i:Int):=he;refine⟨?_,⟨⟨i+1,hi⟩,⟨Z8,⟨rfl,U3⟩,?_,?_,trivial⟩,⟨rfl,?_⟩,⟨rfl,rfl,Z9⟩,trivial⟩,λx=>⟨λhc=> ?_,λhc=> ?_⟩⟩
  ·dsimp only;rw[he];exact Z4 (by omega)
  ·dsimp only;rw[he,e3]
  ·dsimp only;rw[he];omega
  ·dsimp only;rw[e4];exact Z2 _ _
  ·have hlt:=X6 hc;have hle:=yW (wF tx) L x.val;have e0:(A9 (wF tx) L x.val).getD x.val dz=L.getD x.val dz:=b6V hle;rw[F5,F5,G9,G9,e0];refine⟨X8 hlt,hlt,(L.getD x.val dz,tx),⟨⟨⟨rfl,Z9⟩,Z9,trivial⟩,trivial⟩,λhd=> ?_,λhd=> ?_⟩
   ·have hd:wF tx (L.getD x.val dz)=true:=by
     unfold wF bne;rw[←Bool.not_or];exact hd
    exact⟨X8 (by omega),by unfold Lt;omega,Z4 (by omega),Z4 (by omega),⟨x.val+1,hlt⟩,⟨⟨Z8,⟨rfl,U3⟩,congrArg Int.ofNat (rD hd),by dsimp only;omega,trivial⟩,⟨rfl,a6H (m:=2) (ts:=Wt.ts) (λ_=>rfl) hd⟩,⟨rfl,rfl,Z9⟩,trivial⟩,V1.ext_lt hlt⟩
   ·have hd:wF tx (L.getD x.val dz)=false:=by
     unfold wF bne;rw[←Bool.not_or];exact hd
    refine⟨Z4 (by omega),⟨x.val+1,hlt⟩,⟨⟨Z8,⟨rfl,U3⟩,?_,by dsimp only;omega,trivial⟩,⟨rfl,?_⟩,⟨rfl,rfl,rfl,trivial⟩,trivial⟩,V1.ext_lt hlt⟩
    ·dsimp only;rw[oA hd]
    ·dsimp only;rw[b5A hd];exact Z2 _ _
  ·have hx:x.val=L.length:=by have:=x.2;have:=X4 hc;omega
   rw[hx,F5,G9];exact⟨⟨by omega,by omega⟩,by unfold Le;omega,⟨by omega,by omega⟩,U3,Z7,⟨rfl,rfl,Z9⟩,trivial⟩
end Go.Proofs.YtghgljelnhfihaaGreat

namespace Go.Proofs.YtghgljelnhfihaaGreat
set_option maxRecDepth 100000
open Go.SS Go.RowKit

def frE(e:Eng)(tx:Int):Eng:={e with lk:=frK e.lk tx}
def b7y:Con:=.reff ⟨Eng×Int×Nat,λx=>[.ref 0 0 11,.int .i64 x.2.1],λx=>x.1.bx x.2.2,λ_=>.tup [],λx=>(frE x.1 x.2.1).nx x.2.2,λx=>x.1.lk.H.length<=1048576/\x.1.lk.W.length<=1048576⟩
theorem b4l:GK 213 b7y:=gk Tryz.func213<|by
 rintro⟨e,tx,v⟩ ⟨h1,h2⟩;dsimp only at h1 h2;exact v8 (gC a87 (gC b3l gN)) Tryz.func213 Y5 [[.box 0,.arr 1,.arr 2,.arr 3,.arr 4,.arr 5,.arr 6,.arr 7,.arr 8,.cel 0 0,.cel 0 1,.cel 0 3,.cel 0 5,.cel 0 7,.cel 0 10,.cel 0 11,.cel 0 12]] (α:=let r:=(X9 (wF tx) e.lk.W e.lk.W.length);let q:=(X9 (hF tx) e.lk.H e.lk.H.length);∃(x:(List Lck×Int)),let y:=x.1.length;let z:=(X9 (hF x.2) x.1 y);(((0=0/\e.lk.H.length=y)/\(Fn.func 288=Fn.func 288/\(0=0/\0=0)/\True)/\True)/\((Y8 Y7 e.lk.H x.1)/\(1=1/\Z6 1 (λ(x:Nat)=>[T.int .i64 tx]) λ(x_1:Nat)=>[T.int .i64 x.2])/\True)/\y<=1048576)/\∃(x_1:(List Wt×Int)),let u:=x_1.1.length;let p:=(X9 (wF x_1.2) x_1.1 u);(((0=0/\e.lk.W.length=u)/\(Fn.func 290=Fn.func 290/\(0=0/\0=0)/\True)/\True)/\((Y8 Y0 e.lk.W x_1.1)/\(1=1/\Z6 1 (λ(x_2:Nat)=>[T.int .i64 x.2]) λ(x:Nat)=>[T.int .i64 x_1.2])/\True)/\u<=1048576)/\(True/\True)/\(1=1/\1=1/\(0=0/\e.s.d.E.length=e.s.d.E.length)/\(0=0/\e.s.d.C.length=e.s.d.C.length)/\e.s.d.A=e.s.d.A/\(0=0/\e.s.d.keep.length=e.s.d.keep.length)/\e.s.ep=e.s.ep/\(0=0/\e.s.L.length=e.s.L.length)/\e.s.S=e.s.S/\(0=0/\e.s.fr.length=e.s.fr.length)/\e.s.J=e.s.J/\e.up=e.up/\(0=0/\e.X.length=e.X.length)/\(0=0/\z.length=q.length)/\(0=0/\p.length=r.length)/\e.N=e.N/\True)/\True/\True/\True/\True/\True/\True/\True/\True/\(Y8 Z5 e.s.d.E e.s.d.E)/\(Y8 Y9 e.s.d.C e.s.d.C)/\(Y8 Y6 e.s.d.keep e.s.d.keep)/\(Y8 Y3 e.s.L e.s.L)/\(v=v/\e.s.fr.length=e.s.fr.length/\T9 e.s.fr.length (Y2 e.s.fr) (Y2 e.s.fr))/\(Y8 X0 e.X e.X)/\(Y8 Y7 z q)/\(Y8 Y0 p r)/\True) ⟨(e.lk.H,tx),⟨⟨Z8,⟨rfl,U3⟩,trivial⟩,⟨Z7,X5⟩,h1⟩,(e.lk.W,tx),⟨⟨Z8,⟨rfl,U3⟩,trivial⟩,⟨Z7,X5⟩,h2⟩,A7,⟨rfl,rfl,Z8,Z8,rfl,Z8,rfl,Z8,rfl,Z8,rfl,rfl,Z8,Z8,Z8,Z9⟩,trivial,trivial,trivial,trivial,trivial,trivial,trivial,trivial,Z7,Z7,Z7,Z7,Q2,Z7,Z7,X5⟩
def OvB(e:Eng)(tx:Int)(k:Nat):Prop:=U4 e.X tx=k/\k<e.X.length/\(e.X.getD k dz).id=tx/\e.X.length<=1000/\e.lk.H.length<=1048576/\e.lk.W.length<=1048576
def b9Q:Con:=.reff ⟨Eng×Int×Nat×Nat,λx=>[.ref 0 0 0,.int .i64 x.2.1],λx=>x.1.bx x.2.2.2,λ_=>.tup [],λx=>(qU x.1 x.2.2.1).nx x.2.2.2,λx=>OvB x.1 x.2.1 x.2.2.1⟩
theorem b9G(e:Eng)(tx:Int)(k v:Nat)(h:
  ∃(x:(Eng×Int)),((LeG e)/\((a2f e x.1)/\tx=x.2/\True)/\O6 x.1.X.length)/\W7 .i64 (U4 x.1.X x.2+(1:Int))/\∃(x_1:(List Txn×Nat)),(((0=0/\e.X.length=x_1.1.length)/\U4 x.1.X
  x.2=(x_1.2:Int)/\U4 x.1.X x.2+(1:Int)=(↑(x_1.2+1):Int)/\True)/\((Y8 X0 e.X x_1.1)/\True)/\x_1.2<x_1.1.length)/\∃(x:(Eng×Int×Nat)),(((0=0/\11=11)/\tx=x.2.1/\True)
  /\((1=1/\1=1/\(0=0/\e.s.d.E.length=x.1.s.d.E.length)/\(0=0/\e.s.d.C.length=x.1.s.d.C.length)/\e.s.d.A=x.1.s.d.A/\(0=0/\e.s.d.keep.length=x.1.s.d.keep.length)/\e.s.ep=
  x.1.s.ep/\(0=0/\e.s.L.length=x.1.s.L.length)/\e.s.S=x.1.s.S/\(0=0/\e.s.fr.length=x.1.s.fr.length)/\e.s.J=x.1.s.J/\e.up=x.1.up/\(0=0/\(c9 x_1.1 x_1.2).length=
  x.1.X.length)/\(0=0/\e.lk.H.length=x.1.lk.H.length)/\(0=0/\e.lk.W.length=x.1.lk.W.length)/\e.N=x.1.N/\True)/\(Y8 Z5 e.s.d.E x.1.s.d.E)/\(Y8 Y9 e.s.d.C
  x.1.s.d.C)/\(Y8 Y6 e.s.d.keep x.1.s.d.keep)/\(Y8 Y3 e.s.L x.1.s.L)/\(v=x.2.2/\e.s.fr.length=x.1.s.fr.length/\T9 e.s.fr.length (Y2 e.s.fr) (Y2 x.1.s.fr))/\(Y8 X0 (c9
  x_1.1 x_1.2) x.1.X)/\(Y8 Y7 e.lk.H x.1.lk.H)/\(Y8 Y0 e.lk.W x.1.lk.W)/\True)/\x.1.lk.H.length<=1048576/\x.1.lk.W.length<=1048576)/\(True/\True)/\(1=1/\1=1/\(0=0/\
  x.1.s.d.E.length=e.s.d.E.length)/\(0=0/\x.1.s.d.C.length=e.s.d.C.length)/\x.1.s.d.A=e.s.d.A/\(0=0/\x.1.s.d.keep.length=e.s.d.keep.length)/\x.1.s.ep=e.s.ep/\(0=0/\
  x.1.s.L.length=e.s.L.length)/\x.1.s.S=e.s.S/\(0=0/\x.1.s.fr.length=e.s.fr.length)/\x.1.s.J=e.s.J/\x.1.up=e.up/\(0=0/\x.1.X.length=(List.take k e.X++List.drop (k+1)
  e.X).length)/\(0=0/\(X9 (hF x.2.1) x.1.lk.H x.1.lk.H.length).length=(X9 (hF (e.X.getD k dz).id) e.lk.H e.lk.H.length).length)/\(0=0/\(X9 (wF x.2.1) x.1.lk.W
  x.1.lk.W.length).length=(X9 (wF (e.X.getD k dz).id) e.lk.W e.lk.W.length).length)/\x.1.N=e.N/\True)/\True/\True/\True/\True/\True/\True/\True/\True/\(Y8 Z5 x.1.s.d.E
  e.s.d.E)/\(Y8 Y9 x.1.s.d.C e.s.d.C)/\(Y8 Y6 x.1.s.d.keep e.s.d.keep)/\(Y8 Y3 x.1.s.L e.s.L)/\(x.2.2=v/\x.1.s.fr.length=e.s.fr.length/\T9 x.1.s.fr.length (Y2 x.1.s.fr)
  (Y2 e.s.fr))/\(Y8 X0 x.1.X (List.take k e.X++List.drop (k+1) e.X))/\(Y8 Y7 (X9 (hF x.2.1) x.1.lk.H x.1.lk.H.length) (X9 (hF (e.X.getD k dz).id) e.lk.H e.lk.H.length))/\
  (Y8 Y0 (X9 (wF x.2.1) x.1.lk.W x.1.lk.W.length) (X9 (wF (e.X.getD k dz).id) e.lk.W e.lk.W.length))/\True):
  H3 Tryz.prog 107 [.ref 0 0 0,.int .i64 tx] (e.bx v) (.tup []) ((qU e k).nx v):=
 v8 (gC tP (gC a7Y (gC b4l gN))) Tryz.func107 Y5 [[.box 0,.arr 1,.arr 2,.arr 3,.arr 4,.arr 5,.arr 6,.arr 7,.arr 8,.cel 0 0,.cel 0 1,.cel 0 3,.cel 0 5,.cel 0 7,.cel 0 10,.cel 0 11,.cel 0 12]] h
theorem b5D:GK 107 b9Q:=gk Tryz.func107<|by
 rintro⟨e,tx,k,v⟩ ⟨ha,hk,hi,h1,h2,h3⟩;dsimp only at ha hk hi h1 h2 h3;subst hi;refine b9G e _ k v ⟨(e,_),⟨⟨S8 _,S8 _,S8 _,S8 _,S8 _,S8 _,S8 _,S8 _⟩,⟨⟨Z7,Z7,rfl,Z7,rfl,Z7,rfl,⟨rfl,λ_ _=>rfl⟩,rfl,rfl,Z7,Z7,Z7,Z9⟩,Z9⟩,by unfold O6;dsimp only;omega⟩,by rw[ha];exact Z4 (by omega),(e.X,k),⟨⟨Z8,ha,by rw[ha];rfl,trivial⟩,⟨⟨rfl,Z2 _ _⟩,trivial⟩,hk⟩,({e with X:=c9 e.X k},_,v),⟨⟨Z8,Z9⟩,⟨⟨rfl,rfl,Z8,Z8,rfl,Z8,rfl,Z8,rfl,Z8,rfl,rfl,Z8,Z8,Z8,Z9⟩,Z7,Z7,Z7,Z7,Q2,Z7,Z7,X5⟩,h2,h3⟩,A7,⟨rfl,rfl,Z8,Z8,rfl,Z8,rfl,Z8,rfl,Z8,rfl,rfl,Z8,Z8,Z8,Z9⟩,trivial,trivial,trivial,trivial,trivial,trivial,trivial,trivial,Z7,Z7,Z7,Z7,Q2,Z7,Z7,X5⟩
def b2x:Con:=.rel ⟨Eng×Int,λx=>[.bref x.1.ts,.int .i64 x.2],λx=>.int .i64 (V4 x.1 x.2).2,λx=>O6 x.1.X.length⟩
theorem a7s:GK 50 b2x:=gk Tryz.func50<|by
 rintro⟨e,tx⟩ (hL:O6 e.X.length);refine Q5 (gC tP gN) Tryz.func50 Y5 (α:=let p:=(V4 e tx).2;((!e.up)=true->15=p)/\((!e.up)=false->∃(x:(Eng×Int)),(((R8 e x.1)/\tx=x.2/\True)/\O6 x.1.X.length)/\(decide (U4 x.1.X x.2<0)=true->19=p)/\(decide (U4 x.1.X x.2<0)=false->0=p))) ⟨λhu=>by rw[c0K hu],λhu=>⟨(e,tx),⟨⟨R4 _,Z9⟩,hL⟩,λhq=>by rw[c06 hu hq],λhq=>by rw[c0H hu hq]⟩⟩
end Go.Proofs.YtghgljelnhfihaaGreat

