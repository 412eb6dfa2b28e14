/- A part of the proof. -/
import Derived.Test.YtokaojbaacnngaaGreatU13U14U15U16
import Derived.WalkKit
import Derived.Deep.RegionLaw
import Derived.Deep.LoopGhost
import Derived.Lib.SliceRun
import Derived.Deep.MidRow
import Derived.Shelf.RegionOpenPlain
import Derived.Laws.IdiomCopy
import Derived.Test.YtokaojbaacnngaaGreatU3U4U5
import Derived.Test.YtokaojbaacnngaaGreatX11X11rX12X13X14
import Derived.Test.YtokaojbaacnngaaGreatL7L8U10
namespace Go.Proofs.YtokaojbaacnngaaGreat
open Go.SS Go.RowKit

def oS:List Value:=[.int .i64 0,.int .i64 0]
theorem aX:(Tryz.prog.info? 102).map (λi=>(i.zero,i.size,i.bytes))=some (some (.agg oS.toArray),2,16):=by kernel_rfl
theorem gS:Tryz.prog.underlying 46=some (.slice 102):=by kernel_rfl
theorem jD(w:World)(ty:TypeId)(b o c:Nat)(hc:∀j,j<2->(w.cell? ⟨b,o+j,none⟩).isSome=true)(hf:∀j,j<2->w.frozen? ⟨b,o+j,none⟩=false):
  (Builtin.clear_ #[46] ty #[.slice (some ⟨b,o,none⟩) 1 c]).run Tryz.prog w= .ok (.tuple #[]) (w.setCells b o oS):=by
 obtain⟨i0,hi0,hz0,_⟩:=info_parts aX;have hv:∀w,(zeroValue 102).run Tryz.prog w= .ok (.agg oS.toArray) w:=λw=>by
  simp[zeroValue,typeInfo,hi0,hz0]
 have hst:=run_storeCells_cells (P:=Tryz.prog) b o oS 0 w (λj (hj:j<2)=>by rw[Nat.add_zero];exact hc j hj) (λj (hj:j<2)=>by rw[Nat.add_zero];exact hf j hj) (by intro v hv';simp only[oS,wE,j_i,or_false] at hv';rcases hv' with rfl|rfl<;>rfl)
 simp only[Nat.add_zero] at hst;have hzc:(Builtin.zeroCells (Value.agg oS.toArray).cells 1).toList=oS:=by kernel_rfl
 simp[Builtin.clear_,run_underlying gS,hv,hzc,hst]
set_option maxHeartbeats 4000000 in
set_option maxRecDepth 1000000 in
theorem a7R(b cap n i j:Nat)(news:List Value)(w:World)(hj1:j=i+1)(hj:j<=n)(hn:n<=cap)(hl:news.length=(n-j)*2)(h1:∀u ∈ news,u.oneCell'=true)
  (hs:∀q u,news[q]? =some u->w.cell? ⟨b,j*2+q,none⟩=some u) (hc:∀q,q<n*2->(w.cell? ⟨b,q,none⟩).isSome=true) (hf:∀q,q<n*2->w.frozen? ⟨b,q,none⟩=false):
  Calls Tryz.prog 188 #[.slice (some ⟨b,0,none⟩) n cap,.int .i64 i,.int .i64 j] w λe w'=>e= .returned (.slice (some ⟨b,0,none⟩) (i+(n-j)) cap)/\w'=(w.drew.setCells b (i*2) news).setCells b ((i+(n-j))*2) oS:=by
 have a6G:Tryz.prog.follows .mixedOrders=true:=by kernel_rfl
 obtain⟨i0,hi0,hz0,hz1,hz2⟩:=info_parts aX;obtain⟨A,hA,hnews⟩:∃A:Addr,(if cap=j then some (⟨b,0,none⟩:Addr) else some ⟨b,j*2,none⟩)=some A/\Hid (∀q u,news[q]? =some u->w.drew.cell? (A.add q)=some u):=by
  by_cases h:cap=j
  ·refine⟨⟨b,0,none⟩,by simp[h],λq u hu=> ?_⟩
   have h0:news.length=0:=by rw[hl];omega
   rw[List.length_eq_zero_iff.1 h0] at hu;simp at hu
  ·exact⟨⟨b,j*2,none⟩,by simp[h],λq u hu=>by rw[Addr.add_lit];exact hs q u hu⟩
 have s1:Hid (news.length=(n-j)*2):=hl;have s2:Hid (∀u ∈ news,u.oneCell'=true):=h1;have s3:Hid (∀q,q<news.length->(w.drew.cell? ⟨b,0+i*2+q,none⟩).isSome=true/\w.drew.frozen? ⟨b,0+i*2+q,none⟩=false):=by
  intro q hq;rw[hl] at hq;exact⟨hc _ (by omega),hf _ (by omega)⟩
 obtain⟨W1,hW1⟩:∃W1,W1=w.drew.setCells b (0+i*2) news:=⟨_,rfl⟩;have hcl:∀ty,(Builtin.clear_ #[46] ty #[.slice (some ⟨b,(i+(n-j))*2,none⟩) (n- (i+(n-j))) (cap- (i+(n-j)))]).run Tryz.prog W1= .ok (.tuple #[]) (W1.setCells b ((i+(n-j))*2) oS):=by
  intro ty;rw[show n- (i+(n-j))=1 by omega]
  refine jD W1 ty b _ _ (λq hq=> ?_) (λq hq=> ?_)
  ·rw[hW1];exact World.isSome_setCells b _ _ _ _ (hc _ (by omega))
  ·rw[hW1,World.frozen?_setCells]
   exact hf _ (by omega)
 have hW:Hid (W1=w.drew.setCells b (0+i*2) news):=hW1;have X:Aside (W1=w.drew.setCells b (i*2) news):=by rw[hW1,E6];exact rfl
 have hic:i<=cap:=by omega
 have hjc:j<=cap:=by omega
 have hlt:i<j:=by omega
 have heq:¬i=j:=by omega
 have hij:i<=j:=by omega
 have hin:i<=n:=by omega
 clear hW1 hc hf hs h1 hl hj1
 go_enter Tryz.func188,Tryz.ntmps188
 go_wp2_with fail
 go_region_law_o (refine step_append_room rfl (.tmp 22) (.tmp 25) 46 rfl 102 i0 2 gS hi0 hz1 b 0 i cap (by simp[Act.eval,Act.put]) A (n-j) (cap-j) news (by simp[Act.eval,Act.put]) s1.out hnews.out s2.out (by omega) s3.out ?_;rw[←hW.out])
 go_wp2
 go_ret
 exact⟨rfl,by rw[X]⟩
theorem tO(w:World)(b o:Nat)(ty:TypeId)(cs:Array Value)(news:List Value)(hb:w.heap[b]? =some (.cells cs ty (0,0)))(hfit:o+news.length<=cs.size)(h1:∀v ∈ news,v.oneCell'=true):
  (w.setCells b o news).os=w.os/\(w.setCells b o news).tape=w.tape/\(w.setCells b o news).output=w.output/\(w.setCells b o news).heap.size=w.heap.size/\(∀k,k≠b->(w.setCells b o news).heap[k]? =w.heap[k]?)/\
   ∃cs',(w.setCells b o news).heap[b]? =some (.cells cs' ty (0,0))/\cs'.size=cs.size/\(∀i,i<o∨o+news.length<=i->cs'[i]? =cs[i]?)/\∀i,i<news.length->cs'[o+i]? =news[i]? :=by
 obtain⟨w',hst,h⟩:=u3 Tryz.prog w b o ty cs news hb hfit h1;have hr:=run_storeCells_cells (P:=Tryz.prog) b o news 0 w (λj hj=>by rw[R8 hb,rY (show o+0+j<cs.size by omega)];rfl) (λj hj=>by simp[World.frozen?,hb]) h1
 rw[Nat.add_zero,hst] at hr;simp only[Result.ok.injEq,true_and] at hr;rw[←hr];exact h
def shJ(k r:Nat):Nat:=if r<k then r else r+1
def j8{α:Type}(L:List α)(k:Nat):List α:=L.take k++L.drop (k+1)
theorem b6F{α:Type}{L:List α}{k:Nat}(hk:k<L.length):(j8 L k).length=k+(L.length- (k+1)):=by
 unfold j8;rw[B8,List.length_take,List.length_drop];omega
theorem b9q{α:Type}[Inhabited α]{L:List α}{k:Nat}(hk:k<L.length)(i:Nat):(j8 L k).getD i default=L.getD (shJ k i) default:=by
 have hl:(L.take k).length=k:=by rw[List.length_take];omega
 unfold j8 shJ;rw[N9,N9]
 split
 ·rename_i h;rw[sC (by omega),List.getElem?_take_of_lt h]
 ·rename_i h;rw[qK (by omega),hl,List.getElem?_drop,show k+1+(i-k)=i+1 by omega]
def b2i:Con:=.reff ⟨List Txn×Nat,λx=>[.osl 0 0 x.1.length,.int .i64 x.2,.int .i64 (x.2+1:Nat)],λx=>[vA x.1],λx=>.osl 0 0 (j8 x.1 x.2).length,λx=>[vA (j8 x.1 x.2)],λx=>x.2<x.1.length⟩
theorem a4a{E:Env}{w:World}{k off n:Nat}{v:Value}(h:Rd E w (.osl k off n) v):∃a o,v= .slice a n (E.κ k-off)/\E.L k/\off+n<=E.κ k/\(off<E.κ k∨off=0->o=off*(E.z k).1)/\(E.κ k≠0->a=some ⟨E.β k,o,none⟩):=by
 cases h with
 |osl k off n o a h1 h2 h3 h4=>exact⟨a,o,rfl,h1,h2,h3,h4⟩
theorem c1f{E:Env}{w:World}{H:Y0}(hH:HeapOk E w H)(hN:∀b,E.N b->b<w.heap.size):Inv ⟨w,XB E H,E.N,0,E,0⟩ E H w:=⟨hH,hN,λb hb=>.inl hb,λk ob b h1 h2=>.inr ⟨k,ob,h1,h2⟩,⟨rfl,rfl,rfl,V1 _,λ_ _ _=>rfl⟩,⟨λ_ h=>h,λk hk=>absurd hk (F3 _),λ_ _=>rfl,λk v hk=>absurd hk (F3 _)⟩⟩
theorem a9s:GK 188 b2i:=gk Tryz.func188<|by
 rintro⟨L,k⟩ (hk:k<L.length);intro E w vs hH hN hr;dsimp only at hH hr ⊢;have hob:Z1 [vA L] 0=some (.arr true 0 2 L.length (X5 L)):=rfl;obtain⟨hL,hF,hNb⟩:=hH.live 0 _ hob;obtain⟨e1,e2,e3,e4,_,cs,tyb,e6,e7,e8⟩:=(show T4 E w 0 ⟨true,0,2,L.length,X5 L⟩ from hF)
 dsimp only at e1 e2 e3 e4 e7 e8;have hκ:E.κ 0≠0:=by omega
 have e6:=e6 hκ;have e7l:=e7.le;obtain⟨hsz,hv⟩:=hr;obtain⟨v0,v1,v2,rfl⟩:∃v0 v1 v2,vs= #[v0,v1,v2]:=by
  have h2:vs.size=3:=hsz.symm;exact⟨vs[0],vs[1],vs[2],by apply Array.ext<;>simp[h2];intro i hi _;match i,hi with|0,_=>rfl|1,_=>rfl|2,_=>rfl⟩
 obtain rfl:=wP (hv 1 (.int .i64 k) v1 rfl rfl);obtain rfl:=wP (hv 2 (.int .i64 (k+1:Nat)) v2 rfl rfl);obtain⟨a,o,rfl,_,_,ho,ha⟩:=a4a (hv 0 (.osl 0 0 L.length) v0 rfl rfl);have ho:o=0:=by have:=ho (.inr rfl);omega
 subst ho;rw[ha hκ,Nat.sub_zero];have hrow:∀i q,i<L.length->q<2->∃t u,(X5 L i)[q]? =some t/\cs[i*2+q]? =some u/\Rd E w t u/\u.oneCell'=true:=λi q hi hq=>by
  have h5:(X5 L i).length=2:=rfl;obtain⟨t,ht⟩:∃t,(X5 L i)[q]? =some t:=⟨_,L4 (by omega)⟩
  obtain⟨u,hu,hru⟩:=e8 i q _ hi ht;exact⟨t,u,ht,hu,hru,oG hru (e4 i _ hi (C3 ht))⟩
 have hcell:∀j,j<L.length*2->∃u,cs[j]? =some u/\u.oneCell'=true:=λj hj=>by
  obtain⟨_,u,_,h2,_,h4⟩:=hrow (j/2) (j % 2) (by omega) (by omega)
  exact⟨u,by rw[show j=j/2*2+j % 2 by omega];exact h2,h4⟩
 have hsz2:L.length*2<=cs.size:=by omega
 have hnl:((cs.toList.drop ((k+1)*2)).take ((L.length- (k+1))*2)).length=(L.length- (k+1))*2:=by
  rw[List.length_take,List.length_drop,Array.length_toList (xs:=cs)];omega
 have hng:∀q,q<(L.length- (k+1))*2->((cs.toList.drop ((k+1)*2)).take ((L.length- (k+1))*2))[q]? =cs[(k+1)*2+q]? :=λq hq=>by
  rw[List.getElem?_take,if_pos hq,List.getElem?_drop,Array.getElem?_toList]
 have hn1:∀u ∈ (cs.toList.drop ((k+1)*2)).take ((L.length- (k+1))*2),u.oneCell'=true:=λu hu=>by
  obtain⟨q,hq⟩:=List.getElem?_of_mem hu
  have hlt:q<(L.length- (k+1))*2:=by rw[←hnl];exact(A5.1 hq).1
  rw[hng q hlt] at hq;obtain⟨u',h1,h2⟩:=hcell ((k+1)*2+q) (by omega)
  rw[h1] at hq;simp only[W8] at hq;rw[←hq];exact h2
 generalize hnews:(cs.toList.drop ((k+1)*2)).take ((L.length- (k+1))*2)=news at hnl hng hn1;have hb:∀j,w.cell? ⟨E.β 0,j,none⟩=cs[j]? :=λj=>R8 e6
 have hs:∀q u,news[q]? =some u->w.cell? ⟨E.β 0,(k+1)*2+q,none⟩=some u:=λq u hq=>by
  have hlt:q<(L.length- (k+1))*2:=by rw[←hnl];exact(A5.1 hq).1
  rw[hb,←hng q hlt];exact hq
 have hc:∀q,q<L.length*2->(w.cell? ⟨E.β 0,q,none⟩).isSome=true:=λq hq=>by
  obtain⟨u,h1,_⟩:=hcell q hq;rw[hb,h1];rfl
 have hf:∀q,q<L.length*2->w.frozen? ⟨E.β 0,q,none⟩=false:=λq _=>by simp[World.frozen?,e6]
 refine(a7R (E.β 0) (E.κ 0) L.length k (k+1) news w rfl hk e2 hnl hn1 hs hc hf).mono ?_
 rintro e w' ⟨rfl,hw'⟩;have hd6:w.drew.heap[E.β 0]? =some (.cells cs tyb (0,0)):=e6;obtain⟨a1,a2,a3,a4,a5,cs1,a6,a7,a8,a9⟩:=tO w.drew (E.β 0) (k*2) tyb cs news hd6 (by rw[hnl];omega) hn1
 generalize w.drew.setCells (E.β 0) (k*2) news=w1 at hw' a1 a2 a3 a4 a5 a6;obtain⟨b1,b2,b3,b4,b5,cs2,b6,b7,b8,_⟩:=tO w1 (E.β 0) ((k+(L.length- (k+1)))*2) tyb cs1 oS a6 (by rw[a7];show _+2<=_;omega) (by intro v hv';simp only[oS,wE,j_i,or_false] at hv';rcases hv' with rfl|rfl<;>rfl)
 rw[←hw'] at b1 b2 b3 b4 b5 b6;have hlen:(j8 L k).length=k+(L.length- (k+1)):=b6F hk;have hz2:oS.length=2:=rfl;have hnew:∀r q,r<(j8 L k).length->q<2->cs2[r*2+q]? =cs[shJ k r*2+q]? :=λr q hr hq=>by
  rw[b8 _ (.inl (by omega))]
  unfold shJ;by_cases h:r<k
  ·rw[if_pos h,a8 _ (.inl (by omega))]
  ·rw[if_neg h];have:=a9 ((r-k)*2+q) (by rw[hnl];omega)
   rw[show k*2+((r-k)*2+q)=r*2+q by omega] at this
   rw[this,hng _ (by omega)]
   congr 1
   omega
 have hsh:∀r,r<(j8 L k).length->shJ k r<L.length:=λr hr=>by unfold shJ;split<;>omega
 have hrw:∀r,X5 (j8 L k) r=X5 L (shJ k r):=λr=>by unfold X5;rw[b9q hk]
 obtain⟨hI,hst⟩:=(c1f hH hN).write (w':=w') hob rfl (b1.trans a1) (b2.trans a2) (b3.trans a3) (Nat.le_of_eq (b4.trans a4).symm) (λb _ hne=>(b5 b hne).trans (a5 b hne)) hκ (.arr true 0 2 (j8 L k).length (X5 (j8 L k))) cs2 tyb b6 e1.symm (by
   rw[e1];refine e7.keep (b7.trans a7) λq hq=> ?_
   rw[b8 q (.inr (by rw[hz2];omega)),a8 q (.inr (by rw[hnl];omega))]) (show(j8 L k).length<=E.κ 0 by omega) (λi _=>rfl) (λi t _ ht=>by
   simp only[Ob.toArr,X5,Txn.ts,wE,j_i,or_false] at ht;rcases ht with rfl|rfl<;>rfl) (λ_ i t _ ht=>by
   simp only[Ob.toArr,X5,Txn.ts,wE,j_i,or_false] at ht;rcases ht with rfl|rfl<;>rfl) (λi j t hi hj=>by
   have hi:i<(j8 L k).length:=hi;have hj:(X5 (j8 L k) i)[j]? =some t:=hj;have hq5:j<2:=(A5.1 hj).1
   rw[hrw i] at hj;obtain⟨t',u,h1,h2,h3,_⟩:=hrow (shJ k i) j (hsh i hi) hq5;rw[hj] at h1;simp only[W8] at h1;subst h1;exact⟨u,by show cs2[i*2+j]? =_;rw[hnew i j hi hq5];exact h2,h3⟩)
 refine⟨_,_,rfl,hI,hst.stp,?_⟩
 rw[hlen];have:=Rd.osl (E:=E) (w:=w') 0 0 (k+(L.length- (k+1))) 0 (some ⟨E.β 0,0,none⟩) hL (show 0+_<=E.κ 0 by omega) (λ_=>by simp) (λ_=>rfl)
 rw[Nat.sub_zero] at this;exact this
end Go.Proofs.YtokaojbaacnngaaGreat

namespace Go.Proofs.YtokaojbaacnngaaGreat
open Go.SS Go.RowKit

def gE(o o':Ob):Prop:=o=o'∨∃cl ty sz n n' row row',o= .arr cl ty sz n row/\o'= .arr cl ty sz n' row'/\n'<=n/\∀i,i<n'->row' i=row i
def b8F(H H':Y0):Prop:=H'.length=H.length/\∀k o',Z1 H' k=some o'->∃o,Z1 H k=some o/\gE o o'
theorem gE.blk{E:Env}{k:Nat}{o o':Ob}{b:Nat}(h:gE o o')(hb:G2 E k o' b):G2 E k o b:=by
 rcases h with rfl|⟨cl,ty,sz,n,n',row,row',rfl,rfl,_,_⟩
 ·exact hb
 ·exact .inl (hb.arr rfl)
theorem gE.ok{E:Env}{w:World}{k:Nat}{o o':Ob}(h:gE o o')(ho:o7 E w k o):o7 E w k o':=by
 rcases h with rfl|⟨cl,ty,sz,n,n',row,row',rfl,rfl,hn,hr⟩
 ·exact ho
 ·obtain⟨e1,e2,e3,e4,e5,cs,tyb,e6,e7,e8⟩:=(show T4 E w k ⟨cl,ty,sz,n,row⟩ from ho)
  dsimp only at e1 e2 e3 e4 e5 e7 e8;refine(show T4 E w k ⟨cl,ty,sz,n',row'⟩ from⟨e1,Nat.le_trans hn e2,λi hi=> ?_,λi t hi ht=> ?_,λhc i t hi ht=> ?_,cs,tyb,e6,e7,λi j t hi hj=> ?_⟩)
  ·have hi:i<n':=hi;show(row' i).length=sz;rw[hr i hi];exact e3 i (by omega)
  ·have hi:i<n':=hi;have ht:t ∈ row' i:=ht;rw[hr i hi] at ht;exact e4 i t (by omega) ht
  ·have hi:i<n':=hi;have ht:t ∈ row' i:=ht;rw[hr i hi] at ht;exact e5 hc i t (by omega) ht
  ·have hi:i<n':=hi;have hj:(row' i)[j]? =some t:=hj;rw[hr i hi] at hj;exact e8 i j t (by omega) hj
theorem a5x{P:Program}{f:FuncId}{args:List T}{H H1 H2:Y0}{res:T}(h:G1 P f args H res H1)(hc:b8F H1 H2):G1 P f args H res H2:=by
 intro E w vs hH hN hr;refine(h E w vs hH hN hr).mono ?_
 rintro e w' ⟨v,E',rfl,hI,hs,hr'⟩;refine⟨v,E',rfl,⟨⟨λk o hk=> ?_,λk k' o o' b hk hk' hb hb'=> ?_,λk hk=>by rw[hc.1];exact hI.heap.lt k hk,hI.heap.l2,λk o v hk hv=> ?_⟩,hI.nlt,hI.nnew,λk o b hk hb=> ?_,hI.fr,hI.keep⟩,hs,hr'⟩
 ·obtain⟨o0,h0,hcut⟩:=hc.2 k o hk;obtain⟨a1,a2,a3⟩:=hI.heap.live k o0 h0;exact⟨a1,hcut.ok a2,λb hb=>a3 b (hcut.blk hb)⟩
 ·obtain⟨o0,h0,hcut⟩:=hc.2 k o hk;obtain⟨o1,h1,hcut'⟩:=hc.2 k' o' hk';exact hI.heap.inj k k' o0 o1 b h0 h1 (hcut.blk hb) (hcut'.blk hb')
 ·obtain⟨o0,h0,hcut⟩:=hc.2 k o hk;obtain⟨v0,ty,sz,n,row,rfl,hle⟩:=hI.heap.cur k o0 v h0 hv;rcases hcut with rfl|⟨_,_,_,_,_,_,_,e,_⟩
  ·exact⟨v0,ty,sz,n,row,rfl,hle⟩
  ·cases e
 ·obtain⟨o0,h0,hcut⟩:=hc.2 k o hk;exact hI.bnew k o0 b h0 (hcut.blk hb)
theorem b5U{a b c:Option Ob}(h:∀o',c=some o'->∃o,a=some o/\gE o o'):b8F [a,b] [c,b]:=by
 refine⟨rfl,λk o' hk=> ?_⟩
 match k,hk with
 |0,hk=>exact h o' hk
 |1,hk=>exact⟨o',hk,.inl rfl⟩
 |k+2,hk=>simp[Z1] at hk

def C0{α:Type}[Inhabited α](f:α->Bool)(L:List α)(j:Nat):List α:=W9 f L j++L.drop (W9 f L j).length
theorem b7k{α:Type}[Inhabited α]{f:α->Bool}{L:List α}{j q:Nat}(hq:(W9 f L j).length<=q):(C0 f L j).getD q default=L.getD q default:=by
 unfold C0;rw[N9,qK hq,List.getElem?_drop,←N9]
 congr 1
 omega
theorem c0d{α:Type}[Inhabited α]{f:α->Bool}{L:List α}{j q:Nat}(hq:q<(W9 f L j).length):(C0 f L j).getD q default=(W9 f L j).getD q default:=by
 unfold C0;rw[N9,sC hq,←N9]
theorem b5i{α:Type}[Inhabited α]{f:α->Bool}{L:List α}{j:Nat}(h:f (L.getD j default)=false):C0 f L (j+1)=C0 f L j:=by
 unfold C0;rw[lX h]
theorem c09{α:Type}[Inhabited α]{f:α->Bool}{L:List α}{j:Nat}(h:f (L.getD j default)=true)(q:Nat):(C0 f L (j+1)).getD q default=if q=(W9 f L j).length then L.getD j default else(C0 f L j).getD q default:=by
 have e1:C0 f L (j+1)=W9 f L j++(L.getD j default::L.drop ((W9 f L j).length+1)):=by
  unfold C0;rw[a0x h,B8,List.length_singleton,List.append_assoc];rfl
 rw[e1];unfold C0;generalize W9 f L j=A;generalize L.getD j default=x;rcases Nat.lt_trichotomy q A.length with h1|h1|h1
 ·rw[if_neg (by omega),N9,N9,sC h1,sC h1]
 ·rw[if_pos h1,N9,h1,qK (V1 _),j_h]
  rfl
 ·rw[if_neg (by omega),N9,N9,qK (by omega),qK (by omega)]
  obtain⟨d,hd⟩:∃d,q-A.length=d+1:=⟨q-A.length-1,by omega⟩
  rw[hd,List.getElem?_cons_succ,List.getElem?_drop,List.getElem?_drop]
  congr 2
  omega
theorem a5B{α:Type}[Inhabited α]{f:α->Bool}{L:List α}:∀j,j<=L.length->(∀q,q<j->f (L.getD q default)=true)->W9 f L j=L.take j
 |0,_,_=>by simp[W9]
 |j+1,hj,h=>by
  rw[a0x (h j (by omega)),a5B j (by omega) λq hq=>h q (by omega),List.take_add_one,N9,L4 (show j<L.length by omega)]
  rfl
theorem fO{α:Type}[Inhabited α]{f:α->Bool}{L:List α}{j:Nat}(hj:j<=L.length)(h:∀q,q<j->f (L.getD q default)=true):(W9 f L j).length=j/\C0 f L j=L:=by
 have e:=a5B j hj h;have hl:(L.take j).length=j:=by rw[List.length_take];omega
 unfold C0;rw[e,hl];exact⟨rfl,List.take_append_drop j L⟩
end Go.Proofs.YtokaojbaacnngaaGreat

namespace Go.Proofs.YtokaojbaacnngaaGreat
set_option maxRecDepth 100000
open Go.SS Go.RowKit

def vS(n:Int):Option Ob:=some (.arr true 1000000 1 1 λ_=>[.int .i64 n])
def b6j:Con:=.rel ⟨Lck×Int,λx=>[.agg x.1.ts,.bref [.int .i64 x.2]],λx=>.bool (x.1.tx==x.2),λ_=>True⟩
theorem b5a(x:Lck)(tx:Int)(h:
  (x.tx==tx)=(x.tx==tx)):
  U3 Tryz.prog 238 [.agg x.ts,.bref [.int .i64 tx]] (.bool (x.tx==tx)):=
 S3 gN Tryz.func238 Z0 h
theorem a1a:GK 238 b6j:=gk Tryz.func238<|λx _=>b5a x.1 x.2 rfl
def b40:Con:=.rel ⟨Wt×Int,λx=>[.agg x.1.ts,.bref [.int .i64 x.2]],λx=>.bool (x.1.tx==x.2||x.1.fo==x.2),λ_=>True⟩
theorem b6c(x:Wt)(tx:Int)(h:
  (x.tx==tx||x.fo==tx)=(x.tx==tx||x.fo==tx)):
  U3 Tryz.prog 240 [.agg x.ts,.bref [.int .i64 tx]] (.bool (x.tx==tx||x.fo==tx)):=
 S3 gN Tryz.func240 Z0 h
theorem a02:GK 240 b40:=gk Tryz.func240<|λx _=>b6c x.1 x.2 rfl
def c0A(tx:Int):T:=.fn (.func 238) [.bref [.int .i64 tx]]
def c0o(tx:Int):T:=.fn (.func 240) [.bref [.int .i64 tx]]
def d1(L:List Lck)(tx:Int)(i:Nat):Bool:=(L.getD i default).tx==tx
def d2(L:List Wt)(tx:Int)(i:Nat):Bool:=(L.getD i default).tx==tx||(L.getD i default).fo==tx
def a7I:Con:=.rel ⟨List Lck×Int,λx=>[zJ x.1,c0A x.2],λx=>.int .i64 (R0 x.1.length (d1 x.1 x.2)),λx=>N3 x.1.length⟩
def a8P(L:List Lck)(tx:Int):Nat->Ann
 |0=>.one (V3 L.length (d1 L tx)) (λx=>⟨[(0,zJ L),(1,c0A tx),(7,.int .i64 L.length),(8,.int .i64 x.1)],[]⟩) (λx=>L.length-x.1) [] [] (λ_=>Z0)
 |_=>.none
theorem a41:GK 223 a7I:=gk Tryz.func223<|by
 rintro⟨L,tx⟩ (hL:L.length<1000000000000);refine S3 (gC a1a gN) Tryz.func223 (a8P L tx) (α:=(∃(x:V3 L.length (d1 L tx)),((Y6 Y5 L L)/\(Fn.func 238=Fn.func 238/\M2 (λ(x:Nat)=>none) (T.bref [T.int .i64 tx]) (T.bref [T.int .i64 tx])/\True)/\(L.length:Int)=(L.length:Int)/\(0:Int)=(x.val:Int)/\True)/\True)/\∀(x:V3 L.length (d1 L tx)),(decide ((x.val:Int)<(L.length:Int))=true->W2 (x.val:Int) L.length/\∃(x_1:(Lck×Int)),((((L.getD (x.val:Int).toNat default).tx=x_1.1.tx/\(L.getD (x.val:Int).toNat default).ta=x_1.1.ta/\(L.getD (x.val:Int).toNat default).row=x_1.1.row/\(L.getD (x.val:Int).toNat default).mo=x_1.1.mo/\True)/\(tx=x_1.2/\True)/\True)/\True)/\((x_1.1.tx==x_1.2)=true->(x.val:Int)=R0 L.length (d1 L tx))/\((x_1.1.tx==x_1.2)=false->X2 .i64 ((x.val:Int)+(1:Int))/\∃(y:V3 L.length (d1 L tx)),(((Y6 Y5 L L)/\(Fn.func 238=Fn.func 238/\M2 (λ(x:Nat)=>none) (T.bref [T.int .i64 tx]) (T.bref [T.int .i64 tx])/\True)/\(L.length:Int)=(L.length:Int)/\(x.val:Int)+(1:Int)=(y.val:Int)/\True)/\True)/\Lt (L.length-y.val) (L.length-x.val)))/\(decide ((x.val:Int)<(L.length:Int))=false->(-1:Int)=R0 L.length (d1 L tx))) ⟨⟨E8,⟨Z8,⟨rfl,S1 _,trivial⟩,rfl,Z9⟩,trivial⟩,λx=>⟨λhc=> ?_,λhc=> ?_⟩⟩
 ·have hlt:=Y1 hc;refine⟨Y3 hlt,(L.getD x.val default,tx),⟨⟨⟨rfl,rfl,rfl,Z9⟩,Z9,trivial⟩,trivial⟩,λhp=>(L5 hlt hp x.2.2).symm,λhp=>⟨V5 hlt (by omega),x.succ hlt hp,⟨⟨Z8,⟨rfl,S1 _,trivial⟩,rfl,by simp only[V3.succ];omega,trivial⟩,trivial⟩,V3.ext_lt hlt⟩⟩
 ·have hge:=X9 hc;exact(J9 λj hj=>x.2.2 j (vR hj hge)).symm
def b1p:Con:=.rel ⟨List Wt×Int,λx=>[oP x.1,c0o x.2],λx=>.int .i64 (R0 x.1.length (d2 x.1 x.2)),λx=>N3 x.1.length⟩
def b2e(L:List Wt)(tx:Int):Nat->Ann
 |0=>.one (V3 L.length (d2 L tx)) (λx=>⟨[(0,oP L),(1,c0o tx),(7,.int .i64 L.length),(8,.int .i64 x.1)],[]⟩) (λx=>L.length-x.1) [] [] (λ_=>Z0)
 |_=>.none
theorem a7e:GK 224 b1p:=gk Tryz.func224<|by
 rintro⟨L,tx⟩ (hL:L.length<1000000000000);refine S3 (gC a02 gN) Tryz.func224 (b2e L tx) (α:=(∃(x:V3 L.length (d2 L tx)),((Y6 X6 L L)/\(Fn.func 240=Fn.func 240/\M2 (λ(x:Nat)=>none) (T.bref [T.int .i64 tx]) (T.bref [T.int .i64 tx])/\True)/\(L.length:Int)=(L.length:Int)/\(0:Int)=(x.val:Int)/\True)/\True)/\∀(x:V3 L.length (d2 L tx)),(decide ((x.val:Int)<(L.length:Int))=true->W2 (x.val:Int) L.length/\∃(x_1:(Wt×Int)),((((L.getD (x.val:Int).toNat default).tx=x_1.1.tx/\(L.getD (x.val:Int).toNat default).fo=x_1.1.fo/\True)/\(tx=x_1.2/\True)/\True)/\True)/\((x_1.1.tx==x_1.2||x_1.1.fo==x_1.2)=true->(x.val:Int)=R0 L.length (d2 L tx))/\((x_1.1.tx==x_1.2||x_1.1.fo==x_1.2)=false->X2 .i64 ((x.val:Int)+(1:Int))/\∃(y:V3 L.length (d2 L tx)),(((Y6 X6 L L)/\(Fn.func 240=Fn.func 240/\M2 (λ(x:Nat)=>none) (T.bref [T.int .i64 tx]) (T.bref [T.int .i64 tx])/\True)/\(L.length:Int)=(L.length:Int)/\(x.val:Int)+(1:Int)=(y.val:Int)/\True)/\True)/\Lt (L.length-y.val) (L.length-x.val)))/\(decide ((x.val:Int)<(L.length:Int))=false->(-1:Int)=R0 L.length (d2 L tx))) ⟨⟨E8,⟨Z8,⟨rfl,S1 _,trivial⟩,rfl,Z9⟩,trivial⟩,λx=>⟨λhc=> ?_,λhc=> ?_⟩⟩
 ·have hlt:=Y1 hc;refine⟨Y3 hlt,(L.getD x.val default,tx),⟨⟨⟨rfl,Z9⟩,Z9,trivial⟩,trivial⟩,λhp=>(L5 hlt hp x.2.2).symm,λhp=>⟨V5 hlt (by omega),x.succ hlt hp,⟨⟨Z8,⟨rfl,S1 _,trivial⟩,rfl,by simp only[V3.succ];omega,trivial⟩,trivial⟩,V3.ext_lt hlt⟩⟩
 ·have hge:=X9 hc;exact(J9 λj hj=>x.2.2 j (vR hj hge)).symm
def c0g:List T:=[.int .i64 0,.int .i64 0,.int .i64 0,.int .i64 0]
def zWt:List T:=[.int .i64 0,.int .i64 0]
def c0G(L:List Lck)(tx:Int):Option Ob:=some (.arr true 0 4 L.length (L9 (Y5 (C0 (hF tx) L L.length)) (W9 (hF tx) L L.length).length (L.length- (W9 (hF tx) L L.length).length) c0g))
def c1g(L:List Wt)(tx:Int):Option Ob:=some (.arr true 0 2 L.length (L9 (X6 (C0 (wF tx) L L.length)) (W9 (wF tx) L L.length).length (L.length- (W9 (wF tx) L L.length).length) zWt))
def b0U:Con:=.reff ⟨List Lck×Int,λx=>[.osl 0 0 x.1.length,.fn (.func 238) [.ref 1 0 0]],λx=>[xJ x.1,vS x.2],λx=>.osl 0 0 (W9 (hF x.2) x.1 x.1.length).length,λx=>[xJ (W9 (hF x.2) x.1 x.1.length),vS x.2],λx=>x.1.length<=1048576⟩
def b2j(L:List Lck)(tx:Int):Nat->Ann
 |0=>.one {j:Nat//j<=L.length} (λx=>⟨[(0,.osl 0 0 L.length),(1,.fn (.func 238) [.ref 1 0 0]),(5,.int .i64 (W9 (hF tx) L x.1).length),(6,.int .i64 x.1)],[some (.arr true 0 4 L.length (Y5 (C0 (hF tx) L x.1))),vS tx]⟩) (λx=>L.length-x.1) [.arr 0,.box 1] [.arr 0,.box 1] (λ_=>Z0)
 |_=>.none
theorem b3N(L:List Lck)(tx:Int)(h:
  ∃(x:(List Lck×Int)),(Le (0+L.length) L.length/\((Y6 Y5 L x.1)/\(Fn.func 238=Fn.func 238/\(tx=x.2/\True)/\True)/\True)/\N3 x.1.length)/\((R0 x.1.length (d1 x.1 x.2)==(-1:Int))=true->((0=0/\L.length=(W9 (hF tx) L L.length).length)/\True)/\(L.length=L.length/\Z6 L.length (Y5 L) λ(j:Nat)=>match(W9 (hF tx) L L.length).length.ble j&&j.blt ((W9 (hF tx) L L.length).length+(L.length- (W9 (hF tx) L L.length).length)) with|true=>[T.int .i64 (0:Int),T.int .i64 (0:Int),T.int .i64 (0:Int),T.int .i64 (0:Int)]|false=>[T.int .i64 ((C0 (hF tx) L L.length).getD j default).tx,T.int .i64 ((C0 (hF tx) L L.length).getD j default).ta,T.int .i64 ((C0 (hF tx) L L.length).getD j default).row,T.int .i64 ((C0 (hF tx) L L.length).getD j default).mo])/\(1=1/\1=1/\tx=tx/\True)/\True)/\((R0 x.1.length (d1 x.1 x.2)==(-1:Int))=false->X2 .i64 (R0 x.1.length (d1 x.1 x.2)+(1:Int))/\(∃(x_1:{j:Nat//j<=L.length}),((0=0/\L.length=L.length)/\(Fn.func 238=Fn.func 238/\(0=0/\0=0)/\True)/\R0 x.1.length (d1 x.1 x.2)=(↑(W9 (hF tx) L x_1.val).length:Int)/\R0 x.1.length (d1 x.1 x.2)+(1:Int)=(x_1.val:Int)/\True)/\(L.length=L.length/\Z6 L.length (Y5 L) (Y5 (C0 (hF tx) L x_1.val)))/\(1=1/\1=1/\tx=tx/\True)/\True)/\∀(x:{j:Nat//j<=L.length}),(decide ((x.val:Int)<(L.length:Int))=true->W2 (x.val:Int) L.length/\Lt (0+(x.val:Int).toNat) L.length/\∃(x_1:(Lck×Int)),(((((C0 (hF tx) L x.val).getD (0+(x.val:Int).toNat) default).tx=x_1.1.tx/\((C0 (hF tx) L x.val).getD (0+(x.val:Int).toNat) default).ta=x_1.1.ta/\((C0 (hF tx) L x.val).getD (0+(x.val:Int).toNat) default).row=x_1.1.row/\((C0 (hF tx) L x.val).getD (0+(x.val:Int).toNat) default).mo=x_1.1.mo/\True)/\(tx=x_1.2/\True)/\True)/\True)/\((!x_1.1.tx==x_1.2)=true->W2 (↑(W9 (hF tx) L x.val).length:Int) L.length/\Lt (0+(↑(W9 (hF tx) L x.val).length:Int).toNat) L.length/\X2 .i64 ((↑(W9 (hF tx) L x.val).length:Int)+(1:Int))/\X2 .i64 ((x.val:Int)+(1:Int))/\∃(y:{j:Nat//j<=L.length}),(((0=0/\L.length=L.length)/\(Fn.func 238=Fn.func 238/\(0=0/\0=0)/\True)/\(↑(W9 (hF tx) L x.val).length:Int)+(1:Int)=(↑(W9 (hF tx) L y.val).length:Int)/\(x.val:Int)+(1:Int)=(y.val:Int)/\True)/\(L.length=L.length/\Z6 L.length (setRow (Y5 (C0 (hF tx) L x.val)) (0+(↑(W9 (hF tx) L x.val).length:Int).toNat) 0 [T.int .i64 ((C0 (hF tx) L x.val).getD (0+(x.val:Int).toNat) default).tx,T.int .i64 ((C0 (hF tx) L x.val).getD (0+(x.val:Int).toNat) default).ta,T.int .i64 ((C0 (hF tx) L x.val).getD (0+(x.val:Int).toNat) default).row,T.int .i64 ((C0 (hF tx) L x.val).getD (0+(x.val:Int).toNat) default).mo]) (Y5 (C0 (hF tx) L y.val)))/\(1=1/\1=1/\tx=tx/\True)/\True)/\Lt (L.length-y.val) (L.length-x.val))/\((!x_1.1.tx==x_1.2)=false->X2 .i64 ((x.val:Int)+(1:Int))/\∃(y:{j:Nat//j<=L.length}),(((0=0/\L.length=L.length)/\(Fn.func 238=Fn.func 238/\(0=0/\0=0)/\True)/\(↑(W9 (hF tx) L x.val).length:Int)=(↑(W9 (hF tx) L y.val).length:Int)/\(x.val:Int)+(1:Int)=(y.val:Int)/\True)/\(L.length=L.length/\Z6 L.length (Y5 (C0 (hF tx) L x.val)) (Y5 (C0 (hF tx) L y.val)))/\(1=1/\1=1/\tx=tx/\True)/\True)/\Lt (L.length-y.val) (L.length-x.val)))/\(decide ((x.val:Int)<(L.length:Int))=false->jR (↑(W9 (hF tx) L x.val).length:Int) L.length/\Le (0+(↑(W9 (hF tx) L x.val).length:Int).toNat+(L.length- (↑(W9 (hF tx) L x.val).length:Int).toNat)) L.length/\jR (↑(W9 (hF tx) L x.val).length:Int) L.length/\((0=0/\(↑(W9 (hF tx) L x.val).length:Int).toNat=(W9 (hF tx) L L.length).length)/\True)/\(L.length=L.length/\Z6 L.length (λ(j:Nat)=>match(0+(↑(W9 (hF tx) L x.val).length:Int).toNat).ble j&&j.blt (0+(↑(W9 (hF tx) L x.val).length:Int).toNat+(L.length- (↑(W9 (hF tx) L x.val).length:Int).toNat)) with|true=>[T.int .i64 (0:Int),T.int .i64 (0:Int),T.int .i64 (0:Int),T.int .i64 (0:Int)]|false=>[T.int .i64 ((C0 (hF tx) L x.val).getD j default).tx,T.int .i64 ((C0 (hF tx) L x.val).getD j default).ta,T.int .i64 ((C0 (hF tx) L x.val).getD j default).row,T.int .i64 ((C0 (hF tx) L x.val).getD j default).mo]) λ(j:Nat)=>match(W9 (hF tx) L L.length).length.ble j&&j.blt ((W9 (hF tx) L L.length).length+(L.length- (W9 (hF tx) L L.length).length)) with|true=>[T.int .i64 (0:Int),T.int .i64 (0:Int),T.int .i64 (0:Int),T.int .i64 (0:Int)]|false=>[T.int .i64 ((C0 (hF tx) L L.length).getD j default).tx,T.int .i64 ((C0 (hF tx) L L.length).getD j default).ta,T.int .i64 ((C0 (hF tx) L L.length).getD j default).row,T.int .i64 ((C0 (hF tx) L L.length).getD j default).mo])/\(1=1/\1=1/\tx=tx/\True)/\True))):
  G1 Tryz.prog 237 [.osl 0 0 L.length,.fn (.func 238) [.ref 1 0 0]] [xJ L,vS tx] (.osl 0 0 (W9 (hF tx) L L.length).length) [c0G L tx,vS tx]:=
 D2 (gC a41 (gC a1a gN)) Tryz.func237 (b2j L tx) [[.arr 0,.box 1]] h
def b5C:Con:=.reff ⟨List Wt×Int,λx=>[.osl 0 0 x.1.length,.fn (.func 240) [.ref 1 0 0]],λx=>[iE x.1,vS x.2],λx=>.osl 0 0 (W9 (wF x.2) x.1 x.1.length).length,λx=>[iE (W9 (wF x.2) x.1 x.1.length),vS x.2],λx=>x.1.length<=1048576⟩
def b6Z(L:List Wt)(tx:Int):Nat->Ann
 |0=>.one {j:Nat//j<=L.length} (λx=>⟨[(0,.osl 0 0 L.length),(1,.fn (.func 240) [.ref 1 0 0]),(5,.int .i64 (W9 (wF tx) L x.1).length),(6,.int .i64 x.1)],[some (.arr true 0 2 L.length (X6 (C0 (wF tx) L x.1))),vS tx]⟩) (λx=>L.length-x.1) [.arr 0,.box 1] [.arr 0,.box 1] (λ_=>Z0)
 |_=>.none
theorem b65(L:List Wt)(tx:Int)(h:
  ∃(x:(List Wt×Int)),(Le (0+L.length) L.length/\((Y6 X6 L x.1)/\(Fn.func 240=Fn.func 240/\(tx=x.2/\True)/\True)/\True)/\N3 x.1.length)/\((R0 x.1.length (d2 x.1 x.2)==(-1:Int))=true->((0=0/\L.length=(W9 (wF tx) L L.length).length)/\True)/\(L.length=L.length/\Z6 L.length (X6 L) λ(j:Nat)=>match(W9 (wF tx) L L.length).length.ble j&&j.blt ((W9 (wF tx) L L.length).length+(L.length- (W9 (wF tx) L L.length).length)) with|true=>[T.int .i64 (0:Int),T.int .i64 (0:Int)]|false=>[T.int .i64 ((C0 (wF tx) L L.length).getD j default).tx,T.int .i64 ((C0 (wF tx) L L.length).getD j default).fo])/\(1=1/\1=1/\tx=tx/\True)/\True)/\((R0 x.1.length (d2 x.1 x.2)==(-1:Int))=false->X2 .i64 (R0 x.1.length (d2 x.1 x.2)+(1:Int))/\(∃(x_1:{j:Nat//j<=L.length}),((0=0/\L.length=L.length)/\(Fn.func 240=Fn.func 240/\(0=0/\0=0)/\True)/\R0 x.1.length (d2 x.1 x.2)=(↑(W9 (wF tx) L x_1.val).length:Int)/\R0 x.1.length (d2 x.1 x.2)+(1:Int)=(x_1.val:Int)/\True)/\(L.length=L.length/\Z6 L.length (X6 L) (X6 (C0 (wF tx) L x_1.val)))/\(1=1/\1=1/\tx=tx/\True)/\True)/\∀(x:{j:Nat//j<=L.length}),(decide ((x.val:Int)<(L.length:Int))=true->W2 (x.val:Int) L.length/\Lt (0+(x.val:Int).toNat) L.length/\∃(x_1:(Wt×Int)),(((((C0 (wF tx) L x.val).getD (0+(x.val:Int).toNat) default).tx=x_1.1.tx/\((C0 (wF tx) L x.val).getD (0+(x.val:Int).toNat) default).fo=x_1.1.fo/\True)/\(tx=x_1.2/\True)/\True)/\True)/\((!(x_1.1.tx==x_1.2||x_1.1.fo==x_1.2))=true->W2 (↑(W9 (wF tx) L x.val).length:Int) L.length/\Lt (0+(↑(W9 (wF tx) L x.val).length:Int).toNat) L.length/\X2 .i64 ((↑(W9 (wF tx) L x.val).length:Int)+(1:Int))/\X2 .i64 ((x.val:Int)+(1:Int))/\∃(y:{j:Nat//j<=L.length}),(((0=0/\L.length=L.length)/\(Fn.func 240=Fn.func 240/\(0=0/\0=0)/\True)/\(↑(W9 (wF tx) L x.val).length:Int)+(1:Int)=(↑(W9 (wF tx) L y.val).length:Int)/\(x.val:Int)+(1:Int)=(y.val:Int)/\True)/\(L.length=L.length/\Z6 L.length (setRow (X6 (C0 (wF tx) L x.val)) (0+(↑(W9 (wF tx) L x.val).length:Int).toNat) 0 [T.int .i64 ((C0 (wF tx) L x.val).getD (0+(x.val:Int).toNat) default).tx,T.int .i64 ((C0 (wF tx) L x.val).getD (0+(x.val:Int).toNat) default).fo]) (X6 (C0 (wF tx) L y.val)))/\(1=1/\1=1/\tx=tx/\True)/\True)/\Lt (L.length-y.val) (L.length-x.val))/\((!(x_1.1.tx==x_1.2||x_1.1.fo==x_1.2))=false->X2 .i64 ((x.val:Int)+(1:Int))/\∃(y:{j:Nat//j<=L.length}),(((0=0/\L.length=L.length)/\(Fn.func 240=Fn.func 240/\(0=0/\0=0)/\True)/\(↑(W9 (wF tx) L x.val).length:Int)=(↑(W9 (wF tx) L y.val).length:Int)/\(x.val:Int)+(1:Int)=(y.val:Int)/\True)/\(L.length=L.length/\Z6 L.length (X6 (C0 (wF tx) L x.val)) (X6 (C0 (wF tx) L y.val)))/\(1=1/\1=1/\tx=tx/\True)/\True)/\Lt (L.length-y.val) (L.length-x.val)))/\(decide ((x.val:Int)<(L.length:Int))=false->jR (↑(W9 (wF tx) L x.val).length:Int) L.length/\Le (0+(↑(W9 (wF tx) L x.val).length:Int).toNat+(L.length- (↑(W9 (wF tx) L x.val).length:Int).toNat)) L.length/\jR (↑(W9 (wF tx) L x.val).length:Int) L.length/\((0=0/\(↑(W9 (wF tx) L x.val).length:Int).toNat=(W9 (wF tx) L L.length).length)/\True)/\(L.length=L.length/\Z6 L.length (λ(j:Nat)=>match(0+(↑(W9 (wF tx) L x.val).length:Int).toNat).ble j&&j.blt (0+(↑(W9 (wF tx) L x.val).length:Int).toNat+(L.length- (↑(W9 (wF tx) L x.val).length:Int).toNat)) with|true=>[T.int .i64 (0:Int),T.int .i64 (0:Int)]|false=>[T.int .i64 ((C0 (wF tx) L x.val).getD j default).tx,T.int .i64 ((C0 (wF tx) L x.val).getD j default).fo]) λ(j:Nat)=>match(W9 (wF tx) L L.length).length.ble j&&j.blt ((W9 (wF tx) L L.length).length+(L.length- (W9 (wF tx) L L.length).length)) with|true=>[T.int .i64 (0:Int),T.int .i64 (0:Int)]|false=>[T.int .i64 ((C0 (wF tx) L L.length).getD j default).tx,T.int .i64 ((C0 (wF tx) L L.length).getD j default).fo])/\(1=1/\1=1/\tx=tx/\True)/\True))):
  G1 Tryz.prog 239 [.osl 0 0 L.length,.fn (.func 240) [.ref 1 0 0]] [iE L,vS tx] (.osl 0 0 (W9 (wF tx) L L.length).length) [c1g L tx,vS tx]:=
 D2 (gC a7e (gC a02 gN)) Tryz.func239 (b6Z L tx) [[.arr 0,.box 1]] h
theorem a5w{n:Nat}{p:Nat->Bool}(h:R0 n p= -1):∀q,q<n->p q=false:=by
 intro q;induction q using Nat.strongRecOn with
 |ind q ih=>
  intro hq;cases hp:p q with
  |false=>rfl
  |true=>
   have:=L5 hq hp λj hj=>ih j hj (by omega)
   rw[this] at h;omega
theorem a1B{n:Nat}{p:Nat->Bool}(h:(R0 n p==(-1:Int))=false):∃i,i<n/\p i=true/\(∀j,j<i->p j=false)/\R0 n p=(i:Int):=by
 refine oA λhn=> ?_
 cases ha:anyI n p with
 |false=>
  rw[J9 (K6.1 ha)] at h;cases h
 |true=>
  obtain⟨i,hi,hp⟩:=O1.1 ha;have hf:∃i,i<n/\p i=true/\∀j,j<i->p j=false:=by
   induction i using Nat.strongRecOn with
   |ind i ih=>
    by_cases hj:∃j,j<i/\p j=true
    ·obtain⟨j,hj,hpj⟩:=hj;exact ih j hj (by omega) hpj
    ·refine⟨i,hi,hp,λj hj'=> ?_⟩
     cases hpj:p j with
     |false=>rfl
     |true=>exact absurd ⟨j,hj',hpj⟩ hj
  obtain⟨i,hi,hp,hl⟩:=hf;rw[L5 hi hp hl] at hn;omega
theorem a56{α:Type}[Inhabited α]{ts:α->List T}{m:Nat}(hm:∀a,(ts a).length=m){f:α->Bool}{L:List α}{j:Nat}(h:f (L.getD j default)=true):Z6 L.length (setRow (λi=>ts ((C0 f L j).getD i default)) (W9 f L j).length 0 (ts (L.getD j default))) λi=>ts ((C0 f L (j+1)).getD i default):=λi _=>by
 rw[J8 (by rw[hm,hm])]
 dsimp only;rw[c09 h];cases hb:Nat.beq i (W9 f L j).length with
 |true=>
  rw[if_pos (H7 hb)]
 |false=>
  rw[if_neg λe=>by rw[e,Nat.beq_refl] at hb;cases hb]
theorem a0C{row row':Nat->List T}{n m:Nat}{z:List T}(he:∀i,i<n->row i=row' i)(hm:n<=m):Z6 n row (L9 row' m (n-m) z):=λi hi=>by
 unfold L9;cases hb:Nat.ble m i with
 |true=>exact absurd (m8 hb) (by omega)
 |false=>exact he i hi
theorem a5F{α:Type}[Inhabited α]{ts:α->List T}{sz:Nat}{f:α->Bool}{L:List α}{z:List T}{b:Option Ob}(h:(W9 f L L.length).length<=L.length):b8F [some (.arr true 0 sz L.length (L9 (λi=>ts ((C0 f L L.length).getD i default)) (W9 f L L.length).length (L.length- (W9 f L L.length).length) z)),b] [some (.arr true 0 sz (W9 f L L.length).length (λi=>ts ((W9 f L L.length).getD i default))),b]:=b5U λo' ho=>by
 simp only[W8] at ho;subst ho;refine⟨_,rfl,.inr ⟨_,_,_,_,_,_,_,rfl,rfl,h,λi hi=> ?_⟩⟩
 unfold L9;cases hb:Nat.ble (W9 f L L.length).length i with
 |true=>exact absurd (m8 hb) (by omega)
 |false=>exact(congrArg ts (c0d hi)).symm
theorem a8o:GK 237 b0U:=gk Tryz.func237<|by
 rintro⟨L,tx⟩ (hL:L.length<=1048576);have hfl:=wR (hF tx) L L.length;refine a5x (b3N L tx ⟨(L,tx),⟨U2 _,⟨Z8,⟨rfl,Z9,trivial⟩,trivial⟩,by unfold N3;dsimp only;omega⟩,λhn=> ?_,λhn=> ?_⟩) (a5F (ts:=Lck.ts) hfl)
 ·obtain⟨e1,e2⟩:=fO (f:=hF tx) (V1 L.length) λq hq=>by
   have:=a5w (beq_iff_eq.1 hn) q hq;unfold d1 at this;unfold hF bne;rw[this];rfl
  refine⟨⟨⟨rfl,e1.symm⟩,trivial⟩,⟨rfl,?_⟩,⟨rfl,rfl,Z9⟩,trivial⟩
  exact a0C (row:=Y5 L) (row':=Y5 (C0 (hF tx) L L.length)) (z:=c0g) (λi _=>by rw[e2]) (Nat.le_of_eq e1.symm)
 ·obtain⟨i,hi,hp,hl,he⟩:=a1B hn;have hi:i<L.length:=hi;obtain⟨e1,e2⟩:=fO (f:=hF tx) (L:=L) (j:=i) (by omega) λq hq=>by
   have:=hl q hq;unfold d1 at this;unfold hF bne;rw[this];rfl
  have hfi:hF tx (L.getD i default)=false:=by
   unfold d1 at hp;unfold hF bne;rw[hp];rfl
  have e3:(W9 (hF tx) L (i+1)).length=i:=by rw[lX hfi];exact e1
  have e4:C0 (hF tx) L (i+1)=L:=by rw[b5i hfi];exact e2
  have he:R0 L.length (d1 L tx)=(i:Int):=he;refine⟨?_,⟨⟨i+1,hi⟩,⟨Z7,⟨rfl,U6⟩,?_,?_,trivial⟩,⟨rfl,?_⟩,⟨rfl,rfl,Z9⟩,trivial⟩,λx=>⟨λhc=> ?_,λhc=> ?_⟩⟩
  ·dsimp only;rw[he];exact Z4 (by omega)
  ·dsimp only;rw[he,e3]
  ·dsimp only;rw[he];omega
  ·dsimp only;rw[e4];exact Z2 _ _
  ·have hlt:=Y1 hc;have hle:=wR (hF tx) L x.val;have e0:(C0 (hF tx) L x.val).getD x.val default=L.getD x.val default:=b7k hle;rw[z7,z7,E6,E6,e0];refine⟨Y3 hlt,hlt,(L.getD x.val default,tx),⟨⟨⟨rfl,rfl,rfl,Z9⟩,Z9,trivial⟩,trivial⟩,λhd=> ?_,λhd=> ?_⟩
   ·have hd:hF tx (L.getD x.val default)=true:=by
     exact hd
    exact⟨Y3 (by omega),by unfold Lt;omega,Z4 (by omega),Z4 (by omega),⟨x.val+1,hlt⟩,⟨⟨Z7,⟨rfl,U6⟩,congrArg Int.ofNat (oB hd),by dsimp only;omega,trivial⟩,⟨rfl,a56 (m:=4) (ts:=Lck.ts) (λ_=>rfl) hd⟩,⟨rfl,rfl,Z9⟩,trivial⟩,V3.ext_lt hlt⟩
   ·have hd:hF tx (L.getD x.val default)=false:=by
     exact hd
    refine⟨Z4 (by omega),⟨x.val+1,hlt⟩,⟨⟨Z7,⟨rfl,U6⟩,?_,by dsimp only;omega,trivial⟩,⟨rfl,?_⟩,⟨rfl,rfl,rfl,trivial⟩,trivial⟩,V3.ext_lt hlt⟩
    ·dsimp only;rw[lX hd]
    ·dsimp only;rw[b5i hd];exact Z2 _ _
  ·have hx:x.val=L.length:=by have:=x.2;have:=X9 hc;omega
   rw[hx,z7,E6];exact⟨⟨by omega,by omega⟩,by unfold Le;omega,⟨by omega,by omega⟩,U6,Z8,⟨rfl,rfl,Z9⟩,trivial⟩
theorem a92:GK 239 b5C:=gk Tryz.func239<|by
 rintro⟨L,tx⟩ (hL:L.length<=1048576);have hfl:=wR (wF tx) L L.length;refine a5x (b65 L tx ⟨(L,tx),⟨U2 _,⟨Z8,⟨rfl,Z9,trivial⟩,trivial⟩,by unfold N3;dsimp only;omega⟩,λhn=> ?_,λhn=> ?_⟩) (a5F (ts:=Wt.ts) hfl)
 ·obtain⟨e1,e2⟩:=fO (f:=wF tx) (V1 L.length) λq hq=>by
   have:=a5w (beq_iff_eq.1 hn) q hq;unfold d2 at this;unfold wF bne;rw[←Bool.not_or,this];rfl
  refine⟨⟨⟨rfl,e1.symm⟩,trivial⟩,⟨rfl,?_⟩,⟨rfl,rfl,Z9⟩,trivial⟩
  exact a0C (row:=X6 L) (row':=X6 (C0 (wF tx) L L.length)) (z:=zWt) (λi _=>by rw[e2]) (Nat.le_of_eq e1.symm)
 ·obtain⟨i,hi,hp,hl,he⟩:=a1B hn;have hi:i<L.length:=hi;obtain⟨e1,e2⟩:=fO (f:=wF tx) (L:=L) (j:=i) (by omega) λq hq=>by
   have:=hl q hq;unfold d2 at this;unfold wF bne;rw[←Bool.not_or,this];rfl
  have hfi:wF tx (L.getD i default)=false:=by
   unfold d2 at hp;unfold wF bne;rw[←Bool.not_or,hp];rfl
  have e3:(W9 (wF tx) L (i+1)).length=i:=by rw[lX hfi];exact e1
  have e4:C0 (wF tx) L (i+1)=L:=by rw[b5i hfi];exact e2
  have he:R0 L.length (d2 L tx)=(i:Int):=he;refine⟨?_,⟨⟨i+1,hi⟩,⟨Z7,⟨rfl,U6⟩,?_,?_,trivial⟩,⟨rfl,?_⟩,⟨rfl,rfl,Z9⟩,trivial⟩,λx=>⟨λhc=> ?_,λhc=> ?_⟩⟩
  ·dsimp only;rw[he];exact Z4 (by omega)
  ·dsimp only;rw[he,e3]
  ·dsimp only;rw[he];omega
  ·dsimp only;rw[e4];exact Z2 _ _
  ·have hlt:=Y1 hc;have hle:=wR (wF tx) L x.val;have e0:(C0 (wF tx) L x.val).getD x.val default=L.getD x.val default:=b7k hle;rw[z7,z7,E6,E6,e0];refine⟨Y3 hlt,hlt,(L.getD x.val default,tx),⟨⟨⟨rfl,Z9⟩,Z9,trivial⟩,trivial⟩,λhd=> ?_,λhd=> ?_⟩
   ·have hd:wF tx (L.getD x.val default)=true:=by
     unfold wF bne;rw[←Bool.not_or];exact hd
    exact⟨Y3 (by omega),by unfold Lt;omega,Z4 (by omega),Z4 (by omega),⟨x.val+1,hlt⟩,⟨⟨Z7,⟨rfl,U6⟩,congrArg Int.ofNat (oB hd),by dsimp only;omega,trivial⟩,⟨rfl,a56 (m:=2) (ts:=Wt.ts) (λ_=>rfl) hd⟩,⟨rfl,rfl,Z9⟩,trivial⟩,V3.ext_lt hlt⟩
   ·have hd:wF tx (L.getD x.val default)=false:=by
     unfold wF bne;rw[←Bool.not_or];exact hd
    refine⟨Z4 (by omega),⟨x.val+1,hlt⟩,⟨⟨Z7,⟨rfl,U6⟩,?_,by dsimp only;omega,trivial⟩,⟨rfl,?_⟩,⟨rfl,rfl,rfl,trivial⟩,trivial⟩,V3.ext_lt hlt⟩
    ·dsimp only;rw[lX hd]
    ·dsimp only;rw[b5i hd];exact Z2 _ _
  ·have hx:x.val=L.length:=by have:=x.2;have:=X9 hc;omega
   rw[hx,z7,E6];exact⟨⟨by omega,by omega⟩,by unfold Le;omega,⟨by omega,by omega⟩,U6,Z8,⟨rfl,rfl,Z9⟩,trivial⟩
end Go.Proofs.YtokaojbaacnngaaGreat

namespace Go.Proofs.YtokaojbaacnngaaGreat
set_option maxRecDepth 100000
open Go.SS Go.RowKit

def frE(e:Eng)(tx:Int):Eng:={e with lk:=frK e.lk tx}
def b74:Con:=.reff ⟨Eng×Int×Nat,λx=>[.ref 0 0 11,.int .i64 x.2.1],λx=>x.1.bx x.2.2,λ_=>.tup [],λx=>(frE x.1 x.2.1).nx x.2.2,λx=>x.1.lk.held.length<=1048576/\x.1.lk.waits.length<=1048576⟩
theorem b6J:GK 189 b74:=gk Tryz.func189<|by
 rintro⟨e,tx,v⟩ ⟨h1,h2⟩;dsimp only at h1 h2;exact D2 (gC a8o (gC a92 gN)) Tryz.func189 Z0 [[.box 0,.arr 1,.arr 2,.arr 3,.arr 4,.arr 5,.arr 6,.arr 7,.arr 8,.cel 0 0,.cel 0 1,.cel 0 3,.cel 0 5,.cel 0 7,.cel 0 10,.cel 0 11,.cel 0 12]] (α:=∃(x:(List Lck×Int)),(((0=0/\e.lk.held.length=x.1.length)/\(Fn.func 238=Fn.func 238/\(0=0/\0=0)/\True)/\True)/\((Y6 Y5 e.lk.held x.1)/\(1=1/\Z6 1 (λ(x:Nat)=>[T.int .i64 tx]) λ(x_1:Nat)=>[T.int .i64 x.2])/\True)/\x.1.length<=1048576)/\∃(x_1:(List Wt×Int)),(((0=0/\e.lk.waits.length=x_1.1.length)/\(Fn.func 240=Fn.func 240/\(0=0/\0=0)/\True)/\True)/\((Y6 X6 e.lk.waits x_1.1)/\(1=1/\Z6 1 (λ(x_2:Nat)=>[T.int .i64 x.2]) λ(x:Nat)=>[T.int .i64 x_1.2])/\True)/\x_1.1.length<=1048576)/\(True/\True)/\(1=1/\1=1/\(0=0/\e.s.d.sec.length=e.s.d.sec.length)/\(0=0/\e.s.d.cache.length=e.s.d.cache.length)/\e.s.d.armed=e.s.d.armed/\(0=0/\e.s.d.keep.length=e.s.d.keep.length)/\e.s.ep=e.s.ep/\(0=0/\e.s.log.length=e.s.log.length)/\e.s.sure=e.s.sure/\(0=0/\e.s.fr.length=e.s.fr.length)/\e.s.hand=e.s.hand/\e.up=e.up/\(0=0/\e.txs.length=e.txs.length)/\(0=0/\(W9 (hF x.2) x.1 x.1.length).length=(W9 (hF tx) e.lk.held e.lk.held.length).length)/\(0=0/\(W9 (wF x_1.2) x_1.1 x_1.1.length).length=(W9 (wF tx) e.lk.waits e.lk.waits.length).length)/\e.next=e.next/\True)/\True/\True/\True/\True/\True/\True/\True/\True/\(Y6 Z5 e.s.d.sec e.s.d.sec)/\(Y6 Z3 e.s.d.cache e.s.d.cache)/\(Y6 Y9 e.s.d.keep e.s.d.keep)/\(Y6 Y7 e.s.log e.s.log)/\(v=v/\e.s.fr.length=e.s.fr.length/\V0 e.s.fr.length (Y8 e.s.fr) (Y8 e.s.fr))/\(Y6 X5 e.txs e.txs)/\(Y6 Y5 (W9 (hF x.2) x.1 x.1.length) (W9 (hF tx) e.lk.held e.lk.held.length))/\(Y6 X6 (W9 (wF x_1.2) x_1.1 x_1.1.length) (W9 (wF tx) e.lk.waits e.lk.waits.length))/\True) ⟨(e.lk.held,tx),⟨⟨Z7,⟨rfl,U6⟩,trivial⟩,⟨Z8,X8⟩,h1⟩,(e.lk.waits,tx),⟨⟨Z7,⟨rfl,U6⟩,trivial⟩,⟨Z8,X8⟩,h2⟩,A8,⟨rfl,rfl,Z7,Z7,rfl,Z7,rfl,Z7,rfl,Z7,rfl,rfl,Z7,Z7,Z7,Z9⟩,trivial,trivial,trivial,trivial,trivial,trivial,trivial,trivial,Z8,Z8,Z8,Z8,S0,Z8,Z8,X8⟩
def OvB(e:Eng)(tx:Int)(k:Nat):Prop:=U4 e.txs tx=k/\k<e.txs.length/\(e.txs.getD k default).id=tx/\e.txs.length<=1000/\e.lk.held.length<=1048576/\e.lk.waits.length<=1048576
def b7Z:Con:=.reff ⟨Eng×Int×Nat×Nat,λx=>[.ref 0 0 0,.int .i64 x.2.1],λx=>x.1.bx x.2.2.2,λ_=>.tup [],λx=>(a8X x.1 x.2.2.1).nx x.2.2.2,λx=>OvB x.1 x.2.1 x.2.2.1⟩
theorem b8I(e:Eng)(tx:Int)(k v:Nat)(h:
  ∃(x:(Eng×Int)),((LeG e)/\((rG e x.1)/\tx=x.2/\True)/\N3 x.1.txs.length)/\X2 .i64 (U4 x.1.txs x.2+(1:Int))/\∃(x_1:(List Txn×Nat)),(((0=0/\e.txs.length=x_1.1.length)/\U4 x.1.txs
  x.2=(x_1.2:Int)/\U4 x.1.txs x.2+(1:Int)=(↑(x_1.2+1):Int)/\True)/\((Y6 X5 e.txs x_1.1)/\True)/\x_1.2<x_1.1.length)/\∃(x:(Eng×Int×Nat)),(((0=0/\11=11)/\tx=x.2.1/\True)
  /\((1=1/\1=1/\(0=0/\e.s.d.sec.length=x.1.s.d.sec.length)/\(0=0/\e.s.d.cache.length=x.1.s.d.cache.length)/\e.s.d.armed=x.1.s.d.armed/\(0=0/\e.s.d.keep.length=x.1.s.d.keep.length)/\e.s.ep=
  x.1.s.ep/\(0=0/\e.s.log.length=x.1.s.log.length)/\e.s.sure=x.1.s.sure/\(0=0/\e.s.fr.length=x.1.s.fr.length)/\e.s.hand=x.1.s.hand/\e.up=x.1.up/\(0=0/\(j8 x_1.1 x_1.2).length=
  x.1.txs.length)/\(0=0/\e.lk.held.length=x.1.lk.held.length)/\(0=0/\e.lk.waits.length=x.1.lk.waits.length)/\e.next=x.1.next/\True)/\(Y6 Z5 e.s.d.sec x.1.s.d.sec)/\(Y6 Z3 e.s.d.cache
  x.1.s.d.cache)/\(Y6 Y9 e.s.d.keep x.1.s.d.keep)/\(Y6 Y7 e.s.log x.1.s.log)/\(v=x.2.2/\e.s.fr.length=x.1.s.fr.length/\V0 e.s.fr.length (Y8 e.s.fr) (Y8 x.1.s.fr))/\(Y6 X5 (j8
  x_1.1 x_1.2) x.1.txs)/\(Y6 Y5 e.lk.held x.1.lk.held)/\(Y6 X6 e.lk.waits x.1.lk.waits)/\True)/\x.1.lk.held.length<=1048576/\x.1.lk.waits.length<=1048576)/\(True/\True)/\(1=1/\1=1/\(0=0/\
  x.1.s.d.sec.length=e.s.d.sec.length)/\(0=0/\x.1.s.d.cache.length=e.s.d.cache.length)/\x.1.s.d.armed=e.s.d.armed/\(0=0/\x.1.s.d.keep.length=e.s.d.keep.length)/\x.1.s.ep=e.s.ep/\(0=0/\
  x.1.s.log.length=e.s.log.length)/\x.1.s.sure=e.s.sure/\(0=0/\x.1.s.fr.length=e.s.fr.length)/\x.1.s.hand=e.s.hand/\x.1.up=e.up/\(0=0/\x.1.txs.length=(List.take k e.txs++List.drop (k+1)
  e.txs).length)/\(0=0/\(W9 (hF x.2.1) x.1.lk.held x.1.lk.held.length).length=(W9 (hF (e.txs.getD k default).id) e.lk.held e.lk.held.length).length)/\(0=0/\(W9 (wF x.2.1) x.1.lk.waits
  x.1.lk.waits.length).length=(W9 (wF (e.txs.getD k default).id) e.lk.waits e.lk.waits.length).length)/\x.1.next=e.next/\True)/\True/\True/\True/\True/\True/\True/\True/\True/\(Y6 Z5 x.1.s.d.sec
  e.s.d.sec)/\(Y6 Z3 x.1.s.d.cache e.s.d.cache)/\(Y6 Y9 x.1.s.d.keep e.s.d.keep)/\(Y6 Y7 x.1.s.log e.s.log)/\(x.2.2=v/\x.1.s.fr.length=e.s.fr.length/\V0 x.1.s.fr.length (Y8 x.1.s.fr)
  (Y8 e.s.fr))/\(Y6 X5 x.1.txs (List.take k e.txs++List.drop (k+1) e.txs))/\(Y6 Y5 (W9 (hF x.2.1) x.1.lk.held x.1.lk.held.length) (W9 (hF (e.txs.getD k default).id) e.lk.held e.lk.held.length))/\
  (Y6 X6 (W9 (wF x.2.1) x.1.lk.waits x.1.lk.waits.length) (W9 (wF (e.txs.getD k default).id) e.lk.waits e.lk.waits.length))/\True):
  G1 Tryz.prog 119 [.ref 0 0 0,.int .i64 tx] (e.bx v) (.tup []) ((a8X e k).nx v):=
 D2 (gC uN (gC a9s (gC b6J gN))) Tryz.func119 Z0 [[.box 0,.arr 1,.arr 2,.arr 3,.arr 4,.arr 5,.arr 6,.arr 7,.arr 8,.cel 0 0,.cel 0 1,.cel 0 3,.cel 0 5,.cel 0 7,.cel 0 10,.cel 0 11,.cel 0 12]] h
theorem b6o:GK 119 b7Z:=gk Tryz.func119<|by
 rintro⟨e,tx,k,v⟩ ⟨ha,hk,hi,h1,h2,h3⟩;dsimp only at ha hk hi h1 h2 h3;subst hi;refine b8I e _ k v ⟨(e,_),⟨⟨U2 _,U2 _,U2 _,U2 _,U2 _,U2 _,U2 _,U2 _⟩,⟨⟨Z8,Z8,rfl,Z8,rfl,Z8,rfl,⟨rfl,λ_ _=>rfl⟩,rfl,rfl,Z8,Z8,Z8,Z9⟩,Z9⟩,by unfold N3;dsimp only;omega⟩,by rw[ha];exact Z4 (by omega),(e.txs,k),⟨⟨Z7,ha,by rw[ha];rfl,trivial⟩,⟨⟨rfl,Z2 _ _⟩,trivial⟩,hk⟩,({e with txs:=j8 e.txs k},_,v),⟨⟨Z7,Z9⟩,⟨⟨rfl,rfl,Z7,Z7,rfl,Z7,rfl,Z7,rfl,Z7,rfl,rfl,Z7,Z7,Z7,Z9⟩,Z8,Z8,Z8,Z8,S0,Z8,Z8,X8⟩,h2,h3⟩,A8,⟨rfl,rfl,Z7,Z7,rfl,Z7,rfl,Z7,rfl,Z7,rfl,rfl,Z7,Z7,Z7,Z9⟩,trivial,trivial,trivial,trivial,trivial,trivial,trivial,trivial,Z8,Z8,Z8,Z8,S0,Z8,Z8,X8⟩
def b3m:Con:=.rel ⟨Eng×Int,λx=>[.bref x.1.ts,.int .i64 x.2],λx=>.int .i64 (I8 x.1 x.2).2,λx=>N3 x.1.txs.length⟩
theorem a7b:GK 65 b3m:=gk Tryz.func65<|by
 rintro⟨e,tx⟩ (hL:N3 e.txs.length);refine S3 (gC uN gN) Tryz.func65 Z0 (α:=((!e.up)=true->(15:Int)=(I8 e tx).2)/\((!e.up)=false->∃(x:(Eng×Int)),(((y5 e x.1)/\tx=x.2/\True)/\N3 x.1.txs.length)/\(decide (U4 x.1.txs x.2<(0:Int))=true->(19:Int)=(I8 e tx).2)/\(decide (U4 x.1.txs x.2<(0:Int))=false->(0:Int)=(I8 e tx).2))) ⟨λhu=>by rw[c0n hu],λhu=>⟨(e,tx),⟨⟨B5 _,Z9⟩,hL⟩,λhq=>by rw[c0B hu hq],λhq=>by rw[c0I hu hq]⟩⟩
end Go.Proofs.YtokaojbaacnngaaGreat

