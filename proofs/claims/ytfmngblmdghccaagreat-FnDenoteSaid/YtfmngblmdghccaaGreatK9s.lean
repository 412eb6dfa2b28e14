/- A part of the proof. -/
import Derived.Test.YtfmngblmdghccaaGreatK8
import Derived.Shelf.SlSortCmp.NoneTotal
namespace Go.Proofs.YtfmngblmdghccaaGreat
open Go.Shelf

def sortLay_ren:Go.Shelf.Ren:=⟨fun|6=>99|15=>114|14=>113|28=>131|29=>132|20=>123|21=>124|22=>125|23=>126|24=>127|25=>128|26=>129|27=>130|46=>136|47=>137|48=>138|49=>139|50=>140|57=>141|n=>n,fun|22=>23|24=>28|25=>146|3=>3|39=>141|0=>0|53=>167|55=>169|4=>4|46=>161|45=>160|50=>94|5=>5|9=>9|66=>171|70=>175|76=>177|77=>178|n=>n,fun|n=>n⟩
theorem sortLay:Go.Proofs.SlLaysF0.n6 Tryz.prog sortLay_ren:={
 mixed:=by kernel_rfl
 f6:=⟨Tryz.f99.name,by decide,Tryz.func99.trans (congrArg some (by kernel_rfl))⟩
 f14:=⟨Tryz.f113.name,by decide,Tryz.func113.trans (congrArg some (by kernel_rfl))⟩
 f15:=Tryz.func114.trans (congrArg some (by kernel_rfl))
 f20:=⟨Tryz.f123.name,by decide,Tryz.func123.trans (congrArg some (by kernel_rfl))⟩
 f21:=⟨Tryz.f124.name,by decide,Tryz.func124.trans (congrArg some (by kernel_rfl))⟩
 f22:=⟨Tryz.f125.name,by decide,Tryz.func125.trans (congrArg some (by kernel_rfl))⟩
 f23:=⟨Tryz.f126.name,by decide,Tryz.func126.trans (congrArg some (by kernel_rfl))⟩
 f24:=⟨Tryz.f127.name,by decide,Tryz.func127.trans (congrArg some (by kernel_rfl))⟩
 f25:=⟨Tryz.f128.name,by decide,Tryz.func128.trans (congrArg some (by kernel_rfl))⟩
 f26:=⟨Tryz.f129.name,by decide,Tryz.func129.trans (congrArg some (by kernel_rfl))⟩
 f27:=⟨Tryz.f130.name,by decide,Tryz.func130.trans (congrArg some (by kernel_rfl))⟩
 f28:=Tryz.func131.trans (congrArg some (by kernel_rfl))
 f29:=Tryz.func132.trans (congrArg some (by kernel_rfl))
 f46:=⟨Tryz.f136.name,by decide,Tryz.func136.trans (congrArg some (by kernel_rfl))⟩
 f47:=Tryz.func137.trans (congrArg some (by kernel_rfl))
 f48:=Tryz.func138.trans (congrArg some (by kernel_rfl))
 f49:=⟨Tryz.f139.name,by decide,Tryz.func139.trans (congrArg some (by kernel_rfl))⟩
 f50:=⟨Tryz.f140.name,by decide,Tryz.func140.trans (congrArg some (by kernel_rfl))⟩
 f57:=⟨Tryz.f141.name,by decide,Tryz.func141.trans (congrArg some (by kernel_rfl))⟩
 t0:=Tryz.underlying0
 a0:=Tryz.isAgg0
 z0:=Tryz.sizeOf0
 v0:=Tryz.zeroValue0
 t3:=Tryz.underlying3
 a3:=Tryz.isAgg3
 z3:=Tryz.sizeOf3
 v3:=Tryz.zeroValue3
 t4:=Tryz.underlying4
 a4:=Tryz.isAgg4
 z4:=Tryz.sizeOf4
 v4:=Tryz.zeroValue4
 t5:=Tryz.underlying5
 a5:=Tryz.isAgg5
 z5:=Tryz.sizeOf5
 v5:=Tryz.zeroValue5
 t9:=Tryz.underlying9
 a9:=Tryz.isAgg9
 z9:=Tryz.sizeOf9
 v9:=Tryz.zeroValue9
 t22:=Tryz.underlying23
 a22:=Tryz.isAgg23
 z22:=Tryz.sizeOf23
 v22:=Tryz.zeroValue23
 t25:=Tryz.underlying146
 a25:=Tryz.isAgg146
 z25:=Tryz.sizeOf146
 v25:=Tryz.zeroValue146
 t39:=Tryz.underlying141
 a39:=Tryz.isAgg141
 z39:=Tryz.sizeOf141
 v39:=Tryz.zeroValue141
 t45:=Tryz.underlying160
 a45:=Tryz.isAgg160
 z45:=Tryz.sizeOf160
 v45:=Tryz.zeroValue160
 t46:=Tryz.underlying161
 a46:=Tryz.isAgg161
 z46:=Tryz.sizeOf161
 v46:=Tryz.zeroValue161
 t50:=Tryz.underlying94
 a50:=Tryz.isAgg94
 z50:=Tryz.sizeOf94
 v50:=Tryz.zeroValue94
 t53:=Tryz.underlying167
 a53:=Tryz.isAgg167
 z53:=Tryz.sizeOf167
 v53:=Tryz.zeroValue167
 t55:=Tryz.underlying169
 a55:=Tryz.isAgg169
 z55:=Tryz.sizeOf169
 v55:=Tryz.zeroValue169
 t66:=Tryz.underlying171
 a66:=Tryz.isAgg171
 z66:=Tryz.sizeOf171
 v66:=Tryz.zeroValue171
 t70:=Tryz.underlying175
 a70:=Tryz.isAgg175
 z70:=Tryz.sizeOf175
 v70:=Tryz.zeroValue175
 t76:=Tryz.underlying177
 a76:=Tryz.isAgg177
 z76:=Tryz.sizeOf177
 v76:=Tryz.zeroValue177
 t77:=Tryz.underlying178
 a77:=Tryz.isAgg178
 z77:=Tryz.sizeOf178
 v77:=Tryz.zeroValue178}
end Go.Proofs.YtfmngblmdghccaaGreat

namespace Go.Proofs.YtfmngblmdghccaaGreat
open Go.SS Go.RowKit

def tvT:T->Value
 | .int k n=>.int k n
 | .str l=>.string ⟨l.toArray⟩
 |_=>.bool false
def isIS:T->Bool
 | .int _ _=>true
 | .str _=>true
 |_=>false
theorem rd_tv{E:Env}{w:World}{t:T}(h:isIS t=true):Rd E w t (tvT t):=by
 cases t<;>first|(cases h;done)|exact .int _ _|exact .str _
theorem tv_rd{E:Env}{w:World}{t:T}{v:Value}(h:isIS t=true)(hr:Rd E w t v):v=tvT t:=by
 cases t<;>first|(cases h;done)|exact rd_int hr|exact rd_str hr
theorem tv_one{t:T}:(tvT t).oneCell'=true:=by cases t<;>rfl
theorem is_one{t:T}(h:isIS t=true):oneT t=true/\closedT t=true:=by cases t<;>first|(cases h;done)|exact⟨rfl,rfl⟩
def encR(r:Rw):List Value:=r.ts.map tvT
theorem ts_is(r:Rw):∀t,t ∈ r.ts->isIS t=true:=by
 intro t ht;unfold Rw.ts at ht;simp only[List.mem_cons,List.not_mem_nil,or_false] at ht;rcases ht with rfl|rfl|rfl|rfl|rfl|rfl|rfl<;>rfl
theorem encR_len(r:Rw):(encR r).length=7:=rfl
theorem encR_at{r:Rw}{j:Nat}{t:T}(h:r.ts[j]? =some t):(encR r)[j]? =some (tvT t):=by
 unfold encR;rw[List.getElem?_map,h]
 rfl
theorem rd_row{E:Env}{w:World}(r:Rw):Rd E w (.agg r.ts) (.agg (encR r).toArray):=by
 refine .agg _ _ rfl fun i t x hi hx=> ?_
 rw[List.getElem?_toArray,encR_at hi] at hx
 rw[←Option.some.inj hx];exact rd_tv (ts_is r t (List.mem_of_getElem? hi))
theorem lt_ofR{c:Int}{a b:Rw}:ltOf (cmpR c) a b=true↔LtR c a b:=by
 unfold ltOf;rw[decide_eq_true_eq];exact cmpR_neg
theorem lt_ofN{c:Int}{a b:Rw}:ltOf (cmpR c) a b=false↔¬LtR c a b:=by
 rw[←lt_ofR,Bool.not_eq_true]
theorem LtR.sub{c:Int}{a b d:Rw}(h:LtR c a d)(e:colV a c=colV b c/\a.id=b.id):LtR c b d:=by
 unfold LtR at h ⊢;rw[←e.1,←e.2];exact h
theorem swoR(c:Int):Go.Sort.SWO (ltOf (cmpR c)) where
 irrefl x:=lt_ofN.2 fun h=>h.irr
 trans x y z h1 h2:=lt_ofR.2 ((lt_ofR.1 h1).tr (lt_ofR.1 h2))
 ntrans x y z h1 h2:=lt_ofN.2 fun h=>by
  rcases LtR.tri c x y with t|t|t
  ·exact lt_ofN.1 h1 t
  ·exact lt_ofN.1 h2 (h.sub t)
  ·exact lt_ofN.1 h2 (t.tr h)
def rwsA(L:List Rw):Option Ob:=some (.arr true 28 7 L.length (rwRow L))
def colBx(c:Int):Option Ob:=some (.arr true 1000000 1 1 fun _=>[.int .i64 c])
theorem cmp_lays{c:Int}(hc:0<=c/\c<=2){w:World}{b blk off size:Nat}{cs:Array Value}{ty:TypeId}{fr:Nat×Nat}(hb:w.heap[b]? =some (.cells cs ty fr))(h0:cs[0]? =some (.int .i64 c))(hne:b≠blk):
  Go.Proofs.CmpLays Tryz.prog 100 #[.pointer (some ⟨b,0,none⟩)] encR 7 (cmpR c) blk off size w:=by
 intro m os dk _ x y;generalize hW:sortWorldK encR 7 w blk off m dk os=W;have hbl:b<w.heap.size:=by
  rw[Array.getElem?_eq_some_iff] at hb
  exact hb.1
 have hWb:W.heap[b]? =some (.cells cs ty fr):=by
  rw[←hW];unfold sortWorldK Go.Sort.grow Go.Sort.putRowK Go.Sort.putRow Go.Sort.mapBlock Go.Sort.ahead;dsimp only;rw[Array.getElem?_append_left (by simpa using hbl),Array.getElem?_modify,if_neg (fun h=>hne h.symm)]
  exact hb
 have hbW:b<W.heap.size:=by
  rw[Array.getElem?_eq_some_iff] at hWb
  exact hWb.1
 let E:Env:=⟨fun k=>k=b,fun _=>False,fun _=>0,fun _=>0,fun _=>(0,[]),fun _ _=>False,fun _ _ _ _=>0,fun _ _ _ _=>0⟩
 have hargs:RdL E W [.agg x.ts,.agg y.ts,.bref [.int .i64 c]] (#[.agg (encR x).toArray,.agg (encR y).toArray]++ #[.pointer (some ⟨b,0,none⟩)]):=by
  refine⟨rfl,fun i t v hi hv=> ?_⟩
  match i with
  |0=>cases hi;cases hv;exact rd_row x
  |1=>cases hi;cases hv;exact rd_row y
  |2=>
   cases hi;cases hv;refine .bref _ b 0 (fun _=>.int .i64 c) rfl (fun t ht=> ?_) (fun j t hj=> ?_) (fun j t hj=> ?_)
   ·rw[List.mem_singleton] at ht;subst ht;rfl
   ·have:j=0:=by
     have:=(List.getElem?_eq_some_iff.1 hj).1
     simpa using this
    subst this;unfold World.cell?;rw[hWb];exact h0
   ·have:j=0:=by
     have:=(List.getElem?_eq_some_iff.1 hj).1
     simpa using this
    subst this;cases hj;exact .int _ _
  |n+3=>cases hi
 refine(cmpS1_ok (x,y,c) hc E W _ (fun _=>⟨fun h=>h,fun _ h=>h⟩) (fun k hk=>by cases hk;exact hbW) hargs).mono fun e w' hh=> ?_
 obtain⟨v,rfl,hB,hr⟩:=hh;rw[rd_int hr];refine⟨rfl,w'.drawn-W.drawn,w'.heap.extract W.heap.size w'.heap.size,?_⟩
 have hsz:=hB.size;have hheap:w'.heap=W.heap++w'.heap.extract W.heap.size w'.heap.size:=by
  apply Array.ext_getElem?
  intro k;by_cases hk:k<W.heap.size
  ·rw[Array.getElem?_append_left hk,hB.block k hk]
  ·rw[Array.getElem?_append_right (by omega),Array.getElem?_extract]
   split
   ·congr 1;omega
   ·rw[Array.getElem?_eq_none (by omega)]
 have hd:=hB.dr;unfold Go.Sort.grow World.drewN;obtain⟨q1,q2,q3,q4,q5⟩:=w';obtain⟨p1,p2,p3,p4,p5⟩:=W;obtain⟨⟨o1,o2,o3,_,_⟩,_⟩:=hB;dsimp only at o1 o2 o3 hheap hd ⊢;subst o1 o2 o3;rw[←hheap,show p3+(q3-p3)=q3 by omega]
end Go.Proofs.YtfmngblmdghccaaGreat

namespace Go.Proofs.YtfmngblmdghccaaGreat
open Go.SS Go.RowKit

theorem perm_of{α:Type}[Inhabited α]{d d':Array α}(h:Go.Sort.PermIn 0 d.size d d'):d'.toList.Perm d.toList:=by
 obtain⟨h1,_,h3⟩:=h;have e1:d.extract 0 d.size=d:=by simp
 have e2:d'.extract 0 d.size=d':=by rw[←h1];simp
 rw[e1,e2] at h3;exact h3
theorem srt_of{c:Int}{L:List Rw}{d':Array Rw}(hd:DisI L)(hp:Go.Sort.PermIn 0 L.toArray.size L.toArray d')(hs:Go.Sort.SortedIn (ltOf (cmpR c)) 0 L.toArray.size d'):d'.toList=srtR c false L L.length:=by
 have hsz:d'.size=L.length:=by rw[hp.1];simp
 refine srt_one hd ?_ (perm_of hp)
 rw[List.pairwise_iff_getElem];intro i j hi hj hij;have hi:i<d'.size:=by simpa using hi
 have hj:j<d'.size:=by simpa using hj
 have:=hs i j (Nat.zero_le _) hij (by simp;omega)
 rw[getElem!_pos d' j hj,getElem!_pos d' i hi] at this;unfold GtR;rw[if_neg Bool.false_ne_true];exact lt_ofN.1 this
noncomputable def k_sortF:Con:=.reff ⟨List Rw×Int,fun x=>[.osl 0 0 x.1.length,.fn (.func 100) [.ref 1 0 0]],fun x=>[rwsA x.1,colBx x.2],fun _=>.tup [],fun x=>[rwsA (srtR x.2 false x.1 x.1.length),colBx x.2],fun x=>x.1.length<=1048576/\DisI x.1/\0<=x.2/\x.2<=2⟩
theorem call_sortF:Callable Tryz.prog 99:=⟨_,Tryz.func99,by kernel_rfl,by kernel_rfl⟩
theorem flat_at{L:List Rw}{i j:Nat}{t:T}(hi:i<L.length)(ht:(rwRow L i)[j]? =some t)(hj:j<7):(Go.Sort.flatK encR 7 L.toArray)[i*7+j]! =tvT t:=by
 rw[Go.Sort.get_flatK _ _ _ _ (by simp;omega),show(i*7+j)/7=i by omega,show(i*7+j) % 7=j by omega]
 have e:L.toArray[i]! =L.getD i default:=by
  rw[getElem!_pos _ i (by simpa using hi),List.getD_eq_getElem?_getD,List.getElem?_eq_getElem hi]
  simp
 rw[e];have:=encR_at (r:=L.getD i default) ht;rw[List.getElem!_eq_getElem?_getD,this]
 rfl
theorem sortF_ok:ConOk Tryz.prog 99 k_sortF:=by
 rintro⟨L,c⟩ ⟨hL,hD,hc⟩;dsimp only at hL hD hc ⊢;intro E w vs hH hN ha;have hI0:Inv ⟨w,XB E [rwsA L,colBx c],E.N,0,E,0⟩ E [rwsA L,colBx c] w:=⟨hH,hN,fun b hb=>.inl hb,fun k ob b hk hb=>.inr ⟨k,ob,hk,hb⟩,⟨rfl,rfl,rfl,Nat.le_refl _,fun _ _ _=>rfl,Nat.le_refl _⟩,⟨fun _ h=>h,fun _ h=>absurd h (Nat.not_lt_zero _),fun _ _=>rfl,fun _ _ h=>absurd h (Nat.not_lt_zero _)⟩⟩
 obtain⟨x,y,rfl⟩:∃x y,vs= #[x,y]:=by
  have:vs.size=2:=ha.1.symm;refine⟨vs[0],vs[1],?_⟩
  apply Array.ext
  ·simpa using this
  ·intro i h1 h2
   match i with
   |0=>rfl
   |1=>rfl
   |n+2=>omega
 have hx:=ha.2 0 _ x rfl rfl;have hy:=ha.2 1 _ y rfl rfl;obtain⟨hL0,hO0,hB0⟩:=hH.live 0 _ rfl;obtain⟨hL1,hO1,hB1⟩:=hH.live 1 _ rfl;obtain⟨a1,a2,a3,a4,a5,cs,ty,a6,a7,a8⟩:ArrOk E w 0 ⟨true,28,7,L.length,rwRow L⟩:=hO0;obtain⟨b1,b2,b3,b4,b5,ds,tz,b6,b7,b8⟩:ArrOk E w 1 ⟨true,1000000,1,1,fun _=>[.int .i64 c]⟩:=hO1
 dsimp only at a1 a2 a3 a4 a5 a6 a7 a8 b1 b2 b3 b4 b5 b6 b7 b8;have hκ1:E.κ 1≠0:=by omega
 have hbox:=b6 hκ1;have hd0:ds[0]? =some (.int .i64 c):=by
  obtain⟨u,hu,hr⟩:=b8 0 0 (.int .i64 c) (by omega) rfl
  rw[rd_int hr] at hu;exact hu
 obtain⟨p,rfl,rfl⟩:∃p,y= .func (.func 100) #[] #[p]/\p= .pointer (some ⟨E.β 1,0,none⟩):=by
  cases hy with
  |fn f cs vs hl ht=>
   have hv:vs.size=1:=hl.symm;obtain⟨p,rfl⟩:∃p,vs= #[p]:=by
    refine⟨vs[0],?_⟩
    apply Array.ext
    ·simpa using hv
    ·intro i h1 h2
     match i with
     |0=>rfl
     |n+1=>omega
   have hp:=ht 0 (.ref 1 0 0) p rfl rfl;refine⟨p,rfl,?_⟩
   cases hp with
   |ref k i j hL=>simp
 obtain⟨a,rfl,ha0⟩:∃a,x= .slice a L.length (E.κ 0-0)/\(E.κ 0≠0->a=some ⟨E.β 0,0,none⟩):=by
  cases hx with
  |osl k off n o a hL hn ho ha=>
   have:=ho (.inr rfl);rw[Nat.zero_mul] at this;subst this;exact⟨a,rfl,ha⟩
 have rt:Rd E w (.tup []) (.tuple #[]):=.tup [] #[] rfl (fun i t x h=>by cases h)
 by_cases hκ0:E.κ 0=0
 ·have hn0:L.length=0:=by omega
  obtain rfl:L=[]:=List.length_eq_zero_iff.1 hn0;refine(Go.Proofs.AnyF.slices_SortFunc_none sortLay a (E.κ 0-0) _ w).mono fun e w' hh=> ?_
  obtain⟨rfl,rfl⟩:=hh;exact⟨_,E,rfl,hI0,(Step.refl E w').stp,rt⟩
 ·have hblk:=a6 hκ0;obtain rfl:=ha0 hκ0;have hne:E.β 1≠E.β 0:=fun e=>by
   have h1:Blk E 1 (.arr true 1000000 1 1 fun _=>[.int .i64 c]) (E.β 1):=.inl ⟨hκ1,rfl⟩
   have h2:Blk E 0 (.arr true 28 7 L.length (rwRow L)) (E.β 1):=.inl ⟨hκ0,e⟩;exact absurd (hH.inj 1 0 _ _ _ rfl rfl h1 h2) (by decide)
  have hlt:E.β 0<w.heap.size:=by
   rw[Array.getElem?_eq_some_iff] at hblk
   exact hblk.1
  have hcs:=a7.le;have hcell:∀i j t,i<L.length->(rwRow L i)[j]? =some t->cs[i*7+j]? =some (tvT t):=fun i j t hi hj=>by
   obtain⟨u,hu,hr⟩:=a8 i j t hi hj;rw[hu,tv_rd (ts_is _ t (List.mem_of_getElem? hj)) hr]
  have hHold:Go.Sort.HoldsK encR 7 w (E.β 0) 0 L.toArray:=fun q hq=>by
   rw[Go.Sort.size_flatK,List.size_toArray] at hq;have hj:q % 7<7:=Nat.mod_lt _ (by decide)
   have hi:q/7<L.length:=by omega
   have hlen:(rwRow L (q/7)).length=7:=a3 (q/7) hi;obtain⟨t,ht⟩:∃t,(rwRow L (q/7))[q % 7]? =some t:=⟨_,List.getElem?_eq_getElem (by omega)⟩
   have e:q/7*7+q % 7=q:=by omega
   have hc:=hcell _ _ _ hi ht;have hf:=flat_at hi ht hj;rw[e] at hc hf;rw[hf];refine⟨?_,?_⟩
   ·unfold World.cell?;dsimp only;rw[hblk,Nat.zero_add];exact hc
   ·unfold World.frozen?;dsimp only;rw[hblk];simp
  have eg:∀args w,(callFunc 100 args).run Tryz.prog w= .ok (.enter 100 args) w:=enters_of Tryz.func100 (by kernel_rfl) rfl
  refine(Go.Proofs.AnyQ.slices_SortFunc sortLay 7 Tryz.isAgg28 Tryz.sizeOf28 encR encR_len (fun x v hv=>by
   unfold encR at hv;obtain⟨t,_,rfl⟩:=List.mem_map.1 hv;exact tv_one) (cmpR c) (swoR c) 100 #[.pointer (some ⟨E.β 1,0,none⟩)] (E.β 0) 0 (E.κ 0-0) L.toArray w eg (cmp_lays hc hbox hd0 hne) hHold hlt (by simp;omega)).mono fun e w' hh=> ?_
  obtain⟨rfl,d',m,os,hp,hs,rfl⟩:=hh;have hM:=srt_of hD hp hs;have hdz:d'.size=L.length:=by rw[hp.1];simp
  obtain⟨M,rfl⟩:∃M:List Rw,d'=M.toArray:=⟨d'.toList,by simp⟩
  have hM:M=srtR c false L L.length:=by simpa using hM
  have hMl:M.length=L.length:=by simpa using hdz
  rw[←hM];have hW:(sortWorldK encR 7 w (E.β 0) 0 m M.toArray os).heap[E.β 0]? =some (.cells (Go.Sort.putCells id 0 (Go.Sort.flatK encR 7 M.toArray) cs) ty (0,0)):=by
   unfold sortWorldK Go.Sort.grow Go.Sort.putRowK Go.Sort.putRow Go.Sort.mapBlock Go.Sort.ahead;dsimp only;rw[Array.getElem?_append_left (by simpa using hlt),Array.getElem?_modify,if_pos rfl,hblk]
   rfl
  have hput:∀q,(Go.Sort.putCells id 0 (Go.Sort.flatK encR 7 M.toArray) cs)[q]? =(cs[q]?).map fun x=>if q<L.length*7 then(Go.Sort.flatK encR 7 M.toArray)[q]! else x:=fun q=>by
   unfold Go.Sort.putCells;rw[Array.getElem?_mapIdx,Go.Sort.size_flatK,List.size_toArray,hMl]
   congr 1
   funext x
   simp
  have hot:∀b,b<w.heap.size->b≠E.β 0->(sortWorldK encR 7 w (E.β 0) 0 m M.toArray os).heap[b]? =w.heap[b]? :=fun b hb hn=>by
   unfold sortWorldK Go.Sort.grow Go.Sort.putRowK Go.Sort.putRow Go.Sort.mapBlock Go.Sort.ahead;dsimp only;rw[Array.getElem?_append_left (by simpa using hb),Array.getElem?_modify,if_neg (fun h=>hn h.symm)]
  have hsz:w.heap.size<=(sortWorldK encR 7 w (E.β 0) 0 m M.toArray os).heap.size:=by
   unfold sortWorldK Go.Sort.grow Go.Sort.putRowK Go.Sort.putRow Go.Sort.mapBlock Go.Sort.ahead;dsimp only;rw[Array.size_append,Array.size_modify];omega
  have hdr:w.drawn<=(sortWorldK encR 7 w (E.β 0) 0 m M.toArray os).drawn:=Nat.le_add_right _ _;have h1:(sortWorldK encR 7 w (E.β 0) 0 m M.toArray os).os=w.os:=rfl;have h2:(sortWorldK encR 7 w (E.β 0) 0 m M.toArray os).tape=w.tape:=rfl;have h3:(sortWorldK encR 7 w (E.β 0) 0 m M.toArray os).output=w.output:=rfl;generalize sortWorldK encR 7 w (E.β 0) 0 m M.toArray os=W at hW hot hsz hdr h1 h2 h3 ⊢;have hcz:(Go.Sort.putCells id 0 (Go.Sort.flatK encR 7 M.toArray) cs).size=cs.size:=by
   unfold Go.Sort.putCells;rw[Array.size_mapIdx]
  obtain⟨hI,hst⟩:=hI0.write (w':=W) (k:=0) rfl rfl h1 h2 h3 hsz hot hκ0 (.arr true 28 7 M.length (rwRow M)) _ ty hW a1.symm (by
    rw[a1];exact a7.keep hcz fun q hq=>by
     rw[hput];cases cs[q]? with
     |none=>rfl
     |some v=>rw[Option.map_some,if_neg (by omega)]) (by show M.length<=_;omega) (fun i hi=>rfl) (fun i t hi ht=>(is_one (ts_is _ t ht)).1) (fun _ i t hi ht=>(is_one (ts_is _ t ht)).2) (fun i j t hi hj=>by
    have hi:i<M.length:=hi;have hj7:j<7:=(List.getElem?_eq_some_iff.1 hj).1
    refine⟨tvT t,?_,rd_tv (ts_is _ t (List.mem_of_getElem? hj))⟩
    show(Go.Sort.putCells id 0 (Go.Sort.flatK encR 7 M.toArray) cs)[i*7+j]? =_;rw[hput,Array.getElem?_eq_getElem (show i*7+j<cs.size by omega),Option.map_some,if_pos (by omega),flat_at hi hj hj7])
  exact⟨_,E,rfl,hI,hst.stp,.tup [] #[] rfl (fun i t x h=>by cases h)⟩
end Go.Proofs.YtfmngblmdghccaaGreat

