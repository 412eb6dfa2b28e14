/- A part of the proof. -/
import Derived.Test.YtlbmgnomkjmafaaGreatD0
import Derived.Shelf.SlSortCmp.NoneTotal
import Derived.Test.YtlbmgnomkjmafaaGreatP12
import Derived.Test.YtlbmgnomkjmafaaGreatV1e
import Derived.Test.YtlbmgnomkjmafaaGreatN8
import Derived.Test.YtlbmgnomkjmafaaGreatE4
import Derived.Test.YtlbmgnomkjmafaaGreatU1
namespace Go.Proofs.YtlbmgnomkjmafaaGreat
open Go.SS Go.Shelf Go.Proofs.Tryz
noncomputable section
def a3p:Go.Shelf.Ren:=⟨λ|6=>129|15=>206|14=>205|28=>254|29=>255|20=>246|21=>247|22=>248|23=>249|24=>250|25=>251|26=>252|27=>253|46=>275|47=>276|48=>277|49=>278|50=>279|57=>283|n=>n,λ|22=>50|24=>47|25=>173|3=>3|39=>237|0=>0|53=>212|55=>282|4=>4|46=>274|45=>273|50=>278|5=>5|9=>9|66=>303|70=>307|76=>310|77=>68|n=>n,λ|n=>n⟩
theorem a9E:Go.Proofs.SlLaysF0.n6 prog a3p:={
 mixed:=O0
 f6:=⟨Tryz.f129.name,X1,func129.trans (congrArg some O0)⟩
 f14:=⟨Tryz.f205.name,X1,func205.trans (congrArg some O0)⟩
 f15:=func206.trans (congrArg some O0)
 f20:=⟨Tryz.f246.name,X1,func246.trans (congrArg some O0)⟩
 f21:=⟨Tryz.f247.name,X1,func247.trans (congrArg some O0)⟩
 f22:=⟨Tryz.f248.name,X1,func248.trans (congrArg some O0)⟩
 f23:=⟨Tryz.f249.name,X1,func249.trans (congrArg some O0)⟩
 f24:=⟨Tryz.f250.name,X1,func250.trans (congrArg some O0)⟩
 f25:=⟨Tryz.f251.name,X1,func251.trans (congrArg some O0)⟩
 f26:=⟨Tryz.f252.name,X1,func252.trans (congrArg some O0)⟩
 f27:=⟨Tryz.f253.name,X1,func253.trans (congrArg some O0)⟩
 f28:=func254.trans (congrArg some O0)
 f29:=func255.trans (congrArg some O0)
 f46:=⟨Tryz.f275.name,X1,func275.trans (congrArg some O0)⟩
 f47:=func276.trans (congrArg some O0)
 f48:=func277.trans (congrArg some O0)
 f49:=⟨Tryz.f278.name,X1,func278.trans (congrArg some O0)⟩
 f50:=⟨Tryz.f279.name,X1,func279.trans (congrArg some O0)⟩
 f57:=⟨Tryz.f283.name,X1,func283.trans (congrArg some O0)⟩
 t0:=Tryz.underlying0
 a0:=Tryz.isAgg0
 z0:=Tryz.sizeOf0
 v0:=Tryz.zeroValue0
 t3:=Tryz.underlying3
 a3:=Tryz.isAgg3
 z3:=Tryz.sizeOf3
 v3:=Tryz.zeroValue3
 t4:=Tryz.underlying4
 a4:=Tryz.isAgg4
 z4:=Tryz.sizeOf4
 v4:=Tryz.zeroValue4
 t5:=Tryz.underlying5
 a5:=Tryz.isAgg5
 z5:=Tryz.sizeOf5
 v5:=Tryz.zeroValue5
 t9:=Tryz.underlying9
 a9:=Tryz.isAgg9
 z9:=Tryz.sizeOf9
 v9:=Tryz.zeroValue9
 t22:=Tryz.underlying50
 a22:=Tryz.isAgg50
 z22:=Tryz.sizeOf50
 v22:=Tryz.zeroValue50
 t25:=Tryz.underlying173
 a25:=Tryz.isAgg173
 z25:=Tryz.sizeOf173
 v25:=Tryz.zeroValue173
 t39:=Tryz.underlying237
 a39:=Tryz.isAgg237
 z39:=Tryz.sizeOf237
 v39:=Tryz.zeroValue237
 t45:=Tryz.underlying273
 a45:=Tryz.isAgg273
 z45:=Tryz.sizeOf273
 v45:=Tryz.zeroValue273
 t46:=Tryz.underlying274
 a46:=Tryz.isAgg274
 z46:=Tryz.sizeOf274
 v46:=Tryz.zeroValue274
 t50:=Tryz.underlying278
 a50:=Tryz.isAgg278
 z50:=Tryz.sizeOf278
 v50:=Tryz.zeroValue278
 t53:=Tryz.underlying212
 a53:=Tryz.isAgg212
 z53:=Tryz.sizeOf212
 v53:=Tryz.zeroValue212
 t55:=Tryz.underlying282
 a55:=Tryz.isAgg282
 z55:=Tryz.sizeOf282
 v55:=Tryz.zeroValue282
 t66:=Tryz.underlying303
 a66:=Tryz.isAgg303
 z66:=Tryz.sizeOf303
 v66:=Tryz.zeroValue303
 t70:=Tryz.underlying307
 a70:=Tryz.isAgg307
 z70:=Tryz.sizeOf307
 v70:=Tryz.zeroValue307
 t76:=Tryz.underlying310
 a76:=Tryz.isAgg310
 z76:=Tryz.sizeOf310
 v76:=Tryz.zeroValue310
 t77:=Tryz.underlying68
 a77:=Tryz.isAgg68
 z77:=Tryz.sizeOf68
 v77:=Tryz.zeroValue68}
open Go.SS Go.RowKit Go.Proofs.Tryz
def b1D(a b:Int):Int:=if a<b then-1 else if a>b then 1 else 0
theorem c63(x:Int)(W:World):Calls prog 256 #[.int .i64 x] W λe w'=>e= .returned (.bool false)/\w'=W:=by
 go_enter func256,Tryz.ntmps256
 go_wp2
 go_ret
 exact⟨W8,rfl⟩
theorem c5S(a b:Int)(W:World):Calls prog 207 #[.int .i64 a,.int .i64 b] W λe w'=>e= .returned (.int .i64 (b1D a b))/\w'=W:=by
 have hc:=λx=>c63 x W
 go_enter func207,Tryz.ntmps207
 go_wp2_with (go_at_call 256;refine(hc _).mono ?_;rintro e w' ⟨rfl,rfl⟩)
 all_goals go_ret
 all_goals refine⟨?_,rfl⟩
 all_goals unfold b1D
 ·rw[if_pos (by assumption)]
  rfl
 ·rw[if_neg Z9,if_pos Z9]
  rfl
 ·rw[if_neg Z9,if_neg Z9]
  rfl
def b4t(L:List Rw):Prop:=∀a b,a ∈ L->b ∈ L->a.id=b.id->a=b
def leI(a b:Rw):Bool:=decide (a.id<=b.id)
def vN(L:List Rw):List Rw:=L.mergeSort leI
theorem b4L{L M:List Rw}(hd:b4t L)(h:M.Pairwise λa b=>¬b.id<a.id)(hp:M.Perm L):M=vN L:=by
 have e:=List.pairwise_mergeSort (le:=leI) (λa b c p q=>qK (Int.le_trans (E4 p) (E4 q))) (λa b=>by
  unfold leI;rw[tB,r8,r8];exact Int.le_total _ _) L
 have d:(vN L).Perm L:=List.mergeSort_perm L leI;refine List.Perm.eq_of_pairwise (le:=λa b=>¬b.id<a.id) (λa b A B f g=>hd a b (hp.mem_iff.1 A) (d.mem_iff.1 B) Z9) h (e.imp λ{a b} p=>?_) (hp.trans d.symm)
 have:a.id<=b.id:=E4 p;omega
def tvT:T->Value
 | .int k n=>.int k n
 | .str l=>.string ⟨l.toArray⟩
 |_=>.bool false
def b9a:T->Bool
 | .int _ _=>true
 | .str _=>true
 |_=>false
theorem c5U{E:Env}{w:World}{t:T}(h:b9a t=true):Rd E w t (tvT t):=by
 cases t<;>first|(cases h;done)|exact .int _ _|exact .str _
theorem c7s{E:Env}{w:World}{t:T}{v:Value}(h:b9a t=true)(r:Rd E w t v):v=tvT t:=by
 cases t<;>first|(cases h;done)|exact J3 r|exact yE r
theorem c5m{t:T}:(tvT t).oneCell'=true:=by cases t<;>rfl
theorem b7P{t:T}(h:b9a t=true):I7 t=true/\W7 t=true:=by cases t<;>first|(cases h;done)|exact Z8
def wD(r:Rw):List Value:=r.ts.map tvT
theorem b0w(r:Rw):∀t,t ∈ r.ts->b9a t=true:=by
 intro t h;unfold Rw.ts at h;simp only[vT,j_h,or_false] at h;rcases h with rfl|rfl|rfl|rfl|rfl|rfl|rfl<;>rfl
theorem b5v(r:Rw):(wD r).length=7:=rfl
theorem b81{r:Rw}{j:Nat}{t:T}(h:r.ts[j]? =some t):(wD r)[j]? =some (tvT t):=by
 unfold wD;rw[pW,h]
 rfl
def a6a(a b:Rw):Int:=b1D a.id b.id
theorem a1d{a b:Rw}:ltOf a6a a b=true↔a.id<b.id:=by
 unfold ltOf a6a b1D;rw[r8];split
 ·omega
 ·split<;>omega
theorem fF{a b:Rw}:ltOf a6a a b=false↔¬a.id<b.id:=by
 rw[←a1d,Bool.not_eq_true]
theorem c7Y:Go.Sort.SWO (ltOf a6a) where
 irrefl x:=fF.2 (Int.lt_irrefl _)
 trans x y z h1 h2:=a1d.2 (Int.lt_trans (a1d.1 h1) (a1d.1 h2))
 ntrans x y z h1 h2:=fF.2 λh=>by
  have:=fF.1 h1;have:=fF.1 h2;omega
theorem c2M(x y:Rw)(W:World):Calls prog 130 #[.agg (x.ts.map tvT).toArray,.agg (y.ts.map tvT).toArray] W λe w'=>e= .returned (.int .i64 (b1D x.id y.id))/\∃q os',w'=Go.Sort.grow (W.drewN q) os':=by
 have hcon:=λW'=>c5S x.id y.id W'
 unfold Rw.ts;simp only[List.map_cons,List.map_nil,tvT];generalize b1D x.id y.id=r at hcon ⊢
 go_enter func130,Tryz.ntmps130
 go_wp2_with (go_at_call 207;refine(hcon _).mono ?_;rintro e w' ⟨rfl,rfl⟩)
 go_ret
 exact⟨rfl,0,_,by rw[Go.Sort.alloc_eq_grow,Go.Sort.alloc_eq_grow,Go.Sort.grow_grow];rfl⟩
theorem b33{w:World}{blk off size:Nat}:Go.Proofs.CmpLays prog 130 #[] wD 7 a6a blk off size w:=λ_ _ _ _ x y=>c2M x y _
theorem b83{α:Type}[Inhabited α]{d e:Array α}(h:Go.Sort.PermIn 0 d.size d e):e.toList.Perm d.toList:=by
 obtain⟨i,_,f⟩:=h;have g:d.extract 0 d.size=d:=W8
 have j:e.extract 0 d.size=e:=by rw[←i];simp
 rw[g,j] at f;exact f
theorem c4o{L:List Rw}{d:Array Rw}(hd:b4t L)(hp:Go.Sort.PermIn 0 L.toArray.size L.toArray d)(e:Go.Sort.SortedIn (ltOf a6a) 0 L.toArray.size d):d.toList=vN L:=by
 have z:d.size=L.length:=by rw[hp.1];simp
 refine b4L hd ?_ (b83 hp)
 rw[List.pairwise_iff_getElem];intro i j hi h J;have hi:i<d.size:=aE
 have h:j<d.size:=A8
 have:=e i j (O3 _) J H4
 rw[getElem!_pos d j h,getElem!_pos d i hi] at this;exact fF.1 this
def b1W(L:List Rw):Option Ob:=some (.arr true 47 7 L.length (Q1 L))
def c0Z:Con:=.reff ⟨List Rw,λx=>[.osl 0 0 x.length,.v (.func (.func 130) #[] #[])],λx=>[b1W x],λ_=>.tup [],λx=>[b1W (vN x)],λx=>x.length<=1048576/\b4t x⟩
theorem a83{L:List Rw}{i j:Nat}{t:T}(hi:i<L.length)(h:(Q1 L i)[j]? =some t)(J:j<7):(Go.Sort.flatK wD 7 L.toArray)[i*7+j]! =tvT t:=by
 rw[Go.Sort.get_flatK _ _ _ _ H4,show(i*7+j)/7=i by omega,show(i*7+j) % 7=j by omega]
 have e:L.toArray[i]! =L.getD i dz:=by
  rw[getElem!_pos _ i aE,R2,J4 hi]
  simp
 rw[e];have:=b81 (r:=L.getD i dz) h;rw[List.getElem!_eq_getElem?_getD,this]
 rfl
theorem b4k:GK 129 c0Z:=gk func129<|by
 rintro(L:List Rw) ⟨hL,hD⟩;dsimp only at hL hD ⊢;intro E w vs hH hN A;have I:Inv ⟨w,XB E [b1W L],E.N,0,E,0⟩ E [b1W L] w:=⟨hH,hN,λb B=>.inl B,λk ob b hk B=>.inr ⟨k,ob,hk,B⟩,⟨rfl,rfl,rfl,V8 _,λ_ _ _=>rfl⟩,⟨λ_ h=>h,λ_ h=>absurd h (J5 _),λ_ _=>rfl,λ_ _ h=>absurd h (J5 _)⟩⟩
 obtain⟨x,y,rfl⟩:∃x y,vs= #[x,y]:=by
  have:vs.size=2:=A.1.symm;refine⟨vs[0],vs[1],?_⟩
  apply Array.ext
  ·simpa using this
  ·intro i h1 h2
   match i with
   |0=>rfl
   |1=>rfl
   |n+2=>omega
 have hx:=A.2 0 _ x rfl rfl;have hy:=A.2 1 _ y rfl rfl;obtain⟨ag,ad,af⟩:=hH.live 0 _ rfl;obtain⟨a1,a2,a3,a4,a5,cs,ty,a6,O,a8⟩:T4 E w 0 ⟨true,47,7,L.length,Q1 L⟩:=ad;dsimp only at a1 a2 a3 a4 a5 a6 O a8;obtain rfl:y= .func (.func 130) #[] #[]:=by
  cases hy;rfl
 obtain⟨a,rfl,aa⟩:∃a,x= .slice a L.length (E.κ 0-0)/\(E.κ 0≠0->a=some ⟨E.β 0,0,none⟩):=by
  cases hx with
  |osl k off n o a hL hn ho A=>
   have:=ho (.inr rfl);rw[Nat.zero_mul] at this;subst this;exact⟨a,rfl,A⟩
 have rt:Rd E w (.tup []) (.tuple #[]):=.tup [] #[] rfl (λi t x h=>J6)
 by_cases g:E.κ 0=0
 ·have hn0:L.length=0:=by omega
  obtain rfl:L=[]:=List.length_eq_zero_iff.1 hn0;refine(Go.Proofs.AnyF.slices_SortFunc_none a9E a (E.κ 0-0) _ w).mono λe w' hh=>?_
  obtain⟨rfl,rfl⟩:=hh;have e0:vN []=[]:=by unfold vN;simp
  rw[e0];exact⟨_,E,rfl,I,(Step.refl E w').stp,rt⟩
 ·have d:=a6 g;obtain rfl:=aa g;have C:E.β 0<w.heap.size:=by
   rw[cP] at d
   exact d.1
  have ah:=O.le;have l:∀i j t,i<L.length->(Q1 L i)[j]? =some t->cs[i*7+j]? =some (tvT t):=λi j t hi J=>by
   obtain⟨u,hu,hr⟩:=a8 i j t hi J;rw[hu,c7s (b0w _ t (A4 J)) hr]
  have r:Go.Sort.HoldsK wD 7 w (E.β 0) 0 L.toArray:=λq hq=>by
   rw[Go.Sort.size_flatK,List.size_toArray] at hq;have J:q % 7<7:=Nat.mod_lt _ X1
   have hi:q/7<L.length:=Z9
   have ae:(Q1 L (q/7)).length=7:=a3 (q/7) hi;obtain⟨t,z⟩:∃t,(Q1 L (q/7))[q % 7]? =some t:=⟨_,J4 Z9⟩
   have e:q/7*7+q % 7=q:=Z9
   have hc:=l _ _ _ hi z;have hf:=a83 hi z J;rw[e] at hc hf;rw[hf];refine⟨?_,?_⟩
   ·unfold World.cell?;dsimp only;rw[d,C9];exact hc
   ·unfold World.frozen?;dsimp only;rw[d];simp
  have eg:∀args w,(callFunc 130 args).run prog w= .ok (.enter 130 args) w:=enters_of func130 O0 rfl
  refine(Go.Proofs.AnyQ.slices_SortFunc a9E 7 Tryz.isAgg47 Tryz.sizeOf47 wD b5v (λx v hv=>by
   unfold wD at hv;obtain⟨t,_,rfl⟩:=List.mem_map.1 hv;exact c5m) a6a c7Y 130 #[] (E.β 0) 0 (E.κ 0-0) L.toArray w eg b33 r C H4).mono λe w' hh=>?_
  obtain⟨rfl,R,m,os,hp,hs,rfl⟩:=hh;have Q:=c4o hD hp hs;have Y:R.size=L.length:=by rw[hp.1];simp
  obtain⟨M,rfl⟩:∃M:List Rw,R=M.toArray:=⟨R.toList,W8⟩
  have Q:M=vN L:=by simpa using Q
  have ab:M.length=L.length:=a4X
  rw[←Q];have hW:(Go.Proofs.sortWorldK wD 7 w (E.β 0) 0 m M.toArray os).heap[E.β 0]? =some (.cells (Go.Sort.putCells id 0 (Go.Sort.flatK wD 7 M.toArray) cs) ty (0,0)):=by
   unfold Go.Proofs.sortWorldK Go.Sort.grow Go.Sort.putRowK Go.Sort.putRow Go.Sort.mapBlock Go.Sort.ahead;dsimp only;rw[Array.getElem?_append_left (by simpa using C),Array.getElem?_modify,if_pos rfl,d]
   rfl
  have f:∀q,(Go.Sort.putCells id 0 (Go.Sort.flatK wD 7 M.toArray) cs)[q]? =(cs[q]?).map λx=>if q<L.length*7 then(Go.Sort.flatK wD 7 M.toArray)[q]! else x:=λq=>by
   unfold Go.Sort.putCells;rw[Array.getElem?_mapIdx,Go.Sort.size_flatK,List.size_toArray,ab]
   congr 1
   funext x
   simp
  have F:∀b,b<w.heap.size->b≠E.β 0->(Go.Proofs.sortWorldK wD 7 w (E.β 0) 0 m M.toArray os).heap[b]? =w.heap[b]? :=λb B hn=>by
   unfold Go.Proofs.sortWorldK Go.Sort.grow Go.Sort.putRowK Go.Sort.putRow Go.Sort.mapBlock Go.Sort.ahead;dsimp only;rw[Array.getElem?_append_left (by simpa using B),Array.getElem?_modify,if_neg (λh=>hn h.symm)]
  have Z:w.heap.size<=(Go.Proofs.sortWorldK wD 7 w (E.β 0) 0 m M.toArray os).heap.size:=by
   unfold Go.Proofs.sortWorldK Go.Sort.grow Go.Sort.putRowK Go.Sort.putRow Go.Sort.mapBlock Go.Sort.ahead;dsimp only;rw[Array.size_append,Array.size_modify];omega
  have ac:w.drawn<=(Go.Proofs.sortWorldK wD 7 w (E.β 0) 0 m M.toArray os).drawn:=Nat.le_add_right _ _;have h1:(Go.Proofs.sortWorldK wD 7 w (E.β 0) 0 m M.toArray os).os=w.os:=rfl;have h2:(Go.Proofs.sortWorldK wD 7 w (E.β 0) 0 m M.toArray os).tape=w.tape:=rfl;have h3:(Go.Proofs.sortWorldK wD 7 w (E.β 0) 0 m M.toArray os).output=w.output:=rfl;generalize Go.Proofs.sortWorldK wD 7 w (E.β 0) 0 m M.toArray os=W at hW F Z ac h1 h2 h3 ⊢;have U:(Go.Sort.putCells id 0 (Go.Sort.flatK wD 7 M.toArray) cs).size=cs.size:=by
   unfold Go.Sort.putCells;rw[Array.size_mapIdx]
  obtain⟨hI,X⟩:=I.write (w':=W) (k:=0) rfl rfl h1 h2 h3 Z F g (.arr true 47 7 M.length (Q1 M)) _ ty hW a1.symm (by
    rw[a1];exact O.keep U λq hq=>by
     rw[f];cases cs[q]? with
     |none=>rfl
     |some v=>rw[m8,if_neg Z9]) (by show M.length<=_;omega) (λi hi=>rfl) (λi t hi z=>(b7P (b0w _ t z)).1) (λ_ i t hi z=>(b7P (b0w _ t z)).2) (λi j t hi J=>by
    have hi:i<M.length:=hi;have V:j<7:=(w6.1 J).1
    refine⟨tvT t,?_,c5U (b0w _ t (A4 J))⟩
    show(Go.Sort.putCells id 0 (Go.Sort.flatK wD 7 M.toArray) cs)[i*7+j]? =_;rw[f,uJ (show i*7+j<cs.size by omega),m8,if_pos Z9,a83 hi J V])
  exact⟨_,E,rfl,hI,X.stp,.tup [] #[] rfl (λi t x h=>J6)⟩
open Go.SS Go.Proofs.Tryz
def bO(L:List Rw)(id:Int)(i:Nat):Bool:=(L.getD i dz).id==id
def rcS(ta:Int)(L:List Rw)(t:Bz):List Rw:=match zK t with
 |some x=>if(decide (x.1=ta)&& !anyI L.length (bO L x.2.id))=true then L++[x.2] else L
 |none=>L
def rcI(f:Nat->Bz)(ta:Int)(L:List Rw):Nat->List Rw
 |0=>L
 |i+1=>rcS ta (rcI f ta L i) (f i)
def rcV(S:Nat->Nat->Bz)(ta:Int):Nat->List Rw
 |0=>[]
 |n+1=>rcI (S n) ta (rcV S ta n) 4
def tA(s:Sto):Nat->Sto
 |0=>s
 |n+1=>(Z4 (tA s n) n).1
def ftV(s:Sto):Nat->Nat
 |0=>0
 |n+1=>P4 (tA s n) n (ftV s n)
def fpV(s:Sto)(n:Nat):Pg:=((Z4 s n).1.fr.getD (Z4 s n).2.1 dz).pg
structure FtP(s t:Sto):Prop where
 g:GInv t
 l:t.L=s.L
 v:vw t=vw s
theorem a6z{s:Sto}(h:GInv s):∀n,n<=8->FtP s (tA s n)
 |0,_=>⟨h,Eq.refl _,Eq.refl _⟩
 |n+1,hn=>by
  obtain⟨g,l,v⟩:=a6z h n Z9
  have f:=(x1 g (no:=n) Z9).1
  exact⟨f.g,f.L.1.trans l,(eD g Z9).trans v⟩
theorem c2m{L:List Rw}{id:Int}(h:anyI L.length (bO L id)=false):∀a,a ∈ L->a.id≠id:=λa A e=>by
 obtain⟨i,hi,rfl⟩:=List.getElem_of_mem A;have:anyI L.length (bO L id)=true:=U3.2 ⟨i,hi,by
  unfold bO;rw[R2,J4 hi]
  exact beq_iff_eq.2 e⟩
 rw[h] at this;cases this
structure RcP(L:List Rw)(n:Nat):Prop where
 d:b4t L
 l:L.length<=n
theorem c7D{ta:Int}{L:List Rw}{n:Nat}(h:RcP L n)(t:Bz):RcP (rcS ta L t) (n+1):=by
 obtain⟨d,l⟩:=h;unfold rcS;split
 ·rename_i x _;split
  ·rename_i hc;rw[O4,xV] at hc;have:=c2m hc.2;refine⟨λa b ha hb e=>?_,by rw[K2,List.length_singleton];omega⟩
   rw[List.mem_append,List.mem_singleton] at ha hb;rcases ha with ha|ha<;>rcases hb with hb|hb
   ·exact d a b ha hb e
   ·subst hb;exact absurd e (this a ha)
   ·subst ha;exact absurd e.symm (this b hb)
   ·rw[ha,hb]
  ·exact⟨d,Z9⟩
 ·exact⟨d,Z9⟩
theorem c21{f:Nat->Bz}{ta:Int}{L:List Rw}{n:Nat}(h:RcP L n):∀i,RcP (rcI f ta L i) (n+i)
 |0=>h
 |i+1=>c7D (c21 h i) _
theorem c4g(S:Nat->Nat->Bz)(ta:Int):∀n,RcP (rcV S ta n) (4*n)
 |0=>⟨λa b h=>J6,V8 _⟩
 |n+1=>c21 (c4g S ta n) 4
def j7(e:Eng)(tx ta:Int):(Eng×Nat)×List Rw×Int:=
 if(U5 e tx).2=0 then
  (if(X4 e.lk (S6 e (U5 e tx).1.toNat ta (-1) 3)).2=0 then((R5 (N7 e (U5 e tx).1.toNat ta (-1) 3) (tA e.s 8),ftV e.s 8),vN (rcV (vw e.s) ta 8),0)
  else((N7 e (U5 e tx).1.toNat ta (-1) 3,0),[],(X4 e.lk (S6 e (U5 e tx).1.toNat ta (-1) 3)).2))
 else((e,0),[],(U5 e tx).2)
set_option maxRecDepth 100000
def Eng.sx(e:Eng)(v:Nat):Y4:=[b7h 1,iC (e.tn 2 3 4 5 6 7 8 9),x4 e.s.d.E,B4 e.s.d.C,z6 e.s.d.keep,xW e.s.L,vE v e.s.fr e.s.fr.length,jP e.X,tP e.lk.H,pZ e.lk.W]
def Eng.sy(e:Eng)(v:Nat):Y4:=[b7h 1,iC (e.tn 10 11 12 13 14 15 16 17),none,none,none,none,none,none,none,none,x4 e.s.d.E,B4 e.s.d.C,z6 e.s.d.keep,xW e.s.L,vE v e.s.fr e.s.fr.length,jP e.X,tP e.lk.H,pZ e.lk.W]
def c0A:Con:=.reff ⟨Eng×Nat×Nat,λx=>[Ji x.2.1,.ref 0 0 0],λx=>x.1.sx x.2.2,λx=>.tup [.agg [Ji (fpV x.1.s x.2.1).Q,.posl 14 (P4 x.1.s x.2.1 x.2.2) (Z4 x.1.s x.2.1).2.1 2 4],.bool true],λx=>(R5 x.1 (Z4 x.1.s x.2.1).1).sy (P4 x.1.s x.2.1 x.2.2),λx=>GInv x.1.s/\x.2.1<8⟩
theorem b6k:GK 69 c0A:=gk func69<|by
 rintro⟨e,no,v⟩ ⟨h,o⟩;dsimp only at h o ⊢;have u:=(x1 h o).2;obtain⟨f,_,_,g,_⟩:=lP h.inv o u;exact r5 (gC vY gN) func69 Y9 [[.box 0,.box 1,.arr 2,.arr 3,.arr 4,.arr 5,.arr 6,.arr 7,.arr 8,.arr 9,.cel 1 0,.cel 1 1,.cel 1 3,.cel 1 5,.cel 1 7,.cel 1 10,.cel 1 11,.cel 1 12]] (α:=let y:=(oo ((0=0/\0=0)/\True));let z:=(Z4 e.s no);let j:=z.1.d;∃(x:(Sto×Nat×Nat)),let r:=(Z4 x.1 x.2.1);let w:=r.1.d;let u:=r.1.fr;let k:=(u.getD r.2.1 dz);let q:=((Z2 Z5 w.E j.E)/\(Z2 Y6 w.C j.C)/\(Z2 Y8 w.keep j.keep)/\(Z2 Y0 r.1.L z.1.L)/\(P4 x.1 x.2.1 x.2.2=P4 e.s no v/\u.length=z.1.fr.length/\U7 u.length (Z0 u) (Z0 z.1.fr))/\(Z2 V1 e.X e.X)/\(Z2 Y7 e.lk.H e.lk.H)/\(Z2 Y5 e.lk.W e.lk.W)/\True);let p:=(oo ((0=0/\w.E.length=j.E.length)/\(0=0/\w.C.length=j.C.length)/\w.A=j.A/\(0=0/\w.keep.length=j.keep.length)/\r.1.ep=z.1.ep/\(0=0/\r.1.L.length=z.1.L.length)/\r.1.S=z.1.S/\(0=0/\u.length=z.1.fr.length)/\r.1.J=z.1.J/\e.up=e.up/\(0=0/\e.X.length=e.X.length)/\(0=0/\e.lk.H.length=e.lk.H.length)/\(0=0/\e.lk.W.length=e.lk.W.length)/\e.N=e.N/\True));(((0=0/\0=0)/\(no:Int)=(x.2.1:Int)/\True)/\(LnS (v) (x.2.2) e.s x.1)/\lG x.1 x.2.1/\r.2.2=true)/\br false ((((0=(fpV e.s no).Q/\K4 (u7 [some 0,some 1,some 2,some 3,some 4,some 5,some 6,some 7,some 8,some 9,some 2,some (11+(8+1-9)),some (11+(9+1-9)),some 5,some (11+(9+1+1-9)),some 7,some 8,some 9]) (T.v (Value.slice none 0 0)) (T.posl 14 (P4 e.s no v) z.2.1 2 4)/\True)/\false=true/\True)/\True)/\y/\p/\T8 q) (Lt r.2.1 u.length/\(((k.pg.Q=(fpV e.s no).Q/\(P4 x.1 x.2.1 x.2.2=P4 e.s no v/\r.2.1=z.2.1/\2=2/\k.pg.sl.length=4)/\True)/\true=true/\True)/\True)/\y/\p/\T8 q)) ⟨(e.s,no,v),⟨Z8,Z8,⟨h.inv,o⟩,u⟩,λF=>(by cases F),λ_=>⟨f,⟨⟨⟨rfl,⟨rfl,rfl,rfl,g⟩,Z6⟩,Z8⟩,Z6⟩,Z8⟩⟩
def c68:Con:=.rel ⟨Rw×Rw,λx=>[.agg x.1.ts,.bref x.2.ts],λx=>.bool (x.1.id==x.2.id),λ_=>True⟩
theorem c50(a r:Rw)(h:
  (a.id==r.id)=(a.id==r.id)):
  V4 prog 128 [.agg a.ts,.bref r.ts] (.bool (a.id==r.id)):=
 S1 gN func128 Y9 h
theorem c31:GK 128 c68:=gk func128<|λx _=>c50 x.1 x.2 rfl
def idF(r:Rw):T:=.fn (.func 128) [.bref r.ts]
def c05:Con:=.rel ⟨List Rw×Rw,λx=>[rwS x.1,idF x.2],λx=>Ji (Q9 x.1.length (bO x.1 x.2.id)),λx=>M1 x.1.length⟩
def c1a(L:List Rw)(r:Rw):Nat->Ann
 |0=>.one (U8 L.length (bO L r.id)) (λx=>⟨[(0,rwS L),(1,idF r),(7,Ji L.length),(8,Ji x.1)],[]⟩) (λx=>L.length-x.1) [] [] (λ_=>Y9)
 |_=>.none
theorem c1f(L:List Rw)(r:Rw)(h:
let z:=(L.length:Int);let p:=(T.bref [Ji r.id,Ji r.n.k,Ji r.n.n,T.str r.n.t,Ji r.name.k,Ji r.name.n,T.str r.name.t]);  (∃(x:U8 L.length (bO L r.id)),((Z2 Q1 L L)/\(Fn.func 128=Fn.func 128/\K4 (λ(x:Nat)=>none) (T.bref [Ji r.id,Ji r.n.k,Ji r.n.n,T.str r.n.t,Ji r.name.k,Ji r.name.n, T.str r.name.t]) p/\True)/\z=z/\0=(x.1:Int)/\True)/\True)/\∀(x:U8 L.length (bO L r.id)),let u:=(x.1:Int);let q:=(L.getD u.toNat dz);bd (u<z) (V7 u L.length/\∃(X:(Rw×Rw)),(((q.id=X.1.id/\q.n.k=X.1.n.k/\q.n.n=X.1.n.n/\q.n.t=X.1.n.t/\q.name.k=X.1.name.k/\q.name.n=X.1.name.n/\q.name.t=X.1.name.t/\True)/\(r.id=X.2.id/\r.n.k=X.2.n.k/\r.n.n=X.2.n.n/\r.n.t=X.2.n.t/\r.name.k=X.2.name.k/\r.name.n=X.2.name.n/\r.name.t=X.2.name.t/\True)/\True)/\True)/\br (X.1.id==X.2.id) (u=Q9 L.length (bO L r.id)) (Ri (u+1)/\∃(y:U8 L.length (bO L r.id)),(((Z2 Q1 L L)/\(Fn.func 128=Fn.func 128/\K4 (λ(x:Nat)=>none) p p/\True)/\z=z/\u+1=(y.1:Int)/\True)/\True)/\Lt (L.length-y.1) (L.length-x.1))) ((-1:Int)=Q9 L.length (bO L r.id))):
  V4 prog 204 [rwS L,idF r] (.int .i64 (Q9 L.length (bO L r.id))):=
 S1 (gC c31 gN) func204 (c1a L r) h
theorem b59:GK 204 c05:=gk func204<|by
 rintro⟨L,a⟩ (hL:L.length<1000000000000);refine c1f L a ⟨⟨F4,⟨Z8,⟨rfl,T5 _,Z6⟩,Z8⟩,Z6⟩,λx=>⟨λC=>?_,λC=>?_⟩⟩
 ·have h:=Y1 C;refine⟨Y3 h,(L.getD x.1 dz,a),Z8,λhp=>(N4 h hp x.2.2).symm,λhp=>⟨V5 h Z9,x.succ h hp,⟨⟨Z8,⟨rfl,T5 _,Z6⟩,rfl,J7,Z6⟩,Z6⟩,U8.ext_lt h⟩⟩
 ·have e:=X6 C;exact(K9 λj J=>x.2.2 j (yK J e)).symm
def c0P:Con:=.rel ⟨List Rw×Rw,λx=>[rwS x.1,idF x.2],λx=>.bool (anyI x.1.length (bO x.1 x.2.id)),λx=>M1 x.1.length⟩
theorem c0q(L:List Rw)(r:Rw)(h:
  ∃(x:(List Rw×Rw)),(((Z2 Q1 L x.1)/\(Fn.func 128=Fn.func 128/\(r.id=x.2.id/\r.n.k=x.2.n.k/\r.n.n=x.2.n.n/\r.n.t=x.2.n.t/\r.name.k=x.2.name.k/\r.name.n=x.2.name.n/\r.name.t=x.2.name.t/\True)/\True)/\True)/\M1 x.1.length)/\decide (Q9 x.1.length (bO x.1 x.2.id)≥(0:Int))=anyI L.length (bO L r.id)):
  V4 prog 127 [rwS L,idF r] (.bool (anyI L.length (bO L r.id))):=
 S1 (gC b59 gN) func127 Y9 h
theorem b4A:GK 127 c0P:=gk func127<|λx h=>c0q x.1 x.2 ⟨x,⟨Z8,h⟩,F6 _ _⟩
def Eng.sz(e:Eng)(v:Nat)(L:List Rw):Y4:=[b7h 1,iC (e.tn 10 11 12 13 14 15 16 17),none,none,none,none,none,none,none,none,x4 e.s.d.E,B4 e.s.d.C,z6 e.s.d.keep,xW e.s.L,vE v e.s.fr e.s.fr.length,jP e.X,tP e.lk.H,pZ e.lk.W,b1W L]
def sFn:T:=.fn (.func 69) [.ref 0 0 0]
def jT(e:Eng)(ta:Int):{y:(Eng×Nat)×List Rw//y=((R5 e (tA e.s 8),ftV e.s 8),vN (rcV (vw e.s) ta 8))}:=Classical.choice ⟨⟨_,rfl⟩⟩
def b7x:Con:=.reff ⟨Eng×Int,λx=>[Ji x.2,sFn],λx=>x.1.sx 0,λx=>.tup [.osl 18 0 (jT x.1 x.2).1.2.length,.bool true],λx=>(jT x.1 x.2).1.1.1.sz (jT x.1 x.2).1.1.2 (jT x.1 x.2).1.2,λx=>GInv x.1.s⟩
def b6t(ta:Int)(F:Nat->Eng)(V X:Nat->Nat)(R:Nat->List Rw)(I:Nat->Nat->List Rw):Nat->Ann
 |0=>.one {n:Nat//n<=8} (λx=>⟨[(0,Ji ta),(1,sFn),(6,.osl 18 0 (R x.1).length),(16,Ji x.1)],(F x.1).sz (V x.1) (R x.1)⟩) (λx=>8-x.1) c0n c0n (λx=>fun
  |1=>.one (Up 4) (λy=>⟨[(0,Ji ta),(1,sFn),(6,.osl 18 0 (I x.1 y.1).length),(16,Ji x.1),(28,.posl 14 (V (x.1+1)) (X x.1) 2 4),(29,Ji 4),(30,Ji y.1)],(F (x.1+1)).sz (V (x.1+1)) (I x.1 y.1)⟩) (λy=>4-y.1) c0n c0n (λ_=>Y9)
  |_=>.none)
 |_=>.none
theorem b4N(e:Eng)(ta:Int)(F:Nat->Eng)(V X:Nat->Nat)(R:Nat->List Rw)(I:Nat->Nat->List Rw)(h:
let w:=(oo ((0=0/\0=0)/\True));let z:=(Fn.func 69=Fn.func 69/\(0=0/\0=0)/\True);  (∃(x:{n:Nat//n<=8}),let b:=(F x.1);(ta=ta/\z/\(0=0/\0=(R x.1).length)/\0=(x.1:Int)/\True)/\w/\BxG e b/\T8 ((Z2 Z5 e.s.d.E b.s.d.E)/\(Z2 Y6 e.s.d.C b.s.d.C)/\(Z2 Y8 e.s.d.keep b.s.d.keep)/\(Z2 Y0 e.s.L b.s.L)/\(0=V x.1/\e.s.fr.length=b.s.fr.length/\U7 e.s.fr.length (Z0 e.s.fr) (Z0 b.s.fr))/\(Z2 V1 e.X b.X)/\(Z2 Y7 e.lk.H b.lk.H)/\(Z2 Y5 e.lk.W b.lk.W)/\(0=(R x.1).length/\Z7 0 (tk 7 []) (Q1 (R x.1)))/\True))/\∀(x:{n:Nat//n<=8}),let u:=x.1;let ph:=(R u).length;let pc:=(V (u+1)=V (u+1)/\X u=X u/\2=2/\4=4);let p:=(F (u+1));let pm:=(Z2 Y0 p.s.L p.s.L);let pj:=(Z2 Y5 p.lk.W p.lk.W);let pi:=(Z2 Y7 p.lk.H p.lk.H);let pb:=p.s.d;let pf:=(Z2 Y8 pb.keep pb.keep);let pa:=p.s.fr;let pk:=pa.length;let pd:=(pa.getD (X u) dz);let m:=(V (u+1)=V (u+1)/\pk=pk/\U7 pa.length (Z0 pa) (Z0 pa));bd ((u:Int)<8) (∃(f:(Eng×Nat×Nat)),let q:=(Z4 f.1.s f.2.1); (((u:Int)=(f.2.1:Int)/\(0=0/\0=0)/\True)/\(w/\LnG (V u) (f.2.2) (F u) f.1)/\GInv f.1.s/\f.2.1<8)/\br false (((K4 (u7 [some 0, some 1,some 2,some 3,some 4,some 5,some 6,some 7,some 8,some 9,some (19+(10-10)),some (19+(11-10)),some (19+(12-10)),some (19+(13-10)),some (19+(14-10)),some (19+(15-10)),some (19+(16-10)),some (19+(17-10)),none]) (T.v (Value.slice none 0 0)) (T.osl 18 0 (vN (R 8)).length)/\false=true/\True)/\True)/\w/\BxG {f.1 with s:=q.1} (F 8)/\T8 ((Z2 Z5 q.1.d.E (F 8).s.d.E)/\(Z2 Y6 q.1.d.C (F 8).s.d.C)/\(Z2 Y8 q.1.d.keep (F 8).s.d.keep)/\(Z2 Y0 q.1.L (F 8).s.L)/\(P4 f.1.s f.2.1 f.2.2=V 8/\q.1.fr.length=(F 8).s.fr.length/\U7 q.1.fr.length (Z0 q.1.fr) (Z0 (F 8).s.fr))/\(Z2 V1 f.1.X (F 8).X)/\(Z2 Y7 f.1.lk.H (F 8).lk.H)/\(Z2 Y5 f.1.lk.W (F 8).lk.W)/\False/\True)) ((∃(g:Up 4),(ta=ta/\z/\(0=0/\ph=(I x.1 g.val).length)/\(u:Int)=(u:Int)/\(P4 f.1.s f.2.1 f.2.2=V (u+1)/\q.2.1=X u/\2=2/\4=4)/\(4:Int)=4/\0=(g.val:Int)/\True)/\w/\BxG {f.1 with s:=q.1} p/\T8 ((Z2 Z5 q.1.d.E pb.E)/\(Z2 Y6 q.1.d.C pb.C)/\(Z2 Y8 q.1.d.keep pb.keep)/\(Z2 Y0 q.1.L p.s.L)/\(P4 f.1.s f.2.1 f.2.2=V (u+1)/\q.1.fr.length=pk/\U7 q.1.fr.length (Z0 q.1.fr) (Z0 pa))/\(Z2 V1 f.1.X p.X)/\(Z2 Y7 f.1.lk.H p.lk.H)/\(Z2 Y5 f.1.lk.W p.lk.W)/\(Z2 Q1 (R u) (I x.1 g.val))/\True))/\∀(g:Up 4),let l:=(I x.1 g.val);let a:=(g.val:Int);let r:=l.length;bd (a<4) (V7 a 4/\PfB (V (u+1)) (V (u+1)) (X u) pa.length a.toNat pd.pg.sl.length/\Lt (pd.pg.sl.getD a.toNat []).length 140737488355329/\∃(i:vK.ι),((pd.pg.sl.getD a.toNat []=i/\True)/\sY i)/\∃(j:(List Rw×Rw)),(((I8 i).2.2==(0:Int)&&(I8 i).1==ta)=true->Le (0+r) r/\((Z2 Q1 l j.1)/\(Fn.func 128=Fn.func 128/\((I8 i).2.1.id=j.2.id/\(I8 i).2.1.n.k=j.2.n.k/\(I8 i).2.1.n.n=j.2.n.n/\(I8 i).2.1.n.t=j.2.n.t/\(I8 i).2.1.name.k=j.2.name.k/\(I8 i).2.1.name.n=j.2.name.n/\(I8 i).2.1.name.t=j.2.name.t/\True)/\True)/\True)/\M1 j.1.length)/\br ((I8 i).2.2==(0:Int)&&(I8 i).1==ta&& !anyI j.1.length (bO j.1 j.2.id)) ((Le 1 1/\Le r r/\U9 r 1 72)/\Ri (a+1)/\∃(y:Up 4),let pe:=(I x.1 y.1);((ta=ta/\z/\(0=0/\r+1=pe.length)/\(u:Int)=(u:Int)/\pc/\(4:Int)=4/\a+1=(y.1:Int)/\True)/\w/\BxG p p/\T8 ((Z2 Z5 pb.E pb.E)/\(Z2 Y6 pb.C pb.C)/\pf/\pm/\m/\(Z2 V1 p.X p.X)/\pi/\pj/\(r+1=pe.length/\Z7 (r+1) (X7 (Q1 l) r (tk 7 [Ji (I8 i).2.1.id,Ji (I8 i).2.1.n.k,Ji (I8 i).2.1.n.n,T.str (I8 i).2.1.n.t,Ji (I8 i).2.1.name.k,Ji (I8 i).2.1.name.n,T.str (I8 i).2.1.name.t])) (Q1 pe))/\True))/\Lt (4-y.1) (4-g.val)) (Ri (a+1)/\∃(y:Up 4),((ta=ta/\z/\(0=0/\r=(I x.1 y.1).length)/\(u:Int)=(u:Int)/\pc/\(4:Int)=4/\a+1=(y.1:Int)/\True)/\w/\BxG p p/\T8 ((Z2 Z5 pb.E pb.E)/\(Z2 Y6 pb.C pb.C)/\pf/\pm/\m/\(Z2 V1 p.X p.X)/\pi/\pj/\(Z2 Q1 l (I x.1 y.1))/\True))/\Lt (4-y.1) (4-g.val))) (Ri ((u:Int)+1)/\∃(y:{n:Nat//n<=8}),let c:=(F y.1);((ta=ta/\z/\(0=0/\r=(R y.1).length)/\(u:Int)+1=(y.1:Int)/\True)/\w/\BxG p c/\T8 ((Z2 Z5 pb.E c.s.d.E)/\(Z2 Y6 pb.C c.s.d.C)/\(Z2 Y8 pb.keep c.s.d.keep)/\(Z2 Y0 p.s.L c.s.L)/\(V (u+1)=V y.1/\pk=c.s.fr.length/\U7 pa.length (Z0 pa) (Z0 c.s.fr))/\(Z2 V1 p.X c.X)/\(Z2 Y7 p.lk.H c.lk.H)/\(Z2 Y5 p.lk.W c.lk.W)/\(Z2 Q1 l (R y.1))/\True))/\Lt (8-y.1) (8-u)))) (∃(f:(List Rw)),(((0=0/\ph=f.length)/\Value.func (Fn.func 130) #[] #[]=Value.func (Fn.func 130) #[] #[]/\True)/\((Z2 Q1 (R u) f)/\True)/\f.length<=1048576/\b4t f)/\(((0=0/\ph=(vN (R 8)).length)/\true=true/\True)/\True)/\w/\BxG (F u) (F 8)/\T8 ((Z2 Z5 (F u).s.d.E (F 8).s.d.E)/\(Z2 Y6 (F u).s.d.C (F 8).s.d.C)/\(Z2 Y8 (F u).s.d.keep (F 8).s.d.keep)/\(Z2 Y0 (F u).s.L (F 8).s.L)/\(V u=V 8/\(F u).s.fr.length=(F 8).s.fr.length/\U7 (F u).s.fr.length (Z0 (F u).s.fr) (Z0 (F 8).s.fr))/\(Z2 V1 (F u).X (F 8).X)/\(Z2 Y7 (F u).lk.H (F 8).lk.H)/\(Z2 Y5 (F u).lk.W (F 8).lk.W)/\(Z2 Q1 (vN f) (vN (R 8)))/\True))):
  H6 prog 68 [Ji ta,sFn] (e.sx 0) (.tup [.osl 18 0 (vN (R 8)).length,.bool true]) ((F 8).sz (V 8) (vN (R 8))):=
 r5 (gC b6k (gC tW (gC b4A (gC b4k gN)))) func68 (b6t ta F V X R I) [[.box 0,.box 1,.arr 2,.arr 3,.arr 4,.arr 5,.arr 6,.arr 7,.arr 8,.arr 9,.cel 1 0,.cel 1 1,.cel 1 3,.cel 1 5,.cel 1 7,.cel 1 10,.cel 1 11,.cel 1 12,.vl 0 [0]]] h
theorem c3Q{ta:Int}{L:List Rw}{t:Bz}(h:t.length<=65536):rcS ta L t=if((I8 t).2.2==0&&(I8 t).1==ta&& !anyI L.length (bO L (I8 t).2.1.id))=true then L++[(I8 t).2.1] else L:=by
 rw[a07 h];unfold rcS;cases zK t with
 |none=>rfl
 |some x=>rfl
theorem a4o(L:List Rw):(vN L).length=L.length:=(List.mergeSort_perm L leI).length_eq
theorem b0Z:GK 68 b7x:=gk func68<|by
 rintro⟨e,ta⟩ (h:GInv e.s);show H6 _ _ _ _ (.tup [.osl 18 0 (jT e ta).1.2.length,.bool true]) ((jT e ta).1.1.1.sz (jT e ta).1.1.2 (jT e ta).1.2);rw[(jT e ta).2];dsimp only;have hF:=a6z h;have hR:=c4g (vw e.s) ta;refine b4N e ta (λn=>R5 e (tA e.s n)) (ftV e.s) (λn=>(Z4 (tA e.s n) n).2.1) (rcV (vw e.s) ta) (λn i=>rcI (vw e.s n) ta (rcV (vw e.s) ta n) i) ⟨⟨⟨0,O3 _⟩,Z8,Z8,Z8,Z6,Z6,Z6,Z6,Z6,Z6,Z6,Z6,Z8,Z8,Z8,Z8,Z8,Z8,Z8,Z8,⟨rfl,λi hi=>absurd hi (J5 _)⟩,Z6⟩,λx=>?_⟩
 obtain⟨n,N⟩:=x;dsimp only at N ⊢;refine⟨λhc=>?_,λhc=>?_⟩
 ·have hlt:n<8:=by have:=E4 hc;omega
  obtain⟨g,_,v⟩:=hF n N;obtain⟨j,_,_,q,ps⟩:=lP g.inv hlt (x1 g hlt).2;have o:=(hR n).l;refine⟨(R5 e (tA e.s n),n,ftV e.s n),⟨Z8,Z8,g,hlt⟩,λF=>(by cases F),λ_=>⟨⟨⟨0,O3 _⟩,Z8⟩,λy=>?_⟩⟩
  obtain⟨i,hi⟩:=y;dsimp only at hi ⊢;refine⟨λhc2=>?_,λhc2=>?_⟩
  ·have hit:i<4:=by have:=E4 hc2;omega
   have I:=(c21 (f:=vw e.s n) (ta:=ta) (hR n) i).l;have B:((R5 e (tA e.s (n+1))).s.fr.getD (Z4 (tA e.s n) n).2.1 dz).pg.sl.getD i []=vw e.s n i:=by
    show((Z4 (tA e.s n) n).1.fr.getD (Z4 (tA e.s n) n).2.1 dz).pg.sl.getD i []=_;rw[sM g hlt,←v];unfold vw;rw[if_pos hlt]
   have r:(vw e.s n i).length<=30:=by
    rw[←B];exact ps i (by show i<((Z4 (tA e.s n) n).1.fr.getD (Z4 (tA e.s n) n).2.1 dz).pg.sl.length;omega)
   have hS:rcI (vw e.s n) ta (rcV (vw e.s) ta n) (i+1)=_:=c3Q (ta:=ta) (L:=rcI (vw e.s n) ta (rcV (vw e.s) ta n) i) (t:=vw e.s n i) Z9
   rw[G2,B];refine⟨Y3 hit,⟨rfl,j,by show i<((Z4 (tA e.s n) n).1.fr.getD (Z4 (tA e.s n) n).2.1 dz).pg.sl.length;omega⟩,H9,vw e.s n i,⟨⟨rfl,Z6⟩,a2A⟩,(rcI (vw e.s n) ta (rcV (vw e.s) ta n) i,(I8 (vw e.s n i)).2.1),λ_=>⟨L6,Z8,qJ⟩,λhq=>?_,λhq=>?_⟩
   ·have e1:=hS.trans (if_pos hq);refine⟨⟨V8 _,V8 _,R1⟩,Z3 Z9,⟨i+1,hit⟩,⟨⟨rfl,Z8,⟨rfl,?_⟩,rfl,Z8,rfl,X0,Z6⟩,Z8,Z8,Z6,Z6,Z6,Z6,Z6,Z6,Z6,Z6,Z8,Z8,Z8,Z8,Z8,Z8,Z8,Z8,⟨?_,?_⟩,Z6⟩,D9⟩
    ·dsimp only;rw[e1,K2,List.length_singleton]
    ·dsimp only;rw[e1,K2,List.length_singleton]
    ·dsimp only;rw[e1];exact q9 Rw.ts 7 (λ_=>rfl) _ _
   ·have e1:=hS.trans (if_neg (by rw[hq];exact Bool.false_ne_true))
    refine⟨Z3 Z9,⟨i+1,hit⟩,⟨⟨rfl,Z8,⟨rfl,?_⟩,rfl,Z8,rfl,X0,Z6⟩,Z8,Z8,Z6,Z6,Z6,Z6,Z6,Z6,Z6,Z6,Z8,Z8,Z8,Z8,Z8,Z8,Z8,Z8,?_,Z6⟩,D9⟩
    ·dsimp only;rw[e1]
    ·dsimp only;rw[e1];exact Z8
  ·obtain rfl:i=4:=by have:=s6 hc2;omega
   exact⟨Z3 Z9,⟨n+1,hlt⟩,⟨⟨rfl,Z8,Z8,X0,Z6⟩,Z8⟩,D9⟩
 ·obtain rfl:n=8:=by have:=s6 hc;omega
  have o:=(hR 8).l;exact⟨rcV (vw e.s) ta 8,⟨Z8,Z8,Z9,(hR 8).d⟩,⟨⟨⟨rfl,(a4o _).symm⟩,Z8⟩,Z6⟩,Z8⟩
def NoD(l:Lks)(tx ta m id n:Int):Prop:=(X4 l ⟨tx,ta,-1,m⟩).2≠14/\((X4 l ⟨tx,ta,-1,m⟩).2=0->(X4 (X4 l ⟨tx,ta,-1,m⟩).1 ⟨tx,ta,id,n⟩).2≠14)
theorem yG{e:Eng}{k:Nat}{tx:Int}(h:(e.X.getD k dz).id=tx)(ta row mo:Int):S6 e k ta row mo=⟨tx,ta,row,mo⟩:=by unfold S6;rw[h]
def b9Y:Con:=.reff ⟨Eng×Nat×Int×Int×Int×Int,λx=>[.ref 0 0 0,Ji x.2.2.2.2.2,Ji x.2.2.1,Ji x.2.2.2.1,Ji x.2.2.2.2.1],λx=>x.1.bx 0,λx=>Ji (X4 x.1.lk (S6 x.1 x.2.1 x.2.2.1 x.2.2.2.1 x.2.2.2.2.1)).2,λx=>(N7 x.1 x.2.1 x.2.2.1 x.2.2.2.1 x.2.2.2.2.1).nx 0,λx=>(x.1.lk.H.length<=60/\x.1.lk.W.length<=100)/\(x.1.X.getD x.2.1 dz).id=x.2.2.2.2.2/\(X4 x.1.lk (S6 x.1 x.2.1 x.2.2.1 x.2.2.2.1 x.2.2.2.2.1)).2≠14⟩
theorem a5e:GK 67 b9Y:=gk func67<|by
 rintro⟨e,k,ta,row,mo,tx⟩ ⟨hl,h,n⟩;dsimp only at hl h n;exact r5 (gC b5c gN) func67 Y9 a8w (α:=let p:=(X4 e.lk (S6 e k ta row mo));∃(x:(Eng×Lck×Nat)),let r:=x.1.s;let q:=(X4 x.1.lk x.2.1);(((0=0/\11=11)/\(tx=x.2.1.tx/\ta=x.2.1.ta/\row=x.2.1.row/\mo=x.2.1.mo/\True)/\True)/\(LnG (0) (x.2.2) e x.1)/\x.1.lk.H.length<=60/\x.1.lk.W.length<=100)/\br (q.2==14) False ((q.2=p.2/\True)/\(oo ((0=0/\r.d.E.length=e.s.d.E.length)/\(0=0/\r.d.C.length=e.s.d.C.length)/\r.d.A=e.s.d.A/\(0=0/\r.d.keep.length=e.s.d.keep.length)/\r.ep=e.s.ep/\(0=0/\r.L.length=e.s.L.length)/\r.S=e.s.S/\(0=0/\r.fr.length=e.s.fr.length)/\r.J=e.s.J/\x.1.up=e.up/\(0=0/\x.1.X.length=e.X.length)/\(0=0/\q.1.H.length=p.1.H.length)/\(0=0/\q.1.W.length=p.1.W.length)/\x.1.N=e.N/\True))/\T8 ((Z2 Z5 r.d.E e.s.d.E)/\(Z2 Y6 r.d.C e.s.d.C)/\(Z2 Y8 r.d.keep e.s.d.keep)/\(Z2 Y0 r.L e.s.L)/\(x.2.2=0/\r.fr.length=e.s.fr.length/\U7 r.fr.length (Z0 r.fr) (Z0 e.s.fr))/\(Z2 V1 x.1.X e.X)/\(Z2 Y7 q.1.H p.1.H)/\(Z2 Y5 q.1.W p.1.W)/\True))) ⟨(e,S6 e k ta row mo,0),⟨⟨Z8,⟨h.symm,Z8⟩,Z6⟩,Z8,hl⟩,λq=>absurd (beq_iff_eq.1 q) n,λ_=>Z8⟩
def sK(e:Eng)(k:Nat)(ta tm id rm:Int):Eng×Int:=if(X4 e.lk (S6 e k ta (-1) tm)).2=0 then(N7 (N7 e k ta (-1) tm) k ta id rm,(X4 (N7 e k ta (-1) tm).lk (S6 (N7 e k ta (-1) tm) k ta id rm)).2) else(N7 e k ta (-1) tm,(X4 e.lk (S6 e k ta (-1) tm)).2)
def K0(e:Eng)(tx ta tm id rm:Int):Eng×Int:=if(U5 e tx).2=0 then sK e (U5 e tx).1.toNat ta tm id rm else(e,(U5 e tx).2)
def b4W:Con:=.reff ⟨Eng×Int×Int×Int×Int×Int,λx=>[.ref 0 0 0,Ji x.2.1,Ji x.2.2.1,Ji x.2.2.2.1,Ji x.2.2.2.2.1,Ji x.2.2.2.2.2],λx=>x.1.bx 0,λx=>Ji (K0 x.1 x.2.1 x.2.2.1 x.2.2.2.1 x.2.2.2.2.1 x.2.2.2.2.2).2,λx=>(K0 x.1 x.2.1 x.2.2.1 x.2.2.2.1 x.2.2.2.2.1 x.2.2.2.2.2).1.nx 0,λx=>EI x.1/\LokR x.2.2.1 (-1) x.2.2.2.1/\NoD x.1.lk x.2.1 x.2.2.1 x.2.2.2.1 x.2.2.2.2.1 x.2.2.2.2.2⟩
theorem rX{e:Eng}{tx ta tm id rm:Int}(h:¬ (U5 e tx).2=0):K0 e tx ta tm id rm=(e,(U5 e tx).2):=if_neg h
theorem wE{e:Eng}{tx ta tm id rm:Int}{k:Nat}(h:(U5 e tx).2=0)(d:(U5 e tx).1=k):K0 e tx ta tm id rm=sK e k ta tm id rm:=by
 unfold K0;rw[if_pos h,d,G2]
theorem bP:GK 56 b4W:=gk func56<|by
 rintro⟨e,tx,ta,tm,id,rm⟩ ⟨h,r,n1,N⟩;dsimp only at h r n1 N;obtain⟨l1,l2,l⟩:=a0e h;refine r5 (gC bT (gC a5e gN)) func56 Y9 a8w (α:=let r:=(K0 e tx ta tm id rm);∃(x:(Eng×Int)),((LeG e)/\((nA e x.1)/\tx=x.2/\True)/\M1 x.1.X.length)/\br ((U5 x.1 x.2).2 !=0) (((U5 x.1 x.2).2=r.2/\True)/\NxG (0) (0) e r.1) (∃(x:(Eng×Nat×Int×Int×Int×Int)),let z:=x.2.2.2;let p:=(X4 x.1.lk (S6 x.1 x.2.1 x.2.2.1 z.1 z.2.1));(((0=0/\0=0)/\tx=z.2.2/\ta=x.2.2.1/\(-1:Int)=z.1/\tm=z.2.1/\True)/\(LnG (0) (0) e x.1)/\(x.1.lk.H.length<=60/\x.1.lk.W.length<=100)/\(x.1.X.getD x.2.1 dz).id=z.2.2/\p.2≠(14:Int))/\br (p.2 !=0) ((p.2=r.2/\True)/\NxG (0) (0) {x.1 with lk:=p.1} r.1) (∃(X:(Eng×Nat×Int×Int×Int×Int)),let q:=(X4 X.1.lk (S6 X.1 X.2.1 X.2.2.1 X.2.2.2.1 X.2.2.2.2.1));(((0=0/\0=0)/\tx=X.2.2.2.2.2/\ta=X.2.2.1/\id=X.2.2.2.1/\rm=X.2.2.2.2.1/\True)/\(LnG (0) (0) {x.1 with lk:=p.1} X.1)/\(X.1.lk.H.length<=60/\X.1.lk.W.length<=100)/\(X.1.X.getD X.2.1 dz).id=X.2.2.2.2.2/\q.2≠(14:Int))/\(q.2=r.2/\True)/\NxG (0) (0) {X.1 with lk:=q.1} r.1))) ⟨(e,tx),⟨Z8,Z8,qJ⟩,λhq=>?_,λhq=>?_⟩
 ·rw[rX (tH hq)];exact Z8
 ·obtain⟨hu,k,e1,hk,hi,ha⟩:=k7 (vX hq);rw[wE (vX hq) e1];have eT:=yG hi ta (-1) tm;refine⟨(e,k,ta,-1,tm,tx),⟨Z8,Z8,⟨l1,l2⟩,hi,by dsimp only;rw[eT];exact n1⟩,λhq=>?_,λhq=>?_⟩
  ·have d:sK e k ta tm id rm=(N7 e k ta (-1) tm,(X4 e.lk (S6 e k ta (-1) tm)).2):=if_neg (tH hq);rw[d];exact Z8
  ·have hq:(X4 e.lk (S6 e k ta (-1) tm)).2=0:=vX hq;have d:sK e k ta tm id rm=(N7 (N7 e k ta (-1) tm) k ta id rm,(X4 (N7 e k ta (-1) tm).lk (S6 (N7 e k ta (-1) tm) k ta id rm)).2):=if_pos hq;obtain⟨f,M,_⟩:=a0e (x8 h hk r);have n:(X4 (N7 e k ta (-1) tm).lk (S6 (N7 e k ta (-1) tm) k ta id rm)).2≠14:=by
    rw[eT] at hq;have n:=N hq;rw[←eT] at n;rw[yG (e:=N7 e k ta (-1) tm) (k:=k) hi];exact n
   rw[d];exact⟨(N7 e k ta (-1) tm,k,ta,id,rm,tx),⟨Z8,Z8,⟨f,M⟩,hi,n⟩,Z8⟩
def w9(e:Eng)(tx ta id:Int):{y:(Eng×Nat)×Plc//y=((R5 e (T0 e tx ta id 8).1,tD e tx ta id 8),rW (T0 e tx ta id 8).2.1)}:=Classical.choice ⟨⟨_,rfl⟩⟩
def c49:Con:=.reff ⟨Eng×Int×Int×Int,λx=>[.ref 0 0 0,Ji x.2.1,Ji x.2.2.1,Ji x.2.2.2],λx=>x.1.bx 0,λx=>.tup [.agg [Ji (w9 x.1 x.2.1 x.2.2.1 x.2.2.2).1.2.a,Ji (w9 x.1 x.2.1 x.2.2.1 x.2.2.2).1.2.b],.agg [Ji (w9 x.1 x.2.1 x.2.2.1 x.2.2.2).1.2.c,Ji (w9 x.1 x.2.1 x.2.2.1 x.2.2.2).1.2.d],.bool true],λx=>(w9 x.1 x.2.1 x.2.2.1 x.2.2.2).1.1.1.nx (w9 x.1 x.2.1 x.2.2.1 x.2.2.2).1.1.2,λx=>EI x.1⟩
def c4z(tx ta id:Int)(F:Nat->Eng)(V:Nat->Nat)(A:Nat->Plc)(X:Nat->Nat)(I:Nat->Nat->Plc):Nat->Ann
 |0=>.one {n:Nat//n<=8} (λx=>⟨[(0,.ref 0 0 0),(1,Ji tx),(2,Ji ta),(3,Ji id),(8,.ref 9 0 0),(9,.ref 10 0 0),(11,.ref 11 0 0),(12,.ref 12 0 0),(20,Ji x.1)],(F x.1).fy (V x.1) (A x.1)⟩) (λx=>8-x.1) a80 a80 (λx=>fun
  |1=>.one (Up 4) (λy=>⟨[(0,.ref 0 0 0),(1,Ji tx),(2,Ji ta),(3,Ji id),(8,.ref 9 0 0),(9,.ref 10 0 0),(11,.ref 11 0 0),(12,.ref 12 0 0),(13,Ji x.1),(20,Ji x.1),(36,.posl 17 (V (x.1+1)) (X x.1) 2 4),(37,Ji 4),(38,Ji y.1)],(F (x.1+1)).fy (V (x.1+1)) (I x.1 y.1)⟩) (λy=>4-y.1) a80 a80 (λ_=>Y9)
  |_=>.none)
 |_=>.none
theorem c4q(e:Eng)(tx ta id:Int)(F:Nat->Eng)(V:Nat->Nat)(A:Nat->Plc)(X:Nat->Nat)(I:Nat->Nat->Plc)(h:
let r:=(0=0/\0=0);let p:=(oo ((0:Int)=0/\(0:Int)=0/\True));  (∃(x:{n:Nat//n<=8}),let pi:=(A x.1);(r/\tx=tx/\ta=ta/\id=id/\r/\r/\r/\r/\0=(x.1:Int)/\True)/\BxG e (F x.1)/\T8 (p/\p/\(oo ((-1:Int)=pi.a/\0=pi.b/\True))/\(oo ((-1:Int)=pi.c/\0=pi.d/\True))/\a42 (0) (V x.1) e (F x.1)))/\∀(x:{n:Nat//n<=8}),let q:=x.1;let pb:=((A q).c=(A 8).c/\(A q).d=(A 8).d/\True);let pa:=((A q).a=(A 8).a/\(A q).b=(A 8).b/\True);let l:=(V (q+1));let m:=(V (q+1)=V (q+1)/\X q=X q/\2=2/\4=4);let u:=(F (q+1));let ph:=(u.s.fr.getD (X q) dz);let k:=ph.pg.sl.getD;bd ((q:Int)<8) (∃(g:(Sto×Nat×Nat)),let pk:=(P4 g.1 g.2.1 g.2.2);let w:=(Z4 g.1 g.2.1);let pf:=(w.1.fr.getD w.2.1 dz).pg.sl.length;((r/\(q:Int)=(g.2.1:Int)/\True)/\(LnS (V q) (g.2.2) (F q).s g.1)/\lG g.1 g.2.1/\w.2.2=true)/\br false (((pa/\pb/\false=true/\True)/\True)/\NxG pk (V 8) {(F q) with s:=w.1} (F 8)) (Lt w.2.1 w.1.fr.length/\(∃(f:Up 4),let t:=(I x.1 f.val);(r/\tx=tx/\ta=ta/\id=id/\r/\r/\r/\r/\(q:Int)=(q:Int)/\(q:Int)=(q:Int)/\(P4 g.1 g.2.1 g.2.2=V (q+1)/\w.2.1=X q/\2=2/\pf=4)/\(↑pf:Int)=4/\0=(f.val:Int)/\True)/\BxG {(F q) with s:=w.1} u/\T8 (p/\p/\(oo ((A q).a=t.a/\(A q).b=t.b/\True))/\(oo ((A q).c=t.c/\(A q).d=t.d/\True))/\a42 pk l {(F q) with s:=w.1} u))/\∀(f:Up 4),let v:=(f.val:Int);let z:=(I x.1 f.val);bd (v<4) (V7 v 4/\PfB l l (X q) u.s.fr.length v.toNat ph.pg.sl.length/\∃(j:(Bz×Int×Int)),(decide (z.a<0)=true->(k v.toNat []=j.1/\ta=j.2.1/\id=j.2.2/\True)/\j.1.length<=1000)/\br (decide (z.a<0)&&u3 j.1 j.2.1 j.2.2) (Ri (v+1)/\∃(y:Up 4),let pc:=(I x.1 y.1);((r/\tx=tx/\ta=ta/\id=id/\r/\r/\r/\r/\(q:Int)=(q:Int)/\(q:Int)=(q:Int)/\m/\(4:Int)=4/\v+1=(y.1:Int)/\True)/\BxG u u/\T8 (p/\p/\(oo ((q:Int)=pc.a/\v=pc.b/\True))/\(oo (z.c=pc.c/\z.d=pc.d/\True))/\a42 l l u u))/\Lt (4-y.1) (4-f.val)) (∃(i:(Eng×Int×Int×Int)),((decide (z.c<0)&&k v.toNat []==[])=true->(LeG u)/\((nA u i.1)/\tx=i.2.1/\((q:Int)=i.2.2.1/\v=i.2.2.2/\True)/\True)/\yH i.1)/\((decide (z.c<0)&&k v.toNat []==[]&& !uT i.1 i.2.1 i.2.2.1 i.2.2.2)=true->Ri (v+1)/\∃(y:Up 4),let pd:=(I x.1 y.1);((r/\tx=tx/\ta=ta/\id=id/\r/\r/\r/\r/\(q:Int)=(q:Int)/\(q:Int)=(q:Int)/\m/\(4:Int)=4/\v+1=(y.1:Int)/\True)/\BxG u u/\T8 (p/\p/\(oo (z.a=pd.a/\z.b=pd.b/\True))/\(oo ((q:Int)=pd.c/\v=pd.d/\True))/\a42 l l u u))/\Lt (4-y.1) (4-f.val))/\((decide (z.c<0)&&k v.toNat []==[]&&!uT i.1 i.2.1 i.2.2.1 i.2.2.2)=false->Ri (v+1)/\∃(y:Up 4),let pe:=(I x.1 y.1);((r/\tx=tx/\ta=ta/\id=id/\r/\r/\r/\r/\(q:Int)=(q:Int)/\(q:Int)=(q:Int)/\m/\(4:Int)=4/\v+1=(y.1:Int)/\True)/\BxG u u/\T8 (p/\p/\(oo (z.a=pe.a/\z.b=pe.b/\True))/\(oo (z.c=pe.c/\z.d=pe.d/\True))/\a42 l l u u))/\Lt (4-y.1) (4-f.val)))) (Ri ((q:Int)+1)/\∃(y:{n:Nat//n<=8}),let pj:=(A y.1);((r/\tx=tx/\ta=ta/\id=id/\r/\r/\r/\r/\(q:Int)+1=(y.1:Int)/\True)/\BxG u (F y.1)/\T8 (p/\p/\(oo (z.a=pj.a/\z.b=pj.b/\True))/\(oo (z.c=pj.c/\z.d=pj.d/\True))/\a42 l (V y.1) u (F y.1)))/\Lt (8-y.1) (8-q)))) (((pa/\pb/\true=true/\True)/\True)/\NxG (V q) (V 8) (F q) (F 8))):
  H6 prog 57 [.ref 0 0 0,Ji tx,Ji ta,Ji id] (e.bx 0) (.tup [.agg [Ji (A 8).a,Ji (A 8).b],.agg [Ji (A 8).c,Ji (A 8).d],.bool true]) ((F 8).nx (V 8)):=
 r5 (gC vY (gC b45 (gC b2d gN))) func57 (c4z tx ta id F V A X I) a8w h
theorem a9G:GK 57 c49:=gk func57<|by
 rintro⟨e,tx,ta,id⟩ (h:EI e);show H6 _ _ _ _ (.tup [.agg [Ji (w9 e tx ta id).1.2.a,Ji (w9 e tx ta id).1.2.b],.agg [Ji (w9 e tx ta id).1.2.c,Ji (w9 e tx ta id).1.2.d],.bool true]) ((w9 e tx ta id).1.1.1.nx (w9 e tx ta id).1.1.2);rw[(w9 e tx ta id).2];have M:=qL h;refine c4q e tx ta id (λn=>R5 e (T0 e tx ta id n).1) (tD e tx ta id) (λn=>rW (T0 e tx ta id n).2.1) (λn=>(Z4 (T0 e tx ta id n).1 n).2.1) (λn i=>rW (w7 e tx ta id n (dE e tx ta id n) (T0 e tx ta id n).2.1 i)) ⟨⟨⟨0,O3 _⟩,Z8⟩,λx=>?_⟩
 obtain⟨n,N⟩:=x;dsimp only at N ⊢;refine⟨λhc=>?_,λhc=>?_⟩
 ·have hlt:n<8:=by have:=E4 hc;omega
  obtain⟨l,v,hv,_⟩:=g8 h.g tx ta id n N;have j:=c3U hv;have u:=(x1 l hlt).2;have q:=c2r hv u;obtain⟨F,_,_,r,ps⟩:=lP l.inv hlt u;have f:(Z4 (T0 e tx ta id n).1 n).1.L=e.s.L:=(x1 l hlt).1.L.1.trans v;have t:yH (R5 e (Z4 (T0 e tx ta id n).1 n).1):=qL (oK h (x1 l hlt).1.g f);have hK:=λg sl=>a9x f tx g sl
  have r:(dE e tx ta id n).sl.length=4:=r;have ps:∀i,i<4->((dE e tx ta id n).sl.getD i []).length<=30:=λi hi=>ps i (by show i<(dE e tx ta id n).sl.length;omega)
  have hp:((Z4 (T0 e tx ta id n).1 n).1.fr.getD (Z4 (T0 e tx ta id n).1 n).2.1 dz).pg=dE e tx ta id n:=rfl;have C:=a60 e tx ta id n (dE e tx ta id n) (T0 e tx ta id n).2.1;have o:w7 e tx ta id n (dE e tx ta id n) (T0 e tx ta id n).2.1 0=(T0 e tx ta id n).2.1:=rfl;refine⟨((T0 e tx ta id n).1,n,tD e tx ta id n),⟨Z8,Z8,⟨l.inv,hlt⟩,u⟩,λB=>(by cases B),λ_=>?_⟩
  rw[q,j];have z:(T0 e tx ta id (n+1)).2.1=w7 e tx ta id n (dE e tx ta id n) (T0 e tx ta id n).2.1 4:=by rw[q]
  have hF:(T0 e tx ta id (n+1)).1=(Z4 (T0 e tx ta id n).1 n).1:=by rw[q]
  clear q;dsimp only;have L:(((R5 e (Z4 (T0 e tx ta id n).1 n).1).s.fr.getD (Z4 (T0 e tx ta id n).1 n).2.1 dz).pg)=dE e tx ta id n:=rfl;rw[L,hp];generalize dE e tx ta id n=p at*;generalize (T0 e tx ta id n).2.1=A at*;generalize w7 e tx ta id n p A=I at*;refine⟨F,⟨⟨0,O3 _⟩,⟨Z8,rfl,rfl,rfl,Z8,Z8,Z8,Z8,rfl,rfl,⟨rfl,rfl,rfl,r⟩,Z9,Z8⟩,Z8,Z6,Z6,Z6,Z6,Z6,Z6,Z6,Z6,Z8,Z8,⟨rfl,rfl,by rw[o],by rw[o],Z6⟩,⟨rfl,rfl,by rw[o],by rw[o],Z6⟩,⟨rfl,W2 _ _⟩,⟨rfl,W2 _ _⟩,⟨rfl,W2 _ _⟩,⟨rfl,W2 _ _⟩,⟨rfl,rfl,gV _⟩,⟨rfl,W2 _ _⟩,⟨rfl,W2 _ _⟩,⟨rfl,W2 _ _⟩,Z6⟩,λy=>?_⟩
  obtain⟨i,hi⟩:=y;dsimp only at hi ⊢;refine⟨λhc2=>?_,λhc2=>?_⟩
  ·have hit:i<4:=by have:=E4 hc2;omega
   have hIi:=C i;have J:=ps i hit;rw[G2];refine⟨⟨Z9,Z9⟩,⟨rfl,F,Z9⟩,(p.sl.getD i [],ta,id),λ_=>⟨Z8,X0⟩,λhq=>?_,λhq=>⟨(R5 e (Z4 (T0 e tx ta id n).1 n).1,tx,n,i),λ_=>⟨Z8,Z8,t⟩,λhr=>?_,λhr=>?_⟩⟩
   ·simp only[O4,r8] at hq;have hz:¬p.sl.getD i []=[]:=λhz=>by
     have:=hq.2;rw[hz,a14] at this;cases this
    rw[if_neg hz,if_pos ⟨hq.2,hq.1⟩] at hIi;have e1:rW (I (i+1))=⟨n,i,(I i).c,slI (I i).c (I i).d⟩:=by rw[hIi];exact c4L
    exact⟨Z3 Z9,⟨i+1,hit⟩,⟨⟨Z8,rfl,rfl,rfl,Z8,Z8,Z8,Z8,rfl,rfl,Z8,rfl,X0,Z6⟩,Z8,Z6,Z6,Z6,Z6,Z6,Z6,Z6,Z6,Z8,Z8,⟨rfl,rfl,kN,kN,Z6⟩,⟨rfl,rfl,by rw[e1];rfl,by rw[e1];rfl,Z6⟩,⟨rfl,W2 _ _⟩,⟨rfl,W2 _ _⟩,⟨rfl,W2 _ _⟩,⟨rfl,W2 _ _⟩,⟨rfl,rfl,gV _⟩,⟨rfl,W2 _ _⟩,⟨rfl,W2 _ _⟩,⟨rfl,W2 _ _⟩,Z6⟩,D9⟩
   ·dsimp only at hr;rw[hK] at hr;simp only[O4,r8,xV,beq_iff_eq] at hr;rw[if_pos hr.1.2,if_pos ⟨hr.1.1,hr.2⟩] at hIi;have e1:rW (I (i+1))=⟨(I i).a,slI (I i).a (I i).b,n,i⟩:=by rw[hIi];exact c44
    exact⟨Z3 Z9,⟨i+1,hit⟩,⟨⟨Z8,rfl,rfl,rfl,Z8,Z8,Z8,Z8,rfl,rfl,Z8,rfl,X0,Z6⟩,Z8,Z6,Z6,Z6,Z6,Z6,Z6,Z6,Z6,Z8,Z8,⟨rfl,rfl,by rw[e1];rfl,by rw[e1];rfl,Z6⟩,⟨rfl,rfl,kN,kN,Z6⟩,⟨rfl,W2 _ _⟩,⟨rfl,W2 _ _⟩,⟨rfl,W2 _ _⟩,⟨rfl,W2 _ _⟩,⟨rfl,rfl,gV _⟩,⟨rfl,W2 _ _⟩,⟨rfl,W2 _ _⟩,⟨rfl,W2 _ _⟩,Z6⟩,D9⟩
   ·dsimp only at hr;rw[hK] at hr;have e1:I (i+1)=I i:=by
     rw[hIi];split
     ·rename_i hz;rw[if_neg];rintro⟨a1,a2⟩;rw[hz,qK (show(rW (I i)).c<0 from a1),a2] at hr
      cases hr
     ·rw[if_neg];rintro⟨a1,a2⟩;rw[a1,qK (show(rW (I i)).a<0 from a2)] at hq
      cases hq
    exact⟨Z3 Z9,⟨i+1,hit⟩,⟨⟨Z8,rfl,rfl,rfl,Z8,Z8,Z8,Z8,rfl,rfl,Z8,rfl,X0,Z6⟩,Z8,Z6,Z6,Z6,Z6,Z6,Z6,Z6,Z6,Z8,Z8,⟨rfl,rfl,kN,kN,Z6⟩,⟨rfl,rfl,kN,kN,Z6⟩,Z8⟩,D9⟩
  ·obtain rfl:i=4:=by have:=s6 hc2;omega
   refine⟨Z3 Z9,⟨n+1,hlt⟩,?_,D9⟩
   dsimp only;rw[z,hF,j];exact⟨⟨Z8,rfl,rfl,rfl,Z8,Z8,Z8,Z8,Z9,Z6⟩,Z8⟩
 ·obtain rfl:n=8:=by have:=s6 hc;omega
  exact Z8
def Eng.ny(e:Eng)(v:Nat)(L:List Rw):Y4:=[iC (e.tn 9 10 11 12 13 14 15 16),none,none,none,none,none,none,none,none,x4 e.s.d.E,B4 e.s.d.C,z6 e.s.d.keep,xW e.s.L,vE v e.s.fr e.s.fr.length,jP e.X,tP e.lk.H,pZ e.lk.W,b1W L]
def c3q:Con:=.reff ⟨Eng×Int×Int,λx=>[.ref 0 0 0,Ji x.2.1,Ji x.2.2],λx=>x.1.bx 0,λx=>.tup [.osl 17 0 (j7 x.1 x.2.1 x.2.2).2.1.length,Ji (j7 x.1 x.2.1 x.2.2).2.2],λx=>(j7 x.1 x.2.1 x.2.2).1.1.ny (j7 x.1 x.2.1 x.2.2).1.2 (j7 x.1 x.2.1 x.2.2).2.1,λx=>EI x.1/\(X4 x.1.lk ⟨x.2.1,x.2.2,-1,3⟩).2≠14⟩
theorem c1U{e:Eng}{tx ta:Int}(h:¬ (U5 e tx).2=0):j7 e tx ta=((e,0),[],(U5 e tx).2):=if_neg h
theorem b6R{e:Eng}{tx ta:Int}{k:Nat}(h:(U5 e tx).2=0)(d:(U5 e tx).1=k)(f:¬ (X4 e.lk (S6 e k ta (-1) 3)).2=0):j7 e tx ta=((N7 e k ta (-1) 3,0),[],(X4 e.lk (S6 e k ta (-1) 3)).2):=by
 unfold j7;rw[if_pos h,d,G2,if_neg f]
theorem b6D{e:Eng}{tx ta:Int}{k:Nat}(h:(U5 e tx).2=0)(d:(U5 e tx).1=k)(f:(X4 e.lk (S6 e k ta (-1) 3)).2=0):j7 e tx ta=((R5 (N7 e k ta (-1) 3) (tA e.s 8),ftV e.s 8),vN (rcV (vw e.s) ta 8),0):=by
 unfold j7;rw[if_pos h,d,G2,if_pos f]
theorem b9d:GK 31 c3q:=gk func31<|by
 rintro⟨e,tx,ta⟩ ⟨h,hn⟩;dsimp only at h hn ⊢;obtain⟨l1,l2,_⟩:=a0e h;generalize hZ:j7 e tx ta=Z;have j:=h.h.t10;refine r5 (gC bT (gC a5e (gC b0Z gN))) func31 Y9 [[.box 0,.arr 1,.arr 2,.arr 3,.arr 4,.arr 5,.arr 6,.arr 7,.arr 8,.cel 0 0,.cel 0 1,.cel 0 3,.cel 0 5,.cel 0 7,.cel 0 10,.cel 0 11,.cel 0 12,.vl 0 [0]],[.nilS 0 [0] 47 7,.box 0,.arr 1,.arr 2,.arr 3,.arr 4,.arr 5,.arr 6,.arr 7,.arr 8,.cel 0 0,.cel 0 1,.cel 0 3,.cel 0 5,.cel 0 7,.cel 0 10,.cel 0 11,.cel 0 12,.vl 0 [0]]] (α:=let w:=(0=0/\0=0);let v:=(0=0/\0=Z.2.1.length);let z:=(Z0 Z.1.1.s.fr);∃(x:(Eng×Int)),((LeG e)/\((nA e x.1)/\tx=x.2/\True)/\M1 x.1.X.length)/\br ((U5 x.1 x.2).2 !=0) (((v/\(U5 x.1 x.2).2=Z.2.2/\True)/\True)/\BxG e Z.1.1/\T8 ((Z2 Z5 e.s.d.E Z.1.1.s.d.E)/\(Z2 Y6 e.s.d.C Z.1.1.s.d.C)/\(Z2 Y8 e.s.d.keep Z.1.1.s.d.keep)/\(Z2 Y0 e.s.L Z.1.1.s.L)/\(0=Z.1.2/\e.s.fr.length=Z.1.1.s.fr.length/\U7 e.s.fr.length (Z0 e.s.fr) z)/\(Z2 V1 e.X Z.1.1.X)/\(Z2 Y7 e.lk.H Z.1.1.lk.H)/\(Z2 Y5 e.lk.W Z.1.1.lk.W)/\(0=Z.2.1.length/\Z7 0 (λ(x:Nat)=>[]) (Q1 Z.2.1))/\True)) (∃(x:(Eng×Nat×Int×Int×Int×Int)),let y:=x.1.s;let u:=x.2.2.2;let p:=(X4 x.1.lk (S6 x.1 x.2.1 x.2.2.1 u.1 u.2.1));((w/\tx=u.2.2/\ta=x.2.2.1/\(-1:Int)=u.1/\3=u.2.1/\True)/\(LnG (0) (0) e x.1)/\(x.1.lk.H.length<=60/\x.1.lk.W.length<=100)/\(x.1.X.getD x.2.1 dz).id=u.2.2/\p.2≠(14:Int))/\br (p.2 !=0) (((v/\p.2=Z.2.2/\True)/\True)/\BxG {x.1 with lk:=p.1} Z.1.1/\T8 ((Z2 Z5 y.d.E Z.1.1.s.d.E)/\(Z2 Y6 y.d.C Z.1.1.s.d.C)/\(Z2 Y8 y.d.keep Z.1.1.s.d.keep)/\(Z2 Y0 y.L Z.1.1.s.L)/\(0=Z.1.2/\y.fr.length=Z.1.1.s.fr.length/\U7 y.fr.length (Z0 y.fr) z)/\(Z2 V1 x.1.X Z.1.1.X)/\(Z2 Y7 p.1.H Z.1.1.lk.H)/\(Z2 Y5 p.1.W Z.1.1.lk.W)/\(0=Z.2.1.length/\Z7 0 (λ(x:Nat)=>[]) (Q1 Z.2.1))/\True)) (∃(X:(Eng×Int)),let q:=(jT X.1 X.2);let j:=q.val.fst;let r:=j.fst;((ta=X.2/\(Fn.func 69=Fn.func 69/\w/\True)/\True)/\((oo (w/\True))/\LnG (0) (0) {x.1 with lk:=p.1} X.1)/\GInv X.1.s)/\br false False ((((0=0/\q.val.snd.length=Z.2.1.length)/\0=Z.2.2/\True)/\True)/\BxG j.fst Z.1.1/\T8 ((Z2 Z5 r.s.d.E Z.1.1.s.d.E)/\(Z2 Y6 r.s.d.C Z.1.1.s.d.C)/\(Z2 Y8 r.s.d.keep Z.1.1.s.d.keep)/\(Z2 Y0 r.s.L Z.1.1.s.L)/\(j.snd=Z.1.2/\r.s.fr.length=Z.1.1.s.fr.length/\U7 r.s.fr.length (Z0 r.s.fr) z)/\(Z2 V1 r.X Z.1.1.X)/\(Z2 Y7 r.lk.H Z.1.1.lk.H)/\(Z2 Y5 r.lk.W Z.1.1.lk.W)/\(Z2 Q1 q.val.snd Z.2.1)/\True))))) ⟨(e,tx),⟨Z8,Z8,qJ⟩,λhq=>?_,λhq=>?_⟩
 ·rw[←hZ,c1U (tH hq)];exact⟨Z8,Z8,Z6,Z6,Z6,Z6,Z6,Z6,Z6,Z6,Z8,Z8,Z8,Z8,Z8,Z8,Z8,Z8,⟨rfl,λi hi=>absurd hi (J5 _)⟩,Z6⟩
 ·have hq:=vX hq;obtain⟨hu,k,e1,hk,hi,ha⟩:=k7 hq;have eT:=yG hi ta (-1) 3;refine⟨(e,k,ta,-1,3,tx),⟨Z8,Z8,⟨l1,l2⟩,hi,by dsimp only;rw[eT];exact hn⟩,λhl=>?_,λhl=>?_⟩
  ·rw[←hZ,b6R hq e1 (tH hl)];exact⟨Z8,Z8,Z6,Z6,Z6,Z6,Z6,Z6,Z6,Z6,Z8,Z8,Z8,Z8,Z8,Z8,Z8,Z8,⟨rfl,λi hi=>absurd hi (J5 _)⟩,Z6⟩
  ·rw[←hZ,b6D hq e1 (vX hl)];dsimp only;have eR:(jT (N7 e k ta (-1) 3) ta).1=((R5 (N7 e k ta (-1) 3) (tA e.s 8),ftV e.s 8),vN (rcV (vw e.s) ta 8)):=(jT (N7 e k ta (-1) 3) ta).2;refine⟨(N7 e k ta (-1) 3,ta),⟨Z8,Z8,h.g⟩,λhf=>(by cases hf),λ_=>?_⟩
   dsimp only;rw[eR];generalize R5 (N7 e k ta (-1) 3) (tA e.s 8)=f;generalize ftV e.s 8=w;generalize vN (rcV (vw e.s) ta 8)=L;exact Z8
def wG(e:Eng)(k:Nat)(g s:Int)(b a:Bz)(v:Nat):(Eng×Nat)×Int:=if(e.s.L.length:Int)+1+i5 e+1>60 then((e,v),7) else(((vC e k (L4 g s b a)).1,P4 (y7 e k (L4 g s b a)).s g.toNat v),0)
def qT(e:Eng)(k:Nat)(ta:Int)(r:Rw)(gone:Bool)(f:Sto×Plc×Bool)(v:Nat):(Eng×Nat)×Int:=
 if f.2.1.a<0 then(if gone=true then((R5 e f.1,v),5) else if f.2.1.c<0 then((R5 e f.1,v),12) else wG (R5 e f.1) k f.2.1.c f.2.1.d [] (E6 ta r) v)
 else wG (R5 e (m4 e f.2.1 f.1).1) k f.2.1.a f.2.1.b (m4 e f.2.1 f.1).2 (if gone=true then[] else E6 ta r) (P4 f.1 f.2.1.a.toNat v)
def E9(e:Eng)(tx ta:Int)(r:Rw)(gone:Bool):(Eng×Nat)×Int:=
 if(K0 e tx ta 2 r.id 4).2=0 then qT (K0 e tx ta 2 r.id 4).1 (U5 e tx).1.toNat ta r gone (T0 (K0 e tx ta 2 r.id 4).1 tx ta r.id 8) (tD (K0 e tx ta 2 r.id 4).1 tx ta r.id 8) else(((K0 e tx ta 2 r.id 4).1,0),(K0 e tx ta 2 r.id 4).2)
def ChQ(e:Eng)(tx ta:Int)(r:Rw):Prop:=EI e/\(1<=ta/\ta<=3)/\RwK r/\(E6 ta r).length<=30/\NoD e.lk tx ta 2 r.id 4
def b0O:Con:=.reff ⟨Eng×Int×Int×Rw×Bool,λx=>[.ref 0 0 0,Ji x.2.1,Ji x.2.2.1,.agg x.2.2.2.1.ts,.bool x.2.2.2.2],λx=>x.1.bx 0,λx=>Ji (E9 x.1 x.2.1 x.2.2.1 x.2.2.2.1 x.2.2.2.2).2,λx=>(E9 x.1 x.2.1 x.2.2.1 x.2.2.2.1 x.2.2.2.2).1.1.nx (E9 x.1 x.2.1 x.2.2.1 x.2.2.2.1 x.2.2.2.2).1.2,λx=>ChQ x.1 x.2.1 x.2.2.1 x.2.2.2.1⟩
theorem a5R{a:Bool}(h:(!a)=false):a=true:=by cases a with|false=>cases h|true=>rfl
theorem fC{e:Eng}{k:Nat}{g s:Int}{b a:Bz}{v:Nat}(h:(e.s.L.length:Int)+1+i5 e+1>60):wG e k g s b a v=((e,v),7):=if_pos h
theorem pX{e:Eng}{k:Nat}{g s:Int}{b a:Bz}{v:Nat}(h:¬ (e.s.L.length:Int)+1+i5 e+1>60):wG e k g s b a v=(((vC e k (L4 g s b a)).1,P4 (y7 e k (L4 g s b a)).s g.toNat v),0):=if_neg h
theorem b3M{e:Eng}(h:EI e){k:Nat}{tx:Int}(d:k<e.X.length)(hi:(e.X.getD k dz).id=tx){g s:Int}{b a:Bz}(i:0<=g/\g<=7)(f:0<=s/\s<=3)(B:b.length<=30)(A:a.length<=30)(r:e.s.L.length+i5 e+2<=60):
  AddB e tx k (L4 g s b a)/\a7o (y7 e k (L4 g s b a)).s (T1 e.s (M2 e k (L4 g s b a)))/\(vC e k (L4 g s b a)).2=true:=by
 have hR:C8 (T1 e.s (M2 e k (L4 g s b a))):=h.rcp d a4m a4O (λ_=>rfl) (λe _=>absurd rfl e) ⟨Int.le_refl _,mO⟩ i f ⟨B,A⟩ (λe=>dM)
 have j:=h.h.t10;subst hi;exact⟨⟨h.h.at_ d,d,rfl,(Q6 _).2 hR,Z9,Z9,by show b.length<=_;omega,by show a.length<=_;omega⟩,⟨(h.app d hR).inv,i.1,a9S,f.1,a9M⟩,(a1I h d i f B A r).2⟩
theorem kE{e:Eng}{tx ta:Int}{r:Rw}{gone:Bool}(h:¬ (K0 e tx ta 2 r.id 4).2=0):E9 e tx ta r gone=(((K0 e tx ta 2 r.id 4).1,0),(K0 e tx ta 2 r.id 4).2):=if_neg h
structure LkY(e:Eng)(tx ta id:Int)(k:Nat):Prop where
 up:(U5 e tx).2=0
 kk:(U5 e tx).1=k
 lt:k<e.X.length
 hi:(e.X.getD k dz).id=tx
 eq:K0 e tx ta 2 id 4=(N7 (N7 e k ta (-1) 2) k ta id 4,0)
theorem a2g{e:Eng}{tx ta id:Int}(h:(K0 e tx ta 2 id 4).2=0):∃k,LkY e tx ta id k:=by
 by_cases hk0:(U5 e tx).2=0
 ·obtain⟨hu,k,e1,hk,hi,ha⟩:=k7 hk0;refine⟨k,hk0,e1,hk,hi,?_⟩
  rw[wE hk0 e1] at h ⊢;unfold sK at h ⊢;split at h
  ·rename_i d;rw[if_pos d];dsimp only at h ⊢;rw[h]
  ·rename_i d;exact absurd h d
 ·rw[rX hk0] at h;exact absurd h hk0
theorem a0w{e:Eng}{tx ta:Int}{r:Rw}{gone:Bool}{k:Nat}(h:LkY e tx ta r.id k):E9 e tx ta r gone=qT (N7 (N7 e k ta (-1) 2) k ta r.id 4) k ta r gone (T0 (N7 (N7 e k ta (-1) 2) k ta r.id 4) tx ta r.id 8) (tD (N7 (N7 e k ta (-1) 2) k ta r.id 4) tx ta r.id 8):=by
 unfold E9;rw[h.eq,if_pos rfl,h.kk,G2]
set_option maxHeartbeats 4000000 in
theorem fY:GK 27 b0O:=gk func27<|by
 rintro⟨e,tx,ta,r,gone⟩ ⟨h,A,N,hb,O⟩;dsimp only at h A N hb O ⊢;generalize q:E9 e tx ta r gone=Z;have aa:=N.2.2;have R:LokR ta (-1) 2:=⟨A,X1,X1,X1⟩
 have Y:LokR ta r.id 4:=⟨A,Z9,X1,.inr X1⟩
 refine r5 (gC bP (gC a9G (gC a4f (gC vY (gC iH (gC c2J (gC b7i gN))))))) func27 Y9 a8w (α:=let pp:=(0=Z.2/\True);let pb:=(0=0/\0=0);∃(x:(Eng×Int×Int×Int×Int×Int)),let po:=x.2.2.2;let u:=(K0 x.1 x.2.1 x.2.2.1 po.1 po.2.1 po.2.2);((pb/\tx=x.2.1/\ta=x.2.2.1/\2=po.1/\r.id=po.2.1/\4=po.2.2/\True)/\(LnG (0) (0) e x.1)/\EI x.1/\LokR x.2.2.1 (-1:Int) po.1/\NoD x.1.lk x.2.1 x.2.2.1 po.1 po.2.1 po.2.2)/\br (u.2 !=0) ((u.2=Z.2/\True)/\NxG (0) (Z.1.2) u.1 Z.1.1) (∃(X:(Eng×Int×Int×Int)),let q:=(w9 X.1 X.2.1 X.2.2.1 X.2.2.2);let y:=q.val.snd;let v:=q.val.fst;((pb/\tx=X.2.1/\ta=X.2.2.1/\r.id=X.2.2.2/\True)/\(LnG (0) (0) u.1 X.1)/\EI X.1)/\br false False (∃(x:(Int×Rw)),((ta=x.1/\(r.id=x.2.id/\r.n.k=x.2.n.k/\r.n.n=x.2.n.n/\r.n.t=x.2.n.t/\r.name.k=x.2.name.k/\r.name.n=x.2.name.n/\r.name.t=x.2.name.t/\True)/\True)/\RwK x.2/\1<=x.1/\x.1<=3)/\bd (y.a≥(0:Int)) (∃(j:(Sto×Nat×Nat)),let pc:=(P4 j.1 j.2.1 j.2.2);let z:=(Z4 j.1 j.2.1);let pu:=z.1.fr.length;let pd:=(z.1.fr.getD z.2.1 dz);((pb/\y.a=(j.2.1:Int)/\True)/\(LnS (v.snd) (j.2.2) v.fst.s j.1)/\lG j.1 j.2.1/\z.2.2=true)/\br false False (Lt z.2.1 pu/\V7 y.b pd.pg.sl.length/\PfB pc pc z.2.1 z.1.fr.length y.b.toNat pd.pg.sl.length/\∃(i:(Eng×Int)),((Le (0+z.1.d.E.length) z.1.d.E.length/\Le (0+z.1.d.C.length) z.1.d.C.length/\Le (0+z.1.d.keep.length) z.1.d.keep.length/\Le (0+z.1.L.length) z.1.L.length/\Le (0+pu) pu/\Le (0+v.fst.X.length) v.fst.X.length/\Le (0+v.fst.lk.H.length) v.fst.lk.H.length/\Le (0+v.fst.lk.W.length) v.fst.lk.W.length)/\((nA {v.fst with s:=z.1} i.1)/\2=i.2/\True)/\yH i.1/\r6 i.2)/\br (!decide ((i.1.s.L.length:Int)+(↑(i5 i.1):Int)+i.2<=60)) ((7=Z.2/\True)/\NxG pc (Z.1.2) {v.fst with s:=z.1} Z.1.1) (br gone (∃(x:(Eng×Int×Rec×Nat×Nat)),let pz:=x.1.s;let pv:=x.2.2.2;let pe:=(x.1.X.getD pv.1 dz);let w:=x.2.2.1;let pk:=(pz.L++[T1 x.1.s (M2 x.1 pv.1 w)]);((pb/\tx=x.2.1/\(0=w.e/\0=w.l/\0=w.t/\2=w.k/\0=w.p/\0=w.n/\y.a=w.g/\y.b=w.s/\pd.pg.sl.getD y.b.toNat []=w.b/\[]=w.a/\True)/\True)/\(LnG pc (pv.2) {v.fst with s:=z.1} x.1)/\AddB x.1 x.2.1 pv.1 w)/\∃(o:(Sto×Rec×Nat)),let pq:=o.2.1;((pb/\(pz.ep=pq.e/\(pz.L.length:Int)+1=pq.l/\pe.id=pq.t/\w.k=pq.k/\pe.Z=pq.p/\w.n=pq.n/\w.g=pq.g/\w.s=pq.s/\w.b=pq.b/\w.a=pq.a/\True)/\True)/\(mQ {x.1.s with L:=pk} o.1/\(Z2 Z5 pz.d.E o.1.d.E)/\(Z2 Y6 pz.d.C o.1.d.C)/\(Z2 Y8 pz.d.keep o.1.d.keep)/\(Z2 Y0 pk o.1.L)/\(pv.2=o.2.2/\pz.fr.length=o.1.fr.length/\U7 pz.fr.length (Z0 pz.fr) (Z0 o.1.fr))/\True)/\a7o o.1 pq)/\br (!(R6 o.1 pq).2) False (pp/\NxG (P4 o.1 pq.g.toNat o.2.2) (Z.1.2) {x.1 with s:=(R6 o.1 pq).1,X:=(x.1.X.set pv.1 (Txn.mk pe.id ((pz.L.length:Int)+1)))} Z.1.1)) (∃(o:(Eng×Int×Rec×Nat×Nat)),let qa:=o.1.s;let pw:=o.2.2.2;let pf:=(o.1.X.getD pw.1 dz);let m:=o.2.2.1;let pm:=(qa.L++[T1 o.1.s (M2 o.1 pw.1 m)]);((pb/\tx=o.2.1/\(0=m.e/\0=m.l/\0=m.t/\2=m.k/\0=m.p/\0=m.n/\y.a=m.g/\y.b=m.s/\pd.pg.sl.getD y.b.toNat []=m.b/\E6 x.1 x.2=m.a/\True)/\True)/\(LnG pc (pw.2) {v.fst with s:=z.1} o.1)/\AddB o.1 o.2.1 pw.1 m)/\∃(x:(Sto×Rec×Nat)),let pr:=x.2.1;((pb/\(qa.ep=pr.e/\(qa.L.length:Int)+1=pr.l/\pf.id=pr.t/\m.k=pr.k/\pf.Z=pr.p/\m.n=pr.n/\m.g=pr.g/\m.s=pr.s/\m.b=pr.b/\m.a=pr.a/\True)/\True)/\(mQ {o.1.s with L:=pm} x.1/\(Z2 Z5 qa.d.E x.1.d.E)/\(Z2 Y6 qa.d.C x.1.d.C)/\(Z2 Y8 qa.d.keep x.1.d.keep)/\(Z2 Y0 pm x.1.L)/\(pw.2=x.2.2/\qa.fr.length=x.1.fr.length/\U7 qa.fr.length (Z0 qa.fr) (Z0 x.1.fr))/\True)/\a7o x.1 pr)/\br (!(R6 x.1 pr).2) False (pp/\NxG (P4 x.1 pr.g.toNat x.2.2) (Z.1.2) {o.1 with s:=(R6 x.1 pr).1,X:=(o.1.X.set pw.1 (Txn.mk pf.id ((qa.L.length:Int)+1)))} Z.1.1))))) (br gone ((5=Z.2/\True)/\NxG (v.snd) (Z.1.2) v.fst Z.1.1) (bd (y.c<0) ((12=Z.2/\True)/\NxG (v.snd) (Z.1.2) v.fst Z.1.1) (∃(j:(Eng×Int)),((LeG v.fst)/\((nA v.fst j.1)/\2=j.2/\True)/\yH j.1/\r6 j.2)/\br (!decide ((j.1.s.L.length:Int)+(↑(i5 j.1):Int)+j.2<=60)) ((7=Z.2/\True)/\NxG (v.snd) (Z.1.2) v.fst Z.1.1) (br gone (∃(x:(Eng×Int×Rec×Nat×Nat)),let qb:=x.1.s;let px:=x.2.2.2;let ph:=(x.1.X.getD px.1 dz);let f:=x.2.2.1;let pn:=(qb.L++[T1 x.1.s (M2 x.1 px.1 f)]);((pb/\tx=x.2.1/\(0=f.e/\0=f.l/\0=f.t/\2=f.k/\0=f.p/\0=f.n/\y.c=f.g/\y.d=f.s/\[]=f.b/\[]=f.a/\True)/\True)/\(LnG (v.snd) (px.2) v.fst x.1)/\AddB x.1 x.2.1 px.1 f)/\∃(i:(Sto×Rec×Nat)),let ps:=i.2.1;((pb/\(qb.ep=ps.e/\(qb.L.length:Int)+1=ps.l/\ph.id=ps.t/\f.k=ps.k/\ph.Z=ps.p/\f.n=ps.n/\f.g=ps.g/\f.s=ps.s/\f.b=ps.b/\f.a=ps.a/\True)/\True)/\(mQ {x.1.s with L:=pn} i.1/\(Z2 Z5 qb.d.E i.1.d.E)/\(Z2 Y6 qb.d.C i.1.d.C)/\(Z2 Y8 qb.d.keep i.1.d.keep)/\(Z2 Y0 pn i.1.L)/\(px.2=i.2.2/\qb.fr.length=i.1.fr.length/\U7 qb.fr.length (Z0 qb.fr) (Z0 i.1.fr))/\True)/\a7o i.1 ps)/\br (!(R6 i.1 ps).2) False (pp/\NxG (P4 i.1 ps.g.toNat i.2.2) (Z.1.2) {x.1 with s:=(R6 i.1 ps).1,X:=(x.1.X.set px.1 (Txn.mk ph.id ((qb.L.length:Int)+1)))} Z.1.1)) (∃(i:(Eng×Int×Rec×Nat×Nat)),let qc:=i.1.s;let py:=i.2.2.2;let pi:=(i.1.X.getD py.1 dz);let pa:=i.2.2.1;let pj:=(qc.L++[T1 i.1.s (M2 i.1 py.1 pa)]);((pb/\tx=i.2.1/\(0=pa.e/\0=pa.l/\0=pa.t/\2=pa.k/\0=pa.p/\0=pa.n/\y.c=pa.g/\y.d=pa.s/\[]=pa.b/\E6 x.1 x.2=pa.a/\True)/\True)/\(LnG (v.snd) (py.2) v.fst i.1)/\AddB i.1 i.2.1 py.1 pa)/\∃(x:(Sto×Rec×Nat)),let pt:=x.2.1;((pb/\(qc.ep=pt.e/\(qc.L.length:Int)+1=pt.l/\pi.id=pt.t/\pa.k=pt.k/\pi.Z=pt.p/\pa.n=pt.n/\pa.g=pt.g/\pa.s=pt.s/\pa.b=pt.b/\pa.a=pt.a/\True)/\True)/\(mQ {i.1.s with L:=pj} x.1/\(Z2 Z5 qc.d.E x.1.d.E)/\(Z2 Y6 qc.d.C x.1.d.C)/\(Z2 Y8 qc.d.keep x.1.d.keep)/\(Z2 Y0 pj x.1.L)/\(py.2=x.2.2/\qc.fr.length=x.1.fr.length/\U7 qc.fr.length (Z0 qc.fr) (Z0 x.1.fr))/\True)/\a7o x.1 pt)/\br (!(R6 x.1 pt).2) False (pp/\NxG (P4 x.1 pt.g.toNat x.2.2) (Z.1.2) {i.1 with s:=(R6 x.1 pt).1,X:=(i.1.X.set py.1 (Txn.mk pi.id ((qc.L.length:Int)+1)))} Z.1.1))))))))) ⟨(e,tx,ta,2,r.id,4),⟨Z8,Z8,h,R,O⟩,λQ=>?_,λQ=>?_⟩
 ·rw[←q,kE (tH Q)];exact Z8
 have Q:(K0 e tx ta 2 r.id 4).2=0:=vX Q;obtain⟨k,L⟩:=a2g Q;rw[a0w L] at q;have E2:=x8 (x8 h L.lt R) (k:=k) L.lt Y;have hk:k<(N7 (N7 e k ta (-1) 2) k ta r.id 4).X.length:=L.lt;have hi:((N7 (N7 e k ta (-1) 2) k ta r.id 4).X.getD k dz).id=tx:=L.hi;dsimp only;rw[L.eq];dsimp only;generalize N7 (N7 e k ta (-1) 2) k ta r.id 4=e2 at*;clear Q L h O R Y;refine⟨(e2,tx,ta,r.id),⟨Z8,Z8,E2⟩,λM=>(by cases M),λ_=>?_⟩
 dsimp only;rw[(w9 e2 tx ta r.id).2];dsimp only;obtain⟨B,C,_,hpl⟩:=g8 E2.g tx ta r.id 8 (V8 _);generalize T0 e2 tx ta r.id 8=f at*;generalize tD e2 tx ta r.id 8=v at*;obtain⟨fs,fp,fl⟩:=f;dsimp only at B C hpl q ⊢;refine⟨(ta,r),⟨Z8,N,A.1,A.2⟩,λha=>?_,λha=>?_⟩
 ·have ha:fp.a≥0:=E4 ha;have hna:¬fp.a<0:=by omega
  have U:=hpl.1.resolve_left Z9
  have z:(rW fp).b=fp.b:=if_neg hna;have eW:Z=wG (R5 e2 (m4 e2 fp fs).1) k fp.a fp.b (m4 e2 fp fs).2 (if gone=true then[] else E6 ta r) (P4 fs fp.a.toNat v):=by
   rw[←q];unfold qT;dsimp only;rw[if_neg hna]
  clear q;rw[z];have F:(rW fp).a=fp.a:=rfl;rw[F];obtain⟨s1,s2,s3,s4,W,V⟩:=sI (e:=e2) B U;have E3:=oK E2 s1 (s2.trans C);refine⟨(fs,fp.a.toNat,v),⟨⟨Z8,X0,Z6⟩,Z8,⟨B.inv,X0⟩,s4⟩,λM=>(by cases M),λ_=>⟨W,⟨Z9,by dsimp only;rw[V];omega⟩,⟨rfl,W,by dsimp only;rw[V];omega⟩,(R5 e2 (m4 e2 fp fs).1,2),⟨⟨aU _,aU _,aU _,aU _,aU _,aU _,aU _,aU _⟩,⟨⟨⟨rfl,W2 _ _⟩,⟨rfl,W2 _ _⟩,rfl,⟨rfl,W2 _ _⟩,rfl,⟨rfl,W2 _ _⟩,rfl,⟨rfl,λ_ _=>rfl⟩,rfl,rfl,Z8,Z8,Z8,rfl,Z6⟩,Z8⟩,qL E3,b71⟩,λhc=>?_,λhc=>⟨λhg=>?_,λhg=>?_⟩⟩⟩
  ·have hc:=s6 (a4c hc);rw[eW,fC kJ]
   exact Z8
  ·have hc:=E4 (a5R hc);rw[if_pos hg] at eW;obtain⟨hA,hP,hU⟩:=b3M E3 hk hi (g:=fp.a) (s:=fp.b) (b:=(m4 e2 fp fs).2) (a:=[]) Z9 Z9 s3 (O3 _) kJ
   exact⟨((R5 e2 (m4 e2 fp fs).1),tx,L4 fp.a fp.b (m4 e2 fp fs).2 [],k,(P4 fs fp.a.toNat v)),⟨Z8,Z8,hA⟩,((y7 (R5 e2 (m4 e2 fp fs).1) k (L4 fp.a fp.b (m4 e2 fp fs).2 [])).s,T1 (R5 e2 (m4 e2 fp fs).1).s (M2 (R5 e2 (m4 e2 fp fs).1) k (L4 fp.a fp.b (m4 e2 fp fs).2 [])),(P4 fs fp.a.toNat v)),⟨Z8,Z8,hP⟩,λu=>(by
      have u:(vC (R5 e2 (m4 e2 fp fs).1) k (L4 fp.a fp.b (m4 e2 fp fs).2 [])).2=false:=a4c u;rw[hU] at u;cases u),λ_=>(by
      rw[eW,pX kJ]
      exact Z8)⟩
  ·have hc:=E4 (a5R hc);rw[if_neg (by rw[hg];simp)] at eW
   obtain⟨hA,hP,hU⟩:=b3M E3 hk hi (g:=fp.a) (s:=fp.b) (b:=(m4 e2 fp fs).2) (a:=(E6 ta r)) Z9 Z9 s3 hb kJ
   exact⟨((R5 e2 (m4 e2 fp fs).1),tx,L4 fp.a fp.b (m4 e2 fp fs).2 (E6 ta r),k,(P4 fs fp.a.toNat v)),⟨Z8,Z8,hA⟩,((y7 (R5 e2 (m4 e2 fp fs).1) k (L4 fp.a fp.b (m4 e2 fp fs).2 (E6 ta r))).s,T1 (R5 e2 (m4 e2 fp fs).1).s (M2 (R5 e2 (m4 e2 fp fs).1) k (L4 fp.a fp.b (m4 e2 fp fs).2 (E6 ta r))),(P4 fs fp.a.toNat v)),⟨Z8,Z8,hP⟩,λu=>(by
      have u:(vC (R5 e2 (m4 e2 fp fs).1) k (L4 fp.a fp.b (m4 e2 fp fs).2 (E6 ta r))).2=false:=a4c u;rw[hU] at u;cases u),λ_=>(by
      rw[eW,pX kJ]
      exact Z8)⟩
 ·have ha:fp.a<0:=by have:¬fp.a≥0:=s6 ha;omega
  have E3:=oK E2 B C;have eW:Z=if gone=true then((R5 e2 fs,v),5) else if fp.c<0 then((R5 e2 fs,v),12) else wG (R5 e2 fs) k fp.c fp.d [] (E6 ta r) v:=by
   rw[←q];unfold qT;dsimp only;rw[if_pos ha]
  clear q;refine⟨λhg=>?_,λhg=>⟨λhc=>?_,λhc=>?_⟩⟩
  ·rw[eW,if_pos hg];exact Z8
  ·have hc:fp.c<0:=E4 hc;rw[eW,if_neg (by rw[hg];simp),if_pos hc]
   exact Z8
  ·have hnc:¬fp.c<0:=s6 hc;have hpc:=hpl.2.resolve_left Z9
   have z:(rW fp).d=fp.d:=if_neg hnc;have I:(rW fp).c=fp.c:=rfl;rw[if_neg (by rw[hg];simp),if_neg hnc] at eW
   rw[z,I];refine⟨(R5 e2 fs,2),⟨Z8,Z8,qL E3,b71⟩,λhc=>?_,λhc=>⟨λJ=>?_,λ_=>?_⟩⟩
   ·have hc:=s6 (a4c hc);rw[eW,fC kJ]
    exact Z8
   ·rw[J] at hg;cases hg
   ·have hc:=E4 (a5R hc);obtain⟨hA,hP,hU⟩:=b3M E3 hk hi (g:=fp.c) (s:=fp.d) (b:=[]) (a:=(E6 ta r)) Z9 Z9 (O3 _) hb kJ
    exact⟨((R5 e2 fs),tx,L4 fp.c fp.d [] (E6 ta r),k,v),⟨Z8,Z8,hA⟩,((y7 (R5 e2 fs) k (L4 fp.c fp.d [] (E6 ta r))).s,T1 (R5 e2 fs).s (M2 (R5 e2 fs) k (L4 fp.c fp.d [] (E6 ta r))),v),⟨Z8,Z8,hP⟩,λu=>(by
      have u:(vC (R5 e2 fs) k (L4 fp.c fp.d [] (E6 ta r))).2=false:=a4c u;rw[hU] at u;cases u),λ_=>(by
      rw[eW,pX kJ]
      exact Z8)⟩
structure Pw(m:Nat)(e f:Eng):Prop where
 ei:EI f
 ln:f.X.length=e.X.length
 id:∀i,(f.X.getD i dz).id=(e.X.getD i dz).id
 nx:f.N=e.N
 lg:f.s.L.length<=e.s.L.length+m
 fw:∃l:List (Nat×Nat),l.length<=m/\∀n i,(n,i) ∉ l->vw f.s n i=vw e.s n i
theorem Pw.up{m n:Nat}{e f:Eng}(h:Pw m e f)(M:m<=n):Pw n e f:=by
 obtain⟨a,b,c,d,g,l,j,i⟩:=h;exact⟨a,b,c,d,Z9,l,Z9,i⟩
theorem Pw.tr{m n:Nat}{e f g:Eng}(a:Pw m e f)(b:Pw n f g):Pw (m+n) e g:=by
 obtain⟨_,q,r,t,u,l,z,A⟩:=a;obtain⟨o,B,b2,j,x,k,v,d⟩:=b;refine⟨o,B.trans q,λi=>(b2 i).trans (r i),j.trans t,Z9,l++k,by rw[K2];omega,λn i h=>?_⟩
 rw[List.mem_append,not_or] at h;rw[d n i h.2,A n i h.1]
theorem bB{e f:Eng}(h:EI f)(t:f.X=e.X)(N:f.N=e.N)(hl:f.s.L=e.s.L)(hv:vw f.s=vw e.s):Pw 0 e f:=
 ⟨h,by rw[t],λi=>by rw[t],N,by rw[hl];exact V8 _,[],V8 _,λn i _=>by rw[hv]⟩
theorem c22{e:Eng}(h:EI e){k:Nat}(hk:k<e.X.length){g s:Int}{b a:Bz}(o:0<=g/\g<=7)(j:0<=s/\s<=3)(q:b.length<=30)(A:a.length<=30)(R:e.s.L.length+i5 e+2<=60):Pw 1 e (vC e k (L4 g s b a)).1:=by
 have E:=(a1I h hk o j q A R).1;have hR:C8 (T1 e.s (M2 e k (L4 g s b a))):=h.rcp hk a4m a4O (λ_=>rfl) (λe _=>absurd rfl e) ⟨Int.le_refl _,mO⟩ o j ⟨q,A⟩ (λe=>dM)
 have r:=h.app hk hR;have d:=vZ e k (L4 g s b a);have t:0<=(T1 e.s (M2 e k (L4 g s b a))).g/\(T1 e.s (M2 e k (L4 g s b a))).g<8:=⟨o.1,a9S⟩
 have B:0<=(T1 e.s (M2 e k (L4 g s b a))).s/\(T1 e.s (M2 e k (L4 g s b a))).s<4:=⟨j.1,a9M⟩
 have b2:1<=(T1 e.s (M2 e k (L4 g s b a))).l/\(T1 e.s (M2 e k (L4 g s b a))).l<=(y7 e k (L4 g s b a)).s.L.length:=⟨b4K,by show(e.s.L.length:Int)+1<=_;rw[d];exact Int.le_refl _⟩
 have V:vw (vC e k (L4 g s b a)).1.s=lQ g.toNat s.toNat a (vw e.s):=b5B r t B b2 A;have Lg:(vC e k (L4 g s b a)).1.s.L=e.s.L++[T1 e.s (M2 e k (L4 g s b a))]:=(b4T r t B b2 A).2.2.1;have T:(vC e k (L4 g s b a)).1.X=e.X.set k ⟨(e.X.getD k dz).id,(e.s.L.length:Int)+1⟩:=rfl;have N:(vC e k (L4 g s b a)).1.N=e.N:=rfl;generalize (vC e k (L4 g s b a)).1=f at*;refine⟨E,by rw[T,yT],λi=>?_,N,by rw[Lg,K2,List.length_singleton];exact V8 _,[(g.toNat,s.toNat)],V8 _,λn i u=>?_⟩
 ·rw[T,wV _ i hk];split
  ·rename_i v;rw[v]
  ·rfl
 ·rw[V];unfold lQ;rw[if_neg λe=>u (by rw[e.1,e.2];exact List.mem_singleton.2 rfl)]
theorem a8Q{e:Eng}(h:EI e){k:Nat}(d:k<e.X.length){g s:Int}{b a:Bz}{v:Nat}(i:0<=g/\g<=7)(f:0<=s/\s<=3)(B:b.length<=30)(A:a.length<=30):Pw 1 e (wG e k g s b a v).1.1:=by
 by_cases C:(e.s.L.length:Int)+1+i5 e+1>60
 ·rw[fC C];exact(bB h rfl rfl rfl rfl).up (O3 _)
 ·rw[pX C];exact c22 h d i f B A Z9
theorem b9S{e:Eng}(h:EI e){k:Nat}(l:k<e.X.length){tx ta:Int}{r:Rw}{gone:Bool}{v:Nat}(B:(E6 ta r).length<=30):Pw 1 e (qT e k ta r gone (T0 e tx ta r.id 8) v).1.1:=by
 obtain⟨i,d,u,g4⟩:=g8 h.g tx ta r.id 8 (V8 _);have hv:=pV h.g tx ta r.id 8 (V8 _);generalize T0 e tx ta r.id 8=f at*;have E:=oK h i d;have F:Pw 0 e (R5 e f.1):=bB E rfl rfl d hv;unfold qT;split
 ·split
  ·exact F.up (O3 _)
  ·split
   ·exact F.up (O3 _)
   ·rename_i _ _ hc;have hC:=g4.2.resolve_left Z9
    exact F.tr (a8Q E l ⟨hC.1,hC.2.1⟩ hC.2.2 (O3 _) B)
 ·rename_i ha;have hA:=g4.1.resolve_left Z9
  obtain⟨o,n,q,t,_⟩:=sI (e:=e) i hA;have j:vw (m4 e f.2.1 f.1).1=vw f.1:=eD i Z9
  have E2:=oK h o (n.trans d);have F2:Pw 0 e (R5 e (m4 e f.2.1 f.1).1):=bB E2 rfl rfl (n.trans d) (j.trans hv);refine F2.tr (a8Q E2 l ⟨hA.1,hA.2.1⟩ hA.2.2 q ?_)
  split
  ·exact O3 _
  ·exact B
theorem b0c{e:Eng}(h:EI e){k:Nat}(d:k<e.X.length){ta row mo:Int}(r:LokR ta row mo):Pw 0 e (N7 e k ta row mo):=bB (x8 h d r) rfl rfl rfl rfl
theorem oT{e:Eng}(h:EI e){tx ta:Int}{r:Rw}{gone:Bool}(t:1<=ta/\ta<=3)(hi:0<=r.id/\r.id<=1000)(B:(E6 ta r).length<=30):Pw 1 e (E9 e tx ta r gone).1.1:=by
 have r1:LokR ta (-1) 2:=⟨t,X1,X1,X1⟩
 have R:LokR ta r.id 4:=⟨t,Z9,X1,.inr X1⟩
 by_cases hq:(K0 e tx ta 2 r.id 4).2=0
 ·obtain⟨k,L⟩:=a2g hq;have F1:=b0c h L.lt r1;have F2:=F1.tr (b0c F1.ei (k:=k) L.lt R);rw[a0w L];exact F2.tr (b9S F2.ei (k:=k) L.lt B)
 ·rw[kE hq];by_cases h0:(U5 e tx).2=0
  ·obtain⟨hu,k,e1,hk,_,ha⟩:=k7 h0;have F1:=b0c h hk r1;rw[wE h0 e1];unfold sK;split
   ·exact(F1.tr (b0c F1.ei (k:=k) hk R)).up (O3 _)
   ·exact F1.up (O3 _)
  ·rw[rX h0];exact(bB h rfl rfl rfl rfl).up (O3 _)
theorem c6n{e:Eng}(h:EI e)(d:e.X.length=1){tx ta id:Int}(hx:(e.X.getD 0 dz).id=tx)(t:1<=ta/\ta<=3):NoD e.lk tx ta 2 id 4:=by
 have r:LokR ta (-1) 2:=⟨t,X1,X1,X1⟩
 have a:=c2u h d ta (-1) 2;have b:=c2u (x8 h (k:=0) Z9 r) d ta id 4
 rw[yG hx] at a;rw[yG (e:=N7 e 0 ta (-1) 2) (k:=0) hx] at b;refine⟨a,λ_=>?_⟩
 have f:(N7 e 0 ta (-1) 2).lk=(X4 e.lk ⟨tx,ta,-1,2⟩).1:=by
  show(X4 e.lk (S6 e 0 ta (-1) 2)).1=_;rw[yG hx]
 rw[←f];exact b
def a2P:Con:=.rel eN
def a5E(t:T)(n:Nat):Nat->Ann
 |0=>.one (Up n) (λx=>⟨[(0,t),(1,t),(5,Ji x.1)],[]⟩) (λx=>n-x.1) [] [] (λ_=>Y9)
 |_=>.none
theorem mM:GK 146 a2P:=gk func146<|by
 intro(L:List (Bz)) (hL:L.length<=1048576);refine S1 gN func146 (a5E (zA L) L.length) (α:=let r:=(L.length:Int);let q:=(Z2 Z5 L L);br (r !=r) (false=true) ((∃(x:Up L.length),(q/\q/\0=(x.1:Int)/\True)/\True)/\∀(x:Up L.length),let p:=(x.1:Int);bd (p<r) (V7 p L.length/\V7 p L.length/\br (!L.getD p.toNat []==L.getD p.toNat []) (false=true) (Ri (p+1)/\∃(y:Up L.length),((q/\q/\p+1=(y.1:Int)/\True)/\True)/\Lt (L.length-y.1) (L.length-x.1))) (true=true))) ⟨λh=>H8,λ_=>⟨⟨⟨0,O3 _⟩,⟨⟨z7,W2 _ _⟩,⟨z7,W2 _ _⟩,Z8⟩,Z6⟩,λx=>⟨λC=>?_,λ_=>rfl⟩⟩⟩
 have t:=Y1 C;exact⟨Y3 t,Y3 t,λh=>H8,λ_=>⟨V5 t Z9,⟨x.1+1,t⟩,⟨⟨⟨z7,W2 _ _⟩,⟨z7,W2 _ _⟩,F3,Z6⟩,Z6⟩,U8.ext_lt t⟩⟩
def a5L:Con:=.rel a3n
theorem a33:GK 147 a5L:=gk func147<|by
 intro(L:List (Int)) (hL:L.length<=1048576);refine S1 gN func147 (a5E (bY L) L.length) (α:=let r:=(L.length:Int);let q:=(Z2 Y8 L L);br (r !=r) (false=true) ((∃(x:Up L.length),(q/\q/\0=(x.1:Int)/\True)/\True)/\∀(x:Up L.length),let p:=(x.1:Int);bd (p<r) (V7 p L.length/\V7 p L.length/\br (L.getD p.toNat (0:Int) !=L.getD p.toNat (0:Int)) (false=true) (Ri (p+1)/\∃(y:Up L.length),((q/\q/\p+1=(y.1:Int)/\True)/\True)/\Lt (L.length-y.1) (L.length-x.1))) (true=true))) ⟨λh=>H8,λ_=>⟨⟨⟨0,O3 _⟩,⟨⟨z7,W2 _ _⟩,⟨z7,W2 _ _⟩,Z8⟩,Z6⟩,λx=>⟨λC=>?_,λ_=>rfl⟩⟩⟩
 have t:=Y1 C;exact⟨Y3 t,Y3 t,λh=>H8,λ_=>⟨V5 t Z9,⟨x.1+1,t⟩,⟨⟨⟨z7,W2 _ _⟩,⟨z7,W2 _ _⟩,F3,Z6⟩,Z6⟩,U8.ext_lt t⟩⟩
def b1K:Con:=.rel a32
theorem a5K:GK 81 b1K:=gk func81<|by
 intro(L:List (Rec)) (hL:L.length<=1048576);refine S1 gN func81 (a5E (pG L) L.length) (α:=let u:=(L.length:Int);let z:=(Z2 Y0 L L);br (u !=u) (false=true) ((∃(x:Up L.length),(z/\z/\0=(x.1:Int)/\True)/\True)/\∀(x:Up L.length),let r:=(x.1:Int);let q:=(L.getD r.toNat dz);bd (r<u) (V7 r L.length/\V7 r L.length/\br (!(q.e==q.e&&(q.l==q.l&&(q.t==q.t&&(q.k==q.k&&(q.p==q.p&&(q.n==q.n&&(q.g==q.g&&(q.s==q.s&&(q.b==q.b&&(q.a==q.a&&true))))))))))) (false=true) (Ri (r+1)/\∃(y:Up L.length),((z/\z/\r+1=(y.1:Int)/\True)/\True)/\Lt (L.length-y.1) (L.length-x.1))) (true=true))) ⟨λh=>H8,λ_=>⟨⟨⟨0,O3 _⟩,⟨⟨z7,W2 _ _⟩,⟨z7,W2 _ _⟩,Z8⟩,Z6⟩,λx=>⟨λC=>?_,λ_=>rfl⟩⟩⟩
 have d:=Y1 C;exact⟨Y3 d,Y3 d,λh=>H8,λ_=>⟨V5 d Z9,⟨x.1+1,d⟩,⟨⟨⟨z7,W2 _ _⟩,⟨z7,W2 _ _⟩,F3,Z6⟩,Z6⟩,U8.ext_lt d⟩⟩
def a5O:Con:=.rel b7E
theorem a7T(p:Pg)(h:
  ∃(x:eN.ι),((p.Q==p.Q)=true->((Z2 Z5 p.sl x)/\(Z2 Z5 p.sl x)/\True)/\x.length<=1048576)/\(p.Q==p.Q&&true)=true):
  V4 prog 82 [.agg p.ts,.agg p.ts] (.bool true):=
 S1 (gC mM gN) func82 Y9 h
theorem a3R:GK 82 a5O:=gk func82<|λ(p:Pg) h1=>a7T p ⟨p.sl,λ_=>⟨Z8,h1⟩,W8⟩
def a8b(d:Dsk):Nat->Ann
 |0=>.one (Up d.C.length) (λx=>⟨[(2,.ref 0 0 0),(3,.ref 1 0 0),(5,Ji x.1)],[lC d,lC d]⟩) (λx=>d.C.length-x.1) uY uY (λ_=>Y9)
 |_=>.none
def a8s:Con:=.rel a94
theorem a2L:GK 80 a8s:=gk func80<|by
 rintro(d:Dsk) ⟨h1,h2,h3⟩;refine S1 (gC mM (gC a33 gN)) func80 (a8b d) (α:=let u:=(0=0/\0=0);let z:=(oo (xP d d));let q:=(d.C.length:Int);∃(x:eN.ι),(((Z2 Z5 d.E x)/\(Z2 Z5 d.E x)/\True)/\x.length<=1048576)/\∃(x:a3n.ι),let v:=(Z2 Y8 d.keep x);((false||q !=q|| !d.A==d.A)=false->(v/\v/\True)/\x.length<=1048576)/\br (false||q !=q|| !d.A==d.A||false) (false=true) ((∃(x:Up d.C.length),(u/\u/\0=(x.1:Int)/\True)/\z/\z/\True)/\∀(x:Up d.C.length),let r:=(x.1:Int);let p:=(d.C.getD r.toNat dz);bd (r<q) (V7 r d.C.length/\V7 r d.C.length/\br (!(p.at_==p.at_&&(p.d==p.d&&true))) (false=true) (Ri (r+1)/\∃(y:Up d.C.length),((u/\u/\r+1=(y.1:Int)/\True)/\z/\z/\True)/\Lt (d.C.length-y.1) (d.C.length-x.1))) (true=true))) ⟨d.E,⟨Z8,h1⟩,d.keep,λ_=>⟨Z8,h3⟩,λh=>H8,λ_=>⟨⟨⟨0,O3 _⟩,Z8⟩,λx=>⟨λC=>?_,λ_=>rfl⟩⟩⟩
 have t:=Y1 C;exact⟨Y3 t,Y3 t,λh=>H8,λ_=>⟨V5 t Z9,⟨x.1+1,t⟩,⟨⟨Z8,Z8,F3,Z6⟩,Z8⟩,U8.ext_lt t⟩⟩
def a2D(s:Sto):Nat->Ann
 |0=>.one (Up s.fr.length) (λx=>⟨[(2,.ref 0 0 0),(3,.ref 1 0 0),(5,Ji x.1)],[uN s,uN s]⟩) (λx=>s.fr.length-x.1) uY uY (λ_=>Y9)
 |_=>.none
def a3d:Con:=.rel a9d
theorem a1C:GK 38 a3d:=gk func38<|by
 rintro(s:Sto) ⟨h1,h2,h3,h4⟩;refine S1 (gC a2L (gC a5K (gC a3R gN))) func38 (a2D s) (α:=let v:=(0=0/\0=0);let u:=(s.fr.length:Int);let z:=(oo (o6 s s));∃(x:a94.ι),(((xP s.d x)/\(xP s.d x)/\True)/\dU x)/\∃(x:a32.ι),((false||s.ep !=s.ep)=false->((Z2 Y0 s.L x)/\(Z2 Y0 s.L x)/\True)/\x.length<=1048576)/\br (false||s.ep !=s.ep||false||s.S !=s.S||s.J !=s.J||u !=u) (false=true) ((∃(x:Up s.fr.length),(v/\v/\0=(x.1:Int)/\True)/\z/\z/\True)/\∀(x:Up s.fr.length),let q:=(x.1:Int);let p:=(s.fr.getD q.toNat dz);bd (q<u) (V7 q s.fr.length/\V7 q s.fr.length/\∃(X:b7E.ι),let r:=(p.pg.Q=X.Q/\(Z2 Z5 p.pg.sl X.sl)/\True);((p.no !=p.no|| ! p.D==p.D||p.first !=p.first)=false->(r/\r/\True)/\SmG X)/\br (p.no !=p.no|| ! p.D==p.D||p.first !=p.first||false) (false=true) (Ri (q+1)/\∃(y:Up s.fr.length),((v/\v/\q+1=(y.1:Int)/\True)/\z/\z/\True)/\Lt (s.fr.length-y.1) (s.fr.length-x.1))) (true=true))) ⟨s.d,⟨⟨eqD _,eqD _,Z6⟩,h1⟩,s.L,λ_=>⟨⟨c2y,c2y,Z6⟩,h2⟩,λh=>H8,λ_=>⟨⟨⟨0,O3 _⟩,⟨c1L,c1L,rfl,Z6⟩,⟨rfl,rfl,jO _⟩,⟨rfl,rfl,jO _⟩,Z6⟩,λx=>⟨λC=>?_,λ_=>rfl⟩⟩⟩
 have t:=Y1 C;exact⟨Y3 t,Y3 t,(s.fr.getD x.1 dz).pg,λ_=>⟨Z8,h4 _ t⟩,λh=>H8,λ_=>⟨V5 t Z9,⟨x.1+1,t⟩,⟨⟨Z8,Z8,F3,Z6⟩,Z8⟩,U8.ext_lt t⟩⟩
theorem b8i{r:Rw}(h:R9 r=true):RwB r:=by
 obtain⟨⟨a,b,_⟩,_⟩:=tK h;have d:=a.1;have e:=b.1;exact⟨by unfold dF M1;omega,by unfold dF M1;omega⟩
def c4v:Con:=.reff ⟨Bz,λc=>[.bys c],λ_=>[],λ_=>.ref 0 0 0,λc=>[i3 (X9 c)],λc=>c.length<=2000000⟩
theorem a8B:GK 28 c4v:=gk func28<|λc _=>a3I c ⟨bH,P5,P5⟩
def c37:Con:=.rel ⟨Bz,λc=>[.bys c],λc=>.agg (vQ (X9 c)).2.ts,λc=>c.length<=2000000⟩
theorem b8z:GK 8 c37:=gk func8<|by
 intro(c:Bz) (hc:c.length<=2000000);exact S1 (gC a8B (gC a95 gN)) func8 Y9 (α:=let u:=(V0 (V6 (X9 c) (6:Int)));let p:=(J0 (I3 (X9 c)) u.2);let r:=(v7 p.1 (V0 u.1).2);∃(x:(Bz)),((c=x/\True)/\True/\x.length<=2000000)/\∃(X:Src),let v:=(V0 (V6 X (6:Int)));let q:=(J0 (I3 X) v.2);let z:=(v7 q.1 (V0 v.1).2);(((0=0/\0=0)/\True)/\((1=1/\Z7 1 (λ(x_2:Nat)=>[T.bys x,Ji (↑(0:Nat):Int),Ji ((↑(x.length):Int).tmod (1000:Int))]) λ(x:Nat)=>[T.bys X.c,Ji (X.at_:Int),Ji X.sd])/\True)/\R7 X 50000)/\P0 X 6=P0 (X9 c) (6:Int)/\q.2.k=p.2.k/\q.2.n=p.2.n/\q.2.t=p.2.t/\z.2.k=r.2.k/\z.2.n=r.2.n/\z.2.t=r.2.t/\True) ⟨c,⟨Z8,Z6,hc⟩,X9 c,⟨Z8,Z8,(oH c).le (O3 _)⟩,Z8⟩
def c3h:Con:=.rel ⟨Eng×Int×Int×Rw,λx=>[.agg x.1.ts,Ji x.2.1,Ji x.2.2.1,.agg x.2.2.2.ts],λx=>.tup [.agg (E9 x.1 x.2.1 x.2.2.1 x.2.2.2 false).1.1.ts,Ji (E9 x.1 x.2.1 x.2.2.1 x.2.2.2 false).2],λx=>EI x.1/\(1<=x.2.2.1/\x.2.2.1<=3)/\R9 x.2.2.2=true/\NoD x.1.lk x.2.1 x.2.2.1 2 x.2.2.2.id 4⟩
theorem c5I(e:Eng)(tx ta:Int)(r:Rw)(Z:Eng×Int)(h:
  ∃(x:xI.ι),(((r.id=x.id/\r.n.k=x.n.k/\r.n.n=x.n.n/\r.n.t=x.n.t/\r.name.k=x.name.k/\r.name.n=x.name.n/\r.name.t=x.name.t/\True)/\True)/\RwB x)/\∃(g:Int),((ta=g/\True)/\True)/\∃(f:(Eng×Bool×Bool)),(((Q7 e f.1)/\R9 x=f.2.1/\V9 g (1:Int) 3=f.2.2/\True)/\cY f.1)/\br (wJ (P1 f.1) f.2.1 f.2.2 !=(0:Int)) ((Z.1.s.d.E.length=0/\Z.1.s.d.C.length=0/\false=Z.1.s.d.A/\Z.1.s.d.keep.length=0/\0=Z.1.s.ep/\Z.1.s.L.length=0/\0=Z.1.s.S/\Z.1.s.fr.length=0/\0=Z.1.s.J/\false=Z.1.up/\Z.1.X.length=0/\Z.1.lk.H.length=0/\Z.1.lk.W.length=0/\0=Z.1.N/\True)/\wJ (P1 f.1) f.2.1 f.2.2=Z.2/\True) (∃(x:Eng),(((Q7 e x)/\True)/\g9 x)/\∃(X:(Eng×Int×Int×Rw×Bool)),let p:=(E9 X.1 X.2.1 X.2.2.1 X.2.2.2.1 X.2.2.2.2);(((0=0/\0=0)/\tx=X.2.1/\ta=X.2.2.1/\(r.id=X.2.2.2.1.id/\r.n.k=X.2.2.2.1.n.k/\r.n.n=X.2.2.2.1.n.n/\r.n.t=X.2.2.2.1.n.t/\r.name.k=X.2.2.2.1.name.k/\r.name.n=X.2.2.2.1.name.n/\r.name.t=X.2.2.2.1.name.t/\True)/\false=X.2.2.2.2/\True)/\(LnG (0) (0) x X.1)/\ChQ X.1 X.2.1 X.2.2.1 X.2.2.2.1)/\∃(x:Eng),((LeG p.1.1)/\((nA p.1.1 x)/\True)/\g9 x)/\(LeG x)/\(nA x Z.1)/\p.2=Z.2/\True)):
  V4 prog 7 [.agg e.ts,Ji tx,Ji ta,.agg r.ts] (.tup [.agg Z.1.ts,Ji Z.2]):=
 S1 (gC dO (gC k9 (gC nM (gC mT (gC fY gN))))) func7 Y9 h
theorem c0s:GK 7 c3h:=gk func7<|by
 rintro⟨e,tx,ta,r⟩ ⟨h,t,R,n⟩;dsimp only at h t R n ⊢;obtain⟨k1,f⟩:=tK R;have z:=(oT h (tx:=tx) (gone:=false) t k1.2.2 (f ta)).ei;have d:wJ (P1 e) (R9 r) (V9 ta 1 3)=0:=by rw[h.ok,R,T2.2 t];rfl
 exact c5I e tx ta r ((E9 e tx ta r false).1.1,(E9 e tx ta r false).2) ⟨r,⟨Z8,b8i R⟩,ta,Z8,(e,R9 r,V9 ta 1 3),⟨Z8,b1F h⟩,λq=>absurd d (a8X q),λ_=>⟨e,⟨Z8,h.sm⟩,(e,tx,ta,r,false),⟨Z8,Z8,h,t,k1,f ta,n⟩,(E9 e tx ta r false).1.1,⟨Z8,Z8,z.sm⟩,Z8⟩⟩
def c4J:Con:=.rel ⟨Eng×Int×Int,λx=>[.agg x.1.ts,Ji x.2.1,Ji 1,Ji x.2.2],λx=>.tup [.agg (E9 x.1 x.2.1 1 (zC x.2.2) true).1.1.ts,Ji (E9 x.1 x.2.1 1 (zC x.2.2) true).2],λx=>EI x.1/\(0<=x.2.2/\x.2.2<=1000)/\NoD x.1.lk x.2.1 1 2 x.2.2 4⟩
theorem c4k(e:Eng)(tx id:Int)(Z:Eng×Int)(h:
  ∃(x:Int),((1=x/\True)/\True)/\∃(g:Int),(V9 x (1:Int) 3=true->(id=g/\True)/\True)/\∃(f:(Eng×Bool×Bool)),(((Q7 e f.1)/\true=f.2.1/\(V9 x (1:Int) (3:Int)&&V9 g (0:Int) (1000:Int))=f.2.2/\True)/\cY f.1)/\br (wJ (P1 f.1) f.2.1 f.2.2 !=(0:Int)) ((Z.1.s.d.E.length=0/\Z.1.s.d.C.length=0/\false=Z.1.s.d.A/\Z.1.s.d.keep.length=0/\0=Z.1.s.ep/\Z.1.s.L.length=0/\0=Z.1.s.S/\Z.1.s.fr.length=0/\0=Z.1.s.J/\false=Z.1.up/\Z.1.X.length=0/\Z.1.lk.H.length=0/\Z.1.lk.W.length=0/\0=Z.1.N/\True)/\wJ (P1 f.1) f.2.1 f.2.2=Z.2/\True) (∃(x:Eng),(((Q7 e x)/\True)/\g9 x)/\∃(X:(Eng×Int×Int×Rw×Bool)),let p:=(E9 X.1 X.2.1 X.2.2.1 X.2.2.2.1 X.2.2.2.2);(((0=0/\0=0)/\tx=X.2.1/\1=X.2.2.1/\(id=X.2.2.2.1.id/\0=X.2.2.2.1.n.k/\0=X.2.2.2.1.n.n/\[]=X.2.2.2.1.n.t/\0=X.2.2.2.1.name.k/\0=X.2.2.2.1.name.n/\[]=X.2.2.2.1.name.t/\True)/\true=X.2.2.2.2/\True)/\(LnG (0) (0) x X.1)/\ChQ X.1 X.2.1 X.2.2.1 X.2.2.2.1)/\∃(x:Eng),((LeG p.1.1)/\((nA p.1.1 x)/\True)/\g9 x)/\(LeG x)/\(nA x Z.1)/\p.2=Z.2/\True)):
  V4 prog 11 [.agg e.ts,Ji tx,Ji 1,Ji id] (.tup [.agg Z.1.ts,Ji Z.2]):=
 S1 (gC k9 (gC a15 (gC nM (gC mT (gC fY gN))))) func11 Y9 h
theorem b8l:GK 11 c4J:=gk func11<|by
 rintro⟨e,tx,id⟩ ⟨h,hi,n⟩;dsimp only at h hi n ⊢;have t:(1:Int)<=1/\(1:Int)<=3:=X1
 have z:=(oT h (tx:=tx) (r:=zC id) (gone:=true) t hi (b7p t hi)).ei;have d:wJ (P1 e) true (V9 1 1 3&&V9 id 0 1000)=0:=by rw[h.ok,T2.2 hi];rfl
 exact c4k e tx id ((E9 e tx 1 (zC id) true).1.1,(E9 e tx 1 (zC id) true).2) ⟨1,Z8,id,λ_=>Z8,(e,true,V9 1 1 3&&V9 id 0 1000),⟨Z8,b1F h⟩,λq=>absurd d (a8X q),λ_=>⟨e,⟨Z8,h.sm⟩,(e,tx,1,zC id,true),⟨Z8,Z8,h,t,⟨⟨O3 _,.inl rfl⟩,⟨O3 _,.inl rfl⟩,hi⟩,b7p t hi,n⟩,(E9 e tx 1 (zC id) true).1.1,⟨Z8,Z8,z.sm⟩,Z8⟩⟩
theorem c3J{e:Eng}(h:EI e)(tx:Int){ta:Int}(ht:1<=ta/\ta<=3):EI (j7 e tx ta).1.1:=by
 by_cases h0:(U5 e tx).2=0
 ·obtain⟨hu,k,e1,hk,_⟩:=k7 h0;have E:=x8 h hk (show LokR ta (-1) 3 from⟨ht,X1,X1,.inl X1⟩)
  by_cases d:(X4 e.lk (S6 e k ta (-1) 3)).2=0
  ·rw[b6D h0 e1 d];have f:=a6z h.g 8 (V8 _);exact oK E f.g f.l
  ·rw[b6R h0 e1 d];exact E
 ·rw[c1U h0];exact h
def c5g:Con:=.rel ⟨Eng×Int×Int,λx=>[.agg x.1.ts,Ji x.2.1,Ji x.2.2],λx=>.tup [.agg (j7 x.1 x.2.1 x.2.2).1.1.ts,rwS (j7 x.1 x.2.1 x.2.2).2.1,Ji (j7 x.1 x.2.1 x.2.2).2.2],λx=>EI x.1/\(1<=x.2.2/\x.2.2<=3)/\(X4 x.1.lk ⟨x.2.1,x.2.2,-1,3⟩).2≠14⟩
theorem c4F(e:Eng)(tx ta:Int)(Z:(Eng×Nat)×List Rw×Int)(h:
  ∃(x:Int),((ta=x/\True)/\True)/\∃(f:(Eng×Bool×Bool)),(((Q7 e f.1)/\true=f.2.1/\V9 x (1:Int) 3=f.2.2/\True)/\cY f.1)/\br (wJ (P1 f.1) f.2.1 f.2.2 !=(0:Int)) ((Z.1.1.s.d.E.length=0/\Z.1.1.s.d.C.length=0/\false=Z.1.1.s.d.A/\Z.1.1.s.d.keep.length=0/\0=Z.1.1.s.ep/\Z.1.1.s.L.length=0/\0=Z.1.1.s.S/\Z.1.1.s.fr.length=0/\0=Z.1.1.s.J/\false=Z.1.1.up/\Z.1.1.X.length=0/\Z.1.1.lk.H.length=0/\Z.1.1.lk.W.length=0/\0=Z.1.1.N/\True)/\Z.2.1.length=0/\wJ (P1 f.1) f.2.1 f.2.2=Z.2.2/\True) (∃(x:Eng),(((Q7 e x)/\True)/\g9 x)/\∃(X:(Eng×Int×Int)),let p:=(j7 X.1 X.2.1 X.2.2);(((0=0/\0=0)/\tx=X.2.1/\ta=X.2.2/\True)/\(LnG (0) (0) x X.1)/\EI X.1/\(X4 X.1.lk (Lck.mk X.2.1 X.2.2 (-1:Int) (3:Int))).2≠(14:Int))/\∃(x:Eng),((LeG p.1.1)/\((nA p.1.1 x)/\True)/\g9 x)/\((LeG x)/\Le (0+p.2.1.length) p.2.1.length)/\(nA x Z.1.1)/\(Z2 Q1 p.2.1 Z.2.1)/\p.2.2=Z.2.2/\True)):
  V4 prog 10 [.agg e.ts,Ji tx,Ji ta] (.tup [.agg Z.1.1.ts,rwS Z.2.1,Ji Z.2.2]):=
 S1 (gC k9 (gC nM (gC mT (gC b9d gN)))) func10 Y9 h
theorem c0h:GK 10 c5g:=gk func10<|by
 rintro⟨e,tx,ta⟩ ⟨h,t,n⟩;dsimp only at h t n ⊢;have z:=c3J h tx t;have d:wJ (P1 e) true (V9 ta 1 3)=0:=by rw[h.ok,T2.2 t];rfl
 exact c4F e tx ta (j7 e tx ta) ⟨ta,Z8,(e,true,V9 ta 1 3),⟨Z8,b1F h⟩,λq=>absurd d (a8X q),λ_=>⟨e,⟨Z8,h.sm⟩,(e,tx,ta),⟨Z8,Z8,h,n⟩,(j7 e tx ta).1.1,⟨Z8,Z8,z.sm⟩,Z8⟩⟩
def c5B:Con:=.rel ⟨Eng×Nat×Int×Int×Int,λx=>[.agg x.1.ts,Ji x.2.1,Ji x.2.2.1,Ji x.2.2.2.1,Ji x.2.2.2.2],λx=>.tup [.agg (N7 x.1 x.2.1 x.2.2.1 x.2.2.2.1 x.2.2.2.2).ts,Ji (X4 x.1.lk (S6 x.1 x.2.1 x.2.2.1 x.2.2.2.1 x.2.2.2.2)).2],λx=>EI x.1/\x.2.1<x.1.X.length/\(X4 x.1.lk (S6 x.1 x.2.1 x.2.2.1 x.2.2.2.1 x.2.2.2.2)).2≠14⟩
theorem a9f:GK 139 c5B:=gk func139<|by
 rintro⟨e,k,ta,row,mo⟩ ⟨h,f,n⟩;dsimp only at h f n;obtain⟨B,b2,_⟩:=a0e h;exact S1 (gC a6n gN) func139 Y9 (α:=let p:=(X4 e.lk (S6 e k ta row mo));V7 (k:Int) e.X.length/\∃(x:(Lks×Lck)),let q:=(X4 x.1 x.2);((((Z2 Y7 e.lk.H x.1.H)/\(Z2 Y5 e.lk.W x.1.W)/\True)/\(e.X.getD (k:Int).toNat dz).id=x.2.tx/\ta=x.2.ta/\row=x.2.row/\mo=x.2.mo/\True)/\x.1.H.length<=60/\x.1.W.length<=100)/\br (q.2==14) False (((Z2 Z5 e.s.d.E e.s.d.E)/\(Z2 Y6 e.s.d.C e.s.d.C)/\e.s.d.A=e.s.d.A/\(Z2 Y8 e.s.d.keep e.s.d.keep)/\e.s.ep=e.s.ep/\(Z2 Y0 e.s.L e.s.L)/\e.s.S=e.s.S/\(Z2 V2 e.s.fr e.s.fr)/\e.s.J=e.s.J/\e.up=e.up/\(Z2 V1 e.X e.X)/\(Z2 Y7 q.1.H p.1.H)/\(Z2 Y5 q.1.W p.1.W)/\e.N=e.N/\True)/\q.2=p.2/\True)) ⟨Y3 f,(e.lk,S6 e k ta row mo),⟨Z8,B,b2⟩,λq=>absurd (beq_iff_eq.1 q) n,λ_=>Z8⟩
def c4C:Con:=.rel ⟨Eng×Int×Nat×Int×Rw×Bool,λx=>[.agg x.1.ts,Ji x.2.2.1,Ji x.2.2.2.1,.agg x.2.2.2.2.1.ts,.bool x.2.2.2.2.2],λx=>.tup [.agg (E9 x.1 x.2.1 x.2.2.2.1 x.2.2.2.2.1 x.2.2.2.2.2).1.1.ts,Ji (E9 x.1 x.2.1 x.2.2.2.1 x.2.2.2.2.1 x.2.2.2.2.2).2],λx=>ChQ x.1 x.2.1 x.2.2.2.1 x.2.2.2.2.1/\x.2.2.1<x.1.X.length/\(x.1.X.getD x.2.2.1 dz).id=x.2.1⟩
theorem b4I{e:Eng}(h:EI e){k:Nat}(d:k<e.X.length){g s:Int}{b a:Bz}(v:Nat)(i:0<=g/\g<=7)(f:0<=s/\s<=3)(B:b.length<=30)(A:a.length<=30):uZ e k g s b a=((wG e k g s b a v).1.1,(wG e k g s b a v).2):=by
 unfold uZ;by_cases C:(e.s.L.length:Int)+1+i5 e+1>60
 ·rw[if_pos C,fC C]
 ·rw[if_neg C,if_pos (a1I h d i f B A Z9).2,pX C]
theorem a0t{e:Eng}(h:EI e){k:Nat}(d:k<e.X.length):U5 e (e.X.getD k dz).id=((k:Int),0):=by
 have t:=h.h.at_ d;unfold U5;rw[if_pos h.up,t,if_neg Z9]
theorem c0c:GK 77 c4C:=gk func77<|by
 rintro⟨e,tx,k,ta,r,gone⟩ ⟨⟨h,u,R,B,n1,n2⟩,q,hi⟩;dsimp only at h u R B n1 n2 q hi ⊢;generalize hZ:E9 e tx ta r gone=Z;have Y:=R.2.2;have r1:LokR ta (-1) 2:=⟨u,X1,X1,X1⟩
 have r2:LokR ta r.id 4:=⟨u,Z9,X1,.inr X1⟩
 have z:=a0t h q;rw[hi] at z;have eL:K0 e tx ta 2 r.id 4=sK e k ta 2 r.id 4:=wE (by rw[z]) (by rw[z])
 have F:=yG hi ta (-1) 2;refine S1 (gC a9f (gC a6J (gC kV (gC a03 (gC a6l gN))))) func77 Y9 (α:=∃(x:(Eng×Nat×Int×Int×Int)),let q:=(X4 x.1.lk (S6 x.1 x.2.1 x.2.2.1 x.2.2.2.1 x.2.2.2.2));(((Q7 e x.1)/\(k:Int)=(x.2.1:Int)/\ta=x.2.2.1/\(-1:Int)=x.2.2.2.1/\2=x.2.2.2.2/\True)/\EI x.1/\x.2.1<x.1.X.length/\q.2≠(14:Int))/\br (q.2 !=0) ((Q7 {x.1 with lk:=q.1} Z.1.1)/\q.2=Z.2/\True) (∃(j:(Eng×Nat×Int×Int×Int)),let z:=(X4 j.1.lk (S6 j.1 j.2.1 j.2.2.1 j.2.2.2.1 j.2.2.2.2));(((Q7 {x.1 with lk:=q.1} j.1)/\(k:Int)=(j.2.1:Int)/\ta=j.2.2.1/\r.id=j.2.2.2.1/\4=j.2.2.2.2/\True)/\EI j.1/\j.2.1<j.1.X.length/\z.2≠(14:Int))/\br (z.2 !=0) ((Q7 {j.1 with lk:=z.1} Z.1.1)/\z.2=Z.2/\True) (V7 (k:Int) j.1.X.length/\∃(x:(Eng×Int×Int×Int)),let p:=(oI x.1 x.2.1 x.2.2.1 x.2.2.2);let w:=(Q7 p.val.fst Z.1.1);let u:=p.val.snd;(((Q7 {j.1 with lk:=z.1} x.1)/\(j.1.X.getD (k:Int).toNat dz).id=x.2.1/\ta=x.2.2.1/\r.id=x.2.2.2/\True)/\EI x.1)/\br false False (∃(l:(Int×Rw)),((ta=l.1/\(r.id=l.2.id/\r.n.k=l.2.n.k/\r.n.n=l.2.n.n/\r.n.t=l.2.n.t/\r.name.k=l.2.name.k/\r.name.n=l.2.name.n/\r.name.t=l.2.name.t/\True)/\True)/\RwK l.2/\1<=l.1/\l.1<=3)/\br gone (V7 (0:Int) 4/\bd (u.a<0) (br gone (w/\5=Z.2/\True) (V7 (2:Int) 4/\bd (u.c<0) (w/\12=Z.2/\True) (V7 (2:Int) 4/\V7 (3:Int) 4/\∃(X:(Eng×Nat×Int×Int×Bz×Bz)),let m:=(uZ X.1 X.2.1 X.2.2.1 X.2.2.2.1 X.2.2.2.2.1 X.2.2.2.2.2);(((Q7 p.val.fst X.1)/\(k:Int)=(X.2.1:Int)/\u.c=X.2.2.1/\u.d=X.2.2.2.1/\[]=X.2.2.2.2.1/\[]=X.2.2.2.2.2/\True)/\EI X.1/\X.2.1<X.1.X.length/\(0<=X.2.2.1/\X.2.2.1<=(7:Int))/\(0<=X.2.2.2.1/\X.2.2.2.1<=(3:Int))/\X.2.2.2.2.1.length<=30/\X.2.2.2.2.2.length<=30)/\(Q7 m.1 Z.1.1)/\m.2=Z.2/\True))) (V7 (0:Int) 4/\V7 (1:Int) 4/\∃(X:(Eng×Nat×Nat)),let pb:=(stH X.1 X.2.1 X.2.2);(((Q7 p.val.fst X.1)/\u.a=(X.2.1:Int)/\u.b=(X.2.2:Int)/\True)/\EI X.1/\X.2.1<8/\X.2.2<4)/\br false False (V7 (0:Int) 4/\V7 (1:Int) 4/\∃(i:(Eng×Nat×Int×Int×Bz×Bz)),let v:=i.2.2.2;let g:=(uZ i.1 i.2.1 i.2.2.1 v.1 v.2.1 v.2.2);(((Q7 pb.val.fst i.1)/\(k:Int)=(i.2.1:Int)/\u.a=i.2.2.1/\u.b=v.1/\pb.val.snd=v.2.1/\[]=v.2.2/\True)/\EI i.1/\i.2.1<i.1.X.length/\(0<=i.2.2.1/\i.2.2.1<=(7:Int))/\(0<=v.1/\v.1<=(3:Int))/\v.2.1.length<=30/\v.2.2.length<=30)/\(Q7 g.1 Z.1.1)/\g.2=Z.2/\True))) (V7 (0:Int) 4/\bd (u.a<0) (br gone (w/\5=Z.2/\True) (V7 (2:Int) 4/\bd (u.c<0) (w/\12=Z.2/\True) (V7 (2:Int) 4/\V7 (3:Int) 4/\∃(X:(Eng×Nat×Int×Int×Bz×Bz)),let f:=(uZ X.1 X.2.1 X.2.2.1 X.2.2.2.1 X.2.2.2.2.1 X.2.2.2.2.2);(((Q7 p.val.fst X.1)/\(k:Int)=(X.2.1:Int)/\u.c=X.2.2.1/\u.d=X.2.2.2.1/\[]=X.2.2.2.2.1/\E6 l.1 l.2=X.2.2.2.2.2/\True)/\EI X.1/\X.2.1<X.1.X.length/\(0<=X.2.2.1/\X.2.2.1<=(7:Int))/\(0<=X.2.2.2.1/\X.2.2.2.1<=(3:Int))/\X.2.2.2.2.1.length<=30/\X.2.2.2.2.2.length<=30)/\(Q7 f.1 Z.1.1)/\f.2=Z.2/\True))) (V7 (0:Int) 4/\V7 (1:Int) 4/\∃(X:(Eng×Nat×Nat)),let pc:=(stH X.1 X.2.1 X.2.2);(((Q7 p.val.fst X.1)/\u.a=(X.2.1:Int)/\u.b=(X.2.2:Int)/\True)/\EI X.1/\X.2.1<8/\X.2.2<4)/\br false False (V7 (0:Int) 4/\V7 (1:Int) 4/\∃(i:(Eng×Nat×Int×Int×Bz×Bz)),let y:=i.2.2.2;let pa:=(uZ i.1 i.2.1 i.2.2.1 y.1 y.2.1 y.2.2);(((Q7 pc.val.fst i.1)/\(k:Int)=(i.2.1:Int)/\u.a=i.2.2.1/\u.b=y.1/\pc.val.snd=y.2.1/\E6 l.1 l.2=y.2.2/\True)/\EI i.1/\i.2.1<i.1.X.length/\(0<=i.2.2.1/\i.2.2.1<=(7:Int))/\(0<=y.1/\y.1<=(3:Int))/\y.2.1.length<=30/\y.2.2.length<=30)/\(Q7 pa.1 Z.1.1)/\pa.2=Z.2/\True))))))) ⟨(e,k,ta,-1,2),⟨Z8,h,q,by dsimp only;rw[F];exact n1⟩,λhq=>?_,λhq=>?_⟩
 ·have hq:=tH hq;have e2:sK e k ta 2 r.id 4=(N7 e k ta (-1) 2,(X4 e.lk (S6 e k ta (-1) 2)).2):=if_neg hq;rw[←hZ,kE (by rw[eL,e2];exact hq),eL,e2]
  exact Z8
 have hq:(X4 e.lk (S6 e k ta (-1) 2)).2=0:=vX hq;have E1:=x8 h q r1;have N:(X4 (N7 e k ta (-1) 2).lk (S6 (N7 e k ta (-1) 2) k ta r.id 4)).2≠14:=by
  have hq:=hq;rw[F] at hq;have N:=n2 hq;rw[←F] at N;rw[yG (e:=N7 e k ta (-1) 2) (k:=k) hi];exact N
 have eM:sK e k ta 2 r.id 4=(N7 (N7 e k ta (-1) 2) k ta r.id 4,(X4 (N7 e k ta (-1) 2).lk (S6 (N7 e k ta (-1) 2) k ta r.id 4)).2):=if_pos hq;refine⟨(N7 e k ta (-1) 2,k,ta,r.id,4),⟨Z8,E1,q,N⟩,λhq2=>?_,λhq2=>?_⟩
 ·have hq2:=tH hq2;rw[←hZ,kE (by rw[eL,eM];exact hq2),eL,eM]
  exact Z8
 have hq2:(X4 (N7 e k ta (-1) 2).lk (S6 (N7 e k ta (-1) 2) k ta r.id 4)).2=0:=vX hq2;have U:LkY e tx ta r.id k:=⟨by rw[z],by rw[z],q,hi,by rw[eL,eM,hq2]⟩
 rw[a0w U] at hZ;have C:=x8 E1 (k:=k) q r2;have o:k<(N7 (N7 e k ta (-1) 2) k ta r.id 4).X.length:=q;have I:((N7 e k ta (-1) 2).X.getD ((k:Int)).toNat dz).id=tx:=hi;refine⟨Y3 (show k<(N7 e k ta (-1) 2).X.length from q),(N7 (N7 e k ta (-1) 2) k ta r.id 4,tx,ta,r.id),⟨⟨xR (N7 (N7 e k ta (-1) 2) k ta r.id 4),I,Z8⟩,C⟩,λhf=>(by cases hf),λ_=>⟨(ta,r),⟨Z8,R,u.1,u.2⟩,?_⟩⟩
 generalize N7 (N7 e k ta (-1) 2) k ta r.id 4=e2 at*;dsimp only;obtain⟨Q,O,_,g4⟩:=g8 C.g tx ta r.id 8 (V8 _);rw[(oI e2 tx ta r.id).2];dsimp only;have hS:=oK C Q O;have L:=sI (e:=e2) (A:=(T0 e2 tx ta r.id 8).2.1) Q;generalize T0 e2 tx ta r.id 8=f at*;generalize tD e2 tx ta r.id 8=v at*;have hn:¬f.2.1.a<0->(f.2.1.a.toNat:Int)=f.2.1.a/\(f.2.1.b.toNat:Int)=f.2.1.b/\f.2.1.a.toNat<8/\f.2.1.b.toNat<4/\EI (R5 e2 (m4 e2 f.2.1 f.1).1)/\(0<=f.2.1.a/\f.2.1.a<=7)/\(0<=f.2.1.b/\f.2.1.b<=3)/\(m4 e2 f.2.1 f.1).2.length<=30:=λha=>by
  have hA:=g4.1.resolve_left Z9
  obtain⟨V,s2,W,_⟩:=L hA;exact⟨Z9,Z9,Z9,Z9,oK C V (s2.trans O),Z9,Z9,W⟩
 have J:(stH (R5 e2 f.1) f.2.1.a.toNat f.2.1.b.toNat).1=(R5 e2 (m4 e2 f.2.1 f.1).1,(m4 e2 f.2.1 f.1).2):=(stH (R5 e2 f.1) f.2.1.a.toNat f.2.1.b.toNat).2;have hd:decide (f.2.1.a<0)=false->¬f.2.1.a<0:=s6;have hp:f.2.1.a<0->Z=if gone=true then((R5 e2 f.1,v),5) else if f.2.1.c<0 then((R5 e2 f.1,v),12) else wG (R5 e2 f.1) k f.2.1.c f.2.1.d [] (E6 ta r) v:=λha=>hZ.symm.trans (if_pos ha)
 have hs:¬f.2.1.a<0->Z=wG (R5 e2 (m4 e2 f.2.1 f.1).1) k f.2.1.a f.2.1.b (m4 e2 f.2.1 f.1).2 (if gone=true then[] else E6 ta r) (P4 f.1 f.2.1.a.toNat v):=λha=>hZ.symm.trans (if_neg ha)
 clear hZ;refine⟨λM=>?_,λM=>?_⟩<;>subst M
 ·refine⟨⟨Z9,Z9⟩,λha=>⟨λ_=>?_,λhc=>by cases hc⟩,λha=>?_⟩
  ·rw[hp (E4 ha),if_pos rfl];exact Z8
  ·obtain⟨n1,n2,n4,n5,n6,n7,n8,n9⟩:=hn (hd ha);rw[hs (hd ha),if_pos rfl];refine⟨⟨Z9,Z9⟩,⟨Z9,Z9⟩,(R5 e2 f.1,f.2.1.a.toNat,f.2.1.b.toNat),⟨⟨xR (R5 e2 f.1),n1.symm,n2.symm,Z6⟩,hS,n4,n5⟩,λhf=>(by cases hf),λ_=>?_⟩
   dsimp only;rw[J];refine⟨⟨Z9,Z9⟩,⟨Z9,Z9⟩,(R5 e2 (m4 e2 f.2.1 f.1).1,k,f.2.1.a,f.2.1.b,(m4 e2 f.2.1 f.1).2,[]),⟨Z8,n6,o,n7,n8,n9,O3 _⟩,?_⟩
   dsimp only;rw[b4I n6 o (P4 f.1 f.2.1.a.toNat v) n7 n8 n9 (O3 _)];exact Z8
 ·refine⟨⟨Z9,Z9⟩,λha=>⟨λhc=>(by cases hc),λ_=>⟨⟨Z9,Z9⟩,λhc=>?_,λhc=>?_⟩⟩,λha=>?_⟩
  ·rw[hp (E4 ha),if_neg W8,if_pos (E4 hc)]
   exact Z8
  ·have hc:=s6 hc;have hC:=g4.2.resolve_left Z9
   rw[hp (E4 ha),if_neg W8,if_neg hc]
   refine⟨⟨Z9,Z9⟩,⟨Z9,Z9⟩,(R5 e2 f.1,k,f.2.1.c,f.2.1.d,[],E6 ta r),⟨Z8,hS,o,X0,X0,O3 _,B⟩,?_⟩
   dsimp only;rw[b4I hS o v ⟨hC.1,hC.2.1⟩ hC.2.2 (O3 _) B];exact Z8
  ·obtain⟨n1,n2,n4,n5,n6,n7,n8,n9⟩:=hn (hd ha);rw[hs (hd ha),if_neg W8]
   refine⟨⟨Z9,Z9⟩,⟨Z9,Z9⟩,(R5 e2 f.1,f.2.1.a.toNat,f.2.1.b.toNat),⟨⟨xR (R5 e2 f.1),n1.symm,n2.symm,Z6⟩,hS,n4,n5⟩,λhf=>(by cases hf),λ_=>?_⟩
   dsimp only;rw[J];refine⟨⟨Z9,Z9⟩,⟨Z9,Z9⟩,(R5 e2 (m4 e2 f.2.1 f.1).1,k,f.2.1.a,f.2.1.b,(m4 e2 f.2.1 f.1).2,E6 ta r),⟨Z8,n6,o,n7,n8,n9,B⟩,?_⟩
   dsimp only;rw[b4I n6 o (P4 f.1 f.2.1.a.toNat v) n7 n8 n9 B];exact Z8
def c4h:Con:=.rel ⟨Eng×Int×Int×Rw,λx=>[.agg x.1.ts,Ji x.2.1,Ji x.2.2.1,.agg x.2.2.2.ts],λx=>.tup [.agg (E9 x.1 x.2.1 x.2.2.1 x.2.2.2 false).1.1.ts,Ji (E9 x.1 x.2.1 x.2.2.1 x.2.2.2 false).2],λx=>ChQ x.1 x.2.1 x.2.2.1 x.2.2.2⟩
theorem c5i(e:Eng)(tx ta:Int)(r:Rw)(Z:(Eng×Nat)×Int)(h:
  ∃(x:(Eng×Int)),let q:=(U5 x.1 x.2);(((Q7 e x.1)/\tx=x.2/\True)/\M1 x.1.X.length)/\br (q.2 !=0) ((Q7 e Z.1.1)/\q.2=Z.2/\True) (∃(X:(Eng×Int×Nat×Int×Rw×Bool)),let p:=(E9 X.1 X.2.1 X.2.2.2.1 X.2.2.2.2.1 X.2.2.2.2.2);(((Q7 e X.1)/\q.1=(X.2.2.1:Int)/\ta=X.2.2.2.1/\(r.id=X.2.2.2.2.1.id/\r.n.k=X.2.2.2.2.1.n.k/\r.n.n=X.2.2.2.2.1.n.n/\r.n.t=X.2.2.2.2.1.n.t/\r.name.k=X.2.2.2.2.1.name.k/\r.name.n=X.2.2.2.2.1.name.n/\r.name.t=X.2.2.2.2.1.name.t/\True)/\false=X.2.2.2.2.2/\True)/\ChQ X.1 X.2.1 X.2.2.2.1 X.2.2.2.2.1/\X.2.2.1<X.1.X.length/\(X.1.X.getD X.2.2.1 dz).id=X.2.1)/\(Q7 p.1.1 Z.1.1)/\p.2=Z.2/\True)):
  V4 prog 36 [.agg e.ts,Ji tx,Ji ta,.agg r.ts] (.tup [.agg Z.1.1.ts,Ji Z.2]):=
 S1 (gC sR (gC c0c gN)) func36 Y9 h
theorem a9P:GK 36 c4h:=gk func36<|by
 rintro⟨e,tx,ta,r⟩ ⟨h,t,R,B,n⟩;dsimp only at h t R B n ⊢;have g:=h.h.t10;refine c5i e tx ta r (E9 e tx ta r false) ⟨(e,tx),⟨Z8,qJ⟩,λhq=>?_,λhq=>?_⟩
 ·have hq:=tH hq;rw[kE (by rw[rX hq];exact hq),rX hq]
  exact Z8
 ·obtain⟨u,k,f,d,hi,A⟩:=k7 (vX hq);exact⟨(e,tx,k,ta,r,false),⟨⟨xR _,f,Z8⟩,⟨h,t,R,B,n⟩,d,hi⟩,xR (E9 e tx ta r false).1.1,Z8⟩
def c3Z:Con:=.rel ⟨Eng×Int×Int×Rw,λx=>[.agg x.1.ts,Ji x.2.1,Ji x.2.2.1,.agg x.2.2.2.ts],λx=>.tup [.agg (E9 x.1 x.2.1 x.2.2.1 x.2.2.2 false).1.1.ts,Ji (E9 x.1 x.2.1 x.2.2.1 x.2.2.2 false).2],λx=>EI x.1/\(1<=x.2.2.1/\x.2.2.1<=3)/\R9 x.2.2.2=true/\NoD x.1.lk x.2.1 x.2.2.1 2 x.2.2.2.id 4⟩
theorem c5c(e:Eng)(tx ta:Int)(r:Rw)(Z:Eng×Int)(h:
let p:=(Z.1.s.d.E.length=0/\Z.1.s.d.C.length=0/\false=Z.1.s.d.A/\Z.1.s.d.keep.length=0/\0=Z.1.s.ep/\Z.1.s.L.length=0/\0=Z.1.s.S/\Z.1.s.fr.length=0/\0=Z.1.s.J/\false=Z.1.up/\Z.1.X.length=0/\Z.1.lk.H.length=0/\Z.1.lk.W.length=0/\0=Z.1.N/\True);  ∃(x:yF.ι),(((Q7 e x)/\True)/\cY x)/\∃(X:xI.ι),((!P1 x)=false->((r.id=X.id/\r.n.k=X.n.k/\r.n.n=X.n.n/\r.n.t=X.n.t/\r.name.k=X.name.k/\r.name.n=X.name.n/\r.name.t=X.name.t/\True)/\True)/\RwB X)/\br (!P1 x|| !R9 X) (p/\1=Z.2/\True) (br (!V9 ta (1:Int) (3:Int)) (p/\4=Z.2/\True) (∃(x:(Eng×Int×Int×Rw)),let q:=x.2.2;let z:=(E9 x.1 x.2.1 q.1 q.2 false);(((Q7 e x.1)/\tx=x.2.1/\ta=q.1/\(r.id=q.2.id/\r.n.k=q.2.n.k/\r.n.n=q.2.n.n/\r.n.t=q.2.n.t/\r.name.k=q.2.name.k/\r.name.n=q.2.name.n/\r.name.t=q.2.name.t/\True)/\True)/\ChQ x.1 x.2.1 q.1 q.2)/\∃(f:Eng),(((Q7 z.1.1 f)/\True)/\g9 f)/\(Q7 f Z.1)/\z.2=Z.2/\True))):
  V4 prog 12 [.agg e.ts,Ji tx,Ji ta,.agg r.ts] (.tup [.agg Z.1.ts,Ji Z.2]):=
 S1 (gC a0N (gC lB (gC D0 (gC a9P (gC aL gN))))) func12 Y9 h
theorem c1t:GK 12 c3Z:=gk func12<|by
 rintro⟨e,tx,ta,r⟩ ⟨h,t,R,n⟩;dsimp only at h t R n ⊢;obtain⟨k1,d⟩:=tK R;have z:=(oT h (tx:=tx) (gone:=false) t k1.2.2 (d ta)).ei;have hi:V9 ta 1 3=true:=T2.2 t;exact c5c e tx ta r ((E9 e tx ta r false).1.1,(E9 e tx ta r false).2) ⟨e,⟨Z8,b1F h⟩,r,λ_=>⟨Z8,b8i R⟩,λq=>(by rw[h.ok,R] at q;cases q),λ_=>⟨λq=>(by rw[hi] at q;cases q),λ_=>⟨(e,tx,ta,r),⟨Z8,h,t,k1,d ta,n⟩,(E9 e tx ta r false).1.1,⟨⟨xR (E9 e tx ta r false).1.1,Z6⟩,z.sm⟩,Z8⟩⟩⟩
structure BegG(e f:Eng):Prop where
 ei:EI f
 tx:f.X=e.X++[⟨e.N,(e.s.L.length:Int)+1⟩]
 nx:f.N=e.N+1
 lk:f.lk=e.lk
 lg:f.s.L.length=e.s.L.length+1
 w:vw f.s=vw e.s
 pre:∀a,1<=a->a<=(e.s.L.length:Int)->X8 f.s.L a=X8 e.s.L a
 k1:(X8 f.s.L ((e.s.L.length:Int)+1)).k=1
 p0:(X8 f.s.L ((e.s.L.length:Int)+1)).p=0
theorem b0g{e:Eng}(h:EI e)(t:e.X.length<10)(n:e.N<=60)(hl:(e.s.L.length:Int)+i5 e+2<=60):BegG e (S3 e).1/\(S3 e).2=(e.N,0):=by
 have E:=c3v h;have d:S3 e=(y7 (oX e) e.X.length jN,e.N,0):=by
  unfold S3;rw[if_pos h.up,if_neg Z9,if_pos hl]
 rw[d] at E ⊢;have g:(oX e).X.getD e.X.length dz=⟨e.N,0⟩:=by
  show(e.X++[(⟨e.N,0⟩:Txn)]).getD e.X.length dz=_;rw[R2,List.getElem?_concat_length]
  rfl
 have T:(y7 (oX e) e.X.length jN).X=e.X++[⟨e.N,(e.s.L.length:Int)+1⟩]:=by
  show(e.X++[(⟨e.N,0⟩:Txn)]).set e.X.length ⟨((oX e).X.getD e.X.length dz).id,(e.s.L.length:Int)+1⟩=_;rw[g,List.set_append_right _ _ (V8 _),j_i];rfl
 have Lg:(y7 (oX e) e.X.length jN).s.L=e.s.L++[T1 e.s (M2 (oX e) e.X.length jN)]:=rfl;refine⟨⟨E,T,rfl,rfl,by rw[Lg,K2,List.length_singleton],rfl,λa i f=>by rw[Lg];exact pB _ i f,?_,?_⟩,rfl⟩
 ·rw[Lg,l6];rfl
 ·rw[Lg,l6];show((oX e).X.getD e.X.length dz).Z=0;rw[g]
structure ComG(e f:Eng)(k:Nat):Prop where
 ei:EI f
 tx:f.X=e.X.take k++e.X.drop (k+1)
 nx:f.N=e.N
 lk:f.lk=frK e.lk (e.X.getD k dz).id
 lg:f.s.L.length=e.s.L.length+1
 w:vw f.s=vw e.s
theorem c2a{e:Eng}(h:EI e){k:Nat}(f:k<e.X.length):ComG e (r7 e (e.X.getD k dz).id).1 k/\(r7 e (e.X.getD k dz).id).2=0:=by
 have E:=c4T h (e.X.getD k dz).id;have hR:C8 (T1 e.s (M2 e k a1R)):=h.rcp f X1 X1 (λ_=>rfl) (λ_ _=>Z8) ⟨Int.le_refl _,mO⟩ X1 X1 X1 (λ_=>rfl)
 have g:=h.app f hR;have n:=vZ e k a1R;have d:((e.s.L.length+1:Nat):Int)<=(nZ e k).s.L.length:=by
  show _<=((y7 e k a1R).s.L.length:Int);rw[n];exact Int.le_refl _
 obtain⟨_,i,_⟩:=a5p (l:=((e.s.L.length+1:Nat):Int)) g d;have o:(nC e k).2=true:=i;have j:r7 e (e.X.getD k dz).id=(a24 (jR e k) k,0):=by
  unfold r7;rw[a0t h f];dsimp only;rw[if_pos rfl,G2,if_pos o]
 rw[j] at E ⊢;have hd:((jR e k).X.getD k dz).id=(e.X.getD k dz).id:=by
  show((e.X.set k _).getD k dz).id=_;rw[wV _ k f,if_pos rfl]
 refine⟨⟨E,?_,rfl,?_,?_,?_⟩,rfl⟩
 ·show(e.X.set k _).take k++(e.X.set k _).drop (k+1)=_;rw[a98]
 ·show frK e.lk ((jR e k).X.getD k dz).id=_;rw[hd]
 ·show(W4 (nZ e k).s (e.s.L.length+1:Nat)).1.L.length=_;rw[(vJ _ _).2.2.1];exact n
 ·show vw (W4 (nZ e k).s (e.s.L.length+1:Nat)).1=_;exact c5h g d
theorem a6x{L:List Rec}(hL:m9 L):∀(f:Nat) (a:Int),a<=L.length->und L f a<=a.toNat
 |0,_,_=>O3 _
 |f+1,a,ha=>by
  unfold und;by_cases h:a<=0
  ·rw[if_pos h];exact O3 _
  ·obtain⟨p1,p2,p3,p4⟩:=hL.prev (show 1<=a by omega) ha
   have i:=a6x hL f (X8 L a).n Z9
   have I:=a6x hL f (X8 L a).p Z9
   rw[if_neg h];split
   ·omega
   ·split<;>omega
theorem c1z{L:List Rec}{T:List Txn}(h:m9 L)(hT:∀i,i<T.length->(T.getD i dz).Z<=(L.length:Int)):∀k,k<=T.length->w8 L T k<=k*(1+L.length)
 |0,_=>O3 _
 |k+1,hk=>by
  have I:=c1z h hT k Z9
  have d:=hT k Z9
  have e:=a6x h 61 (T.getD k dz).Z d;unfold w8;rw[Nat.succ_mul];omega
theorem c0v{e:Eng}(h:EI e):i5 e<=e.X.length*(1+e.s.L.length):=c1z h.h.li.1 (λi hi=>(yQ (h.h.ow i hi)).2) _ (V8 _)
theorem pig:∀(l c:List (Nat×Nat)),c.Nodup->l.length<c.length->∃x,x ∈ c/\x ∉ l
 | [],[],_,h=>absurd h (Nat.lt_irrefl _)
 | [],x::c,_,_=>⟨x,List.mem_cons_self,j_h⟩
 |y::l,c,hc,h=>by
  rw[List.length_cons] at h;have hl:=List.length_erase (a:=y) (l:=c);obtain⟨x,d,e⟩:=pig l (c.erase y) (hc.erase y) (by split at hl<;>omega)
  rw[hc.mem_erase_iff] at d;exact⟨x,d.2,by rw[vT,not_or];exact⟨d.1,e⟩⟩
def c8:List (Nat×Nat):=[(0,0),(0,1),(0,2),(0,3),(1,0),(1,1),(1,2),(1,3)]
def Rm(S:Nat->Nat->Bz):Prop:=∃n i,n<8/\i<4/\S n i=[]
theorem c5P{S R:Nat->Nat->Bz}{l:List (Nat×Nat)}(hl:l.length<=7)(h:∀n i,(n,i) ∉ l->S n i=R n i)(hR:∀n i,R n i=[]):Rm S:=by
 obtain⟨⟨n,i⟩,d,M⟩:=pig l c8 X1 (by show l.length<8;omega)
 have:=(by decide:∀x,x ∈ c8->x.1<8/\x.2<4) _ d
 exact⟨n,i,this.1,this.2,by rw[h n i M];exact hR n i⟩
theorem b4n{e:Eng}{tx ta id:Int}{no:Nat}{p:Pg}{A:Plc}(h:0<=A.c):∀n,0<=(w7 e tx ta id no p A n).c
 |0=>h
 |n+1=>by
  have i:=b4n (e:=e) (tx:=tx) (ta:=ta) (id:=id) (no:=no) (p:=p) h n;unfold w7;dsimp only;split
  ·rw[if_neg Z9]
   exact i
  ·split<;>exact i
theorem b3D{e:Eng}{tx ta id:Int}{no:Nat}{p:Pg}{A:Plc}{i:Nat}(h1:p.sl.getD i []=[])(h2:uT e tx no i=false):∀n,i<n->0<=(w7 e tx ta id no p A n).c
 |0,h=>absurd h (J5 _)
 |n+1,h=>by
  unfold w7;dsimp only;by_cases hi:i=n
  ·subst hi;rw[if_pos h1];split
   ·exact Int.natCast_nonneg _
   ·rename_i hc;have:¬ (w7 e tx ta id no p A i).c<0:=λh=>hc ⟨h,h2⟩
    omega
  ·have ih:=b3D (e:=e) (tx:=tx) (ta:=ta) (id:=id) (no:=no) (A:=A) h1 h2 n Z9
   split
   ·rw[if_neg Z9]
    exact ih
   ·split<;>exact ih
theorem c1Z{e:Eng}(h:GInv e.s){tx ta id:Int}{N i0:Nat}(hi:i0<4)(d:vw e.s N i0=[])(h2:uT e tx N i0=false):∀n,n<=8->N<n->0<=(T0 e tx ta id n).2.1.c
 |0,_,h0=>absurd h0 (J5 _)
 |n+1,hn,h0=>by
  obtain⟨g,_,j,_⟩:=g8 h tx ta id n Z9
  obtain⟨_,f⟩:=x1 g (no:=n) Z9
  have hv:=pV h tx ta id n Z9
  unfold T0;rw[if_pos j,if_pos f];dsimp only;by_cases hc:N=n
  ·subst hc;refine b3D (i:=i0) ?_ h2 4 hi
   rw[←hv] at d;rw[sM g Z9]
   unfold vw at d;rw[if_pos Z9] at d
   exact d
  ·exact b4n (c1Z h hi d h2 n Z9 Z9) 4
theorem c6b{e:Eng}{k:Nat}{g s:Int}{b a:Bz}{v:Nat}(h:e.s.L.length+i5 e+2<=60):(wG e k g s b a v).2=0:=by
 rw[pX Z9]
theorem c7J{e:Eng}{s:Sto}(h:s.L=e.s.L):i5 (R5 e s)=i5 e:=by
 unfold i5 R5;dsimp only;rw[h]
theorem c7P(a m:Bz):T7 (a++m) a.length=a/\R0 (a++m) a.length=m/\big (a++m) a.length=false:=by
 have h:big (a++m) a.length=false:=uG (by rw[K2];omega)
 unfold T7 R0;rw[h];refine⟨?_,?_,rfl⟩
 ·rw[if_neg Bool.false_ne_true,G2,List.take_left]
 ·rw[if_neg Bool.false_ne_true,G2,List.drop_left]
theorem c6v{t:Bz}(h:u4 t=true)(m:Bz):b8 (t++0::m)=t.length:=by
 unfold u4 at h;rw[O4,xV,R8] at h;refine N4 (by rw[K2,List.length_cons];omega) ?_ λk hk=>?_
 ·unfold isZ;rw[R2,tG (V8 _),j_i]
  rfl
 ·have hb:=h.1 k hk;unfold pQ a0Y at hb;rw[zF,O4,r8,r8] at hb;unfold isZ;rw[R2,uW hk,←R2]
  exact beq_eq_false_iff_ne.2 Z9
theorem c7f{v:Val}(h:S7 v=true)(m:Bz):K6 (H7 v++m)=(v,m,false)/\H7 v++m≠[]:=by
 obtain⟨k,n,t⟩:=v;have d:=h;unfold S7 at h;unfold H7;dsimp only at h ⊢;by_cases k0:k=0
 ·subst k0;rw[if_pos rfl,O4] at h;have e1:n=0:=beq_iff_eq.1 h.1;have e2:t=[]:=by simpa using h.2
  subst e1 e2;exact⟨rfl,List.cons_ne_nil _ _⟩
 ·rw[if_neg k0] at h ⊢;by_cases k1:k=1
  ·subst k1;rw[if_pos rfl,O4] at h;have e1:=tJ h.1;have e2:t=[]:=by simpa using h.2
   subst e2;rw[if_pos rfl];have N:(n+1000000000).toNat<4294967296:=Z9
   obtain⟨A,e,f⟩:=c7P (F8 (n+1000000000).toNat) m;have hl:((F8 (n+1000000000).toNat).length:Int)=4:=rfl;rw[hl] at A e f;refine⟨?_,List.cons_ne_nil _ _⟩
   have V:(be (F8 (n+1000000000).toNat):Int)-1000000000=n:=by rw[b72 N];omega
   show(if numR (2::(F8 (n+1000000000).toNat++m))-1=1 then _ else _)=_
   rw[if_pos (show numR (2::(F8 (n+1000000000).toNat++m))-1=1 from rfl)]
   show((⟨1,(be (T7 (F8 (n+1000000000).toNat++m) 4):Int)-1000000000,[]⟩:Val),R0 (F8 (n+1000000000).toNat++m) 4,big (F8 (n+1000000000).toNat++m) 4|| !S7 ⟨1,(be (T7 (F8 (n+1000000000).toNat++m) 4):Int)-1000000000,[]⟩)=_;rw[A,e,f,V,d];rfl
  ·rw[if_neg k1,O4,O4] at h;have e0:k=2:=beq_iff_eq.1 h.1.1;have e1:n=0:=beq_iff_eq.1 h.1.2;subst e0 e1;have hi:=c6v h.2 m;rw[if_neg k1];have ea:3::(t++[0])++m=3::(t++0::m):=by simp
   rw[ea];refine⟨?_,List.cons_ne_nil _ _⟩
   show(if numR (3::(t++0::m))-1=1 then _ else if numR (3::(t++0::m))-1=2 then _ else _)=_
   rw[if_neg (show ¬numR (3::(t++0::m))-1=1 by show ¬ (2:Int)=1;decide),if_pos (show numR (3::(t++0::m))-1=2 from rfl)]
   show(if b8 (t++0::m)<0 then _ else((⟨2,0,(t++0::m).take (b8 (t++0::m)).toNat⟩:Val),(t++0::m).drop ((b8 (t++0::m)).toNat+1), !S7 ⟨2,0,(t++0::m).take (b8 (t++0::m)).toNat⟩))=_
   rw[hi,if_neg Z9,G2,List.take_left,d]
   have g:(t++0::m).drop (t.length+1)=m:=by
    have:=List.drop_left (l₁:=t++[0]) (l₂:=m);rw[K2,List.length_singleton,List.append_assoc] at this;exact this
   rw[g];rfl
theorem a9s{v:Val}(h:S7 v=true)(m:Bz){n:Nat}{acc:List Val}(N:(H7 v++m).length<=n):x5 n (H7 v++m) false acc=x5 (n-1) m false (acc++[v]):=by
 obtain⟨a,b⟩:=c7f h m;rw[rR b N,a]
theorem oG(v:Val):1<=(H7 v).length:=by
 unfold H7;split
 ·exact V8 _
 ·split
  ·exact Nat.succ_le_succ (O3 _)
  ·exact Nat.succ_le_succ (O3 _)
theorem a88{ta:Int}{r:Rw}(t:1<=ta/\ta<=3)(R:R9 r=true):zK (E6 ta r)=some (ta,r):=by
 have h:=R;unfold R9 at h;rw[O4,O4,O4,O4] at h;obtain⟨⟨⟨⟨g,d⟩,u⟩,f⟩,x⟩:=h;have hi:=tJ g;have V:S7 ⟨1,ta,[]⟩=true:=by
  unfold S7;dsimp only;rw[if_neg X1,if_pos rfl,T2.2 ⟨Z9,Z9⟩]
  rfl
 have v:S7 ⟨1,r.id,[]⟩=true:=by
  unfold S7;dsimp only;rw[if_neg X1,if_pos rfl,T2.2 ⟨Z9,Z9⟩]
  rfl
 have o:=oG ⟨1,ta,[]⟩;have q:=oG ⟨1,r.id,[]⟩;have i:=oG r.n;have j:=oG r.name;have B:E6 ta r=H7 ⟨1,ta,[]⟩++(H7 ⟨1,r.id,[]⟩++(H7 r.n++(H7 r.name++[]))):=by
  unfold E6;simp
 have e:O6 (E6 ta r)=([⟨1,ta,[]⟩,⟨1,r.id,[]⟩,r.n,r.name],true):=by
  unfold O6;rw[B,a9s V _ (V8 _),a9s v _ a7i,a9s d _ a7i,a9s f _ a7i,tR (.inl rfl)]
  rfl
 unfold zK;rw[e];have l:(j8 [⟨1,ta,[]⟩,⟨1,r.id,[]⟩,r.n,r.name])=(ta,r):=rfl;dsimp only;rw[l];have ep:lX ([⟨1,ta,[]⟩,⟨1,r.id,[]⟩,r.n,r.name],true)=false:=rfl;rw[ep,T2.2 t,R];rfl
def FnP(S:Nat->Nat->Bz)(ta id:Int)(N:Nat->Nat->Prop)(A:Plc):Prop:=
 (A.a<0->∀n i,N n i->u3 (S n i) ta id=false)/\(0<=A.a->u3 (S A.a.toNat A.b.toNat) ta id=true)
theorem c2b{e:Eng}{tx ta id:Int}{no:Nat}{p:Pg}{A:Plc}{S:Nat->Nat->Bz}(hp:∀i,i<4->p.sl.getD i []=S no i)(h:FnP S ta id (λn i=>n<no/\i<4) A):∀k,k<=4->FnP S ta id (λn i=>(n<no/\i<4)∨(n=no/\i<k)) (w7 e tx ta id no p A k)
 |0,_=>⟨λha n i N=>h.1 ha n i (N.resolve_right λc=>Z9),h.2⟩
 |k+1,hk=>by
  obtain⟨o,I⟩:=c2b (e:=e) (tx:=tx) hp h k Z9
  have d:=hp k Z9
  rw[a60];have key:∀B:Plc,B.a=(w7 e tx ta id no p A k).a->B.b=(w7 e tx ta id no p A k).b->(B.a<0->u3 (S no k) ta id=false)->FnP S ta id (λn i=>(n<no/\i<4)∨(n=no/\i<k+1)) B:=λB f g l=>by
   refine⟨λha n i N=>?_,λha=>by rw[f,g];exact I (by rw[←f];exact ha)⟩
   by_cases C:n=no/\i=k
   ·rw[C.1,C.2];exact l ha
   ·exact o (by rw[←f];exact ha) n i Z9
  split
  ·rename_i j;have z:u3 (S no k) ta id=false:=by
    rw[←d,j];exact a14 ta id
   split
   ·exact key _ rfl rfl λ_=>z
   ·exact key _ rfl rfl λ_=>z
  ·split
   ·rename_i hq;refine⟨λha=>absurd ha (by show ¬ ((no:Nat):Int)<0;omega),λ_=>?_⟩
    dsimp only;rw[G2,G2,←d];exact hq.1
   ·rename_i hq;refine key _ rfl rfl λha=>?_
    rw[←d];cases r:u3 (p.sl.getD k []) ta id with
    |false=>rfl
    |true=>exact absurd ⟨r,ha⟩ hq
theorem b7c{e:Eng}(h:GInv e.s)(tx ta id:Int):∀n,n<=8->FnP (vw e.s) ta id (λm i=>m<n/\i<4) (T0 e tx ta id n).2.1
 |0,_=>⟨λ_ n i N=>absurd N.1 (J5 _),λA=>absurd A (by show ¬ (0:Int)<= -1;decide)⟩
 |n+1,N=>by
  obtain⟨g,_,d,_⟩:=g8 h tx ta id n Z9
  obtain⟨_,f⟩:=x1 g (no:=n) Z9
  have I:=b7c h tx ta id n Z9
  have hv:=pV h tx ta id n Z9
  have hp:∀i,i<4->(dE e tx ta id n).sl.getD i []=vw e.s n i:=λi _=>by
   show((Z4 (T0 e tx ta id n).1 n).1.fr.getD (Z4 (T0 e tx ta id n).1 n).2.1 dz).pg.sl.getD i []=_;rw[sM g Z9,←hv]
   unfold vw;rw[if_pos Z9]
  rw[c2r d f];obtain⟨a,b⟩:=c2b (e:=e) (tx:=tx) hp I 4 (V8 _);exact⟨λA m i M=>a A m i Z9,b⟩
def Un(S:Nat->Nat->Bz)(ta id:Int):Prop:=∀n i m j,n<8->i<4->m<8->j<4->u3 (S n i) ta id=true->u3 (S m j) ta id=true->n=m/\i=j
structure ChV(e f:Eng)(ta id:Int)(w:Bz):Prop where
 ex:∃g s:Nat,(g<8/\s<4)/\vw f.s=lQ g s w (vw e.s)/\(u3 (vw e.s g s) ta id=true∨vw e.s g s=[])/\∀n i,n<8->i<4->¬ (n=g/\i=s)->u3 (vw e.s n i) ta id=false
theorem c14{e:Eng}(h:EI e){k:Nat}(i:k<e.X.length){g s:Int}{b a:Bz}{v:Nat}(f:0<=g/\g<=7)(d:0<=s/\s<=3)(B:b.length<=30)(A:a.length<=30):((wG e k g s b a v).2=0->vw (wG e k g s b a v).1.1.s=lQ g.toNat s.toNat a (vw e.s))/\((wG e k g s b a v).2≠0->vw (wG e k g s b a v).1.1.s=vw e.s):=by
 by_cases hc:(e.s.L.length:Int)+1+i5 e+1>60
 ·rw[fC hc];exact⟨λe=>absurd e (by show ¬ (7:Int)=0;decide),λ_=>rfl⟩
 ·rw[pX hc];refine⟨λ_=>?_,λe=>absurd rfl e⟩
  have hR:C8 (T1 e.s (M2 e k (L4 g s b a))):=h.rcp i a4m a4O (λ_=>rfl) (λe _=>absurd rfl e) ⟨Int.le_refl _,mO⟩ f d ⟨B,A⟩ (λe=>dM)
  have n:=vZ e k (L4 g s b a);exact b5B (h.app i hR) ⟨f.1,a9S⟩ ⟨d.1,a9M⟩ ⟨b4K,by show(e.s.L.length:Int)+1<=_;rw[n];exact Int.le_refl _⟩ A
theorem c5T{e:Eng}(h:EI e){k:Nat}(t:k<e.X.length){tx ta:Int}{r:Rw}{gone:Bool}{v:Nat}(B:(E6 ta r).length<=30)(U:Un (vw e.s) ta r.id):
  ((qT e k ta r gone (T0 e tx ta r.id 8) v).2=0->ChV e (qT e k ta r gone (T0 e tx ta r.id 8) v).1.1 ta r.id (if gone=true then[] else E6 ta r))/\((qT e k ta r gone (T0 e tx ta r.id 8) v).2≠0->vw (qT e k ta r gone (T0 e tx ta r.id 8) v).1.1.s=vw e.s):=by
 obtain⟨o,q,M,g4⟩:=g8 h.g tx ta r.id 8 (V8 _);have hv:=pV h.g tx ta r.id 8 (V8 _);have J:=c2E h.g tx ta r.id 8 (V8 _);obtain⟨A,u⟩:=b7c h.g tx ta r.id 8 (V8 _);generalize T0 e tx ta r.id 8=f at*;have E:=oK h o q;unfold qT;split
 ·rename_i ha;split
  ·exact⟨λe=>absurd e (by show ¬ (5:Int)=0;decide),λ_=>hv⟩
  ·rename_i hg;split
   ·exact⟨λe=>absurd e (by show ¬ (12:Int)=0;decide),λ_=>hv⟩
   ·rename_i hc;have hC:=g4.2.resolve_left Z9
    have z:=J Z9
    obtain⟨C,c2⟩:=c14 E t (g:=f.2.1.c) (s:=f.2.1.d) (b:=[]) (a:=E6 ta r) (v:=v) ⟨hC.1,hC.2.1⟩ hC.2.2 (O3 _) B;refine⟨λj=>⟨f.2.1.c.toNat,f.2.1.d.toNat,Z9,?_,.inr z,λn i N hi _=>A ha n i ⟨N,hi⟩⟩,λj=>(c2 j).trans hv⟩
    rw[C j];show lQ _ _ _ (vw f.1)=_;rw[hv]
 ·rename_i ha;have hA:=g4.1.resolve_left Z9
  obtain⟨F,x,I,L,_⟩:=sI (e:=e) o hA;have l:vw (m4 e f.2.1 f.1).1=vw f.1:=eD o Z9
  have E2:=oK h F (x.trans q);have Q:=u Z9
  obtain⟨C,c2⟩:=c14 E2 t (g:=f.2.1.a) (s:=f.2.1.b) (b:=(m4 e f.2.1 f.1).2) (a:=if gone=true then[] else E6 ta r) (v:=P4 f.1 f.2.1.a.toNat v) ⟨hA.1,hA.2.1⟩ hA.2.2 I (by
   split
   ·exact O3 _
   ·exact B)
  refine⟨λj=>⟨f.2.1.a.toNat,f.2.1.b.toNat,Z9,?_,.inl Q,λn i N hi hc=>?_⟩,λj=>(c2 j).trans (l.trans hv)⟩
  ·rw[C j];show lQ _ _ _ (vw (m4 e f.2.1 f.1).1)=_;rw[l,hv]
  ·cases hr:u3 (vw e.s n i) ta r.id with
   |false=>rfl
   |true=>exact absurd (U n i _ _ N hi Z9 Z9 hr Q) hc
theorem c4H{e:Eng}(h:EI e){tx ta:Int}{r:Rw}{gone:Bool}(t:1<=ta/\ta<=3)(hi:0<=r.id/\r.id<=1000)(B:(E6 ta r).length<=30)(u:Un (vw e.s) ta r.id):
  ((E9 e tx ta r gone).2=0->ChV e (E9 e tx ta r gone).1.1 ta r.id (if gone=true then[] else E6 ta r))/\((E9 e tx ta r gone).2≠0->vw (E9 e tx ta r gone).1.1.s=vw e.s):=by
 have R:LokR ta (-1) 2:=⟨t,X1,X1,X1⟩
 have f:LokR ta r.id 4:=⟨t,Z9,X1,.inr X1⟩
 by_cases hq:(K0 e tx ta 2 r.id 4).2=0
 ·obtain⟨k,L⟩:=a2g hq;rw[a0w L];have E2:=x8 (x8 h L.lt R) (k:=k) L.lt f;obtain⟨a,b⟩:=c5T E2 (k:=k) L.lt (tx:=tx) (gone:=gone) (v:=tD (N7 (N7 e k ta (-1) 2) k ta r.id 4) tx ta r.id 8) B u;exact⟨λd=>⟨(a d).ex⟩,b⟩
 ·rw[kE hq];refine⟨λe=>absurd e hq,λ_=>?_⟩
  by_cases d:(U5 e tx).2=0
  ·obtain⟨u,k,g,i,_,A⟩:=k7 d;rw[wE d g];unfold sK;split<;>rfl
  ·rw[rX d]
def b3A(e:Eng)(f:Sto×Plc×Bool)(v:Nat):(Eng×Nat)×Rw×Int:=if f.2.1.a<0 then((R5 e f.1,v),rw0,5) else((R5 e (m4 e f.2.1 f.1).1,P4 f.1 f.2.1.a.toNat v),(I8 (m4 e f.2.1 f.1).2).2.1,0)
def xO(e:Eng)(tx ta id:Int):(Eng×Nat)×Rw×Int:=
 if(K0 e tx ta 1 id 3).2=0 then b3A (K0 e tx ta 1 id 3).1 (T0 (K0 e tx ta 1 id 3).1 tx ta id 8) (tD (K0 e tx ta 1 id 3).1 tx ta id 8) else(((K0 e tx ta 1 id 3).1,0),rw0,(K0 e tx ta 1 id 3).2)
def GtQ(e:Eng)(tx ta id:Int):Prop:=EI e/\(1<=ta/\ta<=3)/\(0<=id/\id<=1000)/\NoD e.lk tx ta 1 id 3
def c2V:Con:=.reff ⟨Eng×Int×Int×Int,λx=>[.ref 0 0 0,Ji x.2.1,Ji x.2.2.1,Ji x.2.2.2],λx=>x.1.bx 0,λx=>.tup [.agg (xO x.1 x.2.1 x.2.2.1 x.2.2.2).2.1.ts,Ji (xO x.1 x.2.1 x.2.2.1 x.2.2.2).2.2],λx=>(xO x.1 x.2.1 x.2.2.1 x.2.2.2).1.1.nx (xO x.1 x.2.1 x.2.2.1 x.2.2.2).1.2,λx=>GtQ x.1 x.2.1 x.2.2.1 x.2.2.2⟩
structure LkG(e:Eng)(tx ta m id n:Int)(k:Nat):Prop where
 up:(U5 e tx).2=0
 kk:(U5 e tx).1=k
 lt:k<e.X.length
 hi:(e.X.getD k dz).id=tx
 l1:(X4 e.lk (S6 e k ta (-1) m)).2=0
 l2:(X4 (N7 e k ta (-1) m).lk (S6 (N7 e k ta (-1) m) k ta id n)).2=0
 eq:K0 e tx ta m id n=(N7 (N7 e k ta (-1) m) k ta id n,0)
theorem a7B{e:Eng}{tx ta m id n:Int}(h:(K0 e tx ta m id n).2=0):∃k,LkG e tx ta m id n k:=by
 by_cases hk0:(U5 e tx).2=0
 ·obtain⟨hu,k,e1,hk,hi,ha⟩:=k7 hk0;rw[wE hk0 e1] at h;unfold sK at h;split at h
  ·rename_i h1;dsimp only at h;refine⟨k,hk0,e1,hk,hi,h1,h,?_⟩
   rw[wE hk0 e1];unfold sK;rw[if_pos h1,h]
  ·rename_i h1;exact absurd h h1
 ·rw[rX hk0] at h;exact absurd h hk0
theorem c2t{e:Eng}{tx ta id:Int}(h:¬ (K0 e tx ta 1 id 3).2=0):xO e tx ta id=(((K0 e tx ta 1 id 3).1,0),rw0,(K0 e tx ta 1 id 3).2):=if_neg h
theorem a8V{e:Eng}{tx ta id:Int}{k:Nat}(h:LkG e tx ta 1 id 3 k):xO e tx ta id=b3A (N7 (N7 e k ta (-1) 1) k ta id 3) (T0 (N7 (N7 e k ta (-1) 1) k ta id 3) tx ta id 8) (tD (N7 (N7 e k ta (-1) 1) k ta id 3) tx ta id 8):=by
 unfold xO;rw[h.eq,if_pos rfl]
theorem b9G:GK 44 c2V:=gk func44<|by
 rintro⟨e,tx,ta,id⟩ ⟨h,j,u,N⟩;dsimp only at h j u N ⊢;generalize hZ:xO e tx ta id=Z;have r:LokR ta (-1) 1:=⟨j,X1,X1,X1⟩
 have R:LokR ta id 3:=⟨j,Z9,X1,.inr X1⟩
 refine r5 (gC bP (gC a9G (gC vY (gC tW gN)))) func44 Y9 a8w (α:=let m:=(0=0/\0=0);let z:=(0=Z.2.1.id/\0=Z.2.1.n.k/\0=Z.2.1.n.n/\[]=Z.2.1.n.t/\0=Z.2.1.name.k/\0=Z.2.1.name.n/\[]=Z.2.1.name.t/\True);∃(x:(Eng×Int×Int×Int×Int×Int)),let v:=x.2.2.2;let q:=(K0 x.1 x.2.1 x.2.2.1 v.1 v.2.1 v.2.2);((m/\tx=x.2.1/\ta=x.2.2.1/\1=v.1/\id=v.2.1/\3=v.2.2/\True)/\(LnG (0) (0) e x.1)/\EI x.1/\LokR x.2.2.1 (-1:Int) v.1/\NoD x.1.lk x.2.1 x.2.2.1 v.1 v.2.1 v.2.2)/\br (q.2 !=0) (((z/\q.2=Z.2.2/\True)/\True)/\NxG (0) (Z.1.2) q.1 Z.1.1) (∃(X:(Eng×Int×Int×Int)),let p:=(w9 X.1 X.2.1 X.2.2.1 X.2.2.2);let j:=p.val.fst;let w:=p.val.snd;((m/\tx=X.2.1/\ta=X.2.2.1/\id=X.2.2.2/\True)/\(LnG (0) (0) q.1 X.1)/\EI X.1)/\br false False (bd (w.a<0) (((z/\5=Z.2.2/\True)/\True)/\NxG (j.snd) (Z.1.2) j.fst Z.1.1) (∃(x:(Sto×Nat×Nat)),let y:=(P4 x.1 x.2.1 x.2.2);let r:=(Z4 x.1 x.2.1);let u:=(r.1.fr.getD r.2.1 dz);let f:=u.pg.sl;((m/\w.a=(x.2.1:Int)/\True)/\(LnS (j.snd) (x.2.2) j.fst.s x.1)/\lG x.1 x.2.1/\r.2.2=true)/\br false False (Lt r.2.1 r.1.fr.length/\V7 w.b f.length/\PfB y y r.2.1 r.1.fr.length w.b.toNat f.length/\Lt (f.getD w.b.toNat []).length 140737488355329/\∃(d:vK.ι),((f.getD w.b.toNat []=d/\True)/\sY d)/\((((I8 d).2.1.id=Z.2.1.id/\(I8 d).2.1.n.k=Z.2.1.n.k/\(I8 d).2.1.n.n=Z.2.1.n.n/\(I8 d).2.1.n.t=Z.2.1.n.t/\(I8 d).2.1.name.k=Z.2.1.name.k/\(I8 d).2.1.name.n=Z.2.1.name.n/\(I8 d).2.1.name.t=Z.2.1.name.t/\True)/\0=Z.2.2/\True)/\True)/\NxG y (Z.1.2) {j.fst with s:=r.1} Z.1.1))))) ⟨(e,tx,ta,1,id,3),⟨Z8,Z8,h,r,N⟩,λq=>?_,λq=>?_⟩
 ·rw[←hZ,c2t (tH q)];exact Z8
 have q:(K0 e tx ta 1 id 3).2=0:=vX q;obtain⟨k,L⟩:=a7B q;rw[a8V L] at hZ;have E2:=x8 (x8 h L.lt r) (k:=k) L.lt R;dsimp only;rw[L.eq];dsimp only;generalize N7 (N7 e k ta (-1) 1) k ta id 3=e2 at*;clear q L h N r R;refine⟨(e2,tx,ta,id),⟨Z8,Z8,E2⟩,λF=>(by cases F),λ_=>?_⟩
 dsimp only;rw[(w9 e2 tx ta id).2];dsimp only;obtain⟨l,I,_,hpl⟩:=g8 E2.g tx ta id 8 (V8 _);generalize T0 e2 tx ta id 8=f at*;generalize tD e2 tx ta id 8=v at*;obtain⟨fs,fp,fl⟩:=f;dsimp only at l I hpl hZ ⊢;refine⟨λha=>?_,λha=>?_⟩
 ·have ha:fp.a<0:=E4 ha;rw[←hZ,show b3A e2 (fs,fp,fl) v=((R5 e2 fs,v),rw0,5) from if_pos ha]
  exact Z8
 ·have hna:¬fp.a<0:=s6 ha;have hpa:=hpl.1.resolve_left Z9
  have o:(rW fp).b=fp.b:=if_neg hna;have A:(rW fp).a=fp.a:=rfl;have W:Z=((R5 e2 (m4 e2 fp fs).1,P4 fs fp.a.toNat v),(I8 (m4 e2 fp fs).2).2.1,0):=hZ.symm.trans (if_neg hna);clear hZ;rw[o,A];obtain⟨M,J,O,C,B,z⟩:=sI (e:=e2) l hpa;refine⟨(fs,fp.a.toNat,v),⟨⟨Z8,X0,Z6⟩,Z8,⟨l.inv,X0⟩,C⟩,λF=>(by cases F),λ_=>?_⟩
  have i:((Z4 fs fp.a.toNat).1.fr.getD (Z4 fs fp.a.toNat).2.1 dz).pg.sl.getD fp.b.toNat []=(m4 e2 fp fs).2:=rfl;dsimp only;rw[i,W];exact⟨B,⟨Z9,by rw[z];omega⟩,⟨rfl,B,by rw[z];omega⟩,H9,(m4 e2 fp fs).2,⟨⟨rfl,Z6⟩,a2A⟩,⟨⟨⟨rfl,rfl,rfl,rfl,rfl,rfl,rfl,Z6⟩,rfl,Z6⟩,Z6⟩,⟨rfl,rfl,⟨rfl,rfl⟩,⟨rfl,rfl⟩,rfl,⟨rfl,rfl⟩,rfl,⟨rfl,rfl⟩,rfl,⟨rfl,rfl⟩,rfl,rfl,⟨rfl,rfl⟩,⟨rfl,rfl⟩,⟨rfl,rfl⟩,rfl,Z6⟩,Z6,Z6,Z6,Z6,Z6,Z6,Z6,Z6,⟨rfl,W2 _ _⟩,⟨rfl,W2 _ _⟩,⟨rfl,W2 _ _⟩,⟨rfl,W2 _ _⟩,⟨rfl,rfl,gV _⟩,⟨rfl,W2 _ _⟩,⟨rfl,W2 _ _⟩,⟨rfl,W2 _ _⟩,Z6⟩
def rrN(s:Sto)(ta:Int):Nat->List Rw
 |0=>[]
 |n+1=>k4 (wB s n).sl ta (rrN s ta n) 4
def rrH(e:Eng)(ta:Int):{y:Eng×List Rw//y=(R5 e (tA e.s 8),rrN e.s ta 8)}:=Classical.choice ⟨⟨_,rfl⟩⟩
def c0b:Con:=.rel ⟨Eng×Int,λx=>[.agg x.1.ts,Ji x.2],λx=>.tup [.agg (rrH x.1 x.2).1.1.ts,rwS (rrH x.1 x.2).1.2,.bool true],λx=>EI x.1⟩
def b8R(ta:Int)(F:Nat->Eng)(X:Nat->Nat)(R:Nat->List Rw)(I:Nat->Nat->List Rw)(W:Nat->Nat->Rw):Nat->Ann
 |0=>.one {n:Nat//n<=8} (λx=>⟨[(1,Ji ta),(2,.ref 0 0 0),(4,.ref 1 0 0),(7,.osl 2 0 (R x.1).length),(8,Ji x.1)],[G9 (F x.1),G9 y5,rwA (R x.1)]⟩) (λx=>8-x.1) [.box 0,.box 1,.at_ 7] [.box 0,.box 1,.at_ 7] (λx=>fun
  |1=>.one (Up 4) (λy=>⟨[(1,Ji ta),(2,.ref 0 0 0),(4,.ref 1 0 0),(7,.osl 2 0 (I x.1 y.1).length),(8,Ji x.1),(9,.ref 3 0 0),(10,Ji (X x.1)),(12,Ji y.1)],[G9 (F (x.1+1)),G9 y5,rwA (I x.1 y.1),uN (F (x.1+1)).s]⟩) (λy=>4-y.1) [.box 0,.box 1,.at_ 7,.box 3] [.box 0,.box 1,.at_ 7,.box 3] (λy=>fun
   |2=>.one {j:Nat//j<=(I x.1 y.1).length/\∀k,k<j->sZ (I x.1 y.1) (W x.1 y.1).id k=false} (λz=>⟨[(1,Ji ta),(2,.ref 0 0 0),(4,.ref 1 0 0),(7,.osl 2 0 (I x.1 y.1).length),(8,Ji x.1),(9,.ref 3 0 0),(10,Ji (X x.1)),(12,Ji y.1),(14,.ref 4 0 0),(16,Ji z.1)],[G9 (F (x.1+1)),G9 y5,rwA (I x.1 y.1),uN (F (x.1+1)).s,b4R (W x.1 y.1)]⟩) (λz=>(I x.1 y.1).length-z.1) c2z c2z (λ_=>Y9)
   |_=>.none)
  |_=>.none)
 |_=>.none
theorem c0i(e:Eng)(ta:Int)(F:Nat->Eng)(X:Nat->Nat)(R:Nat->List Rw)(I:Nat->Nat->List Rw)(W:Nat->Nat->Rw)(h:
  (∃(x:{n:Nat//n<=8}),(ta=ta/\(0=0/\0=0)/\(0=0/\0=0)/\(0=0/\0=(R x.1).length)/\0=(x.1:Int)/\True)/\(oo (Q7 e (F x.1)))/\(oo (0=0/\0=0/\false=false/\0=0/\(0:Int)=0/\0=0/\(0:Int)=0/\0=0/\(0:Int)=0/\false=false/\0=0/\0=0/\0=0/\(0:Int)=0/\True))/\(0=(R x.1).length/\Z7 0 (tk 7 []) (Q1 (R x.1)))/\True)/\∀(x:{n:Nat//n<=8}),bd ((x.1:Int)<8) (∃(g:(Sto×Nat)),(((o6 (F x.1).s g.1)/\(x.1:Int)=(g.2:Int)/\True)/\lG g.1 g.2)/\br (!(Z4 g.1 g.2).2.2) (Le (0+(R x.1).length) (R x.1).length/\(Q7 {(F x.1) with s:=(Z4 g.1 g.2).1} (F 8))/\(Z2 Q1 (R x.1) (R 8))/\false=true/\True) ((∃(d:Up 4),(ta=ta/\(0=0/\0=0)/\(0=0/\0=0)/\(0=0/\(R x.1).length=(I x.1 d.val).length)/\(x.1:Int)=(x.1:Int)/\(0=0/\0=0)/\(↑(Z4 g.1 g.2).2.1:Int)=(↑(X x.1):Int)/\0=(d.val:Int)/\True)/\(oo (Q7 {(F x.1) with s:=(Z4 g.1 g.2).1} (F (x.1+1))))/\(oo (Q7 y5 y5))/\(Z2 Q1 (R x.1) (I x.1 d.val))/\(oo (o6 (Z4 g.1 g.2).1 (F (x.1+1)).s))/\True)/\∀(d:Up 4),bd ((d.val:Int)<4) (V7 (↑(X x.1):Int) (F (x.1+1)).s.fr.length/\V7 (d.val:Int) ((F (x.1+1)).s.fr.getD (↑(X x.1):Int).toNat dz).pg.sl.length/\∃(l:(Bz)),((((F (x.1+1)).s.fr.getD (↑(X x.1):Int).toNat dz).pg.sl.getD (d.val:Int).toNat []=l/\True)/\sY l)/\br (!(xQ l).2.2||(xQ l).1 !=ta) (Ri ((d.val:Int)+1)/\∃(y:Up 4),((ta=ta/\(0=0/\0=0)/\(0=0/\0=0)/\(0=0/\(I x.1 d.val).length=(I x.1 y.1).length)/\(x.1:Int)=(x.1:Int)/\(0=0/\0=0)/\(↑(X x.1):Int)=(↑(X x.1):Int)/\(d.val:Int)+1=(y.1:Int)/\True)/\(oo (Q7 (F (x.1+1)) (F (x.1+1))))/\(oo (Q7 y5 y5))/\(Z2 Q1 (I x.1 d.val) (I x.1 y.1))/\(oo (o6 (F (x.1+1)).s (F (x.1+1)).s))/\True)/\Lt (4-y.1) (4-d.val)) ((∃(f:{j:Nat//j<=(I x.1 d.val).length/\∀(k:Nat),k<j->sZ (I x.1 d.val) (W x.1 d.val).id k=false}),(ta=ta/\(0=0/\0=0)/\(0=0/\0=0)/\(0=0/\(I x.1 d.val).length=(I x.1 d.val).length)/\(x.1:Int)=(x.1:Int)/\(0=0/\0=0)/\(↑(X x.1):Int)=(↑(X x.1):Int)/\(d.val:Int)=(d.val:Int)/\(0=0/\0=0)/\0=(f.val:Int)/\True)/\(oo (Q7 (F (x.1+1)) (F (x.1+1))))/\(oo (Q7 y5 y5))/\(Z2 Q1 (I x.1 d.val) (I x.1 d.val))/\(oo (o6 (F (x.1+1)).s (F (x.1+1)).s))/\(oo ((xQ l).2.1.id=(W x.1 d.val).id/\(xQ l).2.1.n.k=(W x.1 d.val).n.k/\(xQ l).2.1.n.n=(W x.1 d.val).n.n/\(xQ l).2.1.n.t=(W x.1 d.val).n.t/\(xQ l).2.1.name.k=(W x.1 d.val).name.k/\(xQ l).2.1.name.n=(W x.1 d.val).name.n/\(xQ l).2.1.name.t=(W x.1 d.val).name.t/\True))/\True)/\∀(f:{j:Nat//j<=(I x.1 d.val).length/\∀(k:Nat),k<j->sZ (I x.1 d.val) (W x.1 d.val).id k=false}),(decide ((f.val:Int)<(↑(I x.1 d.val).length:Int))=true->V7 (f.val:Int) (I x.1 d.val).length)/\(decide ((f.val:Int)<(↑(I x.1 d.val).length:Int))=true->Lt (0+(f.val:Int).toNat) (I x.1 d.val).length)/\br (decide ((f.val:Int)<(↑(I x.1 d.val).length:Int))&&decide (((I x.1 d.val).getD (0+(f.val:Int).toNat) dz).id<(W x.1 d.val).id)) (Ri ((f.val:Int)+1)/\∃(y:{j:Nat//j<=(I x.1 d.val).length/\∀(k:Nat),k<j->sZ (I x.1 d.val) (W x.1 d.val).id k=false}),((ta=ta/\(0=0/\0=0)/\(0=0/\0=0)/\(0=0/\(I x.1 d.val).length=(I x.1 d.val).length)/\(x.1:Int)=(x.1:Int)/\(0=0/\0=0)/\(↑(X x.1):Int)=(↑(X x.1):Int)/\(d.val:Int)=(d.val:Int)/\(0=0/\0=0)/\(f.val:Int)+1=(y.1:Int)/\True)/\(oo (Q7 (F (x.1+1)) (F (x.1+1))))/\(oo (Q7 y5 y5))/\(Z2 Q1 (I x.1 d.val) (I x.1 d.val))/\(oo (o6 (F (x.1+1)).s (F (x.1+1)).s))/\(oo ((W x.1 d.val).id=(W x.1 d.val).id/\(W x.1 d.val).n.k=(W x.1 d.val).n.k/\(W x.1 d.val).n.n=(W x.1 d.val).n.n/\(W x.1 d.val).n.t=(W x.1 d.val).n.t/\(W x.1 d.val).name.k=(W x.1 d.val).name.k/\(W x.1 d.val).name.n=(W x.1 d.val).name.n/\(W x.1 d.val).name.t=(W x.1 d.val).name.t/\True))/\True)/\Lt ((I x.1 d.val).length-y.1) ((I x.1 d.val).length-f.val)) (jH (f.val:Int) (I x.1 d.val).length/\(Le (0+(f.val:Int).toNat) (I x.1 d.val).length/\Le 0 0/\U9 0 (f.val:Int).toNat 72)/\(Le (0+(f.val:Int).toNat) (0+(f.val:Int).toNat)/\U9 (0+(f.val:Int).toNat) 1 72)/\jH (f.val:Int) (I x.1 d.val).length/\(Le (0+(f.val:Int).toNat+((I x.1 d.val).length- (f.val:Int).toNat)) (I x.1 d.val).length/\Le (0+(f.val:Int).toNat+1) (0+(f.val:Int).toNat+1)/\U9 (0+(f.val:Int).toNat+1) ((I x.1 d.val).length- (f.val:Int).toNat) 72)/\Ri ((d.val:Int)+1)/\∃(y:Up 4),((ta=ta/\(0=0/\0=0)/\(0=0/\0=0)/\(0=0/\0+(f.val:Int).toNat+1+((I x.1 d.val).length- (f.val:Int).toNat)=(I x.1 y.1).length)/\(x.1:Int)=(x.1:Int)/\(0=0/\0=0)/\(↑(X x.1):Int)=(↑(X x.1):Int)/\(d.val:Int)+1=(y.1:Int)/\True)/\(oo (Q7 (F (x.1+1)) (F (x.1+1))))/\(oo (Q7 y5 y5))/\(0+(f.val:Int).toNat+1+((I x.1 d.val).length- (f.val:Int).toNat)=(I x.1 y.1).length/\Z7 (0+(f.val:Int).toNat+1+((I x.1 d.val).length- (f.val:Int).toNat)) (X7 (X7 (X7 (tk 7 []) 0 (Q1 (I x.1 d.val))) (0+(f.val:Int).toNat) (tk 7 [Ji (W x.1 d.val).id,Ji (W x.1 d.val).n.k,Ji (W x.1 d.val).n.n,T.str (W x.1 d.val).n.t,Ji (W x.1 d.val).name.k,Ji (W x.1 d.val).name.n,T.str (W x.1 d.val).name.t])) (0+(f.val:Int).toNat+1) (match(motive:=Nat->Nat->List T) 0+(f.val:Int).toNat with|0=>Q1 (I x.1 d.val)|off=>λ(i:Nat)=>[Ji ((I x.1 d.val).getD (off+i) dz).id,Ji ((I x.1 d.val).getD (off+i) dz).n.k,Ji ((I x.1 d.val).getD (off+i) dz).n.n,T.str ((I x.1 d.val).getD (off+i) dz).n.t,Ji ((I x.1 d.val).getD (off+i) dz).name.k,Ji ((I x.1 d.val).getD (off+i) dz).name.n,T.str ((I x.1 d.val).getD (off+i) dz).name.t])) (Q1 (I x.1 y.1)))/\(oo (o6 (F (x.1+1)).s (F (x.1+1)).s))/\True)/\Lt (4-y.1) (4-d.val)))) (Ri ((x.1:Int)+1)/\∃(y:{n:Nat//n<=8}),((ta=ta/\(0=0/\0=0)/\(0=0/\0=0)/\(0=0/\(I x.1 d.val).length=(R y.1).length)/\(x.1:Int)+1=(y.1:Int)/\True)/\(oo (Q7 (F (x.1+1)) (F y.1)))/\(oo (Q7 y5 y5))/\(Z2 Q1 (I x.1 d.val) (R y.1))/\True)/\Lt (8-y.1) (8-x.1)))) (Le (0+(R x.1).length) (R x.1).length/\(Q7 (F x.1) (F 8))/\(Z2 Q1 (R x.1) (R 8))/\true=true/\True)):
  V4 prog 158 [.agg e.ts,Ji ta] (.tup [.agg (F 8).ts,rwS (R 8),.bool true]):=
 S1 (gC wX (gC gG (gC a8z gN))) func158 (b8R ta F X R I W) h
theorem c1V{s:Sto}(h:GInv s){n:Nat}(N:n<8):∀m,m<=8->wB (tA s m) n=wB s n
 |0,_=>rfl
 |m+1,hm=>(a0M (a6z h m Z9).g Z9 N).trans (c1V h N m Z9)
theorem a93(s:Sto)(ta:Int):∀n,(rrN s ta n).length<=4*n
 |0=>V8 _
 |n+1=>by
  have:=a93 s ta n;have:=oU (wB s n).sl ta (rrN s ta n) 4;unfold rrN;omega
theorem b4X:GK 158 c0b:=gk func158<|by
 rintro⟨e,ta⟩ (h:EI e);show V4 _ _ _ (.tup [.agg (rrH e ta).1.1.ts,rwS (rrH e ta).1.2,.bool true]);rw[(rrH e ta).2];dsimp only;have hF:=a6z h.g;refine c0i e ta (λn=>R5 e (tA e.s n)) (λn=>(Z4 (tA e.s n) n).2.1) (rrN e.s ta) (λn i=>k4 (wB e.s n).sl ta (rrN e.s ta n) i) (λn i=>((zK ((wB e.s n).sl.getD i [])).getD dz).2) ⟨⟨⟨0,O3 _⟩,Z8,Z8,Z8,⟨rfl,λi hi=>absurd hi (J5 _)⟩,Z6⟩,λx=>?_⟩
 obtain⟨n,N⟩:=x;dsimp only at N ⊢;refine⟨λhx=>?_,λhx=>?_⟩
 ·have hlt:n<8:=by have:=E4 hx;omega
  obtain⟨g,_,v⟩:=hF n N;have u:=(x1 g hlt).2;obtain⟨F,_,_,o,ps⟩:=lP g.inv hlt u;have B:((R5 e (tA e.s (n+1))).s.fr.getD (Z4 (tA e.s n) n).2.1 dz).pg=wB e.s n:=(sM g hlt).trans (c1V h.g hlt n N);have o:(wB e.s n).sl.length=4:=by rw[←B];exact o
  have ps:∀i,i<4->((wB e.s n).sl.getD i []).length<=30:=λi hi=>by
   have:=ps i (by show i<((R5 e (tA e.s (n+1))).s.fr.getD (Z4 (tA e.s n) n).2.1 dz).pg.sl.length;rw[B,o];exact hi)
   rw[←B];exact this
  have A:=a93 e.s ta n;refine⟨(tA e.s n,n),⟨Z8,g.inv,hlt⟩,λhq=>?_,λ_=>⟨⟨⟨0,O3 _⟩,Z8,Z8,Z8,Z8,⟨rfl,rfl,jO (Z4 (tA e.s n) n).1⟩,Z6⟩,λy=>?_⟩⟩
  ·have hq:(!(Z4 (tA e.s n) n).2.2)=true:=hq;rw[u] at hq;cases hq
  obtain⟨i,hi⟩:=y;dsimp only at hi ⊢;refine⟨λhy=>?_,λhy=>?_⟩
  ·have hi4:i<4:=by have:=E4 hy;omega
   have q:((R5 e (tA e.s (n+1))).s.fr.getD (((Z4 (tA e.s n) n).2.1:Nat):Int).toNat dz).pg=wB e.s n:=B;rw[q,G2];have hd:=ps i hi4;obtain⟨q1,q2⟩:=a0L ((wB e.s n).sl.getD i []);have t:=oU (wB e.s n).sl ta (rrN e.s ta n) i;refine⟨Y3 F,Y3 (by rw[o];exact hi4),(wB e.s n).sl.getD i [],⟨Z8,a2A⟩,λhq=>?_,λhq=>?_⟩
   ·have f:k4 (wB e.s n).sl ta (rrN e.s ta n) (i+1)=k4 (wB e.s n).sl ta (rrN e.s ta n) i:=by
     show eO ta (k4 (wB e.s n).sl ta (rrN e.s ta n) i) ((wB e.s n).sl.getD i [])=_;unfold eO;cases hr:zK ((wB e.s n).sl.getD i []) with
     |none=>rfl
     |some x=>
      have:=q2 x hr;rw[this] at hq;simp only[Bool.not_true,Bool.false_or,bne_iff_ne,ne_eq] at hq;show(if x.1=ta then _ else _)=_
      rw[if_neg hq]
    exact⟨Z3 Z9,⟨i+1,Z9⟩,⟨⟨rfl,Z8,Z8,⟨rfl,by dsimp only;rw[f]⟩,rfl,⟨rfl,rfl⟩,rfl,X0,Z6⟩,⟨rfl,rfl,xR _⟩,⟨rfl,rfl,xR y5⟩,by dsimp only;rw[f];exact Z8,Z8⟩,D9⟩
   ·simp only[zV,zF,bne_eq_false_iff_eq] at hq;obtain⟨g1,g2⟩:=hq;rw[q1] at g1;obtain⟨x,hr⟩:=Option.isSome_iff_exists.1 g1;have hx:=q2 x hr;have eI:((zK ((wB e.s n).sl.getD i [])).getD dz).2=x.2:=by rw[hr];rfl
    have f:k4 (wB e.s n).sl ta (rrN e.s ta n) (i+1)=b0X (k4 (wB e.s n).sl ta (rrN e.s ta n) i) x.2:=by
     show eO ta (k4 (wB e.s n).sl ta (rrN e.s ta n) i) ((wB e.s n).sl.getD i [])=_;unfold eO;rw[hr];show(if x.1=ta then _ else _)=_
     rw[if_pos (by rw[←g2,hx])]
    rw[hx,eI];generalize L:k4 (wB e.s n).sl ta (rrN e.s ta n) i=LL at*;generalize x.2=RI at*;refine⟨⟨⟨0,O3 _,λk hk=>Z9⟩,Z8⟩,λz=>?_⟩
    obtain⟨m,r,Z⟩:=z;dsimp only at r Z ⊢;rw[G2,C9];refine⟨λhc=>Y3 (Y1 hc),λhc=>Y1 hc,λhc=>?_,λhc=>?_⟩
    ·simp only[O4,r8] at hc;refine⟨Z3 Z9,⟨m+1,Z9,λk hk=>?_⟩,⟨⟨rfl,Z8,Z8,Z8,rfl,Z8,rfl,rfl,Z8,X0,Z6⟩,Z8⟩,D9⟩
     by_cases M:k=m
     ·rw[M];unfold sZ;rw[qK hc.2];rfl
     ·exact Z k Z9
    ·have j:b6j LL RI.id=m:=by
      refine b8q r Z λhlt=>?_
      unfold sZ;have:(decide ((m:Int)<(LL.length:Int))&&decide ((LL.getD m dz).id<RI.id))=false:=hc;rw[qK Z9,Bool.true_and] at this
      rw[this];rfl
     have d:b0X LL RI=LL.take m++[RI]++LL.drop m:=by unfold b0X;rw[j]
     have l:(b0X LL RI).length=m+1+(LL.length-m):=by rw[d];simp;omega
     have rows:=b7B LL RI r;rw[C9] at rows;refine⟨⟨Z9,Z9⟩,⟨L6,V8 _,R1⟩,⟨V8 _,R1⟩,⟨Z9,Z9⟩,⟨L6,V8 _,R1⟩,Z3 Z9,⟨i+1,Z9⟩,⟨⟨rfl,Z8,Z8,⟨rfl,by dsimp only;rw[f,l]⟩,rfl,⟨rfl,rfl⟩,rfl,X0,Z6⟩,⟨rfl,rfl,xR _⟩,⟨rfl,rfl,xR y5⟩,⟨by dsimp only;rw[f,l],by dsimp only;rw[f,d];exact rows⟩,Z8⟩,D9⟩
  ·obtain rfl:i=4:=by have:=s6 hy;omega
   exact⟨Z3 Z9,⟨n+1,hlt⟩,⟨⟨rfl,Z8,Z8,Z8,X0,Z6⟩,Z8⟩,D9⟩
 ·obtain rfl:n=8:=by have:=s6 hx;omega
  exact⟨L6,Z8⟩
end
end Go.Proofs.YtlbmgnomkjmafaaGreat
