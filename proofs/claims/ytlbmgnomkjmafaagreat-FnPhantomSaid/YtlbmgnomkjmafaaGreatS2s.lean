/- A part of the proof. -/
import Derived.Test.YtlbmgnomkjmafaaGreatD0
import Derived.Shelf.SlSortCmp.NoneTotal
import Derived.Test.YtlbmgnomkjmafaaGreatP12
import Derived.Test.YtlbmgnomkjmafaaGreatV1e
import Derived.Test.YtlbmgnomkjmafaaGreatN8
namespace Go.Proofs.YtlbmgnomkjmafaaGreat
open Go.SS Go.Shelf Go.Proofs.Tryz
noncomputable section
def a27:Go.Shelf.Ren:=⟨λ|6=>129|15=>206|14=>205|28=>254|29=>255|20=>246|21=>247|22=>248|23=>249|24=>250|25=>251|26=>252|27=>253|46=>275|47=>276|48=>277|49=>278|50=>279|57=>283|n=>n,λ|22=>50|24=>47|25=>173|3=>3|39=>237|0=>0|53=>212|55=>282|4=>4|46=>274|45=>273|50=>278|5=>5|9=>9|66=>303|70=>307|76=>310|77=>68|n=>n,λ|n=>n⟩
theorem a9f:Go.Proofs.SlLaysF0.n6 prog a27:={
 mixed:=P9
 f6:=⟨Tryz.f129.name,W6,func129.trans (congrArg some P9)⟩
 f14:=⟨Tryz.f205.name,W6,func205.trans (congrArg some P9)⟩
 f15:=func206.trans (congrArg some P9)
 f20:=⟨Tryz.f246.name,W6,func246.trans (congrArg some P9)⟩
 f21:=⟨Tryz.f247.name,W6,func247.trans (congrArg some P9)⟩
 f22:=⟨Tryz.f248.name,W6,func248.trans (congrArg some P9)⟩
 f23:=⟨Tryz.f249.name,W6,func249.trans (congrArg some P9)⟩
 f24:=⟨Tryz.f250.name,W6,func250.trans (congrArg some P9)⟩
 f25:=⟨Tryz.f251.name,W6,func251.trans (congrArg some P9)⟩
 f26:=⟨Tryz.f252.name,W6,func252.trans (congrArg some P9)⟩
 f27:=⟨Tryz.f253.name,W6,func253.trans (congrArg some P9)⟩
 f28:=func254.trans (congrArg some P9)
 f29:=func255.trans (congrArg some P9)
 f46:=⟨Tryz.f275.name,W6,func275.trans (congrArg some P9)⟩
 f47:=func276.trans (congrArg some P9)
 f48:=func277.trans (congrArg some P9)
 f49:=⟨Tryz.f278.name,W6,func278.trans (congrArg some P9)⟩
 f50:=⟨Tryz.f279.name,W6,func279.trans (congrArg some P9)⟩
 f57:=⟨Tryz.f283.name,W6,func283.trans (congrArg some P9)⟩
 t0:=Tryz.underlying0
 a0:=Tryz.isAgg0
 z0:=Tryz.sizeOf0
 v0:=Tryz.zeroValue0
 t3:=Tryz.underlying3
 a3:=Tryz.isAgg3
 z3:=Tryz.sizeOf3
 v3:=Tryz.zeroValue3
 t4:=Tryz.underlying4
 a4:=Tryz.isAgg4
 z4:=Tryz.sizeOf4
 v4:=Tryz.zeroValue4
 t5:=Tryz.underlying5
 a5:=Tryz.isAgg5
 z5:=Tryz.sizeOf5
 v5:=Tryz.zeroValue5
 t9:=Tryz.underlying9
 a9:=Tryz.isAgg9
 z9:=Tryz.sizeOf9
 v9:=Tryz.zeroValue9
 t22:=Tryz.underlying50
 a22:=Tryz.isAgg50
 z22:=Tryz.sizeOf50
 v22:=Tryz.zeroValue50
 t25:=Tryz.underlying173
 a25:=Tryz.isAgg173
 z25:=Tryz.sizeOf173
 v25:=Tryz.zeroValue173
 t39:=Tryz.underlying237
 a39:=Tryz.isAgg237
 z39:=Tryz.sizeOf237
 v39:=Tryz.zeroValue237
 t45:=Tryz.underlying273
 a45:=Tryz.isAgg273
 z45:=Tryz.sizeOf273
 v45:=Tryz.zeroValue273
 t46:=Tryz.underlying274
 a46:=Tryz.isAgg274
 z46:=Tryz.sizeOf274
 v46:=Tryz.zeroValue274
 t50:=Tryz.underlying278
 a50:=Tryz.isAgg278
 z50:=Tryz.sizeOf278
 v50:=Tryz.zeroValue278
 t53:=Tryz.underlying212
 a53:=Tryz.isAgg212
 z53:=Tryz.sizeOf212
 v53:=Tryz.zeroValue212
 t55:=Tryz.underlying282
 a55:=Tryz.isAgg282
 z55:=Tryz.sizeOf282
 v55:=Tryz.zeroValue282
 t66:=Tryz.underlying303
 a66:=Tryz.isAgg303
 z66:=Tryz.sizeOf303
 v66:=Tryz.zeroValue303
 t70:=Tryz.underlying307
 a70:=Tryz.isAgg307
 z70:=Tryz.sizeOf307
 v70:=Tryz.zeroValue307
 t76:=Tryz.underlying310
 a76:=Tryz.isAgg310
 z76:=Tryz.sizeOf310
 v76:=Tryz.zeroValue310
 t77:=Tryz.underlying68
 a77:=Tryz.isAgg68
 z77:=Tryz.sizeOf68
 v77:=Tryz.zeroValue68}
open Go.SS Go.RowKit Go.Proofs.Tryz
def b1a(a b:Int):Int:=if a<b then-1 else if a>b then 1 else 0
theorem c50(x:Int)(W:World):Calls prog 256 #[.int .i64 x] W λe w'=>e= .returned (.bool false)/\w'=W:=by
 go_enter func256,Tryz.ntmps256
 go_wp2
 go_ret
 exact⟨X3,rfl⟩
theorem c44(a b:Int)(W:World):Calls prog 207 #[.int .i64 a,.int .i64 b] W λe w'=>e= .returned (.int .i64 (b1a a b))/\w'=W:=by
 have hc:=λx=>c50 x W
 go_enter func207,Tryz.ntmps207
 go_wp2_with (go_at_call 256;refine(hc _).mono ?_;rintro e w' ⟨rfl,rfl⟩)
 all_goals go_ret
 all_goals refine⟨?_,rfl⟩
 all_goals unfold b1a
 ·rw[if_pos (by assumption)]
  rfl
 ·rw[if_neg Z9,if_pos Z9]
  rfl
 ·rw[if_neg Z9,if_neg Z9]
  rfl
def b3T(L:List Rw):Prop:=∀a b,a ∈ L->b ∈ L->a.id=b.id->a=b
def leI(a b:Rw):Bool:=decide (a.id<=b.id)
def wQ(L:List Rw):List Rw:=L.mergeSort leI
theorem b38{L M:List Rw}(hd:b3T L)(h:M.Pairwise λa b=>¬b.id<a.id)(hp:M.Perm L):M=wQ L:=by
 have e:=List.pairwise_mergeSort (le:=leI) (λa b c p q=>mN (Int.le_trans (D4 p) (D4 q))) (λa b=>by
  unfold leI;rw[qR,i5,i5];exact Int.le_total _ _) L
 have d:(wQ L).Perm L:=List.mergeSort_perm L leI;refine List.Perm.eq_of_pairwise (le:=λa b=>¬b.id<a.id) (λa b A B f g=>hd a b (hp.mem_iff.1 A) (d.mem_iff.1 B) Z9) h (e.imp λ{a b} p=>?_) (hp.trans d.symm)
 have:a.id<=b.id:=D4 p;omega
def tvT:T->Value
 | .int k n=>.int k n
 | .str l=>.string ⟨l.toArray⟩
 |_=>.bool false
def b8q:T->Bool
 | .int _ _=>true
 | .str _=>true
 |_=>false
theorem c45{E:Env}{w:World}{t:T}(h:b8q t=true):Rd E w t (tvT t):=by
 cases t<;>first|(cases h;done)|exact .int _ _|exact .str _
theorem c6o{E:Env}{w:World}{t:T}{v:Value}(h:b8q t=true)(r:Rd E w t v):v=tvT t:=by
 cases t<;>first|(cases h;done)|exact J8 r|exact yO r
theorem c4v{t:T}:(tvT t).oneCell'=true:=by cases t<;>rfl
theorem b6Z{t:T}(h:b8q t=true):J1 t=true/\W9 t=true:=by cases t<;>first|(cases h;done)|exact Z8
def wP(r:Rw):List Value:=r.ts.map tvT
theorem a91(r:Rw):∀t,t ∈ r.ts->b8q t=true:=by
 intro t h;unfold Rw.ts at h;simp only[xX,j_i,or_false] at h;rcases h with rfl|rfl|rfl|rfl|rfl|rfl|rfl<;>rfl
theorem b4S(r:Rw):(wP r).length=7:=rfl
theorem b8f{r:Rw}{j:Nat}{t:T}(h:r.ts[j]? =some t):(wP r)[j]? =some (tvT t):=by
 unfold wP;rw[pH,h]
 rfl
def a5T(a b:Rw):Int:=b1a a.id b.id
theorem a0Y{a b:Rw}:ltOf a5T a b=true↔a.id<b.id:=by
 unfold ltOf a5T b1a;rw[i5];split
 ·omega
 ·split<;>omega
theorem fW{a b:Rw}:ltOf a5T a b=false↔¬a.id<b.id:=by
 rw[←a0Y,Bool.not_eq_true]
theorem c6T:Go.Sort.SWO (ltOf a5T) where
 irrefl x:=fW.2 (Int.lt_irrefl _)
 trans x y z h1 h2:=a0Y.2 (Int.lt_trans (a0Y.1 h1) (a0Y.1 h2))
 ntrans x y z h1 h2:=fW.2 λh=>by
  have:=fW.1 h1;have:=fW.1 h2;omega
theorem c1Z(x y:Rw)(W:World):Calls prog 130 #[.agg (x.ts.map tvT).toArray,.agg (y.ts.map tvT).toArray] W λe w'=>e= .returned (.int .i64 (b1a x.id y.id))/\∃q os',w'=Go.Sort.grow (W.drewN q) os':=by
 have hcon:=λW'=>c44 x.id y.id W'
 unfold Rw.ts;simp only[List.map_cons,List.map_nil,tvT];generalize b1a x.id y.id=r at hcon ⊢
 go_enter func130,Tryz.ntmps130
 go_wp2_with (go_at_call 207;refine(hcon _).mono ?_;rintro e w' ⟨rfl,rfl⟩)
 go_ret
 exact⟨rfl,0,_,by rw[Go.Sort.alloc_eq_grow,Go.Sort.alloc_eq_grow,Go.Sort.grow_grow];rfl⟩
theorem b3s{w:World}{blk off size:Nat}:Go.Proofs.CmpLays prog 130 #[] wP 7 a5T blk off size w:=λ_ _ _ _ x y=>c1Z x y _
theorem b8i{α:Type}[Inhabited α]{d e:Array α}(h:Go.Sort.PermIn 0 d.size d e):e.toList.Perm d.toList:=by
 obtain⟨i,_,f⟩:=h;have g:d.extract 0 d.size=d:=X3
 have j:e.extract 0 d.size=e:=by rw[←i];simp
 rw[g,j] at f;exact f
theorem c3t{L:List Rw}{d:Array Rw}(hd:b3T L)(hp:Go.Sort.PermIn 0 L.toArray.size L.toArray d)(e:Go.Sort.SortedIn (ltOf a5T) 0 L.toArray.size d):d.toList=wQ L:=by
 have z:d.size=L.length:=by rw[hp.1];simp
 refine b38 hd ?_ (b8i hp)
 rw[List.pairwise_iff_getElem];intro i j hi h J;have hi:i<d.size:=aZ
 have h:j<d.size:=D3
 have:=e i j (N7 _) J I0
 rw[getElem!_pos d j h,getElem!_pos d i hi] at this;exact fW.1 this
def b1t(L:List Rw):Option Ob:=some (.arr true 47 7 L.length (G9 L))
def c0i:Con:=.reff ⟨List Rw,λx=>[.osl 0 0 x.length,.v (.func (.func 130) #[] #[])],λx=>[b1t x],λ_=>.tup [],λx=>[b1t (wQ x)],λx=>x.length<=1048576/\b3T x⟩
theorem a8H{L:List Rw}{i j:Nat}{t:T}(hi:i<L.length)(h:(G9 L i)[j]? =some t)(J:j<7):(Go.Sort.flatK wP 7 L.toArray)[i*7+j]! =tvT t:=by
 rw[Go.Sort.get_flatK _ _ _ _ I0,show(i*7+j)/7=i by omega,show(i*7+j) % 7=j by omega]
 have e:L.toArray[i]! =L.getD i dz:=by
  rw[getElem!_pos _ i aZ,Q2,J5 hi]
  simp
 rw[e];have:=b8f (r:=L.getD i dz) h;rw[List.getElem!_eq_getElem?_getD,this]
 rfl
theorem b3L:GK 129 c0i:=gk func129<|by
 rintro(L:List Rw) ⟨hL,hD⟩;dsimp only at hL hD ⊢;intro E w vs hH hN A;have I:Inv ⟨w,XB E [b1t L],E.N,0,E,0⟩ E [b1t L] w:=⟨hH,hN,λb B=>.inl B,λk ob b hk B=>.inr ⟨k,ob,hk,B⟩,⟨rfl,rfl,rfl,U9 _,λ_ _ _=>rfl⟩,⟨λ_ h=>h,λ_ h=>absurd h (J9 _),λ_ _=>rfl,λ_ _ h=>absurd h (J9 _)⟩⟩
 obtain⟨x,y,rfl⟩:∃x y,vs= #[x,y]:=by
  have:vs.size=2:=A.1.symm;refine⟨vs[0],vs[1],?_⟩
  apply Array.ext
  ·simpa using this
  ·intro i h1 h2
   match i with
   |0=>rfl
   |1=>rfl
   |n+2=>omega
 have hx:=A.2 0 _ x rfl rfl;have hy:=A.2 1 _ y rfl rfl;obtain⟨ag,ad,af⟩:=hH.live 0 _ rfl;obtain⟨a1,a2,a3,a4,a5,cs,ty,a6,O,a8⟩:T3 E w 0 ⟨true,47,7,L.length,G9 L⟩:=ad;dsimp only at a1 a2 a3 a4 a5 a6 O a8;obtain rfl:y= .func (.func 130) #[] #[]:=by
  cases hy;rfl
 obtain⟨a,rfl,aa⟩:∃a,x= .slice a L.length (E.κ 0-0)/\(E.κ 0≠0->a=some ⟨E.β 0,0,none⟩):=by
  cases hx with
  |osl k off n o a hL hn ho A=>
   have:=ho (.inr rfl);rw[Nat.zero_mul] at this;subst this;exact⟨a,rfl,A⟩
 have rt:Rd E w (.tup []) (.tuple #[]):=.tup [] #[] rfl (λi t x h=>J4)
 by_cases g:E.κ 0=0
 ·have hn0:L.length=0:=by omega
  obtain rfl:L=[]:=List.length_eq_zero_iff.1 hn0;refine(Go.Proofs.AnyF.slices_SortFunc_none a9f a (E.κ 0-0) _ w).mono λe w' hh=>?_
  obtain⟨rfl,rfl⟩:=hh;have e0:wQ []=[]:=by unfold wQ;simp
  rw[e0];exact⟨_,E,rfl,I,(Step.refl E w').stp,rt⟩
 ·have d:=a6 g;obtain rfl:=aa g;have C:E.β 0<w.heap.size:=by
   rw[dH] at d
   exact d.1
  have ah:=O.le;have l:∀i j t,i<L.length->(G9 L i)[j]? =some t->cs[i*7+j]? =some (tvT t):=λi j t hi J=>by
   obtain⟨u,hu,hr⟩:=a8 i j t hi J;rw[hu,c6o (a91 _ t (A6 J)) hr]
  have r:Go.Sort.HoldsK wP 7 w (E.β 0) 0 L.toArray:=λq hq=>by
   rw[Go.Sort.size_flatK,List.size_toArray] at hq;have J:q % 7<7:=Nat.mod_lt _ W6
   have hi:q/7<L.length:=Z9
   have ae:(G9 L (q/7)).length=7:=a3 (q/7) hi;obtain⟨t,z⟩:∃t,(G9 L (q/7))[q % 7]? =some t:=⟨_,J5 Z9⟩
   have e:q/7*7+q % 7=q:=Z9
   have hc:=l _ _ _ hi z;have hf:=a8H hi z J;rw[e] at hc hf;rw[hf];refine⟨?_,?_⟩
   ·unfold World.cell?;dsimp only;rw[d,E5];exact hc
   ·unfold World.frozen?;dsimp only;rw[d];simp
  have eg:∀args w,(callFunc 130 args).run prog w= .ok (.enter 130 args) w:=enters_of func130 P9 rfl
  refine(Go.Proofs.AnyQ.slices_SortFunc a9f 7 Tryz.isAgg47 Tryz.sizeOf47 wP b4S (λx v hv=>by
   unfold wP at hv;obtain⟨t,_,rfl⟩:=List.mem_map.1 hv;exact c4v) a5T c6T 130 #[] (E.β 0) 0 (E.κ 0-0) L.toArray w eg b3s r C I0).mono λe w' hh=>?_
  obtain⟨rfl,R,m,os,hp,hs,rfl⟩:=hh;have Q:=c3t hD hp hs;have Y:R.size=L.length:=by rw[hp.1];simp
  obtain⟨M,rfl⟩:∃M:List Rw,R=M.toArray:=⟨R.toList,X3⟩
  have Q:M=wQ L:=by simpa using Q
  have ab:M.length=L.length:=a3Y
  rw[←Q];have hW:(Go.Proofs.sortWorldK wP 7 w (E.β 0) 0 m M.toArray os).heap[E.β 0]? =some (.cells (Go.Sort.putCells id 0 (Go.Sort.flatK wP 7 M.toArray) cs) ty (0,0)):=by
   unfold Go.Proofs.sortWorldK Go.Sort.grow Go.Sort.putRowK Go.Sort.putRow Go.Sort.mapBlock Go.Sort.ahead;dsimp only;rw[Array.getElem?_append_left (by simpa using C),Array.getElem?_modify,if_pos rfl,d]
   rfl
  have f:∀q,(Go.Sort.putCells id 0 (Go.Sort.flatK wP 7 M.toArray) cs)[q]? =(cs[q]?).map λx=>if q<L.length*7 then(Go.Sort.flatK wP 7 M.toArray)[q]! else x:=λq=>by
   unfold Go.Sort.putCells;rw[Array.getElem?_mapIdx,Go.Sort.size_flatK,List.size_toArray,ab]
   congr 1
   funext x
   simp
  have F:∀b,b<w.heap.size->b≠E.β 0->(Go.Proofs.sortWorldK wP 7 w (E.β 0) 0 m M.toArray os).heap[b]? =w.heap[b]? :=λb B hn=>by
   unfold Go.Proofs.sortWorldK Go.Sort.grow Go.Sort.putRowK Go.Sort.putRow Go.Sort.mapBlock Go.Sort.ahead;dsimp only;rw[Array.getElem?_append_left (by simpa using B),Array.getElem?_modify,if_neg (λh=>hn h.symm)]
  have Z:w.heap.size<=(Go.Proofs.sortWorldK wP 7 w (E.β 0) 0 m M.toArray os).heap.size:=by
   unfold Go.Proofs.sortWorldK Go.Sort.grow Go.Sort.putRowK Go.Sort.putRow Go.Sort.mapBlock Go.Sort.ahead;dsimp only;rw[Array.size_append,Array.size_modify];omega
  have ac:w.drawn<=(Go.Proofs.sortWorldK wP 7 w (E.β 0) 0 m M.toArray os).drawn:=Nat.le_add_right _ _;have h1:(Go.Proofs.sortWorldK wP 7 w (E.β 0) 0 m M.toArray os).os=w.os:=rfl;have h2:(Go.Proofs.sortWorldK wP 7 w (E.β 0) 0 m M.toArray os).tape=w.tape:=rfl;have h3:(Go.Proofs.sortWorldK wP 7 w (E.β 0) 0 m M.toArray os).output=w.output:=rfl;generalize Go.Proofs.sortWorldK wP 7 w (E.β 0) 0 m M.toArray os=W at hW F Z ac h1 h2 h3 ⊢;have U:(Go.Sort.putCells id 0 (Go.Sort.flatK wP 7 M.toArray) cs).size=cs.size:=by
   unfold Go.Sort.putCells;rw[Array.size_mapIdx]
  obtain⟨hI,X⟩:=I.write (w':=W) (k:=0) rfl rfl h1 h2 h3 Z F g (.arr true 47 7 M.length (G9 M)) _ ty hW a1.symm (by
    rw[a1];exact O.keep U λq hq=>by
     rw[f];cases cs[q]? with
     |none=>rfl
     |some v=>rw[o7,if_neg Z9]) (by show M.length<=_;omega) (λi hi=>rfl) (λi t hi z=>(b6Z (a91 _ t z)).1) (λ_ i t hi z=>(b6Z (a91 _ t z)).2) (λi j t hi J=>by
    have hi:i<M.length:=hi;have V:j<7:=(x7.1 J).1
    refine⟨tvT t,?_,c45 (a91 _ t (A6 J))⟩
    show(Go.Sort.putCells id 0 (Go.Sort.flatK wP 7 M.toArray) cs)[i*7+j]? =_;rw[f,vM (show i*7+j<cs.size by omega),o7,if_pos Z9,a8H hi J V])
  exact⟨_,E,rfl,hI,X.stp,.tup [] #[] rfl (λi t x h=>J4)⟩
open Go.SS Go.Proofs.Tryz
def hsR(L:List Rw)(id:Int)(i:Nat):Bool:=(L.getD i dz).id==id
def rcS(ta:Int)(L:List Rw)(t:Bz):List Rw:=match lD t with
 |some x=>if(decide (x.1=ta)&& !anyI L.length (hsR L x.2.id))=true then L++[x.2] else L
 |none=>L
def rcI(f:Nat->Bz)(ta:Int)(L:List Rw):Nat->List Rw
 |0=>L
 |i+1=>rcS ta (rcI f ta L i) (f i)
def rcV(S:Nat->Nat->Bz)(ta:Int):Nat->List Rw
 |0=>[]
 |n+1=>rcI (S n) ta (rcV S ta n) 4
def cT(s:Sto):Nat->Sto
 |0=>s
 |n+1=>(Z4 (cT s n) n).1
def ftV(s:Sto):Nat->Nat
 |0=>0
 |n+1=>O5 (cT s n) n (ftV s n)
def fpV(s:Sto)(n:Nat):Pg:=((Z4 s n).1.fr.getD (Z4 s n).2.1 dz).pg
structure FtP(s t:Sto):Prop where
 g:GInv t
 l:t.L=s.L
 v:vw t=vw s
theorem b8y{s:Sto}(h:GInv s):∀n,n<=8->FtP s (cT s n)
 |0,_=>⟨h,Eq.refl _,Eq.refl _⟩
 |n+1,hn=>by
  obtain⟨g,l,v⟩:=b8y h n Z9
  have f:=(o4 g (no:=n) Z9).1
  exact⟨f.g,f.L.1.trans l,(a7J g Z9).trans v⟩
theorem c6c{L:List Rw}{id:Int}(h:anyI L.length (hsR L id)=false):∀a,a ∈ L->a.id≠id:=λa A e=>by
 obtain⟨i,hi,rfl⟩:=List.getElem_of_mem A;have:anyI L.length (hsR L id)=true:=S8.2 ⟨i,hi,by
  unfold hsR;rw[Q2,J5 hi]
  exact beq_iff_eq.2 e⟩
 rw[h] at this;cases this
structure RcP(L:List Rw)(n:Nat):Prop where
 d:b3T L
 l:L.length<=n
theorem c6C{ta:Int}{L:List Rw}{n:Nat}(h:RcP L n)(t:Bz):RcP (rcS ta L t) (n+1):=by
 obtain⟨d,l⟩:=h;unfold rcS;split
 ·rename_i x _;split
  ·rename_i hc;rw[M1,xO] at hc;have:=c6c hc.2;refine⟨λa b ha hb e=>?_,by rw[J3,List.length_singleton];omega⟩
   rw[List.mem_append,List.mem_singleton] at ha hb;rcases ha with ha|ha<;>rcases hb with hb|hb
   ·exact d a b ha hb e
   ·subst hb;exact absurd e (this a ha)
   ·subst ha;exact absurd e.symm (this b hb)
   ·rw[ha,hb]
  ·exact⟨d,Z9⟩
 ·exact⟨d,Z9⟩
theorem c2b{f:Nat->Bz}{ta:Int}{L:List Rw}{n:Nat}(h:RcP L n):∀i,RcP (rcI f ta L i) (n+i)
 |0=>h
 |i+1=>c6C (c2b h i) _
theorem c3j(S:Nat->Nat->Bz)(ta:Int):∀n,RcP (rcV S ta n) (4*n)
 |0=>⟨λa b h=>J4,U9 _⟩
 |n+1=>c2b (c3j S ta n) 4
def G5(e:Eng)(tx ta:Int):(Eng×Nat)×List Rw×Int:=
 if(P7 e tx).2=0 then
  (if(X1 e.lk (P1 e (P7 e tx).1.toNat ta (-1) 3)).2=0 then((O4 (D7 e (P7 e tx).1.toNat ta (-1) 3) (cT e.s 8),ftV e.s 8),wQ (rcV (vw e.s) ta 8),0)
  else((D7 e (P7 e tx).1.toNat ta (-1) 3,0),[],(X1 e.lk (P1 e (P7 e tx).1.toNat ta (-1) 3)).2))
 else((e,0),[],(P7 e tx).2)
set_option maxRecDepth 100000
def Eng.sx(e:Eng)(v:Nat):Y5:=[b6p 1,jA (e.tn 2 3 4 5 6 7 8 9),w9 e.s.d.E,B7 e.s.d.C,z6 e.s.d.keep,zG e.s.L,vU v e.s.fr e.s.fr.length,qD e.X,uG e.lk.H,qU e.lk.W]
def Eng.sy(e:Eng)(v:Nat):Y5:=[b6p 1,jA (e.tn 10 11 12 13 14 15 16 17),none,none,none,none,none,none,none,none,w9 e.s.d.E,B7 e.s.d.C,z6 e.s.d.keep,zG e.s.L,vU v e.s.fr e.s.fr.length,qD e.X,uG e.lk.H,qU e.lk.W]
def b9V:Con:=.reff ⟨Eng×Nat×Nat,λx=>[Ji x.2.1,.ref 0 0 0],λx=>x.1.sx x.2.2,λx=>.tup [.agg [Ji (fpV x.1.s x.2.1).Q,.posl 14 (O5 x.1.s x.2.1 x.2.2) (Z4 x.1.s x.2.1).2.1 2 4],.bool true],λx=>(O4 x.1 (Z4 x.1.s x.2.1).1).sy (O5 x.1.s x.2.1 x.2.2),λx=>GInv x.1.s/\x.2.1<8⟩
theorem b5A:GK 69 b9V:=gk func69<|by
 rintro⟨e,no,v⟩ ⟨h,o⟩;dsimp only at h o ⊢;have u:=(o4 h o).2;obtain⟨f,_,_,g,_⟩:=gF h.inv o u;exact w3 (gC sM gN) func69 Y7 [[.box 0,.box 1,.arr 2,.arr 3,.arr 4,.arr 5,.arr 6,.arr 7,.arr 8,.arr 9,.cel 1 0,.cel 1 1,.cel 1 3,.cel 1 5,.cel 1 7,.cel 1 10,.cel 1 11,.cel 1 12]] (α:=let y:=(oo ((0=0/\0=0)/\True));let z:=(Z4 e.s no);let j:=z.1.d;∃(x:(Sto×Nat×Nat)),let r:=(Z4 x.1 x.2.1);let w:=r.1.d;let u:=r.1.fr;let k:=(u.getD r.2.1 dz);let q:=((Z2 Z5 w.E j.E)/\(Z2 Y8 w.C j.C)/\(Z2 Y9 w.keep j.keep)/\(Z2 Y0 r.1.L z.1.L)/\(O5 x.1 x.2.1 x.2.2=O5 e.s no v/\u.length=z.1.fr.length/\V3 u.length (Z1 u) (Z1 z.1.fr))/\(Z2 W8 e.X e.X)/\(Z2 Y6 e.lk.H e.lk.H)/\(Z2 Y4 e.lk.W e.lk.W)/\True);let p:=(oo ((0=0/\w.E.length=j.E.length)/\(0=0/\w.C.length=j.C.length)/\w.A=j.A/\(0=0/\w.keep.length=j.keep.length)/\r.1.ep=z.1.ep/\(0=0/\r.1.L.length=z.1.L.length)/\r.1.S=z.1.S/\(0=0/\u.length=z.1.fr.length)/\r.1.J=z.1.J/\e.up=e.up/\(0=0/\e.X.length=e.X.length)/\(0=0/\e.lk.H.length=e.lk.H.length)/\(0=0/\e.lk.W.length=e.lk.W.length)/\e.N=e.N/\True));(((0=0/\0=0)/\(no:Int)=(x.2.1:Int)/\True)/\(LnS (v) (x.2.2) e.s x.1)/\fD x.1 x.2.1/\r.2.2=true)/\br false ((((0=(fpV e.s no).Q/\L6 (v6 [some 0,some 1,some 2,some 3,some 4,some 5,some 6,some 7,some 8,some 9,some 2,some (11+(8+1-9)),some (11+(9+1-9)),some 5,some (11+(9+1+1-9)),some 7,some 8,some 9]) (T.v (Value.slice none 0 0)) (T.posl 14 (O5 e.s no v) z.2.1 2 4)/\True)/\false=true/\True)/\True)/\y/\p/\T8 q) (Lt r.2.1 u.length/\(((k.pg.Q=(fpV e.s no).Q/\(O5 x.1 x.2.1 x.2.2=O5 e.s no v/\r.2.1=z.2.1/\2=2/\k.pg.sl.length=4)/\True)/\true=true/\True)/\True)/\y/\p/\T8 q)) ⟨(e.s,no,v),⟨Z8,Z8,⟨h.inv,o⟩,u⟩,λF=>(by cases F),λ_=>⟨f,⟨⟨⟨rfl,⟨rfl,rfl,rfl,g⟩,Z6⟩,Z8⟩,Z6⟩,Z8⟩⟩
def c55:Con:=.rel ⟨Rw×Rw,λx=>[.agg x.1.ts,.bref x.2.ts],λx=>.bool (x.1.id==x.2.id),λ_=>True⟩
theorem c5c(a r:Rw)(h:
  (a.id==r.id)=(a.id==r.id)):
  V2 prog 128 [.agg a.ts,.bref r.ts] (.bool (a.id==r.id)):=
 S2 gN func128 Y7 h
theorem c25:GK 128 c55:=gk func128<|λx _=>c5c x.1 x.2 rfl
def idF(r:Rw):T:=.fn (.func 128) [.bref r.ts]
def c0q:Con:=.rel ⟨List Rw×Rw,λx=>[rwS x.1,idF x.2],λx=>Ji (S9 x.1.length (hsR x.1 x.2.id)),λx=>N6 x.1.length⟩
def c0v(L:List Rw)(r:Rw):Nat->Ann
 |0=>.one (V0 L.length (hsR L r.id)) (λx=>⟨[(0,rwS L),(1,idF r),(7,Ji L.length),(8,Ji x.1)],[]⟩) (λx=>L.length-x.1) [] [] (λ_=>Y7)
 |_=>.none
theorem c0A(L:List Rw)(r:Rw)(h:
let z:=(L.length:Int);let p:=(T.bref [Ji r.id,Ji r.n.k,Ji r.n.n,T.str r.n.t,Ji r.name.k,Ji r.name.n,T.str r.name.t]);  (∃(x:V0 L.length (hsR L r.id)),((Z2 G9 L L)/\(Fn.func 128=Fn.func 128/\L6 (λ(x:Nat)=>none) (T.bref [Ji r.id,Ji r.n.k,Ji r.n.n,T.str r.n.t,Ji r.name.k,Ji r.name.n, T.str r.name.t]) p/\True)/\z=z/\0=(x.1:Int)/\True)/\True)/\∀(x:V0 L.length (hsR L r.id)),let u:=(x.1:Int);let q:=(L.getD u.toNat dz);bd (u<z) (V6 u L.length/\∃(X:(Rw×Rw)),(((q.id=X.1.id/\q.n.k=X.1.n.k/\q.n.n=X.1.n.n/\q.n.t=X.1.n.t/\q.name.k=X.1.name.k/\q.name.n=X.1.name.n/\q.name.t=X.1.name.t/\True)/\(r.id=X.2.id/\r.n.k=X.2.n.k/\r.n.n=X.2.n.n/\r.n.t=X.2.n.t/\r.name.k=X.2.name.k/\r.name.n=X.2.name.n/\r.name.t=X.2.name.t/\True)/\True)/\True)/\br (X.1.id==X.2.id) (u=S9 L.length (hsR L r.id)) (Ri (u+1)/\∃(y:V0 L.length (hsR L r.id)),(((Z2 G9 L L)/\(Fn.func 128=Fn.func 128/\L6 (λ(x:Nat)=>none) p p/\True)/\z=z/\u+1=(y.1:Int)/\True)/\True)/\Lt (L.length-y.1) (L.length-x.1))) ((-1:Int)=S9 L.length (hsR L r.id))):
  V2 prog 204 [rwS L,idF r] (.int .i64 (S9 L.length (hsR L r.id))):=
 S2 (gC c25 gN) func204 (c0v L r) h
theorem b5r:GK 204 c0q:=gk func204<|by
 rintro⟨L,a⟩ (hL:L.length<1000000000000);refine c0A L a ⟨⟨H5,⟨Z8,⟨rfl,U2 _,Z6⟩,Z8⟩,Z6⟩,λx=>⟨λC=>?_,λC=>?_⟩⟩
 ·have h:=Y2 C;refine⟨Y1 h,(L.getD x.1 dz,a),Z8,λhp=>(P5 h hp x.2.2).symm,λhp=>⟨V8 h Z9,x.succ h hp,⟨⟨Z8,⟨rfl,U2 _,Z6⟩,rfl,L3,Z6⟩,Z6⟩,V0.ext_lt h⟩⟩
 ·have e:=X7 C;exact(M2 λj J=>x.2.2 j (zH J e)).symm
def c0b:Con:=.rel ⟨List Rw×Rw,λx=>[rwS x.1,idF x.2],λx=>.bool (anyI x.1.length (hsR x.1 x.2.id)),λx=>N6 x.1.length⟩
theorem b9J(L:List Rw)(r:Rw)(h:
  ∃(x:(List Rw×Rw)),(((Z2 G9 L x.1)/\(Fn.func 128=Fn.func 128/\(r.id=x.2.id/\r.n.k=x.2.n.k/\r.n.n=x.2.n.n/\r.n.t=x.2.n.t/\r.name.k=x.2.name.k/\r.name.n=x.2.name.n/\r.name.t=x.2.name.t/\True)/\True)/\True)/\N6 x.1.length)/\decide (S9 x.1.length (hsR x.1 x.2.id)≥(0:Int))=anyI L.length (hsR L r.id)):
  V2 prog 127 [rwS L,idF r] (.bool (anyI L.length (hsR L r.id))):=
 S2 (gC b5r gN) func127 Y7 h
theorem b3Y:GK 127 c0b:=gk func127<|λx h=>b9J x.1 x.2 ⟨x,⟨Z8,h⟩,G1 _ _⟩
def Eng.sz(e:Eng)(v:Nat)(L:List Rw):Y5:=[b6p 1,jA (e.tn 10 11 12 13 14 15 16 17),none,none,none,none,none,none,none,none,w9 e.s.d.E,B7 e.s.d.C,z6 e.s.d.keep,zG e.s.L,vU v e.s.fr e.s.fr.length,qD e.X,uG e.lk.H,qU e.lk.W,b1t L]
def sFn:T:=.fn (.func 69) [.ref 0 0 0]
def kR(e:Eng)(ta:Int):{y:(Eng×Nat)×List Rw//y=((O4 e (cT e.s 8),ftV e.s 8),wQ (rcV (vw e.s) ta 8))}:=Classical.choice ⟨⟨_,rfl⟩⟩
def b6L:Con:=.reff ⟨Eng×Int,λx=>[Ji x.2,sFn],λx=>x.1.sx 0,λx=>.tup [.osl 18 0 (kR x.1 x.2).1.2.length,.bool true],λx=>(kR x.1 x.2).1.1.1.sz (kR x.1 x.2).1.1.2 (kR x.1 x.2).1.2,λx=>GInv x.1.s⟩
def b5H(ta:Int)(F:Nat->Eng)(V X:Nat->Nat)(R:Nat->List Rw)(I:Nat->Nat->List Rw):Nat->Ann
 |0=>.one {n:Nat//n<=8} (λx=>⟨[(0,Ji ta),(1,sFn),(6,.osl 18 0 (R x.1).length),(16,Ji x.1)],(F x.1).sz (V x.1) (R x.1)⟩) (λx=>8-x.1) b89 b89 (λx=>fun
  |1=>.one (Up 4) (λy=>⟨[(0,Ji ta),(1,sFn),(6,.osl 18 0 (I x.1 y.1).length),(16,Ji x.1),(28,.posl 14 (V (x.1+1)) (X x.1) 2 4),(29,Ji 4),(30,Ji y.1)],(F (x.1+1)).sz (V (x.1+1)) (I x.1 y.1)⟩) (λy=>4-y.1) b89 b89 (λ_=>Y7)
  |_=>.none)
 |_=>.none
theorem b4b(e:Eng)(ta:Int)(F:Nat->Eng)(V X:Nat->Nat)(R:Nat->List Rw)(I:Nat->Nat->List Rw)(h:
let w:=(oo ((0=0/\0=0)/\True));let z:=(Fn.func 69=Fn.func 69/\(0=0/\0=0)/\True);  (∃(x:{n:Nat//n<=8}),let b:=(F x.1);(ta=ta/\z/\(0=0/\0=(R x.1).length)/\0=(x.1:Int)/\True)/\w/\BxG e b/\T8 ((Z2 Z5 e.s.d.E b.s.d.E)/\(Z2 Y8 e.s.d.C b.s.d.C)/\(Z2 Y9 e.s.d.keep b.s.d.keep)/\(Z2 Y0 e.s.L b.s.L)/\(0=V x.1/\e.s.fr.length=b.s.fr.length/\V3 e.s.fr.length (Z1 e.s.fr) (Z1 b.s.fr))/\(Z2 W8 e.X b.X)/\(Z2 Y6 e.lk.H b.lk.H)/\(Z2 Y4 e.lk.W b.lk.W)/\(0=(R x.1).length/\Z7 0 (tk 7 []) (G9 (R x.1)))/\True))/\∀(x:{n:Nat//n<=8}),let u:=x.1;let ph:=(R u).length;let pc:=(V (u+1)=V (u+1)/\X u=X u/\2=2/\4=4);let p:=(F (u+1));let pm:=(Z2 Y0 p.s.L p.s.L);let pj:=(Z2 Y4 p.lk.W p.lk.W);let pi:=(Z2 Y6 p.lk.H p.lk.H);let pb:=p.s.d;let pf:=(Z2 Y9 pb.keep pb.keep);let pa:=p.s.fr;let pk:=pa.length;let pd:=(pa.getD (X u) dz);let m:=(V (u+1)=V (u+1)/\pk=pk/\V3 pa.length (Z1 pa) (Z1 pa));bd ((u:Int)<8) (∃(f:(Eng×Nat×Nat)),let q:=(Z4 f.1.s f.2.1); (((u:Int)=(f.2.1:Int)/\(0=0/\0=0)/\True)/\(w/\LnG (V u) (f.2.2) (F u) f.1)/\GInv f.1.s/\f.2.1<8)/\br false (((L6 (v6 [some 0, some 1,some 2,some 3,some 4,some 5,some 6,some 7,some 8,some 9,some (19+(10-10)),some (19+(11-10)),some (19+(12-10)),some (19+(13-10)),some (19+(14-10)),some (19+(15-10)),some (19+(16-10)),some (19+(17-10)),none]) (T.v (Value.slice none 0 0)) (T.osl 18 0 (wQ (R 8)).length)/\false=true/\True)/\True)/\w/\BxG {f.1 with s:=q.1} (F 8)/\T8 ((Z2 Z5 q.1.d.E (F 8).s.d.E)/\(Z2 Y8 q.1.d.C (F 8).s.d.C)/\(Z2 Y9 q.1.d.keep (F 8).s.d.keep)/\(Z2 Y0 q.1.L (F 8).s.L)/\(O5 f.1.s f.2.1 f.2.2=V 8/\q.1.fr.length=(F 8).s.fr.length/\V3 q.1.fr.length (Z1 q.1.fr) (Z1 (F 8).s.fr))/\(Z2 W8 f.1.X (F 8).X)/\(Z2 Y6 f.1.lk.H (F 8).lk.H)/\(Z2 Y4 f.1.lk.W (F 8).lk.W)/\False/\True)) ((∃(g:Up 4),(ta=ta/\z/\(0=0/\ph=(I x.1 g.val).length)/\(u:Int)=(u:Int)/\(O5 f.1.s f.2.1 f.2.2=V (u+1)/\q.2.1=X u/\2=2/\4=4)/\(4:Int)=4/\0=(g.val:Int)/\True)/\w/\BxG {f.1 with s:=q.1} p/\T8 ((Z2 Z5 q.1.d.E pb.E)/\(Z2 Y8 q.1.d.C pb.C)/\(Z2 Y9 q.1.d.keep pb.keep)/\(Z2 Y0 q.1.L p.s.L)/\(O5 f.1.s f.2.1 f.2.2=V (u+1)/\q.1.fr.length=pk/\V3 q.1.fr.length (Z1 q.1.fr) (Z1 pa))/\(Z2 W8 f.1.X p.X)/\(Z2 Y6 f.1.lk.H p.lk.H)/\(Z2 Y4 f.1.lk.W p.lk.W)/\(Z2 G9 (R u) (I x.1 g.val))/\True))/\∀(g:Up 4),let l:=(I x.1 g.val);let a:=(g.val:Int);let r:=l.length;bd (a<4) (V6 a 4/\PfB (V (u+1)) (V (u+1)) (X u) pa.length a.toNat pd.pg.sl.length/\Lt (pd.pg.sl.getD a.toNat []).length 140737488355329/\∃(i:mJ.ι),((pd.pg.sl.getD a.toNat []=i/\True)/\oU i)/\∃(j:(List Rw×Rw)),(((A9 i).2.2==(0:Int)&&(A9 i).1==ta)=true->Le (0+r) r/\((Z2 G9 l j.1)/\(Fn.func 128=Fn.func 128/\((A9 i).2.1.id=j.2.id/\(A9 i).2.1.n.k=j.2.n.k/\(A9 i).2.1.n.n=j.2.n.n/\(A9 i).2.1.n.t=j.2.n.t/\(A9 i).2.1.name.k=j.2.name.k/\(A9 i).2.1.name.n=j.2.name.n/\(A9 i).2.1.name.t=j.2.name.t/\True)/\True)/\True)/\N6 j.1.length)/\br ((A9 i).2.2==(0:Int)&&(A9 i).1==ta&& !anyI j.1.length (hsR j.1 j.2.id)) ((Le 1 1/\Le r r/\U8 r 1 72)/\Ri (a+1)/\∃(y:Up 4),let pe:=(I x.1 y.1);((ta=ta/\z/\(0=0/\r+1=pe.length)/\(u:Int)=(u:Int)/\pc/\(4:Int)=4/\a+1=(y.1:Int)/\True)/\w/\BxG p p/\T8 ((Z2 Z5 pb.E pb.E)/\(Z2 Y8 pb.C pb.C)/\pf/\pm/\m/\(Z2 W8 p.X p.X)/\pi/\pj/\(r+1=pe.length/\Z7 (r+1) (X6 (G9 l) r (tk 7 [Ji (A9 i).2.1.id,Ji (A9 i).2.1.n.k,Ji (A9 i).2.1.n.n,T.str (A9 i).2.1.n.t,Ji (A9 i).2.1.name.k,Ji (A9 i).2.1.name.n,T.str (A9 i).2.1.name.t])) (G9 pe))/\True))/\Lt (4-y.1) (4-g.val)) (Ri (a+1)/\∃(y:Up 4),((ta=ta/\z/\(0=0/\r=(I x.1 y.1).length)/\(u:Int)=(u:Int)/\pc/\(4:Int)=4/\a+1=(y.1:Int)/\True)/\w/\BxG p p/\T8 ((Z2 Z5 pb.E pb.E)/\(Z2 Y8 pb.C pb.C)/\pf/\pm/\m/\(Z2 W8 p.X p.X)/\pi/\pj/\(Z2 G9 l (I x.1 y.1))/\True))/\Lt (4-y.1) (4-g.val))) (Ri ((u:Int)+1)/\∃(y:{n:Nat//n<=8}),let c:=(F y.1);((ta=ta/\z/\(0=0/\r=(R y.1).length)/\(u:Int)+1=(y.1:Int)/\True)/\w/\BxG p c/\T8 ((Z2 Z5 pb.E c.s.d.E)/\(Z2 Y8 pb.C c.s.d.C)/\(Z2 Y9 pb.keep c.s.d.keep)/\(Z2 Y0 p.s.L c.s.L)/\(V (u+1)=V y.1/\pk=c.s.fr.length/\V3 pa.length (Z1 pa) (Z1 c.s.fr))/\(Z2 W8 p.X c.X)/\(Z2 Y6 p.lk.H c.lk.H)/\(Z2 Y4 p.lk.W c.lk.W)/\(Z2 G9 l (R y.1))/\True))/\Lt (8-y.1) (8-u)))) (∃(f:(List Rw)),(((0=0/\ph=f.length)/\Value.func (Fn.func 130) #[] #[]=Value.func (Fn.func 130) #[] #[]/\True)/\((Z2 G9 (R u) f)/\True)/\f.length<=1048576/\b3T f)/\(((0=0/\ph=(wQ (R 8)).length)/\true=true/\True)/\True)/\w/\BxG (F u) (F 8)/\T8 ((Z2 Z5 (F u).s.d.E (F 8).s.d.E)/\(Z2 Y8 (F u).s.d.C (F 8).s.d.C)/\(Z2 Y9 (F u).s.d.keep (F 8).s.d.keep)/\(Z2 Y0 (F u).s.L (F 8).s.L)/\(V u=V 8/\(F u).s.fr.length=(F 8).s.fr.length/\V3 (F u).s.fr.length (Z1 (F u).s.fr) (Z1 (F 8).s.fr))/\(Z2 W8 (F u).X (F 8).X)/\(Z2 Y6 (F u).lk.H (F 8).lk.H)/\(Z2 Y4 (F u).lk.W (F 8).lk.W)/\(Z2 G9 (wQ f) (wQ (R 8)))/\True))):
  I8 prog 68 [Ji ta,sFn] (e.sx 0) (.tup [.osl 18 0 (wQ (R 8)).length,.bool true]) ((F 8).sz (V 8) (wQ (R 8))):=
 w3 (gC b5A (gC eQ (gC b3Y (gC b3L gN)))) func68 (b5H ta F V X R I) [[.box 0,.box 1,.arr 2,.arr 3,.arr 4,.arr 5,.arr 6,.arr 7,.arr 8,.arr 9,.cel 1 0,.cel 1 1,.cel 1 3,.cel 1 5,.cel 1 7,.cel 1 10,.cel 1 11,.cel 1 12,.vl 0 [0]]] h
theorem c2W{ta:Int}{L:List Rw}{t:Bz}(h:t.length<=65536):rcS ta L t=if((A9 t).2.2==0&&(A9 t).1==ta&& !anyI L.length (hsR L (A9 t).2.1.id))=true then L++[(A9 t).2.1] else L:=by
 rw[b4n h];unfold rcS;cases lD t with
 |none=>rfl
 |some x=>rfl
theorem a38(L:List Rw):(wQ L).length=L.length:=(List.mergeSort_perm L leI).length_eq
theorem b0r:GK 68 b6L:=gk func68<|by
 rintro⟨e,ta⟩ (h:GInv e.s);show I8 _ _ _ _ (.tup [.osl 18 0 (kR e ta).1.2.length,.bool true]) ((kR e ta).1.1.1.sz (kR e ta).1.1.2 (kR e ta).1.2);rw[(kR e ta).2];dsimp only;have hF:=b8y h;have R:=c3j (vw e.s) ta;refine b4b e ta (λn=>O4 e (cT e.s n)) (ftV e.s) (λn=>(Z4 (cT e.s n) n).2.1) (rcV (vw e.s) ta) (λn i=>rcI (vw e.s n) ta (rcV (vw e.s) ta n) i) ⟨⟨⟨0,N7 _⟩,Z8,Z8,Z8,Z6,Z6,Z6,Z6,Z6,Z6,Z6,Z6,Z8,Z8,Z8,Z8,Z8,Z8,Z8,Z8,⟨rfl,λi hi=>absurd hi (J9 _)⟩,Z6⟩,λx=>?_⟩
 obtain⟨n,N⟩:=x;dsimp only at N ⊢;refine⟨λhc=>?_,λhc=>?_⟩
 ·have hlt:n<8:=by have:=D4 hc;omega
  obtain⟨g,_,v⟩:=hF n N;obtain⟨j,_,_,q,ps⟩:=gF g.inv hlt (o4 g hlt).2;have o:=(R n).l;refine⟨(O4 e (cT e.s n),n,ftV e.s n),⟨Z8,Z8,g,hlt⟩,λF=>(by cases F),λ_=>⟨⟨⟨0,N7 _⟩,Z8⟩,λy=>?_⟩⟩
  obtain⟨i,hi⟩:=y;dsimp only at hi ⊢;refine⟨λhc2=>?_,λhc2=>?_⟩
  ·have hit:i<4:=by have:=D4 hc2;omega
   have I:=(c2b (f:=vw e.s n) (ta:=ta) (R n) i).l;have B:((O4 e (cT e.s (n+1))).s.fr.getD (Z4 (cT e.s n) n).2.1 dz).pg.sl.getD i []=vw e.s n i:=by
    show((Z4 (cT e.s n) n).1.fr.getD (Z4 (cT e.s n) n).2.1 dz).pg.sl.getD i []=_;rw[a1g g hlt,←v];unfold vw;rw[if_pos hlt]
   have r:(vw e.s n i).length<=30:=by
    rw[←B];exact ps i (by show i<((Z4 (cT e.s n) n).1.fr.getD (Z4 (cT e.s n) n).2.1 dz).pg.sl.length;omega)
   have hS:rcI (vw e.s n) ta (rcV (vw e.s) ta n) (i+1)=_:=c2W (ta:=ta) (L:=rcI (vw e.s n) ta (rcV (vw e.s) ta n) i) (t:=vw e.s n i) Z9
   rw[E8,B];refine⟨Y1 hit,⟨rfl,j,by show i<((Z4 (cT e.s n) n).1.fr.getD (Z4 (cT e.s n) n).2.1 dz).pg.sl.length;omega⟩,I5,vw e.s n i,⟨⟨rfl,Z6⟩,by show _<=1000000000;omega⟩,(rcI (vw e.s n) ta (rcV (vw e.s) ta n) i,(A9 (vw e.s n i)).2.1),λ_=>⟨K2,Z8,uA⟩,λhq=>?_,λhq=>?_⟩
   ·have e1:=hS.trans (if_pos hq);refine⟨⟨U9 _,U9 _,Q5⟩,Z3 Z9,⟨i+1,hit⟩,⟨⟨rfl,Z8,⟨rfl,?_⟩,rfl,Z8,rfl,X0,Z6⟩,Z8,Z8,Z6,Z6,Z6,Z6,Z6,Z6,Z6,Z6,Z8,Z8,Z8,Z8,Z8,Z8,Z8,Z8,⟨?_,?_⟩,Z6⟩,K1⟩
    ·dsimp only;rw[e1,J3,List.length_singleton]
    ·dsimp only;rw[e1,J3,List.length_singleton]
    ·dsimp only;rw[e1];exact yP Rw.ts 7 (λ_=>rfl) _ _
   ·have e1:=hS.trans (if_neg (by rw[hq];exact Bool.false_ne_true))
    refine⟨Z3 Z9,⟨i+1,hit⟩,⟨⟨rfl,Z8,⟨rfl,?_⟩,rfl,Z8,rfl,X0,Z6⟩,Z8,Z8,Z6,Z6,Z6,Z6,Z6,Z6,Z6,Z6,Z8,Z8,Z8,Z8,Z8,Z8,Z8,Z8,?_,Z6⟩,K1⟩
    ·dsimp only;rw[e1]
    ·dsimp only;rw[e1];exact Z8
  ·obtain rfl:i=4:=by have:=q8 hc2;omega
   exact⟨Z3 Z9,⟨n+1,hlt⟩,⟨⟨rfl,Z8,Z8,X0,Z6⟩,Z8⟩,K1⟩
 ·obtain rfl:n=8:=by have:=q8 hc;omega
  have o:=(R 8).l;exact⟨rcV (vw e.s) ta 8,⟨Z8,Z8,Z9,(R 8).d⟩,⟨⟨⟨rfl,(a38 _).symm⟩,Z8⟩,Z6⟩,Z8⟩
def cQ(l:Lks)(tx ta m id n:Int):Prop:=(X1 l ⟨tx,ta,-1,m⟩).2≠14/\((X1 l ⟨tx,ta,-1,m⟩).2=0->(X1 (X1 l ⟨tx,ta,-1,m⟩).1 ⟨tx,ta,id,n⟩).2≠14)
theorem wE{e:Eng}{k:Nat}{tx:Int}(h:(e.X.getD k dz).id=tx)(ta row mo:Int):P1 e k ta row mo=⟨tx,ta,row,mo⟩:=by unfold P1;rw[h]
def b9l:Con:=.reff ⟨Eng×Nat×Int×Int×Int×Int,λx=>[.ref 0 0 0,Ji x.2.2.2.2.2,Ji x.2.2.1,Ji x.2.2.2.1,Ji x.2.2.2.2.1],λx=>x.1.bx 0,λx=>Ji (X1 x.1.lk (P1 x.1 x.2.1 x.2.2.1 x.2.2.2.1 x.2.2.2.2.1)).2,λx=>(D7 x.1 x.2.1 x.2.2.1 x.2.2.2.1 x.2.2.2.2.1).nx 0,λx=>(x.1.lk.H.length<=60/\x.1.lk.W.length<=100)/\(x.1.X.getD x.2.1 dz).id=x.2.2.2.2.2/\(X1 x.1.lk (P1 x.1 x.2.1 x.2.2.1 x.2.2.2.1 x.2.2.2.2.1)).2≠14⟩
theorem a4X:GK 67 b9l:=gk func67<|by
 rintro⟨e,k,ta,row,mo,tx⟩ ⟨l,h,n⟩;dsimp only at l h n;exact w3 (gC b4x gN) func67 Y7 cJ (α:=let p:=(X1 e.lk (P1 e k ta row mo));∃(x:(Eng×Lck×Nat)),let r:=x.1.s;let q:=(X1 x.1.lk x.2.1);(((0=0/\11=11)/\(tx=x.2.1.tx/\ta=x.2.1.ta/\row=x.2.1.row/\mo=x.2.1.mo/\True)/\True)/\(LnG (0) (x.2.2) e x.1)/\x.1.lk.H.length<=60/\x.1.lk.W.length<=100)/\br (q.2==14) False ((q.2=p.2/\True)/\(oo ((0=0/\r.d.E.length=e.s.d.E.length)/\(0=0/\r.d.C.length=e.s.d.C.length)/\r.d.A=e.s.d.A/\(0=0/\r.d.keep.length=e.s.d.keep.length)/\r.ep=e.s.ep/\(0=0/\r.L.length=e.s.L.length)/\r.S=e.s.S/\(0=0/\r.fr.length=e.s.fr.length)/\r.J=e.s.J/\x.1.up=e.up/\(0=0/\x.1.X.length=e.X.length)/\(0=0/\q.1.H.length=p.1.H.length)/\(0=0/\q.1.W.length=p.1.W.length)/\x.1.N=e.N/\True))/\T8 ((Z2 Z5 r.d.E e.s.d.E)/\(Z2 Y8 r.d.C e.s.d.C)/\(Z2 Y9 r.d.keep e.s.d.keep)/\(Z2 Y0 r.L e.s.L)/\(x.2.2=0/\r.fr.length=e.s.fr.length/\V3 r.fr.length (Z1 r.fr) (Z1 e.s.fr))/\(Z2 W8 x.1.X e.X)/\(Z2 Y6 q.1.H p.1.H)/\(Z2 Y4 q.1.W p.1.W)/\True))) ⟨(e,P1 e k ta row mo,0),⟨⟨Z8,⟨h.symm,Z8⟩,Z6⟩,Z8,l⟩,λq=>absurd (beq_iff_eq.1 q) n,λ_=>Z8⟩
def fZ(e:Eng)(k:Nat)(ta tm id rm:Int):Eng×Int:=if(X1 e.lk (P1 e k ta (-1) tm)).2=0 then(D7 (D7 e k ta (-1) tm) k ta id rm,(X1 (D7 e k ta (-1) tm).lk (P1 (D7 e k ta (-1) tm) k ta id rm)).2) else(D7 e k ta (-1) tm,(X1 e.lk (P1 e k ta (-1) tm)).2)
def s6(e:Eng)(tx ta tm id rm:Int):Eng×Int:=if(P7 e tx).2=0 then fZ e (P7 e tx).1.toNat ta tm id rm else(e,(P7 e tx).2)
def b4i:Con:=.reff ⟨Eng×Int×Int×Int×Int×Int,λx=>[.ref 0 0 0,Ji x.2.1,Ji x.2.2.1,Ji x.2.2.2.1,Ji x.2.2.2.2.1,Ji x.2.2.2.2.2],λx=>x.1.bx 0,λx=>Ji (s6 x.1 x.2.1 x.2.2.1 x.2.2.2.1 x.2.2.2.2.1 x.2.2.2.2.2).2,λx=>(s6 x.1 x.2.1 x.2.2.1 x.2.2.2.1 x.2.2.2.2.1 x.2.2.2.2.2).1.nx 0,λx=>EI x.1/\LokR x.2.2.1 (-1) x.2.2.2.1/\cQ x.1.lk x.2.1 x.2.2.1 x.2.2.2.1 x.2.2.2.2.1 x.2.2.2.2.2⟩
theorem eJ{e:Eng}{tx ta tm id rm:Int}(h:¬ (P7 e tx).2=0):s6 e tx ta tm id rm=(e,(P7 e tx).2):=if_neg h
theorem mE{e:Eng}{tx ta tm id rm:Int}{k:Nat}(h:(P7 e tx).2=0)(d:(P7 e tx).1=k):s6 e tx ta tm id rm=fZ e k ta tm id rm:=by
 unfold s6;rw[if_pos h,d,E8]
theorem b0i:GK 56 b4i:=gk func56<|by
 rintro⟨e,tx,ta,tm,id,rm⟩ ⟨h,r,n1,N⟩;dsimp only at h r n1 N;obtain⟨l1,l2,l⟩:=aK h;refine w3 (gC nC (gC a4X gN)) func56 Y7 cJ (α:=let r:=(s6 e tx ta tm id rm);∃(x:(Eng×Int)),((LeG e)/\((pY e x.1)/\tx=x.2/\True)/\N6 x.1.X.length)/\br ((P7 x.1 x.2).2 !=0) (((P7 x.1 x.2).2=r.2/\True)/\aH (0) (0) e r.1) (∃(x:(Eng×Nat×Int×Int×Int×Int)),let z:=x.2.2.2;let p:=(X1 x.1.lk (P1 x.1 x.2.1 x.2.2.1 z.1 z.2.1));(((0=0/\0=0)/\tx=z.2.2/\ta=x.2.2.1/\(-1:Int)=z.1/\tm=z.2.1/\True)/\(LnG (0) (0) e x.1)/\(x.1.lk.H.length<=60/\x.1.lk.W.length<=100)/\(x.1.X.getD x.2.1 dz).id=z.2.2/\p.2≠(14:Int))/\br (p.2 !=0) ((p.2=r.2/\True)/\aH (0) (0) {x.1 with lk:=p.1} r.1) (∃(X:(Eng×Nat×Int×Int×Int×Int)),let q:=(X1 X.1.lk (P1 X.1 X.2.1 X.2.2.1 X.2.2.2.1 X.2.2.2.2.1));(((0=0/\0=0)/\tx=X.2.2.2.2.2/\ta=X.2.2.1/\id=X.2.2.2.1/\rm=X.2.2.2.2.1/\True)/\(LnG (0) (0) {x.1 with lk:=p.1} X.1)/\(X.1.lk.H.length<=60/\X.1.lk.W.length<=100)/\(X.1.X.getD X.2.1 dz).id=X.2.2.2.2.2/\q.2≠(14:Int))/\(q.2=r.2/\True)/\aH (0) (0) {X.1 with lk:=q.1} r.1))) ⟨(e,tx),⟨Z8,Z8,uA⟩,λhq=>?_,λhq=>?_⟩
 ·rw[eJ (kV hq)];exact Z8
 ·obtain⟨hu,k,e1,hk,hi,ha⟩:=wU (oN hq);rw[mE (oN hq) e1];have eT:=wE hi ta (-1) tm;refine⟨(e,k,ta,-1,tm,tx),⟨Z8,Z8,⟨l1,l2⟩,hi,by dsimp only;rw[eT];exact n1⟩,λhq=>?_,λhq=>?_⟩
  ·have d:fZ e k ta tm id rm=(D7 e k ta (-1) tm,(X1 e.lk (P1 e k ta (-1) tm)).2):=if_neg (kV hq);rw[d];exact Z8
  ·have hq:(X1 e.lk (P1 e k ta (-1) tm)).2=0:=oN hq;have d:fZ e k ta tm id rm=(D7 (D7 e k ta (-1) tm) k ta id rm,(X1 (D7 e k ta (-1) tm).lk (P1 (D7 e k ta (-1) tm) k ta id rm)).2):=if_pos hq;obtain⟨f,M,_⟩:=aK (uC h hk r);have n:(X1 (D7 e k ta (-1) tm).lk (P1 (D7 e k ta (-1) tm) k ta id rm)).2≠14:=by
    rw[eT] at hq;have n:=N hq;rw[←eT] at n;rw[wE (e:=D7 e k ta (-1) tm) (k:=k) hi];exact n
   rw[d];exact⟨(D7 e k ta (-1) tm,k,ta,id,rm,tx),⟨Z8,Z8,⟨f,M⟩,hi,n⟩,Z8⟩
def i4(e:Eng)(tx ta id:Int):{y:(Eng×Nat)×Plc//y=((O4 e (R1 e tx ta id 8).1,kK e tx ta id 8),pI (R1 e tx ta id 8).2.1)}:=Classical.choice ⟨⟨_,rfl⟩⟩
def c4g:Con:=.reff ⟨Eng×Int×Int×Int,λx=>[.ref 0 0 0,Ji x.2.1,Ji x.2.2.1,Ji x.2.2.2],λx=>x.1.bx 0,λx=>.tup [.agg [Ji (i4 x.1 x.2.1 x.2.2.1 x.2.2.2).1.2.a,Ji (i4 x.1 x.2.1 x.2.2.1 x.2.2.2).1.2.b],.agg [Ji (i4 x.1 x.2.1 x.2.2.1 x.2.2.2).1.2.c,Ji (i4 x.1 x.2.1 x.2.2.1 x.2.2.2).1.2.d],.bool true],λx=>(i4 x.1 x.2.1 x.2.2.1 x.2.2.2).1.1.1.nx (i4 x.1 x.2.1 x.2.2.1 x.2.2.2).1.1.2,λx=>EI x.1⟩
def c3F(tx ta id:Int)(F:Nat->Eng)(V:Nat->Nat)(A:Nat->Plc)(X:Nat->Nat)(I:Nat->Nat->Plc):Nat->Ann
 |0=>.one {n:Nat//n<=8} (λx=>⟨[(0,.ref 0 0 0),(1,Ji tx),(2,Ji ta),(3,Ji id),(8,.ref 9 0 0),(9,.ref 10 0 0),(11,.ref 11 0 0),(12,.ref 12 0 0),(20,Ji x.1)],(F x.1).fy (V x.1) (A x.1)⟩) (λx=>8-x.1) b8U b8U (λx=>fun
  |1=>.one (Up 4) (λy=>⟨[(0,.ref 0 0 0),(1,Ji tx),(2,Ji ta),(3,Ji id),(8,.ref 9 0 0),(9,.ref 10 0 0),(11,.ref 11 0 0),(12,.ref 12 0 0),(13,Ji x.1),(20,Ji x.1),(36,.posl 17 (V (x.1+1)) (X x.1) 2 4),(37,Ji 4),(38,Ji y.1)],(F (x.1+1)).fy (V (x.1+1)) (I x.1 y.1)⟩) (λy=>4-y.1) b8U b8U (λ_=>Y7)
  |_=>.none)
 |_=>.none
theorem c3x(e:Eng)(tx ta id:Int)(F:Nat->Eng)(V:Nat->Nat)(A:Nat->Plc)(X:Nat->Nat)(I:Nat->Nat->Plc)(h:
let r:=(0=0/\0=0);let p:=(oo ((0:Int)=0/\(0:Int)=0/\True));  (∃(x:{n:Nat//n<=8}),let pi:=(A x.1);(r/\tx=tx/\ta=ta/\id=id/\r/\r/\r/\r/\0=(x.1:Int)/\True)/\BxG e (F x.1)/\T8 (p/\p/\(oo ((-1:Int)=pi.a/\0=pi.b/\True))/\(oo ((-1:Int)=pi.c/\0=pi.d/\True))/\a4N (0) (V x.1) e (F x.1)))/\∀(x:{n:Nat//n<=8}),let q:=x.1;let pb:=((A q).c=(A 8).c/\(A q).d=(A 8).d/\True);let pa:=((A q).a=(A 8).a/\(A q).b=(A 8).b/\True);let l:=(V (q+1));let m:=(V (q+1)=V (q+1)/\X q=X q/\2=2/\4=4);let u:=(F (q+1));let ph:=(u.s.fr.getD (X q) dz);let k:=ph.pg.sl.getD;bd ((q:Int)<8) (∃(g:(Sto×Nat×Nat)),let pk:=(O5 g.1 g.2.1 g.2.2);let w:=(Z4 g.1 g.2.1);let pf:=(w.1.fr.getD w.2.1 dz).pg.sl.length;((r/\(q:Int)=(g.2.1:Int)/\True)/\(LnS (V q) (g.2.2) (F q).s g.1)/\fD g.1 g.2.1/\w.2.2=true)/\br false (((pa/\pb/\false=true/\True)/\True)/\aH pk (V 8) {(F q) with s:=w.1} (F 8)) (Lt w.2.1 w.1.fr.length/\(∃(f:Up 4),let t:=(I x.1 f.val);(r/\tx=tx/\ta=ta/\id=id/\r/\r/\r/\r/\(q:Int)=(q:Int)/\(q:Int)=(q:Int)/\(O5 g.1 g.2.1 g.2.2=V (q+1)/\w.2.1=X q/\2=2/\pf=4)/\(↑pf:Int)=4/\0=(f.val:Int)/\True)/\BxG {(F q) with s:=w.1} u/\T8 (p/\p/\(oo ((A q).a=t.a/\(A q).b=t.b/\True))/\(oo ((A q).c=t.c/\(A q).d=t.d/\True))/\a4N pk l {(F q) with s:=w.1} u))/\∀(f:Up 4),let v:=(f.val:Int);let z:=(I x.1 f.val);bd (v<4) (V6 v 4/\PfB l l (X q) u.s.fr.length v.toNat ph.pg.sl.length/\∃(j:(Bz×Int×Int)),(decide (z.a<0)=true->(k v.toNat []=j.1/\ta=j.2.1/\id=j.2.2/\True)/\j.1.length<=1000)/\br (decide (z.a<0)&&a1a j.1 j.2.1 j.2.2) (Ri (v+1)/\∃(y:Up 4),let pc:=(I x.1 y.1);((r/\tx=tx/\ta=ta/\id=id/\r/\r/\r/\r/\(q:Int)=(q:Int)/\(q:Int)=(q:Int)/\m/\(4:Int)=4/\v+1=(y.1:Int)/\True)/\BxG u u/\T8 (p/\p/\(oo ((q:Int)=pc.a/\v=pc.b/\True))/\(oo (z.c=pc.c/\z.d=pc.d/\True))/\a4N l l u u))/\Lt (4-y.1) (4-f.val)) (∃(i:(Eng×Int×Int×Int)),((decide (z.c<0)&&k v.toNat []==[])=true->(LeG u)/\((pY u i.1)/\tx=i.2.1/\((q:Int)=i.2.2.1/\v=i.2.2.2/\True)/\True)/\wG i.1)/\((decide (z.c<0)&&k v.toNat []==[]&& !wL i.1 i.2.1 i.2.2.1 i.2.2.2)=true->Ri (v+1)/\∃(y:Up 4),let pd:=(I x.1 y.1);((r/\tx=tx/\ta=ta/\id=id/\r/\r/\r/\r/\(q:Int)=(q:Int)/\(q:Int)=(q:Int)/\m/\(4:Int)=4/\v+1=(y.1:Int)/\True)/\BxG u u/\T8 (p/\p/\(oo (z.a=pd.a/\z.b=pd.b/\True))/\(oo ((q:Int)=pd.c/\v=pd.d/\True))/\a4N l l u u))/\Lt (4-y.1) (4-f.val))/\((decide (z.c<0)&&k v.toNat []==[]&&!wL i.1 i.2.1 i.2.2.1 i.2.2.2)=false->Ri (v+1)/\∃(y:Up 4),let pe:=(I x.1 y.1);((r/\tx=tx/\ta=ta/\id=id/\r/\r/\r/\r/\(q:Int)=(q:Int)/\(q:Int)=(q:Int)/\m/\(4:Int)=4/\v+1=(y.1:Int)/\True)/\BxG u u/\T8 (p/\p/\(oo (z.a=pe.a/\z.b=pe.b/\True))/\(oo (z.c=pe.c/\z.d=pe.d/\True))/\a4N l l u u))/\Lt (4-y.1) (4-f.val)))) (Ri ((q:Int)+1)/\∃(y:{n:Nat//n<=8}),let pj:=(A y.1);((r/\tx=tx/\ta=ta/\id=id/\r/\r/\r/\r/\(q:Int)+1=(y.1:Int)/\True)/\BxG u (F y.1)/\T8 (p/\p/\(oo (z.a=pj.a/\z.b=pj.b/\True))/\(oo (z.c=pj.c/\z.d=pj.d/\True))/\a4N l (V y.1) u (F y.1)))/\Lt (8-y.1) (8-q)))) (((pa/\pb/\true=true/\True)/\True)/\aH (V q) (V 8) (F q) (F 8))):
  I8 prog 57 [.ref 0 0 0,Ji tx,Ji ta,Ji id] (e.bx 0) (.tup [.agg [Ji (A 8).a,Ji (A 8).b],.agg [Ji (A 8).c,Ji (A 8).d],.bool true]) ((F 8).nx (V 8)):=
 w3 (gC sM (gC b4s (gC b1N gN))) func57 (c3F tx ta id F V A X I) cJ h
theorem b9p:GK 57 c4g:=gk func57<|by
 rintro⟨e,tx,ta,id⟩ (h:EI e);show I8 _ _ _ _ (.tup [.agg [Ji (i4 e tx ta id).1.2.a,Ji (i4 e tx ta id).1.2.b],.agg [Ji (i4 e tx ta id).1.2.c,Ji (i4 e tx ta id).1.2.d],.bool true]) ((i4 e tx ta id).1.1.1.nx (i4 e tx ta id).1.1.2);rw[(i4 e tx ta id).2];have M:=bJ h;refine c3x e tx ta id (λn=>O4 e (R1 e tx ta id n).1) (kK e tx ta id) (λn=>pI (R1 e tx ta id n).2.1) (λn=>(Z4 (R1 e tx ta id n).1 n).2.1) (λn i=>pI (k7 e tx ta id n (cY e tx ta id n) (R1 e tx ta id n).2.1 i)) ⟨⟨⟨0,N7 _⟩,Z8⟩,λx=>?_⟩
 obtain⟨n,N⟩:=x;dsimp only at N ⊢;refine⟨λhc=>?_,λhc=>?_⟩
 ·have hlt:n<8:=by have:=D4 hc;omega
  obtain⟨l,v,hv,_⟩:=rH h.g tx ta id n N;have j:=c20 hv;have u:=(o4 l hlt).2;have q:=c6l hv u;obtain⟨F,_,_,r,ps⟩:=gF l.inv hlt u;have f:(Z4 (R1 e tx ta id n).1 n).1.L=e.s.L:=(o4 l hlt).1.L.1.trans v;have t:wG (O4 e (Z4 (R1 e tx ta id n).1 n).1):=bJ (cK h (o4 l hlt).1.g f);have hK:=λg sl=>a88 f tx g sl
  have r:(cY e tx ta id n).sl.length=4:=r;have ps:∀i,i<4->((cY e tx ta id n).sl.getD i []).length<=30:=λi hi=>ps i (by show i<(cY e tx ta id n).sl.length;omega)
  have hp:((Z4 (R1 e tx ta id n).1 n).1.fr.getD (Z4 (R1 e tx ta id n).1 n).2.1 dz).pg=cY e tx ta id n:=rfl;have C:=b5e e tx ta id n (cY e tx ta id n) (R1 e tx ta id n).2.1;have o:k7 e tx ta id n (cY e tx ta id n) (R1 e tx ta id n).2.1 0=(R1 e tx ta id n).2.1:=rfl;refine⟨((R1 e tx ta id n).1,n,kK e tx ta id n),⟨Z8,Z8,⟨l.inv,hlt⟩,u⟩,λB=>(by cases B),λ_=>?_⟩
  rw[q,j];have z:(R1 e tx ta id (n+1)).2.1=k7 e tx ta id n (cY e tx ta id n) (R1 e tx ta id n).2.1 4:=by rw[q]
  have hF:(R1 e tx ta id (n+1)).1=(Z4 (R1 e tx ta id n).1 n).1:=by rw[q]
  clear q;dsimp only;have L:(((O4 e (Z4 (R1 e tx ta id n).1 n).1).s.fr.getD (Z4 (R1 e tx ta id n).1 n).2.1 dz).pg)=cY e tx ta id n:=rfl;rw[L,hp];generalize cY e tx ta id n=p at*;generalize (R1 e tx ta id n).2.1=A at*;generalize k7 e tx ta id n p A=I at*;refine⟨F,⟨⟨0,N7 _⟩,⟨Z8,rfl,rfl,rfl,Z8,Z8,Z8,Z8,rfl,rfl,⟨rfl,rfl,rfl,r⟩,Z9,Z8⟩,Z8,Z6,Z6,Z6,Z6,Z6,Z6,Z6,Z6,Z8,Z8,⟨rfl,rfl,by rw[o],by rw[o],Z6⟩,⟨rfl,rfl,by rw[o],by rw[o],Z6⟩,⟨rfl,W2 _ _⟩,⟨rfl,W2 _ _⟩,⟨rfl,W2 _ _⟩,⟨rfl,W2 _ _⟩,⟨rfl,rfl,iO _⟩,⟨rfl,W2 _ _⟩,⟨rfl,W2 _ _⟩,⟨rfl,W2 _ _⟩,Z6⟩,λy=>?_⟩
  obtain⟨i,hi⟩:=y;dsimp only at hi ⊢;refine⟨λhc2=>?_,λhc2=>?_⟩
  ·have hit:i<4:=by have:=D4 hc2;omega
   have hIi:=C i;have J:=ps i hit;rw[E8];refine⟨⟨Z9,Z9⟩,⟨rfl,F,Z9⟩,(p.sl.getD i [],ta,id),λ_=>⟨Z8,X0⟩,λhq=>?_,λhq=>⟨(O4 e (Z4 (R1 e tx ta id n).1 n).1,tx,n,i),λ_=>⟨Z8,Z8,t⟩,λhr=>?_,λhr=>?_⟩⟩
   ·simp only[M1,i5] at hq;have hz:¬p.sl.getD i []=[]:=λhz=>by
     have:=hq.2;rw[hz,c33] at this;cases this
    rw[if_neg hz,if_pos ⟨hq.2,hq.1⟩] at hIi;have e1:pI (I (i+1))=⟨n,i,(I i).c,slI (I i).c (I i).d⟩:=by rw[hIi];exact c3Q
    exact⟨Z3 Z9,⟨i+1,hit⟩,⟨⟨Z8,rfl,rfl,rfl,Z8,Z8,Z8,Z8,rfl,rfl,Z8,rfl,X0,Z6⟩,Z8,Z6,Z6,Z6,Z6,Z6,Z6,Z6,Z6,Z8,Z8,⟨rfl,rfl,lN,lN,Z6⟩,⟨rfl,rfl,by rw[e1];rfl,by rw[e1];rfl,Z6⟩,⟨rfl,W2 _ _⟩,⟨rfl,W2 _ _⟩,⟨rfl,W2 _ _⟩,⟨rfl,W2 _ _⟩,⟨rfl,rfl,iO _⟩,⟨rfl,W2 _ _⟩,⟨rfl,W2 _ _⟩,⟨rfl,W2 _ _⟩,Z6⟩,K1⟩
   ·dsimp only at hr;rw[hK] at hr;simp only[M1,i5,xO,beq_iff_eq] at hr;rw[if_pos hr.1.2,if_pos ⟨hr.1.1,hr.2⟩] at hIi;have e1:pI (I (i+1))=⟨(I i).a,slI (I i).a (I i).b,n,i⟩:=by rw[hIi];exact c4a
    exact⟨Z3 Z9,⟨i+1,hit⟩,⟨⟨Z8,rfl,rfl,rfl,Z8,Z8,Z8,Z8,rfl,rfl,Z8,rfl,X0,Z6⟩,Z8,Z6,Z6,Z6,Z6,Z6,Z6,Z6,Z6,Z8,Z8,⟨rfl,rfl,by rw[e1];rfl,by rw[e1];rfl,Z6⟩,⟨rfl,rfl,lN,lN,Z6⟩,⟨rfl,W2 _ _⟩,⟨rfl,W2 _ _⟩,⟨rfl,W2 _ _⟩,⟨rfl,W2 _ _⟩,⟨rfl,rfl,iO _⟩,⟨rfl,W2 _ _⟩,⟨rfl,W2 _ _⟩,⟨rfl,W2 _ _⟩,Z6⟩,K1⟩
   ·dsimp only at hr;rw[hK] at hr;have e1:I (i+1)=I i:=by
     rw[hIi];split
     ·rename_i hz;rw[if_neg];rintro⟨a1,a2⟩;rw[hz,mN (show(pI (I i)).c<0 from a1),a2] at hr
      cases hr
     ·rw[if_neg];rintro⟨a1,a2⟩;rw[a1,mN (show(pI (I i)).a<0 from a2)] at hq
      cases hq
    exact⟨Z3 Z9,⟨i+1,hit⟩,⟨⟨Z8,rfl,rfl,rfl,Z8,Z8,Z8,Z8,rfl,rfl,Z8,rfl,X0,Z6⟩,Z8,Z6,Z6,Z6,Z6,Z6,Z6,Z6,Z6,Z8,Z8,⟨rfl,rfl,lN,lN,Z6⟩,⟨rfl,rfl,lN,lN,Z6⟩,Z8⟩,K1⟩
  ·obtain rfl:i=4:=by have:=q8 hc2;omega
   refine⟨Z3 Z9,⟨n+1,hlt⟩,?_,K1⟩
   dsimp only;rw[z,hF,j];exact⟨⟨Z8,rfl,rfl,rfl,Z8,Z8,Z8,Z8,Z9,Z6⟩,Z8⟩
 ·obtain rfl:n=8:=by have:=q8 hc;omega
  exact Z8
def Eng.ny(e:Eng)(v:Nat)(L:List Rw):Y5:=[jA (e.tn 9 10 11 12 13 14 15 16),none,none,none,none,none,none,none,none,w9 e.s.d.E,B7 e.s.d.C,z6 e.s.d.keep,zG e.s.L,vU v e.s.fr e.s.fr.length,qD e.X,uG e.lk.H,qU e.lk.W,b1t L]
def c2B:Con:=.reff ⟨Eng×Int×Int,λx=>[.ref 0 0 0,Ji x.2.1,Ji x.2.2],λx=>x.1.bx 0,λx=>.tup [.osl 17 0 (G5 x.1 x.2.1 x.2.2).2.1.length,Ji (G5 x.1 x.2.1 x.2.2).2.2],λx=>(G5 x.1 x.2.1 x.2.2).1.1.ny (G5 x.1 x.2.1 x.2.2).1.2 (G5 x.1 x.2.1 x.2.2).2.1,λx=>EI x.1/\(X1 x.1.lk ⟨x.2.1,x.2.2,-1,3⟩).2≠14⟩
theorem c1h{e:Eng}{tx ta:Int}(h:¬ (P7 e tx).2=0):G5 e tx ta=((e,0),[],(P7 e tx).2):=if_neg h
theorem c1A{e:Eng}{tx ta:Int}{k:Nat}(h:(P7 e tx).2=0)(d:(P7 e tx).1=k)(f:¬ (X1 e.lk (P1 e k ta (-1) 3)).2=0):G5 e tx ta=((D7 e k ta (-1) 3,0),[],(X1 e.lk (P1 e k ta (-1) 3)).2):=by
 unfold G5;rw[if_pos h,d,E8,if_neg f]
theorem b5S{e:Eng}{tx ta:Int}{k:Nat}(h:(P7 e tx).2=0)(d:(P7 e tx).1=k)(f:(X1 e.lk (P1 e k ta (-1) 3)).2=0):G5 e tx ta=((O4 (D7 e k ta (-1) 3) (cT e.s 8),ftV e.s 8),wQ (rcV (vw e.s) ta 8),0):=by
 unfold G5;rw[if_pos h,d,E8,if_pos f]
theorem b8t:GK 31 c2B:=gk func31<|by
 rintro⟨e,tx,ta⟩ ⟨h,hn⟩;dsimp only at h hn ⊢;obtain⟨l1,l2,_⟩:=aK h;generalize hZ:G5 e tx ta=Z;have j:=h.h.t10;refine w3 (gC nC (gC a4X (gC b0r gN))) func31 Y7 [[.box 0,.arr 1,.arr 2,.arr 3,.arr 4,.arr 5,.arr 6,.arr 7,.arr 8,.cel 0 0,.cel 0 1,.cel 0 3,.cel 0 5,.cel 0 7,.cel 0 10,.cel 0 11,.cel 0 12,.vl 0 [0]],[.nilS 0 [0] 47 7,.box 0,.arr 1,.arr 2,.arr 3,.arr 4,.arr 5,.arr 6,.arr 7,.arr 8,.cel 0 0,.cel 0 1,.cel 0 3,.cel 0 5,.cel 0 7,.cel 0 10,.cel 0 11,.cel 0 12,.vl 0 [0]]] (α:=let w:=(0=0/\0=0);let v:=(0=0/\0=Z.2.1.length);let z:=(Z1 Z.1.1.s.fr);∃(x:(Eng×Int)),((LeG e)/\((pY e x.1)/\tx=x.2/\True)/\N6 x.1.X.length)/\br ((P7 x.1 x.2).2 !=0) (((v/\(P7 x.1 x.2).2=Z.2.2/\True)/\True)/\BxG e Z.1.1/\T8 ((Z2 Z5 e.s.d.E Z.1.1.s.d.E)/\(Z2 Y8 e.s.d.C Z.1.1.s.d.C)/\(Z2 Y9 e.s.d.keep Z.1.1.s.d.keep)/\(Z2 Y0 e.s.L Z.1.1.s.L)/\(0=Z.1.2/\e.s.fr.length=Z.1.1.s.fr.length/\V3 e.s.fr.length (Z1 e.s.fr) z)/\(Z2 W8 e.X Z.1.1.X)/\(Z2 Y6 e.lk.H Z.1.1.lk.H)/\(Z2 Y4 e.lk.W Z.1.1.lk.W)/\(0=Z.2.1.length/\Z7 0 (λ(x:Nat)=>[]) (G9 Z.2.1))/\True)) (∃(x:(Eng×Nat×Int×Int×Int×Int)),let y:=x.1.s;let u:=x.2.2.2;let p:=(X1 x.1.lk (P1 x.1 x.2.1 x.2.2.1 u.1 u.2.1));((w/\tx=u.2.2/\ta=x.2.2.1/\(-1:Int)=u.1/\3=u.2.1/\True)/\(LnG (0) (0) e x.1)/\(x.1.lk.H.length<=60/\x.1.lk.W.length<=100)/\(x.1.X.getD x.2.1 dz).id=u.2.2/\p.2≠(14:Int))/\br (p.2 !=0) (((v/\p.2=Z.2.2/\True)/\True)/\BxG {x.1 with lk:=p.1} Z.1.1/\T8 ((Z2 Z5 y.d.E Z.1.1.s.d.E)/\(Z2 Y8 y.d.C Z.1.1.s.d.C)/\(Z2 Y9 y.d.keep Z.1.1.s.d.keep)/\(Z2 Y0 y.L Z.1.1.s.L)/\(0=Z.1.2/\y.fr.length=Z.1.1.s.fr.length/\V3 y.fr.length (Z1 y.fr) z)/\(Z2 W8 x.1.X Z.1.1.X)/\(Z2 Y6 p.1.H Z.1.1.lk.H)/\(Z2 Y4 p.1.W Z.1.1.lk.W)/\(0=Z.2.1.length/\Z7 0 (λ(x:Nat)=>[]) (G9 Z.2.1))/\True)) (∃(X:(Eng×Int)),let q:=(kR X.1 X.2);let j:=q.val.fst;let r:=j.fst;((ta=X.2/\(Fn.func 69=Fn.func 69/\w/\True)/\True)/\((oo (w/\True))/\LnG (0) (0) {x.1 with lk:=p.1} X.1)/\GInv X.1.s)/\br false False ((((0=0/\q.val.snd.length=Z.2.1.length)/\0=Z.2.2/\True)/\True)/\BxG j.fst Z.1.1/\T8 ((Z2 Z5 r.s.d.E Z.1.1.s.d.E)/\(Z2 Y8 r.s.d.C Z.1.1.s.d.C)/\(Z2 Y9 r.s.d.keep Z.1.1.s.d.keep)/\(Z2 Y0 r.s.L Z.1.1.s.L)/\(j.snd=Z.1.2/\r.s.fr.length=Z.1.1.s.fr.length/\V3 r.s.fr.length (Z1 r.s.fr) z)/\(Z2 W8 r.X Z.1.1.X)/\(Z2 Y6 r.lk.H Z.1.1.lk.H)/\(Z2 Y4 r.lk.W Z.1.1.lk.W)/\(Z2 G9 q.val.snd Z.2.1)/\True))))) ⟨(e,tx),⟨Z8,Z8,uA⟩,λhq=>?_,λhq=>?_⟩
 ·rw[←hZ,c1h (kV hq)];exact⟨Z8,Z8,Z6,Z6,Z6,Z6,Z6,Z6,Z6,Z6,Z8,Z8,Z8,Z8,Z8,Z8,Z8,Z8,⟨rfl,λi hi=>absurd hi (J9 _)⟩,Z6⟩
 ·have hq:=oN hq;obtain⟨hu,k,e1,hk,hi,ha⟩:=wU hq;have eT:=wE hi ta (-1) 3;refine⟨(e,k,ta,-1,3,tx),⟨Z8,Z8,⟨l1,l2⟩,hi,by dsimp only;rw[eT];exact hn⟩,λhl=>?_,λhl=>?_⟩
  ·rw[←hZ,c1A hq e1 (kV hl)];exact⟨Z8,Z8,Z6,Z6,Z6,Z6,Z6,Z6,Z6,Z6,Z8,Z8,Z8,Z8,Z8,Z8,Z8,Z8,⟨rfl,λi hi=>absurd hi (J9 _)⟩,Z6⟩
  ·rw[←hZ,b5S hq e1 (oN hl)];dsimp only;have eR:(kR (D7 e k ta (-1) 3) ta).1=((O4 (D7 e k ta (-1) 3) (cT e.s 8),ftV e.s 8),wQ (rcV (vw e.s) ta 8)):=(kR (D7 e k ta (-1) 3) ta).2;refine⟨(D7 e k ta (-1) 3,ta),⟨Z8,Z8,h.g⟩,λhf=>(by cases hf),λ_=>?_⟩
   dsimp only;rw[eR];generalize O4 (D7 e k ta (-1) 3) (cT e.s 8)=f;generalize ftV e.s 8=w;generalize wQ (rcV (vw e.s) ta 8)=L;exact Z8
def kJ(e:Eng)(k:Nat)(g s:Int)(b a:Bz)(v:Nat):(Eng×Nat)×Int:=if(e.s.L.length:Int)+1+c9 e+1>60 then((e,v),7) else(((vS e k (L4 g s b a)).1,O5 (x4 e k (L4 g s b a)).s g.toNat v),0)
def a5t(e:Eng)(k:Nat)(ta:Int)(r:Rw)(gone:Bool)(f:Sto×Plc×Bool)(v:Nat):(Eng×Nat)×Int:=
 if f.2.1.a<0 then(if gone=true then((O4 e f.1,v),5) else if f.2.1.c<0 then((O4 e f.1,v),12) else kJ (O4 e f.1) k f.2.1.c f.2.1.d [] (tS ta r) v)
 else kJ (O4 e (wN e f.2.1 f.1).1) k f.2.1.a f.2.1.b (wN e f.2.1 f.1).2 (if gone=true then[] else tS ta r) (O5 f.1 f.2.1.a.toNat v)
def y9(e:Eng)(tx ta:Int)(r:Rw)(gone:Bool):(Eng×Nat)×Int:=
 if(s6 e tx ta 2 r.id 4).2=0 then a5t (s6 e tx ta 2 r.id 4).1 (P7 e tx).1.toNat ta r gone (R1 (s6 e tx ta 2 r.id 4).1 tx ta r.id 8) (kK (s6 e tx ta 2 r.id 4).1 tx ta r.id 8) else(((s6 e tx ta 2 r.id 4).1,0),(s6 e tx ta 2 r.id 4).2)
def ChQ(e:Eng)(tx ta:Int)(r:Rw):Prop:=EI e/\(1<=ta/\ta<=3)/\RwK r/\(tS ta r).length<=30/\cQ e.lk tx ta 2 r.id 4
def b0h:Con:=.reff ⟨Eng×Int×Int×Rw×Bool,λx=>[.ref 0 0 0,Ji x.2.1,Ji x.2.2.1,.agg x.2.2.2.1.ts,.bool x.2.2.2.2],λx=>x.1.bx 0,λx=>Ji (y9 x.1 x.2.1 x.2.2.1 x.2.2.2.1 x.2.2.2.2).2,λx=>(y9 x.1 x.2.1 x.2.2.1 x.2.2.2.1 x.2.2.2.2).1.1.nx (y9 x.1 x.2.1 x.2.2.1 x.2.2.2.1 x.2.2.2.2).1.2,λx=>ChQ x.1 x.2.1 x.2.2.1 x.2.2.2.1⟩
theorem a5E{a:Bool}(h:(!a)=false):a=true:=by cases a with|false=>cases h|true=>rfl
theorem a1r{e:Eng}{k:Nat}{g s:Int}{b a:Bz}{v:Nat}(h:(e.s.L.length:Int)+1+c9 e+1>60):kJ e k g s b a v=((e,v),7):=if_pos h
theorem nE{e:Eng}{k:Nat}{g s:Int}{b a:Bz}{v:Nat}(h:¬ (e.s.L.length:Int)+1+c9 e+1>60):kJ e k g s b a v=(((vS e k (L4 g s b a)).1,O5 (x4 e k (L4 g s b a)).s g.toNat v),0):=if_neg h
theorem b3f{e:Eng}(h:EI e){k:Nat}{tx:Int}(d:k<e.X.length)(hi:(e.X.getD k dz).id=tx){g s:Int}{b a:Bz}(i:0<=g/\g<=7)(f:0<=s/\s<=3)(B:b.length<=30)(A:a.length<=30)(r:e.s.L.length+c9 e+2<=60):
  AddB e tx k (L4 g s b a)/\a68 (x4 e k (L4 g s b a)).s (T0 e.s (N5 e k (L4 g s b a)))/\(vS e k (L4 g s b a)).2=true:=by
 have R:C8 (T0 e.s (N5 e k (L4 g s b a))):=h.rcp d a86 a8I (λ_=>rfl) (λe _=>absurd rfl e) ⟨Int.le_refl _,kX⟩ i f ⟨B,A⟩ (λe=>by cases e)
 have j:=h.h.t10;subst hi;exact⟨⟨h.h.at_ d,d,rfl,(R2 _).2 R,Z9,Z9,by show b.length<=_;omega,by show a.length<=_;omega⟩,⟨(h.app d R).inv,i.1,by show g<8;omega,f.1,by show s<4;omega⟩,(a1s h d i f B A r).2⟩
theorem a0c{e:Eng}{tx ta:Int}{r:Rw}{gone:Bool}(h:¬ (s6 e tx ta 2 r.id 4).2=0):y9 e tx ta r gone=(((s6 e tx ta 2 r.id 4).1,0),(s6 e tx ta 2 r.id 4).2):=if_neg h
structure LkY(e:Eng)(tx ta id:Int)(k:Nat):Prop where
 up:(P7 e tx).2=0
 kk:(P7 e tx).1=k
 lt:k<e.X.length
 hi:(e.X.getD k dz).id=tx
 eq:s6 e tx ta 2 id 4=(D7 (D7 e k ta (-1) 2) k ta id 4,0)
theorem b6F{e:Eng}{tx ta id:Int}(h:(s6 e tx ta 2 id 4).2=0):∃k,LkY e tx ta id k:=by
 by_cases hk0:(P7 e tx).2=0
 ·obtain⟨hu,k,e1,hk,hi,ha⟩:=wU hk0;refine⟨k,hk0,e1,hk,hi,?_⟩
  rw[mE hk0 e1] at h ⊢;unfold fZ at h ⊢;split at h
  ·rename_i d;rw[if_pos d];dsimp only at h ⊢;rw[h]
  ·rename_i d;exact absurd h d
 ·rw[eJ hk0] at h;exact absurd h hk0
theorem a9U{e:Eng}{tx ta:Int}{r:Rw}{gone:Bool}{k:Nat}(h:LkY e tx ta r.id k):y9 e tx ta r gone=a5t (D7 (D7 e k ta (-1) 2) k ta r.id 4) k ta r gone (R1 (D7 (D7 e k ta (-1) 2) k ta r.id 4) tx ta r.id 8) (kK (D7 (D7 e k ta (-1) 2) k ta r.id 4) tx ta r.id 8):=by
 unfold y9;rw[h.eq,if_pos rfl,h.kk,E8]
set_option maxHeartbeats 4000000 in
theorem gW:GK 27 b0h:=gk func27<|by
 rintro⟨e,tx,ta,r,gone⟩ ⟨h,A,N,hb,O⟩;dsimp only at h A N hb O ⊢;generalize q:y9 e tx ta r gone=Z;have aa:=N.2.2;have R:LokR ta (-1) 2:=⟨A,W6,W6,W6⟩
 have Y:LokR ta r.id 4:=⟨A,Z9,W6,.inr W6⟩
 refine w3 (gC b0i (gC b9p (gC b5K (gC sM (gC qS (gC a5b (gC b6r gN))))))) func27 Y7 cJ (α:=let pp:=(0=Z.2/\True);let pb:=(0=0/\0=0);∃(x:(Eng×Int×Int×Int×Int×Int)),let po:=x.2.2.2;let u:=(s6 x.1 x.2.1 x.2.2.1 po.1 po.2.1 po.2.2);((pb/\tx=x.2.1/\ta=x.2.2.1/\2=po.1/\r.id=po.2.1/\4=po.2.2/\True)/\(LnG (0) (0) e x.1)/\EI x.1/\LokR x.2.2.1 (-1:Int) po.1/\cQ x.1.lk x.2.1 x.2.2.1 po.1 po.2.1 po.2.2)/\br (u.2 !=0) ((u.2=Z.2/\True)/\aH (0) (Z.1.2) u.1 Z.1.1) (∃(X:(Eng×Int×Int×Int)),let q:=(i4 X.1 X.2.1 X.2.2.1 X.2.2.2);let y:=q.val.snd;let v:=q.val.fst;((pb/\tx=X.2.1/\ta=X.2.2.1/\r.id=X.2.2.2/\True)/\(LnG (0) (0) u.1 X.1)/\EI X.1)/\br false False (∃(x:(Int×Rw)),((ta=x.1/\(r.id=x.2.id/\r.n.k=x.2.n.k/\r.n.n=x.2.n.n/\r.n.t=x.2.n.t/\r.name.k=x.2.name.k/\r.name.n=x.2.name.n/\r.name.t=x.2.name.t/\True)/\True)/\RwK x.2/\1<=x.1/\x.1<=3)/\bd (y.a≥(0:Int)) (∃(j:(Sto×Nat×Nat)),let pc:=(O5 j.1 j.2.1 j.2.2);let z:=(Z4 j.1 j.2.1);let pu:=z.1.fr.length;let pd:=(z.1.fr.getD z.2.1 dz);((pb/\y.a=(j.2.1:Int)/\True)/\(LnS (v.snd) (j.2.2) v.fst.s j.1)/\fD j.1 j.2.1/\z.2.2=true)/\br false False (Lt z.2.1 pu/\V6 y.b pd.pg.sl.length/\PfB pc pc z.2.1 z.1.fr.length y.b.toNat pd.pg.sl.length/\∃(i:(Eng×Int)),((Le (0+z.1.d.E.length) z.1.d.E.length/\Le (0+z.1.d.C.length) z.1.d.C.length/\Le (0+z.1.d.keep.length) z.1.d.keep.length/\Le (0+z.1.L.length) z.1.L.length/\Le (0+pu) pu/\Le (0+v.fst.X.length) v.fst.X.length/\Le (0+v.fst.lk.H.length) v.fst.lk.H.length/\Le (0+v.fst.lk.W.length) v.fst.lk.W.length)/\((pY {v.fst with s:=z.1} i.1)/\2=i.2/\True)/\wG i.1/\u3 i.2)/\br (!decide ((i.1.s.L.length:Int)+(↑(c9 i.1):Int)+i.2<=60)) ((7=Z.2/\True)/\aH pc (Z.1.2) {v.fst with s:=z.1} Z.1.1) (br gone (∃(x:(Eng×Int×Rec×Nat×Nat)),let pz:=x.1.s;let pv:=x.2.2.2;let pe:=(x.1.X.getD pv.1 dz);let w:=x.2.2.1;let pk:=(pz.L++[T0 x.1.s (N5 x.1 pv.1 w)]);((pb/\tx=x.2.1/\(0=w.e/\0=w.l/\0=w.t/\2=w.k/\0=w.p/\0=w.n/\y.a=w.g/\y.b=w.s/\pd.pg.sl.getD y.b.toNat []=w.b/\[]=w.a/\True)/\True)/\(LnG pc (pv.2) {v.fst with s:=z.1} x.1)/\AddB x.1 x.2.1 pv.1 w)/\∃(o:(Sto×Rec×Nat)),let pq:=o.2.1;((pb/\(pz.ep=pq.e/\(pz.L.length:Int)+1=pq.l/\pe.id=pq.t/\w.k=pq.k/\pe.Z=pq.p/\w.n=pq.n/\w.g=pq.g/\w.s=pq.s/\w.b=pq.b/\w.a=pq.a/\True)/\True)/\(pG {x.1.s with L:=pk} o.1/\(Z2 Z5 pz.d.E o.1.d.E)/\(Z2 Y8 pz.d.C o.1.d.C)/\(Z2 Y9 pz.d.keep o.1.d.keep)/\(Z2 Y0 pk o.1.L)/\(pv.2=o.2.2/\pz.fr.length=o.1.fr.length/\V3 pz.fr.length (Z1 pz.fr) (Z1 o.1.fr))/\True)/\a68 o.1 pq)/\br (!(S0 o.1 pq).2) False (pp/\aH (O5 o.1 pq.g.toNat o.2.2) (Z.1.2) {x.1 with s:=(S0 o.1 pq).1,X:=(x.1.X.set pv.1 (Txn.mk pe.id ((pz.L.length:Int)+1)))} Z.1.1)) (∃(o:(Eng×Int×Rec×Nat×Nat)),let qa:=o.1.s;let pw:=o.2.2.2;let pf:=(o.1.X.getD pw.1 dz);let m:=o.2.2.1;let pm:=(qa.L++[T0 o.1.s (N5 o.1 pw.1 m)]);((pb/\tx=o.2.1/\(0=m.e/\0=m.l/\0=m.t/\2=m.k/\0=m.p/\0=m.n/\y.a=m.g/\y.b=m.s/\pd.pg.sl.getD y.b.toNat []=m.b/\tS x.1 x.2=m.a/\True)/\True)/\(LnG pc (pw.2) {v.fst with s:=z.1} o.1)/\AddB o.1 o.2.1 pw.1 m)/\∃(x:(Sto×Rec×Nat)),let pr:=x.2.1;((pb/\(qa.ep=pr.e/\(qa.L.length:Int)+1=pr.l/\pf.id=pr.t/\m.k=pr.k/\pf.Z=pr.p/\m.n=pr.n/\m.g=pr.g/\m.s=pr.s/\m.b=pr.b/\m.a=pr.a/\True)/\True)/\(pG {o.1.s with L:=pm} x.1/\(Z2 Z5 qa.d.E x.1.d.E)/\(Z2 Y8 qa.d.C x.1.d.C)/\(Z2 Y9 qa.d.keep x.1.d.keep)/\(Z2 Y0 pm x.1.L)/\(pw.2=x.2.2/\qa.fr.length=x.1.fr.length/\V3 qa.fr.length (Z1 qa.fr) (Z1 x.1.fr))/\True)/\a68 x.1 pr)/\br (!(S0 x.1 pr).2) False (pp/\aH (O5 x.1 pr.g.toNat x.2.2) (Z.1.2) {o.1 with s:=(S0 x.1 pr).1,X:=(o.1.X.set pw.1 (Txn.mk pf.id ((qa.L.length:Int)+1)))} Z.1.1))))) (br gone ((5=Z.2/\True)/\aH (v.snd) (Z.1.2) v.fst Z.1.1) (bd (y.c<0) ((12=Z.2/\True)/\aH (v.snd) (Z.1.2) v.fst Z.1.1) (∃(j:(Eng×Int)),((LeG v.fst)/\((pY v.fst j.1)/\2=j.2/\True)/\wG j.1/\u3 j.2)/\br (!decide ((j.1.s.L.length:Int)+(↑(c9 j.1):Int)+j.2<=60)) ((7=Z.2/\True)/\aH (v.snd) (Z.1.2) v.fst Z.1.1) (br gone (∃(x:(Eng×Int×Rec×Nat×Nat)),let qb:=x.1.s;let px:=x.2.2.2;let ph:=(x.1.X.getD px.1 dz);let f:=x.2.2.1;let pn:=(qb.L++[T0 x.1.s (N5 x.1 px.1 f)]);((pb/\tx=x.2.1/\(0=f.e/\0=f.l/\0=f.t/\2=f.k/\0=f.p/\0=f.n/\y.c=f.g/\y.d=f.s/\[]=f.b/\[]=f.a/\True)/\True)/\(LnG (v.snd) (px.2) v.fst x.1)/\AddB x.1 x.2.1 px.1 f)/\∃(i:(Sto×Rec×Nat)),let ps:=i.2.1;((pb/\(qb.ep=ps.e/\(qb.L.length:Int)+1=ps.l/\ph.id=ps.t/\f.k=ps.k/\ph.Z=ps.p/\f.n=ps.n/\f.g=ps.g/\f.s=ps.s/\f.b=ps.b/\f.a=ps.a/\True)/\True)/\(pG {x.1.s with L:=pn} i.1/\(Z2 Z5 qb.d.E i.1.d.E)/\(Z2 Y8 qb.d.C i.1.d.C)/\(Z2 Y9 qb.d.keep i.1.d.keep)/\(Z2 Y0 pn i.1.L)/\(px.2=i.2.2/\qb.fr.length=i.1.fr.length/\V3 qb.fr.length (Z1 qb.fr) (Z1 i.1.fr))/\True)/\a68 i.1 ps)/\br (!(S0 i.1 ps).2) False (pp/\aH (O5 i.1 ps.g.toNat i.2.2) (Z.1.2) {x.1 with s:=(S0 i.1 ps).1,X:=(x.1.X.set px.1 (Txn.mk ph.id ((qb.L.length:Int)+1)))} Z.1.1)) (∃(i:(Eng×Int×Rec×Nat×Nat)),let qc:=i.1.s;let py:=i.2.2.2;let pi:=(i.1.X.getD py.1 dz);let pa:=i.2.2.1;let pj:=(qc.L++[T0 i.1.s (N5 i.1 py.1 pa)]);((pb/\tx=i.2.1/\(0=pa.e/\0=pa.l/\0=pa.t/\2=pa.k/\0=pa.p/\0=pa.n/\y.c=pa.g/\y.d=pa.s/\[]=pa.b/\tS x.1 x.2=pa.a/\True)/\True)/\(LnG (v.snd) (py.2) v.fst i.1)/\AddB i.1 i.2.1 py.1 pa)/\∃(x:(Sto×Rec×Nat)),let pt:=x.2.1;((pb/\(qc.ep=pt.e/\(qc.L.length:Int)+1=pt.l/\pi.id=pt.t/\pa.k=pt.k/\pi.Z=pt.p/\pa.n=pt.n/\pa.g=pt.g/\pa.s=pt.s/\pa.b=pt.b/\pa.a=pt.a/\True)/\True)/\(pG {i.1.s with L:=pj} x.1/\(Z2 Z5 qc.d.E x.1.d.E)/\(Z2 Y8 qc.d.C x.1.d.C)/\(Z2 Y9 qc.d.keep x.1.d.keep)/\(Z2 Y0 pj x.1.L)/\(py.2=x.2.2/\qc.fr.length=x.1.fr.length/\V3 qc.fr.length (Z1 qc.fr) (Z1 x.1.fr))/\True)/\a68 x.1 pt)/\br (!(S0 x.1 pt).2) False (pp/\aH (O5 x.1 pt.g.toNat x.2.2) (Z.1.2) {i.1 with s:=(S0 x.1 pt).1,X:=(i.1.X.set py.1 (Txn.mk pi.id ((qc.L.length:Int)+1)))} Z.1.1))))))))) ⟨(e,tx,ta,2,r.id,4),⟨Z8,Z8,h,R,O⟩,λQ=>?_,λQ=>?_⟩
 ·rw[←q,a0c (kV Q)];exact Z8
 have Q:(s6 e tx ta 2 r.id 4).2=0:=oN Q;obtain⟨k,L⟩:=b6F Q;rw[a9U L] at q;have E2:=uC (uC h L.lt R) (k:=k) L.lt Y;have hk:k<(D7 (D7 e k ta (-1) 2) k ta r.id 4).X.length:=L.lt;have hi:((D7 (D7 e k ta (-1) 2) k ta r.id 4).X.getD k dz).id=tx:=L.hi;dsimp only;rw[L.eq];dsimp only;generalize D7 (D7 e k ta (-1) 2) k ta r.id 4=e2 at*;clear Q L h O R Y;refine⟨(e2,tx,ta,r.id),⟨Z8,Z8,E2⟩,λM=>(by cases M),λ_=>?_⟩
 dsimp only;rw[(i4 e2 tx ta r.id).2];dsimp only;obtain⟨B,C,_,hpl⟩:=rH E2.g tx ta r.id 8 (U9 _);generalize R1 e2 tx ta r.id 8=f at*;generalize kK e2 tx ta r.id 8=v at*;obtain⟨fs,fp,fl⟩:=f;dsimp only at B C hpl q ⊢;refine⟨(ta,r),⟨Z8,N,A.1,A.2⟩,λha=>?_,λha=>?_⟩
 ·have ha:fp.a≥0:=D4 ha;have hna:¬fp.a<0:=by omega
  have U:=hpl.1.resolve_left Z9
  have z:(pI fp).b=fp.b:=if_neg hna;have eW:Z=kJ (O4 e2 (wN e2 fp fs).1) k fp.a fp.b (wN e2 fp fs).2 (if gone=true then[] else tS ta r) (O5 fs fp.a.toNat v):=by
   rw[←q];unfold a5t;dsimp only;rw[if_neg hna]
  clear q;rw[z];have F:(pI fp).a=fp.a:=rfl;rw[F];obtain⟨s1,s2,s3,s4,W,V⟩:=a1x (e:=e2) B U;have E3:=cK E2 s1 (s2.trans C);refine⟨(fs,fp.a.toNat,v),⟨⟨Z8,X0,Z6⟩,Z8,⟨B.inv,X0⟩,s4⟩,λM=>(by cases M),λ_=>⟨W,⟨Z9,by dsimp only;rw[V];omega⟩,⟨rfl,W,by dsimp only;rw[V];omega⟩,(O4 e2 (wN e2 fp fs).1,2),⟨⟨dY _,dY _,dY _,dY _,dY _,dY _,dY _,dY _⟩,⟨⟨⟨rfl,W2 _ _⟩,⟨rfl,W2 _ _⟩,rfl,⟨rfl,W2 _ _⟩,rfl,⟨rfl,W2 _ _⟩,rfl,⟨rfl,λ_ _=>rfl⟩,rfl,rfl,Z8,Z8,Z8,rfl,Z6⟩,Z8⟩,bJ E3,a8t⟩,λhc=>?_,λhc=>⟨λhg=>?_,λhg=>?_⟩⟩⟩
  ·have hc:=q8 (a3X hc);rw[eW,a1r lL]
   exact Z8
  ·have hc:=D4 (a5E hc);rw[if_pos hg] at eW;obtain⟨hA,hP,hU⟩:=b3f E3 hk hi (g:=fp.a) (s:=fp.b) (b:=(wN e2 fp fs).2) (a:=[]) Z9 Z9 s3 (N7 _) lL
   exact⟨((O4 e2 (wN e2 fp fs).1),tx,L4 fp.a fp.b (wN e2 fp fs).2 [],k,(O5 fs fp.a.toNat v)),⟨Z8,Z8,hA⟩,((x4 (O4 e2 (wN e2 fp fs).1) k (L4 fp.a fp.b (wN e2 fp fs).2 [])).s,T0 (O4 e2 (wN e2 fp fs).1).s (N5 (O4 e2 (wN e2 fp fs).1) k (L4 fp.a fp.b (wN e2 fp fs).2 [])),(O5 fs fp.a.toNat v)),⟨Z8,Z8,hP⟩,λu=>(by
      have u:(vS (O4 e2 (wN e2 fp fs).1) k (L4 fp.a fp.b (wN e2 fp fs).2 [])).2=false:=a3X u;rw[hU] at u;cases u),λ_=>(by
      rw[eW,nE lL]
      exact Z8)⟩
  ·have hc:=D4 (a5E hc);rw[if_neg (by rw[hg];simp)] at eW
   obtain⟨hA,hP,hU⟩:=b3f E3 hk hi (g:=fp.a) (s:=fp.b) (b:=(wN e2 fp fs).2) (a:=(tS ta r)) Z9 Z9 s3 hb lL
   exact⟨((O4 e2 (wN e2 fp fs).1),tx,L4 fp.a fp.b (wN e2 fp fs).2 (tS ta r),k,(O5 fs fp.a.toNat v)),⟨Z8,Z8,hA⟩,((x4 (O4 e2 (wN e2 fp fs).1) k (L4 fp.a fp.b (wN e2 fp fs).2 (tS ta r))).s,T0 (O4 e2 (wN e2 fp fs).1).s (N5 (O4 e2 (wN e2 fp fs).1) k (L4 fp.a fp.b (wN e2 fp fs).2 (tS ta r))),(O5 fs fp.a.toNat v)),⟨Z8,Z8,hP⟩,λu=>(by
      have u:(vS (O4 e2 (wN e2 fp fs).1) k (L4 fp.a fp.b (wN e2 fp fs).2 (tS ta r))).2=false:=a3X u;rw[hU] at u;cases u),λ_=>(by
      rw[eW,nE lL]
      exact Z8)⟩
 ·have ha:fp.a<0:=by have:¬fp.a≥0:=q8 ha;omega
  have E3:=cK E2 B C;have eW:Z=if gone=true then((O4 e2 fs,v),5) else if fp.c<0 then((O4 e2 fs,v),12) else kJ (O4 e2 fs) k fp.c fp.d [] (tS ta r) v:=by
   rw[←q];unfold a5t;dsimp only;rw[if_pos ha]
  clear q;refine⟨λhg=>?_,λhg=>⟨λhc=>?_,λhc=>?_⟩⟩
  ·rw[eW,if_pos hg];exact Z8
  ·have hc:fp.c<0:=D4 hc;rw[eW,if_neg (by rw[hg];simp),if_pos hc]
   exact Z8
  ·have hnc:¬fp.c<0:=q8 hc;have hpc:=hpl.2.resolve_left Z9
   have z:(pI fp).d=fp.d:=if_neg hnc;have I:(pI fp).c=fp.c:=rfl;rw[if_neg (by rw[hg];simp),if_neg hnc] at eW
   rw[z,I];refine⟨(O4 e2 fs,2),⟨Z8,Z8,bJ E3,a8t⟩,λhc=>?_,λhc=>⟨λJ=>?_,λ_=>?_⟩⟩
   ·have hc:=q8 (a3X hc);rw[eW,a1r lL]
    exact Z8
   ·rw[J] at hg;cases hg
   ·have hc:=D4 (a5E hc);obtain⟨hA,hP,hU⟩:=b3f E3 hk hi (g:=fp.c) (s:=fp.d) (b:=[]) (a:=(tS ta r)) Z9 Z9 (N7 _) hb lL
    exact⟨((O4 e2 fs),tx,L4 fp.c fp.d [] (tS ta r),k,v),⟨Z8,Z8,hA⟩,((x4 (O4 e2 fs) k (L4 fp.c fp.d [] (tS ta r))).s,T0 (O4 e2 fs).s (N5 (O4 e2 fs) k (L4 fp.c fp.d [] (tS ta r))),v),⟨Z8,Z8,hP⟩,λu=>(by
      have u:(vS (O4 e2 fs) k (L4 fp.c fp.d [] (tS ta r))).2=false:=a3X u;rw[hU] at u;cases u),λ_=>(by
      rw[eW,nE lL]
      exact Z8)⟩
structure Pw(m:Nat)(e f:Eng):Prop where
 ei:EI f
 ln:f.X.length=e.X.length
 id:∀i,(f.X.getD i dz).id=(e.X.getD i dz).id
 nx:f.N=e.N
 lg:f.s.L.length<=e.s.L.length+m
 fw:∃l:List (Nat×Nat),l.length<=m/\∀n i,(n,i) ∉ l->vw f.s n i=vw e.s n i
theorem Pw.up{m n:Nat}{e f:Eng}(h:Pw m e f)(M:m<=n):Pw n e f:=by
 obtain⟨a,b,c,d,g,l,j,i⟩:=h;exact⟨a,b,c,d,Z9,l,Z9,i⟩
theorem Pw.tr{m n:Nat}{e f g:Eng}(a:Pw m e f)(b:Pw n f g):Pw (m+n) e g:=by
 obtain⟨_,q,r,t,u,l,z,A⟩:=a;obtain⟨o,B,b2,j,x,k,v,d⟩:=b;refine⟨o,B.trans q,λi=>(b2 i).trans (r i),j.trans t,Z9,l++k,by rw[J3];omega,λn i h=>?_⟩
 rw[List.mem_append,not_or] at h;rw[d n i h.2,A n i h.1]
theorem bP{e f:Eng}(h:EI f)(t:f.X=e.X)(N:f.N=e.N)(l:f.s.L=e.s.L)(hv:vw f.s=vw e.s):Pw 0 e f:=
 ⟨h,by rw[t],λi=>by rw[t],N,by rw[l];exact U9 _,[],U9 _,λn i _=>by rw[hv]⟩
theorem c2c{e:Eng}(h:EI e){k:Nat}(hk:k<e.X.length){g s:Int}{b a:Bz}(o:0<=g/\g<=7)(j:0<=s/\s<=3)(q:b.length<=30)(A:a.length<=30)(R:e.s.L.length+c9 e+2<=60):Pw 1 e (vS e k (L4 g s b a)).1:=by
 have E:=(a1s h hk o j q A R).1;have x:C8 (T0 e.s (N5 e k (L4 g s b a))):=h.rcp hk a86 a8I (λ_=>rfl) (λe _=>absurd rfl e) ⟨Int.le_refl _,kX⟩ o j ⟨q,A⟩ (λe=>by cases e)
 have r:=h.app hk x;have d:=tQ e k (L4 g s b a);have t:0<=(T0 e.s (N5 e k (L4 g s b a))).g/\(T0 e.s (N5 e k (L4 g s b a))).g<8:=⟨o.1,by show g<8;omega⟩
 have B:0<=(T0 e.s (N5 e k (L4 g s b a))).s/\(T0 e.s (N5 e k (L4 g s b a))).s<4:=⟨j.1,by show s<4;omega⟩
 have b2:1<=(T0 e.s (N5 e k (L4 g s b a))).l/\(T0 e.s (N5 e k (L4 g s b a))).l<=(x4 e k (L4 g s b a)).s.L.length:=⟨by show(1:Int)<=(e.s.L.length:Int)+1;omega,by show(e.s.L.length:Int)+1<=_;rw[d];exact Int.le_refl _⟩
 have V:vw (vS e k (L4 g s b a)).1.s=b4H g.toNat s.toNat a (vw e.s):=c3b r t B b2 A;have Lg:(vS e k (L4 g s b a)).1.s.L=e.s.L++[T0 e.s (N5 e k (L4 g s b a))]:=(b4f r t B b2 A).2.2.1;have T:(vS e k (L4 g s b a)).1.X=e.X.set k ⟨(e.X.getD k dz).id,(e.s.L.length:Int)+1⟩:=rfl;have N:(vS e k (L4 g s b a)).1.N=e.N:=rfl;generalize (vS e k (L4 g s b a)).1=f at*;refine⟨E,by rw[T,zN],λi=>?_,N,by rw[Lg,J3,List.length_singleton];exact U9 _,[(g.toNat,s.toNat)],U9 _,λn i u=>?_⟩
 ·rw[T,xG _ i hk];split
  ·rename_i v;rw[v]
  ·rfl
 ·rw[V];unfold b4H;rw[if_neg λe=>u (by rw[e.1,e.2];exact List.mem_singleton.2 rfl)]
theorem a8z{e:Eng}(h:EI e){k:Nat}(d:k<e.X.length){g s:Int}{b a:Bz}{v:Nat}(i:0<=g/\g<=7)(f:0<=s/\s<=3)(B:b.length<=30)(A:a.length<=30):Pw 1 e (kJ e k g s b a v).1.1:=by
 by_cases C:(e.s.L.length:Int)+1+c9 e+1>60
 ·rw[a1r C];exact(bP h rfl rfl rfl rfl).up (N7 _)
 ·rw[nE C];exact c2c h d i f B A Z9
theorem b9f{e:Eng}(h:EI e){k:Nat}(l:k<e.X.length){tx ta:Int}{r:Rw}{gone:Bool}{v:Nat}(B:(tS ta r).length<=30):Pw 1 e (a5t e k ta r gone (R1 e tx ta r.id 8) v).1.1:=by
 obtain⟨i,d,u,g4⟩:=rH h.g tx ta r.id 8 (U9 _);have hv:=a5w h.g tx ta r.id 8 (U9 _);generalize R1 e tx ta r.id 8=f at*;have E:=cK h i d;have F:Pw 0 e (O4 e f.1):=bP E rfl rfl d hv;unfold a5t;split
 ·split
  ·exact F.up (N7 _)
  ·split
   ·exact F.up (N7 _)
   ·rename_i _ _ hc;have hC:=g4.2.resolve_left Z9
    exact F.tr (a8z E l ⟨hC.1,hC.2.1⟩ hC.2.2 (N7 _) B)
 ·rename_i ha;have hA:=g4.1.resolve_left Z9
  obtain⟨o,n,q,t,_⟩:=a1x (e:=e) i hA;have j:vw (wN e f.2.1 f.1).1=vw f.1:=a7J i Z9
  have E2:=cK h o (n.trans d);have F2:Pw 0 e (O4 e (wN e f.2.1 f.1).1):=bP E2 rfl rfl (n.trans d) (j.trans hv);refine F2.tr (a8z E2 l ⟨hA.1,hA.2.1⟩ hA.2.2 q ?_)
  split
  ·exact N7 _
  ·exact B
theorem a9I{e:Eng}(h:EI e){k:Nat}(d:k<e.X.length){ta row mo:Int}(r:LokR ta row mo):Pw 0 e (D7 e k ta row mo):=bP (uC h d r) rfl rfl rfl rfl
theorem fF{e:Eng}(h:EI e){tx ta:Int}{r:Rw}{gone:Bool}(t:1<=ta/\ta<=3)(hi:0<=r.id/\r.id<=1000)(B:(tS ta r).length<=30):Pw 1 e (y9 e tx ta r gone).1.1:=by
 have r1:LokR ta (-1) 2:=⟨t,W6,W6,W6⟩
 have R:LokR ta r.id 4:=⟨t,Z9,W6,.inr W6⟩
 by_cases hq:(s6 e tx ta 2 r.id 4).2=0
 ·obtain⟨k,L⟩:=b6F hq;have F1:=a9I h L.lt r1;have F2:=F1.tr (a9I F1.ei (k:=k) L.lt R);rw[a9U L];exact F2.tr (b9f F2.ei (k:=k) L.lt B)
 ·rw[a0c hq];by_cases h0:(P7 e tx).2=0
  ·obtain⟨hu,k,e1,hk,_,ha⟩:=wU h0;have F1:=a9I h hk r1;rw[mE h0 e1];unfold fZ;split
   ·exact(F1.tr (a9I F1.ei (k:=k) hk R)).up (N7 _)
   ·exact F1.up (N7 _)
  ·rw[eJ h0];exact(bP h rfl rfl rfl rfl).up (N7 _)
theorem c5q{e:Eng}(h:EI e)(d:e.X.length=1){tx ta id:Int}(x:(e.X.getD 0 dz).id=tx)(t:1<=ta/\ta<=3):cQ e.lk tx ta 2 id 4:=by
 have r:LokR ta (-1) 2:=⟨t,W6,W6,W6⟩
 have a:=c1K h d ta (-1) 2;have b:=c1K (uC h (k:=0) Z9 r) d ta id 4
 rw[wE x] at a;rw[wE (e:=D7 e 0 ta (-1) 2) (k:=0) x] at b;refine⟨a,λ_=>?_⟩
 have f:(D7 e 0 ta (-1) 2).lk=(X1 e.lk ⟨tx,ta,-1,2⟩).1:=by
  show(X1 e.lk (P1 e 0 ta (-1) 2)).1=_;rw[wE x]
 rw[←f];exact b
end
end Go.Proofs.YtlbmgnomkjmafaaGreat
