/- A part of the proof. -/
import Derived.Test.YtokaojbaacnngaaGreatE4
import Derived.RangeFuncNested
import Derived.RangeFuncBound
import Derived.RangeFuncCalls
import Derived.RangeFuncBox
import Derived.RangeFuncLeaves
import Derived.Shelf.Abstract
import Derived.WalkKit
import Derived.OwnWalkIn
import Derived.TacticsInMore
import Derived.LoopNIn
import Derived.LoopIn
namespace Go.Proofs.YtokaojbaacnngaaGreat
open Go.SS Go.RowKit Go.Shelf
attribute [local go_sem] Oper.semAt_some

structure Pend where
 at_:Int
 d:List UInt8
 deriving Inhabited
def Pend.ts(p:Pend):List T:=[.int .i64 p.at_,.str p.d]
def Pend.val(p:Pend):Value:=.agg #[.int .i64 p.at_,.string ⟨p.d.toArray⟩]
def yE{α:Type}(f:Nat->α)(k:Nat):List α:=(List.range k).map f
theorem tO{α:Type}(f:Nat->α)(k:Nat):yE f (k+1)=yE f k++[f k]:=by simp[yE,List.range_succ]
theorem gW{α:Type}(f:Nat->α)(k:Nat):(yE f k).length=k:=by simp[yE]
def bwF(ps:Nat->Pend)(len j:Nat):Nat×Pend:=(len-1-j,ps (len-1-j))
def bwE(x:Nat×Pend):Array Value:= #[.int .i64 (x.1:Int),x.2.val]

def KpB(n₀ Bs:Nat)(A B:World):Prop:=Below n₀ A B/\∀v,A.cell? ⟨Bs,0,none⟩=some v->B.cell? ⟨Bs,0,none⟩=some v
theorem KpB.refl(n₀ Bs:Nat)(A:World):KpB n₀ Bs A A:=⟨Below.refl _ _,λ_ h=>h⟩
theorem KpB.trans{n₀ Bs:Nat}{A B C:World}(h:KpB n₀ Bs A B)(k:KpB n₀ Bs B C):KpB n₀ Bs A C:=⟨h.1.trans k.1,λv hv=>k.2 v (h.2 v hv)⟩
set_option maxRecDepth 100000 in
set_option maxHeartbeats 2000000 in
theorem b8l(F:Fence)(n:Nat)(h8:F.fn 278)(hro:F.round=none)(hn:1<=n)(l Bs n₀ b off len cap:Nat)(ps:Nat->Pend)(hreach:len<1000000000000)(hb:b<n₀)(J Jx:List (Nat×Pend)->World->Prop)
  (hY:∀pre x W,J pre W->pre.length<len->YieldAt F (n-1) Tryz.prog l (bwE x) W λe W'=>
   (e= .returned (.bool true)/\J (pre++[x]) W'/\KpB n₀ Bs W W')∨(e= .returned (.bool false)/\Jx (pre++[x]) W'))
  (W:World) (hBs:W.cell? ⟨Bs,0,none⟩=some (.slice (some ⟨b,off,none⟩) len cap))
  (hc0:∀j,j<len->W.cell? ⟨b,off+j*2,none⟩=some (.int .i64 (ps j).at_)) (hc1:∀j,j<len->W.cell? ⟨b,off+j*2+1,none⟩=some (.string ⟨(ps j).d.toArray⟩)) (h0:J [] W):
  CallsIn F n Tryz.prog 278 #[.func (.yield l) #[] #[],.pointer (some ⟨Bs,0,none⟩)] W λe W'=>(∃v,e= .returned v)/\
   ((∃ys,ys=yE (bwF ps len) len/\J ys W')∨(∃pre,(∃k,k<=len/\pre=yE (bwF ps len) k)/\Jx pre W')):=by
 refine callsIn_of_wp Tryz.func278 rfl h8 ?_ hro
 simp only[Tryz.ntmps278,List.size_toArray,List.length_cons,List.length_nil,Nat.reduceAdd,Nat.reduceSub,Array.replicate_succ,Array.replicate_zero,List.push_toArray,List.append_toArray,List.nil_append,List.cons_append]
 gi_wp2
 gi_loopw [3] (λi wr=>∃k:Nat,k<=len/\i= .int .i64 ((len:Int)-1-k)/\J (yE (bwF ps len) k) wr/\KpB n₀ Bs W wr)
  (λi _=>(intOf i+1).toNat)
 case atStart=>exact⟨0,S7 _,by simp,h0,KpB.refl _ _ _⟩
 case round=>
  obtain⟨k,hk,rfl,hJs,hnx⟩:=hrel;have hBx:wr.cell? ⟨Bs,0,none⟩=some (.slice (some ⟨b,off,none⟩) len cap):=hnx.2 _ hBs;by_cases hlt:k<len
  ·obtain⟨m,hm⟩:∃m,len=k+1+m:=⟨len-1-k,by omega⟩
   have hfk:bwF ps len k=(m,ps m):=by unfold bwF;rw[show len-1-k=m by omega]
   have e1:(len:Int)-1-k=(m:Int):=by omega
   rw[e1];have hm1:m<len:=by omega
   have hm2:len<=m+k+1:=by omega
   have hm3:m+k+1<=len:=by omega
   clear hm e1;have hx0:=(hnx.1.cell (p:=⟨b,off+m*2,none⟩) hb).trans (hc0 m (by omega))
   have hx1:=(hnx.1.cell (p:=⟨b,off+m*2+1,none⟩) hb).trans (hc1 m (by omega))
   obtain⟨fn,tmps,assign,body,hy,hR⟩:=hY _ (m,ps m) wr hJs (by rw[gW];exact hlt)
   dsimp only[bwE,Pend.val] at hy
   gi_wp2
   refine hR.mono ?_
   rintro e W3 (⟨rfl,hJ3,hk3⟩|⟨rfl,hJx3⟩)
   ·gi_wp2
    go_roundw
    case rel=>exact⟨k+1,by omega,by congr 1;omega,by rw[tO,hfk];exact hJ3,hnx.trans hk3⟩
    case measure=>(simp[intOf]<;>omega)
   ·gi_wp2
    refine bodyPost_ret (results_none rfl _ _ _) rfl ?_
    exact⟨⟨_,rfl⟩,.inr ⟨_,⟨k+1,by omega,by rw[tO,hfk]⟩,hJx3⟩⟩
  ·obtain rfl:k=len:=by omega
   have e1:((k:Nat):Int)-1-k= -1:=by omega
   rw[e1]
   gi_wp2
   go_end0
   exact⟨⟨_,rfl⟩,.inl ⟨_,rfl,hJs⟩⟩
set_option maxRecDepth 100000 in
set_option maxHeartbeats 1000000 in
theorem a3K(F:Fence)(n:Nat)(h8:F.fn 278)(hro:F.round=none)(l Bs cap:Nat)(a:Option Addr)(J:List (Nat×Pend)->World->Prop)(W:World)(hBs:W.cell? ⟨Bs,0,none⟩=some (.slice a 0 cap))(h0:J [] W):
  CallsIn F n Tryz.prog 278 #[.func (.yield l) #[] #[],.pointer (some ⟨Bs,0,none⟩)] W λe W'=>(∃v,e= .returned v)/\J [] W':=by
 refine callsIn_of_wp Tryz.func278 rfl h8 ?_ hro
 simp only[Tryz.ntmps278,List.size_toArray,List.length_cons,List.length_nil,Nat.reduceAdd,Nat.reduceSub,Array.replicate_succ,Array.replicate_zero,List.push_toArray,List.append_toArray,List.nil_append,List.cons_append]
 gi_wp2
 gi_loopw [3] (λi wr=>i= .int .i64 (-1)/\J [] wr) (λ_ _=>0)
 case atStart=>exact⟨rfl,h0⟩
 case round=>
  obtain⟨rfl,hJs⟩:=hrel
  gi_wp2
  go_end0
  exact⟨⟨_,rfl⟩,hJs⟩
set_option maxHeartbeats 1000000 in
theorem b9r(F:Fence)(n:Nat)(h6:F.fn 254)(hro:F.round=none)(a:Option Addr)(len cap:Nat)(w:World):
  CallsIn F n Tryz.prog 254 #[.slice a len cap] w λe w'=>e= .returned (.func (.func 278) #[] #[.pointer (some ⟨w.heap.size,0,none⟩)])/\w'=w.alloc (.cells #[.slice a len cap] 39):=by
 refine callsIn_of_wp Tryz.func254 rfl h6 ?_ hro
 simp only[Tryz.ntmps254,List.size_toArray,List.length_cons,List.length_nil,Nat.reduceAdd,Nat.reduceSub,Array.replicate_succ,Array.replicate_zero,List.push_toArray,List.append_toArray,List.nil_append,List.cons_append]
 gi_wp2
 go_ret
 exact Z7
def k9(n₀:Nat)(W:World)(sv:Value)(len:Nat)(ps:Nat->Pend):Prop:=
 (∃a cap,sv= .slice a 0 cap/\len=0)∨∃b off cap,sv= .slice (some ⟨b,off,none⟩) len cap/\b<n₀/\∀j,j<len->W.cell? ⟨b,off+j*2,none⟩=some (.int .i64 (ps j).at_)/\W.cell? ⟨b,off+j*2+1,none⟩=some (.string ⟨(ps j).d.toArray⟩)
theorem k9.below{n₀:Nat}{A B:World}(h:Below n₀ A B){sv:Value}{len:Nat}{ps:Nat->Pend}:k9 n₀ A sv len ps->k9 n₀ B sv len ps
 | .inl e=>.inl e
 | .inr ⟨b,off,cap,e,hb,hc⟩=>.inr ⟨b,off,cap,e,hb,λj hj=>⟨(h.cell (p:=⟨b,off+j*2,none⟩) hb).trans (hc j hj).1,(h.cell (p:=⟨b,off+j*2+1,none⟩) hb).trans (hc j hj).2⟩⟩
theorem b0f(F:Fence)(n:Nat)(h8:F.fn 278)(hro:F.round=none)(hn:1<=n)(Bs n₀:Nat)(sv:Value)(len:Nat)(ps:Nat->Pend)(hreach:len<1000000000000)(w:World)(hBs:Bs<w.heap.size)(hn₀:n₀<=w.heap.size)
  (hc:w.cell? ⟨Bs,0,none⟩=some sv) (hI:k9 n₀ w sv len ps):
  SeqStopsK F n Tryz.prog 278 #[.pointer (some ⟨Bs,0,none⟩)] bwE (KpB n₀ Bs) (λys=>ys=yE (bwF ps len) len)
   (λpre=>∃k,k<=len/\pre=yE (bwF ps len) k) len w:=λl J Jx W hW _ _ hY h0=>by
 have hc':=(hW.cell (p:=⟨Bs,0,none⟩) hBs).trans hc;rcases hI.below (hW.mono hn₀) with⟨a,cap,rfl,rfl⟩|⟨b,off,cap,rfl,hb,hcs⟩
 ·exact(a3K F n h8 hro l Bs cap a J W hc' h0).mono λe W' ⟨he,hj⟩=>⟨he,.inl ⟨_,rfl,hj⟩⟩
 ·exact b8l F n h8 hro hn l Bs n₀ b off len cap ps hreach hb J Jx hY W hc' (λj hj=>(hcs j hj).1) (λj hj=>(hcs j hj).2) h0
theorem k9.mono{n n':Nat}{W:World}{sv:Value}{len:Nat}{ps:Nat->Pend}(h:n<=n'):k9 n W sv len ps->k9 n' W sv len ps
 | .inl e=>.inl e
 | .inr ⟨b,off,cap,e,hb,hc⟩=>.inr ⟨b,off,cap,e,vV hb h,hc⟩
def nR(n₀:Nat)(W:World)(sv:Value)(m:Nat)(L:List (List UInt8)):Prop:=∃b off cap,sv= .slice (some ⟨b,off,none⟩) m cap/\b<n₀/\∀j,j<m->W.cell? ⟨b,off+j,none⟩=some (.string ⟨(L.getD j []).toArray⟩)
theorem nR.below{n₀:Nat}{A B:World}(h:Below n₀ A B){sv:Value}{m:Nat}{L:List (List UInt8)}:nR n₀ A sv m L->nR n₀ B sv m L:=
 λ⟨b,off,cap,e,hb,hc⟩=>⟨b,off,cap,e,hb,λj hj=>(h.cell (p:=⟨b,off+j,none⟩) hb).trans (hc j hj)⟩
theorem lA(w:World)(cs:Array Value)(t:TypeId)(j:Nat){v:Value}(h:cs[j]? =some v):(w.alloc (.cells cs t)).cell? ⟨w.heap.size,j,none⟩=some v:=by
 have:=World.alloc_heap_new w (.cells cs t);unfold World.cell?;simp only;rw[this];exact h
theorem yK{A:World}(o:Obj){p:Addr}{v:Value}(h:A.cell? p=some v):(A.alloc o).cell? p=some v:=cell_kept h (World.grownBy_alloc _ o none) (λr e=>by cases e)
theorem a7j{w:World}(cs:Array Value)(t:TypeId)(o1 o2 o3:Obj)(j:Nat){v:Value}(h:cs[j]? =some v):
  ((((w.alloc (.cells cs t)).alloc o1).alloc o2).alloc o3).cell? ⟨w.heap.size,j,none⟩=some v:=by
 exact yK _ (yK _ (yK _ (lA w cs t j h)))

set_option maxRecDepth 100000 in
set_option maxHeartbeats 4000000 in
theorem b3p(F:Fence)(n:Nat)(h3:F.fn 212)(h4:F.fn 254)(h5:F.fn 278)(hro:F.round=none)(hn:6<=n)(sec cache keep:Value)(armed:Bool)(at_:Nat)(m len:Nat)(L:List (List UInt8))(ps:Nat->Pend)(ca:Option Addr)(clen ccap:Nat)(w:World)
  (hcv:cache= .slice ca clen ccap) (hI:k9 w.heap.size w cache len ps) (hS:nR w.heap.size w sec m L) (hreach:len<1000000000000) (hat:at_<m):
  CallsIn F n Tryz.prog 212 #[.agg #[sec,cache,.bool armed,keep],.int .i64 at_] w λe W'=>
   ∃v,e= .returned v/\Below w.heap.size w W'/\((v= .string ⟨(L.getD at_ []).toArray⟩/\∀j,j<len->(ps j).at_≠at_)∨∃k,k<len/\v= .string ⟨(ps (len-1-k)).d.toArray⟩/\(ps (len-1-k)).at_=at_/\∀j,j<k->(ps (len-1-j)).at_≠at_):=by
 have h1:1<=n:=by omega
 subst hcv;refine callsIn_of_wp_marks Tryz.func212 rfl h3 ?_ hro
 simp only[Tryz.ntmps212,List.size_toArray,List.length_cons,List.length_nil,Nat.reduceAdd,Nat.reduceSub,Array.replicate_succ,Array.replicate_zero,List.push_toArray,List.append_toArray,List.nil_append,List.cons_append]
 gi_wp2_with (gi_at_call 254;refine(b9r F (n-1) h4 hro _ _ _ _).mono ?_;rintro e w' ⟨rfl,rfl⟩)
 obtain⟨W0,hW0⟩:∃W0,(((w.alloc (.cells #[sec,.slice ca clen ccap,.bool armed,keep] 41)).alloc (.cells #[.int .i64 (at_:Int)] 3)).alloc (.cells #[.string ⟨#[]⟩] 9)).alloc (.cells #[.slice ca clen ccap] 39)=W0:=⟨_,rfl⟩;have bD:W0.cell? ⟨w.heap.size,0,none⟩=some sec:=by rw[←hW0];exact a7j _ _ _ _ _ 0 rfl
 have bA:Boxed W0 (w.heap.size+1) 3 (.int .i64 (at_:Int)):=by
  have:=((Boxed.new (w.alloc (.cells #[sec,.slice ca clen ccap,.bool armed,keep] 41)) 3 (.int .i64 (at_:Int))).alloc (.cells #[.string ⟨#[]⟩] 9)).alloc (.cells #[.slice ca clen ccap] 39);rw[←hW0]
  simpa only[World.size_alloc] using this
 have bR:Boxed W0 (w.heap.size+1+1) 9 (.string ⟨#[]⟩):=by
  have:=(Boxed.new ((w.alloc (.cells #[sec,.slice ca clen ccap,.bool armed,keep] 41)).alloc (.cells #[.int .i64 (at_:Int)] 3)) 9 (.string ⟨#[]⟩)).alloc (.cells #[.slice ca clen ccap] 39);rw[←hW0]
  simpa only[World.size_alloc] using this
 have bN:Boxed W0 (w.heap.size+1+1+1) 39 (.slice ca clen ccap):=by
  have:=Boxed.new (((w.alloc (.cells #[sec,.slice ca clen ccap,.bool armed,keep] 41)).alloc (.cells #[.int .i64 (at_:Int)] 3)).alloc (.cells #[.string ⟨#[]⟩] 9)) 39 (.slice ca clen ccap);rw[←hW0]
  simpa only[World.size_alloc] using this
 have hB0:Below w.heap.size w W0:=by
  rw[←hW0];exact((((Below.refl _ w).alloc (V2 _) _).alloc (by simp) _).alloc (by simp;omega) _).alloc (by simp;omega) _
 have hsz:W0.heap.size=w.heap.size+4:=by rw[←hW0];simp
 rw[hW0];have kpB_b:∀(W:World) (l:Nat) (o o':Obj),W0.heap.size<=l->W.heap[l]? =some o->o.isCells=false->o.isWalk=false->KpB w.heap.size (w.heap.size+1+1+1) W (W.putObj l o'):=λW l o o' hl ho hc hk=>
  ⟨belowK_b (w:=w) (V2 _) W l o o' (by omega) ho hc hk,λv hv=>cell_kept hv (grownBy_putObj' _ l o') (λr e=>by cases e;exact⟨_,ho,hc⟩)⟩
 refine wpIn_rangeFunc_ownH hro h1 (gf:=278) (lb:= #[.pointer (some ⟨w.heap.size+1+1+1,0,none⟩)]) rfl h5 (enters_of Tryz.func278 (by kernel_rfl) rfl)
  (b0f F (n-1) h5 hro (by omega) (w.heap.size+1+1+1) w.heap.size _ len ps hreach W0 (by omega) (by omega) bN.cell (hI.below hB0)) KpB.trans kpB_b (Below.refl _ _) (λ_=>rfl)
  (λpre W=>(((∀x ∈ pre,x.2.at_≠(at_:Int))/\Boxed W (w.heap.size+1+1) 9 (.string ⟨#[]⟩))/\(Boxed W (w.heap.size+1) 3 (.int .i64 (at_:Int))/\W.cell? ⟨w.heap.size,0,none⟩=some sec))/\Below w.heap.size w W)
  (λc pre W=>((c= .ret/\∃ini last,pre=ini++[last]/\(∀p ∈ ini,p.2.at_≠(at_:Int))/\last.2.at_=(at_:Int)/\W.cell? ⟨w.heap.size+1+1,0,none⟩=some (.string ⟨last.2.d.toArray⟩)))/\Below w.heap.size w W)
  (OwnFrom.and (OwnFrom.and (OwnFrom.and (ownFrom_pure _ _) (Own.from (boxed_own _ _ _) _)) (OwnFrom.and (Own.from (boxed_own _ _ _) _) (Own.from (λs A B row hs hg hr=>cell_kept hs hg hr) _))) (ownFrom_below (V2 _) (by omega)))
  (λc=>OwnFrom.and (Own.from (λs A B row hs hg hr=>by obtain⟨hc,ini,last,e1,e2,e3,e4⟩:=hs;exact⟨hc,ini,last,e1,e2,e3,cell_kept e4 hg hr⟩) _) (ownFrom_below (V2 _) (by omega)))
  ⟨⟨⟨by simp,bR⟩,⟨bA,bD⟩⟩,hB0⟩
  (λx a' W=>∃Bx,w.heap.size+1+1<Bx/\(W.cell? ⟨Bx,0,none⟩=some (.int .i64 x.2.at_)/\W.cell? ⟨Bx,1,none⟩=some (.string ⟨x.2.d.toArray⟩))/\a'={tmps:= #[.agg #[sec,.slice ca clen ccap,.bool armed,keep],.int .i64 (at_:Int),.pointer (some ⟨w.heap.size,0,none⟩),.pointer (some ⟨w.heap.size+1,0,none⟩),.pointer (some ⟨w.heap.size+1+1,0,none⟩),undef,.pointer (some ⟨Bx,0,none⟩),.pointer (some ⟨w.heap.size,1,none⟩),.slice ca clen ccap,.func (.func 278) #[] #[.pointer (some ⟨w.heap.size+1+1+1,0,none⟩)],.int .i64 (x.1:Int),x.2.val,undef,undef,undef,undef,undef,undef,undef,undef,undef,undef,undef],defers:=[]})
  (λx a' _ X Y row hs hg hr=>by obtain⟨Bx,e1,⟨e2,e4⟩,e3⟩:=hs;exact⟨Bx,e1,⟨cell_kept e2 hg (λr e=>(hr r e).2),cell_kept e4 hg (λr e=>(hr r e).2)⟩,e3⟩)
  ?assign ?body ?done ?stop
 case assign=>
  rintro l pre x W K ⟨⟨⟨hp,bR1⟩,bA1,bD1⟩,hB1⟩ hK;dsimp only[bwE,Pend.val]
  gi_wp2
  exact hK _ _ ((KeepsOthers.alloc _ _).from _) ⟨(Below.refl _ W).alloc hB1.size _,λv hv=>yK _ hv⟩ ⟨⟨⟨hp,bR1.alloc _⟩,bA1.alloc _,yK _ bD1⟩,hB1.alloc hB1.size _⟩ ⟨W.heap.size,bR1.lt,⟨lA _ _ _ 0 rfl,lA _ _ _ 1 rfl⟩,rfl⟩
 case body=>
  rintro l pre x a' W hl ⟨r,hr⟩ ⟨⟨⟨hp,bR1⟩,bA1,bD1⟩,hB1⟩ ⟨Bx,hBx,⟨e2,e4⟩,rfl⟩ hlt;have cA:=bA1.cell;have cR:=bR1.cell;have fR:=bR1.frozen
  gi_wp2
  ·rename_i hx;have hx:x.2.at_=(at_:Int):=by simpa using hx
   exact⟨(KeepsOthers.setCell _ _ _).from _,⟨rfl,pre,x,rfl,hp,hx,(bR1.set _).cell⟩,hB1.setCell (p:=⟨w.heap.size+1+1,0,none⟩) (by simp;omega) _⟩
  ·rename_i hx;have hx:x.2.at_≠(at_:Int):=by simpa using hx
   exact⟨KeepsFrom.refl _ _,KpB.refl _ _ _,⟨⟨⟨λp hp'=>(List.mem_append.1 hp').elim (hp p) (λe=>by simp at e;subst e;exact hx),bR1⟩,bA1,bD1⟩,hB1⟩⟩
 case done=>
  rintro D ys W hD rfl ⟨⟨⟨hp,bR1⟩,bA1,bD1⟩,hB1⟩ hK;have cA:=bA1.cell;have cR:=bR1.cell;have fR:=bR1.frozen;obtain⟨sb,so,sc,rfl,hsb,hsc⟩:=hS;have cS:W.cell? ⟨sb,so+at_,none⟩=some (.string ⟨(L.getD at_ []).toArray⟩):=(hB1.cell (p:=⟨sb,so+at_,none⟩) hsb).trans (hsc at_ hat);have hg:(L.getD at_ []:List UInt8)=L[at_]?.getD []:=L5
  rw[hg] at cS
  gi_wp2
  have hK':=(KeepsOthers.setCell W ⟨w.heap.size+1+1,0,none⟩ (.string ⟨(L[at_]?.getD []).toArray⟩)).same D _ hK rfl;refine⟨by simp,.inl ⟨_,_,rfl,run_takeDeferred hK',?_⟩⟩
  have hc5:=cell_kept (bR1.set (.string ⟨(L[at_]?.getD []).toArray⟩)).cell (grownBy_putObj' _ D (.deferred none)) (λr e=>by cases e;exact⟨_,hK',rfl⟩)
  refine⟨.string ⟨(L[at_]?.getD []).toArray⟩,?_,_,rfl,(hB1.setCell (p:=⟨w.heap.size+1+1,0,none⟩) (by simp;omega) _).trans (belowK_b (w:=w) (V2 _) _ D _ _ (by omega) hK' rfl rfl),.inl ⟨rfl,λj hj=> ?_⟩⟩
  ·simp[results,Tryz.f212,go_sem,hc5]
  ·have:=hp (bwF ps len (len-1-j)) (by simp only[yE,List.mem_map,List.mem_range];exact⟨len-1-j,by omega,rfl⟩)
   unfold bwF at this;rw[show len-1- (len-1-j)=j by omega] at this
   exact this
 case stop=>
  rintro D c pre W hD ⟨k,hk,rfl⟩ ⟨⟨rfl,ini,last,e1,e2,e3,hcr⟩,hB1⟩ hK
  gi_wp2
  refine⟨by simp,.inl ⟨_,_,rfl,run_takeDeferred hK,?_⟩⟩
  have hc5:=cell_kept hcr (grownBy_putObj' _ D (.deferred none)) (λr e=>by cases e;exact⟨_,hK,rfl⟩)
  obtain⟨k',rfl⟩:∃k',k=k'+1:=by
   cases k with
   |zero=>simp[yE] at e1
   |succ k'=>exact⟨k',rfl⟩
  rw[tO] at e1;obtain⟨rfl,e5⟩:=List.append_inj' e1 rfl;obtain rfl:bwF ps len k'=last:=by simpa using e5
  refine⟨.string ⟨(bwF ps len k').2.d.toArray⟩,?_,_,rfl,hB1.trans (belowK_b (w:=w) (V2 _) W D _ _ (by omega) hK rfl rfl),.inr ⟨k',by omega,rfl,e3,λj hj=>e2 (bwF ps len j) (by simp only[yE,List.mem_map,List.mem_range];exact⟨j,hj,rfl⟩)⟩⟩
  simp[results,Tryz.f212,go_sem,hc5]
structure Dsk where
 sec:List (List UInt8)
 cache:List Pend
 armed:Bool
 keep:List Int
 deriving Inhabited
def Z3(L:List Pend)(i:Nat):List T:=(L.getD i default).ts
def C8(L:List Pend):T:=.sl 2 L.length (Z3 L)
def Y9(L:List Int)(i:Nat):List T:=[.int .i64 (L.getD i 0)]
def wE(L:List Int):T:=.sl 1 L.length (Y9 L)
def Dsk.ts(d:Dsk):List T:=[C0 d.sec,C8 d.cache,.bool d.armed,wE d.keep]
abbrev k4(a b:Dsk):Prop:=Y5 Z5 a.sec b.sec/\Y5 Z3 a.cache b.cache/\a.armed=b.armed/\Y5 Y9 a.keep b.keep/\True
theorem xN(d:Dsk):k4 d d:=⟨Z8,Z8,rfl,X8⟩
def K7(L:List Pend)(at_:Int):Nat->Option (List UInt8)
 |0=>none
 |n+1=>if(L.getD n default).at_=at_ then some (L.getD n default).d else K7 L at_ n
theorem pK{L:List Pend}{at_:Int}:∀{n:Nat},(∀j,j<n->(L.getD j default).at_≠at_)->K7 L at_ n=none
 |0,_=>rfl
 |n+1,h=>by
  unfold K7;rw[if_neg (h n (Nat.lt_succ_self n))];exact pK λj hj=>h j (by omega)
theorem pS{L:List Pend}{at_:Int}{i:Nat}(h:(L.getD i default).at_=at_):∀{n:Nat},i<n->(∀j,i<j->j<n->(L.getD j default).at_≠at_)->K7 L at_ n=some (L.getD i default).d
 |0,hi,_=>absurd hi (F2 i)
 |n+1,hi,hj=>by
  unfold K7;by_cases he:i=n
  ·subst he;rw[if_pos h]
  ·rw[if_neg (hj n (by omega) (Nat.lt_succ_self n))]
   exact pS h (by omega) λj h1 h2=>hj j h1 (by omega)
def S9(d:Dsk)(at_:Nat):List UInt8:=(K7 d.cache at_ d.cache.length).getD (d.sec.getD at_ [])
def AtB(x:Dsk×Nat):Prop:=x.2<x.1.sec.length/\x.1.cache.length<1000000000000
def tA:Rl:=⟨Dsk×Nat,λx=>[.agg x.1.ts,.int .i64 x.2],λx=>.str (S9 x.1 x.2),AtB⟩
def b5a:Con:=.rel tA
theorem iU{E:Env}{w:World}{sz n:Nat}{row:Nat->List T}{v:Value}(h:Rd E w (.sl sz n row) v):(∃a,v= .slice a 0 0/\n=0)∨(∃(b off cap:Nat) (u:Nat->Nat->Value),v= .slice (some ⟨b,off,none⟩) n cap/\E.N b/\
  (∀i j t,i<n->(row i)[j]? =some t->w.cell? ⟨b,off+i*sz+j,none⟩=some (u i j)/\Rd E w t (u i j))):=by
 cases h with
 |slNil=>exact .inl ⟨_,rfl,rfl⟩
 |slEmp=>exact .inl ⟨_,rfl,rfl⟩
 |sl _ _ _ b off cap u hN hc hl h1 hr ht=>exact .inr ⟨b,off,cap,u,rfl,hN,λi j t hi hj=>⟨hr i j t hi hj,ht i j t hi hj⟩⟩
theorem mY{E:Env}{w:World}{l:List UInt8}{v:Value}(h:Rd E w (.str l) v):v= .string ⟨l.toArray⟩:=by cases h;rfl
theorem nZ{E:Env}{w:World}{k:IntKind}{n:Int}{v:Value}(h:Rd E w (.int k n) v):v= .int k n:=by cases h;rfl
theorem a0x{E:Env}{w:World}{b:Bool}{v:Value}(h:Rd E w (.bool b) v):v= .bool b:=by cases h;rfl
theorem a2w{E:Env}{w:World}{cs:List T}{v:Value}(h:Rd E w (.agg cs) v):∃vs,v= .agg vs/\wU E w cs vs:=by
 cases h with
 |agg _ vs hl ht=>exact⟨vs,rfl,hl,ht⟩
theorem b41{E:Env}{w:World}{L:List (List UInt8)}{v:Value}(hE:∀b,E.N b->b<w.heap.size)(h:Rd E w (C0 L) v)(hn:0<L.length):nR w.heap.size w v L.length L:=by
 rcases iU h with⟨a,_,h0⟩|⟨b,off,cap,u,rfl,hN,hu⟩
 ·omega
 ·refine⟨b,off,cap,rfl,hE b hN,λj hj=> ?_⟩
  obtain⟨h1,h2⟩:=hu j 0 (.str (L.getD j [])) hj rfl;rw[mY h2] at h1
  simpa using h1
theorem a9U{E:Env}{w:World}{L:List Pend}{v:Value}(hE:∀b,E.N b->b<w.heap.size)(h:Rd E w (C8 L) v):k9 w.heap.size w v L.length (λi=>L.getD i default)/\∃a l c,v= .slice a l c:=by
 rcases iU h with⟨a,rfl,h0⟩|⟨b,off,cap,u,rfl,hN,hu⟩
 ·exact⟨.inl ⟨a,0,rfl,h0⟩,_,_,_,rfl⟩
 ·refine⟨.inr ⟨b,off,cap,rfl,hE b hN,λj hj=>⟨?_,?_⟩⟩,_,_,_,rfl⟩
  ·obtain⟨h1,h2⟩:=hu j 0 (.int .i64 (L.getD j default).at_) hj rfl;rw[nZ h2] at h1;exact h1
  ·obtain⟨h1,h2⟩:=hu j 1 (.str (L.getD j default).d) hj rfl;rw[mY h2] at h1;exact h1
theorem mM:GK 212 b5a:=gk Tryz.func212<|by
 rintro⟨d,at_⟩ ⟨hat,hlen⟩;simp only at hat hlen;intro E w vs hL hE hv;obtain⟨hsz,hv⟩:=hv;obtain⟨v0,v1,rfl⟩:∃v0 v1,vs= #[v0,v1]:=by
  have h2:vs.size=2:=hsz.symm;exact⟨vs[0],vs[1],by apply Array.ext<;>simp[h2];intro i hi _;match i,hi with|0,_=>rfl|1,_=>rfl⟩
 obtain⟨cs,rfl,hc1,hc⟩:=a2w (hv 0 (.agg d.ts) v0 rfl rfl);obtain rfl:=nZ (hv 1 (.int .i64 at_) v1 rfl rfl);obtain⟨c0,c1,c2,c3,rfl⟩:∃c0 c1 c2 c3,cs= #[c0,c1,c2,c3]:=by
  have h2:cs.size=4:=hc1.symm;exact⟨cs[0],cs[1],cs[2],cs[3],by apply Array.ext<;>simp[h2];intro i hi _;match i,hi with|0,_=>rfl|1,_=>rfl|2,_=>rfl|3,_=>rfl⟩
 have hS:=b41 hE (hc 0 (C0 d.sec) c0 rfl rfl) (by omega)
 obtain⟨hP,a,l,c,hcc⟩:=a9U hE (hc 1 (C8 d.cache) c1 rfl rfl);obtain rfl:=a0x (hc 2 (.bool d.armed) c2 rfl rfl);refine(callsIn_wide (n:=6)).1 ((b3p Fence.wide 6 trivial trivial trivial rfl (V2 _) c0 c1 c3 d.armed at_ d.sec.length d.cache.length d.sec (λi=>d.cache.getD i default) a l c w hcc hP hS hlen hat).mono λe W' hh=> ?_)
 obtain⟨v,rfl,hb,hr⟩:=hh;refine⟨v,rfl,hb,?_⟩
 have:v= .string ⟨(S9 d at_).toArray⟩:=by
  rcases hr with⟨rfl,hj⟩|⟨k,hk,rfl,h1,h2⟩
  ·unfold S9;rw[pK hj];rfl
  ·unfold S9;rw[pS (i:=d.cache.length-1-k) h1 (by omega) λj hj1 hj2=> ?_]
   ·rfl
   ·have:=h2 (d.cache.length-1-j) (by omega)
    rw[show d.cache.length-1- (d.cache.length-1-j)=j by omega] at this
    exact this
 rw[this];exact .str _
end Go.Proofs.YtokaojbaacnngaaGreat

