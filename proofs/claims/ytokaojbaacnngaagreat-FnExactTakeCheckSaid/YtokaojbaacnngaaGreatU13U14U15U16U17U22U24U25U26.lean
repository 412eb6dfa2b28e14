/- A part of the proof. -/
import Derived.Test.YtokaojbaacnngaaGreatU10
import Derived.Test.YtokaojbaacnngaaGreatU3U4U5
import Derived.Test.YtokaojbaacnngaaGreatX11X11rX12X13X14
import Derived.WalkKit
import Derived.Deep.RegionLaw
import Derived.Deep.LoopGhost
import Derived.Lib.SliceRun
import Derived.Deep.MidRow
import Derived.Shelf.RegionOpenPlain
import Derived.Laws.IdiomCopy
import Derived.Lib.Overlaps
import Derived.Lib.AppendZerosOnto
import Derived.Laws.NewBlocks
import Derived.Laws.Externs
import Derived.Lib.AppendZeros
namespace Go.Proofs.YtokaojbaacnngaaGreat
set_option maxRecDepth 100000
open Go.SS

def hF(tx:Int)(x:Lck):Bool:=x.tx !=tx
theorem a2b{α:Type}[Inhabited α](f:α->List T)(n:Nat)(hf:∀a,(f a).length=n)(L:List α)(x:α):Z8 (L.length+1) (W6 (fun i=>f (L.getD i default)) L.length fun k=>List.take n (List.drop (k*n) (f x))) (fun i=>f ((L++[x]).getD i default)):=by
 intro i hi;unfold W6;by_cases h:i<L.length
 ·rw[gJ h];dsimp only;rw[C0,C0,kE h]
 ·have:i=L.length:=by omega
  subst this;rw[fX h];dsimp only;have:(L++[x]).getD L.length default=x:=by rw[C0,eT (V5 _)];simp
  rw[this,j_k,Nat.zero_mul,List.drop_zero,List.take_of_length_le (by rw[hf];exact V5 _)]
end Go.Proofs.YtokaojbaacnngaaGreat

namespace Go.Proofs.YtokaojbaacnngaaGreat
set_option maxRecDepth 100000
open Go.SS

end Go.Proofs.YtokaojbaacnngaaGreat

namespace Go.Proofs.YtokaojbaacnngaaGreat
set_option maxRecDepth 100000
open Go.SS

end Go.Proofs.YtokaojbaacnngaaGreat

namespace Go.Proofs.YtokaojbaacnngaaGreat
set_option maxRecDepth 100000
open Go.SS

theorem c25{r:Rec}(h:S3 r=true):r.b.length<=30/\r.a.length<=38:=by
 have h:=(P8 r).1 h;unfold j3 at h;obtain⟨_,_,_,_,_,_,_,_,_,_,_,_,_,_,hb,h6,h7⟩:=h;refine⟨by omega,?_⟩
 by_cases hk:r.k=6
 ·exact a9p (h6 hk).2.2.2.2.2.2
 ·have:=(h7 hk).2.2.1;omega
theorem c5t{r:Rec}(h:S3 r=true):(P7 r).length<=160:=by
 obtain⟨h1,h2⟩:=c25 h;have e4:(xQ (xK (b1F r))).length=4:=rfl;have hl:(P7 r).length=16+(r.b.length+r.a.length):=by
  unfold P7 b1F;rw[s7];simp only[O9,U7,s7,List.length_cons,List.length_nil];show _+4=_;simp;omega
 omega
def c5U(d:Dsk):Prop:=d.sec.length=69/\d.keep.length<=500/\(d.armed=false->d.keep.length=0)/\(∀i,i<d.sec.length->(d.sec.getD i []).length<=160)/\∀i,i<d.cache.length->(d.cache.getD i default).d.length<=160
theorem a9S{d:Dsk}(h:c5U d):G7 (V4 d).1/\(V4 d).1.sec.length=69:=by
 obtain⟨h1,h2,h3,h4,h5⟩:=h;unfold V4;split
 ·have hl:(crD d d.keep).sec.length=d.sec.length:=y7 _ _ _ _;refine⟨⟨by dsimp only;omega,by dsimp only;omega,T0 _,T0 _,fun _=>rfl,fun i hi=> ?_,fun i hi=>absurd hi (J2 _)⟩,by dsimp only;omega⟩
  dsimp only at hi;rw[hl] at hi;exact b9l d.sec d.cache (kp d.keep) h4 h5 _ (V5 _) i hi
 ·have hl:(u2 d.sec d.cache (fun _=>true) d.cache.length).length=d.sec.length:=y7 _ _ _ _
  refine⟨⟨by dsimp only;omega,by dsimp only;omega,T0 _,h2,h3,fun i hi=> ?_,fun i hi=>absurd hi (J2 _)⟩,by dsimp only;omega⟩
  dsimp only at hi;rw[hl] at hi;exact b9l d.sec d.cache (fun _=>true) h4 h5 _ (V5 _) i hi
theorem c49{s:Sto}{l:Int}(hd:G7 s.d)(hb:xO s l)(hr:zH s.log):c5U (wrN s (P6 s l)):=by
 have h69:=hb.2.2.2.1;refine⟨h69,hd.2.2.2.1,hd.2.2.2.2.1,hd.2.2.2.2.2.1,fun i hi=> ?_⟩
 have hi:i<(s.d.cache++List.map (rU s) (List.range (P6 s l))).length:=hi;show((s.d.cache++List.map (rU s) (List.range (P6 s l))).getD i default).d.length<=160;rw[C0]
 by_cases hc:i<s.d.cache.length
 ·rw[kE hc,←C0]
  exact(lK (hd.2.2.2.2.2.2 i hc)).2.2
 ·rw[eT (by omega),←C0]
  simp only[s7,List.length_map,j_i] at hi;rw[A6 _ (by omega)]
  have hn:=cE (i:=i-s.d.cache.length) hb (by omega)
  obtain⟨_,_,_,_,b5,_,_,b8,_⟩:=hb;exact c5t ((P8 _).2 (hr.2 _ (by omega)).1)
theorem a9k{s:Sto}{l:Int}(hd:G7 s.d)(hb:xO s l)(hr:zH s.log):G7 (X1 s l).1.d/\(X1 s l).1.d.sec.length=69:=by
 by_cases hl:l<=s.sure
 ·rw[qL hl];exact⟨hd,hb.2.2.2.1⟩
 ·rw[qV hl];exact a9S (c49 hd hb hr)
theorem a3Q(s:Sto)(l:Int):(X1 s l).1.log=s.log/\(X1 s l).1.fr=s.fr:=by
 by_cases hl:l<=s.sure
 ·rw[qL hl];exact⟨rfl,rfl⟩
 ·rw[qV hl];exact⟨rfl,rfl⟩
theorem c2N{e:Eng}(h:Q5 e=true)(hu:e.up=true):e.s.log.length+sZ e<=60:=by
 have h3:=(I5 h).2.2;rw[if_pos hu] at h3;unfold upE at h3;simp only[K5,t9] at h3;exact h3.2
theorem c21{e:Eng}(h:Q5 e=true)(hu:e.up=true){i:Nat}(hi:i<e.txs.length):1<=(e.txs.getD i default).last/\(e.txs.getD i default).last<=e.s.log.length:=by
 have:=a8F h hu i hi;unfold H5 tN at this;simp only[vG,tE,K5,O5] at this;exact this.2.1
theorem b5h{s:Sto}{r:Rec}(hL:zH s.log)(h:S3 (D5 s r)=true)(hl:s.log.length+1<=60):zH (apx s r).log:=by
 have e1:(apx s r).log=s.log++[D5 s r]:=rfl;rw[e1];refine⟨by simp;omega,fun i hi=> ?_⟩
 rw[s7,List.length_singleton] at hi;by_cases hc:i<s.log.length
 ·have:(s.log++[D5 s r]).getD i default=s.log.getD i default:=by
   rw[C0,kE hc,←C0]
  rw[this];exact hL.2 i hc
 ·have:i=s.log.length:=by omega
  subst this;have:(s.log++[D5 s r]).getD s.log.length default=D5 s r:=b9D s r;rw[this];exact⟨(P8 _).1 h,rfl⟩
theorem b4X{s:Sto}{l:Int}(hd:G7 s.d)(h69:s.d.sec.length=69)(hr:zH s.log)(h0:0<=s.sure)(h1:s.sure<=s.log.length)(hl:l<=s.log.length):xO s l:=by
 have hp:=a4Q hd;obtain⟨d1,d2,d3,d4,_⟩:=hd;refine⟨⟨by omega,by omega,by omega⟩,by omega,hp,h69,h0,h1,hr.1,hl,fun i hi=> ?_⟩
 obtain⟨a,b⟩:=hr.2 i hi;exact⟨b,c46 ((P8 _).2 a)⟩
theorem a0b{d:Dsk}(h:G7 d):pD d:=by
 obtain⟨d1,d2,d3,d4,_⟩:=h;exact⟨by omega,by omega,by omega⟩
theorem a7q{e:Eng}(hd:G7 e.s.d):L5 (sF e):=by
 have hm:=c6I e.s.d e.s.ep;have h2:=hd.2.1;refine⟨⟨a0b hd,?_,T0 _,fun i hi=>absurd hi (J2 _)⟩,T0 _,T0 _,T0 _⟩
 show(D7 _ _).length<=_;rw[q7];omega
end Go.Proofs.YtokaojbaacnngaaGreat

namespace Go.Proofs.YtokaojbaacnngaaGreat
open Go.SS Go.RowKit

theorem y5(w:World)(b o:Nat)(ty:TypeId)(cs:Array Value)(news:List Value)(hb:w.heap[b]? =some (.cells cs ty (0,0)))(hfit:o+news.length<=cs.size)(h1:∀v ∈ news,v.oneCell'=true):
  (w.setCells b o news).os=w.os/\(w.setCells b o news).tape=w.tape/\(w.setCells b o news).output=w.output/\(w.setCells b o news).heap.size=w.heap.size/\(∀k,k≠b->(w.setCells b o news).heap[k]? =w.heap[k]?)/\
   ∃cs',(w.setCells b o news).heap[b]? =some (.cells cs' ty (0,0))/\cs'.size=cs.size/\(∀i,i<o∨o+news.length<=i->cs'[i]? =cs[i]?)/\∀i,i<news.length->cs'[o+i]? =news[i]? :=by
 obtain⟨w',hst,h⟩:=y4 Tryz.prog w b o ty cs news hb hfit h1;have hr:=run_storeCells_cells (P:=Tryz.prog) b o news 0 w (fun j hj=>by rw[T7 hb,vC (show o+0+j<cs.size by omega)];rfl) (fun j hj=>by simp[World.frozen?,hb]) h1
 rw[Nat.add_zero,hst] at hr;simp only[Result.ok.injEq,true_and] at hr;rw[←hr];exact h
def b3q{α:Type}(L:List α)(k:Nat):List α:=L.take k++L.drop (k+1)
theorem mE{E:Env}{w:World}{k off n:Nat}{v:Value}(h:Rd E w (.osl k off n) v):∃a o,v= .slice a n (E.κ k-off)/\E.L k/\off+n<=E.κ k/\(off<E.κ k∨off=0->o=off*(E.z k).1)/\(E.κ k≠0->a=some ⟨E.β k,o,none⟩):=by
 cases h with
 |osl k off n o a h1 h2 h3 h4=>exact⟨a,o,rfl,h1,h2,h3,h4⟩
theorem c8b{E:Env}{w:World}{H:Y6}(hH:HeapOk E w H)(hN:∀b,E.N b->b<w.heap.size):Inv ⟨w,XB E H,E.N,0,E,0⟩ E H w:=⟨hH,hN,fun b hb=>.inl hb,fun k ob b h1 h2=>.inr ⟨k,ob,h1,h2⟩,⟨rfl,rfl,rfl,V5 _,fun _ _ _=>rfl⟩,⟨fun _ h=>h,fun k hk=>absurd hk (J2 _),fun _ _=>rfl,fun k v hk=>absurd hk (J2 _)⟩⟩
end Go.Proofs.YtokaojbaacnngaaGreat

namespace Go.Proofs.YtokaojbaacnngaaGreat
open Go.SS Go.RowKit

noncomputable def b6D:Code:=Tryz.f248.body.getD .skip
theorem a2d:Z7 Tryz.prog 248:=⟨_,Tryz.func248,by kernel_rfl,by kernel_rfl⟩
def tP:List Value:=[.int .i64 0,.int .i64 0]
theorem a2M:(Tryz.prog.info? 224).map (fun i=>(i.zero,i.size,i.bytes))=some (some (.agg tP.toArray),2,16):=by kernel_rfl
theorem o8:Tryz.prog.underlying 221=some (.slice 224):=by kernel_rfl
theorem y3{P:Program}(w:World)(dT sT ty elem:TypeId)(b o dLen dCap:Nat)(a:Addr)(sLen sCap:Nat)(cs:List Value)(sz m:Nat)
  (hu:P.underlying dT=some (.slice elem)) (hs:(P.info? elem).map (·.size)=some sz) (hm:m=Nat.min sLen dLen) (hn:cs.length=m*sz)
  (hsrc:∀j v,cs[j]? =some v->w.cell? (a.add j)=some v) (hc:∀j,j<cs.length->(w.cell? ⟨b,o+j,none⟩).isSome=true) (hf:∀j,j<cs.length->w.frozen? ⟨b,o+j,none⟩=false) (h1:∀v ∈ cs,v.oneCell'=true):
  (Builtin.copy_ #[dT,sT] ty #[.slice (some ⟨b,o,none⟩) dLen dCap,.slice (some a) sLen sCap]).run P w= .ok (goInt m) (w.setCells b o cs):=by
 have hl:=run_loadCells_list (P:=P) w a cs hsrc;have hst:=run_storeCells_cells (P:=P) b o cs 0 w (by simpa using hc) (by simpa using hf) h1
 cases hq:P.info? elem with
 |none=>simp[hq] at hs
 |some i=>
  have hi:i.size=sz:=by simpa[hq] using hs
  simp[Builtin.copy_,run_underlying hu,Builtin.lenOf,Builtin.firstCells,sizeOf,typeInfo,hq,hi,←hm,←hn,hl,hst]
theorem lU{P:Program}(w:World){ops:Array Oper}{rest:List Oper}{o:Oper}{a:Act}{Q:Exit->Act->World->Prop}(hgd:o.guard=none)(d s:Operand)(t t':TypeId)
  (ho:o.op= .call {callee:=.builtin .copy,args:= #[d,s],argTypes:= #[t,t']}) (v u:Value) (hd:a.eval d=v) (hs:a.eval s=u) {v':Value} {w':World}
  (hr:(Builtin.copy_ #[t,t'] o.type #[v,u]).run P w= .ok v' w') (h:wpList P ops Q rest (a.put o.dst v') w'):wpList P ops Q (o::rest) a w:=
 wpList_plain hgd fun _ hK=>by
  refine(show o.wp P a w _ _ from ?_)
  unfold Oper.wp execOp;simp only[ho,resolve,invoke,builtin,L1,I1,L7,List.map_toArray,List.map_cons,List.map_nil,hd,hs,hr];exact hK _ _ h
theorem a01{P:Program}{ops:Array Oper}{o:Oper}{a:Act}{w:World}{K:Act->World->Prop}{Q:Exit->Act->World->Prop}{E:Prop}
  (hg:o.guard=none) (d x:Operand) (dT sT:TypeId) (hop:o.op=Op.call {callee:=Callee.builtin Builtin.copy,args:= #[d,x],argTypes:= #[dT,sT]})
  (v u:Value) (hd:a.eval d=v) (hx:a.eval x=u) {v':Value} {w':World} (hr:(Builtin.copy_ #[dT,sT] o.type #[v,u]).run P w= .ok v' w') (hK:K (a.put o.dst v') w'):
  if Region.wanted o (yielded ops a.tmps)=true then Oper.wp P o a w K Q else E:=by
 have hw:Region.wanted o (yielded ops a.tmps)=true:=by simp[Region.wanted,hg]
 rw[if_pos hw];unfold Oper.wp;simp[execOp,hop,resolve,invoke,builtin,hd,hx,hr,Result.andThen];exact hK
theorem uU(b:Nat)(vs:List Value)(o:Nat)(w:World)(h:∀j,j<vs.length->(w.cell? ⟨b,o+j,none⟩).isSome=true)(k:Nat)(hk:(w.cell? ⟨b,k,none⟩).isSome=true):((w.setCells b o vs).cell? ⟨b,k,none⟩).isSome=true:=by
 by_cases hin:o<=k/\k<o+vs.length
 ·have:=World.cell?_setCells_in b vs o w h (k-o) (by omega)
  rw[show o+(k-o)=k by omega] at this
  rw[this];rfl
 ·rw[World.cell?_setCells_out b vs o w ⟨b,k,none⟩ (fun _ _=>by show k<o∨o+vs.length<=k;omega)]
  exact hk
theorem oF(n:Nat):(Builtin.zeroCells (Value.agg tP.toArray).cells n).size=n*2:=by
 unfold Builtin.zeroCells;rw[Array.size_map,Array.size_range];rfl
set_option maxHeartbeats 4000000 in
set_option maxRecDepth 1000000 in
theorem b1P(b n c i vb m vc:Nat)(cs vs:List Value)(w:World)(hi:i<n)(hm:0<m)(hroom:n+m<=c)(hbig:n+m<=1000000)(hvb:vb≠b)
  (hcl:cs.length=n*2) (hvl:vs.length=m*2)
  (hcs:∀j v,cs[j]? =some v->w.cell? ⟨b,j,none⟩=some v) (hsp:∀j,j<(n+m)*2->(w.cell? ⟨b,j,none⟩).isSome=true) (hfz:∀j,j<(n+m)*2->w.frozen? ⟨b,j,none⟩=false)
  (hvs:∀j v,vs[j]? =some v->w.cell? ⟨vb,j,none⟩=some v) (h1c:∀v ∈ cs,v.oneCell'=true) (h1v:∀v ∈ vs,v.oneCell'=true)
  (tA tB:TypeId) (kA kB:Nat) (hsa:w.shape? vb=some (tA,kA)) (hsb:w.shape? b=some (tB,kB)) (hkB:kB≠0) (hfa:w.frozen? ⟨vb,0,none⟩=false) (hfe:w.frozen? ⟨vb,kA,none⟩=false):
  Calls Tryz.prog 248 #[.slice (some ⟨b,0,none⟩) n c,.int .i64 i,.slice (some ⟨vb,0,none⟩) m vc] w fun e w'=>
   e= .returned (.slice (some ⟨b,0,none⟩) (n+m) c)/\w'=(w.drew.setCells b ((i+m)*2) (cs.drop (i*2))).setCells b (i*2) vs:=by
 have a1g:Tryz.prog.follows .mixedOrders=true:=by kernel_rfl
 obtain⟨i0,hi0,hz0,hz1s,hz2s⟩:=info_parts a2M;have hz1:¬ ((m:Int)=0):=by omega
 have hz2:¬ ((i:Int)=(n:Int)):=by omega
 have hsz:(Tryz.prog.info? 224).map (·.size)=some 2:=by rw[hi0];simp[hz1s]
 have hzz:∀w,(Go.sizeOf 224).run Tryz.prog w= .ok 2 w:=fun w=>by simp[sizeOf,typeInfo,hi0,hz1s]
 have hov:∀lb cb,(callFunc 276 #[.slice (some ⟨vb,0,none⟩) m vc,.slice (some ⟨b,(i+m)*2,none⟩) lb cb]).run Tryz.prog w= .ok (.value (.bool false)) w:=fun lb cb=>by
  rw[run_callFunc_extern Tryz.func276 (by kernel_rfl) (by kernel_rfl) (by kernel_rfl) (e:=Extern.SlicesOverlaps.overlaps #[221,221] #[4]) (by kernel_rfl),
   Lib.run_overlaps_apart w 221 4 224 o8 2 hzz ⟨vb,0,none⟩ ⟨b,(i+m)*2,none⟩ m vc lb cb hvb tA tB kA kB hsa hsb hkB hfa hfe]
  rfl
 have hdl:(cs.drop (i*2)).length=(n-i)*2:=by rw[List.length_drop,hcl];omega
 have hw1:IntKind.i64.wrap ((i:Int)+(m:Int))=(i:Int)+(m:Int):=by rw[IntKind.wrap_i64];omega
 have hb1:(0:Int)<=(i:Int)+(m:Int):=by omega
 have hin:i<=n:=by omega
 have htn:((i:Int)+(m:Int)).toNat=i+m:=by omega
 have hb2:¬ (c=i+m):=by omega
 have hb3:(i:Int)<=(n:Int)+(m:Int):=by omega
 have hb4:¬ (c=i):=by omega
 have hcp1:∀ty dc sc,(Builtin.copy_ #[221,221] ty #[.slice (some ⟨b,(i+m)*2,none⟩) (n+m- (i+m)) dc,.slice (some ⟨b,i*2,none⟩) (n+m-i) sc]).run Tryz.prog w.drew= .ok (goInt ((n-i:Nat):Int)) (w.drew.setCells b ((i+m)*2) (cs.drop (i*2))):=fun ty dc sc=>
  y3 w.drew _ _ ty 224 b ((i+m)*2) (n+m- (i+m)) dc ⟨b,i*2,none⟩ (n+m-i) sc (cs.drop (i*2)) 2 (n-i) o8 hsz (by simp only[Nat.min_def];split<;>omega) hdl
   (fun j v hj=>by rw[Addr.add_lit];exact hcs (i*2+j) v (by rwa [List.getElem?_drop] at hj))
   (fun j hj=>hsp _ (by omega)) (fun j hj=>hfz _ (by omega)) (fun v hv=>h1c v (List.mem_of_mem_drop hv))
 obtain⟨W1,hW1⟩:∃W1,W1=w.drew.setCells b ((i+m)*2) (cs.drop (i*2)):=⟨_,rfl⟩;have hsp1:∀k,k<(n+m)*2->(W1.cell? ⟨b,k,none⟩).isSome=true:=fun k hk=>by
  rw[hW1];exact uU b (cs.drop (i*2)) _ w.drew (fun j hj=>hsp ((i+m)*2+j) (by rw[hdl] at hj;omega)) _ (hsp k hk)
 have hcp2:∀(W:World),(∀x,W.cell? x=W1.cell? x)->(∀x,W.frozen? x=W1.frozen? x)->∀ty dc,(Builtin.copy_ #[221,221] ty #[.slice (some ⟨b,i*2,none⟩) (n+m-i) dc,.slice (some ⟨vb,0,none⟩) m vc]).run Tryz.prog W= .ok (goInt (m:Int)) (W.setCells b (i*2) vs):=fun W hWc hWf ty dc=>
  y3 W _ _ ty 224 b (i*2) (n+m-i) dc ⟨vb,0,none⟩ m vc vs 2 m o8 hsz (by simp only[Nat.min_def];split<;>omega) hvl
   (fun j v hj=>by
    rw[Addr.add_lit,hWc,hW1,World.cell?_setCells_out b _ _ _ _ (fun h _=>absurd h hvb),yO]
    exact hvs j v hj)
   (fun j hj=>by rw[hWc];exact hsp1 _ (by omega)) (fun j hj=>by rw[hWf,hW1,World.frozen?_setCells];exact hfz _ (by omega)) h1v
 rw[←hW1] at hcp1
 go_enter Tryz.func248,Tryz.ntmps248
 go_wp2_with (simp only[hov])
 go_region_law_o (refine a01 rfl _ _ 221 221 rfl _ _ (by simp[Act.eval,Act.put]) (by simp[Act.eval,Act.put]) (hcp1 _ _ _) ?_)
 go_wp2_with (at_builtin;refine lU _ rfl _ _ 221 221 rfl _ _ rfl rfl (hcp2 _ (fun _=>rfl) (fun _=>rfl) _ _) ?_)
 go_ret
 first|exact⟨rfl,rfl⟩|exact⟨rfl,by rw[hW1]⟩
set_option maxHeartbeats 4000000 in
set_option maxRecDepth 1000000 in
theorem b52(b n c i vb m vc:Nat)(cs vs:List Value)(w:World)(hi:i<n)(hm:0<m)(hnc:n<=c)(hroom:c<n+m)(hbig:(n+m)*16<=140737488355328)
  (hcl:cs.length=n*2) (hvl:vs.length=m*2)
  (hcs:∀j v,cs[j]? =some v->w.cell? ⟨b,j,none⟩=some v)
  (hvs:∀j v,vs[j]? =some v->w.cell? ⟨vb,j,none⟩=some v) (h1c:∀v ∈ cs,v.oneCell'=true) (h1v:∀v ∈ vs,v.oneCell'=true):
  Calls Tryz.prog 248 #[.slice (some ⟨b,0,none⟩) n c,.int .i64 i,.slice (some ⟨vb,0,none⟩) m vc] w fun e w'=>
   e= .returned (.slice (some ⟨w.heap.size,0,none⟩) (n+m) (grownCap w (n+m) c 224))/\
   w'=(((w.alloc (.cells ((cs.take (i*2)).toArray++Builtin.zeroCells (Value.agg tP.toArray).cells (n+m-i)++Builtin.zeroCells (Value.agg tP.toArray).cells (grownCap w (n+m) c 224- (n+m))) 224)).drew.setCells w.heap.size (i*2) vs).drew).setCells w.heap.size ((i+m)*2) (cs.drop (i*2)):=by
 have a1g:Tryz.prog.follows .mixedOrders=true:=by kernel_rfl
 obtain⟨i0,hi0,hz0,hzs,hzb⟩:=info_parts a2M;have hz1:¬ ((m:Int)=0):=by omega
 have hz2:¬ ((i:Int)=(n:Int)):=by omega
 have hz3:(c:Int)<(n:Int)+(m:Int):=by omega
 have hsz:(Tryz.prog.info? 224).map (·.size)=some 2:=by rw[hi0];simp[hzs]
 have hbw:b<w.heap.size:=block_lt_of_cell (hcs 0 _ (O1 (by omega)))
 have hvw:vb<w.heap.size:=block_lt_of_cell (hvs 0 _ (O1 (by omega)))
 have hkk:(n:Int)+(m:Int)- (i:Int)=((n+m-i:Nat):Int):=by omega
 have hik:i+(n+m-i)=n+m:=by omega
 have hold:(Builtin.firstCells i0.size i (.slice (some ⟨b,0,none⟩) i c)).run Tryz.prog w.drew= .ok (cs.take (i*2)).toArray w.drew:=by
  rw[hzs];exact run_firstCells_some w.drew 2 i ⟨b,0,none⟩ i c (cs.take (i*2)) (by rw[List.length_take];omega) (fun j v hj=>by
   rw[Addr.add_lit,yO];rw[List.getElem?_take] at hj
   split at hj
   ·exact hcs j v hj
   ·cases hj)
 have hti:Tryz.prog.underlying 3=some (.int .i64):=by kernel_rfl
 have hrz:∀ty,(Builtin.append_ #[221,3] ty #[.slice (some ⟨b,0,none⟩) i c,.int .i64 ((n:Int)+(m:Int)- (i:Int))]).run Tryz.prog w=
   .ok (.slice (some ⟨w.heap.size,0,none⟩) (n+m) (grownCap w (n+m) c 224)) (w.drew.alloc (.cells ((cs.take (i*2)).toArray++Builtin.zeroCells (Value.agg tP.toArray).cells (n+m-i)++Builtin.zeroCells (Value.agg tP.toArray).cells (grownCap w (n+m) c 224- (n+m))) 224)):=fun ty=>by
  have h:=Lib.run_append_grow_zeros w 221 3 ty 224 i0 _ .i64 .i64 o8 hti hi0 hz0 (some ⟨b,0,none⟩) i c (cs.take (i*2)) hold (n+m-i) (by omega) (by omega) (by omega) (by omega) (by rw[hzb];omega) (by rw[hzb,hik];exact growslice_fits hroom hbig)
  rw[hik] at h;rw[hkk];exact h
 obtain⟨G,hG⟩:∃G,G=grownCap w (n+m) c 224:=⟨_,rfl⟩;obtain⟨ROW,hROW⟩:∃ROW:Array Value,ROW=(cs.take (i*2)).toArray++Builtin.zeroCells (Value.agg tP.toArray).cells (n+m-i)++Builtin.zeroCells (Value.agg tP.toArray).cells (G- (n+m)):=⟨_,rfl⟩;rw[←hG] at hrz ⊢;rw[←hROW] at hrz ⊢;have hGn:n+m<=G:=by rw[hG];exact grownCap_ge w _ _ _
 have hRl:ROW.size=G*2:=by
  rw[hROW,Array.size_append,Array.size_append,oF,oF,List.size_toArray,List.length_take];omega
 obtain⟨W1,hW1⟩:∃W1,W1=w.drew.alloc (.cells ROW 224):=⟨_,rfl⟩;rw[←hW1] at hrz;have hN:∀j,j<(n+m)*2->(W1.cell? ⟨w.heap.size,j,none⟩).isSome=true:=fun j hj=>by
  rw[hW1,World.cell?_alloc_at (w:=w.drew) ROW _ w.heap.size j rfl,vC (by omega)];rfl
 have hNf:∀j,W1.frozen? ⟨w.heap.size,j,none⟩=false:=fun j=>by rw[hW1];exact World.frozen?_alloc_at (w:=w.drew) ROW _ w.heap.size j rfl
 have hOb:∀j v,w.cell? ⟨b,j,none⟩=some v->W1.cell? ⟨b,j,none⟩=some v:=fun j v h=>by rw[hW1,World.cell?_alloc_past (w:=w.drew) _ b j hbw];exact h
 have hOv:∀j v,w.cell? ⟨vb,j,none⟩=some v->W1.cell? ⟨vb,j,none⟩=some v:=fun j v h=>by rw[hW1,World.cell?_alloc_past (w:=w.drew) _ vb j hvw];exact h
 have hcpA:∀(W:World),(∀x,W.cell? x=W1.cell? x)->(∀x,W.frozen? x=W1.frozen? x)->∀ty dc,(Builtin.copy_ #[221,221] ty #[.slice (some ⟨w.heap.size,i*2,none⟩) (n+m-i) dc,.slice (some ⟨vb,0,none⟩) m vc]).run Tryz.prog W= .ok (goInt (m:Int)) (W.setCells w.heap.size (i*2) vs):=fun W hWc hWf ty dc=>
  y3 W _ _ ty 224 w.heap.size (i*2) (n+m-i) dc ⟨vb,0,none⟩ m vc vs 2 m o8 hsz (by simp only[Nat.min_def];split<;>omega) hvl
   (fun j v hj=>by rw[Addr.add_lit,hWc,yO];exact hOv _ v (hvs j v hj))
   (fun j hj=>by rw[hWc];exact hN _ (by omega)) (fun j hj=>by rw[hWf];exact hNf _) h1v
 have hG63:G<=9223372036854775807:=by
  have:=grownCap_le_maxLen w (n+m) c 224 (by unfold maxLen;omega)
  rw[←hG] at this;unfold maxLen at this;omega
 have hGi:¬ (G=i):=by omega
 have hGim:¬ (G=i+m):=by omega
 have hci:¬ (c=i):=by omega
 have hbN:b≠w.heap.size:=by omega
 have hdl:(cs.drop (i*2)).length=(n-i)*2:=by rw[List.length_drop,hcl];omega
 have hcpB:∀(W:World),(∀x,W.cell? x=(W1.setCells w.heap.size (i*2) vs).cell? x)->(∀x,W.frozen? x=(W1.setCells w.heap.size (i*2) vs).frozen? x)->∀ty dc sc,(Builtin.copy_ #[221,221] ty #[.slice (some ⟨w.heap.size,(i+m)*2,none⟩) (n+m- (i+m)) dc,.slice (some ⟨b,i*2,none⟩) (n-i) sc]).run Tryz.prog W= .ok (goInt ((n-i:Nat):Int)) (W.setCells w.heap.size ((i+m)*2) (cs.drop (i*2))):=fun W hWc hWf ty dc sc=>
  y3 W _ _ ty 224 w.heap.size ((i+m)*2) (n+m- (i+m)) dc ⟨b,i*2,none⟩ (n-i) sc (cs.drop (i*2)) 2 (n-i) o8 hsz (by simp only[Nat.min_def];split<;>omega) hdl
   (fun j v hj=>by
    rw[Addr.add_lit,hWc,World.cell?_setCells_out _ _ _ _ _ (fun h _=>absurd h hbN)]
    exact hOb _ v (hcs (i*2+j) v (by rwa [List.getElem?_drop] at hj)))
   (fun j hj=>by rw[hWc];exact uU _ _ _ _ (fun t ht=>hN _ (by omega)) _ (hN _ (by omega)))
   (fun j hj=>by rw[hWf,World.frozen?_setCells];exact hNf _) (fun v hv=>h1c v (List.mem_of_mem_drop hv))
 subst hW1;have hE1:∀x,((w.alloc (.cells ROW 224)).drew).cell? x=(w.drew.alloc (.cells ROW 224)).cell? x:=fun x=>rfl
 have hE2:∀x,((w.alloc (.cells ROW 224)).drew).frozen? x=(w.drew.alloc (.cells ROW 224)).frozen? x:=fun x=>rfl
 have hF1:∀x,(((w.alloc (.cells ROW 224)).drew.setCells w.heap.size (i*2) vs).drew).cell? x=((w.drew.alloc (.cells ROW 224)).setCells w.heap.size (i*2) vs).cell? x:=fun x=>rfl
 have hF2:∀x,(((w.alloc (.cells ROW 224)).drew.setCells w.heap.size (i*2) vs).drew).frozen? x=((w.drew.alloc (.cells ROW 224)).setCells w.heap.size (i*2) vs).frozen? x:=fun x=>rfl
 have hw1:IntKind.i64.wrap ((i:Int)+(m:Int))=(i:Int)+(m:Int):=by rw[IntKind.wrap_i64];omega
 have hb1:(0:Int)<=(i:Int)+(m:Int):=by omega
 have hin:i<=n:=by omega
 have htn:((i:Int)+(m:Int)).toNat=i+m:=by omega
 have hb3:(i:Int)<=(n:Int):=by omega
 clear hkk hik hold hROW hG hRl
 go_enter Tryz.func248,Tryz.ntmps248
 go_wp2_with (first
  |(at_builtin;refine Lib.wpList_append_run _ rfl _ _ _ _ rfl _ _ rfl rfl _ _ (hrz _) ?_)
  |(at_builtin;refine lU _ rfl _ _ 221 221 rfl _ _ rfl rfl (hcpA _ hE1 hE2 _ _) ?_)
  |(at_builtin;refine lU _ rfl _ _ 221 221 rfl _ _ rfl rfl (hcpB _ (fun _=>rfl) (fun _=>rfl) _ _ _) ?_))
 go_region_law_o (refine a01 rfl _ _ 221 221 rfl (.slice (some ⟨w.heap.size,(i+m)*2,none⟩) (n+m- (i+m)) (G- (i+m))) (.slice (some ⟨b,i*2,none⟩) (n-i) (c-i)) (by simp[Act.eval,Act.put]) (by simp[Act.eval,Act.put]) (hcpB _ hF1 hF2 3 (G- (i+m)) (c-i)) ?_)
 go_wp2
 go_ret
 exact⟨rfl,rfl⟩
end Go.Proofs.YtokaojbaacnngaaGreat

namespace Go.Proofs.YtokaojbaacnngaaGreat
set_option maxRecDepth 100000
open Go.SS Go.RowKit

structure Dr where
 no:Int
 first:Int
 deriving Inhabited
def Dr.ts(d:Dr):List T:=[.int .i64 d.no,.int .i64 d.first]
def U6(L:List Dr)(i:Nat):List T:=(L.getD i default).ts
def drS(L:List Dr):T:=.sl 2 L.length (U6 L)
def vJ(L:List Dr):Option Ob:=some (.arr true 0 2 L.length (U6 L))
def i6(a b:Int):Int:=if a<b then-1 else if a>b then 1 else 0
def b7T:Con:=.rel ⟨Int×Int,fun x=>[.int .i64 x.1,.int .i64 x.2],fun x=>.int .i64 (i6 x.1 x.2),fun _=>True⟩
noncomputable def b9s:Code:=Tryz.f275.body.getD .skip
theorem a2F:Z7 Tryz.prog 275:=⟨_,Tryz.func275,by kernel_rfl,by kernel_rfl⟩
def b7n:Con:=.rel ⟨Int,fun x=>[.int .i64 x],fun _=>.bool false,fun _=>True⟩
theorem b5k(a:Int)(h:
  (a !=a)=false):
  Z2 Tryz.prog 275 [.int .i64 a] (.bool false):=
 T4 (code:=b9s) gN Tryz.func275 (by kernel_rfl) (by kernel_rfl) Z0 h (by kernel_rfl)
theorem b4i:Z1 Tryz.prog 275 b7n:=fun(a:Int) _=>b5k a (by simp)
noncomputable def b8J:Code:=Tryz.f247.body.getD .skip
theorem a0S:Z7 Tryz.prog 247:=⟨_,Tryz.func247,by kernel_rfl,by kernel_rfl⟩
theorem b7M(a b:Int)(h:
  ∃(x:Int),((a=x/\True)/\True)/\∃(x:Int),((b=x/\True)/\True)/\(false=true->(false=true->(0:Int)=i6 a b)/\(false=false->(-1:Int)=i6 a b))/\(false=false->(false=true->(1:Int)=i6 a
  b)/\(false=false->(decide (a<b)=true->(-1:Int)=i6 a b)/\(decide (a<b)=false->(decide (a>b)=true->(1:Int)=i6 a b)/\(decide (a>b)=false->(0:Int)=i6 a b))))):
  Z2 Tryz.prog 247 [.int .i64 a,.int .i64 b] (.int .i64 (i6 a b)):=
 T4 (code:=b8J) (gC b4i a2F gN) Tryz.func247 (by kernel_rfl) (by kernel_rfl) Z0 h (by kernel_rfl)
theorem b00:Z1 Tryz.prog 247 b7T:=by
 rintro⟨a,b⟩ _;refine b7M a b ⟨a,⟨⟨rfl,trivial⟩,trivial⟩,b,⟨⟨rfl,trivial⟩,trivial⟩,fun h=>(by cases h),fun _=>⟨fun h=>(by cases h),fun _=>⟨fun h=> ?_,fun h=>⟨fun h2=> ?_,fun h2=> ?_⟩⟩⟩⟩
 ·unfold i6;rw[if_pos (D8 h)]
 ·unfold i6;rw[if_neg (yQ h),if_pos (D8 h2)]
 ·unfold i6;rw[if_neg (yQ h),if_neg (yQ h2)]
theorem c0q{a b:Int}:i6 a b<0↔a<b:=by
 unfold i6;split
 ·simp[*]
 ·split<;>simp[*]
theorem c6T(a b:Int):(i6 a b==(0:Int))=(a==b):=by
 unfold i6;rw[Bool.eq_iff_iff,beq_iff_eq,beq_iff_eq];split
 ·omega
 ·split<;>omega
noncomputable def b0C:Code:=Tryz.f246.body.getD .skip
theorem a0l:Z7 Tryz.prog 246:=⟨_,Tryz.func246,by kernel_rfl,by kernel_rfl⟩
def b2d:Con:=.rel ⟨Dr×Dr,fun x=>[.agg x.1.ts,.agg x.2.ts],fun x=>.int .i64 (i6 x.1.no x.2.no),fun _=>True⟩
theorem b2a(a b:Dr)(h:
  ∃(x:(Int×Int)),((a.no=x.fst/\b.no=x.snd/\True)/\True)/\i6 x.fst x.snd=i6 a.no b.no):
  Z2 Tryz.prog 246 [.agg a.ts,.agg b.ts] (.int .i64 (i6 a.no b.no)):=
 T4 (code:=b0C) (gC b00 a0S gN) Tryz.func246 (by kernel_rfl) (by kernel_rfl) Z0 h (by kernel_rfl)
theorem a5G:Z1 Tryz.prog 246 b2d:=fun x _=>b2a x.1 x.2 ⟨(x.1.no,x.2.no),⟨⟨rfl,rfl,trivial⟩,trivial⟩,rfl⟩
def b29(L:List Dr)(no:Int)(i:Nat):Bool:=decide (no<=(L.getD i default).no)
def r6(L:List Dr)(no:Int):Nat:=if Q4 L.length (b29 L no)<0 then L.length else(Q4 L.length (b29 L no)).toNat
def isD(L:List Dr)(no:Int):Bool:=decide (r6 L no<L.length)&&((L.getD (r6 L no) default).no==no)
def iA(L:List Dr):Prop:=∀i j,i<j->j<L.length->(L.getD i default).no<(L.getD j default).no
def c2s:Con:=.rel ⟨List Dr×Dr,fun x=>[drS x.1,.agg x.2.ts,fnT 246],fun x=>.tup [.int .i64 (r6 x.1 x.2.no),.bool (isD x.1 x.2.no)],fun x=>iA x.1/\x.1.length<=1000⟩
def dBx(d:Dr):Option Ob:=some (.arr true 1000000 2 1 fun _=>d.ts)
def b7F(L:List Dr)(no:Int):Type:={x:Nat×Nat//x.1<=x.2/\x.2<=L.length/\(∀q,q<x.1->(L.getD q default).no<no)/\∀q,x.2<=q->q<L.length->no<=(L.getD q default).no}
def c28(L:List Dr)(d:Dr):Nat->Ann
 |0=>.one (b7F L d.no) (fun x=>⟨[(0,drS L),(2,fnT 246),(4,.ref 0 0 0),(8,.int .i64 L.length),(9,.int .i64 x.1.1),(10,.int .i64 x.1.2)],[dBx d]⟩) (fun x=>x.1.2-x.1.1) [.box 0] [.box 0] (fun _=>Z0)
 |_=>.none
noncomputable def c2j:Code:=Tryz.f245.body.getD .skip
theorem a8C:Z7 Tryz.prog 245:=⟨_,Tryz.func245,by kernel_rfl,by kernel_rfl⟩
theorem c1g(L:List Dr)(d:Dr)(h:
  (∃(x:b7F L d.no),((Y4 U6 L L)/\Value.func (Fn.func 246) #[] #[]=Value.func (Fn.func 246) #[] #[]/\(0=0/\0=0)/\(L.length:Int)=(L.length:Int)/\(0:Int)=(x.val.fst:Int)/\(L.length:Int)=(x.val.snd:Int)/\
  True)/\(1=1/\1=1/\d.no=d.no/\d.first=d.first/\True)/\True)/\∀(x:b7F L d.no),(decide ((x.val.fst:Int)<(x.val.snd:Int))=true->X8 .i64 ((x.val.fst:Int)+(x.val.snd:Int))/\Nn (1:Int)/\X0
  (IntKind.i64.wrap ((IntKind.u64.wrap ((x.val.fst:Int)+(x.val.snd:Int))).fdiv (2:Int))) L.length/\∃(x_1:(Dr×Dr)),((((L.getD (IntKind.i64.wrap ((IntKind.u64.wrap ((x.val.fst:Int)+(x.val.snd:Int))).fdiv (2:Int))).toNat
  default).no=x_1.fst.no/\(L.getD (IntKind.i64.wrap ((IntKind.u64.wrap ((x.val.fst:Int)+(x.val.snd:Int))).fdiv (2:Int))).toNat default).first=x_1.fst.first/\True)/\(d.no=x_1.snd.no/\d.first=x_1.snd.first/\True)/\
  True)/\True)/\(decide (i6 x_1.fst.no x_1.snd.no<(0:Int))=true->X8 .i64 (IntKind.i64.wrap ((IntKind.u64.wrap ((x.val.fst:Int)+(x.val.snd:Int))).fdiv (2:Int))+(1:Int))/\∃(y:b7F L d.no),(((Y4 U6 L L)/\
  Value.func (Fn.func 246) #[] #[]=Value.func (Fn.func 246) #[] #[]/\(0=0/\0=0)/\(L.length:Int)=(L.length:Int)/\IntKind.i64.wrap ((IntKind.u64.wrap ((x.val.fst:Int)+(x.val.snd:Int))).fdiv (2:Int))+(1:Int)=
  (y.val.fst:Int)/\(x.val.snd:Int)=(y.val.snd:Int)/\True)/\(1=1/\1=1/\d.no=d.no/\d.first=d.first/\True)/\True)/\Lt (y.val.snd-y.val.fst) (x.val.snd-x.val.fst))/\(decide (i6 x_1.fst.no x_1.snd.no<(0:
  Int))=false->∃(y:b7F L d.no),(((Y4 U6 L L)/\Value.func (Fn.func 246) #[] #[]=Value.func (Fn.func 246) #[] #[]/\(0=0/\0=0)/\(L.length:Int)=(L.length:Int)/\(x.val.fst:Int)=(y.val.fst:Int)/\
  IntKind.i64.wrap ((IntKind.u64.wrap ((x.val.fst:Int)+(x.val.snd:Int))).fdiv (2:Int))=(y.val.snd:Int)/\True)/\(1=1/\1=1/\d.no=d.no/\d.first=d.first/\True)/\True)/\Lt (y.val.snd-y.val.fst) (x.val.snd-
  x.val.fst)))/\(decide ((x.val.fst:Int)<(x.val.snd:Int))=false->(decide ((x.val.fst:Int)<(L.length:Int))=true->X0 (x.val.fst:Int) L.length)/\∃(x_1:(Dr×Dr)),(decide ((x.val.fst:Int)<(L.length:Int))=true->
  (((L.getD (x.val.fst:Int).toNat default).no=x_1.fst.no/\(L.getD (x.val.fst:Int).toNat default).first=x_1.fst.first/\True)/\(d.no=x_1.snd.no/\d.first=x_1.snd.first/\True)/\True)/\True)/\(x.val.fst:Int)=(↑(r6 L
  d.no):Int)/\(decide ((x.val.fst:Int)<(L.length:Int))&&i6 x_1.fst.no x_1.snd.no==(0:Int))=isD L d.no/\True)):
  Z2 Tryz.prog 245 [drS L,.agg d.ts,fnT 246] (.tup [.int .i64 (r6 L d.no),.bool (isD L d.no)]):=
 T4 (code:=c2j) (gC a5G a0l gN) Tryz.func245 (by kernel_rfl) (by kernel_rfl) (c28 L d) h (by kernel_rfl)
theorem c6r{a b:Nat}(h:a+b<=100000):IntKind.i64.wrap ((IntKind.u64.wrap ((a:Int)+(b:Int))).fdiv (2:Int))=(((a+b)/2:Nat):Int):=by
 have e:IntKind.u64.wrap ((a:Int)+(b:Int))=((a+b:Nat):Int):=by
  simp[IntKind.wrap,IntKind.bits,IntKind.signed];omega
 have e2:(((a+b:Nat):Int)).fdiv 2=(((a+b)/2:Nat):Int):=by
  rw[Int.fdiv_eq_ediv_of_nonneg _ (by omega)]
  omega
 rw[e,e2,IntKind.wrap_i64];omega
theorem c5o{L:List Dr}{no:Int}{i:Nat}(hi:i<=L.length)(hl:∀q,q<i->(L.getD q default).no<no)(hh:∀q,i<=q->q<L.length->no<=(L.getD q default).no):r6 L no=i:=by
 have hf:∀q,q<i->b29 L no q=false:=fun q hq=>uY (by have:=hl q hq;omega)
 unfold r6;by_cases h:i<L.length
 ·rw[M1 h (jB (hh i (V5 i) h)) hf,if_neg (by omega),v4]
 ·have:i=L.length:=by omega
  rw[J4 fun q hq=>hf q (by omega),if_pos (by omega),this]
theorem b4Z:Z1 Tryz.prog 245 c2s:=by
 rintro⟨L,d⟩ ⟨hs,hn⟩;dsimp only at hs hn;refine c1g L d ⟨⟨⟨(0,L.length),T0 _,V5 _,fun q hq=>absurd hq (J2 q),fun q h1 h2=>by dsimp only at h1;omega⟩,⟨⟨rfl,Z9 _ _⟩,rfl,⟨rfl,rfl⟩,rfl,rfl,rfl,trivial⟩,⟨rfl,rfl,rfl,rfl,trivial⟩,trivial⟩,fun x=>⟨fun hc=> ?_,fun hc=> ?_⟩⟩
 ·obtain⟨⟨a,b⟩,h1,h2,h3,h4⟩:=x;dsimp only at h1 h2 h3 h4 hc ⊢;have hc:a<b:=by have:=D8 hc;omega
  have hb:(a+b)/2<b:=by omega
  have ha:a<=(a+b)/2:=by omega
  rw[c6r (by omega),v4]
  generalize (a+b)/2=m at hb ha;refine⟨Z5 (by omega),by unfold Nn;omega,Y7 (by omega),(L.getD m default,d),⟨⟨⟨rfl,rfl,trivial⟩,⟨rfl,rfl,trivial⟩,trivial⟩,trivial⟩,fun h=> ?_,fun h=> ?_⟩
  ·have h:(L.getD m default).no<d.no:=c0q.1 (D8 h);refine⟨Z5 (by omega),⟨(m+1,b),by dsimp only;omega,h2,fun q hq=> ?_,h4⟩,⟨⟨⟨rfl,Z9 _ _⟩,rfl,⟨rfl,rfl⟩,rfl,rfl,rfl,trivial⟩,⟨rfl,rfl,rfl,rfl,trivial⟩,trivial⟩,by unfold Lt;dsimp only;omega⟩
   have hq:q<m+1:=hq;by_cases hqm:q=m
   ·rw[hqm];exact h
   ·have:=hs q m (by omega) (by omega)
    omega
  ·have h:¬ (L.getD m default).no<d.no:=fun hh=>yQ h (c0q.2 hh)
   refine⟨⟨(a,m),ha,by dsimp only;omega,h3,fun q hq hql=> ?_⟩,⟨⟨⟨rfl,Z9 _ _⟩,rfl,⟨rfl,rfl⟩,rfl,rfl,rfl,trivial⟩,⟨rfl,rfl,rfl,rfl,trivial⟩,trivial⟩,by unfold Lt;dsimp only;omega⟩
   have hq:m<=q:=hq;by_cases hqm:q=m
   ·rw[hqm];omega
   ·have:=hs m q (by omega) hql
    omega
 ·obtain⟨⟨a,b⟩,h1,h2,h3,h4⟩:=x;dsimp only at h1 h2 h3 h4 hc ⊢;have hc:a=b:=by have:=yQ hc;omega
  subst hc;have e:=c5o h2 h3 h4;rw[v4];refine⟨fun h=>Y7 (Y9 h),(L.getD a default,d),fun _=>⟨⟨⟨rfl,rfl,trivial⟩,⟨rfl,rfl,trivial⟩,trivial⟩,trivial⟩,by rw[e],?_,trivial⟩
  unfold isD;rw[e];dsimp only;rw[c6T,show decide ((a:Int)<(L.length:Int))=decide (a<L.length) from decide_eq_decide.2 (by omega)]
def xN(L:List Dr)(i:Nat)(d:Dr):List Dr:=L.take i++d::L.drop i
theorem c0o(L:List Dr)(d:Dr)(h:
  InC (L.length:Int) L.length/\(false=true->(False/\True)/\True/\(1=1/\Z8 1 (U6 [d]) (U6 [d]))/\False/\True)/\(false=false->(((L.length:Int)==(L.length:Int))=true->(Le 1 1/\Le L.length L.length/\V7
  L.length 1 16)/\((0=0/\L.length+1=L.length+1)/\True)/\True/\(1=1/\Z8 1 (U6 [d]) (U6 [d]))/\(L.length+1=(L++[d]).length/\Z8 (L.length+1) (W6 (U6 L) L.length (U6 [d])) (U6 (L++
  [d])))/\True)/\(((L.length:Int)==(L.length:Int))=false->X8 .i64 ((L.length:Int)+(1:Int))/\False))):
  V3 Tryz.prog 248 [.osl 0 0 L.length,.int .i64 L.length,.osl 1 0 1] [vJ L,vJ [d]] (.osl 2 0 (L.length+1)) [none,vJ [d],vJ (L++[d])]:=
 v5 (code:=b6D) gN Tryz.func248 (by kernel_rfl) (by kernel_rfl) Z0 [[.arr 0,.arr 1,.arr 2]] h (by kernel_rfl)
end Go.Proofs.YtokaojbaacnngaaGreat

namespace Go.Proofs.YtokaojbaacnngaaGreat
open Go.SS Go.RowKit

theorem oT{L:List Dr}{i:Nat}{d:Dr}(hi:i<=L.length):(xN L i d).length=L.length+1:=by
 unfold xN;rw[s7,List.length_cons,List.length_take,List.length_drop];omega
theorem a46{L:List Dr}{i:Nat}{d:Dr}(hi:i<=L.length)(q:Nat):(xN L i d).getD q default=if q<i then L.getD q default else if q=i then d else L.getD (q-1) default:=by
 have hl:(L.take i).length=i:=by rw[List.length_take];omega
 unfold xN;rw[C0]
 by_cases h1:q<i
 ·rw[if_pos h1,kE (by omega),List.getElem?_take_of_lt h1,C0]
 ·rw[if_neg h1,eT (by omega),hl]
  by_cases h2:q=i
  ·rw[if_pos h2,h2,j_k];rfl
  ·obtain⟨p,hp⟩:∃p,q-i=p+1:=⟨q-i-1,by omega⟩
   rw[if_neg h2,hp,List.getElem?_cons_succ,List.getElem?_drop,C0]
   congr 2
   omega
theorem c7c(L:List Dr)(d:Dr):Z8 (L.length+1) (W6 (U6 L) L.length (U6 [d])) (U6 (L++[d])):=fun r hr=>by
 have e:=a2b Dr.ts 2 (fun _=>rfl) L d r hr
 unfold W6 at e ⊢;by_cases h:r<L.length
 ·rw[gJ h] at e ⊢;exact e
 ·have h1:r=L.length:=by omega
  subst h1;rw[fX h] at e ⊢;rw[j_k] at e ⊢;exact e
def b6d:Con:=.reff ⟨List Dr×Nat×Dr,fun x=>[.osl 0 0 x.1.length,.int .i64 x.2.1,.osl 1 0 1],fun x=>[vJ x.1,vJ [x.2.2]],fun x=>.osl 2 0 (x.1.length+1),fun x=>[none,vJ [x.2.2],vJ (xN x.1 x.2.1 x.2.2)],fun x=>x.2.1<=x.1.length/\x.1.length<=1000⟩
theorem fL{E:Env}{w:World}{L:List Dr}{i:Nat}{d:Dr}{cs vs cs2:Array Value}(hi:i<L.length)(e8:∀(r q:Nat) (t:T),r<L.length->(U6 L r)[q]? =some t->∃u,cs[r*2+q]? =some u/\Rd E w t u)(f8:∀(q:Nat) (t:T),(d.ts)[q]? =some t->∃u,vs[q]? =some u/\Rd E w t u)
  (hA:∀p,p<i*2->cs2[p]? =cs[p]?) (hB:∀q,q<2->cs2[i*2+q]? =vs[q]?) (hC:∀p,p<(L.length-i)*2->cs2[(i+1)*2+p]? =cs[i*2+p]?):∀(r q:Nat) (t:T),r<L.length+1->(U6 (xN L i d) r)[q]? =some t->∃u,cs2[r*2+q]? =some u/\Rd E w t u:=fun r q t hr ht=>by
 have hq:q<2:=(C8.1 ht).1
 have er:U6 (xN L i d) r=if r<i then U6 L r else if r=i then d.ts else U6 L (r-1):=by
  unfold U6;rw[a46 (Nat.le_of_lt hi)];split
  ·rfl
  ·split<;>rfl
 rw[er] at ht;by_cases h1:r<i
 ·rw[if_pos h1] at ht;rw[hA _ (by omega)]
  exact e8 r q t (by omega) ht
 ·rw[if_neg h1] at ht;by_cases h2:r=i
  ·rw[if_pos h2] at ht;subst h2;rw[hB _ hq];exact f8 q t ht
  ·rw[if_neg h2] at ht;have:=hC ((r-1-i)*2+q) (by omega)
   rw[show(i+1)*2+((r-1-i)*2+q)=r*2+q by omega,show i*2+((r-1-i)*2+q)=(r-1)*2+q by omega] at this
   rw[this];exact e8 (r-1) q t (by omega) ht
theorem aR{L:List Dr}{i:Nat}{t:T}(h:t ∈ U6 L i):O2 t=true/\X4 t=true:=by
 simp only[U6,Dr.ts,zJ,j_j,or_false] at h;rcases h with rfl|rfl<;>exact⟨rfl,rfl⟩
theorem a4d{a b:Option Ob}{m:Nat}{x:Ob}(h:Z4 [none,a,b] m=some x):(m=1/\a=some x)∨(m=2/\b=some x):=by
 match m,h with
 |0,h=>simp[Z4] at h
 |1,h=>exact .inl ⟨rfl,by simpa[Z4] using h⟩
 |2,h=>exact .inr ⟨rfl,by simpa[Z4] using h⟩
 |m+3,h=>simp[Z4] at h
theorem a8S{E:Env}{w w':World}{L M:List Dr}{d:Dr}{b κ:Nat}{cs:Array Value}{ty:TypeId}(hH:HeapOk E w [vJ L,vJ [d]])(hN:∀b,E.N b->b<w.heap.size)(ho:w'.os=w.os)(ht:w'.tape=w.tape)(hp:w'.output=w.output)(hsz:w.heap.size<=w'.heap.size)
  (hb:b=E.β 0/\E.κ 0≠0∨w.heap.size<=b) (hoth:∀k,k<w.heap.size->k≠b->w'.heap[k]? =w.heap[k]?) (hM:M.length<=κ) (hcs:w'.heap[b]? =some (.cells cs ty (0,0))) (hsi:κ*2<=cs.size)
  (hr:∀(r q:Nat) (t:T),r<M.length->(U6 M r)[q]? =some t->∃u,cs[r*2+q]? =some u/\Rd E w t u):
  Inv ⟨w,XB E [vJ L,vJ [d]],E.N,0,E,0⟩ (E.push 2 b κ 2) [none,vJ [d],vJ M] w'/\Stp E w (E.push 2 b κ 2) w':=by
 have hob:Z4 [vJ L,vJ [d]] 0=some (.arr true 0 2 L.length (U6 L)):=rfl;have hob1:Z4 [vJ L,vJ [d]] 1=some (.arr true 0 2 1 (U6 [d])):=rfl;obtain⟨hL,hF,hNb⟩:=hH.live 0 _ hob;have hn2:¬E.L 2:=fun h=>by have:=hH.lt 2 h;exact absurd this (by simp)
 have hnN:∀x,E.N x->x≠b:=fun x hx e=>by
  rcases hb with⟨h1,h2⟩|h1
  ·exact hNb _ (.inl ⟨h2,rfl⟩) (by rw[←h1,←e];exact hx)
  ·have:=hN x hx;omega
 have hst:Stp E w (E.push 2 b κ 2) w':=⟨Env.push_le hn2,fun x hx=>hoth x (hN x hx) (hnN x hx)⟩
 refine⟨(c8b hH hN).to (H':=[none,vJ [d],vJ M]) ho ht hp hsz hst 2 (fun m=>m=0) (fun _ h=>h) (fun i o hi hne=> ?_) (fun o hi=> ?_) (fun x hx hn=> ?_) (fun i hi=> ?_) (fun i v hi=>.inl (hH.l2 i v hi)) (fun o i v hi hv=> ?_),hst⟩
 ·rcases a4d hi with⟨rfl,e⟩|⟨rfl,e⟩
  ·exact⟨e,fun h=>by cases h⟩
  ·exact absurd rfl hne
 ·rcases a4d hi with⟨h,_⟩|⟨_,e⟩
  ·cases h
  ·have e:Ob.arr true 0 2 M.length (U6 M)=o:=Option.some.inj e;subst e;refine⟨.inr rfl,(show U8 (E.push 2 b κ 2) w' 2 ⟨true,0,2,M.length,U6 M⟩ from⟨rfl,hM,fun _ _=>rfl,fun i t _ ht=>(aR ht).1,fun _ i t _ ht=>(aR ht).2,cs,ty,fun _=>hcs,b4w hsi,fun r q t h1 h2=> ?_⟩),fun x hx=> ?_⟩
   ·obtain⟨u,h3,h4⟩:=hr r q t h1 h2;exact⟨u,h3,hst.rd h4⟩
   ·have hx:x=b:=(hx.arr rfl).2;subst hx;rcases hb with⟨h1,h2⟩|h1
    ·exact .inr ⟨0,_,rfl,hob,.inl ⟨h2,h1⟩⟩
    ·exact .inl h1
 ·refine hoth x hx fun e=> ?_
  subst e;rcases hb with⟨h1,h2⟩|h1
  ·exact hn 0 _ rfl hob (.inl ⟨h2,h1⟩)
  ·omega
 ·rcases hi with hi|rfl
  ·have:=hH.lt i hi;simp at this ⊢;omega
  ·simp
 ·rcases a4d hi with⟨rfl,e⟩|⟨rfl,e⟩
  ·obtain⟨_,_,_,_,_,h,_⟩:=hH.cur 1 _ v hob1 hv;cases h
  ·exact absurd (hH.l2 2 v hv) hn2
theorem b32:Z1 Tryz.prog 248 b6d:=by
 rintro⟨L,i,d⟩ ⟨hi,hn⟩;dsimp only at hi hn ⊢;by_cases hin:i=L.length
 ·subst hin;have e:xN L L.length d=L++[d]:=by unfold xN;rw[nQ,List.drop_length]
  rw[e];refine c0o L d ⟨⟨by omega,by omega⟩,fun h=>(by cases h),fun _=>⟨fun _=>⟨⟨V5 _,V5 _,by unfold V7;omega⟩,⟨⟨rfl,rfl⟩,trivial⟩,trivial,⟨rfl,Z9 _ _⟩,⟨by rw[s7];rfl,c7c L d⟩,trivial⟩,fun h=> ?_⟩⟩
  rw[beq_self_eq_true] at h;cases h
 ·have hin:i<L.length:=by omega
  intro E w vs hH hN hr;have hob:Z4 [vJ L,vJ [d]] 0=some (.arr true 0 2 L.length (U6 L)):=rfl;have hob1:Z4 [vJ L,vJ [d]] 1=some (.arr true 0 2 1 (U6 [d])):=rfl;obtain⟨hL,hF,hNb⟩:=hH.live 0 _ hob;obtain⟨hL1,hF1,hNb1⟩:=hH.live 1 _ hob1;obtain⟨e1,e2,e3,e4,_,cs,tyb,e6,e7,e8⟩:=(show U8 E w 0 ⟨true,0,2,L.length,U6 L⟩ from hF)
  obtain⟨g1,g2,g3,g4,_,vs1,tyv,g6,g7,g8⟩:=(show U8 E w 1 ⟨true,0,2,1,U6 [d]⟩ from hF1)
  dsimp only at e1 e2 e3 e4 e7 e8 g1 g2 g3 g4 g7 g8;have hκ:E.κ 0≠0:=by omega
  have hκ1:E.κ 1≠0:=by omega
  have e6:=e6 hκ;have g6:=g6 hκ1;have e7l:=e7.le;have g7l:=g7.le;have hne:E.β 1≠E.β 0:=fun e=>by
   have:=hH.inj 0 1 _ _ (E.β 0) hob hob1 (.inl ⟨hκ,rfl⟩) (.inl ⟨hκ1,e.symm⟩);cases this
  obtain⟨hsz,hv⟩:=hr;obtain⟨v0,v1,v2,rfl⟩:∃v0 v1 v2,vs= #[v0,v1,v2]:=by
   have h2:vs.size=3:=hsz.symm;exact⟨vs[0],vs[1],vs[2],by apply Array.ext<;>simp[h2];intro i hi _;match i,hi with|0,_=>rfl|1,_=>rfl|2,_=>rfl⟩
  obtain rfl:=uG (hv 1 (.int .i64 i) v1 rfl rfl);obtain⟨a,o,rfl,_,_,ho,ha⟩:=mE (hv 0 (.osl 0 0 L.length) v0 rfl rfl);obtain⟨a2,o2,rfl,_,_,ho2,ha2⟩:=mE (hv 2 (.osl 1 0 1) v2 rfl rfl);have ho:o=0:=by have:=ho (.inr rfl);omega
  have ho2:o2=0:=by have:=ho2 (.inr rfl);omega
  subst ho ho2;rw[ha hκ,ha2 hκ1,Nat.sub_zero,Nat.sub_zero];have hc1:∀j,j<L.length*2->∃u,cs[j]? =some u/\u.oneCell'=true:=fun j hj=>by
   obtain⟨t,ht⟩:∃t,(U6 L (j/2))[j % 2]? =some t:=⟨_,O1 (by show j % 2<2;omega)⟩
   obtain⟨u,hu,hru⟩:=e8 (j/2) (j % 2) t (by omega) ht
   exact⟨u,by rw[show j=j/2*2+j % 2 by omega];exact hu,rX hru (aR (E8 ht)).1⟩
  have f8:∀q t,(d.ts)[q]? =some t->∃u,vs1[q]? =some u/\Rd E w t u:=fun q t ht=>by
   obtain⟨u,h1,h2⟩:=g8 0 q t (by omega) ht
   exact⟨u,by rw[Nat.zero_mul,yO] at h1;exact h1,h2⟩
  have hv1:∀q,q<2->∃u,vs1[q]? =some u/\u.oneCell'=true:=fun q hq=>by
   obtain⟨t,ht⟩:∃t,(d.ts)[q]? =some t:=⟨_,O1 (by show q<2;omega)⟩
   obtain⟨u,h1,h2⟩:=f8 q t ht;exact⟨u,h1,rX h2 (aR (L:=[d]) (i:=0) (E8 ht)).1⟩
  have hlt:∀q,(cs.toList.take (L.length*2))[q]? =if q<L.length*2 then cs[q]? else none:=fun q=>by rw[List.getElem?_take,Array.getElem?_toList]
  have hlv:∀q,(vs1.toList.take 2)[q]? =if q<2 then vs1[q]? else none:=fun q=>by rw[List.getElem?_take,Array.getElem?_toList]
  have hll:(cs.toList.take (L.length*2)).length=L.length*2:=by rw[List.length_take,Array.length_toList (xs:=cs)];omega
  have hvl:(vs1.toList.take 2).length=1*2:=by rw[List.length_take,Array.length_toList (xs:=vs1)];omega
  have h1c:∀u ∈ cs.toList.take (L.length*2),u.oneCell'=true:=fun u hu=>by
   obtain⟨q,hq⟩:=List.getElem?_of_mem hu
   have hql:q<L.length*2:=by rw[←hll];exact(C8.1 hq).1
   rw[hlt,if_pos hql] at hq;obtain⟨u',h1,h2⟩:=hc1 q hql;rw[h1] at hq;exact Option.some.inj hq▸h2
  have h1v:∀u ∈ vs1.toList.take 2,u.oneCell'=true:=fun u hu=>by
   obtain⟨q,hq⟩:=List.getElem?_of_mem hu
   have hql:q<1*2:=by rw[←hvl];exact(C8.1 hq).1
   rw[hlv,if_pos (by omega)] at hq
   obtain⟨u',h1,h2⟩:=hv1 q (by omega)
   rw[h1] at hq;exact Option.some.inj hq▸h2
  have hcb:∀j,w.cell? ⟨E.β 0,j,none⟩=cs[j]? :=fun j=>T7 e6
  have hcv:∀j,w.cell? ⟨E.β 1,j,none⟩=vs1[j]? :=fun j=>T7 g6
  have hcs:∀j v,(cs.toList.take (L.length*2))[j]? =some v->w.cell? ⟨E.β 0,j,none⟩=some v:=fun j v h=>by
   rw[hlt] at h;split at h
   ·rw[hcb];exact h
   ·cases h
  have hvs:∀j v,(vs1.toList.take 2)[j]? =some v->w.cell? ⟨E.β 1,j,none⟩=some v:=fun j v h=>by
   rw[hlv] at h;split at h
   ·rw[hcv];exact h
   ·cases h
  have hM:(xN L i d).length=L.length+1:=oT hi;have hdr:∀p,((cs.toList.take (L.length*2)).drop (i*2))[p]? =if i*2+p<L.length*2 then cs[i*2+p]? else none:=fun p=>by rw[List.getElem?_drop,hlt]
  have hdl:((cs.toList.take (L.length*2)).drop (i*2)).length=(L.length-i)*2:=by rw[List.length_drop,hll];omega
  have hd1:∀u ∈ (cs.toList.take (L.length*2)).drop (i*2),u.oneCell'=true:=fun u hu=>h1c u (List.mem_of_mem_drop hu)
  have hvl2:(vs1.toList.take 2).length=2:=hvl;by_cases hroom:L.length+1<=E.κ 0
  ·refine(b1P (E.β 0) L.length (E.κ 0) i (E.β 1) 1 (E.κ 1) (cs.toList.take (L.length*2)) (vs1.toList.take 2) w hin (by omega) hroom (by omega) hne hll hvl hcs (fun j hj=>by rw[hcb,vC (by omega)];rfl) (fun j _=>by simp[World.frozen?,e6]) hvs h1c h1v tyv tyb vs1.size cs.size (by simp[World.shape?,g6]) (by simp[World.shape?,e6]) (by omega) (by simp[World.frozen?,g6]) (by simp[World.frozen?,g6])).mono ?_
   rintro e w' ⟨rfl,hw'⟩;generalize cs.toList.take (L.length*2)=CS at*;generalize vs1.toList.take 2=VS at*;obtain⟨a1,a2,a3,a4,a5,cs1,a6,a7,a8,a9⟩:=y5 w.drew (E.β 0) ((i+1)*2) tyb cs (CS.drop (i*2)) e6 (by rw[hdl];omega) hd1
   generalize w.drew.setCells (E.β 0) ((i+1)*2) (CS.drop (i*2))=w1 at hw' a1 a2 a3 a4 a5 a6;obtain⟨b1,b2,b3,b4,b5,cs2,b6,b7,b8,b9⟩:=y5 w1 (E.β 0) (i*2) tyb cs1 VS a6 (by rw[a7,hvl2];omega) h1v
   rw[←hw'] at b1 b2 b3 b4 b5 b6;obtain⟨hI,hst⟩:=a8S (M:=xN L i d) (b:=E.β 0) (κ:=E.κ 0) (cs:=cs2) (ty:=tyb) (w':=w') hH hN (b1.trans a1) (b2.trans a2) (b3.trans a3) (Nat.le_of_eq (b4.trans a4).symm) (.inl ⟨rfl,hκ⟩) (fun k _ hk=>(b5 k hk).trans (a5 k hk)) (by omega) b6 (by omega) (by
    rw[hM];exact fL hin e8 f8 (fun p hp=>by rw[b8 p (.inl hp),a8 p (.inl (by omega))]) (fun q hq=>by rw[b9 q (by omega),hlv,if_pos hq]) (fun p hp=>by rw[b8 _ (.inr (by omega)),a9 p (by omega),hdr,if_pos (by omega)]))
   refine⟨_,_,rfl,hI,hst,?_⟩
   exact Rd.osl (E:=E.push 2 (E.β 0) (E.κ 0) 2) (w:=w') 2 0 (L.length+1) 0 (some ⟨E.β 0,0,none⟩) (.inr rfl) (show 0+_<=E.κ 0 by omega) (fun _=>by simp) (fun _=>rfl)
  ·refine(b52 (E.β 0) L.length (E.κ 0) i (E.β 1) 1 (E.κ 1) (cs.toList.take (L.length*2)) (vs1.toList.take 2) w hin (by omega) e2 (by omega) (by omega) hll hvl hcs hvs h1c h1v).mono ?_
   rintro e w' ⟨rfl,hw'⟩;have hG:=grownCap_ge w (L.length+1) (E.κ 0) 224;have hgt:∀p,p<i*2->((cs.toList.take (L.length*2)).take (i*2))[p]? =cs[p]? :=fun p hp=>by rw[List.getElem?_take,if_pos hp,hlt,if_pos (by omega)]
   have hgl:((cs.toList.take (L.length*2)).take (i*2)).length=i*2:=by rw[List.length_take,hll];omega
   generalize cs.toList.take (L.length*2)=CS at*;generalize vs1.toList.take 2=VS at*;generalize hGc:grownCap w (L.length+1) (E.κ 0) 224=G at*;have hR:((CS.take (i*2)).toArray++Builtin.zeroCells (Value.agg tP.toArray).cells (L.length+1-i)++Builtin.zeroCells (Value.agg tP.toArray).cells (G- (L.length+1))).size=G*2:=by
    rw[Array.size_append,Array.size_append,oF,oF,List.size_toArray,hgl];omega
   have hRg:∀p,p<i*2->((CS.take (i*2)).toArray++Builtin.zeroCells (Value.agg tP.toArray).cells (L.length+1-i)++Builtin.zeroCells (Value.agg tP.toArray).cells (G- (L.length+1)))[p]? =cs[p]? :=fun p hp=>by
    rw[Array.getElem?_append_left (by rw[Array.size_append,List.size_toArray,hgl];omega),Array.getElem?_append_left (by rw[List.size_toArray,hgl];exact hp),List.getElem?_toArray]
    exact hgt p hp
   generalize (CS.take (i*2)).toArray++Builtin.zeroCells (Value.agg tP.toArray).cells (L.length+1-i)++Builtin.zeroCells (Value.agg tP.toArray).cells (G- (L.length+1))=ROW at*;have hh:((w.alloc (.cells ROW 224)).drew).heap=w.heap.push (.cells ROW 224 (0,0)):=rfl;have z6:((w.alloc (.cells ROW 224)).drew).heap[w.heap.size]? =some (.cells ROW 224 (0,0)):=by rw[hh,Array.getElem?_push,if_pos rfl]
   have z5:∀k,k≠w.heap.size->((w.alloc (.cells ROW 224)).drew).heap[k]? =w.heap[k]? :=fun k hk=>by rw[hh,Array.getElem?_push,if_neg hk]
   have z4:((w.alloc (.cells ROW 224)).drew).heap.size=w.heap.size+1:=by rw[hh,Array.size_push]
   obtain⟨a1,a2,a3,a4,a5,cs1,a6,a7,a8,a9⟩:=y5 ((w.alloc (.cells ROW 224)).drew) w.heap.size (i*2) 224 ROW VS z6 (by rw[hR,hvl2];omega) h1v
   generalize ((w.alloc (.cells ROW 224)).drew).setCells w.heap.size (i*2) VS=w1 at hw' a1 a2 a3 a4 a5 a6;obtain⟨b1,b2,b3,b4,b5,cs2,b6,b7,b8,b9⟩:=y5 w1.drew w.heap.size ((i+1)*2) 224 cs1 (CS.drop (i*2)) a6 (by rw[a7,hR,hdl];omega) hd1
   rw[←hw'] at b1 b2 b3 b4 b5 b6;obtain⟨hI,hst⟩:=a8S (M:=xN L i d) (b:=w.heap.size) (κ:=G) (cs:=cs2) (ty:=224) (w':=w') hH hN (b1.trans a1) (b2.trans a2) (b3.trans a3) (by have:=b4.trans a4;omega) (.inr (V5 _)) (fun k hk hne=>(b5 k hne).trans ((a5 k hne).trans (z5 k hne))) (by omega) b6 (by rw[b7,a7,hR];exact V5 _) (by
    rw[hM];exact fL hin e8 f8 (fun p hp=>by rw[b8 p (.inl (by omega)),a8 p (.inl hp),hRg p hp]) (fun q hq=>by rw[b8 _ (.inl (by omega)),a9 q (by omega),hlv,if_pos hq]) (fun p hp=>by rw[b9 p (by omega),hdr,if_pos (by omega)]))
   refine⟨_,_,rfl,hI,hst,?_⟩
   exact Rd.osl (E:=E.push 2 w.heap.size G 2) (w:=w') 2 0 (L.length+1) 0 (some ⟨w.heap.size,0,none⟩) (.inr rfl) (show 0+_<=G by omega) (fun _=>by simp) (fun _=>rfl)
end Go.Proofs.YtokaojbaacnngaaGreat

namespace Go.Proofs.YtokaojbaacnngaaGreat
set_option maxRecDepth 100000
open Go.SS Go.RowKit

def cM(L:List Dr)(d:Dr):List Dr:=if isD L d.no=true then L else xN L (r6 L d.no) d
def b79:Con:=.reff ⟨List Dr×Dr,fun x=>[.osl 0 0 x.1.length,.agg x.2.ts],fun x=>[vJ x.1],fun x=>.osl 1 0 (cM x.1 x.2).length,fun x=>[none,vJ (cM x.1 x.2)],fun x=>iA x.1/\x.1.length<=1000⟩
noncomputable def b7o:Code:=Tryz.f197.body.getD .skip
theorem a3N:Z7 Tryz.prog 197:=⟨_,Tryz.func197,by kernel_rfl,by kernel_rfl⟩
theorem b8E(L:List Dr)(d:Dr)(h:
  ∃(x:(List Dr×Dr)),(Le (0+L.length) L.length/\((Y4 U6 L x.fst)/\(d.no=x.snd.no/\d.first=x.snd.first/\True)/\Value.func (Fn.func 246) #[] #[]=Value.func (Fn.func 246) #[] #[]/\True)/\iA x.fst/\
  x.fst.length<=1000)/\(isD x.fst x.snd.no=true->((0=0/\L.length=(cM L d).length)/\True)/\True/\(Y4 U6 L (cM L d))/\True)/\(isD x.fst x.snd.no=false->∃(x_1:(List Dr×Nat×Dr)),(((0=0/\L.length=
  x_1.fst.length)/\(↑(r6 x.fst x.snd.no):Int)=(x_1.snd.fst:Int)/\(0=0/\1=1)/\True)/\((Y4 U6 L x_1.fst)/\(1=1/\Z8 1 (fun(k:Nat)=>List.take 2 (List.drop (k*2) [T.int .i64 d.no,T.int .i64 d.first]))
  (U6 [x_1.snd.snd]))/\True)/\x_1.snd.fst<=x_1.fst.length/\x_1.fst.length<=1000)/\((0=0/\x_1.fst.length+1=(cM L d).length)/\True)/\True/\(Y4 U6 (xN x_1.fst x_1.snd.fst x_1.snd.snd) (cM L d))/\True)):
  V3 Tryz.prog 197 [.osl 0 0 L.length,.agg d.ts] [vJ L] (.osl 1 0 (cM L d).length) [none,vJ (cM L d)]:=
 v5 (code:=b7o) (gC b4Z a8C (gC b32 a2d gN)) Tryz.func197 (by kernel_rfl) (by kernel_rfl) Z0 [[.arr 0,.vl 0 []]] h (by kernel_rfl)
theorem c38{n:Nat}{p:Nat->Bool}(h:anyI n p=true):0<=Q4 n p:=by
 obtain⟨i,hi,hp⟩:=Q0.1 h;have key:∀m,m<=i->(∃k,k<n/\p k=true/\∀j,j<k->p j=false)∨∀j,j<m->p j=false:=by
  intro m;induction m with
  |zero=>intro _;exact .inr fun j hj=>absurd hj (J2 j)
  |succ m ih=>
   intro hm;rcases ih (by omega) with h0|h0
   ·exact .inl h0
   ·cases hq:p m with
    |true=>exact .inl ⟨m,by omega,hq,h0⟩
    |false=>
     refine .inr fun j hj=> ?_
     by_cases e:j=m
     ·rw[e];exact hq
     ·exact h0 j (by omega)
 rcases key i (V5 i) with⟨k,hk,hpk,hl⟩|h0
 ·rw[M1 hk hpk hl];omega
 ·rw[M1 hi hp h0];omega
theorem a6p{L:List Dr}{no:Int}:r6 L no<=L.length/\(∀q,q<r6 L no->(L.getD q default).no<no)/\(r6 L no<L.length->no<=(L.getD (r6 L no) default).no):=by
 unfold r6;by_cases h:Q4 L.length (b29 L no)<0
 ·rw[if_pos h];refine⟨V5 _,fun q hq=> ?_,fun h2=>by omega⟩
  have hn:anyI L.length (b29 L no)=false:=by
   cases ha:anyI L.length (b29 L no) with
   |false=>rfl
   |true=>
    have:=c38 ha;omega
  have:=yQ (M5.1 hn q hq);omega
 ·obtain⟨i,hi,hp,hl,he⟩:=oS h;rw[if_neg h,he,v4];refine⟨by omega,fun q hq=> ?_,fun _=>D8 hp⟩
  have:=yQ (hl q hq);omega
theorem b1E:Z1 Tryz.prog 197 b79:=by
 rintro⟨L,d⟩ ⟨hs,hn⟩;dsimp only at hs hn;refine b8E L d ⟨(L,d),⟨S7 _,⟨⟨rfl,Z9 _ _⟩,⟨rfl,rfl,trivial⟩,rfl,trivial⟩,hs,hn⟩,fun h=> ?_,fun h=> ?_⟩
 ·have e:cM L d=L:=if_pos h;rw[e];exact⟨⟨⟨rfl,rfl⟩,trivial⟩,trivial,⟨rfl,Z9 _ _⟩,trivial⟩
 ·have e:cM L d=xN L (r6 L d.no) d:=if_neg (by have h:isD L d.no=false:=h;rw[h];simp)
  have hl:r6 L d.no<=L.length:=a6p.1;rw[e];exact⟨(L,r6 L d.no,d),⟨⟨⟨rfl,rfl⟩,rfl,⟨rfl,rfl⟩,trivial⟩,⟨⟨rfl,Z9 _ _⟩,⟨rfl,fun i hi=>by match i,hi with|0,_=>rfl⟩,trivial⟩,hl,hn⟩,⟨⟨rfl,(oT hl).symm⟩,trivial⟩,trivial,⟨rfl,Z9 _ _⟩,trivial⟩
theorem c6G{L:List Dr}{d:Dr}(hs:iA L):iA (cM L d):=by
 unfold cM;split
 ·exact hs
 ·rename_i hd;obtain⟨h1,h2,h3⟩:=a6p (L:=L) (no:=d.no);have h4:∀q,r6 L d.no<=q->q<L.length->d.no<(L.getD q default).no:=fun q hq hql=>by
   have h5:(L.getD (r6 L d.no) default).no≠d.no:=fun e=>by
    apply hd
    unfold isD;rw[jB (show r6 L d.no<L.length by omega),e]
    simp
   have h6:=h3 (by omega)
   by_cases e:q=r6 L d.no
   ·rw[e];omega
   ·have:=hs (r6 L d.no) q (by omega) hql
    omega
  generalize r6 L d.no=i at*;intro a b hab hb;rw[oT h1] at hb;rw[a46 h1,a46 h1];by_cases c1:b<i
  ·rw[if_pos c1,if_pos (by omega)]
   exact hs a b hab (by omega)
  ·rw[if_neg c1];by_cases c2:b=i
   ·rw[if_pos c2,if_pos (by omega)]
    exact h2 a (by omega)
   ·rw[if_neg c2];by_cases c3:a<i
    ·rw[if_pos c3];have:=h2 a c3;have:=h4 (b-1) (by omega) (by omega)
     omega
    ·rw[if_neg c3];by_cases c4:a=i
     ·rw[if_pos c4];exact h4 (b-1) (by omega) (by omega)
     ·rw[if_neg c4];exact hs (a-1) (b-1) (by omega) (by omega)
theorem c6k(L:List Dr)(d:Dr):(cM L d).length<=L.length+1:=by
 unfold cM;split
 ·omega
 ·exact Nat.le_of_eq (oT a6p.1)
def N9(F:List Frm):Nat->List Dr
 |0=>[]
 |i+1=>if(F.getD i default).dirty=true then cM (N9 F i) ⟨(F.getD i default).no,(F.getD i default).first⟩ else N9 F i
theorem b6U{F:List Frm}{i:Nat}(h:(F.getD i default).dirty=true):N9 F (i+1)=cM (N9 F i) ⟨(F.getD i default).no,(F.getD i default).first⟩:=by
 conv=>lhs;unfold N9
 rw[if_pos h]
theorem b6x{F:List Frm}{i:Nat}(h:(F.getD i default).dirty=false):N9 F (i+1)=N9 F i:=by
 conv=>lhs;unfold N9
 rw[if_neg (by rw[h];simp)]
theorem mQ(F:List Frm):∀i,iA (N9 F i)/\(N9 F i).length<=i
 |0=>⟨fun a b _ hb=>absurd hb (J2 b),V5 _⟩
 |i+1=>by
  obtain⟨h1,h2⟩:=mQ F i;cases hd:(F.getD i default).dirty with
  |true=>
   rw[b6U hd];have:=c6k (N9 F i) ⟨(F.getD i default).no,(F.getD i default).first⟩
   exact⟨c6G h1,by omega⟩
  |false=>
   rw[b6x hd];exact⟨h1,by omega⟩
def b1H(L:List Dr):Nat->List UInt8
 |0=>[]
 |i+1=>b1H L i++[i9 (L.getD i default).no,i9 (L.getD i default).first]
def txB(L:List Txn):Nat->List UInt8
 |0=>[]
 |i+1=>txB L i++[i9 (L.getD i default).id,i9 (L.getD i default).last]
def yP(P:List Dr)(i:Nat):List UInt8:=i9 P.length::b1H P i
def c9(P:List Dr)(T:List Txn)(i:Nat):List UInt8:=(yP P P.length++[i9 T.length])++txB T i
def ckT(e:Eng):List UInt8:=c9 (N9 e.s.fr e.s.fr.length) e.txs e.txs.length
def a2z:Con:=.rel ⟨Eng,fun e=>[.bref e.ts],fun e=>.str (ckT e),fun e=>e.s.fr.length<=100/\e.txs.length<=100⟩
def b6B(e:Eng):Nat->Ann
 |0=>.one {i:Nat//i<=e.s.fr.length} (fun x=>⟨[(0,.bref e.ts),(3,.osl 0 0 (N9 e.s.fr x.1).length),(16,w5 e.s.fr),(17,.int .i64 e.s.fr.length),(18,.int .i64 x.1)],[vJ (N9 e.s.fr x.1)]⟩) (fun x=>e.s.fr.length-x.1) [.at_ 3] [.at_ 3] fun _=>fun
  |1=>.one {i:Nat//i<=(N9 e.s.fr e.s.fr.length).length} (fun x=>⟨[(0,.bref e.ts),(6,.osl 1 0 (yP (N9 e.s.fr e.s.fr.length) x.1).length),(36,.osl 0 0 (N9 e.s.fr e.s.fr.length).length),(37,.int .i64 (N9 e.s.fr e.s.fr.length).length),(38,.int .i64 x.1)],[vJ (N9 e.s.fr e.s.fr.length),some (.bys 5 (yP (N9 e.s.fr e.s.fr.length) x.1))]⟩) (fun x=>(N9 e.s.fr e.s.fr.length).length-x.1) [.at_ 36,.at_ 6] [.at_ 36,.at_ 6] fun _=>fun
   |2=>.one {i:Nat//i<=e.txs.length} (fun x=>⟨[(6,.osl 0 0 (c9 (N9 e.s.fr e.s.fr.length) e.txs x.1).length),(64,B4 e.txs),(65,.int .i64 e.txs.length),(66,.int .i64 x.1)],[some (.bys 5 (c9 (N9 e.s.fr e.s.fr.length) e.txs x.1))]⟩) (fun x=>e.txs.length-x.1) [.at_ 6] [.at_ 6] (fun _=>Z0)
   |_=>.none
  |_=>.none
 |_=>.none
noncomputable def a2B:Code:=Tryz.f130.body.getD .skip
theorem kT:Z7 Tryz.prog 130:=⟨_,Tryz.func130,by kernel_rfl,by kernel_rfl⟩
theorem a3U(e:Eng)(h:
  (∃(x:{i:Nat//i<=e.s.fr.length}),(O0 (A5 [some 0]) (T.bref e.ts) (T.bref e.ts)/\(0=0/\0=(N9 e.s.fr x.val).length)/\(Y4 V6 e.s.fr e.s.fr)/\(e.s.fr.length:Int)=(e.s.fr.length:Int)/\(0:Int)=
  (x.val:Int)/\True)/\(0=(N9 e.s.fr x.val).length/\Z8 0 (fun(k:Nat)=>List.take 2 (List.drop (k*2) [])) (U6 (N9 e.s.fr x.val)))/\True)/\∀(x:{i:Nat//i<=e.s.fr.length}),(decide ((x.val:Int)<
  (e.s.fr.length:Int))=true->X0 (x.val:Int) e.s.fr.length/\((e.s.fr.getD (x.val:Int).toNat default).dirty=true->∃(x_1:(List Dr×Dr)),(((0=0/\(N9 e.s.fr x.val).length=x_1.fst.length)/\((e.s.fr.getD
  (x.val:Int).toNat default).no=x_1.snd.no/\(e.s.fr.getD (x.val:Int).toNat default).first=x_1.snd.first/\True)/\True)/\((Y4 U6 (N9 e.s.fr x.val) x_1.fst)/\True)/\iA x_1.fst/\x_1.fst.length<=1000)/\X8 .i64
  ((x.val:Int)+(1:Int))/\∃(y:{i:Nat//i<=e.s.fr.length}),((O0 (A5 [some (2+(1-1))]) (T.bref e.ts) (T.bref e.ts)/\(0=0/\(cM x_1.fst x_1.snd).length=(N9 e.s.fr y.val).length)/\(Y4 V6 e.s.fr e.s.fr)/\
  (e.s.fr.length:Int)=(e.s.fr.length:Int)/\(x.val:Int)+(1:Int)=(y.val:Int)/\True)/\(Y4 U6 (cM x_1.fst x_1.snd) (N9 e.s.fr y.val))/\True)/\Lt (e.s.fr.length-y.val) (e.s.fr.length-x.val))/\((e.s.fr.getD
  (x.val:Int).toNat default).dirty=false->X8 .i64 ((x.val:Int)+(1:Int))/\∃(y:{i:Nat//i<=e.s.fr.length}),((O0 (A5 [some 0]) (T.bref e.ts) (T.bref e.ts)/\(0=0/\(N9 e.s.fr x.val).length=(N9 e.s.fr
  y.val).length)/\(Y4 V6 e.s.fr e.s.fr)/\(e.s.fr.length:Int)=(e.s.fr.length:Int)/\(x.val:Int)+(1:Int)=(y.val:Int)/\True)/\(Y4 U6 (N9 e.s.fr x.val) (N9 e.s.fr y.val))/\True)/\Lt (e.s.fr.length-y.val)
  (e.s.fr.length-x.val)))/\(decide ((x.val:Int)<(e.s.fr.length:Int))=false->X8 IntKind.u8 (IntKind.u8.wrap (↑(N9 e.s.fr x.val).length:Int))/\(∃(x_1:{i:Nat//i<=(N9 e.s.fr e.s.fr.length).length}),(O0 (A5
  [some 0,some 1]) (T.bref e.ts) (T.bref e.ts)/\(0=0/\1=(yP (N9 e.s.fr e.s.fr.length) x_1.val).length)/\(0=0/\(N9 e.s.fr x.val).length=(N9 e.s.fr e.s.fr.length).length)/\(↑(N9 e.s.fr x.val).length:Int)=(↑(N9
  e.s.fr e.s.fr.length).length:Int)/\(0:Int)=(x_1.val:Int)/\True)/\(Y4 U6 (N9 e.s.fr x.val) (N9 e.s.fr e.s.fr.length))/\List.map P4 [IntKind.u8.wrap (↑(N9 e.s.fr x.val).length:Int)]=yP (N9 e.s.fr
  e.s.fr.length) x_1.val/\True)/\∀(x:{i:Nat//i<=(N9 e.s.fr e.s.fr.length).length}),(decide ((x.val:Int)<(↑(N9 e.s.fr e.s.fr.length).length:Int))=true->X0 (x.val:Int) (N9 e.s.fr e.s.fr.length).length/\Lt (0+
  (x.val:Int).toNat) (N9 e.s.fr e.s.fr.length).length/\(X8 IntKind.u8 (IntKind.u8.wrap ((N9 e.s.fr e.s.fr.length).getD (0+(x.val:Int).toNat) default).no)/\X8 IntKind.u8 (IntKind.u8.wrap ((N9 e.s.fr e.s.fr.length).getD (0+
  (x.val:Int).toNat) default).first))/\(Le 2 2/\Le (yP (N9 e.s.fr e.s.fr.length) x.val).length (yP (N9 e.s.fr e.s.fr.length) x.val).length/\V7 (yP (N9 e.s.fr e.s.fr.length) x.val).length 2 1)/\X8 .i64 ((x.val:Int)+(1
  :Int))/\∃(y:{i:Nat//i<=(N9 e.s.fr e.s.fr.length).length}),((O0 (A5 [some 0,some 4]) (T.bref e.ts) (T.bref e.ts)/\(0=0/\(yP (N9 e.s.fr e.s.fr.length) x.val).length+2=(yP (N9 e.s.fr e.s.fr.length)
  y.val).length)/\(0=0/\(N9 e.s.fr e.s.fr.length).length=(N9 e.s.fr e.s.fr.length).length)/\(↑(N9 e.s.fr e.s.fr.length).length:Int)=(↑(N9 e.s.fr e.s.fr.length).length:Int)/\(x.val:Int)+(1:Int)=(y.val:Int)/\
  True)/\(Y4 U6 (N9 e.s.fr e.s.fr.length) (N9 e.s.fr e.s.fr.length))/\List.take (yP (N9 e.s.fr e.s.fr.length) x.val).length (yP (N9 e.s.fr e.s.fr.length) x.val)++List.take 2 (List.drop 0 (List.map P4 [IntKind.u8.wrap
  ((N9 e.s.fr e.s.fr.length).getD (0+(x.val:Int).toNat) default).no,IntKind.u8.wrap ((N9 e.s.fr e.s.fr.length).getD (0+(x.val:Int).toNat) default).first]))=yP (N9 e.s.fr e.s.fr.length) y.val/\True)/\Lt ((N9 e.s.fr
  e.s.fr.length).length-y.val) ((N9 e.s.fr e.s.fr.length).length-x.val))/\(decide ((x.val:Int)<(↑(N9 e.s.fr e.s.fr.length).length:Int))=false->X8 IntKind.u8 (IntKind.u8.wrap (e.txs.length:Int))/\(Le 1 1/\Le (yP
  (N9 e.s.fr e.s.fr.length) x.val).length (yP (N9 e.s.fr e.s.fr.length) x.val).length/\V7 (yP (N9 e.s.fr e.s.fr.length) x.val).length 1 1)/\(∃(x_1:{i:Nat//i<=e.txs.length}),((0=0/\(yP (N9 e.s.fr
  e.s.fr.length) x.val).length+1=(c9 (N9 e.s.fr e.s.fr.length) e.txs x_1.val).length)/\(Y4 Y0 e.txs e.txs)/\(e.txs.length:Int)=(e.txs.length:Int)/\(0:Int)=(x_1.val:Int)/\True)/\List.take (yP (N9 e.s.fr
  e.s.fr.length) x.val).length (yP (N9 e.s.fr e.s.fr.length) x.val)++List.take 1 (List.drop 0 (List.map P4 [IntKind.u8.wrap (e.txs.length:Int)]))=c9 (N9 e.s.fr e.s.fr.length) e.txs x_1.val/\True)/\∀(x:{i:Nat//i<=
  e.txs.length}),(decide ((x.val:Int)<(e.txs.length:Int))=true->X0 (x.val:Int) e.txs.length/\(X8 IntKind.u8 (IntKind.u8.wrap (e.txs.getD (x.val:Int).toNat default).id)/\X8 IntKind.u8 (IntKind.u8.wrap (e.txs.getD
  (x.val:Int).toNat default).last))/\(Le 2 2/\Le (c9 (N9 e.s.fr e.s.fr.length) e.txs x.val).length (c9 (N9 e.s.fr e.s.fr.length) e.txs x.val).length/\V7 (c9 (N9 e.s.fr e.s.fr.length) e.txs x.val).length 2 1)/\X8 .i64
  ((x.val:Int)+(1:Int))/\∃(y:{i:Nat//i<=e.txs.length}),(((0=0/\(c9 (N9 e.s.fr e.s.fr.length) e.txs x.val).length+2=(c9 (N9 e.s.fr e.s.fr.length) e.txs y.val).length)/\(Y4 Y0 e.txs e.txs)/\
  (e.txs.length:Int)=(e.txs.length:Int)/\(x.val:Int)+(1:Int)=(y.val:Int)/\True)/\List.take (c9 (N9 e.s.fr e.s.fr.length) e.txs x.val).length (c9 (N9 e.s.fr e.s.fr.length) e.txs x.val)++List.take 2 (List.drop 0
  (List.map P4 [IntKind.u8.wrap (e.txs.getD (x.val:Int).toNat default).id,IntKind.u8.wrap (e.txs.getD (x.val:Int).toNat default).last]))=c9 (N9 e.s.fr e.s.fr.length) e.txs y.val/\True)/\Lt (e.txs.length-y.val)
  (e.txs.length-x.val))/\(decide ((x.val:Int)<(e.txs.length:Int))=false->Le (0+(c9 (N9 e.s.fr e.s.fr.length) e.txs x.val).length) (c9 (N9 e.s.fr e.s.fr.length) e.txs x.val).length/\List.take (c9 (N9 e.s.fr
  e.s.fr.length) e.txs x.val).length (List.drop 0 (c9 (N9 e.s.fr e.s.fr.length) e.txs x.val))=ckT e)))):
  Z2 Tryz.prog 130 [.bref e.ts] (.str (ckT e)):=
 T4 (code:=a2B) (gC b1E a3N gN) Tryz.func130 (by kernel_rfl) (by kernel_rfl) (b6B e) h (by kernel_rfl)
theorem uN(P:List Dr)(i:Nat):(yP P i).length=1+2*i:=by
 unfold yP;rw[List.length_cons];have:(b1H P i).length=2*i:=by
  induction i with
  |zero=>rfl
  |succ i ih=>
   unfold b1H;rw[s7,ih];show _+2=_;omega
 omega
theorem uT(P:List Dr)(T:List Txn)(i:Nat):(c9 P T i).length=2+2*P.length+2*i:=by
 unfold c9;rw[s7,s7,uN];have:(txB T i).length=2*i:=by
  induction i with
  |zero=>rfl
  |succ i ih=>
   unfold txB;rw[s7,ih];show _+2=_;omega
 rw[this];show 1+2*P.length+1+2*i=_;omega
theorem aU:Z1 Tryz.prog 130 a2z:=by
 rintro(e:Eng) ⟨hf,ht⟩;have hsp:=mQ e.s.fr;refine a3U e ⟨⟨⟨0,T0 _⟩,⟨T8 _,⟨rfl,rfl⟩,⟨rfl,Z9 _ _⟩,rfl,rfl,trivial⟩,⟨rfl,U1⟩,trivial⟩,fun x=>⟨fun hc=> ?_,fun hc=> ?_⟩⟩
 ·have hlt:=Y9 hc;obtain⟨s1,s2⟩:=hsp x.val;rw[v4];refine⟨Y7 hlt,fun hd=> ?_,fun hd=> ?_⟩
  ·have e1:=b6U hd;refine⟨(N9 e.s.fr x.val,⟨(e.s.fr.getD x.val default).no,(e.s.fr.getD x.val default).first⟩),⟨⟨⟨rfl,rfl⟩,⟨rfl,rfl,trivial⟩,trivial⟩,⟨⟨rfl,Z9 _ _⟩,trivial⟩,s1,by dsimp only;omega⟩,Z5 (by omega),⟨x.val+1,hlt⟩,?_,V9.ext_lt hlt⟩
   dsimp only;rw[e1];exact⟨⟨T8 _,⟨rfl,rfl⟩,⟨rfl,Z9 _ _⟩,rfl,by omega,trivial⟩,⟨rfl,Z9 _ _⟩,trivial⟩
  ·have e1:=b6x hd;refine⟨Z5 (by omega),⟨x.val+1,hlt⟩,?_,V9.ext_lt hlt⟩
   dsimp only;rw[e1];exact⟨⟨T8 _,⟨rfl,rfl⟩,⟨rfl,Z9 _ _⟩,rfl,by omega,trivial⟩,⟨rfl,Z9 _ _⟩,trivial⟩
 ·have hx:x.val=e.s.fr.length:=by have:=x.2;have:=Y3 hc;omega
  rw[hx];have hP:=(hsp e.s.fr.length).2;generalize hPe:N9 e.s.fr e.s.fr.length=P at*;refine⟨T3 _,⟨⟨0,T0 _⟩,⟨T8 _,⟨rfl,rfl⟩,⟨rfl,rfl⟩,rfl,rfl,trivial⟩,⟨rfl,Z9 _ _⟩,rfl,trivial⟩,fun y=>⟨fun hc=> ?_,fun hc=> ?_⟩⟩
  ·have hlt:=Y9 hc;have hl:=uN P y.val;have hl2:=uN P (y.val+1);rw[v4,yO,nQ];exact⟨Y7 hlt,hlt,⟨T3 _,T3 _⟩,⟨V5 _,V5 _,by unfold V7;omega⟩,Z5 (by omega),⟨y.val+1,hlt⟩,⟨⟨T8 _,⟨rfl,by dsimp only;omega⟩,⟨rfl,rfl⟩,rfl,by dsimp only;omega,trivial⟩,⟨rfl,Z9 _ _⟩,rfl,trivial⟩,V9.ext_lt hlt⟩
  ·have hy:y.val=P.length:=by have:=y.2;have:=Y3 hc;omega
   rw[hy,nQ];have hl:=uN P P.length;have hl0:=uT P e.txs 0;refine⟨T3 _,⟨V5 _,V5 _,by unfold V7;omega⟩,⟨⟨0,T0 _⟩,⟨⟨rfl,by dsimp only;omega⟩,⟨rfl,Z9 _ _⟩,rfl,rfl,trivial⟩,(List.append_nil _).symm,trivial⟩,fun z=>⟨fun hc=> ?_,fun hc=> ?_⟩⟩
   ·have hlt:=Y9 hc;have hl:=uT P e.txs z.val;have hl2:=uT P e.txs (z.val+1);rw[v4,nQ];exact⟨Y7 hlt,⟨T3 _,T3 _⟩,⟨V5 _,V5 _,by unfold V7;omega⟩,Z5 (by omega),⟨z.val+1,hlt⟩,⟨⟨⟨rfl,by dsimp only;omega⟩,⟨rfl,Z9 _ _⟩,rfl,by dsimp only;omega,trivial⟩,List.append_assoc _ _ _,trivial⟩,V9.ext_lt hlt⟩
   ·have hz:z.val=e.txs.length:=by have:=z.2;have:=Y3 hc;omega
    rw[hz,List.drop_zero,nQ];refine⟨S7 _,?_⟩
    unfold ckT;rw[hPe]
end Go.Proofs.YtokaojbaacnngaaGreat

