/- A part of the proof. -/
import Derived.Test.YtfmngblmdghccaaGreatX1
namespace Go.Proofs.YtfmngblmdghccaaGreat
set_option maxRecDepth 100000
open Go.SS Go.RowKit

noncomputable def b_insRw:Code:=Tryz.f96.body.getD .skip
theorem call_insRw:Callable Tryz.prog 96:=⟨_,Tryz.func96,by kernel_rfl,by kernel_rfl⟩
theorem run_copy_rows{P:Program}(w:World)(dT sT ty elem:TypeId)(b o dLen dCap:Nat)(a:Addr)(sLen sCap:Nat)(cs:List Value)(sz m:Nat)
  (hu:P.underlying dT=some (.slice elem)) (hs:(P.info? elem).map (·.size)=some sz) (hm:m=Nat.min sLen dLen) (hn:cs.length=m*sz)
  (hsrc:∀j v,cs[j]? =some v->w.cell? (a.add j)=some v) (hc:∀j,j<cs.length->(w.cell? ⟨b,o+j,none⟩).isSome=true) (hf:∀j,j<cs.length->w.frozen? ⟨b,o+j,none⟩=false) (h1:∀v ∈ cs,v.oneCell'=true):
  (Builtin.copy_ #[dT,sT] ty #[.slice (some ⟨b,o,none⟩) dLen dCap,.slice (some a) sLen sCap]).run P w= .ok (goInt m) (w.setCells b o cs):=by
 have hl:=run_loadCells_list (P:=P) w a cs hsrc;have hst:=run_storeCells_cells (P:=P) b o cs 0 w (by simpa using hc) (by simpa using hf) h1
 cases hq:P.info? elem with
 |none=>simp[hq] at hs
 |some i=>
  have hi:i.size=sz:=by simpa[hq] using hs
  simp[Builtin.copy_,run_underlying hu,Builtin.lenOf,Builtin.firstCells,sizeOf,typeInfo,hq,hi,←hm,←hn,hl,hst]
theorem wpl_copy{P:Program}(w:World){ops:Array Oper}{rest:List Oper}{o:Oper}{a:Act}{Q:Exit->Act->World->Prop}(hgd:o.guard=none)(d s:Operand)(t t':TypeId)
  (ho:o.op= .call {callee:=.builtin .copy,args:= #[d,s],argTypes:= #[t,t']}) (v u:Value) (hd:a.eval d=v) (hs:a.eval s=u) {v':Value} {w':World}
  (hr:(Builtin.copy_ #[t,t'] o.type #[v,u]).run P w= .ok v' w') (h:wpList P ops Q rest (a.put o.dst v') w'):wpList P ops Q (o::rest) a w:=
 wpList_plain hgd fun _ hK=>by
  refine(show o.wp P a w _ _ from ?_)
  unfold Oper.wp execOp;simp only[ho,resolve,invoke,builtin,Sem.run_bind,Sem.run_pure,Result.andThen_ok,List.map_toArray,List.map_cons,List.map_nil,hd,hs,hr];exact hK _ _ h
theorem stp_copy{P:Program}{ops:Array Oper}{o:Oper}{a:Act}{w:World}{K:Act->World->Prop}{Q:Exit->Act->World->Prop}{E:Prop}
  (hg:o.guard=none) (d x:Operand) (dT sT:TypeId) (hop:o.op=Op.call {callee:=Callee.builtin Builtin.copy,args:= #[d,x],argTypes:= #[dT,sT]})
  (v u:Value) (hd:a.eval d=v) (hx:a.eval x=u) {v':Value} {w':World} (hr:(Builtin.copy_ #[dT,sT] o.type #[v,u]).run P w= .ok v' w') (hK:K (a.put o.dst v') w'):
  if Region.wanted o (yielded ops a.tmps)=true then Oper.wp P o a w K Q else E:=by
 have hw:Region.wanted o (yielded ops a.tmps)=true:=by simp[Region.wanted,hg]
 rw[if_pos hw];unfold Oper.wp;simp[execOp,hop,resolve,invoke,builtin,hd,hx,hr,Result.andThen];exact hK
theorem some_setCells(b:Nat)(vs:List Value)(o:Nat)(w:World)(h:∀j,j<vs.length->(w.cell? ⟨b,o+j,none⟩).isSome=true)(k:Nat)(hk:(w.cell? ⟨b,k,none⟩).isSome=true):((w.setCells b o vs).cell? ⟨b,k,none⟩).isSome=true:=by
 by_cases hin:o<=k/\k<o+vs.length
 ·have:=World.cell?_setCells_in b vs o w h (k-o) (by omega)
  rw[show o+(k-o)=k by omega] at this
  rw[this];rfl
 ·rw[World.cell?_setCells_out b vs o w ⟨b,k,none⟩ (fun _ _=>by show k<o∨o+vs.length<=k;omega)]
  exact hk
theorem zc_size(n:Nat):(Builtin.zeroCells (Value.agg zRw.toArray).cells n).size=n*7:=by
 unfold Builtin.zeroCells;rw[Array.size_map,Array.size_range];rfl
set_option maxHeartbeats 4000000 in
set_option maxRecDepth 1000000 in
theorem ins_shift(b n c i vb m vc:Nat)(cs vs:List Value)(w:World)(hi:i<n)(hm:0<m)(hroom:n+m<=c)(hbig:n+m<=1000000)(hvb:vb≠b)
  (hcl:cs.length=n*7) (hvl:vs.length=m*7)
  (hcs:∀j v,cs[j]? =some v->w.cell? ⟨b,j,none⟩=some v) (hsp:∀j,j<(n+m)*7->(w.cell? ⟨b,j,none⟩).isSome=true) (hfz:∀j,j<(n+m)*7->w.frozen? ⟨b,j,none⟩=false)
  (hvs:∀j v,vs[j]? =some v->w.cell? ⟨vb,j,none⟩=some v) (h1c:∀v ∈ cs,v.oneCell'=true) (h1v:∀v ∈ vs,v.oneCell'=true)
  (tA tB:TypeId) (kA kB:Nat) (hsa:w.shape? vb=some (tA,kA)) (hsb:w.shape? b=some (tB,kB)) (hkB:kB≠0) (hfa:w.frozen? ⟨vb,0,none⟩=false) (hfe:w.frozen? ⟨vb,kA,none⟩=false):
  Calls Tryz.prog 96 #[.slice (some ⟨b,0,none⟩) n c,.int .i64 i,.slice (some ⟨vb,0,none⟩) m vc] w fun e w'=>
   e= .returned (.slice (some ⟨b,0,none⟩) (n+m) c)/\w'=(w.drew.setCells b ((i+m)*7) (cs.drop (i*7))).setCells b (i*7) vs:=by
 have mixed:Tryz.prog.follows .mixedOrders=true:=by kernel_rfl
 obtain⟨i0,hi0,hz0,hz1s,hz2s⟩:=info_parts info_rw;have hz1:¬ ((m:Int)=0):=by omega
 have hz2:¬ ((i:Int)=(n:Int)):=by omega
 have hsz:(Tryz.prog.info? 28).map (·.size)=some 7:=by rw[hi0];simp[hz1s]
 have hzz:∀w,(Go.sizeOf 28).run Tryz.prog w= .ok 7 w:=fun w=>by simp[sizeOf,typeInfo,hi0,hz1s]
 have hov:∀lb cb,(callFunc 110 #[.slice (some ⟨vb,0,none⟩) m vc,.slice (some ⟨b,(i+m)*7,none⟩) lb cb]).run Tryz.prog w= .ok (.value (.bool false)) w:=fun lb cb=>by
  rw[run_callFunc_extern Tryz.func110 (by kernel_rfl) (by kernel_rfl) (by kernel_rfl) (e:=Extern.SlicesOverlaps.overlaps #[23,23] #[4]) (by kernel_rfl),
   Lib.run_overlaps_apart w 23 4 28 under_rw 7 hzz ⟨vb,0,none⟩ ⟨b,(i+m)*7,none⟩ m vc lb cb hvb tA tB kA kB hsa hsb hkB hfa hfe]
  rfl
 have hdl:(cs.drop (i*7)).length=(n-i)*7:=by rw[List.length_drop,hcl];omega
 have hw1:IntKind.i64.wrap ((i:Int)+(m:Int))=(i:Int)+(m:Int):=by rw[IntKind.wrap_i64];omega
 have hb1:(0:Int)<=(i:Int)+(m:Int):=by omega
 have hin:i<=n:=by omega
 have htn:((i:Int)+(m:Int)).toNat=i+m:=by omega
 have hb2:¬ (c=i+m):=by omega
 have hb3:(i:Int)<=(n:Int)+(m:Int):=by omega
 have hb4:¬ (c=i):=by omega
 have hcp1:∀ty dc sc,(Builtin.copy_ #[23,23] ty #[.slice (some ⟨b,(i+m)*7,none⟩) (n+m- (i+m)) dc,.slice (some ⟨b,i*7,none⟩) (n+m-i) sc]).run Tryz.prog w.drew= .ok (goInt ((n-i:Nat):Int)) (w.drew.setCells b ((i+m)*7) (cs.drop (i*7))):=fun ty dc sc=>
  run_copy_rows w.drew _ _ ty 28 b ((i+m)*7) (n+m- (i+m)) dc ⟨b,i*7,none⟩ (n+m-i) sc (cs.drop (i*7)) 7 (n-i) under_rw hsz (by simp only[Nat.min_def];split<;>omega) hdl
   (fun j v hj=>by rw[Addr.add_lit];exact hcs (i*7+j) v (by rwa [List.getElem?_drop] at hj))
   (fun j hj=>hsp _ (by omega)) (fun j hj=>hfz _ (by omega)) (fun v hv=>h1c v (List.mem_of_mem_drop hv))
 obtain⟨W1,hW1⟩:∃W1,W1=w.drew.setCells b ((i+m)*7) (cs.drop (i*7)):=⟨_,rfl⟩;have hsp1:∀k,k<(n+m)*7->(W1.cell? ⟨b,k,none⟩).isSome=true:=fun k hk=>by
  rw[hW1];exact some_setCells b (cs.drop (i*7)) _ w.drew (fun j hj=>hsp ((i+m)*7+j) (by rw[hdl] at hj;omega)) _ (hsp k hk)
 have hcp2:∀(W:World),(∀x,W.cell? x=W1.cell? x)->(∀x,W.frozen? x=W1.frozen? x)->∀ty dc,(Builtin.copy_ #[23,23] ty #[.slice (some ⟨b,i*7,none⟩) (n+m-i) dc,.slice (some ⟨vb,0,none⟩) m vc]).run Tryz.prog W= .ok (goInt (m:Int)) (W.setCells b (i*7) vs):=fun W hWc hWf ty dc=>
  run_copy_rows W _ _ ty 28 b (i*7) (n+m-i) dc ⟨vb,0,none⟩ m vc vs 7 m under_rw hsz (by simp only[Nat.min_def];split<;>omega) hvl
   (fun j v hj=>by
    rw[Addr.add_lit,hWc,hW1,World.cell?_setCells_out b _ _ _ _ (fun h _=>absurd h hvb),Nat.zero_add]
    exact hvs j v hj)
   (fun j hj=>by rw[hWc];exact hsp1 _ (by omega)) (fun j hj=>by rw[hWf,hW1,World.frozen?_setCells];exact hfz _ (by omega)) h1v
 rw[←hW1] at hcp1
 go_enter Tryz.func96,Tryz.ntmps96
 go_wp2_with (simp only[hov])
 go_region_law_o (refine stp_copy rfl _ _ 23 23 rfl _ _ (by simp[Act.eval,Act.put]) (by simp[Act.eval,Act.put]) (hcp1 _ _ _) ?_)
 go_wp2_with (at_builtin;refine wpl_copy _ rfl _ _ 23 23 rfl _ _ rfl rfl (hcp2 _ (fun _=>rfl) (fun _=>rfl) _ _) ?_)
 go_ret
 first|exact⟨rfl,rfl⟩|exact⟨rfl,by rw[hW1]⟩
set_option maxHeartbeats 4000000 in
set_option maxRecDepth 1000000 in
theorem ins_grow(b n c i vb m vc:Nat)(cs vs:List Value)(w:World)(hi:i<n)(hm:0<m)(hnc:n<=c)(hroom:c<n+m)(hbig:(n+m)*72<=140737488355328)
  (hcl:cs.length=n*7) (hvl:vs.length=m*7)
  (hcs:∀j v,cs[j]? =some v->w.cell? ⟨b,j,none⟩=some v)
  (hvs:∀j v,vs[j]? =some v->w.cell? ⟨vb,j,none⟩=some v) (h1c:∀v ∈ cs,v.oneCell'=true) (h1v:∀v ∈ vs,v.oneCell'=true):
  Calls Tryz.prog 96 #[.slice (some ⟨b,0,none⟩) n c,.int .i64 i,.slice (some ⟨vb,0,none⟩) m vc] w fun e w'=>
   e= .returned (.slice (some ⟨w.heap.size,0,none⟩) (n+m) (grownCap w (n+m) c 28))/\
   w'=(((w.alloc (.cells ((cs.take (i*7)).toArray++Builtin.zeroCells (Value.agg zRw.toArray).cells (n+m-i)++Builtin.zeroCells (Value.agg zRw.toArray).cells (grownCap w (n+m) c 28- (n+m))) 28)).drew.setCells w.heap.size (i*7) vs).drew).setCells w.heap.size ((i+m)*7) (cs.drop (i*7)):=by
 have mixed:Tryz.prog.follows .mixedOrders=true:=by kernel_rfl
 obtain⟨i0,hi0,hz0,hzs,hzb⟩:=info_parts info_rw;have hz1:¬ ((m:Int)=0):=by omega
 have hz2:¬ ((i:Int)=(n:Int)):=by omega
 have hz3:(c:Int)<(n:Int)+(m:Int):=by omega
 have hsz:(Tryz.prog.info? 28).map (·.size)=some 7:=by rw[hi0];simp[hzs]
 have hbw:b<w.heap.size:=block_lt_of_cell (hcs 0 _ (List.getElem?_eq_getElem (by omega)))
 have hvw:vb<w.heap.size:=block_lt_of_cell (hvs 0 _ (List.getElem?_eq_getElem (by omega)))
 have hkk:(n:Int)+(m:Int)- (i:Int)=((n+m-i:Nat):Int):=by omega
 have hik:i+(n+m-i)=n+m:=by omega
 have hold:(Builtin.firstCells i0.size i (.slice (some ⟨b,0,none⟩) i c)).run Tryz.prog w.drew= .ok (cs.take (i*7)).toArray w.drew:=by
  rw[hzs];exact run_firstCells_some w.drew 7 i ⟨b,0,none⟩ i c (cs.take (i*7)) (by rw[List.length_take];omega) (fun j v hj=>by
   rw[Addr.add_lit,Nat.zero_add];rw[List.getElem?_take] at hj
   split at hj
   ·exact hcs j v hj
   ·cases hj)
 have hti:Tryz.prog.underlying 3=some (.int .i64):=by kernel_rfl
 have hrz:∀ty,(Builtin.append_ #[23,3] ty #[.slice (some ⟨b,0,none⟩) i c,.int .i64 ((n:Int)+(m:Int)- (i:Int))]).run Tryz.prog w=
   .ok (.slice (some ⟨w.heap.size,0,none⟩) (n+m) (grownCap w (n+m) c 28)) (w.drew.alloc (.cells ((cs.take (i*7)).toArray++Builtin.zeroCells (Value.agg zRw.toArray).cells (n+m-i)++Builtin.zeroCells (Value.agg zRw.toArray).cells (grownCap w (n+m) c 28- (n+m))) 28)):=fun ty=>by
  have h:=Lib.run_append_grow_zeros w 23 3 ty 28 i0 _ .i64 .i64 under_rw hti hi0 hz0 (some ⟨b,0,none⟩) i c (cs.take (i*7)) hold (n+m-i) (by omega) (by omega) (by omega) (by omega) (by rw[hzb];omega) (by rw[hzb,hik];exact growslice_fits hroom hbig)
  rw[hik] at h;rw[hkk];exact h
 obtain⟨G,hG⟩:∃G,G=grownCap w (n+m) c 28:=⟨_,rfl⟩;obtain⟨ROW,hROW⟩:∃ROW:Array Value,ROW=(cs.take (i*7)).toArray++Builtin.zeroCells (Value.agg zRw.toArray).cells (n+m-i)++Builtin.zeroCells (Value.agg zRw.toArray).cells (G- (n+m)):=⟨_,rfl⟩;rw[←hG] at hrz ⊢;rw[←hROW] at hrz ⊢;have hGn:n+m<=G:=by rw[hG];exact grownCap_ge w _ _ _
 have hRl:ROW.size=G*7:=by
  rw[hROW,Array.size_append,Array.size_append,zc_size,zc_size,List.size_toArray,List.length_take];omega
 obtain⟨W1,hW1⟩:∃W1,W1=w.drew.alloc (.cells ROW 28):=⟨_,rfl⟩;rw[←hW1] at hrz;have hN:∀j,j<(n+m)*7->(W1.cell? ⟨w.heap.size,j,none⟩).isSome=true:=fun j hj=>by
  rw[hW1,World.cell?_alloc_at (w:=w.drew) ROW _ w.heap.size j rfl,Array.getElem?_eq_getElem (by omega)];rfl
 have hNf:∀j,W1.frozen? ⟨w.heap.size,j,none⟩=false:=fun j=>by rw[hW1];exact World.frozen?_alloc_at (w:=w.drew) ROW _ w.heap.size j rfl
 have hOb:∀j v,w.cell? ⟨b,j,none⟩=some v->W1.cell? ⟨b,j,none⟩=some v:=fun j v h=>by rw[hW1,World.cell?_alloc_past (w:=w.drew) _ b j hbw];exact h
 have hOv:∀j v,w.cell? ⟨vb,j,none⟩=some v->W1.cell? ⟨vb,j,none⟩=some v:=fun j v h=>by rw[hW1,World.cell?_alloc_past (w:=w.drew) _ vb j hvw];exact h
 have hcpA:∀(W:World),(∀x,W.cell? x=W1.cell? x)->(∀x,W.frozen? x=W1.frozen? x)->∀ty dc,(Builtin.copy_ #[23,23] ty #[.slice (some ⟨w.heap.size,i*7,none⟩) (n+m-i) dc,.slice (some ⟨vb,0,none⟩) m vc]).run Tryz.prog W= .ok (goInt (m:Int)) (W.setCells w.heap.size (i*7) vs):=fun W hWc hWf ty dc=>
  run_copy_rows W _ _ ty 28 w.heap.size (i*7) (n+m-i) dc ⟨vb,0,none⟩ m vc vs 7 m under_rw hsz (by simp only[Nat.min_def];split<;>omega) hvl
   (fun j v hj=>by rw[Addr.add_lit,hWc,Nat.zero_add];exact hOv _ v (hvs j v hj))
   (fun j hj=>by rw[hWc];exact hN _ (by omega)) (fun j hj=>by rw[hWf];exact hNf _) h1v
 have hG63:G<=9223372036854775807:=by
  have:=grownCap_le_maxLen w (n+m) c 28 (by unfold maxLen;omega)
  rw[←hG] at this;unfold maxLen at this;omega
 have hGi:¬ (G=i):=by omega
 have hGim:¬ (G=i+m):=by omega
 have hci:¬ (c=i):=by omega
 have hbN:b≠w.heap.size:=by omega
 have hdl:(cs.drop (i*7)).length=(n-i)*7:=by rw[List.length_drop,hcl];omega
 have hcpB:∀(W:World),(∀x,W.cell? x=(W1.setCells w.heap.size (i*7) vs).cell? x)->(∀x,W.frozen? x=(W1.setCells w.heap.size (i*7) vs).frozen? x)->∀ty dc sc,(Builtin.copy_ #[23,23] ty #[.slice (some ⟨w.heap.size,(i+m)*7,none⟩) (n+m- (i+m)) dc,.slice (some ⟨b,i*7,none⟩) (n-i) sc]).run Tryz.prog W= .ok (goInt ((n-i:Nat):Int)) (W.setCells w.heap.size ((i+m)*7) (cs.drop (i*7))):=fun W hWc hWf ty dc sc=>
  run_copy_rows W _ _ ty 28 w.heap.size ((i+m)*7) (n+m- (i+m)) dc ⟨b,i*7,none⟩ (n-i) sc (cs.drop (i*7)) 7 (n-i) under_rw hsz (by simp only[Nat.min_def];split<;>omega) hdl
   (fun j v hj=>by
    rw[Addr.add_lit,hWc,World.cell?_setCells_out _ _ _ _ _ (fun h _=>absurd h hbN)]
    exact hOb _ v (hcs (i*7+j) v (by rwa [List.getElem?_drop] at hj)))
   (fun j hj=>by rw[hWc];exact some_setCells _ _ _ _ (fun t ht=>hN _ (by omega)) _ (hN _ (by omega)))
   (fun j hj=>by rw[hWf,World.frozen?_setCells];exact hNf _) (fun v hv=>h1c v (List.mem_of_mem_drop hv))
 subst hW1;have hE1:∀x,((w.alloc (.cells ROW 28)).drew).cell? x=(w.drew.alloc (.cells ROW 28)).cell? x:=fun x=>rfl
 have hE2:∀x,((w.alloc (.cells ROW 28)).drew).frozen? x=(w.drew.alloc (.cells ROW 28)).frozen? x:=fun x=>rfl
 have hF1:∀x,(((w.alloc (.cells ROW 28)).drew.setCells w.heap.size (i*7) vs).drew).cell? x=((w.drew.alloc (.cells ROW 28)).setCells w.heap.size (i*7) vs).cell? x:=fun x=>rfl
 have hF2:∀x,(((w.alloc (.cells ROW 28)).drew.setCells w.heap.size (i*7) vs).drew).frozen? x=((w.drew.alloc (.cells ROW 28)).setCells w.heap.size (i*7) vs).frozen? x:=fun x=>rfl
 have hw1:IntKind.i64.wrap ((i:Int)+(m:Int))=(i:Int)+(m:Int):=by rw[IntKind.wrap_i64];omega
 have hb1:(0:Int)<=(i:Int)+(m:Int):=by omega
 have hin:i<=n:=by omega
 have htn:((i:Int)+(m:Int)).toNat=i+m:=by omega
 have hb3:(i:Int)<=(n:Int):=by omega
 clear hkk hik hold hROW hG hRl
 go_enter Tryz.func96,Tryz.ntmps96
 go_wp2_with (first
  |(at_builtin;refine Lib.wpList_append_run _ rfl _ _ _ _ rfl _ _ rfl rfl _ _ (hrz _) ?_)
  |(at_builtin;refine wpl_copy _ rfl _ _ 23 23 rfl _ _ rfl rfl (hcpA _ hE1 hE2 _ _) ?_)
  |(at_builtin;refine wpl_copy _ rfl _ _ 23 23 rfl _ _ rfl rfl (hcpB _ (fun _=>rfl) (fun _=>rfl) _ _ _) ?_))
 go_region_law_o (refine stp_copy rfl _ _ 23 23 rfl (.slice (some ⟨w.heap.size,(i+m)*7,none⟩) (n+m- (i+m)) (G- (i+m))) (.slice (some ⟨b,i*7,none⟩) (n-i) (c-i)) (by simp[Act.eval,Act.put]) (by simp[Act.eval,Act.put]) (hcpB _ hF1 hF2 3 (G- (i+m)) (c-i)) ?_)
 go_wp2
 go_ret
 exact⟨rfl,rfl⟩
def insL(L:List Rw)(i:Nat)(d:Rw):List Rw:=L.take i++d::L.drop i
theorem v_insEnR(L:List Rw)(d:Rw)(h:
  InC (L.length:Int) L.length/\(false=true->(False/\True)/\True/\(1=1/\RowsEq 1 (rwRow [d]) (rwRow [d]))/\False/\True)/\(false=false->(((L.length:Int)==(L.length:Int))=true->(Le 1 1/\Le L.length L.length/\AppB
  L.length 1 72)/\((0=0/\L.length+1=L.length+1)/\True)/\True/\(1=1/\RowsEq 1 (rwRow [d]) (rwRow [d]))/\(L.length+1=(L++[d]).length/\RowsEq (L.length+1) (appRow (rwRow L) L.length (rwRow [d])) (rwRow (L++
  [d])))/\True)/\(((L.length:Int)==(L.length:Int))=false->Rng .i64 ((L.length:Int)+(1:Int))/\False))):
  EffFn Tryz.prog 96 [.osl 0 0 L.length,.int .i64 L.length,.osl 1 0 1] [rwsA L,rwsA [d]] (.osl 2 0 (L.length+1)) [none,rwsA [d],rwsA (L++[d])]:=
 vcG (code:=b_insRw) gN Tryz.func96 (by kernel_rfl) (by kernel_rfl) noAnn [[.arr 0,.arr 1,.arr 2]] h (by kernel_rfl)

theorem ins_len{L:List Rw}{i:Nat}{d:Rw}(hi:i<=L.length):(insL L i d).length=L.length+1:=by
 unfold insL;rw[List.length_append,List.length_cons,List.length_take,List.length_drop];omega
theorem ins_at{L:List Rw}{i:Nat}{d:Rw}(hi:i<=L.length)(q:Nat):(insL L i d).getD q default=if q<i then L.getD q default else if q=i then d else L.getD (q-1) default:=by
 have hl:(L.take i).length=i:=by rw[List.length_take];omega
 unfold insL;rw[List.getD_eq_getElem?_getD]
 by_cases h1:q<i
 ·rw[if_pos h1,List.getElem?_append_left (by omega),List.getElem?_take_of_lt h1,List.getD_eq_getElem?_getD]
 ·rw[if_neg h1,List.getElem?_append_right (by omega),hl]
  by_cases h2:q=i
  ·rw[if_pos h2,h2,Nat.sub_self];rfl
  ·obtain⟨p,hp⟩:∃p,q-i=p+1:=⟨q-i-1,by omega⟩
   rw[if_neg h2,hp,List.getElem?_cons_succ,List.getElem?_drop,List.getD_eq_getElem?_getD]
   congr 2
   omega
theorem rw_app(L:List Rw)(d:Rw):RowsEq (L.length+1) (appRow (rwRow L) L.length (rwRow [d])) (rwRow (L++[d])):=fun r hr=>by
 have e:=app_rows Rw.ts 7 (fun _=>rfl) L d r hr
 unfold appRow at e ⊢;by_cases h:r<L.length
 ·rw[blt_t h] at e ⊢;exact e
 ·have h1:r=L.length:=by omega
  subst h1;rw[blt_f h] at e ⊢;rw[Nat.sub_self] at e ⊢;exact e
def k_insRw:Con:=.reff ⟨List Rw×Nat×Rw,fun x=>[.osl 0 0 x.1.length,.int .i64 x.2.1,.osl 1 0 1],fun x=>[rwsA x.1,rwsA [x.2.2]],fun x=>.osl 2 0 (x.1.length+1),fun x=>[none,rwsA [x.2.2],rwsA (insL x.1 x.2.1 x.2.2)],fun x=>x.2.1<=x.1.length/\x.1.length<=1000⟩
theorem ins_cells{E:Env}{w:World}{L:List Rw}{i:Nat}{d:Rw}{cs vs cs2:Array Value}(hi:i<L.length)(e8:∀(r q:Nat) (t:T),r<L.length->(rwRow L r)[q]? =some t->∃u,cs[r*7+q]? =some u/\Rd E w t u)(f8:∀(q:Nat) (t:T),(d.ts)[q]? =some t->∃u,vs[q]? =some u/\Rd E w t u)
  (hA:∀p,p<i*7->cs2[p]? =cs[p]?) (hB:∀q,q<7->cs2[i*7+q]? =vs[q]?) (hC:∀p,p<(L.length-i)*7->cs2[(i+1)*7+p]? =cs[i*7+p]?):∀(r q:Nat) (t:T),r<L.length+1->(rwRow (insL L i d) r)[q]? =some t->∃u,cs2[r*7+q]? =some u/\Rd E w t u:=fun r q t hr ht=>by
 have hq:q<7:=(List.getElem?_eq_some_iff.1 ht).1
 have er:rwRow (insL L i d) r=if r<i then rwRow L r else if r=i then d.ts else rwRow L (r-1):=by
  unfold rwRow;rw[ins_at (Nat.le_of_lt hi)];split
  ·rfl
  ·split<;>rfl
 rw[er] at ht;by_cases h1:r<i
 ·rw[if_pos h1] at ht;rw[hA _ (by omega)]
  exact e8 r q t (by omega) ht
 ·rw[if_neg h1] at ht;by_cases h2:r=i
  ·rw[if_pos h2] at ht;subst h2;rw[hB _ hq];exact f8 q t ht
  ·rw[if_neg h2] at ht;have:=hC ((r-1-i)*7+q) (by omega)
   rw[show(i+1)*7+((r-1-i)*7+q)=r*7+q by omega,show i*7+((r-1-i)*7+q)=(r-1)*7+q by omega] at this
   rw[this];exact e8 (r-1) q t (by omega) ht
theorem rw_one{L:List Rw}{i:Nat}{t:T}(h:t ∈ rwRow L i):oneT t=true/\closedT t=true:=by
 exact is_one (ts_is _ t h)
theorem getOb3{a b:Option Ob}{m:Nat}{x:Ob}(h:getOb [none,a,b] m=some x):(m=1/\a=some x)∨(m=2/\b=some x):=by
 match m,h with
 |0,h=>simp[getOb] at h
 |1,h=>exact .inl ⟨rfl,by simpa[getOb] using h⟩
 |2,h=>exact .inr ⟨rfl,by simpa[getOb] using h⟩
 |m+3,h=>simp[getOb] at h
theorem ins_inv{E:Env}{w w':World}{L M:List Rw}{d:Rw}{b κ:Nat}{cs:Array Value}{ty:TypeId}(hH:HeapOk E w [rwsA L,rwsA [d]])(hN:∀b,E.N b->b<w.heap.size)(ho:w'.os=w.os)(ht:w'.tape=w.tape)(hp:w'.output=w.output)(hsz:w.heap.size<=w'.heap.size)(hdr:w.drawn<=w'.drawn)
  (hb:b=E.β 0/\E.κ 0≠0∨w.heap.size<=b) (hoth:∀k,k<w.heap.size->k≠b->w'.heap[k]? =w.heap[k]?) (hM:M.length<=κ) (hcs:w'.heap[b]? =some (.cells cs ty (0,0))) (hsi:κ*7<=cs.size)
  (hr:∀(r q:Nat) (t:T),r<M.length->(rwRow M r)[q]? =some t->∃u,cs[r*7+q]? =some u/\Rd E w t u):
  Inv ⟨w,XB E [rwsA L,rwsA [d]],E.N,0,E,0⟩ (E.push 2 b κ 7) [none,rwsA [d],rwsA M] w'/\Stp E w (E.push 2 b κ 7) w':=by
 have hob:getOb [rwsA L,rwsA [d]] 0=some (.arr true 28 7 L.length (rwRow L)):=rfl;have hob1:getOb [rwsA L,rwsA [d]] 1=some (.arr true 28 7 1 (rwRow [d])):=rfl;obtain⟨hL,hF,hNb⟩:=hH.live 0 _ hob;have hn2:¬E.L 2:=fun h=>by have:=hH.lt 2 h;exact absurd this (by simp)
 have hnN:∀x,E.N x->x≠b:=fun x hx e=>by
  rcases hb with⟨h1,h2⟩|h1
  ·exact hNb _ (.inl ⟨h2,rfl⟩) (by rw[←h1,←e];exact hx)
  ·have:=hN x hx;omega
 have hst:Stp E w (E.push 2 b κ 7) w':=⟨Env.push_le hn2,fun x hx=>hoth x (hN x hx) (hnN x hx)⟩
 refine⟨(inv0 hH hN).to (H':=[none,rwsA [d],rwsA M]) ho ht hp hsz hst 2 (fun m=>m=0) (fun _ h=>h) (fun i o hi hne=> ?_) (fun o hi=> ?_) (fun x hx hn=> ?_) (fun i hi=> ?_) (fun i v hi=>.inl (hH.l2 i v hi)) (fun o i v hi hv=> ?_),hst⟩
 ·rcases getOb3 hi with⟨rfl,e⟩|⟨rfl,e⟩
  ·exact⟨e,fun h=>by cases h⟩
  ·exact absurd rfl hne
 ·rcases getOb3 hi with⟨h,_⟩|⟨_,e⟩
  ·cases h
  ·have e:Ob.arr true 28 7 M.length (rwRow M)=o:=Option.some.inj e;subst e;refine⟨.inr rfl,(show ArrOk (E.push 2 b κ 7) w' 2 ⟨true,28,7,M.length,rwRow M⟩ from⟨rfl,hM,fun _ _=>rfl,fun i t _ ht=>(rw_one ht).1,fun _ i t _ ht=>(rw_one ht).2,cs,ty,fun _=>hcs,siz0 hsi,fun r q t h1 h2=> ?_⟩),fun x hx=> ?_⟩
   ·obtain⟨u,h3,h4⟩:=hr r q t h1 h2;exact⟨u,h3,hst.rd h4⟩
   ·have hx:x=b:=(hx.arr rfl).2;subst hx;rcases hb with⟨h1,h2⟩|h1
    ·exact .inr ⟨0,_,rfl,hob,.inl ⟨h2,h1⟩⟩
    ·exact .inl h1
 ·refine hoth x hx fun e=> ?_
  subst e;rcases hb with⟨h1,h2⟩|h1
  ·exact hn 0 _ rfl hob (.inl ⟨h2,h1⟩)
  ·omega
 ·rcases hi with hi|rfl
  ·have:=hH.lt i hi;simp at this ⊢;omega
  ·simp
 ·rcases getOb3 hi with⟨rfl,e⟩|⟨rfl,e⟩
  ·obtain⟨_,_,_,_,_,h,_⟩:=hH.cur 1 _ v hob1 hv;cases h
  ·exact absurd (hH.l2 2 v hv) hn2
theorem insRw_ok:ConOk Tryz.prog 96 k_insRw:=by
 rintro⟨L,i,d⟩ ⟨hi,hn⟩;dsimp only at hi hn ⊢;by_cases hin:i=L.length
 ·subst hin;have e:insL L L.length d=L++[d]:=by unfold insL;rw[List.take_length,List.drop_length]
  rw[e];refine v_insEnR L d ⟨⟨by omega,by omega⟩,fun h=>(by cases h),fun _=>⟨fun _=>⟨⟨Nat.le_refl _,Nat.le_refl _,by unfold AppB;omega⟩,⟨⟨rfl,rfl⟩,trivial⟩,trivial,⟨rfl,rowsR _ _⟩,⟨by rw[List.length_append];rfl,rw_app L d⟩,trivial⟩,fun h=> ?_⟩⟩
  rw[beq_self_eq_true] at h;cases h
 ·have hin:i<L.length:=by omega
  intro E w vs hH hN hr;have hob:getOb [rwsA L,rwsA [d]] 0=some (.arr true 28 7 L.length (rwRow L)):=rfl;have hob1:getOb [rwsA L,rwsA [d]] 1=some (.arr true 28 7 1 (rwRow [d])):=rfl;obtain⟨hL,hF,hNb⟩:=hH.live 0 _ hob;obtain⟨hL1,hF1,hNb1⟩:=hH.live 1 _ hob1;obtain⟨e1,e2,e3,e4,_,cs,tyb,e6,e7,e8⟩:=(show ArrOk E w 0 ⟨true,28,7,L.length,rwRow L⟩ from hF)
  obtain⟨g1,g2,g3,g4,_,vs1,tyv,g6,g7,g8⟩:=(show ArrOk E w 1 ⟨true,28,7,1,rwRow [d]⟩ from hF1)
  dsimp only at e1 e2 e3 e4 e7 e8 g1 g2 g3 g4 g7 g8;have hκ:E.κ 0≠0:=by omega
  have hκ1:E.κ 1≠0:=by omega
  have e6:=e6 hκ;have g6:=g6 hκ1;have e7l:=e7.le;have g7l:=g7.le;have hne:E.β 1≠E.β 0:=fun e=>by
   have:=hH.inj 0 1 _ _ (E.β 0) hob hob1 (.inl ⟨hκ,rfl⟩) (.inl ⟨hκ1,e.symm⟩);cases this
  obtain⟨hsz,hv⟩:=hr;obtain⟨v0,v1,v2,rfl⟩:∃v0 v1 v2,vs= #[v0,v1,v2]:=by
   have h2:vs.size=3:=hsz.symm;exact⟨vs[0],vs[1],vs[2],by apply Array.ext<;>simp[h2];intro i hi _;match i,hi with|0,_=>rfl|1,_=>rfl|2,_=>rfl⟩
  obtain rfl:=rd_int_inv (hv 1 (.int .i64 i) v1 rfl rfl);obtain⟨a,o,rfl,_,_,ho,ha⟩:=rd_osl_in2 (hv 0 (.osl 0 0 L.length) v0 rfl rfl);obtain⟨a2,o2,rfl,_,_,ho2,ha2⟩:=rd_osl_in2 (hv 2 (.osl 1 0 1) v2 rfl rfl);have ho:o=0:=by have:=ho (.inr rfl);omega
  have ho2:o2=0:=by have:=ho2 (.inr rfl);omega
  subst ho ho2;rw[ha hκ,ha2 hκ1,Nat.sub_zero,Nat.sub_zero];have hc1:∀j,j<L.length*7->∃u,cs[j]? =some u/\u.oneCell'=true:=fun j hj=>by
   obtain⟨t,ht⟩:∃t,(rwRow L (j/7))[j % 7]? =some t:=⟨_,List.getElem?_eq_getElem (by show j % 7<7;omega)⟩
   obtain⟨u,hu,hru⟩:=e8 (j/7) (j % 7) t (by omega) ht
   exact⟨u,by rw[show j=j/7*7+j % 7 by omega];exact hu,oneT_ok hru (rw_one (List.mem_of_getElem? ht)).1⟩
  have f8:∀q t,(d.ts)[q]? =some t->∃u,vs1[q]? =some u/\Rd E w t u:=fun q t ht=>by
   obtain⟨u,h1,h2⟩:=g8 0 q t (by omega) ht
   exact⟨u,by rw[Nat.zero_mul,Nat.zero_add] at h1;exact h1,h2⟩
  have hv1:∀q,q<7->∃u,vs1[q]? =some u/\u.oneCell'=true:=fun q hq=>by
   obtain⟨t,ht⟩:∃t,(d.ts)[q]? =some t:=⟨_,List.getElem?_eq_getElem (by show q<7;omega)⟩
   obtain⟨u,h1,h2⟩:=f8 q t ht;exact⟨u,h1,oneT_ok h2 (rw_one (L:=[d]) (i:=0) (List.mem_of_getElem? ht)).1⟩
  have hlt:∀q,(cs.toList.take (L.length*7))[q]? =if q<L.length*7 then cs[q]? else none:=fun q=>by rw[List.getElem?_take,Array.getElem?_toList]
  have hlv:∀q,(vs1.toList.take 7)[q]? =if q<7 then vs1[q]? else none:=fun q=>by rw[List.getElem?_take,Array.getElem?_toList]
  have hll:(cs.toList.take (L.length*7)).length=L.length*7:=by rw[List.length_take,Array.length_toList (xs:=cs)];omega
  have hvl:(vs1.toList.take 7).length=1*7:=by rw[List.length_take,Array.length_toList (xs:=vs1)];omega
  have h1c:∀u ∈ cs.toList.take (L.length*7),u.oneCell'=true:=fun u hu=>by
   obtain⟨q,hq⟩:=List.getElem?_of_mem hu
   have hql:q<L.length*7:=by rw[←hll];exact(List.getElem?_eq_some_iff.1 hq).1
   rw[hlt,if_pos hql] at hq;obtain⟨u',h1,h2⟩:=hc1 q hql;rw[h1] at hq;exact Option.some.inj hq▸h2
  have h1v:∀u ∈ vs1.toList.take 7,u.oneCell'=true:=fun u hu=>by
   obtain⟨q,hq⟩:=List.getElem?_of_mem hu
   have hql:q<1*7:=by rw[←hvl];exact(List.getElem?_eq_some_iff.1 hq).1
   rw[hlv,if_pos (by omega)] at hq
   obtain⟨u',h1,h2⟩:=hv1 q (by omega)
   rw[h1] at hq;exact Option.some.inj hq▸h2
  have hcb:∀j,w.cell? ⟨E.β 0,j,none⟩=cs[j]? :=fun j=>cell_of_heap e6
  have hcv:∀j,w.cell? ⟨E.β 1,j,none⟩=vs1[j]? :=fun j=>cell_of_heap g6
  have hcs:∀j v,(cs.toList.take (L.length*7))[j]? =some v->w.cell? ⟨E.β 0,j,none⟩=some v:=fun j v h=>by
   rw[hlt] at h;split at h
   ·rw[hcb];exact h
   ·cases h
  have hvs:∀j v,(vs1.toList.take 7)[j]? =some v->w.cell? ⟨E.β 1,j,none⟩=some v:=fun j v h=>by
   rw[hlv] at h;split at h
   ·rw[hcv];exact h
   ·cases h
  have hM:(insL L i d).length=L.length+1:=ins_len hi;have hdr:∀p,((cs.toList.take (L.length*7)).drop (i*7))[p]? =if i*7+p<L.length*7 then cs[i*7+p]? else none:=fun p=>by rw[List.getElem?_drop,hlt]
  have hdl:((cs.toList.take (L.length*7)).drop (i*7)).length=(L.length-i)*7:=by rw[List.length_drop,hll];omega
  have hd1:∀u ∈ (cs.toList.take (L.length*7)).drop (i*7),u.oneCell'=true:=fun u hu=>h1c u (List.mem_of_mem_drop hu)
  have hvl2:(vs1.toList.take 7).length=7:=hvl;by_cases hroom:L.length+1<=E.κ 0
  ·refine(ins_shift (E.β 0) L.length (E.κ 0) i (E.β 1) 1 (E.κ 1) (cs.toList.take (L.length*7)) (vs1.toList.take 7) w hin (by omega) hroom (by omega) hne hll hvl hcs (fun j hj=>by rw[hcb,Array.getElem?_eq_getElem (by omega)];rfl) (fun j _=>by simp[World.frozen?,e6]) hvs h1c h1v tyv tyb vs1.size cs.size (by simp[World.shape?,g6]) (by simp[World.shape?,e6]) (by omega) (by simp[World.frozen?,g6]) (by simp[World.frozen?,g6])).mono ?_
   rintro e w' ⟨rfl,hw'⟩;generalize cs.toList.take (L.length*7)=CS at*;generalize vs1.toList.take 7=VS at*;obtain⟨a1,a2,a3,a0,a4,a5,cs1,a6,a7,a8,a9⟩:=setCells_fac2 w.drew (E.β 0) ((i+1)*7) tyb cs (CS.drop (i*7)) e6 (by rw[hdl];omega) hd1
   generalize w.drew.setCells (E.β 0) ((i+1)*7) (CS.drop (i*7))=w1 at hw' a1 a2 a3 a0 a4 a5 a6;obtain⟨b1,b2,b3,b0,b4,b5,cs2,b6,b7,b8,b9⟩:=setCells_fac2 w1 (E.β 0) (i*7) tyb cs1 VS a6 (by rw[a7,hvl2];omega) h1v
   rw[←hw'] at b1 b2 b3 b0 b4 b5 b6;have hdw:w.drawn<=w'.drawn:=by first|exact Nat.le_trans (Nat.le_trans (Nat.le_succ _) a0) b0|exact Nat.le_trans (Nat.le_trans (Nat.le_trans (Nat.le_succ _) a0) (Nat.le_succ _)) b0
   obtain⟨hI,hst⟩:=ins_inv (hdr:=hdw) (M:=insL L i d) (b:=E.β 0) (κ:=E.κ 0) (cs:=cs2) (ty:=tyb) (w':=w') hH hN (b1.trans a1) (b2.trans a2) (b3.trans a3) (Nat.le_of_eq (b4.trans a4).symm) (.inl ⟨rfl,hκ⟩) (fun k _ hk=>(b5 k hk).trans (a5 k hk)) (by omega) b6 (by omega) (by
    rw[hM];exact ins_cells hin e8 f8 (fun p hp=>by rw[b8 p (.inl hp),a8 p (.inl (by omega))]) (fun q hq=>by rw[b9 q (by omega),hlv,if_pos hq]) (fun p hp=>by rw[b8 _ (.inr (by omega)),a9 p (by omega),hdr,if_pos (by omega)]))
   refine⟨_,_,rfl,hI,hst,?_⟩
   exact Rd.osl (E:=E.push 2 (E.β 0) (E.κ 0) 7) (w:=w') 2 0 (L.length+1) 0 (some ⟨E.β 0,0,none⟩) (.inr rfl) (show 0+_<=E.κ 0 by omega) (fun _=>by simp) (fun _=>rfl)
  ·refine(ins_grow (E.β 0) L.length (E.κ 0) i (E.β 1) 1 (E.κ 1) (cs.toList.take (L.length*7)) (vs1.toList.take 7) w hin (by omega) e2 (by omega) (by omega) hll hvl hcs hvs h1c h1v).mono ?_
   rintro e w' ⟨rfl,hw'⟩;have hG:=grownCap_ge w (L.length+1) (E.κ 0) 28;have hgt:∀p,p<i*7->((cs.toList.take (L.length*7)).take (i*7))[p]? =cs[p]? :=fun p hp=>by rw[List.getElem?_take,if_pos hp,hlt,if_pos (by omega)]
   have hgl:((cs.toList.take (L.length*7)).take (i*7)).length=i*7:=by rw[List.length_take,hll];omega
   generalize cs.toList.take (L.length*7)=CS at*;generalize vs1.toList.take 7=VS at*;generalize hGc:grownCap w (L.length+1) (E.κ 0) 28=G at*;have hR:((CS.take (i*7)).toArray++Builtin.zeroCells (Value.agg zRw.toArray).cells (L.length+1-i)++Builtin.zeroCells (Value.agg zRw.toArray).cells (G- (L.length+1))).size=G*7:=by
    rw[Array.size_append,Array.size_append,zc_size,zc_size,List.size_toArray,hgl];omega
   have hRg:∀p,p<i*7->((CS.take (i*7)).toArray++Builtin.zeroCells (Value.agg zRw.toArray).cells (L.length+1-i)++Builtin.zeroCells (Value.agg zRw.toArray).cells (G- (L.length+1)))[p]? =cs[p]? :=fun p hp=>by
    rw[Array.getElem?_append_left (by rw[Array.size_append,List.size_toArray,hgl];omega),Array.getElem?_append_left (by rw[List.size_toArray,hgl];exact hp),List.getElem?_toArray]
    exact hgt p hp
   generalize (CS.take (i*7)).toArray++Builtin.zeroCells (Value.agg zRw.toArray).cells (L.length+1-i)++Builtin.zeroCells (Value.agg zRw.toArray).cells (G- (L.length+1))=ROW at*;have hh:((w.alloc (.cells ROW 28)).drew).heap=w.heap.push (.cells ROW 28 (0,0)):=rfl;have z6:((w.alloc (.cells ROW 28)).drew).heap[w.heap.size]? =some (.cells ROW 28 (0,0)):=by rw[hh,Array.getElem?_push,if_pos rfl]
   have z5:∀k,k≠w.heap.size->((w.alloc (.cells ROW 28)).drew).heap[k]? =w.heap[k]? :=fun k hk=>by rw[hh,Array.getElem?_push,if_neg hk]
   have z4:((w.alloc (.cells ROW 28)).drew).heap.size=w.heap.size+1:=by rw[hh,Array.size_push]
   obtain⟨a1,a2,a3,a0,a4,a5,cs1,a6,a7,a8,a9⟩:=setCells_fac2 ((w.alloc (.cells ROW 28)).drew) w.heap.size (i*7) 28 ROW VS z6 (by rw[hR,hvl2];omega) h1v
   generalize ((w.alloc (.cells ROW 28)).drew).setCells w.heap.size (i*7) VS=w1 at hw' a1 a2 a3 a0 a4 a5 a6;obtain⟨b1,b2,b3,b0,b4,b5,cs2,b6,b7,b8,b9⟩:=setCells_fac2 w1.drew w.heap.size ((i+1)*7) 28 cs1 (CS.drop (i*7)) a6 (by rw[a7,hR,hdl];omega) hd1
   rw[←hw'] at b1 b2 b3 b0 b4 b5 b6;have hdw:w.drawn<=w'.drawn:=by first|exact Nat.le_trans (Nat.le_trans (Nat.le_succ _) a0) b0|exact Nat.le_trans (Nat.le_trans (Nat.le_trans (Nat.le_succ _) a0) (Nat.le_succ _)) b0
   obtain⟨hI,hst⟩:=ins_inv (hdr:=hdw) (M:=insL L i d) (b:=w.heap.size) (κ:=G) (cs:=cs2) (ty:=28) (w':=w') hH hN (b1.trans a1) (b2.trans a2) (b3.trans a3) (by have:=b4.trans a4;omega) (.inr (Nat.le_refl _)) (fun k hk hne=>(b5 k hne).trans ((a5 k hne).trans (z5 k hne))) (by omega) b6 (by rw[b7,a7,hR];exact Nat.le_refl _) (by
    rw[hM];exact ins_cells hin e8 f8 (fun p hp=>by rw[b8 p (.inl (by omega)),a8 p (.inl hp),hRg p hp]) (fun q hq=>by rw[b8 _ (.inl (by omega)),a9 q (by omega),hlv,if_pos hq]) (fun p hp=>by rw[b9 p (by omega),hdr,if_pos (by omega)]))
   refine⟨_,_,rfl,hI,hst,?_⟩
   exact Rd.osl (E:=E.push 2 w.heap.size G 7) (w:=w') 2 0 (L.length+1) 0 (some ⟨w.heap.size,0,none⟩) (.inr rfl) (show 0+_<=G by omega) (fun _=>by simp) (fun _=>rfl)
end Go.Proofs.YtfmngblmdghccaaGreat

namespace Go.Proofs.YtfmngblmdghccaaGreat
set_option maxRecDepth 100000
open Go.SS Go.RowKit

noncomputable def b_at1:Code:=Tryz.f76.body.getD .skip
theorem call_at1:Callable Tryz.prog 76:=⟨_,Tryz.func76,by kernel_rfl,by kernel_rfl⟩
def k_at1:Con:=.rel ⟨Rw×Int,fun x=>[.agg x.1.ts,.int .i64 x.2],fun x=>.int .i64 (cmpN x.1.id x.2),fun _=>True⟩
theorem v_at1(a:Rw)(n:Int)(h:
  ∃(x:(Int×Int)),((a.id=x.fst/\n=x.snd/\True)/\True)/\cmpN x.fst x.snd=cmpN a.id n):
  PureFn Tryz.prog 76 [.agg a.ts,.int .i64 n] (.int .i64 (cmpN a.id n)):=
 vcR (code:=b_at1) (gC cmpN1_ok call_cmpN1 gN) Tryz.func76 (by kernel_rfl) (by kernel_rfl) noAnn h (by kernel_rfl)
theorem at1_ok:ConOk Tryz.prog 76 k_at1:=fun(x:Rw×Int) _=>v_at1 x.1 x.2 ⟨(x.1.id,x.2),⟨⟨rfl,rfl,trivial⟩,trivial⟩,rfl⟩
theorem cmpN_lt{a b:Int}:cmpN a b<0↔a<b:=by
 unfold cmpN;split
 ·simp[*]
 ·split<;>simp[*]
theorem cmpN_eq(a b:Int):(cmpN a b==(0:Int))=(a==b):=by
 unfold cmpN;rw[Bool.eq_iff_iff,beq_iff_eq,beq_iff_eq];split
 ·omega
 ·split<;>omega
def lowB(L:List Rw)(no:Int)(i:Nat):Bool:=decide (no<=(L.getD i default).id)
def lowN(L:List Rw)(no:Int):Nat:=if fstI L.length (lowB L no)<0 then L.length else(fstI L.length (lowB L no)).toNat
def isRw(L:List Rw)(no:Int):Bool:=decide (lowN L no<L.length)&&((L.getD (lowN L no) default).id==no)
def k_bsRw:Con:=.rel ⟨List Rw×Int,fun x=>[rwS x.1,.int .i64 x.2,fnT 76],fun x=>.tup [.int .i64 (lowN x.1 x.2),.bool (isRw x.1 x.2)],fun x=>SrtI x.1/\x.1.length<=1000⟩
def LoHi(L:List Rw)(no:Int):Type:={x:Nat×Nat//x.1<=x.2/\x.2<=L.length/\(∀q,q<x.1->(L.getD q default).id<no)/\∀q,x.2<=q->q<L.length->no<=(L.getD q default).id}
def A_bsRw(L:List Rw)(n:Int):Nat->Ann
 |0=>.one (LoHi L n) (fun x=>⟨[(0,rwS L),(1,.int .i64 n),(2,fnT 76),(8,.int .i64 L.length),(9,.int .i64 x.1.1),(10,.int .i64 x.1.2)],[]⟩) (fun x=>x.1.2-x.1.1) [] [] (fun _=>noAnn)
 |_=>.none
noncomputable def b_bsRw:Code:=Tryz.f75.body.getD .skip
theorem call_bsRw:Callable Tryz.prog 75:=⟨_,Tryz.func75,by kernel_rfl,by kernel_rfl⟩
theorem v_bsRw(L:List Rw)(n:Int)(h:
  (∃(x:LoHi L n),((EqL rwRow L L)/\n=n/\Value.func (Fn.func 76) #[] #[]=Value.func (Fn.func 76) #[] #[]/\(L.length:Int)=(L.length:Int)/\(0:Int)=(x.val.fst:Int)/\(L.length:Int)=(x.val.snd:Int)/\True)/\True)/\∀
  (x:LoHi L n),(decide ((x.val.fst:Int)<(x.val.snd:Int))=true->Rng .i64 ((x.val.fst:Int)+(x.val.snd:Int))/\Nn (1:Int)/\InB (IntKind.i64.wrap ((IntKind.u64.wrap ((x.val.fst:Int)+(x.val.snd:Int))).fdiv (2:Int)))
  L.length/\∃(x_1:(Rw×Int)),((((L.getD (IntKind.i64.wrap ((IntKind.u64.wrap ((x.val.fst:Int)+(x.val.snd:Int))).fdiv (2:Int))).toNat default).id=x_1.fst.id/\(L.getD (IntKind.i64.wrap ((IntKind.u64.wrap ((x.val.fst:Int)
  +(x.val.snd:Int))).fdiv (2:Int))).toNat default).n.k=x_1.fst.n.k/\(L.getD (IntKind.i64.wrap ((IntKind.u64.wrap ((x.val.fst:Int)+(x.val.snd:Int))).fdiv (2:Int))).toNat default).n.n=x_1.fst.n.n/\(L.getD
  (IntKind.i64.wrap ((IntKind.u64.wrap ((x.val.fst:Int)+(x.val.snd:Int))).fdiv (2:Int))).toNat default).n.t=x_1.fst.n.t/\(L.getD (IntKind.i64.wrap ((IntKind.u64.wrap ((x.val.fst:Int)+(x.val.snd:Int))).fdiv (2:Int))).toNat
  default).name.k=x_1.fst.name.k/\(L.getD (IntKind.i64.wrap ((IntKind.u64.wrap ((x.val.fst:Int)+(x.val.snd:Int))).fdiv (2:Int))).toNat default).name.n=x_1.fst.name.n/\(L.getD (IntKind.i64.wrap ((IntKind.u64.wrap
  ((x.val.fst:Int)+(x.val.snd:Int))).fdiv (2:Int))).toNat default).name.t=x_1.fst.name.t/\True)/\n=x_1.snd/\True)/\True)/\(decide (cmpN x_1.fst.id x_1.snd<(0:Int))=true->Rng .i64 (IntKind.i64.wrap
  ((IntKind.u64.wrap ((x.val.fst:Int)+(x.val.snd:Int))).fdiv (2:Int))+(1:Int))/\∃(y:LoHi L n),(((EqL rwRow L L)/\n=n/\Value.func (Fn.func 76) #[] #[]=Value.func (Fn.func 76) #[] #[]/\(L.length:Int)=
  (L.length:Int)/\IntKind.i64.wrap ((IntKind.u64.wrap ((x.val.fst:Int)+(x.val.snd:Int))).fdiv (2:Int))+(1:Int)=(y.val.fst:Int)/\(x.val.snd:Int)=(y.val.snd:Int)/\True)/\True)/\Lt (y.val.snd-y.val.fst) (x.val.snd-
  x.val.fst))/\(decide (cmpN x_1.fst.id x_1.snd<(0:Int))=false->∃(y:LoHi L n),(((EqL rwRow L L)/\n=n/\Value.func (Fn.func 76) #[] #[]=Value.func (Fn.func 76) #[] #[]/\(L.length:Int)=(L.length:Int)/\
  (x.val.fst:Int)=(y.val.fst:Int)/\IntKind.i64.wrap ((IntKind.u64.wrap ((x.val.fst:Int)+(x.val.snd:Int))).fdiv (2:Int))=(y.val.snd:Int)/\True)/\True)/\Lt (y.val.snd-y.val.fst) (x.val.snd-x.val.fst)))/\(decide
  ((x.val.fst:Int)<(x.val.snd:Int))=false->(decide ((x.val.fst:Int)<(L.length:Int))=true->InB (x.val.fst:Int) L.length)/\∃(x_1:(Rw×Int)),(decide ((x.val.fst:Int)<(L.length:Int))=true->(((L.getD
  (x.val.fst:Int).toNat default).id=x_1.fst.id/\(L.getD (x.val.fst:Int).toNat default).n.k=x_1.fst.n.k/\(L.getD (x.val.fst:Int).toNat default).n.n=x_1.fst.n.n/\(L.getD (x.val.fst:Int).toNat default).n.t=x_1.fst.n.t/\
  (L.getD (x.val.fst:Int).toNat default).name.k=x_1.fst.name.k/\(L.getD (x.val.fst:Int).toNat default).name.n=x_1.fst.name.n/\(L.getD (x.val.fst:Int).toNat default).name.t=x_1.fst.name.t/\True)/\n=x_1.snd/\True)/\True)
  /\(x.val.fst:Int)=(↑(lowN L n):Int)/\(decide ((x.val.fst:Int)<(L.length:Int))&&cmpN x_1.fst.id x_1.snd==(0:Int))=isRw L n/\True)):
  PureFn Tryz.prog 75 [rwS L,.int .i64 n,fnT 76] (.tup [.int .i64 (lowN L n),.bool (isRw L n)]):=
 vcR (code:=b_bsRw) (gC at1_ok call_at1 gN) Tryz.func75 (by kernel_rfl) (by kernel_rfl) (A_bsRw L n) h (by kernel_rfl)
theorem low_eq{L:List Rw}{no:Int}{i:Nat}(hi:i<=L.length)(hl:∀q,q<i->(L.getD q default).id<no)(hh:∀q,i<=q->q<L.length->no<=(L.getD q default).id):lowN L no=i:=by
 have hf:∀q,q<i->lowB L no q=false:=fun q hq=>decide_eq_false (by have:=hl q hq;omega)
 unfold lowN;by_cases h:i<L.length
 ·rw[fstI_at h (decide_eq_true (hh i (Nat.le_refl i) h)) hf,if_neg (by omega),Int.toNat_natCast]
 ·have:i=L.length:=by omega
  rw[fstI_no fun q hq=>hf q (by omega),if_pos (by omega),this]
theorem mid_eq{a b:Nat}(h:a+b<=100000):IntKind.i64.wrap ((IntKind.u64.wrap ((a:Int)+(b:Int))).fdiv (2:Int))=(((a+b)/2:Nat):Int):=by
 have e:IntKind.u64.wrap ((a:Int)+(b:Int))=((a+b:Nat):Int):=by
  simp[IntKind.wrap,IntKind.bits,IntKind.signed];omega
 have e2:(((a+b:Nat):Int)).fdiv 2=(((a+b)/2:Nat):Int):=by
  rw[Int.fdiv_eq_ediv_of_nonneg _ (by omega)]
  omega
 rw[e,e2,IntKind.wrap_i64];omega
theorem bsRw_ok:ConOk Tryz.prog 75 k_bsRw:=by
 rintro⟨L,n⟩ ⟨hs,hn⟩;dsimp only at hs hn;refine v_bsRw L n ⟨⟨⟨(0,L.length),Nat.zero_le _,Nat.le_refl _,fun q hq=>absurd hq (Nat.not_lt_zero q),fun q h1 h2=>by dsimp only at h1;omega⟩,⟨⟨rfl,rowsR _ _⟩,rfl,rfl,rfl,rfl,rfl,trivial⟩,trivial⟩,fun x=>⟨fun hc=> ?_,fun hc=> ?_⟩⟩
 ·obtain⟨⟨a,b⟩,h1,h2,h3,h4⟩:=x;dsimp only at h1 h2 h3 h4 hc ⊢;have hc:a<b:=by have:=of_decide_eq_true hc;omega
  have hb:(a+b)/2<b:=by omega
  have ha:a<=(a+b)/2:=by omega
  rw[mid_eq (by omega),Int.toNat_natCast]
  generalize (a+b)/2=m at hb ha;refine⟨i64_rng (by omega),by unfold Nn;omega,inB_nat (by omega),(L.getD m default,n),⟨⟨⟨rfl,rfl,rfl,rfl,rfl,rfl,rfl,trivial⟩,rfl,trivial⟩,trivial⟩,fun h=> ?_,fun h=> ?_⟩
  ·have h:(L.getD m default).id<n:=cmpN_lt.1 (of_decide_eq_true h);refine⟨i64_rng (by omega),⟨(m+1,b),by dsimp only;omega,h2,fun q hq=> ?_,h4⟩,⟨⟨⟨rfl,rowsR _ _⟩,rfl,rfl,rfl,rfl,rfl,trivial⟩,trivial⟩,by unfold Lt;dsimp only;omega⟩
   have hq:q<m+1:=hq;by_cases hqm:q=m
   ·rw[hqm];exact h
   ·have:=hs q m (by omega) (by omega)
    omega
  ·have h:¬ (L.getD m default).id<n:=fun hh=>of_decide_eq_false h (cmpN_lt.2 hh)
   refine⟨⟨(a,m),ha,by dsimp only;omega,h3,fun q hq hql=> ?_⟩,⟨⟨⟨rfl,rowsR _ _⟩,rfl,rfl,rfl,rfl,rfl,trivial⟩,trivial⟩,by unfold Lt;dsimp only;omega⟩
   have hq:m<=q:=hq;by_cases hqm:q=m
   ·rw[hqm];omega
   ·have:=hs m q (by omega) hql
    omega
 ·obtain⟨⟨a,b⟩,h1,h2,h3,h4⟩:=x;dsimp only at h1 h2 h3 h4 hc ⊢;have hc:a=b:=by have:=of_decide_eq_false hc;omega
  subst hc;have e:=low_eq h2 h3 h4;rw[Int.toNat_natCast];refine⟨fun h=>inB_nat (lt_of_dec h),(L.getD a default,n),fun _=>⟨⟨⟨rfl,rfl,rfl,rfl,rfl,rfl,rfl,trivial⟩,rfl,trivial⟩,trivial⟩,by rw[e],?_,trivial⟩
  unfold isRw;rw[e];dsimp only;rw[cmpN_eq,show decide ((a:Int)<(L.length:Int))=decide (a<L.length) from decide_eq_decide.2 (by omega)]
def k_rowAt:Con:=.rel ⟨List Rw×Int,fun x=>[rwS x.1,.int .i64 x.2],fun x=>.tup [.int .i64 (lowN x.1 x.2),.bool (isRw x.1 x.2)],fun x=>SrtI x.1/\x.1.length<=1000⟩
noncomputable def b_rowAt:Code:=Tryz.f52.body.getD .skip
theorem call_rowAt:Callable Tryz.prog 52:=⟨_,Tryz.func52,by kernel_rfl,by kernel_rfl⟩
theorem v_rowAt(L:List Rw)(n:Int)(h:
  ∃(x:(List Rw×Int)),(((EqL rwRow L x.fst)/\n=x.snd/\Value.func (Fn.func 76) #[] #[]=Value.func (Fn.func 76) #[] #[]/\True)/\SrtI x.fst/\x.fst.length<=1000)/\(↑(lowN x.fst x.snd):Int)=(↑(lowN L n):Int)/\isRw
  x.fst x.snd=isRw L n/\True):
  PureFn Tryz.prog 52 [rwS L,.int .i64 n] (.tup [.int .i64 (lowN L n),.bool (isRw L n)]):=
 vcR (code:=b_rowAt) (gC bsRw_ok call_bsRw gN) Tryz.func52 (by kernel_rfl) (by kernel_rfl) noAnn h (by kernel_rfl)
theorem rowAt_ok:ConOk Tryz.prog 52 k_rowAt:=by
 rintro⟨L,n⟩ h;exact v_rowAt L n ⟨(L,n),⟨⟨⟨rfl,rowsR _ _⟩,rfl,rfl,trivial⟩,h⟩,rfl,rfl,trivial⟩
def k_putS:Con:=.reff ⟨List Rw×Rw,fun x=>[.osl 0 0 x.1.length,.agg x.2.ts],fun x=>[rwsA x.1],fun x=>.osl 0 0 x.1.length,fun x=>[rwsA (x.1.set (lowN x.1 x.2.id) x.2)],fun x=>SrtI x.1/\x.1.length<=1000/\isRw x.1 x.2.id=true⟩
noncomputable def b_putS:Code:=Tryz.f78.body.getD .skip
theorem call_putS:Callable Tryz.prog 78:=⟨_,Tryz.func78,by kernel_rfl,by kernel_rfl⟩
theorem v_putS(L:List Rw)(r:Rw)(h:
  ∃(x:(List Rw×Int)),(Le (0+L.length) L.length/\((EqL rwRow L x.fst)/\r.id=x.snd/\True)/\SrtI x.fst/\x.fst.length<=1000)/\(isRw x.fst x.snd=true->InB (↑(lowN x.fst x.snd):Int) L.length/\Lt (0+(↑(lowN x.fst
  x.snd):Int).toNat) L.length/\((0=0/\L.length=L.length)/\True)/\(L.length=(L.set (lowN L r.id) r).length/\RowsEq L.length (setRow (rwRow L) (0+(↑(lowN x.fst x.snd):Int).toNat) 0 [T.int .i64 r.id,T.int .i64 r.n.k,
  T.int .i64 r.n.n,T.str r.n.t,T.int .i64 r.name.k,T.int .i64 r.name.n,T.str r.name.t]) (rwRow (L.set (lowN L r.id) r)))/\True)/\(isRw x.fst x.snd=false->∃(x_1:(List Rw×Nat×Rw)),(((0=0/\L.length=x_1.fst.length)
  /\(↑(lowN x.fst x.snd):Int)=(x_1.snd.fst:Int)/\(0=0/\1=1)/\True)/\((EqL rwRow L x_1.fst)/\(1=1/\RowsEq 1 (fun(k:Nat)=>List.take 7 (List.drop (k*7) [T.int .i64 r.id,T.int .i64 r.n.k,T.int .i64 r.n.n,T.str
  r.n.t,T.int .i64 r.name.k,T.int .i64 r.name.n,T.str r.name.t])) (rwRow [x_1.snd.snd]))/\True)/\x_1.snd.fst<=x_1.fst.length/\x_1.fst.length<=1000)/\(False/\True)/\False/\True)):
  EffFn Tryz.prog 78 [.osl 0 0 L.length,.agg r.ts] [rwsA L] (.osl 0 0 L.length) [rwsA (L.set (lowN L r.id) r)]:=
 vcG (code:=b_putS) (gC rowAt_ok call_rowAt (gC insRw_ok call_insRw gN)) Tryz.func78 (by kernel_rfl) (by kernel_rfl) noAnn [[.arr 0]] h (by kernel_rfl)
theorem isRw_lt{L:List Rw}{n:Int}(h:isRw L n=true):lowN L n<L.length:=by
 unfold isRw at h;rw[Bool.and_eq_true] at h;exact of_decide_eq_true h.1
theorem fstI_lt{n:Nat}{p:Nat->Bool}(h:¬fstI n p<0):∃i,i<n/\p i=true/\(∀j,j<i->p j=false)/\fstI n p=(i:Int):=by
 cases ha:anyI n p with
 |false=>exact absurd (by rw[fstI_no (anyI_no.1 ha)];omega) h
 |true=>
  obtain⟨i,hi,hp⟩:=anyI_iff.1 ha;have key:∀m,m<=n->(∀j,j<m->p j=false)∨∃i,i<n/\p i=true/\(∀j,j<i->p j=false):=by
   intro m;induction m with
   |zero=>intro _;exact .inl fun j hj=>absurd hj (Nat.not_lt_zero j)
   |succ m ih=>
    intro hm;rcases ih (by omega) with h0|h0
    ·cases hq:p m with
     |true=>exact .inr ⟨m,hm,hq,h0⟩
     |false=>
      refine .inl fun j hj=> ?_
      by_cases hjm:j=m
      ·rw[hjm];exact hq
      ·exact h0 j (by omega)
    ·exact .inr h0
  rcases key n (Nat.le_refl n) with h0|⟨k,hk,hpk,hn⟩
  ·rw[h0 i hi] at hp;cases hp
  ·exact⟨k,hk,hpk,hn,fstI_at hk hpk hn⟩
theorem low_le(L:List Rw)(n:Int):lowN L n<=L.length:=by
 unfold lowN;split
 ·exact Nat.le_refl _
 ·rename_i h;obtain⟨i,hi,_,_,he⟩:=fstI_lt h;rw[he,Int.toNat_natCast];omega
theorem rws_put{L:List Rw}{k:Nat}(r:Rw)(hk:k<L.length):RowsEq L.length (setRow (rwRow L) k 0 r.ts) (rwRow (L.set k r)):=fun i _=>by
 rw[rw_set (row:=rwRow L) (q:=i) (i:=k) (cs:=r.ts) rfl];unfold rwRow;by_cases h:i=k
 ·rw[if_pos h,h,List.getD_eq_getElem?_getD,List.getElem?_set_self hk]
  rfl
 ·rw[if_neg h,List.getD_eq_getElem?_getD,List.getD_eq_getElem?_getD,List.getElem?_set_ne (fun e=>h e.symm)]
theorem putS_ok:ConOk Tryz.prog 78 k_putS:=by
 rintro⟨L,r⟩ ⟨hs,hn,hi⟩;dsimp only at hs hn hi;have hlt:=isRw_lt hi;refine v_putS L r ⟨(L,r.id),⟨Nat.le_of_eq (Nat.zero_add _),⟨⟨rfl,rowsR _ _⟩,rfl,trivial⟩,hs,hn⟩,fun _=> ?_,fun h=> ?_⟩
 ·dsimp only;rw[show 0+((lowN L r.id:Nat):Int).toNat=lowN L r.id by omega]
  exact⟨inB_nat hlt,hlt,⟨⟨rfl,rfl⟩,trivial⟩,⟨List.length_set.symm,rws_put r hlt⟩,trivial⟩
 ·dsimp only at h;rw[hi] at h;cases h
def k_putI:Con:=.reff ⟨List Rw×Rw,fun x=>[.osl 0 0 x.1.length,.agg x.2.ts],fun x=>[rwsA x.1],fun x=>.osl 1 0 (x.1.length+1),fun x=>[none,rwsA (insL x.1 (lowN x.1 x.2.id) x.2)],fun x=>SrtI x.1/\x.1.length<=1000/\isRw x.1 x.2.id=false⟩
noncomputable def b_putI:Code:=Tryz.f78.body.getD .skip
theorem call_putI:Callable Tryz.prog 78:=⟨_,Tryz.func78,by kernel_rfl,by kernel_rfl⟩
theorem v_putI(L:List Rw)(r:Rw)(h:
  ∃(x:(List Rw×Int)),(Le (0+L.length) L.length/\((EqL rwRow L x.fst)/\r.id=x.snd/\True)/\SrtI x.fst/\x.fst.length<=1000)/\(isRw x.fst x.snd=true->InB (↑(lowN x.fst x.snd):Int) L.length/\Lt (0+(↑(lowN x.fst
  x.snd):Int).toNat) L.length/\(False/\True)/\True/\False/\True)/\(isRw x.fst x.snd=false->∃(x_1:(List Rw×Nat×Rw)),(((0=0/\L.length=x_1.fst.length)/\(↑(lowN x.fst x.snd):Int)=(x_1.snd.fst:Int)/\(0=0/\
  1=1)/\True)/\((EqL rwRow L x_1.fst)/\(1=1/\RowsEq 1 (fun(k:Nat)=>List.take 7 (List.drop (k*7) [T.int .i64 r.id,T.int .i64 r.n.k,T.int .i64 r.n.n,T.str r.n.t,T.int .i64 r.name.k,T.int .i64 r.name.n,T.str
  r.name.t])) (rwRow [x_1.snd.snd]))/\True)/\x_1.snd.fst<=x_1.fst.length/\x_1.fst.length<=1000)/\((0=0/\x_1.fst.length+1=L.length+1)/\True)/\True/\(EqL rwRow (insL x_1.fst x_1.snd.fst x_1.snd.snd) (insL L (lowN L
  r.id) r))/\True)):
  EffFn Tryz.prog 78 [.osl 0 0 L.length,.agg r.ts] [rwsA L] (.osl 1 0 (L.length+1)) [none,rwsA (insL L (lowN L r.id) r)]:=
 vcG (code:=b_putI) (gC rowAt_ok call_rowAt (gC insRw_ok call_insRw gN)) Tryz.func78 (by kernel_rfl) (by kernel_rfl) noAnn [[.arr 0,.arr 3]] h (by kernel_rfl)
theorem putI_ok:ConOk Tryz.prog 78 k_putI:=by
 rintro⟨L,r⟩ ⟨hs,hn,hi⟩;dsimp only at hs hn hi;refine v_putI L r ⟨(L,r.id),⟨Nat.le_of_eq (Nat.zero_add _),⟨⟨rfl,rowsR _ _⟩,rfl,trivial⟩,hs,hn⟩,fun h=> ?_,fun _=>⟨(L,lowN L r.id,r),⟨⟨⟨rfl,rfl⟩,rfl,⟨rfl,rfl⟩,trivial⟩,⟨⟨rfl,rowsR _ _⟩,⟨rfl,fun i hi=> ?_⟩,trivial⟩,low_le _ _,hn⟩,⟨⟨rfl,rfl⟩,trivial⟩,trivial,⟨rfl,rowsR _ _⟩,trivial⟩⟩
 ·dsimp only at h;rw[hi] at h;cases h
 ·obtain rfl:i=0:=by omega
  rfl
def k_drpF:Con:=.reff ⟨List Rw×Int,fun x=>[.osl 0 0 x.1.length,.int .i64 x.2],fun x=>[rwsA x.1],fun x=>.osl 0 0 (cutL x.1 (lowN x.1 x.2)).length,fun x=>[rwsA (cutL x.1 (lowN x.1 x.2))],fun x=>SrtI x.1/\x.1.length<=1000/\isRw x.1 x.2=true⟩
noncomputable def b_drpF:Code:=Tryz.f158.body.getD .skip
theorem call_drpF:Callable Tryz.prog 158:=⟨_,Tryz.func158,by kernel_rfl,by kernel_rfl⟩
theorem v_drpF(L:List Rw)(n:Int)(h:
  ∃(x:(List Rw×Int)),(Le (0+L.length) L.length/\((EqL rwRow L x.fst)/\n=x.snd/\True)/\SrtI x.fst/\x.fst.length<=1000)/\(isRw x.fst x.snd=true->Rng .i64 ((↑(lowN x.fst x.snd):Int)+(1:Int))/\∃(x_1:(List
  Rw×Nat)),(((0=0/\L.length=x_1.fst.length)/\(↑(lowN x.fst x.snd):Int)=(x_1.snd:Int)/\(↑(lowN x.fst x.snd):Int)+(1:Int)=(↑(x_1.snd+1):Int)/\True)/\((EqL rwRow L x_1.fst)/\True)/\x_1.snd<
  x_1.fst.length)/\((0=0/\(cutL x_1.fst x_1.snd).length=(cutL L (lowN L n)).length)/\True)/\(EqL rwRow (cutL x_1.fst x_1.snd) (cutL L (lowN L n)))/\True)/\(isRw x.fst x.snd=false->((0=0/\L.length=(cutL L (lowN L
  n)).length)/\True)/\(EqL rwRow L (cutL L (lowN L n)))/\True)):
  EffFn Tryz.prog 158 [.osl 0 0 L.length,.int .i64 n] [rwsA L] (.osl 0 0 (cutL L (lowN L n)).length) [rwsA (cutL L (lowN L n))]:=
 vcG (code:=b_drpF) (gC rowAt_ok call_rowAt (gC delRw_ok call_delRw gN)) Tryz.func158 (by kernel_rfl) (by kernel_rfl) noAnn [[.arr 0]] h (by kernel_rfl)
theorem drpF_ok:ConOk Tryz.prog 158 k_drpF:=by
 rintro⟨L,n⟩ ⟨hs,hn,hi⟩;dsimp only at hs hn hi;have hlt:=isRw_lt hi;refine v_drpF L n ⟨(L,n),⟨Nat.le_of_eq (Nat.zero_add _),⟨⟨rfl,rowsR _ _⟩,rfl,trivial⟩,hs,hn⟩,fun _=>⟨i64_rng (by dsimp only;omega),(L,lowN L n),⟨⟨⟨rfl,rfl⟩,rfl,by dsimp only;omega,trivial⟩,⟨⟨rfl,rowsR _ _⟩,trivial⟩,hlt⟩,⟨⟨rfl,rfl⟩,trivial⟩,⟨rfl,rowsR _ _⟩,trivial⟩,fun h=> ?_⟩
 dsimp only at h;rw[hi] at h;cases h
def tabB(k n:Nat):Option Ob:=some (.arr false 93 1 1 fun _=>[.osl k 0 n])
def k_tPutS:Con:=.reff ⟨List Rw×Rw,fun x=>[.ref 0 0 0,.agg x.2.ts],fun x=>[tabB 1 x.1.length,rwsA x.1],fun _=>.int .i64 0,fun x=>[tabB 1 x.1.length,rwsA (x.1.set (lowN x.1 x.2.id) x.2)],fun x=>SrtI x.1/\x.1.length<=1000/\isRw x.1 x.2.id=true⟩
noncomputable def b_tPutS:Code:=Tryz.f53.body.getD .skip
theorem call_tPutS:Callable Tryz.prog 53:=⟨_,Tryz.func53,by kernel_rfl,by kernel_rfl⟩
theorem v_tPutS(L:List Rw)(r:Rw)(h:
  Lt 0 1/\∃(x:(List Rw×Rw)),(((0=0/\L.length=x.fst.length)/\(r.id=x.snd.id/\r.n.k=x.snd.n.k/\r.n.n=x.snd.n.n/\r.n.t=x.snd.n.t/\r.name.k=x.snd.name.k/\r.name.n=x.snd.name.n/\r.name.t=x.snd.name.t/\
  True)/\True)/\((EqL rwRow L x.fst)/\True)/\SrtI x.fst/\x.fst.length<=1000/\isRw x.fst x.snd.id=true)/\Lt 0 1/\((0:Int)=(0:Int)/\True)/\(1=1/\RowsRen (rho [some 0,some 1]) 1 (setRow (fun(x:Nat)=>[T.osl 1
  0 L.length]) 0 0 [T.osl 1 0 x.fst.length]) fun(x:Nat)=>[T.osl 1 0 L.length])/\(EqL rwRow (x.fst.set (lowN x.fst x.snd.id) x.snd) (L.set (lowN L r.id) r))/\True):
  EffFn Tryz.prog 53 [.ref 0 0 0,.agg r.ts] [tabB 1 L.length,rwsA L] (.int .i64 0) [tabB 1 L.length,rwsA (L.set (lowN L r.id) r)]:=
 vcG (code:=b_tPutS) (gC putS_ok call_putS gN) Tryz.func53 (by kernel_rfl) (by kernel_rfl) noAnn [[.ren 0,.arr 1]] h (by kernel_rfl)
theorem tPutS_ok:ConOk Tryz.prog 53 k_tPutS:=by
 rintro⟨L,r⟩ ⟨hs,hn,hi⟩;dsimp only at hs hn hi;refine v_tPutS L r ⟨Nat.zero_lt_one,(L,r),⟨⟨⟨rfl,rfl⟩,⟨rfl,rfl,rfl,rfl,rfl,rfl,rfl,trivial⟩,trivial⟩,⟨⟨rfl,rowsR _ _⟩,trivial⟩,hs,hn,hi⟩,Nat.zero_lt_one,⟨rfl,trivial⟩,⟨rfl,fun i h=> ?_⟩,⟨rfl,rowsR _ _⟩,trivial⟩
 obtain rfl:i=0:=by omega
 rfl
def k_tPutI:Con:=.reff ⟨List Rw×Rw,fun x=>[.ref 0 0 0,.agg x.2.ts],fun x=>[tabB 1 x.1.length,rwsA x.1],fun _=>.int .i64 0,fun x=>[tabB 2 (x.1.length+1),none,rwsA (insL x.1 (lowN x.1 x.2.id) x.2)],fun x=>SrtI x.1/\x.1.length<=1000/\isRw x.1 x.2.id=false⟩
noncomputable def b_tPutI:Code:=Tryz.f53.body.getD .skip
theorem call_tPutI:Callable Tryz.prog 53:=⟨_,Tryz.func53,by kernel_rfl,by kernel_rfl⟩
theorem v_tPutI(L:List Rw)(r:Rw)(h:
  Lt 0 1/\∃(x:(List Rw×Rw)),(((0=0/\L.length=x.fst.length)/\(r.id=x.snd.id/\r.n.k=x.snd.n.k/\r.n.n=x.snd.n.n/\r.n.t=x.snd.n.t/\r.name.k=x.snd.name.k/\r.name.n=x.snd.name.n/\r.name.t=x.snd.name.t/\
  True)/\True)/\((EqL rwRow L x.fst)/\True)/\SrtI x.fst/\x.fst.length<=1000/\isRw x.fst x.snd.id=false)/\Lt 0 1/\((0:Int)=(0:Int)/\True)/\(1=1/\RowsRen (rho [some 0,some 1,some 3]) 1 (setRow (fun(x:Nat)=>
  [T.osl 1 0 L.length]) 0 0 [T.osl (3+(1-1)) 0 (x.fst.length+1)]) fun(x:Nat)=>[T.osl 2 0 (L.length+1)])/\True/\(EqL rwRow (insL x.fst (lowN x.fst x.snd.id) x.snd) (insL L (lowN L r.id) r))/\True):
  EffFn Tryz.prog 53 [.ref 0 0 0,.agg r.ts] [tabB 1 L.length,rwsA L] (.int .i64 0) [tabB 2 (L.length+1),none,rwsA (insL L (lowN L r.id) r)]:=
 vcG (code:=b_tPutI) (gC putI_ok call_putI gN) Tryz.func53 (by kernel_rfl) (by kernel_rfl) noAnn [[.ren 0,.arr 1,.arr 3]] h (by kernel_rfl)
theorem tPutI_ok:ConOk Tryz.prog 53 k_tPutI:=by
 rintro⟨L,r⟩ ⟨hs,hn,hi⟩;dsimp only at hs hn hi;refine v_tPutI L r ⟨Nat.zero_lt_one,(L,r),⟨⟨⟨rfl,rfl⟩,⟨rfl,rfl,rfl,rfl,rfl,rfl,rfl,trivial⟩,trivial⟩,⟨⟨rfl,rowsR _ _⟩,trivial⟩,hs,hn,hi⟩,Nat.zero_lt_one,⟨rfl,trivial⟩,⟨rfl,fun i h=> ?_⟩,trivial,⟨rfl,rowsR _ _⟩,trivial⟩
 obtain rfl:i=0:=by omega
 rfl
def k_tDrop:Con:=.reff ⟨List Rw×Rw,fun x=>[.ref 0 0 0,.agg x.2.ts],fun x=>[tabB 1 x.1.length,rwsA x.1],fun _=>.int .i64 0,fun x=>[tabB 1 (cutL x.1 (lowN x.1 x.2.id)).length,rwsA (cutL x.1 (lowN x.1 x.2.id))],fun x=>SrtI x.1/\x.1.length<=1000/\isRw x.1 x.2.id=true⟩
noncomputable def b_tDrop:Code:=Tryz.f157.body.getD .skip
theorem call_tDrop:Callable Tryz.prog 157:=⟨_,Tryz.func157,by kernel_rfl,by kernel_rfl⟩
theorem v_tDrop(L:List Rw)(r:Rw)(h:
  Lt 0 1/\∃(x:(List Rw×Int)),(((0=0/\L.length=x.fst.length)/\r.id=x.snd/\True)/\((EqL rwRow L x.fst)/\True)/\SrtI x.fst/\x.fst.length<=1000/\isRw x.fst x.snd=true)/\Lt 0 1/\((0:Int)=(0:Int)/\True)/\
  (1=1/\RowsRen (rho [some 0,some 1]) 1 (setRow (fun(x:Nat)=>[T.osl 1 0 L.length]) 0 0 [T.osl 1 0 (cutL x.fst (lowN x.fst x.snd)).length]) fun(x:Nat)=>[T.osl 1 0 (cutL L (lowN L r.id)).length])/\(EqL rwRow (cutL x.fst
  (lowN x.fst x.snd)) (cutL L (lowN L r.id)))/\True):
  EffFn Tryz.prog 157 [.ref 0 0 0,.agg r.ts] [tabB 1 L.length,rwsA L] (.int .i64 0) [tabB 1 (cutL L (lowN L r.id)).length,rwsA (cutL L (lowN L r.id))]:=
 vcG (code:=b_tDrop) (gC drpF_ok call_drpF gN) Tryz.func157 (by kernel_rfl) (by kernel_rfl) noAnn [[.ren 0,.arr 1]] h (by kernel_rfl)
theorem tDrop_ok:ConOk Tryz.prog 157 k_tDrop:=by
 rintro⟨L,r⟩ ⟨hs,hn,hi⟩;dsimp only at hs hn hi;refine v_tDrop L r ⟨Nat.zero_lt_one,(L,r.id),⟨⟨⟨rfl,rfl⟩,rfl,trivial⟩,⟨⟨rfl,rowsR _ _⟩,trivial⟩,hs,hn,hi⟩,Nat.zero_lt_one,⟨rfl,trivial⟩,⟨rfl,fun i h=> ?_⟩,⟨rfl,rowsR _ _⟩,trivial⟩
 obtain rfl:i=0:=by omega
 rfl
end Go.Proofs.YtfmngblmdghccaaGreat

