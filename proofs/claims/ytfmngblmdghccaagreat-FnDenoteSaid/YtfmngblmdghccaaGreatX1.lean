/- A part of the proof. -/
import Derived.Test.YtfmngblmdghccaaGreatE4
import Derived.Test.YtfmngblmdghccaaGreatK9s
import Derived.Test.YtfmngblmdghccaaGreatD0
import Derived.WalkKit
import Derived.Deep.RegionLaw
import Derived.Deep.LoopGhost
import Derived.Lib.SliceRun
import Derived.Deep.MidRow
import Derived.Shelf.RegionOpenPlain
import Derived.Laws.IdiomCopy
import Derived.Lib.Overlaps
import Derived.Lib.AppendZerosOnto
import Derived.Laws.NewBlocks
import Derived.Laws.Externs
import Derived.Lib.AppendZeros
namespace Go.Proofs.YtfmngblmdghccaaGreat
open Go.SS

theorem plain_nil:PlainH []:=fun k ob h=>by simp[getOb] at h
theorem plain_cons{o:Ob}{H:Heap}(h:PlainOb o)(k:PlainH H):PlainH (some o::H):=fun i ob hi=>by
 cases i with
 |zero=>
  simp only[getOb,List.getElem?_cons_zero,Option.bind_some,id,Option.some.injEq] at hi
  rw[←hi];exact h
 |succ i=>exact k i ob (by simpa[getOb] using hi)
theorem app_nil{row row':Nat->List T}{n:Nat}:RowsEq (0+n) (appRow row 0 row') row':=fun i _=>rfl
def pendA(L:List Pend):Option Ob:=some (.arr true 0 2 L.length (pendRow L))
def intA(L:List Int):Option Ob:=some (.arr true 0 1 L.length (intRow L))
def recA(L:List Rec):Option Ob:=some (.arr true 0 10 L.length (recRow L))
def Dsk.tm(d:Dsk)(b:Nat):List T:=[.osl b 0 d.sec.length,.osl (b+1) 0 d.cache.length,.bool d.armed,.osl (b+2) 0 d.keep.length]
def Dsk.hp(d:Dsk):Heap:=[strA d.sec,pendA d.cache,intA d.keep]
def Pg.tm(p:Pg)(b:Nat):List T:=[.int .i64 p.lsn,.osl b 0 p.sl.length]
def famRow(L:List Frm)(i:Nat):List T:=[.int .i64 (L.getD i default).no,.int .i64 (L.getD i default).pg.lsn,.own 0 1 (L.getD i default).pg.sl.length (strRow (L.getD i default).pg.sl),.bool (L.getD i default).dirty,.int .i64 (L.getD i default).first]
def famA(v:Nat)(L:List Frm)(n:Nat):Option Ob:=some (.fam v 0 5 n (famRow L))
def Sto.tm(s:Sto)(b:Nat):List T:=[.osl b 0 s.d.sec.length,.osl (b+1) 0 s.d.cache.length,.bool s.d.armed,.osl (b+2) 0 s.d.keep.length,.int .i64 s.ep,.osl (b+3) 0 s.log.length,.int .i64 s.sure,.osl (b+4) 0 s.fr.length,.int .i64 s.hand]
def Sto.hp(s:Sto)(v:Nat):Heap:=[strA s.d.sec,pendA s.d.cache,intA s.d.keep,recA s.log,famA v s.fr s.fr.length]
theorem famR{L:List Frm}(n:Nat):FamEq n (famRow L) (famRow L):=fun i _=>by
 refine⟨?_,?_,⟨rfl,rfl,rowsR _ _⟩,?_,?_,trivial⟩<;>rfl
theorem blt_t{i n:Nat}(h:i<n):Nat.blt i n=true:=Nat.ble_eq_true_of_le h
theorem blt_f{i n:Nat}(h:¬i<n):Nat.blt i n=false:=by
 cases hb:Nat.blt i n with
 |false=>rfl
 |true=>exact absurd (Nat.le_of_ble_eq_true hb) h
end Go.Proofs.YtfmngblmdghccaaGreat

namespace Go.Proofs.YtfmngblmdghccaaGreat
set_option maxRecDepth 100000
open Go.SS

end Go.Proofs.YtfmngblmdghccaaGreat

namespace Go.Proofs.YtfmngblmdghccaaGreat
set_option maxRecDepth 100000
open Go.SS

theorem plain_rws(L:List Rw):PlainH [rwsA L]:=plain_cons (fun i _ t ht=>by
 have ht:t ∈ (L.getD i default).ts:=ht;unfold Rw.ts at ht;simp only[List.mem_cons,List.not_mem_nil,or_false] at ht;rcases ht with rfl|rfl|rfl|rfl|rfl|rfl|rfl<;>rfl) plain_nil
def k_clRw:Con:=.rmk ⟨List Rw,fun L=>[rwS L],fun _=>[],fun L=>.osl 0 0 L.length,fun L=>[rwsA L],fun L=>L.length<=1048576⟩
noncomputable def b_clRw:Code:=Tryz.f25.body.getD .skip
theorem call_clRw:Callable Tryz.prog 25:=⟨_,Tryz.func25,by kernel_rfl,by kernel_rfl⟩
theorem v_clRw(L:List Rw)(h:
  ∀(b:Bool),(b=true->L.length=0)->(b=true->((0=0/\0=L.length)/\True)/\(0=L.length/\RowsEq 0 (fun(x:Nat)=>[]) (rwRow L))/\True)/\(b=false->(Le 0 0/\AppB 0 L.length 72)/\((0=0/\0+L.length=
  L.length)/\True)/\(0+L.length=L.length/\RowsEq (0+L.length) (appRow (fun(k:Nat)=>List.take 7 (List.drop (k*7) [])) 0 (rwRow L)) (rwRow L))/\True)):
  EffFn Tryz.prog 25 [rwS L] [] (.osl 0 0 L.length) [rwsA L]:=
 vcG (code:=b_clRw) gN Tryz.func25 (by kernel_rfl) (by kernel_rfl) noAnn [[.arr 1],[.nilS 0 [] 0 7,.arr 0]] h (by kernel_rfl)
theorem clRw_ok:ConOk Tryz.prog 25 k_clRw:=fun(L:List Rw) (hL:L.length<=1048576)=>
 ⟨v_clRw L (fun b hb=>⟨fun h=>⟨⟨⟨rfl,(hb h).symm⟩,trivial⟩,⟨(hb h).symm,fun i hi=>absurd hi (Nat.not_lt_zero _)⟩,trivial⟩,fun _=>⟨⟨Nat.le_refl _,by unfold AppB;omega⟩,⟨⟨rfl,by omega⟩,trivial⟩,⟨by omega,app_nil⟩,trivial⟩⟩),rfl,plain_rws L⟩
def revAt(n k q:Nat):Nat:=if q<k∨n-k<=q then n-1-q else q
def revRow(L:List Rw)(k q:Nat):List T:=rwRow L (revAt L.length k q)
def k_rev:Con:=.reff ⟨List Rw,fun L=>[.osl 0 0 L.length],fun L=>[rwsA L],fun _=>.tup [],fun L=>[rwsA L.reverse],fun L=>L.length<=1048576⟩
def A_rev(L:List Rw):Nat->Ann
 |0=>.one {k:Nat//2*k<=L.length} (fun x=>⟨[(0,.osl 0 0 L.length),(2,.int .i64 x.1),(3,.int .i64 ((L.length:Int)-1-x.1))],[some (.arr true 0 7 L.length (revRow L x.1))]⟩) (fun x=>L.length-x.1) [.arr 0] [.arr 0] (fun _=>noAnn)
 |_=>.none
noncomputable def b_rev:Code:=Tryz.f105.body.getD .skip
theorem call_rev:Callable Tryz.prog 105:=⟨_,Tryz.func105,by kernel_rfl,by kernel_rfl⟩
theorem v_rev(L:List Rw)(h:
  Rng .i64 ((L.length:Int)- (1:Int))/\(∃(x:{k:Nat//2*k<=L.length}),((0=0/\L.length=L.length)/\(0:Int)=(x.val:Int)/\(L.length:Int)- (1:Int)=(L.length:Int)- (1:Int)- (x.val:Int)/\True)/\(L.length
  =L.length/\RowsEq L.length (rwRow L) (revRow L x.val))/\True)/\∀(x:{k:Nat//2*k<=L.length}),(decide ((x.val:Int)<(L.length:Int)- (1:Int)- (x.val:Int))=true->InB ((L.length:Int)- (1:Int)- (x.val:Int))
  L.length/\Lt (0+((L.length:Int)- (1:Int)- (x.val:Int)).toNat) L.length/\InB (x.val:Int) L.length/\Lt (0+(x.val:Int).toNat) L.length/\InB (x.val:Int) L.length/\Lt (0+(x.val:Int).toNat) L.length/\InB ((L.length:Int)
  - (1:Int)- (x.val:Int)) L.length/\Lt (0+((L.length:Int)- (1:Int)- (x.val:Int)).toNat) L.length/\Rng .i64 ((x.val:Int)+(1:Int))/\Rng .i64 ((L.length:Int)- (1:Int)- (x.val:Int)- (1:Int))/\∃(y:
  {k:Nat//2*k<=L.length}),(((0=0/\L.length=L.length)/\(x.val:Int)+(1:Int)=(y.val:Int)/\(L.length:Int)- (1:Int)- (x.val:Int)- (1:Int)=(L.length:Int)- (1:Int)- (y.val:Int)/\True)/\(L.length=
  L.length/\RowsEq L.length (setRow (setRow (revRow L x.val) (0+(x.val:Int).toNat) 0 [T.int .i64 (L.getD (revAt L.length x.val (0+((L.length:Int)- (1:Int)- (x.val:Int)).toNat)) default).id,T.int .i64 (L.getD (revAt
  L.length x.val (0+((L.length:Int)- (1:Int)- (x.val:Int)).toNat)) default).n.k,T.int .i64 (L.getD (revAt L.length x.val (0+((L.length:Int)- (1:Int)- (x.val:Int)).toNat)) default).n.n,T.str (L.getD (revAt L.length
  x.val (0+((L.length:Int)- (1:Int)- (x.val:Int)).toNat)) default).n.t,T.int .i64 (L.getD (revAt L.length x.val (0+((L.length:Int)- (1:Int)- (x.val:Int)).toNat)) default).name.k,T.int .i64 (L.getD (revAt L.length x.val
  (0+((L.length:Int)- (1:Int)- (x.val:Int)).toNat)) default).name.n,T.str (L.getD (revAt L.length x.val (0+((L.length:Int)- (1:Int)- (x.val:Int)).toNat)) default).name.t]) (0+((L.length:Int)- (1:Int)-
  (x.val:Int)).toNat) 0 [T.int .i64 (L.getD (revAt L.length x.val (0+(x.val:Int).toNat)) default).id,T.int .i64 (L.getD (revAt L.length x.val (0+(x.val:Int).toNat)) default).n.k,T.int .i64 (L.getD (revAt L.length x.val (0+
  (x.val:Int).toNat)) default).n.n,T.str (L.getD (revAt L.length x.val (0+(x.val:Int).toNat)) default).n.t,T.int .i64 (L.getD (revAt L.length x.val (0+(x.val:Int).toNat)) default).name.k,T.int .i64 (L.getD (revAt L.length
  x.val (0+(x.val:Int).toNat)) default).name.n,T.str (L.getD (revAt L.length x.val (0+(x.val:Int).toNat)) default).name.t]) (revRow L y.val))/\True)/\Lt (L.length-y.val) (L.length-x.val))/\(decide ((x.val:Int)<
  (L.length:Int)- (1:Int)- (x.val:Int))=false->(True/\True)/\(L.length=L.reverse.length/\RowsEq L.length (revRow L x.val) (rwRow L.reverse))/\True)):
  EffFn Tryz.prog 105 [.osl 0 0 L.length] [rwsA L] (.tup []) [rwsA L.reverse]:=
 vcG (code:=b_rev) gN Tryz.func105 (by kernel_rfl) (by kernel_rfl) (A_rev L) [[.arr 0]] h (by kernel_rfl)
theorem rw_set{row:Nat->List T}{i q:Nat}{cs:List T}(h:cs.length=(row q).length):setRow row i 0 cs q=if q=i then cs else row q:=by
 rw[setRow_full h];by_cases e:q=i
 ·rw[if_pos e,e,Nat.beq_refl]
 ·rw[if_neg e,show Nat.beq q i=false from by rw[←Bool.not_eq_true];intro hh;exact e (Nat.eq_of_beq_eq_true hh)]
theorem rev_ok:ConOk Tryz.prog 105 k_rev:=by
 intro(L:List Rw) (hL:L.length<=1048576);refine v_rev L ⟨i64_rng (by omega),⟨⟨0,Nat.zero_le _⟩,⟨⟨rfl,rfl⟩,rfl,by dsimp only;omega,trivial⟩,⟨rfl,fun q hq=> ?_⟩,trivial⟩,fun x=>⟨fun hc=> ?_,fun hc=> ?_⟩⟩
 ·unfold revRow revAt;rw[if_neg (by dsimp only;omega)]
 ·obtain⟨k,hk⟩:=x;dsimp only at hc hk ⊢;have hc:2*k+1<L.length:=by have:=of_decide_eq_true hc;omega
  have e1:0+((L.length:Int)-1-k).toNat=L.length-1-k:=by omega
  have e2:0+(k:Int).toNat=k:=by omega
  rw[e1,e2];have r1:revAt L.length k (L.length-1-k)=L.length-1-k:=by unfold revAt;rw[if_neg (by omega)]
  have r2:revAt L.length k k=k:=by unfold revAt;rw[if_neg (by omega)]
  rw[r1,r2];have ib:InB ((L.length:Int)-1-k) L.length:=⟨by omega,by omega⟩
  have lt:Lt (L.length-1-k) L.length:=by unfold Lt;omega
  have lt2:Lt k L.length:=by unfold Lt;omega
  refine⟨ib,lt,inB_nat (by omega),lt2,inB_nat (by omega),lt2,ib,lt,i64_rng (by omega),i64_rng (by omega),⟨k+1,by omega⟩,⟨⟨⟨rfl,rfl⟩,by dsimp only;omega,by dsimp only;omega,trivial⟩,⟨rfl,fun q hq=> ?_⟩,trivial⟩,by unfold Lt;dsimp only;omega⟩
  dsimp only;have hin:setRow (revRow L k) k 0 (L.getD (L.length-1-k) default).ts q=if q=k then(L.getD (L.length-1-k) default).ts else revRow L k q:=rw_set rfl
  refine(rw_set (cs:=(L.getD k default).ts) ((show 7=(setRow (revRow L k) k 0 (L.getD (L.length-1-k) default).ts q).length from by rw[hin];split<;>rfl))).trans ?_
  by_cases h1:q=L.length-1-k
  ·rw[if_pos h1];unfold revRow revAt rwRow;rw[if_pos (by omega),show L.length-1-q=k by omega]
  ·rw[if_neg h1];refine hin.trans ?_
   by_cases h2:q=k
   ·rw[if_pos h2];unfold revRow revAt rwRow;rw[if_pos (by omega),show L.length-1-q=L.length-1-k by omega]
   ·rw[if_neg h2];unfold revRow revAt;by_cases h3:q<k∨L.length-k<=q
    ·rw[if_pos h3,if_pos (by omega)]
    ·rw[if_neg h3,if_neg (by omega)]
 ·obtain⟨k,hk⟩:=x;dsimp only at hc hk ⊢;have hc:L.length<=2*k+1:=by have:=of_decide_eq_false hc;omega
  refine⟨⟨trivial,trivial⟩,⟨by rw[List.length_reverse],fun q hq=> ?_⟩,trivial⟩
  have e:L.reverse.getD q default=L.getD (L.length-1-q) default:=by
   rw[List.getD_eq_getElem?_getD,List.getD_eq_getElem?_getD,List.getElem?_reverse hq]
  unfold revRow revAt rwRow;rw[e];by_cases h3:q<k∨L.length-k<=q
  ·rw[if_pos h3]
  ·rw[if_neg h3,show L.length-1-q=q by omega]
noncomputable def k_sortRw:Con:=.rmk ⟨List Rw×Int×Bool,fun x=>[rwS x.1,.int .i64 x.2.1,.bool x.2.2],fun _=>[],fun x=>.osl 0 0 x.1.length,fun x=>[rwsA (srtR x.2.1 x.2.2 x.1 x.1.length)],fun x=>x.1.length<=1048576/\DisI x.1/\0<=x.2.1/\x.2.1<=2⟩
noncomputable def b_sortRw:Code:=Tryz.f81.body.getD .skip
theorem call_sortRw:Callable Tryz.prog 81:=⟨_,Tryz.func81,by kernel_rfl,by kernel_rfl⟩
theorem v_sortRw(L:List Rw)(c:Int)(w:Bool)(M:List Rw)(h:
  ∃(x:(List Rw)),(((EqL rwRow L x)/\True)/\x.length<=1048576)/\∃(x_1:(List Rw×Int)),(((0=0/\x.length=x_1.fst.length)/\(Fn.func 100=Fn.func 100/\(0=0/\0=0)/\True)/\True)/\((x.length=x_1.fst.length/\
  RowsEq (x.length) (rwRow x) (rwRow x_1.fst))/\(1=1/\RowsEq 1 (fun(x:Nat)=>[T.int .i64 c]) fun(x:Nat)=>[T.int .i64 x_1.snd])/\True)/\x_1.fst.length<=1048576/\DisI x_1.fst/\(0:Int)<=x_1.snd/\x_1.snd<=(2:
  Int))/\(w=true->∃(x_2:(List Rw)),(((0=0/\x.length=x_2.length)/\True)/\((EqL rwRow (srtR x_1.snd false x_1.fst x_1.fst.length) x_2)/\True)/\x_2.length<=1048576)/\((0=0/\x.length=L.length)/\True)/\(EqL
  rwRow (List.reverse x_2) M)/\True)/\(w=false->((0=0/\x.length=L.length)/\True)/\(EqL rwRow (srtR x_1.snd false x_1.fst x_1.fst.length) M)/\True)):
  EffFn Tryz.prog 81 [rwS L,.int .i64 c,.bool w] [] (.osl 0 0 L.length) [rwsA M]:=
 vcG (code:=b_sortRw) (gC clRw_ok call_clRw (gC sortF_ok call_sortF (gC rev_ok call_rev gN))) Tryz.func81 (by kernel_rfl) (by kernel_rfl) noAnn [[.arr 1],[.arr 2],[.arr 0]] h (by kernel_rfl)
theorem srt_len{c:Int}{w:Bool}(L:List Rw):(srtR c w L L.length).length=L.length:=by
 have:=(srt_sp (c:=c) (w:=w) (L:=L) L.length (Nat.le_refl _)).2.length_eq
 rwa [List.take_length] at this
theorem rev_srt{c:Int}{L:List Rw}(hd:DisI L):(srtR c false L L.length).reverse=srtR c true L L.length:=by
 obtain⟨h1,h2⟩:=srt_sp (c:=c) (w:=false) (L:=L) L.length (Nat.le_refl _);rw[List.take_length] at h2;refine srt_one hd ?_ ((List.reverse_perm _).trans h2)
 rw[List.pairwise_reverse];exact h1
theorem sortRw_ok:ConOk Tryz.prog 81 k_sortRw:=by
 rintro⟨L,c,w⟩ ⟨hL,hD,h0,h2⟩;dsimp only at hL hD h0 h2;have hl:=srt_len (c:=c) (w:=false) L;refine⟨?_,rfl,plain_rws _⟩
 refine v_sortRw L c w (srtR c w L L.length) ⟨L,⟨⟨⟨rfl,rowsR _ _⟩,trivial⟩,hL⟩,(L,c),⟨⟨⟨rfl,rfl⟩,⟨rfl,⟨rfl,rfl⟩,trivial⟩,trivial⟩,⟨⟨rfl,rowsR _ _⟩,⟨rfl,rowsR _ _⟩,trivial⟩,hL,hD,h0,h2⟩,fun hw=>⟨srtR c false L L.length,⟨⟨⟨rfl,hl.symm⟩,trivial⟩,⟨⟨rfl,rowsR _ _⟩,trivial⟩,by omega⟩,⟨⟨rfl,rfl⟩,trivial⟩,?_,trivial⟩,fun hw=>⟨⟨⟨rfl,rfl⟩,trivial⟩,?_,trivial⟩⟩
 ·rw[hw,←rev_srt hD];exact⟨rfl,rowsR _ _⟩
 ·rw[hw];exact⟨rfl,rowsR _ _⟩
end Go.Proofs.YtfmngblmdghccaaGreat

namespace Go.Proofs.YtfmngblmdghccaaGreat
open Go.SS Go.RowKit
theorem app_rows{α:Type}[Inhabited α](f:α->List T)(n:Nat)(hf:∀a,(f a).length=n)(L:List α)(x:α):RowsEq (L.length+1) (appRow (fun i=>f (L.getD i default)) L.length fun k=>List.take n (List.drop (k*n) (f x))) (fun i=>f ((L++[x]).getD i default)):=by
 intro i hi;unfold appRow;by_cases h:i<L.length
 ·rw[blt_t h];dsimp only;rw[List.getD_eq_getElem?_getD,List.getD_eq_getElem?_getD,List.getElem?_append_left h]
 ·have:i=L.length:=by omega
  subst this;rw[blt_f h];dsimp only;have:(L++[x]).getD L.length default=x:=by rw[List.getD_eq_getElem?_getD,List.getElem?_append_right (Nat.le_refl _)];simp
  rw[this,Nat.sub_self,Nat.zero_mul,List.drop_zero,List.take_of_length_le (by rw[hf];exact Nat.le_refl _)]

theorem call_delRw:Callable Tryz.prog 159:=⟨_,Tryz.func159,by kernel_rfl,by kernel_rfl⟩
def zRw:List Value:=[.int .i64 0,.int .i64 0,.int .i64 0,.string ⟨#[]⟩,.int .i64 0,.int .i64 0,.string ⟨#[]⟩]
theorem zRw_one:∀v ∈ zRw,v.oneCell'=true:=by
 intro v hv;simp only[zRw,List.mem_cons,List.not_mem_nil,or_false] at hv;rcases hv with rfl|rfl|rfl|rfl|rfl|rfl|rfl<;>rfl
theorem info_rw:(Tryz.prog.info? 28).map (fun i=>(i.zero,i.size,i.bytes))=some (some (.agg zRw.toArray),7,72):=by kernel_rfl
theorem under_rw:Tryz.prog.underlying 23=some (.slice 28):=by kernel_rfl
theorem run_clear_rw(w:World)(ty:TypeId)(b o c:Nat)(hc:∀j,j<7->(w.cell? ⟨b,o+j,none⟩).isSome=true)(hf:∀j,j<7->w.frozen? ⟨b,o+j,none⟩=false):
  (Builtin.clear_ #[23] ty #[.slice (some ⟨b,o,none⟩) 1 c]).run Tryz.prog w= .ok (.tuple #[]) (w.setCells b o zRw):=by
 obtain⟨i0,hi0,hz0,_⟩:=info_parts info_rw;have hv:∀w,(zeroValue 28).run Tryz.prog w= .ok (.agg zRw.toArray) w:=fun w=>by
  simp[zeroValue,typeInfo,hi0,hz0]
 have hst:=run_storeCells_cells (P:=Tryz.prog) b o zRw 0 w (fun j (hj:j<7)=>by rw[Nat.add_zero];exact hc j hj) (fun j (hj:j<7)=>by rw[Nat.add_zero];exact hf j hj) zRw_one
 simp only[Nat.add_zero] at hst;have hzc:(Builtin.zeroCells (Value.agg zRw.toArray).cells 1).toList=zRw:=by kernel_rfl
 simp[Builtin.clear_,run_underlying under_rw,hv,hzc,hst]
set_option maxHeartbeats 4000000 in
set_option maxRecDepth 1000000 in
theorem del_walk2(b cap n i j:Nat)(news:List Value)(w:World)(hj1:j=i+1)(hj:j<=n)(hn:n<=cap)(hl:news.length=(n-j)*7)(h1:∀u ∈ news,u.oneCell'=true)
  (hs:∀q u,news[q]? =some u->w.cell? ⟨b,j*7+q,none⟩=some u) (hc:∀q,q<n*7->(w.cell? ⟨b,q,none⟩).isSome=true) (hf:∀q,q<n*7->w.frozen? ⟨b,q,none⟩=false):
  Calls Tryz.prog 159 #[.slice (some ⟨b,0,none⟩) n cap,.int .i64 i,.int .i64 j] w fun e w'=>e= .returned (.slice (some ⟨b,0,none⟩) (i+(n-j)) cap)/\w'=(w.drew.setCells b (i*7) news).setCells b ((i+(n-j))*7) zRw:=by
 have mixed:Tryz.prog.follows .mixedOrders=true:=by kernel_rfl
 obtain⟨i0,hi0,hz0,hz1,hz2⟩:=info_parts info_rw;obtain⟨A,hA,hnews⟩:∃A:Addr,(if cap=j then some (⟨b,0,none⟩:Addr) else some ⟨b,j*7,none⟩)=some A/\Hid (∀q u,news[q]? =some u->w.drew.cell? (A.add q)=some u):=by
  by_cases h:cap=j
  ·refine⟨⟨b,0,none⟩,by simp[h],fun q u hu=> ?_⟩
   have h0:news.length=0:=by rw[hl];omega
   rw[List.length_eq_zero_iff.1 h0] at hu;simp at hu
  ·exact⟨⟨b,j*7,none⟩,by simp[h],fun q u hu=>by rw[Addr.add_lit];exact hs q u hu⟩
 have s1:Hid (news.length=(n-j)*7):=hl;have s2:Hid (∀u ∈ news,u.oneCell'=true):=h1;have s3:Hid (∀q,q<news.length->(w.drew.cell? ⟨b,0+i*7+q,none⟩).isSome=true/\w.drew.frozen? ⟨b,0+i*7+q,none⟩=false):=by
  intro q hq;rw[hl] at hq;exact⟨hc _ (by omega),hf _ (by omega)⟩
 obtain⟨W1,hW1⟩:∃W1,W1=w.drew.setCells b (0+i*7) news:=⟨_,rfl⟩;have hcl:∀ty,(Builtin.clear_ #[23] ty #[.slice (some ⟨b,(i+(n-j))*7,none⟩) (n- (i+(n-j))) (cap- (i+(n-j)))]).run Tryz.prog W1= .ok (.tuple #[]) (W1.setCells b ((i+(n-j))*7) zRw):=by
  intro ty;rw[show n- (i+(n-j))=1 by omega]
  refine run_clear_rw W1 ty b _ _ (fun q hq=> ?_) (fun q hq=> ?_)
  ·rw[hW1];exact World.isSome_setCells b _ _ _ _ (hc _ (by omega))
  ·rw[hW1,World.frozen?_setCells]
   exact hf _ (by omega)
 have hW:Hid (W1=w.drew.setCells b (0+i*7) news):=hW1;have X:Aside (W1=w.drew.setCells b (i*7) news):=by rw[hW1,Nat.zero_add];exact rfl
 have hic:i<=cap:=by omega
 have hjc:j<=cap:=by omega
 have hlt:i<j:=by omega
 have heq:¬i=j:=by omega
 have hij:i<=j:=by omega
 have hin:i<=n:=by omega
 clear hW1 hc hf hs h1 hl hj1
 go_enter Tryz.func159,Tryz.ntmps159
 go_wp2_with fail
 go_region_law_o (refine step_append_room rfl (.tmp 22) (.tmp 25) 23 rfl 28 i0 7 under_rw hi0 hz1 b 0 i cap (by simp[Act.eval,Act.put]) A (n-j) (cap-j) news (by simp[Act.eval,Act.put]) s1.out hnews.out s2.out (by omega) s3.out ?_;rw[←hW.out])
 go_wp2
 go_ret
 exact⟨rfl,by rw[X]⟩
theorem setCells_fac2(w:World)(b o:Nat)(ty:TypeId)(cs:Array Value)(news:List Value)(hb:w.heap[b]? =some (.cells cs ty (0,0)))(hfit:o+news.length<=cs.size)(h1:∀v ∈ news,v.oneCell'=true):
  (w.setCells b o news).os=w.os/\(w.setCells b o news).tape=w.tape/\(w.setCells b o news).output=w.output/\w.drawn<=(w.setCells b o news).drawn/\(w.setCells b o news).heap.size=w.heap.size/\(∀k,k≠b->(w.setCells b o news).heap[k]? =w.heap[k]?)/\
   ∃cs',(w.setCells b o news).heap[b]? =some (.cells cs' ty (0,0))/\cs'.size=cs.size/\(∀i,i<o∨o+news.length<=i->cs'[i]? =cs[i]?)/\∀i,i<news.length->cs'[o+i]? =news[i]? :=by
 obtain⟨w',hst,h⟩:=setCells_same Tryz.prog w b o ty cs news hb hfit h1;have hr:=run_storeCells_cells (P:=Tryz.prog) b o news 0 w (fun j hj=>by rw[cell_of_heap hb,Array.getElem?_eq_getElem (show o+0+j<cs.size by omega)];rfl) (fun j hj=>by simp[World.frozen?,hb]) h1
 rw[Nat.add_zero,hst] at hr;simp only[Result.ok.injEq,true_and] at hr;rw[←hr];exact h
def shJ(k r:Nat):Nat:=if r<k then r else r+1
def cutL{α:Type}(L:List α)(k:Nat):List α:=L.take k++L.drop (k+1)
theorem cut_len{α:Type}{L:List α}{k:Nat}(hk:k<L.length):(cutL L k).length=k+(L.length- (k+1)):=by
 unfold cutL;rw[List.length_append,List.length_take,List.length_drop];omega
theorem cut_at{α:Type}[Inhabited α]{L:List α}{k:Nat}(hk:k<L.length)(i:Nat):(cutL L k).getD i default=L.getD (shJ k i) default:=by
 have hl:(L.take k).length=k:=by rw[List.length_take];omega
 unfold cutL shJ;rw[List.getD_eq_getElem?_getD,List.getD_eq_getElem?_getD]
 split
 ·rename_i h;rw[List.getElem?_append_left (by omega),List.getElem?_take_of_lt h]
 ·rename_i h;rw[List.getElem?_append_right (by omega),hl,List.getElem?_drop,show k+1+(i-k)=i+1 by omega]
def k_delRw:Con:=.reff ⟨List Rw×Nat,fun x=>[.osl 0 0 x.1.length,.int .i64 x.2,.int .i64 (x.2+1:Nat)],fun x=>[rwsA x.1],fun x=>.osl 0 0 (cutL x.1 x.2).length,fun x=>[rwsA (cutL x.1 x.2)],fun x=>x.2<x.1.length⟩
theorem rd_osl_in2{E:Env}{w:World}{k off n:Nat}{v:Value}(h:Rd E w (.osl k off n) v):∃a o,v= .slice a n (E.κ k-off)/\E.L k/\off+n<=E.κ k/\(off<E.κ k∨off=0->o=off*(E.z k).1)/\(E.κ k≠0->a=some ⟨E.β k,o,none⟩):=by
 cases h with
 |osl k off n o a h1 h2 h3 h4=>exact⟨a,o,rfl,h1,h2,h3,h4⟩
theorem inv0{E:Env}{w:World}{H:Heap}(hH:HeapOk E w H)(hN:∀b,E.N b->b<w.heap.size):Inv ⟨w,XB E H,E.N,0,E,0⟩ E H w:=⟨hH,hN,fun b hb=>.inl hb,fun k ob b h1 h2=>.inr ⟨k,ob,h1,h2⟩,⟨rfl,rfl,rfl,Nat.le_refl _,fun _ _ _=>rfl,Nat.le_refl _⟩,⟨fun _ h=>h,fun k hk=>absurd hk (Nat.not_lt_zero _),fun _ _=>rfl,fun k v hk=>absurd hk (Nat.not_lt_zero _)⟩⟩
theorem delRw_ok:ConOk Tryz.prog 159 k_delRw:=by
 rintro⟨L,k⟩ (hk:k<L.length);intro E w vs hH hN hr;dsimp only at hH hr ⊢;have hob:getOb [rwsA L] 0=some (.arr true 28 7 L.length (rwRow L)):=rfl;obtain⟨hL,hF,hNb⟩:=hH.live 0 _ hob;obtain⟨e1,e2,e3,e4,_,cs,tyb,e6,e7,e8⟩:=(show ArrOk E w 0 ⟨true,28,7,L.length,rwRow L⟩ from hF)
 dsimp only at e1 e2 e3 e4 e7 e8;have hκ:E.κ 0≠0:=by omega
 have e6:=e6 hκ;have e7l:=e7.le;obtain⟨hsz,hv⟩:=hr;obtain⟨v0,v1,v2,rfl⟩:∃v0 v1 v2,vs= #[v0,v1,v2]:=by
  have h2:vs.size=3:=hsz.symm;exact⟨vs[0],vs[1],vs[2],by apply Array.ext<;>simp[h2];intro i hi _;match i,hi with|0,_=>rfl|1,_=>rfl|2,_=>rfl⟩
 obtain rfl:=rd_int_inv (hv 1 (.int .i64 k) v1 rfl rfl);obtain rfl:=rd_int_inv (hv 2 (.int .i64 (k+1:Nat)) v2 rfl rfl);obtain⟨a,o,rfl,_,_,ho,ha⟩:=rd_osl_in2 (hv 0 (.osl 0 0 L.length) v0 rfl rfl);have ho:o=0:=by have:=ho (.inr rfl);omega
 subst ho;rw[ha hκ,Nat.sub_zero];have hrow:∀i q,i<L.length->q<7->∃t u,(rwRow L i)[q]? =some t/\cs[i*7+q]? =some u/\Rd E w t u/\u.oneCell'=true:=fun i q hi hq=>by
  have h5:(rwRow L i).length=7:=rfl;obtain⟨t,ht⟩:∃t,(rwRow L i)[q]? =some t:=⟨_,List.getElem?_eq_getElem (by omega)⟩
  obtain⟨u,hu,hru⟩:=e8 i q _ hi ht;exact⟨t,u,ht,hu,hru,oneT_ok hru (e4 i _ hi (List.mem_of_getElem? ht))⟩
 have hcell:∀j,j<L.length*7->∃u,cs[j]? =some u/\u.oneCell'=true:=fun j hj=>by
  obtain⟨_,u,_,h2,_,h4⟩:=hrow (j/7) (j % 7) (by omega) (by omega)
  exact⟨u,by rw[show j=j/7*7+j % 7 by omega];exact h2,h4⟩
 have hsz2:L.length*7<=cs.size:=by omega
 have hnl:((cs.toList.drop ((k+1)*7)).take ((L.length- (k+1))*7)).length=(L.length- (k+1))*7:=by
  rw[List.length_take,List.length_drop,Array.length_toList (xs:=cs)];omega
 have hng:∀q,q<(L.length- (k+1))*7->((cs.toList.drop ((k+1)*7)).take ((L.length- (k+1))*7))[q]? =cs[(k+1)*7+q]? :=fun q hq=>by
  rw[List.getElem?_take,if_pos hq,List.getElem?_drop,Array.getElem?_toList]
 have hn1:∀u ∈ (cs.toList.drop ((k+1)*7)).take ((L.length- (k+1))*7),u.oneCell'=true:=fun u hu=>by
  obtain⟨q,hq⟩:=List.getElem?_of_mem hu
  have hlt:q<(L.length- (k+1))*7:=by rw[←hnl];exact(List.getElem?_eq_some_iff.1 hq).1
  rw[hng q hlt] at hq;obtain⟨u',h1,h2⟩:=hcell ((k+1)*7+q) (by omega)
  rw[h1] at hq;simp only[Option.some.injEq] at hq;rw[←hq];exact h2
 generalize hnews:(cs.toList.drop ((k+1)*7)).take ((L.length- (k+1))*7)=news at hnl hng hn1;have hb:∀j,w.cell? ⟨E.β 0,j,none⟩=cs[j]? :=fun j=>cell_of_heap e6
 have hs:∀q u,news[q]? =some u->w.cell? ⟨E.β 0,(k+1)*7+q,none⟩=some u:=fun q u hq=>by
  have hlt:q<(L.length- (k+1))*7:=by rw[←hnl];exact(List.getElem?_eq_some_iff.1 hq).1
  rw[hb,←hng q hlt];exact hq
 have hc:∀q,q<L.length*7->(w.cell? ⟨E.β 0,q,none⟩).isSome=true:=fun q hq=>by
  obtain⟨u,h1,_⟩:=hcell q hq;rw[hb,h1];rfl
 have hf:∀q,q<L.length*7->w.frozen? ⟨E.β 0,q,none⟩=false:=fun q _=>by simp[World.frozen?,e6]
 refine(del_walk2 (E.β 0) (E.κ 0) L.length k (k+1) news w rfl hk e2 hnl hn1 hs hc hf).mono ?_
 rintro e w' ⟨rfl,hw'⟩;have hd6:w.drew.heap[E.β 0]? =some (.cells cs tyb (0,0)):=e6;obtain⟨a1,a2,a3,a0,a4,a5,cs1,a6,a7,a8,a9⟩:=setCells_fac2 w.drew (E.β 0) (k*7) tyb cs news hd6 (by rw[hnl];omega) hn1
 generalize w.drew.setCells (E.β 0) (k*7) news=w1 at hw' a1 a2 a3 a0 a4 a5 a6;obtain⟨b1,b2,b3,b0,b4,b5,cs2,b6,b7,b8,_⟩:=setCells_fac2 w1 (E.β 0) ((k+(L.length- (k+1)))*7) tyb cs1 zRw a6 (by rw[a7];show _+7<=_;omega) zRw_one
 rw[←hw'] at b1 b2 b3 b0 b4 b5 b6;have hdw:w.drawn<=w'.drawn:=by first|exact Nat.le_trans (Nat.le_trans (Nat.le_succ _) a0) b0|exact Nat.le_trans (Nat.le_trans (Nat.le_trans (Nat.le_succ _) a0) (Nat.le_succ _)) b0
 have hlen:(cutL L k).length=k+(L.length- (k+1)):=cut_len hk;have hz2:zRw.length=7:=rfl;have hnew:∀r q,r<(cutL L k).length->q<7->cs2[r*7+q]? =cs[shJ k r*7+q]? :=fun r q hr hq=>by
  rw[b8 _ (.inl (by omega))]
  unfold shJ;by_cases h:r<k
  ·rw[if_pos h,a8 _ (.inl (by omega))]
  ·rw[if_neg h];have:=a9 ((r-k)*7+q) (by rw[hnl];omega)
   rw[show k*7+((r-k)*7+q)=r*7+q by omega] at this
   rw[this,hng _ (by omega)]
   congr 1
   omega
 have hsh:∀r,r<(cutL L k).length->shJ k r<L.length:=fun r hr=>by unfold shJ;split<;>omega
 have hrw:∀r,rwRow (cutL L k) r=rwRow L (shJ k r):=fun r=>by unfold rwRow;rw[cut_at hk]
 obtain⟨hI,hst⟩:=(inv0 hH hN).write (w':=w') hob rfl (b1.trans a1) (b2.trans a2) (b3.trans a3) (Nat.le_of_eq (b4.trans a4).symm) (fun b _ hne=>(b5 b hne).trans (a5 b hne)) hκ (.arr true 28 7 (cutL L k).length (rwRow (cutL L k))) cs2 tyb b6 e1.symm (by
   rw[e1];refine e7.keep (b7.trans a7) fun q hq=> ?_
   rw[b8 q (.inr (by rw[hz2];omega)),a8 q (.inr (by rw[hnl];omega))]) (show(cutL L k).length<=E.κ 0 by omega) (fun i _=>rfl) (fun i t _ ht=>(is_one (ts_is _ t ht)).1) (fun _ i t _ ht=>(is_one (ts_is _ t ht)).2) (fun i j t hi hj=>by
   have hi:i<(cutL L k).length:=hi;have hj:(rwRow (cutL L k) i)[j]? =some t:=hj;have hq5:j<7:=(List.getElem?_eq_some_iff.1 hj).1
   rw[hrw i] at hj;obtain⟨t',u,h1,h2,h3,_⟩:=hrow (shJ k i) j (hsh i hi) hq5;rw[hj] at h1;simp only[Option.some.injEq] at h1;subst h1;exact⟨u,by show cs2[i*7+j]? =_;rw[hnew i j hi hq5];exact h2,h3⟩)
 refine⟨_,_,rfl,hI,hst.stp,?_⟩
 rw[hlen];have:=Rd.osl (E:=E) (w:=w') 0 0 (k+(L.length- (k+1))) 0 (some ⟨E.β 0,0,none⟩) hL (show 0+_<=E.κ 0 by omega) (fun _=>by simp) (fun _=>rfl)
 rw[Nat.sub_zero] at this;exact this
end Go.Proofs.YtfmngblmdghccaaGreat

