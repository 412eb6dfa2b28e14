/- A calculus of symbolic states: the operations that leave memory alone do what is said of them, 4. -/
import Derived.Test.YtghgljelnhfihaaGreatSS5
import Derived.MapKept
import Derived.DeepKeys3
namespace Go.SS
open Go.RowKit
section
variable {E:Env} {w:World} {P:Program}

theorem b3S{t:TypeId}{x i:T}{v iv:Value}{y:T}{side:Option Prop}(h:bY P t x i=some (y,side))(hs:side.getD True)(hx:Rd E w x v)(hi:Rd E w i iv):
  ∃r,(Instr.index t v iv).run P w= .ok r w/\Rd E w y r:=by
 unfold bY at h;split at h
 ·rename_i l ki i hu;simp only[W8,T5] at h;obtain⟨rfl,rfl⟩:=h;have hb:0<=i/\i<l.length:=hs;rw[xN hx,K5 hi];have hlt:i.toNat<l.length:=by omega
  have hg:(ByteArray.mk l.toArray)[i.toNat]? =some (l.getD i.toNat 0):=by
   have:(ByteArray.mk l.toArray)[i.toNat]? =some ((ByteArray.mk l.toArray)[i.toNat]'(by simpa[ByteArray.size] using hlt)):=getElem?_pos _ _ _
   rw[this];congr 1
   simp only[List.getD,K7 hlt,Option.getD_some]
   rfl
  simp only[Instr.index,asIntOf,H4,D5,I1,run_underlying hu];rw[if_pos hb.1,hg];exact⟨_,rfl,.int _ _⟩
 ·rename_i n e cs ki i hu;split at h
  ·rename_i x0 hc hx0;simp only[W8,T5] at h;obtain⟨rfl,rfl⟩:=h;have hb:0<=i/\i<n:=hs;rw[K5 hi];cases hx with
   |agg _ vs hl ht=>
    simp only[Instr.index,asIntOf,H4,D5,I1,run_underlying hu];rw[if_pos hb];simp only[H4,(N8 (w:=w) hc).1,I1,Nat.mul_one];exact mL hx0 hl ht
  ·cases h
 ·cases h

theorem a3i{x:T}{v:Value}{i:Nat}{y:T}(h:tV x i=some y)(hx:Rd E w x v):
  ∃r,(Instr.extract v i).run P w= .ok r w/\Rd E w y r:=by
 unfold tV at h;split at h
 ·rename_i cs;cases hx with
  |tup _ vs hl ht=>
   have hlt:i<cs.length:=by
    rcases Nat.lt_or_ge i cs.length with h'|h'
    ·exact h'
    ·rw[List.getElem?_eq_none h'] at h;cases h
   have hv:vs[i]? =some (vs[i]'(by omega)):=rL _
   simp only[Instr.extract,hv,D5];exact⟨_,rfl,ht _ _ _ h hv⟩
 ·cases h

theorem nR{P:Program}{w:World}(b off:Nat)(l:List UInt8)(cap:Nat)(h:∀i x,l[i]? =some x->w.cell? ⟨b,off+i,none⟩=some (.int .u8 (x.toNat:Int))):
  (Conv.bytesToString (.slice (some ⟨b,off,none⟩) l.length cap)).run P w= .ok (.string ⟨l.toArray⟩) w:=by
 have hl:(loadCells ⟨b,off,none⟩ l.length).run P w= .ok ((l.map λx=>(x.toNat:Int)).map (Value.int .u8)).toArray w:=by
  have:=run_loadCells_list (P:=P) w ⟨b,off,none⟩ ((l.map λx=>(x.toNat:Int)).map (Value.int .u8)) (λj v hj=>by
   simp only[List.map_map,pN,I3,Function.comp] at hj
   obtain⟨x,hx,rfl⟩:=hj;rw[Addr.add_lit];exact h j x hx)
  simpa using this
 rw[run_bytesToString w ⟨b,off,none⟩ l.length cap _ hl];congr 2
 rw[foldl_push_bytes];apply ByteArray.ext
 simp only[ByteArray.empty,ByteArray.emptyWithCapacity,List.map_map];have:(List.map ((λn:Int=>UInt8.ofNat n.toNat)∘λx:UInt8=>(x.toNat:Int)) l)=l:=by
  conv=>rhs;rw[←List.map_id l]
  apply List.map_congr_left
  intro x _;simp
 rw[this];simp
 try rfl

theorem a4Y{H:Y1}{k:Nat}{ob:Ob}(h:Z0 H k=some ob)(hi:ob.isArr=true:=by rfl):getA H k=some ob.toArr:=by
 unfold getA;rw[h];cases ob<;>first|(cases hi;done)|rfl

theorem b38{H:Y1}(hH:HeapOk E w H){src dst:TypeId}{x:T}{v:Value}{y:T}{side:Option Prop}(h:xJ P H src dst x=some (y,side))(hs:side.getD True)(hx:Rd E w x v):
  ∃r,(convert src dst v).run P w= .ok r w/\Rd E w y r:=by
 unfold xJ at h;split at h
 ·rename_i ks kd k n hsr hd;simp only[W8,T5] at h;obtain⟨rfl,rfl⟩:=h;rw[K5 hx];simp only[convert,H4,run_underlying hsr,run_underlying hd,I1,Conv.intToInt,D5];exact⟨_,rfl,.int _ _⟩
 ·rename_i l hsr hd;simp only[W8,T5] at h;obtain⟨rfl,rfl⟩:=h;rw[xN hx];simp only[convert,H4,run_underlying hsr,run_underlying hd,I1,D5];exact⟨_,rfl,.str _⟩
 ·rename_i e l hsr hd;split at h
  ·rename_i he;simp only[W8,T5] at h;obtain⟨rfl,rfl⟩:=h;cases hx with
   |bysNil=>
    rw[run_convert_bytes_string w src dst e _ _ _ hsr he hd];exact⟨_,rfl,.str []⟩
   |bysEmp a=>
    rw[run_convert_bytes_string w src dst e _ _ _ hsr he hd];have hl:(loadCells a 0).run P w= .ok #[] w:=by
     have:=run_loadCells_list (P:=P) w a [] (λj v hj=>by simp at hj)
     simpa using this
    have:=run_bytesToString w a 0 0 [] (by simpa using hl)
    exact⟨_,this,.str []⟩
   |bys _ b off cap hN hc hr=>
    rw[run_convert_bytes_string w src dst e _ _ _ hsr he hd];exact⟨_,nR b off l cap hr,.str l⟩
  ·cases h
 ·rename_i e k off n hsrc hd;split at h
  ·rename_i tyb l he hob;simp only[W8,T5] at h;obtain⟨rfl,rfl⟩:=h;have hs:off+n<=l.length:=hs;obtain⟨hL,⟨hz,hn,hl,hone,hcl,cs,ty,hb,hsz,hc⟩,hN⟩:=hH.live _ _ hob;simp only[Ob.toArr] at hz hn hl hone hcl hsz hc;cases hx with
   |osl _ _ _ o a _ hn' ho ha=>
    rw[run_convert_bytes_string w src dst e _ _ _ hsrc he hd];have hlen:((l.drop off).take n).length=n:=by simp;omega
    by_cases hκ:E.κ k=0
    ·obtain rfl:n=0:=by omega
     rw[hκ,Nat.zero_sub];refine⟨.string ⟨#[]⟩,?_,by rw[List.take_zero];exact .str []⟩
     cases a with
     |none=>rfl
     |some a=>
      have hl:(loadCells a 0).run P w= .ok #[] w:=by
       have:=run_loadCells_list (P:=P) w a [] (λj v hj=>by simp at hj)
       simpa using this
      have:=run_bytesToString w a 0 0 [] (by simpa using hl)
      exact this
    have hb:=hb hκ;rw[ha hκ];have:=nR (P:=P) (w:=w) (E.β k) o ((l.drop off).take n) (E.κ k-off) (λi x hx=>by
     have hi:i<n:=by
      rcases Nat.lt_or_ge i n with h'|h'
      ·exact h'
      ·rw[List.getElem?_eq_none (by omega)] at hx;cases hx
     have hx':l[off+i]? =some x:=by
      rw[List.getElem?_take] at hx
      rw[if_pos hi,List.getElem?_drop] at hx
      exact hx
     have hrow:(I4 l (off+i))[0]? =some (.int .u8 (x.toNat:Int)):=by
      simp[I4,List.getD,hx']
     obtain⟨u,hu,hru⟩:=hc (off+i) 0 _ (by omega) hrow
     have hob:o=off:=by
      have:=ho (.inl (by omega))
      rw[hz,Nat.mul_one] at this;exact this
     rw[R0 hb,hob];rw[K5 hru] at hu;rw[Nat.mul_one,Nat.add_zero] at hu;exact hu)
    rw[hlen] at this;exact⟨_,this,.str _⟩
  ·cases h
 ·cases h

theorem a9z{isSlice:Bool}{len cap:Nat}{lo hi:Option T}{lv hv:Option Value}{a h:Option Int}(ha:xQ lo=some a)(hh:xQ hi=some h)
  (hlo:∀x,lo=some x->∃v,lv=some v/\Rd E w x v) (hhi:∀x,hi=some x->∃v,hv=some v/\Rd E w x v) (hlo':lo=none->lv=none) (hhi':hi=none->hv=none)
  (hc:len<=cap) (hs:(a8j len a h).getD True):
  ∃l m:Nat,(Instr.sliceBounds isSlice len cap lv hv none).run P w= .ok (l,m,cap) w/\l<=m/\m<=len/\l=(a.getD 0).toNat/\m=(h.getD (len:Int)).toNat/\a4B len a h=m-l:=by
 have key:∀(x:T) (v:Value) (i:Int) (y:Nat) (code:BoundsCode),xQ (some x)=some (some i)->Rd E w x v->0<=i->i<=y->(Instr.sliceBound v y code).run P w= .ok i.toNat w:=by
  intro x v i y code hx hr h0 h1;unfold xQ at hx;split at hx
  ·rename_i heq;cases heq
  ·rename_i k j heq;simp only[W8] at heq hx;subst heq;subst hx;rw[K5 hr];simp only[Instr.sliceBound,asIntOf,H4,D5,I1];rw[if_pos ⟨h0,h1⟩];rfl
  ·cases hx
 have kn:∀(o:Option T) (i:Option Int),xQ o=some i->(o=none/\i=none)∨∃x j,o=some x/\i=some j:=by
  intro o i ho;unfold xQ at ho;split at ho
  ·simp only[W8] at ho;exact .inl ⟨rfl,ho.symm⟩
  ·rename_i k j;simp only[W8] at ho;exact .inr ⟨_,j,rfl,ho.symm⟩
  ·cases ho
 rcases kn lo a ha with⟨rfl,rfl⟩|⟨x,i,rfl,rfl⟩<;>rcases kn hi h hh with⟨rfl,rfl⟩|⟨y,j,rfl,rfl⟩
 ·rw[hlo' rfl,hhi' rfl];exact⟨0,len,by simp[Instr.sliceBounds],by omega,by omega,rfl,by simp,by simp[a4B]⟩
 ·obtain⟨v,rfl,hv⟩:=hhi y rfl;rw[hlo' rfl];have hs:0<=j/\j<=len:=hs;have:=λcode=>key y v j cap code hh hv hs.1 (by omega)
  exact⟨0,j.toNat,by simp[Instr.sliceBounds,this],by omega,by omega,rfl,by simp,by simp[a4B]⟩
 ·obtain⟨v,rfl,hv⟩:=hlo x rfl;rw[hhi' rfl];have hs:0<=i/\i<=len:=hs;have:=λcode=>key x v i len code ha hv hs.1 hs.2
  exact⟨i.toNat,len,by simp[Instr.sliceBounds,this],by omega,by omega,by simp,by simp,by simp[a4B]⟩
 ·obtain⟨v,rfl,hv⟩:=hlo x rfl;obtain⟨u,rfl,hu⟩:=hhi y rfl;have hs:0<=i/\i<=j/\j<=len:=hs;have h1:=λcode=>key y u j cap code hh hu (by omega) (by omega)
  have h2:=λcode=>key x v i j.toNat code ha hv hs.1 (by omega)
  exact⟨i.toNat,j.toNat,by simp[Instr.sliceBounds,h1,h2],by omega,by omega,by simp,by simp,by simp[a4B]⟩

theorem mE(l:List UInt8)(a h:Option Int)(i m:Nat)(ha:i=(a.getD 0).toNat)(hm:m=(h.getD (l.length:Int)).toNat):c9 l a h=(l.take m).drop i:=by
 subst ha;subst hm;unfold c9;split<;>simp

theorem a8P(row:Nat->List T)(a:Option Int):a3E row a=λi=>row ((a.getD 0).toNat+i):=by
 unfold a3E;split<;>simp

theorem b6E(off:Nat)(a:Option Int):b9i off a=off+(a.getD 0).toNat:=by
 unfold b9i;split<;>simp

theorem b0W{H:Y1}(hH:HeapOk E w H){t:TypeId}{x:T}{v:Value}{lo hi:Option T}{lv hv:Option Value}{y:T}{side:Option Prop}(h:vX P H t x lo hi=some (y,side))(hs:side.getD True)(hx:Rd E w x v)
  (hlo:∀x,lo=some x->∃v,lv=some v/\Rd E w x v) (hhi:∀x,hi=some x->∃v,hv=some v/\Rd E w x v) (hlo':lo=none->lv=none) (hhi':hi=none->hv=none):
  ∃r,(Instr.sliceAt t v lv hv none).run P w= .ok r w/\Rd E w y r:=by
 unfold vX at h;split at h
 ·rename_i a hb ha hh;have bnd:=λ(isSlice:Bool) (len cap:Nat) (hc:len<=cap) (hs:(a8j len a hb).getD True)=>a9z (P:=P) (E:=E) (w:=w) (isSlice:=isSlice) ha hh hlo hhi hlo' hhi' hc hs
  split at h
  ·rename_i l hu;simp only[W8,T5] at h;obtain⟨rfl,rfl⟩:=h;rw[xN hx];obtain⟨i,m,hr,him,hml,hi,hm,_⟩:=bnd false l.length l.length (W4 _) hs;have hr':(Instr.sliceBounds false (ByteArray.mk l.toArray).size (ByteArray.mk l.toArray).size lv hv none).run P w= .ok (i,m,l.length) w:=by
    simpa[ByteArray.size] using hr
   simp only[Instr.sliceAt,Instr.slice,H4,run_underlying hu,I1,Option.isSome_none,Bool.false_eq_true,if_false,D5,hr'];refine⟨_,rfl,?_⟩
   have:(ByteArray.mk l.toArray).extract i m=⟨(c9 l a hb).toArray⟩:=by
    apply ByteArray.ext
    apply Array.ext'
    rw[Lib.extract_data,mE l a hb i m hi hm,List.drop_take]
   rw[this];exact .str _
  ·rename_i e l hu;split at h
   ·rename_i hc;simp only[W8,T5] at h;obtain⟨rfl,rfl⟩:=h;cases hx with
    |bysNil=>
     obtain⟨i,m,hr,him,hml,hi,hm,_⟩:=bnd true 0 0 (W4 _) hs;simp only[Instr.sliceAt,Instr.slice,H4,run_underlying hu,I1,hr,(N8 (w:=w) hc).1,D5];refine⟨_,rfl,?_⟩
     rw[mE [] a hb i m hi hm];have h1:m=0:=by simpa using hml
     have h2:i=0:=by omega
     subst h1;subst h2;simp only[List.take_nil,List.drop_nil,j_h,if_pos];exact .bysNil
    |bysEmp a0=>
     obtain⟨i,m,hr,him,hml,hi,hm,_⟩:=bnd true 0 0 (W4 _) hs;simp only[Instr.sliceAt,Instr.slice,H4,run_underlying hu,I1,hr,(N8 (w:=w) hc).1,D5];refine⟨_,rfl,?_⟩
     rw[mE [] a hb i m hi hm];have h1:m=0:=by simpa using hml
     have h2:i=0:=by omega
     subst h1;subst h2;simp only[List.take_nil,List.drop_nil,j_h,if_pos];exact .bysEmp _
    |bys _ b off cap hN hcap hcell=>
     obtain⟨i,m,hr,him,hml,hi,hm,_⟩:=bnd true l.length cap hcap hs;simp only[Instr.sliceAt,Instr.slice,H4,run_underlying hu,I1,hr,(N8 (w:=w) hc).1,D5];refine⟨_,rfl,?_⟩
     rw[mE l a hb i m hi hm];have hlen:((l.take m).drop i).length=m-i:=by simp;omega
     rw[←hlen];split
     ·rename_i he;exact .bys _ b off _ hN (by omega) (λj x hj=>by
       have:j<((l.take m).drop i).length:=(z5.1 hj).1
       omega)
     ·simp only[j8,Addr.add_lit,Nat.mul_one];exact .bys _ b (off+i) _ hN (by omega) (λj x hj=>by
       rw[List.getElem?_drop,List.getElem?_take] at hj
       split at hj
       ·rw[show off+i+j=off+(i+j) by omega];exact hcell _ _ hj
       ·cases hj)
   ·cases h
  ·rename_i e sz n row hu;split at h
   ·rename_i hc;simp only[W8,T5] at h;obtain⟨rfl,rfl⟩:=h;cases hx with
    |slNil=>
     obtain⟨i,m,hr,him,hml,hi,hm,hcut⟩:=bnd true 0 0 (W4 _) hs;simp only[Instr.sliceAt,Instr.slice,H4,run_underlying hu,I1,hr,(N8 (w:=w) hc).1,D5];refine⟨_,rfl,?_⟩
     have h1:m=0:=by omega
     have h2:i=0:=by omega
     rw[hcut,h1,h2];simp only[j_h,if_pos];exact .slNil _ _
    |slEmp _ _ a0=>
     obtain⟨i,m,hr,him,hml,hi,hm,hcut⟩:=bnd true 0 0 (W4 _) hs;simp only[Instr.sliceAt,Instr.slice,H4,run_underlying hu,I1,hr,(N8 (w:=w) hc).1,D5];refine⟨_,rfl,?_⟩
     have h1:m=0:=by omega
     have h2:i=0:=by omega
     rw[hcut,h1,h2];simp only[j_h,if_pos];exact .slEmp _ _ _
    |sl _ _ _ b off cap u hN hcap hl h1 hcell hct=>
     obtain⟨i,m,hr,him,hml,hi,hm,hcut⟩:=bnd true n cap hcap hs;simp only[Instr.sliceAt,Instr.slice,H4,run_underlying hu,I1,hr,(N8 (w:=w) hc).1,D5];refine⟨_,rfl,?_⟩
     rw[hcut,a8P,←hi];split
     ·rename_i he;exact .sl _ _ _ b off _ u hN (by omega) (λj hj=>by omega) (λj _ hj=>by omega) (λj _ _ hj=>by omega) (λj _ _ hj=>by omega)
     ·simp only[j8,Addr.add_lit];refine .sl _ _ _ b (off+i*sz) _ (λj=>u (i+j)) hN (by omega) (λj hj=>hl _ (by omega)) (λj t hj=>h1 _ _ (by omega)) (λj c t hj ht=> ?_) (λj c t hj ht=>hct _ _ _ (by omega) ht)
      rw[show off+i*sz+j*sz+c=off+(i+j)*sz+c by rw[Nat.add_mul];omega]
      exact hcell _ _ _ (by omega) ht
   ·cases h
  ·rename_i e k off n hu;split at h
   ·rename_i A hA;split at h
    ·rename_i hc;simp only[W8,T5] at h;obtain⟨rfl,rfl⟩:=h;obtain⟨hL,⟨hz,_⟩,_⟩:=hH.arr hA;cases hx with
     |osl _ _ _ o a0 _ hn ho ha0=>
      obtain⟨i,m,hr,him,hml,hi,hm,hcut⟩:=bnd true n (E.κ k-off) (by omega) hs
      simp only[Instr.sliceAt,Instr.slice,H4,run_underlying hu,I1,hr,(N8 (w:=w) hc).1,D5];refine⟨_,rfl,?_⟩
      rw[hcut,b6E,←hi];rw[show E.κ k-off-i=E.κ k- (off+i) by omega]
      split
      ·rename_i he;exact .osl k (off+i) (m-i) o a0 hL (by omega) (λh=>by
        rcases h with h|h
        ·omega
        ·rw[h,ho (.inr (by omega)),show off=0 by omega]) ha0
      ·rw[ha0 (by omega)]
       simp only[j8,Addr.add_lit];refine .osl k (off+i) (m-i) _ _ hL (by omega) (λh=> ?_) (λ_=>rfl)
       rw[ho (by omega),hz,Nat.add_mul]
    ·cases h
   ·cases h
  ·cases h
 ·cases h

theorem c0s{op:UnOp}{x:T}{v:Value}{y:T}{side:Option Prop}(h:b81 op x=some (y,side))(hs:side.getD True)(hx:Rd E w x v):
  ∃r,(Op.unary op v).run P w= .ok r w/\Rd E w y r:=by
 unfold b81 at h;split at h
 ·simp only[W8,T5] at h;obtain⟨rfl,rfl⟩:=h;rw[z9 hx];exact⟨_,rfl,.bool _⟩
 ·rename_i k n;simp only[W8,T5] at h;obtain⟨rfl,rfl⟩:=h;rw[K5 hx];have hs:W7 k (0-n):=hs;simp only[Op.unary,Op.intArith,lS hs];exact⟨_,rfl,.int _ _⟩
 ·cases h

theorem b8u{x:T}{v:Value}{n:Int}{t ty:TypeId}(h:a6d P t x=some n)(hx:Rd E w x v):
  (Builtin.len_ #[t] ty #[v]).run P w= .ok (.int .i64 n) w:=by
 have hsl:∀(e:TypeId) (a:Option Addr) (m c:Nat),P.underlying t=some (.slice e)->(Builtin.len_ #[t] ty #[.slice a m c]).run P w= .ok (.int .i64 m) w:=by
  intro e a m c hu;simp[Builtin.len_,run_underlying hu,goInt]
 unfold a6d at h;split at h
 ·rename_i l hu;simp only[W8] at h;subst h;rw[xN hx];simp[Builtin.len_,run_underlying hu,goInt];rfl
 ·rename_i e l hu;simp only[W8] at h;subst h;cases hx with
  |bysNil=>exact hsl e _ 0 _ hu
  |bysEmp=>exact hsl e _ 0 _ hu
  |bys=>exact hsl e _ _ _ hu
 ·rename_i e sz n row hu;simp only[W8] at h;subst h;cases hx with
  |slNil=>exact hsl e _ 0 _ hu
  |slEmp=>exact hsl e _ 0 _ hu
  |sl=>exact hsl e _ _ _ hu
 ·rename_i e k off n hu;simp only[W8] at h;subst h;cases hx with
  |osl=>exact hsl e _ _ _ hu
 ·rename_i e k v i j n hu;simp only[W8] at h;subst h;cases hx with
  |posl=>exact hsl e _ _ _ hu
 ·rename_i e n c hu;simp only[W8] at h;subst h;rw[wC hx];exact hsl e _ _ _ hu
 ·rename_i e hu;simp only[W8] at h;subst h;cases hx with
  |emp=>exact hsl e _ 0 _ hu
 ·cases h

theorem cU{k i j:Nat}{x:Value}(h:Rd E w (.ref k i j) x):x= .pointer (some ⟨E.β k,i*(E.z k).1+j,none⟩):=by cases h;rfl
theorem a6F{cs:List T}{x:Value}(h:Rd E w (.bref cs) x):∃ad,x= .pointer (some ad):=by cases h;exact⟨_,rfl⟩

def vB(E:Env)(w:World)(cs:List T)(vs:Array Value):Prop:=cs.length=vs.size/\∀(i:Nat) (t:T) (x:Value),cs[i]? =some t->vs[i]? =some x->Rd E w t x

theorem zS{x:T}{v:Value}(hx:Rd E w x v)(hp:pQ x=true):vB E w (V0 x) v.cells:=by
 have one:∀{x:T} {v:Value},Rd E w x v->V0 x=[x]->v.cells= #[v]->vB E w (V0 x) v.cells:=by
  intro x v hx h1 h2;rw[h1,h2];refine⟨rfl,λi t y ht hy=> ?_⟩
  cases i with
  |zero=>simp at ht hy;subst ht;subst hy;exact hx
  |succ i=>simp at ht
 cases hx with
 |agg cs vs hl ht=>exact⟨hl,ht⟩
 |tup=>simp[pQ,J7] at hp
 |und=>simp[pQ,J7] at hp
 |v=>
  cases v<;>first|exact one (.v _) rfl rfl|(simp[pQ,J7] at hp)
 |int=>exact one (.int _ _) rfl rfl
 |bool=>exact one (.bool _) rfl rfl
 |str=>exact one (.str _) rfl rfl
 |slNil=>exact one (.slNil _ _) rfl rfl
 |slEmp sz row a=>exact one (.slEmp sz row a) rfl rfl
 |emp a=>exact one (.emp a) rfl rfl
 |bysEmp a=>exact one (.bysEmp a) rfl rfl
 |sl sz n row b off cap u hN hc hl h1 hr ht=>exact one (.sl sz n row b off cap u hN hc hl h1 hr ht) rfl rfl
 |bysNil=>exact one .bysNil rfl rfl
 |bys l b off cap hN hc hr=>exact one (.bys l b off cap hN hc hr) rfl rfl
 |bref cells b off u hN h1 hr ht=>exact one (.bref cells b off u hN h1 hr ht) rfl rfl
 |ref k i j hL=>exact one (.ref k i j hL) rfl rfl
 |osl k off n o a hL hn ho ha=>exact one (.osl k off n o a hL hn ho ha) rfl rfl
 |posl k v i j n a hL hn ha=>exact one (.posl k v i j n a hL hn ha) rfl rfl
 |pref k v i j z a b hL=>exact one (.pref k v i j z a b hL) rfl rfl
 |fn f cs vs hl ht=>exact one (.fn f cs vs hl ht) rfl rfl
 |mpr k hL=>exact one (.mpr k hL) rfl rfl

theorem a8w(m:List Value):∀(j off:Nat) (cells:Array Value),off+j+m.length<=cells.size->
  ((m.zipIdx j).foldl (λcs (p:Value×Nat)=>cs.setIfInBounds (off+p.2) p.1) cells).toList=cells.toList.take (off+j)++m++cells.toList.drop (off+j+m.length):=by
 induction m with
 |nil=>intro j off cells h;simp
 |cons x m ih=>
  intro j off cells h;simp only[List.length_cons] at h;simp only[List.zipIdx_cons,List.foldl_cons];rw[ih (j+1) off _ (by simp;omega)]
  simp only[Array.toList_setIfInBounds,List.length_cons];apply List.ext_getElem?
  intro i;simp only[List.getElem?_append,K6,List.length_take,B1,Array.length_toList,List.getElem?_take,List.getElem?_set,List.getElem?_drop,List.length_cons]
  rw[Nat.min_eq_left (by omega),Nat.min_eq_left (by omega)]
  by_cases h1:i<off+j
  ·simp[h1,show i<off+(j+1) by omega,show i<off+(j+1)+m.length by omega,show i<off+j+(m.length+1) by omega,show ¬off+j=i by omega]
  ·by_cases h2:i=off+j
   ·subst h2;simp[show off+j<off+(j+1) by omega,show off+j<off+(j+1)+m.length by omega,show off+j<cells.size by omega]
   ·by_cases h3:i<off+j+1+m.length
    ·rw[if_pos (by omega),if_neg (by omega),if_pos (by omega),if_neg (by omega)]
     rw[show i- (off+j)=(i- (off+(j+1)))+1 by omega]
     simp
    ·rw[if_neg (by omega),if_neg (by omega)]
     rw[if_neg (by omega)]
     congr 1
     omega

theorem mU{place:Nat->Option (Nat×Nat)}:∀(parts:List (Nat×T)) (pv:List (Nat×Value)) (cs out:List T) (vs:Array Value),
  k5 place cs parts=some out->vB E w cs vs->parts.length=pv.length->(∀(i:Nat) (p:Nat×T) (q:Nat×Value),parts[i]? =some p->pv[i]? =some q->p.1=q.1/\Rd E w p.2 q.2)->
  ∃us,Instr.fill place vs pv=some us/\vB E w out us:=by
 intro parts;induction parts with
 |nil=>
  intro pv cs out vs h hr hl hp;simp only[k5,W8] at h;subst h;cases pv with
  |nil=>exact⟨vs,rfl,hr⟩
  |cons q pv=>simp at hl
 |cons p parts ih=>
  intro pv cs out vs h hr hl hp;cases pv with
  |nil=>simp at hl
  |cons q pv=>
   obtain⟨i,x⟩:=p;obtain⟨i',v⟩:=q;obtain⟨rfl,hx⟩:=hp 0 _ _ rfl rfl;simp only at hx;simp only[k5] at h;split at h
   ·rename_i off size hpl hpb;split at h
    ·rename_i h1 h2;have h1':=G3 h1;have h2':=v6 h2;obtain⟨hcl,hct⟩:=zS hx hpb;obtain⟨hrl,hrt⟩:=hr;have hfold:(v.cells.zipIdx.foldl (λcs (c,j)=>cs.setIfInBounds (off+j) c) vs).toList=vs.toList.take off++v.cells.toList++vs.toList.drop (off+v.cells.size):=by
      have:=a8w v.cells.toList 0 off vs (by simp;omega)
      simp only[Nat.add_zero,Array.length_toList] at this;rw[←this,←Array.foldl_toList,Array.toList_zipIdx]
     have hnew:vB E w (cs.take off++V0 x++cs.drop (off+(V0 x).length)) (v.cells.zipIdx.foldl (λcs (c,j)=>cs.setIfInBounds (off+j) c) vs):=by
      refine⟨?_,λk t y ht hy=> ?_⟩
      ·rw[←Array.length_toList,hfold];simp;omega
      ·rw[←Array.getElem?_toList,hfold] at hy
       simp only[List.getElem?_append,K6,List.length_take,Array.length_toList,List.getElem?_take,List.getElem?_drop,←hrl,←hcl] at ht hy
       rw[Nat.min_eq_left (by omega)] at ht hy
       by_cases hk1:k<off+(V0 x).length
       ·rw[if_pos hk1] at ht hy;by_cases hk2:k<off
        ·rw[if_pos hk2,if_pos hk2] at ht;rw[if_pos hk2,if_pos hk2] at hy;exact hrt _ _ _ ht (by simpa using hy)
        ·rw[if_neg hk2] at ht hy;exact hct _ _ _ ht (by simpa using hy)
       ·rw[if_neg hk1] at ht hy;exact hrt _ _ _ ht (by simpa using hy)
     obtain⟨us,hus,hout⟩:=ih pv _ out _ h hnew (by simpa using hl) (λj p q hp' hq'=>hp (j+1) p q (by simpa using hp') (by simpa using hq'))
     refine⟨us,?_,hout⟩
     simp only[Instr.fill,hpl];rw[if_neg]
     ·exact hus
     ·simp only[pP,k4];omega
    ·cases h
   ·cases h

theorem d9{t:TypeId}{z:List T}(h:zeroCells P t=some z):∃v,(zeroValue t).run P w= .ok v w/\vB E w z v.cells/\∃i,P.info? t=some i/\i.zero=some v:=by
 unfold zeroCells at h;cases hi:P.info? t with
 |none=>rw[hi] at h;cases h
 |some i=>
  rw[hi] at h;cases hz:i.zero with
  |none=>simp[hz] at h
  |some v=>
   simp only[Option.bind_some,hz,j8,W8] at h;subst h;refine⟨v,by simp[zeroValue,typeInfo,hi,hz],⟨by simp,λi t x ht hx=> ?_⟩,i,rfl,hz⟩
   simp only[pN,Array.getElem?_toList,hx,j8,W8] at ht
   subst ht;exact a2U x

theorem nE:∀(fs:List Field),(∀f ∈ fs,(P.info? f.type).isSome=true)->(fs.mapM λf=>(do pure (f.offset,←sizeOf f.type):Sem (Nat×Nat))).run P w= .ok (fs.map λf=>(f.offset,P.cellsOf f.type)) w:=by
 intro fs;induction fs with
 |nil=>intro _;rfl
 |cons f fs ih=>
  intro h;simp only[List.mapM_cons,H4,F3 f.type (h f (by simp)),I1,D5,ih (λg hg=>h g (by simp[hg])),List.map_cons]

theorem a3Q(fs:Array Field)(h:∀f ∈ fs.toList,(P.info? f.type).isSome=true):(fs.mapM λf=>(do pure (f.offset,←sizeOf f.type):Sem (Nat×Nat))).run P w= .ok (fs.map λf=>(f.offset,P.cellsOf f.type)) w:=by
 rw[Array.mapM_eq_mapM_toList,Sem.run_map,nE fs.toList h];simp only[I1];congr 1
 apply Array.ext'
 simp

theorem dV{place:Nat->Option (Nat×Nat)}{m:Nat}:∀(parts:List (Nat×T)) (n:Nat) (cs:List T),sS place m n parts=some cs->n+cs.length=m:=by
 intro parts;induction parts with
 |nil=>
  intro n cs h;simp only[sS] at h;split at h
  ·rename_i hb;cases h;exact G3 hb
  ·cases h
 |cons p parts ih=>
  intro n cs h;obtain⟨i,x⟩:=p;simp only[sS] at h;split at h
  ·split at h
   ·rename_i h1 h2;cases hr:sS place m (n+_) parts with
    |none=>rw[hr] at h;cases h
    |some cs'=>
     rw[hr] at h;simp only[j8,W8] at h;subst h;have:=ih _ _ hr;have h2:=G3 h2;rw[K6];omega
   ·cases h
  ·cases h
theorem b2H{place:Nat->Option (Nat×Nat)}{m:Nat}:∀(parts:List (Nat×T)) (n:Nat) (cells cs:List T),sS place m n parts=some cs->cells.length=m->k5 place cells parts=some (cells.take n++cs):=by
 intro parts;induction parts with
 |nil=>
  intro n cells cs h hm;have:=dV _ _ _ h;simp only[sS] at h;split at h
  ·cases h;simp only[k5,List.append_nil];rw[List.take_of_length_le (by simp at this;omega)]
  ·cases h
 |cons p parts ih=>
  intro n cells cs h hm;have hl:=dV _ _ _ h;obtain⟨i,x⟩:=p;simp only[sS] at h;simp only[k5];split at h
  ·rename_i off size hpl hpb;split at h
   ·rename_i h1 h2;cases hr:sS place m (n+size) parts with
    |none=>rw[hr] at h;cases h
    |some cs'=>
     rw[hr] at h;simp only[j8,W8] at h;subst h;have e1:=G3 h1;have e2:=G3 h2;subst e1;rw[K6] at hl;have hle:Nat.ble (off+(V0 x).length) cells.length=true:=Nat.ble_eq_true_of_le (by omega)
     simp only[h2,hle];rw[ih (off+size) _ _ hr (by simp;omega)]
     congr 1
     have ht:(cells.take off).length=off:=by rw[List.length_take];omega
     rw[←List.append_assoc];congr 1
     rw[List.append_assoc,List.take_append,ht,List.take_of_length_le (by omega),show off+size-off=(V0 x).length by omega,List.take_left']
     rfl
   ·cases h
  ·cases h
theorem b0l{place:Nat->Option (Nat×Nat)}{z:List T}{parts:List (Nat×T)}:a6S place z parts=k5 place z parts:=by
 unfold a6S;split
 ·rename_i cs h;rw[b2H _ _ _ _ h rfl];rfl
 ·rfl

theorem b0i{a:Act}{s:V5}{t:TypeId}{parts:Array (Nat×Operand)}{y:T}(h:mG P s t parts=some y)(hop:∀p ∈ parts.toList,I0 E w a s p.2):
  ∃r,(Instr.build t (parts.map λ(i,x)=>(i,a.eval x))).run P w= .ok r w/\Rd E w y r:=by
 have hparts:∀(i:Nat) (p:Nat×T) (q:Nat×Value),(parts.toList.map λp=>(p.1,M7 s p.2))[i]? =some p->(parts.map λ(i,x)=>(i,a.eval x)).toList[i]? =some q->p.1=q.1/\Rd E w p.2 q.2:=by
  intro i p q hp hq;simp only[Array.toList_map,pN,I3] at hp hq
  obtain⟨x,hx,rfl⟩:=hp;obtain⟨x',hx',rfl⟩:=hq;rw[hx] at hx';simp only[W8] at hx';subst hx';exact⟨rfl,hop x (B5 hx)⟩
 have hlen:(parts.toList.map λp=>(p.1,M7 s p.2)).length=(parts.map λ(i,x)=>(i,a.eval x)).toList.length:=by simp
 unfold mG at h;simp only[b0l] at h;split at h
 ·rename_i z fs hz hu;obtain⟨v,hv,hrl,_⟩:=d9 (E:=E) (w:=w) hz;split at h
  ·rename_i hall;cases hf:k5 (λi=>(fs.toList[i]?).map λf=>(f.offset,P.cellsOf f.type)) z (parts.toList.map λp=>(p.1,M7 s p.2)) with
   |none=>rw[hf] at h;cases h
   |some out=>
    rw[hf] at h;simp only[j8,W8] at h;subst h;obtain⟨us,hus,hout⟩:=mU _ _ _ _ _ hf hrl hlen hparts;have hall':∀f ∈ fs.toList,(P.info? f.type).isSome=true:=i5.1 hall;have hpl:(λ(i:Nat)=>(fs.toList[i]?).map λf:Field=>(f.offset,P.cellsOf f.type))=λ(i:Nat)=>(fs.map λf:Field=>(f.offset,P.cellsOf f.type))[i]? :=by
     funext i
     simp
    rw[hpl] at hus;simp only[Instr.build,H4,hv,I1,D5,run_underlying hu,a3Q fs hall',hus];exact⟨_,rfl,.agg _ _ hout.1 hout.2⟩
  ·cases h
 ·rename_i z n e hz hu;obtain⟨v,hv,hrl,_⟩:=d9 (E:=E) (w:=w) hz;split at h
  ·rename_i he;cases hf:k5 (λi=>some (i*P.cellsOf e,P.cellsOf e)) z (parts.toList.map λp=>(p.1,M7 s p.2)) with
   |none=>rw[hf] at h;cases h
   |some out=>
    rw[hf] at h;simp only[j8,W8] at h;subst h;obtain⟨us,hus,hout⟩:=mU _ _ _ _ _ hf hrl hlen hparts;simp only[Instr.build,H4,hv,I1,D5,run_underlying hu,F3 e he,hus];exact⟨_,rfl,.agg _ _ hout.1 hout.2⟩
  ·cases h
 ·cases h

def S1(op:Op):List Operand:=
 match op with
 | .pick c _ _=>[c]
 |op=>op.operands.toList

theorem a6G{t:TypeId}{bo:Bool}(h:a9G P t bo=true):∃kt et,P.underlying t=some (.map kt et)/\P.underlying kt=some (.int .i64)/\(zeroValue et).run P w= .ok (cZ bo 0) w:=by
 unfold a9G at h;split at h
 ·rename_i kt et hu;have hz:∀v,(P.info? et).bind (·.zero)=some v->(zeroValue et).run P w= .ok v w:=by
   intro v hv;cases hi:P.info? et with
   |none=>rw[hi] at hv;cases hv
   |some i=>
    rw[hi] at hv;simp only[Option.bind_some] at hv;simp[zeroValue,typeInfo,hi,hv]
  split at h
  ·rename_i n hk he;have:=C7 h;subst this;exact⟨kt,et,hu,hk,hz _ he⟩
  ·rename_i b hk he;cases b
   ·exact⟨kt,et,hu,hk,hz _ he⟩
   ·cases h
  ·cases h
 ·cases h

theorem qV{n:Int}:∀(l:List MapEntry) (i:Nat),(∀e ∈ l,∃m,e.key= .int .i64 m)->lk n l=none->Instr.findNow (.int .i64) (.int .i64 n) l i=some none:=by
 intro l;induction l with
 |nil=>intro i _ _;rfl
 |cons e l ih=>
  intro i hi h;obtain⟨m,hm⟩:=hi e (by simp)
  simp only[lk,hm] at h;split at h
  ·cases h
  ·rename_i hne;simp only[Instr.findNow,hm,Instr.sameNow,if_true];rw[show(n==m)=false from by simpa using hne]
   exact ih _ (λe he=>hi e (by simp[he])) h

theorem qA{n:Int}{v:Value}:∀(l:List MapEntry) (i:Nat),(∀e ∈ l,∃m,e.key= .int .i64 m)->lk n l=some v->
  ∃j e,l[j]? =some e/\e.key= .int .i64 n/\e.val=v/\Instr.findNow (.int .i64) (.int .i64 n) l i=some (some (i+j,v))/\
   ∀x,(∀e ∈ l.modify j (λe=>{e with key:=.int .i64 n,val:=x}),∃m,e.key= .int .i64 m)/\∀n',lk n' (l.modify j (λe=>{e with key:=.int .i64 n,val:=x}))=if n'=n then some x else lk n' l:=by
 intro l;induction l with
 |nil=>intro i _ h;cases h
 |cons e l ih=>
  intro i hi h;obtain⟨m,hm⟩:=hi e (by simp)
  have hi':∀e ∈ l,∃m,e.key= .int .i64 m:=λe he=>hi e (by simp[he])
  simp only[lk,hm] at h;split at h
  ·rename_i he;subst he;simp only[W8] at h;refine⟨0,e,rfl,hm,h,?_,λx=>⟨λe' he'=> ?_,λn'=> ?_⟩⟩
   ·simp[Instr.findNow,hm,Instr.sameNow,h]
   ·simp only[List.modify_zero_cons,wY] at he';rcases he' with rfl|he'
    ·exact⟨n,rfl⟩
    ·exact hi' e' he'
   ·simp only[List.modify_zero_cons,lk,hm];split
    ·rfl
    ·rfl
  ·rename_i hne;obtain⟨j,e',h1,h2,h3,h4,h5⟩:=ih (i+1) hi' h;refine⟨j+1,e',by simpa using h1,h2,h3,?_,λx=> ?_⟩
   ·simp only[Instr.findNow,hm,Instr.sameNow,if_true];rw[show(n==m)=false from by simpa using hne]
    simp only[h4];congr 3
    omega
   ·obtain⟨g1,g2⟩:=h5 x;refine⟨λe'' he''=> ?_,λn'=> ?_⟩
    ·simp only[List.modify_succ_cons,wY] at he'';rcases he'' with rfl|he''
     ·exact⟨m,hm⟩
     ·exact g1 e'' he''
    ·simp only[List.modify_succ_cons,lk,hm];split
     ·rename_i hnm;subst hnm;rw[if_neg (Ne.symm hne)]
     ·exact g2 n'

theorem a6W(bo:Bool)(n:Int):Rd E w (c1o bo n) (cZ bo n):=by
 cases bo
 ·exact .int _ _
 ·exact .bool _

theorem rF{kt:TypeId}(hku:P.underlying kt=some (.int .i64))(b:Bool)(d:Nat)(n:Int):(Instr.checkKey b (d+1) kt (.int .i64 n)).run P w= .ok () w:=by
 unfold Instr.checkKey;simp only[H4,run_underlying hku,I1,D5]

theorem a6J{n:Int}(h:W7 .i64 n):(Lit.int .i64 n).wf=true:=by
 unfold W7 at h;unfold Lit.wf
 simpa using h
theorem rB{P:Program}{kt:TypeId}(h:a1R P kt=true)(hk:P.keyType kt=true){a b:Int}(ha:W7 .i64 a)(hb:W7 .i64 b):∃l,keyOf P kt (x8 a b)=some l:=by
 unfold a1R at h;split at h
 ·rename_i fs hu;split at h
  ·rename_i f0 f1 hfs;simp only[L3] at h;obtain⟨⟨⟨⟨⟨⟨⟨n0,n1⟩,o0⟩,o1⟩,t0⟩,t1⟩,c2⟩,sz⟩:=h;have hsz:∃m,P.types.size=m+1:=by
    cases hs:P.types.size with
    |zero=>rw[hs] at sz;simp at sz
    |succ m=>exact⟨m,rfl⟩
   obtain⟨m,hm⟩:=hsz;have i64:∀{t:TypeId},b4w P t=true->P.underlying t=some (.int .i64)/\P.cellsOf t=1:=by
    intro t ht;unfold b4w at ht;split at ht
    ·rename_i hh;exact⟨hh,G3 ht⟩
    ·cases ht
   obtain⟨u0,z0⟩:=i64 t0;obtain⟨u1,z1⟩:=i64 t1;have o0:=G3 o0;have o1:=G3 o1;have c2:=G3 c2;unfold keyOf;simp only[hu];rw[if_pos (by simp[hk,x8,Value.formed,hu,c2]),hm]
   unfold Program.keyLits;simp only[hu,x8,Value.cells];rw[if_pos ⟨by rw[c2];rfl,by rw[←Array.all_toList,hfs];simp[n0,n1]⟩,hfs]
   simp[o0,o1,z0,z1,Program.keyLits,u0,u1,a6J ha,a6J hb]
  ·cases h
 ·cases h

theorem a56{P:Program}{w:World}{t:TypeId}(h:a1d P t=true):∃kt et,P.underlying t=some (.map kt et)/\WideMaps.KeyLaw P kt/\a1R P kt=true/\P.keyType kt=true/\(zeroValue et).run P w= .ok (.bool false) w:=by
 unfold a1d at h;split at h
 ·rename_i kt et hu;split at h
  ·rename_i b hz;simp only[L3,xP] at h;obtain⟨⟨⟨⟨rfl,h2⟩,h3⟩,h4⟩,h5⟩:=h;have hw:(match P.underlying kt with|some (.array _ _)|some (.struct _)=>true|_=>false)=true:=by
    have h6:=h5;unfold a1R at h6;split at h6
    ·rename_i hh;rw[hh]
    ·cases h6
   refine⟨kt,et,hu,Go.deep_law (m:=2) (by omega) h2 h3 hw,h5,h4,?_⟩
   cases hi:P.info? et with
   |none=>rw[hi] at hz;cases hz
   |some i=>
    rw[hi] at hz;simp only[Option.bind_some] at hz;simp[zeroValue,typeInfo,hi,hz]
  ·cases h
 ·cases h

theorem b33{H:Y1}(hH:HeapOk E w H){t:TypeId}{m k:T}{mv kv:Value}{y:T}{side:Option Prop}(h:pC P H t m k=some (y,side))(hs:side.getD True)(hm:Rd E w m mv)(hk:Rd E w k kv):
  ∃r,(Instr.lookup t mv kv false).run P w= .ok r w/\Rd E w y r:=by
 unfold pC at h;split at h
 ·rename_i j n;split at h
  ·rename_i bo get hob;split at h
   ·rename_i hb;simp only[W8,T5] at h;obtain⟨rfl,rfl⟩:=h;rw[K5 hk];obtain⟨kt,et,hu,hku,hz⟩:=a6G (w:=w) hb;obtain⟨hL,⟨_,es,clock,hblk,hi,hg⟩,hN⟩:=hH.live j _ hob;cases hm with
    |mpr _ _=>
     have hck:=rF (w:=w) hku es.isEmpty 9999 n;have hgn:=hg n;cases hl:lk n es.toList with
     |none=>
      rw[hl] at hgn;have hf:=MapKept.run_findKey (w:=w) hku (qV es.toList 0 hi hl);simp only[Instr.lookup,H4,run_underlying hu,I1,MapKept.run_getObj_map hblk,hck,hf,hz,D5,Bool.false_eq_true,if_false];exact⟨_,rfl,by rw[show get n=0 from hgn];exact a6W bo 0⟩
     |some v=>
      rw[hl] at hgn;obtain⟨i,e,_,_,_,hfn,_⟩:=qA es.toList 0 hi hl;have hf:=MapKept.run_findKey (w:=w) hku hfn;simp only[Instr.lookup,H4,run_underlying hu,I1,MapKept.run_getObj_map hblk,hck,hf,D5,Bool.false_eq_true,if_false];exact⟨_,rfl,by rw[show v=_ from hgn];exact a6W bo _⟩
   ·cases h
  ·cases h
 ·rename_i j a b;split at h
  ·rename_i get hob;split at h
   ·rename_i hb;simp only[W8,T5] at h;obtain⟨rfl,rfl⟩:=h;obtain⟨ra,rb⟩:=hs;obtain⟨kt,et,hu,K,hp,hk',hz⟩:=a56 (w:=w) hb;obtain⟨hL,⟨hκ,es,clock,hblk,hent,hex,hnd⟩,hN⟩:=hH.live j _ hob;obtain⟨l,hl⟩:=rB hp hk' ra rb;have hkv:kv=x8 a b:=by
     cases hk with
     |agg _ vs hlen ht=>
      obtain⟨v0,v1,rfl⟩:∃v0 v1,vs= #[v0,v1]:=by
       match vs,hlen with
       |⟨[v0,v1]⟩,_=>exact⟨v0,v1,rfl⟩
      rw[K5 (ht 0 _ v0 rfl rfl),K5 (ht 1 _ v1 rfl rfl)];rfl
    subst hkv;have hall:∀e ∈ es.toList,∃l,keyOf P kt e.key=some l:=λe he=>by
     obtain⟨a',b',r1,r2,hke,_⟩:=hent e he;rw[hke];exact rB hp hk' r1 r2
    cases hm with
    |mpr _ _=>
     rcases K.find w hl es.toList hall with⟨h1,h2⟩|⟨i,e,h1,h2,h3⟩
     ·have hg:get a b=false:=by
       cases hg:get a b with
       |false=>rfl
       |true=>
        obtain⟨e,he,hke⟩:=hex a b hg;exact absurd hke (h2 e he)
      exact⟨.bool false,by simp[Instr.lookup,run_underlying hu,MapKept.run_getObj_map hblk,K.check w _ hl,h1,hz,Result.andThen],by rw[hg];exact .bool false⟩
     ·obtain⟨a',b',_,_,hk1,hv⟩:=hent e (B5 h2);have he:x8 a' b'=x8 a b:=hk1.symm.trans h3;simp only[x8,Value.agg.injEq] at he;have h4:a'=a/\b'=b:=by simpa using he
      obtain⟨rfl,rfl⟩:=h4;exact⟨.bool (get a' b'),by simp[Instr.lookup,run_underlying hu,MapKept.run_getObj_map hblk,K.check w _ hl,h1,hv,Result.andThen],.bool _⟩
   ·cases h
  ·cases h
 ·cases h

theorem b8g{a:Act}{s:V5}{H:Y1}{o:Oper}{t:T}{side:Option Prop}(h:N7 P s H o.op=some (t,side))(hs:side.getD True)(hH:HeapOk E w H)
  (hop:∀x ∈ S1 o.op,I0 E w a s x)
  (hpk:∀c x y,o.op= .pick c x y->(∀b,M7 s c= .bool b->b=true->I0 E w a s x)/\(∀b,M7 s c= .bool b->b=false->I0 E w a s y)):
  ∃v,(execOp a.eval o).run P w= .ok (.value v) w/\Rd E w t v:=by
 have lift:∀{m:Sem Value} {v:Value},m.run P w= .ok v w->(do pure (Next.value (←m)):Sem Next).run P w= .ok (.value v) w:=by
  intro m v hm;simp only[H4,hm,I1,D5]
 obtain⟨dst,op,ty,pos,after,guard⟩:=o;simp only at h hop hpk ⊢;unfold N7 at h;split at h
 case h_1 x=>
  simp only[W8,T5] at h;obtain⟨rfl,rfl⟩:=h;exact⟨a.eval x,rfl,hop x (by simp[S1,Op.operands])⟩
 case h_2 x=>
  simp only[W8,T5] at h;obtain⟨rfl,rfl⟩:=h;exact⟨a.eval x,rfl,hop x (by simp[S1,Op.operands])⟩
 case h_3 c x y=>
  cases hp:a0k s c x y with
  |none=>rw[hp] at h;cases h
  |some z=>
   rw[hp] at h;simp only[j8,W8,T5] at h;obtain⟨rfl,rfl⟩:=h;obtain⟨h1,h2⟩:=hpk c x y rfl;obtain⟨b,hb,hr⟩:=mH hp (hop c (by simp[S1])) h1 h2
   refine⟨_,?_,hr⟩
   simp only[execOp,hb,asBool,H4,D5,I1]
 case h_4 t' x=>
  obtain⟨r,hr,hrd⟩:=a6Q (P:=P) hH h hs (hop x (by simp[S1,Op.operands]))
  exact⟨r,lift hr,hrd⟩
 case h_5 x=>
  have hx:=hop x (by simp[S1,Op.operands])
  unfold I0 at hx;split at h
  ·rename_i k i j he;simp only[W8,T5] at h;obtain⟨rfl,rfl⟩:=h;rw[he] at hx;refine⟨a.eval x,?_,hx⟩
   obtain⟨ad,had⟩:∃ad,a.eval x= .pointer (some ad):=by first|exact⟨_,cU hx⟩|exact a6F hx
   simp only[execOp,had];rfl
  ·rename_i cs he;simp only[W8,T5] at h;obtain⟨rfl,rfl⟩:=h;rw[he] at hx;refine⟨a.eval x,?_,hx⟩
   obtain⟨ad,had⟩:∃ad,a.eval x= .pointer (some ad):=by first|exact⟨_,cU hx⟩|exact a6F hx
   simp only[execOp,had];rfl
  ·cases h
 case h_6 bop t' x y yt=>
  obtain⟨r,hr,hrd⟩:=b8d (P:=P) (ox:=x) (oy:=y) h hs (hop x (by simp[S1,Op.operands])) (hop y (by simp[S1,Op.operands]))
  exact⟨r,lift hr,hrd⟩
 case h_7 uop t' x=>
  obtain⟨r,hr,hrd⟩:=c0s (P:=P) h hs (hop x (by simp[S1,Op.operands]))
  exact⟨r,lift hr,hrd⟩
 case h_8 src dst' x=>
  obtain⟨r,hr,hrd⟩:=b38 (P:=P) hH h hs (hop x (by simp[S1,Op.operands]))
  exact⟨r,lift hr,hrd⟩
 case h_9 t' x f=>
  cases hp:xZ P t' (M7 s x) f with
  |none=>rw[hp] at h;cases h
  |some z=>
   rw[hp] at h;simp only[j8,W8,T5] at h;obtain⟨rfl,rfl⟩:=h;obtain⟨r,hr,hrd⟩:=aM (P:=P) hp (hop x (by simp[S1,Op.operands]))
   exact⟨r,lift hr,hrd⟩
 case h_10 t' x f=>
  cases hp:mR P t' (M7 s x) f with
  |none=>rw[hp] at h;cases h
  |some z=>
   rw[hp] at h;simp only[j8,W8,T5] at h;obtain⟨rfl,rfl⟩:=h;obtain⟨r,hr,hrd⟩:=b3P (P:=P) hp (hop x (by simp[S1,Op.operands]))
   exact⟨r,lift hr,hrd⟩
 case h_11 t' x i=>
  obtain⟨r,hr,hrd⟩:=aJ (P:=P) hH h hs (hop x (by simp[S1,Op.operands])) (hop i (by simp[S1,Op.operands]))
  exact⟨r,lift hr,hrd⟩
 case h_12 t' x i=>
  obtain⟨r,hr,hrd⟩:=b3S (P:=P) h hs (hop x (by simp[S1,Op.operands])) (hop i (by simp[S1,Op.operands]))
  exact⟨r,lift hr,hrd⟩
 case h_13 x i=>
  cases hp:tV (M7 s x) i with
  |none=>rw[hp] at h;cases h
  |some z=>
   rw[hp] at h;simp only[j8,W8,T5] at h;obtain⟨rfl,rfl⟩:=h;obtain⟨r,hr,hrd⟩:=a3i (P:=P) hp (hop x (by simp[S1,Op.operands]))
   exact⟨r,lift hr,hrd⟩
 case h_14 args argTypes=>
  split at h
  ·rename_i x t' ha hat;obtain rfl:args= #[x]:=Array.ext' (by simpa using ha)
   obtain rfl:argTypes= #[t']:=Array.ext' (by simpa using hat)
   cases hp:a6d P t' (M7 s x) with
   |none=>rw[hp] at h;cases h
   |some n=>
    rw[hp] at h;simp only[j8,W8,T5] at h;obtain⟨rfl,rfl⟩:=h;have hn:=b8u (P:=P) (ty:=ty) hp (hop x (by simp[S1,Op.operands,Call.operands]))
    refine⟨_,?_,.int _ _⟩
    simp[execOp,resolve,invoke,builtin,hn,Result.andThen]
  ·cases h
 case h_15 t' x lo hi=>
  obtain⟨r,hr,hrd⟩:=b0W (P:=P) (lv:=lo.map a.eval) (hv:=hi.map a.eval) hH h hs (hop x (by simp[S1,Op.operands]))
   (λy hy=>by
    cases lo with
    |none=>cases hy
    |some z=>
     simp only[j8,W8] at hy;subst hy;exact⟨_,rfl,hop z (by simp[S1,Op.operands])⟩)
   (λy hy=>by
    cases hi with
    |none=>cases hy
    |some z=>
     simp only[j8,W8] at hy;subst hy;exact⟨_,rfl,hop z (by simp[S1,Op.operands])⟩)
   (λhn=>by cases lo with|none=>rfl|some z=>cases hn) (λhn=>by cases hi with|none=>rfl|some z=>cases hn)
  exact⟨r,lift hr,hrd⟩
 case h_16 t' parts=>
  cases hp:mG P s t' parts with
  |none=>rw[hp] at h;cases h
  |some z=>
   rw[hp] at h;simp only[j8,W8,T5] at h;obtain⟨rfl,rfl⟩:=h;obtain⟨r,hr,hrd⟩:=b0i (P:=P) hp (λp hp=>hop p.2 (by simp only[S1,Op.operands,List.mem_map];exact⟨p,hp,rfl⟩))
   exact⟨r,lift hr,hrd⟩
 case h_17 fn first captured=>
  split at h
  ·rename_i hf;simp only[W8,T5] at h;obtain⟨rfl,rfl⟩:=h;obtain rfl:first= #[]:=Array.ext' (by simpa using hf)
   refine⟨_,lift (m:=Instr.makeFunc fn (#[].map a.eval) (captured.map a.eval)) rfl,?_⟩
   simp only[Array.map_empty];refine .fn _ _ _ (by simp) λi t x ht hx=> ?_
   simp only[pN,Array.getElem?_map,I3,Array.getElem?_toList] at ht hx
   obtain⟨p,hp,rfl⟩:=ht;obtain⟨q,hq,rfl⟩:=hx;rw[hp] at hq;simp only[W8] at hq;subst hq;exact hop p (by simp only[S1,Op.operands,Array.toList_append,List.mem_append];exact .inr (by simpa using Array.mem_of_getElem? hp))
  ·cases h
 case h_18 t' m k=>
  obtain⟨r,hr,hrd⟩:=b33 (P:=P) hH h hs (hop m (by simp[S1,Op.operands])) (hop k (by simp[S1,Op.operands]))
  exact⟨r,lift hr,hrd⟩
 case h_19 args argTypes=>
  split at h
  ·rename_i x y ha;obtain rfl:args= #[x,y]:=Array.ext' (by simpa using ha)
   have hx:=hop x (by simp[S1,Op.operands,Call.operands])
   have hy:=hop y (by simp[S1,Op.operands,Call.operands])
   unfold b7b at h;split at h
   ·rename_i k m hm;split at h
    ·rename_i k2 n hn;simp only[W8,T5] at h;obtain⟨rfl,rfl⟩:=h;unfold I0 at hx hy;rw[hm] at hx;rw[hn] at hy;have ex:=K5 hx;have ey:=K5 hy;refine⟨_,?_,.int _ _⟩
     simp[execOp,resolve,invoke,builtin,Builtin.min_,Builtin.min2,ex,ey,Result.andThen,c0q]
    ·cases h
   ·cases h
  ·cases h
 case h_20=>cases h
end
end Go.SS
