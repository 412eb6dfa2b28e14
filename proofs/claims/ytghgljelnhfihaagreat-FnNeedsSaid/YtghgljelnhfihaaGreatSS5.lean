/- A calculus of symbolic states: the operations that leave memory alone do what is said of them, 3. -/
import Derived.Test.YtghgljelnhfihaaGreatSS2SS3SS4
namespace Go.SS
open Go.RowKit
section
variable {E:Env} {w:World} {P:Program}

theorem N8{t:TypeId}{n:Nat}(h:z8 P t n=true):(sizeOf t).run P w= .ok n w/\P.cellsOf t=n:=by
 unfold z8 at h;split at h
 ·rename_i i hi;have hn:=G3 h;refine⟨?_,by unfold Program.cellsOf;rw[hi];exact hn⟩
  rw[F3 t (by rw[hi];rfl)]
  unfold Program.cellsOf;rw[hi];simp[hn]
 ·cases h

theorem F1{E':Env}(hN:∀b,E.N b->E'.N b){t:T}{x:Value}(h:Rd E w t x):W5 t=true->Rd E' w t x:=by
 induction h with
 |int k n=>exact λ_=>.int k n
 |bool b=>exact λ_=>.bool b
 |str l=>exact λ_=>.str l
 |v x=>exact λ_=>.v x
 |slNil sz row=>exact λ_=>.slNil sz row
 |slEmp sz row a=>exact λ_=>.slEmp sz row a
 |emp a=>exact λ_=>.emp a
 |bysEmp a=>exact λ_=>.bysEmp a
 |sl sz n row b off cap u hb hc hl h1 hr _ ih=>
  exact λ_=>.sl sz n row b off cap u (hN b hb) hc hl h1 hr (λi j t hi hj=>ih i j t hi hj (h1 i t hi (B5 hj)).2)
 |bysNil=>exact λ_=>.bysNil
 |bys l b off cap hb hc hr=>exact λ_=>.bys l b off cap (hN b hb) hc hr
 |bref cells b off u hb h1 hr _ ih=>exact λ_=>.bref cells b off u (hN b hb) h1 hr (λj t hj=>ih j t hj (h1 t (B5 hj)))
 |ref=>intro h;cases h
 |osl=>intro h;cases h
 |posl=>intro h;cases h
 |pref=>intro h;cases h
 |agg=>intro h;cases h
 |tup=>intro h;cases h
 |fn=>intro h;cases h
 |mpr=>intro h;cases h
 |und x=>exact λ_=>.und x

theorem sH{t:TypeId}{cells:List T}{b off o:Nat}{u:Nat->Value}{x:T}(hx:yH P t cells o=some x)
  (hr:∀(j:Nat) (t:T),cells[j]? =some t->w.cell? ⟨b,off+j,none⟩=some (u j)) (ht:∀(j:Nat) (t:T),cells[j]? =some t->Rd E w t (u j)):
  ∃v,(loadVar t ⟨b,off+o,none⟩).run P w= .ok v w/\Rd E w x v:=by
 unfold yH at hx;unfold loadVar;split at hx
 ·rename_i hu hag;split at hx
  ·rename_i hb;simp only[W8] at hx;subst hx;have hb':=v6 hb;have hcells:∀j,j<P.cellsOf t->w.cell? (Addr.add ⟨b,off+o,none⟩ j)=some (u (o+j)):=by
    intro j hj;have hj':cells[o+j]? =some (cells[o+j]'(by omega)):=K7 _
    have:=hr _ _ hj';rw[Addr.add_lit,show off+o+j=off+(o+j) by omega]
    exact this
   simp only[H4,tJ t hu,I1,hag,if_true,F3 t (zJ hu),run_loadCells w _ _ (λj=>u (o+j)) hcells,D5]
   refine⟨_,rfl,.agg _ _ (by simp;omega) λi y z hy hz=> ?_⟩
   rw[List.getElem?_take] at hy
   split at hy
   ·rename_i hi;rw[List.getElem?_drop] at hy
    simp[hi] at hz;subst hz;exact ht _ _ hy
   ·cases hy
  ·cases hx
 ·rename_i hu hag;have hc:=hr _ _ hx;simp only[H4,tJ t hu,I1,hag,Bool.false_eq_true,if_false,run_load,hc];exact⟨_,rfl,ht _ _ hx⟩
 ·cases hx

theorem R0{b i:Nat}{cs:Array Value}{ty:TypeId}{fz:Nat×Nat}(h:w.heap[b]? =some (.cells cs ty fz)):w.cell? ⟨b,i,none⟩=cs[i]? :=by
 simp[World.cell?,h]

theorem cY{H:Y1}{k:Nat}{A:Arr}(h:getA H k=some A):∃ob,Z0 H k=some ob/\((ob.toArr=A/\ob.isArr=true)∨∃v ty sz n row,ob= .fam v ty sz n row/\A=⟨false,ty,sz,n,yB k v row⟩):=by
 unfold getA at h;split at h
 ·rename_i v ty sz n row ho;simp only[W8] at h;exact⟨_,ho,.inr ⟨v,ty,sz,n,row,rfl,h.symm⟩⟩
 ·rename_i ob hnf ho;split at h
  ·rename_i hi;simp only[W8] at h;exact⟨ob,ho,.inl ⟨h,hi⟩⟩
  ·cases h
 ·cases h

theorem m6.arr{k:Nat}{ob:Ob}(h:m6 E w k ob)(hi:ob.isArr=true):S9 E w k ob.toArr:=by
 cases ob<;>first|exact h|cases hi

theorem HeapOk.arr{H:Y1}(hH:HeapOk E w H){k:Nat}{A:Arr}(h:getA H k=some A):E.L k/\S9 E w k A/\(E.κ k≠0->¬E.N (E.β k)):=by
 obtain⟨ob,ho,hA⟩:=cY h;obtain⟨h1,h2,h3⟩:=hH.live k ob ho;rcases hA with⟨rfl,hi⟩|⟨v,ty,sz,n,row,rfl,rfl⟩
 ·exact⟨h1,h2.arr hi,λhκ=>h3 _ (.inl ⟨hκ,rfl⟩)⟩
 ·exact⟨h1,FamOk.arr h2,λhκ=>h3 _ (.inl ⟨hκ,rfl⟩)⟩

theorem b3E{k:Nat}{A:Arr}(h:S9 E w k A){i:Nat}(hi:i<A.n):
  ∃u:Nat->Value,(∀(j:Nat) (t:T),(A.row i)[j]? =some t->w.cell? ⟨E.β k,i*(E.z k).1+j,none⟩=some (u j))/\(∀(j:Nat) (t:T),(A.row i)[j]? =some t->Rd E w t (u j)):=by
 obtain⟨hz,hn,hl,hone,hcl,cs,ty,hb,hs,hc⟩:=h;have hb:=hb (by omega)
 refine⟨λj=>(w.cell? ⟨E.β k,i*(E.z k).1+j,none⟩).getD undef,λj t hj=> ?_,λj t hj=> ?_⟩
 ·obtain⟨u,hu,_⟩:=hc i j t hi hj;simp only[R0 hb,hz,hu,Option.getD_some]
 ·obtain⟨u,hu,hr⟩:=hc i j t hi hj;simp only[R0 hb,hz,hu,Option.getD_some];exact hr

theorem jT{H:Y1}(hH:HeapOk E w H){k:Nat}{A:Arr}(hk:getA H k=some A){i:Nat}(hi:i<A.n):
  ∃u:Nat->Value,(∀(j:Nat) (t:T),(A.row i)[j]? =some t->w.cell? ⟨E.β k,i*(E.z k).1+j,none⟩=some (u j))/\(∀(j:Nat) (t:T),(A.row i)[j]? =some t->Rd E w t (u j)):=
 b3E (hH.arr hk).2.1 hi

theorem zT{H:Y1}{k v i j:Nat}{A:Own}(h:getOwn H k v i j=some A):∃ty sz row,Z0 H k=some (.fam A.v ty sz A.n row)/\(row i)[j]? =some (.own A.A.ty A.A.sz A.A.n A.A.row)/\A.A.cl=true:=by
 unfold getOwn at h;split at h
 ·rename_i v' ty sz n row ho;split at h
  ·rename_i hj;simp only[W8] at h;subst h;exact⟨ty,sz,row,ho,hj,rfl⟩
  ·cases h
 ·cases h

theorem aD{H:Y1}(hH:HeapOk E w H){k v i j:Nat}{A:Own}(h:getOwn H k v i j=some A)(hv:v=A.v)(hi:i<A.n):S9 (E.sub k v i j A.A.sz) w 0 A.A/\E.L k/\E.L2 k v:=by
 obtain⟨ty,sz,row,ho,hj,hcl⟩:=zT h;obtain⟨h1,h2,h3⟩:=hH.live k _ ho;subst hv;have:=(FamOk.own h2 i j _ _ _ _ hi hj).1;refine⟨?_,h1,FamOk.l2 h2⟩
 obtain⟨v,n,cl,ty,sz,m,r⟩:=A;simp only at hcl;subst hcl;exact this

theorem b1G{ty i n:Nat}(h:(inB ty i n).getD True):i<n:=by
 unfold inB at h;split at h
 ·split at h
  ·omega
  ·exact h
 ·exact h

theorem a6Q{H:Y1}(hH:HeapOk E w H){t:TypeId}{x:T}{v:Value}{y:T}{side:Option Prop}(h:zA P H t x=some (y,side))(hs:side.getD True)(hx:Rd E w x v):
  ∃r,(Instr.loadAt t v).run P w= .ok r w/\Rd E w y r:=by
 unfold zA at h;split at h
 ·rename_i cells;cases htk:yH P t cells 0 with
  |none=>rw[htk] at h;cases h
  |some z=>
   rw[htk] at h;simp only[j8,W8,T5] at h;obtain⟨rfl,rfl⟩:=h;cases hx with
   |bref _ b off u hN hb1 hr ht=>
    simp only[Instr.loadAt,Instr.sureAddr,H4,D5,I1];exact sH (o:=0) htk hr ht
 ·rename_i k i j;split at h
  ·rename_i A hk;cases htk:yH P t (A.row i) j with
   |none=>rw[htk] at h;cases h
   |some z=>
    rw[htk] at h;simp only[j8,W8,T5] at h;obtain⟨rfl,rfl⟩:=h;cases hx with
    |ref _ _ _ hL=>
     obtain⟨u,hr,ht⟩:=jT hH hk (b1G hs);simp only[Instr.loadAt,Instr.sureAddr,H4,D5,I1];exact sH htk hr ht
  ·cases h
 ·rename_i k v i j z a b;split at h
  ·rename_i A hA;split at h
   ·rename_i hz;obtain rfl:=G3 hz;cases htk:yH P t (A.A.row a) b with
    |none=>rw[htk] at h;cases h
    |some y=>
     rw[htk] at h;simp only[j8,W8,T5] at h;obtain⟨rfl,rfl⟩:=h;obtain⟨hv,hi,ha⟩:PfB v A.v i A.n a A.A.n:=hs;obtain⟨hO,_,_⟩:=aD hH hA hv hi;obtain⟨u,hr,ht⟩:=b3E hO ha;have hcl:A.A.cl=true:=by obtain⟨_,_,_,_,_,hcl⟩:=zT hA;exact hcl
     cases hx with
     |pref _ _ _ _ _ _ _ hL=>
      simp only[Instr.loadAt,Instr.sureAddr,H4,D5,I1];obtain⟨_,_,_,_,hclo,_⟩:=hO;exact sH htk hr λq t hj=>F1 (E:=E.sub k v i j A.A.sz) (E':=E) (λb hb=>hb) (ht q t hj) (hclo hcl a t ha (B5 hj))
   ·cases h
  ·cases h
 ·cases h

theorem jS{t:TypeId}{f:Nat}{fd:Field}(h:mS P t f=some fd):∃fs,P.underlying t=some (.struct fs)/\fs[f]? =some fd:=by
 unfold mS at h;split at h
 ·rename_i fs hu;exact⟨fs,hu,h⟩
 ·cases h

theorem eD{cells:List T}{b off o:Nat}{u:Nat->Value}(hN:E.N b)(h1:∀t,t ∈ cells->W5 t=true)(hr:∀(j:Nat) (t:T),cells[j]? =some t->w.cell? ⟨b,off+j,none⟩=some (u j))
  (ht:∀(j:Nat) (t:T),cells[j]? =some t->Rd E w t (u j)):Rd E w (.bref (cells.drop o)) (.pointer (some ⟨b,off+o,none⟩)):=
 .bref _ b (off+o) (λj=>u (o+j)) hN (λt ht=>h1 t (List.mem_of_mem_drop ht)) (λj t hj=>by rw[List.getElem?_drop] at hj;rw[show off+o+j=off+(o+j) by omega];exact hr _ _ hj)
  (λj t hj=>by rw[List.getElem?_drop] at hj;exact ht _ _ hj)

theorem aM{t:TypeId}{x:T}{v:Value}{f:Nat}{y:T}(h:xZ P t x f=some y)(hx:Rd E w x v):
  ∃r,(Instr.fieldAt t v f).run P w= .ok r w/\Rd E w y r:=by
 unfold xZ at h;split at h
 ·rename_i fd hfd;obtain⟨fs,hu,hf⟩:=jS hfd;split at h
  ·rename_i k i j hc hz;simp only[W8] at h;subst h;have hne:P.cellsOf fd.type≠0:=Nat.ne_of_beq_eq_false hz;cases hx with
   |ref _ _ _ hL=>
    simp only[Instr.fieldAt,H4,run_underlying hu,I1,hf,Instr.sureAddr,D5,fieldPlace,(N8 (w:=w) hc).1];rw[if_neg hne];simp only[D5,I1,Addr.add_lit];refine⟨_,rfl,?_⟩
    rw[Nat.add_assoc];exact .ref k i (j+fd.offset) hL
  ·rename_i cs hc hz;simp only[W8] at h;subst h;have hne:P.cellsOf fd.type≠0:=Nat.ne_of_beq_eq_false hz;cases hx with
   |bref _ b off u hN hb1 hr ht=>
    simp only[Instr.fieldAt,H4,run_underlying hu,I1,hf,Instr.sureAddr,D5,fieldPlace,(N8 (w:=w) hc).1];rw[if_neg hne];simp only[D5,I1,Addr.add_lit];exact⟨_,rfl,eD hN hb1 hr ht⟩
  ·cases h
 ·cases h

theorem b3P{t:TypeId}{x:T}{v:Value}{f:Nat}{y:T}(h:mR P t x f=some y)(hx:Rd E w x v):
  ∃r,(Instr.field t v f).run P w= .ok r w/\Rd E w y r:=by
 unfold mR at h;split at h
 ·rename_i fd cs hfd;obtain⟨fs,hu,hf⟩:=jS hfd;cases hx with
  |agg _ vs hl ht=>
   simp only[Instr.field,H4,run_underlying hu,I1,hf,asAgg,D5];exact mL h hl ht
 ·cases h

theorem aJ{H:Y1}(hH:HeapOk E w H){t:TypeId}{x i:T}{v iv:Value}{y:T}{side:Option Prop}(h:C2 P H t x i=some (y,side))(hs:side.getD True)(hx:Rd E w x v)(hi:Rd E w i iv):
  ∃r,(Instr.indexAt t v iv).run P w= .ok r w/\Rd E w y r:=by
 unfold C2 at h;split at h
 ·rename_i ki i;rw[K5 hi];split at h
  ·rename_i e sz n row hu;split at h
   ·rename_i hc;simp only[W8,T5] at h;obtain⟨rfl,rfl⟩:=h;have hb:0<=i/\i<n:=hs;cases hx with
    |slNil=>exact absurd hb.2 (by omega)
    |slEmp=>exact absurd hb.2 (by omega)
    |sl _ _ _ b off cap u hN hcap hl h1 hr ht=>
     simp only[Instr.indexAt,asIntOf,H4,D5,I1,run_underlying hu];rw[if_pos hb];simp only[H4,(N8 (w:=w) hc).1,I1,D5,Addr.add_lit];have hlt:i.toNat<n:=by omega
     exact⟨_,rfl,.bref _ b _ (u i.toNat) hN (λt hm=>(h1 _ t hlt hm).2) (λj t hj=>hr _ _ _ hlt hj) (λj t hj=>ht _ _ _ hlt hj)⟩
   ·cases h
  ·rename_i e l hu;split at h
   ·rename_i hc;simp only[W8,T5] at h;obtain⟨rfl,rfl⟩:=h;have hb:0<=i/\i<l.length:=hs;cases hx with
    |bysNil=>exact absurd hb.2 (by simp;omega)
    |bysEmp=>exact absurd hb.2 (by simp;omega)
    |bys _ b off cap hN hcap hr=>
     simp only[Instr.indexAt,asIntOf,H4,D5,I1,run_underlying hu];rw[if_pos hb];simp only[H4,(N8 (w:=w) hc).1,I1,D5,Addr.add_lit,Nat.mul_one];have hlt:i.toNat<l.length:=by omega
     refine⟨_,rfl,.bref _ b _ (λ_=>.int .u8 ((l.getD i.toNat 0).toNat:Int)) hN (λt hm=>by simp[I4] at hm;subst hm;rfl) (λj t hj=> ?_) (λj t hj=> ?_)⟩
     ·cases j with
      |zero=>
       have:=hr i.toNat _ (K7 hlt)
       simpa[List.getD,K7 hlt] using this
      |succ j=>simp[I4] at hj
     ·cases j with
      |zero=>simp[I4] at hj;subst hj;exact .int _ _
      |succ j=>simp[I4] at hj
   ·cases h
  ·rename_i e k off n hu;split at h
   ·rename_i A hk;split at h
    ·rename_i hc;simp only[W8,T5] at h;obtain⟨rfl,rfl⟩:=h;have hb:0<=i/\i<n:=hs;obtain⟨hL,⟨hz,_⟩,_⟩:=hH.arr hk;cases hx with
     |osl _ _ _ o a _ hn ho ha=>
      rw[ha (by omega)]
      simp only[Instr.indexAt,asIntOf,H4,D5,I1,run_underlying hu];rw[if_pos hb];simp only[H4,(N8 (w:=w) hc).1,I1,D5,Addr.add_lit];refine⟨_,rfl,?_⟩
      have:=Rd.ref (E:=E) (w:=w) k (off+i.toNat) 0 hL;rw[Nat.add_zero,Nat.add_mul] at this;rw[←hz,ho (.inl (by omega))]
      exact this
    ·cases h
   ·cases h
  ·rename_i e k v i' j n hu;split at h
   ·rename_i A hA;split at h
    ·rename_i hc;simp only[W8,T5] at h;obtain⟨rfl,rfl⟩:=h;have hb:0<=i/\i<n:=hs;cases hx with
     |posl _ _ _ _ _ a hL hn ha=>
      rw[ha (by omega)]
      simp only[Instr.indexAt,asIntOf,H4,D5,I1,run_underlying hu];rw[if_pos hb];simp only[H4,(N8 (w:=w) hc).1,I1,D5,Addr.add_lit];refine⟨_,rfl,?_⟩
      rw[G9];exact .pref k v i' j A.A.sz i.toNat 0 hL
    ·cases h
   ·cases h
  ·rename_i n e cells hu;split at h
   ·rename_i hc;simp only[W8,T5] at h;obtain⟨rfl,rfl⟩:=h;have hb:0<=i/\i<n:=hs;cases hx with
    |bref _ b off u hN hb1 hr ht=>
     simp only[Instr.indexAt,asIntOf,H4,D5,I1,run_underlying hu,Instr.sureAddr];rw[if_pos hb];simp only[H4,F3 e hc,I1,D5,Addr.add_lit];exact⟨_,rfl,eD hN hb1 hr ht⟩
   ·cases h
  ·rename_i n e k r j hu;split at h
   ·rename_i hc;simp only[W8,T5] at h;obtain⟨rfl,rfl⟩:=h;have hb:0<=i/\i<n:=hs;cases hx with
    |ref _ _ _ hL=>
     simp only[Instr.indexAt,asIntOf,H4,D5,I1,run_underlying hu,Instr.sureAddr];rw[if_pos hb];simp only[H4,F3 e hc,I1,D5,Addr.add_lit];refine⟨_,rfl,?_⟩
     rw[Nat.add_assoc];exact .ref k r _ hL
   ·cases h
  ·cases h
 ·cases h

end
end Go.SS
