/- A calculus of symbolic states: append, and the bytes of a string. -/
import Derived.Test.YtghgljelnhfihaaGreatSS9
namespace Go.SS
open Go.RowKit
section
variable {c:Ctx} {E:Env} {H:Y1} {w w':World} {P:Program}

structure Appended(w:World)(sz n m:Nat)(old:Nat->Option Value)(news:List Value)(g:Option Nat)(r:Value)(w':World):Prop where
 os:w'.os=w.os
 tape:w'.tape=w.tape
 output:w'.output=w.output
 size:w.heap.size<=w'.heap.size
 other:∀b,b<w.heap.size->some b≠g->w'.heap[b]? =w.heap[b]?
 block:∃b cap cs tyb,r= .slice (some ⟨b,0,none⟩) (n+m) cap/\n+m<=cap/\w'.heap[b]? =some (.cells cs tyb (0,0))/\cap*sz<=cs.size/\((w.heap.size<=b/\∀a,a<w.heap.size->w'.heap[a]? =w.heap[a]?)∨g=some b)/\
  (∀j,j<n*sz->cs[j]? =old j)/\∀j,j<m*sz->cs[n*sz+j]? =news[j]?

theorem G1{t tx ty e:TypeId}{i:TypeInfo}{z:Value}(ht:P.underlying t=some (.slice e))(hi:P.info? e=some i)(hz:i.zero=some z)(hzs:z.cells.size=i.size)
  {x:Value} {m:Nat} {news:List Value} (hs:Go.Src P i.size tx x m news w) (n:Nat) (hb:W6 n m i.bytes)
  (d:Value) (old:Nat->Option Value) (g:Option Nat)
  (hd:(∃a,d= .slice a 0 0/\n=0/\g=none)∨∃b cap cur tyb,d= .slice (some ⟨b,0,none⟩) n cap/\g=some b/\w.heap[b]? =some (.cells cur tyb (0,0))/\n<=cap/\cap*i.size<=cur.size/\∀j,j<n*i.size->cur[j]? =old j):
  ∃r w',(Builtin.append_ #[t,tx] ty #[d,x]).run P w= .ok r w'/\(Appended w i.size n m old news g r w'∨(n+m=0/\w'=w/\∃a,r= .slice a 0 0)):=by
 obtain⟨hb1,hb2⟩:=hb;have grow:∀(base:Option Addr) (cap:Nat) (k7:List Value),k7.length=n*i.size->(Builtin.firstCells i.size n (.slice base n cap)).run P w.drew= .ok k7.toArray w.drew->cap<n+m->
   (∀j,j<n*i.size->k7[j]? =old j)->d= .slice base n cap->
   ∃r w',(Builtin.append_ #[t,tx] ty #[d,x]).run P w= .ok r w'/\(Appended w i.size n m old news g r w'∨(n+m=0/\w'=w/\∃a,r= .slice a 0 0)):=by
  intro base cap k7 hol hold hcap holds hdd;have hr:=run_append_grow_src (P:=P) w t tx ty e i z ht hi hz base n cap k7 hold x m news hs hcap (by omega) (growslice_fits hcap hb1)
  rw[hdd];have hge:=grownCap_ge w (n+m) cap e;refine⟨_,_,hr,.inl ⟨rfl,rfl,rfl,by simp,λb hb _=>heap_alloc_old w.drew _ hb,_,_,_,_,rfl,hge,heap_alloc_new w.drew _,?_,.inl ⟨W4 _,λ_ ha=>heap_alloc_old w.drew _ ha⟩,λj hj=> ?_,λj hj=> ?_⟩⟩
  ·refine Nat.le_of_eq (Eq.symm ?_)
   simp only[Array.size_append,List.size_toArray,K6,size_zeroCells,hzs,hol,hs.newsLen,←Nat.add_mul];congr 1
   omega
  ·rw[Array.getElem?_append_left (by simp[hol];omega)]
   rw[List.getElem?_toArray,tX (by omega)]
   exact holds j hj
  ·have hnl:=hs.newsLen;rw[Array.getElem?_append_left (by simp[hol,hnl];omega)]
   rw[List.getElem?_toArray,rK (by omega),hol]
   congr 1
   omega
 rcases hd with⟨a,hdd,hn,hg⟩|⟨b,cap,cur,tyb,hdd,hg,hblk,hnc,hcs,hold⟩
 ·subst hn;by_cases hm:0<m
  ·refine grow a 0 [] (by simp) ?_ (by omega) (λj hj=>by omega) hdd
   cases a with
   |none=>exact run_firstCells_none w.drew i.size 0 0 0
   |some a=>exact run_firstCells_some w.drew i.size 0 a 0 0 [] (by simp) (λj u h=>by simp at h)
  ·obtain rfl:m=0:=by omega
   have hnl:news=[]:=List.length_eq_zero_iff.1 (by rw[hs.newsLen,Nat.zero_mul])
   subst hnl;rw[hdd];refine⟨.slice a 0 0,w,?_,.inr ⟨rfl,rfl,a,rfl⟩⟩
   cases a<;>(rcases hs.kind with⟨e',hk⟩|hk<;>simp[Builtin.append_,run_underlying ht,run_underlying hk,sizeOf,typeInfo,hi,hs.len,hs.cells,storeCells])
 ·by_cases hroom:n+m<=cap
  ·have hcell:∀j,w.cell? ⟨b,j,none⟩=cur[j]? :=λj=>R0 hblk
   have hfit:n*i.size+news.length<=cur.size:=by rw[hs.newsLen,←Nat.add_mul];exact Nat.le_trans (iN _ hroom) hcs
   obtain⟨w',hst,ho,htp,hop,hsize,hoth,cs',hb',hcs',hout,hin⟩:=m9 P w b (n*i.size) tyb cur news hblk hfit hs.one;rw[hdd];refine⟨.slice (some ⟨b,0,none⟩) (n+m) cap,w',?_,.inl ⟨ho,htp,hop,by omega,λb' _ hne=>hoth b' (λe=>hne (by rw[hg,e])),b,cap,cs',tyb,rfl,hroom,hb',by rw[hcs'];exact hcs,.inr hg,λj hj=> ?_,λj hj=> ?_⟩⟩
   ·rcases hs.kind with⟨e',hk⟩|hk<;>simp[Builtin.append_,run_underlying ht,run_underlying hk,sizeOf,typeInfo,hi,hs.len,hroom,hs.cells,Addr.add_lit,hst]
   ·rw[hout j (.inl hj)];exact hold j hj
   ·exact hin j (by rw[hs.newsLen];exact hj)
  ·have hmin:n*i.size<=cur.size:=Nat.le_trans (iN _ hnc) hcs;have holds:(Builtin.firstCells i.size n (.slice (some ⟨b,0,none⟩) n cap)).run P w.drew= .ok (cur.toList.take (n*i.size)).toArray w.drew:=by
    refine run_firstCells_some w.drew i.size n ⟨b,0,none⟩ n cap _ (by simp[Nat.min_eq_left hmin]) (λj u hj=> ?_)
    rw[Addr.add_lit,G9];show w.cell? _=_;rw[R0 hblk];rw[List.getElem?_take] at hj
    split at hj
    ·simpa using hj
    ·cases hj
   refine grow (some ⟨b,0,none⟩) cap _ (by simp[Nat.min_eq_left hmin]) holds (by omega) (λj hj=> ?_) hdd
   rw[List.getElem?_take,if_pos hj,Array.getElem?_toList]
   exact hold j hj


theorem xX{p:Option Prop}{q:Prop}(h:iX p q):p.getD True/\q:=by
 cases p with
 |none=>exact⟨trivial,h⟩
 |some p=>exact h

theorem a04{l:List UInt8}{b o:Nat}(hr:∀i x,l[i]? =some x->w.cell? ⟨b,o+i,none⟩=some (.int .u8 (x.toNat:Int))):
  ∀(j:Nat) (u:Value),(l.map λx=>Value.int .u8 (x.toNat:Int))[j]? =some u->w.cell? (Addr.add ⟨b,o,none⟩ j)=some u:=by
 intro j u hj;simp only[pN,I3] at hj
 obtain⟨x,hx,rfl⟩:=hj;rw[Addr.add_lit];exact hr j x hx

theorem a01(l:List UInt8):∀u ∈ l.map (λx=>Value.int .u8 (x.toNat:Int)),u.oneCell'=true:=by
 intro u hu;obtain⟨x,_,rfl⟩:=List.mem_map.1 hu;rfl

theorem a0O(hH:HeapOk E w H){k off n o:Nat}{ty:TypeId}{l:List UInt8}(hk:Z0 H k=some (.bys ty l))(hle:off+n<=l.length)(ho:off<E.κ k∨off=0->o=off*(E.z k).1):
  ((l.drop off).take n).length=n/\∀i x,((l.drop off).take n)[i]? =some x->w.cell? ⟨E.β k,o+i,none⟩=some (.int .u8 (x.toNat:Int)):=by
 obtain⟨hL,⟨hz,hn,hl,hone,hcl,cs,ty,hb,hsz,hc⟩,hN⟩:=hH.live _ _ hk;simp only[Ob.toArr] at hz hn hl hone hcl hsz hc;have hlen:((l.drop off).take n).length=n:=by simp;omega
 refine⟨hlen,λi x hx=> ?_⟩
 have hi:i<n:=by
  rcases Nat.lt_or_ge i n with h'|h'
  ·exact h'
  ·rw[List.getElem?_eq_none (by omega)] at hx;cases hx
 have hx':l[off+i]? =some x:=by
  rw[List.getElem?_take] at hx
  rw[if_pos hi,List.getElem?_drop] at hx
  exact hx
 have hrow:(I4 l (off+i))[0]? =some (.int .u8 (x.toNat:Int)):=by
  simp[I4,List.getD,hx']
 obtain⟨u,hu,hru⟩:=hc (off+i) 0 _ (by omega) hrow
 have hob:o=off:=by
  have:=ho (.inl (by omega))
  rw[hz,Nat.mul_one] at this;exact this
 rw[R0 (hb (by omega)),hob]
 rw[K5 hru] at hu;rw[Nat.mul_one,Nat.add_zero] at hu;exact hu

theorem b4j{sz:Nat}{tx e:TypeId}(hd:P.underlying tx=some (.slice e))(a:Option Addr):Go.Src P sz tx (.slice a 0 0) 0 [] w:=by
 cases a with
 |none=>exact Src.ofNil (P:=P) w hd 0
 |some a=>exact Src.ofSlice (P:=P) w hd a 0 0 [] (by simp) (λj u h=>by simp at h) (λ_ h=>by cases h)

theorem a7e(hH:HeapOk E w H){tx:TypeId}{x:T}{v:Value}{l:List UInt8}{side:Option Prop}(h:A4 H (P.underlying tx) x=some (l,side))(hs:side.getD True)(hx:Rd E w x v):
  Go.Src P 1 tx v l.length (l.map λx=>Value.int .u8 (x.toNat:Int)) w:=by
 unfold A4 at h;split at h
 ·rename_i l' hd;simp only[W8,T5] at h;obtain⟨rfl,rfl⟩:=h;rw[xN hx];have:=Src.ofString (P:=P) w hd ⟨l'.toArray⟩
  simpa[byteCells,ByteArray.size] using this
 ·rename_i e l' hd;simp only[W8,T5] at h;obtain⟨rfl,rfl⟩:=h;cases hx with
  |bysNil=>exact Src.ofNil (P:=P) w hd 0
  |bysEmp a=>exact Src.ofSlice (P:=P) w hd a 0 0 [] (by simp) (λj u h=>by simp at h) (λ_ h=>by cases h)
  |bys _ b off cap hN hc hr=>exact Src.ofSlice (P:=P) w hd _ _ _ _ (by simp) (a04 hr) (a01 _)
 ·rename_i e hd;simp only[W8,T5] at h;obtain⟨rfl,rfl⟩:=h;rw[wC hx];exact Src.ofNil (P:=P) w hd 0
 ·rename_i e k off n hd;split at h
  ·rename_i ty l' hk;simp only[W8,T5] at h;obtain⟨rfl,rfl⟩:=h;have hle:off+n<=l'.length:=hs;cases hx with
   |osl _ _ _ o a _ hn ho ha=>
    obtain⟨hlen,hcell⟩:=a0O hH hk hle ho;by_cases hκ:E.κ k=0
    ·obtain rfl:n=0:=by omega
     rw[hκ,Nat.zero_sub,List.take_zero];exact b4j hd a
    rw[ha hκ];have:=Src.ofSlice (P:=P) (size:=1) w hd ⟨E.β k,o,none⟩ n (E.κ k-off) (((l'.drop off).take n).map λx=>Value.int .u8 (x.toNat:Int)) (by rw[List.length_map,hlen,Nat.mul_one]) (a04 hcell) (a01 _)
    rw[hlen];exact this
  ·cases h
 ·cases h

theorem a9j(n sz:Nat)(u:Nat->Nat->Value):
  ∃news:List Value,news.length=n*sz/\∀i j,i<n->j<sz->news[i*sz+j]? =some (u i j):=by
 have hlen:∀n,(((List.range n).map λi=>(List.range sz).map λj=>u i j).flatten).length=n*sz:=by
  intro n;induction n with
  |zero=>simp
  |succ n ih=>rw[List.range_succ,List.map_append,List.flatten_append,K6,ih,Nat.add_mul];simp
 refine⟨((List.range n).map λi=>(List.range sz).map λj=>u i j).flatten,hlen n,?_⟩
 induction n with
 |zero=>intro i j hi;omega
 |succ n ih=>
  intro i j hi hj;rw[List.range_succ,List.map_append,List.flatten_append];by_cases h:i<n
  ·rw[tX (by rw[hlen];have:(i+1)*sz<=n*sz:=iN _ h;rw[Nat.add_mul] at this;omega)]
   exact ih i j h hj
  ·obtain rfl:i=n:=by omega
   rw[rK (by rw[hlen];omega),hlen]
   simp[hj]

theorem a4p{n sz j:Nat}(hj:j<n*sz):j/sz<n/\j % sz<sz/\j/sz*sz+j % sz=j:=by
 have hsz:0<sz:=by
  rcases Nat.eq_zero_or_pos sz with h|h
  ·subst h;simp at hj
  ·exact h
 exact⟨(Nat.div_lt_iff_lt_mul hsz).2 hj,Nat.mod_lt _ hsz,by rw[Nat.mul_comm];exact Nat.div_add_mod j sz⟩

theorem a1r{tx e:TypeId}{sz n b o cap:Nat}{row:Nat->List T}{u:Nat->Nat->Value}(hd:P.underlying tx=some (.slice e))
  (hl:∀i,i<n->(row i).length=sz) (h1:∀i t,i<n->t ∈ row i->J7 t=true)
  (hr:∀i j t,i<n->(row i)[j]? =some t->w.cell? ⟨b,o+i*sz+j,none⟩=some (u i j)) (ht:∀i j t,i<n->(row i)[j]? =some t->Rd E w t (u i j)):
  ∃news,Go.Src P sz tx (.slice (some ⟨b,o,none⟩) n cap) n news w/\∀i j t,i<n->(row i)[j]? =some t->∃u,news[i*sz+j]? =some u/\Rd E w t u:=by
 obtain⟨news,hlen,hnews⟩:=a9j n sz u;have key:∀j v,news[j]? =some v->∃i k t,i<n/\(row i)[k]? =some t/\v=u i k/\i*sz+k=j:=by
  intro j v hj;have hlt:j<n*sz:=by rw[←hlen];exact(z5.1 hj).1
  obtain⟨p1,p2,p3⟩:=a4p hlt;have hk:j % sz<(row (j/sz)).length:=by rw[hl _ p1];exact p2
  refine⟨j/sz,j % sz,_,p1,K7 hk,?_,p3⟩
  have:=hnews _ _ p1 p2;rw[p3,hj] at this
  simpa using this
 refine⟨news,Src.ofSlice (P:=P) w hd ⟨b,o,none⟩ n cap news hlen (λj v hj=> ?_) (λv hv=> ?_),λi j t hi hj=> ?_⟩
 ·obtain⟨i,k,t,hi,hk,rfl,rfl⟩:=key j v hj;rw[Addr.add_lit,←Nat.add_assoc];exact hr i k t hi hk
 ·obtain⟨j,hj,rfl⟩:=List.mem_iff_getElem.1 hv;obtain⟨i,k,t,hi,hk,he,_⟩:=key j _ (K7 hj)
  rw[he];exact mY (ht i k t hi hk) (h1 i t hi (B5 hk))
 ·have hj':j<sz:=by rw[←hl i hi];exact(z5.1 hj).1
  exact⟨_,hnews i j hi hj',ht i j t hi hj⟩

theorem pF(row:Nat->List T)(off:Nat):uO row off=λi=>row (off+i):=by
 cases off with
 |zero=>funext i;simp[uO]
 |succ n=>rfl

theorem b0T{w:World}{sz:Nat}{tx e:TypeId}(hd:P.underlying tx=some (.slice e))(a:Option Addr)(c:Nat)(h:c≠0->a.isSome=true):Go.Src P sz tx (.slice a 0 c) 0 [] w:=by
 cases a with
 |none=>
  by_cases hc:c=0
  ·subst hc;exact Src.ofNil (P:=P) w hd 0
  ·have:=h hc;cases this
 |some a=>exact Src.ofSlice (P:=P) w hd a 0 c [] (by simp) (λj u h=>by simp at h) (λ_ h=>by cases h)

theorem rS{off n m:Nat}(h:(wH off n m).getD True):off+n<=m:=h

theorem uZ(hH:HeapOk E w H){tx:TypeId}{sz:Nat}{x:T}{v:Value}{S:Sr}(h:vR H (P.underlying tx) sz x=some S)(hs:S.side.getD True)(hx:Rd E w x v):
  ∃news,Go.Src P sz tx v S.n news w/\(∀i,i<S.n->(S.row i).length=sz)/\(∀i t,i<S.n->t ∈ S.row i->J7 t=true)/\(S.cl=true->∀i t,i<S.n->t ∈ S.row i->W5 t=true)/\
   ∀i j t,i<S.n->(S.row i)[j]? =some t->∃u,news[i*sz+j]? =some u/\Rd E w t u:=by
 unfold vR at h;split at h
 ·rename_i e sz' n row hd;split at h
  ·rename_i hbeq;obtain rfl:=G3 hbeq;simp only[W8] at h;subst h;cases hx with
   |slEmp _ _ a=>exact⟨[],Src.ofSlice (P:=P) w hd a 0 0 [] (by simp) (λj u h=>by simp at h) (λ_ h=>by cases h),λi hi=>absurd hi (by simp),λi t hi=>absurd hi (by simp),λ_ i t hi=>absurd hi (by simp),λi j t hi=>absurd hi (by simp)⟩
   |slNil=>exact⟨[],Src.ofNil (P:=P) w hd 0,λi hi=>absurd hi (by simp),λi t hi=>absurd hi (by simp),λ_ i t hi=>absurd hi (by simp),λi j t hi=>absurd hi (by simp)⟩
   |sl _ _ _ b off cap u hN hcap hl h1 hr ht=>
    obtain⟨news,hsrc,hnews⟩:=a1r (P:=P) (cap:=cap) hd hl (λi t hi h=>(h1 i t hi h).1) hr ht
    exact⟨news,hsrc,hl,λi t hi h=>(h1 i t hi h).1,λ_ i t hi h=>(h1 i t hi h).2,hnews⟩
  ·cases h
 ·rename_i e hd;simp only[W8] at h;subst h;rw[wC hx];exact⟨[],Src.ofNil (P:=P) w hd 0,λi hi=>absurd hi (by simp),λi t hi=>absurd hi (by simp),λ_ i t hi=>absurd hi (by simp),λi j t hi=>absurd hi (by simp)⟩
 ·rename_i e k off n hd;split at h
  ·rename_i cl ty sz' m row hk;split at h
   ·rename_i hbeq;obtain rfl:=G3 hbeq;simp only[W8] at h;subst h;have hle:=rS hs;obtain⟨hL,⟨hz,hn,hl,hone,hcl,cs,ty,hb,hsz,hc⟩,hN⟩:=hH.live _ _ hk;simp only[Ob.toArr] at hz hn hl hone hcl hsz hc;cases hx with
    |osl _ _ _ o a _ hn' ho ha=>
     simp only[pF];by_cases hn0:n=0
     ·subst hn0;refine⟨[],b0T hd a _ (λh0=>ha (by omega)▸rfl),λi hi=>absurd hi (by simp),λi t hi=>absurd hi (by simp),λ_ i t hi=>absurd hi (by simp),λi j t hi=>absurd hi (by simp)⟩
     ·have hob:o=off*sz:=by rw[ho (.inl (by omega)),hz]
      have hb:=hb (by omega)
      rw[ha (by omega)]
      obtain⟨news,hsrc,hnews⟩:=a1r (P:=P) (E:=E) (n:=n) (cap:=E.κ k-off) (b:=E.β k) (o:=o) (row:=λi=>row (off+i)) (u:=λi j=>(cs[(off+i)*sz+j]?).getD undef) hd (λi hi=>hl _ (by omega)) (λi t hi h=>hone _ t (by omega) h)
       (λi j t hi hj=>by
        obtain⟨u,hu,_⟩:=hc (off+i) j t (by omega) hj
        rw[R0 hb,hob,←Nat.add_mul,hu];rfl)
       (λi j t hi hj=>by
        obtain⟨u,hu,hr⟩:=hc (off+i) j t (by omega) hj
        rw[hu];exact hr)
      exact⟨news,hsrc,λi hi=>hl _ (by have:i<n:=hi;omega),λi t hi h=>hone _ t (by have:i<n:=hi;omega) h,λhc i t hi h=>hcl hc _ t (by have:i<n:=hi;omega) h,hnews⟩
   ·cases h
  ·cases h
 ·cases h


theorem xK{e:TypeId}{i:TypeInfo}{z:List T}(hi:P.info? e=some i)(hz:zeroCells P e=some z):∃v,i.zero=some v/\v.cells.size=z.length:=by
 obtain⟨v,_,hrl,i',hi',hzv⟩:=d9 (P:=P) (E:=⟨λ_=>False,λ_=>False,λ_=>0,λ_=>0,λ_=>(0,[]),λ_ _=>False,λ_ _ _ _=>0,λ_ _ _ _=>0⟩) (w:=default) hz
 rw[hi] at hi';simp only[W8] at hi';subst hi';exact⟨v,hzv,hrl.1.symm⟩

theorem Inv.appended(h:Inv c E H w){sz n m:Nat}{old:Nat->Option Value}{news:List Value}{g:Option Nat}{r:Value}{w':World}(ha:Appended w sz n m old news g r w'∨(n+m=0/\w'=w/\∃a,r= .slice a 0 0))
  (H1:Y1) (Gv:Nat->Prop) (hlen:H1.length=H.length) (hH1:∀i o,Z0 H1 i=some o->Z0 H i=some o/\¬Gv i) (hg:∀b,g=some b->∃k o,Gv k/\Z0 H k=some o/\E6 E k o b) (ob:Ob) (hsz:ob.toArr.sz=sz) (hn:ob.toArr.n=n+m)
  (hl:∀i,i<n+m->(ob.toArr.row i).length=sz) (hone:∀i t,i<n+m->t ∈ ob.toArr.row i->J7 t=true) (hcl:ob.toArr.cl=true->∀i t,i<n+m->t ∈ ob.toArr.row i->W5 t=true)
  (hold:∀i j t,i<n->(ob.toArr.row i)[j]? =some t->∃u,old (i*sz+j)=some u/\Rd E w t u)
  (hnew:∀i j t,i<m->(ob.toArr.row (n+i))[j]? =some t->∃u,news[i*sz+j]? =some u/\Rd E w t u) (hia:ob.isArr=true:=by rfl):
  ∃E',Rd E' w' (.osl H.length 0 (n+m)) r/\Inv c E' (H1++[some ob]) w'/\Step E w E' w':=by
 have hnf:∀v ty sz n row,ob≠ .fam v ty sz n row:=by rintro v ty sz n row rfl;cases hia
 have hnL:¬E.L H.length:=λhL=>by have:=h.heap.lt _ hL;omega
 have key:∀i o,Z0 (H1++[some ob]) i=some o->(Z0 H1 i=some o/\i≠H.length)∨(i=H.length/\o=ob):=λi o hi=>by
  rw[v9,hlen] at hi;split at hi
  ·exact .inl ⟨hi,by omega⟩
  ·split at hi
   ·simp only[W8] at hi;exact .inr ⟨by assumption,hi.symm⟩
   ·cases hi
 have fin:∀(b κ:Nat) (cs:Array Value) (ty:TypeId),w'.os=w.os->w'.tape=w.tape->w'.output=w.output->w.heap.size<=w'.heap.size->(∀x,E.N x->w'.heap[x]? =w.heap[x]?)->
   (κ≠0->w.heap.size<=b∨∃k o,Gv k/\Z0 H k=some o/\E6 E k o b)->(∀x,x<w.heap.size->(∀k o,Gv k->Z0 H k=some o->¬E6 E k o x)->w'.heap[x]? =w.heap[x]?)->
   (κ≠0->w'.heap[b]? =some (.cells cs ty (0,0)))->κ*sz<=cs.size->n+m<=κ->(∀i j t,i<n+m->(ob.toArr.row i)[j]? =some t->∃u,cs[i*sz+j]? =some u/\Rd E w t u)->
   Inv c (E.push H.length b κ sz) (H1++[some ob]) w'/\Step E w (E.push H.length b κ sz) w':=by
  intro b κ cs ty ho ht hp hs hN hb hw hblk hcs hκ hrow;have hbk:(E.push H.length b κ sz).β H.length=b:=if_pos rfl;have hκk:(E.push H.length b κ sz).κ H.length=κ:=if_pos rfl;have hzk:(E.push H.length b κ sz).z H.length=(sz,[]):=if_pos rfl;have hst:Step E w (E.push H.length b κ sz) w':=⟨Env.push_le hnL,hN,λi hi=>hi.elim .inl λe=>.inr λj hj=>e▸h.heap.lt j hj⟩
  refine⟨h.to ho ht hp hs hst H.length Gv (λ_ h=>h) (λi o hi hne=> ?_) (λo hi=> ?_) hw (λi hi=> ?_) (λi v hv=>.inl (h.heap.l2 i v hv)) (λo i v hi hv=> ?_),hst⟩
  ·rcases key i o hi with⟨h1,_⟩|⟨h1,_⟩
   ·exact hH1 i o h1
   ·exact absurd h1 hne
  ·rcases key _ o hi with⟨_,h1⟩|⟨_,rfl⟩
   ·exact absurd rfl h1
   ·refine⟨.inr rfl,S9.ob ⟨by rw[hzk];exact hsz.symm,by rw[hκk,hn];exact hκ,λi hi=>by rw[hsz];exact hl i (by omega),λi t hi=>hone i t (by omega),λhc i t hi=>hcl hc i t (by omega),cs,ty,by rw[hκk,hbk];exact hblk,by rw[hκk,hsz,hzk];exact a37 hcs,λi j t hi hj=> ?_⟩ hia,λx hx=> ?_⟩
    ·obtain⟨u,hu,hr⟩:=hrow i j t (by omega) hj
     exact⟨u,by rw[hsz];exact hu,hst.rd hr⟩
    ·obtain⟨h1,rfl⟩:=hx.arr hia;rw[hκk] at h1;rw[hbk];exact hb h1
  ·rcases hi with hi|rfl
   ·have:=h.heap.lt i hi;simp;omega
   ·simp;omega
  ·rcases key i o hi with⟨h1,_⟩|⟨rfl,rfl⟩
   ·exact h.heap.cur i o v (hH1 i o h1).1 hv
   ·exact absurd (h.heap.l2 _ v hv) hnL
 rcases ha with ha|⟨h0,rfl,a,rfl⟩
 ·obtain⟨ho,ht,hp,hsize,hoth,b,cap,cs,tyb,rfl,hcap,hblk,hcs,hbg,hcold,hcnew⟩:=ha;have hother:∀x,x<w.heap.size->(∀k o,Gv k->Z0 H k=some o->¬E6 E k o x)->w'.heap[x]? =w.heap[x]? :=λx hx hn=>hoth x hx λe=>by
   obtain⟨k,o,h1,h2,h3⟩:=hg x e.symm;exact hn k o h1 h2 h3
  have hN:∀x,E.N x->w'.heap[x]? =w.heap[x]? :=λx hx=>hother x (h.nlt x hx) λk o _ h2 h3=>(h.heap.live k o h2).2.2 x h3 hx
  have hrow:∀i j t,i<n+m->(ob.toArr.row i)[j]? =some t->∃u,cs[i*sz+j]? =some u/\Rd E w t u:=by
   intro i j t hi hj;have hj':j<sz:=by rw[←hl i hi];exact(z5.1 hj).1
   by_cases hin:i<n
   ·obtain⟨u,hu,hr⟩:=hold i j t hin hj;have:(i+1)*sz<=n*sz:=iN _ hin;rw[Nat.add_mul] at this;exact⟨u,by rw[hcold _ (by omega)];exact hu,hr⟩
   ·obtain⟨u,hu,hr⟩:=hnew (i-n) j t (by omega) (by rw[show n+(i-n)=i by omega];exact hj)
    have h2:(i-n+1)*sz<=m*sz:=iN _ (by omega)
    rw[Nat.add_mul] at h2;refine⟨u,?_,hr⟩
    rw[show i*sz+j=n*sz+((i-n)*sz+j) by rw[←Nat.add_assoc,←Nat.add_mul,show n+(i-n)=i by omega]]
    rw[hcnew _ (by omega)]
    exact hu
  have:=fin b cap cs tyb ho ht hp hsize hN (λ_=>by rcases hbg with h1|h1;exact .inl h1.1;exact .inr (hg b h1)) hother (λ_=>hblk) hcs hcap hrow
  exact⟨_,bT hcap,this.1,this.2⟩
 ·have:=fin 0 0 #[] 0 rfl rfl rfl (W4 _) (λ_ _=>rfl) (λh=>absurd rfl h) (λ_ _ _=>rfl) (λh=>absurd rfl h) (by simp) (by omega) (λi j t hi=>by omega)
  refine⟨_,?_,this.1,this.2⟩
  have hr:=Rd.osl (E:=E.push H.length 0 0 sz) (w:=w') H.length 0 (n+m) 0 a (.inr rfl) (by rw[show(E.push H.length 0 0 sz).κ H.length=0 from if_pos rfl];omega) (λ_=>by simp) (λh=>absurd (if_pos rfl) h)
  rw[show(E.push H.length 0 0 sz).κ H.length=0 from if_pos rfl,h0] at hr
  rw[h0];exact hr


theorem a0h{k n:Nat}{A:Arr}{dv:Value}(hA:S9 E w k A)(hn:n<=A.n)(hd:Rd E w (.osl k 0 n) dv):∃(cs:Array Value) (g:Option Nat),
  ((∃a,dv= .slice a 0 0/\n=0/\g=none)∨∃b cap cur tyb,dv= .slice (some ⟨b,0,none⟩) n cap/\g=some b/\w.heap[b]? =some (.cells cur tyb (0,0))/\n<=cap/\cap*A.sz<=cur.size/\∀j,j<n*A.sz->cur[j]? =cs[j]?)/\
  (∀b,g=some b->E.κ k≠0/\b=E.β k)/\∀i j t,i<A.n->(A.row i)[j]? =some t->∃u,cs[i*A.sz+j]? =some u/\Rd E w t u:=by
 obtain⟨hz,hnk,hl,hone,hcl,cs,ty,hblk,hcs,hc⟩:=hA;cases hd with
 |osl _ _ _ o a _ hn' ho ha=>
  obtain rfl:o=0:=by rw[ho (.inr rfl),Nat.zero_mul]
  by_cases hκ:E.κ k=0
  ·refine⟨cs,none,.inl ⟨a,by rw[hκ,show n=0 by omega],by omega,rfl⟩,λb h=>(by cases h),hc⟩
  ·refine⟨cs,some (E.β k),.inr ⟨_,_,cs,ty,by rw[ha hκ,Nat.sub_zero],rfl,hblk hκ,by omega,hcs.le,λ_ _=>rfl⟩,λb h=>⟨hκ,(Option.some.inj h).symm⟩,hc⟩

theorem a0Y{k:Nat}{o0:Ob}(hk:Z0 H k=some o0):∀i o,Z0 (H.set k none) i=some o->Z0 H i=some o/\¬i=k:=by
 intro i o hi;rw[U0 (J2 hk)] at hi;split at hi
 ·cases hi
 ·rename_i hne;exact⟨hi,hne⟩

theorem D7{row row':Nat->List T}{n r:Nat}(h:r<n):X3 row n row' r=row r:=by
 unfold X3;rw[show Nat.blt r n=true from by simp[Nat.blt];omega]

theorem D8{row row':Nat->List T}{n r:Nat}(h:¬r<n):X3 row n row' r=row' (r-n):=by
 unfold X3;rw[show Nat.blt r n=false from Bool.eq_false_iff.2 λh'=>h (v6 h')]

theorem tO(l:List UInt8)(i:Nat)(t:T)(h:t ∈ I4 l i):J7 t=true/\W5 t=true:=by
 simp[I4] at h;subst h;exact⟨rfl,rfl⟩

theorem pI{l:List UInt8}{i j:Nat}{t:T}(h:(I4 l i)[j]? =some t):j=0/\t= .int .u8 ((l.getD i 0).toNat:Int):=by
 have hj:j=0:=by
  have:=(z5.1 h).1
  simp[I4] at this;exact this
 subst hj;simp[I4] at h;exact⟨rfl,h.symm⟩

theorem eI{l:List UInt8}{i:Nat}(hi:i<l.length):∃u,(l.map λx=>Value.int .u8 (x.toNat:Int))[i*1+0]? =some u/\Rd E w (.int .u8 ((l.getD i 0).toNat:Int)) u:=by
 refine⟨.int .u8 (l[i].toNat:Int),by simp[hi],?_⟩
 rw[show l.getD i 0=l[i] by simp[List.getD,hi]]
 exact .int _ _

theorem b6H(hH:HeapOk E w H){tx e:TypeId}(hd:P.underlying tx=some (.slice e)){sz:Nat}{x:T}{v:Value}{S:SrF}(h:b6m H sz x=some S)(hs:S.side.getD True)(hx:Rd E w x v)(hnd:S.ks.Nodup):
  ∃(news:List Value) (sm:Nat->Option Nat),Go.Src P sz tx v S.n news w/\(∀i,i<S.n->(S.row i).length=sz)/\
   (∀i j t,i<S.n->(S.row i)[j]? =some t->∃u,news[i*sz+j]? =some u/\((closedOne t=true/\Rd E w t u)∨∃m nn N oty osz orow,t= .own oty osz nn orow/\Rd E w (.osl m 0 nn) u/\Z0 H m=some (.arr true oty osz N orow)/\nn<=N/\m ∈ S.ks/\i=0/\sm j=some m))/\
   ∀j j' m,sm j=some m->sm j'=some m->j=j':=by
 unfold b6m at h;split at h
 case h_2=>cases h
 rename_i k off n;split at h
 ·rename_i ty sz' m row hk;split at h
  case h_2=>cases h
  rename_i hbeq;simp only[W8] at h;subst h;have hT:vR H (P.underlying tx) sz (.osl k off n)=some ⟨true,n,uO row off,wH off n m⟩:=by
   simp only[vR,hd,hk,hbeq]
  obtain⟨news,h1,h2,h3,h4,h5⟩:=uZ (P:=P) hH hT hs hx;refine⟨news,λ_=>none,h1,h2,λi j t hi hj=> ?_,λj j' m h=>by cases h⟩
  obtain⟨u,hu,hr⟩:=h5 i j t hi hj;have hm:=B5 hj;exact⟨u,hu,.inl ⟨by simp[closedOne,h3 i t hi hm,h4 rfl i t hi hm],hr⟩⟩
 ·rename_i ty sz' m row hk;split at h
  case h_2=>cases h
  rename_i hbeq;split at h
  case h_2=>cases h
  rename_i A hA;simp only[W8] at h;subst h;have hT:vR H (P.underlying tx) sz (.osl k 0 1)=some ⟨false,1,uO row 0,wH 0 1 1⟩:=by
   simp only[vR,hd,hk,hbeq]
  obtain⟨news,h1,h2,h3,h4,h5⟩:=uZ (P:=P) hH hT (W4 1) hx;have hR:=kT hA hs;refine⟨news,c8 (row 0),h1,λi hi=>by rw[hR.length];exact h2 0 (Nat.lt_succ_self 0),λi j t hi hj=> ?_,λj j' m h h'=>hR.inj hnd h h'⟩
  obtain rfl:i=0:=by have:i<1:=hi;omega
  rcases hR.get hj with⟨g1,g2⟩|⟨m,nn,N,oty,osz,orow,rfl,g2,g3,g4,g5⟩
  ·obtain⟨u,hu,hr⟩:=h5 0 j t (Nat.lt_succ_self 0) g2;exact⟨u,hu,.inl ⟨g1,hr⟩⟩
  ·obtain⟨u,hu,hr⟩:=h5 0 j _ (Nat.lt_succ_self 0) g2;exact⟨u,hu,.inr ⟨m,nn,N,oty,osz,orow,rfl,hr,g3,g4,g5,rfl,by simp[c8,g2]⟩⟩
 ·cases h

theorem a4j(h:Inv c E H w){t tx ty e:TypeId}{i:TypeInfo}{z:List T}{zv:Value}{k n vv N:Nat}{tyb:TypeId}{row:Nat->List T}{x:T}{S:SrF}{dv xv:Value}{e2:TypeId}(ht:P.underlying t=some (.slice e))(hi:P.info? e=some i)(_hz:zeroCells P e=some z)
  (hzv:i.zero=some zv) (hzs:zv.cells.size=i.size) (hk:Z0 H k=some (.fam vv tyb i.size N row)) (hdx:P.underlying tx=some (.slice e2)) (hsf:b6m H i.size x=some S) (hnd:oR (k::S.ks)=true) (hls:S.side.getD True) (hle:n<=N) (hab:W6 n S.n i.bytes)
  (hd:Rd E w (.osl k 0 n) dv) (hx:Rd E w x xv):
  ∃r w' E',(Builtin.append_ #[t,tx] ty #[dv,xv]).run P w= .ok r w'/\Rd E' w' (.osl H.length 0 (n+S.n)) r/\Inv c E' (H6 H (k::S.ks)++[some (.fam 0 e i.size (n+S.n) (X3 row n S.row))]) w'/\Step E w E' w':=by
 have hnd:=gD hnd;obtain⟨hkn,hnd⟩:=List.nodup_cons.1 hnd;obtain⟨news,sm,hsrc,hsl,hnews,hsm⟩:=b6H (P:=P) h.heap hdx hsf hls hx hnd;obtain⟨hL,hF,hN⟩:=h.heap.live _ _ hk;have hF:FamOk E w k vv tyb i.size N row:=hF;obtain⟨cs,g,hdd,hg,hc⟩:=a0h hF.arr hle hd;obtain⟨r,w',hrun,ha⟩:=G1 (P:=P) (ty:=ty) ht hi hzv hzs hsrc n hab dv (λj=>cs[j]?) g hdd
 have hlr:∀r,r<N->(row r).length=i.size:=λr hr=>by have:=hF.arr.2.2.1 r hr;rwa [P0] at this
 have hnL:¬E.L H.length:=λhL=>by have:=h.heap.lt _ hL;omega
 let Ss:b8l:=λr q=>if r<n then .inl (r,q) else match sm q with|some m=>.inr m|none=>.inl (0,0)
 have hlA:∀r,r<n+S.n->(X3 row n S.row r).length=i.size:=λr hr=>by
  by_cases h1:r<n
  ·rw[D7 h1];exact hlr r (by omega)
  ·rw[D8 h1];exact hsl _ (by omega)
 have fin:∀(b κ:Nat) (cs':Array Value) (tyc:TypeId),w'.os=w.os->w'.tape=w.tape->w'.output=w.output->w.heap.size<=w'.heap.size->
   (∀x,x<w.heap.size->(E.κ k≠0->x≠E.β k)->w'.heap[x]? =w.heap[x]?)->(κ≠0->w.heap.size<=b∨(E.κ k≠0/\b=E.β k))->
   (κ≠0->w'.heap[b]? =some (.cells cs' tyc (0,0)))->κ*i.size<=cs'.size->n+S.n<=κ->(∀j,j<n*i.size->cs'[j]? =cs[j]?)->(∀j,j<S.n*i.size->cs'[n*i.size+j]? =news[j]?)->
   ∃E',E'.κ H.length=κ/\E'.β H.length=b/\E'.z H.length=(i.size,[])/\E'.L H.length/\Inv c E' (H6 H (k::S.ks)++[some (.fam 0 e i.size (n+S.n) (X3 row n S.row))]) w'/\Step E w E' w':=by
  intro b κ cs' tyc ho htp hop hsz hoth hb hblk hcs hκ hcold hcnew;have hN1:∀x,E.N x->w'.heap[x]? =w.heap[x]? :=λx hx=>hoth x (h.nlt x hx) λhκ e=>hN x (.inl ⟨hκ,e⟩) hx
  let E1:=E.push H.length b κ i.size
  have hle1:E.le E1:=Env.push_le hnL;have hn2:¬E1.L2 H.length 0:=λhu=>hnL (h.heap.l2 _ _ hu)
  let E':=E1.bump H.length 0 (λr q=>sZ E k vv (Ss r q)) (λr q=>nZ E k vv (Ss r q))
  have hst:Step E w E' w':=⟨hle1.trans (Env.bump_le hn2),hN1,λi hi=>hi.elim .inl λe=>.inr λj hj=>e▸h.heap.lt j hj⟩
  have hb2:∀r q,E'.b2 H.length 0 r q=sZ E k vv (Ss r q):=λr q=>if_pos ⟨rfl,rfl⟩
  have hc2:∀r q,E'.c2 H.length 0 r q=nZ E k vv (Ss r q):=λr q=>if_pos ⟨rfl,rfl⟩
  have hbk:E'.β H.length=b:=if_pos rfl;have hκk:E'.κ H.length=κ:=if_pos rfl;have hzk:E'.z H.length=(i.size,[]):=if_pos rfl;have key:∀q o,Z0 (H6 H (k::S.ks)++[some (.fam 0 e i.size (n+S.n) (X3 row n S.row))]) q=some o->(Z0 H q=some o/\q ∉ k::S.ks/\q≠H.length)∨(q=H.length/\o= .fam 0 e i.size (n+S.n) (X3 row n S.row)):=λq o hq=>by
   rw[v9,J3] at hq;split at hq
   ·obtain⟨g1,g2⟩:=N9 hq;exact .inl ⟨g1,g2,by omega⟩
   ·split at hq
    ·simp only[W8] at hq;exact .inr ⟨by assumption,hq.symm⟩
    ·cases hq
  have other:∀x,((∃r q,x=E.b2 k vv r q/\E.c2 k vv r q≠0/\a5u E k (.fam vv tyb i.size N row) x)∨∃m o,m≠k/\Z0 H m=some o/\E6 E m o x)->x<w.heap.size/\(E.κ k≠0->x≠E.β k):=by
   intro x hx;rcases hx with⟨r,q,rfl,hcq,v0,ty0,sz0,n0,V7,i0,j0,oty,osz,on,orow,hobe,hi0,hj0,hc0,he0⟩|⟨m,o,hmk,hmo,hmb⟩
   ·simp only[Ob.fam.injEq] at hobe;obtain⟨rfl,rfl,rfl,rfl,rfl⟩:=hobe;refine⟨h.heap.blt hk (.inr ⟨_,_,_,_,_,i0,j0,oty,osz,on,orow,rfl,hi0,hj0,hc0,he0⟩),λhκ0=> ?_⟩
    rw[he0];exact(hF.own i0 j0 _ _ _ _ hi0 hj0).2 hc0 hκ0
   ·refine⟨h.heap.blt hmo hmb,λhκ0=> ?_⟩
    rintro rfl;exact hmk (h.heap.inj m k _ _ _ hmo hk hmb (.inl ⟨hκ0,rfl⟩))
  have cells:∀r q t,r<n+S.n->(X3 row n S.row r)[q]? =some t->∃u,cs'[r*i.size+q]? =some u/\((closedOne t=true/\Rd E w t u)∨∃oty osz on orow,t= .own oty osz on orow/\a6g E w H k vv N row osz on orow u (Ss r q)/\(r<n∨∃m,¬r<n/\r-n=0/\sm q=some m/\m ∈ S.ks/\Ss r q= .inr m)):=by
   intro r q t hr hq;have hql:q<i.size:=by rw[←hlA r hr];exact(z5.1 hq).1
   by_cases h1:r<n
   ·rw[D7 h1] at hq;obtain⟨u,hu,hru⟩:=hc r q (uJ k vv r q t) (by simp only;omega) (by simp only;rw[M4,hq];rfl)
    have:(r+1)*i.size<=n*i.size:=iN _ h1;rw[Nat.add_mul] at this;refine⟨u,by rw[hcold _ (by omega)];exact hu,?_⟩
    rcases hF.cell (show r<N by omega) hq with hcl|⟨oty,osz,on,orow,rfl⟩
    ·rw[O3 hcl] at hru;exact .inl ⟨hcl,hru⟩
    ·refine .inr ⟨_,_,_,_,rfl,?_,.inl h1⟩
     rw[show Ss r q= .inl (r,q) from if_pos h1]
     exact⟨show r<N by omega,⟨_,hq⟩,hru⟩
   ·rw[D8 h1] at hq;obtain⟨u,hu,hru⟩:=hnews (r-n) q t (by omega) hq
    have h2:(r-n+1)*i.size<=S.n*i.size:=iN _ (by omega)
    rw[Nat.add_mul] at h2;refine⟨u,?_,?_⟩
    ·rw[show r*i.size+q=n*i.size+((r-n)*i.size+q) by rw[←Nat.add_assoc,←Nat.add_mul,show n+(r-n)=r by omega]]
     rw[hcnew _ (by omega)]
     exact hu
    ·rcases hru with hru|⟨m,nn,NN,oty,osz,orow,rfl,g1,g2,g3,g4,g5,g6⟩
     ·exact .inl hru
     ·have hSs:Ss r q= .inr m:=by simp only[Ss,if_neg h1,g6]
      refine .inr ⟨_,_,_,_,rfl,?_,.inr ⟨m,h1,g5,g6,g4,hSs⟩⟩
      rw[hSs];exact⟨λe=>hkn (e▸g4),⟨_,_,g2,g3⟩,g1⟩
  have hFam:FamOk E' w' H.length 0 e i.size (n+S.n) (X3 row n S.row):=by
   refine a06 (E:=E) (w:=w) h.heap hst hk Ss (.inr ⟨rfl,rfl⟩) hb2 hc2 (by rw[hzk]) (by rw[hκk];exact hκ) cs' tyc (by rw[hκk,hbk];exact hblk) (by rw[hκk,hzk];exact a37 hcs) hlA (λr q t hr hq=> ?_) (λi1 j1 i2 j2 oty osz on orow oty' osz' on' orow' h1 h2 h3 h4 h5=> ?_) (λx hx=>hoth x (other x hx).1 (other x hx).2) (λx hx hκ0=> ?_)
   ·obtain⟨u,hu,h1|⟨oty,osz,on,orow,rfl,h1,_⟩⟩:=cells r q t hr hq
    ·exact⟨u,hu,.inl h1⟩
    ·exact⟨u,hu,.inr ⟨_,_,_,_,rfl,h1⟩⟩
   ·obtain⟨_,_,hc1|⟨_,_,_,_,_,_,p1⟩⟩:=cells i1 j1 _ h1 h3
    ·simp[closedOne,W5] at hc1
    obtain⟨_,_,hc1|⟨_,_,_,_,_,_,p2⟩⟩:=cells i2 j2 _ h2 h4
    ·simp[closedOne,W5] at hc1
    rcases p1 with p1|⟨m1,p1,p3,p5,p7,p9⟩
    ·rcases p2 with p2|⟨m2,p2,p4,p6,p8,p10⟩
     ·rw[show Ss i1 j1= .inl (i1,j1) from if_pos p1,show Ss i2 j2= .inl (i2,j2) from if_pos p2] at h5
      simp only[Sum.inl.injEq,T5] at h5;exact h5
     ·rw[show Ss i1 j1= .inl (i1,j1) from if_pos p1,p10] at h5
      cases h5
    ·rcases p2 with p2|⟨m2,p2,p4,p6,p8,p10⟩
     ·rw[show Ss i2 j2= .inl (i2,j2) from if_pos p2,p9] at h5
      cases h5
     ·rw[p9,p10] at h5;simp only[Sum.inr.injEq] at h5;subst h5;exact⟨by omega,hsm _ _ _ p5 p6⟩
   ·rw[hκk] at hκ0;rw[hbk];obtain⟨o1,o2⟩:=other x hx;rcases hb hκ0 with h1|⟨h1,rfl⟩
    ·omega
    ·exact o2 h1
  refine⟨E',hκk,hbk,hzk,.inr rfl,h.to ho htp hop hsz hst H.length (λm=>m ∈ k::S.ks) (λ_ h=>h) (λq o hq hne=> ?_) (λo hq=> ?_) (λx hx hn=>hoth x hx λhκ0 e=>hn k _ (by simp) hk (.inl ⟨hκ0,e⟩)) (λq hq=> ?_) (λq u hu=> ?_) (λo q u hq hu=> ?_),hst⟩
  ·rcases key q o hq with⟨g1,g2,_⟩|⟨g1,_⟩
   ·exact⟨g1,g2⟩
   ·exact absurd g1 hne
  ·rcases key _ o hq with⟨_,_,g1⟩|⟨_,rfl⟩
   ·exact absurd rfl g1
   ·refine⟨.inr rfl,hFam,λx hx=> ?_⟩
    rcases hx with⟨g1,rfl⟩|⟨v0,ty0,sz0,n0,V7,i0,j0,oty,osz,on,orow,hobe,hi0,hj0,hc0,rfl⟩
    ·rw[hκk] at g1;rw[hbk];rcases hb g1 with g2|g2
     ·exact .inl g2
     ·exact .inr ⟨k,_,by simp,hk,.inl g2⟩
    ·simp only[Ob.fam.injEq] at hobe;obtain⟨rfl,rfl,rfl,rfl,rfl⟩:=hobe;rw[hc2] at hc0;rw[hb2];obtain⟨_,_,hc1|⟨_,_,_,_,he1,hs1,p1⟩⟩:=cells i0 j0 _ hi0 hj0
     ·simp[closedOne,W5] at hc1
     ·rcases p1 with p1|⟨m1,p1,p3,p5,p7,p9⟩
      ·rw[show Ss i0 j0= .inl (i0,j0) from if_pos p1] at hs1 hc0 ⊢
       obtain⟨q1,⟨oty1,q2⟩,_⟩:=hs1;exact .inr ⟨k,_,by simp,hk,.inr ⟨_,_,_,_,_,_,_,_,_,_,_,rfl,q1,q2,hc0,rfl⟩⟩
      ·rw[p9] at hs1 hc0 ⊢;obtain⟨_,⟨oty1,N1,q2,_⟩,_⟩:=hs1;exact .inr ⟨m1,_,by simp[p7],q2,.inl ⟨hc0,rfl⟩⟩
  ·rcases hq with hq|rfl
   ·have:=h.heap.lt q hq;simp[J3];omega
   ·simp[J3]
  ·rcases hu with hu|⟨rfl,_⟩
   ·exact .inl (h.heap.l2 _ _ hu)
   ·exact .inr rfl
  ·rcases key q o hq with⟨g1,_,g2⟩|⟨rfl,rfl⟩
   ·rcases hu with hu|⟨e1,_⟩
    ·exact h.heap.cur _ _ _ g1 hu
    ·exact absurd e1 g2
   ·refine⟨_,_,_,_,_,rfl,?_⟩
    rcases hu with hu|⟨_,rfl⟩
    ·exact absurd (h.heap.l2 _ _ hu) hnL
    ·exact W4 _
 rcases ha with ha|⟨h0,rfl,a,rfl⟩
 ·obtain⟨ho,htp,hop,hsize,hoth,b,cap,cs',tyc,rfl,hcap,hblk,hcs,hbg,hcold,hcnew⟩:=ha;obtain⟨E',e1,e2,e3,e4,hI,hst⟩:=fin b cap cs' tyc ho htp hop hsize (λx hx hn=>hoth x hx λe=>by obtain⟨g1,g2⟩:=hg x e.symm;exact hn g1 g2) (λ_=>by rcases hbg with h1|h1;exact .inl h1.1;exact .inr (hg b h1)) (λ_=>hblk) hcs hcap hcold hcnew
  refine⟨_,w',E',hrun,?_,hI,hst⟩
  have:=Rd.osl (E:=E') (w:=w') H.length 0 (n+S.n) 0 (some ⟨b,0,none⟩) e4 (by rw[e1];omega) (λ_=>by simp) (λ_=>by rw[e2])
  rw[e1] at this;exact this
 ·obtain⟨E',e1,e2,e3,e4,hI,hst⟩:=fin 0 0 #[] 0 rfl rfl rfl (W4 _) (λ_ _ _=>rfl) (λh=>absurd rfl h) (λh=>absurd rfl h) (by simp) (by omega) (λj hj=>by rw[show n=0 by omega] at hj;omega) (λj hj=>by rw[show S.n=0 by omega] at hj;omega)
  refine⟨_,_,E',hrun,?_,hI,hst⟩
  have hr:=Rd.osl (E:=E') (w:=w') H.length 0 (n+S.n) 0 a e4 (by rw[e1];omega) (λ_=>by simp) (λh=>absurd e1 h)
  rw[e1,h0] at hr;rw[h0];exact hr

theorem oK(h:Inv c E H w){t tx ty:TypeId}{d x:T}{dv xv:Value}{y:T}{H':Y1}{side:Option Prop}(he:rA P H t tx d x=some (y,H',side))(hs:side.getD True)(hd:Rd E w d dv)(hx:Rd E w x xv):
  ∃r w' E',(Builtin.append_ #[t,tx] ty #[dv,xv]).run P w= .ok r w'/\Rd E' w' y r/\Inv c E' H' w'/\Step E w E' w':=by
 unfold rA at he;split at he
 case h_2=>cases he
 rename_i e ht;split at he
 case h_2=>cases he
 rename_i i z hi hz;obtain⟨zv,hzv,hzl⟩:=xK hi hz;split at he
 ·-- a nil slice
  rename_i h1 h2;have hzs:zv.cells.size=i.size:=by rw[hzl];exact G3 h1
  rw[wC hd];split at he
  ·rename_i hb;have hz1:=(zO hb).2;rw[hz] at hz1;simp only[W8] at hz1;have hs1:i.size=1:=by rw[←G3 h1,hz1];rfl
   cases hsb:A4 H (P.underlying tx) x with
   |none=>rw[hsb] at he;cases he
   |some S=>
    obtain⟨l,ls⟩:=S;rw[hsb] at he;simp only[j8,W8,T5] at he;obtain⟨rfl,rfl,rfl⟩:=he;obtain⟨hls,hpos,hab⟩:=xX hs;have hpos:0<l.length:=hpos;have hsrc:=a7e h.heap hsb hls hx;obtain⟨r,w',hrun,ha⟩:=G1 (P:=P) (ty:=ty) ht hi hzv hzs (by rw[hs1];exact hsrc) 0 hab (.slice none 0 0) (λ_=>none) none (.inl ⟨none,rfl,rfl,rfl⟩)
    rw[hs1] at ha;have:=h.appended ha H (λ_=>False) rfl (λi o h=>⟨h,λh=>h⟩) (λb h=>by cases h) (.bys e l) rfl (by simp[Ob.toArr]) (λ_ _=>rfl) (λi t _ ht=>(tO l i t ht).1) (λ_ i t _ ht=>(tO l i t ht).2) (λi j t hi=>absurd hi (by omega))
     (λi j t hi hj=>by
      simp only[G9] at hj;obtain⟨rfl,rfl⟩:=pI hj;exact eI hi)
    obtain⟨E',hr,hI,hst⟩:=this;rw[G9] at hr;exact⟨r,w',E',hrun,hr,hI,hst⟩
  ·cases hsb:vR H (P.underlying tx) i.size x with
   |none=>rw[hsb] at he;cases he
   |some S=>
    rw[hsb] at he;simp only[j8,W8,T5] at he;obtain⟨rfl,rfl,rfl⟩:=he;obtain⟨hls,hpos,hab⟩:=xX hs;have hpos:0<S.n:=hpos;obtain⟨news,hsrc,hl,hone,hcl,hnews⟩:=uZ (P:=P) h.heap hsb hls hx;obtain⟨r,w',hrun,ha⟩:=G1 (P:=P) (ty:=ty) ht hi hzv hzs hsrc 0 hab (.slice none 0 0) (λ_=>none) none (.inl ⟨none,rfl,rfl,rfl⟩)
    have:=h.appended ha H (λ_=>False) rfl (λi o h=>⟨h,λh=>h⟩) (λb h=>by cases h) (.arr S.cl e i.size S.n S.row) rfl (by simp[Ob.toArr]) (λi hi=>hl i (by omega)) (λi t hi ht=>hone i t (by omega) ht) (λhc i t hi ht=>hcl hc i t (by omega) ht) (λi j t hi=>absurd hi (by omega))
     (λi j t hi hj=>by
      simp only[G9] at hj;exact hnews i j t hi hj)
    obtain⟨E',hr,hI,hst⟩:=this;rw[G9] at hr;exact⟨r,w',E',hrun,hr,hI,hst⟩
 ·-- an empty slice
  rename_i h1 h2;have hzs:zv.cells.size=i.size:=by rw[hzl];exact G3 h1
  obtain⟨a0,rfl⟩:∃a0,dv= .slice a0 0 0:=by cases hd with|emp a=>exact⟨a,rfl⟩
  split at he
  ·cases he
  ·cases hsb:vR H (P.underlying tx) i.size x with
   |none=>rw[hsb] at he;cases he
   |some S=>
    rw[hsb] at he;simp only[j8,W8,T5] at he;obtain⟨rfl,rfl,rfl⟩:=he;obtain⟨hls,hab⟩:=xX hs;obtain⟨news,hsrc,hl,hone,hcl,hnews⟩:=uZ (P:=P) h.heap hsb hls hx;obtain⟨r,w',hrun,ha⟩:=G1 (P:=P) (ty:=ty) ht hi hzv hzs hsrc 0 hab (.slice a0 0 0) (λ_=>none) none (.inl ⟨a0,rfl,rfl,rfl⟩)
    have:=h.appended ha H (λ_=>False) rfl (λi o h=>⟨h,λh=>h⟩) (λb h=>by cases h) (.arr S.cl e i.size S.n S.row) rfl (by simp[Ob.toArr]) (λi hi=>hl i (by omega)) (λi t hi ht=>hone i t (by omega) ht) (λhc i t hi ht=>hcl hc i t (by omega) ht) (λi j t hi=>absurd hi (by omega))
     (λi j t hi hj=>by
      simp only[G9] at hj;exact hnews i j t hi hj)
    obtain⟨E',hr,hI,hst⟩:=this;rw[G9] at hr;exact⟨r,w',E',hrun,hr,hI,hst⟩
 ·rename_i k n h1 h2;have hzs:zv.cells.size=i.size:=by rw[hzl];exact G3 h1
  split at he
  ·-- bytes
   rename_i tyb l hk;split at he
   case h_2=>cases he
   rename_i hb;have hz1:=(zO hb).2;rw[hz] at hz1;simp only[W8] at hz1;have hbu:i.size=1:=by rw[←G3 h1,hz1];rfl
   cases hsb:A4 H (P.underlying tx) x with
   |none=>rw[hsb] at he;cases he
   |some S=>
    obtain⟨m,ls⟩:=S;rw[hsb] at he;simp only[j8,W8,T5] at he;obtain⟨rfl,rfl,rfl⟩:=he;obtain⟨hls,hle,hab⟩:=xX hs;have hle:n<=l.length:=hle;have hsrc:=a7e h.heap hsb hls hx;have hA:S9 E w k ⟨true,tyb,1,l.length,I4 l⟩:=(h.heap.live _ _ hk).2.1;obtain⟨cs,g,hdd,hg,hc⟩:=a0h hA hle hd;obtain⟨r,w',hrun,ha⟩:=G1 (P:=P) (ty:=ty) ht hi hzv hzs (by rw[hbu];exact hsrc) n hab dv (λj=>cs[j]?) g (by rw[hbu];exact hdd)
    rw[hbu] at ha;have hlen:(l.take n++m).length=n+m.length:=by simp;omega
    have:=h.appended ha (H.set k none) (λi=>i=k) (by simp) (a0Y hk) (λb hb=>⟨k,_,rfl,hk,.inl (hg b hb)⟩) (.bys e (l.take n++m)) rfl hlen (λ_ _=>rfl) (λi t _ ht=>(tO _ i t ht).1) (λ_ i t _ ht=>(tO _ i t ht).2)
      (λi j t hi hj=>by
       obtain⟨rfl,rfl⟩:=pI hj;obtain⟨u,hu,hr⟩:=hc i 0 (.int .u8 ((l.getD i 0).toNat:Int)) (by simp only;omega) rfl
       refine⟨u,hu,?_⟩
       rw[show(l.take n++m).getD i 0=l.getD i 0 by
        simp only[List.getD];rw[tX (by simp;omega),List.getElem?_take,if_pos hi]]
       exact hr)
      (λi j t hi hj=>by
       obtain⟨rfl,rfl⟩:=pI hj;rw[show(l.take n++m).getD (n+i) 0=m.getD i 0 by
        simp only[List.getD];rw[rK (by simp;omega)]
        congr 2
        simp;omega]
       exact eI hi)
    obtain⟨E',hr,hI,hst⟩:=this;exact⟨r,w',E',hrun,hr,hI,hst⟩
  ·rename_i cl tyb sz N row hk;split at he
   case h_2=>cases he
   rename_i hbeq;obtain rfl:=G3 hbeq;cases hsb:vR H (P.underlying tx) i.size x with
   |none=>rw[hsb] at he;cases he
   |some S=>
    rw[hsb] at he;simp only[j8,W8,T5] at he;obtain⟨rfl,rfl,rfl⟩:=he;obtain⟨hls,hle,hab⟩:=xX hs;have hle:n<=N:=hle;obtain⟨news,hsrc,hsl,hsone,hscl,hnews⟩:=uZ (P:=P) h.heap hsb hls hx;have hA:S9 E w k ⟨cl,tyb,i.size,N,row⟩:=(h.heap.live _ _ hk).2.1;obtain⟨cs,g,hdd,hg,hc⟩:=a0h hA hle hd;obtain⟨hz',hn,hl,hone,hcl,_⟩:=hA;obtain⟨r,w',hrun,ha⟩:=G1 (P:=P) (ty:=ty) ht hi hzv hzs hsrc n hab dv (λj=>cs[j]?) g hdd
    have:=h.appended ha (H.set k none) (λi=>i=k) (by simp) (a0Y hk) (λb hb=>⟨k,_,rfl,hk,.inl (hg b hb)⟩) (.arr (cl&&S.cl) e i.size (n+S.n) (X3 row n S.row)) rfl rfl
      (λr hr=>by
       simp only[Ob.toArr];by_cases h:r<n
       ·rw[D7 h];exact hl r (by simp only;omega)
       ·rw[D8 h];exact hsl _ (by omega))
      (λr t hr ht=>by
       simp only[Ob.toArr] at ht;by_cases h:r<n
       ·rw[D7 h] at ht;exact hone r t (by simp only;omega) ht
       ·rw[D8 h] at ht;exact hsone _ t (by omega) ht)
      (λhcc r t hr ht=>by
       simp only[Ob.toArr,L3] at ht hcc;by_cases h:r<n
       ·rw[D7 h] at ht;exact hcl hcc.1 r t (by simp only;omega) ht
       ·rw[D8 h] at ht;exact hscl hcc.2 _ t (by omega) ht)
      (λr j t hr hj=>by
       simp only[Ob.toArr] at hj;rw[D7 hr] at hj;exact hc r j t (wM hr hle) hj)
      (λr j t hr hj=>by
       simp only[Ob.toArr] at hj;rw[D8 (by omega),show n+r-n=r by omega] at hj
       exact hnews r j t hr hj)
    obtain⟨E',hr,hI,hst⟩:=this;exact⟨r,w',E',hrun,hr,hI,hst⟩
  ·-- rows with cells that own rows
   rename_i vv tyb sz N row hk;split at he
   case h_2=>cases he
   rename_i S hbeq hdx hsf;split at he
   case h_2=>cases he
   rename_i hnd;obtain rfl:=G3 hbeq;simp only[W8,T5] at he;obtain⟨rfl,rfl,rfl⟩:=he;obtain⟨hls,hle,hab⟩:=xX hs;exact a4j h ht hi hz hzv hzs hk hdx hsf hnd hls hle hab hd hx
  ·cases he
 ·cases he

end
end Go.SS
