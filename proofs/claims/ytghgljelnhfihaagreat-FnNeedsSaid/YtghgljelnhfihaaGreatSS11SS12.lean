/- A part of the proof. -/
import Derived.Test.YtghgljelnhfihaaGreatSS10
namespace Go.SS
open Go.RowKit
section
variable {c:Ctx} {E:Env} {H:Y1} {w w':World} {P:Program}

def Env.addN(E:Env)(p:Nat->Prop):Env:={E with N:=λb=>E.N b∨p b}

theorem Env.addN_le(E:Env)(p:Nat->Prop):E.le (E.addN p):=⟨λ_ h=>.inl h,λ_ h=>h,λ_ _=>rfl,λ_ _=>rfl,λ_ _=>rfl,λ_ _ h=>h,λ_ _ _ _ _=>rfl,λ_ _ _ _ _=>rfl⟩

theorem Inv.grow(h:Inv c E H w)(ho:w'.os=w.os)(ht:w'.tape=w.tape)(hp:w'.output=w.output)(hsz:w.heap.size<=w'.heap.size)(hw:∀b,b<w.heap.size->w'.heap[b]? =w.heap[b]?):
  Inv c (E.addN λb=>w.heap.size<=b/\b<w'.heap.size) H w'/\Step E w (E.addN λb=>w.heap.size<=b/\b<w'.heap.size) w':=by
 have hstep:Step E w (E.addN λb=>w.heap.size<=b/\b<w'.heap.size) w':=⟨E.addN_le _,λb hb=>hw b (h.nlt b hb),λ_ h=>.inl h⟩
 refine⟨⟨⟨λk ob hk=> ?_,h.heap.inj,h.heap.lt,h.heap.l2,h.heap.cur⟩,λb hb=> ?_,λb hb=> ?_,h.bnew,h.fr.heap ho ht hp hsz (λb h1 h2=>hw b (by have:=h.fr.size;omega)),h.keep.step hstep⟩,hstep⟩
 ·obtain⟨h1,h2,h3⟩:=h.heap.live k ob hk;refine⟨h1,h2.mono h1 hstep (λb hb=>hw b (h2.blt hb)),λb hb hN=> ?_⟩
  have hb:E6 E k ob b:=hb;rcases hN with hN|hN
  ·exact h3 b hb hN
  ·have:=h2.blt hb;have:=hN.1;omega
 ·rcases hb with hb|hb
  ·have:=h.nlt b hb;omega
  ·exact hb.2
 ·rcases hb with hb|hb
  ·exact h.nnew b hb
  ·have:=h.fr.size;exact .inr (.inl (by omega))

theorem a2b(h:Inv c E H w){src dst e:TypeId}{l:List UInt8}(hs:P.underlying src=some .string)(hd:P.underlying dst=some (.slice e))(he:o5 P e=true):
  ∃r w' E',(convert src dst (.string ⟨l.toArray⟩)).run P w= .ok r w'/\Rd E' w' (.bys l) r/\Inv c E' H w'/\Step E w E' w':=by
 have hrun:=run_bytes_of_string (P:=P) w src dst e ⟨l.toArray⟩ hs hd (zO he).1;have hsz:(ByteArray.mk l.toArray).size=l.length:=by simp[ByteArray.size]
 rw[hsz] at hrun;refine⟨_,_,_,hrun,?_,h.grow (w':=w.drew.alloc _) rfl rfl rfl (by simp) (λb hb=>heap_alloc_old w.drew _ hb)⟩
 have hge:=grownCap_ge w l.length 0 e;refine .bys l w.heap.size 0 _ (.inr ⟨W4 _,by simp⟩) hge (λi x hx=> ?_)
 have hlt:i<l.length:=(z5.1 hx).1
 have hnew:=heap_alloc_new w.drew (.cells (bytesRow ⟨l.toArray⟩ (grownCap w l.length 0 e)) e ((bytesRow ⟨l.toArray⟩ (grownCap w l.length 0 e)).size,(bytesRow ⟨l.toArray⟩ (grownCap w l.length 0 e)).size+1));have hcell:=R0 (i:=0+i) hnew;refine hcell.trans ?_
 rw[G9,bytesRow_at ⟨l.toArray⟩ _ i (by simpa using hlt)]
 simp only[List.getElem_toArray];rw[(z5.1 hx).2]

theorem a1k:∀{cs:List T} {l:List Int},a2F cs=some l->∀k,k<cs.length->(cs.drop k).take 1=[.int .i64 (l.getD k 0)]
 | [],_,_,k,hk=>absurd hk (J5 k)
 |c::cs,l,h,k,hk=>by
  unfold a2F at h;split at h
  ·rename_i h0;cases h0
  ·rename_i n r h0;simp only[List.cons.injEq] at h0;obtain⟨rfl,rfl⟩:=h0;simp only[I3] at h;obtain⟨l',hl,rfl⟩:=h;cases k with
   |zero=>rfl
   |succ k=>exact a1k hl k (by simpa using hk)
  ·cases h
theorem b5F(cs:List T)(sz len:Nat)(k:Nat)(hk:k<len):b8H cs sz len k=(cs.drop (k*sz)).take sz:=by
 unfold b8H;cases hl:a2F cs with
 |none=>rfl
 |some l=>
  cases hb:Nat.beq sz 1&&Nat.beq cs.length len with
  |false=>rfl
  |true=>
   simp only[L3] at hb;have e1:=G3 hb.1;have e2:=G3 hb.2;rw[e1,Nat.mul_one];exact(a1k hl k (by omega)).symm
theorem Rd.rows{sz n:Nat}{row row':Nat->List T}{v:Value}(h:Rd E w (.sl sz n row) v)(e:∀i,i<n->row' i=row i):Rd E w (.sl sz n row') v:=by
 cases h with
 |slNil=>exact .slNil _ _
 |slEmp=>exact .slEmp _ _ _
 |sl _ _ _ b off cap u hN hc hl h1 hr ht=>
  exact .sl sz n row' b off cap u hN hc (λi hi=>by rw[e i hi];exact hl i hi) (λi t hi hm=>h1 i t hi (by rw[←e i hi];exact hm)) (λi j t hi hj=>hr i j t hi (by rw[←e i hi];exact hj)) (λi j t hi hj=>ht i j t hi (by rw[←e i hi];exact hj))

theorem c0f(h:Inv c E H w){a:Act}{s:V5}{t:TypeId}{len:Nat}{parts:Array (Nat×Operand)}{y:T}{side:Option Prop}(he:aV P s t len parts=some (y,side))(hop:∀p ∈ parts.toList,I0 E w a s p.2):
  ∃r w' E',(Instr.buildSlice t len (parts.map λ(i,x)=>(i,a.eval x))).run P w= .ok r w'/\Rd E' w' y r/\Inv c E' H w'/\Step E w E' w':=by
 unfold aV at he;split at he
 ·rename_i e hu;split at he
  ·rename_i i z hi hz;split at he
   ·rename_i h1 h2 h3;split at he
    ·rename_i cs hfill;split at he
     ·rename_i _ hone hcl;simp only[W8,T5] at he;obtain⟨rfl,rfl⟩:=he;obtain⟨us,hrun,hout,hcslen⟩:=fQ h hu hi hz h1 h2 h3 hfill hop;obtain⟨a1,a2,a3,a4,a5⟩:=F9 w (.cells us e);obtain⟨hI,hS⟩:=h.grow (w':=w.alloc (.cells us e)) a1 a2 a3 (by simp) a4
      have at_:∀r j t,r<len->((cs.drop (r*i.size)).take i.size)[j]? =some t->cs[r*i.size+j]? =some t/\us[r*i.size+j]? =some (us.getD (r*i.size+j) undef):=by
       intro r j t hr hj;rw[List.getElem?_take] at hj
       split at hj
       ·rw[List.getElem?_drop] at hj
        have hlt:=(z5.1 hj).1
        refine⟨hj,?_⟩
        have hlu:r*i.size+j<us.size:=by have:=hout.1;omega
        rw[Array.getD_eq_getD_getElem?,rL hlu]
        rfl
       ·cases hj
      refine⟨_,_,_,hrun,Rd.rows (row:=λk=>(cs.drop (k*i.size)).take i.size) ?_ (b5F cs i.size len),hI,hS⟩
      refine .sl i.size len _ w.heap.size 0 len (λr j=>us.getD (r*i.size+j) undef) (.inr ⟨W4 _,by simp⟩) (W4 _) (λr hr=> ?_) (λr t hr ht=> ?_) (λr j t hr hj=> ?_) (λr j t hr hj=> ?_)
      ·have:(r+1)*i.size<=len*i.size:=iN _ hr;rw[Nat.add_mul] at this;simp only[List.length_take,List.length_drop];omega
      ·have hm:=List.mem_of_mem_drop (List.mem_of_mem_take ht);exact⟨i5.1 hone t hm,i5.1 hcl t hm⟩
      ·rw[G9];exact(R0 a5).trans (at_ r j t hr hj).2
      ·obtain⟨q1,q2⟩:=at_ r j t hr hj;exact hS.rd (hout.2 _ _ _ q1 q2)
     ·cases he
    ·cases he
   ·cases he
  ·cases he
 ·cases he

theorem b4W(h:Inv c E H w){a:Act}{s:V5}{t:TypeId}{parts:Array (Nat×Operand)}{y:T}{side:Option Prop}(he:a52 P s (.buildSlice t 0 parts)=some (y,side)):
  ∃r w' E',(Instr.buildSlice t 0 (parts.map λ(i,x)=>(i,a.eval x))).run P w= .ok r w'/\Rd E' w' y r/\Inv c E' H w'/\Step E w E' w':=by
 simp only[a52] at he;split at he
 case h_2=>cases he
 rename_i e hu hp;obtain rfl:parts= #[]:=Array.ext' (by simpa using hp)
 split at he
 case h_2=>cases he
 rename_i i z hi hz;split at he
 case h_2=>cases he
 rename_i h1 h2;simp only[W8,T5] at he;obtain⟨rfl,rfl⟩:=he;obtain⟨us,hrun,_,_⟩:=fQ (a:=a) (s:=s) (len:=0) (parts:= #[]) (cs:=[]) h hu hi hz h1 h2 (by simp) rfl (λp hp=>by simp at hp)
 obtain⟨a1,a2,a3,a4,a5⟩:=F9 w (.cells us e);obtain⟨hI,hS⟩:=h.grow (w':=w.alloc (.cells us e)) a1 a2 a3 (by simp) a4
 exact⟨_,_,_,hrun,.emp _,hI,hS⟩

theorem a0P{u:Option TypeDesc}{sz:Nat}{x:T}{q:Sr}(h:vR [] u sz x=some q):vR H u sz x=some q:=by
 unfold vR at h ⊢;split at h
 ·exact h
 ·exact h
 ·cases h
 ·cases h

theorem b6F(h:Inv c E H w){t tx ty e:TypeId}{x:T}{dv xv:Value}{i:TypeInfo}{z:List T}{q:Sr}(hu:P.underlying t=some (.slice e))(hi:P.info? e=some i)(hz:zeroCells P e=some z)(hl:Nat.beq z.length i.size=true)
  (hq:vR [] (P.underlying tx) i.size x=some q) (hcl:q.cl=true) (hs:iX q.side (W6 0 q.n i.bytes)) (hd:Rd E w .emp dv) (hx:Rd E w x xv):
  ∃r w' E',(Builtin.append_ #[t,tx] ty #[dv,xv]).run P w= .ok r w'/\Rd E' w' (.sl i.size q.n q.row) r/\Inv c E' H w'/\Step E w E' w':=by
 obtain⟨zv,hzv,hzl⟩:=xK hi hz;have hzs:zv.cells.size=i.size:=by rw[hzl];exact G3 hl
 obtain⟨a0,rfl⟩:∃a0,dv= .slice a0 0 0:=by cases hd with|emp a=>exact⟨a,rfl⟩
 obtain⟨hls,hab⟩:=xX hs;obtain⟨news,hsrc,hlen,hone,hcl',hnews⟩:=uZ (P:=P) h.heap (a0P hq) hls hx;obtain⟨r,w',hrun,ha⟩:=G1 (P:=P) (ty:=ty) hu hi hzv hzs hsrc 0 hab (.slice a0 0 0) (λ_=>none) none (.inl ⟨a0,rfl,rfl,rfl⟩)
 rcases ha with ha|⟨hm,rfl,a1,rfl⟩
 ·obtain⟨ho,ht,hp,hsize,hoth,b,cap,cs,tyb,rfl,hcap,hblk,hcs,hbg,_,hnew⟩:=ha;have hold:∀b,b<w.heap.size->w'.heap[b]? =w.heap[b]? :=λb hb=>hoth b hb (by simp)
  obtain⟨hI,hS⟩:=h.grow (w':=w') ho ht hp hsize hold;refine⟨_,w',_,hrun,?_,hI,hS⟩
  have hge:w.heap.size<=b:=by
   rcases hbg with h1|h1
   ·exact h1.1
   ·cases h1
  rw[G9] at hcap ⊢;refine .sl i.size q.n q.row b 0 cap (λr j=>(news[r*i.size+j]?).getD undef) (.inr ⟨hge,C3 hblk⟩) hcap hlen (λr t hr ht=>⟨hone r t hr ht,hcl' hcl r t hr ht⟩) (λr j t hr hj=> ?_) (λr j t hr hj=> ?_)
  ·obtain⟨u,hu',_⟩:=hnews r j t hr hj;have hj':j<i.size:=by rw[←hlen r hr];exact(z5.1 hj).1
   have hlt:r*i.size+j<q.n*i.size:=by
    have:(r+1)*i.size<=q.n*i.size:=iN _ hr;rw[Nat.add_mul] at this;omega
   have:=hnew _ hlt;rw[Nat.zero_mul,G9] at this;rw[G9,R0 hblk,this,hu'];rfl
  ·obtain⟨u,hu',hr'⟩:=hnews r j t hr hj;rw[hu'];exact hS.rd hr'
 ·refine⟨_,w',E,hrun,?_,h,Step.refl E w'⟩
  rw[show q.n=0 by omega]
  cases a1 with
  |none=>exact .slNil _ _
  |some a=>exact .slEmp _ _ _

theorem a60(h:Inv c E H w)(ty:TypeId)(sz:Nat):Inv c (E.push H.length 0 0 sz) (H++[some (.arr true ty sz 0 λ_=>[])]) w/\Step E w (E.push H.length 0 0 sz) w:=
 h.push (ob:=.arr true ty sz 0 λ_=>[]) rfl rfl rfl (W4 _) (λ_ _=>rfl) 0 0 #[] 0 (λh=>absurd rfl h) (λh=>absurd rfl h) (by simp) (W4 0) (λi hi=>absurd hi (J5 _)) (λi t hi=>absurd hi (J5 _)) (λ_ i t hi=>absurd hi (J5 _)) (λi j t hi=>absurd hi (J5 _))

theorem a4c{k sz:Nat}(a:Option Addr):Rd (E.push k 0 0 sz) w (.osl k 0 0) (.slice a 0 0):=by
 have:=Rd.osl (E:=E.push k 0 0 sz) (w:=w) k 0 0 0 a (.inr rfl) (S7 _) (λ_=>by simp) (λh=>absurd (if_pos rfl) h)
 rwa [show(E.push k 0 0 sz).κ k=0 from if_pos rfl] at this

theorem b1x{x:T}{v:Value}(h:a6b x=true)(hx:Rd E w x v):∃a n m,v= .slice a n m:=by
 cases hx with
 |slNil=>exact⟨_,_,_,rfl⟩
 |sl=>exact⟨_,_,_,rfl⟩
 |slEmp=>exact⟨_,_,_,rfl⟩
 |osl=>exact⟨_,_,_,rfl⟩
 |posl=>exact⟨_,_,_,rfl⟩
 |v x=>
  unfold a6b at h;split at h
  ·rename_i hh;cases hh
  ·rename_i hh;cases hh
  ·rename_i hh;cases hh
  ·rename_i hh;simp only[T.v.injEq] at hh;exact⟨_,_,_,hh⟩
  ·cases h
 |_=>simp[a6b] at h

theorem a3Y{x:T}{v:Value}(h:isZ x=true)(hx:Rd E w x v):∃k,v= .int k 0:=by
 unfold isZ at h;split at h
 ·rename_i k i;rw[K5 hx,C7 h];exact⟨_,rfl⟩
 ·cases h

theorem a88(h:Inv c E H w){t:TypeId}{x hi mx y:T}{lo:Option T}{v hv mv:Value}{lv:Option Value}{H':Y1}{side:Option Prop}(he:qH P H t x lo hi mx=some (y,H',side))(hx:Rd E w x v)
  (hlo:∀x,lo=some x->∃v,lv=some v/\Rd E w x v) (hlo':lo=none->lv=none) (hhi:Rd E w hi hv) (hmx:Rd E w mx mv):
  ∃r E',(Instr.sliceAt t v lv (some hv) (some mv)).run P w= .ok r w/\Rd E' w y r/\Inv c E' H' w/\Step E w E' w:=by
 unfold qH at he;split at he
 ·rename_i e hu hb;simp only[L3] at hb;obtain⟨⟨⟨b1,b2⟩,b3⟩,b4⟩:=hb;split at he
  ·rename_i i hi;split at he
   ·rename_i hz hc;simp only[W8,T5] at he;obtain⟨rfl,rfl,rfl⟩:=he;obtain⟨a,n,m,rfl⟩:=b1x b1 hx;obtain⟨k1,rfl⟩:=a3Y b3 hhi;obtain⟨k2,rfl⟩:=a3Y b4 hmx;have hl:lv=none∨∃k3,lv=some (.int k3 0):=by
     cases lo with
     |none=>exact .inl (hlo' rfl)
     |some t0=>
      obtain⟨v0,hv0,hr0⟩:=hlo t0 rfl;obtain⟨k3,rfl⟩:=a3Y b2 hr0;exact .inr ⟨k3,hv0⟩
    obtain⟨g1,g2⟩:=a60 h e i.size;refine⟨.slice a 0 0,_,?_,a4c a,g1,g2⟩
    rcases hl with rfl|⟨k3,rfl⟩
    ·simp[Instr.sliceAt,Instr.slice,run_underlying hu,Instr.sliceBounds,Instr.sliceBound,Result.andThen,asIntOf,(N8 (w:=w) hc).1]
    ·simp[Instr.sliceAt,Instr.slice,run_underlying hu,Instr.sliceBounds,Instr.sliceBound,Result.andThen,asIntOf,(N8 (w:=w) hc).1]
   ·cases he
  ·cases he
 ·cases he

theorem b7O{z:Array Value}{n r q:Nat}(hr:r<n)(hq:q<z.size):(Builtin.zeroCells z n).toList[r*z.size+q]? =z[q]? :=by
 have hlt:r*z.size+q<n*z.size:=by
  have:(r+1)*z.size<=n*z.size:=iN _ hr;rw[Nat.add_mul] at this;omega
 have hm:(r*z.size+q) % z.size=q:=by rw[Nat.add_comm,Nat.add_mul_mod_self_right,Nat.mod_eq_of_lt hq]
 unfold Builtin.zeroCells;rw[Array.getElem?_toList,Array.getElem?_map,Array.getElem?_range,if_pos hlt]
 simp only[j8,hm];rw[getElem!_pos z q hq];exact(rL hq).symm

theorem b10(h:Inv c E H w){t ty:TypeId}{x:T}{xv:Value}{y:T}{H':Y1}{side:Option Prop}(he:a0F P H t x=some (y,H',side))(hs:side.getD True)(hx:Rd E w x xv):
  ∃w',(Builtin.clear_ #[t] ty #[xv]).run P w= .ok (.tuple #[]) w'/\y= .und/\Inv c E H' w'/\Step E w E w':=by
 unfold a0F at he;split at he
 case h_2=>cases he
 rename_i e k off n hu;split at he
 case h_2=>cases he
 rename_i i z tyb sz N row hi hz hk;split at he
 case h_2=>cases he
 rename_i hb;simp only[W8,T5] at he;obtain⟨rfl,rfl,rfl⟩:=he;simp only[L3,xP] at hb;obtain⟨⟨⟨b1,b2⟩,b3⟩,b4⟩:=hb;have hzl:z.length=i.size:=G3 b1;obtain rfl:sz=i.size:=G3 b2;have hle:off+n<=N:=hs;have hA:S9 E w k ⟨true,tyb,i.size,N,row⟩:=(h.heap.live k _ hk).2.1;have hA0:=hA;obtain⟨hz1,hnk,hl,hone,hcl,cs,tyc,hblk,hcs,hr⟩:=hA0;simp only at hz1 hnk hl hone hcl hcs hr;cases hx with
 |osl _ _ _ o a hL hn ho ha=>
  by_cases hn0:n=0
  ·subst hn0;have hrow:K1 row off 0 z=row:=funext λj=>by
    unfold K1;cases h1:Nat.ble off j&&Nat.blt j (off+0) with
    |false=>rfl
    |true=>
     simp only[L3] at h1;have:=v6 h1.1;have:j<off+0:=v6 h1.2;omega
   have hH:H.set k (some (.arr true tyb i.size N row))=H:=by
    apply List.ext_getElem?
    intro j;rw[List.getElem?_set]
    split
    ·rename_i e1;subst e1;have hlt:=J2 hk;rw[if_pos hlt];unfold Z0 at hk;rw[K7 hlt] at hk ⊢
     simp only[Option.bind_some,id] at hk;rw[hk]
    ·rfl
   rw[hrow,hH];refine⟨w,?_,rfl,h,Step.refl E w⟩
   cases a<;>simp[Builtin.clear_,run_underlying hu]
  ·have hκ:E.κ k≠0:=by omega
   obtain rfl:o=off*i.size:=by rw[ho (.inl (by omega)),hz1]
   obtain⟨v,hv,hrl,i',hi',hzv⟩:=d9 (E:=E) (w:=w) hz;rw[hi] at hi';simp only[W8] at hi';subst hi';have hvs:v.cells.size=i.size:=by rw[←hrl.1];exact hzl
   have hlen:(Builtin.zeroCells v.cells n).toList.length=n*i.size:=by rw[Array.length_toList,size_zeroCells,hvs]
   have hle2:(off+n)*i.size<=E.κ k*i.size:=iN _ (by omega)
   have hget:∀r q,r<n->q<i.size->(Builtin.zeroCells v.cells n).toList[r*i.size+q]? =v.cells[q]? :=λr q hr hq=>by
    have:=b7O (z:=v.cells) hr (by rw[hvs];exact hq)
    rwa [hvs] at this
   have hz0:0<i.size:=Nat.pos_of_ne_zero (Nat.ne_of_beq_eq_false b3);have hones:∀u ∈ (Builtin.zeroCells v.cells n).toList,u.oneCell'=true:=by
    intro u hu;obtain⟨m,hm,rfl⟩:=List.mem_iff_getElem.1 hu;have hm':m<n*i.size:=by rw[←hlen];exact hm
    have hd:m/i.size<n:=(Nat.div_lt_iff_lt_mul hz0).2 hm';have hq:m % i.size<i.size:=Nat.mod_lt _ hz0;have e1:m=m/i.size*i.size+m % i.size:=by rw[Nat.mul_comm];exact(Nat.div_add_mod m i.size).symm
    have hg:=hget _ _ hd hq;rw[←e1,K7 hm] at hg
    have hzq:z[m % i.size]? =some z[m % i.size]:=K7 (by omega)
    exact mY (hrl.2 _ _ _ hzq hg.symm) (N4 (i5.1 b4 _ (List.getElem_mem _))).2
   obtain⟨w',hst,hos,htp,hop,hsize,hoth,cs',hb',hcs',hout,hin⟩:=m9 P w (E.β k) (off*i.size) tyc cs (Builtin.zeroCells v.cells n).toList (hblk hκ) (by
    rw[hlen,←Nat.add_mul];exact Nat.le_trans hle2 hcs.le) hones
   have hclr:∀j,K1 row off n z j=z∨K1 row off n z j=row j:=λj=>by
    unfold K1;split
    ·exact .inl rfl
    ·exact .inr rfl
   have hzz:∀t ∈ z,W5 t=true/\J7 t=true:=λt ht=>N4 (i5.1 b4 t ht)
   refine⟨w',?_,rfl,h.write hk rfl hos htp hop (by omega) (λb _ hne=>hoth b hne) hκ (.arr true tyb i.size N (K1 row off n z)) cs' tyc hb' hz1.symm (by
    rw[hz1];exact hcs.keep hcs' λq hq=>hout q (.inr (by rw[hlen,←Nat.add_mul];omega))) hnk (λj hj=> ?_) (λj t hj ht=> ?_) (λ_ j t hj ht=> ?_) (λj q t hj hq=> ?_)⟩
   ·rw[ha hκ];obtain⟨m,rfl⟩:∃m,n=m+1:=⟨n-1,by omega⟩
    simp[Builtin.clear_,run_underlying hu,hv,hst]
   ·rcases hclr j with e1|e1
    ·rw[show(Ob.arr true tyb i.size N (K1 row off n z)).toArr.row j=z from e1];exact hzl
    ·rw[show(Ob.arr true tyb i.size N (K1 row off n z)).toArr.row j=row j from e1];exact hl j hj
   ·rcases hclr j with e1|e1
    ·rw[show(Ob.arr true tyb i.size N (K1 row off n z)).toArr.row j=z from e1] at ht;exact(hzz t ht).2
    ·rw[show(Ob.arr true tyb i.size N (K1 row off n z)).toArr.row j=row j from e1] at ht;exact hone j t hj ht
   ·rcases hclr j with e1|e1
    ·rw[show(Ob.arr true tyb i.size N (K1 row off n z)).toArr.row j=z from e1] at ht;exact(hzz t ht).1
    ·rw[show(Ob.arr true tyb i.size N (K1 row off n z)).toArr.row j=row j from e1] at ht;exact hA.2.2.2.2.1 rfl j t hj ht
   ·have hq':(K1 row off n z j)[q]? =some t:=hq;show ∃u,cs'[j*i.size+q]? =some u/\_;have hqs:q<i.size:=by
     have:=(z5.1 hq').1
     rcases hclr j with e1|e1
     ·rw[e1,hzl] at this;exact this
     ·rw[e1,hl j hj] at this;exact this
    by_cases hin':off<=j/\j<off+n
    ·have e1:K1 row off n z j=z:=by
      unfold K1;rw[show(Nat.ble off j&&Nat.blt j (off+n))=true by rw[Nat.ble_eq_true_of_le hin'.1,show Nat.blt j (off+n)=true from Nat.ble_eq_true_of_le hin'.2];rfl]
     rw[e1] at hq';have hg:=hget (j-off) q (by omega) hqs
     have hlt:(j-off)*i.size+q<(Builtin.zeroCells v.cells n).toList.length:=by
      rw[hlen];have:(j-off+1)*i.size<=n*i.size:=iN _ (by omega)
      rw[Nat.add_mul] at this;omega
     have h2:=hin _ hlt;rw[hg] at h2;have hvq:v.cells[q]? =some (v.cells[q]'(by omega)):=rL _
     refine⟨_,?_,hrl.2 q t _ hq' hvq⟩
     rw[←hvq,←h2];congr 1
     rw[←Nat.add_assoc,←Nat.add_mul];congr 2
     omega
    ·have e1:K1 row off n z j=row j:=by
      unfold K1;cases h1:Nat.ble off j&&Nat.blt j (off+n) with
      |false=>rfl
      |true=>
       simp only[L3] at h1;exact absurd ⟨v6 h1.1,v6 h1.2⟩ hin'
     rw[e1] at hq';obtain⟨u,hu',hru⟩:=hr j q t hj hq';refine⟨u,?_,hru⟩
     rw[hout _ ?_]
     ·exact hu'
     ·rw[hlen,←Nat.add_mul];by_cases hj2:j<off
      ·refine .inl ?_
       have:(j+1)*i.size<=off*i.size:=iN _ hj2;rw[Nat.add_mul] at this;omega
      ·refine .inr ?_
       have:(off+n)*i.size<=j*i.size:=iN _ (by omega)
       omega

theorem b79(h:Inv c E H w){a:Act}{s:V5}{o:Oper}{y:T}{H':Y1}{side:Option Prop}(he:D3 P s H o.op=some (y,H',side))(hs:side.getD True)(hop:∀x ∈ S1 o.op,I0 E w a s x):
  ∃w' E',((∃v,(execOp a.eval o).run P w= .ok (.value v) w'/\Rd E' w' y v)∨((execOp a.eval o).run P w= .ok .skip w'/\y= .und))/\Inv c E' H' w'/\Step E w E' w':=by
 have lift:∀{m:Sem Value} {v:Value} {w':World},m.run P w= .ok v w'->(do pure (Next.value (←m)):Sem Next).run P w= .ok (.value v) w':=by
  intro m v w' hm;simp only[H4,hm,I1,D5]
 obtain⟨dst,op,ty,pos,after,guard⟩:=o;simp only at he hop ⊢;unfold D3 at he;split at he
 case h_1 t x=>
  split at he
  ·rename_i hp;have hx:=hop x (by simp[S1,Op.operands])
   obtain⟨E',h1,h2,h3⟩:=b0j h he (zS hx hp);refine⟨_,E',.inl ⟨_,?_,h3⟩,h1,h2⟩
   refine lift (m:=Instr.box t (a.eval x)) ?_
   simp only[Instr.box,newVar,newRow,H4,run_newObj,I1,D5];rfl
  ·cases he
 case h_2 t=>
  split at he
  ·rename_i z hz;obtain⟨v,hv,hrl,_⟩:=d9 (E:=E) (w:=w) hz;obtain⟨E',h1,h2,h3⟩:=b0j h he hrl;refine⟨_,E',.inl ⟨_,?_,h3⟩,h1,h2⟩
   refine lift (m:=Instr.alloc t true (.tuple #[])) ?_
   simp only[Instr.alloc,newVar,newRow,H4,hv,run_newObj,I1,D5];rfl
  ·cases he
 case h_3 t ad x=>
  cases hst:tT P H t (M7 s ad) (M7 s x) with
  |none=>rw[hst] at he;cases he
  |some r=>
   rw[hst] at he;simp only[j8,W8,T5] at he;obtain⟨rfl,rfl,rfl⟩:=he;obtain⟨w',E',hrun,h1,h2⟩:=b2S (P:=P) h hst hs (hop ad (by simp[S1,Op.operands])) (hop x (by simp[S1,Op.operands]))
   refine⟨w',E',.inr ⟨?_,rfl⟩,h1,h2⟩
   simp only[execOp,H4,hrun,I1,D5]
 case h_4 t l m=>
  obtain⟨r,w',E',hrun,h1,h2,h3⟩:=b5x (P:=P) h he hs (hop l (by simp[S1,Op.operands])) (hop m (by simp[S1,Op.operands]))
  exact⟨w',E',.inl ⟨r,lift hrun,h1⟩,h2,h3⟩
 case h_5 t len parts=>
  obtain⟨r,w',E',hrun,h1,h2,h3⟩:=hJ (P:=P) (a:=a) h he hs (λp hp=>hop p.2 (by simp only[S1,Op.operands,List.mem_map];exact⟨p,hp,rfl⟩))
  exact⟨w',E',.inl ⟨r,lift hrun,h1⟩,h2,h3⟩
 case h_6 src dst' x=>
  split at he
  ·rename_i e l hu hd hx;split at he
   ·rename_i hb;simp only[W8,T5] at he;obtain⟨rfl,rfl,rfl⟩:=he;have hxo:=hop x (by simp[S1,Op.operands])
    unfold I0 at hxo;rw[hx] at hxo;obtain⟨r,w',E',hrun,h1,h2,h3⟩:=a2b (P:=P) (l:=l) h hu hd hb;refine⟨w',E',.inl ⟨r,lift (m:=convert src dst' (a.eval x)) ?_,h1⟩,h2,h3⟩
    rw[xN hxo];exact hrun
   ·cases he
  ·cases he
 case h_7 args argTypes=>
  split at he
  ·rename_i d x t tx ha hat;obtain rfl:args= #[d,x]:=Array.ext' (by simpa using ha)
   obtain rfl:argTypes= #[t,tx]:=Array.ext' (by simpa using hat)
   obtain⟨r,w',E',hrun,h1,h2,h3⟩:=oK (P:=P) (ty:=ty) h he hs (hop d (by simp[S1,Op.operands,Call.operands])) (hop x (by simp[S1,Op.operands,Call.operands]))
   refine⟨w',E',.inl ⟨r,?_,h1⟩,h2,h3⟩
   simp[execOp,resolve,invoke,builtin,hrun,Result.andThen]
  ·cases he
 case h_8 t=>
  cases hst:wN P H t with
  |none=>rw[hst] at he;cases he
  |some r=>
   rw[hst] at he;simp only[j8,W8,T5] at he;obtain⟨rfl,rfl,rfl⟩:=he;obtain⟨r',w',E',hrun,h1,h2,h3⟩:=a5J (P:=P) h hst;exact⟨w',E',.inl ⟨r',lift (m:=Instr.makeMap t none) hrun,h1⟩,h2,h3⟩
 case h_9 t m k x=>
  split at he
  ·rename_i r hst;simp only[W8,T5] at he;obtain⟨rfl,rfl,rfl⟩:=he;obtain⟨w',hrun,h1,h2⟩:=b3X (P:=P) h hst (hop m (by simp[S1,Op.operands])) (hop k (by simp[S1,Op.operands])) (hop x (by simp[S1,Op.operands]))
   refine⟨w',E,.inr ⟨?_,rfl⟩,h1,h2⟩
   simp only[execOp,H4,hrun,I1,D5]
  ·cases hst:qB P H t (M7 s m) (M7 s k) (M7 s x) with
   |none=>rw[hst] at he;cases he
   |some r=>
    rw[hst] at he;simp only[j8,W8,T5] at he;obtain⟨rfl,rfl,rfl⟩:=he;obtain⟨w',hrun,h1,h2⟩:=a9T (P:=P) h hst hs (hop m (by simp[S1,Op.operands])) (hop k (by simp[S1,Op.operands])) (hop x (by simp[S1,Op.operands]))
    refine⟨w',E,.inr ⟨?_,rfl⟩,h1,h2⟩
    simp only[execOp,H4,hrun,I1,D5]
 case h_10 t x lo hi mx=>
  obtain⟨r,E',hrun,h1,h2,h3⟩:=a88 (P:=P) (lv:=lo.map a.eval) h he (hop x (by simp[S1,Op.operands])) (λt ht=>by
   cases lo with
   |none=>cases ht
   |some q=>
    simp only[j8,W8] at ht;subst ht;exact⟨_,rfl,hop q (by simp[S1,Op.operands])⟩) (λhn=>by
   cases lo with
   |none=>rfl
   |some q=>cases hn) (hop hi (by simp[S1,Op.operands])) (hop mx (by simp[S1,Op.operands]))
  exact⟨w,E',.inl ⟨r,lift hrun,h1⟩,h2,h3⟩
 case h_11 args argTypes=>
  split at he
  ·rename_i x t ha hat;obtain rfl:args= #[x]:=Array.ext' (by simpa using ha)
   obtain rfl:argTypes= #[t]:=Array.ext' (by simpa using hat)
   obtain⟨w',hrun,rfl,h2,h3⟩:=b10 (P:=P) (ty:=ty) h he hs (hop x (by simp[S1,Op.operands,Call.operands]))
   refine⟨w',E,.inl ⟨.tuple #[],?_,.und _⟩,h2,h3⟩
   simp[execOp,resolve,invoke,builtin,hrun,Result.andThen]
  ·cases he
 case h_12=>cases he

end
end Go.SS
/- A calculus of symbolic states: calls that only read. -/
namespace Go.SS
open Go.RowKit

def U1(P:Program)(f:FuncId)(args:List T)(res:T):Prop:=
 ∀(E:Env) (w:World) (vs:Array Value),(∀k,¬E.L k/\∀v,¬E.L2 k v)->(∀b,E.N b->b<w.heap.size)->vB E w args vs->
  Calls P f vs w λe w'=>∃v,e= .returned v/\Below w.heap.size w w'/\Rd (E.addN λb=>w.heap.size<=b/\b<w'.heap.size) w' res v

def a0s(P:Program)(f:FuncId)(c:List T->Option (T×Option Prop)):Prop:=
 ∀args res p,c args=some (res,p)->p.getD True->U1 P f args res

def XB(E:Env)(H:Y1)(b:Nat):Prop:=∃k ob,Z0 H k=some ob/\E6 E k ob b

def H3(P:Program)(f:FuncId)(args:List T)(H:Y1)(res:T)(H':Y1):Prop:=
 ∀(E:Env) (w:World) (vs:Array Value),HeapOk E w H->(∀b,E.N b->b<w.heap.size)->vB E w args vs->
  Calls P f vs w λe w'=>∃v E',e= .returned v/\Inv ⟨w,XB E H,E.N,0,E,0⟩ E' H' w'/\Stp E w E' w'/\Rd E' w' res v

def kH(P:Program)(f:FuncId)(c:List T->Y1->Option (T×Y1×Option Prop)):Prop:=
 ∀args H res H' p,c args H=some (res,H',p)->p.getD True->H3 P f args H res H'

def pE(t:T):Bool:=
 match t with
 | .osl .. | .ref .. =>true
 |t=>wD t

def sE:Nat->T->Bool
 |0,_=>false
 |d+1,t=>match t with
  | .agg cs=>cs.all (sE d)
  | .tup cs=>cs.all (sE d)
  |t=>pE t

def b8y(t:T):Prop:=
 match t with
 | .own _ _ n row=>∀i,i<n->∀t ∈ row i,wD t=true
 |t=>wD t=true

def aO:Ob->Prop
 | .arr true _ _ n row=>∀i,i<n->∀t ∈ row i,wD t=true
 | .arr false _ _ n row=>n=1/\∀t ∈ row 0,pE t=true
 | .fam _ _ _ n row=>∀i,i<n->∀t ∈ row i,b8y t
 | .bys _ _=>True
 | .mp _ _=>True
 | .mp2 _=>True

def H5(H:Y1):Prop:=∀k ob,Z0 H k=some ob->aO ob

def b9U(P:Program)(f:FuncId)(c:List T->Option (T×Y1×Option Prop)):Prop:=
 ∀args res H' p,c args=some (res,H',p)->p.getD True->H3 P f args [] res H'/\sE 6 res=true/\H5 H'

def b9V(P:Program)(f:FuncId)(r:Rle):Prop:=∀x,r.side x->H3 P f (r.args x) (r.pre x) (r.res x) (r.post x)
def c1p(P:Program)(f:FuncId)(r:Rle):Prop:=∀x,r.side x->H3 P f (r.args x) [] (r.res x) (r.post x)/\sE 6 (r.res x)=true/\H5 (r.post x)

def b6T(P:Program)(f:FuncId)(r:Rl):Prop:=∀x,r.side x->U1 P f (r.args x) (r.res x)

def a3c(P:Program)(f:FuncId):Con->Prop
 | .pure c=>a0s P f c
 | .eff c=>kH P f c
 | .rel r=>b6T P f r
 | .mk c=>b9U P f c
 | .reff r=>b9V P f r
 | .rmk r=>c1p P f r
 | .fz c=>a0s P f c
 | .rfz r=>b6T P f r
 | .tmp=>True

def D0(P:Program)(G:I2):Prop:=∀x,x ∈ G->a3c P x.1 x.2

theorem b1r{P:Program}{G:I2}(h:D0 P G){f:FuncId}{args:List T}{r:T}{p:Option Prop}(hg:gam G f args=some (r,p))(hp:p.getD True):U1 P f args r:=by
 induction G with
 |nil=>simp[gam] at hg
 |cons x G ih=>
  obtain⟨g,c⟩:=x;simp only[gam] at hg;split at hg
  ·rename_i hb;obtain rfl:=G3 hb;split at hg
   ·rename_i c;exact h (f,.pure c) (by simp) args r p hg hp
   ·cases hg
  ·exact ih (λx hx=>h x (by simp[hx])) hg

theorem b7U{P:Program}{G:I2}(h:D0 P G){f:FuncId}{c:List T->Option (T×Y1×Option Prop)}(hg:gmk G f=some c):b9U P f c:=by
 induction G with
 |nil=>simp[gmk] at hg
 |cons x G ih=>
  obtain⟨g,d⟩:=x;simp only[gmk] at hg;split at hg
  ·rename_i hb;obtain rfl:=G3 hb;split at hg
   ·rename_i c';simp only[W8] at hg;subst hg;exact h (f,.mk c') (by simp)
   ·cases hg
  ·exact ih (λx hx=>h x (by simp[hx])) hg

theorem b9g{P:Program}{G:I2}(h:D0 P G){f:FuncId}{c:List T->Option (T×Option Prop)}(hg:gfz G f=some c):a0s P f c:=by
 induction G with
 |nil=>simp[gfz] at hg
 |cons x G ih=>
  obtain⟨g,d⟩:=x;simp only[gfz] at hg;split at hg
  ·rename_i hb;obtain rfl:=G3 hb;split at hg
   ·rename_i c';simp only[W8] at hg;subst hg;exact h (f,.fz c') (by simp)
   ·cases hg
  ·exact ih (λx hx=>h x (by simp[hx])) hg

theorem a6T{P:Program}{G:I2}(h:D0 P G){f:FuncId}{c:List T->Y1->Option (T×Y1×Option Prop)}(hg:tB G f=some c):kH P f c:=by
 induction G with
 |nil=>simp[tB] at hg
 |cons x G ih=>
  obtain⟨g,d⟩:=x;simp only[tB] at hg;split at hg
  ·rename_i hb;obtain rfl:=G3 hb;split at hg
   ·rename_i c';simp only[W8] at hg;subst hg;exact h (f,.eff c') (by simp)
   ·cases hg
  ·exact ih (λx hx=>h x (by simp[hx])) hg

section
variable {c:Ctx} {E E':Env} {H:Y1} {w w':World} {P:Program}

theorem Rd.closed(hN:∀b,E.N b->E'.N b){t:T}{x:Value}(h:Rd E w t x):W5 t=true->Rd E' w t x:=by
 induction h with
 |int k n=>exact λ_=>.int k n
 |bool b=>exact λ_=>.bool b
 |str l=>exact λ_=>.str l
 |v x=>exact λ_=>.v x
 |slNil sz row=>exact λ_=>.slNil sz row
 |slEmp sz row a=>exact λ_=>.slEmp sz row a
 |emp a=>exact λ_=>.emp a
 |bysEmp a=>exact λ_=>.bysEmp a
 |sl sz n row b off cap u hb hc hl h1 hr _ ih=>
  exact λ_=>.sl sz n row b off cap u (hN b hb) hc hl h1 hr (λi j t hi hj=>ih i j t hi hj (h1 i t hi (B5 hj)).2)
 |bysNil=>exact λ_=>.bysNil
 |bys l b off cap hb hc hr=>exact λ_=>.bys l b off cap (hN b hb) hc hr
 |bref cells b off u hb h1 hr _ ih=>exact λ_=>.bref cells b off u (hN b hb) h1 hr (λj t hj=>ih j t hj (h1 t (B5 hj)))
 |ref=>intro h;cases h
 |osl=>intro h;cases h
 |posl=>intro h;cases h
 |pref=>intro h;cases h
 |agg=>intro h;cases h
 |tup=>intro h;cases h
 |fn=>intro h;cases h
 |mpr=>intro h;cases h
 |und x=>exact λ_=>.und x

theorem Rd.closedD(hN:∀b,E.N b->E'.N b):∀(d:Nat) {t:T} {x:Value},Rd E w t x->closedD d t=true->Rd E' w t x:=by
 intro d;induction d with
 |zero=>intro t x _ hc;simp[SS.closedD] at hc
 |succ d ih=>
  intro t x h hc;have h0:=h;cases h with
  |agg cs vs hl ht=>exact .agg cs vs hl λi t x hi hx=>ih (ht i t x hi hx) (i5.1 hc t (B5 hi))
  |tup cs vs hl ht=>exact .tup cs vs hl λi t x hi hx=>ih (ht i t x hi hx) (i5.1 hc t (B5 hi))
  |fn f cs vs hl ht=>exact .fn f cs vs hl λi t x hi hx=>ih (ht i t x hi hx) (i5.1 hc t (B5 hi))
  |ref=>simp[SS.closedD,W5] at hc
  |osl=>simp[SS.closedD,W5] at hc
  |posl=>simp[SS.closedD,W5] at hc
  |pref=>simp[SS.closedD,W5] at hc
  |mpr=>simp[SS.closedD,W5] at hc
  |und=>exact .und x
  |_=>exact h0.closed hN rfl

theorem Rd.plain:∀(d:Nat) {t:T} {x:Value},Rd E w t x->sG d t=true->Rd E' w' t x:=by
 intro d;induction d with
 |zero=>intro t x _ hc;simp[sG] at hc
 |succ d ih=>
  intro t x h hc;cases h with
  |agg cs vs hl ht=>exact .agg cs vs hl λi t x hi hx=>ih (ht i t x hi hx) (i5.1 hc t (B5 hi))
  |tup cs vs hl ht=>exact .tup cs vs hl λi t x hi hx=>ih (ht i t x hi hx) (i5.1 hc t (B5 hi))
  |int k n=>exact .int k n
  |bool b=>exact .bool b
  |str l=>exact .str l
  |_=>simp[sG] at hc

def Env.lent(E:Env)(b0:Nat)(H:Y1):Env where
 N:=λb=>E.N b∨∃k ob,b0<=k/\Z0 H k=some ob/\E6 E k ob b
 L:=λk=>E.L k/\k<b0
 β:=E.β
 κ:=E.κ
 z:=E.z
 L2:=λk v=>E.L2 k v/\k<b0
 b2:=E.b2
 c2:=E.c2

theorem L5{α β:Type}{f:α->Option β}:∀{l:List α} {q:List β},O5 f l=some q->q.length=l.length/\∀(i:Nat) (a:α) (b:β),l[i]? =some a->q[i]? =some b->f a=some b:=by
 intro l;induction l with
 |nil=>intro q h;simp[O5] at h;subst h;exact⟨rfl,λi a b ha=>by simp at ha⟩
 |cons x l ih=>
  intro q h;simp only[O5] at h;split at h
  ·rename_i b q' hb hq;simp only[W8] at h;subst h;obtain⟨h1,h2⟩:=ih hq;refine⟨by simp[h1],λi a b' ha hb'=> ?_⟩
   cases i with
   |zero=>simp at ha hb';subst ha;subst hb';exact hb
   |succ i=>exact h2 i a b' (by simpa using ha) (by simpa using hb')
  ·cases h

theorem zI{p q:Option Prop}(h:(qP p q).getD True):p.getD True/\q.getD True:=by
 cases p with
 |none=>exact⟨trivial,by simpa[qP] using h⟩
 |some p=>
  cases q with
  |none=>exact⟨h,trivial⟩
  |some q=>exact h

theorem zB:∀{l:List (T×Option Prop)},(wS l).getD True->∀x ∈ l,x.2.getD True:=by
 intro l;induction l with
 |nil=>intro _ x hx;cases hx
 |cons y l ih=>
  intro h x hx;simp only[wS] at h;obtain⟨h1,h2⟩:=zI h;rcases wY.1 hx with rfl|hx
  ·exact h1
  ·exact ih h2 x hx

theorem a44(sz:Nat)(row:Nat->List T)(a:Option Addr):Rd E w (.sl sz 0 row) (.slice a 0 0):=by
 cases a with
 |none=>exact .slNil _ _
 |some a=>exact .slEmp _ _ _

theorem nQ{t:T}(h:closedOne t=true):b9S t=t:=by
 cases t<;>first|rfl|(simp[closedOne,W5] at h)

theorem b0k{k v i j n m osz:Nat}{oty:TypeId}{orow:Nat->List T}{u:Value}(hN:∀b,E.N b->E'.N b)(hO:S9 (E.sub k v i j osz) w 0 ⟨true,oty,osz,m,orow⟩)(hn:n<=m)(hb:E.c2 k v i j≠0->E'.N (E.b2 k v i j))(hu:Rd E w (.posl k v i j n) u):
  Rd E' w (.sl osz n orow) u:=by
 obtain⟨hz,hnk,hl,hone,hcl,cs,ty,hblk,hcs,hc⟩:=hO;simp only at hz hnk hl hone hcl hcs hc;cases hu with
 |posl _ _ _ _ _ a hL hn' ha=>
  by_cases hc2:E.c2 k v i j=0
  ·obtain rfl:n=0:=by omega
   rw[hc2];exact a44 _ _ a
  ·rw[ha hc2];have hblk:=hblk hc2;refine .sl osz n orow (E.b2 k v i j) 0 (E.c2 k v i j) (λr q=>(cs[r*osz+q]?).getD undef) (hb hc2) hn' (λr hr=>hl r (by omega)) (λr t hr ht=>⟨hone r t (by omega) ht,hcl trivial r t (by omega) ht⟩) (λr q t hr hq=> ?_) (λr q t hr hq=> ?_)
   ·obtain⟨u,hu,_⟩:=hc r q t (by omega) hq
    rw[G9];exact(R0 hblk).trans (by rw[hu];rfl)
   ·obtain⟨u,hu,hr'⟩:=hc r q t (by omega) hq
    rw[hu];exact Rd.closed (E:=E.sub k v i j osz) (E':=E') hN hr' (hcl trivial r t (by omega) (B5 hq))

theorem y5{b0:Nat}(h:Inv c E H w):∀(d:Nat) {t r:T} {p:Option Prop} {x:Value},N3 b0 H d t=some (r,p)->p.getD True->Rd E w t x->Rd (E.lent b0 H) w r x:=by
 intro d;induction d with
 |zero=>intro t r p x hb;simp[N3] at hb
 |succ d ih=>
  intro t r p x hb hp hx;have hN:∀b,E.N b->(E.lent b0 H).N b:=λb hb=>.inl hb
  have list:∀(cs:List T) (vs:Array Value) (cs':List (T×Option Prop)),O5 (N3 b0 H d) cs=some cs'->(wS cs').getD True->cs.length=vs.size->(∀(i:Nat) (t:T) (x:Value),cs[i]? =some t->vs[i]? =some x->Rd E w t x)->
    (cs'.map (·.1)).length=vs.size/\∀(i:Nat) (t:T) (x:Value),(cs'.map (·.1))[i]? =some t->vs[i]? =some x->Rd (E.lent b0 H) w t x:=by
   intro cs vs cs' hm hs hl ht;obtain⟨h1,h2⟩:=L5 hm;refine⟨by simp[h1,hl],λi t x hi hx=> ?_⟩
   simp only[pN,I3] at hi
   obtain⟨y,hy,rfl⟩:=hi;have hlt:i<cs.length:=by rw[←h1];exact(z5.1 hy).1
   have hc:=K7 hlt
   have hb:=h2 i _ y hc hy;exact ih (r:=y.1) (p:=y.2) hb (zB hs y (B5 hy)) (ht i _ x hc hx)
  unfold N3 at hb;split at hb
  ·rename_i k i j;split at hb
   ·rename_i hlt;simp only[W8,T5] at hb;obtain⟨rfl,rfl⟩:=hb;cases hx with
    |ref _ _ _ hL=>exact .ref (E:=E.lent b0 H) k i j ⟨hL,v6 hlt⟩
   rename_i hge;have hge:b0<=k:=by
    rcases Nat.lt_or_ge k b0 with h|h
    ·have:Nat.blt k b0=true:=Nat.ble_eq_true_of_le h;rw[hge] at this;cases this
    ·exact h
   split at hb
   ·rename_i A hA;split at hb
    ·rename_i hA1;split at hb
     ·rename_i cs hm;split at hb
      case h_2=>cases hb
      rename_i hall;simp only[W8,T5] at hb;obtain⟨rfl,rfl⟩:=hb;obtain⟨u,hr,ht⟩:=jT h.heap hA (i:=0) (by omega)
      obtain⟨hL,⟨hz,hn,hl,hone,hcl,_⟩,_⟩:=h.heap.arr hA;obtain⟨ob,hob,_⟩:=cY hA;obtain⟨h1,h2⟩:=L5 hm;rw[cU hx];refine .bref _ _ _ (λi=>u (j+i)) (.inr ⟨k,ob,hge,hob,.inl ⟨by omega,rfl⟩⟩) (λt hmem=> ?_) (λi t hi=> ?_) (λi t hi=> ?_)
      ·obtain⟨y,hy,rfl⟩:=List.mem_map.1 hmem;exact i5.1 hall y hy
      ·simp only[pN,I3] at hi
       obtain⟨y,hy,rfl⟩:=hi;have hlt:i<((A.row 0).drop j).length:=by rw[←h1];exact(z5.1 hy).1
       have hc:=K7 hlt
       rw[List.getElem?_drop] at hc
       have:=hr _ _ hc
       rwa [show 0*(E.z k).1+(j+i)=0*(E.z k).1+j+i by omega] at this
      ·simp only[pN,I3] at hi
       obtain⟨y,hy,rfl⟩:=hi;have hlt:i<((A.row 0).drop j).length:=by rw[←h1];exact(z5.1 hy).1
       have hc:=K7 hlt
       have hb:=h2 i _ y hc hy;rw[List.getElem?_drop] at hc
       exact ih (r:=y.1) (p:=y.2) hb (zB hp y (B5 hy)) (ht _ _ hc)
     ·cases hb
    ·cases hb
   ·cases hb
  ·rename_i k off n;split at hb
   ·rename_i hlt;simp only[W8,T5] at hb;obtain⟨rfl,rfl⟩:=hb;cases hx with
    |osl _ _ _ o a hL hn ho ha=>exact .osl (E:=E.lent b0 H) k off n o a ⟨hL,v6 hlt⟩ hn ho ha
   rename_i hge;have hge:b0<=k:=by
    rcases Nat.lt_or_ge k b0 with h|h
    ·have:Nat.blt k b0=true:=Nat.ble_eq_true_of_le h;rw[hge] at this;cases this
    ·exact h
   split at hb
   ·rename_i ty sz m row hk;simp only[W8,T5] at hb;obtain⟨rfl,rfl⟩:=hb;have hle:=rS hp;obtain⟨hL,⟨hz,hn,hl,hone,hcl,cs,ty,hblk,hsz,hc⟩,hNk⟩:=h.heap.live _ _ hk;simp only[Ob.toArr] at hz hn hl hone hcl hsz hc;cases hx with
    |osl _ _ _ o a _ hn' ho ha=>
     rw[pF];by_cases hκ:E.κ k=0
     ·obtain rfl:n=0:=by omega
      rw[hκ,Nat.zero_sub];exact a44 _ _ a
     have hblk:=hblk hκ;rw[ha hκ];have hob:0<n->o=off*sz:=λh=>by rw[ho (.inl (by omega)),hz]
     refine .sl sz n _ (E.β k) o (E.κ k-off) (λi j=>(cs[(off+i)*sz+j]?).getD undef) (.inr ⟨k,_,hge,hk,.inl ⟨hκ,rfl⟩⟩) (by omega) (λi hi=>hl _ (by omega)) (λi t hi ht=>⟨hone _ t (by omega) ht,hcl trivial _ t (by omega) ht⟩) (λi j t hi hj=> ?_) (λi j t hi hj=> ?_)
     ·obtain⟨u,hu,_⟩:=hc (off+i) j t (by omega) hj
      rw[R0 hblk,hob (by omega),←Nat.add_mul,hu]
      rfl
     ·obtain⟨u,hu,hr⟩:=hc (off+i) j t (by omega) hj
      rw[hu];exact Rd.closed hN hr (hcl trivial _ t (by omega) (B5 hj))
   ·rename_i v0 ty sz m row hk;simp only[W8,T5] at hb;obtain⟨rfl,rfl⟩:=hb;have hle:=rS hp;obtain⟨hL,hF,hNk⟩:=h.heap.live _ _ hk;have hF:FamOk E w k v0 ty sz m row:=hF;obtain⟨hz,hn,hl,hone,hcl,cs,ty2,hblk,hsz,hc⟩:=hF.arr;simp only at hz hn hl hone hcl hsz hc;cases hx with
    |osl _ _ _ o a _ hn' ho ha=>
     rw[pF];by_cases hκ:E.κ k=0
     ·obtain rfl:n=0:=by omega
      rw[hκ,Nat.zero_sub];exact a44 _ _ a
     have hblk:=hblk hκ;rw[ha hκ];have hob:0<n->o=off*sz:=λh=>by rw[ho (.inl (by omega)),hz]
     have get:∀(i j:Nat) (t:T),i<n->(a4d (λi=>row (off+i)) i)[j]? =some t->∃t0:T,(row (off+i))[j]? =some t0/\t=b9S t0:=λi j t hi hj=>by
      simp only[a4d,pN,I3] at hj
      obtain⟨t0,h0,rfl⟩:=hj;exact⟨t0,h0,rfl⟩
     refine .sl sz n _ (E.β k) o (E.κ k-off) (λi j=>(cs[(off+i)*sz+j]?).getD undef) (.inr ⟨k,_,hge,hk,.inl ⟨hκ,rfl⟩⟩) (by omega) (λi hi=>by simp only[a4d,List.length_map];have:=hl (off+i) (by omega);rwa [P0] at this) (λi t hi ht=> ?_) (λi j t hi hj=> ?_) (λi j t hi hj=> ?_)
     ·obtain⟨j,hj⟩:=List.getElem?_of_mem ht
      obtain⟨t0,h0,rfl⟩:=get i j t hi hj;rcases hF.cell (show off+i<m by omega) h0 with hco|⟨oty,osz,on,orow,rfl⟩
      ·rw[nQ hco];exact⟨(N4 hco).2,(N4 hco).1⟩
      ·exact⟨rfl,rfl⟩
     ·obtain⟨t0,h0,rfl⟩:=get i j t hi hj;obtain⟨u,hu,_⟩:=hc (off+i) j (uJ k v0 (off+i) j t0) (by omega) (by rw[M4,h0];rfl)
      rw[R0 hblk,hob (by omega),←Nat.add_mul,hu]
      rfl
     ·obtain⟨t0,h0,rfl⟩:=get i j t hi hj;obtain⟨u,hu,hr⟩:=hc (off+i) j (uJ k v0 (off+i) j t0) (by omega) (by rw[M4,h0];rfl)
      rw[hu];rcases hF.cell (show off+i<m by omega) h0 with hco|⟨oty,osz,on,orow,rfl⟩
      ·rw[O3 hco] at hr;rw[nQ hco];exact Rd.closed hN hr (N4 hco).1
      ·refine b0k (E':=E.lent b0 H) hN (hF.own (off+i) j oty osz on orow (by omega) h0).1 (W4 _) (λhc2=>.inr ⟨k,_,hge,hk,.inr ⟨_,_,_,_,_,_,_,_,_,_,_,rfl,by omega,h0,hc2,rfl⟩⟩) hr
   ·rename_i ty l hk;simp only[W8,T5] at hb;obtain⟨rfl,rfl⟩:=hb;cases hx with
    |osl _ _ _ o a _ hn' ho ha=>
     obtain⟨hlen,hcell⟩:=a0O h.heap hk hp ho;by_cases hκ:E.κ k=0
     ·obtain rfl:n=0:=by omega
      rw[hκ,Nat.zero_sub,List.take_zero];cases a with
      |none=>exact .bysNil
      |some a=>exact .bysEmp a
     rw[ha hκ];have:=Rd.bys (E:=E.lent b0 H) (w:=w) ((l.drop off).take n) (E.β k) o (E.κ k-off) (.inr ⟨k,_,hge,hk,.inl ⟨hκ,rfl⟩⟩) (by omega) hcell
     rwa [hlen] at this
   ·cases hb
  ·rename_i cs;cases hm:O5 (N3 b0 H d) cs with
   |none=>rw[hm] at hb;cases hb
   |some cs'=>
    rw[hm] at hb;simp only[j8,W8,T5] at hb;obtain⟨rfl,rfl⟩:=hb;cases hx with
    |agg _ vs hl ht=>
     obtain⟨a1,a2⟩:=list cs vs cs' hm hp hl ht;exact .agg _ vs a1 a2
  ·rename_i f cs;cases hm:O5 (N3 b0 H d) cs with
   |none=>rw[hm] at hb;cases hb
   |some cs'=>
    rw[hm] at hb;simp only[j8,W8,T5] at hb;obtain⟨rfl,rfl⟩:=hb;cases hx with
    |fn _ _ vs hl ht=>
     obtain⟨a1,a2⟩:=list cs vs cs' hm hp hl ht;exact .fn _ _ vs a1 a2
  ·rename_i cs;cases hm:O5 (N3 b0 H d) cs with
   |none=>rw[hm] at hb;cases hb
   |some cs'=>
    rw[hm] at hb;simp only[j8,W8,T5] at hb;obtain⟨rfl,rfl⟩:=hb;cases hx with
    |tup _ vs hl ht=>
     obtain⟨a1,a2⟩:=list cs vs cs' hm hp hl ht;exact .tup _ vs a1 a2
  ·cases hb
  ·rename_i k v i j n;split at hb
   ·rename_i hlt;simp only[W8,T5] at hb;obtain⟨rfl,rfl⟩:=hb;cases hx with
    |posl _ _ _ _ _ a hL hn ha=>exact .posl (E:=E.lent b0 H) k v i j n a ⟨hL,v6 hlt⟩ hn ha
   rename_i hge;have hge:b0<=k:=by
    rcases Nat.lt_or_ge k b0 with h|h
    ·have:Nat.blt k b0=true:=Nat.ble_eq_true_of_le h;rw[hge] at this;cases this
    ·exact h
   split at hb
   ·rename_i A hA;simp only[W8,T5] at hb;obtain⟨rfl,rfl⟩:=hb;obtain⟨hv,hi,hn⟩:PoB v A.v i A.n n A.A.n:=hp;obtain⟨hO,_,_⟩:=aD h.heap hA hv hi;obtain⟨ty,sz,row,hk,hj,hcl⟩:=zT hA;subst hv;obtain⟨v',n',cl,oty,osz,m,orow⟩:=A;simp only at hcl;subst hcl;exact b0k (E':=E.lent b0 H) hN hO hn (λhc2=>.inr ⟨k,_,hge,hk,.inr ⟨_,_,_,_,_,_,_,_,_,_,_,rfl,hi,hj,hc2,rfl⟩⟩) hx
   ·cases hb
  ·rename_i k v i j z a b;split at hb
   ·rename_i hlt;simp only[W8,T5] at hb;obtain⟨rfl,rfl⟩:=hb;cases hx with
    |pref _ _ _ _ _ _ _ hL=>exact .pref (E:=E.lent b0 H) k v i j z a b ⟨hL,v6 hlt⟩
   ·cases hb
  ·cases hb
  ·rename_i n1 n2 n3 n4 n5 n6 n7 n8 n9;simp only[W8,T5] at hb;obtain⟨rfl,rfl⟩:=hb;refine Rd.closed hN hx ?_
   cases t<;>first|rfl|(exfalso;first|exact n1 _ _ _ rfl|exact n2 _ _ _ rfl|exact n3 _ rfl|exact n4 _ _ rfl|exact n5 _ rfl|exact n6 _ rfl|exact n7 _ _ _ _ _ rfl|exact n8 _ _ _ _ _ _ _ rfl|exact n9 _ _ _ _ rfl)

end
end Go.SS
