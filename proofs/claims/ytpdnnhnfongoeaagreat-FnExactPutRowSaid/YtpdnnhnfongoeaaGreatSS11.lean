/- A part of the proof. -/
import Derived.Test.YtpdnnhnfongoeaaGreatSS8
namespace Go.SS
open Go.RowKit
section
variable {c:Ctx} {E:Env} {H:X9} {w w':World} {P:Program}
def Env.addN(E:Env)(p:Nat->Prop):Env:={E with N:=λb=>E.N b∨p b}
def Env.addN_le(E:Env)(p:Nat->Prop):E.le (E.addN p):=⟨λ_ h=>.inl h,λ_ h=>h,λ_ _=>rfl,λ_ _=>rfl,λ_ _=>rfl,λ_ _ h=>h,λ_ _ _ _ _=>rfl,λ_ _ _ _ _=>rfl⟩
def Inv.grow(h:Inv c E H w)(o:w'.os=w.os)(t:w'.tape=w.tape)(hp:w'.output=w.output)(z:w.heap.size<=w'.heap.size)(hw:∀b,b<w.heap.size->w'.heap[b]? =w.heap[b]?):
  Inv c (E.addN λb=>w.heap.size<=b/\b<w'.heap.size) H w'/\Step E w (E.addN λb=>w.heap.size<=b/\b<w'.heap.size) w':=by
 have hstep:Step E w (E.addN λb=>w.heap.size<=b/\b<w'.heap.size) w':=⟨E.addN_le _,λb hb=>hw b (h.nlt b hb),λ_ h=>.inl h⟩
 refine⟨⟨⟨λk ob hk=>?_,h.heap.inj,h.heap.lt,h.heap.l2,h.heap.cur⟩,λb hb=>?_,λb hb=>?_,h.bnew,h.fr.heap o t hp z (λb h1 h2=>hw b b0E),h.keep.step hstep⟩,hstep⟩
 ·obtain⟨h1,h2,h3⟩:=h.heap.live k ob hk;refine⟨h1,h2.mono h1 hstep (λb hb=>hw b (h2.blt hb)),λb hb hN=>?_⟩
  have hb:A3 E k ob b:=hb;rcases hN with hN|hN
  ·exact h3 b hb hN
  ·have:=h2.blt hb;have:=hN.1;omega
 ·rcases hb with hb|hb
  ·have:=h.nlt b hb;omega
  ·exact hb.2
 ·rcases hb with hb|hb
  ·exact h.nnew b hb
  ·have:=h.fr.size;exact .inr (.inl Z9)
def a4x(h:Inv c E H w){C dst e:TypeId}{l:Bz}(f:P.underlying C=some .string)(hd:P.underlying dst=some (.slice e))(g:g7 P e=true):
  ∃r w' E',(convert C dst (.string ⟨l.toArray⟩)).run P w= .ok r w'/\Rd E' w' (.bys l) r/\Inv c E' H w'/\Step E w E' w':=by
 have n:=run_bytes_of_string (P:=P) w C dst e ⟨l.toArray⟩ f hd (xQ g).1;have z:(ByteArray.mk l.toArray).size=l.length:=by simp[ByteArray.size]
 rw[z] at n;refine⟨_,_,_,n,?_,h.grow (w':=w.drew.alloc _) rfl rfl rfl W7 (λb B=>heap_alloc_old w.drew _ B)⟩
 have d:=grownCap_ge w l.length 0 e;refine .bys l w.heap.size 0 _ (.inr ⟨U9 _,W7⟩) d (λi x X=>?_)
 have t:i<l.length:=(u6.1 X).1
 have W:=heap_alloc_new w.drew (.cells (bytesRow ⟨l.toArray⟩ (grownCap w l.length 0 e)) e ((bytesRow ⟨l.toArray⟩ (grownCap w l.length 0 e)).size,(bytesRow ⟨l.toArray⟩ (grownCap w l.length 0 e)).size+1));have L:=S2 (i:=0+i) W;refine L.trans ?_
 rw[D4,bytesRow_at ⟨l.toArray⟩ _ i (by simpa using t)]
 simp only[List.getElem_toArray];rw[(u6.1 X).2]
def a3I:∀{cs:List T} {l:List Int},a49 cs=some l->∀k,k<cs.length->(cs.drop k).take 1=[.int .i64 (l.getD k 0)]
 | [],_,_,k,hk=>absurd hk (D2 k)
 |c::cs,l,h,k,hk=>by
  unfold a49 at h;split at h
  ·rename_i h0;cases h0
  ·rename_i n r h0;simp only[List.cons.injEq] at h0;obtain⟨rfl,rfl⟩:=h0;simp only[F1] at h;obtain⟨l',hl,rfl⟩:=h;cases k with
   |zero=>rfl
   |succ k=>exact a3I hl k (by simpa using hk)
  ·cases h
def c2w(cs:List T)(sz len:Nat)(k:Nat)(d:k<len):c6I cs sz len k=(cs.drop (k*sz)).take sz:=by
 unfold c6I;cases L:a49 cs with
 |none=>rfl
 |some l=>
  cases h:Nat.beq sz 1&&Nat.beq cs.length len with
  |false=>rfl
  |true=>
   simp only[J5] at h;have e:=F5 h.1;have f:=F5 h.2;rw[e,Nat.mul_one];exact(a3I L k Z9).symm
def Rd.rows{sz n:Nat}{row row':Nat->List T}{v:Value}(h:Rd E w (.sl sz n row) v)(e:∀i,i<n->row' i=row i):Rd E w (.sl sz n row') v:=by
 cases h with
 |slNil=>exact .slNil _ _
 |slEmp=>exact .slEmp _ _ _
 |sl _ _ _ b off cap u N C l f r d=>
  exact .sl sz n row' b off cap u N C (λi hi=>by rw[e i hi];exact l i hi) (λi t hi M=>f i t hi (by rw[←e i hi];exact M)) (λi j t hi J=>r i j t hi (by rw[←e i hi];exact J)) (λi j t hi J=>d i j t hi (by rw[←e i hi];exact J))
def c8h(h:Inv c E H w){a:Act}{s:W4}{t:TypeId}{len:Nat}{parts:Array (Nat×Operand)}{y:T}{side:Option Prop}(he:a11 P s t len parts=some (y,side))(hop:∀p ∈ parts.toList,F0 E w a s p.2):
  ∃r w' E',(Instr.buildSlice t len (parts.map λ(i,x)=>(i,a.eval x))).run P w= .ok r w'/\Rd E' w' y r/\Inv c E' H w'/\Step E w E' w':=by
 unfold a11 at he;split at he
 ·rename_i e hu;split at he
  ·rename_i i z hi hz;split at he
   ·rename_i h1 h2 h3;split at he
    ·rename_i cs hfill;split at he
     ·rename_i _ hone hcl;simp only[X0,U4] at he;obtain⟨rfl,rfl⟩:=he;obtain⟨us,hrun,hout,hcslen⟩:=aF h hu hi hz h1 h2 h3 hfill hop;obtain⟨a1,a2,a3,a4,a5⟩:=B4 w (.cells us e);obtain⟨hI,hS⟩:=h.grow (w':=w.alloc (.cells us e)) a1 a2 a3 W7 a4
      have at_:∀r j t,r<len->((cs.drop (r*i.size)).take i.size)[j]? =some t->cs[r*i.size+j]? =some t/\us[r*i.size+j]? =some (us.getD (r*i.size+j) undef):=by
       intro r j t R hj;rw[List.getElem?_take] at hj
       split at hj
       ·rw[List.getElem?_drop] at hj
        have d:=(u6.1 hj).1
        refine⟨hj,?_⟩
        have u:r*i.size+j<us.size:=by have:=hout.1;omega
        rw[Array.getD_eq_getD_getElem?,tB u]
        rfl
       ·cases hj
      refine⟨_,_,_,hrun,Rd.rows (row:=λk=>(cs.drop (k*i.size)).take i.size) ?_ (c2w cs i.size len),hI,hS⟩
      refine .sl i.size len _ w.heap.size 0 len (λr j=>us.getD (r*i.size+j) undef) (.inr ⟨U9 _,W7⟩) (U9 _) (λr R=>?_) (λr t R f=>?_) (λr j t R hj=>?_) (λr j t R hj=>?_)
      ·have:(r+1)*i.size<=len*i.size:=kJ _ R;rw[Nat.add_mul] at this;simp only[List.length_take,List.length_drop];omega
      ·have M:=List.mem_of_mem_drop (List.mem_of_mem_take f);exact⟨b9.1 hone t M,b9.1 hcl t M⟩
      ·rw[D4];exact(S2 a5).trans (at_ r j t R hj).2
      ·obtain⟨q,Q⟩:=at_ r j t R hj;exact hS.rd (hout.2 _ _ _ q Q)
     ·cases he
    ·cases he
   ·cases he
  ·cases he
 ·cases he
def c1K(h:Inv c E H w){a:Act}{s:W4}{t:TypeId}{parts:Array (Nat×Operand)}{y:T}{side:Option Prop}(he:a3o P s (.buildSlice t 0 parts)=some (y,side)):
  ∃r w' E',(Instr.buildSlice t 0 (parts.map λ(i,x)=>(i,a.eval x))).run P w= .ok r w'/\Rd E' w' y r/\Inv c E' H w'/\Step E w E' w':=by
 simp only[a3o] at he;split at he
 case h_2=>cases he
 rename_i e hu hp;obtain rfl:parts= #[]:=Array.ext' (by simpa using hp)
 split at he
 case h_2=>cases he
 rename_i i z hi hz;split at he
 case h_2=>cases he
 rename_i h1 h2;simp only[X0,U4] at he;obtain⟨rfl,rfl⟩:=he;obtain⟨us,hrun,_,_⟩:=aF (a:=a) (s:=s) (len:=0) (parts:= #[]) (cs:=[]) h hu hi hz h1 h2 W7 rfl (λp hp=>by simp at hp)
 obtain⟨a1,a2,a3,a4,a5⟩:=B4 w (.cells us e);obtain⟨hI,hS⟩:=h.grow (w':=w.alloc (.cells us e)) a1 a2 a3 W7 a4
 exact⟨_,_,_,hrun,.emp _,hI,hS⟩
def a27{u:Option TypeDesc}{sz:Nat}{x:T}{q:Sr}(h:wP [] u sz x=some q):wP H u sz x=some q:=by
 unfold wP at h ⊢;split at h
 ·exact h
 ·exact h
 ·cases h
 ·cases h
def c34(h:Inv c E H w){t tx ty e:TypeId}{x:T}{v X:Value}{i:TypeInfo}{z:List T}{q:Sr}(U:P.underlying t=some (.slice e))(hi:P.info? e=some i)(Z:zeroCells P e=some z)(R:Nat.beq z.length i.size=true)
  (Q:wP [] (P.underlying tx) i.size x=some q) (I:q.cl=true) (W:kI q.side (U8 0 q.n i.bytes)) (hd:Rd E w .emp v) (Y:Rd E w x X):
  ∃r w' E',(Builtin.append_ #[t,tx] ty #[v,X]).run P w= .ok r w'/\Rd E' w' (.sl i.size q.n q.row) r/\Inv c E' H w'/\Step E w E' w':=by
 obtain⟨zv,V,L⟩:=c9 hi Z;have F:zv.cells.size=i.size:=by rw[L];exact F5 R
 obtain⟨A,rfl⟩:∃A,v= .slice A 0 0:=b8y
 obtain⟨J,B⟩:=yG W;obtain⟨N,C,hlen,f,d,hnews⟩:=vS (P:=P) h.heap (a27 Q) J Y;obtain⟨r,w',hrun,ha⟩:=B7 (P:=P) (ty:=ty) U hi V F C 0 B (.slice A 0 0) (λ_=>none) none (.inl ⟨A,rfl,rfl,rfl⟩)
 rcases ha with ha|⟨hm,rfl,a1,rfl⟩
 ·obtain⟨ho,ht,hp,hsize,hoth,b,cap,cs,tyb,rfl,hcap,hblk,hcs,hbg,_,hnew⟩:=ha;have hold:∀b,b<w.heap.size->w'.heap[b]? =w.heap[b]? :=λb hb=>hoth b hb W7
  obtain⟨O,M⟩:=h.grow (w':=w') ho ht hp hsize hold;refine⟨_,w',_,hrun,?_,O,M⟩
  have g:w.heap.size<=b:=by
   rcases hbg with h1|h1
   ·exact h1.1
   ·cases h1
  rw[D4] at hcap ⊢;refine .sl i.size q.n q.row b 0 cap (λr j=>(N[r*i.size+j]?).getD undef) (.inr ⟨g,y0 hblk⟩) hcap hlen (λr t hr ht=>⟨f r t hr ht,d I r t hr ht⟩) (λr j t hr hj=>?_) (λr j t hr hj=>?_)
  ·obtain⟨u,hu',_⟩:=hnews r j t hr hj;have hj':j<i.size:=by rw[←hlen r hr];exact(u6.1 hj).1
   have l:r*i.size+j<q.n*i.size:=by
    have:(r+1)*i.size<=q.n*i.size:=kJ _ hr;rw[Nat.add_mul] at this;omega
   have:=hnew _ l;rw[Nat.zero_mul,D4] at this;rw[D4,S2 hblk,this,hu'];rfl
  ·obtain⟨u,hu',o⟩:=hnews r j t hr hj;rw[hu'];exact M.rd o
 ·refine⟨_,w',E,hrun,?_,h,Step.refl E w'⟩
  rw[show q.n=0 by omega]
  cases a1 with
  |none=>exact .slNil _ _
  |some a=>exact .slEmp _ _ _
def b0Y(h:Inv c E H w)(ty:TypeId)(sz:Nat):Inv c (E.push H.length 0 0 sz) (H++[some (.arr true ty sz 0 λ_=>[])]) w/\Step E w (E.push H.length 0 0 sz) w:=
 h.push (ob:=.arr true ty sz 0 λ_=>[]) rfl rfl rfl (U9 _) (λ_ _=>rfl) 0 0 #[] 0 (λh=>absurd rfl h) (λh=>absurd rfl h) W7 (U9 0) (λi hi=>absurd hi (D2 _)) (λi t hi=>absurd hi (D2 _)) (λ_ i t hi=>absurd hi (D2 _)) (λi j t hi=>absurd hi (D2 _))
def a7a{k sz:Nat}(a:Option Addr):Rd (E.push k 0 0 sz) w (.osl k 0 0) (.slice a 0 0):=by
 have:=Rd.osl (E:=E.push k 0 0 sz) (w:=w) k 0 0 0 a (.inr rfl) (N4 _) (λ_=>W7) (λh=>absurd (if_pos rfl) h)
 rwa [show(E.push k 0 0 sz).κ k=0 from if_pos rfl] at this
def b61{x:T}{v:Value}(h:a9Q x=true)(X:Rd E w x v):∃a n m,v= .slice a n m:=by
 cases X with
 |slNil=>exact⟨_,_,_,rfl⟩
 |sl=>exact⟨_,_,_,rfl⟩
 |slEmp=>exact⟨_,_,_,rfl⟩
 |osl=>exact⟨_,_,_,rfl⟩
 |posl=>exact⟨_,_,_,rfl⟩
 |v x=>
  unfold a9Q at h;split at h
  ·rename_i d;cases d
  ·rename_i d;cases d
  ·rename_i d;cases d
  ·rename_i d;simp only[T.v.injEq] at d;exact⟨_,_,_,d⟩
  ·cases h
 |_=>simp[a9Q] at h
def a6X{x:T}{v:Value}(h:isZ x=true)(X:Rd E w x v):∃k,v= .int k 0:=by
 unfold isZ at h;split at h
 ·rename_i k i;rw[H9 X,G7 h];exact⟨_,rfl⟩
 ·cases h
def b3F(h:Inv c E H w){t:TypeId}{x hi M y:T}{l:Option T}{v hv V:Value}{lv:Option Value}{H':X9}{side:Option Prop}(he:mJ P H t x l hi M=some (y,H',side))(A:Rd E w x v)
  (o:∀x,l=some x->∃v,lv=some v/\Rd E w x v) (d:l=none->lv=none) (I:Rd E w hi hv) (X:Rd E w M V):
  ∃r E',(Instr.sliceAt t v lv (some hv) (some V)).run P w= .ok r w/\Rd E' w y r/\Inv c E' H' w/\Step E w E' w:=by
 unfold mJ at he;split at he
 ·rename_i e hu hb;simp only[J5] at hb;obtain⟨⟨⟨b1,b2⟩,b3⟩,b4⟩:=hb;split at he
  ·rename_i i hi;split at he
   ·rename_i Z C;simp only[X0,U4] at he;obtain⟨rfl,rfl,rfl⟩:=he;obtain⟨a,n,m,rfl⟩:=b61 b1 A;obtain⟨B,rfl⟩:=a6X b3 I;obtain⟨F,rfl⟩:=a6X b4 X;have L:lv=none∨∃f,lv=some (.int f 0):=by
     cases l with
     |none=>exact .inl (d rfl)
     |some u=>
      obtain⟨J,g,j⟩:=o u rfl;obtain⟨f,rfl⟩:=a6X b2 j;exact .inr ⟨f,g⟩
    obtain⟨z,q⟩:=b0Y h e i.size;refine⟨.slice a 0 0,_,?_,a7a a,z,q⟩
    rcases L with rfl|⟨f,rfl⟩
    ·simp[Instr.sliceAt,Instr.slice,run_underlying hu,Instr.sliceBounds,Instr.sliceBound,Result.andThen,asIntOf,(M9 (w:=w) C).1]
    ·simp[Instr.sliceAt,Instr.slice,run_underlying hu,Instr.sliceBounds,Instr.sliceBound,Result.andThen,asIntOf,(M9 (w:=w) C).1]
   ·cases he
  ·cases he
 ·cases he
def c5J{z:Array Value}{n r q:Nat}(R:r<n)(Q:q<z.size):(Builtin.zeroCells z n).toList[r*z.size+q]? =z[q]? :=by
 have h:r*z.size+q<n*z.size:=by
  have:(r+1)*z.size<=n*z.size:=kJ _ R;rw[Nat.add_mul] at this;omega
 have M:(r*z.size+q) % z.size=q:=by rw[Nat.add_comm,Nat.add_mul_mod_self_right,Nat.mod_eq_of_lt Q]
 unfold Builtin.zeroCells;rw[Array.getElem?_toList,Array.getElem?_map,Array.getElem?_range,if_pos h]
 simp only[h9,M];rw[getElem!_pos z q Q];exact(tB Q).symm
def b7L(h:Inv c E H w){t ty:TypeId}{x:T}{xv:Value}{y:T}{H':X9}{side:Option Prop}(he:a2R P H t x=some (y,H',side))(hs:side.getD True)(hx:Rd E w x xv):
  ∃w',(Builtin.clear_ #[t] ty #[xv]).run P w= .ok (.tuple #[]) w'/\y= .und/\Inv c E H' w'/\Step E w E w':=by
 unfold a2R at he;split at he
 case h_2=>cases he
 rename_i e k off n hu;split at he
 case h_2=>cases he
 rename_i i z tyb sz N row hi hz hk;split at he
 case h_2=>cases he
 rename_i hb;simp only[X0,U4] at he;obtain⟨rfl,rfl,rfl⟩:=he;simp only[J5,vZ] at hb;obtain⟨⟨⟨b1,b2⟩,b3⟩,b4⟩:=hb;have hzl:z.length=i.size:=F5 b1;obtain rfl:sz=i.size:=F5 b2;have hle:off+n<=N:=hs;have hA:T5 E w k ⟨true,tyb,i.size,N,row⟩:=(h.heap.live k _ hk).2.1;have hA0:=hA;obtain⟨hz1,hnk,hl,hone,hcl,cs,tyc,hblk,hcs,hr⟩:=hA0;simp only at hz1 hnk hl hone hcl hcs hr;cases hx with
 |osl _ _ _ o a hL hn ho ha=>
  by_cases hn0:n=0
  ·subst hn0;have hrow:H8 row off 0 z=row:=funext λj=>by
    unfold H8;cases h1:Nat.ble off j&&Nat.blt j (off+0) with
    |false=>rfl
    |true=>
     simp only[J5] at h1;have:=yH h1.1;have:j<off+0:=yH h1.2;omega
   have hH:H.set k (some (.arr true tyb i.size N row))=H:=by
    apply List.ext_getElem?
    intro j;rw[List.getElem?_set]
    split
    ·rename_i e1;subst e1;have hlt:=G1 hk;rw[if_pos hlt];unfold Y4 at hk;rw[I1 hlt] at hk ⊢
     simp only[Option.bind_some,id] at hk;rw[hk]
    ·rfl
   rw[hrow,hH];refine⟨w,?_,rfl,h,Step.refl E w⟩
   cases a<;>simp[Builtin.clear_,run_underlying hu]
  ·have hκ:E.κ k≠0:=by omega
   obtain rfl:o=off*i.size:=by rw[ho (.inl Z9),hz1]
   obtain⟨v,hv,hrl,i',hi',hzv⟩:=e9 (E:=E) (w:=w) hz;rw[hi] at hi';simp only[X0] at hi';subst hi';have hvs:v.cells.size=i.size:=by rw[←hrl.1];exact hzl
   have hlen:(Builtin.zeroCells v.cells n).toList.length=n*i.size:=by rw[Array.length_toList,size_zeroCells,hvs]
   have hle2:(off+n)*i.size<=E.κ k*i.size:=kJ _ Z9
   have hget:∀r q,r<n->q<i.size->(Builtin.zeroCells v.cells n).toList[r*i.size+q]? =v.cells[q]? :=λr q hr hq=>by
    have:=c5J (z:=v.cells) hr (by rw[hvs];exact hq)
    rwa [hvs] at this
   have hz0:0<i.size:=Nat.pos_of_ne_zero (Nat.ne_of_beq_eq_false b3);have hones:∀u ∈ (Builtin.zeroCells v.cells n).toList,u.oneCell'=true:=by
    intro u hu;obtain⟨m,hm,rfl⟩:=List.mem_iff_getElem.1 hu;have hm':m<n*i.size:=by rw[←hlen];exact hm
    have hd:m/i.size<n:=(Nat.div_lt_iff_lt_mul hz0).2 hm';have hq:m % i.size<i.size:=Nat.mod_lt _ hz0;have e1:m=m/i.size*i.size+m % i.size:=by rw[Nat.mul_comm];exact(Nat.div_add_mod m i.size).symm
    have hg:=hget _ _ hd hq;rw[←e1,I1 hm] at hg
    have hzq:z[m % i.size]? =some z[m % i.size]:=I1 Z9
    exact iN (hrl.2 _ _ _ hzq hg.symm) (K4 (b9.1 b4 _ (List.getElem_mem _))).2
   obtain⟨w',hst,hos,htp,hop,hsize,hoth,cs',hb',hcs',hout,hin⟩:=u3 P w (E.β k) (off*i.size) tyc cs (Builtin.zeroCells v.cells n).toList (hblk hκ) (by
    rw[hlen,←Nat.add_mul];exact Nat.le_trans hle2 hcs.le) hones
   have hclr:∀j,H8 row off n z j=z∨H8 row off n z j=row j:=λj=>by
    unfold H8;split
    ·exact .inl rfl
    ·exact .inr rfl
   have hzz:∀t ∈ z,W5 t=true/\H7 t=true:=λt ht=>K4 (b9.1 b4 t ht)
   refine⟨w',?_,rfl,h.write hk rfl hos htp hop Z9 (λb _ hne=>hoth b hne) hκ (.arr true tyb i.size N (H8 row off n z)) cs' tyc hb' hz1.symm (by
    rw[hz1];exact hcs.keep hcs' λq hq=>hout q (.inr (by rw[hlen,←Nat.add_mul];omega))) hnk (λj hj=>?_) (λj t hj ht=>?_) (λ_ j t hj ht=>?_) (λj q t hj hq=>?_)⟩
   ·rw[ha hκ];obtain⟨m,rfl⟩:∃m,n=m+1:=⟨n-1,Z9⟩
    simp[Builtin.clear_,run_underlying hu,hv,hst]
   ·rcases hclr j with e1|e1
    ·rw[show(Ob.arr true tyb i.size N (H8 row off n z)).toArr.row j=z from e1];exact hzl
    ·rw[show(Ob.arr true tyb i.size N (H8 row off n z)).toArr.row j=row j from e1];exact hl j hj
   ·rcases hclr j with e1|e1
    ·rw[show(Ob.arr true tyb i.size N (H8 row off n z)).toArr.row j=z from e1] at ht;exact(hzz t ht).2
    ·rw[show(Ob.arr true tyb i.size N (H8 row off n z)).toArr.row j=row j from e1] at ht;exact hone j t hj ht
   ·rcases hclr j with e1|e1
    ·rw[show(Ob.arr true tyb i.size N (H8 row off n z)).toArr.row j=z from e1] at ht;exact(hzz t ht).1
    ·rw[show(Ob.arr true tyb i.size N (H8 row off n z)).toArr.row j=row j from e1] at ht;exact hA.2.2.2.2.1 rfl j t hj ht
   ·have hq':(H8 row off n z j)[q]? =some t:=hq;show ∃u,cs'[j*i.size+q]? =some u/\_;have hqs:q<i.size:=by
     have:=(u6.1 hq').1
     rcases hclr j with e1|e1
     ·rw[e1,hzl] at this;exact this
     ·rw[e1,hl j hj] at this;exact this
    by_cases hin':off<=j/\j<off+n
    ·have e1:H8 row off n z j=z:=by
      unfold H8;rw[show(Nat.ble off j&&Nat.blt j (off+n))=true by rw[Nat.ble_eq_true_of_le hin'.1,show Nat.blt j (off+n)=true from Nat.ble_eq_true_of_le hin'.2];rfl]
     rw[e1] at hq';have hg:=hget (j-off) q Z9 hqs
     have hlt:(j-off)*i.size+q<(Builtin.zeroCells v.cells n).toList.length:=by
      rw[hlen];have:(j-off+1)*i.size<=n*i.size:=kJ _ Z9
      rw[Nat.add_mul] at this;omega
     have h2:=hin _ hlt;rw[hg] at h2;have hvq:v.cells[q]? =some (v.cells[q]' Z9):=tB _
     refine⟨_,?_,hrl.2 q t _ hq' hvq⟩
     rw[←hvq,←h2];congr 1
     rw[←Nat.add_assoc,←Nat.add_mul];congr 2
     omega
    ·have e1:H8 row off n z j=row j:=by
      unfold H8;cases h1:Nat.ble off j&&Nat.blt j (off+n) with
      |false=>rfl
      |true=>
       simp only[J5] at h1;exact absurd ⟨yH h1.1,yH h1.2⟩ hin'
     rw[e1] at hq';obtain⟨u,hu',hru⟩:=hr j q t hj hq';refine⟨u,?_,hru⟩
     rw[hout _ ?_]
     ·exact hu'
     ·rw[hlen,←Nat.add_mul];by_cases hj2:j<off
      ·refine .inl ?_
       have:(j+1)*i.size<=off*i.size:=kJ _ hj2;rw[Nat.add_mul] at this;omega
      ·refine .inr ?_
       have:(off+n)*i.size<=j*i.size:=kJ _ Z9
       omega
def c57(h:Inv c E H w){a:Act}{s:W4}{o:Oper}{y:T}{H':X9}{side:Option Prop}(he:y8 P s H o.op=some (y,H',side))(hs:side.getD True)(hop:∀x ∈ D7 o.op,F0 E w a s x):
  ∃w' E',((∃v,(execOp a.eval o).run P w= .ok (.value v) w'/\Rd E' w' y v)∨((execOp a.eval o).run P w= .ok .skip w'/\y= .und))/\Inv c E' H' w'/\Step E w E' w':=by
 have lift:∀{m:Sem Value} {v:Value} {w':World},m.run P w= .ok v w'->(do pure (Next.value (←m)):Sem Next).run P w= .ok (.value v) w':=by
  intro m v w' hm;simp only[D1,hm,D6,z5]
 obtain⟨dst,op,ty,pos,after,guard⟩:=o;simp only at he hop ⊢;unfold y8 at he;split at he
 case h_1 t x=>
  split at he
  ·rename_i hp;have hx:=hop x J9
   obtain⟨E',h1,h2,h3⟩:=b47 h he (xV hx hp);refine⟨_,E',.inl ⟨_,?_,h3⟩,h1,h2⟩
   refine lift (m:=Instr.box t (a.eval x)) ?_
   simp only[Instr.box,newVar,newRow,D1,run_newObj,D6,z5];rfl
  ·cases he
 case h_2 t=>
  split at he
  ·rename_i z hz;obtain⟨v,hv,hrl,_⟩:=e9 (E:=E) (w:=w) hz;obtain⟨E',h1,h2,h3⟩:=b47 h he hrl;refine⟨_,E',.inl ⟨_,?_,h3⟩,h1,h2⟩
   refine lift (m:=Instr.alloc t true (.tuple #[])) ?_
   simp only[Instr.alloc,newVar,newRow,D1,hv,run_newObj,D6,z5];rfl
  ·cases he
 case h_3 t ad x=>
  cases hst:qX P H t (K6 s ad) (K6 s x) with
  |none=>rw[hst] at he;cases he
  |some r=>
   rw[hst] at he;simp only[h9,X0,U4] at he;obtain⟨rfl,rfl,rfl⟩:=he;obtain⟨w',E',hrun,h1,h2⟩:=b8R (P:=P) h hst hs (hop ad J9) (hop x J9)
   refine⟨w',E',.inr ⟨?_,rfl⟩,h1,h2⟩
   simp only[execOp,D1,hrun,D6,z5]
 case h_4 t l m=>
  obtain⟨r,w',E',hrun,h1,h2,h3⟩:=c2n (P:=P) h he hs (hop l J9) (hop m J9)
  exact⟨w',E',.inl ⟨r,lift hrun,h1⟩,h2,h3⟩
 case h_5 t len parts=>
  obtain⟨r,w',E',hrun,h1,h2,h3⟩:=bL (P:=P) (a:=a) h he hs (λp hp=>hop p.2 (by simp only[D7,Op.operands,List.mem_map];exact⟨p,hp,rfl⟩))
  exact⟨w',E',.inl ⟨r,lift hrun,h1⟩,h2,h3⟩
 case h_6 src dst' x=>
  split at he
  ·rename_i e l hu hd hx;split at he
   ·rename_i hb;simp only[X0,U4] at he;obtain⟨rfl,rfl,rfl⟩:=he;have hxo:=hop x J9
    unfold F0 at hxo;rw[hx] at hxo;obtain⟨r,w',E',hrun,h1,h2,h3⟩:=a4x (P:=P) (l:=l) h hu hd hb;refine⟨w',E',.inl ⟨r,lift (m:=convert src dst' (a.eval x)) ?_,h1⟩,h2,h3⟩
    rw[vL hxo];exact hrun
   ·cases he
  ·cases he
 case h_7 args argTypes=>
  split at he
  ·rename_i d x t tx ha hat;obtain rfl:args= #[d,x]:=Array.ext' sT
   obtain rfl:argTypes= #[t,tx]:=Array.ext' a0K
   obtain⟨r,w',E',hrun,h1,h2,h3⟩:=kF (P:=P) (ty:=ty) h he hs (hop d vD) (hop x vD)
   refine⟨w',E',.inl ⟨r,?_,h1⟩,h2,h3⟩
   simp[execOp,resolve,invoke,builtin,hrun,Result.andThen]
  ·cases he
 case h_8 t=>
  cases hst:uL P H t with
  |none=>rw[hst] at he;cases he
  |some r=>
   rw[hst] at he;simp only[h9,X0,U4] at he;obtain⟨rfl,rfl,rfl⟩:=he;obtain⟨r',w',E',hrun,h1,h2,h3⟩:=a88 (P:=P) h hst;exact⟨w',E',.inl ⟨r',lift (m:=Instr.makeMap t none) hrun,h1⟩,h2,h3⟩
 case h_9 t m k x=>
  split at he
  ·rename_i r hst;simp only[X0,U4] at he;obtain⟨rfl,rfl,rfl⟩:=he;obtain⟨w',hrun,h1,h2⟩:=c0f (P:=P) h hst (hop m J9) (hop k J9) (hop x J9)
   refine⟨w',E,.inr ⟨?_,rfl⟩,h1,h2⟩
   simp only[execOp,D1,hrun,D6,z5]
  ·cases hst:mB P H t (K6 s m) (K6 s k) (K6 s x) with
   |none=>rw[hst] at he;cases he
   |some r=>
    rw[hst] at he;simp only[h9,X0,U4] at he;obtain⟨rfl,rfl,rfl⟩:=he;obtain⟨w',hrun,h1,h2⟩:=b4F (P:=P) h hst hs (hop m J9) (hop k J9) (hop x J9)
    refine⟨w',E,.inr ⟨?_,rfl⟩,h1,h2⟩
    simp only[execOp,D1,hrun,D6,z5]
 case h_10 t x lo hi mx=>
  obtain⟨r,E',hrun,h1,h2,h3⟩:=b3F (P:=P) (lv:=lo.map a.eval) h he (hop x J9) (λt ht=>by
   cases lo with
   |none=>cases ht
   |some q=>
    simp only[h9,X0] at ht;subst ht;exact⟨_,rfl,hop q J9⟩) (λhn=>by
   cases lo with
   |none=>rfl
   |some q=>cases hn) (hop hi J9) (hop mx J9)
  exact⟨w,E',.inl ⟨r,lift hrun,h1⟩,h2,h3⟩
 case h_11 args argTypes=>
  split at he
  ·rename_i x t ha hat;obtain rfl:args= #[x]:=Array.ext' sT
   obtain rfl:argTypes= #[t]:=Array.ext' a0K
   obtain⟨w',hrun,rfl,h2,h3⟩:=b7L (P:=P) (ty:=ty) h he hs (hop x vD)
   refine⟨w',E,.inl ⟨.tuple #[],?_,.und _⟩,h2,h3⟩
   simp[execOp,resolve,invoke,builtin,hrun,Result.andThen]
  ·cases he
 case h_12=>cases he
end
def V4(P:Program)(f:FuncId)(args:List T)(res:T):Prop:=
 ∀(E:Env) (w:World) (vs:Array Value),(∀k,¬E.L k/\∀v,¬E.L2 k v)->(∀b,E.N b->b<w.heap.size)->tC E w args vs->
  Calls P f vs w λe w'=>∃v,e= .returned v/\Below w.heap.size w w'/\Rd (E.addN λb=>w.heap.size<=b/\b<w'.heap.size) w' res v
def a2C(P:Program)(f:FuncId)(c:List T->Option (T×Option Prop)):Prop:=
 ∀args res p,c args=some (res,p)->p.getD True->V4 P f args res
def XB(E:Env)(H:X9)(b:Nat):Prop:=∃k ob,Y4 H k=some ob/\A3 E k ob b
def G3(P:Program)(f:FuncId)(args:List T)(H:X9)(res:T)(H':X9):Prop:=
 ∀(E:Env) (w:World) (vs:Array Value),HeapOk E w H->(∀b,E.N b->b<w.heap.size)->tC E w args vs->
  Calls P f vs w λe w'=>∃v E',e= .returned v/\Inv ⟨w,XB E H,E.N,0,E,0⟩ E' H' w'/\Stp E w E' w'/\Rd E' w' res v
def eM(P:Program)(f:FuncId)(c:List T->X9->Option (T×X9×Option Prop)):Prop:=
 ∀args H res H' p,c args H=some (res,H',p)->p.getD True->G3 P f args H res H'
def lD(t:T):Bool:=
 match t with
 | .osl .. | .ref .. =>true
 |t=>uB t
def oT:Nat->T->Bool
 |0,_=>false
 |d+1,t=>match t with
  | .agg cs=>cs.all (oT d)
  | .tup cs=>cs.all (oT d)
  |t=>lD t
def c6w(t:T):Prop:=
 match t with
 | .own _ _ n row=>∀i,i<n->∀t ∈ row i,uB t=true
 |t=>uB t=true
def a17:Ob->Prop
 | .arr true _ _ n row=>∀i,i<n->∀t ∈ row i,uB t=true
 | .arr false _ _ n row=>n=1/\∀t ∈ row 0,lD t=true
 | .fam _ _ _ n row=>∀i,i<n->∀t ∈ row i,c6w t
 | .bys _ _=>True
 | .mp _ _=>True
 | .mp2 _=>True
def C8(H:X9):Prop:=∀k ob,Y4 H k=some ob->a17 ob
def c7W(P:Program)(f:FuncId)(c:List T->Option (T×X9×Option Prop)):Prop:=
 ∀args res H' p,c args=some (res,H',p)->p.getD True->G3 P f args [] res H'/\oT 6 res=true/\C8 H'
def c7Z(P:Program)(f:FuncId)(r:Rle):Prop:=∀x,r.side x->G3 P f (r.args x) (r.pre x) (r.res x) (r.post x)
def c9h(P:Program)(f:FuncId)(r:Rle):Prop:=∀x,r.side x->G3 P f (r.args x) [] (r.res x) (r.post x)/\oT 6 (r.res x)=true/\C8 (r.post x)
def c4w(P:Program)(f:FuncId)(r:Rl):Prop:=∀x,r.side x->V4 P f (r.args x) (r.res x)
def a5O(P:Program)(f:FuncId):Con->Prop
 | .pure c=>a2C P f c
 | .eff c=>eM P f c
 | .rel r=>c4w P f r
 | .mk c=>c7W P f c
 | .reff r=>c7Z P f r
 | .rmk r=>c9h P f r
 | .fz c=>a2C P f c
 | .rfz r=>c4w P f r
 | .tmp=>True
def B6(P:Program)(G:H6):Prop:=∀x,x ∈ G->a5O P x.1 x.2
def b6R{P:Program}{G:H6}(h:B6 P G){f:FuncId}{args:List T}{r:T}{p:Option Prop}(hg:gam G f args=some (r,p))(hp:p.getD True):V4 P f args r:=by
 induction G with
 |nil=>simp[gam] at hg
 |cons x G i=>
  obtain⟨g,c⟩:=x;simp only[gam] at hg;split at hg
  ·rename_i hb;obtain rfl:=F5 hb;split at hg
   ·rename_i c;exact h (f,.pure c) W7 args r p hg hp
   ·cases hg
  ·exact i (λx X=>h x (by simp[X])) hg
def c5Q{P:Program}{G:H6}(h:B6 P G){f:FuncId}{c:List T->Option (T×X9×Option Prop)}(hg:gmk G f=some c):c7W P f c:=by
 induction G with
 |nil=>simp[gmk] at hg
 |cons x G i=>
  obtain⟨g,d⟩:=x;simp only[gmk] at hg;split at hg
  ·rename_i hb;obtain rfl:=F5 hb;split at hg
   ·rename_i C;simp only[X0] at hg;subst hg;exact h (f,.mk C) W7
   ·cases hg
  ·exact i (λx X=>h x (by simp[X])) hg
def c7o{P:Program}{G:H6}(h:B6 P G){f:FuncId}{c:List T->Option (T×Option Prop)}(hg:gfz G f=some c):a2C P f c:=by
 induction G with
 |nil=>simp[gfz] at hg
 |cons x G i=>
  obtain⟨g,d⟩:=x;simp only[gfz] at hg;split at hg
  ·rename_i hb;obtain rfl:=F5 hb;split at hg
   ·rename_i C;simp only[X0] at hg;subst hg;exact h (f,.fz C) W7
   ·cases hg
  ·exact i (λx X=>h x (by simp[X])) hg
def b0N{P:Program}{G:H6}(h:B6 P G){f:FuncId}{c:List T->X9->Option (T×X9×Option Prop)}(hg:qB G f=some c):eM P f c:=by
 induction G with
 |nil=>simp[qB] at hg
 |cons x G i=>
  obtain⟨g,d⟩:=x;simp only[qB] at hg;split at hg
  ·rename_i hb;obtain rfl:=F5 hb;split at hg
   ·rename_i C;simp only[X0] at hg;subst hg;exact h (f,.eff C) W7
   ·cases hg
  ·exact i (λx X=>h x (by simp[X])) hg
section
variable {c:Ctx} {E E':Env} {H:X9} {w w':World} {P:Program}
def Rd.closed(e:∀b,E.N b->E'.N b){t:T}{x:Value}(h:Rd E w t x):W5 t=true->Rd E' w t x:=by
 induction h with
 |int k n=>exact λ_=>.int k n
 |bool b=>exact λ_=>.bool b
 |str l=>exact λ_=>.str l
 |v x=>exact λ_=>.v x
 |slNil sz row=>exact λ_=>.slNil sz row
 |slEmp sz row a=>exact λ_=>.slEmp sz row a
 |emp a=>exact λ_=>.emp a
 |bysEmp a=>exact λ_=>.bysEmp a
 |sl sz n row b off cap u B C L d r _ I=>
  exact λ_=>.sl sz n row b off cap u (e b B) C L d r (λi j t hi J=>I i j t hi J (d i t hi (y4 J)).2)
 |bysNil=>exact λ_=>.bysNil
 |bys l b off cap B C r=>exact λ_=>.bys l b off cap (e b B) C r
 |bref cells b off u B d r _ I=>exact λ_=>.bref cells b off u (e b B) d r (λj t J=>I j t J (d t (y4 J)))
 |ref=>intro h;cases h
 |osl=>intro h;cases h
 |posl=>intro h;cases h
 |pref=>intro h;cases h
 |agg=>intro h;cases h
 |tup=>intro h;cases h
 |fn=>intro h;cases h
 |mpr=>intro h;cases h
 |und x=>exact λ_=>.und x
def Rd.closedD(j:∀b,E.N b->E'.N b):∀(d:Nat) {t:T} {x:Value},Rd E w t x->closedD d t=true->Rd E' w t x:=by
 intro d;induction d with
 |zero=>intro t x _ C;simp[SS.closedD] at C
 |succ d I=>
  intro t x h C;have g:=h;cases h with
  |agg cs vs l e=>exact .agg cs vs l λi t x hi X=>I (e i t x hi X) (b9.1 C t (y4 hi))
  |tup cs vs l e=>exact .tup cs vs l λi t x hi X=>I (e i t x hi X) (b9.1 C t (y4 hi))
  |fn f cs vs l e=>exact .fn f cs vs l λi t x hi X=>I (e i t x hi X) (b9.1 C t (y4 hi))
  |ref=>simp[SS.closedD,W5] at C
  |osl=>simp[SS.closedD,W5] at C
  |posl=>simp[SS.closedD,W5] at C
  |pref=>simp[SS.closedD,W5] at C
  |mpr=>simp[SS.closedD,W5] at C
  |und=>exact .und x
  |_=>exact g.closed j rfl
def Rd.plain:∀(d:Nat) {t:T} {x:Value},Rd E w t x->oW d t=true->Rd E' w' t x:=by
 intro d;induction d with
 |zero=>intro t x _ C;simp[oW] at C
 |succ d I=>
  intro t x h C;cases h with
  |agg cs vs L e=>exact .agg cs vs L λi t x hi X=>I (e i t x hi X) (b9.1 C t (y4 hi))
  |tup cs vs L e=>exact .tup cs vs L λi t x hi X=>I (e i t x hi X) (b9.1 C t (y4 hi))
  |int k n=>exact .int k n
  |bool b=>exact .bool b
  |str l=>exact .str l
  |_=>simp[oW] at C
def Env.lent(E:Env)(B:Nat)(H:X9):Env where
 N:=λb=>E.N b∨∃k ob,B<=k/\Y4 H k=some ob/\A3 E k ob b
 L:=λk=>E.L k/\k<B
 β:=E.β
 κ:=E.κ
 z:=E.z
 L2:=λk v=>E.L2 k v/\k<B
 b2:=E.b2
 c2:=E.c2
def J3{α β:Type}{f:α->Option β}:∀{l:List α} {q:List β},O0 f l=some q->q.length=l.length/\∀(i:Nat) (a:α) (b:β),l[i]? =some a->q[i]? =some b->f a=some b:=by
 intro l;induction l with
 |nil=>intro q h;simp[O0] at h;subst h;exact⟨rfl,λi a b ha=>by simp at ha⟩
 |cons x l ih=>
  intro q h;simp only[O0] at h;split at h
  ·rename_i b q' hb hq;simp only[X0] at h;subst h;obtain⟨h1,h2⟩:=ih hq;refine⟨by simp[h1],λi a b' ha hb'=>?_⟩
   cases i with
   |zero=>simp at ha hb';subst ha;subst hb';exact hb
   |succ i=>exact h2 i a b' sT (by simpa using hb')
  ·cases h
def xN{p q:Option Prop}(h:(mN p q).getD True):p.getD True/\q.getD True:=by
 cases p with
 |none=>exact⟨trivial,by simpa[mN] using h⟩
 |some p=>
  cases q with
  |none=>exact⟨h,trivial⟩
  |some q=>exact h
def zU:∀{l:List (T×Option Prop)},(wA l).getD True->∀x ∈ l,x.2.getD True:=by
 intro l;induction l with
 |nil=>intro _ x X;cases X
 |cons y l i=>
  intro h x X;simp only[wA] at h;obtain⟨e,d⟩:=xN h;rcases vN.1 X with rfl|X
  ·exact e
  ·exact i d x X
def a8g(sz:Nat)(row:Nat->List T)(a:Option Addr):Rd E w (.sl sz 0 row) (.slice a 0 0):=by
 cases a with
 |none=>exact .slNil _ _
 |some a=>exact .slEmp _ _ _
def jG{t:T}(h:closedOne t=true):c7T t=t:=by
 cases t<;>first|rfl|(simp[closedOne,W5] at h)
def b48{k v i j n m osz:Nat}{o:TypeId}{orow:Nat->List T}{u:Value}(e:∀b,E.N b->E'.N b)(O:T5 (E.sub k v i j osz) w 0 ⟨true,o,osz,m,orow⟩)(f:n<=m)(hb:E.c2 k v i j≠0->E'.N (E.b2 k v i j))(hu:Rd E w (.posl k v i j n) u):
  Rd E' w (.sl osz n orow) u:=by
 obtain⟨z,d,hl,hone,hcl,cs,ty,hblk,h,hc⟩:=O;simp only at z d hl hone hcl h hc;cases hu with
 |posl _ _ _ _ _ a L hn' ha=>
  by_cases hc2:E.c2 k v i j=0
  ·obtain rfl:n=0:=by omega
   rw[hc2];exact a8g _ _ a
  ·rw[ha hc2];have hblk:=hblk hc2;refine .sl osz n orow (E.b2 k v i j) 0 (E.c2 k v i j) (λr q=>(cs[r*osz+q]?).getD undef) (hb hc2) hn' (λr hr=>hl r Z9) (λr t hr ht=>⟨hone r t Z9 ht,hcl trivial r t Z9 ht⟩) (λr q t hr hq=>?_) (λr q t hr hq=>?_)
   ·obtain⟨u,hu,_⟩:=hc r q t Z9 hq
    rw[D4];exact(S2 hblk).trans (by rw[hu];rfl)
   ·obtain⟨u,hu,hr'⟩:=hc r q t Z9 hq
    rw[hu];exact Rd.closed (E:=E.sub k v i j osz) (E':=E') e hr' (hcl trivial r t Z9 (y4 hq))
def o6{b0:Nat}(h:Inv c E H w):∀(d:Nat) {t r:T} {p:Option Prop} {x:Value},M5 b0 H d t=some (r,p)->p.getD True->Rd E w t x->Rd (E.lent b0 H) w r x:=by
 intro d;induction d with
 |zero=>intro t r p x hb;simp[M5] at hb
 |succ d ih=>
  intro t r p x hb hp hx;have hN:∀b,E.N b->(E.lent b0 H).N b:=λb hb=>.inl hb
  have list:∀(cs:List T) (vs:Array Value) (cs':List (T×Option Prop)),O0 (M5 b0 H d) cs=some cs'->(wA cs').getD True->cs.length=vs.size->(∀(i:Nat) (t:T) (x:Value),cs[i]? =some t->vs[i]? =some x->Rd E w t x)->
    (cs'.map (·.1)).length=vs.size/\∀(i:Nat) (t:T) (x:Value),(cs'.map (·.1))[i]? =some t->vs[i]? =some x->Rd (E.lent b0 H) w t x:=by
   intro cs vs cs' hm hs hl ht;obtain⟨h1,h2⟩:=J3 hm;refine⟨by simp[h1,hl],λi t x hi hx=>?_⟩
   simp only[oE,F1] at hi
   obtain⟨y,hy,rfl⟩:=hi;have hlt:i<cs.length:=by rw[←h1];exact(u6.1 hy).1
   have hc:=I1 hlt
   have hb:=h2 i _ y hc hy;exact ih (r:=y.1) (p:=y.2) hb (zU hs y (y4 hy)) (ht i _ x hc hx)
  unfold M5 at hb;split at hb
  ·rename_i k i j;split at hb
   ·rename_i hlt;simp only[X0,U4] at hb;obtain⟨rfl,rfl⟩:=hb;cases hx with
    |ref _ _ _ hL=>exact .ref (E:=E.lent b0 H) k i j ⟨hL,yH hlt⟩
   rename_i hge;have hge:b0<=k:=by
    rcases Nat.lt_or_ge k b0 with h|h
    ·have:Nat.blt k b0=true:=Nat.ble_eq_true_of_le h;rw[hge] at this;cases this
    ·exact h
   split at hb
   ·rename_i A hA;split at hb
    ·rename_i hA1;split at hb
     ·rename_i cs hm;split at hb
      case h_2=>cases hb
      rename_i hall;simp only[X0,U4] at hb;obtain⟨rfl,rfl⟩:=hb;obtain⟨u,hr,ht⟩:=b8s h.heap hA (i:=0) Z9
      obtain⟨hL,⟨hz,hn,hl,hone,hcl,_⟩,_⟩:=h.heap.arr hA;obtain⟨ob,hob,_⟩:=a1e hA;obtain⟨h1,h2⟩:=J3 hm;rw[a1h hx];refine .bref _ _ _ (λi=>u (j+i)) (.inr ⟨k,ob,hge,hob,.inl ⟨Z9,rfl⟩⟩) (λt hmem=>?_) (λi t hi=>?_) (λi t hi=>?_)
      ·obtain⟨y,hy,rfl⟩:=List.mem_map.1 hmem;exact b9.1 hall y hy
      ·simp only[oE,F1] at hi
       obtain⟨y,hy,rfl⟩:=hi;have hlt:i<((A.row 0).drop j).length:=by rw[←h1];exact(u6.1 hy).1
       have hc:=I1 hlt
       rw[List.getElem?_drop] at hc
       have:=hr _ _ hc
       rwa [show 0*(E.z k).1+(j+i)=0*(E.z k).1+j+i by omega] at this
      ·simp only[oE,F1] at hi
       obtain⟨y,hy,rfl⟩:=hi;have hlt:i<((A.row 0).drop j).length:=by rw[←h1];exact(u6.1 hy).1
       have hc:=I1 hlt
       have hb:=h2 i _ y hc hy;rw[List.getElem?_drop] at hc
       exact ih (r:=y.1) (p:=y.2) hb (zU hp y (y4 hy)) (ht _ _ hc)
     ·cases hb
    ·cases hb
   ·cases hb
  ·rename_i k off n;split at hb
   ·rename_i hlt;simp only[X0,U4] at hb;obtain⟨rfl,rfl⟩:=hb;cases hx with
    |osl _ _ _ o a hL hn ho ha=>exact .osl (E:=E.lent b0 H) k off n o a ⟨hL,yH hlt⟩ hn ho ha
   rename_i hge;have hge:b0<=k:=by
    rcases Nat.lt_or_ge k b0 with h|h
    ·have:Nat.blt k b0=true:=Nat.ble_eq_true_of_le h;rw[hge] at this;cases this
    ·exact h
   split at hb
   ·rename_i ty sz m row hk;simp only[X0,U4] at hb;obtain⟨rfl,rfl⟩:=hb;have hle:=oD hp;obtain⟨hL,⟨hz,hn,hl,hone,hcl,cs,ty,hblk,hsz,hc⟩,hNk⟩:=h.heap.live _ _ hk;simp only[Ob.toArr] at hz hn hl hone hcl hsz hc;cases hx with
    |osl _ _ _ o a _ hn' ho ha=>
     rw[lF];by_cases hκ:E.κ k=0
     ·obtain rfl:n=0:=by omega
      rw[hκ,Nat.zero_sub];exact a8g _ _ a
     have hblk:=hblk hκ;rw[ha hκ];have hob:0<n->o=off*sz:=λh=>by rw[ho (.inl Z9),hz]
     refine .sl sz n _ (E.β k) o (E.κ k-off) (λi j=>(cs[(off+i)*sz+j]?).getD undef) (.inr ⟨k,_,hge,hk,.inl ⟨hκ,rfl⟩⟩) Z9 (λi hi=>hl _ Z9) (λi t hi ht=>⟨hone _ t Z9 ht,hcl trivial _ t Z9 ht⟩) (λi j t hi hj=>?_) (λi j t hi hj=>?_)
     ·obtain⟨u,hu,_⟩:=hc (off+i) j t Z9 hj
      rw[S2 hblk,hob Z9,←Nat.add_mul,hu]
      rfl
     ·obtain⟨u,hu,hr⟩:=hc (off+i) j t Z9 hj
      rw[hu];exact Rd.closed hN hr (hcl trivial _ t Z9 (y4 hj))
   ·rename_i v0 ty sz m row hk;simp only[X0,U4] at hb;obtain⟨rfl,rfl⟩:=hb;have hle:=oD hp;obtain⟨hL,hF,hNk⟩:=h.heap.live _ _ hk;have hF:FamOk E w k v0 ty sz m row:=hF;obtain⟨hz,hn,hl,hone,hcl,cs,ty2,hblk,hsz,hc⟩:=hF.arr;simp only at hz hn hl hone hcl hsz hc;cases hx with
    |osl _ _ _ o a _ hn' ho ha=>
     rw[lF];by_cases hκ:E.κ k=0
     ·obtain rfl:n=0:=by omega
      rw[hκ,Nat.zero_sub];exact a8g _ _ a
     have hblk:=hblk hκ;rw[ha hκ];have hob:0<n->o=off*sz:=λh=>by rw[ho (.inl Z9),hz]
     have get:∀(i j:Nat) (t:T),i<n->(a1C (λi=>row (off+i)) i)[j]? =some t->∃t0:T,(row (off+i))[j]? =some t0/\t=c7T t0:=λi j t hi hj=>by
      simp only[a1C,oE,F1] at hj
      obtain⟨t0,h0,rfl⟩:=hj;exact⟨t0,h0,rfl⟩
     refine .sl sz n _ (E.β k) o (E.κ k-off) (λi j=>(cs[(off+i)*sz+j]?).getD undef) (.inr ⟨k,_,hge,hk,.inl ⟨hκ,rfl⟩⟩) Z9 (λi hi=>by simp only[a1C,List.length_map];have:=hl (off+i) Z9;rwa [O5] at this) (λi t hi ht=>?_) (λi j t hi hj=>?_) (λi j t hi hj=>?_)
     ·obtain⟨j,hj⟩:=List.getElem?_of_mem ht
      obtain⟨t0,h0,rfl⟩:=get i j t hi hj;rcases hF.cell (show off+i<m by omega) h0 with hco|⟨oty,osz,on,orow,rfl⟩
      ·rw[jG hco];exact⟨(K4 hco).2,(K4 hco).1⟩
      ·exact⟨rfl,rfl⟩
     ·obtain⟨t0,h0,rfl⟩:=get i j t hi hj;obtain⟨u,hu,_⟩:=hc (off+i) j (rV k v0 (off+i) j t0) Z9 (by rw[I5,h0];rfl)
      rw[S2 hblk,hob Z9,←Nat.add_mul,hu]
      rfl
     ·obtain⟨t0,h0,rfl⟩:=get i j t hi hj;obtain⟨u,hu,hr⟩:=hc (off+i) j (rV k v0 (off+i) j t0) Z9 (by rw[I5,h0];rfl)
      rw[hu];rcases hF.cell (show off+i<m by omega) h0 with hco|⟨oty,osz,on,orow,rfl⟩
      ·rw[M1 hco] at hr;rw[jG hco];exact Rd.closed hN hr (K4 hco).1
      ·refine b48 (E':=E.lent b0 H) hN (hF.own (off+i) j oty osz on orow Z9 h0).1 (U9 _) (λhc2=>.inr ⟨k,_,hge,hk,.inr ⟨_,_,_,_,_,_,_,_,_,_,_,rfl,Z9,h0,hc2,rfl⟩⟩) hr
   ·rename_i ty l hk;simp only[X0,U4] at hb;obtain⟨rfl,rfl⟩:=hb;cases hx with
    |osl _ _ _ o a _ hn' ho ha=>
     obtain⟨hlen,hcell⟩:=a23 h.heap hk hp ho;by_cases hκ:E.κ k=0
     ·obtain rfl:n=0:=by omega
      rw[hκ,Nat.zero_sub,List.take_zero];cases a with
      |none=>exact .bysNil
      |some a=>exact .bysEmp a
     rw[ha hκ];have:=Rd.bys (E:=E.lent b0 H) (w:=w) ((l.drop off).take n) (E.β k) o (E.κ k-off) (.inr ⟨k,_,hge,hk,.inl ⟨hκ,rfl⟩⟩) Z9 hcell
     rwa [hlen] at this
   ·rename_i ty sz m row hk;split at hb
    case h_2=>cases hb
    rename_i hg;simp only[J5] at hg;obtain⟨⟨⟨g1,g2⟩,g3⟩,g4⟩:=hg;obtain rfl:=F5 g1;obtain rfl:=F5 g2;obtain rfl:=F5 g3;obtain rfl:=F5 g4;split at hb
    case h_2=>cases hb
    rename_i c0 c1 hm0 hm1;split at hb
    case h_2=>cases hb
    rename_i hall;simp only[X0,U4] at hb;obtain⟨rfl,rfl⟩:=hb;obtain⟨hL,⟨hz,hn,hl,hone,hcl,cs,ty,hblk,hsz,hc⟩,hNk⟩:=h.heap.live _ _ hk;simp only[Ob.toArr] at hz hn hl hone hcl hsz hc;obtain⟨p1,p2⟩:=J3 hm0;obtain⟨q1,q2⟩:=J3 hm1;have hl0:=hl 0 Z9
    have hl1:=hl 1 Z9
    have get:∀(i j:Nat) (t:T),i<2->(dZ (c0.map (·.1)) (c1.map (·.1)) i)[j]? =some t->∃y,y ∈ c0++c1/\t=y.1/\∃t0,(row i)[j]? =some t0/\M5 b0 H d t0=some y:=λi j t hi hj=>by
     match i,hi with
     |0,_=>
      simp only[dZ,oE,F1] at hj
      obtain⟨y,hy,rfl⟩:=hj;have hlt:j<(row 0).length:=by rw[←p1];exact(u6.1 hy).1
      have hc0:=I1 hlt
      exact⟨y,List.mem_append_left _ (y4 hy),rfl,_,hc0,p2 j _ y hc0 hy⟩
     |1,_=>
      simp only[dZ,oE,F1] at hj
      obtain⟨y,hy,rfl⟩:=hj;have hlt:j<(row 1).length:=by rw[←q1];exact(u6.1 hy).1
      have hc0:=I1 hlt
      exact⟨y,List.mem_append_right _ (y4 hy),rfl,_,hc0,q2 j _ y hc0 hy⟩
    cases hx with
    |osl _ _ _ o a _ hn' ho ha=>
     by_cases hκ:E.κ k=0
     ·omega
     have hblk:=hblk hκ;rw[ha hκ];have hob:o=0*1:=by rw[ho (.inl Z9)];omega
     refine .sl 1 2 _ (E.β k) o (E.κ k-0) (λi j=>(cs[(0+i)*1+j]?).getD undef) (.inr ⟨k,_,hge,hk,.inl ⟨hκ,rfl⟩⟩) Z9 (λi hi=>?_) (λi t hi ht=>?_) (λi j t hi hj=>?_) (λi j t hi hj=>?_)
     ·match i,hi with
      |0,_=>simp only[dZ,List.length_map,p1];exact hl0
      |1,_=>simp only[dZ,List.length_map,q1];exact hl1
     ·obtain⟨j,hj⟩:=List.getElem?_of_mem ht
      obtain⟨y,hy,rfl,_⟩:=get i j t hi hj;have:=b9.1 hall y hy;rw[J5] at this;exact⟨this.2,this.1⟩
     ·obtain⟨y,hy,rfl,t0,h0,_⟩:=get i j t hi hj;obtain⟨u,hu,_⟩:=hc (0+i) j t0 Z9 (by rw[D4];exact h0)
      rw[S2 hblk,hob,←Nat.add_mul,hu];rfl
     ·obtain⟨y,hy,rfl,t0,h0,hb0⟩:=get i j t hi hj;obtain⟨u,hu,hr⟩:=hc (0+i) j t0 Z9 (by rw[D4];exact h0)
      rw[hu];exact ih (r:=y.1) (p:=y.2) hb0 (zU hp y hy) hr
   ·cases hb
  ·rename_i cs;cases hm:O0 (M5 b0 H d) cs with
   |none=>rw[hm] at hb;cases hb
   |some cs'=>
    rw[hm] at hb;simp only[h9,X0,U4] at hb;obtain⟨rfl,rfl⟩:=hb;cases hx with
    |agg _ vs hl ht=>
     obtain⟨a1,a2⟩:=list cs vs cs' hm hp hl ht;exact .agg _ vs a1 a2
  ·rename_i f cs;cases hm:O0 (M5 b0 H d) cs with
   |none=>rw[hm] at hb;cases hb
   |some cs'=>
    rw[hm] at hb;simp only[h9,X0,U4] at hb;obtain⟨rfl,rfl⟩:=hb;cases hx with
    |fn _ _ vs hl ht=>
     obtain⟨a1,a2⟩:=list cs vs cs' hm hp hl ht;exact .fn _ _ vs a1 a2
  ·rename_i cs;cases hm:O0 (M5 b0 H d) cs with
   |none=>rw[hm] at hb;cases hb
   |some cs'=>
    rw[hm] at hb;simp only[h9,X0,U4] at hb;obtain⟨rfl,rfl⟩:=hb;cases hx with
    |tup _ vs hl ht=>
     obtain⟨a1,a2⟩:=list cs vs cs' hm hp hl ht;exact .tup _ vs a1 a2
  ·cases hb
  ·rename_i k v i j n;split at hb
   ·rename_i hlt;simp only[X0,U4] at hb;obtain⟨rfl,rfl⟩:=hb;cases hx with
    |posl _ _ _ _ _ a hL hn ha=>exact .posl (E:=E.lent b0 H) k v i j n a ⟨hL,yH hlt⟩ hn ha
   rename_i hge;have hge:b0<=k:=by
    rcases Nat.lt_or_ge k b0 with h|h
    ·have:Nat.blt k b0=true:=Nat.ble_eq_true_of_le h;rw[hge] at this;cases this
    ·exact h
   split at hb
   ·rename_i A hA;simp only[X0,U4] at hb;obtain⟨rfl,rfl⟩:=hb;obtain⟨hv,hi,hn⟩:PoB v A.v i A.n n A.A.n:=hp;obtain⟨hO,_,_⟩:=a2h h.heap hA hv hi;obtain⟨ty,sz,row,hk,hj,hcl⟩:=xW hA;subst hv;obtain⟨v',n',cl,oty,osz,m,orow⟩:=A;simp only at hcl;subst hcl;exact b48 (E':=E.lent b0 H) hN hO hn (λhc2=>.inr ⟨k,_,hge,hk,.inr ⟨_,_,_,_,_,_,_,_,_,_,_,rfl,hi,hj,hc2,rfl⟩⟩) hx
   ·cases hb
  ·rename_i k v i j z a b;split at hb
   ·rename_i hlt;simp only[X0,U4] at hb;obtain⟨rfl,rfl⟩:=hb;cases hx with
    |pref _ _ _ _ _ _ _ hL=>exact .pref (E:=E.lent b0 H) k v i j z a b ⟨hL,yH hlt⟩
   ·cases hb
  ·cases hb
  ·rename_i n1 n2 n3 n4 n5 n6 n7 n8 n9;simp only[X0,U4] at hb;obtain⟨rfl,rfl⟩:=hb;refine Rd.closed hN hx ?_
   cases t<;>first|rfl|(exfalso;first|exact n1 _ _ _ rfl|exact n2 _ _ _ rfl|exact n3 _ rfl|exact n4 _ _ rfl|exact n5 _ rfl|exact n6 _ rfl|exact n7 _ _ _ _ _ rfl|exact n8 _ _ _ _ _ _ _ rfl|exact n9 _ _ _ _ rfl)
end
def Env.ren(E:Env)(ρ:Nat->Option Nat)(len:Nat):Env where
 N:=E.N
 L:=λk=>k<len/\∃m,ρ k=some m/\E.L m
 β:=λk=>E.β ((ρ k).getD k)
 κ:=λk=>E.κ ((ρ k).getD k)
 z:=λk=>E.z ((ρ k).getD k)
 L2:=λk v=>k<len/\∃m,ρ k=some m/\E.L2 m v
 b2:=λk=>E.b2 ((ρ k).getD k)
 c2:=λk=>E.c2 ((ρ k).getD k)
section
variable {c:Ctx} {E:Env} {H H':X9} {w w':World} {ρ:Nat->Option Nat} {len:Nat} {P:Program} {G:H6}
def a5v{p:Prop}(h:p:=by simp[Env.ren,hm]):p:=h
def Rd.ren(e:∀k m,ρ k=some m->k<len):∀(d:Nat) {t I:T} {x:Value},S8 ρ d I=some t->Rd E w t x->Rd (E.ren ρ len) w I x:=by
 intro d;induction d with
 |zero=>intro t I x h;simp[S8] at h
 |succ d U=>
  intro t I x h hx;have L:∀(cs cs':List T) (vs:Array Value),O0 (S8 ρ d) cs'=some cs->cs.length=vs.size->(∀(i:Nat) (t:T) (x:Value),cs[i]? =some t->vs[i]? =some x->Rd E w t x)->
    cs'.length=vs.size/\∀(i:Nat) (t:T) (x:Value),cs'[i]? =some t->vs[i]? =some x->Rd (E.ren ρ len) w t x:=by
   intro cs cs' vs hm A ht;obtain⟨r,q⟩:=J3 hm;refine⟨Z9,λi t x hi hx=>?_⟩
   have e:i<cs.length:=by rw[r];exact(u6.1 hi).1
   have hc:=I1 e
   exact U (q i t _ hi hc) (ht i _ x hc hx)
  unfold S8 at h;split at h
  ·rename_i k i j;simp only[F1] at h;obtain⟨m,hm,rfl⟩:=h;cases hx with
   |ref _ _ _ g=>
    have:=Rd.ref (E:=E.ren ρ len) (w:=w) k i j ⟨e k m hm,m,hm,g⟩
    simpa[Env.ren,hm] using this
  ·rename_i k off n;simp only[F1] at h;obtain⟨m,hm,rfl⟩:=h;cases hx with
   |osl _ _ _ o a g N Q M=>
    have:=Rd.osl (E:=E.ren ρ len) (w:=w) k off n o a ⟨e k m hm,m,hm,g⟩ (by simpa[Env.ren,hm] using N) (by simpa[Env.ren,hm] using Q) (by simpa[Env.ren,hm] using M)
    simpa[Env.ren,hm] using this
  ·rename_i k;simp only[F1] at h;obtain⟨m,hm,rfl⟩:=h;cases hx with
   |mpr _ g=>
    have:=Rd.mpr (E:=E.ren ρ len) (w:=w) k ⟨e k m hm,m,hm,g⟩
    simpa[Env.ren,hm] using this
  ·rename_i k v i j n;simp only[F1] at h;obtain⟨m,hm,rfl⟩:=h;cases hx with
   |posl _ _ _ _ _ a g N M=>
    have:=Rd.posl (E:=E.ren ρ len) (w:=w) k v i j n a ⟨e k m hm,m,hm,g⟩ (by simpa[Env.ren,hm] using N) (by simpa[Env.ren,hm] using M)
    simpa[Env.ren,hm] using this
  ·rename_i k v i j z a b;simp only[F1] at h;obtain⟨m,hm,rfl⟩:=h;cases hx with
   |pref _ _ _ _ _ _ _ g=>
    have:=Rd.pref (E:=E.ren ρ len) (w:=w) k v i j z a b ⟨e k m hm,m,hm,g⟩
    simpa[Env.ren,hm] using this
  ·rename_i cs';simp only[F1] at h;obtain⟨cs,hm,rfl⟩:=h;cases hx with
   |agg _ vs A ht=>obtain⟨C,F⟩:=L cs cs' vs hm A ht;exact .agg _ vs C F
  ·rename_i cs';simp only[F1] at h;obtain⟨cs,hm,rfl⟩:=h;cases hx with
   |tup _ vs A ht=>obtain⟨C,F⟩:=L cs cs' vs hm A ht;exact .tup _ vs C F
  ·rename_i f cs';simp only[F1] at h;obtain⟨cs,hm,rfl⟩:=h;cases hx with
   |fn _ _ vs A ht=>obtain⟨C,F⟩:=L cs cs' vs hm A ht;exact .fn _ _ vs C F
  ·rename_i n1 n2 n6 n7 n8 n3 n4 n5;simp only[X0] at h;subst h;have hc:∀{t:T} {x:Value},Rd E w t x->W5 t=true->Rd (E.ren ρ len) w t x:=λhx ht=>Rd.closed (E:=E) (E':=E.ren ρ len) (λ_ h=>h) hx ht
   cases hx with
   |und x=>exact .und x
   |ref=>exact absurd rfl (n1 _ _ _)
   |osl=>exact absurd rfl (n2 _ _ _)
   |mpr=>exact absurd rfl (n6 _)
   |posl=>exact absurd rfl (n7 _ _ _ _ _)
   |pref=>exact absurd rfl (n8 _ _ _ _ _ _ _)
   |agg=>exact absurd rfl (n3 _)
   |tup=>exact absurd rfl (n4 _)
   |fn=>exact absurd rfl (n5 _ _)
   |int=>exact .int _ _
   |bool=>exact .bool _
   |str=>exact .str _
   |v=>exact .v _
   |slNil=>exact .slNil _ _
   |slEmp=>exact .slEmp _ _ _
   |emp=>exact .emp _
   |bysEmp=>exact .bysEmp _
   |bysNil=>exact .bysNil
   |sl sz n row b off cap u r q B J O R=>exact hc (.sl sz n row b off cap u r q B J O R) rfl
   |bys l b off cap r q B=>exact hc (.bys l b off cap r q B) rfl
   |bref cells b off u r q B J=>exact hc (.bref cells b off u r q B J) rfl
def b9w:∀{d:Nat} {t e:T},S8 ρ d e=some t->H7 t=true->H7 e=true:=by
 intro d t e h f;cases d with
 |zero=>simp[S8] at h
 |succ d=>
  unfold S8 at h;split at h
  ·rfl
  ·rfl
  ·rfl
  ·rfl
  ·rfl
  ·simp only[F1] at h;obtain⟨cs,_,rfl⟩:=h;simp[H7] at f
  ·simp only[F1] at h;obtain⟨cs,_,rfl⟩:=h;simp[H7] at f
  ·rfl
  ·simp only[X0] at h;subst h;exact f
def b9I{ρ1 ρ2:Nat->Option Nat}(h:∀k i,ρ1 k=some i->ρ2 i=some k):∀{d:Nat} {t e:T},S8 ρ1 d t=some e->S8 ρ2 d e=some t:=by
 intro d;induction d with
 |zero=>intro t e ht;simp[S8] at ht
 |succ d f=>
  have L:∀{l q:List T},O0 (S8 ρ1 d) l=some q->O0 (S8 ρ2 d) q=some l:=by
   intro l;induction l with
   |nil=>intro q Q;simp only[O0,X0] at Q;subst Q;rfl
   |cons x l I=>
    intro q Q;simp only[O0] at Q;split at Q
    ·rename_i B r;simp only[X0] at Q;subst Q;simp only[O0,f B,I r]
    ·cases Q
  intro t e ht;unfold S8 at ht;split at ht
  ·simp only[F1] at ht;obtain⟨m,M,rfl⟩:=ht;simp[S8,h _ _ M]
  ·simp only[F1] at ht;obtain⟨m,M,rfl⟩:=ht;simp[S8,h _ _ M]
  ·simp only[F1] at ht;obtain⟨m,M,rfl⟩:=ht;simp[S8,h _ _ M]
  ·simp only[F1] at ht;obtain⟨m,M,rfl⟩:=ht;simp[S8,h _ _ M]
  ·simp only[F1] at ht;obtain⟨m,M,rfl⟩:=ht;simp[S8,h _ _ M]
  ·simp only[F1] at ht;obtain⟨cs,M,rfl⟩:=ht;simp[S8,L M]
  ·simp only[F1] at ht;obtain⟨cs,M,rfl⟩:=ht;simp[S8,L M]
  ·simp only[F1] at ht;obtain⟨cs,M,rfl⟩:=ht;simp[S8,L M]
  ·rename_i n1 n2 n6 n7 n8 n3 n4 n5;simp only[X0] at ht;subst ht;unfold S8;split
   ·exact absurd rfl (n1 _ _ _)
   ·exact absurd rfl (n2 _ _ _)
   ·exact absurd rfl (n6 _)
   ·exact absurd rfl (n7 _ _ _ _ _)
   ·exact absurd rfl (n8 _ _ _ _ _ _ _)
   ·exact absurd rfl (n3 _)
   ·exact absurd rfl (n4 _)
   ·exact absurd rfl (n5 _ _)
   ·rfl
def jC{d:Nat}{t:T}(h:W5 t=true):S8 ρ (d+1) t=some t:=by
 cases t<;>first|rfl|(simp[W5] at h)
def b2A{d:Nat}{t f:T}(h:S8 ρ d t=some f)(e:H7 t=true):H7 f=true:=by
 cases d with
 |zero=>simp[S8] at h
 |succ d=>
  unfold S8 at h;split at h
  ·simp only[F1] at h;obtain⟨_,_,rfl⟩:=h;rfl
  ·simp only[F1] at h;obtain⟨_,_,rfl⟩:=h;rfl
  ·simp only[F1] at h;obtain⟨_,_,rfl⟩:=h;rfl
  ·simp only[F1] at h;obtain⟨_,_,rfl⟩:=h;rfl
  ·simp only[F1] at h;obtain⟨_,_,rfl⟩:=h;rfl
  ·simp[H7] at e
  ·simp[H7] at e
  ·simp only[F1] at h;obtain⟨_,_,rfl⟩:=h;rfl
  ·simp only[X0] at h;subst h;exact e
def ObQ(Q:T->Prop)(ob:Ob):Prop:=
 match ob with
 | .fam _ _ _ n row=>(∀i t,i<n->t ∈ row i->closedOne t=true->Q t)/\∀i oty osz on orow,i<n->T.own oty osz on orow ∈ row i->∀a t,a<on->t ∈ orow a->Q t
 |ob=>∀i t,i<ob.toArr.n->t ∈ ob.toArr.row i->Q t
def a99{Q:T->Prop}{E2:Env}{k F:Nat}{ob O:Ob}(h:T5 E w k ob.toArr)(I:∀i t,i<ob.toArr.n->t ∈ ob.toArr.row i->Q t)(A:ob.isArr=true)(hf:lJ ρ ob=some O)(v:∀t f x,Q t->S8 ρ 6 t=some f->Rd E w t x->Rd E2 w' f x)
  (V:E2.β F=E.β k) (C:E2.κ F=E.κ k) (Z:E2.z F=E.z k) (Y:E.κ k≠0->w'.heap[E.β k]? =w.heap[E.β k]?):T5 E2 w' F O.toArr:=by
 obtain⟨hz0,hn,hl,hone,hcl,cs,ty,g,hsz,L⟩:=h;have hblk:E.κ k≠0->w'.heap[E.β k]? =some (.cells cs ty (0,0)):=λC=>by rw[Y C];exact g C
 have d:∀t x,Q t->W5 t=true->Rd E w t x->Rd E2 w' t x:=λt x X ht hx=>v t t x X (jC ht) hx
 unfold T5;rw[V,C,Z];unfold lJ at hf;split at hf
 ·simp only[X0] at hf;subst hf;refine⟨hz0,hn,hl,hone,hcl,cs,ty,hblk,hsz,λi j t hi hj=>?_⟩
  obtain⟨u,U,R⟩:=L i j t hi hj;exact⟨u,U,d t u (I i t hi (y4 hj)) (hcl rfl i t hi (y4 hj)) R⟩
 ·cases A
 ·simp only[X0] at hf;subst hf;refine⟨hz0,hn,hl,hone,hcl,cs,ty,hblk,hsz,λi j t hi hj=>?_⟩
  obtain⟨u,U,R⟩:=L i j t hi hj;exact⟨u,U,d t u (I i t hi (y4 hj)) (hcl rfl i t hi (y4 hj)) R⟩
 ·split at hf
  ·rename_i W sz row n0;simp only[F1] at hf;obtain⟨r,R,rfl⟩:=hf;obtain⟨M,N⟩:=J3 R;simp only[Ob.toArr] at*;have e:∀(j:Nat) (f:T),r[j]? =some f->∃t,(row 0)[j]? =some t/\S8 ρ 6 t=some f:=by
    intro j f hj;have o:j<(row 0).length:=by rw[←M];exact(u6.1 hj).1
    exact⟨_,I1 o,N j _ f (I1 o) hj⟩
   refine⟨hz0,hn,λi hi=>?_,λi t hi ht=>?_,λJ=>(by cases J),cs,ty,hblk,hsz,λi j t hi hj=>?_⟩
   ·rw[M];exact hl 0 Z9
   ·obtain⟨j,hj⟩:=List.getElem?_of_mem ht
    obtain⟨q,B,l⟩:=e j t hj;exact b2A l (hone 0 q Z9 (y4 B))
   ·obtain rfl:i=0:=by omega
    obtain⟨q,B,l⟩:=e j t hj;obtain⟨u,U,R⟩:=L 0 j q Z9 B
    exact⟨u,U,v q t u (I 0 q Z9 (y4 B)) l R⟩
  ·cases hf
 ·cases A
 ·cases A
def FamOk.ren{E2:Env}{k k2 v:Nat}{ty:TypeId}{sz n:Nat}{row:Nat->List T}(h:FamOk E w k v ty sz n row){Q:T->Prop}(hQ:ObQ Q (.fam v ty sz n row))(e:∀t x,Q t->W5 t=true->Rd E w t x->Rd E2 w' t x)
  (hb:E2.β k2=E.β k) (hκ:E2.κ k2=E.κ k) (R:E2.z k2=E.z k) (A:E2.L2 k2 v) (hb2:∀i j,E2.b2 k2 v i j=E.b2 k v i j) (hc2:∀i j,E2.c2 k2 v i j=E.c2 k v i j)
  (W:∀b,A3 E k (.fam v ty sz n row) b->w'.heap[b]? =w.heap[b]?):FamOk E2 w' k2 v ty sz n row:=by
 obtain⟨J,N,hl,V,aa,cs,F,l,Z,hc⟩:=h.arr;refine i7 A (by rw[R];exact J) (by rw[hκ];exact N) cs F (λh0=>by rw[hκ] at h0;rw[hb,W _ (.inl ⟨h0,rfl⟩)];exact l h0) (by rw[hκ,R];exact Z) (λr hr=>by have:=hl r hr;rwa [O5] at this) (λr q t hr hq=>?_) (λi j i' j' Y osz on o g O M orow' hi B hj L hc f X=>?_)
 ·obtain⟨u,hu,hru⟩:=hc r q (rV k v r q t) hr (by simp only;rw[I5,hq];rfl)
  rcases h.cell hr hq with hco|⟨Y,osz,on,o,rfl⟩
  ·rw[M1 hco] at hru;exact⟨u,hu,.inl ⟨hco,e t u (hQ.1 r t hr (y4 hq) hco) (K4 hco).1 hru⟩⟩
  ·obtain⟨g1,g2⟩:=h.own r q _ _ _ _ hr hq;refine⟨u,hu,.inr ⟨_,_,_,_,rfl,?_,?_,by rw[hb2,hc2,hκ,hb];exact g2⟩⟩
   ·cases hru with
    |posl _ _ _ _ _ a hL N ha=>
     have:=Rd.posl (E:=E2) (w:=w') k2 v r q on a A (by rw[hc2];exact N) (by rw[hc2,hb2];exact ha)
     rw[hc2] at this;exact this
   ·obtain⟨e1,e2,e3,e4,e5,cs2,ty2,e6,e7,e8⟩:=g1;refine⟨e1,(show on<=E2.c2 k2 v r q by rw[hc2];exact e2),e3,e4,e5,cs2,ty2,λh0=>?_,(show Siz cs2 (E2.c2 k2 v r q*osz) [] by rw[hc2];exact e7),λi j t hi hj=>?_⟩
    ·have h0:E2.c2 k2 v r q≠0:=h0;rw[hc2] at h0;show w'.heap[E2.b2 k2 v r q]? =_;rw[hb2,W _ (.inr ⟨_,_,_,_,_,_,_,_,_,_,_,rfl,hr,hq,h0,rfl⟩)];exact e6 h0
    ·obtain⟨U,I,C⟩:=e8 i j t hi hj;have d:=e5 rfl i t hi (y4 hj);exact⟨U,I,A7 (E:=E2) (E':=E2.sub k2 v r q osz) (λ_ h=>h) (e t U (hQ.2 r _ _ _ _ hr (y4 hq) i t hi (y4 hj)) d (A7 (E:=E.sub k v r q osz) (E':=E) (λ_ h=>h) C d)) d⟩
 ·rw[hc2] at hc f;rw[hb2,hb2] at X;exact h.inj i j i' j' Y osz on o g O M orow' hi B hj L hc f X
def c3c{ob o:Ob}(hf:lJ ρ ob=some o):(∃v ty sz n row,ob= .fam v ty sz n row/\o= .fam v ty sz n row)∨((∀v ty sz n row,ob≠ .fam v ty sz n row)/\∀v ty sz n row,o≠ .fam v ty sz n row):=by
 unfold lJ at hf;split at hf
 ·simp only[X0] at hf;subst hf;exact .inr ⟨pV,pV⟩
 ·simp only[X0] at hf;subst hf;exact .inl ⟨_,_,_,_,_,rfl,rfl⟩
 ·simp only[X0] at hf;subst hf;exact .inr ⟨pV,pV⟩
 ·split at hf
  ·simp only[F1] at hf;obtain⟨_,_,rfl⟩:=hf;exact .inr ⟨pV,pV⟩
  ·cases hf
 ·simp only[X0] at hf;subst hf;exact .inr ⟨pV,pV⟩
 ·simp only[X0] at hf;subst hf;exact .inr ⟨pV,pV⟩
def iL{E2:Env}{k d:Nat}{ob o:Ob}{b:Nat}(h:zZ E w k ob)(hf:lJ ρ ob=some o)(B:E2.β d=E.β k)(l:E2.κ d=E.κ k)
  (g:∀v,E.L2 k v->E2.L2 d v/\∀i j,E2.b2 d v i j=E.b2 k v i j/\E2.c2 d v i j=E.c2 k v i j) (x:A3 E2 d o b):A3 E k ob b:=by
 rcases x with⟨e,rfl⟩|⟨v,ty,sz,n,row,i,j,Y,z,on,O,rfl,hi,J,C,rfl⟩
 ·rw[l] at e;exact .inl ⟨e,B⟩
 ·rcases c3c hf with⟨v',ty',sz',n',row',rfl,he⟩|⟨_,hn⟩
  ·cases he;have hF:FamOk E w k v ty sz n row:=h;obtain⟨_,f⟩:=g v hF.l2;rw[(f i j).2] at C;exact .inr ⟨v,ty,sz,n,row,i,j,Y,z,on,O,rfl,hi,J,C,(f i j).1⟩
  ·exact absurd rfl (hn _ _ _ _ _)
def a9H{Q:T->Prop}{E2:Env}{k f:Nat}{ob o:Ob}(h:zZ E w k ob)(u:ObQ Q ob)(hf:lJ ρ ob=some o)(g:∀t t' x,Q t->S8 ρ 6 t=some t'->Rd E w t x->Rd E2 w' t' x)
  (B:E2.β f=E.β k) (r:E2.κ f=E.κ k) (Z:E2.z f=E.z k) (q:∀v,E.L2 k v->E2.L2 f v/\∀i j,E2.b2 f v i j=E.b2 k v i j/\E2.c2 f v i j=E.c2 k v i j) (W:∀b,A3 E k ob b->w'.heap[b]? =w.heap[b]?):zZ E2 w' f o:=by
 have d:E.κ k≠0->w'.heap[E.β k]? =w.heap[E.β k]? :=λe=>W _ (.inl ⟨e,rfl⟩)
 cases ob with
 |mp O get=>
  simp only[lJ,X0] at hf;subst hf;obtain⟨e,I,C,F,q⟩:=h;exact⟨by rw[r];exact e,I,C,by rw[B,d e];exact F,q⟩
 |mp2 get=>
  simp only[lJ,X0] at hf;subst hf;obtain⟨e,I,C,F,q⟩:=h;exact⟨by rw[r];exact e,I,C,by rw[B,d e];exact F,q⟩
 |fam v ty sz n row=>
  simp only[lJ,X0] at hf;subst hf;have hF:FamOk E w k v ty sz n row:=h;obtain⟨N,J⟩:=q v hF.l2;exact FamOk.ren hF u (λt x M L X=>g t t x M (jC L) X) B r Z N (λi j=>(J i j).1) (λi j=>(J i j).2) W
 |arr cl ty sz n row=>
  have A:o.isArr=true:=by
   cases cl
   ·simp only[lJ] at hf;split at hf
    ·simp only[F1] at hf;obtain⟨_,_,rfl⟩:=hf;rfl
    ·cases hf
   ·simp only[lJ,X0] at hf;subst hf;rfl
  exact T5.ob (a99 (ob:=.arr cl ty sz n row) h u rfl hf g B r Z d) A
 |bys ty l=>
  have A:o.isArr=true:=by simp only[lJ,X0] at hf;subst hf;rfl
  exact T5.ob (a99 (ob:=.bys ty l) h u rfl hf g B r Z d) A
def cQ(ob:Ob):ObQ (λ_=>True) ob:=by
 cases ob<;>first|exact⟨λ_ _ _ _ _=>trivial,λ_ _ _ _ _ _ _ _ _ _ _=>trivial⟩|exact λ_ _ _ _=>trivial
def a5X{E2:Env}{k d:Nat}{ob o:Ob}(h:zZ E w k ob)(F:lJ ρ ob=some o)(f:∀t e x,S8 ρ 6 t=some e->Rd E w t x->Rd E2 w' e x)
  (B:E2.β d=E.β k) (l:E2.κ d=E.κ k) (Z:E2.z d=E.z k) (g:∀v,E.L2 k v->E2.L2 d v/\∀i j,E2.b2 d v i j=E.b2 k v i j/\E2.c2 d v i j=E.c2 k v i j) (W:∀b,A3 E k ob b->w'.heap[b]? =w.heap[b]?):zZ E2 w' d o:=
 a9H h (cQ ob) F (λt e x _=>f t e x) B l Z g W
def b0e{k:Nat}:∀{l:List Nat},memN k l=true↔k ∈ l:=by
 intro l;induction l with
 |nil=>simp[memN]
 |cons x l i=>simp[memN,i]
def b24:∀{l:List Nat},a2U l=true->l.Nodup:=by
 intro l;induction l with
 |nil=>intro _;exact List.nodup_nil
 |cons x l i=>
  intro h;simp only[a2U,J5,vZ] at h;refine List.nodup_cons.2 ⟨λM=>?_,i h.2⟩
  rw[b0e.2 M] at h;cases h.1
def wK:∀{l:List Nat} {i:Nat},gR l i=l[i]? :=by
 intro l;induction l with
 |nil=>intro i;simp[gR]
 |cons x l h=>intro i;cases i with|zero=>simp[gR]|succ i=>simp[gR,h]
def b9Y{k:Nat}:∀{l:List Nat} {n i:Nat},j3 k l n=some i->n<=i/\l[i-n]? =some k:=by
 intro l;induction l with
 |nil=>intro n i h;simp[j3] at h
 |cons x l ih=>
  intro n i h;simp only[j3] at h;split at h
  ·rename_i B;simp only[X0] at h;subst h;rw[F5 B];simp
  ·obtain⟨h1,h2⟩:=ih h;refine⟨Z9,?_⟩
   rw[show i-n=(i- (n+1))+1 by omega]
   simpa using h2
def b5Z{k:Nat}:∀{l:List Nat} {n i:Nat},l.Nodup->l[i]? =some k->j3 k l n=some (n+i):=by
 intro l;induction l with
 |nil=>intro n i _ h;simp at h
 |cons x l I=>
  intro n i f h;obtain⟨X,d⟩:=List.nodup_cons.1 f;simp only[j3];cases i with
  |zero=>
   simp only[List.getElem?_cons_zero,X0] at h
   subst h;simp
  |succ i=>
   simp only[List.getElem?_cons_succ] at h
   have e:Nat.beq k x=false:=by
    cases B:Nat.beq k x with
    |false=>rfl
    |true=>rw[F5 B] at h;exact absurd (y4 h) X
   rw[e];simp only;rw[I d h];congr 1
   omega
def b2M:∀{ks:List Nat} {os:List (Option Ob)} {H:X9},ks.Nodup->(∀k ∈ ks,k<H.length)->os.length=ks.length->(M2 H ks os).length=H.length/\
  (∀(i k:Nat) (o:Option Ob),ks[i]? =some k->os[i]? =some o->Y4 (M2 H ks os) k=o)/\∀k,k ∉ ks->Y4 (M2 H ks os) k=Y4 H k:=by
 intro ks;induction ks with
 |nil=>intro os H _ _ _;exact⟨by cases os<;>simp[M2],λi k o h=>L4,λk _=>by cases os<;>simp[M2]⟩
 |cons x ks I=>
  intro os H f t n;cases os with
  |nil=>simp at n
  |cons o os=>
   obtain⟨X,d⟩:=List.nodup_cons.1 f;have l:=t x W7
   obtain⟨q,j,g⟩:=I (os:=os) (H:=H.set x o) d (λk e=>by simp;exact t k (by simp[e])) (by simpa using n)
   simp only[M2];refine⟨by simpa using q,λi k o' hi O=>?_,λk e=>?_⟩
   ·cases i with
    |zero=>
     simp at hi O;subst hi;subst O;rw[g _ X,U2 l,if_pos rfl]
    |succ i=>exact j i k o' b1d (by simpa using O)
   ·simp only[vN,not_or] at e;rw[g k e.2,U2 l,if_neg e.1]
def b4b{o:List Ob}{i:Nat}{ob:Ob}:Y4 (o.map some) i=some ob↔o[i]? =some ob:=by
 unfold Y4;simp only[oE]
 cases o[i]? with
 |none=>simp
 |some x=>simp
def Env.glue(E E':Env)(ι:Nat->Option Nat)(N:Nat->Prop):Env where
 N:=N
 L:=λk=>match ι k with|some i=>E'.L i|none=>E.L k
 β:=λk=>match ι k with|some i=>E'.β i|none=>E.β k
 κ:=λk=>match ι k with|some i=>E'.κ i|none=>E.κ k
 z:=λk=>match ι k with|some i=>E'.z i|none=>E.z k
 L2:=λk v=>match ι k with|some i=>E'.L2 i v|none=>E.L2 k v
 b2:=λk=>match ι k with|some i=>E'.b2 i|none=>E.b2 k
 c2:=λk=>match ι k with|some i=>E'.c2 i|none=>E.c2 k
def a96(h:Inv c E H w){E':Env}{H0 H'':X9}{w':World}{ι:Nat->Option Nat}{N:Nat->Prop}{X N0:Nat->Prop}{nt:Nat}{E1:Env}(hI:Inv ⟨w,X,N0,nt,E1,0⟩ E' H0 w')
  (hst:Step E w (E.glue E' ι N) w') (q:∀b,N b->E'.N b) (hnn:∀b,N b->E.N b∨w.heap.size<=b∨X b) (f:∀b,X b->∃k ob i,Y4 H k=some ob/\A3 E k ob b/\ι k=some i)
  (j:∀k k' i,ι k=some i->ι k'=some i->k=k')
  (hget:∀k ob,Y4 H'' k=some ob->(∃i ob',ι k=some i/\Y4 H0 i=some ob'/\zZ (E.glue E' ι N) w' k ob/\(∀b,A3 (E.glue E' ι N) k ob b->A3 E' i ob' b)/\∀v ty sz n row,ob'= .fam v ty sz n row->∃row',ob= .fam v ty sz n row')∨(ι k=none/\Y4 H k=some ob))
  (d:∀k i,ι k=some i->i<H0.length->k<H''.length) (e:H.length<=H''.length):Inv c (E.glue E' ι N) H'' w':=by
 have hsize:w.heap.size<=w'.heap.size:=hI.fr.size;have old:∀{k ob},ι k=none->Y4 H k=some ob->∀b,A3 (E.glue E' ι N) k ob b->A3 E k ob b:=λ{k ob} hk hob b hb=>by
  obtain⟨z,t,_⟩:=h.heap.live k ob hob;exact hb.back t z hst.le
 have notX:∀{k ob},ι k=none->Y4 H k=some ob->∀b,A3 E k ob b->¬X b:=λ{k ob} hk hob b hb x=>by
  obtain⟨l,ob2,i,h1,h2,h3⟩:=f b x;have:=h.heap.inj k l ob ob2 b hob h1 hb h2;subst this;rw[hk] at h3;cases h3
 refine⟨⟨λk ob hk=>?_,λk k' o o' b hk hk' hb hb'=>?_,λk hk=>?_,λk v hk=>?_,λk ob v hk hv=>?_⟩,λb hb=>hI.nlt b (q b hb),λb hb=>?_,λk ob b hk hb=>?_,?_,h.keep.step hst⟩
 ·rcases hget k ob hk with⟨i,ob',hi,hob',h1,h2,_⟩|⟨hi,hob⟩
  ·obtain⟨l1,l2,l3⟩:=hI.heap.live i ob' hob';refine⟨by simp only[Env.glue,hi];exact l1,h1,λb hb hb'=>l3 b (h2 b hb) (q b hb')⟩
  ·obtain⟨l1,l2,l3⟩:=h.heap.live k ob hob;refine⟨by simp only[Env.glue,hi];exact l1,l2.mono l1 hst (λb hb=>hI.fr.block b (l2.blt hb) (notX hi hob b hb)),λb hb hb'=>?_⟩
   have hb:=old hi hob b hb;rcases hnn b hb' with h3|h3|h3
   ·exact l3 b hb h3
   ·have:=l2.blt hb;omega
   ·exact notX hi hob b hb h3
 ·rcases hget k o hk with⟨i,ob,hi,hob,_,h2,_⟩|⟨hi,hob⟩<;>rcases hget k' o' hk' with⟨i',ob',hi',hob',_,h2',_⟩|⟨hi',hob'⟩
  ·have:=hI.heap.inj i i' ob ob' b hob hob' (h2 b hb) (h2' b hb');subst this;exact j k k' i hi hi'
  ·have hb':=old hi' hob' b hb';rcases hI.bnew i ob b hob (h2 b hb) with h3|h3
   ·have:=h.heap.blt hob' hb';have h3:w.heap.size<=b:=h3;omega
   ·exact absurd h3 (notX hi' hob' b hb')
  ·have hb:=old hi hob b hb;rcases hI.bnew i' ob' b hob' (h2' b hb') with h3|h3
   ·have:=h.heap.blt hob hb;have h3:w.heap.size<=b:=h3;omega
   ·exact absurd h3 (notX hi hob b hb)
  ·exact h.heap.inj k k' o o' b hob hob' (old hi hob b hb) (old hi' hob' b hb')
 ·simp only[Env.glue] at hk;cases hi:ι k with
  |some i=>rw[hi] at hk;exact d k i hi (hI.heap.lt i hk)
  |none=>rw[hi] at hk;have:=h.heap.lt k hk;omega
 ·simp only[Env.glue] at hk ⊢;cases hi:ι k with
  |some i=>rw[hi] at hk;exact hI.heap.l2 i v hk
  |none=>rw[hi] at hk;exact h.heap.l2 k v hk
 ·simp only[Env.glue] at hv;rcases hget k ob hk with⟨i,ob',hi,hob',_,_,h3⟩|⟨hi,hob⟩
  ·rw[hi] at hv;obtain⟨V,ty,sz,n,row,A,e⟩:=hI.heap.cur i ob' v hob' hv;obtain⟨row',g⟩:=h3 _ _ _ _ _ A;exact⟨V,ty,sz,n,row',g,e⟩
  ·rw[hi] at hv;exact h.heap.cur k ob v hob hv
 ·rcases hnn b hb with h3|h3|h3
  ·exact h.nnew b h3
  ·have:=h.fr.size;exact .inr (.inl Z9)
  ·obtain⟨k,ob,_,h1,h2,_⟩:=f b h3;exact .inr (h.bnew k ob b h1 h2)
 ·rcases hget k ob hk with⟨i,ob',hi,hob',_,h2,_⟩|⟨hi,hob⟩
  ·rcases hI.bnew i ob' b hob' (h2 b hb) with h3|h3
   ·have h3:w.heap.size<=b:=h3;have:=h.fr.size;exact .inl Z9
   ·obtain⟨l,ob2,_,u,r,_⟩:=f b h3;exact h.bnew l ob2 b u r
  ·exact h.bnew k ob b hob (old hi hob b hb)
 ·refine⟨hI.fr.os.trans h.fr.os,hI.fr.tape.trans h.fr.tape,hI.fr.output.trans h.fr.output,Nat.le_trans h.fr.size hsize,λb hb hXb=>?_⟩
  have hb':b<w.heap.size:=xY hb h.fr.size;refine(hI.fr.block b hb' λx=>?_).trans (h.fr.block b hb hXb)
  obtain⟨k,ob,_,h1,h2,_⟩:=f b x;rcases h.bnew k ob b h1 h2 with h3|h3
  ·omega
  ·exact hXb h3
def a4C:∀(ks:List Nat) (os:List (Option Ob)) (H:X9),M2 H ks os=M2 H ks (os.take ks.length):=by
 intro ks;induction ks with
 |nil=>intro os H;cases os<;>rfl
 |cons k ks i=>
  intro os H;cases os with
  |nil=>rfl
  |cons o os=>simp only[List.length_cons,List.take_succ_cons,M2];exact i os _
def a4j{p:Prop}(h:p:=by simp only[Env.glue,hi];exact e):p:=h
def a4P{E':Env}{ι ρ:Nat->Option Nat}{N:Nat->Prop}(U:∀b,E'.N b->N b)(B:∀i k,ρ i=some k->ι k=some i):∀(d:Nat) {t J:T} {x:Value},S8 ρ d t=some J->Rd E' w' t x->Rd (E.glue E' ι N) w' J x:=by
 intro d;induction d with
 |zero=>intro t J x h;simp[S8] at h
 |succ d Z=>
  intro t J x h hx;have L:∀(cs C:List T) (vs:Array Value),O0 (S8 ρ d) cs=some C->cs.length=vs.size->(∀(i:Nat) (t:T) (x:Value),cs[i]? =some t->vs[i]? =some x->Rd E' w' t x)->
    C.length=vs.size/\∀(i:Nat) (t:T) (x:Value),C[i]? =some t->vs[i]? =some x->Rd (E.glue E' ι N) w' t x:=by
   intro cs C vs hm r g;obtain⟨q,f⟩:=J3 hm;refine⟨Z9,λi t x hi hx=>?_⟩
   have M:i<cs.length:=by rw[←q];exact(u6.1 hi).1
   have V:=I1 M
   exact Z (f i _ t V hi) (g i _ x V hx)
  unfold S8 at h;split at h
  ·rename_i k i j;simp only[F1] at h;obtain⟨m,hm,rfl⟩:=h;cases hx with
   |ref _ _ _ e=>
    have hi:=B _ _ hm;have:=Rd.ref (E:=E.glue E' ι N) (w:=w') m i j a4j
    simpa[Env.glue,hi] using this
  ·rename_i k off n;simp only[F1] at h;obtain⟨m,hm,rfl⟩:=h;cases hx with
   |osl _ _ _ o a e Q X R=>
    have hi:=B _ _ hm;have:=Rd.osl (E:=E.glue E' ι N) (w:=w') m off n o a a4j (by simpa[Env.glue,hi] using Q) (by simpa[Env.glue,hi] using X) (by simpa[Env.glue,hi] using R)
    simpa[Env.glue,hi] using this
  ·simp only[F1] at h;obtain⟨m,hm,rfl⟩:=h;cases hx with
   |mpr k e=>
    have hi:=B _ _ hm;have:=Rd.mpr (E:=E.glue E' ι N) (w:=w') m a4j
    simpa[Env.glue,hi] using this
  ·rename_i k v i j n;simp only[F1] at h;obtain⟨m,hm,rfl⟩:=h;cases hx with
   |posl _ _ _ _ _ a e Q R=>
    have hi:=B _ _ hm;have:=Rd.posl (E:=E.glue E' ι N) (w:=w') m v i j n a a4j (by simpa[Env.glue,hi] using Q) (by simpa[Env.glue,hi] using R)
    simpa[Env.glue,hi] using this
  ·rename_i k v i j z a b;simp only[F1] at h;obtain⟨m,hm,rfl⟩:=h;cases hx with
   |pref _ _ _ _ _ _ _ e=>
    have hi:=B _ _ hm;have:=Rd.pref (E:=E.glue E' ι N) (w:=w') m v i j z a b a4j
    simpa[Env.glue,hi] using this
  ·simp only[F1] at h;obtain⟨cs,hm,rfl⟩:=h;cases hx with
   |agg _ vs r g=>obtain⟨F,I⟩:=L _ _ vs hm r g;exact .agg _ vs F I
  ·simp only[F1] at h;obtain⟨cs,hm,rfl⟩:=h;cases hx with
   |tup _ vs r g=>obtain⟨F,I⟩:=L _ _ vs hm r g;exact .tup _ vs F I
  ·simp only[F1] at h;obtain⟨cs,hm,rfl⟩:=h;cases hx with
   |fn _ _ vs r g=>obtain⟨F,I⟩:=L _ _ vs hm r g;exact .fn _ _ vs F I
  ·rename_i n1 n2 n6 n7 n8 n3 n4 n5;simp only[X0] at h;subst h;cases hx with
   |und x=>exact .und x
   |ref=>exact absurd rfl (n1 _ _ _)
   |osl=>exact absurd rfl (n2 _ _ _)
   |mpr=>exact absurd rfl (n6 _)
   |posl=>exact absurd rfl (n7 _ _ _ _ _)
   |pref=>exact absurd rfl (n8 _ _ _ _ _ _ _)
   |agg=>exact absurd rfl (n3 _)
   |tup=>exact absurd rfl (n4 _)
   |fn=>exact absurd rfl (n5 _ _)
   |int=>exact .int _ _
   |bool=>exact .bool _
   |str=>exact .str _
   |v=>exact .v _
   |slNil=>exact .slNil _ _
   |slEmp=>exact .slEmp _ _ _
   |emp=>exact .emp _
   |bysEmp=>exact .bysEmp _
   |bysNil=>exact .bysNil
   |sl sz n row b off cap u q f A O W Y=>exact Rd.closed (E':=E.glue E' ι N) U (.sl sz n row b off cap u q f A O W Y) rfl
   |bys l b off cap q f A=>exact Rd.closed (E':=E.glue E' ι N) U (.bys l b off cap q f A) rfl
   |bref cells b off u q f A O=>exact Rd.closed (E':=E.glue E' ι N) U (.bref cells b off u q f A O) rfl
def a6f{ρ:Nat->Option Nat}{o o':Option Ob}(h:obB ρ o=some o'):(o=none/\o'=none)∨∃ob O,o=some ob/\o'=some O/\lJ ρ ob=some O:=by
 cases o with
 |none=>simp only[obB,X0] at h;exact .inl ⟨rfl,h.symm⟩
 |some ob=>simp only[obB,F1] at h;obtain⟨O,d,rfl⟩:=h;exact .inr ⟨ob,O,rfl,rfl,d⟩
def a4Q{p:Prop}(h:p:=by simp[E1,Env.ren,hn]):p:=h
def a4c(h:Inv c E H w){f:FuncId}{cf:List T->X9->Option (T×X9×Option Prop)}(hf:eM P f cf){ks:List Nat}{args:List T}{vs:Array Value}{r:T}{p:Option Prop}(he:c8 cf H ks args=some (r,H',p))(hp:p.getD True)(ha:tC E w args vs):
  Calls P f vs w λe w'=>∃v E',e= .returned v/\Inv c E' H' w'/\Step E w E' w'/\Rd E' w' r v:=by
 unfold c8 at he;split at he
 case h_2=>cases he
 rename_i as obs hnd has hobs;split at he
 case h_2=>cases he
 rename_i r0 H0' p0 hc;split at he
 case h_2=>cases he
 rename_i r1 os hlen hr1 hos;simp only[X0,U4] at he;obtain⟨rfl,rfl,rfl⟩:=he;have hlen:=yH hlen;have hnodup:=b24 hnd;have hfn:=hf as (obs.map some) r0 H0' p0 hc hp;obtain⟨o1,o2⟩:=J3 hobs;obtain⟨a1,a2⟩:=J3 has;obtain⟨s1,s2⟩:=J3 hos;have inv1:∀k i,(λk=>j3 k ks 0) k=some i->gR ks i=some k:=λk i hk=>by
  rw[wK];have:=(b9Y hk).2;simpa using this
 have inv2:∀i k,gR ks i=some k->j3 k ks 0=some i:=λi k hi=>by
  rw[wK] at hi;have:=b5Z (n:=0) hnodup hi
  simpa using this
 have nlt:∀i k,gR ks i=some k->i<ks.length:=λi k hi=>by rw[wK] at hi;exact(u6.1 hi).1
 have hob:∀(i k:Nat),ks[i]? =some k->∃ob ob',Y4 H k=some ob/\obs[i]? =some ob'/\lJ (λk=>j3 k ks 0) ob=some ob':=by
  intro i k hk;have hlt:i<obs.length:=by rw[o1];exact(u6.1 hk).1
  have:=o2 i k _ hk (I1 hlt)
  simp only[Option.bind_eq_some_iff] at this;obtain⟨ob,hob,hF⟩:=this;exact⟨ob,_,hob,I1 hlt,hF⟩
 have hkL:∀(i k:Nat),ks[i]? =some k->E.L k:=λi k hk=>by
  obtain⟨ob,_,hob,_⟩:=hob i k hk;exact(h.heap.live k ob hob).1
 have hksl:∀k ∈ ks,k<H.length:=λk hk=>by
  obtain⟨i,hi⟩:=List.getElem?_of_mem hk
  exact h.heap.lt k (hkL i k hi)
 let E1:=E.ren (gR ks) ks.length
 have hn1:∀(i k:Nat),ks[i]? =some k->gR ks i=some k:=λi k hk=>by rw[wK];exact hk
 have hβ1:∀(i k:Nat),ks[i]? =some k->E1.β i=E.β k/\E1.κ i=E.κ k/\E1.z i=E.z k/\E1.L i:=by
  intro i k hk;have hn:=hn1 i k hk;exact⟨a4Q,a4Q,a4Q,nlt i k hn,k,hn,hkL i k hk⟩
 have h21:∀(i k:Nat),ks[i]? =some k->∀v,E.L2 k v->E1.L2 i v/\∀a b,E1.b2 i v a b=E.b2 k v a b/\E1.c2 i v a b=E.c2 k v a b:=by
  intro i k hk v hv;have hn:=hn1 i k hk;exact⟨⟨nlt i k hn,k,hn,hv⟩,λa b=>⟨a4Q,a4Q⟩⟩
 have hrd1:∀t t' x,S8 (λk=>j3 k ks 0) 6 t=some t'->Rd E w t x->Rd E1 w t' x:=λt t' x ht hx=>Rd.ren nlt 6 (b9I inv1 ht) hx
 have obk:∀i ob',Y4 (obs.map some) i=some ob'->∃k ob,ks[i]? =some k/\Y4 H k=some ob/\lJ (λk=>j3 k ks 0) ob=some ob':=by
  intro i ob' hi;rw[b4b] at hi;have hlt:i<ks.length:=by rw[←o1];exact(u6.1 hi).1
  have hk:=I1 hlt
  obtain⟨ob,ob2,hob',ho2,hF⟩:=hob i _ hk;rw[hi] at ho2;simp only[X0] at ho2;subst ho2;exact⟨_,ob,hk,hob',hF⟩
 have blk1:∀{i k:Nat} {ob ob':Ob} {b:Nat},ks[i]? =some k->Y4 H k=some ob->lJ (λk=>j3 k ks 0) ob=some ob'->A3 E1 i ob' b->A3 E k ob b:=λhk hob' hF hb=>by
  obtain⟨b1,b2,_,_⟩:=hβ1 _ _ hk;exact iL (h.heap.live _ _ hob').2.1 hF b1 b2 (h21 _ _ hk) hb
 have hH1:HeapOk E1 w (obs.map some):=by
  refine⟨λi ob' hi=>?_,λi i' ob ob' b hi hi' hb hb'=>?_,λi hi=>?_,λi v hv=>?_,λi ob' v hi hv=>?_⟩
  ·obtain⟨k,ob,hk,hob',hF⟩:=obk i ob' hi;obtain⟨b1,b2,b3,b4⟩:=hβ1 i _ hk;obtain⟨l1,l2,l3⟩:=h.heap.live _ ob hob';exact⟨b4,a5X l2 hF hrd1 b1 b2 b3 (h21 i k hk) (λ_ _=>rfl),λb hb=>l3 b (blk1 hk hob' hF hb)⟩
  ·obtain⟨k,ob2,hk,hob2,hF2⟩:=obk i ob hi;obtain⟨k',ob3,hk',hob3,hF3⟩:=obk i' ob' hi';have:=h.heap.inj _ _ _ _ b hob2 hob3 (blk1 hk hob2 hF2 hb) (blk1 hk' hob3 hF3 hb');subst this;exact(List.getElem?_inj (u6.1 hk).1 hnodup).1 (by rw[hk,hk'])
  ·obtain⟨hlt,_⟩:=hi;simp[o1];exact hlt
  ·obtain⟨hlt,m,hm,hv⟩:=hv;exact⟨hlt,m,hm,h.heap.l2 m v hv⟩
  ·obtain⟨k,ob,hk,hob',hF⟩:=obk i ob' hi;obtain⟨_,m,hm,hv⟩:=hv;rw[hn1 i k hk] at hm;simp only[X0] at hm;subst hm;obtain⟨v0,ty,sz,n,row,rfl,hle⟩:=h.heap.cur k ob v hob' hv;simp only[lJ,X0] at hF;exact⟨v0,ty,sz,n,row,hF.symm,hle⟩
 have hval:tC E1 w as vs:=⟨by rw[a1];exact ha.1,λi t x hi hx=>by
  have hlt:i<args.length:=by rw[←a1];exact(u6.1 hi).1
  exact hrd1 _ _ x (a2 i _ t (I1 hlt) hi) (ha.2 i _ x (I1 hlt) hx)⟩
 refine(hfn E1 w vs hH1 h.nlt hval).mono λe w' hh=>?_
 obtain⟨v,E',rfl,hI,hst,hrd⟩:=hh;let ι:Nat->Option Nat:=λk=>if H.length<=k then some (ks.length+(k-H.length)) else j3 k ks 0
 have hιold:∀{k:Nat},k<H.length->ι k=j3 k ks 0:=λhk=>if_neg Z9
 have hρι:∀i k,a7v ks H.length i=some k->ι k=some i:=by
  intro i k hk;unfold a7v at hk;split at hk
  ·rename_i k' hk';simp only[X0] at hk;subst hk;have hm:k' ∈ ks:=by rw[wK] at hk';exact y4 hk'
   rw[hιold (hksl k' hm)];exact inv2 i k' hk'
  ·rename_i hn;simp only[X0] at hk;subst hk;have hge:ks.length<=i:=by
    rw[wK] at hn;rcases Nat.lt_or_ge i ks.length with h'|h'
    ·rw[I1 h'] at hn;cases hn
    ·exact h'
   simp only[ι];rw[if_pos Z9]
   congr 1
   omega
 have hιk:∀{k i:Nat},ι k=some i->(k<H.length/\ks[i]? =some k)∨(H.length<=k/\i=ks.length+(k-H.length)):=by
  intro k i hi;by_cases hk:H.length<=k
  ·simp only[ι,if_pos hk,X0] at hi;exact .inr ⟨hk,hi.symm⟩
  ·simp only[ι,if_neg hk] at hi;have:=inv1 k i hi;rw[wK] at this;exact .inl ⟨Z9,this⟩
 let E2:=E.glue E' ι E'.N
 have hL1:∀{k i:Nat},E.L k->ι k=some i->ks[i]? =some k:=λhk hi=>by
  rcases hιk hi with h1|h1
  ·exact h1.2
  ·have:=h.heap.lt _ hk;omega
 have hnl:∀k,E2.L k->E.L k∨∀j,E.L j->j<k:=λk hk=>by
  simp only[E2,Env.glue] at hk;cases hi:ι k with
  |none=>rw[hi] at hk;exact .inl hk
  |some i=>
   rcases hιk hi with h1|h1
   ·obtain⟨ob,ob',ho,_⟩:=hob i k h1.2;exact .inl (h.heap.live k ob ho).1
   ·exact .inr λj hj=>by have:=h.heap.lt j hj;omega
 have hstep:Step E w E2 w':=by
  refine⟨⟨λb hb=>hst.le.N b hb,λk hk=>?_,λk hk=>?_,λk hk=>?_,λk hk=>?_,λk v hk=>?_,λk v a b hk=>?_,λk v a b hk=>?_⟩,λb hb=>hst.same b hb,λk hk=>hnl k hk⟩<;>simp only[E2,Env.glue]<;>cases hi:ι k
  ·exact hk
  ·exact hst.le.L _ (hβ1 _ k (hL1 hk hi)).2.2.2
  ·rfl
  ·exact(hst.le.β _ (hβ1 _ k (hL1 hk hi)).2.2.2).trans (hβ1 _ k (hL1 hk hi)).1
  ·rfl
  ·exact(hst.le.κ _ (hβ1 _ k (hL1 hk hi)).2.2.2).trans (hβ1 _ k (hL1 hk hi)).2.1
  ·rfl
  ·exact(hst.le.z _ (hβ1 _ k (hL1 hk hi)).2.2.2).trans (hβ1 _ k (hL1 hk hi)).2.2.1
  ·exact hk
  ·exact hst.le.L2 _ v (h21 _ k (hL1 (h.heap.l2 k v hk) hi) v hk).1
  ·rfl
  ·have h1:=h21 _ k (hL1 (h.heap.l2 k v hk) hi) v hk;exact(hst.le.b2 _ v a b h1.1).trans (h1.2 a b).1
  ·rfl
  ·have h1:=h21 _ k (hL1 (h.heap.l2 k v hk) hi) v hk;exact(hst.le.c2 _ v a b h1.1).trans (h1.2 a b).2
 have hrd2:∀t t' x,S8 (a7v ks H.length) 6 t=some t'->Rd E' w' t x->Rd E2 w' t' x:=by
  intro t t' x ht hx;exact a4P (λ_ h=>h) hρι 6 ht hx
 obtain⟨z1,z2,z3⟩:=b2M (os:=os.take ks.length) hnodup hksl (by simp[s1];omega)
 have hset:M2 H ks os=M2 H ks (os.take ks.length):=a4C ks os H;have hoslen:os.length=H0'.length:=s1;have hgetN:∀k ob,Y4 (M2 H ks os++os.drop ks.length) k=some ob->(∃i ob',ι k=some i/\Y4 H0' i=some ob'/\lJ (a7v ks H.length) ob'=some ob)∨(ι k=none/\Y4 H k=some ob):=by
  intro k ob hk;have fromos:∀i,os[i]? =some (some ob)->∃ob',Y4 H0' i=some ob'/\lJ (a7v ks H.length) ob'=some ob:=by
   intro i hi;have hlt:i<H0'.length:=by rw[←hoslen];exact(u6.1 hi).1
   have:=s2 i _ _ (I1 hlt) hi
   rcases a6f this with⟨_,h1⟩|⟨ob1,ob2,h1,h2,h3⟩
   ·cases h1
   ·cases h2;exact⟨ob1,by unfold Y4;rw[I1 hlt,h1];rfl,h3⟩
  rw[hset] at hk;by_cases hkl:k<H.length
  ·have hk':Y4 (M2 H ks (os.take ks.length)) k=some ob:=by
    unfold Y4 at hk ⊢
    rwa [rL (by rw[z1];exact hkl)] at hk
   by_cases hm:k ∈ ks
   ·obtain⟨i,hi⟩:=List.getElem?_of_mem hm
    have hik:i<ks.length:=(u6.1 hi).1
    have hlt:i<os.length:=Z9
    have ho:(os.take ks.length)[i]? =some (os[i]):=by rw[List.getElem?_take,if_pos hik];exact I1 hlt
    rw[z2 i k _ hi ho] at hk';obtain⟨ob',h1,h2⟩:=fromos i (by rw[I1 hlt,hk'])
    exact .inl ⟨i,ob',by rw[hιold hkl];exact inv2 i k (hn1 i k hi),h1,h2⟩
   ·rw[z3 k hm] at hk';refine .inr ⟨?_,hk'⟩
    rw[hιold hkl];cases hx:j3 k ks 0 with
    |none=>rfl
    |some i=>
     have:=inv1 k i hx;rw[wK] at this;exact absurd (y4 this) hm
  ·have hk':os[ks.length+(k-H.length)]? =some (some ob):=by
    unfold Y4 at hk;rw[qA (by rw[z1];omega),z1,List.getElem?_drop] at hk
    cases hx:os[ks.length+(k-H.length)]? with
    |none=>rw[hx] at hk;cases hk
    |some y=>rw[hx] at hk;simp at hk;rw[hk]
   obtain⟨ob',h1,h2⟩:=fromos _ hk';exact .inl ⟨_,ob',if_pos Z9,h1,h2⟩
 have hXB:∀b,XB E1 (obs.map some) b->∃k ob i,Y4 H k=some ob/\A3 E k ob b/\ι k=some i:=by
  intro b hb;obtain⟨i,ob',hi,hb⟩:=hb;obtain⟨k,ob,hk,hob',hF⟩:=obk i ob' hi;exact⟨k,ob,i,hob',blk1 hk hob' hF hb,by rw[hιold (hksl k (y4 hk))];exact inv2 i k (hn1 i k hk)⟩
 have hιname:∀{k i:Nat},ι k=some i->E2.β k=E'.β i/\E2.κ k=E'.κ i/\E2.z k=E'.z i/\∀v,E'.L2 i v->E2.L2 k v/\∀a b,E2.b2 k v a b=E'.b2 i v a b/\E2.c2 k v a b=E'.c2 i v a b:=by
  intro k i hi;simp only[E2,Env.glue,hi];exact⟨trivial,trivial,trivial,λv hv=>⟨hv,λ_ _=>⟨trivial,trivial⟩⟩⟩
 refine⟨v,E2,rfl,a96 h hI hstep (λ_ h=>h) (λb hb=>?_) hXB (λk k' i hi hi'=>?_) (λk ob hk=>?_) (λk i hi hlt=>?_) (by simp[hset,z1]),hstep,hrd2 _ _ v hr1 hrd⟩
 ·rcases hI.nnew b hb with h1|h1|h1
  ·exact .inl h1
  ·exact .inr (.inl h1)
  ·exact .inr (.inr h1)
 ·rcases hιk hi with⟨g1,g2⟩|⟨g1,g2⟩<;>rcases hιk hi' with⟨g3,g4⟩|⟨g3,g4⟩
  ·rw[g2] at g4;exact Option.some.inj g4
  ·have:=(u6.1 g2).1;omega
  ·have:=(u6.1 g4).1;omega
  ·omega
 ·rcases hgetN k ob hk with⟨i,ob',hi,hob',hF⟩|h1
  ·obtain⟨n1,n2,n3,n4⟩:=hιname hi;have hO:=(hI.heap.live i ob' hob').2.1;refine .inl ⟨i,ob',hi,hob',a5X hO hF hrd2 n1 n2 n3 n4 (λ_ _=>rfl),λb hb=>iL hO hF n1 n2 n4 hb,λv ty sz n row he=>?_⟩
   subst he;simp only[lJ,X0] at hF;exact⟨row,hF.symm⟩
  ·exact .inr h1
 ·rw[F9,hset,z1,List.length_drop,hoslen];rcases hιk hi with⟨g1,g2⟩|⟨g1,g2⟩<;>omega
end
section
variable {c:Ctx} {E:Env} {H H':X9} {w w':World} {P:Program} {G:H6}
def a0t{E':Env}{ι ρ:Nat->Option Nat}{N:Nat->Prop}(f:∀i k,ρ i=some k->ι k=some i){d:Nat}{t e:T}{x:Value}(hp:lD t=true)(h:S8 ρ d t=some e)(X:Rd E' w t x):Rd (E.glue E' ι N) w e x:=by
 cases d with
 |zero=>simp[S8] at h
 |succ d=>
  cases t with
  |ref k i j=>
   simp only[S8,F1] at h;obtain⟨m,M,rfl⟩:=h;cases X with
   |ref _ _ _ L=>
    have hi:=f _ _ M;have:=Rd.ref (E:=E.glue E' ι N) (w:=w) m i j (by simp only[Env.glue,hi];exact L)
    simpa[Env.glue,hi] using this
  |osl k off n=>
   simp only[S8,F1] at h;obtain⟨m,M,rfl⟩:=h;cases X with
   |osl _ _ _ o a L g O A=>
    have hi:=f _ _ M;have:=Rd.osl (E:=E.glue E' ι N) (w:=w) m off n o a (by simp only[Env.glue,hi];exact L) (by simpa[Env.glue,hi] using g) (by simpa[Env.glue,hi] using O) (by simpa[Env.glue,hi] using A)
    simpa[Env.glue,hi] using this
  |int k n=>simp only[S8,X0] at h;subst h;cases X;exact .int _ _
  |bool b=>simp only[S8,X0] at h;subst h;cases X;exact .bool _
  |str l=>simp only[S8,X0] at h;subst h;cases X;exact .str _
  |v y=>simp only[S8,X0] at h;subst h;cases X;exact .v _
  |_=>simp[lD,uB] at hp
def eC{t:T}(h:uB t=true):lD t=true:=by cases t<;>first|rfl|exact h
def b3j{E':Env}{ι ρ:Nat->Option Nat}{N:Nat->Prop}(u:∀i k,ρ i=some k->ι k=some i):∀(d e:Nat) {t j:T} {x:Value},oT e t=true->S8 ρ d t=some j->Rd E' w t x->Rd (E.glue E' ι N) w j x:=by
 intro d;induction d with
 |zero=>intro e t j x _ f;simp[S8] at f
 |succ d I=>
  intro e t j x hp f X;cases e with
  |zero=>simp[oT] at hp
  |succ e=>
   have l:∀(cs C:List T) (vs:Array Value),(∀t ∈ cs,oT e t=true)->O0 (S8 ρ d) cs=some C->cs.length=vs.size->(∀(i:Nat) (t:T) (x:Value),cs[i]? =some t->vs[i]? =some x->Rd E' w t x)->
     C.length=vs.size/\∀(i:Nat) (t:T) (x:Value),C[i]? =some t->vs[i]? =some x->Rd (E.glue E' ι N) w t x:=by
    intro cs C vs n M L f;obtain⟨v,r⟩:=J3 M;refine⟨Z9,λi t x hi X=>?_⟩
    have g:i<cs.length:=by rw[←v];exact(u6.1 hi).1
    have q:=I1 g
    exact I e (n _ (List.getElem_mem g)) (r i _ t q hi) (f i _ x q X)
   cases t with
   |agg cs=>
    simp only[S8,F1] at f;obtain⟨C,M,rfl⟩:=f;cases X with
    |agg _ vs L h=>
     obtain⟨A,o⟩:=l cs C vs (λt f=>b9.1 hp t f) M L h
     exact .agg _ vs A o
   |tup cs=>
    simp only[S8,F1] at f;obtain⟨C,M,rfl⟩:=f;cases X with
    |tup _ vs L h=>
     obtain⟨A,o⟩:=l cs C vs (λt f=>b9.1 hp t f) M L h
     exact .tup _ vs A o
   |_=>
    refine a0t u ?_ f X
    exact hp
def b1F{ob:Ob}(h:a17 ob):ObQ (λt=>lD t=true) ob:=by
 cases ob with
 |arr cl ty sz n row=>
  cases cl with
  |true=>exact λi t hi d=>eC (h i hi t d)
  |false=>
   obtain⟨rfl,h⟩:=h;intro i t hi d;simp only[Ob.toArr] at hi d;obtain rfl:i=0:=Z9
   exact h t d
 |fam v ty sz n row=>
  refine⟨λi t hi d C=>?_,λi O z on o hi d a t A M=>?_⟩
  ·have:=h i hi t d;cases t<;>first|exact eC this|(simp[closedOne,W5] at C)
  ·exact eC (h i hi _ d a A t M)
 |bys ty l=>intro i t hi d;simp[Ob.toArr,B5] at d;subst d;rfl
 |mp B get=>intro i t hi d;simp[Ob.toArr] at hi
 |mp2 get=>intro i t hi d;simp[Ob.toArr] at hi
def b6k{p:Prop}(h:p:=by simp only[Env.glue,hi]):p:=h
def c9c(h:Inv c E H w){f:FuncId}{cf:List T->Option (T×X9×Option Prop)}(hf:c7W P f cf){args:List T}{vs:Array Value}{r:T}{p:Option Prop}(he:a2O cf H args=some (r,H',p))(hp:p.getD True)(ha:tC E w args vs):
  Calls P f vs w λe w'=>∃v E',e= .returned v/\Inv c E' H' w'/\Step E w E' w'/\Rd E' w' r v:=by
 unfold a2O at he;split at he
 case h_2=>cases he
 rename_i bs hbs;split at he
 case h_2=>cases he
 rename_i r0 H0 p0 hc;split at he
 case h_2=>cases he
 rename_i r1 os hr1 hos;simp only[X0,U4] at he;obtain⟨rfl,rfl,rfl⟩:=he;obtain⟨hsb,hp0⟩:=xN hp;obtain⟨hfn,hpr,hph⟩:=hf _ r0 H0 p0 hc hp0;obtain⟨b1,b2⟩:=J3 hbs;obtain⟨s1,s2⟩:=J3 hos;have hval:tC (E.lent 0 H) w (bs.map (·.1)) vs:=⟨by simp[b1];exact ha.1,λi t x hi hx=>by
  simp only[oE,F1] at hi
  obtain⟨y,hy,rfl⟩:=hi;have hlt:i<args.length:=by rw[←b1];exact(u6.1 hy).1
  have hc:=I1 hlt
  exact o6 h 6 (r:=y.1) (p:=y.2) (b2 i _ y hc hy) (zU hsb y (y4 hy)) (ha.2 i _ x hc hx)⟩
 have hH1:HeapOk (E.lent 0 H) w []:=⟨λk ob hk=>by simp[Y4] at hk,λk k' o o' b hk=>by simp[Y4] at hk,λk hk=>absurd hk.2 (D2 _),λk v hv=>absurd hv.2 (D2 _),λk ob v hk=>by simp[Y4] at hk⟩
 have hN1:∀b,(E.lent 0 H).N b->b<w.heap.size:=λb hb=>by
  rcases hb with hb|⟨k,ob,_,hk,hb⟩
  ·exact h.nlt b hb
  ·exact h.heap.blt hk hb
 refine(hfn (E.lent 0 H) w vs hH1 hN1 hval).mono λe w' hh=>?_
 obtain⟨v,E',rfl,hI,hst,hrd⟩:=hh;let ι:Nat->Option Nat:=λk=>if H.length<=k then some (k-H.length) else none
 have hρι:∀i k,(λk=>some (H.length+k)) i=some k->ι k=some i:=λi k hk=>by
  simp only[X0] at hk;subst hk;simp only[ι];rw[if_pos Z9]
  congr 1
  omega
 have hιnone:∀{k},E.L k->ι k=none:=λhk=>if_neg (by have:=h.heap.lt _ hk;omega)
 have hnl:∀k,(E.glue E' ι E.N).L k->E.L k∨∀j,E.L j->j<k:=λk hk=>by
  by_cases hlt:H.length<=k
  ·exact .inr λj hj=>by have:=h.heap.lt j hj;omega
  ·have hi:ι k=none:=if_neg hlt;simp only[Env.glue] at hk;rw[hi] at hk;exact .inl hk
 have hstep:Step E w (E.glue E' ι E.N) w':=by
  refine⟨⟨λb hb=>hb,λk hk=>?_,λk hk=>?_,λk hk=>?_,λk hk=>?_,λk v hk=>?_,λk v a b hk=>?_,λk v a b hk=>?_⟩,λb hb=>hst.same b (.inl hb),λk hk=>hnl k hk⟩<;>simp only[Env.glue]
  ·rw[hιnone hk];exact hk
  ·rw[hιnone hk]
  ·rw[hιnone hk]
  ·rw[hιnone hk]
  ·rw[hιnone (h.heap.l2 _ _ hk)];exact hk
  ·rw[hιnone (h.heap.l2 _ _ hk)]
  ·rw[hιnone (h.heap.l2 _ _ hk)]
 refine⟨v,E.glue E' ι E.N,rfl,a96 h hI hstep (λb hb=>hst.le.N b (.inl hb)) (λb hb=>.inl hb) (λb hb=>?_) (λk k' i hi hi'=>?_) (λk ob hk=>?_) (λk i hi hlt=>?_) W7,hstep,b3j hρι 6 6 hpr hr1 hrd⟩
 ·obtain⟨k,ob,hk,_⟩:=hb;simp[Y4] at hk
 ·simp only[ι] at hi hi';split at hi
  ·split at hi'
   ·simp only[X0] at hi hi';omega
   ·cases hi'
  ·cases hi
 ·by_cases hkl:k<H.length
  ·refine .inr ⟨if_neg Z9,?_⟩
   unfold Y4 at hk ⊢
   rwa [rL hkl] at hk
  ·have hi:ι k=some (k-H.length):=if_pos Z9
   have hk':os[k-H.length]? =some (some ob):=by
    unfold Y4 at hk;rw[qA Z9] at hk
    cases hx:os[k-H.length]? with
    |none=>rw[hx] at hk;cases hk
    |some y=>rw[hx] at hk;simp at hk;rw[hk]
   have hlt:k-H.length<H0.length:=by rw[←s1];exact(u6.1 hk').1
   rcases a6f (s2 _ _ _ (I1 hlt) hk') with⟨_,h1⟩|⟨ob1,ob2,h1,h2,hF⟩
   ·cases h1
   ·cases h2;have hob':Y4 H0 (k-H.length)=some ob1:=by unfold Y4;rw[I1 hlt,h1];rfl
    have hO:=(hI.heap.live _ ob1 hob').2.1;have n1:(E.glue E' ι E.N).β k=E'.β (k-H.length):=b6k
    have n2:(E.glue E' ι E.N).κ k=E'.κ (k-H.length):=b6k
    have n3:(E.glue E' ι E.N).z k=E'.z (k-H.length):=b6k
    have n4:∀v,E'.L2 (k-H.length) v->(E.glue E' ι E.N).L2 k v/\∀a b,(E.glue E' ι E.N).b2 k v a b=E'.b2 (k-H.length) v a b/\(E.glue E' ι E.N).c2 k v a b=E'.c2 (k-H.length) v a b:=λv hv=>by
     simp only[Env.glue,hi];exact⟨hv,λ_ _=>⟨trivial,trivial⟩⟩
    refine .inl ⟨k-H.length,ob1,hi,hob',a9H hO (b1F (hph _ _ hob')) hF (λt t' x hq ht hx=>a0t hρι hq ht hx) n1 n2 n3 n4 (λ_ _=>rfl),λb hb=>iL hO hF n1 n2 n4 hb,λv ty sz n row he=>?_⟩
    subst he;simp only[lJ,X0] at hF;exact⟨row,hF.symm⟩
 ·simp only[ι] at hi;split at hi
  ·simp only[X0] at hi;rw[F9,s1];omega
  ·cases hi
def b4y{E':Env}{t:T}{x:Value}(hp:uB t=true)(h:Rd E w t x):Rd E' w' t x:=by
 cases t with
 |int k n=>cases h;exact .int _ _
 |bool b=>cases h;exact .bool _
 |str l=>cases h;exact .str _
 |v y=>cases h;exact .v _
 |_=>simp[uB] at hp
def c21{k v:Nat}{ty:TypeId}{sz n:Nat}{row:Nat->List T}(hF:FamOk E w k v ty sz n row){i j:Nat}{oty:TypeId}{osz on:Nat}{orow orow':Nat->List T}(hi:i<n)(hj:(row i)[j]? =some (.own oty osz on orow))
  (hw:∀b,(E.c2 k v i j≠0->b≠E.b2 k v i j)->b<w.heap.size->w'.heap[b]? =w.heap[b]?) (B:∀b,A3 E k (.fam v ty sz n row) b->¬E.N b) (d:∀b,E.N b->b<w.heap.size) (O:T5 (E.sub k v i j osz) w' 0 ⟨true,oty,osz,on,orow'⟩):
  FamOk E w' k v ty sz n (setRow row i j [.own oty osz on orow'])/\∀b,A3 E k (.fam v ty sz n (setRow row i j [.own oty osz on orow'])) b->A3 E k (.fam v ty sz n row) b:=by
 have hbl:∀b,A3 E k (.fam v ty sz n row) b->b<w.heap.size:=λb hb=>zZ.blt (ob:=.fam v ty sz n row) hF hb
 have z:∀b,E.N b->w'.heap[b]? =w.heap[b]? :=λb hb=>hw b (λhc e=>B b (.inr ⟨_,_,_,_,_,_,_,_,_,_,_,rfl,hi,hj,hc,e⟩) hb) (d b hb)
 have hstep:Step E w E w':=⟨Env.le.refl E,z,λ_ h=>.inl h⟩
 have hlr:∀r,r<n->(row r).length=sz:=λr hr=>(by have:=hF.arr.2.2.1 r hr;rwa [O5] at this)
 have l:=(u6.1 hj).1
 have hfit:∀r,r<n->j+[T.own oty osz on orow'].length<=(row r).length:=λr hr=>by rw[hlr r hr,←hlr i hi];simp only[List.length_singleton];omega
 have back:∀(r q:Nat) (t:T),r<n->(setRow row i j [T.own oty osz on orow'] r)[q]? =some t->(r=i/\q=j/\t= .own oty osz on orow')∨(¬ (r=i/\q=j)/\(row r)[q]? =some t):=by
  intro r q t hr hq;rcases o9 (hfit r hr) hq with⟨h1,h2,h3,h4⟩|⟨h1,h2⟩
  ·simp only[List.length_singleton] at h3;obtain rfl:q=j:=by omega
   simp at h4;exact .inl ⟨h1,rfl,h4.symm⟩
  ·simp only[List.length_singleton] at h1;exact .inr ⟨λx=>h1 ⟨x.1,Z9,Z9⟩,h2⟩
 have own:∀(r q:Nat) (oty1:TypeId) (osz1 on1:Nat) (orow1:Nat->List T),r<n->(setRow row i j [T.own oty osz on orow'] r)[q]? =some (T.own oty1 osz1 on1 orow1)->∃(o:TypeId) (osz2 on2:Nat) (orow2:Nat->List T),(row r)[q]? =some (T.own o osz2 on2 orow2):=by
  intro r q oty1 osz1 on1 orow1 hr hq;rcases back r q _ hr hq with⟨rfl,rfl,_⟩|⟨_,h2⟩
  ·exact⟨_,_,_,_,hj⟩
  ·exact⟨_,_,_,_,h2⟩
 have hκb:E.κ k≠0->w'.heap[E.β k]? =w.heap[E.β k]? :=λhκ=>hw _ (λhc e=>((hF.own i j _ _ _ _ hi hj).2 hc hκ) e.symm) (hbl _ (.inl ⟨hκ,rfl⟩))
 refine⟨?_,λb hb=>?_⟩
 ·obtain⟨e1,e2,e3,e4,e5,cs0,ty0,e6,e7,e8⟩:=hF.arr;refine i7 (E:=E) hF.l2 e1 e2 cs0 ty0 (λhκ=>by rw[hκb hκ];exact e6 hκ) e7 (λr hr=>(by rw[T7 (hfit r hr)];exact hlr r hr)) (λr q t hr hq=>?_) (λi1 j1 i2 j2 oty osz on orow oty' osz' on' orow' h1 h2 h3 h4 h5 h6 h7=>?_)
  ·rcases back r q t hr hq with⟨rfl,rfl,rfl⟩|⟨hne,hq0⟩
   ·obtain⟨u,hu,hru⟩:=e8 r q (.posl k v r q on) hr (by simp only;rw[I5,hj];rfl)
    exact⟨u,hu,.inr ⟨_,_,_,_,rfl,hstep.rd hru,O,(hF.own r q _ _ _ _ hr hj).2⟩⟩
   ·obtain⟨u,hu,hru⟩:=e8 r q (rV k v r q t) hr (by simp only;rw[I5,hq0];rfl)
    rcases hF.cell hr hq0 with hc|⟨oty1,osz1,on1,orow1,rfl⟩
    ·rw[M1 hc] at hru;exact⟨u,hu,.inl ⟨hc,hstep.rd hru⟩⟩
    ·obtain⟨g1,g2⟩:=hF.own r q _ _ _ _ hr hq0;refine⟨u,hu,.inr ⟨_,_,_,_,rfl,hstep.rd hru,g1.closed (k':=0) (E':=E.sub k v r q osz1) rfl (λb hb=>hb) (λb hb=>hstep.same b hb) rfl rfl rfl (λhc0=>hw _ (λhc e=>hne ?_) (hbl _ (.inr ⟨_,_,_,_,_,_,_,_,_,_,_,rfl,hr,hq0,hc0,rfl⟩))),g2⟩⟩
     exact hF.inj r q i j _ _ _ _ _ _ _ _ hr hi hq0 hj hc0 hc e
  ·obtain⟨_,_,_,_,f⟩:=own i1 j1 _ _ _ _ h1 h3;obtain⟨_,_,_,_,g⟩:=own i2 j2 _ _ _ _ h2 h4;exact hF.inj i1 j1 i2 j2 _ _ _ _ _ _ _ _ h1 h2 f g h5 h6 h7
 ·rcases hb with hb|⟨v0,ty0,sz0,n0,P1,i0,j0,oty1,osz1,on1,orow1,hobe,hi0,hj0,hc0,rfl⟩
  ·exact .inl hb
  ·simp only[Ob.fam.injEq] at hobe;obtain⟨rfl,rfl,rfl,rfl,rfl⟩:=hobe;obtain⟨_,_,_,_,f⟩:=own i0 j0 _ _ _ _ hi0 hj0;exact .inr ⟨_,_,_,_,_,_,_,_,_,_,_,rfl,hi0,f,hc0,rfl⟩
def c7l(h:Inv c E H w){f:FuncId}{cf:List T->X9->Option (T×X9×Option Prop)}(hf:eM P f cf){args:List T}{vs:Array Value}{r:T}{p:Option Prop}(he:b7w cf H args=some (r,H',p))(hp:p.getD True)(ha:tC E w args vs):
  Calls P f vs w λe w'=>∃v E',e= .returned v/\Inv c E' H' w'/\Step E w E' w'/\Rd E' w' r v:=by
 unfold b7w at he;split at he
 case h_2=>cases he
 rename_i k v i j n rest;split at he
 case h_2=>cases he
 rename_i v' ty sz N row A hrest hk hA;split at he
 case h_2=>cases he
 rename_i r0 ty' sz' n' row' p0 hc;split at he
 case h_2=>cases he
 rename_i hpl hbeq;obtain rfl:=F5 hbeq;simp only[X0,U4] at he;obtain⟨rfl,rfl,rfl⟩:=he;obtain⟨hp0,hv,hi,hn,hn',hpv⟩:=xN hp;obtain⟨ty2,sz2,pH,hk2,hj,hcl⟩:=xW hA;rw[hk] at hk2;simp only[X0,Ob.fam.injEq] at hk2;obtain⟨rfl,rfl,rfl,rfl,rfl⟩:=hk2;subst hv;subst hn';obtain⟨hO,hL,hL2⟩:=a2h h.heap hA rfl hi;obtain⟨v,N,cl,oty,osz,on,orow⟩:=A;simp only at hcl hj hO hc hi hn hpv hk hL2 hA;subst hcl;obtain⟨_,hF,hNk⟩:=h.heap.live _ _ hk;have hF:FamOk E w k v ty sz N row:=hF;have hfn:=hf _ _ r0 _ p0 hc hp0;let E1:Env:={E.sub k v i j osz with L:=λa=>a=0,L2:=λ_ _=>False}
 have cv:∀{w:World} {t:T} {x:Value},W5 t=true->Rd E w t x->Rd E1 w t x:=λht hx=>A7 (E:=E) (E':=E1) (λ_ h=>h) hx ht
 have cv':∀{w:World} {t:T} {x:Value},W5 t=true->Rd (E.sub k v i j osz) w t x->Rd E1 w t x:=λht hx=>A7 (E:=E.sub k v i j osz) (E':=E1) (λ_ h=>h) hx ht
 have hsub:E.c2 k v i j≠0->A3 E k (.fam v ty sz N row) (E.b2 k v i j):=λhc2=>.inr ⟨_,_,_,_,_,_,_,_,_,_,_,rfl,hi,hj,hc2,rfl⟩
 have hone:∀a ob,Y4 [some (Ob.arr true oty osz on orow)] a=some ob->a=0/\ob= .arr true oty osz on orow:=λa ob ho=>by
  cases a with
  |zero=>simp[Y4] at ho;exact⟨rfl,ho.symm⟩
  |succ a=>simp[Y4] at ho
 have hH1:HeapOk E1 w [some (.arr true oty osz on orow)]:=by
  refine⟨λa ob ho=>?_,λa a' o o' b ho ho' _ _=>by rw[(hone a o ho).1,(hone a' o' ho').1],λa ha=>?_,λa u hu=>hu.elim,λa ob u _ hu=>hu.elim⟩
  ·obtain⟨rfl,rfl⟩:=hone a ob ho;refine⟨rfl,?_,λb hb=>?_⟩
   ·obtain⟨e1,e2,e3,e4,e5,cs,tyc,e6,e7,e8⟩:=hO;exact⟨e1,e2,e3,e4,e5,cs,tyc,e6,e7,λa b t ha hb=>by obtain⟨u,hu,hr⟩:=e8 a b t ha hb;exact⟨u,hu,cv' (e5 rfl a t ha (y4 hb)) hr⟩⟩
   ·obtain⟨h1,rfl⟩:=hb.arr rfl;exact hNk _ (hsub h1)
  ·have ha:a=0:=ha;subst ha;exact Nat.lt_succ_self 0
 have hval:tC E1 w (.osl 0 0 n::rest) vs:=by
  refine⟨ha.1,λa t x hi hx=>?_⟩
  cases a with
  |zero=>
   simp only[List.getElem?_cons_zero,X0] at hi
   subst hi;have:=ha.2 0 _ x rfl hx;cases this with
   |posl _ _ _ _ _ ad hL hn ha=>
    have:=Rd.osl (E:=E1) (w:=w) 0 0 n 0 ad rfl (by rw[D4];exact hn) (λ_=>W7) ha
    exact this
  |succ a=>exact Rd.closedD (E:=E) (E':=E1) (λ_ h=>h) 6 (ha.2 (a+1) t x hi hx) (b9.1 hrest t (y4 b1d))
 refine(hfn E1 w vs hH1 h.nlt hval).mono λe w' hh=>?_
 obtain⟨vv,E',rfl,hI,hst,hrd⟩:=hh;have hXb:∀b,XB E1 [some (.arr true oty osz on orow)] b->E.c2 k v i j≠0/\b=E.b2 k v i j:=λb hb=>by
  obtain⟨a,ob,ho,hb⟩:=hb;obtain⟨rfl,rfl⟩:=hone a ob ho;exact hb.arr rfl
 have hwo:∀b,(E.c2 k v i j≠0->b≠E.b2 k v i j)->b<w.heap.size->w'.heap[b]? =w.heap[b]? :=λb hb hlt=>hI.fr.block b hlt λhx=>by
  obtain⟨h1,h2⟩:=hXb b hx;exact hb h1 h2
 have hO':T5 (E.sub k v i j osz) w' 0 ⟨true,oty,osz,on,row'⟩:=by
  obtain⟨_,hA0,_⟩:=hI.heap.live 0 (.arr true ty' osz on row') rfl;obtain⟨e1,e2,e3,e4,e5,cs,tyc,e6,e7,e8⟩:=(show T5 E' w' 0 ⟨true,ty',osz,on,row'⟩ from hA0)
  have k1:E'.κ 0=E.c2 k v i j:=hst.le.κ 0 rfl;have k2:E'.β 0=E.b2 k v i j:=hst.le.β 0 rfl;refine⟨rfl,(show on<=E.c2 k v i j by rw[←k1];exact e2),e3,e4,e5,cs,tyc,λh0=>?_,(show Siz cs (E.c2 k v i j*osz) [] by rw[←k1];exact e7.any),λa b t ha hb=>?_⟩
  ·show w'.heap[E.b2 k v i j]? =_;rw[←k2];exact e6 (by rw[k1];exact h0)
  ·obtain⟨u,hu,hr⟩:=e8 a b t ha hb;exact⟨u,hu,b4y (hpv a ha t (y4 hb)) hr⟩
 obtain⟨hF',hB⟩:=c21 (orow':=row') hF hi hj hwo hNk h.nlt hO';have:=h.writeO hk hI.fr.os hI.fr.tape hI.fr.output hI.fr.size (λb hlt hn=>hwo b (λhc e=>hn (e▸hsub hc)) hlt) (.fam v ty sz N (setRow row i j [.own oty osz on row'])) hB (λu hu=>by
  obtain⟨v0,_,_,_,_,he,hle⟩:=h.heap.cur k _ u hk hu;cases he;exact⟨_,_,_,_,_,rfl,hle⟩) (λ_=>hF')
 exact⟨vv,E,rfl,this.1,this.2,Rd.plain 6 hrd hpl⟩
def N7{ks:List Nat}:∀{H:X9} {i k:Nat} {ob:Ob},Y4 (H3 ks H i) k=some ob->Y4 H k=some ob/\(i+k) ∈ ks:=by
 intro H;induction H with
 |nil=>intro i k ob h;simp[H3,Y4] at h
 |cons o H I=>
  intro i k ob h;cases k with
  |zero=>
   simp only[H3,Y4,List.getElem?_cons_zero,Option.bind_some,id] at h ⊢
   split at h
   ·rename_i M;exact⟨h,by simpa using b0e.1 M⟩
   ·cases h
  |succ k=>
   have:=I (i:=i+1) (k:=k) (ob:=ob) (by simpa[H3,Y4] using h)
   refine⟨by simpa[Y4] using this.1,?_⟩
   have d:=this.2
   rwa [show i+1+k=i+(k+1) by omega] at d
def sF{ks:List Nat}:∀{H:X9} {i:Nat},(H3 ks H i).length=H.length:=by
 intro H;induction H with
 |nil=>intro i;rfl
 |cons o H h=>intro i;simp[H3,h]
def c4N(h:Inv c E H w){f:FuncId}{cf:List T->Option (T×Option Prop)}(hf:a2C P f cf){ks:List Nat}{args:List T}{vs:Array Value}{r:T}{p:Option Prop}(he:c0j cf H ks args=some (r,H',p))(hp:p.getD True)(ha:tC E w args vs):
  Calls P f vs w λe w'=>∃v E',e= .returned v/\Inv c E' H' w'/\Step E w E' w'/\Rd E' w' r v:=by
 unfold c0j at he;split at he
 case h_2=>cases he
 rename_i bs hbs;split at he
 case h_2=>cases he
 rename_i r0 p0 hc;simp only[X0,U4] at he;obtain⟨rfl,rfl,rfl⟩:=he;obtain⟨hsb,hp0⟩:=xN hp;have hfn:=hf _ r0 p0 hc hp0;obtain⟨b1,b2⟩:=J3 hbs;have hK:Inv c E (H3 ks H 0) w:=by
  refine⟨⟨λk ob hk=>h.heap.live k ob (N7 hk).1,λk k' o o' b hk hk'=>h.heap.inj k k' o o' b (N7 hk).1 (N7 hk').1,λk hk=>by rw[sF];exact h.heap.lt k hk,h.heap.l2,λk ob v hk=>h.heap.cur k ob v (N7 hk).1⟩,h.nlt,h.nnew,λk ob b hk=>h.bnew k ob b (N7 hk).1,h.fr,h.keep⟩
 have hval:tC (E.lent 0 (H3 ks H 0)) w (bs.map (·.1)) vs:=⟨by simp[b1];exact ha.1,λi t x hi hx=>by
  simp only[oE,F1] at hi
  obtain⟨y,hy,rfl⟩:=hi;have hlt:i<args.length:=by rw[←b1];exact(u6.1 hy).1
  have hc:=I1 hlt
  exact o6 hK 6 (r:=y.1) (p:=y.2) (b2 i _ y hc hy) (zU hsb y (y4 hy)) (ha.2 i _ x hc hx)⟩
 have hN1:∀b,(E.lent 0 (H3 ks H 0)).N b->b<w.heap.size:=λb hb=>by
  rcases hb with hb|⟨k,ob,_,hk,hb⟩
  ·exact h.nlt b hb
  ·exact hK.heap.blt hk hb
 refine(hfn (E.lent 0 (H3 ks H 0)) w vs (λ_=>⟨λh=>absurd h.2 (D2 _),λ_ h=>absurd h.2 (D2 _)⟩) hN1 hval).mono λe w' hh=>?_
 obtain⟨v,rfl,hb,hr⟩:=hh;let N2:Nat->Prop:=((E.lent 0 (H3 ks H 0)).addN λb=>w.heap.size<=b/\b<w'.heap.size).N
 let E2:Env:={E with N:=N2}
 have hstep:Step E w E2 w':=⟨⟨λb hb=>.inl (.inl hb),λ_ h=>h,λ_ _=>rfl,λ_ _=>rfl,λ_ _=>rfl,λ_ _ h=>h,λ_ _ _ _ _=>rfl,λ_ _ _ _ _=>rfl⟩,λb hb'=>hb.block b (h.nlt b hb'),λ_ h=>.inl h⟩
 refine⟨v,E2,rfl,⟨⟨λk ob hk=>?_,λk k' o o' b hk hk'=>h.heap.inj k k' o o' b (L8 hk).1 (L8 hk').1,λk hk=>by rw[G2];exact h.heap.lt k hk,h.heap.l2,λk ob v hk=>h.heap.cur k ob v (L8 hk).1⟩,λb hb'=>?_,λb hb'=>?_,λk ob b hk=>h.bnew k ob b (L8 hk).1,h.fr.heap hb.os hb.tape hb.output hb.size (λb h1 _=>hb.block b b0E),h.keep.step hstep⟩,hstep,?_⟩
 ·obtain⟨g1,g2⟩:=L8 hk;obtain⟨e1,e2,e3⟩:=h.heap.live k ob g1;refine⟨e1,e2.mono e1 hstep (λb hb'=>hb.block b (e2.blt hb')),λb hb' hn=>?_⟩
  have hb':A3 E k ob b:=hb';rcases hn with(hn|⟨k2,ob2,_,hk2,hb2⟩)|hn
  ·exact e3 b hb' hn
  ·obtain⟨g3,g4⟩:=N7 hk2;have:=h.heap.inj k k2 ob ob2 b g1 g3 hb' hb2;rw[D4] at g4;exact g2 (this▸g4)
  ·have:=e2.blt hb';have:=hn.1;omega
 ·rcases hb' with hb'|hb'
  ·have:=hN1 b hb';have:=hb.size;omega
  ·exact hb'.2
 ·rcases hb' with(hn|⟨k2,ob2,_,hk2,hb2⟩)|hn
  ·exact h.nnew b hn
  ·exact .inr (h.bnew k2 ob2 b (N7 hk2).1 hb2)
  ·have:=h.fr.size;exact .inr (.inl (by have:=hn.1;omega))
 ·exact Rd.mono (w:=w') (w':=w') (E:=(E.lent 0 (H3 ks H 0)).addN λb=>w.heap.size<=b/\b<w'.heap.size) (E':=E2) ⟨λ_ h=>h,λ_ h=>absurd h.2 (D2 _),λ_ h=>absurd h.2 (D2 _),λ_ h=>absurd h.2 (D2 _),λ_ h=>absurd h.2 (D2 _),λ_ _ h=>absurd h.2 (D2 _),λ_ _ _ _ h=>absurd h.2 (D2 _),λ_ _ _ _ h=>absurd h.2 (D2 _)⟩ (λ_ _=>rfl) hr
def c0b(d:B6 P G)(h:Inv c E H w){f:FuncId}{args:List T}{vs:Array Value}{r:T}{p:Option Prop}(he:wJ G H f args=some (r,H',p))(hp:p.getD True)(A:tC E w args vs):
  Calls P f vs w λe w'=>∃v E',e= .returned v/\Inv c E' H' w'/\Step E w E' w'/\Rd E' w' r v:=by
 unfold wJ at he;split at he
 ·rename_i cf hcf;split at he
  ·exact c7l h (b0N d hcf) he hp A
  ·exact a4c h (b0N d hcf) he hp A
 ·split at he
  ·rename_i cf hcf;exact c9c h (c5Q d hcf) he hp A
  ·split at he
   ·rename_i cf hcf;exact c4N h (c7o d hcf) he hp A
   ·cases he
end
section
variable {c:Ctx} {E:Env} {H H':X9} {w w':World} {ρ:Nat->Option Nat} {P:Program}
def a2M(hρ:∀k m,ρ k=some m->m=k):∀{d:Nat} {t t':T},S8 ρ d t=some t'->t'=t:=by
 intro d;induction d with
 |zero=>intro t t' h;simp[S8] at h
 |succ d ih=>
  intro t t' h;have list:∀{cs cs':List T},O0 (S8 ρ d) cs=some cs'->cs'=cs:=by
   intro cs cs' hm;obtain⟨h1,h2⟩:=J3 hm;refine List.ext_getElem h1 λi h3 h4=>?_
   exact ih (h2 i _ _ (I1 h4) (I1 h3))
  unfold S8 at h;split at h
  case h_6=>
   simp only[F1] at h;obtain⟨cs,hm,rfl⟩:=h;rw[list hm]
  case h_7=>
   simp only[F1] at h;obtain⟨cs,hm,rfl⟩:=h;rw[list hm]
  case h_8=>
   simp only[F1] at h;obtain⟨cs,hm,rfl⟩:=h;rw[list hm]
  case h_9=>simp only[X0] at h;exact h.symm
  all_goals
   simp only[F1] at h;obtain⟨m,hm,rfl⟩:=h;rw[hρ _ _ hm]
def a1P:∀k m,cW k=some m->m=k:=by
 intro k m h;cases k with
 |zero=>cases h
 |succ k=>simp only[cW,X0] at h;exact h.symm
def c2V:∀i k,cW i=some k->cW k=some i:=by
 intro i k h;rw[a1P i k h];cases i with
 |zero=>cases h
 |succ i=>rfl
def a0Y{cs C:List T}(h:O0 (S8 cW 6) cs=some C):C=cs/\∀t ∈ C,S8 cW 6 t=some t:=by
 obtain⟨g,d⟩:=J3 h;have e:C=cs:=List.ext_getElem g λi n f=>a2M a1P (d i _ _ (I1 f) (I1 n))
 refine⟨e,λt l=>?_⟩
 obtain⟨i,hi,rfl⟩:=List.getElem_of_mem l;have:=d i _ _ (I1 (by rw[←e];exact hi)) (I1 hi)
 have j:=a2M a1P this;rw[←j] at this;exact this
def oV{X:Env}{t d:T}{x:Value}(e:S8 cW 6 t=some d)(h:Rd E w t x):Rd (X.glue E cW E.N) w d x:=
 a4P (λ_ h=>h) c2V 6 e h
def b4V{ob:Ob}(h:ob.isArr=true):∀v ty sz n row,ob≠ .fam v ty sz n row:=by rintro v ty sz n row rfl;cases h
def c4p{X:Env}{f ob2:Ob}{R r:X9}(h:HeapOk E w (some f::R))(hm:O0 (obB cW) R=some r)(h1:f.isArr=true)(Q:ob2.isArr=true)(J:X.L 0)(Y:X.β 0=E.β 0)(hκ:E.κ 0≠0)
  (A:∀v,X.L2 0 v->E.L2 0 v) (ho:zZ (X.glue E cW E.N) w 0 ob2):
  HeapOk (X.glue E cW E.N) w (some ob2::r)/\∀k ob b,Y4 (some ob2::r) k=some ob->A3 (X.glue E cW E.N) k ob b->∃O,Y4 (some f::R) k=some O/\A3 E k O b:=by
 obtain⟨m1,M⟩:=J3 hm;have B:f.isArr=true->∀v,¬E.L2 0 v:=λhi v hv=>by
  obtain⟨V,ty,sz,n,row,he,_⟩:=h.cur 0 f v rfl hv;exact b4V hi _ _ _ _ _ he
 have get:∀k ob,Y4 (some ob2::r) (k+1)=some ob->∃O,Y4 (some f::R) (k+1)=some O/\lJ cW O=some ob:=by
  intro k ob d;have z:k<r.length:=by
   have:=G1 d;simp only[List.length_cons] at this;omega
  have l:r[k]? =some (some ob):=by
   have:Y4 r k=some ob:=d;unfold Y4 at this;rw[I1 z] at this ⊢
   simp only[Option.bind_some,id] at this;rw[this]
  have i:k<R.length:=Z9
  rcases a6f (M k _ _ (I1 i) l) with⟨_,e⟩|⟨o1,o2,e1,C,e3⟩
  ·cases e
  ·cases C;exact⟨o1,by show Y4 R k=_;unfold Y4;rw[I1 i,e1];rfl,e3⟩
 have blk:∀k ob b,Y4 (some ob2::r) k=some ob->A3 (X.glue E cW E.N) k ob b->∃O,Y4 (some f::R) k=some O/\A3 E k O b:=by
  intro k ob b d hb';cases k with
  |zero=>
   have:ob2=ob:=b0I
   subst this;obtain⟨_,C⟩:=hb'.arr Q;exact⟨f,rfl,.inl ⟨hκ,C.trans Y⟩⟩
  |succ k=>
   obtain⟨O,g,j⟩:=get k ob d;exact⟨O,g,iL (h.live _ _ g).2.1 j rfl rfl (λv hv=>⟨hv,λ_ _=>⟨rfl,rfl⟩⟩) hb'⟩
 refine⟨⟨λk ob d=>?_,λk k' o o' b d l F u=>?_,λk d=>?_,λk v d=>?_,λk ob v d hv=>?_⟩,blk⟩
 ·refine⟨?_,?_,λb hb'=>?_⟩
  ·cases k with
   |zero=>exact J
   |succ k=>obtain⟨O,g,_⟩:=get k ob d;exact(h.live _ _ g).1
  ·cases k with
   |zero=>
    have:ob2=ob:=b0I
    subst this;exact ho
   |succ k=>
    obtain⟨O,g,j⟩:=get k ob d;exact a5X (h.live _ _ g).2.1 j (λt t' x W F=>oV W F) rfl rfl rfl (λv hv=>⟨hv,λ_ _=>⟨rfl,rfl⟩⟩) (λ_ _=>rfl)
  ·obtain⟨O,g,j⟩:=blk k ob b d hb';exact(h.live _ _ g).2.2 b j
 ·obtain⟨p,p1,U⟩:=blk k o b d F;obtain⟨q,Z,q2⟩:=blk k' o' b l u;exact h.inj k k' p q b p1 Z U q2
 ·cases k with
  |zero=>simp
  |succ k=>
   have:=h.lt (k+1) d;simp only[List.length_cons] at this ⊢;omega
 ·cases k with
  |zero=>exact J
  |succ k=>exact h.l2 (k+1) v d
 ·cases k with
  |zero=>exact absurd (A v hv) (B h1 v)
  |succ k=>
   obtain⟨O,g,j⟩:=get k ob d;obtain⟨V,ty,sz,n,row,rfl,I⟩:=h.cur _ _ v g hv;simp only[lJ,X0] at j;exact⟨V,ty,sz,n,row,j.symm,I⟩
def c6e{f:FuncId}{cf:List T->X9->Option (T×X9×Option Prop)}(hf:eM P f cf){sz n:Nat}:eM P f λas H=>c1X cf sz n H as:=by
 intro as Hw res Hw' p he hp;replace he:c1X cf sz n Hw as=some (res,Hw',p):=he;unfold c1X at he;split at he
 case h_2=>cases he
 rename_i ty szW m row rest;split at he
 case h_2=>cases he
 rename_i m' or0 ob0 hb rest0 cs hrest hcs hok;simp only[J5] at hok;obtain⟨hoa,hsz⟩:=hok;have hsz:=yH hsz;split at he
 case h_2=>cases he
 rename_i oe r cl' ty' sz' m'' row' rest' p' hev;split at he
 case h_2=>cases he
 rename_i r' rest2 cs' hs' hr' hrest2 hcs';simp only[X0,U4] at he;obtain⟨rfl,rfl,rfl⟩:=he;obtain rfl:=F5 hs';obtain⟨ecs,ncs⟩:=a0Y hcs;obtain⟨ecs',ncs'⟩:=a0Y hcs';subst ecs;subst ecs';intro E w vs hH hN hv;obtain⟨l1,l2,l3⟩:=hH.live 0 _ rfl;obtain⟨e1,e2,e3,e4,e5,arr,aty,e6,e7,e8⟩:=(show T5 E w 0 ⟨false,ty,szW,1,row⟩ from l2)
 simp only at e1 e2 e3 e4 e7 e8;have hκ0:E.κ 0≠0:=Z9
 have hlen:(row 0).length=szW:=e3 0 Nat.zero_lt_one;have hle7:szW<=arr.size:=by
  have:=e7.le;have h2:1*szW<=E.κ 0*szW:=kJ _ e2;omega
 obtain⟨tl,htl⟩:∃tl,tl=arr.toList.drop sz':=⟨_,rfl⟩;have htlen:tl.length=arr.size-sz':=by rw[htl];simp
 have htget:∀j,tl[j]? =arr[sz'+j]? :=λj=>by rw[htl,List.getElem?_drop];simp
 let X:Env:={E with κ:=λ_=>1,z:=λ_=>(sz',tl)}
 let En:=X.glue E cW E.N
 have hbox:T5 En w 0 ⟨false,ty,sz',1,λ_=>(row 0).take sz'⟩:=by
  refine⟨rfl,U9 _,λi _=>?_,λi t _ ht=>e4 0 t Nat.zero_lt_one (List.mem_of_mem_take ht),λh=>F3,arr,aty,λ_=>e6 hκ0,⟨?_,λj u hj=>?_⟩,λi j t hi hj=>?_⟩
  ·show((row 0).take sz').length=sz';rw[List.length_take,hlen];omega
  ·show 1*sz'+tl.length<=_;omega
  ·show arr[1*sz'+j]? =_;rw[Nat.one_mul,←htget];exact hj
  ·have hi:i<1:=hi;obtain rfl:i=0:=by omega
   have hj:((row 0).take sz')[j]? =some t:=hj;rw[List.getElem?_take] at hj
   split at hj
   ·obtain⟨u,hu,hr⟩:=e8 0 j t Nat.zero_lt_one hj;refine⟨u,?_,oV (ncs t (y4 hj)) hr⟩
    show arr[0*sz'+j]? =_;rw[Nat.zero_mul] at hu ⊢;exact hu
   ·cases hj
 obtain⟨hHn,hbn⟩:=c4p (X:=X) hH hrest rfl (ob2:=.arr false ty sz' 1 λ_=>(row 0).take sz') rfl l1 rfl hκ0 (λ_ h=>h) hbox
 have hvn:tC En w as vs:=⟨hv.1,λi t x hi hx=>by
  have hr:=hv.2 i t x hi hx;have ho:=b9.1 hoa t (y4 hi);unfold okA at ho;split at ho
  ·rename_i j;cases hr with
   |ref _ _ _ hL=>
    have:=Rd.ref (E:=En) (w:=w) 0 0 j l1;rw[Nat.zero_mul] at this ⊢;exact this
  ·split at ho
   ·rename_i t' ht;have:=a2M a1P ht;subst this;exact oV ht hr
   ·cases ho⟩
 have hI0:Inv ⟨w,XB E (some (.arr false ty szW 1 row)::rest),E.N,0,E,0⟩ En (some (.arr false ty sz' 1 λ_=>(row 0).take sz')::rest0) w:=
  ⟨hHn,hN,λb hb=>.inl hb,λk ob b hk hb=>.inr (by obtain⟨ob',g1,g2⟩:=hbn k ob b hk hb;exact⟨k,ob',g1,g2⟩),⟨rfl,rfl,rfl,U9 _,λ_ _ _=>rfl⟩,⟨λ_ h=>h,λk hk=>absurd hk (D2 k),λ_ _=>rfl,λk _ hk=>absurd hk (D2 k)⟩⟩
 refine(a4c hI0 hf hev hp hvn).mono λe w' hh=>?_
 obtain⟨v,E',rfl,hI,hst,hrd⟩:=hh;have hE0:E'.β 0=E.β 0:=hst.le.β 0 l1;have hE1:E'.κ 0=1:=hst.le.κ 0 l1;have hE2:E'.z 0=(sz',tl):=hst.le.z 0 l1;obtain⟨k1,k2,k3⟩:=hI.heap.live 0 _ rfl;obtain⟨f1,f2,f3,f4,f5,arr',aty',f6,f7,f8⟩:=(show T5 E' w' 0 ⟨cl',ty',sz',1,row'⟩ from by cases cl'<;>exact k2)
 simp only at f1 f2 f3 f4 f7 f8;rw[hE1,Nat.one_mul,hE2] at f7;obtain⟨f71,f72⟩:=f7;have f71:sz'+tl.length<=arr'.size:=f71;have hlen':(row' 0).length=sz':=f3 0 Nat.zero_lt_one;have hkeep:∀q u,sz'<=q->arr[q]? =some u->arr'[q]? =some u:=λq u hq hu=>by
  have:=f72 (q-sz') u (by rw[htget,show sz'+(q-sz')=q by omega];exact hu)
  rwa [show sz'+(q-sz')=q by omega] at this
 have hbox':T5 (E.glue E' cW E'.N) w' 0 ⟨false,ty',szW,1,λ_=>row' 0++(row 0).drop sz'⟩:=by
  refine⟨e1,e2,λi _=>?_,λi t _ ht=>?_,λh=>F3,arr',aty',λ_=>?_,⟨?_,λj u hj=>?_⟩,λi j t hi hj=>?_⟩
  ·show(row' 0++(row 0).drop sz').length=szW;rw[F9,List.length_drop,hlen,hlen'];omega
  ·rcases List.mem_append.1 ht with ht|ht
   ·exact f4 0 t Nat.zero_lt_one ht
   ·exact e4 0 t Nat.zero_lt_one (List.mem_of_mem_drop ht)
  ·have:=f6 Z9
   rwa [hE0] at this
  ·have:=e7.1;show E.κ 0*szW+(E.z 0).2.length<=_;omega
  ·have h2:1*szW<=E.κ 0*szW:=kJ _ e2;exact hkeep _ u (by show sz'<=E.κ 0*szW+j;omega) (e7.2 j u hj)
  ·have hi:i<1:=hi;obtain rfl:i=0:=by omega
   have hj:(row' 0++(row 0).drop sz')[j]? =some t:=hj;show ∃u,arr'[0*szW+j]? =some u/\_;rw[Nat.zero_mul,D4];rw[List.getElem?_append,hlen'] at hj
   split at hj
   ·obtain⟨u,hu,hr⟩:=f8 0 j t Nat.zero_lt_one hj;rw[Nat.zero_mul,D4] at hu;exact⟨u,hu,oV (ncs' t (y4 hj)) hr⟩
   ·rw[List.getElem?_drop,show sz'+(j-sz')=j by omega] at hj
    obtain⟨u,hu,hr⟩:=e8 0 j t Nat.zero_lt_one hj;rw[Nat.zero_mul,D4] at hu;have ht:=ncs t (y4 hj);exact⟨u,hkeep j u Z9 hu,oV ht (hst.rd (oV ht hr))⟩
 obtain⟨hH2,hb2⟩:=c4p (X:=E) hI.heap hrest2 (by cases cl'<;>rfl) (ob2:=.arr false ty' szW 1 λ_=>row' 0++(row 0).drop sz') rfl l1 hE0.symm Z9 (λv h=>hst.le.L2 0 v h) hbox'
 refine⟨v,E.glue E' cW E'.N,rfl,⟨hH2,hI.nlt,hI.nnew,λk ob b hk hb=>?_,hI.fr,⟨hI.keep.N,λk hk=>absurd hk (D2 k),hI.keep.same,λk _ hk=>absurd hk (D2 k)⟩⟩,⟨⟨λb hb=>hst.le.N b hb,λk hk=>?_,λk hk=>?_,λk hk=>?_,λk hk=>?_,λk v hk=>?_,λk v a b hk=>?_,λk v a b hk=>?_⟩,λb hb=>hst.same b hb⟩,oV hr' hrd⟩
 ·obtain⟨ob',g1,g2⟩:=hb2 k ob b hk hb;exact hI.bnew k ob' b g1 g2
 ·cases k with
  |zero=>exact hk
  |succ k=>exact hst.le.L (k+1) hk
 ·cases k with
  |zero=>rfl
  |succ k=>exact hst.le.β (k+1) hk
 ·cases k with
  |zero=>rfl
  |succ k=>exact hst.le.κ (k+1) hk
 ·cases k with
  |zero=>rfl
  |succ k=>exact hst.le.z (k+1) hk
 ·cases k with
  |zero=>exact hk
  |succ k=>exact hst.le.L2 (k+1) v hk
 ·cases k with
  |zero=>rfl
  |succ k=>exact hst.le.b2 (k+1) v a b hk
 ·cases k with
  |zero=>rfl
  |succ k=>exact hst.le.c2 (k+1) v a b hk
end
end Go.SS
