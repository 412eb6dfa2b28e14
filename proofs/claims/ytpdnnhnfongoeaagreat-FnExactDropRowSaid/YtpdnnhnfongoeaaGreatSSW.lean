/- A calculus of symbolic states: arguments that are given as data. -/
import Derived.Test.YtpdnnhnfongoeaaGreatSS15
import Derived.Deep.Slices
import Derived.OpenShut
import Derived.RowKit
import Derived.ChangeSame
namespace Go.SS
open Go.RowKit
def kQ(P:Program):Nat->TypeId->Bool
 |0,_=>false
 |d+1,t=>match P.underlying t with
  |some .bool=>Nat.beq (P.cellsOf t) 1
  |some (.int _)=>Nat.beq (P.cellsOf t) 1
  |some .string=>Nat.beq (P.cellsOf t) 1
  |some (.slice e)=>Nat.beq (P.cellsOf t) 1&&Nat.blt 0 (P.cellsOf e)&&kQ P d e
  |some (.struct fs)=>(Nat.beq (endsAt fs.toList 0) (P.cellsOf t)&&Nat.blt (P.cellsOf t) 18446744073709551616)&&fs.toList.all λf=>kQ P d f.type
  |_=>false
where
 endsAt:List Field->Nat->Nat
 | [],n=>n
 |f::r,n=>match Nat.beq f.offset n with
  |true=>endsAt r (n+P.cellsOf f.type)
  |false=>18446744073709551616
def dI{H:Type}:DataW H->Int
 | .lit (.int _ n)=>n
 |_=>0
def dB{H:Type}:DataW H->Bool
 | .lit (.bool b)=>b
 |_=>false
def dS{H:Type}:DataW H->Bz
 | .lit (.string l)=>l
 |_=>[]
def T0{H:Type}:DataW H->List (DataW H)
 | .slice xs _=>xs
 |_=>[]
def T3{H:Type}:DataW H->List (DataW H)
 | .agg xs=>xs
 |_=>[]
def F2{H:Type}(xs:List (DataW H)):Nat->DataW H
 |0=>xs.headD .nil
 |k+1=>F2 xs.tail k
def trF{H:Type}(g:TypeId->DataW H->List T):List Field->List (DataW H)->List T
 | [],_=>[]
 |f::r,xs=>g f.type (xs.headD .nil)++trF g r xs.tail
def wW{H:Type}(P:Program):Nat->TypeId->DataW H->List T
 |0,_,_=>[]
 |d+1,t,x=>match P.underlying t with
  |some .bool=>[.bool (dB x)]
  |some (.int k)=>[.int k (dI x)]
  |some .string=>[.str (dS x)]
  |some (.slice e)=>match P.underlying e with
   |some (.int .u8)=>[.bys ((T0 x).map byD)]
   |_=>[.sl (P.cellsOf e) (T0 x).length λi=>wW P d e ((T0 x).getD i .nil)]
  |some (.struct fs)=>trF (wW P d) fs.toList (T3 x)
  |_=>[]
where
 byD:DataW H->UInt8
 | .lit (.int _ n)=>R1 n
 |_=>0
theorem b0h{H:Type}(g:TypeId->DataW H->List T):∀(fl:List Field) (xs:List (DataW H)),xs.length=fl.length->trF g fl xs=(fl.zip xs).flatMap λp=>g p.1.type p.2
 | [],_,_=>rfl
 |f::fl,[],h=>L6
 |f::fl,x::xs,h=>by
  simp only[trF,List.headD_cons,List.tail_cons,List.zip_cons_cons,List.flatMap_cons];rw[b0h g fl xs x8]
theorem b5d{α β:Type}{f:α->Option β}:∀{l:List α} {q:List β},l.mapM f=some q->q.length=l.length/\∀(i:Nat) (a:α) (b:β),l[i]? =some a->q[i]? =some b->f a=some b:=by
 intro l;induction l with
 |nil=>intro q h;simp at h;subst h;exact⟨rfl,λi a b A=>by simp at A⟩
 |cons x l I=>
  intro q h;simp only[List.mapM_cons,Option.bind_eq_bind,Option.bind_eq_some_iff,Option.pure_def,X0] at h;obtain⟨b,g,q',Q,rfl⟩:=h;obtain⟨j,e⟩:=I Q;refine⟨by simp[j],λi a B A d=>?_⟩
  cases i with
  |zero=>simp at A d;subst A;subst d;exact g
  |succ i=>exact e i a B (by simpa using A) (by simpa using d)
theorem iD{α β:Type}{f:α->Option β}:∀{l:List α} {q:List β},q.length=l.length->(∀(i:Nat) (a:α) (b:β),l[i]? =some a->q[i]? =some b->f a=some b)->l.mapM f=some q:=by
 intro l;induction l with
 |nil=>intro q h _;cases q with|nil=>rfl|cons=>simp at h
 |cons x l I=>
  intro q h F;cases q with
  |nil=>simp at h
  |cons b q=>
   have e:=F 0 x b rfl rfl;have d:=I (q:=q) x8 λi a b A B=>F (i+1) a b (by simpa using A) (by simpa using B)
   simp only[List.mapM_cons,e,d,Option.bind_eq_bind,Option.bind_some,Option.pure_def]
section
variable {H:Type} {enc:TypeId×Value->H} {P:Program} {w w':World} {base:Nat} {held:Bool}
theorem i8{a:Addr}{n:Nat}{cs:List Value}(h:w.cells? base a n=some cs):base<=a.block/\cs.length=n/\∀j v,cs[j]? =some v->w.cell? (a.add j)=some v:=by
 unfold World.cells? at h;split at h
 ·rename_i hb;obtain⟨h1,h2⟩:=b5d h;refine⟨hb,by simpa using h1,λj v hj=>?_⟩
  have t:j<n:=by have:=(u9.1 hj).1;simpa[h1] using this
  exact h2 j j v (by simp[t]) hj
 ·cases h
theorem b8c{a:Addr}{n:Nat}{cs:List Value}(B:base<=a.block)(l:cs.length=n)(h:∀j v,cs[j]? =some v->w.cell? (a.add j)=some v):w.cells? base a n=some cs:=by
 unfold World.cells?;rw[if_pos B];refine iD (by simpa using l) λi k v d hv=>?_
 have I:i=k:=by
  have t:=(u9.1 d).1
  simp at t
  simpa[t] using d
 subst I;exact h i v hv
theorem qS(a:Addr)(n:Nat):(a.add n).block=a.block:=by unfold Addr.add;split<;>rfl
theorem a8s{a:Addr}{n:Nat}{cs:List Value}(W:∀b,b<w.heap.size->w'.heap[b]? =w.heap[b]?)(h:w.cells? base a n=some cs):w'.cells? base a n=some cs:=by
 obtain⟨f,e,g⟩:=i8 h;refine b8c f e λj v J=>?_
 have d:=g j v J;have t:(a.add j).block<w.heap.size:=by
  unfold World.cell? at d;split at d
  ·rename_i B;exact(aH.1 B).1
  ·cases d
 unfold World.cell? at d ⊢;rw[W _ t];exact d
theorem c2Z{a:Addr}{n:Nat}(h:0<n):(.cell a.block a.off:MemPlace) ∈ MemPlace.row a n:=by
 unfold MemPlace.row;exact List.mem_map.2 ⟨0,x8,rfl⟩
theorem a6L{v:Nat->Bool}(W:∀b,b<w.heap.size->w'.heap[b]? =w.heap[b]?):∀(d:Nat) {fuel:Nat} {t:TypeId} {cs:List Value} {x:DataW H} {ps:List MemPlace},kQ P d t=true->
  DataW.trod enc P w base (λ_=>true) held fuel t cs=some (x,ps)->(∀p ∈ ps,v p.block=true)->DataW.trod enc P w' base v held fuel t cs=some (x,ps):=by
 intro d;induction d with
 |zero=>intro fuel t cs x ps h;simp[kQ] at h
 |succ d C=>
  intro fuel t cs x ps hok h q;cases fuel with
  |zero=>simp[DataW.trod] at h
  |succ fuel=>
   unfold kQ at hok;split at hok
   ·rename_i hu;obtain⟨b,rfl,he⟩:=DataW.trod_bool hu h;rw[he];simp[DataW.trod,hu]
   ·rename_i k hu;obtain⟨n,rfl,he,F⟩:=DataW.trod_int hu h;rw[he];simp[DataW.trod,hu,F]
   ·rename_i hu;obtain⟨s,rfl,he,F⟩:=DataW.trod_string hu h;rw[he];simp[DataW.trod,hu,F]
   ·rename_i e hu;simp only[I4] at hok;obtain⟨⟨_,hpos⟩,hoe⟩:=hok;have hpos:0<P.cellsOf e:=yY hpos;rcases DataW.trod_slice hu h with⟨rfl,he⟩|⟨a,len,cap,elems,rest,n,hn,rfl,hx,hb,hl,hm,hlen,hel,hsp1,_⟩
    ·rw[he];simp[DataW.trod,hu]
    ·obtain rfl:fuel=n:=by omega
     obtain⟨L,u⟩:=hsp1 rfl;simp only[U5] at hx;obtain⟨hx,g⟩:=hx;have r:∀(i:Nat) (y:DataW H×List MemPlace),y ∈ elems++rest->((w.cells? base (a.add (i*P.cellsOf e)) (P.cellsOf e)).bind (DataW.trod enc P w base (λ_=>true) held fuel e))=some y->
       ((w'.cells? base (a.add (i*P.cellsOf e)) (P.cellsOf e)).bind (DataW.trod enc P w' base v held fuel e))=some y:=by
      intro i y Y h;obtain⟨M,O,J⟩:=Option.bind_eq_some_iff.1 h;rw[a8s W O];simp only[Option.bind_some];obtain⟨N,Q⟩:=y;refine C hoe J λp hp=>q p ?_
      rw[g];exact List.mem_append_right _ (List.mem_flatMap.2 ⟨_,Y,hp⟩)
     have R:∀{n i k:Nat},(List.range n)[i]? =some k->i=k/\k<n:=by
      intro n i k z;have l:=(u9.1 z).1
      simp at l;have:i=k:=by simpa[l] using z
      exact⟨this,this▸l⟩
     have B:(List.range len).mapM (λi=>(w'.cells? base (a.add (i*P.cellsOf e)) (P.cellsOf e)).bind (DataW.trod enc P w' base v held fuel e))=some elems:=
      iD (by simpa using hlen) λi k y z Y=>by
       obtain⟨rfl,l⟩:=R z;exact r i y (List.mem_append_left _ (y7 Y)) ((hel i l).trans Y)
     have o:(List.range (cap-len)).mapM (λj=>(w'.cells? base (a.add ((len+j)*P.cellsOf e)) (P.cellsOf e)).bind (DataW.trod enc P w' base v held fuel e))=some rest:=
      iD (by simpa using L) λi k y z Y=>by
       obtain⟨rfl,l⟩:=R z;exact r (len+i) y (List.mem_append_right _ (y7 Y)) ((u i l).trans Y)
     have A:v a.block=true∨cap-len=0:=by
      by_cases Z:cap-len=0
      ·exact .inr Z
      ·left
       refine q (.cell a.block a.off) ?_
       rw[g];exact List.mem_append_left _ (c2Z (Nat.mul_pos Z9 hpos))
     simp only[DataW.trod,hu];rw[if_pos ⟨hb,hl,hm⟩,B];simp only[Option.bind_some];rcases A with hs|Z
     ·rw[hs];simp only[if_true,o,i6,hx,g]
     ·have hrest0:rest=[]:=List.eq_nil_of_length_eq_zero Z9
      rw[hrest0] at hx g o;cases v a.block
      ·simp only[Bool.false_eq_true,if_false,i6,hx,g]
      ·simp only[if_true,o,i6,hx,g]
   ·rename_i fs hu;simp only[I4] at hok;have hof:=g7.1 hok.2;obtain⟨xs,n,hn,hx,hl,hxl,hf⟩:=DataW.trod_struct hu h;obtain rfl:fuel=n:=by omega
    simp only[U5] at hx;obtain⟨hx,g⟩:=hx;rw[hx,g];refine ChangeShapes.trod_struct_mk hu hl (iD a9s λi f y I Y=>?_)
    obtain⟨N,Q⟩:=y;refine C (hof f (y7 I)) ((hf i f (by simpa using I)).trans Y) λp hp=>q p ?_
    rw[g];exact List.mem_flatMap.2 ⟨_,y7 Y,hp⟩
   ·cases hok
def RdC(E:Env)(w:World)(ts:List T)(cs:List Value):Prop:=ts.length=cs.length/\∀(i:Nat) (t:T) (v:Value),ts[i]? =some t->cs[i]? =some v->Rd E w t v/\W6 t=true/\I0 t=true
theorem a6R{E:Env}{as bs:List T}{u vs:List Value}(h:RdC E w as u)(k:RdC E w bs vs):RdC E w (as++bs) (u++vs):=by
 refine⟨by simp[h.1,k.1],λi t v hi hv=>?_⟩
 rw[List.getElem?_append] at hi hv
 rw[←h.1] at hv;split at hi
 ·rename_i d;rw[if_pos d] at hv;exact h.2 i t v hi hv
 ·rename_i d;rw[if_neg d] at hv;exact k.2 _ t v hi hv
theorem yK{E:Env}{t:T}{v:Value}(h:Rd E w t v)(C:W6 t=true)(o:I0 t=true):RdC E w [t] [v]:=by
 refine⟨rfl,λi d V hi hv=>?_⟩
 cases i with
 |zero=>simp at hi hv;subst hi;subst hv;exact⟨h,C,o⟩
 |succ i=>simp at hi
theorem aS:∀{F:List Field} {n m:Nat},kQ.endsAt P F n=m->m<18446744073709551616->n<=m/\∀f r,F=f::r->f.offset=n/\kQ.endsAt P r (n+P.cellsOf f.type)=m:=by
 intro F;induction F with
 |nil=>intro n m h _;simp only[kQ.endsAt] at h;exact⟨Z9,λf r d=>by cases d⟩
 |cons f F ih=>
  intro n m h hm;simp only[kQ.endsAt] at h;split at h
  ·rename_i hb;obtain⟨h1,_⟩:=ih h hm;refine⟨Z9,λg r hg=>?_⟩
   cases hg;exact⟨G0 hb,h⟩
  ·omega
theorem c3G{E:Env}(hE:∀b,b<w.heap.size->E.N b):∀(d:Nat) {fuel:Nat} {t:TypeId} {cs:List Value} {x:DataW H} {ps:List MemPlace},kQ P d t=true->
  DataW.trod enc P w base (λ_=>true) held fuel t cs=some (x,ps)->RdC E w (wW P d t x) cs:=by
 intro d;induction d with
 |zero=>intro fuel t cs x ps h;simp[kQ] at h
 |succ d ih=>
  intro fuel t cs x ps hok h;unfold kQ at hok;unfold wW;split at hok
  ·rename_i hu;obtain⟨b,rfl,he⟩:=DataW.trod_bool hu h;simp only[U5] at he;rw[he.1];exact yK (.bool b) rfl rfl
  ·rename_i k hu;obtain⟨n,rfl,he,F⟩:=DataW.trod_int hu h;simp only[U5] at he;rw[he.1];exact yK (.int k n) rfl rfl
  ·rename_i hu;obtain⟨s,rfl,he,F⟩:=DataW.trod_string hu h;simp only[U5] at he;rw[he.1];exact yK (.str s.data.toList) rfl rfl
  ·rename_i e hu;simp only[I4] at hok;obtain⟨⟨_,hpos⟩,hoe⟩:=hok;have hpos:0<P.cellsOf e:=yY hpos;rcases DataW.trod_slice hu h with⟨rfl,he⟩|⟨a,len,cap,elems,rest,n,hn,rfl,hx,hb,hl,hm,hlen,hel,hsp1,_⟩
   ·simp only[U5] at he;rw[he.1];simp only[T0];split
    ·exact yK .bysNil rfl rfl
    ·exact yK (.slNil _ _) rfl rfl
   ·obtain rfl:fuel=n+1:=by omega
    simp only[U5] at hx;rw[hx.1];simp only[T0];have W:∀i,i<len->∃C,w.cells? base (a.add (i*P.cellsOf e)) (P.cellsOf e)=some C/\RdC E w (wW P d e ((elems.map (·.1)).getD i .nil)) C:=by
     intro i hi;have hl0:=hel i hi;have l:i<elems.length:=Z9
     rw[I3 l] at hl0
     obtain⟨C,r,O⟩:=Option.bind_eq_some_iff.1 hl0;refine⟨C,r,?_⟩
     have:=ih hoe (x:=elems[i].1) (ps:=elems[i].2) O;rw[P4,oG,I3 l]
     exact this
    by_cases hz:cap=0
    ·have hl0:len=0:=by omega
     have Q:elems=[]:=List.eq_nil_of_length_eq_zero Z9
     subst hz;subst hl0;subst Q;simp only[List.map_nil];split
     ·exact yK (.bysEmp a) rfl rfl
     ·exact yK (.slEmp _ _ a) rfl rfl
    ·have B:a.spot=none:=by
      have:∃C,w.cells? base (a.add (0*P.cellsOf e)) (P.cellsOf e)=some C:=by
       by_cases hl0:0<len
       ·obtain⟨C,r,_⟩:=W 0 hl0;exact⟨C,r⟩
       ·obtain⟨hrl,hrest⟩:=hsp1 rfl;have h0:=hrest 0 Z9
        have l:0<rest.length:=Z9
        rw[I3 l] at h0
        obtain⟨C,r,_⟩:=Option.bind_eq_some_iff.1 h0;rw[show len+0=0 by omega] at r
        exact⟨C,r⟩
      obtain⟨C,r⟩:=this;obtain⟨_,g2,z⟩:=i8 r;have l:0<C.length:=Z9
      have:=z 0 C[0] (I3 l)
      have hs:=World.cell?_spot this
      rw[Nat.zero_mul] at hs
      simpa[Addr.add] using hs
     obtain⟨b,off,spot⟩:=a;simp only at B;subst B;have u:b<w.heap.size∨len=0:=by
      by_cases hl0:0<len
      ·left
       obtain⟨C,r,_⟩:=W 0 hl0;obtain⟨_,g2,z⟩:=i8 r;have l:0<C.length:=Z9
       have I:=z 0 C[0] (I3 l)
       unfold World.cell? at I;split at I
       ·rename_i hb';have:=(aH.1 hb').1
        rw[qS,qS] at this;exact this
       ·cases I
      ·exact .inr Z9
     have u:b<w.heap.size:=by
      rcases u with h|h
      ·exact h
      ·obtain⟨hrl,hrest⟩:=hsp1 rfl;have h0:=hrest 0 Z9
       have l:0<rest.length:=Z9
       rw[I3 l] at h0
       obtain⟨C,r,_⟩:=Option.bind_eq_some_iff.1 h0;obtain⟨_,g2,z⟩:=i8 r;have l:0<C.length:=Z9
       have I:=z 0 C[0] (I3 l)
       unfold World.cell? at I;split at I
       ·rename_i hb';have:=(aH.1 hb').1
        rw[qS,qS] at this;exact this
       ·cases I
     have A:∀i j,(Addr.add (Addr.add ⟨b,off,none⟩ i) j)=⟨b,off+i+j,none⟩:=λi j=>by rw[Addr.add_lit,Addr.add_lit]
     skip
     split
     ·rename_i M;have ab:P.cellsOf e=1:=by
       cases d with
       |zero=>simp[kQ] at hoe
       |succ d=>
        unfold kQ at hoe;rw[M] at hoe;exact G0 hoe
      refine yK ?_ rfl rfl
      have q:((elems.map (·.1)).map wW.byD).length=len:=by simp[hlen]
      rw[←q];refine .bys _ b off cap (hE b u) (by rw[q];exact hl) λi x hx=>?_
      have hi:i<len:=by have:=(u9.1 hx).1;omega
      have hl0:=hel i hi;have l:i<elems.length:=Z9
      rw[I3 l] at hl0
      obtain⟨C,r,O⟩:=Option.bind_eq_some_iff.1 hl0;obtain⟨nn,aa,X,F⟩:=DataW.trod_int M O;obtain⟨_,_,z⟩:=i8 r;have:=z 0 (.int .u8 nn) (by rw[aa];rfl)
      rw[A,ab,Nat.mul_one,Nat.add_zero] at this;rw[this];simp only[oG,I3 l,i6,X0] at hx
      rw[←hx,X];simp only[wW.byD];have Z:R3 .u8 nn:=by
       simp only[Lit.wf] at F
       simpa[R3] using F
      rw[a2p Z]
     ·refine yK ?_ rfl rfl
      have q:(elems.map (·.1)).length=len:=by simp[hlen]
      rw[q];have J:∀i j,i<len->∀t,(wW P d e ((elems.map (·.1)).getD i .nil))[j]? =some t->∃v,w.cell? ⟨b,off+i*P.cellsOf e+j,none⟩=some v/\Rd E w t v/\W6 t=true/\I0 t=true:=by
       intro i j hi t ht;obtain⟨C,r,V,q2⟩:=W i hi;obtain⟨_,_,z⟩:=i8 r;have l:j<C.length:=by rw[←V];exact(u9.1 ht).1
       have hv:=I3 l
       refine⟨_,?_,q2 j t _ ht hv⟩
       have:=z j _ hv;rw[A] at this;exact this
      refine .sl _ _ _ b off cap (λi j=>(w.cell? ⟨b,off+i*P.cellsOf e+j,none⟩).getD undef) (hE b u) hl (λi hi=>?_) (λi t hi ht=>?_) (λi j t hi ht=>?_) (λi j t hi ht=>?_)
      ·obtain⟨C,r,V,_⟩:=W i hi;rw[V];exact(i8 r).2.1
      ·obtain⟨j,hj⟩:=List.getElem?_of_mem ht
       obtain⟨v,_,_,hc,ho⟩:=J i j hi t hj;exact⟨ho,hc⟩
      ·obtain⟨v,hv,_⟩:=J i j hi t ht;rw[hv];rfl
      ·obtain⟨v,hv,Z,_⟩:=J i j hi t ht;rw[hv];exact Z
  ·rename_i fs hu;simp only[I4] at hok;have hof:=g7.1 hok.2;have hend:=G0 hok.1.1;have hbig:=Nat.blt_eq.mp hok.1.2;obtain⟨xs,n,hn,hx,hl,hxl,hf⟩:=DataW.trod_struct hu h;simp only[U5] at hx;rw[hx.1];simp only[T3];rw[b0h _ _ _ a9s]
   have key:∀(fl:List Field) (Y:List (DataW H×List MemPlace)) (o:Nat),kQ.endsAt P fl o=P.cellsOf t->Y.length=fl.length->(∀f ∈ fl,kQ P d f.type=true)->
     (∀(i:Nat) (f:Field),fl[i]? =some f->DataW.trod enc P w base (λ_=>true) held n f.type ((cs.drop f.offset).take (P.cellsOf f.type))=Y[i]?)->
     RdC E w ((fl.zip (Y.map (·.1))).flatMap λp=>wW P d p.1.type p.2) (cs.drop o):=by
    intro fl;induction fl with
    |nil=>
     intro Y o he L _ _;simp only[kQ.endsAt] at he;subst he;rw[List.drop_of_length_le Z9]
     exact⟨rfl,λi t v hi=>by simp at hi⟩
    |cons f fl R=>
     intro Y o he L hok hg;cases Y with
     |nil=>simp at L
     |cons y Y=>
      obtain⟨e1,e2⟩:=(aS he hbig).2 f fl rfl;have ac:=(aS e2 hbig).1;have h0:=hg 0 f rfl;obtain⟨y1,y2⟩:=y;have r0:=ih (hok f W7) h0
      rw[e1] at r0;have r1:=R Y (o+P.cellsOf f.type) e2 (by simpa using L) (λg U=>hok g (by simp[U])) (λi g hi=>by
       have:=hg (i+1) g b1b
       simpa using this)
      have:=a6R r0 r1;rw[←List.drop_drop,List.take_append_drop] at this
      simpa using this
   have:=key fs.toList xs 0 hend a9s hof (λi f hi=>hf i f b1b)
   simpa using this
  ·cases hok
def iZ{H:Type}(P:Program):Nat->TypeId->DataW H->Prop
 |0,_,_=>False
 |d+1,t,x=>match P.underlying t with
  |some .bool=>∃b,x= .lit (.bool b)
  |some (.int k)=>∃n,x= .lit (.int k n)/\(Lit.int k n).wf=true
  |some .string=>∃l,x= .lit (.string l)/\l.length<=maxLen
  |some (.slice e)=>x= .nil∨∃xs sp,x= .slice xs sp/\xs.length<=maxLen/\∀y,y ∈ xs->iZ P d e y
  |some (.struct fs)=>∃xs,x= .agg xs/\xs.length=fs.size/\∀(i:Nat) (f:Field) (y:DataW H),fs[i]? =some f->xs[i]? =some y->iZ P d f.type y
  |_=>False
theorem c2G{g:Nat->Bool}:∀(d:Nat) {l:Nat} {t:TypeId} {cs:List Value} {x:DataW H} {ps:List MemPlace},kQ P d t=true->DataW.trod enc P w base g held l t cs=some (x,ps)->iZ P d t x:=by
 intro d;induction d with
 |zero=>intro l t cs x ps h;simp[kQ] at h
 |succ d I=>
  intro l t cs x ps hok h;unfold kQ at hok;unfold iZ;split at hok
  ·rename_i hu;obtain⟨b,rfl,he⟩:=DataW.trod_bool hu h;simp only[U5] at he;exact⟨b,he.1⟩
  ·rename_i k hu;obtain⟨n,rfl,he,F⟩:=DataW.trod_int hu h;simp only[U5] at he;exact⟨n,he.1,F⟩
  ·rename_i hu;obtain⟨s,rfl,he,F⟩:=DataW.trod_string hu h;simp only[U5] at he;exact⟨_,he.1,by rw[Array.length_toList];exact F⟩
  ·rename_i e hu;simp only[I4] at hok;rcases DataW.trod_slice hu h with⟨rfl,he⟩|⟨a,len,cap,elems,rest,n,hn,rfl,hx,hb,hl,hm,hlen,hel,hsp1,_⟩
   ·simp only[U5] at he;exact .inl he.1
   ·simp only[U5] at hx;refine .inr ⟨_,_,hx.1,C8,λy hy=>?_⟩
    obtain⟨z,Z,rfl⟩:=List.mem_map.1 hy;obtain⟨i,hi,rfl⟩:=List.mem_iff_getElem.1 Z;have:=hel i Z9
    rw[I3 hi] at this
    obtain⟨C,o,j⟩:=Option.bind_eq_some_iff.1 this;exact I hok.2 j
  ·rename_i fs hu;simp only[I4] at hok;have hof:=g7.1 hok.2;obtain⟨xs,n,hn,hx,hl,hxl,hf⟩:=DataW.trod_struct hu h;simp only[U5] at hx;refine⟨_,hx.1,a9s,λi f y hfi hy=>?_⟩
   simp only[oG,F4] at hy
   obtain⟨z,Z,rfl⟩:=hy;exact I (hof f (by simpa using Array.mem_of_getElem? hfi)) ((hf i f hfi).trans Z)
  ·cases hok
theorem cE{j:Nat->Bool}{d:Nat}(W:∀b,b<w.heap.size->w'.heap[b]? =w.heap[b]?):∀{ts:List TypeId} {vs:List Value} {e:List (DataW H)} {ps:List MemPlace},(∀t ∈ ts,kQ P d t=true)->
  DataW.TrodAll enc P w base (λ_=>true) held ts vs e ps->(∀p ∈ ps,j p.block=true)->DataW.TrodAll enc P w' base j held ts vs e ps:=by
 intro ts;induction ts with
 |nil=>
  intro vs e ps _ h _;cases vs<;>cases e<;>first|exact h|exact h.elim
 |cons t ts I=>
  intro vs e ps g h i;cases vs with
  |nil=>cases e<;>exact h.elim
  |cons v vs=>
   cases e with
   |nil=>exact h.elim
   |cons x e=>
    obtain⟨p,q,⟨f,hp⟩,Q,rfl⟩:=h;exact⟨p,q,⟨f,a6L W d (g t W7) hp λz Z=>i z (List.mem_append_left _ Z)⟩,I (λt l=>g t (by simp[l])) Q λz Z=>i z (List.mem_append_right _ Z),rfl⟩
theorem b3n{n:Bool}{f:Func}{s:ChangeSpec}{W W':World}{args:Array Value}{l M:List (DataW H)}{B:List MemPlace}{d:Nat}{tb:TypeId}
  (F:DataW.Whole enc P f.params.toList s.vars false W args.toList l M B) (e:s.vars=[]) (N:s.fn H l={results:=[.lit (.bool true)],args:=l})
  (j:f.resultTypes= #[tb]) (v:P.underlying tb=some .bool) (A:∀t ∈ f.params.toList,kQ P d t=true) (x:Below W.heap.size W W'):
  s.post enc P f false true false n W args (.bool true) W':=by
 have r:=F;obtain⟨p,q,J,V,rfl,Z,O⟩:=F;rw[e] at V;obtain⟨rfl,rfl⟩:=ChangeShapes.trodVars_none V;simp only[List.append_nil] at r Z;have o:∀z ∈ p,z.block<W.heap.size:=λz hz=>J.lt z hz
 have g:∀(b:Nat) (i:Nat->Bool) (hd:Bool),DataW.TrodAll enc P W' b i hd f.resultTypes.toList ((Value.bool true).resultList f.resultTypes.size) (s.fn H (l++[])).results []:=by
  intro b i hd;rw[List.append_nil,N,j];exact trodAll_cons_mk (shut_bool v _) ChangeShapes.trodAll_mk0
 have h:∀i:Nat->Bool,(∀z ∈ p,i z.block=true)->DataW.TrodAll enc P W' 0 i true f.params.toList args.toList (s.fn H (l++[])).args p:=by
  intro i C;rw[List.append_nil,N];exact cE x.block A J C
 have u:∀i:Nat->Bool,DataW.TrodVars enc P W' i s.vars (s.fn H (l++[])).vars []:=by
  intro i;rw[List.append_nil,N,e];rfl
 refine⟨l,[],p,[],p,[],r,g _ _ _,h _ (λz hz=>by simpa using o z hz),u _,x.frame _,λ_=>⟨?_,_,_,([]++p)++[],⟨[]++p,[],ChangeShapes.trodAll_append (h _ (λ_ _=>rfl)) (g _ _ _),u _,rfl,?_,?_⟩,?_⟩⟩
 ·exact ok_one j rfl (okWide_bool_mk v _)
 ·intro b off hp;have hp':MemPlace.cell b off ∈ p:=by simpa using hp
  have I:=Z b off hp';have L:=x.block b (o _ hp');unfold World.frozen? at I ⊢;rw[L];exact I
 ·intro Q;cases Q
 ·intro z hz _
  simpa using hz
def E0(W:World):Env:=⟨λb=>b<W.heap.size,λ_=>False,λ_=>0,λ_=>0,λ_=>(0,[]),λ_ _=>False,λ_ _ _ _=>0,λ_ _ _ _=>0⟩
theorem b4s{f:FuncId}{W:World}{args:Array Value}{ts:List T}(h:V3 P f ts (.bool true))(A:tB (E0 W) W ts args):Calls P f args W λe W'=>e= .returned (.bool true)/\Below W.heap.size W W':=by
 refine(h (E0 W) W args (λ_=>⟨λh=>h,λ_ h=>h⟩) (λ_ h=>h) A).mono λe W' d=>?_
 obtain⟨v,rfl,B,r⟩:=d;rw[r8 r];exact⟨rfl,B⟩
def E6(P:Program)(t:TypeId):Option (List TypeId):=match P.underlying t with
 |some (.struct fs)=>some (fs.toList.map (·.type))
 |_=>none
def pK(P:Program)(t:TypeId):Bool:=match P.underlying t with|some (.int .i64)=>true|_=>false
def a2s(P:Program)(t:TypeId):Bool:=match P.underlying t with|some .bool=>true|_=>false
def gB(P:Program)(t:TypeId):Bool:=match P.underlying t with|some .string=>true|_=>false
def zI(P:Program)(t:TypeId):Option TypeId:=match P.underlying t with|some (.slice e)=>some e|_=>none
def pU{H:Type}(P:Program)(d:Nat):List TypeId->List (DataW H)->Prop
 | [],[]=>True
 |t::ts,x::xs=>iZ P d t x/\pU P d ts xs
 |_,_=>False
theorem o6{d:Nat}{t:TypeId}{x:DataW H}{ts:List TypeId}(h:iZ P (d+1) t x)(hu:E6 P t=some ts):∃xs,x= .agg xs/\pU P d ts xs:=by
 unfold E6 at hu;split at hu
 ·rename_i fs hf;simp only[X0] at hu;subst hu;unfold iZ at h;rw[hf] at h;obtain⟨xs,rfl,hl,hx⟩:=h;refine⟨xs,rfl,?_⟩
  have key:∀(fl:List Field) (xs:List (DataW H)),xs.length=fl.length->(∀(i:Nat) (f:Field) (y:DataW H),fl[i]? =some f->xs[i]? =some y->iZ P d f.type y)->pU P d (fl.map (·.type)) xs:=by
   intro fl;induction fl with
   |nil=>intro xs hl _;cases xs with|nil=>trivial|cons=>simp at hl
   |cons f fl I=>
    intro xs hl hx;cases xs with
    |nil=>simp at hl
    |cons y xs=>exact⟨hx 0 f y rfl rfl,I xs a9t λi f y hf Y=>hx (i+1) f y a5B a4J⟩
  exact key fs.toList xs a9t λi f y hf Y=>hx i f y a5B Y
 ·cases hu
theorem a6p{d:Nat}{t:TypeId}{x:DataW H}(h:iZ P (d+1) t x)(u:pK P t=true):∃n,x= .lit (.int .i64 n)/\ -9223372036854775808<=n/\n<=9223372036854775807:=by
 unfold pK at u;split at u
 ·rename_i hf;unfold iZ at h;rw[hf] at h;obtain⟨n,rfl,hw⟩:=h;refine⟨n,rfl,?_⟩
  simp only[Lit.wf,IntKind.min,IntKind.max,IntKind.bits,IntKind.signed,I4,q8] at hw;simp at hw;exact hw
 ·cases u
theorem a0x{n:Nat}(h:n<=maxLen):n<=9223372036854775807:=by unfold maxLen at h;omega
theorem c54{d:Nat}{t:TypeId}{x:DataW H}(h:iZ P (d+1) t x)(u:gB P t=true):∃l,x= .lit (.string l)/\l.length<=9223372036854775807:=by
 unfold gB at u;split at u
 ·rename_i f;unfold iZ at h;rw[f] at h;obtain⟨l,rfl,L⟩:=h;exact⟨l,rfl,a0x L⟩
 ·cases u
theorem zT{d:Nat}{t e:TypeId}{x:DataW H}(h:iZ P (d+1) t x)(hu:zI P t=some e):(x= .nil∨∃xs sp,x= .slice xs sp)/\(T0 x).length<=9223372036854775807/\∀y ∈ T0 x,iZ P d e y:=by
 unfold zI at hu;split at hu
 ·rename_i e' hf;simp only[X0] at hu;subst hu;unfold iZ at h;rw[hf] at h;rcases h with rfl|⟨xs,sp,rfl,hl,hx⟩
  ·exact⟨.inl rfl,N5 _,λy Y=>by cases Y⟩
  ·exact⟨.inr ⟨xs,sp,rfl⟩,a0x hl,hx⟩
 ·cases hu
theorem zV{d:Nat}{t e:TypeId}{x:DataW H}(hu:zI P t=some e)(h:(match P.underlying e with|some (.int .u8)=>true|_=>false)=false):
  wW P (d+1) t x=[.sl (P.cellsOf e) (T0 x).length λi=>wW P d e ((T0 x).getD i .nil)]:=by
 unfold zI at hu;split at hu
 ·rename_i e' hf;simp only[X0] at hu;subst hu;conv=>lhs;unfold wW
  rw[hf];simp only;split
  ·rename_i f;rw[f] at h;cases h
  ·rfl
 ·cases hu
theorem xG{d:Nat}{t:TypeId}{x:DataW H}(h:pK P t=true):wW P (d+1) t x=[.int .i64 (dI x)]:=by
 unfold pK at h;split at h
 ·rename_i hf;conv=>lhs;unfold wW
  rw[hf]
 ·cases h
theorem a1O{d:Nat}{t:TypeId}{x:DataW H}(h:a2s P t=true):wW P (d+1) t x=[.bool (dB x)]:=by
 unfold a2s at h;split at h
 ·rename_i hf;conv=>lhs;unfold wW
  rw[hf]
 ·cases h
theorem a8T{d:Nat}{t:TypeId}{x:DataW H}(h:gB P t=true):wW P (d+1) t x=[.str (dS x)]:=by
 unfold gB at h;split at h
 ·rename_i hf;conv=>lhs;unfold wW
  rw[hf]
 ·cases h
def trA{H:Type}(P:Program)(d:Nat):List TypeId->List (DataW H)->List T
 | [],_=>[]
 |t::ts,xs=>wW P d t (xs.headD .nil)++trA P d ts xs.tail
theorem G9{d:Nat}{t:TypeId}{ts:List TypeId}{x:DataW H}(hu:E6 P t=some ts):wW P (d+1) t x=trA P d ts (T3 x):=by
 unfold E6 at hu;split at hu
 ·rename_i fs hf;simp only[X0] at hu;subst hu;conv=>lhs;unfold wW
  rw[hf];simp only;have key:∀(fl:List Field) (xs:List (DataW H)),trF (wW P d) fl xs=trA P d (fl.map (·.type)) xs:=by
   intro fl;induction fl with
   |nil=>intro xs;rfl
   |cons f fl i=>intro xs;simp only[trF,List.map_cons,trA,i]
  exact key _ _
 ·cases hu
theorem w9{α β:Type}(f:α->β)(l:List α)(i:Nat){d:α}{d':β}(h:f d=d'):(l.map f).getD i d'=f (l.getD i d):=by
 subst h;simp only[P4,oG]
 cases l[i]? <;>rfl
theorem V6{d:Nat}{t:TypeId}{ts:List TypeId}{xs:List (DataW H)}(h:pU P d (t::ts) xs):∃x xs',xs=x::xs'/\iZ P d t x/\pU P d ts xs':=by
 cases xs with
 |nil=>exact h.elim
 |cons x xs=>exact⟨x,xs,rfl,h.1,h.2⟩
theorem a0h{d:Nat}{xs:List (DataW H)}(h:pU P d [] xs):xs=[]:=by
 cases xs with
 |nil=>rfl
 |cons x xs=>exact h.elim
def eU{H:Type}(P:Program)(d:Nat)(t:TypeId)(x:DataW H):T:=match P.underlying t with
 |some (.struct _)=>.agg (wW P d t x)
 |_=>(wW P d t x).headD .und
def pQ{H:Type}(P:Program)(d:Nat):List TypeId->List (DataW H)->List T
 |t::ts,x::xs=>eU P d t x::pQ P d ts xs
 |_,_=>[]
theorem c6y{E:Env}{d:Nat}{t:TypeId}{x:DataW H}{v:Value}{B:Nat}(f:kQ P d t=true)(hval:Value.okWide P w .any B t v)(h:RdC E w (wW P d t x) v.cells.toList):Rd E w (eU P d t x) v:=by
 cases d with
 |zero=>simp[kQ] at f
 |succ d=>
  have one:∀{v:Value} {ts:List T},v.cells= #[v]->RdC E w ts v.cells.toList->Rd E w (ts.headD .und) v:=by
   intro v ts C h;rw[C] at h;obtain⟨h1,h2⟩:=h;cases ts with
   |nil=>simp at h1
   |cons y ts=>exact(h2 0 y v rfl rfl).1
  unfold kQ at f;unfold eU;split at f
  ·rename_i hu;rw[hu];obtain⟨b,rfl⟩:=WideShapes.okWide_bool hu hval;exact one rfl h
  ·rename_i k hu;rw[hu];obtain⟨b,rfl⟩:=WideShapes.okWide_int hu hval;exact one rfl h
  ·rename_i hu;rw[hu];obtain⟨b,rfl⟩:=WideShapes.okWide_string hu hval;exact one rfl h
  ·rename_i e hu;rw[hu];obtain⟨a,l,c,rfl⟩:=WideShapes.okWide_slice hu hval;exact one rfl h
  ·rename_i fs hu;rw[hu];obtain⟨cs,rfl,_⟩:=WideShapes.okWide_struct hu hval;obtain⟨h1,h2⟩:=h;refine .agg _ _ (by simpa[Value.cells] using h1) λi t x hi hx=>(h2 i t x hi ?_).1
   simpa[Value.cells] using hx
  ·cases f
theorem c1T{d:Nat}:∀{ts:List TypeId} {vs:List Value} {f:List (DataW H)} {ps:List MemPlace} {base:Nat},(∀t ∈ ts,kQ P d t=true)->DataW.TrodAll enc P w 0 (λ_=>true) true ts vs f ps->
  (∀(j:Nat) t v,ts[j]? =some t->vs[j]? =some v->Value.okWide P w .any base t v)->pU P d ts f/\(pQ P d ts f).length=vs.length/\∀(i:Nat) (t:T) (x:Value),(pQ P d ts f)[i]? =some t->vs[i]? =some x->Rd (E0 w) w t x:=by
 intro ts;induction ts with
 |nil=>
  intro vs f ps base _ h _;obtain⟨rfl,rfl,rfl⟩:=ChangeShapes.trodAll_nil h;exact⟨trivial,rfl,λi t x hi=>by simp[pQ] at hi⟩
 |cons t ts I=>
  intro vs f ps base g h hv;obtain⟨C,V,J,u,L,Q,rfl,rfl,rfl,⟨F,o⟩,R⟩:=ChangeShapes.trodAll_cons h;obtain⟨z,q,A⟩:=I (base:=base) (λt l=>g t (by simp[l])) R λj t v l n=>hv (j+1) t v (by simpa using l) (by simpa using n)
  have e:=g t W7
  refine⟨⟨c2G d e o,z⟩,by simp[pQ,q],λi r x hi X=>?_⟩
  cases i with
  |zero=>
   simp[pQ] at hi X;subst hi;subst X;exact c6y e (hv 0 t C rfl rfl) (c3G (E:=E0 w) (λb B=>B) d e o)
  |succ i=>exact A i r x (by simpa[pQ] using hi) eL
theorem c1Q{n:Bool}{f:FuncId}{fn:Func}{s:ChangeSpec}{W:World}{base:Nat}{args:Array Value}{o Q:List (DataW H)}{B:List MemPlace}(d:Nat){tb:TypeId}
  (L:∀(j:Nat) t v,fn.params[j]? =some t->args[j]? =some v->Value.okWide P W .any base t v)
  (F:DataW.Whole enc P fn.params.toList s.vars false W args.toList o Q B) (h:s.vars=[]) (N:pU P d fn.params.toList o->s.fn H o={results:=[.lit (.bool true)],args:=o})
  (u:fn.resultTypes= #[tb]) (C:P.underlying tb=some .bool) (g:fn.params.toList.all (kQ P d)=true)
  (r:pU P d fn.params.toList o->∃ts,V3 P f ts (.bool true)/\∀vs:Array Value,tB (E0 W) W (pQ P d fn.params.toList o) vs->tB (E0 W) W ts vs):
  Calls P f args W λe W'=>∃v,e= .returned v/\s.post enc P fn false true false n W args v W':=by
 have g:=g7.1 g;have z:=F;obtain⟨p,q,R,V,rfl,Z,X⟩:=F;rw[h] at V;obtain⟨rfl,rfl⟩:=ChangeShapes.trodVars_none V;obtain⟨I,J,Y⟩:=c1T (base:=base) g R λj t v M hv=>L j t v (by simpa using M) a0G
 obtain⟨ts,l,A⟩:=r I;refine(b4s l (A args ⟨by simpa using J,λi t x hi hx=>Y i t x hi (by simpa using hx)⟩)).mono λe W' U=>?_
 obtain⟨rfl,O⟩:=U;exact⟨_,rfl,b3n (d:=d) z h (N I) u C g O⟩
theorem a60{d:Nat}{t:TypeId}{ts:List TypeId}{x:DataW H}(h:E6 P t=some ts):eU P (d+1) t x= .agg (trA P d ts (T3 x)):=by
 have:=G9 (d:=d) (x:=x) h;unfold eU;rw[this];unfold E6 at h;split at h
 ·rfl
 ·cases h
end
end Go.SS
