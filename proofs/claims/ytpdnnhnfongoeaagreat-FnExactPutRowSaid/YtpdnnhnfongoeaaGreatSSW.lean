/- A calculus of symbolic states: arguments that are given as data. -/
import Derived.Test.YtpdnnhnfongoeaaGreatSS15
import Derived.Deep.Slices
import Derived.OpenShut
import Derived.RowKit
import Derived.ChangeSame
namespace Go.SS
open Go.RowKit
def kN(P:Program):Nat->TypeId->Bool
 |0,_=>false
 |d+1,t=>match P.underlying t with
  |some .bool=>Nat.beq (P.cellsOf t) 1
  |some (.int _)=>Nat.beq (P.cellsOf t) 1
  |some .string=>Nat.beq (P.cellsOf t) 1
  |some (.slice e)=>Nat.beq (P.cellsOf t) 1&&Nat.blt 0 (P.cellsOf e)&&kN P d e
  |some (.struct fs)=>(Nat.beq (endsAt fs.toList 0) (P.cellsOf t)&&Nat.blt (P.cellsOf t) 18446744073709551616)&&fs.toList.all λf=>kN P d f.type
  |_=>false
where
 endsAt:List Field->Nat->Nat
 | [],n=>n
 |f::r,n=>match Nat.beq f.offset n with
  |true=>endsAt r (n+P.cellsOf f.type)
  |false=>18446744073709551616
def dI{H:Type}:DataW H->Int
 | .lit (.int _ n)=>n
 |_=>0
def dB{H:Type}:DataW H->Bool
 | .lit (.bool b)=>b
 |_=>false
def dS{H:Type}:DataW H->Bz
 | .lit (.string l)=>l
 |_=>[]
def T0{H:Type}:DataW H->List (DataW H)
 | .slice xs _=>xs
 |_=>[]
def U6{H:Type}:DataW H->List (DataW H)
 | .agg xs=>xs
 |_=>[]
def I0{H:Type}(xs:List (DataW H)):Nat->DataW H
 |0=>xs.headD .nil
 |k+1=>I0 xs.tail k
def trF{H:Type}(g:TypeId->DataW H->List T):List Field->List (DataW H)->List T
 | [],_=>[]
 |f::r,xs=>g f.type (xs.headD .nil)++trF g r xs.tail
def xS{H:Type}(P:Program):Nat->TypeId->DataW H->List T
 |0,_,_=>[]
 |d+1,t,x=>match P.underlying t with
  |some .bool=>[.bool (dB x)]
  |some (.int k)=>[.int k (dI x)]
  |some .string=>[.str (dS x)]
  |some (.slice e)=>match P.underlying e with
   |some (.int .u8)=>[.bys ((T0 x).map byD)]
   |_=>[.sl (P.cellsOf e) (T0 x).length λi=>xS P d e ((T0 x).getD i .nil)]
  |some (.struct fs)=>trF (xS P d) fs.toList (U6 x)
  |_=>[]
where
 byD:DataW H->UInt8
 | .lit (.int _ n)=>R1 n
 |_=>0
def b0j{H:Type}(g:TypeId->DataW H->List T):∀(fl:List Field) (xs:List (DataW H)),xs.length=fl.length->trF g fl xs=(fl.zip xs).flatMap λp=>g p.1.type p.2
 | [],_,_=>rfl
 |f::fl,[],h=>L4
 |f::fl,x::xs,h=>by
  simp only[trF,List.headD_cons,List.tail_cons,List.zip_cons_cons,List.flatMap_cons];rw[b0j g fl xs x5]
def b5f{α β:Type}{f:α->Option β}:∀{l:List α} {q:List β},l.mapM f=some q->q.length=l.length/\∀(i:Nat) (a:α) (b:β),l[i]? =some a->q[i]? =some b->f a=some b:=by
 intro l;induction l with
 |nil=>intro q h;simp at h;subst h;exact⟨rfl,λi a b A=>by simp at A⟩
 |cons x l I=>
  intro q h;simp only[List.mapM_cons,Option.bind_eq_bind,Option.bind_eq_some_iff,Option.pure_def,X0] at h;obtain⟨b,g,q',Q,rfl⟩:=h;obtain⟨j,e⟩:=I Q;refine⟨by simp[j],λi a B A d=>?_⟩
  cases i with
  |zero=>simp at A d;subst A;subst d;exact g
  |succ i=>exact e i a B (by simpa using A) (by simpa using d)
def hU{α β:Type}{f:α->Option β}:∀{l:List α} {q:List β},q.length=l.length->(∀(i:Nat) (a:α) (b:β),l[i]? =some a->q[i]? =some b->f a=some b)->l.mapM f=some q:=by
 intro l;induction l with
 |nil=>intro q h _;cases q with|nil=>rfl|cons=>simp at h
 |cons x l I=>
  intro q h F;cases q with
  |nil=>simp at h
  |cons b q=>
   have e:=F 0 x b rfl rfl;have d:=I (q:=q) x5 λi a b A B=>F (i+1) a b (by simpa using A) (by simpa using B)
   simp only[List.mapM_cons,e,d,Option.bind_eq_bind,Option.bind_some,Option.pure_def]
section
variable {H:Type} {enc:TypeId×Value->H} {P:Program} {w w':World} {base:Nat} {held:Bool}
def i5{a:Addr}{n:Nat}{cs:List Value}(h:w.cells? base a n=some cs):base<=a.block/\cs.length=n/\∀j v,cs[j]? =some v->w.cell? (a.add j)=some v:=by
 unfold World.cells? at h;split at h
 ·rename_i hb;obtain⟨h1,h2⟩:=b5f h;refine⟨hb,by simpa using h1,λj v hj=>?_⟩
  have t:j<n:=by have:=(u6.1 hj).1;simpa[h1] using this
  exact h2 j j v (by simp[t]) hj
 ·cases h
def b8k{a:Addr}{n:Nat}{cs:List Value}(B:base<=a.block)(l:cs.length=n)(h:∀j v,cs[j]? =some v->w.cell? (a.add j)=some v):w.cells? base a n=some cs:=by
 unfold World.cells?;rw[if_pos B];refine hU (by simpa using l) λi k v d hv=>?_
 have I:i=k:=by
  have t:=(u6.1 d).1
  simp at t
  simpa[t] using d
 subst I;exact h i v hv
def qR(a:Addr)(n:Nat):(a.add n).block=a.block:=by unfold Addr.add;split<;>rfl
def a8w{a:Addr}{n:Nat}{cs:List Value}(W:∀b,b<w.heap.size->w'.heap[b]? =w.heap[b]?)(h:w.cells? base a n=some cs):w'.cells? base a n=some cs:=by
 obtain⟨f,e,g⟩:=i5 h;refine b8k f e λj v J=>?_
 have d:=g j v J;have t:(a.add j).block<w.heap.size:=by
  unfold World.cell? at d;split at d
  ·rename_i B;exact(aC.1 B).1
  ·cases d
 unfold World.cell? at d ⊢;rw[W _ t];exact d
def c3g{a:Addr}{n:Nat}(h:0<n):(.cell a.block a.off:MemPlace) ∈ MemPlace.row a n:=by
 unfold MemPlace.row;exact List.mem_map.2 ⟨0,x5,rfl⟩
def a6Q{v:Nat->Bool}(W:∀b,b<w.heap.size->w'.heap[b]? =w.heap[b]?):∀(d:Nat) {fuel:Nat} {t:TypeId} {cs:List Value} {x:DataW H} {ps:List MemPlace},kN P d t=true->
  DataW.trod enc P w base (λ_=>true) held fuel t cs=some (x,ps)->(∀p ∈ ps,v p.block=true)->DataW.trod enc P w' base v held fuel t cs=some (x,ps):=by
 intro d;induction d with
 |zero=>intro fuel t cs x ps h;simp[kN] at h
 |succ d C=>
  intro fuel t cs x ps hok h q;cases fuel with
  |zero=>simp[DataW.trod] at h
  |succ fuel=>
   unfold kN at hok;split at hok
   ·rename_i hu;obtain⟨b,rfl,he⟩:=DataW.trod_bool hu h;rw[he];simp[DataW.trod,hu]
   ·rename_i k hu;obtain⟨n,rfl,he,F⟩:=DataW.trod_int hu h;rw[he];simp[DataW.trod,hu,F]
   ·rename_i hu;obtain⟨s,rfl,he,F⟩:=DataW.trod_string hu h;rw[he];simp[DataW.trod,hu,F]
   ·rename_i e hu;simp only[J5] at hok;obtain⟨⟨_,hpos⟩,hoe⟩:=hok;have hpos:0<P.cellsOf e:=yH hpos;rcases DataW.trod_slice hu h with⟨rfl,he⟩|⟨a,len,cap,elems,rest,n,hn,rfl,hx,hb,hl,hm,hlen,hel,hsp1,_⟩
    ·rw[he];simp[DataW.trod,hu]
    ·obtain rfl:fuel=n:=by omega
     obtain⟨L,u⟩:=hsp1 rfl;simp only[U4] at hx;obtain⟨hx,g⟩:=hx;have r:∀(i:Nat) (y:DataW H×List MemPlace),y ∈ elems++rest->((w.cells? base (a.add (i*P.cellsOf e)) (P.cellsOf e)).bind (DataW.trod enc P w base (λ_=>true) held fuel e))=some y->
       ((w'.cells? base (a.add (i*P.cellsOf e)) (P.cellsOf e)).bind (DataW.trod enc P w' base v held fuel e))=some y:=by
      intro i y Y h;obtain⟨M,O,J⟩:=Option.bind_eq_some_iff.1 h;rw[a8w W O];simp only[Option.bind_some];obtain⟨N,Q⟩:=y;refine C hoe J λp hp=>q p ?_
      rw[g];exact List.mem_append_right _ (List.mem_flatMap.2 ⟨_,Y,hp⟩)
     have R:∀{n i k:Nat},(List.range n)[i]? =some k->i=k/\k<n:=by
      intro n i k z;have l:=(u6.1 z).1
      simp at l;have:i=k:=by simpa[l] using z
      exact⟨this,this▸l⟩
     have B:(List.range len).mapM (λi=>(w'.cells? base (a.add (i*P.cellsOf e)) (P.cellsOf e)).bind (DataW.trod enc P w' base v held fuel e))=some elems:=
      hU (by simpa using hlen) λi k y z Y=>by
       obtain⟨rfl,l⟩:=R z;exact r i y (List.mem_append_left _ (y4 Y)) ((hel i l).trans Y)
     have o:(List.range (cap-len)).mapM (λj=>(w'.cells? base (a.add ((len+j)*P.cellsOf e)) (P.cellsOf e)).bind (DataW.trod enc P w' base v held fuel e))=some rest:=
      hU (by simpa using L) λi k y z Y=>by
       obtain⟨rfl,l⟩:=R z;exact r (len+i) y (List.mem_append_right _ (y4 Y)) ((u i l).trans Y)
     have A:v a.block=true∨cap-len=0:=by
      by_cases Z:cap-len=0
      ·exact .inr Z
      ·left
       refine q (.cell a.block a.off) ?_
       rw[g];exact List.mem_append_left _ (c3g (Nat.mul_pos Z9 hpos))
     simp only[DataW.trod,hu];rw[if_pos ⟨hb,hl,hm⟩,B];simp only[Option.bind_some];rcases A with hs|Z
     ·rw[hs];simp only[if_true,o,h9,hx,g]
     ·have hrest0:rest=[]:=List.eq_nil_of_length_eq_zero Z9
      rw[hrest0] at hx g o;cases v a.block
      ·simp only[Bool.false_eq_true,if_false,h9,hx,g]
      ·simp only[if_true,o,h9,hx,g]
   ·rename_i fs hu;simp only[J5] at hok;have hof:=b9.1 hok.2;obtain⟨xs,n,hn,hx,hl,hxl,hf⟩:=DataW.trod_struct hu h;obtain rfl:fuel=n:=by omega
    simp only[U4] at hx;obtain⟨hx,g⟩:=hx;rw[hx,g];refine ChangeShapes.trod_struct_mk hu hl (hU a9u λi f y I Y=>?_)
    obtain⟨N,Q⟩:=y;refine C (hof f (y4 I)) ((hf i f (by simpa using I)).trans Y) λp hp=>q p ?_
    rw[g];exact List.mem_flatMap.2 ⟨_,y4 Y,hp⟩
   ·cases hok
def RdC(E:Env)(w:World)(ts:List T)(cs:List Value):Prop:=ts.length=cs.length/\∀(i:Nat) (t:T) (v:Value),ts[i]? =some t->cs[i]? =some v->Rd E w t v/\W5 t=true/\H7 t=true
def a6W{E:Env}{as bs:List T}{u vs:List Value}(h:RdC E w as u)(k:RdC E w bs vs):RdC E w (as++bs) (u++vs):=by
 refine⟨by simp[h.1,k.1],λi t v hi hv=>?_⟩
 rw[List.getElem?_append] at hi hv
 rw[←h.1] at hv;split at hi
 ·rename_i d;rw[if_pos d] at hv;exact h.2 i t v hi hv
 ·rename_i d;rw[if_neg d] at hv;exact k.2 _ t v hi hv
def yI{E:Env}{t:T}{v:Value}(h:Rd E w t v)(C:W5 t=true)(o:H7 t=true):RdC E w [t] [v]:=by
 refine⟨rfl,λi d V hi hv=>?_⟩
 cases i with
 |zero=>simp at hi hv;subst hi;subst hv;exact⟨h,C,o⟩
 |succ i=>simp at hi
def aN:∀{F:List Field} {n m:Nat},kN.endsAt P F n=m->m<18446744073709551616->n<=m/\∀f r,F=f::r->f.offset=n/\kN.endsAt P r (n+P.cellsOf f.type)=m:=by
 intro F;induction F with
 |nil=>intro n m h _;simp only[kN.endsAt] at h;exact⟨Z9,λf r d=>by cases d⟩
 |cons f F ih=>
  intro n m h hm;simp only[kN.endsAt] at h;split at h
  ·rename_i hb;obtain⟨h1,_⟩:=ih h hm;refine⟨Z9,λg r hg=>?_⟩
   cases hg;exact⟨F5 hb,h⟩
  ·omega
def c3W{E:Env}(hE:∀b,b<w.heap.size->E.N b):∀(d:Nat) {fuel:Nat} {t:TypeId} {cs:List Value} {x:DataW H} {ps:List MemPlace},kN P d t=true->
  DataW.trod enc P w base (λ_=>true) held fuel t cs=some (x,ps)->RdC E w (xS P d t x) cs:=by
 intro d;induction d with
 |zero=>intro fuel t cs x ps h;simp[kN] at h
 |succ d ih=>
  intro fuel t cs x ps hok h;unfold kN at hok;unfold xS;split at hok
  ·rename_i hu;obtain⟨b,rfl,he⟩:=DataW.trod_bool hu h;simp only[U4] at he;rw[he.1];exact yI (.bool b) rfl rfl
  ·rename_i k hu;obtain⟨n,rfl,he,F⟩:=DataW.trod_int hu h;simp only[U4] at he;rw[he.1];exact yI (.int k n) rfl rfl
  ·rename_i hu;obtain⟨s,rfl,he,F⟩:=DataW.trod_string hu h;simp only[U4] at he;rw[he.1];exact yI (.str s.data.toList) rfl rfl
  ·rename_i e hu;simp only[J5] at hok;obtain⟨⟨_,hpos⟩,hoe⟩:=hok;have hpos:0<P.cellsOf e:=yH hpos;rcases DataW.trod_slice hu h with⟨rfl,he⟩|⟨a,len,cap,elems,rest,n,hn,rfl,hx,hb,hl,hm,hlen,hel,hsp1,_⟩
   ·simp only[U4] at he;rw[he.1];simp only[T0];split
    ·exact yI .bysNil rfl rfl
    ·exact yI (.slNil _ _) rfl rfl
   ·obtain rfl:fuel=n+1:=by omega
    simp only[U4] at hx;rw[hx.1];simp only[T0];have W:∀i,i<len->∃C,w.cells? base (a.add (i*P.cellsOf e)) (P.cellsOf e)=some C/\RdC E w (xS P d e ((elems.map (·.1)).getD i .nil)) C:=by
     intro i hi;have hl0:=hel i hi;have l:i<elems.length:=Z9
     rw[I1 l] at hl0
     obtain⟨C,r,O⟩:=Option.bind_eq_some_iff.1 hl0;refine⟨C,r,?_⟩
     have:=ih hoe (x:=elems[i].1) (ps:=elems[i].2) O;rw[P4,oE,I1 l]
     exact this
    by_cases hz:cap=0
    ·have hl0:len=0:=by omega
     have Q:elems=[]:=List.eq_nil_of_length_eq_zero Z9
     subst hz;subst hl0;subst Q;simp only[List.map_nil];split
     ·exact yI (.bysEmp a) rfl rfl
     ·exact yI (.slEmp _ _ a) rfl rfl
    ·have B:a.spot=none:=by
      have:∃C,w.cells? base (a.add (0*P.cellsOf e)) (P.cellsOf e)=some C:=by
       by_cases hl0:0<len
       ·obtain⟨C,r,_⟩:=W 0 hl0;exact⟨C,r⟩
       ·obtain⟨hrl,hrest⟩:=hsp1 rfl;have h0:=hrest 0 Z9
        have l:0<rest.length:=Z9
        rw[I1 l] at h0
        obtain⟨C,r,_⟩:=Option.bind_eq_some_iff.1 h0;rw[show len+0=0 by omega] at r
        exact⟨C,r⟩
      obtain⟨C,r⟩:=this;obtain⟨_,g2,z⟩:=i5 r;have l:0<C.length:=Z9
      have:=z 0 C[0] (I1 l)
      have hs:=World.cell?_spot this
      rw[Nat.zero_mul] at hs
      simpa[Addr.add] using hs
     obtain⟨b,off,spot⟩:=a;simp only at B;subst B;have u:b<w.heap.size∨len=0:=by
      by_cases hl0:0<len
      ·left
       obtain⟨C,r,_⟩:=W 0 hl0;obtain⟨_,g2,z⟩:=i5 r;have l:0<C.length:=Z9
       have I:=z 0 C[0] (I1 l)
       unfold World.cell? at I;split at I
       ·rename_i hb';have:=(aC.1 hb').1
        rw[qR,qR] at this;exact this
       ·cases I
      ·exact .inr Z9
     have u:b<w.heap.size:=by
      rcases u with h|h
      ·exact h
      ·obtain⟨hrl,hrest⟩:=hsp1 rfl;have h0:=hrest 0 Z9
       have l:0<rest.length:=Z9
       rw[I1 l] at h0
       obtain⟨C,r,_⟩:=Option.bind_eq_some_iff.1 h0;obtain⟨_,g2,z⟩:=i5 r;have l:0<C.length:=Z9
       have I:=z 0 C[0] (I1 l)
       unfold World.cell? at I;split at I
       ·rename_i hb';have:=(aC.1 hb').1
        rw[qR,qR] at this;exact this
       ·cases I
     have A:∀i j,(Addr.add (Addr.add ⟨b,off,none⟩ i) j)=⟨b,off+i+j,none⟩:=λi j=>by rw[Addr.add_lit,Addr.add_lit]
     skip
     split
     ·rename_i M;have ab:P.cellsOf e=1:=by
       cases d with
       |zero=>simp[kN] at hoe
       |succ d=>
        unfold kN at hoe;rw[M] at hoe;exact F5 hoe
      refine yI ?_ rfl rfl
      have q:((elems.map (·.1)).map xS.byD).length=len:=by simp[hlen]
      rw[←q];refine .bys _ b off cap (hE b u) (by rw[q];exact hl) λi x hx=>?_
      have hi:i<len:=by have:=(u6.1 hx).1;omega
      have hl0:=hel i hi;have l:i<elems.length:=Z9
      rw[I1 l] at hl0
      obtain⟨C,r,O⟩:=Option.bind_eq_some_iff.1 hl0;obtain⟨nn,aa,X,F⟩:=DataW.trod_int M O;obtain⟨_,_,z⟩:=i5 r;have:=z 0 (.int .u8 nn) (by rw[aa];rfl)
      rw[A,ab,Nat.mul_one,Nat.add_zero] at this;rw[this];simp only[oE,I1 l,h9,X0] at hx
      rw[←hx,X];simp only[xS.byD];have Z:R2 .u8 nn:=by
       simp only[Lit.wf] at F
       simpa[R2] using F
      rw[a2t Z]
     ·refine yI ?_ rfl rfl
      have q:(elems.map (·.1)).length=len:=by simp[hlen]
      rw[q];have J:∀i j,i<len->∀t,(xS P d e ((elems.map (·.1)).getD i .nil))[j]? =some t->∃v,w.cell? ⟨b,off+i*P.cellsOf e+j,none⟩=some v/\Rd E w t v/\W5 t=true/\H7 t=true:=by
       intro i j hi t ht;obtain⟨C,r,V,q2⟩:=W i hi;obtain⟨_,_,z⟩:=i5 r;have l:j<C.length:=by rw[←V];exact(u6.1 ht).1
       have hv:=I1 l
       refine⟨_,?_,q2 j t _ ht hv⟩
       have:=z j _ hv;rw[A] at this;exact this
      refine .sl _ _ _ b off cap (λi j=>(w.cell? ⟨b,off+i*P.cellsOf e+j,none⟩).getD undef) (hE b u) hl (λi hi=>?_) (λi t hi ht=>?_) (λi j t hi ht=>?_) (λi j t hi ht=>?_)
      ·obtain⟨C,r,V,_⟩:=W i hi;rw[V];exact(i5 r).2.1
      ·obtain⟨j,hj⟩:=List.getElem?_of_mem ht
       obtain⟨v,_,_,hc,ho⟩:=J i j hi t hj;exact⟨ho,hc⟩
      ·obtain⟨v,hv,_⟩:=J i j hi t ht;rw[hv];rfl
      ·obtain⟨v,hv,Z,_⟩:=J i j hi t ht;rw[hv];exact Z
  ·rename_i fs hu;simp only[J5] at hok;have hof:=b9.1 hok.2;have hend:=F5 hok.1.1;have hbig:=Nat.blt_eq.mp hok.1.2;obtain⟨xs,n,hn,hx,hl,hxl,hf⟩:=DataW.trod_struct hu h;simp only[U4] at hx;rw[hx.1];simp only[U6];rw[b0j _ _ _ a9u]
   have key:∀(fl:List Field) (Y:List (DataW H×List MemPlace)) (o:Nat),kN.endsAt P fl o=P.cellsOf t->Y.length=fl.length->(∀f ∈ fl,kN P d f.type=true)->
     (∀(i:Nat) (f:Field),fl[i]? =some f->DataW.trod enc P w base (λ_=>true) held n f.type ((cs.drop f.offset).take (P.cellsOf f.type))=Y[i]?)->
     RdC E w ((fl.zip (Y.map (·.1))).flatMap λp=>xS P d p.1.type p.2) (cs.drop o):=by
    intro fl;induction fl with
    |nil=>
     intro Y o he L _ _;simp only[kN.endsAt] at he;subst he;rw[List.drop_of_length_le Z9]
     exact⟨rfl,λi t v hi=>by simp at hi⟩
    |cons f fl R=>
     intro Y o he L hok hg;cases Y with
     |nil=>simp at L
     |cons y Y=>
      obtain⟨e1,e2⟩:=(aN he hbig).2 f fl rfl;have ac:=(aN e2 hbig).1;have h0:=hg 0 f rfl;obtain⟨y1,y2⟩:=y;have r0:=ih (hok f W7) h0
      rw[e1] at r0;have r1:=R Y (o+P.cellsOf f.type) e2 (by simpa using L) (λg U=>hok g (by simp[U])) (λi g hi=>by
       have:=hg (i+1) g b1d
       simpa using this)
      have:=a6W r0 r1;rw[←List.drop_drop,List.take_append_drop] at this
      simpa using this
   have:=key fs.toList xs 0 hend a9u hof (λi f hi=>hf i f b1d)
   simpa using this
  ·cases hok
def kW{H:Type}(P:Program):Nat->TypeId->DataW H->Prop
 |0,_,_=>False
 |d+1,t,x=>match P.underlying t with
  |some .bool=>∃b,x= .lit (.bool b)
  |some (.int k)=>∃n,x= .lit (.int k n)/\(Lit.int k n).wf=true
  |some .string=>∃l,x= .lit (.string l)/\l.length<=maxLen
  |some (.slice e)=>x= .nil∨∃xs sp,x= .slice xs sp/\xs.length<=maxLen/\∀y,y ∈ xs->kW P d e y
  |some (.struct fs)=>∃xs,x= .agg xs/\xs.length=fs.size/\∀(i:Nat) (f:Field) (y:DataW H),fs[i]? =some f->xs[i]? =some y->kW P d f.type y
  |_=>False
def c2T{g:Nat->Bool}:∀(d:Nat) {l:Nat} {t:TypeId} {cs:List Value} {x:DataW H} {ps:List MemPlace},kN P d t=true->DataW.trod enc P w base g held l t cs=some (x,ps)->kW P d t x:=by
 intro d;induction d with
 |zero=>intro l t cs x ps h;simp[kN] at h
 |succ d I=>
  intro l t cs x ps hok h;unfold kN at hok;unfold kW;split at hok
  ·rename_i hu;obtain⟨b,rfl,he⟩:=DataW.trod_bool hu h;simp only[U4] at he;exact⟨b,he.1⟩
  ·rename_i k hu;obtain⟨n,rfl,he,F⟩:=DataW.trod_int hu h;simp only[U4] at he;exact⟨n,he.1,F⟩
  ·rename_i hu;obtain⟨s,rfl,he,F⟩:=DataW.trod_string hu h;simp only[U4] at he;exact⟨_,he.1,by rw[Array.length_toList];exact F⟩
  ·rename_i e hu;simp only[J5] at hok;rcases DataW.trod_slice hu h with⟨rfl,he⟩|⟨a,len,cap,elems,rest,n,hn,rfl,hx,hb,hl,hm,hlen,hel,hsp1,_⟩
   ·simp only[U4] at he;exact .inl he.1
   ·simp only[U4] at hx;refine .inr ⟨_,_,hx.1,C7,λy hy=>?_⟩
    obtain⟨z,Z,rfl⟩:=List.mem_map.1 hy;obtain⟨i,hi,rfl⟩:=List.mem_iff_getElem.1 Z;have:=hel i Z9
    rw[I1 hi] at this
    obtain⟨C,o,j⟩:=Option.bind_eq_some_iff.1 this;exact I hok.2 j
  ·rename_i fs hu;simp only[J5] at hok;have hof:=b9.1 hok.2;obtain⟨xs,n,hn,hx,hl,hxl,hf⟩:=DataW.trod_struct hu h;simp only[U4] at hx;refine⟨_,hx.1,a9u,λi f y hfi hy=>?_⟩
   simp only[oE,F1] at hy
   obtain⟨z,Z,rfl⟩:=hy;exact I (hof f (by simpa using Array.mem_of_getElem? hfi)) ((hf i f hfi).trans Z)
  ·cases hok
def bX{j:Nat->Bool}{d:Nat}(W:∀b,b<w.heap.size->w'.heap[b]? =w.heap[b]?):∀{ts:List TypeId} {vs:List Value} {e:List (DataW H)} {ps:List MemPlace},(∀t ∈ ts,kN P d t=true)->
  DataW.TrodAll enc P w base (λ_=>true) held ts vs e ps->(∀p ∈ ps,j p.block=true)->DataW.TrodAll enc P w' base j held ts vs e ps:=by
 intro ts;induction ts with
 |nil=>
  intro vs e ps _ h _;cases vs<;>cases e<;>first|exact h|exact h.elim
 |cons t ts I=>
  intro vs e ps g h i;cases vs with
  |nil=>cases e<;>exact h.elim
  |cons v vs=>
   cases e with
   |nil=>exact h.elim
   |cons x e=>
    obtain⟨p,q,⟨f,hp⟩,Q,rfl⟩:=h;exact⟨p,q,⟨f,a6Q W d (g t W7) hp λz Z=>i z (List.mem_append_left _ Z)⟩,I (λt l=>g t (by simp[l])) Q λz Z=>i z (List.mem_append_right _ Z),rfl⟩
def b3p{n:Bool}{f:Func}{s:ChangeSpec}{W W':World}{args:Array Value}{l M:List (DataW H)}{B:List MemPlace}{d:Nat}{tb:TypeId}
  (F:DataW.Whole enc P f.params.toList s.vars false W args.toList l M B) (e:s.vars=[]) (N:s.fn H l={results:=[.lit (.bool true)],args:=l})
  (j:f.resultTypes= #[tb]) (v:P.underlying tb=some .bool) (A:∀t ∈ f.params.toList,kN P d t=true) (x:Below W.heap.size W W'):
  s.post enc P f false true false n W args (.bool true) W':=by
 have r:=F;obtain⟨p,q,J,V,rfl,Z,O⟩:=F;rw[e] at V;obtain⟨rfl,rfl⟩:=ChangeShapes.trodVars_none V;simp only[List.append_nil] at r Z;have o:∀z ∈ p,z.block<W.heap.size:=λz hz=>J.lt z hz
 have g:∀(b:Nat) (i:Nat->Bool) (hd:Bool),DataW.TrodAll enc P W' b i hd f.resultTypes.toList ((Value.bool true).resultList f.resultTypes.size) (s.fn H (l++[])).results []:=by
  intro b i hd;rw[List.append_nil,N,j];exact trodAll_cons_mk (shut_bool v _) ChangeShapes.trodAll_mk0
 have h:∀i:Nat->Bool,(∀z ∈ p,i z.block=true)->DataW.TrodAll enc P W' 0 i true f.params.toList args.toList (s.fn H (l++[])).args p:=by
  intro i C;rw[List.append_nil,N];exact bX x.block A J C
 have u:∀i:Nat->Bool,DataW.TrodVars enc P W' i s.vars (s.fn H (l++[])).vars []:=by
  intro i;rw[List.append_nil,N,e];rfl
 refine⟨l,[],p,[],p,[],r,g _ _ _,h _ (λz hz=>by simpa using o z hz),u _,x.frame _,λ_=>⟨?_,_,_,([]++p)++[],⟨[]++p,[],ChangeShapes.trodAll_append (h _ (λ_ _=>rfl)) (g _ _ _),u _,rfl,?_,?_⟩,?_⟩⟩
 ·exact ok_one j rfl (okWide_bool_mk v _)
 ·intro b off hp;have hp':MemPlace.cell b off ∈ p:=by simpa using hp
  have I:=Z b off hp';have L:=x.block b (o _ hp');unfold World.frozen? at I ⊢;rw[L];exact I
 ·intro Q;cases Q
 ·intro z hz _
  simpa using hz
def E0(W:World):Env:=⟨λb=>b<W.heap.size,λ_=>False,λ_=>0,λ_=>0,λ_=>(0,[]),λ_ _=>False,λ_ _ _ _=>0,λ_ _ _ _=>0⟩
def b4u{f:FuncId}{W:World}{args:Array Value}{ts:List T}(h:V4 P f ts (.bool true))(A:tC (E0 W) W ts args):Calls P f args W λe W'=>e= .returned (.bool true)/\Below W.heap.size W W':=by
 refine(h (E0 W) W args (λ_=>⟨λh=>h,λ_ h=>h⟩) (λ_ h=>h) A).mono λe W' d=>?_
 obtain⟨v,rfl,B,r⟩:=d;rw[r5 r];exact⟨rfl,B⟩
def H4(P:Program)(t:TypeId):Option (List TypeId):=match P.underlying t with
 |some (.struct fs)=>some (fs.toList.map (·.type))
 |_=>none
def pJ(P:Program)(t:TypeId):Bool:=match P.underlying t with|some (.int .i64)=>true|_=>false
def a2w(P:Program)(t:TypeId):Bool:=match P.underlying t with|some .bool=>true|_=>false
def lC(P:Program)(t:TypeId):Bool:=match P.underlying t with|some .string=>true|_=>false
def zF(P:Program)(t:TypeId):Option TypeId:=match P.underlying t with|some (.slice e)=>some e|_=>none
def pU{H:Type}(P:Program)(d:Nat):List TypeId->List (DataW H)->Prop
 | [],[]=>True
 |t::ts,x::xs=>kW P d t x/\pU P d ts xs
 |_,_=>False
def z4{d:Nat}{t:TypeId}{x:DataW H}{ts:List TypeId}(h:kW P (d+1) t x)(hu:H4 P t=some ts):∃xs,x= .agg xs/\pU P d ts xs:=by
 unfold H4 at hu;split at hu
 ·rename_i fs hf;simp only[X0] at hu;subst hu;unfold kW at h;rw[hf] at h;obtain⟨xs,rfl,hl,hx⟩:=h;refine⟨xs,rfl,?_⟩
  have key:∀(fl:List Field) (xs:List (DataW H)),xs.length=fl.length->(∀(i:Nat) (f:Field) (y:DataW H),fl[i]? =some f->xs[i]? =some y->kW P d f.type y)->pU P d (fl.map (·.type)) xs:=by
   intro fl;induction fl with
   |nil=>intro xs hl _;cases xs with|nil=>trivial|cons=>simp at hl
   |cons f fl I=>
    intro xs hl hx;cases xs with
    |nil=>simp at hl
    |cons y xs=>exact⟨hx 0 f y rfl rfl,I xs a9v λi f y hf Y=>hx (i+1) f y a4N a4J⟩
  exact key fs.toList xs a9v λi f y hf Y=>hx i f y a4N Y
 ·cases hu
def b5M{d:Nat}{t:TypeId}{x:DataW H}(h:kW P (d+1) t x)(u:pJ P t=true):∃n,x= .lit (.int .i64 n)/\ -9223372036854775808<=n/\n<=9223372036854775807:=by
 unfold pJ at u;split at u
 ·rename_i hf;unfold kW at h;rw[hf] at h;obtain⟨n,rfl,hw⟩:=h;refine⟨n,rfl,?_⟩
  simp only[Lit.wf,IntKind.min,IntKind.max,IntKind.bits,IntKind.signed,J5,o8] at hw;simp at hw;exact hw
 ·cases u
def a0B{n:Nat}(h:n<=maxLen):n<=9223372036854775807:=by unfold maxLen at h;omega
def c6r{d:Nat}{t:TypeId}{x:DataW H}(h:kW P (d+1) t x)(u:lC P t=true):∃l,x= .lit (.string l)/\l.length<=9223372036854775807:=by
 unfold lC at u;split at u
 ·rename_i f;unfold kW at h;rw[f] at h;obtain⟨l,rfl,L⟩:=h;exact⟨l,rfl,a0B L⟩
 ·cases u
def zP{d:Nat}{t e:TypeId}{x:DataW H}(h:kW P (d+1) t x)(hu:zF P t=some e):(x= .nil∨∃xs sp,x= .slice xs sp)/\(T0 x).length<=9223372036854775807/\∀y ∈ T0 x,kW P d e y:=by
 unfold zF at hu;split at hu
 ·rename_i e' hf;simp only[X0] at hu;subst hu;unfold kW at h;rw[hf] at h;rcases h with rfl|⟨xs,sp,rfl,hl,hx⟩
  ·exact⟨.inl rfl,N4 _,λy Y=>by cases Y⟩
  ·exact⟨.inr ⟨xs,sp,rfl⟩,a0B hl,hx⟩
 ·cases hu
def zR{d:Nat}{t e:TypeId}{x:DataW H}(hu:zF P t=some e)(h:(match P.underlying e with|some (.int .u8)=>true|_=>false)=false):
  xS P (d+1) t x=[.sl (P.cellsOf e) (T0 x).length λi=>xS P d e ((T0 x).getD i .nil)]:=by
 unfold zF at hu;split at hu
 ·rename_i e' hf;simp only[X0] at hu;subst hu;conv=>lhs;unfold xS
  rw[hf];simp only;split
  ·rename_i f;rw[f] at h;cases h
  ·rfl
 ·cases hu
def i3{d:Nat}{t:TypeId}{x:DataW H}(h:pJ P t=true):xS P (d+1) t x=[.int .i64 (dI x)]:=by
 unfold pJ at h;split at h
 ·rename_i hf;conv=>lhs;unfold xS
  rw[hf]
 ·cases h
def a1S{d:Nat}{t:TypeId}{x:DataW H}(h:a2w P t=true):xS P (d+1) t x=[.bool (dB x)]:=by
 unfold a2w at h;split at h
 ·rename_i hf;conv=>lhs;unfold xS
  rw[hf]
 ·cases h
def a2D{d:Nat}{t:TypeId}{x:DataW H}(h:lC P t=true):xS P (d+1) t x=[.str (dS x)]:=by
 unfold lC at h;split at h
 ·rename_i hf;conv=>lhs;unfold xS
  rw[hf]
 ·cases h
def trA{H:Type}(P:Program)(d:Nat):List TypeId->List (DataW H)->List T
 | [],_=>[]
 |t::ts,xs=>xS P d t (xs.headD .nil)++trA P d ts xs.tail
def K1{d:Nat}{t:TypeId}{ts:List TypeId}{x:DataW H}(hu:H4 P t=some ts):xS P (d+1) t x=trA P d ts (U6 x):=by
 unfold H4 at hu;split at hu
 ·rename_i fs hf;simp only[X0] at hu;subst hu;conv=>lhs;unfold xS
  rw[hf];simp only;have key:∀(fl:List Field) (xs:List (DataW H)),trF (xS P d) fl xs=trA P d (fl.map (·.type)) xs:=by
   intro fl;induction fl with
   |nil=>intro xs;rfl
   |cons f fl i=>intro xs;simp only[trF,List.map_cons,trA,i]
  exact key _ _
 ·cases hu
def w6{α β:Type}(f:α->β)(l:List α)(i:Nat){d:α}{d':β}(h:f d=d'):(l.map f).getD i d'=f (l.getD i d):=by
 subst h;simp only[P4,oE]
 cases l[i]? <;>rfl
def W6{d:Nat}{t:TypeId}{ts:List TypeId}{xs:List (DataW H)}(h:pU P d (t::ts) xs):∃x xs',xs=x::xs'/\kW P d t x/\pU P d ts xs':=by
 cases xs with
 |nil=>exact h.elim
 |cons x xs=>exact⟨x,xs,rfl,h.1,h.2⟩
def a0l{d:Nat}{xs:List (DataW H)}(h:pU P d [] xs):xs=[]:=by
 cases xs with
 |nil=>rfl
 |cons x xs=>exact h.elim
def eP{H:Type}(P:Program)(d:Nat)(t:TypeId)(x:DataW H):T:=match P.underlying t with
 |some (.struct _)=>.agg (xS P d t x)
 |_=>(xS P d t x).headD .und
def pP{H:Type}(P:Program)(d:Nat):List TypeId->List (DataW H)->List T
 |t::ts,x::xs=>eP P d t x::pP P d ts xs
 |_,_=>[]
def c6W{E:Env}{d:Nat}{t:TypeId}{x:DataW H}{v:Value}{B:Nat}(f:kN P d t=true)(hval:Value.okWide P w .any B t v)(h:RdC E w (xS P d t x) v.cells.toList):Rd E w (eP P d t x) v:=by
 cases d with
 |zero=>simp[kN] at f
 |succ d=>
  have one:∀{v:Value} {ts:List T},v.cells= #[v]->RdC E w ts v.cells.toList->Rd E w (ts.headD .und) v:=by
   intro v ts C h;rw[C] at h;obtain⟨h1,h2⟩:=h;cases ts with
   |nil=>simp at h1
   |cons y ts=>exact(h2 0 y v rfl rfl).1
  unfold kN at f;unfold eP;split at f
  ·rename_i hu;rw[hu];obtain⟨b,rfl⟩:=WideShapes.okWide_bool hu hval;exact one rfl h
  ·rename_i k hu;rw[hu];obtain⟨b,rfl⟩:=WideShapes.okWide_int hu hval;exact one rfl h
  ·rename_i hu;rw[hu];obtain⟨b,rfl⟩:=WideShapes.okWide_string hu hval;exact one rfl h
  ·rename_i e hu;rw[hu];obtain⟨a,l,c,rfl⟩:=WideShapes.okWide_slice hu hval;exact one rfl h
  ·rename_i fs hu;rw[hu];obtain⟨cs,rfl,_⟩:=WideShapes.okWide_struct hu hval;obtain⟨h1,h2⟩:=h;refine .agg _ _ (by simpa[Value.cells] using h1) λi t x hi hx=>(h2 i t x hi ?_).1
   simpa[Value.cells] using hx
  ·cases f
def c15{d:Nat}:∀{ts:List TypeId} {vs:List Value} {f:List (DataW H)} {ps:List MemPlace} {base:Nat},(∀t ∈ ts,kN P d t=true)->DataW.TrodAll enc P w 0 (λ_=>true) true ts vs f ps->
  (∀(j:Nat) t v,ts[j]? =some t->vs[j]? =some v->Value.okWide P w .any base t v)->pU P d ts f/\(pP P d ts f).length=vs.length/\∀(i:Nat) (t:T) (x:Value),(pP P d ts f)[i]? =some t->vs[i]? =some x->Rd (E0 w) w t x:=by
 intro ts;induction ts with
 |nil=>
  intro vs f ps base _ h _;obtain⟨rfl,rfl,rfl⟩:=ChangeShapes.trodAll_nil h;exact⟨trivial,rfl,λi t x hi=>by simp[pP] at hi⟩
 |cons t ts I=>
  intro vs f ps base g h hv;obtain⟨C,V,J,u,L,Q,rfl,rfl,rfl,⟨F,o⟩,R⟩:=ChangeShapes.trodAll_cons h;obtain⟨z,q,A⟩:=I (base:=base) (λt l=>g t (by simp[l])) R λj t v l n=>hv (j+1) t v (by simpa using l) (by simpa using n)
  have e:=g t W7
  refine⟨⟨c2T d e o,z⟩,by simp[pP,q],λi r x hi X=>?_⟩
  cases i with
  |zero=>
   simp[pP] at hi X;subst hi;subst X;exact c6W e (hv 0 t C rfl rfl) (c3W (E:=E0 w) (λb B=>B) d e o)
  |succ i=>exact A i r x (by simpa[pP] using hi) eF
def c11{n:Bool}{f:FuncId}{fn:Func}{s:ChangeSpec}{W:World}{base:Nat}{args:Array Value}{o Q:List (DataW H)}{B:List MemPlace}(d:Nat){tb:TypeId}
  (L:∀(j:Nat) t v,fn.params[j]? =some t->args[j]? =some v->Value.okWide P W .any base t v)
  (F:DataW.Whole enc P fn.params.toList s.vars false W args.toList o Q B) (h:s.vars=[]) (N:pU P d fn.params.toList o->s.fn H o={results:=[.lit (.bool true)],args:=o})
  (u:fn.resultTypes= #[tb]) (C:P.underlying tb=some .bool) (g:fn.params.toList.all (kN P d)=true)
  (r:pU P d fn.params.toList o->∃ts,V4 P f ts (.bool true)/\∀vs:Array Value,tC (E0 W) W (pP P d fn.params.toList o) vs->tC (E0 W) W ts vs):
  Calls P f args W λe W'=>∃v,e= .returned v/\s.post enc P fn false true false n W args v W':=by
 have g:=b9.1 g;have z:=F;obtain⟨p,q,R,V,rfl,Z,X⟩:=F;rw[h] at V;obtain⟨rfl,rfl⟩:=ChangeShapes.trodVars_none V;obtain⟨I,J,Y⟩:=c15 (base:=base) g R λj t v M hv=>L j t v (by simpa using M) a0g
 obtain⟨ts,l,A⟩:=r I;refine(b4u l (A args ⟨by simpa using J,λi t x hi hx=>Y i t x hi (by simpa using hx)⟩)).mono λe W' U=>?_
 obtain⟨rfl,O⟩:=U;exact⟨_,rfl,b3p (d:=d) z h (N I) u C g O⟩
def fC{d:Nat}{t:TypeId}{ts:List TypeId}{x:DataW H}(h:H4 P t=some ts):eP P (d+1) t x= .agg (trA P d ts (U6 x)):=by
 have:=K1 (d:=d) (x:=x) h;unfold eP;rw[this];unfold H4 at h;split at h
 ·rfl
 ·cases h
end
end Go.SS
