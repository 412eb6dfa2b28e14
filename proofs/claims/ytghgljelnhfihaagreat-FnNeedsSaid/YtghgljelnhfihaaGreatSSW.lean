/- A calculus of symbolic states: arguments that are given as data. -/
import Derived.Test.YtghgljelnhfihaaGreatSS19
import Derived.Deep.Slices
import Derived.OpenShut
import Derived.RowKit
import Derived.ChangeSame
namespace Go.SS
open Go.RowKit

def oQ(P:Program):Nat->TypeId->Bool
 |0,_=>false
 |d+1,t=>match P.underlying t with
  |some .bool=>Nat.beq (P.cellsOf t) 1
  |some (.int _)=>Nat.beq (P.cellsOf t) 1
  |some .string=>Nat.beq (P.cellsOf t) 1
  |some (.slice e)=>Nat.beq (P.cellsOf t) 1&&Nat.blt 0 (P.cellsOf e)&&oQ P d e
  |some (.struct fs)=>(Nat.beq (endsAt fs.toList 0) (P.cellsOf t)&&Nat.blt (P.cellsOf t) 18446744073709551616)&&fs.toList.all λf=>oQ P d f.type
  |_=>false
where
 endsAt:List Field->Nat->Nat
 | [],n=>n
 |f::r,n=>match Nat.beq f.offset n with
  |true=>endsAt r (n+P.cellsOf f.type)
  |false=>18446744073709551616

def dI{H:Type}:DataW H->Int
 | .lit (.int _ n)=>n
 |_=>0
def dB{H:Type}:DataW H->Bool
 | .lit (.bool b)=>b
 |_=>false
def dS{H:Type}:DataW H->List UInt8
 | .lit (.string l)=>l
 |_=>[]
def rM{H:Type}:DataW H->List (DataW H)
 | .slice xs _=>xs
 |_=>[]
def b06{H:Type}:DataW H->List (DataW H)
 | .agg xs=>xs
 |_=>[]
def trF{H:Type}(g:TypeId->DataW H->List T):List Field->List (DataW H)->List T
 | [],_=>[]
 |f::r,xs=>g f.type (xs.headD .nil)++trF g r xs.tail

def trT{H:Type}(P:Program):Nat->TypeId->DataW H->List T
 |0,_,_=>[]
 |d+1,t,x=>match P.underlying t with
  |some .bool=>[.bool (dB x)]
  |some (.int k)=>[.int k (dI x)]
  |some .string=>[.str (dS x)]
  |some (.slice e)=>match P.underlying e with
   |some (.int .u8)=>[.bys ((rM x).map byD)]
   |_=>[.sl (P.cellsOf e) (rM x).length λi=>trT P d e ((rM x).getD i .nil)]
  |some (.struct fs)=>trF (trT P d) fs.toList (b06 x)
  |_=>[]
where
 byD:DataW H->UInt8
 | .lit (.int _ n)=>P2 n
 |_=>0

theorem a6w{H:Type}(g:TypeId->DataW H->List T):∀(fl:List Field) (xs:List (DataW H)),xs.length=fl.length->trF g fl xs=(fl.zip xs).flatMap λp=>g p.1.type p.2
 | [],_,_=>rfl
 |f::fl,[],h=>by simp at h
 |f::fl,x::xs,h=>by
  simp only[trF,List.headD_cons,List.tail_cons,List.zip_cons_cons,List.flatMap_cons];rw[a6w g fl xs (by simpa using h)]

theorem b0n{α β:Type}{f:α->Option β}:∀{l:List α} {q:List β},l.mapM f=some q->q.length=l.length/\∀(i:Nat) (a:α) (b:β),l[i]? =some a->q[i]? =some b->f a=some b:=by
 intro l;induction l with
 |nil=>intro q h;simp at h;subst h;exact⟨rfl,λi a b ha=>by simp at ha⟩
 |cons x l ih=>
  intro q h;simp only[List.mapM_cons,Option.bind_eq_bind,Option.bind_eq_some_iff,Option.pure_def,W8] at h;obtain⟨b,hb,q',hq,rfl⟩:=h;obtain⟨h1,h2⟩:=ih hq;refine⟨by simp[h1],λi a b' ha hb'=> ?_⟩
  cases i with
  |zero=>simp at ha hb';subst ha;subst hb';exact hb
  |succ i=>exact h2 i a b' (by simpa using ha) (by simpa using hb')

theorem mP{α β:Type}{f:α->Option β}:∀{l:List α} {q:List β},q.length=l.length->(∀(i:Nat) (a:α) (b:β),l[i]? =some a->q[i]? =some b->f a=some b)->l.mapM f=some q:=by
 intro l;induction l with
 |nil=>intro q h _;cases q with|nil=>rfl|cons=>simp at h
 |cons x l ih=>
  intro q h hf;cases q with
  |nil=>simp at h
  |cons b q=>
   have h1:=hf 0 x b rfl rfl;have h2:=ih (q:=q) (by simpa using h) λi a b ha hb=>hf (i+1) a b (by simpa using ha) (by simpa using hb)
   simp only[List.mapM_cons,h1,h2,Option.bind_eq_bind,Option.bind_some,Option.pure_def]

section
variable {H:Type} {enc:TypeId×Value->H} {P:Program} {w w':World} {base:Nat} {held:Bool}

theorem s6{a:Addr}{n:Nat}{cs:List Value}(h:w.cells? base a n=some cs):base<=a.block/\cs.length=n/\∀j v,cs[j]? =some v->w.cell? (a.add j)=some v:=by
 unfold World.cells? at h;split at h
 ·rename_i hb;obtain⟨h1,h2⟩:=b0n h;refine⟨hb,by simpa using h1,λj v hj=> ?_⟩
  have hlt:j<n:=by have:=(z5.1 hj).1;simpa[h1] using this
  exact h2 j j v (by simp[hlt]) hj
 ·cases h

theorem b2t{a:Addr}{n:Nat}{cs:List Value}(hb:base<=a.block)(hl:cs.length=n)(h:∀j v,cs[j]? =some v->w.cell? (a.add j)=some v):w.cells? base a n=some cs:=by
 unfold World.cells?;rw[if_pos hb];refine mP (by simpa using hl) λi k v hk hv=> ?_
 have hki:i=k:=by
  have hlt:=(z5.1 hk).1
  simp at hlt
  simpa[hlt] using hk
 subst hki;exact h i v hv

theorem tN(a:Addr)(n:Nat):(a.add n).block=a.block:=by unfold Addr.add;split<;>rfl

theorem a5h{a:Addr}{n:Nat}{cs:List Value}(hw:∀b,b<w.heap.size->w'.heap[b]? =w.heap[b]?)(h:w.cells? base a n=some cs):w'.cells? base a n=some cs:=by
 obtain⟨h1,h2,h3⟩:=s6 h;refine b2t h1 h2 λj v hj=> ?_
 have h4:=h3 j v hj;have hlt:(a.add j).block<w.heap.size:=by
  unfold World.cell? at h4;split at h4
  ·rename_i hb;exact(j_p.1 hb).1
  ·cases h4
 unfold World.cell? at h4 ⊢;rw[hw _ hlt];exact h4

theorem b6a{a:Addr}{n:Nat}(h:0<n):(.cell a.block a.off:MemPlace) ∈ MemPlace.row a n:=by
 unfold MemPlace.row;exact List.mem_map.2 ⟨0,by simpa using h,rfl⟩

theorem a3U{sp:Nat->Bool}(hw:∀b,b<w.heap.size->w'.heap[b]? =w.heap[b]?):∀(d:Nat) {fuel:Nat} {t:TypeId} {cs:List Value} {x:DataW H} {ps:List MemPlace},oQ P d t=true->
  DataW.trod enc P w base (λ_=>true) held fuel t cs=some (x,ps)->(∀p ∈ ps,sp p.block=true)->DataW.trod enc P w' base sp held fuel t cs=some (x,ps):=by
 intro d;induction d with
 |zero=>intro fuel t cs x ps h;simp[oQ] at h
 |succ d ih=>
  intro fuel t cs x ps hok h hsp;cases fuel with
  |zero=>simp[DataW.trod] at h
  |succ fuel=>
   unfold oQ at hok;split at hok
   ·rename_i hu;obtain⟨b,rfl,he⟩:=DataW.trod_bool hu h;rw[he];simp[DataW.trod,hu]
   ·rename_i k hu;obtain⟨n,rfl,he,hwf⟩:=DataW.trod_int hu h;rw[he];simp[DataW.trod,hu,hwf]
   ·rename_i hu;obtain⟨s,rfl,he,hwf⟩:=DataW.trod_string hu h;rw[he];simp[DataW.trod,hu,hwf]
   ·rename_i e hu;simp only[L3] at hok;obtain⟨⟨_,hpos⟩,hoe⟩:=hok;have hpos:0<P.cellsOf e:=v6 hpos;rcases DataW.trod_slice hu h with⟨rfl,he⟩|⟨a,len,cap,elems,rest,n,hn,rfl,hx,hb,hl,hm,hlen,hel,hsp1,_⟩
    ·rw[he];simp[DataW.trod,hu]
    ·obtain rfl:fuel=n:=by omega
     obtain⟨hrl,hrest⟩:=hsp1 rfl;simp only[T5] at hx;obtain⟨hx,hps⟩:=hx;have inner:∀(i:Nat) (y:DataW H×List MemPlace),y ∈ elems++rest->((w.cells? base (a.add (i*P.cellsOf e)) (P.cellsOf e)).bind (DataW.trod enc P w base (λ_=>true) held fuel e))=some y->
       ((w'.cells? base (a.add (i*P.cellsOf e)) (P.cellsOf e)).bind (DataW.trod enc P w' base sp held fuel e))=some y:=by
      intro i y hy h;obtain⟨cs',h1,h2⟩:=Option.bind_eq_some_iff.1 h;rw[a5h hw h1];simp only[Option.bind_some];obtain⟨y1,y2⟩:=y;refine ih hoe h2 λp hp=>hsp p ?_
      rw[hps];exact List.mem_append_right _ (List.mem_flatMap.2 ⟨_,hy,hp⟩)
     have rng:∀{n i k:Nat},(List.range n)[i]? =some k->i=k/\k<n:=by
      intro n i k hk;have hlt:=(z5.1 hk).1
      simp at hlt;have:i=k:=by simpa[hlt] using hk
      exact⟨this,this▸hlt⟩
     have he':(List.range len).mapM (λi=>(w'.cells? base (a.add (i*P.cellsOf e)) (P.cellsOf e)).bind (DataW.trod enc P w' base sp held fuel e))=some elems:=
      mP (by simpa using hlen) λi k y hk hy=>by
       obtain⟨rfl,hlt⟩:=rng hk;exact inner i y (List.mem_append_left _ (B5 hy)) ((hel i hlt).trans hy)
     have hr':(List.range (cap-len)).mapM (λj=>(w'.cells? base (a.add ((len+j)*P.cellsOf e)) (P.cellsOf e)).bind (DataW.trod enc P w' base sp held fuel e))=some rest:=
      mP (by simpa using hrl) λi k y hk hy=>by
       obtain⟨rfl,hlt⟩:=rng hk;exact inner (len+i) y (List.mem_append_right _ (B5 hy)) ((hrest i hlt).trans hy)
     have hspa:sp a.block=true∨cap-len=0:=by
      by_cases hz:cap-len=0
      ·exact .inr hz
      ·left
       refine hsp (.cell a.block a.off) ?_
       rw[hps];exact List.mem_append_left _ (b6a (Nat.mul_pos (by omega) hpos))
     simp only[DataW.trod,hu];rw[if_pos ⟨hb,hl,hm⟩,he'];simp only[Option.bind_some];rcases hspa with hs|hz
     ·rw[hs];simp only[if_true,hr',j8,hx,hps]
     ·have hrest0:rest=[]:=List.eq_nil_of_length_eq_zero (by omega)
      rw[hrest0] at hx hps hr';cases sp a.block
      ·simp only[Bool.false_eq_true,if_false,j8,hx,hps]
      ·simp only[if_true,hr',j8,hx,hps]
   ·rename_i fs hu;simp only[L3] at hok;have hof:=i5.1 hok.2;obtain⟨xs,n,hn,hx,hl,hxl,hf⟩:=DataW.trod_struct hu h;obtain rfl:fuel=n:=by omega
    simp only[T5] at hx;obtain⟨hx,hps⟩:=hx;rw[hx,hps];refine ChangeShapes.trod_struct_mk hu hl (mP (by simpa using hxl) λi f y hfi hy=> ?_)
    obtain⟨y1,y2⟩:=y;refine ih (hof f (B5 hfi)) ((hf i f (by simpa using hfi)).trans hy) λp hp=>hsp p ?_
    rw[hps];exact List.mem_flatMap.2 ⟨_,B5 hy,hp⟩
   ·cases hok

def RdC(E:Env)(w:World)(ts:List T)(cs:List Value):Prop:=ts.length=cs.length/\∀(i:Nat) (t:T) (v:Value),ts[i]? =some t->cs[i]? =some v->Rd E w t v/\W5 t=true/\J7 t=true

theorem a3X{E:Env}{as bs:List T}{us vs:List Value}(h:RdC E w as us)(k:RdC E w bs vs):RdC E w (as++bs) (us++vs):=by
 refine⟨by simp[h.1,k.1],λi t v hi hv=> ?_⟩
 rw[List.getElem?_append] at hi hv
 rw[←h.1] at hv;split at hi
 ·rename_i hlt;rw[if_pos hlt] at hv;exact h.2 i t v hi hv
 ·rename_i hlt;rw[if_neg hlt] at hv;exact k.2 _ t v hi hv

theorem f9{E:Env}{t:T}{v:Value}(h:Rd E w t v)(hc:W5 t=true)(ho:J7 t=true):RdC E w [t] [v]:=by
 refine⟨rfl,λi t' v' hi hv=> ?_⟩
 cases i with
 |zero=>simp at hi hv;subst hi;subst hv;exact⟨h,hc,ho⟩
 |succ i=>simp at hi

theorem gA:∀{fs:List Field} {n m:Nat},oQ.endsAt P fs n=m->m<18446744073709551616->n<=m/\∀f r,fs=f::r->f.offset=n/\oQ.endsAt P r (n+P.cellsOf f.type)=m:=by
 intro fs;induction fs with
 |nil=>intro n m h _;simp only[oQ.endsAt] at h;exact⟨by omega,λf r hf=>by cases hf⟩
 |cons f fs ih=>
  intro n m h hm;simp only[oQ.endsAt] at h;split at h
  ·rename_i hb;obtain⟨h1,_⟩:=ih h hm;refine⟨by omega,λg r hg=> ?_⟩
   cases hg;exact⟨G3 hb,h⟩
  ·omega

theorem b6C{E:Env}(hE:∀b,b<w.heap.size->E.N b):∀(d:Nat) {fuel:Nat} {t:TypeId} {cs:List Value} {x:DataW H} {ps:List MemPlace},oQ P d t=true->
  DataW.trod enc P w base (λ_=>true) held fuel t cs=some (x,ps)->RdC E w (trT P d t x) cs:=by
 intro d;induction d with
 |zero=>intro fuel t cs x ps h;simp[oQ] at h
 |succ d ih=>
  intro fuel t cs x ps hok h;unfold oQ at hok;unfold trT;split at hok
  ·rename_i hu;obtain⟨b,rfl,he⟩:=DataW.trod_bool hu h;simp only[T5] at he;rw[he.1];exact f9 (.bool b) rfl rfl
  ·rename_i k hu;obtain⟨n,rfl,he,hwf⟩:=DataW.trod_int hu h;simp only[T5] at he;rw[he.1];exact f9 (.int k n) rfl rfl
  ·rename_i hu;obtain⟨s,rfl,he,hwf⟩:=DataW.trod_string hu h;simp only[T5] at he;rw[he.1];exact f9 (.str s.data.toList) rfl rfl
  ·rename_i e hu;simp only[L3] at hok;obtain⟨⟨_,hpos⟩,hoe⟩:=hok;have hpos:0<P.cellsOf e:=v6 hpos;rcases DataW.trod_slice hu h with⟨rfl,he⟩|⟨a,len,cap,elems,rest,n,hn,rfl,hx,hb,hl,hm,hlen,hel,hsp1,_⟩
   ·simp only[T5] at he;rw[he.1];simp only[rM];split
    ·exact f9 .bysNil rfl rfl
    ·exact f9 (.slNil _ _) rfl rfl
   ·obtain rfl:fuel=n+1:=by omega
    simp only[T5] at hx;rw[hx.1];simp only[rM];have hrow:∀i,i<len->∃cs',w.cells? base (a.add (i*P.cellsOf e)) (P.cellsOf e)=some cs'/\RdC E w (trT P d e ((elems.map (·.1)).getD i .nil)) cs':=by
     intro i hi;have hl0:=hel i hi;have hlt:i<elems.length:=by omega
     rw[K7 hlt] at hl0
     obtain⟨cs',h1,h2⟩:=Option.bind_eq_some_iff.1 hl0;refine⟨cs',h1,?_⟩
     have:=ih hoe (x:=elems[i].1) (ps:=elems[i].2) h2;rw[P8,pN,K7 hlt]
     exact this
    by_cases hz:cap=0
    ·have hl0:len=0:=by omega
     have he0:elems=[]:=List.eq_nil_of_length_eq_zero (by omega)
     subst hz;subst hl0;subst he0;simp only[List.map_nil];split
     ·exact f9 (.bysEmp a) rfl rfl
     ·exact f9 (.slEmp _ _ a) rfl rfl
    ·have hsp0:a.spot=none:=by
      have:∃cs',w.cells? base (a.add (0*P.cellsOf e)) (P.cellsOf e)=some cs':=by
       by_cases hl0:0<len
       ·obtain⟨cs',h1,_⟩:=hrow 0 hl0;exact⟨cs',h1⟩
       ·obtain⟨hrl,hrest⟩:=hsp1 rfl;have h0:=hrest 0 (by omega)
        have hlt:0<rest.length:=by omega
        rw[K7 hlt] at h0
        obtain⟨cs',h1,_⟩:=Option.bind_eq_some_iff.1 h0;rw[show len+0=0 by omega] at h1
        exact⟨cs',h1⟩
      obtain⟨cs',h1⟩:=this;obtain⟨_,g2,g3⟩:=s6 h1;have hlt:0<cs'.length:=by omega
      have:=g3 0 cs'[0] (K7 hlt)
      have hs:=World.cell?_spot this
      rw[Nat.zero_mul] at hs
      simpa[Addr.add] using hs
     obtain⟨b,off,spot⟩:=a;simp only at hsp0;subst hsp0;have hblt:b<w.heap.size∨len=0:=by
      by_cases hl0:0<len
      ·left
       obtain⟨cs',h1,_⟩:=hrow 0 hl0;obtain⟨_,g2,g3⟩:=s6 h1;have hlt:0<cs'.length:=by omega
       have h4:=g3 0 cs'[0] (K7 hlt)
       unfold World.cell? at h4;split at h4
       ·rename_i hb';have:=(j_p.1 hb').1
        rw[tN,tN] at this;exact this
       ·cases h4
      ·exact .inr (by omega)
     have hblt:b<w.heap.size:=by
      rcases hblt with h|h
      ·exact h
      ·obtain⟨hrl,hrest⟩:=hsp1 rfl;have h0:=hrest 0 (by omega)
       have hlt:0<rest.length:=by omega
       rw[K7 hlt] at h0
       obtain⟨cs',h1,_⟩:=Option.bind_eq_some_iff.1 h0;obtain⟨_,g2,g3⟩:=s6 h1;have hlt:0<cs'.length:=by omega
       have h4:=g3 0 cs'[0] (K7 hlt)
       unfold World.cell? at h4;split at h4
       ·rename_i hb';have:=(j_p.1 hb').1
        rw[tN,tN] at this;exact this
       ·cases h4
     have hadd:∀i j,(Addr.add (Addr.add ⟨b,off,none⟩ i) j)=⟨b,off+i+j,none⟩:=λi j=>by rw[Addr.add_lit,Addr.add_lit]
     skip
     split
     ·rename_i hu8;have hc1:P.cellsOf e=1:=by
       cases d with
       |zero=>simp[oQ] at hoe
       |succ d=>
        unfold oQ at hoe;rw[hu8] at hoe;exact G3 hoe
      refine f9 ?_ rfl rfl
      have hlen':((elems.map (·.1)).map trT.byD).length=len:=by simp[hlen]
      rw[←hlen'];refine .bys _ b off cap (hE b hblt) (by rw[hlen'];exact hl) λi x hx=> ?_
      have hi:i<len:=by have:=(z5.1 hx).1;omega
      have hl0:=hel i hi;have hlt:i<elems.length:=by omega
      rw[K7 hlt] at hl0
      obtain⟨cs',h1,h2⟩:=Option.bind_eq_some_iff.1 hl0;obtain⟨nn,hcs,hxx,hwf⟩:=DataW.trod_int hu8 h2;obtain⟨_,_,g3⟩:=s6 h1;have:=g3 0 (.int .u8 nn) (by rw[hcs];rfl)
      rw[hadd,hc1,Nat.mul_one,Nat.add_zero] at this;rw[this];simp only[pN,K7 hlt,j8,W8] at hx
      rw[←hx,hxx];simp only[trT.byD];have hr:W7 .u8 nn:=by
       simp only[Lit.wf] at hwf
       simpa[W7] using hwf
      rw[a0i hr]
     ·refine f9 ?_ rfl rfl
      have hlen':(elems.map (·.1)).length=len:=by simp[hlen]
      rw[hlen'];have hu':∀i j,i<len->∀t,(trT P d e ((elems.map (·.1)).getD i .nil))[j]? =some t->∃v,w.cell? ⟨b,off+i*P.cellsOf e+j,none⟩=some v/\Rd E w t v/\W5 t=true/\J7 t=true:=by
       intro i j hi t ht;obtain⟨cs',h1,q1,q2⟩:=hrow i hi;obtain⟨_,_,g3⟩:=s6 h1;have hlt:j<cs'.length:=by rw[←q1];exact(z5.1 ht).1
       have hv:=K7 hlt
       refine⟨_,?_,q2 j t _ ht hv⟩
       have:=g3 j _ hv;rw[hadd] at this;exact this
      refine .sl _ _ _ b off cap (λi j=>(w.cell? ⟨b,off+i*P.cellsOf e+j,none⟩).getD undef) (hE b hblt) hl (λi hi=> ?_) (λi t hi ht=> ?_) (λi j t hi ht=> ?_) (λi j t hi ht=> ?_)
      ·obtain⟨cs',h1,q1,_⟩:=hrow i hi;rw[q1];exact(s6 h1).2.1
      ·obtain⟨j,hj⟩:=List.getElem?_of_mem ht
       obtain⟨v,_,_,hc,ho⟩:=hu' i j hi t hj;exact⟨ho,hc⟩
      ·obtain⟨v,hv,_⟩:=hu' i j hi t ht;rw[hv];rfl
      ·obtain⟨v,hv,hr,_⟩:=hu' i j hi t ht;rw[hv];exact hr
  ·rename_i fs hu;simp only[L3] at hok;have hof:=i5.1 hok.2;have hend:=G3 hok.1.1;have hbig:=Nat.blt_eq.mp hok.1.2;obtain⟨xs,n,hn,hx,hl,hxl,hf⟩:=DataW.trod_struct hu h;simp only[T5] at hx;rw[hx.1];simp only[b06];rw[a6w _ _ _ (by simpa using hxl)]
   have key:∀(fl:List Field) (ys:List (DataW H×List MemPlace)) (o:Nat),oQ.endsAt P fl o=P.cellsOf t->ys.length=fl.length->(∀f ∈ fl,oQ P d f.type=true)->
     (∀(i:Nat) (f:Field),fl[i]? =some f->DataW.trod enc P w base (λ_=>true) held n f.type ((cs.drop f.offset).take (P.cellsOf f.type))=ys[i]?)->
     RdC E w ((fl.zip (ys.map (·.1))).flatMap λp=>trT P d p.1.type p.2) (cs.drop o):=by
    intro fl;induction fl with
    |nil=>
     intro ys o he hyl _ _;simp only[oQ.endsAt] at he;subst he;rw[List.drop_of_length_le (by omega)]
     exact⟨rfl,λi t v hi=>by simp at hi⟩
    |cons f fl ihf=>
     intro ys o he hyl hok hg;cases ys with
     |nil=>simp at hyl
     |cons y ys=>
      obtain⟨e1,e2⟩:=(gA he hbig).2 f fl rfl;have hle:=(gA e2 hbig).1;have h0:=hg 0 f rfl;obtain⟨y1,y2⟩:=y;have r0:=ih (hok f (by simp)) h0
      rw[e1] at r0;have r1:=ihf ys (o+P.cellsOf f.type) e2 (by simpa using hyl) (λg hg'=>hok g (by simp[hg'])) (λi g hi=>by
       have:=hg (i+1) g (by simpa using hi)
       simpa using this)
      have:=a3X r0 r1;rw[←List.drop_drop,List.take_append_drop] at this
      simpa using this
   have:=key fs.toList xs 0 hend (by simpa using hxl) hof (λi f hi=>hf i f (by simpa using hi))
   simpa using this
  ·cases hok


def wfD{H:Type}(P:Program):Nat->TypeId->DataW H->Prop
 |0,_,_=>False
 |d+1,t,x=>match P.underlying t with
  |some .bool=>∃b,x= .lit (.bool b)
  |some (.int k)=>∃n,x= .lit (.int k n)/\(Lit.int k n).wf=true
  |some .string=>∃l,x= .lit (.string l)/\l.length<=maxLen
  |some (.slice e)=>x= .nil∨∃xs sp,x= .slice xs sp/\xs.length<=maxLen/\∀y,y ∈ xs->wfD P d e y
  |some (.struct fs)=>∃xs,x= .agg xs/\xs.length=fs.size/\∀(i:Nat) (f:Field) (y:DataW H),fs[i]? =some f->xs[i]? =some y->wfD P d f.type y
  |_=>False

theorem b5V{sp:Nat->Bool}:∀(d:Nat) {fuel:Nat} {t:TypeId} {cs:List Value} {x:DataW H} {ps:List MemPlace},oQ P d t=true->DataW.trod enc P w base sp held fuel t cs=some (x,ps)->wfD P d t x:=by
 intro d;induction d with
 |zero=>intro fuel t cs x ps h;simp[oQ] at h
 |succ d ih=>
  intro fuel t cs x ps hok h;unfold oQ at hok;unfold wfD;split at hok
  ·rename_i hu;obtain⟨b,rfl,he⟩:=DataW.trod_bool hu h;simp only[T5] at he;exact⟨b,he.1⟩
  ·rename_i k hu;obtain⟨n,rfl,he,hwf⟩:=DataW.trod_int hu h;simp only[T5] at he;exact⟨n,he.1,hwf⟩
  ·rename_i hu;obtain⟨s,rfl,he,hwf⟩:=DataW.trod_string hu h;simp only[T5] at he;exact⟨_,he.1,by rw[Array.length_toList];exact hwf⟩
  ·rename_i e hu;simp only[L3] at hok;rcases DataW.trod_slice hu h with⟨rfl,he⟩|⟨a,len,cap,elems,rest,n,hn,rfl,hx,hb,hl,hm,hlen,hel,hsp1,_⟩
   ·simp only[T5] at he;exact .inl he.1
   ·simp only[T5] at hx;refine .inr ⟨_,_,hx.1,by simp;omega,λy hy=> ?_⟩
    obtain⟨z,hz,rfl⟩:=List.mem_map.1 hy;obtain⟨i,hi,rfl⟩:=List.mem_iff_getElem.1 hz;have:=hel i (by omega)
    rw[K7 hi] at this
    obtain⟨cs',h1,h2⟩:=Option.bind_eq_some_iff.1 this;exact ih hok.2 h2
  ·rename_i fs hu;simp only[L3] at hok;have hof:=i5.1 hok.2;obtain⟨xs,n,hn,hx,hl,hxl,hf⟩:=DataW.trod_struct hu h;simp only[T5] at hx;refine⟨_,hx.1,by simpa using hxl,λi f y hfi hy=> ?_⟩
   simp only[pN,I3] at hy
   obtain⟨z,hz,rfl⟩:=hy;exact ih (hof f (by simpa using Array.mem_of_getElem? hfi)) ((hf i f hfi).trans hz)
  ·cases hok

theorem iJ{sp:Nat->Bool}{d:Nat}(hw:∀b,b<w.heap.size->w'.heap[b]? =w.heap[b]?):∀{ts:List TypeId} {vs:List Value} {ds:List (DataW H)} {ps:List MemPlace},(∀t ∈ ts,oQ P d t=true)->
  DataW.TrodAll enc P w base (λ_=>true) held ts vs ds ps->(∀p ∈ ps,sp p.block=true)->DataW.TrodAll enc P w' base sp held ts vs ds ps:=by
 intro ts;induction ts with
 |nil=>
  intro vs ds ps _ h _;cases vs<;>cases ds<;>first|exact h|exact h.elim
 |cons t ts ih=>
  intro vs ds ps hok h hsp;cases vs with
  |nil=>cases ds<;>exact h.elim
  |cons v vs=>
   cases ds with
   |nil=>exact h.elim
   |cons x ds=>
    obtain⟨p,q,⟨fuel,hp⟩,hq,rfl⟩:=h;exact⟨p,q,⟨fuel,a3U hw d (hok t (by simp)) hp λz hz=>hsp z (List.mem_append_left _ hz)⟩,ih (λt ht=>hok t (by simp[ht])) hq λz hz=>hsp z (List.mem_append_right _ hz),rfl⟩

theorem a8Z{again:Bool}{f:Func}{s:ChangeSpec}{W W':World}{args:Array Value}{ds gs:List (DataW H)}{before:List MemPlace}{d:Nat}{tb:TypeId}
  (hW:DataW.Whole enc P f.params.toList s.vars false W args.toList ds gs before) (hvars:s.vars=[]) (hfn:s.fn H ds={results:=[.lit (.bool true)],args:=ds})
  (hres:f.resultTypes= #[tb]) (htb:P.underlying tb=some .bool) (hok:∀t ∈ f.params.toList,oQ P d t=true) (hb:Below W.heap.size W W'):
  s.post enc P f false true false again W args (.bool true) W':=by
 have hW':=hW;obtain⟨p,q,hA,hV,rfl,hfz,hnd⟩:=hW;rw[hvars] at hV;obtain⟨rfl,rfl⟩:=ChangeShapes.trodVars_none hV;simp only[List.append_nil] at hW' hfz;have hlt:∀z ∈ p,z.block<W.heap.size:=λz hz=>hA.lt z hz
 have hres':∀(b:Nat) (sp:Nat->Bool) (hd:Bool),DataW.TrodAll enc P W' b sp hd f.resultTypes.toList ((Value.bool true).resultList f.resultTypes.size) (s.fn H (ds++[])).results []:=by
  intro b sp hd;rw[List.append_nil,hfn,hres];exact trodAll_cons_mk (shut_bool htb _) ChangeShapes.trodAll_mk0
 have hargs:∀sp:Nat->Bool,(∀z ∈ p,sp z.block=true)->DataW.TrodAll enc P W' 0 sp true f.params.toList args.toList (s.fn H (ds++[])).args p:=by
  intro sp hsp;rw[List.append_nil,hfn];exact iJ hb.block hok hA hsp
 have hvs:∀sp:Nat->Bool,DataW.TrodVars enc P W' sp s.vars (s.fn H (ds++[])).vars []:=by
  intro sp;rw[List.append_nil,hfn,hvars];rfl
 refine⟨ds,[],p,[],p,[],hW',hres' _ _ _,hargs _ (λz hz=>by simpa using hlt z hz),hvs _,hb.frame _,λ_=>⟨?_,_,_,([]++p)++[],⟨[]++p,[],ChangeShapes.trodAll_append (hargs _ (λ_ _=>rfl)) (hres' _ _ _),hvs _,rfl,?_,?_⟩,?_⟩⟩
 ·exact ok_one hres rfl (okWide_bool_mk htb _)
 ·intro b off hp;have hp':MemPlace.cell b off ∈ p:=by simpa using hp
  have h1:=hfz b off hp';have h2:=hb.block b (hlt _ hp');unfold World.frozen? at h1 ⊢;rw[h2];exact h1
 ·intro ha;cases ha
 ·intro z hz _
  simpa using hz

def E0(W:World):Env:=⟨λb=>b<W.heap.size,λ_=>False,λ_=>0,λ_=>0,λ_=>(0,[]),λ_ _=>False,λ_ _ _ _=>0,λ_ _ _ _=>0⟩

theorem a9I{f:FuncId}{W:World}{args:Array Value}{ts:List T}(h:U1 P f ts (.bool true))(ha:vB (E0 W) W ts args):Calls P f args W λe W'=>e= .returned (.bool true)/\Below W.heap.size W W':=by
 refine(h (E0 W) W args (λ_=>⟨λh=>h,λ_ h=>h⟩) (λ_ h=>h) ha).mono λe W' hh=> ?_
 obtain⟨v,rfl,hb,hr⟩:=hh;rw[z9 hr];exact⟨rfl,hb⟩


def oC{H:Type}(P:Program)(d:Nat):List TypeId->List (DataW H)->Prop
 | [],[]=>True
 |t::ts,x::xs=>wfD P d t x/\oC P d ts xs
 |_,_=>False

theorem lY{d:Nat}{t:TypeId}{ts:List TypeId}{xs:List (DataW H)}(h:oC P d (t::ts) xs):∃x xs',xs=x::xs'/\wfD P d t x/\oC P d ts xs':=by
 cases xs with
 |nil=>exact h.elim
 |cons x xs=>exact⟨x,xs,rfl,h.1,h.2⟩
theorem fD{d:Nat}{xs:List (DataW H)}(h:oC P d [] xs):xs=[]:=by
 cases xs with
 |nil=>rfl
 |cons x xs=>exact h.elim

def a8E{H:Type}(P:Program)(d:Nat)(t:TypeId)(x:DataW H):T:=match P.underlying t with
 |some (.struct _)=>.agg (trT P d t x)
 |_=>(trT P d t x).headD .und
def sT{H:Type}(P:Program)(d:Nat):List TypeId->List (DataW H)->List T
 |t::ts,x::xs=>a8E P d t x::sT P d ts xs
 |_,_=>[]
theorem b8U{E:Env}{d:Nat}{t:TypeId}{x:DataW H}{v:Value}{b0:Nat}(hok:oQ P d t=true)(hval:Value.okWide P w .any b0 t v)(h:RdC E w (trT P d t x) v.cells.toList):Rd E w (a8E P d t x) v:=by
 cases d with
 |zero=>simp[oQ] at hok
 |succ d=>
  have one:∀{v:Value} {ts:List T},v.cells= #[v]->RdC E w ts v.cells.toList->Rd E w (ts.headD .und) v:=by
   intro v ts hc h;rw[hc] at h;obtain⟨h1,h2⟩:=h;cases ts with
   |nil=>simp at h1
   |cons y ts=>exact(h2 0 y v rfl rfl).1
  unfold oQ at hok;unfold a8E;split at hok
  ·rename_i hu;rw[hu];obtain⟨b,rfl⟩:=WideShapes.okWide_bool hu hval;exact one rfl h
  ·rename_i k hu;rw[hu];obtain⟨b,rfl⟩:=WideShapes.okWide_int hu hval;exact one rfl h
  ·rename_i hu;rw[hu];obtain⟨b,rfl⟩:=WideShapes.okWide_string hu hval;exact one rfl h
  ·rename_i e hu;rw[hu];obtain⟨a,l,c,rfl⟩:=WideShapes.okWide_slice hu hval;exact one rfl h
  ·rename_i fs hu;rw[hu];obtain⟨cs,rfl,_⟩:=WideShapes.okWide_struct hu hval;obtain⟨h1,h2⟩:=h;refine .agg _ _ (by simpa[Value.cells] using h1) λi t x hi hx=>(h2 i t x hi ?_).1
   simpa[Value.cells] using hx
  ·cases hok
theorem b5i{d:Nat}:∀{ts:List TypeId} {vs:List Value} {ds:List (DataW H)} {ps:List MemPlace} {base:Nat},(∀t ∈ ts,oQ P d t=true)->DataW.TrodAll enc P w 0 (λ_=>true) true ts vs ds ps->
  (∀(j:Nat) t v,ts[j]? =some t->vs[j]? =some v->Value.okWide P w .any base t v)->oC P d ts ds/\(sT P d ts ds).length=vs.length/\∀(i:Nat) (t:T) (x:Value),(sT P d ts ds)[i]? =some t->vs[i]? =some x->Rd (E0 w) w t x:=by
 intro ts;induction ts with
 |nil=>
  intro vs ds ps base _ h _;obtain⟨rfl,rfl,rfl⟩:=ChangeShapes.trodAll_nil h;exact⟨trivial,rfl,λi t x hi=>by simp[sT] at hi⟩
 |cons t ts ih=>
  intro vs ds ps base hok h hv;obtain⟨v0,vs0,d0,ds0,p0,q0,rfl,rfl,rfl,⟨fuel,h0⟩,r0⟩:=ChangeShapes.trodAll_cons h;obtain⟨h1,h2,h3⟩:=ih (base:=base) (λt ht=>hok t (by simp[ht])) r0 λj t v ht hv'=>hv (j+1) t v (by simpa using ht) (by simpa using hv')
  have hot:=hok t (by simp)
  refine⟨⟨b5V d hot h0,h1⟩,by simp[sT,h2],λi t' x hi hx=> ?_⟩
  cases i with
  |zero=>
   simp[sT] at hi hx;subst hi;subst hx;exact b8U hot (hv 0 t v0 rfl rfl) (b6C (E:=E0 w) (λb hb=>hb) d hot h0)
  |succ i=>exact h3 i t' x (by simpa[sT] using hi) (by simpa using hx)

theorem b5d{again:Bool}{f:FuncId}{fn:Func}{s:ChangeSpec}{W:World}{base:Nat}{args:Array Value}{ds gs:List (DataW H)}{before:List MemPlace}(d:Nat){tb:TypeId}
  (hval:∀(j:Nat) t v,fn.params[j]? =some t->args[j]? =some v->Value.okWide P W .any base t v)
  (hW:DataW.Whole enc P fn.params.toList s.vars false W args.toList ds gs before) (hvars:s.vars=[]) (hfn:oC P d fn.params.toList ds->s.fn H ds={results:=[.lit (.bool true)],args:=ds})
  (hres:fn.resultTypes= #[tb]) (htb:P.underlying tb=some .bool) (hok:fn.params.toList.all (oQ P d)=true)
  (walk:oC P d fn.params.toList ds->∃ts,U1 P f ts (.bool true)/\∀vs:Array Value,vB (E0 W) W (sT P d fn.params.toList ds) vs->vB (E0 W) W ts vs):
  Calls P f args W λe W'=>∃v,e= .returned v/\s.post enc P fn false true false again W args v W':=by
 have hok:=i5.1 hok;have hW':=hW;obtain⟨p,q,hA,hV,rfl,hfz,hnd⟩:=hW;rw[hvars] at hV;obtain⟨rfl,rfl⟩:=ChangeShapes.trodVars_none hV;obtain⟨h1,h2,h3⟩:=b5i (base:=base) hok hA λj t v ht hv=>hval j t v (by simpa using ht) (by simpa using hv)
 obtain⟨ts,hpure,hrd⟩:=walk h1;refine(a9I hpure (hrd args ⟨by simpa using h2,λi t x hi hx=>h3 i t x hi (by simpa using hx)⟩)).mono λe W' hh=> ?_
 obtain⟨rfl,hb⟩:=hh;exact⟨_,rfl,a8Z (d:=d) hW' hvars (hfn h1) hres htb hok hb⟩
end
end Go.SS
