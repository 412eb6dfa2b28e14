/- A part of the proof. -/
import Derived.Test.YtokaojbaacnngaaGreatU13U14U15U16U17U22U24U25U26
import Derived.Test.YtokaojbaacnngaaGreatU10
namespace Go.Proofs.YtokaojbaacnngaaGreat
open Go.SS Go.RowKit

abbrev b0h(p:Dsk)(q:Sto)(r b:Eng):Prop:=Y4 Z6 p.sec b.s.d.sec/\Y4 Z3 p.cache b.s.d.cache/\p.armed=b.s.d.armed/\Y4 Y8 p.keep b.s.d.keep/\q.ep=b.s.ep/\Y4 Y5 q.log b.s.log/\q.sure=b.s.sure/\Y4 V6 q.fr b.s.fr/\q.hand=b.s.hand/\r.up=b.up/\Y4 Y0 r.txs b.txs/\Y4 Y2 r.lk.held b.lk.held/\Y4 X3 r.lk.waits b.lk.waits/\r.next=b.next/\True
abbrev c7C(p:Dsk)(q:Sto)(r b:Eng):Prop:=Y4 Z6 p.sec b.s.d.sec/\Y4 Z3 p.cache b.s.d.cache/\p.armed=b.s.d.armed/\Y4 Y8 p.keep b.s.d.keep/\q.ep=b.s.ep/\Y4 Y5 q.log b.s.log/\q.sure=b.s.sure/\(q.fr.length=b.s.fr.length/\Z8 q.fr.length (a0n (X9 q.fr)) (V6 b.s.fr))/\q.hand=b.s.hand/\r.up=b.up/\Y4 Y0 r.txs b.txs/\Y4 Y2 r.lk.held b.lk.held/\Y4 X3 r.lk.waits b.lk.waits/\r.next=b.next/\True
abbrev b3N(p:Dsk)(q:Sto)(r b:Eng):Prop:=((0:Nat)=0/\p.sec.length=b.s.d.sec.length)/\((0:Nat)=0/\p.cache.length=b.s.d.cache.length)/\p.armed=b.s.d.armed/\((0:Nat)=0/\p.keep.length=b.s.d.keep.length)/\q.ep=b.s.ep/\((0:Nat)=0/\q.log.length=b.s.log.length)/\q.sure=b.s.sure/\((0:Nat)=0/\q.fr.length=b.s.fr.length)/\q.hand=b.s.hand/\r.up=b.up/\((0:Nat)=0/\r.txs.length=b.txs.length)/\((0:Nat)=0/\r.lk.held.length=b.lk.held.length)/\((0:Nat)=0/\r.lk.waits.length=b.lk.waits.length)/\r.next=b.next/\True
abbrev b0t(v u:Nat)(p:Dsk)(q:Sto)(r b:Eng):Prop:=Y4 Z6 p.sec b.s.d.sec/\Y4 Z3 p.cache b.s.d.cache/\Y4 Y8 p.keep b.s.d.keep/\Y4 Y5 q.log b.s.log/\(v=u/\q.fr.length=b.s.fr.length/\T5 q.fr.length (X9 q.fr) (X9 b.s.fr))/\Y4 Y0 r.txs b.txs/\Y4 Y2 r.lk.held b.lk.held/\Y4 X3 r.lk.waits b.lk.waits/\True
abbrev LeM(p:Dsk)(q:Sto)(r:Eng):Prop:=Le (0+p.sec.length) p.sec.length/\Le (0+p.cache.length) p.cache.length/\Le (0+p.keep.length) p.keep.length/\Le (0+q.log.length) q.log.length/\Le (0+q.fr.length) q.fr.length/\Le (0+r.txs.length) r.txs.length/\Le (0+r.lk.held.length) r.lk.held.length/\Le (0+r.lk.waits.length) r.lk.waits.length
abbrev c8l(p:Dsk)(q b:Sto):Prop:=((0:Nat)=0/\p.sec.length=b.d.sec.length)/\((0:Nat)=0/\p.cache.length=b.d.cache.length)/\p.armed=b.d.armed/\((0:Nat)=0/\p.keep.length=b.d.keep.length)/\q.ep=b.ep/\((0:Nat)=0/\q.log.length=b.log.length)/\q.sure=b.sure/\((0:Nat)=0/\q.fr.length=b.fr.length)/\q.hand=b.hand/\True
abbrev c8k(v u:Nat)(p:Dsk)(q b:Sto):Prop:=Y4 Z6 p.sec b.d.sec/\Y4 Z3 p.cache b.d.cache/\Y4 Y8 p.keep b.d.keep/\Y4 Y5 q.log b.log/\(v=u/\q.fr.length=b.fr.length/\T5 q.fr.length (X9 q.fr) (X9 b.fr))/\True
abbrev zW:List T:=[.v (.slice none 0 0),.v (.slice none 0 0),.bool false,.v (.slice none 0 0),.int .i64 0,.v (.slice none 0 0),.int .i64 0,.v (.slice none 0 0),.int .i64 0,.bool false,.v (.slice none 0 0),.v (.slice none 0 0),.v (.slice none 0 0),.int .i64 0]
abbrev zS9:List T:=[.v (.slice none 0 0),.v (.slice none 0 0),.bool false,.v (.slice none 0 0),.int .i64 0,.v (.slice none 0 0),.int .i64 0,.v (.slice none 0 0),.int .i64 0]

def L9(F:List Frm):Nat->List Dr
 |0=>[]
 |n+1=>if(decide (0<=frAt F n)&&(F.getD (frAt F n).toNat default).dirty)=true then L9 F n++[⟨n,(F.getD (frAt F n).toNat default).first⟩] else L9 F n
theorem b87{F:List Frm}{n:Nat}(h:(decide (0<=frAt F n)&&(F.getD (frAt F n).toNat default).dirty)=true):L9 F (n+1)=L9 F n++[⟨n,(F.getD (frAt F n).toNat default).first⟩]:=by
 conv=>lhs;unfold L9
 rw[if_pos h]
theorem a9x{F:List Frm}{n:Nat}(h:(decide (0<=frAt F n)&&(F.getD (frAt F n).toNat default).dirty)=false):L9 F (n+1)=L9 F n:=by
 conv=>lhs;unfold L9
 rw[if_neg (by rw[h];simp)]
theorem a5i{F:List Frm}{d:Dr}:∀n:Nat,d ∈ L9 F n↔∃k:Nat,k<n/\(decide (0<=frAt F k)&&(F.getD (frAt F k).toNat default).dirty)=true/\d=⟨k,(F.getD (frAt F k).toNat default).first⟩
 |0=>Iff.intro (fun h=>nomatch h) fun⟨k,h,_⟩=>absurd h (J2 k)
 |n+1=>by
  have ih:=a5i (F:=F) (d:=d) n;cases h:(decide (0<=frAt F n)&&(F.getD (frAt F n).toNat default).dirty) with
  |true=>
   rw[b87 h,List.mem_append,ih,List.mem_singleton];constructor
   ·rintro(⟨k,h1,h2⟩|h1)
    ·exact⟨k,by omega,h2⟩
    ·exact⟨n,by omega,h,h1⟩
   ·rintro⟨k,h1,h2,h3⟩;by_cases e:k=n
    ·subst e;exact .inr h3
    ·exact .inl ⟨k,by omega,h2,h3⟩
  |false=>
   rw[a9x h,ih];constructor
   ·rintro⟨k,h1,h2⟩;exact⟨k,by omega,h2⟩
   ·rintro⟨k,h1,h2,h3⟩;by_cases e:k=n
    ·subst e;rw[h] at h2;cases h2
    ·exact⟨k,by omega,h2,h3⟩
theorem a4D{L:List Dr}{i:Nat}(h:i<L.length):L.getD i default ∈ L:=by
 rw[C0,O1 h]
 exact List.getElem_mem h
theorem b6u{L:List Dr}{d:Dr}(h:d ∈ L):∃i,i<L.length/\L.getD i default=d:=by
 obtain⟨i,hi,e⟩:=List.getElem_of_mem h;exact⟨i,hi,by rw[C0,O1 hi,e];rfl⟩
theorem a5z(F:List Frm):∀n,iA (L9 F n)
 |0=>fun a b _ hb=>absurd hb (J2 b)
 |n+1=>by
  cases h:(decide (0<=frAt F n)&&(F.getD (frAt F n).toNat default).dirty) with
  |true=>
   rw[b87 h];intro a b hab hb;rw[s7,List.length_singleton] at hb;have ea:∀q,q<(L9 F n).length->(L9 F n++[(⟨n,(F.getD (frAt F n).toNat default).first⟩:Dr)]).getD q default=(L9 F n).getD q default:=fun q hq=>by
    rw[C0,kE hq,←C0]
   by_cases e:b<(L9 F n).length
   ·rw[ea a (by omega),ea b e]
    exact a5z F n a b hab e
   ·have e:b=(L9 F n).length:=by omega
    rw[ea a (by omega),e]
    have e2:((L9 F n++[(⟨n,(F.getD (frAt F n).toNat default).first⟩:Dr)]).getD (L9 F n).length default).no=n:=by
     rw[C0,eT (V5 _),j_k]
     rfl
    rw[e2];obtain⟨k,hk,_,he⟩:=(a5i n).1 (a4D (L:=L9 F n) (i:=a) (by omega))
    rw[he];dsimp only;omega
  |false=>
   rw[a9x h];exact a5z F n
theorem b9z{L:List Dr}{i:Nat}{d x:Dr}:x ∈ xN L i d↔x=d∨x ∈ L:=by
 conv=>rhs;rw[←List.take_append_drop i L]
 unfold xN;rw[List.mem_append,List.mem_append,zJ];constructor
 ·rintro(h|h|h)
  ·exact .inr (.inl h)
  ·exact .inl h
  ·exact .inr (.inr h)
 ·rintro(h|h|h)
  ·exact .inr (.inl h)
  ·exact .inl h
  ·exact .inr (.inr h)
theorem b6r:∀A B:List Dr,iA A->iA B->(∀d,d ∈ A↔d ∈ B)->A=B
 | [],[],_,_,_=>rfl
 | [],b::B,_,_,h=>by have:=(h b).2 (List.mem_cons_self ..);cases this
 |a::A,[],_,_,h=>by have:=(h a).1 (List.mem_cons_self ..);cases this
 |a::A,b::B,hA,hB,h=>by
  have la:∀d ∈ A,a.no<d.no:=fun d hd=>by
   obtain⟨i,hi,e⟩:=b6u hd;have:=hA 0 (i+1) (by omega) (by rw[List.length_cons];omega)
   rw[←e];exact this
  have lb:∀d ∈ B,b.no<d.no:=fun d hd=>by
   obtain⟨i,hi,e⟩:=b6u hd;have:=hB 0 (i+1) (by omega) (by rw[List.length_cons];omega)
   rw[←e];exact this
  have hab:a=b:=by
   rcases zJ.1 ((h a).1 (List.mem_cons_self ..)) with e|e
   ·exact e
   ·rcases zJ.1 ((h b).2 (List.mem_cons_self ..)) with e2|e2
    ·exact e2.symm
    ·have:=lb a e;have:=la b e2;omega
  subst hab;have:=b6r A B (fun i j hij hj=>hA (i+1) (j+1) (by omega) (by rw[List.length_cons];omega)) (fun i j hij hj=>hB (i+1) (j+1) (by omega) (by rw[List.length_cons];omega)) fun d=>by
   constructor
   ·intro hd;rcases zJ.1 ((h d).1 (List.mem_cons_of_mem _ hd)) with e|e
    ·subst e;have:=la d hd;omega
    ·exact e
   ·intro hd;rcases zJ.1 ((h d).2 (List.mem_cons_of_mem _ hd)) with e|e
    ·subst e;have:=lb d hd;omega
    ·exact e
  rw[this]
def FrU(F:List Frm):Prop:=∀i,i<F.length->0<=(F.getD i default).no/\(F.getD i default).no<=7/\frAt F (F.getD i default).no=(i:Int)
theorem a5q{F:List Frm}(hF:FrU F){d:Dr}:∀n,n<=F.length->(d ∈ N9 F n↔∃j,j<n/\(F.getD j default).dirty=true/\d=⟨(F.getD j default).no,(F.getD j default).first⟩)
 |0,_=>Iff.intro (fun h=>nomatch h) fun⟨k,h,_⟩=>absurd h (J2 k)
 |n+1,hn=>by
  have ih:=fun d=>a5q hF (d:=d) n (by omega)
  cases h:(F.getD n default).dirty with
  |true=>
   have hno:isD (N9 F n) (F.getD n default).no=false:=by
    cases hd:isD (N9 F n) (F.getD n default).no with
    |false=>rfl
    |true=>
     unfold isD at hd;simp only[K5,t9,beq_iff_eq] at hd;obtain⟨j,hj,_,he⟩:=(ih _).1 (a4D hd.1);rw[he] at hd;have hd:(F.getD j default).no=(F.getD n default).no:=hd.2;have h1:=(hF j (by omega)).2.2
     have h2:=(hF n (by omega)).2.2
     rw[hd,h2] at h1;omega
   have e:cM (N9 F n) ⟨(F.getD n default).no,(F.getD n default).first⟩=xN (N9 F n) (r6 (N9 F n) (F.getD n default).no) ⟨(F.getD n default).no,(F.getD n default).first⟩:=if_neg (by dsimp only;rw[hno];simp)
   rw[b6U h,e,b9z,ih];constructor
   ·rintro(h1|⟨j,h1,h2⟩)
    ·exact⟨n,by omega,h,h1⟩
    ·exact⟨j,by omega,h2⟩
   ·rintro⟨j,h1,h2,h3⟩;by_cases e:j=n
    ·subst e;exact .inl h3
    ·exact .inr ⟨j,by omega,h2,h3⟩
  |false=>
   rw[b6x h,ih];constructor
   ·rintro⟨j,h1,h2⟩;exact⟨j,by omega,h2⟩
   ·rintro⟨j,h1,h2,h3⟩;by_cases e:j=n
    ·subst e;rw[h] at h2;cases h2
    ·exact⟨j,by omega,h2,h3⟩
theorem c7k{F:List Frm}(hF:FrU F):L9 F 8=N9 F F.length:=by
 refine b6r _ _ (a5z F 8) (mQ F _).1 fun d=> ?_
 rw[a5i,a5q hF _ (V5 _)];constructor
 ·rintro⟨k,hk,h,rfl⟩;simp only[K5,t9] at h;have h0:¬Q4 F.length (tG F k)<0:=by
   have:0<=Q4 F.length (tG F k):=h.1;omega
  obtain⟨i,hi,hp,_,he⟩:=oS h0;have he:frAt F k=(i:Int):=he;rw[he,v4] at h ⊢;refine⟨i,hi,h.2,?_⟩
  have:(F.getD i default).no=k:=by unfold tG at hp;simpa using hp
  rw[this]
 ·rintro⟨j,hj,hd,rfl⟩;obtain⟨h1,h2,h3⟩:=hF j hj;have e:(((F.getD j default).no.toNat:Nat):Int)=(F.getD j default).no:=by omega
  refine⟨(F.getD j default).no.toNat,by omega,?_,?_⟩
  ·rw[e,h3,v4,hd];simp
  ·rw[e,h3,v4]
end Go.Proofs.YtokaojbaacnngaaGreat

namespace Go.Proofs.YtokaojbaacnngaaGreat
open Go.SS Go.RowKit

def rR(p:Nat->Int×Int):Nat->List UInt8
 |0=>[]
 |n+1=>rR p n++[i9 (p n).1,i9 (p n).2]
theorem oV(p:Nat->Int×Int):∀n,(rR p n).length=2*n
 |0=>rfl
 |n+1=>by
  unfold rR;rw[s7,oV p n];show _+2=_;omega
theorem dW{n:Int}(h:0<=n)(h2:n<=255):((i9 n).toNat:Int)=n:=by
 have hw:IntKind.u8.wrap n=n:=by
  simp[IntKind.wrap,IntKind.bits,IntKind.signed];omega
 unfold i9;rw[hw];exact aJ ⟨h,h2⟩
theorem a86{p:Nat->Int×Int}{i:Nat}:∀(n:Nat) (r:List UInt8),i<n->(rR p n++r).getD (2*i) 0=i9 (p i).1/\(rR p n++r).getD (2*i+1) 0=i9 (p i).2
 |0,_,h=>absurd h (J2 i)
 |n+1,r,h=>by
  have e:rR p (n+1)++r=rR p n++(i9 (p n).1::i9 (p n).2::r):=by
   conv=>lhs;unfold rR
   rw[List.append_assoc];rfl
  rw[e];by_cases hi:i=n
  ·subst hi;have hl:=oV p i;constructor
   ·rw[C0,eT (by omega),hl,j_k]
    rfl
   ·rw[C0,eT (by omega),hl,show 2*i+1-2*i=1 by omega]
    rfl
  ·exact a86 n _ (by omega)
structure PrB(lo hi lsn:Int)(p:Nat->Int×Int)(n:Nat):Prop where
 lo0:0<=lo
 hi5:hi<=255
 ls5:lsn<=256
 a:∀i,i<n->lo<=(p i).1/\(p i).1<=hi/\1<=(p i).2/\(p i).2<=lsn-1
 up:∀i,i+1<n->(p i).1<(p (i+1)).1
theorem c40{most lo hi lsn:Int}{p:Nat->Int×Int}{n:Nat}{r:List UInt8}(h:PrB lo hi lsn p n)(hn:(n:Int)<=most)(hn2:n<=255):∀i,i<=n->RdSt.go hi lsn (j4 most lo (i9 n::(rR p n++r)) false) i=⟨(rR p n++r).drop (2*i),false,true,if i=0 then lo-1 else(p (i-1)).1⟩
 |0,_=>by
  have e:numR (i9 n::(rR p n++r))=(n:Int):=dW (n:=(n:Int)) (by omega) (by omega)
  show j4 most lo (i9 n::(rR p n++r)) false=_;unfold j4;rw[e,jB hn];rfl
 |i+1,hi'=>by
  have ih:=c40 (r:=r) h hn hn2 i (by omega)
  have h5:=h.hi5;have h0:=h.lo0;have h6:=h.ls5;obtain⟨a1,a2,a3,a4⟩:=h.a i (by omega)
  obtain⟨g1,g2⟩:=a86 (p:=p) (i:=i) n r (by omega)
  have hl:=oV p n;have n1:numR ((rR p n++r).drop (2*i))=(p i).1:=by
   unfold numR;rw[C0,List.getElem?_drop,Nat.add_zero,←C0,g1]
   exact dW (by omega) (by omega)
  have n2:numR (((rR p n++r).drop (2*i)).drop 1)=(p i).2:=by
   unfold numR;rw[List.drop_drop,C0,List.getElem?_drop,Nat.add_zero,←C0,g2]
   exact dW (by omega) (by omega)
  have e1:((rR p n++r).drop (2*i)).isEmpty=false:=by
   cases hd:(rR p n++r).drop (2*i) with
   |nil=>
    have:=congrArg List.length hd;rw[List.length_drop,s7,hl] at this;simp at this;omega
   |cons=>rfl
  have e2:(((rR p n++r).drop (2*i)).drop 1).isEmpty=false:=by
   cases hd:((rR p n++r).drop (2*i)).drop 1 with
   |nil=>
    have:=congrArg List.length hd;rw[List.length_drop,List.length_drop,s7,hl] at this;simp at this;omega
   |cons=>rfl
  show RdSt.step hi lsn (RdSt.go hi lsn (j4 most lo (i9 n::(rR p n++r)) false) i)=_;rw[ih];unfold RdSt.step;dsimp only;rw[n1,n2,e1,e2,List.drop_drop,List.drop_drop];have r1:W8 (p i).1 ((if i=0 then lo-1 else(p (i-1)).1)+1) hi=true:=by
   rw[O5];refine⟨?_,a2⟩
   by_cases hz:i=0
   ·rw[if_pos hz];omega
   ·rw[if_neg hz];have:=h.up (i-1) (by omega)
    rw[show i-1+1=i by omega] at this
    omega
  have r2:W8 (p i).2 1 (lsn-1)=true:=O5.2 ⟨a3,a4⟩;rw[r1,r2,if_neg (by omega),show i+1-1=i by omega,show 2*i+1+1=2*(i+1) by omega]
  rfl
theorem c4t{most lo hi lsn:Int}{p:Nat->Int×Int}{n:Nat}{r:List UInt8}(h:PrB lo hi lsn p n)(hn:(n:Int)<=most)(hn2:n<=255):∃b,T2 most lo hi lsn (i9 n::(rR p n++r)) false=⟨r,false,true,b⟩:=by
 have e:numR (i9 n::(rR p n++r))=(n:Int):=dW (n:=(n:Int)) (by omega) (by omega)
 have hl:=oV p n;refine⟨if n=0 then lo-1 else(p (n-1)).1,?_⟩
 unfold T2;rw[e,v4,c40 h hn hn2 n (V5 n),List.drop_append,hl,j_k,List.drop_of_length_le (by omega)]
 rfl
theorem b57(P:List Dr):∀n,b1H P n=rR (fun i=>((P.getD i default).no,(P.getD i default).first)) n
 |0=>rfl
 |n+1=>by unfold b1H rR;rw[b57 P n]
theorem c4q(L:List Txn):∀n,txB L n=rR (fun i=>((L.getD i default).id,(L.getD i default).last)) n
 |0=>rfl
 |n+1=>by unfold txB rR;rw[c4q L n]
theorem c7n{P:List Dr}{L:List Txn}{lsn:Int}(hP:PrB 0 7 lsn (fun i=>((P.getD i default).no,(P.getD i default).first)) P.length)(hL:PrB 1 60 lsn (fun i=>((L.getD i default).id,(L.getD i default).last)) L.length)(h8:P.length<=8)(h10:L.length<=10):oY (c9 P L L.length) lsn=true:=by
 have e:c9 P L L.length=i9 P.length::(rR (fun i=>((P.getD i default).no,(P.getD i default).first)) P.length++(i9 L.length::(rR (fun i=>((L.getD i default).id,(L.getD i default).last)) L.length++[]))):=by
  unfold c9 yP;rw[b57,c4q,List.append_nil,List.append_assoc];rfl
 obtain⟨b1,e1⟩:=c4t (most:=8) (r:=i9 L.length::(rR (fun i=>((L.getD i default).id,(L.getD i default).last)) L.length++[])) hP (by omega) (by omega)
 obtain⟨b2,e2⟩:=c4t (most:=10) (r:=[]) hL (by omega) (by omega)
 unfold oY;rw[e,e1];dsimp only;rw[e2];rfl

def K2(e:Eng):Sto×Bool:=X1 e.s e.s.log.length
def tY(e:Eng):Dsk×Bool:=V4 (K2 e).1.d
def C1(e:Eng):Sto:=(K2 e).1.sd (tY e).1
def a6n(e:Eng):Rec:=⟨0,0,0,6,0,0,0,0,[],ckT e⟩
def vQ(e:Eng):Sto:=apx (C1 e) (a6n e)
def w2(e:Eng):Sto×Bool:=X1 (vQ e) (e.s.log.length+1:Nat)
def rS(e:Eng)(s:Sto):Eng:={e with s:=s}
noncomputable def Y1(e:Eng):Eng×Int:=if e.up=true then(if(e.s.log.length:Int)+sZ e+1<=60 then
  (if(K2 e).2=true then(if(tY e).2=true then(if(w2 e).2=true then(rS e (w2 e).1,0) else(sF (rS e (w2 e).1),15)) else(sF (rS e (C1 e)),15)) else(sF (rS e (K2 e).1),15)) else(e,7)) else(e,15)
theorem c1j{d:Dsk}(h:G7 d)(h69:d.sec.length=69):c5U d:=by
 obtain⟨h1,h2,h3,h4,h5,h6,h7⟩:=h;exact⟨h69,h4,h5,h6,fun i hi=>(lK (h7 i hi)).2.2⟩
theorem b8d{s:Sto}(h:N4 s=true):FrU s.fr/\s.fr.length<=3/\∀i,i<s.fr.length->(s.fr.getD i default).dirty=true->1<=(s.fr.getD i default).first/\(s.fr.getD i default).first<=s.log.length:=by
 obtain⟨_,_,_,h5,_⟩:=(I2 s).1 h;unfold u4 at h5;simp only[K5,sB,M5,t9] at h5;refine⟨fun i hi=> ?_,by omega,fun i hi hd=> ?_⟩
 ·have hb:=h5.1 i hi;unfold t8 at hb;simp only[vG,tE] at hb;obtain⟨⟨⟨⟨⟨b1,b2⟩,_⟩,_⟩,_⟩,_⟩:=hb;have b1:=b7z b1;exact⟨b1.1,b1.2,by simpa using b2⟩
 ·have hb:=h5.1 i hi;unfold t8 at hb;simp only[vG,tE] at hb;obtain⟨⟨⟨⟨_,_⟩,_⟩,b5⟩,b6⟩:=hb;have b5:=b7z b5;rw[hd] at b6;have:(s.fr.getD i default).first>0:=by
   simp only[bne_eq_false_iff_eq] at b6;exact D8 b6
  omega
theorem c55{e:Eng}(h:Q5 e=true)(hu:e.up=true){i:Nat}(hi:i+1<e.txs.length):(e.txs.getD i default).id<(e.txs.getD (i+1) default).id:=by
 have:=a8F h hu (i+1) hi;unfold H5 at this;simp only[vG,Bool.and_eq_false_iff,tV] at this;have h2:=this.1.2;rw[show i+1-1=i by omega] at h2
 omega
theorem c5u{e:Eng}(h:Q5 e=true)(hu:e.up=true)(hl:e.s.log.length+1<=60):oY (ckT e) ((e.s.log.length:Int)+1)=true:=by
 obtain⟨a1,a2,a3,_⟩:=wZ (I5 h).2.1;obtain⟨hF,f3,f4⟩:=b8d (I5 h).1;obtain⟨p1,p2⟩:=mQ e.s.fr e.s.fr.length;refine c7n ⟨by omega,by omega,by omega,fun i hi=> ?_,fun i hi=> ?_⟩ ⟨by omega,by omega,by omega,fun i hi=> ?_,fun i hi=>c55 h hu hi⟩ (by omega) (by omega)
 ·obtain⟨j,hj,hd,he⟩:=(a5q hF _ (V5 _)).1 (a4D hi);obtain⟨b1,b2,_⟩:=hF j hj;have:=f4 j hj hd;dsimp only;rw[he];dsimp only;omega
 ·exact p1 i (i+1) (by omega) hi
 ·have:=c7K h hu hi;have:=c21 h hu hi;dsimp only;omega
structure ChkP(e:Eng):Prop where
 up:e.up=true
 nd:(e.s.log.length:Int)+sZ e+1<=60
 f:xO e.s e.s.log.length
 fd:G7 (K2 e).1.d/\(K2 e).1.d.sec.length=69
 fr:(K2 e).1.log=e.s.log/\(K2 e).1.fr=e.s.fr
 yd:G7 (tY e).1/\(tY e).1.sec.length=69
 ok:S3 (D5 (C1 e) (a6n e))=true
 aL:zH (vQ e).log
 g:xO (vQ e) (e.s.log.length+1:Nat)
 gd:G7 (w2 e).1.d/\(w2 e).1.d.sec.length=69
 n:e.s.fr.length<=3/\e.txs.length<=10/\e.s.log.length+1<=60
 u:FrU e.s.fr
theorem b71{s:Sto}{l:Int}(h:xO s l)(h2:0<=l):0<=(X1 s l).1.sure/\(X1 s l).1.sure<=s.log.length:=by
 obtain⟨_,_,_,_,b5,b6,_,b8,_⟩:=h;by_cases hl:l<=s.sure
 ·rw[qL hl];exact⟨b5,b6⟩
 ·rw[qV hl];dsimp only;split
  ·exact⟨h2,b8⟩
  ·exact⟨b5,b6⟩
theorem c5x(s:Sto)(l:Int):(X1 s l).1.ep=s.ep:=by
 by_cases hl:l<=s.sure
 ·rw[qL hl]
 ·rw[qV hl]
theorem b5j{e:Eng}(ho:Q5 e=true)(hu:e.up=true)(hn:(e.s.log.length:Int)+sZ e+1<=60):ChkP e:=by
 obtain⟨a1,a2,a3,a4⟩:=wZ (I5 ho).2.1;obtain⟨hd,h69⟩:=c1o ho;obtain⟨hF,f3,f4⟩:=b8d (I5 ho).1;have hL:=oP (I5 ho).1;have he:=c5y (I5 ho).1;have hs:=b7z ((I2 e.s).1 (I5 ho).1).1.2.2;have hf:xO e.s e.s.log.length:=b4X hd h69 hL hs.1 hs.2 (Int.le_refl _);have hfd:=a9k hd hf hL;have hr:=a3Q e.s e.s.log.length;have hyd:=a9S (c1j hfd.1 hfd.2);have hlog:(C1 e).log=e.s.log:=hr.1;have hll:(C1 e).log.length=e.s.log.length:=by rw[hlog]
 have hep:(C1 e).ep=e.s.ep:=c5x e.s e.s.log.length;have hsu:=b71 hf (by omega)
 have hsu:0<=(C1 e).sure/\(C1 e).sure<=e.s.log.length:=hsu;have hck:=c5u ho hu (by omega)
 have hok:S3 (D5 (C1 e) (a6n e))=true:=by
  refine(P8 _).2 ?_
  unfold j3 D5 a6n;dsimp only;rw[hep,hll];exact⟨he.1,he.2,by omega,by omega,by omega,by omega,by omega,by omega,by omega,by omega,by omega,by omega,by omega,by omega,by decide,fun _=>⟨rfl,rfl,rfl,rfl,rfl,rfl,hck⟩,fun h=>absurd rfl h⟩
 have haL:zH (vQ e).log:=b5h (s:=C1 e) (by rw[hlog];exact hL) hok (by rw[hll];omega)
 have hal:(vQ e).log.length=e.s.log.length+1:=by
  show((C1 e).log++[_]).length=_;rw[s7,hll];rfl
 have hg:xO (vQ e) (e.s.log.length+1:Nat):=b4X (s:=vQ e) hyd.1 hyd.2 haL hsu.1 (by have:(vQ e).sure=(C1 e).sure:=rfl;omega) (by omega)
 exact⟨hu,hn,hf,hfd,hr,hyd,hok,haL,hg,a9k (s:=vQ e) hyd.1 hg haL,⟨f3,a1,by omega⟩,hF⟩
end Go.Proofs.YtokaojbaacnngaaGreat

namespace Go.Proofs.YtokaojbaacnngaaGreat
set_option maxRecDepth 100000
open Go.SS Go.RowKit

theorem b59{e:Eng}(h:(!e.up)=true):Y1 e=(e,15):=by unfold Y1;rw[if_neg (by simpa using h)]
theorem b7Q{e:Eng}(h:(!e.up)=false)(h2:¬ (e.s.log.length:Int)+sZ e+1<=60):Y1 e=(e,7):=by unfold Y1;rw[if_pos (by simpa using h),if_neg h2]
theorem c5K{e:Eng}(h:ChkP e)(hf:(K2 e).2=false):Y1 e=(sF (rS e (K2 e).1),15):=by unfold Y1;rw[if_pos h.up,if_pos h.nd,if_neg (by rw[hf];simp)]
theorem c5q{e:Eng}(h:ChkP e)(hf:(K2 e).2=true)(hy:(tY e).2=false):Y1 e=(sF (rS e (C1 e)),15):=by unfold Y1;rw[if_pos h.up,if_pos h.nd,if_pos hf,if_neg (by rw[hy];simp)]
theorem c5i{e:Eng}(h:ChkP e)(hf:(K2 e).2=true)(hy:(tY e).2=true)(hg:(w2 e).2=false):Y1 e=(sF (rS e (w2 e).1),15):=by unfold Y1;rw[if_pos h.up,if_pos h.nd,if_pos hf,if_pos hy,if_neg (by rw[hg];simp)]
theorem c5N{e:Eng}(h:ChkP e)(hf:(K2 e).2=true)(hy:(tY e).2=true)(hg:(w2 e).2=true):Y1 e=(rS e (w2 e).1,0):=by unfold Y1;rw[if_pos h.up,if_pos h.nd,if_pos hf,if_pos hy,if_pos hg]
theorem c8j{e:Eng}(h:ChkP e):ckT (rS e (C1 e))=ckT e:=by
 have:(rS e (C1 e)).s.fr=e.s.fr:=h.fr.2;unfold ckT;rw[this];rfl
theorem c4K{e:Eng}(h:ChkP e):(vQ e).log.length=e.s.log.length+1:=by
 have h1:(C1 e).log=e.s.log:=h.fr.1;show((C1 e).log++[_]).length=_;rw[s7,h1];rfl
theorem b47{b:Bool}(h:(!b)=true):b=false:=by simpa using h
theorem sN{b:Bool}(h:(!b)=false):b=true:=by simpa using h
noncomputable def c2R:Con:=.reff ⟨Eng,fun _=>[.ref 0 0 0],fun e=>e.bx 0,fun e=>.int .i64 (Y1 e).2,fun e=>(Y1 e).1.nx 0,fun e=>Q5 e=true/\mD e⟩
noncomputable def c0v:Code:=Tryz.f63.body.getD .skip
theorem a6s:Z7 Tryz.prog 63:=⟨_,Tryz.func63,by kernel_rfl,by kernel_rfl⟩
theorem c0E(e:Eng)(h:
  ((!e.up)=true->((15:Int)=(Y1 e).snd/\True)/\(1=1/\1=1/\b10 e (Y1 e).fst)/\True/\True/\True/\True/\True/\True/\True/\True/\b2Y (0) (0) e (Y1 e).fst)/\((!e.up)=false->∃(x:(Eng×Int)),((LeG e)
  /\((jA e x.fst)/\(1:Int)=x.snd/\True)/\jZ x.fst/\A9 x.snd)/\((!decide ((x.fst.s.log.length:Int)+(↑(sZ x.fst):Int)+x.snd<=(60:Int)))=true->((7:Int)=(Y1 e).snd/\True)/\(1=1/\1=1/\b10 e
  (Y1 e).fst)/\True/\True/\True/\True/\True/\True/\True/\True/\b2Y (0) (0) e (Y1 e).fst)/\((!decide ((x.fst.s.log.length:Int)+(↑(sZ x.fst):Int)+x.snd<=(60:Int)))=false->∃(x:(Sto×Int×Nat)),(((0=0
  /\0=0)/\(e.s.log.length:Int)=x.snd.fst/\True)/\((1=1/\1=1/\EqC e.s x.fst)/\EqH (0) (x.snd.snd) e.s x.fst)/\xO x.fst x.snd.fst)/\∃(x_1:(Sto×Nat)),((!(X1 x.fst x.snd.fst).snd)=false->((0=0/\0=0)/\
  True)/\((1=1/\1=1/\EqC (X1 x.fst x.snd.fst).fst x_1.fst)/\EqH (x.snd.snd) (x_1.snd) (X1 x.fst x.snd.fst).fst x_1.fst)/\pD x_1.fst.d/\PdB x_1.fst.d)/\((!(X1 x.fst x.snd.fst).snd)=false->((!(X1 x.fst
  x.snd.fst).snd|| !(V4 x_1.fst.d).snd)=true->∃(x:(Eng×Nat)),(((0=0/\0=0)/\True)/\((1=1/\1=1/\b3N (V4 x_1.fst.d).fst x_1.fst e x.fst)/\b0t (x_1.snd) (x.snd) (V4 x_1.fst.d).fst x_1.fst e x.fst)/\G7
  x.fst.s.d)/\((15:Int)=(Y1 e).snd/\True)/\(1=1/\1=1/\(0=0/\x.fst.s.d.sec.length=(Y1 e).fst.s.d.sec.length)/\(0=0/\x.fst.s.d.cache.length=(Y1 e).fst.s.d.cache.length)/\x.fst.s.d.armed=(Y1
  e).fst.s.d.armed/\(0=0/\x.fst.s.d.keep.length=(Y1 e).fst.s.d.keep.length)/\x.fst.s.ep=(Y1 e).fst.s.ep/\(0=0/\(D7 x.fst.s.d (v8 x.fst.s.d x.fst.s.ep)).length=(Y1 e).fst.s.log.length)/\(↑(v8 x.fst.s.d
  x.fst.s.ep):Int)=(Y1 e).fst.s.sure/\(0=0/\0=(Y1 e).fst.s.fr.length)/\(0:Int)=(Y1 e).fst.s.hand/\false=(Y1 e).fst.up/\(0=0/\0=(Y1 e).fst.txs.length)/\(0=0/\0=(Y1 e).fst.lk.held.length)/\(0
  =0/\0=(Y1 e).fst.lk.waits.length)/\x.fst.next=(Y1 e).fst.next/\True)/\True/\True/\True/\True/\True/\True/\True/\True/\(Y4 Z6 x.fst.s.d.sec (Y1 e).fst.s.d.sec)/\(Y4 Z3 x.fst.s.d.cache (Y1
  e).fst.s.d.cache)/\(Y4 Y8 x.fst.s.d.keep (Y1 e).fst.s.d.keep)/\(Y4 Y5 (D7 x.fst.s.d (v8 x.fst.s.d x.fst.s.ep)) (Y1 e).fst.s.log)/\(0=0/\0=(Y1 e).fst.s.fr.length/\T5 0 (X9 []) (X9 (Y1
  e).fst.s.fr))/\(0=(Y1 e).fst.txs.length/\Z8 0 (Y0 []) (Y0 (Y1 e).fst.txs))/\(0=(Y1 e).fst.lk.held.length/\Z8 0 (Y2 []) (Y2 (Y1 e).fst.lk.held))/\(0=(Y1 e).fst.lk.waits.length/\Z8 0
  (X3 []) (X3 (Y1 e).fst.lk.waits))/\True)/\((!(X1 x.fst x.snd.fst).snd|| !(V4 x_1.fst.d).snd)=false->∃(x:Eng),((LeM (V4 x_1.fst.d).fst x_1.fst e)/\((c7C (V4 x_1.fst.d).fst x_1.fst e x)/\True)/\
  x.s.fr.length<=100/\x.txs.length<=100)/\∃(x_2:kQ.ι),(((0=0/\0=0)/\((0:Int)=x_2.snd.fst.e/\(0:Int)=x_2.snd.fst.l/\(0:Int)=x_2.snd.fst.t/\(6:Int)=x_2.snd.fst.k/\(0:Int)=x_2.snd.fst.p/\(0
  :Int)=x_2.snd.fst.n/\(0:Int)=x_2.snd.fst.g/\(0:Int)=x_2.snd.fst.s/\[]=x_2.snd.fst.b/\ckT x=x_2.snd.fst.a/\True)/\True)/\((1=1/\1=1/\c8l (V4 x_1.fst.d).fst x_1.fst x_2.fst)/\c8k (x_1.snd)
  (x_2.snd.snd) (V4 x_1.fst.d).fst x_1.fst x_2.fst)/\x_2.fst.log.length<=60/\SmR x_2.snd.fst)/\∃(x:(Sto×Int×Nat)),(((0=0/\0=0)/\(↑(I6 x_2.fst x_2.snd.fst).log.length:Int)=x.snd.fst/\True)/\((1=1/\1=1
  /\EqC (I6 x_2.fst x_2.snd.fst) x.fst)/\EqH (x_2.snd.snd) (x.snd.snd) (I6 x_2.fst x_2.snd.fst) x.fst)/\xO x.fst x.snd.fst)/\((!(X1 x.fst x.snd.fst).snd)=true->∃(x_3:(Eng×Nat)),(((0=0/\0=0)/\True)/\((1=1
  /\1=1/\b3N (X1 x.fst x.snd.fst).fst.d (X1 x.fst x.snd.fst).fst e x_3.fst)/\b0t (x.snd.snd) (x_3.snd) (X1 x.fst x.snd.fst).fst.d (X1 x.fst x.snd.fst).fst e x_3.fst)/\G7 x_3.fst.s.d)/\((15:Int)=(Y1 e).snd/\
  True)/\(1=1/\1=1/\(0=0/\x_3.fst.s.d.sec.length=(Y1 e).fst.s.d.sec.length)/\(0=0/\x_3.fst.s.d.cache.length=(Y1 e).fst.s.d.cache.length)/\x_3.fst.s.d.armed=(Y1 e).fst.s.d.armed/\(0=0/\
  x_3.fst.s.d.keep.length=(Y1 e).fst.s.d.keep.length)/\x_3.fst.s.ep=(Y1 e).fst.s.ep/\(0=0/\(D7 x_3.fst.s.d (v8 x_3.fst.s.d x_3.fst.s.ep)).length=(Y1 e).fst.s.log.length)/\(↑(v8 x_3.fst.s.d x_3.fst.s.ep):Int)=
  (Y1 e).fst.s.sure/\(0=0/\0=(Y1 e).fst.s.fr.length)/\(0:Int)=(Y1 e).fst.s.hand/\false=(Y1 e).fst.up/\(0=0/\0=(Y1 e).fst.txs.length)/\(0=0/\0=(Y1 e).fst.lk.held.length)/\(0=0/\0=(Y1
  e).fst.lk.waits.length)/\x_3.fst.next=(Y1 e).fst.next/\True)/\True/\True/\True/\True/\True/\True/\True/\True/\(Y4 Z6 x_3.fst.s.d.sec (Y1 e).fst.s.d.sec)/\(Y4 Z3 x_3.fst.s.d.cache (Y1
  e).fst.s.d.cache)/\(Y4 Y8 x_3.fst.s.d.keep (Y1 e).fst.s.d.keep)/\(Y4 Y5 (D7 x_3.fst.s.d (v8 x_3.fst.s.d x_3.fst.s.ep)) (Y1 e).fst.s.log)/\(0=0/\0=(Y1 e).fst.s.fr.length/\T5 0 (X9 []) (X9 (Y1
  e).fst.s.fr))/\(0=(Y1 e).fst.txs.length/\Z8 0 (Y0 []) (Y0 (Y1 e).fst.txs))/\(0=(Y1 e).fst.lk.held.length/\Z8 0 (Y2 []) (Y2 (Y1 e).fst.lk.held))/\(0=(Y1 e).fst.lk.waits.length/\Z8 0
  (X3 []) (X3 (Y1 e).fst.lk.waits))/\True)/\((!(X1 x.fst x.snd.fst).snd)=false->((0:Int)=(Y1 e).snd/\True)/\(1=1/\1=1/\b3N (X1 x.fst x.snd.fst).fst.d (X1 x.fst x.snd.fst).fst e (Y1 e).fst)/\True
  /\True/\True/\True/\True/\True/\True/\True/\b0t (x.snd.snd) (0) (X1 x.fst x.snd.fst).fst.d (X1 x.fst x.snd.fst).fst e (Y1 e).fst)))/\(((!(X1 x.fst x.snd.fst).snd)=false->False)->((!(X1 x.fst x.snd.fst).snd
  || !(V4 x_1.fst.d).snd)=true->∃(x_2:(Eng×Nat)),(((0=0/\0=0)/\True)/\((1=1/\1=1/\b3N (X1 x.fst x.snd.fst).fst.d (X1 x.fst x.snd.fst).fst e x_2.fst)/\b0t (x.snd.snd) (x_2.snd) (X1 x.fst
  x.snd.fst).fst.d (X1 x.fst x.snd.fst).fst e x_2.fst)/\G7 x_2.fst.s.d)/\((15:Int)=(Y1 e).snd/\True)/\(1=1/\1=1/\(0=0/\x_2.fst.s.d.sec.length=(Y1 e).fst.s.d.sec.length)/\(0=0/\x_2.fst.s.d.cache.length
  =(Y1 e).fst.s.d.cache.length)/\x_2.fst.s.d.armed=(Y1 e).fst.s.d.armed/\(0=0/\x_2.fst.s.d.keep.length=(Y1 e).fst.s.d.keep.length)/\x_2.fst.s.ep=(Y1 e).fst.s.ep/\(0=0/\(D7 x_2.fst.s.d (v8 x_2.fst.s.d
  x_2.fst.s.ep)).length=(Y1 e).fst.s.log.length)/\(↑(v8 x_2.fst.s.d x_2.fst.s.ep):Int)=(Y1 e).fst.s.sure/\(0=0/\0=(Y1 e).fst.s.fr.length)/\(0:Int)=(Y1 e).fst.s.hand/\false=(Y1 e).fst.up/\(0=0/\0=
  (Y1 e).fst.txs.length)/\(0=0/\0=(Y1 e).fst.lk.held.length)/\(0=0/\0=(Y1 e).fst.lk.waits.length)/\x_2.fst.next=(Y1 e).fst.next/\True)/\True/\True/\True/\True/\True/\True/\True/\True/\(Y4 Z6
  x_2.fst.s.d.sec (Y1 e).fst.s.d.sec)/\(Y4 Z3 x_2.fst.s.d.cache (Y1 e).fst.s.d.cache)/\(Y4 Y8 x_2.fst.s.d.keep (Y1 e).fst.s.d.keep)/\(Y4 Y5 (D7 x_2.fst.s.d (v8 x_2.fst.s.d x_2.fst.s.ep)) (Y1
  e).fst.s.log)/\(0=0/\0=(Y1 e).fst.s.fr.length/\T5 0 (X9 []) (X9 (Y1 e).fst.s.fr))/\(0=(Y1 e).fst.txs.length/\Z8 0 (Y0 []) (Y0 (Y1 e).fst.txs))/\(0=(Y1 e).fst.lk.held.length/\Z8 0
  (Y2 []) (Y2 (Y1 e).fst.lk.held))/\(0=(Y1 e).fst.lk.waits.length/\Z8 0 (X3 []) (X3 (Y1 e).fst.lk.waits))/\True)/\((!(X1 x.fst x.snd.fst).snd|| !(V4 x_1.fst.d).snd)=false->∃(x_2:Eng),((LeM
  (X1 x.fst x.snd.fst).fst.d (X1 x.fst x.snd.fst).fst e)/\((c7C (X1 x.fst x.snd.fst).fst.d (X1 x.fst x.snd.fst).fst e x_2)/\True)/\x_2.s.fr.length<=100/\x_2.txs.length<=100)/\∃(x_3:kQ.ι),(((0=0/\0=0)/\
  ((0:Int)=x_3.snd.fst.e/\(0:Int)=x_3.snd.fst.l/\(0:Int)=x_3.snd.fst.t/\(6:Int)=x_3.snd.fst.k/\(0:Int)=x_3.snd.fst.p/\(0:Int)=x_3.snd.fst.n/\(0:Int)=x_3.snd.fst.g/\(0:Int)=x_3.snd.fst.s/\[]=
  x_3.snd.fst.b/\ckT x_2=x_3.snd.fst.a/\True)/\True)/\((1=1/\1=1/\EqC (X1 x.fst x.snd.fst).fst x_3.fst)/\EqH (x.snd.snd) (x_3.snd.snd) (X1 x.fst x.snd.fst).fst x_3.fst)/\x_3.fst.log.length<=60/\SmR x_3.snd.fst)/\
  ∃(x:(Sto×Int×Nat)),(((0=0/\0=0)/\(↑(I6 x_3.fst x_3.snd.fst).log.length:Int)=x.snd.fst/\True)/\((1=1/\1=1/\EqC (I6 x_3.fst x_3.snd.fst) x.fst)/\EqH (x_3.snd.snd) (x.snd.snd) (I6 x_3.fst x_3.snd.fst)
  x.fst)/\xO x.fst x.snd.fst)/\((!(X1 x.fst x.snd.fst).snd)=true->∃(x_4:(Eng×Nat)),(((0=0/\0=0)/\True)/\((1=1/\1=1/\b3N (X1 x.fst x.snd.fst).fst.d (X1 x.fst x.snd.fst).fst e x_4.fst)/\b0t
  (x.snd.snd) (x_4.snd) (X1 x.fst x.snd.fst).fst.d (X1 x.fst x.snd.fst).fst e x_4.fst)/\G7 x_4.fst.s.d)/\((15:Int)=(Y1 e).snd/\True)/\(1=1/\1=1/\(0=0/\x_4.fst.s.d.sec.length=(Y1 e).fst.s.d.sec.length)/\
  (0=0/\x_4.fst.s.d.cache.length=(Y1 e).fst.s.d.cache.length)/\x_4.fst.s.d.armed=(Y1 e).fst.s.d.armed/\(0=0/\x_4.fst.s.d.keep.length=(Y1 e).fst.s.d.keep.length)/\x_4.fst.s.ep=(Y1 e).fst.s.ep/\(0=0/\(D7
  x_4.fst.s.d (v8 x_4.fst.s.d x_4.fst.s.ep)).length=(Y1 e).fst.s.log.length)/\(↑(v8 x_4.fst.s.d x_4.fst.s.ep):Int)=(Y1 e).fst.s.sure/\(0=0/\0=(Y1 e).fst.s.fr.length)/\(0:Int)=(Y1 e).fst.s.hand/\false=
  (Y1 e).fst.up/\(0=0/\0=(Y1 e).fst.txs.length)/\(0=0/\0=(Y1 e).fst.lk.held.length)/\(0=0/\0=(Y1 e).fst.lk.waits.length)/\x_4.fst.next=(Y1 e).fst.next/\True)/\True/\True/\True/\True/\True/\True
  /\True/\True/\(Y4 Z6 x_4.fst.s.d.sec (Y1 e).fst.s.d.sec)/\(Y4 Z3 x_4.fst.s.d.cache (Y1 e).fst.s.d.cache)/\(Y4 Y8 x_4.fst.s.d.keep (Y1 e).fst.s.d.keep)/\(Y4 Y5 (D7 x_4.fst.s.d (v8 x_4.fst.s.d
  x_4.fst.s.ep)) (Y1 e).fst.s.log)/\(0=0/\0=(Y1 e).fst.s.fr.length/\T5 0 (X9 []) (X9 (Y1 e).fst.s.fr))/\(0=(Y1 e).fst.txs.length/\Z8 0 (Y0 []) (Y0 (Y1 e).fst.txs))/\(0=(Y1
  e).fst.lk.held.length/\Z8 0 (Y2 []) (Y2 (Y1 e).fst.lk.held))/\(0=(Y1 e).fst.lk.waits.length/\Z8 0 (X3 []) (X3 (Y1 e).fst.lk.waits))/\True)/\((!(X1 x.fst x.snd.fst).snd)=false->((0:Int)=
  (Y1 e).snd/\True)/\(1=1/\1=1/\b3N (X1 x.fst x.snd.fst).fst.d (X1 x.fst x.snd.fst).fst e (Y1 e).fst)/\True/\True/\True/\True/\True/\True/\True/\True/\b0t (x.snd.snd) (0) (X1 x.fst x.snd.fst).fst.d (X1
  x.fst x.snd.fst).fst e (Y1 e).fst)))))):
  V3 Tryz.prog 63 [.ref 0 0 0] (e.bx 0) (.int .i64 (Y1 e).2) ((Y1 e).1.nx 0):=
 v5 (code:=c0v) (gC mW rY (gC b6t a8k (gC a9D fT (gC qN a3I (gC aU kT (gC c2g b4G gN)))))) Tryz.func63 (by kernel_rfl) (by kernel_rfl) Z0 [[.box 0,.arr 1,.arr 2,.arr 3,.arr 4,.arr 5,.arr 6,.arr 7,.arr 8,.cel 0 0,.cel 0 1,.cel 0 3,.cel 0 5,.cel 0 7,.cel 0 10,.cel 0 11,.cel 0 12]] h (by kernel_rfl)
theorem b5b:Z1 Tryz.prog 63 c2R:=by
 rintro(e:Eng) ⟨ho,hB⟩;refine c0E e ⟨fun hu=> ?_,fun hu=> ?_⟩
 ·rw[b59 hu];exact⟨⟨rfl,trivial⟩,⟨rfl,rfl,⟨rfl,rfl⟩,⟨rfl,rfl⟩,rfl,⟨rfl,rfl⟩,rfl,⟨rfl,rfl⟩,rfl,⟨rfl,rfl⟩,rfl,rfl,⟨rfl,rfl⟩,⟨rfl,rfl⟩,⟨rfl,rfl⟩,rfl,trivial⟩,trivial,trivial,trivial,trivial,trivial,trivial,trivial,trivial,⟨rfl,Z9 _ _⟩,⟨rfl,Z9 _ _⟩,⟨rfl,Z9 _ _⟩,⟨rfl,Z9 _ _⟩,⟨rfl,rfl,U3 _⟩,⟨rfl,Z9 _ _⟩,⟨rfl,Z9 _ _⟩,⟨rfl,Z9 _ _⟩,trivial⟩
 ·have hu':e.up=true:=sN hu;refine⟨(e,1),⟨⟨S7 _,S7 _,S7 _,S7 _,S7 _,S7 _,S7 _,S7 _⟩,⟨⟨⟨rfl,Z9 _ _⟩,⟨rfl,Z9 _ _⟩,rfl,⟨rfl,Z9 _ _⟩,rfl,⟨rfl,Z9 _ _⟩,rfl,⟨rfl,fun _ _=>rfl⟩,rfl,rfl,⟨rfl,Z9 _ _⟩,⟨rfl,Z9 _ _⟩,⟨rfl,Z9 _ _⟩,rfl,trivial⟩,rfl,trivial⟩,c4y ho hu',by unfold A9;dsimp only;omega⟩,fun hr=> ?_,fun hr=> ?_⟩
  ·rw[b7Q hu (by simpa using hr)]
   exact⟨⟨rfl,trivial⟩,⟨rfl,rfl,⟨rfl,rfl⟩,⟨rfl,rfl⟩,rfl,⟨rfl,rfl⟩,rfl,⟨rfl,rfl⟩,rfl,⟨rfl,rfl⟩,rfl,rfl,⟨rfl,rfl⟩,⟨rfl,rfl⟩,⟨rfl,rfl⟩,rfl,trivial⟩,trivial,trivial,trivial,trivial,trivial,trivial,trivial,trivial,⟨rfl,Z9 _ _⟩,⟨rfl,Z9 _ _⟩,⟨rfl,Z9 _ _⟩,⟨rfl,Z9 _ _⟩,⟨rfl,rfl,U3 _⟩,⟨rfl,Z9 _ _⟩,⟨rfl,Z9 _ _⟩,⟨rfl,Z9 _ _⟩,trivial⟩
  ·have hP:=b5j ho hu' (by simpa using hr)
   refine⟨(e.s,(e.s.log.length:Int),0),⟨⟨⟨rfl,rfl⟩,rfl,trivial⟩,⟨⟨rfl,rfl,⟨rfl,rfl⟩,⟨rfl,rfl⟩,rfl,⟨rfl,rfl⟩,rfl,⟨rfl,rfl⟩,rfl,⟨rfl,rfl⟩,rfl,trivial⟩,⟨rfl,Z9 _ _⟩,⟨rfl,Z9 _ _⟩,⟨rfl,Z9 _ _⟩,⟨rfl,Z9 _ _⟩,⟨rfl,rfl,U3 _⟩,trivial⟩,hP.f⟩,((K2 e).1,0),fun _=>⟨⟨⟨rfl,rfl⟩,trivial⟩,⟨⟨rfl,rfl,⟨rfl,rfl⟩,⟨rfl,rfl⟩,rfl,⟨rfl,rfl⟩,rfl,⟨rfl,rfl⟩,rfl,⟨rfl,rfl⟩,rfl,trivial⟩,⟨rfl,Z9 _ _⟩,⟨rfl,Z9 _ _⟩,⟨rfl,Z9 _ _⟩,⟨rfl,Z9 _ _⟩,⟨rfl,rfl,U3 _⟩,trivial⟩,a0b hP.fd.1,a4Q hP.fd.1⟩,fun hf=>⟨fun hy=> ?_,fun hy=> ?_⟩,fun hf=>⟨fun hy=> ?_,fun hy=> ?_⟩⟩
   ·have hf:(K2 e).2=true:=sN hf;have hy:(!(K2 e).2|| !(tY e).2)=true:=hy;rw[hf] at hy;rw[c5q hP hf (by simpa using hy)]
    exact⟨(rS e (C1 e),0),⟨⟨⟨rfl,rfl⟩,trivial⟩,⟨⟨rfl,rfl,⟨rfl,rfl⟩,⟨rfl,rfl⟩,rfl,⟨rfl,rfl⟩,rfl,⟨rfl,rfl⟩,rfl,⟨rfl,rfl⟩,rfl,rfl,⟨rfl,rfl⟩,⟨rfl,rfl⟩,⟨rfl,rfl⟩,rfl,trivial⟩,⟨rfl,Z9 _ _⟩,⟨rfl,Z9 _ _⟩,⟨rfl,Z9 _ _⟩,⟨rfl,Z9 _ _⟩,⟨rfl,rfl,U3 _⟩,⟨rfl,Z9 _ _⟩,⟨rfl,Z9 _ _⟩,⟨rfl,Z9 _ _⟩,trivial⟩,hP.yd.1⟩,⟨rfl,trivial⟩,⟨rfl,rfl,⟨rfl,rfl⟩,⟨rfl,rfl⟩,rfl,⟨rfl,rfl⟩,rfl,⟨rfl,rfl⟩,rfl,⟨rfl,rfl⟩,rfl,rfl,⟨rfl,rfl⟩,⟨rfl,rfl⟩,⟨rfl,rfl⟩,rfl,trivial⟩,trivial,trivial,trivial,trivial,trivial,trivial,trivial,trivial,⟨rfl,Z9 _ _⟩,⟨rfl,Z9 _ _⟩,⟨rfl,Z9 _ _⟩,⟨rfl,Z9 _ _⟩,⟨rfl,rfl,U3 _⟩,⟨rfl,Z9 _ _⟩,⟨rfl,Z9 _ _⟩,⟨rfl,Z9 _ _⟩,trivial⟩
   ·have hf:(K2 e).2=true:=sN hf;have hy:(!(K2 e).2|| !(tY e).2)=false:=hy;rw[hf] at hy;have hy:(tY e).2=true:=by simpa using hy
    have hfl:(K2 e).1.fr.length=e.s.fr.length:=by rw[hP.fr.2]
    have hll:(K2 e).1.log.length=e.s.log.length:=by rw[hP.fr.1]
    obtain⟨n1,n2,n3⟩:=hP.n;refine⟨rS e (C1 e),⟨⟨S7 _,S7 _,S7 _,S7 _,S7 _,S7 _,S7 _,S7 _⟩,⟨⟨⟨rfl,Z9 _ _⟩,⟨rfl,Z9 _ _⟩,rfl,⟨rfl,Z9 _ _⟩,rfl,⟨rfl,Z9 _ _⟩,rfl,⟨rfl,fun _ _=>rfl⟩,rfl,rfl,⟨rfl,Z9 _ _⟩,⟨rfl,Z9 _ _⟩,⟨rfl,Z9 _ _⟩,rfl,trivial⟩,trivial⟩,by show(K2 e).1.fr.length<=100;omega,by show e.txs.length<=100;omega⟩,?_⟩
    rw[c8j hP];have hck:(ckT e).length<=1048576:=by
     have:=uT (N9 e.s.fr e.s.fr.length) e.txs e.txs.length;have:=(mQ e.s.fr e.s.fr.length).2;unfold ckT;omega
    refine⟨(C1 e,a6n e,0),⟨⟨⟨rfl,rfl⟩,⟨rfl,rfl,rfl,rfl,rfl,rfl,rfl,rfl,rfl,rfl,trivial⟩,trivial⟩,⟨⟨rfl,rfl,⟨rfl,rfl⟩,⟨rfl,rfl⟩,rfl,⟨rfl,rfl⟩,rfl,⟨rfl,rfl⟩,rfl,⟨rfl,rfl⟩,rfl,trivial⟩,⟨rfl,Z9 _ _⟩,⟨rfl,Z9 _ _⟩,⟨rfl,Z9 _ _⟩,⟨rfl,Z9 _ _⟩,⟨rfl,rfl,U3 _⟩,trivial⟩,by show(K2 e).1.log.length<=60;omega,T0 _,hck⟩,?_⟩
    have eA:I6 (C1 e) (a6n e)=vQ e:=c1t hP.ok;dsimp only;rw[eA,c4K hP];refine⟨(vQ e,(e.s.log.length+1:Nat),0),⟨⟨⟨rfl,rfl⟩,rfl,trivial⟩,⟨⟨rfl,rfl,⟨rfl,rfl⟩,⟨rfl,rfl⟩,rfl,⟨rfl,rfl⟩,rfl,⟨rfl,rfl⟩,rfl,⟨rfl,rfl⟩,rfl,trivial⟩,⟨rfl,Z9 _ _⟩,⟨rfl,Z9 _ _⟩,⟨rfl,Z9 _ _⟩,⟨rfl,Z9 _ _⟩,⟨rfl,rfl,U3 _⟩,trivial⟩,hP.g⟩,fun hg=> ?_,fun hg=> ?_⟩
    ·have hg:(w2 e).2=false:=b47 hg;rw[c5i hP hf hy hg];exact⟨(rS e (w2 e).1,0),⟨⟨⟨rfl,rfl⟩,trivial⟩,⟨⟨rfl,rfl,⟨rfl,rfl⟩,⟨rfl,rfl⟩,rfl,⟨rfl,rfl⟩,rfl,⟨rfl,rfl⟩,rfl,⟨rfl,rfl⟩,rfl,rfl,⟨rfl,rfl⟩,⟨rfl,rfl⟩,⟨rfl,rfl⟩,rfl,trivial⟩,⟨rfl,Z9 _ _⟩,⟨rfl,Z9 _ _⟩,⟨rfl,Z9 _ _⟩,⟨rfl,Z9 _ _⟩,⟨rfl,rfl,U3 _⟩,⟨rfl,Z9 _ _⟩,⟨rfl,Z9 _ _⟩,⟨rfl,Z9 _ _⟩,trivial⟩,hP.gd.1⟩,⟨rfl,trivial⟩,⟨rfl,rfl,⟨rfl,rfl⟩,⟨rfl,rfl⟩,rfl,⟨rfl,rfl⟩,rfl,⟨rfl,rfl⟩,rfl,⟨rfl,rfl⟩,rfl,rfl,⟨rfl,rfl⟩,⟨rfl,rfl⟩,⟨rfl,rfl⟩,rfl,trivial⟩,trivial,trivial,trivial,trivial,trivial,trivial,trivial,trivial,⟨rfl,Z9 _ _⟩,⟨rfl,Z9 _ _⟩,⟨rfl,Z9 _ _⟩,⟨rfl,Z9 _ _⟩,⟨rfl,rfl,U3 _⟩,⟨rfl,Z9 _ _⟩,⟨rfl,Z9 _ _⟩,⟨rfl,Z9 _ _⟩,trivial⟩
    ·have hg:(w2 e).2=true:=sN hg;rw[c5N hP hf hy hg];exact⟨⟨rfl,trivial⟩,⟨rfl,rfl,⟨rfl,rfl⟩,⟨rfl,rfl⟩,rfl,⟨rfl,rfl⟩,rfl,⟨rfl,rfl⟩,rfl,⟨rfl,rfl⟩,rfl,rfl,⟨rfl,rfl⟩,⟨rfl,rfl⟩,⟨rfl,rfl⟩,rfl,trivial⟩,trivial,trivial,trivial,trivial,trivial,trivial,trivial,trivial,⟨rfl,Z9 _ _⟩,⟨rfl,Z9 _ _⟩,⟨rfl,Z9 _ _⟩,⟨rfl,Z9 _ _⟩,⟨rfl,rfl,U3 _⟩,⟨rfl,Z9 _ _⟩,⟨rfl,Z9 _ _⟩,⟨rfl,Z9 _ _⟩,trivial⟩
   ·have hf:(K2 e).2=false:=by
     cases h:(K2 e).2 with
     |false=>rfl
     |true=>
      have hf:(!(K2 e).2)=false->False:=hf;rw[h] at hf;exact absurd rfl hf
    rw[c5K hP hf];exact⟨(rS e (K2 e).1,0),⟨⟨⟨rfl,rfl⟩,trivial⟩,⟨⟨rfl,rfl,⟨rfl,rfl⟩,⟨rfl,rfl⟩,rfl,⟨rfl,rfl⟩,rfl,⟨rfl,rfl⟩,rfl,⟨rfl,rfl⟩,rfl,rfl,⟨rfl,rfl⟩,⟨rfl,rfl⟩,⟨rfl,rfl⟩,rfl,trivial⟩,⟨rfl,Z9 _ _⟩,⟨rfl,Z9 _ _⟩,⟨rfl,Z9 _ _⟩,⟨rfl,Z9 _ _⟩,⟨rfl,rfl,U3 _⟩,⟨rfl,Z9 _ _⟩,⟨rfl,Z9 _ _⟩,⟨rfl,Z9 _ _⟩,trivial⟩,hP.fd.1⟩,⟨rfl,trivial⟩,⟨rfl,rfl,⟨rfl,rfl⟩,⟨rfl,rfl⟩,rfl,⟨rfl,rfl⟩,rfl,⟨rfl,rfl⟩,rfl,⟨rfl,rfl⟩,rfl,rfl,⟨rfl,rfl⟩,⟨rfl,rfl⟩,⟨rfl,rfl⟩,rfl,trivial⟩,trivial,trivial,trivial,trivial,trivial,trivial,trivial,trivial,⟨rfl,Z9 _ _⟩,⟨rfl,Z9 _ _⟩,⟨rfl,Z9 _ _⟩,⟨rfl,Z9 _ _⟩,⟨rfl,rfl,U3 _⟩,⟨rfl,Z9 _ _⟩,⟨rfl,Z9 _ _⟩,⟨rfl,Z9 _ _⟩,trivial⟩
   ·have hy:(!(K2 e).2|| !(tY e).2)=false:=hy;exact absurd (by cases h:(K2 e).2 with
     |true=>show(!(K2 e).2)=false;rw[h];rfl
     |false=>rw[h] at hy;cases hy) hf
noncomputable def X2(e:Eng):Eng×Int:=if Q5 e=true then Y1 e else(c7L,1)
noncomputable def a4y:Rle:=⟨Eng,fun e=>[.agg e.ts],fun _=>[],fun e=>.tup [.agg ((X2 e).1.tm 0),.int .i64 (X2 e).2],fun e=>(X2 e).1.hp 0,fun e=>mD e/\L5 e⟩
noncomputable def c1l:Con:=.rmk a4y
noncomputable def c0x:Code:=Tryz.f29.body.getD .skip
theorem a6j:Z7 Tryz.prog 29:=⟨_,Tryz.func29,by kernel_rfl,by kernel_rfl⟩
theorem c2T(e:Eng)(h:
  ∃(x:yA.ι),(((j6 e x)/\True)/\mD x)/\((!Q5 x)=true->((((0=0/\0=(X2 e).fst.s.d.sec.length)/\(0=0/\0=(X2 e).fst.s.d.cache.length)/\false=(X2 e).fst.s.d.armed/\(0=0/\0=(X2
  e).fst.s.d.keep.length)/\(0:Int)=(X2 e).fst.s.ep/\(0=0/\0=(X2 e).fst.s.log.length)/\(0:Int)=(X2 e).fst.s.sure/\(0=0/\0=(X2 e).fst.s.fr.length)/\(0:Int)=(X2 e).fst.s.hand/\false=(X2
  e).fst.up/\(0=0/\0=(X2 e).fst.txs.length)/\(0=0/\0=(X2 e).fst.lk.held.length)/\(0=0/\0=(X2 e).fst.lk.waits.length)/\(0:Int)=(X2 e).fst.next/\True)/\(1:Int)=(X2 e).snd/\True)/\True)/\(0=
  (X2 e).fst.s.d.sec.length/\Z8 0 (fun(x:Nat)=>[]) (Z6 (X2 e).fst.s.d.sec))/\(0=(X2 e).fst.s.d.cache.length/\Z8 0 (fun(x:Nat)=>[]) (Z3 (X2 e).fst.s.d.cache))/\(0=(X2
  e).fst.s.d.keep.length/\Z8 0 (fun(x:Nat)=>[]) (Y8 (X2 e).fst.s.d.keep))/\(0=(X2 e).fst.s.log.length/\Z8 0 (fun(x:Nat)=>[]) (Y5 (X2 e).fst.s.log))/\(0=0/\0=(X2 e).fst.s.fr.length/\T5
  0 (fun(x:Nat)=>[]) (X9 (X2 e).fst.s.fr))/\(0=(X2 e).fst.txs.length/\Z8 0 (fun(x:Nat)=>[]) (Y0 (X2 e).fst.txs))/\(0=(X2 e).fst.lk.held.length/\Z8 0 (fun(x:Nat)=>[]) (Y2 (X2
  e).fst.lk.held))/\(0=(X2 e).fst.lk.waits.length/\Z8 0 (fun(x:Nat)=>[]) (X3 (X2 e).fst.lk.waits))/\True)/\((!Q5 x)=false->∃(x:Eng),(((j6 e x)/\True)/\L5 x)/\∃(x_1:Eng),(((0=0/\0=0)/\
  True)/\((1=1/\1=1/\b10 x x_1)/\b2Y (0) (0) x x_1)/\Q5 x_1=true/\mD x_1)/\∃(x:Eng),((LeG (Y1 x_1).fst)/\((jA (Y1 x_1).fst x)/\True)/\L5 x)/\(((b10 x (X2 e).fst)/\(Y1 x_1).snd=(X2
  e).snd/\True)/\True)/\b2Y (0) (0) x (X2 e).fst)):
  V3 Tryz.prog 29 [.agg e.ts] [] (.tup [.agg ((X2 e).1.tm 0),.int .i64 (X2 e).2]) ((X2 e).1.hp 0):=
 v5 (code:=c0x) (gC cW mI (gC b9J a8d (gC b5b a6s gN))) Tryz.func29 (by kernel_rfl) (by kernel_rfl) Z0 [[.nilS 0 [0,0] 0 1,.nilS 0 [0,1] 0 2,.nilS 0 [0,3] 0 1,.nilS 0 [0,5] 0 10,.nilS 0 [0,7] 0 5,.nilS 0 [0,10] 0 2,.nilS 0 [0,11] 0 4,.nilS 0 [0,12] 0 2,.fav 0 [0,7],.vl 0 [0,0],.vl 0 [0,1],.vl 0 [0,3],.vl 0 [0,5],.vl 0 [0,7],.vl 0 [0,10],.vl 0 [0,11],.vl 0 [0,12]],[.vl 0 [0,0],.vl 0 [0,1],.vl 0 [0,3],.vl 0 [0,5],.vl 0 [0,7],.vl 0 [0,10],.vl 0 [0,11],.vl 0 [0,12]]] h (by kernel_rfl)
theorem co1{e:Eng}(h:(!Q5 e)=true):X2 e=(c7L,1):=by unfold X2;rw[if_neg (by simpa using h)]
theorem co2{e:Eng}(h:(!Q5 e)=false):X2 e=Y1 e:=by unfold X2;rw[if_pos (by simpa using h)]
theorem eU{e:Eng}(h:L5 e)(ho:Q5 e=true):L5 (Y1 e).1:=by
 cases hu:e.up with
 |false=>rw[b59 (by rw[hu];rfl)];exact h
 |true=>
  by_cases hn:(e.s.log.length:Int)+sZ e+1<=60
  ·have hP:=b5j ho hu hn;obtain⟨n1,n2,n3⟩:=hP.n;cases hf:(K2 e).2 with
   |false=>rw[c5K hP hf];exact a7q hP.fd.1
   |true=>
    cases hy:(tY e).2 with
    |false=>rw[c5q hP hf hy];exact a7q hP.yd.1
    |true=>
     cases hg:(w2 e).2 with
     |false=>rw[c5i hP hf hy hg];exact a7q hP.gd.1
     |true=>
      rw[c5N hP hf hy hg];obtain⟨f1,f2⟩:=a3Q (vQ e) (e.s.log.length+1:Nat);have f2:(w2 e).1.fr=e.s.fr:=f2.trans hP.fr.2;have f1:(w2 e).1.log=(vQ e).log:=f1;refine⟨⟨a0b hP.gd.1,?_,?_,?_⟩,h.2.1,h.2.2⟩
      ·show(w2 e).1.log.length<=_;rw[f1,c4K hP];omega
      ·show(w2 e).1.fr.length<=_;rw[f2];omega
      ·show ∀i,i<(w2 e).1.fr.length->SmF ((w2 e).1.fr.getD i default);rw[f2];exact h.1.2.2.2
  ·rw[b7Q (by rw[hu];rfl) hn];exact h
theorem c3S{e:Eng}(h:L5 e):L5 (X2 e).1:=by
 unfold X2;split
 ·rename_i ho;exact eU h ho
 ·exact⟨⟨⟨T0 _,T0 _,T0 _⟩,T0 _,T0 _,fun i hi=>absurd hi (J2 _)⟩,T0 _,T0 _,T0 _⟩
theorem b6X:Z1 Tryz.prog 29 c1l:=by
 rintro(e:Eng) ⟨h1,h2⟩;refine⟨c2T e ⟨e,⟨⟨u7 _,trivial⟩,h1⟩,fun hq=> ?_,fun hq=> ?_⟩,rfl,rD _ 0⟩
 ·rw[co1 hq];exact⟨⟨⟨⟨⟨rfl,rfl⟩,⟨rfl,rfl⟩,rfl,⟨rfl,rfl⟩,rfl,⟨rfl,rfl⟩,rfl,⟨rfl,rfl⟩,rfl,rfl,⟨rfl,rfl⟩,⟨rfl,rfl⟩,⟨rfl,rfl⟩,rfl,trivial⟩,rfl,trivial⟩,trivial⟩,⟨rfl,U1⟩,⟨rfl,U1⟩,⟨rfl,U1⟩,⟨rfl,U1⟩,⟨rfl,rfl,fun i hi=>absurd hi (J2 _)⟩,⟨rfl,U1⟩,⟨rfl,U1⟩,⟨rfl,U1⟩,trivial⟩
 ·have ho:Q5 e=true:=sN hq;rw[co2 hq];exact⟨e,⟨⟨u7 _,trivial⟩,h2⟩,e,⟨⟨⟨rfl,rfl⟩,trivial⟩,⟨⟨rfl,rfl,⟨rfl,rfl⟩,⟨rfl,rfl⟩,rfl,⟨rfl,rfl⟩,rfl,⟨rfl,rfl⟩,rfl,⟨rfl,rfl⟩,rfl,rfl,⟨rfl,rfl⟩,⟨rfl,rfl⟩,⟨rfl,rfl⟩,rfl,trivial⟩,⟨rfl,Z9 _ _⟩,⟨rfl,Z9 _ _⟩,⟨rfl,Z9 _ _⟩,⟨rfl,Z9 _ _⟩,⟨rfl,rfl,U3 _⟩,⟨rfl,Z9 _ _⟩,⟨rfl,Z9 _ _⟩,⟨rfl,Z9 _ _⟩,trivial⟩,ho,h1⟩,(Y1 e).1,⟨⟨S7 _,S7 _,S7 _,S7 _,S7 _,S7 _,S7 _,S7 _⟩,⟨⟨⟨rfl,Z9 _ _⟩,⟨rfl,Z9 _ _⟩,rfl,⟨rfl,Z9 _ _⟩,rfl,⟨rfl,Z9 _ _⟩,rfl,⟨rfl,fun _ _=>rfl⟩,rfl,rfl,⟨rfl,Z9 _ _⟩,⟨rfl,Z9 _ _⟩,⟨rfl,Z9 _ _⟩,rfl,trivial⟩,trivial⟩,eU h2 ho⟩,⟨⟨⟨⟨rfl,rfl⟩,⟨rfl,rfl⟩,rfl,⟨rfl,rfl⟩,rfl,⟨rfl,rfl⟩,rfl,⟨rfl,rfl⟩,rfl,rfl,⟨rfl,rfl⟩,⟨rfl,rfl⟩,⟨rfl,rfl⟩,rfl,trivial⟩,rfl,trivial⟩,trivial⟩,⟨rfl,Z9 _ _⟩,⟨rfl,Z9 _ _⟩,⟨rfl,Z9 _ _⟩,⟨rfl,Z9 _ _⟩,⟨rfl,rfl,U3 _⟩,⟨rfl,Z9 _ _⟩,⟨rfl,Z9 _ _⟩,⟨rfl,Z9 _ _⟩,trivial⟩
def a4I:Con:=.rel ⟨List Dr×List Txn,fun x=>[drS x.1,B4 x.2],fun x=>.str (c9 x.1 x.2 x.2.length),fun x=>x.1.length<=100/\x.2.length<=100⟩
def a59(P:List Dr)(L:List Txn):Nat->Ann
 |0=>.one {i:Nat//i<=P.length} (fun x=>⟨[(0,drS P),(1,B4 L),(5,.osl 0 0 (yP P x.1).length),(6,.int .i64 x.1)],[some (.bys 5 (yP P x.1))]⟩) (fun x=>P.length-x.1) [.at_ 5] [.at_ 5] fun _=>fun
  |1=>.one {i:Nat//i<=L.length} (fun x=>⟨[(1,B4 L),(5,.osl 0 0 (c9 P L x.1).length),(7,.int .i64 x.1)],[some (.bys 5 (c9 P L x.1))]⟩) (fun x=>L.length-x.1) [.at_ 5] [.at_ 5] (fun _=>Z0)
  |_=>.none
 |_=>.none
noncomputable def a7Y:Code:=Tryz.f127.body.getD .skip
theorem jV:Z7 Tryz.prog 127:=⟨_,Tryz.func127,by kernel_rfl,by kernel_rfl⟩
theorem a4q(P:List Dr)(L:List Txn)(h:
  X8 IntKind.u8 (IntKind.u8.wrap (P.length:Int))/\(∃(x:{i:Nat//i<=P.length}),((Y4 U6 P P)/\(Y4 Y0 L L)/\(0=0/\1=(yP P x.val).length)/\(0:Int)=(x.val:Int)/\True)/\List.map P4 [IntKind.u8.wrap
  (P.length:Int)]=yP P x.val/\True)/\∀(x:{i:Nat//i<=P.length}),(decide ((x.val:Int)<(P.length:Int))=true->X0 (x.val:Int) P.length/\X0 (0:Int) 2/\X0 (x.val:Int) P.length/\X0 (1:Int) 2/\(X8 IntKind.u8
  (IntKind.u8.wrap (P.getD (x.val:Int).toNat default).no)/\X8 IntKind.u8 (IntKind.u8.wrap (P.getD (x.val:Int).toNat default).first))/\(Le 2 2/\Le (yP P x.val).length (yP P x.val).length/\V7 (yP P x.val).length 2 1)/\X8
  .i64 ((x.val:Int)+(1:Int))/\∃(y:{i:Nat//i<=P.length}),(((Y4 U6 P P)/\(Y4 Y0 L L)/\(0=0/\(yP P x.val).length+2=(yP P y.val).length)/\(x.val:Int)+(1:Int)=(y.val:Int)/\True)/\List.take
  (yP P x.val).length (yP P x.val)++List.take 2 (List.drop 0 (List.map P4 [IntKind.u8.wrap (P.getD (x.val:Int).toNat default).no,IntKind.u8.wrap (P.getD (x.val:Int).toNat default).first]))=yP P y.val/\True)/\Lt (P.length
  -y.val) (P.length-x.val))/\(decide ((x.val:Int)<(P.length:Int))=false->X8 IntKind.u8 (IntKind.u8.wrap (L.length:Int))/\(Le 1 1/\Le (yP P x.val).length (yP P x.val).length/\V7 (yP P x.val).length 1 1)/\(∃(x_1:
  {i:Nat//i<=L.length}),((Y4 Y0 L L)/\(0=0/\(yP P x.val).length+1=(c9 P L x_1.val).length)/\(0:Int)=(x_1.val:Int)/\True)/\List.take (yP P x.val).length (yP P x.val)++List.take 1 (List.drop 0
  (List.map P4 [IntKind.u8.wrap (L.length:Int)]))=c9 P L x_1.val/\True)/\∀(x:{i:Nat//i<=L.length}),(decide ((x.val:Int)<(L.length:Int))=true->X0 (x.val:Int) L.length/\X0 (0:Int) 2/\X0 (x.val:Int)
  L.length/\X0 (1:Int) 2/\(X8 IntKind.u8 (IntKind.u8.wrap (L.getD (x.val:Int).toNat default).id)/\X8 IntKind.u8 (IntKind.u8.wrap (L.getD (x.val:Int).toNat default).last))/\(Le 2 2/\Le (c9 P L x.val).length (c9 P L
  x.val).length/\V7 (c9 P L x.val).length 2 1)/\X8 .i64 ((x.val:Int)+(1:Int))/\∃(y:{i:Nat//i<=L.length}),(((Y4 Y0 L L)/\(0=0/\(c9 P L x.val).length+2=(c9 P L y.val).length)/\(x.val:Int)+(1:
  Int)=(y.val:Int)/\True)/\List.take (c9 P L x.val).length (c9 P L x.val)++List.take 2 (List.drop 0 (List.map P4 [IntKind.u8.wrap (L.getD (x.val:Int).toNat default).id,IntKind.u8.wrap (L.getD (x.val:Int).toNat
  default).last]))=c9 P L y.val/\True)/\Lt (L.length-y.val) (L.length-x.val))/\(decide ((x.val:Int)<(L.length:Int))=false->Le (0+(c9 P L x.val).length) (c9 P L x.val).length/\List.take (c9 P L x.val).length
  (List.drop 0 (c9 P L x.val))=c9 P L L.length))):
  Z2 Tryz.prog 127 [drS P,B4 L] (.str (c9 P L L.length)):=
 T4 (code:=a7Y) gN Tryz.func127 (by kernel_rfl) (by kernel_rfl) (a59 P L) h (by kernel_rfl)
theorem a1m:Z1 Tryz.prog 127 a4I:=by
 rintro⟨P,L⟩ ⟨hP,hL⟩;dsimp only at hP hL;refine a4q P L ⟨T3 _,⟨⟨0,T0 _⟩,(by repeat' first|exact trivial|exact rfl|exact Z9 _ _|exact U3 _|exact U1|exact S7 _|exact V5 _|exact T0 _|refine And.intro ?_ ?_)⟩,fun y=>⟨fun hc=> ?_,fun hc=> ?_⟩⟩
 ·have hlt:=Y9 hc;have hl:=uN P y.val;have hl2:=uN P (y.val+1);rw[v4,nQ];exact⟨Y7 hlt,by unfold X0;omega,Y7 hlt,by unfold X0;omega,⟨T3 _,T3 _⟩,⟨V5 _,V5 _,by unfold V7;omega⟩,Z5 (by omega),⟨y.val+1,hlt⟩,⟨⟨⟨rfl,Z9 _ _⟩,⟨rfl,Z9 _ _⟩,⟨rfl,by dsimp only;omega⟩,by dsimp only;omega,trivial⟩,rfl,trivial⟩,V9.ext_lt hlt⟩
 ·have hy:y.val=P.length:=by have:=y.2;have:=Y3 hc;omega
  rw[hy,nQ];have hl:=uN P P.length;have hl0:=uT P L 0;refine⟨T3 _,⟨V5 _,V5 _,by unfold V7;omega⟩,⟨⟨0,T0 _⟩,⟨⟨rfl,Z9 _ _⟩,⟨rfl,by dsimp only;omega⟩,rfl,trivial⟩,(List.append_nil _).symm,trivial⟩,fun z=>⟨fun hc=> ?_,fun hc=> ?_⟩⟩
  ·have hlt:=Y9 hc;have hl:=uT P L z.val;have hl2:=uT P L (z.val+1);rw[v4,nQ];exact⟨Y7 hlt,by unfold X0;omega,Y7 hlt,by unfold X0;omega,⟨T3 _,T3 _⟩,⟨V5 _,V5 _,by unfold V7;omega⟩,Z5 (by omega),⟨z.val+1,hlt⟩,⟨⟨⟨rfl,Z9 _ _⟩,⟨rfl,by dsimp only;omega⟩,by dsimp only;omega,trivial⟩,List.append_assoc _ _ _,trivial⟩,V9.ext_lt hlt⟩
  ·have hz:z.val=L.length:=by have:=z.2;have:=Y3 hc;omega
   rw[hz,List.drop_zero,nQ];exact⟨S7 _,rfl⟩
noncomputable def G1(e:Eng):{p:Eng//p=rS e (C1 e)}:=Classical.choice ⟨⟨_,rfl⟩⟩
def zBx:Option Ob:=some (.arr true 1000000 14 1 fun _=>zW)
def c4O(s:Sto):Option Ob:=some (.arr true 1000000 9 1 fun _=>s.ts)
noncomputable def a4t(e:Eng):Nat->Ann
 |0=>.one {i:Nat//i<=8} (fun x=>⟨[(1,.ref 0 0 0),(2,.ref 1 0 0),(4,.ref 2 0 0),(8,.osl 3 0 (L9 e.s.fr x.1).length),(9,.int .i64 x.1)],[xE (G1 e).1,zBx,c4O (G1 e).1.s,vJ (L9 e.s.fr x.1)]⟩) (fun x=>8-x.1) [.at_ 1,.at_ 2,.at_ 4,.at_ 8] [.at_ 1,.at_ 2,.at_ 4,.at_ 8] fun _=>fun
  |1=>.one {i:Nat//i<=e.txs.length} (fun x=>⟨[(1,.ref 0 0 0),(2,.ref 1 0 0),(4,.ref 2 0 0),(8,.osl 3 0 (L9 e.s.fr 8).length),(11,.osl 4 0 x.1),(12,.int .i64 x.1)],[xE (G1 e).1,zBx,c4O (G1 e).1.s,vJ (L9 e.s.fr 8),some (.arr true 0 2 x.1 (Y0 e.txs))]⟩) (fun x=>e.txs.length-x.1) [.at_ 1,.at_ 2,.at_ 4,.at_ 8,.at_ 11] [.at_ 1,.at_ 2,.at_ 4,.at_ 8,.at_ 11] (fun _=>Z0)
  |_=>.none
 |_=>.none
noncomputable def a4l:Con:=.rel ⟨Eng,fun e=>[.agg e.ts],fun e=>.tup [.agg (Y1 e).1.ts,.int .i64 (Y1 e).2],fun e=>Q5 e=true⟩
noncomputable def a4B:Code:=Tryz.f62.body.getD .skip
theorem iO:Z7 Tryz.prog 62:=⟨_,Tryz.func62,by kernel_rfl,by kernel_rfl⟩
theorem a4g(e:Eng)(h:
  ((!e.up)=true->(j6 e (Y1 e).fst)/\(15:Int)=(Y1 e).snd/\True)/\((!e.up)=false->X8 .i64 ((e.s.log.length:Int)+(1:Int))/\∃(x:Eng),(((j6 e x)/\True)/\jZ x)/\X8 .i64 ((e.s.log.length:Int)+(1:Int)
  +(↑(sZ x):Int))/\(decide ((e.s.log.length:Int)+(1:Int)+(↑(sZ x):Int)>(60:Int))=true->(j6 e (Y1 e).fst)/\(7:Int)=(Y1 e).snd/\True)/\(decide ((e.s.log.length:Int)+(1:Int)+(↑(sZ x):Int)>(60
  :Int))=false->∃(x:(Sto×Int)),(((xM e.s x.fst)/\(e.s.log.length:Int)=x.snd/\True)/\xO x.fst x.snd)/\((X1 x.fst x.snd).snd=true->∃(x_1:Dsk),(((zR (X1 x.fst x.snd).fst.d x_1)/\True)/\pD x_1/\PdB
  x_1)/\((!(V4 x_1).snd)=true->∃(x_2:(Eng×Dsk)),(((b0h (V4 x_1).fst (X1 x.fst x.snd).fst e x_2.fst)/\(zR (V4 x_1).fst x_2.snd)/\True)/\G7 x_2.snd/\x_2.snd.sec.length=69)/\((Y4 Z6 x_2.snd.sec (Y1
  e).fst.s.d.sec)/\(Y4 Z3 x_2.snd.cache (Y1 e).fst.s.d.cache)/\x_2.snd.armed=(Y1 e).fst.s.d.armed/\(Y4 Y8 x_2.snd.keep (Y1 e).fst.s.d.keep)/\x_2.fst.s.ep=(Y1 e).fst.s.ep/\(Y4 Y5 (D7 x_2.snd (v8
  x_2.snd x_2.fst.s.ep)) (Y1 e).fst.s.log)/\(↑(v8 x_2.snd x_2.fst.s.ep):Int)=(Y1 e).fst.s.sure/\(0=(Y1 e).fst.s.fr.length/\Z8 0 (V6 []) (V6 (Y1 e).fst.s.fr))/\(0:Int)=(Y1 e).fst.s.hand/\false=
  (Y1 e).fst.up/\(0=(Y1 e).fst.txs.length/\Z8 0 (Y0 []) (Y0 (Y1 e).fst.txs))/\(0=(Y1 e).fst.lk.held.length/\Z8 0 (Y2 []) (Y2 (Y1 e).fst.lk.held))/\(0=(Y1 e).fst.lk.waits.length/\Z8
  0 (X3 []) (X3 (Y1 e).fst.lk.waits))/\x_2.fst.next=(Y1 e).fst.next/\True)/\(15:Int)=(Y1 e).snd/\True)/\((!(V4 x_1).snd)=false->(∃(x_2:{i:Nat//i<=8}),((0=0/\0=0)/\(0=0/\0=0)/\(0=0
  /\0=0)/\(0=0/\0=(L9 e.s.fr x_2.val).length)/\(0:Int)=(x_2.val:Int)/\True)/\(1=1/\Z8 1 (setRow (fun(x:Nat)=>e.ts) 0 0 [T.sl 1 (V4 x_1).fst.sec.length (Z6 (V4 x_1).fst.sec),T.sl 2 (V4
  x_1).fst.cache.length (Z3 (V4 x_1).fst.cache),T.bool (V4 x_1).fst.armed,T.sl 1 (V4 x_1).fst.keep.length (Y8 (V4 x_1).fst.keep),T.int .i64 (X1 x.fst x.snd).fst.ep,T.sl 10 (X1 x.fst x.snd).fst.log.length
  (Y5 (X1 x.fst x.snd).fst.log),T.int .i64 (X1 x.fst x.snd).fst.sure,T.sl 5 (X1 x.fst x.snd).fst.fr.length (V6 (X1 x.fst x.snd).fst.fr),T.int .i64 (X1 x.fst x.snd).fst.hand]) fun(x:Nat)=>(G1 e).val.ts)/\
  (1=1/\Z8 1 (fun(x:Nat)=>zW) fun(x:Nat)=>zW)/\(1=1/\Z8 1 (setRow (setRow (fun(x:Nat)=>zS9) 0 0 (X1 x.fst x.snd).fst.ts) 0 0 (V4 x_1).fst.ts) fun(x:Nat)=>(G1 e).val.s.ts)/\(0=(L9
  e.s.fr x_2.val).length/\Z8 0 (fun(k:Nat)=>List.take 2 (List.drop (k*2) [])) (U6 (L9 e.s.fr x_2.val)))/\True)/\∀(x:{i:Nat//i<=8}),(decide ((x.val:Int)<(8:Int))=true->∃(x_2:xU.ι),
  (((xM (G1 e).val.s x_2.fst)/\(x.val:Int)=x_2.snd/\True)/\K6 x_2.fst.fr.length)/\(decide (frAt x_2.fst.fr x_2.snd≥(0:Int))=true->X0 (frAt x_2.fst.fr x_2.snd) (G1 e).val.s.fr.length)/\((decide (frAt x_2.fst.fr
  x_2.snd≥(0:Int))&&((G1 e).val.s.fr.getD (frAt x_2.fst.fr x_2.snd).toNat default).dirty)=true->X0 (frAt x_2.fst.fr x_2.snd) (G1 e).val.s.fr.length/\(Le 1 1/\Le (L9 e.s.fr x.val).length (L9 e.s.fr x.val).length/\
  V7 (L9 e.s.fr x.val).length 1 16)/\X8 .i64 ((x.val:Int)+(1:Int))/\∃(y:{i:Nat//i<=8}),(((0=0/\0=0)/\(0=0/\0=0)/\(0=0/\0=0)/\(0=0/\(L9 e.s.fr x.val).length+1=(L9 e.s.fr y.val).length)
  /\(x.val:Int)+(1:Int)=(y.val:Int)/\True)/\(1=1/\Z8 1 (fun(x:Nat)=>(G1 e).val.ts) fun(x:Nat)=>(G1 e).val.ts)/\(1=1/\Z8 1 (fun(x:Nat)=>zW) fun(x:Nat)=>zW)/\(1=1/\Z8 1 (fun(x
  :Nat)=>(G1 e).val.s.ts) fun(x:Nat)=>(G1 e).val.s.ts)/\((L9 e.s.fr x.val).length+1=(L9 e.s.fr y.val).length/\Z8 ((L9 e.s.fr x.val).length+1) (W6 (U6 (L9 e.s.fr x.val)) (L9 e.s.fr x.val).length fun
  (k:Nat)=>List.take 2 (List.drop (k*2) [T.int .i64 (x.val:Int),T.int .i64 ((G1 e).val.s.fr.getD (frAt x_2.fst.fr x_2.snd).toNat default).first])) (U6 (L9 e.s.fr y.val)))/\True)/\Lt (8-y.val) (8-x.val))/\((decide
  (frAt x_2.fst.fr x_2.snd≥(0:Int))&&((G1 e).val.s.fr.getD (frAt x_2.fst.fr x_2.snd).toNat default).dirty)=false->X8 .i64 ((x.val:Int)+(1:Int))/\∃(y:{i:Nat//i<=8}),(((0=0/\0=0)/\(0=0/\0=0)/\(0
  =0/\0=0)/\(0=0/\(L9 e.s.fr x.val).length=(L9 e.s.fr y.val).length)/\(x.val:Int)+(1:Int)=(y.val:Int)/\True)/\(1=1/\Z8 1 (fun(x:Nat)=>(G1 e).val.ts) fun(x:Nat)=>(G1 e).val.ts)/\(1=1/\
  Z8 1 (fun(x:Nat)=>zW) fun(x:Nat)=>zW)/\(1=1/\Z8 1 (fun(x:Nat)=>(G1 e).val.s.ts) fun(x:Nat)=>(G1 e).val.s.ts)/\(Y4 U6 (L9 e.s.fr x.val) (L9 e.s.fr y.val))/\True)/\Lt (8-y.val) (8-
  x.val)))/\(decide ((x.val:Int)<(8:Int))=false->(∃(x_2:{i:Nat//i<=e.txs.length}),((0=0/\0=0)/\(0=0/\0=0)/\(0=0/\0=0)/\(0=0/\(L9 e.s.fr x.val).length=(L9 e.s.fr 8).length)/\(0=0/\0=
  x_2.val)/\(0:Int)=(x_2.val:Int)/\True)/\(1=1/\Z8 1 (fun(x:Nat)=>(G1 e).val.ts) fun(x:Nat)=>(G1 e).val.ts)/\(1=1/\Z8 1 (fun(x:Nat)=>zW) fun(x:Nat)=>zW)/\(1=1/\Z8 1 (fun(x:
  Nat)=>(G1 e).val.s.ts) fun(x:Nat)=>(G1 e).val.s.ts)/\(Y4 U6 (L9 e.s.fr x.val) (L9 e.s.fr 8))/\(0=x_2.val/\Z8 0 (fun(k:Nat)=>List.take 2 (List.drop (k*2) [])) (Y0 e.txs))/\True)/\∀(x:{i:
  Nat//i<=e.txs.length}),(decide ((x.val:Int)<(↑(G1 e).val.txs.length:Int))=true->X0 (x.val:Int) (G1 e).val.txs.length/\X0 (x.val:Int) (G1 e).val.txs.length/\(Le 1 1/\Le x.val x.val/\V7 x.val 1 16)/\X8 .i64
  ((x.val:Int)+(1:Int))/\∃(y:{i:Nat//i<=e.txs.length}),(((0=0/\0=0)/\(0=0/\0=0)/\(0=0/\0=0)/\(0=0/\(L9 e.s.fr 8).length=(L9 e.s.fr 8).length)/\(0=0/\x.val+1=y.val)/\(x.val:Int)+(1
  :Int)=(y.val:Int)/\True)/\(1=1/\Z8 1 (fun(x:Nat)=>(G1 e).val.ts) fun(x:Nat)=>(G1 e).val.ts)/\(1=1/\Z8 1 (fun(x:Nat)=>zW) fun(x:Nat)=>zW)/\(1=1/\Z8 1 (fun(x:Nat)=>(G1
  e).val.s.ts) fun(x:Nat)=>(G1 e).val.s.ts)/\(Y4 U6 (L9 e.s.fr 8) (L9 e.s.fr 8))/\(x.val+1=y.val/\Z8 (x.val+1) (W6 (Y0 e.txs) x.val fun(k:Nat)=>List.take 2 (List.drop (k*2) [T.int .i64 ((G1
  e).val.txs.getD (x.val:Int).toNat default).id,T.int .i64 ((G1 e).val.txs.getD (x.val:Int).toNat default).last])) (Y0 e.txs))/\True)/\Lt (e.txs.length-y.val) (e.txs.length-x.val))/\(decide ((x.val:Int)<(↑(G1
  e).val.txs.length:Int))=false->∃(x_2:(List Dr×List Txn)),((Le (0+(L9 e.s.fr 8).length) (L9 e.s.fr 8).length/\Le (0+x.val) x.val)/\((Y4 U6 (L9 e.s.fr 8) x_2.fst)/\(x.val=x_2.snd.length/\Z8 x.val
  (Y0 e.txs) (Y0 x_2.snd))/\True)/\x_2.fst.length<=100/\x_2.snd.length<=100)/\∃(x:(Sto×Rec)),(((xM (G1 e).val.s x.fst)/\((0:Int)=x.snd.e/\(0:Int)=x.snd.l/\(0:Int)=x.snd.t/\(6:Int)=x.snd.k/\
  (0:Int)=x.snd.p/\(0:Int)=x.snd.n/\(0:Int)=x.snd.g/\(0:Int)=x.snd.s/\[]=x.snd.b/\c9 x_2.fst x_2.snd x_2.snd.length=x.snd.a/\True)/\True)/\x.fst.log.length<=1000)/\∃(x_3:(Sto×Int)),((((Y4 Z6
  x.fst.d.sec x_3.fst.d.sec)/\(Y4 Z3 x.fst.d.cache x_3.fst.d.cache)/\x.fst.d.armed=x_3.fst.d.armed/\(Y4 Y8 x.fst.d.keep x_3.fst.d.keep)/\x.fst.ep=x_3.fst.ep/\(Y4 Y5 (x.fst.log++[D5 x.fst x.snd])
  x_3.fst.log)/\x.fst.sure=x_3.fst.sure/\(Y4 V6 x.fst.fr x_3.fst.fr)/\x.fst.hand=x_3.fst.hand/\True)/\(↑(x.fst.log.length+1):Int)=x_3.snd/\True)/\xO x_3.fst x_3.snd)/\((!(X1 x_3.fst x_3.snd).snd)=true->
  ∃(x:(Eng×Dsk)),(((b0h (X1 x_3.fst x_3.snd).fst.d (X1 x_3.fst x_3.snd).fst (G1 e).val x.fst)/\(zR (X1 x_3.fst x_3.snd).fst.d x.snd)/\True)/\G7 x.snd/\x.snd.sec.length=69)/\((Y4 Z6 x.snd.sec (Y1
  e).fst.s.d.sec)/\(Y4 Z3 x.snd.cache (Y1 e).fst.s.d.cache)/\x.snd.armed=(Y1 e).fst.s.d.armed/\(Y4 Y8 x.snd.keep (Y1 e).fst.s.d.keep)/\x.fst.s.ep=(Y1 e).fst.s.ep/\(Y4 Y5 (D7 x.snd (v8 x.snd
  x.fst.s.ep)) (Y1 e).fst.s.log)/\(↑(v8 x.snd x.fst.s.ep):Int)=(Y1 e).fst.s.sure/\(0=(Y1 e).fst.s.fr.length/\Z8 0 (V6 []) (V6 (Y1 e).fst.s.fr))/\(0:Int)=(Y1 e).fst.s.hand/\false=(Y1
  e).fst.up/\(0=(Y1 e).fst.txs.length/\Z8 0 (Y0 []) (Y0 (Y1 e).fst.txs))/\(0=(Y1 e).fst.lk.held.length/\Z8 0 (Y2 []) (Y2 (Y1 e).fst.lk.held))/\(0=(Y1 e).fst.lk.waits.length/\Z8 0
  (X3 []) (X3 (Y1 e).fst.lk.waits))/\x.fst.next=(Y1 e).fst.next/\True)/\(15:Int)=(Y1 e).snd/\True)/\((!(X1 x_3.fst x_3.snd).snd)=false->(b0h (X1 x_3.fst x_3.snd).fst.d (X1 x_3.fst x_3.snd).fst (G1
  e).val (Y1 e).fst)/\(0:Int)=(Y1 e).snd/\True)))))/\((X1 x.fst x.snd).snd=false->((!(X1 x.fst x.snd).snd)=true->∃(x_1:(Eng×Dsk)),(((b0h (X1 x.fst x.snd).fst.d (X1 x.fst x.snd).fst e x_1.fst)/\(zR
  (X1 x.fst x.snd).fst.d x_1.snd)/\True)/\G7 x_1.snd/\x_1.snd.sec.length=69)/\((Y4 Z6 x_1.snd.sec (Y1 e).fst.s.d.sec)/\(Y4 Z3 x_1.snd.cache (Y1 e).fst.s.d.cache)/\x_1.snd.armed=(Y1 e).fst.s.d.armed/\
  (Y4 Y8 x_1.snd.keep (Y1 e).fst.s.d.keep)/\x_1.fst.s.ep=(Y1 e).fst.s.ep/\(Y4 Y5 (D7 x_1.snd (v8 x_1.snd x_1.fst.s.ep)) (Y1 e).fst.s.log)/\(↑(v8 x_1.snd x_1.fst.s.ep):Int)=(Y1 e).fst.s.sure/\(0=(Y1
  e).fst.s.fr.length/\Z8 0 (V6 []) (V6 (Y1 e).fst.s.fr))/\(0:Int)=(Y1 e).fst.s.hand/\false=(Y1 e).fst.up/\(0=(Y1 e).fst.txs.length/\Z8 0 (Y0 []) (Y0 (Y1 e).fst.txs))/\(0=(Y1
  e).fst.lk.held.length/\Z8 0 (Y2 []) (Y2 (Y1 e).fst.lk.held))/\(0=(Y1 e).fst.lk.waits.length/\Z8 0 (X3 []) (X3 (Y1 e).fst.lk.waits))/\x_1.fst.next=(Y1 e).fst.next/\True)/\(15:Int)=(Y1
  e).snd/\True)/\((!(X1 x.fst x.snd).snd)=false->(∃(x_1:{i:Nat//i<=8}),((0=0/\0=0)/\(0=0/\0=0)/\(0=0/\0=0)/\(0=0/\0=(L9 e.s.fr x_1.val).length)/\(0:Int)=(x_1.val:Int)/\True)/\(1=1/\
  Z8 1 (setRow (fun(x:Nat)=>e.ts) 0 0 (X1 x.fst x.snd).fst.ts) fun(x:Nat)=>(G1 e).val.ts)/\(1=1/\Z8 1 (fun(x:Nat)=>zW) fun(x:Nat)=>zW)/\(1=1/\Z8 1 (setRow (fun(x:Nat)=>zS9) 0 0
  (X1 x.fst x.snd).fst.ts) fun(x:Nat)=>(G1 e).val.s.ts)/\(0=(L9 e.s.fr x_1.val).length/\Z8 0 (fun(k:Nat)=>List.take 2 (List.drop (k*2) [])) (U6 (L9 e.s.fr x_1.val)))/\True)/\∀(x:{i:Nat//i<=8
  }),(decide ((x.val:Int)<(8:Int))=true->∃(x_1:xU.ι),(((xM (G1 e).val.s x_1.fst)/\(x.val:Int)=x_1.snd/\True)/\K6 x_1.fst.fr.length)/\(decide (frAt x_1.fst.fr x_1.snd≥(0:Int))=true->X0 (frAt
  x_1.fst.fr x_1.snd) (G1 e).val.s.fr.length)/\((decide (frAt x_1.fst.fr x_1.snd≥(0:Int))&&((G1 e).val.s.fr.getD (frAt x_1.fst.fr x_1.snd).toNat default).dirty)=true->X0 (frAt x_1.fst.fr x_1.snd) (G1 e).val.s.fr.length
  /\(Le 1 1/\Le (L9 e.s.fr x.val).length (L9 e.s.fr x.val).length/\V7 (L9 e.s.fr x.val).length 1 16)/\X8 .i64 ((x.val:Int)+(1:Int))/\∃(y:{i:Nat//i<=8}),(((0=0/\0=0)/\(0=0/\0=0)/\(0=0/\0=0)/\
  (0=0/\(L9 e.s.fr x.val).length+1=(L9 e.s.fr y.val).length)/\(x.val:Int)+(1:Int)=(y.val:Int)/\True)/\(1=1/\Z8 1 (fun(x:Nat)=>(G1 e).val.ts) fun(x:Nat)=>(G1 e).val.ts)/\(1=1/\Z8 1 (fun(x
  :Nat)=>zW) fun(x:Nat)=>zW)/\(1=1/\Z8 1 (fun(x:Nat)=>(G1 e).val.s.ts) fun(x:Nat)=>(G1 e).val.s.ts)/\((L9 e.s.fr x.val).length+1=(L9 e.s.fr y.val).length/\Z8 ((L9 e.s.fr x.val).length+
  1) (W6 (U6 (L9 e.s.fr x.val)) (L9 e.s.fr x.val).length fun(k:Nat)=>List.take 2 (List.drop (k*2) [T.int .i64 (x.val:Int),T.int .i64 ((G1 e).val.s.fr.getD (frAt x_1.fst.fr x_1.snd).toNat default).first])) (U6
  (L9 e.s.fr y.val)))/\True)/\Lt (8-y.val) (8-x.val))/\((decide (frAt x_1.fst.fr x_1.snd≥(0:Int))&&((G1 e).val.s.fr.getD (frAt x_1.fst.fr x_1.snd).toNat default).dirty)=false->X8 .i64 ((x.val:Int)+(1:Int))/\∃
  (y:{i:Nat//i<=8}),(((0=0/\0=0)/\(0=0/\0=0)/\(0=0/\0=0)/\(0=0/\(L9 e.s.fr x.val).length=(L9 e.s.fr y.val).length)/\(x.val:Int)+(1:Int)=(y.val:Int)/\True)/\(1=1/\Z8 1 (fun(x:Nat)
  =>(G1 e).val.ts) fun(x:Nat)=>(G1 e).val.ts)/\(1=1/\Z8 1 (fun(x:Nat)=>zW) fun(x:Nat)=>zW)/\(1=1/\Z8 1 (fun(x:Nat)=>(G1 e).val.s.ts) fun(x:Nat)=>(G1 e).val.s.ts)/\(Y4 U6 (L9
  e.s.fr x.val) (L9 e.s.fr y.val))/\True)/\Lt (8-y.val) (8-x.val)))/\(decide ((x.val:Int)<(8:Int))=false->(∃(x_1:{i:Nat//i<=e.txs.length}),((0=0/\0=0)/\(0=0/\0=0)/\(0=0/\0=0)/\(0=0/\
  (L9 e.s.fr x.val).length=(L9 e.s.fr 8).length)/\(0=0/\0=x_1.val)/\(0:Int)=(x_1.val:Int)/\True)/\(1=1/\Z8 1 (fun(x:Nat)=>(G1 e).val.ts) fun(x:Nat)=>(G1 e).val.ts)/\(1=1/\Z8 1 (fun(x:
  Nat)=>zW) fun(x:Nat)=>zW)/\(1=1/\Z8 1 (fun(x:Nat)=>(G1 e).val.s.ts) fun(x:Nat)=>(G1 e).val.s.ts)/\(Y4 U6 (L9 e.s.fr x.val) (L9 e.s.fr 8))/\(0=x_1.val/\Z8 0 (fun(k:Nat)=>List.take
  2 (List.drop (k*2) [])) (Y0 e.txs))/\True)/\∀(x:{i:Nat//i<=e.txs.length}),(decide ((x.val:Int)<(↑(G1 e).val.txs.length:Int))=true->X0 (x.val:Int) (G1 e).val.txs.length/\X0 (x.val:Int) (G1
  e).val.txs.length/\(Le 1 1/\Le x.val x.val/\V7 x.val 1 16)/\X8 .i64 ((x.val:Int)+(1:Int))/\∃(y:{i:Nat//i<=e.txs.length}),(((0=0/\0=0)/\(0=0/\0=0)/\(0=0/\0=0)/\(0=0/\(L9 e.s.fr 8).length
  =(L9 e.s.fr 8).length)/\(0=0/\x.val+1=y.val)/\(x.val:Int)+(1:Int)=(y.val:Int)/\True)/\(1=1/\Z8 1 (fun(x:Nat)=>(G1 e).val.ts) fun(x:Nat)=>(G1 e).val.ts)/\(1=1/\Z8 1 (fun(x:Nat)=>
  zW) fun(x:Nat)=>zW)/\(1=1/\Z8 1 (fun(x:Nat)=>(G1 e).val.s.ts) fun(x:Nat)=>(G1 e).val.s.ts)/\(Y4 U6 (L9 e.s.fr 8) (L9 e.s.fr 8))/\(x.val+1=y.val/\Z8 (x.val+1) (W6 (Y0 e.txs)
  x.val fun(k:Nat)=>List.take 2 (List.drop (k*2) [T.int .i64 ((G1 e).val.txs.getD (x.val:Int).toNat default).id,T.int .i64 ((G1 e).val.txs.getD (x.val:Int).toNat default).last])) (Y0 e.txs))/\True)/\Lt (e.txs.length
  -y.val) (e.txs.length-x.val))/\(decide ((x.val:Int)<(↑(G1 e).val.txs.length:Int))=false->∃(x_1:(List Dr×List Txn)),((Le (0+(L9 e.s.fr 8).length) (L9 e.s.fr 8).length/\Le (0+x.val) x.val)/\((Y4 U6 (L9
  e.s.fr 8) x_1.fst)/\(x.val=x_1.snd.length/\Z8 x.val (Y0 e.txs) (Y0 x_1.snd))/\True)/\x_1.fst.length<=100/\x_1.snd.length<=100)/\∃(x:(Sto×Rec)),(((xM (G1 e).val.s x.fst)/\((0:Int)=x.snd.e/\(0:
  Int)=x.snd.l/\(0:Int)=x.snd.t/\(6:Int)=x.snd.k/\(0:Int)=x.snd.p/\(0:Int)=x.snd.n/\(0:Int)=x.snd.g/\(0:Int)=x.snd.s/\[]=x.snd.b/\c9 x_1.fst x_1.snd x_1.snd.length=x.snd.a/\True)/\True)/\
  x.fst.log.length<=1000)/\∃(x_2:(Sto×Int)),((((Y4 Z6 x.fst.d.sec x_2.fst.d.sec)/\(Y4 Z3 x.fst.d.cache x_2.fst.d.cache)/\x.fst.d.armed=x_2.fst.d.armed/\(Y4 Y8 x.fst.d.keep x_2.fst.d.keep)/\x.fst.ep=
  x_2.fst.ep/\(Y4 Y5 (x.fst.log++[D5 x.fst x.snd]) x_2.fst.log)/\x.fst.sure=x_2.fst.sure/\(Y4 V6 x.fst.fr x_2.fst.fr)/\x.fst.hand=x_2.fst.hand/\True)/\(↑(x.fst.log.length+1):Int)=x_2.snd/\True)/\xO
  x_2.fst x_2.snd)/\((!(X1 x_2.fst x_2.snd).snd)=true->∃(x:(Eng×Dsk)),(((b0h (X1 x_2.fst x_2.snd).fst.d (X1 x_2.fst x_2.snd).fst (G1 e).val x.fst)/\(zR (X1 x_2.fst x_2.snd).fst.d x.snd)/\True)/\G7 x.snd/\
  x.snd.sec.length=69)/\((Y4 Z6 x.snd.sec (Y1 e).fst.s.d.sec)/\(Y4 Z3 x.snd.cache (Y1 e).fst.s.d.cache)/\x.snd.armed=(Y1 e).fst.s.d.armed/\(Y4 Y8 x.snd.keep (Y1 e).fst.s.d.keep)/\x.fst.s.ep=(Y1
  e).fst.s.ep/\(Y4 Y5 (D7 x.snd (v8 x.snd x.fst.s.ep)) (Y1 e).fst.s.log)/\(↑(v8 x.snd x.fst.s.ep):Int)=(Y1 e).fst.s.sure/\(0=(Y1 e).fst.s.fr.length/\Z8 0 (V6 []) (V6 (Y1 e).fst.s.fr))/\(0:
  Int)=(Y1 e).fst.s.hand/\false=(Y1 e).fst.up/\(0=(Y1 e).fst.txs.length/\Z8 0 (Y0 []) (Y0 (Y1 e).fst.txs))/\(0=(Y1 e).fst.lk.held.length/\Z8 0 (Y2 []) (Y2 (Y1 e).fst.lk.held))/\(0=
  (Y1 e).fst.lk.waits.length/\Z8 0 (X3 []) (X3 (Y1 e).fst.lk.waits))/\x.fst.next=(Y1 e).fst.next/\True)/\(15:Int)=(Y1 e).snd/\True)/\((!(X1 x_2.fst x_2.snd).snd)=false->(b0h (X1 x_2.fst
  x_2.snd).fst.d (X1 x_2.fst x_2.snd).fst (G1 e).val (Y1 e).fst)/\(0:Int)=(Y1 e).snd/\True)))))))):
  Z2 Tryz.prog 62 [.agg e.ts] (.tup [.agg (Y1 e).1.ts,.int .i64 (Y1 e).2]):=
 T4 (code:=a4B) (gC uZ xP (gC a3l iI (gC nS sP (gC a8x a0a (gC pP vI (gC a1m jV (gC c7d b9B gN))))))) Tryz.func62 (by kernel_rfl) (by kernel_rfl) (a4t e) h (by kernel_rfl)
theorem a8i(F:List Frm):∀n,(L9 F n).length<=n
 |0=>V5 _
 |n+1=>by
  have:=a8i F n;unfold L9;split
  ·rw[s7,List.length_singleton];omega
  ·omega
theorem c1f(L:List Dr)(d:Dr):Z8 (L.length+1) (W6 (U6 L) L.length fun k=>List.take 2 (List.drop (k*2) d.ts)) (U6 (L++[d])):=a2b Dr.ts 2 (fun _=>rfl) L d
theorem c69{L:List Txn}{i:Nat}(h:i<L.length):Z8 (i+1) (W6 (Y0 L) i fun k=>List.take 2 (List.drop (k*2) [T.int .i64 (L.getD i default).id,T.int .i64 (L.getD i default).last])) (Y0 L):=fun r hr=>by
 unfold W6;by_cases h:r<i
 ·rw[gJ h]
 ·have h1:r=i:=by omega
  subst h1;rw[fX h];dsimp only;rw[j_k];rfl
theorem a2j:Z1 Tryz.prog 62 a4l:=by
 intro(e:Eng) (ho:Q5 e=true);refine a4g e ⟨fun hu=> ?_,fun hu=> ?_⟩
 ·rw[b59 hu];exact⟨u7 _,rfl,trivial⟩
 ·have hu':e.up=true:=sN hu;have hb:=c4y ho hu';have hb2:=c2N ho hu';refine⟨Z5 (by omega),e,⟨⟨u7 _,trivial⟩,hb⟩,Z5 (by omega),fun hr=> ?_,fun hr=> ?_⟩
  ·rw[b7Q hu (by have:=D8 hr;omega)]
   exact⟨u7 _,rfl,trivial⟩
  ·have hP:=b5j ho hu' (by have:=yQ hr;omega)
   obtain⟨n1,n2,n3⟩:=hP.n;have wfr:(rS e (C1 e)).s.fr=e.s.fr:=hP.fr.2;have wtx:(rS e (C1 e)).txs=e.txs:=rfl;generalize G1 e=q;obtain⟨_,rfl⟩:=q;dsimp only;refine⟨(e.s,(e.s.log.length:Int)),⟨⟨wS _,rfl,trivial⟩,hP.f⟩,fun hf=>⟨(K2 e).1.d,⟨⟨xL _,trivial⟩,a0b hP.fd.1,a4Q hP.fd.1⟩,fun hy=> ?_,fun hy=> ?_⟩,fun hf=>⟨fun _=> ?_,fun h=> ?_⟩⟩
   ·have hy:(tY e).2=false:=b47 hy;rw[c5q hP hf hy];exact⟨(rS e (C1 e),(tY e).1),⟨⟨u7 (rS e (C1 e)),xL _,trivial⟩,hP.yd⟩,u7 (sF (rS e (C1 e))),rfl,trivial⟩
   ·have hy:(tY e).2=true:=sN hy;refine⟨⟨⟨0,T0 _⟩,⟨⟨rfl,rfl⟩,⟨rfl,rfl⟩,⟨rfl,rfl⟩,⟨rfl,rfl⟩,rfl,trivial⟩,⟨rfl,fun i hi=>by match i,hi with|0,_=>rfl⟩,⟨rfl,Z9 _ _⟩,⟨rfl,fun i hi=>by match i,hi with|0,_=>rfl⟩,⟨rfl,U1⟩,trivial⟩,fun x=>⟨fun hc=> ?_,fun hc=> ?_⟩⟩
    ·have hlt:x.val<8:=by have:=D8 hc;omega
     rw[wfr];refine⟨((rS e (C1 e)).s,(x.val:Int)),⟨⟨wS _,rfl,trivial⟩,by unfold K6;rw[wfr];omega⟩,?_⟩
     dsimp only;rw[wfr];have hin:decide (frAt e.s.fr x.val≥0)=true->X0 (frAt e.s.fr x.val) e.s.fr.length:=fun h=>by
      have h:frAt e.s.fr x.val≥0:=D8 h;have h0:¬Q4 e.s.fr.length (tG e.s.fr x.val)<0:=by
       have:0<=Q4 e.s.fr.length (tG e.s.fr x.val):=h;omega
      obtain⟨i,hi,_,_,he⟩:=oS h0;have he:frAt e.s.fr x.val=(i:Int):=he;rw[he];exact Y7 hi
     refine⟨hin,fun hk=> ?_,fun hk=> ?_⟩
     ·have hk:(decide (0<=frAt e.s.fr x.val)&&(e.s.fr.getD (frAt e.s.fr x.val).toNat default).dirty)=true:=hk;have ht:=b87 hk;have hl:(L9 e.s.fr (x.val+1)).length=(L9 e.s.fr x.val).length+1:=by rw[ht,s7];rfl
      have hb3:=a8i e.s.fr x.val;refine⟨hin (by simp only[K5] at hk;exact hk.1),⟨V5 _,V5 _,by unfold V7;omega⟩,Z5 (by omega),⟨x.val+1,hlt⟩,⟨⟨⟨rfl,rfl⟩,⟨rfl,rfl⟩,⟨rfl,rfl⟩,⟨rfl,hl.symm⟩,by dsimp only;omega,trivial⟩,⟨rfl,Z9 _ _⟩,⟨rfl,Z9 _ _⟩,⟨rfl,Z9 _ _⟩,⟨hl.symm,?_⟩,trivial⟩,V9.ext_lt hlt⟩
      dsimp only;rw[ht];exact c1f (L9 e.s.fr x.val) ⟨x.val,(e.s.fr.getD (frAt e.s.fr x.val).toNat default).first⟩
     ·have hk:(decide (0<=frAt e.s.fr x.val)&&(e.s.fr.getD (frAt e.s.fr x.val).toNat default).dirty)=false:=hk;refine⟨Z5 (by omega),⟨x.val+1,hlt⟩,⟨⟨⟨rfl,rfl⟩,⟨rfl,rfl⟩,⟨rfl,rfl⟩,⟨rfl,?_⟩,by dsimp only;omega,trivial⟩,⟨rfl,Z9 _ _⟩,⟨rfl,Z9 _ _⟩,⟨rfl,Z9 _ _⟩,?_,trivial⟩,V9.ext_lt hlt⟩
      ·dsimp only;rw[a9x hk]
      ·dsimp only;rw[a9x hk];exact⟨rfl,Z9 _ _⟩
    ·have hx:x.val=8:=by have:=x.2;have:=yQ hc;omega
     rw[hx,wtx];refine⟨⟨⟨0,T0 _⟩,⟨⟨rfl,rfl⟩,⟨rfl,rfl⟩,⟨rfl,rfl⟩,⟨rfl,rfl⟩,⟨rfl,rfl⟩,rfl,trivial⟩,⟨rfl,Z9 _ _⟩,⟨rfl,Z9 _ _⟩,⟨rfl,Z9 _ _⟩,⟨rfl,Z9 _ _⟩,⟨rfl,U1⟩,trivial⟩,fun z=>⟨fun hc=> ?_,fun hc=> ?_⟩⟩
     ·have hlt:=Y9 hc;rw[v4];exact⟨Y7 hlt,Y7 hlt,⟨V5 _,V5 _,by unfold V7;omega⟩,Z5 (by omega),⟨z.val+1,hlt⟩,⟨⟨⟨rfl,rfl⟩,⟨rfl,rfl⟩,⟨rfl,rfl⟩,⟨rfl,rfl⟩,⟨rfl,rfl⟩,by dsimp only;omega,trivial⟩,⟨rfl,Z9 _ _⟩,⟨rfl,Z9 _ _⟩,⟨rfl,Z9 _ _⟩,⟨rfl,Z9 _ _⟩,⟨rfl,c69 hlt⟩,trivial⟩,V9.ext_lt hlt⟩
     ·have hz:z.val=e.txs.length:=by have:=z.2;have:=Y3 hc;omega
      have hb3:=a8i e.s.fr 8;have hck:c9 (L9 e.s.fr 8) e.txs e.txs.length=ckT e:=by unfold ckT;rw[c7k hP.u]
      have hll:(K2 e).1.log.length=e.s.log.length:=by rw[hP.fr.1]
      rw[hz];refine⟨(L9 e.s.fr 8,e.txs),⟨⟨S7 _,S7 _⟩,⟨⟨rfl,Z9 _ _⟩,⟨rfl,Z9 _ _⟩,trivial⟩,by dsimp only;omega,by dsimp only;omega⟩,?_⟩
      dsimp only;rw[hck];refine⟨(C1 e,a6n e),⟨⟨wS (C1 e),⟨rfl,rfl,rfl,rfl,rfl,rfl,rfl,rfl,rfl,rfl,trivial⟩,trivial⟩,by show(K2 e).1.log.length<=1000;omega⟩,(vQ e,(e.s.log.length+1:Nat)),⟨⟨wS (vQ e),by show(((K2 e).1.log.length+1:Nat):Int)=_;rw[hll],trivial⟩,hP.g⟩,fun hg=> ?_,fun hg=> ?_⟩
      ·have hg:(w2 e).2=false:=b47 hg;rw[c5i hP hf hy hg];exact⟨(rS e (w2 e).1,(w2 e).1.d),⟨⟨u7 (rS e (w2 e).1),xL _,trivial⟩,hP.gd⟩,u7 (sF (rS e (w2 e).1)),rfl,trivial⟩
      ·have hg:(w2 e).2=true:=sN hg;rw[c5N hP hf hy hg];exact⟨u7 (rS e (w2 e).1),rfl,trivial⟩
   ·rw[c5K hP hf];exact⟨(rS e (K2 e).1,(K2 e).1.d),⟨⟨u7 (rS e (K2 e).1),xL _,trivial⟩,hP.fd⟩,u7 (sF (rS e (K2 e).1)),rfl,trivial⟩
   ·have h:(!(K2 e).2)=false:=h;rw[show(K2 e).2=false from hf] at h
    cases h
noncomputable def c16:Con:=.rfz ⟨Eng,fun e=>[.agg e.ts],fun e=>.tup [.agg (X2 e).1.ts,.int .i64 (X2 e).2],fun e=>mD e/\L5 e⟩
noncomputable def c1O:Code:=Tryz.f28.body.getD .skip
theorem a7c:Z7 Tryz.prog 28:=⟨_,Tryz.func28,by kernel_rfl,by kernel_rfl⟩
theorem c34(e:Eng)(h:
  ∃(x:yA.ι),(((j6 e x)/\True)/\mD x)/\((!Q5 x)=true->((X2 e).fst.s.d.sec.length=0/\(X2 e).fst.s.d.cache.length=0/\false=(X2 e).fst.s.d.armed/\(X2 e).fst.s.d.keep.length=0/\(0:Int)=
  (X2 e).fst.s.ep/\(X2 e).fst.s.log.length=0/\(0:Int)=(X2 e).fst.s.sure/\(X2 e).fst.s.fr.length=0/\(0:Int)=(X2 e).fst.s.hand/\false=(X2 e).fst.up/\(X2 e).fst.txs.length=0/\(X2
  e).fst.lk.held.length=0/\(X2 e).fst.lk.waits.length=0/\(0:Int)=(X2 e).fst.next/\True)/\(1:Int)=(X2 e).snd/\True)/\((!Q5 x)=false->∃(x:Eng),(((j6 e x)/\True)/\Q5 x=true)/\∃(x_1:Eng),
  (((j6 (Y1 x).fst x_1)/\True)/\L5 x_1)/\(j6 x_1 (X2 e).fst)/\(Y1 x).snd=(X2 e).snd/\True)):
  Z2 Tryz.prog 28 [.agg e.ts] (.tup [.agg (X2 e).1.ts,.int .i64 (X2 e).2]):=
 T4 (code:=c1O) (gC dL nH (gC a2j iO (gC b2s a0U gN))) Tryz.func28 (by kernel_rfl) (by kernel_rfl) Z0 h (by kernel_rfl)
theorem b7P:Z1 Tryz.prog 28 c16:=by
 rintro(e:Eng) ⟨h1,h2⟩;refine c34 e ⟨e,⟨⟨u7 _,trivial⟩,h1⟩,fun hq=> ?_,fun hq=> ?_⟩
 ·rw[co1 hq];exact⟨⟨rfl,rfl,rfl,rfl,rfl,rfl,rfl,rfl,rfl,rfl,rfl,rfl,rfl,rfl,trivial⟩,rfl,trivial⟩
 ·have ho:Q5 e=true:=sN hq;rw[co2 hq];exact⟨e,⟨⟨u7 _,trivial⟩,ho⟩,(Y1 e).1,⟨⟨u7 _,trivial⟩,eU h2 ho⟩,u7 _,rfl,trivial⟩
end Go.Proofs.YtokaojbaacnngaaGreat

