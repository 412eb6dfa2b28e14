/- A part of the proof. -/
import Derived.Test.YtokaojbaacnngaaGreatE1E2
namespace Go.Proofs.YtokaojbaacnngaaGreat
set_option maxRecDepth 100000
open Go.SS

def Z6(L:List (List UInt8))(i:Nat):List T:=[.str (L.getD i [])]
def L6(L:List (List UInt8)):T:=.sl 1 L.length (Z6 L)
def I6(L:List (List UInt8)):Option Ob:=some (.arr true 0 1 L.length (Z6 L))
structure Fst where
 l:List UInt8
 fl:Bool
 out:List (List UInt8)
def Fst.step(s:Fst):Fst:=⟨O5 (s.l.drop 1) (numR s.l),(s.fl||s.l.isEmpty)||big (s.l.drop 1) (numR s.l),s.out++[P7 (s.l.drop 1) (numR s.l)]⟩
def Fst.go(s:Fst):Nat->Fst
 |0=>s
 |n+1=>Fst.step (Fst.go s n)
def fs0(l:List UInt8)(fl:Bool):Fst:=⟨l.drop 1,fl||l.isEmpty,[]⟩
def D8(l:List UInt8)(fl:Bool)(i:Nat):Fst:=Fst.go (fs0 l fl) i
def U1(l:List UInt8)(fl:Bool):Fst:=D8 l fl (numR l).toNat
theorem a4Q(l:List UInt8)(fl:Bool):∀i,(D8 l fl i).out.length=i
 |0=>rfl
 |i+1=>by
  have:=a4Q l fl i;simp only[D8] at this ⊢;simp[Fst.go,Fst.step,this]
def b2v:List T->Y5->Option (T×Y5×Option Prop)
 | [.ref 0 0 0],[some (.arr true _ 2 1 row)]=>match row 0 with
  | [.bys l,.bool fl]=>some (L6 (U1 l fl).out,[rdr (U1 l fl).l (U1 l fl).fl],none)
  |_=>none
 |_,_=>none
def c6C:Con:=.eff b2v
def c7T(l:List UInt8)(fl:Bool):Nat->Ann
 |0=>.one {i:Nat//i<=(numR l).toNat} (fun x=>⟨[(0,.ref 0 0 0),(3,.osl 1 0 (D8 l fl x.1).out.length),(6,.int .i64 (numR l)),(7,.int .i64 x.1)],[rdr (D8 l fl x.1).l (D8 l fl x.1).fl,I6 (D8 l fl x.1).out]⟩) (fun x=>(numR l).toNat-x.1) [.box 0,.arr 1] [.box 0,.arr 3] (fun _=>Z0)
 |_=>.none
noncomputable def c8L:Code:=Tryz.f258.body.getD .skip
theorem a3s:Z8 Tryz.prog 258:=⟨_,Tryz.func258,by kernel_rfl,by kernel_rfl⟩
theorem c4U(l:List UInt8)(fl:Bool)(h:
  (∃(x:{i:Nat//i<=(numR l).toNat}),((0=0/\0=0)/\(0=0/\0=(D8 l fl x.val).out.length)/\numR l=numR l/\(0:Int)=(x.val:Int)/\True)/\(1=1/\1=1/\List.drop 1 l=(D8 l fl x.val).l/\(fl||l.isEmpty)
  =(D8 l fl x.val).fl/\True)/\(0=(D8 l fl x.val).out.length/\Z7 0 (fun(k:Nat)=>List.take 1 (List.drop (k*1) [])) (Z6 (D8 l fl x.val).out))/\True)/\∀(x:{i:Nat//i<=(numR l).toNat}),(decide
  ((x.val:Int)<numR l)=true->a2w (numR (D8 l fl x.val).l)/\(Le 1 1/\Le (D8 l fl x.val).out.length (D8 l fl x.val).out.length/\V6 (D8 l fl x.val).out.length 1 16)/\X6 .i64 ((x.val:Int)+(1:Int))/\∃(y:{i:
  Nat//i<=(numR l).toNat}),(((0=0/\0=0)/\(0=0/\(D8 l fl x.val).out.length+1=(D8 l fl y.val).out.length)/\numR l=numR l/\(x.val:Int)+(1:Int)=(y.val:Int)/\True)/\(1=1/\1=1/\O5 (List.drop 1 (D8
  l fl x.val).l) (numR (D8 l fl x.val).l)=(D8 l fl y.val).l/\((D8 l fl x.val).fl||(D8 l fl x.val).l.isEmpty||big (List.drop 1 (D8 l fl x.val).l) (numR (D8 l fl x.val).l))=(D8 l fl y.val).fl/\True)/\((D8 l fl
  x.val).out.length+1=(D8 l fl y.val).out.length/\Z7 ((D8 l fl x.val).out.length+1) (W4 (Z6 (D8 l fl x.val).out) (D8 l fl x.val).out.length fun(k:Nat)=>List.take 1 (List.drop (k*1) [T.str (P7
  (List.drop 1 (D8 l fl x.val).l) (numR (D8 l fl x.val).l))])) (Z6 (D8 l fl y.val).out))/\True)/\Lt ((numR l).toNat-y.val) ((numR l).toNat-x.val))/\(decide ((x.val:Int)<numR l)=false->Le (0+(D8 l fl
  x.val).out.length) (D8 l fl x.val).out.length/\(Y3 Z6 (D8 l fl x.val).out (U1 l fl).out)/\(1=1/\1=1/\(D8 l fl x.val).l=(U1 l fl).l/\(D8 l fl x.val).fl=(U1 l fl).fl/\True)/\True)):
  V7 Tryz.prog 258 [.ref 0 0 0] [rdr l fl] (L6 (U1 l fl).out) [rdr (U1 l fl).l (U1 l fl).fl]:=
 vcE (code:=c8L) (gC b56 a9t (gC a8c a2V gN)) Tryz.func258 (by kernel_rfl) (by kernel_rfl) (c7T l fl) (bs:=[true]) h (by kernel_rfl)
def j7(t:List UInt8):Nat->Option (Nat×List (List UInt8))
 |0=>some (1,[])
 |i+1=>match j7 t i with
  |some (p,out)=>if p<t.length/\p+1+(t.getD p 0).toNat<=t.length then some (p+1+(t.getD p 0).toNat,out++[List.drop (p+1) (List.take (p+1+(t.getD p 0).toNat) t)]) else none
  |none=>none
def K7(t:List UInt8):Nat:=(t.getD 0 0).toNat
def T1(t:List UInt8):Option (List (List UInt8)):=if t.length=0∨K7 t>100 then none else match j7 t (K7 t) with
 |some (p,out)=>if p=t.length then some out else none
 |none=>none
def a6K:Rl:=⟨List UInt8,fun t=>[.str t],fun t=>.tup [L6 ((T1 t).getD []),.bool (T1 t).isSome],I7⟩
def b9J:Con:=.rel a6K
def d14(t:List UInt8):Type:={x:Nat×Nat×List (List UInt8)//x.1<=K7 t/\j7 t x.1=some x.2}
def c21(t:List UInt8):Nat->Ann
 |0=>.one (d14 t) (fun x=>⟨[(0,.str t),(4,.osl 0 0 x.1.2.2.length),(5,.int .i64 x.1.2.1),(6,.int .i64 (K7 t-x.1.1:Int))],[I6 x.1.2.2]⟩) (fun x=>K7 t-x.1.1) [.arr 0] [.arr 2] (fun _=>Z0)
 |_=>.none
noncomputable def c1w:Code:=Tryz.f231.body.getD .skip
theorem a7n:Z8 Tryz.prog 231:=⟨_,Tryz.func231,by kernel_rfl,by kernel_rfl⟩
theorem c0H(t:List UInt8)(h:
  ((t==[])=false->W7 (0:Int) t.length)/\((t==[]||decide ((↑(t.getD 0 (0:UInt8)).toNat:Int)>(100:Int)))=true->Le 0 0/\(0=((T1 t).getD []).length/\Z7 0 (fun(k:Nat)=>List.take 1 (List.drop (k*
  1) [])) (Z6 ((T1 t).getD [])))/\false=(T1 t).isSome/\True)/\((t==[]||decide ((↑(t.getD 0 (0:UInt8)).toNat:Int)>(100:Int)))=false->W7 (0:Int) t.length/\(∃(x:d14 t),(t=t/\(0=0/\0=
  x.val.snd.snd.length)/\(1:Int)=(x.val.snd.fst:Int)/\IntKind.i64.wrap (↑(t.getD 0 (0:UInt8)).toNat:Int)=(↑(K7 t):Int)- (x.val.fst:Int)/\True)/\(0=x.val.snd.snd.length/\Z7 0 (fun(k:Nat)=>List.take 1
  (List.drop (k*1) [])) (Z6 x.val.snd.snd))/\True)/\∀(x:d14 t),(decide ((↑(K7 t):Int)- (x.val.fst:Int)>(0:Int))=true->(decide ((x.val.snd.fst:Int)≥(t.length:Int))=false->X6 .i64 ((x.val.snd.fst:Int)+
  (1:Int)))/\(decide ((x.val.snd.fst:Int)≥(t.length:Int))=false->W7 (x.val.snd.fst:Int) t.length)/\(decide ((x.val.snd.fst:Int)≥(t.length:Int))=false->X6 .i64 ((x.val.snd.fst:Int)+(1:Int)+IntKind.i64.wrap
  (↑(t.getD (x.val.snd.fst:Int).toNat (0:UInt8)).toNat:Int)))/\((decide ((x.val.snd.fst:Int)≥(t.length:Int))||decide ((x.val.snd.fst:Int)+(1:Int)+IntKind.i64.wrap (↑(t.getD (x.val.snd.fst:Int).toNat (0:UInt8)).toNat
  :Int)>(t.length:Int)))=true->Le 0 0/\(0=((T1 t).getD []).length/\Z7 0 (fun(k:Nat)=>List.take 1 (List.drop (k*1) [])) (Z6 ((T1 t).getD [])))/\false=(T1 t).isSome/\True)/\((decide
  ((x.val.snd.fst:Int)≥(t.length:Int))||decide ((x.val.snd.fst:Int)+(1:Int)+IntKind.i64.wrap (↑(t.getD (x.val.snd.fst:Int).toNat (0:UInt8)).toNat:Int)>(t.length:Int)))=false->W7 (x.val.snd.fst:Int) t.length/\X6
  .i64 ((x.val.snd.fst:Int)+(1:Int))/\X6 .i64 ((x.val.snd.fst:Int)+(1:Int))/\X6 .i64 ((x.val.snd.fst:Int)+(1:Int)+IntKind.i64.wrap (↑(t.getD (x.val.snd.fst:Int).toNat (0:UInt8)).toNat:Int))/\d2q
  ((x.val.snd.fst:Int)+(1:Int)) ((x.val.snd.fst:Int)+(1:Int)+IntKind.i64.wrap (↑(t.getD (x.val.snd.fst:Int).toNat (0:UInt8)).toNat:Int)) t.length/\(Le 1 1/\Le x.val.snd.snd.length x.val.snd.snd.length/\V6
  x.val.snd.snd.length 1 16)/\X6 .i64 ((1:Int)+IntKind.i64.wrap (↑(t.getD (x.val.snd.fst:Int).toNat (0:UInt8)).toNat:Int))/\X6 .i64 ((x.val.snd.fst:Int)+((1:Int)+IntKind.i64.wrap (↑(t.getD (x.val.snd.fst:Int).toNat
  (0:UInt8)).toNat:Int)))/\X6 .i64 ((↑(K7 t):Int)- (x.val.fst:Int)- (1:Int))/\∃(y:d14 t),((t=t/\(0=0/\x.val.snd.snd.length+1=y.val.snd.snd.length)/\(x.val.snd.fst:Int)+((1:Int)+IntKind.i64.wrap
  (↑(t.getD (x.val.snd.fst:Int).toNat (0:UInt8)).toNat:Int))=(y.val.snd.fst:Int)/\(↑(K7 t):Int)- (x.val.fst:Int)- (1:Int)=(↑(K7 t):Int)- (y.val.fst:Int)/\True)/\(x.val.snd.snd.length+1=
  y.val.snd.snd.length/\Z7 (x.val.snd.snd.length+1) (W4 (Z6 x.val.snd.snd) x.val.snd.snd.length fun(k:Nat)=>List.take 1 (List.drop (k*1) [T.str (List.drop ((x.val.snd.fst:Int)+(1:Int)).toNat (List.take
  ((x.val.snd.fst:Int)+(1:Int)+IntKind.i64.wrap (↑(t.getD (x.val.snd.fst:Int).toNat (0:UInt8)).toNat:Int)).toNat t))])) (Z6 y.val.snd.snd))/\True)/\Lt (K7 t-y.val.fst) (K7 t-x.val.fst)))/\(decide ((↑(K7 t)
  :Int)- (x.val.fst:Int)>(0:Int))=false->(((x.val.snd.fst:Int) !=(t.length:Int))=true->Le 0 0/\(0=((T1 t).getD []).length/\Z7 0 (fun(k:Nat)=>List.take 1 (List.drop (k*1) [])) (Z6 ((T1 t).getD
  [])))/\false=(T1 t).isSome/\True)/\(((x.val.snd.fst:Int) !=(t.length:Int))=false->Le (0+x.val.snd.snd.length) x.val.snd.snd.length/\(Y3 Z6 x.val.snd.snd ((T1 t).getD []))/\true=(T1 t).isSome/\True)))):
  Z1 Tryz.prog 231 [.str t] (.tup [L6 ((T1 t).getD []),.bool (T1 t).isSome]):=
 T7 (code:=c1w) gN Tryz.func231 (by kernel_rfl) (by kernel_rfl) (c21 t) h (by kernel_rfl)
theorem b0C(row row':Nat->List T):Z7 0 row row':=fun i hi=>absurd hi (Nat.not_lt_zero i)
theorem Z9(n:Nat)(row:Nat->List T):Z7 n row row:=fun i _=>rfl
theorem b8a(L:List (List UInt8))(s:List UInt8):Z7 (L.length+1) (W4 (Z6 L) L.length fun k=>List.take 1 (List.drop (k*1) [T.str s])) (Z6 (L++[s])):=by
 intro i hi;by_cases h:i<L.length
 ·rw[G1 h];simp[Z6,List.getElem?_append_left h]
 ·obtain rfl:i=L.length:=by omega
  rw[G2 (Nat.le_refl _),Nat.sub_self];simp[Z6]
theorem a68:Z2 Tryz.prog 258 c6C:=by
 intro args H res H' p h hp;unfold b2v at h;split at h
 ·rename_i ty row;split at h
  ·rename_i l fl hrow;simp only[Option.some.injEq,Prod.mk.injEq] at h;obtain⟨rfl,rfl,rfl⟩:=h;refine a08 (a3O hrow) ?_
   have hn:=k7 l;refine c4U l fl ⟨⟨⟨0,Nat.zero_le _⟩,⟨⟨rfl,rfl⟩,⟨rfl,rfl⟩,rfl,rfl,trivial⟩,⟨rfl,rfl,rfl,rfl,trivial⟩,⟨rfl,b0C _ _⟩,trivial⟩,fun x=>⟨fun hc=> ?_,fun hc=> ?_⟩⟩
   ·have hlt:(x.val:Int)<numR l:=of_decide_eq_true hc;have hlen:=a4Q l fl x.val;have hm:=k7 (D8 l fl x.val).l;refine⟨⟨hm.1,by omega⟩,⟨Nat.le_refl _,Nat.le_refl _,by omega,by omega⟩,Z5 (by omega),⟨x.val+1,by omega⟩,⟨⟨⟨rfl,rfl⟩,⟨rfl,(congrArg (· +1) hlen).trans (a4Q l fl (x.val+1)).symm⟩,rfl,by simp only;omega,trivial⟩,⟨rfl,rfl,rfl,rfl,trivial⟩,⟨(congrArg (· +1) hlen).trans (a4Q l fl (x.val+1)).symm,b8a _ _⟩,trivial⟩,by unfold Lt;simp only;omega⟩
   ·have hge:¬ (x.val:Int)<numR l:=of_decide_eq_false hc;have hx:=x.2;have he:x.val=(numR l).toNat:=by omega
    rw[he];exact⟨by unfold Le;omega,⟨rfl,Z9 _ _⟩,⟨rfl,rfl,rfl,rfl,trivial⟩,trivial⟩
  ·cases h
 ·cases h
theorem a5r{t:List UInt8}:∀{i:Nat} {x:Nat×List (List UInt8)},j7 t i=some x->x.2.length=i
 |0,x,h=>by simp only[j7,Option.some.injEq] at h;subst h;rfl
 |i+1,x,h=>by
  simp only[j7] at h;split at h
  ·rename_i p out ho;split at h
   ·simp only[Option.some.injEq] at h;subst h;simp[a5r ho]
   ·cases h
  ·cases h
theorem b7L{t:List UInt8}{i p:Nat}{out:List (List UInt8)}(h:j7 t i=some (p,out)):j7 t (i+1)=if p<t.length/\p+1+(t.getD p 0).toNat<=t.length then some (p+1+(t.getD p 0).toNat,out++[List.drop (p+1) (List.take (p+1+(t.getD p 0).toNat) t)]) else none:=by
 simp only[j7,h]
theorem a9i{t:List UInt8}{i:Nat}(h:j7 t i=none):∀j,j7 t (i+j)=none
 |0=>h
 |j+1=>by
  have:=a9i h j;rw[show i+(j+1)=(i+j)+1 by omega]
  simp only[j7,this]
theorem a4Y:Z2 Tryz.prog 231 b9J:=by
 intro(t:List UInt8) (hl:t.length<=1000000000);have hb:=k9 t;have hcn:((t.getD 0 0).toNat:Int)=(K7 t:Int):=rfl;have h0:(t==[])=false->0<t.length:=fun h=>List.length_pos_iff.2 (by simpa using h)
 refine c0H t ⟨fun h=>⟨by omega,by have:=h0 h;omega⟩,fun h=> ?_,fun h=> ?_⟩
 ·have hn:T1 t=none:=by
   unfold T1;rw[if_pos];simp only[Bool.or_eq_true,beq_iff_eq,decide_eq_true_eq] at h;rcases h with h|h
   ·exact .inl (by simp[h])
   ·exact .inr (by omega)
  rw[hn];exact⟨Nat.le_refl _,⟨rfl,b0C _ _⟩,rfl,trivial⟩
 simp only[Bool.or_eq_false_iff,decide_eq_false_iff_not] at h;have hpos:0<t.length:=h0 h.1;have hall:T1 t=match j7 t (K7 t) with
  |some (p,out)=>if p=t.length then some out else none
  |none=>none:=by
  unfold T1;rw[if_neg (by omega)]
 refine⟨⟨by omega,by omega⟩,⟨⟨(0,1,[]),Nat.zero_le _,rfl⟩,⟨rfl,⟨rfl,rfl⟩,rfl,by rw[i6,hcn];simp,trivial⟩,⟨rfl,b0C _ _⟩,trivial⟩,fun x=> ?_⟩
 obtain⟨⟨i,p,out⟩,hi,hx⟩:=x;simp only at hi hx ⊢;have hlen:out.length=i:=a5r hx;rw[Int.toNat_natCast,i6];have hbp:=hb p;refine⟨fun hc=> ?_,fun hc=> ?_⟩
 ·have hlt:i<K7 t:=by have:=of_decide_eq_true hc;omega
  have hst:=b7L hx;refine⟨fun g=>Z5 (by have:=of_decide_eq_false g;omega),fun g=>⟨by omega,by have:=of_decide_eq_false g;omega⟩,fun g=>Z5 (by have:=of_decide_eq_false g;omega),fun g=> ?_,fun g=> ?_⟩
  ·have hn:T1 t=none:=by
    rw[if_neg (by simp only[Bool.or_eq_true,decide_eq_true_eq] at g;omega)] at hst
    rw[hall];have:=a9i hst (K7 t- (i+1));rw[show i+1+(K7 t- (i+1))=K7 t by omega] at this
    rw[this]
   rw[hn];exact⟨Nat.le_refl _,⟨rfl,b0C _ _⟩,rfl,trivial⟩
  ·simp only[Bool.or_eq_false_iff,decide_eq_false_iff_not] at g;rw[if_pos (by omega)] at hst
   refine⟨⟨by omega,by omega⟩,Z5 (by omega),Z5 (by omega),Z5 (by omega),⟨by omega,by omega,by omega⟩,⟨Nat.le_refl _,Nat.le_refl _,by omega,by omega⟩,Z5 (by omega),Z5 (by omega),Z5 (by omega),
    ⟨(i+1,_,_),hlt,hst⟩,⟨⟨(by trivial),⟨(by trivial),by simp⟩,by simp only;omega,by simp only;omega,trivial⟩,⟨by simp,?_⟩,trivial⟩,by unfold Lt;simp only;omega⟩
   rw[show((p:Int)+1).toNat=p+1 by omega,show((p:Int)+1+((t.getD p 0).toNat:Int)).toNat=p+1+(t.getD p 0).toNat by omega]
   exact b8a _ _
 ·have he:i=K7 t:=by have:=of_decide_eq_false hc;omega
  subst he;rw[hx] at hall;simp only at hall;refine⟨fun g=> ?_,fun g=> ?_⟩
  ·have hn:T1 t=none:=by
    rw[hall,if_neg (by simp only[bne_iff_ne,ne_eq] at g;omega)]
   rw[hn];exact⟨Nat.le_refl _,⟨rfl,b0C _ _⟩,rfl,trivial⟩
  ·have hn:T1 t=some out:=by
    rw[hall,if_pos (by simp only[bne_eq_false_iff_eq] at g;omega)]
   rw[hn];exact⟨by unfold Le;omega,⟨rfl,Z9 _ _⟩,rfl,trivial⟩
end Go.Proofs.YtokaojbaacnngaaGreat

