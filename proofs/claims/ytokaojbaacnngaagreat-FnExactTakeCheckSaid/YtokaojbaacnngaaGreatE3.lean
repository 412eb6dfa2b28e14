/- A part of the proof. -/
import Derived.Test.YtokaojbaacnngaaGreatE1E2
namespace Go.Proofs.YtokaojbaacnngaaGreat
set_option maxRecDepth 100000
open Go.SS

def Z6(L:List (List UInt8))(i:Nat):List T:=[.str (L.getD i [])]
def L3(L:List (List UInt8)):T:=.sl 1 L.length (Z6 L)
def G8(L:List (List UInt8)):Option Ob:=some (.arr true 0 1 L.length (Z6 L))
structure Fst where
 l:List UInt8
 fl:Bool
 out:List (List UInt8)
def Fst.step(s:Fst):Fst:=⟨O4 (s.l.drop 1) (numR s.l),(s.fl||s.l.isEmpty)||big (s.l.drop 1) (numR s.l),s.out++[P5 (s.l.drop 1) (numR s.l)]⟩
def Fst.go(s:Fst):Nat->Fst
 |0=>s
 |n+1=>Fst.step (Fst.go s n)
def fs0(l:List UInt8)(fl:Bool):Fst:=⟨l.drop 1,fl||l.isEmpty,[]⟩
def B9(l:List UInt8)(fl:Bool)(i:Nat):Fst:=Fst.go (fs0 l fl) i
def U0(l:List UInt8)(fl:Bool):Fst:=B9 l fl (numR l).toNat
theorem kO(l:List UInt8)(fl:Bool):∀i,(B9 l fl i).out.length=i
 |0=>rfl
 |i+1=>by
  have:=kO l fl i;simp only[B9] at this ⊢;simp[Fst.go,Fst.step,this]
def a1J:List T->Y6->Option (T×Y6×Option Prop)
 | [.ref 0 0 0],[some (.arr true _ 2 1 row)]=>match row 0 with
  | [.bys l,.bool fl]=>some (L3 (U0 l fl).out,[rdr (U0 l fl).l (U0 l fl).fl],none)
  |_=>none
 |_,_=>none
def b7L:Con:=.eff a1J
def b9o(l:List UInt8)(fl:Bool):Nat->Ann
 |0=>.one {i:Nat//i<=(numR l).toNat} (fun x=>⟨[(0,.ref 0 0 0),(3,.osl 1 0 (B9 l fl x.1).out.length),(6,.int .i64 (numR l)),(7,.int .i64 x.1)],[rdr (B9 l fl x.1).l (B9 l fl x.1).fl,G8 (B9 l fl x.1).out]⟩) (fun x=>(numR l).toNat-x.1) [.box 0,.arr 1] [.box 0,.arr 3] (fun _=>Z0)
 |_=>.none
noncomputable def b7w:Code:=Tryz.f258.body.getD .skip
theorem pY:Z7 Tryz.prog 258:=⟨_,Tryz.func258,by kernel_rfl,by kernel_rfl⟩
theorem b7I(l:List UInt8)(fl:Bool)(h:
  (∃(x:{i:Nat//i<=(numR l).toNat}),((0=0/\0=0)/\(0=0/\0=(B9 l fl x.val).out.length)/\numR l=numR l/\(0:Int)=(x.val:Int)/\True)/\(1=1/\1=1/\List.drop 1 l=(B9 l fl x.val).l/\(fl||l.isEmpty)
  =(B9 l fl x.val).fl/\True)/\(0=(B9 l fl x.val).out.length/\Z8 0 (fun(k:Nat)=>List.take 1 (List.drop (k*1) [])) (Z6 (B9 l fl x.val).out))/\True)/\∀(x:{i:Nat//i<=(numR l).toNat}),(decide
  ((x.val:Int)<numR l)=true->tI (numR (B9 l fl x.val).l)/\(Le 1 1/\Le (B9 l fl x.val).out.length (B9 l fl x.val).out.length/\V7 (B9 l fl x.val).out.length 1 16)/\X8 .i64 ((x.val:Int)+(1:Int))/\∃(y:{i:
  Nat//i<=(numR l).toNat}),(((0=0/\0=0)/\(0=0/\(B9 l fl x.val).out.length+1=(B9 l fl y.val).out.length)/\numR l=numR l/\(x.val:Int)+(1:Int)=(y.val:Int)/\True)/\(1=1/\1=1/\O4 (List.drop 1 (B9
  l fl x.val).l) (numR (B9 l fl x.val).l)=(B9 l fl y.val).l/\((B9 l fl x.val).fl||(B9 l fl x.val).l.isEmpty||big (List.drop 1 (B9 l fl x.val).l) (numR (B9 l fl x.val).l))=(B9 l fl y.val).fl/\True)/\((B9 l fl
  x.val).out.length+1=(B9 l fl y.val).out.length/\Z8 ((B9 l fl x.val).out.length+1) (W6 (Z6 (B9 l fl x.val).out) (B9 l fl x.val).out.length fun(k:Nat)=>List.take 1 (List.drop (k*1) [T.str (P5
  (List.drop 1 (B9 l fl x.val).l) (numR (B9 l fl x.val).l))])) (Z6 (B9 l fl y.val).out))/\True)/\Lt ((numR l).toNat-y.val) ((numR l).toNat-x.val))/\(decide ((x.val:Int)<numR l)=false->Le (0+(B9 l fl
  x.val).out.length) (B9 l fl x.val).out.length/\(Y4 Z6 (B9 l fl x.val).out (U0 l fl).out)/\(1=1/\1=1/\(B9 l fl x.val).l=(U0 l fl).l/\(B9 l fl x.val).fl=(U0 l fl).fl/\True)/\True)):
  V3 Tryz.prog 258 [.ref 0 0 0] [rdr l fl] (L3 (U0 l fl).out) [rdr (U0 l fl).l (U0 l fl).fl]:=
 vcE (code:=b7w) (gC a7J a3E (gC bH rM gN)) Tryz.func258 (by kernel_rfl) (by kernel_rfl) (b9o l fl) (bs:=[true]) h (by kernel_rfl)
def zU(t:List UInt8):Nat->Option (Nat×List (List UInt8))
 |0=>some (1,[])
 |i+1=>match zU t i with
  |some (p,out)=>if p<t.length/\p+1+(t.getD p 0).toNat<=t.length then some (p+1+(t.getD p 0).toNat,out++[List.drop (p+1) (List.take (p+1+(t.getD p 0).toNat) t)]) else none
  |none=>none
def K4(t:List UInt8):Nat:=(t.getD 0 0).toNat
def T1(t:List UInt8):Option (List (List UInt8)):=if t.length=0∨K4 t>100 then none else match zU t (K4 t) with
 |some (p,out)=>if p=t.length then some out else none
 |none=>none
def eX:Rl:=⟨List UInt8,fun t=>[.str t],fun t=>.tup [L3 ((T1 t).getD []),.bool (T1 t).isSome],G9⟩
def b4C:Con:=.rel eX
def c1m(t:List UInt8):Type:={x:Nat×Nat×List (List UInt8)//x.1<=K4 t/\zU t x.1=some x.2}
def b21(t:List UInt8):Nat->Ann
 |0=>.one (c1m t) (fun x=>⟨[(0,.str t),(4,.osl 0 0 x.1.2.2.length),(5,.int .i64 x.1.2.1),(6,.int .i64 (K4 t-x.1.1:Int))],[G8 x.1.2.2]⟩) (fun x=>K4 t-x.1.1) [.arr 0] [.arr 2] (fun _=>Z0)
 |_=>.none
noncomputable def b3f:Code:=Tryz.f231.body.getD .skip
theorem cI:Z7 Tryz.prog 231:=⟨_,Tryz.func231,by kernel_rfl,by kernel_rfl⟩
theorem b2C(t:List UInt8)(h:
  ((t==[])=false->X0 (0:Int) t.length)/\((t==[]||decide ((↑(t.getD 0 (0:UInt8)).toNat:Int)>(100:Int)))=true->Le 0 0/\(0=((T1 t).getD []).length/\Z8 0 (fun(k:Nat)=>List.take 1 (List.drop (k*
  1) [])) (Z6 ((T1 t).getD [])))/\false=(T1 t).isSome/\True)/\((t==[]||decide ((↑(t.getD 0 (0:UInt8)).toNat:Int)>(100:Int)))=false->X0 (0:Int) t.length/\(∃(x:c1m t),(t=t/\(0=0/\0=
  x.val.snd.snd.length)/\(1:Int)=(x.val.snd.fst:Int)/\IntKind.i64.wrap (↑(t.getD 0 (0:UInt8)).toNat:Int)=(↑(K4 t):Int)- (x.val.fst:Int)/\True)/\(0=x.val.snd.snd.length/\Z8 0 (fun(k:Nat)=>List.take 1
  (List.drop (k*1) [])) (Z6 x.val.snd.snd))/\True)/\∀(x:c1m t),(decide ((↑(K4 t):Int)- (x.val.fst:Int)>(0:Int))=true->(decide ((x.val.snd.fst:Int)≥(t.length:Int))=false->X8 .i64 ((x.val.snd.fst:Int)+
  (1:Int)))/\(decide ((x.val.snd.fst:Int)≥(t.length:Int))=false->X0 (x.val.snd.fst:Int) t.length)/\(decide ((x.val.snd.fst:Int)≥(t.length:Int))=false->X8 .i64 ((x.val.snd.fst:Int)+(1:Int)+IntKind.i64.wrap
  (↑(t.getD (x.val.snd.fst:Int).toNat (0:UInt8)).toNat:Int)))/\((decide ((x.val.snd.fst:Int)≥(t.length:Int))||decide ((x.val.snd.fst:Int)+(1:Int)+IntKind.i64.wrap (↑(t.getD (x.val.snd.fst:Int).toNat (0:UInt8)).toNat
  :Int)>(t.length:Int)))=true->Le 0 0/\(0=((T1 t).getD []).length/\Z8 0 (fun(k:Nat)=>List.take 1 (List.drop (k*1) [])) (Z6 ((T1 t).getD [])))/\false=(T1 t).isSome/\True)/\((decide
  ((x.val.snd.fst:Int)≥(t.length:Int))||decide ((x.val.snd.fst:Int)+(1:Int)+IntKind.i64.wrap (↑(t.getD (x.val.snd.fst:Int).toNat (0:UInt8)).toNat:Int)>(t.length:Int)))=false->X0 (x.val.snd.fst:Int) t.length/\X8
  .i64 ((x.val.snd.fst:Int)+(1:Int))/\X8 .i64 ((x.val.snd.fst:Int)+(1:Int))/\X8 .i64 ((x.val.snd.fst:Int)+(1:Int)+IntKind.i64.wrap (↑(t.getD (x.val.snd.fst:Int).toNat (0:UInt8)).toNat:Int))/\c3o
  ((x.val.snd.fst:Int)+(1:Int)) ((x.val.snd.fst:Int)+(1:Int)+IntKind.i64.wrap (↑(t.getD (x.val.snd.fst:Int).toNat (0:UInt8)).toNat:Int)) t.length/\(Le 1 1/\Le x.val.snd.snd.length x.val.snd.snd.length/\V7
  x.val.snd.snd.length 1 16)/\X8 .i64 ((1:Int)+IntKind.i64.wrap (↑(t.getD (x.val.snd.fst:Int).toNat (0:UInt8)).toNat:Int))/\X8 .i64 ((x.val.snd.fst:Int)+((1:Int)+IntKind.i64.wrap (↑(t.getD (x.val.snd.fst:Int).toNat
  (0:UInt8)).toNat:Int)))/\X8 .i64 ((↑(K4 t):Int)- (x.val.fst:Int)- (1:Int))/\∃(y:c1m t),((t=t/\(0=0/\x.val.snd.snd.length+1=y.val.snd.snd.length)/\(x.val.snd.fst:Int)+((1:Int)+IntKind.i64.wrap
  (↑(t.getD (x.val.snd.fst:Int).toNat (0:UInt8)).toNat:Int))=(y.val.snd.fst:Int)/\(↑(K4 t):Int)- (x.val.fst:Int)- (1:Int)=(↑(K4 t):Int)- (y.val.fst:Int)/\True)/\(x.val.snd.snd.length+1=
  y.val.snd.snd.length/\Z8 (x.val.snd.snd.length+1) (W6 (Z6 x.val.snd.snd) x.val.snd.snd.length fun(k:Nat)=>List.take 1 (List.drop (k*1) [T.str (List.drop ((x.val.snd.fst:Int)+(1:Int)).toNat (List.take
  ((x.val.snd.fst:Int)+(1:Int)+IntKind.i64.wrap (↑(t.getD (x.val.snd.fst:Int).toNat (0:UInt8)).toNat:Int)).toNat t))])) (Z6 y.val.snd.snd))/\True)/\Lt (K4 t-y.val.fst) (K4 t-x.val.fst)))/\(decide ((↑(K4 t)
  :Int)- (x.val.fst:Int)>(0:Int))=false->(((x.val.snd.fst:Int) !=(t.length:Int))=true->Le 0 0/\(0=((T1 t).getD []).length/\Z8 0 (fun(k:Nat)=>List.take 1 (List.drop (k*1) [])) (Z6 ((T1 t).getD
  [])))/\false=(T1 t).isSome/\True)/\(((x.val.snd.fst:Int) !=(t.length:Int))=false->Le (0+x.val.snd.snd.length) x.val.snd.snd.length/\(Y4 Z6 x.val.snd.snd ((T1 t).getD []))/\true=(T1 t).isSome/\True)))):
  Z2 Tryz.prog 231 [.str t] (.tup [L3 ((T1 t).getD []),.bool (T1 t).isSome]):=
 T4 (code:=b3f) gN Tryz.func231 (by kernel_rfl) (by kernel_rfl) (b21 t) h (by kernel_rfl)
theorem a0P(row row':Nat->List T):Z8 0 row row':=fun i hi=>absurd hi (J2 i)
theorem Z9(n:Nat)(row:Nat->List T):Z8 n row row:=fun i _=>rfl
theorem a9U(L:List (List UInt8))(s:List UInt8):Z8 (L.length+1) (W6 (Z6 L) L.length fun k=>List.take 1 (List.drop (k*1) [T.str s])) (Z6 (L++[s])):=by
 intro i hi;by_cases h:i<L.length
 ·rw[E6 h];simp[Z6,kE h]
 ·obtain rfl:i=L.length:=by omega
  rw[F0 (V5 _),j_k];simp[Z6]
theorem eZ:Z1 Tryz.prog 258 b7L:=by
 intro args H res H' p h hp;unfold a1J at h;split at h
 ·rename_i ty row;split at h
  ·rename_i l fl hrow;simp only[X6,V1] at h;obtain⟨rfl,rfl,rfl⟩:=h;refine wH (oN hrow) ?_
   have hn:=e9 l;refine b7I l fl ⟨⟨⟨0,T0 _⟩,⟨⟨rfl,rfl⟩,⟨rfl,rfl⟩,rfl,rfl,trivial⟩,⟨rfl,rfl,rfl,rfl,trivial⟩,⟨rfl,a0P _ _⟩,trivial⟩,fun x=>⟨fun hc=> ?_,fun hc=> ?_⟩⟩
   ·have hlt:(x.val:Int)<numR l:=D8 hc;have hlen:=kO l fl x.val;have hm:=e9 (B9 l fl x.val).l;refine⟨⟨hm.1,by omega⟩,⟨V5 _,V5 _,by omega,by omega⟩,Z5 (by omega),⟨x.val+1,by omega⟩,⟨⟨⟨rfl,rfl⟩,⟨rfl,(congrArg (· +1) hlen).trans (kO l fl (x.val+1)).symm⟩,rfl,by simp only;omega,trivial⟩,⟨rfl,rfl,rfl,rfl,trivial⟩,⟨(congrArg (· +1) hlen).trans (kO l fl (x.val+1)).symm,a9U _ _⟩,trivial⟩,by unfold Lt;simp only;omega⟩
   ·have hge:¬ (x.val:Int)<numR l:=yQ hc;have hx:=x.2;have he:x.val=(numR l).toNat:=by omega
    rw[he];exact⟨by unfold Le;omega,⟨rfl,Z9 _ _⟩,⟨rfl,rfl,rfl,rfl,trivial⟩,trivial⟩
  ·cases h
 ·cases h
theorem nK{t:List UInt8}:∀{i:Nat} {x:Nat×List (List UInt8)},zU t i=some x->x.2.length=i
 |0,x,h=>by simp only[zU,X6] at h;subst h;rfl
 |i+1,x,h=>by
  simp only[zU] at h;split at h
  ·rename_i p out ho;split at h
   ·simp only[X6] at h;subst h;simp[nK ho]
   ·cases h
  ·cases h
theorem a81{t:List UInt8}{i p:Nat}{out:List (List UInt8)}(h:zU t i=some (p,out)):zU t (i+1)=if p<t.length/\p+1+(t.getD p 0).toNat<=t.length then some (p+1+(t.getD p 0).toNat,out++[List.drop (p+1) (List.take (p+1+(t.getD p 0).toNat) t)]) else none:=by
 simp only[zU,h]
theorem eL{t:List UInt8}{i:Nat}(h:zU t i=none):∀j,zU t (i+j)=none
 |0=>h
 |j+1=>by
  have:=eL h j;rw[show i+(j+1)=(i+j)+1 by omega]
  simp only[zU,this]
theorem kM:Z1 Tryz.prog 231 b4C:=by
 intro(t:List UInt8) (hl:t.length<=1000000000);have hb:=d5 t;have hcn:((t.getD 0 0).toNat:Int)=(K4 t:Int):=rfl;have h0:(t==[])=false->0<t.length:=fun h=>List.length_pos_iff.2 (by simpa using h)
 refine b2C t ⟨fun h=>⟨by omega,by have:=h0 h;omega⟩,fun h=> ?_,fun h=> ?_⟩
 ·have hn:T1 t=none:=by
   unfold T1;rw[if_pos];simp only[oU,beq_iff_eq,t9] at h;rcases h with h|h
   ·exact .inl (by simp[h])
   ·exact .inr (by omega)
  rw[hn];exact⟨V5 _,⟨rfl,a0P _ _⟩,rfl,trivial⟩
 simp only[vG,tV] at h;have hpos:0<t.length:=h0 h.1;have hall:T1 t=match zU t (K4 t) with
  |some (p,out)=>if p=t.length then some out else none
  |none=>none:=by
  unfold T1;rw[if_neg (by omega)]
 refine⟨⟨by omega,by omega⟩,⟨⟨(0,1,[]),T0 _,rfl⟩,⟨rfl,⟨rfl,rfl⟩,rfl,by rw[zA,hcn];simp,trivial⟩,⟨rfl,a0P _ _⟩,trivial⟩,fun x=> ?_⟩
 obtain⟨⟨i,p,out⟩,hi,hx⟩:=x;simp only at hi hx ⊢;have hlen:out.length=i:=nK hx;rw[v4,zA];have hbp:=hb p;refine⟨fun hc=> ?_,fun hc=> ?_⟩
 ·have hlt:i<K4 t:=by have:=D8 hc;omega
  have hst:=a81 hx;refine⟨fun g=>Z5 (by have:=yQ g;omega),fun g=>⟨by omega,by have:=yQ g;omega⟩,fun g=>Z5 (by have:=yQ g;omega),fun g=> ?_,fun g=> ?_⟩
  ·have hn:T1 t=none:=by
    rw[if_neg (by simp only[oU,t9] at g;omega)] at hst
    rw[hall];have:=eL hst (K4 t- (i+1));rw[show i+1+(K4 t- (i+1))=K4 t by omega] at this
    rw[this]
   rw[hn];exact⟨V5 _,⟨rfl,a0P _ _⟩,rfl,trivial⟩
  ·simp only[vG,tV] at g;rw[if_pos (by omega)] at hst
   refine⟨⟨by omega,by omega⟩,Z5 (by omega),Z5 (by omega),Z5 (by omega),⟨by omega,by omega,by omega⟩,⟨V5 _,V5 _,by omega,by omega⟩,Z5 (by omega),Z5 (by omega),Z5 (by omega),
    ⟨(i+1,_,_),hlt,hst⟩,⟨⟨(by trivial),⟨(by trivial),by simp⟩,by simp only;omega,by simp only;omega,trivial⟩,⟨by simp,?_⟩,trivial⟩,by unfold Lt;simp only;omega⟩
   rw[show((p:Int)+1).toNat=p+1 by omega,show((p:Int)+1+((t.getD p 0).toNat:Int)).toNat=p+1+(t.getD p 0).toNat by omega]
   exact a9U _ _
 ·have he:i=K4 t:=by have:=yQ hc;omega
  subst he;rw[hx] at hall;simp only at hall;refine⟨fun g=> ?_,fun g=> ?_⟩
  ·have hn:T1 t=none:=by
    rw[hall,if_neg (by simp only[bne_iff_ne,ne_eq] at g;omega)]
   rw[hn];exact⟨V5 _,⟨rfl,a0P _ _⟩,rfl,trivial⟩
  ·have hn:T1 t=some out:=by
    rw[hall,if_pos (by simp only[bne_eq_false_iff_eq] at g;omega)]
   rw[hn];exact⟨by unfold Le;omega,⟨rfl,Z9 _ _⟩,rfl,trivial⟩
end Go.Proofs.YtokaojbaacnngaaGreat

