/- A part of the proof. -/
import Derived.Test.YtokaojbaacnngaaGreatE1E2
namespace Go.Proofs.YtokaojbaacnngaaGreat
set_option maxRecDepth 100000
open Go.SS

def Z5(L:List (List UInt8))(i:Nat):List T:=[.str (L.getD i [])]
def B4(L:List (List UInt8)):T:=.sl 1 L.length (Z5 L)
def F5(L:List (List UInt8)):Option Ob:=some (.arr true 0 1 L.length (Z5 L))
structure Fst where
 l:List UInt8
 fl:Bool
 out:List (List UInt8)
def Fst.step(s:Fst):Fst:=⟨N7 (s.l.drop 1) (numR s.l),(s.fl||s.l.isEmpty)||big (s.l.drop 1) (numR s.l),s.out++[R7 (s.l.drop 1) (numR s.l)]⟩
def Fst.go(s:Fst):Nat->Fst
 |0=>s
 |n+1=>Fst.step (Fst.go s n)
def fs0(l:List UInt8)(fl:Bool):Fst:=⟨l.drop 1,fl||l.isEmpty,[]⟩
def K5(l:List UInt8)(fl:Bool)(i:Nat):Fst:=Fst.go (fs0 l fl) i
def U8(l:List UInt8)(fl:Bool):Fst:=K5 l fl (numR l).toNat
theorem wC(l:List UInt8)(fl:Bool):∀i,(K5 l fl i).out.length=i
 |0=>rfl
 |i+1=>by
  have:=wC l fl i;simp only[K5] at this ⊢;simp[Fst.go,Fst.step,this]
def aH:List T->Y0->Option (T×Y0×Option Prop)
 | [.ref 0 0 0],[some (.arr true _ 2 1 row)]=>match row 0 with
  | [.bys l,.bool fl]=>some (B4 (U8 l fl).out,[rdr (U8 l fl).l (U8 l fl).fl],none)
  |_=>none
 |_,_=>none
def b0h:Con:=.eff aH
def a0o(l:List UInt8)(fl:Bool):Nat->Ann
 |0=>.one {i:Nat//i<=(numR l).toNat} (λx=>⟨[(0,.ref 0 0 0),(3,.osl 1 0 (K5 l fl x.1).out.length),(6,.int .i64 (numR l)),(7,.int .i64 x.1)],[rdr (K5 l fl x.1).l (K5 l fl x.1).fl,F5 (K5 l fl x.1).out]⟩) (λx=>(numR l).toNat-x.1) [.box 0,.arr 1] [.box 0,.arr 3] (λ_=>Z0)
 |_=>.none
def d5(t:List UInt8):Nat->Option (Nat×List (List UInt8))
 |0=>some (1,[])
 |i+1=>match d5 t i with
  |some (p,out)=>if p<t.length/\p+1+(t.getD p 0).toNat<=t.length then some (p+1+(t.getD p 0).toNat,out++[List.drop (p+1) (List.take (p+1+(t.getD p 0).toNat) t)]) else none
  |none=>none
def I9(t:List UInt8):Nat:=(t.getD 0 0).toNat
def R6(t:List UInt8):Option (List (List UInt8)):=if t.length=0∨I9 t>100 then none else match d5 t (I9 t) with
 |some (p,out)=>if p=t.length then some out else none
 |none=>none
def gI:Rl:=⟨List UInt8,λt=>[.str t],λt=>.tup [B4 ((R6 t).getD []),.bool (R6 t).isSome],I2⟩
def a7g:Con:=.rel gI
def b5W(t:List UInt8):Type:={x:Nat×Nat×List (List UInt8)//x.1<=I9 t/\d5 t x.1=some x.2}
def a9K(t:List UInt8):Nat->Ann
 |0=>.one (b5W t) (λx=>⟨[(0,.str t),(4,.osl 0 0 x.1.2.2.length),(5,.int .i64 x.1.2.1),(6,.int .i64 (I9 t-x.1.1:Int))],[F5 x.1.2.2]⟩) (λx=>I9 t-x.1.1) [.arr 0] [.arr 2] (λ_=>Z0)
 |_=>.none
theorem jB(row row':Nat->List T):Z6 0 row row':=λi hi=>absurd hi (F3 i)
theorem Z2(n:Nat)(row:Nat->List T):Z6 n row row:=λi _=>rfl
theorem bS(L:List (List UInt8))(s:List UInt8):Z6 (L.length+1) (W7 (Z5 L) L.length λk=>List.take 1 (List.drop (k*1) [T.str s])) (Z5 (L++[s])):=by
 intro i hi;by_cases h:i<L.length
 ·rw[C9 h];simp[Z5,sC h]
 ·obtain rfl:i=L.length:=by omega
  rw[C4 (V1 _),j_h];simp[Z5]
theorem iH:GK 258 b0h:=gk Tryz.func258<|by
 intro args H res H' p h hp;unfold aH at h;split at h
 ·rename_i ty row;split at h
  ·rename_i l fl hrow;simp only[W8,U0] at h;obtain⟨rfl,rfl,rfl⟩:=h;refine uM (nW hrow) ?_
   have hn:=z4 l;refine vcE (gC dA (gC rA gN)) Tryz.func258 (a0o l fl) (bs:=[true]) (α:=(∃(x:{i:Nat//i<=(numR l).toNat}),((0=0/\0=0)/\(0=0/\0=(K5 l fl x.val).out.length)/\numR l=numR l/\(0:Int)=(x.val:Int)/\True)/\(1=1/\1=1/\List.drop 1 l=(K5 l fl x.val).l/\(fl||l.isEmpty)=(K5 l fl x.val).fl/\True)/\(0=(K5 l fl x.val).out.length/\Z6 0 (λ(k:Nat)=>List.take 1 (List.drop (k*1) [])) (Z5 (K5 l fl x.val).out))/\True)/\∀(x:{i:Nat//i<=(numR l).toNat}),(decide ((x.val:Int)<numR l)=true->wX (numR (K5 l fl x.val).l)/\(Le 1 1/\Le (K5 l fl x.val).out.length (K5 l fl x.val).out.length/\V7 (K5 l fl x.val).out.length 1 16)/\X2 .i64 ((x.val:Int)+(1:Int))/\∃(y:{i:Nat//i<=(numR l).toNat}),(((0=0/\0=0)/\(0=0/\(K5 l fl x.val).out.length+1=(K5 l fl y.val).out.length)/\numR l=numR l/\(x.val:Int)+(1:Int)=(y.val:Int)/\True)/\(1=1/\1=1/\N7 (List.drop 1 (K5 l fl x.val).l) (numR (K5 l fl x.val).l)=(K5 l fl y.val).l/\((K5 l fl x.val).fl||(K5 l fl x.val).l.isEmpty||big (List.drop 1 (K5 l fl x.val).l) (numR (K5 l fl x.val).l))=(K5 l fl y.val).fl/\True)/\((K5 l fl x.val).out.length+1=(K5 l fl y.val).out.length/\Z6 ((K5 l fl x.val).out.length+1) (W7 (Z5 (K5 l fl x.val).out) (K5 l fl x.val).out.length λ(k:Nat)=>List.take 1 (List.drop (k*1) [T.str (R7 (List.drop 1 (K5 l fl x.val).l) (numR (K5 l fl x.val).l))])) (Z5 (K5 l fl y.val).out))/\True)/\Lt ((numR l).toNat-y.val) ((numR l).toNat-x.val))/\(decide ((x.val:Int)<numR l)=false->Le (0+(K5 l fl x.val).out.length) (K5 l fl x.val).out.length/\(Y6 Z5 (K5 l fl x.val).out (U8 l fl).out)/\(1=1/\1=1/\(K5 l fl x.val).l=(U8 l fl).l/\(K5 l fl x.val).fl=(U8 l fl).fl/\True)/\True)) ⟨⟨⟨0,S2 _⟩,⟨Z7,Z7,rfl,Z9⟩,⟨rfl,rfl,rfl,Z9⟩,⟨rfl,jB _ _⟩,trivial⟩,λx=>⟨λhc=> ?_,λhc=> ?_⟩⟩
   ·have hlt:(x.val:Int)<numR l:=E9 hc;have hlen:=wC l fl x.val;have hm:=z4 (K5 l fl x.val).l;refine⟨⟨hm.1,by omega⟩,⟨V1 _,V1 _,by omega,by omega⟩,Z4 (by omega),⟨x.val+1,by omega⟩,⟨⟨Z7,⟨rfl,(congrArg (· +1) hlen).trans (wC l fl (x.val+1)).symm⟩,rfl,by simp only;omega,trivial⟩,⟨rfl,rfl,rfl,rfl,trivial⟩,⟨(congrArg (· +1) hlen).trans (wC l fl (x.val+1)).symm,bS _ _⟩,trivial⟩,by unfold Lt;simp only;omega⟩
   ·have hge:¬ (x.val:Int)<numR l:=yG hc;have hx:=x.2;have he:x.val=(numR l).toNat:=by omega
    rw[he];exact⟨by unfold Le;omega,Z8,⟨rfl,rfl,rfl,Z9⟩,trivial⟩
  ·cases h
 ·cases h
theorem nL{t:List UInt8}:∀{i:Nat} {x:Nat×List (List UInt8)},d5 t i=some x->x.2.length=i
 |0,x,h=>by simp only[d5,W8] at h;subst h;rfl
 |i+1,x,h=>by
  simp only[d5] at h;split at h
  ·rename_i p out ho;split at h
   ·simp only[W8] at h;subst h;simp[nL ho]
   ·cases h
  ·cases h
theorem a51{t:List UInt8}{i p:Nat}{out:List (List UInt8)}(h:d5 t i=some (p,out)):d5 t (i+1)=if p<t.length/\p+1+(t.getD p 0).toNat<=t.length then some (p+1+(t.getD p 0).toNat,out++[List.drop (p+1) (List.take (p+1+(t.getD p 0).toNat) t)]) else none:=by
 simp only[d5,h]
theorem dK{t:List UInt8}{i:Nat}(h:d5 t i=none):∀j,d5 t (i+j)=none
 |0=>h
 |j+1=>by
  have:=dK h j;rw[show i+(j+1)=(i+j)+1 by omega]
  simp only[d5,this]
theorem lS:GK 231 a7g:=gk Tryz.func231<|by
 intro(t:List UInt8) (hl:t.length<=1000000000);have hb:=yX t;have hcn:((t.getD 0 0).toNat:Int)=(I9 t:Int):=rfl;have h0:(t==[])=false->0<t.length:=λh=>List.length_pos_iff.2 (by simpa using h)
 refine S3 gN Tryz.func231 (a9K t) (α:=((t==[])=false->W2 (0:Int) t.length)/\((t==[]||decide ((↑(t.getD 0 (0:UInt8)).toNat:Int)>(100:Int)))=true->Le 0 0/\(0=((R6 t).getD []).length/\Z6 0 (λ(k:Nat)=>List.take 1 (List.drop (k*1) [])) (Z5 ((R6 t).getD [])))/\false=(R6 t).isSome/\True)/\((t==[]||decide ((↑(t.getD 0 (0:UInt8)).toNat:Int)>(100:Int)))=false->W2 (0:Int) t.length/\(∃(x:b5W t),(t=t/\(0=0/\0=x.val.2.2.length)/\(1:Int)=(x.val.2.1:Int)/\IntKind.i64.wrap (↑(t.getD 0 (0:UInt8)).toNat:Int)=(↑(I9 t):Int)- (x.val.1:Int)/\True)/\(0=x.val.2.2.length/\Z6 0 (λ(k:Nat)=>List.take 1 (List.drop (k*1) [])) (Z5 x.val.2.2))/\True)/\∀(x:b5W t),(decide ((↑(I9 t):Int)- (x.val.1:Int)>(0:Int))=true->(decide ((x.val.2.1:Int)≥(t.length:Int))=false->X2 .i64 ((x.val.2.1:Int)+(1:Int)))/\(decide ((x.val.2.1:Int)≥(t.length:Int))=false->W2 (x.val.2.1:Int) t.length)/\(decide ((x.val.2.1:Int)≥(t.length:Int))=false->X2 .i64 ((x.val.2.1:Int)+(1:Int)+IntKind.i64.wrap (↑(t.getD (x.val.2.1:Int).toNat (0:UInt8)).toNat:Int)))/\((decide ((x.val.2.1:Int)≥(t.length:Int))||decide ((x.val.2.1:Int)+(1:Int)+IntKind.i64.wrap (↑(t.getD (x.val.2.1:Int).toNat (0:UInt8)).toNat:Int)>(t.length:Int)))=true->Le 0 0/\(0=((R6 t).getD []).length/\Z6 0 (λ(k:Nat)=>List.take 1 (List.drop (k*1) [])) (Z5 ((R6 t).getD [])))/\false=(R6 t).isSome/\True)/\((decide ((x.val.2.1:Int)≥(t.length:Int))||decide ((x.val.2.1:Int)+(1:Int)+IntKind.i64.wrap (↑(t.getD (x.val.2.1:Int).toNat (0:UInt8)).toNat:Int)>(t.length:Int)))=false->W2 (x.val.2.1:Int) t.length/\X2 .i64 ((x.val.2.1:Int)+(1:Int))/\X2 .i64 ((x.val.2.1:Int)+(1:Int))/\X2 .i64 ((x.val.2.1:Int)+(1:Int)+IntKind.i64.wrap (↑(t.getD (x.val.2.1:Int).toNat (0:UInt8)).toNat:Int))/\b4I ((x.val.2.1:Int)+(1:Int)) ((x.val.2.1:Int)+(1:Int)+IntKind.i64.wrap (↑(t.getD (x.val.2.1:Int).toNat (0:UInt8)).toNat:Int)) t.length/\(Le 1 1/\Le x.val.2.2.length x.val.2.2.length/\V7 x.val.2.2.length 1 16)/\X2 .i64 ((1:Int)+IntKind.i64.wrap (↑(t.getD (x.val.2.1:Int).toNat (0:UInt8)).toNat:Int))/\X2 .i64 ((x.val.2.1:Int)+((1:Int)+IntKind.i64.wrap (↑(t.getD (x.val.2.1:Int).toNat (0:UInt8)).toNat:Int)))/\X2 .i64 ((↑(I9 t):Int)- (x.val.1:Int)- (1:Int))/\∃(y:b5W t),((t=t/\(0=0/\x.val.2.2.length+1=y.val.2.2.length)/\(x.val.2.1:Int)+((1:Int)+IntKind.i64.wrap (↑(t.getD (x.val.2.1:Int).toNat (0:UInt8)).toNat:Int))=(y.val.2.1:Int)/\(↑(I9 t):Int)- (x.val.1:Int)- (1:Int)=(↑(I9 t):Int)- (y.val.1:Int)/\True)/\(x.val.2.2.length+1=y.val.2.2.length/\Z6 (x.val.2.2.length+1) (W7 (Z5 x.val.2.2) x.val.2.2.length λ(k:Nat)=>List.take 1 (List.drop (k*1) [T.str (List.drop ((x.val.2.1:Int)+(1:Int)).toNat (List.take ((x.val.2.1:Int)+(1:Int)+IntKind.i64.wrap (↑(t.getD (x.val.2.1:Int).toNat (0:UInt8)).toNat:Int)).toNat t))])) (Z5 y.val.2.2))/\True)/\Lt (I9 t-y.val.1) (I9 t-x.val.1)))/\(decide ((↑(I9 t):Int)- (x.val.1:Int)>(0:Int))=false->(((x.val.2.1:Int) !=(t.length:Int))=true->Le 0 0/\(0=((R6 t).getD []).length/\Z6 0 (λ(k:Nat)=>List.take 1 (List.drop (k*1) [])) (Z5 ((R6 t).getD [])))/\false=(R6 t).isSome/\True)/\(((x.val.2.1:Int) !=(t.length:Int))=false->Le (0+x.val.2.2.length) x.val.2.2.length/\(Y6 Z5 x.val.2.2 ((R6 t).getD []))/\true=(R6 t).isSome/\True)))) ⟨λh=>⟨by omega,by have:=h0 h;omega⟩,λh=> ?_,λh=> ?_⟩
 ·have hn:R6 t=none:=by
   unfold R6;rw[if_pos];simp only[nO,beq_iff_eq,m5] at h;rcases h with h|h
   ·exact .inl (by simp[h])
   ·exact .inr (by omega)
  rw[hn];exact⟨V1 _,⟨rfl,jB _ _⟩,Z9⟩
 simp only[tU,tQ] at h;have hpos:0<t.length:=h0 h.1;have hall:R6 t=match d5 t (I9 t) with
  |some (p,out)=>if p=t.length then some out else none
  |none=>none:=by
  unfold R6;rw[if_neg (by omega)]
 refine⟨⟨by omega,by omega⟩,⟨⟨(0,1,[]),S2 _,rfl⟩,⟨rfl,Z7,rfl,by rw[xX,hcn];simp,trivial⟩,⟨rfl,jB _ _⟩,trivial⟩,λx=> ?_⟩
 obtain⟨⟨i,p,out⟩,hi,hx⟩:=x;simp only at hi hx ⊢;have hlen:out.length=i:=nL hx;rw[z7,xX];have hbp:=hb p;refine⟨λhc=> ?_,λhc=> ?_⟩
 ·have hlt:i<I9 t:=by have:=E9 hc;omega
  have hst:=a51 hx;refine⟨λg=>Z4 (by have:=yG g;omega),λg=>⟨by omega,by have:=yG g;omega⟩,λg=>Z4 (by have:=yG g;omega),λg=> ?_,λg=> ?_⟩
  ·have hn:R6 t=none:=by
    rw[if_neg (by simp only[nO,m5] at g;omega)] at hst
    rw[hall];have:=dK hst (I9 t- (i+1));rw[show i+1+(I9 t- (i+1))=I9 t by omega] at this
    rw[this]
   rw[hn];exact⟨V1 _,⟨rfl,jB _ _⟩,Z9⟩
  ·simp only[tU,tQ] at g;rw[if_pos (by omega)] at hst
   refine⟨⟨by omega,by omega⟩,Z4 (by omega),Z4 (by omega),Z4 (by omega),⟨by omega,by omega,by omega⟩,⟨V1 _,V1 _,by omega,by omega⟩,Z4 (by omega),Z4 (by omega),Z4 (by omega),
    ⟨(i+1,_,_),hlt,hst⟩,⟨⟨(by trivial),⟨(by trivial),by simp⟩,by simp only;omega,by simp only;omega,trivial⟩,⟨by simp,?_⟩,trivial⟩,by unfold Lt;simp only;omega⟩
   rw[show((p:Int)+1).toNat=p+1 by omega,show((p:Int)+1+((t.getD p 0).toNat:Int)).toNat=p+1+(t.getD p 0).toNat by omega]
   exact bS _ _
 ·have he:i=I9 t:=by have:=yG hc;omega
  subst he;rw[hx] at hall;simp only at hall;refine⟨λg=> ?_,λg=> ?_⟩
  ·have hn:R6 t=none:=by
    rw[hall,if_neg (by simp only[bne_iff_ne,ne_eq] at g;omega)]
   rw[hn];exact⟨V1 _,⟨rfl,jB _ _⟩,Z9⟩
  ·have hn:R6 t=some out:=by
    rw[hall,if_pos (by simp only[bne_eq_false_iff_eq] at g;omega)]
   rw[hn];exact⟨by unfold Le;omega,Z8,Z9⟩
end Go.Proofs.YtokaojbaacnngaaGreat

