/- A part of the proof. -/
import Derived.Test.YtokaojbaacnngaaGreatE1E2
namespace Go.Proofs.YtokaojbaacnngaaGreat
set_option maxRecDepth 100000
open Go.SS

def Z5(L:List (List UInt8))(i:Nat):List T:=[.str (L.getD i [])]
def C0(L:List (List UInt8)):T:=.sl 1 L.length (Z5 L)
def G0(L:List (List UInt8)):Option Ob:=some (.arr true 0 1 L.length (Z5 L))
structure Fst where
 l:List UInt8
 fl:Bool
 out:List (List UInt8)
def Fst.step(s:Fst):Fst:=⟨O3 (s.l.drop 1) (numR s.l),(s.fl||s.l.isEmpty)||big (s.l.drop 1) (numR s.l),s.out++[S4 (s.l.drop 1) (numR s.l)]⟩
def Fst.go(s:Fst):Nat->Fst
 |0=>s
 |n+1=>Fst.step (Fst.go s n)
def fs0(l:List UInt8)(fl:Bool):Fst:=⟨l.drop 1,fl||l.isEmpty,[]⟩
def L0(l:List UInt8)(fl:Bool)(i:Nat):Fst:=Fst.go (fs0 l fl) i
def V1(l:List UInt8)(fl:Bool):Fst:=L0 l fl (numR l).toNat
theorem wH(l:List UInt8)(fl:Bool):∀i,(L0 l fl i).out.length=i
 |0=>rfl
 |i+1=>by
  have:=wH l fl i;simp only[L0] at this ⊢;simp[Fst.go,Fst.step,this]
def aM:List T->Y3->Option (T×Y3×Option Prop)
 | [.ref 0 0 0],[some (.arr true _ 2 1 row)]=>match row 0 with
  | [.bys l,.bool fl]=>some (C0 (V1 l fl).out,[rdr (V1 l fl).l (V1 l fl).fl],none)
  |_=>none
 |_,_=>none
def b0V:Con:=.eff aM
def bQ(l:List UInt8)(fl:Bool):Nat->Ann
 |0=>.one {i:Nat//i<=(numR l).toNat} (λx=>⟨[(0,.ref 0 0 0),(3,.osl 1 0 (L0 l fl x.1).out.length),(6,.int .i64 (numR l)),(7,.int .i64 x.1)],[rdr (L0 l fl x.1).l (L0 l fl x.1).fl,G0 (L0 l fl x.1).out]⟩) (λx=>(numR l).toNat-x.1) [.box 0,.arr 1] [.box 0,.arr 3] (λ_=>Z0)
 |_=>.none
def zZ(t:List UInt8):Nat->Option (Nat×List (List UInt8))
 |0=>some (1,[])
 |i+1=>match zZ t i with
  |some (p,out)=>if p<t.length/\p+1+(t.getD p 0).toNat<=t.length then some (p+1+(t.getD p 0).toNat,out++[List.drop (p+1) (List.take (p+1+(t.getD p 0).toNat) t)]) else none
  |none=>none
def J4(t:List UInt8):Nat:=(t.getD 0 0).toNat
def S3(t:List UInt8):Option (List (List UInt8)):=if t.length=0∨J4 t>100 then none else match zZ t (J4 t) with
 |some (p,out)=>if p=t.length then some out else none
 |none=>none
def jJ:Rl:=⟨List UInt8,λt=>[.str t],λt=>.tup [C0 ((S3 t).getD []),.bool (S3 t).isSome],J1⟩
def a8z:Con:=.rel jJ
def b5B(t:List UInt8):Type:={x:Nat×Nat×List (List UInt8)//x.1<=J4 t/\zZ t x.1=some x.2}
def a8L(t:List UInt8):Nat->Ann
 |0=>.one (b5B t) (λx=>⟨[(0,.str t),(4,.osl 0 0 x.1.2.2.length),(5,.int .i64 x.1.2.1),(6,.int .i64 (J4 t-x.1.1:Int))],[G0 x.1.2.2]⟩) (λx=>J4 t-x.1.1) [.arr 0] [.arr 2] (λ_=>Z0)
 |_=>.none
theorem iK(row row':Nat->List T):Z6 0 row row':=λi hi=>absurd hi (F2 i)
theorem Z2(n:Nat)(row:Nat->List T):Z6 n row row:=λi _=>rfl
theorem fC(L:List (List UInt8))(s:List UInt8):Z6 (L.length+1) (W6 (Z5 L) L.length λk=>List.take 1 (List.drop (k*1) [T.str s])) (Z5 (L++[s])):=by
 intro i hi;by_cases h:i<L.length
 ·rw[D4 h];simp[Z5,oX h]
 ·obtain rfl:i=L.length:=by omega
  rw[D2 (V2 _),j_h];simp[Z5]
theorem jI:GK 258 b0V:=gk Tryz.func258<|by
 intro args H res H' p h hp;unfold aM at h;split at h
 ·rename_i ty row;split at h
  ·rename_i l fl hrow;simp only[X1,U4] at h;obtain⟨rfl,rfl,rfl⟩:=h;refine uY (oS hrow) ?_
   have hn:=z4 l;refine vcE (gC dZ (gC rX gN)) Tryz.func258 (bQ l fl) (bs:=[true]) (α:=(∃(x:{i:Nat//i<=(numR l).toNat}),((0=0/\0=0)/\(0=0/\0=(L0 l fl x.val).out.length)/\numR l=numR l/\(0:Int)=(x.val:Int)/\True)/\(1=1/\1=1/\List.drop 1 l=(L0 l fl x.val).l/\(fl||l.isEmpty)=(L0 l fl x.val).fl/\True)/\(0=(L0 l fl x.val).out.length/\Z6 0 (λ(k:Nat)=>List.take 1 (List.drop (k*1) [])) (Z5 (L0 l fl x.val).out))/\True)/\∀(x:{i:Nat//i<=(numR l).toNat}),(decide ((x.val:Int)<numR l)=true->wZ (numR (L0 l fl x.val).l)/\(Le 1 1/\Le (L0 l fl x.val).out.length (L0 l fl x.val).out.length/\V6 (L0 l fl x.val).out.length 1 16)/\X4 .i64 ((x.val:Int)+(1:Int))/\∃(y:{i:Nat//i<=(numR l).toNat}),(((0=0/\0=0)/\(0=0/\(L0 l fl x.val).out.length+1=(L0 l fl y.val).out.length)/\numR l=numR l/\(x.val:Int)+(1:Int)=(y.val:Int)/\True)/\(1=1/\1=1/\O3 (List.drop 1 (L0 l fl x.val).l) (numR (L0 l fl x.val).l)=(L0 l fl y.val).l/\((L0 l fl x.val).fl||(L0 l fl x.val).l.isEmpty||big (List.drop 1 (L0 l fl x.val).l) (numR (L0 l fl x.val).l))=(L0 l fl y.val).fl/\True)/\((L0 l fl x.val).out.length+1=(L0 l fl y.val).out.length/\Z6 ((L0 l fl x.val).out.length+1) (W6 (Z5 (L0 l fl x.val).out) (L0 l fl x.val).out.length λ(k:Nat)=>List.take 1 (List.drop (k*1) [T.str (S4 (List.drop 1 (L0 l fl x.val).l) (numR (L0 l fl x.val).l))])) (Z5 (L0 l fl y.val).out))/\True)/\Lt ((numR l).toNat-y.val) ((numR l).toNat-x.val))/\(decide ((x.val:Int)<numR l)=false->Le (0+(L0 l fl x.val).out.length) (L0 l fl x.val).out.length/\(Y5 Z5 (L0 l fl x.val).out (V1 l fl).out)/\(1=1/\1=1/\(L0 l fl x.val).l=(V1 l fl).l/\(L0 l fl x.val).fl=(V1 l fl).fl/\True)/\True)) ⟨⟨⟨0,S7 _⟩,⟨Z7,Z7,rfl,Z9⟩,⟨rfl,rfl,rfl,Z9⟩,⟨rfl,iK _ _⟩,trivial⟩,λx=>⟨λhc=> ?_,λhc=> ?_⟩⟩
   ·have hlt:(x.val:Int)<numR l:=F3 hc;have hlen:=wH l fl x.val;have hm:=z4 (L0 l fl x.val).l;refine⟨⟨hm.1,by omega⟩,⟨V2 _,V2 _,by omega,by omega⟩,Z4 (by omega),⟨x.val+1,by omega⟩,⟨⟨Z7,⟨rfl,(congrArg (· +1) hlen).trans (wH l fl (x.val+1)).symm⟩,rfl,by simp only;omega,trivial⟩,⟨rfl,rfl,rfl,rfl,trivial⟩,⟨(congrArg (· +1) hlen).trans (wH l fl (x.val+1)).symm,fC _ _⟩,trivial⟩,by unfold Lt;simp only;omega⟩
   ·have hge:¬ (x.val:Int)<numR l:=yQ hc;have hx:=x.2;have he:x.val=(numR l).toNat:=by omega
    rw[he];exact⟨by unfold Le;omega,Z8,⟨rfl,rfl,rfl,Z9⟩,trivial⟩
  ·cases h
 ·cases h
theorem lR{t:List UInt8}:∀{i:Nat} {x:Nat×List (List UInt8)},zZ t i=some x->x.2.length=i
 |0,x,h=>by simp only[zZ,X1] at h;subst h;rfl
 |i+1,x,h=>by
  simp only[zZ] at h;split at h
  ·rename_i p out ho;split at h
   ·simp only[X1] at h;subst h;simp[lR ho]
   ·cases h
  ·cases h
theorem a5K{t:List UInt8}{i p:Nat}{out:List (List UInt8)}(h:zZ t i=some (p,out)):zZ t (i+1)=if p<t.length/\p+1+(t.getD p 0).toNat<=t.length then some (p+1+(t.getD p 0).toNat,out++[List.drop (p+1) (List.take (p+1+(t.getD p 0).toNat) t)]) else none:=by
 simp only[zZ,h]
theorem eE{t:List UInt8}{i:Nat}(h:zZ t i=none):∀j,zZ t (i+j)=none
 |0=>h
 |j+1=>by
  have:=eE h j;rw[show i+(j+1)=(i+j)+1 by omega]
  simp only[zZ,this]
theorem lK:GK 231 a8z:=gk Tryz.func231<|by
 intro(t:List UInt8) (hl:t.length<=1000000000);have hb:=zG t;have hcn:((t.getD 0 0).toNat:Int)=(J4 t:Int):=rfl;have h0:(t==[])=false->0<t.length:=λh=>List.length_pos_iff.2 (by simpa using h)
 refine S6 gN Tryz.func231 (a8L t) (α:=((t==[])=false->W4 (0:Int) t.length)/\((t==[]||decide ((↑(t.getD 0 (0:UInt8)).toNat:Int)>(100:Int)))=true->Le 0 0/\(0=((S3 t).getD []).length/\Z6 0 (λ(k:Nat)=>List.take 1 (List.drop (k*1) [])) (Z5 ((S3 t).getD [])))/\false=(S3 t).isSome/\True)/\((t==[]||decide ((↑(t.getD 0 (0:UInt8)).toNat:Int)>(100:Int)))=false->W4 (0:Int) t.length/\(∃(x:b5B t),(t=t/\(0=0/\0=x.val.2.2.length)/\(1:Int)=(x.val.2.1:Int)/\IntKind.i64.wrap (↑(t.getD 0 (0:UInt8)).toNat:Int)=(↑(J4 t):Int)- (x.val.1:Int)/\True)/\(0=x.val.2.2.length/\Z6 0 (λ(k:Nat)=>List.take 1 (List.drop (k*1) [])) (Z5 x.val.2.2))/\True)/\∀(x:b5B t),(decide ((↑(J4 t):Int)- (x.val.1:Int)>(0:Int))=true->(decide ((x.val.2.1:Int)≥(t.length:Int))=false->X4 .i64 ((x.val.2.1:Int)+(1:Int)))/\(decide ((x.val.2.1:Int)≥(t.length:Int))=false->W4 (x.val.2.1:Int) t.length)/\(decide ((x.val.2.1:Int)≥(t.length:Int))=false->X4 .i64 ((x.val.2.1:Int)+(1:Int)+IntKind.i64.wrap (↑(t.getD (x.val.2.1:Int).toNat (0:UInt8)).toNat:Int)))/\((decide ((x.val.2.1:Int)≥(t.length:Int))||decide ((x.val.2.1:Int)+(1:Int)+IntKind.i64.wrap (↑(t.getD (x.val.2.1:Int).toNat (0:UInt8)).toNat:Int)>(t.length:Int)))=true->Le 0 0/\(0=((S3 t).getD []).length/\Z6 0 (λ(k:Nat)=>List.take 1 (List.drop (k*1) [])) (Z5 ((S3 t).getD [])))/\false=(S3 t).isSome/\True)/\((decide ((x.val.2.1:Int)≥(t.length:Int))||decide ((x.val.2.1:Int)+(1:Int)+IntKind.i64.wrap (↑(t.getD (x.val.2.1:Int).toNat (0:UInt8)).toNat:Int)>(t.length:Int)))=false->W4 (x.val.2.1:Int) t.length/\X4 .i64 ((x.val.2.1:Int)+(1:Int))/\X4 .i64 ((x.val.2.1:Int)+(1:Int))/\X4 .i64 ((x.val.2.1:Int)+(1:Int)+IntKind.i64.wrap (↑(t.getD (x.val.2.1:Int).toNat (0:UInt8)).toNat:Int))/\b5X ((x.val.2.1:Int)+(1:Int)) ((x.val.2.1:Int)+(1:Int)+IntKind.i64.wrap (↑(t.getD (x.val.2.1:Int).toNat (0:UInt8)).toNat:Int)) t.length/\(Le 1 1/\Le x.val.2.2.length x.val.2.2.length/\V6 x.val.2.2.length 1 16)/\X4 .i64 ((1:Int)+IntKind.i64.wrap (↑(t.getD (x.val.2.1:Int).toNat (0:UInt8)).toNat:Int))/\X4 .i64 ((x.val.2.1:Int)+((1:Int)+IntKind.i64.wrap (↑(t.getD (x.val.2.1:Int).toNat (0:UInt8)).toNat:Int)))/\X4 .i64 ((↑(J4 t):Int)- (x.val.1:Int)- (1:Int))/\∃(y:b5B t),((t=t/\(0=0/\x.val.2.2.length+1=y.val.2.2.length)/\(x.val.2.1:Int)+((1:Int)+IntKind.i64.wrap (↑(t.getD (x.val.2.1:Int).toNat (0:UInt8)).toNat:Int))=(y.val.2.1:Int)/\(↑(J4 t):Int)- (x.val.1:Int)- (1:Int)=(↑(J4 t):Int)- (y.val.1:Int)/\True)/\(x.val.2.2.length+1=y.val.2.2.length/\Z6 (x.val.2.2.length+1) (W6 (Z5 x.val.2.2) x.val.2.2.length λ(k:Nat)=>List.take 1 (List.drop (k*1) [T.str (List.drop ((x.val.2.1:Int)+(1:Int)).toNat (List.take ((x.val.2.1:Int)+(1:Int)+IntKind.i64.wrap (↑(t.getD (x.val.2.1:Int).toNat (0:UInt8)).toNat:Int)).toNat t))])) (Z5 y.val.2.2))/\True)/\Lt (J4 t-y.val.1) (J4 t-x.val.1)))/\(decide ((↑(J4 t):Int)- (x.val.1:Int)>(0:Int))=false->(((x.val.2.1:Int) !=(t.length:Int))=true->Le 0 0/\(0=((S3 t).getD []).length/\Z6 0 (λ(k:Nat)=>List.take 1 (List.drop (k*1) [])) (Z5 ((S3 t).getD [])))/\false=(S3 t).isSome/\True)/\(((x.val.2.1:Int) !=(t.length:Int))=false->Le (0+x.val.2.2.length) x.val.2.2.length/\(Y5 Z5 x.val.2.2 ((S3 t).getD []))/\true=(S3 t).isSome/\True)))) ⟨λh=>⟨by omega,by have:=h0 h;omega⟩,λh=> ?_,λh=> ?_⟩
 ·have hn:S3 t=none:=by
   unfold S3;rw[if_pos];simp only[oQ,beq_iff_eq,o9] at h;rcases h with h|h
   ·exact .inl (by simp[h])
   ·exact .inr (by omega)
  rw[hn];exact⟨V2 _,⟨rfl,iK _ _⟩,Z9⟩
 simp only[uL,tW] at h;have hpos:0<t.length:=h0 h.1;have hall:S3 t=match zZ t (J4 t) with
  |some (p,out)=>if p=t.length then some out else none
  |none=>none:=by
  unfold S3;rw[if_neg (by omega)]
 refine⟨⟨by omega,by omega⟩,⟨⟨(0,1,[]),S7 _,rfl⟩,⟨rfl,Z7,rfl,by rw[yI,hcn];simp,trivial⟩,⟨rfl,iK _ _⟩,trivial⟩,λx=> ?_⟩
 obtain⟨⟨i,p,out⟩,hi,hx⟩:=x;simp only at hi hx ⊢;have hlen:out.length=i:=lR hx;rw[u9,yI];have hbp:=hb p;refine⟨λhc=> ?_,λhc=> ?_⟩
 ·have hlt:i<J4 t:=by have:=F3 hc;omega
  have hst:=a5K hx;refine⟨λg=>Z4 (by have:=yQ g;omega),λg=>⟨by omega,by have:=yQ g;omega⟩,λg=>Z4 (by have:=yQ g;omega),λg=> ?_,λg=> ?_⟩
  ·have hn:S3 t=none:=by
    rw[if_neg (by simp only[oQ,o9] at g;omega)] at hst
    rw[hall];have:=eE hst (J4 t- (i+1));rw[show i+1+(J4 t- (i+1))=J4 t by omega] at this
    rw[this]
   rw[hn];exact⟨V2 _,⟨rfl,iK _ _⟩,Z9⟩
  ·simp only[uL,tW] at g;rw[if_pos (by omega)] at hst
   refine⟨⟨by omega,by omega⟩,Z4 (by omega),Z4 (by omega),Z4 (by omega),⟨by omega,by omega,by omega⟩,⟨V2 _,V2 _,by omega,by omega⟩,Z4 (by omega),Z4 (by omega),Z4 (by omega),
    ⟨(i+1,_,_),hlt,hst⟩,⟨⟨(by trivial),⟨(by trivial),by simp⟩,by simp only;omega,by simp only;omega,trivial⟩,⟨by simp,?_⟩,trivial⟩,by unfold Lt;simp only;omega⟩
   rw[show((p:Int)+1).toNat=p+1 by omega,show((p:Int)+1+((t.getD p 0).toNat:Int)).toNat=p+1+(t.getD p 0).toNat by omega]
   exact fC _ _
 ·have he:i=J4 t:=by have:=yQ hc;omega
  subst he;rw[hx] at hall;simp only at hall;refine⟨λg=> ?_,λg=> ?_⟩
  ·have hn:S3 t=none:=by
    rw[hall,if_neg (by simp only[bne_iff_ne,ne_eq] at g;omega)]
   rw[hn];exact⟨V2 _,⟨rfl,iK _ _⟩,Z9⟩
  ·have hn:S3 t=some out:=by
    rw[hall,if_pos (by simp only[bne_eq_false_iff_eq] at g;omega)]
   rw[hn];exact⟨by unfold Le;omega,Z8,Z9⟩
end Go.Proofs.YtokaojbaacnngaaGreat

