/- A part of the proof. -/
import Derived.Test.YtghgljelnhfihaaGreatE1E2
namespace Go.Proofs.YtghgljelnhfihaaGreat
set_option maxRecDepth 100000
open Go.SS

def Z5(L:List (List UInt8))(i:Nat):List T:=[.str (L.getD i [])]
def xM(L:List (List UInt8)):T:=.sl 1 L.length (Z5 L)
def A1(L:List (List UInt8)):Option Ob:=some (.arr true 0 1 L.length (Z5 L))
structure Fst where
 l:List UInt8
 fl:Bool
 out:List (List UInt8)
def Fst.step(s:Fst):Fst:=⟨O9 (s.l.drop 1) (numR s.l),(s.fl||s.l.isEmpty)||big (s.l.drop 1) (numR s.l),s.out++[R6 (s.l.drop 1) (numR s.l)]⟩
def Fst.go(s:Fst):Nat->Fst
 |0=>s
 |n+1=>Fst.step (Fst.go s n)
def fs0(l:List UInt8)(fl:Bool):Fst:=⟨l.drop 1,fl||l.isEmpty,[]⟩
def I9(l:List UInt8)(fl:Bool)(i:Nat):Fst:=Fst.go (fs0 l fl) i
def U8(l:List UInt8)(fl:Bool):Fst:=I9 l fl (numR l).toNat
theorem wI(l:List UInt8)(fl:Bool):∀i,(I9 l fl i).out.length=i
 |0=>rfl
 |i+1=>by
  have:=wI l fl i;simp only[I9] at this ⊢;simp[Fst.go,Fst.step,this]
def a1w:List T->Y1->Option (T×Y1×Option Prop)
 | [.ref 0 0 0],[some (.arr true _ 2 1 row)]=>match row 0 with
  | [.bys l,.bool fl]=>some (xM (U8 l fl).out,[rdr (U8 l fl).l (U8 l fl).fl],none)
  |_=>none
 |_,_=>none
def b3O:Con:=.eff a1w
def a2P(l:List UInt8)(fl:Bool):Nat->Ann
 |0=>.one {i:Nat//i<=(numR l).toNat} (λx=>⟨[(0,.ref 0 0 0),(3,.osl 1 0 (I9 l fl x.1).out.length),(6,.int .i64 (numR l)),(7,.int .i64 x.1)],[rdr (I9 l fl x.1).l (I9 l fl x.1).fl,A1 (I9 l fl x.1).out]⟩) (λx=>(numR l).toNat-x.1) [.box 0,.arr 1] [.box 0,.arr 3] (λ_=>Y5)
 |_=>.none
def zD(t:List UInt8):Nat->Option (Nat×List (List UInt8))
 |0=>some (1,[])
 |i+1=>match zD t i with
  |some (p,out)=>if p<t.length/\p+1+(t.getD p 0).toNat<=t.length then some (p+1+(t.getD p 0).toNat,out++[List.drop (p+1) (List.take (p+1+(t.getD p 0).toNat) t)]) else none
  |none=>none
def H8(t:List UInt8):Nat:=(t.getD 0 0).toNat
def Q6(t:List UInt8):Option (List (List UInt8)):=if t.length=0∨H8 t>100 then none else match zD t (H8 t) with
 |some (p,out)=>if p=t.length then some out else none
 |none=>none
def fM:Rl:=⟨List UInt8,λt=>[.str t],λt=>.tup [xM ((Q6 t).getD []),.bool (Q6 t).isSome],G4⟩
def a9b:Con:=.rel fM
def b4G(t:List UInt8):Type:={x:Nat×Nat×List (List UInt8)//x.1<=H8 t/\zD t x.1=some x.2}
def a71(t:List UInt8):Nat->Ann
 |0=>.one (b4G t) (λx=>⟨[(0,.str t),(4,.osl 0 0 x.1.2.2.length),(5,.int .i64 x.1.2.1),(6,.int .i64 (H8 t-x.1.1:Int))],[A1 x.1.2.2]⟩) (λx=>H8 t-x.1.1) [.arr 0] [.arr 2] (λ_=>Y5)
 |_=>.none
theorem oG(row row':Nat->List T):Z6 0 row row':=λi hi=>absurd hi (J5 i)
theorem Z2(n:Nat)(row:Nat->List T):Z6 n row row:=λi _=>rfl
theorem a0v(L:List (List UInt8))(s:List UInt8):Z6 (L.length+1) (X3 (Z5 L) L.length λk=>List.take 1 (List.drop (k*1) [T.str s])) (Z5 (L++[s])):=by
 intro i hi;by_cases h:i<L.length
 ·rw[D7 h];simp[Z5,tX h]
 ·obtain rfl:i=L.length:=by omega
  rw[D8 (W4 _),j_h];simp[Z5]
theorem gG:GK 299 b3O:=gk Tryz.func299<|by
 intro args H res H' p h hp;unfold a1w at h;split at h
 ·rename_i ty row;split at h
  ·rename_i l fl hrow;simp only[W8,T5] at h;obtain⟨rfl,rfl,rfl⟩:=h;refine tW (nA hrow) ?_
   have hn:=w9 l;refine vcE (gC bG (gC pW gN)) Tryz.func299 (a2P l fl) (bs:=[true]) (α:=(∃(x:{i:Nat//i<=(numR l).toNat}),let q:=(I9 l fl x.val);((0=0/\0=0)/\(0=0/\0=q.out.length)/\numR l=numR l/\0=(x.val:Int)/\True)/\(1=1/\1=1/\List.drop 1 l=q.l/\(fl||l.isEmpty)=q.fl/\True)/\(0=q.out.length/\Z6 0 (λ(k:Nat)=>List.take 1 (List.drop (k*1) [])) (Z5 q.out))/\True)/\∀(x:{i:Nat//i<=(numR l).toNat}),let v:=(x.val:Int);let p:=(I9 l fl x.val);let w:=(numR p.l);let u:=(List.drop 1 p.l);let z:=p.out.length;(decide (v<numR l)=true->vY w/\(Le 1 1/\Le p.out.length z/\W6 p.out.length 1 16)/\W7 .i64 (v+1)/\∃(y:{i:Nat//i<=(numR l).toNat}),let r:=(I9 l fl y.val);(((0=0/\0=0)/\(0=0/\z+1=r.out.length)/\numR l=numR l/\v+1=(y.val:Int)/\True)/\(1=1/\1=1/\O9 u w=r.l/\(p.fl||p.l.isEmpty||big u w)=r.fl/\True)/\(z+1=r.out.length/\Z6 (z+1) (X3 (Z5 p.out) p.out.length λ(k:Nat)=>List.take 1 (List.drop (k*1) [T.str (R6 u w)])) (Z5 r.out))/\True)/\Lt ((numR l).toNat-y.val) ((numR l).toNat-x.val))/\(decide (v<numR l)=false->Le (0+z) z/\(Y8 Z5 p.out (U8 l fl).out)/\(1=1/\1=1/\p.l=(U8 l fl).l/\p.fl=(U8 l fl).fl/\True)/\True)) ⟨⟨⟨0,S7 _⟩,⟨Z8,Z8,rfl,Z9⟩,⟨rfl,rfl,rfl,Z9⟩,⟨rfl,oG _ _⟩,trivial⟩,λx=>⟨λhc=> ?_,λhc=> ?_⟩⟩
   ·have hlt:(x.val:Int)<numR l:=C7 hc;have hlen:=wI l fl x.val;have hm:=w9 (I9 l fl x.val).l;refine⟨⟨hm.1,by omega⟩,⟨W4 _,W4 _,by omega,by omega⟩,Z4 (by omega),⟨x.val+1,by omega⟩,⟨⟨Z8,⟨rfl,(congrArg (· +1) hlen).trans (wI l fl (x.val+1)).symm⟩,rfl,by simp only;omega,trivial⟩,⟨rfl,rfl,rfl,rfl,trivial⟩,⟨(congrArg (· +1) hlen).trans (wI l fl (x.val+1)).symm,a0v _ _⟩,trivial⟩,by unfold Lt;simp only;omega⟩
   ·have hge:¬ (x.val:Int)<numR l:=l7 hc;have hx:=x.2;have he:x.val=(numR l).toNat:=by omega
    rw[he];exact⟨by unfold Le;omega,Z7,⟨rfl,rfl,rfl,Z9⟩,trivial⟩
  ·cases h
 ·cases h
theorem lE{t:List UInt8}:∀{i:Nat} {x:Nat×List (List UInt8)},zD t i=some x->x.2.length=i
 |0,x,h=>by simp only[zD,W8] at h;subst h;rfl
 |i+1,x,h=>by
  simp only[zD] at h;split at h
  ·rename_i p out ho;split at h
   ·simp only[W8] at h;subst h;simp[lE ho]
   ·cases h
  ·cases h
theorem a6a{t:List UInt8}{i p:Nat}{out:List (List UInt8)}(h:zD t i=some (p,out)):zD t (i+1)=if p<t.length/\p+1+(t.getD p 0).toNat<=t.length then some (p+1+(t.getD p 0).toNat,out++[List.drop (p+1) (List.take (p+1+(t.getD p 0).toNat) t)]) else none:=by
 simp only[zD,h]
theorem bV{t:List UInt8}{i:Nat}(h:zD t i=none):∀j,zD t (i+j)=none
 |0=>h
 |j+1=>by
  have:=bV h j;rw[show i+(j+1)=(i+j)+1 by omega]
  simp only[zD,this]
theorem lB:GK 319 a9b:=gk Tryz.func319<|by
 intro(t:List UInt8) (hl:t.length<=1000000000);have hb:=g9 t;have hcn:((t.getD 0 0).toNat:Int)=(H8 t:Int):=rfl;have h0:(t==[])=false->0<t.length:=λh=>List.length_pos_iff.2 (by simpa using h)
 refine Q5 gN Tryz.func319 (a71 t) (α:=let c:=((Q6 t).getD []);let g:=(Q6 t).isSome;let n:=(λ(k:Nat)=>List.take 1 (List.drop (k*1) []));let j:=(↑(H8 t):Int);let v:=(↑(t.getD 0 (0:UInt8)).toNat:Int);let d:=(t==[]||decide (v>100));let z:=(t.length:Int);let r:=(0=c.length/\Z6 0 n (Z5 c));((t==[])=false->V3 (0:Int) t.length)/\(d=true->Le 0 0/\r/\false=g/\True)/\(d=false->V3 (0:Int) t.length/\(∃(x:b4G t),(t=t/\(0=0/\0=x.val.2.2.length)/\1=(x.val.2.1:Int)/\IntKind.i64.wrap v=j- (x.val.1:Int)/\True)/\(0=x.val.2.2.length/\Z6 0 n (Z5 x.val.2.2))/\True)/\∀(x:b4G t),let b:=x.val.2;let a:=(x.val.1:Int);let u:=b.2.length;let q:=(b.1:Int);let p:=(↑(t.getD q.toNat (0:UInt8)).toNat:Int);let f:=(1+IntKind.i64.wrap p);let m:=(decide (q≥z)||decide (q+1+IntKind.i64.wrap p>z));let w:=(q+1+IntKind.i64.wrap p);(decide (j- a>0)=true->(decide (q≥z)=false->W7 .i64 (q+1))/\(decide (q≥z)=false->V3 q t.length)/\(decide (q≥z)=false->W7 .i64 w)/\(m=true->Le 0 0/\r/\false=g/\True)/\(m=false->V3 q t.length/\W7 .i64 (q+1)/\W7 .i64 (q+1)/\W7 .i64 w/\a7J (q+1) w t.length/\(Le 1 1/\Le b.2.length u/\W6 b.2.length 1 16)/\W7 .i64 f/\W7 .i64 (q+f)/\W7 .i64 (j- a-1)/\∃(y:b4G t),((t=t/\(0=0/\u+1=y.val.2.2.length)/\q+f=(y.val.2.1:Int)/\j- a-1=j- (y.val.1:Int)/\True)/\(u+1=y.val.2.2.length/\Z6 (u+1) (X3 (Z5 b.2) b.2.length λ(k:Nat)=>List.take 1 (List.drop (k*1) [T.str (List.drop (q+1).toNat (List.take w.toNat t))])) (Z5 y.val.2.2))/\True)/\Lt (H8 t-y.val.1) (H8 t-x.val.1)))/\(decide (j- a>0)=false->((q !=z)=true->Le 0 0/\r/\false=g/\True)/\((q !=z)=false->Le (0+u) u/\(Y8 Z5 b.2 c)/\true=g/\True)))) ⟨λh=>⟨by omega,by have:=h0 h;omega⟩,λh=> ?_,λh=> ?_⟩
 ·have hn:Q6 t=none:=by
   unfold Q6;rw[if_pos];simp only[pP,beq_iff_eq,k4] at h;rcases h with h|h
   ·exact .inl (by simp[h])
   ·exact .inr (by omega)
  rw[hn];exact⟨W4 _,⟨rfl,oG _ _⟩,Z9⟩
 simp only[yP,rX] at h;have hpos:0<t.length:=h0 h.1;have hall:Q6 t=match zD t (H8 t) with
  |some (p,out)=>if p=t.length then some out else none
  |none=>none:=by
  unfold Q6;rw[if_neg (by omega)]
 refine⟨⟨by omega,by omega⟩,⟨⟨(0,1,[]),S7 _,rfl⟩,⟨rfl,Z8,rfl,by rw[wX,hcn];simp,trivial⟩,⟨rfl,oG _ _⟩,trivial⟩,λx=> ?_⟩
 obtain⟨⟨i,p,out⟩,hi,hx⟩:=x;simp only at hi hx ⊢;have hlen:out.length=i:=lE hx;rw[F5,wX];have hbp:=hb p;refine⟨λhc=> ?_,λhc=> ?_⟩
 ·have hlt:i<H8 t:=by have:=C7 hc;omega
  have hst:=a6a hx;refine⟨λg=>Z4 (by have:=l7 g;omega),λg=>⟨by omega,by have:=l7 g;omega⟩,λg=>Z4 (by have:=l7 g;omega),λg=> ?_,λg=> ?_⟩
  ·have hn:Q6 t=none:=by
    rw[if_neg (by simp only[pP,k4] at g;omega)] at hst
    rw[hall];have:=bV hst (H8 t- (i+1));rw[show i+1+(H8 t- (i+1))=H8 t by omega] at this
    rw[this]
   rw[hn];exact⟨W4 _,⟨rfl,oG _ _⟩,Z9⟩
  ·simp only[yP,rX] at g;rw[if_pos (by omega)] at hst
   refine⟨⟨by omega,by omega⟩,Z4 (by omega),Z4 (by omega),Z4 (by omega),⟨by omega,by omega,by omega⟩,⟨W4 _,W4 _,by omega,by omega⟩,Z4 (by omega),Z4 (by omega),Z4 (by omega),
    ⟨(i+1,_,_),hlt,hst⟩,⟨⟨(by trivial),⟨(by trivial),by simp⟩,by simp only;omega,by simp only;omega,trivial⟩,⟨by simp,?_⟩,trivial⟩,by unfold Lt;simp only;omega⟩
   rw[show((p:Int)+1).toNat=p+1 by omega,show((p:Int)+1+((t.getD p 0).toNat:Int)).toNat=p+1+(t.getD p 0).toNat by omega]
   exact a0v _ _
 ·have he:i=H8 t:=by have:=l7 hc;omega
  subst he;rw[hx] at hall;simp only at hall;refine⟨λg=> ?_,λg=> ?_⟩
  ·have hn:Q6 t=none:=by
    rw[hall,if_neg (by simp only[bne_iff_ne,ne_eq] at g;omega)]
   rw[hn];exact⟨W4 _,⟨rfl,oG _ _⟩,Z9⟩
  ·have hn:Q6 t=some out:=by
    rw[hall,if_pos (by simp only[bne_eq_false_iff_eq] at g;omega)]
   rw[hn];exact⟨by unfold Le;omega,Z7,Z9⟩
end Go.Proofs.YtghgljelnhfihaaGreat

