/- A part of the proof. -/
import Derived.Test.YtghgljelnhfihaaGreatU1U2
import Derived.Test.YtghgljelnhfihaaGreatX11X11rX12X13X14
import Derived.Test.YtghgljelnhfihaaGreatU3U4U5
namespace Go.Proofs.YtghgljelnhfihaaGreat
set_option maxRecDepth 100000
open Go.SS

def dr(x:List UInt8):Nat->List UInt8
 |0=>x
 |i+1=>(dr x i).drop 1
def wT(x:List UInt8):Nat->Bool
 |0=>false
 |i+1=>wT x i||(dr x i).isEmpty
def rcE(x:List UInt8):Fst:=U8 (dr x 9) (wT x 9)
def rcX(x:List UInt8):Rec:=⟨numR (dr x 1),numR (dr x 2),numR (dr x 3),numR (dr x 4),numR (dr x 5),numR (dr x 6),numR (dr x 7),numR (dr x 8),(rcE x).out.getD 0 [],(rcE x).out.getD 1 []⟩
def y7(x:List UInt8):Bool:= !(!(rcE x).fl&&(rcE x).l.isEmpty)||numR x !=108||(((rcE x).out.length:Nat):Int) !=2
def bW:Rec:=⟨0,0,0,0,0,0,0,0,[],[]⟩
noncomputable def S0(b:List UInt8):Rec×Int:=if S3 b=true then
  if y7 (X1 b)=true then(bW,3) else if R1 (rcX (X1 b))=true then(rcX (X1 b),0) else(bW,3)
 else(bW,8)
def b80:Con:=.reff ⟨List UInt8×Nat,λ_=>[.ref 0 0 0],λx=>[rdr (dr x.1 x.2) (wT x.1 x.2)],λx=>.int .i64 (numR (dr x.1 x.2)),λx=>[rdr (dr x.1 (x.2+1)) (wT x.1 (x.2+1))],λ_=>True⟩
theorem b40:GK 254 b80:=gk Tryz.func254<|λx _=>bG.1 _ _ _ _ none rfl trivial
noncomputable def a0t:Con:=.rel ⟨List UInt8,λb=>[.bys b],λb=>.tup [.agg (S0 b).1.ts,.int .i64 (S0 b).2],RdB⟩
theorem b6h(l:List UInt8)(n:Int)(h0:0<=n)(h:n<=255):(R6 l n).length<=255:=by
 unfold R6;split
 ·rw[List.length_replicate];omega
 ·rw[List.length_take];omega
theorem yQ{α:Type}(d:α)(L:List α)(x:α)(i:Nat)(hi:i<L.length+1):(L++[x]).getD i d=if i=L.length then x else L.getD i d:=by
 by_cases h:i=L.length
 ·subst h;rw[if_pos rfl,P8,rK (W4 _)]
  simp
 ·rw[if_neg h,P8,tX (by omega),←P8]
theorem b3k(l:List UInt8)(fl:Bool):∀i j,((I9 l fl i).out.getD j []).length<=255
 |0,j=>S7 _
 |i+1,j=>by
  have hm:=w9 (I9 l fl i).l;show(((I9 l fl i).out++[R6 ((I9 l fl i).l.drop 1) (numR (I9 l fl i).l)]).getD j []).length<=255;by_cases hj:j<(I9 l fl i).out.length+1
  ·rw[yQ [] _ _ _ hj];split
   ·exact b6h _ _ hm.1 (by omega)
   ·exact b3k l fl i j
  ·rw[P8,List.getElem?_eq_none (by rw[K6];simp;omega)]
   exact S7 _
theorem b7i{b:List UInt8}(h:S3 b=false):S0 b=(bW,8):=by unfold S0;rw[if_neg (by rw[h];simp)]
theorem b13{b:List UInt8}(h:S3 b=true)(hb:y7 (X1 b)=true):S0 b=(bW,3):=by unfold S0;rw[if_pos h,if_pos hb]
theorem b1t{b:List UInt8}(h:S3 b=true)(hb:y7 (X1 b)=false)(hr:R1 (rcX (X1 b))=false):S0 b=(bW,3):=by unfold S0;rw[if_pos h,if_neg (by rw[hb];simp),if_neg (by rw[hr];simp)]
theorem a5A{b:List UInt8}(h:S3 b=true)(hb:y7 (X1 b)=false)(hr:R1 (rcX (X1 b))=true):S0 b=(rcX (X1 b),0):=by unfold S0;rw[if_pos h,if_neg (by rw[hb];simp),if_pos hr]
theorem iC:GK 224 a0t:=gk Tryz.func224<|by
 intro(b:List UInt8) (hb:b.length<=1000);refine Q5 (gC uS (gC b40 (gC gG (gC tL (gC vN gN))))) Tryz.func224 Y5 (α:=let pa:=((b.length:Int)>65536);let u:=((0=0/\0=0)/\True);let r:=(0=(S0 b).1.e/\0=(S0 b).1.l/\0=(S0 b).1.t/\0=(S0 b).1.k/\0=(S0 b).1.p/\0=(S0 b).1.n/\0=(S0 b).1.g/\0=(S0 b).1.s/\[]=(S0 b).1.b/\[]=(S0 b).1.a/\True);(decide pa=true->r/\2=(S0 b).2/\True)/\(decide pa=false->∃(x:vG.ι),((b=x/\True)/\G4 x)/\((!S3 x)=true->r/\8=(S0 b).2/\True)/\((!S3 x)=false->∃(x_1:(List UInt8×Nat)),(u/\((1=1/\Z6 1 (λ(x_2:Nat)=>[T.bys (X1 x),T.bool false]) λ(x:Nat)=>[T.bys (dr x_1.1 x_1.2),T.bool (wT x_1.1 x_1.2)])/\True)/\True)/\∃(x:(List UInt8×Nat)),let pb:=(dr x.1 x.2);(u/\((1=1/\Z6 1 (λ(x:Nat)=>[T.bys (dr x_1.1 (x_1.2+1)),T.bool (wT x_1.1 (x_1.2+1))]) λ(x_2:Nat)=>[T.bys pb,T.bool (wT x.1 x.2)])/\True)/\True)/\∃(x_2:(List UInt8×Nat)),let y:=(dr x_2.1 x_2.2);(u/\((1=1/\Z6 1 (λ(x_3:Nat)=>[T.bys (dr x.1 (x.2+1)),T.bool (wT x.1 (x.2+1))]) λ(x:Nat)=>[T.bys y,T.bool (wT x_2.1 x_2.2)])/\True)/\True)/\∃(x_3:(List UInt8×Nat)),let w:=(dr x_3.1 x_3.2);(u/\((1=1/\Z6 1 (λ(x:Nat)=>[T.bys (dr x_2.1 (x_2.2+1)),T.bool (wT x_2.1 (x_2.2+1))]) λ(x:Nat)=>[T.bys w,T.bool (wT x_3.1 x_3.2)])/\True)/\True)/\∃(x_4:(List UInt8×Nat)),let j:=(dr x_4.1 x_4.2);(u/\((1=1/\Z6 1 (λ(x:Nat)=>[T.bys (dr x_3.1 (x_3.2+1)),T.bool (wT x_3.1 (x_3.2+1))]) λ(x:Nat)=>[T.bys j,T.bool (wT x_4.1 x_4.2)])/\True)/\True)/\∃(x_5:(List UInt8×Nat)),let m:=(dr x_5.1 x_5.2);(u/\((1=1/\Z6 1 (λ(x:Nat)=>[T.bys (dr x_4.1 (x_4.2+1)),T.bool (wT x_4.1 (x_4.2+1))]) λ(x:Nat)=>[T.bys m,T.bool (wT x_5.1 x_5.2)])/\True)/\True)/\∃(x_6:(List UInt8×Nat)),let f:=(dr x_6.1 x_6.2);(u/\((1=1/\Z6 1 (λ(x:Nat)=>[T.bys (dr x_5.1 (x_5.2+1)),T.bool (wT x_5.1 (x_5.2+1))]) λ(x:Nat)=>[T.bys f,T.bool (wT x_6.1 x_6.2)])/\True)/\True)/\∃(x_7:(List UInt8×Nat)),let c:=(dr x_7.1 x_7.2);(u/\((1=1/\Z6 1 (λ(x:Nat)=>[T.bys (dr x_6.1 (x_6.2+1)),T.bool (wT x_6.1 (x_6.2+1))]) λ(x:Nat)=>[T.bys c,T.bool (wT x_7.1 x_7.2)])/\True)/\True)/\∃(x_8:(List UInt8×Nat)),let d:=(dr x_8.1 x_8.2);let q:=(U8 (dr x_8.1 (x_8.2+1)) (wT x_8.1 (x_8.2+1)));let i:=q.out;let v:=(!(! q.fl&&q.l.isEmpty)||numR (dr x_1.1 x_1.2) !=108||(↑i.length:Int) !=2);let z:=(!R1 (Rec.mk (numR pb) (numR y) (numR w) (numR j) (numR m) (numR f) (numR c) (numR d) (i.getD 0 []) (i.getD 1 [])));(u/\((1=1/\Z6 1 (λ(x:Nat)=>[T.bys (dr x_7.1 (x_7.2+1)),T.bool (wT x_7.1 (x_7.2+1))]) λ(x:Nat)=>[T.bys d,T.bool (wT x_8.1 x_8.2)])/\True)/\True)/\(v=true->r/\3=(S0 b).2/\True)/\(v=false->V3 (0:Int) i.length/\V3 (1:Int) i.length/\a9c (i.getD 1 [])/\(z=true->r/\3=(S0 b).2/\True)/\(z=false->(numR pb=(S0 b).1.e/\numR y=(S0 b).1.l/\numR w=(S0 b).1.t/\numR j=(S0 b).1.k/\numR m=(S0 b).1.p/\numR f=(S0 b).1.n/\numR c=(S0 b).1.g/\numR d=(S0 b).1.s/\i.getD 0 []=(S0 b).1.b/\i.getD 1 []=(S0 b).1.a/\True)/\0=(S0 b).2/\True))))) ⟨λh=>by have:=C7 h;omega,λ_=>⟨b,⟨Z9,by unfold G4;omega⟩,λh=> ?_,λh=>⟨(X1 b,0),⟨(by repeat' first|exact trivial|exact rfl|exact Z2 _ _|exact U2 _|exact V7|exact S8 _|exact W4 _|exact S7 _|refine And.intro ?_ ?_),⟨⟨rfl,λ_ _=>rfl⟩,trivial⟩,trivial⟩,(X1 b,1),⟨(by repeat' first|exact trivial|exact rfl|exact Z2 _ _|exact U2 _|exact V7|exact S8 _|exact W4 _|exact S7 _|refine And.intro ?_ ?_),⟨⟨rfl,λ_ _=>rfl⟩,trivial⟩,trivial⟩,(X1 b,2),⟨(by repeat' first|exact trivial|exact rfl|exact Z2 _ _|exact U2 _|exact V7|exact S8 _|exact W4 _|exact S7 _|refine And.intro ?_ ?_),⟨⟨rfl,λ_ _=>rfl⟩,trivial⟩,trivial⟩,(X1 b,3),⟨(by repeat' first|exact trivial|exact rfl|exact Z2 _ _|exact U2 _|exact V7|exact S8 _|exact W4 _|exact S7 _|refine And.intro ?_ ?_),⟨⟨rfl,λ_ _=>rfl⟩,trivial⟩,trivial⟩,(X1 b,4),⟨(by repeat' first|exact trivial|exact rfl|exact Z2 _ _|exact U2 _|exact V7|exact S8 _|exact W4 _|exact S7 _|refine And.intro ?_ ?_),⟨⟨rfl,λ_ _=>rfl⟩,trivial⟩,trivial⟩,(X1 b,5),⟨(by repeat' first|exact trivial|exact rfl|exact Z2 _ _|exact U2 _|exact V7|exact S8 _|exact W4 _|exact S7 _|refine And.intro ?_ ?_),⟨⟨rfl,λ_ _=>rfl⟩,trivial⟩,trivial⟩,(X1 b,6),⟨(by repeat' first|exact trivial|exact rfl|exact Z2 _ _|exact U2 _|exact V7|exact S8 _|exact W4 _|exact S7 _|refine And.intro ?_ ?_),⟨⟨rfl,λ_ _=>rfl⟩,trivial⟩,trivial⟩,(X1 b,7),⟨(by repeat' first|exact trivial|exact rfl|exact Z2 _ _|exact U2 _|exact V7|exact S8 _|exact W4 _|exact S7 _|refine And.intro ?_ ?_),⟨⟨rfl,λ_ _=>rfl⟩,trivial⟩,trivial⟩,(X1 b,8),⟨(by repeat' first|exact trivial|exact rfl|exact Z2 _ _|exact U2 _|exact V7|exact S8 _|exact W4 _|exact S7 _|refine And.intro ?_ ?_),⟨⟨rfl,λ_ _=>rfl⟩,trivial⟩,trivial⟩,λhc=> ?_,λhc=> ?_⟩⟩⟩
 ·rw[b7i (by simpa using h)]
  exact(by repeat' first|exact trivial|exact rfl|exact Z2 _ _|exact U2 _|exact V7|exact S8 _|exact W4 _|exact S7 _|refine And.intro ?_ ?_)
 ·rw[b13 (by simpa using h) hc]
  exact(by repeat' first|exact trivial|exact rfl|exact Z2 _ _|exact U2 _|exact V7|exact S8 _|exact W4 _|exact S7 _|refine And.intro ?_ ?_)
 ·have hu:S3 b=true:=by simpa using h
  have hc:y7 (X1 b)=false:=hc;have h2:(rcE (X1 b)).out.length=2:=by
   unfold y7 at hc;simp only[yP,bne_eq_false_iff_eq] at hc;omega
  refine⟨⟨by omega,by show(0:Int)<((rcE (X1 b)).out.length:Int);omega⟩,⟨by omega,by show(1:Int)<((rcE (X1 b)).out.length:Int);omega⟩,by have:=b3k (dr (X1 b) 9) (wT (X1 b) 9) (numR (dr (X1 b) 9)).toNat 1;unfold a9c;show((I9 (dr (X1 b) 9) (wT (X1 b) 9) (numR (dr (X1 b) 9)).toNat).out.getD 1 []).length<_;omega,λhr=> ?_,λhr=> ?_⟩
  ·have hr:(!R1 (rcX (X1 b)))=true:=by
    unfold rcX rcE;dsimp only[Nat.reduceAdd] at hr ⊢;exact hr
   have hr:R1 (rcX (X1 b))=false:=by rw[xP] at hr;exact hr
   rw[b1t hu hc hr];exact(by repeat' first|exact trivial|exact rfl|exact Z2 _ _|exact U2 _|exact V7|exact S8 _|exact W4 _|exact S7 _|refine And.intro ?_ ?_)
  ·have hr:(!R1 (rcX (X1 b)))=false:=by
    unfold rcX rcE;dsimp only[Nat.reduceAdd] at hr ⊢;exact hr
   have hr:R1 (rcX (X1 b))=true:=by rw[yT] at hr;exact hr
   rw[a5A hu hc hr];unfold rcX rcE;dsimp only[Nat.reduceAdd];exact⟨⟨rfl,rfl,rfl,rfl,rfl,rfl,rfl,rfl,rfl,Z9⟩,Z9⟩
noncomputable def lgR(d:Dsk)(i:Nat):Rec×Int:=S0 (U6 d (9+i))
noncomputable def lgE(d:Dsk)(i:Nat):Int:=if i=0 then 1 else(lgR d (i-1)).1.e
noncomputable def bJ(d:Dsk)(ep:Int)(i:Nat):Bool:=((lgR d i).2 !=0||(lgR d i).1.l !=(i:Int)+1|| !V9 (lgR d i).1.e (lgE d i) ep)
noncomputable def v3(d:Dsk)(m:Nat):List Rec:=(List.range m).map λi=>(lgR d i).1
noncomputable def vJ(d:Dsk)(ep:Int):Nat:=if P9 (d.E.length-9) (bJ d ep)= -1 then d.E.length-9 else(P9 (d.E.length-9) (bJ d ep)).toNat
def LgS(x:Dsk×Int):Prop:=G5 x.1
noncomputable def a78(d:Dsk)(ep:Int):Nat->Ann
 |0=>.one (V1 (d.E.length-9) (bJ d ep)) (λx=>⟨[(1,.int .i64 ep),(2,.ref 0 0 0),(5,.osl 1 0 x.1),(6,.int .i64 (lgE d x.1)),(7,.int .i64 (9+x.1:Nat))],[jE d,b9 (v3 d x.1)]⟩) (λx=>d.E.length-x.1) [.box 0,.arr 1] [.box 0,.arr 3] (λ_=>Y5)
 |_=>.none
noncomputable def a8Q:Con:=.rmk ⟨Dsk×Int,λx=>[.agg x.1.ts,.int .i64 x.2],λ_=>[],λx=>.osl 0 0 (vJ x.1 x.2),λx=>[b9 (v3 x.1 (vJ x.1 x.2))],LgS⟩
theorem zV(d:Dsk)(m:Nat):(v3 d m).length=m:=by unfold v3;simp
theorem b8B(d:Dsk){m i:Nat}(h:i<m):(v3 d m).getD i dz=(lgR d i).1:=by
 unfold v3;rw[P8,pN,List.getElem?_range h]
 rfl
theorem a1V(d:Dsk)(m:Nat):v3 d (m+1)=v3 d m++[(lgR d m).1]:=by
 unfold v3;rw[List.range_succ,List.map_append];rfl
theorem b2h{d:Dsk}{ep:Int}{m:Nat}(hm:m<d.E.length-9)(h:bJ d ep m=true)(hp:∀i,i<m->bJ d ep i=false):vJ d ep=m:=by
 unfold vJ;rw[M6 hm h hp,if_neg (by omega),F5]
theorem a7l{d:Dsk}{ep:Int}{m:Nat}(hm:m=d.E.length-9)(hp:∀i,i<m->bJ d ep i=false):vJ d ep=m:=by
 unfold vJ;rw[J1 (λi hi=>hp i (by omega)),if_pos rfl,hm]
theorem a5S:GK 127 a8Q:=gk Tryz.func127<|by
 rintro⟨d,ep⟩ (hd:G5 d);have hd':=hd;obtain⟨q1,q2,q3,q4,_⟩:=hd';refine⟨v8 (gC N5 (gC jK (gC iC (gC M5 gN)))) Tryz.func127 (a78 d ep) [[.arr 1]] (α:=let m:=(1=1/\1=1/\yM d d);(∃(x:V1 (d.E.length-9) (bJ d ep)),(ep=ep/\(0=0/\0=0)/\(0=0/\0=x.val)/\1=lgE d x.val/\9=(↑(9+x.val):Int)/\True)/\m/\(0=(v3 d x.val).length/\Z6 0 (λ(k:Nat)=>List.take 10 (List.drop (k*10) [])) (Y3 (v3 d x.val)))/\True)/\∀(x:V1 (d.E.length-9) (bJ d ep)),let z:=x.val;let v:=((0=0/\z=vJ d ep)/\True);let u:=(Y8 Y3 (v3 d z) (v3 d (vJ d ep)));let r:=(↑(9+z):Int);let j:=(r<(d.E.length:Int));(decide j=true->∃(x_1:rT.ι),(((yM d x_1.1)/\r=(x_1.2:Int)/\True)/\AtB x_1)/\Lt (U6 x_1.1 x_1.2).length 140737488355329/\∃(x_2:(List UInt8)),let w:=(S0 x_2).1.e;let q:=((S0 x_2).2 !=0||(S0 x_2).1.l !=(z:Int)+1|| !V9 w (lgE d z) ep);((U6 x_1.1 x_1.2=x_2/\True)/\RdB x_2)/\(((S0 x_2).2 !=0)=false->W7 .i64 ((z:Int)+1))/\(q=true->v/\u/\True)/\(q=false->(Le x.val (v3 d z).length/\W6 x.val 1 96)/\W7 .i64 (r+1)/\∃(y:V1 (d.E.length-9) (bJ d ep)),((ep=ep/\(0=0/\0=0)/\(0=0/\z+1=y.val)/\w=lgE d y.val/\r+1=(↑(9+y.val):Int)/\True)/\m/\(z+1=(v3 d y.val).length/\Z6 (z+1) (X3 (Y3 (v3 d z)) x.val λ(k:Nat)=>List.take 10 (List.drop (k*10) [T.int .i64 w,T.int .i64 (S0 x_2).1.l,T.int .i64 (S0 x_2).1.t,T.int .i64 (S0 x_2).1.k,T.int .i64 (S0 x_2).1.p,T.int .i64 (S0 x_2).1.n,T.int .i64 (S0 x_2).1.g,T.int .i64 (S0 x_2).1.s,T.str (S0 x_2).1.b,T.str (S0 x_2).1.a])) (Y3 (v3 d y.val)))/\True)/\Lt (d.E.length-y.val) (d.E.length-z)))/\(decide j=false->v/\u/\True)) ⟨⟨F7,⟨rfl,Z8,Z8,rfl,Z9⟩,⟨rfl,rfl,uX _⟩,⟨(zV d 0).symm,V7⟩,trivial⟩,λx=>⟨λhc=> ?_,λhc=> ?_⟩⟩,rfl,oM _⟩
 ·have hc:9+x.val<d.E.length:=by have:=C7 hc;omega
  have hle:=pY hd hc;have hx:=zV d x.val;refine⟨(d,9+x.val),⟨⟨uX _,Z9⟩,hc,by dsimp only;omega⟩,by unfold Lt;dsimp only;omega,U6 d (9+x.val),⟨⟨rfl,trivial⟩,by show(U6 d (9+x.val)).length<=1000;omega⟩,λ_=>Z4 (by omega),λhb=> ?_,λhb=> ?_⟩
  ·have hb:bJ d ep x.val=true:=hb;rw[b2h (by omega) hb x.2.2]
   exact⟨U3,X5⟩
  ·have hb:bJ d ep x.val=false:=hb;refine⟨⟨by rw[hx];exact W4 _,by unfold W6;omega⟩,Z4 (by omega),x.succ (by omega) hb,⟨⟨rfl,Z8,Z8,?_,by dsimp only[V1.succ];omega,trivial⟩,⟨rfl,rfl,uX _⟩,⟨(zV d (x.val+1)).symm,?_⟩,trivial⟩,by unfold Lt;dsimp only[V1.succ];omega⟩
   ·dsimp only[V1.succ];unfold lgE;rw[if_neg (by omega)]
    rfl
   ·show Z6 _ _ (Y3 (v3 d (x.val+1)));rw[a1V];have:=mM (v3 d x.val) (lgR d x.val).1;rw[hx] at this;exact this
 ·have hx:x.val=d.E.length-9:=by have:=x.2.1;have:=l7 hc;omega
  rw[a7l hx x.2.2];exact⟨U3,X5⟩
end Go.Proofs.YtghgljelnhfihaaGreat

namespace Go.Proofs.YtghgljelnhfihaaGreat
set_option maxRecDepth 100000
open Go.SS

theorem c0e{r:List UInt8}(hr:0<r.length):(∃out,Q6 r=some out/\out.length=2/\U8 r false=⟨[],false,out⟩)∨((∀out,Q6 r=some out->out.length≠2)/\(!(!(U8 r false).fl&&(U8 r false).l.isEmpty)||(((U8 r false).out.length:Nat):Int) !=2)=true):=by
 have hfs:=b0E r hr (H8 r);have hcn:(numR r).toNat=H8 r:=by unfold numR H8;exact F5 _
 have hend:U8 r false=I9 r false (H8 r):=by unfold U8;rw[hcn]
 have hall:Q6 r=if H8 r>100 then none else match zD r (H8 r) with
   |some (p,out)=>if p=r.length then some out else none
   |none=>none:=by
  unfold Q6;by_cases hc:H8 r>100
  ·rw[if_pos (.inr hc),if_pos hc]
  ·rw[if_neg (by omega),if_neg hc]
   rfl
 rw[hend];cases hf:zD r (H8 r) with
 |none=>
  rw[hf] at hfs hall;simp only at hfs;have hall:Q6 r=none:=by rw[hall];split<;>rfl
  refine .inr ⟨λout h=>(by rw[hall] at h;cases h),?_⟩
  rw[hfs];rfl
 |some y=>
  obtain⟨p,out⟩:=y;rw[hf] at hfs hall;simp only at hfs hall;obtain⟨hfs,hpl⟩:=hfs;rw[hfs];have ho:out.length=H8 r:=lE hf;by_cases hp:p=r.length
  ·have hem:r.drop p=[]:=by rw[List.drop_eq_nil_iff];omega
   rw[if_pos hp] at hall;by_cases h2:out.length=2
   ·rw[if_neg (by omega)] at hall
    exact .inl ⟨out,hall,h2,by rw[hem]⟩
   ·refine .inr ⟨λo h=> ?_,?_⟩
    ·rw[hall] at h;split at h
     ·cases h
     ·cases h;exact h2
    ·simp only[bne_iff_ne.2 (show((out.length:Nat):Int)≠2 by omega),Bool.or_true]
  ·have hem:(r.drop p).isEmpty=false:=by
    rw[Bool.eq_false_iff,ne_eq,List.isEmpty_iff,List.drop_eq_nil_iff];omega
   have hall:Q6 r=none:=by rw[hall,if_neg hp];split<;>rfl
   refine .inr ⟨λout h=>(by rw[hall] at h;cases h),?_⟩
   simp[hem]
theorem qY(x:List UInt8):∀i,dr x i=x.drop i
 |0=>rfl
 |i+1=>by
  show(dr x i).drop 1=_;rw[qY x i,List.drop_drop]
theorem bZ(x:List UInt8):∀i,wT x i=decide (x.length<i)
 |0=>rfl
 |i+1=>by
  show(wT x i||(dr x i).isEmpty)=_;rw[bZ x i,qY,Bool.eq_iff_iff,pP,k4,List.isEmpty_iff,List.drop_eq_nil_iff,k4];omega
theorem a9v{x:List UInt8}(h:x.length<10):y7 x=true:=by
 have hf:(rcE x).fl=true:=by
  unfold rcE;rw[qY,bZ];by_cases h9:x.length=9
  ·rw[List.drop_eq_nil_iff.2 (by omega)]
   exact a4w _ _
  ·rw[pO (by omega)]
   exact aN _ _
 unfold y7;rw[hf];rfl
noncomputable def zL(t:List UInt8):{r:List UInt8×Bool//r=(X1 t,S3 t)}:=Classical.choice ⟨⟨_,rfl⟩⟩
noncomputable def cI:Con:=.rel ⟨List UInt8,λt=>[.str t],λt=>.tup [.str (zL t).1.1,.bool (zL t).1.2],G4⟩
theorem gZ:GK 262 cI:=gk Tryz.func262<|by
 intro(t:List UInt8) ht;have h:=qZ.1 t ht;have e1:(zL t).1.1=X1 t:=by rw[(zL t).2]
 have e2:(zL t).1.2=S3 t:=by rw[(zL t).2]
 show U1 _ _ _ (.tup [.str (zL t).1.1,.bool (zL t).1.2]);rw[e1,e2];exact h
noncomputable def kJ(t:List UInt8):{r:List (List UInt8)×Bool//r=((Q6 t).getD [],(Q6 t).isSome)}:=Classical.choice ⟨⟨_,rfl⟩⟩
noncomputable def a5b:Con:=.rel ⟨List UInt8,λt=>[.str t],λt=>.tup [xM (kJ t).1.1,.bool (kJ t).1.2],G4⟩
theorem a3g:GK 319 a5b:=gk Tryz.func319<|by
 intro(t:List UInt8) ht;have h:=lB.1 t ht;have e1:(kJ t).1.1=(Q6 t).getD []:=by rw[(kJ t).2]
 have e2:(kJ t).1.2=(Q6 t).isSome:=by rw[(kJ t).2]
 show U1 _ _ _ (.tup [xM (kJ t).1.1,.bool (kJ t).1.2]);rw[e1,e2];exact h
noncomputable def l4p(t:List UInt8):{r:Rec×Bool//r=(if S3 t=true/\y7 (X1 t)=false then rcX (X1 t) else bW,(S0 t).2==0)}:=Classical.choice ⟨⟨_,rfl⟩⟩
noncomputable def D2(t:List UInt8):Rec:=(l4p t).1.1
noncomputable def l4k(t:List UInt8):Bool:=(l4p t).1.2
theorem b2s(t:List UInt8):D2 t=if S3 t=true/\y7 (X1 t)=false then rcX (X1 t) else bW:=by unfold D2;rw[(l4p t).2]
theorem a3G(t:List UInt8):l4k t=((S0 t).2==0):=by unfold l4k;rw[(l4p t).2]
noncomputable def a8T:Con:=.rel ⟨List UInt8,λt=>[.str t],λt=>.tup [.agg (D2 t).ts,.bool (l4k t)],RdB⟩
theorem b3Q{x:List UInt8}(h:10<=x.length):rcE x=U8 (x.drop 9) false:=by
 unfold rcE;rw[qY,bZ,uV (by omega)]
theorem b8j(x:List UInt8)(i:Nat):IntKind.i64.wrap ((x.getD i 0).toNat:Int)=numR (dr x i):=by
 rw[wP,qY];unfold numR;rw[P8,P8,List.getElem?_drop,Nat.add_zero]
theorem b2p{t:List UInt8}(h:¬ (S3 t=true/\y7 (X1 t)=false)):D2 t=bW/\l4k t=false:=by
 rw[b2s,a3G,if_neg h];refine⟨rfl,?_⟩
 cases hu:S3 t with
 |false=>rw[b7i hu];rfl
 |true=>
  cases hb:y7 (X1 t) with
  |true=>rw[b13 hu hb];rfl
  |false=>exact absurd ⟨hu,hb⟩ h
theorem a5o{t:List UInt8}(hu:S3 t=true)(hb:y7 (X1 t)=false):D2 t=rcX (X1 t)/\l4k t=R1 (rcX (X1 t)):=by
 rw[b2s,a3G,if_pos ⟨hu,hb⟩];refine⟨rfl,?_⟩
 cases hr:R1 (rcX (X1 t)) with
 |true=>rw[a5A hu hb hr];rfl
 |false=>rw[b1t hu hb hr];rfl
theorem b7Q(t:List UInt8):(X1 t).length<=t.length:=by
 unfold X1;split
 ·rw[List.length_take];omega
 ·exact S7 _
theorem a3h:GK 263 a8T:=gk Tryz.func263<|by
 intro(t:List UInt8) (hb:t.length<=1000);have hx:=b7Q t;have e1:(zL t).1.1=X1 t:=by rw[(zL t).2]
 have e2:(zL t).1.2=S3 t:=by rw[(zL t).2]
 have hz:∀{p:Bool},(¬ (S3 t=true/\y7 (X1 t)=false))->((0:Int)=(D2 t).e/\(0:Int)=(D2 t).l/\(0:Int)=(D2 t).t/\(0:Int)=(D2 t).k/\(0:Int)=(D2 t).p/\(0:Int)=(D2 t).n/\(0:Int)=(D2 t).g/\(0:Int)=(D2 t).s/\[]=(D2 t).b/\[]=(D2 t).a/\True)/\false=l4k t/\True:=λh=>by
  rw[(b2p h).1,(b2p h).2];exact⟨⟨rfl,rfl,rfl,rfl,rfl,rfl,rfl,rfl,rfl,Z9⟩,Z9⟩
 refine Q5 (gC gZ (gC a3g (gC pT gN))) Tryz.func263 Y5 (α:=let u:=(0:UInt8);let z:=(0=(D2 t).e/\0=(D2 t).l/\0=(D2 t).t/\0=(D2 t).k/\0=(D2 t).p/\0=(D2 t).n/\0=(D2 t).g/\0=(D2 t).s/\[]=(D2 t).b/\[]=(D2 t).a/\True);∃(x:(List UInt8)),let r:=(zL x).val.fst.length;let q:=(zL x).val.fst.getD;let pc:=(↑(q 8 u).toNat:Int);let pb:=(↑(q 7 u).toNat:Int);let pa:=(↑(q 6 u).toNat:Int);let i:=(↑(q 5 u).toNat:Int);let d:=(↑(q 4 u).toNat:Int);let c:=(↑(q 3 u).toNat:Int);let f:=(↑(q 2 u).toNat:Int);let m:=(↑(q 1 u).toNat:Int);let y:=(!(zL x).val.snd||decide ((↑r:Int)<10)||(↑(q 0 u).toNat:Int) !=108);((t=x/\True)/\G4 x)/\((!(zL x).val.snd||decide ((↑r:Int)<10))=false->V3 (0:Int) r)/\(y=true->z/\false=l4k t/\True)/\(y=false->lL (9:Int) r/\∃(x_1:(List UInt8)),let w:=(kJ x_1).val.fst.length;let j:=(!(kJ x_1).val.snd||(↑w:Int) !=2);let v:=(kJ x_1).val.fst.getD;((List.drop 9 (zL x).val.fst=x_1/\True)/\G4 x_1)/\(j=true->z/\false=l4k t/\True)/\(j=false->V3 (1:Int) r/\V3 (2:Int) r/\V3 (3:Int) r/\V3 (4:Int) r/\V3 (5:Int) r/\V3 (6:Int) r/\V3 (7:Int) r/\V3 (8:Int) r/\V3 (0:Int) w/\V3 (1:Int) w/\O6 (v 1 []).length/\(IntKind.i64.wrap m=(D2 t).e/\IntKind.i64.wrap f=(D2 t).l/\IntKind.i64.wrap c=(D2 t).t/\IntKind.i64.wrap d=(D2 t).k/\IntKind.i64.wrap i=(D2 t).p/\IntKind.i64.wrap pa=(D2 t).n/\IntKind.i64.wrap pb=(D2 t).g/\IntKind.i64.wrap pc=(D2 t).s/\v 0 []=(D2 t).b/\v 1 []=(D2 t).a/\True)/\R1 (Rec.mk (IntKind.i64.wrap m) (IntKind.i64.wrap f) (IntKind.i64.wrap c) (IntKind.i64.wrap d) (IntKind.i64.wrap i) (IntKind.i64.wrap pa) (IntKind.i64.wrap pb) (IntKind.i64.wrap pc) (v 0 []) (v 1 []))=l4k t/\True))) ⟨t,⟨Z9,by unfold G4;omega⟩,?_⟩
 rw[e1,e2];refine⟨λh=> ?_,λh=>hz (p:=true) λhq=> ?_,λh=> ?_⟩
 ·simp only[yP,rX] at h;exact⟨by omega,by omega⟩
 ·obtain⟨hu,hr⟩:=hq;have hl:10<=(X1 t).length:=by
   by_cases hl:(X1 t).length<10
   ·rw[a9v hl] at hr;cases hr
   ·omega
  have h108:numR (X1 t)=108:=by
   unfold y7 at hr;simp only[yP,bne_eq_false_iff_eq] at hr;exact hr.1.2
  have h108:(((X1 t).getD 0 0).toNat:Int)=108:=h108;rw[hu,h108,uV (by omega)] at h
  cases h
 ·simp only[yP,rX,yT,bne_eq_false_iff_eq] at h;obtain⟨⟨hu,hl⟩,h108⟩:=h;have hl:10<=(X1 t).length:=by omega
  have hn:numR (X1 t)=108:=h108;have f1:(kJ ((X1 t).drop 9)).1.1=(Q6 ((X1 t).drop 9)).getD []:=by rw[(kJ _).2]
  have f2:(kJ ((X1 t).drop 9)).1.2=(Q6 ((X1 t).drop 9)).isSome:=by rw[(kJ _).2]
  have hd:((X1 t).drop 9).length=(X1 t).length-9:=List.length_drop;refine⟨⟨by omega,by omega⟩,(X1 t).drop 9,⟨Z9,by unfold G4;omega⟩,?_⟩
  rw[f1,f2];have hbad:y7 (X1 t)=(!(!(U8 ((X1 t).drop 9) false).fl&&(U8 ((X1 t).drop 9) false).l.isEmpty)||(((U8 ((X1 t).drop 9) false).out.length:Nat):Int) !=2):=by
   unfold y7;rw[b3Q hl,hn];simp
  rcases c0e (r:=(X1 t).drop 9) (by omega) with⟨out,ha,h2,hf⟩|⟨ha,hf⟩
  ·have hg:y7 (X1 t)=false:=by rw[hbad,hf,h2];rfl
   have hout:(rcE (X1 t)).out=out:=by rw[b3Q hl,hf]
   have hle:=b3k (dr (X1 t) 9) (wT (X1 t) 9) (numR (dr (X1 t) 9)).toNat 1;have hle:(out.getD 1 []).length<=255:=by rw[←hout];exact hle
   rw[ha];refine⟨λhc=> ?_,λ_=> ?_⟩
   ·simp[h2] at hc
   ·simp only[b8j];rw[(a5o hu hg).1,(a5o hu hg).2];unfold rcX;rw[hout];show _/\_/\_/\_/\_/\_/\_/\_/\V3 0 out.length/\V3 1 out.length/\_;exact⟨⟨by omega,by omega⟩,⟨by omega,by omega⟩,⟨by omega,by omega⟩,⟨by omega,by omega⟩,⟨by omega,by omega⟩,⟨by omega,by omega⟩,⟨by omega,by omega⟩,⟨by omega,by omega⟩,⟨by omega,by omega⟩,⟨by omega,by omega⟩,by show(out.getD 1 []).length<_;omega,⟨rfl,rfl,rfl,rfl,rfl,rfl,rfl,rfl,rfl,rfl,trivial⟩,rfl,trivial⟩
  ·have hg:y7 (X1 t)=true:=by rw[hbad];exact hf
   refine⟨λ_=>hz (p:=true) λhq=>(by rw[hg] at hq;cases hq.2),λhc=> ?_⟩
   cases hs:Q6 ((X1 t).drop 9) with
   |none=>rw[hs] at hc;simp at hc
   |some out=>
    rw[hs] at hc;have:=ha out hs;simp at hc;omega
noncomputable def b2e:Con:=.rel ⟨Dsk×Int,λx=>[.agg x.1.ts,.int .i64 x.2],λx=>nI (v3 x.1 (vJ x.1 x.2)),λx=>G5 x.1/\x.1.E.length=69⟩
noncomputable def b1I(d:Dsk)(ep:Int):Nat->Ann
 |0=>.one (V1 (d.E.length-9) (bJ d ep)) (λx=>⟨[(1,.int .i64 ep),(2,.ref 0 0 0),(5,.osl 1 0 x.1),(6,.int .i64 (x.1+1:Nat))],[jE d,b9 (v3 d x.1)]⟩) (λx=>d.E.length-x.1) [.box 0,.arr 1] [.box 0,.at_ 5] (λ_=>Y5)
 |_=>.none
theorem c0t{t:List UInt8}(h:l4k t=true):S0 t=(D2 t,0)/\R1 (D2 t)=true:=by
 by_cases hq:S3 t=true/\y7 (X1 t)=false
 ·obtain⟨h1,h2⟩:=a5o hq.1 hq.2;rw[h2] at h;rw[h1];exact⟨a5A hq.1 hq.2 h,h⟩
 ·rw[(b2p hq).2] at h;cases h
theorem c0I{r:Rec}(h:R1 r=true):1<=r.e:=by
 have:=(R7 r).1 h;unfold F8 at this;exact this.1
theorem a6D{d:Dsk}{ep:Int}{x:Nat}:(!l4k (U6 d (9+x))||(D2 (U6 d (9+x))).l !=((x+1:Nat):Int)||decide ((D2 (U6 d (9+x))).e>ep)||decide (((x+1:Nat):Int)>1)&&decide (((v3 d x).getD (0+(((x+1:Nat):Int)-2).toNat) dz).e>(D2 (U6 d (9+x))).e))=bJ d ep x:=by
 cases hk:l4k (U6 d (9+x)) with
 |false=>
  have h0:((lgR d x).2==0)=false:=by rw[←hk,a3G];rfl
  unfold bJ bne;rw[h0];rfl
 |true=>
  obtain⟨hr,ho⟩:=c0t hk;have he:=c0I ho;have hr:lgR d x=(D2 (U6 d (9+x)),0):=hr;unfold bJ;rw[hr];by_cases hx:x=0
  ·subst hx;have h1:lgE d 0=1:=by unfold lgE;rw[if_pos rfl]
   rw[h1];simp only[Bool.not_true,Bool.false_or,bne_self_eq_false];rw[Bool.eq_iff_iff];simp only[pP,L3,xP,←Bool.not_eq_true,bne_iff_ne,k4,ne_eq,Q1];omega
  ·have hl:(v3 d x).getD (0+(((x+1:Nat):Int)-2).toNat) dz=(lgR d (x-1)).1:=by
    rw[show 0+(((x+1:Nat):Int)-2).toNat=x-1 by omega]
    exact b8B d (by omega)
   rw[hl];simp only[Bool.not_true,Bool.false_or,bne_self_eq_false];rw[Bool.eq_iff_iff];simp only[lgE,if_neg hx,pP,L3,xP,←Bool.not_eq_true,bne_iff_ne,k4,ne_eq,Q1];omega
theorem a9t:GK 171 b2e:=gk Tryz.func171<|by
 rintro⟨d,ep⟩ ⟨hd,h69⟩;dsimp only at hd h69;refine Q5 (gC jL (gC a3h (gC N5 gN))) Tryz.func171 (b1I d ep) (α:=let c:=(1=1/\1=1/\yM d d);let w:=(v3 d (vJ d ep));(∃(x:V1 (d.E.length-9) (bJ d ep)),(ep=ep/\(0=0/\0=0)/\(0=0/\0=x.val)/\1=(↑(x.val+1):Int)/\True)/\c/\(0=(v3 d x.val).length/\Z6 0 (λ(k:Nat)=>List.take 10 (List.drop (k*10) [])) (Y3 (v3 d x.val)))/\True)/\∀(x:V1 (d.E.length-9) (bJ d ep)),let j:=x.val;let u:=(v3 d j);let f:=u.length;let q:=(↑(j+1):Int);let v:=(decide (q<=60)&&decide (9+q-1<(d.E.length:Int)));(decide (q<=60)=true->W7 .i64 (9+q))/\(decide (q<=60)=true->W7 .i64 (9+q-1))/\(v=true->W7 .i64 (9+q)/\W7 .i64 (9+q-1)/\∃(x_1:rT.ι),(((yM d x_1.1)/\9+q-1=(x_1.2:Int)/\True)/\AtB x_1)/\∃(x_2:(List UInt8)),let i:=(D2 x_2).l;let m:=(D2 x_2).e;let z:=(!l4k x_2||i !=q||decide (m>ep));let r:=(!l4k x_2||i !=q||decide (m>ep)||decide (q>1)&&decide ((u.getD (0+(q-2).toNat) dz).e>m));((U6 x_1.1 x_1.2=x_2/\True)/\RdB x_2)/\(z=false->decide (q>1)=true->W7 .i64 (q-2))/\(z=false->decide (q>1)=true->V3 (q-2) j)/\(z=false->decide (q>1)=true->Lt (0+(q-2).toNat) f)/\(r=true->Le (0+j) f/\j=w.length/\Z6 x.val (Y3 u) (Y3 w))/\(r=false->(Le x.val f/\W6 x.val 1 96)/\W7 .i64 (q+1)/\∃(y:V1 (d.E.length-9) (bJ d ep)),((ep=ep/\(0=0/\0=0)/\(0=0/\j+1=y.val)/\q+1=(↑(y.val+1):Int)/\True)/\c/\(j+1=(v3 d y.val).length/\Z6 (j+1) (X3 (Y3 u) x.val λ(k:Nat)=>List.take 10 (List.drop (k*10) [T.int .i64 m,T.int .i64 i,T.int .i64 (D2 x_2).t,T.int .i64 (D2 x_2).k,T.int .i64 (D2 x_2).p,T.int .i64 (D2 x_2).n,T.int .i64 (D2 x_2).g,T.int .i64 (D2 x_2).s,T.str (D2 x_2).b,T.str (D2 x_2).a])) (Y3 (v3 d y.val)))/\True)/\Lt (d.E.length-y.val) (d.E.length-j)))/\(v=false->Le (0+j) f/\j=w.length/\Z6 x.val (Y3 u) (Y3 w))) ⟨⟨F7,⟨rfl,Z8,Z8,Z9⟩,⟨rfl,rfl,uX _⟩,⟨(zV d 0).symm,V7⟩,trivial⟩,λx=> ?_⟩
 have hxl:=x.2.1;have hcc:=hd.2.2.1;have hx:=zV d x.val;refine⟨λ_=>Z4 (by omega),λ_=>Z4 (by omega),λhc=> ?_,λhc=> ?_⟩
 ·have hc:9+x.val<d.E.length:=by
   simp only[L3,k4] at hc;omega
  have hle:=pY hd hc;refine⟨Z4 (by omega),Z4 (by omega),(d,9+x.val),⟨⟨uX _,by dsimp only;omega,trivial⟩,hc,by dsimp only;omega⟩,U6 d (9+x.val),⟨⟨rfl,trivial⟩,by show(U6 d (9+x.val)).length<=1000;omega⟩,λ_ h=>Z4 (by omega),λ_ h=> ?_,λ_ h=> ?_,?_⟩
  ·have:=C7 h;exact⟨by omega,by omega⟩
  ·have:=C7 h;unfold Lt;omega
  rw[a6D (d:=d) (ep:=ep)];refine⟨λhb=> ?_,λhb=> ?_⟩
  ·rw[b2h (by omega) hb x.2.2]
   exact⟨by unfold Le;omega,hx.symm,Z2 _ _⟩
  ·refine⟨⟨by unfold Le;omega,by unfold W6;omega⟩,Z4 (by omega),x.succ (by omega) hb,⟨⟨rfl,Z8,Z8,by dsimp only[V1.succ];omega,trivial⟩,⟨rfl,rfl,uX _⟩,⟨(zV d (x.val+1)).symm,?_⟩,trivial⟩,by unfold Lt;dsimp only[V1.succ];omega⟩
   show Z6 _ _ (Y3 (v3 d (x.val+1)));have hs:=mM (v3 d x.val) (lgR d x.val).1;have hk:l4k (U6 d (9+x.val))=true:=by
    rw[←a6D] at hb;simp only[yP,yT] at hb;exact hb.1.1.1
   have hr:(lgR d x.val).1=D2 (U6 d (9+x.val)):=by
    show(S0 (U6 d (9+x.val))).1=_;rw[(c0t hk).1]
   rw[a1V,hr];rw[hx,hr] at hs;exact hs
 ·have hq:x.val=d.E.length-9:=by
   by_cases hn:x.val=d.E.length-9
   ·exact hn
   ·rw[pO (show((x.val+1:Nat):Int)<=60 by omega),pO (show(9:Int)+((x.val+1:Nat):Int)-1<(d.E.length:Int) by omega)] at hc
    cases hc
  rw[a7l hq x.2.2];exact⟨by unfold Le;omega,hx.symm,Z2 _ _⟩
end Go.Proofs.YtghgljelnhfihaaGreat

namespace Go.Proofs.YtghgljelnhfihaaGreat
set_option maxRecDepth 100000
open Go.SS

noncomputable def nH(e:Eng):Eng:=⟨⟨e.s.d,e.s.ep,v3 e.s.d (vJ e.s.d e.s.ep),(vJ e.s.d e.s.ep:Nat),[],0⟩,false,[],⟨[],[]⟩,e.N⟩
noncomputable def b7W:Con:=.reff ⟨Eng×Nat,λx=>[.ref 0 0 0],λx=>x.1.bx x.2,λ_=>.int .i64 15,λx=>(nH x.1).nx 0,λx=>G5 x.1.s.d⟩
theorem b45:GK 115 b7W:=gk Tryz.func115<|by
 rintro⟨e,v⟩ (hd:G5 e.s.d);have hl:=(zV e.s.d (vJ e.s.d e.s.ep)).symm;exact v8 (gC a5S gN) Tryz.func115 Y5 [[.nilC 0 7 0 5,.fac 0 7,.nilC 0 10 0 2,.nilC 0 11 0 4,.nilC 0 12 0 2,.box 0,.arr 1,.arr 2,.arr 3,.arr 4,.arr 5,.arr 6,.arr 7,.arr 8,.cel 0 0,.cel 0 1,.cel 0 3,.cel 0 5,.cel 0 7,.cel 0 10,.cel 0 11,.cel 0 12]] (α:=let r:=(0=0/\0=0);let q:=(vJ e.s.d e.s.ep);∃(x:(Dsk×Int)),let p:=(λ(x:Nat)=>[]);((Le (0+e.s.d.E.length) e.s.d.E.length/\Le (0+e.s.d.C.length) e.s.d.C.length/\Le (0+e.s.d.keep.length) e.s.d.keep.length)/\((yM e.s.d x.1)/\e.s.ep=x.2/\True)/\LgS x)/\((15:Int)=15/\True)/\(1=1/\1=1/\(0=0/\e.s.d.E.length=e.s.d.E.length)/\(0=0/\e.s.d.C.length=e.s.d.C.length)/\e.s.d.A=e.s.d.A/\(0=0/\e.s.d.keep.length=e.s.d.keep.length)/\e.s.ep=e.s.ep/\(0=0/\vJ x.1 x.2=(v3 e.s.d q).length)/\(↑(vJ x.1 x.2):Int)=(↑q:Int)/\r/\(0:Int)=0/\false=false/\r/\r/\r/\e.N=e.N/\True)/\True/\True/\True/\True/\True/\True/\True/\True/\(Y8 Z5 e.s.d.E e.s.d.E)/\(Y8 Y9 e.s.d.C e.s.d.C)/\(Y8 Y6 e.s.d.keep e.s.d.keep)/\(Y8 Y3 (v3 x.1 (vJ x.1 x.2)) (v3 e.s.d q))/\(0=0/\0=0/\T9 0 p (Y2 []))/\(0=0/\Z6 0 p (X0 []))/\(0=0/\Z6 0 p (Y7 []))/\(0=0/\Z6 0 p (Y0 []))/\True) ⟨(e.s.d,e.s.ep),⟨⟨S8 _,S8 _,S8 _⟩,⟨uX _,Z9⟩,hd⟩,Z9,⟨rfl,rfl,Z8,Z8,rfl,Z8,rfl,⟨rfl,hl⟩,rfl,Z8,rfl,rfl,Z8,Z8,Z8,Z9⟩,trivial,trivial,trivial,trivial,trivial,trivial,trivial,trivial,Z7,Z7,Z7,Z7,⟨rfl,rfl,λi hi=>absurd hi (J5 _)⟩,⟨rfl,V7⟩,⟨rfl,V7⟩,⟨rfl,V7⟩,trivial⟩
def sdE(e:Eng)(d:Dsk):Eng:={e with s:=e.s.sd d}
theorem b1u(sec:List (List UInt8))(C:List Pend)(Q:Nat->Bool)(h:∀i,i<sec.length->(sec.getD i []).length<=160)(hc:∀i,i<C.length->(C.getD i dz).d.length<=160):∀n,n<=C.length->∀i,i<sec.length->((k6 sec C Q n).getD i []).length<=160
 |0,_,i,hi=>h i hi
 |n+1,hn,i,hi=>by
  unfold k6;have ih:=b1u sec C Q h hc n (by omega) i hi
  split
  ·by_cases hj:i=(C.getD n dz).at_.toNat
   ·subst hj;rw[P8,j_j (by rw[F2];exact hi)]
    exact hc n (by omega)
   ·rw[P8,aP (Ne.symm hj),←P8]
    exact ih
  ·exact ih
theorem kC{m:Nat}{p:Pend}(h:P7 m p=false):0<=p.at_/\p.at_<m/\p.d.length<=160:=by
 unfold P7 at h;simp only[yP,yT,Q1,rX] at h;omega
theorem b9k{d:Dsk}(h:G5 d):iE d:=λi hi=>by
 have:=kC (h.2.2.2.2.2.2 i hi);exact⟨this.1,this.2.1⟩
theorem b5g{e:Eng}(h:N6 e=true):G5 e.s.d/\e.s.d.E.length=69:=by
 have:=(B7 e.s).1 ((M2 e.s).1 (J4 h).1).1.1;exact⟨this.1,this.2.1⟩
theorem mO{n:Nat}{p:Nat->Bool}(h:¬P9 n p<0):∃i,i<n/\p i=true/\(∀j,j<i->p j=false)/\P9 n p=(i:Int):=by
 cases ha:anyI n p with
 |false=>exact absurd (by rw[J1 (Q8.1 ha)];omega) h
 |true=>
  obtain⟨i,hi,hp⟩:=Q9.1 ha;have key:∀m,m<=n->(∀j,j<m->p j=false)∨∃i,i<n/\p i=true/\(∀j,j<i->p j=false):=by
   intro m;induction m with
   |zero=>intro _;exact .inl λj hj=>absurd hj (J5 j)
   |succ m ih=>
    intro hm;rcases ih (by omega) with h0|h0
    ·cases hq:p m with
     |true=>exact .inr ⟨m,hm,hq,h0⟩
     |false=>
      refine .inl λj hj=> ?_
      by_cases hjm:j=m
      ·rw[hjm];exact hq
      ·exact h0 j (by omega)
    ·exact .inr h0
  rcases key n (W4 n) with h0|⟨k,hk,hpk,hn⟩
  ·rw[h0 i hi] at hp;cases hp
  ·exact⟨k,hk,hpk,hn,M6 hk hpk hn⟩
theorem b8Z(d:Dsk)(ep:Int):vJ d ep<=d.E.length-9:=by
 unfold vJ;split
 ·exact W4 _
 ·rename_i h;by_cases hn:P9 (d.E.length-9) (bJ d ep)<0
  ·omega
  ·obtain⟨i,hi,_,_,e⟩:=mO hn;omega
noncomputable def a9e:Con:=.rel ⟨Eng×Dsk,λx=>[.agg x.1.ts,.agg x.2.ts],λx=>.agg (nH (sdE x.1 x.2)).ts,λx=>G5 x.2/\x.2.E.length=69⟩
theorem rU:GK 135 a9e:=gk Tryz.func135<|by
 rintro⟨e,d⟩ ⟨h1,h2⟩;dsimp only at h1 h2;exact Q5 (gC a9t (gC N5 (gC a6s gN))) Tryz.func135 Y5 (α:=∃(x:(Dsk×Int)),let p:=(v3 x.1 (vJ x.1 x.2));(((yM d x.1)/\e.s.ep=x.2/\True)/\G5 x.1/\x.1.E.length=69)/\(Y8 Z5 d.E d.E)/\(Y8 Y9 d.C d.C)/\d.A=d.A/\(Y8 Y6 d.keep d.keep)/\e.s.ep=e.s.ep/\(Y8 Y3 p (v3 d (vJ d e.s.ep)))/\(↑p.length:Int)=(↑(vJ d e.s.ep):Int)/\0=0/\(0:Int)=0/\false=false/\0=0/\0=0/\0=0/\e.N=e.N/\True) ⟨(d,e.s.ep),⟨⟨uX _,Z9⟩,h1,h2⟩,Z7,Z7,rfl,Z7,rfl,Z7,congrArg _ (zV _ _),rfl,rfl,rfl,rfl,rfl,rfl,Z9⟩
end Go.Proofs.YtghgljelnhfihaaGreat

