/- A part of the proof. -/
import Derived.Test.YtokaojbaacnngaaGreatU1U2
import Derived.Test.YtokaojbaacnngaaGreatX11X11rX12X13X14
import Derived.Test.YtokaojbaacnngaaGreatU3U4U5
namespace Go.Proofs.YtokaojbaacnngaaGreat
set_option maxRecDepth 100000
open Go.SS

def dr(x:List UInt8):Nat->List UInt8
 |0=>x
 |i+1=>(dr x i).drop 1
def xG(x:List UInt8):Nat->Bool
 |0=>false
 |i+1=>xG x i||(dr x i).isEmpty
def rcE(x:List UInt8):Fst:=U8 (dr x 9) (xG x 9)
def bM(x:List UInt8):Rec:=⟨numR (dr x 1),numR (dr x 2),numR (dr x 3),numR (dr x 4),numR (dr x 5),numR (dr x 6),numR (dr x 7),numR (dr x 8),(rcE x).out.getD 0 [],(rcE x).out.getD 1 []⟩
def A3(x:List UInt8):Bool:= !(!(rcE x).fl&&(rcE x).l.isEmpty)||numR x !=108||(((rcE x).out.length:Nat):Int) !=2
def cP:Rec:=⟨0,0,0,0,0,0,0,0,[],[]⟩
noncomputable def S6(b:List UInt8):Rec×Int:=if T0 b=true then
  if A3 (X4 b)=true then(cP,3) else if Q6 (bM (X4 b))=true then(bM (X4 b),0) else(cP,3)
 else(cP,8)
def b8p:Con:=.reff ⟨List UInt8×Nat,λ_=>[.ref 0 0 0],λx=>[rdr (dr x.1 x.2) (xG x.1 x.2)],λx=>.int .i64 (numR (dr x.1 x.2)),λx=>[rdr (dr x.1 (x.2+1)) (xG x.1 (x.2+1))],λ_=>True⟩
theorem b6q:GK 268 b8p:=gk Tryz.func268<|λx _=>dA.1 _ _ _ _ none rfl trivial
noncomputable def fW:Con:=.rel ⟨List UInt8,λb=>[.bys b],λb=>.tup [.agg (S6 b).1.ts,.int .i64 (S6 b).2],RdB⟩
theorem b4C(l:List UInt8)(n:Int)(h0:0<=n)(h:n<=255):(R7 l n).length<=255:=by
 unfold R7;split
 ·rw[List.length_replicate];omega
 ·rw[List.length_take];omega
theorem bV{α:Type}(d:α)(L:List α)(x:α)(i:Nat)(hi:i<L.length+1):(L++[x]).getD i d=if i=L.length then x else L.getD i d:=by
 by_cases h:i=L.length
 ·subst h;rw[if_pos rfl,N9,qK (V1 _)]
  simp
 ·rw[if_neg h,N9,sC (by omega),←N9]
theorem b0p(l:List UInt8)(fl:Bool):∀i j,((K5 l fl i).out.getD j []).length<=255
 |0,j=>S2 _
 |i+1,j=>by
  have hm:=z4 (K5 l fl i).l;show(((K5 l fl i).out++[R7 ((K5 l fl i).l.drop 1) (numR (K5 l fl i).l)]).getD j []).length<=255;by_cases hj:j<(K5 l fl i).out.length+1
  ·rw[bV [] _ _ _ hj];split
   ·exact b4C _ _ hm.1 (by omega)
   ·exact b0p l fl i j
  ·rw[N9,List.getElem?_eq_none (by rw[B8];simp;omega)]
   exact S2 _
theorem b7p{b:List UInt8}(h:T0 b=false):S6 b=(cP,8):=by unfold S6;rw[if_neg (by rw[h];simp)]
theorem b3a{b:List UInt8}(h:T0 b=true)(hb:A3 (X4 b)=true):S6 b=(cP,3):=by unfold S6;rw[if_pos h,if_pos hb]
theorem b1X{b:List UInt8}(h:T0 b=true)(hb:A3 (X4 b)=false)(hr:Q6 (bM (X4 b))=false):S6 b=(cP,3):=by unfold S6;rw[if_pos h,if_neg (by rw[hb];simp),if_neg (by rw[hr];simp)]
theorem a3z{b:List UInt8}(h:T0 b=true)(hb:A3 (X4 b)=false)(hr:Q6 (bM (X4 b))=true):S6 b=(bM (X4 b),0):=by unfold S6;rw[if_pos h,if_neg (by rw[hb];simp),if_pos hr]
theorem jS:GK 232 fW:=gk Tryz.func232<|by
 intro(b:List UInt8) (hb:b.length<=1000);refine S3 (gC uY (gC b6q (gC iH (gC uG (gC wG gN))))) Tryz.func232 Z0 (α:=(decide ((b.length:Int)>(65536:Int))=true->((0:Int)=(S6 b).1.e/\(0:Int)=(S6 b).1.l/\(0:Int)=(S6 b).1.t/\(0:Int)=(S6 b).1.k/\(0:Int)=(S6 b).1.p/\(0:Int)=(S6 b).1.n/\(0:Int)=(S6 b).1.g/\(0:Int)=(S6 b).1.s/\[]=(S6 b).1.b/\[]=(S6 b).1.a/\True)/\(2:Int)=(S6 b).2/\True)/\(decide ((b.length:Int)>(65536:Int))=false->∃(x:vY.ι),((b=x/\True)/\I2 x)/\((!T0 x)=true->((0:Int)=(S6 b).1.e/\(0:Int)=(S6 b).1.l/\(0:Int)=(S6 b).1.t/\(0:Int)=(S6 b).1.k/\(0:Int)=(S6 b).1.p/\(0:Int)=(S6 b).1.n/\(0:Int)=(S6 b).1.g/\(0:Int)=(S6 b).1.s/\[]=(S6 b).1.b/\[]=(S6 b).1.a/\True)/\(8:Int)=(S6 b).2/\True)/\((!T0 x)=false->∃(x_1:(List UInt8×Nat)),(((0=0/\0=0)/\True)/\((1=1/\Z6 1 (λ(x_2:Nat)=>[T.bys (X4 x),T.bool false]) λ(x:Nat)=>[T.bys (dr x_1.1 x_1.2),T.bool (xG x_1.1 x_1.2)])/\True)/\True)/\∃(x:(List UInt8×Nat)),(((0=0/\0=0)/\True)/\((1=1/\Z6 1 (λ(x:Nat)=>[T.bys (dr x_1.1 (x_1.2+1)),T.bool (xG x_1.1 (x_1.2+1))]) λ(x_2:Nat)=>[T.bys (dr x.1 x.2),T.bool (xG x.1 x.2)])/\True)/\True)/\∃(x_2:(List UInt8×Nat)),(((0=0/\0=0)/\True)/\((1=1/\Z6 1 (λ(x_3:Nat)=>[T.bys (dr x.1 (x.2+1)),T.bool (xG x.1 (x.2+1))]) λ(x:Nat)=>[T.bys (dr x_2.1 x_2.2),T.bool (xG x_2.1 x_2.2)])/\True)/\True)/\∃(x_3:(List UInt8×Nat)),(((0=0/\0=0)/\True)/\((1=1/\Z6 1 (λ(x:Nat)=>[T.bys (dr x_2.1 (x_2.2+1)),T.bool (xG x_2.1 (x_2.2+1))]) λ(x:Nat)=>[T.bys (dr x_3.1 x_3.2),T.bool (xG x_3.1 x_3.2)])/\True)/\True)/\∃(x_4:(List UInt8×Nat)),(((0=0/\0=0)/\True)/\((1=1/\Z6 1 (λ(x:Nat)=>[T.bys (dr x_3.1 (x_3.2+1)),T.bool (xG x_3.1 (x_3.2+1))]) λ(x:Nat)=>[T.bys (dr x_4.1 x_4.2),T.bool (xG x_4.1 x_4.2)])/\True)/\True)/\∃(x_5:(List UInt8×Nat)),(((0=0/\0=0)/\True)/\((1=1/\Z6 1 (λ(x:Nat)=>[T.bys (dr x_4.1 (x_4.2+1)),T.bool (xG x_4.1 (x_4.2+1))]) λ(x:Nat)=>[T.bys (dr x_5.1 x_5.2),T.bool (xG x_5.1 x_5.2)])/\True)/\True)/\∃(x_6:(List UInt8×Nat)),(((0=0/\0=0)/\True)/\((1=1/\Z6 1 (λ(x:Nat)=>[T.bys (dr x_5.1 (x_5.2+1)),T.bool (xG x_5.1 (x_5.2+1))]) λ(x:Nat)=>[T.bys (dr x_6.1 x_6.2),T.bool (xG x_6.1 x_6.2)])/\True)/\True)/\∃(x_7:(List UInt8×Nat)),(((0=0/\0=0)/\True)/\((1=1/\Z6 1 (λ(x:Nat)=>[T.bys (dr x_6.1 (x_6.2+1)),T.bool (xG x_6.1 (x_6.2+1))]) λ(x:Nat)=>[T.bys (dr x_7.1 x_7.2),T.bool (xG x_7.1 x_7.2)])/\True)/\True)/\∃(x_8:(List UInt8×Nat)),(((0=0/\0=0)/\True)/\((1=1/\Z6 1 (λ(x:Nat)=>[T.bys (dr x_7.1 (x_7.2+1)),T.bool (xG x_7.1 (x_7.2+1))]) λ(x:Nat)=>[T.bys (dr x_8.1 x_8.2),T.bool (xG x_8.1 x_8.2)])/\True)/\True)/\((!(!(U8 (dr x_8.1 (x_8.2+1)) (xG x_8.1 (x_8.2+1))).fl&&(U8 (dr x_8.1 (x_8.2+1)) (xG x_8.1 (x_8.2+1))).l.isEmpty)||numR (dr x_1.1 x_1.2) !=(108:Int)||(↑(U8 (dr x_8.1 (x_8.2+1)) (xG x_8.1 (x_8.2+1))).out.length:Int) !=(2:Int))=true->((0:Int)=(S6 b).1.e/\(0:Int)=(S6 b).1.l/\(0:Int)=(S6 b).1.t/\(0:Int)=(S6 b).1.k/\(0:Int)=(S6 b).1.p/\(0:Int)=(S6 b).1.n/\(0:Int)=(S6 b).1.g/\(0:Int)=(S6 b).1.s/\[]=(S6 b).1.b/\[]=(S6 b).1.a/\True)/\(3:Int)=(S6 b).2/\True)/\((!(!(U8 (dr x_8.1 (x_8.2+1)) (xG x_8.1 (x_8.2+1))).fl&&(U8 (dr x_8.1 (x_8.2+1)) (xG x_8.1 (x_8.2+1))).l.isEmpty)||numR (dr x_1.1 x_1.2) !=(108:Int)||(↑(U8 (dr x_8.1 (x_8.2+1)) (xG x_8.1 (x_8.2+1))).out.length:Int) !=(2:Int))=false->W2 (0:Int) (U8 (dr x_8.1 (x_8.2+1)) (xG x_8.1 (x_8.2+1))).out.length/\W2 (1:Int) (U8 (dr x_8.1 (x_8.2+1)) (xG x_8.1 (x_8.2+1))).out.length/\a62 ((U8 (dr x_8.1 (x_8.2+1)) (xG x_8.1 (x_8.2+1))).out.getD 1 [])/\((!Q6 (Rec.mk (numR (dr x.1 x.2)) (numR (dr x_2.1 x_2.2)) (numR (dr x_3.1 x_3.2)) (numR (dr x_4.1 x_4.2)) (numR (dr x_5.1 x_5.2)) (numR (dr x_6.1 x_6.2)) (numR (dr x_7.1 x_7.2)) (numR (dr x_8.1 x_8.2)) ((U8 (dr x_8.1 (x_8.2+1)) (xG x_8.1 (x_8.2+1))).out.getD 0 []) ((U8 (dr x_8.1 (x_8.2+1)) (xG x_8.1 (x_8.2+1))).out.getD 1 [])))=true->((0:Int)=(S6 b).1.e/\(0:Int)=(S6 b).1.l/\(0:Int)=(S6 b).1.t/\(0:Int)=(S6 b).1.k/\(0:Int)=(S6 b).1.p/\(0:Int)=(S6 b).1.n/\(0:Int)=(S6 b).1.g/\(0:Int)=(S6 b).1.s/\[]=(S6 b).1.b/\[]=(S6 b).1.a/\True)/\(3:Int)=(S6 b).2/\True)/\((!Q6 (Rec.mk (numR (dr x.1 x.2)) (numR (dr x_2.1 x_2.2)) (numR (dr x_3.1 x_3.2)) (numR (dr x_4.1 x_4.2)) (numR (dr x_5.1 x_5.2)) (numR (dr x_6.1 x_6.2)) (numR (dr x_7.1 x_7.2)) (numR (dr x_8.1 x_8.2)) ((U8 (dr x_8.1 (x_8.2+1)) (xG x_8.1 (x_8.2+1))).out.getD 0 []) ((U8 (dr x_8.1 (x_8.2+1)) (xG x_8.1 (x_8.2+1))).out.getD 1 [])))=false->(numR (dr x.1 x.2)=(S6 b).1.e/\numR (dr x_2.1 x_2.2)=(S6 b).1.l/\numR (dr x_3.1 x_3.2)=(S6 b).1.t/\numR (dr x_4.1 x_4.2)=(S6 b).1.k/\numR (dr x_5.1 x_5.2)=(S6 b).1.p/\numR (dr x_6.1 x_6.2)=(S6 b).1.n/\numR (dr x_7.1 x_7.2)=(S6 b).1.g/\numR (dr x_8.1 x_8.2)=(S6 b).1.s/\(U8 (dr x_8.1 (x_8.2+1)) (xG x_8.1 (x_8.2+1))).out.getD 0 []=(S6 b).1.b/\(U8 (dr x_8.1 (x_8.2+1)) (xG x_8.1 (x_8.2+1))).out.getD 1 []=(S6 b).1.a/\True)/\(0:Int)=(S6 b).2/\True))))) ⟨λh=>by have:=E9 h;omega,λ_=>⟨b,⟨Z9,by unfold I2;omega⟩,λh=> ?_,λh=>⟨(X4 b,0),⟨(by repeat' first|exact trivial|exact rfl|exact Z2 _ _|exact R9 _|exact U5|exact U2 _|exact V1 _|exact S2 _|refine And.intro ?_ ?_),⟨⟨rfl,λ_ _=>rfl⟩,trivial⟩,trivial⟩,(X4 b,1),⟨(by repeat' first|exact trivial|exact rfl|exact Z2 _ _|exact R9 _|exact U5|exact U2 _|exact V1 _|exact S2 _|refine And.intro ?_ ?_),⟨⟨rfl,λ_ _=>rfl⟩,trivial⟩,trivial⟩,(X4 b,2),⟨(by repeat' first|exact trivial|exact rfl|exact Z2 _ _|exact R9 _|exact U5|exact U2 _|exact V1 _|exact S2 _|refine And.intro ?_ ?_),⟨⟨rfl,λ_ _=>rfl⟩,trivial⟩,trivial⟩,(X4 b,3),⟨(by repeat' first|exact trivial|exact rfl|exact Z2 _ _|exact R9 _|exact U5|exact U2 _|exact V1 _|exact S2 _|refine And.intro ?_ ?_),⟨⟨rfl,λ_ _=>rfl⟩,trivial⟩,trivial⟩,(X4 b,4),⟨(by repeat' first|exact trivial|exact rfl|exact Z2 _ _|exact R9 _|exact U5|exact U2 _|exact V1 _|exact S2 _|refine And.intro ?_ ?_),⟨⟨rfl,λ_ _=>rfl⟩,trivial⟩,trivial⟩,(X4 b,5),⟨(by repeat' first|exact trivial|exact rfl|exact Z2 _ _|exact R9 _|exact U5|exact U2 _|exact V1 _|exact S2 _|refine And.intro ?_ ?_),⟨⟨rfl,λ_ _=>rfl⟩,trivial⟩,trivial⟩,(X4 b,6),⟨(by repeat' first|exact trivial|exact rfl|exact Z2 _ _|exact R9 _|exact U5|exact U2 _|exact V1 _|exact S2 _|refine And.intro ?_ ?_),⟨⟨rfl,λ_ _=>rfl⟩,trivial⟩,trivial⟩,(X4 b,7),⟨(by repeat' first|exact trivial|exact rfl|exact Z2 _ _|exact R9 _|exact U5|exact U2 _|exact V1 _|exact S2 _|refine And.intro ?_ ?_),⟨⟨rfl,λ_ _=>rfl⟩,trivial⟩,trivial⟩,(X4 b,8),⟨(by repeat' first|exact trivial|exact rfl|exact Z2 _ _|exact R9 _|exact U5|exact U2 _|exact V1 _|exact S2 _|refine And.intro ?_ ?_),⟨⟨rfl,λ_ _=>rfl⟩,trivial⟩,trivial⟩,λhc=> ?_,λhc=> ?_⟩⟩⟩
 ·rw[b7p (by simpa using h)]
  exact(by repeat' first|exact trivial|exact rfl|exact Z2 _ _|exact R9 _|exact U5|exact U2 _|exact V1 _|exact S2 _|refine And.intro ?_ ?_)
 ·rw[b3a (by simpa using h) hc]
  exact(by repeat' first|exact trivial|exact rfl|exact Z2 _ _|exact R9 _|exact U5|exact U2 _|exact V1 _|exact S2 _|refine And.intro ?_ ?_)
 ·have hu:T0 b=true:=by simpa using h
  have hc:A3 (X4 b)=false:=hc;have h2:(rcE (X4 b)).out.length=2:=by
   unfold A3 at hc;simp only[tU,bne_eq_false_iff_eq] at hc;omega
  refine⟨⟨by omega,by show(0:Int)<((rcE (X4 b)).out.length:Int);omega⟩,⟨by omega,by show(1:Int)<((rcE (X4 b)).out.length:Int);omega⟩,by have:=b0p (dr (X4 b) 9) (xG (X4 b) 9) (numR (dr (X4 b) 9)).toNat 1;unfold a62;show((K5 (dr (X4 b) 9) (xG (X4 b) 9) (numR (dr (X4 b) 9)).toNat).out.getD 1 []).length<_;omega,λhr=> ?_,λhr=> ?_⟩
  ·have hr:(!Q6 (bM (X4 b)))=true:=by
    unfold bM rcE;dsimp only[Nat.reduceAdd] at hr ⊢;exact hr
   have hr:Q6 (bM (X4 b))=false:=by rw[vO] at hr;exact hr
   rw[b1X hu hc hr];exact(by repeat' first|exact trivial|exact rfl|exact Z2 _ _|exact R9 _|exact U5|exact U2 _|exact V1 _|exact S2 _|refine And.intro ?_ ?_)
  ·have hr:(!Q6 (bM (X4 b)))=false:=by
    unfold bM rcE;dsimp only[Nat.reduceAdd] at hr ⊢;exact hr
   have hr:Q6 (bM (X4 b))=true:=by rw[xE] at hr;exact hr
   rw[a3z hu hc hr];unfold bM rcE;dsimp only[Nat.reduceAdd];exact⟨⟨rfl,rfl,rfl,rfl,rfl,rfl,rfl,rfl,rfl,Z9⟩,Z9⟩
noncomputable def lgR(d:Dsk)(i:Nat):Rec×Int:=S6 (S5 d (9+i))
noncomputable def lgE(d:Dsk)(i:Nat):Int:=if i=0 then 1 else(lgR d (i-1)).1.e
noncomputable def cX(d:Dsk)(ep:Int)(i:Nat):Bool:=((lgR d i).2 !=0||(lgR d i).1.l !=(i:Int)+1|| !V6 (lgR d i).1.e (lgE d i) ep)
noncomputable def u6(d:Dsk)(m:Nat):List Rec:=(List.range m).map λi=>(lgR d i).1
noncomputable def vJ(d:Dsk)(ep:Int):Nat:=if R0 (d.sec.length-9) (cX d ep)= -1 then d.sec.length-9 else(R0 (d.sec.length-9) (cX d ep)).toNat
def LgS(x:Dsk×Int):Prop:=B9 x.1
noncomputable def a9q(d:Dsk)(ep:Int):Nat->Ann
 |0=>.one (V3 (d.sec.length-9) (cX d ep)) (λx=>⟨[(1,.int .i64 ep),(2,.ref 0 0 0),(5,.osl 1 0 x.1),(6,.int .i64 (lgE d x.1)),(7,.int .i64 (9+x.1:Nat))],[mB d,v7 (u6 d x.1)]⟩) (λx=>d.sec.length-x.1) [.box 0,.arr 1] [.box 0,.arr 3] (λ_=>Z0)
 |_=>.none
noncomputable def a9A:Con:=.rmk ⟨Dsk×Int,λx=>[.agg x.1.ts,.int .i64 x.2],λ_=>[],λx=>.osl 0 0 (vJ x.1 x.2),λx=>[v7 (u6 x.1 (vJ x.1 x.2))],LgS⟩
theorem j3(d:Dsk)(m:Nat):(u6 d m).length=m:=by unfold u6;simp
theorem b9T(d:Dsk){m i:Nat}(h:i<m):(u6 d m).getD i default=(lgR d i).1:=by
 unfold u6;rw[N9,rL,List.getElem?_range h]
 rfl
theorem a06(d:Dsk)(m:Nat):u6 d (m+1)=u6 d m++[(lgR d m).1]:=by
 unfold u6;rw[List.range_succ,List.map_append];rfl
theorem b0c{d:Dsk}{ep:Int}{m:Nat}(hm:m<d.sec.length-9)(h:cX d ep m=true)(hp:∀i,i<m->cX d ep i=false):vJ d ep=m:=by
 unfold vJ;rw[L5 hm h hp,if_neg (by omega),z7]
theorem a5E{d:Dsk}{ep:Int}{m:Nat}(hm:m=d.sec.length-9)(hp:∀i,i<m->cX d ep i=false):vJ d ep=m:=by
 unfold vJ;rw[J9 (λi hi=>hp i (by omega)),if_pos rfl,hm]
theorem a26:GK 182 a9A:=gk Tryz.func182<|by
 rintro⟨d,ep⟩ (hd:B9 d);have hd':=hd;obtain⟨q1,q2,q3,q4,_⟩:=hd';refine⟨D2 (gC k6 (gC lU (gC jS (gC N4 gN)))) Tryz.func182 (a9q d ep) [[.arr 1]] (α:=(∃(x:V3 (d.sec.length-9) (cX d ep)),(ep=ep/\(0=0/\0=0)/\(0=0/\0=x.val)/\(1:Int)=lgE d x.val/\(9:Int)=(↑(9+x.val):Int)/\True)/\(1=1/\1=1/\g8 d d)/\(0=(u6 d x.val).length/\Z6 0 (λ(k:Nat)=>List.take 10 (List.drop (k*10) [])) (Y7 (u6 d x.val)))/\True)/\∀(x:V3 (d.sec.length-9) (cX d ep)),(decide ((↑(9+x.val):Int)<(d.sec.length:Int))=true->∃(x_1:tC.ι),(((g8 d x_1.1)/\(↑(9+x.val):Int)=(x_1.2:Int)/\True)/\AtB x_1)/\Lt (S5 x_1.1 x_1.2).length 140737488355329/\∃(x_2:(List UInt8)),((S5 x_1.1 x_1.2=x_2/\True)/\RdB x_2)/\(((S6 x_2).2 !=(0:Int))=false->X2 .i64 ((x.val:Int)+(1:Int)))/\(((S6 x_2).2 !=(0:Int)||(S6 x_2).1.l !=(x.val:Int)+(1:Int)|| !V6 (S6 x_2).1.e (lgE d x.val) ep)=true->((0=0/\x.val=vJ d ep)/\True)/\(Y6 Y7 (u6 d x.val) (u6 d (vJ d ep)))/\True)/\(((S6 x_2).2 !=(0:Int)||(S6 x_2).1.l !=(x.val:Int)+(1:Int)|| !V6 (S6 x_2).1.e (lgE d x.val) ep)=false->(Le x.val (u6 d x.val).length/\V7 x.val 1 96)/\X2 .i64 ((↑(9+x.val):Int)+(1:Int))/\∃(y:V3 (d.sec.length-9) (cX d ep)),((ep=ep/\(0=0/\0=0)/\(0=0/\x.val+1=y.val)/\(S6 x_2).1.e=lgE d y.val/\(↑(9+x.val):Int)+(1:Int)=(↑(9+y.val):Int)/\True)/\(1=1/\1=1/\g8 d d)/\(x.val+1=(u6 d y.val).length/\Z6 (x.val+1) (W7 (Y7 (u6 d x.val)) x.val λ(k:Nat)=>List.take 10 (List.drop (k*10) [T.int .i64 (S6 x_2).1.e,T.int .i64 (S6 x_2).1.l,T.int .i64 (S6 x_2).1.t,T.int .i64 (S6 x_2).1.k,T.int .i64 (S6 x_2).1.p,T.int .i64 (S6 x_2).1.n,T.int .i64 (S6 x_2).1.g,T.int .i64 (S6 x_2).1.s,T.str (S6 x_2).1.b,T.str (S6 x_2).1.a])) (Y7 (u6 d y.val)))/\True)/\Lt (d.sec.length-y.val) (d.sec.length-x.val)))/\(decide ((↑(9+x.val):Int)<(d.sec.length:Int))=false->((0=0/\x.val=vJ d ep)/\True)/\(Y6 Y7 (u6 d x.val) (u6 d (vJ d ep)))/\True)) ⟨⟨E8,⟨rfl,Z7,Z7,rfl,Z9⟩,⟨rfl,rfl,xF _⟩,⟨(j3 d 0).symm,U5⟩,trivial⟩,λx=>⟨λhc=> ?_,λhc=> ?_⟩⟩,rfl,uO _⟩
 ·have hc:9+x.val<d.sec.length:=by have:=E9 hc;omega
  have hle:=qW hd hc;have hx:=j3 d x.val;refine⟨(d,9+x.val),⟨⟨xF _,Z9⟩,hc,by dsimp only;omega⟩,by unfold Lt;dsimp only;omega,S5 d (9+x.val),⟨⟨rfl,trivial⟩,by show(S5 d (9+x.val)).length<=1000;omega⟩,λ_=>Z4 (by omega),λhb=> ?_,λhb=> ?_⟩
  ·have hb:cX d ep x.val=true:=hb;rw[b0c (by omega) hb x.2.2]
   exact⟨U6,X8⟩
  ·have hb:cX d ep x.val=false:=hb;refine⟨⟨by rw[hx];exact V1 _,by unfold V7;omega⟩,Z4 (by omega),x.succ (by omega) hb,⟨⟨rfl,Z7,Z7,?_,by dsimp only[V3.succ];omega,trivial⟩,⟨rfl,rfl,xF _⟩,⟨(j3 d (x.val+1)).symm,?_⟩,trivial⟩,by unfold Lt;dsimp only[V3.succ];omega⟩
   ·dsimp only[V3.succ];unfold lgE;rw[if_neg (by omega)]
    rfl
   ·show Z6 _ _ (Y7 (u6 d (x.val+1)));rw[a06];have:=oI (u6 d x.val) (lgR d x.val).1;rw[hx] at this;exact this
 ·have hx:x.val=d.sec.length-9:=by have:=x.2.1;have:=yG hc;omega
  rw[a5E hx x.2.2];exact⟨U6,X8⟩
end Go.Proofs.YtokaojbaacnngaaGreat

namespace Go.Proofs.YtokaojbaacnngaaGreat
set_option maxRecDepth 100000
open Go.SS

theorem b8J{r:List UInt8}(hr:0<r.length):(∃out,R6 r=some out/\out.length=2/\U8 r false=⟨[],false,out⟩)∨((∀out,R6 r=some out->out.length≠2)/\(!(!(U8 r false).fl&&(U8 r false).l.isEmpty)||(((U8 r false).out.length:Nat):Int) !=2)=true):=by
 have hfs:=a95 r hr (I9 r);have hcn:(numR r).toNat=I9 r:=by unfold numR I9;exact z7 _
 have hend:U8 r false=K5 r false (I9 r):=by unfold U8;rw[hcn]
 have hall:R6 r=if I9 r>100 then none else match d5 r (I9 r) with
   |some (p,out)=>if p=r.length then some out else none
   |none=>none:=by
  unfold R6;by_cases hc:I9 r>100
  ·rw[if_pos (.inr hc),if_pos hc]
  ·rw[if_neg (by omega),if_neg hc]
   rfl
 rw[hend];cases hf:d5 r (I9 r) with
 |none=>
  rw[hf] at hfs hall;simp only at hfs;have hall:R6 r=none:=by rw[hall];split<;>rfl
  refine .inr ⟨λout h=>(by rw[hall] at h;cases h),?_⟩
  rw[hfs];rfl
 |some y=>
  obtain⟨p,out⟩:=y;rw[hf] at hfs hall;simp only at hfs hall;obtain⟨hfs,hpl⟩:=hfs;rw[hfs];have ho:out.length=I9 r:=nL hf;by_cases hp:p=r.length
  ·have hem:r.drop p=[]:=by rw[List.drop_eq_nil_iff];omega
   rw[if_pos hp] at hall;by_cases h2:out.length=2
   ·rw[if_neg (by omega)] at hall
    exact .inl ⟨out,hall,h2,by rw[hem]⟩
   ·refine .inr ⟨λo h=> ?_,?_⟩
    ·rw[hall] at h;split at h
     ·cases h
     ·cases h;exact h2
    ·simp only[bne_iff_ne.2 (show((out.length:Nat):Int)≠2 by omega),Bool.or_true]
  ·have hem:(r.drop p).isEmpty=false:=by
    rw[Bool.eq_false_iff,ne_eq,List.isEmpty_iff,List.drop_eq_nil_iff];omega
   have hall:R6 r=none:=by rw[hall,if_neg hp];split<;>rfl
   refine .inr ⟨λout h=>(by rw[hall] at h;cases h),?_⟩
   simp[hem]
theorem rV(x:List UInt8):∀i,dr x i=x.drop i
 |0=>rfl
 |i+1=>by
  show(dr x i).drop 1=_;rw[rV x i,List.drop_drop]
theorem dM(x:List UInt8):∀i,xG x i=decide (x.length<i)
 |0=>rfl
 |i+1=>by
  show(xG x i||(dr x i).isEmpty)=_;rw[dM x i,rV,Bool.eq_iff_iff,nO,m5,List.isEmpty_iff,List.drop_eq_nil_iff,m5];omega
theorem a8S{x:List UInt8}(h:x.length<10):A3 x=true:=by
 have hf:(rcE x).fl=true:=by
  unfold rcE;rw[rV,dM];by_cases h9:x.length=9
  ·rw[List.drop_eq_nil_iff.2 (by omega)]
   exact a3v _ _
  ·rw[iO (by omega)]
   exact cY _ _
 unfold A3;rw[hf];rfl
noncomputable def d6(t:List UInt8):{r:List UInt8×Bool//r=(X4 t,T0 t)}:=Classical.choice ⟨⟨_,rfl⟩⟩
noncomputable def eY:Con:=.rel ⟨List UInt8,λt=>[.str t],λt=>.tup [.str (d6 t).1.1,.bool (d6 t).1.2],I2⟩
theorem jQ:GK 230 eY:=gk Tryz.func230<|by
 intro(t:List UInt8) ht;have h:=qS.1 t ht;have e1:(d6 t).1.1=X4 t:=by rw[(d6 t).2]
 have e2:(d6 t).1.2=T0 t:=by rw[(d6 t).2]
 show U3 _ _ _ (.tup [.str (d6 t).1.1,.bool (d6 t).1.2]);rw[e1,e2];exact h
noncomputable def mU(t:List UInt8):{r:List (List UInt8)×Bool//r=((R6 t).getD [],(R6 t).isSome)}:=Classical.choice ⟨⟨_,rfl⟩⟩
noncomputable def a4o:Con:=.rel ⟨List UInt8,λt=>[.str t],λt=>.tup [B4 (mU t).1.1,.bool (mU t).1.2],I2⟩
theorem a0i:GK 231 a4o:=gk Tryz.func231<|by
 intro(t:List UInt8) ht;have h:=lS.1 t ht;have e1:(mU t).1.1=(R6 t).getD []:=by rw[(mU t).2]
 have e2:(mU t).1.2=(R6 t).isSome:=by rw[(mU t).2]
 show U3 _ _ _ (.tup [B4 (mU t).1.1,.bool (mU t).1.2]);rw[e1,e2];exact h
noncomputable def l4p(t:List UInt8):{r:Rec×Bool//r=(if T0 t=true/\A3 (X4 t)=false then bM (X4 t) else cP,(S6 t).2==0)}:=Classical.choice ⟨⟨_,rfl⟩⟩
noncomputable def F1(t:List UInt8):Rec:=(l4p t).1.1
noncomputable def bJ(t:List UInt8):Bool:=(l4p t).1.2
theorem b0J(t:List UInt8):F1 t=if T0 t=true/\A3 (X4 t)=false then bM (X4 t) else cP:=by unfold F1;rw[(l4p t).2]
theorem a3T(t:List UInt8):bJ t=((S6 t).2==0):=by unfold bJ;rw[(l4p t).2]
noncomputable def a7i:Con:=.rel ⟨List UInt8,λt=>[.str t],λt=>.tup [.agg (F1 t).ts,.bool (bJ t)],RdB⟩
theorem b0R{x:List UInt8}(h:10<=x.length):rcE x=U8 (x.drop 9) false:=by
 unfold rcE;rw[rV,dM,tW (by omega)]
theorem b8c(x:List UInt8)(i:Nat):IntKind.i64.wrap ((x.getD i 0).toNat:Int)=numR (dr x i):=by
 rw[pQ,rV];unfold numR;rw[N9,N9,List.getElem?_drop,Nat.add_zero]
theorem b3U{t:List UInt8}(h:¬ (T0 t=true/\A3 (X4 t)=false)):F1 t=cP/\bJ t=false:=by
 rw[b0J,a3T,if_neg h];refine⟨rfl,?_⟩
 cases hu:T0 t with
 |false=>rw[b7p hu];rfl
 |true=>
  cases hb:A3 (X4 t) with
  |true=>rw[b3a hu hb];rfl
  |false=>exact absurd ⟨hu,hb⟩ h
theorem a4R{t:List UInt8}(hu:T0 t=true)(hb:A3 (X4 t)=false):F1 t=bM (X4 t)/\bJ t=Q6 (bM (X4 t)):=by
 rw[b0J,a3T,if_pos ⟨hu,hb⟩];refine⟨rfl,?_⟩
 cases hr:Q6 (bM (X4 t)) with
 |true=>rw[a3z hu hb hr];rfl
 |false=>rw[b1X hu hb hr];rfl
theorem b8f(t:List UInt8):(X4 t).length<=t.length:=by
 unfold X4;split
 ·rw[List.length_take];omega
 ·exact S2 _
theorem a3X:GK 180 a7i:=gk Tryz.func180<|by
 intro(t:List UInt8) (hb:t.length<=1000);have hx:=b8f t;have e1:(d6 t).1.1=X4 t:=by rw[(d6 t).2]
 have e2:(d6 t).1.2=T0 t:=by rw[(d6 t).2]
 have hz:∀{p:Bool},(¬ (T0 t=true/\A3 (X4 t)=false))->((0:Int)=(F1 t).e/\(0:Int)=(F1 t).l/\(0:Int)=(F1 t).t/\(0:Int)=(F1 t).k/\(0:Int)=(F1 t).p/\(0:Int)=(F1 t).n/\(0:Int)=(F1 t).g/\(0:Int)=(F1 t).s/\[]=(F1 t).b/\[]=(F1 t).a/\True)/\false=bJ t/\True:=λh=>by
  rw[(b3U h).1,(b3U h).2];exact⟨⟨rfl,rfl,rfl,rfl,rfl,rfl,rfl,rfl,rfl,Z9⟩,Z9⟩
 refine S3 (gC jQ (gC a0i (gC rO gN))) Tryz.func180 Z0 (α:=∃(x:(List UInt8)),((t=x/\True)/\I2 x)/\((!(d6 x).val.snd||decide ((↑(d6 x).val.fst.length:Int)<(10:Int)))=false->W2 (0:Int) (d6 x).val.fst.length)/\((!(d6 x).val.snd||decide ((↑(d6 x).val.fst.length:Int)<(10:Int))||(↑((d6 x).val.fst.getD 0 (0:UInt8)).toNat:Int) !=(108:Int))=true->((0:Int)=(F1 t).e/\(0:Int)=(F1 t).l/\(0:Int)=(F1 t).t/\(0:Int)=(F1 t).k/\(0:Int)=(F1 t).p/\(0:Int)=(F1 t).n/\(0:Int)=(F1 t).g/\(0:Int)=(F1 t).s/\[]=(F1 t).b/\[]=(F1 t).a/\True)/\false=bJ t/\True)/\((!(d6 x).val.snd||decide ((↑(d6 x).val.fst.length:Int)<(10:Int))||(↑((d6 x).val.fst.getD 0 (0:UInt8)).toNat:Int) !=(108:Int))=false->jR (9:Int) (d6 x).val.fst.length/\∃(x_1:(List UInt8)),((List.drop 9 (d6 x).val.fst=x_1/\True)/\I2 x_1)/\((!(mU x_1).val.snd||(↑(mU x_1).val.fst.length:Int) !=(2:Int))=true->((0:Int)=(F1 t).e/\(0:Int)=(F1 t).l/\(0:Int)=(F1 t).t/\(0:Int)=(F1 t).k/\(0:Int)=(F1 t).p/\(0:Int)=(F1 t).n/\(0:Int)=(F1 t).g/\(0:Int)=(F1 t).s/\[]=(F1 t).b/\[]=(F1 t).a/\True)/\false=bJ t/\True)/\((!(mU x_1).val.snd||(↑(mU x_1).val.fst.length:Int) !=(2:Int))=false->W2 (1:Int) (d6 x).val.fst.length/\W2 (2:Int) (d6 x).val.fst.length/\W2 (3:Int) (d6 x).val.fst.length/\W2 (4:Int) (d6 x).val.fst.length/\W2 (5:Int) (d6 x).val.fst.length/\W2 (6:Int) (d6 x).val.fst.length/\W2 (7:Int) (d6 x).val.fst.length/\W2 (8:Int) (d6 x).val.fst.length/\W2 (0:Int) (mU x_1).val.fst.length/\W2 (1:Int) (mU x_1).val.fst.length/\N3 ((mU x_1).val.fst.getD 1 []).length/\(IntKind.i64.wrap (↑((d6 x).val.fst.getD 1 (0:UInt8)).toNat:Int)=(F1 t).e/\IntKind.i64.wrap (↑((d6 x).val.fst.getD 2 (0:UInt8)).toNat:Int)=(F1 t).l/\IntKind.i64.wrap (↑((d6 x).val.fst.getD 3 (0:UInt8)).toNat:Int)=(F1 t).t/\IntKind.i64.wrap (↑((d6 x).val.fst.getD 4 (0:UInt8)).toNat:Int)=(F1 t).k/\IntKind.i64.wrap (↑((d6 x).val.fst.getD 5 (0:UInt8)).toNat:Int)=(F1 t).p/\IntKind.i64.wrap (↑((d6 x).val.fst.getD 6 (0:UInt8)).toNat:Int)=(F1 t).n/\IntKind.i64.wrap (↑((d6 x).val.fst.getD 7 (0:UInt8)).toNat:Int)=(F1 t).g/\IntKind.i64.wrap (↑((d6 x).val.fst.getD 8 (0:UInt8)).toNat:Int)=(F1 t).s/\(mU x_1).val.fst.getD 0 []=(F1 t).b/\(mU x_1).val.fst.getD 1 []=(F1 t).a/\True)/\Q6 (Rec.mk (IntKind.i64.wrap (↑((d6 x).val.fst.getD 1 (0:UInt8)).toNat:Int)) (IntKind.i64.wrap (↑((d6 x).val.fst.getD 2 (0:UInt8)).toNat:Int)) (IntKind.i64.wrap (↑((d6 x).val.fst.getD 3 (0:UInt8)).toNat:Int)) (IntKind.i64.wrap (↑((d6 x).val.fst.getD 4 (0:UInt8)).toNat:Int)) (IntKind.i64.wrap (↑((d6 x).val.fst.getD 5 (0:UInt8)).toNat:Int)) (IntKind.i64.wrap (↑((d6 x).val.fst.getD 6 (0:UInt8)).toNat:Int)) (IntKind.i64.wrap (↑((d6 x).val.fst.getD 7 (0:UInt8)).toNat:Int)) (IntKind.i64.wrap (↑((d6 x).val.fst.getD 8 (0:UInt8)).toNat:Int)) ((mU x_1).val.fst.getD 0 []) ((mU x_1).val.fst.getD 1 []))=bJ t/\True))) ⟨t,⟨Z9,by unfold I2;omega⟩,?_⟩
 rw[e1,e2];refine⟨λh=> ?_,λh=>hz (p:=true) λhq=> ?_,λh=> ?_⟩
 ·simp only[tU,tQ] at h;exact⟨by omega,by omega⟩
 ·obtain⟨hu,hr⟩:=hq;have hl:10<=(X4 t).length:=by
   by_cases hl:(X4 t).length<10
   ·rw[a8S hl] at hr;cases hr
   ·omega
  have h108:numR (X4 t)=108:=by
   unfold A3 at hr;simp only[tU,bne_eq_false_iff_eq] at hr;exact hr.1.2
  have h108:(((X4 t).getD 0 0).toNat:Int)=108:=h108;rw[hu,h108,tW (by omega)] at h
  cases h
 ·simp only[tU,tQ,xE,bne_eq_false_iff_eq] at h;obtain⟨⟨hu,hl⟩,h108⟩:=h;have hl:10<=(X4 t).length:=by omega
  have hn:numR (X4 t)=108:=h108;have f1:(mU ((X4 t).drop 9)).1.1=(R6 ((X4 t).drop 9)).getD []:=by rw[(mU _).2]
  have f2:(mU ((X4 t).drop 9)).1.2=(R6 ((X4 t).drop 9)).isSome:=by rw[(mU _).2]
  have hd:((X4 t).drop 9).length=(X4 t).length-9:=List.length_drop;refine⟨⟨by omega,by omega⟩,(X4 t).drop 9,⟨Z9,by unfold I2;omega⟩,?_⟩
  rw[f1,f2];have hbad:A3 (X4 t)=(!(!(U8 ((X4 t).drop 9) false).fl&&(U8 ((X4 t).drop 9) false).l.isEmpty)||(((U8 ((X4 t).drop 9) false).out.length:Nat):Int) !=2):=by
   unfold A3;rw[b0R hl,hn];simp
  rcases b8J (r:=(X4 t).drop 9) (by omega) with⟨out,ha,h2,hf⟩|⟨ha,hf⟩
  ·have hg:A3 (X4 t)=false:=by rw[hbad,hf,h2];rfl
   have hout:(rcE (X4 t)).out=out:=by rw[b0R hl,hf]
   have hle:=b0p (dr (X4 t) 9) (xG (X4 t) 9) (numR (dr (X4 t) 9)).toNat 1;have hle:(out.getD 1 []).length<=255:=by rw[←hout];exact hle
   rw[ha];refine⟨λhc=> ?_,λ_=> ?_⟩
   ·simp[h2] at hc
   ·simp only[b8c];rw[(a4R hu hg).1,(a4R hu hg).2];unfold bM;rw[hout];show _/\_/\_/\_/\_/\_/\_/\_/\W2 0 out.length/\W2 1 out.length/\_;exact⟨⟨by omega,by omega⟩,⟨by omega,by omega⟩,⟨by omega,by omega⟩,⟨by omega,by omega⟩,⟨by omega,by omega⟩,⟨by omega,by omega⟩,⟨by omega,by omega⟩,⟨by omega,by omega⟩,⟨by omega,by omega⟩,⟨by omega,by omega⟩,by show(out.getD 1 []).length<_;omega,⟨rfl,rfl,rfl,rfl,rfl,rfl,rfl,rfl,rfl,rfl,trivial⟩,rfl,trivial⟩
  ·have hg:A3 (X4 t)=true:=by rw[hbad];exact hf
   refine⟨λ_=>hz (p:=true) λhq=>(by rw[hg] at hq;cases hq.2),λhc=> ?_⟩
   cases hs:R6 ((X4 t).drop 9) with
   |none=>rw[hs] at hc;simp at hc
   |some out=>
    rw[hs] at hc;have:=ha out hs;simp at hc;omega
noncomputable def b2X:Con:=.rel ⟨Dsk×Int,λx=>[.agg x.1.ts,.int .i64 x.2],λx=>l9 (u6 x.1 (vJ x.1 x.2)),λx=>B9 x.1/\x.1.sec.length=69⟩
noncomputable def b1v(d:Dsk)(ep:Int):Nat->Ann
 |0=>.one (V3 (d.sec.length-9) (cX d ep)) (λx=>⟨[(1,.int .i64 ep),(2,.ref 0 0 0),(5,.osl 1 0 x.1),(6,.int .i64 (x.1+1:Nat))],[mB d,v7 (u6 d x.1)]⟩) (λx=>d.sec.length-x.1) [.box 0,.arr 1] [.box 0,.at_ 5] (λ_=>Z0)
 |_=>.none
theorem c0q{t:List UInt8}(h:bJ t=true):S6 t=(F1 t,0)/\Q6 (F1 t)=true:=by
 by_cases hq:T0 t=true/\A3 (X4 t)=false
 ·obtain⟨h1,h2⟩:=a4R hq.1 hq.2;rw[h2] at h;rw[h1];exact⟨a3z hq.1 hq.2 h,h⟩
 ·rw[(b3U hq).2] at h;cases h
theorem b97{r:Rec}(h:Q6 r=true):1<=r.e:=by
 have:=(Q1 r).1 h;unfold zF at this;exact this.1
theorem a6i{d:Dsk}{ep:Int}{x:Nat}:(!bJ (S5 d (9+x))||(F1 (S5 d (9+x))).l !=((x+1:Nat):Int)||decide ((F1 (S5 d (9+x))).e>ep)||decide (((x+1:Nat):Int)>1)&&decide (((u6 d x).getD (0+(((x+1:Nat):Int)-2).toNat) default).e>(F1 (S5 d (9+x))).e))=cX d ep x:=by
 cases hk:bJ (S5 d (9+x)) with
 |false=>
  have h0:((lgR d x).2==0)=false:=by rw[←hk,a3T];rfl
  unfold cX bne;rw[h0];rfl
 |true=>
  obtain⟨hr,ho⟩:=c0q hk;have he:=b97 ho;have hr:lgR d x=(F1 (S5 d (9+x)),0):=hr;unfold cX;rw[hr];by_cases hx:x=0
  ·subst hx;have h1:lgE d 0=1:=by unfold lgE;rw[if_pos rfl]
   rw[h1];simp only[Bool.not_true,Bool.false_or,bne_self_eq_false];rw[Bool.eq_iff_iff];simp only[nO,I3,vO,←Bool.not_eq_true,bne_iff_ne,m5,ne_eq,L7];omega
  ·have hl:(u6 d x).getD (0+(((x+1:Nat):Int)-2).toNat) default=(lgR d (x-1)).1:=by
    rw[show 0+(((x+1:Nat):Int)-2).toNat=x-1 by omega]
    exact b9T d (by omega)
   rw[hl];simp only[Bool.not_true,Bool.false_or,bne_self_eq_false];rw[Bool.eq_iff_iff];simp only[lgE,if_neg hx,nO,I3,vO,←Bool.not_eq_true,bne_iff_ne,m5,ne_eq,L7];omega
theorem a8E:GK 112 b2X:=gk Tryz.func112<|by
 rintro⟨d,ep⟩ ⟨hd,h69⟩;dsimp only at hd h69;refine S3 (gC mR (gC a3X (gC k6 gN))) Tryz.func112 (b1v d ep) (α:=(∃(x:V3 (d.sec.length-9) (cX d ep)),(ep=ep/\(0=0/\0=0)/\(0=0/\0=x.val)/\(1:Int)=(↑(x.val+1):Int)/\True)/\(1=1/\1=1/\g8 d d)/\(0=(u6 d x.val).length/\Z6 0 (λ(k:Nat)=>List.take 10 (List.drop (k*10) [])) (Y7 (u6 d x.val)))/\True)/\∀(x:V3 (d.sec.length-9) (cX d ep)),(decide ((↑(x.val+1):Int)<=(60:Int))=true->X2 .i64 ((9:Int)+(↑(x.val+1):Int)))/\(decide ((↑(x.val+1):Int)<=(60:Int))=true->X2 .i64 ((9:Int)+(↑(x.val+1):Int)- (1:Int)))/\((decide ((↑(x.val+1):Int)<=(60:Int))&&decide ((9:Int)+(↑(x.val+1):Int)- (1:Int)<(d.sec.length:Int)))=true->X2 .i64 ((9:Int)+(↑(x.val+1):Int))/\X2 .i64 ((9:Int)+(↑(x.val+1):Int)- (1:Int))/\∃(x_1:tC.ι),(((g8 d x_1.1)/\(9:Int)+(↑(x.val+1):Int)- (1:Int)=(x_1.2:Int)/\True)/\AtB x_1)/\∃(x_2:(List UInt8)),((S5 x_1.1 x_1.2=x_2/\True)/\RdB x_2)/\((!bJ x_2||(F1 x_2).l !=(↑(x.val+1):Int)||decide ((F1 x_2).e>ep))=false->decide ((↑(x.val+1):Int)>(1:Int))=true->X2 .i64 ((↑(x.val+1):Int)- (2:Int)))/\((!bJ x_2||(F1 x_2).l !=(↑(x.val+1):Int)||decide ((F1 x_2).e>ep))=false->decide ((↑(x.val+1):Int)>(1:Int))=true->W2 ((↑(x.val+1):Int)- (2:Int)) x.val)/\((!bJ x_2||(F1 x_2).l !=(↑(x.val+1):Int)||decide ((F1 x_2).e>ep))=false->decide ((↑(x.val+1):Int)>(1:Int))=true->Lt (0+((↑(x.val+1):Int)- (2:Int)).toNat) (u6 d x.val).length)/\((!bJ x_2||(F1 x_2).l !=(↑(x.val+1):Int)||decide ((F1 x_2).e>ep)||decide ((↑(x.val+1):Int)>(1:Int))&&decide (((u6 d x.val).getD (0+((↑(x.val+1):Int)- (2:Int)).toNat) default).e>(F1 x_2).e))=true->Le (0+x.val) (u6 d x.val).length/\x.val=(u6 d (vJ d ep)).length/\Z6 x.val (Y7 (u6 d x.val)) (Y7 (u6 d (vJ d ep))))/\((!bJ x_2||(F1 x_2).l !=(↑(x.val+1):Int)||decide ((F1 x_2).e>ep)||decide ((↑(x.val+1):Int)>(1:Int))&&decide (((u6 d x.val).getD (0+((↑(x.val+1):Int)- (2:Int)).toNat) default).e>(F1 x_2).e))=false->(Le x.val (u6 d x.val).length/\V7 x.val 1 96)/\X2 .i64 ((↑(x.val+1):Int)+(1:Int))/\∃(y:V3 (d.sec.length-9) (cX d ep)),((ep=ep/\(0=0/\0=0)/\(0=0/\x.val+1=y.val)/\(↑(x.val+1):Int)+(1:Int)=(↑(y.val+1):Int)/\True)/\(1=1/\1=1/\g8 d d)/\(x.val+1=(u6 d y.val).length/\Z6 (x.val+1) (W7 (Y7 (u6 d x.val)) x.val λ(k:Nat)=>List.take 10 (List.drop (k*10) [T.int .i64 (F1 x_2).e,T.int .i64 (F1 x_2).l,T.int .i64 (F1 x_2).t,T.int .i64 (F1 x_2).k,T.int .i64 (F1 x_2).p,T.int .i64 (F1 x_2).n,T.int .i64 (F1 x_2).g,T.int .i64 (F1 x_2).s,T.str (F1 x_2).b,T.str (F1 x_2).a])) (Y7 (u6 d y.val)))/\True)/\Lt (d.sec.length-y.val) (d.sec.length-x.val)))/\((decide ((↑(x.val+1):Int)<=(60:Int))&&decide ((9:Int)+(↑(x.val+1):Int)- (1:Int)<(d.sec.length:Int)))=false->Le (0+x.val) (u6 d x.val).length/\x.val=(u6 d (vJ d ep)).length/\Z6 x.val (Y7 (u6 d x.val)) (Y7 (u6 d (vJ d ep))))) ⟨⟨E8,⟨rfl,Z7,Z7,Z9⟩,⟨rfl,rfl,xF _⟩,⟨(j3 d 0).symm,U5⟩,trivial⟩,λx=> ?_⟩
 have hxl:=x.2.1;have hcc:=hd.2.2.1;have hx:=j3 d x.val;refine⟨λ_=>Z4 (by omega),λ_=>Z4 (by omega),λhc=> ?_,λhc=> ?_⟩
 ·have hc:9+x.val<d.sec.length:=by
   simp only[I3,m5] at hc;omega
  have hle:=qW hd hc;refine⟨Z4 (by omega),Z4 (by omega),(d,9+x.val),⟨⟨xF _,by dsimp only;omega,trivial⟩,hc,by dsimp only;omega⟩,S5 d (9+x.val),⟨⟨rfl,trivial⟩,by show(S5 d (9+x.val)).length<=1000;omega⟩,λ_ h=>Z4 (by omega),λ_ h=> ?_,λ_ h=> ?_,?_⟩
  ·have:=E9 h;exact⟨by omega,by omega⟩
  ·have:=E9 h;unfold Lt;omega
  rw[a6i (d:=d) (ep:=ep)];refine⟨λhb=> ?_,λhb=> ?_⟩
  ·rw[b0c (by omega) hb x.2.2]
   exact⟨by unfold Le;omega,hx.symm,Z2 _ _⟩
  ·refine⟨⟨by unfold Le;omega,by unfold V7;omega⟩,Z4 (by omega),x.succ (by omega) hb,⟨⟨rfl,Z7,Z7,by dsimp only[V3.succ];omega,trivial⟩,⟨rfl,rfl,xF _⟩,⟨(j3 d (x.val+1)).symm,?_⟩,trivial⟩,by unfold Lt;dsimp only[V3.succ];omega⟩
   show Z6 _ _ (Y7 (u6 d (x.val+1)));have hs:=oI (u6 d x.val) (lgR d x.val).1;have hk:bJ (S5 d (9+x.val))=true:=by
    rw[←a6i] at hb;simp only[tU,xE] at hb;exact hb.1.1.1
   have hr:(lgR d x.val).1=F1 (S5 d (9+x.val)):=by
    show(S6 (S5 d (9+x.val))).1=_;rw[(c0q hk).1]
   rw[a06,hr];rw[hx,hr] at hs;exact hs
 ·have hq:x.val=d.sec.length-9:=by
   by_cases hn:x.val=d.sec.length-9
   ·exact hn
   ·rw[iO (show((x.val+1:Nat):Int)<=60 by omega),iO (show(9:Int)+((x.val+1:Nat):Int)-1<(d.sec.length:Int) by omega)] at hc
    cases hc
  rw[a5E hq x.2.2];exact⟨by unfold Le;omega,hx.symm,Z2 _ _⟩
end Go.Proofs.YtokaojbaacnngaaGreat

namespace Go.Proofs.YtokaojbaacnngaaGreat
set_option maxRecDepth 100000
open Go.SS

noncomputable def a3V(e:Eng):Eng:=⟨⟨e.s.d,e.s.ep,u6 e.s.d (vJ e.s.d e.s.ep),(vJ e.s.d e.s.ep:Nat),[],0⟩,false,[],⟨[],[]⟩,e.next⟩
noncomputable def b9e:Con:=.reff ⟨Eng×Nat,λx=>[.ref 0 0 0],λx=>x.1.bx x.2,λ_=>.int .i64 15,λx=>(a3V x.1).nx 0,λx=>B9 x.1.s.d⟩
theorem b4q:GK 114 b9e:=gk Tryz.func114<|by
 rintro⟨e,v⟩ (hd:B9 e.s.d);have hl:=(j3 e.s.d (vJ e.s.d e.s.ep)).symm;exact D2 (gC a26 gN) Tryz.func114 Z0 [[.nilC 0 7 0 5,.fac 0 7,.nilC 0 10 0 2,.nilC 0 11 0 4,.nilC 0 12 0 2,.box 0,.arr 1,.arr 2,.arr 3,.arr 4,.arr 5,.arr 6,.arr 7,.arr 8,.cel 0 0,.cel 0 1,.cel 0 3,.cel 0 5,.cel 0 7,.cel 0 10,.cel 0 11,.cel 0 12]] (α:=∃(x:(Dsk×Int)),((Le (0+e.s.d.sec.length) e.s.d.sec.length/\Le (0+e.s.d.cache.length) e.s.d.cache.length/\Le (0+e.s.d.keep.length) e.s.d.keep.length)/\((g8 e.s.d x.1)/\e.s.ep=x.2/\True)/\LgS x)/\((15:Int)=(15:Int)/\True)/\(1=1/\1=1/\(0=0/\e.s.d.sec.length=e.s.d.sec.length)/\(0=0/\e.s.d.cache.length=e.s.d.cache.length)/\e.s.d.armed=e.s.d.armed/\(0=0/\e.s.d.keep.length=e.s.d.keep.length)/\e.s.ep=e.s.ep/\(0=0/\vJ x.1 x.2=(u6 e.s.d (vJ e.s.d e.s.ep)).length)/\(↑(vJ x.1 x.2):Int)=(↑(vJ e.s.d e.s.ep):Int)/\(0=0/\0=0)/\(0:Int)=(0:Int)/\false=false/\(0=0/\0=0)/\(0=0/\0=0)/\(0=0/\0=0)/\e.next=e.next/\True)/\True/\True/\True/\True/\True/\True/\True/\True/\(Y6 Z5 e.s.d.sec e.s.d.sec)/\(Y6 Z3 e.s.d.cache e.s.d.cache)/\(Y6 Y9 e.s.d.keep e.s.d.keep)/\(Y6 Y7 (u6 x.1 (vJ x.1 x.2)) (u6 e.s.d (vJ e.s.d e.s.ep)))/\(0=0/\0=0/\V0 0 (λ(x:Nat)=>[]) (Y8 []))/\(0=0/\Z6 0 (λ(x:Nat)=>[]) (X5 []))/\(0=0/\Z6 0 (λ(x:Nat)=>[]) (Y5 []))/\(0=0/\Z6 0 (λ(x:Nat)=>[]) (X6 []))/\True) ⟨(e.s.d,e.s.ep),⟨⟨U2 _,U2 _,U2 _⟩,⟨xF _,Z9⟩,hd⟩,Z9,⟨rfl,rfl,Z7,Z7,rfl,Z7,rfl,⟨rfl,hl⟩,rfl,Z7,rfl,rfl,Z7,Z7,Z7,Z9⟩,trivial,trivial,trivial,trivial,trivial,trivial,trivial,trivial,Z8,Z8,Z8,Z8,⟨rfl,rfl,λi hi=>absurd hi (F3 _)⟩,⟨rfl,U5⟩,⟨rfl,U5⟩,⟨rfl,U5⟩,trivial⟩
def sdE(e:Eng)(d:Dsk):Eng:={e with s:=e.s.sd d}
theorem b0y(sec:List (List UInt8))(C:List Pend)(Q:Nat->Bool)(h:∀i,i<sec.length->(sec.getD i []).length<=160)(hc:∀i,i<C.length->(C.getD i default).d.length<=160):∀n,n<=C.length->∀i,i<sec.length->((o6 sec C Q n).getD i []).length<=160
 |0,_,i,hi=>h i hi
 |n+1,hn,i,hi=>by
  unfold o6;have ih:=b0y sec C Q h hc n (by omega) i hi
  split
  ·by_cases hj:i=(C.getD n default).at_.toNat
   ·subst hj;rw[N9,j_k (by rw[G7];exact hi)]
    exact hc n (by omega)
   ·rw[N9,j_l (Ne.symm hj),←N9]
    exact ih
  ·exact ih
theorem a0W{m:Nat}{p:Pend}(h:R2 m p=false):0<=p.at_/\p.at_<m/\p.d.length<=160:=by
 unfold R2 at h;simp only[tU,xE,L7,tQ] at h;omega
theorem oA{n:Nat}{p:Nat->Bool}(h:¬R0 n p<0):∃i,i<n/\p i=true/\(∀j,j<i->p j=false)/\R0 n p=(i:Int):=by
 cases ha:anyI n p with
 |false=>exact absurd (by rw[J9 (K6.1 ha)];omega) h
 |true=>
  obtain⟨i,hi,hp⟩:=O1.1 ha;have key:∀m,m<=n->(∀j,j<m->p j=false)∨∃i,i<n/\p i=true/\(∀j,j<i->p j=false):=by
   intro m;induction m with
   |zero=>intro _;exact .inl λj hj=>absurd hj (F3 j)
   |succ m ih=>
    intro hm;rcases ih (by omega) with h0|h0
    ·cases hq:p m with
     |true=>exact .inr ⟨m,hm,hq,h0⟩
     |false=>
      refine .inl λj hj=> ?_
      by_cases hjm:j=m
      ·rw[hjm];exact hq
      ·exact h0 j (by omega)
    ·exact .inr h0
  rcases key n (V1 n) with h0|⟨k,hk,hpk,hn⟩
  ·rw[h0 i hi] at hp;cases hp
  ·exact⟨k,hk,hpk,hn,L5 hk hpk hn⟩
theorem b77(d:Dsk)(ep:Int):vJ d ep<=d.sec.length-9:=by
 unfold vJ;split
 ·exact V1 _
 ·rename_i h;by_cases hn:R0 (d.sec.length-9) (cX d ep)<0
  ·omega
  ·obtain⟨i,hi,_,_,e⟩:=oA hn;omega
noncomputable def a7n:Con:=.rel ⟨Eng×Dsk,λx=>[.agg x.1.ts,.agg x.2.ts],λx=>.agg (a3V (sdE x.1 x.2)).ts,λx=>B9 x.2/\x.2.sec.length=69⟩
theorem a4G:GK 55 a7n:=gk Tryz.func55<|by
 rintro⟨e,d⟩ ⟨h1,h2⟩;dsimp only at h1 h2;exact S3 (gC a8E (gC k6 (gC a5X gN))) Tryz.func55 Z0 (α:=∃(x:(Dsk×Int)),(((g8 d x.1)/\e.s.ep=x.2/\True)/\B9 x.1/\x.1.sec.length=69)/\(Y6 Z5 d.sec d.sec)/\(Y6 Z3 d.cache d.cache)/\d.armed=d.armed/\(Y6 Y9 d.keep d.keep)/\e.s.ep=e.s.ep/\(Y6 Y7 (u6 x.1 (vJ x.1 x.2)) (u6 d (vJ d e.s.ep)))/\(↑(u6 x.1 (vJ x.1 x.2)).length:Int)=(↑(vJ d e.s.ep):Int)/\0=0/\(0:Int)=(0:Int)/\false=false/\0=0/\0=0/\0=0/\e.next=e.next/\True) ⟨(d,e.s.ep),⟨⟨xF _,Z9⟩,h1,h2⟩,Z8,Z8,rfl,Z8,rfl,Z8,congrArg _ (j3 _ _),rfl,rfl,rfl,rfl,rfl,rfl,Z9⟩
end Go.Proofs.YtokaojbaacnngaaGreat

