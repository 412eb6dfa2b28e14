/- A part of the proof. -/
import Derived.Test.YtokaojbaacnngaaGreatU1U2
import Derived.Test.YtokaojbaacnngaaGreatX11X11rX12X13X14
import Derived.Test.YtokaojbaacnngaaGreatU3U4U5
namespace Go.Proofs.YtokaojbaacnngaaGreat
set_option maxRecDepth 100000
open Go.SS

def dr(x:List UInt8):Nat->List UInt8
 |0=>x
 |i+1=>(dr x i).drop 1
def yJ(x:List UInt8):Nat->Bool
 |0=>false
 |i+1=>yJ x i||(dr x i).isEmpty
def rcE(x:List UInt8):Fst:=V1 (dr x 9) (yJ x 9)
def cP(x:List UInt8):Rec:=⟨numR (dr x 1),numR (dr x 2),numR (dr x 3),numR (dr x 4),numR (dr x 5),numR (dr x 6),numR (dr x 7),numR (dr x 8),(rcE x).out.getD 0 [],(rcE x).out.getD 1 []⟩
def A8(x:List UInt8):Bool:= !(!(rcE x).fl&&(rcE x).l.isEmpty)||numR x !=108||(((rcE x).out.length:Nat):Int) !=2
def gD:Rec:=⟨0,0,0,0,0,0,0,0,[],[]⟩
noncomputable def T0(b:List UInt8):Rec×Int:=if T4 b=true then
  if A8 (X6 b)=true then(gD,3) else if R2 (cP (X6 b))=true then(cP (X6 b),0) else(gD,3)
 else(gD,8)
def b68:Con:=.reff ⟨List UInt8×Nat,λ_=>[.ref 0 0 0],λx=>[rdr (dr x.1 x.2) (yJ x.1 x.2)],λx=>.int .i64 (numR (dr x.1 x.2)),λx=>[rdr (dr x.1 (x.2+1)) (yJ x.1 (x.2+1))],λ_=>True⟩
theorem b4S:GK 268 b68:=gk Tryz.func268<|λx _=>dZ.1 _ _ _ _ none rfl trivial
noncomputable def eW:Con:=.rel ⟨List UInt8,λb=>[.bys b],λb=>.tup [.agg (T0 b).1.ts,.int .i64 (T0 b).2],RdB⟩
theorem b57(l:List UInt8)(n:Int)(h0:0<=n)(h:n<=255):(S4 l n).length<=255:=by
 unfold S4;split
 ·rw[List.length_replicate];omega
 ·rw[List.length_take];omega
theorem dP{α:Type}(d:α)(L:List α)(x:α)(i:Nat)(hi:i<L.length+1):(L++[x]).getD i d=if i=L.length then x else L.getD i d:=by
 by_cases h:i=L.length
 ·subst h;rw[if_pos rfl,L5,iA (V2 _)]
  simp
 ·rw[if_neg h,L5,oX (by omega),←L5]
theorem b0L(l:List UInt8)(fl:Bool):∀i j,((L0 l fl i).out.getD j []).length<=255
 |0,j=>S7 _
 |i+1,j=>by
  have hm:=z4 (L0 l fl i).l;show(((L0 l fl i).out++[S4 ((L0 l fl i).l.drop 1) (numR (L0 l fl i).l)]).getD j []).length<=255;by_cases hj:j<(L0 l fl i).out.length+1
  ·rw[dP [] _ _ _ hj];split
   ·exact b57 _ _ hm.1 (by omega)
   ·exact b0L l fl i j
  ·rw[L5,List.getElem?_eq_none (by rw[A3];simp;omega)]
   exact S7 _
theorem b6q{b:List UInt8}(h:T4 b=false):T0 b=(gD,8):=by unfold T0;rw[if_neg (by rw[h];simp)]
theorem a89{b:List UInt8}(h:T4 b=true)(hb:A8 (X6 b)=true):T0 b=(gD,3):=by unfold T0;rw[if_pos h,if_pos hb]
theorem b2V{b:List UInt8}(h:T4 b=true)(hb:A8 (X6 b)=false)(hr:R2 (cP (X6 b))=false):T0 b=(gD,3):=by unfold T0;rw[if_pos h,if_neg (by rw[hb];simp),if_neg (by rw[hr];simp)]
theorem a1E{b:List UInt8}(h:T4 b=true)(hb:A8 (X6 b)=false)(hr:R2 (cP (X6 b))=true):T0 b=(cP (X6 b),0):=by unfold T0;rw[if_pos h,if_neg (by rw[hb];simp),if_pos hr]
theorem kB:GK 232 eW:=gk Tryz.func232<|by
 intro(b:List UInt8) (hb:b.length<=1000);refine S6 (gC vT (gC b4S (gC jI (gC vI (gC wY gN))))) Tryz.func232 Z0 (α:=(decide ((b.length:Int)>(65536:Int))=true->((0:Int)=(T0 b).1.e/\(0:Int)=(T0 b).1.l/\(0:Int)=(T0 b).1.t/\(0:Int)=(T0 b).1.k/\(0:Int)=(T0 b).1.p/\(0:Int)=(T0 b).1.n/\(0:Int)=(T0 b).1.g/\(0:Int)=(T0 b).1.s/\[]=(T0 b).1.b/\[]=(T0 b).1.a/\True)/\(2:Int)=(T0 b).2/\True)/\(decide ((b.length:Int)>(65536:Int))=false->∃(x:xM.ι),((b=x/\True)/\J1 x)/\((!T4 x)=true->((0:Int)=(T0 b).1.e/\(0:Int)=(T0 b).1.l/\(0:Int)=(T0 b).1.t/\(0:Int)=(T0 b).1.k/\(0:Int)=(T0 b).1.p/\(0:Int)=(T0 b).1.n/\(0:Int)=(T0 b).1.g/\(0:Int)=(T0 b).1.s/\[]=(T0 b).1.b/\[]=(T0 b).1.a/\True)/\(8:Int)=(T0 b).2/\True)/\((!T4 x)=false->∃(x_1:(List UInt8×Nat)),(((0=0/\0=0)/\True)/\((1=1/\Z6 1 (λ(x_2:Nat)=>[T.bys (X6 x),T.bool false]) λ(x:Nat)=>[T.bys (dr x_1.1 x_1.2),T.bool (yJ x_1.1 x_1.2)])/\True)/\True)/\∃(x:(List UInt8×Nat)),(((0=0/\0=0)/\True)/\((1=1/\Z6 1 (λ(x:Nat)=>[T.bys (dr x_1.1 (x_1.2+1)),T.bool (yJ x_1.1 (x_1.2+1))]) λ(x_2:Nat)=>[T.bys (dr x.1 x.2),T.bool (yJ x.1 x.2)])/\True)/\True)/\∃(x_2:(List UInt8×Nat)),(((0=0/\0=0)/\True)/\((1=1/\Z6 1 (λ(x_3:Nat)=>[T.bys (dr x.1 (x.2+1)),T.bool (yJ x.1 (x.2+1))]) λ(x:Nat)=>[T.bys (dr x_2.1 x_2.2),T.bool (yJ x_2.1 x_2.2)])/\True)/\True)/\∃(x_3:(List UInt8×Nat)),(((0=0/\0=0)/\True)/\((1=1/\Z6 1 (λ(x:Nat)=>[T.bys (dr x_2.1 (x_2.2+1)),T.bool (yJ x_2.1 (x_2.2+1))]) λ(x:Nat)=>[T.bys (dr x_3.1 x_3.2),T.bool (yJ x_3.1 x_3.2)])/\True)/\True)/\∃(x_4:(List UInt8×Nat)),(((0=0/\0=0)/\True)/\((1=1/\Z6 1 (λ(x:Nat)=>[T.bys (dr x_3.1 (x_3.2+1)),T.bool (yJ x_3.1 (x_3.2+1))]) λ(x:Nat)=>[T.bys (dr x_4.1 x_4.2),T.bool (yJ x_4.1 x_4.2)])/\True)/\True)/\∃(x_5:(List UInt8×Nat)),(((0=0/\0=0)/\True)/\((1=1/\Z6 1 (λ(x:Nat)=>[T.bys (dr x_4.1 (x_4.2+1)),T.bool (yJ x_4.1 (x_4.2+1))]) λ(x:Nat)=>[T.bys (dr x_5.1 x_5.2),T.bool (yJ x_5.1 x_5.2)])/\True)/\True)/\∃(x_6:(List UInt8×Nat)),(((0=0/\0=0)/\True)/\((1=1/\Z6 1 (λ(x:Nat)=>[T.bys (dr x_5.1 (x_5.2+1)),T.bool (yJ x_5.1 (x_5.2+1))]) λ(x:Nat)=>[T.bys (dr x_6.1 x_6.2),T.bool (yJ x_6.1 x_6.2)])/\True)/\True)/\∃(x_7:(List UInt8×Nat)),(((0=0/\0=0)/\True)/\((1=1/\Z6 1 (λ(x:Nat)=>[T.bys (dr x_6.1 (x_6.2+1)),T.bool (yJ x_6.1 (x_6.2+1))]) λ(x:Nat)=>[T.bys (dr x_7.1 x_7.2),T.bool (yJ x_7.1 x_7.2)])/\True)/\True)/\∃(x_8:(List UInt8×Nat)),(((0=0/\0=0)/\True)/\((1=1/\Z6 1 (λ(x:Nat)=>[T.bys (dr x_7.1 (x_7.2+1)),T.bool (yJ x_7.1 (x_7.2+1))]) λ(x:Nat)=>[T.bys (dr x_8.1 x_8.2),T.bool (yJ x_8.1 x_8.2)])/\True)/\True)/\((!(!(V1 (dr x_8.1 (x_8.2+1)) (yJ x_8.1 (x_8.2+1))).fl&&(V1 (dr x_8.1 (x_8.2+1)) (yJ x_8.1 (x_8.2+1))).l.isEmpty)||numR (dr x_1.1 x_1.2) !=(108:Int)||(↑(V1 (dr x_8.1 (x_8.2+1)) (yJ x_8.1 (x_8.2+1))).out.length:Int) !=(2:Int))=true->((0:Int)=(T0 b).1.e/\(0:Int)=(T0 b).1.l/\(0:Int)=(T0 b).1.t/\(0:Int)=(T0 b).1.k/\(0:Int)=(T0 b).1.p/\(0:Int)=(T0 b).1.n/\(0:Int)=(T0 b).1.g/\(0:Int)=(T0 b).1.s/\[]=(T0 b).1.b/\[]=(T0 b).1.a/\True)/\(3:Int)=(T0 b).2/\True)/\((!(!(V1 (dr x_8.1 (x_8.2+1)) (yJ x_8.1 (x_8.2+1))).fl&&(V1 (dr x_8.1 (x_8.2+1)) (yJ x_8.1 (x_8.2+1))).l.isEmpty)||numR (dr x_1.1 x_1.2) !=(108:Int)||(↑(V1 (dr x_8.1 (x_8.2+1)) (yJ x_8.1 (x_8.2+1))).out.length:Int) !=(2:Int))=false->W4 (0:Int) (V1 (dr x_8.1 (x_8.2+1)) (yJ x_8.1 (x_8.2+1))).out.length/\W4 (1:Int) (V1 (dr x_8.1 (x_8.2+1)) (yJ x_8.1 (x_8.2+1))).out.length/\a7p ((V1 (dr x_8.1 (x_8.2+1)) (yJ x_8.1 (x_8.2+1))).out.getD 1 [])/\((!R2 (Rec.mk (numR (dr x.1 x.2)) (numR (dr x_2.1 x_2.2)) (numR (dr x_3.1 x_3.2)) (numR (dr x_4.1 x_4.2)) (numR (dr x_5.1 x_5.2)) (numR (dr x_6.1 x_6.2)) (numR (dr x_7.1 x_7.2)) (numR (dr x_8.1 x_8.2)) ((V1 (dr x_8.1 (x_8.2+1)) (yJ x_8.1 (x_8.2+1))).out.getD 0 []) ((V1 (dr x_8.1 (x_8.2+1)) (yJ x_8.1 (x_8.2+1))).out.getD 1 [])))=true->((0:Int)=(T0 b).1.e/\(0:Int)=(T0 b).1.l/\(0:Int)=(T0 b).1.t/\(0:Int)=(T0 b).1.k/\(0:Int)=(T0 b).1.p/\(0:Int)=(T0 b).1.n/\(0:Int)=(T0 b).1.g/\(0:Int)=(T0 b).1.s/\[]=(T0 b).1.b/\[]=(T0 b).1.a/\True)/\(3:Int)=(T0 b).2/\True)/\((!R2 (Rec.mk (numR (dr x.1 x.2)) (numR (dr x_2.1 x_2.2)) (numR (dr x_3.1 x_3.2)) (numR (dr x_4.1 x_4.2)) (numR (dr x_5.1 x_5.2)) (numR (dr x_6.1 x_6.2)) (numR (dr x_7.1 x_7.2)) (numR (dr x_8.1 x_8.2)) ((V1 (dr x_8.1 (x_8.2+1)) (yJ x_8.1 (x_8.2+1))).out.getD 0 []) ((V1 (dr x_8.1 (x_8.2+1)) (yJ x_8.1 (x_8.2+1))).out.getD 1 [])))=false->(numR (dr x.1 x.2)=(T0 b).1.e/\numR (dr x_2.1 x_2.2)=(T0 b).1.l/\numR (dr x_3.1 x_3.2)=(T0 b).1.t/\numR (dr x_4.1 x_4.2)=(T0 b).1.k/\numR (dr x_5.1 x_5.2)=(T0 b).1.p/\numR (dr x_6.1 x_6.2)=(T0 b).1.n/\numR (dr x_7.1 x_7.2)=(T0 b).1.g/\numR (dr x_8.1 x_8.2)=(T0 b).1.s/\(V1 (dr x_8.1 (x_8.2+1)) (yJ x_8.1 (x_8.2+1))).out.getD 0 []=(T0 b).1.b/\(V1 (dr x_8.1 (x_8.2+1)) (yJ x_8.1 (x_8.2+1))).out.getD 1 []=(T0 b).1.a/\True)/\(0:Int)=(T0 b).2/\True))))) ⟨λh=>by have:=F3 h;omega,λ_=>⟨b,⟨Z9,by unfold J1;omega⟩,λh=> ?_,λh=>⟨(X6 b,0),⟨(by repeat' first|exact trivial|exact rfl|exact Z2 _ _|exact S5 _|exact U5|exact U0 _|exact V2 _|exact S7 _|refine And.intro ?_ ?_),⟨⟨rfl,λ_ _=>rfl⟩,trivial⟩,trivial⟩,(X6 b,1),⟨(by repeat' first|exact trivial|exact rfl|exact Z2 _ _|exact S5 _|exact U5|exact U0 _|exact V2 _|exact S7 _|refine And.intro ?_ ?_),⟨⟨rfl,λ_ _=>rfl⟩,trivial⟩,trivial⟩,(X6 b,2),⟨(by repeat' first|exact trivial|exact rfl|exact Z2 _ _|exact S5 _|exact U5|exact U0 _|exact V2 _|exact S7 _|refine And.intro ?_ ?_),⟨⟨rfl,λ_ _=>rfl⟩,trivial⟩,trivial⟩,(X6 b,3),⟨(by repeat' first|exact trivial|exact rfl|exact Z2 _ _|exact S5 _|exact U5|exact U0 _|exact V2 _|exact S7 _|refine And.intro ?_ ?_),⟨⟨rfl,λ_ _=>rfl⟩,trivial⟩,trivial⟩,(X6 b,4),⟨(by repeat' first|exact trivial|exact rfl|exact Z2 _ _|exact S5 _|exact U5|exact U0 _|exact V2 _|exact S7 _|refine And.intro ?_ ?_),⟨⟨rfl,λ_ _=>rfl⟩,trivial⟩,trivial⟩,(X6 b,5),⟨(by repeat' first|exact trivial|exact rfl|exact Z2 _ _|exact S5 _|exact U5|exact U0 _|exact V2 _|exact S7 _|refine And.intro ?_ ?_),⟨⟨rfl,λ_ _=>rfl⟩,trivial⟩,trivial⟩,(X6 b,6),⟨(by repeat' first|exact trivial|exact rfl|exact Z2 _ _|exact S5 _|exact U5|exact U0 _|exact V2 _|exact S7 _|refine And.intro ?_ ?_),⟨⟨rfl,λ_ _=>rfl⟩,trivial⟩,trivial⟩,(X6 b,7),⟨(by repeat' first|exact trivial|exact rfl|exact Z2 _ _|exact S5 _|exact U5|exact U0 _|exact V2 _|exact S7 _|refine And.intro ?_ ?_),⟨⟨rfl,λ_ _=>rfl⟩,trivial⟩,trivial⟩,(X6 b,8),⟨(by repeat' first|exact trivial|exact rfl|exact Z2 _ _|exact S5 _|exact U5|exact U0 _|exact V2 _|exact S7 _|refine And.intro ?_ ?_),⟨⟨rfl,λ_ _=>rfl⟩,trivial⟩,trivial⟩,λhc=> ?_,λhc=> ?_⟩⟩⟩
 ·rw[b6q (by simpa using h)]
  exact(by repeat' first|exact trivial|exact rfl|exact Z2 _ _|exact S5 _|exact U5|exact U0 _|exact V2 _|exact S7 _|refine And.intro ?_ ?_)
 ·rw[a89 (by simpa using h) hc]
  exact(by repeat' first|exact trivial|exact rfl|exact Z2 _ _|exact S5 _|exact U5|exact U0 _|exact V2 _|exact S7 _|refine And.intro ?_ ?_)
 ·have hu:T4 b=true:=by simpa using h
  have hc:A8 (X6 b)=false:=hc;have h2:(rcE (X6 b)).out.length=2:=by
   unfold A8 at hc;simp only[uL,bne_eq_false_iff_eq] at hc;omega
  refine⟨⟨by omega,by show(0:Int)<((rcE (X6 b)).out.length:Int);omega⟩,⟨by omega,by show(1:Int)<((rcE (X6 b)).out.length:Int);omega⟩,by have:=b0L (dr (X6 b) 9) (yJ (X6 b) 9) (numR (dr (X6 b) 9)).toNat 1;unfold a7p;show((L0 (dr (X6 b) 9) (yJ (X6 b) 9) (numR (dr (X6 b) 9)).toNat).out.getD 1 []).length<_;omega,λhr=> ?_,λhr=> ?_⟩
  ·have hr:(!R2 (cP (X6 b)))=true:=by
    unfold cP rcE;dsimp only[Nat.reduceAdd] at hr ⊢;exact hr
   have hr:R2 (cP (X6 b))=false:=by rw[wD] at hr;exact hr
   rw[b2V hu hc hr];exact(by repeat' first|exact trivial|exact rfl|exact Z2 _ _|exact S5 _|exact U5|exact U0 _|exact V2 _|exact S7 _|refine And.intro ?_ ?_)
  ·have hr:(!R2 (cP (X6 b)))=false:=by
    unfold cP rcE;dsimp only[Nat.reduceAdd] at hr ⊢;exact hr
   have hr:R2 (cP (X6 b))=true:=by rw[xO] at hr;exact hr
   rw[a1E hu hc hr];unfold cP rcE;dsimp only[Nat.reduceAdd];exact⟨⟨rfl,rfl,rfl,rfl,rfl,rfl,rfl,rfl,rfl,Z9⟩,Z9⟩
noncomputable def lgR(d:Dsk)(i:Nat):Rec×Int:=T0 (S9 d (9+i))
noncomputable def lgE(d:Dsk)(i:Nat):Int:=if i=0 then 1 else(lgR d (i-1)).1.e
noncomputable def eT(d:Dsk)(ep:Int)(i:Nat):Bool:=((lgR d i).2 !=0||(lgR d i).1.l !=(i:Int)+1|| !W2 (lgR d i).1.e (lgE d i) ep)
noncomputable def v7(d:Dsk)(m:Nat):List Rec:=(List.range m).map λi=>(lgR d i).1
noncomputable def vR(d:Dsk)(ep:Int):Nat:=if M3 (d.sec.length-9) (eT d ep)= -1 then d.sec.length-9 else(M3 (d.sec.length-9) (eT d ep)).toNat
def LgS(x:Dsk×Int):Prop:=C5 x.1
noncomputable def a6D(d:Dsk)(ep:Int):Nat->Ann
 |0=>.one (V4 (d.sec.length-9) (eT d ep)) (λx=>⟨[(1,.int .i64 ep),(2,.ref 0 0 0),(5,.osl 1 0 x.1),(6,.int .i64 (lgE d x.1)),(7,.int .i64 (9+x.1:Nat))],[lD d,v6 (v7 d x.1)]⟩) (λx=>d.sec.length-x.1) [.box 0,.arr 1] [.box 0,.arr 3] (λ_=>Z0)
 |_=>.none
noncomputable def a8G:Con:=.rmk ⟨Dsk×Int,λx=>[.agg x.1.ts,.int .i64 x.2],λ_=>[],λx=>.osl 0 0 (vR x.1 x.2),λx=>[v6 (v7 x.1 (vR x.1 x.2))],LgS⟩
theorem l6(d:Dsk)(m:Nat):(v7 d m).length=m:=by unfold v7;simp
theorem b7J(d:Dsk){m i:Nat}(h:i<m):(v7 d m).getD i default=(lgR d i).1:=by
 unfold v7;rw[L5,sH,List.getElem?_range h]
 rfl
theorem a0S(d:Dsk)(m:Nat):v7 d (m+1)=v7 d m++[(lgR d m).1]:=by
 unfold v7;rw[List.range_succ,List.map_append];rfl
theorem b0b{d:Dsk}{ep:Int}{m:Nat}(hm:m<d.sec.length-9)(h:eT d ep m=true)(hp:∀i,i<m->eT d ep i=false):vR d ep=m:=by
 unfold vR;rw[H7 hm h hp,if_neg (by omega),u9]
theorem a42{d:Dsk}{ep:Int}{m:Nat}(hm:m=d.sec.length-9)(hp:∀i,i<m->eT d ep i=false):vR d ep=m:=by
 unfold vR;rw[F4 (λi hi=>hp i (by omega)),if_pos rfl,hm]
theorem a1Q:GK 182 a8G:=gk Tryz.func182<|by
 rintro⟨d,ep⟩ (hd:C5 d);have hd':=hd;obtain⟨q1,q2,q3,q4,_⟩:=hd';refine⟨C4 (gC wS (gC mM (gC kB (gC O5 gN)))) Tryz.func182 (a6D d ep) [[.arr 1]] (α:=(∃(x:V4 (d.sec.length-9) (eT d ep)),(ep=ep/\(0=0/\0=0)/\(0=0/\0=x.val)/\(1:Int)=lgE d x.val/\(9:Int)=(↑(9+x.val):Int)/\True)/\(1=1/\1=1/\k4 d d)/\(0=(v7 d x.val).length/\Z6 0 (λ(k:Nat)=>List.take 10 (List.drop (k*10) [])) (Y7 (v7 d x.val)))/\True)/\∀(x:V4 (d.sec.length-9) (eT d ep)),(decide ((↑(9+x.val):Int)<(d.sec.length:Int))=true->∃(x_1:tA.ι),(((k4 d x_1.1)/\(↑(9+x.val):Int)=(x_1.2:Int)/\True)/\AtB x_1)/\Lt (S9 x_1.1 x_1.2).length 140737488355329/\∃(x_2:(List UInt8)),((S9 x_1.1 x_1.2=x_2/\True)/\RdB x_2)/\(((T0 x_2).2 !=(0:Int))=false->X4 .i64 ((x.val:Int)+(1:Int)))/\(((T0 x_2).2 !=(0:Int)||(T0 x_2).1.l !=(x.val:Int)+(1:Int)|| !W2 (T0 x_2).1.e (lgE d x.val) ep)=true->((0=0/\x.val=vR d ep)/\True)/\(Y5 Y7 (v7 d x.val) (v7 d (vR d ep)))/\True)/\(((T0 x_2).2 !=(0:Int)||(T0 x_2).1.l !=(x.val:Int)+(1:Int)|| !W2 (T0 x_2).1.e (lgE d x.val) ep)=false->(Le x.val (v7 d x.val).length/\V6 x.val 1 96)/\X4 .i64 ((↑(9+x.val):Int)+(1:Int))/\∃(y:V4 (d.sec.length-9) (eT d ep)),((ep=ep/\(0=0/\0=0)/\(0=0/\x.val+1=y.val)/\(T0 x_2).1.e=lgE d y.val/\(↑(9+x.val):Int)+(1:Int)=(↑(9+y.val):Int)/\True)/\(1=1/\1=1/\k4 d d)/\(x.val+1=(v7 d y.val).length/\Z6 (x.val+1) (W6 (Y7 (v7 d x.val)) x.val λ(k:Nat)=>List.take 10 (List.drop (k*10) [T.int .i64 (T0 x_2).1.e,T.int .i64 (T0 x_2).1.l,T.int .i64 (T0 x_2).1.t,T.int .i64 (T0 x_2).1.k,T.int .i64 (T0 x_2).1.p,T.int .i64 (T0 x_2).1.n,T.int .i64 (T0 x_2).1.g,T.int .i64 (T0 x_2).1.s,T.str (T0 x_2).1.b,T.str (T0 x_2).1.a])) (Y7 (v7 d y.val)))/\True)/\Lt (d.sec.length-y.val) (d.sec.length-x.val)))/\(decide ((↑(9+x.val):Int)<(d.sec.length:Int))=false->((0=0/\x.val=vR d ep)/\True)/\(Y5 Y7 (v7 d x.val) (v7 d (vR d ep)))/\True)) ⟨⟨D5,⟨rfl,Z7,Z7,rfl,Z9⟩,⟨rfl,rfl,xN _⟩,⟨(l6 d 0).symm,U5⟩,trivial⟩,λx=>⟨λhc=> ?_,λhc=> ?_⟩⟩,rfl,uN _⟩
 ·have hc:9+x.val<d.sec.length:=by have:=F3 hc;omega
  have hle:=rL hd hc;have hx:=l6 d x.val;refine⟨(d,9+x.val),⟨⟨xN _,Z9⟩,hc,by dsimp only;omega⟩,by unfold Lt;dsimp only;omega,S9 d (9+x.val),⟨⟨rfl,trivial⟩,by show(S9 d (9+x.val)).length<=1000;omega⟩,λ_=>Z4 (by omega),λhb=> ?_,λhb=> ?_⟩
  ·have hb:eT d ep x.val=true:=hb;rw[b0b (by omega) hb x.2.2]
   exact⟨T2,X8⟩
  ·have hb:eT d ep x.val=false:=hb;refine⟨⟨by rw[hx];exact V2 _,by unfold V6;omega⟩,Z4 (by omega),x.succ (by omega) hb,⟨⟨rfl,Z7,Z7,?_,by dsimp only[V4.succ];omega,trivial⟩,⟨rfl,rfl,xN _⟩,⟨(l6 d (x.val+1)).symm,?_⟩,trivial⟩,by unfold Lt;dsimp only[V4.succ];omega⟩
   ·dsimp only[V4.succ];unfold lgE;rw[if_neg (by omega)]
    rfl
   ·show Z6 _ _ (Y7 (v7 d (x.val+1)));rw[a0S];have:=oN (v7 d x.val) (lgR d x.val).1;rw[hx] at this;exact this
 ·have hx:x.val=d.sec.length-9:=by have:=x.2.1;have:=yQ hc;omega
  rw[a42 hx x.2.2];exact⟨T2,X8⟩
end Go.Proofs.YtokaojbaacnngaaGreat

namespace Go.Proofs.YtokaojbaacnngaaGreat
set_option maxRecDepth 100000
open Go.SS

theorem b78{r:List UInt8}(hr:0<r.length):(∃out,S3 r=some out/\out.length=2/\V1 r false=⟨[],false,out⟩)∨((∀out,S3 r=some out->out.length≠2)/\(!(!(V1 r false).fl&&(V1 r false).l.isEmpty)||(((V1 r false).out.length:Nat):Int) !=2)=true):=by
 have hfs:=a9a r hr (J4 r);have hcn:(numR r).toNat=J4 r:=by unfold numR J4;exact u9 _
 have hend:V1 r false=L0 r false (J4 r):=by unfold V1;rw[hcn]
 have hall:S3 r=if J4 r>100 then none else match zZ r (J4 r) with
   |some (p,out)=>if p=r.length then some out else none
   |none=>none:=by
  unfold S3;by_cases hc:J4 r>100
  ·rw[if_pos (.inr hc),if_pos hc]
  ·rw[if_neg (by omega),if_neg hc]
   rfl
 rw[hend];cases hf:zZ r (J4 r) with
 |none=>
  rw[hf] at hfs hall;simp only at hfs;have hall:S3 r=none:=by rw[hall];split<;>rfl
  refine .inr ⟨λout h=>(by rw[hall] at h;cases h),?_⟩
  rw[hfs];rfl
 |some y=>
  obtain⟨p,out⟩:=y;rw[hf] at hfs hall;simp only at hfs hall;obtain⟨hfs,hpl⟩:=hfs;rw[hfs];have ho:out.length=J4 r:=lR hf;by_cases hp:p=r.length
  ·have hem:r.drop p=[]:=by rw[List.drop_eq_nil_iff];omega
   rw[if_pos hp] at hall;by_cases h2:out.length=2
   ·rw[if_neg (by omega)] at hall
    exact .inl ⟨out,hall,h2,by rw[hem]⟩
   ·refine .inr ⟨λo h=> ?_,?_⟩
    ·rw[hall] at h;split at h
     ·cases h
     ·cases h;exact h2
    ·simp only[bne_iff_ne.2 (show((out.length:Nat):Int)≠2 by omega),Bool.or_true]
  ·have hem:(r.drop p).isEmpty=false:=by
    rw[Bool.eq_false_iff,ne_eq,List.isEmpty_iff,List.drop_eq_nil_iff];omega
   have hall:S3 r=none:=by rw[hall,if_neg hp];split<;>rfl
   refine .inr ⟨λout h=>(by rw[hall] at h;cases h),?_⟩
   simp[hem]
theorem sE(x:List UInt8):∀i,dr x i=x.drop i
 |0=>rfl
 |i+1=>by
  show(dr x i).drop 1=_;rw[sE x i,List.drop_drop]
theorem dF(x:List UInt8):∀i,yJ x i=decide (x.length<i)
 |0=>rfl
 |i+1=>by
  show(yJ x i||(dr x i).isEmpty)=_;rw[dF x i,sE,Bool.eq_iff_iff,oQ,o9,List.isEmpty_iff,List.drop_eq_nil_iff,o9];omega
theorem a6U{x:List UInt8}(h:x.length<10):A8 x=true:=by
 have hf:(rcE x).fl=true:=by
  unfold rcE;rw[sE,dF];by_cases h9:x.length=9
  ·rw[List.drop_eq_nil_iff.2 (by omega)]
   exact a1R _ _
  ·rw[iZ (by omega)]
   exact fE _ _
 unfold A8;rw[hf];rfl
noncomputable def d5(t:List UInt8):{r:List UInt8×Bool//r=(X6 t,T4 t)}:=Classical.choice ⟨⟨_,rfl⟩⟩
noncomputable def gX:Con:=.rel ⟨List UInt8,λt=>[.str t],λt=>.tup [.str (d5 t).1.1,.bool (d5 t).1.2],J1⟩
theorem kD:GK 230 gX:=gk Tryz.func230<|by
 intro(t:List UInt8) ht;have h:=sC.1 t ht;have e1:(d5 t).1.1=X6 t:=by rw[(d5 t).2]
 have e2:(d5 t).1.2=T4 t:=by rw[(d5 t).2]
 show U6 _ _ _ (.tup [.str (d5 t).1.1,.bool (d5 t).1.2]);rw[e1,e2];exact h
noncomputable def nW(t:List UInt8):{r:List (List UInt8)×Bool//r=((S3 t).getD [],(S3 t).isSome)}:=Classical.choice ⟨⟨_,rfl⟩⟩
noncomputable def a3v:Con:=.rel ⟨List UInt8,λt=>[.str t],λt=>.tup [C0 (nW t).1.1,.bool (nW t).1.2],J1⟩
theorem a1e:GK 231 a3v:=gk Tryz.func231<|by
 intro(t:List UInt8) ht;have h:=lK.1 t ht;have e1:(nW t).1.1=(S3 t).getD []:=by rw[(nW t).2]
 have e2:(nW t).1.2=(S3 t).isSome:=by rw[(nW t).2]
 show U6 _ _ _ (.tup [C0 (nW t).1.1,.bool (nW t).1.2]);rw[e1,e2];exact h
noncomputable def l4p(t:List UInt8):{r:Rec×Bool//r=(if T4 t=true/\A8 (X6 t)=false then cP (X6 t) else gD,(T0 t).2==0)}:=Classical.choice ⟨⟨_,rfl⟩⟩
noncomputable def F7(t:List UInt8):Rec:=(l4p t).1.1
noncomputable def cO(t:List UInt8):Bool:=(l4p t).1.2
theorem b2T(t:List UInt8):F7 t=if T4 t=true/\A8 (X6 t)=false then cP (X6 t) else gD:=by unfold F7;rw[(l4p t).2]
theorem a1D(t:List UInt8):cO t=((T0 t).2==0):=by unfold cO;rw[(l4p t).2]
noncomputable def a7g:Con:=.rel ⟨List UInt8,λt=>[.str t],λt=>.tup [.agg (F7 t).ts,.bool (cO t)],RdB⟩
theorem a9K{x:List UInt8}(h:10<=x.length):rcE x=V1 (x.drop 9) false:=by
 unfold rcE;rw[sE,dF,uK (by omega)]
theorem b8t(x:List UInt8)(i:Nat):IntKind.i64.wrap ((x.getD i 0).toNat:Int)=numR (dr x i):=by
 rw[qE,sE];unfold numR;rw[L5,L5,List.getElem?_drop,Nat.add_zero]
theorem b04{t:List UInt8}(h:¬ (T4 t=true/\A8 (X6 t)=false)):F7 t=gD/\cO t=false:=by
 rw[b2T,a1D,if_neg h];refine⟨rfl,?_⟩
 cases hu:T4 t with
 |false=>rw[b6q hu];rfl
 |true=>
  cases hb:A8 (X6 t) with
  |true=>rw[a89 hu hb];rfl
  |false=>exact absurd ⟨hu,hb⟩ h
theorem a2r{t:List UInt8}(hu:T4 t=true)(hb:A8 (X6 t)=false):F7 t=cP (X6 t)/\cO t=R2 (cP (X6 t)):=by
 rw[b2T,a1D,if_pos ⟨hu,hb⟩];refine⟨rfl,?_⟩
 cases hr:R2 (cP (X6 t)) with
 |true=>rw[a1E hu hb hr];rfl
 |false=>rw[b2V hu hb hr];rfl
theorem b6O(t:List UInt8):(X6 t).length<=t.length:=by
 unfold X6;split
 ·rw[List.length_take];omega
 ·exact S7 _
theorem a25:GK 180 a7g:=gk Tryz.func180<|by
 intro(t:List UInt8) (hb:t.length<=1000);have hx:=b6O t;have e1:(d5 t).1.1=X6 t:=by rw[(d5 t).2]
 have e2:(d5 t).1.2=T4 t:=by rw[(d5 t).2]
 have hz:∀{p:Bool},(¬ (T4 t=true/\A8 (X6 t)=false))->((0:Int)=(F7 t).e/\(0:Int)=(F7 t).l/\(0:Int)=(F7 t).t/\(0:Int)=(F7 t).k/\(0:Int)=(F7 t).p/\(0:Int)=(F7 t).n/\(0:Int)=(F7 t).g/\(0:Int)=(F7 t).s/\[]=(F7 t).b/\[]=(F7 t).a/\True)/\false=cO t/\True:=λh=>by
  rw[(b04 h).1,(b04 h).2];exact⟨⟨rfl,rfl,rfl,rfl,rfl,rfl,rfl,rfl,rfl,Z9⟩,Z9⟩
 refine S6 (gC kD (gC a1e (gC rJ gN))) Tryz.func180 Z0 (α:=∃(x:(List UInt8)),((t=x/\True)/\J1 x)/\((!(d5 x).val.snd||decide ((↑(d5 x).val.fst.length:Int)<(10:Int)))=false->W4 (0:Int) (d5 x).val.fst.length)/\((!(d5 x).val.snd||decide ((↑(d5 x).val.fst.length:Int)<(10:Int))||(↑((d5 x).val.fst.getD 0 (0:UInt8)).toNat:Int) !=(108:Int))=true->((0:Int)=(F7 t).e/\(0:Int)=(F7 t).l/\(0:Int)=(F7 t).t/\(0:Int)=(F7 t).k/\(0:Int)=(F7 t).p/\(0:Int)=(F7 t).n/\(0:Int)=(F7 t).g/\(0:Int)=(F7 t).s/\[]=(F7 t).b/\[]=(F7 t).a/\True)/\false=cO t/\True)/\((!(d5 x).val.snd||decide ((↑(d5 x).val.fst.length:Int)<(10:Int))||(↑((d5 x).val.fst.getD 0 (0:UInt8)).toNat:Int) !=(108:Int))=false->InC (9:Int) (d5 x).val.fst.length/\∃(x_1:(List UInt8)),((List.drop 9 (d5 x).val.fst=x_1/\True)/\J1 x_1)/\((!(nW x_1).val.snd||(↑(nW x_1).val.fst.length:Int) !=(2:Int))=true->((0:Int)=(F7 t).e/\(0:Int)=(F7 t).l/\(0:Int)=(F7 t).t/\(0:Int)=(F7 t).k/\(0:Int)=(F7 t).p/\(0:Int)=(F7 t).n/\(0:Int)=(F7 t).g/\(0:Int)=(F7 t).s/\[]=(F7 t).b/\[]=(F7 t).a/\True)/\false=cO t/\True)/\((!(nW x_1).val.snd||(↑(nW x_1).val.fst.length:Int) !=(2:Int))=false->W4 (1:Int) (d5 x).val.fst.length/\W4 (2:Int) (d5 x).val.fst.length/\W4 (3:Int) (d5 x).val.fst.length/\W4 (4:Int) (d5 x).val.fst.length/\W4 (5:Int) (d5 x).val.fst.length/\W4 (6:Int) (d5 x).val.fst.length/\W4 (7:Int) (d5 x).val.fst.length/\W4 (8:Int) (d5 x).val.fst.length/\W4 (0:Int) (nW x_1).val.fst.length/\W4 (1:Int) (nW x_1).val.fst.length/\M7 ((nW x_1).val.fst.getD 1 []).length/\(IntKind.i64.wrap (↑((d5 x).val.fst.getD 1 (0:UInt8)).toNat:Int)=(F7 t).e/\IntKind.i64.wrap (↑((d5 x).val.fst.getD 2 (0:UInt8)).toNat:Int)=(F7 t).l/\IntKind.i64.wrap (↑((d5 x).val.fst.getD 3 (0:UInt8)).toNat:Int)=(F7 t).t/\IntKind.i64.wrap (↑((d5 x).val.fst.getD 4 (0:UInt8)).toNat:Int)=(F7 t).k/\IntKind.i64.wrap (↑((d5 x).val.fst.getD 5 (0:UInt8)).toNat:Int)=(F7 t).p/\IntKind.i64.wrap (↑((d5 x).val.fst.getD 6 (0:UInt8)).toNat:Int)=(F7 t).n/\IntKind.i64.wrap (↑((d5 x).val.fst.getD 7 (0:UInt8)).toNat:Int)=(F7 t).g/\IntKind.i64.wrap (↑((d5 x).val.fst.getD 8 (0:UInt8)).toNat:Int)=(F7 t).s/\(nW x_1).val.fst.getD 0 []=(F7 t).b/\(nW x_1).val.fst.getD 1 []=(F7 t).a/\True)/\R2 (Rec.mk (IntKind.i64.wrap (↑((d5 x).val.fst.getD 1 (0:UInt8)).toNat:Int)) (IntKind.i64.wrap (↑((d5 x).val.fst.getD 2 (0:UInt8)).toNat:Int)) (IntKind.i64.wrap (↑((d5 x).val.fst.getD 3 (0:UInt8)).toNat:Int)) (IntKind.i64.wrap (↑((d5 x).val.fst.getD 4 (0:UInt8)).toNat:Int)) (IntKind.i64.wrap (↑((d5 x).val.fst.getD 5 (0:UInt8)).toNat:Int)) (IntKind.i64.wrap (↑((d5 x).val.fst.getD 6 (0:UInt8)).toNat:Int)) (IntKind.i64.wrap (↑((d5 x).val.fst.getD 7 (0:UInt8)).toNat:Int)) (IntKind.i64.wrap (↑((d5 x).val.fst.getD 8 (0:UInt8)).toNat:Int)) ((nW x_1).val.fst.getD 0 []) ((nW x_1).val.fst.getD 1 []))=cO t/\True))) ⟨t,⟨Z9,by unfold J1;omega⟩,?_⟩
 rw[e1,e2];refine⟨λh=> ?_,λh=>hz (p:=true) λhq=> ?_,λh=> ?_⟩
 ·simp only[uL,tW] at h;exact⟨by omega,by omega⟩
 ·obtain⟨hu,hr⟩:=hq;have hl:10<=(X6 t).length:=by
   by_cases hl:(X6 t).length<10
   ·rw[a6U hl] at hr;cases hr
   ·omega
  have h108:numR (X6 t)=108:=by
   unfold A8 at hr;simp only[uL,bne_eq_false_iff_eq] at hr;exact hr.1.2
  have h108:(((X6 t).getD 0 0).toNat:Int)=108:=h108;rw[hu,h108,uK (by omega)] at h
  cases h
 ·simp only[uL,tW,xO,bne_eq_false_iff_eq] at h;obtain⟨⟨hu,hl⟩,h108⟩:=h;have hl:10<=(X6 t).length:=by omega
  have hn:numR (X6 t)=108:=h108;have f1:(nW ((X6 t).drop 9)).1.1=(S3 ((X6 t).drop 9)).getD []:=by rw[(nW _).2]
  have f2:(nW ((X6 t).drop 9)).1.2=(S3 ((X6 t).drop 9)).isSome:=by rw[(nW _).2]
  have hd:((X6 t).drop 9).length=(X6 t).length-9:=List.length_drop;refine⟨⟨by omega,by omega⟩,(X6 t).drop 9,⟨Z9,by unfold J1;omega⟩,?_⟩
  rw[f1,f2];have hbad:A8 (X6 t)=(!(!(V1 ((X6 t).drop 9) false).fl&&(V1 ((X6 t).drop 9) false).l.isEmpty)||(((V1 ((X6 t).drop 9) false).out.length:Nat):Int) !=2):=by
   unfold A8;rw[a9K hl,hn];simp
  rcases b78 (r:=(X6 t).drop 9) (by omega) with⟨out,ha,h2,hf⟩|⟨ha,hf⟩
  ·have hg:A8 (X6 t)=false:=by rw[hbad,hf,h2];rfl
   have hout:(rcE (X6 t)).out=out:=by rw[a9K hl,hf]
   have hle:=b0L (dr (X6 t) 9) (yJ (X6 t) 9) (numR (dr (X6 t) 9)).toNat 1;have hle:(out.getD 1 []).length<=255:=by rw[←hout];exact hle
   rw[ha];refine⟨λhc=> ?_,λ_=> ?_⟩
   ·simp[h2] at hc
   ·simp only[b8t];rw[(a2r hu hg).1,(a2r hu hg).2];unfold cP;rw[hout];show _/\_/\_/\_/\_/\_/\_/\_/\W4 0 out.length/\W4 1 out.length/\_;exact⟨⟨by omega,by omega⟩,⟨by omega,by omega⟩,⟨by omega,by omega⟩,⟨by omega,by omega⟩,⟨by omega,by omega⟩,⟨by omega,by omega⟩,⟨by omega,by omega⟩,⟨by omega,by omega⟩,⟨by omega,by omega⟩,⟨by omega,by omega⟩,by show(out.getD 1 []).length<_;omega,⟨rfl,rfl,rfl,rfl,rfl,rfl,rfl,rfl,rfl,rfl,trivial⟩,rfl,trivial⟩
  ·have hg:A8 (X6 t)=true:=by rw[hbad];exact hf
   refine⟨λ_=>hz (p:=true) λhq=>(by rw[hg] at hq;cases hq.2),λhc=> ?_⟩
   cases hs:S3 ((X6 t).drop 9) with
   |none=>rw[hs] at hc;simp at hc
   |some out=>
    rw[hs] at hc;have:=ha out hs;simp at hc;omega
noncomputable def b08:Con:=.rel ⟨Dsk×Int,λx=>[.agg x.1.ts,.int .i64 x.2],λx=>o5 (v7 x.1 (vR x.1 x.2)),λx=>C5 x.1/\x.1.sec.length=69⟩
noncomputable def a84(d:Dsk)(ep:Int):Nat->Ann
 |0=>.one (V4 (d.sec.length-9) (eT d ep)) (λx=>⟨[(1,.int .i64 ep),(2,.ref 0 0 0),(5,.osl 1 0 x.1),(6,.int .i64 (x.1+1:Nat))],[lD d,v6 (v7 d x.1)]⟩) (λx=>d.sec.length-x.1) [.box 0,.arr 1] [.box 0,.at_ 5] (λ_=>Z0)
 |_=>.none
theorem b9v{t:List UInt8}(h:cO t=true):T0 t=(F7 t,0)/\R2 (F7 t)=true:=by
 by_cases hq:T4 t=true/\A8 (X6 t)=false
 ·obtain⟨h1,h2⟩:=a2r hq.1 hq.2;rw[h2] at h;rw[h1];exact⟨a1E hq.1 hq.2 h,h⟩
 ·rw[(b04 hq).2] at h;cases h
theorem b8X{r:Rec}(h:R2 r=true):1<=r.e:=by
 have:=(Q9 r).1 h;unfold zT at this;exact this.1
theorem a5u{d:Dsk}{ep:Int}{x:Nat}:(!cO (S9 d (9+x))||(F7 (S9 d (9+x))).l !=((x+1:Nat):Int)||decide ((F7 (S9 d (9+x))).e>ep)||decide (((x+1:Nat):Int)>1)&&decide (((v7 d x).getD (0+(((x+1:Nat):Int)-2).toNat) default).e>(F7 (S9 d (9+x))).e))=eT d ep x:=by
 cases hk:cO (S9 d (9+x)) with
 |false=>
  have h0:((lgR d x).2==0)=false:=by rw[←hk,a1D];rfl
  unfold eT bne;rw[h0];rfl
 |true=>
  obtain⟨hr,ho⟩:=b9v hk;have he:=b8X ho;have hr:lgR d x=(F7 (S9 d (9+x)),0):=hr;unfold eT;rw[hr];by_cases hx:x=0
  ·subst hx;have h1:lgE d 0=1:=by unfold lgE;rw[if_pos rfl]
   rw[h1];simp only[Bool.not_true,Bool.false_or,bne_self_eq_false];rw[Bool.eq_iff_iff];simp only[oQ,J6,wD,←Bool.not_eq_true,bne_iff_ne,o9,ne_eq,L9];omega
  ·have hl:(v7 d x).getD (0+(((x+1:Nat):Int)-2).toNat) default=(lgR d (x-1)).1:=by
    rw[show 0+(((x+1:Nat):Int)-2).toNat=x-1 by omega]
    exact b7J d (by omega)
   rw[hl];simp only[Bool.not_true,Bool.false_or,bne_self_eq_false];rw[Bool.eq_iff_iff];simp only[lgE,if_neg hx,oQ,J6,wD,←Bool.not_eq_true,bne_iff_ne,o9,ne_eq,L9];omega
theorem a7Z:GK 112 b08:=gk Tryz.func112<|by
 rintro⟨d,ep⟩ ⟨hd,h69⟩;dsimp only at hd h69;refine S6 (gC lH (gC a25 (gC wS gN))) Tryz.func112 (a84 d ep) (α:=(∃(x:V4 (d.sec.length-9) (eT d ep)),(ep=ep/\(0=0/\0=0)/\(0=0/\0=x.val)/\(1:Int)=(↑(x.val+1):Int)/\True)/\(1=1/\1=1/\k4 d d)/\(0=(v7 d x.val).length/\Z6 0 (λ(k:Nat)=>List.take 10 (List.drop (k*10) [])) (Y7 (v7 d x.val)))/\True)/\∀(x:V4 (d.sec.length-9) (eT d ep)),(decide ((↑(x.val+1):Int)<=(60:Int))=true->X4 .i64 ((9:Int)+(↑(x.val+1):Int)))/\(decide ((↑(x.val+1):Int)<=(60:Int))=true->X4 .i64 ((9:Int)+(↑(x.val+1):Int)- (1:Int)))/\((decide ((↑(x.val+1):Int)<=(60:Int))&&decide ((9:Int)+(↑(x.val+1):Int)- (1:Int)<(d.sec.length:Int)))=true->X4 .i64 ((9:Int)+(↑(x.val+1):Int))/\X4 .i64 ((9:Int)+(↑(x.val+1):Int)- (1:Int))/\∃(x_1:tA.ι),(((k4 d x_1.1)/\(9:Int)+(↑(x.val+1):Int)- (1:Int)=(x_1.2:Int)/\True)/\AtB x_1)/\∃(x_2:(List UInt8)),((S9 x_1.1 x_1.2=x_2/\True)/\RdB x_2)/\((!cO x_2||(F7 x_2).l !=(↑(x.val+1):Int)||decide ((F7 x_2).e>ep))=false->decide ((↑(x.val+1):Int)>(1:Int))=true->X4 .i64 ((↑(x.val+1):Int)- (2:Int)))/\((!cO x_2||(F7 x_2).l !=(↑(x.val+1):Int)||decide ((F7 x_2).e>ep))=false->decide ((↑(x.val+1):Int)>(1:Int))=true->W4 ((↑(x.val+1):Int)- (2:Int)) x.val)/\((!cO x_2||(F7 x_2).l !=(↑(x.val+1):Int)||decide ((F7 x_2).e>ep))=false->decide ((↑(x.val+1):Int)>(1:Int))=true->Lt (0+((↑(x.val+1):Int)- (2:Int)).toNat) (v7 d x.val).length)/\((!cO x_2||(F7 x_2).l !=(↑(x.val+1):Int)||decide ((F7 x_2).e>ep)||decide ((↑(x.val+1):Int)>(1:Int))&&decide (((v7 d x.val).getD (0+((↑(x.val+1):Int)- (2:Int)).toNat) default).e>(F7 x_2).e))=true->Le (0+x.val) (v7 d x.val).length/\x.val=(v7 d (vR d ep)).length/\Z6 x.val (Y7 (v7 d x.val)) (Y7 (v7 d (vR d ep))))/\((!cO x_2||(F7 x_2).l !=(↑(x.val+1):Int)||decide ((F7 x_2).e>ep)||decide ((↑(x.val+1):Int)>(1:Int))&&decide (((v7 d x.val).getD (0+((↑(x.val+1):Int)- (2:Int)).toNat) default).e>(F7 x_2).e))=false->(Le x.val (v7 d x.val).length/\V6 x.val 1 96)/\X4 .i64 ((↑(x.val+1):Int)+(1:Int))/\∃(y:V4 (d.sec.length-9) (eT d ep)),((ep=ep/\(0=0/\0=0)/\(0=0/\x.val+1=y.val)/\(↑(x.val+1):Int)+(1:Int)=(↑(y.val+1):Int)/\True)/\(1=1/\1=1/\k4 d d)/\(x.val+1=(v7 d y.val).length/\Z6 (x.val+1) (W6 (Y7 (v7 d x.val)) x.val λ(k:Nat)=>List.take 10 (List.drop (k*10) [T.int .i64 (F7 x_2).e,T.int .i64 (F7 x_2).l,T.int .i64 (F7 x_2).t,T.int .i64 (F7 x_2).k,T.int .i64 (F7 x_2).p,T.int .i64 (F7 x_2).n,T.int .i64 (F7 x_2).g,T.int .i64 (F7 x_2).s,T.str (F7 x_2).b,T.str (F7 x_2).a])) (Y7 (v7 d y.val)))/\True)/\Lt (d.sec.length-y.val) (d.sec.length-x.val)))/\((decide ((↑(x.val+1):Int)<=(60:Int))&&decide ((9:Int)+(↑(x.val+1):Int)- (1:Int)<(d.sec.length:Int)))=false->Le (0+x.val) (v7 d x.val).length/\x.val=(v7 d (vR d ep)).length/\Z6 x.val (Y7 (v7 d x.val)) (Y7 (v7 d (vR d ep))))) ⟨⟨D5,⟨rfl,Z7,Z7,Z9⟩,⟨rfl,rfl,xN _⟩,⟨(l6 d 0).symm,U5⟩,trivial⟩,λx=> ?_⟩
 have hxl:=x.2.1;have hcc:=hd.2.2.1;have hx:=l6 d x.val;refine⟨λ_=>Z4 (by omega),λ_=>Z4 (by omega),λhc=> ?_,λhc=> ?_⟩
 ·have hc:9+x.val<d.sec.length:=by
   simp only[J6,o9] at hc;omega
  have hle:=rL hd hc;refine⟨Z4 (by omega),Z4 (by omega),(d,9+x.val),⟨⟨xN _,by dsimp only;omega,trivial⟩,hc,by dsimp only;omega⟩,S9 d (9+x.val),⟨⟨rfl,trivial⟩,by show(S9 d (9+x.val)).length<=1000;omega⟩,λ_ h=>Z4 (by omega),λ_ h=> ?_,λ_ h=> ?_,?_⟩
  ·have:=F3 h;exact⟨by omega,by omega⟩
  ·have:=F3 h;unfold Lt;omega
  rw[a5u (d:=d) (ep:=ep)];refine⟨λhb=> ?_,λhb=> ?_⟩
  ·rw[b0b (by omega) hb x.2.2]
   exact⟨by unfold Le;omega,hx.symm,Z2 _ _⟩
  ·refine⟨⟨by unfold Le;omega,by unfold V6;omega⟩,Z4 (by omega),x.succ (by omega) hb,⟨⟨rfl,Z7,Z7,by dsimp only[V4.succ];omega,trivial⟩,⟨rfl,rfl,xN _⟩,⟨(l6 d (x.val+1)).symm,?_⟩,trivial⟩,by unfold Lt;dsimp only[V4.succ];omega⟩
   show Z6 _ _ (Y7 (v7 d (x.val+1)));have hs:=oN (v7 d x.val) (lgR d x.val).1;have hk:cO (S9 d (9+x.val))=true:=by
    rw[←a5u] at hb;simp only[uL,xO] at hb;exact hb.1.1.1
   have hr:(lgR d x.val).1=F7 (S9 d (9+x.val)):=by
    show(T0 (S9 d (9+x.val))).1=_;rw[(b9v hk).1]
   rw[a0S,hr];rw[hx,hr] at hs;exact hs
 ·have hq:x.val=d.sec.length-9:=by
   by_cases hn:x.val=d.sec.length-9
   ·exact hn
   ·rw[iZ (show((x.val+1:Nat):Int)<=60 by omega),iZ (show(9:Int)+((x.val+1:Nat):Int)-1<(d.sec.length:Int) by omega)] at hc
    cases hc
  rw[a42 hq x.2.2];exact⟨by unfold Le;omega,hx.symm,Z2 _ _⟩
end Go.Proofs.YtokaojbaacnngaaGreat

namespace Go.Proofs.YtokaojbaacnngaaGreat
set_option maxRecDepth 100000
open Go.SS

noncomputable def a61(e:Eng):Eng:=⟨⟨e.s.d,e.s.ep,v7 e.s.d (vR e.s.d e.s.ep),(vR e.s.d e.s.ep:Nat),[],0⟩,false,[],⟨[],[]⟩,e.next⟩
noncomputable def b7h:Con:=.reff ⟨Eng×Nat,λx=>[.ref 0 0 0],λx=>x.1.bx x.2,λ_=>.int .i64 15,λx=>(a61 x.1).nx 0,λx=>C5 x.1.s.d⟩
theorem b39:GK 114 b7h:=gk Tryz.func114<|by
 rintro⟨e,v⟩ (hd:C5 e.s.d);have hl:=(l6 e.s.d (vR e.s.d e.s.ep)).symm;exact C4 (gC a1Q gN) Tryz.func114 Z0 [[.nilC 0 7 0 5,.fac 0 7,.nilC 0 10 0 2,.nilC 0 11 0 4,.nilC 0 12 0 2,.box 0,.arr 1,.arr 2,.arr 3,.arr 4,.arr 5,.arr 6,.arr 7,.arr 8,.cel 0 0,.cel 0 1,.cel 0 3,.cel 0 5,.cel 0 7,.cel 0 10,.cel 0 11,.cel 0 12]] (α:=∃(x:(Dsk×Int)),((Le (0+e.s.d.sec.length) e.s.d.sec.length/\Le (0+e.s.d.cache.length) e.s.d.cache.length/\Le (0+e.s.d.keep.length) e.s.d.keep.length)/\((k4 e.s.d x.1)/\e.s.ep=x.2/\True)/\LgS x)/\((15:Int)=(15:Int)/\True)/\(1=1/\1=1/\(0=0/\e.s.d.sec.length=e.s.d.sec.length)/\(0=0/\e.s.d.cache.length=e.s.d.cache.length)/\e.s.d.armed=e.s.d.armed/\(0=0/\e.s.d.keep.length=e.s.d.keep.length)/\e.s.ep=e.s.ep/\(0=0/\vR x.1 x.2=(v7 e.s.d (vR e.s.d e.s.ep)).length)/\(↑(vR x.1 x.2):Int)=(↑(vR e.s.d e.s.ep):Int)/\(0=0/\0=0)/\(0:Int)=(0:Int)/\false=false/\(0=0/\0=0)/\(0=0/\0=0)/\(0=0/\0=0)/\e.next=e.next/\True)/\True/\True/\True/\True/\True/\True/\True/\True/\(Y5 Z5 e.s.d.sec e.s.d.sec)/\(Y5 Z3 e.s.d.cache e.s.d.cache)/\(Y5 Y9 e.s.d.keep e.s.d.keep)/\(Y5 Y7 (v7 x.1 (vR x.1 x.2)) (v7 e.s.d (vR e.s.d e.s.ep)))/\(0=0/\0=0/\U9 0 (λ(x:Nat)=>[]) (Y8 []))/\(0=0/\Z6 0 (λ(x:Nat)=>[]) (X0 []))/\(0=0/\Z6 0 (λ(x:Nat)=>[]) (X7 []))/\(0=0/\Z6 0 (λ(x:Nat)=>[]) (W8 []))/\True) ⟨(e.s.d,e.s.ep),⟨⟨U0 _,U0 _,U0 _⟩,⟨xN _,Z9⟩,hd⟩,Z9,⟨rfl,rfl,Z7,Z7,rfl,Z7,rfl,⟨rfl,hl⟩,rfl,Z7,rfl,rfl,Z7,Z7,Z7,Z9⟩,trivial,trivial,trivial,trivial,trivial,trivial,trivial,trivial,Z8,Z8,Z8,Z8,⟨rfl,rfl,λi hi=>absurd hi (F2 _)⟩,⟨rfl,U5⟩,⟨rfl,U5⟩,⟨rfl,U5⟩,trivial⟩
def sdE(e:Eng)(d:Dsk):Eng:={e with s:=e.s.sd d}
theorem b0w(sec:List (List UInt8))(C:List Pend)(Q:Nat->Bool)(h:∀i,i<sec.length->(sec.getD i []).length<=160)(hc:∀i,i<C.length->(C.getD i default).d.length<=160):∀n,n<=C.length->∀i,i<sec.length->((s6 sec C Q n).getD i []).length<=160
 |0,_,i,hi=>h i hi
 |n+1,hn,i,hi=>by
  unfold s6;have ih:=b0w sec C Q h hc n (by omega) i hi
  split
  ·by_cases hj:i=(C.getD n default).at_.toNat
   ·subst hj;rw[L5,j_k (by rw[H8];exact hi)]
    exact hc n (by omega)
   ·rw[L5,j_l (Ne.symm hj),←L5]
    exact ih
  ·exact ih
theorem a0r{m:Nat}{p:Pend}(h:R7 m p=false):0<=p.at_/\p.at_<m/\p.d.length<=160:=by
 unfold R7 at h;simp only[uL,xO,L9,tW] at h;omega
theorem dC{n:Nat}{p:Nat->Bool}(h:¬M3 n p<0):∃i,i<n/\p i=true/\(∀j,j<i->p j=false)/\M3 n p=(i:Int):=by
 cases ha:anyI n p with
 |false=>exact absurd (by rw[F4 (K2.1 ha)];omega) h
 |true=>
  obtain⟨i,hi,hp⟩:=O1.1 ha;have key:∀m,m<=n->(∀j,j<m->p j=false)∨∃i,i<n/\p i=true/\(∀j,j<i->p j=false):=by
   intro m;induction m with
   |zero=>intro _;exact .inl λj hj=>absurd hj (F2 j)
   |succ m ih=>
    intro hm;rcases ih (by omega) with h0|h0
    ·cases hq:p m with
     |true=>exact .inr ⟨m,hm,hq,h0⟩
     |false=>
      refine .inl λj hj=> ?_
      by_cases hjm:j=m
      ·rw[hjm];exact hq
      ·exact h0 j (by omega)
    ·exact .inr h0
  rcases key n (V2 n) with h0|⟨k,hk,hpk,hn⟩
  ·rw[h0 i hi] at hp;cases hp
  ·exact⟨k,hk,hpk,hn,H7 hk hpk hn⟩
theorem b7E(d:Dsk)(ep:Int):vR d ep<=d.sec.length-9:=by
 unfold vR;split
 ·exact V2 _
 ·rename_i h;by_cases hn:M3 (d.sec.length-9) (eT d ep)<0
  ·omega
  ·obtain⟨i,hi,_,_,e⟩:=dC hn;omega
noncomputable def a8m:Con:=.rel ⟨Eng×Dsk,λx=>[.agg x.1.ts,.agg x.2.ts],λx=>.agg (a61 (sdE x.1 x.2)).ts,λx=>C5 x.2/\x.2.sec.length=69⟩
theorem a1P:GK 55 a8m:=gk Tryz.func55<|by
 rintro⟨e,d⟩ ⟨h1,h2⟩;dsimp only at h1 h2;exact S6 (gC a7Z (gC wS (gC a5c gN))) Tryz.func55 Z0 (α:=∃(x:(Dsk×Int)),(((k4 d x.1)/\e.s.ep=x.2/\True)/\C5 x.1/\x.1.sec.length=69)/\(Y5 Z5 d.sec d.sec)/\(Y5 Z3 d.cache d.cache)/\d.armed=d.armed/\(Y5 Y9 d.keep d.keep)/\e.s.ep=e.s.ep/\(Y5 Y7 (v7 x.1 (vR x.1 x.2)) (v7 d (vR d e.s.ep)))/\(↑(v7 x.1 (vR x.1 x.2)).length:Int)=(↑(vR d e.s.ep):Int)/\0=0/\(0:Int)=(0:Int)/\false=false/\0=0/\0=0/\0=0/\e.next=e.next/\True) ⟨(d,e.s.ep),⟨⟨xN _,Z9⟩,h1,h2⟩,Z8,Z8,rfl,Z8,rfl,Z8,congrArg _ (l6 _ _),rfl,rfl,rfl,rfl,rfl,rfl,Z9⟩
end Go.Proofs.YtokaojbaacnngaaGreat

