/- A part of the proof. -/
import Derived.Test.YtokaojbaacnngaaGreatU1U2
import Derived.Test.YtokaojbaacnngaaGreatX11X11rX12X13X14
namespace Go.Proofs.YtokaojbaacnngaaGreat
set_option maxRecDepth 100000
open Go.SS

def dr(x:List UInt8):Nat->List UInt8
 |0=>x
 |i+1=>(dr x i).drop 1
def d6(x:List UInt8):Nat->Bool
 |0=>false
 |i+1=>d6 x i||(dr x i).isEmpty
def rcE(x:List UInt8):Fst:=U1 (dr x 9) (d6 x 9)
def rcX(x:List UInt8):Rec:=⟨numR (dr x 1),numR (dr x 2),numR (dr x 3),numR (dr x 4),numR (dr x 5),numR (dr x 6),numR (dr x 7),numR (dr x 8),(rcE x).out.getD 0 [],(rcE x).out.getD 1 []⟩
def E6(x:List UInt8):Bool:= !(!(rcE x).fl&&(rcE x).l.isEmpty)||numR x !=108||(((rcE x).out.length:Nat):Int) !=2
def a79:Rec:=⟨0,0,0,0,0,0,0,0,[],[]⟩
noncomputable def U3(b:List UInt8):Rec×Int:=if T8 b=true then
  if E6 (X5 b)=true then(a79,3) else if S2 (rcX (X5 b))=true then(rcX (X5 b),0) else(a79,3)
 else(a79,8)
def d5H:Con:=.reff ⟨List UInt8×Nat,fun _=>[.ref 0 0 0],fun x=>[rdr (dr x.1 x.2) (d6 x.1 x.2)],fun x=>.int .i64 (numR (dr x.1 x.2)),fun x=>[rdr (dr x.1 (x.2+1)) (d6 x.1 (x.2+1))],fun _=>True⟩
theorem b9e:Z8 Tryz.prog 268:=⟨_,Tryz.func268,by kernel_rfl,by kernel_rfl⟩
theorem d1U:Z2 Tryz.prog 268 d5H:=fun x _=>b56 _ _ _ _ none rfl trivial
noncomputable def a8G:Con:=.rel ⟨List UInt8,fun b=>[.bys b],fun b=>.tup [.agg (U3 b).1.ts,.int .i64 (U3 b).2],RdB⟩
noncomputable def a8X:Code:=Tryz.f232.body.getD .skip
theorem a3G:Z8 Tryz.prog 232:=⟨_,Tryz.func232,by kernel_rfl,by kernel_rfl⟩
theorem a7D(b:List UInt8)(h:
  (decide ((b.length:Int)>(65536:Int))=true->((0:Int)=(U3 b).fst.e/\(0:Int)=(U3 b).fst.l/\(0:Int)=(U3 b).fst.t/\(0:Int)=(U3 b).fst.k/\(0:Int)=(U3 b).fst.p/\(0:Int)=(U3 b).fst.n/\(0:
  Int)=(U3 b).fst.g/\(0:Int)=(U3 b).fst.s/\[]=(U3 b).fst.b/\[]=(U3 b).fst.a/\True)/\(2:Int)=(U3 b).snd/\True)/\(decide ((b.length:Int)>(65536:Int))=false->∃(x:a1E.ι),((b=x/\True)/\
  I7 x)/\((!T8 x)=true->((0:Int)=(U3 b).fst.e/\(0:Int)=(U3 b).fst.l/\(0:Int)=(U3 b).fst.t/\(0:Int)=(U3 b).fst.k/\(0:Int)=(U3 b).fst.p/\(0:Int)=(U3 b).fst.n/\(0:Int)=(U3
  b).fst.g/\(0:Int)=(U3 b).fst.s/\[]=(U3 b).fst.b/\[]=(U3 b).fst.a/\True)/\(8:Int)=(U3 b).snd/\True)/\((!T8 x)=false->∃(x_1:(List UInt8×Nat)),(((0=0/\0=0)/\True)/\((1=1/\Z7 1 (fun
  (x_2:Nat)=>[T.bys (X5 x),T.bool false]) fun(x:Nat)=>[T.bys (dr x_1.fst x_1.snd),T.bool (d6 x_1.fst x_1.snd)])/\True)/\True)/\∃(x:(List UInt8×Nat)),(((0=0/\0=0)/\True)/\((1=1/\Z7 1 (fun(x:
  Nat)=>[T.bys (dr x_1.fst (x_1.snd+1)),T.bool (d6 x_1.fst (x_1.snd+1))]) fun(x_2:Nat)=>[T.bys (dr x.fst x.snd),T.bool (d6 x.fst x.snd)])/\True)/\True)/\∃(x_2:(List UInt8×Nat)),(((0=0/\0=0)/\True)/\((1
  =1/\Z7 1 (fun(x_3:Nat)=>[T.bys (dr x.fst (x.snd+1)),T.bool (d6 x.fst (x.snd+1))]) fun(x:Nat)=>[T.bys (dr x_2.fst x_2.snd),T.bool (d6 x_2.fst x_2.snd)])/\True)/\True)/\∃(x_3:(List UInt8×Nat)),(((0=
  0/\0=0)/\True)/\((1=1/\Z7 1 (fun(x:Nat)=>[T.bys (dr x_2.fst (x_2.snd+1)),T.bool (d6 x_2.fst (x_2.snd+1))]) fun(x:Nat)=>[T.bys (dr x_3.fst x_3.snd),T.bool (d6 x_3.fst x_3.snd)])/\True)/\True)/\∃
  (x_4:(List UInt8×Nat)),(((0=0/\0=0)/\True)/\((1=1/\Z7 1 (fun(x:Nat)=>[T.bys (dr x_3.fst (x_3.snd+1)),T.bool (d6 x_3.fst (x_3.snd+1))]) fun(x:Nat)=>[T.bys (dr x_4.fst x_4.snd),T.bool (d6 x_4.fst
  x_4.snd)])/\True)/\True)/\∃(x_5:(List UInt8×Nat)),(((0=0/\0=0)/\True)/\((1=1/\Z7 1 (fun(x:Nat)=>[T.bys (dr x_4.fst (x_4.snd+1)),T.bool (d6 x_4.fst (x_4.snd+1))]) fun(x:Nat)=>[T.bys (dr
  x_5.fst x_5.snd),T.bool (d6 x_5.fst x_5.snd)])/\True)/\True)/\∃(x_6:(List UInt8×Nat)),(((0=0/\0=0)/\True)/\((1=1/\Z7 1 (fun(x:Nat)=>[T.bys (dr x_5.fst (x_5.snd+1)),T.bool (d6 x_5.fst (x_5.snd+
  1))]) fun(x:Nat)=>[T.bys (dr x_6.fst x_6.snd),T.bool (d6 x_6.fst x_6.snd)])/\True)/\True)/\∃(x_7:(List UInt8×Nat)),(((0=0/\0=0)/\True)/\((1=1/\Z7 1 (fun(x:Nat)=>[T.bys (dr x_6.fst (x_6.snd+1)),
  T.bool (d6 x_6.fst (x_6.snd+1))]) fun(x:Nat)=>[T.bys (dr x_7.fst x_7.snd),T.bool (d6 x_7.fst x_7.snd)])/\True)/\True)/\∃(x_8:(List UInt8×Nat)),(((0=0/\0=0)/\True)/\((1=1/\Z7 1 (fun(x:Nat)=>
  [T.bys (dr x_7.fst (x_7.snd+1)),T.bool (d6 x_7.fst (x_7.snd+1))]) fun(x:Nat)=>[T.bys (dr x_8.fst x_8.snd),T.bool (d6 x_8.fst x_8.snd)])/\True)/\True)/\((!(!(U1 (dr x_8.fst (x_8.snd+1)) (d6 x_8.fst (x_8.snd+
  1))).fl&&(U1 (dr x_8.fst (x_8.snd+1)) (d6 x_8.fst (x_8.snd+1))).l.isEmpty)||numR (dr x_1.fst x_1.snd) !=(108:Int)||(↑(U1 (dr x_8.fst (x_8.snd+1)) (d6 x_8.fst (x_8.snd+1))).out.length:Int) !=(2:Int))=
  true->((0:Int)=(U3 b).fst.e/\(0:Int)=(U3 b).fst.l/\(0:Int)=(U3 b).fst.t/\(0:Int)=(U3 b).fst.k/\(0:Int)=(U3 b).fst.p/\(0:Int)=(U3 b).fst.n/\(0:Int)=(U3 b).fst.g/\(0:Int)=(U3
  b).fst.s/\[]=(U3 b).fst.b/\[]=(U3 b).fst.a/\True)/\(3:Int)=(U3 b).snd/\True)/\((!(!(U1 (dr x_8.fst (x_8.snd+1)) (d6 x_8.fst (x_8.snd+1))).fl&&(U1 (dr x_8.fst (x_8.snd+1)) (d6 x_8.fst (x_8.snd+
  1))).l.isEmpty)||numR (dr x_1.fst x_1.snd) !=(108:Int)||(↑(U1 (dr x_8.fst (x_8.snd+1)) (d6 x_8.fst (x_8.snd+1))).out.length:Int) !=(2:Int))=false->W7 (0:Int) (U1 (dr x_8.fst (x_8.snd+1)) (d6 x_8.fst
  (x_8.snd+1))).out.length/\W7 (1:Int) (U1 (dr x_8.fst (x_8.snd+1)) (d6 x_8.fst (x_8.snd+1))).out.length/\c08 ((U1 (dr x_8.fst (x_8.snd+1)) (d6 x_8.fst (x_8.snd+1))).out.getD 1 [])/\((!S2 (Rec.mk (numR
  (dr x.fst x.snd)) (numR (dr x_2.fst x_2.snd)) (numR (dr x_3.fst x_3.snd)) (numR (dr x_4.fst x_4.snd)) (numR (dr x_5.fst x_5.snd)) (numR (dr x_6.fst x_6.snd)) (numR (dr x_7.fst x_7.snd)) (numR (dr x_8.fst x_8.snd)) ((U1 (dr
  x_8.fst (x_8.snd+1)) (d6 x_8.fst (x_8.snd+1))).out.getD 0 []) ((U1 (dr x_8.fst (x_8.snd+1)) (d6 x_8.fst (x_8.snd+1))).out.getD 1 [])))=true->((0:Int)=(U3 b).fst.e/\(0:Int)=(U3 b).fst.l/\(0:Int)=
  (U3 b).fst.t/\(0:Int)=(U3 b).fst.k/\(0:Int)=(U3 b).fst.p/\(0:Int)=(U3 b).fst.n/\(0:Int)=(U3 b).fst.g/\(0:Int)=(U3 b).fst.s/\[]=(U3 b).fst.b/\[]=(U3 b).fst.a/\True)/\(3:Int)=
  (U3 b).snd/\True)/\((!S2 (Rec.mk (numR (dr x.fst x.snd)) (numR (dr x_2.fst x_2.snd)) (numR (dr x_3.fst x_3.snd)) (numR (dr x_4.fst x_4.snd)) (numR (dr x_5.fst x_5.snd)) (numR (dr x_6.fst x_6.snd)) (numR (dr x_7.fst
  x_7.snd)) (numR (dr x_8.fst x_8.snd)) ((U1 (dr x_8.fst (x_8.snd+1)) (d6 x_8.fst (x_8.snd+1))).out.getD 0 []) ((U1 (dr x_8.fst (x_8.snd+1)) (d6 x_8.fst (x_8.snd+1))).out.getD 1 [])))=false->(numR (dr x.fst x.snd)
  =(U3 b).fst.e/\numR (dr x_2.fst x_2.snd)=(U3 b).fst.l/\numR (dr x_3.fst x_3.snd)=(U3 b).fst.t/\numR (dr x_4.fst x_4.snd)=(U3 b).fst.k/\numR (dr x_5.fst x_5.snd)=(U3 b).fst.p/\numR (dr x_6.fst x_6.snd)=
  (U3 b).fst.n/\numR (dr x_7.fst x_7.snd)=(U3 b).fst.g/\numR (dr x_8.fst x_8.snd)=(U3 b).fst.s/\(U1 (dr x_8.fst (x_8.snd+1)) (d6 x_8.fst (x_8.snd+1))).out.getD 0 []=(U3 b).fst.b/\(U1 (dr x_8.fst (x_8.snd
  +1)) (d6 x_8.fst (x_8.snd+1))).out.getD 1 []=(U3 b).fst.a/\True)/\(0:Int)=(U3 b).snd/\True))))):
  Z1 Tryz.prog 232 [.bys b] (.tup [.agg (U3 b).1.ts,.int .i64 (U3 b).2]):=
 T7 (code:=a8X) (gC a27 a1v (gC d1U b9e (gC a68 a3s (gC a2X a0H (gC a0r o9 gN))))) Tryz.func232 (by kernel_rfl) (by kernel_rfl) Z0 h (by kernel_rfl)
theorem d1Z(l:List UInt8)(n:Int)(h0:0<=n)(h:n<=255):(P7 l n).length<=255:=by
 unfold P7;split
 ·rw[List.length_replicate];omega
 ·rw[List.length_take];omega
theorem d58{α:Type}(d:α)(L:List α)(x:α)(i:Nat)(hi:i<L.length+1):(L++[x]).getD i d=if i=L.length then x else L.getD i d:=by
 by_cases h:i=L.length
 ·subst h;rw[if_pos rfl,List.getD_eq_getElem?_getD,List.getElem?_append_right (Nat.le_refl _)]
  simp
 ·rw[if_neg h,List.getD_eq_getElem?_getD,List.getElem?_append_left (by omega),←List.getD_eq_getElem?_getD]
theorem c8W(l:List UInt8)(fl:Bool):∀i j,((D8 l fl i).out.getD j []).length<=255
 |0,j=>Nat.zero_le _
 |i+1,j=>by
  have hm:=k7 (D8 l fl i).l;show(((D8 l fl i).out++[P7 ((D8 l fl i).l.drop 1) (numR (D8 l fl i).l)]).getD j []).length<=255;by_cases hj:j<(D8 l fl i).out.length+1
  ·rw[d58 [] _ _ _ hj];split
   ·exact d1Z _ _ hm.1 (by omega)
   ·exact c8W l fl i j
  ·rw[List.getD_eq_getElem?_getD,List.getElem?_eq_none (by rw[List.length_append];simp;omega)]
   exact Nat.zero_le _
theorem d3M{b:List UInt8}(h:T8 b=false):U3 b=(a79,8):=by unfold U3;rw[if_neg (by rw[h];simp)]
theorem c4G{b:List UInt8}(h:T8 b=true)(hb:E6 (X5 b)=true):U3 b=(a79,3):=by unfold U3;rw[if_pos h,if_pos hb]
theorem c3Q{b:List UInt8}(h:T8 b=true)(hb:E6 (X5 b)=false)(hr:S2 (rcX (X5 b))=false):U3 b=(a79,3):=by unfold U3;rw[if_pos h,if_neg (by rw[hb];simp),if_neg (by rw[hr];simp)]
theorem b41{b:List UInt8}(h:T8 b=true)(hb:E6 (X5 b)=false)(hr:S2 (rcX (X5 b))=true):U3 b=(rcX (X5 b),0):=by unfold U3;rw[if_pos h,if_neg (by rw[hb];simp),if_pos hr]
theorem a5E:Z2 Tryz.prog 232 a8G:=by
 intro(b:List UInt8) (hb:b.length<=1000);refine a7D b ⟨fun h=>by have:=of_decide_eq_true h;omega,fun _=>⟨b,⟨⟨rfl,trivial⟩,by unfold I7;omega⟩,fun h=> ?_,fun h=>⟨(X5 b,0),⟨(by repeat' first|exact trivial|exact rfl|exact Z9 _ _|exact U4 _|exact V0|exact T3 _|exact Nat.le_refl _|exact Nat.zero_le _|refine And.intro ?_ ?_),⟨⟨rfl,fun _ _=>rfl⟩,trivial⟩,trivial⟩,(X5 b,1),⟨(by repeat' first|exact trivial|exact rfl|exact Z9 _ _|exact U4 _|exact V0|exact T3 _|exact Nat.le_refl _|exact Nat.zero_le _|refine And.intro ?_ ?_),⟨⟨rfl,fun _ _=>rfl⟩,trivial⟩,trivial⟩,(X5 b,2),⟨(by repeat' first|exact trivial|exact rfl|exact Z9 _ _|exact U4 _|exact V0|exact T3 _|exact Nat.le_refl _|exact Nat.zero_le _|refine And.intro ?_ ?_),⟨⟨rfl,fun _ _=>rfl⟩,trivial⟩,trivial⟩,(X5 b,3),⟨(by repeat' first|exact trivial|exact rfl|exact Z9 _ _|exact U4 _|exact V0|exact T3 _|exact Nat.le_refl _|exact Nat.zero_le _|refine And.intro ?_ ?_),⟨⟨rfl,fun _ _=>rfl⟩,trivial⟩,trivial⟩,(X5 b,4),⟨(by repeat' first|exact trivial|exact rfl|exact Z9 _ _|exact U4 _|exact V0|exact T3 _|exact Nat.le_refl _|exact Nat.zero_le _|refine And.intro ?_ ?_),⟨⟨rfl,fun _ _=>rfl⟩,trivial⟩,trivial⟩,(X5 b,5),⟨(by repeat' first|exact trivial|exact rfl|exact Z9 _ _|exact U4 _|exact V0|exact T3 _|exact Nat.le_refl _|exact Nat.zero_le _|refine And.intro ?_ ?_),⟨⟨rfl,fun _ _=>rfl⟩,trivial⟩,trivial⟩,(X5 b,6),⟨(by repeat' first|exact trivial|exact rfl|exact Z9 _ _|exact U4 _|exact V0|exact T3 _|exact Nat.le_refl _|exact Nat.zero_le _|refine And.intro ?_ ?_),⟨⟨rfl,fun _ _=>rfl⟩,trivial⟩,trivial⟩,(X5 b,7),⟨(by repeat' first|exact trivial|exact rfl|exact Z9 _ _|exact U4 _|exact V0|exact T3 _|exact Nat.le_refl _|exact Nat.zero_le _|refine And.intro ?_ ?_),⟨⟨rfl,fun _ _=>rfl⟩,trivial⟩,trivial⟩,(X5 b,8),⟨(by repeat' first|exact trivial|exact rfl|exact Z9 _ _|exact U4 _|exact V0|exact T3 _|exact Nat.le_refl _|exact Nat.zero_le _|refine And.intro ?_ ?_),⟨⟨rfl,fun _ _=>rfl⟩,trivial⟩,trivial⟩,fun hc=> ?_,fun hc=> ?_⟩⟩⟩
 ·rw[d3M (by simpa using h)]
  exact(by repeat' first|exact trivial|exact rfl|exact Z9 _ _|exact U4 _|exact V0|exact T3 _|exact Nat.le_refl _|exact Nat.zero_le _|refine And.intro ?_ ?_)
 ·rw[c4G (by simpa using h) hc]
  exact(by repeat' first|exact trivial|exact rfl|exact Z9 _ _|exact U4 _|exact V0|exact T3 _|exact Nat.le_refl _|exact Nat.zero_le _|refine And.intro ?_ ?_)
 ·have hu:T8 b=true:=by simpa using h
  have hc:E6 (X5 b)=false:=hc;have h2:(rcE (X5 b)).out.length=2:=by
   unfold E6 at hc;simp only[Bool.or_eq_false_iff,bne_eq_false_iff_eq] at hc;omega
  refine⟨⟨by omega,by show(0:Int)<((rcE (X5 b)).out.length:Int);omega⟩,⟨by omega,by show(1:Int)<((rcE (X5 b)).out.length:Int);omega⟩,by have:=c8W (dr (X5 b) 9) (d6 (X5 b) 9) (numR (dr (X5 b) 9)).toNat 1;unfold c08;show((D8 (dr (X5 b) 9) (d6 (X5 b) 9) (numR (dr (X5 b) 9)).toNat).out.getD 1 []).length<_;omega,fun hr=> ?_,fun hr=> ?_⟩
  ·have hr:(!S2 (rcX (X5 b)))=true:=by
    unfold rcX rcE;dsimp only[Nat.reduceAdd] at hr ⊢;exact hr
   have hr:S2 (rcX (X5 b))=false:=by rw[Bool.not_eq_true'] at hr;exact hr
   rw[c3Q hu hc hr];exact(by repeat' first|exact trivial|exact rfl|exact Z9 _ _|exact U4 _|exact V0|exact T3 _|exact Nat.le_refl _|exact Nat.zero_le _|refine And.intro ?_ ?_)
  ·have hr:(!S2 (rcX (X5 b)))=false:=by
    unfold rcX rcE;dsimp only[Nat.reduceAdd] at hr ⊢;exact hr
   have hr:S2 (rcX (X5 b))=true:=by rw[Bool.not_eq_false'] at hr;exact hr
   rw[b41 hu hc hr];unfold rcX rcE;dsimp only[Nat.reduceAdd];exact⟨⟨rfl,rfl,rfl,rfl,rfl,rfl,rfl,rfl,rfl,rfl,trivial⟩,rfl,trivial⟩
noncomputable def lgR(d:Dsk)(i:Nat):Rec×Int:=U3 (O8 d (9+i))
noncomputable def lgE(d:Dsk)(i:Nat):Int:=if i=0 then 1 else(lgR d (i-1)).1.e
noncomputable def lgB(d:Dsk)(ep:Int)(i:Nat):Bool:=((lgR d i).2 !=0||(lgR d i).1.l !=(i:Int)+1|| !W9 (lgR d i).1.e (lgE d i) ep)
noncomputable def C5(d:Dsk)(m:Nat):List Rec:=(List.range m).map fun i=>(lgR d i).1
noncomputable def lgM(d:Dsk)(ep:Int):Nat:=if T4 (d.sec.length-9) (lgB d ep)= -1 then d.sec.length-9 else(T4 (d.sec.length-9) (lgB d ep)).toNat
def LgS(x:Dsk×Int):Prop:=C7 x.1
noncomputable def c06(d:Dsk)(ep:Int):Nat->Ann
 |0=>.one (W5 (d.sec.length-9) (lgB d ep)) (fun x=>⟨[(1,.int .i64 ep),(2,.ref 0 0 0),(5,.osl 1 0 x.1),(6,.int .i64 (lgE d x.1)),(7,.int .i64 (9+x.1:Nat))],[a4j d,A1 (C5 d x.1)]⟩) (fun x=>d.sec.length-x.1) [.box 0,.arr 1] [.box 0,.arr 3] (fun _=>Z0)
 |_=>.none
noncomputable def b87:Con:=.rmk ⟨Dsk×Int,fun x=>[.agg x.1.ts,.int .i64 x.2],fun _=>[],fun x=>.osl 0 0 (lgM x.1 x.2),fun x=>[A1 (C5 x.1 (lgM x.1 x.2))],LgS⟩
noncomputable def c3h:Code:=Tryz.f182.body.getD .skip
theorem a8A:Z8 Tryz.prog 182:=⟨_,Tryz.func182,by kernel_rfl,by kernel_rfl⟩
theorem c2y(d:Dsk)(ep:Int)(h:
  (∃(x:W5 (d.sec.length-9) (lgB d ep)),(ep=ep/\(0=0/\0=0)/\(0=0/\0=x.val)/\(1:Int)=lgE d x.val/\(9:Int)=(↑(9+x.val):Int)/\True)/\(1=1/\1=1/\EqD d d)/\(0=(C5 d x.val).length/\Z7 0
  (fun(k:Nat)=>List.take 10 (List.drop (k*10) [])) (Y4 (C5 d x.val)))/\True)/\∀(x:W5 (d.sec.length-9) (lgB d ep)),(decide ((↑(9+x.val):Int)<(d.sec.length:Int))=true->∃(x_1:a2Q.ι),(((EqD d
  x_1.fst)/\(↑(9+x.val):Int)=(x_1.snd:Int)/\True)/\AtB x_1)/\Lt (O8 x_1.fst x_1.snd).length 140737488355329/\∃(x_2:(List UInt8)),((O8 x_1.fst x_1.snd=x_2/\True)/\RdB x_2)/\(((U3 x_2).snd !=(0:Int))=
  false->X6 .i64 ((x.val:Int)+(1:Int)))/\(((U3 x_2).snd !=(0:Int)||(U3 x_2).fst.l !=(x.val:Int)+(1:Int)|| !W9 (U3 x_2).fst.e (lgE d x.val) ep)=true->((0=0/\x.val=lgM d ep)/\True)/\(Y3 Y4 (C5
  d x.val) (C5 d (lgM d ep)))/\True)/\(((U3 x_2).snd !=(0:Int)||(U3 x_2).fst.l !=(x.val:Int)+(1:Int)|| !W9 (U3 x_2).fst.e (lgE d x.val) ep)=false->(Le x.val (C5 d x.val).length/\V6 x.val 1 96)/\X6 .i64
  ((↑(9+x.val):Int)+(1:Int))/\∃(y:W5 (d.sec.length-9) (lgB d ep)),((ep=ep/\(0=0/\0=0)/\(0=0/\x.val+1=y.val)/\(U3 x_2).fst.e=lgE d y.val/\(↑(9+x.val):Int)+(1:Int)=(↑(9+y.val):Int)/\
  True)/\(1=1/\1=1/\EqD d d)/\(x.val+1=(C5 d y.val).length/\Z7 (x.val+1) (W4 (Y4 (C5 d x.val)) x.val fun(k:Nat)=>List.take 10 (List.drop (k*10) [T.int .i64 (U3 x_2).fst.e,T.int .i64 (U3
  x_2).fst.l,T.int .i64 (U3 x_2).fst.t,T.int .i64 (U3 x_2).fst.k,T.int .i64 (U3 x_2).fst.p,T.int .i64 (U3 x_2).fst.n,T.int .i64 (U3 x_2).fst.g,T.int .i64 (U3 x_2).fst.s,T.str (U3 x_2).fst.b,T.str (U3
  x_2).fst.a])) (Y4 (C5 d y.val)))/\True)/\Lt (d.sec.length-y.val) (d.sec.length-x.val)))/\(decide ((↑(9+x.val):Int)<(d.sec.length:Int))=false->((0=0/\x.val=lgM d ep)/\True)/\(Y3 Y4 (C5 d x.val)
  (C5 d (lgM d ep)))/\True)):
  V7 Tryz.prog 182 [.agg d.ts,.int .i64 ep] [] (.osl 0 0 (lgM d ep)) [A1 (C5 d (lgM d ep))]:=
 C4 (code:=c3h) (gC l7 E9 (gC b0I a4k (gC a5E a3G (gC P4 S0 gN)))) Tryz.func182 (by kernel_rfl) (by kernel_rfl) (c06 d ep) [[.arr 1]] h (by kernel_rfl)
theorem v4(d:Dsk)(m:Nat):(C5 d m).length=m:=by unfold C5;simp
theorem d4u(d:Dsk){m i:Nat}(h:i<m):(C5 d m).getD i default=(lgR d i).1:=by
 unfold C5;rw[List.getD_eq_getElem?_getD,List.getElem?_map,List.getElem?_range h]
 rfl
theorem b0m(d:Dsk)(m:Nat):C5 d (m+1)=C5 d m++[(lgR d m).1]:=by
 unfold C5;rw[List.range_succ,List.map_append];rfl
theorem c8l{d:Dsk}{ep:Int}{m:Nat}(hm:m<d.sec.length-9)(h:lgB d ep m=true)(hp:∀i,i<m->lgB d ep i=false):lgM d ep=m:=by
 unfold lgM;rw[N9 hm h hp,if_neg (by omega),Int.toNat_natCast]
theorem b7H{d:Dsk}{ep:Int}{m:Nat}(hm:m=d.sec.length-9)(hp:∀i,i<m->lgB d ep i=false):lgM d ep=m:=by
 unfold lgM;rw[M1 (fun i hi=>hp i (by omega)),if_pos rfl,hm]
theorem b66:Z2 Tryz.prog 182 b87:=by
 rintro⟨d,ep⟩ (hd:C7 d);have hd':=hd;obtain⟨q1,q2,q3,q4,_⟩:=hd';refine⟨c2y d ep ⟨⟨I5,⟨rfl,⟨rfl,rfl⟩,⟨rfl,rfl⟩,rfl,rfl,trivial⟩,⟨rfl,rfl,eqD _⟩,⟨(v4 d 0).symm,V0⟩,trivial⟩,fun x=>⟨fun hc=> ?_,fun hc=> ?_⟩⟩,rfl,a1f _⟩
 ·have hc:9+x.val<d.sec.length:=by have:=of_decide_eq_true hc;omega
  have hle:=a3Y hd hc;have hx:=v4 d x.val;refine⟨(d,9+x.val),⟨⟨eqD _,rfl,trivial⟩,hc,by dsimp only;omega⟩,by unfold Lt;dsimp only;omega,O8 d (9+x.val),⟨⟨rfl,trivial⟩,by show(O8 d (9+x.val)).length<=1000;omega⟩,fun _=>Z5 (by omega),fun hb=> ?_,fun hb=> ?_⟩
  ·have hb:lgB d ep x.val=true:=hb;rw[c8l (by omega) hb x.2.2]
   exact⟨⟨⟨rfl,rfl⟩,trivial⟩,⟨rfl,Z9 _ _⟩,trivial⟩
  ·have hb:lgB d ep x.val=false:=hb;refine⟨⟨by rw[hx];exact Nat.le_refl _,by unfold V6;omega⟩,Z5 (by omega),x.succ (by omega) hb,⟨⟨rfl,⟨rfl,rfl⟩,⟨rfl,rfl⟩,?_,by dsimp only[W5.succ];omega,trivial⟩,⟨rfl,rfl,eqD _⟩,⟨(v4 d (x.val+1)).symm,?_⟩,trivial⟩,by unfold Lt;dsimp only[W5.succ];omega⟩
   ·dsimp only[W5.succ];unfold lgE;rw[if_neg (by omega)]
    rfl
   ·show Z7 _ _ (Y4 (C5 d (x.val+1)));rw[b0m];have:=a3T (C5 d x.val) (lgR d x.val).1;rw[hx] at this;exact this
 ·have hx:x.val=d.sec.length-9:=by have:=x.2.1;have:=of_decide_eq_false hc;omega
  rw[b7H hx x.2.2];exact⟨⟨⟨rfl,rfl⟩,trivial⟩,⟨rfl,Z9 _ _⟩,trivial⟩
end Go.Proofs.YtokaojbaacnngaaGreat

namespace Go.Proofs.YtokaojbaacnngaaGreat
set_option maxRecDepth 100000
open Go.SS

theorem d5T{r:List UInt8}(hr:0<r.length):(∃out,T1 r=some out/\out.length=2/\U1 r false=⟨[],false,out⟩)∨((∀out,T1 r=some out->out.length≠2)/\(!(!(U1 r false).fl&&(U1 r false).l.isEmpty)||(((U1 r false).out.length:Nat):Int) !=2)=true):=by
 have hfs:=c4T r hr (K7 r);have hcn:(numR r).toNat=K7 r:=by unfold numR K7;exact Int.toNat_natCast _
 have hend:U1 r false=D8 r false (K7 r):=by unfold U1;rw[hcn]
 have hall:T1 r=if K7 r>100 then none else match j7 r (K7 r) with
   |some (p,out)=>if p=r.length then some out else none
   |none=>none:=by
  unfold T1;by_cases hc:K7 r>100
  ·rw[if_pos (.inr hc),if_pos hc]
  ·rw[if_neg (by omega),if_neg hc]
   rfl
 rw[hend];cases hf:j7 r (K7 r) with
 |none=>
  rw[hf] at hfs hall;simp only at hfs;have hall:T1 r=none:=by rw[hall];split<;>rfl
  refine .inr ⟨fun out h=>(by rw[hall] at h;cases h),?_⟩
  rw[hfs];rfl
 |some y=>
  obtain⟨p,out⟩:=y;rw[hf] at hfs hall;simp only at hfs hall;obtain⟨hfs,hpl⟩:=hfs;rw[hfs];have ho:out.length=K7 r:=a5r hf;by_cases hp:p=r.length
  ·have hem:r.drop p=[]:=by rw[List.drop_eq_nil_iff];omega
   rw[if_pos hp] at hall;by_cases h2:out.length=2
   ·rw[if_neg (by omega)] at hall
    exact .inl ⟨out,hall,h2,by rw[hem]⟩
   ·refine .inr ⟨fun o h=> ?_,?_⟩
    ·rw[hall] at h;split at h
     ·cases h
     ·cases h;exact h2
    ·simp only[bne_iff_ne.2 (show((out.length:Nat):Int)≠2 by omega),Bool.or_true]
  ·have hem:(r.drop p).isEmpty=false:=by
    rw[Bool.eq_false_iff,ne_eq,List.isEmpty_iff,List.drop_eq_nil_iff];omega
   have hall:T1 r=none:=by rw[hall,if_neg hp];split<;>rfl
   refine .inr ⟨fun out h=>(by rw[hall] at h;cases h),?_⟩
   simp[hem]
theorem a2a(x:List UInt8):∀i,dr x i=x.drop i
 |0=>rfl
 |i+1=>by
  show(dr x i).drop 1=_;rw[a2a x i,List.drop_drop]
theorem a8x(x:List UInt8):∀i,d6 x i=decide (x.length<i)
 |0=>rfl
 |i+1=>by
  show(d6 x i||(dr x i).isEmpty)=_;rw[a8x x i,a2a,Bool.eq_iff_iff,Bool.or_eq_true,decide_eq_true_eq,List.isEmpty_iff,List.drop_eq_nil_iff,decide_eq_true_eq];omega
theorem c04{x:List UInt8}(h:x.length<10):E6 x=true:=by
 have hf:(rcE x).fl=true:=by
  unfold rcE;rw[a2a,a8x];by_cases h9:x.length=9
  ·rw[List.drop_eq_nil_iff.2 (by omega)]
   exact b4R _ _
  ·rw[decide_eq_true (by omega)]
   exact a8D _ _
 unfold E6;rw[hf];rfl
noncomputable def o8(t:List UInt8):{r:List UInt8×Bool//r=(X5 t,T8 t)}:=Classical.choice ⟨⟨_,rfl⟩⟩
noncomputable def a8T:Con:=.rel ⟨List UInt8,fun t=>[.str t],fun t=>.tup [.str (o8 t).1.1,.bool (o8 t).1.2],I7⟩
theorem a3C:Z8 Tryz.prog 230:=⟨_,Tryz.func230,by kernel_rfl,by kernel_rfl⟩
theorem a6n:Z2 Tryz.prog 230 a8T:=by
 intro(t:List UInt8) ht;have h:=a2h t ht;have e1:(o8 t).1.1=X5 t:=by rw[(o8 t).2]
 have e2:(o8 t).1.2=T8 t:=by rw[(o8 t).2]
 show Z1 _ _ _ (.tup [.str (o8 t).1.1,.bool (o8 t).1.2]);rw[e1,e2];exact h
noncomputable def flp(t:List UInt8):{r:List (List UInt8)×Bool//r=((T1 t).getD [],(T1 t).isSome)}:=Classical.choice ⟨⟨_,rfl⟩⟩
noncomputable def b6j:Con:=.rel ⟨List UInt8,fun t=>[.str t],fun t=>.tup [L6 (flp t).1.1,.bool (flp t).1.2],I7⟩
theorem a6g:Z8 Tryz.prog 231:=⟨_,Tryz.func231,by kernel_rfl,by kernel_rfl⟩
theorem a9E:Z2 Tryz.prog 231 b6j:=by
 intro(t:List UInt8) ht;have h:=a4Y t ht;have e1:(flp t).1.1=(T1 t).getD []:=by rw[(flp t).2]
 have e2:(flp t).1.2=(T1 t).isSome:=by rw[(flp t).2]
 show Z1 _ _ _ (.tup [L6 (flp t).1.1,.bool (flp t).1.2]);rw[e1,e2];exact h
noncomputable def l4p(t:List UInt8):{r:Rec×Bool//r=(if T8 t=true/\E6 (X5 t)=false then rcX (X5 t) else a79,(U3 t).2==0)}:=Classical.choice ⟨⟨_,rfl⟩⟩
noncomputable def J1(t:List UInt8):Rec:=(l4p t).1.1
noncomputable def l4k(t:List UInt8):Bool:=(l4p t).1.2
theorem c58(t:List UInt8):J1 t=if T8 t=true/\E6 (X5 t)=false then rcX (X5 t) else a79:=by unfold J1;rw[(l4p t).2]
theorem b7k(t:List UInt8):l4k t=((U3 t).2==0):=by unfold l4k;rw[(l4p t).2]
noncomputable def b83:Con:=.rel ⟨List UInt8,fun t=>[.str t],fun t=>.tup [.agg (J1 t).ts,.bool (l4k t)],RdB⟩
noncomputable def c27:Code:=Tryz.f180.body.getD .skip
theorem a8n:Z8 Tryz.prog 180:=⟨_,Tryz.func180,by kernel_rfl,by kernel_rfl⟩
theorem c25(t:List UInt8)(h:
  ∃(x:(List UInt8)),((t=x/\True)/\I7 x)/\((!(o8 x).val.snd||decide ((↑(o8 x).val.fst.length:Int)<(10:Int)))=false->W7 (0:Int) (o8 x).val.fst.length)/\((!(o8 x).val.snd||decide ((↑(o8
  x).val.fst.length:Int)<(10:Int))||(↑((o8 x).val.fst.getD 0 (0:UInt8)).toNat:Int) !=(108:Int))=true->((0:Int)=(J1 t).e/\(0:Int)=(J1 t).l/\(0:Int)=(J1 t).t/\(0:Int)=(J1 t).k/\(0:Int)=
  (J1 t).p/\(0:Int)=(J1 t).n/\(0:Int)=(J1 t).g/\(0:Int)=(J1 t).s/\[]=(J1 t).b/\[]=(J1 t).a/\True)/\false=l4k t/\True)/\((!(o8 x).val.snd||decide ((↑(o8 x).val.fst.length:Int)<(10:Int))||
  (↑((o8 x).val.fst.getD 0 (0:UInt8)).toNat:Int) !=(108:Int))=false->InC (9:Int) (o8 x).val.fst.length/\∃(x_1:(List UInt8)),((List.drop 9 (o8 x).val.fst=x_1/\True)/\I7 x_1)/\((!(flp x_1).val.snd||(↑(flp
  x_1).val.fst.length:Int) !=(2:Int))=true->((0:Int)=(J1 t).e/\(0:Int)=(J1 t).l/\(0:Int)=(J1 t).t/\(0:Int)=(J1 t).k/\(0:Int)=(J1 t).p/\(0:Int)=(J1 t).n/\(0:Int)=(J1 t).g/\(0:Int)=
  (J1 t).s/\[]=(J1 t).b/\[]=(J1 t).a/\True)/\false=l4k t/\True)/\((!(flp x_1).val.snd||(↑(flp x_1).val.fst.length:Int) !=(2:Int))=false->W7 (1:Int) (o8 x).val.fst.length/\W7 (2:Int) (o8
  x).val.fst.length/\W7 (3:Int) (o8 x).val.fst.length/\W7 (4:Int) (o8 x).val.fst.length/\W7 (5:Int) (o8 x).val.fst.length/\W7 (6:Int) (o8 x).val.fst.length/\W7 (7:Int) (o8 x).val.fst.length/\W7 (8:Int)
  (o8 x).val.fst.length/\W7 (0:Int) (flp x_1).val.fst.length/\W7 (1:Int) (flp x_1).val.fst.length/\N8 ((flp x_1).val.fst.getD 1 []).length/\(IntKind.i64.wrap (↑((o8 x).val.fst.getD 1 (0:UInt8)).toNat:Int)=(J1
  t).e/\IntKind.i64.wrap (↑((o8 x).val.fst.getD 2 (0:UInt8)).toNat:Int)=(J1 t).l/\IntKind.i64.wrap (↑((o8 x).val.fst.getD 3 (0:UInt8)).toNat:Int)=(J1 t).t/\IntKind.i64.wrap (↑((o8 x).val.fst.getD 4 (0:
  UInt8)).toNat:Int)=(J1 t).k/\IntKind.i64.wrap (↑((o8 x).val.fst.getD 5 (0:UInt8)).toNat:Int)=(J1 t).p/\IntKind.i64.wrap (↑((o8 x).val.fst.getD 6 (0:UInt8)).toNat:Int)=(J1 t).n/\IntKind.i64.wrap (↑((o8
  x).val.fst.getD 7 (0:UInt8)).toNat:Int)=(J1 t).g/\IntKind.i64.wrap (↑((o8 x).val.fst.getD 8 (0:UInt8)).toNat:Int)=(J1 t).s/\(flp x_1).val.fst.getD 0 []=(J1 t).b/\(flp x_1).val.fst.getD 1 []=(J1 t).a/\True)
  /\S2 (Rec.mk (IntKind.i64.wrap (↑((o8 x).val.fst.getD 1 (0:UInt8)).toNat:Int)) (IntKind.i64.wrap (↑((o8 x).val.fst.getD 2 (0:UInt8)).toNat:Int)) (IntKind.i64.wrap (↑((o8 x).val.fst.getD 3 (0:UInt8)).toNat:Int))
  (IntKind.i64.wrap (↑((o8 x).val.fst.getD 4 (0:UInt8)).toNat:Int)) (IntKind.i64.wrap (↑((o8 x).val.fst.getD 5 (0:UInt8)).toNat:Int)) (IntKind.i64.wrap (↑((o8 x).val.fst.getD 6 (0:UInt8)).toNat:Int)) (IntKind.i64.wrap
  (↑((o8 x).val.fst.getD 7 (0:UInt8)).toNat:Int)) (IntKind.i64.wrap (↑((o8 x).val.fst.getD 8 (0:UInt8)).toNat:Int)) ((flp x_1).val.fst.getD 0 []) ((flp x_1).val.fst.getD 1 []))=l4k t/\True))):
  Z1 Tryz.prog 180 [.str t] (.tup [.agg (J1 t).ts,.bool (l4k t)]):=
 T7 (code:=c27) (gC a6n a3C (gC a9E a6g (gC a16 a0L gN))) Tryz.func180 (by kernel_rfl) (by kernel_rfl) Z0 h (by kernel_rfl)
theorem c7d{x:List UInt8}(h:10<=x.length):rcE x=U1 (x.drop 9) false:=by
 unfold rcE;rw[a2a,a8x,decide_eq_false (by omega)]
theorem d4j(x:List UInt8)(i:Nat):IntKind.i64.wrap ((x.getD i 0).toNat:Int)=numR (dr x i):=by
 rw[a2E,a2a];unfold numR;rw[List.getD_eq_getElem?_getD,List.getD_eq_getElem?_getD,List.getElem?_drop,Nat.add_zero]
theorem c8n{t:List UInt8}(h:¬ (T8 t=true/\E6 (X5 t)=false)):J1 t=a79/\l4k t=false:=by
 rw[c58,b7k,if_neg h];refine⟨rfl,?_⟩
 cases hu:T8 t with
 |false=>rw[d3M hu];rfl
 |true=>
  cases hb:E6 (X5 t) with
  |true=>rw[c4G hu hb];rfl
  |false=>exact absurd ⟨hu,hb⟩ h
theorem b6f{t:List UInt8}(hu:T8 t=true)(hb:E6 (X5 t)=false):J1 t=rcX (X5 t)/\l4k t=S2 (rcX (X5 t)):=by
 rw[c58,b7k,if_pos ⟨hu,hb⟩];refine⟨rfl,?_⟩
 cases hr:S2 (rcX (X5 t)) with
 |true=>rw[b41 hu hb hr];rfl
 |false=>rw[c3Q hu hb hr];rfl
theorem d4D(t:List UInt8):(X5 t).length<=t.length:=by
 unfold X5;split
 ·rw[List.length_take];omega
 ·exact Nat.zero_le _
theorem b5z:Z2 Tryz.prog 180 b83:=by
 intro(t:List UInt8) (hb:t.length<=1000);have hx:=d4D t;have e1:(o8 t).1.1=X5 t:=by rw[(o8 t).2]
 have e2:(o8 t).1.2=T8 t:=by rw[(o8 t).2]
 have hz:∀{p:Bool},(¬ (T8 t=true/\E6 (X5 t)=false))->((0:Int)=(J1 t).e/\(0:Int)=(J1 t).l/\(0:Int)=(J1 t).t/\(0:Int)=(J1 t).k/\(0:Int)=(J1 t).p/\(0:Int)=(J1 t).n/\(0:Int)=(J1 t).g/\(0:Int)=(J1 t).s/\[]=(J1 t).b/\[]=(J1 t).a/\True)/\false=l4k t/\True:=fun h=>by
  rw[(c8n h).1,(c8n h).2];exact⟨⟨rfl,rfl,rfl,rfl,rfl,rfl,rfl,rfl,rfl,rfl,trivial⟩,rfl,trivial⟩
 refine c25 t ⟨t,⟨⟨rfl,trivial⟩,by unfold I7;omega⟩,?_⟩
 rw[e1,e2];refine⟨fun h=> ?_,fun h=>hz (p:=true) fun hq=> ?_,fun h=> ?_⟩
 ·simp only[Bool.or_eq_false_iff,decide_eq_false_iff_not] at h;exact⟨by omega,by omega⟩
 ·obtain⟨hu,hr⟩:=hq;have hl:10<=(X5 t).length:=by
   by_cases hl:(X5 t).length<10
   ·rw[c04 hl] at hr;cases hr
   ·omega
  have h108:numR (X5 t)=108:=by
   unfold E6 at hr;simp only[Bool.or_eq_false_iff,bne_eq_false_iff_eq] at hr;exact hr.1.2
  have h108:(((X5 t).getD 0 0).toNat:Int)=108:=h108;rw[hu,h108,decide_eq_false (by omega)] at h
  cases h
 ·simp only[Bool.or_eq_false_iff,decide_eq_false_iff_not,Bool.not_eq_false',bne_eq_false_iff_eq] at h;obtain⟨⟨hu,hl⟩,h108⟩:=h;have hl:10<=(X5 t).length:=by omega
  have hn:numR (X5 t)=108:=h108;have f1:(flp ((X5 t).drop 9)).1.1=(T1 ((X5 t).drop 9)).getD []:=by rw[(flp _).2]
  have f2:(flp ((X5 t).drop 9)).1.2=(T1 ((X5 t).drop 9)).isSome:=by rw[(flp _).2]
  have hd:((X5 t).drop 9).length=(X5 t).length-9:=List.length_drop;refine⟨⟨by omega,by omega⟩,(X5 t).drop 9,⟨⟨rfl,trivial⟩,by unfold I7;omega⟩,?_⟩
  rw[f1,f2];have hbad:E6 (X5 t)=(!(!(U1 ((X5 t).drop 9) false).fl&&(U1 ((X5 t).drop 9) false).l.isEmpty)||(((U1 ((X5 t).drop 9) false).out.length:Nat):Int) !=2):=by
   unfold E6;rw[c7d hl,hn];simp
  rcases d5T (r:=(X5 t).drop 9) (by omega) with⟨out,ha,h2,hf⟩|⟨ha,hf⟩
  ·have hg:E6 (X5 t)=false:=by rw[hbad,hf,h2];rfl
   have hout:(rcE (X5 t)).out=out:=by rw[c7d hl,hf]
   have hle:=c8W (dr (X5 t) 9) (d6 (X5 t) 9) (numR (dr (X5 t) 9)).toNat 1;have hle:(out.getD 1 []).length<=255:=by rw[←hout];exact hle
   rw[ha];refine⟨fun hc=> ?_,fun _=> ?_⟩
   ·simp[h2] at hc
   ·simp only[d4j];rw[(b6f hu hg).1,(b6f hu hg).2];unfold rcX;rw[hout];show _/\_/\_/\_/\_/\_/\_/\_/\W7 0 out.length/\W7 1 out.length/\_;exact⟨⟨by omega,by omega⟩,⟨by omega,by omega⟩,⟨by omega,by omega⟩,⟨by omega,by omega⟩,⟨by omega,by omega⟩,⟨by omega,by omega⟩,⟨by omega,by omega⟩,⟨by omega,by omega⟩,⟨by omega,by omega⟩,⟨by omega,by omega⟩,by show(out.getD 1 []).length<_;omega,⟨rfl,rfl,rfl,rfl,rfl,rfl,rfl,rfl,rfl,rfl,trivial⟩,rfl,trivial⟩
  ·have hg:E6 (X5 t)=true:=by rw[hbad];exact hf
   refine⟨fun _=>hz (p:=true) fun hq=>(by rw[hg] at hq;cases hq.2),fun hc=> ?_⟩
   cases hs:T1 ((X5 t).drop 9) with
   |none=>rw[hs] at hc;simp at hc
   |some out=>
    rw[hs] at hc;have:=ha out hs;simp at hc;omega
noncomputable def c5B:Con:=.rel ⟨Dsk×Int,fun x=>[.agg x.1.ts,.int .i64 x.2],fun x=>G3 (C5 x.1 (lgM x.1 x.2)),fun x=>C7 x.1/\x.1.sec.length=69⟩
noncomputable def c5Q(d:Dsk)(ep:Int):Nat->Ann
 |0=>.one (W5 (d.sec.length-9) (lgB d ep)) (fun x=>⟨[(1,.int .i64 ep),(2,.ref 0 0 0),(5,.osl 1 0 x.1),(6,.int .i64 (x.1+1:Nat))],[a4j d,A1 (C5 d x.1)]⟩) (fun x=>d.sec.length-x.1) [.box 0,.arr 1] [.box 0,.at_ 5] (fun _=>Z0)
 |_=>.none
noncomputable def c8S:Code:=Tryz.f112.body.getD .skip
theorem b0x:Z8 Tryz.prog 112:=⟨_,Tryz.func112,by kernel_rfl,by kernel_rfl⟩
theorem c8s(d:Dsk)(ep:Int)(h:
  (∃(x:W5 (d.sec.length-9) (lgB d ep)),(ep=ep/\(0=0/\0=0)/\(0=0/\0=x.val)/\(1:Int)=(↑(x.val+1):Int)/\True)/\(1=1/\1=1/\EqD d d)/\(0=(C5 d x.val).length/\Z7 0 (fun(k:Nat)=>List.take
  10 (List.drop (k*10) [])) (Y4 (C5 d x.val)))/\True)/\∀(x:W5 (d.sec.length-9) (lgB d ep)),(decide ((↑(x.val+1):Int)<=(60:Int))=true->X6 .i64 ((9:Int)+(↑(x.val+1):Int)))/\(decide ((↑(x.val+1):
  Int)<=(60:Int))=true->X6 .i64 ((9:Int)+(↑(x.val+1):Int)- (1:Int)))/\((decide ((↑(x.val+1):Int)<=(60:Int))&&decide ((9:Int)+(↑(x.val+1):Int)- (1:Int)<(d.sec.length:Int)))=true->X6 .i64
  ((9:Int)+(↑(x.val+1):Int))/\X6 .i64 ((9:Int)+(↑(x.val+1):Int)- (1:Int))/\∃(x_1:a2Q.ι),(((EqD d x_1.fst)/\(9:Int)+(↑(x.val+1):Int)- (1:Int)=(x_1.snd:Int)/\True)/\AtB x_1)/\∃(x_2:
  (List UInt8)),((O8 x_1.fst x_1.snd=x_2/\True)/\RdB x_2)/\((!l4k x_2||(J1 x_2).l !=(↑(x.val+1):Int)||decide ((J1 x_2).e>ep))=false->decide ((↑(x.val+1):Int)>(1:Int))=true->X6 .i64 ((↑(x.val+1)
  :Int)- (2:Int)))/\((!l4k x_2||(J1 x_2).l !=(↑(x.val+1):Int)||decide ((J1 x_2).e>ep))=false->decide ((↑(x.val+1):Int)>(1:Int))=true->W7 ((↑(x.val+1):Int)- (2:Int)) x.val)/\((!l4k x_2||(J1
  x_2).l !=(↑(x.val+1):Int)||decide ((J1 x_2).e>ep))=false->decide ((↑(x.val+1):Int)>(1:Int))=true->Lt (0+((↑(x.val+1):Int)- (2:Int)).toNat) (C5 d x.val).length)/\((!l4k x_2||(J1 x_2).l !=
  (↑(x.val+1):Int)||decide ((J1 x_2).e>ep)||decide ((↑(x.val+1):Int)>(1:Int))&&decide (((C5 d x.val).getD (0+((↑(x.val+1):Int)- (2:Int)).toNat) default).e>(J1 x_2).e))=true->Le (0+x.val) (C5 d
  x.val).length/\x.val=(C5 d (lgM d ep)).length/\Z7 x.val (Y4 (C5 d x.val)) (Y4 (C5 d (lgM d ep))))/\((!l4k x_2||(J1 x_2).l !=(↑(x.val+1):Int)||decide ((J1 x_2).e>ep)||decide ((↑(x.val+1):Int)
  >(1:Int))&&decide (((C5 d x.val).getD (0+((↑(x.val+1):Int)- (2:Int)).toNat) default).e>(J1 x_2).e))=false->(Le x.val (C5 d x.val).length/\V6 x.val 1 96)/\X6 .i64 ((↑(x.val+1):Int)+(1:Int))/\∃(y
  :W5 (d.sec.length-9) (lgB d ep)),((ep=ep/\(0=0/\0=0)/\(0=0/\x.val+1=y.val)/\(↑(x.val+1):Int)+(1:Int)=(↑(y.val+1):Int)/\True)/\(1=1/\1=1/\EqD d d)/\(x.val+1=(C5 d y.val).length/\
  Z7 (x.val+1) (W4 (Y4 (C5 d x.val)) x.val fun(k:Nat)=>List.take 10 (List.drop (k*10) [T.int .i64 (J1 x_2).e,T.int .i64 (J1 x_2).l,T.int .i64 (J1 x_2).t,T.int .i64 (J1 x_2).k,T.int .i64 (J1 x_2).p,
  T.int .i64 (J1 x_2).n,T.int .i64 (J1 x_2).g,T.int .i64 (J1 x_2).s,T.str (J1 x_2).b,T.str (J1 x_2).a])) (Y4 (C5 d y.val)))/\True)/\Lt (d.sec.length-y.val) (d.sec.length-x.val)))/\((decide ((↑(x.val+1):Int)
  <=(60:Int))&&decide ((9:Int)+(↑(x.val+1):Int)- (1:Int)<(d.sec.length:Int)))=false->Le (0+x.val) (C5 d x.val).length/\x.val=(C5 d (lgM d ep)).length/\Z7 x.val (Y4 (C5 d x.val)) (Y4 (C5 d
  (lgM d ep))))):
  Z1 Tryz.prog 112 [.agg d.ts,.int .i64 ep] (G3 (C5 d (lgM d ep))):=
 T7 (code:=c8S) (gC a4D a17 (gC b5z a8n (gC l7 E9 gN))) Tryz.func112 (by kernel_rfl) (by kernel_rfl) (c5Q d ep) h (by kernel_rfl)
theorem d62{t:List UInt8}(h:l4k t=true):U3 t=(J1 t,0)/\S2 (J1 t)=true:=by
 by_cases hq:T8 t=true/\E6 (X5 t)=false
 ·obtain⟨h1,h2⟩:=b6f hq.1 hq.2;rw[h2] at h;rw[h1];exact⟨b41 hq.1 hq.2 h,h⟩
 ·rw[(c8n hq).2] at h;cases h
theorem d6K{r:Rec}(h:S2 r=true):1<=r.e:=by
 have:=(Q8 r).1 h;unfold m7 at this;exact this.1
theorem b7t{d:Dsk}{ep:Int}{x:Nat}:(!l4k (O8 d (9+x))||(J1 (O8 d (9+x))).l !=((x+1:Nat):Int)||decide ((J1 (O8 d (9+x))).e>ep)||decide (((x+1:Nat):Int)>1)&&decide (((C5 d x).getD (0+(((x+1:Nat):Int)-2).toNat) default).e>(J1 (O8 d (9+x))).e))=lgB d ep x:=by
 cases hk:l4k (O8 d (9+x)) with
 |false=>
  have h0:((lgR d x).2==0)=false:=by rw[←hk,b7k];rfl
  unfold lgB bne;rw[h0];rfl
 |true=>
  obtain⟨hr,ho⟩:=d62 hk;have he:=d6K ho;have hr:lgR d x=(J1 (O8 d (9+x)),0):=hr;unfold lgB;rw[hr];by_cases hx:x=0
  ·subst hx;have h1:lgE d 0=1:=by unfold lgE;rw[if_pos rfl]
   rw[h1];simp only[Bool.not_true,Bool.false_or,bne_self_eq_false];rw[Bool.eq_iff_iff];simp only[Bool.or_eq_true,Bool.and_eq_true,Bool.not_eq_true',←Bool.not_eq_true,bne_iff_ne,decide_eq_true_eq,ne_eq,N3];omega
  ·have hl:(C5 d x).getD (0+(((x+1:Nat):Int)-2).toNat) default=(lgR d (x-1)).1:=by
    rw[show 0+(((x+1:Nat):Int)-2).toNat=x-1 by omega]
    exact d4u d (by omega)
   rw[hl];simp only[Bool.not_true,Bool.false_or,bne_self_eq_false];rw[Bool.eq_iff_iff];simp only[lgE,if_neg hx,Bool.or_eq_true,Bool.and_eq_true,Bool.not_eq_true',←Bool.not_eq_true,bne_iff_ne,decide_eq_true_eq,ne_eq,N3];omega
theorem c3u:Z2 Tryz.prog 112 c5B:=by
 rintro⟨d,ep⟩ ⟨hd,h69⟩;dsimp only at hd h69;refine c8s d ep ⟨⟨I5,⟨rfl,⟨rfl,rfl⟩,⟨rfl,rfl⟩,rfl,trivial⟩,⟨rfl,rfl,eqD _⟩,⟨(v4 d 0).symm,V0⟩,trivial⟩,fun x=> ?_⟩
 have hxl:=x.2.1;have hcc:=hd.2.2.1;have hx:=v4 d x.val;refine⟨fun _=>Z5 (by omega),fun _=>Z5 (by omega),fun hc=> ?_,fun hc=> ?_⟩
 ·have hc:9+x.val<d.sec.length:=by
   simp only[Bool.and_eq_true,decide_eq_true_eq] at hc;omega
  have hle:=a3Y hd hc;refine⟨Z5 (by omega),Z5 (by omega),(d,9+x.val),⟨⟨eqD _,by dsimp only;omega,trivial⟩,hc,by dsimp only;omega⟩,O8 d (9+x.val),⟨⟨rfl,trivial⟩,by show(O8 d (9+x.val)).length<=1000;omega⟩,fun _ h=>Z5 (by omega),fun _ h=> ?_,fun _ h=> ?_,?_⟩
  ·have:=of_decide_eq_true h;exact⟨by omega,by omega⟩
  ·have:=of_decide_eq_true h;unfold Lt;omega
  rw[b7t (d:=d) (ep:=ep)];refine⟨fun hb=> ?_,fun hb=> ?_⟩
  ·rw[c8l (by omega) hb x.2.2]
   exact⟨by unfold Le;omega,hx.symm,Z9 _ _⟩
  ·refine⟨⟨by unfold Le;omega,by unfold V6;omega⟩,Z5 (by omega),x.succ (by omega) hb,⟨⟨rfl,⟨rfl,rfl⟩,⟨rfl,rfl⟩,by dsimp only[W5.succ];omega,trivial⟩,⟨rfl,rfl,eqD _⟩,⟨(v4 d (x.val+1)).symm,?_⟩,trivial⟩,by unfold Lt;dsimp only[W5.succ];omega⟩
   show Z7 _ _ (Y4 (C5 d (x.val+1)));have hs:=a3T (C5 d x.val) (lgR d x.val).1;have hk:l4k (O8 d (9+x.val))=true:=by
    rw[←b7t] at hb;simp only[Bool.or_eq_false_iff,Bool.not_eq_false'] at hb;exact hb.1.1.1
   have hr:(lgR d x.val).1=J1 (O8 d (9+x.val)):=by
    show(U3 (O8 d (9+x.val))).1=_;rw[(d62 hk).1]
   rw[b0m,hr];rw[hx,hr] at hs;exact hs
 ·have hq:x.val=d.sec.length-9:=by
   by_cases hn:x.val=d.sec.length-9
   ·exact hn
   ·rw[decide_eq_true (show((x.val+1:Nat):Int)<=60 by omega),decide_eq_true (show(9:Int)+((x.val+1:Nat):Int)-1<(d.sec.length:Int) by omega)] at hc
    cases hc
  rw[b7H hq x.2.2];exact⟨by unfold Le;omega,hx.symm,Z9 _ _⟩
end Go.Proofs.YtokaojbaacnngaaGreat

