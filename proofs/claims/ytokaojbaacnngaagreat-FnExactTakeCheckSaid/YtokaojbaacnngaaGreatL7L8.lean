/- A part of the proof. -/
import Derived.Test.YtokaojbaacnngaaGreatU1U2
import Derived.Test.YtokaojbaacnngaaGreatX11X11rX12X13X14
namespace Go.Proofs.YtokaojbaacnngaaGreat
set_option maxRecDepth 100000
open Go.SS

def dr(x:List UInt8):Nat->List UInt8
 |0=>x
 |i+1=>(dr x i).drop 1
def zB(x:List UInt8):Nat->Bool
 |0=>false
 |i+1=>zB x i||(dr x i).isEmpty
def rcE(x:List UInt8):Fst:=U0 (dr x 9) (zB x 9)
def rcX(x:List UInt8):Rec:=⟨numR (dr x 1),numR (dr x 2),numR (dr x 3),numR (dr x 4),numR (dr x 5),numR (dr x 6),numR (dr x 7),numR (dr x 8),(rcE x).out.getD 0 [],(rcE x).out.getD 1 []⟩
def C7(x:List UInt8):Bool:= !(!(rcE x).fl&&(rcE x).l.isEmpty)||numR x !=108||(((rcE x).out.length:Nat):Int) !=2
def aY:Rec:=⟨0,0,0,0,0,0,0,0,[],[]⟩
noncomputable def U2(b:List UInt8):Rec×Int:=if T6 b=true then
  if C7 (X5 b)=true then(aY,3) else if S3 (rcX (X5 b))=true then(rcX (X5 b),0) else(aY,3)
 else(aY,8)
def c59:Con:=.reff ⟨List UInt8×Nat,fun _=>[.ref 0 0 0],fun x=>[rdr (dr x.1 x.2) (zB x.1 x.2)],fun x=>.int .i64 (numR (dr x.1 x.2)),fun x=>[rdr (dr x.1 (x.2+1)) (zB x.1 (x.2+1))],fun _=>True⟩
theorem b3J:Z7 Tryz.prog 268:=⟨_,Tryz.func268,by kernel_rfl,by kernel_rfl⟩
theorem c01:Z1 Tryz.prog 268 c59:=fun x _=>a7J _ _ _ _ none rfl trivial
noncomputable def eH:Con:=.rel ⟨List UInt8,fun b=>[.bys b],fun b=>.tup [.agg (U2 b).1.ts,.int .i64 (U2 b).2],RdB⟩
noncomputable def a0t:Code:=Tryz.f232.body.getD .skip
theorem pB:Z7 Tryz.prog 232:=⟨_,Tryz.func232,by kernel_rfl,by kernel_rfl⟩
theorem aT(b:List UInt8)(h:
  (decide ((b.length:Int)>(65536:Int))=true->((0:Int)=(U2 b).fst.e/\(0:Int)=(U2 b).fst.l/\(0:Int)=(U2 b).fst.t/\(0:Int)=(U2 b).fst.k/\(0:Int)=(U2 b).fst.p/\(0:Int)=(U2 b).fst.n/\(0:
  Int)=(U2 b).fst.g/\(0:Int)=(U2 b).fst.s/\[]=(U2 b).fst.b/\[]=(U2 b).fst.a/\True)/\(2:Int)=(U2 b).snd/\True)/\(decide ((b.length:Int)>(65536:Int))=false->∃(x:uP.ι),((b=x/\True)/\
  G9 x)/\((!T6 x)=true->((0:Int)=(U2 b).fst.e/\(0:Int)=(U2 b).fst.l/\(0:Int)=(U2 b).fst.t/\(0:Int)=(U2 b).fst.k/\(0:Int)=(U2 b).fst.p/\(0:Int)=(U2 b).fst.n/\(0:Int)=(U2
  b).fst.g/\(0:Int)=(U2 b).fst.s/\[]=(U2 b).fst.b/\[]=(U2 b).fst.a/\True)/\(8:Int)=(U2 b).snd/\True)/\((!T6 x)=false->∃(x_1:(List UInt8×Nat)),(((0=0/\0=0)/\True)/\((1=1/\Z8 1 (fun
  (x_2:Nat)=>[T.bys (X5 x),T.bool false]) fun(x:Nat)=>[T.bys (dr x_1.fst x_1.snd),T.bool (zB x_1.fst x_1.snd)])/\True)/\True)/\∃(x:(List UInt8×Nat)),(((0=0/\0=0)/\True)/\((1=1/\Z8 1 (fun(x:
  Nat)=>[T.bys (dr x_1.fst (x_1.snd+1)),T.bool (zB x_1.fst (x_1.snd+1))]) fun(x_2:Nat)=>[T.bys (dr x.fst x.snd),T.bool (zB x.fst x.snd)])/\True)/\True)/\∃(x_2:(List UInt8×Nat)),(((0=0/\0=0)/\True)/\((1
  =1/\Z8 1 (fun(x_3:Nat)=>[T.bys (dr x.fst (x.snd+1)),T.bool (zB x.fst (x.snd+1))]) fun(x:Nat)=>[T.bys (dr x_2.fst x_2.snd),T.bool (zB x_2.fst x_2.snd)])/\True)/\True)/\∃(x_3:(List UInt8×Nat)),(((0=
  0/\0=0)/\True)/\((1=1/\Z8 1 (fun(x:Nat)=>[T.bys (dr x_2.fst (x_2.snd+1)),T.bool (zB x_2.fst (x_2.snd+1))]) fun(x:Nat)=>[T.bys (dr x_3.fst x_3.snd),T.bool (zB x_3.fst x_3.snd)])/\True)/\True)/\∃
  (x_4:(List UInt8×Nat)),(((0=0/\0=0)/\True)/\((1=1/\Z8 1 (fun(x:Nat)=>[T.bys (dr x_3.fst (x_3.snd+1)),T.bool (zB x_3.fst (x_3.snd+1))]) fun(x:Nat)=>[T.bys (dr x_4.fst x_4.snd),T.bool (zB x_4.fst
  x_4.snd)])/\True)/\True)/\∃(x_5:(List UInt8×Nat)),(((0=0/\0=0)/\True)/\((1=1/\Z8 1 (fun(x:Nat)=>[T.bys (dr x_4.fst (x_4.snd+1)),T.bool (zB x_4.fst (x_4.snd+1))]) fun(x:Nat)=>[T.bys (dr
  x_5.fst x_5.snd),T.bool (zB x_5.fst x_5.snd)])/\True)/\True)/\∃(x_6:(List UInt8×Nat)),(((0=0/\0=0)/\True)/\((1=1/\Z8 1 (fun(x:Nat)=>[T.bys (dr x_5.fst (x_5.snd+1)),T.bool (zB x_5.fst (x_5.snd+
  1))]) fun(x:Nat)=>[T.bys (dr x_6.fst x_6.snd),T.bool (zB x_6.fst x_6.snd)])/\True)/\True)/\∃(x_7:(List UInt8×Nat)),(((0=0/\0=0)/\True)/\((1=1/\Z8 1 (fun(x:Nat)=>[T.bys (dr x_6.fst (x_6.snd+1)),
  T.bool (zB x_6.fst (x_6.snd+1))]) fun(x:Nat)=>[T.bys (dr x_7.fst x_7.snd),T.bool (zB x_7.fst x_7.snd)])/\True)/\True)/\∃(x_8:(List UInt8×Nat)),(((0=0/\0=0)/\True)/\((1=1/\Z8 1 (fun(x:Nat)=>
  [T.bys (dr x_7.fst (x_7.snd+1)),T.bool (zB x_7.fst (x_7.snd+1))]) fun(x:Nat)=>[T.bys (dr x_8.fst x_8.snd),T.bool (zB x_8.fst x_8.snd)])/\True)/\True)/\((!(!(U0 (dr x_8.fst (x_8.snd+1)) (zB x_8.fst (x_8.snd+
  1))).fl&&(U0 (dr x_8.fst (x_8.snd+1)) (zB x_8.fst (x_8.snd+1))).l.isEmpty)||numR (dr x_1.fst x_1.snd) !=(108:Int)||(↑(U0 (dr x_8.fst (x_8.snd+1)) (zB x_8.fst (x_8.snd+1))).out.length:Int) !=(2:Int))=
  true->((0:Int)=(U2 b).fst.e/\(0:Int)=(U2 b).fst.l/\(0:Int)=(U2 b).fst.t/\(0:Int)=(U2 b).fst.k/\(0:Int)=(U2 b).fst.p/\(0:Int)=(U2 b).fst.n/\(0:Int)=(U2 b).fst.g/\(0:Int)=(U2
  b).fst.s/\[]=(U2 b).fst.b/\[]=(U2 b).fst.a/\True)/\(3:Int)=(U2 b).snd/\True)/\((!(!(U0 (dr x_8.fst (x_8.snd+1)) (zB x_8.fst (x_8.snd+1))).fl&&(U0 (dr x_8.fst (x_8.snd+1)) (zB x_8.fst (x_8.snd+
  1))).l.isEmpty)||numR (dr x_1.fst x_1.snd) !=(108:Int)||(↑(U0 (dr x_8.fst (x_8.snd+1)) (zB x_8.fst (x_8.snd+1))).out.length:Int) !=(2:Int))=false->X0 (0:Int) (U0 (dr x_8.fst (x_8.snd+1)) (zB x_8.fst
  (x_8.snd+1))).out.length/\X0 (1:Int) (U0 (dr x_8.fst (x_8.snd+1)) (zB x_8.fst (x_8.snd+1))).out.length/\a92 ((U0 (dr x_8.fst (x_8.snd+1)) (zB x_8.fst (x_8.snd+1))).out.getD 1 [])/\((!S3 (Rec.mk (numR
  (dr x.fst x.snd)) (numR (dr x_2.fst x_2.snd)) (numR (dr x_3.fst x_3.snd)) (numR (dr x_4.fst x_4.snd)) (numR (dr x_5.fst x_5.snd)) (numR (dr x_6.fst x_6.snd)) (numR (dr x_7.fst x_7.snd)) (numR (dr x_8.fst x_8.snd)) ((U0 (dr
  x_8.fst (x_8.snd+1)) (zB x_8.fst (x_8.snd+1))).out.getD 0 []) ((U0 (dr x_8.fst (x_8.snd+1)) (zB x_8.fst (x_8.snd+1))).out.getD 1 [])))=true->((0:Int)=(U2 b).fst.e/\(0:Int)=(U2 b).fst.l/\(0:Int)=
  (U2 b).fst.t/\(0:Int)=(U2 b).fst.k/\(0:Int)=(U2 b).fst.p/\(0:Int)=(U2 b).fst.n/\(0:Int)=(U2 b).fst.g/\(0:Int)=(U2 b).fst.s/\[]=(U2 b).fst.b/\[]=(U2 b).fst.a/\True)/\(3:Int)=
  (U2 b).snd/\True)/\((!S3 (Rec.mk (numR (dr x.fst x.snd)) (numR (dr x_2.fst x_2.snd)) (numR (dr x_3.fst x_3.snd)) (numR (dr x_4.fst x_4.snd)) (numR (dr x_5.fst x_5.snd)) (numR (dr x_6.fst x_6.snd)) (numR (dr x_7.fst
  x_7.snd)) (numR (dr x_8.fst x_8.snd)) ((U0 (dr x_8.fst (x_8.snd+1)) (zB x_8.fst (x_8.snd+1))).out.getD 0 []) ((U0 (dr x_8.fst (x_8.snd+1)) (zB x_8.fst (x_8.snd+1))).out.getD 1 [])))=false->(numR (dr x.fst x.snd)
  =(U2 b).fst.e/\numR (dr x_2.fst x_2.snd)=(U2 b).fst.l/\numR (dr x_3.fst x_3.snd)=(U2 b).fst.t/\numR (dr x_4.fst x_4.snd)=(U2 b).fst.k/\numR (dr x_5.fst x_5.snd)=(U2 b).fst.p/\numR (dr x_6.fst x_6.snd)=
  (U2 b).fst.n/\numR (dr x_7.fst x_7.snd)=(U2 b).fst.g/\numR (dr x_8.fst x_8.snd)=(U2 b).fst.s/\(U0 (dr x_8.fst (x_8.snd+1)) (zB x_8.fst (x_8.snd+1))).out.getD 0 []=(U2 b).fst.b/\(U0 (dr x_8.fst (x_8.snd
  +1)) (zB x_8.fst (x_8.snd+1))).out.getD 1 []=(U2 b).fst.a/\True)/\(0:Int)=(U2 b).snd/\True))))):
  Z2 Tryz.prog 232 [.bys b] (.tup [.agg (U2 b).1.ts,.int .i64 (U2 b).2]):=
 T4 (code:=a0t) (gC qH vB (gC c01 b3J (gC eZ pY (gC qX xC (gC yD k9 gN))))) Tryz.func232 (by kernel_rfl) (by kernel_rfl) Z0 h (by kernel_rfl)
theorem c2S(l:List UInt8)(n:Int)(h0:0<=n)(h:n<=255):(P5 l n).length<=255:=by
 unfold P5;split
 ·rw[List.length_replicate];omega
 ·rw[List.length_take];omega
theorem c5h{α:Type}(d:α)(L:List α)(x:α)(i:Nat)(hi:i<L.length+1):(L++[x]).getD i d=if i=L.length then x else L.getD i d:=by
 by_cases h:i=L.length
 ·subst h;rw[if_pos rfl,C0,eT (V5 _)]
  simp
 ·rw[if_neg h,C0,kE (by omega),←C0]
theorem b7l(l:List UInt8)(fl:Bool):∀i j,((B9 l fl i).out.getD j []).length<=255
 |0,j=>T0 _
 |i+1,j=>by
  have hm:=e9 (B9 l fl i).l;show(((B9 l fl i).out++[P5 ((B9 l fl i).l.drop 1) (numR (B9 l fl i).l)]).getD j []).length<=255;by_cases hj:j<(B9 l fl i).out.length+1
  ·rw[c5h [] _ _ _ hj];split
   ·exact c2S _ _ hm.1 (by omega)
   ·exact b7l l fl i j
  ·rw[C0,List.getElem?_eq_none (by rw[s7];simp;omega)]
   exact T0 _
theorem c4S{b:List UInt8}(h:T6 b=false):U2 b=(aY,8):=by unfold U2;rw[if_neg (by rw[h];simp)]
theorem b41{b:List UInt8}(h:T6 b=true)(hb:C7 (X5 b)=true):U2 b=(aY,3):=by unfold U2;rw[if_pos h,if_pos hb]
theorem b7D{b:List UInt8}(h:T6 b=true)(hb:C7 (X5 b)=false)(hr:S3 (rcX (X5 b))=false):U2 b=(aY,3):=by unfold U2;rw[if_pos h,if_neg (by rw[hb];simp),if_neg (by rw[hr];simp)]
theorem a7V{b:List UInt8}(h:T6 b=true)(hb:C7 (X5 b)=false)(hr:S3 (rcX (X5 b))=true):U2 b=(rcX (X5 b),0):=by unfold U2;rw[if_pos h,if_neg (by rw[hb];simp),if_pos hr]
theorem jF:Z1 Tryz.prog 232 eH:=by
 intro(b:List UInt8) (hb:b.length<=1000);refine aT b ⟨fun h=>by have:=D8 h;omega,fun _=>⟨b,⟨⟨rfl,trivial⟩,by unfold G9;omega⟩,fun h=> ?_,fun h=>⟨(X5 b,0),⟨(by repeat' first|exact trivial|exact rfl|exact Z9 _ _|exact U3 _|exact U1|exact S7 _|exact V5 _|exact T0 _|refine And.intro ?_ ?_),⟨⟨rfl,fun _ _=>rfl⟩,trivial⟩,trivial⟩,(X5 b,1),⟨(by repeat' first|exact trivial|exact rfl|exact Z9 _ _|exact U3 _|exact U1|exact S7 _|exact V5 _|exact T0 _|refine And.intro ?_ ?_),⟨⟨rfl,fun _ _=>rfl⟩,trivial⟩,trivial⟩,(X5 b,2),⟨(by repeat' first|exact trivial|exact rfl|exact Z9 _ _|exact U3 _|exact U1|exact S7 _|exact V5 _|exact T0 _|refine And.intro ?_ ?_),⟨⟨rfl,fun _ _=>rfl⟩,trivial⟩,trivial⟩,(X5 b,3),⟨(by repeat' first|exact trivial|exact rfl|exact Z9 _ _|exact U3 _|exact U1|exact S7 _|exact V5 _|exact T0 _|refine And.intro ?_ ?_),⟨⟨rfl,fun _ _=>rfl⟩,trivial⟩,trivial⟩,(X5 b,4),⟨(by repeat' first|exact trivial|exact rfl|exact Z9 _ _|exact U3 _|exact U1|exact S7 _|exact V5 _|exact T0 _|refine And.intro ?_ ?_),⟨⟨rfl,fun _ _=>rfl⟩,trivial⟩,trivial⟩,(X5 b,5),⟨(by repeat' first|exact trivial|exact rfl|exact Z9 _ _|exact U3 _|exact U1|exact S7 _|exact V5 _|exact T0 _|refine And.intro ?_ ?_),⟨⟨rfl,fun _ _=>rfl⟩,trivial⟩,trivial⟩,(X5 b,6),⟨(by repeat' first|exact trivial|exact rfl|exact Z9 _ _|exact U3 _|exact U1|exact S7 _|exact V5 _|exact T0 _|refine And.intro ?_ ?_),⟨⟨rfl,fun _ _=>rfl⟩,trivial⟩,trivial⟩,(X5 b,7),⟨(by repeat' first|exact trivial|exact rfl|exact Z9 _ _|exact U3 _|exact U1|exact S7 _|exact V5 _|exact T0 _|refine And.intro ?_ ?_),⟨⟨rfl,fun _ _=>rfl⟩,trivial⟩,trivial⟩,(X5 b,8),⟨(by repeat' first|exact trivial|exact rfl|exact Z9 _ _|exact U3 _|exact U1|exact S7 _|exact V5 _|exact T0 _|refine And.intro ?_ ?_),⟨⟨rfl,fun _ _=>rfl⟩,trivial⟩,trivial⟩,fun hc=> ?_,fun hc=> ?_⟩⟩⟩
 ·rw[c4S (by simpa using h)]
  exact(by repeat' first|exact trivial|exact rfl|exact Z9 _ _|exact U3 _|exact U1|exact S7 _|exact V5 _|exact T0 _|refine And.intro ?_ ?_)
 ·rw[b41 (by simpa using h) hc]
  exact(by repeat' first|exact trivial|exact rfl|exact Z9 _ _|exact U3 _|exact U1|exact S7 _|exact V5 _|exact T0 _|refine And.intro ?_ ?_)
 ·have hu:T6 b=true:=by simpa using h
  have hc:C7 (X5 b)=false:=hc;have h2:(rcE (X5 b)).out.length=2:=by
   unfold C7 at hc;simp only[vG,bne_eq_false_iff_eq] at hc;omega
  refine⟨⟨by omega,by show(0:Int)<((rcE (X5 b)).out.length:Int);omega⟩,⟨by omega,by show(1:Int)<((rcE (X5 b)).out.length:Int);omega⟩,by have:=b7l (dr (X5 b) 9) (zB (X5 b) 9) (numR (dr (X5 b) 9)).toNat 1;unfold a92;show((B9 (dr (X5 b) 9) (zB (X5 b) 9) (numR (dr (X5 b) 9)).toNat).out.getD 1 []).length<_;omega,fun hr=> ?_,fun hr=> ?_⟩
  ·have hr:(!S3 (rcX (X5 b)))=true:=by
    unfold rcX rcE;dsimp only[Nat.reduceAdd] at hr ⊢;exact hr
   have hr:S3 (rcX (X5 b))=false:=by rw[sB] at hr;exact hr
   rw[b7D hu hc hr];exact(by repeat' first|exact trivial|exact rfl|exact Z9 _ _|exact U3 _|exact U1|exact S7 _|exact V5 _|exact T0 _|refine And.intro ?_ ?_)
  ·have hr:(!S3 (rcX (X5 b)))=false:=by
    unfold rcX rcE;dsimp only[Nat.reduceAdd] at hr ⊢;exact hr
   have hr:S3 (rcX (X5 b))=true:=by rw[tE] at hr;exact hr
   rw[a7V hu hc hr];unfold rcX rcE;dsimp only[Nat.reduceAdd];exact⟨⟨rfl,rfl,rfl,rfl,rfl,rfl,rfl,rfl,rfl,rfl,trivial⟩,rfl,trivial⟩
noncomputable def lgR(d:Dsk)(i:Nat):Rec×Int:=U2 (O7 d (9+i))
noncomputable def lgE(d:Dsk)(i:Nat):Int:=if i=0 then 1 else(lgR d (i-1)).1.e
noncomputable def cU(d:Dsk)(ep:Int)(i:Nat):Bool:=((lgR d i).2 !=0||(lgR d i).1.l !=(i:Int)+1|| !W8 (lgR d i).1.e (lgE d i) ep)
noncomputable def D7(d:Dsk)(m:Nat):List Rec:=(List.range m).map fun i=>(lgR d i).1
noncomputable def v8(d:Dsk)(ep:Int):Nat:=if Q4 (d.sec.length-9) (cU d ep)= -1 then d.sec.length-9 else(Q4 (d.sec.length-9) (cU d ep)).toNat
def LgS(x:Dsk×Int):Prop:=G7 x.1
noncomputable def b3L(d:Dsk)(ep:Int):Nat->Ann
 |0=>.one (V9 (d.sec.length-9) (cU d ep)) (fun x=>⟨[(1,.int .i64 ep),(2,.ref 0 0 0),(5,.osl 1 0 x.1),(6,.int .i64 (lgE d x.1)),(7,.int .i64 (9+x.1:Nat))],[nA d,w9 (D7 d x.1)]⟩) (fun x=>d.sec.length-x.1) [.box 0,.arr 1] [.box 0,.arr 3] (fun _=>Z0)
 |_=>.none
noncomputable def b4d:Con:=.rmk ⟨Dsk×Int,fun x=>[.agg x.1.ts,.int .i64 x.2],fun _=>[],fun x=>.osl 0 0 (v8 x.1 x.2),fun x=>[w9 (D7 x.1 (v8 x.1 x.2))],LgS⟩
noncomputable def b0d:Code:=Tryz.f182.body.getD .skip
theorem a0v:Z7 Tryz.prog 182:=⟨_,Tryz.func182,by kernel_rfl,by kernel_rfl⟩
theorem b1R(d:Dsk)(ep:Int)(h:
  (∃(x:V9 (d.sec.length-9) (cU d ep)),(ep=ep/\(0=0/\0=0)/\(0=0/\0=x.val)/\(1:Int)=lgE d x.val/\(9:Int)=(↑(9+x.val):Int)/\True)/\(1=1/\1=1/\zR d d)/\(0=(D7 d x.val).length/\Z8 0
  (fun(k:Nat)=>List.take 10 (List.drop (k*10) [])) (Y5 (D7 d x.val)))/\True)/\∀(x:V9 (d.sec.length-9) (cU d ep)),(decide ((↑(9+x.val):Int)<(d.sec.length:Int))=true->∃(x_1:qQ.ι),(((zR d
  x_1.fst)/\(↑(9+x.val):Int)=(x_1.snd:Int)/\True)/\AtB x_1)/\Lt (O7 x_1.fst x_1.snd).length 140737488355329/\∃(x_2:(List UInt8)),((O7 x_1.fst x_1.snd=x_2/\True)/\RdB x_2)/\(((U2 x_2).snd !=(0:Int))=
  false->X8 .i64 ((x.val:Int)+(1:Int)))/\(((U2 x_2).snd !=(0:Int)||(U2 x_2).fst.l !=(x.val:Int)+(1:Int)|| !W8 (U2 x_2).fst.e (lgE d x.val) ep)=true->((0=0/\x.val=v8 d ep)/\True)/\(Y4 Y5 (D7
  d x.val) (D7 d (v8 d ep)))/\True)/\(((U2 x_2).snd !=(0:Int)||(U2 x_2).fst.l !=(x.val:Int)+(1:Int)|| !W8 (U2 x_2).fst.e (lgE d x.val) ep)=false->(Le x.val (D7 d x.val).length/\V7 x.val 1 96)/\X8 .i64
  ((↑(9+x.val):Int)+(1:Int))/\∃(y:V9 (d.sec.length-9) (cU d ep)),((ep=ep/\(0=0/\0=0)/\(0=0/\x.val+1=y.val)/\(U2 x_2).fst.e=lgE d y.val/\(↑(9+x.val):Int)+(1:Int)=(↑(9+y.val):Int)/\
  True)/\(1=1/\1=1/\zR d d)/\(x.val+1=(D7 d y.val).length/\Z8 (x.val+1) (W6 (Y5 (D7 d x.val)) x.val fun(k:Nat)=>List.take 10 (List.drop (k*10) [T.int .i64 (U2 x_2).fst.e,T.int .i64 (U2
  x_2).fst.l,T.int .i64 (U2 x_2).fst.t,T.int .i64 (U2 x_2).fst.k,T.int .i64 (U2 x_2).fst.p,T.int .i64 (U2 x_2).fst.n,T.int .i64 (U2 x_2).fst.g,T.int .i64 (U2 x_2).fst.s,T.str (U2 x_2).fst.b,T.str (U2
  x_2).fst.a])) (Y5 (D7 d y.val)))/\True)/\Lt (d.sec.length-y.val) (d.sec.length-x.val)))/\(decide ((↑(9+x.val):Int)<(d.sec.length:Int))=false->((0=0/\x.val=v8 d ep)/\True)/\(Y4 Y5 (D7 d x.val)
  (D7 d (v8 d ep)))/\True)):
  V3 Tryz.prog 182 [.agg d.ts,.int .i64 ep] [] (.osl 0 0 (v8 d ep)) [w9 (D7 d (v8 d ep))]:=
 v5 (code:=b0d) (gC sL zN (gC a23 nI (gC jF pB (gC P2 R8 gN)))) Tryz.func182 (by kernel_rfl) (by kernel_rfl) (b3L d ep) [[.arr 1]] h (by kernel_rfl)
theorem q7(d:Dsk)(m:Nat):(D7 d m).length=m:=by unfold D7;simp
theorem c6N(d:Dsk){m i:Nat}(h:i<m):(D7 d m).getD i default=(lgR d i).1:=by
 unfold D7;rw[C0,sJ,List.getElem?_range h]
 rfl
theorem a2E(d:Dsk)(m:Nat):D7 d (m+1)=D7 d m++[(lgR d m).1]:=by
 unfold D7;rw[List.range_succ,List.map_append];rfl
theorem b5z{d:Dsk}{ep:Int}{m:Nat}(hm:m<d.sec.length-9)(h:cU d ep m=true)(hp:∀i,i<m->cU d ep i=false):v8 d ep=m:=by
 unfold v8;rw[M1 hm h hp,if_neg (by omega),v4]
theorem a9N{d:Dsk}{ep:Int}{m:Nat}(hm:m=d.sec.length-9)(hp:∀i,i<m->cU d ep i=false):v8 d ep=m:=by
 unfold v8;rw[J4 (fun i hi=>hp i (by omega)),if_pos rfl,hm]
theorem a5w:Z1 Tryz.prog 182 b4d:=by
 rintro⟨d,ep⟩ (hd:G7 d);have hd':=hd;obtain⟨q1,q2,q3,q4,_⟩:=hd';refine⟨b1R d ep ⟨⟨E5,⟨rfl,⟨rfl,rfl⟩,⟨rfl,rfl⟩,rfl,rfl,trivial⟩,⟨rfl,rfl,xL _⟩,⟨(q7 d 0).symm,U1⟩,trivial⟩,fun x=>⟨fun hc=> ?_,fun hc=> ?_⟩⟩,rfl,vW _⟩
 ·have hc:9+x.val<d.sec.length:=by have:=D8 hc;omega
  have hle:=oH hd hc;have hx:=q7 d x.val;refine⟨(d,9+x.val),⟨⟨xL _,rfl,trivial⟩,hc,by dsimp only;omega⟩,by unfold Lt;dsimp only;omega,O7 d (9+x.val),⟨⟨rfl,trivial⟩,by show(O7 d (9+x.val)).length<=1000;omega⟩,fun _=>Z5 (by omega),fun hb=> ?_,fun hb=> ?_⟩
  ·have hb:cU d ep x.val=true:=hb;rw[b5z (by omega) hb x.2.2]
   exact⟨⟨⟨rfl,rfl⟩,trivial⟩,⟨rfl,Z9 _ _⟩,trivial⟩
  ·have hb:cU d ep x.val=false:=hb;refine⟨⟨by rw[hx];exact V5 _,by unfold V7;omega⟩,Z5 (by omega),x.succ (by omega) hb,⟨⟨rfl,⟨rfl,rfl⟩,⟨rfl,rfl⟩,?_,by dsimp only[V9.succ];omega,trivial⟩,⟨rfl,rfl,xL _⟩,⟨(q7 d (x.val+1)).symm,?_⟩,trivial⟩,by unfold Lt;dsimp only[V9.succ];omega⟩
   ·dsimp only[V9.succ];unfold lgE;rw[if_neg (by omega)]
    rfl
   ·show Z8 _ _ (Y5 (D7 d (x.val+1)));rw[a2E];have:=oJ (D7 d x.val) (lgR d x.val).1;rw[hx] at this;exact this
 ·have hx:x.val=d.sec.length-9:=by have:=x.2.1;have:=yQ hc;omega
  rw[a9N hx x.2.2];exact⟨⟨⟨rfl,rfl⟩,trivial⟩,⟨rfl,Z9 _ _⟩,trivial⟩
end Go.Proofs.YtokaojbaacnngaaGreat

namespace Go.Proofs.YtokaojbaacnngaaGreat
set_option maxRecDepth 100000
open Go.SS

theorem c5p{r:List UInt8}(hr:0<r.length):(∃out,T1 r=some out/\out.length=2/\U0 r false=⟨[],false,out⟩)∨((∀out,T1 r=some out->out.length≠2)/\(!(!(U0 r false).fl&&(U0 r false).l.isEmpty)||(((U0 r false).out.length:Nat):Int) !=2)=true):=by
 have hfs:=b6b r hr (K4 r);have hcn:(numR r).toNat=K4 r:=by unfold numR K4;exact v4 _
 have hend:U0 r false=B9 r false (K4 r):=by unfold U0;rw[hcn]
 have hall:T1 r=if K4 r>100 then none else match zU r (K4 r) with
   |some (p,out)=>if p=r.length then some out else none
   |none=>none:=by
  unfold T1;by_cases hc:K4 r>100
  ·rw[if_pos (.inr hc),if_pos hc]
  ·rw[if_neg (by omega),if_neg hc]
   rfl
 rw[hend];cases hf:zU r (K4 r) with
 |none=>
  rw[hf] at hfs hall;simp only at hfs;have hall:T1 r=none:=by rw[hall];split<;>rfl
  refine .inr ⟨fun out h=>(by rw[hall] at h;cases h),?_⟩
  rw[hfs];rfl
 |some y=>
  obtain⟨p,out⟩:=y;rw[hf] at hfs hall;simp only at hfs hall;obtain⟨hfs,hpl⟩:=hfs;rw[hfs];have ho:out.length=K4 r:=nK hf;by_cases hp:p=r.length
  ·have hem:r.drop p=[]:=by rw[List.drop_eq_nil_iff];omega
   rw[if_pos hp] at hall;by_cases h2:out.length=2
   ·rw[if_neg (by omega)] at hall
    exact .inl ⟨out,hall,h2,by rw[hem]⟩
   ·refine .inr ⟨fun o h=> ?_,?_⟩
    ·rw[hall] at h;split at h
     ·cases h
     ·cases h;exact h2
    ·simp only[bne_iff_ne.2 (show((out.length:Nat):Int)≠2 by omega),Bool.or_true]
  ·have hem:(r.drop p).isEmpty=false:=by
    rw[Bool.eq_false_iff,ne_eq,List.isEmpty_iff,List.drop_eq_nil_iff];omega
   have hall:T1 r=none:=by rw[hall,if_neg hp];split<;>rfl
   refine .inr ⟨fun out h=>(by rw[hall] at h;cases h),?_⟩
   simp[hem]
theorem rZ(x:List UInt8):∀i,dr x i=x.drop i
 |0=>rfl
 |i+1=>by
  show(dr x i).drop 1=_;rw[rZ x i,List.drop_drop]
theorem aD(x:List UInt8):∀i,zB x i=decide (x.length<i)
 |0=>rfl
 |i+1=>by
  show(zB x i||(dr x i).isEmpty)=_;rw[aD x i,rZ,Bool.eq_iff_iff,oU,t9,List.isEmpty_iff,List.drop_eq_nil_iff,t9];omega
theorem b2A{x:List UInt8}(h:x.length<10):C7 x=true:=by
 have hf:(rcE x).fl=true:=by
  unfold rcE;rw[rZ,aD];by_cases h9:x.length=9
  ·rw[List.drop_eq_nil_iff.2 (by omega)]
   exact a7h _ _
  ·rw[jB (by omega)]
   exact bO _ _
 unfold C7;rw[hf];rfl
noncomputable def m5(t:List UInt8):{r:List UInt8×Bool//r=(X5 t,T6 t)}:=Classical.choice ⟨⟨_,rfl⟩⟩
noncomputable def a0g:Con:=.rel ⟨List UInt8,fun t=>[.str t],fun t=>.tup [.str (m5 t).1.1,.bool (m5 t).1.2],G9⟩
theorem pA:Z7 Tryz.prog 230:=⟨_,Tryz.func230,by kernel_rfl,by kernel_rfl⟩
theorem jG:Z1 Tryz.prog 230 a0g:=by
 intro(t:List UInt8) ht;have h:=tO t ht;have e1:(m5 t).1.1=X5 t:=by rw[(m5 t).2]
 have e2:(m5 t).1.2=T6 t:=by rw[(m5 t).2]
 show Z2 _ _ _ (.tup [.str (m5 t).1.1,.bool (m5 t).1.2]);rw[e1,e2];exact h
noncomputable def kL(t:List UInt8):{r:List (List UInt8)×Bool//r=((T1 t).getD [],(T1 t).isSome)}:=Classical.choice ⟨⟨_,rfl⟩⟩
noncomputable def a73:Con:=.rel ⟨List UInt8,fun t=>[.str t],fun t=>.tup [L3 (kL t).1.1,.bool (kL t).1.2],G9⟩
theorem iS:Z7 Tryz.prog 231:=⟨_,Tryz.func231,by kernel_rfl,by kernel_rfl⟩
theorem a0V:Z1 Tryz.prog 231 a73:=by
 intro(t:List UInt8) ht;have h:=kM t ht;have e1:(kL t).1.1=(T1 t).getD []:=by rw[(kL t).2]
 have e2:(kL t).1.2=(T1 t).isSome:=by rw[(kL t).2]
 show Z2 _ _ _ (.tup [L3 (kL t).1.1,.bool (kL t).1.2]);rw[e1,e2];exact h
noncomputable def l4p(t:List UInt8):{r:Rec×Bool//r=(if T6 t=true/\C7 (X5 t)=false then rcX (X5 t) else aY,(U2 t).2==0)}:=Classical.choice ⟨⟨_,rfl⟩⟩
noncomputable def H6(t:List UInt8):Rec:=(l4p t).1.1
noncomputable def bK(t:List UInt8):Bool:=(l4p t).1.2
theorem b56(t:List UInt8):H6 t=if T6 t=true/\C7 (X5 t)=false then rcX (X5 t) else aY:=by unfold H6;rw[(l4p t).2]
theorem a47(t:List UInt8):bK t=((U2 t).2==0):=by unfold bK;rw[(l4p t).2]
noncomputable def b05:Con:=.rel ⟨List UInt8,fun t=>[.str t],fun t=>.tup [.agg (H6 t).ts,.bool (bK t)],RdB⟩
noncomputable def b4I:Code:=Tryz.f180.body.getD .skip
theorem cL:Z7 Tryz.prog 180:=⟨_,Tryz.func180,by kernel_rfl,by kernel_rfl⟩
theorem b03(t:List UInt8)(h:
  ∃(x:(List UInt8)),((t=x/\True)/\G9 x)/\((!(m5 x).val.snd||decide ((↑(m5 x).val.fst.length:Int)<(10:Int)))=false->X0 (0:Int) (m5 x).val.fst.length)/\((!(m5 x).val.snd||decide ((↑(m5
  x).val.fst.length:Int)<(10:Int))||(↑((m5 x).val.fst.getD 0 (0:UInt8)).toNat:Int) !=(108:Int))=true->((0:Int)=(H6 t).e/\(0:Int)=(H6 t).l/\(0:Int)=(H6 t).t/\(0:Int)=(H6 t).k/\(0:Int)=
  (H6 t).p/\(0:Int)=(H6 t).n/\(0:Int)=(H6 t).g/\(0:Int)=(H6 t).s/\[]=(H6 t).b/\[]=(H6 t).a/\True)/\false=bK t/\True)/\((!(m5 x).val.snd||decide ((↑(m5 x).val.fst.length:Int)<(10:Int))||
  (↑((m5 x).val.fst.getD 0 (0:UInt8)).toNat:Int) !=(108:Int))=false->InC (9:Int) (m5 x).val.fst.length/\∃(x_1:(List UInt8)),((List.drop 9 (m5 x).val.fst=x_1/\True)/\G9 x_1)/\((!(kL x_1).val.snd||(↑(kL
  x_1).val.fst.length:Int) !=(2:Int))=true->((0:Int)=(H6 t).e/\(0:Int)=(H6 t).l/\(0:Int)=(H6 t).t/\(0:Int)=(H6 t).k/\(0:Int)=(H6 t).p/\(0:Int)=(H6 t).n/\(0:Int)=(H6 t).g/\(0:Int)=
  (H6 t).s/\[]=(H6 t).b/\[]=(H6 t).a/\True)/\false=bK t/\True)/\((!(kL x_1).val.snd||(↑(kL x_1).val.fst.length:Int) !=(2:Int))=false->X0 (1:Int) (m5 x).val.fst.length/\X0 (2:Int) (m5
  x).val.fst.length/\X0 (3:Int) (m5 x).val.fst.length/\X0 (4:Int) (m5 x).val.fst.length/\X0 (5:Int) (m5 x).val.fst.length/\X0 (6:Int) (m5 x).val.fst.length/\X0 (7:Int) (m5 x).val.fst.length/\X0 (8:Int)
  (m5 x).val.fst.length/\X0 (0:Int) (kL x_1).val.fst.length/\X0 (1:Int) (kL x_1).val.fst.length/\K6 ((kL x_1).val.fst.getD 1 []).length/\(IntKind.i64.wrap (↑((m5 x).val.fst.getD 1 (0:UInt8)).toNat:Int)=(H6
  t).e/\IntKind.i64.wrap (↑((m5 x).val.fst.getD 2 (0:UInt8)).toNat:Int)=(H6 t).l/\IntKind.i64.wrap (↑((m5 x).val.fst.getD 3 (0:UInt8)).toNat:Int)=(H6 t).t/\IntKind.i64.wrap (↑((m5 x).val.fst.getD 4 (0:
  UInt8)).toNat:Int)=(H6 t).k/\IntKind.i64.wrap (↑((m5 x).val.fst.getD 5 (0:UInt8)).toNat:Int)=(H6 t).p/\IntKind.i64.wrap (↑((m5 x).val.fst.getD 6 (0:UInt8)).toNat:Int)=(H6 t).n/\IntKind.i64.wrap (↑((m5
  x).val.fst.getD 7 (0:UInt8)).toNat:Int)=(H6 t).g/\IntKind.i64.wrap (↑((m5 x).val.fst.getD 8 (0:UInt8)).toNat:Int)=(H6 t).s/\(kL x_1).val.fst.getD 0 []=(H6 t).b/\(kL x_1).val.fst.getD 1 []=(H6 t).a/\True)
  /\S3 (Rec.mk (IntKind.i64.wrap (↑((m5 x).val.fst.getD 1 (0:UInt8)).toNat:Int)) (IntKind.i64.wrap (↑((m5 x).val.fst.getD 2 (0:UInt8)).toNat:Int)) (IntKind.i64.wrap (↑((m5 x).val.fst.getD 3 (0:UInt8)).toNat:Int))
  (IntKind.i64.wrap (↑((m5 x).val.fst.getD 4 (0:UInt8)).toNat:Int)) (IntKind.i64.wrap (↑((m5 x).val.fst.getD 5 (0:UInt8)).toNat:Int)) (IntKind.i64.wrap (↑((m5 x).val.fst.getD 6 (0:UInt8)).toNat:Int)) (IntKind.i64.wrap
  (↑((m5 x).val.fst.getD 7 (0:UInt8)).toNat:Int)) (IntKind.i64.wrap (↑((m5 x).val.fst.getD 8 (0:UInt8)).toNat:Int)) ((kL x_1).val.fst.getD 0 []) ((kL x_1).val.fst.getD 1 []))=bK t/\True))):
  Z2 Tryz.prog 180 [.str t] (.tup [.agg (H6 t).ts,.bool (bK t)]):=
 T4 (code:=b4I) (gC jG pA (gC a0V iS (gC sY wY gN))) Tryz.func180 (by kernel_rfl) (by kernel_rfl) Z0 h (by kernel_rfl)
theorem b5A{x:List UInt8}(h:10<=x.length):rcE x=U0 (x.drop 9) false:=by
 unfold rcE;rw[rZ,aD,uY (by omega)]
theorem c6i(x:List UInt8)(i:Nat):IntKind.i64.wrap ((x.getD i 0).toNat:Int)=numR (dr x i):=by
 rw[qR,rZ];unfold numR;rw[C0,C0,List.getElem?_drop,Nat.add_zero]
theorem b7N{t:List UInt8}(h:¬ (T6 t=true/\C7 (X5 t)=false)):H6 t=aY/\bK t=false:=by
 rw[b56,a47,if_neg h];refine⟨rfl,?_⟩
 cases hu:T6 t with
 |false=>rw[c4S hu];rfl
 |true=>
  cases hb:C7 (X5 t) with
  |true=>rw[b41 hu hb];rfl
  |false=>exact absurd ⟨hu,hb⟩ h
theorem a78{t:List UInt8}(hu:T6 t=true)(hb:C7 (X5 t)=false):H6 t=rcX (X5 t)/\bK t=S3 (rcX (X5 t)):=by
 rw[b56,a47,if_pos ⟨hu,hb⟩];refine⟨rfl,?_⟩
 cases hr:S3 (rcX (X5 t)) with
 |true=>rw[a7V hu hb hr];rfl
 |false=>rw[b7D hu hb hr];rfl
theorem c50(t:List UInt8):(X5 t).length<=t.length:=by
 unfold X5;split
 ·rw[List.length_take];omega
 ·exact T0 _
theorem a5b:Z1 Tryz.prog 180 b05:=by
 intro(t:List UInt8) (hb:t.length<=1000);have hx:=c50 t;have e1:(m5 t).1.1=X5 t:=by rw[(m5 t).2]
 have e2:(m5 t).1.2=T6 t:=by rw[(m5 t).2]
 have hz:∀{p:Bool},(¬ (T6 t=true/\C7 (X5 t)=false))->((0:Int)=(H6 t).e/\(0:Int)=(H6 t).l/\(0:Int)=(H6 t).t/\(0:Int)=(H6 t).k/\(0:Int)=(H6 t).p/\(0:Int)=(H6 t).n/\(0:Int)=(H6 t).g/\(0:Int)=(H6 t).s/\[]=(H6 t).b/\[]=(H6 t).a/\True)/\false=bK t/\True:=fun h=>by
  rw[(b7N h).1,(b7N h).2];exact⟨⟨rfl,rfl,rfl,rfl,rfl,rfl,rfl,rfl,rfl,rfl,trivial⟩,rfl,trivial⟩
 refine b03 t ⟨t,⟨⟨rfl,trivial⟩,by unfold G9;omega⟩,?_⟩
 rw[e1,e2];refine⟨fun h=> ?_,fun h=>hz (p:=true) fun hq=> ?_,fun h=> ?_⟩
 ·simp only[vG,tV] at h;exact⟨by omega,by omega⟩
 ·obtain⟨hu,hr⟩:=hq;have hl:10<=(X5 t).length:=by
   by_cases hl:(X5 t).length<10
   ·rw[b2A hl] at hr;cases hr
   ·omega
  have h108:numR (X5 t)=108:=by
   unfold C7 at hr;simp only[vG,bne_eq_false_iff_eq] at hr;exact hr.1.2
  have h108:(((X5 t).getD 0 0).toNat:Int)=108:=h108;rw[hu,h108,uY (by omega)] at h
  cases h
 ·simp only[vG,tV,tE,bne_eq_false_iff_eq] at h;obtain⟨⟨hu,hl⟩,h108⟩:=h;have hl:10<=(X5 t).length:=by omega
  have hn:numR (X5 t)=108:=h108;have f1:(kL ((X5 t).drop 9)).1.1=(T1 ((X5 t).drop 9)).getD []:=by rw[(kL _).2]
  have f2:(kL ((X5 t).drop 9)).1.2=(T1 ((X5 t).drop 9)).isSome:=by rw[(kL _).2]
  have hd:((X5 t).drop 9).length=(X5 t).length-9:=List.length_drop;refine⟨⟨by omega,by omega⟩,(X5 t).drop 9,⟨⟨rfl,trivial⟩,by unfold G9;omega⟩,?_⟩
  rw[f1,f2];have hbad:C7 (X5 t)=(!(!(U0 ((X5 t).drop 9) false).fl&&(U0 ((X5 t).drop 9) false).l.isEmpty)||(((U0 ((X5 t).drop 9) false).out.length:Nat):Int) !=2):=by
   unfold C7;rw[b5A hl,hn];simp
  rcases c5p (r:=(X5 t).drop 9) (by omega) with⟨out,ha,h2,hf⟩|⟨ha,hf⟩
  ·have hg:C7 (X5 t)=false:=by rw[hbad,hf,h2];rfl
   have hout:(rcE (X5 t)).out=out:=by rw[b5A hl,hf]
   have hle:=b7l (dr (X5 t) 9) (zB (X5 t) 9) (numR (dr (X5 t) 9)).toNat 1;have hle:(out.getD 1 []).length<=255:=by rw[←hout];exact hle
   rw[ha];refine⟨fun hc=> ?_,fun _=> ?_⟩
   ·simp[h2] at hc
   ·simp only[c6i];rw[(a78 hu hg).1,(a78 hu hg).2];unfold rcX;rw[hout];show _/\_/\_/\_/\_/\_/\_/\_/\X0 0 out.length/\X0 1 out.length/\_;exact⟨⟨by omega,by omega⟩,⟨by omega,by omega⟩,⟨by omega,by omega⟩,⟨by omega,by omega⟩,⟨by omega,by omega⟩,⟨by omega,by omega⟩,⟨by omega,by omega⟩,⟨by omega,by omega⟩,⟨by omega,by omega⟩,⟨by omega,by omega⟩,by show(out.getD 1 []).length<_;omega,⟨rfl,rfl,rfl,rfl,rfl,rfl,rfl,rfl,rfl,rfl,trivial⟩,rfl,trivial⟩
  ·have hg:C7 (X5 t)=true:=by rw[hbad];exact hf
   refine⟨fun _=>hz (p:=true) fun hq=>(by rw[hg] at hq;cases hq.2),fun hc=> ?_⟩
   cases hs:T1 ((X5 t).drop 9) with
   |none=>rw[hs] at hc;simp at hc
   |some out=>
    rw[hs] at hc;have:=ha out hs;simp at hc;omega
noncomputable def b63:Con:=.rel ⟨Dsk×Int,fun x=>[.agg x.1.ts,.int .i64 x.2],fun x=>F3 (D7 x.1 (v8 x.1 x.2)),fun x=>G7 x.1/\x.1.sec.length=69⟩
noncomputable def b9T(d:Dsk)(ep:Int):Nat->Ann
 |0=>.one (V9 (d.sec.length-9) (cU d ep)) (fun x=>⟨[(1,.int .i64 ep),(2,.ref 0 0 0),(5,.osl 1 0 x.1),(6,.int .i64 (x.1+1:Nat))],[nA d,w9 (D7 d x.1)]⟩) (fun x=>d.sec.length-x.1) [.box 0,.arr 1] [.box 0,.at_ 5] (fun _=>Z0)
 |_=>.none
noncomputable def c0s:Code:=Tryz.f112.body.getD .skip
theorem a3g:Z7 Tryz.prog 112:=⟨_,Tryz.func112,by kernel_rfl,by kernel_rfl⟩
theorem b8y(d:Dsk)(ep:Int)(h:
  (∃(x:V9 (d.sec.length-9) (cU d ep)),(ep=ep/\(0=0/\0=0)/\(0=0/\0=x.val)/\(1:Int)=(↑(x.val+1):Int)/\True)/\(1=1/\1=1/\zR d d)/\(0=(D7 d x.val).length/\Z8 0 (fun(k:Nat)=>List.take
  10 (List.drop (k*10) [])) (Y5 (D7 d x.val)))/\True)/\∀(x:V9 (d.sec.length-9) (cU d ep)),(decide ((↑(x.val+1):Int)<=(60:Int))=true->X8 .i64 ((9:Int)+(↑(x.val+1):Int)))/\(decide ((↑(x.val+1):
  Int)<=(60:Int))=true->X8 .i64 ((9:Int)+(↑(x.val+1):Int)- (1:Int)))/\((decide ((↑(x.val+1):Int)<=(60:Int))&&decide ((9:Int)+(↑(x.val+1):Int)- (1:Int)<(d.sec.length:Int)))=true->X8 .i64
  ((9:Int)+(↑(x.val+1):Int))/\X8 .i64 ((9:Int)+(↑(x.val+1):Int)- (1:Int))/\∃(x_1:qQ.ι),(((zR d x_1.fst)/\(9:Int)+(↑(x.val+1):Int)- (1:Int)=(x_1.snd:Int)/\True)/\AtB x_1)/\∃(x_2:
  (List UInt8)),((O7 x_1.fst x_1.snd=x_2/\True)/\RdB x_2)/\((!bK x_2||(H6 x_2).l !=(↑(x.val+1):Int)||decide ((H6 x_2).e>ep))=false->decide ((↑(x.val+1):Int)>(1:Int))=true->X8 .i64 ((↑(x.val+1)
  :Int)- (2:Int)))/\((!bK x_2||(H6 x_2).l !=(↑(x.val+1):Int)||decide ((H6 x_2).e>ep))=false->decide ((↑(x.val+1):Int)>(1:Int))=true->X0 ((↑(x.val+1):Int)- (2:Int)) x.val)/\((!bK x_2||(H6
  x_2).l !=(↑(x.val+1):Int)||decide ((H6 x_2).e>ep))=false->decide ((↑(x.val+1):Int)>(1:Int))=true->Lt (0+((↑(x.val+1):Int)- (2:Int)).toNat) (D7 d x.val).length)/\((!bK x_2||(H6 x_2).l !=
  (↑(x.val+1):Int)||decide ((H6 x_2).e>ep)||decide ((↑(x.val+1):Int)>(1:Int))&&decide (((D7 d x.val).getD (0+((↑(x.val+1):Int)- (2:Int)).toNat) default).e>(H6 x_2).e))=true->Le (0+x.val) (D7 d
  x.val).length/\x.val=(D7 d (v8 d ep)).length/\Z8 x.val (Y5 (D7 d x.val)) (Y5 (D7 d (v8 d ep))))/\((!bK x_2||(H6 x_2).l !=(↑(x.val+1):Int)||decide ((H6 x_2).e>ep)||decide ((↑(x.val+1):Int)
  >(1:Int))&&decide (((D7 d x.val).getD (0+((↑(x.val+1):Int)- (2:Int)).toNat) default).e>(H6 x_2).e))=false->(Le x.val (D7 d x.val).length/\V7 x.val 1 96)/\X8 .i64 ((↑(x.val+1):Int)+(1:Int))/\∃(y
  :V9 (d.sec.length-9) (cU d ep)),((ep=ep/\(0=0/\0=0)/\(0=0/\x.val+1=y.val)/\(↑(x.val+1):Int)+(1:Int)=(↑(y.val+1):Int)/\True)/\(1=1/\1=1/\zR d d)/\(x.val+1=(D7 d y.val).length/\
  Z8 (x.val+1) (W6 (Y5 (D7 d x.val)) x.val fun(k:Nat)=>List.take 10 (List.drop (k*10) [T.int .i64 (H6 x_2).e,T.int .i64 (H6 x_2).l,T.int .i64 (H6 x_2).t,T.int .i64 (H6 x_2).k,T.int .i64 (H6 x_2).p,
  T.int .i64 (H6 x_2).n,T.int .i64 (H6 x_2).g,T.int .i64 (H6 x_2).s,T.str (H6 x_2).b,T.str (H6 x_2).a])) (Y5 (D7 d y.val)))/\True)/\Lt (d.sec.length-y.val) (d.sec.length-x.val)))/\((decide ((↑(x.val+1):Int)
  <=(60:Int))&&decide ((9:Int)+(↑(x.val+1):Int)- (1:Int)<(d.sec.length:Int)))=false->Le (0+x.val) (D7 d x.val).length/\x.val=(D7 d (v8 d ep)).length/\Z8 x.val (Y5 (D7 d x.val)) (Y5 (D7 d
  (v8 d ep))))):
  Z2 Tryz.prog 112 [.agg d.ts,.int .i64 ep] (F3 (D7 d (v8 d ep))):=
 T4 (code:=c0s) (gC mR sA (gC a5b cL (gC sL zN gN))) Tryz.func112 (by kernel_rfl) (by kernel_rfl) (b9T d ep) h (by kernel_rfl)
theorem c7A{t:List UInt8}(h:bK t=true):U2 t=(H6 t,0)/\S3 (H6 t)=true:=by
 by_cases hq:T6 t=true/\C7 (X5 t)=false
 ·obtain⟨h1,h2⟩:=a78 hq.1 hq.2;rw[h2] at h;rw[h1];exact⟨a7V hq.1 hq.2 h,h⟩
 ·rw[(b7N hq).2] at h;cases h
theorem c7E{r:Rec}(h:S3 r=true):1<=r.e:=by
 have:=(P8 r).1 h;unfold j3 at this;exact this.1
theorem a91{d:Dsk}{ep:Int}{x:Nat}:(!bK (O7 d (9+x))||(H6 (O7 d (9+x))).l !=((x+1:Nat):Int)||decide ((H6 (O7 d (9+x))).e>ep)||decide (((x+1:Nat):Int)>1)&&decide (((D7 d x).getD (0+(((x+1:Nat):Int)-2).toNat) default).e>(H6 (O7 d (9+x))).e))=cU d ep x:=by
 cases hk:bK (O7 d (9+x)) with
 |false=>
  have h0:((lgR d x).2==0)=false:=by rw[←hk,a47];rfl
  unfold cU bne;rw[h0];rfl
 |true=>
  obtain⟨hr,ho⟩:=c7A hk;have he:=c7E ho;have hr:lgR d x=(H6 (O7 d (9+x)),0):=hr;unfold cU;rw[hr];by_cases hx:x=0
  ·subst hx;have h1:lgE d 0=1:=by unfold lgE;rw[if_pos rfl]
   rw[h1];simp only[Bool.not_true,Bool.false_or,bne_self_eq_false];rw[Bool.eq_iff_iff];simp only[oU,K5,sB,←Bool.not_eq_true,bne_iff_ne,t9,ne_eq,O5];omega
  ·have hl:(D7 d x).getD (0+(((x+1:Nat):Int)-2).toNat) default=(lgR d (x-1)).1:=by
    rw[show 0+(((x+1:Nat):Int)-2).toNat=x-1 by omega]
    exact c6N d (by omega)
   rw[hl];simp only[Bool.not_true,Bool.false_or,bne_self_eq_false];rw[Bool.eq_iff_iff];simp only[lgE,if_neg hx,oU,K5,sB,←Bool.not_eq_true,bne_iff_ne,t9,ne_eq,O5];omega
theorem b12:Z1 Tryz.prog 112 b63:=by
 rintro⟨d,ep⟩ ⟨hd,h69⟩;dsimp only at hd h69;refine b8y d ep ⟨⟨E5,⟨rfl,⟨rfl,rfl⟩,⟨rfl,rfl⟩,rfl,trivial⟩,⟨rfl,rfl,xL _⟩,⟨(q7 d 0).symm,U1⟩,trivial⟩,fun x=> ?_⟩
 have hxl:=x.2.1;have hcc:=hd.2.2.1;have hx:=q7 d x.val;refine⟨fun _=>Z5 (by omega),fun _=>Z5 (by omega),fun hc=> ?_,fun hc=> ?_⟩
 ·have hc:9+x.val<d.sec.length:=by
   simp only[K5,t9] at hc;omega
  have hle:=oH hd hc;refine⟨Z5 (by omega),Z5 (by omega),(d,9+x.val),⟨⟨xL _,by dsimp only;omega,trivial⟩,hc,by dsimp only;omega⟩,O7 d (9+x.val),⟨⟨rfl,trivial⟩,by show(O7 d (9+x.val)).length<=1000;omega⟩,fun _ h=>Z5 (by omega),fun _ h=> ?_,fun _ h=> ?_,?_⟩
  ·have:=D8 h;exact⟨by omega,by omega⟩
  ·have:=D8 h;unfold Lt;omega
  rw[a91 (d:=d) (ep:=ep)];refine⟨fun hb=> ?_,fun hb=> ?_⟩
  ·rw[b5z (by omega) hb x.2.2]
   exact⟨by unfold Le;omega,hx.symm,Z9 _ _⟩
  ·refine⟨⟨by unfold Le;omega,by unfold V7;omega⟩,Z5 (by omega),x.succ (by omega) hb,⟨⟨rfl,⟨rfl,rfl⟩,⟨rfl,rfl⟩,by dsimp only[V9.succ];omega,trivial⟩,⟨rfl,rfl,xL _⟩,⟨(q7 d (x.val+1)).symm,?_⟩,trivial⟩,by unfold Lt;dsimp only[V9.succ];omega⟩
   show Z8 _ _ (Y5 (D7 d (x.val+1)));have hs:=oJ (D7 d x.val) (lgR d x.val).1;have hk:bK (O7 d (9+x.val))=true:=by
    rw[←a91] at hb;simp only[vG,tE] at hb;exact hb.1.1.1
   have hr:(lgR d x.val).1=H6 (O7 d (9+x.val)):=by
    show(U2 (O7 d (9+x.val))).1=_;rw[(c7A hk).1]
   rw[a2E,hr];rw[hx,hr] at hs;exact hs
 ·have hq:x.val=d.sec.length-9:=by
   by_cases hn:x.val=d.sec.length-9
   ·exact hn
   ·rw[jB (show((x.val+1:Nat):Int)<=60 by omega),jB (show(9:Int)+((x.val+1:Nat):Int)-1<(d.sec.length:Int) by omega)] at hc
    cases hc
  rw[a9N hq x.2.2];exact⟨by unfold Le;omega,hx.symm,Z9 _ _⟩
end Go.Proofs.YtokaojbaacnngaaGreat

