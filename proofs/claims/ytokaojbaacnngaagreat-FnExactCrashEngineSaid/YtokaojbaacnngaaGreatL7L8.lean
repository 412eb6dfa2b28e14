/- A part of the proof. -/
import Derived.Test.YtokaojbaacnngaaGreatU1U2
import Derived.Test.YtokaojbaacnngaaGreatX11X11rX12X13
import Derived.Test.YtokaojbaacnngaaGreatX14
namespace Go.Proofs.YtokaojbaacnngaaGreat
set_option maxRecDepth 100000
open Go.SS

def dr(x:List UInt8):Nat->List UInt8
 |0=>x
 |i+1=>(dr x i).drop 1
def drF(x:List UInt8):Nat->Bool
 |0=>false
 |i+1=>drF x i||(dr x i).isEmpty
def rcE(x:List UInt8):Fst:=fsEnd (dr x 9) (drF x 9)
def rcX(x:List UInt8):Rec:=⟨numR (dr x 1),numR (dr x 2),numR (dr x 3),numR (dr x 4),numR (dr x 5),numR (dr x 6),numR (dr x 7),numR (dr x 8),(rcE x).out.getD 0 [],(rcE x).out.getD 1 []⟩
def rcBad(x:List UInt8):Bool:= !(!(rcE x).fl&&(rcE x).l.isEmpty)||numR x !=108||(((rcE x).out.length:Nat):Int) !=2
def rec0:Rec:=⟨0,0,0,0,0,0,0,0,[],[]⟩
noncomputable def rdRc(b:List UInt8):Rec×Int:=if unsOK b=true then
  if rcBad (unsB b)=true then(rec0,3) else if recOK (rcX (unsB b))=true then(rcX (unsB b),0) else(rec0,3)
 else(rec0,8)
def k_numI:Con:=.reff ⟨List UInt8×Nat,fun _=>[.ref 0 0 0],fun x=>[rdr (dr x.1 x.2) (drF x.1 x.2)],fun x=>.int .i64 (numR (dr x.1 x.2)),fun x=>[rdr (dr x.1 (x.2+1)) (drF x.1 (x.2+1))],fun _=>True⟩
theorem call_numI:Callable Tryz.prog 268:=⟨_,Tryz.func268,by kernel_rfl,by kernel_rfl⟩
theorem numI_ok:ConOk Tryz.prog 268 k_numI:=fun x _=>num_ok _ _ _ _ none rfl trivial
noncomputable def k_ReadRecord:Con:=.rel ⟨List UInt8,fun b=>[.bys b],fun b=>.tup [.agg (rdRc b).1.ts,.int .i64 (rdRc b).2],RdB⟩
noncomputable def b_ReadRecord:Code:=Tryz.f232.body.getD .skip
theorem call_ReadRecord:Callable Tryz.prog 232:=⟨_,Tryz.func232,by kernel_rfl,by kernel_rfl⟩
theorem v_ReadRecord(b:List UInt8)(h:
  (decide ((b.length:Int)>(65536:Int))=true->((0:Int)=(rdRc b).fst.e/\(0:Int)=(rdRc b).fst.l/\(0:Int)=(rdRc b).fst.t/\(0:Int)=(rdRc b).fst.k/\(0:Int)=(rdRc b).fst.p/\(0:Int)=(rdRc b).fst.n/\(0:
  Int)=(rdRc b).fst.g/\(0:Int)=(rdRc b).fst.s/\[]=(rdRc b).fst.b/\[]=(rdRc b).fst.a/\True)/\(2:Int)=(rdRc b).snd/\True)/\(decide ((b.length:Int)>(65536:Int))=false->∃(x:r_unsealed.ι),((b=x/\True)/\
  Len31 x)/\((!unsOK x)=true->((0:Int)=(rdRc b).fst.e/\(0:Int)=(rdRc b).fst.l/\(0:Int)=(rdRc b).fst.t/\(0:Int)=(rdRc b).fst.k/\(0:Int)=(rdRc b).fst.p/\(0:Int)=(rdRc b).fst.n/\(0:Int)=(rdRc
  b).fst.g/\(0:Int)=(rdRc b).fst.s/\[]=(rdRc b).fst.b/\[]=(rdRc b).fst.a/\True)/\(8:Int)=(rdRc b).snd/\True)/\((!unsOK x)=false->∃(x_1:(List UInt8×Nat)),(((0=0/\0=0)/\True)/\((1=1/\RowsEq 1 (fun
  (x_2:Nat)=>[T.bys (unsB x),T.bool false]) fun(x:Nat)=>[T.bys (dr x_1.fst x_1.snd),T.bool (drF x_1.fst x_1.snd)])/\True)/\True)/\∃(x:(List UInt8×Nat)),(((0=0/\0=0)/\True)/\((1=1/\RowsEq 1 (fun(x:
  Nat)=>[T.bys (dr x_1.fst (x_1.snd+1)),T.bool (drF x_1.fst (x_1.snd+1))]) fun(x_2:Nat)=>[T.bys (dr x.fst x.snd),T.bool (drF x.fst x.snd)])/\True)/\True)/\∃(x_2:(List UInt8×Nat)),(((0=0/\0=0)/\True)/\((1
  =1/\RowsEq 1 (fun(x_3:Nat)=>[T.bys (dr x.fst (x.snd+1)),T.bool (drF x.fst (x.snd+1))]) fun(x:Nat)=>[T.bys (dr x_2.fst x_2.snd),T.bool (drF x_2.fst x_2.snd)])/\True)/\True)/\∃(x_3:(List UInt8×Nat)),(((0=
  0/\0=0)/\True)/\((1=1/\RowsEq 1 (fun(x:Nat)=>[T.bys (dr x_2.fst (x_2.snd+1)),T.bool (drF x_2.fst (x_2.snd+1))]) fun(x:Nat)=>[T.bys (dr x_3.fst x_3.snd),T.bool (drF x_3.fst x_3.snd)])/\True)/\True)/\∃
  (x_4:(List UInt8×Nat)),(((0=0/\0=0)/\True)/\((1=1/\RowsEq 1 (fun(x:Nat)=>[T.bys (dr x_3.fst (x_3.snd+1)),T.bool (drF x_3.fst (x_3.snd+1))]) fun(x:Nat)=>[T.bys (dr x_4.fst x_4.snd),T.bool (drF x_4.fst
  x_4.snd)])/\True)/\True)/\∃(x_5:(List UInt8×Nat)),(((0=0/\0=0)/\True)/\((1=1/\RowsEq 1 (fun(x:Nat)=>[T.bys (dr x_4.fst (x_4.snd+1)),T.bool (drF x_4.fst (x_4.snd+1))]) fun(x:Nat)=>[T.bys (dr
  x_5.fst x_5.snd),T.bool (drF x_5.fst x_5.snd)])/\True)/\True)/\∃(x_6:(List UInt8×Nat)),(((0=0/\0=0)/\True)/\((1=1/\RowsEq 1 (fun(x:Nat)=>[T.bys (dr x_5.fst (x_5.snd+1)),T.bool (drF x_5.fst (x_5.snd+
  1))]) fun(x:Nat)=>[T.bys (dr x_6.fst x_6.snd),T.bool (drF x_6.fst x_6.snd)])/\True)/\True)/\∃(x_7:(List UInt8×Nat)),(((0=0/\0=0)/\True)/\((1=1/\RowsEq 1 (fun(x:Nat)=>[T.bys (dr x_6.fst (x_6.snd+1)),
  T.bool (drF x_6.fst (x_6.snd+1))]) fun(x:Nat)=>[T.bys (dr x_7.fst x_7.snd),T.bool (drF x_7.fst x_7.snd)])/\True)/\True)/\∃(x_8:(List UInt8×Nat)),(((0=0/\0=0)/\True)/\((1=1/\RowsEq 1 (fun(x:Nat)=>
  [T.bys (dr x_7.fst (x_7.snd+1)),T.bool (drF x_7.fst (x_7.snd+1))]) fun(x:Nat)=>[T.bys (dr x_8.fst x_8.snd),T.bool (drF x_8.fst x_8.snd)])/\True)/\True)/\((!(!(fsEnd (dr x_8.fst (x_8.snd+1)) (drF x_8.fst (x_8.snd+
  1))).fl&&(fsEnd (dr x_8.fst (x_8.snd+1)) (drF x_8.fst (x_8.snd+1))).l.isEmpty)||numR (dr x_1.fst x_1.snd) !=(108:Int)||(↑(fsEnd (dr x_8.fst (x_8.snd+1)) (drF x_8.fst (x_8.snd+1))).out.length:Int) !=(2:Int))=
  true->((0:Int)=(rdRc b).fst.e/\(0:Int)=(rdRc b).fst.l/\(0:Int)=(rdRc b).fst.t/\(0:Int)=(rdRc b).fst.k/\(0:Int)=(rdRc b).fst.p/\(0:Int)=(rdRc b).fst.n/\(0:Int)=(rdRc b).fst.g/\(0:Int)=(rdRc
  b).fst.s/\[]=(rdRc b).fst.b/\[]=(rdRc b).fst.a/\True)/\(3:Int)=(rdRc b).snd/\True)/\((!(!(fsEnd (dr x_8.fst (x_8.snd+1)) (drF x_8.fst (x_8.snd+1))).fl&&(fsEnd (dr x_8.fst (x_8.snd+1)) (drF x_8.fst (x_8.snd+
  1))).l.isEmpty)||numR (dr x_1.fst x_1.snd) !=(108:Int)||(↑(fsEnd (dr x_8.fst (x_8.snd+1)) (drF x_8.fst (x_8.snd+1))).out.length:Int) !=(2:Int))=false->InB (0:Int) (fsEnd (dr x_8.fst (x_8.snd+1)) (drF x_8.fst
  (x_8.snd+1))).out.length/\InB (1:Int) (fsEnd (dr x_8.fst (x_8.snd+1)) (drF x_8.fst (x_8.snd+1))).out.length/\StrB ((fsEnd (dr x_8.fst (x_8.snd+1)) (drF x_8.fst (x_8.snd+1))).out.getD 1 [])/\((!recOK (Rec.mk (numR
  (dr x.fst x.snd)) (numR (dr x_2.fst x_2.snd)) (numR (dr x_3.fst x_3.snd)) (numR (dr x_4.fst x_4.snd)) (numR (dr x_5.fst x_5.snd)) (numR (dr x_6.fst x_6.snd)) (numR (dr x_7.fst x_7.snd)) (numR (dr x_8.fst x_8.snd)) ((fsEnd (dr
  x_8.fst (x_8.snd+1)) (drF x_8.fst (x_8.snd+1))).out.getD 0 []) ((fsEnd (dr x_8.fst (x_8.snd+1)) (drF x_8.fst (x_8.snd+1))).out.getD 1 [])))=true->((0:Int)=(rdRc b).fst.e/\(0:Int)=(rdRc b).fst.l/\(0:Int)=
  (rdRc b).fst.t/\(0:Int)=(rdRc b).fst.k/\(0:Int)=(rdRc b).fst.p/\(0:Int)=(rdRc b).fst.n/\(0:Int)=(rdRc b).fst.g/\(0:Int)=(rdRc b).fst.s/\[]=(rdRc b).fst.b/\[]=(rdRc b).fst.a/\True)/\(3:Int)=
  (rdRc b).snd/\True)/\((!recOK (Rec.mk (numR (dr x.fst x.snd)) (numR (dr x_2.fst x_2.snd)) (numR (dr x_3.fst x_3.snd)) (numR (dr x_4.fst x_4.snd)) (numR (dr x_5.fst x_5.snd)) (numR (dr x_6.fst x_6.snd)) (numR (dr x_7.fst
  x_7.snd)) (numR (dr x_8.fst x_8.snd)) ((fsEnd (dr x_8.fst (x_8.snd+1)) (drF x_8.fst (x_8.snd+1))).out.getD 0 []) ((fsEnd (dr x_8.fst (x_8.snd+1)) (drF x_8.fst (x_8.snd+1))).out.getD 1 [])))=false->(numR (dr x.fst x.snd)
  =(rdRc b).fst.e/\numR (dr x_2.fst x_2.snd)=(rdRc b).fst.l/\numR (dr x_3.fst x_3.snd)=(rdRc b).fst.t/\numR (dr x_4.fst x_4.snd)=(rdRc b).fst.k/\numR (dr x_5.fst x_5.snd)=(rdRc b).fst.p/\numR (dr x_6.fst x_6.snd)=
  (rdRc b).fst.n/\numR (dr x_7.fst x_7.snd)=(rdRc b).fst.g/\numR (dr x_8.fst x_8.snd)=(rdRc b).fst.s/\(fsEnd (dr x_8.fst (x_8.snd+1)) (drF x_8.fst (x_8.snd+1))).out.getD 0 []=(rdRc b).fst.b/\(fsEnd (dr x_8.fst (x_8.snd
  +1)) (drF x_8.fst (x_8.snd+1))).out.getD 1 []=(rdRc b).fst.a/\True)/\(0:Int)=(rdRc b).snd/\True))))):
  PureFn Tryz.prog 232 [.bys b] (.tup [.agg (rdRc b).1.ts,.int .i64 (rdRc b).2]):=
 vcR (code:=b_ReadRecord) (gC unsealed_ok call_unsealed (gC numI_ok call_numI (gC fields_ok call_fields (gC isDone_ok call_isDone (gC RecordOKi_ok call_RecordOKi gN))))) Tryz.func232 (by kernel_rfl) (by kernel_rfl) noAnn h (by kernel_rfl)
theorem take_le(l:List UInt8)(n:Int)(h0:0<=n)(h:n<=255):(takeR l n).length<=255:=by
 unfold takeR;split
 ·rw[List.length_replicate];omega
 ·rw[List.length_take];omega
theorem app_at{α:Type}(d:α)(L:List α)(x:α)(i:Nat)(hi:i<L.length+1):(L++[x]).getD i d=if i=L.length then x else L.getD i d:=by
 by_cases h:i=L.length
 ·subst h;rw[if_pos rfl,List.getD_eq_getElem?_getD,List.getElem?_append_right (Nat.le_refl _)]
  simp
 ·rw[if_neg h,List.getD_eq_getElem?_getD,List.getElem?_append_left (by omega),←List.getD_eq_getElem?_getD]
theorem fs_le(l:List UInt8)(fl:Bool):∀i j,((fsN l fl i).out.getD j []).length<=255
 |0,j=>Nat.zero_le _
 |i+1,j=>by
  have hm:=numR_in (fsN l fl i).l;show(((fsN l fl i).out++[takeR ((fsN l fl i).l.drop 1) (numR (fsN l fl i).l)]).getD j []).length<=255;by_cases hj:j<(fsN l fl i).out.length+1
  ·rw[app_at [] _ _ _ hj];split
   ·exact take_le _ _ hm.1 (by omega)
   ·exact fs_le l fl i j
  ·rw[List.getD_eq_getElem?_getD,List.getElem?_eq_none (by rw[List.length_append];simp;omega)]
   exact Nat.zero_le _
theorem rd_no{b:List UInt8}(h:unsOK b=false):rdRc b=(rec0,8):=by unfold rdRc;rw[if_neg (by rw[h];simp)]
theorem rd_bad{b:List UInt8}(h:unsOK b=true)(hb:rcBad (unsB b)=true):rdRc b=(rec0,3):=by unfold rdRc;rw[if_pos h,if_pos hb]
theorem rd_rno{b:List UInt8}(h:unsOK b=true)(hb:rcBad (unsB b)=false)(hr:recOK (rcX (unsB b))=false):rdRc b=(rec0,3):=by unfold rdRc;rw[if_pos h,if_neg (by rw[hb];simp),if_neg (by rw[hr];simp)]
theorem rd_rec{b:List UInt8}(h:unsOK b=true)(hb:rcBad (unsB b)=false)(hr:recOK (rcX (unsB b))=true):rdRc b=(rcX (unsB b),0):=by unfold rdRc;rw[if_pos h,if_neg (by rw[hb];simp),if_pos hr]
theorem ReadRecord_ok:ConOk Tryz.prog 232 k_ReadRecord:=by
 intro(b:List UInt8) (hb:b.length<=1000);refine v_ReadRecord b ⟨fun h=>by have:=of_decide_eq_true h;omega,fun _=>⟨b,⟨⟨rfl,trivial⟩,by unfold Len31;omega⟩,fun h=> ?_,fun h=>⟨(unsB b,0),⟨(by repeat' first|exact trivial|exact rfl|exact rowsR _ _|exact famR _|exact row0|exact le0 _|exact Nat.le_refl _|exact Nat.zero_le _|refine And.intro ?_ ?_),⟨⟨rfl,fun _ _=>rfl⟩,trivial⟩,trivial⟩,(unsB b,1),⟨(by repeat' first|exact trivial|exact rfl|exact rowsR _ _|exact famR _|exact row0|exact le0 _|exact Nat.le_refl _|exact Nat.zero_le _|refine And.intro ?_ ?_),⟨⟨rfl,fun _ _=>rfl⟩,trivial⟩,trivial⟩,(unsB b,2),⟨(by repeat' first|exact trivial|exact rfl|exact rowsR _ _|exact famR _|exact row0|exact le0 _|exact Nat.le_refl _|exact Nat.zero_le _|refine And.intro ?_ ?_),⟨⟨rfl,fun _ _=>rfl⟩,trivial⟩,trivial⟩,(unsB b,3),⟨(by repeat' first|exact trivial|exact rfl|exact rowsR _ _|exact famR _|exact row0|exact le0 _|exact Nat.le_refl _|exact Nat.zero_le _|refine And.intro ?_ ?_),⟨⟨rfl,fun _ _=>rfl⟩,trivial⟩,trivial⟩,(unsB b,4),⟨(by repeat' first|exact trivial|exact rfl|exact rowsR _ _|exact famR _|exact row0|exact le0 _|exact Nat.le_refl _|exact Nat.zero_le _|refine And.intro ?_ ?_),⟨⟨rfl,fun _ _=>rfl⟩,trivial⟩,trivial⟩,(unsB b,5),⟨(by repeat' first|exact trivial|exact rfl|exact rowsR _ _|exact famR _|exact row0|exact le0 _|exact Nat.le_refl _|exact Nat.zero_le _|refine And.intro ?_ ?_),⟨⟨rfl,fun _ _=>rfl⟩,trivial⟩,trivial⟩,(unsB b,6),⟨(by repeat' first|exact trivial|exact rfl|exact rowsR _ _|exact famR _|exact row0|exact le0 _|exact Nat.le_refl _|exact Nat.zero_le _|refine And.intro ?_ ?_),⟨⟨rfl,fun _ _=>rfl⟩,trivial⟩,trivial⟩,(unsB b,7),⟨(by repeat' first|exact trivial|exact rfl|exact rowsR _ _|exact famR _|exact row0|exact le0 _|exact Nat.le_refl _|exact Nat.zero_le _|refine And.intro ?_ ?_),⟨⟨rfl,fun _ _=>rfl⟩,trivial⟩,trivial⟩,(unsB b,8),⟨(by repeat' first|exact trivial|exact rfl|exact rowsR _ _|exact famR _|exact row0|exact le0 _|exact Nat.le_refl _|exact Nat.zero_le _|refine And.intro ?_ ?_),⟨⟨rfl,fun _ _=>rfl⟩,trivial⟩,trivial⟩,fun hc=> ?_,fun hc=> ?_⟩⟩⟩
 ·rw[rd_no (by simpa using h)]
  exact(by repeat' first|exact trivial|exact rfl|exact rowsR _ _|exact famR _|exact row0|exact le0 _|exact Nat.le_refl _|exact Nat.zero_le _|refine And.intro ?_ ?_)
 ·rw[rd_bad (by simpa using h) hc]
  exact(by repeat' first|exact trivial|exact rfl|exact rowsR _ _|exact famR _|exact row0|exact le0 _|exact Nat.le_refl _|exact Nat.zero_le _|refine And.intro ?_ ?_)
 ·have hu:unsOK b=true:=by simpa using h
  have hc:rcBad (unsB b)=false:=hc;have h2:(rcE (unsB b)).out.length=2:=by
   unfold rcBad at hc;simp only[Bool.or_eq_false_iff,bne_eq_false_iff_eq] at hc;omega
  refine⟨⟨by omega,by show(0:Int)<((rcE (unsB b)).out.length:Int);omega⟩,⟨by omega,by show(1:Int)<((rcE (unsB b)).out.length:Int);omega⟩,by have:=fs_le (dr (unsB b) 9) (drF (unsB b) 9) (numR (dr (unsB b) 9)).toNat 1;unfold StrB;show((fsN (dr (unsB b) 9) (drF (unsB b) 9) (numR (dr (unsB b) 9)).toNat).out.getD 1 []).length<_;omega,fun hr=> ?_,fun hr=> ?_⟩
  ·have hr:(!recOK (rcX (unsB b)))=true:=by
    unfold rcX rcE;dsimp only[Nat.reduceAdd] at hr ⊢;exact hr
   have hr:recOK (rcX (unsB b))=false:=by rw[Bool.not_eq_true'] at hr;exact hr
   rw[rd_rno hu hc hr];exact(by repeat' first|exact trivial|exact rfl|exact rowsR _ _|exact famR _|exact row0|exact le0 _|exact Nat.le_refl _|exact Nat.zero_le _|refine And.intro ?_ ?_)
  ·have hr:(!recOK (rcX (unsB b)))=false:=by
    unfold rcX rcE;dsimp only[Nat.reduceAdd] at hr ⊢;exact hr
   have hr:recOK (rcX (unsB b))=true:=by rw[Bool.not_eq_false'] at hr;exact hr
   rw[rd_rec hu hc hr];unfold rcX rcE;dsimp only[Nat.reduceAdd];exact⟨⟨rfl,rfl,rfl,rfl,rfl,rfl,rfl,rfl,rfl,rfl,trivial⟩,rfl,trivial⟩
noncomputable def lgR(d:Dsk)(i:Nat):Rec×Int:=rdRc (rdAt d (9+i))
noncomputable def lgE(d:Dsk)(i:Nat):Int:=if i=0 then 1 else(lgR d (i-1)).1.e
noncomputable def lgB(d:Dsk)(ep:Int)(i:Nat):Bool:=((lgR d i).2 !=0||(lgR d i).1.l !=(i:Int)+1|| !inR (lgR d i).1.e (lgE d i) ep)
noncomputable def lgL(d:Dsk)(m:Nat):List Rec:=(List.range m).map fun i=>(lgR d i).1
noncomputable def lgM(d:Dsk)(ep:Int):Nat:=if fstI (d.sec.length-9) (lgB d ep)= -1 then d.sec.length-9 else(fstI (d.sec.length-9) (lgB d ep)).toNat
def LgS(x:Dsk×Int):Prop:=DskP x.1
noncomputable def A_readLog(d:Dsk)(ep:Int):Nat->Ann
 |0=>.one (Cnt (d.sec.length-9) (lgB d ep)) (fun x=>⟨[(1,.int .i64 ep),(2,.ref 0 0 0),(5,.osl 1 0 x.1),(6,.int .i64 (lgE d x.1)),(7,.int .i64 (9+x.1:Nat))],[dskBox d,recA (lgL d x.1)]⟩) (fun x=>d.sec.length-x.1) [.box 0,.arr 1] [.box 0,.arr 3] (fun _=>noAnn)
 |_=>.none
noncomputable def k_readLog:Con:=.rmk ⟨Dsk×Int,fun x=>[.agg x.1.ts,.int .i64 x.2],fun _=>[],fun x=>.osl 0 0 (lgM x.1 x.2),fun x=>[recA (lgL x.1 (lgM x.1 x.2))],LgS⟩
noncomputable def b_readLog:Code:=Tryz.f182.body.getD .skip
theorem call_readLog:Callable Tryz.prog 182:=⟨_,Tryz.func182,by kernel_rfl,by kernel_rfl⟩
theorem v_readLog(d:Dsk)(ep:Int)(h:
  (∃(x:Cnt (d.sec.length-9) (lgB d ep)),(ep=ep/\(0=0/\0=0)/\(0=0/\0=x.val)/\(1:Int)=lgE d x.val/\(9:Int)=(↑(9+x.val):Int)/\True)/\(1=1/\1=1/\EqD d d)/\(0=(lgL d x.val).length/\RowsEq 0
  (fun(k:Nat)=>List.take 10 (List.drop (k*10) [])) (recRow (lgL d x.val)))/\True)/\∀(x:Cnt (d.sec.length-9) (lgB d ep)),(decide ((↑(9+x.val):Int)<(d.sec.length:Int))=true->∃(x_1:r_read.ι),(((EqD d
  x_1.fst)/\(↑(9+x.val):Int)=(x_1.snd:Int)/\True)/\AtB x_1)/\Lt (rdAt x_1.fst x_1.snd).length 140737488355329/\∃(x_2:(List UInt8)),((rdAt x_1.fst x_1.snd=x_2/\True)/\RdB x_2)/\(((rdRc x_2).snd !=(0:Int))=
  false->Rng .i64 ((x.val:Int)+(1:Int)))/\(((rdRc x_2).snd !=(0:Int)||(rdRc x_2).fst.l !=(x.val:Int)+(1:Int)|| !inR (rdRc x_2).fst.e (lgE d x.val) ep)=true->((0=0/\x.val=lgM d ep)/\True)/\(EqL recRow (lgL
  d x.val) (lgL d (lgM d ep)))/\True)/\(((rdRc x_2).snd !=(0:Int)||(rdRc x_2).fst.l !=(x.val:Int)+(1:Int)|| !inR (rdRc x_2).fst.e (lgE d x.val) ep)=false->(Le x.val (lgL d x.val).length/\AppB x.val 1 96)/\Rng .i64
  ((↑(9+x.val):Int)+(1:Int))/\∃(y:Cnt (d.sec.length-9) (lgB d ep)),((ep=ep/\(0=0/\0=0)/\(0=0/\x.val+1=y.val)/\(rdRc x_2).fst.e=lgE d y.val/\(↑(9+x.val):Int)+(1:Int)=(↑(9+y.val):Int)/\
  True)/\(1=1/\1=1/\EqD d d)/\(x.val+1=(lgL d y.val).length/\RowsEq (x.val+1) (appRow (recRow (lgL d x.val)) x.val fun(k:Nat)=>List.take 10 (List.drop (k*10) [T.int .i64 (rdRc x_2).fst.e,T.int .i64 (rdRc
  x_2).fst.l,T.int .i64 (rdRc x_2).fst.t,T.int .i64 (rdRc x_2).fst.k,T.int .i64 (rdRc x_2).fst.p,T.int .i64 (rdRc x_2).fst.n,T.int .i64 (rdRc x_2).fst.g,T.int .i64 (rdRc x_2).fst.s,T.str (rdRc x_2).fst.b,T.str (rdRc
  x_2).fst.a])) (recRow (lgL d y.val)))/\True)/\Lt (d.sec.length-y.val) (d.sec.length-x.val)))/\(decide ((↑(9+x.val):Int)<(d.sec.length:Int))=false->((0=0/\x.val=lgM d ep)/\True)/\(EqL recRow (lgL d x.val)
  (lgL d (lgM d ep)))/\True)):
  EffFn Tryz.prog 182 [.agg d.ts,.int .i64 ep] [] (.osl 0 0 (lgM d ep)) [recA (lgL d (lgM d ep))]:=
 vcG (code:=b_readLog) (gC tmpB_ok call_tmpB (gC readi_ok call_readi (gC ReadRecord_ok call_ReadRecord (gC inRange_ok call_inRange gN)))) Tryz.func182 (by kernel_rfl) (by kernel_rfl) (A_readLog d ep) [[.arr 1]] h (by kernel_rfl)
theorem lgL_len(d:Dsk)(m:Nat):(lgL d m).length=m:=by unfold lgL;simp
theorem lgL_at(d:Dsk){m i:Nat}(h:i<m):(lgL d m).getD i default=(lgR d i).1:=by
 unfold lgL;rw[List.getD_eq_getElem?_getD,List.getElem?_map,List.getElem?_range h]
 rfl
theorem lgL_succ(d:Dsk)(m:Nat):lgL d (m+1)=lgL d m++[(lgR d m).1]:=by
 unfold lgL;rw[List.range_succ,List.map_append];rfl
theorem lgM_at{d:Dsk}{ep:Int}{m:Nat}(hm:m<d.sec.length-9)(h:lgB d ep m=true)(hp:∀i,i<m->lgB d ep i=false):lgM d ep=m:=by
 unfold lgM;rw[fstI_at hm h hp,if_neg (by omega),Int.toNat_natCast]
theorem lgM_all{d:Dsk}{ep:Int}{m:Nat}(hm:m=d.sec.length-9)(hp:∀i,i<m->lgB d ep i=false):lgM d ep=m:=by
 unfold lgM;rw[fstI_no (fun i hi=>hp i (by omega)),if_pos rfl,hm]
theorem readLog_ok:ConOk Tryz.prog 182 k_readLog:=by
 rintro⟨d,ep⟩ (hd:DskP d);have hd':=hd;obtain⟨q1,q2,q3,q4,_⟩:=hd';refine⟨v_readLog d ep ⟨⟨cnt0,⟨rfl,⟨rfl,rfl⟩,⟨rfl,rfl⟩,rfl,rfl,trivial⟩,⟨rfl,rfl,eqD _⟩,⟨(lgL_len d 0).symm,row0⟩,trivial⟩,fun x=>⟨fun hc=> ?_,fun hc=> ?_⟩⟩,rfl,plain_rec _⟩
 ·have hc:9+x.val<d.sec.length:=by have:=of_decide_eq_true hc;omega
  have hle:=rdAt_le hd hc;have hx:=lgL_len d x.val;refine⟨(d,9+x.val),⟨⟨eqD _,rfl,trivial⟩,hc,by dsimp only;omega⟩,by unfold Lt;dsimp only;omega,rdAt d (9+x.val),⟨⟨rfl,trivial⟩,by show(rdAt d (9+x.val)).length<=1000;omega⟩,fun _=>i64_rng (by omega),fun hb=> ?_,fun hb=> ?_⟩
  ·have hb:lgB d ep x.val=true:=hb;rw[lgM_at (by omega) hb x.2.2]
   exact⟨⟨⟨rfl,rfl⟩,trivial⟩,⟨rfl,rowsR _ _⟩,trivial⟩
  ·have hb:lgB d ep x.val=false:=hb;refine⟨⟨by rw[hx];exact Nat.le_refl _,by unfold AppB;omega⟩,i64_rng (by omega),x.succ (by omega) hb,⟨⟨rfl,⟨rfl,rfl⟩,⟨rfl,rfl⟩,?_,by dsimp only[Cnt.succ];omega,trivial⟩,⟨rfl,rfl,eqD _⟩,⟨(lgL_len d (x.val+1)).symm,?_⟩,trivial⟩,by unfold Lt;dsimp only[Cnt.succ];omega⟩
   ·dsimp only[Cnt.succ];unfold lgE;rw[if_neg (by omega)]
    rfl
   ·show RowsEq _ _ (recRow (lgL d (x.val+1)));rw[lgL_succ];have:=rec_app (lgL d x.val) (lgR d x.val).1;rw[hx] at this;exact this
 ·have hx:x.val=d.sec.length-9:=by have:=x.2.1;have:=of_decide_eq_false hc;omega
  rw[lgM_all hx x.2.2];exact⟨⟨⟨rfl,rfl⟩,trivial⟩,⟨rfl,rowsR _ _⟩,trivial⟩
end Go.Proofs.YtokaojbaacnngaaGreat

namespace Go.Proofs.YtokaojbaacnngaaGreat
set_option maxRecDepth 100000
open Go.SS

theorem fl_rel{r:List UInt8}(hr:0<r.length):(∃out,flAll r=some out/\out.length=2/\fsEnd r false=⟨[],false,out⟩)∨((∀out,flAll r=some out->out.length≠2)/\(!(!(fsEnd r false).fl&&(fsEnd r false).l.isEmpty)||(((fsEnd r false).out.length:Nat):Int) !=2)=true):=by
 have hfs:=fs_fl r hr (fcnt r);have hcn:(numR r).toNat=fcnt r:=by unfold numR fcnt;exact Int.toNat_natCast _
 have hend:fsEnd r false=fsN r false (fcnt r):=by unfold fsEnd;rw[hcn]
 have hall:flAll r=if fcnt r>100 then none else match flAt r (fcnt r) with
   |some (p,out)=>if p=r.length then some out else none
   |none=>none:=by
  unfold flAll;by_cases hc:fcnt r>100
  ·rw[if_pos (.inr hc),if_pos hc]
  ·rw[if_neg (by omega),if_neg hc]
   rfl
 rw[hend];cases hf:flAt r (fcnt r) with
 |none=>
  rw[hf] at hfs hall;simp only at hfs;have hall:flAll r=none:=by rw[hall];split<;>rfl
  refine .inr ⟨fun out h=>(by rw[hall] at h;cases h),?_⟩
  rw[hfs];rfl
 |some y=>
  obtain⟨p,out⟩:=y;rw[hf] at hfs hall;simp only at hfs hall;obtain⟨hfs,hpl⟩:=hfs;rw[hfs];have ho:out.length=fcnt r:=fl_len hf;by_cases hp:p=r.length
  ·have hem:r.drop p=[]:=by rw[List.drop_eq_nil_iff];omega
   rw[if_pos hp] at hall;by_cases h2:out.length=2
   ·rw[if_neg (by omega)] at hall
    exact .inl ⟨out,hall,h2,by rw[hem]⟩
   ·refine .inr ⟨fun o h=> ?_,?_⟩
    ·rw[hall] at h;split at h
     ·cases h
     ·cases h;exact h2
    ·simp only[bne_iff_ne.2 (show((out.length:Nat):Int)≠2 by omega),Bool.or_true]
  ·have hem:(r.drop p).isEmpty=false:=by
    rw[Bool.eq_false_iff,ne_eq,List.isEmpty_iff,List.drop_eq_nil_iff];omega
   have hall:flAll r=none:=by rw[hall,if_neg hp];split<;>rfl
   refine .inr ⟨fun out h=>(by rw[hall] at h;cases h),?_⟩
   simp[hem]
theorem dr_drop(x:List UInt8):∀i,dr x i=x.drop i
 |0=>rfl
 |i+1=>by
  show(dr x i).drop 1=_;rw[dr_drop x i,List.drop_drop]
theorem drF_iff(x:List UInt8):∀i,drF x i=decide (x.length<i)
 |0=>rfl
 |i+1=>by
  show(drF x i||(dr x i).isEmpty)=_;rw[drF_iff x i,dr_drop,Bool.eq_iff_iff,Bool.or_eq_true,decide_eq_true_eq,List.isEmpty_iff,List.drop_eq_nil_iff,decide_eq_true_eq];omega
theorem bad_short{x:List UInt8}(h:x.length<10):rcBad x=true:=by
 have hf:(rcE x).fl=true:=by
  unfold rcE;rw[dr_drop,drF_iff];by_cases h9:x.length=9
  ·rw[List.drop_eq_nil_iff.2 (by omega)]
   exact fs_nil _ _
  ·rw[decide_eq_true (by omega)]
   exact fs_fail _ _
 unfold rcBad;rw[hf];rfl
noncomputable def unp(t:List UInt8):{r:List UInt8×Bool//r=(unsB t,unsOK t)}:=Classical.choice ⟨⟨_,rfl⟩⟩
noncomputable def k_l03UnsealQ:Con:=.rel ⟨List UInt8,fun t=>[.str t],fun t=>.tup [.str (unp t).1.1,.bool (unp t).1.2],Len31⟩
theorem call_l03UnsealQ:Callable Tryz.prog 230:=⟨_,Tryz.func230,by kernel_rfl,by kernel_rfl⟩
theorem l03UnsealQ_ok:ConOk Tryz.prog 230 k_l03UnsealQ:=by
 intro(t:List UInt8) ht;have h:=l03Unseal_ok t ht;have e1:(unp t).1.1=unsB t:=by rw[(unp t).2]
 have e2:(unp t).1.2=unsOK t:=by rw[(unp t).2]
 show PureFn _ _ _ (.tup [.str (unp t).1.1,.bool (unp t).1.2]);rw[e1,e2];exact h
noncomputable def flp(t:List UInt8):{r:List (List UInt8)×Bool//r=((flAll t).getD [],(flAll t).isSome)}:=Classical.choice ⟨⟨_,rfl⟩⟩
noncomputable def k_l01ReadQ:Con:=.rel ⟨List UInt8,fun t=>[.str t],fun t=>.tup [strS (flp t).1.1,.bool (flp t).1.2],Len31⟩
theorem call_l01ReadQ:Callable Tryz.prog 231:=⟨_,Tryz.func231,by kernel_rfl,by kernel_rfl⟩
theorem l01ReadQ_ok:ConOk Tryz.prog 231 k_l01ReadQ:=by
 intro(t:List UInt8) ht;have h:=l01Read_ok t ht;have e1:(flp t).1.1=(flAll t).getD []:=by rw[(flp t).2]
 have e2:(flp t).1.2=(flAll t).isSome:=by rw[(flp t).2]
 show PureFn _ _ _ (.tup [strS (flp t).1.1,.bool (flp t).1.2]);rw[e1,e2];exact h
noncomputable def l4p(t:List UInt8):{r:Rec×Bool//r=(if unsOK t=true/\rcBad (unsB t)=false then rcX (unsB t) else rec0,(rdRc t).2==0)}:=Classical.choice ⟨⟨_,rfl⟩⟩
noncomputable def l4r(t:List UInt8):Rec:=(l4p t).1.1
noncomputable def l4k(t:List UInt8):Bool:=(l4p t).1.2
theorem l4r_eq(t:List UInt8):l4r t=if unsOK t=true/\rcBad (unsB t)=false then rcX (unsB t) else rec0:=by unfold l4r;rw[(l4p t).2]
theorem l4k_eq(t:List UInt8):l4k t=((rdRc t).2==0):=by unfold l4k;rw[(l4p t).2]
noncomputable def k_l04Read:Con:=.rel ⟨List UInt8,fun t=>[.str t],fun t=>.tup [.agg (l4r t).ts,.bool (l4k t)],RdB⟩
noncomputable def b_l04Read:Code:=Tryz.f180.body.getD .skip
theorem call_l04Read:Callable Tryz.prog 180:=⟨_,Tryz.func180,by kernel_rfl,by kernel_rfl⟩
theorem v_l04Read(t:List UInt8)(h:
  ∃(x:(List UInt8)),((t=x/\True)/\Len31 x)/\((!(unp x).val.snd||decide ((↑(unp x).val.fst.length:Int)<(10:Int)))=false->InB (0:Int) (unp x).val.fst.length)/\((!(unp x).val.snd||decide ((↑(unp
  x).val.fst.length:Int)<(10:Int))||(↑((unp x).val.fst.getD 0 (0:UInt8)).toNat:Int) !=(108:Int))=true->((0:Int)=(l4r t).e/\(0:Int)=(l4r t).l/\(0:Int)=(l4r t).t/\(0:Int)=(l4r t).k/\(0:Int)=
  (l4r t).p/\(0:Int)=(l4r t).n/\(0:Int)=(l4r t).g/\(0:Int)=(l4r t).s/\[]=(l4r t).b/\[]=(l4r t).a/\True)/\false=l4k t/\True)/\((!(unp x).val.snd||decide ((↑(unp x).val.fst.length:Int)<(10:Int))||
  (↑((unp x).val.fst.getD 0 (0:UInt8)).toNat:Int) !=(108:Int))=false->InC (9:Int) (unp x).val.fst.length/\∃(x_1:(List UInt8)),((List.drop 9 (unp x).val.fst=x_1/\True)/\Len31 x_1)/\((!(flp x_1).val.snd||(↑(flp
  x_1).val.fst.length:Int) !=(2:Int))=true->((0:Int)=(l4r t).e/\(0:Int)=(l4r t).l/\(0:Int)=(l4r t).t/\(0:Int)=(l4r t).k/\(0:Int)=(l4r t).p/\(0:Int)=(l4r t).n/\(0:Int)=(l4r t).g/\(0:Int)=
  (l4r t).s/\[]=(l4r t).b/\[]=(l4r t).a/\True)/\false=l4k t/\True)/\((!(flp x_1).val.snd||(↑(flp x_1).val.fst.length:Int) !=(2:Int))=false->InB (1:Int) (unp x).val.fst.length/\InB (2:Int) (unp
  x).val.fst.length/\InB (3:Int) (unp x).val.fst.length/\InB (4:Int) (unp x).val.fst.length/\InB (5:Int) (unp x).val.fst.length/\InB (6:Int) (unp x).val.fst.length/\InB (7:Int) (unp x).val.fst.length/\InB (8:Int)
  (unp x).val.fst.length/\InB (0:Int) (flp x_1).val.fst.length/\InB (1:Int) (flp x_1).val.fst.length/\Len ((flp x_1).val.fst.getD 1 []).length/\(IntKind.i64.wrap (↑((unp x).val.fst.getD 1 (0:UInt8)).toNat:Int)=(l4r
  t).e/\IntKind.i64.wrap (↑((unp x).val.fst.getD 2 (0:UInt8)).toNat:Int)=(l4r t).l/\IntKind.i64.wrap (↑((unp x).val.fst.getD 3 (0:UInt8)).toNat:Int)=(l4r t).t/\IntKind.i64.wrap (↑((unp x).val.fst.getD 4 (0:
  UInt8)).toNat:Int)=(l4r t).k/\IntKind.i64.wrap (↑((unp x).val.fst.getD 5 (0:UInt8)).toNat:Int)=(l4r t).p/\IntKind.i64.wrap (↑((unp x).val.fst.getD 6 (0:UInt8)).toNat:Int)=(l4r t).n/\IntKind.i64.wrap (↑((unp
  x).val.fst.getD 7 (0:UInt8)).toNat:Int)=(l4r t).g/\IntKind.i64.wrap (↑((unp x).val.fst.getD 8 (0:UInt8)).toNat:Int)=(l4r t).s/\(flp x_1).val.fst.getD 0 []=(l4r t).b/\(flp x_1).val.fst.getD 1 []=(l4r t).a/\True)
  /\recOK (Rec.mk (IntKind.i64.wrap (↑((unp x).val.fst.getD 1 (0:UInt8)).toNat:Int)) (IntKind.i64.wrap (↑((unp x).val.fst.getD 2 (0:UInt8)).toNat:Int)) (IntKind.i64.wrap (↑((unp x).val.fst.getD 3 (0:UInt8)).toNat:Int))
  (IntKind.i64.wrap (↑((unp x).val.fst.getD 4 (0:UInt8)).toNat:Int)) (IntKind.i64.wrap (↑((unp x).val.fst.getD 5 (0:UInt8)).toNat:Int)) (IntKind.i64.wrap (↑((unp x).val.fst.getD 6 (0:UInt8)).toNat:Int)) (IntKind.i64.wrap
  (↑((unp x).val.fst.getD 7 (0:UInt8)).toNat:Int)) (IntKind.i64.wrap (↑((unp x).val.fst.getD 8 (0:UInt8)).toNat:Int)) ((flp x_1).val.fst.getD 0 []) ((flp x_1).val.fst.getD 1 []))=l4k t/\True))):
  PureFn Tryz.prog 180 [.str t] (.tup [.agg (l4r t).ts,.bool (l4k t)]):=
 vcR (code:=b_l04Read) (gC l03UnsealQ_ok call_l03UnsealQ (gC l01ReadQ_ok call_l01ReadQ (gC RecordOKs_ok call_RecordOKs gN))) Tryz.func180 (by kernel_rfl) (by kernel_rfl) noAnn h (by kernel_rfl)
theorem rcE_eq{x:List UInt8}(h:10<=x.length):rcE x=fsEnd (x.drop 9) false:=by
 unfold rcE;rw[dr_drop,drF_iff,decide_eq_false (by omega)]
theorem num_dr(x:List UInt8)(i:Nat):IntKind.i64.wrap ((x.getD i 0).toNat:Int)=numR (dr x i):=by
 rw[wrap_byte,dr_drop];unfold numR;rw[List.getD_eq_getElem?_getD,List.getD_eq_getElem?_getD,List.getElem?_drop,Nat.add_zero]
theorem l4_no{t:List UInt8}(h:¬ (unsOK t=true/\rcBad (unsB t)=false)):l4r t=rec0/\l4k t=false:=by
 rw[l4r_eq,l4k_eq,if_neg h];refine⟨rfl,?_⟩
 cases hu:unsOK t with
 |false=>rw[rd_no hu];rfl
 |true=>
  cases hb:rcBad (unsB t) with
  |true=>rw[rd_bad hu hb];rfl
  |false=>exact absurd ⟨hu,hb⟩ h
theorem l4_yes{t:List UInt8}(hu:unsOK t=true)(hb:rcBad (unsB t)=false):l4r t=rcX (unsB t)/\l4k t=recOK (rcX (unsB t)):=by
 rw[l4r_eq,l4k_eq,if_pos ⟨hu,hb⟩];refine⟨rfl,?_⟩
 cases hr:recOK (rcX (unsB t)) with
 |true=>rw[rd_rec hu hb hr];rfl
 |false=>rw[rd_rno hu hb hr];rfl
theorem uns_le(t:List UInt8):(unsB t).length<=t.length:=by
 unfold unsB;split
 ·rw[List.length_take];omega
 ·exact Nat.zero_le _
theorem l04Read_ok:ConOk Tryz.prog 180 k_l04Read:=by
 intro(t:List UInt8) (hb:t.length<=1000);have hx:=uns_le t;have e1:(unp t).1.1=unsB t:=by rw[(unp t).2]
 have e2:(unp t).1.2=unsOK t:=by rw[(unp t).2]
 have hz:∀{p:Bool},(¬ (unsOK t=true/\rcBad (unsB t)=false))->((0:Int)=(l4r t).e/\(0:Int)=(l4r t).l/\(0:Int)=(l4r t).t/\(0:Int)=(l4r t).k/\(0:Int)=(l4r t).p/\(0:Int)=(l4r t).n/\(0:Int)=(l4r t).g/\(0:Int)=(l4r t).s/\[]=(l4r t).b/\[]=(l4r t).a/\True)/\false=l4k t/\True:=fun h=>by
  rw[(l4_no h).1,(l4_no h).2];exact⟨⟨rfl,rfl,rfl,rfl,rfl,rfl,rfl,rfl,rfl,rfl,trivial⟩,rfl,trivial⟩
 refine v_l04Read t ⟨t,⟨⟨rfl,trivial⟩,by unfold Len31;omega⟩,?_⟩
 rw[e1,e2];refine⟨fun h=> ?_,fun h=>hz (p:=true) fun hq=> ?_,fun h=> ?_⟩
 ·simp only[Bool.or_eq_false_iff,decide_eq_false_iff_not] at h;exact⟨by omega,by omega⟩
 ·obtain⟨hu,hr⟩:=hq;have hl:10<=(unsB t).length:=by
   by_cases hl:(unsB t).length<10
   ·rw[bad_short hl] at hr;cases hr
   ·omega
  have h108:numR (unsB t)=108:=by
   unfold rcBad at hr;simp only[Bool.or_eq_false_iff,bne_eq_false_iff_eq] at hr;exact hr.1.2
  have h108:(((unsB t).getD 0 0).toNat:Int)=108:=h108;rw[hu,h108,decide_eq_false (by omega)] at h
  cases h
 ·simp only[Bool.or_eq_false_iff,decide_eq_false_iff_not,Bool.not_eq_false',bne_eq_false_iff_eq] at h;obtain⟨⟨hu,hl⟩,h108⟩:=h;have hl:10<=(unsB t).length:=by omega
  have hn:numR (unsB t)=108:=h108;have f1:(flp ((unsB t).drop 9)).1.1=(flAll ((unsB t).drop 9)).getD []:=by rw[(flp _).2]
  have f2:(flp ((unsB t).drop 9)).1.2=(flAll ((unsB t).drop 9)).isSome:=by rw[(flp _).2]
  have hd:((unsB t).drop 9).length=(unsB t).length-9:=List.length_drop;refine⟨⟨by omega,by omega⟩,(unsB t).drop 9,⟨⟨rfl,trivial⟩,by unfold Len31;omega⟩,?_⟩
  rw[f1,f2];have hbad:rcBad (unsB t)=(!(!(fsEnd ((unsB t).drop 9) false).fl&&(fsEnd ((unsB t).drop 9) false).l.isEmpty)||(((fsEnd ((unsB t).drop 9) false).out.length:Nat):Int) !=2):=by
   unfold rcBad;rw[rcE_eq hl,hn];simp
  rcases fl_rel (r:=(unsB t).drop 9) (by omega) with⟨out,ha,h2,hf⟩|⟨ha,hf⟩
  ·have hg:rcBad (unsB t)=false:=by rw[hbad,hf,h2];rfl
   have hout:(rcE (unsB t)).out=out:=by rw[rcE_eq hl,hf]
   have hle:=fs_le (dr (unsB t) 9) (drF (unsB t) 9) (numR (dr (unsB t) 9)).toNat 1;have hle:(out.getD 1 []).length<=255:=by rw[←hout];exact hle
   rw[ha];refine⟨fun hc=> ?_,fun _=> ?_⟩
   ·simp[h2] at hc
   ·simp only[num_dr];rw[(l4_yes hu hg).1,(l4_yes hu hg).2];unfold rcX;rw[hout];show _/\_/\_/\_/\_/\_/\_/\_/\InB 0 out.length/\InB 1 out.length/\_;exact⟨⟨by omega,by omega⟩,⟨by omega,by omega⟩,⟨by omega,by omega⟩,⟨by omega,by omega⟩,⟨by omega,by omega⟩,⟨by omega,by omega⟩,⟨by omega,by omega⟩,⟨by omega,by omega⟩,⟨by omega,by omega⟩,⟨by omega,by omega⟩,by show(out.getD 1 []).length<_;omega,⟨rfl,rfl,rfl,rfl,rfl,rfl,rfl,rfl,rfl,rfl,trivial⟩,rfl,trivial⟩
  ·have hg:rcBad (unsB t)=true:=by rw[hbad];exact hf
   refine⟨fun _=>hz (p:=true) fun hq=>(by rw[hg] at hq;cases hq.2),fun hc=> ?_⟩
   cases hs:flAll ((unsB t).drop 9) with
   |none=>rw[hs] at hc;simp at hc
   |some out=>
    rw[hs] at hc;have:=ha out hs;simp at hc;omega
noncomputable def k_l04Log:Con:=.rel ⟨Dsk×Int,fun x=>[.agg x.1.ts,.int .i64 x.2],fun x=>recS (lgL x.1 (lgM x.1 x.2)),fun x=>DskP x.1/\x.1.sec.length=69⟩
noncomputable def A_l04Log(d:Dsk)(ep:Int):Nat->Ann
 |0=>.one (Cnt (d.sec.length-9) (lgB d ep)) (fun x=>⟨[(1,.int .i64 ep),(2,.ref 0 0 0),(5,.osl 1 0 x.1),(6,.int .i64 (x.1+1:Nat))],[dskBox d,recA (lgL d x.1)]⟩) (fun x=>d.sec.length-x.1) [.box 0,.arr 1] [.box 0,.at_ 5] (fun _=>noAnn)
 |_=>.none
noncomputable def b_l04Log:Code:=Tryz.f112.body.getD .skip
theorem call_l04Log:Callable Tryz.prog 112:=⟨_,Tryz.func112,by kernel_rfl,by kernel_rfl⟩
theorem v_l04Log(d:Dsk)(ep:Int)(h:
  (∃(x:Cnt (d.sec.length-9) (lgB d ep)),(ep=ep/\(0=0/\0=0)/\(0=0/\0=x.val)/\(1:Int)=(↑(x.val+1):Int)/\True)/\(1=1/\1=1/\EqD d d)/\(0=(lgL d x.val).length/\RowsEq 0 (fun(k:Nat)=>List.take
  10 (List.drop (k*10) [])) (recRow (lgL d x.val)))/\True)/\∀(x:Cnt (d.sec.length-9) (lgB d ep)),(decide ((↑(x.val+1):Int)<=(60:Int))=true->Rng .i64 ((9:Int)+(↑(x.val+1):Int)))/\(decide ((↑(x.val+1):
  Int)<=(60:Int))=true->Rng .i64 ((9:Int)+(↑(x.val+1):Int)- (1:Int)))/\((decide ((↑(x.val+1):Int)<=(60:Int))&&decide ((9:Int)+(↑(x.val+1):Int)- (1:Int)<(d.sec.length:Int)))=true->Rng .i64
  ((9:Int)+(↑(x.val+1):Int))/\Rng .i64 ((9:Int)+(↑(x.val+1):Int)- (1:Int))/\∃(x_1:r_read.ι),(((EqD d x_1.fst)/\(9:Int)+(↑(x.val+1):Int)- (1:Int)=(x_1.snd:Int)/\True)/\AtB x_1)/\∃(x_2:
  (List UInt8)),((rdAt x_1.fst x_1.snd=x_2/\True)/\RdB x_2)/\((!l4k x_2||(l4r x_2).l !=(↑(x.val+1):Int)||decide ((l4r x_2).e>ep))=false->decide ((↑(x.val+1):Int)>(1:Int))=true->Rng .i64 ((↑(x.val+1)
  :Int)- (2:Int)))/\((!l4k x_2||(l4r x_2).l !=(↑(x.val+1):Int)||decide ((l4r x_2).e>ep))=false->decide ((↑(x.val+1):Int)>(1:Int))=true->InB ((↑(x.val+1):Int)- (2:Int)) x.val)/\((!l4k x_2||(l4r
  x_2).l !=(↑(x.val+1):Int)||decide ((l4r x_2).e>ep))=false->decide ((↑(x.val+1):Int)>(1:Int))=true->Lt (0+((↑(x.val+1):Int)- (2:Int)).toNat) (lgL d x.val).length)/\((!l4k x_2||(l4r x_2).l !=
  (↑(x.val+1):Int)||decide ((l4r x_2).e>ep)||decide ((↑(x.val+1):Int)>(1:Int))&&decide (((lgL d x.val).getD (0+((↑(x.val+1):Int)- (2:Int)).toNat) default).e>(l4r x_2).e))=true->Le (0+x.val) (lgL d
  x.val).length/\x.val=(lgL d (lgM d ep)).length/\RowsEq x.val (recRow (lgL d x.val)) (recRow (lgL d (lgM d ep))))/\((!l4k x_2||(l4r x_2).l !=(↑(x.val+1):Int)||decide ((l4r x_2).e>ep)||decide ((↑(x.val+1):Int)
  >(1:Int))&&decide (((lgL d x.val).getD (0+((↑(x.val+1):Int)- (2:Int)).toNat) default).e>(l4r x_2).e))=false->(Le x.val (lgL d x.val).length/\AppB x.val 1 96)/\Rng .i64 ((↑(x.val+1):Int)+(1:Int))/\∃(y
  :Cnt (d.sec.length-9) (lgB d ep)),((ep=ep/\(0=0/\0=0)/\(0=0/\x.val+1=y.val)/\(↑(x.val+1):Int)+(1:Int)=(↑(y.val+1):Int)/\True)/\(1=1/\1=1/\EqD d d)/\(x.val+1=(lgL d y.val).length/\
  RowsEq (x.val+1) (appRow (recRow (lgL d x.val)) x.val fun(k:Nat)=>List.take 10 (List.drop (k*10) [T.int .i64 (l4r x_2).e,T.int .i64 (l4r x_2).l,T.int .i64 (l4r x_2).t,T.int .i64 (l4r x_2).k,T.int .i64 (l4r x_2).p,
  T.int .i64 (l4r x_2).n,T.int .i64 (l4r x_2).g,T.int .i64 (l4r x_2).s,T.str (l4r x_2).b,T.str (l4r x_2).a])) (recRow (lgL d y.val)))/\True)/\Lt (d.sec.length-y.val) (d.sec.length-x.val)))/\((decide ((↑(x.val+1):Int)
  <=(60:Int))&&decide ((9:Int)+(↑(x.val+1):Int)- (1:Int)<(d.sec.length:Int)))=false->Le (0+x.val) (lgL d x.val).length/\x.val=(lgL d (lgM d ep)).length/\RowsEq x.val (recRow (lgL d x.val)) (recRow (lgL d
  (lgM d ep))))):
  PureFn Tryz.prog 112 [.agg d.ts,.int .i64 ep] (recS (lgL d (lgM d ep))):=
 vcR (code:=b_l04Log) (gC l02Read_ok call_l02Read (gC l04Read_ok call_l04Read (gC tmpB_ok call_tmpB gN))) Tryz.func112 (by kernel_rfl) (by kernel_rfl) (A_l04Log d ep) h (by kernel_rfl)
theorem l4_k{t:List UInt8}(h:l4k t=true):rdRc t=(l4r t,0)/\recOK (l4r t)=true:=by
 by_cases hq:unsOK t=true/\rcBad (unsB t)=false
 ·obtain⟨h1,h2⟩:=l4_yes hq.1 hq.2;rw[h2] at h;rw[h1];exact⟨rd_rec hq.1 hq.2 h,h⟩
 ·rw[(l4_no hq).2] at h;cases h
theorem e_pos{r:Rec}(h:recOK r=true):1<=r.e:=by
 have:=(recOK_iff r).1 h;unfold RecP at this;exact this.1
theorem stop_eq{d:Dsk}{ep:Int}{x:Nat}:(!l4k (rdAt d (9+x))||(l4r (rdAt d (9+x))).l !=((x+1:Nat):Int)||decide ((l4r (rdAt d (9+x))).e>ep)||decide (((x+1:Nat):Int)>1)&&decide (((lgL d x).getD (0+(((x+1:Nat):Int)-2).toNat) default).e>(l4r (rdAt d (9+x))).e))=lgB d ep x:=by
 cases hk:l4k (rdAt d (9+x)) with
 |false=>
  have h0:((lgR d x).2==0)=false:=by rw[←hk,l4k_eq];rfl
  unfold lgB bne;rw[h0];rfl
 |true=>
  obtain⟨hr,ho⟩:=l4_k hk;have he:=e_pos ho;have hr:lgR d x=(l4r (rdAt d (9+x)),0):=hr;unfold lgB;rw[hr];by_cases hx:x=0
  ·subst hx;have h1:lgE d 0=1:=by unfold lgE;rw[if_pos rfl]
   rw[h1];simp only[Bool.not_true,Bool.false_or,bne_self_eq_false];rw[Bool.eq_iff_iff];simp only[Bool.or_eq_true,Bool.and_eq_true,Bool.not_eq_true',←Bool.not_eq_true,bne_iff_ne,decide_eq_true_eq,ne_eq,inR_iff];omega
  ·have hl:(lgL d x).getD (0+(((x+1:Nat):Int)-2).toNat) default=(lgR d (x-1)).1:=by
    rw[show 0+(((x+1:Nat):Int)-2).toNat=x-1 by omega]
    exact lgL_at d (by omega)
   rw[hl];simp only[Bool.not_true,Bool.false_or,bne_self_eq_false];rw[Bool.eq_iff_iff];simp only[lgE,if_neg hx,Bool.or_eq_true,Bool.and_eq_true,Bool.not_eq_true',←Bool.not_eq_true,bne_iff_ne,decide_eq_true_eq,ne_eq,inR_iff];omega
theorem l04Log_ok:ConOk Tryz.prog 112 k_l04Log:=by
 rintro⟨d,ep⟩ ⟨hd,h69⟩;dsimp only at hd h69;refine v_l04Log d ep ⟨⟨cnt0,⟨rfl,⟨rfl,rfl⟩,⟨rfl,rfl⟩,rfl,trivial⟩,⟨rfl,rfl,eqD _⟩,⟨(lgL_len d 0).symm,row0⟩,trivial⟩,fun x=> ?_⟩
 have hxl:=x.2.1;have hcc:=hd.2.2.1;have hx:=lgL_len d x.val;refine⟨fun _=>i64_rng (by omega),fun _=>i64_rng (by omega),fun hc=> ?_,fun hc=> ?_⟩
 ·have hc:9+x.val<d.sec.length:=by
   simp only[Bool.and_eq_true,decide_eq_true_eq] at hc;omega
  have hle:=rdAt_le hd hc;refine⟨i64_rng (by omega),i64_rng (by omega),(d,9+x.val),⟨⟨eqD _,by dsimp only;omega,trivial⟩,hc,by dsimp only;omega⟩,rdAt d (9+x.val),⟨⟨rfl,trivial⟩,by show(rdAt d (9+x.val)).length<=1000;omega⟩,fun _ h=>i64_rng (by omega),fun _ h=> ?_,fun _ h=> ?_,?_⟩
  ·have:=of_decide_eq_true h;exact⟨by omega,by omega⟩
  ·have:=of_decide_eq_true h;unfold Lt;omega
  rw[stop_eq (d:=d) (ep:=ep)];refine⟨fun hb=> ?_,fun hb=> ?_⟩
  ·rw[lgM_at (by omega) hb x.2.2]
   exact⟨by unfold Le;omega,hx.symm,rowsR _ _⟩
  ·refine⟨⟨by unfold Le;omega,by unfold AppB;omega⟩,i64_rng (by omega),x.succ (by omega) hb,⟨⟨rfl,⟨rfl,rfl⟩,⟨rfl,rfl⟩,by dsimp only[Cnt.succ];omega,trivial⟩,⟨rfl,rfl,eqD _⟩,⟨(lgL_len d (x.val+1)).symm,?_⟩,trivial⟩,by unfold Lt;dsimp only[Cnt.succ];omega⟩
   show RowsEq _ _ (recRow (lgL d (x.val+1)));have hs:=rec_app (lgL d x.val) (lgR d x.val).1;have hk:l4k (rdAt d (9+x.val))=true:=by
    rw[←stop_eq] at hb;simp only[Bool.or_eq_false_iff,Bool.not_eq_false'] at hb;exact hb.1.1.1
   have hr:(lgR d x.val).1=l4r (rdAt d (9+x.val)):=by
    show(rdRc (rdAt d (9+x.val))).1=_;rw[(l4_k hk).1]
   rw[lgL_succ,hr];rw[hx,hr] at hs;exact hs
 ·have hq:x.val=d.sec.length-9:=by
   by_cases hn:x.val=d.sec.length-9
   ·exact hn
   ·rw[decide_eq_true (show((x.val+1:Nat):Int)<=60 by omega),decide_eq_true (show(9:Int)+((x.val+1:Nat):Int)-1<(d.sec.length:Int) by omega)] at hc
    cases hc
  rw[lgM_all hq x.2.2];exact⟨by unfold Le;omega,hx.symm,rowsR _ _⟩
end Go.Proofs.YtokaojbaacnngaaGreat

