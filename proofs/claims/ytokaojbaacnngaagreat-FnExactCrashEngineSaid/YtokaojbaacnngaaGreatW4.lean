/- A part of the proof. -/
import Derived.Test.YtokaojbaacnngaaGreatW3
namespace Go.Proofs.YtokaojbaacnngaaGreat
set_option maxRecDepth 100000
open Go.SS

def ndS(L:List Rec)(T:List Txn):Nat->Nat
 |0=>0
 |k+1=>ndS L T k+(1+und L 61 (T.getD k default).last)
def ndE(e:Eng):Nat:=ndS e.s.log e.txs e.txs.length
def NdOK(e:Eng):Prop:=LogP e.s.log/\e.txs.length<=10/\∀i,i<e.txs.length->(e.txs.getD i default).last<=(e.s.log.length:Int)
theorem ndS_le(L:List Rec)(T:List Txn):∀k,ndS L T k<=62*k:=by
 intro k;induction k with
 |zero=>exact Nat.le_refl 0
 |succ k ih=>unfold ndS;have:=und_le L 61 (T.getD k default).last;omega
def k_needsE:Con:=.rel ⟨Eng,fun e=>[.bref e.ts],fun e=>.int .i64 (ndE e),NdOK⟩
def A_needsE(e:Eng):Nat->Ann
 |0=>.one {i:Nat//i<=e.txs.length} (fun x=>⟨[(0,.bref e.ts),(3,.int .i64 (ndS e.s.log e.txs x.1)),(9,txnS e.txs),(10,.int .i64 e.txs.length),(11,.int .i64 x.1)],[]⟩) (fun x=>e.txs.length-x.1) [] [] (fun _=>noAnn)
 |_=>.none
noncomputable def b_needsE:Code:=Tryz.f179.body.getD .skip
theorem call_needsE:Callable Tryz.prog 179:=⟨_,Tryz.func179,by kernel_rfl,by kernel_rfl⟩
theorem v_needsE(e:Eng)(h:
  (∃(x:{i:Nat//i<=e.txs.length}),(TLe (fun(x:Nat)=>none) (T.bref e.ts) (T.bref e.ts)/\(0:Int)=(↑(ndS e.s.log e.txs x.val):Int)/\(EqL txnRow e.txs e.txs)/\(e.txs.length:Int)=(e.txs.length:Int)/\(0:Int)=
  (x.val:Int)/\True)/\True)/\∀(x:{i:Nat//i<=e.txs.length}),(decide ((x.val:Int)<(e.txs.length:Int))=true->InB (x.val:Int) e.txs.length/\∃(x_1:(Sto×Int)),(((EqS e.s x_1.fst)/\(e.txs.getD (x.val:Int).toNat
  default).last=x_1.snd/\True)/\LastOK x_1.fst.log x_1.snd)/\Rng .i64 ((↑(ndS e.s.log e.txs x.val):Int)+(↑(1+und x_1.fst.log 61 x_1.snd):Int))/\Rng .i64 ((x.val:Int)+(1:Int))/\∃(y:{i:Nat//i<=e.txs.length
  }),((TLe (fun(x:Nat)=>none) (T.bref e.ts) (T.bref e.ts)/\(↑(ndS e.s.log e.txs x.val):Int)+(↑(1+und x_1.fst.log 61 x_1.snd):Int)=(↑(ndS e.s.log e.txs y.val):Int)/\(EqL txnRow e.txs e.txs)/\(e.txs.length:Int)=
  (e.txs.length:Int)/\(x.val:Int)+(1:Int)=(y.val:Int)/\True)/\True)/\Lt (e.txs.length-y.val) (e.txs.length-x.val))/\(decide ((x.val:Int)<(e.txs.length:Int))=false->(↑(ndS e.s.log e.txs x.val):Int)=(↑(ndE e):
  Int))):
  PureFn Tryz.prog 179 [.bref e.ts] (.int .i64 (ndE e)):=
 vcR (code:=b_needsE) (gC needsS_ok call_needsS gN) Tryz.func179 (by kernel_rfl) (by kernel_rfl) (A_needsE e) h (by kernel_rfl)
theorem ndS_succ{L:List Rec}{T:List Txn}{i:Nat}:((ndS L T i:Nat):Int)+((1+und L 61 (T.getD i default).last:Nat):Int)=(ndS L T (i+1):Nat):=by
 conv=>rhs;unfold ndS
 omega
theorem needsE_ok:ConOk Tryz.prog 179 k_needsE:=by
 rintro(e:Eng) ⟨hL,h10,hb⟩;refine v_needsE e ⟨⟨⟨0,Nat.zero_le _⟩,⟨bref_le _,rfl,⟨rfl,rowsR _ _⟩,rfl,rfl,trivial⟩,trivial⟩,fun x=>⟨fun hc=> ?_,fun hc=> ?_⟩⟩
 ·have hlt:=lt_of_dec hc;have h1:=ndS_le e.s.log e.txs x.val;have h2:=und_le e.s.log 61 (e.txs.getD x.val default).last;refine⟨inB_nat hlt,(e.s,(e.txs.getD x.val default).last),⟨⟨(eqS _),rfl,trivial⟩,hL,hb _ hlt⟩,i64_rng (by dsimp only;omega),add_rng hlt (by omega),⟨x.val+1,hlt⟩,⟨⟨bref_le _,ndS_succ,⟨rfl,rowsR _ _⟩,rfl,by dsimp only;omega,trivial⟩,trivial⟩,Cnt.ext_lt hlt⟩
 ·have hx:x.val=e.txs.length:=by have:=x.2;have:=le_of_not hc;omega
  rw[hx];rfl
def k_hasRoom:Con:=.rel ⟨Eng×Int,fun x=>[.bref x.1.ts,.int .i64 x.2],fun x=>.bool (decide ((x.1.s.log.length:Int)+ndE x.1+x.2<=60)),fun x=>NdOK x.1/\Small x.2⟩
noncomputable def b_hasRoom:Code:=Tryz.f110.body.getD .skip
theorem call_hasRoom:Callable Tryz.prog 110:=⟨_,Tryz.func110,by kernel_rfl,by kernel_rfl⟩
theorem v_hasRoom(e:Eng)(m:Int)(h:
  ∃(x:Eng),(((EqG e x)/\True)/\NdOK x)/\Rng .i64 ((e.s.log.length:Int)+(↑(ndE x):Int))/\Rng .i64 ((e.s.log.length:Int)+(↑(ndE x):Int)+m)/\decide ((e.s.log.length:Int)+(↑(ndE x):Int)+m<=(60:Int))=decide
  ((e.s.log.length:Int)+(↑(ndE e):Int)+m<=(60:Int))):
  PureFn Tryz.prog 110 [.bref e.ts,.int .i64 m] (.bool (decide ((e.s.log.length:Int)+ndE e+m<=60))):=
 vcR (code:=b_hasRoom) (gC needsE_ok call_needsE gN) Tryz.func110 (by kernel_rfl) (by kernel_rfl) noAnn h (by kernel_rfl)
theorem hasRoom_ok:ConOk Tryz.prog 110 k_hasRoom:=by
 rintro⟨e,m⟩ ⟨hn,h1,h2⟩;dsimp only at hn h1 h2;have hb:=ndS_le e.s.log e.txs e.txs.length;have hb2:=hn.2.1;have hb3:=hn.1.1;have he:ndE e=ndS e.s.log e.txs e.txs.length:=rfl;exact v_hasRoom e m ⟨e,⟨⟨(eqG _),trivial⟩,hn⟩,i64_rng (by omega),i64_rng (by omega),rfl⟩
def k_l07Reserve:Con:=.rel ⟨Eng,fun e=>[.agg e.ts],fun e=>.int .i64 (ndE e),NdOK⟩
def A_l07Reserve(e:Eng):Nat->Ann
 |0=>.one {i:Nat//i<=e.txs.length} (fun x=>⟨[(1,.ref 0 0 0),(3,.int .i64 (ndS e.s.log e.txs x.1)),(4,.int .i64 x.1)],[engBox e]⟩) (fun x=>e.txs.length-x.1) [.box 0] [.box 0] (fun _=>noAnn)
 |_=>.none
noncomputable def b_l07Reserve:Code:=Tryz.f77.body.getD .skip
theorem call_l07Reserve:Callable Tryz.prog 77:=⟨_,Tryz.func77,by kernel_rfl,by kernel_rfl⟩
theorem v_l07Reserve(e:Eng)(h:
  (∃(x:{i:Nat//i<=e.txs.length}),((0=0/\0=0)/\(0:Int)=(↑(ndS e.s.log e.txs x.val):Int)/\(0:Int)=(x.val:Int)/\True)/\(1=1/\1=1/\EqG e e)/\True)/\∀(x:{i:Nat//i<=e.txs.length}),(decide
  ((x.val:Int)<(e.txs.length:Int))=true->InB (x.val:Int) e.txs.length/\∃(x_1:(Sto×Int)),(((EqS e.s x_1.fst)/\(e.txs.getD (x.val:Int).toNat default).last=x_1.snd/\True)/\LastOK x_1.fst.log x_1.snd)/\Rng .i64 ((↑(ndS
  e.s.log e.txs x.val):Int)+(↑(1+und x_1.fst.log 61 x_1.snd):Int))/\Rng .i64 ((x.val:Int)+(1:Int))/\∃(y:{i:Nat//i<=e.txs.length}),(((0=0/\0=0)/\(↑(ndS e.s.log e.txs x.val):Int)+(↑(1+und
  x_1.fst.log 61 x_1.snd):Int)=(↑(ndS e.s.log e.txs y.val):Int)/\(x.val:Int)+(1:Int)=(y.val:Int)/\True)/\(1=1/\1=1/\EqG e e)/\True)/\Lt (e.txs.length-y.val) (e.txs.length-x.val))/\(decide ((x.val:Int)<
  (e.txs.length:Int))=false->(↑(ndS e.s.log e.txs x.val):Int)=(↑(ndE e):Int))):
  PureFn Tryz.prog 77 [.agg e.ts] (.int .i64 (ndE e)):=
 vcR (code:=b_l07Reserve) (gC l07Undo_ok call_l07Undo gN) Tryz.func77 (by kernel_rfl) (by kernel_rfl) (A_l07Reserve e) h (by kernel_rfl)
theorem l07Reserve_ok:ConOk Tryz.prog 77 k_l07Reserve:=by
 rintro(e:Eng) ⟨hL,h10,hb⟩;refine v_l07Reserve e ⟨⟨⟨0,Nat.zero_le _⟩,⟨⟨rfl,rfl⟩,rfl,rfl,trivial⟩,⟨rfl,rfl,eqG _⟩,trivial⟩,fun x=>⟨fun hc=> ?_,fun hc=> ?_⟩⟩
 ·have hlt:=lt_of_dec hc;have h1:=ndS_le e.s.log e.txs x.val;have h2:=und_le e.s.log 61 (e.txs.getD x.val default).last;refine⟨inB_nat hlt,(e.s,(e.txs.getD x.val default).last),⟨⟨(eqS _),rfl,trivial⟩,hL,hb _ hlt⟩,i64_rng (by dsimp only;omega),add_rng hlt (by omega),⟨x.val+1,hlt⟩,⟨⟨⟨rfl,rfl⟩,ndS_succ,by dsimp only;omega,trivial⟩,⟨rfl,rfl,eqG _⟩,trivial⟩,Cnt.ext_lt hlt⟩
 ·have hx:x.val=e.txs.length:=by have:=x.2;have:=le_of_not hc;omega
  rw[hx];rfl
def backR(L:List Rec)(r:Rec):Bool:=decide (r.n>0)&&((recAt L r.n).t==r.t)&&decide ((recAt L r.n).k<=3)
def k_l07Back:Con:=.rel ⟨Sto×Rec,fun x=>[.agg x.1.ts,.agg x.2.ts],fun x=>.bool (backR x.1.log x.2),fun x=>x.2.n<=(x.1.log.length:Int)/\Len x.1.log.length⟩
noncomputable def b_l07Back:Code:=Tryz.f75.body.getD .skip
theorem call_l07Back:Callable Tryz.prog 75:=⟨_,Tryz.func75,by kernel_rfl,by kernel_rfl⟩
theorem v_l07Back(s:Sto)(r:Rec)(h:
  (decide (r.n>(0:Int))=true->Rng .i64 (r.n- (1:Int)))/\(decide (r.n>(0:Int))=true->InB (r.n- (1:Int)) s.log.length)/\((decide (r.n>(0:Int))&&(s.log.getD (r.n- (1:Int)).toNat default).t==r.t)=true
  ->Rng .i64 (r.n- (1:Int)))/\((decide (r.n>(0:Int))&&(s.log.getD (r.n- (1:Int)).toNat default).t==r.t)=true->InB (r.n- (1:Int)) s.log.length)/\(decide (r.n>(0:Int))&&(s.log.getD (r.n- (1:Int)).toNat
  default).t==r.t&&decide ((s.log.getD (r.n- (1:Int)).toNat default).k<=(3:Int)))=backR s.log r):
  PureFn Tryz.prog 75 [.agg s.ts,.agg r.ts] (.bool (backR s.log r)):=
 vcR (code:=b_l07Back) gN Tryz.func75 (by kernel_rfl) (by kernel_rfl) noAnn h (by kernel_rfl)
theorem l07Back_ok:ConOk Tryz.prog 75 k_l07Back:=by
 rintro⟨s,r⟩ ⟨h1,h2⟩;have h2:s.log.length<1000000000000:=h2;dsimp only at h1;have k1:decide (r.n>(0:Int))=true->Rng .i64 (r.n-1)/\InB (r.n-1) s.log.length:=fun h=>by
  have h:=of_decide_eq_true h;exact⟨i64_rng (by omega),by omega,by omega⟩
 exact v_l07Back s r ⟨fun h=>(k1 h).1,fun h=>(k1 h).2,fun h=>(k1 (Bool.and_eq_true_iff.1 h).1).1,fun h=>(k1 (Bool.and_eq_true_iff.1 h).1).2,rfl⟩
def noTx(e:Eng)(i:Nat):Bool:=decide (txAt e.txs (e.lk.held.getD i default).tx<0)
def noTx2(e:Eng)(i:Nat):Bool:=decide (txAt e.txs (e.lk.waits.getD i default).tx<0)||decide (txAt e.txs (e.lk.waits.getD i default).fo<0)
def TxL(e:Eng):Prop:=Len e.txs.length
def k_engineOK1:Con:=.rel ⟨Eng×Lck,fun x=>[.agg x.2.ts,.bref [.bref x.1.ts]],fun x=>.bool (decide (txAt x.1.txs x.2.tx<0)),fun x=>TxL x.1⟩
noncomputable def b_engineOK1:Code:=Tryz.f159.body.getD .skip
theorem call_engineOK1:Callable Tryz.prog 159:=⟨_,Tryz.func159,by kernel_rfl,by kernel_rfl⟩
theorem v_engineOK1(e:Eng)(l:Lck)(h:
  ∃(x:(Eng×Int)),(((EqG e x.fst)/\l.tx=x.snd/\True)/\Len x.fst.txs.length)/\decide (txAt x.fst.txs x.snd<(0:Int))=decide (txAt e.txs l.tx<(0:Int))):
  PureFn Tryz.prog 159 [.agg l.ts,.bref [.bref e.ts]] (.bool (decide (txAt e.txs l.tx<0))):=
 vcR (code:=b_engineOK1) (gC txAt_ok call_txAt gN) Tryz.func159 (by kernel_rfl) (by kernel_rfl) noAnn h (by kernel_rfl)
theorem engineOK1_ok:ConOk Tryz.prog 159 k_engineOK1:=fun x h=>v_engineOK1 x.1 x.2 ⟨(x.1,x.2.tx),⟨⟨(eqG _),rfl,trivial⟩,h⟩,rfl⟩
def k_engineOK2:Con:=.rel ⟨Eng×Wt,fun x=>[.agg x.2.ts,.bref [.bref x.1.ts]],fun x=>.bool (decide (txAt x.1.txs x.2.tx<0)||decide (txAt x.1.txs x.2.fo<0)),fun x=>TxL x.1⟩
noncomputable def b_engineOK2:Code:=Tryz.f161.body.getD .skip
theorem call_engineOK2:Callable Tryz.prog 161:=⟨_,Tryz.func161,by kernel_rfl,by kernel_rfl⟩
theorem v_engineOK2(e:Eng)(l:Wt)(h:
  ∃(x:(Eng×Int)),(((EqG e x.fst)/\l.tx=x.snd/\True)/\Len x.fst.txs.length)/\∃(x_1:(Eng×Int)),(decide (txAt x.fst.txs x.snd<(0:Int))=false->((EqG e x_1.fst)/\l.fo=x_1.snd/\True)/\Len x_1.fst.txs.length)
  /\(decide (txAt x.fst.txs x.snd<(0:Int))||decide (txAt x_1.fst.txs x_1.snd<(0:Int)))=(decide (txAt e.txs l.tx<(0:Int))||decide (txAt e.txs l.fo<(0:Int)))):
  PureFn Tryz.prog 161 [.agg l.ts,.bref [.bref e.ts]] (.bool (decide (txAt e.txs l.tx<0)||decide (txAt e.txs l.fo<0))):=
 vcR (code:=b_engineOK2) (gC txAt_ok call_txAt gN) Tryz.func161 (by kernel_rfl) (by kernel_rfl) noAnn h (by kernel_rfl)
theorem engineOK2_ok:ConOk Tryz.prog 161 k_engineOK2:=fun x h=>v_engineOK2 x.1 x.2 ⟨(x.1,x.2.tx),⟨⟨(eqG _),rfl,trivial⟩,h⟩,(x.1,x.2.fo),fun _=>⟨⟨(eqG _),rfl,trivial⟩,h⟩,rfl⟩
def eF1(e:Eng):T:=.fn (.func 159) [.bref [.bref e.ts]]
def eF2(e:Eng):T:=.fn (.func 161) [.bref [.bref e.ts]]
def HlL(e:Eng):Prop:=TxL e/\Len e.lk.held.length/\Len e.lk.waits.length
def k_idxLckB:Con:=.rel ⟨Eng,fun e=>[lckS e.lk.held,eF1 e],fun e=>.int .i64 (fstI e.lk.held.length (noTx e)),HlL⟩
def A_idxLckB(e:Eng):Nat->Ann
 |0=>.one (Cnt e.lk.held.length (noTx e)) (fun x=>⟨[(0,lckS e.lk.held),(1,eF1 e),(7,.int .i64 e.lk.held.length),(8,.int .i64 x.1)],[]⟩) (fun x=>e.lk.held.length-x.1) [] [] (fun _=>noAnn)
 |_=>.none
noncomputable def b_idxLckB:Code:=Tryz.f223.body.getD .skip
theorem call_idxLckB:Callable Tryz.prog 223:=⟨_,Tryz.func223,by kernel_rfl,by kernel_rfl⟩
theorem v_idxLckB(e:Eng)(h:
  (∃(x:Cnt e.lk.held.length (noTx e)),((EqL lckRow e.lk.held e.lk.held)/\(Fn.func 159=Fn.func 159/\TLe (fun(x:Nat)=>none) (T.bref [T.bref e.ts]) (T.bref [T.bref e.ts])/\True)/\(e.lk.held.length:Int)=
  (e.lk.held.length:Int)/\(0:Int)=(x.val:Int)/\True)/\True)/\∀(x:Cnt e.lk.held.length (noTx e)),(decide ((x.val:Int)<(e.lk.held.length:Int))=true->InB (x.val:Int) e.lk.held.length/\∃(x_1:(Eng×Lck)),
  ((((e.lk.held.getD (x.val:Int).toNat default).tx=x_1.snd.tx/\(e.lk.held.getD (x.val:Int).toNat default).ta=x_1.snd.ta/\(e.lk.held.getD (x.val:Int).toNat default).row=x_1.snd.row/\(e.lk.held.getD (x.val:Int).toNat
  default).mo=x_1.snd.mo/\True)/\((EqG e x_1.fst)/\True)/\True)/\TxL x_1.fst)/\(decide (txAt x_1.fst.txs x_1.snd.tx<(0:Int))=true->(x.val:Int)=fstI e.lk.held.length (noTx e))/\(decide (txAt x_1.fst.txs x_1.snd.tx<
  (0:Int))=false->Rng .i64 ((x.val:Int)+(1:Int))/\∃(y:Cnt e.lk.held.length (noTx e)),(((EqL lckRow e.lk.held e.lk.held)/\(Fn.func 159=Fn.func 159/\TLe (fun(x:Nat)=>none) (T.bref [T.bref e.ts]) (T.bref [T.bref
  e.ts])/\True)/\(e.lk.held.length:Int)=(e.lk.held.length:Int)/\(x.val:Int)+(1:Int)=(y.val:Int)/\True)/\True)/\Lt (e.lk.held.length-y.val) (e.lk.held.length-x.val)))/\(decide ((x.val:Int)<(e.lk.held.length:Int))
  =false->(-1:Int)=fstI e.lk.held.length (noTx e))):
  PureFn Tryz.prog 223 [lckS e.lk.held,eF1 e] (.int .i64 (fstI e.lk.held.length (noTx e))):=
 vcR (code:=b_idxLckB) (gC engineOK1_ok call_engineOK1 gN) Tryz.func223 (by kernel_rfl) (by kernel_rfl) (A_idxLckB e) h (by kernel_rfl)
theorem idxLckB_ok:ConOk Tryz.prog 223 k_idxLckB:=by
 rintro(e:Eng) ⟨ht,h1,h2⟩;have h1:e.lk.held.length<1000000000000:=h1;have h2:e.lk.waits.length<1000000000000:=h2;refine v_idxLckB e ⟨⟨cnt0,⟨⟨rfl,rowsR _ _⟩,⟨rfl,bref_le _,trivial⟩,rfl,rfl,trivial⟩,trivial⟩,fun x=>⟨fun hc=> ?_,fun hc=> ?_⟩⟩
 ·have hlt:=lt_of_dec hc;refine⟨inB_nat hlt,(e,e.lk.held.getD x.val default),⟨⟨⟨rfl,rfl,rfl,rfl,trivial⟩,⟨(eqG _),trivial⟩,trivial⟩,ht⟩,fun hp=>(fstI_at hlt hp x.2.2).symm,fun hp=>⟨add_rng hlt (by omega),x.succ hlt hp,⟨⟨⟨rfl,rowsR _ _⟩,⟨rfl,bref_le _,trivial⟩,rfl,by simp only[Cnt.succ];omega,trivial⟩,trivial⟩,Cnt.ext_lt hlt⟩⟩
 ·have hge:=le_of_not hc;exact(fstI_no fun j hj=>x.2.2 j (Nat.lt_of_lt_of_le hj hge)).symm
def k_anyLckB:Con:=.rel ⟨Eng,fun e=>[lckS e.lk.held,eF1 e],fun e=>.bool (anyI e.lk.held.length (noTx e)),HlL⟩
noncomputable def b_anyLckB:Code:=Tryz.f158.body.getD .skip
theorem call_anyLckB:Callable Tryz.prog 158:=⟨_,Tryz.func158,by kernel_rfl,by kernel_rfl⟩
theorem v_anyLckB(e:Eng)(h:
  ∃(x:Eng),(((EqL lckRow e.lk.held x.lk.held)/\(Fn.func 159=Fn.func 159/\((EqG e x)/\True)/\True)/\True)/\HlL x)/\decide (fstI x.lk.held.length (noTx x)≥(0:Int))=anyI e.lk.held.length (noTx e)):
  PureFn Tryz.prog 158 [lckS e.lk.held,eF1 e] (.bool (anyI e.lk.held.length (noTx e))):=
 vcR (code:=b_anyLckB) (gC idxLckB_ok call_idxLckB gN) Tryz.func158 (by kernel_rfl) (by kernel_rfl) noAnn h (by kernel_rfl)
theorem anyLckB_ok:ConOk Tryz.prog 158 k_anyLckB:=fun(e:Eng) h=>v_anyLckB e ⟨e,⟨⟨⟨rfl,rowsR _ _⟩,⟨rfl,⟨(eqG _),trivial⟩,trivial⟩,trivial⟩,h⟩,anyI_fst _ _⟩
def k_idxWtB:Con:=.rel ⟨Eng,fun e=>[wtS e.lk.waits,eF2 e],fun e=>.int .i64 (fstI e.lk.waits.length (noTx2 e)),HlL⟩
def A_idxWtB(e:Eng):Nat->Ann
 |0=>.one (Cnt e.lk.waits.length (noTx2 e)) (fun x=>⟨[(0,wtS e.lk.waits),(1,eF2 e),(7,.int .i64 e.lk.waits.length),(8,.int .i64 x.1)],[]⟩) (fun x=>e.lk.waits.length-x.1) [] [] (fun _=>noAnn)
 |_=>.none
noncomputable def b_idxWtB:Code:=Tryz.f224.body.getD .skip
theorem call_idxWtB:Callable Tryz.prog 224:=⟨_,Tryz.func224,by kernel_rfl,by kernel_rfl⟩
theorem v_idxWtB(e:Eng)(h:
  (∃(x:Cnt e.lk.waits.length (noTx2 e)),((EqL wtRow e.lk.waits e.lk.waits)/\(Fn.func 161=Fn.func 161/\TLe (fun(x:Nat)=>none) (T.bref [T.bref e.ts]) (T.bref [T.bref e.ts])/\True)/\(e.lk.waits.length:Int)=
  (e.lk.waits.length:Int)/\(0:Int)=(x.val:Int)/\True)/\True)/\∀(x:Cnt e.lk.waits.length (noTx2 e)),(decide ((x.val:Int)<(e.lk.waits.length:Int))=true->InB (x.val:Int) e.lk.waits.length/\∃(x_1:(Eng×Wt)),
  ((((e.lk.waits.getD (x.val:Int).toNat default).tx=x_1.snd.tx/\(e.lk.waits.getD (x.val:Int).toNat default).fo=x_1.snd.fo/\True)/\((EqG e x_1.fst)/\True)/\True)/\TxL x_1.fst)/\((decide (txAt x_1.fst.txs x_1.snd.tx<(0:
  Int))||decide (txAt x_1.fst.txs x_1.snd.fo<(0:Int)))=true->(x.val:Int)=fstI e.lk.waits.length (noTx2 e))/\((decide (txAt x_1.fst.txs x_1.snd.tx<(0:Int))||decide (txAt x_1.fst.txs x_1.snd.fo<(0:Int)))=false
  ->Rng .i64 ((x.val:Int)+(1:Int))/\∃(y:Cnt e.lk.waits.length (noTx2 e)),(((EqL wtRow e.lk.waits e.lk.waits)/\(Fn.func 161=Fn.func 161/\TLe (fun(x:Nat)=>none) (T.bref [T.bref e.ts]) (T.bref [T.bref e.ts])/\True)/\
  (e.lk.waits.length:Int)=(e.lk.waits.length:Int)/\(x.val:Int)+(1:Int)=(y.val:Int)/\True)/\True)/\Lt (e.lk.waits.length-y.val) (e.lk.waits.length-x.val)))/\(decide ((x.val:Int)<(e.lk.waits.length:Int))=false->
  (-1:Int)=fstI e.lk.waits.length (noTx2 e))):
  PureFn Tryz.prog 224 [wtS e.lk.waits,eF2 e] (.int .i64 (fstI e.lk.waits.length (noTx2 e))):=
 vcR (code:=b_idxWtB) (gC engineOK2_ok call_engineOK2 gN) Tryz.func224 (by kernel_rfl) (by kernel_rfl) (A_idxWtB e) h (by kernel_rfl)
theorem idxWtB_ok:ConOk Tryz.prog 224 k_idxWtB:=by
 rintro(e:Eng) ⟨ht,h1,h2⟩;have h1:e.lk.held.length<1000000000000:=h1;have h2:e.lk.waits.length<1000000000000:=h2;refine v_idxWtB e ⟨⟨cnt0,⟨⟨rfl,rowsR _ _⟩,⟨rfl,bref_le _,trivial⟩,rfl,rfl,trivial⟩,trivial⟩,fun x=>⟨fun hc=> ?_,fun hc=> ?_⟩⟩
 ·have hlt:=lt_of_dec hc;refine⟨inB_nat hlt,(e,e.lk.waits.getD x.val default),⟨⟨⟨rfl,rfl,trivial⟩,⟨(eqG _),trivial⟩,trivial⟩,ht⟩,fun hp=>(fstI_at hlt hp x.2.2).symm,fun hp=>⟨add_rng hlt (by omega),x.succ hlt hp,⟨⟨⟨rfl,rowsR _ _⟩,⟨rfl,bref_le _,trivial⟩,rfl,by simp only[Cnt.succ];omega,trivial⟩,trivial⟩,Cnt.ext_lt hlt⟩⟩
 ·have hge:=le_of_not hc;exact(fstI_no fun j hj=>x.2.2 j (Nat.lt_of_lt_of_le hj hge)).symm
def k_anyWtB:Con:=.rel ⟨Eng,fun e=>[wtS e.lk.waits,eF2 e],fun e=>.bool (anyI e.lk.waits.length (noTx2 e)),HlL⟩
noncomputable def b_anyWtB:Code:=Tryz.f160.body.getD .skip
theorem call_anyWtB:Callable Tryz.prog 160:=⟨_,Tryz.func160,by kernel_rfl,by kernel_rfl⟩
theorem v_anyWtB(e:Eng)(h:
  ∃(x:Eng),(((EqL wtRow e.lk.waits x.lk.waits)/\(Fn.func 161=Fn.func 161/\((EqG e x)/\True)/\True)/\True)/\HlL x)/\decide (fstI x.lk.waits.length (noTx2 x)≥(0:Int))=anyI e.lk.waits.length (noTx2 e)):
  PureFn Tryz.prog 160 [wtS e.lk.waits,eF2 e] (.bool (anyI e.lk.waits.length (noTx2 e))):=
 vcR (code:=b_anyWtB) (gC idxWtB_ok call_idxWtB gN) Tryz.func160 (by kernel_rfl) (by kernel_rfl) noAnn h (by kernel_rfl)
theorem anyWtB_ok:ConOk Tryz.prog 160 k_anyWtB:=fun(e:Eng) h=>v_anyWtB e ⟨e,⟨⟨⟨rfl,rowsR _ _⟩,⟨rfl,⟨(eqG _),trivial⟩,trivial⟩,trivial⟩,h⟩,anyI_fst _ _⟩
def badTx(e:Eng)(i:Nat):Bool:= !inR (e.txs.getD i default).id 1 (e.next-1)||(decide ((i:Int)>0)&&decide ((e.txs.getD (i-1) default).id≥(e.txs.getD i default).id))|| !txOK e.s.log (e.txs.getD i default)
def engHd(e:Eng):Bool:=decide (e.txs.length<=10)&&inR e.next 1 61&&lksOK e.lk
def noneE(e:Eng):Bool:=decide (e.txs.length+e.lk.held.length+e.lk.waits.length+e.s.fr.length=0)
def upE(e:Eng):Bool:= !anyI e.txs.length (badTx e)&& !anyI e.lk.held.length (noTx e)&& !anyI e.lk.waits.length (noTx2 e)&&decide (e.s.log.length+ndE e<=60)
def engR(e:Eng):Bool:=engHd e&&(if e.up then upE e else noneE e)
def EngL(e:Eng):Prop:=LogP e.s.log/\LksB e.lk/\Len e.txs.length/\Len e.s.fr.length
def k_engineOK:Con:=.rel ⟨Eng,fun e=>[.bref e.ts],fun e=>.bool (engR e),EngL⟩
def ptrBox(e:Eng):Option Ob:=some (.arr true 1000000 1 1 fun _=>[.bref e.ts])
def A_engineOK(e:Eng):Nat->Ann
 |0=>.one (Cnt e.txs.length (badTx e)) (fun x=>⟨[(1,.ref 0 0 0),(62,txnS e.txs),(63,.int .i64 e.txs.length),(64,.int .i64 x.1)],[ptrBox e]⟩) (fun x=>e.txs.length-x.1) [.box 0] [.box 0] (fun _=>noAnn)
 |_=>.none
noncomputable def b_engineOK:Code:=Tryz.f88.body.getD .skip
theorem call_engineOK:Callable Tryz.prog 88:=⟨_,Tryz.func88,by kernel_rfl,by kernel_rfl⟩
theorem v_engineOK(e:Eng)(h:
  ∃(x:r_LocksOK.ι),((decide ((e.txs.length:Int)>(10:Int))|| !inR e.next (1:Int) (61:Int))=false->(((EqL lckRow e.lk.held x.held)/\(EqL wtRow e.lk.waits x.waits)/\True)/\True)/\LksB x)/\((decide
  ((e.txs.length:Int)>(10:Int))|| !inR e.next (1:Int) (61:Int)|| !lksOK x)=true->false=engR e)/\((decide ((e.txs.length:Int)>(10:Int))|| !inR e.next (1:Int) (61:Int)|| !lksOK x)=false->((!e.up)=true->
  Rng .i64 ((e.txs.length:Int)+(e.lk.held.length:Int))/\Rng .i64 ((e.txs.length:Int)+(e.lk.held.length:Int)+(e.lk.waits.length:Int))/\Rng .i64 ((e.txs.length:Int)+(e.lk.held.length:Int)+(e.lk.waits.length:Int)+
  (e.s.fr.length:Int))/\((e.txs.length:Int)+(e.lk.held.length:Int)+(e.lk.waits.length:Int)+(e.s.fr.length:Int)==(0:Int))=engR e)/\((!e.up)=false->(∃(x:Cnt e.txs.length (badTx e)),((0=0/\0=0)/\(EqL txnRow
  e.txs e.txs)/\(e.txs.length:Int)=(e.txs.length:Int)/\(0:Int)=(x.val:Int)/\True)/\(1=1/\1=1/\TLe (rho [some 0]) (T.bref e.ts) (T.bref e.ts)/\True)/\True)/\∀(x:Cnt e.txs.length (badTx e)),(decide ((x.val:Int)
  <(e.txs.length:Int))=true->InB (x.val:Int) e.txs.length/\Rng .i64 (e.next- (1:Int))/\((!inR (e.txs.getD (x.val:Int).toNat default).id (1:Int) (e.next- (1:Int)))=false->decide ((x.val:Int)>(0:Int))=true->Rng
  .i64 ((x.val:Int)- (1:Int)))/\((!inR (e.txs.getD (x.val:Int).toNat default).id (1:Int) (e.next- (1:Int)))=false->decide ((x.val:Int)>(0:Int))=true->InB ((x.val:Int)- (1:Int)) e.txs.length)/\∃(x_1:(Sto×
  Txn)),((!inR (e.txs.getD (x.val:Int).toNat default).id (1:Int) (e.next- (1:Int))||decide ((x.val:Int)>(0:Int))&&decide ((e.txs.getD ((x.val:Int)- (1:Int)).toNat default).id≥(e.txs.getD (x.val:Int).toNat
  default).id))=false->((EqS e.s x_1.fst)/\((e.txs.getD (x.val:Int).toNat default).id=x_1.snd.id/\(e.txs.getD (x.val:Int).toNat default).last=x_1.snd.last/\True)/\True)/\LogP x_1.fst.log)/\((!inR (e.txs.getD
  (x.val:Int).toNat default).id (1:Int) (e.next- (1:Int))||decide ((x.val:Int)>(0:Int))&&decide ((e.txs.getD ((x.val:Int)- (1:Int)).toNat default).id≥(e.txs.getD (x.val:Int).toNat default).id)|| !txOK x_1.fst.log
  x_1.snd)=true->false=engR e)/\((!inR (e.txs.getD (x.val:Int).toNat default).id (1:Int) (e.next- (1:Int))||decide ((x.val:Int)>(0:Int))&&decide ((e.txs.getD ((x.val:Int)- (1:Int)).toNat default).id≥
  (e.txs.getD (x.val:Int).toNat default).id)|| !txOK x_1.fst.log x_1.snd)=false->Rng .i64 ((x.val:Int)+(1:Int))/\∃(y:Cnt e.txs.length (badTx e)),(((0=0/\0=0)/\(EqL txnRow e.txs e.txs)/\(e.txs.length:Int)=
  (e.txs.length:Int)/\(x.val:Int)+(1:Int)=(y.val:Int)/\True)/\(1=1/\1=1/\TLe (rho [some 0]) (T.bref e.ts) (T.bref e.ts)/\True)/\True)/\Lt (e.txs.length-y.val) (e.txs.length-x.val)))/\(decide ((x.val:Int)<
  (e.txs.length:Int))=false->∃(x:Eng),(((EqL lckRow e.lk.held x.lk.held)/\(Fn.func 159=Fn.func 159/\((EqG e x)/\True)/\True)/\True)/\HlL x)/\∃(x_1:Eng),(anyI x.lk.held.length (noTx x)=false->((EqL wtRow
  e.lk.waits x_1.lk.waits)/\(Fn.func 161=Fn.func 161/\((EqG e x_1)/\True)/\True)/\True)/\HlL x_1)/\((anyI x.lk.held.length (noTx x)||anyI x_1.lk.waits.length (noTx2 x_1))=true->false=engR e)/\((anyI x.lk.held.length
  (noTx x)||anyI x_1.lk.waits.length (noTx2 x_1))=false->∃(x:(Eng×Int)),(((EqG e x.fst)/\(0:Int)=x.snd/\True)/\NdOK x.fst/\Small x.snd)/\decide ((x.fst.s.log.length:Int)+(↑(ndE x.fst):Int)+x.snd<=(60:
  Int))=engR e))))):
  PureFn Tryz.prog 88 [.bref e.ts] (.bool (engR e)):=
 vcR (code:=b_engineOK) (gC inRange_ok call_inRange (gC LocksOKi_ok call_LocksOKi (gC chainOK_ok call_chainOK (gC anyLckB_ok call_anyLckB (gC anyWtB_ok call_anyWtB (gC hasRoom_ok call_hasRoom gN)))))) Tryz.func88 (by kernel_rfl) (by kernel_rfl) (A_engineOK e) h (by kernel_rfl)
theorem hd_eq(e:Eng):(decide ((e.txs.length:Int)>10)|| !inR e.next 1 61|| !lksOK e.lk)= !engHd e:=by
 unfold engHd;rw[Bool.not_and,Bool.not_and,←decide_not];congr 2
 exact decide_eq_decide.2 (by omega)
theorem engR_hd{e:Eng}(h:engHd e=false):engR e=false:=by unfold engR;rw[h];rfl
theorem engR_up{e:Eng}(h:engHd e=true)(hu:e.up=true):engR e=upE e:=by unfold engR;rw[h,if_pos hu];rfl
theorem engR_dn{e:Eng}(h:engHd e=true)(hu:e.up=false):engR e=noneE e:=by unfold engR;rw[h,hu];rfl
theorem upE_tx{e:Eng}{i:Nat}(hi:i<e.txs.length)(h:badTx e i=true):upE e=false:=by
 have:anyI e.txs.length (badTx e)=true:=anyI_iff.2 ⟨i,hi,h⟩;unfold upE;rw[this];rfl
theorem upE_ht{e:Eng}{i:Nat}(hi:i<e.lk.held.length)(h:noTx e i=true):upE e=false:=by
 have:anyI e.lk.held.length (noTx e)=true:=anyI_iff.2 ⟨i,hi,h⟩;unfold upE;rw[this];simp
theorem upE_wt{e:Eng}{i:Nat}(hi:i<e.lk.waits.length)(h:noTx2 e i=true):upE e=false:=by
 have:anyI e.lk.waits.length (noTx2 e)=true:=anyI_iff.2 ⟨i,hi,h⟩;unfold upE;rw[this];simp
theorem hd_split{e:Eng}(h:engHd e=true):e.txs.length<=10/\1<=e.next/\e.next<=61/\lksOK e.lk=true:=by
 unfold engHd at h;simp only[Bool.and_eq_true,decide_eq_true_eq,inR_iff] at h;exact⟨h.1.1,h.1.2.1,h.1.2.2,h.2⟩
theorem nd_ok{e:Eng}(hL:LogP e.s.log)(h:engHd e=true)(hb:∀i,i<e.txs.length->badTx e i=false):NdOK e:=by
 refine⟨hL,(hd_split h).1,fun i hi=> ?_⟩
 have:=hb i hi;unfold badTx at this;simp only[Bool.or_eq_false_iff,Bool.not_eq_false'] at this;have:=this.2;unfold txOK at this;simp only[Bool.and_eq_true,inR_iff] at this;exact this.1.2
theorem engineOK_ok:ConOk Tryz.prog 88 k_engineOK:=by
 rintro(e:Eng) ⟨hL,hk,ht,hf⟩;have ht:e.txs.length<1000000000000:=ht;have hf:e.s.fr.length<1000000000000:=hf;have hk1:e.lk.held.length<1000000000000:=hk.1;have hk2:e.lk.waits.length<1000000000000:=hk.2;refine v_engineOK e ⟨e.lk,fun _=>⟨⟨⟨⟨rfl,rowsR _ _⟩,⟨rfl,rowsR _ _⟩,trivial⟩,trivial⟩,hk⟩,fun hb=> ?_,fun hb=>⟨fun hu=> ?_,fun hu=> ?_⟩⟩
 ·rw[hd_eq] at hb;rw[engR_hd (by simpa using hb)]
 ·rw[hd_eq] at hb;rw[engR_dn (by simpa using hb) (by simpa using hu)]
  refine⟨i64_rng (by omega),i64_rng (by omega),i64_rng (by omega),?_⟩
  unfold noneE;rw[Bool.eq_iff_iff,beq_iff_eq,decide_eq_true_eq];omega
 ·rw[hd_eq] at hb;have hh:engHd e=true:=by simpa using hb
  have hu':e.up=true:=by simpa using hu
  obtain⟨q1,q2,q3,q4⟩:=hd_split hh;rw[engR_up hh hu'];refine⟨⟨cnt0,⟨⟨rfl,rfl⟩,⟨rfl,rowsR _ _⟩,rfl,rfl,trivial⟩,⟨rfl,rfl,bref_le _,trivial⟩,trivial⟩,fun x=>⟨fun hc=> ?_,fun hc=> ?_⟩⟩
  ·have hlt:=lt_of_dec hc;refine⟨inB_nat hlt,i64_rng (by omega),fun _ _=>i64_rng (by omega),fun _ h0=>⟨by have:=of_decide_eq_true h0;omega,by omega⟩,(e.s,e.txs.getD x.val default),fun _=>⟨⟨(eqS _),⟨rfl,rfl,trivial⟩,trivial⟩,hL⟩,fun hq=> ?_,fun hq=> ?_⟩
   ·rw[Int.toNat_natCast,show((x.val:Int)-1).toNat=x.val-1 by omega] at hq
    exact(upE_tx hlt hq).symm
   ·rw[Int.toNat_natCast,show((x.val:Int)-1).toNat=x.val-1 by omega] at hq
    exact⟨add_rng hlt (by omega),x.succ hlt hq,⟨⟨⟨rfl,rfl⟩,⟨rfl,rowsR _ _⟩,rfl,by simp only[Cnt.succ];omega,trivial⟩,⟨rfl,rfl,bref_le _,trivial⟩,trivial⟩,Cnt.ext_lt hlt⟩
  ·have hge:=le_of_not hc;have hno:∀i,i<e.txs.length->badTx e i=false:=fun i hi=>x.2.2 i (Nat.lt_of_lt_of_le hi hge)
   have hn:=nd_ok hL hh hno;have e1:anyI e.txs.length (badTx e)=false:=anyI_no.2 hno;refine⟨e,⟨⟨⟨rfl,rowsR _ _⟩,⟨rfl,⟨(eqG _),trivial⟩,trivial⟩,trivial⟩,ht,hk1,hk2⟩,e,fun _=>⟨⟨⟨rfl,rowsR _ _⟩,⟨rfl,⟨(eqG _),trivial⟩,trivial⟩,trivial⟩,ht,hk1,hk2⟩,fun hq=> ?_,fun hq=>⟨(e,0),⟨⟨(eqG _),rfl,trivial⟩,hn,by unfold Small;dsimp only;omega⟩,?_⟩⟩
   ·unfold upE;rw[e1];simp only[Bool.or_eq_true] at hq;rcases hq with hq|hq<;>rw[hq]<;>simp
   ·simp only[Bool.or_eq_false_iff] at hq;unfold upE;rw[e1,hq.1,hq.2];simp only[Bool.not_false,Bool.true_and];exact decide_eq_decide.2 (by omega)
noncomputable def engOK(e:Eng):Bool:=stoOK e.s&&engR e
def EngB(e:Eng):Prop:=StoB e.s/\LksB e.lk/\Len e.txs.length
noncomputable def r_EngineOK:Rl:=⟨Eng,fun e=>[.agg e.ts],fun e=>.bool (engOK e),EngB⟩
noncomputable def k_EngineOKi:Con:=.rel r_EngineOK
noncomputable def k_EngineOKs:Con:=.rel r_EngineOK
noncomputable def b_EngineOKi:Code:=Tryz.f41.body.getD .skip
theorem call_EngineOKi:Callable Tryz.prog 41:=⟨_,Tryz.func41,by kernel_rfl,by kernel_rfl⟩
theorem v_EngineOKi(e:Eng)(h:
  ∃(x:r_StoreOK.ι),(((EqS e.s x)/\True)/\StoB x)/\∃(x_1:Eng),(stoOK x=true->((EqG e x_1)/\True)/\EngL x_1)/\(stoOK x&&engR x_1)=engOK e):
  PureFn Tryz.prog 41 [.agg e.ts] (.bool (engOK e)):=
 vcR (code:=b_EngineOKi) (gC StoreOKi_ok call_StoreOKi (gC engineOK_ok call_engineOK gN)) Tryz.func41 (by kernel_rfl) (by kernel_rfl) noAnn h (by kernel_rfl)
theorem sto_log{s:Sto}(h:stoOK s=true):LogP s.log:=by
 obtain⟨⟨h1,h2,_⟩,_⟩:=(sto_split s).1 h;exact⟨((hdr_split s).1 h1).2.2.2.2,fun i hi=>by
  obtain⟨a,b⟩:=areOK_iff.1 h2 i hi;exact⟨(recOK_iff _).1 a,b⟩⟩
theorem EngineOKi_ok:ConOk Tryz.prog 41 k_EngineOKi:=by
 rintro(e:Eng) ⟨h1,h2,h3⟩;exact v_EngineOKi e ⟨e.s,⟨⟨(eqS _),trivial⟩,h1⟩,e,fun hs=>⟨⟨(eqG _),trivial⟩,sto_log hs,h2,h3,h1.2.2.1.1⟩,rfl⟩
def Chs(L:List Rec)(t:Txn):Type:={x:Nat×Int//(decide (x.2<=0)||chn L t.id x.1 x.2)=txOK L t/\x.2<=(L.length:Int)/\x.2.toNat<x.1}
def A_EngineOKs(e:Eng):Nat->Ann
 |0=>.one (Cnt e.txs.length (badTx e)) (fun x=>⟨[(1,.ref 0 0 0),(3,.int .i64 x.1)],[engBox e]⟩) (fun x=>e.txs.length-x.1) [.box 0] [.box 0] (fun x=>fun
  |1=>.one (Chs e.s.log (e.txs.getD x.1 default)) (fun y=>⟨[(1,.ref 0 0 0),(3,.int .i64 x.1),(4,.ref 1 0 0),(5,.int .i64 y.1.2)],[engBox e,txnBox (e.txs.getD x.1 default)]⟩) (fun y=>y.1.1) [.box 0,.box 1] [.box 0,.box 1] (fun _=>noAnn)
  |2=>.one (Cnt e.lk.held.length (noTx e)) (fun y=>⟨[(1,.ref 0 0 0),(7,.int .i64 y.1)],[engBox e]⟩) (fun y=>e.lk.held.length-y.1) [.box 0] [.box 0] (fun _=>fun
   |3=>.one (Cnt e.lk.waits.length (noTx2 e)) (fun z=>⟨[(1,.ref 0 0 0),(8,.int .i64 z.1)],[engBox e]⟩) (fun z=>e.lk.waits.length-z.1) [.box 0] [.box 0] (fun _=>noAnn)
   |_=>.none)
  |_=>.none)
 |_=>.none
noncomputable def b_EngineOKs:Code:=Tryz.f35.body.getD .skip
theorem call_EngineOKs:Callable Tryz.prog 35:=⟨_,Tryz.func35,by kernel_rfl,by kernel_rfl⟩
theorem v_EngineOKs(e:Eng)(h:
  ∃(x:r_StoreOK.ι),(((EqS e.s x)/\True)/\StoB x)/\∃(x_1:r_LocksOK.ι),((!stoOK x||decide ((e.txs.length:Int)>(10:Int)))=false->(((EqL lckRow e.lk.held x_1.held)/\(EqL wtRow e.lk.waits x_1.waits)/\True)/\True)/\
  LksB x_1)/\((!stoOK x||decide ((e.txs.length:Int)>(10:Int))|| !lksOK x_1|| !inR e.next (1:Int) (61:Int))=true->false=engOK e)/\((!stoOK x||decide ((e.txs.length:Int)>(10:Int))|| !lksOK x_1|| !inR e.next
  (1:Int) (61:Int))=false->((!e.up)=true->((e.txs.length:Int)==(0:Int)&&(e.lk.held.length:Int)==(0:Int)&&(e.lk.waits.length:Int)==(0:Int)&&(e.s.fr.length:Int)==(0:Int))=engOK e)/\((!e.up)=false->
  (∃(x:Cnt e.txs.length (badTx e)),((0=0/\0=0)/\(0:Int)=(x.val:Int)/\True)/\(1=1/\1=1/\EqG e e)/\True)/\∀(x:Cnt e.txs.length (badTx e)),(decide ((x.val:Int)<(e.txs.length:Int))=true->InB (x.val:Int)
  e.txs.length/\Rng .i64 (e.next- (1:Int))/\((!inR (e.txs.getD (x.val:Int).toNat default).id (1:Int) (e.next- (1:Int)))=false->decide ((x.val:Int)>(0:Int))=true->Rng .i64 ((x.val:Int)- (1:Int)))/\((!inR
  (e.txs.getD (x.val:Int).toNat default).id (1:Int) (e.next- (1:Int)))=false->decide ((x.val:Int)>(0:Int))=true->InB ((x.val:Int)- (1:Int)) e.txs.length)/\((!inR (e.txs.getD (x.val:Int).toNat default).id (1:Int)
  (e.next- (1:Int))||decide ((x.val:Int)>(0:Int))&&decide ((e.txs.getD ((x.val:Int)- (1:Int)).toNat default).id≥(e.txs.getD (x.val:Int).toNat default).id)|| !inR (e.txs.getD (x.val:Int).toNat default).last (1:Int)
  (e.s.log.length:Int))=true->false=engOK e)/\((!inR (e.txs.getD (x.val:Int).toNat default).id (1:Int) (e.next- (1:Int))||decide ((x.val:Int)>(0:Int))&&decide ((e.txs.getD ((x.val:Int)- (1:Int)).toNat
  default).id≥(e.txs.getD (x.val:Int).toNat default).id)|| !inR (e.txs.getD (x.val:Int).toNat default).last (1:Int) (e.s.log.length:Int))=false->(∃(x_2:Chs e.s.log (e.txs.getD x.val default)),((0=0/\0=0)/\
  (x.val:Int)=(x.val:Int)/\(0=0/\0=0)/\(e.txs.getD (x.val:Int).toNat default).last=x_2.val.snd/\True)/\(1=1/\1=1/\EqG e e)/\(1=1/\1=1/\(e.txs.getD (x.val:Int).toNat default).id=(e.txs.getD x.val
  default).id/\(e.txs.getD (x.val:Int).toNat default).last=(e.txs.getD x.val default).last/\True)/\True)/\∀(x_2:Chs e.s.log (e.txs.getD x.val default)),(decide (x_2.val.snd>(0:Int))=true->Rng .i64 (x_2.val.snd- (1
  :Int))/\InB (x_2.val.snd- (1:Int)) e.s.log.length/\∃(x_3:(Sto×Rec)),(((e.s.log.getD (x_2.val.snd- (1:Int)).toNat default).t !=(e.txs.getD x.val default).id||(e.s.log.getD (x_2.val.snd- (1:Int)).toNat
  default).k==(4:Int)||(e.s.log.getD (x_2.val.snd- (1:Int)).toNat default).k==(5:Int)||(e.s.log.getD (x_2.val.snd- (1:Int)).toNat default).k==(6:Int))=false->((e.s.log.getD (x_2.val.snd- (1:Int)).toNat
  default).k==(3:Int))=true->((EqS e.s x_3.fst)/\((e.s.log.getD (x_2.val.snd- (1:Int)).toNat default).e=x_3.snd.e/\(e.s.log.getD (x_2.val.snd- (1:Int)).toNat default).l=x_3.snd.l/\(e.s.log.getD (x_2.val.snd- (1
  :Int)).toNat default).t=x_3.snd.t/\(e.s.log.getD (x_2.val.snd- (1:Int)).toNat default).k=x_3.snd.k/\(e.s.log.getD (x_2.val.snd- (1:Int)).toNat default).p=x_3.snd.p/\(e.s.log.getD (x_2.val.snd- (1:Int)).toNat
  default).n=x_3.snd.n/\(e.s.log.getD (x_2.val.snd- (1:Int)).toNat default).g=x_3.snd.g/\(e.s.log.getD (x_2.val.snd- (1:Int)).toNat default).s=x_3.snd.s/\(e.s.log.getD (x_2.val.snd- (1:Int)).toNat default).b=
  x_3.snd.b/\(e.s.log.getD (x_2.val.snd- (1:Int)).toNat default).a=x_3.snd.a/\True)/\True)/\x_3.snd.n<=(x_3.fst.log.length:Int)/\Len x_3.fst.log.length)/\(((e.s.log.getD (x_2.val.snd- (1:Int)).toNat default).t !=
  (e.txs.getD x.val default).id||(e.s.log.getD (x_2.val.snd- (1:Int)).toNat default).k==(4:Int)||(e.s.log.getD (x_2.val.snd- (1:Int)).toNat default).k==(5:Int)||(e.s.log.getD (x_2.val.snd- (1:Int)).toNat
  default).k==(6:Int)||(e.s.log.getD (x_2.val.snd- (1:Int)).toNat default).k==(3:Int)&& !backR x_3.fst.log x_3.snd)=true->false=engOK e)/\(((e.s.log.getD (x_2.val.snd- (1:Int)).toNat default).t !=(e.txs.getD
  x.val default).id||(e.s.log.getD (x_2.val.snd- (1:Int)).toNat default).k==(4:Int)||(e.s.log.getD (x_2.val.snd- (1:Int)).toNat default).k==(5:Int)||(e.s.log.getD (x_2.val.snd- (1:Int)).toNat default).k==(6
  :Int)||(e.s.log.getD (x_2.val.snd- (1:Int)).toNat default).k==(3:Int)&& !backR x_3.fst.log x_3.snd)=false->Rng .i64 (x_2.val.snd- (1:Int))/\InB (x_2.val.snd- (1:Int)) e.s.log.length/\∃(y:Chs e.s.log
  (e.txs.getD x.val default)),(((0=0/\0=0)/\(x.val:Int)=(x.val:Int)/\(0=0/\0=0)/\(e.s.log.getD (x_2.val.snd- (1:Int)).toNat default).p=y.val.snd/\True)/\(1=1/\1=1/\EqG e e)/\(1=1/\1=1/\(e.txs.getD
  x.val default).id=(e.txs.getD x.val default).id/\(e.txs.getD x.val default).last=(e.txs.getD x.val default).last/\True)/\True)/\Lt y.val.fst x_2.val.fst))/\(decide (x_2.val.snd>(0:Int))=false->Rng .i64 ((x.val:Int)
  +(1:Int))/\∃(y:Cnt e.txs.length (badTx e)),(((0=0/\0=0)/\(x.val:Int)+(1:Int)=(y.val:Int)/\True)/\(1=1/\1=1/\EqG e e)/\True)/\Lt (e.txs.length-y.val) (e.txs.length-x.val))))/\(decide ((x.val:Int)
  <(e.txs.length:Int))=false->(∃(x:Cnt e.lk.held.length (noTx e)),((0=0/\0=0)/\(0:Int)=(x.val:Int)/\True)/\(1=1/\1=1/\EqG e e)/\True)/\∀(x:Cnt e.lk.held.length (noTx e)),(decide ((x.val:Int)<
  (e.lk.held.length:Int))=true->InB (x.val:Int) e.lk.held.length/\∃(x_2:(Eng×Int)),(((EqG e x_2.fst)/\(e.lk.held.getD (x.val:Int).toNat default).tx=x_2.snd/\True)/\Len x_2.fst.txs.length)/\(decide (txAt x_2.fst.txs
  x_2.snd<(0:Int))=true->false=engOK e)/\(decide (txAt x_2.fst.txs x_2.snd<(0:Int))=false->Rng .i64 ((x.val:Int)+(1:Int))/\∃(y:Cnt e.lk.held.length (noTx e)),(((0=0/\0=0)/\(x.val:Int)+(1:Int)=
  (y.val:Int)/\True)/\(1=1/\1=1/\EqG e e)/\True)/\Lt (e.lk.held.length-y.val) (e.lk.held.length-x.val)))/\(decide ((x.val:Int)<(e.lk.held.length:Int))=false->(∃(x:Cnt e.lk.waits.length (noTx2 e)),((0=0/\0
  =0)/\(0:Int)=(x.val:Int)/\True)/\(1=1/\1=1/\EqG e e)/\True)/\∀(x:Cnt e.lk.waits.length (noTx2 e)),(decide ((x.val:Int)<(e.lk.waits.length:Int))=true->InB (x.val:Int) e.lk.waits.length/\∃(x_2:(Eng×
  Int)),(((EqG e x_2.fst)/\(e.lk.waits.getD (x.val:Int).toNat default).tx=x_2.snd/\True)/\Len x_2.fst.txs.length)/\(decide (txAt x_2.fst.txs x_2.snd<(0:Int))=false->InB (x.val:Int) e.lk.waits.length)/\∃(x_3:(Eng×
  Int)),(decide (txAt x_2.fst.txs x_2.snd<(0:Int))=false->((EqG e x_3.fst)/\(e.lk.waits.getD (x.val:Int).toNat default).fo=x_3.snd/\True)/\Len x_3.fst.txs.length)/\((decide (txAt x_2.fst.txs x_2.snd<(0:Int))||
  decide (txAt x_3.fst.txs x_3.snd<(0:Int)))=true->false=engOK e)/\((decide (txAt x_2.fst.txs x_2.snd<(0:Int))||decide (txAt x_3.fst.txs x_3.snd<(0:Int)))=false->Rng .i64 ((x.val:Int)+(1:Int))/\∃(y:Cnt
  e.lk.waits.length (noTx2 e)),(((0=0/\0=0)/\(x.val:Int)+(1:Int)=(y.val:Int)/\True)/\(1=1/\1=1/\EqG e e)/\True)/\Lt (e.lk.waits.length-y.val) (e.lk.waits.length-x.val)))/\(decide ((x.val:Int)<
  (e.lk.waits.length:Int))=false->∃(x:Eng),(((EqG e x)/\True)/\NdOK x)/\Rng .i64 ((e.s.log.length:Int)+(↑(ndE x):Int))/\decide ((e.s.log.length:Int)+(↑(ndE x):Int)<=(60:Int))=engOK e)))))):
  PureFn Tryz.prog 35 [.agg e.ts] (.bool (engOK e)):=
 vcR (code:=b_EngineOKs) (gC StoreOKs_ok call_StoreOKs (gC LocksOKs_ok call_LocksOKs (gC l01In_ok call_l01In (gC l07Back_ok call_l07Back (gC l07Tx_ok call_l07Tx (gC l07Reserve_ok call_l07Reserve gN)))))) Tryz.func35 (by kernel_rfl) (by kernel_rfl) (A_EngineOKs e) h (by kernel_rfl)
theorem ok_S{L:List Rec}(hL:LogP L)(id:Int){at_:Int}(h1:1<=at_)(h2:at_<=L.length):
  ((recAt L at_).t !=id||(recAt L at_).k==4||(recAt L at_).k==5||(recAt L at_).k==6||(recAt L at_).k==3&& !backR L (recAt L at_))= !okR L id at_:=by
 obtain⟨hr,hl⟩:=hL.at h1 h2;obtain⟨p1,p2,p3,p4⟩:=hL.prev h1 h2;obtain⟨_,_,_,_,k1,k2,_⟩:=hr;unfold okR ownR;rw[inR_iff.2 ⟨h1,h2⟩,Bool.true_and];by_cases ht:(recAt L at_).t=id
 ·rw[show((recAt L at_).t !=id)=false by simpa using ht,show((recAt L at_).t==id)=true by simpa using ht,Bool.false_or,Bool.true_and]
  by_cases hk:(recAt L at_).k<=3
  ·rw[inR_iff.2 ⟨k1,hk⟩,show((recAt L at_).k==4)=false by rw[beq_eq_false_iff_ne];omega,show((recAt L at_).k==5)=false by rw[beq_eq_false_iff_ne];omega,show((recAt L at_).k==6)=false by rw[beq_eq_false_iff_ne];omega]
   simp only[Bool.false_or,Bool.true_and];by_cases h3:(recAt L at_).k=3
   ·rw[show((recAt L at_).k==3)=true by simpa using h3,show((recAt L at_).k !=3)=false by simpa using h3,Bool.true_and,Bool.false_or]
    congr 1
    unfold backR;by_cases hn:(recAt L at_).n>0
    ·obtain⟨hr2,_⟩:=hL.at (show 1<=(recAt L at_).n by omega) (by omega)
     have k3:1<=(recAt L (recAt L at_).n).k:=hr2.2.2.2.2.1;rw[decide_eq_true hn,inR_iff.2 (show 1<=(recAt L at_).n/\(recAt L at_).n<=(L.length:Int) by omega),Bool.true_and,Bool.true_and,ht]
     congr 1
     unfold inR;rw[decide_eq_true k3,Bool.true_and]
    ·rw[decide_eq_false hn,show inR (recAt L at_).n 1 L.length=false from Bool.eq_false_iff.2 fun h=>by have:=inR_iff.1 h;omega]
     rfl
   ·rw[show((recAt L at_).k==3)=false by simpa using h3,show((recAt L at_).k !=3)=true by simpa using h3]
    rfl
  ·rw[show inR (recAt L at_).k 1 3=false from Bool.eq_false_iff.2 fun h=>by have:=inR_iff.1 h;omega]
   simp only[Bool.false_and,Bool.not_false,Bool.or_eq_true,beq_iff_eq];exact .inl (by omega)
 ·rw[show((recAt L at_).t !=id)=true by simpa using ht,show((recAt L at_).t==id)=false by simpa using ht]
  rfl
theorem hdS_eq(e:Eng):(!stoOK e.s||decide ((e.txs.length:Int)>10)|| !lksOK e.lk|| !inR e.next 1 61)= !(stoOK e.s&&engHd e):=by
 unfold engHd;rw[show decide ((e.txs.length:Int)>10)= !decide (e.txs.length<=10) by rw[←decide_not];exact decide_eq_decide.2 (by omega)]
 cases stoOK e.s<;>cases decide (e.txs.length<=10)<;>cases lksOK e.lk<;>cases inR e.next 1 61<;>rfl
theorem EngineOKs_ok:ConOk Tryz.prog 35 k_EngineOKs:=by
 rintro(e:Eng) ⟨hS,hk,ht⟩;have ht:e.txs.length<1000000000000:=ht;have hk1:e.lk.held.length<1000000000000:=hk.1;have hk2:e.lk.waits.length<1000000000000:=hk.2;refine v_EngineOKs e ⟨e.s,⟨⟨(eqS _),trivial⟩,hS⟩,e.lk,fun _=>⟨⟨⟨⟨rfl,rowsR _ _⟩,⟨rfl,rowsR _ _⟩,trivial⟩,trivial⟩,hk⟩,fun hb=> ?_,fun hb=> ?_⟩
 ·rw[hdS_eq] at hb;unfold engOK;cases h1:stoOK e.s
  ·rfl
  ·rw[h1] at hb;rw[engR_hd (by simpa using hb)]
   rfl
 rw[hdS_eq] at hb;simp only[Bool.not_eq_false',Bool.and_eq_true] at hb;obtain⟨hs,hh⟩:=hb;have hL:=sto_log hs;have h60:=hL.1;obtain⟨q1,q2,q3,q4⟩:=hd_split hh;have eo:engOK e=engR e:=by unfold engOK;rw[hs,Bool.true_and]
 refine⟨fun hu=> ?_,fun hu=> ?_⟩
 ·rw[eo,engR_dn hh (by simpa using hu)]
  unfold noneE;rw[Bool.eq_iff_iff];simp only[Bool.and_eq_true,beq_iff_eq,decide_eq_true_eq];omega
 ·have hu':e.up=true:=by simpa using hu
  rw[eo,engR_up hh hu'];refine⟨⟨cnt0,⟨⟨rfl,rfl⟩,rfl,trivial⟩,⟨rfl,rfl,eqG _⟩,trivial⟩,fun x=>⟨fun hc=> ?_,fun hc=> ?_⟩⟩
  ·have hlt:=lt_of_dec hc;rw[Int.toNat_natCast,show((x.val:Int)-1).toNat=x.val-1 by omega]
   refine⟨inB_nat hlt,i64_rng (by omega),fun _ _=>i64_rng (by omega),fun _ h0=>⟨by have:=of_decide_eq_true h0;omega,by omega⟩,fun hq=> ?_,fun hq=> ?_⟩
   ·refine(upE_tx hlt ?_).symm
    unfold badTx txOK;rw[Bool.not_and,←Bool.or_assoc,hq];rfl
   ·simp only[Bool.or_eq_false_iff,Bool.not_eq_false'] at hq;obtain⟨⟨r1,r2⟩,r3⟩:=hq;obtain⟨l1,l2⟩:=inR_iff.1 r3;refine⟨⟨⟨(61,(e.txs.getD x.val default).last),?_,l2,by dsimp only;omega⟩,⟨⟨rfl,rfl⟩,rfl,⟨rfl,rfl⟩,rfl,trivial⟩,⟨rfl,rfl,eqG _⟩,⟨rfl,rfl,rfl,rfl,trivial⟩,trivial⟩,fun y=> ?_⟩
    ·dsimp only;unfold txOK;rw[decide_eq_false (by omega),r3]
     rfl
    obtain⟨⟨f,at_⟩,he,hle,hf⟩:=y;dsimp only at he hle hf ⊢;refine⟨fun hy=> ?_,fun hy=> ?_⟩
    ·have h0:at_>0:=of_decide_eq_true hy;have h1:1<=at_:=by omega
     obtain⟨p1,p2,p3,p4⟩:=hL.prev h1 hle;rw[decide_eq_false (by omega),Bool.false_or,chn_succ _ _ (by omega) h1] at he
     have es:=ok_S hL (e.txs.getD x.val default).id h1 hle;refine⟨i64_rng (by omega),⟨by omega,by omega⟩,(e.s,recAt e.s.log at_),fun _ _=>⟨⟨(eqS _),⟨rfl,rfl,rfl,rfl,rfl,rfl,rfl,rfl,rfl,rfl,trivial⟩,trivial⟩,by dsimp only;omega,by unfold Len;dsimp only;omega⟩,fun hq=> ?_,fun hq=> ?_⟩
     ·have hq:=es.symm.trans hq;refine(upE_tx hlt ?_).symm
      rw[show okR e.s.log (e.txs.getD x.val default).id at_=false by simpa using hq] at he
      unfold badTx;rw[←he];simp
     ·have hq:=es.symm.trans hq;rw[show okR e.s.log (e.txs.getD x.val default).id at_=true by simpa using hq,Bool.true_and] at he
      refine⟨i64_rng (by omega),⟨by omega,by omega⟩,⟨(f-1,(recAt e.s.log at_).p),?_,by dsimp only;omega,by dsimp only;omega⟩,⟨⟨⟨rfl,rfl⟩,rfl,⟨rfl,rfl⟩,rfl,trivial⟩,⟨rfl,rfl,eqG _⟩,⟨rfl,rfl,rfl,rfl,trivial⟩,trivial⟩,show f-1<f by omega⟩
      dsimp only;rw[←he];by_cases hp:(recAt e.s.log at_).p<=0
      ·rw[chn_zero _ _ _ hp,Bool.or_true]
      ·rw[decide_eq_false hp,Bool.false_or]
    ·have h0:at_<=0:=by have:=of_decide_eq_false hy;omega
     rw[decide_eq_true h0,Bool.true_or] at he;exact⟨add_rng hlt (by omega),x.succ hlt (by unfold badTx;rw[←he,r1,r2];rfl),⟨⟨⟨rfl,rfl⟩,by simp only[Cnt.succ];omega,trivial⟩,⟨rfl,rfl,eqG _⟩,trivial⟩,Cnt.ext_lt hlt⟩
  ·have hge:=le_of_not hc;have hno:∀i,i<e.txs.length->badTx e i=false:=fun i hi=>x.2.2 i (Nat.lt_of_lt_of_le hi hge)
   have hn:=nd_ok hL hh hno;refine⟨⟨cnt0,⟨⟨rfl,rfl⟩,rfl,trivial⟩,⟨rfl,rfl,eqG _⟩,trivial⟩,fun y=>⟨fun hy=> ?_,fun hy=>⟨⟨cnt0,⟨⟨rfl,rfl⟩,rfl,trivial⟩,⟨rfl,rfl,eqG _⟩,trivial⟩,fun z=>⟨fun hz=> ?_,fun hz=> ?_⟩⟩⟩⟩
   ·have hlt:=lt_of_dec hy;exact⟨inB_nat hlt,(e,(e.lk.held.getD y.val default).tx),⟨⟨(eqG _),rfl,trivial⟩,ht⟩,fun hq=>(upE_ht hlt hq).symm,fun hq=>⟨add_rng hlt (by omega),y.succ hlt hq,⟨⟨⟨rfl,rfl⟩,by simp only[Cnt.succ];omega,trivial⟩,⟨rfl,rfl,eqG _⟩,trivial⟩,Cnt.ext_lt hlt⟩⟩
   ·have hlt:=lt_of_dec hz;exact⟨inB_nat hlt,(e,(e.lk.waits.getD z.val default).tx),⟨⟨(eqG _),rfl,trivial⟩,ht⟩,fun _=>inB_nat hlt,(e,(e.lk.waits.getD z.val default).fo),fun _=>⟨⟨(eqG _),rfl,trivial⟩,ht⟩,fun hq=>(upE_wt hlt hq).symm,fun hq=>⟨add_rng hlt (by omega),z.succ hlt hq,⟨⟨⟨rfl,rfl⟩,by simp only[Cnt.succ];omega,trivial⟩,⟨rfl,rfl,eqG _⟩,trivial⟩,Cnt.ext_lt hlt⟩⟩
   ·have g1:=le_of_not hy;have g2:=le_of_not hz;have hb:=ndS_le e.s.log e.txs e.txs.length;have he:ndE e=ndS e.s.log e.txs e.txs.length:=rfl;refine⟨e,⟨⟨(eqG _),trivial⟩,hn⟩,i64_rng (by omega),?_⟩
    have e1:anyI e.txs.length (badTx e)=false:=anyI_no.2 hno;have e2:anyI e.lk.held.length (noTx e)=false:=anyI_no.2 fun i hi=>y.2.2 i (Nat.lt_of_lt_of_le hi g1)
    have e3:anyI e.lk.waits.length (noTx2 e)=false:=anyI_no.2 fun i hi=>z.2.2 i (Nat.lt_of_lt_of_le hi g2)
    unfold upE;rw[e1,e2,e3];simp only[Bool.not_false,Bool.true_and];exact decide_eq_decide.2 (by omega)
end Go.Proofs.YtokaojbaacnngaaGreat

