/- A part of the proof. -/
import Derived.Test.YtokaojbaacnngaaGreatW1W2
namespace Go.Proofs.YtokaojbaacnngaaGreat
set_option maxRecDepth 100000
open Go.SS

structure Txn where
 id:Int
 last:Int
 deriving Inhabited
def Txn.ts(t:Txn):List T:=[.int .i64 t.id,.int .i64 t.last]
def txnRow(L:List Txn)(i:Nat):List T:=(L.getD i default).ts
def txnS(L:List Txn):T:=.sl 2 L.length (txnRow L)
structure Eng where
 s:Sto
 up:Bool
 txs:List Txn
 lk:Lks
 next:Int
 deriving Inhabited
def Eng.ts(e:Eng):List T:=[strS e.s.d.sec,pendS e.s.d.cache,.bool e.s.d.armed,intS e.s.d.keep,.int .i64 e.s.ep,recS e.s.log,.int .i64 e.s.sure,frmS e.s.fr,.int .i64 e.s.hand,.bool e.up,txnS e.txs,lckS e.lk.held,wtS e.lk.waits,.int .i64 e.next]
abbrev EqG(a b:Eng):Prop:=(a.s.d.sec.length=b.s.d.sec.length/\RowsEq a.s.d.sec.length (strRow a.s.d.sec) (strRow b.s.d.sec))/\(a.s.d.cache.length=b.s.d.cache.length/\RowsEq a.s.d.cache.length (pendRow a.s.d.cache) (pendRow b.s.d.cache))/\a.s.d.armed=b.s.d.armed/\(a.s.d.keep.length=b.s.d.keep.length/\RowsEq a.s.d.keep.length (intRow a.s.d.keep) (intRow b.s.d.keep))/\a.s.ep=b.s.ep/\(a.s.log.length=b.s.log.length/\RowsEq a.s.log.length (recRow a.s.log) (recRow b.s.log))/\a.s.sure=b.s.sure/\(a.s.fr.length=b.s.fr.length/\RowsEq a.s.fr.length (frmRow a.s.fr) (frmRow b.s.fr))/\a.s.hand=b.s.hand/\a.up=b.up/\(a.txs.length=b.txs.length/\RowsEq a.txs.length (txnRow a.txs) (txnRow b.txs))/\(a.lk.held.length=b.lk.held.length/\RowsEq a.lk.held.length (lckRow a.lk.held) (lckRow b.lk.held))/\(a.lk.waits.length=b.lk.waits.length/\RowsEq a.lk.waits.length (wtRow a.lk.waits) (wtRow b.lk.waits))/\a.next=b.next/\True
theorem eqG(s:Eng):EqG s s:=⟨⟨rfl,rowsR _ _⟩,⟨rfl,rowsR _ _⟩,rfl,⟨rfl,rowsR _ _⟩,rfl,⟨rfl,rowsR _ _⟩,rfl,⟨rfl,rowsR _ _⟩,rfl,rfl,⟨rfl,rowsR _ _⟩,⟨rfl,rowsR _ _⟩,⟨rfl,rowsR _ _⟩,rfl,trivial⟩
def engBox(e:Eng):Option Ob:=some (.arr true 1000000 14 1 fun _=>e.ts)
def isId2(L:List Txn)(id:Int)(i:Nat):Bool:=(L.getD i default).id==id
def txAt(L:List Txn)(id:Int):Int:=fstI L.length (isId2 L id)
def k_txAt1:Con:=.rel ⟨Txn×Int,fun x=>[.agg x.1.ts,.bref [.int .i64 x.2]],fun x=>.bool (x.1.id==x.2),fun _=>True⟩
noncomputable def b_txAt1:Code:=Tryz.f192.body.getD .skip
theorem call_txAt1:Callable Tryz.prog 192:=⟨_,Tryz.func192,by kernel_rfl,by kernel_rfl⟩
theorem v_txAt1(t:Txn)(id:Int)(h:
  (t.id==id)=(t.id==id)):
  PureFn Tryz.prog 192 [.agg t.ts,.bref [.int .i64 id]] (.bool (t.id==id)):=
 vcR (code:=b_txAt1) gN Tryz.func192 (by kernel_rfl) (by kernel_rfl) noAnn h (by kernel_rfl)
theorem txAt1_ok:ConOk Tryz.prog 192 k_txAt1:=fun x _=>v_txAt1 x.1 x.2 rfl
def txF(id:Int):T:=.fn (.func 192) [.bref [.int .i64 id]]
def k_idxTxn:Con:=.rel ⟨List Txn×Int,fun x=>[txnS x.1,txF x.2],fun x=>.int .i64 (txAt x.1 x.2),fun x=>Len x.1.length⟩
def A_idxTxn(L:List Txn)(id:Int):Nat->Ann
 |0=>.one (Cnt L.length (isId2 L id)) (fun x=>⟨[(0,txnS L),(1,txF id),(7,.int .i64 L.length),(8,.int .i64 x.1)],[]⟩) (fun x=>L.length-x.1) [] [] (fun _=>noAnn)
 |_=>.none
noncomputable def b_idxTxn:Code:=Tryz.f191.body.getD .skip
theorem call_idxTxn:Callable Tryz.prog 191:=⟨_,Tryz.func191,by kernel_rfl,by kernel_rfl⟩
theorem v_idxTxn(L:List Txn)(id:Int)(h:
  (∃(x:Cnt L.length (isId2 L id)),((EqL txnRow L L)/\(Fn.func 192=Fn.func 192/\TLe (fun(x:Nat)=>none) (T.bref [T.int .i64 id]) (T.bref [T.int .i64 id])/\True)/\(L.length:Int)=(L.length:Int)/\(0:Int)=(x.val:Int)
  /\True)/\True)/\∀(x:Cnt L.length (isId2 L id)),(decide ((x.val:Int)<(L.length:Int))=true->InB (x.val:Int) L.length/\∃(x_1:(Txn×Int)),((((L.getD (x.val:Int).toNat default).id=x_1.fst.id/\(L.getD
  (x.val:Int).toNat default).last=x_1.fst.last/\True)/\(id=x_1.snd/\True)/\True)/\True)/\((x_1.fst.id==x_1.snd)=true->(x.val:Int)=txAt L id)/\((x_1.fst.id==x_1.snd)=false->Rng .i64 ((x.val:Int)+(1:Int))/\
  ∃(y:Cnt L.length (isId2 L id)),(((EqL txnRow L L)/\(Fn.func 192=Fn.func 192/\TLe (fun(x:Nat)=>none) (T.bref [T.int .i64 id]) (T.bref [T.int .i64 id])/\True)/\(L.length:Int)=(L.length:Int)/\(x.val:Int)+(1:Int)
  =(y.val:Int)/\True)/\True)/\Lt (L.length-y.val) (L.length-x.val)))/\(decide ((x.val:Int)<(L.length:Int))=false->(-1:Int)=txAt L id)):
  PureFn Tryz.prog 191 [txnS L,txF id] (.int .i64 (txAt L id)):=
 vcR (code:=b_idxTxn) (gC txAt1_ok call_txAt1 gN) Tryz.func191 (by kernel_rfl) (by kernel_rfl) (A_idxTxn L id) h (by kernel_rfl)
theorem idxTxn_ok:ConOk Tryz.prog 191 k_idxTxn:=by
 rintro⟨L,id⟩ (hL:L.length<1000000000000);refine v_idxTxn L id ⟨⟨cnt0,⟨⟨rfl,rowsR _ _⟩,⟨rfl,bref_le _,trivial⟩,rfl,rfl,trivial⟩,trivial⟩,fun x=>⟨fun hc=> ?_,fun hc=> ?_⟩⟩
 ·have hlt:=lt_of_dec hc;refine⟨inB_nat hlt,(L.getD x.val default,id),⟨⟨⟨rfl,rfl,trivial⟩,⟨rfl,trivial⟩,trivial⟩,trivial⟩,fun hp=>(fstI_at hlt hp x.2.2).symm,fun hp=>⟨add_rng hlt (by omega),x.succ hlt hp,⟨⟨⟨rfl,rowsR _ _⟩,⟨rfl,bref_le _,trivial⟩,rfl,by simp only[Cnt.succ];omega,trivial⟩,trivial⟩,Cnt.ext_lt hlt⟩⟩
 ·have hge:=le_of_not hc;exact(fstI_no fun j hj=>x.2.2 j (Nat.lt_of_lt_of_le hj hge)).symm
def k_txAt:Con:=.rel ⟨Eng×Int,fun x=>[.bref x.1.ts,.int .i64 x.2],fun x=>.int .i64 (txAt x.1.txs x.2),fun x=>Len x.1.txs.length⟩
noncomputable def b_txAt:Code:=Tryz.f121.body.getD .skip
theorem call_txAt:Callable Tryz.prog 121:=⟨_,Tryz.func121,by kernel_rfl,by kernel_rfl⟩
theorem v_txAt(e:Eng)(id:Int)(h:
  ∃(x:(List Txn×Int)),(((EqL txnRow e.txs x.fst)/\(Fn.func 192=Fn.func 192/\(id=x.snd/\True)/\True)/\True)/\Len x.fst.length)/\txAt x.fst x.snd=txAt e.txs id):
  PureFn Tryz.prog 121 [.bref e.ts,.int .i64 id] (.int .i64 (txAt e.txs id)):=
 vcR (code:=b_txAt) (gC idxTxn_ok call_idxTxn gN) Tryz.func121 (by kernel_rfl) (by kernel_rfl) noAnn h (by kernel_rfl)
theorem txAt_ok:ConOk Tryz.prog 121 k_txAt:=fun x hL=>v_txAt x.1 x.2 ⟨(x.1.txs,x.2),⟨⟨⟨rfl,rowsR _ _⟩,⟨rfl,⟨rfl,trivial⟩,trivial⟩,trivial⟩,hL⟩,rfl⟩
def k_l07Tx:Con:=.rel ⟨Eng×Int,fun x=>[.agg x.1.ts,.int .i64 x.2],fun x=>.int .i64 (txAt x.1.txs x.2),fun x=>Len x.1.txs.length⟩
def A_l07Tx(e:Eng)(id:Int):Nat->Ann
 |0=>.one (Cnt e.txs.length (isId2 e.txs id)) (fun x=>⟨[(1,.int .i64 id),(2,.ref 0 0 0),(5,.int .i64 x.1)],[engBox e]⟩) (fun x=>e.txs.length-x.1) [.box 0] [.box 0] (fun _=>noAnn)
 |_=>.none
noncomputable def b_l07Tx:Code:=Tryz.f76.body.getD .skip
theorem call_l07Tx:Callable Tryz.prog 76:=⟨_,Tryz.func76,by kernel_rfl,by kernel_rfl⟩
theorem v_l07Tx(e:Eng)(id:Int)(h:
  (∃(x:Cnt e.txs.length (isId2 e.txs id)),(id=id/\(0=0/\0=0)/\(0:Int)=(x.val:Int)/\True)/\(1=1/\1=1/\EqG e e)/\True)/\∀(x:Cnt e.txs.length (isId2 e.txs id)),(decide ((x.val:Int)<(e.txs.length:Int))=
  true->InB (x.val:Int) e.txs.length/\(((e.txs.getD (x.val:Int).toNat default).id==id)=true->(x.val:Int)=txAt e.txs id)/\(((e.txs.getD (x.val:Int).toNat default).id==id)=false->Rng .i64 ((x.val:Int)+(1:Int))/\∃
  (y:Cnt e.txs.length (isId2 e.txs id)),((id=id/\(0=0/\0=0)/\(x.val:Int)+(1:Int)=(y.val:Int)/\True)/\(1=1/\1=1/\EqG e e)/\True)/\Lt (e.txs.length-y.val) (e.txs.length-x.val)))/\(decide ((x.val:Int)<
  (e.txs.length:Int))=false->(-1:Int)=txAt e.txs id)):
  PureFn Tryz.prog 76 [.agg e.ts,.int .i64 id] (.int .i64 (txAt e.txs id)):=
 vcR (code:=b_l07Tx) gN Tryz.func76 (by kernel_rfl) (by kernel_rfl) (A_l07Tx e id) h (by kernel_rfl)
theorem l07Tx_ok:ConOk Tryz.prog 76 k_l07Tx:=by
 rintro⟨e,id⟩ (hL:e.txs.length<1000000000000);refine v_l07Tx e id ⟨⟨cnt0,⟨rfl,⟨rfl,rfl⟩,rfl,trivial⟩,⟨rfl,rfl,eqG _⟩,trivial⟩,fun x=>⟨fun hc=> ?_,fun hc=> ?_⟩⟩
 ·have hlt:=lt_of_dec hc;exact⟨inB_nat hlt,fun hp=>(fstI_at hlt hp x.2.2).symm,fun hp=>⟨add_rng hlt (by omega),x.succ hlt hp,⟨⟨rfl,⟨rfl,rfl⟩,by simp only[Cnt.succ];omega,trivial⟩,⟨rfl,rfl,eqG _⟩,trivial⟩,Cnt.ext_lt hlt⟩⟩
 ·have hge:=le_of_not hc;exact(fstI_no fun j hj=>x.2.2 j (Nat.lt_of_lt_of_le hj hge)).symm

def recAt(L:List Rec)(at_:Int):Rec:=L.getD (at_-1).toNat default
def ownR(L:List Rec)(at_ id:Int):Bool:=inR at_ 1 L.length&&((recAt L at_).t==id)&&inR (recAt L at_).k 1 3
def okR(L:List Rec)(id at_:Int):Bool:=ownR L at_ id&&((recAt L at_).k !=3||ownR L (recAt L at_).n id)
def chn(L:List Rec)(id:Int):Nat->Int->Bool
 |0,_=>true
 |f+1,at_=>decide (at_<=0)||(okR L id at_&&chn L id f (recAt L at_).p)
def txOK(L:List Rec)(t:Txn):Bool:=inR t.last 1 L.length&&chn L t.id 61 t.last
def LogP(L:List Rec):Prop:=L.length<=60/\∀i,i<L.length->RecP (L.getD i default)/\(L.getD i default).l=(i:Int)+1
def k_isOwn:Con:=.rel ⟨Sto×Int×Int,fun x=>[.bref x.1.ts,.int .i64 x.2.1,.int .i64 x.2.2],fun x=>.bool (ownR x.1.log x.2.1 x.2.2),fun x=>Len x.1.log.length⟩
noncomputable def b_isOwn:Code:=Tryz.f222.body.getD .skip
theorem call_isOwn:Callable Tryz.prog 222:=⟨_,Tryz.func222,by kernel_rfl,by kernel_rfl⟩
theorem v_isOwn(s:Sto)(at_ id:Int)(h:
  (inR at_ (1:Int) (s.log.length:Int)=true->Rng .i64 (at_- (1:Int)))/\(inR at_ (1:Int) (s.log.length:Int)=true->InB (at_- (1:Int)) s.log.length)/\((inR at_ (1:Int) (s.log.length:Int)&&(s.log.getD (at_- (1:
  Int)).toNat default).t==id)=true->Rng .i64 (at_- (1:Int)))/\((inR at_ (1:Int) (s.log.length:Int)&&(s.log.getD (at_- (1:Int)).toNat default).t==id)=true->InB (at_- (1:Int)) s.log.length)/\(inR at_ (1:Int)
  (s.log.length:Int)&&(s.log.getD (at_- (1:Int)).toNat default).t==id&&inR (s.log.getD (at_- (1:Int)).toNat default).k (1:Int) (3:Int))=ownR s.log at_ id):
  PureFn Tryz.prog 222 [.bref s.ts,.int .i64 at_,.int .i64 id] (.bool (ownR s.log at_ id)):=
 vcR (code:=b_isOwn) (gC inRange_ok call_inRange gN) Tryz.func222 (by kernel_rfl) (by kernel_rfl) noAnn h (by kernel_rfl)
theorem inR_iff{n lo hi:Int}:inR n lo hi=true↔lo<=n/\n<=hi:=by
 unfold inR;simp only[Bool.and_eq_true,decide_eq_true_eq]
theorem isOwn_ok:ConOk Tryz.prog 222 k_isOwn:=by
 rintro⟨s,at_,id⟩ (hL:s.log.length<1000000000000);have k1:inR at_ 1 s.log.length=true->Rng .i64 (at_-1)/\InB (at_-1) s.log.length:=fun h=>by
  obtain⟨h1,h2⟩:=inR_iff.1 h;exact⟨i64_rng (by omega),by omega,by omega⟩
 exact v_isOwn s at_ id ⟨fun h=>(k1 h).1,fun h=>(k1 h).2,fun h=>(k1 (Bool.and_eq_true_iff.1 h).1).1,fun h=>(k1 (Bool.and_eq_true_iff.1 h).1).2,rfl⟩
theorem LogP.at{L:List Rec}(h:LogP L){at_:Int}(h1:1<=at_)(h2:at_<=L.length):RecP (recAt L at_)/\(recAt L at_).l=at_:=by
 obtain⟨a,b⟩:=h.2 (at_-1).toNat (by omega)
 exact⟨a,by unfold recAt;rw[b];omega⟩
theorem LogP.prev{L:List Rec}(h:LogP L){at_:Int}(h1:1<=at_)(h2:at_<=L.length):0<=(recAt L at_).p/\(recAt L at_).p<=at_-1/\0<=(recAt L at_).n/\(recAt L at_).n<=at_-1:=by
 obtain⟨a,b⟩:=h.at h1 h2;obtain⟨_,_,_,_,_,_,q1,q2,q3,q4,_⟩:=a;omega
theorem own_in{L:List Rec}{at_ id:Int}(h:ownR L at_ id=true):1<=at_/\at_<=L.length:=by
 unfold ownR at h;simp only[Bool.and_eq_true] at h;exact inR_iff.1 h.1.1
theorem chn_succ(L:List Rec)(id:Int){f:Nat}(hf:0<f){at_:Int}(h:1<=at_):chn L id f at_=(okR L id at_&&chn L id (f-1) (recAt L at_).p):=by
 obtain⟨g,rfl⟩:∃g,f=g+1:=⟨f-1,by omega⟩
 show(decide (at_<=0)||_)=_;rw[decide_eq_false (by omega),Bool.false_or]
 rfl
theorem chn_zero(L:List Rec)(id:Int)(f:Nat){at_:Int}(h:at_<=0):chn L id f at_=true:=by
 cases f with
 |zero=>rfl
 |succ f=>show(decide (at_<=0)||_)=_;rw[decide_eq_true h];rfl
def txnBox(t:Txn):Option Ob:=some (.arr true 1000000 2 1 fun _=>t.ts)
def Chn(L:List Rec)(t:Txn):Type:={x:Nat×Int//0<x.1/\(inR x.2 1 L.length&&chn L t.id x.1 x.2)=txOK L t/\(x.2.toNat<x.1∨x.1=61)}
def k_chainOK:Con:=.rel ⟨Sto×Txn,fun x=>[.bref x.1.ts,.agg x.2.ts],fun x=>.bool (txOK x.1.log x.2),fun x=>LogP x.1.log⟩
def A_chainOK(s:Sto)(t:Txn):Nat->Ann
 |0=>.one (Chn s.log t) (fun x=>⟨[(0,.bref s.ts),(3,.ref 0 0 0),(5,.int .i64 x.1.2)],[txnBox t]⟩) (fun x=>x.1.1) [.box 0] [.box 0] (fun _=>noAnn)
 |_=>.none
noncomputable def b_chainOK:Code:=Tryz.f157.body.getD .skip
theorem call_chainOK:Callable Tryz.prog 157:=⟨_,Tryz.func157,by kernel_rfl,by kernel_rfl⟩
theorem v_chainOK(s:Sto)(t:Txn)(h:
  (∃(x:Chn s.log t),(TLe (rho [some 0]) (T.bref s.ts) (T.bref s.ts)/\(0=0/\0=0)/\t.last=x.val.snd/\True)/\(1=1/\1=1/\t.id=t.id/\t.last=t.last/\True)/\True)/\∀(x:Chn s.log t),∃(x_1:(Sto×Int×
  Int)),(((EqS s x_1.fst)/\x.val.snd=x_1.snd.fst/\t.id=x_1.snd.snd/\True)/\Len x_1.fst.log.length)/\((!ownR x_1.fst.log x_1.snd.fst x_1.snd.snd)=true->false=txOK s.log t)/\((!ownR x_1.fst.log x_1.snd.fst x_1.snd.snd)
  =false->Rng .i64 (x.val.snd- (1:Int))/\InB (x.val.snd- (1:Int)) s.log.length/\∃(x_2:(Sto×Int×Int)),(((s.log.getD (x.val.snd- (1:Int)).toNat default).k==(3:Int))=true->((EqS s x_2.fst)/\(s.log.getD
  (x.val.snd- (1:Int)).toNat default).n=x_2.snd.fst/\t.id=x_2.snd.snd/\True)/\Len x_2.fst.log.length)/\(((s.log.getD (x.val.snd- (1:Int)).toNat default).k==(3:Int)&& !ownR x_2.fst.log x_2.snd.fst x_2.snd.snd)=
  true->false=txOK s.log t)/\(((s.log.getD (x.val.snd- (1:Int)).toNat default).k==(3:Int)&& !ownR x_2.fst.log x_2.snd.fst x_2.snd.snd)=false->(((s.log.getD (x.val.snd- (1:Int)).toNat default).p==(0:Int))=true
  ->true=txOK s.log t)/\(((s.log.getD (x.val.snd- (1:Int)).toNat default).p==(0:Int))=false->∃(y:Chn s.log t),((TLe (rho [some 0]) (T.bref s.ts) (T.bref s.ts)/\(0=0/\0=0)/\(s.log.getD (x.val.snd- (1:
  Int)).toNat default).p=y.val.snd/\True)/\(1=1/\1=1/\t.id=t.id/\t.last=t.last/\True)/\True)/\Lt y.val.fst x.val.fst)))):
  PureFn Tryz.prog 157 [.bref s.ts,.agg t.ts] (.bool (txOK s.log t)):=
 vcR (code:=b_chainOK) (gC isOwn_ok call_isOwn gN) Tryz.func157 (by kernel_rfl) (by kernel_rfl) (A_chainOK s t) h (by kernel_rfl)
theorem chainOK_ok:ConOk Tryz.prog 157 k_chainOK:=by
 rintro⟨s,t⟩ (hL:LogP s.log);have h60:=hL.1;refine v_chainOK s t ⟨⟨⟨(61,t.last),Nat.succ_pos 60,rfl,.inr rfl⟩,⟨bref_le _,⟨rfl,rfl⟩,rfl,trivial⟩,⟨rfl,rfl,rfl,rfl,trivial⟩,trivial⟩,fun x=> ?_⟩
 obtain⟨⟨f,at_⟩,hf,he,hb⟩:=x;dsimp only at hf he hb ⊢;refine⟨(s,at_,t.id),⟨⟨(eqS _),rfl,rfl,trivial⟩,by unfold Len;simp only;omega⟩,fun ho=> ?_,fun ho=> ?_⟩
 ·simp only[Bool.not_eq_true'] at ho;rw[←he];cases hi:inR at_ 1 s.log.length
  ·rfl
  ·obtain⟨q1,q2⟩:=inR_iff.1 hi;rw[chn_succ _ _ hf q1];unfold okR;rw[ho];rfl
 ·simp only[Bool.not_eq_false'] at ho;obtain⟨q1,q2⟩:=own_in ho;have hi:inR at_ 1 s.log.length=true:=inR_iff.2 ⟨q1,q2⟩;rw[hi,Bool.true_and,chn_succ _ _ hf q1] at he;obtain⟨p1,p2,_⟩:=hL.prev q1 q2;have eo:okR s.log t.id at_=((recAt s.log at_).k !=3||ownR s.log (recAt s.log at_).n t.id):=by unfold okR;rw[ho,Bool.true_and]
  refine⟨i64_rng (by omega),⟨by omega,by omega⟩,(s,(recAt s.log at_).n,t.id),fun _=>⟨⟨(eqS _),rfl,rfl,trivial⟩,by unfold Len;simp only;omega⟩,fun hk=> ?_,fun hk=>⟨fun h0=> ?_,fun h0=> ?_⟩⟩
  ·have hk:((recAt s.log at_).k==3&& !ownR s.log (recAt s.log at_).n t.id)=true:=hk;rw[←he,eo];simp only[Bool.and_eq_true,Bool.not_eq_true',beq_iff_eq] at hk;rw[hk.1,hk.2];rfl
  ·have hk:((recAt s.log at_).k==3&& !ownR s.log (recAt s.log at_).n t.id)=false:=hk;have h0:(recAt s.log at_).p=0:=beq_iff_eq.1 h0;have e2:okR s.log t.id at_=true:=by
    rw[eo,←Bool.not_eq_false',Bool.not_or,show(!((recAt s.log at_).k !=3))=((recAt s.log at_).k==3) by simp[bne]]
    exact hk
   rw[←he,e2,h0,chn_zero _ _ _ (Int.le_refl 0)];rfl
  ·have hk:((recAt s.log at_).k==3&& !ownR s.log (recAt s.log at_).n t.id)=false:=hk;have h0:(recAt s.log at_).p≠0:=fun h=>by
    have h0:((recAt s.log at_).p==0)=false:=h0;rw[h] at h0;cases h0
   have e2:okR s.log t.id at_=true:=by
    rw[eo,←Bool.not_eq_false',Bool.not_or,show(!((recAt s.log at_).k !=3))=((recAt s.log at_).k==3) by simp[bne]]
    exact hk
   rw[e2,Bool.true_and] at he;refine⟨⟨(f-1,(recAt s.log at_).p),by simp only;omega,?_,by simp only;omega⟩,⟨⟨bref_le _,⟨rfl,rfl⟩,rfl,trivial⟩,⟨rfl,rfl,rfl,rfl,trivial⟩,trivial⟩,show f-1<f by omega⟩
   simp only;rw[inR_iff.2 (show 1<=(recAt s.log at_).p/\(recAt s.log at_).p<=(s.log.length:Int) by omega),Bool.true_and]
   exact he
def und(L:List Rec):Nat->Int->Nat
 |0,_=>0
 |f+1,at_=>if at_<=0 then 0 else if(recAt L at_).k=3 then und L f (recAt L at_).n else(if(recAt L at_).k=2 then 1 else 0)+und L f (recAt L at_).p
def cntBox(m:Nat):Option Ob:=some (.arr true 1000000 1 1 fun _=>[.int .i64 m])
def k_needs1:Con:=.reff ⟨Rec×Nat,fun x=>[.agg x.1.ts,.ref 0 0 0],fun x=>[cntBox x.2],fun _=>.bool true,fun x=>[cntBox (x.2+1)],fun x=>x.2<1000⟩
noncomputable def b_needs1:Code:=Tryz.f266.body.getD .skip
theorem call_needs1:Callable Tryz.prog 266:=⟨_,Tryz.func266,by kernel_rfl,by kernel_rfl⟩
theorem v_needs1(r:Rec)(m:Nat)(h:
  Rng .i64 ((m:Int)+(1:Int))/\true=true/\(1=1/\1=1/\(m:Int)+(1:Int)=(↑(m+1):Int)/\True)/\True):
  EffFn Tryz.prog 266 [.agg r.ts,.ref 0 0 0] [cntBox m] (.bool true) [cntBox (m+1)]:=
 vcE (code:=b_needs1) gN Tryz.func266 (by kernel_rfl) (by kernel_rfl) noAnn (bs:=[true]) h (by kernel_rfl)
theorem needs1_ok:ConOk Tryz.prog 266 k_needs1:=by
 rintro⟨r,m⟩ (h:m<1000);exact v_needs1 r m ⟨i64_rng (by omega),rfl,⟨rfl,rfl,by omega,trivial⟩,trivial⟩
def LastOK(L:List Rec)(at_:Int):Prop:=LogP L/\at_<=(L.length:Int)
def k_updates:Con:=.reff ⟨Sto×Int,fun x=>[.bref x.1.ts,.int .i64 x.2,.fn (.func 266) [.ref 0 0 0]],fun _=>[cntBox 1],fun _=>.tup [],fun x=>[cntBox (1+und x.1.log 61 x.2)],fun x=>LastOK x.1.log x.2⟩
def Und(L:List Rec)(from_:Int):Type:={x:Nat×Int×Nat//x.2.2+und L x.1 x.2.1=1+und L 61 from_/\x.2.1<=(L.length:Int)/\x.2.1.toNat<x.1/\x.2.2+x.1<=100}
def A_updates(s:Sto)(from_:Int):Nat->Ann
 |0=>.one (Und s.log from_) (fun x=>⟨[(0,.bref s.ts),(1,.int .i64 x.1.2.1),(2,.fn (.func 266) [.ref 0 0 0])],[cntBox x.1.2.2]⟩) (fun x=>x.1.1) [.box 0] [.box 0] (fun _=>noAnn)
 |_=>.none
noncomputable def b_updates:Code:=Tryz.f193.body.getD .skip
theorem call_updates:Callable Tryz.prog 193:=⟨_,Tryz.func193,by kernel_rfl,by kernel_rfl⟩
theorem v_updates(s:Sto)(from_:Int)(h:
  (∃(x:Und s.log from_),(TLe (rho [some 0]) (T.bref s.ts) (T.bref s.ts)/\from_=x.val.snd.fst/\(Fn.func 266=Fn.func 266/\(0=0/\0=0)/\True)/\True)/\(1=1/\1=1/\(1:Int)=(x.val.snd.snd:Int)/\True)/\True)/\
  ∀(x:Und s.log from_),(decide (x.val.snd.fst>(0:Int))=true->Rng .i64 (x.val.snd.fst- (1:Int))/\InB (x.val.snd.fst- (1:Int)) s.log.length/\(((s.log.getD (x.val.snd.fst- (1:Int)).toNat default).k==(3:Int))=
  true->∃(y:Und s.log from_),((TLe (rho [some 0]) (T.bref s.ts) (T.bref s.ts)/\(s.log.getD (x.val.snd.fst- (1:Int)).toNat default).n=y.val.snd.fst/\(Fn.func 266=Fn.func 266/\(0=0/\0=0)/\True)/\True)/\(1=1/\
  1=1/\(x.val.snd.snd:Int)=(y.val.snd.snd:Int)/\True)/\True)/\Lt y.val.fst x.val.fst)/\(((s.log.getD (x.val.snd.fst- (1:Int)).toNat default).k==(3:Int))=false->∃(x_1:(Rec×Nat)),(((s.log.getD (x.val.snd.fst-
  (1:Int)).toNat default).k==(2:Int))=true->(((s.log.getD (x.val.snd.fst- (1:Int)).toNat default).e=x_1.fst.e/\(s.log.getD (x.val.snd.fst- (1:Int)).toNat default).l=x_1.fst.l/\(s.log.getD (x.val.snd.fst- (1:
  Int)).toNat default).t=x_1.fst.t/\(s.log.getD (x.val.snd.fst- (1:Int)).toNat default).k=x_1.fst.k/\(s.log.getD (x.val.snd.fst- (1:Int)).toNat default).p=x_1.fst.p/\(s.log.getD (x.val.snd.fst- (1:Int)).toNat
  default).n=x_1.fst.n/\(s.log.getD (x.val.snd.fst- (1:Int)).toNat default).g=x_1.fst.g/\(s.log.getD (x.val.snd.fst- (1:Int)).toNat default).s=x_1.fst.s/\(s.log.getD (x.val.snd.fst- (1:Int)).toNat default).b=
  x_1.fst.b/\(s.log.getD (x.val.snd.fst- (1:Int)).toNat default).a=x_1.fst.a/\True)/\(0=0/\0=0)/\True)/\((1=1/\RowsEq 1 (fun(x_2:Nat)=>[T.int .i64 (x.val.snd.snd:Int)]) fun(x:Nat)=>[T.int .i64
  (x_1.snd:Int)])/\True)/\x_1.snd<1000)/\(((s.log.getD (x.val.snd.fst- (1:Int)).toNat default).k==(2:Int))=true->(((s.log.getD (x.val.snd.fst- (1:Int)).toNat default).k==(2:Int)&&false)=true->True/\(1=1
  /\1=1/\(↑(x_1.snd+1):Int)=(↑(1+und s.log 61 from_):Int)/\True)/\True)/\(((s.log.getD (x.val.snd.fst- (1:Int)).toNat default).k==(2:Int)&&false)=false->∃(y:Und s.log from_),((TLe (rho [some 0])
  (T.bref s.ts) (T.bref s.ts)/\(s.log.getD (x.val.snd.fst- (1:Int)).toNat default).p=y.val.snd.fst/\(Fn.func 266=Fn.func 266/\(0=0/\0=0)/\True)/\True)/\(1=1/\1=1/\(↑(x_1.snd+1):Int)=(y.val.snd.snd:Int)
  /\True)/\True)/\Lt y.val.fst x.val.fst))/\((((s.log.getD (x.val.snd.fst- (1:Int)).toNat default).k==(2:Int))=true->False)->(((s.log.getD (x.val.snd.fst- (1:Int)).toNat default).k==(2:Int)&&false)=true->
  True/\(1=1/\1=1/\(x.val.snd.snd:Int)=(↑(1+und s.log 61 from_):Int)/\True)/\True)/\(((s.log.getD (x.val.snd.fst- (1:Int)).toNat default).k==(2:Int)&&false)=false->∃(y:Und s.log from_),((TLe (rho
  [some 0]) (T.bref s.ts) (T.bref s.ts)/\(s.log.getD (x.val.snd.fst- (1:Int)).toNat default).p=y.val.snd.fst/\(Fn.func 266=Fn.func 266/\(0=0/\0=0)/\True)/\True)/\(1=1/\1=1/\(x.val.snd.snd:Int)=
  (y.val.snd.snd:Int)/\True)/\True)/\Lt y.val.fst x.val.fst))))/\(decide (x.val.snd.fst>(0:Int))=false->True/\(1=1/\1=1/\(x.val.snd.snd:Int)=(↑(1+und s.log 61 from_):Int)/\True)/\True)):
  EffFn Tryz.prog 193 [.bref s.ts,.int .i64 from_,.fn (.func 266) [.ref 0 0 0]] [cntBox 1] (.tup []) [cntBox (1+und s.log 61 from_)]:=
 vcE (code:=b_updates) (gC needs1_ok call_needs1 gN) Tryz.func193 (by kernel_rfl) (by kernel_rfl) (A_updates s from_) (bs:=[true]) h (by kernel_rfl)
theorem und_le(L:List Rec):∀(f:Nat) (at_:Int),und L f at_<=f:=by
 intro f;induction f with
 |zero=>intro at_;exact Nat.le_refl 0
 |succ f ih=>
  intro at_;unfold und;split
  ·omega
  ·split
   ·have:=ih (recAt L at_).n;omega
   ·have:=ih (recAt L at_).p;split<;>omega
theorem und_clr{L:List Rec}{f:Nat}{at_:Int}(h:0<at_)(hf:at_.toNat<f)(hk:(recAt L at_).k=3):und L f at_=und L (f-1) (recAt L at_).n:=by
 obtain⟨g,rfl⟩:∃g,f=g+1:=⟨f-1,by omega⟩
 conv=>lhs;unfold und
 rw[if_neg (by omega),if_pos hk]
 rfl
theorem und_not{L:List Rec}{f:Nat}{at_:Int}(h:0<at_)(hf:at_.toNat<f)(hk:(recAt L at_).k≠3):und L f at_=(if(recAt L at_).k=2 then 1 else 0)+und L (f-1) (recAt L at_).p:=by
 obtain⟨g,rfl⟩:∃g,f=g+1:=⟨f-1,by omega⟩
 conv=>lhs;unfold und
 rw[if_neg (by omega),if_neg hk]
 rfl
theorem und_zero{L:List Rec}{f:Nat}{at_:Int}(h:at_<=0):und L f at_=0:=by
 cases f with
 |zero=>rfl
 |succ f=>unfold und;rw[if_pos h]
theorem updates_ok:ConOk Tryz.prog 193 k_updates:=by
 rintro⟨s,from_⟩ ⟨hL,hl⟩;dsimp only at hL hl;have h60:=hL.1;refine v_updates s from_ ⟨⟨⟨(61,from_,1),rfl,hl,by dsimp only;omega,by dsimp only;omega⟩,⟨bref_le _,rfl,⟨rfl,⟨rfl,rfl⟩,trivial⟩,trivial⟩,⟨rfl,rfl,rfl,trivial⟩,trivial⟩,fun x=> ?_⟩
 obtain⟨⟨f,at_,m⟩,he,hle,hf,hm⟩:=x;dsimp only at he hle hf hm ⊢;refine⟨fun hc=> ?_,fun hc=> ?_⟩
 ·have h0:at_>0:=of_decide_eq_true hc;obtain⟨p1,p2,p3,p4⟩:=hL.prev (show 1<=at_ by omega) hle
  refine⟨i64_rng (by omega),⟨by omega,by omega⟩,fun hk=> ?_,fun hk=> ?_⟩
  ·have hk:(recAt s.log at_).k=3:=beq_iff_eq.1 hk;rw[und_clr h0 hf hk] at he;exact⟨⟨(f-1,(recAt s.log at_).n,m),he,by dsimp only;omega,by dsimp only;omega,by dsimp only;omega⟩,⟨⟨bref_le _,rfl,⟨rfl,⟨rfl,rfl⟩,trivial⟩,trivial⟩,⟨rfl,rfl,rfl,trivial⟩,trivial⟩,show f-1<f by omega⟩
  ·have hk:(recAt s.log at_).k≠3:=fun h=>by
    have hk:((recAt s.log at_).k==3)=false:=hk;rw[h] at hk;cases hk
   rw[und_not h0 hf hk] at he;refine⟨(recAt s.log at_,m),fun _=>⟨⟨⟨rfl,rfl,rfl,rfl,rfl,rfl,rfl,rfl,rfl,rfl,trivial⟩,⟨rfl,rfl⟩,trivial⟩,⟨⟨rfl,rowsR _ _⟩,trivial⟩,by dsimp only;omega⟩,fun h2=>⟨fun hh=> ?_,fun _=> ?_⟩,fun h2=>⟨fun hh=> ?_,fun _=> ?_⟩⟩
   ·rw[Bool.and_false] at hh;cases hh
   ·have h2:(recAt s.log at_).k=2:=beq_iff_eq.1 h2;rw[if_pos h2] at he;exact⟨⟨(f-1,(recAt s.log at_).p,m+1),by dsimp only;omega,by dsimp only;omega,by dsimp only;omega,by dsimp only;omega⟩,⟨⟨bref_le _,rfl,⟨rfl,⟨rfl,rfl⟩,trivial⟩,trivial⟩,⟨rfl,rfl,rfl,trivial⟩,trivial⟩,show f-1<f by omega⟩
   ·rw[Bool.and_false] at hh;cases hh
   ·have h2:¬ (recAt s.log at_).k=2:=fun h=>h2 (beq_iff_eq.2 h)
    rw[if_neg h2] at he;exact⟨⟨(f-1,(recAt s.log at_).p,m),by dsimp only;omega,by dsimp only;omega,by dsimp only;omega,by dsimp only;omega⟩,⟨⟨bref_le _,rfl,⟨rfl,⟨rfl,rfl⟩,trivial⟩,trivial⟩,⟨rfl,rfl,rfl,trivial⟩,trivial⟩,show f-1<f by omega⟩
 ·have h0:at_<=0:=by have:=of_decide_eq_false hc;omega
  rw[und_zero h0] at he;exact⟨trivial,⟨rfl,rfl,by omega,trivial⟩,trivial⟩
def k_needsS:Con:=.rel ⟨Sto×Int,fun x=>[.bref x.1.ts,.int .i64 x.2],fun x=>.int .i64 ((1+und x.1.log 61 x.2:Nat):Int),fun x=>LastOK x.1.log x.2⟩
noncomputable def b_needsS:Code:=Tryz.f229.body.getD .skip
theorem call_needsS:Callable Tryz.prog 229:=⟨_,Tryz.func229,by kernel_rfl,by kernel_rfl⟩
theorem v_needsS(s:Sto)(from_:Int)(h:
  ∃(x:(Sto×Int)),(((EqS s x.fst)/\from_=x.snd/\(Fn.func 266=Fn.func 266/\(0=0/\0=0)/\True)/\True)/\((1=1/\RowsEq 1 (setRow (fun(x:Nat)=>[T.int .i64 (0:Int)]) 0 0 [T.int .i64 (1:Int)]) fun(x:Nat)
  =>[T.int .i64 (1:Int)])/\True)/\LastOK x.fst.log x.snd)/\(↑(1+und x.fst.log 61 x.snd):Int)=(↑(1+und s.log 61 from_):Int)):
  PureFn Tryz.prog 229 [.bref s.ts,.int .i64 from_] (.int .i64 ((1+und s.log 61 from_:Nat):Int)):=
 vcR (code:=b_needsS) (gC updates_ok call_updates gN) Tryz.func229 (by kernel_rfl) (by kernel_rfl) noAnn h (by kernel_rfl)
theorem needsS_ok:ConOk Tryz.prog 229 k_needsS:=by
 rintro⟨s,from_⟩ h;exact v_needsS s from_ ⟨(s,from_),⟨⟨(eqS _),rfl,⟨rfl,⟨rfl,rfl⟩,trivial⟩,trivial⟩,⟨⟨rfl,fun i hi=>by(obtain rfl:i=0:=by omega);rfl⟩,trivial⟩,h⟩,rfl⟩
def k_l01Bit:Con:=.rel ⟨Bool,fun b=>[.bool b],fun b=>.int .i64 (if b then 1 else 0),fun _=>True⟩
noncomputable def b_l01Bit:Code:=Tryz.f203.body.getD .skip
theorem call_l01Bit:Callable Tryz.prog 203:=⟨_,Tryz.func203,by kernel_rfl,by kernel_rfl⟩
theorem v_l01Bit(b:Bool)(h:
  (b=true->(1:Int)=if b=true then(1:Int) else(0:Int))/\(b=false->(0:Int)=if b=true then(1:Int) else(0:Int))):
  PureFn Tryz.prog 203 [.bool b] (.int .i64 (if b then 1 else 0)):=
 vcR (code:=b_l01Bit) gN Tryz.func203 (by kernel_rfl) (by kernel_rfl) noAnn h (by kernel_rfl)
theorem l01Bit_ok:ConOk Tryz.prog 203 k_l01Bit:=fun b _=>v_l01Bit b ⟨fun h=>by rw[if_pos h],fun h=>by rw[h];rfl⟩
def k_l07Undo:Con:=.rel ⟨Sto×Int,fun x=>[.agg x.1.ts,.int .i64 x.2],fun x=>.int .i64 ((1+und x.1.log 61 x.2:Nat):Int),fun x=>LastOK x.1.log x.2⟩
def A_l07Undo(s:Sto)(from_:Int):Nat->Ann
 |0=>.one (Und s.log from_) (fun x=>⟨[(1,.int .i64 x.1.2.1),(2,.ref 0 0 0),(5,.int .i64 x.1.2.2)],[stoBox s]⟩) (fun x=>x.1.1) [.box 0] [.box 0] (fun _=>noAnn)
 |_=>.none
noncomputable def b_l07Undo:Code:=Tryz.f143.body.getD .skip
theorem call_l07Undo:Callable Tryz.prog 143:=⟨_,Tryz.func143,by kernel_rfl,by kernel_rfl⟩
theorem v_l07Undo(s:Sto)(from_:Int)(h:
  (∃(x:Und s.log from_),(from_=x.val.snd.fst/\(0=0/\0=0)/\(1:Int)=(x.val.snd.snd:Int)/\True)/\(1=1/\1=1/\EqS s s)/\True)/\∀(x:Und s.log from_),(decide (x.val.snd.fst>(0:Int))=true->Rng .i64
  (x.val.snd.fst- (1:Int))/\InB (x.val.snd.fst- (1:Int)) s.log.length/\(((s.log.getD (x.val.snd.fst- (1:Int)).toNat default).k==(3:Int))=true->∃(y:Und s.log from_),(((s.log.getD (x.val.snd.fst- (1:
  Int)).toNat default).n=y.val.snd.fst/\(0=0/\0=0)/\(x.val.snd.snd:Int)=(y.val.snd.snd:Int)/\True)/\(1=1/\1=1/\EqS s s)/\True)/\Lt y.val.fst x.val.fst)/\(((s.log.getD (x.val.snd.fst- (1:Int)).toNat
  default).k==(3:Int))=false->∃(x_1:Bool),((((s.log.getD (x.val.snd.fst- (1:Int)).toNat default).k==(2:Int))=x_1/\True)/\True)/\Rng .i64 ((x.val.snd.snd:Int)+if x_1=true then(1:Int) else(0:Int))/\∃
  (y:Und s.log from_),(((s.log.getD (x.val.snd.fst- (1:Int)).toNat default).p=y.val.snd.fst/\(0=0/\0=0)/\((x.val.snd.snd:Int)+if x_1=true then(1:Int) else(0:Int))=(y.val.snd.snd:Int)/\True)/\(1=1/\1=
  1/\EqS s s)/\True)/\Lt y.val.fst x.val.fst))/\(decide (x.val.snd.fst>(0:Int))=false->(x.val.snd.snd:Int)=(↑(1+und s.log 61 from_):Int))):
  PureFn Tryz.prog 143 [.agg s.ts,.int .i64 from_] (.int .i64 ((1+und s.log 61 from_:Nat):Int)):=
 vcR (code:=b_l07Undo) (gC l01Bit_ok call_l01Bit gN) Tryz.func143 (by kernel_rfl) (by kernel_rfl) (A_l07Undo s from_) h (by kernel_rfl)
theorem l07Undo_ok:ConOk Tryz.prog 143 k_l07Undo:=by
 rintro⟨s,from_⟩ ⟨hL,hl⟩;dsimp only at hL hl;have h60:=hL.1;refine v_l07Undo s from_ ⟨⟨⟨(61,from_,1),rfl,hl,by dsimp only;omega,by dsimp only;omega⟩,⟨rfl,⟨rfl,rfl⟩,rfl,trivial⟩,⟨rfl,rfl,eqS _⟩,trivial⟩,fun x=> ?_⟩
 obtain⟨⟨f,at_,m⟩,he,hle,hf,hm⟩:=x;dsimp only at he hle hf hm ⊢;refine⟨fun hc=> ?_,fun hc=> ?_⟩
 ·have h0:at_>0:=of_decide_eq_true hc;obtain⟨p1,p2,p3,p4⟩:=hL.prev (show 1<=at_ by omega) hle
  refine⟨i64_rng (by omega),⟨by omega,by omega⟩,fun hk=> ?_,fun hk=> ?_⟩
  ·have hk:(recAt s.log at_).k=3:=beq_iff_eq.1 hk;rw[und_clr h0 hf hk] at he;exact⟨⟨(f-1,(recAt s.log at_).n,m),he,by dsimp only;omega,by dsimp only;omega,by dsimp only;omega⟩,⟨⟨rfl,⟨rfl,rfl⟩,rfl,trivial⟩,⟨rfl,rfl,eqS _⟩,trivial⟩,show f-1<f by omega⟩
  ·have hk:(recAt s.log at_).k≠3:=fun h=>by
    have hk:((recAt s.log at_).k==3)=false:=hk;rw[h] at hk;cases hk
   rw[und_not h0 hf hk] at he;have hn:und s.log (f-1) (recAt s.log at_).p<=f-1:=und_le _ _ _;refine⟨(recAt s.log at_).k==2,⟨⟨rfl,trivial⟩,trivial⟩,?_,?_⟩
   ·split<;>exact i64_rng (by omega)
   ·by_cases h2:(recAt s.log at_).k=2
    ·rw[if_pos h2] at he;rw[if_pos (by simpa using h2)]
     exact⟨⟨(f-1,(recAt s.log at_).p,m+1),by dsimp only;omega,by dsimp only;omega,by dsimp only;omega,by dsimp only;omega⟩,⟨⟨rfl,⟨rfl,rfl⟩,rfl,trivial⟩,⟨rfl,rfl,eqS _⟩,trivial⟩,show f-1<f by omega⟩
    ·rw[if_neg h2] at he;rw[if_neg (by simpa using h2)]
     exact⟨⟨(f-1,(recAt s.log at_).p,m),by dsimp only;omega,by dsimp only;omega,by dsimp only;omega,by dsimp only;omega⟩,⟨⟨rfl,⟨rfl,rfl⟩,by dsimp only;omega,trivial⟩,⟨rfl,rfl,eqS _⟩,trivial⟩,show f-1<f by omega⟩
 ·have h0:at_<=0:=by have:=of_decide_eq_false hc;omega
  rw[und_zero h0] at he;show(m:Int)=_;omega
end Go.Proofs.YtokaojbaacnngaaGreat

