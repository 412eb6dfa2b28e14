/- A part of the proof. -/
import Derived.Test.YtokaojbaacnngaaGreatU3
namespace Go.Proofs.YtokaojbaacnngaaGreat
set_option maxRecDepth 100000
open Go.SS

def apx(s:Sto)(r:Rec):Sto:=⟨s.d,s.ep,s.log++[appR s r],s.sure,s.fr,s.hand⟩
def filR(e:Eng)(k:Nat)(r:Rec):Rec:={r with t:=(e.txs.getD k default).id,p:=(e.txs.getD k default).last}
def addE(e:Eng)(k:Nat)(r:Rec):Eng:={e with s:=apx e.s (filR e k r),txs:=e.txs.set k ⟨(e.txs.getD k default).id,(e.s.log.length:Int)+1⟩}
structure AddB(e:Eng)(tx:Int)(k:Nat)(r:Rec):Prop where
 at_:txAt e.txs tx=k
 lt:k<e.txs.length
 id:(e.txs.getD k default).id=tx
 ok:recOK (appR e.s (filR e k r))=true
 tl:e.txs.length<=1000
 ll:e.s.log.length<=1000
 sm:SmR r
noncomputable def k_add:Con:=.reff ⟨Eng×Int×Rec×Nat×Nat,fun x=>[.ref 0 0 0,.int .i64 x.2.1,.agg x.2.2.1.ts],fun x=>x.1.bx x.2.2.2.2,fun x=>.agg (appR x.1.s (filR x.1 x.2.2.2.1 x.2.2.1)).ts,fun x=>(addE x.1 x.2.2.2.1 x.2.2.1).nx x.2.2.2.2,fun x=>AddB x.1 x.2.1 x.2.2.2.1 x.2.2.1⟩
noncomputable def b_add:Code:=Tryz.f111.body.getD .skip
theorem call_add:Callable Tryz.prog 111:=⟨_,Tryz.func111,by kernel_rfl,by kernel_rfl⟩
theorem v_add(e:Eng)(tx:Int)(r:Rec)(k v:Nat)(h:
  ∃(x:(Eng×Int)),((LeG e)/\((EqFG e x.fst)/\tx=x.snd/\True)/\Len x.fst.txs.length)/\InB (txAt x.fst.txs x.snd) e.txs.length/\Lt (0+(txAt x.fst.txs x.snd).toNat) e.txs.length/\∃(x_1:r_append.ι),(((0=0/\0=0)
  /\(r.e=x_1.snd.fst.e/\r.l=x_1.snd.fst.l/\tx=x_1.snd.fst.t/\r.k=x_1.snd.fst.k/\(e.txs.getD (0+(txAt x.fst.txs x.snd).toNat) default).last=x_1.snd.fst.p/\r.n=x_1.snd.fst.n/\r.g=x_1.snd.fst.g/\r.s=
  x_1.snd.fst.s/\r.b=x_1.snd.fst.b/\r.a=x_1.snd.fst.a/\True)/\True)/\((1=1/\1=1/\EqC e.s x_1.fst)/\EqH (v) (x_1.snd.snd) e.s x_1.fst)/\x_1.fst.log.length<=60/\SmR x_1.snd.fst)/\Lt (0+(txAt x.fst.txs
  x.snd).toNat) e.txs.length/\Lt (0+(txAt x.fst.txs x.snd).toNat) e.txs.length/\Rng .i64 ((bif (0+(txAt x.fst.txs x.snd).toNat).beq (0+(txAt x.fst.txs x.snd).toNat) then(↑(appS x_1.fst x_1.snd.fst).log.length:Int) else
  (e.txs.getD (0+(txAt x.fst.txs x.snd).toNat) default).last)- (1:Int))/\InB ((bif (0+(txAt x.fst.txs x.snd).toNat).beq (0+(txAt x.fst.txs x.snd).toNat) then(↑(appS x_1.fst x_1.snd.fst).log.length:Int) else(e.txs.getD
  (0+(txAt x.fst.txs x.snd).toNat) default).last)- (1:Int)) (appS x_1.fst x_1.snd.fst).log.length/\Lt (0+((bif (0+(txAt x.fst.txs x.snd).toNat).beq (0+(txAt x.fst.txs x.snd).toNat) then(↑(appS x_1.fst
  x_1.snd.fst).log.length:Int) else(e.txs.getD (0+(txAt x.fst.txs x.snd).toNat) default).last)- (1:Int)).toNat) (appS x_1.fst x_1.snd.fst).log.length/\((((appS x_1.fst x_1.snd.fst).log.getD (0+((bif (0+(txAt x.fst.txs
  x.snd).toNat).beq (0+(txAt x.fst.txs x.snd).toNat) then(↑(appS x_1.fst x_1.snd.fst).log.length:Int) else(e.txs.getD (0+(txAt x.fst.txs x.snd).toNat) default).last)- (1:Int)).toNat) default).e=e.s.ep/\((appS x_1.fst
  x_1.snd.fst).log.getD (0+((bif (0+(txAt x.fst.txs x.snd).toNat).beq (0+(txAt x.fst.txs x.snd).toNat) then(↑(appS x_1.fst x_1.snd.fst).log.length:Int) else(e.txs.getD (0+(txAt x.fst.txs x.snd).toNat) default).last)- (1
  :Int)).toNat) default).l=(e.s.log.length:Int)+(1:Int)/\((appS x_1.fst x_1.snd.fst).log.getD (0+((bif (0+(txAt x.fst.txs x.snd).toNat).beq (0+(txAt x.fst.txs x.snd).toNat) then(↑(appS x_1.fst x_1.snd.fst).log.length
  :Int) else(e.txs.getD (0+(txAt x.fst.txs x.snd).toNat) default).last)- (1:Int)).toNat) default).t=(e.txs.getD k default).id/\((appS x_1.fst x_1.snd.fst).log.getD (0+((bif (0+(txAt x.fst.txs x.snd).toNat).beq (0+
  (txAt x.fst.txs x.snd).toNat) then(↑(appS x_1.fst x_1.snd.fst).log.length:Int) else(e.txs.getD (0+(txAt x.fst.txs x.snd).toNat) default).last)- (1:Int)).toNat) default).k=r.k/\((appS x_1.fst x_1.snd.fst).log.getD (0+
  ((bif (0+(txAt x.fst.txs x.snd).toNat).beq (0+(txAt x.fst.txs x.snd).toNat) then(↑(appS x_1.fst x_1.snd.fst).log.length:Int) else(e.txs.getD (0+(txAt x.fst.txs x.snd).toNat) default).last)- (1:Int)).toNat) default).p
  =(e.txs.getD k default).last/\((appS x_1.fst x_1.snd.fst).log.getD (0+((bif (0+(txAt x.fst.txs x.snd).toNat).beq (0+(txAt x.fst.txs x.snd).toNat) then(↑(appS x_1.fst x_1.snd.fst).log.length:Int) else(e.txs.getD (0+
  (txAt x.fst.txs x.snd).toNat) default).last)- (1:Int)).toNat) default).n=r.n/\((appS x_1.fst x_1.snd.fst).log.getD (0+((bif (0+(txAt x.fst.txs x.snd).toNat).beq (0+(txAt x.fst.txs x.snd).toNat) then(↑(appS x_1.fst
  x_1.snd.fst).log.length:Int) else(e.txs.getD (0+(txAt x.fst.txs x.snd).toNat) default).last)- (1:Int)).toNat) default).g=r.g/\((appS x_1.fst x_1.snd.fst).log.getD (0+((bif (0+(txAt x.fst.txs x.snd).toNat).beq (0+
  (txAt x.fst.txs x.snd).toNat) then(↑(appS x_1.fst x_1.snd.fst).log.length:Int) else(e.txs.getD (0+(txAt x.fst.txs x.snd).toNat) default).last)- (1:Int)).toNat) default).s=r.s/\((appS x_1.fst x_1.snd.fst).log.getD (0+
  ((bif (0+(txAt x.fst.txs x.snd).toNat).beq (0+(txAt x.fst.txs x.snd).toNat) then(↑(appS x_1.fst x_1.snd.fst).log.length:Int) else(e.txs.getD (0+(txAt x.fst.txs x.snd).toNat) default).last)- (1:Int)).toNat) default).b
  =r.b/\((appS x_1.fst x_1.snd.fst).log.getD (0+((bif (0+(txAt x.fst.txs x.snd).toNat).beq (0+(txAt x.fst.txs x.snd).toNat) then(↑(appS x_1.fst x_1.snd.fst).log.length:Int) else(e.txs.getD (0+(txAt x.fst.txs
  x.snd).toNat) default).last)- (1:Int)).toNat) default).a=r.a/\True)/\True)/\(1=1/\1=1/\(0=0/\(appS x_1.fst x_1.snd.fst).d.sec.length=e.s.d.sec.length)/\(0=0/\(appS x_1.fst x_1.snd.fst).d.cache.length=
  e.s.d.cache.length)/\(appS x_1.fst x_1.snd.fst).d.armed=e.s.d.armed/\(0=0/\(appS x_1.fst x_1.snd.fst).d.keep.length=e.s.d.keep.length)/\(appS x_1.fst x_1.snd.fst).ep=e.s.ep/\(0=0/\(appS x_1.fst
  x_1.snd.fst).log.length=(e.s.log++[appR e.s (filR e k r)]).length)/\(appS x_1.fst x_1.snd.fst).sure=e.s.sure/\(0=0/\(appS x_1.fst x_1.snd.fst).fr.length=e.s.fr.length)/\(appS x_1.fst x_1.snd.fst).hand=e.s.hand/\
  e.up=e.up/\(0=0/\e.txs.length=(e.txs.set k (Txn.mk (e.txs.getD k default).id ((e.s.log.length:Int)+(1:Int)))).length)/\(0=0/\e.lk.held.length=e.lk.held.length)/\(0=0/\e.lk.waits.length=e.lk.waits.length)/\
  e.next=e.next/\True)/\True/\True/\True/\True/\True/\True/\True/\True/\(EqL strRow (appS x_1.fst x_1.snd.fst).d.sec e.s.d.sec)/\(EqL pendRow (appS x_1.fst x_1.snd.fst).d.cache e.s.d.cache)/\(EqL intRow (appS x_1.fst
  x_1.snd.fst).d.keep e.s.d.keep)/\(EqL recRow (appS x_1.fst x_1.snd.fst).log (e.s.log++[appR e.s (filR e k r)]))/\(x_1.snd.snd=v/\(appS x_1.fst x_1.snd.fst).fr.length=e.s.fr.length/\FamEq (appS x_1.fst
  x_1.snd.fst).fr.length (famRow (appS x_1.fst x_1.snd.fst).fr) (famRow e.s.fr))/\(e.txs.length=(e.txs.set k (Txn.mk (e.txs.getD k default).id ((e.s.log.length:Int)+(1:Int)))).length/\RowsEq e.txs.length (setRow (txnRow
  e.txs) (0+(txAt x.fst.txs x.snd).toNat) 1 [T.int .i64 (↑(appS x_1.fst x_1.snd.fst).log.length:Int)]) (txnRow (e.txs.set k (Txn.mk (e.txs.getD k default).id ((e.s.log.length:Int)+(1:Int))))))/\(EqL lckRow e.lk.held
  e.lk.held)/\(EqL wtRow e.lk.waits e.lk.waits)/\True):
  EffFn Tryz.prog 111 [.ref 0 0 0,.int .i64 tx,.agg r.ts] (e.bx v) (.agg (appR e.s (filR e k r)).ts) ((addE e k r).nx v):=
 vcG (code:=b_add) (gC txAt_ok call_txAt (gC append_ok call_append gN)) Tryz.func111 (by kernel_rfl) (by kernel_rfl) noAnn [[.box 0,.arr 1,.arr 2,.arr 3,.arr 4,.arr 5,.arr 6,.arr 7,.arr 8,.cel 0 0,.cel 0 1,.cel 0 3,.cel 0 5,.cel 0 7,.cel 0 10,.cel 0 11,.cel 0 12]] h (by kernel_rfl)
theorem txn_set{L:List Txn}{k:Nat}{n:Int}(hk:k<L.length)(j:Nat):setRow (txnRow L) k 1 [.int .i64 n] j=txnRow (L.set k ⟨(L.getD k default).id,n⟩) j:=by
 by_cases h:j=k
 ·subst h;rw[setRow_one (by show 1<2;decide)]
  unfold txnRow;rw[List.getD_eq_getElem?_getD (l:=L.set j _),List.getElem?_set_self hk]
  rfl
 ·rw[setRow_ne (by show 1+1<=2;decide) h]
  unfold txnRow;rw[List.getD_eq_getElem?_getD (l:=L.set k _),List.getElem?_set_ne (Ne.symm h),←List.getD_eq_getElem?_getD]
theorem appS_ok{s:Sto}{r:Rec}(h:recOK (appR s r)=true):appS s r=apx s r:=by unfold appS;rw[if_pos h];rfl
theorem apx_last(s:Sto)(r:Rec):(apx s r).log.getD s.log.length default=appR s r:=by
 show(s.log++[appR s r]).getD _ _=_;rw[List.getD_eq_getElem?_getD,List.getElem?_append_right (Nat.le_refl _)]
 simp
theorem add_ok:ConOk Tryz.prog 111 k_add:=by
 rintro⟨e,tx,r,k,v⟩ ⟨ha,hlt,hid,hok,htl,hll,hsm⟩;dsimp only at ha hlt hid hok htl hll hsm;have hl:(apx e.s (filR e k r)).log.length=e.s.log.length+1:=by show(e.s.log++[_]).length=_;simp
 have h60:e.s.log.length<=60:=by
  have:=(recOK_iff _).1 hok;have:=this.2.2.2.1;have e1:(appR e.s (filR e k r)).l=(e.s.log.length:Int)+1:=rfl;omega
 refine v_add e tx r k v ⟨(e,tx),⟨⟨le0 _,le0 _,le0 _,le0 _,le0 _,le0 _,le0 _,le0 _⟩,⟨⟨⟨rfl,rowsR _ _⟩,⟨rfl,rowsR _ _⟩,rfl,⟨rfl,rowsR _ _⟩,rfl,⟨rfl,rowsR _ _⟩,rfl,⟨rfl,fun _ _=>rfl⟩,rfl,rfl,⟨rfl,rowsR _ _⟩,⟨rfl,rowsR _ _⟩,⟨rfl,rowsR _ _⟩,rfl,trivial⟩,rfl,trivial⟩,by unfold Len;dsimp only;omega⟩,?_⟩
 dsimp only;rw[ha,Int.toNat_natCast,Nat.zero_add];refine⟨inB_nat hlt,hlt,(e.s,filR e k r,v),⟨⟨⟨rfl,rfl⟩,⟨rfl,rfl,hid.symm,rfl,rfl,rfl,rfl,rfl,rfl,rfl,trivial⟩,trivial⟩,⟨⟨rfl,rfl,⟨rfl,rfl⟩,⟨rfl,rfl⟩,rfl,⟨rfl,rfl⟩,rfl,⟨rfl,rfl⟩,rfl,⟨rfl,rfl⟩,rfl,trivial⟩,⟨rfl,rowsR _ _⟩,⟨rfl,rowsR _ _⟩,⟨rfl,rowsR _ _⟩,⟨rfl,rowsR _ _⟩,⟨rfl,rfl,famR _⟩,trivial⟩,h60,hsm⟩,hlt,hlt,?_⟩
 dsimp only;rw[appS_ok hok,Nat.beq_refl,cond_true];have hx:(0+(((apx e.s (filR e k r)).log.length:Int)-1).toNat)=e.s.log.length:=by omega
 rw[hx,apx_last];refine⟨i64_rng (by omega),⟨by omega,by omega⟩,by unfold Lt;omega,⟨⟨rfl,rfl,rfl,rfl,rfl,rfl,rfl,rfl,rfl,rfl,trivial⟩,trivial⟩,⟨rfl,rfl,⟨rfl,rfl⟩,⟨rfl,rfl⟩,rfl,⟨rfl,rfl⟩,rfl,⟨rfl,rfl⟩,rfl,⟨rfl,rfl⟩,rfl,rfl,⟨rfl,(List.length_set ..).symm⟩,⟨rfl,rfl⟩,⟨rfl,rfl⟩,rfl,trivial⟩,trivial,trivial,trivial,trivial,trivial,trivial,trivial,trivial,⟨rfl,rowsR _ _⟩,⟨rfl,rowsR _ _⟩,⟨rfl,rowsR _ _⟩,⟨rfl,rowsR _ _⟩,⟨rfl,rfl,famR _⟩,⟨(List.length_set ..).symm,fun j _=> ?_⟩,⟨rfl,rowsR _ _⟩,⟨rfl,rowsR _ _⟩,trivial⟩
 rw[txn_set hlt,hl];rfl
def rBeg:Rec:=⟨0,0,0,1,0,0,0,0,[],[]⟩
def begN(e:Eng):Eng:={e with txs:=e.txs++[⟨e.next,0⟩],next:=e.next+1}
def begE(e:Eng):Eng×Int×Int:=if e.up=true then
  if e.next>60∨e.txs.length=10 then(e,0,6)
  else if(e.s.log.length:Int)+ndE e+2<=60 then(addE (begN e) e.txs.length rBeg,e.next,0) else(e,0,7)
 else(e,0,15)
noncomputable def k_begin:Con:=.reff ⟨Eng×Nat,fun x=>[.ref 0 0 0],fun x=>x.1.bx x.2,fun x=>.tup [.int .i64 (begE x.1).2.1,.int .i64 (begE x.1).2.2],fun x=>(begE x.1).1.nx x.2,fun x=>engOK x.1=true/\EngB x.1⟩
noncomputable def b_begin:Code:=Tryz.f54.body.getD .skip
theorem call_begin:Callable Tryz.prog 54:=⟨_,Tryz.func54,by kernel_rfl,by kernel_rfl⟩
theorem v_begin(e:Eng)(v:Nat)(h:
  ((!e.up)=true->(((0:Int)=(begE e).snd.fst/\(15:Int)=(begE e).snd.snd/\True)/\True)/\(1=1/\1=1/\EqCG e (begE e).fst)/\True/\True/\True/\True/\True/\True/\True/\True/\EqHG (v) (v) e (begE e).fst)/\
  ((!e.up)=false->((decide (e.next>(60:Int))||(e.txs.length:Int)==(10:Int))=true->(((0:Int)=(begE e).snd.fst/\(6:Int)=(begE e).snd.snd/\True)/\True)/\(1=1/\1=1/\EqCG e (begE e).fst)/\True/\True/\
  True/\True/\True/\True/\True/\True/\EqHG (v) (v) e (begE e).fst)/\((decide (e.next>(60:Int))||(e.txs.length:Int)==(10:Int))=false->∃(x:(Eng×Int)),((LeG e)/\((EqFG e x.fst)/\(2:Int)=x.snd/\True)/\
  NdOK x.fst/\Small x.snd)/\((!decide ((x.fst.s.log.length:Int)+(↑(ndE x.fst):Int)+x.snd<=(60:Int)))=true->(((0:Int)=(begE e).snd.fst/\(7:Int)=(begE e).snd.snd/\True)/\True)/\(1=1/\1=1/\EqCG e (begE
  e).fst)/\True/\True/\True/\True/\True/\True/\True/\True/\EqHG (v) (v) e (begE e).fst)/\((!decide ((x.fst.s.log.length:Int)+(↑(ndE x.fst):Int)+x.snd<=(60:Int)))=false->(Le 1 1/\Le e.txs.length e.txs.length/\
  AppB e.txs.length 1 16)/\Rng .i64 (e.next+(1:Int))/\∃(x:(Eng×Int×Rec×Nat×Nat)),(((0=0/\0=0)/\e.next=x.snd.fst/\((0:Int)=x.snd.snd.fst.e/\(0:Int)=x.snd.snd.fst.l/\(0:Int)=x.snd.snd.fst.t/\
  (1:Int)=x.snd.snd.fst.k/\(0:Int)=x.snd.snd.fst.p/\(0:Int)=x.snd.snd.fst.n/\(0:Int)=x.snd.snd.fst.g/\(0:Int)=x.snd.snd.fst.s/\[]=x.snd.snd.fst.b/\[]=x.snd.snd.fst.a/\True)/\True)/\((1=1/\1=1/\
  (0=0/\e.s.d.sec.length=x.fst.s.d.sec.length)/\(0=0/\e.s.d.cache.length=x.fst.s.d.cache.length)/\e.s.d.armed=x.fst.s.d.armed/\(0=0/\e.s.d.keep.length=x.fst.s.d.keep.length)/\e.s.ep=x.fst.s.ep/\(0=0/\
  e.s.log.length=x.fst.s.log.length)/\e.s.sure=x.fst.s.sure/\(0=0/\e.s.fr.length=x.fst.s.fr.length)/\e.s.hand=x.fst.s.hand/\e.up=x.fst.up/\(0=0/\e.txs.length+1=x.fst.txs.length)/\(0=0/\e.lk.held.length=
  x.fst.lk.held.length)/\(0=0/\e.lk.waits.length=x.fst.lk.waits.length)/\e.next+(1:Int)=x.fst.next/\True)/\(EqL strRow e.s.d.sec x.fst.s.d.sec)/\(EqL pendRow e.s.d.cache x.fst.s.d.cache)/\(EqL intRow e.s.d.keep
  x.fst.s.d.keep)/\(EqL recRow e.s.log x.fst.s.log)/\(v=x.snd.snd.snd.snd/\e.s.fr.length=x.fst.s.fr.length/\FamEq e.s.fr.length (famRow e.s.fr) (famRow x.fst.s.fr))/\(e.txs.length+1=x.fst.txs.length/\RowsEq
  (e.txs.length+1) (appRow (txnRow e.txs) e.txs.length fun(k:Nat)=>List.take 2 (List.drop (k*2) [T.int .i64 e.next,T.int .i64 (0:Int)])) (txnRow x.fst.txs))/\(EqL lckRow e.lk.held x.fst.lk.held)/\(EqL wtRow e.lk.waits
  x.fst.lk.waits)/\True)/\AddB x.fst x.snd.fst x.snd.snd.snd.fst x.snd.snd.fst)/\((e.next=(begE e).snd.fst/\(0:Int)=(begE e).snd.snd/\True)/\True)/\(1=1/\1=1/\(0=0/\x.fst.s.d.sec.length=(begE
  e).fst.s.d.sec.length)/\(0=0/\x.fst.s.d.cache.length=(begE e).fst.s.d.cache.length)/\x.fst.s.d.armed=(begE e).fst.s.d.armed/\(0=0/\x.fst.s.d.keep.length=(begE e).fst.s.d.keep.length)/\x.fst.s.ep=(begE e).fst.s.ep
  /\(0=0/\(x.fst.s.log++[appR x.fst.s (filR x.fst x.snd.snd.snd.fst x.snd.snd.fst)]).length=(begE e).fst.s.log.length)/\x.fst.s.sure=(begE e).fst.s.sure/\(0=0/\x.fst.s.fr.length=(begE e).fst.s.fr.length)/\
  x.fst.s.hand=(begE e).fst.s.hand/\x.fst.up=(begE e).fst.up/\(0=0/\(x.fst.txs.set x.snd.snd.snd.fst (Txn.mk (x.fst.txs.getD x.snd.snd.snd.fst default).id ((x.fst.s.log.length:Int)+(1:Int)))).length=(begE
  e).fst.txs.length)/\(0=0/\x.fst.lk.held.length=(begE e).fst.lk.held.length)/\(0=0/\x.fst.lk.waits.length=(begE e).fst.lk.waits.length)/\x.fst.next=(begE e).fst.next/\True)/\True/\True/\True/\True/\True/\True
  /\True/\True/\(EqL strRow x.fst.s.d.sec (begE e).fst.s.d.sec)/\(EqL pendRow x.fst.s.d.cache (begE e).fst.s.d.cache)/\(EqL intRow x.fst.s.d.keep (begE e).fst.s.d.keep)/\(EqL recRow (x.fst.s.log++[appR x.fst.s (filR x.fst
  x.snd.snd.snd.fst x.snd.snd.fst)]) (begE e).fst.s.log)/\(x.snd.snd.snd.snd=v/\x.fst.s.fr.length=(begE e).fst.s.fr.length/\FamEq x.fst.s.fr.length (famRow x.fst.s.fr) (famRow (begE e).fst.s.fr))/\(EqL txnRow (x.fst.txs.set
  x.snd.snd.snd.fst (Txn.mk (x.fst.txs.getD x.snd.snd.snd.fst default).id ((x.fst.s.log.length:Int)+(1:Int)))) (begE e).fst.txs)/\(EqL lckRow x.fst.lk.held (begE e).fst.lk.held)/\(EqL wtRow x.fst.lk.waits (begE
  e).fst.lk.waits)/\True)))):
  EffFn Tryz.prog 54 [.ref 0 0 0] (e.bx v) (.tup [.int .i64 (begE e).2.1,.int .i64 (begE e).2.2]) ((begE e).1.nx v):=
 vcG (code:=b_begin) (gC hasRoom_ok call_hasRoom (gC add_ok call_add gN)) Tryz.func54 (by kernel_rfl) (by kernel_rfl) noAnn [[.box 0,.arr 1,.arr 2,.arr 3,.arr 4,.arr 5,.arr 6,.arr 7,.arr 8,.cel 0 0,.cel 0 1,.cel 0 3,.cel 0 5,.cel 0 7,.cel 0 10,.cel 0 11,.cel 0 12]] h (by kernel_rfl)
theorem ok_split{e:Eng}(h:engOK e=true):stoOK e.s=true/\engHd e=true/\(if e.up then upE e else noneE e)=true:=by
 unfold engOK engR at h;simp only[Bool.and_eq_true] at h;exact⟨h.1,h.2.1,h.2.2⟩
theorem up_tx{e:Eng}(h:engOK e=true)(hu:e.up=true):∀i,i<e.txs.length->badTx e i=false:=by
 have h3:=(ok_split h).2.2;rw[if_pos hu] at h3;unfold upE at h3;simp only[Bool.and_eq_true,Bool.not_eq_true'] at h3;exact anyI_no.1 h3.1.1.1
theorem nd_of{e:Eng}(h:engOK e=true)(hu:e.up=true):NdOK e:=nd_ok (sto_log (ok_split h).1) (ok_split h).2.1 (up_tx h hu)
theorem tx_id{e:Eng}(h:engOK e=true)(hu:e.up=true){i:Nat}(hi:i<e.txs.length):1<=(e.txs.getD i default).id/\(e.txs.getD i default).id<=e.next-1:=by
 have:=up_tx h hu i hi;unfold badTx at this;simp only[Bool.or_eq_false_iff,Bool.not_eq_false',inR_iff] at this;exact this.1.1
theorem txn_app(L:List Txn)(t:Txn):RowsEq (L.length+1) (appRow (txnRow L) L.length fun k=>List.take 2 (List.drop (k*2) t.ts)) (txnRow (L++[t])):=by
 intro i hi;unfold appRow txnRow;by_cases h:i<L.length
 ·rw[blt_t h,List.getD_eq_getElem?_getD,List.getD_eq_getElem?_getD,List.getElem?_append_left h]
 ·have:i=L.length:=by omega
  subst this;rw[blt_f h];have:(L++[t]).getD L.length default=t:=by rw[List.getD_eq_getElem?_getD,List.getElem?_append_right (Nat.le_refl _)];simp
  rw[this];simp[Txn.ts]
theorem ep_rng{s:Sto}(h:stoOK s=true):1<=s.ep/\s.ep<=60:=by
 obtain⟨⟨h1,_⟩,_⟩:=(sto_split s).1 h;obtain⟨_,_,a,b,_⟩:=(hdr_split s).1 h1;exact⟨a,b⟩
theorem beg_add{e:Eng}(h:engOK e=true)(hu:e.up=true)(hn:e.next<=60)(hr:(e.s.log.length:Int)+ndE e+2<=60):AddB (begN e) e.next e.txs.length rBeg:=by
 obtain⟨a1,a2,a3,_⟩:=hd_split (ok_split h).2.1;have he:=ep_rng (ok_split h).1;have hL:(begN e).txs.length=e.txs.length+1:=by unfold begN;simp
 have hg:(begN e).txs.getD e.txs.length default=⟨e.next,0⟩:=by
  show(e.txs++[_]).getD _ _=_;rw[List.getD_eq_getElem?_getD,List.getElem?_append_right (Nat.le_refl _)]
  simp
 refine⟨?_,by omega,by rw[hg],?_,by omega,by show e.s.log.length<=_;omega,⟨Nat.zero_le _,Nat.zero_le _⟩⟩
 ·unfold txAt;rw[hL];refine fstI_at (Nat.lt_succ_self _) ?_ fun j hj=> ?_
  ·unfold isId2;rw[hg];simp
  ·have:=tx_id h hu hj;have e1:(begN e).txs.getD j default=e.txs.getD j default:=by
    show(e.txs++[_]).getD _ _=_;rw[List.getD_eq_getElem?_getD,List.getElem?_append_left hj,←List.getD_eq_getElem?_getD]
   unfold isId2;rw[e1];exact beq_eq_false_iff_ne.2 (by omega)
 ·refine(recOK_iff _).2 ?_
  unfold RecP appR filR rBeg;rw[hg];show 1<=e.s.ep/\e.s.ep<=60/\_;dsimp only;have e2:(begN e).s.log.length=e.s.log.length:=rfl;rw[e2];refine⟨he.1,he.2,by omega,by omega,by omega,by omega,by omega,by omega,by omega,by omega,by omega,by omega,by omega,by omega,by decide,fun e=>by omega,fun _=>⟨by omega,by omega,by decide,fun _ _=>⟨rfl,rfl,rfl,rfl⟩,fun _=>rfl,fun e=>by omega,⟨fun _=>rfl,fun _=>rfl⟩⟩⟩
theorem beg1{e:Eng}(h:(!e.up)=true):begE e=(e,0,15):=by unfold begE;rw[if_neg (by simpa using h)]
theorem beg2{e:Eng}(h:(!e.up)=false)(h2:(decide (e.next>60)||(e.txs.length:Int)==10)=true):begE e=(e,0,6):=by
 simp only[Bool.or_eq_true,decide_eq_true_eq,beq_iff_eq] at h2;unfold begE;rw[if_pos (by simpa using h),if_pos (by omega)]
theorem beg3{e:Eng}(h:(!e.up)=false)(h2:(decide (e.next>60)||(e.txs.length:Int)==10)=false)(h3:¬ (e.s.log.length:Int)+ndE e+2<=60):begE e=(e,0,7):=by
 simp only[Bool.or_eq_false_iff,decide_eq_false_iff_not,beq_eq_false_iff_ne,ne_eq] at h2;unfold begE;rw[if_pos (by simpa using h),if_neg (by omega),if_neg h3]
theorem beg4{e:Eng}(h:(!e.up)=false)(h2:(decide (e.next>60)||(e.txs.length:Int)==10)=false)(h3:(e.s.log.length:Int)+ndE e+2<=60):begE e=(addE (begN e) e.txs.length rBeg,e.next,0):=by
 simp only[Bool.or_eq_false_iff,decide_eq_false_iff_not,beq_eq_false_iff_ne,ne_eq] at h2;unfold begE;rw[if_pos (by simpa using h),if_neg (by omega),if_pos h3]
theorem begin_ok:ConOk Tryz.prog 54 k_begin:=by
 rintro⟨e,v⟩ ⟨ho,hB⟩;dsimp only at ho hB;refine v_begin e v ⟨fun hu=> ?_,fun hu=>⟨fun hn=> ?_,fun hn=> ?_⟩⟩
 ·rw[beg1 hu];exact⟨⟨⟨rfl,rfl,trivial⟩,trivial⟩,⟨rfl,rfl,⟨rfl,rfl⟩,⟨rfl,rfl⟩,rfl,⟨rfl,rfl⟩,rfl,⟨rfl,rfl⟩,rfl,⟨rfl,rfl⟩,rfl,rfl,⟨rfl,rfl⟩,⟨rfl,rfl⟩,⟨rfl,rfl⟩,rfl,trivial⟩,trivial,trivial,trivial,trivial,trivial,trivial,trivial,trivial,⟨rfl,rowsR _ _⟩,⟨rfl,rowsR _ _⟩,⟨rfl,rowsR _ _⟩,⟨rfl,rowsR _ _⟩,⟨rfl,rfl,famR _⟩,⟨rfl,rowsR _ _⟩,⟨rfl,rowsR _ _⟩,⟨rfl,rowsR _ _⟩,trivial⟩
 ·rw[beg2 hu hn];exact⟨⟨⟨rfl,rfl,trivial⟩,trivial⟩,⟨rfl,rfl,⟨rfl,rfl⟩,⟨rfl,rfl⟩,rfl,⟨rfl,rfl⟩,rfl,⟨rfl,rfl⟩,rfl,⟨rfl,rfl⟩,rfl,rfl,⟨rfl,rfl⟩,⟨rfl,rfl⟩,⟨rfl,rfl⟩,rfl,trivial⟩,trivial,trivial,trivial,trivial,trivial,trivial,trivial,trivial,⟨rfl,rowsR _ _⟩,⟨rfl,rowsR _ _⟩,⟨rfl,rowsR _ _⟩,⟨rfl,rowsR _ _⟩,⟨rfl,rfl,famR _⟩,⟨rfl,rowsR _ _⟩,⟨rfl,rowsR _ _⟩,⟨rfl,rowsR _ _⟩,trivial⟩
 ·have hu':e.up=true:=by simpa using hu
  refine⟨(e,2),⟨⟨le0 _,le0 _,le0 _,le0 _,le0 _,le0 _,le0 _,le0 _⟩,⟨⟨⟨rfl,rowsR _ _⟩,⟨rfl,rowsR _ _⟩,rfl,⟨rfl,rowsR _ _⟩,rfl,⟨rfl,rowsR _ _⟩,rfl,⟨rfl,fun _ _=>rfl⟩,rfl,rfl,⟨rfl,rowsR _ _⟩,⟨rfl,rowsR _ _⟩,⟨rfl,rowsR _ _⟩,rfl,trivial⟩,rfl,trivial⟩,nd_of ho hu',by unfold Small;dsimp only;omega⟩,fun hr=> ?_,fun hr=> ?_⟩
  ·rw[beg3 hu hn (by simpa using hr)]
   exact⟨⟨⟨rfl,rfl,trivial⟩,trivial⟩,⟨rfl,rfl,⟨rfl,rfl⟩,⟨rfl,rfl⟩,rfl,⟨rfl,rfl⟩,rfl,⟨rfl,rfl⟩,rfl,⟨rfl,rfl⟩,rfl,rfl,⟨rfl,rfl⟩,⟨rfl,rfl⟩,⟨rfl,rfl⟩,rfl,trivial⟩,trivial,trivial,trivial,trivial,trivial,trivial,trivial,trivial,⟨rfl,rowsR _ _⟩,⟨rfl,rowsR _ _⟩,⟨rfl,rowsR _ _⟩,⟨rfl,rowsR _ _⟩,⟨rfl,rfl,famR _⟩,⟨rfl,rowsR _ _⟩,⟨rfl,rowsR _ _⟩,⟨rfl,rowsR _ _⟩,trivial⟩
  ·have hr':(e.s.log.length:Int)+ndE e+2<=60:=by simpa using hr
   obtain⟨a1,a2,a3,_⟩:=hd_split (ok_split ho).2.1;have hn':=hn;simp only[Bool.or_eq_false_iff,decide_eq_false_iff_not] at hn';have hL:e.txs.length+1=(e.txs++[(⟨e.next,0⟩:Txn)]).length:=by simp
   rw[beg4 hu hn hr'];exact⟨⟨Nat.le_refl _,Nat.le_refl _,by unfold AppB;omega⟩,i64_rng (by omega),(begN e,e.next,rBeg,e.txs.length,v),⟨⟨⟨rfl,rfl⟩,rfl,⟨rfl,rfl,rfl,rfl,rfl,rfl,rfl,rfl,rfl,rfl,trivial⟩,trivial⟩,⟨⟨rfl,rfl,⟨rfl,rfl⟩,⟨rfl,rfl⟩,rfl,⟨rfl,rfl⟩,rfl,⟨rfl,rfl⟩,rfl,⟨rfl,rfl⟩,rfl,rfl,⟨rfl,hL⟩,⟨rfl,rfl⟩,⟨rfl,rfl⟩,rfl,trivial⟩,⟨rfl,rowsR _ _⟩,⟨rfl,rowsR _ _⟩,⟨rfl,rowsR _ _⟩,⟨rfl,rowsR _ _⟩,⟨rfl,rfl,famR _⟩,⟨hL,txn_app e.txs ⟨e.next,0⟩⟩,⟨rfl,rowsR _ _⟩,⟨rfl,rowsR _ _⟩,trivial⟩,beg_add ho hu' (by omega) hr'⟩,⟨⟨rfl,rfl,trivial⟩,trivial⟩,⟨rfl,rfl,⟨rfl,rfl⟩,⟨rfl,rfl⟩,rfl,⟨rfl,rfl⟩,rfl,⟨rfl,rfl⟩,rfl,⟨rfl,rfl⟩,rfl,rfl,⟨rfl,rfl⟩,⟨rfl,rfl⟩,⟨rfl,rfl⟩,rfl,trivial⟩,trivial,trivial,trivial,trivial,trivial,trivial,trivial,trivial,⟨rfl,rowsR _ _⟩,⟨rfl,rowsR _ _⟩,⟨rfl,rowsR _ _⟩,⟨rfl,rowsR _ _⟩,⟨rfl,rfl,famR _⟩,⟨rfl,rowsR _ _⟩,⟨rfl,rowsR _ _⟩,⟨rfl,rowsR _ _⟩,trivial⟩
end Go.Proofs.YtokaojbaacnngaaGreat

