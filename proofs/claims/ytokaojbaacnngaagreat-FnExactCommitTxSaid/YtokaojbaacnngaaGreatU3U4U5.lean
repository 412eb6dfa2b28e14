/- A part of the proof. -/
import Derived.Test.YtokaojbaacnngaaGreatU1U2
import Derived.Test.YtokaojbaacnngaaGreatW7
namespace Go.Proofs.YtokaojbaacnngaaGreat
set_option maxRecDepth 100000
open Go.SS

def Eng.tn(e:Eng)(a b c d f g h i:Nat):List T:=[.osl a 0 e.s.d.sec.length,.osl b 0 e.s.d.cache.length,.bool e.s.d.armed,.osl c 0 e.s.d.keep.length,.int .i64 e.s.ep,.osl d 0 e.s.log.length,.int .i64 e.s.sure,.osl f 0 e.s.fr.length,.int .i64 e.s.hand,.bool e.up,.osl g 0 e.txs.length,.osl h 0 e.lk.held.length,.osl i 0 e.lk.waits.length,.int .i64 e.next]
def d3O(l:List T):Option Ob:=some (.arr false 1000000 14 1 fun _=>l)
def Eng.bx(e:Eng)(v:Nat):Y5:=[d3O (e.tn 1 2 3 4 5 6 7 8),I6 e.s.d.sec,J4 e.s.d.cache,C9 e.s.d.keep,A1 e.s.log,c8 v e.s.fr e.s.fr.length,a1l e.txs,a0E e.lk.held,wtA e.lk.waits]
def Eng.nx(e:Eng)(v:Nat):Y5:=[d3O (e.tn 9 10 11 12 13 14 15 16),none,none,none,none,none,none,none,none,I6 e.s.d.sec,J4 e.s.d.cache,C9 e.s.d.keep,A1 e.s.log,c8 v e.s.fr e.s.fr.length,a1l e.txs,a0E e.lk.held,wtA e.lk.waits]
def d6I:Eng:=⟨d7n,false,[],⟨[],[]⟩,0⟩
end Go.Proofs.YtokaojbaacnngaaGreat

namespace Go.Proofs.YtokaojbaacnngaaGreat
set_option maxRecDepth 100000
open Go.SS

def apx(s:Sto)(r:Rec):Sto:=⟨s.d,s.ep,s.log++[K9 s r],s.sure,s.fr,s.hand⟩
def a0G(e:Eng)(k:Nat)(r:Rec):Rec:={r with t:=(e.txs.getD k default).id,p:=(e.txs.getD k default).last}
def c7X(e:Eng)(k:Nat)(r:Rec):Eng:={e with s:=apx e.s (a0G e k r),txs:=e.txs.set k ⟨(e.txs.getD k default).id,(e.s.log.length:Int)+1⟩}
structure AddB(e:Eng)(tx:Int)(k:Nat)(r:Rec):Prop where
 at_:V5 e.txs tx=k
 lt:k<e.txs.length
 id:(e.txs.getD k default).id=tx
 ok:S2 (K9 e.s (a0G e k r))=true
 tl:e.txs.length<=1000
 ll:e.s.log.length<=1000
 sm:SmR r
noncomputable def d6Q:Con:=.reff ⟨Eng×Int×Rec×Nat×Nat,fun x=>[.ref 0 0 0,.int .i64 x.2.1,.agg x.2.2.1.ts],fun x=>x.1.bx x.2.2.2.2,fun x=>.agg (K9 x.1.s (a0G x.1 x.2.2.2.1 x.2.2.1)).ts,fun x=>(c7X x.1 x.2.2.2.1 x.2.2.1).nx x.2.2.2.2,fun x=>AddB x.1 x.2.1 x.2.2.2.1 x.2.2.1⟩
noncomputable def d6Z:Code:=Tryz.f111.body.getD .skip
theorem c6f:Z8 Tryz.prog 111:=⟨_,Tryz.func111,by kernel_rfl,by kernel_rfl⟩
theorem d6u(e:Eng)(tx:Int)(r:Rec)(k v:Nat)(h:
  ∃(x:(Eng×Int)),((LeG e)/\((a3F e x.fst)/\tx=x.snd/\True)/\N8 x.fst.txs.length)/\W7 (V5 x.fst.txs x.snd) e.txs.length/\Lt (0+(V5 x.fst.txs x.snd).toNat) e.txs.length/\∃(x_1:b1x.ι),(((0=0/\0=0)
  /\(r.e=x_1.snd.fst.e/\r.l=x_1.snd.fst.l/\tx=x_1.snd.fst.t/\r.k=x_1.snd.fst.k/\(e.txs.getD (0+(V5 x.fst.txs x.snd).toNat) default).last=x_1.snd.fst.p/\r.n=x_1.snd.fst.n/\r.g=x_1.snd.fst.g/\r.s=
  x_1.snd.fst.s/\r.b=x_1.snd.fst.b/\r.a=x_1.snd.fst.a/\True)/\True)/\((1=1/\1=1/\EqC e.s x_1.fst)/\EqH (v) (x_1.snd.snd) e.s x_1.fst)/\x_1.fst.log.length<=60/\SmR x_1.snd.fst)/\Lt (0+(V5 x.fst.txs
  x.snd).toNat) e.txs.length/\Lt (0+(V5 x.fst.txs x.snd).toNat) e.txs.length/\X6 .i64 ((bif (0+(V5 x.fst.txs x.snd).toNat).beq (0+(V5 x.fst.txs x.snd).toNat) then(↑(S8 x_1.fst x_1.snd.fst).log.length:Int) else
  (e.txs.getD (0+(V5 x.fst.txs x.snd).toNat) default).last)- (1:Int))/\W7 ((bif (0+(V5 x.fst.txs x.snd).toNat).beq (0+(V5 x.fst.txs x.snd).toNat) then(↑(S8 x_1.fst x_1.snd.fst).log.length:Int) else(e.txs.getD
  (0+(V5 x.fst.txs x.snd).toNat) default).last)- (1:Int)) (S8 x_1.fst x_1.snd.fst).log.length/\Lt (0+((bif (0+(V5 x.fst.txs x.snd).toNat).beq (0+(V5 x.fst.txs x.snd).toNat) then(↑(S8 x_1.fst
  x_1.snd.fst).log.length:Int) else(e.txs.getD (0+(V5 x.fst.txs x.snd).toNat) default).last)- (1:Int)).toNat) (S8 x_1.fst x_1.snd.fst).log.length/\((((S8 x_1.fst x_1.snd.fst).log.getD (0+((bif (0+(V5 x.fst.txs
  x.snd).toNat).beq (0+(V5 x.fst.txs x.snd).toNat) then(↑(S8 x_1.fst x_1.snd.fst).log.length:Int) else(e.txs.getD (0+(V5 x.fst.txs x.snd).toNat) default).last)- (1:Int)).toNat) default).e=e.s.ep/\((S8 x_1.fst
  x_1.snd.fst).log.getD (0+((bif (0+(V5 x.fst.txs x.snd).toNat).beq (0+(V5 x.fst.txs x.snd).toNat) then(↑(S8 x_1.fst x_1.snd.fst).log.length:Int) else(e.txs.getD (0+(V5 x.fst.txs x.snd).toNat) default).last)- (1
  :Int)).toNat) default).l=(e.s.log.length:Int)+(1:Int)/\((S8 x_1.fst x_1.snd.fst).log.getD (0+((bif (0+(V5 x.fst.txs x.snd).toNat).beq (0+(V5 x.fst.txs x.snd).toNat) then(↑(S8 x_1.fst x_1.snd.fst).log.length
  :Int) else(e.txs.getD (0+(V5 x.fst.txs x.snd).toNat) default).last)- (1:Int)).toNat) default).t=(e.txs.getD k default).id/\((S8 x_1.fst x_1.snd.fst).log.getD (0+((bif (0+(V5 x.fst.txs x.snd).toNat).beq (0+
  (V5 x.fst.txs x.snd).toNat) then(↑(S8 x_1.fst x_1.snd.fst).log.length:Int) else(e.txs.getD (0+(V5 x.fst.txs x.snd).toNat) default).last)- (1:Int)).toNat) default).k=r.k/\((S8 x_1.fst x_1.snd.fst).log.getD (0+
  ((bif (0+(V5 x.fst.txs x.snd).toNat).beq (0+(V5 x.fst.txs x.snd).toNat) then(↑(S8 x_1.fst x_1.snd.fst).log.length:Int) else(e.txs.getD (0+(V5 x.fst.txs x.snd).toNat) default).last)- (1:Int)).toNat) default).p
  =(e.txs.getD k default).last/\((S8 x_1.fst x_1.snd.fst).log.getD (0+((bif (0+(V5 x.fst.txs x.snd).toNat).beq (0+(V5 x.fst.txs x.snd).toNat) then(↑(S8 x_1.fst x_1.snd.fst).log.length:Int) else(e.txs.getD (0+
  (V5 x.fst.txs x.snd).toNat) default).last)- (1:Int)).toNat) default).n=r.n/\((S8 x_1.fst x_1.snd.fst).log.getD (0+((bif (0+(V5 x.fst.txs x.snd).toNat).beq (0+(V5 x.fst.txs x.snd).toNat) then(↑(S8 x_1.fst
  x_1.snd.fst).log.length:Int) else(e.txs.getD (0+(V5 x.fst.txs x.snd).toNat) default).last)- (1:Int)).toNat) default).g=r.g/\((S8 x_1.fst x_1.snd.fst).log.getD (0+((bif (0+(V5 x.fst.txs x.snd).toNat).beq (0+
  (V5 x.fst.txs x.snd).toNat) then(↑(S8 x_1.fst x_1.snd.fst).log.length:Int) else(e.txs.getD (0+(V5 x.fst.txs x.snd).toNat) default).last)- (1:Int)).toNat) default).s=r.s/\((S8 x_1.fst x_1.snd.fst).log.getD (0+
  ((bif (0+(V5 x.fst.txs x.snd).toNat).beq (0+(V5 x.fst.txs x.snd).toNat) then(↑(S8 x_1.fst x_1.snd.fst).log.length:Int) else(e.txs.getD (0+(V5 x.fst.txs x.snd).toNat) default).last)- (1:Int)).toNat) default).b
  =r.b/\((S8 x_1.fst x_1.snd.fst).log.getD (0+((bif (0+(V5 x.fst.txs x.snd).toNat).beq (0+(V5 x.fst.txs x.snd).toNat) then(↑(S8 x_1.fst x_1.snd.fst).log.length:Int) else(e.txs.getD (0+(V5 x.fst.txs
  x.snd).toNat) default).last)- (1:Int)).toNat) default).a=r.a/\True)/\True)/\(1=1/\1=1/\(0=0/\(S8 x_1.fst x_1.snd.fst).d.sec.length=e.s.d.sec.length)/\(0=0/\(S8 x_1.fst x_1.snd.fst).d.cache.length=
  e.s.d.cache.length)/\(S8 x_1.fst x_1.snd.fst).d.armed=e.s.d.armed/\(0=0/\(S8 x_1.fst x_1.snd.fst).d.keep.length=e.s.d.keep.length)/\(S8 x_1.fst x_1.snd.fst).ep=e.s.ep/\(0=0/\(S8 x_1.fst
  x_1.snd.fst).log.length=(e.s.log++[K9 e.s (a0G e k r)]).length)/\(S8 x_1.fst x_1.snd.fst).sure=e.s.sure/\(0=0/\(S8 x_1.fst x_1.snd.fst).fr.length=e.s.fr.length)/\(S8 x_1.fst x_1.snd.fst).hand=e.s.hand/\
  e.up=e.up/\(0=0/\e.txs.length=(e.txs.set k (Txn.mk (e.txs.getD k default).id ((e.s.log.length:Int)+(1:Int)))).length)/\(0=0/\e.lk.held.length=e.lk.held.length)/\(0=0/\e.lk.waits.length=e.lk.waits.length)/\
  e.next=e.next/\True)/\True/\True/\True/\True/\True/\True/\True/\True/\(Y3 Z6 (S8 x_1.fst x_1.snd.fst).d.sec e.s.d.sec)/\(Y3 Z3 (S8 x_1.fst x_1.snd.fst).d.cache e.s.d.cache)/\(Y3 Y7 (S8 x_1.fst
  x_1.snd.fst).d.keep e.s.d.keep)/\(Y3 Y4 (S8 x_1.fst x_1.snd.fst).log (e.s.log++[K9 e.s (a0G e k r)]))/\(x_1.snd.snd=v/\(S8 x_1.fst x_1.snd.fst).fr.length=e.s.fr.length/\T9 (S8 x_1.fst
  x_1.snd.fst).fr.length (Y0 (S8 x_1.fst x_1.snd.fst).fr) (Y0 e.s.fr))/\(e.txs.length=(e.txs.set k (Txn.mk (e.txs.getD k default).id ((e.s.log.length:Int)+(1:Int)))).length/\Z7 e.txs.length (setRow (X9
  e.txs) (0+(V5 x.fst.txs x.snd).toNat) 1 [T.int .i64 (↑(S8 x_1.fst x_1.snd.fst).log.length:Int)]) (X9 (e.txs.set k (Txn.mk (e.txs.getD k default).id ((e.s.log.length:Int)+(1:Int))))))/\(Y3 Y9 e.lk.held
  e.lk.held)/\(Y3 Y1 e.lk.waits e.lk.waits)/\True):
  V7 Tryz.prog 111 [.ref 0 0 0,.int .i64 tx,.agg r.ts] (e.bx v) (.agg (K9 e.s (a0G e k r)).ts) ((c7X e k r).nx v):=
 C4 (code:=d6Z) (gC a2u d5 (gC a2Y a9I gN)) Tryz.func111 (by kernel_rfl) (by kernel_rfl) Z0 [[.box 0,.arr 1,.arr 2,.arr 3,.arr 4,.arr 5,.arr 6,.arr 7,.arr 8,.cel 0 0,.cel 0 1,.cel 0 3,.cel 0 5,.cel 0 7,.cel 0 10,.cel 0 11,.cel 0 12]] h (by kernel_rfl)
theorem b78{L:List Txn}{k:Nat}{n:Int}(hk:k<L.length)(j:Nat):setRow (X9 L) k 1 [.int .i64 n] j=X9 (L.set k ⟨(L.getD k default).id,n⟩) j:=by
 by_cases h:j=k
 ·subst h;rw[a1C (by show 1<2;decide)]
  unfold X9;rw[List.getD_eq_getElem?_getD (l:=L.set j _),List.getElem?_set_self hk]
  rfl
 ·rw[a2F (by show 1+1<=2;decide) h]
  unfold X9;rw[List.getD_eq_getElem?_getD (l:=L.set k _),List.getElem?_set_ne (Ne.symm h),←List.getD_eq_getElem?_getD]
theorem d1a{s:Sto}{r:Rec}(h:S2 (K9 s r)=true):S8 s r=apx s r:=by unfold S8;rw[if_pos h];rfl
theorem b0q(s:Sto)(r:Rec):(apx s r).log.getD s.log.length default=K9 s r:=by
 show(s.log++[K9 s r]).getD _ _=_;rw[List.getD_eq_getElem?_getD,List.getElem?_append_right (Nat.le_refl _)]
 simp
theorem d4X:Z2 Tryz.prog 111 d6Q:=by
 rintro⟨e,tx,r,k,v⟩ ⟨ha,hlt,hid,hok,htl,hll,hsm⟩;dsimp only at ha hlt hid hok htl hll hsm;have hl:(apx e.s (a0G e k r)).log.length=e.s.log.length+1:=by show(e.s.log++[_]).length=_;simp
 have h60:e.s.log.length<=60:=by
  have:=(Q8 _).1 hok;have:=this.2.2.2.1;have e1:(K9 e.s (a0G e k r)).l=(e.s.log.length:Int)+1:=rfl;omega
 refine d6u e tx r k v ⟨(e,tx),⟨⟨T3 _,T3 _,T3 _,T3 _,T3 _,T3 _,T3 _,T3 _⟩,⟨⟨⟨rfl,Z9 _ _⟩,⟨rfl,Z9 _ _⟩,rfl,⟨rfl,Z9 _ _⟩,rfl,⟨rfl,Z9 _ _⟩,rfl,⟨rfl,fun _ _=>rfl⟩,rfl,rfl,⟨rfl,Z9 _ _⟩,⟨rfl,Z9 _ _⟩,⟨rfl,Z9 _ _⟩,rfl,trivial⟩,rfl,trivial⟩,by unfold N8;dsimp only;omega⟩,?_⟩
 dsimp only;rw[ha,Int.toNat_natCast,Nat.zero_add];refine⟨Y8 hlt,hlt,(e.s,a0G e k r,v),⟨⟨⟨rfl,rfl⟩,⟨rfl,rfl,hid.symm,rfl,rfl,rfl,rfl,rfl,rfl,rfl,trivial⟩,trivial⟩,⟨⟨rfl,rfl,⟨rfl,rfl⟩,⟨rfl,rfl⟩,rfl,⟨rfl,rfl⟩,rfl,⟨rfl,rfl⟩,rfl,⟨rfl,rfl⟩,rfl,trivial⟩,⟨rfl,Z9 _ _⟩,⟨rfl,Z9 _ _⟩,⟨rfl,Z9 _ _⟩,⟨rfl,Z9 _ _⟩,⟨rfl,rfl,U4 _⟩,trivial⟩,h60,hsm⟩,hlt,hlt,?_⟩
 dsimp only;rw[d1a hok,Nat.beq_refl,cond_true];have hx:(0+(((apx e.s (a0G e k r)).log.length:Int)-1).toNat)=e.s.log.length:=by omega
 rw[hx,b0q];refine⟨Z5 (by omega),⟨by omega,by omega⟩,by unfold Lt;omega,⟨⟨rfl,rfl,rfl,rfl,rfl,rfl,rfl,rfl,rfl,rfl,trivial⟩,trivial⟩,⟨rfl,rfl,⟨rfl,rfl⟩,⟨rfl,rfl⟩,rfl,⟨rfl,rfl⟩,rfl,⟨rfl,rfl⟩,rfl,⟨rfl,rfl⟩,rfl,rfl,⟨rfl,(List.length_set ..).symm⟩,⟨rfl,rfl⟩,⟨rfl,rfl⟩,rfl,trivial⟩,trivial,trivial,trivial,trivial,trivial,trivial,trivial,trivial,⟨rfl,Z9 _ _⟩,⟨rfl,Z9 _ _⟩,⟨rfl,Z9 _ _⟩,⟨rfl,Z9 _ _⟩,⟨rfl,rfl,U4 _⟩,⟨(List.length_set ..).symm,fun j _=> ?_⟩,⟨rfl,Z9 _ _⟩,⟨rfl,Z9 _ _⟩,trivial⟩
 rw[b78 hlt,hl];rfl
theorem G8{e:Eng}(h:P1 e=true):M9 e.s=true/\i3 e=true/\(if e.up then upE e else b2M e)=true:=by
 unfold P1 a0V at h;simp only[Bool.and_eq_true] at h;exact⟨h.1,h.2.1,h.2.2⟩
theorem d3z{e:Eng}(h:P1 e=true)(hu:e.up=true):∀i,i<e.txs.length->I0 e i=false:=by
 have h3:=(G8 h).2.2;rw[if_pos hu] at h3;unfold upE at h3;simp only[Bool.and_eq_true,Bool.not_eq_true'] at h3;exact L5.1 h3.1.1.1
theorem d6C{e:Eng}(h:P1 e=true)(hu:e.up=true){i:Nat}(hi:i<e.txs.length):1<=(e.txs.getD i default).id/\(e.txs.getD i default).id<=e.next-1:=by
 have:=d3z h hu i hi;unfold I0 at this;simp only[Bool.or_eq_false_iff,Bool.not_eq_false',N3] at this;exact this.1.1
theorem d4y{s:Sto}(h:M9 s=true):1<=s.ep/\s.ep<=60:=by
 obtain⟨⟨h1,_⟩,_⟩:=(G7 s).1 h;obtain⟨_,_,a,b,_⟩:=(d8 s).1 h1;exact⟨a,b⟩
end Go.Proofs.YtokaojbaacnngaaGreat

namespace Go.Proofs.YtokaojbaacnngaaGreat
set_option maxRecDepth 100000
open Go.SS

theorem b99{f g:Nat->List T}:W4 f 0 g=g:=funext fun i=>by unfold W4;rw[show Nat.blt i 0=false from rfl];rfl
def d6o:Con:=.rel ⟨Sto×Rec,fun x=>[.agg x.1.ts,.agg x.2.ts],fun x=>.tup [.agg (apx x.1 x.2).ts,.int .i64 (x.1.log.length+1:Nat)],fun x=>x.1.log.length<=1000⟩
noncomputable def d6E:Code:=Tryz.f126.body.getD .skip
theorem c4h:Z8 Tryz.prog 126:=⟨_,Tryz.func126,by kernel_rfl,by kernel_rfl⟩
theorem d6B(s:Sto)(r:Rec)(h:
  X6 .i64 ((s.log.length:Int)+(1:Int))/\(Le 0 0/\V6 0 s.log.length 96)/\(Le (0+s.log.length) (0+s.log.length)/\V6 (0+s.log.length) 1 96)/\Le (0+(0+s.log.length+1)) (0+s.log.length+1)/\((Y3 Z6
  s.d.sec s.d.sec)/\(Y3 Z3 s.d.cache s.d.cache)/\s.d.armed=s.d.armed/\(Y3 Y7 s.d.keep s.d.keep)/\s.ep=s.ep/\(0+s.log.length+1=(s.log++[K9 s r]).length/\Z7 (0+s.log.length+1) (W4 (W4
  (fun(k:Nat)=>List.take 10 (List.drop (k*10) [])) 0 (Y4 s.log)) (0+s.log.length) fun(k:Nat)=>List.take 10 (List.drop (k*10) [T.int .i64 s.ep,T.int .i64 ((s.log.length:Int)+(1:Int)),T.int .i64 r.t,T.int
  .i64 r.k,T.int .i64 r.p,T.int .i64 r.n,T.int .i64 r.g,T.int .i64 r.s,T.str r.b,T.str r.a])) (Y4 (s.log++[K9 s r])))/\s.sure=s.sure/\(Y3 V3 s.fr s.fr)/\s.hand=s.hand/\True)/\(s.log.length:Int)+(1:
  Int)=(↑(s.log.length+1):Int)/\True):
  Z1 Tryz.prog 126 [.agg s.ts,.agg r.ts] (.tup [.agg (apx s r).ts,.int .i64 (s.log.length+1:Nat)]):=
 T7 (code:=d6E) (gC l7 E9 gN) Tryz.func126 (by kernel_rfl) (by kernel_rfl) Z0 h (by kernel_rfl)
theorem d5e:Z2 Tryz.prog 126 d6o:=by
 rintro⟨s,r⟩ (h:s.log.length<=1000);have hl:(s.log++[K9 s r]).length=s.log.length+1:=by simp
 refine d6B s r ⟨Z5 (by omega),⟨Nat.le_refl _,by unfold V6;omega⟩,⟨Nat.le_refl _,by unfold V6;omega⟩,by unfold Le;omega,⟨(by repeat' first|exact trivial|exact rfl|exact Z9 _ _|exact U4 _|exact V0|exact T3 _|exact Nat.le_refl _|exact Nat.zero_le _|refine And.intro ?_ ?_),(by repeat' first|exact trivial|exact rfl|exact Z9 _ _|exact U4 _|exact V0|exact T3 _|exact Nat.le_refl _|exact Nat.zero_le _|refine And.intro ?_ ?_),rfl,(by repeat' first|exact trivial|exact rfl|exact Z9 _ _|exact U4 _|exact V0|exact T3 _|exact Nat.le_refl _|exact Nat.zero_le _|refine And.intro ?_ ?_),rfl,⟨by omega,?_⟩,rfl,(by repeat' first|exact trivial|exact rfl|exact Z9 _ _|exact U4 _|exact V0|exact T3 _|exact Nat.le_refl _|exact Nat.zero_le _|refine And.intro ?_ ?_),rfl,trivial⟩,rfl,trivial⟩
 rw[Nat.zero_add,b99];exact a3T s.log (K9 s r)
def d39:Con:=.rfz ⟨Eng×Nat×Rec,fun x=>[.agg x.1.ts,.int .i64 x.2.1,.agg x.2.2.ts],fun x=>.tup [.agg (c7X x.1 x.2.1 x.2.2).ts,.int .i64 (x.1.s.log.length+1:Nat)],fun x=>x.2.1<x.1.txs.length/\x.1.txs.length<=1000/\x.1.s.log.length<=1000⟩
noncomputable def d4C:Code:=Tryz.f109.body.getD .skip
theorem c2D:Z8 Tryz.prog 109:=⟨_,Tryz.func109,by kernel_rfl,by kernel_rfl⟩
theorem d5D(e:Eng)(k:Nat)(r:Rec)(h:
  W7 (k:Int) e.txs.length/\W7 (k:Int) e.txs.length/\∃(x:(Sto×Rec)),(((EqS e.s x.fst)/\(r.e=x.snd.e/\r.l=x.snd.l/\(e.txs.getD (k:Int).toNat default).id=x.snd.t/\r.k=x.snd.k/\(e.txs.getD (k:Int).toNat
  default).last=x.snd.p/\r.n=x.snd.n/\r.g=x.snd.g/\r.s=x.snd.s/\r.b=x.snd.b/\r.a=x.snd.a/\True)/\True)/\x.fst.log.length<=1000)/\(Le 0 0/\V6 0 e.txs.length 16)/\W7 (k:Int) (0+e.txs.length)/\Lt (0+
  (k:Int).toNat) (0+e.txs.length)/\Le (0+(0+e.txs.length)) (0+e.txs.length)/\((Y3 Z6 x.fst.d.sec e.s.d.sec)/\(Y3 Z3 x.fst.d.cache e.s.d.cache)/\x.fst.d.armed=e.s.d.armed/\(Y3 Y7 x.fst.d.keep
  e.s.d.keep)/\x.fst.ep=e.s.ep/\(Y3 Y4 (x.fst.log++[K9 x.fst x.snd]) (e.s.log++[K9 e.s (a0G e k r)]))/\x.fst.sure=e.s.sure/\(Y3 V3 x.fst.fr e.s.fr)/\x.fst.hand=e.s.hand/\e.up=e.up/\(0+e.txs.length
  =(e.txs.set k (Txn.mk (e.txs.getD k default).id ((e.s.log.length:Int)+(1:Int)))).length/\Z7 (0+e.txs.length) (setRow (W4 (fun(k:Nat)=>List.take 2 (List.drop (k*2) [])) 0 (X9 e.txs)) (0+(k:Int).toNat) 1
  [T.int .i64 (↑(x.fst.log.length+1):Int)]) (X9 (e.txs.set k (Txn.mk (e.txs.getD k default).id ((e.s.log.length:Int)+(1:Int))))))/\(Y3 Y9 e.lk.held e.lk.held)/\(Y3 Y1 e.lk.waits e.lk.waits)/\e.next=e.next/\
  True)/\(↑(x.fst.log.length+1):Int)=(↑(e.s.log.length+1):Int)/\True):
  Z1 Tryz.prog 109 [.agg e.ts,.int .i64 k,.agg r.ts] (.tup [.agg (c7X e k r).ts,.int .i64 (e.s.log.length+1:Nat)]):=
 T7 (code:=d4C) (gC d5e c4h (gC l7 E9 gN)) Tryz.func109 (by kernel_rfl) (by kernel_rfl) Z0 h (by kernel_rfl)
theorem d0z:Z2 Tryz.prog 109 d39:=by
 rintro⟨e,k,r⟩ ⟨hk,ht,hl⟩;dsimp only at hk ht hl;refine d5D e k r ⟨Y8 hk,Y8 hk,(e.s,a0G e k r),⟨⟨eqS _,⟨rfl,rfl,by rw[Int.toNat_natCast];rfl,rfl,by rw[Int.toNat_natCast];rfl,rfl,rfl,rfl,rfl,rfl,trivial⟩,trivial⟩,by dsimp only;omega⟩,⟨Nat.le_refl _,by unfold V6;omega⟩,by rw[Nat.zero_add];exact Y8 hk,by unfold Lt;omega,by unfold Le;omega,⟨⟨rfl,Z9 _ _⟩,⟨rfl,Z9 _ _⟩,rfl,⟨rfl,Z9 _ _⟩,rfl,⟨rfl,Z9 _ _⟩,rfl,⟨rfl,Z9 _ _⟩,rfl,rfl,⟨by rw[List.length_set];omega,fun j _=> ?_⟩,⟨rfl,Z9 _ _⟩,⟨rfl,Z9 _ _⟩,rfl,trivial⟩,rfl,trivial⟩
 rw[Int.toNat_natCast,Nat.zero_add,b99];exact b78 hk j
end Go.Proofs.YtokaojbaacnngaaGreat

