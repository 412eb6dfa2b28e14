/- A part of the proof. -/
import Derived.Test.YtokaojbaacnngaaGreatU1U2
import Derived.Test.YtokaojbaacnngaaGreatW7
namespace Go.Proofs.YtokaojbaacnngaaGreat
set_option maxRecDepth 100000
open Go.SS

def Eng.tn(e:Eng)(a b c d f g h i:Nat):List T:=[.osl a 0 e.s.d.sec.length,.osl b 0 e.s.d.cache.length,.bool e.s.d.armed,.osl c 0 e.s.d.keep.length,.int .i64 e.s.ep,.osl d 0 e.s.log.length,.int .i64 e.s.sure,.osl f 0 e.s.fr.length,.int .i64 e.s.hand,.bool e.up,.osl g 0 e.txs.length,.osl h 0 e.lk.held.length,.osl i 0 e.lk.waits.length,.int .i64 e.next]
def jP(l:List T):Option Ob:=some (.arr false 1000000 14 1 λ_=>l)
def Eng.bx(e:Eng)(v:Nat):Y3:=[jP (e.tn 1 2 3 4 5 6 7 8),G0 e.s.d.sec,I8 e.s.d.cache,A5 e.s.d.keep,v6 e.s.log,zS v e.s.fr e.s.fr.length,sI e.txs,sB e.lk.held,wtA e.lk.waits]
def Eng.nx(e:Eng)(v:Nat):Y3:=[jP (e.tn 9 10 11 12 13 14 15 16),none,none,none,none,none,none,none,none,G0 e.s.d.sec,I8 e.s.d.cache,A5 e.s.d.keep,v6 e.s.log,zS v e.s.fr e.s.fr.length,sI e.txs,sB e.lk.held,wtA e.lk.waits]
def a24:Eng:=⟨b9T,false,[],⟨[],[]⟩,0⟩
end Go.Proofs.YtokaojbaacnngaaGreat

namespace Go.Proofs.YtokaojbaacnngaaGreat
set_option maxRecDepth 100000
open Go.SS

def apx(s:Sto)(r:Rec):Sto:=⟨s.d,s.ep,s.log++[I3 s r],s.sure,s.fr,s.hand⟩
def wQ(e:Eng)(k:Nat)(r:Rec):Rec:={r with t:=(e.txs.getD k default).id,p:=(e.txs.getD k default).last}
def uI(e:Eng)(k:Nat)(r:Rec):Eng:={e with s:=apx e.s (wQ e k r),txs:=e.txs.set k ⟨(e.txs.getD k default).id,(e.s.log.length:Int)+1⟩}
structure AddB(e:Eng)(tx:Int)(k:Nat)(r:Rec):Prop where
 at_:U8 e.txs tx=k
 lt:k<e.txs.length
 id:(e.txs.getD k default).id=tx
 ok:R2 (I3 e.s (wQ e k r))=true
 tl:e.txs.length<=1000
 ll:e.s.log.length<=1000
 sm:SmR r
noncomputable def b8Q:Con:=.reff ⟨Eng×Int×Rec×Nat×Nat,λx=>[.ref 0 0 0,.int .i64 x.2.1,.agg x.2.2.1.ts],λx=>x.1.bx x.2.2.2.2,λx=>.agg (I3 x.1.s (wQ x.1 x.2.2.2.1 x.2.2.1)).ts,λx=>(uI x.1 x.2.2.2.1 x.2.2.1).nx x.2.2.2.2,λx=>AddB x.1 x.2.1 x.2.2.2.1 x.2.2.1⟩
theorem a5x{L:List Txn}{k:Nat}{n:Int}(hk:k<L.length)(j:Nat):setRow (X0 L) k 1 [.int .i64 n] j=X0 (L.set k ⟨(L.getD k default).id,n⟩) j:=by
 by_cases h:j=k
 ·subst h;rw[tP (by show 1<2;decide)]
  unfold X0;rw[L5 (l:=L.set j _),j_k hk]
  rfl
 ·rw[P4 (by show 1+1<=2;decide) h]
  unfold X0;rw[L5 (l:=L.set k _),j_l (Ne.symm h),←L5]
theorem b4x{s:Sto}{r:Rec}(h:R2 (I3 s r)=true):R9 s r=apx s r:=by unfold R9;rw[if_pos h];rfl
theorem cD(s:Sto)(r:Rec):(apx s r).log.getD s.log.length default=I3 s r:=by
 show(s.log++[I3 s r]).getD _ _=_;rw[L5,iA (V2 _)]
 simp
theorem b7n:GK 111 b8Q:=gk Tryz.func111<|by
 rintro⟨e,tx,r,k,v⟩ ⟨ha,hlt,hid,hok,htl,hll,hsm⟩;dsimp only at ha hlt hid hok htl hll hsm;have hl:(apx e.s (wQ e k r)).log.length=e.s.log.length+1:=by show(e.s.log++[_]).length=_;simp
 have h60:e.s.log.length<=60:=by
  have:=(Q9 _).1 hok;have:=this.2.2.2.1;have e1:(I3 e.s (wQ e k r)).l=(e.s.log.length:Int)+1:=rfl;omega
 refine C4 (gC vE (gC qZ gN)) Tryz.func111 Z0 [[.box 0,.arr 1,.arr 2,.arr 3,.arr 4,.arr 5,.arr 6,.arr 7,.arr 8,.cel 0 0,.cel 0 1,.cel 0 3,.cel 0 5,.cel 0 7,.cel 0 10,.cel 0 11,.cel 0 12]] (α:=∃(x:(Eng×Int)),((LeG e)/\((qI e x.1)/\tx=x.2/\True)/\M7 x.1.txs.length)/\W4 (U8 x.1.txs x.2) e.txs.length/\Lt (0+(U8 x.1.txs x.2).toNat) e.txs.length/\∃(x_1:a1r.ι),(((0=0/\0=0)/\(r.e=x_1.2.1.e/\r.l=x_1.2.1.l/\tx=x_1.2.1.t/\r.k=x_1.2.1.k/\(e.txs.getD (0+(U8 x.1.txs x.2).toNat) default).last=x_1.2.1.p/\r.n=x_1.2.1.n/\r.g=x_1.2.1.g/\r.s=x_1.2.1.s/\r.b=x_1.2.1.b/\r.a=x_1.2.1.a/\True)/\True)/\((1=1/\1=1/\pV e.s x_1.1)/\EqH (v) (x_1.2.2) e.s x_1.1)/\x_1.1.log.length<=60/\SmR x_1.2.1)/\Lt (0+(U8 x.1.txs x.2).toNat) e.txs.length/\Lt (0+(U8 x.1.txs x.2).toNat) e.txs.length/\X4 .i64 ((bif (0+(U8 x.1.txs x.2).toNat).beq (0+(U8 x.1.txs x.2).toNat) then(↑(R9 x_1.1 x_1.2.1).log.length:Int) else(e.txs.getD (0+(U8 x.1.txs x.2).toNat) default).last)- (1:Int))/\W4 ((bif (0+(U8 x.1.txs x.2).toNat).beq (0+(U8 x.1.txs x.2).toNat) then(↑(R9 x_1.1 x_1.2.1).log.length:Int) else(e.txs.getD (0+(U8 x.1.txs x.2).toNat) default).last)- (1:Int)) (R9 x_1.1 x_1.2.1).log.length/\Lt (0+((bif (0+(U8 x.1.txs x.2).toNat).beq (0+(U8 x.1.txs x.2).toNat) then(↑(R9 x_1.1 x_1.2.1).log.length:Int) else(e.txs.getD (0+(U8 x.1.txs x.2).toNat) default).last)- (1:Int)).toNat) (R9 x_1.1 x_1.2.1).log.length/\((((R9 x_1.1 x_1.2.1).log.getD (0+((bif (0+(U8 x.1.txs x.2).toNat).beq (0+(U8 x.1.txs x.2).toNat) then(↑(R9 x_1.1 x_1.2.1).log.length:Int) else(e.txs.getD (0+(U8 x.1.txs x.2).toNat) default).last)- (1:Int)).toNat) default).e=e.s.ep/\((R9 x_1.1 x_1.2.1).log.getD (0+((bif (0+(U8 x.1.txs x.2).toNat).beq (0+(U8 x.1.txs x.2).toNat) then(↑(R9 x_1.1 x_1.2.1).log.length:Int) else(e.txs.getD (0+(U8 x.1.txs x.2).toNat) default).last)- (1:Int)).toNat) default).l=(e.s.log.length:Int)+(1:Int)/\((R9 x_1.1 x_1.2.1).log.getD (0+((bif (0+(U8 x.1.txs x.2).toNat).beq (0+(U8 x.1.txs x.2).toNat) then(↑(R9 x_1.1 x_1.2.1).log.length:Int) else(e.txs.getD (0+(U8 x.1.txs x.2).toNat) default).last)- (1:Int)).toNat) default).t=(e.txs.getD k default).id/\((R9 x_1.1 x_1.2.1).log.getD (0+((bif (0+(U8 x.1.txs x.2).toNat).beq (0+(U8 x.1.txs x.2).toNat) then(↑(R9 x_1.1 x_1.2.1).log.length:Int) else(e.txs.getD (0+(U8 x.1.txs x.2).toNat) default).last)- (1:Int)).toNat) default).k=r.k/\((R9 x_1.1 x_1.2.1).log.getD (0+((bif (0+(U8 x.1.txs x.2).toNat).beq (0+(U8 x.1.txs x.2).toNat) then(↑(R9 x_1.1 x_1.2.1).log.length:Int) else(e.txs.getD (0+(U8 x.1.txs x.2).toNat) default).last)- (1:Int)).toNat) default).p=(e.txs.getD k default).last/\((R9 x_1.1 x_1.2.1).log.getD (0+((bif (0+(U8 x.1.txs x.2).toNat).beq (0+(U8 x.1.txs x.2).toNat) then(↑(R9 x_1.1 x_1.2.1).log.length:Int) else(e.txs.getD (0+(U8 x.1.txs x.2).toNat) default).last)- (1:Int)).toNat) default).n=r.n/\((R9 x_1.1 x_1.2.1).log.getD (0+((bif (0+(U8 x.1.txs x.2).toNat).beq (0+(U8 x.1.txs x.2).toNat) then(↑(R9 x_1.1 x_1.2.1).log.length:Int) else(e.txs.getD (0+(U8 x.1.txs x.2).toNat) default).last)- (1:Int)).toNat) default).g=r.g/\((R9 x_1.1 x_1.2.1).log.getD (0+((bif (0+(U8 x.1.txs x.2).toNat).beq (0+(U8 x.1.txs x.2).toNat) then(↑(R9 x_1.1 x_1.2.1).log.length:Int) else(e.txs.getD (0+(U8 x.1.txs x.2).toNat) default).last)- (1:Int)).toNat) default).s=r.s/\((R9 x_1.1 x_1.2.1).log.getD (0+((bif (0+(U8 x.1.txs x.2).toNat).beq (0+(U8 x.1.txs x.2).toNat) then(↑(R9 x_1.1 x_1.2.1).log.length:Int) else(e.txs.getD (0+(U8 x.1.txs x.2).toNat) default).last)- (1:Int)).toNat) default).b=r.b/\((R9 x_1.1 x_1.2.1).log.getD (0+((bif (0+(U8 x.1.txs x.2).toNat).beq (0+(U8 x.1.txs x.2).toNat) then(↑(R9 x_1.1 x_1.2.1).log.length:Int) else(e.txs.getD (0+(U8 x.1.txs x.2).toNat) default).last)- (1:Int)).toNat) default).a=r.a/\True)/\True)/\(1=1/\1=1/\(0=0/\(R9 x_1.1 x_1.2.1).d.sec.length=e.s.d.sec.length)/\(0=0/\(R9 x_1.1 x_1.2.1).d.cache.length=e.s.d.cache.length)/\(R9 x_1.1 x_1.2.1).d.armed=e.s.d.armed/\(0=0/\(R9 x_1.1 x_1.2.1).d.keep.length=e.s.d.keep.length)/\(R9 x_1.1 x_1.2.1).ep=e.s.ep/\(0=0/\(R9 x_1.1 x_1.2.1).log.length=(e.s.log++[I3 e.s (wQ e k r)]).length)/\(R9 x_1.1 x_1.2.1).sure=e.s.sure/\(0=0/\(R9 x_1.1 x_1.2.1).fr.length=e.s.fr.length)/\(R9 x_1.1 x_1.2.1).hand=e.s.hand/\e.up=e.up/\(0=0/\e.txs.length=(e.txs.set k (Txn.mk (e.txs.getD k default).id ((e.s.log.length:Int)+(1:Int)))).length)/\(0=0/\e.lk.held.length=e.lk.held.length)/\(0=0/\e.lk.waits.length=e.lk.waits.length)/\e.next=e.next/\True)/\True/\True/\True/\True/\True/\True/\True/\True/\(Y5 Z5 (R9 x_1.1 x_1.2.1).d.sec e.s.d.sec)/\(Y5 Z3 (R9 x_1.1 x_1.2.1).d.cache e.s.d.cache)/\(Y5 Y9 (R9 x_1.1 x_1.2.1).d.keep e.s.d.keep)/\(Y5 Y7 (R9 x_1.1 x_1.2.1).log (e.s.log++[I3 e.s (wQ e k r)]))/\(x_1.2.2=v/\(R9 x_1.1 x_1.2.1).fr.length=e.s.fr.length/\U9 (R9 x_1.1 x_1.2.1).fr.length (Y8 (R9 x_1.1 x_1.2.1).fr) (Y8 e.s.fr))/\(e.txs.length=(e.txs.set k (Txn.mk (e.txs.getD k default).id ((e.s.log.length:Int)+(1:Int)))).length/\Z6 e.txs.length (setRow (X0 e.txs) (0+(U8 x.1.txs x.2).toNat) 1 [T.int .i64 (↑(R9 x_1.1 x_1.2.1).log.length:Int)]) (X0 (e.txs.set k (Txn.mk (e.txs.getD k default).id ((e.s.log.length:Int)+(1:Int))))))/\(Y5 X7 e.lk.held e.lk.held)/\(Y5 W8 e.lk.waits e.lk.waits)/\True) ⟨(e,tx),⟨⟨U0 _,U0 _,U0 _,U0 _,U0 _,U0 _,U0 _,U0 _⟩,⟨⟨Z8,Z8,rfl,Z8,rfl,Z8,rfl,⟨rfl,λ_ _=>rfl⟩,rfl,rfl,Z8,Z8,Z8,Z9⟩,Z9⟩,by unfold M7;dsimp only;omega⟩,?_⟩
 dsimp only;rw[ha,u9,C3];refine⟨Y2 hlt,hlt,(e.s,wQ e k r,v),⟨⟨Z7,⟨rfl,rfl,hid.symm,rfl,rfl,rfl,rfl,rfl,rfl,Z9⟩,trivial⟩,⟨⟨rfl,rfl,Z7,Z7,rfl,Z7,rfl,Z7,rfl,Z7,Z9⟩,Z8,Z8,Z8,Z8,S2,trivial⟩,h60,hsm⟩,hlt,hlt,?_⟩
 dsimp only;rw[b4x hok,Nat.beq_refl,cond_true];have hx:(0+(((apx e.s (wQ e k r)).log.length:Int)-1).toNat)=e.s.log.length:=by omega
 rw[hx,cD];refine⟨Z4 (by omega),⟨by omega,by omega⟩,by unfold Lt;omega,⟨⟨rfl,rfl,rfl,rfl,rfl,rfl,rfl,rfl,rfl,Z9⟩,trivial⟩,⟨rfl,rfl,Z7,Z7,rfl,Z7,rfl,Z7,rfl,Z7,rfl,rfl,⟨rfl,(l9 ..).symm⟩,Z7,Z7,Z9⟩,trivial,trivial,trivial,trivial,trivial,trivial,trivial,trivial,Z8,Z8,Z8,Z8,S2,⟨(l9 ..).symm,λj _=> ?_⟩,Z8,X8⟩
 rw[a5x hlt,hl];rfl
theorem q9{e:Eng}(h:M4 e=true):L3 e.s=true/\yN e=true/\(if e.up then upE e else a0f e)=true:=by
 unfold M4 uJ at h;simp only[J6] at h;exact⟨h.1,h.2.1,h.2.2⟩
theorem b6E{e:Eng}(h:M4 e=true)(hu:e.up=true):∀i,i<e.txs.length->E4 e i=false:=by
 have h3:=(q9 h).2.2;rw[if_pos hu] at h3;unfold upE at h3;simp only[J6,wD] at h3;exact K2.1 h3.1.1.1
theorem b8T{e:Eng}(h:M4 e=true)(hu:e.up=true){i:Nat}(hi:i<e.txs.length):1<=(e.txs.getD i default).id/\(e.txs.getD i default).id<=e.next-1:=by
 have:=b6E h hu i hi;unfold E4 at this;simp only[uL,xO,L9] at this;exact this.1.1
theorem b6X{s:Sto}(h:L3 s=true):1<=s.ep/\s.ep<=60:=by
 obtain⟨⟨h1,_⟩,_⟩:=(K6 s).1 h;obtain⟨_,_,a,b,_⟩:=(w6 s).1 h1;exact⟨a,b⟩
end Go.Proofs.YtokaojbaacnngaaGreat

namespace Go.Proofs.YtokaojbaacnngaaGreat
set_option maxRecDepth 100000
open Go.SS

theorem qG{f g:Nat->List T}:W6 f 0 g=g:=funext λi=>by unfold W6;rw[show Nat.blt i 0=false from rfl];rfl
def b9F:Con:=.rel ⟨Sto×Rec,λx=>[.agg x.1.ts,.agg x.2.ts],λx=>.tup [.agg (apx x.1 x.2).ts,.int .i64 (x.1.log.length+1:Nat)],λx=>x.1.log.length<=1000⟩
theorem b6Z:GK 126 b9F:=gk Tryz.func126<|by
 rintro⟨s,r⟩ (h:s.log.length<=1000);have hl:(s.log++[I3 s r]).length=s.log.length+1:=by simp
 refine S6 (gC wS gN) Tryz.func126 Z0 (α:=X4 .i64 ((s.log.length:Int)+(1:Int))/\(Le 0 0/\V6 0 s.log.length 96)/\(Le (0+s.log.length) (0+s.log.length)/\V6 (0+s.log.length) 1 96)/\Le (0+(0+s.log.length+1)) (0+s.log.length+1)/\((Y5 Z5 s.d.sec s.d.sec)/\(Y5 Z3 s.d.cache s.d.cache)/\s.d.armed=s.d.armed/\(Y5 Y9 s.d.keep s.d.keep)/\s.ep=s.ep/\(0+s.log.length+1=(s.log++[I3 s r]).length/\Z6 (0+s.log.length+1) (W6 (W6 (λ(k:Nat)=>List.take 10 (List.drop (k*10) [])) 0 (Y7 s.log)) (0+s.log.length) λ(k:Nat)=>List.take 10 (List.drop (k*10) [T.int .i64 s.ep,T.int .i64 ((s.log.length:Int)+(1:Int)),T.int .i64 r.t,T.int .i64 r.k,T.int .i64 r.p,T.int .i64 r.n,T.int .i64 r.g,T.int .i64 r.s,T.str r.b,T.str r.a])) (Y7 (s.log++[I3 s r])))/\s.sure=s.sure/\(Y5 X3 s.fr s.fr)/\s.hand=s.hand/\True)/\(s.log.length:Int)+(1:Int)=(↑(s.log.length+1):Int)/\True) ⟨Z4 (by omega),⟨V2 _,by unfold V6;omega⟩,⟨V2 _,by unfold V6;omega⟩,by unfold Le;omega,⟨(by repeat' first|exact trivial|exact rfl|exact Z2 _ _|exact S5 _|exact U5|exact U0 _|exact V2 _|exact S7 _|refine And.intro ?_ ?_),(by repeat' first|exact trivial|exact rfl|exact Z2 _ _|exact S5 _|exact U5|exact U0 _|exact V2 _|exact S7 _|refine And.intro ?_ ?_),rfl,(by repeat' first|exact trivial|exact rfl|exact Z2 _ _|exact S5 _|exact U5|exact U0 _|exact V2 _|exact S7 _|refine And.intro ?_ ?_),rfl,⟨by omega,?_⟩,rfl,(by repeat' first|exact trivial|exact rfl|exact Z2 _ _|exact S5 _|exact U5|exact U0 _|exact V2 _|exact S7 _|refine And.intro ?_ ?_),rfl,trivial⟩,rfl,trivial⟩
 rw[C3,qG];exact oN s.log (I3 s r)
def b8L:Con:=.rfz ⟨Eng×Nat×Rec,λx=>[.agg x.1.ts,.int .i64 x.2.1,.agg x.2.2.ts],λx=>.tup [.agg (uI x.1 x.2.1 x.2.2).ts,.int .i64 (x.1.s.log.length+1:Nat)],λx=>x.2.1<x.1.txs.length/\x.1.txs.length<=1000/\x.1.s.log.length<=1000⟩
theorem b3H:GK 109 b8L:=gk Tryz.func109<|by
 rintro⟨e,k,r⟩ ⟨hk,ht,hl⟩;dsimp only at hk ht hl;refine S6 (gC b6Z (gC wS gN)) Tryz.func109 Z0 (α:=W4 (k:Int) e.txs.length/\W4 (k:Int) e.txs.length/\∃(x:(Sto×Rec)),(((yR e.s x.1)/\(r.e=x.2.e/\r.l=x.2.l/\(e.txs.getD (k:Int).toNat default).id=x.2.t/\r.k=x.2.k/\(e.txs.getD (k:Int).toNat default).last=x.2.p/\r.n=x.2.n/\r.g=x.2.g/\r.s=x.2.s/\r.b=x.2.b/\r.a=x.2.a/\True)/\True)/\x.1.log.length<=1000)/\(Le 0 0/\V6 0 e.txs.length 16)/\W4 (k:Int) (0+e.txs.length)/\Lt (0+(k:Int).toNat) (0+e.txs.length)/\Le (0+(0+e.txs.length)) (0+e.txs.length)/\((Y5 Z5 x.1.d.sec e.s.d.sec)/\(Y5 Z3 x.1.d.cache e.s.d.cache)/\x.1.d.armed=e.s.d.armed/\(Y5 Y9 x.1.d.keep e.s.d.keep)/\x.1.ep=e.s.ep/\(Y5 Y7 (x.1.log++[I3 x.1 x.2]) (e.s.log++[I3 e.s (wQ e k r)]))/\x.1.sure=e.s.sure/\(Y5 X3 x.1.fr e.s.fr)/\x.1.hand=e.s.hand/\e.up=e.up/\(0+e.txs.length=(e.txs.set k (Txn.mk (e.txs.getD k default).id ((e.s.log.length:Int)+(1:Int)))).length/\Z6 (0+e.txs.length) (setRow (W6 (λ(k:Nat)=>List.take 2 (List.drop (k*2) [])) 0 (X0 e.txs)) (0+(k:Int).toNat) 1 [T.int .i64 (↑(x.1.log.length+1):Int)]) (X0 (e.txs.set k (Txn.mk (e.txs.getD k default).id ((e.s.log.length:Int)+(1:Int))))))/\(Y5 X7 e.lk.held e.lk.held)/\(Y5 W8 e.lk.waits e.lk.waits)/\e.next=e.next/\True)/\(↑(x.1.log.length+1):Int)=(↑(e.s.log.length+1):Int)/\True) ⟨Y2 hk,Y2 hk,(e.s,wQ e k r),⟨⟨yP _,⟨rfl,rfl,by rw[u9];rfl,rfl,by rw[u9];rfl,rfl,rfl,rfl,rfl,rfl,trivial⟩,trivial⟩,by dsimp only;omega⟩,⟨V2 _,by unfold V6;omega⟩,by rw[C3];exact Y2 hk,by unfold Lt;omega,by unfold Le;omega,⟨Z8,Z8,rfl,Z8,rfl,Z8,rfl,Z8,rfl,rfl,⟨by rw[l9];omega,λj _=> ?_⟩,Z8,Z8,Z9⟩,Z9⟩
 rw[u9,C3,qG];exact a5x hk j
end Go.Proofs.YtokaojbaacnngaaGreat

