/- A part of the proof. -/
import Derived.Test.YtghgljelnhfihaaGreatD4
namespace Go.Proofs.YtghgljelnhfihaaGreat
set_option maxRecDepth 100000
open Go.SS

def zC(a:List UInt8)(at0:Nat)(lo hi lsn:Int)(i:Nat):Bool:=
 !V9 (B3 a (at0+2*i)) lo hi|| !V9 (B3 a (at0+2*i+1)) 1 (lsn-1)||(decide ((i:Int)>0)&&decide (B3 a (at0+2*(i-1))≥B3 a (at0+2*i)))
def ckS(a:List UInt8)(lsn:Int):Bool:=
 xA a&&decide (yK a<=8)&&decide (o6 a<=10)&& !anyI (yK a) (zC a 1 0 7 lsn)&& !anyI (o6 a) (zC a (2+2*T2 a) 1 60 lsn)
def b3r(a:List UInt8)(n:Int):Prop:=a.length<1000000000000/\ -1000000000000<=n/\n<=1000000000000
def fI:List T->Option (T×Option Prop)
 | [.agg [.int .i64 e,.int .i64 l,.int .i64 t,.int .i64 k,.int .i64 p,.int .i64 n,.int .i64 g,.int .i64 s,.str b,.str a]]=>some (.bool (ckS a l),some (b3r a l))
 |_=>none
def a91:Con:=.pure fI
def a7r(r:Rec):Nat->Ann
 |1=>.one (V1 (o6 r.a) (zC r.a (2+2*T2 r.a) 1 60 r.l)) (λx=>⟨[(1,.ref 0 0 0),(4,.sl 2 (o6 r.a) (W9 r.a (2+2*T2 r.a))),(7,.int .i64 x.1)],[some (.arr true 1000000 10 1 λ_=>r.ts)]⟩) (λx=>o6 r.a-x.1) [.arr 0] [.arr 0] (λ_=>Y5)
 |_=>.none
def a7S(r:Rec):Nat->Ann
 |0=>.one (V1 (yK r.a) (zC r.a 1 0 7 r.l)) (λx=>⟨[(1,.ref 0 0 0),(3,.sl 2 (yK r.a) (W9 r.a 1)),(4,.sl 2 (o6 r.a) (W9 r.a (2+2*T2 r.a))),(6,.int .i64 x.1)],[some (.arr true 1000000 10 1 λ_=>r.ts)]⟩) (λx=>yK r.a-x.1) [.arr 0] [.arr 0] (λ_=>a7r r)
 |_=>.none
theorem a8l(r:Rec)(h:
  O6 r.a.length/\((!xA r.a||decide ((↑(yK r.a):Int)>(8:Int))||decide ((↑(o6 r.a):Int)>(10:Int)))=true->false=ckS r.a r.l)/\((!xA r.a||decide ((↑(yK r.a):Int)>(8:Int))||decide ((↑(o6 r.a):
  Int)>(10:Int)))=false->(∃(x:V1 (yK r.a) (zC r.a 1 (0:Int) (7:Int) r.l)),((0=0/\0=0)/\(yK r.a=yK r.a/\Z6 (yK r.a) (W9 r.a 1) (W9 r.a 1))/\(o6 r.a=o6 r.a/\Z6 (o6 r.a) (W9
  r.a (2+2*T2 r.a)) (W9 r.a (2+2*T2 r.a)))/\(0:Int)=(x.val:Int)/\True)/\(1=1/\Z6 1 (λ(x:Nat)=>[T.int .i64 r.e,T.int .i64 r.l,T.int .i64 r.t,T.int .i64 r.k,T.int .i64 r.p,T.int .i64 r.n,T.int
  .i64 r.g,T.int .i64 r.s,T.str r.b,T.str r.a]) λ(x:Nat)=>[T.int .i64 r.e,T.int .i64 r.l,T.int .i64 r.t,T.int .i64 r.k,T.int .i64 r.p,T.int .i64 r.n,T.int .i64 r.g,T.int .i64 r.s,T.str r.b,T.str r.a])/\True)/\∀
  (x:V1 (yK r.a) (zC r.a 1 (0:Int) (7:Int) r.l)),(decide ((x.val:Int)<(↑(yK r.a):Int))=true->V3 (x.val:Int) (yK r.a)/\V3 (0:Int) 2/\((!V9 (B3 r.a (1+2*(x.val:Int).toNat)) (0:Int) (7:Int))=false
  ->V3 (x.val:Int) (yK r.a))/\((!V9 (B3 r.a (1+2*(x.val:Int).toNat)) (0:Int) (7:Int))=false->V3 (1:Int) 2)/\((!V9 (B3 r.a (1+2*(x.val:Int).toNat)) (0:Int) (7:Int))=false->W7 .i64 (r.l- (1:Int)))
  /\((!V9 (B3 r.a (1+2*(x.val:Int).toNat)) (0:Int) (7:Int)|| !V9 (B3 r.a (1+2*(x.val:Int).toNat+1)) (1:Int) (r.l- (1:Int)))=false->decide ((x.val:Int)>(0:Int))=true->W7 .i64 ((x.val:Int)- (1:
  Int)))/\((!V9 (B3 r.a (1+2*(x.val:Int).toNat)) (0:Int) (7:Int)|| !V9 (B3 r.a (1+2*(x.val:Int).toNat+1)) (1:Int) (r.l- (1:Int)))=false->decide ((x.val:Int)>(0:Int))=true->V3 ((x.val:Int)- (1:
  Int)) (yK r.a))/\((!V9 (B3 r.a (1+2*(x.val:Int).toNat)) (0:Int) (7:Int)|| !V9 (B3 r.a (1+2*(x.val:Int).toNat+1)) (1:Int) (r.l- (1:Int)))=false->decide ((x.val:Int)>(0:Int))=true->V3 (0:Int)
  2)/\((!V9 (B3 r.a (1+2*(x.val:Int).toNat)) (0:Int) (7:Int)|| !V9 (B3 r.a (1+2*(x.val:Int).toNat+1)) (1:Int) (r.l- (1:Int)))=false->decide ((x.val:Int)>(0:Int))=true->V3 (x.val:Int) (yK r.a))/\
  ((!V9 (B3 r.a (1+2*(x.val:Int).toNat)) (0:Int) (7:Int)|| !V9 (B3 r.a (1+2*(x.val:Int).toNat+1)) (1:Int) (r.l- (1:Int)))=false->decide ((x.val:Int)>(0:Int))=true->V3 (0:Int) 2)/\((!V9 (B3 r.a
  (1+2*(x.val:Int).toNat)) (0:Int) (7:Int)|| !V9 (B3 r.a (1+2*(x.val:Int).toNat+1)) (1:Int) (r.l- (1:Int))||decide ((x.val:Int)>(0:Int))&&decide (B3 r.a (1+2*((x.val:Int)- (1:Int)).toNat)≥B3
  r.a (1+2*(x.val:Int).toNat)))=true->false=ckS r.a r.l)/\((!V9 (B3 r.a (1+2*(x.val:Int).toNat)) (0:Int) (7:Int)|| !V9 (B3 r.a (1+2*(x.val:Int).toNat+1)) (1:Int) (r.l- (1:Int))||decide
  ((x.val:Int)>(0:Int))&&decide (B3 r.a (1+2*((x.val:Int)- (1:Int)).toNat)≥B3 r.a (1+2*(x.val:Int).toNat)))=false->W7 .i64 ((x.val:Int)+(1:Int))/\∃(y:V1 (yK r.a) (zC r.a 1 (0:Int) (7:Int)
  r.l)),(((0=0/\0=0)/\(yK r.a=yK r.a/\Z6 (yK r.a) (W9 r.a 1) (W9 r.a 1))/\(o6 r.a=o6 r.a/\Z6 (o6 r.a) (W9 r.a (2+2*T2 r.a)) (W9 r.a (2+2*T2 r.a)))/\(x.val:Int)+(1:Int)=
  (y.val:Int)/\True)/\(1=1/\Z6 1 (λ(x:Nat)=>[T.int .i64 r.e,T.int .i64 r.l,T.int .i64 r.t,T.int .i64 r.k,T.int .i64 r.p,T.int .i64 r.n,T.int .i64 r.g,T.int .i64 r.s,T.str r.b,T.str r.a]) λ(x:Nat)=>
  [T.int .i64 r.e,T.int .i64 r.l,T.int .i64 r.t,T.int .i64 r.k,T.int .i64 r.p,T.int .i64 r.n,T.int .i64 r.g,T.int .i64 r.s,T.str r.b,T.str r.a])/\True)/\Lt (yK r.a-y.val) (yK r.a-x.val)))/\(decide ((x.val:Int)<
  (↑(yK r.a):Int))=false->(∃(x:V1 (o6 r.a) (zC r.a (2+2*T2 r.a) (1:Int) (60:Int) r.l)),((0=0/\0=0)/\(o6 r.a=o6 r.a/\Z6 (o6 r.a) (W9 r.a (2+2*T2 r.a)) (W9 r.a (2+2*T2 r.a)))
  /\(0:Int)=(x.val:Int)/\True)/\(1=1/\Z6 1 (λ(x:Nat)=>[T.int .i64 r.e,T.int .i64 r.l,T.int .i64 r.t,T.int .i64 r.k,T.int .i64 r.p,T.int .i64 r.n,T.int .i64 r.g,T.int .i64 r.s,T.str r.b,T.str r.a]) λ(x
  :Nat)=>[T.int .i64 r.e,T.int .i64 r.l,T.int .i64 r.t,T.int .i64 r.k,T.int .i64 r.p,T.int .i64 r.n,T.int .i64 r.g,T.int .i64 r.s,T.str r.b,T.str r.a])/\True)/\∀(x:V1 (o6 r.a) (zC r.a (2+2*T2 r.a) (1:Int)
  (60:Int) r.l)),(decide ((x.val:Int)<(↑(o6 r.a):Int))=true->V3 (x.val:Int) (o6 r.a)/\V3 (0:Int) 2/\((!V9 (B3 r.a (2+2*T2 r.a+2*(x.val:Int).toNat)) (1:Int) (60:Int))=false->V3 (x.val:Int) (o6
  r.a))/\((!V9 (B3 r.a (2+2*T2 r.a+2*(x.val:Int).toNat)) (1:Int) (60:Int))=false->V3 (1:Int) 2)/\((!V9 (B3 r.a (2+2*T2 r.a+2*(x.val:Int).toNat)) (1:Int) (60:Int))=false->W7 .i64 (r.l- (1:
  Int)))/\((!V9 (B3 r.a (2+2*T2 r.a+2*(x.val:Int).toNat)) (1:Int) (60:Int)|| !V9 (B3 r.a (2+2*T2 r.a+2*(x.val:Int).toNat+1)) (1:Int) (r.l- (1:Int)))=false->decide ((x.val:Int)>(0:Int))=
  true->W7 .i64 ((x.val:Int)- (1:Int)))/\((!V9 (B3 r.a (2+2*T2 r.a+2*(x.val:Int).toNat)) (1:Int) (60:Int)|| !V9 (B3 r.a (2+2*T2 r.a+2*(x.val:Int).toNat+1)) (1:Int) (r.l- (1:Int)))=false->
  decide ((x.val:Int)>(0:Int))=true->V3 ((x.val:Int)- (1:Int)) (o6 r.a))/\((!V9 (B3 r.a (2+2*T2 r.a+2*(x.val:Int).toNat)) (1:Int) (60:Int)|| !V9 (B3 r.a (2+2*T2 r.a+2*(x.val:Int).toNat+1))
  (1:Int) (r.l- (1:Int)))=false->decide ((x.val:Int)>(0:Int))=true->V3 (0:Int) 2)/\((!V9 (B3 r.a (2+2*T2 r.a+2*(x.val:Int).toNat)) (1:Int) (60:Int)|| !V9 (B3 r.a (2+2*T2 r.a+2*
  (x.val:Int).toNat+1)) (1:Int) (r.l- (1:Int)))=false->decide ((x.val:Int)>(0:Int))=true->V3 (x.val:Int) (o6 r.a))/\((!V9 (B3 r.a (2+2*T2 r.a+2*(x.val:Int).toNat)) (1:Int) (60:Int)|| !V9 (B3 r.a
  (2+2*T2 r.a+2*(x.val:Int).toNat+1)) (1:Int) (r.l- (1:Int)))=false->decide ((x.val:Int)>(0:Int))=true->V3 (0:Int) 2)/\((!V9 (B3 r.a (2+2*T2 r.a+2*(x.val:Int).toNat)) (1:Int) (60:Int)||
  !V9 (B3 r.a (2+2*T2 r.a+2*(x.val:Int).toNat+1)) (1:Int) (r.l- (1:Int))||decide ((x.val:Int)>(0:Int))&&decide (B3 r.a (2+2*T2 r.a+2*((x.val:Int)- (1:Int)).toNat)≥B3 r.a (2+2*T2 r.a+2
  *(x.val:Int).toNat)))=true->false=ckS r.a r.l)/\((!V9 (B3 r.a (2+2*T2 r.a+2*(x.val:Int).toNat)) (1:Int) (60:Int)|| !V9 (B3 r.a (2+2*T2 r.a+2*(x.val:Int).toNat+1)) (1:Int) (r.l- (1:Int))||
  decide ((x.val:Int)>(0:Int))&&decide (B3 r.a (2+2*T2 r.a+2*((x.val:Int)- (1:Int)).toNat)≥B3 r.a (2+2*T2 r.a+2*(x.val:Int).toNat)))=false->W7 .i64 ((x.val:Int)+(1:Int))/\∃(y:V1 (o6 r.a)
  (zC r.a (2+2*T2 r.a) (1:Int) (60:Int) r.l)),(((0=0/\0=0)/\(o6 r.a=o6 r.a/\Z6 (o6 r.a) (W9 r.a (2+2*T2 r.a)) (W9 r.a (2+2*T2 r.a)))/\(x.val:Int)+(1:Int)=(y.val:Int)/\True)/\
  (1=1/\Z6 1 (λ(x:Nat)=>[T.int .i64 r.e,T.int .i64 r.l,T.int .i64 r.t,T.int .i64 r.k,T.int .i64 r.p,T.int .i64 r.n,T.int .i64 r.g,T.int .i64 r.s,T.str r.b,T.str r.a]) λ(x:Nat)=>[T.int .i64 r.e,T.int
  .i64 r.l,T.int .i64 r.t,T.int .i64 r.k,T.int .i64 r.p,T.int .i64 r.n,T.int .i64 r.g,T.int .i64 r.s,T.str r.b,T.str r.a])/\True)/\Lt (o6 r.a-y.val) (o6 r.a-x.val)))/\(decide ((x.val:Int)<(↑(o6 r.a):Int))=
  false->true=ckS r.a r.l)))):
  U1 Tryz.prog 164 [.agg r.ts] (.bool (ckS r.a r.l)):=
 Q5 (gC dA (gC E3 gN)) Tryz.func164 (a7S r) h
theorem a6M(a:List UInt8)(at0:Nat)(lo hi lsn:Int)(i:Nat):
  zC a at0 lo hi lsn i=(!V9 (B3 a (at0+2*(i:Int).toNat)) lo hi|| !V9 (B3 a (at0+2*(i:Int).toNat+1)) 1 (lsn-1)||(decide ((i:Int)>0)&&decide (B3 a (at0+2*((i:Int)-1).toNat)≥B3 a (at0+2*(i:Int).toNat)))):=by
 unfold zC;rw[F5,show((i:Int)-1).toNat=i-1 by omega]
theorem a5K:GK 164 a91:=gk Tryz.func164<|by
 intro args res p h hp;unfold fI at h;split at h
 case h_2=>cases h
 rename_i e l t k p n g s b a;simp only[W8,T5] at h;obtain⟨rfl,rfl⟩:=h;obtain⟨hn,hl1,hl2⟩:b3r a l:=hp;have q0:yK a<=a.length:=by unfold yK;split<;>omega
 have q1:o6 a<=a.length:=by unfold o6;split<;>omega
 have r0:∀(n:Nat) (row:Nat->List T),Z6 n row row:=λn row i hi=>rfl
 refine a8l ⟨e,l,t,k,p,n,g,s,b,a⟩ ?_
 simp only[Rec.e,Rec.l,Rec.t,Rec.k,Rec.p,Rec.n,Rec.g,Rec.s,Rec.b,Rec.a];refine⟨hn,λhb=> ?_,λhb=>⟨⟨F7,⟨⟨(by first|rfl|trivial),(by first|rfl|trivial)⟩,⟨(by first|rfl|trivial),r0 _ _⟩,⟨(by first|rfl|trivial),r0 _ _⟩,(by first|rfl|trivial),trivial⟩,⟨(by first|rfl|trivial),r0 _ _⟩,trivial⟩,λx=>⟨λhc=> ?_,λhc=> ?_⟩⟩⟩
 ·unfold ckS;simp only[pP,xP,k4] at hb;rcases hb with(hb|hb)|hb
  ·rw[hb];rfl
  ·rw[show decide (yK a<=8)=false from uV (by omega)];simp
  ·rw[show decide (o6 a<=10)=false from uV (by omega)];simp
 ·have hlt:=X6 hc;have i2:V3 0 2:=⟨by omega,by omega⟩
  have i2':V3 1 2:=⟨by omega,by omega⟩
  rw[←a6M];refine⟨X8 hlt,i2,λ_=>X8 hlt,λ_=>i2',λ_=>Z4 (by omega),λ_ _=>Z4 (by omega),λ_ hh=> ?_,λ_ _=>i2,λ_ _=>X8 hlt,λ_ _=>i2,λhp=> ?_,λhp=>⟨U5 hlt (by omega),x.succ hlt hp,⟨⟨⟨(by first|rfl|trivial),(by first|rfl|trivial)⟩,⟨(by first|rfl|trivial),r0 _ _⟩,⟨(by first|rfl|trivial),r0 _ _⟩,(by first|rfl|trivial),trivial⟩,⟨(by first|rfl|trivial),r0 _ _⟩,trivial⟩,V1.ext_lt hlt⟩⟩
  ·have:=C7 hh;exact⟨by omega,by omega⟩
  ·have:anyI (yK a) (zC a 1 0 7 l)=true:=Q9.2 ⟨x.1,hlt,hp⟩;simp[ckS,this]
 ·have hge:=X4 hc;have g0:anyI (yK a) (zC a 1 0 7 l)=false:=by
   rw[Bool.eq_false_iff,ne_eq,Q9];rintro⟨i,hi,h⟩;rw[x.2.2 i (by omega)] at h
   cases h
  refine⟨⟨F7,⟨⟨(by first|rfl|trivial),(by first|rfl|trivial)⟩,⟨(by first|rfl|trivial),r0 _ _⟩,(by first|rfl|trivial),trivial⟩,⟨(by first|rfl|trivial),r0 _ _⟩,trivial⟩,λy=>⟨λhc=> ?_,λhc=> ?_⟩⟩
  ·have hlt:=X6 hc;have i2:V3 0 2:=⟨by omega,by omega⟩
   have i2':V3 1 2:=⟨by omega,by omega⟩
   rw[←a6M];refine⟨X8 hlt,i2,λ_=>X8 hlt,λ_=>i2',λ_=>Z4 (by omega),λ_ _=>Z4 (by omega),λ_ hh=> ?_,λ_ _=>i2,λ_ _=>X8 hlt,λ_ _=>i2,λhp=> ?_,λhp=>⟨U5 hlt (by omega),y.succ hlt hp,⟨⟨⟨(by first|rfl|trivial),(by first|rfl|trivial)⟩,⟨(by first|rfl|trivial),r0 _ _⟩,(by first|rfl|trivial),trivial⟩,⟨(by first|rfl|trivial),r0 _ _⟩,trivial⟩,V1.ext_lt hlt⟩⟩
   ·have:=C7 hh;exact⟨by omega,by omega⟩
   ·have:anyI (o6 a) (zC a (2+2*T2 a) 1 60 l)=true:=Q9.2 ⟨y.1,hlt,hp⟩;simp[ckS,this]
  ·have hge:=X4 hc;have g1:anyI (o6 a) (zC a (2+2*T2 a) 1 60 l)=false:=by
    rw[Bool.eq_false_iff,ne_eq,Q9];rintro⟨i,hi,h⟩;rw[y.2.2 i (by omega)] at h
    cases h
   simp only[yP,yT,rX] at hb;unfold ckS;rw[g0,g1,hb.1.1,show decide (yK a<=8)=true from pO (by omega),show decide (o6 a<=10)=true from pO (by omega)]
   rfl
end Go.Proofs.YtghgljelnhfihaaGreat

namespace Go.Proofs.YtghgljelnhfihaaGreat
set_option maxRecDepth 100000
open Go.SS

theorem tG(l:List UInt8)(k:Nat):numR (l.drop k)=B3 l k:=by
 unfold numR B3;simp[P8]
theorem b3B(l:List UInt8)(k i:Nat):B3 (l.drop k) i=B3 l (k+i):=by
 unfold B3;simp[P8]
theorem a41(l:List UInt8)(k:Nat):0<=B3 l k:=by unfold B3;omega
def a1u(l:List UInt8)(lo:Int)(i:Nat):Int:=if i=0 then lo-1 else B3 l (1+2*(i-1))
def okP(l:List UInt8)(lo hi lsn:Int)(i:Nat):Bool:=V9 (B3 l (1+2*i)) (a1u l lo i+1) hi&&V9 (B3 l (2+2*i)) 1 (lsn-1)
theorem b7s(most lo hi lsn:Int)(l:List UInt8)(fl:Bool)(i:Nat):
  RdSt.go hi lsn (wL most lo l fl) i=⟨l.drop (1+2*i),fl||decide (l.length<1+2*i),decide (numR l<=most)&&(List.range i).all (okP l lo hi lsn),a1u l lo i⟩:=by
 induction i with
 |zero=>
  simp only[RdSt.go,wL,a1u,if_true,List.range_zero,List.all_nil,Bool.and_true,Nat.mul_zero,Nat.add_zero];cases l<;>simp
 |succ i ih=>
  simp only[RdSt.go];rw[ih];simp only[RdSt.step];have e1:((l.drop (1+2*i)).drop 1).drop 1=l.drop (1+2*(i+1)):=by
   rw[List.drop_drop,List.drop_drop];congr 1
  have e2:numR ((l.drop (1+2*i)).drop 1)=B3 l (2+2*i):=by
   rw[List.drop_drop,tG];congr 1
   omega
  have e3:a1u l lo (i+1)=numR (l.drop (1+2*i)):=by
   rw[tG];simp[a1u]
  have e4:(List.range (i+1)).all (okP l lo hi lsn)=((List.range i).all (okP l lo hi lsn)&&okP l lo hi lsn i):=by
   rw[List.range_succ,List.all_append];simp
  rw[e1,e2,e3,e4,tG];congr 1
  ·have:(l.drop (1+2*i)).isEmpty=decide (l.length<=1+2*i):=by
    rw[Bool.eq_iff_iff];simp
   have h2:((l.drop (1+2*i)).drop 1).isEmpty=decide (l.length<=1+2*i+1):=by
    rw[Bool.eq_iff_iff];simp
   rw[this,h2,Bool.or_assoc,Bool.or_assoc];congr 1
   rw[Bool.eq_iff_iff];simp;omega
  ·unfold okP;rw[Bool.and_assoc,Bool.and_assoc]
theorem a7a{n:Nat}{p q:Nat->Bool}(h:∀i,p i= !q i):(List.range n).all p= !anyI n q:=by
 unfold anyI;rw[List.not_any_eq_all_not];congr 1
 funext i
 rw[h i]
theorem a6C(l:List UInt8)(lo hi lsn:Int)(h1:lo=0∨lo=1)(i:Nat):okP l lo hi lsn i= !zC l 1 lo hi lsn i:=by
 have b1:=a41 l (1+2*(i-1));have b2:=a41 l (1+2*i);unfold okP zC a1u V9;rw[show 1+2*i+1=2+2*i by omega]
 rw[Bool.eq_iff_iff];by_cases hi0:i=0
 ·subst hi0;simp
 ·simp[hi0];omega
theorem a9U(a:List UInt8)(k:Nat)(lo hi lsn:Int)(i:Nat):zC (a.drop k) 1 lo hi lsn i=zC a (k+1) lo hi lsn i:=by
 unfold zC;simp only[b3B];rw[show k+(1+2*i)=k+1+2*i by omega,show k+(1+2*i+1)=k+1+2*i+1 by omega,show k+(1+2*(i-1))=k+1+2*(i-1) by omega]
theorem b8w(a:List UInt8)(lsn:Int):a2m a lsn=ckS a lsn:=by
 have n0:(numR a).toNat=T2 a:=by simp[numR,T2,B3]
 have n0':numR a=(T2 a:Int):=by have:=w9 a;omega
 have n1:numR (a.drop (1+2*T2 a))=(v5 a:Int):=by rw[tG];have:=a41 a (1+2*T2 a);simp[v5];omega
 have n1':(numR (a.drop (1+2*T2 a))).toNat=v5 a:=by omega
 have E1:O7 8 0 7 lsn a false=⟨a.drop (1+2*T2 a),decide (a.length<1+2*T2 a),decide ((T2 a:Int)<=8)&& !anyI (T2 a) (zC a 1 0 7 lsn),a1u a 0 (T2 a)⟩:=by
  unfold O7;rw[b7s,n0,n0',a7a (a6C a 0 7 lsn (.inl rfl)),Bool.false_or]
 have E2:O7 10 1 60 lsn (a.drop (1+2*T2 a)) (decide (a.length<1+2*T2 a))=⟨a.drop (2+2*T2 a+2*v5 a),decide (a.length<2+2*T2 a+2*v5 a),decide ((v5 a:Int)<=10)&& !anyI (v5 a) (zC a (2+2*T2 a) 1 60 lsn),a1u (a.drop (1+2*T2 a)) 1 (v5 a)⟩:=by
  unfold O7;rw[b7s,n1',n1,a7a (a6C (a.drop (1+2*T2 a)) 1 60 lsn (.inr rfl))];congr 1
  ·rw[List.drop_drop];congr 1;omega
  ·rw[Bool.eq_iff_iff];simp;omega
  ·congr 2
   unfold anyI;congr 1
   funext i
   rw[a9U];congr 1
   omega
 unfold a2m;rw[E1];simp only;rw[E2];simp only;have hE:(a.drop (2+2*T2 a+2*v5 a)).isEmpty=decide (a.length<=2+2*T2 a+2*v5 a):=by rw[Bool.eq_iff_iff];simp
 rw[hE];by_cases hr:0<a.length/\1+2*T2 a<a.length/\2+2*T2 a+2*v5 a=a.length
 ·have c0:yK a=T2 a:=by unfold yK;rw[if_pos ⟨hr.1,by omega⟩]
  have c1:o6 a=v5 a:=by unfold o6;rw[if_pos ⟨hr.1,hr.2.1,by omega⟩]
  unfold ckS;rw[show xA a=true from pO hr,c0,c1]
  rw[show decide (a.length<1+2*T2 a)=false from uV (by omega),show decide (a.length<2+2*T2 a+2*v5 a)=false from uV (by omega),show decide (a.length<=2+2*T2 a+2*v5 a)=true from pO (by omega)]
  rw[show decide ((T2 a:Int)<=8)=decide (T2 a<=8) from decide_eq_decide.2 (by omega),show decide ((v5 a:Int)<=10)=decide (v5 a<=10) from decide_eq_decide.2 (by omega)]
  generalize anyI (T2 a) _=x;generalize anyI (v5 a) _=y;generalize decide (T2 a<=8)=u;generalize decide (v5 a<=10)=v;cases x<;>cases y<;>cases u<;>cases v<;>rfl
 ·have:ckS a lsn=false:=by
   unfold ckS;rw[show xA a=false from uV hr]
   rfl
  rw[this];by_cases h1:a.length<2+2*T2 a+2*v5 a
  ·rw[show decide (a.length<2+2*T2 a+2*v5 a)=true from pO h1]
   simp
  ·have h2:¬a.length<=2+2*T2 a+2*v5 a:=by omega
   rw[show decide (a.length<=2+2*T2 a+2*v5 a)=false from uV h2]
   simp

noncomputable def nX:List T->Option (T×Option Prop)
 | [.agg [.int .i64 e,.int .i64 l,.int .i64 t,.int .i64 k,.int .i64 p,.int .i64 n,.int .i64 g,.int .i64 s,.str b,.str a]]=>some (.bool (R1 ⟨e,l,t,k,p,n,g,s,b,a⟩),some (O6 a.length))
 |_=>none
noncomputable def a3a:Con:=.pure nX
theorem a2l(r:Rec)(x:Bool)(h:
  ((!V9 r.e (1:Int) (60:Int)|| !V9 r.l (1:Int) (60:Int)|| !V9 r.k (1:Int) (6:Int))=false->W7 .i64 (r.l- (1:Int)))/\((!V9 r.e (1:Int) (60:Int)|| !V9 r.l (1:Int) (60:Int)|| !V9 r.k (1:Int) (6:
  Int)|| !V9 r.p (0:Int) (r.l- (1:Int)))=false->W7 .i64 (r.l- (1:Int)))/\((!V9 r.e (1:Int) (60:Int)|| !V9 r.l (1:Int) (60:Int)|| !V9 r.k (1:Int) (6:Int)|| !V9 r.p (0:Int) (r.l- (1:Int))|| !V9
  r.n (0:Int) (r.l- (1:Int))|| !V9 r.g (0:Int) (7:Int)|| !V9 r.s (0:Int) (3:Int)||decide ((r.b.length:Int)>(30:Int)))=true->false=x)/\((!V9 r.e (1:Int) (60:Int)|| !V9 r.l (1:Int) (60:Int)||
  !V9 r.k (1:Int) (6:Int)|| !V9 r.p (0:Int) (r.l- (1:Int))|| !V9 r.n (0:Int) (r.l- (1:Int))|| !V9 r.g (0:Int) (7:Int)|| !V9 r.s (0:Int) (3:Int)||decide ((r.b.length:Int)>(30:Int)))=false->
  ((r.k==(6:Int))=true->((r.t==(0:Int)&&r.p==(0:Int)&&r.n==(0:Int)&&r.g==(0:Int)&&r.s==(0:Int)&&r.b==[])=true->b3r r.a r.l)/\(r.t==(0:Int)&&r.p==(0:Int)&&r.n==(0:Int)&&
  r.g==(0:Int)&&r.s==(0:Int)&&r.b==[]&&ckS r.a r.l)=x)/\((r.k==(6:Int))=false->((!V9 r.t (1:Int) (60:Int)||decide ((r.a.length:Int)>(30:Int)))=true->false=x)/\((!V9 r.t (1:Int) (60:
  Int)||decide ((r.a.length:Int)>(30:Int)))=false->((!(r.k==(2:Int)||r.k==(3:Int))&&(r.g !=(0:Int)||r.s !=(0:Int)|| !r.b==[]|| !r.a==[])||r.k !=(3:Int)&&r.n !=(0:Int)||r.k==(3:Int)
  && !r.b==[])=true->false=x)/\((!(r.k==(2:Int)||r.k==(3:Int))&&(r.g !=(0:Int)||r.s !=(0:Int)|| !r.b==[]|| !r.a==[])||r.k !=(3:Int)&&r.n !=(0:Int)||r.k==(3:Int)&& !r.b==[])=
  false->((r.k==(1:Int))==(r.p==(0:Int)))=x))))):
  U1 Tryz.prog 78 [.agg r.ts] (.bool x):=
 Q5 (gC a5K (gC E3 gN)) Tryz.func78 Y5 h
theorem c1e{p k a b:Int}:((k==b)=(p==a))↔(k=b↔p=a):=by
 rw[Bool.eq_iff_iff,beq_iff_eq,beq_iff_eq]
theorem pT:GK 78 a3a:=gk Tryz.func78<|by
 intro args res p h hp;unfold nX at h;split at h
 case h_2=>cases h
 rename_i e l t k p n g s b a;simp only[W8,T5] at h;obtain⟨rfl,rfl⟩:=h;have hp:a.length<1000000000000:=hp;refine a2l ⟨e,l,t,k,p,n,g,s,b,a⟩ _ ?_
 simp only[Rec.e,Rec.l,Rec.t,Rec.k,Rec.p,Rec.n,Rec.g,Rec.s,Rec.b,Rec.a];have hr:∀{q:Bool},(!V9 e 1 60|| !V9 l 1 60||q)=false->W7 .i64 (l-1):=by
  intro q h;simp only[yP,yT,V9,L3,k4] at h;exact Z4 (by omega)
 refine⟨hr,λh=>hr (q:= !V9 k 1 6|| !V9 p 0 (l-1)) (by rw[←h];simp[Bool.or_assoc]),λh=> ?_,λh=> ?_⟩
 ·refine(wQ ?_).symm
  simp only[pP,xP,V9,Bool.and_eq_false_iff,rX,k4] at h;unfold F8;simp only;omega
 simp only[yP,yT,V9,L3,k4,rX] at h;by_cases h6:k=6
 ·subst h6;refine⟨λ_=>⟨λ_=>⟨hp,by omega,by omega⟩,tH ?_⟩,λh=>by simp at h⟩
  rw[R7,←b8w];simp only[F8,k4,L3,beq_iff_eq,true_and,and_true];constructor
  ·rintro⟨⟨⟨⟨⟨⟨rfl,rfl⟩,rfl⟩,rfl⟩,rfl⟩,rfl⟩,hc⟩;simp[hc];omega
  ·rintro⟨_,_,_,_,_,_,_,_,_,_,_,_,_,_,_,hh,_⟩;obtain⟨rfl,rfl,rfl,rfl,rfl,rfl,hc⟩:=hh trivial;simp[hc]
 refine⟨λh=>absurd (by simpa using h) h6,λ_=>⟨λhb=> ?_,λhb=>⟨λhc=> ?_,λhc=>tH ?_⟩⟩⟩
 ·refine(wQ ?_).symm
  simp[V9] at hb;unfold F8;simp only;omega
 ·refine(wQ ?_).symm
  unfold F8;simp only;rintro⟨_,_,_,_,_,_,_,_,_,_,_,_,_,_,_,_,hh⟩;obtain⟨c1,c2,c3,c4,c5,c6,c7⟩:=hh h6;simp only[pP,L3,xP,yP,beq_iff_eq,bne_iff_ne,beq_eq_false_iff_ne] at hc;rcases hc with(⟨⟨x2,x3⟩,hc⟩|⟨x3,hn⟩)|⟨x3,hn⟩
  ·obtain⟨d1,d2,d3,d4⟩:=c4 x2 x3;rcases hc with((hc|hc)|hc)|hc
   ·exact hc d1
   ·exact hc d2
   ·exact hc d3
   ·exact hc d4
  ·exact hn (c5 x3)
  ·exact hn (c6 x3)
 ·rw[R7];simp only[F8,c1e,true_and,and_true,beq_iff_eq];simp[V9] at hb hc;constructor
  ·intro hk;refine⟨by omega,by omega,by omega,by omega,by omega,by omega,by omega,by omega,by omega,by omega,by omega,by omega,by omega,by omega,by omega,λh=>absurd h h6,λ_=>⟨by omega,by omega,by omega,λx2 x3=> ?_,λx3=> ?_,λx3=> ?_,hk⟩⟩
   ·have:=hc.1.1 x2 x3;exact⟨this.1.1.1,this.1.1.2,this.1.2,this.2⟩
   ·exact hc.1.2 x3
   ·exact hc.2 x3
  ·rintro⟨_,_,_,_,_,_,_,_,_,_,_,_,_,_,_,_,hh⟩;exact(hh h6).2.2.2.2.2.2
end Go.Proofs.YtghgljelnhfihaaGreat

namespace Go.Proofs.YtghgljelnhfihaaGreat
open Go.SS

def rem(left:Int)(n:Nat):Int:=if 0<=left-n then left-n else-1
theorem m5{row:Nat->List T}{i k:Nat}{cs:List T}(h:cs.length=(row k).length):setRow row i 0 cs k=match Nat.beq k i with|true=>cs|false=>row k:=by
 rw[o8 (by omega)]
 cases Nat.beq k i
 ·rfl
 ·simp[h]
end Go.Proofs.YtghgljelnhfihaaGreat

