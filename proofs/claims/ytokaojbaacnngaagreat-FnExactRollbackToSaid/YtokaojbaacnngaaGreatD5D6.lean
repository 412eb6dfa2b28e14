/- A part of the proof. -/
import Derived.Test.YtokaojbaacnngaaGreatD4
namespace Go.Proofs.YtokaojbaacnngaaGreat
set_option maxRecDepth 100000
open Go.SS

def c8(a:List UInt8)(at0:Nat)(lo hi lsn:Int)(i:Nat):Bool:=
 !W2 (C7 a (at0+2*i)) lo hi|| !W2 (C7 a (at0+2*i+1)) 1 (lsn-1)||(decide ((i:Int)>0)&&decide (C7 a (at0+2*(i-1))≥C7 a (at0+2*i)))
def ckS(a:List UInt8)(lsn:Int):Bool:=
 xS a&&decide (zU a<=8)&&decide (w7 a<=10)&& !anyI (zU a) (c8 a 1 0 7 lsn)&& !anyI (w7 a) (c8 a (2+2*U3 a) 1 60 lsn)
def b2S(a:List UInt8)(n:Int):Prop:=a.length<1000000000000/\ -1000000000000<=n/\n<=1000000000000
def jC:List T->Option (T×Option Prop)
 | [.agg [.int .i64 e,.int .i64 l,.int .i64 t,.int .i64 k,.int .i64 p,.int .i64 n,.int .i64 g,.int .i64 s,.str b,.str a]]=>some (.bool (ckS a l),some (b2S a l))
 |_=>none
def a77:Con:=.pure jC
def a8q(r:Rec):Nat->Ann
 |1=>.one (V4 (w7 r.a) (c8 r.a (2+2*U3 r.a) 1 60 r.l)) (λx=>⟨[(1,.ref 0 0 0),(4,.sl 2 (w7 r.a) (X2 r.a (2+2*U3 r.a))),(7,.int .i64 x.1)],[some (.arr true 1000000 10 1 λ_=>r.ts)]⟩) (λx=>w7 r.a-x.1) [.arr 0] [.arr 0] (λ_=>Z0)
 |_=>.none
def a8d(r:Rec):Nat->Ann
 |0=>.one (V4 (zU r.a) (c8 r.a 1 0 7 r.l)) (λx=>⟨[(1,.ref 0 0 0),(3,.sl 2 (zU r.a) (X2 r.a 1)),(4,.sl 2 (w7 r.a) (X2 r.a (2+2*U3 r.a))),(6,.int .i64 x.1)],[some (.arr true 1000000 10 1 λ_=>r.ts)]⟩) (λx=>zU r.a-x.1) [.arr 0] [.arr 0] (λ_=>a8q r)
 |_=>.none
theorem a8e(r:Rec)(h:
  M7 r.a.length/\((!xS r.a||decide ((↑(zU r.a):Int)>(8:Int))||decide ((↑(w7 r.a):Int)>(10:Int)))=true->false=ckS r.a r.l)/\((!xS r.a||decide ((↑(zU r.a):Int)>(8:Int))||decide ((↑(w7 r.a):
  Int)>(10:Int)))=false->(∃(x:V4 (zU r.a) (c8 r.a 1 (0:Int) (7:Int) r.l)),((0=0/\0=0)/\(zU r.a=zU r.a/\Z6 (zU r.a) (X2 r.a 1) (X2 r.a 1))/\(w7 r.a=w7 r.a/\Z6 (w7 r.a) (X2
  r.a (2+2*U3 r.a)) (X2 r.a (2+2*U3 r.a)))/\(0:Int)=(x.val:Int)/\True)/\(1=1/\Z6 1 (λ(x:Nat)=>[T.int .i64 r.e,T.int .i64 r.l,T.int .i64 r.t,T.int .i64 r.k,T.int .i64 r.p,T.int .i64 r.n,T.int
  .i64 r.g,T.int .i64 r.s,T.str r.b,T.str r.a]) λ(x:Nat)=>[T.int .i64 r.e,T.int .i64 r.l,T.int .i64 r.t,T.int .i64 r.k,T.int .i64 r.p,T.int .i64 r.n,T.int .i64 r.g,T.int .i64 r.s,T.str r.b,T.str r.a])/\True)/\∀
  (x:V4 (zU r.a) (c8 r.a 1 (0:Int) (7:Int) r.l)),(decide ((x.val:Int)<(↑(zU r.a):Int))=true->W4 (x.val:Int) (zU r.a)/\W4 (0:Int) 2/\((!W2 (C7 r.a (1+2*(x.val:Int).toNat)) (0:Int) (7:Int))=false
  ->W4 (x.val:Int) (zU r.a))/\((!W2 (C7 r.a (1+2*(x.val:Int).toNat)) (0:Int) (7:Int))=false->W4 (1:Int) 2)/\((!W2 (C7 r.a (1+2*(x.val:Int).toNat)) (0:Int) (7:Int))=false->X4 .i64 (r.l- (1:Int)))
  /\((!W2 (C7 r.a (1+2*(x.val:Int).toNat)) (0:Int) (7:Int)|| !W2 (C7 r.a (1+2*(x.val:Int).toNat+1)) (1:Int) (r.l- (1:Int)))=false->decide ((x.val:Int)>(0:Int))=true->X4 .i64 ((x.val:Int)- (1:
  Int)))/\((!W2 (C7 r.a (1+2*(x.val:Int).toNat)) (0:Int) (7:Int)|| !W2 (C7 r.a (1+2*(x.val:Int).toNat+1)) (1:Int) (r.l- (1:Int)))=false->decide ((x.val:Int)>(0:Int))=true->W4 ((x.val:Int)- (1:
  Int)) (zU r.a))/\((!W2 (C7 r.a (1+2*(x.val:Int).toNat)) (0:Int) (7:Int)|| !W2 (C7 r.a (1+2*(x.val:Int).toNat+1)) (1:Int) (r.l- (1:Int)))=false->decide ((x.val:Int)>(0:Int))=true->W4 (0:Int)
  2)/\((!W2 (C7 r.a (1+2*(x.val:Int).toNat)) (0:Int) (7:Int)|| !W2 (C7 r.a (1+2*(x.val:Int).toNat+1)) (1:Int) (r.l- (1:Int)))=false->decide ((x.val:Int)>(0:Int))=true->W4 (x.val:Int) (zU r.a))/\
  ((!W2 (C7 r.a (1+2*(x.val:Int).toNat)) (0:Int) (7:Int)|| !W2 (C7 r.a (1+2*(x.val:Int).toNat+1)) (1:Int) (r.l- (1:Int)))=false->decide ((x.val:Int)>(0:Int))=true->W4 (0:Int) 2)/\((!W2 (C7 r.a
  (1+2*(x.val:Int).toNat)) (0:Int) (7:Int)|| !W2 (C7 r.a (1+2*(x.val:Int).toNat+1)) (1:Int) (r.l- (1:Int))||decide ((x.val:Int)>(0:Int))&&decide (C7 r.a (1+2*((x.val:Int)- (1:Int)).toNat)≥C7
  r.a (1+2*(x.val:Int).toNat)))=true->false=ckS r.a r.l)/\((!W2 (C7 r.a (1+2*(x.val:Int).toNat)) (0:Int) (7:Int)|| !W2 (C7 r.a (1+2*(x.val:Int).toNat+1)) (1:Int) (r.l- (1:Int))||decide
  ((x.val:Int)>(0:Int))&&decide (C7 r.a (1+2*((x.val:Int)- (1:Int)).toNat)≥C7 r.a (1+2*(x.val:Int).toNat)))=false->X4 .i64 ((x.val:Int)+(1:Int))/\∃(y:V4 (zU r.a) (c8 r.a 1 (0:Int) (7:Int)
  r.l)),(((0=0/\0=0)/\(zU r.a=zU r.a/\Z6 (zU r.a) (X2 r.a 1) (X2 r.a 1))/\(w7 r.a=w7 r.a/\Z6 (w7 r.a) (X2 r.a (2+2*U3 r.a)) (X2 r.a (2+2*U3 r.a)))/\(x.val:Int)+(1:Int)=
  (y.val:Int)/\True)/\(1=1/\Z6 1 (λ(x:Nat)=>[T.int .i64 r.e,T.int .i64 r.l,T.int .i64 r.t,T.int .i64 r.k,T.int .i64 r.p,T.int .i64 r.n,T.int .i64 r.g,T.int .i64 r.s,T.str r.b,T.str r.a]) λ(x:Nat)=>
  [T.int .i64 r.e,T.int .i64 r.l,T.int .i64 r.t,T.int .i64 r.k,T.int .i64 r.p,T.int .i64 r.n,T.int .i64 r.g,T.int .i64 r.s,T.str r.b,T.str r.a])/\True)/\Lt (zU r.a-y.val) (zU r.a-x.val)))/\(decide ((x.val:Int)<
  (↑(zU r.a):Int))=false->(∃(x:V4 (w7 r.a) (c8 r.a (2+2*U3 r.a) (1:Int) (60:Int) r.l)),((0=0/\0=0)/\(w7 r.a=w7 r.a/\Z6 (w7 r.a) (X2 r.a (2+2*U3 r.a)) (X2 r.a (2+2*U3 r.a)))
  /\(0:Int)=(x.val:Int)/\True)/\(1=1/\Z6 1 (λ(x:Nat)=>[T.int .i64 r.e,T.int .i64 r.l,T.int .i64 r.t,T.int .i64 r.k,T.int .i64 r.p,T.int .i64 r.n,T.int .i64 r.g,T.int .i64 r.s,T.str r.b,T.str r.a]) λ(x
  :Nat)=>[T.int .i64 r.e,T.int .i64 r.l,T.int .i64 r.t,T.int .i64 r.k,T.int .i64 r.p,T.int .i64 r.n,T.int .i64 r.g,T.int .i64 r.s,T.str r.b,T.str r.a])/\True)/\∀(x:V4 (w7 r.a) (c8 r.a (2+2*U3 r.a) (1:Int)
  (60:Int) r.l)),(decide ((x.val:Int)<(↑(w7 r.a):Int))=true->W4 (x.val:Int) (w7 r.a)/\W4 (0:Int) 2/\((!W2 (C7 r.a (2+2*U3 r.a+2*(x.val:Int).toNat)) (1:Int) (60:Int))=false->W4 (x.val:Int) (w7
  r.a))/\((!W2 (C7 r.a (2+2*U3 r.a+2*(x.val:Int).toNat)) (1:Int) (60:Int))=false->W4 (1:Int) 2)/\((!W2 (C7 r.a (2+2*U3 r.a+2*(x.val:Int).toNat)) (1:Int) (60:Int))=false->X4 .i64 (r.l- (1:
  Int)))/\((!W2 (C7 r.a (2+2*U3 r.a+2*(x.val:Int).toNat)) (1:Int) (60:Int)|| !W2 (C7 r.a (2+2*U3 r.a+2*(x.val:Int).toNat+1)) (1:Int) (r.l- (1:Int)))=false->decide ((x.val:Int)>(0:Int))=
  true->X4 .i64 ((x.val:Int)- (1:Int)))/\((!W2 (C7 r.a (2+2*U3 r.a+2*(x.val:Int).toNat)) (1:Int) (60:Int)|| !W2 (C7 r.a (2+2*U3 r.a+2*(x.val:Int).toNat+1)) (1:Int) (r.l- (1:Int)))=false->
  decide ((x.val:Int)>(0:Int))=true->W4 ((x.val:Int)- (1:Int)) (w7 r.a))/\((!W2 (C7 r.a (2+2*U3 r.a+2*(x.val:Int).toNat)) (1:Int) (60:Int)|| !W2 (C7 r.a (2+2*U3 r.a+2*(x.val:Int).toNat+1))
  (1:Int) (r.l- (1:Int)))=false->decide ((x.val:Int)>(0:Int))=true->W4 (0:Int) 2)/\((!W2 (C7 r.a (2+2*U3 r.a+2*(x.val:Int).toNat)) (1:Int) (60:Int)|| !W2 (C7 r.a (2+2*U3 r.a+2*
  (x.val:Int).toNat+1)) (1:Int) (r.l- (1:Int)))=false->decide ((x.val:Int)>(0:Int))=true->W4 (x.val:Int) (w7 r.a))/\((!W2 (C7 r.a (2+2*U3 r.a+2*(x.val:Int).toNat)) (1:Int) (60:Int)|| !W2 (C7 r.a
  (2+2*U3 r.a+2*(x.val:Int).toNat+1)) (1:Int) (r.l- (1:Int)))=false->decide ((x.val:Int)>(0:Int))=true->W4 (0:Int) 2)/\((!W2 (C7 r.a (2+2*U3 r.a+2*(x.val:Int).toNat)) (1:Int) (60:Int)||
  !W2 (C7 r.a (2+2*U3 r.a+2*(x.val:Int).toNat+1)) (1:Int) (r.l- (1:Int))||decide ((x.val:Int)>(0:Int))&&decide (C7 r.a (2+2*U3 r.a+2*((x.val:Int)- (1:Int)).toNat)≥C7 r.a (2+2*U3 r.a+2
  *(x.val:Int).toNat)))=true->false=ckS r.a r.l)/\((!W2 (C7 r.a (2+2*U3 r.a+2*(x.val:Int).toNat)) (1:Int) (60:Int)|| !W2 (C7 r.a (2+2*U3 r.a+2*(x.val:Int).toNat+1)) (1:Int) (r.l- (1:Int))||
  decide ((x.val:Int)>(0:Int))&&decide (C7 r.a (2+2*U3 r.a+2*((x.val:Int)- (1:Int)).toNat)≥C7 r.a (2+2*U3 r.a+2*(x.val:Int).toNat)))=false->X4 .i64 ((x.val:Int)+(1:Int))/\∃(y:V4 (w7 r.a)
  (c8 r.a (2+2*U3 r.a) (1:Int) (60:Int) r.l)),(((0=0/\0=0)/\(w7 r.a=w7 r.a/\Z6 (w7 r.a) (X2 r.a (2+2*U3 r.a)) (X2 r.a (2+2*U3 r.a)))/\(x.val:Int)+(1:Int)=(y.val:Int)/\True)/\
  (1=1/\Z6 1 (λ(x:Nat)=>[T.int .i64 r.e,T.int .i64 r.l,T.int .i64 r.t,T.int .i64 r.k,T.int .i64 r.p,T.int .i64 r.n,T.int .i64 r.g,T.int .i64 r.s,T.str r.b,T.str r.a]) λ(x:Nat)=>[T.int .i64 r.e,T.int
  .i64 r.l,T.int .i64 r.t,T.int .i64 r.k,T.int .i64 r.p,T.int .i64 r.n,T.int .i64 r.g,T.int .i64 r.s,T.str r.b,T.str r.a])/\True)/\Lt (w7 r.a-y.val) (w7 r.a-x.val)))/\(decide ((x.val:Int)<(↑(w7 r.a):Int))=
  false->true=ckS r.a r.l)))):
  U6 Tryz.prog 200 [.agg r.ts] (.bool (ckS r.a r.l)):=
 S6 (gC fG (gC z8 gN)) Tryz.func200 (a8d r) h
theorem a5p(a:List UInt8)(at0:Nat)(lo hi lsn:Int)(i:Nat):
  c8 a at0 lo hi lsn i=(!W2 (C7 a (at0+2*(i:Int).toNat)) lo hi|| !W2 (C7 a (at0+2*(i:Int).toNat+1)) 1 (lsn-1)||(decide ((i:Int)>0)&&decide (C7 a (at0+2*((i:Int)-1).toNat)≥C7 a (at0+2*(i:Int).toNat)))):=by
 unfold c8;rw[u9,show((i:Int)-1).toNat=i-1 by omega]
theorem a2j:GK 200 a77:=gk Tryz.func200<|by
 intro args res p h hp;unfold jC at h;split at h
 case h_2=>cases h
 rename_i e l t k p n g s b a;simp only[X1,U4] at h;obtain⟨rfl,rfl⟩:=h;obtain⟨hn,hl1,hl2⟩:b2S a l:=hp;have q0:zU a<=a.length:=by unfold zU;split<;>omega
 have q1:w7 a<=a.length:=by unfold w7;split<;>omega
 have r0:∀(n:Nat) (row:Nat->List T),Z6 n row row:=λn row i hi=>rfl
 refine a8e ⟨e,l,t,k,p,n,g,s,b,a⟩ ?_
 simp only[Rec.e,Rec.l,Rec.t,Rec.k,Rec.p,Rec.n,Rec.g,Rec.s,Rec.b,Rec.a];refine⟨hn,λhb=> ?_,λhb=>⟨⟨D5,⟨⟨(by first|rfl|trivial),(by first|rfl|trivial)⟩,⟨(by first|rfl|trivial),r0 _ _⟩,⟨(by first|rfl|trivial),r0 _ _⟩,(by first|rfl|trivial),trivial⟩,⟨(by first|rfl|trivial),r0 _ _⟩,trivial⟩,λx=>⟨λhc=> ?_,λhc=> ?_⟩⟩⟩
 ·unfold ckS;simp only[oQ,wD,o9] at hb;rcases hb with(hb|hb)|hb
  ·rw[hb];rfl
  ·rw[show decide (zU a<=8)=false from uK (by omega)];simp
  ·rw[show decide (w7 a<=10)=false from uK (by omega)];simp
 ·have hlt:=Y1 hc;have i2:W4 0 2:=⟨by omega,by omega⟩
  have i2':W4 1 2:=⟨by omega,by omega⟩
  rw[←a5p];refine⟨Y2 hlt,i2,λ_=>Y2 hlt,λ_=>i2',λ_=>Z4 (by omega),λ_ _=>Z4 (by omega),λ_ hh=> ?_,λ_ _=>i2,λ_ _=>Y2 hlt,λ_ _=>i2,λhp=> ?_,λhp=>⟨V7 hlt (by omega),x.succ hlt hp,⟨⟨⟨(by first|rfl|trivial),(by first|rfl|trivial)⟩,⟨(by first|rfl|trivial),r0 _ _⟩,⟨(by first|rfl|trivial),r0 _ _⟩,(by first|rfl|trivial),trivial⟩,⟨(by first|rfl|trivial),r0 _ _⟩,trivial⟩,V4.ext_lt hlt⟩⟩
  ·have:=F3 hh;exact⟨by omega,by omega⟩
  ·have:anyI (zU a) (c8 a 1 0 7 l)=true:=O1.2 ⟨x.1,hlt,hp⟩;simp[ckS,this]
 ·have hge:=X9 hc;have g0:anyI (zU a) (c8 a 1 0 7 l)=false:=by
   rw[Bool.eq_false_iff,ne_eq,O1];rintro⟨i,hi,h⟩;rw[x.2.2 i (by omega)] at h
   cases h
  refine⟨⟨D5,⟨⟨(by first|rfl|trivial),(by first|rfl|trivial)⟩,⟨(by first|rfl|trivial),r0 _ _⟩,(by first|rfl|trivial),trivial⟩,⟨(by first|rfl|trivial),r0 _ _⟩,trivial⟩,λy=>⟨λhc=> ?_,λhc=> ?_⟩⟩
  ·have hlt:=Y1 hc;have i2:W4 0 2:=⟨by omega,by omega⟩
   have i2':W4 1 2:=⟨by omega,by omega⟩
   rw[←a5p];refine⟨Y2 hlt,i2,λ_=>Y2 hlt,λ_=>i2',λ_=>Z4 (by omega),λ_ _=>Z4 (by omega),λ_ hh=> ?_,λ_ _=>i2,λ_ _=>Y2 hlt,λ_ _=>i2,λhp=> ?_,λhp=>⟨V7 hlt (by omega),y.succ hlt hp,⟨⟨⟨(by first|rfl|trivial),(by first|rfl|trivial)⟩,⟨(by first|rfl|trivial),r0 _ _⟩,(by first|rfl|trivial),trivial⟩,⟨(by first|rfl|trivial),r0 _ _⟩,trivial⟩,V4.ext_lt hlt⟩⟩
   ·have:=F3 hh;exact⟨by omega,by omega⟩
   ·have:anyI (w7 a) (c8 a (2+2*U3 a) 1 60 l)=true:=O1.2 ⟨y.1,hlt,hp⟩;simp[ckS,this]
  ·have hge:=X9 hc;have g1:anyI (w7 a) (c8 a (2+2*U3 a) 1 60 l)=false:=by
    rw[Bool.eq_false_iff,ne_eq,O1];rintro⟨i,hi,h⟩;rw[y.2.2 i (by omega)] at h
    cases h
   simp only[uL,xO,tW] at hb;unfold ckS;rw[g0,g1,hb.1.1,show decide (zU a<=8)=true from iZ (by omega),show decide (w7 a<=10)=true from iZ (by omega)]
   rfl
end Go.Proofs.YtokaojbaacnngaaGreat

namespace Go.Proofs.YtokaojbaacnngaaGreat
set_option maxRecDepth 100000
open Go.SS

theorem uP(l:List UInt8)(k:Nat):numR (l.drop k)=C7 l k:=by
 unfold numR C7;simp[L5]
theorem b0x(l:List UInt8)(k i:Nat):C7 (l.drop k) i=C7 l (k+i):=by
 unfold C7;simp[L5]
theorem a34(l:List UInt8)(k:Nat):0<=C7 l k:=by unfold C7;omega
def bV(l:List UInt8)(lo:Int)(i:Nat):Int:=if i=0 then lo-1 else C7 l (1+2*(i-1))
def okP(l:List UInt8)(lo hi lsn:Int)(i:Nat):Bool:=W2 (C7 l (1+2*i)) (bV l lo i+1) hi&&W2 (C7 l (2+2*i)) 1 (lsn-1)
theorem b6i(most lo hi lsn:Int)(l:List UInt8)(fl:Bool)(i:Nat):
  RdSt.go hi lsn (xW most lo l fl) i=⟨l.drop (1+2*i),fl||decide (l.length<1+2*i),decide (numR l<=most)&&(List.range i).all (okP l lo hi lsn),bV l lo i⟩:=by
 induction i with
 |zero=>
  simp only[RdSt.go,xW,bV,if_true,List.range_zero,List.all_nil,Bool.and_true,Nat.mul_zero,Nat.add_zero];cases l<;>simp
 |succ i ih=>
  simp only[RdSt.go];rw[ih];simp only[RdSt.step];have e1:((l.drop (1+2*i)).drop 1).drop 1=l.drop (1+2*(i+1)):=by
   rw[List.drop_drop,List.drop_drop];congr 1
  have e2:numR ((l.drop (1+2*i)).drop 1)=C7 l (2+2*i):=by
   rw[List.drop_drop,uP];congr 1
   omega
  have e3:bV l lo (i+1)=numR (l.drop (1+2*i)):=by
   rw[uP];simp[bV]
  have e4:(List.range (i+1)).all (okP l lo hi lsn)=((List.range i).all (okP l lo hi lsn)&&okP l lo hi lsn i):=by
   rw[List.range_succ,List.all_append];simp
  rw[e1,e2,e3,e4,uP];congr 1
  ·have:(l.drop (1+2*i)).isEmpty=decide (l.length<=1+2*i):=by
    rw[Bool.eq_iff_iff];simp
   have h2:((l.drop (1+2*i)).drop 1).isEmpty=decide (l.length<=1+2*i+1):=by
    rw[Bool.eq_iff_iff];simp
   rw[this,h2,Bool.or_assoc,Bool.or_assoc];congr 1
   rw[Bool.eq_iff_iff];simp;omega
  ·unfold okP;rw[Bool.and_assoc,Bool.and_assoc]
theorem a49{n:Nat}{p q:Nat->Bool}(h:∀i,p i= !q i):(List.range n).all p= !anyI n q:=by
 unfold anyI;rw[List.not_any_eq_all_not];congr 1
 funext i
 rw[h i]
theorem a5f(l:List UInt8)(lo hi lsn:Int)(h1:lo=0∨lo=1)(i:Nat):okP l lo hi lsn i= !c8 l 1 lo hi lsn i:=by
 have b1:=a34 l (1+2*(i-1));have b2:=a34 l (1+2*i);unfold okP c8 bV W2;rw[show 1+2*i+1=2+2*i by omega]
 rw[Bool.eq_iff_iff];by_cases hi0:i=0
 ·subst hi0;simp
 ·simp[hi0];omega
theorem a6m(a:List UInt8)(k:Nat)(lo hi lsn:Int)(i:Nat):c8 (a.drop k) 1 lo hi lsn i=c8 a (k+1) lo hi lsn i:=by
 unfold c8;simp only[b0x];rw[show k+(1+2*i)=k+1+2*i by omega,show k+(1+2*i+1)=k+1+2*i+1 by omega,show k+(1+2*(i-1))=k+1+2*(i-1) by omega]
theorem b8w(a:List UInt8)(lsn:Int):a1l a lsn=ckS a lsn:=by
 have n0:(numR a).toNat=U3 a:=by simp[numR,U3,C7]
 have n0':numR a=(U3 a:Int):=by have:=z4 a;omega
 have n1:numR (a.drop (1+2*U3 a))=(y9 a:Int):=by rw[uP];have:=a34 a (1+2*U3 a);simp[y9];omega
 have n1':(numR (a.drop (1+2*U3 a))).toNat=y9 a:=by omega
 have E1:Q4 8 0 7 lsn a false=⟨a.drop (1+2*U3 a),decide (a.length<1+2*U3 a),decide ((U3 a:Int)<=8)&& !anyI (U3 a) (c8 a 1 0 7 lsn),bV a 0 (U3 a)⟩:=by
  unfold Q4;rw[b6i,n0,n0',a49 (a5f a 0 7 lsn (.inl rfl)),Bool.false_or]
 have E2:Q4 10 1 60 lsn (a.drop (1+2*U3 a)) (decide (a.length<1+2*U3 a))=⟨a.drop (2+2*U3 a+2*y9 a),decide (a.length<2+2*U3 a+2*y9 a),decide ((y9 a:Int)<=10)&& !anyI (y9 a) (c8 a (2+2*U3 a) 1 60 lsn),bV (a.drop (1+2*U3 a)) 1 (y9 a)⟩:=by
  unfold Q4;rw[b6i,n1',n1,a49 (a5f (a.drop (1+2*U3 a)) 1 60 lsn (.inr rfl))];congr 1
  ·rw[List.drop_drop];congr 1;omega
  ·rw[Bool.eq_iff_iff];simp;omega
  ·congr 2
   unfold anyI;congr 1
   funext i
   rw[a6m];congr 1
   omega
 unfold a1l;rw[E1];simp only;rw[E2];simp only;have hE:(a.drop (2+2*U3 a+2*y9 a)).isEmpty=decide (a.length<=2+2*U3 a+2*y9 a):=by rw[Bool.eq_iff_iff];simp
 rw[hE];by_cases hr:0<a.length/\1+2*U3 a<a.length/\2+2*U3 a+2*y9 a=a.length
 ·have c0:zU a=U3 a:=by unfold zU;rw[if_pos ⟨hr.1,by omega⟩]
  have c1:w7 a=y9 a:=by unfold w7;rw[if_pos ⟨hr.1,hr.2.1,by omega⟩]
  unfold ckS;rw[show xS a=true from iZ hr,c0,c1]
  rw[show decide (a.length<1+2*U3 a)=false from uK (by omega),show decide (a.length<2+2*U3 a+2*y9 a)=false from uK (by omega),show decide (a.length<=2+2*U3 a+2*y9 a)=true from iZ (by omega)]
  rw[show decide ((U3 a:Int)<=8)=decide (U3 a<=8) from decide_eq_decide.2 (by omega),show decide ((y9 a:Int)<=10)=decide (y9 a<=10) from decide_eq_decide.2 (by omega)]
  generalize anyI (U3 a) _=x;generalize anyI (y9 a) _=y;generalize decide (U3 a<=8)=u;generalize decide (y9 a<=10)=v;cases x<;>cases y<;>cases u<;>cases v<;>rfl
 ·have:ckS a lsn=false:=by
   unfold ckS;rw[show xS a=false from uK hr]
   rfl
  rw[this];by_cases h1:a.length<2+2*U3 a+2*y9 a
  ·rw[show decide (a.length<2+2*U3 a+2*y9 a)=true from iZ h1]
   simp
  ·have h2:¬a.length<=2+2*U3 a+2*y9 a:=by omega
   rw[show decide (a.length<=2+2*U3 a+2*y9 a)=false from uK h2]
   simp

noncomputable def pJ:List T->Option (T×Option Prop)
 | [.agg [.int .i64 e,.int .i64 l,.int .i64 t,.int .i64 k,.int .i64 p,.int .i64 n,.int .i64 g,.int .i64 s,.str b,.str a]]=>some (.bool (R2 ⟨e,l,t,k,p,n,g,s,b,a⟩),some (M7 a.length))
 |_=>none
noncomputable def a0g:Con:=.pure pJ
theorem a1o(r:Rec)(x:Bool)(h:
  ((!W2 r.e (1:Int) (60:Int)|| !W2 r.l (1:Int) (60:Int)|| !W2 r.k (1:Int) (6:Int))=false->X4 .i64 (r.l- (1:Int)))/\((!W2 r.e (1:Int) (60:Int)|| !W2 r.l (1:Int) (60:Int)|| !W2 r.k (1:Int) (6:
  Int)|| !W2 r.p (0:Int) (r.l- (1:Int)))=false->X4 .i64 (r.l- (1:Int)))/\((!W2 r.e (1:Int) (60:Int)|| !W2 r.l (1:Int) (60:Int)|| !W2 r.k (1:Int) (6:Int)|| !W2 r.p (0:Int) (r.l- (1:Int))|| !W2
  r.n (0:Int) (r.l- (1:Int))|| !W2 r.g (0:Int) (7:Int)|| !W2 r.s (0:Int) (3:Int)||decide ((r.b.length:Int)>(30:Int)))=true->false=x)/\((!W2 r.e (1:Int) (60:Int)|| !W2 r.l (1:Int) (60:Int)||
  !W2 r.k (1:Int) (6:Int)|| !W2 r.p (0:Int) (r.l- (1:Int))|| !W2 r.n (0:Int) (r.l- (1:Int))|| !W2 r.g (0:Int) (7:Int)|| !W2 r.s (0:Int) (3:Int)||decide ((r.b.length:Int)>(30:Int)))=false->
  ((r.k==(6:Int))=true->((r.t==(0:Int)&&r.p==(0:Int)&&r.n==(0:Int)&&r.g==(0:Int)&&r.s==(0:Int)&&r.b==[])=true->b2S r.a r.l)/\(r.t==(0:Int)&&r.p==(0:Int)&&r.n==(0:Int)&&
  r.g==(0:Int)&&r.s==(0:Int)&&r.b==[]&&ckS r.a r.l)=x)/\((r.k==(6:Int))=false->((!W2 r.t (1:Int) (60:Int)||decide ((r.a.length:Int)>(30:Int)))=true->false=x)/\((!W2 r.t (1:Int) (60:
  Int)||decide ((r.a.length:Int)>(30:Int)))=false->((!(r.k==(2:Int)||r.k==(3:Int))&&(r.g !=(0:Int)||r.s !=(0:Int)|| !r.b==[]|| !r.a==[])||r.k !=(3:Int)&&r.n !=(0:Int)||r.k==(3:Int)
  && !r.b==[])=true->false=x)/\((!(r.k==(2:Int)||r.k==(3:Int))&&(r.g !=(0:Int)||r.s !=(0:Int)|| !r.b==[]|| !r.a==[])||r.k !=(3:Int)&&r.n !=(0:Int)||r.k==(3:Int)&& !r.b==[])=
  false->((r.k==(1:Int))==(r.p==(0:Int)))=x))))):
  U6 Tryz.prog 138 [.agg r.ts] (.bool x):=
 S6 (gC a2j (gC z8 gN)) Tryz.func138 Z0 h
theorem b9x{p k a b:Int}:((k==b)=(p==a))↔(k=b↔p=a):=by
 rw[Bool.eq_iff_iff,beq_iff_eq,beq_iff_eq]
theorem rJ:GK 138 a0g:=gk Tryz.func138<|by
 intro args res p h hp;unfold pJ at h;split at h
 case h_2=>cases h
 rename_i e l t k p n g s b a;simp only[X1,U4] at h;obtain⟨rfl,rfl⟩:=h;have hp:a.length<1000000000000:=hp;refine a1o ⟨e,l,t,k,p,n,g,s,b,a⟩ _ ?_
 simp only[Rec.e,Rec.l,Rec.t,Rec.k,Rec.p,Rec.n,Rec.g,Rec.s,Rec.b,Rec.a];have hr:∀{q:Bool},(!W2 e 1 60|| !W2 l 1 60||q)=false->X4 .i64 (l-1):=by
  intro q h;simp only[uL,xO,W2,J6,o9] at h;exact Z4 (by omega)
 refine⟨hr,λh=>hr (q:= !W2 k 1 6|| !W2 p 0 (l-1)) (by rw[←h];simp[Bool.or_assoc]),λh=> ?_,λh=> ?_⟩
 ·refine(yD ?_).symm
  simp only[oQ,wD,W2,Bool.and_eq_false_iff,tW,o9] at h;unfold zT;simp only;omega
 simp only[uL,xO,W2,J6,o9,tW] at h;by_cases h6:k=6
 ·subst h6;refine⟨λ_=>⟨λ_=>⟨hp,by omega,by omega⟩,vH ?_⟩,λh=>by simp at h⟩
  rw[Q9,←b8w];simp only[zT,o9,J6,beq_iff_eq,true_and,and_true];constructor
  ·rintro⟨⟨⟨⟨⟨⟨rfl,rfl⟩,rfl⟩,rfl⟩,rfl⟩,rfl⟩,hc⟩;simp[hc];omega
  ·rintro⟨_,_,_,_,_,_,_,_,_,_,_,_,_,_,_,hh,_⟩;obtain⟨rfl,rfl,rfl,rfl,rfl,rfl,hc⟩:=hh trivial;simp[hc]
 refine⟨λh=>absurd (by simpa using h) h6,λ_=>⟨λhb=> ?_,λhb=>⟨λhc=> ?_,λhc=>vH ?_⟩⟩⟩
 ·refine(yD ?_).symm
  simp[W2] at hb;unfold zT;simp only;omega
 ·refine(yD ?_).symm
  unfold zT;simp only;rintro⟨_,_,_,_,_,_,_,_,_,_,_,_,_,_,_,_,hh⟩;obtain⟨c1,c2,c3,c4,c5,c6,c7⟩:=hh h6;simp only[oQ,J6,wD,uL,beq_iff_eq,bne_iff_ne,beq_eq_false_iff_ne] at hc;rcases hc with(⟨⟨x2,x3⟩,hc⟩|⟨x3,hn⟩)|⟨x3,hn⟩
  ·obtain⟨d1,d2,d3,d4⟩:=c4 x2 x3;rcases hc with((hc|hc)|hc)|hc
   ·exact hc d1
   ·exact hc d2
   ·exact hc d3
   ·exact hc d4
  ·exact hn (c5 x3)
  ·exact hn (c6 x3)
 ·rw[Q9];simp only[zT,b9x,true_and,and_true,beq_iff_eq];simp[W2] at hb hc;constructor
  ·intro hk;refine⟨by omega,by omega,by omega,by omega,by omega,by omega,by omega,by omega,by omega,by omega,by omega,by omega,by omega,by omega,by omega,λh=>absurd h h6,λ_=>⟨by omega,by omega,by omega,λx2 x3=> ?_,λx3=> ?_,λx3=> ?_,hk⟩⟩
   ·have:=hc.1.1 x2 x3;exact⟨this.1.1.1,this.1.1.2,this.1.2,this.2⟩
   ·exact hc.1.2 x3
   ·exact hc.2 x3
  ·rintro⟨_,_,_,_,_,_,_,_,_,_,_,_,_,_,_,_,hh⟩;exact(hh h6).2.2.2.2.2.2
end Go.Proofs.YtokaojbaacnngaaGreat

