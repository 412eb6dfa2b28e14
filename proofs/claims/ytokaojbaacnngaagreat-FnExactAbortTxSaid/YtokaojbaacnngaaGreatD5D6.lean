/- A part of the proof. -/
import Derived.Test.YtokaojbaacnngaaGreatD4
namespace Go.Proofs.YtokaojbaacnngaaGreat
set_option maxRecDepth 100000
open Go.SS

def zW(a:List UInt8)(at0:Nat)(lo hi lsn:Int)(i:Nat):Bool:=
 !V6 (C1 a (at0+2*i)) lo hi|| !V6 (C1 a (at0+2*i+1)) 1 (lsn-1)||(decide ((i:Int)>0)&&decide (C1 a (at0+2*(i-1))≥C1 a (at0+2*i)))
def ckS(a:List UInt8)(lsn:Int):Bool:=
 xZ a&&decide (zL a<=8)&&decide (u7 a<=10)&& !anyI (zL a) (zW a 1 0 7 lsn)&& !anyI (u7 a) (zW a (2+2*T9 a) 1 60 lsn)
def b1t(a:List UInt8)(n:Int):Prop:=a.length<1000000000000/\ -1000000000000<=n/\n<=1000000000000
def gR:List T->Option (T×Option Prop)
 | [.agg [.int .i64 e,.int .i64 l,.int .i64 t,.int .i64 k,.int .i64 p,.int .i64 n,.int .i64 g,.int .i64 s,.str b,.str a]]=>some (.bool (ckS a l),some (b1t a l))
 |_=>none
def a6Z:Con:=.pure gR
def a8z(r:Rec):Nat->Ann
 |1=>.one (V3 (u7 r.a) (zW r.a (2+2*T9 r.a) 1 60 r.l)) (λx=>⟨[(1,.ref 0 0 0),(4,.sl 2 (u7 r.a) (X0 r.a (2+2*T9 r.a))),(7,.int .i64 x.1)],[some (.arr true 1000000 10 1 λ_=>r.ts)]⟩) (λx=>u7 r.a-x.1) [.arr 0] [.arr 0] (λ_=>Z0)
 |_=>.none
def a8Z(r:Rec):Nat->Ann
 |0=>.one (V3 (zL r.a) (zW r.a 1 0 7 r.l)) (λx=>⟨[(1,.ref 0 0 0),(3,.sl 2 (zL r.a) (X0 r.a 1)),(4,.sl 2 (u7 r.a) (X0 r.a (2+2*T9 r.a))),(6,.int .i64 x.1)],[some (.arr true 1000000 10 1 λ_=>r.ts)]⟩) (λx=>zL r.a-x.1) [.arr 0] [.arr 0] (λ_=>a8z r)
 |_=>.none
theorem a9d(r:Rec)(h:
  N3 r.a.length/\((!xZ r.a||decide ((↑(zL r.a):Int)>(8:Int))||decide ((↑(u7 r.a):Int)>(10:Int)))=true->false=ckS r.a r.l)/\((!xZ r.a||decide ((↑(zL r.a):Int)>(8:Int))||decide ((↑(u7 r.a):
  Int)>(10:Int)))=false->(∃(x:V3 (zL r.a) (zW r.a 1 (0:Int) (7:Int) r.l)),((0=0/\0=0)/\(zL r.a=zL r.a/\Z6 (zL r.a) (X0 r.a 1) (X0 r.a 1))/\(u7 r.a=u7 r.a/\Z6 (u7 r.a) (X0
  r.a (2+2*T9 r.a)) (X0 r.a (2+2*T9 r.a)))/\(0:Int)=(x.val:Int)/\True)/\(1=1/\Z6 1 (λ(x:Nat)=>[T.int .i64 r.e,T.int .i64 r.l,T.int .i64 r.t,T.int .i64 r.k,T.int .i64 r.p,T.int .i64 r.n,T.int
  .i64 r.g,T.int .i64 r.s,T.str r.b,T.str r.a]) λ(x:Nat)=>[T.int .i64 r.e,T.int .i64 r.l,T.int .i64 r.t,T.int .i64 r.k,T.int .i64 r.p,T.int .i64 r.n,T.int .i64 r.g,T.int .i64 r.s,T.str r.b,T.str r.a])/\True)/\∀
  (x:V3 (zL r.a) (zW r.a 1 (0:Int) (7:Int) r.l)),(decide ((x.val:Int)<(↑(zL r.a):Int))=true->W2 (x.val:Int) (zL r.a)/\W2 (0:Int) 2/\((!V6 (C1 r.a (1+2*(x.val:Int).toNat)) (0:Int) (7:Int))=false
  ->W2 (x.val:Int) (zL r.a))/\((!V6 (C1 r.a (1+2*(x.val:Int).toNat)) (0:Int) (7:Int))=false->W2 (1:Int) 2)/\((!V6 (C1 r.a (1+2*(x.val:Int).toNat)) (0:Int) (7:Int))=false->X2 .i64 (r.l- (1:Int)))
  /\((!V6 (C1 r.a (1+2*(x.val:Int).toNat)) (0:Int) (7:Int)|| !V6 (C1 r.a (1+2*(x.val:Int).toNat+1)) (1:Int) (r.l- (1:Int)))=false->decide ((x.val:Int)>(0:Int))=true->X2 .i64 ((x.val:Int)- (1:
  Int)))/\((!V6 (C1 r.a (1+2*(x.val:Int).toNat)) (0:Int) (7:Int)|| !V6 (C1 r.a (1+2*(x.val:Int).toNat+1)) (1:Int) (r.l- (1:Int)))=false->decide ((x.val:Int)>(0:Int))=true->W2 ((x.val:Int)- (1:
  Int)) (zL r.a))/\((!V6 (C1 r.a (1+2*(x.val:Int).toNat)) (0:Int) (7:Int)|| !V6 (C1 r.a (1+2*(x.val:Int).toNat+1)) (1:Int) (r.l- (1:Int)))=false->decide ((x.val:Int)>(0:Int))=true->W2 (0:Int)
  2)/\((!V6 (C1 r.a (1+2*(x.val:Int).toNat)) (0:Int) (7:Int)|| !V6 (C1 r.a (1+2*(x.val:Int).toNat+1)) (1:Int) (r.l- (1:Int)))=false->decide ((x.val:Int)>(0:Int))=true->W2 (x.val:Int) (zL r.a))/\
  ((!V6 (C1 r.a (1+2*(x.val:Int).toNat)) (0:Int) (7:Int)|| !V6 (C1 r.a (1+2*(x.val:Int).toNat+1)) (1:Int) (r.l- (1:Int)))=false->decide ((x.val:Int)>(0:Int))=true->W2 (0:Int) 2)/\((!V6 (C1 r.a
  (1+2*(x.val:Int).toNat)) (0:Int) (7:Int)|| !V6 (C1 r.a (1+2*(x.val:Int).toNat+1)) (1:Int) (r.l- (1:Int))||decide ((x.val:Int)>(0:Int))&&decide (C1 r.a (1+2*((x.val:Int)- (1:Int)).toNat)≥C1
  r.a (1+2*(x.val:Int).toNat)))=true->false=ckS r.a r.l)/\((!V6 (C1 r.a (1+2*(x.val:Int).toNat)) (0:Int) (7:Int)|| !V6 (C1 r.a (1+2*(x.val:Int).toNat+1)) (1:Int) (r.l- (1:Int))||decide
  ((x.val:Int)>(0:Int))&&decide (C1 r.a (1+2*((x.val:Int)- (1:Int)).toNat)≥C1 r.a (1+2*(x.val:Int).toNat)))=false->X2 .i64 ((x.val:Int)+(1:Int))/\∃(y:V3 (zL r.a) (zW r.a 1 (0:Int) (7:Int)
  r.l)),(((0=0/\0=0)/\(zL r.a=zL r.a/\Z6 (zL r.a) (X0 r.a 1) (X0 r.a 1))/\(u7 r.a=u7 r.a/\Z6 (u7 r.a) (X0 r.a (2+2*T9 r.a)) (X0 r.a (2+2*T9 r.a)))/\(x.val:Int)+(1:Int)=
  (y.val:Int)/\True)/\(1=1/\Z6 1 (λ(x:Nat)=>[T.int .i64 r.e,T.int .i64 r.l,T.int .i64 r.t,T.int .i64 r.k,T.int .i64 r.p,T.int .i64 r.n,T.int .i64 r.g,T.int .i64 r.s,T.str r.b,T.str r.a]) λ(x:Nat)=>
  [T.int .i64 r.e,T.int .i64 r.l,T.int .i64 r.t,T.int .i64 r.k,T.int .i64 r.p,T.int .i64 r.n,T.int .i64 r.g,T.int .i64 r.s,T.str r.b,T.str r.a])/\True)/\Lt (zL r.a-y.val) (zL r.a-x.val)))/\(decide ((x.val:Int)<
  (↑(zL r.a):Int))=false->(∃(x:V3 (u7 r.a) (zW r.a (2+2*T9 r.a) (1:Int) (60:Int) r.l)),((0=0/\0=0)/\(u7 r.a=u7 r.a/\Z6 (u7 r.a) (X0 r.a (2+2*T9 r.a)) (X0 r.a (2+2*T9 r.a)))
  /\(0:Int)=(x.val:Int)/\True)/\(1=1/\Z6 1 (λ(x:Nat)=>[T.int .i64 r.e,T.int .i64 r.l,T.int .i64 r.t,T.int .i64 r.k,T.int .i64 r.p,T.int .i64 r.n,T.int .i64 r.g,T.int .i64 r.s,T.str r.b,T.str r.a]) λ(x
  :Nat)=>[T.int .i64 r.e,T.int .i64 r.l,T.int .i64 r.t,T.int .i64 r.k,T.int .i64 r.p,T.int .i64 r.n,T.int .i64 r.g,T.int .i64 r.s,T.str r.b,T.str r.a])/\True)/\∀(x:V3 (u7 r.a) (zW r.a (2+2*T9 r.a) (1:Int)
  (60:Int) r.l)),(decide ((x.val:Int)<(↑(u7 r.a):Int))=true->W2 (x.val:Int) (u7 r.a)/\W2 (0:Int) 2/\((!V6 (C1 r.a (2+2*T9 r.a+2*(x.val:Int).toNat)) (1:Int) (60:Int))=false->W2 (x.val:Int) (u7
  r.a))/\((!V6 (C1 r.a (2+2*T9 r.a+2*(x.val:Int).toNat)) (1:Int) (60:Int))=false->W2 (1:Int) 2)/\((!V6 (C1 r.a (2+2*T9 r.a+2*(x.val:Int).toNat)) (1:Int) (60:Int))=false->X2 .i64 (r.l- (1:
  Int)))/\((!V6 (C1 r.a (2+2*T9 r.a+2*(x.val:Int).toNat)) (1:Int) (60:Int)|| !V6 (C1 r.a (2+2*T9 r.a+2*(x.val:Int).toNat+1)) (1:Int) (r.l- (1:Int)))=false->decide ((x.val:Int)>(0:Int))=
  true->X2 .i64 ((x.val:Int)- (1:Int)))/\((!V6 (C1 r.a (2+2*T9 r.a+2*(x.val:Int).toNat)) (1:Int) (60:Int)|| !V6 (C1 r.a (2+2*T9 r.a+2*(x.val:Int).toNat+1)) (1:Int) (r.l- (1:Int)))=false->
  decide ((x.val:Int)>(0:Int))=true->W2 ((x.val:Int)- (1:Int)) (u7 r.a))/\((!V6 (C1 r.a (2+2*T9 r.a+2*(x.val:Int).toNat)) (1:Int) (60:Int)|| !V6 (C1 r.a (2+2*T9 r.a+2*(x.val:Int).toNat+1))
  (1:Int) (r.l- (1:Int)))=false->decide ((x.val:Int)>(0:Int))=true->W2 (0:Int) 2)/\((!V6 (C1 r.a (2+2*T9 r.a+2*(x.val:Int).toNat)) (1:Int) (60:Int)|| !V6 (C1 r.a (2+2*T9 r.a+2*
  (x.val:Int).toNat+1)) (1:Int) (r.l- (1:Int)))=false->decide ((x.val:Int)>(0:Int))=true->W2 (x.val:Int) (u7 r.a))/\((!V6 (C1 r.a (2+2*T9 r.a+2*(x.val:Int).toNat)) (1:Int) (60:Int)|| !V6 (C1 r.a
  (2+2*T9 r.a+2*(x.val:Int).toNat+1)) (1:Int) (r.l- (1:Int)))=false->decide ((x.val:Int)>(0:Int))=true->W2 (0:Int) 2)/\((!V6 (C1 r.a (2+2*T9 r.a+2*(x.val:Int).toNat)) (1:Int) (60:Int)||
  !V6 (C1 r.a (2+2*T9 r.a+2*(x.val:Int).toNat+1)) (1:Int) (r.l- (1:Int))||decide ((x.val:Int)>(0:Int))&&decide (C1 r.a (2+2*T9 r.a+2*((x.val:Int)- (1:Int)).toNat)≥C1 r.a (2+2*T9 r.a+2
  *(x.val:Int).toNat)))=true->false=ckS r.a r.l)/\((!V6 (C1 r.a (2+2*T9 r.a+2*(x.val:Int).toNat)) (1:Int) (60:Int)|| !V6 (C1 r.a (2+2*T9 r.a+2*(x.val:Int).toNat+1)) (1:Int) (r.l- (1:Int))||
  decide ((x.val:Int)>(0:Int))&&decide (C1 r.a (2+2*T9 r.a+2*((x.val:Int)- (1:Int)).toNat)≥C1 r.a (2+2*T9 r.a+2*(x.val:Int).toNat)))=false->X2 .i64 ((x.val:Int)+(1:Int))/\∃(y:V3 (u7 r.a)
  (zW r.a (2+2*T9 r.a) (1:Int) (60:Int) r.l)),(((0=0/\0=0)/\(u7 r.a=u7 r.a/\Z6 (u7 r.a) (X0 r.a (2+2*T9 r.a)) (X0 r.a (2+2*T9 r.a)))/\(x.val:Int)+(1:Int)=(y.val:Int)/\True)/\
  (1=1/\Z6 1 (λ(x:Nat)=>[T.int .i64 r.e,T.int .i64 r.l,T.int .i64 r.t,T.int .i64 r.k,T.int .i64 r.p,T.int .i64 r.n,T.int .i64 r.g,T.int .i64 r.s,T.str r.b,T.str r.a]) λ(x:Nat)=>[T.int .i64 r.e,T.int
  .i64 r.l,T.int .i64 r.t,T.int .i64 r.k,T.int .i64 r.p,T.int .i64 r.n,T.int .i64 r.g,T.int .i64 r.s,T.str r.b,T.str r.a])/\True)/\Lt (u7 r.a-y.val) (u7 r.a-x.val)))/\(decide ((x.val:Int)<(↑(u7 r.a):Int))=
  false->true=ckS r.a r.l)))):
  U3 Tryz.prog 200 [.agg r.ts] (.bool (ckS r.a r.l)):=
 S3 (gC cF (gC o8 gN)) Tryz.func200 (a8Z r) h
theorem a6E(a:List UInt8)(at0:Nat)(lo hi lsn:Int)(i:Nat):
  zW a at0 lo hi lsn i=(!V6 (C1 a (at0+2*(i:Int).toNat)) lo hi|| !V6 (C1 a (at0+2*(i:Int).toNat+1)) 1 (lsn-1)||(decide ((i:Int)>0)&&decide (C1 a (at0+2*((i:Int)-1).toNat)≥C1 a (at0+2*(i:Int).toNat)))):=by
 unfold zW;rw[z7,show((i:Int)-1).toNat=i-1 by omega]
theorem a4d:GK 200 a6Z:=gk Tryz.func200<|by
 intro args res p h hp;unfold gR at h;split at h
 case h_2=>cases h
 rename_i e l t k p n g s b a;simp only[W8,U0] at h;obtain⟨rfl,rfl⟩:=h;obtain⟨hn,hl1,hl2⟩:b1t a l:=hp;have q0:zL a<=a.length:=by unfold zL;split<;>omega
 have q1:u7 a<=a.length:=by unfold u7;split<;>omega
 have r0:∀(n:Nat) (row:Nat->List T),Z6 n row row:=λn row i hi=>rfl
 refine a9d ⟨e,l,t,k,p,n,g,s,b,a⟩ ?_
 simp only[Rec.e,Rec.l,Rec.t,Rec.k,Rec.p,Rec.n,Rec.g,Rec.s,Rec.b,Rec.a];refine⟨hn,λhb=> ?_,λhb=>⟨⟨E8,⟨⟨(by first|rfl|trivial),(by first|rfl|trivial)⟩,⟨(by first|rfl|trivial),r0 _ _⟩,⟨(by first|rfl|trivial),r0 _ _⟩,(by first|rfl|trivial),trivial⟩,⟨(by first|rfl|trivial),r0 _ _⟩,trivial⟩,λx=>⟨λhc=> ?_,λhc=> ?_⟩⟩⟩
 ·unfold ckS;simp only[nO,vO,m5] at hb;rcases hb with(hb|hb)|hb
  ·rw[hb];rfl
  ·rw[show decide (zL a<=8)=false from tW (by omega)];simp
  ·rw[show decide (u7 a<=10)=false from tW (by omega)];simp
 ·have hlt:=Y1 hc;have i2:W2 0 2:=⟨by omega,by omega⟩
  have i2':W2 1 2:=⟨by omega,by omega⟩
  rw[←a6E];refine⟨Y3 hlt,i2,λ_=>Y3 hlt,λ_=>i2',λ_=>Z4 (by omega),λ_ _=>Z4 (by omega),λ_ hh=> ?_,λ_ _=>i2,λ_ _=>Y3 hlt,λ_ _=>i2,λhp=> ?_,λhp=>⟨V5 hlt (by omega),x.succ hlt hp,⟨⟨⟨(by first|rfl|trivial),(by first|rfl|trivial)⟩,⟨(by first|rfl|trivial),r0 _ _⟩,⟨(by first|rfl|trivial),r0 _ _⟩,(by first|rfl|trivial),trivial⟩,⟨(by first|rfl|trivial),r0 _ _⟩,trivial⟩,V3.ext_lt hlt⟩⟩
  ·have:=E9 hh;exact⟨by omega,by omega⟩
  ·have:anyI (zL a) (zW a 1 0 7 l)=true:=O1.2 ⟨x.1,hlt,hp⟩;simp[ckS,this]
 ·have hge:=X9 hc;have g0:anyI (zL a) (zW a 1 0 7 l)=false:=by
   rw[Bool.eq_false_iff,ne_eq,O1];rintro⟨i,hi,h⟩;rw[x.2.2 i (by omega)] at h
   cases h
  refine⟨⟨E8,⟨⟨(by first|rfl|trivial),(by first|rfl|trivial)⟩,⟨(by first|rfl|trivial),r0 _ _⟩,(by first|rfl|trivial),trivial⟩,⟨(by first|rfl|trivial),r0 _ _⟩,trivial⟩,λy=>⟨λhc=> ?_,λhc=> ?_⟩⟩
  ·have hlt:=Y1 hc;have i2:W2 0 2:=⟨by omega,by omega⟩
   have i2':W2 1 2:=⟨by omega,by omega⟩
   rw[←a6E];refine⟨Y3 hlt,i2,λ_=>Y3 hlt,λ_=>i2',λ_=>Z4 (by omega),λ_ _=>Z4 (by omega),λ_ hh=> ?_,λ_ _=>i2,λ_ _=>Y3 hlt,λ_ _=>i2,λhp=> ?_,λhp=>⟨V5 hlt (by omega),y.succ hlt hp,⟨⟨⟨(by first|rfl|trivial),(by first|rfl|trivial)⟩,⟨(by first|rfl|trivial),r0 _ _⟩,(by first|rfl|trivial),trivial⟩,⟨(by first|rfl|trivial),r0 _ _⟩,trivial⟩,V3.ext_lt hlt⟩⟩
   ·have:=E9 hh;exact⟨by omega,by omega⟩
   ·have:anyI (u7 a) (zW a (2+2*T9 a) 1 60 l)=true:=O1.2 ⟨y.1,hlt,hp⟩;simp[ckS,this]
  ·have hge:=X9 hc;have g1:anyI (u7 a) (zW a (2+2*T9 a) 1 60 l)=false:=by
    rw[Bool.eq_false_iff,ne_eq,O1];rintro⟨i,hi,h⟩;rw[y.2.2 i (by omega)] at h
    cases h
   simp only[tU,xE,tQ] at hb;unfold ckS;rw[g0,g1,hb.1.1,show decide (zL a<=8)=true from iO (by omega),show decide (u7 a<=10)=true from iO (by omega)]
   rfl
end Go.Proofs.YtokaojbaacnngaaGreat

namespace Go.Proofs.YtokaojbaacnngaaGreat
set_option maxRecDepth 100000
open Go.SS

theorem tZ(l:List UInt8)(k:Nat):numR (l.drop k)=C1 l k:=by
 unfold numR C1;simp[N9]
theorem b3l(l:List UInt8)(k i:Nat):C1 (l.drop k) i=C1 l (k+i):=by
 unfold C1;simp[N9]
theorem a2e(l:List UInt8)(k:Nat):0<=C1 l k:=by unfold C1;omega
def aB(l:List UInt8)(lo:Int)(i:Nat):Int:=if i=0 then lo-1 else C1 l (1+2*(i-1))
def okP(l:List UInt8)(lo hi lsn:Int)(i:Nat):Bool:=V6 (C1 l (1+2*i)) (aB l lo i+1) hi&&V6 (C1 l (2+2*i)) 1 (lsn-1)
theorem b7E(most lo hi lsn:Int)(l:List UInt8)(fl:Bool)(i:Nat):
  RdSt.go hi lsn (xW most lo l fl) i=⟨l.drop (1+2*i),fl||decide (l.length<1+2*i),decide (numR l<=most)&&(List.range i).all (okP l lo hi lsn),aB l lo i⟩:=by
 induction i with
 |zero=>
  simp only[RdSt.go,xW,aB,if_true,List.range_zero,List.all_nil,Bool.and_true,Nat.mul_zero,Nat.add_zero];cases l<;>simp
 |succ i ih=>
  simp only[RdSt.go];rw[ih];simp only[RdSt.step];have e1:((l.drop (1+2*i)).drop 1).drop 1=l.drop (1+2*(i+1)):=by
   rw[List.drop_drop,List.drop_drop];congr 1
  have e2:numR ((l.drop (1+2*i)).drop 1)=C1 l (2+2*i):=by
   rw[List.drop_drop,tZ];congr 1
   omega
  have e3:aB l lo (i+1)=numR (l.drop (1+2*i)):=by
   rw[tZ];simp[aB]
  have e4:(List.range (i+1)).all (okP l lo hi lsn)=((List.range i).all (okP l lo hi lsn)&&okP l lo hi lsn i):=by
   rw[List.range_succ,List.all_append];simp
  rw[e1,e2,e3,e4,tZ];congr 1
  ·have:(l.drop (1+2*i)).isEmpty=decide (l.length<=1+2*i):=by
    rw[Bool.eq_iff_iff];simp
   have h2:((l.drop (1+2*i)).drop 1).isEmpty=decide (l.length<=1+2*i+1):=by
    rw[Bool.eq_iff_iff];simp
   rw[this,h2,Bool.or_assoc,Bool.or_assoc];congr 1
   rw[Bool.eq_iff_iff];simp;omega
  ·unfold okP;rw[Bool.and_assoc,Bool.and_assoc]
theorem a5t{n:Nat}{p q:Nat->Bool}(h:∀i,p i= !q i):(List.range n).all p= !anyI n q:=by
 unfold anyI;rw[List.not_any_eq_all_not];congr 1
 funext i
 rw[h i]
theorem a5V(l:List UInt8)(lo hi lsn:Int)(h1:lo=0∨lo=1)(i:Nat):okP l lo hi lsn i= !zW l 1 lo hi lsn i:=by
 have b1:=a2e l (1+2*(i-1));have b2:=a2e l (1+2*i);unfold okP zW aB V6;rw[show 1+2*i+1=2+2*i by omega]
 rw[Bool.eq_iff_iff];by_cases hi0:i=0
 ·subst hi0;simp
 ·simp[hi0];omega
theorem a9m(a:List UInt8)(k:Nat)(lo hi lsn:Int)(i:Nat):zW (a.drop k) 1 lo hi lsn i=zW a (k+1) lo hi lsn i:=by
 unfold zW;simp only[b3l];rw[show k+(1+2*i)=k+1+2*i by omega,show k+(1+2*i+1)=k+1+2*i+1 by omega,show k+(1+2*(i-1))=k+1+2*(i-1) by omega]
theorem b8h(a:List UInt8)(lsn:Int):a1f a lsn=ckS a lsn:=by
 have n0:(numR a).toNat=T9 a:=by simp[numR,T9,C1]
 have n0':numR a=(T9 a:Int):=by have:=z4 a;omega
 have n1:numR (a.drop (1+2*T9 a))=(y3 a:Int):=by rw[tZ];have:=a2e a (1+2*T9 a);simp[y3];omega
 have n1':(numR (a.drop (1+2*T9 a))).toNat=y3 a:=by omega
 have E1:P9 8 0 7 lsn a false=⟨a.drop (1+2*T9 a),decide (a.length<1+2*T9 a),decide ((T9 a:Int)<=8)&& !anyI (T9 a) (zW a 1 0 7 lsn),aB a 0 (T9 a)⟩:=by
  unfold P9;rw[b7E,n0,n0',a5t (a5V a 0 7 lsn (.inl rfl)),Bool.false_or]
 have E2:P9 10 1 60 lsn (a.drop (1+2*T9 a)) (decide (a.length<1+2*T9 a))=⟨a.drop (2+2*T9 a+2*y3 a),decide (a.length<2+2*T9 a+2*y3 a),decide ((y3 a:Int)<=10)&& !anyI (y3 a) (zW a (2+2*T9 a) 1 60 lsn),aB (a.drop (1+2*T9 a)) 1 (y3 a)⟩:=by
  unfold P9;rw[b7E,n1',n1,a5t (a5V (a.drop (1+2*T9 a)) 1 60 lsn (.inr rfl))];congr 1
  ·rw[List.drop_drop];congr 1;omega
  ·rw[Bool.eq_iff_iff];simp;omega
  ·congr 2
   unfold anyI;congr 1
   funext i
   rw[a9m];congr 1
   omega
 unfold a1f;rw[E1];simp only;rw[E2];simp only;have hE:(a.drop (2+2*T9 a+2*y3 a)).isEmpty=decide (a.length<=2+2*T9 a+2*y3 a):=by rw[Bool.eq_iff_iff];simp
 rw[hE];by_cases hr:0<a.length/\1+2*T9 a<a.length/\2+2*T9 a+2*y3 a=a.length
 ·have c0:zL a=T9 a:=by unfold zL;rw[if_pos ⟨hr.1,by omega⟩]
  have c1:u7 a=y3 a:=by unfold u7;rw[if_pos ⟨hr.1,hr.2.1,by omega⟩]
  unfold ckS;rw[show xZ a=true from iO hr,c0,c1]
  rw[show decide (a.length<1+2*T9 a)=false from tW (by omega),show decide (a.length<2+2*T9 a+2*y3 a)=false from tW (by omega),show decide (a.length<=2+2*T9 a+2*y3 a)=true from iO (by omega)]
  rw[show decide ((T9 a:Int)<=8)=decide (T9 a<=8) from decide_eq_decide.2 (by omega),show decide ((y3 a:Int)<=10)=decide (y3 a<=10) from decide_eq_decide.2 (by omega)]
  generalize anyI (T9 a) _=x;generalize anyI (y3 a) _=y;generalize decide (T9 a<=8)=u;generalize decide (y3 a<=10)=v;cases x<;>cases y<;>cases u<;>cases v<;>rfl
 ·have:ckS a lsn=false:=by
   unfold ckS;rw[show xZ a=false from tW hr]
   rfl
  rw[this];by_cases h1:a.length<2+2*T9 a+2*y3 a
  ·rw[show decide (a.length<2+2*T9 a+2*y3 a)=true from iO h1]
   simp
  ·have h2:¬a.length<=2+2*T9 a+2*y3 a:=by omega
   rw[show decide (a.length<=2+2*T9 a+2*y3 a)=false from tW h2]
   simp

noncomputable def oU:List T->Option (T×Option Prop)
 | [.agg [.int .i64 e,.int .i64 l,.int .i64 t,.int .i64 k,.int .i64 p,.int .i64 n,.int .i64 g,.int .i64 s,.str b,.str a]]=>some (.bool (Q6 ⟨e,l,t,k,p,n,g,s,b,a⟩),some (N3 a.length))
 |_=>none
noncomputable def a1M:Con:=.pure oU
theorem a0w(r:Rec)(x:Bool)(h:
  ((!V6 r.e (1:Int) (60:Int)|| !V6 r.l (1:Int) (60:Int)|| !V6 r.k (1:Int) (6:Int))=false->X2 .i64 (r.l- (1:Int)))/\((!V6 r.e (1:Int) (60:Int)|| !V6 r.l (1:Int) (60:Int)|| !V6 r.k (1:Int) (6:
  Int)|| !V6 r.p (0:Int) (r.l- (1:Int)))=false->X2 .i64 (r.l- (1:Int)))/\((!V6 r.e (1:Int) (60:Int)|| !V6 r.l (1:Int) (60:Int)|| !V6 r.k (1:Int) (6:Int)|| !V6 r.p (0:Int) (r.l- (1:Int))|| !V6
  r.n (0:Int) (r.l- (1:Int))|| !V6 r.g (0:Int) (7:Int)|| !V6 r.s (0:Int) (3:Int)||decide ((r.b.length:Int)>(30:Int)))=true->false=x)/\((!V6 r.e (1:Int) (60:Int)|| !V6 r.l (1:Int) (60:Int)||
  !V6 r.k (1:Int) (6:Int)|| !V6 r.p (0:Int) (r.l- (1:Int))|| !V6 r.n (0:Int) (r.l- (1:Int))|| !V6 r.g (0:Int) (7:Int)|| !V6 r.s (0:Int) (3:Int)||decide ((r.b.length:Int)>(30:Int)))=false->
  ((r.k==(6:Int))=true->((r.t==(0:Int)&&r.p==(0:Int)&&r.n==(0:Int)&&r.g==(0:Int)&&r.s==(0:Int)&&r.b==[])=true->b1t r.a r.l)/\(r.t==(0:Int)&&r.p==(0:Int)&&r.n==(0:Int)&&
  r.g==(0:Int)&&r.s==(0:Int)&&r.b==[]&&ckS r.a r.l)=x)/\((r.k==(6:Int))=false->((!V6 r.t (1:Int) (60:Int)||decide ((r.a.length:Int)>(30:Int)))=true->false=x)/\((!V6 r.t (1:Int) (60:
  Int)||decide ((r.a.length:Int)>(30:Int)))=false->((!(r.k==(2:Int)||r.k==(3:Int))&&(r.g !=(0:Int)||r.s !=(0:Int)|| !r.b==[]|| !r.a==[])||r.k !=(3:Int)&&r.n !=(0:Int)||r.k==(3:Int)
  && !r.b==[])=true->false=x)/\((!(r.k==(2:Int)||r.k==(3:Int))&&(r.g !=(0:Int)||r.s !=(0:Int)|| !r.b==[]|| !r.a==[])||r.k !=(3:Int)&&r.n !=(0:Int)||r.k==(3:Int)&& !r.b==[])=
  false->((r.k==(1:Int))==(r.p==(0:Int)))=x))))):
  U3 Tryz.prog 138 [.agg r.ts] (.bool x):=
 S3 (gC a4d (gC o8 gN)) Tryz.func138 Z0 h
theorem c0b{p k a b:Int}:((k==b)=(p==a))↔(k=b↔p=a):=by
 rw[Bool.eq_iff_iff,beq_iff_eq,beq_iff_eq]
theorem rO:GK 138 a1M:=gk Tryz.func138<|by
 intro args res p h hp;unfold oU at h;split at h
 case h_2=>cases h
 rename_i e l t k p n g s b a;simp only[W8,U0] at h;obtain⟨rfl,rfl⟩:=h;have hp:a.length<1000000000000:=hp;refine a0w ⟨e,l,t,k,p,n,g,s,b,a⟩ _ ?_
 simp only[Rec.e,Rec.l,Rec.t,Rec.k,Rec.p,Rec.n,Rec.g,Rec.s,Rec.b,Rec.a];have hr:∀{q:Bool},(!V6 e 1 60|| !V6 l 1 60||q)=false->X2 .i64 (l-1):=by
  intro q h;simp only[tU,xE,V6,I3,m5] at h;exact Z4 (by omega)
 refine⟨hr,λh=>hr (q:= !V6 k 1 6|| !V6 p 0 (l-1)) (by rw[←h];simp[Bool.or_assoc]),λh=> ?_,λh=> ?_⟩
 ·refine(xI ?_).symm
  simp only[nO,vO,V6,Bool.and_eq_false_iff,tQ,m5] at h;unfold zF;simp only;omega
 simp only[tU,xE,V6,I3,m5,tQ] at h;by_cases h6:k=6
 ·subst h6;refine⟨λ_=>⟨λ_=>⟨hp,by omega,by omega⟩,uR ?_⟩,λh=>by simp at h⟩
  rw[Q1,←b8h];simp only[zF,m5,I3,beq_iff_eq,true_and,and_true];constructor
  ·rintro⟨⟨⟨⟨⟨⟨rfl,rfl⟩,rfl⟩,rfl⟩,rfl⟩,rfl⟩,hc⟩;simp[hc];omega
  ·rintro⟨_,_,_,_,_,_,_,_,_,_,_,_,_,_,_,hh,_⟩;obtain⟨rfl,rfl,rfl,rfl,rfl,rfl,hc⟩:=hh trivial;simp[hc]
 refine⟨λh=>absurd (by simpa using h) h6,λ_=>⟨λhb=> ?_,λhb=>⟨λhc=> ?_,λhc=>uR ?_⟩⟩⟩
 ·refine(xI ?_).symm
  simp[V6] at hb;unfold zF;simp only;omega
 ·refine(xI ?_).symm
  unfold zF;simp only;rintro⟨_,_,_,_,_,_,_,_,_,_,_,_,_,_,_,_,hh⟩;obtain⟨c1,c2,c3,c4,c5,c6,c7⟩:=hh h6;simp only[nO,I3,vO,tU,beq_iff_eq,bne_iff_ne,beq_eq_false_iff_ne] at hc;rcases hc with(⟨⟨x2,x3⟩,hc⟩|⟨x3,hn⟩)|⟨x3,hn⟩
  ·obtain⟨d1,d2,d3,d4⟩:=c4 x2 x3;rcases hc with((hc|hc)|hc)|hc
   ·exact hc d1
   ·exact hc d2
   ·exact hc d3
   ·exact hc d4
  ·exact hn (c5 x3)
  ·exact hn (c6 x3)
 ·rw[Q1];simp only[zF,c0b,true_and,and_true,beq_iff_eq];simp[V6] at hb hc;constructor
  ·intro hk;refine⟨by omega,by omega,by omega,by omega,by omega,by omega,by omega,by omega,by omega,by omega,by omega,by omega,by omega,by omega,by omega,λh=>absurd h h6,λ_=>⟨by omega,by omega,by omega,λx2 x3=> ?_,λx3=> ?_,λx3=> ?_,hk⟩⟩
   ·have:=hc.1.1 x2 x3;exact⟨this.1.1.1,this.1.1.2,this.1.2,this.2⟩
   ·exact hc.1.2 x3
   ·exact hc.2 x3
  ·rintro⟨_,_,_,_,_,_,_,_,_,_,_,_,_,_,_,_,hh⟩;exact(hh h6).2.2.2.2.2.2
end Go.Proofs.YtokaojbaacnngaaGreat

