/- A part of the proof. -/
import Derived.Test.YtokaojbaacnngaaGreatD4
namespace Go.Proofs.YtokaojbaacnngaaGreat
set_option maxRecDepth 100000
open Go.SS

def q8(a:List UInt8)(at0:Nat)(lo hi lsn:Int)(i:Nat):Bool:=
 !W9 (F9 a (at0+2*i)) lo hi|| !W9 (F9 a (at0+2*i+1)) 1 (lsn-1)||(decide ((i:Int)>0)&&decide (F9 a (at0+2*(i-1))≥F9 a (at0+2*i)))
def ckS(a:List UInt8)(lsn:Int):Bool:=
 c9 a&&decide (m9 a<=8)&&decide (C1 a<=10)&& !anyI (m9 a) (q8 a 1 0 7 lsn)&& !anyI (C1 a) (q8 a (2+2*V2 a) 1 60 lsn)
def c6j(a:List UInt8)(n:Int):Prop:=a.length<1000000000000/\ -1000000000000<=n/\n<=1000000000000
def a6D:List T->Option (T×Option Prop)
 | [.agg [.int .i64 e,.int .i64 l,.int .i64 t,.int .i64 k,.int .i64 p,.int .i64 n,.int .i64 g,.int .i64 s,.str b,.str a]]=>some (.bool (ckS a l),some (c6j a l))
 |_=>none
def b8M:Con:=.pure a6D
def c0S(r:Rec):Nat->Ann
 |1=>.one (W5 (C1 r.a) (q8 r.a (2+2*V2 r.a) 1 60 r.l)) (fun x=>⟨[(1,.ref 0 0 0),(4,.sl 2 (C1 r.a) (X8 r.a (2+2*V2 r.a))),(7,.int .i64 x.1)],[some (.arr true 1000000 10 1 fun _=>r.ts)]⟩) (fun x=>C1 r.a-x.1) [.arr 0] [.arr 0] (fun _=>Z0)
 |_=>.none
def b9K(r:Rec):Nat->Ann
 |0=>.one (W5 (m9 r.a) (q8 r.a 1 0 7 r.l)) (fun x=>⟨[(1,.ref 0 0 0),(3,.sl 2 (m9 r.a) (X8 r.a 1)),(4,.sl 2 (C1 r.a) (X8 r.a (2+2*V2 r.a))),(6,.int .i64 x.1)],[some (.arr true 1000000 10 1 fun _=>r.ts)]⟩) (fun x=>m9 r.a-x.1) [.arr 0] [.arr 0] (fun _=>c0S r)
 |_=>.none
noncomputable def c1H:Code:=Tryz.f200.body.getD .skip
theorem a7B:Z8 Tryz.prog 200:=⟨_,Tryz.func200,by kernel_rfl,by kernel_rfl⟩
theorem c2d(r:Rec)(h:
  N8 r.a.length/\((!c9 r.a||decide ((↑(m9 r.a):Int)>(8:Int))||decide ((↑(C1 r.a):Int)>(10:Int)))=true->false=ckS r.a r.l)/\((!c9 r.a||decide ((↑(m9 r.a):Int)>(8:Int))||decide ((↑(C1 r.a):
  Int)>(10:Int)))=false->(∃(x:W5 (m9 r.a) (q8 r.a 1 (0:Int) (7:Int) r.l)),((0=0/\0=0)/\(m9 r.a=m9 r.a/\Z7 (m9 r.a) (X8 r.a 1) (X8 r.a 1))/\(C1 r.a=C1 r.a/\Z7 (C1 r.a) (X8
  r.a (2+2*V2 r.a)) (X8 r.a (2+2*V2 r.a)))/\(0:Int)=(x.val:Int)/\True)/\(1=1/\Z7 1 (fun(x:Nat)=>[T.int .i64 r.e,T.int .i64 r.l,T.int .i64 r.t,T.int .i64 r.k,T.int .i64 r.p,T.int .i64 r.n,T.int
  .i64 r.g,T.int .i64 r.s,T.str r.b,T.str r.a]) fun(x:Nat)=>[T.int .i64 r.e,T.int .i64 r.l,T.int .i64 r.t,T.int .i64 r.k,T.int .i64 r.p,T.int .i64 r.n,T.int .i64 r.g,T.int .i64 r.s,T.str r.b,T.str r.a])/\True)/\∀
  (x:W5 (m9 r.a) (q8 r.a 1 (0:Int) (7:Int) r.l)),(decide ((x.val:Int)<(↑(m9 r.a):Int))=true->W7 (x.val:Int) (m9 r.a)/\W7 (0:Int) 2/\((!W9 (F9 r.a (1+2*(x.val:Int).toNat)) (0:Int) (7:Int))=false
  ->W7 (x.val:Int) (m9 r.a))/\((!W9 (F9 r.a (1+2*(x.val:Int).toNat)) (0:Int) (7:Int))=false->W7 (1:Int) 2)/\((!W9 (F9 r.a (1+2*(x.val:Int).toNat)) (0:Int) (7:Int))=false->X6 .i64 (r.l- (1:Int)))
  /\((!W9 (F9 r.a (1+2*(x.val:Int).toNat)) (0:Int) (7:Int)|| !W9 (F9 r.a (1+2*(x.val:Int).toNat+1)) (1:Int) (r.l- (1:Int)))=false->decide ((x.val:Int)>(0:Int))=true->X6 .i64 ((x.val:Int)- (1:
  Int)))/\((!W9 (F9 r.a (1+2*(x.val:Int).toNat)) (0:Int) (7:Int)|| !W9 (F9 r.a (1+2*(x.val:Int).toNat+1)) (1:Int) (r.l- (1:Int)))=false->decide ((x.val:Int)>(0:Int))=true->W7 ((x.val:Int)- (1:
  Int)) (m9 r.a))/\((!W9 (F9 r.a (1+2*(x.val:Int).toNat)) (0:Int) (7:Int)|| !W9 (F9 r.a (1+2*(x.val:Int).toNat+1)) (1:Int) (r.l- (1:Int)))=false->decide ((x.val:Int)>(0:Int))=true->W7 (0:Int)
  2)/\((!W9 (F9 r.a (1+2*(x.val:Int).toNat)) (0:Int) (7:Int)|| !W9 (F9 r.a (1+2*(x.val:Int).toNat+1)) (1:Int) (r.l- (1:Int)))=false->decide ((x.val:Int)>(0:Int))=true->W7 (x.val:Int) (m9 r.a))/\
  ((!W9 (F9 r.a (1+2*(x.val:Int).toNat)) (0:Int) (7:Int)|| !W9 (F9 r.a (1+2*(x.val:Int).toNat+1)) (1:Int) (r.l- (1:Int)))=false->decide ((x.val:Int)>(0:Int))=true->W7 (0:Int) 2)/\((!W9 (F9 r.a
  (1+2*(x.val:Int).toNat)) (0:Int) (7:Int)|| !W9 (F9 r.a (1+2*(x.val:Int).toNat+1)) (1:Int) (r.l- (1:Int))||decide ((x.val:Int)>(0:Int))&&decide (F9 r.a (1+2*((x.val:Int)- (1:Int)).toNat)≥F9
  r.a (1+2*(x.val:Int).toNat)))=true->false=ckS r.a r.l)/\((!W9 (F9 r.a (1+2*(x.val:Int).toNat)) (0:Int) (7:Int)|| !W9 (F9 r.a (1+2*(x.val:Int).toNat+1)) (1:Int) (r.l- (1:Int))||decide
  ((x.val:Int)>(0:Int))&&decide (F9 r.a (1+2*((x.val:Int)- (1:Int)).toNat)≥F9 r.a (1+2*(x.val:Int).toNat)))=false->X6 .i64 ((x.val:Int)+(1:Int))/\∃(y:W5 (m9 r.a) (q8 r.a 1 (0:Int) (7:Int)
  r.l)),(((0=0/\0=0)/\(m9 r.a=m9 r.a/\Z7 (m9 r.a) (X8 r.a 1) (X8 r.a 1))/\(C1 r.a=C1 r.a/\Z7 (C1 r.a) (X8 r.a (2+2*V2 r.a)) (X8 r.a (2+2*V2 r.a)))/\(x.val:Int)+(1:Int)=
  (y.val:Int)/\True)/\(1=1/\Z7 1 (fun(x:Nat)=>[T.int .i64 r.e,T.int .i64 r.l,T.int .i64 r.t,T.int .i64 r.k,T.int .i64 r.p,T.int .i64 r.n,T.int .i64 r.g,T.int .i64 r.s,T.str r.b,T.str r.a]) fun(x:Nat)=>
  [T.int .i64 r.e,T.int .i64 r.l,T.int .i64 r.t,T.int .i64 r.k,T.int .i64 r.p,T.int .i64 r.n,T.int .i64 r.g,T.int .i64 r.s,T.str r.b,T.str r.a])/\True)/\Lt (m9 r.a-y.val) (m9 r.a-x.val)))/\(decide ((x.val:Int)<
  (↑(m9 r.a):Int))=false->(∃(x:W5 (C1 r.a) (q8 r.a (2+2*V2 r.a) (1:Int) (60:Int) r.l)),((0=0/\0=0)/\(C1 r.a=C1 r.a/\Z7 (C1 r.a) (X8 r.a (2+2*V2 r.a)) (X8 r.a (2+2*V2 r.a)))
  /\(0:Int)=(x.val:Int)/\True)/\(1=1/\Z7 1 (fun(x:Nat)=>[T.int .i64 r.e,T.int .i64 r.l,T.int .i64 r.t,T.int .i64 r.k,T.int .i64 r.p,T.int .i64 r.n,T.int .i64 r.g,T.int .i64 r.s,T.str r.b,T.str r.a]) fun(x
  :Nat)=>[T.int .i64 r.e,T.int .i64 r.l,T.int .i64 r.t,T.int .i64 r.k,T.int .i64 r.p,T.int .i64 r.n,T.int .i64 r.g,T.int .i64 r.s,T.str r.b,T.str r.a])/\True)/\∀(x:W5 (C1 r.a) (q8 r.a (2+2*V2 r.a) (1:Int)
  (60:Int) r.l)),(decide ((x.val:Int)<(↑(C1 r.a):Int))=true->W7 (x.val:Int) (C1 r.a)/\W7 (0:Int) 2/\((!W9 (F9 r.a (2+2*V2 r.a+2*(x.val:Int).toNat)) (1:Int) (60:Int))=false->W7 (x.val:Int) (C1
  r.a))/\((!W9 (F9 r.a (2+2*V2 r.a+2*(x.val:Int).toNat)) (1:Int) (60:Int))=false->W7 (1:Int) 2)/\((!W9 (F9 r.a (2+2*V2 r.a+2*(x.val:Int).toNat)) (1:Int) (60:Int))=false->X6 .i64 (r.l- (1:
  Int)))/\((!W9 (F9 r.a (2+2*V2 r.a+2*(x.val:Int).toNat)) (1:Int) (60:Int)|| !W9 (F9 r.a (2+2*V2 r.a+2*(x.val:Int).toNat+1)) (1:Int) (r.l- (1:Int)))=false->decide ((x.val:Int)>(0:Int))=
  true->X6 .i64 ((x.val:Int)- (1:Int)))/\((!W9 (F9 r.a (2+2*V2 r.a+2*(x.val:Int).toNat)) (1:Int) (60:Int)|| !W9 (F9 r.a (2+2*V2 r.a+2*(x.val:Int).toNat+1)) (1:Int) (r.l- (1:Int)))=false->
  decide ((x.val:Int)>(0:Int))=true->W7 ((x.val:Int)- (1:Int)) (C1 r.a))/\((!W9 (F9 r.a (2+2*V2 r.a+2*(x.val:Int).toNat)) (1:Int) (60:Int)|| !W9 (F9 r.a (2+2*V2 r.a+2*(x.val:Int).toNat+1))
  (1:Int) (r.l- (1:Int)))=false->decide ((x.val:Int)>(0:Int))=true->W7 (0:Int) 2)/\((!W9 (F9 r.a (2+2*V2 r.a+2*(x.val:Int).toNat)) (1:Int) (60:Int)|| !W9 (F9 r.a (2+2*V2 r.a+2*
  (x.val:Int).toNat+1)) (1:Int) (r.l- (1:Int)))=false->decide ((x.val:Int)>(0:Int))=true->W7 (x.val:Int) (C1 r.a))/\((!W9 (F9 r.a (2+2*V2 r.a+2*(x.val:Int).toNat)) (1:Int) (60:Int)|| !W9 (F9 r.a
  (2+2*V2 r.a+2*(x.val:Int).toNat+1)) (1:Int) (r.l- (1:Int)))=false->decide ((x.val:Int)>(0:Int))=true->W7 (0:Int) 2)/\((!W9 (F9 r.a (2+2*V2 r.a+2*(x.val:Int).toNat)) (1:Int) (60:Int)||
  !W9 (F9 r.a (2+2*V2 r.a+2*(x.val:Int).toNat+1)) (1:Int) (r.l- (1:Int))||decide ((x.val:Int)>(0:Int))&&decide (F9 r.a (2+2*V2 r.a+2*((x.val:Int)- (1:Int)).toNat)≥F9 r.a (2+2*V2 r.a+2
  *(x.val:Int).toNat)))=true->false=ckS r.a r.l)/\((!W9 (F9 r.a (2+2*V2 r.a+2*(x.val:Int).toNat)) (1:Int) (60:Int)|| !W9 (F9 r.a (2+2*V2 r.a+2*(x.val:Int).toNat+1)) (1:Int) (r.l- (1:Int))||
  decide ((x.val:Int)>(0:Int))&&decide (F9 r.a (2+2*V2 r.a+2*((x.val:Int)- (1:Int)).toNat)≥F9 r.a (2+2*V2 r.a+2*(x.val:Int).toNat)))=false->X6 .i64 ((x.val:Int)+(1:Int))/\∃(y:W5 (C1 r.a)
  (q8 r.a (2+2*V2 r.a) (1:Int) (60:Int) r.l)),(((0=0/\0=0)/\(C1 r.a=C1 r.a/\Z7 (C1 r.a) (X8 r.a (2+2*V2 r.a)) (X8 r.a (2+2*V2 r.a)))/\(x.val:Int)+(1:Int)=(y.val:Int)/\True)/\
  (1=1/\Z7 1 (fun(x:Nat)=>[T.int .i64 r.e,T.int .i64 r.l,T.int .i64 r.t,T.int .i64 r.k,T.int .i64 r.p,T.int .i64 r.n,T.int .i64 r.g,T.int .i64 r.s,T.str r.b,T.str r.a]) fun(x:Nat)=>[T.int .i64 r.e,T.int
  .i64 r.l,T.int .i64 r.t,T.int .i64 r.k,T.int .i64 r.p,T.int .i64 r.n,T.int .i64 r.g,T.int .i64 r.s,T.str r.b,T.str r.a])/\True)/\Lt (C1 r.a-y.val) (C1 r.a-x.val)))/\(decide ((x.val:Int)<(↑(C1 r.a):Int))=
  false->true=ckS r.a r.l)))):
  Z1 Tryz.prog 200 [.agg r.ts] (.bool (ckS r.a r.l)):=
 T7 (code:=c1H) (gC a7A a5p (gC A7 I3 gN)) Tryz.func200 (by kernel_rfl) (by kernel_rfl) (b9K r) h (by kernel_rfl)
theorem b76(a:List UInt8)(at0:Nat)(lo hi lsn:Int)(i:Nat):
  q8 a at0 lo hi lsn i=(!W9 (F9 a (at0+2*(i:Int).toNat)) lo hi|| !W9 (F9 a (at0+2*(i:Int).toNat+1)) 1 (lsn-1)||(decide ((i:Int)>0)&&decide (F9 a (at0+2*((i:Int)-1).toNat)≥F9 a (at0+2*(i:Int).toNat)))):=by
 unfold q8;rw[Int.toNat_natCast,show((i:Int)-1).toNat=i-1 by omega]
theorem b6o:Z2 Tryz.prog 200 b8M:=by
 intro args res p h hp;unfold a6D at h;split at h
 case h_2=>cases h
 rename_i e l t k p n g s b a;simp only[Option.some.injEq,Prod.mk.injEq] at h;obtain⟨rfl,rfl⟩:=h;obtain⟨hn,hl1,hl2⟩:c6j a l:=hp;have q0:m9 a<=a.length:=by unfold m9;split<;>omega
 have q1:C1 a<=a.length:=by unfold C1;split<;>omega
 have r0:∀(n:Nat) (row:Nat->List T),Z7 n row row:=fun n row i hi=>rfl
 refine c2d ⟨e,l,t,k,p,n,g,s,b,a⟩ ?_
 simp only[Rec.e,Rec.l,Rec.t,Rec.k,Rec.p,Rec.n,Rec.g,Rec.s,Rec.b,Rec.a];refine⟨hn,fun hb=> ?_,fun hb=>⟨⟨I5,⟨⟨(by first|rfl|trivial),(by first|rfl|trivial)⟩,⟨(by first|rfl|trivial),r0 _ _⟩,⟨(by first|rfl|trivial),r0 _ _⟩,(by first|rfl|trivial),trivial⟩,⟨(by first|rfl|trivial),r0 _ _⟩,trivial⟩,fun x=>⟨fun hc=> ?_,fun hc=> ?_⟩⟩⟩
 ·unfold ckS;simp only[Bool.or_eq_true,Bool.not_eq_true',decide_eq_true_eq] at hb;rcases hb with(hb|hb)|hb
  ·rw[hb];rfl
  ·rw[show decide (m9 a<=8)=false from decide_eq_false (by omega)];simp
  ·rw[show decide (C1 a<=10)=false from decide_eq_false (by omega)];simp
 ·have hlt:=Y6 hc;have i2:W7 0 2:=⟨by omega,by omega⟩
  have i2':W7 1 2:=⟨by omega,by omega⟩
  rw[←b76];refine⟨Y8 hlt,i2,fun _=>Y8 hlt,fun _=>i2',fun _=>Z5 (by omega),fun _ _=>Z5 (by omega),fun _ hh=> ?_,fun _ _=>i2,fun _ _=>Y8 hlt,fun _ _=>i2,fun hp=> ?_,fun hp=>⟨W8 hlt (by omega),x.succ hlt hp,⟨⟨⟨(by first|rfl|trivial),(by first|rfl|trivial)⟩,⟨(by first|rfl|trivial),r0 _ _⟩,⟨(by first|rfl|trivial),r0 _ _⟩,(by first|rfl|trivial),trivial⟩,⟨(by first|rfl|trivial),r0 _ _⟩,trivial⟩,W5.ext_lt hlt⟩⟩
  ·have:=of_decide_eq_true hh;exact⟨by omega,by omega⟩
  ·have:anyI (m9 a) (q8 a 1 0 7 l)=true:=Q1.2 ⟨x.1,hlt,hp⟩;simp[ckS,this]
 ·have hge:=Y2 hc;have g0:anyI (m9 a) (q8 a 1 0 7 l)=false:=by
   rw[Bool.eq_false_iff,ne_eq,Q1];rintro⟨i,hi,h⟩;rw[x.2.2 i (by omega)] at h
   cases h
  refine⟨⟨I5,⟨⟨(by first|rfl|trivial),(by first|rfl|trivial)⟩,⟨(by first|rfl|trivial),r0 _ _⟩,(by first|rfl|trivial),trivial⟩,⟨(by first|rfl|trivial),r0 _ _⟩,trivial⟩,fun y=>⟨fun hc=> ?_,fun hc=> ?_⟩⟩
  ·have hlt:=Y6 hc;have i2:W7 0 2:=⟨by omega,by omega⟩
   have i2':W7 1 2:=⟨by omega,by omega⟩
   rw[←b76];refine⟨Y8 hlt,i2,fun _=>Y8 hlt,fun _=>i2',fun _=>Z5 (by omega),fun _ _=>Z5 (by omega),fun _ hh=> ?_,fun _ _=>i2,fun _ _=>Y8 hlt,fun _ _=>i2,fun hp=> ?_,fun hp=>⟨W8 hlt (by omega),y.succ hlt hp,⟨⟨⟨(by first|rfl|trivial),(by first|rfl|trivial)⟩,⟨(by first|rfl|trivial),r0 _ _⟩,(by first|rfl|trivial),trivial⟩,⟨(by first|rfl|trivial),r0 _ _⟩,trivial⟩,W5.ext_lt hlt⟩⟩
   ·have:=of_decide_eq_true hh;exact⟨by omega,by omega⟩
   ·have:anyI (C1 a) (q8 a (2+2*V2 a) 1 60 l)=true:=Q1.2 ⟨y.1,hlt,hp⟩;simp[ckS,this]
  ·have hge:=Y2 hc;have g1:anyI (C1 a) (q8 a (2+2*V2 a) 1 60 l)=false:=by
    rw[Bool.eq_false_iff,ne_eq,Q1];rintro⟨i,hi,h⟩;rw[y.2.2 i (by omega)] at h
    cases h
   simp only[Bool.or_eq_false_iff,Bool.not_eq_false',decide_eq_false_iff_not] at hb;unfold ckS;rw[g0,g1,hb.1.1,show decide (m9 a<=8)=true from decide_eq_true (by omega),show decide (C1 a<=10)=true from decide_eq_true (by omega)]
   rfl
end Go.Proofs.YtokaojbaacnngaaGreat

namespace Go.Proofs.YtokaojbaacnngaaGreat
set_option maxRecDepth 100000
open Go.SS

theorem a1g(l:List UInt8)(k:Nat):numR (l.drop k)=F9 l k:=by
 unfold numR F9;simp[List.getD_eq_getElem?_getD]
theorem c9e(l:List UInt8)(k i:Nat):F9 (l.drop k) i=F9 l (k+i):=by
 unfold F9;simp[List.getD_eq_getElem?_getD]
theorem b5s(l:List UInt8)(k:Nat):0<=F9 l k:=by unfold F9;omega
def b2O(l:List UInt8)(lo:Int)(i:Nat):Int:=if i=0 then lo-1 else F9 l (1+2*(i-1))
def okP(l:List UInt8)(lo hi lsn:Int)(i:Nat):Bool:=W9 (F9 l (1+2*i)) (b2O l lo i+1) hi&&W9 (F9 l (2+2*i)) 1 (lsn-1)
theorem d3r(most lo hi lsn:Int)(l:List UInt8)(fl:Bool)(i:Nat):
  RdSt.go hi lsn (g7 most lo l fl) i=⟨l.drop (1+2*i),fl||decide (l.length<1+2*i),decide (numR l<=most)&&(List.range i).all (okP l lo hi lsn),b2O l lo i⟩:=by
 induction i with
 |zero=>
  simp only[RdSt.go,g7,b2O,if_true,List.range_zero,List.all_nil,Bool.and_true,Nat.mul_zero,Nat.add_zero];cases l<;>simp
 |succ i ih=>
  simp only[RdSt.go];rw[ih];simp only[RdSt.step];have e1:((l.drop (1+2*i)).drop 1).drop 1=l.drop (1+2*(i+1)):=by
   rw[List.drop_drop,List.drop_drop];congr 1
  have e2:numR ((l.drop (1+2*i)).drop 1)=F9 l (2+2*i):=by
   rw[List.drop_drop,a1g];congr 1
   omega
  have e3:b2O l lo (i+1)=numR (l.drop (1+2*i)):=by
   rw[a1g];simp[b2O]
  have e4:(List.range (i+1)).all (okP l lo hi lsn)=((List.range i).all (okP l lo hi lsn)&&okP l lo hi lsn i):=by
   rw[List.range_succ,List.all_append];simp
  rw[e1,e2,e3,e4,a1g];congr 1
  ·have:(l.drop (1+2*i)).isEmpty=decide (l.length<=1+2*i):=by
    rw[Bool.eq_iff_iff];simp
   have h2:((l.drop (1+2*i)).drop 1).isEmpty=decide (l.length<=1+2*i+1):=by
    rw[Bool.eq_iff_iff];simp
   rw[this,h2,Bool.or_assoc,Bool.or_assoc];congr 1
   rw[Bool.eq_iff_iff];simp;omega
  ·unfold okP;rw[Bool.and_assoc,Bool.and_assoc]
theorem b7S{n:Nat}{p q:Nat->Bool}(h:∀i,p i= !q i):(List.range n).all p= !anyI n q:=by
 unfold anyI;rw[List.not_any_eq_all_not];congr 1
 funext i
 rw[h i]
theorem b7K(l:List UInt8)(lo hi lsn:Int)(h1:lo=0∨lo=1)(i:Nat):okP l lo hi lsn i= !q8 l 1 lo hi lsn i:=by
 have b1:=b5s l (1+2*(i-1));have b2:=b5s l (1+2*i);unfold okP q8 b2O W9;rw[show 1+2*i+1=2+2*i by omega]
 rw[Bool.eq_iff_iff];by_cases hi0:i=0
 ·subst hi0;simp
 ·simp[hi0];omega
theorem c2a(a:List UInt8)(k:Nat)(lo hi lsn:Int)(i:Nat):q8 (a.drop k) 1 lo hi lsn i=q8 a (k+1) lo hi lsn i:=by
 unfold q8;simp only[c9e];rw[show k+(1+2*i)=k+1+2*i by omega,show k+(1+2*i+1)=k+1+2*i+1 by omega,show k+(1+2*(i-1))=k+1+2*(i-1) by omega]
theorem d5C(a:List UInt8)(lsn:Int):a8Z a lsn=ckS a lsn:=by
 have n0:(numR a).toNat=V2 a:=by simp[numR,V2,F9]
 have n0':numR a=(V2 a:Int):=by have:=k7 a;omega
 have n1:numR (a.drop (1+2*V2 a))=(C6 a:Int):=by rw[a1g];have:=b5s a (1+2*V2 a);simp[C6];omega
 have n1':(numR (a.drop (1+2*V2 a))).toNat=C6 a:=by omega
 have E1:S6 8 0 7 lsn a false=⟨a.drop (1+2*V2 a),decide (a.length<1+2*V2 a),decide ((V2 a:Int)<=8)&& !anyI (V2 a) (q8 a 1 0 7 lsn),b2O a 0 (V2 a)⟩:=by
  unfold S6;rw[d3r,n0,n0',b7S (b7K a 0 7 lsn (.inl rfl)),Bool.false_or]
 have E2:S6 10 1 60 lsn (a.drop (1+2*V2 a)) (decide (a.length<1+2*V2 a))=⟨a.drop (2+2*V2 a+2*C6 a),decide (a.length<2+2*V2 a+2*C6 a),decide ((C6 a:Int)<=10)&& !anyI (C6 a) (q8 a (2+2*V2 a) 1 60 lsn),b2O (a.drop (1+2*V2 a)) 1 (C6 a)⟩:=by
  unfold S6;rw[d3r,n1',n1,b7S (b7K (a.drop (1+2*V2 a)) 1 60 lsn (.inr rfl))];congr 1
  ·rw[List.drop_drop];congr 1;omega
  ·rw[Bool.eq_iff_iff];simp;omega
  ·congr 2
   unfold anyI;congr 1
   funext i
   rw[c2a];congr 1
   omega
 unfold a8Z;rw[E1];simp only;rw[E2];simp only;have hE:(a.drop (2+2*V2 a+2*C6 a)).isEmpty=decide (a.length<=2+2*V2 a+2*C6 a):=by rw[Bool.eq_iff_iff];simp
 rw[hE];by_cases hr:0<a.length/\1+2*V2 a<a.length/\2+2*V2 a+2*C6 a=a.length
 ·have c0:m9 a=V2 a:=by unfold m9;rw[if_pos ⟨hr.1,by omega⟩]
  have c1:C1 a=C6 a:=by unfold C1;rw[if_pos ⟨hr.1,hr.2.1,by omega⟩]
  unfold ckS;rw[show c9 a=true from decide_eq_true hr,c0,c1]
  rw[show decide (a.length<1+2*V2 a)=false from decide_eq_false (by omega),show decide (a.length<2+2*V2 a+2*C6 a)=false from decide_eq_false (by omega),show decide (a.length<=2+2*V2 a+2*C6 a)=true from decide_eq_true (by omega)]
  rw[show decide ((V2 a:Int)<=8)=decide (V2 a<=8) from decide_eq_decide.2 (by omega),show decide ((C6 a:Int)<=10)=decide (C6 a<=10) from decide_eq_decide.2 (by omega)]
  generalize anyI (V2 a) _=x;generalize anyI (C6 a) _=y;generalize decide (V2 a<=8)=u;generalize decide (C6 a<=10)=v;cases x<;>cases y<;>cases u<;>cases v<;>rfl
 ·have:ckS a lsn=false:=by
   unfold ckS;rw[show c9 a=false from decide_eq_false hr]
   rfl
  rw[this];by_cases h1:a.length<2+2*V2 a+2*C6 a
  ·rw[show decide (a.length<2+2*V2 a+2*C6 a)=true from decide_eq_true h1]
   simp
  ·have h2:¬a.length<=2+2*V2 a+2*C6 a:=by omega
   rw[show decide (a.length<=2+2*V2 a+2*C6 a)=false from decide_eq_false h2]
   simp

noncomputable def a3g:List T->Option (T×Option Prop)
 | [.agg [.int .i64 e,.int .i64 l,.int .i64 t,.int .i64 k,.int .i64 p,.int .i64 n,.int .i64 g,.int .i64 s,.str b,.str a]]=>some (.bool (S2 ⟨e,l,t,k,p,n,g,s,b,a⟩),some (N8 a.length))
 |_=>none
noncomputable def b0F:Con:=.pure a3g
noncomputable def b0f:Code:=Tryz.f138.body.getD .skip
theorem a0L:Z8 Tryz.prog 138:=⟨_,Tryz.func138,by kernel_rfl,by kernel_rfl⟩
theorem b1K(r:Rec)(x:Bool)(h:
  ((!W9 r.e (1:Int) (60:Int)|| !W9 r.l (1:Int) (60:Int)|| !W9 r.k (1:Int) (6:Int))=false->X6 .i64 (r.l- (1:Int)))/\((!W9 r.e (1:Int) (60:Int)|| !W9 r.l (1:Int) (60:Int)|| !W9 r.k (1:Int) (6:
  Int)|| !W9 r.p (0:Int) (r.l- (1:Int)))=false->X6 .i64 (r.l- (1:Int)))/\((!W9 r.e (1:Int) (60:Int)|| !W9 r.l (1:Int) (60:Int)|| !W9 r.k (1:Int) (6:Int)|| !W9 r.p (0:Int) (r.l- (1:Int))|| !W9
  r.n (0:Int) (r.l- (1:Int))|| !W9 r.g (0:Int) (7:Int)|| !W9 r.s (0:Int) (3:Int)||decide ((r.b.length:Int)>(30:Int)))=true->false=x)/\((!W9 r.e (1:Int) (60:Int)|| !W9 r.l (1:Int) (60:Int)||
  !W9 r.k (1:Int) (6:Int)|| !W9 r.p (0:Int) (r.l- (1:Int))|| !W9 r.n (0:Int) (r.l- (1:Int))|| !W9 r.g (0:Int) (7:Int)|| !W9 r.s (0:Int) (3:Int)||decide ((r.b.length:Int)>(30:Int)))=false->
  ((r.k==(6:Int))=true->((r.t==(0:Int)&&r.p==(0:Int)&&r.n==(0:Int)&&r.g==(0:Int)&&r.s==(0:Int)&&r.b==[])=true->c6j r.a r.l)/\(r.t==(0:Int)&&r.p==(0:Int)&&r.n==(0:Int)&&
  r.g==(0:Int)&&r.s==(0:Int)&&r.b==[]&&ckS r.a r.l)=x)/\((r.k==(6:Int))=false->((!W9 r.t (1:Int) (60:Int)||decide ((r.a.length:Int)>(30:Int)))=true->false=x)/\((!W9 r.t (1:Int) (60:
  Int)||decide ((r.a.length:Int)>(30:Int)))=false->((!(r.k==(2:Int)||r.k==(3:Int))&&(r.g !=(0:Int)||r.s !=(0:Int)|| !r.b==[]|| !r.a==[])||r.k !=(3:Int)&&r.n !=(0:Int)||r.k==(3:Int)
  && !r.b==[])=true->false=x)/\((!(r.k==(2:Int)||r.k==(3:Int))&&(r.g !=(0:Int)||r.s !=(0:Int)|| !r.b==[]|| !r.a==[])||r.k !=(3:Int)&&r.n !=(0:Int)||r.k==(3:Int)&& !r.b==[])=
  false->((r.k==(1:Int))==(r.p==(0:Int)))=x))))):
  Z1 Tryz.prog 138 [.agg r.ts] (.bool x):=
 T7 (code:=b0f) (gC b6o a7B (gC A7 I3 gN)) Tryz.func138 (by kernel_rfl) (by kernel_rfl) Z0 h (by kernel_rfl)
theorem d6r{p k a b:Int}:((k==b)=(p==a))↔(k=b↔p=a):=by
 rw[Bool.eq_iff_iff,beq_iff_eq,beq_iff_eq]
theorem a16:Z2 Tryz.prog 138 b0F:=by
 intro args res p h hp;unfold a3g at h;split at h
 case h_2=>cases h
 rename_i e l t k p n g s b a;simp only[Option.some.injEq,Prod.mk.injEq] at h;obtain⟨rfl,rfl⟩:=h;have hp:a.length<1000000000000:=hp;refine b1K ⟨e,l,t,k,p,n,g,s,b,a⟩ _ ?_
 simp only[Rec.e,Rec.l,Rec.t,Rec.k,Rec.p,Rec.n,Rec.g,Rec.s,Rec.b,Rec.a];have hr:∀{q:Bool},(!W9 e 1 60|| !W9 l 1 60||q)=false->X6 .i64 (l-1):=by
  intro q h;simp only[Bool.or_eq_false_iff,Bool.not_eq_false',W9,Bool.and_eq_true,decide_eq_true_eq] at h;exact Z5 (by omega)
 refine⟨hr,fun h=>hr (q:= !W9 k 1 6|| !W9 p 0 (l-1)) (by rw[←h];simp[Bool.or_assoc]),fun h=> ?_,fun h=> ?_⟩
 ·refine(e9 ?_).symm
  simp only[Bool.or_eq_true,Bool.not_eq_true',W9,Bool.and_eq_false_iff,decide_eq_false_iff_not,decide_eq_true_eq] at h;unfold m7;simp only;omega
 simp only[Bool.or_eq_false_iff,Bool.not_eq_false',W9,Bool.and_eq_true,decide_eq_true_eq,decide_eq_false_iff_not] at h;by_cases h6:k=6
 ·subst h6;refine⟨fun _=>⟨fun _=>⟨hp,by omega,by omega⟩,a0Z ?_⟩,fun h=>by simp at h⟩
  rw[Q8,←d5C];simp only[m7,decide_eq_true_eq,Bool.and_eq_true,beq_iff_eq,true_and,and_true];constructor
  ·rintro⟨⟨⟨⟨⟨⟨rfl,rfl⟩,rfl⟩,rfl⟩,rfl⟩,rfl⟩,hc⟩;simp[hc];omega
  ·rintro⟨_,_,_,_,_,_,_,_,_,_,_,_,_,_,_,hh,_⟩;obtain⟨rfl,rfl,rfl,rfl,rfl,rfl,hc⟩:=hh trivial;simp[hc]
 refine⟨fun h=>absurd (by simpa using h) h6,fun _=>⟨fun hb=> ?_,fun hb=>⟨fun hc=> ?_,fun hc=>a0Z ?_⟩⟩⟩
 ·refine(e9 ?_).symm
  simp[W9] at hb;unfold m7;simp only;omega
 ·refine(e9 ?_).symm
  unfold m7;simp only;rintro⟨_,_,_,_,_,_,_,_,_,_,_,_,_,_,_,_,hh⟩;obtain⟨c1,c2,c3,c4,c5,c6,c7⟩:=hh h6;simp only[Bool.or_eq_true,Bool.and_eq_true,Bool.not_eq_true',Bool.or_eq_false_iff,beq_iff_eq,bne_iff_ne,beq_eq_false_iff_ne] at hc;rcases hc with(⟨⟨x2,x3⟩,hc⟩|⟨x3,hn⟩)|⟨x3,hn⟩
  ·obtain⟨d1,d2,d3,d4⟩:=c4 x2 x3;rcases hc with((hc|hc)|hc)|hc
   ·exact hc d1
   ·exact hc d2
   ·exact hc d3
   ·exact hc d4
  ·exact hn (c5 x3)
  ·exact hn (c6 x3)
 ·rw[Q8];simp only[m7,d6r,true_and,and_true,beq_iff_eq];simp[W9] at hb hc;constructor
  ·intro hk;refine⟨by omega,by omega,by omega,by omega,by omega,by omega,by omega,by omega,by omega,by omega,by omega,by omega,by omega,by omega,by omega,fun h=>absurd h h6,fun _=>⟨by omega,by omega,by omega,fun x2 x3=> ?_,fun x3=> ?_,fun x3=> ?_,hk⟩⟩
   ·have:=hc.1.1 x2 x3;exact⟨this.1.1.1,this.1.1.2,this.1.2,this.2⟩
   ·exact hc.1.2 x3
   ·exact hc.2 x3
  ·rintro⟨_,_,_,_,_,_,_,_,_,_,_,_,_,_,_,_,hh⟩;exact(hh h6).2.2.2.2.2.2
end Go.Proofs.YtokaojbaacnngaaGreat

