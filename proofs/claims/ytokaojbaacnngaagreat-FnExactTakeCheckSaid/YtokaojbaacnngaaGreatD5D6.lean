/- A part of the proof. -/
import Derived.Test.YtokaojbaacnngaaGreatD4
namespace Go.Proofs.YtokaojbaacnngaaGreat
set_option maxRecDepth 100000
open Go.SS

def j8(a:List UInt8)(at0:Nat)(lo hi lsn:Int)(i:Nat):Bool:=
 !W8 (E3 a (at0+2*i)) lo hi|| !W8 (E3 a (at0+2*i+1)) 1 (lsn-1)||(decide ((i:Int)>0)&&decide (E3 a (at0+2*(i-1))≥E3 a (at0+2*i)))
def ckS(a:List UInt8)(lsn:Int):Bool:=
 zF a&&decide (j5 a<=8)&&decide (A1 a<=10)&& !anyI (j5 a) (j8 a 1 0 7 lsn)&& !anyI (A1 a) (j8 a (2+2*lo0 a) 1 60 lsn)
def b6e(a:List UInt8)(n:Int):Prop:=a.length<1000000000000/\ -1000000000000<=n/\n<=1000000000000
def gB:List T->Option (T×Option Prop)
 | [.agg [.int .i64 e,.int .i64 l,.int .i64 t,.int .i64 k,.int .i64 p,.int .i64 n,.int .i64 g,.int .i64 s,.str b,.str a]]=>some (.bool (ckS a l),some (b6e a l))
 |_=>none
def b4H:Con:=.pure gB
def b25(r:Rec):Nat->Ann
 |1=>.one (V9 (A1 r.a) (j8 r.a (2+2*lo0 r.a) 1 60 r.l)) (fun x=>⟨[(1,.ref 0 0 0),(4,.sl 2 (A1 r.a) (X7 r.a (2+2*lo0 r.a))),(7,.int .i64 x.1)],[some (.arr true 1000000 10 1 fun _=>r.ts)]⟩) (fun x=>A1 r.a-x.1) [.arr 0] [.arr 0] (fun _=>Z0)
 |_=>.none
def b2Q(r:Rec):Nat->Ann
 |0=>.one (V9 (j5 r.a) (j8 r.a 1 0 7 r.l)) (fun x=>⟨[(1,.ref 0 0 0),(3,.sl 2 (j5 r.a) (X7 r.a 1)),(4,.sl 2 (A1 r.a) (X7 r.a (2+2*lo0 r.a))),(6,.int .i64 x.1)],[some (.arr true 1000000 10 1 fun _=>r.ts)]⟩) (fun x=>j5 r.a-x.1) [.arr 0] [.arr 0] (fun _=>b25 r)
 |_=>.none
noncomputable def b4k:Code:=Tryz.f200.body.getD .skip
theorem a0w:Z7 Tryz.prog 200:=⟨_,Tryz.func200,by kernel_rfl,by kernel_rfl⟩
theorem b2N(r:Rec)(h:
  K6 r.a.length/\((!zF r.a||decide ((↑(j5 r.a):Int)>(8:Int))||decide ((↑(A1 r.a):Int)>(10:Int)))=true->false=ckS r.a r.l)/\((!zF r.a||decide ((↑(j5 r.a):Int)>(8:Int))||decide ((↑(A1 r.a):
  Int)>(10:Int)))=false->(∃(x:V9 (j5 r.a) (j8 r.a 1 (0:Int) (7:Int) r.l)),((0=0/\0=0)/\(j5 r.a=j5 r.a/\Z8 (j5 r.a) (X7 r.a 1) (X7 r.a 1))/\(A1 r.a=A1 r.a/\Z8 (A1 r.a) (X7
  r.a (2+2*lo0 r.a)) (X7 r.a (2+2*lo0 r.a)))/\(0:Int)=(x.val:Int)/\True)/\(1=1/\Z8 1 (fun(x:Nat)=>[T.int .i64 r.e,T.int .i64 r.l,T.int .i64 r.t,T.int .i64 r.k,T.int .i64 r.p,T.int .i64 r.n,T.int
  .i64 r.g,T.int .i64 r.s,T.str r.b,T.str r.a]) fun(x:Nat)=>[T.int .i64 r.e,T.int .i64 r.l,T.int .i64 r.t,T.int .i64 r.k,T.int .i64 r.p,T.int .i64 r.n,T.int .i64 r.g,T.int .i64 r.s,T.str r.b,T.str r.a])/\True)/\∀
  (x:V9 (j5 r.a) (j8 r.a 1 (0:Int) (7:Int) r.l)),(decide ((x.val:Int)<(↑(j5 r.a):Int))=true->X0 (x.val:Int) (j5 r.a)/\X0 (0:Int) 2/\((!W8 (E3 r.a (1+2*(x.val:Int).toNat)) (0:Int) (7:Int))=false
  ->X0 (x.val:Int) (j5 r.a))/\((!W8 (E3 r.a (1+2*(x.val:Int).toNat)) (0:Int) (7:Int))=false->X0 (1:Int) 2)/\((!W8 (E3 r.a (1+2*(x.val:Int).toNat)) (0:Int) (7:Int))=false->X8 .i64 (r.l- (1:Int)))
  /\((!W8 (E3 r.a (1+2*(x.val:Int).toNat)) (0:Int) (7:Int)|| !W8 (E3 r.a (1+2*(x.val:Int).toNat+1)) (1:Int) (r.l- (1:Int)))=false->decide ((x.val:Int)>(0:Int))=true->X8 .i64 ((x.val:Int)- (1:
  Int)))/\((!W8 (E3 r.a (1+2*(x.val:Int).toNat)) (0:Int) (7:Int)|| !W8 (E3 r.a (1+2*(x.val:Int).toNat+1)) (1:Int) (r.l- (1:Int)))=false->decide ((x.val:Int)>(0:Int))=true->X0 ((x.val:Int)- (1:
  Int)) (j5 r.a))/\((!W8 (E3 r.a (1+2*(x.val:Int).toNat)) (0:Int) (7:Int)|| !W8 (E3 r.a (1+2*(x.val:Int).toNat+1)) (1:Int) (r.l- (1:Int)))=false->decide ((x.val:Int)>(0:Int))=true->X0 (0:Int)
  2)/\((!W8 (E3 r.a (1+2*(x.val:Int).toNat)) (0:Int) (7:Int)|| !W8 (E3 r.a (1+2*(x.val:Int).toNat+1)) (1:Int) (r.l- (1:Int)))=false->decide ((x.val:Int)>(0:Int))=true->X0 (x.val:Int) (j5 r.a))/\
  ((!W8 (E3 r.a (1+2*(x.val:Int).toNat)) (0:Int) (7:Int)|| !W8 (E3 r.a (1+2*(x.val:Int).toNat+1)) (1:Int) (r.l- (1:Int)))=false->decide ((x.val:Int)>(0:Int))=true->X0 (0:Int) 2)/\((!W8 (E3 r.a
  (1+2*(x.val:Int).toNat)) (0:Int) (7:Int)|| !W8 (E3 r.a (1+2*(x.val:Int).toNat+1)) (1:Int) (r.l- (1:Int))||decide ((x.val:Int)>(0:Int))&&decide (E3 r.a (1+2*((x.val:Int)- (1:Int)).toNat)≥E3
  r.a (1+2*(x.val:Int).toNat)))=true->false=ckS r.a r.l)/\((!W8 (E3 r.a (1+2*(x.val:Int).toNat)) (0:Int) (7:Int)|| !W8 (E3 r.a (1+2*(x.val:Int).toNat+1)) (1:Int) (r.l- (1:Int))||decide
  ((x.val:Int)>(0:Int))&&decide (E3 r.a (1+2*((x.val:Int)- (1:Int)).toNat)≥E3 r.a (1+2*(x.val:Int).toNat)))=false->X8 .i64 ((x.val:Int)+(1:Int))/\∃(y:V9 (j5 r.a) (j8 r.a 1 (0:Int) (7:Int)
  r.l)),(((0=0/\0=0)/\(j5 r.a=j5 r.a/\Z8 (j5 r.a) (X7 r.a 1) (X7 r.a 1))/\(A1 r.a=A1 r.a/\Z8 (A1 r.a) (X7 r.a (2+2*lo0 r.a)) (X7 r.a (2+2*lo0 r.a)))/\(x.val:Int)+(1:Int)=
  (y.val:Int)/\True)/\(1=1/\Z8 1 (fun(x:Nat)=>[T.int .i64 r.e,T.int .i64 r.l,T.int .i64 r.t,T.int .i64 r.k,T.int .i64 r.p,T.int .i64 r.n,T.int .i64 r.g,T.int .i64 r.s,T.str r.b,T.str r.a]) fun(x:Nat)=>
  [T.int .i64 r.e,T.int .i64 r.l,T.int .i64 r.t,T.int .i64 r.k,T.int .i64 r.p,T.int .i64 r.n,T.int .i64 r.g,T.int .i64 r.s,T.str r.b,T.str r.a])/\True)/\Lt (j5 r.a-y.val) (j5 r.a-x.val)))/\(decide ((x.val:Int)<
  (↑(j5 r.a):Int))=false->(∃(x:V9 (A1 r.a) (j8 r.a (2+2*lo0 r.a) (1:Int) (60:Int) r.l)),((0=0/\0=0)/\(A1 r.a=A1 r.a/\Z8 (A1 r.a) (X7 r.a (2+2*lo0 r.a)) (X7 r.a (2+2*lo0 r.a)))
  /\(0:Int)=(x.val:Int)/\True)/\(1=1/\Z8 1 (fun(x:Nat)=>[T.int .i64 r.e,T.int .i64 r.l,T.int .i64 r.t,T.int .i64 r.k,T.int .i64 r.p,T.int .i64 r.n,T.int .i64 r.g,T.int .i64 r.s,T.str r.b,T.str r.a]) fun(x
  :Nat)=>[T.int .i64 r.e,T.int .i64 r.l,T.int .i64 r.t,T.int .i64 r.k,T.int .i64 r.p,T.int .i64 r.n,T.int .i64 r.g,T.int .i64 r.s,T.str r.b,T.str r.a])/\True)/\∀(x:V9 (A1 r.a) (j8 r.a (2+2*lo0 r.a) (1:Int)
  (60:Int) r.l)),(decide ((x.val:Int)<(↑(A1 r.a):Int))=true->X0 (x.val:Int) (A1 r.a)/\X0 (0:Int) 2/\((!W8 (E3 r.a (2+2*lo0 r.a+2*(x.val:Int).toNat)) (1:Int) (60:Int))=false->X0 (x.val:Int) (A1
  r.a))/\((!W8 (E3 r.a (2+2*lo0 r.a+2*(x.val:Int).toNat)) (1:Int) (60:Int))=false->X0 (1:Int) 2)/\((!W8 (E3 r.a (2+2*lo0 r.a+2*(x.val:Int).toNat)) (1:Int) (60:Int))=false->X8 .i64 (r.l- (1:
  Int)))/\((!W8 (E3 r.a (2+2*lo0 r.a+2*(x.val:Int).toNat)) (1:Int) (60:Int)|| !W8 (E3 r.a (2+2*lo0 r.a+2*(x.val:Int).toNat+1)) (1:Int) (r.l- (1:Int)))=false->decide ((x.val:Int)>(0:Int))=
  true->X8 .i64 ((x.val:Int)- (1:Int)))/\((!W8 (E3 r.a (2+2*lo0 r.a+2*(x.val:Int).toNat)) (1:Int) (60:Int)|| !W8 (E3 r.a (2+2*lo0 r.a+2*(x.val:Int).toNat+1)) (1:Int) (r.l- (1:Int)))=false->
  decide ((x.val:Int)>(0:Int))=true->X0 ((x.val:Int)- (1:Int)) (A1 r.a))/\((!W8 (E3 r.a (2+2*lo0 r.a+2*(x.val:Int).toNat)) (1:Int) (60:Int)|| !W8 (E3 r.a (2+2*lo0 r.a+2*(x.val:Int).toNat+1))
  (1:Int) (r.l- (1:Int)))=false->decide ((x.val:Int)>(0:Int))=true->X0 (0:Int) 2)/\((!W8 (E3 r.a (2+2*lo0 r.a+2*(x.val:Int).toNat)) (1:Int) (60:Int)|| !W8 (E3 r.a (2+2*lo0 r.a+2*
  (x.val:Int).toNat+1)) (1:Int) (r.l- (1:Int)))=false->decide ((x.val:Int)>(0:Int))=true->X0 (x.val:Int) (A1 r.a))/\((!W8 (E3 r.a (2+2*lo0 r.a+2*(x.val:Int).toNat)) (1:Int) (60:Int)|| !W8 (E3 r.a
  (2+2*lo0 r.a+2*(x.val:Int).toNat+1)) (1:Int) (r.l- (1:Int)))=false->decide ((x.val:Int)>(0:Int))=true->X0 (0:Int) 2)/\((!W8 (E3 r.a (2+2*lo0 r.a+2*(x.val:Int).toNat)) (1:Int) (60:Int)||
  !W8 (E3 r.a (2+2*lo0 r.a+2*(x.val:Int).toNat+1)) (1:Int) (r.l- (1:Int))||decide ((x.val:Int)>(0:Int))&&decide (E3 r.a (2+2*lo0 r.a+2*((x.val:Int)- (1:Int)).toNat)≥E3 r.a (2+2*lo0 r.a+2
  *(x.val:Int).toNat)))=true->false=ckS r.a r.l)/\((!W8 (E3 r.a (2+2*lo0 r.a+2*(x.val:Int).toNat)) (1:Int) (60:Int)|| !W8 (E3 r.a (2+2*lo0 r.a+2*(x.val:Int).toNat+1)) (1:Int) (r.l- (1:Int))||
  decide ((x.val:Int)>(0:Int))&&decide (E3 r.a (2+2*lo0 r.a+2*((x.val:Int)- (1:Int)).toNat)≥E3 r.a (2+2*lo0 r.a+2*(x.val:Int).toNat)))=false->X8 .i64 ((x.val:Int)+(1:Int))/\∃(y:V9 (A1 r.a)
  (j8 r.a (2+2*lo0 r.a) (1:Int) (60:Int) r.l)),(((0=0/\0=0)/\(A1 r.a=A1 r.a/\Z8 (A1 r.a) (X7 r.a (2+2*lo0 r.a)) (X7 r.a (2+2*lo0 r.a)))/\(x.val:Int)+(1:Int)=(y.val:Int)/\True)/\
  (1=1/\Z8 1 (fun(x:Nat)=>[T.int .i64 r.e,T.int .i64 r.l,T.int .i64 r.t,T.int .i64 r.k,T.int .i64 r.p,T.int .i64 r.n,T.int .i64 r.g,T.int .i64 r.s,T.str r.b,T.str r.a]) fun(x:Nat)=>[T.int .i64 r.e,T.int
  .i64 r.l,T.int .i64 r.t,T.int .i64 r.k,T.int .i64 r.p,T.int .i64 r.n,T.int .i64 r.g,T.int .i64 r.s,T.str r.b,T.str r.a])/\True)/\Lt (A1 r.a-y.val) (A1 r.a-x.val)))/\(decide ((x.val:Int)<(↑(A1 r.a):Int))=
  false->true=ckS r.a r.l)))):
  Z2 Tryz.prog 200 [.agg r.ts] (.bool (ckS r.a r.l)):=
 T4 (code:=b4k) (gC a0e mY (gC v7 F7 gN)) Tryz.func200 (by kernel_rfl) (by kernel_rfl) (b2Q r) h (by kernel_rfl)
theorem a9e(a:List UInt8)(at0:Nat)(lo hi lsn:Int)(i:Nat):
  j8 a at0 lo hi lsn i=(!W8 (E3 a (at0+2*(i:Int).toNat)) lo hi|| !W8 (E3 a (at0+2*(i:Int).toNat+1)) 1 (lsn-1)||(decide ((i:Int)>0)&&decide (E3 a (at0+2*((i:Int)-1).toNat)≥E3 a (at0+2*(i:Int).toNat)))):=by
 unfold j8;rw[v4,show((i:Int)-1).toNat=i-1 by omega]
theorem a7T:Z1 Tryz.prog 200 b4H:=by
 intro args res p h hp;unfold gB at h;split at h
 case h_2=>cases h
 rename_i e l t k p n g s b a;simp only[X6,V1] at h;obtain⟨rfl,rfl⟩:=h;obtain⟨hn,hl1,hl2⟩:b6e a l:=hp;have q0:j5 a<=a.length:=by unfold j5;split<;>omega
 have q1:A1 a<=a.length:=by unfold A1;split<;>omega
 have r0:∀(n:Nat) (row:Nat->List T),Z8 n row row:=fun n row i hi=>rfl
 refine b2N ⟨e,l,t,k,p,n,g,s,b,a⟩ ?_
 simp only[Rec.e,Rec.l,Rec.t,Rec.k,Rec.p,Rec.n,Rec.g,Rec.s,Rec.b,Rec.a];refine⟨hn,fun hb=> ?_,fun hb=>⟨⟨E5,⟨⟨(by first|rfl|trivial),(by first|rfl|trivial)⟩,⟨(by first|rfl|trivial),r0 _ _⟩,⟨(by first|rfl|trivial),r0 _ _⟩,(by first|rfl|trivial),trivial⟩,⟨(by first|rfl|trivial),r0 _ _⟩,trivial⟩,fun x=>⟨fun hc=> ?_,fun hc=> ?_⟩⟩⟩
 ·unfold ckS;simp only[oU,sB,t9] at hb;rcases hb with(hb|hb)|hb
  ·rw[hb];rfl
  ·rw[show decide (j5 a<=8)=false from uY (by omega)];simp
  ·rw[show decide (A1 a<=10)=false from uY (by omega)];simp
 ·have hlt:=Y9 hc;have i2:X0 0 2:=⟨by omega,by omega⟩
  have i2':X0 1 2:=⟨by omega,by omega⟩
  rw[←a9e];refine⟨Y7 hlt,i2,fun _=>Y7 hlt,fun _=>i2',fun _=>Z5 (by omega),fun _ _=>Z5 (by omega),fun _ hh=> ?_,fun _ _=>i2,fun _ _=>Y7 hlt,fun _ _=>i2,fun hp=> ?_,fun hp=>⟨W4 hlt (by omega),x.succ hlt hp,⟨⟨⟨(by first|rfl|trivial),(by first|rfl|trivial)⟩,⟨(by first|rfl|trivial),r0 _ _⟩,⟨(by first|rfl|trivial),r0 _ _⟩,(by first|rfl|trivial),trivial⟩,⟨(by first|rfl|trivial),r0 _ _⟩,trivial⟩,V9.ext_lt hlt⟩⟩
  ·have:=D8 hh;exact⟨by omega,by omega⟩
  ·have:anyI (j5 a) (j8 a 1 0 7 l)=true:=Q0.2 ⟨x.1,hlt,hp⟩;simp[ckS,this]
 ·have hge:=Y3 hc;have g0:anyI (j5 a) (j8 a 1 0 7 l)=false:=by
   rw[Bool.eq_false_iff,ne_eq,Q0];rintro⟨i,hi,h⟩;rw[x.2.2 i (by omega)] at h
   cases h
  refine⟨⟨E5,⟨⟨(by first|rfl|trivial),(by first|rfl|trivial)⟩,⟨(by first|rfl|trivial),r0 _ _⟩,(by first|rfl|trivial),trivial⟩,⟨(by first|rfl|trivial),r0 _ _⟩,trivial⟩,fun y=>⟨fun hc=> ?_,fun hc=> ?_⟩⟩
  ·have hlt:=Y9 hc;have i2:X0 0 2:=⟨by omega,by omega⟩
   have i2':X0 1 2:=⟨by omega,by omega⟩
   rw[←a9e];refine⟨Y7 hlt,i2,fun _=>Y7 hlt,fun _=>i2',fun _=>Z5 (by omega),fun _ _=>Z5 (by omega),fun _ hh=> ?_,fun _ _=>i2,fun _ _=>Y7 hlt,fun _ _=>i2,fun hp=> ?_,fun hp=>⟨W4 hlt (by omega),y.succ hlt hp,⟨⟨⟨(by first|rfl|trivial),(by first|rfl|trivial)⟩,⟨(by first|rfl|trivial),r0 _ _⟩,(by first|rfl|trivial),trivial⟩,⟨(by first|rfl|trivial),r0 _ _⟩,trivial⟩,V9.ext_lt hlt⟩⟩
   ·have:=D8 hh;exact⟨by omega,by omega⟩
   ·have:anyI (A1 a) (j8 a (2+2*lo0 a) 1 60 l)=true:=Q0.2 ⟨y.1,hlt,hp⟩;simp[ckS,this]
  ·have hge:=Y3 hc;have g1:anyI (A1 a) (j8 a (2+2*lo0 a) 1 60 l)=false:=by
    rw[Bool.eq_false_iff,ne_eq,Q0];rintro⟨i,hi,h⟩;rw[y.2.2 i (by omega)] at h
    cases h
   simp only[vG,tE,tV] at hb;unfold ckS;rw[g0,g1,hb.1.1,show decide (j5 a<=8)=true from jB (by omega),show decide (A1 a<=10)=true from jB (by omega)]
   rfl
end Go.Proofs.YtokaojbaacnngaaGreat

namespace Go.Proofs.YtokaojbaacnngaaGreat
set_option maxRecDepth 100000
open Go.SS

theorem wN(l:List UInt8)(k:Nat):numR (l.drop k)=E3 l k:=by
 unfold numR E3;simp[C0]
theorem b6m(l:List UInt8)(k i:Nat):E3 (l.drop k) i=E3 l (k+i):=by
 unfold E3;simp[C0]
theorem a7l(l:List UInt8)(k:Nat):0<=E3 l k:=by unfold E3;omega
def a2N(l:List UInt8)(lo:Int)(i:Nat):Int:=if i=0 then lo-1 else E3 l (1+2*(i-1))
def okP(l:List UInt8)(lo hi lsn:Int)(i:Nat):Bool:=W8 (E3 l (1+2*i)) (a2N l lo i+1) hi&&W8 (E3 l (2+2*i)) 1 (lsn-1)
theorem c4z(most lo hi lsn:Int)(l:List UInt8)(fl:Bool)(i:Nat):
  RdSt.go hi lsn (j4 most lo l fl) i=⟨l.drop (1+2*i),fl||decide (l.length<1+2*i),decide (numR l<=most)&&(List.range i).all (okP l lo hi lsn),a2N l lo i⟩:=by
 induction i with
 |zero=>
  simp only[RdSt.go,j4,a2N,if_true,List.range_zero,List.all_nil,Bool.and_true,Nat.mul_zero,Nat.add_zero];cases l<;>simp
 |succ i ih=>
  simp only[RdSt.go];rw[ih];simp only[RdSt.step];have e1:((l.drop (1+2*i)).drop 1).drop 1=l.drop (1+2*(i+1)):=by
   rw[List.drop_drop,List.drop_drop];congr 1
  have e2:numR ((l.drop (1+2*i)).drop 1)=E3 l (2+2*i):=by
   rw[List.drop_drop,wN];congr 1
   omega
  have e3:a2N l lo (i+1)=numR (l.drop (1+2*i)):=by
   rw[wN];simp[a2N]
  have e4:(List.range (i+1)).all (okP l lo hi lsn)=((List.range i).all (okP l lo hi lsn)&&okP l lo hi lsn i):=by
   rw[List.range_succ,List.all_append];simp
  rw[e1,e2,e3,e4,wN];congr 1
  ·have:(l.drop (1+2*i)).isEmpty=decide (l.length<=1+2*i):=by
    rw[Bool.eq_iff_iff];simp
   have h2:((l.drop (1+2*i)).drop 1).isEmpty=decide (l.length<=1+2*i+1):=by
    rw[Bool.eq_iff_iff];simp
   rw[this,h2,Bool.or_assoc,Bool.or_assoc];congr 1
   rw[Bool.eq_iff_iff];simp;omega
  ·unfold okP;rw[Bool.and_assoc,Bool.and_assoc]
theorem a9R{n:Nat}{p q:Nat->Bool}(h:∀i,p i= !q i):(List.range n).all p= !anyI n q:=by
 unfold anyI;rw[List.not_any_eq_all_not];congr 1
 funext i
 rw[h i]
theorem a87(l:List UInt8)(lo hi lsn:Int)(h1:lo=0∨lo=1)(i:Nat):okP l lo hi lsn i= !j8 l 1 lo hi lsn i:=by
 have b1:=a7l l (1+2*(i-1));have b2:=a7l l (1+2*i);unfold okP j8 a2N W8;rw[show 1+2*i+1=2+2*i by omega]
 rw[Bool.eq_iff_iff];by_cases hi0:i=0
 ·subst hi0;simp
 ·simp[hi0];omega
theorem b0c(a:List UInt8)(k:Nat)(lo hi lsn:Int)(i:Nat):j8 (a.drop k) 1 lo hi lsn i=j8 a (k+1) lo hi lsn i:=by
 unfold j8;simp only[b6m];rw[show k+(1+2*i)=k+1+2*i by omega,show k+(1+2*i+1)=k+1+2*i+1 by omega,show k+(1+2*(i-1))=k+1+2*(i-1) by omega]
theorem c6P(a:List UInt8)(lsn:Int):oY a lsn=ckS a lsn:=by
 have n0:(numR a).toNat=lo0 a:=by simp[numR,lo0,E3]
 have n0':numR a=(lo0 a:Int):=by have:=e9 a;omega
 have n1:numR (a.drop (1+2*lo0 a))=(A7 a:Int):=by rw[wN];have:=a7l a (1+2*lo0 a);simp[A7];omega
 have n1':(numR (a.drop (1+2*lo0 a))).toNat=A7 a:=by omega
 have E1:T2 8 0 7 lsn a false=⟨a.drop (1+2*lo0 a),decide (a.length<1+2*lo0 a),decide ((lo0 a:Int)<=8)&& !anyI (lo0 a) (j8 a 1 0 7 lsn),a2N a 0 (lo0 a)⟩:=by
  unfold T2;rw[c4z,n0,n0',a9R (a87 a 0 7 lsn (.inl rfl)),Bool.false_or]
 have E2:T2 10 1 60 lsn (a.drop (1+2*lo0 a)) (decide (a.length<1+2*lo0 a))=⟨a.drop (2+2*lo0 a+2*A7 a),decide (a.length<2+2*lo0 a+2*A7 a),decide ((A7 a:Int)<=10)&& !anyI (A7 a) (j8 a (2+2*lo0 a) 1 60 lsn),a2N (a.drop (1+2*lo0 a)) 1 (A7 a)⟩:=by
  unfold T2;rw[c4z,n1',n1,a9R (a87 (a.drop (1+2*lo0 a)) 1 60 lsn (.inr rfl))];congr 1
  ·rw[List.drop_drop];congr 1;omega
  ·rw[Bool.eq_iff_iff];simp;omega
  ·congr 2
   unfold anyI;congr 1
   funext i
   rw[b0c];congr 1
   omega
 unfold oY;rw[E1];simp only;rw[E2];simp only;have hE:(a.drop (2+2*lo0 a+2*A7 a)).isEmpty=decide (a.length<=2+2*lo0 a+2*A7 a):=by rw[Bool.eq_iff_iff];simp
 rw[hE];by_cases hr:0<a.length/\1+2*lo0 a<a.length/\2+2*lo0 a+2*A7 a=a.length
 ·have c0:j5 a=lo0 a:=by unfold j5;rw[if_pos ⟨hr.1,by omega⟩]
  have c1:A1 a=A7 a:=by unfold A1;rw[if_pos ⟨hr.1,hr.2.1,by omega⟩]
  unfold ckS;rw[show zF a=true from jB hr,c0,c1]
  rw[show decide (a.length<1+2*lo0 a)=false from uY (by omega),show decide (a.length<2+2*lo0 a+2*A7 a)=false from uY (by omega),show decide (a.length<=2+2*lo0 a+2*A7 a)=true from jB (by omega)]
  rw[show decide ((lo0 a:Int)<=8)=decide (lo0 a<=8) from decide_eq_decide.2 (by omega),show decide ((A7 a:Int)<=10)=decide (A7 a<=10) from decide_eq_decide.2 (by omega)]
  generalize anyI (lo0 a) _=x;generalize anyI (A7 a) _=y;generalize decide (lo0 a<=8)=u;generalize decide (A7 a<=10)=v;cases x<;>cases y<;>cases u<;>cases v<;>rfl
 ·have:ckS a lsn=false:=by
   unfold ckS;rw[show zF a=false from uY hr]
   rfl
  rw[this];by_cases h1:a.length<2+2*lo0 a+2*A7 a
  ·rw[show decide (a.length<2+2*lo0 a+2*A7 a)=true from jB h1]
   simp
  ·have h2:¬a.length<=2+2*lo0 a+2*A7 a:=by omega
   rw[show decide (a.length<=2+2*lo0 a+2*A7 a)=false from uY h2]
   simp

noncomputable def pS:List T->Option (T×Option Prop)
 | [.agg [.int .i64 e,.int .i64 l,.int .i64 t,.int .i64 k,.int .i64 p,.int .i64 n,.int .i64 g,.int .i64 s,.str b,.str a]]=>some (.bool (S3 ⟨e,l,t,k,p,n,g,s,b,a⟩),some (K6 a.length))
 |_=>none
noncomputable def a1e:Con:=.pure pS
noncomputable def a3V:Code:=Tryz.f138.body.getD .skip
theorem wY:Z7 Tryz.prog 138:=⟨_,Tryz.func138,by kernel_rfl,by kernel_rfl⟩
theorem a0F(r:Rec)(x:Bool)(h:
  ((!W8 r.e (1:Int) (60:Int)|| !W8 r.l (1:Int) (60:Int)|| !W8 r.k (1:Int) (6:Int))=false->X8 .i64 (r.l- (1:Int)))/\((!W8 r.e (1:Int) (60:Int)|| !W8 r.l (1:Int) (60:Int)|| !W8 r.k (1:Int) (6:
  Int)|| !W8 r.p (0:Int) (r.l- (1:Int)))=false->X8 .i64 (r.l- (1:Int)))/\((!W8 r.e (1:Int) (60:Int)|| !W8 r.l (1:Int) (60:Int)|| !W8 r.k (1:Int) (6:Int)|| !W8 r.p (0:Int) (r.l- (1:Int))|| !W8
  r.n (0:Int) (r.l- (1:Int))|| !W8 r.g (0:Int) (7:Int)|| !W8 r.s (0:Int) (3:Int)||decide ((r.b.length:Int)>(30:Int)))=true->false=x)/\((!W8 r.e (1:Int) (60:Int)|| !W8 r.l (1:Int) (60:Int)||
  !W8 r.k (1:Int) (6:Int)|| !W8 r.p (0:Int) (r.l- (1:Int))|| !W8 r.n (0:Int) (r.l- (1:Int))|| !W8 r.g (0:Int) (7:Int)|| !W8 r.s (0:Int) (3:Int)||decide ((r.b.length:Int)>(30:Int)))=false->
  ((r.k==(6:Int))=true->((r.t==(0:Int)&&r.p==(0:Int)&&r.n==(0:Int)&&r.g==(0:Int)&&r.s==(0:Int)&&r.b==[])=true->b6e r.a r.l)/\(r.t==(0:Int)&&r.p==(0:Int)&&r.n==(0:Int)&&
  r.g==(0:Int)&&r.s==(0:Int)&&r.b==[]&&ckS r.a r.l)=x)/\((r.k==(6:Int))=false->((!W8 r.t (1:Int) (60:Int)||decide ((r.a.length:Int)>(30:Int)))=true->false=x)/\((!W8 r.t (1:Int) (60:
  Int)||decide ((r.a.length:Int)>(30:Int)))=false->((!(r.k==(2:Int)||r.k==(3:Int))&&(r.g !=(0:Int)||r.s !=(0:Int)|| !r.b==[]|| !r.a==[])||r.k !=(3:Int)&&r.n !=(0:Int)||r.k==(3:Int)
  && !r.b==[])=true->false=x)/\((!(r.k==(2:Int)||r.k==(3:Int))&&(r.g !=(0:Int)||r.s !=(0:Int)|| !r.b==[]|| !r.a==[])||r.k !=(3:Int)&&r.n !=(0:Int)||r.k==(3:Int)&& !r.b==[])=
  false->((r.k==(1:Int))==(r.p==(0:Int)))=x))))):
  Z2 Tryz.prog 138 [.agg r.ts] (.bool x):=
 T4 (code:=a3V) (gC a7T a0w (gC v7 F7 gN)) Tryz.func138 (by kernel_rfl) (by kernel_rfl) Z0 h (by kernel_rfl)
theorem c7O{p k a b:Int}:((k==b)=(p==a))↔(k=b↔p=a):=by
 rw[Bool.eq_iff_iff,beq_iff_eq,beq_iff_eq]
theorem sY:Z1 Tryz.prog 138 a1e:=by
 intro args res p h hp;unfold pS at h;split at h
 case h_2=>cases h
 rename_i e l t k p n g s b a;simp only[X6,V1] at h;obtain⟨rfl,rfl⟩:=h;have hp:a.length<1000000000000:=hp;refine a0F ⟨e,l,t,k,p,n,g,s,b,a⟩ _ ?_
 simp only[Rec.e,Rec.l,Rec.t,Rec.k,Rec.p,Rec.n,Rec.g,Rec.s,Rec.b,Rec.a];have hr:∀{q:Bool},(!W8 e 1 60|| !W8 l 1 60||q)=false->X8 .i64 (l-1):=by
  intro q h;simp only[vG,tE,W8,K5,t9] at h;exact Z5 (by omega)
 refine⟨hr,fun h=>hr (q:= !W8 k 1 6|| !W8 p 0 (l-1)) (by rw[←h];simp[Bool.or_assoc]),fun h=> ?_,fun h=> ?_⟩
 ·refine(zD ?_).symm
  simp only[oU,sB,W8,Bool.and_eq_false_iff,tV,t9] at h;unfold j3;simp only;omega
 simp only[vG,tE,W8,K5,t9,tV] at h;by_cases h6:k=6
 ·subst h6;refine⟨fun _=>⟨fun _=>⟨hp,by omega,by omega⟩,wI ?_⟩,fun h=>by simp at h⟩
  rw[P8,←c6P];simp only[j3,t9,K5,beq_iff_eq,true_and,and_true];constructor
  ·rintro⟨⟨⟨⟨⟨⟨rfl,rfl⟩,rfl⟩,rfl⟩,rfl⟩,rfl⟩,hc⟩;simp[hc];omega
  ·rintro⟨_,_,_,_,_,_,_,_,_,_,_,_,_,_,_,hh,_⟩;obtain⟨rfl,rfl,rfl,rfl,rfl,rfl,hc⟩:=hh trivial;simp[hc]
 refine⟨fun h=>absurd (by simpa using h) h6,fun _=>⟨fun hb=> ?_,fun hb=>⟨fun hc=> ?_,fun hc=>wI ?_⟩⟩⟩
 ·refine(zD ?_).symm
  simp[W8] at hb;unfold j3;simp only;omega
 ·refine(zD ?_).symm
  unfold j3;simp only;rintro⟨_,_,_,_,_,_,_,_,_,_,_,_,_,_,_,_,hh⟩;obtain⟨c1,c2,c3,c4,c5,c6,c7⟩:=hh h6;simp only[oU,K5,sB,vG,beq_iff_eq,bne_iff_ne,beq_eq_false_iff_ne] at hc;rcases hc with(⟨⟨x2,x3⟩,hc⟩|⟨x3,hn⟩)|⟨x3,hn⟩
  ·obtain⟨d1,d2,d3,d4⟩:=c4 x2 x3;rcases hc with((hc|hc)|hc)|hc
   ·exact hc d1
   ·exact hc d2
   ·exact hc d3
   ·exact hc d4
  ·exact hn (c5 x3)
  ·exact hn (c6 x3)
 ·rw[P8];simp only[j3,c7O,true_and,and_true,beq_iff_eq];simp[W8] at hb hc;constructor
  ·intro hk;refine⟨by omega,by omega,by omega,by omega,by omega,by omega,by omega,by omega,by omega,by omega,by omega,by omega,by omega,by omega,by omega,fun h=>absurd h h6,fun _=>⟨by omega,by omega,by omega,fun x2 x3=> ?_,fun x3=> ?_,fun x3=> ?_,hk⟩⟩
   ·have:=hc.1.1 x2 x3;exact⟨this.1.1.1,this.1.1.2,this.1.2,this.2⟩
   ·exact hc.1.2 x3
   ·exact hc.2 x3
  ·rintro⟨_,_,_,_,_,_,_,_,_,_,_,_,_,_,_,_,hh⟩;exact(hh h6).2.2.2.2.2.2
end Go.Proofs.YtokaojbaacnngaaGreat

