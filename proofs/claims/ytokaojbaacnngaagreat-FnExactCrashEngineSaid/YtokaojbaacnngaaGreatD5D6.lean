/- A part of the proof. -/
import Derived.Test.YtokaojbaacnngaaGreatD4
namespace Go.Proofs.YtokaojbaacnngaaGreat
set_option maxRecDepth 100000
open Go.SS

def badP(a:List UInt8)(at0:Nat)(lo hi lsn:Int)(i:Nat):Bool:=
 !inR (byt a (at0+2*i)) lo hi|| !inR (byt a (at0+2*i+1)) 1 (lsn-1)||(decide ((i:Int)>0)&&decide (byt a (at0+2*(i-1))≥byt a (at0+2*i)))
def ckS(a:List UInt8)(lsn:Int):Bool:=
 rcOK a&&decide (rc0 a<=8)&&decide (rc1 a<=10)&& !anyI (rc0 a) (badP a 1 0 7 lsn)&& !anyI (rc1 a) (badP a (2+2*lo0 a) 1 60 lsn)
def LenSm(a:List UInt8)(n:Int):Prop:=a.length<1000000000000/\ -1000000000000<=n/\n<=1000000000000
def c_CheckOK:List T->Option (T×Option Prop)
 | [.agg [.int .i64 e,.int .i64 l,.int .i64 t,.int .i64 k,.int .i64 p,.int .i64 n,.int .i64 g,.int .i64 s,.str b,.str a]]=>some (.bool (ckS a l),some (LenSm a l))
 |_=>none
def k_CheckOK:Con:=.pure c_CheckOK
def B_CheckOK(r:Rec):Nat->Ann
 |1=>.one (Cnt (rc1 r.a) (badP r.a (2+2*lo0 r.a) 1 60 r.l)) (fun x=>⟨[(1,.ref 0 0 0),(4,.sl 2 (rc1 r.a) (pairRow r.a (2+2*lo0 r.a))),(7,.int .i64 x.1)],[some (.arr true 1000000 10 1 fun _=>r.ts)]⟩) (fun x=>rc1 r.a-x.1) [.arr 0] [.arr 0] (fun _=>noAnn)
 |_=>.none
def A_CheckOK(r:Rec):Nat->Ann
 |0=>.one (Cnt (rc0 r.a) (badP r.a 1 0 7 r.l)) (fun x=>⟨[(1,.ref 0 0 0),(3,.sl 2 (rc0 r.a) (pairRow r.a 1)),(4,.sl 2 (rc1 r.a) (pairRow r.a (2+2*lo0 r.a))),(6,.int .i64 x.1)],[some (.arr true 1000000 10 1 fun _=>r.ts)]⟩) (fun x=>rc0 r.a-x.1) [.arr 0] [.arr 0] (fun _=>B_CheckOK r)
 |_=>.none
noncomputable def b_CheckOK:Code:=Tryz.f200.body.getD .skip
theorem call_CheckOK:Callable Tryz.prog 200:=⟨_,Tryz.func200,by kernel_rfl,by kernel_rfl⟩
theorem v_CheckOK(r:Rec)(h:
  Len r.a.length/\((!rcOK r.a||decide ((↑(rc0 r.a):Int)>(8:Int))||decide ((↑(rc1 r.a):Int)>(10:Int)))=true->false=ckS r.a r.l)/\((!rcOK r.a||decide ((↑(rc0 r.a):Int)>(8:Int))||decide ((↑(rc1 r.a):
  Int)>(10:Int)))=false->(∃(x:Cnt (rc0 r.a) (badP r.a 1 (0:Int) (7:Int) r.l)),((0=0/\0=0)/\(rc0 r.a=rc0 r.a/\RowsEq (rc0 r.a) (pairRow r.a 1) (pairRow r.a 1))/\(rc1 r.a=rc1 r.a/\RowsEq (rc1 r.a) (pairRow
  r.a (2+2*lo0 r.a)) (pairRow r.a (2+2*lo0 r.a)))/\(0:Int)=(x.val:Int)/\True)/\(1=1/\RowsEq 1 (fun(x:Nat)=>[T.int .i64 r.e,T.int .i64 r.l,T.int .i64 r.t,T.int .i64 r.k,T.int .i64 r.p,T.int .i64 r.n,T.int
  .i64 r.g,T.int .i64 r.s,T.str r.b,T.str r.a]) fun(x:Nat)=>[T.int .i64 r.e,T.int .i64 r.l,T.int .i64 r.t,T.int .i64 r.k,T.int .i64 r.p,T.int .i64 r.n,T.int .i64 r.g,T.int .i64 r.s,T.str r.b,T.str r.a])/\True)/\∀
  (x:Cnt (rc0 r.a) (badP r.a 1 (0:Int) (7:Int) r.l)),(decide ((x.val:Int)<(↑(rc0 r.a):Int))=true->InB (x.val:Int) (rc0 r.a)/\InB (0:Int) 2/\((!inR (byt r.a (1+2*(x.val:Int).toNat)) (0:Int) (7:Int))=false
  ->InB (x.val:Int) (rc0 r.a))/\((!inR (byt r.a (1+2*(x.val:Int).toNat)) (0:Int) (7:Int))=false->InB (1:Int) 2)/\((!inR (byt r.a (1+2*(x.val:Int).toNat)) (0:Int) (7:Int))=false->Rng .i64 (r.l- (1:Int)))
  /\((!inR (byt r.a (1+2*(x.val:Int).toNat)) (0:Int) (7:Int)|| !inR (byt r.a (1+2*(x.val:Int).toNat+1)) (1:Int) (r.l- (1:Int)))=false->decide ((x.val:Int)>(0:Int))=true->Rng .i64 ((x.val:Int)- (1:
  Int)))/\((!inR (byt r.a (1+2*(x.val:Int).toNat)) (0:Int) (7:Int)|| !inR (byt r.a (1+2*(x.val:Int).toNat+1)) (1:Int) (r.l- (1:Int)))=false->decide ((x.val:Int)>(0:Int))=true->InB ((x.val:Int)- (1:
  Int)) (rc0 r.a))/\((!inR (byt r.a (1+2*(x.val:Int).toNat)) (0:Int) (7:Int)|| !inR (byt r.a (1+2*(x.val:Int).toNat+1)) (1:Int) (r.l- (1:Int)))=false->decide ((x.val:Int)>(0:Int))=true->InB (0:Int)
  2)/\((!inR (byt r.a (1+2*(x.val:Int).toNat)) (0:Int) (7:Int)|| !inR (byt r.a (1+2*(x.val:Int).toNat+1)) (1:Int) (r.l- (1:Int)))=false->decide ((x.val:Int)>(0:Int))=true->InB (x.val:Int) (rc0 r.a))/\
  ((!inR (byt r.a (1+2*(x.val:Int).toNat)) (0:Int) (7:Int)|| !inR (byt r.a (1+2*(x.val:Int).toNat+1)) (1:Int) (r.l- (1:Int)))=false->decide ((x.val:Int)>(0:Int))=true->InB (0:Int) 2)/\((!inR (byt r.a
  (1+2*(x.val:Int).toNat)) (0:Int) (7:Int)|| !inR (byt r.a (1+2*(x.val:Int).toNat+1)) (1:Int) (r.l- (1:Int))||decide ((x.val:Int)>(0:Int))&&decide (byt r.a (1+2*((x.val:Int)- (1:Int)).toNat)≥byt
  r.a (1+2*(x.val:Int).toNat)))=true->false=ckS r.a r.l)/\((!inR (byt r.a (1+2*(x.val:Int).toNat)) (0:Int) (7:Int)|| !inR (byt r.a (1+2*(x.val:Int).toNat+1)) (1:Int) (r.l- (1:Int))||decide
  ((x.val:Int)>(0:Int))&&decide (byt r.a (1+2*((x.val:Int)- (1:Int)).toNat)≥byt r.a (1+2*(x.val:Int).toNat)))=false->Rng .i64 ((x.val:Int)+(1:Int))/\∃(y:Cnt (rc0 r.a) (badP r.a 1 (0:Int) (7:Int)
  r.l)),(((0=0/\0=0)/\(rc0 r.a=rc0 r.a/\RowsEq (rc0 r.a) (pairRow r.a 1) (pairRow r.a 1))/\(rc1 r.a=rc1 r.a/\RowsEq (rc1 r.a) (pairRow r.a (2+2*lo0 r.a)) (pairRow r.a (2+2*lo0 r.a)))/\(x.val:Int)+(1:Int)=
  (y.val:Int)/\True)/\(1=1/\RowsEq 1 (fun(x:Nat)=>[T.int .i64 r.e,T.int .i64 r.l,T.int .i64 r.t,T.int .i64 r.k,T.int .i64 r.p,T.int .i64 r.n,T.int .i64 r.g,T.int .i64 r.s,T.str r.b,T.str r.a]) fun(x:Nat)=>
  [T.int .i64 r.e,T.int .i64 r.l,T.int .i64 r.t,T.int .i64 r.k,T.int .i64 r.p,T.int .i64 r.n,T.int .i64 r.g,T.int .i64 r.s,T.str r.b,T.str r.a])/\True)/\Lt (rc0 r.a-y.val) (rc0 r.a-x.val)))/\(decide ((x.val:Int)<
  (↑(rc0 r.a):Int))=false->(∃(x:Cnt (rc1 r.a) (badP r.a (2+2*lo0 r.a) (1:Int) (60:Int) r.l)),((0=0/\0=0)/\(rc1 r.a=rc1 r.a/\RowsEq (rc1 r.a) (pairRow r.a (2+2*lo0 r.a)) (pairRow r.a (2+2*lo0 r.a)))
  /\(0:Int)=(x.val:Int)/\True)/\(1=1/\RowsEq 1 (fun(x:Nat)=>[T.int .i64 r.e,T.int .i64 r.l,T.int .i64 r.t,T.int .i64 r.k,T.int .i64 r.p,T.int .i64 r.n,T.int .i64 r.g,T.int .i64 r.s,T.str r.b,T.str r.a]) fun(x
  :Nat)=>[T.int .i64 r.e,T.int .i64 r.l,T.int .i64 r.t,T.int .i64 r.k,T.int .i64 r.p,T.int .i64 r.n,T.int .i64 r.g,T.int .i64 r.s,T.str r.b,T.str r.a])/\True)/\∀(x:Cnt (rc1 r.a) (badP r.a (2+2*lo0 r.a) (1:Int)
  (60:Int) r.l)),(decide ((x.val:Int)<(↑(rc1 r.a):Int))=true->InB (x.val:Int) (rc1 r.a)/\InB (0:Int) 2/\((!inR (byt r.a (2+2*lo0 r.a+2*(x.val:Int).toNat)) (1:Int) (60:Int))=false->InB (x.val:Int) (rc1
  r.a))/\((!inR (byt r.a (2+2*lo0 r.a+2*(x.val:Int).toNat)) (1:Int) (60:Int))=false->InB (1:Int) 2)/\((!inR (byt r.a (2+2*lo0 r.a+2*(x.val:Int).toNat)) (1:Int) (60:Int))=false->Rng .i64 (r.l- (1:
  Int)))/\((!inR (byt r.a (2+2*lo0 r.a+2*(x.val:Int).toNat)) (1:Int) (60:Int)|| !inR (byt r.a (2+2*lo0 r.a+2*(x.val:Int).toNat+1)) (1:Int) (r.l- (1:Int)))=false->decide ((x.val:Int)>(0:Int))=
  true->Rng .i64 ((x.val:Int)- (1:Int)))/\((!inR (byt r.a (2+2*lo0 r.a+2*(x.val:Int).toNat)) (1:Int) (60:Int)|| !inR (byt r.a (2+2*lo0 r.a+2*(x.val:Int).toNat+1)) (1:Int) (r.l- (1:Int)))=false->
  decide ((x.val:Int)>(0:Int))=true->InB ((x.val:Int)- (1:Int)) (rc1 r.a))/\((!inR (byt r.a (2+2*lo0 r.a+2*(x.val:Int).toNat)) (1:Int) (60:Int)|| !inR (byt r.a (2+2*lo0 r.a+2*(x.val:Int).toNat+1))
  (1:Int) (r.l- (1:Int)))=false->decide ((x.val:Int)>(0:Int))=true->InB (0:Int) 2)/\((!inR (byt r.a (2+2*lo0 r.a+2*(x.val:Int).toNat)) (1:Int) (60:Int)|| !inR (byt r.a (2+2*lo0 r.a+2*
  (x.val:Int).toNat+1)) (1:Int) (r.l- (1:Int)))=false->decide ((x.val:Int)>(0:Int))=true->InB (x.val:Int) (rc1 r.a))/\((!inR (byt r.a (2+2*lo0 r.a+2*(x.val:Int).toNat)) (1:Int) (60:Int)|| !inR (byt r.a
  (2+2*lo0 r.a+2*(x.val:Int).toNat+1)) (1:Int) (r.l- (1:Int)))=false->decide ((x.val:Int)>(0:Int))=true->InB (0:Int) 2)/\((!inR (byt r.a (2+2*lo0 r.a+2*(x.val:Int).toNat)) (1:Int) (60:Int)||
  !inR (byt r.a (2+2*lo0 r.a+2*(x.val:Int).toNat+1)) (1:Int) (r.l- (1:Int))||decide ((x.val:Int)>(0:Int))&&decide (byt r.a (2+2*lo0 r.a+2*((x.val:Int)- (1:Int)).toNat)≥byt r.a (2+2*lo0 r.a+2
  *(x.val:Int).toNat)))=true->false=ckS r.a r.l)/\((!inR (byt r.a (2+2*lo0 r.a+2*(x.val:Int).toNat)) (1:Int) (60:Int)|| !inR (byt r.a (2+2*lo0 r.a+2*(x.val:Int).toNat+1)) (1:Int) (r.l- (1:Int))||
  decide ((x.val:Int)>(0:Int))&&decide (byt r.a (2+2*lo0 r.a+2*((x.val:Int)- (1:Int)).toNat)≥byt r.a (2+2*lo0 r.a+2*(x.val:Int).toNat)))=false->Rng .i64 ((x.val:Int)+(1:Int))/\∃(y:Cnt (rc1 r.a)
  (badP r.a (2+2*lo0 r.a) (1:Int) (60:Int) r.l)),(((0=0/\0=0)/\(rc1 r.a=rc1 r.a/\RowsEq (rc1 r.a) (pairRow r.a (2+2*lo0 r.a)) (pairRow r.a (2+2*lo0 r.a)))/\(x.val:Int)+(1:Int)=(y.val:Int)/\True)/\
  (1=1/\RowsEq 1 (fun(x:Nat)=>[T.int .i64 r.e,T.int .i64 r.l,T.int .i64 r.t,T.int .i64 r.k,T.int .i64 r.p,T.int .i64 r.n,T.int .i64 r.g,T.int .i64 r.s,T.str r.b,T.str r.a]) fun(x:Nat)=>[T.int .i64 r.e,T.int
  .i64 r.l,T.int .i64 r.t,T.int .i64 r.k,T.int .i64 r.p,T.int .i64 r.n,T.int .i64 r.g,T.int .i64 r.s,T.str r.b,T.str r.a])/\True)/\Lt (rc1 r.a-y.val) (rc1 r.a-x.val)))/\(decide ((x.val:Int)<(↑(rc1 r.a):Int))=
  false->true=ckS r.a r.l)))):
  PureFn Tryz.prog 200 [.agg r.ts] (.bool (ckS r.a r.l)):=
 vcR (code:=b_CheckOK) (gC ReadCheck_ok call_ReadCheck (gC l01In_ok call_l01In gN)) Tryz.func200 (by kernel_rfl) (by kernel_rfl) (A_CheckOK r) h (by kernel_rfl)
theorem badP_eq(a:List UInt8)(at0:Nat)(lo hi lsn:Int)(i:Nat):
  badP a at0 lo hi lsn i=(!inR (byt a (at0+2*(i:Int).toNat)) lo hi|| !inR (byt a (at0+2*(i:Int).toNat+1)) 1 (lsn-1)||(decide ((i:Int)>0)&&decide (byt a (at0+2*((i:Int)-1).toNat)≥byt a (at0+2*(i:Int).toNat)))):=by
 unfold badP;rw[Int.toNat_natCast,show((i:Int)-1).toNat=i-1 by omega]
theorem CheckOK_ok:ConOk Tryz.prog 200 k_CheckOK:=by
 intro args res p h hp;unfold c_CheckOK at h;split at h
 case h_2=>cases h
 rename_i e l t k p n g s b a;simp only[Option.some.injEq,Prod.mk.injEq] at h;obtain⟨rfl,rfl⟩:=h;obtain⟨hn,hl1,hl2⟩:LenSm a l:=hp;have q0:rc0 a<=a.length:=by unfold rc0;split<;>omega
 have q1:rc1 a<=a.length:=by unfold rc1;split<;>omega
 have r0:∀(n:Nat) (row:Nat->List T),RowsEq n row row:=fun n row i hi=>rfl
 refine v_CheckOK ⟨e,l,t,k,p,n,g,s,b,a⟩ ?_
 simp only[Rec.e,Rec.l,Rec.t,Rec.k,Rec.p,Rec.n,Rec.g,Rec.s,Rec.b,Rec.a];refine⟨hn,fun hb=> ?_,fun hb=>⟨⟨cnt0,⟨⟨(by first|rfl|trivial),(by first|rfl|trivial)⟩,⟨(by first|rfl|trivial),r0 _ _⟩,⟨(by first|rfl|trivial),r0 _ _⟩,(by first|rfl|trivial),trivial⟩,⟨(by first|rfl|trivial),r0 _ _⟩,trivial⟩,fun x=>⟨fun hc=> ?_,fun hc=> ?_⟩⟩⟩
 ·unfold ckS;simp only[Bool.or_eq_true,Bool.not_eq_true',decide_eq_true_eq] at hb;rcases hb with(hb|hb)|hb
  ·rw[hb];rfl
  ·rw[show decide (rc0 a<=8)=false from decide_eq_false (by omega)];simp
  ·rw[show decide (rc1 a<=10)=false from decide_eq_false (by omega)];simp
 ·have hlt:=lt_of_dec hc;have i2:InB 0 2:=⟨by omega,by omega⟩
  have i2':InB 1 2:=⟨by omega,by omega⟩
  rw[←badP_eq];refine⟨inB_nat hlt,i2,fun _=>inB_nat hlt,fun _=>i2',fun _=>i64_rng (by omega),fun _ _=>i64_rng (by omega),fun _ hh=> ?_,fun _ _=>i2,fun _ _=>inB_nat hlt,fun _ _=>i2,fun hp=> ?_,fun hp=>⟨add_rng hlt (by omega),x.succ hlt hp,⟨⟨⟨(by first|rfl|trivial),(by first|rfl|trivial)⟩,⟨(by first|rfl|trivial),r0 _ _⟩,⟨(by first|rfl|trivial),r0 _ _⟩,(by first|rfl|trivial),trivial⟩,⟨(by first|rfl|trivial),r0 _ _⟩,trivial⟩,Cnt.ext_lt hlt⟩⟩
  ·have:=of_decide_eq_true hh;exact⟨by omega,by omega⟩
  ·have:anyI (rc0 a) (badP a 1 0 7 l)=true:=anyI_iff.2 ⟨x.1,hlt,hp⟩;simp[ckS,this]
 ·have hge:=le_of_not hc;have g0:anyI (rc0 a) (badP a 1 0 7 l)=false:=by
   rw[Bool.eq_false_iff,ne_eq,anyI_iff];rintro⟨i,hi,h⟩;rw[x.2.2 i (by omega)] at h
   cases h
  refine⟨⟨cnt0,⟨⟨(by first|rfl|trivial),(by first|rfl|trivial)⟩,⟨(by first|rfl|trivial),r0 _ _⟩,(by first|rfl|trivial),trivial⟩,⟨(by first|rfl|trivial),r0 _ _⟩,trivial⟩,fun y=>⟨fun hc=> ?_,fun hc=> ?_⟩⟩
  ·have hlt:=lt_of_dec hc;have i2:InB 0 2:=⟨by omega,by omega⟩
   have i2':InB 1 2:=⟨by omega,by omega⟩
   rw[←badP_eq];refine⟨inB_nat hlt,i2,fun _=>inB_nat hlt,fun _=>i2',fun _=>i64_rng (by omega),fun _ _=>i64_rng (by omega),fun _ hh=> ?_,fun _ _=>i2,fun _ _=>inB_nat hlt,fun _ _=>i2,fun hp=> ?_,fun hp=>⟨add_rng hlt (by omega),y.succ hlt hp,⟨⟨⟨(by first|rfl|trivial),(by first|rfl|trivial)⟩,⟨(by first|rfl|trivial),r0 _ _⟩,(by first|rfl|trivial),trivial⟩,⟨(by first|rfl|trivial),r0 _ _⟩,trivial⟩,Cnt.ext_lt hlt⟩⟩
   ·have:=of_decide_eq_true hh;exact⟨by omega,by omega⟩
   ·have:anyI (rc1 a) (badP a (2+2*lo0 a) 1 60 l)=true:=anyI_iff.2 ⟨y.1,hlt,hp⟩;simp[ckS,this]
  ·have hge:=le_of_not hc;have g1:anyI (rc1 a) (badP a (2+2*lo0 a) 1 60 l)=false:=by
    rw[Bool.eq_false_iff,ne_eq,anyI_iff];rintro⟨i,hi,h⟩;rw[y.2.2 i (by omega)] at h
    cases h
   simp only[Bool.or_eq_false_iff,Bool.not_eq_false',decide_eq_false_iff_not] at hb;unfold ckS;rw[g0,g1,hb.1.1,show decide (rc0 a<=8)=true from decide_eq_true (by omega),show decide (rc1 a<=10)=true from decide_eq_true (by omega)]
   rfl
end Go.Proofs.YtokaojbaacnngaaGreat

namespace Go.Proofs.YtokaojbaacnngaaGreat
set_option maxRecDepth 100000
open Go.SS

theorem numR_drop(l:List UInt8)(k:Nat):numR (l.drop k)=byt l k:=by
 unfold numR byt;simp[List.getD_eq_getElem?_getD]
theorem byt_drop(l:List UInt8)(k i:Nat):byt (l.drop k) i=byt l (k+i):=by
 unfold byt;simp[List.getD_eq_getElem?_getD]
theorem byt_nn(l:List UInt8)(k:Nat):0<=byt l k:=by unfold byt;omega
def befo(l:List UInt8)(lo:Int)(i:Nat):Int:=if i=0 then lo-1 else byt l (1+2*(i-1))
def okP(l:List UInt8)(lo hi lsn:Int)(i:Nat):Bool:=inR (byt l (1+2*i)) (befo l lo i+1) hi&&inR (byt l (2+2*i)) 1 (lsn-1)
theorem go_eq(most lo hi lsn:Int)(l:List UInt8)(fl:Bool)(i:Nat):
  RdSt.go hi lsn (rl0 most lo l fl) i=⟨l.drop (1+2*i),fl||decide (l.length<1+2*i),decide (numR l<=most)&&(List.range i).all (okP l lo hi lsn),befo l lo i⟩:=by
 induction i with
 |zero=>
  simp only[RdSt.go,rl0,befo,if_true,List.range_zero,List.all_nil,Bool.and_true,Nat.mul_zero,Nat.add_zero];cases l<;>simp
 |succ i ih=>
  simp only[RdSt.go];rw[ih];simp only[RdSt.step];have e1:((l.drop (1+2*i)).drop 1).drop 1=l.drop (1+2*(i+1)):=by
   rw[List.drop_drop,List.drop_drop];congr 1
  have e2:numR ((l.drop (1+2*i)).drop 1)=byt l (2+2*i):=by
   rw[List.drop_drop,numR_drop];congr 1
   omega
  have e3:befo l lo (i+1)=numR (l.drop (1+2*i)):=by
   rw[numR_drop];simp[befo]
  have e4:(List.range (i+1)).all (okP l lo hi lsn)=((List.range i).all (okP l lo hi lsn)&&okP l lo hi lsn i):=by
   rw[List.range_succ,List.all_append];simp
  rw[e1,e2,e3,e4,numR_drop];congr 1
  ·have:(l.drop (1+2*i)).isEmpty=decide (l.length<=1+2*i):=by
    rw[Bool.eq_iff_iff];simp
   have h2:((l.drop (1+2*i)).drop 1).isEmpty=decide (l.length<=1+2*i+1):=by
    rw[Bool.eq_iff_iff];simp
   rw[this,h2,Bool.or_assoc,Bool.or_assoc];congr 1
   rw[Bool.eq_iff_iff];simp;omega
  ·unfold okP;rw[Bool.and_assoc,Bool.and_assoc]
theorem all_any{n:Nat}{p q:Nat->Bool}(h:∀i,p i= !q i):(List.range n).all p= !anyI n q:=by
 unfold anyI;rw[List.not_any_eq_all_not];congr 1
 funext i
 rw[h i]
theorem okP_bad(l:List UInt8)(lo hi lsn:Int)(h1:lo=0∨lo=1)(i:Nat):okP l lo hi lsn i= !badP l 1 lo hi lsn i:=by
 have b1:=byt_nn l (1+2*(i-1));have b2:=byt_nn l (1+2*i);unfold okP badP befo inR;rw[show 1+2*i+1=2+2*i by omega]
 rw[Bool.eq_iff_iff];by_cases hi0:i=0
 ·subst hi0;simp
 ·simp[hi0];omega
theorem badP_drop(a:List UInt8)(k:Nat)(lo hi lsn:Int)(i:Nat):badP (a.drop k) 1 lo hi lsn i=badP a (k+1) lo hi lsn i:=by
 unfold badP;simp only[byt_drop];rw[show k+(1+2*i)=k+1+2*i by omega,show k+(1+2*i+1)=k+1+2*i+1 by omega,show k+(1+2*(i-1))=k+1+2*(i-1) by omega]
theorem chk_eq(a:List UInt8)(lsn:Int):chkL a lsn=ckS a lsn:=by
 have n0:(numR a).toNat=lo0 a:=by simp[numR,lo0,byt]
 have n0':numR a=(lo0 a:Int):=by have:=numR_in a;omega
 have n1:numR (a.drop (1+2*lo0 a))=(lo1 a:Int):=by rw[numR_drop];have:=byt_nn a (1+2*lo0 a);simp[lo1];omega
 have n1':(numR (a.drop (1+2*lo0 a))).toNat=lo1 a:=by omega
 have E1:rlEnd 8 0 7 lsn a false=⟨a.drop (1+2*lo0 a),decide (a.length<1+2*lo0 a),decide ((lo0 a:Int)<=8)&& !anyI (lo0 a) (badP a 1 0 7 lsn),befo a 0 (lo0 a)⟩:=by
  unfold rlEnd;rw[go_eq,n0,n0',all_any (okP_bad a 0 7 lsn (.inl rfl)),Bool.false_or]
 have E2:rlEnd 10 1 60 lsn (a.drop (1+2*lo0 a)) (decide (a.length<1+2*lo0 a))=⟨a.drop (2+2*lo0 a+2*lo1 a),decide (a.length<2+2*lo0 a+2*lo1 a),decide ((lo1 a:Int)<=10)&& !anyI (lo1 a) (badP a (2+2*lo0 a) 1 60 lsn),befo (a.drop (1+2*lo0 a)) 1 (lo1 a)⟩:=by
  unfold rlEnd;rw[go_eq,n1',n1,all_any (okP_bad (a.drop (1+2*lo0 a)) 1 60 lsn (.inr rfl))];congr 1
  ·rw[List.drop_drop];congr 1;omega
  ·rw[Bool.eq_iff_iff];simp;omega
  ·congr 2
   unfold anyI;congr 1
   funext i
   rw[badP_drop];congr 1
   omega
 unfold chkL;rw[E1];simp only;rw[E2];simp only;have hE:(a.drop (2+2*lo0 a+2*lo1 a)).isEmpty=decide (a.length<=2+2*lo0 a+2*lo1 a):=by rw[Bool.eq_iff_iff];simp
 rw[hE];by_cases hr:0<a.length/\1+2*lo0 a<a.length/\2+2*lo0 a+2*lo1 a=a.length
 ·have c0:rc0 a=lo0 a:=by unfold rc0;rw[if_pos ⟨hr.1,by omega⟩]
  have c1:rc1 a=lo1 a:=by unfold rc1;rw[if_pos ⟨hr.1,hr.2.1,by omega⟩]
  unfold ckS;rw[show rcOK a=true from decide_eq_true hr,c0,c1]
  rw[show decide (a.length<1+2*lo0 a)=false from decide_eq_false (by omega),show decide (a.length<2+2*lo0 a+2*lo1 a)=false from decide_eq_false (by omega),show decide (a.length<=2+2*lo0 a+2*lo1 a)=true from decide_eq_true (by omega)]
  rw[show decide ((lo0 a:Int)<=8)=decide (lo0 a<=8) from decide_eq_decide.2 (by omega),show decide ((lo1 a:Int)<=10)=decide (lo1 a<=10) from decide_eq_decide.2 (by omega)]
  generalize anyI (lo0 a) _=x;generalize anyI (lo1 a) _=y;generalize decide (lo0 a<=8)=u;generalize decide (lo1 a<=10)=v;cases x<;>cases y<;>cases u<;>cases v<;>rfl
 ·have:ckS a lsn=false:=by
   unfold ckS;rw[show rcOK a=false from decide_eq_false hr]
   rfl
  rw[this];by_cases h1:a.length<2+2*lo0 a+2*lo1 a
  ·rw[show decide (a.length<2+2*lo0 a+2*lo1 a)=true from decide_eq_true h1]
   simp
  ·have h2:¬a.length<=2+2*lo0 a+2*lo1 a:=by omega
   rw[show decide (a.length<=2+2*lo0 a+2*lo1 a)=false from decide_eq_false h2]
   simp

noncomputable def c_RecordOKs:List T->Option (T×Option Prop)
 | [.agg [.int .i64 e,.int .i64 l,.int .i64 t,.int .i64 k,.int .i64 p,.int .i64 n,.int .i64 g,.int .i64 s,.str b,.str a]]=>some (.bool (recOK ⟨e,l,t,k,p,n,g,s,b,a⟩),some (Len a.length))
 |_=>none
noncomputable def k_RecordOKs:Con:=.pure c_RecordOKs
noncomputable def b_RecordOKs:Code:=Tryz.f138.body.getD .skip
theorem call_RecordOKs:Callable Tryz.prog 138:=⟨_,Tryz.func138,by kernel_rfl,by kernel_rfl⟩
theorem v_RecordOKs(r:Rec)(x:Bool)(h:
  ((!inR r.e (1:Int) (60:Int)|| !inR r.l (1:Int) (60:Int)|| !inR r.k (1:Int) (6:Int))=false->Rng .i64 (r.l- (1:Int)))/\((!inR r.e (1:Int) (60:Int)|| !inR r.l (1:Int) (60:Int)|| !inR r.k (1:Int) (6:
  Int)|| !inR r.p (0:Int) (r.l- (1:Int)))=false->Rng .i64 (r.l- (1:Int)))/\((!inR r.e (1:Int) (60:Int)|| !inR r.l (1:Int) (60:Int)|| !inR r.k (1:Int) (6:Int)|| !inR r.p (0:Int) (r.l- (1:Int))|| !inR
  r.n (0:Int) (r.l- (1:Int))|| !inR r.g (0:Int) (7:Int)|| !inR r.s (0:Int) (3:Int)||decide ((r.b.length:Int)>(30:Int)))=true->false=x)/\((!inR r.e (1:Int) (60:Int)|| !inR r.l (1:Int) (60:Int)||
  !inR r.k (1:Int) (6:Int)|| !inR r.p (0:Int) (r.l- (1:Int))|| !inR r.n (0:Int) (r.l- (1:Int))|| !inR r.g (0:Int) (7:Int)|| !inR r.s (0:Int) (3:Int)||decide ((r.b.length:Int)>(30:Int)))=false->
  ((r.k==(6:Int))=true->((r.t==(0:Int)&&r.p==(0:Int)&&r.n==(0:Int)&&r.g==(0:Int)&&r.s==(0:Int)&&r.b==[])=true->LenSm r.a r.l)/\(r.t==(0:Int)&&r.p==(0:Int)&&r.n==(0:Int)&&
  r.g==(0:Int)&&r.s==(0:Int)&&r.b==[]&&ckS r.a r.l)=x)/\((r.k==(6:Int))=false->((!inR r.t (1:Int) (60:Int)||decide ((r.a.length:Int)>(30:Int)))=true->false=x)/\((!inR r.t (1:Int) (60:
  Int)||decide ((r.a.length:Int)>(30:Int)))=false->((!(r.k==(2:Int)||r.k==(3:Int))&&(r.g !=(0:Int)||r.s !=(0:Int)|| !r.b==[]|| !r.a==[])||r.k !=(3:Int)&&r.n !=(0:Int)||r.k==(3:Int)
  && !r.b==[])=true->false=x)/\((!(r.k==(2:Int)||r.k==(3:Int))&&(r.g !=(0:Int)||r.s !=(0:Int)|| !r.b==[]|| !r.a==[])||r.k !=(3:Int)&&r.n !=(0:Int)||r.k==(3:Int)&& !r.b==[])=
  false->((r.k==(1:Int))==(r.p==(0:Int)))=x))))):
  PureFn Tryz.prog 138 [.agg r.ts] (.bool x):=
 vcR (code:=b_RecordOKs) (gC CheckOK_ok call_CheckOK (gC l01In_ok call_l01In gN)) Tryz.func138 (by kernel_rfl) (by kernel_rfl) noAnn h (by kernel_rfl)
theorem beqs'{p k a b:Int}:((k==b)=(p==a))↔(k=b↔p=a):=by
 rw[Bool.eq_iff_iff,beq_iff_eq,beq_iff_eq]
theorem RecordOKs_ok:ConOk Tryz.prog 138 k_RecordOKs:=by
 intro args res p h hp;unfold c_RecordOKs at h;split at h
 case h_2=>cases h
 rename_i e l t k p n g s b a;simp only[Option.some.injEq,Prod.mk.injEq] at h;obtain⟨rfl,rfl⟩:=h;have hp:a.length<1000000000000:=hp;refine v_RecordOKs ⟨e,l,t,k,p,n,g,s,b,a⟩ _ ?_
 simp only[Rec.e,Rec.l,Rec.t,Rec.k,Rec.p,Rec.n,Rec.g,Rec.s,Rec.b,Rec.a];have hr:∀{q:Bool},(!inR e 1 60|| !inR l 1 60||q)=false->Rng .i64 (l-1):=by
  intro q h;simp only[Bool.or_eq_false_iff,Bool.not_eq_false',inR,Bool.and_eq_true,decide_eq_true_eq] at h;exact i64_rng (by omega)
 refine⟨hr,fun h=>hr (q:= !inR k 1 6|| !inR p 0 (l-1)) (by rw[←h];simp[Bool.or_assoc]),fun h=> ?_,fun h=> ?_⟩
 ·refine(recOK_no ?_).symm
  simp only[Bool.or_eq_true,Bool.not_eq_true',inR,Bool.and_eq_false_iff,decide_eq_false_iff_not,decide_eq_true_eq] at h;unfold RecP;simp only;omega
 simp only[Bool.or_eq_false_iff,Bool.not_eq_false',inR,Bool.and_eq_true,decide_eq_true_eq,decide_eq_false_iff_not] at h;by_cases h6:k=6
 ·subst h6;refine⟨fun _=>⟨fun _=>⟨hp,by omega,by omega⟩,bool_eq ?_⟩,fun h=>by simp at h⟩
  rw[recOK_iff,←chk_eq];simp only[RecP,decide_eq_true_eq,Bool.and_eq_true,beq_iff_eq,true_and,and_true];constructor
  ·rintro⟨⟨⟨⟨⟨⟨rfl,rfl⟩,rfl⟩,rfl⟩,rfl⟩,rfl⟩,hc⟩;simp[hc];omega
  ·rintro⟨_,_,_,_,_,_,_,_,_,_,_,_,_,_,_,hh,_⟩;obtain⟨rfl,rfl,rfl,rfl,rfl,rfl,hc⟩:=hh trivial;simp[hc]
 refine⟨fun h=>absurd (by simpa using h) h6,fun _=>⟨fun hb=> ?_,fun hb=>⟨fun hc=> ?_,fun hc=>bool_eq ?_⟩⟩⟩
 ·refine(recOK_no ?_).symm
  simp[inR] at hb;unfold RecP;simp only;omega
 ·refine(recOK_no ?_).symm
  unfold RecP;simp only;rintro⟨_,_,_,_,_,_,_,_,_,_,_,_,_,_,_,_,hh⟩;obtain⟨c1,c2,c3,c4,c5,c6,c7⟩:=hh h6;simp only[Bool.or_eq_true,Bool.and_eq_true,Bool.not_eq_true',Bool.or_eq_false_iff,beq_iff_eq,bne_iff_ne,beq_eq_false_iff_ne] at hc;rcases hc with(⟨⟨x2,x3⟩,hc⟩|⟨x3,hn⟩)|⟨x3,hn⟩
  ·obtain⟨d1,d2,d3,d4⟩:=c4 x2 x3;rcases hc with((hc|hc)|hc)|hc
   ·exact hc d1
   ·exact hc d2
   ·exact hc d3
   ·exact hc d4
  ·exact hn (c5 x3)
  ·exact hn (c6 x3)
 ·rw[recOK_iff];simp only[RecP,beqs',true_and,and_true,beq_iff_eq];simp[inR] at hb hc;constructor
  ·intro hk;refine⟨by omega,by omega,by omega,by omega,by omega,by omega,by omega,by omega,by omega,by omega,by omega,by omega,by omega,by omega,by omega,fun h=>absurd h h6,fun _=>⟨by omega,by omega,by omega,fun x2 x3=> ?_,fun x3=> ?_,fun x3=> ?_,hk⟩⟩
   ·have:=hc.1.1 x2 x3;exact⟨this.1.1.1,this.1.1.2,this.1.2,this.2⟩
   ·exact hc.1.2 x3
   ·exact hc.2 x3
  ·rintro⟨_,_,_,_,_,_,_,_,_,_,_,_,_,_,_,_,hh⟩;exact(hh h6).2.2.2.2.2.2
end Go.Proofs.YtokaojbaacnngaaGreat

