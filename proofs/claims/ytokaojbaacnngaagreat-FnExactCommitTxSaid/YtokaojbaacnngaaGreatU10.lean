/- A part of the proof. -/
import Derived.Test.YtokaojbaacnngaaGreatU3U4U5
import Derived.Test.YtokaojbaacnngaaGreatL7L8
import Derived.Test.YtokaojbaacnngaaGreatX11X11rX12X13X14
namespace Go.Proofs.YtokaojbaacnngaaGreat
set_option maxRecDepth 100000
open Go.SS

noncomputable def a7f(e:Eng):Eng:=⟨⟨e.s.d,e.s.ep,C5 e.s.d (lgM e.s.d e.s.ep),(lgM e.s.d e.s.ep:Nat),[],0⟩,false,[],⟨[],[]⟩,e.next⟩
noncomputable def d5y:Con:=.reff ⟨Eng×Nat,fun x=>[.ref 0 0 0],fun x=>x.1.bx x.2,fun _=>.int .i64 15,fun x=>(a7f x.1).nx 0,fun x=>C7 x.1.s.d⟩
noncomputable def d4I:Code:=Tryz.f114.body.getD .skip
theorem b9A:Z8 Tryz.prog 114:=⟨_,Tryz.func114,by kernel_rfl,by kernel_rfl⟩
theorem d4l(e:Eng)(v:Nat)(h:
  ∃(x:(Dsk×Int)),((Le (0+e.s.d.sec.length) e.s.d.sec.length/\Le (0+e.s.d.cache.length) e.s.d.cache.length/\Le (0+e.s.d.keep.length) e.s.d.keep.length)/\((EqD e.s.d x.fst)/\e.s.ep=x.snd/\True)/\LgS x)/\((15:
  Int)=(15:Int)/\True)/\(1=1/\1=1/\(0=0/\e.s.d.sec.length=e.s.d.sec.length)/\(0=0/\e.s.d.cache.length=e.s.d.cache.length)/\e.s.d.armed=e.s.d.armed/\(0=0/\e.s.d.keep.length=e.s.d.keep.length)/\e.s.ep
  =e.s.ep/\(0=0/\lgM x.fst x.snd=(C5 e.s.d (lgM e.s.d e.s.ep)).length)/\(↑(lgM x.fst x.snd):Int)=(↑(lgM e.s.d e.s.ep):Int)/\(0=0/\0=0)/\(0:Int)=(0:Int)/\false=false/\(0=0/\0=0)/\(0=0/\0=0)
  /\(0=0/\0=0)/\e.next=e.next/\True)/\True/\True/\True/\True/\True/\True/\True/\True/\(Y3 Z6 e.s.d.sec e.s.d.sec)/\(Y3 Z3 e.s.d.cache e.s.d.cache)/\(Y3 Y7 e.s.d.keep e.s.d.keep)/\(Y3 Y4 (C5
  x.fst (lgM x.fst x.snd)) (C5 e.s.d (lgM e.s.d e.s.ep)))/\(0=0/\0=0/\T9 0 (fun(x:Nat)=>[]) (Y0 []))/\(0=0/\Z7 0 (fun(x:Nat)=>[]) (X9 []))/\(0=0/\Z7 0 (fun(x:Nat)=>[]) (Y9 []))/\
  (0=0/\Z7 0 (fun(x:Nat)=>[]) (Y1 []))/\True):
  V7 Tryz.prog 114 [.ref 0 0 0] (e.bx v) (.int .i64 15) ((a7f e).nx 0):=
 C4 (code:=d4I) (gC b66 a8A gN) Tryz.func114 (by kernel_rfl) (by kernel_rfl) Z0 [[.nilC 0 7 0 5,.fac 0 7,.nilC 0 10 0 2,.nilC 0 11 0 4,.nilC 0 12 0 2,.box 0,.arr 1,.arr 2,.arr 3,.arr 4,.arr 5,.arr 6,.arr 7,.arr 8,.cel 0 0,.cel 0 1,.cel 0 3,.cel 0 5,.cel 0 7,.cel 0 10,.cel 0 11,.cel 0 12]] h (by kernel_rfl)
theorem d1r:Z2 Tryz.prog 114 d5y:=by
 rintro⟨e,v⟩ (hd:C7 e.s.d);have hl:=(v4 e.s.d (lgM e.s.d e.s.ep)).symm;exact d4l e v ⟨(e.s.d,e.s.ep),⟨⟨T3 _,T3 _,T3 _⟩,⟨eqD _,rfl,trivial⟩,hd⟩,⟨rfl,trivial⟩,⟨rfl,rfl,⟨rfl,rfl⟩,⟨rfl,rfl⟩,rfl,⟨rfl,rfl⟩,rfl,⟨rfl,hl⟩,rfl,⟨rfl,rfl⟩,rfl,rfl,⟨rfl,rfl⟩,⟨rfl,rfl⟩,⟨rfl,rfl⟩,rfl,trivial⟩,trivial,trivial,trivial,trivial,trivial,trivial,trivial,trivial,⟨rfl,Z9 _ _⟩,⟨rfl,Z9 _ _⟩,⟨rfl,Z9 _ _⟩,⟨rfl,Z9 _ _⟩,⟨rfl,rfl,fun i hi=>absurd hi (Nat.not_lt_zero _)⟩,⟨rfl,V0⟩,⟨rfl,V0⟩,⟨rfl,V0⟩,trivial⟩
def sdE(e:Eng)(d:Dsk):Eng:={e with s:=e.s.sd d}
theorem c67(sec:List (List UInt8))(C:List Pend)(Q:Nat->Bool)(h:∀i,i<sec.length->(sec.getD i []).length<=160)(hc:∀i,i<C.length->(C.getD i default).d.length<=160):∀n,n<=C.length->∀i,i<sec.length->((y6 sec C Q n).getD i []).length<=160
 |0,_,i,hi=>h i hi
 |n+1,hn,i,hi=>by
  unfold y6;have ih:=c67 sec C Q h hc n (by omega) i hi
  split
  ·by_cases hj:i=(C.getD n default).at_.toNat
   ·subst hj;rw[List.getD_eq_getElem?_getD,List.getElem?_set_self (by rw[B2];exact hi)]
    exact hc n (by omega)
   ·rw[List.getD_eq_getElem?_getD,List.getElem?_set_ne (Ne.symm hj),←List.getD_eq_getElem?_getD]
    exact ih
  ·exact ih
theorem b0E{m:Nat}{p:Pend}(h:S9 m p=false):0<=p.at_/\p.at_<m/\p.d.length<=160:=by
 unfold S9 at h;simp only[Bool.or_eq_false_iff,Bool.not_eq_false',N3,decide_eq_false_iff_not] at h;omega
theorem d32{d:Dsk}(h:C7 d):PdB d:=fun i hi=>by
 have:=b0E (h.2.2.2.2.2.2 i hi);exact⟨this.1,this.2.1⟩
theorem d2v{e:Eng}(h:P1 e=true):C7 e.s.d/\e.s.d.sec.length=69:=by
 have:=(d8 e.s).1 ((G7 e.s).1 (G8 h).1).1.1;exact⟨this.1,this.2.1⟩
theorem a3I{n:Nat}{p:Nat->Bool}(h:¬T4 n p<0):∃i,i<n/\p i=true/\(∀j,j<i->p j=false)/\T4 n p=(i:Int):=by
 cases ha:anyI n p with
 |false=>exact absurd (by rw[M1 (L5.1 ha)];omega) h
 |true=>
  obtain⟨i,hi,hp⟩:=Q1.1 ha;have key:∀m,m<=n->(∀j,j<m->p j=false)∨∃i,i<n/\p i=true/\(∀j,j<i->p j=false):=by
   intro m;induction m with
   |zero=>intro _;exact .inl fun j hj=>absurd hj (Nat.not_lt_zero j)
   |succ m ih=>
    intro hm;rcases ih (by omega) with h0|h0
    ·cases hq:p m with
     |true=>exact .inr ⟨m,hm,hq,h0⟩
     |false=>
      refine .inl fun j hj=> ?_
      by_cases hjm:j=m
      ·rw[hjm];exact hq
      ·exact h0 j (by omega)
    ·exact .inr h0
  rcases key n (Nat.le_refl n) with h0|⟨k,hk,hpk,hn⟩
  ·rw[h0 i hi] at hp;cases hp
  ·exact⟨k,hk,hpk,hn,N9 hk hpk hn⟩
theorem d5M(d:Dsk)(ep:Int):lgM d ep<=d.sec.length-9:=by
 unfold lgM;split
 ·exact Nat.le_refl _
 ·rename_i h;by_cases hn:T4 (d.sec.length-9) (lgB d ep)<0
  ·omega
  ·obtain⟨i,hi,_,_,e⟩:=a3I hn;omega
noncomputable def c2O:Con:=.rel ⟨Eng×Dsk,fun x=>[.agg x.1.ts,.agg x.2.ts],fun x=>.agg (a7f (sdE x.1 x.2)).ts,fun x=>C7 x.2/\x.2.sec.length=69⟩
noncomputable def b9U:Code:=Tryz.f55.body.getD .skip
theorem a7d:Z8 Tryz.prog 55:=⟨_,Tryz.func55,by kernel_rfl,by kernel_rfl⟩
theorem b96(e:Eng)(d:Dsk)(h:
  ∃(x:(Dsk×Int)),(((EqD d x.fst)/\e.s.ep=x.snd/\True)/\C7 x.fst/\x.fst.sec.length=69)/\(Y3 Z6 d.sec d.sec)/\(Y3 Z3 d.cache d.cache)/\d.armed=d.armed/\(Y3 Y7 d.keep d.keep)/\e.s.ep=e.s.ep/\
  (Y3 Y4 (C5 x.fst (lgM x.fst x.snd)) (C5 d (lgM d e.s.ep)))/\(↑(C5 x.fst (lgM x.fst x.snd)).length:Int)=(↑(lgM d e.s.ep):Int)/\0=0/\(0:Int)=(0:Int)/\false=false/\0=0/\0=0/\0=0/\e.next=e.next
  /\True):
  Z1 Tryz.prog 55 [.agg e.ts,.agg d.ts] (.agg (a7f (sdE e d)).ts):=
 T7 (code:=b9U) (gC c3u b0x (gC l7 E9 (gC b7X a6F gN))) Tryz.func55 (by kernel_rfl) (by kernel_rfl) Z0 h (by kernel_rfl)
theorem b6Q:Z2 Tryz.prog 55 c2O:=by
 rintro⟨e,d⟩ ⟨h1,h2⟩;dsimp only at h1 h2;exact b96 e d ⟨(d,e.s.ep),⟨⟨eqD _,rfl,trivial⟩,h1,h2⟩,⟨rfl,Z9 _ _⟩,⟨rfl,Z9 _ _⟩,rfl,⟨rfl,Z9 _ _⟩,rfl,⟨rfl,Z9 _ _⟩,congrArg _ (v4 _ _),rfl,rfl,rfl,rfl,rfl,rfl,rfl,trivial⟩
end Go.Proofs.YtokaojbaacnngaaGreat

