/- A part of the proof. -/
import Derived.Test.YtokaojbaacnngaaGreatU3U4U5
import Derived.Test.YtokaojbaacnngaaGreatL7L8
import Derived.Test.YtokaojbaacnngaaGreatX11X11rX12X13X14
namespace Go.Proofs.YtokaojbaacnngaaGreat
set_option maxRecDepth 100000
open Go.SS

noncomputable def sF(e:Eng):Eng:=⟨⟨e.s.d,e.s.ep,D7 e.s.d (v8 e.s.d e.s.ep),(v8 e.s.d e.s.ep:Nat),[],0⟩,false,[],⟨[],[]⟩,e.next⟩
noncomputable def c53:Con:=.reff ⟨Eng×Nat,fun x=>[.ref 0 0 0],fun x=>x.1.bx x.2,fun _=>.int .i64 15,fun x=>(sF x.1).nx 0,fun x=>G7 x.1.s.d⟩
noncomputable def c6y:Code:=Tryz.f114.body.getD .skip
theorem b4G:Z7 Tryz.prog 114:=⟨_,Tryz.func114,by kernel_rfl,by kernel_rfl⟩
theorem c6j(e:Eng)(v:Nat)(h:
  ∃(x:(Dsk×Int)),((Le (0+e.s.d.sec.length) e.s.d.sec.length/\Le (0+e.s.d.cache.length) e.s.d.cache.length/\Le (0+e.s.d.keep.length) e.s.d.keep.length)/\((zR e.s.d x.fst)/\e.s.ep=x.snd/\True)/\LgS x)/\((15:
  Int)=(15:Int)/\True)/\(1=1/\1=1/\(0=0/\e.s.d.sec.length=e.s.d.sec.length)/\(0=0/\e.s.d.cache.length=e.s.d.cache.length)/\e.s.d.armed=e.s.d.armed/\(0=0/\e.s.d.keep.length=e.s.d.keep.length)/\e.s.ep
  =e.s.ep/\(0=0/\v8 x.fst x.snd=(D7 e.s.d (v8 e.s.d e.s.ep)).length)/\(↑(v8 x.fst x.snd):Int)=(↑(v8 e.s.d e.s.ep):Int)/\(0=0/\0=0)/\(0:Int)=(0:Int)/\false=false/\(0=0/\0=0)/\(0=0/\0=0)
  /\(0=0/\0=0)/\e.next=e.next/\True)/\True/\True/\True/\True/\True/\True/\True/\True/\(Y4 Z6 e.s.d.sec e.s.d.sec)/\(Y4 Z3 e.s.d.cache e.s.d.cache)/\(Y4 Y8 e.s.d.keep e.s.d.keep)/\(Y4 Y5 (D7
  x.fst (v8 x.fst x.snd)) (D7 e.s.d (v8 e.s.d e.s.ep)))/\(0=0/\0=0/\T5 0 (fun(x:Nat)=>[]) (X9 []))/\(0=0/\Z8 0 (fun(x:Nat)=>[]) (Y0 []))/\(0=0/\Z8 0 (fun(x:Nat)=>[]) (Y2 []))/\
  (0=0/\Z8 0 (fun(x:Nat)=>[]) (X3 []))/\True):
  V3 Tryz.prog 114 [.ref 0 0 0] (e.bx v) (.int .i64 15) ((sF e).nx 0):=
 v5 (code:=c6y) (gC a5w a0v gN) Tryz.func114 (by kernel_rfl) (by kernel_rfl) Z0 [[.nilC 0 7 0 5,.fac 0 7,.nilC 0 10 0 2,.nilC 0 11 0 4,.nilC 0 12 0 2,.box 0,.arr 1,.arr 2,.arr 3,.arr 4,.arr 5,.arr 6,.arr 7,.arr 8,.cel 0 0,.cel 0 1,.cel 0 3,.cel 0 5,.cel 0 7,.cel 0 10,.cel 0 11,.cel 0 12]] h (by kernel_rfl)
theorem c2g:Z1 Tryz.prog 114 c53:=by
 rintro⟨e,v⟩ (hd:G7 e.s.d);have hl:=(q7 e.s.d (v8 e.s.d e.s.ep)).symm;exact c6j e v ⟨(e.s.d,e.s.ep),⟨⟨S7 _,S7 _,S7 _⟩,⟨xL _,rfl,trivial⟩,hd⟩,⟨rfl,trivial⟩,⟨rfl,rfl,⟨rfl,rfl⟩,⟨rfl,rfl⟩,rfl,⟨rfl,rfl⟩,rfl,⟨rfl,hl⟩,rfl,⟨rfl,rfl⟩,rfl,rfl,⟨rfl,rfl⟩,⟨rfl,rfl⟩,⟨rfl,rfl⟩,rfl,trivial⟩,trivial,trivial,trivial,trivial,trivial,trivial,trivial,trivial,⟨rfl,Z9 _ _⟩,⟨rfl,Z9 _ _⟩,⟨rfl,Z9 _ _⟩,⟨rfl,Z9 _ _⟩,⟨rfl,rfl,fun i hi=>absurd hi (J2 _)⟩,⟨rfl,U1⟩,⟨rfl,U1⟩,⟨rfl,U1⟩,trivial⟩
def sdE(e:Eng)(d:Dsk):Eng:={e with s:=e.s.sd d}
theorem b9l(sec:List (List UInt8))(C:List Pend)(Q:Nat->Bool)(h:∀i,i<sec.length->(sec.getD i []).length<=160)(hc:∀i,i<C.length->(C.getD i default).d.length<=160):∀n,n<=C.length->∀i,i<sec.length->((u2 sec C Q n).getD i []).length<=160
 |0,_,i,hi=>h i hi
 |n+1,hn,i,hi=>by
  unfold u2;have ih:=b9l sec C Q h hc n (by omega) i hi
  split
  ·by_cases hj:i=(C.getD n default).at_.toNat
   ·subst hj;rw[C0,List.getElem?_set_self (by rw[y7];exact hi)]
    exact hc n (by omega)
   ·rw[C0,j_h (Ne.symm hj),←C0]
    exact ih
  ·exact ih
theorem lK{m:Nat}{p:Pend}(h:S8 m p=false):0<=p.at_/\p.at_<m/\p.d.length<=160:=by
 unfold S8 at h;simp only[vG,tE,O5,tV] at h;omega
theorem a4Q{d:Dsk}(h:G7 d):PdB d:=fun i hi=>by
 have:=lK (h.2.2.2.2.2.2 i hi);exact⟨this.1,this.2.1⟩
theorem c1o{e:Eng}(h:Q5 e=true):G7 e.s.d/\e.s.d.sec.length=69:=by
 have:=(zK e.s).1 ((I2 e.s).1 (I5 h).1).1.1;exact⟨this.1,this.2.1⟩
theorem oS{n:Nat}{p:Nat->Bool}(h:¬Q4 n p<0):∃i,i<n/\p i=true/\(∀j,j<i->p j=false)/\Q4 n p=(i:Int):=by
 cases ha:anyI n p with
 |false=>exact absurd (by rw[J4 (M5.1 ha)];omega) h
 |true=>
  obtain⟨i,hi,hp⟩:=Q0.1 ha;have key:∀m,m<=n->(∀j,j<m->p j=false)∨∃i,i<n/\p i=true/\(∀j,j<i->p j=false):=by
   intro m;induction m with
   |zero=>intro _;exact .inl fun j hj=>absurd hj (J2 j)
   |succ m ih=>
    intro hm;rcases ih (by omega) with h0|h0
    ·cases hq:p m with
     |true=>exact .inr ⟨m,hm,hq,h0⟩
     |false=>
      refine .inl fun j hj=> ?_
      by_cases hjm:j=m
      ·rw[hjm];exact hq
      ·exact h0 j (by omega)
    ·exact .inr h0
  rcases key n (V5 n) with h0|⟨k,hk,hpk,hn⟩
  ·rw[h0 i hi] at hp;cases hp
  ·exact⟨k,hk,hpk,hn,M1 hk hpk hn⟩
theorem c6I(d:Dsk)(ep:Int):v8 d ep<=d.sec.length-9:=by
 unfold v8;split
 ·exact V5 _
 ·rename_i h;by_cases hn:Q4 (d.sec.length-9) (cU d ep)<0
  ·omega
  ·obtain⟨i,hi,_,_,e⟩:=oS hn;omega
noncomputable def b1m:Con:=.rel ⟨Eng×Dsk,fun x=>[.agg x.1.ts,.agg x.2.ts],fun x=>.agg (sF (sdE x.1 x.2)).ts,fun x=>G7 x.2/\x.2.sec.length=69⟩
noncomputable def b1I:Code:=Tryz.f55.body.getD .skip
theorem a0a:Z7 Tryz.prog 55:=⟨_,Tryz.func55,by kernel_rfl,by kernel_rfl⟩
theorem b4u(e:Eng)(d:Dsk)(h:
  ∃(x:(Dsk×Int)),(((zR d x.fst)/\e.s.ep=x.snd/\True)/\G7 x.fst/\x.fst.sec.length=69)/\(Y4 Z6 d.sec d.sec)/\(Y4 Z3 d.cache d.cache)/\d.armed=d.armed/\(Y4 Y8 d.keep d.keep)/\e.s.ep=e.s.ep/\
  (Y4 Y5 (D7 x.fst (v8 x.fst x.snd)) (D7 d (v8 d e.s.ep)))/\(↑(D7 x.fst (v8 x.fst x.snd)).length:Int)=(↑(v8 d e.s.ep):Int)/\0=0/\(0:Int)=(0:Int)/\false=false/\0=0/\0=0/\0=0/\e.next=e.next
  /\True):
  Z2 Tryz.prog 55 [.agg e.ts,.agg d.ts] (.agg (sF (sdE e d)).ts):=
 T4 (code:=b1I) (gC b12 a3g (gC sL zN (gC a9W fU gN))) Tryz.func55 (by kernel_rfl) (by kernel_rfl) Z0 h (by kernel_rfl)
theorem a8x:Z1 Tryz.prog 55 b1m:=by
 rintro⟨e,d⟩ ⟨h1,h2⟩;dsimp only at h1 h2;exact b4u e d ⟨(d,e.s.ep),⟨⟨xL _,rfl,trivial⟩,h1,h2⟩,⟨rfl,Z9 _ _⟩,⟨rfl,Z9 _ _⟩,rfl,⟨rfl,Z9 _ _⟩,rfl,⟨rfl,Z9 _ _⟩,congrArg _ (q7 _ _),rfl,rfl,rfl,rfl,rfl,rfl,rfl,trivial⟩
end Go.Proofs.YtokaojbaacnngaaGreat

