/- A part of the proof. -/
import Derived.Test.YtokaojbaacnngaaGreatE5
namespace Go.Proofs.YtokaojbaacnngaaGreat
set_option maxRecDepth 100000
open Go.SS

def S9(m:Nat)(p:Pend):Bool:= !W9 p.at_ 0 ((m:Int)-1)||decide ((p.d.length:Int)>160)
def C7(d:Dsk):Prop:=1<=d.sec.length/\d.sec.length<=100/\d.cache.length<=500/\d.keep.length<=500/\(d.armed=false->d.keep.length=0)/\(∀i,i<d.sec.length->(d.sec.getD i []).length<=160)/\
 ∀i,i<d.cache.length->S9 d.sec.length (d.cache.getD i default)=false
noncomputable instance(d:Dsk):Decidable (C7 d):=Classical.propDecidable _
noncomputable def E8(d:Dsk):Bool:=decide (C7 d)
theorem a2T(d:Dsk):E8 d=true↔C7 d:=decide_eq_true_iff
theorem a8B{d:Dsk}(h:¬C7 d):false=E8 d:=(decide_eq_false h).symm
def d1X(d:Dsk):Prop:=N8 d.sec.length/\N8 d.cache.length/\N8 d.keep.length
def c7N(d:Dsk):T:=.fn (.func 209) [.bref d.ts]
def a6u:Rl:=⟨Dsk×Pend,fun x=>[.agg x.2.ts,.bref x.1.ts],fun x=>.bool (S9 x.1.sec.length x.2),fun x=>N8 x.1.sec.length⟩
def c1A:Con:=.rel a6u
noncomputable def c0m:Code:=Tryz.f209.body.getD .skip
theorem a7V:Z8 Tryz.prog 209:=⟨_,Tryz.func209,by kernel_rfl,by kernel_rfl⟩
theorem c1y(d:Dsk)(p:Pend)(h:
  A5 (d.sec.length:Int)/\(!(decide ((0:Int)<=p.at_)&&decide (p.at_<(d.sec.length:Int)))||decide ((p.d.length:Int)>(160:Int)))=S9 d.sec.length p):
  Z1 Tryz.prog 209 [.agg p.ts,.bref d.ts] (.bool (S9 d.sec.length p)):=
 T7 (code:=c0m) (gC a0y w7 gN) Tryz.func209 (by kernel_rfl) (by kernel_rfl) Z0 h (by kernel_rfl)
theorem b5l:Z2 Tryz.prog 209 c1A:=by
 rintro⟨d,p⟩ (h:d.sec.length<1000000000000);refine c1y d p ⟨⟨by omega,by omega⟩,?_⟩
 unfold S9 W9;rw[show decide (p.at_<(d.sec.length:Int))=decide (p.at_<=(d.sec.length:Int)-1) from decide_eq_decide.2 (by omega)]
theorem T6{ρ:Nat->Option Nat}(cs:List T):O3 ρ (.bref cs) (.bref cs):=⟨1,_,rfl,RLe.refl _⟩
def a6A:Rl:=⟨List Pend×Dsk,fun x=>[M0 x.1,c7N x.2],fun x=>.int .i64 (T4 x.1.length fun i=>S9 x.2.sec.length (x.1.getD i default)),fun x=>N8 x.1.length/\N8 x.2.sec.length⟩
def b9m:Con:=.rel a6A
def c0k(L:List Pend)(d:Dsk):Nat->Ann
 |0=>.one (W5 L.length fun i=>S9 d.sec.length (L.getD i default)) (fun x=>⟨[(0,M0 L),(1,c7N d),(7,.int .i64 L.length),(8,.int .i64 x.1)],[]⟩) (fun x=>L.length-x.1) [] [] (fun _=>Z0)
 |_=>.none
noncomputable def c0r:Code:=Tryz.f252.body.getD .skip
theorem a71:Z8 Tryz.prog 252:=⟨_,Tryz.func252,by kernel_rfl,by kernel_rfl⟩
theorem b9x(L:List Pend)(d:Dsk)(h:
  (∃(x:W5 L.length fun(i:Nat)=>S9 d.sec.length (L.getD i default)),((Y3 Z3 L L)/\(Fn.func 209=Fn.func 209/\O3 (fun(x:Nat)=>none) (T.bref [T.sl 1 d.sec.length (Z6 d.sec),T.sl 2 d.cache.length
  (Z3 d.cache),T.bool d.armed,T.sl 1 d.keep.length (Y7 d.keep)]) (T.bref [T.sl 1 d.sec.length (Z6 d.sec),T.sl 2 d.cache.length (Z3 d.cache),T.bool d.armed,T.sl 1 d.keep.length (Y7 d.keep)])/\True)/\
  (L.length:Int)=(L.length:Int)/\(0:Int)=(x.val:Int)/\True)/\True)/\∀(x:W5 L.length fun(i:Nat)=>S9 d.sec.length (L.getD i default)),(decide ((x.val:Int)<(L.length:Int))=true->W7 (x.val:Int) L.length/\
  ∃(x_1:a6u.ι),((((L.getD (x.val:Int).toNat default).at_=x_1.snd.at_/\(L.getD (x.val:Int).toNat default).d=x_1.snd.d/\True)/\(EqD d x_1.fst)/\True)/\N8 x_1.fst.sec.length)/\(S9 x_1.fst.sec.length x_1.snd=
  true->(x.val:Int)=T4 L.length fun(i:Nat)=>S9 d.sec.length (L.getD i default))/\(S9 x_1.fst.sec.length x_1.snd=false->X6 .i64 ((x.val:Int)+(1:Int))/\∃(y:W5 L.length fun(i:Nat)=>S9
  d.sec.length (L.getD i default)),(((Y3 Z3 L L)/\(Fn.func 209=Fn.func 209/\O3 (fun(x:Nat)=>none) (T.bref [T.sl 1 d.sec.length (Z6 d.sec),T.sl 2 d.cache.length (Z3 d.cache),T.bool d.armed,T.sl 1
  d.keep.length (Y7 d.keep)]) (T.bref [T.sl 1 d.sec.length (Z6 d.sec),T.sl 2 d.cache.length (Z3 d.cache),T.bool d.armed,T.sl 1 d.keep.length (Y7 d.keep)])/\True)/\(L.length:Int)=(L.length:Int)/\(x.val:Int)+
  (1:Int)=(y.val:Int)/\True)/\True)/\Lt (L.length-y.val) (L.length-x.val)))/\(decide ((x.val:Int)<(L.length:Int))=false->(-1:Int)=T4 L.length fun(i:Nat)=>S9 d.sec.length (L.getD i default))):
  Z1 Tryz.prog 252 [M0 L,c7N d] (.int .i64 (T4 L.length fun i=>S9 d.sec.length (L.getD i default))):=
 T7 (code:=c0r) (gC b5l a7V gN) Tryz.func252 (by kernel_rfl) (by kernel_rfl) (c0k L d) h (by kernel_rfl)
theorem b4c:Z2 Tryz.prog 252 b9m:=by
 rintro⟨L,d⟩ ⟨hL,hd⟩;have hL:L.length<1000000000000:=hL;refine b9x L d ⟨⟨I5,⟨⟨rfl,fun _ _=>rfl⟩,⟨rfl,T6 _,trivial⟩,rfl,rfl,trivial⟩,trivial⟩,fun x=>⟨fun hc=> ?_,fun hc=> ?_⟩⟩
 ·have hlt:=Y6 hc;refine⟨Y8 hlt,(d,L.getD x.val default),⟨⟨⟨rfl,rfl,trivial⟩,⟨⟨rfl,Z9 _ _⟩,⟨rfl,Z9 _ _⟩,rfl,⟨rfl,Z9 _ _⟩,trivial⟩,trivial⟩,hd⟩,fun hp=>(N9 hlt hp x.2.2).symm,fun hp=>⟨W8 hlt (by omega),x.succ hlt hp,⟨⟨⟨rfl,fun _ _=>rfl⟩,⟨rfl,T6 _,trivial⟩,rfl,by simp only[W5.succ];omega,trivial⟩,trivial⟩,W5.ext_lt hlt⟩⟩
 ·have hge:=Y2 hc;exact(M1 fun j hj=>x.2.2 j (Nat.lt_of_lt_of_le hj hge)).symm
def a63:Rl:=⟨List Pend×Dsk,fun x=>[M0 x.1,c7N x.2],fun x=>.bool (anyI x.1.length fun i=>S9 x.2.sec.length (x.1.getD i default)),fun x=>N8 x.1.length/\N8 x.2.sec.length⟩
def b97:Con:=.rel a63
noncomputable def b9M:Code:=Tryz.f208.body.getD .skip
theorem a7T:Z8 Tryz.prog 208:=⟨_,Tryz.func208,by kernel_rfl,by kernel_rfl⟩
theorem c2M(L:List Pend)(d:Dsk)(h:
  ∃(x:a6A.ι),(((Y3 Z3 L x.fst)/\(Fn.func 209=Fn.func 209/\(EqD d x.snd)/\True)/\True)/\N8 x.fst.length/\N8 x.snd.sec.length)/\decide ((T4 x.fst.length fun(i:Nat)=>S9 x.snd.sec.length
  (x.fst.getD i default))≥(0:Int))=anyI L.length fun(i:Nat)=>S9 d.sec.length (L.getD i default)):
  Z1 Tryz.prog 208 [M0 L,c7N d] (.bool (anyI L.length fun i=>S9 d.sec.length (L.getD i default))):=
 T7 (code:=b9M) (gC b4c a71 gN) Tryz.func208 (by kernel_rfl) (by kernel_rfl) Z0 h (by kernel_rfl)
theorem b51:Z2 Tryz.prog 208 b97:=by
 rintro⟨L,d⟩ hh;exact c2M L d ⟨(L,d),⟨⟨⟨rfl,fun _ _=>rfl⟩,⟨rfl,(eqD _),trivial⟩,trivial⟩,hh⟩,A3 _ _⟩
noncomputable def a2k:Rl:=⟨Dsk,fun d=>[.agg d.ts],fun d=>.bool (E8 d),d1X⟩
noncomputable def c0P:Con:=.rel a2k
noncomputable def c2X:Con:=.rel a2k
noncomputable def c1J:Code:=Tryz.f151.body.getD .skip
theorem a7y:Z8 Tryz.prog 151:=⟨_,Tryz.func151,by kernel_rfl,by kernel_rfl⟩
theorem b8T(d:Dsk)(h:
  ((!W9 (d.sec.length:Int) (1:Int) (100:Int)||decide ((d.cache.length:Int)>(500:Int))||decide ((d.keep.length:Int)>(500:Int))|| !d.armed&&decide ((d.keep.length:Int)>(0:Int)))=true->false=E8 d)/\((!W9 (d.sec.length:Int) (1:Int) (100:Int)||decide ((d.cache.length:Int)>(500:Int))||decide ((d.keep.length:Int)>(500:Int))|| !d.armed&&decide ((d.keep.length:Int)>(0:Int)))=false->∃(x:a4G.ι),(((Y3 Z6 d.sec x.fst)/\Value.func (Fn.func 207) #[] #[]=Value.func (Fn.func (match x.snd with|true=>262|false=>207)) #[] #[]/\True)/\N8 x.fst.length)/\∃(x_1:a63.ι),((!anyI x.fst.length fun(i:Nat)=>S1 x.snd (x.fst.getD i []))=true->((Y3 Z3 d.cache x_1.fst)/\(Fn.func 209=Fn.func 209/\(EqD d x_1.snd)/\True)/\True)/\N8 x_1.fst.length/\N8 x_1.snd.sec.length)/\((!anyI x.fst.length fun(i:Nat)=>S1 x.snd (x.fst.getD i []))&& !anyI x_1.fst.length fun(i:Nat)=>S9 x_1.snd.sec.length (x_1.fst.getD i default))=E8 d)):
  Z1 Tryz.prog 151 [.agg d.ts] (.bool (E8 d)):=
 T7 (code:=c1J) (gC P4 S0 (gC a6H a3t (gC b51 a7T gN))) Tryz.func151 (by kernel_rfl) (by kernel_rfl) Z0 h (by kernel_rfl)
noncomputable def c1u:Code:=Tryz.f137.body.getD .skip
theorem a87:Z8 Tryz.prog 137:=⟨_,Tryz.func137,by kernel_rfl,by kernel_rfl⟩
def a4j(d:Dsk):Option Ob:=some (.arr true 1000000 4 1 fun _=>d.ts)
def c2W(d:Dsk):Nat->Ann
 |0=>.one (W5 d.sec.length fun i=>S1 false (d.sec.getD i [])) (fun x=>⟨[(1,.ref 0 0 0),(3,.int .i64 d.sec.length),(4,.int .i64 x.1)],[a4j d]⟩) (fun x=>d.sec.length-x.1) [.box 0] [.box 0] (fun _=>fun
  |1=>.one (W5 d.cache.length fun i=>S9 d.sec.length (d.cache.getD i default)) (fun y=>⟨[(1,.ref 0 0 0),(3,.int .i64 d.sec.length),(5,.int .i64 y.1)],[a4j d]⟩) (fun y=>d.cache.length-y.1) [.box 0] [.box 0] (fun _=>Z0)
  |_=>.none)
 |_=>.none
theorem c2K(d:Dsk)(h:
  ((!W9 (d.sec.length:Int) (1:Int) (100:Int)||decide ((d.cache.length:Int)>(500:Int))||decide ((d.keep.length:Int)>(500:Int))|| !d.armed&&decide ((d.keep.length:Int)>(0:Int)))=true->false=E8 d)/\
  ((!W9 (d.sec.length:Int) (1:Int) (100:Int)||decide ((d.cache.length:Int)>(500:Int))||decide ((d.keep.length:Int)>(500:Int))|| !d.armed&&decide ((d.keep.length:Int)>(0:Int)))=false->(∃(x:W5
  d.sec.length fun(i:Nat)=>S1 false (d.sec.getD i [])),((0=0/\0=0)/\(d.sec.length:Int)=(d.sec.length:Int)/\(0:Int)=(x.val:Int)/\True)/\(1=1/\1=1/\EqD d d)/\True)/\∀(x:W5 d.sec.length fun(i:Nat)
  =>S1 false (d.sec.getD i [])),(decide ((x.val:Int)<(d.sec.length:Int))=true->W7 (x.val:Int) d.sec.length/\(decide ((↑(d.sec.getD (x.val:Int).toNat []).length:Int)>(160:Int))=true->false=E8 d)/\(decide
  ((↑(d.sec.getD (x.val:Int).toNat []).length:Int)>(160:Int))=false->X6 .i64 ((x.val:Int)+(1:Int))/\∃(y:W5 d.sec.length fun(i:Nat)=>S1 false (d.sec.getD i [])),(((0=0/\0=0)/\(d.sec.length:Int)=
  (d.sec.length:Int)/\(x.val:Int)+(1:Int)=(y.val:Int)/\True)/\(1=1/\1=1/\EqD d d)/\True)/\Lt (d.sec.length-y.val) (d.sec.length-x.val)))/\(decide ((x.val:Int)<(d.sec.length:Int))=false->(∃(x:W5
  d.cache.length fun(i:Nat)=>S9 d.sec.length (d.cache.getD i default)),((0=0/\0=0)/\(d.sec.length:Int)=(d.sec.length:Int)/\(0:Int)=(x.val:Int)/\True)/\(1=1/\1=1/\EqD d d)/\True)/\∀(x:W5
  d.cache.length fun(i:Nat)=>S9 d.sec.length (d.cache.getD i default)),(decide ((x.val:Int)<(d.cache.length:Int))=true->W7 (x.val:Int) d.cache.length/\X6 .i64 ((d.sec.length:Int)- (1:Int))/\((!W9
  (d.cache.getD (x.val:Int).toNat default).at_ (0:Int) ((d.sec.length:Int)- (1:Int))||decide ((↑(d.cache.getD (x.val:Int).toNat default).d.length:Int)>(160:Int)))=true->false=E8 d)/\((!W9 (d.cache.getD
  (x.val:Int).toNat default).at_ (0:Int) ((d.sec.length:Int)- (1:Int))||decide ((↑(d.cache.getD (x.val:Int).toNat default).d.length:Int)>(160:Int)))=false->X6 .i64 ((x.val:Int)+(1:Int))/\∃(y:W5
  d.cache.length fun(i:Nat)=>S9 d.sec.length (d.cache.getD i default)),(((0=0/\0=0)/\(d.sec.length:Int)=(d.sec.length:Int)/\(x.val:Int)+(1:Int)=(y.val:Int)/\True)/\(1=1/\1=1/\EqD d d)/\True)/\Lt
  (d.cache.length-y.val) (d.cache.length-x.val)))/\(decide ((x.val:Int)<(d.cache.length:Int))=false->true=E8 d)))):
  Z1 Tryz.prog 137 [.agg d.ts] (.bool (E8 d)):=
 T7 (code:=c1u) (gC A7 I3 gN) Tryz.func137 (by kernel_rfl) (by kernel_rfl) (c2W d) h (by kernel_rfl)
def b8R:Con:=.rel a2Q
def a7c(d:Dsk)(at_:Nat):Type:={i:Nat//i<=d.cache.length/\B8 d.cache at_ d.cache.length=B8 d.cache at_ i}
def b80(d:Dsk)(at_:Nat):Nat->Ann
 |0=>.one (a7c d at_) (fun x=>⟨[(1,.int .i64 at_),(2,.ref 0 0 0),(5,.int .i64 ((x.1:Int)-1))],[a4j d]⟩) (fun x=>x.1) [.box 0] [.box 0] (fun _=>Z0)
 |_=>.none
noncomputable def c16:Code:=Tryz.f181.body.getD .skip
theorem a17:Z8 Tryz.prog 181:=⟨_,Tryz.func181,by kernel_rfl,by kernel_rfl⟩
theorem c1e(d:Dsk)(at_:Nat)(h:
  X6 .i64 ((d.cache.length:Int)- (1:Int))/\(∃(x:a7c d at_),((at_:Int)=(at_:Int)/\(0=0/\0=0)/\(d.cache.length:Int)- (1:Int)=(x.val:Int)- (1:Int)/\True)/\(1=1/\1=1/\EqD d d)/\True)/\∀(x:a7c
  d at_),(decide ((x.val:Int)- (1:Int)≥(0:Int))=true->W7 ((x.val:Int)- (1:Int)) d.cache.length/\(((d.cache.getD ((x.val:Int)- (1:Int)).toNat default).at_==(at_:Int))=true->W7 ((x.val:Int)- (1:Int))
  d.cache.length/\(d.cache.getD ((x.val:Int)- (1:Int)).toNat default).d=O8 d at_)/\(((d.cache.getD ((x.val:Int)- (1:Int)).toNat default).at_==(at_:Int))=false->X6 .i64 ((x.val:Int)- (1:Int)- (1:Int))/\∃(y:
  a7c d at_),(((at_:Int)=(at_:Int)/\(0=0/\0=0)/\(x.val:Int)- (1:Int)- (1:Int)=(y.val:Int)- (1:Int)/\True)/\(1=1/\1=1/\EqD d d)/\True)/\Lt y.val x.val))/\(decide ((x.val:Int)- (1:Int)≥(0:
  Int))=false->W7 (at_:Int) d.sec.length/\d.sec.getD (at_:Int).toNat []=O8 d at_)):
  Z1 Tryz.prog 181 [.agg d.ts,.int .i64 at_] (.str (O8 d at_)):=
 T7 (code:=c16) gN Tryz.func181 (by kernel_rfl) (by kernel_rfl) (b80 d at_) h (by kernel_rfl)
theorem b6w:Z2 Tryz.prog 151 c0P:=by
 rintro(d:Dsk) ⟨h1,h2,h3⟩;have h1:d.sec.length<1000000000000:=h1;have h2:d.cache.length<1000000000000:=h2;refine b8T d ⟨fun h=>a8B ?_,fun h=>⟨(d.sec,false),⟨⟨⟨rfl,Z9 _ _⟩,rfl,trivial⟩,h1⟩,(d.cache,d),fun _=>⟨⟨⟨rfl,Z9 _ _⟩,⟨rfl,(eqD _),trivial⟩,trivial⟩,h2,h1⟩,?_⟩⟩
 ·rintro⟨p1,p2,p3,p4,p5,_⟩;simp[W9] at h;cases ha:d.armed with
  |true=>simp[ha] at h;omega
  |false=>simp[ha] at h;have:=p5 ha;omega
 ·simp[W9] at h;rw[Bool.eq_iff_iff,a2T];show((!anyI d.sec.length fun i=>S1 false (d.sec.getD i []))&& !anyI d.cache.length fun i=>S9 d.sec.length (d.cache.getD i default))=true↔C7 d
  simp only[Bool.and_eq_true,Bool.not_eq_true',L5];constructor
  ·rintro⟨q1,q2⟩;exact⟨by omega,by omega,by omega,by omega,fun ha=>by have:=h.2 ha;simp[this],fun i hi=>a4L.1 (q1 i hi),q2⟩
  ·rintro⟨_,_,_,_,_,q1,q2⟩;exact⟨fun i hi=>a4L.2 (q1 i hi),q2⟩
theorem b6c:Z2 Tryz.prog 137 c2X:=by
 rintro(d:Dsk) ⟨h1,h2,h3⟩;have h1:d.sec.length<1000000000000:=h1;have h2:d.cache.length<1000000000000:=h2;refine c2K d ⟨fun h=>a8B ?_,fun h=>⟨⟨I5,⟨⟨rfl,rfl⟩,rfl,rfl,trivial⟩,⟨rfl,rfl,eqD _⟩,trivial⟩,fun x=>⟨fun hc=> ?_,fun hc=>⟨⟨I5,⟨⟨rfl,rfl⟩,rfl,rfl,trivial⟩,⟨rfl,rfl,eqD _⟩,trivial⟩,fun y=>⟨fun hd=> ?_,fun hd=> ?_⟩⟩⟩⟩⟩
 ·rintro⟨p1,p2,p3,p4,p5,_⟩;simp[W9] at h;cases ha:d.armed with
  |true=>simp[ha] at h;omega
  |false=>simp[ha] at h;have:=p5 ha;omega
 ·have hlt:=Y6 hc;refine⟨Y8 hlt,fun hb=>a8B ?_,fun hb=>⟨W8 hlt (by omega),x.succ hlt hb,⟨⟨⟨rfl,rfl⟩,rfl,rfl,trivial⟩,⟨rfl,rfl,eqD _⟩,trivial⟩,W5.ext_lt hlt⟩⟩
  rintro⟨_,_,_,_,_,q1,_⟩;have:=q1 x.val hlt;rw[Int.toNat_natCast,decide_eq_true_eq] at hb;omega
 ·have hlt:=Y6 hd;refine⟨Y8 hlt,Z5 (by omega),fun hb=>a8B ?_,fun hb=>⟨W8 hlt (by omega),y.succ hlt hb,⟨⟨⟨rfl,rfl⟩,rfl,by simp only[W5.succ];omega,trivial⟩,⟨rfl,rfl,eqD _⟩,trivial⟩,W5.ext_lt hlt⟩⟩
  rintro⟨_,_,_,_,_,_,q2⟩;have:=q2 y.val hlt;rw[Int.toNat_natCast] at hb;unfold S9 at this;rw[hb] at this;cases this
 ·simp[W9] at h;have g1:=Y2 hc;have g2:=Y2 hd;refine((a2T d).2 ⟨by omega,by omega,by omega,by omega,fun ha=>by have:=h.2 ha;simp[this],fun i hi=>a4L.1 (x.2.2 i (Nat.lt_of_lt_of_le hi g1)),fun i hi=>y.2.2 i (Nat.lt_of_lt_of_le hi g2)⟩).symm
theorem a4D:Z2 Tryz.prog 181 b8R:=by
 rintro⟨d,at_⟩ ⟨hat,hlen⟩;simp only at hat hlen;refine c1e d at_ ⟨Z5 (by omega),⟨⟨d.cache.length,Nat.le_refl _,rfl⟩,⟨rfl,⟨rfl,rfl⟩,rfl,trivial⟩,⟨rfl,rfl,eqD _⟩,trivial⟩,fun x=> ?_⟩
 obtain⟨i,hi,hx⟩:=x;simp only;refine⟨fun hc=> ?_,fun hc=>⟨⟨by omega,by omega⟩,?_⟩⟩
 ·have hpos:1<=i:=by have:=of_decide_eq_true hc;omega
  obtain⟨j,rfl⟩:∃j,i=j+1:=⟨i-1,by omega⟩
  rw[show(((j+1:Nat):Int)-1).toNat=j by omega]
  have hl:B8 d.cache at_ (j+1)=if(d.cache.getD j default).at_=at_ then some (d.cache.getD j default).d else B8 d.cache at_ j:=rfl
  refine⟨⟨by omega,by omega⟩,fun hb=>⟨⟨by omega,by omega⟩,?_⟩,fun hb=>⟨Z5 (by omega),⟨j,by omega,?_⟩,⟨⟨(by trivial),⟨(by trivial),(by trivial)⟩,by simp only;omega,trivial⟩,⟨(by trivial),(by trivial),⟨(by trivial),Z9 _ _⟩,⟨(by trivial),Z9 _ _⟩,(by trivial),⟨(by trivial),Z9 _ _⟩,trivial⟩,trivial⟩,by unfold Lt;simp only;omega⟩⟩
  ·rw[if_pos (by simpa using hb)] at hl
   unfold O8;rw[hx,hl];rfl
  ·rw[if_neg (by simpa using hb)] at hl
   rw[hx,hl]
 ·have h0:i=0:=by have:=of_decide_eq_false hc;omega
  subst h0;unfold O8;rw[hx];rfl
end Go.Proofs.YtokaojbaacnngaaGreat

