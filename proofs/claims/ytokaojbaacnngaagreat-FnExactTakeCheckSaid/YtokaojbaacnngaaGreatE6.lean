/- A part of the proof. -/
import Derived.Test.YtokaojbaacnngaaGreatE5
namespace Go.Proofs.YtokaojbaacnngaaGreat
set_option maxRecDepth 100000
open Go.SS

def S8(m:Nat)(p:Pend):Bool:= !W8 p.at_ 0 ((m:Int)-1)||decide ((p.d.length:Int)>160)
def G7(d:Dsk):Prop:=1<=d.sec.length/\d.sec.length<=100/\d.cache.length<=500/\d.keep.length<=500/\(d.armed=false->d.keep.length=0)/\(∀i,i<d.sec.length->(d.sec.getD i []).length<=160)/\
 ∀i,i<d.cache.length->S8 d.sec.length (d.cache.getD i default)=false
noncomputable instance(d:Dsk):Decidable (G7 d):=Classical.propDecidable _
noncomputable def C6(d:Dsk):Bool:=decide (G7 d)
theorem rO(d:Dsk):C6 d=true↔G7 d:=decide_eq_true_iff
theorem dQ{d:Dsk}(h:¬G7 d):false=C6 d:=(uY h).symm
def c30(d:Dsk):Prop:=K6 d.sec.length/\K6 d.cache.length/\K6 d.keep.length
def b55(d:Dsk):T:=.fn (.func 209) [.bref d.ts]
def fB:Rl:=⟨Dsk×Pend,fun x=>[.agg x.2.ts,.bref x.1.ts],fun x=>.bool (S8 x.1.sec.length x.2),fun x=>K6 x.1.sec.length⟩
def b0P:Con:=.rel fB
noncomputable def b35:Code:=Tryz.f209.body.getD .skip
theorem bJ:Z7 Tryz.prog 209:=⟨_,Tryz.func209,by kernel_rfl,by kernel_rfl⟩
theorem b3O(d:Dsk)(p:Pend)(h:
  A9 (d.sec.length:Int)/\(!(decide ((0:Int)<=p.at_)&&decide (p.at_<(d.sec.length:Int)))||decide ((p.d.length:Int)>(160:Int)))=S8 d.sec.length p):
  Z2 Tryz.prog 209 [.agg p.ts,.bref d.ts] (.bool (S8 d.sec.length p)):=
 T4 (code:=b35) (gC yJ s3 gN) Tryz.func209 (by kernel_rfl) (by kernel_rfl) Z0 h (by kernel_rfl)
theorem a6v:Z1 Tryz.prog 209 b0P:=by
 rintro⟨d,p⟩ (h:d.sec.length<1000000000000);refine b3O d p ⟨⟨by omega,by omega⟩,?_⟩
 unfold S8 W8;rw[show decide (p.at_<(d.sec.length:Int))=decide (p.at_<=(d.sec.length:Int)-1) from decide_eq_decide.2 (by omega)]
theorem T8{ρ:Nat->Option Nat}(cs:List T):O0 ρ (.bref cs) (.bref cs):=⟨1,_,rfl,RLe.refl _⟩
def fY:Rl:=⟨List Pend×Dsk,fun x=>[M4 x.1,b55 x.2],fun x=>.int .i64 (Q4 x.1.length fun i=>S8 x.2.sec.length (x.1.getD i default)),fun x=>K6 x.1.length/\K6 x.2.sec.length⟩
def b34:Con:=.rel fY
def b0n(L:List Pend)(d:Dsk):Nat->Ann
 |0=>.one (V9 L.length fun i=>S8 d.sec.length (L.getD i default)) (fun x=>⟨[(0,M4 L),(1,b55 d),(7,.int .i64 L.length),(8,.int .i64 x.1)],[]⟩) (fun x=>L.length-x.1) [] [] (fun _=>Z0)
 |_=>.none
noncomputable def b0i:Code:=Tryz.f252.body.getD .skip
theorem cB:Z7 Tryz.prog 252:=⟨_,Tryz.func252,by kernel_rfl,by kernel_rfl⟩
theorem b1W(L:List Pend)(d:Dsk)(h:
  (∃(x:V9 L.length fun(i:Nat)=>S8 d.sec.length (L.getD i default)),((Y4 Z3 L L)/\(Fn.func 209=Fn.func 209/\O0 (fun(x:Nat)=>none) (T.bref [T.sl 1 d.sec.length (Z6 d.sec),T.sl 2 d.cache.length
  (Z3 d.cache),T.bool d.armed,T.sl 1 d.keep.length (Y8 d.keep)]) (T.bref [T.sl 1 d.sec.length (Z6 d.sec),T.sl 2 d.cache.length (Z3 d.cache),T.bool d.armed,T.sl 1 d.keep.length (Y8 d.keep)])/\True)/\
  (L.length:Int)=(L.length:Int)/\(0:Int)=(x.val:Int)/\True)/\True)/\∀(x:V9 L.length fun(i:Nat)=>S8 d.sec.length (L.getD i default)),(decide ((x.val:Int)<(L.length:Int))=true->X0 (x.val:Int) L.length/\
  ∃(x_1:fB.ι),((((L.getD (x.val:Int).toNat default).at_=x_1.snd.at_/\(L.getD (x.val:Int).toNat default).d=x_1.snd.d/\True)/\(zR d x_1.fst)/\True)/\K6 x_1.fst.sec.length)/\(S8 x_1.fst.sec.length x_1.snd=
  true->(x.val:Int)=Q4 L.length fun(i:Nat)=>S8 d.sec.length (L.getD i default))/\(S8 x_1.fst.sec.length x_1.snd=false->X8 .i64 ((x.val:Int)+(1:Int))/\∃(y:V9 L.length fun(i:Nat)=>S8
  d.sec.length (L.getD i default)),(((Y4 Z3 L L)/\(Fn.func 209=Fn.func 209/\O0 (fun(x:Nat)=>none) (T.bref [T.sl 1 d.sec.length (Z6 d.sec),T.sl 2 d.cache.length (Z3 d.cache),T.bool d.armed,T.sl 1
  d.keep.length (Y8 d.keep)]) (T.bref [T.sl 1 d.sec.length (Z6 d.sec),T.sl 2 d.cache.length (Z3 d.cache),T.bool d.armed,T.sl 1 d.keep.length (Y8 d.keep)])/\True)/\(L.length:Int)=(L.length:Int)/\(x.val:Int)+
  (1:Int)=(y.val:Int)/\True)/\True)/\Lt (L.length-y.val) (L.length-x.val)))/\(decide ((x.val:Int)<(L.length:Int))=false->(-1:Int)=Q4 L.length fun(i:Nat)=>S8 d.sec.length (L.getD i default))):
  Z2 Tryz.prog 252 [M4 L,b55 d] (.int .i64 (Q4 L.length fun i=>S8 d.sec.length (L.getD i default))):=
 T4 (code:=b0i) (gC a6v bJ gN) Tryz.func252 (by kernel_rfl) (by kernel_rfl) (b0n L d) h (by kernel_rfl)
theorem a7K:Z1 Tryz.prog 252 b34:=by
 rintro⟨L,d⟩ ⟨hL,hd⟩;have hL:L.length<1000000000000:=hL;refine b1W L d ⟨⟨E5,⟨⟨rfl,fun _ _=>rfl⟩,⟨rfl,T8 _,trivial⟩,rfl,rfl,trivial⟩,trivial⟩,fun x=>⟨fun hc=> ?_,fun hc=> ?_⟩⟩
 ·have hlt:=Y9 hc;refine⟨Y7 hlt,(d,L.getD x.val default),⟨⟨⟨rfl,rfl,trivial⟩,⟨⟨rfl,Z9 _ _⟩,⟨rfl,Z9 _ _⟩,rfl,⟨rfl,Z9 _ _⟩,trivial⟩,trivial⟩,hd⟩,fun hp=>(M1 hlt hp x.2.2).symm,fun hp=>⟨W4 hlt (by omega),x.succ hlt hp,⟨⟨⟨rfl,fun _ _=>rfl⟩,⟨rfl,T8 _,trivial⟩,rfl,by simp only[V9.succ];omega,trivial⟩,trivial⟩,V9.ext_lt hlt⟩⟩
 ·have hge:=Y3 hc;exact(J4 fun j hj=>x.2.2 j (xF hj hge)).symm
def fI:Rl:=⟨List Pend×Dsk,fun x=>[M4 x.1,b55 x.2],fun x=>.bool (anyI x.1.length fun i=>S8 x.2.sec.length (x.1.getD i default)),fun x=>K6 x.1.length/\K6 x.2.sec.length⟩
def b0G:Con:=.rel fI
noncomputable def b3v:Code:=Tryz.f208.body.getD .skip
theorem aQ:Z7 Tryz.prog 208:=⟨_,Tryz.func208,by kernel_rfl,by kernel_rfl⟩
theorem b2D(L:List Pend)(d:Dsk)(h:
  ∃(x:fY.ι),(((Y4 Z3 L x.fst)/\(Fn.func 209=Fn.func 209/\(zR d x.snd)/\True)/\True)/\K6 x.fst.length/\K6 x.snd.sec.length)/\decide ((Q4 x.fst.length fun(i:Nat)=>S8 x.snd.sec.length
  (x.fst.getD i default))≥(0:Int))=anyI L.length fun(i:Nat)=>S8 d.sec.length (L.getD i default)):
  Z2 Tryz.prog 208 [M4 L,b55 d] (.bool (anyI L.length fun i=>S8 d.sec.length (L.getD i default))):=
 T4 (code:=b3v) (gC a7K cB gN) Tryz.func208 (by kernel_rfl) (by kernel_rfl) Z0 h (by kernel_rfl)
theorem a7S:Z1 Tryz.prog 208 b0G:=by
 rintro⟨L,d⟩ hh;exact b2D L d ⟨(L,d),⟨⟨⟨rfl,fun _ _=>rfl⟩,⟨rfl,(xL _),trivial⟩,trivial⟩,hh⟩,w8 _ _⟩
noncomputable def sD:Rl:=⟨Dsk,fun d=>[.agg d.ts],fun d=>.bool (C6 d),c30⟩
noncomputable def b0U:Con:=.rel sD
noncomputable def b0q:Con:=.rel sD
noncomputable def b1g:Code:=Tryz.f151.body.getD .skip
theorem dV:Z7 Tryz.prog 151:=⟨_,Tryz.func151,by kernel_rfl,by kernel_rfl⟩
theorem b22(d:Dsk)(h:
  ((!W8 (d.sec.length:Int) (1:Int) (100:Int)||decide ((d.cache.length:Int)>(500:Int))||decide ((d.keep.length:Int)>(500:Int))|| !d.armed&&decide ((d.keep.length:Int)>(0:Int)))=true->false=C6 d)/\((!W8 (d.sec.length:Int) (1:Int) (100:Int)||decide ((d.cache.length:Int)>(500:Int))||decide ((d.keep.length:Int)>(500:Int))|| !d.armed&&decide ((d.keep.length:Int)>(0:Int)))=false->∃(x:mT.ι),(((Y4 Z6 d.sec x.fst)/\Value.func (Fn.func 207) #[] #[]=Value.func (Fn.func (match x.snd with|true=>262|false=>207)) #[] #[]/\True)/\K6 x.fst.length)/\∃(x_1:fI.ι),((!anyI x.fst.length fun(i:Nat)=>S1 x.snd (x.fst.getD i []))=true->((Y4 Z3 d.cache x_1.fst)/\(Fn.func 209=Fn.func 209/\(zR d x_1.snd)/\True)/\True)/\K6 x_1.fst.length/\K6 x_1.snd.sec.length)/\((!anyI x.fst.length fun(i:Nat)=>S1 x.snd (x.fst.getD i []))&& !anyI x_1.fst.length fun(i:Nat)=>S8 x_1.snd.sec.length (x_1.fst.getD i default))=C6 d)):
  Z2 Tryz.prog 151 [.agg d.ts] (.bool (C6 d)):=
 T4 (code:=b1g) (gC P2 R8 (gC gR pK (gC a7S aQ gN))) Tryz.func151 (by kernel_rfl) (by kernel_rfl) Z0 h (by kernel_rfl)
noncomputable def b11:Code:=Tryz.f137.body.getD .skip
theorem aP:Z7 Tryz.prog 137:=⟨_,Tryz.func137,by kernel_rfl,by kernel_rfl⟩
def nA(d:Dsk):Option Ob:=some (.arr true 1000000 4 1 fun _=>d.ts)
def b1k(d:Dsk):Nat->Ann
 |0=>.one (V9 d.sec.length fun i=>S1 false (d.sec.getD i [])) (fun x=>⟨[(1,.ref 0 0 0),(3,.int .i64 d.sec.length),(4,.int .i64 x.1)],[nA d]⟩) (fun x=>d.sec.length-x.1) [.box 0] [.box 0] (fun _=>fun
  |1=>.one (V9 d.cache.length fun i=>S8 d.sec.length (d.cache.getD i default)) (fun y=>⟨[(1,.ref 0 0 0),(3,.int .i64 d.sec.length),(5,.int .i64 y.1)],[nA d]⟩) (fun y=>d.cache.length-y.1) [.box 0] [.box 0] (fun _=>Z0)
  |_=>.none)
 |_=>.none
theorem a96(d:Dsk)(h:
  ((!W8 (d.sec.length:Int) (1:Int) (100:Int)||decide ((d.cache.length:Int)>(500:Int))||decide ((d.keep.length:Int)>(500:Int))|| !d.armed&&decide ((d.keep.length:Int)>(0:Int)))=true->false=C6 d)/\
  ((!W8 (d.sec.length:Int) (1:Int) (100:Int)||decide ((d.cache.length:Int)>(500:Int))||decide ((d.keep.length:Int)>(500:Int))|| !d.armed&&decide ((d.keep.length:Int)>(0:Int)))=false->(∃(x:V9
  d.sec.length fun(i:Nat)=>S1 false (d.sec.getD i [])),((0=0/\0=0)/\(d.sec.length:Int)=(d.sec.length:Int)/\(0:Int)=(x.val:Int)/\True)/\(1=1/\1=1/\zR d d)/\True)/\∀(x:V9 d.sec.length fun(i:Nat)
  =>S1 false (d.sec.getD i [])),(decide ((x.val:Int)<(d.sec.length:Int))=true->X0 (x.val:Int) d.sec.length/\(decide ((↑(d.sec.getD (x.val:Int).toNat []).length:Int)>(160:Int))=true->false=C6 d)/\(decide
  ((↑(d.sec.getD (x.val:Int).toNat []).length:Int)>(160:Int))=false->X8 .i64 ((x.val:Int)+(1:Int))/\∃(y:V9 d.sec.length fun(i:Nat)=>S1 false (d.sec.getD i [])),(((0=0/\0=0)/\(d.sec.length:Int)=
  (d.sec.length:Int)/\(x.val:Int)+(1:Int)=(y.val:Int)/\True)/\(1=1/\1=1/\zR d d)/\True)/\Lt (d.sec.length-y.val) (d.sec.length-x.val)))/\(decide ((x.val:Int)<(d.sec.length:Int))=false->(∃(x:V9
  d.cache.length fun(i:Nat)=>S8 d.sec.length (d.cache.getD i default)),((0=0/\0=0)/\(d.sec.length:Int)=(d.sec.length:Int)/\(0:Int)=(x.val:Int)/\True)/\(1=1/\1=1/\zR d d)/\True)/\∀(x:V9
  d.cache.length fun(i:Nat)=>S8 d.sec.length (d.cache.getD i default)),(decide ((x.val:Int)<(d.cache.length:Int))=true->X0 (x.val:Int) d.cache.length/\X8 .i64 ((d.sec.length:Int)- (1:Int))/\((!W8
  (d.cache.getD (x.val:Int).toNat default).at_ (0:Int) ((d.sec.length:Int)- (1:Int))||decide ((↑(d.cache.getD (x.val:Int).toNat default).d.length:Int)>(160:Int)))=true->false=C6 d)/\((!W8 (d.cache.getD
  (x.val:Int).toNat default).at_ (0:Int) ((d.sec.length:Int)- (1:Int))||decide ((↑(d.cache.getD (x.val:Int).toNat default).d.length:Int)>(160:Int)))=false->X8 .i64 ((x.val:Int)+(1:Int))/\∃(y:V9
  d.cache.length fun(i:Nat)=>S8 d.sec.length (d.cache.getD i default)),(((0=0/\0=0)/\(d.sec.length:Int)=(d.sec.length:Int)/\(x.val:Int)+(1:Int)=(y.val:Int)/\True)/\(1=1/\1=1/\zR d d)/\True)/\Lt
  (d.cache.length-y.val) (d.cache.length-x.val)))/\(decide ((x.val:Int)<(d.cache.length:Int))=false->true=C6 d)))):
  Z2 Tryz.prog 137 [.agg d.ts] (.bool (C6 d)):=
 T4 (code:=b11) (gC v7 F7 gN) Tryz.func137 (by kernel_rfl) (by kernel_rfl) (b1k d) h (by kernel_rfl)
def b3R:Con:=.rel qQ
def dH(d:Dsk)(at_:Nat):Type:={i:Nat//i<=d.cache.length/\A0 d.cache at_ d.cache.length=A0 d.cache at_ i}
def b1a(d:Dsk)(at_:Nat):Nat->Ann
 |0=>.one (dH d at_) (fun x=>⟨[(1,.int .i64 at_),(2,.ref 0 0 0),(5,.int .i64 ((x.1:Int)-1))],[nA d]⟩) (fun x=>x.1) [.box 0] [.box 0] (fun _=>Z0)
 |_=>.none
noncomputable def b3M:Code:=Tryz.f181.body.getD .skip
theorem sA:Z7 Tryz.prog 181:=⟨_,Tryz.func181,by kernel_rfl,by kernel_rfl⟩
theorem b0x(d:Dsk)(at_:Nat)(h:
  X8 .i64 ((d.cache.length:Int)- (1:Int))/\(∃(x:dH d at_),((at_:Int)=(at_:Int)/\(0=0/\0=0)/\(d.cache.length:Int)- (1:Int)=(x.val:Int)- (1:Int)/\True)/\(1=1/\1=1/\zR d d)/\True)/\∀(x:dH
  d at_),(decide ((x.val:Int)- (1:Int)≥(0:Int))=true->X0 ((x.val:Int)- (1:Int)) d.cache.length/\(((d.cache.getD ((x.val:Int)- (1:Int)).toNat default).at_==(at_:Int))=true->X0 ((x.val:Int)- (1:Int))
  d.cache.length/\(d.cache.getD ((x.val:Int)- (1:Int)).toNat default).d=O7 d at_)/\(((d.cache.getD ((x.val:Int)- (1:Int)).toNat default).at_==(at_:Int))=false->X8 .i64 ((x.val:Int)- (1:Int)- (1:Int))/\∃(y:
  dH d at_),(((at_:Int)=(at_:Int)/\(0=0/\0=0)/\(x.val:Int)- (1:Int)- (1:Int)=(y.val:Int)- (1:Int)/\True)/\(1=1/\1=1/\zR d d)/\True)/\Lt y.val x.val))/\(decide ((x.val:Int)- (1:Int)≥(0:
  Int))=false->X0 (at_:Int) d.sec.length/\d.sec.getD (at_:Int).toNat []=O7 d at_)):
  Z2 Tryz.prog 181 [.agg d.ts,.int .i64 at_] (.str (O7 d at_)):=
 T4 (code:=b3M) gN Tryz.func181 (by kernel_rfl) (by kernel_rfl) (b1a d at_) h (by kernel_rfl)
theorem a5C:Z1 Tryz.prog 151 b0U:=by
 rintro(d:Dsk) ⟨h1,h2,h3⟩;have h1:d.sec.length<1000000000000:=h1;have h2:d.cache.length<1000000000000:=h2;refine b22 d ⟨fun h=>dQ ?_,fun h=>⟨(d.sec,false),⟨⟨⟨rfl,Z9 _ _⟩,rfl,trivial⟩,h1⟩,(d.cache,d),fun _=>⟨⟨⟨rfl,Z9 _ _⟩,⟨rfl,(xL _),trivial⟩,trivial⟩,h2,h1⟩,?_⟩⟩
 ·rintro⟨p1,p2,p3,p4,p5,_⟩;simp[W8] at h;cases ha:d.armed with
  |true=>simp[ha] at h;omega
  |false=>simp[ha] at h;have:=p5 ha;omega
 ·simp[W8] at h;rw[Bool.eq_iff_iff,rO];show((!anyI d.sec.length fun i=>S1 false (d.sec.getD i []))&& !anyI d.cache.length fun i=>S8 d.sec.length (d.cache.getD i default))=true↔G7 d
  simp only[K5,sB,M5];constructor
  ·rintro⟨q1,q2⟩;exact⟨by omega,by omega,by omega,by omega,fun ha=>by have:=h.2 ha;simp[this],fun i hi=>lS.1 (q1 i hi),q2⟩
  ·rintro⟨_,_,_,_,_,q1,q2⟩;exact⟨fun i hi=>lS.2 (q1 i hi),q2⟩
theorem a6Z:Z1 Tryz.prog 137 b0q:=by
 rintro(d:Dsk) ⟨h1,h2,h3⟩;have h1:d.sec.length<1000000000000:=h1;have h2:d.cache.length<1000000000000:=h2;refine a96 d ⟨fun h=>dQ ?_,fun h=>⟨⟨E5,⟨⟨rfl,rfl⟩,rfl,rfl,trivial⟩,⟨rfl,rfl,xL _⟩,trivial⟩,fun x=>⟨fun hc=> ?_,fun hc=>⟨⟨E5,⟨⟨rfl,rfl⟩,rfl,rfl,trivial⟩,⟨rfl,rfl,xL _⟩,trivial⟩,fun y=>⟨fun hd=> ?_,fun hd=> ?_⟩⟩⟩⟩⟩
 ·rintro⟨p1,p2,p3,p4,p5,_⟩;simp[W8] at h;cases ha:d.armed with
  |true=>simp[ha] at h;omega
  |false=>simp[ha] at h;have:=p5 ha;omega
 ·have hlt:=Y9 hc;refine⟨Y7 hlt,fun hb=>dQ ?_,fun hb=>⟨W4 hlt (by omega),x.succ hlt hb,⟨⟨⟨rfl,rfl⟩,rfl,rfl,trivial⟩,⟨rfl,rfl,xL _⟩,trivial⟩,V9.ext_lt hlt⟩⟩
  rintro⟨_,_,_,_,_,q1,_⟩;have:=q1 x.val hlt;rw[v4,t9] at hb;omega
 ·have hlt:=Y9 hd;refine⟨Y7 hlt,Z5 (by omega),fun hb=>dQ ?_,fun hb=>⟨W4 hlt (by omega),y.succ hlt hb,⟨⟨⟨rfl,rfl⟩,rfl,by simp only[V9.succ];omega,trivial⟩,⟨rfl,rfl,xL _⟩,trivial⟩,V9.ext_lt hlt⟩⟩
  rintro⟨_,_,_,_,_,_,q2⟩;have:=q2 y.val hlt;rw[v4] at hb;unfold S8 at this;rw[hb] at this;cases this
 ·simp[W8] at h;have g1:=Y3 hc;have g2:=Y3 hd;refine((rO d).2 ⟨by omega,by omega,by omega,by omega,fun ha=>by have:=h.2 ha;simp[this],fun i hi=>lS.1 (x.2.2 i (xF hi g1)),fun i hi=>y.2.2 i (xF hi g2)⟩).symm
theorem mR:Z1 Tryz.prog 181 b3R:=by
 rintro⟨d,at_⟩ ⟨hat,hlen⟩;simp only at hat hlen;refine b0x d at_ ⟨Z5 (by omega),⟨⟨d.cache.length,V5 _,rfl⟩,⟨rfl,⟨rfl,rfl⟩,rfl,trivial⟩,⟨rfl,rfl,xL _⟩,trivial⟩,fun x=> ?_⟩
 obtain⟨i,hi,hx⟩:=x;simp only;refine⟨fun hc=> ?_,fun hc=>⟨⟨by omega,by omega⟩,?_⟩⟩
 ·have hpos:1<=i:=by have:=D8 hc;omega
  obtain⟨j,rfl⟩:∃j,i=j+1:=⟨i-1,by omega⟩
  rw[show(((j+1:Nat):Int)-1).toNat=j by omega]
  have hl:A0 d.cache at_ (j+1)=if(d.cache.getD j default).at_=at_ then some (d.cache.getD j default).d else A0 d.cache at_ j:=rfl
  refine⟨⟨by omega,by omega⟩,fun hb=>⟨⟨by omega,by omega⟩,?_⟩,fun hb=>⟨Z5 (by omega),⟨j,by omega,?_⟩,⟨⟨(by trivial),⟨(by trivial),(by trivial)⟩,by simp only;omega,trivial⟩,⟨(by trivial),(by trivial),⟨(by trivial),Z9 _ _⟩,⟨(by trivial),Z9 _ _⟩,(by trivial),⟨(by trivial),Z9 _ _⟩,trivial⟩,trivial⟩,by unfold Lt;simp only;omega⟩⟩
  ·rw[if_pos (by simpa using hb)] at hl
   unfold O7;rw[hx,hl];rfl
  ·rw[if_neg (by simpa using hb)] at hl
   rw[hx,hl]
 ·have h0:i=0:=by have:=yQ hc;omega
  subst h0;unfold O7;rw[hx];rfl
end Go.Proofs.YtokaojbaacnngaaGreat

