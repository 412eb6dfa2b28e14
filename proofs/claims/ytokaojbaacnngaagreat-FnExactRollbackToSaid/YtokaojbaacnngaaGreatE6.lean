/- A part of the proof. -/
import Derived.Test.YtokaojbaacnngaaGreatE5
namespace Go.Proofs.YtokaojbaacnngaaGreat
set_option maxRecDepth 100000
open Go.SS

def R7(m:Nat)(p:Pend):Bool:= !W2 p.at_ 0 ((m:Int)-1)||decide ((p.d.length:Int)>160)
def C5(d:Dsk):Prop:=1<=d.sec.length/\d.sec.length<=100/\d.cache.length<=500/\d.keep.length<=500/\(d.armed=false->d.keep.length=0)/\(∀i,i<d.sec.length->(d.sec.getD i []).length<=160)/\
 ∀i,i<d.cache.length->R7 d.sec.length (d.cache.getD i default)=false
noncomputable instance(d:Dsk):Decidable (C5 d):=Classical.propDecidable _
noncomputable def y6(d:Dsk):Bool:=decide (C5 d)
theorem rC(d:Dsk):y6 d=true↔C5 d:=decide_eq_true_iff
theorem fQ{d:Dsk}(h:¬C5 d):false=y6 d:=(uK h).symm
def b5t(d:Dsk):Prop:=M7 d.sec.length/\M7 d.cache.length/\M7 d.keep.length
def b7o(d:Dsk):T:=.fn (.func 209) [.bref d.ts]
def iT:Rl:=⟨Dsk×Pend,λx=>[.agg x.2.ts,.bref x.1.ts],λx=>.bool (R7 x.1.sec.length x.2),λx=>M7 x.1.sec.length⟩
def a65:Con:=.rel iT
theorem a2d:GK 209 a65:=gk Tryz.func209<|by
 rintro⟨d,p⟩ (h:d.sec.length<1000000000000);refine S6 (gC wM gN) Tryz.func209 Z0 (α:=s9 (d.sec.length:Int)/\(!(decide ((0:Int)<=p.at_)&&decide (p.at_<(d.sec.length:Int)))||decide ((p.d.length:Int)>(160:Int)))=R7 d.sec.length p) ⟨⟨by omega,by omega⟩,?_⟩
 unfold R7 W2;rw[show decide (p.at_<(d.sec.length:Int))=decide (p.at_<=(d.sec.length:Int)-1) from decide_eq_decide.2 (by omega)]
theorem R8{ρ:Nat->Option Nat}(cs:List T):M2 ρ (.bref cs) (.bref cs):=⟨1,_,rfl,cM.refl _⟩
def iQ:Rl:=⟨List Pend×Dsk,λx=>[C8 x.1,b7o x.2],λx=>.int .i64 (M3 x.1.length λi=>R7 x.2.sec.length (x.1.getD i default)),λx=>M7 x.1.length/\M7 x.2.sec.length⟩
def a7B:Con:=.rel iQ
def a7v(L:List Pend)(d:Dsk):Nat->Ann
 |0=>.one (V4 L.length λi=>R7 d.sec.length (L.getD i default)) (λx=>⟨[(0,C8 L),(1,b7o d),(7,.int .i64 L.length),(8,.int .i64 x.1)],[]⟩) (λx=>L.length-x.1) [] [] (λ_=>Z0)
 |_=>.none
theorem a1B:GK 252 a7B:=gk Tryz.func252<|by
 rintro⟨L,d⟩ ⟨hL,hd⟩;have hL:L.length<1000000000000:=hL;refine S6 (gC a2d gN) Tryz.func252 (a7v L d) (α:=(∃(x:V4 L.length λ(i:Nat)=>R7 d.sec.length (L.getD i default)),((Y5 Z3 L L)/\(Fn.func 209=Fn.func 209/\M2 (λ(x:Nat)=>none) (T.bref [T.sl 1 d.sec.length (Z5 d.sec),T.sl 2 d.cache.length (Z3 d.cache),T.bool d.armed,T.sl 1 d.keep.length (Y9 d.keep)]) (T.bref [T.sl 1 d.sec.length (Z5 d.sec),T.sl 2 d.cache.length (Z3 d.cache),T.bool d.armed,T.sl 1 d.keep.length (Y9 d.keep)])/\True)/\(L.length:Int)=(L.length:Int)/\(0:Int)=(x.val:Int)/\True)/\True)/\∀(x:V4 L.length λ(i:Nat)=>R7 d.sec.length (L.getD i default)),(decide ((x.val:Int)<(L.length:Int))=true->W4 (x.val:Int) L.length/\∃(x_1:iT.ι),((((L.getD (x.val:Int).toNat default).at_=x_1.2.at_/\(L.getD (x.val:Int).toNat default).d=x_1.2.d/\True)/\(k4 d x_1.1)/\True)/\M7 x_1.1.sec.length)/\(R7 x_1.1.sec.length x_1.2=true->(x.val:Int)=M3 L.length λ(i:Nat)=>R7 d.sec.length (L.getD i default))/\(R7 x_1.1.sec.length x_1.2=false->X4 .i64 ((x.val:Int)+(1:Int))/\∃(y:V4 L.length λ(i:Nat)=>R7 d.sec.length (L.getD i default)),(((Y5 Z3 L L)/\(Fn.func 209=Fn.func 209/\M2 (λ(x:Nat)=>none) (T.bref [T.sl 1 d.sec.length (Z5 d.sec),T.sl 2 d.cache.length (Z3 d.cache),T.bool d.armed,T.sl 1 d.keep.length (Y9 d.keep)]) (T.bref [T.sl 1 d.sec.length (Z5 d.sec),T.sl 2 d.cache.length (Z3 d.cache),T.bool d.armed,T.sl 1 d.keep.length (Y9 d.keep)])/\True)/\(L.length:Int)=(L.length:Int)/\(x.val:Int)+(1:Int)=(y.val:Int)/\True)/\True)/\Lt (L.length-y.val) (L.length-x.val)))/\(decide ((x.val:Int)<(L.length:Int))=false->(-1:Int)=M3 L.length λ(i:Nat)=>R7 d.sec.length (L.getD i default))) ⟨⟨D5,⟨⟨rfl,λ_ _=>rfl⟩,⟨rfl,R8 _,trivial⟩,rfl,Z9⟩,trivial⟩,λx=>⟨λhc=> ?_,λhc=> ?_⟩⟩
 ·have hlt:=Y1 hc;refine⟨Y2 hlt,(d,L.getD x.val default),⟨⟨⟨rfl,Z9⟩,⟨Z8,Z8,rfl,X8⟩,trivial⟩,hd⟩,λhp=>(H7 hlt hp x.2.2).symm,λhp=>⟨V7 hlt (by omega),x.succ hlt hp,⟨⟨⟨rfl,λ_ _=>rfl⟩,⟨rfl,R8 _,trivial⟩,rfl,by simp only[V4.succ];omega,trivial⟩,trivial⟩,V4.ext_lt hlt⟩⟩
 ·have hge:=X9 hc;exact(F4 λj hj=>x.2.2 j (vV hj hge)).symm
def jT:Rl:=⟨List Pend×Dsk,λx=>[C8 x.1,b7o x.2],λx=>.bool (anyI x.1.length λi=>R7 x.2.sec.length (x.1.getD i default)),λx=>M7 x.1.length/\M7 x.2.sec.length⟩
def a7b:Con:=.rel jT
theorem a4v:GK 208 a7b:=gk Tryz.func208<|by
 rintro⟨L,d⟩ hh;exact S6 (gC a1B gN) Tryz.func208 Z0 (α:=∃(x:iQ.ι),(((Y5 Z3 L x.1)/\(Fn.func 209=Fn.func 209/\(k4 d x.2)/\True)/\True)/\M7 x.1.length/\M7 x.2.sec.length)/\decide ((M3 x.1.length λ(i:Nat)=>R7 x.2.sec.length (x.1.getD i default))≥(0:Int))=anyI L.length λ(i:Nat)=>R7 d.sec.length (L.getD i default)) ⟨(L,d),⟨⟨⟨rfl,λ_ _=>rfl⟩,⟨rfl,(xN _),trivial⟩,trivial⟩,hh⟩,z7 _ _⟩
noncomputable def sF:Rl:=⟨Dsk,λd=>[.agg d.ts],λd=>.bool (y6 d),b5t⟩
noncomputable def a8i:Con:=.rel sF
noncomputable def a6I:Con:=.rel sF
def lD(d:Dsk):Option Ob:=some (.arr true 1000000 4 1 λ_=>d.ts)
def a74(d:Dsk):Nat->Ann
 |0=>.one (V4 d.sec.length λi=>P8 false (d.sec.getD i [])) (λx=>⟨[(1,.ref 0 0 0),(3,.int .i64 d.sec.length),(4,.int .i64 x.1)],[lD d]⟩) (λx=>d.sec.length-x.1) [.box 0] [.box 0] (λ_=>fun
  |1=>.one (V4 d.cache.length λi=>R7 d.sec.length (d.cache.getD i default)) (λy=>⟨[(1,.ref 0 0 0),(3,.int .i64 d.sec.length),(5,.int .i64 y.1)],[lD d]⟩) (λy=>d.cache.length-y.1) [.box 0] [.box 0] (λ_=>Z0)
  |_=>.none)
 |_=>.none
def a7w:Con:=.rel tA
def fA(d:Dsk)(at_:Nat):Type:={i:Nat//i<=d.cache.length/\K7 d.cache at_ d.cache.length=K7 d.cache at_ i}
def a8Q(d:Dsk)(at_:Nat):Nat->Ann
 |0=>.one (fA d at_) (λx=>⟨[(1,.int .i64 at_),(2,.ref 0 0 0),(5,.int .i64 ((x.1:Int)-1))],[lD d]⟩) (λx=>x.1) [.box 0] [.box 0] (λ_=>Z0)
 |_=>.none
theorem a3X:GK 151 a8i:=gk Tryz.func151<|by
 rintro(d:Dsk) ⟨h1,h2,h3⟩;have h1:d.sec.length<1000000000000:=h1;have h2:d.cache.length<1000000000000:=h2;refine S6 (gC O5 (gC iW (gC a4v gN))) Tryz.func151 Z0 (α:=((!W2 (d.sec.length:Int) (1:Int) (100:Int)||decide ((d.cache.length:Int)>(500:Int))||decide ((d.keep.length:Int)>(500:Int))|| !d.armed&&decide ((d.keep.length:Int)>(0:Int)))=true->false=y6 d)/\((!W2 (d.sec.length:Int) (1:Int) (100:Int)||decide ((d.cache.length:Int)>(500:Int))||decide ((d.keep.length:Int)>(500:Int))|| !d.armed&&decide ((d.keep.length:Int)>(0:Int)))=false->∃(x:nQ.ι),(((Y5 Z5 d.sec x.1)/\Value.func (Fn.func 207) #[] #[]=Value.func (Fn.func (match x.2 with|true=>262|false=>207)) #[] #[]/\True)/\M7 x.1.length)/\∃(x_1:jT.ι),((!anyI x.1.length λ(i:Nat)=>P8 x.2 (x.1.getD i []))=true->((Y5 Z3 d.cache x_1.1)/\(Fn.func 209=Fn.func 209/\(k4 d x_1.2)/\True)/\True)/\M7 x_1.1.length/\M7 x_1.2.sec.length)/\((!anyI x.1.length λ(i:Nat)=>P8 x.2 (x.1.getD i []))&& !anyI x_1.1.length λ(i:Nat)=>R7 x_1.2.sec.length (x_1.1.getD i default))=y6 d)) ⟨λh=>fQ ?_,λh=>⟨(d.sec,false),⟨⟨Z8,Z9⟩,h1⟩,(d.cache,d),λ_=>⟨⟨Z8,⟨rfl,(xN _),trivial⟩,trivial⟩,h2,h1⟩,?_⟩⟩
 ·rintro⟨p1,p2,p3,p4,p5,_⟩;simp[W2] at h;cases ha:d.armed with
  |true=>simp[ha] at h;omega
  |false=>simp[ha] at h;have:=p5 ha;omega
 ·simp[W2] at h;rw[Bool.eq_iff_iff,rC];show((!anyI d.sec.length λi=>P8 false (d.sec.getD i []))&& !anyI d.cache.length λi=>R7 d.sec.length (d.cache.getD i default))=true↔C5 d
  simp only[J6,wD,K2];constructor
  ·rintro⟨q1,q2⟩;exact⟨by omega,by omega,by omega,by omega,λha=>by have:=h.2 ha;simp[this],λi hi=>oB.1 (q1 i hi),q2⟩
  ·rintro⟨_,_,_,_,_,q1,q2⟩;exact⟨λi hi=>oB.2 (q1 i hi),q2⟩
theorem a4j:GK 137 a6I:=gk Tryz.func137<|by
 rintro(d:Dsk) ⟨h1,h2,h3⟩;have h1:d.sec.length<1000000000000:=h1;have h2:d.cache.length<1000000000000:=h2;refine S6 (gC z8 gN) Tryz.func137 (a74 d) (α:=((!W2 (d.sec.length:Int) (1:Int) (100:Int)||decide ((d.cache.length:Int)>(500:Int))||decide ((d.keep.length:Int)>(500:Int))|| !d.armed&&decide ((d.keep.length:Int)>(0:Int)))=true->false=y6 d)/\((!W2 (d.sec.length:Int) (1:Int) (100:Int)||decide ((d.cache.length:Int)>(500:Int))||decide ((d.keep.length:Int)>(500:Int))|| !d.armed&&decide ((d.keep.length:Int)>(0:Int)))=false->(∃(x:V4 d.sec.length λ(i:Nat)=>P8 false (d.sec.getD i [])),((0=0/\0=0)/\(d.sec.length:Int)=(d.sec.length:Int)/\(0:Int)=(x.val:Int)/\True)/\(1=1/\1=1/\k4 d d)/\True)/\∀(x:V4 d.sec.length λ(i:Nat)=>P8 false (d.sec.getD i [])),(decide ((x.val:Int)<(d.sec.length:Int))=true->W4 (x.val:Int) d.sec.length/\(decide ((↑(d.sec.getD (x.val:Int).toNat []).length:Int)>(160:Int))=true->false=y6 d)/\(decide ((↑(d.sec.getD (x.val:Int).toNat []).length:Int)>(160:Int))=false->X4 .i64 ((x.val:Int)+(1:Int))/\∃(y:V4 d.sec.length λ(i:Nat)=>P8 false (d.sec.getD i [])),(((0=0/\0=0)/\(d.sec.length:Int)=(d.sec.length:Int)/\(x.val:Int)+(1:Int)=(y.val:Int)/\True)/\(1=1/\1=1/\k4 d d)/\True)/\Lt (d.sec.length-y.val) (d.sec.length-x.val)))/\(decide ((x.val:Int)<(d.sec.length:Int))=false->(∃(x:V4 d.cache.length λ(i:Nat)=>R7 d.sec.length (d.cache.getD i default)),((0=0/\0=0)/\(d.sec.length:Int)=(d.sec.length:Int)/\(0:Int)=(x.val:Int)/\True)/\(1=1/\1=1/\k4 d d)/\True)/\∀(x:V4 d.cache.length λ(i:Nat)=>R7 d.sec.length (d.cache.getD i default)),(decide ((x.val:Int)<(d.cache.length:Int))=true->W4 (x.val:Int) d.cache.length/\X4 .i64 ((d.sec.length:Int)- (1:Int))/\((!W2 (d.cache.getD (x.val:Int).toNat default).at_ (0:Int) ((d.sec.length:Int)- (1:Int))||decide ((↑(d.cache.getD (x.val:Int).toNat default).d.length:Int)>(160:Int)))=true->false=y6 d)/\((!W2 (d.cache.getD (x.val:Int).toNat default).at_ (0:Int) ((d.sec.length:Int)- (1:Int))||decide ((↑(d.cache.getD (x.val:Int).toNat default).d.length:Int)>(160:Int)))=false->X4 .i64 ((x.val:Int)+(1:Int))/\∃(y:V4 d.cache.length λ(i:Nat)=>R7 d.sec.length (d.cache.getD i default)),(((0=0/\0=0)/\(d.sec.length:Int)=(d.sec.length:Int)/\(x.val:Int)+(1:Int)=(y.val:Int)/\True)/\(1=1/\1=1/\k4 d d)/\True)/\Lt (d.cache.length-y.val) (d.cache.length-x.val)))/\(decide ((x.val:Int)<(d.cache.length:Int))=false->true=y6 d)))) ⟨λh=>fQ ?_,λh=>⟨⟨D5,⟨Z7,rfl,Z9⟩,⟨rfl,rfl,xN _⟩,trivial⟩,λx=>⟨λhc=> ?_,λhc=>⟨⟨D5,⟨Z7,rfl,Z9⟩,⟨rfl,rfl,xN _⟩,trivial⟩,λy=>⟨λhd=> ?_,λhd=> ?_⟩⟩⟩⟩⟩
 ·rintro⟨p1,p2,p3,p4,p5,_⟩;simp[W2] at h;cases ha:d.armed with
  |true=>simp[ha] at h;omega
  |false=>simp[ha] at h;have:=p5 ha;omega
 ·have hlt:=Y1 hc;refine⟨Y2 hlt,λhb=>fQ ?_,λhb=>⟨V7 hlt (by omega),x.succ hlt hb,⟨⟨Z7,rfl,Z9⟩,⟨rfl,rfl,xN _⟩,trivial⟩,V4.ext_lt hlt⟩⟩
  rintro⟨_,_,_,_,_,q1,_⟩;have:=q1 x.val hlt;rw[u9,o9] at hb;omega
 ·have hlt:=Y1 hd;refine⟨Y2 hlt,Z4 (by omega),λhb=>fQ ?_,λhb=>⟨V7 hlt (by omega),y.succ hlt hb,⟨⟨Z7,rfl,by simp only[V4.succ];omega,trivial⟩,⟨rfl,rfl,xN _⟩,trivial⟩,V4.ext_lt hlt⟩⟩
  rintro⟨_,_,_,_,_,_,q2⟩;have:=q2 y.val hlt;rw[u9] at hb;unfold R7 at this;rw[hb] at this;cases this
 ·simp[W2] at h;have g1:=X9 hc;have g2:=X9 hd;refine((rC d).2 ⟨by omega,by omega,by omega,by omega,λha=>by have:=h.2 ha;simp[this],λi hi=>oB.1 (x.2.2 i (vV hi g1)),λi hi=>y.2.2 i (vV hi g2)⟩).symm
theorem lH:GK 181 a7w:=gk Tryz.func181<|by
 rintro⟨d,at_⟩ ⟨hat,hlen⟩;simp only at hat hlen;refine S6 gN Tryz.func181 (a8Q d at_) (α:=X4 .i64 ((d.cache.length:Int)- (1:Int))/\(∃(x:fA d at_),((at_:Int)=(at_:Int)/\(0=0/\0=0)/\(d.cache.length:Int)- (1:Int)=(x.val:Int)- (1:Int)/\True)/\(1=1/\1=1/\k4 d d)/\True)/\∀(x:fA d at_),(decide ((x.val:Int)- (1:Int)≥(0:Int))=true->W4 ((x.val:Int)- (1:Int)) d.cache.length/\(((d.cache.getD ((x.val:Int)- (1:Int)).toNat default).at_==(at_:Int))=true->W4 ((x.val:Int)- (1:Int)) d.cache.length/\(d.cache.getD ((x.val:Int)- (1:Int)).toNat default).d=S9 d at_)/\(((d.cache.getD ((x.val:Int)- (1:Int)).toNat default).at_==(at_:Int))=false->X4 .i64 ((x.val:Int)- (1:Int)- (1:Int))/\∃(y:fA d at_),(((at_:Int)=(at_:Int)/\(0=0/\0=0)/\(x.val:Int)- (1:Int)- (1:Int)=(y.val:Int)- (1:Int)/\True)/\(1=1/\1=1/\k4 d d)/\True)/\Lt y.val x.val))/\(decide ((x.val:Int)- (1:Int)≥(0:Int))=false->W4 (at_:Int) d.sec.length/\d.sec.getD (at_:Int).toNat []=S9 d at_)) ⟨Z4 (by omega),⟨⟨d.cache.length,V2 _,rfl⟩,⟨rfl,Z7,Z9⟩,⟨rfl,rfl,xN _⟩,trivial⟩,λx=> ?_⟩
 obtain⟨i,hi,hx⟩:=x;simp only;refine⟨λhc=> ?_,λhc=>⟨⟨by omega,by omega⟩,?_⟩⟩
 ·have hpos:1<=i:=by have:=F3 hc;omega
  obtain⟨j,rfl⟩:∃j,i=j+1:=⟨i-1,by omega⟩
  rw[show(((j+1:Nat):Int)-1).toNat=j by omega]
  have hl:K7 d.cache at_ (j+1)=if(d.cache.getD j default).at_=at_ then some (d.cache.getD j default).d else K7 d.cache at_ j:=rfl
  refine⟨⟨by omega,by omega⟩,λhb=>⟨⟨by omega,by omega⟩,?_⟩,λhb=>⟨Z4 (by omega),⟨j,by omega,?_⟩,⟨⟨(by trivial),⟨(by trivial),(by trivial)⟩,by simp only;omega,trivial⟩,⟨(by trivial),(by trivial),⟨(by trivial),Z2 _ _⟩,⟨(by trivial),Z2 _ _⟩,(by trivial),⟨(by trivial),Z2 _ _⟩,trivial⟩,trivial⟩,by unfold Lt;simp only;omega⟩⟩
  ·rw[if_pos (by simpa using hb)] at hl
   unfold S9;rw[hx,hl];rfl
  ·rw[if_neg (by simpa using hb)] at hl
   rw[hx,hl]
 ·have h0:i=0:=by have:=yQ hc;omega
  subst h0;unfold S9;rw[hx];rfl
end Go.Proofs.YtokaojbaacnngaaGreat

