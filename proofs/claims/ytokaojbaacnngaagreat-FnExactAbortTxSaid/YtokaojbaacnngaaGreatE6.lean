/- A part of the proof. -/
import Derived.Test.YtokaojbaacnngaaGreatE5
namespace Go.Proofs.YtokaojbaacnngaaGreat
set_option maxRecDepth 100000
open Go.SS

def R2(m:Nat)(p:Pend):Bool:= !V6 p.at_ 0 ((m:Int)-1)||decide ((p.d.length:Int)>160)
def B9(d:Dsk):Prop:=1<=d.sec.length/\d.sec.length<=100/\d.cache.length<=500/\d.keep.length<=500/\(d.armed=false->d.keep.length=0)/\(∀i,i<d.sec.length->(d.sec.getD i []).length<=160)/\
 ∀i,i<d.cache.length->R2 d.sec.length (d.cache.getD i default)=false
noncomputable instance(d:Dsk):Decidable (B9 d):=Classical.propDecidable _
noncomputable def w9(d:Dsk):Bool:=decide (B9 d)
theorem qE(d:Dsk):w9 d=true↔B9 d:=decide_eq_true_iff
theorem eI{d:Dsk}(h:¬B9 d):false=w9 d:=(tW h).symm
def b5u(d:Dsk):Prop:=N3 d.sec.length/\N3 d.cache.length/\N3 d.keep.length
def b9I(d:Dsk):T:=.fn (.func 209) [.bref d.ts]
def gO:Rl:=⟨Dsk×Pend,λx=>[.agg x.2.ts,.bref x.1.ts],λx=>.bool (R2 x.1.sec.length x.2),λx=>N3 x.1.sec.length⟩
def a8L:Con:=.rel gO
theorem a3Z:GK 209 a8L:=gk Tryz.func209<|by
 rintro⟨d,p⟩ (h:d.sec.length<1000000000000);refine S3 (gC wM gN) Tryz.func209 Z0 (α:=t8 (d.sec.length:Int)/\(!(decide ((0:Int)<=p.at_)&&decide (p.at_<(d.sec.length:Int)))||decide ((p.d.length:Int)>(160:Int)))=R2 d.sec.length p) ⟨⟨by omega,by omega⟩,?_⟩
 unfold R2 V6;rw[show decide (p.at_<(d.sec.length:Int))=decide (p.at_<=(d.sec.length:Int)-1) from decide_eq_decide.2 (by omega)]
theorem S1{ρ:Nat->Option Nat}(cs:List T):M2 ρ (.bref cs) (.bref cs):=⟨1,_,rfl,bO.refl _⟩
def fZ:Rl:=⟨List Pend×Dsk,λx=>[C2 x.1,b9I x.2],λx=>.int .i64 (R0 x.1.length λi=>R2 x.2.sec.length (x.1.getD i default)),λx=>N3 x.1.length/\N3 x.2.sec.length⟩
def a8c:Con:=.rel fZ
def a9z(L:List Pend)(d:Dsk):Nat->Ann
 |0=>.one (V3 L.length λi=>R2 d.sec.length (L.getD i default)) (λx=>⟨[(0,C2 L),(1,b9I d),(7,.int .i64 L.length),(8,.int .i64 x.1)],[]⟩) (λx=>L.length-x.1) [] [] (λ_=>Z0)
 |_=>.none
theorem a2C:GK 252 a8c:=gk Tryz.func252<|by
 rintro⟨L,d⟩ ⟨hL,hd⟩;have hL:L.length<1000000000000:=hL;refine S3 (gC a3Z gN) Tryz.func252 (a9z L d) (α:=(∃(x:V3 L.length λ(i:Nat)=>R2 d.sec.length (L.getD i default)),((Y6 Z3 L L)/\(Fn.func 209=Fn.func 209/\M2 (λ(x:Nat)=>none) (T.bref [T.sl 1 d.sec.length (Z5 d.sec),T.sl 2 d.cache.length (Z3 d.cache),T.bool d.armed,T.sl 1 d.keep.length (Y9 d.keep)]) (T.bref [T.sl 1 d.sec.length (Z5 d.sec),T.sl 2 d.cache.length (Z3 d.cache),T.bool d.armed,T.sl 1 d.keep.length (Y9 d.keep)])/\True)/\(L.length:Int)=(L.length:Int)/\(0:Int)=(x.val:Int)/\True)/\True)/\∀(x:V3 L.length λ(i:Nat)=>R2 d.sec.length (L.getD i default)),(decide ((x.val:Int)<(L.length:Int))=true->W2 (x.val:Int) L.length/\∃(x_1:gO.ι),((((L.getD (x.val:Int).toNat default).at_=x_1.2.at_/\(L.getD (x.val:Int).toNat default).d=x_1.2.d/\True)/\(g8 d x_1.1)/\True)/\N3 x_1.1.sec.length)/\(R2 x_1.1.sec.length x_1.2=true->(x.val:Int)=R0 L.length λ(i:Nat)=>R2 d.sec.length (L.getD i default))/\(R2 x_1.1.sec.length x_1.2=false->X2 .i64 ((x.val:Int)+(1:Int))/\∃(y:V3 L.length λ(i:Nat)=>R2 d.sec.length (L.getD i default)),(((Y6 Z3 L L)/\(Fn.func 209=Fn.func 209/\M2 (λ(x:Nat)=>none) (T.bref [T.sl 1 d.sec.length (Z5 d.sec),T.sl 2 d.cache.length (Z3 d.cache),T.bool d.armed,T.sl 1 d.keep.length (Y9 d.keep)]) (T.bref [T.sl 1 d.sec.length (Z5 d.sec),T.sl 2 d.cache.length (Z3 d.cache),T.bool d.armed,T.sl 1 d.keep.length (Y9 d.keep)])/\True)/\(L.length:Int)=(L.length:Int)/\(x.val:Int)+(1:Int)=(y.val:Int)/\True)/\True)/\Lt (L.length-y.val) (L.length-x.val)))/\(decide ((x.val:Int)<(L.length:Int))=false->(-1:Int)=R0 L.length λ(i:Nat)=>R2 d.sec.length (L.getD i default))) ⟨⟨E8,⟨⟨rfl,λ_ _=>rfl⟩,⟨rfl,S1 _,trivial⟩,rfl,Z9⟩,trivial⟩,λx=>⟨λhc=> ?_,λhc=> ?_⟩⟩
 ·have hlt:=Y1 hc;refine⟨Y3 hlt,(d,L.getD x.val default),⟨⟨⟨rfl,Z9⟩,⟨Z8,Z8,rfl,X8⟩,trivial⟩,hd⟩,λhp=>(L5 hlt hp x.2.2).symm,λhp=>⟨V5 hlt (by omega),x.succ hlt hp,⟨⟨⟨rfl,λ_ _=>rfl⟩,⟨rfl,S1 _,trivial⟩,rfl,by simp only[V3.succ];omega,trivial⟩,trivial⟩,V3.ext_lt hlt⟩⟩
 ·have hge:=X9 hc;exact(J9 λj hj=>x.2.2 j (vR hj hge)).symm
def jA:Rl:=⟨List Pend×Dsk,λx=>[C2 x.1,b9I x.2],λx=>.bool (anyI x.1.length λi=>R2 x.2.sec.length (x.1.getD i default)),λx=>N3 x.1.length/\N3 x.2.sec.length⟩
def a7w:Con:=.rel jA
theorem a4p:GK 208 a7w:=gk Tryz.func208<|by
 rintro⟨L,d⟩ hh;exact S3 (gC a2C gN) Tryz.func208 Z0 (α:=∃(x:fZ.ι),(((Y6 Z3 L x.1)/\(Fn.func 209=Fn.func 209/\(g8 d x.2)/\True)/\True)/\N3 x.1.length/\N3 x.2.sec.length)/\decide ((R0 x.1.length λ(i:Nat)=>R2 x.2.sec.length (x.1.getD i default))≥(0:Int))=anyI L.length λ(i:Nat)=>R2 d.sec.length (L.getD i default)) ⟨(L,d),⟨⟨⟨rfl,λ_ _=>rfl⟩,⟨rfl,(xF _),trivial⟩,trivial⟩,hh⟩,y8 _ _⟩
noncomputable def rB:Rl:=⟨Dsk,λd=>[.agg d.ts],λd=>.bool (w9 d),b5u⟩
noncomputable def a8a:Con:=.rel rB
noncomputable def a9e:Con:=.rel rB
def mB(d:Dsk):Option Ob:=some (.arr true 1000000 4 1 λ_=>d.ts)
def a8h(d:Dsk):Nat->Ann
 |0=>.one (V3 d.sec.length λi=>P3 false (d.sec.getD i [])) (λx=>⟨[(1,.ref 0 0 0),(3,.int .i64 d.sec.length),(4,.int .i64 x.1)],[mB d]⟩) (λx=>d.sec.length-x.1) [.box 0] [.box 0] (λ_=>fun
  |1=>.one (V3 d.cache.length λi=>R2 d.sec.length (d.cache.getD i default)) (λy=>⟨[(1,.ref 0 0 0),(3,.int .i64 d.sec.length),(5,.int .i64 y.1)],[mB d]⟩) (λy=>d.cache.length-y.1) [.box 0] [.box 0] (λ_=>Z0)
  |_=>.none)
 |_=>.none
def a7x:Con:=.rel tC
def fV(d:Dsk)(at_:Nat):Type:={i:Nat//i<=d.cache.length/\K4 d.cache at_ d.cache.length=K4 d.cache at_ i}
def a9o(d:Dsk)(at_:Nat):Nat->Ann
 |0=>.one (fV d at_) (λx=>⟨[(1,.int .i64 at_),(2,.ref 0 0 0),(5,.int .i64 ((x.1:Int)-1))],[mB d]⟩) (λx=>x.1) [.box 0] [.box 0] (λ_=>Z0)
 |_=>.none
theorem a4Z:GK 151 a8a:=gk Tryz.func151<|by
 rintro(d:Dsk) ⟨h1,h2,h3⟩;have h1:d.sec.length<1000000000000:=h1;have h2:d.cache.length<1000000000000:=h2;refine S3 (gC N4 (gC iW (gC a4p gN))) Tryz.func151 Z0 (α:=((!V6 (d.sec.length:Int) (1:Int) (100:Int)||decide ((d.cache.length:Int)>(500:Int))||decide ((d.keep.length:Int)>(500:Int))|| !d.armed&&decide ((d.keep.length:Int)>(0:Int)))=true->false=w9 d)/\((!V6 (d.sec.length:Int) (1:Int) (100:Int)||decide ((d.cache.length:Int)>(500:Int))||decide ((d.keep.length:Int)>(500:Int))|| !d.armed&&decide ((d.keep.length:Int)>(0:Int)))=false->∃(x:kF.ι),(((Y6 Z5 d.sec x.1)/\Value.func (Fn.func 207) #[] #[]=Value.func (Fn.func (match x.2 with|true=>262|false=>207)) #[] #[]/\True)/\N3 x.1.length)/\∃(x_1:jA.ι),((!anyI x.1.length λ(i:Nat)=>P3 x.2 (x.1.getD i []))=true->((Y6 Z3 d.cache x_1.1)/\(Fn.func 209=Fn.func 209/\(g8 d x_1.2)/\True)/\True)/\N3 x_1.1.length/\N3 x_1.2.sec.length)/\((!anyI x.1.length λ(i:Nat)=>P3 x.2 (x.1.getD i []))&& !anyI x_1.1.length λ(i:Nat)=>R2 x_1.2.sec.length (x_1.1.getD i default))=w9 d)) ⟨λh=>eI ?_,λh=>⟨(d.sec,false),⟨⟨Z8,Z9⟩,h1⟩,(d.cache,d),λ_=>⟨⟨Z8,⟨rfl,(xF _),trivial⟩,trivial⟩,h2,h1⟩,?_⟩⟩
 ·rintro⟨p1,p2,p3,p4,p5,_⟩;simp[V6] at h;cases ha:d.armed with
  |true=>simp[ha] at h;omega
  |false=>simp[ha] at h;have:=p5 ha;omega
 ·simp[V6] at h;rw[Bool.eq_iff_iff,qE];show((!anyI d.sec.length λi=>P3 false (d.sec.getD i []))&& !anyI d.cache.length λi=>R2 d.sec.length (d.cache.getD i default))=true↔B9 d
  simp only[I3,vO,K6];constructor
  ·rintro⟨q1,q2⟩;exact⟨by omega,by omega,by omega,by omega,λha=>by have:=h.2 ha;simp[this],λi hi=>kQ.1 (q1 i hi),q2⟩
  ·rintro⟨_,_,_,_,_,q1,q2⟩;exact⟨λi hi=>kQ.2 (q1 i hi),q2⟩
theorem a4K:GK 137 a9e:=gk Tryz.func137<|by
 rintro(d:Dsk) ⟨h1,h2,h3⟩;have h1:d.sec.length<1000000000000:=h1;have h2:d.cache.length<1000000000000:=h2;refine S3 (gC o8 gN) Tryz.func137 (a8h d) (α:=((!V6 (d.sec.length:Int) (1:Int) (100:Int)||decide ((d.cache.length:Int)>(500:Int))||decide ((d.keep.length:Int)>(500:Int))|| !d.armed&&decide ((d.keep.length:Int)>(0:Int)))=true->false=w9 d)/\((!V6 (d.sec.length:Int) (1:Int) (100:Int)||decide ((d.cache.length:Int)>(500:Int))||decide ((d.keep.length:Int)>(500:Int))|| !d.armed&&decide ((d.keep.length:Int)>(0:Int)))=false->(∃(x:V3 d.sec.length λ(i:Nat)=>P3 false (d.sec.getD i [])),((0=0/\0=0)/\(d.sec.length:Int)=(d.sec.length:Int)/\(0:Int)=(x.val:Int)/\True)/\(1=1/\1=1/\g8 d d)/\True)/\∀(x:V3 d.sec.length λ(i:Nat)=>P3 false (d.sec.getD i [])),(decide ((x.val:Int)<(d.sec.length:Int))=true->W2 (x.val:Int) d.sec.length/\(decide ((↑(d.sec.getD (x.val:Int).toNat []).length:Int)>(160:Int))=true->false=w9 d)/\(decide ((↑(d.sec.getD (x.val:Int).toNat []).length:Int)>(160:Int))=false->X2 .i64 ((x.val:Int)+(1:Int))/\∃(y:V3 d.sec.length λ(i:Nat)=>P3 false (d.sec.getD i [])),(((0=0/\0=0)/\(d.sec.length:Int)=(d.sec.length:Int)/\(x.val:Int)+(1:Int)=(y.val:Int)/\True)/\(1=1/\1=1/\g8 d d)/\True)/\Lt (d.sec.length-y.val) (d.sec.length-x.val)))/\(decide ((x.val:Int)<(d.sec.length:Int))=false->(∃(x:V3 d.cache.length λ(i:Nat)=>R2 d.sec.length (d.cache.getD i default)),((0=0/\0=0)/\(d.sec.length:Int)=(d.sec.length:Int)/\(0:Int)=(x.val:Int)/\True)/\(1=1/\1=1/\g8 d d)/\True)/\∀(x:V3 d.cache.length λ(i:Nat)=>R2 d.sec.length (d.cache.getD i default)),(decide ((x.val:Int)<(d.cache.length:Int))=true->W2 (x.val:Int) d.cache.length/\X2 .i64 ((d.sec.length:Int)- (1:Int))/\((!V6 (d.cache.getD (x.val:Int).toNat default).at_ (0:Int) ((d.sec.length:Int)- (1:Int))||decide ((↑(d.cache.getD (x.val:Int).toNat default).d.length:Int)>(160:Int)))=true->false=w9 d)/\((!V6 (d.cache.getD (x.val:Int).toNat default).at_ (0:Int) ((d.sec.length:Int)- (1:Int))||decide ((↑(d.cache.getD (x.val:Int).toNat default).d.length:Int)>(160:Int)))=false->X2 .i64 ((x.val:Int)+(1:Int))/\∃(y:V3 d.cache.length λ(i:Nat)=>R2 d.sec.length (d.cache.getD i default)),(((0=0/\0=0)/\(d.sec.length:Int)=(d.sec.length:Int)/\(x.val:Int)+(1:Int)=(y.val:Int)/\True)/\(1=1/\1=1/\g8 d d)/\True)/\Lt (d.cache.length-y.val) (d.cache.length-x.val)))/\(decide ((x.val:Int)<(d.cache.length:Int))=false->true=w9 d)))) ⟨λh=>eI ?_,λh=>⟨⟨E8,⟨Z7,rfl,Z9⟩,⟨rfl,rfl,xF _⟩,trivial⟩,λx=>⟨λhc=> ?_,λhc=>⟨⟨E8,⟨Z7,rfl,Z9⟩,⟨rfl,rfl,xF _⟩,trivial⟩,λy=>⟨λhd=> ?_,λhd=> ?_⟩⟩⟩⟩⟩
 ·rintro⟨p1,p2,p3,p4,p5,_⟩;simp[V6] at h;cases ha:d.armed with
  |true=>simp[ha] at h;omega
  |false=>simp[ha] at h;have:=p5 ha;omega
 ·have hlt:=Y1 hc;refine⟨Y3 hlt,λhb=>eI ?_,λhb=>⟨V5 hlt (by omega),x.succ hlt hb,⟨⟨Z7,rfl,Z9⟩,⟨rfl,rfl,xF _⟩,trivial⟩,V3.ext_lt hlt⟩⟩
  rintro⟨_,_,_,_,_,q1,_⟩;have:=q1 x.val hlt;rw[z7,m5] at hb;omega
 ·have hlt:=Y1 hd;refine⟨Y3 hlt,Z4 (by omega),λhb=>eI ?_,λhb=>⟨V5 hlt (by omega),y.succ hlt hb,⟨⟨Z7,rfl,by simp only[V3.succ];omega,trivial⟩,⟨rfl,rfl,xF _⟩,trivial⟩,V3.ext_lt hlt⟩⟩
  rintro⟨_,_,_,_,_,_,q2⟩;have:=q2 y.val hlt;rw[z7] at hb;unfold R2 at this;rw[hb] at this;cases this
 ·simp[V6] at h;have g1:=X9 hc;have g2:=X9 hd;refine((qE d).2 ⟨by omega,by omega,by omega,by omega,λha=>by have:=h.2 ha;simp[this],λi hi=>kQ.1 (x.2.2 i (vR hi g1)),λi hi=>y.2.2 i (vR hi g2)⟩).symm
theorem mR:GK 181 a7x:=gk Tryz.func181<|by
 rintro⟨d,at_⟩ ⟨hat,hlen⟩;simp only at hat hlen;refine S3 gN Tryz.func181 (a9o d at_) (α:=X2 .i64 ((d.cache.length:Int)- (1:Int))/\(∃(x:fV d at_),((at_:Int)=(at_:Int)/\(0=0/\0=0)/\(d.cache.length:Int)- (1:Int)=(x.val:Int)- (1:Int)/\True)/\(1=1/\1=1/\g8 d d)/\True)/\∀(x:fV d at_),(decide ((x.val:Int)- (1:Int)≥(0:Int))=true->W2 ((x.val:Int)- (1:Int)) d.cache.length/\(((d.cache.getD ((x.val:Int)- (1:Int)).toNat default).at_==(at_:Int))=true->W2 ((x.val:Int)- (1:Int)) d.cache.length/\(d.cache.getD ((x.val:Int)- (1:Int)).toNat default).d=S5 d at_)/\(((d.cache.getD ((x.val:Int)- (1:Int)).toNat default).at_==(at_:Int))=false->X2 .i64 ((x.val:Int)- (1:Int)- (1:Int))/\∃(y:fV d at_),(((at_:Int)=(at_:Int)/\(0=0/\0=0)/\(x.val:Int)- (1:Int)- (1:Int)=(y.val:Int)- (1:Int)/\True)/\(1=1/\1=1/\g8 d d)/\True)/\Lt y.val x.val))/\(decide ((x.val:Int)- (1:Int)≥(0:Int))=false->W2 (at_:Int) d.sec.length/\d.sec.getD (at_:Int).toNat []=S5 d at_)) ⟨Z4 (by omega),⟨⟨d.cache.length,V1 _,rfl⟩,⟨rfl,Z7,Z9⟩,⟨rfl,rfl,xF _⟩,trivial⟩,λx=> ?_⟩
 obtain⟨i,hi,hx⟩:=x;simp only;refine⟨λhc=> ?_,λhc=>⟨⟨by omega,by omega⟩,?_⟩⟩
 ·have hpos:1<=i:=by have:=E9 hc;omega
  obtain⟨j,rfl⟩:∃j,i=j+1:=⟨i-1,by omega⟩
  rw[show(((j+1:Nat):Int)-1).toNat=j by omega]
  have hl:K4 d.cache at_ (j+1)=if(d.cache.getD j default).at_=at_ then some (d.cache.getD j default).d else K4 d.cache at_ j:=rfl
  refine⟨⟨by omega,by omega⟩,λhb=>⟨⟨by omega,by omega⟩,?_⟩,λhb=>⟨Z4 (by omega),⟨j,by omega,?_⟩,⟨⟨(by trivial),⟨(by trivial),(by trivial)⟩,by simp only;omega,trivial⟩,⟨(by trivial),(by trivial),⟨(by trivial),Z2 _ _⟩,⟨(by trivial),Z2 _ _⟩,(by trivial),⟨(by trivial),Z2 _ _⟩,trivial⟩,trivial⟩,by unfold Lt;simp only;omega⟩⟩
  ·rw[if_pos (by simpa using hb)] at hl
   unfold S5;rw[hx,hl];rfl
  ·rw[if_neg (by simpa using hb)] at hl
   rw[hx,hl]
 ·have h0:i=0:=by have:=yG hc;omega
  subst h0;unfold S5;rw[hx];rfl
end Go.Proofs.YtokaojbaacnngaaGreat

