/- A part of the proof. -/
import Derived.Test.YtlbmgnomkjmafaaGreatN8
import Derived.Test.YtlbmgnomkjmafaaGreatV1e
import Derived.Test.YtlbmgnomkjmafaaGreatE4
namespace Go.Proofs.YtlbmgnomkjmafaaGreat
set_option maxRecDepth 100000
open Go.SS Go.Proofs.Tryz
def wJ(o a b:Bool):Int:=if(o&&a)=true then(if b=true then 0 else 4) else 1
noncomputable def c0N:Con:=.rel ⟨Eng×Bool×Bool,λx=>[.agg x.1.ts,.bool x.2.1,.bool x.2.2],λx=>Ji (wJ (P1 x.1) x.2.1 x.2.2),λx=>cY x.1⟩
theorem nM:GK 24 c0N:=gk func24<|by
 rintro⟨e,a,b⟩ h;refine S1 (gC nE gN) func24 Y9 (α:=∃(x:yF.ι),(((Q7 e x)/\True)/\cY x)/\br (!P1 x|| !a) (1=wJ (P1 e) a b) (br (!b) (4=wJ (P1 e) a b) (0=wJ (P1 e) a b))) ⟨e,⟨Z8,h⟩,λhq=>?_,λhq=>⟨λB=>?_,λB=>?_⟩⟩
 ·unfold wJ;rw[if_neg (by intro h2;rw[O4] at h2;rw[h2.1,h2.2] at hq;cases hq)]
 ·have h2:(P1 e&&a)=true:=by cases ho:P1 e<;>cases a<;>rw[ho] at hq<;>first|rfl|cases hq
  unfold wJ;rw[if_pos h2,if_neg (by cases b<;>simp at B ⊢)]
 ·have h2:(P1 e&&a)=true:=by cases ho:P1 e<;>cases a<;>rw[ho] at hq<;>first|rfl|cases hq
  unfold wJ;rw[if_pos h2,if_pos (by cases b<;>simp at B ⊢)]
theorem a8X{o a b:Bool}(h:(wJ o a b !=0)=true):¬wJ o a b=0:=A8
theorem b7p{ta id:Int}(h:1<=ta/\ta<=3)(hi:0<=id/\id<=1000):(E6 ta (zC id)).length<=30:=by
 unfold E6 H7;simp only[K2];exact zP rfl
theorem c0F{t:Bz}(h:u4 t=true):t.length<=10:=by
 unfold u4 at h;rw[O4] at h;exact E4 h.2
theorem b7z{v:Val}(h:S7 v=true):mC v/\(H7 v).length<=12/\(v.k≠2->(H7 v).length<=5):=by
 unfold S7 at h;unfold mC H7;by_cases h0:v.k=0
 ·rw[if_pos h0,O4] at h;have ht:v.t=[]:=by simpa using h.2
  rw[if_pos h0,ht];exact⟨⟨O3 _,.inl h0⟩,X1,λ_=>X1⟩
 ·rw[if_neg h0] at h ⊢;by_cases h1:v.k=1
  ·rw[if_pos h1,O4] at h;have ht:v.t=[]:=by simpa using h.2
   have r:=tJ h.1;rw[if_pos h1,ht];have d:(2::F8 (v.n+1000000000).toNat).length=5:=rfl;rw[d];exact⟨⟨O3 _,.inr (.inl ⟨h1,r⟩)⟩,X1,λ_=>X1⟩
  ·rw[if_neg h1,O4,O4] at h;rw[if_neg h1];have h2:v.k=2:=by simpa using h.1.1
   have hl:=c0F h.2;refine⟨⟨Z9,.inr (.inr h2)⟩,?_,λN=>absurd h2 N⟩
   simp only[List.length_cons,K2,List.length_nil];omega
theorem tK{r:Rw}(h:R9 r=true):RwK r/\∀ta:Int,(E6 ta r).length<=30:=by
 unfold R9 at h;rw[O4,O4,O4,O4] at h;obtain⟨⟨⟨⟨g,d⟩,i⟩,e⟩,j⟩:=h;obtain⟨A,_,f⟩:=b7z d;obtain⟨B,b2,_⟩:=b7z e;have hi:=tJ g;refine⟨⟨A,B,hi⟩,λta=>?_⟩
 have l:=f (by simpa using i)
 unfold E6;have C:(H7 ⟨1,ta,[]⟩).length=5:=rfl;have c2:(H7 ⟨1,r.id,[]⟩).length=5:=rfl;rw[K2,K2,K2];omega
structure Fw(m:Nat)(e f:Eng):Prop where
 ei:EI f
 ln:f.X.length=1
 id:(f.X.getD 0 dz).id=(e.X.getD 0 dz).id
 nx:f.N=e.N
 la:(e.X.getD 0 dz).Z<=(f.X.getD 0 dz).Z
 ow:∀a t:Int,ownR e.s.L a t=true->ownR f.s.L a t=true
 bk:∀to:Int,0<=to->to<=(e.X.getD 0 dz).Z->unV f.s.L to 61 (f.X.getD 0 dz).Z (vw f.s)=unV e.s.L to 61 (e.X.getD 0 dz).Z (vw e.s)
 lg:f.s.L.length<=e.s.L.length+m
theorem Fw.up{m n:Nat}{e f:Eng}(h:Fw m e f)(M:m<=n):Fw n e f:=⟨h.ei,h.ln,h.id,h.nx,h.la,h.ow,h.bk,Nat.le_trans h.lg Z9⟩
theorem Fw.tr{m n:Nat}{e f g:Eng}(a:Fw m e f)(b:Fw n f g):Fw (m+n) e g:=
 ⟨b.ei,b.ln,b.id.trans a.id,b.nx.trans a.nx,Int.le_trans a.la b.la,λx t h=>b.ow x t (a.ow x t h),λto i d=>(b.bk to i (Int.le_trans d a.la)).trans (a.bk to i d),by have:=a.lg;have:=b.lg;omega⟩
theorem pV{e:Eng}(h:GInv e.s)(tx ta id:Int):∀n,n<=8->vw (T0 e tx ta id n).1=vw e.s
 |0,_=>rfl
 |n+1,hn=>by
  obtain⟨g,_,d,_⟩:=g8 h tx ta id n Z9
  obtain⟨_,f⟩:=x1 g (no:=n) Z9
  unfold T0;rw[if_pos d,if_pos f];exact(eD g Z9).trans (pV h tx ta id n Z9)
def c4a(e:Eng)(A:Plc):Prop:=0<=A.c->vw e.s A.c.toNat A.d.toNat=[]
theorem b3O{e:Eng}{tx ta id:Int}{no:Nat}{p:Pg}{A:Plc}(N:no<8)(hp:∀i,p.sl.getD i []=vw e.s no i)(h:c4a e A):∀n,c4a e (w7 e tx ta id no p A n)
 |0=>h
 |n+1=>by
  have I:=b3O (tx:=tx) (ta:=ta) (id:=id) N hp h n;unfold w7;dsimp only;split
  ·rename_i h0;split
   ·intro _;dsimp only;rw[G2,G2,←hp n];exact h0
   ·exact I
  ·split
   ·exact I
   ·exact I
theorem c2E{e:Eng}(h:GInv e.s)(tx ta id:Int):∀n,n<=8->c4a e (T0 e tx ta id n).2.1
 |0,_=>λC=>absurd C (by show ¬ (0:Int)<= -1;decide)
 |n+1,hn=>by
  obtain⟨g,_,d,_⟩:=g8 h tx ta id n Z9
  obtain⟨_,f⟩:=x1 g (no:=n) Z9
  have I:=c2E h tx ta id n Z9
  have hv:=pV h tx ta id n Z9
  unfold T0;rw[if_pos d,if_pos f];refine b3O Z9 (λi=>?_) I 4
  rw[←hv,sM g Z9]
  unfold vw;rw[if_pos Z9]
theorem c2u{e:Eng}(h:EI e)(g:e.X.length=1)(ta row mo:Int):(X4 e.lk (S6 e 0 ta row mo)).2≠14:=by
 have d:(I9 e.lk (S6 e 0 ta row mo)).length=0:=by
  cases q:I9 e.lk (S6 e 0 ta row mo) with
  |nil=>rfl
  |cons w W=>
   exfalso;have M:w ∈ V3 e.lk.H (S6 e 0 ta row mo) e.lk.H.length:=by
    show w ∈ I9 e.lk (S6 e 0 ta row mo);rw[q];exact List.mem_cons_self
   obtain⟨i,hi,_,n⟩:=zG _ (V8 _) M;obtain⟨j,f,J⟩:=h.h.hd i hi;have:j=0:=Z9
   subst this;exact n J.symm
 unfold X4;rw[if_pos d];split
 ·intro C;cases C
 ·split
  ·intro C;cases C
  ·intro C;cases C
structure Beg(e f:Eng):Prop where
 ei:EI f
 ln:f.X.length=1
 id:(f.X.getD 0 dz).id=e.N
 nx:f.N=e.N+1
 lg:f.s.L.length=e.s.L.length+1
 v:∀S,unV f.s.L 0 61 (f.X.getD 0 dz).Z S=S
 w:vw f.s=vw e.s
structure Com(e f:Eng):Prop where
 ei:EI f
 tx:f.X=[]
 nx:f.N=e.N
 lg:f.s.L.length=e.s.L.length+1
structure Rol(e f:Eng)(to:Int):Prop where
 ei:EI f
 ln:f.X.length=1
 id:(f.X.getD 0 dz).id=(e.X.getD 0 dz).id
 v:vw f.s=unV e.s.L to 61 (e.X.getD 0 dz).Z (vw e.s)
 b:unV f.s.L 0 61 (f.X.getD 0 dz).Z (vw f.s)=unV e.s.L 0 61 (e.X.getD 0 dz).Z (vw e.s)
structure Abt(e f:Eng):Prop where
 ei:EI f
 tx:f.X.length=0
 hd:f.lk.H.length=0
 v:vw f.s=unV e.s.L 0 61 (e.X.getD 0 dz).Z (vw e.s)
structure Src where
 c:Bz
 at_:Nat
 sd:Int
def i3(s:Src):Option Ob:=some (.arr true 1000000 3 1 λ_=>[.bys s.c,Ji s.at_,Ji s.sd])
abbrev rZ(a b:Src):Prop:=(1:Nat)=1/\Z7 1 (λ(_:Nat)=>[T.bys a.c,Ji (a.at_:Int),Ji a.sd]) λ(_:Nat)=>[T.bys b.c,Ji (b.at_:Int),Ji b.sd]
abbrev a04(a b:Src):Prop:=(1:Nat)=1/\(1:Nat)=1/\a.c=b.c/\(a.at_:Int)=(b.at_:Int)/\a.sd=b.sd/\True
def R7(s:Src)(m:Nat):Prop:=s.at_<=m/\0<=s.sd/\s.sd<2147483648
def X9(e:Bz):Src:=⟨e,0,(e.length:Int).tmod 1000⟩
def bX(s:Src):Src:=if s.at_+1<=s.c.length then⟨s.c,s.at_+1,(s.sd*31+(s.c.getD s.at_ 0).toNat+7).tmod 2147483648⟩ else
 if 3000<s.at_+1 then⟨s.c,s.at_+1,s.sd⟩ else⟨s.c,s.at_+1,(s.sd*1103515245+12345).tmod 2147483648⟩
def gB(s:Src):Int:=if s.at_+1<=s.c.length then(s.c.getD s.at_ 0).toNat else
 if 3000<s.at_+1 then 0 else((bX s).sd.tdiv 65536).tmod 256
def V6(s:Src)(n:Int):Src:=if n<=1 then s else bX s
def P0(s:Src)(n:Int):Int:=if n<=1 then 0 else(gB s).tmod n
theorem a3I(c:Bz)(h:
let q:=(1000:Int);let p:=(c.length:Int).tmod;  Nz q/\((0=0/\0=0)/\True)/\(oo (c=c/\0=(↑(0:Nat):Int)/\p q=p q/\True))/\True):
  H6 prog 28 [.bys c] [] (.ref 0 0 0) [i3 (X9 c)]:=
 r5 gN func28 Y9 a5h h
theorem b34{s:Src}{m:Nat}(h:R7 s m):0<=gB s/\gB s<256/\R7 (bX s) (m+1):=by
 obtain⟨g,f,d⟩:=h;have B:=(s.c.getD s.at_ 0).toNat_lt;unfold gB bX R7;split
 ·exact⟨Z9,Z9,X0,yI Z9 X1⟩
 ·split
  ·exact⟨Z9,Z9,X0,f,d⟩
  ·have:=yI (a:=s.sd*1103515245+12345) (n:=2147483648) Z9 X1
   dsimp only;have e:=yI (a:=((s.sd*1103515245+12345).tmod 2147483648).tdiv 65536) (n:=256) (Int.tdiv_nonneg this.1 X1) X1
   exact⟨e.1,e.2,Z9,this⟩
theorem M7{s:Src}{m:Nat}{n:Int}(h:R7 s m)(N:1<=n):0<=P0 s n/\P0 s n<n/\R7 (V6 s n) (m+1):=by
 unfold P0 V6;have:=b34 h;split
 ·exact⟨Z9,Z9,by obtain⟨e,d⟩:=h;exact⟨Z9,d⟩⟩
 ·have:=yI (a:=gB s) (n:=n) this.1 Z9
  exact⟨this.1,this.2,(b34 h).2.2⟩
def c2W:Con:=.reff ⟨Src,λ_=>[.ref 0 0 0],λs=>[i3 s],λs=>Ji (gB s),λs=>[i3 (bX s)],λs=>R7 s 1000000⟩
theorem b9l:GK 119 c2W:=gk func119<|by
 intro(s:Src) (h:R7 s 1000000);have B:=(s.c.getD s.at_ 0).toNat_lt;have e:((s.at_:Int)+1-1).toNat=s.at_:=Z9
 have W:IntKind.i64.wrap ((s.c.getD s.at_ 0).toNat:Int)=((s.c.getD s.at_ 0).toNat:Int):=by rw[IntKind.wrap_i64];omega
 obtain⟨g,f,i⟩:=h;refine r5 gN func119 Y9 a5h (α:=let w:=(bX s).sd;let u:=(↑(bX s).at_:Int);let z:=(s.sd*1103515245+12345);let r:=(2147483648:Int);let y:=((z.tmod r).tdiv (65536:Int));let q:=(s.at_:Int);let p:=(↑(s.c.getD (q+1-1).toNat (0:UInt8)).toNat:Int);let v:=(s.sd*31+IntKind.i64.wrap p+7);Ri (q+1)/\bd (q+1<=(s.c.length:Int)) (Ri (s.sd*31)/\Ri (q+1-1)/\V7 (q+1-1) s.c.length/\Ri (s.sd*31+IntKind.i64.wrap p)/\Ri v/\Nz r/\Ri (q+1-1)/\V7 (q+1-1) s.c.length/\(IntKind.i64.wrap p=gB s/\True)/\(oo (s.c=(bX s).c/\q+1=u/\v.tmod r=w/\True))/\True) (bd (q+1>3000) ((0=gB s/\True)/\(oo (s.c=(bX s).c/\q+1=u/\s.sd=w/\True))/\True) (Ri (s.sd*1103515245)/\Ri z/\Nz r/\(Nz (65536:Int)/\Ri y)/\Nz (256:Int)/\(y.tmod (256:Int)=gB s/\True)/\(oo (s.c=(bX s).c/\q+1=u/\z.tmod r=w/\True))/\True))) ⟨Z3 Z9,λhc=>?_,λhc=>⟨λhd=>?_,λhd=>?_⟩⟩
 ·have hc:=E4 hc;have c1:s.at_+1<=s.c.length:=by omega
  rw[e,W];unfold gB bX;rw[if_pos c1,if_pos c1];exact⟨Z3 Z9,Z3 Z9,⟨Z9,Z9⟩,Z3 Z9,Z3 Z9,bH,Z3 Z9,⟨Z9,Z9⟩,Z8⟩
 ·have hc:=s6 hc;have hd:=E4 hd;unfold gB bX;rw[if_neg Z9,if_pos Z9,if_neg Z9,if_pos Z9]
  exact P5
 ·have hc:=s6 hc;have hd:=s6 hd;have t:=yI (a:=s.sd*1103515245+12345) (n:=2147483648) Z9 X1
  have d:((s.sd*1103515245+12345).tmod 2147483648).tdiv 65536=((s.sd*1103515245+12345).tmod 2147483648)/65536:=Int.tdiv_eq_ediv_of_nonneg t.1;unfold gB bX;rw[if_neg Z9,if_neg Z9,if_neg Z9,if_neg Z9]
  exact⟨Z3 Z9,Z3 Z9,bH,⟨bH,Z3 Z9⟩,bH,Z8⟩
def c5z:Con:=.reff ⟨Src×Int,λx=>[.ref 0 0 0,Ji x.2],λx=>[i3 x.1],λx=>Ji (P0 x.1 x.2),λx=>[i3 (V6 x.1 x.2)],λx=>R7 x.1 1000000/\x.2<=256⟩
theorem mI:GK 61 c5z:=gk func61<|by
 rintro⟨s,n⟩ ⟨h,N⟩;dsimp only at h N;unfold P0 V6;refine r5 (gC b9l gN) func61 Y9 a5h (α:=let p:=((0=0/\0=0)/\True);bd (n<=1) ((0=P0 s n/\True)/\(a04 s (V6 s n))/\True) (bd (n<=256) (∃(x:Src),(p/\((rZ s x)/\True)/\R7 x 1000000)/\Nz n/\((gB x).tmod n=P0 s n/\True)/\(a04 (bX x) (V6 s n))/\True) (∃(x:Src),(p/\((rZ s x)/\True)/\R7 x 1000000)/\∃(X:Src),(p/\((rZ (bX x) X)/\True)/\R7 X 1000000)/\∃(d:Src),let q:=(gB x*65536+gB X*256+gB d);(p/\((rZ (bX X) d)/\True)/\R7 d 1000000)/\Ri (gB x*65536)/\Ri (gB X*256)/\Ri (gB x*65536+gB X*256)/\Ri q/\Nz n/\(q.tmod n=P0 s n/\True)/\(a04 (bX d) (V6 s n))/\True))) ⟨λC=>?_,λC=>⟨λhd=>⟨s,⟨P5,Z8,h⟩,?_⟩,λhd=>absurd (s6 hd) Z9⟩⟩
 ·unfold P0 V6;rw[if_pos (E4 C),if_pos (E4 C)];exact P5
 ·have C:=s6 C;unfold P0 V6;rw[if_neg C,if_neg C];exact⟨by unfold Nz;omega,P5,P5⟩
def c5e:Con:=.reff ⟨Src×List (Bz),λx=>[.ref 0 0 0,zA x.2],λx=>[i3 x.1],λx=>.str (x.2.getD (P0 x.1 x.2.length).toNat []),λx=>[i3 (V6 x.1 x.2.length)],λx=>R7 x.1 1000000/\1<=x.2.length/\x.2.length<=256⟩
theorem iN:GK 63 c5e:=gk func63<|by
 rintro⟨s,L⟩ ⟨h,e,d⟩;dsimp only at h e d;have N:=M7 h (n:=(L.length:Int)) Z9
 refine r5 (gC mI gN) func63 Y9 a5h (α:=let p:=(L.length:Int);br (p==0) (([]=L.getD (P0 s p).toNat []/\True)/\(a04 s (V6 s p))/\True) (∃(x:(Src×Int)),(((0=0/\0=0)/\p=x.2/\True)/\((rZ s x.1)/\True)/\R7 x.1 1000000/\x.2<=256)/\V7 (P0 x.1 x.2) L.length/\(L.getD (P0 x.1 x.2).toNat []=L.getD (P0 s p).toNat []/\True)/\(a04 (V6 x.1 x.2) (V6 s p))/\True)) ⟨λC=>by have:=eq_of_beq C;omega,λ_=>⟨(s,(L.length:Int)),⟨P5,Z8,h,X0⟩,⟨N.1,N.2.1⟩,Z8⟩⟩
def zT(n:Nat):List (Bz):=List.replicate n []
def c6C(n:Nat):Dsk:=⟨zT n,[],false,[]⟩
def b7I:Con:=.rmk ⟨Nat,λn=>[Ji n],λ_=>[],λn=>.agg ((c6C n).tm 0),λn=>(c6C n).hp,λn=>1<=n/\n<=100⟩
theorem b3p:GK 221 b7I:=gk func221<|by
 rintro n ⟨h,d⟩;have e:(n:Int).toNat=(zT n).length:=by simp[zT]
 refine⟨r5 gN func221 Y9 [[.arr 1,.arr 2,.arr 3]] (α:=let p:=(n:Int).toNat;(Nn (n:Int)/\LeI (n:Int) (n:Int)/\mK 16 p 140737488355328/\Lt p 9223372036854775808)/\(((0=0/\p=(zT n).length)/\(0=0/\0=0)/\false=false/\(0=0/\0=0)/\True)/\True)/\(p=(zT n).length/\Z7 p (λ(x:Nat)=>[T.str []]) (Z5 (zT n)))/\(0=0/\Z7 0 (tk 2 []) (Y6 []))/\(0=0/\Z7 0 (tk 1 []) (Y8 []))/\True) ⟨⟨tI,b0e,a5m,H9⟩,⟨⟨⟨rfl,e⟩,P5⟩,Z6⟩,⟨e,λi hi=>?_⟩,P5⟩,rfl,rB _⟩
 unfold Z5 zT;rw[R2,List.getElem?_replicate]
 split<;>rfl
def hdB(ep:Int):Bz:=[Q8 104,zW ep]++F8 (m0 [Q8 104,zW ep])
def a4U:Con:=.rel ⟨Int,λe=>[Ji e],λe=>.str (hdB e),λ_=>True⟩
theorem a3e(e:Int)(h:
let q:=(104:Int);let p:=(List.map Q8 [q,IntKind.u8.wrap e]);  (O7 IntKind.u8 q/\O7 IntKind.u8 (IntKind.u8.wrap e))/\zJ 2 p/\List.map Q8 [q,IntKind.u8.wrap e]++F8 (m0 p)=hdB e):
  V4 prog 222 [Ji e] (.str (hdB e)):=
 S1 (gC uH gN) func222 Y9 h
theorem a1y:GK 222 a4U:=gk func222<|λe _=>a3e e ⟨⟨(sX _).2 Z9,O2 _⟩,⟨rfl,by show 2<=1000000;decide⟩,rfl⟩
def a62:Sto:=⟨⟨(zT 69).set 0 (hdB 1),[],false,[]⟩,1,[],0,[],0⟩
def a2N:Con:=.rel ⟨Unit,λ_=>[],λ_=>.agg a62.ts,λ_=>True⟩
theorem a2e:GK 154 a2N:=gk func154<|by
 intro _ _;have h:(zT 69).length=69:=List.length_replicate;have o:(0:Int).toNat=0:=rfl;exact S1 (gC b3p (gC a1y gN)) func154 Y9 (α:=∃(x:Nat),let p:=(zT x).length;((69=(x:Int)/\True)/\1<=x/\x<=100)/\∃(X:Int),((1=X/\True)/\True)/\V7 (0:Int) p/\Lt 0 p/\(Le (0+p) p/\Le 0 0/\Le 0 0/\Le 0 0/\Le 0 0)/\(p=69/\Z7 p (setRow (Z5 (zT x)) 0 0 [T.str (hdB X)]) (Z5 ((zT 69).set 0 (hdB (1:Int)))))/\(0=0/\Z7 0 (Y6 []) (Y6 []))/\false=false/\(0=0/\Z7 0 (Y8 []) (Y8 []))/\(1:Int)=1/\(0=0/\Z7 0 (tk 10 []) (Y0 []))/\(0:Int)=0/\(0=0/\Z7 0 (tk 5 []) (V2 []))/\(0:Int)=0/\True) ⟨69,⟨Z8,X1,X1⟩,1,Z8,⟨X1,Z9⟩,H9,⟨L6,P5⟩,⟨h,λj J=>jG j J⟩,P5,rfl,P5⟩
def vts:List (Bz):=[[],[97],[97,98],[97,98,99],[98],[122,122]]
def nts:List (Bz):=[[97],[98],[110,97,109,101]]
def vaN(s:Src):List Int:=[P0 s 20-5,P0 (V6 s 20) 20,1000000000,-1000000000]
def V0(s:Src):Src×Val:=
 if P0 s 4=0 then(V6 s 4,⟨0,0,[]⟩) else
 if P0 s 4=1 then(V6 (V6 s 4) 6,⟨2,0,vts.getD (P0 (V6 s 4) 6).toNat []⟩) else
 (V6 (V6 (V6 (V6 s 4) 20) 20) 8,⟨1,(vaN (V6 s 4)).getD ((P0 (V6 (V6 (V6 s 4) 20) 20) 8).tdiv 2).toNat 0,[]⟩)
def b4u:Con:=.reff ⟨Src×Int,λx=>[.ref 0 0 0,Ji x.2],λx=>[i3 x.1],λx=>.bool (P0 x.1 x.2==x.2-1),λx=>[i3 (V6 x.1 x.2)],λx=>R7 x.1 1000000/\0<=x.2/\x.2<=256⟩
theorem b1Q:GK 89 b4u:=gk func89<|by
 rintro⟨s,n⟩ ⟨h,d,N⟩;dsimp only at h d N;exact r5 (gC mI gN) func89 Y9 a5h (α:=∃(x:(Src×Int)),(((0=0/\0=0)/\n=x.2/\True)/\((rZ s x.1)/\True)/\R7 x.1 1000000/\x.2<=256)/\Ri (n-1)/\((P0 x.1 x.2==n-1)=(P0 s n==n-1)/\True)/\(a04 (V6 x.1 x.2) (V6 s n))/\True) ⟨(s,n),⟨P5,Z8,h,N⟩,Z3 Z9,Z8⟩
def b7W:Con:=.reff ⟨Src,λ_=>[.ref 0 0 0],λs=>[i3 s],λs=>.agg (V0 s).2.ts,λs=>[i3 (V0 s).1],λs=>R7 s 100000⟩
theorem sF{a b:Int}(h:(a==b)=false):a≠b:=λe=>by rw[e] at h;simp at h
theorem R7.le{s:Src}{m n:Nat}(h:R7 s m)(hl:m<=n):R7 s n:=⟨Nat.le_trans h.1 hl,h.2⟩
theorem oH(c:Bz):R7 (X9 c) 0:=by
 have:=yI (a:=(c.length:Int)) (n:=1000) Z9 X1
 exact⟨V8 _,this.1,by show(c.length:Int).tmod 1000<_;omega⟩
theorem c3c(i:Nat):(vts.getD i []).length<=3:=by
 match i with
 |0=>decide
 |1=>decide
 |2=>decide
 |3=>decide
 |4=>decide
 |5=>decide
 |n+6=>exact O3 _
theorem c4I(i:Nat):(nts.getD i []).length<=4:=by
 match i with
 |0=>decide
 |1=>decide
 |2=>decide
 |n+3=>exact O3 _
theorem b8S:Z7 6 (tk 1 [T.str [],T.str [(97:UInt8)],T.str [(97:UInt8),(98:UInt8)],T.str [(97:UInt8),(98:UInt8),(99:UInt8)],T.str [(98:UInt8)],T.str [(122:UInt8),(122:UInt8)]]) (Z5 vts)
 |0,_=>rfl
 |1,_=>rfl
 |2,_=>rfl
 |3,_=>rfl
 |4,_=>rfl
 |5,_=>rfl
 |n+6,h=>absurd h Z9
theorem a9D:Z7 3 (tk 1 [T.str [(97:UInt8)],T.str [(98:UInt8)],T.str [(110:UInt8),(97:UInt8),(109:UInt8),(101:UInt8)]]) (Z5 nts)
 |0,_=>rfl
 |1,_=>rfl
 |2,_=>rfl
 |n+3,h=>absurd h Z9
theorem c3a{s:Src}(h:P0 s 4=0):V0 s=(V6 s 4,⟨0,0,[]⟩):=by unfold V0;rw[if_pos h]
theorem c30{s:Src}(h:P0 s 4=1):V0 s=(V6 (V6 s 4) 6,⟨2,0,vts.getD (P0 (V6 s 4) 6).toNat []⟩):=by unfold V0;rw[if_neg Z9,if_pos h]
theorem c2R{s:Src}(d:P0 s 4≠0)(h:P0 s 4≠1):V0 s=(V6 (V6 (V6 (V6 s 4) 20) 20) 8,⟨1,(vaN (V6 s 4)).getD ((P0 (V6 (V6 (V6 s 4) 20) 20) 8).tdiv 2).toNat 0,[]⟩):=by unfold V0;rw[if_neg d,if_neg h]
theorem c6R{a:Int}(h:0<=a)(d:a<8):0<=a.tdiv 2/\a.tdiv 2<4:=by
 rw[Int.tdiv_eq_ediv_of_nonneg h];omega
theorem a9t{s:Src}{m:Nat}(h:R7 s m)(i:Nat): -1000000000<=(vaN s).getD i 0/\(vaN s).getD i 0<=1000000000:=by
 have N:=M7 h (n:=20) X1
 have d:=M7 N.2.2 (n:=20) X1
 unfold vaN
 match i with
 |0=>show _<=P0 s 20-5/\P0 s 20-5<=_;omega
 |1=>show _<=P0 (V6 s 20) 20/\P0 (V6 s 20) 20<=_;omega
 |2=>show(-1000000000:Int)<=1000000000/\(1000000000:Int)<=1000000000;decide
 |3=>show(-1000000000:Int)<= -1000000000/\(-1000000000:Int)<=1000000000;decide
 |n+4=>show(-1000000000:Int)<=0/\(0:Int)<=1000000000;decide
def a6O(v:Val):Prop:=v.t.length<=4/\(v.k=0∨(v.k=1/\ -1000000000<=v.n/\v.n<=1000000000)∨v.k=2)
theorem fG{s:Src}{m:Nat}(h:R7 s m):R7 (V0 s).1 (m+4)/\a6O (V0 s).2:=by
 have n1:=M7 h (n:=4) X1
 by_cases h0:P0 s 4=0
 ·rw[c3a h0];exact⟨n1.2.2.le Z9,O3 _,.inl rfl⟩
 ·by_cases h1:P0 s 4=1
  ·rw[c30 h1];exact⟨(M7 n1.2.2 (n:=6) X1).2.2.le Z9,Nat.le_trans (c3c _) X1,.inr (.inr rfl)⟩
  ·rw[c2R h0 h1];have n2:=M7 n1.2.2 (n:=20) X1
   have d:=M7 n2.2.2 (n:=20) X1
   have e:=M7 d.2.2 (n:=8) X1
   have N:=a9t n1.2.2 ((P0 (V6 (V6 (V6 s 4) 20) 20) 8).tdiv 2).toNat;exact⟨e.2.2.le Z9,O3 _,.inr (.inl ⟨rfl,N⟩)⟩
theorem b09:GK 62 b7W:=gk func62<|by
 intro(s:Src) (h:R7 s 100000);have N:=M7 h (n:=4) X1
 have f:=M7 N.2.2 (n:=20) X1
 have g:=M7 f.2.2 (n:=20) X1
 have i:=M7 g.2.2 (n:=8) X1
 have j:(4:Int)<=256:=X1
 have e:(20:Int)<=256:=X1
 have l:(8:Int)<=256:=X1
 have nd:=c6R i.1 i.2.1;refine r5 (gC Q5 (gC mI (gC iN gN))) func62 Y9 a5h (α:=let w:=(98:UInt8);let y:=(97:UInt8);let v:=(V0 s).2.t;let u:=(V0 s).2.n;let z:=(V0 s).2.k;let q:=(0=0/\0=0);∃(x:(Src×Int)),let r:=(V6 x.1 x.2);((q/\4=x.2/\True)/\((rZ s x.1)/\True)/\R7 x.1 1000000/\x.2<=256)/\br (P0 x.1 x.2==0) (((0=z/\0=u/\[]=v/\True)/\True)/\(a04 r (V0 s).1)/\True) (br (P0 x.1 x.2==1) (∃(X:(Src×List (Bz))),let j:=(X.2.length:Int);((q/\(6=X.2.length/\Z7 6 (tk 1 [T.str [],T.str [y],T.str [y,w],T.str [y,w,(99:UInt8)],T.str [w],T.str [(122:UInt8),(122:UInt8)]]) (Z5 X.2))/\True)/\((rZ r X.1)/\True)/\R7 X.1 1000000/\1<=X.2.length/\X.2.length<=256)/\((2=z/\0=u/\X.2.getD (P0 X.1 j).toNat []=v/\True)/\True)/\(a04 (V6 X.1 j) (V0 s).1)/\True) (∃(X:(Src×Int)),((q/\20=X.2/\True)/\((rZ r X.1)/\True)/\R7 X.1 1000000/\X.2<=256)/\Ri (P0 X.1 X.2-5)/\∃(x:(Src×Int)),((q/\20=x.2/\True)/\((rZ (V6 X.1 X.2) x.1)/\True)/\R7 x.1 1000000/\x.2<=256)/\∃(d:(Src×Int)),let p:=((P0 d.1 d.2).tdiv (2:Int));((q/\8=d.2/\True)/\((rZ (V6 x.1 x.2) d.1)/\True)/\R7 d.1 1000000/\d.2<=256)/\(Nz (2:Int)/\Ri p)/\V7 p 4/\((1=z/\[P0 X.1 X.2-5,P0 x.1 x.2,(1000000000:Int),(-1000000000:Int)].getD p.toNat 0=u/\[]=v/\True)/\True)/\(a04 (V6 d.1 d.2) (V0 s).1)/\True))) ⟨(s,4),⟨P5,Z8,h.le Z9,j⟩,λhv=>?_,λhv=>⟨λW=>?_,λW=>?_⟩⟩
 ·have hv:P0 s 4=0:=eq_of_beq hv;rw[c3a hv];exact Z8
 ·have W:P0 s 4=1:=eq_of_beq W;rw[c30 W];exact⟨(V6 s 4,vts),⟨⟨Z8,⟨rfl,b8S⟩,Z6⟩,Z8,N.2.2.le Z9,(by decide:1<=vts.length),(by decide:vts.length<=256)⟩,Z8⟩
 ·have hv:P0 s 4≠0:=sF hv;have W:P0 s 4≠1:=sF W;rw[c2R hv W];exact⟨(V6 s 4,20),⟨P5,Z8,N.2.2.le Z9,e⟩,Z3 X0,(V6 (V6 s 4) 20,20),⟨P5,Z8,f.2.2.le Z9,e⟩,(V6 (V6 (V6 s 4) 20) 20,8),⟨P5,Z8,g.2.2.le Z9,l⟩,⟨bH,Z3 X0⟩,⟨nd.1,nd.2⟩,Z8⟩
def J0(s:Src)(v:Val):Src×Val:=if v.k=2 then(V6 s 9,⟨1,P0 s 9,[]⟩) else(s,v)
def v7(s:Src)(v:Val):Src×Val:=if v.k=1 then(V6 s 3,⟨2,0,nts.getD (P0 s 3).toNat []⟩) else(s,v)
def I3(s:Src):Src:=(V0 (V0 (V6 s 6)).1).1
def vQ(s:Src):Src×Rw:=
 ((v7 (J0 (I3 s) (V0 (V6 s 6)).2).1 (V0 (V0 (V6 s 6)).1).2).1,
  ⟨P0 s 6,(J0 (I3 s) (V0 (V6 s 6)).2).2,(v7 (J0 (I3 s) (V0 (V6 s 6)).2).1 (V0 (V0 (V6 s 6)).1).2).2⟩)
def c3j:Con:=.reff ⟨Src,λ_=>[.ref 0 0 0],λs=>[i3 s],λs=>.agg (vQ s).2.ts,λs=>[i3 (vQ s).1],λs=>R7 s 50000⟩
theorem c5a{s:Src}{m:Nat}{v:Val}(h:R7 s m)(hv:a6O v):R7 (J0 s v).1 (m+1)/\a6O (J0 s v).2:=by
 have N:=M7 h (n:=9) X1
 unfold J0;split
 ·exact⟨N.2.2,O3 _,.inr (.inl ⟨rfl,X0,X0⟩)⟩
 ·exact⟨h.le Z9,hv⟩
theorem c4c{s:Src}{m:Nat}{v:Val}(h:R7 s m)(hv:a6O v):R7 (v7 s v).1 (m+1)/\a6O (v7 s v).2:=by
 have N:=M7 h (n:=3) X1
 unfold v7;split
 ·exact⟨N.2.2,c4I _,.inr (.inr rfl)⟩
 ·exact⟨h.le Z9,hv⟩
theorem b7r{s:Src}{m:Nat}(h:R7 s m):R7 (I3 s) (m+9):=(fG (fG (M7 h (n:=6) X1).2.2).1).1
theorem a6O.key{v:Val}(h:a6O v):mC v/\(H7 v).length<=6:=by
 obtain⟨e,d⟩:=h;refine⟨⟨Z9,d⟩,?_⟩
 unfold H7;split
 ·show 1<=6;decide
 ·split
  ·show(2::F8 _).length<=6;have:(F8 (v.n+1000000000).toNat).length=4:=rfl;rw[List.length_cons,this];decide
  ·simp only[List.length_cons,K2,List.length_nil];omega
theorem eU{s:Src}{m:Nat}(h:R7 s m):R7 (vQ s).1 (m+11)/\RwK (vQ s).2/\∀ta:Int,(E6 ta (vQ s).2).length<=30:=by
 have N:=M7 h (n:=6) X1
 have v:=fG N.2.2;have V:=fG v.1;have W:=c5a (b7r h) v.2;have e:=c4c W.1 V.2;have k1:=W.2.key;have d:=e.2.key;refine⟨e.1.le Z9,⟨k1.1,d.1,N.1,by show P0 s 6<=1000;omega⟩,λta=>?_⟩
 unfold E6;have A:(H7 ⟨1,ta,[]⟩).length=5:=rfl;have f:(H7 ⟨1,(vQ s).2.id,[]⟩).length=5:=rfl;have B:(H7 (vQ s).2.n).length<=6:=k1.2;have b2:(H7 (vQ s).2.name).length<=6:=d.2;rw[K2,K2,K2];omega
theorem c67{s:Src}{v:Val}(h:v.k=2):J0 s v=(V6 s 9,⟨1,P0 s 9,[]⟩):=if_pos h
theorem c59{s:Src}{v:Val}(h:v.k≠2):J0 s v=(s,v):=if_neg h
theorem c1B{s:Src}{v:Val}(h:v.k=1):v7 s v=(V6 s 3,⟨2,0,nts.getD (P0 s 3).toNat []⟩):=if_pos h
theorem c1Q{s:Src}{v:Val}(h:v.k≠1):v7 s v=(s,v):=if_neg h
theorem c2T(s:Src):I3 s=(V0 (V0 (V6 s 6)).1).1:=rfl
theorem a95:GK 29 c3j:=gk func29<|by
 intro(s:Src) (h:R7 s 50000);have N:=M7 h (n:=6) X1
 have v:=fG N.2.2;have V:=fG v.1;have hA:=V.1;have w1:=M7 hA (n:=9) X1
 have i:(6:Int)<=256:=X1
 have e9:(9:Int)<=256:=X1
 have g:((nts.length:Nat):Int)=3:=rfl;have A:I3 s=(V0 (V0 (V6 s 6)).1).1:=c2T s;refine r5 (gC Q5 (gC mI (gC b09 (gC iN gN)))) func29 Y9 a5h (α:=let a:=(V0 (V6 s (6:Int)));let y:=(0=0/\0=0);let r:=(tk 1 [T.str [(97:UInt8)],T.str [(98:UInt8)],T.str [(110:UInt8),(97:UInt8),(109:UInt8),(101:UInt8)]]);let q:=(J0 (I3 s) a.2);let p:=(v7 q.1 (V0 a.1).2);let v:=(↑p.1.at_:Int);∃(x:(Src×Int)),((y/\6=x.2/\True)/\((rZ s x.1)/\True)/\R7 x.1 1000000/\x.2<=256)/\∃(f:Src),let g:=(V0 f).2.k;((y/\True)/\((rZ (V6 x.1 x.2) f)/\True)/\R7 f 100000)/\∃(d:Src),let w:=(V0 d).2.k;((y/\True)/\((rZ (V0 f).1 d)/\True)/\R7 d 100000)/\((g==2)=true->∃(X:(Src×Int)),let j:=(V6 X.1 X.2);((y/\9=X.2/\True)/\((rZ (V0 d).1 X.1)/\True)/\R7 X.1 1000000/\X.2<=256)/\((w==1)=true->∃(e:(Src×List (Bz))),let z:=e.2.length;let m:=(V6 e.1 (z:Int));((y/\(3=z/\Z7 3 r (Z5 e.2))/\True)/\((rZ j e.1)/\True)/\R7 e.1 1000000/\1<=z/\z<=256)/\((P0 x.1 x.2=P0 s (6:Int)/\1=q.2.k/\P0 X.1 X.2=q.2.n/\[]=q.2.t/\2=p.2.k/\0=p.2.n/\e.2.getD (P0 e.1 (z:Int)).toNat []=p.2.t/\True)/\True)/\(1=1/\1=1/\m.c=p.1.c/\(↑m.at_:Int)=v/\m.sd=p.1.sd/\True)/\True)/\((w==1)=false->((P0 x.1 x.2=P0 s (6:Int)/\1=q.2.k/\P0 X.1 X.2=q.2.n/\[]=q.2.t/\w=p.2.k/\(V0 d).2.n=p.2.n/\(V0 d).2.t=p.2.t/\True)/\True)/\(1=1/\1=1/\j.c=p.1.c/\(↑j.at_:Int)=v/\j.sd=p.1.sd/\True)/\True))/\((g==2)=false->((w==1)=true->∃(X:(Src×List (Bz))),let b:=(X.2.length:Int);let u:=(V6 X.1 b);((y/\(3=X.2.length/\Z7 3 r (Z5 X.2))/\True)/\((rZ (V0 d).1 X.1)/\True)/\R7 X.1 1000000/\1<=X.2.length/\X.2.length<=256)/\((P0 x.1 x.2=P0 s (6:Int)/\g=q.2.k/\(V0 f).2.n=q.2.n/\(V0 f).2.t=q.2.t/\2=p.2.k/\0=p.2.n/\X.2.getD (P0 X.1 b).toNat []=p.2.t/\True)/\True)/\(1=1/\1=1/\u.c=p.1.c/\(↑u.at_:Int)=v/\u.sd=p.1.sd/\True)/\True)/\((w==1)=false->((P0 x.1 x.2=P0 s (6:Int)/\g=q.2.k/\(V0 f).2.n=q.2.n/\(V0 f).2.t=q.2.t/\w=p.2.k/\(V0 d).2.n=p.2.n/\(V0 d).2.t=p.2.t/\True)/\True)/\(1=1/\1=1/\(V0 d).1.c=p.1.c/\(↑(V0 d).1.at_:Int)=v/\(V0 d).1.sd=p.1.sd/\True)/\True))) ?_
 rw[A];refine⟨(s,6),⟨P5,Z8,h.le Z9,i⟩,V6 s 6,⟨Z8,Z8,N.2.2.le Z9⟩,(V0 (V6 s 6)).1,⟨Z8,Z8,v.1.le Z9⟩,λhv=>?_,λhv=>?_⟩
 ·have hv:(V0 (V6 s 6)).2.k=2:=eq_of_beq hv;rw[c67 hv];refine⟨((V0 (V0 (V6 s 6)).1).1,9),⟨P5,Z8,hA.le Z9,e9⟩,λhw=>?_,λhw=>?_⟩
  ·have hw:(V0 (V0 (V6 s 6)).1).2.k=1:=eq_of_beq hw;rw[c1B hw];refine⟨(V6 ((V0 (V0 (V6 s 6)).1).1) 9,nts),⟨⟨Z8,⟨rfl,a9D⟩,Z6⟩,Z8,w1.2.2.le Z9,(by decide:1<=nts.length),(by decide:nts.length<=256)⟩,?_⟩
   dsimp only;rw[g];exact Z8
  ·rw[c1Q (sF hw)];exact Z8
 ·rw[c59 (sF hv)];refine⟨λhw=>?_,λhw=>?_⟩
  ·have hw:(V0 (V0 (V6 s 6)).1).2.k=1:=eq_of_beq hw;rw[c1B hw];refine⟨((V0 (V0 (V6 s 6)).1).1,nts),⟨⟨Z8,⟨rfl,a9D⟩,Z6⟩,Z8,hA.le Z9,(by decide:1<=nts.length),(by decide:nts.length<=256)⟩,?_⟩
   dsimp only;rw[g];exact Z8
  ·rw[c1Q (sF hw)];exact Z8
def Q1(L:List Rw)(i:Nat):List T:=(L.getD i dz).ts
def rwS(L:List Rw):T:=.sl 7 L.length (Q1 L)
def sZ(L:List Rw)(id:Int)(i:Nat):Bool:= !decide ((L.getD i dz).id<id)
def b6j(L:List Rw)(id:Int):Nat:=if Q9 L.length (sZ L id)<0 then L.length else(Q9 L.length (sZ L id)).toNat
def b0X(L:List Rw)(r:Rw):List Rw:=L.take (b6j L r.id)++[r]++L.drop (b6j L r.id)
def eO(e:Int)(L:List Rw)(t:Bz):List Rw:=match zK t with
 |some x=>if x.1=e then b0X L x.2 else L
 |none=>L
def k4(sl:List (Bz))(t:Int)(L:List Rw):Nat->List Rw
 |0=>L
 |i+1=>eO t (k4 sl t L i) (sl.getD i [])
def rwA(L:List Rw):Option Ob:=some (.arr true 0 7 L.length (Q1 L))
def b4R(r:Rw):Option Ob:=some (.arr true 1000000 7 1 λ_=>r.ts)
def c6y:Con:=.tmp
theorem a8z:GK 217 c6y:=gk func217<|trivial
theorem b8q{L:List Rw}{id:Int}{m:Nat}(M:m<=L.length)(hz:∀k,k<m->sZ L id k=false)(d:m<L.length->sZ L id m=true):b6j L id=m:=by
 unfold b6j;by_cases h:m<L.length
 ·have:=N4 h (d h) hz;rw[this,if_neg Z9,G2]
 ·have:Q9 L.length (sZ L id)= -1:=K9 λk hk=>hz k Z9
  rw[this,if_pos Z9]
  omega
theorem b7B(L:List Rw)(r:Rw){m:Nat}(M:m<=L.length):Z7 (0+m+1+(L.length-m)) (X7 (X7 (X7 (λk=>List.take 7 (List.drop (k*7) [])) 0 (Q1 L)) (0+m) λk=>List.take 7 (List.drop (k*7) r.ts)) (0+m+1) (yL (Q1 L) (0+m))) (Q1 (L.take m++[r]++L.drop m)):=by
 intro i hi;rw[C9] at hi ⊢;have hl:(L.take m).length=m:=by rw[List.length_take];omega
 by_cases h1:i<m
 ·rw[P7 Z9,P7 h1,P8 (O3 _),Nat.sub_zero]
  unfold Q1;rw[R2,R2,List.append_assoc,uW Z9,List.getElem?_take_of_lt h1]
 ·by_cases h2:i=m
  ·subst h2;rw[P7 Z9,P8 (V8 _),j_i]
   unfold Q1;rw[R2,List.append_assoc,tG Z9,hl,j_i]
   rfl
  ·rw[P8 Z9]
   have h:yL (Q1 L) m (i- (m+1))=Q1 L (i-1):=by
    unfold yL;split
    ·rw[show i- (0+1)=i-1 by omega]
    ·exact congrArg (Q1 L) Z9
   rw[h];unfold Q1;rw[R2,R2,List.append_assoc,tG Z9,hl,tG H4,List.getElem?_drop,List.length_singleton,show m+(i-m-1)=i-1 by omega]
theorem b3f(e:Int)(L:List Rw)(t:Bz):(eO e L t).length<=L.length+1:=by
 unfold eO;split
 ·split
  ·unfold b0X;simp;omega
  ·omega
 ·omega
theorem oU(sl:List (Bz))(t:Int)(L:List Rw):∀i,(k4 sl t L i).length<=L.length+i
 |0=>V8 _
 |i+1=>by
  have:=oU sl t L i;have:=b3f t (k4 sl t L i) (sl.getD i []);unfold k4;omega
theorem c7h(i:Nat):u4 (vts.getD i [])=true:=by
 match i with
 |0=>decide
 |1=>decide
 |2=>decide
 |3=>decide
 |4=>decide
 |5=>decide
 |n+6=>rfl
theorem c5R(i:Nat):u4 (nts.getD i [])=true:=by
 match i with
 |0=>decide
 |1=>decide
 |2=>decide
 |n+3=>rfl
theorem b4d{s:Src}{m:Nat}(h:R7 s m):S7 (V0 s).2=true:=by
 have n1:=M7 h (n:=4) X1
 by_cases h0:P0 s 4=0
 ·rw[c3a h0];rfl
 ·by_cases h1:P0 s 4=1
  ·rw[c30 h1];exact c7h _
  ·rw[c2R h0 h1];have nn:=a9t n1.2.2 ((P0 (V6 (V6 (V6 s 4) 20) 20) 8).tdiv 2).toNat;unfold S7;dsimp only;rw[if_neg X1,if_pos rfl,T2.2 nn]
   rfl
theorem b8v{s:Src}{m:Nat}{v:Val}(h:R7 s m)(hv:S7 v=true):S7 (J0 s v).2=true/\(J0 s v).2.k≠2:=by
 have N:=M7 h (n:=9) X1
 unfold J0;split
 ·refine⟨?_,by show(1:Int)≠2;decide⟩
  unfold S7;dsimp only;rw[if_neg X1,if_pos rfl,T2.2 ⟨Z9,Z9⟩]
  rfl
 ·rename_i d;exact⟨hv,d⟩
theorem b8F{s:Src}{v:Val}(hv:S7 v=true):S7 (v7 s v).2=true/\(v7 s v).2.k≠1:=by
 unfold v7;split
 ·exact⟨c5R _,by show(2:Int)≠1;decide⟩
 ·rename_i h;exact⟨hv,h⟩
theorem a9V{s:Src}{m:Nat}(h:R7 s m):R9 (vQ s).2=true:=by
 have N:=M7 h (n:=6) X1
 have V:=b4d N.2.2;have v:=b4d (fG N.2.2).1;obtain⟨A,d⟩:=b8v (b7r h) V;obtain⟨B,b2⟩:=b8F (s:=(J0 (I3 s) (V0 (V6 s 6)).2).1) v;unfold R9 vQ;dsimp only;rw[A,B,T2.2 ⟨Z9,Z9⟩]
 simp only[Bool.true_and,Bool.and_true,O4,bne_iff_ne,ne_eq];exact⟨d,b2⟩
def uS:Eng:=⟨a62,true,[],⟨[],[]⟩,1⟩
def b3k:Con:=.rel ⟨Unit,λ_=>[],λ_=>.agg uS.ts,λ_=>True⟩
theorem b1t(h:
let p:=(Z5 ((zT 69).set 0 (hdB (1:Int))));  ∃(x:Unit),(True/\True)/\(69=69/\Z7 69 p p)/\(0=0/\Z7 0 (Y6 []) (Y6 []))/\false=false/\(0=0/\Z7 0 (Y8 []) (Y8 []))/\(1:Int)=1/\(0=0/\Z7 0 (Y0 []) (Y0 []))/\(0:Int)=0/\(0=0/\Z7 0 (V2 []) (V2 []))/\(0:Int)=0/\true=true/\0=0/\0=0/\0=0/\(1:Int)=1/\True):
  V4 prog 87 [] (.agg uS.ts):=
 S1 (gC a2e (gC Q5 (gC Q5 gN))) func87 Y9 h
theorem iP{n:Nat}(h:1<=n):U1 a62.d n=[]:=by
 show((zT 69).set 0 (hdB 1)).getD n []=[];rw[R2,j_k Z9]
 unfold zT;rw[List.getElem?_replicate]
 split<;>rfl
theorem c45:GInv a62:=by
 have e:a62.d.E.length=69:=by
  show((zT 69).set 0 (hdB 1)).length=69;rw[yT];exact List.length_replicate
 have pg:∀no,U2 a62.d no=(⟨0,[[],[],[],[]]⟩,true):=λno=>by
  unfold U2;rw[if_pos (iP Z9)]
 refine⟨⟨rfl,rfl,e,λi hi=>?_,λi hi=>absurd hi (J5 _)⟩,O3 _,⟨X1,X1⟩,O3 _,D2.2 λi hi=>absurd hi (J5 _),⟨Int.le_refl _,Int.le_refl _⟩,λi hi=>absurd hi (J5 _),λno _=>by rw[pg];exact⟨rfl,Int.le_refl _⟩,O3 _,λi hi=>absurd hi (J5 _),λi j hi=>absurd hi (J5 _),λi hi=>absurd hi (J5 _),⟨Int.le_refl _,X1⟩,λi hi=>absurd hi (J5 _),λi _ _=>iP Z9⟩
 by_cases h:i=0
 ·subst h;show(((zT 69).set 0 (hdB 1)).getD 0 []).length<=160;rw[R2]
  rw[j_j (by unfold zT;simp)]
  show 6<=160;decide
 ·have:a62.d.E.getD i []=[]:=iP Z9
  rw[this];exact O3 _
theorem a9K:EI uS:=by
 refine⟨c45,rfl,⟨⟨⟨O3 _,λi hi=>absurd hi (J5 _)⟩,λa d h=>by have h:a<=((0:Nat):Int):=h;omega⟩,O3 _,⟨Int.le_refl _,by show(1:Int)<=61;decide⟩,rfl,λi hi=>absurd hi (J5 _),λi j _ J=>absurd J (J5 _),λi hi=>absurd hi (J5 _),λi hi=>absurd hi (J5 _),λi hi=>absurd hi (J5 _),by show 0+0<=60;decide⟩⟩
theorem a6Z:GK 87 b3k:=gk func87<|λ_ _=>
 b1t ⟨(),⟨Z6,Z6⟩,⟨rfl,W2 _ _⟩,⟨rfl,W2 _ _⟩,rfl,⟨rfl,W2 _ _⟩,rfl,⟨rfl,W2 _ _⟩,rfl,⟨rfl,W2 _ _⟩,rfl,rfl,rfl,rfl,rfl,rfl,Z6⟩
end Go.Proofs.YtlbmgnomkjmafaaGreat
