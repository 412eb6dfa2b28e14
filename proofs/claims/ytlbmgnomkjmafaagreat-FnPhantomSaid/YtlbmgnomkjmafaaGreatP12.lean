/- A part of the proof. -/
import Derived.Test.YtlbmgnomkjmafaaGreatN8
import Derived.Test.YtlbmgnomkjmafaaGreatV1e
import Derived.Test.YtlbmgnomkjmafaaGreatE4
namespace Go.Proofs.YtlbmgnomkjmafaaGreat
set_option maxRecDepth 100000
open Go.SS Go.Proofs.Tryz
def tW(o a b:Bool):Int:=if(o&&a)=true then(if b=true then 0 else 4) else 1
noncomputable def c0a:Con:=.rel ⟨Eng×Bool×Bool,λx=>[.agg x.1.ts,.bool x.2.1,.bool x.2.2],λx=>Ji (tW (R6 x.1) x.2.1 x.2.2),λx=>oT x.1⟩
theorem hX:GK 24 c0a:=gk func24<|by
 rintro⟨e,a,b⟩ h;refine S2 (gC uZ gN) func24 Y7 (α:=∃(x:l6.ι),(((L0 e x)/\True)/\oT x)/\br (!R6 x|| !a) (1=tW (R6 e) a b) (br (!b) (4=tW (R6 e) a b) (0=tW (R6 e) a b))) ⟨e,⟨Z8,h⟩,λhq=>?_,λhq=>⟨λB=>?_,λB=>?_⟩⟩
 ·unfold tW;rw[if_neg (by intro h2;rw[M1] at h2;rw[h2.1,h2.2] at hq;cases hq)]
 ·have h2:(R6 e&&a)=true:=by cases ho:R6 e<;>cases a<;>rw[ho] at hq<;>first|rfl|cases hq
  unfold tW;rw[if_pos h2,if_neg (by cases b<;>simp at B ⊢)]
 ·have h2:(R6 e&&a)=true:=by cases ho:R6 e<;>cases a<;>rw[ho] at hq<;>first|rfl|cases hq
  unfold tW;rw[if_pos h2,if_pos (by cases b<;>simp at B ⊢)]
theorem b4j{o a b:Bool}(h:(tW o a b !=0)=true):¬tW o a b=0:=D3
theorem c1E{ta id:Int}(h:1<=ta/\ta<=3)(hi:0<=id/\id<=1000):(tS ta (kM id)).length<=30:=by
 unfold tS A5;simp only[J3];exact zT rfl
theorem b91{t:Bz}(h:l8 t=true):t.length<=10:=by
 unfold l8 at h;rw[M1] at h;exact D4 h.2
theorem b6N{v:Val}(h:R3 v=true):mY v/\(A5 v).length<=12/\(v.k≠2->(A5 v).length<=5):=by
 unfold R3 at h;unfold mY A5;by_cases h0:v.k=0
 ·rw[if_pos h0,M1] at h;have ht:v.t=[]:=by simpa using h.2
  rw[if_pos h0,ht];exact⟨⟨N7 _,.inl h0⟩,W6,λ_=>W6⟩
 ·rw[if_neg h0] at h ⊢;by_cases h1:v.k=1
  ·rw[if_pos h1,M1] at h;have ht:v.t=[]:=by simpa using h.2
   have r:=rB h.1;rw[if_pos h1,ht];have d:(2::D5 (v.n+1000000000).toNat).length=5:=rfl;rw[d];exact⟨⟨N7 _,.inr (.inl ⟨h1,r⟩)⟩,W6,λ_=>W6⟩
  ·rw[if_neg h1,M1,M1] at h;rw[if_neg h1];have h2:v.k=2:=by simpa using h.1.1
   have l:=b91 h.2;refine⟨⟨Z9,.inr (.inr h2)⟩,?_,λN=>absurd h2 N⟩
   simp only[List.length_cons,J3,List.length_nil];omega
theorem a3J{r:Rw}(h:M0 r=true):RwK r/\∀ta:Int,(tS ta r).length<=30:=by
 unfold M0 at h;rw[M1,M1,M1,M1] at h;obtain⟨⟨⟨⟨g,d⟩,i⟩,e⟩,j⟩:=h;obtain⟨A,_,f⟩:=b6N d;obtain⟨B,b2,_⟩:=b6N e;have hi:=rB g;refine⟨⟨A,B,hi⟩,λta=>?_⟩
 have l:=f (by simpa using i)
 unfold tS;have C:(A5 ⟨1,ta,[]⟩).length=5:=rfl;have c2:(A5 ⟨1,r.id,[]⟩).length=5:=rfl;rw[J3,J3,J3];omega
structure Fw(m:Nat)(e f:Eng):Prop where
 ei:EI f
 ln:f.X.length=1
 id:(f.X.getD 0 dz).id=(e.X.getD 0 dz).id
 nx:f.N=e.N
 la:(e.X.getD 0 dz).Z<=(f.X.getD 0 dz).Z
 ow:∀a t:Int,ownR e.s.L a t=true->ownR f.s.L a t=true
 bk:∀to:Int,0<=to->to<=(e.X.getD 0 dz).Z->unV f.s.L to 61 (f.X.getD 0 dz).Z (vw f.s)=unV e.s.L to 61 (e.X.getD 0 dz).Z (vw e.s)
 lg:f.s.L.length<=e.s.L.length+m
theorem Fw.up{m n:Nat}{e f:Eng}(h:Fw m e f)(M:m<=n):Fw n e f:=⟨h.ei,h.ln,h.id,h.nx,h.la,h.ow,h.bk,Nat.le_trans h.lg Z9⟩
theorem Fw.tr{m n:Nat}{e f g:Eng}(a:Fw m e f)(b:Fw n f g):Fw (m+n) e g:=
 ⟨b.ei,b.ln,b.id.trans a.id,b.nx.trans a.nx,Int.le_trans a.la b.la,λx t h=>b.ow x t (a.ow x t h),λto i d=>(b.bk to i (Int.le_trans d a.la)).trans (a.bk to i d),by have:=a.lg;have:=b.lg;omega⟩
theorem a5w{e:Eng}(h:GInv e.s)(tx ta id:Int):∀n,n<=8->vw (R1 e tx ta id n).1=vw e.s
 |0,_=>rfl
 |n+1,hn=>by
  obtain⟨g,_,d,_⟩:=rH h tx ta id n Z9
  obtain⟨_,f⟩:=o4 g (no:=n) Z9
  unfold R1;rw[if_pos d,if_pos f];exact(a7J g Z9).trans (a5w h tx ta id n Z9)
theorem c1K{e:Eng}(h:EI e)(g:e.X.length=1)(ta row mo:Int):(X1 e.lk (P1 e 0 ta row mo)).2≠14:=by
 have d:(G6 e.lk (P1 e 0 ta row mo)).length=0:=by
  cases q:G6 e.lk (P1 e 0 ta row mo) with
  |nil=>rfl
  |cons w W=>
   exfalso;have M:w ∈ V5 e.lk.H (P1 e 0 ta row mo) e.lk.H.length:=by
    show w ∈ G6 e.lk (P1 e 0 ta row mo);rw[q];exact List.mem_cons_self
   obtain⟨i,hi,_,n⟩:=sS _ (U9 _) M;obtain⟨j,f,J⟩:=h.h.hd i hi;have:j=0:=Z9
   subst this;exact n J.symm
 unfold X1;rw[if_pos d];split
 ·intro C;cases C
 ·split
  ·intro C;cases C
  ·intro C;cases C
structure Beg(e f:Eng):Prop where
 ei:EI f
 ln:f.X.length=1
 id:(f.X.getD 0 dz).id=e.N
 nx:f.N=e.N+1
 lg:f.s.L.length=e.s.L.length+1
 v:∀S,unV f.s.L 0 61 (f.X.getD 0 dz).Z S=S
 w:vw f.s=vw e.s
structure Com(e f:Eng):Prop where
 ei:EI f
 tx:f.X=[]
 nx:f.N=e.N
 lg:f.s.L.length=e.s.L.length+1
structure Rol(e f:Eng)(to:Int):Prop where
 ei:EI f
 ln:f.X.length=1
 id:(f.X.getD 0 dz).id=(e.X.getD 0 dz).id
 v:vw f.s=unV e.s.L to 61 (e.X.getD 0 dz).Z (vw e.s)
 b:unV f.s.L 0 61 (f.X.getD 0 dz).Z (vw f.s)=unV e.s.L 0 61 (e.X.getD 0 dz).Z (vw e.s)
structure Abt(e f:Eng):Prop where
 ei:EI f
 tx:f.X.length=0
 hd:f.lk.H.length=0
 v:vw f.s=unV e.s.L 0 61 (e.X.getD 0 dz).Z (vw e.s)
structure Src where
 c:Bz
 at_:Nat
 sd:Int
def vJ(s:Src):Option Ob:=some (.arr true 1000000 3 1 λ_=>[.bys s.c,Ji s.at_,Ji s.sd])
abbrev rJ(a b:Src):Prop:=(1:Nat)=1/\Z7 1 (λ(_:Nat)=>[T.bys a.c,Ji (a.at_:Int),Ji a.sd]) λ(_:Nat)=>[T.bys b.c,Ji (b.at_:Int),Ji b.sd]
abbrev a2R(a b:Src):Prop:=(1:Nat)=1/\(1:Nat)=1/\a.c=b.c/\(a.at_:Int)=(b.at_:Int)/\a.sd=b.sd/\True
def P8(s:Src)(m:Nat):Prop:=s.at_<=m/\0<=s.sd/\s.sd<2147483648
def T4(e:Bz):Src:=⟨e,0,(e.length:Int).tmod 1000⟩
def cL(s:Src):Src:=if s.at_+1<=s.c.length then⟨s.c,s.at_+1,(s.sd*31+(s.c.getD s.at_ 0).toNat+7).tmod 2147483648⟩ else
 if 3000<s.at_+1 then⟨s.c,s.at_+1,s.sd⟩ else⟨s.c,s.at_+1,(s.sd*1103515245+12345).tmod 2147483648⟩
def gZ(s:Src):Int:=if s.at_+1<=s.c.length then(s.c.getD s.at_ 0).toNat else
 if 3000<s.at_+1 then 0 else((cL s).sd.tdiv 65536).tmod 256
def U0(s:Src)(n:Int):Src:=if n<=1 then s else cL s
def B3(s:Src)(n:Int):Int:=if n<=1 then 0 else(gZ s).tmod n
theorem a3q(c:Bz)(h:
let q:=(1000:Int);let p:=(c.length:Int).tmod;  Nz q/\((0=0/\0=0)/\True)/\(oo (c=c/\0=(↑(0:Nat):Int)/\p q=p q/\True))/\True):
  I8 prog 28 [.bys c] [] (.ref 0 0 0) [vJ (T4 c)]:=
 w3 gN func28 Y7 [[.box 0]] h
theorem b3t{s:Src}{m:Nat}(h:P8 s m):0<=gZ s/\gZ s<256/\P8 (cL s) (m+1):=by
 obtain⟨g,f,d⟩:=h;have B:=(s.c.getD s.at_ 0).toNat_lt;unfold gZ cL P8;split
 ·exact⟨Z9,Z9,X0,yQ Z9 W6⟩
 ·split
  ·exact⟨Z9,Z9,X0,f,d⟩
  ·have:=yQ (a:=s.sd*1103515245+12345) (n:=2147483648) Z9 W6
   dsimp only;have e:=yQ (a:=((s.sd*1103515245+12345).tmod 2147483648).tdiv 65536) (n:=256) (Int.tdiv_nonneg this.1 W6) W6
   exact⟨e.1,e.2,Z9,this⟩
theorem F7{s:Src}{m:Nat}{n:Int}(h:P8 s m)(N:1<=n):0<=B3 s n/\B3 s n<n/\P8 (U0 s n) (m+1):=by
 unfold B3 U0;have:=b3t h;split
 ·exact⟨Z9,Z9,by obtain⟨e,d⟩:=h;exact⟨Z9,d⟩⟩
 ·have:=yQ (a:=gZ s) (n:=n) this.1 Z9
  exact⟨this.1,this.2,(b3t h).2.2⟩
def c18:Con:=.reff ⟨Src,λ_=>[.ref 0 0 0],λs=>[vJ s],λs=>Ji (gZ s),λs=>[vJ (cL s)],λs=>P8 s 1000000⟩
theorem b8D:GK 119 c18:=gk func119<|by
 intro(s:Src) (h:P8 s 1000000);have B:=(s.c.getD s.at_ 0).toNat_lt;have e:((s.at_:Int)+1-1).toNat=s.at_:=Z9
 have W:IntKind.i64.wrap ((s.c.getD s.at_ 0).toNat:Int)=((s.c.getD s.at_ 0).toNat:Int):=by rw[IntKind.wrap_i64];omega
 obtain⟨g,f,i⟩:=h;refine w3 gN func119 Y7 [[.box 0]] (α:=let w:=(cL s).sd;let u:=(↑(cL s).at_:Int);let z:=(s.sd*1103515245+12345);let r:=(2147483648:Int);let y:=((z.tmod r).tdiv (65536:Int));let q:=(s.at_:Int);let p:=(↑(s.c.getD (q+1-1).toNat (0:UInt8)).toNat:Int);let v:=(s.sd*31+IntKind.i64.wrap p+7);Ri (q+1)/\bd (q+1<=(s.c.length:Int)) (Ri (s.sd*31)/\Ri (q+1-1)/\V6 (q+1-1) s.c.length/\Ri (s.sd*31+IntKind.i64.wrap p)/\Ri v/\Nz r/\Ri (q+1-1)/\V6 (q+1-1) s.c.length/\(IntKind.i64.wrap p=gZ s/\True)/\(oo (s.c=(cL s).c/\q+1=u/\v.tmod r=w/\True))/\True) (bd (q+1>3000) ((0=gZ s/\True)/\(oo (s.c=(cL s).c/\q+1=u/\s.sd=w/\True))/\True) (Ri (s.sd*1103515245)/\Ri z/\Nz r/\(Nz (65536:Int)/\Ri y)/\Nz (256:Int)/\(y.tmod (256:Int)=gZ s/\True)/\(oo (s.c=(cL s).c/\q+1=u/\z.tmod r=w/\True))/\True))) ⟨Z3 Z9,λhc=>?_,λhc=>⟨λhd=>?_,λhd=>?_⟩⟩
 ·have hc:=D4 hc;have c1:s.at_+1<=s.c.length:=by omega
  rw[e,W];unfold gZ cL;rw[if_pos c1,if_pos c1];exact⟨Z3 Z9,Z3 Z9,⟨Z9,Z9⟩,Z3 Z9,Z3 Z9,aM,Z3 Z9,⟨Z9,Z9⟩,Z8⟩
 ·have hc:=q8 hc;have hd:=D4 hd;unfold gZ cL;rw[if_neg Z9,if_pos Z9,if_neg Z9,if_pos Z9]
  exact Q6
 ·have hc:=q8 hc;have hd:=q8 hd;have t:=yQ (a:=s.sd*1103515245+12345) (n:=2147483648) Z9 W6
  have d:((s.sd*1103515245+12345).tmod 2147483648).tdiv 65536=((s.sd*1103515245+12345).tmod 2147483648)/65536:=Int.tdiv_eq_ediv_of_nonneg t.1;unfold gZ cL;rw[if_neg Z9,if_neg Z9,if_neg Z9,if_neg Z9]
  exact⟨Z3 Z9,Z3 Z9,aM,⟨aM,Z3 Z9⟩,aM,Z8⟩
def c4M:Con:=.reff ⟨Src×Int,λx=>[.ref 0 0 0,Ji x.2],λx=>[vJ x.1],λx=>Ji (B3 x.1 x.2),λx=>[vJ (U0 x.1 x.2)],λx=>P8 x.1 1000000/\x.2<=256⟩
theorem a19:GK 61 c4M:=gk func61<|by
 rintro⟨s,n⟩ ⟨h,N⟩;dsimp only at h N;unfold B3 U0;refine w3 (gC b8D gN) func61 Y7 [[.box 0]] (α:=let p:=((0=0/\0=0)/\True);bd (n<=1) ((0=B3 s n/\True)/\(a2R s (U0 s n))/\True) (bd (n<=256) (∃(x:Src),(p/\((rJ s x)/\True)/\P8 x 1000000)/\Nz n/\((gZ x).tmod n=B3 s n/\True)/\(a2R (cL x) (U0 s n))/\True) (∃(x:Src),(p/\((rJ s x)/\True)/\P8 x 1000000)/\∃(X:Src),(p/\((rJ (cL x) X)/\True)/\P8 X 1000000)/\∃(d:Src),let q:=(gZ x*65536+gZ X*256+gZ d);(p/\((rJ (cL X) d)/\True)/\P8 d 1000000)/\Ri (gZ x*65536)/\Ri (gZ X*256)/\Ri (gZ x*65536+gZ X*256)/\Ri q/\Nz n/\(q.tmod n=B3 s n/\True)/\(a2R (cL d) (U0 s n))/\True))) ⟨λC=>?_,λC=>⟨λhd=>⟨s,⟨Q6,Z8,h⟩,?_⟩,λhd=>absurd (q8 hd) Z9⟩⟩
 ·unfold B3 U0;rw[if_pos (D4 C),if_pos (D4 C)];exact Q6
 ·have C:=q8 C;unfold B3 U0;rw[if_neg C,if_neg C];exact⟨by unfold Nz;omega,Q6,Q6⟩
def c4m:Con:=.reff ⟨Src×List (Bz),λx=>[.ref 0 0 0,xZ x.2],λx=>[vJ x.1],λx=>.str (x.2.getD (B3 x.1 x.2.length).toNat []),λx=>[vJ (U0 x.1 x.2.length)],λx=>P8 x.1 1000000/\1<=x.2.length/\x.2.length<=256⟩
theorem jL:GK 63 c4m:=gk func63<|by
 rintro⟨s,L⟩ ⟨h,e,d⟩;dsimp only at h e d;have N:=F7 h (n:=(L.length:Int)) Z9
 refine w3 (gC a19 gN) func63 Y7 [[.box 0]] (α:=let p:=(L.length:Int);br (p==0) (([]=L.getD (B3 s p).toNat []/\True)/\(a2R s (U0 s p))/\True) (∃(x:(Src×Int)),(((0=0/\0=0)/\p=x.2/\True)/\((rJ s x.1)/\True)/\P8 x.1 1000000/\x.2<=256)/\V6 (B3 x.1 x.2) L.length/\(L.getD (B3 x.1 x.2).toNat []=L.getD (B3 s p).toNat []/\True)/\(a2R (U0 x.1 x.2) (U0 s p))/\True)) ⟨λC=>by have:=eq_of_beq C;omega,λ_=>⟨(s,(L.length:Int)),⟨Q6,Z8,h,X0⟩,⟨N.1,N.2.1⟩,Z8⟩⟩
def o6(n:Nat):List (Bz):=List.replicate n []
def c5C(n:Nat):Dsk:=⟨o6 n,[],false,[]⟩
def hdB(ep:Int):Bz:=[R4 104,zZ ep]++D5 (m7 [R4 104,zZ ep])
def a6M:Sto:=⟨⟨(o6 69).set 0 (hdB 1),[],false,[]⟩,1,[],0,[],0⟩
def vts:List (Bz):=[[],[97],[97,98],[97,98,99],[98],[122,122]]
def nts:List (Bz):=[[97],[98],[110,97,109,101]]
def vaN(s:Src):List Int:=[B3 s 20-5,B3 (U0 s 20) 20,1000000000,-1000000000]
def U5(s:Src):Src×Val:=
 if B3 s 4=0 then(U0 s 4,⟨0,0,[]⟩) else
 if B3 s 4=1 then(U0 (U0 s 4) 6,⟨2,0,vts.getD (B3 (U0 s 4) 6).toNat []⟩) else
 (U0 (U0 (U0 (U0 s 4) 20) 20) 8,⟨1,(vaN (U0 s 4)).getD ((B3 (U0 (U0 (U0 s 4) 20) 20) 8).tdiv 2).toNat 0,[]⟩)
def b66:Con:=.reff ⟨Src,λ_=>[.ref 0 0 0],λs=>[vJ s],λs=>.agg (U5 s).2.ts,λs=>[vJ (U5 s).1],λs=>P8 s 100000⟩
theorem fB{a b:Int}(h:(a==b)=false):a≠b:=λe=>by rw[e] at h;simp at h
theorem P8.le{s:Src}{m n:Nat}(h:P8 s m)(l:m<=n):P8 s n:=⟨Nat.le_trans h.1 l,h.2⟩
theorem a8j(c:Bz):P8 (T4 c) 0:=by
 have:=yQ (a:=(c.length:Int)) (n:=1000) Z9 W6
 exact⟨U9 _,this.1,by show(c.length:Int).tmod 1000<_;omega⟩
theorem c2n(i:Nat):(vts.getD i []).length<=3:=by
 match i with
 |0=>decide
 |1=>decide
 |2=>decide
 |3=>decide
 |4=>decide
 |5=>decide
 |n+6=>exact N7 _
theorem c3N(i:Nat):(nts.getD i []).length<=4:=by
 match i with
 |0=>decide
 |1=>decide
 |2=>decide
 |n+3=>exact N7 _
theorem b76:Z7 6 (tk 1 [T.str [],T.str [(97:UInt8)],T.str [(97:UInt8),(98:UInt8)],T.str [(97:UInt8),(98:UInt8),(99:UInt8)],T.str [(98:UInt8)],T.str [(122:UInt8),(122:UInt8)]]) (Z5 vts)
 |0,_=>rfl
 |1,_=>rfl
 |2,_=>rfl
 |3,_=>rfl
 |4,_=>rfl
 |5,_=>rfl
 |n+6,h=>absurd h Z9
theorem a9d:Z7 3 (tk 1 [T.str [(97:UInt8)],T.str [(98:UInt8)],T.str [(110:UInt8),(97:UInt8),(109:UInt8),(101:UInt8)]]) (Z5 nts)
 |0,_=>rfl
 |1,_=>rfl
 |2,_=>rfl
 |n+3,h=>absurd h Z9
theorem c2l{s:Src}(h:B3 s 4=0):U5 s=(U0 s 4,⟨0,0,[]⟩):=by unfold U5;rw[if_pos h]
theorem c24{s:Src}(h:B3 s 4=1):U5 s=(U0 (U0 s 4) 6,⟨2,0,vts.getD (B3 (U0 s 4) 6).toNat []⟩):=by unfold U5;rw[if_neg Z9,if_pos h]
theorem c13{s:Src}(d:B3 s 4≠0)(h:B3 s 4≠1):U5 s=(U0 (U0 (U0 (U0 s 4) 20) 20) 8,⟨1,(vaN (U0 s 4)).getD ((B3 (U0 (U0 (U0 s 4) 20) 20) 8).tdiv 2).toNat 0,[]⟩):=by unfold U5;rw[if_neg d,if_neg h]
theorem c5P{a:Int}(h:0<=a)(d:a<8):0<=a.tdiv 2/\a.tdiv 2<4:=by
 rw[Int.tdiv_eq_ediv_of_nonneg h];omega
theorem a84{s:Src}{m:Nat}(h:P8 s m)(i:Nat): -1000000000<=(vaN s).getD i 0/\(vaN s).getD i 0<=1000000000:=by
 have N:=F7 h (n:=20) W6
 have d:=F7 N.2.2 (n:=20) W6
 unfold vaN
 match i with
 |0=>show _<=B3 s 20-5/\B3 s 20-5<=_;omega
 |1=>show _<=B3 (U0 s 20) 20/\B3 (U0 s 20) 20<=_;omega
 |2=>show(-1000000000:Int)<=1000000000/\(1000000000:Int)<=1000000000;decide
 |3=>show(-1000000000:Int)<= -1000000000/\(-1000000000:Int)<=1000000000;decide
 |n+4=>show(-1000000000:Int)<=0/\(0:Int)<=1000000000;decide
def a6A(v:Val):Prop:=v.t.length<=4/\(v.k=0∨(v.k=1/\ -1000000000<=v.n/\v.n<=1000000000)∨v.k=2)
theorem fX{s:Src}{m:Nat}(h:P8 s m):P8 (U5 s).1 (m+4)/\a6A (U5 s).2:=by
 have n1:=F7 h (n:=4) W6
 by_cases h0:B3 s 4=0
 ·rw[c2l h0];exact⟨n1.2.2.le Z9,N7 _,.inl rfl⟩
 ·by_cases h1:B3 s 4=1
  ·rw[c24 h1];exact⟨(F7 n1.2.2 (n:=6) W6).2.2.le Z9,Nat.le_trans (c2n _) W6,.inr (.inr rfl)⟩
  ·rw[c13 h0 h1];have n2:=F7 n1.2.2 (n:=20) W6
   have d:=F7 n2.2.2 (n:=20) W6
   have e:=F7 d.2.2 (n:=8) W6
   have N:=a84 n1.2.2 ((B3 (U0 (U0 (U0 s 4) 20) 20) 8).tdiv 2).toNat;exact⟨e.2.2.le Z9,N7 _,.inr (.inl ⟨rfl,N⟩)⟩
theorem b0B:GK 62 b66:=gk func62<|by
 intro(s:Src) (h:P8 s 100000);have N:=F7 h (n:=4) W6
 have f:=F7 N.2.2 (n:=20) W6
 have g:=F7 f.2.2 (n:=20) W6
 have i:=F7 g.2.2 (n:=8) W6
 have j:(4:Int)<=256:=W6
 have e:(20:Int)<=256:=W6
 have l:(8:Int)<=256:=W6
 have nd:=c5P i.1 i.2.1;refine w3 (gC M8 (gC a19 (gC jL gN))) func62 Y7 [[.box 0]] (α:=let w:=(98:UInt8);let y:=(97:UInt8);let v:=(U5 s).2.t;let u:=(U5 s).2.n;let z:=(U5 s).2.k;let q:=(0=0/\0=0);∃(x:(Src×Int)),let r:=(U0 x.1 x.2);((q/\4=x.2/\True)/\((rJ s x.1)/\True)/\P8 x.1 1000000/\x.2<=256)/\br (B3 x.1 x.2==0) (((0=z/\0=u/\[]=v/\True)/\True)/\(a2R r (U5 s).1)/\True) (br (B3 x.1 x.2==1) (∃(X:(Src×List (Bz))),let j:=(X.2.length:Int);((q/\(6=X.2.length/\Z7 6 (tk 1 [T.str [],T.str [y],T.str [y,w],T.str [y,w,(99:UInt8)],T.str [w],T.str [(122:UInt8),(122:UInt8)]]) (Z5 X.2))/\True)/\((rJ r X.1)/\True)/\P8 X.1 1000000/\1<=X.2.length/\X.2.length<=256)/\((2=z/\0=u/\X.2.getD (B3 X.1 j).toNat []=v/\True)/\True)/\(a2R (U0 X.1 j) (U5 s).1)/\True) (∃(X:(Src×Int)),((q/\20=X.2/\True)/\((rJ r X.1)/\True)/\P8 X.1 1000000/\X.2<=256)/\Ri (B3 X.1 X.2-5)/\∃(x:(Src×Int)),((q/\20=x.2/\True)/\((rJ (U0 X.1 X.2) x.1)/\True)/\P8 x.1 1000000/\x.2<=256)/\∃(d:(Src×Int)),let p:=((B3 d.1 d.2).tdiv (2:Int));((q/\8=d.2/\True)/\((rJ (U0 x.1 x.2) d.1)/\True)/\P8 d.1 1000000/\d.2<=256)/\(Nz (2:Int)/\Ri p)/\V6 p 4/\((1=z/\[B3 X.1 X.2-5,B3 x.1 x.2,(1000000000:Int),(-1000000000:Int)].getD p.toNat 0=u/\[]=v/\True)/\True)/\(a2R (U0 d.1 d.2) (U5 s).1)/\True))) ⟨(s,4),⟨Q6,Z8,h.le Z9,j⟩,λhv=>?_,λhv=>⟨λW=>?_,λW=>?_⟩⟩
 ·have hv:B3 s 4=0:=eq_of_beq hv;rw[c2l hv];exact Z8
 ·have W:B3 s 4=1:=eq_of_beq W;rw[c24 W];exact⟨(U0 s 4,vts),⟨⟨Z8,⟨rfl,b76⟩,Z6⟩,Z8,N.2.2.le Z9,(by decide:1<=vts.length),(by decide:vts.length<=256)⟩,Z8⟩
 ·have hv:B3 s 4≠0:=fB hv;have W:B3 s 4≠1:=fB W;rw[c13 hv W];exact⟨(U0 s 4,20),⟨Q6,Z8,N.2.2.le Z9,e⟩,Z3 X0,(U0 (U0 s 4) 20,20),⟨Q6,Z8,f.2.2.le Z9,e⟩,(U0 (U0 (U0 s 4) 20) 20,8),⟨Q6,Z8,g.2.2.le Z9,l⟩,⟨aM,Z3 X0⟩,⟨nd.1,nd.2⟩,Z8⟩
def G3(s:Src)(v:Val):Src×Val:=if v.k=2 then(U0 s 9,⟨1,B3 s 9,[]⟩) else(s,v)
def l7(s:Src)(v:Val):Src×Val:=if v.k=1 then(U0 s 3,⟨2,0,nts.getD (B3 s 3).toNat []⟩) else(s,v)
def F0(s:Src):Src:=(U5 (U5 (U0 s 6)).1).1
def kL(s:Src):Src×Rw:=
 ((l7 (G3 (F0 s) (U5 (U0 s 6)).2).1 (U5 (U5 (U0 s 6)).1).2).1,
  ⟨B3 s 6,(G3 (F0 s) (U5 (U0 s 6)).2).2,(l7 (G3 (F0 s) (U5 (U0 s 6)).2).1 (U5 (U5 (U0 s 6)).1).2).2⟩)
def c2u:Con:=.reff ⟨Src,λ_=>[.ref 0 0 0],λs=>[vJ s],λs=>.agg (kL s).2.ts,λs=>[vJ (kL s).1],λs=>P8 s 50000⟩
theorem c4h{s:Src}{m:Nat}{v:Val}(h:P8 s m)(hv:a6A v):P8 (G3 s v).1 (m+1)/\a6A (G3 s v).2:=by
 have N:=F7 h (n:=9) W6
 unfold G3;split
 ·exact⟨N.2.2,N7 _,.inr (.inl ⟨rfl,X0,X0⟩)⟩
 ·exact⟨h.le Z9,hv⟩
theorem c3e{s:Src}{m:Nat}{v:Val}(h:P8 s m)(hv:a6A v):P8 (l7 s v).1 (m+1)/\a6A (l7 s v).2:=by
 have N:=F7 h (n:=3) W6
 unfold l7;split
 ·exact⟨N.2.2,c3N _,.inr (.inr rfl)⟩
 ·exact⟨h.le Z9,hv⟩
theorem b6A{s:Src}{m:Nat}(h:P8 s m):P8 (F0 s) (m+9):=(fX (fX (F7 h (n:=6) W6).2.2).1).1
theorem a6A.key{v:Val}(h:a6A v):mY v/\(A5 v).length<=6:=by
 obtain⟨e,d⟩:=h;refine⟨⟨Z9,d⟩,?_⟩
 unfold A5;split
 ·show 1<=6;decide
 ·split
  ·show(2::D5 _).length<=6;have:(D5 (v.n+1000000000).toNat).length=4:=rfl;rw[List.length_cons,this];decide
  ·simp only[List.length_cons,J3,List.length_nil];omega
theorem a7b{s:Src}{m:Nat}(h:P8 s m):P8 (kL s).1 (m+11)/\RwK (kL s).2/\∀ta:Int,(tS ta (kL s).2).length<=30:=by
 have N:=F7 h (n:=6) W6
 have v:=fX N.2.2;have V:=fX v.1;have W:=c4h (b6A h) v.2;have e:=c3e W.1 V.2;have k1:=W.2.key;have d:=e.2.key;refine⟨e.1.le Z9,⟨k1.1,d.1,N.1,by show B3 s 6<=1000;omega⟩,λta=>?_⟩
 unfold tS;have A:(A5 ⟨1,ta,[]⟩).length=5:=rfl;have f:(A5 ⟨1,(kL s).2.id,[]⟩).length=5:=rfl;have B:(A5 (kL s).2.n).length<=6:=k1.2;have b2:(A5 (kL s).2.name).length<=6:=d.2;rw[J3,J3,J3];omega
theorem c54{s:Src}{v:Val}(h:v.k=2):G3 s v=(U0 s 9,⟨1,B3 s 9,[]⟩):=if_pos h
theorem c5h{s:Src}{v:Val}(h:v.k≠2):G3 s v=(s,v):=if_neg h
theorem c0V{s:Src}{v:Val}(h:v.k=1):l7 s v=(U0 s 3,⟨2,0,nts.getD (B3 s 3).toNat []⟩):=if_pos h
theorem c1c{s:Src}{v:Val}(h:v.k≠1):l7 s v=(s,v):=if_neg h
theorem c16(s:Src):F0 s=(U5 (U5 (U0 s 6)).1).1:=rfl
theorem b98:GK 29 c2u:=gk func29<|by
 intro(s:Src) (h:P8 s 50000);have N:=F7 h (n:=6) W6
 have v:=fX N.2.2;have V:=fX v.1;have hA:=V.1;have w1:=F7 hA (n:=9) W6
 have i:(6:Int)<=256:=W6
 have e9:(9:Int)<=256:=W6
 have g:((nts.length:Nat):Int)=3:=rfl;have A:F0 s=(U5 (U5 (U0 s 6)).1).1:=c16 s;refine w3 (gC M8 (gC a19 (gC b0B (gC jL gN)))) func29 Y7 [[.box 0]] (α:=let a:=(U5 (U0 s (6:Int)));let y:=(0=0/\0=0);let r:=(tk 1 [T.str [(97:UInt8)],T.str [(98:UInt8)],T.str [(110:UInt8),(97:UInt8),(109:UInt8),(101:UInt8)]]);let q:=(G3 (F0 s) a.2);let p:=(l7 q.1 (U5 a.1).2);let v:=(↑p.1.at_:Int);∃(x:(Src×Int)),((y/\6=x.2/\True)/\((rJ s x.1)/\True)/\P8 x.1 1000000/\x.2<=256)/\∃(f:Src),let g:=(U5 f).2.k;((y/\True)/\((rJ (U0 x.1 x.2) f)/\True)/\P8 f 100000)/\∃(d:Src),let w:=(U5 d).2.k;((y/\True)/\((rJ (U5 f).1 d)/\True)/\P8 d 100000)/\((g==2)=true->∃(X:(Src×Int)),let j:=(U0 X.1 X.2);((y/\9=X.2/\True)/\((rJ (U5 d).1 X.1)/\True)/\P8 X.1 1000000/\X.2<=256)/\((w==1)=true->∃(e:(Src×List (Bz))),let z:=e.2.length;let m:=(U0 e.1 (z:Int));((y/\(3=z/\Z7 3 r (Z5 e.2))/\True)/\((rJ j e.1)/\True)/\P8 e.1 1000000/\1<=z/\z<=256)/\((B3 x.1 x.2=B3 s (6:Int)/\1=q.2.k/\B3 X.1 X.2=q.2.n/\[]=q.2.t/\2=p.2.k/\0=p.2.n/\e.2.getD (B3 e.1 (z:Int)).toNat []=p.2.t/\True)/\True)/\(1=1/\1=1/\m.c=p.1.c/\(↑m.at_:Int)=v/\m.sd=p.1.sd/\True)/\True)/\((w==1)=false->((B3 x.1 x.2=B3 s (6:Int)/\1=q.2.k/\B3 X.1 X.2=q.2.n/\[]=q.2.t/\w=p.2.k/\(U5 d).2.n=p.2.n/\(U5 d).2.t=p.2.t/\True)/\True)/\(1=1/\1=1/\j.c=p.1.c/\(↑j.at_:Int)=v/\j.sd=p.1.sd/\True)/\True))/\((g==2)=false->((w==1)=true->∃(X:(Src×List (Bz))),let b:=(X.2.length:Int);let u:=(U0 X.1 b);((y/\(3=X.2.length/\Z7 3 r (Z5 X.2))/\True)/\((rJ (U5 d).1 X.1)/\True)/\P8 X.1 1000000/\1<=X.2.length/\X.2.length<=256)/\((B3 x.1 x.2=B3 s (6:Int)/\g=q.2.k/\(U5 f).2.n=q.2.n/\(U5 f).2.t=q.2.t/\2=p.2.k/\0=p.2.n/\X.2.getD (B3 X.1 b).toNat []=p.2.t/\True)/\True)/\(1=1/\1=1/\u.c=p.1.c/\(↑u.at_:Int)=v/\u.sd=p.1.sd/\True)/\True)/\((w==1)=false->((B3 x.1 x.2=B3 s (6:Int)/\g=q.2.k/\(U5 f).2.n=q.2.n/\(U5 f).2.t=q.2.t/\w=p.2.k/\(U5 d).2.n=p.2.n/\(U5 d).2.t=p.2.t/\True)/\True)/\(1=1/\1=1/\(U5 d).1.c=p.1.c/\(↑(U5 d).1.at_:Int)=v/\(U5 d).1.sd=p.1.sd/\True)/\True))) ?_
 rw[A];refine⟨(s,6),⟨Q6,Z8,h.le Z9,i⟩,U0 s 6,⟨Z8,Z8,N.2.2.le Z9⟩,(U5 (U0 s 6)).1,⟨Z8,Z8,v.1.le Z9⟩,λhv=>?_,λhv=>?_⟩
 ·have hv:(U5 (U0 s 6)).2.k=2:=eq_of_beq hv;rw[c54 hv];refine⟨((U5 (U5 (U0 s 6)).1).1,9),⟨Q6,Z8,hA.le Z9,e9⟩,λhw=>?_,λhw=>?_⟩
  ·have hw:(U5 (U5 (U0 s 6)).1).2.k=1:=eq_of_beq hw;rw[c0V hw];refine⟨(U0 ((U5 (U5 (U0 s 6)).1).1) 9,nts),⟨⟨Z8,⟨rfl,a9d⟩,Z6⟩,Z8,w1.2.2.le Z9,(by decide:1<=nts.length),(by decide:nts.length<=256)⟩,?_⟩
   dsimp only;rw[g];exact Z8
  ·rw[c1c (fB hw)];exact Z8
 ·rw[c5h (fB hv)];refine⟨λhw=>?_,λhw=>?_⟩
  ·have hw:(U5 (U5 (U0 s 6)).1).2.k=1:=eq_of_beq hw;rw[c0V hw];refine⟨((U5 (U5 (U0 s 6)).1).1,nts),⟨⟨Z8,⟨rfl,a9d⟩,Z6⟩,Z8,hA.le Z9,(by decide:1<=nts.length),(by decide:nts.length<=256)⟩,?_⟩
   dsimp only;rw[g];exact Z8
  ·rw[c1c (fB hw)];exact Z8
def G9(L:List Rw)(i:Nat):List T:=(L.getD i dz).ts
def rwS(L:List Rw):T:=.sl 7 L.length (G9 L)
def c5y:Con:=.tmp
theorem b7n:GK 217 c5y:=gk func217<|trivial
theorem c6d(i:Nat):l8 (vts.getD i [])=true:=by
 match i with
 |0=>decide
 |1=>decide
 |2=>decide
 |3=>decide
 |4=>decide
 |5=>decide
 |n+6=>rfl
theorem c43(i:Nat):l8 (nts.getD i [])=true:=by
 match i with
 |0=>decide
 |1=>decide
 |2=>decide
 |n+3=>rfl
theorem b3C{s:Src}{m:Nat}(h:P8 s m):R3 (U5 s).2=true:=by
 have n1:=F7 h (n:=4) W6
 by_cases h0:B3 s 4=0
 ·rw[c2l h0];rfl
 ·by_cases h1:B3 s 4=1
  ·rw[c24 h1];exact c6d _
  ·rw[c13 h0 h1];have nn:=a84 n1.2.2 ((B3 (U0 (U0 (U0 s 4) 20) 20) 8).tdiv 2).toNat;unfold R3;dsimp only;rw[if_neg W6,if_pos rfl,R9.2 nn]
   rfl
theorem b7I{s:Src}{m:Nat}{v:Val}(h:P8 s m)(hv:R3 v=true):R3 (G3 s v).2=true/\(G3 s v).2.k≠2:=by
 have N:=F7 h (n:=9) W6
 unfold G3;split
 ·refine⟨?_,by show(1:Int)≠2;decide⟩
  unfold R3;dsimp only;rw[if_neg W6,if_pos rfl,R9.2 ⟨Z9,Z9⟩]
  rfl
 ·rename_i d;exact⟨hv,d⟩
theorem b7S{s:Src}{v:Val}(hv:R3 v=true):R3 (l7 s v).2=true/\(l7 s v).2.k≠1:=by
 unfold l7;split
 ·exact⟨c43 _,by show(2:Int)≠1;decide⟩
 ·rename_i h;exact⟨hv,h⟩
theorem b9T{s:Src}{m:Nat}(h:P8 s m):M0 (kL s).2=true:=by
 have N:=F7 h (n:=6) W6
 have V:=b3C N.2.2;have v:=b3C (fX N.2.2).1;obtain⟨A,d⟩:=b7I (b6A h) V;obtain⟨B,b2⟩:=b7S (s:=(G3 (F0 s) (U5 (U0 s 6)).2).1) v;unfold M0 kL;dsimp only;rw[A,B,R9.2 ⟨Z9,Z9⟩]
 simp only[Bool.true_and,Bool.and_true,M1,bne_iff_ne,ne_eq];exact⟨d,b2⟩
def rO:Eng:=⟨a6M,true,[],⟨[],[]⟩,1⟩
theorem jN{n:Nat}(h:1<=n):T7 a6M.d n=[]:=by
 show((o6 69).set 0 (hdB 1)).getD n []=[];rw[Q2,j_l Z9]
 unfold o6;rw[List.getElem?_replicate]
 split<;>rfl
theorem c4c:GInv a6M:=by
 have e:a6M.d.E.length=69:=by
  show((o6 69).set 0 (hdB 1)).length=69;rw[zN];exact List.length_replicate
 have pg:∀no,U4 a6M.d no=(⟨0,[[],[],[],[]]⟩,true):=λno=>by
  unfold U4;rw[if_pos (jN Z9)]
 refine⟨⟨rfl,rfl,e,λi hi=>?_,λi hi=>absurd hi (J9 _)⟩,N7 _,⟨W6,W6⟩,N7 _,D8.2 λi hi=>absurd hi (J9 _),⟨Int.le_refl _,Int.le_refl _⟩,λi hi=>absurd hi (J9 _),λno _=>by rw[pg];exact⟨rfl,Int.le_refl _⟩,N7 _,λi hi=>absurd hi (J9 _),λi j hi=>absurd hi (J9 _),λi hi=>absurd hi (J9 _),⟨Int.le_refl _,W6⟩,λi hi=>absurd hi (J9 _),λi _ _=>jN Z9⟩
 by_cases h:i=0
 ·subst h;show(((o6 69).set 0 (hdB 1)).getD 0 []).length<=160;rw[Q2]
  rw[j_j (by unfold o6;simp)]
  show 6<=160;decide
 ·have:a6M.d.E.getD i []=[]:=jN Z9
  rw[this];exact N7 _
theorem a9k:EI rO:=by
 refine⟨c4c,rfl,⟨⟨⟨N7 _,λi hi=>absurd hi (J9 _)⟩,λa d h=>by have h:a<=((0:Nat):Int):=h;omega⟩,N7 _,⟨Int.le_refl _,by show(1:Int)<=61;decide⟩,rfl,λi hi=>absurd hi (J9 _),λi j _ J=>absurd J (J9 _),λi hi=>absurd hi (J9 _),λi hi=>absurd hi (J9 _),λi hi=>absurd hi (J9 _),by show 0+0<=60;decide⟩⟩
end Go.Proofs.YtlbmgnomkjmafaaGreat
