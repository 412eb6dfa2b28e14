/- A part of the proof. -/
import Derived.Test.YtpdnnhnfongoeaaGreatE4
import Derived.Test.YtpdnnhnfongoeaaGreatSSW
import Derived.Test.YtpdnnhnfongoeaaGreatRows
import Derived.WalkKit
import Derived.ProofKit
import Derived.JoinedOf
import Derived.Handed
import Derived.WideWitness
namespace Go.Proofs.YtpdnnhnfongoeaaGreat
set_option maxRecDepth 100000
open Go.SS Go.Proofs.Tryz
noncomputable section
structure Val where
 k:Int
 n:Int
 t:Bz
 deriving Inhabited
def Val.ts(v:Val):List T:=[.int .i64 v.k,.int .i64 v.n,.str v.t]
structure Rw where
 id:Int
 n:Val
 name:Val
 deriving Inhabited
def Rw.ts(r:Rw):List T:=[.int .i64 r.id,.int .i64 r.n.k,.int .i64 r.n.n,.str r.n.t,.int .i64 r.name.k,.int .i64 r.name.n,.str r.name.t]
structure Chg where
 se:Int
 ta:Int
 row:Rw
 G:Bool
 deriving Inhabited
def Chg.ts(c:Chg):List T:=[.int .i64 c.se,.int .i64 c.ta,.int .i64 c.row.id,.int .i64 c.row.n.k,.int .i64 c.row.n.n,.str c.row.n.t,.int .i64 c.row.name.k,.int .i64 c.row.name.n,.str c.row.name.t,.bool c.G]
def a3r(c:UInt8):Bool:=decide (c.toNat≥97)&&decide (c.toNat<=122)
def mV(t:Bz)(i:Nat):Bool:= !a3r (t.getD i 0)
def xM(t:Bz):Bool:= !anyI t.length (mV t)&&decide (t.length<=10)
def P0(v:Val):Bool:=if v.k=0 then(v.n==0)&&(v.t==[]) else if v.k=1 then V6 v.n (-1000000000) 1000000000&&(v.t==[]) else(v.k==2)&&(v.n==0)&&xM v.t
def O2(r:Rw):Bool:=V6 r.id 0 1000&&P0 r.n&&(r.n.k !=2)&&P0 r.name&&(r.name.k !=1)
def fU:Rl:=⟨UInt8,λc=>[.int .u8 c.toNat],λc=>.bool (a3r c),λ_=>True⟩
def a6K:Con:=.rel fU
def a8v(c:UInt8)(h:
  (decide ((c.toNat:Int)≥(97:Int))&&decide ((c.toNat:Int)<=122))=a3r c):
  V4 prog 284 [.int .u8 c.toNat] (.bool (a3r c)):=
 U5 gN func284 Z3 h
def a25:GK 284 a6K:=gk func284<|λc _=>a8v c (by unfold a3r;congr 1<;>exact decide_eq_decide.2 Z9)
def cB(t:Bz):Prop:=L9 t.length
def b0k{p:Prop}(h:p:=by unfold cB L9;simp):p:=h
def a39:Rl:=⟨Bz,λt=>[.str t],λt=>.bool (xM t),cB⟩
def b5g:Con:=.rel a39
def b9v(t:Bz):Nat->Ann
 |0=>.one (V5 t.length (mV t)) (λx=>⟨[(0,.str t),(5,.int .i64 t.length),(6,.int .i64 x.1)],[]⟩) (λx=>t.length-x.1) [] [] (λ_=>Z3)
 |_=>.none
def b1T:GK 210 b5g:=gk func210<|by
 intro(t:Bz) (h:t.length<1000000000000);refine U5 (gC a25 gN) func210 (b9v t) (α:=let p:=(t.length:Int);(∃(x:V5 t.length (mV t)),(t=t/\p=p/\0=(x.1:Int)/\True)/\True)/\∀(x:V5 t.length (mV t)),let q:=(x.1:Int);bd (q<p) (W9 q t.length/\∃(X:fU.ι),(((↑(t.getD q.toNat (0:UInt8)).toNat:Int)=(↑(UInt8.toNat X):Int)/\True)/\True)/\br (!a3r X) (false=xM t) (Ri (q+1)/\∃(y:V5 t.length (mV t)),((t=t/\p=p/\q+1=(y.1:Int)/\True)/\True)/\Lt (t.length-y.1) (t.length-x.1))) (decide (p<=10)=xM t)) ⟨⟨F4,X7⟩,λx=>⟨λhc=>?_,λhc=>?_⟩⟩
 ·have hlt:=Y2 hc;refine⟨Y6 hlt,t.getD x.1 0,X7,λhp=>?_,λhp=>⟨W2 hlt Z9,x.succ hlt hp,⟨⟨rfl,rfl,I9,Z6⟩,Z6⟩,V5.ext_lt hlt⟩⟩
  have:anyI t.length (mV t)=true:=R9.2 ⟨x.1,hlt,hp⟩;unfold xM;rw[this];rfl
 ·have hge:=Y0 hc;have:anyI t.length (mV t)=false:=P5.2 λi hi=>x.2.2 i (xY hi hge)
  unfold xM;rw[this];show _=decide (t.length<=10);exact decide_eq_decide.2 Z9
def a76:Con:=.rel ⟨Int,λn=>[.int .i64 n],λn=>.bool (V6 n (-1000000000) 1000000000),λ_=>True⟩
def a6m(n:Int)(h:
  V6 n (-1000000000:Int) 1000000000=V6 n (-1000000000:Int) (1000000000:Int)):
  V4 prog 209 [.int .i64 n] (.bool (V6 n (-1000000000) 1000000000)):=
 U5 (gC O1 gN) func209 Z3 h
def a4X:GK 209 a76:=gk func209<|λn _=>a6m n rfl
def E7:Rl:=⟨Val,λv=>[.agg v.ts],λv=>.bool (P0 v),λv=>cB v.t⟩
def a7O:Con:=.rel E7
def a8o:Con:=.rel E7
def jS:GK 122 a7O:=gk func122<|by
 intro(v:Val) h;refine U5 (gC a4X (gC b1T gN)) func122 Z3 (α:=br (v.k==0) ((v.k==0&&(v.n==0&&(v.t==[]&&true)))=P0 v) (br (v.k==1) (∃(x:Int),((v.n=x/\True)/\True)/\(V6 x (-1000000000:Int) (1000000000:Int)&&v.t==[])=P0 v) (∃(x:a39.ι),((v.k==2&&v.n==0)=true->(v.t=x/\True)/\cB x)/\(v.k==2&&v.n==0&&xM x)=P0 v))) ⟨λh0=>?_,λh0=>⟨λe=>⟨v.n,X7,?_⟩,λe=>⟨v.t,λ_=>⟨X7,h⟩,?_⟩⟩⟩
 ·have h0':v.k=0:=by simpa using h0
  unfold P0;rw[if_pos h0',h0,Bool.true_and,Bool.and_true]
 ·have h0':v.k≠0:=by simpa using h0
  have d:v.k=1:=by simpa using e
  unfold P0;rw[if_neg h0',if_pos d]
 ·have h0':v.k≠0:=by simpa using h0
  have d:v.k≠1:=by simpa using e
  unfold P0;rw[if_neg h0',if_neg d]
def c7C(v:Val):Option Ob:=some (.arr true 1000000 3 1 λ_=>v.ts)
def a6l(v:Val):Nat->Ann
 |0=>.one (V5 v.t.length (mV v.t)) (λx=>⟨[(1,.ref 0 0 0),(3,.int .i64 x.1)],[c7C v]⟩) (λx=>v.t.length-x.1) [.box 0] [.box 0] (λ_=>Z3)
 |_=>.none
def c8n{v:Val}(h:v.k=2)(N:v.n=0)(l:v.t.length<=10):P0 v= !anyI v.t.length (mV v.t):=by
 unfold P0;rw[if_neg Z9,if_neg Z9,h,N]
 unfold xM;rw[mO l,Bool.and_true];rfl
def kB:GK 121 a8o:=gk func121<|by
 intro(v:Val) (h:v.t.length<1000000000000);refine U5 (gC z9 gN) func121 (a6l v) (α:=let r:=(false=P0 v);let p:=(1=1/\1=1/\v.k=v.k/\v.n=v.n/\v.t=v.t/\True);br (v.k==0) ((v.n==0&&v.t==[])=P0 v) (br (v.k==1) ((V6 v.n (-1000000000:Int) (1000000000:Int)&&v.t==[])=P0 v) (br (v.k==2) (br (v.n !=0||decide ((v.t.length:Int)>10)) r ((∃(x:V5 v.t.length (mV v.t)),((0=0/\0=0)/\0=(x.1:Int)/\True)/\p/\True)/\∀(x:V5 v.t.length (mV v.t)),let q:=(x.1:Int);bd (q<(v.t.length:Int)) (W9 q v.t.length/\br (!V6 (IntKind.i64.wrap (↑(v.t.getD q.toNat (0:UInt8)).toNat:Int)) (97:Int) (122:Int)) r (Ri (q+1)/\∃(y:V5 v.t.length (mV v.t)),(((0=0/\0=0)/\q+1=(y.1:Int)/\True)/\p/\True)/\Lt (v.t.length-y.1) (v.t.length-x.1))) (true=P0 v))) r))) ⟨λh0=>?_,λh0=>⟨λf=>?_,λf=>⟨λh2=>⟨λhb=>?_,λhb=>?_⟩,λh2=>?_⟩⟩⟩
 ·have h0':v.k=0:=by simpa using h0
  unfold P0;rw[if_pos h0']
 ·have h0':v.k≠0:=by simpa using h0
  have d:v.k=1:=by simpa using f
  unfold P0;rw[if_neg h0',if_pos d]
 ·have h2':v.k=2:=by simpa using h2
  unfold P0 xM;rw[if_neg Z9,if_neg Z9]
  simp only[nT,bne_iff_ne,o8] at hb;by_cases hn:v.n=0
  ·rw[tQ (p:=v.t.length<=10) (by rcases hb with hb|hb<;>omega)]
   simp
  ·rw[show(v.n==0)=false by simpa using hn]
   simp
 ·have h2':v.k=2:=by simpa using h2
  simp only[wS,bne_eq_false_iff_eq,uH] at hb;obtain⟨hn,l⟩:=hb;have e:=c8n h2' hn Z9
  refine⟨⟨F4,X7⟩,λx=>⟨λhc=>?_,λhc=>?_⟩⟩
  ·have hlt:=Y2 hc;rw[uN,E3,show V6 ((v.t.getD x.1 0).toNat:Int) 97 122=a3r (v.t.getD x.1 0) by unfold V6 a3r;congr 1<;>exact decide_eq_decide.2 Z9]
   refine⟨Y6 hlt,λhp=>?_,λhp=>⟨W2 hlt Z9,x.succ hlt hp,⟨⟨X7,I9,Z6⟩,X7⟩,V5.ext_lt hlt⟩⟩
   have:anyI v.t.length (mV v.t)=true:=R9.2 ⟨x.1,hlt,hp⟩;rw[e,this];rfl
  ·have hge:=Y0 hc;have:anyI v.t.length (mV v.t)=false:=P5.2 λi hi=>x.2.2 i (xY hi hge)
   rw[e,this];rfl
 ·have h0':v.k≠0:=by simpa using h0
  have d:v.k≠1:=by simpa using f
  unfold P0;rw[if_neg h0',if_neg d,h2];rfl
def b1s:Con:=.rel ⟨Int,λn=>[.int .i64 n],λn=>.bool (V6 n 1 3),λ_=>True⟩
def b3O(n:Int)(h:
  V6 n (1:Int) 3=V6 n (1:Int) (3:Int)):
  V4 prog 40 [.int .i64 n] (.bool (V6 n 1 3)):=
 U5 (gC O1 gN) func40 Z3 h
def fI:GK 40 b1s:=gk func40<|λn _=>b3O n rfl
def c7I:Con:=.rel ⟨Int,λn=>[.int .i64 n],λn=>.bool (V6 n 0 1000),λ_=>True⟩
def c68(n:Int)(h:
  V6 n (0:Int) 1000=V6 n (0:Int) (1000:Int)):
  V4 prog 41 [.int .i64 n] (.bool (V6 n 0 1000)):=
 U5 (gC O1 gN) func41 Z3 h
def c3f:GK 41 c7I:=gk func41<|λn _=>c68 n rfl
def RwB(r:Rw):Prop:=cB r.n.t/\cB r.name.t
def rB:Rl:=⟨Rw,λr=>[.agg r.ts],λr=>.bool (O2 r),RwB⟩
def c1v:Con:=.rel rB
def b6K:Con:=.rel rB
def a5J:GK 60 c1v:=gk func60<|by
 rintro(r:Rw) ⟨h1,h2⟩;exact U5 (gC c3f (gC jS gN)) func60 Z3 (α:=∃(x:Int),((r.id=x/\True)/\True)/\∃(X:E7.ι),(V6 x (0:Int) 1000=true->((r.n.k=X.k/\r.n.n=X.n/\r.n.t=X.t/\True)/\True)/\cB X.t)/\∃(d:E7.ι),((V6 x (0:Int) (1000:Int)&&P0 X&&r.n.k !=2)=true->((r.name.k=d.k/\r.name.n=d.n/\r.name.t=d.t/\True)/\True)/\cB d.t)/\(V6 x (0:Int) (1000:Int)&&P0 X&&r.n.k !=2&&P0 d&&r.name.k !=1)=O2 r) ⟨r.id,X7,r.n,λ_=>⟨X7,h1⟩,r.name,λ_=>⟨X7,h2⟩,rfl⟩
def a0Q:GK 57 b6K:=gk func57<|by
 rintro(r:Rw) ⟨h1,h2⟩;refine U5 (gC z9 (gC kB gN)) func57 Z3 (α:=∃(x:E7.ι),(V6 r.id (0:Int) 1000=true->((r.n.k=x.k/\r.n.n=x.n/\r.n.t=x.t/\True)/\True)/\cB x.t)/\∃(X:E7.ι),((V6 r.id (0:Int) (1000:Int)&&P0 x)=true->((r.name.k=X.k/\r.name.n=X.n/\r.name.t=X.t/\True)/\True)/\cB X.t)/\(V6 r.id (0:Int) (1000:Int)&&P0 x&&P0 X&&r.n.k !=2&&r.name.k !=1)=O2 r) ⟨r.n,λ_=>⟨X7,h1⟩,r.name,λ_=>⟨X7,h2⟩,?_⟩
 unfold O2;generalize V6 r.id 0 1000=a;generalize P0 r.n=b;generalize (r.n.k !=2)=c;generalize P0 r.name=d;cases a<;>cases b<;>cases c<;>cases d<;>rfl
structure Lck where
 tx:Int
 ta:Int
 row:Int
 mo:Int
 deriving Inhabited
def Lck.ts(l:Lck):List T:=[.int .i64 l.tx,.int .i64 l.ta,.int .i64 l.row,.int .i64 l.mo]
structure Wt where
 tx:Int
 fo:Int
 deriving Inhabited
def Wt.ts(w:Wt):List T:=[.int .i64 w.tx,.int .i64 w.fo]
def Z2(L:List Lck)(i:Nat):List T:=(L.getD i dz).ts
def wN(L:List Lck):T:=.sl 4 L.length (Z2 L)
def Y7(L:List Wt)(i:Nat):List T:=(L.getD i dz).ts
def nG(L:List Wt):T:=.sl 2 L.length (Y7 L)
structure Lks where
 H:List Lck
 W:List Wt
 deriving Inhabited
def Lks.ts(l:Lks):List T:=[wN l.H,nG l.W]
def a2e(l:Lks):Option Ob:=some (.arr true 1000000 2 1 λ_=>l.ts)
def nA(a b:Int):Bool:=(a !=4)&&(b !=4)&&((a==1)||(b==1)||(a==b))
def dP(a b:Lck):Bool:=(a.tx==b.tx)&&((a.ta==b.ta)&&((a.row==b.row)&&((a.mo==b.mo)&&true)))
def rY(a b:Lck):Bool:=(a.ta==b.ta)&&(a.row==b.row)
def clash(a b:Lck):Bool:=(a.tx !=b.tx)&&rY a b&& !nA a.mo b.mo
def rJ(l:Lck):Bool:=V6 l.tx 1 60&&V6 l.ta 1 3&&V6 l.row (-1) 1000&&V6 l.mo 1 4&&(decide (l.row<0)||decide (l.mo≥3))
def vJ(L:List Lck)(a:Lck)(k:Nat):Bool:=dP a (L.getD k dz)||clash a (L.getD k dz)
def x1(L:List Lck)(i:Nat):Bool:= !rJ (L.getD i dz)||anyI i (vJ L (L.getD i dz))
def w9(L:List Wt)(i:Nat):Bool:= !V6 (L.getD i dz).tx 1 60|| !V6 (L.getD i dz).fo 1 60||((L.getD i dz).tx==(L.getD i dz).fo)
def B8(l:Lks):Bool:= !anyI l.H.length (x1 l.H)&&(decide (l.H.length<=60)&&decide (l.W.length<=100)&& !anyI l.W.length (w9 l.W))
def b7Z(l:Lks):Prop:=L9 l.H.length/\L9 l.W.length
def b84:Con:=.rel ⟨Int,λn=>[.int .i64 n],λn=>.bool (V6 n 1 4),λ_=>True⟩
def b5w(n:Int)(h:
  V6 n (1:Int) 4=V6 n (1:Int) (4:Int)):
  V4 prog 362 [.int .i64 n] (.bool (V6 n 1 4)):=
 U5 (gC O1 gN) func362 Z3 h
def b2F:GK 362 b84:=gk func362<|λn _=>b5w n rfl
def c5S:Con:=.rel ⟨Int,λn=>[.int .i64 n],λn=>.bool (V6 n 1 60),λ_=>True⟩
def c8i(n:Int)(h:
  V6 n (1:Int) 60=V6 n (1:Int) (60:Int)):
  V4 prog 314 [.int .i64 n] (.bool (V6 n 1 60)):=
 U5 (gC O1 gN) func314 Z3 h
def b0q:GK 314 c5S:=gk func314<|λn _=>c8i n rfl
def b8C:Con:=.rel ⟨Lck,λl=>[.agg l.ts],λl=>.bool (rJ l),λ_=>True⟩
def b8O(l:Lck)(h:
  ∃(x:Int),((l.tx=x/\True)/\True)/\∃(X:Int),((V6 x (1:Int) (60:Int)&&V6 l.ta (1:Int) (3:Int)&&V6 l.row (-1:Int) (1000:Int))=true->(l.mo=X/\True)/\True)/\(V6 x (1:Int) (60:Int)&&V6 l.ta (1:Int) (3:Int)&&V6 l.row (-1:Int) (1000:Int)&&V6 X (1:Int) (4:Int)&&(decide (l.row<0)||decide (l.mo≥(3:Int))))=rJ l):
  V4 prog 311 [.agg l.ts] (.bool (rJ l)):=
 U5 (gC b0q (gC O1 (gC b2F gN))) func311 Z3 h
def b4z:GK 311 b8C:=gk func311<|λl _=>b8O l ⟨l.tx,X7,l.mo,λ_=>X7,rfl⟩
def b82:Con:=.rel ⟨Lck,λl=>l.ts,λl=>.bool (rJ l),λ_=>True⟩
def b1R:GK 162 b82:=gk func162<|by
 intro(l:Lck) _;refine U5 (gC z9 gN) func162 Z3 (α:=(V6 l.tx (1:Int) (60:Int)&&V6 l.ta (1:Int) (3:Int)&&V6 l.row (-1:Int) (1000:Int)&&V6 l.mo (1:Int) (4:Int)&&(l.row==(-1:Int)||decide (l.mo≥(3:Int))))=rJ l) ?_
 unfold rJ;cases h:V6 l.row (-1) 1000
 ·simp
 ·have d:=h;unfold V6 at d;simp only[J5,o8] at d;rw[show(l.row== -1)=decide (l.row<0) by rw[Bool.eq_iff_iff,beq_iff_eq,o8];omega]
def eU:Con:=.rel ⟨Int×Int,λx=>[.int .i64 x.1,.int .i64 x.2],λx=>.bool (nA x.1 x.2),λ_=>True⟩
def b9K:Con:=eU
def a8K(a b:Int)(h:
  (a !=4&&b !=4&&(a==1||b==1||a==b))=nA a b):
  V4 prog 342 [.int .i64 a,.int .i64 b] (.bool (nA a b)):=
 U5 gN func342 Z3 h
def a40:GK 342 eU:=gk func342<|λx _=>a8K x.1 x.2 rfl
def a0c:GK 163 b9K:=gk func163<|by
 rintro⟨a,b⟩ _;refine U5 gN func163 Z3 (α:=br (a==4||b==4) (false=nA a b) (br (a==1||b==1) (true=nA a b) ((a==b)=nA a b))) ⟨λh=>?_,λh=>⟨λg=>?_,λg=>?_⟩⟩<;>unfold nA<;>simp at*
 ·intro d e;rcases h with h|h<;>omega
 ·exact⟨h,by rcases g with g|g<;>simp[g]⟩
 ·rw[show(a !=4)=true by simpa using h.1,show(b !=4)=true by simpa using h.2,show(a==1)=false by simpa using g.1,show(b==1)=false by simpa using g.2]
  rfl
def a1M:Con:=.rel ⟨Lck×Lck,λx=>[.agg x.1.ts,.agg x.2.ts],λx=>.bool (rY x.1 x.2),λ_=>True⟩
def a2m(a b:Lck)(h:
  (a.ta==b.ta&&a.row==b.row)=rY a b):
  V4 prog 341 [.agg a.ts,.agg b.ts] (.bool (rY a b)):=
 U5 gN func341 Z3 h
def pM:GK 341 a1M:=gk func341<|λx _=>a2m x.1 x.2 rfl
def b4j:Con:=.rel ⟨Lck×Lck,λx=>[.agg x.1.ts,.agg x.2.ts],λx=>.bool (clash x.1 x.2),λ_=>True⟩
def b31(a b:Lck)(h:
  ∃(x:(Lck×Lck)),((a.tx !=b.tx)=true->((a.tx=x.1.tx/\a.ta=x.1.ta/\a.row=x.1.row/\a.mo=x.1.mo/\True)/\(b.tx=x.2.tx/\b.ta=x.2.ta/\b.row=x.2.row/\b.mo=x.2.mo/\True)/\True)/\True)/\∃(X:(Int×Int)),((a.tx !=b.tx&&rY x.1 x.2)=true->(a.mo=X.1/\b.mo=X.2/\True)/\True)/\(a.tx !=b.tx&&rY x.1 x.2&& !nA X.1 X.2)=clash a b):
  V4 prog 288 [.agg a.ts,.agg b.ts] (.bool (clash a b)):=
 U5 (gC pM (gC a40 gN)) func288 Z3 h
def cD:GK 288 b4j:=gk func288<|λx _=>b31 x.1 x.2 ⟨(x.1,x.2),λ_=>X7,(x.1.mo,x.2.mo),λ_=>X7,rfl⟩
def a70:Con:=.rel ⟨Lck×Lck,λx=>[.agg x.2.ts,.bref x.1.ts],λx=>.bool (dP x.1 x.2||clash x.1 x.2),λ_=>True⟩
def a60(a b:Lck)(h:
let p:=(a.ta==b.ta&&(a.row==b.row&&(a.mo==b.mo&&true)));  ∃(x:(Lck×Lck)),((a.tx==b.tx&&p)=false->((a.tx=x.1.tx/\a.ta=x.1.ta/\a.row=x.1.row/\a.mo=x.1.mo/\True)/\(b.tx=x.2.tx/\b.ta=x.2.ta/\b.row=x.2.row/\b.mo=x.2.mo/\True)/\True)/\True)/\(a.tx==b.tx&&p||clash x.1 x.2)=(dP a b||clash a b)):
  V4 prog 312 [.agg b.ts,.bref a.ts] (.bool (dP a b||clash a b)):=
 U5 (gC cD gN) func312 Z3 h
def a3N:GK 312 a70:=gk func312<|λx _=>a60 x.1 x.2 ⟨(x.1,x.2),λ_=>X7,rfl⟩
def c1H(a:Lck):T:=.fn (.func 312) [.bref a.ts]
def b3S:Con:=.rel ⟨List Lck×Nat×Lck,λx=>[.sl 4 x.2.1 (Z2 x.1),c1H x.2.2],λx=>.int .i64 (S6 x.2.1 (vJ x.1 x.2.2)),λx=>L9 x.2.1⟩
def b1I(L:List Lck)(n:Nat)(a:Lck):Nat->Ann
 |0=>.one (V5 n (vJ L a)) (λx=>⟨[(0,.sl 4 n (Z2 L)),(1,c1H a),(7,.int .i64 n),(8,.int .i64 x.1)],[]⟩) (λx=>n-x.1) [] [] (λ_=>Z3)
 |_=>.none
def a7c:GK 316 b3S:=gk func316<|by
 rintro⟨L,n,a⟩ (hL:n<1000000000000);refine U5 (gC a3N gN) func316 (b1I L n a) (α:=let z:=(n=n/\Z7 n (Z2 L) (Z2 L));let p:=(T.bref [Ji a.tx,Ji a.ta,Ji a.row,Ji a.mo]);(∃(x:V5 n (vJ L a)),(z/\(Fn.func 312=Fn.func 312/\J7 (λ(x:Nat)=>none) p p/\True)/\(n:Int)=(n:Int)/\0=(x.1:Int)/\True)/\True)/\∀(x:V5 n (vJ L a)),let r:=(x.1:Int);let q:=(L.getD r.toNat dz);bd (r<(n:Int)) (W9 r n/\∃(X:(Lck×Lck)),(((q.tx=X.2.tx/\q.ta=X.2.ta/\q.row=X.2.row/\q.mo=X.2.mo/\True)/\(a.tx=X.1.tx/\a.ta=X.1.ta/\a.row=X.1.row/\a.mo=X.1.mo/\True)/\True)/\True)/\br (dP X.1 X.2||clash X.1 X.2) (r=S6 n (vJ L a)) (Ri (r+1)/\∃(y:V5 n (vJ L a)),((z/\(Fn.func 312=Fn.func 312/\J7 (λ(x:Nat)=>none) p p/\True)/\(n:Int)=(n:Int)/\r+1=(y.1:Int)/\True)/\True)/\Lt (n-y.1) (n-x.1))) ((-1:Int)=S6 n (vJ L a))) ⟨⟨F4,⟨X7,⟨rfl,U0 _,Z6⟩,X7⟩,Z6⟩,λx=>⟨λC=>?_,λC=>?_⟩⟩
 ·have h:=Y2 C;refine⟨Y6 h,(a,L.getD x.1 dz),X7,λhp=>(N9 h hp x.2.2).symm,λhp=>⟨W2 h Z9,x.succ h hp,⟨⟨X7,⟨rfl,U0 _,Z6⟩,rfl,I9,Z6⟩,Z6⟩,V5.ext_lt h⟩⟩
 ·have e:=Y0 C;exact(K2 λj J=>x.2.2 j (xY J e)).symm
def b1o:Con:=.rel ⟨List Lck×Nat×Lck,λx=>[.sl 4 x.2.1 (Z2 x.1),c1H x.2.2],λx=>.bool (anyI x.2.1 (vJ x.1 x.2.2)),λx=>L9 x.2.1⟩
def b2g(L:List Lck)(n:Nat)(a:Lck)(h:
  ∃(x:(List Lck×Nat×Lck)),(((n=x.2.1/\Z7 n (Z2 L) (Z2 x.1))/\(Fn.func 312=Fn.func 312/\(a.tx=x.2.2.tx/\a.ta=x.2.2.ta/\a.row=x.2.2.row/\a.mo=x.2.2.mo/\True)/\True)/\True)/\L9 x.2.1)/\decide (S6 x.2.1 (vJ x.1 x.2.2)≥(0:Int))=anyI n (vJ L a)):
  V4 prog 232 [.sl 4 n (Z2 L),c1H a] (.bool (anyI n (vJ L a))):=
 U5 (gC a7c gN) func232 Z3 h
def a8r:GK 232 b1o:=gk func232<|λx h=>b2g x.1 x.2.1 x.2.2 ⟨x,⟨X7,h⟩,C9 _ _⟩
def a7q:Con:=.rel ⟨List Wt×Nat,λx=>[.agg (x.1.getD x.2 dz).ts],λx=>.bool (w9 x.1 x.2),λ_=>True⟩
def a6N(L:List Wt)(i:Nat)(h:
let p:=(L.getD i dz);  ∃(x:Int),((p.tx=x/\True)/\True)/\∃(X:Int),((!V6 x (1:Int) (60:Int))=false->(p.fo=X/\True)/\True)/\(!V6 x (1:Int) (60:Int)|| !V6 X (1:Int) (60:Int)||p.tx==p.fo)=w9 L i):
  V4 prog 313 [.agg (L.getD i dz).ts] (.bool (w9 L i)):=
 U5 (gC b0q gN) func313 Z3 h
def a3v:GK 313 a7q:=gk func313<|λx _=>a6N x.1 x.2 ⟨_,X7,_,λ_=>X7,rfl⟩
def b9U:Con:=.rel ⟨List Wt,λL=>[nG L,fnT 313],λL=>.int .i64 (S6 L.length (w9 L)),λL=>L9 L.length⟩
def b6P(L:List Wt):Nat->Ann
 |0=>.one (V5 L.length (w9 L)) (λx=>⟨[(0,nG L),(1,fnT 313),(7,.int .i64 L.length),(8,.int .i64 x.1)],[]⟩) (λx=>L.length-x.1) [] [] (λ_=>Z3)
 |_=>.none
def b3G:GK 317 b9U:=gk func317<|by
 intro(L:List Wt) (hL:L.length<1000000000000);refine U5 (gC a3v gN) func317 (b6P L) (α:=let r:=(Fn.func 313);let q:=(L.length:Int);(∃(x:V5 L.length (w9 L)),((Z0 Y7 L L)/\Value.func r #[] #[]=Value.func r #[] #[]/\q=q/\0=(x.1:Int)/\True)/\True)/\∀(x:V5 L.length (w9 L)),let p:=(x.1:Int);let z:=(L.getD p.toNat dz);bd (p<q) (W9 p L.length/\∃(X:(List Wt×Nat)),(((z.tx=(X.1.getD X.2 dz).tx/\z.fo=(X.1.getD X.2 dz).fo/\True)/\True)/\True)/\br (w9 X.1 X.2) (p=S6 L.length (w9 L)) (Ri (p+1)/\∃(y:V5 L.length (w9 L)),(((Z0 Y7 L L)/\Value.func r #[] #[]=Value.func r #[] #[]/\q=q/\p+1=(y.1:Int)/\True)/\True)/\Lt (L.length-y.1) (L.length-x.1))) ((-1:Int)=S6 L.length (w9 L))) ⟨⟨F4,X7⟩,λx=>⟨λC=>?_,λC=>?_⟩⟩
 ·have h:=Y2 C;refine⟨Y6 h,(L,x.1),X7,λhp=>(N9 h hp x.2.2).symm,λhp=>⟨W2 h Z9,x.succ h hp,⟨⟨X7,rfl,rfl,I9,Z6⟩,Z6⟩,V5.ext_lt h⟩⟩
 ·have e:=Y0 C;exact(K2 λj J=>x.2.2 j (xY J e)).symm
def c0i:Con:=.rel ⟨List Wt,λL=>[nG L,fnT 313],λL=>.bool (anyI L.length (w9 L)),λL=>L9 L.length⟩
def b72(L:List Wt)(h:
  ∃(x:(List Wt)),(((Z0 Y7 L x)/\Value.func (Fn.func 313) #[] #[]=Value.func (Fn.func 313) #[] #[]/\True)/\L9 (x.length))/\decide (S6 (x.length) (w9 x)≥(0:Int))=anyI L.length (w9 L)):
  V4 prog 234 [nG L,fnT 313] (.bool (anyI L.length (w9 L))):=
 U5 (gC b3G gN) func234 Z3 h
def b2c:GK 234 c0i:=gk func234<|λ(L:List Wt) hL=>b72 L ⟨L,⟨X7,hL⟩,C9 _ _⟩
def qW:Rl:=⟨Lks,λl=>[.agg l.ts],λl=>.bool (B8 l),b7Z⟩
def a56:Con:=.rel qW
def a7A:Con:=.rel qW
def a8f(l:Lks):Nat->Ann
 |0=>.one (V5 l.H.length (x1 l.H)) (λx=>⟨[(1,.ref 0 0 0),(6,wN l.H),(7,.int .i64 l.H.length),(8,.int .i64 x.1)],[a2e l]⟩) (λx=>l.H.length-x.1) [.box 0] [.box 0] (λ_=>Z3)
 |_=>.none
def a3a:GK 230 a56:=gk func230<|by
 rintro(l:Lks) ⟨h,hw⟩;have h:l.H.length<1000000000000:=h;refine U5 (gC b4z (gC a8r (gC b2c gN))) func230 (a8f l) (α:=let v:=((l.W.length:Int)<=100);let u:=(Z0 Z2 l.H l.H);let z:=(1=1/\1=1/\u/\(Z0 Y7 l.W l.W)/\True);let q:=(l.H.length:Int);(∃(x:V5 l.H.length (x1 l.H)),((0=0/\0=0)/\u/\q=q/\0=(x.1:Int)/\True)/\z/\True)/\∀(x:V5 l.H.length (x1 l.H)),let r:=(x.1:Int);let p:=(l.H.getD r.toNat dz);bd (r<q) (W9 r l.H.length/\∃(d:Lck),(((p.tx=d.tx/\p.ta=d.ta/\p.row=d.row/\p.mo=d.mo/\True)/\True)/\True)/\((!rJ d)=false->jX r l.H.length)/\∃(X:(List Lck×Nat×Lck)),((!rJ d)=false->((r.toNat=X.2.1/\Z7 r.toNat (Z2 l.H) (Z2 X.1))/\(Fn.func 312=Fn.func 312/\(p.tx=X.2.2.tx/\p.ta=X.2.2.ta/\p.row=X.2.2.row/\p.mo=X.2.2.mo/\True)/\True)/\True)/\L9 X.2.1)/\br (!rJ d||anyI X.2.1 (vJ X.1 X.2.2)) (false=B8 l) (Ri (r+1)/\∃(y:V5 l.H.length (x1 l.H)),(((0=0/\0=0)/\u/\q=q/\r+1=(y.1:Int)/\True)/\z/\True)/\Lt (l.H.length-y.1) (l.H.length-x.1))) (∃(x:(List Wt)),((decide (q<=60)&&decide v)=true->((Z0 Y7 l.W x)/\Value.func (Fn.func 313) #[] #[]=Value.func (Fn.func 313) #[] #[]/\True)/\L9 (x.length))/\(decide (q<=60)&&decide v&& !anyI (x.length) (w9 x))=B8 l)) ⟨⟨F4,X7⟩,λx=>⟨λhc=>?_,λhc=>?_⟩⟩
 ·have hlt:=Y2 hc;refine⟨Y6 hlt,l.H.getD x.1 dz,X7,λ_=>⟨Z9,Z9⟩,(l.H,x.1,l.H.getD x.1 dz),λ_=>⟨⟨⟨M0,X6 _ _⟩,X7⟩,by show x.1<1000000000000;omega⟩,λhb=>?_,λhb=>⟨W2 hlt Z9,x.succ hlt hb,⟨⟨X7,X7,rfl,I9,Z6⟩,X7⟩,V5.ext_lt hlt⟩⟩
  have:anyI l.H.length (x1 l.H)=true:=R9.2 ⟨x.1,hlt,hb⟩;unfold B8;rw[this];rfl
 ·have hge:=Y0 hc;have:anyI l.H.length (x1 l.H)=false:=P5.2 λi hi=>x.2.2 i (xY hi hge)
  refine⟨l.W,λ_=>⟨X7,hw⟩,?_⟩
  unfold B8;rw[this,Bool.not_false,Bool.true_and];congr 2<;>exact decide_eq_decide.2 Z9
def c5h(L:List Lck)(a:Lck)(k:Nat):Bool:=(a.ta==(L.getD k dz).ta)&&(a.row==(L.getD k dz).row)&&(dP a (L.getD k dz)||(a.tx !=(L.getD k dz).tx)&& !nA a.mo (L.getD k dz).mo)
def a78(l:Lks):Nat->Ann
 |0=>.one (V5 l.H.length (x1 l.H)) (λx=>⟨[(1,.ref 0 0 0),(3,.int .i64 x.1)],[a2e l]⟩) (λx=>l.H.length-x.1) [.box 0] [.box 0] (λx=>fun
  |1=>.one (V5 x.1 (vJ l.H (l.H.getD x.1 dz))) (λy=>⟨[(1,.ref 0 0 0),(3,.int .i64 x.1),(4,.ref 1 0 0),(5,.int .i64 y.1)],[a2e l,some (.arr true 1000000 4 1 λ_=>(l.H.getD x.1 dz).ts)]⟩) (λy=>x.1-y.1) iQ iQ (λ_=>Z3)
  |2=>.one (V5 l.W.length (w9 l.W)) (λy=>⟨[(1,.ref 0 0 0),(7,.int .i64 y.1)],[a2e l]⟩) (λy=>l.W.length-y.1) [.box 0] [.box 0] (λ_=>Z3)
  |_=>.none)
 |_=>.none
def b5X(L:List Lck)(a:Lck)(k:Nat):c5h L a k=vJ L a k:=by
 unfold c5h vJ clash dP rY;generalize (a.ta==(L.getD k dz).ta)=p;generalize (a.row==(L.getD k dz).row)=q;generalize (a.mo==(L.getD k dz).mo)=r;generalize nA a.mo (L.getD k dz).mo=t;rw[show(a.tx !=(L.getD k dz).tx)= !(a.tx==(L.getD k dz).tx) from rfl]
 generalize (a.tx==(L.getD k dz).tx)=u;cases p<;>cases q<;>cases r<;>cases t<;>cases u<;>rfl
def a5T:GK 73 a7A:=gk func73<|by
 rintro(l:Lks) ⟨L,W⟩;have L:l.H.length<1000000000000:=L;have W:l.W.length<1000000000000:=W;have bh:∀i,i<l.H.length->x1 l.H i=true->false=B8 l:=λi hi hb=>by
  have:anyI l.H.length (x1 l.H)=true:=R9.2 ⟨i,hi,hb⟩;unfold B8;rw[this];rfl
 refine U5 (gC b1R (gC a0c (gC z9 gN))) func73 (a78 l) (α:=let n:=(false=B8 l);let w:=(0=0/\0=0);let r:=(1=1/\1=1/\(Z0 Z2 l.H l.H)/\(Z0 Y7 l.W l.W)/\True);br (decide ((l.H.length:Int)>60)||decide ((l.W.length:Int)>100)) n ((∃(x:V5 l.H.length (x1 l.H)),(w/\0=(x.1:Int)/\True)/\r/\True)/\∀(x:V5 l.H.length (x1 l.H)),let v:=(x.1:Int);let z:=(l.H.getD v.toNat dz);let p:=(l.H.getD x.1 dz);bd (v<(l.H.length:Int)) (W9 v l.H.length/\∃(d:Lck),((z.tx=d.tx/\z.ta=d.ta/\z.row=d.row/\z.mo=d.mo/\True)/\True)/\br (!rJ d) n ((∃(X:V5 x.1 (vJ l.H (l.H.getD x.1 dz))),(w/\v=v/\w/\0=(X.val:Int)/\True)/\r/\(1=1/\1=1/\z.tx=p.tx/\z.ta=p.ta/\z.row=p.row/\z.mo=p.mo/\True)/\True)/\∀(X:V5 x.1 (vJ l.H (l.H.getD x.1 dz))),let k:=(X.val:Int);let q:=(l.H.getD k.toNat dz);let j:=(p.ta==q.ta&&(p.row==q.row&&(p.mo==q.mo&&true)));bd (k<v) (W9 k l.H.length/\∃(e:(Int×Int)),((p.ta==q.ta&&p.row==q.row)=true->(p.tx==q.tx&&j)=false->(p.tx !=q.tx)=true->(p.mo=e.1/\q.mo=e.2/\True)/\True)/\br (p.ta==q.ta&&p.row==q.row&&(p.tx==q.tx&&j||p.tx !=q.tx&& !nA e.1 e.2)) n (Ri (k+1)/\∃(y:V5 x.1 (vJ l.H (l.H.getD x.1 dz))),((w/\v=v/\w/\k+1=(y.1:Int)/\True)/\r/\(1=1/\1=1/\p.tx=p.tx/\p.ta=p.ta/\p.row=p.row/\p.mo=p.mo/\True)/\True)/\Lt (x.1-y.1) (x.1-X.val))) (Ri (v+1)/\∃(y:V5 l.H.length (x1 l.H)),((w/\v+1=(y.1:Int)/\True)/\r/\True)/\Lt (l.H.length-y.1) (l.H.length-x.1)))) ((∃(x:V5 l.W.length (w9 l.W)),(w/\0=(x.1:Int)/\True)/\r/\True)/\∀(x:V5 l.W.length (w9 l.W)),let m:=(x.1:Int);let u:=(l.W.getD m.toNat dz);bd (m<(l.W.length:Int)) (W9 m l.W.length/\br (!V6 u.tx (1:Int) (60:Int)|| !V6 u.fo (1:Int) (60:Int)||u.tx==u.fo) n (Ri (m+1)/\∃(y:V5 l.W.length (w9 l.W)),((w/\m+1=(y.1:Int)/\True)/\r/\True)/\Lt (l.W.length-y.1) (l.W.length-x.1))) (true=B8 l)))) ⟨λh=>?_,λh=>⟨⟨F4,X7⟩,λx=>⟨λhc=>?_,λhc=>⟨⟨F4,X7⟩,λy=>⟨λhy=>?_,λhy=>?_⟩⟩⟩⟩⟩
 ·simp only[nT,o8] at h;unfold B8;rcases h with h|h
  ·rw[tQ (p:=l.H.length<=60) Z9]
   simp
  ·rw[tQ (p:=l.W.length<=100) Z9]
   simp
 ·have hlt:=Y2 hc;refine⟨Y6 hlt,l.H.getD x.1 dz,X7,λhb=>bh _ hlt (by unfold x1;rw[hb];rfl),λhb=>⟨⟨F4,X7⟩,λy=>⟨λhy=>?_,λhy=>?_⟩⟩⟩
  ·have hyt:=Y2 hy;refine⟨Y6 Z9,((l.H.getD x.1 dz).mo,(l.H.getD y.1 dz).mo),λ_ _ _=>X7,λhq=>?_,λhq=>⟨W2 hyt Z9,y.succ hyt ((b5X _ _ _).symm.trans hq),⟨⟨X7,rfl,X7,I9,Z6⟩,X7⟩,V5.ext_lt hyt⟩⟩
   refine bh _ hlt ?_
   unfold x1;have:anyI x.1 (vJ l.H (l.H.getD x.1 dz))=true:=R9.2 ⟨y.1,hyt,(b5X _ _ _).symm.trans hq⟩;rw[this,Bool.or_true]
  ·have hge:=Y0 hy;have:anyI x.1 (vJ l.H (l.H.getD x.1 dz))=false:=P5.2 λi hi=>y.2.2 i (xY hi hge)
   exact⟨W2 hlt Z9,x.succ hlt (by unfold x1;rw[hb,this];rfl),⟨⟨⟨rfl,rfl⟩,I9,Z6⟩,⟨rfl,rfl,⟨rfl,X6 _ _⟩,⟨rfl,X6 _ _⟩,Z6⟩,Z6⟩,V5.ext_lt hlt⟩
 ·have hlt:=Y2 hy;refine⟨Y6 hlt,λhq=>?_,λhq=>⟨W2 hlt Z9,y.succ hlt hq,⟨⟨X7,I9,Z6⟩,X7⟩,V5.ext_lt hlt⟩⟩
  have:anyI l.W.length (w9 l.W)=true:=R9.2 ⟨y.1,hlt,hq⟩;unfold B8;rw[this];simp
 ·have g1:=Y0 hc;have g2:=Y0 hy;have e1:anyI l.H.length (x1 l.H)=false:=P5.2 λi hi=>x.2.2 i (xY hi g1)
  have f:anyI l.W.length (w9 l.W)=false:=P5.2 λi hi=>y.2.2 i (xY hi g2)
  simp only[wS,uH] at h;unfold B8;rw[e1,f,mO (p:=l.H.length<=60) Z9,mO (p:=l.W.length<=100) Z9]
  rfl
structure Txn where
 id:Int
 Z:Int
 deriving Inhabited
def Txn.ts(t:Txn):List T:=[.int .i64 t.id,.int .i64 t.Z]
def X2(L:List Txn)(i:Nat):List T:=(L.getD i dz).ts
def tV(L:List Txn):T:=.sl 2 L.length (X2 L)
structure Eng where
 s:Sto
 up:Bool
 X:List Txn
 lk:Lks
 N:Int
 deriving Inhabited
def Eng.ts(e:Eng):List T:=[u2 e.s.d.E,v6 e.s.d.C,.bool e.s.d.A,sN e.s.d.keep,.int .i64 e.s.ep,zE e.s.L,.int .i64 e.s.S,uC e.s.fr,.int .i64 e.s.J,.bool e.up,tV e.X,wN e.lk.H,nG e.lk.W,.int .i64 e.N]
abbrev L0(a b:Eng):Prop:=(a.s.d.E.length=b.s.d.E.length/\Z7 a.s.d.E.length (Z5 a.s.d.E) (Z5 b.s.d.E))/\(a.s.d.C.length=b.s.d.C.length/\Z7 a.s.d.C.length (Z1 a.s.d.C) (Z1 b.s.d.C))/\a.s.d.A=b.s.d.A/\(a.s.d.keep.length=b.s.d.keep.length/\Z7 a.s.d.keep.length (Y9 a.s.d.keep) (Y9 b.s.d.keep))/\a.s.ep=b.s.ep/\(a.s.L.length=b.s.L.length/\Z7 a.s.L.length (Y1 a.s.L) (Y1 b.s.L))/\a.s.S=b.s.S/\(a.s.fr.length=b.s.fr.length/\Z7 a.s.fr.length (V9 a.s.fr) (V9 b.s.fr))/\a.s.J=b.s.J/\a.up=b.up/\(a.X.length=b.X.length/\Z7 a.X.length (X2 a.X) (X2 b.X))/\(a.lk.H.length=b.lk.H.length/\Z7 a.lk.H.length (Z2 a.lk.H) (Z2 b.lk.H))/\(a.lk.W.length=b.lk.W.length/\Z7 a.lk.W.length (Y7 a.lk.W) (Y7 b.lk.W))/\a.N=b.N/\True
def vR(s:Eng):L0 s s:=X7
def l8(e:Eng):Option Ob:=some (.arr true 1000000 14 1 λ_=>e.ts)
def x6(L:List Txn)(id:Int)(i:Nat):Bool:=(L.getD i dz).id==id
def T8(L:List Txn)(id:Int):Int:=S6 L.length (x6 L id)
def c3I:Con:=.rel ⟨Txn×Int,λx=>[.agg x.1.ts,.bref [.int .i64 x.2]],λx=>.bool (x.1.id==x.2),λ_=>True⟩
def c2i(t:Txn)(id:Int)(h:
  (t.id==id)=(t.id==id)):
  V4 prog 282 [.agg t.ts,.bref [.int .i64 id]] (.bool (t.id==id)):=
 U5 gN func282 Z3 h
def b6A:GK 282 c3I:=gk func282<|λx _=>c2i x.1 x.2 rfl
def txF(id:Int):T:=.fn (.func 282) [.bref [.int .i64 id]]
def b78:Con:=.rel ⟨List Txn×Int,λx=>[tV x.1,txF x.2],λx=>.int .i64 (T8 x.1 x.2),λx=>L9 x.1.length⟩
def b6T(L:List Txn)(id:Int):Nat->Ann
 |0=>.one (V5 L.length (x6 L id)) (λx=>⟨[(0,tV L),(1,txF id),(7,.int .i64 L.length),(8,.int .i64 x.1)],[]⟩) (λx=>L.length-x.1) [] [] (λ_=>Z3)
 |_=>.none
def b3y:GK 281 b78:=gk func281<|by
 rintro⟨L,id⟩ (hL:L.length<1000000000000);refine U5 (gC b6A gN) func281 (b6T L id) (α:=let r:=(L.length:Int);let p:=(T.bref [Ji id]);(∃(x:V5 L.length (x6 L id)),((Z0 X2 L L)/\(Fn.func 282=Fn.func 282/\J7 (λ(x:Nat)=>none) p p/\True)/\r=r/\0=(x.1:Int)/\True)/\True)/\∀(x:V5 L.length (x6 L id)),let q:=(x.1:Int);let z:=(L.getD q.toNat dz);bd (q<r) (W9 q L.length/\∃(X:(Txn×Int)),(((z.id=X.1.id/\z.Z=X.1.Z/\True)/\(id=X.2/\True)/\True)/\True)/\br (X.1.id==X.2) (q=T8 L id) (Ri (q+1)/\∃(y:V5 L.length (x6 L id)),(((Z0 X2 L L)/\(Fn.func 282=Fn.func 282/\J7 (λ(x:Nat)=>none) p p/\True)/\r=r/\q+1=(y.1:Int)/\True)/\True)/\Lt (L.length-y.1) (L.length-x.1))) ((-1:Int)=T8 L id)) ⟨⟨F4,⟨X7,⟨rfl,U0 _,Z6⟩,X7⟩,Z6⟩,λx=>⟨λC=>?_,λC=>?_⟩⟩
 ·have h:=Y2 C;refine⟨Y6 h,(L.getD x.1 dz,id),X7,λhp=>(N9 h hp x.2.2).symm,λhp=>⟨W2 h Z9,x.succ h hp,⟨⟨X7,⟨rfl,U0 _,Z6⟩,rfl,I9,Z6⟩,Z6⟩,V5.ext_lt h⟩⟩
 ·have e:=Y0 C;exact(K2 λj J=>x.2.2 j (xY J e)).symm
def c6R:Con:=.rel ⟨Eng×Int,λx=>[.bref x.1.ts,.int .i64 x.2],λx=>.int .i64 (T8 x.1.X x.2),λx=>L9 x.1.X.length⟩
def c7c(e:Eng)(id:Int)(h:
  ∃(x:(List Txn×Int)),(((Z0 X2 e.X x.1)/\(Fn.func 282=Fn.func 282/\(id=x.2/\True)/\True)/\True)/\L9 x.1.length)/\T8 x.1 x.2=T8 e.X id):
  V4 prog 207 [.bref e.ts,.int .i64 id] (.int .i64 (T8 e.X id)):=
 U5 (gC b3y gN) func207 Z3 h
def qT:GK 207 c6R:=gk func207<|λx h=>c7c x.1 x.2 ⟨(x.1.X,x.2),⟨X7,h⟩,rfl⟩
def c2v:Con:=.rel ⟨Eng×Int,λx=>[.agg x.1.ts,.int .i64 x.2],λx=>.int .i64 (T8 x.1.X x.2),λx=>L9 x.1.X.length⟩
def c0o(e:Eng)(id:Int):Nat->Ann
 |0=>.one (V5 e.X.length (x6 e.X id)) (λx=>⟨[(1,.int .i64 id),(2,.ref 0 0 0),(5,.int .i64 x.1)],[l8 e]⟩) (λx=>e.X.length-x.1) [.box 0] [.box 0] (λ_=>Z3)
 |_=>.none
def a5u:GK 75 c2v:=gk func75<|by
 rintro⟨e,id⟩ (hL:e.X.length<1000000000000);refine U5 gN func75 (c0o e id) (α:=let q:=(1=1/\1=1/\L0 e e);(∃(x:V5 e.X.length (x6 e.X id)),(id=id/\(0=0/\0=0)/\0=(x.1:Int)/\True)/\q/\True)/\∀(x:V5 e.X.length (x6 e.X id)),let p:=(x.1:Int);bd (p<(e.X.length:Int)) (W9 p e.X.length/\br ((e.X.getD p.toNat dz).id==id) (p=T8 e.X id) (Ri (p+1)/\∃(y:V5 e.X.length (x6 e.X id)),((id=id/\(0=0/\0=0)/\p+1=(y.1:Int)/\True)/\q/\True)/\Lt (e.X.length-y.1) (e.X.length-x.1))) ((-1:Int)=T8 e.X id)) ⟨⟨F4,X7⟩,λx=>⟨λC=>?_,λC=>?_⟩⟩
 ·have h:=Y2 C;exact⟨Y6 h,λhp=>(N9 h hp x.2.2).symm,λhp=>⟨W2 h Z9,x.succ h hp,⟨⟨rfl,X7,I9,Z6⟩,X7⟩,V5.ext_lt h⟩⟩
 ·have d:=Y0 C;exact(K2 λj J=>x.2.2 j (xY J d)).symm
def Y8(L:List Rec)(at_:Int):Rec:=L.getD (at_-1).toNat dz
def ownR(L:List Rec)(at_ id:Int):Bool:=V6 at_ 1 L.length&&((Y8 L at_).t==id)&&V6 (Y8 L at_).k 1 3
def okR(L:List Rec)(id at_:Int):Bool:=ownR L at_ id&&((Y8 L at_).k !=3||ownR L (Y8 L at_).n id)
def chn(L:List Rec)(id:Int):Nat->Int->Bool
 |0,_=>true
 |f+1,at_=>decide (at_<=0)||(okR L id at_&&chn L id f (Y8 L at_).p)
def nD(L:List Rec)(t:Txn):Bool:=V6 t.Z 1 L.length&&chn L t.id 61 t.Z
def xH(L:List Rec):Prop:=L.length<=60/\∀i,i<L.length->zG (L.getD i dz)/\(L.getD i dz).l=(i:Int)+1
def c13:Con:=.rel ⟨Sto×Int×Int,λx=>[.bref x.1.ts,.int .i64 x.2.1,.int .i64 x.2.2],λx=>.bool (ownR x.1.L x.2.1 x.2.2),λx=>L9 x.1.L.length⟩
def K5{n l hi:Int}:V6 n l hi=true↔l<=n/\n<=hi:=by
 unfold V6;simp only[J5,o8]
def b8m:GK 315 c13:=gk func315<|by
 rintro⟨s,at_,id⟩ (hL:s.L.length<1000000000000);have d:V6 at_ 1 s.L.length=true->R2 .i64 (at_-1)/\W9 (at_-1) s.L.length:=λh=>by
  obtain⟨e,f⟩:=K5.1 h;exact⟨Z4 Z9,Z9,Z9⟩
 exact U5 (gC O1 gN) func315 Z3 (α:=let q:=(s.L.length:Int);let p:=(s.L.getD (at_-1).toNat dz);let r:=(V6 at_ (1:Int) q&&p.t==id);(V6 at_ (1:Int) q=true->Ri (at_-1))/\(V6 at_ (1:Int) q=true->W9 (at_-1) s.L.length)/\(r=true->Ri (at_-1))/\(r=true->W9 (at_-1) s.L.length)/\(V6 at_ (1:Int) q&&p.t==id&&V6 p.k (1:Int) (3:Int))=ownR s.L at_ id) ⟨λh=>(d h).1,λh=>(d h).2,λh=>(d (Bool.and_eq_true_iff.1 h).1).1,λh=>(d (Bool.and_eq_true_iff.1 h).1).2,rfl⟩
def xH.at{L:List Rec}(h:xH L){at_:Int}(d:1<=at_)(e:at_<=L.length):zG (Y8 L at_)/\(Y8 L at_).l=at_:=by
 obtain⟨a,b⟩:=h.2 (at_-1).toNat Z9
 exact⟨a,by unfold Y8;rw[b];omega⟩
def xH.prev{L:List Rec}(h:xH L){at_:Int}(e:1<=at_)(d:at_<=L.length):0<=(Y8 L at_).p/\(Y8 L at_).p<=at_-1/\0<=(Y8 L at_).n/\(Y8 L at_).n<=at_-1:=by
 obtain⟨a,b⟩:=h.at e d;obtain⟨_,_,_,_,_,_,Q,g,f,q,_⟩:=a;omega
def a50{L:List Rec}{at_ id:Int}(h:ownR L at_ id=true):1<=at_/\at_<=L.length:=by
 unfold ownR at h;simp only[J5] at h;exact K5.1 h.1.1
def fW(L:List Rec)(id:Int){f:Nat}(F:0<f){at_:Int}(h:1<=at_):chn L id f at_=(okR L id at_&&chn L id (f-1) (Y8 L at_).p):=by
 obtain⟨g,rfl⟩:∃g,f=g+1:=⟨f-1,Z9⟩
 show(decide (at_<=0)||_)=_;rw[tQ Z9,Bool.false_or]
 rfl
def a38(L:List Rec)(id:Int)(f:Nat){at_:Int}(h:at_<=0):chn L id f at_=true:=by
 cases f with
 |zero=>rfl
 |succ f=>show(decide (at_<=0)||_)=_;rw[mO h];rfl
def b5r(t:Txn):Option Ob:=some (.arr true 1000000 2 1 λ_=>t.ts)
def Chn(L:List Rec)(t:Txn):Type:={x:Nat×Int//0<x.1/\(V6 x.2 1 L.length&&chn L t.id x.1 x.2)=nD L t/\(x.2.toNat<x.1∨x.1=61)}
def b2d:Con:=.rel ⟨Sto×Txn,λx=>[.bref x.1.ts,.agg x.2.ts],λx=>.bool (nD x.1.L x.2),λx=>xH x.1.L⟩
def b11(s:Sto)(t:Txn):Nat->Ann
 |0=>.one (Chn s.L t) (λx=>⟨[(0,.bref s.ts),(3,.ref 0 0 0),(5,.int .i64 x.1.2)],[b5r t]⟩) (λx=>x.1.1) [.box 0] [.box 0] (λ_=>Z3)
 |_=>.none
def a8I:GK 231 b2d:=gk func231<|by
 rintro⟨s,t⟩ (hL:xH s.L);have j:=hL.1;refine U5 (gC b8m gN) func231 (b11 s t) (α:=let z:=(T.bref s.ts);let r:=(1=1/\1=1/\t.id=t.id/\t.Z=t.Z/\True);(∃(x:Chn s.L t),(J7 (m9 [some 0]) z z/\(0=0/\0=0)/\t.Z=x.1.2/\True)/\r/\True)/\∀(x:Chn s.L t),let u:=(x.1.2-1);let q:=(s.L.getD u.toNat dz);∃(X:(Sto×Int×Int)),(((yS s X.1)/\x.1.2=X.2.1/\t.id=X.2.2/\True)/\L9 X.1.L.length)/\br (!ownR X.1.L X.2.1 X.2.2) (false=nD s.L t) (Ri u/\W9 u s.L.length/\∃(d:(Sto×Int×Int)),((q.k==3)=true->((yS s d.1)/\q.n=d.2.1/\t.id=d.2.2/\True)/\L9 d.1.L.length)/\br (q.k==3&& !ownR d.1.L d.2.1 d.2.2) (false=nD s.L t) (br (q.p==0) (true=nD s.L t) (∃(y:Chn s.L t),((J7 (m9 [some 0]) z z/\(0=0/\0=0)/\q.p=y.1.2/\True)/\r/\True)/\Lt y.1.1 x.1.1)))) ⟨⟨⟨(61,t.Z),Nat.succ_pos 60,rfl,.inr rfl⟩,⟨U0 _,X7⟩,X7⟩,λx=>?_⟩
 obtain⟨⟨f,at_⟩,hf,he,B⟩:=x;dsimp only at hf he B ⊢;refine⟨(s,at_,t.id),⟨⟨(jR _),X7⟩,by unfold L9;simp only;omega⟩,λho=>?_,λho=>?_⟩
 ·simp only[vZ] at ho;rw[←he];cases hi:V6 at_ 1 s.L.length
  ·rfl
  ·obtain⟨q1,q2⟩:=K5.1 hi;rw[fW _ _ hf q1];unfold okR;rw[ho];rfl
 ·simp only[wU] at ho;obtain⟨q1,q2⟩:=a50 ho;have hi:V6 at_ 1 s.L.length=true:=K5.2 ⟨q1,q2⟩;rw[hi,Bool.true_and,fW _ _ hf q1] at he;obtain⟨p1,p2,_⟩:=hL.prev q1 q2;have eo:okR s.L t.id at_=((Y8 s.L at_).k !=3||ownR s.L (Y8 s.L at_).n t.id):=by unfold okR;rw[ho,Bool.true_and]
  refine⟨Z4 Z9,⟨Z9,Z9⟩,(s,(Y8 s.L at_).n,t.id),λ_=>⟨⟨(jR _),X7⟩,by unfold L9;simp only;omega⟩,λe=>?_,λe=>⟨λg=>?_,λg=>?_⟩⟩
  ·have e:((Y8 s.L at_).k==3&& !ownR s.L (Y8 s.L at_).n t.id)=true:=e;rw[←he,eo];simp only[J5,vZ,beq_iff_eq] at e;rw[e.1,e.2];rfl
  ·have e:((Y8 s.L at_).k==3&& !ownR s.L (Y8 s.L at_).n t.id)=false:=e;have g:(Y8 s.L at_).p=0:=beq_iff_eq.1 g;have i:okR s.L t.id at_=true:=by
    rw[eo,←wU,Bool.not_or,show(!((Y8 s.L at_).k !=3))=((Y8 s.L at_).k==3) by simp[bne]]
    exact e
   rw[←he,i,g,a38 _ _ _ (Int.le_refl 0)];rfl
  ·have e:((Y8 s.L at_).k==3&& !ownR s.L (Y8 s.L at_).n t.id)=false:=e;have g:(Y8 s.L at_).p≠0:=λh=>by
    have g:((Y8 s.L at_).p==0)=false:=g;rw[h] at g;cases g
   have i:okR s.L t.id at_=true:=by
    rw[eo,←wU,Bool.not_or,show(!((Y8 s.L at_).k !=3))=((Y8 s.L at_).k==3) by simp[bne]]
    exact e
   rw[i,Bool.true_and] at he;refine⟨⟨(f-1,(Y8 s.L at_).p),M0,?_,M0⟩,⟨⟨U0 _,X7⟩,X7⟩,show f-1<f by omega⟩
   simp only;rw[K5.2 (show 1<=(Y8 s.L at_).p/\(Y8 s.L at_).p<=(s.L.length:Int) by omega),Bool.true_and]
   exact he
def und(L:List Rec):Nat->Int->Nat
 |0,_=>0
 |f+1,at_=>if at_<=0 then 0 else if(Y8 L at_).k=3 then und L f (Y8 L at_).n else(if(Y8 L at_).k=2 then 1 else 0)+und L f (Y8 L at_).p
def fV(m:Nat):Option Ob:=some (.arr true 1000000 1 1 λ_=>[.int .i64 m])
def b81:Con:=.reff ⟨Rec×Nat,λx=>[.agg x.1.ts,.ref 0 0 0],λx=>[fV x.2],λ_=>.bool true,λx=>[fV (x.2+1)],λx=>x.2<1000⟩
def b1Y:GK 338 b81:=gk func338<|by
 rintro⟨r,m⟩ (h:m<1000);exact vcE gN func338 Z3 (bs:=[true]) (α:=Ri ((m:Int)+1)/\true=true/\(1=1/\1=1/\(m:Int)+1=(↑(m+1):Int)/\True)/\True) ⟨Z4 Z9,rfl,⟨rfl,rfl,Z9,Z6⟩,Z6⟩
def rH(L:List Rec)(at_:Int):Prop:=xH L/\at_<=(L.length:Int)
def b2t:Con:=.reff ⟨Sto×Int,λx=>[.bref x.1.ts,.int .i64 x.2,.fn (.func 338) [.ref 0 0 0]],λ_=>[fV 1],λ_=>.tup [],λx=>[fV (1+und x.1.L 61 x.2)],λx=>rH x.1.L x.2⟩
def Und(L:List Rec)(f:Int):Type:={x:Nat×Int×Nat//x.2.2+und L x.1 x.2.1=1+und L 61 f/\x.2.1<=(L.length:Int)/\x.2.1.toNat<x.1/\x.2.2+x.1<=100}
def b20(s:Sto)(f:Int):Nat->Ann
 |0=>.one (Und s.L f) (λx=>⟨[(0,.bref s.ts),(1,.int .i64 x.1.2.1),(2,.fn (.func 338) [.ref 0 0 0])],[fV x.1.2.2]⟩) (λx=>x.1.1) [.box 0] [.box 0] (λ_=>Z3)
 |_=>.none
def a1R(L:List Rec):∀(f:Nat) (at_:Int),und L f at_<=f:=by
 intro f;induction f with
 |zero=>intro at_;exact U9 0
 |succ f i=>
  intro at_;unfold und;split
  ·omega
  ·split
   ·have:=i (Y8 L at_).n;omega
   ·have:=i (Y8 L at_).p;split<;>omega
def a2l{L:List Rec}{f:Nat}{at_:Int}(h:0<at_)(F:at_.toNat<f)(d:(Y8 L at_).k=3):und L f at_=und L (f-1) (Y8 L at_).n:=by
 obtain⟨g,rfl⟩:∃g,f=g+1:=⟨f-1,Z9⟩
 conv=>lhs;unfold und
 rw[if_neg Z9,if_pos d]
 rfl
def iK{L:List Rec}{f:Nat}{at_:Int}(h:0<at_)(F:at_.toNat<f)(d:(Y8 L at_).k≠3):und L f at_=(if(Y8 L at_).k=2 then 1 else 0)+und L (f-1) (Y8 L at_).p:=by
 obtain⟨g,rfl⟩:∃g,f=g+1:=⟨f-1,Z9⟩
 conv=>lhs;unfold und
 rw[if_neg Z9,if_neg d]
 rfl
def a3s{L:List Rec}{f:Nat}{at_:Int}(h:at_<=0):und L f at_=0:=by
 cases f with
 |zero=>rfl
 |succ f=>unfold und;rw[if_pos h]
def a7X:GK 268 b2t:=gk func268<|by
 rintro⟨s,F⟩ ⟨hL,L⟩;dsimp only at hL L;have q:=hL.1;refine vcE (gC b1Y gN) func268 (b20 s F) (bs:=[true]) (α:=let m:=(↑(1+und s.L 61 F):Int);let j:=(m9 [some 0]);let z:=(T.bref s.ts);let r:=(Fn.func 338=Fn.func 338/\(0=0/\0=0)/\True);(∃(x:Und s.L F),(J7 j z z/\F=x.1.2.1/\r/\True)/\(1=1/\1=1/\1=(x.1.2.2:Int)/\True)/\True)/\∀(x:Und s.L F),let w:=(x.1.2.1- (1:Int));let v:=(x.1.2.2:Int);let u:=(True/\(1=1/\1=1/\v=m/\True)/\True);let q:=(s.L.getD w.toNat dz);bd (x.1.2.1>(0:Int)) (Ri w/\W9 w s.L.length/\br (q.k==3) (∃(y:Und s.L F),((J7 j z z/\q.n=y.1.2.1/\r/\True)/\(1=1/\1=1/\v=(y.1.2.2:Int)/\True)/\True)/\Lt y.1.1 x.1.1) (∃(X:(Rec×Nat)),((q.k==2)=true->((q.e=X.1.e/\q.l=X.1.l/\q.t=X.1.t/\q.k=X.1.k/\q.p=X.1.p/\q.n=X.1.n/\q.g=X.1.g/\q.s=X.1.s/\q.b=X.1.b/\q.a=X.1.a/\True)/\(0=0/\0=0)/\True)/\((1=1/\Z7 1 (λ(x_2:Nat)=>[Ji v]) λ(x:Nat)=>[Ji (X.2:Int)])/\True)/\X.2<1000)/\((q.k==2)=true->br (q.k==2&&false) (True/\(1=1/\1=1/\(↑(X.2+1):Int)=m/\True)/\True) (∃(y:Und s.L F),((J7 j z z/\q.p=y.1.2.1/\r/\True)/\(1=1/\1=1/\(↑(X.2+1):Int)=(y.1.2.2:Int)/\True)/\True)/\Lt y.1.1 x.1.1))/\(((q.k==2)=true->False)->br (q.k==2&&false) u (∃(y:Und s.L F),((J7 j z z/\q.p=y.1.2.1/\r/\True)/\(1=1/\1=1/\v=(y.1.2.2:Int)/\True)/\True)/\Lt y.1.1 x.1.1)))) u) ⟨⟨⟨(61,F,1),rfl,L,X5,X5⟩,⟨U0 _,X7⟩,X7⟩,λx=>?_⟩
 obtain⟨⟨f,at_,m⟩,i,hle,o,M⟩:=x;dsimp only at i hle o M ⊢;refine⟨λhc=>?_,λhc=>?_⟩
 ·have h0:at_>0:=G7 hc;obtain⟨p1,p2,p3,p4⟩:=hL.prev (show 1<=at_ by omega) hle
  refine⟨Z4 Z9,⟨Z9,Z9⟩,λd=>?_,λd=>?_⟩
  ·have d:(Y8 s.L at_).k=3:=beq_iff_eq.1 d;rw[a2l h0 o d] at i;exact⟨⟨(f-1,(Y8 s.L at_).n,m),i,X5,X5,X5⟩,⟨⟨U0 _,X7⟩,X7⟩,show f-1<f by omega⟩
  ·have d:(Y8 s.L at_).k≠3:=λh=>by
    have d:((Y8 s.L at_).k==3)=false:=d;rw[h] at d;cases d
   rw[iK h0 o d] at i;refine⟨(Y8 s.L at_,m),λ_=>⟨X7,X7,X5⟩,λh2=>⟨λj=>?_,λ_=>?_⟩,λh2=>⟨λj=>?_,λ_=>?_⟩⟩
   ·rw[Bool.and_false] at j;cases j
   ·have h2:(Y8 s.L at_).k=2:=beq_iff_eq.1 h2;rw[if_pos h2] at i;exact⟨⟨(f-1,(Y8 s.L at_).p,m+1),X5,X5,X5,X5⟩,⟨⟨U0 _,X7⟩,X7⟩,show f-1<f by omega⟩
   ·rw[Bool.and_false] at j;cases j
   ·have h2:¬ (Y8 s.L at_).k=2:=λh=>h2 (beq_iff_eq.2 h)
    rw[if_neg h2] at i;exact⟨⟨(f-1,(Y8 s.L at_).p,m),X5,X5,X5,X5⟩,⟨⟨U0 _,X7⟩,X7⟩,show f-1<f by omega⟩
 ·have h0:at_<=0:=by have:=r9 hc;omega
  rw[a3s h0] at i;exact⟨Z6,⟨rfl,rfl,Z9,Z6⟩,Z6⟩
def b8M:Con:=.rel ⟨Sto×Int,λx=>[.bref x.1.ts,.int .i64 x.2],λx=>.int .i64 ((1+und x.1.L 61 x.2:Nat):Int),λx=>rH x.1.L x.2⟩
def b23:GK 280 b8M:=gk func280<|by
 rintro⟨s,f⟩ h;exact U5 (gC a7X gN) func280 Z3 (α:=∃(x:(Sto×Int)),(((yS s x.1)/\f=x.2/\(Fn.func 338=Fn.func 338/\(0=0/\0=0)/\True)/\True)/\((1=1/\Z7 1 (setRow (λ(x:Nat)=>[Ji 0]) 0 0 [Ji 1]) λ(x:Nat)=>[Ji 1])/\True)/\rH x.1.L x.2)/\(↑(1+und x.1.L 61 x.2):Int)=(↑(1+und s.L 61 f):Int)) ⟨(s,f),⟨⟨(jR _),X7⟩,⟨⟨rfl,λi hi=>c0e⟩,Z6⟩,h⟩,rfl⟩
def b7Y:Con:=.rel ⟨Bool,λb=>[.bool b],λb=>.int .i64 (if b then 1 else 0),λ_=>True⟩
def b7T(b:Bool)(h:
  (b=true->1=if b=true then(1:Int) else(0:Int))/\(b=false->0=if b=true then(1:Int) else(0:Int))):
  V4 prog 259 [.bool b] (.int .i64 (if b then 1 else 0)):=
 U5 gN func259 Z3 h
def b27:GK 259 b7Y:=gk func259<|λb _=>b7T b ⟨λh=>by rw[if_pos h],λh=>by rw[h];rfl⟩
def b3T:Con:=.rel ⟨Sto×Int,λx=>[.agg x.1.ts,.int .i64 x.2],λx=>.int .i64 ((1+und x.1.L 61 x.2:Nat):Int),λx=>rH x.1.L x.2⟩
def b1U(s:Sto)(f:Int):Nat->Ann
 |0=>.one (Und s.L f) (λx=>⟨[(1,.int .i64 x.1.2.1),(2,.ref 0 0 0),(5,.int .i64 x.1.2.2)],[fH s]⟩) (λx=>x.1.1) [.box 0] [.box 0] (λ_=>Z3)
 |_=>.none
def a7V:GK 164 b3T:=gk func164<|by
 rintro⟨s,F⟩ ⟨hL,l⟩;dsimp only at hL l;have g:=hL.1;refine U5 (gC b27 gN) func164 (b1U s F) (α:=let w:=(0=0/\0=0);let u:=(1=1/\1=1/\yS s s);(∃(x:Und s.L F),(F=x.1.2.1/\w/\1=(x.1.2.2:Int)/\True)/\u/\True)/\∀(x:Und s.L F),let v:=(x.1.2.2:Int);let z:=(x.1.2.1- (1:Int));let q:=(s.L.getD z.toNat dz);bd (x.1.2.1>(0:Int)) (Ri z/\W9 z s.L.length/\br (q.k==3) (∃(y:Und s.L F),((q.n=y.1.2.1/\w/\v=(y.1.2.2:Int)/\True)/\u/\True)/\Lt y.1.1 x.1.1) (∃(X:Bool),let r:=(v+if X=true then(1:Int) else(0:Int));(((q.k==2)=X/\True)/\True)/\Ri r/\∃(y:Und s.L F),((q.p=y.1.2.1/\w/\r=(y.1.2.2:Int)/\True)/\u/\True)/\Lt y.1.1 x.1.1)) (v=(↑(1+und s.L 61 F):Int))) ⟨⟨⟨(61,F,1),rfl,l,X5,X5⟩,X7⟩,λx=>?_⟩
 obtain⟨⟨f,at_,m⟩,he,hle,e,M⟩:=x;dsimp only at he hle e M ⊢;refine⟨λhc=>?_,λhc=>?_⟩
 ·have h0:at_>0:=G7 hc;obtain⟨p1,p2,p3,p4⟩:=hL.prev (show 1<=at_ by omega) hle
  refine⟨Z4 Z9,⟨Z9,Z9⟩,λd=>?_,λd=>?_⟩
  ·have d:(Y8 s.L at_).k=3:=beq_iff_eq.1 d;rw[a2l h0 e d] at he;exact⟨⟨(f-1,(Y8 s.L at_).n,m),he,X5,X5,X5⟩,X7,show f-1<f by omega⟩
  ·have d:(Y8 s.L at_).k≠3:=λh=>by
    have d:((Y8 s.L at_).k==3)=false:=d;rw[h] at d;cases d
   rw[iK h0 e d] at he;have N:und s.L (f-1) (Y8 s.L at_).p<=f-1:=a1R _ _ _;refine⟨(Y8 s.L at_).k==2,X7,?_,?_⟩
   ·split<;>exact Z4 Z9
   ·by_cases h2:(Y8 s.L at_).k=2
    ·rw[if_pos h2] at he;rw[if_pos (by simpa using h2)]
     exact⟨⟨(f-1,(Y8 s.L at_).p,m+1),X5,X5,X5,X5⟩,X7,show f-1<f by omega⟩
    ·rw[if_neg h2] at he;rw[if_neg (by simpa using h2)]
     exact⟨⟨(f-1,(Y8 s.L at_).p,m),X5,X5,X5,X5⟩,⟨⟨rfl,X7,X5,Z6⟩,X7⟩,show f-1<f by omega⟩
 ·have h0:at_<=0:=by have:=r9 hc;omega
  rw[a3s h0] at he;show(m:Int)=_;omega
def tR(L:List Rec)(T:List Txn):Nat->Nat
 |0=>0
 |k+1=>tR L T k+(1+und L 61 (T.getD k dz).Z)
def nK(e:Eng):Nat:=tR e.s.L e.X e.X.length
def wR(e:Eng):Prop:=xH e.s.L/\e.X.length<=10/\∀i,i<e.X.length->(e.X.getD i dz).Z<=(e.s.L.length:Int)
def dF(L:List Rec)(T:List Txn):∀k,tR L T k<=62*k:=by
 intro k;induction k with
 |zero=>exact U9 0
 |succ k i=>unfold tR;have:=a1R L 61 (T.getD k dz).Z;omega
def c0c:Con:=.rel ⟨Eng,λe=>[.bref e.ts],λe=>.int .i64 (nK e),wR⟩
def b9e(e:Eng):Nat->Ann
 |0=>.one (Up e.X.length) (λx=>⟨[(0,.bref e.ts),(3,.int .i64 (tR e.s.L e.X x.1)),(9,tV e.X),(10,.int .i64 e.X.length),(11,.int .i64 x.1)],[]⟩) (λx=>e.X.length-x.1) [] [] (λ_=>Z3)
 |_=>.none
def a5N{L:List Rec}{T:List Txn}{i:Nat}:((tR L T i:Nat):Int)+((1+und L 61 (T.getD i dz).Z:Nat):Int)=(tR L T (i+1):Nat):=by
 conv=>rhs;unfold tR
 omega
def b30:GK 206 c0c:=gk func206<|by
 rintro(e:Eng) ⟨hL,h10,hb⟩;refine U5 (gC b23 gN) func206 (b9e e) (α:=let z:=(T.bref e.ts);let p:=(e.X.length:Int);(∃(x:Up e.X.length),(J7 (λ(x:Nat)=>none) z z/\0=(↑(tR e.s.L e.X x.1):Int)/\(Z0 X2 e.X e.X)/\p=p/\0=(x.1:Int)/\True)/\True)/\∀(x:Up e.X.length),let r:=(x.1:Int);let q:=(↑(tR e.s.L e.X x.1):Int);bd (r<p) (W9 r e.X.length/\∃(X:(Sto×Int)),let u:=(↑(1+und X.1.L 61 X.2):Int);(((yS e.s X.1)/\(e.X.getD r.toNat dz).Z=X.2/\True)/\rH X.1.L X.2)/\Ri (q+u)/\Ri (r+1)/\∃(y:Up e.X.length),((J7 (λ(x:Nat)=>none) z z/\q+u=(↑(tR e.s.L e.X y.1):Int)/\(Z0 X2 e.X e.X)/\p=p/\r+1=(y.1:Int)/\True)/\True)/\Lt (e.X.length-y.1) (e.X.length-x.1)) (q=(↑(nK e):Int))) ⟨⟨⟨0,N4 _⟩,⟨U0 _,X7⟩,Z6⟩,λx=>⟨λhc=>?_,λhc=>?_⟩⟩
 ·have h:=Y2 hc;have f:=dF e.s.L e.X x.1;have d:=a1R e.s.L 61 (e.X.getD x.1 dz).Z;refine⟨Y6 h,(e.s,(e.X.getD x.1 dz).Z),⟨⟨(jR _),X7⟩,hL,hb _ h⟩,Z4 X5,W2 h Z9,⟨x.1+1,h⟩,⟨⟨U0 _,a5N,X7,rfl,X5,Z6⟩,Z6⟩,V5.ext_lt h⟩
 ·have hx:x.1=e.X.length:=by have:=x.2;have:=Y0 hc;omega
  rw[hx];rfl
def b2H:Con:=.rel ⟨Eng×Int,λx=>[.bref x.1.ts,.int .i64 x.2],λx=>.bool (decide ((x.1.s.L.length:Int)+nK x.1+x.2<=60)),λx=>wR x.1/\m5 x.2⟩
def gT:GK 118 b2H:=gk func118<|by
 rintro⟨e,m⟩ ⟨h,g,f⟩;dsimp only at h g f;have B:=dF e.s.L e.X e.X.length;have d:=h.2.1;have i:=h.1.1;have j:nK e=tR e.s.L e.X e.X.length:=rfl;exact U5 (gC b30 gN) func118 Z3 (α:=let p:=(e.s.L.length:Int);∃(x:Eng),let q:=(↑(nK x):Int);(((L0 e x)/\True)/\wR x)/\Ri (p+q)/\Ri (p+q+m)/\decide (p+q+m<=60)=decide (p+(↑(nK e):Int)+m<=60)) ⟨e,⟨⟨(vR _),Z6⟩,h⟩,Z4 Z9,Z4 Z9,rfl⟩
def a2b:Con:=.rel ⟨Eng,λe=>[.agg e.ts],λe=>.int .i64 (nK e),wR⟩
def a1Z(e:Eng):Nat->Ann
 |0=>.one (Up e.X.length) (λx=>⟨[(1,.ref 0 0 0),(3,.int .i64 (tR e.s.L e.X x.1)),(4,.int .i64 x.1)],[l8 e]⟩) (λx=>e.X.length-x.1) [.box 0] [.box 0] (λ_=>Z3)
 |_=>.none
def pT:GK 76 a2b:=gk func76<|by
 rintro(e:Eng) ⟨hL,h10,hb⟩;refine U5 (gC a7V gN) func76 (a1Z e) (α:=let z:=(1=1/\1=1/\L0 e e);(∃(x:Up e.X.length),((0=0/\0=0)/\0=(↑(tR e.s.L e.X x.1):Int)/\0=(x.1:Int)/\True)/\z/\True)/\∀(x:Up e.X.length),let q:=(x.1:Int);let p:=(↑(tR e.s.L e.X x.1):Int);bd (q<(e.X.length:Int)) (W9 q e.X.length/\∃(X:(Sto×Int)),let r:=(↑(1+und X.1.L 61 X.2):Int);(((yS e.s X.1)/\(e.X.getD q.toNat dz).Z=X.2/\True)/\rH X.1.L X.2)/\Ri (p+r)/\Ri (q+1)/\∃(y:Up e.X.length),(((0=0/\0=0)/\p+r=(↑(tR e.s.L e.X y.1):Int)/\q+1=(y.1:Int)/\True)/\z/\True)/\Lt (e.X.length-y.1) (e.X.length-x.1)) (p=(↑(nK e):Int))) ⟨⟨⟨0,N4 _⟩,X7⟩,λx=>⟨λhc=>?_,λhc=>?_⟩⟩
 ·have h:=Y2 hc;have f:=dF e.s.L e.X x.1;have d:=a1R e.s.L 61 (e.X.getD x.1 dz).Z;refine⟨Y6 h,(e.s,(e.X.getD x.1 dz).Z),⟨⟨(jR _),X7⟩,hL,hb _ h⟩,Z4 X5,W2 h Z9,⟨x.1+1,h⟩,⟨⟨X7,a5N,X5,Z6⟩,X7⟩,V5.ext_lt h⟩
 ·have hx:x.1=e.X.length:=by have:=x.2;have:=Y0 hc;omega
  rw[hx];rfl
def a4L(L:List Rec)(r:Rec):Bool:=decide (r.n>0)&&((Y8 L r.n).t==r.t)&&decide ((Y8 L r.n).k<=3)
def b14:Con:=.rel ⟨Sto×Rec,λx=>[.agg x.1.ts,.agg x.2.ts],λx=>.bool (a4L x.1.L x.2),λx=>x.2.n<=(x.1.L.length:Int)/\L9 x.1.L.length⟩
def a8Z:GK 74 b14:=gk func74<|by
 rintro⟨s,r⟩ ⟨f,e⟩;have e:s.L.length<1000000000000:=e;dsimp only at f;have d:decide (r.n>(0:Int))=true->R2 .i64 (r.n-1)/\W9 (r.n-1) s.L.length:=λh=>by
  have h:=G7 h;exact⟨Z4 Z9,Z9,Z9⟩
 exact U5 gN func74 Z3 (α:=let p:=(s.L.getD (r.n-1).toNat dz);let q:=(decide (r.n>0)&&p.t==r.t);(decide (r.n>0)=true->Ri (r.n-1))/\(decide (r.n>0)=true->W9 (r.n-1) s.L.length)/\(q=true->Ri (r.n-1))/\(q=true->W9 (r.n-1) s.L.length)/\(decide (r.n>0)&&p.t==r.t&&decide (p.k<=3))=a4L s.L r) ⟨λh=>(d h).1,λh=>(d h).2,λh=>(d (Bool.and_eq_true_iff.1 h).1).1,λh=>(d (Bool.and_eq_true_iff.1 h).1).2,rfl⟩
def wQ(e:Eng)(i:Nat):Bool:=decide (T8 e.X (e.lk.H.getD i dz).tx<0)
def s6(e:Eng)(i:Nat):Bool:=decide (T8 e.X (e.lk.W.getD i dz).tx<0)||decide (T8 e.X (e.lk.W.getD i dz).fo<0)
def TxL(e:Eng):Prop:=L9 e.X.length
def a4s:Con:=.rel ⟨Eng×Lck,λx=>[.agg x.2.ts,.bref [.bref x.1.ts]],λx=>.bool (decide (T8 x.1.X x.2.tx<0)),λx=>TxL x.1⟩
def a5C(e:Eng)(l:Lck)(h:
  ∃(x:(Eng×Int)),(((L0 e x.1)/\l.tx=x.2/\True)/\L9 x.1.X.length)/\decide (T8 x.1.X x.2<0)=decide (T8 e.X l.tx<0)):
  V4 prog 233 [.agg l.ts,.bref [.bref e.ts]] (.bool (decide (T8 e.X l.tx<0))):=
 U5 (gC qT gN) func233 Z3 h
def a1t:GK 233 a4s:=gk func233<|λx h=>a5C x.1 x.2 ⟨(x.1,x.2.tx),⟨⟨(vR _),X7⟩,h⟩,rfl⟩
def a3d:Con:=.rel ⟨Eng×Wt,λx=>[.agg x.2.ts,.bref [.bref x.1.ts]],λx=>.bool (decide (T8 x.1.X x.2.tx<0)||decide (T8 x.1.X x.2.fo<0)),λx=>TxL x.1⟩
def a47(e:Eng)(l:Wt)(h:
  ∃(x:(Eng×Int)),(((L0 e x.1)/\l.tx=x.2/\True)/\L9 x.1.X.length)/\∃(X:(Eng×Int)),(decide (T8 x.1.X x.2<0)=false->((L0 e X.1)/\l.fo=X.2/\True)/\L9 X.1.X.length)/\(decide (T8 x.1.X x.2<0)||decide (T8 X.1.X X.2<0))=(decide (T8 e.X l.tx<0)||decide (T8 e.X l.fo<0))):
  V4 prog 235 [.agg l.ts,.bref [.bref e.ts]] (.bool (decide (T8 e.X l.tx<0)||decide (T8 e.X l.fo<0))):=
 U5 (gC qT gN) func235 Z3 h
def a15:GK 235 a3d:=gk func235<|λx h=>a47 x.1 x.2 ⟨(x.1,x.2.tx),⟨⟨(vR _),X7⟩,h⟩,(x.1,x.2.fo),λ_=>⟨⟨(vR _),X7⟩,h⟩,rfl⟩
def eF1(e:Eng):T:=.fn (.func 233) [.bref [.bref e.ts]]
def eF2(e:Eng):T:=.fn (.func 235) [.bref [.bref e.ts]]
def HlL(e:Eng):Prop:=TxL e/\L9 e.lk.H.length/\L9 e.lk.W.length
def b2e:Con:=.rel ⟨Eng,λe=>[wN e.lk.H,eF1 e],λe=>.int .i64 (S6 e.lk.H.length (wQ e)),HlL⟩
def b3n(e:Eng):Nat->Ann
 |0=>.one (V5 e.lk.H.length (wQ e)) (λx=>⟨[(0,wN e.lk.H),(1,eF1 e),(7,.int .i64 e.lk.H.length),(8,.int .i64 x.1)],[]⟩) (λx=>e.lk.H.length-x.1) [] [] (λ_=>Z3)
 |_=>.none
def a8O:GK 316 b2e:=gk func316<|by
 rintro(e:Eng) ⟨ht,g,f⟩;have g:e.lk.H.length<1000000000000:=g;have f:e.lk.W.length<1000000000000:=f;refine U5 (gC a1t gN) func316 (b3n e) (α:=let u:=(Z0 Z2 e.lk.H e.lk.H);let r:=(T.bref [T.bref e.ts]);let q:=(e.lk.H.length:Int);(∃(x:V5 e.lk.H.length (wQ e)),(u/\(Fn.func 233=Fn.func 233/\J7 (λ(x:Nat)=>none) r r/\True)/\q=q/\0=(x.1:Int)/\True)/\True)/\∀(x:V5 e.lk.H.length (wQ e)),let z:=(x.1:Int);let p:=(e.lk.H.getD z.toNat dz);bd (z<q) (W9 z e.lk.H.length/\∃(X:(Eng×Lck)),(((p.tx=X.2.tx/\p.ta=X.2.ta/\p.row=X.2.row/\p.mo=X.2.mo/\True)/\((L0 e X.1)/\True)/\True)/\TxL X.1)/\bd (T8 X.1.X X.2.tx<0) (z=S6 e.lk.H.length (wQ e)) (Ri (z+1)/\∃(y:V5 e.lk.H.length (wQ e)),((u/\(Fn.func 233=Fn.func 233/\J7 (λ(x:Nat)=>none) r r/\True)/\q=q/\z+1=(y.1:Int)/\True)/\True)/\Lt (e.lk.H.length-y.1) (e.lk.H.length-x.1))) ((-1:Int)=S6 e.lk.H.length (wQ e))) ⟨⟨F4,⟨X7,⟨rfl,U0 _,Z6⟩,X7⟩,Z6⟩,λx=>⟨λC=>?_,λC=>?_⟩⟩
 ·have h:=Y2 C;refine⟨Y6 h,(e,e.lk.H.getD x.1 dz),⟨⟨X7,⟨(vR _),Z6⟩,Z6⟩,ht⟩,λhp=>(N9 h hp x.2.2).symm,λhp=>⟨W2 h Z9,x.succ h hp,⟨⟨X7,⟨rfl,U0 _,Z6⟩,rfl,I9,Z6⟩,Z6⟩,V5.ext_lt h⟩⟩
 ·have d:=Y0 C;exact(K2 λj J=>x.2.2 j (xY J d)).symm
def b2S:Con:=.rel ⟨Eng,λe=>[wN e.lk.H,eF1 e],λe=>.bool (anyI e.lk.H.length (wQ e)),HlL⟩
def b17(e:Eng)(h:
  ∃(x:Eng),(((Z0 Z2 e.lk.H x.lk.H)/\(Fn.func 233=Fn.func 233/\((L0 e x)/\True)/\True)/\True)/\HlL x)/\decide (S6 x.lk.H.length (wQ x)≥(0:Int))=anyI e.lk.H.length (wQ e)):
  V4 prog 232 [wN e.lk.H,eF1 e] (.bool (anyI e.lk.H.length (wQ e))):=
 U5 (gC a8O gN) func232 Z3 h
def a8l:GK 232 b2S:=gk func232<|λ(e:Eng) h=>b17 e ⟨e,⟨⟨X7,⟨rfl,⟨(vR _),Z6⟩,Z6⟩,Z6⟩,h⟩,C9 _ _⟩
def b8V:Con:=.rel ⟨Eng,λe=>[nG e.lk.W,eF2 e],λe=>.int .i64 (S6 e.lk.W.length (s6 e)),HlL⟩
def b5y(e:Eng):Nat->Ann
 |0=>.one (V5 e.lk.W.length (s6 e)) (λx=>⟨[(0,nG e.lk.W),(1,eF2 e),(7,.int .i64 e.lk.W.length),(8,.int .i64 x.1)],[]⟩) (λx=>e.lk.W.length-x.1) [] [] (λ_=>Z3)
 |_=>.none
def b4o:GK 317 b8V:=gk func317<|by
 rintro(e:Eng) ⟨ht,g,f⟩;have g:e.lk.H.length<1000000000000:=g;have f:e.lk.W.length<1000000000000:=f;refine U5 (gC a15 gN) func317 (b5y e) (α:=let u:=(Z0 Y7 e.lk.W e.lk.W);let q:=(T.bref [T.bref e.ts]);let p:=(e.lk.W.length:Int);(∃(x:V5 e.lk.W.length (s6 e)),(u/\(Fn.func 235=Fn.func 235/\J7 (λ(x:Nat)=>none) q q/\True)/\p=p/\0=(x.1:Int)/\True)/\True)/\∀(x:V5 e.lk.W.length (s6 e)),let r:=(x.1:Int);let z:=(e.lk.W.getD r.toNat dz);bd (r<p) (W9 r e.lk.W.length/\∃(X:(Eng×Wt)),(((z.tx=X.2.tx/\z.fo=X.2.fo/\True)/\((L0 e X.1)/\True)/\True)/\TxL X.1)/\br (decide (T8 X.1.X X.2.tx<0)||decide (T8 X.1.X X.2.fo<0)) (r=S6 e.lk.W.length (s6 e)) (Ri (r+1)/\∃(y:V5 e.lk.W.length (s6 e)),((u/\(Fn.func 235=Fn.func 235/\J7 (λ(x:Nat)=>none) q q/\True)/\p=p/\r+1=(y.1:Int)/\True)/\True)/\Lt (e.lk.W.length-y.1) (e.lk.W.length-x.1))) ((-1:Int)=S6 e.lk.W.length (s6 e))) ⟨⟨F4,⟨X7,⟨rfl,U0 _,Z6⟩,X7⟩,Z6⟩,λx=>⟨λC=>?_,λC=>?_⟩⟩
 ·have h:=Y2 C;refine⟨Y6 h,(e,e.lk.W.getD x.1 dz),⟨⟨X7,⟨(vR _),Z6⟩,Z6⟩,ht⟩,λhp=>(N9 h hp x.2.2).symm,λhp=>⟨W2 h Z9,x.succ h hp,⟨⟨X7,⟨rfl,U0 _,Z6⟩,rfl,I9,Z6⟩,Z6⟩,V5.ext_lt h⟩⟩
 ·have d:=Y0 C;exact(K2 λj J=>x.2.2 j (xY J d)).symm
def b55:Con:=.rel ⟨Eng,λe=>[nG e.lk.W,eF2 e],λe=>.bool (anyI e.lk.W.length (s6 e)),HlL⟩
def b6q(e:Eng)(h:
  ∃(x:Eng),(((Z0 Y7 e.lk.W x.lk.W)/\(Fn.func 235=Fn.func 235/\((L0 e x)/\True)/\True)/\True)/\HlL x)/\decide (S6 x.lk.W.length (s6 x)≥(0:Int))=anyI e.lk.W.length (s6 e)):
  V4 prog 234 [nG e.lk.W,eF2 e] (.bool (anyI e.lk.W.length (s6 e))):=
 U5 (gC b4o gN) func234 Z3 h
def b1E:GK 234 b55:=gk func234<|λ(e:Eng) h=>b6q e ⟨e,⟨⟨X7,⟨rfl,⟨(vR _),Z6⟩,Z6⟩,Z6⟩,h⟩,C9 _ _⟩
def y7(e:Eng)(i:Nat):Bool:= !V6 (e.X.getD i dz).id 1 (e.N-1)||(decide ((i:Int)>0)&&decide ((e.X.getD (i-1) dz).id≥(e.X.getD i dz).id))|| !nD e.s.L (e.X.getD i dz)
def wC(e:Eng):Bool:=decide (e.X.length<=10)&&V6 e.N 1 61&&B8 e.lk
def a4o(e:Eng):Bool:=decide (e.X.length+e.lk.H.length+e.lk.W.length+e.s.fr.length=0)
def upE(e:Eng):Bool:= !anyI e.X.length (y7 e)&& !anyI e.lk.H.length (wQ e)&& !anyI e.lk.W.length (s6 e)&&decide (e.s.L.length+nK e<=60)
def sQ(e:Eng):Bool:=wC e&&(if e.up then upE e else a4o e)
def c8k(e:Eng):Prop:=xH e.s.L/\b7Z e.lk/\L9 e.X.length/\L9 e.s.fr.length
def a6s:Con:=.rel ⟨Eng,λe=>[.bref e.ts],λe=>.bool (sQ e),c8k⟩
def c6h(e:Eng):Option Ob:=some (.arr true 1000000 1 1 λ_=>[.bref e.ts])
def a7h(e:Eng):Nat->Ann
 |0=>.one (V5 e.X.length (y7 e)) (λx=>⟨[(1,.ref 0 0 0),(62,tV e.X),(63,.int .i64 e.X.length),(64,.int .i64 x.1)],[c6h e]⟩) (λx=>e.X.length-x.1) [.box 0] [.box 0] (λ_=>Z3)
 |_=>.none
def b8g(e:Eng):(decide ((e.X.length:Int)>10)|| !V6 e.N 1 61|| !B8 e.lk)= !wC e:=by
 unfold wC;rw[Bool.not_and,Bool.not_and,←decide_not];congr 2
 exact decide_eq_decide.2 Z9
def b0G{e:Eng}(h:wC e=false):sQ e=false:=by unfold sQ;rw[h];rfl
def b1i{e:Eng}(h:wC e=true)(u:e.up=true):sQ e=upE e:=by unfold sQ;rw[h,if_pos u];rfl
def b0h{e:Eng}(h:wC e=true)(u:e.up=false):sQ e=a4o e:=by unfold sQ;rw[h,u];rfl
def a86{e:Eng}{i:Nat}(hi:i<e.X.length)(h:y7 e i=true):upE e=false:=by
 have:anyI e.X.length (y7 e)=true:=R9.2 ⟨i,hi,h⟩;unfold upE;rw[this];rfl
def c6H{e:Eng}{i:Nat}(hi:i<e.lk.H.length)(h:wQ e i=true):upE e=false:=by
 have:anyI e.lk.H.length (wQ e)=true:=R9.2 ⟨i,hi,h⟩;unfold upE;rw[this];simp
def c7t{e:Eng}{i:Nat}(hi:i<e.lk.W.length)(h:s6 e i=true):upE e=false:=by
 have:anyI e.lk.W.length (s6 e)=true:=R9.2 ⟨i,hi,h⟩;unfold upE;rw[this];simp
def xG{e:Eng}(h:wC e=true):e.X.length<=10/\1<=e.N/\e.N<=61/\B8 e.lk=true:=by
 unfold wC at h;simp only[J5,o8,K5] at h;exact⟨h.1.1,h.1.2.1,h.1.2.2,h.2⟩
def c4F{e:Eng}(L:xH e.s.L)(h:wC e=true)(B:∀i,i<e.X.length->y7 e i=false):wR e:=by
 refine⟨L,(xG h).1,λi hi=>?_⟩
 have:=B i hi;unfold y7 at this;simp only[wS,wU] at this;have:=this.2;unfold nD at this;simp only[J5,K5] at this;exact this.1.2
def a3B:GK 140 a6s:=gk func140<|by
 rintro(e:Eng) ⟨hL,hk,t,F⟩;have t:e.X.length<1000000000000:=t;have F:e.s.fr.length<1000000000000:=F;have d:e.lk.H.length<1000000000000:=hk.1;have h:e.lk.W.length<1000000000000:=hk.2;refine U5 (gC O1 (gC a3a (gC a8I (gC a8l (gC b1E (gC gT gN)))))) func140 (a7h e) (α:=let m:=(e.s.fr.length:Int);let k:=(false=sQ e);let w:=(e.lk.W.length:Int);let u:=(e.lk.H.length:Int);let z:=(1=1/\1=1/\J7 (m9 [some 0]) (T.bref e.ts) (T.bref e.ts)/\True);let q:=(e.X.length:Int);∃(x:qW.ι),((decide (q>10)|| !V6 e.N (1:Int) (61:Int))=false->(((Z0 Z2 e.lk.H x.H)/\(Z0 Y7 e.lk.W x.W)/\True)/\True)/\b7Z x)/\br (decide (q>10)|| !V6 e.N (1:Int) (61:Int)|| !B8 x) k (br (!e.up) (Ri (q+u)/\Ri (q+u+w)/\Ri (q+u+w+m)/\(q+u+w+m==0)=sQ e) ((∃(x:V5 e.X.length (y7 e)),((0=0/\0=0)/\(Z0 X2 e.X e.X)/\q=q/\0=(x.1:Int)/\True)/\z/\True)/\∀(x:V5 e.X.length (y7 e)),let r:=(x.1:Int);let p:=(e.X.getD r.toNat dz);let j:=(!V6 p.id (1:Int) (e.N-1));let v:=((e.X.getD (r-1).toNat dz).id≥p.id);bd (r<q) (W9 r e.X.length/\Ri (e.N-1)/\(j=false->decide (r>0)=true->Ri (r-1))/\(j=false->decide (r>0)=true->W9 (r-1) e.X.length)/\∃(X:(Sto×Txn)),((!V6 p.id (1:Int) (e.N-1)||decide (r>0)&&decide v)=false->((yS e.s X.1)/\(p.id=X.2.id/\p.Z=X.2.Z/\True)/\True)/\xH X.1.L)/\br (!V6 p.id (1:Int) (e.N-1)||decide (r>0)&&decide v|| !nD X.1.L X.2) k (Ri (r+1)/\∃(y:V5 e.X.length (y7 e)),(((0=0/\0=0)/\(Z0 X2 e.X e.X)/\q=q/\r+1=(y.1:Int)/\True)/\z/\True)/\Lt (e.X.length-y.1) (e.X.length-x.1))) (∃(x:Eng),(((Z0 Z2 e.lk.H x.lk.H)/\(Fn.func 233=Fn.func 233/\((L0 e x)/\True)/\True)/\True)/\HlL x)/\∃(X:Eng),(anyI x.lk.H.length (wQ x)=false->((Z0 Y7 e.lk.W X.lk.W)/\(Fn.func 235=Fn.func 235/\((L0 e X)/\True)/\True)/\True)/\HlL X)/\br (anyI x.lk.H.length (wQ x)||anyI X.lk.W.length (s6 X)) k (∃(x:(Eng×Int)),(((L0 e x.1)/\0=x.2/\True)/\wR x.1/\m5 x.2)/\decide ((x.1.s.L.length:Int)+(↑(nK x.1):Int)+x.2<=60)=sQ e))))) ⟨e.lk,λ_=>⟨X7,hk⟩,λhb=>?_,λhb=>⟨λhu=>?_,λhu=>?_⟩⟩
 ·rw[b8g] at hb;rw[b0G jH]
 ·rw[b8g] at hb;rw[b0h jH a5S]
  refine⟨Z4 Z9,Z4 Z9,Z4 Z9,?_⟩
  unfold a4o;rw[Bool.eq_iff_iff,beq_iff_eq,o8];omega
 ·rw[b8g] at hb;have hh:wC e=true:=by simpa using hb
  have f:e.up=true:=a5S
  obtain⟨Q,l,j,q⟩:=xG hh;rw[b1i hh f];refine⟨⟨F4,X7,⟨rfl,rfl,U0 _,Z6⟩,Z6⟩,λx=>⟨λhc=>?_,λhc=>?_⟩⟩
  ·have hlt:=Y2 hc;refine⟨Y6 hlt,Z4 Z9,λ_ _=>Z4 Z9,λ_ h0=>⟨b7J,Z9⟩,(e.s,e.X.getD x.1 dz),λ_=>⟨⟨(jR _),X7⟩,hL⟩,λhq=>?_,λhq=>?_⟩
   ·rw[E3,show((x.1:Int)-1).toNat=x.1-1 by omega] at hq
    exact(a86 hlt hq).symm
   ·rw[E3,show((x.1:Int)-1).toNat=x.1-1 by omega] at hq
    exact⟨W2 hlt Z9,x.succ hlt hq,⟨⟨X7,X7,rfl,I9,Z6⟩,⟨rfl,rfl,U0 _,Z6⟩,Z6⟩,V5.ext_lt hlt⟩
  ·have hge:=Y0 hc;have hno:∀i,i<e.X.length->y7 e i=false:=λi hi=>x.2.2 i (xY hi hge)
   have n:=c4F hL hh hno;have g:anyI e.X.length (y7 e)=false:=P5.2 hno;refine⟨e,⟨⟨X7,⟨rfl,⟨(vR _),Z6⟩,Z6⟩,Z6⟩,t,d,h⟩,e,λ_=>⟨⟨X7,⟨rfl,⟨(vR _),Z6⟩,Z6⟩,Z6⟩,t,d,h⟩,λhq=>?_,λhq=>⟨(e,0),⟨⟨(vR _),X7⟩,n,b7f⟩,?_⟩⟩
   ·unfold upE;rw[g];simp only[nT] at hq;rcases hq with hq|hq<;>rw[hq]<;>simp
   ·simp only[wS] at hq;unfold upE;rw[g,hq.1,hq.2];simp only[Bool.not_false,Bool.true_and];exact decide_eq_decide.2 Z9
def R3(e:Eng):Bool:=F7 e.s&&sQ e
def iZ(e:Eng):Prop:=b26 e.s/\b7Z e.lk/\L9 e.X.length
def tT:Rl:=⟨Eng,λe=>[.agg e.ts],λe=>.bool (R3 e),iZ⟩
def a5B:Con:=.rel tT
def a4r:Con:=.rel tT
def a2I{s:Sto}(h:F7 s=true):xH s.L:=by
 obtain⟨⟨e,d,_⟩,_⟩:=(G4 s).1 h;exact⟨((o5 s).1 e).2.2.2.2,λi hi=>by
  obtain⟨a,b⟩:=C4.1 d i hi;exact⟨(Q4 _).1 a,b⟩⟩
def a1Q:GK 65 a5B:=gk func65<|by
 rintro(e:Eng) ⟨h1,h2,h3⟩;exact U5 (gC a3x (gC a3B gN)) func65 Z3 (α:=∃(x:qF.ι),(((yS e.s x)/\True)/\b26 x)/\∃(X:Eng),(F7 x=true->((L0 e X)/\True)/\c8k X)/\(F7 x&&sQ X)=R3 e) ⟨e.s,⟨⟨(jR _),Z6⟩,h1⟩,e,λh=>⟨⟨(vR _),Z6⟩,a2I h,h2,h3,h1.2.2.1.1⟩,rfl⟩
def Chs(L:List Rec)(t:Txn):Type:={x:Nat×Int//(decide (x.2<=0)||chn L t.id x.1 x.2)=nD L t/\x.2<=(L.length:Int)/\x.2.toNat<x.1}
def a3g(e:Eng):Nat->Ann
 |0=>.one (V5 e.X.length (y7 e)) (λx=>⟨[(1,.ref 0 0 0),(3,.int .i64 x.1)],[l8 e]⟩) (λx=>e.X.length-x.1) [.box 0] [.box 0] (λx=>fun
  |1=>.one (Chs e.s.L (e.X.getD x.1 dz)) (λy=>⟨[(1,.ref 0 0 0),(3,.int .i64 x.1),(4,.ref 1 0 0),(5,.int .i64 y.1.2)],[l8 e,b5r (e.X.getD x.1 dz)]⟩) (λy=>y.1.1) iQ iQ (λ_=>Z3)
  |2=>.one (V5 e.lk.H.length (wQ e)) (λy=>⟨[(1,.ref 0 0 0),(7,.int .i64 y.1)],[l8 e]⟩) (λy=>e.lk.H.length-y.1) [.box 0] [.box 0] (λ_=>fun
   |3=>.one (V5 e.lk.W.length (s6 e)) (λz=>⟨[(1,.ref 0 0 0),(8,.int .i64 z.1)],[l8 e]⟩) (λz=>e.lk.W.length-z.1) [.box 0] [.box 0] (λ_=>Z3)
   |_=>.none)
  |_=>.none)
 |_=>.none
def c9G{L:List Rec}(hL:xH L)(id:Int){at_:Int}(e:1<=at_)(d:at_<=L.length):
  ((Y8 L at_).t !=id||(Y8 L at_).k==4||(Y8 L at_).k==5||(Y8 L at_).k==6||(Y8 L at_).k==3&& !a4L L (Y8 L at_))= !okR L id at_:=by
 obtain⟨r,l⟩:=hL.at e d;obtain⟨j,o,g,i⟩:=hL.prev e d;obtain⟨_,_,_,_,k1,q,_⟩:=r;unfold okR ownR;rw[K5.2 ⟨e,d⟩,Bool.true_and];by_cases ht:(Y8 L at_).t=id
 ·rw[show((Y8 L at_).t !=id)=false by simpa using ht,show((Y8 L at_).t==id)=true by simpa using ht,Bool.false_or,Bool.true_and]
  by_cases hk:(Y8 L at_).k<=3
  ·rw[K5.2 ⟨k1,hk⟩,show((Y8 L at_).k==4)=false by rw[beq_eq_false_iff_ne];omega,show((Y8 L at_).k==5)=false by rw[beq_eq_false_iff_ne];omega,show((Y8 L at_).k==6)=false by rw[beq_eq_false_iff_ne];omega]
   simp only[Bool.false_or,Bool.true_and];by_cases h3:(Y8 L at_).k=3
   ·rw[show((Y8 L at_).k==3)=true by simpa using h3,show((Y8 L at_).k !=3)=false by simpa using h3,Bool.true_and,Bool.false_or]
    congr 1
    unfold a4L;by_cases hn:(Y8 L at_).n>0
    ·obtain⟨hr2,_⟩:=hL.at (show 1<=(Y8 L at_).n by omega) Z9
     have f:1<=(Y8 L (Y8 L at_).n).k:=hr2.2.2.2.2.1;rw[mO hn,K5.2 (show 1<=(Y8 L at_).n/\(Y8 L at_).n<=(L.length:Int) by omega),Bool.true_and,Bool.true_and,ht]
     congr 1
     unfold V6;rw[mO f,Bool.true_and]
    ·rw[tQ hn,show V6 (Y8 L at_).n 1 L.length=false from Bool.eq_false_iff.2 λh=>by have:=K5.1 h;omega]
     rfl
   ·rw[show((Y8 L at_).k==3)=false by simpa using h3,show((Y8 L at_).k !=3)=true by simpa using h3]
    rfl
  ·rw[show V6 (Y8 L at_).k 1 3=false from Bool.eq_false_iff.2 λh=>by have:=K5.1 h;omega]
   simp only[Bool.false_and,Bool.not_false,nT,beq_iff_eq];exact .inl Z9
 ·rw[show((Y8 L at_).t !=id)=true by simpa using ht,show((Y8 L at_).t==id)=false by simpa using ht]
  rfl
def b7O(e:Eng):(!F7 e.s||decide ((e.X.length:Int)>10)|| !B8 e.lk|| !V6 e.N 1 61)= !(F7 e.s&&wC e):=by
 unfold wC;rw[show decide ((e.X.length:Int)>10)= !decide (e.X.length<=10) by rw[←decide_not];exact decide_eq_decide.2 Z9]
 cases F7 e.s<;>cases decide (e.X.length<=10)<;>cases B8 e.lk<;>cases V6 e.N 1 61<;>rfl
def a1b:GK 32 a4r:=gk func32<|by
 rintro(e:Eng) ⟨hS,hk,o⟩;have o:e.X.length<1000000000000:=o;have v:e.lk.H.length<1000000000000:=hk.1;have u:e.lk.W.length<1000000000000:=hk.2;refine U5 (gC a3k (gC a5T (gC z9 (gC a8Z (gC a5u (gC pT gN)))))) func32 (a3g e) (α:=let pa:=(e.s.L.length:Int);let f:=(false=R3 e);let m:=(e.X.length:Int);let w:=(0=0/\0=0);let v:=(1=1/\1=1/\L0 e e);∃(x:qF.ι),(((yS e.s x)/\True)/\b26 x)/\∃(h:qW.ι),((!F7 x||decide (m>10))=false->(((Z0 Z2 e.lk.H h.H)/\(Z0 Y7 e.lk.W h.W)/\True)/\True)/\b7Z h)/\br (!F7 x||decide (m>10)|| !B8 h|| !V6 e.N (1:Int) (61:Int)) f (br (!e.up) ((m==0&&(e.lk.H.length:Int)==0&&(e.lk.W.length:Int)==0&&(e.s.fr.length:Int)==0)=R3 e) ((∃(x:V5 e.X.length (y7 e)),(w/\0=(x.1:Int)/\True)/\v/\True)/\∀(x:V5 e.X.length (y7 e)),let u:=(e.X.getD x.1 dz);let z:=(x.1:Int);let r:=(e.X.getD z.toNat dz);let pc:=(!V6 r.id (1:Int) (e.N-1));bd (z<m) (W9 z e.X.length/\Ri (e.N-1)/\(pc=false->decide (z>0)=true->Ri (z-1))/\(pc=false->decide (z>0)=true->W9 (z-1) e.X.length)/\br (!V6 r.id (1:Int) (e.N-1)||decide (z>0)&&decide ((e.X.getD (z-1).toNat dz).id≥r.id)|| !V6 r.Z (1:Int) pa) f ((∃(X:Chs e.s.L (e.X.getD x.1 dz)),(w/\z=z/\w/\r.Z=X.val.2/\True)/\v/\(1=1/\1=1/\r.id=u.id/\r.Z=u.Z/\True)/\True)/\∀(X:Chs e.s.L (e.X.getD x.1 dz)),let c:=(X.val.2-1);let q:=(e.s.L.getD c.toNat dz);bd (X.val.2>0) (Ri c/\W9 c e.s.L.length/\∃(d:(Sto×Rec)),((q.t !=u.id||q.k==4||q.k==5||q.k==6)=false->(q.k==3)=true->((yS e.s d.1)/\(q.e=d.2.e/\q.l=d.2.l/\q.t=d.2.t/\q.k=d.2.k/\q.p=d.2.p/\q.n=d.2.n/\q.g=d.2.g/\q.s=d.2.s/\q.b=d.2.b/\q.a=d.2.a/\True)/\True)/\d.2.n<=(d.1.L.length:Int)/\L9 d.1.L.length)/\br (q.t !=u.id||q.k==4||q.k==5||q.k==6||q.k==3&& !a4L d.1.L d.2) f (Ri c/\W9 c e.s.L.length/\∃(y:Chs e.s.L (e.X.getD x.1 dz)),((w/\z=z/\w/\q.p=y.1.2/\True)/\v/\(1=1/\1=1/\u.id=u.id/\u.Z=u.Z/\True)/\True)/\Lt y.1.1 X.val.1)) (Ri (z+1)/\∃(y:V5 e.X.length (y7 e)),((w/\z+1=(y.1:Int)/\True)/\v/\True)/\Lt (e.X.length-y.1) (e.X.length-x.1)))) ((∃(x:V5 e.lk.H.length (wQ e)),(w/\0=(x.1:Int)/\True)/\v/\True)/\∀(x:V5 e.lk.H.length (wQ e)),let i:=(x.1:Int);bd (i<(e.lk.H.length:Int)) (W9 i e.lk.H.length/\∃(X:(Eng×Int)),(((L0 e X.1)/\(e.lk.H.getD i.toNat dz).tx=X.2/\True)/\L9 X.1.X.length)/\bd (T8 X.1.X X.2<0) f (Ri (i+1)/\∃(y:V5 e.lk.H.length (wQ e)),((w/\i+1=(y.1:Int)/\True)/\v/\True)/\Lt (e.lk.H.length-y.1) (e.lk.H.length-x.1))) ((∃(x:V5 e.lk.W.length (s6 e)),(w/\0=(x.1:Int)/\True)/\v/\True)/\∀(x:V5 e.lk.W.length (s6 e)),let j:=(x.1:Int);let pd:=(e.lk.W.getD j.toNat dz);bd (j<(e.lk.W.length:Int)) (W9 j e.lk.W.length/\∃(X:(Eng×Int)),let pb:=(T8 X.1.X X.2<0);(((L0 e X.1)/\pd.tx=X.2/\True)/\L9 X.1.X.length)/\(decide pb=false->W9 j e.lk.W.length)/\∃(d:(Eng×Int)),(decide pb=false->((L0 e d.1)/\pd.fo=d.2/\True)/\L9 d.1.X.length)/\br (decide pb||decide (T8 d.1.X d.2<0)) f (Ri (j+1)/\∃(y:V5 e.lk.W.length (s6 e)),((w/\j+1=(y.1:Int)/\True)/\v/\True)/\Lt (e.lk.W.length-y.1) (e.lk.W.length-x.1))) (∃(x:Eng),(((L0 e x)/\True)/\wR x)/\Ri (pa+(↑(nK x):Int))/\decide (pa+(↑(nK x):Int)<=60)=R3 e)))))) ⟨e.s,⟨⟨(jR _),Z6⟩,hS⟩,e.lk,λ_=>⟨X7,hk⟩,λhb=>?_,λhb=>?_⟩
 ·rw[b7O] at hb;unfold R3;cases h1:F7 e.s
  ·rfl
  ·rw[h1] at hb;rw[b0G jH]
   rfl
 rw[b7O] at hb;simp only[wU,J5] at hb;obtain⟨q,hh⟩:=hb;have L:=a2I q;have r:=L.1;obtain⟨Q,U,N,R⟩:=xG hh;have eo:R3 e=sQ e:=by unfold R3;rw[q,Bool.true_and]
 refine⟨λhu=>?_,λhu=>?_⟩
 ·rw[eo,b0h hh a5S]
  unfold a4o;rw[Bool.eq_iff_iff];simp only[J5,beq_iff_eq,o8];omega
 ·have hu':e.up=true:=by simpa using hu
  rw[eo,b1i hh hu'];refine⟨⟨F4,X7⟩,λx=>⟨λhc=>?_,λhc=>?_⟩⟩
  ·have hlt:=Y2 hc;rw[E3,show((x.1:Int)-1).toNat=x.1-1 by omega]
   refine⟨Y6 hlt,Z4 Z9,λ_ _=>Z4 Z9,λ_ h0=>⟨b7J,Z9⟩,λhq=>?_,λhq=>?_⟩
   ·refine(a86 hlt ?_).symm
    unfold y7 nD;rw[Bool.not_and,←Bool.or_assoc,hq];rfl
   ·simp only[wS,wU] at hq;obtain⟨⟨r1,r2⟩,r3⟩:=hq;obtain⟨l1,l2⟩:=K5.1 r3;refine⟨⟨⟨(61,(e.X.getD x.1 dz).Z),?_,l2,X5⟩,X7⟩,λy=>?_⟩
    ·dsimp only;unfold nD;rw[tQ Z9,r3]
     rfl
    obtain⟨⟨f,at_⟩,he,j,F⟩:=y;dsimp only at he j F ⊢;refine⟨λhy=>?_,λhy=>?_⟩
    ·have h0:at_>0:=G7 hy;have h1:1<=at_:=by omega
     obtain⟨O,M,I,J⟩:=L.prev h1 j;rw[tQ Z9,Bool.false_or,fW _ _ Z9 h1] at he
     have es:=c9G L (e.X.getD x.1 dz).id h1 j;refine⟨Z4 Z9,⟨Z9,Z9⟩,(e.s,Y8 e.s.L at_),λ_ _=>⟨⟨(jR _),X7⟩,X5,rU⟩,λhq=>?_,λhq=>?_⟩
     ·have hq:=es.symm.trans hq;refine(a86 hlt ?_).symm
      rw[show okR e.s.L (e.X.getD x.1 dz).id at_=false by simpa using hq] at he
      unfold y7;rw[←he];simp
     ·have hq:=es.symm.trans hq;rw[show okR e.s.L (e.X.getD x.1 dz).id at_=true by simpa using hq,Bool.true_and] at he
      refine⟨Z4 Z9,⟨Z9,Z9⟩,⟨(f-1,(Y8 e.s.L at_).p),?_,X5,X5⟩,X7,show f-1<f by omega⟩
      dsimp only;rw[←he];by_cases hp:(Y8 e.s.L at_).p<=0
      ·rw[a38 _ _ _ hp,Bool.or_true]
      ·rw[tQ hp,Bool.false_or]
    ·have h0:at_<=0:=by have:=r9 hy;omega
     rw[mO h0,Bool.true_or] at he;exact⟨W2 hlt Z9,x.succ hlt (by unfold y7;rw[←he,r1,r2];rfl),⟨⟨⟨rfl,rfl⟩,I9,Z6⟩,⟨rfl,rfl,vR _⟩,Z6⟩,V5.ext_lt hlt⟩
  ·have hge:=Y0 hc;have hno:∀i,i<e.X.length->y7 e i=false:=λi hi=>x.2.2 i (xY hi hge)
   have hn:=c4F L hh hno;refine⟨⟨F4,X7⟩,λy=>⟨λhy=>?_,λhy=>⟨⟨F4,X7⟩,λz=>⟨λhz=>?_,λhz=>?_⟩⟩⟩⟩
   ·have hlt:=Y2 hy;exact⟨Y6 hlt,(e,(e.lk.H.getD y.1 dz).tx),⟨⟨(vR _),X7⟩,o⟩,λhq=>(c6H hlt hq).symm,λhq=>⟨W2 hlt Z9,y.succ hlt hq,⟨⟨X7,I9,Z6⟩,X7⟩,V5.ext_lt hlt⟩⟩
   ·have hlt:=Y2 hz;exact⟨Y6 hlt,(e,(e.lk.W.getD z.1 dz).tx),⟨⟨(vR _),X7⟩,o⟩,λ_=>Y6 hlt,(e,(e.lk.W.getD z.1 dz).fo),λ_=>⟨⟨(vR _),X7⟩,o⟩,λhq=>(c7t hlt hq).symm,λhq=>⟨W2 hlt Z9,z.succ hlt hq,⟨⟨X7,I9,Z6⟩,X7⟩,V5.ext_lt hlt⟩⟩
   ·have g1:=Y0 hy;have g2:=Y0 hz;have hb:=dF e.s.L e.X e.X.length;have he:nK e=tR e.s.L e.X e.X.length:=rfl;refine⟨e,⟨⟨(vR _),Z6⟩,hn⟩,Z4 Z9,?_⟩
    have B:anyI e.X.length (y7 e)=false:=P5.2 hno;have A:anyI e.lk.H.length (wQ e)=false:=P5.2 λi hi=>y.2.2 i (xY hi g1)
    have C:anyI e.lk.W.length (s6 e)=false:=P5.2 λi hi=>z.2.2 i (xY hi g2)
    unfold upE;rw[B,A,C];simp only[Bool.not_false,Bool.true_and];exact decide_eq_decide.2 Z9
def b7a:GK 44 c4g:=gk func44<|by
 rintro(s:Sto) ⟨h1,h2,h3,h4⟩;exact c3w s ⟨s.d,⟨⟨(eqD _),(eqD _),Z6⟩,h1⟩,λh=>h,λ_=>⟨λh=>L4,λ_=>⟨s.L,⟨X7,h2⟩,λh=>h,λ_=>⟨λh=>L4,λ_=>⟨s.fr,⟨X7,h3,h4⟩,λh=>h,λ_=>⟨λh=>L4,λ_=>rfl⟩⟩⟩⟩⟩⟩
def sI{α:Type}(f:α->Nat)(L:List α):L.length<=S3 f L:=by
 have:=w8 f L L.length (N4 L.length);have h:V3 f L L.length 0=L.length:=rfl;unfold S3;omega
def a4b{α:Type}(f:α->Nat)(L:List α)(d:α){i:Nat}(hi:i<L.length):f (L.getD i d)+L.length<=S3 f L:=by
 have e:=w8 f L L.length (show i+1<=L.length from hi)
 have h:=zL f L L.length d hi;have g:=w8 f L L.length (N4 i);have z:V3 f L L.length 0=L.length:=rfl;unfold S3;omega
def b0Z{l:Int}{n:Nat}(h:¬rem l n<0):(n:Int)<=l:=by
 by_cases q:(n:Int)<=l
 ·exact q
 ·rw[I7 Z9] at h
  omega
def b29{s:Sto}(h:zT s<=1048576):iC s/\b26 s:=by
 have e:zT s=S3 A4 s.d.E+S3 K9 s.d.C+s.d.keep.length+S3 N8 s.L+S3 K3 s.fr:=rfl;have n:=sI A4 s.d.E;have o:=sI K9 s.d.C;have t:=sI N8 s.L;have A:=sI K3 s.fr;have f:∀i,i<s.fr.length->(s.fr.getD i dz).pg.sl.length<=1048576:=λi hi=>by
  have g:=a4b K3 s.fr dz hi;have q:=sI A4 (s.fr.getD i dz).pg.sl;have j:K3 (s.fr.getD i dz)=S3 A4 (s.fr.getD i dz).pg.sl:=rfl;omega
 have l:∀r ∈ s.L,r.a.length<=1048576:=λr R=>by
  obtain⟨i,hi,rfl⟩:=List.mem_iff_getElem.1 R;have g:=a4b N8 s.L dz hi;rw[P4,I1 hi,Option.getD_some] at g
  have j:N8 s.L[i]=s.L[i].b.length+s.L[i].a.length:=rfl;omega
 refine⟨⟨⟨Z9,Z9,Z9⟩,Z9,Z9,f⟩,⟨sV,sV,sV⟩,⟨Z9,λr R=>by have:=l r R;omega⟩,⟨sV,λi hi=>?_⟩,λr R=>?_⟩
 ·have:=f i hi;show(s.fr.getD i dz).pg.sl.length<1000000000000;omega
 ·have:=l r R;show r.a.length<1000000000000;omega
def a20:Rl:=⟨List Txn×Int,λx=>[tV x.1,.int .i64 x.2],λx=>.int .i64 (rem x.2 x.1.length),λx=>C3 x.2/\mP x.1.length⟩
def b6u:Con:=.rel a20
def b3l:GK 30 b6u:=gk func30<|by
 rintro⟨L,l⟩ ⟨⟨e,d⟩,n⟩;have n:L.length<=9223372036854775807:=n;simp only at e d;refine U5 gN func30 Z3 (α:=let p:=(L.length:Int);R2 .i64 (l- p)/\(decide (l- p<0)=true->(-1:Int)=rem l L.length)/\(decide (l- p<0)=false->l- p=rem l L.length)) ?_
 simp only[k7,o8,uH];exact⟨Z9,λh=>(I7 Z9).symm,λh=>(D9 Z9).symm⟩
def a9r:Rl:=⟨Txn,λr=>[.agg r.ts],λr=>.agg r.ts,λ_=>True⟩
def c4j:Con:=.rel a9r
def c3H(r:Txn)(h:
  r.id=r.id/\r.Z=r.Z/\True):
  V4 prog 88 [.agg r.ts] (.agg r.ts):=
 U5 gN func88 Z3 h
def b5d:GK 88 c4j:=gk func88<|λr _=>c3H r X7
def a9q:Rl:=⟨Txn,λr=>[.agg r.ts,.agg r.ts],λ_=>.bool true,λ_=>True⟩
def c0u:Con:=.rel a9q
def b9x:GK 103 c0u:=gk func103<|by
 intro r _;refine U5 gN func103 Z3 (α:=((r.id !=r.id)=true->false=true)/\((r.id !=r.id)=false->((r.Z !=r.Z)=true->false=true)/\((r.Z !=r.Z)=false->true=true))) ?_
 simp
def b68(L:List Txn):Nat->Ann
 |0=>.one (Up L.length) (λx=>⟨[(0,tV L),(3,.osl 0 0 L.length),(4,.int .i64 x.1)],[some (.arr true 0 2 L.length (xX (X2 L) [.int .i64 0,.int .i64 0] x.1))]⟩) (λx=>L.length-x.1) [.arr 0] [.arr 0] (λ_=>Z3)
 |_=>.none
def a5k:Rl:=⟨List Txn,λL=>[tV L,tV L],λ_=>.bool true,λL=>L.length<=1048576⟩
def b7g:Con:=.rel a5k
def b99(L:List Txn):Nat->Ann
 |0=>.one (Up L.length) (λx=>⟨[(0,tV L),(1,tV L),(5,.int .i64 x.1)],[]⟩) (λx=>L.length-x.1) [] [] (λ_=>Z3)
 |_=>.none
def b3r:GK 45 b7g:=gk func45<|by
 intro(L:List Txn) (hL:L.length<=1048576);refine U5 (gC b9x gN) func45 (b99 L) (α:=let z:=(L.length:Int);let r:=(Z0 X2 L L);br (z !=z) (false=true) ((∃(x:Up L.length),(r/\r/\0=(x.1:Int)/\True)/\True)/\∀(x:Up L.length),let q:=(x.1:Int);let p:=(L.getD q.toNat dz);bd (q<z) (W9 q L.length/\W9 q L.length/\∃(X:a9q.ι),let u:=(p.id=X.id/\p.Z=X.Z/\True);((u/\u/\True)/\True)/\br false (false=true) (Ri (q+1)/\∃(y:Up L.length),((r/\r/\q+1=(y.1:Int)/\True)/\True)/\Lt (L.length-y.1) (L.length-x.1))) (true=true))) ⟨λh=>L4,λ_=>⟨⟨⟨0,N4 _⟩,⟨⟨S7,X6 _ _⟩,⟨S7,X6 _ _⟩,X7⟩,Z6⟩,λx=>⟨λC=>?_,λ_=>rfl⟩⟩⟩
 have t:=Y2 C;exact⟨Y6 t,Y6 t,L.getD x.1 dz,X7,λh=>h,λ_=>⟨W2 t Z9,⟨x.1+1,t⟩,⟨⟨⟨S7,X6 _ _⟩,⟨S7,X6 _ _⟩,M0,Z6⟩,Z6⟩,V5.ext_lt t⟩⟩
def a4l:Rl:=⟨List Lck×Int,λx=>[wN x.1,.int .i64 x.2],λx=>.int .i64 (rem x.2 x.1.length),λx=>C3 x.2/\mP x.1.length⟩
def b5b:Con:=.rel a4l
def b2u:GK 70 b5b:=gk func70<|by
 rintro⟨L,l⟩ ⟨⟨e,d⟩,n⟩;have n:L.length<=9223372036854775807:=n;simp only at e d;refine U5 gN func70 Z3 (α:=let p:=(L.length:Int);R2 .i64 (l- p)/\(decide (l- p<0)=true->(-1:Int)=rem l L.length)/\(decide (l- p<0)=false->l- p=rem l L.length)) ?_
 simp only[k7,o8,uH];exact⟨Z9,λh=>(I7 Z9).symm,λh=>(D9 Z9).symm⟩
def a9I:Rl:=⟨Lck,λr=>[.agg r.ts],λr=>.agg r.ts,λ_=>True⟩
def c0D:Con:=.rel a9I
def c2I(r:Lck)(h:
  r.tx=r.tx/\r.ta=r.ta/\r.row=r.row/\r.mo=r.mo/\True):
  V4 prog 177 [.agg r.ts] (.agg r.ts):=
 U5 gN func177 Z3 h
def b5l:GK 177 c0D:=gk func177<|λr _=>c2I r X7
def b0i:Rl:=⟨Lck,λr=>[.agg r.ts,.agg r.ts],λ_=>.bool true,λ_=>True⟩
def c1m:Con:=.rel b0i
def b7o:GK 194 c1m:=gk func194<|by
 intro r _;refine U5 gN func194 Z3 (α:=((r.tx !=r.tx)=true->false=true)/\((r.tx !=r.tx)=false->((r.ta !=r.ta)=true->false=true)/\((r.ta !=r.ta)=false->((r.row !=r.row)=true->false=true)/\((r.row !=r.row)=false->((r.mo !=r.mo)=true->false=true)/\((r.mo !=r.mo)=false->true=true))))) ?_
 simp
def b98(L:List Lck):Nat->Ann
 |0=>.one (Up L.length) (λx=>⟨[(0,wN L),(3,.osl 0 0 L.length),(4,.int .i64 x.1)],[some (.arr true 0 4 L.length (xX (Z2 L) [.int .i64 0,.int .i64 0,.int .i64 0,.int .i64 0] x.1))]⟩) (λx=>L.length-x.1) [.arr 0] [.arr 0] (λ_=>Z3)
 |_=>.none
def a3U:Rl:=⟨List Lck,λL=>[wN L,wN L],λ_=>.bool true,λL=>L.length<=1048576⟩
def b8F:Con:=.rel a3U
def b5j(L:List Lck):Nat->Ann
 |0=>.one (Up L.length) (λx=>⟨[(0,wN L),(1,wN L),(5,.int .i64 x.1)],[]⟩) (λx=>L.length-x.1) [] [] (λ_=>Z3)
 |_=>.none
def b3w:GK 104 b8F:=gk func104<|by
 intro(L:List Lck) (hL:L.length<=1048576);refine U5 (gC b7o gN) func104 (b5j L) (α:=let u:=(L.length:Int);let z:=(Z0 Z2 L L);br (u !=u) (false=true) ((∃(x:Up L.length),(z/\z/\0=(x.1:Int)/\True)/\True)/\∀(x:Up L.length),let r:=(x.1:Int);let p:=(L.getD r.toNat dz);bd (r<u) (W9 r L.length/\W9 r L.length/\∃(X:b0i.ι),let q:=(p.tx=X.tx/\p.ta=X.ta/\p.row=X.row/\p.mo=X.mo/\True);((q/\q/\True)/\True)/\br false (false=true) (Ri (r+1)/\∃(y:Up L.length),((z/\z/\r+1=(y.1:Int)/\True)/\True)/\Lt (L.length-y.1) (L.length-x.1))) (true=true))) ⟨λh=>L4,λ_=>⟨⟨⟨0,N4 _⟩,⟨⟨S7,X6 _ _⟩,⟨S7,X6 _ _⟩,X7⟩,Z6⟩,λx=>⟨λC=>?_,λ_=>rfl⟩⟩⟩
 have t:=Y2 C;exact⟨Y6 t,Y6 t,L.getD x.1 dz,X7,λh=>h,λ_=>⟨W2 t Z9,⟨x.1+1,t⟩,⟨⟨⟨S7,X6 _ _⟩,⟨S7,X6 _ _⟩,M0,Z6⟩,Z6⟩,V5.ext_lt t⟩⟩
def b0c:Rl:=⟨List Wt×Int,λx=>[nG x.1,.int .i64 x.2],λx=>.int .i64 (rem x.2 x.1.length),λx=>C3 x.2/\mP x.1.length⟩
def c1E:Con:=.rel b0c
def b7y:GK 71 c1E:=gk func71<|by
 rintro⟨L,l⟩ ⟨⟨e,d⟩,n⟩;have n:L.length<=9223372036854775807:=n;simp only at e d;refine U5 gN func71 Z3 (α:=let p:=(L.length:Int);R2 .i64 (l- p)/\(decide (l- p<0)=true->(-1:Int)=rem l L.length)/\(decide (l- p<0)=false->l- p=rem l L.length)) ?_
 simp only[k7,o8,uH];exact⟨Z9,λh=>(I7 Z9).symm,λh=>(D9 Z9).symm⟩
def b7u:Rl:=⟨Wt,λr=>[.agg r.ts],λr=>.agg r.ts,λ_=>True⟩
def c6m:Con:=.rel b7u
def c6B(r:Wt)(h:
  r.tx=r.tx/\r.fo=r.fo/\True):
  V4 prog 178 [.agg r.ts] (.agg r.ts):=
 U5 gN func178 Z3 h
def c3T:GK 178 c6m:=gk func178<|λr _=>c6B r X7
def b9s:Rl:=⟨Wt,λr=>[.agg r.ts,.agg r.ts],λ_=>.bool true,λ_=>True⟩
def c7L:Con:=.rel b9s
def c0r:GK 195 c7L:=gk func195<|by
 intro r _;refine U5 gN func195 Z3 (α:=((r.tx !=r.tx)=true->false=true)/\((r.tx !=r.tx)=false->((r.fo !=r.fo)=true->false=true)/\((r.fo !=r.fo)=false->true=true))) ?_
 simp
def c23(L:List Wt):Nat->Ann
 |0=>.one (Up L.length) (λx=>⟨[(0,nG L),(3,.osl 0 0 L.length),(4,.int .i64 x.1)],[some (.arr true 0 2 L.length (xX (Y7 L) [.int .i64 0,.int .i64 0] x.1))]⟩) (λx=>L.length-x.1) [.arr 0] [.arr 0] (λ_=>Z3)
 |_=>.none
def b0x:Rl:=⟨List Wt,λL=>[nG L,nG L],λ_=>.bool true,λL=>L.length<=1048576⟩
def c4k:Con:=.rel b0x
def c0l(L:List Wt):Nat->Ann
 |0=>.one (Up L.length) (λx=>⟨[(0,nG L),(1,nG L),(5,.int .i64 x.1)],[]⟩) (λx=>L.length-x.1) [] [] (λ_=>Z3)
 |_=>.none
def b7r:GK 105 c4k:=gk func105<|by
 intro(L:List Wt) (hL:L.length<=1048576);refine U5 (gC c0r gN) func105 (c0l L) (α:=let z:=(L.length:Int);let r:=(Z0 Y7 L L);br (z !=z) (false=true) ((∃(x:Up L.length),(r/\r/\0=(x.1:Int)/\True)/\True)/\∀(x:Up L.length),let q:=(x.1:Int);let u:=(L.getD q.toNat dz);bd (q<z) (W9 q L.length/\W9 q L.length/\∃(X:b9s.ι),let p:=(u.tx=X.tx/\u.fo=X.fo/\True);((p/\p/\True)/\True)/\br false (false=true) (Ri (q+1)/\∃(y:Up L.length),((r/\r/\q+1=(y.1:Int)/\True)/\True)/\Lt (L.length-y.1) (L.length-x.1))) (true=true))) ⟨λh=>L4,λ_=>⟨⟨⟨0,N4 _⟩,⟨⟨S7,X6 _ _⟩,⟨S7,X6 _ _⟩,X7⟩,Z6⟩,λx=>⟨λC=>?_,λ_=>rfl⟩⟩⟩
 have t:=Y2 C;exact⟨Y6 t,Y6 t,L.getD x.1 dz,X7,λh=>h,λ_=>⟨W2 t Z9,⟨x.1+1,t⟩,⟨⟨⟨S7,X6 _ _⟩,⟨S7,X6 _ _⟩,M0,Z6⟩,Z6⟩,V5.ext_lt t⟩⟩
def s5(s:Lks):Nat:=s.H.length+s.W.length
def a93(s:Lks):Prop:=mP s.H.length/\mP s.W.length
def uX(s:Lks):Prop:=s.H.length<=1048576/\s.W.length<=1048576
def c3o:Con:=.rel ⟨Lks×Int,λx=>[.agg x.1.ts,.int .i64 x.2],λx=>.int .i64 (rem x.2 (s5 x.1)),λx=>C3 x.2/\a93 x.1⟩
def b6V:GK 31 c3o:=gk func31<|by
 rintro⟨s,l⟩ ⟨L,f,d⟩;simp only at L f d;have e:s5 s=s.H.length+s.W.length:=rfl;refine U5 (gC b2u (gC b7y gN)) func31 Z3 (α:=let p:=((-1:Int)=rem l (s5 s));∃(x:a4l.ι),let q:=x.1.length;(((Z0 Z2 s.H x.1)/\l=x.2/\True)/\C3 x.2/\mP q)/\bd (rem x.2 q<0) p (∃(X:b0c.ι),(((Z0 Y7 s.W X.1)/\rem x.2 q=X.2/\True)/\C3 X.2/\mP X.1.length)/\bd (rem X.2 X.1.length<0) p (rem X.2 X.1.length=rem l (s5 s)))) ⟨(s.H,l),⟨X7,L,f⟩,λh=>(B0 (G7 h) cP).symm,λh=>?_⟩
 obtain⟨q,i⟩:=yF (b:=s.W.length) (r9 h) L rfl;refine⟨(s.W,rem l (s.H.length)),⟨X7,i,d⟩,λg=>?_,λg=>?_⟩
 ·simp only at g;rw[q] at g;exact(B0 (G7 g) cP).symm
 exact q
def c2D:Con:=.rel ⟨Lks,λs=>[.agg s.ts,.agg s.ts],λ_=>.bool true,uX⟩
def c0h:GK 46 c2D:=gk func46<|by
 rintro(s:Lks) ⟨h0,h1⟩;exact U5 (gC b3w (gC b7r gN)) func46 Z3 (α:=∃(x:a3U.ι),(((Z0 Z2 s.H x)/\(Z0 Z2 s.H x)/\True)/\x.length<=1048576)/\br false (false=true) (∃(x:b0x.ι),(((Z0 Y7 s.W x)/\(Z0 Y7 s.W x)/\True)/\x.length<=1048576)/\br false (false=true) (true=true))) ⟨s.H,⟨X7,h0⟩,λh=>h,λ_=>⟨s.W,⟨X7,h1⟩,λh=>h,λ_=>rfl⟩⟩
def l0(s:Eng):Nat:=zT s.s+s.X.length+s5 s.lk
def b01(s:Eng):Prop:=LmS s.s/\mP s.X.length/\a93 s.lk
def M7(s:Eng):Prop:=iC s.s/\s.X.length<=1048576/\uX s.lk
def c3E:Con:=.rel ⟨Eng×Int,λx=>[.agg x.1.ts,.int .i64 x.2],λx=>.int .i64 (rem x.2 (l0 x.1)),λx=>C3 x.2/\b01 x.1⟩
def b9y:GK 8 c3E:=gk func8<|by
 rintro⟨s,l⟩ ⟨L,i,f,d⟩;simp only at L i f d;have e:l0 s=zT s.s+s.X.length+s5 s.lk:=rfl;refine U5 (gC b9H (gC b3l (gC b6V gN))) func8 Z3 (α:=let p:=((-1:Int)=rem l (l0 s));∃(x:a9n.ι),(((yS s.s x.1)/\l=x.2/\True)/\C3 x.2/\LmS x.1)/\bd (rem x.2 (zT x.1)<0) p (∃(X:a20.ι),(((Z0 X2 s.X X.1)/\rem x.2 (zT x.1)=X.2/\True)/\C3 X.2/\mP X.1.length)/\bd (rem X.2 X.1.length<0) p (∃(x:(Lks×Int)),((((Z0 Z2 s.lk.H x.1.H)/\(Z0 Y7 s.lk.W x.1.W)/\True)/\rem X.2 X.1.length=x.2/\True)/\C3 x.2/\a93 x.1)/\bd (rem x.2 (s5 x.1)<0) p (rem x.2 (s5 x.1)=rem l (l0 s))))) ⟨(s.s,l),⟨⟨(jR _),X7⟩,L,i⟩,λh=>(B0 (G7 h) cP).symm,λh=>?_⟩
 obtain⟨q,j⟩:=yF (b:=s.X.length) (r9 h) L rfl;refine⟨(s.X,rem l (zT s.s)),⟨X7,j,f⟩,λg=>?_,λg=>?_⟩
 ·simp only at g;rw[q] at g;exact(B0 (G7 g) cP).symm
 simp only at g ⊢;rw[q] at g ⊢;obtain⟨Q,l2⟩:=yF (b:=s5 s.lk) (r9 g) L rfl;refine⟨(s.lk,rem l (zT s.s+s.X.length)),⟨X7,l2,d⟩,λg=>?_,λg=>?_⟩
 ·simp only at g;rw[Q] at g;exact(B0 (G7 g) cP).symm
 exact Q
def c10:Con:=.rel ⟨Eng,λs=>[.agg s.ts,.agg s.ts],λ_=>.bool true,M7⟩
def b6N:GK 12 c10:=gk func12<|by
 rintro(s:Eng) ⟨h0,h1,h2⟩;exact U5 (gC b7a (gC b3r (gC c0h gN))) func12 Z3 (α:=let q:=(false=true);∃(x:a91.ι),(((yS s.s x)/\(yS s.s x)/\True)/\iC x)/\br false q (br (!s.up==s.up) q (∃(x:a5k.ι),(((Z0 X2 s.X x)/\(Z0 X2 s.X x)/\True)/\x.length<=1048576)/\br false q (∃(x:Lks),let p:=((Z0 Z2 s.lk.H x.H)/\(Z0 Y7 s.lk.W x.W)/\True);((p/\p/\True)/\uX x)/\br false q (br (s.N !=s.N) q (true=true)))))) ⟨s.s,⟨⟨(jR _),(jR _),Z6⟩,h0⟩,λh=>h,λ_=>⟨λh=>L4,λ_=>⟨s.X,⟨X7,h1⟩,λh=>h,λ_=>⟨s.lk,⟨X7,h2⟩,λh=>h,λ_=>⟨λh=>L4,λ_=>rfl⟩⟩⟩⟩⟩
open Go.SS Go.RowKit Go.Proofs.Tryz
def oX{H:Type}(x:DataW H):Rec:=⟨dI (I0 (U6 x) 0),dI (I0 (U6 x) 1),dI (I0 (U6 x) 2),dI (I0 (U6 x) 3),dI (I0 (U6 x) 4),dI (I0 (U6 x) 5),dI (I0 (U6 x) 6),dI (I0 (U6 x) 7),dS (I0 (U6 x) 8),dS (I0 (U6 x) 9)⟩
set_option maxRecDepth 100000 in
def yP:pJ prog 3=true:=R5
theorem a0M:lC prog 9=true:=R5
def a58:a2w prog 4=true:=R5
set_option maxRecDepth 100000 in
def c43:H4 prog 214=some [3,3,3,3,3,3,3,3,9,9]:=R5
set_option maxRecDepth 100000 in
def c6D{H:Type}{d:Nat}(x:DataW H):xS prog (d+2) 214 x=(oX x).ts:=by
 rw[K1 c43];simp only[trA,i3 yP,a2D a0M,List.append_nil,List.cons_append,List.nil_append];rfl
set_option maxRecDepth 100000 in
def fK{H:Type}{d:Nat}{x:DataW H}(h:kW prog (d+1) 9 x):(dS x).length<=9223372036854775807:=by
 obtain⟨l,rfl,L⟩:=c6r h a0M;exact L
set_option maxRecDepth 100000 in
def c6V{H:Type}{d:Nat}{x:DataW H}(h:kW prog (d+2) 214 x):b4k (oX x):=by
 obtain⟨xs,rfl,f⟩:=z4 h c43;obtain⟨X,xs,rfl,_,h⟩:=W6 f;obtain⟨u,xs,rfl,_,h⟩:=W6 h;obtain⟨o,xs,rfl,_,h⟩:=W6 h;obtain⟨j,xs,rfl,_,h⟩:=W6 h;obtain⟨i,xs,rfl,_,h⟩:=W6 h;obtain⟨q,xs,rfl,_,h⟩:=W6 h;obtain⟨t,xs,rfl,_,h⟩:=W6 h;obtain⟨n,xs,rfl,_,h⟩:=W6 h;obtain⟨r,xs,rfl,e,h⟩:=W6 h;obtain⟨l,xs,rfl,g,h⟩:=W6 h;exact⟨fK e,fK g⟩
set_option maxRecDepth 100000 in
def c4S:zF prog 27=some 214:=R5
set_option maxRecDepth 100000 in
def c0w{H:Type}{d:Nat}(x:DataW H):(T.sl (prog.cellsOf 214) (T0 x).length λi=>xS prog (d+2) 214 ((T0 x).getD i .nil))=zE ((T0 x).map oX):=by
 unfold zE;rw[show prog.cellsOf 214=10 by kernel_rfl,List.length_map]
 congr 1
 funext i
 rw[c6D];unfold Y1;exact congrArg Rec.ts (w6 oX (T0 x) i (d:=.nil) (d':=dz) rfl).symm
def tO{H:Type}(x:DataW H):List (Bz):=(T0 x).map dS
def a2p{H:Type}(x:DataW H):List Int:=(T0 x).map dI
def rA{H:Type}(x:DataW H):Pend:=⟨dI (I0 (U6 x) 0),dS (I0 (U6 x) 1)⟩
def a79{H:Type}(x:DataW H):Dsk:=⟨tO (I0 (U6 x) 0),(T0 (I0 (U6 x) 1)).map rA,dB (I0 (U6 x) 2),a2p (I0 (U6 x) 3)⟩
def c4R{H:Type}(x:DataW H):Pg:=⟨dI (I0 (U6 x) 0),tO (I0 (U6 x) 1)⟩
def tM{H:Type}(x:DataW H):Frm:=⟨dI (I0 (U6 x) 0),c4R (I0 (U6 x) 1),dB (I0 (U6 x) 2),dI (I0 (U6 x) 3)⟩
def a1B{H:Type}(x:DataW H):Sto:=⟨a79 (I0 (U6 x) 0),dI (I0 (U6 x) 1),(T0 (I0 (U6 x) 2)).map oX,dI (I0 (U6 x) 3),(T0 (I0 (U6 x) 4)).map tM,dI (I0 (U6 x) 5)⟩
set_option maxRecDepth 100000
def c4z:zF prog 22=some 9:=R5
def c5o:zF prog 24=some 3:=R5
def b5Q:zF prog 23=some 313:=R5
def c5n:zF prog 28=some 218:=R5
def b9G:H4 prog 313=some [3,9]:=R5
def c4J:H4 prog 26=some [22,23,4,24]:=R5
def c9l:H4 prog 216=some [3,22]:=R5
def c4r:H4 prog 218=some [3,216,4,3]:=R5
def c4o:H4 prog 30=some [26,3,27,3,28,3]:=R5
def a9O{H:Type}{d:Nat}(x:DataW H):xS prog (d+2) 22 x=[u2 (tO x)]:=by
 rw[zR c4z R5,show prog.cellsOf 9=1 by kernel_rfl]
 unfold u2 tO;rw[List.length_map];congr 2
 funext i
 rw[a2D a0M];exact congrArg (λl=>[T.str l]) (w6 dS (T0 x) i (d:=.nil) (d':=[]) rfl).symm
def c1r{H:Type}{d:Nat}(x:DataW H):xS prog (d+2) 24 x=[sN (a2p x)]:=by
 rw[zR c5o R5,show prog.cellsOf 3=1 by kernel_rfl]
 unfold sN a2p;rw[List.length_map];congr 2
 funext i
 rw[i3 yP];exact congrArg (λl=>[Ji l]) (w6 dI (T0 x) i (d:=.nil) (d':=0) rfl).symm
def c4c{H:Type}{d:Nat}(x:DataW H):xS prog (d+2) 313 x=(rA x).ts:=by
 rw[K1 b9G];simp only[trA,i3 yP,a2D a0M,List.append_nil,List.cons_append,List.nil_append];rfl
def b62{H:Type}{d:Nat}(x:DataW H):xS prog (d+3) 23 x=[v6 ((T0 x).map rA)]:=by
 rw[zR b5Q R5,show prog.cellsOf 313=2 by kernel_rfl]
 unfold v6;rw[List.length_map];congr 2
 funext i
 rw[c4c];exact congrArg Pend.ts (w6 rA (T0 x) i (d:=.nil) (d':=dz) rfl).symm
def c7q{H:Type}{d:Nat}(x:DataW H):xS prog (d+4) 26 x=(a79 x).ts:=by
 rw[K1 c4J];simp only[trA,a1S a58,a9O (d:=d+1),c1r (d:=d+1),b62,List.append_nil,List.cons_append,List.nil_append];rfl
def c8G{H:Type}{d:Nat}(x:DataW H):xS prog (d+3) 216 x=(c4R x).ts:=by
 rw[K1 c9l];simp only[trA,i3 yP,a9O,List.append_nil,List.cons_append,List.nil_append];rfl
def c8c{H:Type}{d:Nat}(x:DataW H):xS prog (d+4) 218 x=(tM x).ts:=by
 rw[K1 c4r];simp only[trA,i3 yP,a1S a58,c8G];rfl
def c27{H:Type}{d:Nat}(x:DataW H):xS prog (d+5) 28 x=[uC ((T0 x).map tM)]:=by
 rw[zR c5n R5,show prog.cellsOf 218=5 by kernel_rfl]
 unfold uC;rw[List.length_map];congr 2
 funext i
 rw[c8c];exact congrArg Frm.ts (w6 tM (T0 x) i (d:=.nil) (d':=dz) rfl).symm
def c4a{H:Type}{d:Nat}(x:DataW H):xS prog (d+3) 27 x=[zE ((T0 x).map oX)]:=by
 rw[zR c4S R5,c0w]
def c6j{H:Type}{d:Nat}(x:DataW H):trA prog (d+5) [26,3,27,3,28,3] (U6 x)=(a1B x).ts:=by
 simp only[trA,i3 yP,c7q (d:=d+1),c4a (d:=d+2),c27];rfl
def b05{H:Type}{d:Nat}{x:DataW H}(h:kW prog (d+2) 22 x):LmL [] (λs=>mP s.length) (tO x):=by
 obtain⟨_,e,f⟩:=zP h c4z;refine⟨by unfold tO;rw[List.length_map];exact e,λi hi=>?_⟩
 unfold tO at hi ⊢;rw[List.length_map] at hi;rw[w6 dS (T0 x) i (d:=.nil) (d':=[]) rfl,P4,I1 hi]
 exact fK (f _ (List.getElem_mem hi))
def b6Z{H:Type}{d:Nat}{x:DataW H}(h:kW prog (d+3) 23 x):LmL dz LmP ((T0 x).map rA):=by
 obtain⟨_,g,l⟩:=zP h b5Q;refine⟨by rw[List.length_map];exact g,λi hi=>?_⟩
 rw[List.length_map] at hi;rw[w6 rA (T0 x) i (d:=.nil) (d':=dz) rfl,P4,I1 hi]
 obtain⟨xs,f,e⟩:=z4 (l _ (List.getElem_mem hi)) b9G;obtain⟨X,xs,rfl,_,e⟩:=W6 e;obtain⟨n,xs,rfl,j,e⟩:=W6 e;show(dS (I0 (U6 (T0 x)[i]) 1)).length<=_;rw[f];exact fK j
def c5M{H:Type}{d:Nat}{x:DataW H}(h:kW prog (d+4) 26 x):LmD (a79 x):=by
 obtain⟨xs,rfl,e⟩:=z4 h c4J;obtain⟨j,xs,rfl,g,e⟩:=W6 e;obtain⟨l,xs,rfl,f,e⟩:=W6 e;obtain⟨n,xs,rfl,_,e⟩:=W6 e;obtain⟨X,xs,rfl,i,e⟩:=W6 e;refine⟨b05 g,b6Z f,?_⟩
 show((T0 X).map dI).length<=_;rw[List.length_map];exact(zP i c5o).2.1
def c6T{H:Type}{d:Nat}{x:DataW H}(h:kW prog (d+4) 218 x):LmF (tM x):=by
 obtain⟨xs,rfl,e⟩:=z4 h c4r;obtain⟨X,xs,rfl,_,e⟩:=W6 e;obtain⟨n,xs,rfl,i,e⟩:=W6 e;obtain⟨Y,rfl,g⟩:=z4 i c9l;obtain⟨j,Y,rfl,_,g⟩:=W6 g;obtain⟨l,Y,rfl,f,g⟩:=W6 g;exact b05 f
def c6L{H:Type}{d:Nat}{x:DataW H}(h:kW prog (d+6) 30 x):LmS (a1B x):=by
 obtain⟨xs,rfl,e⟩:=z4 h c4o;obtain⟨q,xs,rfl,j,e⟩:=W6 e;obtain⟨u,xs,rfl,_,e⟩:=W6 e;obtain⟨X,xs,rfl,f,e⟩:=W6 e;obtain⟨t,xs,rfl,_,e⟩:=W6 e;obtain⟨x4,xs,rfl,o,e⟩:=W6 e;obtain⟨_,l,R⟩:=zP f c4S;obtain⟨_,F,n⟩:=zP o c5n;refine⟨c5M j,⟨?_,λr g=>?_⟩,⟨?_,λi hi=>?_⟩⟩
 ·show((T0 X).map oX).length<=_;rw[List.length_map];exact l
 ·obtain⟨y,Y,rfl⟩:=List.mem_map.1 g;exact c6V (R y Y)
 ·show((T0 x4).map tM).length<=_;rw[List.length_map];exact F
 ·have hi:i<((T0 x4).map tM).length:=hi;show LmF (((T0 x4).map tM).getD i dz);rw[List.length_map] at hi;rw[w6 tM (T0 x4) i (d:=.nil) (d':=dz) rfl,P4,I1 hi]
  exact c6T (n _ (List.getElem_mem hi))
def gJ{H:Type}(x:DataW H):Txn:=⟨dI (I0 (U6 x) 0),dI (I0 (U6 x) 1)⟩
def a5g{H:Type}(x:DataW H):Wt:=⟨dI (I0 (U6 x) 0),dI (I0 (U6 x) 1)⟩
def fQ{H:Type}(x:DataW H):Lck:=⟨dI (I0 (U6 x) 0),dI (I0 (U6 x) 1),dI (I0 (U6 x) 2),dI (I0 (U6 x) 3)⟩
def a8Y{H:Type}(x:DataW H):Lks:=⟨(T0 (I0 (U6 x) 0)).map fQ,(T0 (I0 (U6 x) 1)).map a5g⟩
def a8b{H:Type}(x:DataW H):Eng:=⟨a1B (I0 (U6 x) 0),dB (I0 (U6 x) 1),(T0 (I0 (U6 x) 2)).map gJ,a8Y (I0 (U6 x) 3),dI (I0 (U6 x) 4)⟩
def c9s:H4 prog 144=some [3,3]:=R5
def c9J:H4 prog 244=some [3,3]:=R5
def c9x:H4 prog 242=some [3,3,3,3]:=R5
def c4H:H4 prog 35=some [32,33]:=R5
def a9w:H4 prog 37=some [30,4,31,35,3]:=R5
def c5a:zF prog 31=some 144:=R5
def c4T:zF prog 32=some 242:=R5
def c8Y:zF prog 33=some 244:=R5
def c53{H:Type}{d:Nat}(x:DataW H):xS prog (d+2) 144 x=(gJ x).ts:=by
 rw[K1 c9s];simp only[trA,i3 yP,List.append_nil,List.cons_append,List.nil_append];rfl
def c2l{H:Type}{d:Nat}(x:DataW H):xS prog (d+3) 31 x=[tV ((T0 x).map gJ)]:=by
 rw[zR c5a R5,show prog.cellsOf 144=2 by kernel_rfl]
 unfold tV;rw[List.length_map];congr 2
 funext i
 rw[c53];exact congrArg Txn.ts (w6 gJ (T0 x) i (d:=.nil) (d':=dz) rfl).symm
def c8w{H:Type}{d:Nat}(x:DataW H):xS prog (d+2) 244 x=(a5g x).ts:=by
 rw[K1 c9J];simp only[trA,i3 yP,List.append_nil,List.cons_append,List.nil_append];rfl
def c64{H:Type}{d:Nat}(x:DataW H):xS prog (d+3) 33 x=[nG ((T0 x).map a5g)]:=by
 rw[zR c8Y R5,show prog.cellsOf 244=2 by kernel_rfl]
 unfold nG;rw[List.length_map];congr 2
 funext i
 rw[c8w];exact congrArg Wt.ts (w6 a5g (T0 x) i (d:=.nil) (d':=dz) rfl).symm
def c7k{H:Type}{d:Nat}(x:DataW H):xS prog (d+2) 242 x=(fQ x).ts:=by
 rw[K1 c9x];simp only[trA,i3 yP,List.append_nil,List.cons_append,List.nil_append];rfl
def c1h{H:Type}{d:Nat}(x:DataW H):xS prog (d+3) 32 x=[wN ((T0 x).map fQ)]:=by
 rw[zR c4T R5,show prog.cellsOf 242=4 by kernel_rfl]
 unfold wN;rw[List.length_map];congr 2
 funext i
 rw[c7k];exact congrArg Lck.ts (w6 fQ (T0 x) i (d:=.nil) (d':=dz) rfl).symm
def c54{H:Type}{d:Nat}(x:DataW H):xS prog (d+4) 35 x=(a8Y x).ts:=by
 rw[K1 c4H];simp only[trA,c1h,c64,List.append_nil,List.cons_append,List.nil_append];rfl
def c05{H:Type}{d:Nat}(x:DataW H):xS prog (d+6) 30 x=(a1B x).ts:=by
 rw[K1 c4o];exact c6j x
def c6Z{H:Type}{d:Nat}(x:DataW H):xS prog (d+7) 37 x=(a8b x).ts:=by
 rw[K1 a9w];simp only[trA,i3 yP,a1S a58,c05 (d:=d),c2l (d:=d+3),c54 (d:=d+2)];rfl
def c7X{H:Type}{d:Nat}{x:DataW H}(h:kW prog (d+4) 35 x):a93 (a8Y x):=by
 obtain⟨xs,rfl,e⟩:=z4 h c4H;obtain⟨X,xs,rfl,g,e⟩:=W6 e;obtain⟨i,xs,rfl,f,e⟩:=W6 e;refine⟨?_,?_⟩
 ·show((T0 X).map fQ).length<=_;rw[List.length_map];exact(zP g c4T).2.1
 ·show((T0 i).map a5g).length<=_;rw[List.length_map];exact(zP f c8Y).2.1
def c6f{H:Type}{d:Nat}{x:DataW H}(h:kW prog (d+7) 37 x):b01 (a8b x):=by
 obtain⟨xs,rfl,e⟩:=z4 h a9w;obtain⟨j,xs,rfl,g,e⟩:=W6 e;obtain⟨l,xs,rfl,_,e⟩:=W6 e;obtain⟨X,xs,rfl,f,e⟩:=W6 e;obtain⟨n,xs,rfl,i,e⟩:=W6 e;refine⟨c6L (d:=d) g,?_,c7X (d:=d+2) i⟩
 show((T0 X).map gJ).length<=_;rw[List.length_map];exact(zP (d:=d+5) f c5a).2.1
def b1Z{e:Eng}(h:l0 e<=1048576):M7 e/\iZ e:=by
 have i:l0 e=zT e.s+e.X.length+s5 e.lk:=rfl;have g:s5 e.lk=e.lk.H.length+e.lk.W.length:=rfl;obtain⟨d,f⟩:=b29 (s:=e.s) Z9
 exact⟨⟨d,Z9,Z9,Z9⟩,f,⟨sV,sV⟩,sV⟩
def own:ownKnob prog.godebug=none:=R5
def c5H{P:Program}{f:FuncId}{fn:Func}{s:ChangeSpec}{c:OpenClaim}(N:c.wf (OpenSpec.ofChange s)=true)(Q:laidOutB P=true)(M:mapsRowed P=true)
  (W:fn.params.all (P.readableRec ·)=true) (O:namedTie P c.named s.vars=true) (U:(c.stops==[])=true) (X:(P.stops==[])=true) (R:(c.knobs==[])=true) (V:(P.stopKnobs==[])=true)
  (Y:(c.inPlace==P.inPlace f)=true) (l:(c.unfollowed==P.unfollowed f)=true) (v:(c.recurses==P.recurses f)=true) (n:(c.named==P.varsNamed f)=true)
  (h:(c.maps==(fn.params.toList++s.plain.varTypes P).any (P.mapsRec ·))=true) (g:(c.ifaces==(fn.params.toList++s.plain.varTypes P).any (P.ifacesRec ·))=true) (o:(c.mapsOut==P.mapsAmong fn.resultTypes.toList)=true)
  (x:(c.loops==(fn.params.toList++s.plain.varTypes P).any (P.loopsFrom ·))=true) (j:(c.wideKeys==(fn.params.toList++s.plain.varTypes P++fn.resultTypes.toList).any (P.wideKeysFrom ·))=true)
  (L:s.vars.all (P.varReadable ·)=true) (e:fn.resultTypes.all (λt=>P.readableRec t&&decide (t<P.types.size))=true) (B:(c.ifacesOut==fn.resultTypes.toList.any (P.ifacesRec ·))=true)
  (A:(c.loopsOut==fn.resultTypes.toList.any (P.loopsFrom ·))=true) (d:(c.plainKeys==P.plainKeys)=true) (z:c.shortTexts.isNone=true) (F:P.stopsHeard=true) (i:P.mayEnter=true)
  (I:(c.lifted==P.liftsFinal)=true) (q:(P.make==some c.make)=true) (r:(c.kinds==(if c.domain.isEmpty then[] else fn.params.toList.map λt=>match P.underlying t with|some (.int k)=>some k|_=>none))=true) (C:(c.pinned==c.pinnedBy)=true)
  (u:(c.veiled==(fn.params.toList++s.plain.varTypes P++fn.resultTypes.toList).any (P.veiledRec ·))=true) (J:c.veiledFits P fn.params.toList (fn.params.toList++s.plain.varTypes P++fn.resultTypes.toList)=true):joinedFacts P f fn s c=true:=by
 simp only[joinedFacts,J5];exact⟨⟨⟨⟨⟨⟨⟨⟨⟨⟨⟨⟨⟨⟨⟨⟨⟨⟨⟨⟨⟨⟨⟨⟨⟨⟨⟨⟨⟨⟨⟨N,Q⟩,M⟩,W⟩,O⟩,U⟩,X⟩,R⟩,V⟩,Y⟩,l⟩,v⟩,n⟩,h⟩,g⟩,o⟩,x⟩,j⟩,L⟩,e⟩,B⟩,A⟩,d⟩,z⟩,F⟩,i⟩,I⟩,q⟩,r⟩,C⟩,u⟩,J⟩
end
end Go.Proofs.YtpdnnhnfongoeaaGreat
