/- A part of the proof. -/
import Derived.Test.YtpdnnhnfongoeaaGreatE4
import Derived.Test.YtpdnnhnfongoeaaGreatSSW
import Derived.Test.YtpdnnhnfongoeaaGreatRows
import Derived.WalkKit
import Derived.ProofKit
import Derived.JoinedOf
import Derived.Handed
import Derived.WideWitness
namespace Go.Proofs.YtpdnnhnfongoeaaGreat
set_option maxRecDepth 100000
open Go.SS Go.Proofs.Tryz
noncomputable section
structure Val where
 k:Int
 n:Int
 t:Bz
 deriving Inhabited
def Val.ts(v:Val):List T:=[.int .i64 v.k,.int .i64 v.n,.str v.t]
structure Rw where
 id:Int
 n:Val
 name:Val
 deriving Inhabited
def Rw.ts(r:Rw):List T:=[.int .i64 r.id,.int .i64 r.n.k,.int .i64 r.n.n,.str r.n.t,.int .i64 r.name.k,.int .i64 r.name.n,.str r.name.t]
structure Chg where
 se:Int
 ta:Int
 row:Rw
 G:Bool
 deriving Inhabited
def Chg.ts(c:Chg):List T:=[.int .i64 c.se,.int .i64 c.ta,.int .i64 c.row.id,.int .i64 c.row.n.k,.int .i64 c.row.n.n,.str c.row.n.t,.int .i64 c.row.name.k,.int .i64 c.row.name.n,.str c.row.name.t,.bool c.G]
def a3k(c:UInt8):Bool:=decide (c.toNat≥97)&&decide (c.toNat<=122)
def mX(t:Bz)(i:Nat):Bool:= !a3k (t.getD i 0)
def uB(t:Bz):Bool:= !anyI t.length (mX t)&&decide (t.length<=10)
def O1(v:Val):Bool:=if v.k=0 then(v.n==0)&&(v.t==[]) else if v.k=1 then V9 v.n (-1000000000) 1000000000&&(v.t==[]) else(v.k==2)&&(v.n==0)&&uB v.t
def j4(r:Rw):Bool:=V9 r.id 0 1000&&O1 r.n&&(r.n.k !=2)&&O1 r.name&&(r.name.k !=1)
def fX:Rl:=⟨UInt8,λc=>[.int .u8 c.toNat],λc=>.bool (a3k c),λ_=>True⟩
def a6F:Con:=.rel fX
theorem a8r(c:UInt8)(h:
  (decide ((c.toNat:Int)≥(97:Int))&&decide ((c.toNat:Int)<=122))=a3k c):
  V3 prog 284 [.int .u8 c.toNat] (.bool (a3k c)):=
 U6 gN func284 Z3 h
theorem a2Y:GK 284 a6F:=gk func284<|λc _=>a8r c (by unfold a3k;congr 1<;>exact decide_eq_decide.2 Z9)
def aE(t:Bz):Prop:=L7 t.length
theorem b0i{p:Prop}(h:p:=by unfold aE L7;simp):p:=h
def a32:Rl:=⟨Bz,λt=>[.str t],λt=>.bool (uB t),aE⟩
def b5e:Con:=.rel a32
def b9n(t:Bz):Nat->Ann
 |0=>.one (V5 t.length (mX t)) (λx=>⟨[(0,.str t),(5,.int .i64 t.length),(6,.int .i64 x.1)],[]⟩) (λx=>t.length-x.1) [] [] (λ_=>Z3)
 |_=>.none
theorem b1R:GK 210 b5e:=gk func210<|by
 intro(t:Bz) (h:t.length<1000000000000);refine U6 (gC a2Y gN) func210 (b9n t) (α:=let p:=(t.length:Int);(∃(x:V5 t.length (mX t)),(t=t/\p=p/\0=(x.1:Int)/\True)/\True)/\∀(x:V5 t.length (mX t)),let q:=(x.1:Int);bd (q<p) (W9 q t.length/\∃(X:fX.ι),(((↑(t.getD q.toNat (0:UInt8)).toNat:Int)=(↑(UInt8.toNat X):Int)/\True)/\True)/\br (!a3k X) (false=uB t) (Ri (q+1)/\∃(y:V5 t.length (mX t)),((t=t/\p=p/\q+1=(y.1:Int)/\True)/\True)/\Lt (t.length-y.1) (t.length-x.1))) (decide (p<=10)=uB t)) ⟨⟨F9,X7⟩,λx=>⟨λhc=>?_,λhc=>?_⟩⟩
 ·have hlt:=Y2 hc;refine⟨Y6 hlt,t.getD x.1 0,X7,λhp=>?_,λhp=>⟨W4 hlt Z9,x.succ hlt hp,⟨⟨rfl,rfl,J2,Z6⟩,Z6⟩,V5.ext_lt hlt⟩⟩
  have:anyI t.length (mX t)=true:=R9.2 ⟨x.1,hlt,hp⟩;unfold uB;rw[this];rfl
 ·have hge:=Y0 hc;have:anyI t.length (mX t)=false:=P5.2 λi hi=>x.2.2 i (yB hi hge)
  unfold uB;rw[this];show _=decide (t.length<=10);exact decide_eq_decide.2 Z9
def a71:Con:=.rel ⟨Int,λn=>[.int .i64 n],λn=>.bool (V9 n (-1000000000) 1000000000),λ_=>True⟩
theorem a6g(n:Int)(h:
  V9 n (-1000000000:Int) 1000000000=V9 n (-1000000000:Int) (1000000000:Int)):
  V3 prog 209 [.int .i64 n] (.bool (V9 n (-1000000000) 1000000000)):=
 U6 (gC O3 gN) func209 Z3 h
theorem a4Q:GK 209 a71:=gk func209<|λn _=>a6g n rfl
def E9:Rl:=⟨Val,λv=>[.agg v.ts],λv=>.bool (O1 v),λv=>aE v.t⟩
def a7K:Con:=.rel E9
def a8k:Con:=.rel E9
theorem jW:GK 122 a7K:=gk func122<|by
 intro(v:Val) h;refine U6 (gC a4Q (gC b1R gN)) func122 Z3 (α:=br (v.k==0) ((v.k==0&&(v.n==0&&(v.t==[]&&true)))=O1 v) (br (v.k==1) (∃(x:Int),((v.n=x/\True)/\True)/\(V9 x (-1000000000:Int) (1000000000:Int)&&v.t==[])=O1 v) (∃(x:a32.ι),((v.k==2&&v.n==0)=true->(v.t=x/\True)/\aE x)/\(v.k==2&&v.n==0&&uB x)=O1 v))) ⟨λh0=>?_,λh0=>⟨λe=>⟨v.n,X7,?_⟩,λe=>⟨v.t,λ_=>⟨X7,h⟩,?_⟩⟩⟩
 ·have h0':v.k=0:=by simpa using h0
  unfold O1;rw[if_pos h0',h0,Bool.true_and,Bool.and_true]
 ·have h0':v.k≠0:=by simpa using h0
  have d:v.k=1:=by simpa using e
  unfold O1;rw[if_neg h0',if_pos d]
 ·have h0':v.k≠0:=by simpa using h0
  have d:v.k≠1:=by simpa using e
  unfold O1;rw[if_neg h0',if_neg d]
def c7e(v:Val):Option Ob:=some (.arr true 1000000 3 1 λ_=>v.ts)
def a6f(v:Val):Nat->Ann
 |0=>.one (V5 v.t.length (mX v.t)) (λx=>⟨[(1,.ref 0 0 0),(3,.int .i64 x.1)],[c7e v]⟩) (λx=>v.t.length-x.1) [.box 0] [.box 0] (λ_=>Z3)
 |_=>.none
theorem c7X{v:Val}(h:v.k=2)(N:v.n=0)(l:v.t.length<=10):O1 v= !anyI v.t.length (mX v.t):=by
 unfold O1;rw[if_neg Z9,if_neg Z9,h,N]
 unfold uB;rw[mR l,Bool.and_true];rfl
theorem kF:GK 121 a8k:=gk func121<|by
 intro(v:Val) (h:v.t.length<1000000000000);refine U6 (gC A2 gN) func121 (a6f v) (α:=let r:=(false=O1 v);let p:=(1=1/\1=1/\v.k=v.k/\v.n=v.n/\v.t=v.t/\True);br (v.k==0) ((v.n==0&&v.t==[])=O1 v) (br (v.k==1) ((V9 v.n (-1000000000:Int) (1000000000:Int)&&v.t==[])=O1 v) (br (v.k==2) (br (v.n !=0||decide ((v.t.length:Int)>10)) r ((∃(x:V5 v.t.length (mX v.t)),((0=0/\0=0)/\0=(x.1:Int)/\True)/\p/\True)/\∀(x:V5 v.t.length (mX v.t)),let q:=(x.1:Int);bd (q<(v.t.length:Int)) (W9 q v.t.length/\br (!V9 (IntKind.i64.wrap (↑(v.t.getD q.toNat (0:UInt8)).toNat:Int)) (97:Int) (122:Int)) r (Ri (q+1)/\∃(y:V5 v.t.length (mX v.t)),(((0=0/\0=0)/\q+1=(y.1:Int)/\True)/\p/\True)/\Lt (v.t.length-y.1) (v.t.length-x.1))) (true=O1 v))) r))) ⟨λh0=>?_,λh0=>⟨λf=>?_,λf=>⟨λh2=>⟨λhb=>?_,λhb=>?_⟩,λh2=>?_⟩⟩⟩
 ·have h0':v.k=0:=by simpa using h0
  unfold O1;rw[if_pos h0']
 ·have h0':v.k≠0:=by simpa using h0
  have d:v.k=1:=by simpa using f
  unfold O1;rw[if_neg h0',if_pos d]
 ·have h2':v.k=2:=by simpa using h2
  unfold O1 uB;rw[if_neg Z9,if_neg Z9]
  simp only[nV,bne_iff_ne,q8] at hb;by_cases hn:v.n=0
  ·rw[tQ (p:=v.t.length<=10) (by rcases hb with hb|hb<;>omega)]
   simp
  ·rw[show(v.n==0)=false by simpa using hn]
   simp
 ·have h2':v.k=2:=by simpa using h2
  simp only[wU,bne_eq_false_iff_eq,uI] at hb;obtain⟨hn,l⟩:=hb;have e:=c7X h2' hn Z9
  refine⟨⟨F9,X7⟩,λx=>⟨λhc=>?_,λhc=>?_⟩⟩
  ·have hlt:=Y2 hc;rw[uP,E4,show V9 ((v.t.getD x.1 0).toNat:Int) 97 122=a3k (v.t.getD x.1 0) by unfold V9 a3k;congr 1<;>exact decide_eq_decide.2 Z9]
   refine⟨Y6 hlt,λhp=>?_,λhp=>⟨W4 hlt Z9,x.succ hlt hp,⟨⟨X7,J2,Z6⟩,X7⟩,V5.ext_lt hlt⟩⟩
   have:anyI v.t.length (mX v.t)=true:=R9.2 ⟨x.1,hlt,hp⟩;rw[e,this];rfl
  ·have hge:=Y0 hc;have:anyI v.t.length (mX v.t)=false:=P5.2 λi hi=>x.2.2 i (yB hi hge)
   rw[e,this];rfl
 ·have h0':v.k≠0:=by simpa using h0
  have d:v.k≠1:=by simpa using f
  unfold O1;rw[if_neg h0',if_neg d,h2];rfl
def b1q:Con:=.rel ⟨Int,λn=>[.int .i64 n],λn=>.bool (V9 n 1 3),λ_=>True⟩
theorem b3M(n:Int)(h:
  V9 n (1:Int) 3=V9 n (1:Int) (3:Int)):
  V3 prog 40 [.int .i64 n] (.bool (V9 n 1 3)):=
 U6 (gC O3 gN) func40 Z3 h
theorem fM:GK 40 b1q:=gk func40<|λn _=>b3M n rfl
def c7k:Con:=.rel ⟨Int,λn=>[.int .i64 n],λn=>.bool (V9 n 0 1000),λ_=>True⟩
theorem c6K(n:Int)(h:
  V9 n (0:Int) 1000=V9 n (0:Int) (1000:Int)):
  V3 prog 41 [.int .i64 n] (.bool (V9 n 0 1000)):=
 U6 (gC O3 gN) func41 Z3 h
theorem b0O:GK 41 c7k:=gk func41<|λn _=>c6K n rfl
def RwB(r:Rw):Prop:=aE r.n.t/\aE r.name.t
def iS:Rl:=⟨Rw,λr=>[.agg r.ts],λr=>.bool (j4 r),RwB⟩
def c1m:Con:=.rel iS
def b6F:Con:=.rel iS
theorem b9Z:GK 60 c1m:=gk func60<|by
 rintro(r:Rw) ⟨h1,h2⟩;exact U6 (gC b0O (gC jW gN)) func60 Z3 (α:=∃(x:Int),((r.id=x/\True)/\True)/\∃(X:E9.ι),(V9 x (0:Int) 1000=true->((r.n.k=X.k/\r.n.n=X.n/\r.n.t=X.t/\True)/\True)/\aE X.t)/\∃(d:E9.ι),((V9 x (0:Int) (1000:Int)&&O1 X&&r.n.k !=2)=true->((r.name.k=d.k/\r.name.n=d.n/\r.name.t=d.t/\True)/\True)/\aE d.t)/\(V9 x (0:Int) (1000:Int)&&O1 X&&r.n.k !=2&&O1 d&&r.name.k !=1)=j4 r) ⟨r.id,X7,r.n,λ_=>⟨X7,h1⟩,r.name,λ_=>⟨X7,h2⟩,rfl⟩
theorem b4B:GK 57 b6F:=gk func57<|by
 rintro(r:Rw) ⟨h1,h2⟩;refine U6 (gC A2 (gC kF gN)) func57 Z3 (α:=∃(x:E9.ι),(V9 r.id (0:Int) 1000=true->((r.n.k=x.k/\r.n.n=x.n/\r.n.t=x.t/\True)/\True)/\aE x.t)/\∃(X:E9.ι),((V9 r.id (0:Int) (1000:Int)&&O1 x)=true->((r.name.k=X.k/\r.name.n=X.n/\r.name.t=X.t/\True)/\True)/\aE X.t)/\(V9 r.id (0:Int) (1000:Int)&&O1 x&&O1 X&&r.n.k !=2&&r.name.k !=1)=j4 r) ⟨r.n,λ_=>⟨X7,h1⟩,r.name,λ_=>⟨X7,h2⟩,?_⟩
 unfold j4;generalize V9 r.id 0 1000=a;generalize O1 r.n=b;generalize (r.n.k !=2)=c;generalize O1 r.name=d;cases a<;>cases b<;>cases c<;>cases d<;>rfl
structure Lck where
 tx:Int
 ta:Int
 row:Int
 mo:Int
 deriving Inhabited
def Lck.ts(l:Lck):List T:=[.int .i64 l.tx,.int .i64 l.ta,.int .i64 l.row,.int .i64 l.mo]
structure Wt where
 tx:Int
 fo:Int
 deriving Inhabited
def Wt.ts(w:Wt):List T:=[.int .i64 w.tx,.int .i64 w.fo]
def Z2(L:List Lck)(i:Nat):List T:=(L.getD i dz).ts
def wO(L:List Lck):T:=.sl 4 L.length (Z2 L)
def Y7(L:List Wt)(i:Nat):List T:=(L.getD i dz).ts
def nI(L:List Wt):T:=.sl 2 L.length (Y7 L)
structure Lks where
 H:List Lck
 W:List Wt
 deriving Inhabited
def Lks.ts(l:Lks):List T:=[wO l.H,nI l.W]
def a2a(l:Lks):Option Ob:=some (.arr true 1000000 2 1 λ_=>l.ts)
def nC(a b:Int):Bool:=(a !=4)&&(b !=4)&&((a==1)||(b==1)||(a==b))
def dV(a b:Lck):Bool:=(a.tx==b.tx)&&((a.ta==b.ta)&&((a.row==b.row)&&((a.mo==b.mo)&&true)))
def rX(a b:Lck):Bool:=(a.ta==b.ta)&&(a.row==b.row)
def clash(a b:Lck):Bool:=(a.tx !=b.tx)&&rX a b&& !nC a.mo b.mo
def rJ(l:Lck):Bool:=V9 l.tx 1 60&&V9 l.ta 1 3&&V9 l.row (-1) 1000&&V9 l.mo 1 4&&(decide (l.row<0)||decide (l.mo≥3))
def vK(L:List Lck)(a:Lck)(k:Nat):Bool:=dV a (L.getD k dz)||clash a (L.getD k dz)
def x7(L:List Lck)(i:Nat):Bool:= !rJ (L.getD i dz)||anyI i (vK L (L.getD i dz))
def x6(L:List Wt)(i:Nat):Bool:= !V9 (L.getD i dz).tx 1 60|| !V9 (L.getD i dz).fo 1 60||((L.getD i dz).tx==(L.getD i dz).fo)
def C0(l:Lks):Bool:= !anyI l.H.length (x7 l.H)&&(decide (l.H.length<=60)&&decide (l.W.length<=100)&& !anyI l.W.length (x6 l.W))
def b7R(l:Lks):Prop:=L7 l.H.length/\L7 l.W.length
def b8W:Con:=.rel ⟨Int,λn=>[.int .i64 n],λn=>.bool (V9 n 1 4),λ_=>True⟩
theorem b5u(n:Int)(h:
  V9 n (1:Int) 4=V9 n (1:Int) (4:Int)):
  V3 prog 362 [.int .i64 n] (.bool (V9 n 1 4)):=
 U6 (gC O3 gN) func362 Z3 h
theorem b2D:GK 362 b8W:=gk func362<|λn _=>b5u n rfl
def c5x:Con:=.rel ⟨Int,λn=>[.int .i64 n],λn=>.bool (V9 n 1 60),λ_=>True⟩
theorem c7R(n:Int)(h:
  V9 n (1:Int) 60=V9 n (1:Int) (60:Int)):
  V3 prog 314 [.int .i64 n] (.bool (V9 n 1 60)):=
 U6 (gC O3 gN) func314 Z3 h
theorem b0o:GK 314 c5x:=gk func314<|λn _=>c7R n rfl
def b8u:Con:=.rel ⟨Lck,λl=>[.agg l.ts],λl=>.bool (rJ l),λ_=>True⟩
theorem b8F(l:Lck)(h:
  ∃(x:Int),((l.tx=x/\True)/\True)/\∃(X:Int),((V9 x (1:Int) (60:Int)&&V9 l.ta (1:Int) (3:Int)&&V9 l.row (-1:Int) (1000:Int))=true->(l.mo=X/\True)/\True)/\(V9 x (1:Int) (60:Int)&&V9 l.ta (1:Int) (3:Int)&&V9 l.row (-1:Int) (1000:Int)&&V9 X (1:Int) (4:Int)&&(decide (l.row<0)||decide (l.mo≥(3:Int))))=rJ l):
  V3 prog 311 [.agg l.ts] (.bool (rJ l)):=
 U6 (gC b0o (gC O3 (gC b2D gN))) func311 Z3 h
theorem b4x:GK 311 b8u:=gk func311<|λl _=>b8F l ⟨l.tx,X7,l.mo,λ_=>X7,rfl⟩
def b8U:Con:=.rel ⟨Lck,λl=>l.ts,λl=>.bool (rJ l),λ_=>True⟩
theorem b1P:GK 162 b8U:=gk func162<|by
 intro(l:Lck) _;refine U6 (gC A2 gN) func162 Z3 (α:=(V9 l.tx (1:Int) (60:Int)&&V9 l.ta (1:Int) (3:Int)&&V9 l.row (-1:Int) (1000:Int)&&V9 l.mo (1:Int) (4:Int)&&(l.row==(-1:Int)||decide (l.mo≥(3:Int))))=rJ l) ?_
 unfold rJ;cases h:V9 l.row (-1) 1000
 ·simp
 ·have d:=h;unfold V9 at d;simp only[I4,q8] at d;rw[show(l.row== -1)=decide (l.row<0) by rw[Bool.eq_iff_iff,beq_iff_eq,q8];omega]
def fB:Con:=.rel ⟨Int×Int,λx=>[.int .i64 x.1,.int .i64 x.2],λx=>.bool (nC x.1 x.2),λ_=>True⟩
def b9B:Con:=fB
theorem a8G(a b:Int)(h:
  (a !=4&&b !=4&&(a==1||b==1||a==b))=nC a b):
  V3 prog 342 [.int .i64 a,.int .i64 b] (.bool (nC a b)):=
 U6 gN func342 Z3 h
theorem a4T:GK 342 fB:=gk func342<|λx _=>a8G x.1 x.2 rfl
theorem aB:GK 163 b9B:=gk func163<|by
 rintro⟨a,b⟩ _;refine U6 gN func163 Z3 (α:=br (a==4||b==4) (false=nC a b) (br (a==1||b==1) (true=nC a b) ((a==b)=nC a b))) ⟨λh=>?_,λh=>⟨λg=>?_,λg=>?_⟩⟩<;>unfold nC<;>simp at*
 ·intro d e;rcases h with h|h<;>omega
 ·exact⟨h,by rcases g with g|g<;>simp[g]⟩
 ·rw[show(a !=4)=true by simpa using h.1,show(b !=4)=true by simpa using h.2,show(a==1)=false by simpa using g.1,show(b==1)=false by simpa using g.2]
  rfl
def a1I:Con:=.rel ⟨Lck×Lck,λx=>[.agg x.1.ts,.agg x.2.ts],λx=>.bool (rX x.1 x.2),λ_=>True⟩
theorem a2i(a b:Lck)(h:
  (a.ta==b.ta&&a.row==b.row)=rX a b):
  V3 prog 341 [.agg a.ts,.agg b.ts] (.bool (rX a b)):=
 U6 gN func341 Z3 h
theorem pN:GK 341 a1I:=gk func341<|λx _=>a2i x.1 x.2 rfl
def b4h:Con:=.rel ⟨Lck×Lck,λx=>[.agg x.1.ts,.agg x.2.ts],λx=>.bool (clash x.1 x.2),λ_=>True⟩
theorem b3Z(a b:Lck)(h:
  ∃(x:(Lck×Lck)),((a.tx !=b.tx)=true->((a.tx=x.1.tx/\a.ta=x.1.ta/\a.row=x.1.row/\a.mo=x.1.mo/\True)/\(b.tx=x.2.tx/\b.ta=x.2.ta/\b.row=x.2.row/\b.mo=x.2.mo/\True)/\True)/\True)/\∃(X:(Int×Int)),((a.tx !=b.tx&&rX x.1 x.2)=true->(a.mo=X.1/\b.mo=X.2/\True)/\True)/\(a.tx !=b.tx&&rX x.1 x.2&& !nC X.1 X.2)=clash a b):
  V3 prog 288 [.agg a.ts,.agg b.ts] (.bool (clash a b)):=
 U6 (gC pN (gC a4T gN)) func288 Z3 h
theorem cJ:GK 288 b4h:=gk func288<|λx _=>b3Z x.1 x.2 ⟨(x.1,x.2),λ_=>X7,(x.1.mo,x.2.mo),λ_=>X7,rfl⟩
def a7W:Con:=.rel ⟨Lck×Lck,λx=>[.agg x.2.ts,.bref x.1.ts],λx=>.bool (dV x.1 x.2||clash x.1 x.2),λ_=>True⟩
theorem a6V(a b:Lck)(h:
let p:=(a.ta==b.ta&&(a.row==b.row&&(a.mo==b.mo&&true)));  ∃(x:(Lck×Lck)),((a.tx==b.tx&&p)=false->((a.tx=x.1.tx/\a.ta=x.1.ta/\a.row=x.1.row/\a.mo=x.1.mo/\True)/\(b.tx=x.2.tx/\b.ta=x.2.ta/\b.row=x.2.row/\b.mo=x.2.mo/\True)/\True)/\True)/\(a.tx==b.tx&&p||clash x.1 x.2)=(dV a b||clash a b)):
  V3 prog 312 [.agg b.ts,.bref a.ts] (.bool (dV a b||clash a b)):=
 U6 (gC cJ gN) func312 Z3 h
theorem a3G:GK 312 a7W:=gk func312<|λx _=>a6V x.1 x.2 ⟨(x.1,x.2),λ_=>X7,rfl⟩
def c1w(a:Lck):T:=.fn (.func 312) [.bref a.ts]
def b3Q:Con:=.rel ⟨List Lck×Nat×Lck,λx=>[.sl 4 x.2.1 (Z2 x.1),c1w x.2.2],λx=>.int .i64 (S6 x.2.1 (vK x.1 x.2.2)),λx=>L7 x.2.1⟩
def b1G(L:List Lck)(n:Nat)(a:Lck):Nat->Ann
 |0=>.one (V5 n (vK L a)) (λx=>⟨[(0,.sl 4 n (Z2 L)),(1,c1w a),(7,.int .i64 n),(8,.int .i64 x.1)],[]⟩) (λx=>n-x.1) [] [] (λ_=>Z3)
 |_=>.none
theorem a68:GK 316 b3Q:=gk func316<|by
 rintro⟨L,n,a⟩ (hL:n<1000000000000);refine U6 (gC a3G gN) func316 (b1G L n a) (α:=let z:=(n=n/\Z7 n (Z2 L) (Z2 L));let p:=(T.bref [Ji a.tx,Ji a.ta,Ji a.row,Ji a.mo]);(∃(x:V5 n (vK L a)),(z/\(Fn.func 312=Fn.func 312/\J9 (λ(x:Nat)=>none) p p/\True)/\(n:Int)=(n:Int)/\0=(x.1:Int)/\True)/\True)/\∀(x:V5 n (vK L a)),let r:=(x.1:Int);let q:=(L.getD r.toNat dz);bd (r<(n:Int)) (W9 r n/\∃(X:(Lck×Lck)),(((q.tx=X.2.tx/\q.ta=X.2.ta/\q.row=X.2.row/\q.mo=X.2.mo/\True)/\(a.tx=X.1.tx/\a.ta=X.1.ta/\a.row=X.1.row/\a.mo=X.1.mo/\True)/\True)/\True)/\br (dV X.1 X.2||clash X.1 X.2) (r=S6 n (vK L a)) (Ri (r+1)/\∃(y:V5 n (vK L a)),((z/\(Fn.func 312=Fn.func 312/\J9 (λ(x:Nat)=>none) p p/\True)/\(n:Int)=(n:Int)/\r+1=(y.1:Int)/\True)/\True)/\Lt (n-y.1) (n-x.1))) ((-1:Int)=S6 n (vK L a))) ⟨⟨F9,⟨X7,⟨rfl,U1 _,Z6⟩,X7⟩,Z6⟩,λx=>⟨λC=>?_,λC=>?_⟩⟩
 ·have h:=Y2 C;refine⟨Y6 h,(a,L.getD x.1 dz),X7,λhp=>(O0 h hp x.2.2).symm,λhp=>⟨W4 h Z9,x.succ h hp,⟨⟨X7,⟨rfl,U1 _,Z6⟩,rfl,J2,Z6⟩,Z6⟩,V5.ext_lt h⟩⟩
 ·have e:=Y0 C;exact(K4 λj J=>x.2.2 j (yB J e)).symm
def b1m:Con:=.rel ⟨List Lck×Nat×Lck,λx=>[.sl 4 x.2.1 (Z2 x.1),c1w x.2.2],λx=>.bool (anyI x.2.1 (vK x.1 x.2.2)),λx=>L7 x.2.1⟩
theorem b2e(L:List Lck)(n:Nat)(a:Lck)(h:
  ∃(x:(List Lck×Nat×Lck)),(((n=x.2.1/\Z7 n (Z2 L) (Z2 x.1))/\(Fn.func 312=Fn.func 312/\(a.tx=x.2.2.tx/\a.ta=x.2.2.ta/\a.row=x.2.2.row/\a.mo=x.2.2.mo/\True)/\True)/\True)/\L7 x.2.1)/\decide (S6 x.2.1 (vK x.1 x.2.2)≥(0:Int))=anyI n (vK L a)):
  V3 prog 232 [.sl 4 n (Z2 L),c1w a] (.bool (anyI n (vK L a))):=
 U6 (gC a68 gN) func232 Z3 h
theorem a8n:GK 232 b1m:=gk func232<|λx h=>b2e x.1 x.2.1 x.2.2 ⟨x,⟨X7,h⟩,D1 _ _⟩
def a7m:Con:=.rel ⟨List Wt×Nat,λx=>[.agg (x.1.getD x.2 dz).ts],λx=>.bool (x6 x.1 x.2),λ_=>True⟩
theorem a6I(L:List Wt)(i:Nat)(h:
let p:=(L.getD i dz);  ∃(x:Int),((p.tx=x/\True)/\True)/\∃(X:Int),((!V9 x (1:Int) (60:Int))=false->(p.fo=X/\True)/\True)/\(!V9 x (1:Int) (60:Int)|| !V9 X (1:Int) (60:Int)||p.tx==p.fo)=x6 L i):
  V3 prog 313 [.agg (L.getD i dz).ts] (.bool (x6 L i)):=
 U6 (gC b0o gN) func313 Z3 h
theorem a3o:GK 313 a7m:=gk func313<|λx _=>a6I x.1 x.2 ⟨_,X7,_,λ_=>X7,rfl⟩
def b9M:Con:=.rel ⟨List Wt,λL=>[nI L,fnT 313],λL=>.int .i64 (S6 L.length (x6 L)),λL=>L7 L.length⟩
def b6J(L:List Wt):Nat->Ann
 |0=>.one (V5 L.length (x6 L)) (λx=>⟨[(0,nI L),(1,fnT 313),(7,.int .i64 L.length),(8,.int .i64 x.1)],[]⟩) (λx=>L.length-x.1) [] [] (λ_=>Z3)
 |_=>.none
theorem b3E:GK 317 b9M:=gk func317<|by
 intro(L:List Wt) (hL:L.length<1000000000000);refine U6 (gC a3o gN) func317 (b6J L) (α:=let r:=(Fn.func 313);let q:=(L.length:Int);(∃(x:V5 L.length (x6 L)),((Z0 Y7 L L)/\Value.func r #[] #[]=Value.func r #[] #[]/\q=q/\0=(x.1:Int)/\True)/\True)/\∀(x:V5 L.length (x6 L)),let p:=(x.1:Int);let z:=(L.getD p.toNat dz);bd (p<q) (W9 p L.length/\∃(X:(List Wt×Nat)),(((z.tx=(X.1.getD X.2 dz).tx/\z.fo=(X.1.getD X.2 dz).fo/\True)/\True)/\True)/\br (x6 X.1 X.2) (p=S6 L.length (x6 L)) (Ri (p+1)/\∃(y:V5 L.length (x6 L)),(((Z0 Y7 L L)/\Value.func r #[] #[]=Value.func r #[] #[]/\q=q/\p+1=(y.1:Int)/\True)/\True)/\Lt (L.length-y.1) (L.length-x.1))) ((-1:Int)=S6 L.length (x6 L))) ⟨⟨F9,X7⟩,λx=>⟨λC=>?_,λC=>?_⟩⟩
 ·have h:=Y2 C;refine⟨Y6 h,(L,x.1),X7,λhp=>(O0 h hp x.2.2).symm,λhp=>⟨W4 h Z9,x.succ h hp,⟨⟨X7,rfl,rfl,J2,Z6⟩,Z6⟩,V5.ext_lt h⟩⟩
 ·have e:=Y0 C;exact(K4 λj J=>x.2.2 j (yB J e)).symm
def c0b:Con:=.rel ⟨List Wt,λL=>[nI L,fnT 313],λL=>.bool (anyI L.length (x6 L)),λL=>L7 L.length⟩
theorem b7U(L:List Wt)(h:
  ∃(x:(List Wt)),(((Z0 Y7 L x)/\Value.func (Fn.func 313) #[] #[]=Value.func (Fn.func 313) #[] #[]/\True)/\L7 (x.length))/\decide (S6 (x.length) (x6 x)≥(0:Int))=anyI L.length (x6 L)):
  V3 prog 234 [nI L,fnT 313] (.bool (anyI L.length (x6 L))):=
 U6 (gC b3E gN) func234 Z3 h
theorem b2a:GK 234 c0b:=gk func234<|λ(L:List Wt) hL=>b7U L ⟨L,⟨X7,hL⟩,D1 _ _⟩
def qX:Rl:=⟨Lks,λl=>[.agg l.ts],λl=>.bool (C0 l),b7R⟩
def a5Z:Con:=.rel qX
def a7w:Con:=.rel qX
def a8b(l:Lks):Nat->Ann
 |0=>.one (V5 l.H.length (x7 l.H)) (λx=>⟨[(1,.ref 0 0 0),(6,wO l.H),(7,.int .i64 l.H.length),(8,.int .i64 x.1)],[a2a l]⟩) (λx=>l.H.length-x.1) [.box 0] [.box 0] (λ_=>Z3)
 |_=>.none
theorem a23:GK 230 a5Z:=gk func230<|by
 rintro(l:Lks) ⟨h,hw⟩;have h:l.H.length<1000000000000:=h;refine U6 (gC b4x (gC a8n (gC b2a gN))) func230 (a8b l) (α:=let v:=((l.W.length:Int)<=100);let u:=(Z0 Z2 l.H l.H);let z:=(1=1/\1=1/\u/\(Z0 Y7 l.W l.W)/\True);let q:=(l.H.length:Int);(∃(x:V5 l.H.length (x7 l.H)),((0=0/\0=0)/\u/\q=q/\0=(x.1:Int)/\True)/\z/\True)/\∀(x:V5 l.H.length (x7 l.H)),let r:=(x.1:Int);let p:=(l.H.getD r.toNat dz);bd (r<q) (W9 r l.H.length/\∃(d:Lck),(((p.tx=d.tx/\p.ta=d.ta/\p.row=d.row/\p.mo=d.mo/\True)/\True)/\True)/\((!rJ d)=false->kB r l.H.length)/\∃(X:(List Lck×Nat×Lck)),((!rJ d)=false->((r.toNat=X.2.1/\Z7 r.toNat (Z2 l.H) (Z2 X.1))/\(Fn.func 312=Fn.func 312/\(p.tx=X.2.2.tx/\p.ta=X.2.2.ta/\p.row=X.2.2.row/\p.mo=X.2.2.mo/\True)/\True)/\True)/\L7 X.2.1)/\br (!rJ d||anyI X.2.1 (vK X.1 X.2.2)) (false=C0 l) (Ri (r+1)/\∃(y:V5 l.H.length (x7 l.H)),(((0=0/\0=0)/\u/\q=q/\r+1=(y.1:Int)/\True)/\z/\True)/\Lt (l.H.length-y.1) (l.H.length-x.1))) (∃(x:(List Wt)),((decide (q<=60)&&decide v)=true->((Z0 Y7 l.W x)/\Value.func (Fn.func 313) #[] #[]=Value.func (Fn.func 313) #[] #[]/\True)/\L7 (x.length))/\(decide (q<=60)&&decide v&& !anyI (x.length) (x6 x))=C0 l)) ⟨⟨F9,X7⟩,λx=>⟨λhc=>?_,λhc=>?_⟩⟩
 ·have hlt:=Y2 hc;refine⟨Y6 hlt,l.H.getD x.1 dz,X7,λ_=>⟨Z9,Z9⟩,(l.H,x.1,l.H.getD x.1 dz),λ_=>⟨⟨⟨M3,X6 _ _⟩,X7⟩,by show x.1<1000000000000;omega⟩,λhb=>?_,λhb=>⟨W4 hlt Z9,x.succ hlt hb,⟨⟨X7,X7,rfl,J2,Z6⟩,X7⟩,V5.ext_lt hlt⟩⟩
  have:anyI l.H.length (x7 l.H)=true:=R9.2 ⟨x.1,hlt,hb⟩;unfold C0;rw[this];rfl
 ·have hge:=Y0 hc;have:anyI l.H.length (x7 l.H)=false:=P5.2 λi hi=>x.2.2 i (yB hi hge)
  refine⟨l.W,λ_=>⟨X7,hw⟩,?_⟩
  unfold C0;rw[this,Bool.not_false,Bool.true_and];congr 2<;>exact decide_eq_decide.2 Z9
def c4Z(L:List Lck)(a:Lck)(k:Nat):Bool:=(a.ta==(L.getD k dz).ta)&&(a.row==(L.getD k dz).row)&&(dV a (L.getD k dz)||(a.tx !=(L.getD k dz).tx)&& !nC a.mo (L.getD k dz).mo)
def a73(l:Lks):Nat->Ann
 |0=>.one (V5 l.H.length (x7 l.H)) (λx=>⟨[(1,.ref 0 0 0),(3,.int .i64 x.1)],[a2a l]⟩) (λx=>l.H.length-x.1) [.box 0] [.box 0] (λx=>fun
  |1=>.one (V5 x.1 (vK l.H (l.H.getD x.1 dz))) (λy=>⟨[(1,.ref 0 0 0),(3,.int .i64 x.1),(4,.ref 1 0 0),(5,.int .i64 y.1)],[a2a l,some (.arr true 1000000 4 1 λ_=>(l.H.getD x.1 dz).ts)]⟩) (λy=>x.1-y.1) iV iV (λ_=>Z3)
  |2=>.one (V5 l.W.length (x6 l.W)) (λy=>⟨[(1,.ref 0 0 0),(7,.int .i64 y.1)],[a2a l]⟩) (λy=>l.W.length-y.1) [.box 0] [.box 0] (λ_=>Z3)
  |_=>.none)
 |_=>.none
theorem b5T(L:List Lck)(a:Lck)(k:Nat):c4Z L a k=vK L a k:=by
 unfold c4Z vK clash dV rX;generalize (a.ta==(L.getD k dz).ta)=p;generalize (a.row==(L.getD k dz).row)=q;generalize (a.mo==(L.getD k dz).mo)=r;generalize nC a.mo (L.getD k dz).mo=t;rw[show(a.tx !=(L.getD k dz).tx)= !(a.tx==(L.getD k dz).tx) from rfl]
 generalize (a.tx==(L.getD k dz).tx)=u;cases p<;>cases q<;>cases r<;>cases t<;>cases u<;>rfl
theorem a5M:GK 73 a7w:=gk func73<|by
 rintro(l:Lks) ⟨L,W⟩;have L:l.H.length<1000000000000:=L;have W:l.W.length<1000000000000:=W;have bh:∀i,i<l.H.length->x7 l.H i=true->false=C0 l:=λi hi hb=>by
  have:anyI l.H.length (x7 l.H)=true:=R9.2 ⟨i,hi,hb⟩;unfold C0;rw[this];rfl
 refine U6 (gC b1P (gC aB (gC A2 gN))) func73 (a73 l) (α:=let n:=(false=C0 l);let w:=(0=0/\0=0);let r:=(1=1/\1=1/\(Z0 Z2 l.H l.H)/\(Z0 Y7 l.W l.W)/\True);br (decide ((l.H.length:Int)>60)||decide ((l.W.length:Int)>100)) n ((∃(x:V5 l.H.length (x7 l.H)),(w/\0=(x.1:Int)/\True)/\r/\True)/\∀(x:V5 l.H.length (x7 l.H)),let v:=(x.1:Int);let z:=(l.H.getD v.toNat dz);let p:=(l.H.getD x.1 dz);bd (v<(l.H.length:Int)) (W9 v l.H.length/\∃(d:Lck),((z.tx=d.tx/\z.ta=d.ta/\z.row=d.row/\z.mo=d.mo/\True)/\True)/\br (!rJ d) n ((∃(X:V5 x.1 (vK l.H (l.H.getD x.1 dz))),(w/\v=v/\w/\0=(X.val:Int)/\True)/\r/\(1=1/\1=1/\z.tx=p.tx/\z.ta=p.ta/\z.row=p.row/\z.mo=p.mo/\True)/\True)/\∀(X:V5 x.1 (vK l.H (l.H.getD x.1 dz))),let k:=(X.val:Int);let q:=(l.H.getD k.toNat dz);let j:=(p.ta==q.ta&&(p.row==q.row&&(p.mo==q.mo&&true)));bd (k<v) (W9 k l.H.length/\∃(e:(Int×Int)),((p.ta==q.ta&&p.row==q.row)=true->(p.tx==q.tx&&j)=false->(p.tx !=q.tx)=true->(p.mo=e.1/\q.mo=e.2/\True)/\True)/\br (p.ta==q.ta&&p.row==q.row&&(p.tx==q.tx&&j||p.tx !=q.tx&& !nC e.1 e.2)) n (Ri (k+1)/\∃(y:V5 x.1 (vK l.H (l.H.getD x.1 dz))),((w/\v=v/\w/\k+1=(y.1:Int)/\True)/\r/\(1=1/\1=1/\p.tx=p.tx/\p.ta=p.ta/\p.row=p.row/\p.mo=p.mo/\True)/\True)/\Lt (x.1-y.1) (x.1-X.val))) (Ri (v+1)/\∃(y:V5 l.H.length (x7 l.H)),((w/\v+1=(y.1:Int)/\True)/\r/\True)/\Lt (l.H.length-y.1) (l.H.length-x.1)))) ((∃(x:V5 l.W.length (x6 l.W)),(w/\0=(x.1:Int)/\True)/\r/\True)/\∀(x:V5 l.W.length (x6 l.W)),let m:=(x.1:Int);let u:=(l.W.getD m.toNat dz);bd (m<(l.W.length:Int)) (W9 m l.W.length/\br (!V9 u.tx (1:Int) (60:Int)|| !V9 u.fo (1:Int) (60:Int)||u.tx==u.fo) n (Ri (m+1)/\∃(y:V5 l.W.length (x6 l.W)),((w/\m+1=(y.1:Int)/\True)/\r/\True)/\Lt (l.W.length-y.1) (l.W.length-x.1))) (true=C0 l)))) ⟨λh=>?_,λh=>⟨⟨F9,X7⟩,λx=>⟨λhc=>?_,λhc=>⟨⟨F9,X7⟩,λy=>⟨λhy=>?_,λhy=>?_⟩⟩⟩⟩⟩
 ·simp only[nV,q8] at h;unfold C0;rcases h with h|h
  ·rw[tQ (p:=l.H.length<=60) Z9]
   simp
  ·rw[tQ (p:=l.W.length<=100) Z9]
   simp
 ·have hlt:=Y2 hc;refine⟨Y6 hlt,l.H.getD x.1 dz,X7,λhb=>bh _ hlt (by unfold x7;rw[hb];rfl),λhb=>⟨⟨F9,X7⟩,λy=>⟨λhy=>?_,λhy=>?_⟩⟩⟩
  ·have hyt:=Y2 hy;refine⟨Y6 Z9,((l.H.getD x.1 dz).mo,(l.H.getD y.1 dz).mo),λ_ _ _=>X7,λhq=>?_,λhq=>⟨W4 hyt Z9,y.succ hyt ((b5T _ _ _).symm.trans hq),⟨⟨X7,rfl,X7,J2,Z6⟩,X7⟩,V5.ext_lt hyt⟩⟩
   refine bh _ hlt ?_
   unfold x7;have:anyI x.1 (vK l.H (l.H.getD x.1 dz))=true:=R9.2 ⟨y.1,hyt,(b5T _ _ _).symm.trans hq⟩;rw[this,Bool.or_true]
  ·have hge:=Y0 hy;have:anyI x.1 (vK l.H (l.H.getD x.1 dz))=false:=P5.2 λi hi=>y.2.2 i (yB hi hge)
   exact⟨W4 hlt Z9,x.succ hlt (by unfold x7;rw[hb,this];rfl),⟨⟨⟨rfl,rfl⟩,J2,Z6⟩,⟨rfl,rfl,⟨rfl,X6 _ _⟩,⟨rfl,X6 _ _⟩,Z6⟩,Z6⟩,V5.ext_lt hlt⟩
 ·have hlt:=Y2 hy;refine⟨Y6 hlt,λhq=>?_,λhq=>⟨W4 hlt Z9,y.succ hlt hq,⟨⟨X7,J2,Z6⟩,X7⟩,V5.ext_lt hlt⟩⟩
  have:anyI l.W.length (x6 l.W)=true:=R9.2 ⟨y.1,hlt,hq⟩;unfold C0;rw[this];simp
 ·have g1:=Y0 hc;have g2:=Y0 hy;have e1:anyI l.H.length (x7 l.H)=false:=P5.2 λi hi=>x.2.2 i (yB hi g1)
  have f:anyI l.W.length (x6 l.W)=false:=P5.2 λi hi=>y.2.2 i (yB hi g2)
  simp only[wU,uI] at h;unfold C0;rw[e1,f,mR (p:=l.H.length<=60) Z9,mR (p:=l.W.length<=100) Z9]
  rfl
structure Txn where
 id:Int
 Z:Int
 deriving Inhabited
def Txn.ts(t:Txn):List T:=[.int .i64 t.id,.int .i64 t.Z]
def X2(L:List Txn)(i:Nat):List T:=(L.getD i dz).ts
def tV(L:List Txn):T:=.sl 2 L.length (X2 L)
structure Eng where
 s:Sto
 up:Bool
 X:List Txn
 lk:Lks
 N:Int
 deriving Inhabited
def Eng.ts(e:Eng):List T:=[u4 e.s.d.E,v8 e.s.d.C,.bool e.s.d.A,sM e.s.d.keep,.int .i64 e.s.ep,zH e.s.L,.int .i64 e.s.S,uD e.s.fr,.int .i64 e.s.J,.bool e.up,tV e.X,wO e.lk.H,nI e.lk.W,.int .i64 e.N]
abbrev L4(a b:Eng):Prop:=(a.s.d.E.length=b.s.d.E.length/\Z7 a.s.d.E.length (Z5 a.s.d.E) (Z5 b.s.d.E))/\(a.s.d.C.length=b.s.d.C.length/\Z7 a.s.d.C.length (Z1 a.s.d.C) (Z1 b.s.d.C))/\a.s.d.A=b.s.d.A/\(a.s.d.keep.length=b.s.d.keep.length/\Z7 a.s.d.keep.length (Y9 a.s.d.keep) (Y9 b.s.d.keep))/\a.s.ep=b.s.ep/\(a.s.L.length=b.s.L.length/\Z7 a.s.L.length (Y1 a.s.L) (Y1 b.s.L))/\a.s.S=b.s.S/\(a.s.fr.length=b.s.fr.length/\Z7 a.s.fr.length (W2 a.s.fr) (W2 b.s.fr))/\a.s.J=b.s.J/\a.up=b.up/\(a.X.length=b.X.length/\Z7 a.X.length (X2 a.X) (X2 b.X))/\(a.lk.H.length=b.lk.H.length/\Z7 a.lk.H.length (Z2 a.lk.H) (Z2 b.lk.H))/\(a.lk.W.length=b.lk.W.length/\Z7 a.lk.W.length (Y7 a.lk.W) (Y7 b.lk.W))/\a.N=b.N/\True
theorem vS(s:Eng):L4 s s:=X7
def m0(e:Eng):Option Ob:=some (.arr true 1000000 14 1 λ_=>e.ts)
def x9(L:List Txn)(id:Int)(i:Nat):Bool:=(L.getD i dz).id==id
def T9(L:List Txn)(id:Int):Int:=S6 L.length (x9 L id)
def c3t:Con:=.rel ⟨Txn×Int,λx=>[.agg x.1.ts,.bref [.int .i64 x.2]],λx=>.bool (x.1.id==x.2),λ_=>True⟩
theorem c15(t:Txn)(id:Int)(h:
  (t.id==id)=(t.id==id)):
  V3 prog 282 [.agg t.ts,.bref [.int .i64 id]] (.bool (t.id==id)):=
 U6 gN func282 Z3 h
theorem b6w:GK 282 c3t:=gk func282<|λx _=>c15 x.1 x.2 rfl
def txF(id:Int):T:=.fn (.func 282) [.bref [.int .i64 id]]
def b70:Con:=.rel ⟨List Txn×Int,λx=>[tV x.1,txF x.2],λx=>.int .i64 (T9 x.1 x.2),λx=>L7 x.1.length⟩
def b6N(L:List Txn)(id:Int):Nat->Ann
 |0=>.one (V5 L.length (x9 L id)) (λx=>⟨[(0,tV L),(1,txF id),(7,.int .i64 L.length),(8,.int .i64 x.1)],[]⟩) (λx=>L.length-x.1) [] [] (λ_=>Z3)
 |_=>.none
theorem b3w:GK 281 b70:=gk func281<|by
 rintro⟨L,id⟩ (hL:L.length<1000000000000);refine U6 (gC b6w gN) func281 (b6N L id) (α:=let r:=(L.length:Int);let p:=(T.bref [Ji id]);(∃(x:V5 L.length (x9 L id)),((Z0 X2 L L)/\(Fn.func 282=Fn.func 282/\J9 (λ(x:Nat)=>none) p p/\True)/\r=r/\0=(x.1:Int)/\True)/\True)/\∀(x:V5 L.length (x9 L id)),let q:=(x.1:Int);let z:=(L.getD q.toNat dz);bd (q<r) (W9 q L.length/\∃(X:(Txn×Int)),(((z.id=X.1.id/\z.Z=X.1.Z/\True)/\(id=X.2/\True)/\True)/\True)/\br (X.1.id==X.2) (q=T9 L id) (Ri (q+1)/\∃(y:V5 L.length (x9 L id)),(((Z0 X2 L L)/\(Fn.func 282=Fn.func 282/\J9 (λ(x:Nat)=>none) p p/\True)/\r=r/\q+1=(y.1:Int)/\True)/\True)/\Lt (L.length-y.1) (L.length-x.1))) ((-1:Int)=T9 L id)) ⟨⟨F9,⟨X7,⟨rfl,U1 _,Z6⟩,X7⟩,Z6⟩,λx=>⟨λC=>?_,λC=>?_⟩⟩
 ·have h:=Y2 C;refine⟨Y6 h,(L.getD x.1 dz,id),X7,λhp=>(O0 h hp x.2.2).symm,λhp=>⟨W4 h Z9,x.succ h hp,⟨⟨X7,⟨rfl,U1 _,Z6⟩,rfl,J2,Z6⟩,Z6⟩,V5.ext_lt h⟩⟩
 ·have e:=Y0 C;exact(K4 λj J=>x.2.2 j (yB J e)).symm
def c6t:Con:=.rel ⟨Eng×Int,λx=>[.bref x.1.ts,.int .i64 x.2],λx=>.int .i64 (T9 x.1.X x.2),λx=>L7 x.1.X.length⟩
theorem c6O(e:Eng)(id:Int)(h:
  ∃(x:(List Txn×Int)),(((Z0 X2 e.X x.1)/\(Fn.func 282=Fn.func 282/\(id=x.2/\True)/\True)/\True)/\L7 x.1.length)/\T9 x.1 x.2=T9 e.X id):
  V3 prog 207 [.bref e.ts,.int .i64 id] (.int .i64 (T9 e.X id)):=
 U6 (gC b3w gN) func207 Z3 h
theorem qU:GK 207 c6t:=gk func207<|λx h=>c6O x.1 x.2 ⟨(x.1.X,x.2),⟨X7,h⟩,rfl⟩
def c2i:Con:=.rel ⟨Eng×Int,λx=>[.agg x.1.ts,.int .i64 x.2],λx=>.int .i64 (T9 x.1.X x.2),λx=>L7 x.1.X.length⟩
def c0i(e:Eng)(id:Int):Nat->Ann
 |0=>.one (V5 e.X.length (x9 e.X id)) (λx=>⟨[(1,.int .i64 id),(2,.ref 0 0 0),(5,.int .i64 x.1)],[m0 e]⟩) (λx=>e.X.length-x.1) [.box 0] [.box 0] (λ_=>Z3)
 |_=>.none
theorem a5n:GK 75 c2i:=gk func75<|by
 rintro⟨e,id⟩ (hL:e.X.length<1000000000000);refine U6 gN func75 (c0i e id) (α:=let q:=(1=1/\1=1/\L4 e e);(∃(x:V5 e.X.length (x9 e.X id)),(id=id/\(0=0/\0=0)/\0=(x.1:Int)/\True)/\q/\True)/\∀(x:V5 e.X.length (x9 e.X id)),let p:=(x.1:Int);bd (p<(e.X.length:Int)) (W9 p e.X.length/\br ((e.X.getD p.toNat dz).id==id) (p=T9 e.X id) (Ri (p+1)/\∃(y:V5 e.X.length (x9 e.X id)),((id=id/\(0=0/\0=0)/\p+1=(y.1:Int)/\True)/\q/\True)/\Lt (e.X.length-y.1) (e.X.length-x.1))) ((-1:Int)=T9 e.X id)) ⟨⟨F9,X7⟩,λx=>⟨λC=>?_,λC=>?_⟩⟩
 ·have h:=Y2 C;exact⟨Y6 h,λhp=>(O0 h hp x.2.2).symm,λhp=>⟨W4 h Z9,x.succ h hp,⟨⟨rfl,X7,J2,Z6⟩,X7⟩,V5.ext_lt h⟩⟩
 ·have d:=Y0 C;exact(K4 λj J=>x.2.2 j (yB J d)).symm
def Y8(L:List Rec)(at_:Int):Rec:=L.getD (at_-1).toNat dz
def ownR(L:List Rec)(at_ id:Int):Bool:=V9 at_ 1 L.length&&((Y8 L at_).t==id)&&V9 (Y8 L at_).k 1 3
def okR(L:List Rec)(id at_:Int):Bool:=ownR L at_ id&&((Y8 L at_).k !=3||ownR L (Y8 L at_).n id)
def chn(L:List Rec)(id:Int):Nat->Int->Bool
 |0,_=>true
 |f+1,at_=>decide (at_<=0)||(okR L id at_&&chn L id f (Y8 L at_).p)
def nF(L:List Rec)(t:Txn):Bool:=V9 t.Z 1 L.length&&chn L t.id 61 t.Z
def xL(L:List Rec):Prop:=L.length<=60/\∀i,i<L.length->zK (L.getD i dz)/\(L.getD i dz).l=(i:Int)+1
def c1R:Con:=.rel ⟨Sto×Int×Int,λx=>[.bref x.1.ts,.int .i64 x.2.1,.int .i64 x.2.2],λx=>.bool (ownR x.1.L x.2.1 x.2.2),λx=>L7 x.1.L.length⟩
theorem K7{n l hi:Int}:V9 n l hi=true↔l<=n/\n<=hi:=by
 unfold V9;simp only[I4,q8]
theorem b8e:GK 315 c1R:=gk func315<|by
 rintro⟨s,at_,id⟩ (hL:s.L.length<1000000000000);have d:V9 at_ 1 s.L.length=true->R3 .i64 (at_-1)/\W9 (at_-1) s.L.length:=λh=>by
  obtain⟨e,f⟩:=K7.1 h;exact⟨Z4 Z9,Z9,Z9⟩
 exact U6 (gC O3 gN) func315 Z3 (α:=let q:=(s.L.length:Int);let p:=(s.L.getD (at_-1).toNat dz);let r:=(V9 at_ (1:Int) q&&p.t==id);(V9 at_ (1:Int) q=true->Ri (at_-1))/\(V9 at_ (1:Int) q=true->W9 (at_-1) s.L.length)/\(r=true->Ri (at_-1))/\(r=true->W9 (at_-1) s.L.length)/\(V9 at_ (1:Int) q&&p.t==id&&V9 p.k (1:Int) (3:Int))=ownR s.L at_ id) ⟨λh=>(d h).1,λh=>(d h).2,λh=>(d (Bool.and_eq_true_iff.1 h).1).1,λh=>(d (Bool.and_eq_true_iff.1 h).1).2,rfl⟩
theorem xL.at{L:List Rec}(h:xL L){at_:Int}(d:1<=at_)(e:at_<=L.length):zK (Y8 L at_)/\(Y8 L at_).l=at_:=by
 obtain⟨a,b⟩:=h.2 (at_-1).toNat Z9
 exact⟨a,by unfold Y8;rw[b];omega⟩
theorem xL.prev{L:List Rec}(h:xL L){at_:Int}(e:1<=at_)(d:at_<=L.length):0<=(Y8 L at_).p/\(Y8 L at_).p<=at_-1/\0<=(Y8 L at_).n/\(Y8 L at_).n<=at_-1:=by
 obtain⟨a,b⟩:=h.at e d;obtain⟨_,_,_,_,_,_,Q,g,f,q,_⟩:=a;omega
theorem a5T{L:List Rec}{at_ id:Int}(h:ownR L at_ id=true):1<=at_/\at_<=L.length:=by
 unfold ownR at h;simp only[I4] at h;exact K7.1 h.1.1
theorem fZ(L:List Rec)(id:Int){f:Nat}(F:0<f){at_:Int}(h:1<=at_):chn L id f at_=(okR L id at_&&chn L id (f-1) (Y8 L at_).p):=by
 obtain⟨g,rfl⟩:∃g,f=g+1:=⟨f-1,Z9⟩
 show(decide (at_<=0)||_)=_;rw[tQ Z9,Bool.false_or]
 rfl
theorem a31(L:List Rec)(id:Int)(f:Nat){at_:Int}(h:at_<=0):chn L id f at_=true:=by
 cases f with
 |zero=>rfl
 |succ f=>show(decide (at_<=0)||_)=_;rw[mR h];rfl
def b5p(t:Txn):Option Ob:=some (.arr true 1000000 2 1 λ_=>t.ts)
def Chn(L:List Rec)(t:Txn):Type:={x:Nat×Int//0<x.1/\(V9 x.2 1 L.length&&chn L t.id x.1 x.2)=nF L t/\(x.2.toNat<x.1∨x.1=61)}
def b2b:Con:=.rel ⟨Sto×Txn,λx=>[.bref x.1.ts,.agg x.2.ts],λx=>.bool (nF x.1.L x.2),λx=>xL x.1.L⟩
def b1Z(s:Sto)(t:Txn):Nat->Ann
 |0=>.one (Chn s.L t) (λx=>⟨[(0,.bref s.ts),(3,.ref 0 0 0),(5,.int .i64 x.1.2)],[b5p t]⟩) (λx=>x.1.1) [.box 0] [.box 0] (λ_=>Z3)
 |_=>.none
theorem a8E:GK 231 b2b:=gk func231<|by
 rintro⟨s,t⟩ (hL:xL s.L);have j:=hL.1;refine U6 (gC b8e gN) func231 (b1Z s t) (α:=let z:=(T.bref s.ts);let r:=(1=1/\1=1/\t.id=t.id/\t.Z=t.Z/\True);(∃(x:Chn s.L t),(J9 (o5 [some 0]) z z/\(0=0/\0=0)/\t.Z=x.1.2/\True)/\r/\True)/\∀(x:Chn s.L t),let u:=(x.1.2-1);let q:=(s.L.getD u.toNat dz);∃(X:(Sto×Int×Int)),(((yU s X.1)/\x.1.2=X.2.1/\t.id=X.2.2/\True)/\L7 X.1.L.length)/\br (!ownR X.1.L X.2.1 X.2.2) (false=nF s.L t) (Ri u/\W9 u s.L.length/\∃(d:(Sto×Int×Int)),((q.k==3)=true->((yU s d.1)/\q.n=d.2.1/\t.id=d.2.2/\True)/\L7 d.1.L.length)/\br (q.k==3&& !ownR d.1.L d.2.1 d.2.2) (false=nF s.L t) (br (q.p==0) (true=nF s.L t) (∃(y:Chn s.L t),((J9 (o5 [some 0]) z z/\(0=0/\0=0)/\q.p=y.1.2/\True)/\r/\True)/\Lt y.1.1 x.1.1)))) ⟨⟨⟨(61,t.Z),Nat.succ_pos 60,rfl,.inr rfl⟩,⟨U1 _,X7⟩,X7⟩,λx=>?_⟩
 obtain⟨⟨f,at_⟩,hf,he,B⟩:=x;dsimp only at hf he B ⊢;refine⟨(s,at_,t.id),⟨⟨(jV _),X7⟩,by unfold L7;simp only;omega⟩,λho=>?_,λho=>?_⟩
 ·simp only[wA] at ho;rw[←he];cases hi:V9 at_ 1 s.L.length
  ·rfl
  ·obtain⟨q1,q2⟩:=K7.1 hi;rw[fZ _ _ hf q1];unfold okR;rw[ho];rfl
 ·simp only[wX] at ho;obtain⟨q1,q2⟩:=a5T ho;have hi:V9 at_ 1 s.L.length=true:=K7.2 ⟨q1,q2⟩;rw[hi,Bool.true_and,fZ _ _ hf q1] at he;obtain⟨p1,p2,_⟩:=hL.prev q1 q2;have eo:okR s.L t.id at_=((Y8 s.L at_).k !=3||ownR s.L (Y8 s.L at_).n t.id):=by unfold okR;rw[ho,Bool.true_and]
  refine⟨Z4 Z9,⟨Z9,Z9⟩,(s,(Y8 s.L at_).n,t.id),λ_=>⟨⟨(jV _),X7⟩,by unfold L7;simp only;omega⟩,λe=>?_,λe=>⟨λg=>?_,λg=>?_⟩⟩
  ·have e:((Y8 s.L at_).k==3&& !ownR s.L (Y8 s.L at_).n t.id)=true:=e;rw[←he,eo];simp only[I4,wA,beq_iff_eq] at e;rw[e.1,e.2];rfl
  ·have e:((Y8 s.L at_).k==3&& !ownR s.L (Y8 s.L at_).n t.id)=false:=e;have g:(Y8 s.L at_).p=0:=beq_iff_eq.1 g;have i:okR s.L t.id at_=true:=by
    rw[eo,←wX,Bool.not_or,show(!((Y8 s.L at_).k !=3))=((Y8 s.L at_).k==3) by simp[bne]]
    exact e
   rw[←he,i,g,a31 _ _ _ (Int.le_refl 0)];rfl
  ·have e:((Y8 s.L at_).k==3&& !ownR s.L (Y8 s.L at_).n t.id)=false:=e;have g:(Y8 s.L at_).p≠0:=λh=>by
    have g:((Y8 s.L at_).p==0)=false:=g;rw[h] at g;cases g
   have i:okR s.L t.id at_=true:=by
    rw[eo,←wX,Bool.not_or,show(!((Y8 s.L at_).k !=3))=((Y8 s.L at_).k==3) by simp[bne]]
    exact e
   rw[i,Bool.true_and] at he;refine⟨⟨(f-1,(Y8 s.L at_).p),M3,?_,M3⟩,⟨⟨U1 _,X7⟩,X7⟩,show f-1<f by omega⟩
   simp only;rw[K7.2 (show 1<=(Y8 s.L at_).p/\(Y8 s.L at_).p<=(s.L.length:Int) by omega),Bool.true_and]
   exact he
def und(L:List Rec):Nat->Int->Nat
 |0,_=>0
 |f+1,at_=>if at_<=0 then 0 else if(Y8 L at_).k=3 then und L f (Y8 L at_).n else(if(Y8 L at_).k=2 then 1 else 0)+und L f (Y8 L at_).p
def fY(m:Nat):Option Ob:=some (.arr true 1000000 1 1 λ_=>[.int .i64 m])
def b8T:Con:=.reff ⟨Rec×Nat,λx=>[.agg x.1.ts,.ref 0 0 0],λx=>[fY x.2],λ_=>.bool true,λx=>[fY (x.2+1)],λx=>x.2<1000⟩
theorem b1W:GK 338 b8T:=gk func338<|by
 rintro⟨r,m⟩ (h:m<1000);exact vcE gN func338 Z3 (bs:=[true]) (α:=Ri ((m:Int)+1)/\true=true/\(1=1/\1=1/\(m:Int)+1=(↑(m+1):Int)/\True)/\True) ⟨Z4 Z9,rfl,⟨rfl,rfl,Z9,Z6⟩,Z6⟩
def rH(L:List Rec)(at_:Int):Prop:=xL L/\at_<=(L.length:Int)
def b2r:Con:=.reff ⟨Sto×Int,λx=>[.bref x.1.ts,.int .i64 x.2,.fn (.func 338) [.ref 0 0 0]],λ_=>[fY 1],λ_=>.tup [],λx=>[fY (1+und x.1.L 61 x.2)],λx=>rH x.1.L x.2⟩
def Und(L:List Rec)(f:Int):Type:={x:Nat×Int×Nat//x.2.2+und L x.1 x.2.1=1+und L 61 f/\x.2.1<=(L.length:Int)/\x.2.1.toNat<x.1/\x.2.2+x.1<=100}
def b2Y(s:Sto)(f:Int):Nat->Ann
 |0=>.one (Und s.L f) (λx=>⟨[(0,.bref s.ts),(1,.int .i64 x.1.2.1),(2,.fn (.func 338) [.ref 0 0 0])],[fY x.1.2.2]⟩) (λx=>x.1.1) [.box 0] [.box 0] (λ_=>Z3)
 |_=>.none
theorem a1N(L:List Rec):∀(f:Nat) (at_:Int),und L f at_<=f:=by
 intro f;induction f with
 |zero=>intro at_;exact U9 0
 |succ f i=>
  intro at_;unfold und;split
  ·omega
  ·split
   ·have:=i (Y8 L at_).n;omega
   ·have:=i (Y8 L at_).p;split<;>omega
theorem a2h{L:List Rec}{f:Nat}{at_:Int}(h:0<at_)(F:at_.toNat<f)(d:(Y8 L at_).k=3):und L f at_=und L (f-1) (Y8 L at_).n:=by
 obtain⟨g,rfl⟩:∃g,f=g+1:=⟨f-1,Z9⟩
 conv=>lhs;unfold und
 rw[if_neg Z9,if_pos d]
 rfl
theorem iO{L:List Rec}{f:Nat}{at_:Int}(h:0<at_)(F:at_.toNat<f)(d:(Y8 L at_).k≠3):und L f at_=(if(Y8 L at_).k=2 then 1 else 0)+und L (f-1) (Y8 L at_).p:=by
 obtain⟨g,rfl⟩:∃g,f=g+1:=⟨f-1,Z9⟩
 conv=>lhs;unfold und
 rw[if_neg Z9,if_neg d]
 rfl
theorem a3l{L:List Rec}{f:Nat}{at_:Int}(h:at_<=0):und L f at_=0:=by
 cases f with
 |zero=>rfl
 |succ f=>unfold und;rw[if_pos h]
theorem a7T:GK 268 b2r:=gk func268<|by
 rintro⟨s,F⟩ ⟨hL,L⟩;dsimp only at hL L;have q:=hL.1;refine vcE (gC b1W gN) func268 (b2Y s F) (bs:=[true]) (α:=let m:=(↑(1+und s.L 61 F):Int);let j:=(o5 [some 0]);let z:=(T.bref s.ts);let r:=(Fn.func 338=Fn.func 338/\(0=0/\0=0)/\True);(∃(x:Und s.L F),(J9 j z z/\F=x.1.2.1/\r/\True)/\(1=1/\1=1/\1=(x.1.2.2:Int)/\True)/\True)/\∀(x:Und s.L F),let w:=(x.1.2.1- (1:Int));let v:=(x.1.2.2:Int);let u:=(True/\(1=1/\1=1/\v=m/\True)/\True);let q:=(s.L.getD w.toNat dz);bd (x.1.2.1>(0:Int)) (Ri w/\W9 w s.L.length/\br (q.k==3) (∃(y:Und s.L F),((J9 j z z/\q.n=y.1.2.1/\r/\True)/\(1=1/\1=1/\v=(y.1.2.2:Int)/\True)/\True)/\Lt y.1.1 x.1.1) (∃(X:(Rec×Nat)),((q.k==2)=true->((q.e=X.1.e/\q.l=X.1.l/\q.t=X.1.t/\q.k=X.1.k/\q.p=X.1.p/\q.n=X.1.n/\q.g=X.1.g/\q.s=X.1.s/\q.b=X.1.b/\q.a=X.1.a/\True)/\(0=0/\0=0)/\True)/\((1=1/\Z7 1 (λ(x_2:Nat)=>[Ji v]) λ(x:Nat)=>[Ji (X.2:Int)])/\True)/\X.2<1000)/\((q.k==2)=true->br (q.k==2&&false) (True/\(1=1/\1=1/\(↑(X.2+1):Int)=m/\True)/\True) (∃(y:Und s.L F),((J9 j z z/\q.p=y.1.2.1/\r/\True)/\(1=1/\1=1/\(↑(X.2+1):Int)=(y.1.2.2:Int)/\True)/\True)/\Lt y.1.1 x.1.1))/\(((q.k==2)=true->False)->br (q.k==2&&false) u (∃(y:Und s.L F),((J9 j z z/\q.p=y.1.2.1/\r/\True)/\(1=1/\1=1/\v=(y.1.2.2:Int)/\True)/\True)/\Lt y.1.1 x.1.1)))) u) ⟨⟨⟨(61,F,1),rfl,L,X5,X5⟩,⟨U1 _,X7⟩,X7⟩,λx=>?_⟩
 obtain⟨⟨f,at_,m⟩,i,hle,o,M⟩:=x;dsimp only at i hle o M ⊢;refine⟨λhc=>?_,λhc=>?_⟩
 ·have h0:at_>0:=G6 hc;obtain⟨p1,p2,p3,p4⟩:=hL.prev (show 1<=at_ by omega) hle
  refine⟨Z4 Z9,⟨Z9,Z9⟩,λd=>?_,λd=>?_⟩
  ·have d:(Y8 s.L at_).k=3:=beq_iff_eq.1 d;rw[a2h h0 o d] at i;exact⟨⟨(f-1,(Y8 s.L at_).n,m),i,X5,X5,X5⟩,⟨⟨U1 _,X7⟩,X7⟩,show f-1<f by omega⟩
  ·have d:(Y8 s.L at_).k≠3:=λh=>by
    have d:((Y8 s.L at_).k==3)=false:=d;rw[h] at d;cases d
   rw[iO h0 o d] at i;refine⟨(Y8 s.L at_,m),λ_=>⟨X7,X7,X5⟩,λh2=>⟨λj=>?_,λ_=>?_⟩,λh2=>⟨λj=>?_,λ_=>?_⟩⟩
   ·rw[Bool.and_false] at j;cases j
   ·have h2:(Y8 s.L at_).k=2:=beq_iff_eq.1 h2;rw[if_pos h2] at i;exact⟨⟨(f-1,(Y8 s.L at_).p,m+1),X5,X5,X5,X5⟩,⟨⟨U1 _,X7⟩,X7⟩,show f-1<f by omega⟩
   ·rw[Bool.and_false] at j;cases j
   ·have h2:¬ (Y8 s.L at_).k=2:=λh=>h2 (beq_iff_eq.2 h)
    rw[if_neg h2] at i;exact⟨⟨(f-1,(Y8 s.L at_).p,m),X5,X5,X5,X5⟩,⟨⟨U1 _,X7⟩,X7⟩,show f-1<f by omega⟩
 ·have h0:at_<=0:=by have:=m9 hc;omega
  rw[a3l h0] at i;exact⟨Z6,⟨rfl,rfl,Z9,Z6⟩,Z6⟩
def b8D:Con:=.rel ⟨Sto×Int,λx=>[.bref x.1.ts,.int .i64 x.2],λx=>.int .i64 ((1+und x.1.L 61 x.2:Nat):Int),λx=>rH x.1.L x.2⟩
theorem b21:GK 280 b8D:=gk func280<|by
 rintro⟨s,f⟩ h;exact U6 (gC a7T gN) func280 Z3 (α:=∃(x:(Sto×Int)),(((yU s x.1)/\f=x.2/\(Fn.func 338=Fn.func 338/\(0=0/\0=0)/\True)/\True)/\((1=1/\Z7 1 (setRow (λ(x:Nat)=>[Ji 0]) 0 0 [Ji 1]) λ(x:Nat)=>[Ji 1])/\True)/\rH x.1.L x.2)/\(↑(1+und x.1.L 61 x.2):Int)=(↑(1+und s.L 61 f):Int)) ⟨(s,f),⟨⟨(jV _),X7⟩,⟨⟨rfl,λi hi=>b97⟩,Z6⟩,h⟩,rfl⟩
def b7Q:Con:=.rel ⟨Bool,λb=>[.bool b],λb=>.int .i64 (if b then 1 else 0),λ_=>True⟩
theorem b7L(b:Bool)(h:
  (b=true->1=if b=true then(1:Int) else(0:Int))/\(b=false->0=if b=true then(1:Int) else(0:Int))):
  V3 prog 259 [.bool b] (.int .i64 (if b then 1 else 0)):=
 U6 gN func259 Z3 h
theorem b25:GK 259 b7Q:=gk func259<|λb _=>b7L b ⟨λh=>by rw[if_pos h],λh=>by rw[h];rfl⟩
def b3R:Con:=.rel ⟨Sto×Int,λx=>[.agg x.1.ts,.int .i64 x.2],λx=>.int .i64 ((1+und x.1.L 61 x.2:Nat):Int),λx=>rH x.1.L x.2⟩
def b1S(s:Sto)(f:Int):Nat->Ann
 |0=>.one (Und s.L f) (λx=>⟨[(1,.int .i64 x.1.2.1),(2,.ref 0 0 0),(5,.int .i64 x.1.2.2)],[fL s]⟩) (λx=>x.1.1) [.box 0] [.box 0] (λ_=>Z3)
 |_=>.none
theorem a7R:GK 164 b3R:=gk func164<|by
 rintro⟨s,F⟩ ⟨hL,l⟩;dsimp only at hL l;have g:=hL.1;refine U6 (gC b25 gN) func164 (b1S s F) (α:=let w:=(0=0/\0=0);let u:=(1=1/\1=1/\yU s s);(∃(x:Und s.L F),(F=x.1.2.1/\w/\1=(x.1.2.2:Int)/\True)/\u/\True)/\∀(x:Und s.L F),let v:=(x.1.2.2:Int);let z:=(x.1.2.1- (1:Int));let q:=(s.L.getD z.toNat dz);bd (x.1.2.1>(0:Int)) (Ri z/\W9 z s.L.length/\br (q.k==3) (∃(y:Und s.L F),((q.n=y.1.2.1/\w/\v=(y.1.2.2:Int)/\True)/\u/\True)/\Lt y.1.1 x.1.1) (∃(X:Bool),let r:=(v+if X=true then(1:Int) else(0:Int));(((q.k==2)=X/\True)/\True)/\Ri r/\∃(y:Und s.L F),((q.p=y.1.2.1/\w/\r=(y.1.2.2:Int)/\True)/\u/\True)/\Lt y.1.1 x.1.1)) (v=(↑(1+und s.L 61 F):Int))) ⟨⟨⟨(61,F,1),rfl,l,X5,X5⟩,X7⟩,λx=>?_⟩
 obtain⟨⟨f,at_,m⟩,he,hle,e,M⟩:=x;dsimp only at he hle e M ⊢;refine⟨λhc=>?_,λhc=>?_⟩
 ·have h0:at_>0:=G6 hc;obtain⟨p1,p2,p3,p4⟩:=hL.prev (show 1<=at_ by omega) hle
  refine⟨Z4 Z9,⟨Z9,Z9⟩,λd=>?_,λd=>?_⟩
  ·have d:(Y8 s.L at_).k=3:=beq_iff_eq.1 d;rw[a2h h0 e d] at he;exact⟨⟨(f-1,(Y8 s.L at_).n,m),he,X5,X5,X5⟩,X7,show f-1<f by omega⟩
  ·have d:(Y8 s.L at_).k≠3:=λh=>by
    have d:((Y8 s.L at_).k==3)=false:=d;rw[h] at d;cases d
   rw[iO h0 e d] at he;have N:und s.L (f-1) (Y8 s.L at_).p<=f-1:=a1N _ _ _;refine⟨(Y8 s.L at_).k==2,X7,?_,?_⟩
   ·split<;>exact Z4 Z9
   ·by_cases h2:(Y8 s.L at_).k=2
    ·rw[if_pos h2] at he;rw[if_pos (by simpa using h2)]
     exact⟨⟨(f-1,(Y8 s.L at_).p,m+1),X5,X5,X5,X5⟩,X7,show f-1<f by omega⟩
    ·rw[if_neg h2] at he;rw[if_neg (by simpa using h2)]
     exact⟨⟨(f-1,(Y8 s.L at_).p,m),X5,X5,X5,X5⟩,⟨⟨rfl,X7,X5,Z6⟩,X7⟩,show f-1<f by omega⟩
 ·have h0:at_<=0:=by have:=m9 hc;omega
  rw[a3l h0] at he;show(m:Int)=_;omega
def tR(L:List Rec)(T:List Txn):Nat->Nat
 |0=>0
 |k+1=>tR L T k+(1+und L 61 (T.getD k dz).Z)
def nM(e:Eng):Nat:=tR e.s.L e.X e.X.length
def wT(e:Eng):Prop:=xL e.s.L/\e.X.length<=10/\∀i,i<e.X.length->(e.X.getD i dz).Z<=(e.s.L.length:Int)
theorem dK(L:List Rec)(T:List Txn):∀k,tR L T k<=62*k:=by
 intro k;induction k with
 |zero=>exact U9 0
 |succ k i=>unfold tR;have:=a1N L 61 (T.getD k dz).Z;omega
def b95:Con:=.rel ⟨Eng,λe=>[.bref e.ts],λe=>.int .i64 (nM e),wT⟩
def b85(e:Eng):Nat->Ann
 |0=>.one (Up e.X.length) (λx=>⟨[(0,.bref e.ts),(3,.int .i64 (tR e.s.L e.X x.1)),(9,tV e.X),(10,.int .i64 e.X.length),(11,.int .i64 x.1)],[]⟩) (λx=>e.X.length-x.1) [] [] (λ_=>Z3)
 |_=>.none
theorem a5G{L:List Rec}{T:List Txn}{i:Nat}:((tR L T i:Nat):Int)+((1+und L 61 (T.getD i dz).Z:Nat):Int)=(tR L T (i+1):Nat):=by
 conv=>rhs;unfold tR
 omega
theorem b3Y:GK 206 b95:=gk func206<|by
 rintro(e:Eng) ⟨hL,h10,hb⟩;refine U6 (gC b21 gN) func206 (b85 e) (α:=let z:=(T.bref e.ts);let p:=(e.X.length:Int);(∃(x:Up e.X.length),(J9 (λ(x:Nat)=>none) z z/\0=(↑(tR e.s.L e.X x.1):Int)/\(Z0 X2 e.X e.X)/\p=p/\0=(x.1:Int)/\True)/\True)/\∀(x:Up e.X.length),let r:=(x.1:Int);let q:=(↑(tR e.s.L e.X x.1):Int);bd (r<p) (W9 r e.X.length/\∃(X:(Sto×Int)),let u:=(↑(1+und X.1.L 61 X.2):Int);(((yU e.s X.1)/\(e.X.getD r.toNat dz).Z=X.2/\True)/\rH X.1.L X.2)/\Ri (q+u)/\Ri (r+1)/\∃(y:Up e.X.length),((J9 (λ(x:Nat)=>none) z z/\q+u=(↑(tR e.s.L e.X y.1):Int)/\(Z0 X2 e.X e.X)/\p=p/\r+1=(y.1:Int)/\True)/\True)/\Lt (e.X.length-y.1) (e.X.length-x.1)) (q=(↑(nM e):Int))) ⟨⟨⟨0,N5 _⟩,⟨U1 _,X7⟩,Z6⟩,λx=>⟨λhc=>?_,λhc=>?_⟩⟩
 ·have h:=Y2 hc;have f:=dK e.s.L e.X x.1;have d:=a1N e.s.L 61 (e.X.getD x.1 dz).Z;refine⟨Y6 h,(e.s,(e.X.getD x.1 dz).Z),⟨⟨(jV _),X7⟩,hL,hb _ h⟩,Z4 X5,W4 h Z9,⟨x.1+1,h⟩,⟨⟨U1 _,a5G,X7,rfl,X5,Z6⟩,Z6⟩,V5.ext_lt h⟩
 ·have hx:x.1=e.X.length:=by have:=x.2;have:=Y0 hc;omega
  rw[hx];rfl
def b2F:Con:=.rel ⟨Eng×Int,λx=>[.bref x.1.ts,.int .i64 x.2],λx=>.bool (decide ((x.1.s.L.length:Int)+nM x.1+x.2<=60)),λx=>wT x.1/\m7 x.2⟩
theorem gY:GK 118 b2F:=gk func118<|by
 rintro⟨e,m⟩ ⟨h,g,f⟩;dsimp only at h g f;have B:=dK e.s.L e.X e.X.length;have d:=h.2.1;have i:=h.1.1;have j:nM e=tR e.s.L e.X e.X.length:=rfl;exact U6 (gC b3Y gN) func118 Z3 (α:=let p:=(e.s.L.length:Int);∃(x:Eng),let q:=(↑(nM x):Int);(((L4 e x)/\True)/\wT x)/\Ri (p+q)/\Ri (p+q+m)/\decide (p+q+m<=60)=decide (p+(↑(nM e):Int)+m<=60)) ⟨e,⟨⟨(vS _),Z6⟩,h⟩,Z4 Z9,Z4 Z9,rfl⟩
def a17:Con:=.rel ⟨Eng,λe=>[.agg e.ts],λe=>.int .i64 (nM e),wT⟩
def a1V(e:Eng):Nat->Ann
 |0=>.one (Up e.X.length) (λx=>⟨[(1,.ref 0 0 0),(3,.int .i64 (tR e.s.L e.X x.1)),(4,.int .i64 x.1)],[m0 e]⟩) (λx=>e.X.length-x.1) [.box 0] [.box 0] (λ_=>Z3)
 |_=>.none
theorem pT:GK 76 a17:=gk func76<|by
 rintro(e:Eng) ⟨hL,h10,hb⟩;refine U6 (gC a7R gN) func76 (a1V e) (α:=let z:=(1=1/\1=1/\L4 e e);(∃(x:Up e.X.length),((0=0/\0=0)/\0=(↑(tR e.s.L e.X x.1):Int)/\0=(x.1:Int)/\True)/\z/\True)/\∀(x:Up e.X.length),let q:=(x.1:Int);let p:=(↑(tR e.s.L e.X x.1):Int);bd (q<(e.X.length:Int)) (W9 q e.X.length/\∃(X:(Sto×Int)),let r:=(↑(1+und X.1.L 61 X.2):Int);(((yU e.s X.1)/\(e.X.getD q.toNat dz).Z=X.2/\True)/\rH X.1.L X.2)/\Ri (p+r)/\Ri (q+1)/\∃(y:Up e.X.length),(((0=0/\0=0)/\p+r=(↑(tR e.s.L e.X y.1):Int)/\q+1=(y.1:Int)/\True)/\z/\True)/\Lt (e.X.length-y.1) (e.X.length-x.1)) (p=(↑(nM e):Int))) ⟨⟨⟨0,N5 _⟩,X7⟩,λx=>⟨λhc=>?_,λhc=>?_⟩⟩
 ·have h:=Y2 hc;have f:=dK e.s.L e.X x.1;have d:=a1N e.s.L 61 (e.X.getD x.1 dz).Z;refine⟨Y6 h,(e.s,(e.X.getD x.1 dz).Z),⟨⟨(jV _),X7⟩,hL,hb _ h⟩,Z4 X5,W4 h Z9,⟨x.1+1,h⟩,⟨⟨X7,a5G,X5,Z6⟩,X7⟩,V5.ext_lt h⟩
 ·have hx:x.1=e.X.length:=by have:=x.2;have:=Y0 hc;omega
  rw[hx];rfl
def a4E(L:List Rec)(r:Rec):Bool:=decide (r.n>0)&&((Y8 L r.n).t==r.t)&&decide ((Y8 L r.n).k<=3)
def b12:Con:=.rel ⟨Sto×Rec,λx=>[.agg x.1.ts,.agg x.2.ts],λx=>.bool (a4E x.1.L x.2),λx=>x.2.n<=(x.1.L.length:Int)/\L7 x.1.L.length⟩
theorem a8X:GK 74 b12:=gk func74<|by
 rintro⟨s,r⟩ ⟨f,e⟩;have e:s.L.length<1000000000000:=e;dsimp only at f;have d:decide (r.n>(0:Int))=true->R3 .i64 (r.n-1)/\W9 (r.n-1) s.L.length:=λh=>by
  have h:=G6 h;exact⟨Z4 Z9,Z9,Z9⟩
 exact U6 gN func74 Z3 (α:=let p:=(s.L.getD (r.n-1).toNat dz);let q:=(decide (r.n>0)&&p.t==r.t);(decide (r.n>0)=true->Ri (r.n-1))/\(decide (r.n>0)=true->W9 (r.n-1) s.L.length)/\(q=true->Ri (r.n-1))/\(q=true->W9 (r.n-1) s.L.length)/\(decide (r.n>0)&&p.t==r.t&&decide (p.k<=3))=a4E s.L r) ⟨λh=>(d h).1,λh=>(d h).2,λh=>(d (Bool.and_eq_true_iff.1 h).1).1,λh=>(d (Bool.and_eq_true_iff.1 h).1).2,rfl⟩
def wR(e:Eng)(i:Nat):Bool:=decide (T9 e.X (e.lk.H.getD i dz).tx<0)
def s9(e:Eng)(i:Nat):Bool:=decide (T9 e.X (e.lk.W.getD i dz).tx<0)||decide (T9 e.X (e.lk.W.getD i dz).fo<0)
def TxL(e:Eng):Prop:=L7 e.X.length
def a4l:Con:=.rel ⟨Eng×Lck,λx=>[.agg x.2.ts,.bref [.bref x.1.ts]],λx=>.bool (decide (T9 x.1.X x.2.tx<0)),λx=>TxL x.1⟩
theorem a5v(e:Eng)(l:Lck)(h:
  ∃(x:(Eng×Int)),(((L4 e x.1)/\l.tx=x.2/\True)/\L7 x.1.X.length)/\decide (T9 x.1.X x.2<0)=decide (T9 e.X l.tx<0)):
  V3 prog 233 [.agg l.ts,.bref [.bref e.ts]] (.bool (decide (T9 e.X l.tx<0))):=
 U6 (gC qU gN) func233 Z3 h
theorem a1p:GK 233 a4l:=gk func233<|λx h=>a5v x.1 x.2 ⟨(x.1,x.2.tx),⟨⟨(vS _),X7⟩,h⟩,rfl⟩
def a26:Con:=.rel ⟨Eng×Wt,λx=>[.agg x.2.ts,.bref [.bref x.1.ts]],λx=>.bool (decide (T9 x.1.X x.2.tx<0)||decide (T9 x.1.X x.2.fo<0)),λx=>TxL x.1⟩
theorem a40(e:Eng)(l:Wt)(h:
  ∃(x:(Eng×Int)),(((L4 e x.1)/\l.tx=x.2/\True)/\L7 x.1.X.length)/\∃(X:(Eng×Int)),(decide (T9 x.1.X x.2<0)=false->((L4 e X.1)/\l.fo=X.2/\True)/\L7 X.1.X.length)/\(decide (T9 x.1.X x.2<0)||decide (T9 X.1.X X.2<0))=(decide (T9 e.X l.tx<0)||decide (T9 e.X l.fo<0))):
  V3 prog 235 [.agg l.ts,.bref [.bref e.ts]] (.bool (decide (T9 e.X l.tx<0)||decide (T9 e.X l.fo<0))):=
 U6 (gC qU gN) func235 Z3 h
theorem a11:GK 235 a26:=gk func235<|λx h=>a40 x.1 x.2 ⟨(x.1,x.2.tx),⟨⟨(vS _),X7⟩,h⟩,(x.1,x.2.fo),λ_=>⟨⟨(vS _),X7⟩,h⟩,rfl⟩
def eF1(e:Eng):T:=.fn (.func 233) [.bref [.bref e.ts]]
def eF2(e:Eng):T:=.fn (.func 235) [.bref [.bref e.ts]]
def HlL(e:Eng):Prop:=TxL e/\L7 e.lk.H.length/\L7 e.lk.W.length
def b2c:Con:=.rel ⟨Eng,λe=>[wO e.lk.H,eF1 e],λe=>.int .i64 (S6 e.lk.H.length (wR e)),HlL⟩
def b3l(e:Eng):Nat->Ann
 |0=>.one (V5 e.lk.H.length (wR e)) (λx=>⟨[(0,wO e.lk.H),(1,eF1 e),(7,.int .i64 e.lk.H.length),(8,.int .i64 x.1)],[]⟩) (λx=>e.lk.H.length-x.1) [] [] (λ_=>Z3)
 |_=>.none
theorem a8K:GK 316 b2c:=gk func316<|by
 rintro(e:Eng) ⟨ht,g,f⟩;have g:e.lk.H.length<1000000000000:=g;have f:e.lk.W.length<1000000000000:=f;refine U6 (gC a1p gN) func316 (b3l e) (α:=let u:=(Z0 Z2 e.lk.H e.lk.H);let r:=(T.bref [T.bref e.ts]);let q:=(e.lk.H.length:Int);(∃(x:V5 e.lk.H.length (wR e)),(u/\(Fn.func 233=Fn.func 233/\J9 (λ(x:Nat)=>none) r r/\True)/\q=q/\0=(x.1:Int)/\True)/\True)/\∀(x:V5 e.lk.H.length (wR e)),let z:=(x.1:Int);let p:=(e.lk.H.getD z.toNat dz);bd (z<q) (W9 z e.lk.H.length/\∃(X:(Eng×Lck)),(((p.tx=X.2.tx/\p.ta=X.2.ta/\p.row=X.2.row/\p.mo=X.2.mo/\True)/\((L4 e X.1)/\True)/\True)/\TxL X.1)/\bd (T9 X.1.X X.2.tx<0) (z=S6 e.lk.H.length (wR e)) (Ri (z+1)/\∃(y:V5 e.lk.H.length (wR e)),((u/\(Fn.func 233=Fn.func 233/\J9 (λ(x:Nat)=>none) r r/\True)/\q=q/\z+1=(y.1:Int)/\True)/\True)/\Lt (e.lk.H.length-y.1) (e.lk.H.length-x.1))) ((-1:Int)=S6 e.lk.H.length (wR e))) ⟨⟨F9,⟨X7,⟨rfl,U1 _,Z6⟩,X7⟩,Z6⟩,λx=>⟨λC=>?_,λC=>?_⟩⟩
 ·have h:=Y2 C;refine⟨Y6 h,(e,e.lk.H.getD x.1 dz),⟨⟨X7,⟨(vS _),Z6⟩,Z6⟩,ht⟩,λhp=>(O0 h hp x.2.2).symm,λhp=>⟨W4 h Z9,x.succ h hp,⟨⟨X7,⟨rfl,U1 _,Z6⟩,rfl,J2,Z6⟩,Z6⟩,V5.ext_lt h⟩⟩
 ·have d:=Y0 C;exact(K4 λj J=>x.2.2 j (yB J d)).symm
def b2Q:Con:=.rel ⟨Eng,λe=>[wO e.lk.H,eF1 e],λe=>.bool (anyI e.lk.H.length (wR e)),HlL⟩
theorem b15(e:Eng)(h:
  ∃(x:Eng),(((Z0 Z2 e.lk.H x.lk.H)/\(Fn.func 233=Fn.func 233/\((L4 e x)/\True)/\True)/\True)/\HlL x)/\decide (S6 x.lk.H.length (wR x)≥(0:Int))=anyI e.lk.H.length (wR e)):
  V3 prog 232 [wO e.lk.H,eF1 e] (.bool (anyI e.lk.H.length (wR e))):=
 U6 (gC a8K gN) func232 Z3 h
theorem a8h:GK 232 b2Q:=gk func232<|λ(e:Eng) h=>b15 e ⟨e,⟨⟨X7,⟨rfl,⟨(vS _),Z6⟩,Z6⟩,Z6⟩,h⟩,D1 _ _⟩
def b8N:Con:=.rel ⟨Eng,λe=>[nI e.lk.W,eF2 e],λe=>.int .i64 (S6 e.lk.W.length (s9 e)),HlL⟩
def b5w(e:Eng):Nat->Ann
 |0=>.one (V5 e.lk.W.length (s9 e)) (λx=>⟨[(0,nI e.lk.W),(1,eF2 e),(7,.int .i64 e.lk.W.length),(8,.int .i64 x.1)],[]⟩) (λx=>e.lk.W.length-x.1) [] [] (λ_=>Z3)
 |_=>.none
theorem b4m:GK 317 b8N:=gk func317<|by
 rintro(e:Eng) ⟨ht,g,f⟩;have g:e.lk.H.length<1000000000000:=g;have f:e.lk.W.length<1000000000000:=f;refine U6 (gC a11 gN) func317 (b5w e) (α:=let u:=(Z0 Y7 e.lk.W e.lk.W);let q:=(T.bref [T.bref e.ts]);let p:=(e.lk.W.length:Int);(∃(x:V5 e.lk.W.length (s9 e)),(u/\(Fn.func 235=Fn.func 235/\J9 (λ(x:Nat)=>none) q q/\True)/\p=p/\0=(x.1:Int)/\True)/\True)/\∀(x:V5 e.lk.W.length (s9 e)),let r:=(x.1:Int);let z:=(e.lk.W.getD r.toNat dz);bd (r<p) (W9 r e.lk.W.length/\∃(X:(Eng×Wt)),(((z.tx=X.2.tx/\z.fo=X.2.fo/\True)/\((L4 e X.1)/\True)/\True)/\TxL X.1)/\br (decide (T9 X.1.X X.2.tx<0)||decide (T9 X.1.X X.2.fo<0)) (r=S6 e.lk.W.length (s9 e)) (Ri (r+1)/\∃(y:V5 e.lk.W.length (s9 e)),((u/\(Fn.func 235=Fn.func 235/\J9 (λ(x:Nat)=>none) q q/\True)/\p=p/\r+1=(y.1:Int)/\True)/\True)/\Lt (e.lk.W.length-y.1) (e.lk.W.length-x.1))) ((-1:Int)=S6 e.lk.W.length (s9 e))) ⟨⟨F9,⟨X7,⟨rfl,U1 _,Z6⟩,X7⟩,Z6⟩,λx=>⟨λC=>?_,λC=>?_⟩⟩
 ·have h:=Y2 C;refine⟨Y6 h,(e,e.lk.W.getD x.1 dz),⟨⟨X7,⟨(vS _),Z6⟩,Z6⟩,ht⟩,λhp=>(O0 h hp x.2.2).symm,λhp=>⟨W4 h Z9,x.succ h hp,⟨⟨X7,⟨rfl,U1 _,Z6⟩,rfl,J2,Z6⟩,Z6⟩,V5.ext_lt h⟩⟩
 ·have d:=Y0 C;exact(K4 λj J=>x.2.2 j (yB J d)).symm
def b51:Con:=.rel ⟨Eng,λe=>[nI e.lk.W,eF2 e],λe=>.bool (anyI e.lk.W.length (s9 e)),HlL⟩
theorem b6m(e:Eng)(h:
  ∃(x:Eng),(((Z0 Y7 e.lk.W x.lk.W)/\(Fn.func 235=Fn.func 235/\((L4 e x)/\True)/\True)/\True)/\HlL x)/\decide (S6 x.lk.W.length (s9 x)≥(0:Int))=anyI e.lk.W.length (s9 e)):
  V3 prog 234 [nI e.lk.W,eF2 e] (.bool (anyI e.lk.W.length (s9 e))):=
 U6 (gC b4m gN) func234 Z3 h
theorem b1C:GK 234 b51:=gk func234<|λ(e:Eng) h=>b6m e ⟨e,⟨⟨X7,⟨rfl,⟨(vS _),Z6⟩,Z6⟩,Z6⟩,h⟩,D1 _ _⟩
def z4(e:Eng)(i:Nat):Bool:= !V9 (e.X.getD i dz).id 1 (e.N-1)||(decide ((i:Int)>0)&&decide ((e.X.getD (i-1) dz).id≥(e.X.getD i dz).id))|| !nF e.s.L (e.X.getD i dz)
def wD(e:Eng):Bool:=decide (e.X.length<=10)&&V9 e.N 1 61&&C0 e.lk
def a4h(e:Eng):Bool:=decide (e.X.length+e.lk.H.length+e.lk.W.length+e.s.fr.length=0)
def upE(e:Eng):Bool:= !anyI e.X.length (z4 e)&& !anyI e.lk.H.length (wR e)&& !anyI e.lk.W.length (s9 e)&&decide (e.s.L.length+nM e<=60)
def sP(e:Eng):Bool:=wD e&&(if e.up then upE e else a4h e)
def c7U(e:Eng):Prop:=xL e.s.L/\b7R e.lk/\L7 e.X.length/\L7 e.s.fr.length
def a6m:Con:=.rel ⟨Eng,λe=>[.bref e.ts],λe=>.bool (sP e),c7U⟩
def c5V(e:Eng):Option Ob:=some (.arr true 1000000 1 1 λ_=>[.bref e.ts])
def a7d(e:Eng):Nat->Ann
 |0=>.one (V5 e.X.length (z4 e)) (λx=>⟨[(1,.ref 0 0 0),(62,tV e.X),(63,.int .i64 e.X.length),(64,.int .i64 x.1)],[c5V e]⟩) (λx=>e.X.length-x.1) [.box 0] [.box 0] (λ_=>Z3)
 |_=>.none
theorem b78(e:Eng):(decide ((e.X.length:Int)>10)|| !V9 e.N 1 61|| !C0 e.lk)= !wD e:=by
 unfold wD;rw[Bool.not_and,Bool.not_and,←decide_not];congr 2
 exact decide_eq_decide.2 Z9
theorem b0E{e:Eng}(h:wD e=false):sP e=false:=by unfold sP;rw[h];rfl
theorem b1g{e:Eng}(h:wD e=true)(u:e.up=true):sP e=upE e:=by unfold sP;rw[h,if_pos u];rfl
theorem b0f{e:Eng}(h:wD e=true)(u:e.up=false):sP e=a4h e:=by unfold sP;rw[h,u];rfl
theorem a84{e:Eng}{i:Nat}(hi:i<e.X.length)(h:z4 e i=true):upE e=false:=by
 have:anyI e.X.length (z4 e)=true:=R9.2 ⟨i,hi,h⟩;unfold upE;rw[this];rfl
theorem c6l{e:Eng}{i:Nat}(hi:i<e.lk.H.length)(h:wR e i=true):upE e=false:=by
 have:anyI e.lk.H.length (wR e)=true:=R9.2 ⟨i,hi,h⟩;unfold upE;rw[this];simp
theorem c65{e:Eng}{i:Nat}(hi:i<e.lk.W.length)(h:s9 e i=true):upE e=false:=by
 have:anyI e.lk.W.length (s9 e)=true:=R9.2 ⟨i,hi,h⟩;unfold upE;rw[this];simp
theorem xK{e:Eng}(h:wD e=true):e.X.length<=10/\1<=e.N/\e.N<=61/\C0 e.lk=true:=by
 unfold wD at h;simp only[I4,q8,K7] at h;exact⟨h.1.1,h.1.2.1,h.1.2.2,h.2⟩
theorem c4q{e:Eng}(L:xL e.s.L)(h:wD e=true)(B:∀i,i<e.X.length->z4 e i=false):wT e:=by
 refine⟨L,(xK h).1,λi hi=>?_⟩
 have:=B i hi;unfold z4 at this;simp only[wU,wX] at this;have:=this.2;unfold nF at this;simp only[I4,K7] at this;exact this.1.2
theorem a3u:GK 140 a6m:=gk func140<|by
 rintro(e:Eng) ⟨hL,hk,t,F⟩;have t:e.X.length<1000000000000:=t;have F:e.s.fr.length<1000000000000:=F;have d:e.lk.H.length<1000000000000:=hk.1;have h:e.lk.W.length<1000000000000:=hk.2;refine U6 (gC O3 (gC a23 (gC a8E (gC a8h (gC b1C (gC gY gN)))))) func140 (a7d e) (α:=let m:=(e.s.fr.length:Int);let k:=(false=sP e);let w:=(e.lk.W.length:Int);let u:=(e.lk.H.length:Int);let z:=(1=1/\1=1/\J9 (o5 [some 0]) (T.bref e.ts) (T.bref e.ts)/\True);let q:=(e.X.length:Int);∃(x:qX.ι),((decide (q>10)|| !V9 e.N (1:Int) (61:Int))=false->(((Z0 Z2 e.lk.H x.H)/\(Z0 Y7 e.lk.W x.W)/\True)/\True)/\b7R x)/\br (decide (q>10)|| !V9 e.N (1:Int) (61:Int)|| !C0 x) k (br (!e.up) (Ri (q+u)/\Ri (q+u+w)/\Ri (q+u+w+m)/\(q+u+w+m==0)=sP e) ((∃(x:V5 e.X.length (z4 e)),((0=0/\0=0)/\(Z0 X2 e.X e.X)/\q=q/\0=(x.1:Int)/\True)/\z/\True)/\∀(x:V5 e.X.length (z4 e)),let r:=(x.1:Int);let p:=(e.X.getD r.toNat dz);let j:=(!V9 p.id (1:Int) (e.N-1));let v:=((e.X.getD (r-1).toNat dz).id≥p.id);bd (r<q) (W9 r e.X.length/\Ri (e.N-1)/\(j=false->decide (r>0)=true->Ri (r-1))/\(j=false->decide (r>0)=true->W9 (r-1) e.X.length)/\∃(X:(Sto×Txn)),((!V9 p.id (1:Int) (e.N-1)||decide (r>0)&&decide v)=false->((yU e.s X.1)/\(p.id=X.2.id/\p.Z=X.2.Z/\True)/\True)/\xL X.1.L)/\br (!V9 p.id (1:Int) (e.N-1)||decide (r>0)&&decide v|| !nF X.1.L X.2) k (Ri (r+1)/\∃(y:V5 e.X.length (z4 e)),(((0=0/\0=0)/\(Z0 X2 e.X e.X)/\q=q/\r+1=(y.1:Int)/\True)/\z/\True)/\Lt (e.X.length-y.1) (e.X.length-x.1))) (∃(x:Eng),(((Z0 Z2 e.lk.H x.lk.H)/\(Fn.func 233=Fn.func 233/\((L4 e x)/\True)/\True)/\True)/\HlL x)/\∃(X:Eng),(anyI x.lk.H.length (wR x)=false->((Z0 Y7 e.lk.W X.lk.W)/\(Fn.func 235=Fn.func 235/\((L4 e X)/\True)/\True)/\True)/\HlL X)/\br (anyI x.lk.H.length (wR x)||anyI X.lk.W.length (s9 X)) k (∃(x:(Eng×Int)),(((L4 e x.1)/\0=x.2/\True)/\wT x.1/\m7 x.2)/\decide ((x.1.s.L.length:Int)+(↑(nM x.1):Int)+x.2<=60)=sP e))))) ⟨e.lk,λ_=>⟨X7,hk⟩,λhb=>?_,λhb=>⟨λhu=>?_,λhu=>?_⟩⟩
 ·rw[b78] at hb;rw[b0E jL]
 ·rw[b78] at hb;rw[b0f jL a4X]
  refine⟨Z4 Z9,Z4 Z9,Z4 Z9,?_⟩
  unfold a4h;rw[Bool.eq_iff_iff,beq_iff_eq,q8];omega
 ·rw[b78] at hb;have hh:wD e=true:=by simpa using hb
  have f:e.up=true:=a4X
  obtain⟨Q,l,j,q⟩:=xK hh;rw[b1g hh f];refine⟨⟨F9,X7,⟨rfl,rfl,U1 _,Z6⟩,Z6⟩,λx=>⟨λhc=>?_,λhc=>?_⟩⟩
  ·have hlt:=Y2 hc;refine⟨Y6 hlt,Z4 Z9,λ_ _=>Z4 Z9,λ_ h0=>⟨b7B,Z9⟩,(e.s,e.X.getD x.1 dz),λ_=>⟨⟨(jV _),X7⟩,hL⟩,λhq=>?_,λhq=>?_⟩
   ·rw[E4,show((x.1:Int)-1).toNat=x.1-1 by omega] at hq
    exact(a84 hlt hq).symm
   ·rw[E4,show((x.1:Int)-1).toNat=x.1-1 by omega] at hq
    exact⟨W4 hlt Z9,x.succ hlt hq,⟨⟨X7,X7,rfl,J2,Z6⟩,⟨rfl,rfl,U1 _,Z6⟩,Z6⟩,V5.ext_lt hlt⟩
  ·have hge:=Y0 hc;have hno:∀i,i<e.X.length->z4 e i=false:=λi hi=>x.2.2 i (yB hi hge)
   have n:=c4q hL hh hno;have g:anyI e.X.length (z4 e)=false:=P5.2 hno;refine⟨e,⟨⟨X7,⟨rfl,⟨(vS _),Z6⟩,Z6⟩,Z6⟩,t,d,h⟩,e,λ_=>⟨⟨X7,⟨rfl,⟨(vS _),Z6⟩,Z6⟩,Z6⟩,t,d,h⟩,λhq=>?_,λhq=>⟨(e,0),⟨⟨(vS _),X7⟩,n,b68⟩,?_⟩⟩
   ·unfold upE;rw[g];simp only[nV] at hq;rcases hq with hq|hq<;>rw[hq]<;>simp
   ·simp only[wU] at hq;unfold upE;rw[g,hq.1,hq.2];simp only[Bool.not_false,Bool.true_and];exact decide_eq_decide.2 Z9
def R2(e:Eng):Bool:=G2 e.s&&sP e
def gT(e:Eng):Prop:=b24 e.s/\b7R e.lk/\L7 e.X.length
def tT:Rl:=⟨Eng,λe=>[.agg e.ts],λe=>.bool (R2 e),gT⟩
def a5u:Con:=.rel tT
def a4k:Con:=.rel tT
theorem a2C{s:Sto}(h:G2 s=true):xL s.L:=by
 obtain⟨⟨e,d,_⟩,_⟩:=(G8 s).1 h;exact⟨((o8 s).1 e).2.2.2.2,λi hi=>by
  obtain⟨a,b⟩:=C5.1 d i hi;exact⟨(Q4 _).1 a,b⟩⟩
theorem a1M:GK 65 a5u:=gk func65<|by
 rintro(e:Eng) ⟨h1,h2,h3⟩;exact U6 (gC a3q (gC a3u gN)) func65 Z3 (α:=∃(x:qG.ι),(((yU e.s x)/\True)/\b24 x)/\∃(X:Eng),(G2 x=true->((L4 e X)/\True)/\c7U X)/\(G2 x&&sP X)=R2 e) ⟨e.s,⟨⟨(jV _),Z6⟩,h1⟩,e,λh=>⟨⟨(vS _),Z6⟩,a2C h,h2,h3,h1.2.2.1.1⟩,rfl⟩
def Chs(L:List Rec)(t:Txn):Type:={x:Nat×Int//(decide (x.2<=0)||chn L t.id x.1 x.2)=nF L t/\x.2<=(L.length:Int)/\x.2.toNat<x.1}
def a29(e:Eng):Nat->Ann
 |0=>.one (V5 e.X.length (z4 e)) (λx=>⟨[(1,.ref 0 0 0),(3,.int .i64 x.1)],[m0 e]⟩) (λx=>e.X.length-x.1) [.box 0] [.box 0] (λx=>fun
  |1=>.one (Chs e.s.L (e.X.getD x.1 dz)) (λy=>⟨[(1,.ref 0 0 0),(3,.int .i64 x.1),(4,.ref 1 0 0),(5,.int .i64 y.1.2)],[m0 e,b5p (e.X.getD x.1 dz)]⟩) (λy=>y.1.1) iV iV (λ_=>Z3)
  |2=>.one (V5 e.lk.H.length (wR e)) (λy=>⟨[(1,.ref 0 0 0),(7,.int .i64 y.1)],[m0 e]⟩) (λy=>e.lk.H.length-y.1) [.box 0] [.box 0] (λ_=>fun
   |3=>.one (V5 e.lk.W.length (s9 e)) (λz=>⟨[(1,.ref 0 0 0),(8,.int .i64 z.1)],[m0 e]⟩) (λz=>e.lk.W.length-z.1) [.box 0] [.box 0] (λ_=>Z3)
   |_=>.none)
  |_=>.none)
 |_=>.none
theorem c9f{L:List Rec}(hL:xL L)(id:Int){at_:Int}(e:1<=at_)(d:at_<=L.length):
  ((Y8 L at_).t !=id||(Y8 L at_).k==4||(Y8 L at_).k==5||(Y8 L at_).k==6||(Y8 L at_).k==3&& !a4E L (Y8 L at_))= !okR L id at_:=by
 obtain⟨r,l⟩:=hL.at e d;obtain⟨j,o,g,i⟩:=hL.prev e d;obtain⟨_,_,_,_,k1,q,_⟩:=r;unfold okR ownR;rw[K7.2 ⟨e,d⟩,Bool.true_and];by_cases ht:(Y8 L at_).t=id
 ·rw[show((Y8 L at_).t !=id)=false by simpa using ht,show((Y8 L at_).t==id)=true by simpa using ht,Bool.false_or,Bool.true_and]
  by_cases hk:(Y8 L at_).k<=3
  ·rw[K7.2 ⟨k1,hk⟩,show((Y8 L at_).k==4)=false by rw[beq_eq_false_iff_ne];omega,show((Y8 L at_).k==5)=false by rw[beq_eq_false_iff_ne];omega,show((Y8 L at_).k==6)=false by rw[beq_eq_false_iff_ne];omega]
   simp only[Bool.false_or,Bool.true_and];by_cases h3:(Y8 L at_).k=3
   ·rw[show((Y8 L at_).k==3)=true by simpa using h3,show((Y8 L at_).k !=3)=false by simpa using h3,Bool.true_and,Bool.false_or]
    congr 1
    unfold a4E;by_cases hn:(Y8 L at_).n>0
    ·obtain⟨hr2,_⟩:=hL.at (show 1<=(Y8 L at_).n by omega) Z9
     have f:1<=(Y8 L (Y8 L at_).n).k:=hr2.2.2.2.2.1;rw[mR hn,K7.2 (show 1<=(Y8 L at_).n/\(Y8 L at_).n<=(L.length:Int) by omega),Bool.true_and,Bool.true_and,ht]
     congr 1
     unfold V9;rw[mR f,Bool.true_and]
    ·rw[tQ hn,show V9 (Y8 L at_).n 1 L.length=false from Bool.eq_false_iff.2 λh=>by have:=K7.1 h;omega]
     rfl
   ·rw[show((Y8 L at_).k==3)=false by simpa using h3,show((Y8 L at_).k !=3)=true by simpa using h3]
    rfl
  ·rw[show V9 (Y8 L at_).k 1 3=false from Bool.eq_false_iff.2 λh=>by have:=K7.1 h;omega]
   simp only[Bool.false_and,Bool.not_false,nV,beq_iff_eq];exact .inl Z9
 ·rw[show((Y8 L at_).t !=id)=true by simpa using ht,show((Y8 L at_).t==id)=false by simpa using ht]
  rfl
theorem b7G(e:Eng):(!G2 e.s||decide ((e.X.length:Int)>10)|| !C0 e.lk|| !V9 e.N 1 61)= !(G2 e.s&&wD e):=by
 unfold wD;rw[show decide ((e.X.length:Int)>10)= !decide (e.X.length<=10) by rw[←decide_not];exact decide_eq_decide.2 Z9]
 cases G2 e.s<;>cases decide (e.X.length<=10)<;>cases C0 e.lk<;>cases V9 e.N 1 61<;>rfl
theorem a05:GK 32 a4k:=gk func32<|by
 rintro(e:Eng) ⟨hS,hk,o⟩;have o:e.X.length<1000000000000:=o;have v:e.lk.H.length<1000000000000:=hk.1;have u:e.lk.W.length<1000000000000:=hk.2;refine U6 (gC a3d (gC a5M (gC A2 (gC a8X (gC a5n (gC pT gN)))))) func32 (a29 e) (α:=let pa:=(e.s.L.length:Int);let f:=(false=R2 e);let m:=(e.X.length:Int);let w:=(0=0/\0=0);let v:=(1=1/\1=1/\L4 e e);∃(x:qG.ι),(((yU e.s x)/\True)/\b24 x)/\∃(h:qX.ι),((!G2 x||decide (m>10))=false->(((Z0 Z2 e.lk.H h.H)/\(Z0 Y7 e.lk.W h.W)/\True)/\True)/\b7R h)/\br (!G2 x||decide (m>10)|| !C0 h|| !V9 e.N (1:Int) (61:Int)) f (br (!e.up) ((m==0&&(e.lk.H.length:Int)==0&&(e.lk.W.length:Int)==0&&(e.s.fr.length:Int)==0)=R2 e) ((∃(x:V5 e.X.length (z4 e)),(w/\0=(x.1:Int)/\True)/\v/\True)/\∀(x:V5 e.X.length (z4 e)),let u:=(e.X.getD x.1 dz);let z:=(x.1:Int);let r:=(e.X.getD z.toNat dz);let pc:=(!V9 r.id (1:Int) (e.N-1));bd (z<m) (W9 z e.X.length/\Ri (e.N-1)/\(pc=false->decide (z>0)=true->Ri (z-1))/\(pc=false->decide (z>0)=true->W9 (z-1) e.X.length)/\br (!V9 r.id (1:Int) (e.N-1)||decide (z>0)&&decide ((e.X.getD (z-1).toNat dz).id≥r.id)|| !V9 r.Z (1:Int) pa) f ((∃(X:Chs e.s.L (e.X.getD x.1 dz)),(w/\z=z/\w/\r.Z=X.val.2/\True)/\v/\(1=1/\1=1/\r.id=u.id/\r.Z=u.Z/\True)/\True)/\∀(X:Chs e.s.L (e.X.getD x.1 dz)),let c:=(X.val.2-1);let q:=(e.s.L.getD c.toNat dz);bd (X.val.2>0) (Ri c/\W9 c e.s.L.length/\∃(d:(Sto×Rec)),((q.t !=u.id||q.k==4||q.k==5||q.k==6)=false->(q.k==3)=true->((yU e.s d.1)/\(q.e=d.2.e/\q.l=d.2.l/\q.t=d.2.t/\q.k=d.2.k/\q.p=d.2.p/\q.n=d.2.n/\q.g=d.2.g/\q.s=d.2.s/\q.b=d.2.b/\q.a=d.2.a/\True)/\True)/\d.2.n<=(d.1.L.length:Int)/\L7 d.1.L.length)/\br (q.t !=u.id||q.k==4||q.k==5||q.k==6||q.k==3&& !a4E d.1.L d.2) f (Ri c/\W9 c e.s.L.length/\∃(y:Chs e.s.L (e.X.getD x.1 dz)),((w/\z=z/\w/\q.p=y.1.2/\True)/\v/\(1=1/\1=1/\u.id=u.id/\u.Z=u.Z/\True)/\True)/\Lt y.1.1 X.val.1)) (Ri (z+1)/\∃(y:V5 e.X.length (z4 e)),((w/\z+1=(y.1:Int)/\True)/\v/\True)/\Lt (e.X.length-y.1) (e.X.length-x.1)))) ((∃(x:V5 e.lk.H.length (wR e)),(w/\0=(x.1:Int)/\True)/\v/\True)/\∀(x:V5 e.lk.H.length (wR e)),let i:=(x.1:Int);bd (i<(e.lk.H.length:Int)) (W9 i e.lk.H.length/\∃(X:(Eng×Int)),(((L4 e X.1)/\(e.lk.H.getD i.toNat dz).tx=X.2/\True)/\L7 X.1.X.length)/\bd (T9 X.1.X X.2<0) f (Ri (i+1)/\∃(y:V5 e.lk.H.length (wR e)),((w/\i+1=(y.1:Int)/\True)/\v/\True)/\Lt (e.lk.H.length-y.1) (e.lk.H.length-x.1))) ((∃(x:V5 e.lk.W.length (s9 e)),(w/\0=(x.1:Int)/\True)/\v/\True)/\∀(x:V5 e.lk.W.length (s9 e)),let j:=(x.1:Int);let pd:=(e.lk.W.getD j.toNat dz);bd (j<(e.lk.W.length:Int)) (W9 j e.lk.W.length/\∃(X:(Eng×Int)),let pb:=(T9 X.1.X X.2<0);(((L4 e X.1)/\pd.tx=X.2/\True)/\L7 X.1.X.length)/\(decide pb=false->W9 j e.lk.W.length)/\∃(d:(Eng×Int)),(decide pb=false->((L4 e d.1)/\pd.fo=d.2/\True)/\L7 d.1.X.length)/\br (decide pb||decide (T9 d.1.X d.2<0)) f (Ri (j+1)/\∃(y:V5 e.lk.W.length (s9 e)),((w/\j+1=(y.1:Int)/\True)/\v/\True)/\Lt (e.lk.W.length-y.1) (e.lk.W.length-x.1))) (∃(x:Eng),(((L4 e x)/\True)/\wT x)/\Ri (pa+(↑(nM x):Int))/\decide (pa+(↑(nM x):Int)<=60)=R2 e)))))) ⟨e.s,⟨⟨(jV _),Z6⟩,hS⟩,e.lk,λ_=>⟨X7,hk⟩,λhb=>?_,λhb=>?_⟩
 ·rw[b7G] at hb;unfold R2;cases h1:G2 e.s
  ·rfl
  ·rw[h1] at hb;rw[b0E jL]
   rfl
 rw[b7G] at hb;simp only[wX,I4] at hb;obtain⟨q,hh⟩:=hb;have L:=a2C q;have r:=L.1;obtain⟨Q,U,N,R⟩:=xK hh;have eo:R2 e=sP e:=by unfold R2;rw[q,Bool.true_and]
 refine⟨λhu=>?_,λhu=>?_⟩
 ·rw[eo,b0f hh a4X]
  unfold a4h;rw[Bool.eq_iff_iff];simp only[I4,beq_iff_eq,q8];omega
 ·have hu':e.up=true:=by simpa using hu
  rw[eo,b1g hh hu'];refine⟨⟨F9,X7⟩,λx=>⟨λhc=>?_,λhc=>?_⟩⟩
  ·have hlt:=Y2 hc;rw[E4,show((x.1:Int)-1).toNat=x.1-1 by omega]
   refine⟨Y6 hlt,Z4 Z9,λ_ _=>Z4 Z9,λ_ h0=>⟨b7B,Z9⟩,λhq=>?_,λhq=>?_⟩
   ·refine(a84 hlt ?_).symm
    unfold z4 nF;rw[Bool.not_and,←Bool.or_assoc,hq];rfl
   ·simp only[wU,wX] at hq;obtain⟨⟨r1,r2⟩,r3⟩:=hq;obtain⟨l1,l2⟩:=K7.1 r3;refine⟨⟨⟨(61,(e.X.getD x.1 dz).Z),?_,l2,X5⟩,X7⟩,λy=>?_⟩
    ·dsimp only;unfold nF;rw[tQ Z9,r3]
     rfl
    obtain⟨⟨f,at_⟩,he,j,F⟩:=y;dsimp only at he j F ⊢;refine⟨λhy=>?_,λhy=>?_⟩
    ·have h0:at_>0:=G6 hy;have h1:1<=at_:=by omega
     obtain⟨O,M,I,J⟩:=L.prev h1 j;rw[tQ Z9,Bool.false_or,fZ _ _ Z9 h1] at he
     have es:=c9f L (e.X.getD x.1 dz).id h1 j;refine⟨Z4 Z9,⟨Z9,Z9⟩,(e.s,Y8 e.s.L at_),λ_ _=>⟨⟨(jV _),X7⟩,X5,rT⟩,λhq=>?_,λhq=>?_⟩
     ·have hq:=es.symm.trans hq;refine(a84 hlt ?_).symm
      rw[show okR e.s.L (e.X.getD x.1 dz).id at_=false by simpa using hq] at he
      unfold z4;rw[←he];simp
     ·have hq:=es.symm.trans hq;rw[show okR e.s.L (e.X.getD x.1 dz).id at_=true by simpa using hq,Bool.true_and] at he
      refine⟨Z4 Z9,⟨Z9,Z9⟩,⟨(f-1,(Y8 e.s.L at_).p),?_,X5,X5⟩,X7,show f-1<f by omega⟩
      dsimp only;rw[←he];by_cases hp:(Y8 e.s.L at_).p<=0
      ·rw[a31 _ _ _ hp,Bool.or_true]
      ·rw[tQ hp,Bool.false_or]
    ·have h0:at_<=0:=by have:=m9 hy;omega
     rw[mR h0,Bool.true_or] at he;exact⟨W4 hlt Z9,x.succ hlt (by unfold z4;rw[←he,r1,r2];rfl),⟨⟨⟨rfl,rfl⟩,J2,Z6⟩,⟨rfl,rfl,vS _⟩,Z6⟩,V5.ext_lt hlt⟩
  ·have hge:=Y0 hc;have hno:∀i,i<e.X.length->z4 e i=false:=λi hi=>x.2.2 i (yB hi hge)
   have hn:=c4q L hh hno;refine⟨⟨F9,X7⟩,λy=>⟨λhy=>?_,λhy=>⟨⟨F9,X7⟩,λz=>⟨λhz=>?_,λhz=>?_⟩⟩⟩⟩
   ·have hlt:=Y2 hy;exact⟨Y6 hlt,(e,(e.lk.H.getD y.1 dz).tx),⟨⟨(vS _),X7⟩,o⟩,λhq=>(c6l hlt hq).symm,λhq=>⟨W4 hlt Z9,y.succ hlt hq,⟨⟨X7,J2,Z6⟩,X7⟩,V5.ext_lt hlt⟩⟩
   ·have hlt:=Y2 hz;exact⟨Y6 hlt,(e,(e.lk.W.getD z.1 dz).tx),⟨⟨(vS _),X7⟩,o⟩,λ_=>Y6 hlt,(e,(e.lk.W.getD z.1 dz).fo),λ_=>⟨⟨(vS _),X7⟩,o⟩,λhq=>(c65 hlt hq).symm,λhq=>⟨W4 hlt Z9,z.succ hlt hq,⟨⟨X7,J2,Z6⟩,X7⟩,V5.ext_lt hlt⟩⟩
   ·have g1:=Y0 hy;have g2:=Y0 hz;have hb:=dK e.s.L e.X e.X.length;have he:nM e=tR e.s.L e.X e.X.length:=rfl;refine⟨e,⟨⟨(vS _),Z6⟩,hn⟩,Z4 Z9,?_⟩
    have B:anyI e.X.length (z4 e)=false:=P5.2 hno;have A:anyI e.lk.H.length (wR e)=false:=P5.2 λi hi=>y.2.2 i (yB hi g1)
    have C:anyI e.lk.W.length (s9 e)=false:=P5.2 λi hi=>z.2.2 i (yB hi g2)
    unfold upE;rw[B,A,C];simp only[Bool.not_false,Bool.true_and];exact decide_eq_decide.2 Z9
theorem b63:GK 44 c3Z:=gk func44<|by
 rintro(s:Sto) ⟨h1,h2,h3,h4⟩;exact c3g s ⟨s.d,⟨⟨(eqD _),(eqD _),Z6⟩,h1⟩,λh=>h,λ_=>⟨λh=>L6,λ_=>⟨s.L,⟨X7,h2⟩,λh=>h,λ_=>⟨λh=>L6,λ_=>⟨s.fr,⟨X7,h3,h4⟩,λh=>h,λ_=>⟨λh=>L6,λ_=>rfl⟩⟩⟩⟩⟩⟩
theorem sH{α:Type}(f:α->Nat)(L:List α):L.length<=S3 f L:=by
 have:=x5 f L L.length (N5 L.length);have h:V4 f L L.length 0=L.length:=rfl;unfold S3;omega
theorem a34{α:Type}(f:α->Nat)(L:List α)(d:α){i:Nat}(hi:i<L.length):f (L.getD i d)+L.length<=S3 f L:=by
 have e:=x5 f L L.length (show i+1<=L.length from hi)
 have h:=zP f L L.length d hi;have g:=x5 f L L.length (N5 i);have z:V4 f L L.length 0=L.length:=rfl;unfold S3;omega
theorem c24{l:Int}{n:Nat}(h:¬rem l n<0):(n:Int)<=l:=by
 by_cases q:(n:Int)<=l
 ·exact q
 ·rw[I7 Z9] at h
  omega
theorem b27{s:Sto}(h:zX s<=1048576):iH s/\b24 s:=by
 have e:zX s=S3 A7 s.d.E+S3 L3 s.d.C+s.d.keep.length+S3 N9 s.L+S3 K5 s.fr:=rfl;have n:=sH A7 s.d.E;have o:=sH L3 s.d.C;have t:=sH N9 s.L;have A:=sH K5 s.fr;have f:∀i,i<s.fr.length->(s.fr.getD i dz).pg.sl.length<=1048576:=λi hi=>by
  have g:=a34 K5 s.fr dz hi;have q:=sH A7 (s.fr.getD i dz).pg.sl;have j:K5 (s.fr.getD i dz)=S3 A7 (s.fr.getD i dz).pg.sl:=rfl;omega
 have l:∀r ∈ s.L,r.a.length<=1048576:=λr R=>by
  obtain⟨i,hi,rfl⟩:=List.mem_iff_getElem.1 R;have g:=a34 N9 s.L dz hi;rw[P4,I3 hi,Option.getD_some] at g
  have j:N9 s.L[i]=s.L[i].b.length+s.L[i].a.length:=rfl;omega
 refine⟨⟨⟨Z9,Z9,Z9⟩,Z9,Z9,f⟩,⟨sU,sU,sU⟩,⟨Z9,λr R=>by have:=l r R;omega⟩,⟨sU,λi hi=>?_⟩,λr R=>?_⟩
 ·have:=f i hi;show(s.fr.getD i dz).pg.sl.length<1000000000000;omega
 ·have:=l r R;show r.a.length<1000000000000;omega
def a2T:Rl:=⟨List Txn×Int,λx=>[tV x.1,.int .i64 x.2],λx=>.int .i64 (rem x.2 x.1.length),λx=>y9 x.2/\lQ x.1.length⟩
def b6q:Con:=.rel a2T
theorem b3j:GK 30 b6q:=gk func30<|by
 rintro⟨L,l⟩ ⟨⟨e,d⟩,n⟩;have n:L.length<=9223372036854775807:=n;simp only at e d;refine U6 gN func30 Z3 (α:=let p:=(L.length:Int);R3 .i64 (l- p)/\(decide (l- p<0)=true->(-1:Int)=rem l L.length)/\(decide (l- p<0)=false->l- p=rem l L.length)) ?_
 simp only[l0,q8,uI];exact⟨Z9,λh=>(I7 Z9).symm,λh=>(C9 Z9).symm⟩
def a9p:Rl:=⟨Txn,λr=>[.agg r.ts],λr=>.agg r.ts,λ_=>True⟩
def c33:Con:=.rel a9p
theorem c3s(r:Txn)(h:
  r.id=r.id/\r.Z=r.Z/\True):
  V3 prog 88 [.agg r.ts] (.agg r.ts):=
 U6 gN func88 Z3 h
theorem b5b:GK 88 c33:=gk func88<|λr _=>c3s r X7
def a9o:Rl:=⟨Txn,λr=>[.agg r.ts,.agg r.ts],λ_=>.bool true,λ_=>True⟩
def c0n:Con:=.rel a9o
theorem b9p:GK 103 c0n:=gk func103<|by
 intro r _;refine U6 gN func103 Z3 (α:=((r.id !=r.id)=true->false=true)/\((r.id !=r.id)=false->((r.Z !=r.Z)=true->false=true)/\((r.Z !=r.Z)=false->true=true))) ?_
 simp
def b61(L:List Txn):Nat->Ann
 |0=>.one (Up L.length) (λx=>⟨[(0,tV L),(3,.osl 0 0 L.length),(4,.int .i64 x.1)],[some (.arr true 0 2 L.length (yA (X2 L) [.int .i64 0,.int .i64 0] x.1))]⟩) (λx=>L.length-x.1) [.arr 0] [.arr 0] (λ_=>Z3)
 |_=>.none
def a5d:Rl:=⟨List Txn,λL=>[tV L,tV L],λ_=>.bool true,λL=>L.length<=1048576⟩
def b69:Con:=.rel a5d
def b92(L:List Txn):Nat->Ann
 |0=>.one (Up L.length) (λx=>⟨[(0,tV L),(1,tV L),(5,.int .i64 x.1)],[]⟩) (λx=>L.length-x.1) [] [] (λ_=>Z3)
 |_=>.none
theorem b3p:GK 45 b69:=gk func45<|by
 intro(L:List Txn) (hL:L.length<=1048576);refine U6 (gC b9p gN) func45 (b92 L) (α:=let z:=(L.length:Int);let r:=(Z0 X2 L L);br (z !=z) (false=true) ((∃(x:Up L.length),(r/\r/\0=(x.1:Int)/\True)/\True)/\∀(x:Up L.length),let q:=(x.1:Int);let p:=(L.getD q.toNat dz);bd (q<z) (W9 q L.length/\W9 q L.length/\∃(X:a9o.ι),let u:=(p.id=X.id/\p.Z=X.Z/\True);((u/\u/\True)/\True)/\br false (false=true) (Ri (q+1)/\∃(y:Up L.length),((r/\r/\q+1=(y.1:Int)/\True)/\True)/\Lt (L.length-y.1) (L.length-x.1))) (true=true))) ⟨λh=>L6,λ_=>⟨⟨⟨0,N5 _⟩,⟨⟨S7,X6 _ _⟩,⟨S7,X6 _ _⟩,X7⟩,Z6⟩,λx=>⟨λC=>?_,λ_=>rfl⟩⟩⟩
 have t:=Y2 C;exact⟨Y6 t,Y6 t,L.getD x.1 dz,X7,λh=>h,λ_=>⟨W4 t Z9,⟨x.1+1,t⟩,⟨⟨⟨S7,X6 _ _⟩,⟨S7,X6 _ _⟩,M3,Z6⟩,Z6⟩,V5.ext_lt t⟩⟩
def a4e:Rl:=⟨List Lck×Int,λx=>[wO x.1,.int .i64 x.2],λx=>.int .i64 (rem x.2 x.1.length),λx=>y9 x.2/\lQ x.1.length⟩
def b49:Con:=.rel a4e
theorem b2s:GK 70 b49:=gk func70<|by
 rintro⟨L,l⟩ ⟨⟨e,d⟩,n⟩;have n:L.length<=9223372036854775807:=n;simp only at e d;refine U6 gN func70 Z3 (α:=let p:=(L.length:Int);R3 .i64 (l- p)/\(decide (l- p<0)=true->(-1:Int)=rem l L.length)/\(decide (l- p<0)=false->l- p=rem l L.length)) ?_
 simp only[l0,q8,uI];exact⟨Z9,λh=>(I7 Z9).symm,λh=>(C9 Z9).symm⟩
def a9G:Rl:=⟨Lck,λr=>[.agg r.ts],λr=>.agg r.ts,λ_=>True⟩
def c0w:Con:=.rel a9G
theorem c2v(r:Lck)(h:
  r.tx=r.tx/\r.ta=r.ta/\r.row=r.row/\r.mo=r.mo/\True):
  V3 prog 177 [.agg r.ts] (.agg r.ts):=
 U6 gN func177 Z3 h
theorem b5j:GK 177 c0w:=gk func177<|λr _=>c2v r X7
def b0g:Rl:=⟨Lck,λr=>[.agg r.ts,.agg r.ts],λ_=>.bool true,λ_=>True⟩
def c1d:Con:=.rel b0g
theorem b7h:GK 194 c1d:=gk func194<|by
 intro r _;refine U6 gN func194 Z3 (α:=((r.tx !=r.tx)=true->false=true)/\((r.tx !=r.tx)=false->((r.ta !=r.ta)=true->false=true)/\((r.ta !=r.ta)=false->((r.row !=r.row)=true->false=true)/\((r.row !=r.row)=false->((r.mo !=r.mo)=true->false=true)/\((r.mo !=r.mo)=false->true=true))))) ?_
 simp
def b91(L:List Lck):Nat->Ann
 |0=>.one (Up L.length) (λx=>⟨[(0,wO L),(3,.osl 0 0 L.length),(4,.int .i64 x.1)],[some (.arr true 0 4 L.length (yA (Z2 L) [.int .i64 0,.int .i64 0,.int .i64 0,.int .i64 0] x.1))]⟩) (λx=>L.length-x.1) [.arr 0] [.arr 0] (λ_=>Z3)
 |_=>.none
def a3N:Rl:=⟨List Lck,λL=>[wO L,wO L],λ_=>.bool true,λL=>L.length<=1048576⟩
def b8x:Con:=.rel a3N
def b5h(L:List Lck):Nat->Ann
 |0=>.one (Up L.length) (λx=>⟨[(0,wO L),(1,wO L),(5,.int .i64 x.1)],[]⟩) (λx=>L.length-x.1) [] [] (λ_=>Z3)
 |_=>.none
theorem b3u:GK 104 b8x:=gk func104<|by
 intro(L:List Lck) (hL:L.length<=1048576);refine U6 (gC b7h gN) func104 (b5h L) (α:=let u:=(L.length:Int);let z:=(Z0 Z2 L L);br (u !=u) (false=true) ((∃(x:Up L.length),(z/\z/\0=(x.1:Int)/\True)/\True)/\∀(x:Up L.length),let r:=(x.1:Int);let p:=(L.getD r.toNat dz);bd (r<u) (W9 r L.length/\W9 r L.length/\∃(X:b0g.ι),let q:=(p.tx=X.tx/\p.ta=X.ta/\p.row=X.row/\p.mo=X.mo/\True);((q/\q/\True)/\True)/\br false (false=true) (Ri (r+1)/\∃(y:Up L.length),((z/\z/\r+1=(y.1:Int)/\True)/\True)/\Lt (L.length-y.1) (L.length-x.1))) (true=true))) ⟨λh=>L6,λ_=>⟨⟨⟨0,N5 _⟩,⟨⟨S7,X6 _ _⟩,⟨S7,X6 _ _⟩,X7⟩,Z6⟩,λx=>⟨λC=>?_,λ_=>rfl⟩⟩⟩
 have t:=Y2 C;exact⟨Y6 t,Y6 t,L.getD x.1 dz,X7,λh=>h,λ_=>⟨W4 t Z9,⟨x.1+1,t⟩,⟨⟨⟨S7,X6 _ _⟩,⟨S7,X6 _ _⟩,M3,Z6⟩,Z6⟩,V5.ext_lt t⟩⟩
def b0a:Rl:=⟨List Wt×Int,λx=>[nI x.1,.int .i64 x.2],λx=>.int .i64 (rem x.2 x.1.length),λx=>y9 x.2/\lQ x.1.length⟩
def c1t:Con:=.rel b0a
theorem b7r:GK 71 c1t:=gk func71<|by
 rintro⟨L,l⟩ ⟨⟨e,d⟩,n⟩;have n:L.length<=9223372036854775807:=n;simp only at e d;refine U6 gN func71 Z3 (α:=let p:=(L.length:Int);R3 .i64 (l- p)/\(decide (l- p<0)=true->(-1:Int)=rem l L.length)/\(decide (l- p<0)=false->l- p=rem l L.length)) ?_
 simp only[l0,q8,uI];exact⟨Z9,λh=>(I7 Z9).symm,λh=>(C9 Z9).symm⟩
def b7n:Rl:=⟨Wt,λr=>[.agg r.ts],λr=>.agg r.ts,λ_=>True⟩
def c50:Con:=.rel b7n
theorem c6f(r:Wt)(h:
  r.tx=r.tx/\r.fo=r.fo/\True):
  V3 prog 178 [.agg r.ts] (.agg r.ts):=
 U6 gN func178 Z3 h
theorem c3D:GK 178 c50:=gk func178<|λr _=>c6f r X7
def b9k:Rl:=⟨Wt,λr=>[.agg r.ts,.agg r.ts],λ_=>.bool true,λ_=>True⟩
def c7n:Con:=.rel b9k
theorem c0k:GK 195 c7n:=gk func195<|by
 intro r _;refine U6 gN func195 Z3 (α:=((r.tx !=r.tx)=true->false=true)/\((r.tx !=r.tx)=false->((r.fo !=r.fo)=true->false=true)/\((r.fo !=r.fo)=false->true=true))) ?_
 simp
def c2O(L:List Wt):Nat->Ann
 |0=>.one (Up L.length) (λx=>⟨[(0,nI L),(3,.osl 0 0 L.length),(4,.int .i64 x.1)],[some (.arr true 0 2 L.length (yA (Y7 L) [.int .i64 0,.int .i64 0] x.1))]⟩) (λx=>L.length-x.1) [.arr 0] [.arr 0] (λ_=>Z3)
 |_=>.none
def b0v:Rl:=⟨List Wt,λL=>[nI L,nI L],λ_=>.bool true,λL=>L.length<=1048576⟩
def c34:Con:=.rel b0v
def c0e(L:List Wt):Nat->Ann
 |0=>.one (Up L.length) (λx=>⟨[(0,nI L),(1,nI L),(5,.int .i64 x.1)],[]⟩) (λx=>L.length-x.1) [] [] (λ_=>Z3)
 |_=>.none
theorem b7k:GK 105 c34:=gk func105<|by
 intro(L:List Wt) (hL:L.length<=1048576);refine U6 (gC c0k gN) func105 (c0e L) (α:=let z:=(L.length:Int);let r:=(Z0 Y7 L L);br (z !=z) (false=true) ((∃(x:Up L.length),(r/\r/\0=(x.1:Int)/\True)/\True)/\∀(x:Up L.length),let q:=(x.1:Int);let u:=(L.getD q.toNat dz);bd (q<z) (W9 q L.length/\W9 q L.length/\∃(X:b9k.ι),let p:=(u.tx=X.tx/\u.fo=X.fo/\True);((p/\p/\True)/\True)/\br false (false=true) (Ri (q+1)/\∃(y:Up L.length),((r/\r/\q+1=(y.1:Int)/\True)/\True)/\Lt (L.length-y.1) (L.length-x.1))) (true=true))) ⟨λh=>L6,λ_=>⟨⟨⟨0,N5 _⟩,⟨⟨S7,X6 _ _⟩,⟨S7,X6 _ _⟩,X7⟩,Z6⟩,λx=>⟨λC=>?_,λ_=>rfl⟩⟩⟩
 have t:=Y2 C;exact⟨Y6 t,Y6 t,L.getD x.1 dz,X7,λh=>h,λ_=>⟨W4 t Z9,⟨x.1+1,t⟩,⟨⟨⟨S7,X6 _ _⟩,⟨S7,X6 _ _⟩,M3,Z6⟩,Z6⟩,V5.ext_lt t⟩⟩
def s7(s:Lks):Nat:=s.H.length+s.W.length
def a91(s:Lks):Prop:=lQ s.H.length/\lQ s.W.length
def uZ(s:Lks):Prop:=s.H.length<=1048576/\s.W.length<=1048576
def c28:Con:=.rel ⟨Lks×Int,λx=>[.agg x.1.ts,.int .i64 x.2],λx=>.int .i64 (rem x.2 (s7 x.1)),λx=>y9 x.2/\a91 x.1⟩
theorem b6P:GK 31 c28:=gk func31<|by
 rintro⟨s,l⟩ ⟨L,f,d⟩;simp only at L f d;have e:s7 s=s.H.length+s.W.length:=rfl;refine U6 (gC b2s (gC b7r gN)) func31 Z3 (α:=let p:=((-1:Int)=rem l (s7 s));∃(x:a4e.ι),let q:=x.1.length;(((Z0 Z2 s.H x.1)/\l=x.2/\True)/\y9 x.2/\lQ q)/\bd (rem x.2 q<0) p (∃(X:b0a.ι),(((Z0 Y7 s.W X.1)/\rem x.2 q=X.2/\True)/\y9 X.2/\lQ X.1.length)/\bd (rem X.2 X.1.length<0) p (rem X.2 X.1.length=rem l (s7 s)))) ⟨(s.H,l),⟨X7,L,f⟩,λh=>(w8 (G6 h) a5L).symm,λh=>?_⟩
 obtain⟨q,i⟩:=tG (b:=s.W.length) (m9 h) L rfl;refine⟨(s.W,rem l (s.H.length)),⟨X7,i,d⟩,λg=>?_,λg=>?_⟩
 ·simp only at g;rw[q] at g;exact(w8 (G6 g) a5L).symm
 exact q
def c2q:Con:=.rel ⟨Lks,λs=>[.agg s.ts,.agg s.ts],λ_=>.bool true,uZ⟩
theorem c0a:GK 46 c2q:=gk func46<|by
 rintro(s:Lks) ⟨h0,h1⟩;exact U6 (gC b3u (gC b7k gN)) func46 Z3 (α:=∃(x:a3N.ι),(((Z0 Z2 s.H x)/\(Z0 Z2 s.H x)/\True)/\x.length<=1048576)/\br false (false=true) (∃(x:b0v.ι),(((Z0 Y7 s.W x)/\(Z0 Y7 s.W x)/\True)/\x.length<=1048576)/\br false (false=true) (true=true))) ⟨s.H,⟨X7,h0⟩,λh=>h,λ_=>⟨s.W,⟨X7,h1⟩,λh=>h,λ_=>rfl⟩⟩
def yI(s:Eng):Nat:=zX s.s+s.X.length+s7 s.lk
def b0Z(s:Eng):Prop:=LmS s.s/\lQ s.X.length/\a91 s.lk
def M2(s:Eng):Prop:=iH s.s/\s.X.length<=1048576/\uZ s.lk
def c3o:Con:=.rel ⟨Eng×Int,λx=>[.agg x.1.ts,.int .i64 x.2],λx=>.int .i64 (rem x.2 (yI x.1)),λx=>y9 x.2/\b0Z x.1⟩
theorem b9q:GK 8 c3o:=gk func8<|by
 rintro⟨s,l⟩ ⟨L,i,f,d⟩;simp only at L i f d;have e:yI s=zX s.s+s.X.length+s7 s.lk:=rfl;refine U6 (gC b9y (gC b3j (gC b6P gN))) func8 Z3 (α:=let p:=((-1:Int)=rem l (yI s));∃(x:a9l.ι),(((yU s.s x.1)/\l=x.2/\True)/\y9 x.2/\LmS x.1)/\bd (rem x.2 (zX x.1)<0) p (∃(X:a2T.ι),(((Z0 X2 s.X X.1)/\rem x.2 (zX x.1)=X.2/\True)/\y9 X.2/\lQ X.1.length)/\bd (rem X.2 X.1.length<0) p (∃(x:(Lks×Int)),((((Z0 Z2 s.lk.H x.1.H)/\(Z0 Y7 s.lk.W x.1.W)/\True)/\rem X.2 X.1.length=x.2/\True)/\y9 x.2/\a91 x.1)/\bd (rem x.2 (s7 x.1)<0) p (rem x.2 (s7 x.1)=rem l (yI s))))) ⟨(s.s,l),⟨⟨(jV _),X7⟩,L,i⟩,λh=>(w8 (G6 h) a5L).symm,λh=>?_⟩
 obtain⟨q,j⟩:=tG (b:=s.X.length) (m9 h) L rfl;refine⟨(s.X,rem l (zX s.s)),⟨X7,j,f⟩,λg=>?_,λg=>?_⟩
 ·simp only at g;rw[q] at g;exact(w8 (G6 g) a5L).symm
 simp only at g ⊢;rw[q] at g ⊢;obtain⟨Q,l2⟩:=tG (b:=s7 s.lk) (m9 g) L rfl;refine⟨(s.lk,rem l (zX s.s+s.X.length)),⟨X7,l2,d⟩,λg=>?_,λg=>?_⟩
 ·simp only at g;rw[Q] at g;exact(w8 (G6 g) a5L).symm
 exact Q
def c1P:Con:=.rel ⟨Eng,λs=>[.agg s.ts,.agg s.ts],λ_=>.bool true,M2⟩
theorem b6H:GK 12 c1P:=gk func12<|by
 rintro(s:Eng) ⟨h0,h1,h2⟩;exact U6 (gC b63 (gC b3p (gC c0a gN))) func12 Z3 (α:=let q:=(false=true);∃(x:a9Z.ι),(((yU s.s x)/\(yU s.s x)/\True)/\iH x)/\br false q (br (!s.up==s.up) q (∃(x:a5d.ι),(((Z0 X2 s.X x)/\(Z0 X2 s.X x)/\True)/\x.length<=1048576)/\br false q (∃(x:Lks),let p:=((Z0 Z2 s.lk.H x.H)/\(Z0 Y7 s.lk.W x.W)/\True);((p/\p/\True)/\uZ x)/\br false q (br (s.N !=s.N) q (true=true)))))) ⟨s.s,⟨⟨(jV _),(jV _),Z6⟩,h0⟩,λh=>h,λ_=>⟨λh=>L6,λ_=>⟨s.X,⟨X7,h1⟩,λh=>h,λ_=>⟨s.lk,⟨X7,h2⟩,λh=>h,λ_=>⟨λh=>L6,λ_=>rfl⟩⟩⟩⟩⟩
open Go.SS Go.RowKit Go.Proofs.Tryz
def oY{H:Type}(x:DataW H):Rec:=⟨dI (F2 (T3 x) 0),dI (F2 (T3 x) 1),dI (F2 (T3 x) 2),dI (F2 (T3 x) 3),dI (F2 (T3 x) 4),dI (F2 (T3 x) 5),dI (F2 (T3 x) 6),dI (F2 (T3 x) 7),dS (F2 (T3 x) 8),dS (F2 (T3 x) 9)⟩
set_option maxRecDepth 100000 in
theorem yR:pK prog 3=true:=R4
theorem b00:gB prog 9=true:=R4
theorem a51:a2s prog 4=true:=R4
set_option maxRecDepth 100000 in
theorem c4N:E6 prog 214=some [3,3,3,3,3,3,3,3,9,9]:=R4
set_option maxRecDepth 100000 in
theorem c6h{H:Type}{d:Nat}(x:DataW H):wW prog (d+2) 214 x=(oY x).ts:=by
 rw[G9 c4N];simp only[trA,xG yR,a8T b00,List.append_nil,List.cons_append,List.nil_append];rfl
set_option maxRecDepth 100000 in
theorem a1k{H:Type}{d:Nat}{x:DataW H}(h:iZ prog (d+1) 9 x):(dS x).length<=9223372036854775807:=by
 obtain⟨l,rfl,L⟩:=c54 h b00;exact L
set_option maxRecDepth 100000 in
theorem c6x{H:Type}{d:Nat}{x:DataW H}(h:iZ prog (d+2) 214 x):b4i (oY x):=by
 obtain⟨xs,rfl,f⟩:=o6 h c4N;obtain⟨X,xs,rfl,_,h⟩:=V6 f;obtain⟨u,xs,rfl,_,h⟩:=V6 h;obtain⟨o,xs,rfl,_,h⟩:=V6 h;obtain⟨j,xs,rfl,_,h⟩:=V6 h;obtain⟨i,xs,rfl,_,h⟩:=V6 h;obtain⟨q,xs,rfl,_,h⟩:=V6 h;obtain⟨t,xs,rfl,_,h⟩:=V6 h;obtain⟨n,xs,rfl,_,h⟩:=V6 h;obtain⟨r,xs,rfl,e,h⟩:=V6 h;obtain⟨l,xs,rfl,g,h⟩:=V6 h;exact⟨a1k e,a1k g⟩
set_option maxRecDepth 100000 in
theorem c4B:zI prog 27=some 214:=R4
set_option maxRecDepth 100000 in
theorem c0p{H:Type}{d:Nat}(x:DataW H):(T.sl (prog.cellsOf 214) (T0 x).length λi=>wW prog (d+2) 214 ((T0 x).getD i .nil))=zH ((T0 x).map oY):=by
 unfold zH;rw[show prog.cellsOf 214=10 by kernel_rfl,List.length_map]
 congr 1
 funext i
 rw[c6h];unfold Y1;exact congrArg Rec.ts (w9 oY (T0 x) i (d:=.nil) (d':=dz) rfl).symm
def tO{H:Type}(x:DataW H):List (Bz):=(T0 x).map dS
def a2l{H:Type}(x:DataW H):List Int:=(T0 x).map dI
def rB{H:Type}(x:DataW H):Pend:=⟨dI (F2 (T3 x) 0),dS (F2 (T3 x) 1)⟩
def a74{H:Type}(x:DataW H):Dsk:=⟨tO (F2 (T3 x) 0),(T0 (F2 (T3 x) 1)).map rB,dB (F2 (T3 x) 2),a2l (F2 (T3 x) 3)⟩
def c4A{H:Type}(x:DataW H):Pg:=⟨dI (F2 (T3 x) 0),tO (F2 (T3 x) 1)⟩
def tM{H:Type}(x:DataW H):Frm:=⟨dI (F2 (T3 x) 0),c4A (F2 (T3 x) 1),dB (F2 (T3 x) 2),dI (F2 (T3 x) 3)⟩
def a1x{H:Type}(x:DataW H):Sto:=⟨a74 (F2 (T3 x) 0),dI (F2 (T3 x) 1),(T0 (F2 (T3 x) 2)).map oY,dI (F2 (T3 x) 3),(T0 (F2 (T3 x) 4)).map tM,dI (F2 (T3 x) 5)⟩
set_option maxRecDepth 100000
theorem c4k:zI prog 22=some 9:=R4
theorem c45:zI prog 24=some 3:=R4
theorem b5M:zI prog 23=some 313:=R4
theorem c44:zI prog 28=some 218:=R4
theorem b9x:E6 prog 313=some [3,9]:=R4
theorem c4u:E6 prog 26=some [22,23,4,24]:=R4
theorem c8S:E6 prog 216=some [3,22]:=R4
theorem c4b:E6 prog 218=some [3,216,4,3]:=R4
theorem c38:E6 prog 30=some [26,3,27,3,28,3]:=R4
theorem a9M{H:Type}{d:Nat}(x:DataW H):wW prog (d+2) 22 x=[u4 (tO x)]:=by
 rw[zV c4k R4,show prog.cellsOf 9=1 by kernel_rfl]
 unfold u4 tO;rw[List.length_map];congr 2
 funext i
 rw[a8T b00];exact congrArg (λl=>[T.str l]) (w9 dS (T0 x) i (d:=.nil) (d':=[]) rfl).symm
theorem c1i{H:Type}{d:Nat}(x:DataW H):wW prog (d+2) 24 x=[sM (a2l x)]:=by
 rw[zV c45 R4,show prog.cellsOf 3=1 by kernel_rfl]
 unfold sM a2l;rw[List.length_map];congr 2
 funext i
 rw[xG yR];exact congrArg (λl=>[Ji l]) (w9 dI (T0 x) i (d:=.nil) (d':=0) rfl).symm
theorem c3W{H:Type}{d:Nat}(x:DataW H):wW prog (d+2) 313 x=(rB x).ts:=by
 rw[G9 b9x];simp only[trA,xG yR,a8T b00,List.append_nil,List.cons_append,List.nil_append];rfl
theorem b6W{H:Type}{d:Nat}(x:DataW H):wW prog (d+3) 23 x=[v8 ((T0 x).map rB)]:=by
 rw[zV b5M R4,show prog.cellsOf 313=2 by kernel_rfl]
 unfold v8;rw[List.length_map];congr 2
 funext i
 rw[c3W];exact congrArg Pend.ts (w9 rB (T0 x) i (d:=.nil) (d':=dz) rfl).symm
theorem c62{H:Type}{d:Nat}(x:DataW H):wW prog (d+4) 26 x=(a74 x).ts:=by
 rw[G9 c4u];simp only[trA,a1O a51,a9M (d:=d+1),c1i (d:=d+1),b6W,List.append_nil,List.cons_append,List.nil_append];rfl
theorem c8d{H:Type}{d:Nat}(x:DataW H):wW prog (d+3) 216 x=(c4A x).ts:=by
 rw[G9 c8S];simp only[trA,xG yR,a9M,List.append_nil,List.cons_append,List.nil_append];rfl
theorem c7L{H:Type}{d:Nat}(x:DataW H):wW prog (d+4) 218 x=(tM x).ts:=by
 rw[G9 c4b];simp only[trA,xG yR,a1O a51,c8d];rfl
theorem c2S{H:Type}{d:Nat}(x:DataW H):wW prog (d+5) 28 x=[uD ((T0 x).map tM)]:=by
 rw[zV c44 R4,show prog.cellsOf 218=5 by kernel_rfl]
 unfold uD;rw[List.length_map];congr 2
 funext i
 rw[c7L];exact congrArg Frm.ts (w9 tM (T0 x) i (d:=.nil) (d':=dz) rfl).symm
theorem c3U{H:Type}{d:Nat}(x:DataW H):wW prog (d+3) 27 x=[zH ((T0 x).map oY)]:=by
 rw[zV c4B R4,c0p]
theorem c5X{H:Type}{d:Nat}(x:DataW H):trA prog (d+5) [26,3,27,3,28,3] (T3 x)=(a1x x).ts:=by
 simp only[trA,xG yR,c62 (d:=d+1),c3U (d:=d+2),c2S];rfl
theorem b03{H:Type}{d:Nat}{x:DataW H}(h:iZ prog (d+2) 22 x):LmL [] (λs=>lQ s.length) (tO x):=by
 obtain⟨_,e,f⟩:=zT h c4k;refine⟨by unfold tO;rw[List.length_map];exact e,λi hi=>?_⟩
 unfold tO at hi ⊢;rw[List.length_map] at hi;rw[w9 dS (T0 x) i (d:=.nil) (d':=[]) rfl,P4,I3 hi]
 exact a1k (f _ (List.getElem_mem hi))
theorem b6T{H:Type}{d:Nat}{x:DataW H}(h:iZ prog (d+3) 23 x):LmL dz LmP ((T0 x).map rB):=by
 obtain⟨_,g,l⟩:=zT h b5M;refine⟨by rw[List.length_map];exact g,λi hi=>?_⟩
 rw[List.length_map] at hi;rw[w9 rB (T0 x) i (d:=.nil) (d':=dz) rfl,P4,I3 hi]
 obtain⟨xs,f,e⟩:=o6 (l _ (List.getElem_mem hi)) b9x;obtain⟨X,xs,rfl,_,e⟩:=V6 e;obtain⟨n,xs,rfl,j,e⟩:=V6 e;show(dS (F2 (T3 (T0 x)[i]) 1)).length<=_;rw[f];exact a1k j
theorem c5r{H:Type}{d:Nat}{x:DataW H}(h:iZ prog (d+4) 26 x):LmD (a74 x):=by
 obtain⟨xs,rfl,e⟩:=o6 h c4u;obtain⟨j,xs,rfl,g,e⟩:=V6 e;obtain⟨l,xs,rfl,f,e⟩:=V6 e;obtain⟨n,xs,rfl,_,e⟩:=V6 e;obtain⟨X,xs,rfl,i,e⟩:=V6 e;refine⟨b03 g,b6T f,?_⟩
 show((T0 X).map dI).length<=_;rw[List.length_map];exact(zT i c45).2.1
theorem c6v{H:Type}{d:Nat}{x:DataW H}(h:iZ prog (d+4) 218 x):LmF (tM x):=by
 obtain⟨xs,rfl,e⟩:=o6 h c4b;obtain⟨X,xs,rfl,_,e⟩:=V6 e;obtain⟨n,xs,rfl,i,e⟩:=V6 e;obtain⟨Y,rfl,g⟩:=o6 i c8S;obtain⟨j,Y,rfl,_,g⟩:=V6 g;obtain⟨l,Y,rfl,f,g⟩:=V6 g;exact b03 f
theorem c6n{H:Type}{d:Nat}{x:DataW H}(h:iZ prog (d+6) 30 x):LmS (a1x x):=by
 obtain⟨xs,rfl,e⟩:=o6 h c38;obtain⟨q,xs,rfl,j,e⟩:=V6 e;obtain⟨u,xs,rfl,_,e⟩:=V6 e;obtain⟨X,xs,rfl,f,e⟩:=V6 e;obtain⟨t,xs,rfl,_,e⟩:=V6 e;obtain⟨x4,xs,rfl,o,e⟩:=V6 e;obtain⟨_,l,R⟩:=zT f c4B;obtain⟨_,F,n⟩:=zT o c44;refine⟨c5r j,⟨?_,λr g=>?_⟩,⟨?_,λi hi=>?_⟩⟩
 ·show((T0 X).map oY).length<=_;rw[List.length_map];exact l
 ·obtain⟨y,Y,rfl⟩:=List.mem_map.1 g;exact c6x (R y Y)
 ·show((T0 x4).map tM).length<=_;rw[List.length_map];exact F
 ·have hi:i<((T0 x4).map tM).length:=hi;show LmF (((T0 x4).map tM).getD i dz);rw[List.length_map] at hi;rw[w9 tM (T0 x4) i (d:=.nil) (d':=dz) rfl,P4,I3 hi]
  exact c6v (n _ (List.getElem_mem hi))
def gO{H:Type}(x:DataW H):Txn:=⟨dI (F2 (T3 x) 0),dI (F2 (T3 x) 1)⟩
def a49{H:Type}(x:DataW H):Wt:=⟨dI (F2 (T3 x) 0),dI (F2 (T3 x) 1)⟩
def fU{H:Type}(x:DataW H):Lck:=⟨dI (F2 (T3 x) 0),dI (F2 (T3 x) 1),dI (F2 (T3 x) 2),dI (F2 (T3 x) 3)⟩
def a8V{H:Type}(x:DataW H):Lks:=⟨(T0 (F2 (T3 x) 0)).map fU,(T0 (F2 (T3 x) 1)).map a49⟩
def a76{H:Type}(x:DataW H):Eng:=⟨a1x (F2 (T3 x) 0),dB (F2 (T3 x) 1),(T0 (F2 (T3 x) 2)).map gO,a8V (F2 (T3 x) 3),dI (F2 (T3 x) 4)⟩
theorem c80:E6 prog 144=some [3,3]:=R4
theorem c9i:E6 prog 244=some [3,3]:=R4
theorem c85:E6 prog 242=some [3,3,3,3]:=R4
theorem c4s:E6 prog 35=some [32,33]:=R4
theorem a9u:E6 prog 37=some [30,4,31,35,3]:=R4
theorem c4U:zI prog 31=some 144:=R4
theorem c4C:zI prog 32=some 242:=R4
theorem c8v:zI prog 33=some 244:=R4
theorem c5I{H:Type}{d:Nat}(x:DataW H):wW prog (d+2) 144 x=(gO x).ts:=by
 rw[G9 c80];simp only[trA,xG yR,List.append_nil,List.cons_append,List.nil_append];rfl
theorem c18{H:Type}{d:Nat}(x:DataW H):wW prog (d+3) 31 x=[tV ((T0 x).map gO)]:=by
 rw[zV c4U R4,show prog.cellsOf 144=2 by kernel_rfl]
 unfold tV;rw[List.length_map];congr 2
 funext i
 rw[c5I];exact congrArg Txn.ts (w9 gO (T0 x) i (d:=.nil) (d':=dz) rfl).symm
theorem c75{H:Type}{d:Nat}(x:DataW H):wW prog (d+2) 244 x=(a49 x).ts:=by
 rw[G9 c9i];simp only[trA,xG yR,List.append_nil,List.cons_append,List.nil_append];rfl
theorem c6G{H:Type}{d:Nat}(x:DataW H):wW prog (d+3) 33 x=[nI ((T0 x).map a49)]:=by
 rw[zV c8v R4,show prog.cellsOf 244=2 by kernel_rfl]
 unfold nI;rw[List.length_map];congr 2
 funext i
 rw[c75];exact congrArg Wt.ts (w9 a49 (T0 x) i (d:=.nil) (d':=dz) rfl).symm
theorem c6W{H:Type}{d:Nat}(x:DataW H):wW prog (d+2) 242 x=(fU x).ts:=by
 rw[G9 c85];simp only[trA,xG yR,List.append_nil,List.cons_append,List.nil_append];rfl
theorem c07{H:Type}{d:Nat}(x:DataW H):wW prog (d+3) 32 x=[wO ((T0 x).map fU)]:=by
 rw[zV c4C R4,show prog.cellsOf 242=4 by kernel_rfl]
 unfold wO;rw[List.length_map];congr 2
 funext i
 rw[c6W];exact congrArg Lck.ts (w9 fU (T0 x) i (d:=.nil) (d':=dz) rfl).symm
theorem c5J{H:Type}{d:Nat}(x:DataW H):wW prog (d+4) 35 x=(a8V x).ts:=by
 rw[G9 c4s];simp only[trA,c07,c6G,List.append_nil,List.cons_append,List.nil_append];rfl
theorem c0W{H:Type}{d:Nat}(x:DataW H):wW prog (d+6) 30 x=(a1x x).ts:=by
 rw[G9 c38];exact c5X x
theorem c6B{H:Type}{d:Nat}(x:DataW H):wW prog (d+7) 37 x=(a76 x).ts:=by
 rw[G9 a9u];simp only[trA,xG yR,a1O a51,c0W (d:=d),c18 (d:=d+3),c5J (d:=d+2)];rfl
theorem c7x{H:Type}{d:Nat}{x:DataW H}(h:iZ prog (d+4) 35 x):a91 (a8V x):=by
 obtain⟨xs,rfl,e⟩:=o6 h c4s;obtain⟨X,xs,rfl,g,e⟩:=V6 e;obtain⟨i,xs,rfl,f,e⟩:=V6 e;refine⟨?_,?_⟩
 ·show((T0 X).map fU).length<=_;rw[List.length_map];exact(zT g c4C).2.1
 ·show((T0 i).map a49).length<=_;rw[List.length_map];exact(zT f c8v).2.1
theorem c5T{H:Type}{d:Nat}{x:DataW H}(h:iZ prog (d+7) 37 x):b0Z (a76 x):=by
 obtain⟨xs,rfl,e⟩:=o6 h a9u;obtain⟨j,xs,rfl,g,e⟩:=V6 e;obtain⟨l,xs,rfl,_,e⟩:=V6 e;obtain⟨X,xs,rfl,f,e⟩:=V6 e;obtain⟨n,xs,rfl,i,e⟩:=V6 e;refine⟨c6n (d:=d) g,?_,c7x (d:=d+2) i⟩
 show((T0 X).map gO).length<=_;rw[List.length_map];exact(zT (d:=d+5) f c4U).2.1
theorem b1X{e:Eng}(h:yI e<=1048576):M2 e/\gT e:=by
 have i:yI e=zX e.s+e.X.length+s7 e.lk:=rfl;have g:s7 e.lk=e.lk.H.length+e.lk.W.length:=rfl;obtain⟨d,f⟩:=b27 (s:=e.s) Z9
 exact⟨⟨d,Z9,Z9,Z9⟩,f,⟨sU,sU⟩,sU⟩
theorem own:ownKnob prog.godebug=none:=R4
theorem c5m{P:Program}{f:FuncId}{fn:Func}{s:ChangeSpec}{c:OpenClaim}(N:c.wf (OpenSpec.ofChange s)=true)(Q:laidOutB P=true)(M:mapsRowed P=true)
  (W:fn.params.all (P.readableRec ·)=true) (O:namedTie P c.named s.vars=true) (U:(c.stops==[])=true) (X:(P.stops==[])=true) (R:(c.knobs==[])=true) (V:(P.stopKnobs==[])=true)
  (Y:(c.inPlace==P.inPlace f)=true) (l:(c.unfollowed==P.unfollowed f)=true) (v:(c.recurses==P.recurses f)=true) (n:(c.named==P.varsNamed f)=true)
  (h:(c.maps==(fn.params.toList++s.plain.varTypes P).any (P.mapsRec ·))=true) (g:(c.ifaces==(fn.params.toList++s.plain.varTypes P).any (P.ifacesRec ·))=true) (o:(c.mapsOut==P.mapsAmong fn.resultTypes.toList)=true)
  (x:(c.loops==(fn.params.toList++s.plain.varTypes P).any (P.loopsFrom ·))=true) (j:(c.wideKeys==(fn.params.toList++s.plain.varTypes P++fn.resultTypes.toList).any (P.wideKeysFrom ·))=true)
  (L:s.vars.all (P.varReadable ·)=true) (e:fn.resultTypes.all (λt=>P.readableRec t&&decide (t<P.types.size))=true) (B:(c.ifacesOut==fn.resultTypes.toList.any (P.ifacesRec ·))=true)
  (A:(c.loopsOut==fn.resultTypes.toList.any (P.loopsFrom ·))=true) (d:(c.plainKeys==P.plainKeys)=true) (z:c.shortTexts.isNone=true) (F:P.stopsHeard=true) (i:P.mayEnter=true)
  (I:(c.lifted==P.liftsFinal)=true) (q:(P.make==some c.make)=true) (r:(c.kinds==(if c.domain.isEmpty then[] else fn.params.toList.map λt=>match P.underlying t with|some (.int k)=>some k|_=>none))=true) (C:(c.pinned==c.pinnedBy)=true)
  (u:(c.veiled==(fn.params.toList++s.plain.varTypes P++fn.resultTypes.toList).any (P.veiledRec ·))=true) (J:c.veiledFits P fn.params.toList (fn.params.toList++s.plain.varTypes P++fn.resultTypes.toList)=true):joinedFacts P f fn s c=true:=by
 simp only[joinedFacts,I4];exact⟨⟨⟨⟨⟨⟨⟨⟨⟨⟨⟨⟨⟨⟨⟨⟨⟨⟨⟨⟨⟨⟨⟨⟨⟨⟨⟨⟨⟨⟨⟨N,Q⟩,M⟩,W⟩,O⟩,U⟩,X⟩,R⟩,V⟩,Y⟩,l⟩,v⟩,n⟩,h⟩,g⟩,o⟩,x⟩,j⟩,L⟩,e⟩,B⟩,A⟩,d⟩,z⟩,F⟩,i⟩,I⟩,q⟩,r⟩,C⟩,u⟩,J⟩
end
end Go.Proofs.YtpdnnhnfongoeaaGreat
