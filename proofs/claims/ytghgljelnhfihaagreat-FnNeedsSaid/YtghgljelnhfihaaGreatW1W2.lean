/- A part of the proof. -/
import Derived.Test.YtghgljelnhfihaaGreatE7E8
namespace Go.Proofs.YtghgljelnhfihaaGreat
set_option maxRecDepth 100000
open Go.SS

structure Val where
 k:Int
 n:Int
 t:List UInt8
 deriving Inhabited
def Val.ts(v:Val):List T:=[.int .i64 v.k,.int .i64 v.n,.str v.t]
structure Rw where
 id:Int
 n:Val
 name:Val
 deriving Inhabited
def Rw.ts(r:Rw):List T:=[.int .i64 r.id,.int .i64 r.n.k,.int .i64 r.n.n,.str r.n.t,.int .i64 r.name.k,.int .i64 r.name.n,.str r.name.t]
structure Chg where
 se:Int
 ta:Int
 row:Rw
 G:Bool
 deriving Inhabited
def Chg.ts(c:Chg):List T:=[.int .i64 c.se,.int .i64 c.ta,.int .i64 c.row.id,.int .i64 c.row.n.k,.int .i64 c.row.n.n,.str c.row.n.t,.int .i64 c.row.name.k,.int .i64 c.row.name.n,.str c.row.name.t,.bool c.G]
def b76(c:UInt8):Bool:=decide (c.toNat≥97)&&decide (c.toNat<=122)
def a07(t:List UInt8)(i:Nat):Bool:= !b76 (t.getD i 0)
def a3N(t:List UInt8):Bool:= !anyI t.length (a07 t)&&decide (t.length<=10)
def L9(v:Val):Bool:=if v.k=0 then(v.n==0)&&(v.t==[]) else if v.k=1 then V9 v.n (-1000000000) 1000000000&&(v.t==[]) else(v.k==2)&&(v.n==0)&&a3N v.t
def pK(r:Rw):Bool:=V9 r.id 0 1000&&L9 r.n&&(r.n.k !=2)&&L9 r.name&&(r.name.k !=1)
def StB(t:List UInt8):Prop:=O6 t.length
def zP:Rl:=⟨Val,λv=>[.agg v.ts],λv=>.bool (L9 v),λv=>StB v.t⟩
def a5c:Con:=.rel zP
def b9x(v:Val):Option Ob:=some (.arr true 1000000 3 1 λ_=>v.ts)
def a3v(v:Val):Nat->Ann
 |0=>.one (V1 v.t.length (a07 v.t)) (λx=>⟨[(1,.ref 0 0 0),(3,.int .i64 x.1)],[b9x v]⟩) (λx=>v.t.length-x.1) [.box 0] [.box 0] (λ_=>Y5)
 |_=>.none
theorem c0o{v:Val}(h:v.k=2)(hn:v.n=0)(hl:v.t.length<=10):L9 v= !anyI v.t.length (a07 v.t):=by
 unfold L9;rw[if_neg (by omega),if_neg (by omega),h,hn]
 unfold a3N;rw[pO hl,Bool.and_true];rfl
theorem oI:GK 181 a5c:=gk Tryz.func181<|by
 intro(v:Val) (h:v.t.length<1000000000000);refine Q5 (gC E3 gN) Tryz.func181 (a3v v) (α:=let z:=(1=1/\1=1/\v.k=v.k/\v.n=v.n/\v.t=v.t/\True);let r:=(v.t.length:Int);let u:=(v.n !=0||decide (r>10));((v.k==0)=true->(v.n==0&&v.t==[])=L9 v)/\((v.k==0)=false->((v.k==1)=true->(V9 v.n (-1000000000:Int) (1000000000:Int)&&v.t==[])=L9 v)/\((v.k==1)=false->((v.k==2)=true->(u=true->false=L9 v)/\(u=false->(∃(x:V1 v.t.length (a07 v.t)),((0=0/\0=0)/\0=(x.val:Int)/\True)/\z/\True)/\∀(x:V1 v.t.length (a07 v.t)),let q:=(x.val:Int);let p:=(!V9 (IntKind.i64.wrap (↑(v.t.getD q.toNat (0:UInt8)).toNat:Int)) (97:Int) (122:Int));(decide (q<r)=true->V3 q v.t.length/\(p=true->false=L9 v)/\(p=false->W7 .i64 (q+1)/\∃(y:V1 v.t.length (a07 v.t)),(((0=0/\0=0)/\q+1=(y.val:Int)/\True)/\z/\True)/\Lt (v.t.length-y.val) (v.t.length-x.val)))/\(decide (q<r)=false->true=L9 v)))/\((v.k==2)=false->false=L9 v)))) ⟨λh0=> ?_,λh0=>⟨λh1=> ?_,λh1=>⟨λh2=>⟨λhb=> ?_,λhb=> ?_⟩,λh2=> ?_⟩⟩⟩
 ·have h0':v.k=0:=by simpa using h0
  unfold L9;rw[if_pos h0']
 ·have h0':v.k≠0:=by simpa using h0
  have h1':v.k=1:=by simpa using h1
  unfold L9;rw[if_neg h0',if_pos h1']
 ·have h2':v.k=2:=by simpa using h2
  unfold L9 a3N;rw[if_neg (by omega),if_neg (by omega)]
  simp only[pP,bne_iff_ne,k4] at hb;by_cases hn:v.n=0
  ·rw[uV (p:=v.t.length<=10) (by rcases hb with hb|hb<;>omega)]
   simp
  ·rw[show(v.n==0)=false by simpa using hn]
   simp
 ·have h2':v.k=2:=by simpa using h2
  simp only[yP,bne_eq_false_iff_eq,rX] at hb;obtain⟨hn,hl⟩:=hb;have e:=c0o h2' hn (by omega)
  refine⟨⟨F7,⟨Z8,Z9⟩,⟨rfl,rfl,rfl,rfl,Z9⟩,trivial⟩,λx=>⟨λhc=> ?_,λhc=> ?_⟩⟩
  ·have hlt:=X6 hc;rw[wP,F5,show V9 ((v.t.getD x.val 0).toNat:Int) 97 122=b76 (v.t.getD x.val 0) by unfold V9 b76;congr 1<;>exact decide_eq_decide.2 (by omega)]
   refine⟨X8 hlt,λhp=> ?_,λhp=>⟨U5 hlt (by omega),x.succ hlt hp,⟨⟨Z8,by simp only[V1.succ];omega,trivial⟩,⟨rfl,rfl,rfl,rfl,rfl,trivial⟩,trivial⟩,V1.ext_lt hlt⟩⟩
   have:anyI v.t.length (a07 v.t)=true:=Q9.2 ⟨x.val,hlt,hp⟩;rw[e,this];rfl
  ·have hge:=X4 hc;have:anyI v.t.length (a07 v.t)=false:=Q8.2 λi hi=>x.2.2 i (wM hi hge)
   rw[e,this];rfl
 ·have h0':v.k≠0:=by simpa using h0
  have h1':v.k≠1:=by simpa using h1
  unfold L9;rw[if_neg h0',if_neg h1',h2];rfl
def RwB(r:Rw):Prop:=StB r.n.t/\StB r.name.t
def a5V:Rl:=⟨Rw,λr=>[.agg r.ts],λr=>.bool (pK r),RwB⟩
def b1m:Con:=.rel a5V
theorem a9Q:GK 84 b1m:=gk Tryz.func84<|by
 rintro(r:Rw) ⟨h1,h2⟩;refine Q5 (gC E3 (gC oI gN)) Tryz.func84 Y5 (α:=∃(x:zP.ι),(V9 r.id (0:Int) 1000=true->((r.n.k=x.k/\r.n.n=x.n/\r.n.t=x.t/\True)/\True)/\StB x.t)/\∃(x_1:zP.ι),((V9 r.id (0:Int) (1000:Int)&&L9 x)=true->((r.name.k=x_1.k/\r.name.n=x_1.n/\r.name.t=x_1.t/\True)/\True)/\StB x_1.t)/\(V9 r.id (0:Int) (1000:Int)&&L9 x&&L9 x_1&&r.n.k !=2&&r.name.k !=1)=pK r) ⟨r.n,λ_=>⟨⟨⟨rfl,rfl,Z9⟩,trivial⟩,h1⟩,r.name,λ_=>⟨⟨⟨rfl,rfl,Z9⟩,trivial⟩,h2⟩,?_⟩
 unfold pK;generalize V9 r.id 0 1000=a;generalize L9 r.n=b;generalize (r.n.k !=2)=c;generalize L9 r.name=d;cases a<;>cases b<;>cases c<;>cases d<;>rfl
end Go.Proofs.YtghgljelnhfihaaGreat

namespace Go.Proofs.YtghgljelnhfihaaGreat
set_option maxRecDepth 100000
open Go.SS

structure Lck where
 tx:Int
 ta:Int
 row:Int
 mo:Int
 deriving Inhabited
def Lck.ts(l:Lck):List T:=[.int .i64 l.tx,.int .i64 l.ta,.int .i64 l.row,.int .i64 l.mo]
structure Wt where
 tx:Int
 fo:Int
 deriving Inhabited
def Wt.ts(w:Wt):List T:=[.int .i64 w.tx,.int .i64 w.fo]
def Y7(L:List Lck)(i:Nat):List T:=(L.getD i dz).ts
def jQ(L:List Lck):T:=.sl 4 L.length (Y7 L)
def Y0(L:List Wt)(i:Nat):List T:=(L.getD i dz).ts
def wtS(L:List Wt):T:=.sl 2 L.length (Y0 L)
structure Lks where
 H:List Lck
 W:List Wt
 deriving Inhabited
def Lks.ts(l:Lks):List T:=[jQ l.H,wtS l.W]
def aH(l:Lks):Option Ob:=some (.arr true 1000000 2 1 λ_=>l.ts)
def wG(a b:Int):Bool:=(a !=4)&&(b !=4)&&((a==1)||(b==1)||(a==b))
def uE(a b:Lck):Bool:=(a.tx==b.tx)&&((a.ta==b.ta)&&((a.row==b.row)&&((a.mo==b.mo)&&true)))
def qQ(a b:Lck):Bool:=(a.ta==b.ta)&&(a.row==b.row)
def clash(a b:Lck):Bool:=(a.tx !=b.tx)&&qQ a b&& !wG a.mo b.mo
def x9(l:Lck):Bool:=V9 l.tx 1 60&&V9 l.ta 1 3&&V9 l.row (-1) 1000&&V9 l.mo 1 4&&(decide (l.row<0)||decide (l.mo≥3))
def d5(L:List Lck)(a:Lck)(k:Nat):Bool:=uE a (L.getD k dz)||clash a (L.getD k dz)
def G7(L:List Lck)(i:Nat):Bool:= !x9 (L.getD i dz)||anyI i (d5 L (L.getD i dz))
def G0(L:List Wt)(i:Nat):Bool:= !V9 (L.getD i dz).tx 1 60|| !V9 (L.getD i dz).fo 1 60||((L.getD i dz).tx==(L.getD i dz).fo)
def K0(l:Lks):Bool:= !anyI l.H.length (G7 l.H)&&(decide (l.H.length<=60)&&decide (l.W.length<=100)&& !anyI l.W.length (G0 l.W))
def b19(l:Lks):Prop:=O6 l.H.length/\O6 l.W.length

def b24:Con:=.rel ⟨Int,λn=>[.int .i64 n],λn=>.bool (V9 n 1 4),λ_=>True⟩
theorem b0z(n:Int)(h:
  V9 n (1:Int) (4:Int)=V9 n (1:Int) (4:Int)):
  U1 Tryz.prog 307 [.int .i64 n] (.bool (V9 n 1 4)):=
 Q5 (gC M5 gN) Tryz.func307 Y5 h
theorem a8p:GK 307 b24:=gk Tryz.func307<|λn _=>b0z n rfl
def b7V:Con:=.rel ⟨Int,λn=>[.int .i64 n],λn=>.bool (V9 n 1 60),λ_=>True⟩
theorem c0g(n:Int)(h:
  V9 n (1:Int) (60:Int)=V9 n (1:Int) (60:Int)):
  U1 Tryz.prog 247 [.int .i64 n] (.bool (V9 n 1 60)):=
 Q5 (gC M5 gN) Tryz.func247 Y5 h
theorem a6B:GK 247 b7V:=gk Tryz.func247<|λn _=>c0g n rfl
def b2F:Con:=.rel ⟨Lck,λl=>[.agg l.ts],λl=>.bool (x9 l),λ_=>True⟩
theorem b2R(l:Lck)(h:
  ∃(x:Int),((l.tx=x/\True)/\True)/\∃(x_1:Int),((V9 x (1:Int) (60:Int)&&V9 l.ta (1:Int) (3:Int)&&V9 l.row (-1:Int) (1000:Int))=true->(l.mo=x_1/\True)/\True)/\(V9 x (1:Int) (60:Int)&&V9
  l.ta (1:Int) (3:Int)&&V9 l.row (-1:Int) (1000:Int)&&V9 x_1 (1:Int) (4:Int)&&(decide (l.row<(0:Int))||decide (l.mo≥(3:Int))))=x9 l):
  U1 Tryz.prog 243 [.agg l.ts] (.bool (x9 l)):=
 Q5 (gC a6B (gC M5 (gC a8p gN))) Tryz.func243 Y5 h
theorem a9N:GK 243 b2F:=gk Tryz.func243<|λl _=>b2R l ⟨l.tx,⟨Z9,trivial⟩,l.mo,λ_=>⟨Z9,trivial⟩,rfl⟩
def b23:Con:=.rel ⟨Lck,λl=>l.ts,λl=>.bool (x9 l),λ_=>True⟩
theorem a7K:GK 202 b23:=gk Tryz.func202<|by
 intro(l:Lck) _;refine Q5 (gC E3 gN) Tryz.func202 Y5 (α:=(V9 l.tx (1:Int) (60:Int)&&V9 l.ta (1:Int) (3:Int)&&V9 l.row (-1:Int) (1000:Int)&&V9 l.mo (1:Int) (4:Int)&&(l.row==(-1:Int)||decide (l.mo≥(3:Int))))=x9 l) ?_
 unfold x9;cases h:V9 l.row (-1) 1000
 ·simp
 ·have h':=h;unfold V9 at h';simp only[L3,k4] at h';rw[show(l.row== -1)=decide (l.row<0) by rw[Bool.eq_iff_iff,beq_iff_eq,k4];omega]
def kO:Con:=.rel ⟨Int×Int,λx=>[.int .i64 x.1,.int .i64 x.2],λx=>.bool (wG x.1 x.2),λ_=>True⟩
def b3v:Con:=kO
theorem a5p(a b:Int)(h:
  (a !=(4:Int)&&b !=(4:Int)&&(a==(1:Int)||b==(1:Int)||a==b))=wG a b):
  U1 Tryz.prog 309 [.int .i64 a,.int .i64 b] (.bool (wG a b)):=
 Q5 gN Tryz.func309 Y5 h
theorem a2x:GK 309 kO:=gk Tryz.func309<|λx _=>a5p x.1 x.2 rfl
theorem fK:GK 203 b3v:=gk Tryz.func203<|by
 rintro⟨a,b⟩ _;refine Q5 gN Tryz.func203 Y5 (α:=((a==4||b==4)=true->false=wG a b)/\((a==4||b==4)=false->((a==1||b==1)=true->true=wG a b)/\((a==1||b==1)=false->(a==b)=wG a b))) ⟨λh=> ?_,λh=>⟨λg=> ?_,λg=> ?_⟩⟩<;>unfold wG<;>simp at*
 ·intro h1 h2;rcases h with h|h<;>omega
 ·exact⟨h,by rcases g with g|g<;>simp[g]⟩
 ·rw[show(a !=4)=true by simpa using h.1,show(b !=4)=true by simpa using h.2,show(a==1)=false by simpa using g.1,show(b==1)=false by simpa using g.2]
  rfl
def bM:Con:=.rel ⟨Lck×Lck,λx=>[.agg x.1.ts,.agg x.2.ts],λx=>.bool (qQ x.1 x.2),λ_=>True⟩
theorem a0b(a b:Lck)(h:
  (a.ta==b.ta&&a.row==b.row)=qQ a b):
  U1 Tryz.prog 308 [.agg a.ts,.agg b.ts] (.bool (qQ a b)):=
 Q5 gN Tryz.func308 Y5 h
theorem gM:GK 308 bM:=gk Tryz.func308<|λx _=>a0b x.1 x.2 rfl
def a9B:Con:=.rel ⟨Lck×Lck,λx=>[.agg x.1.ts,.agg x.2.ts],λx=>.bool (clash x.1 x.2),λ_=>True⟩
theorem a9p(a b:Lck)(h:
  ∃(x:(Lck×Lck)),((a.tx !=b.tx)=true->((a.tx=x.1.tx/\a.ta=x.1.ta/\a.row=x.1.row/\a.mo=x.1.mo/\True)/\(b.tx=x.2.tx/\b.ta=x.2.ta/\b.row=x.2.row/\b.mo=x.2.mo/\True)/\True)/\True)/\∃
  (x_1:(Int×Int)),((a.tx !=b.tx&&qQ x.1 x.2)=true->(a.mo=x_1.1/\b.mo=x_1.2/\True)/\True)/\(a.tx !=b.tx&&qQ x.1 x.2&& !wG x_1.1 x_1.2)=clash a b):
  U1 Tryz.prog 245 [.agg a.ts,.agg b.ts] (.bool (clash a b)):=
 Q5 (gC gM (gC a2x gN)) Tryz.func245 Y5 h
theorem a5U:GK 245 a9B:=gk Tryz.func245<|λx _=>a9p x.1 x.2 ⟨(x.1,x.2),λ_=>⟨⟨⟨rfl,rfl,rfl,Z9⟩,⟨rfl,rfl,rfl,Z9⟩,trivial⟩,trivial⟩,(x.1.mo,x.2.mo),λ_=>⟨⟨rfl,Z9⟩,trivial⟩,rfl⟩
def a4V:Con:=.rel ⟨Lck×Lck,λx=>[.agg x.2.ts,.bref x.1.ts],λx=>.bool (uE x.1 x.2||clash x.1 x.2),λ_=>True⟩
theorem a31(a b:Lck)(h:
  ∃(x:(Lck×Lck)),((a.tx==b.tx&&(a.ta==b.ta&&(a.row==b.row&&(a.mo==b.mo&&true))))=false->((a.tx=x.1.tx/\a.ta=x.1.ta/\a.row=x.1.row/\a.mo=x.1.mo/\True)/\(b.tx=x.2.tx/\b.ta=x.2.ta
  /\b.row=x.2.row/\b.mo=x.2.mo/\True)/\True)/\True)/\(a.tx==b.tx&&(a.ta==b.ta&&(a.row==b.row&&(a.mo==b.mo&&true)))||clash x.1 x.2)=(uE a b||clash a b)):
  U1 Tryz.prog 244 [.agg b.ts,.bref a.ts] (.bool (uE a b||clash a b)):=
 Q5 (gC a5U gN) Tryz.func244 Y5 h
theorem a1q:GK 244 a4V:=gk Tryz.func244<|λx _=>a31 x.1 x.2 ⟨(x.1,x.2),λ_=>⟨⟨⟨rfl,rfl,rfl,Z9⟩,⟨rfl,rfl,rfl,Z9⟩,trivial⟩,trivial⟩,rfl⟩
def b4T(a:Lck):T:=.fn (.func 244) [.bref a.ts]
def a9k:Con:=.rel ⟨List Lck×Nat×Lck,λx=>[.sl 4 x.2.1 (Y7 x.1),b4T x.2.2],λx=>.int .i64 (P9 x.2.1 (d5 x.1 x.2.2)),λx=>O6 x.2.1⟩
def a7F(L:List Lck)(n:Nat)(a:Lck):Nat->Ann
 |0=>.one (V1 n (d5 L a)) (λx=>⟨[(0,.sl 4 n (Y7 L)),(1,b4T a),(7,.int .i64 n),(8,.int .i64 x.1)],[]⟩) (λx=>n-x.1) [] [] (λ_=>Y5)
 |_=>.none
theorem a4g:GK 249 a9k:=gk Tryz.func249<|by
 rintro⟨L,n,a⟩ (hL:n<1000000000000);refine Q5 (gC a1q gN) Tryz.func249 (a7F L n a) (α:=let u:=(n=n/\Z6 n (Y7 L) (Y7 L));let p:=(T.bref [T.int .i64 a.tx,T.int .i64 a.ta,T.int .i64 a.row,T.int .i64 a.mo]);(∃(x:V1 n (d5 L a)),(u/\(Fn.func 244=Fn.func 244/\L4 (λ(x:Nat)=>none) p p/\True)/\(n:Int)=(n:Int)/\0=(x.val:Int)/\True)/\True)/\∀(x:V1 n (d5 L a)),let q:=(x.val:Int);let r:=(L.getD q.toNat dz);(decide (q<(n:Int))=true->V3 q n/\∃(x_1:(Lck×Lck)),let z:=(uE x_1.1 x_1.2||clash x_1.1 x_1.2);(((r.tx=x_1.2.tx/\r.ta=x_1.2.ta/\r.row=x_1.2.row/\r.mo=x_1.2.mo/\True)/\(a.tx=x_1.1.tx/\a.ta=x_1.1.ta/\a.row=x_1.1.row/\a.mo=x_1.1.mo/\True)/\True)/\True)/\(z=true->q=P9 n (d5 L a))/\(z=false->W7 .i64 (q+1)/\∃(y:V1 n (d5 L a)),((u/\(Fn.func 244=Fn.func 244/\L4 (λ(x:Nat)=>none) p p/\True)/\(n:Int)=(n:Int)/\q+1=(y.val:Int)/\True)/\True)/\Lt (n-y.val) (n-x.val)))/\(decide (q<(n:Int))=false->(-1:Int)=P9 n (d5 L a))) ⟨⟨F7,⟨Z7,⟨rfl,R2 _,trivial⟩,rfl,Z9⟩,trivial⟩,λx=>⟨λhc=> ?_,λhc=> ?_⟩⟩
 ·have hlt:=X6 hc;refine⟨X8 hlt,(a,L.getD x.val dz),⟨⟨⟨rfl,rfl,rfl,Z9⟩,⟨rfl,rfl,rfl,Z9⟩,trivial⟩,trivial⟩,λhp=>(M6 hlt hp x.2.2).symm,λhp=>⟨U5 hlt (by omega),x.succ hlt hp,⟨⟨Z7,⟨rfl,R2 _,trivial⟩,rfl,by simp only[V1.succ];omega,trivial⟩,trivial⟩,V1.ext_lt hlt⟩⟩
 ·have hge:=X4 hc;exact(J1 λj hj=>x.2.2 j (wM hj hge)).symm
def a7n:Con:=.rel ⟨List Lck×Nat×Lck,λx=>[.sl 4 x.2.1 (Y7 x.1),b4T x.2.2],λx=>.bool (anyI x.2.1 (d5 x.1 x.2.2)),λx=>O6 x.2.1⟩
theorem a76(L:List Lck)(n:Nat)(a:Lck)(h:
  ∃(x:(List Lck×Nat×Lck)),(((n=x.2.1/\Z6 n (Y7 L) (Y7 x.1))/\(Fn.func 244=Fn.func 244/\(a.tx=x.2.2.tx/\a.ta=x.2.2.ta/\a.row=x.2.2.row/\a.mo=x.2.2.mo/\True)/\True)/\True)
  /\O6 x.2.1)/\decide (P9 x.2.1 (d5 x.1 x.2.2)≥(0:Int))=anyI n (d5 L a)):
  U1 Tryz.prog 147 [.sl 4 n (Y7 L),b4T a] (.bool (anyI n (d5 L a))):=
 Q5 (gC a4g gN) Tryz.func147 Y5 h
theorem a5e:GK 147 a7n:=gk Tryz.func147<|λx hL=>a76 x.1 x.2.1 x.2.2 ⟨x,⟨⟨Z7,⟨rfl,⟨rfl,rfl,rfl,Z9⟩,trivial⟩,trivial⟩,hL⟩,A5 _ _⟩
def a4q:Con:=.rel ⟨List Wt×Nat,λx=>[.agg (x.1.getD x.2 dz).ts],λx=>.bool (G0 x.1 x.2),λ_=>True⟩
theorem a3R(L:List Wt)(i:Nat)(h:
  ∃(x:Int),(((L.getD i dz).tx=x/\True)/\True)/\∃(x_1:Int),((!V9 x (1:Int) (60:Int))=false->((L.getD i dz).fo=x_1/\True)/\True)/\(!V9 x (1:Int) (60:Int)|| !V9 x_1 (1:Int) (60:Int)||
  (L.getD i dz).tx==(L.getD i dz).fo)=G0 L i):
  U1 Tryz.prog 246 [.agg (L.getD i dz).ts] (.bool (G0 L i)):=
 Q5 (gC a6B gN) Tryz.func246 Y5 h
theorem a1a:GK 246 a4q:=gk Tryz.func246<|λx _=>a3R x.1 x.2 ⟨_,⟨Z9,trivial⟩,_,λ_=>⟨Z9,trivial⟩,rfl⟩
def b3G:Con:=.rel ⟨List Wt,λL=>[wtS L,fnT 246],λL=>.int .i64 (P9 L.length (G0 L)),λL=>O6 L.length⟩
def b1q(L:List Wt):Nat->Ann
 |0=>.one (V1 L.length (G0 L)) (λx=>⟨[(0,wtS L),(1,fnT 246),(7,.int .i64 L.length),(8,.int .i64 x.1)],[]⟩) (λx=>L.length-x.1) [] [] (λ_=>Y5)
 |_=>.none
theorem a89:GK 250 b3G:=gk Tryz.func250<|by
 intro(L:List Wt) (hL:L.length<1000000000000);refine Q5 (gC a1a gN) Tryz.func250 (b1q L) (α:=let r:=(Fn.func 246);let q:=(L.length:Int);(∃(x:V1 L.length (G0 L)),((Y8 Y0 L L)/\Value.func r #[] #[]=Value.func r #[] #[]/\q=q/\0=(x.val:Int)/\True)/\True)/\∀(x:V1 L.length (G0 L)),let p:=(x.val:Int);let u:=(L.getD p.toNat dz);(decide (p<q)=true->V3 p L.length/\∃(x_1:(List Wt×Nat)),let z:=(x_1.1.getD x_1.2 dz);(((u.tx=z.tx/\u.fo=z.fo/\True)/\True)/\True)/\(G0 x_1.1 x_1.2=true->p=P9 L.length (G0 L))/\(G0 x_1.1 x_1.2=false->W7 .i64 (p+1)/\∃(y:V1 L.length (G0 L)),(((Y8 Y0 L L)/\Value.func r #[] #[]=Value.func r #[] #[]/\q=q/\p+1=(y.val:Int)/\True)/\True)/\Lt (L.length-y.val) (L.length-x.val)))/\(decide (p<q)=false->(-1:Int)=P9 L.length (G0 L))) ⟨⟨F7,⟨Z7,rfl,rfl,Z9⟩,trivial⟩,λx=>⟨λhc=> ?_,λhc=> ?_⟩⟩
 ·have hlt:=X6 hc;refine⟨X8 hlt,(L,x.val),⟨⟨⟨rfl,Z9⟩,trivial⟩,trivial⟩,λhp=>(M6 hlt hp x.2.2).symm,λhp=>⟨U5 hlt (by omega),x.succ hlt hp,⟨⟨Z7,rfl,rfl,by simp only[V1.succ];omega,trivial⟩,trivial⟩,V1.ext_lt hlt⟩⟩
 ·have hge:=X4 hc;exact(J1 λj hj=>x.2.2 j (wM hj hge)).symm
def b3Y:Con:=.rel ⟨List Wt,λL=>[wtS L,fnT 246],λL=>.bool (anyI L.length (G0 L)),λL=>O6 L.length⟩
theorem b2b(L:List Wt)(h:
  ∃(x:(List Wt)),(((L.length=List.length x/\Z6 L.length (Y0 L) (Y0 x))/\Value.func (Fn.func 246) #[] #[]=Value.func (Fn.func 246) #[] #[]/\True)/\O6 (List.length x))/\decide (P9 (List.length x) (G0 x)≥
  (0:Int))=anyI L.length (G0 L)):
  U1 Tryz.prog 149 [wtS L,fnT 246] (.bool (anyI L.length (G0 L))):=
 Q5 (gC a89 gN) Tryz.func149 Y5 h
theorem a72:GK 149 b3Y:=gk Tryz.func149<|λ(L:List Wt) hL=>b2b L ⟨L,⟨⟨Z7,Z9⟩,hL⟩,A5 _ _⟩
def tS:Rl:=⟨Lks,λl=>[.agg l.ts],λl=>.bool (K0 l),b19⟩
def a3m:Con:=.rel tS
def a4y:Con:=.rel tS
def a43(l:Lks):Nat->Ann
 |0=>.one (V1 l.H.length (G7 l.H)) (λx=>⟨[(1,.ref 0 0 0),(6,jQ l.H),(7,.int .i64 l.H.length),(8,.int .i64 x.1)],[aH l]⟩) (λx=>l.H.length-x.1) [.box 0] [.box 0] (λ_=>Y5)
 |_=>.none
theorem a0T:GK 145 a3m:=gk Tryz.func145<|by
 rintro(l:Lks) ⟨hL,hw⟩;have hL:l.H.length<1000000000000:=hL;refine Q5 (gC a9N (gC a5e (gC a72 gN))) Tryz.func145 (a43 l) (α:=let w:=((l.W.length:Int)<=100);let v:=(Y8 Y7 l.H l.H);let z:=(1=1/\1=1/\v/\(Y8 Y0 l.W l.W)/\True);let q:=(l.H.length:Int);(∃(x:V1 l.H.length (G7 l.H)),((0=0/\0=0)/\v/\q=q/\0=(x.val:Int)/\True)/\z/\True)/\∀(x:V1 l.H.length (G7 l.H)),let r:=(x.val:Int);let p:=(l.H.getD r.toNat dz);(decide (r<q)=true->V3 r l.H.length/\∃(x_1:Lck),(((p.tx=x_1.tx/\p.ta=x_1.ta/\p.row=x_1.row/\p.mo=x_1.mo/\True)/\True)/\True)/\((!x9 x_1)=false->lL r l.H.length)/\∃(x_2:(List Lck×Nat×Lck)),let j:=x_2.2;let u:=(!x9 x_1||anyI j.1 (d5 x_2.1 j.2));((!x9 x_1)=false->((r.toNat=j.1/\Z6 r.toNat (Y7 l.H) (Y7 x_2.1))/\(Fn.func 244=Fn.func 244/\(p.tx=j.2.tx/\p.ta=j.2.ta/\p.row=j.2.row/\p.mo=j.2.mo/\True)/\True)/\True)/\O6 j.1)/\(u=true->false=K0 l)/\(u=false->W7 .i64 (r+1)/\∃(y:V1 l.H.length (G7 l.H)),(((0=0/\0=0)/\v/\q=q/\r+1=(y.val:Int)/\True)/\z/\True)/\Lt (l.H.length-y.val) (l.H.length-x.val)))/\(decide (r<q)=false->∃(x:(List Wt)),((decide (q<=60)&&decide w)=true->((l.W.length=List.length x/\Z6 l.W.length (Y0 l.W) (Y0 x))/\Value.func (Fn.func 246) #[] #[]=Value.func (Fn.func 246) #[] #[]/\True)/\O6 (List.length x))/\(decide (q<=60)&&decide w&& !anyI (List.length x) (G0 x))=K0 l)) ⟨⟨F7,⟨Z8,Z7,rfl,Z9⟩,⟨rfl,rfl,Z7,X5⟩,trivial⟩,λx=>⟨λhc=> ?_,λhc=> ?_⟩⟩
 ·have hlt:=X6 hc;refine⟨X8 hlt,l.H.getD x.val dz,⟨⟨⟨rfl,rfl,rfl,Z9⟩,trivial⟩,trivial⟩,λ_=>⟨by omega,by omega⟩,(l.H,x.val,l.H.getD x.val dz),λ_=>⟨⟨⟨by simp only;omega,Z2 _ _⟩,⟨rfl,⟨rfl,rfl,rfl,rfl,trivial⟩,trivial⟩,trivial⟩,by show x.val<1000000000000;omega⟩,λhb=> ?_,λhb=>⟨U5 hlt (by omega),x.succ hlt hb,⟨⟨Z8,Z7,rfl,by simp only[V1.succ];omega,trivial⟩,⟨rfl,rfl,⟨rfl,Z2 _ _⟩,⟨rfl,Z2 _ _⟩,trivial⟩,trivial⟩,V1.ext_lt hlt⟩⟩
  have:anyI l.H.length (G7 l.H)=true:=Q9.2 ⟨x.val,hlt,hb⟩;unfold K0;rw[this];rfl
 ·have hge:=X4 hc;have:anyI l.H.length (G7 l.H)=false:=Q8.2 λi hi=>x.2.2 i (wM hi hge)
  refine⟨l.W,λ_=>⟨⟨Z7,Z9⟩,hw⟩,?_⟩
  unfold K0;rw[this,Bool.not_false,Bool.true_and];congr 2<;>exact decide_eq_decide.2 (by omega)
def b7r(L:List Lck)(a:Lck)(k:Nat):Bool:=(a.ta==(L.getD k dz).ta)&&(a.row==(L.getD k dz).row)&&(uE a (L.getD k dz)||(a.tx !=(L.getD k dz).tx)&& !wG a.mo (L.getD k dz).mo)
def a4Z(l:Lks):Nat->Ann
 |0=>.one (V1 l.H.length (G7 l.H)) (λx=>⟨[(1,.ref 0 0 0),(3,.int .i64 x.1)],[aH l]⟩) (λx=>l.H.length-x.1) [.box 0] [.box 0] (λx=>fun
  |1=>.one (V1 x.1 (d5 l.H (l.H.getD x.1 dz))) (λy=>⟨[(1,.ref 0 0 0),(3,.int .i64 x.1),(4,.ref 1 0 0),(5,.int .i64 y.1)],[aH l,some (.arr true 1000000 4 1 λ_=>(l.H.getD x.1 dz).ts)]⟩) (λy=>x.1-y.1) [.box 0,.box 1] [.box 0,.box 1] (λ_=>Y5)
  |2=>.one (V1 l.W.length (G0 l.W)) (λy=>⟨[(1,.ref 0 0 0),(7,.int .i64 y.1)],[aH l]⟩) (λy=>l.W.length-y.1) [.box 0] [.box 0] (λ_=>Y5)
  |_=>.none)
 |_=>.none
theorem b0R(L:List Lck)(a:Lck)(k:Nat):b7r L a k=d5 L a k:=by
 unfold b7r d5 clash uE qQ;generalize (a.ta==(L.getD k dz).ta)=p;generalize (a.row==(L.getD k dz).row)=q;generalize (a.mo==(L.getD k dz).mo)=r;generalize wG a.mo (L.getD k dz).mo=t;rw[show(a.tx !=(L.getD k dz).tx)= !(a.tx==(L.getD k dz).tx) from rfl]
 generalize (a.tx==(L.getD k dz).tx)=u;cases p<;>cases q<;>cases r<;>cases t<;>cases u<;>rfl
theorem a3f:GK 98 a4y:=gk Tryz.func98<|by
 rintro(l:Lks) ⟨hL,hw⟩;have hL:l.H.length<1000000000000:=hL;have hw:l.W.length<1000000000000:=hw;have bh:∀i,i<l.H.length->G7 l.H i=true->false=K0 l:=λi hi hb=>by
  have:anyI l.H.length (G7 l.H)=true:=Q9.2 ⟨i,hi,hb⟩;unfold K0;rw[this];rfl
 refine Q5 (gC a7K (gC fK (gC E3 gN))) Tryz.func98 (a4Z l) (α:=let b:=(l.W.length:Int);let a:=(l.H.length:Int);let m:=(0=0/\0=0);let k:=(decide (a>60)||decide (b>100));let r:=(1=1/\1=1/\(Y8 Y7 l.H l.H)/\(Y8 Y0 l.W l.W)/\True);(k=true->false=K0 l)/\(k=false->(∃(x:V1 l.H.length (G7 l.H)),(m/\0=(x.val:Int)/\True)/\r/\True)/\∀(x:V1 l.H.length (G7 l.H)),let w:=(x.val:Int);let z:=(l.H.getD w.toNat dz);let q:=(l.H.getD x.val dz);(decide (w<a)=true->V3 w l.H.length/\∃(x_1:Lck),((z.tx=x_1.tx/\z.ta=x_1.ta/\z.row=x_1.row/\z.mo=x_1.mo/\True)/\True)/\((!x9 x_1)=true->false=K0 l)/\((!x9 x_1)=false->(∃(x_2:V1 x.val (d5 l.H (l.H.getD x.val dz))),(m/\w=w/\m/\0=(x_2.val:Int)/\True)/\r/\(1=1/\1=1/\z.tx=q.tx/\z.ta=q.ta/\z.row=q.row/\z.mo=q.mo/\True)/\True)/\∀(x_2:V1 x.val (d5 l.H (l.H.getD x.val dz))),let n:=(x_2.val:Int);let p:=(l.H.getD n.toNat dz);let f:=(q.ta==p.ta&&(q.row==p.row&&(q.mo==p.mo&&true)));(decide (n<w)=true->V3 n l.H.length/\∃(x_3:(Int×Int)),let v:=(q.ta==p.ta&&q.row==p.row&&(q.tx==p.tx&&f||q.tx !=p.tx&& !wG x_3.1 x_3.2));((q.ta==p.ta&&q.row==p.row)=true->(q.tx==p.tx&&f)=false->(q.tx !=p.tx)=true->(q.mo=x_3.1/\p.mo=x_3.2/\True)/\True)/\(v=true->false=K0 l)/\(v=false->W7 .i64 (n+1)/\∃(y:V1 x.val (d5 l.H (l.H.getD x.val dz))),((m/\w=w/\m/\n+1=(y.val:Int)/\True)/\r/\(1=1/\1=1/\q.tx=q.tx/\q.ta=q.ta/\q.row=q.row/\q.mo=q.mo/\True)/\True)/\Lt (x.val-y.val) (x.val-x_2.val)))/\(decide (n<w)=false->W7 .i64 (w+1)/\∃(y:V1 l.H.length (G7 l.H)),((m/\w+1=(y.val:Int)/\True)/\r/\True)/\Lt (l.H.length-y.val) (l.H.length-x.val))))/\(decide (w<a)=false->(∃(x:V1 l.W.length (G0 l.W)),(m/\0=(x.val:Int)/\True)/\r/\True)/\∀(x:V1 l.W.length (G0 l.W)),let g:=(x.val:Int);let u:=(l.W.getD g.toNat dz);let j:=(!V9 u.tx (1:Int) (60:Int)|| !V9 u.fo (1:Int) (60:Int)||u.tx==u.fo);(decide (g<b)=true->V3 g l.W.length/\(j=true->false=K0 l)/\(j=false->W7 .i64 (g+1)/\∃(y:V1 l.W.length (G0 l.W)),((m/\g+1=(y.val:Int)/\True)/\r/\True)/\Lt (l.W.length-y.val) (l.W.length-x.val)))/\(decide (g<b)=false->true=K0 l)))) ⟨λh=> ?_,λh=>⟨⟨F7,⟨Z8,Z9⟩,⟨rfl,rfl,Z7,X5⟩,trivial⟩,λx=>⟨λhc=> ?_,λhc=>⟨⟨F7,⟨Z8,Z9⟩,⟨rfl,rfl,Z7,X5⟩,trivial⟩,λy=>⟨λhy=> ?_,λhy=> ?_⟩⟩⟩⟩⟩
 ·simp only[pP,k4] at h;unfold K0;rcases h with h|h
  ·rw[uV (p:=l.H.length<=60) (by omega)]
   simp
  ·rw[uV (p:=l.W.length<=100) (by omega)]
   simp
 ·have hlt:=X6 hc;refine⟨X8 hlt,l.H.getD x.val dz,⟨⟨rfl,rfl,rfl,Z9⟩,trivial⟩,λhb=>bh _ hlt (by unfold G7;rw[hb];rfl),λhb=>⟨⟨F7,⟨Z8,rfl,Z8,Z9⟩,⟨rfl,rfl,Z7,X5⟩,⟨rfl,rfl,rfl,rfl,rfl,Z9⟩,trivial⟩,λy=>⟨λhy=> ?_,λhy=> ?_⟩⟩⟩
  ·have hyt:=X6 hy;refine⟨X8 (by omega),((l.H.getD x.val dz).mo,(l.H.getD y.val dz).mo),λ_ _ _=>⟨⟨rfl,Z9⟩,trivial⟩,λhq=> ?_,λhq=>⟨U5 hyt (by omega),y.succ hyt ((b0R _ _ _).symm.trans hq),⟨⟨Z8,rfl,Z8,by simp only[V1.succ];omega,trivial⟩,⟨rfl,rfl,⟨rfl,Z2 _ _⟩,⟨rfl,Z2 _ _⟩,trivial⟩,⟨rfl,rfl,rfl,rfl,rfl,rfl,trivial⟩,trivial⟩,V1.ext_lt hyt⟩⟩
   refine bh _ hlt ?_
   unfold G7;have:anyI x.val (d5 l.H (l.H.getD x.val dz))=true:=Q9.2 ⟨y.val,hyt,(b0R _ _ _).symm.trans hq⟩;rw[this,Bool.or_true]
  ·have hge:=X4 hy;have:anyI x.val (d5 l.H (l.H.getD x.val dz))=false:=Q8.2 λi hi=>y.2.2 i (wM hi hge)
   exact⟨U5 hlt (by omega),x.succ hlt (by unfold G7;rw[hb,this];rfl),⟨⟨⟨rfl,rfl⟩,by simp only[V1.succ];omega,trivial⟩,⟨rfl,rfl,⟨rfl,Z2 _ _⟩,⟨rfl,Z2 _ _⟩,trivial⟩,trivial⟩,V1.ext_lt hlt⟩
 ·have hlt:=X6 hy;refine⟨X8 hlt,λhq=> ?_,λhq=>⟨U5 hlt (by omega),y.succ hlt hq,⟨⟨Z8,by simp only[V1.succ];omega,trivial⟩,⟨rfl,rfl,⟨rfl,Z2 _ _⟩,⟨rfl,Z2 _ _⟩,trivial⟩,trivial⟩,V1.ext_lt hlt⟩⟩
  have:anyI l.W.length (G0 l.W)=true:=Q9.2 ⟨y.val,hlt,hq⟩;unfold K0;rw[this];simp
 ·have g1:=X4 hc;have g2:=X4 hy;have e1:anyI l.H.length (G7 l.H)=false:=Q8.2 λi hi=>x.2.2 i (wM hi g1)
  have e2:anyI l.W.length (G0 l.W)=false:=Q8.2 λi hi=>y.2.2 i (wM hi g2)
  simp only[yP,rX] at h;unfold K0;rw[e1,e2,pO (p:=l.H.length<=60) (by omega),pO (p:=l.W.length<=100) (by omega)]
  rfl
end Go.Proofs.YtghgljelnhfihaaGreat

