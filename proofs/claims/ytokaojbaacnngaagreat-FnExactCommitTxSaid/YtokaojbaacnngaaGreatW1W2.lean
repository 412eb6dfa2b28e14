/- A part of the proof. -/
import Derived.Test.YtokaojbaacnngaaGreatE7E8
namespace Go.Proofs.YtokaojbaacnngaaGreat
open Go.SS

structure Val where
 k:Int
 n:Int
 t:List UInt8
 deriving Inhabited
def Val.ts(v:Val):List T:=[.int .i64 v.k,.int .i64 v.n,.str v.t]
structure Rw where
 id:Int
 n:Val
 name:Val
 deriving Inhabited
def Rw.ts(r:Rw):List T:=[.int .i64 r.id,.int .i64 r.n.k,.int .i64 r.n.n,.str r.n.t,.int .i64 r.name.k,.int .i64 r.name.n,.str r.name.t]
structure Chg where
 se:Int
 ta:Int
 row:Rw
 gone:Bool
 deriving Inhabited
def Chg.ts(c:Chg):List T:=[.int .i64 c.se,.int .i64 c.ta,.int .i64 c.row.id,.int .i64 c.row.n.k,.int .i64 c.row.n.n,.str c.row.n.t,.int .i64 c.row.name.k,.int .i64 c.row.name.n,.str c.row.name.t,.bool c.gone]
end Go.Proofs.YtokaojbaacnngaaGreat

namespace Go.Proofs.YtokaojbaacnngaaGreat
set_option maxRecDepth 100000
open Go.SS

structure Lck where
 tx:Int
 ta:Int
 row:Int
 mo:Int
 deriving Inhabited
def Lck.ts(l:Lck):List T:=[.int .i64 l.tx,.int .i64 l.ta,.int .i64 l.row,.int .i64 l.mo]
structure Wt where
 tx:Int
 fo:Int
 deriving Inhabited
def Wt.ts(w:Wt):List T:=[.int .i64 w.tx,.int .i64 w.fo]
def Y9(L:List Lck)(i:Nat):List T:=(L.getD i default).ts
def D4(L:List Lck):T:=.sl 4 L.length (Y9 L)
def Y1(L:List Wt)(i:Nat):List T:=(L.getD i default).ts
def wtS(L:List Wt):T:=.sl 2 L.length (Y1 L)
structure Lks where
 held:List Lck
 waits:List Wt
 deriving Inhabited
def Lks.ts(l:Lks):List T:=[D4 l.held,wtS l.waits]
def a7w(l:Lks):Option Ob:=some (.arr true 1000000 2 1 fun _=>l.ts)
def a2B(a b:Int):Bool:=(a !=4)&&(b !=4)&&((a==1)||(b==1)||(a==b))
def a3n(a b:Lck):Bool:=(a.tx==b.tx)&&((a.ta==b.ta)&&((a.row==b.row)&&((a.mo==b.mo)&&true)))
def a4T(a b:Lck):Bool:=(a.ta==b.ta)&&(a.row==b.row)
def clash(a b:Lck):Bool:=(a.tx !=b.tx)&&a4T a b&& !a2B a.mo b.mo
def m4(l:Lck):Bool:=W9 l.tx 1 60&&W9 l.ta 1 3&&W9 l.row (-1) 1000&&W9 l.mo 1 4&&(decide (l.row<0)||decide (l.mo≥3))
def t6(L:List Lck)(a:Lck)(k:Nat):Bool:=a3n a (L.getD k default)||clash a (L.getD k default)
def G9(L:List Lck)(i:Nat):Bool:= !m4 (L.getD i default)||anyI i (t6 L (L.getD i default))
def J7(L:List Wt)(i:Nat):Bool:= !W9 (L.getD i default).tx 1 60|| !W9 (L.getD i default).fo 1 60||((L.getD i default).tx==(L.getD i default).fo)
def L8(l:Lks):Bool:= !anyI l.held.length (G9 l.held)&&(decide (l.held.length<=60)&&decide (l.waits.length<=100)&& !anyI l.waits.length (J7 l.waits))
def c8b(l:Lks):Prop:=N8 l.held.length/\N8 l.waits.length

def c7D:Con:=.rel ⟨Int,fun n=>[.int .i64 n],fun n=>.bool (W9 n 1 4),fun _=>True⟩
noncomputable def c4i:Code:=Tryz.f263.body.getD .skip
theorem a96:Z8 Tryz.prog 263:=⟨_,Tryz.func263,by kernel_rfl,by kernel_rfl⟩
theorem c5u(n:Int)(h:
  W9 n (1:Int) (4:Int)=W9 n (1:Int) (4:Int)):
  Z1 Tryz.prog 263 [.int .i64 n] (.bool (W9 n 1 4)):=
 T7 (code:=c4i) (gC P4 S0 gN) Tryz.func263 (by kernel_rfl) (by kernel_rfl) Z0 h (by kernel_rfl)
theorem c2o:Z2 Tryz.prog 263 c7D:=fun n _=>c5u n rfl
def d4G:Con:=.rel ⟨Int,fun n=>[.int .i64 n],fun n=>.bool (W9 n 1 60),fun _=>True⟩
noncomputable def d5i:Code:=Tryz.f221.body.getD .skip
theorem a60:Z8 Tryz.prog 221:=⟨_,Tryz.func221,by kernel_rfl,by kernel_rfl⟩
theorem d5X(n:Int)(h:
  W9 n (1:Int) (60:Int)=W9 n (1:Int) (60:Int)):
  Z1 Tryz.prog 221 [.int .i64 n] (.bool (W9 n 1 60)):=
 T7 (code:=d5i) (gC P4 S0 gN) Tryz.func221 (by kernel_rfl) (by kernel_rfl) Z0 h (by kernel_rfl)
theorem b7T:Z2 Tryz.prog 221 d4G:=fun n _=>d5X n rfl
def c87:Con:=.rel ⟨Lck,fun l=>[.agg l.ts],fun l=>.bool (m4 l),fun _=>True⟩
noncomputable def c7O:Code:=Tryz.f217.body.getD .skip
theorem b20:Z8 Tryz.prog 217:=⟨_,Tryz.func217,by kernel_rfl,by kernel_rfl⟩
theorem c3U(l:Lck)(h:
  ∃(x:Int),((l.tx=x/\True)/\True)/\∃(x_1:Int),((W9 x (1:Int) (60:Int)&&W9 l.ta (1:Int) (3:Int)&&W9 l.row (-1:Int) (1000:Int))=true->(l.mo=x_1/\True)/\True)/\(W9 x (1:Int) (60:Int)&&W9
  l.ta (1:Int) (3:Int)&&W9 l.row (-1:Int) (1000:Int)&&W9 x_1 (1:Int) (4:Int)&&(decide (l.row<(0:Int))||decide (l.mo≥(3:Int))))=m4 l):
  Z1 Tryz.prog 217 [.agg l.ts] (.bool (m4 l)):=
 T7 (code:=c7O) (gC b7T a60 (gC P4 S0 (gC c2o a96 gN))) Tryz.func217 (by kernel_rfl) (by kernel_rfl) Z0 h (by kernel_rfl)
theorem c3e:Z2 Tryz.prog 217 c87:=fun l _=>c3U l ⟨l.tx,⟨⟨rfl,trivial⟩,trivial⟩,l.mo,fun _=>⟨⟨rfl,trivial⟩,trivial⟩,rfl⟩
def c4Y:Con:=.rel ⟨Lck,fun l=>l.ts,fun l=>.bool (m4 l),fun _=>True⟩
noncomputable def c77:Code:=Tryz.f141.body.getD .skip
theorem b2n:Z8 Tryz.prog 141:=⟨_,Tryz.func141,by kernel_rfl,by kernel_rfl⟩
theorem c64(l:Lck)(h:
  (W9 l.tx (1:Int) (60:Int)&&W9 l.ta (1:Int) (3:Int)&&W9 l.row (-1:Int) (1000:Int)&&W9 l.mo (1:Int) (4:Int)&&(l.row==(-1:Int)||decide (l.mo≥(3:Int))))=m4 l):
  Z1 Tryz.prog 141 l.ts (.bool (m4 l)):=
 T7 (code:=c77) (gC A7 I3 gN) Tryz.func141 (by kernel_rfl) (by kernel_rfl) Z0 h (by kernel_rfl)
theorem b9F:Z2 Tryz.prog 141 c4Y:=by
 intro(l:Lck) _;refine c64 l ?_
 unfold m4;cases h:W9 l.row (-1) 1000
 ·simp
 ·have h':=h;unfold W9 at h';simp only[Bool.and_eq_true,decide_eq_true_eq] at h';rw[show(l.row== -1)=decide (l.row<0) by rw[Bool.eq_iff_iff,beq_iff_eq,decide_eq_true_eq];omega]
def a41:Con:=.rel ⟨Int×Int,fun x=>[.int .i64 x.1,.int .i64 x.2],fun x=>.bool (a2B x.1 x.2),fun _=>True⟩
def c5O:Con:=a41
noncomputable def b60:Code:=Tryz.f265.body.getD .skip
theorem a6d:Z8 Tryz.prog 265:=⟨_,Tryz.func265,by kernel_rfl,by kernel_rfl⟩
theorem b7d(a b:Int)(h:
  (a !=(4:Int)&&b !=(4:Int)&&(a==(1:Int)||b==(1:Int)||a==b))=a2B a b):
  Z1 Tryz.prog 265 [.int .i64 a,.int .i64 b] (.bool (a2B a b)):=
 T7 (code:=b60) gN Tryz.func265 (by kernel_rfl) (by kernel_rfl) Z0 h (by kernel_rfl)
theorem b2S:Z2 Tryz.prog 265 a41:=fun x _=>b7d x.1 x.2 rfl
noncomputable def c6w:Code:=Tryz.f142.body.getD .skip
theorem b2B:Z8 Tryz.prog 142:=⟨_,Tryz.func142,by kernel_rfl,by kernel_rfl⟩
theorem c4b(a b:Int)(h:
  ((a==(4:Int)||b==(4:Int))=true->false=a2B a b)/\((a==(4:Int)||b==(4:Int))=false->((a==(1:Int)||b==(1:Int))=true->true=a2B a b)/\((a==(1:Int)||b==(1:Int))=false->(a==b)
  =a2B a b))):
  Z1 Tryz.prog 142 [.int .i64 a,.int .i64 b] (.bool (a2B a b)):=
 T7 (code:=c6w) gN Tryz.func142 (by kernel_rfl) (by kernel_rfl) Z0 h (by kernel_rfl)
theorem b9u:Z2 Tryz.prog 142 c5O:=by
 rintro⟨a,b⟩ _;refine c4b a b ⟨fun h=> ?_,fun h=>⟨fun g=> ?_,fun g=> ?_⟩⟩<;>unfold a2B<;>simp at*
 ·intro h1 h2;rcases h with h|h<;>omega
 ·exact⟨h,by rcases g with g|g<;>simp[g]⟩
 ·rw[show(a !=4)=true by simpa using h.1,show(b !=4)=true by simpa using h.2,show(a==1)=false by simpa using g.1,show(b==1)=false by simpa using g.2]
  rfl
def a7t:Con:=.rel ⟨Lck×Lck,fun x=>[.agg x.1.ts,.agg x.2.ts],fun x=>.bool (a4T x.1 x.2),fun _=>True⟩
noncomputable def a8W:Code:=Tryz.f264.body.getD .skip
theorem a3y:Z8 Tryz.prog 264:=⟨_,Tryz.func264,by kernel_rfl,by kernel_rfl⟩
theorem a8J(a b:Lck)(h:
  (a.ta==b.ta&&a.row==b.row)=a4T a b):
  Z1 Tryz.prog 264 [.agg a.ts,.agg b.ts] (.bool (a4T a b)):=
 T7 (code:=a8W) gN Tryz.func264 (by kernel_rfl) (by kernel_rfl) Z0 h (by kernel_rfl)
theorem a6c:Z2 Tryz.prog 264 a7t:=fun x _=>a8J x.1 x.2 rfl
def c1X:Con:=.rel ⟨Lck×Lck,fun x=>[.agg x.1.ts,.agg x.2.ts],fun x=>.bool (clash x.1 x.2),fun _=>True⟩
noncomputable def c0d:Code:=Tryz.f219.body.getD .skip
theorem a7M:Z8 Tryz.prog 219:=⟨_,Tryz.func219,by kernel_rfl,by kernel_rfl⟩
theorem b8V(a b:Lck)(h:
  ∃(x:(Lck×Lck)),((a.tx !=b.tx)=true->((a.tx=x.fst.tx/\a.ta=x.fst.ta/\a.row=x.fst.row/\a.mo=x.fst.mo/\True)/\(b.tx=x.snd.tx/\b.ta=x.snd.ta/\b.row=x.snd.row/\b.mo=x.snd.mo/\True)/\True)/\True)/\∃
  (x_1:(Int×Int)),((a.tx !=b.tx&&a4T x.fst x.snd)=true->(a.mo=x_1.fst/\b.mo=x_1.snd/\True)/\True)/\(a.tx !=b.tx&&a4T x.fst x.snd&& !a2B x_1.fst x_1.snd)=clash a b):
  Z1 Tryz.prog 219 [.agg a.ts,.agg b.ts] (.bool (clash a b)):=
 T7 (code:=c0d) (gC a6c a3y (gC b2S a6d gN)) Tryz.func219 (by kernel_rfl) (by kernel_rfl) Z0 h (by kernel_rfl)
theorem b5k:Z2 Tryz.prog 219 c1X:=fun x _=>b8V x.1 x.2 ⟨(x.1,x.2),fun _=>⟨⟨⟨rfl,rfl,rfl,rfl,trivial⟩,⟨rfl,rfl,rfl,rfl,trivial⟩,trivial⟩,trivial⟩,(x.1.mo,x.2.mo),fun _=>⟨⟨rfl,rfl,trivial⟩,trivial⟩,rfl⟩
def b7i:Con:=.rel ⟨Lck×Lck,fun x=>[.agg x.2.ts,.bref x.1.ts],fun x=>.bool (a3n x.1 x.2||clash x.1 x.2),fun _=>True⟩
noncomputable def b4s:Code:=Tryz.f218.body.getD .skip
theorem a5K:Z8 Tryz.prog 218:=⟨_,Tryz.func218,by kernel_rfl,by kernel_rfl⟩
theorem b3R(a b:Lck)(h:
  ∃(x:(Lck×Lck)),((a.tx==b.tx&&(a.ta==b.ta&&(a.row==b.row&&(a.mo==b.mo&&true))))=false->((a.tx=x.fst.tx/\a.ta=x.fst.ta/\a.row=x.fst.row/\a.mo=x.fst.mo/\True)/\(b.tx=x.snd.tx/\b.ta=x.snd.ta
  /\b.row=x.snd.row/\b.mo=x.snd.mo/\True)/\True)/\True)/\(a.tx==b.tx&&(a.ta==b.ta&&(a.row==b.row&&(a.mo==b.mo&&true)))||clash x.fst x.snd)=(a3n a b||clash a b)):
  Z1 Tryz.prog 218 [.agg b.ts,.bref a.ts] (.bool (a3n a b||clash a b)):=
 T7 (code:=b4s) (gC b5k a7M gN) Tryz.func218 (by kernel_rfl) (by kernel_rfl) Z0 h (by kernel_rfl)
theorem a9Y:Z2 Tryz.prog 218 b7i:=fun x _=>b3R x.1 x.2 ⟨(x.1,x.2),fun _=>⟨⟨⟨rfl,rfl,rfl,rfl,trivial⟩,⟨rfl,rfl,rfl,rfl,trivial⟩,trivial⟩,trivial⟩,rfl⟩
def c6i(a:Lck):T:=.fn (.func 218) [.bref a.ts]
def b8Q:Con:=.rel ⟨List Lck×Nat×Lck,fun x=>[.sl 4 x.2.1 (Y9 x.1),c6i x.2.2],fun x=>.int .i64 (T4 x.2.1 (t6 x.1 x.2.2)),fun x=>N8 x.2.1⟩
def b9N(L:List Lck)(n:Nat)(a:Lck):Nat->Ann
 |0=>.one (W5 n (t6 L a)) (fun x=>⟨[(0,.sl 4 n (Y9 L)),(1,c6i a),(7,.int .i64 n),(8,.int .i64 x.1)],[]⟩) (fun x=>n-x.1) [] [] (fun _=>Z0)
 |_=>.none
noncomputable def c0n:Code:=Tryz.f223.body.getD .skip
theorem a8O:Z8 Tryz.prog 223:=⟨_,Tryz.func223,by kernel_rfl,by kernel_rfl⟩
theorem b84(L:List Lck)(n:Nat)(a:Lck)(h:
  (∃(x:W5 n (t6 L a)),((n=n/\Z7 n (Y9 L) (Y9 L))/\(Fn.func 218=Fn.func 218/\O3 (fun(x:Nat)=>none) (T.bref [T.int .i64 a.tx,T.int .i64 a.ta,T.int .i64 a.row,T.int .i64 a.mo]) (T.bref [T.int .i64
  a.tx,T.int .i64 a.ta,T.int .i64 a.row,T.int .i64 a.mo])/\True)/\(n:Int)=(n:Int)/\(0:Int)=(x.val:Int)/\True)/\True)/\∀(x:W5 n (t6 L a)),(decide ((x.val:Int)<(n:Int))=true->W7 (x.val:Int) n/\∃(x_1:
  (Lck×Lck)),((((L.getD (x.val:Int).toNat default).tx=x_1.snd.tx/\(L.getD (x.val:Int).toNat default).ta=x_1.snd.ta/\(L.getD (x.val:Int).toNat default).row=x_1.snd.row/\(L.getD (x.val:Int).toNat default).mo=x_1.snd.mo/\
  True)/\(a.tx=x_1.fst.tx/\a.ta=x_1.fst.ta/\a.row=x_1.fst.row/\a.mo=x_1.fst.mo/\True)/\True)/\True)/\((a3n x_1.fst x_1.snd||clash x_1.fst x_1.snd)=true->(x.val:Int)=T4 n (t6 L a))/\((a3n x_1.fst
  x_1.snd||clash x_1.fst x_1.snd)=false->X6 .i64 ((x.val:Int)+(1:Int))/\∃(y:W5 n (t6 L a)),(((n=n/\Z7 n (Y9 L) (Y9 L))/\(Fn.func 218=Fn.func 218/\O3 (fun(x:Nat)=>none) (T.bref [T.int .i64
  a.tx,T.int .i64 a.ta,T.int .i64 a.row,T.int .i64 a.mo]) (T.bref [T.int .i64 a.tx,T.int .i64 a.ta,T.int .i64 a.row,T.int .i64 a.mo])/\True)/\(n:Int)=(n:Int)/\(x.val:Int)+(1:Int)=(y.val:Int)/\True)/\True)/\Lt (n
  -y.val) (n-x.val)))/\(decide ((x.val:Int)<(n:Int))=false->(-1:Int)=T4 n (t6 L a))):
  Z1 Tryz.prog 223 [.sl 4 n (Y9 L),c6i a] (.int .i64 (T4 n (t6 L a))):=
 T7 (code:=c0n) (gC a9Y a5K gN) Tryz.func223 (by kernel_rfl) (by kernel_rfl) (b9N L n a) h (by kernel_rfl)
theorem b4g:Z2 Tryz.prog 223 b8Q:=by
 rintro⟨L,n,a⟩ (hL:n<1000000000000);refine b84 L n a ⟨⟨I5,⟨⟨rfl,Z9 _ _⟩,⟨rfl,T6 _,trivial⟩,rfl,rfl,trivial⟩,trivial⟩,fun x=>⟨fun hc=> ?_,fun hc=> ?_⟩⟩
 ·have hlt:=Y6 hc;refine⟨Y8 hlt,(a,L.getD x.val default),⟨⟨⟨rfl,rfl,rfl,rfl,trivial⟩,⟨rfl,rfl,rfl,rfl,trivial⟩,trivial⟩,trivial⟩,fun hp=>(N9 hlt hp x.2.2).symm,fun hp=>⟨W8 hlt (by omega),x.succ hlt hp,⟨⟨⟨rfl,Z9 _ _⟩,⟨rfl,T6 _,trivial⟩,rfl,by simp only[W5.succ];omega,trivial⟩,trivial⟩,W5.ext_lt hlt⟩⟩
 ·have hge:=Y2 hc;exact(M1 fun j hj=>x.2.2 j (Nat.lt_of_lt_of_le hj hge)).symm
def b93:Con:=.rel ⟨List Lck×Nat×Lck,fun x=>[.sl 4 x.2.1 (Y9 x.1),c6i x.2.2],fun x=>.bool (anyI x.2.1 (t6 x.1 x.2.2)),fun x=>N8 x.2.1⟩
noncomputable def c1Y:Code:=Tryz.f158.body.getD .skip
theorem a9f:Z8 Tryz.prog 158:=⟨_,Tryz.func158,by kernel_rfl,by kernel_rfl⟩
theorem c3b(L:List Lck)(n:Nat)(a:Lck)(h:
  ∃(x:(List Lck×Nat×Lck)),(((n=x.snd.fst/\Z7 n (Y9 L) (Y9 x.fst))/\(Fn.func 218=Fn.func 218/\(a.tx=x.snd.snd.tx/\a.ta=x.snd.snd.ta/\a.row=x.snd.snd.row/\a.mo=x.snd.snd.mo/\True)/\True)/\True)
  /\N8 x.snd.fst)/\decide (T4 x.snd.fst (t6 x.fst x.snd.snd)≥(0:Int))=anyI n (t6 L a)):
  Z1 Tryz.prog 158 [.sl 4 n (Y9 L),c6i a] (.bool (anyI n (t6 L a))):=
 T7 (code:=c1Y) (gC b4g a8O gN) Tryz.func158 (by kernel_rfl) (by kernel_rfl) Z0 h (by kernel_rfl)
theorem b28:Z2 Tryz.prog 158 b93:=fun x hL=>c3b x.1 x.2.1 x.2.2 ⟨x,⟨⟨⟨rfl,Z9 _ _⟩,⟨rfl,⟨rfl,rfl,rfl,rfl,trivial⟩,trivial⟩,trivial⟩,hL⟩,A3 _ _⟩
def b6G:Con:=.rel ⟨List Wt×Nat,fun x=>[.agg (x.1.getD x.2 default).ts],fun x=>.bool (J7 x.1 x.2),fun _=>True⟩
noncomputable def b4d:Code:=Tryz.f220.body.getD .skip
theorem a5A:Z8 Tryz.prog 220:=⟨_,Tryz.func220,by kernel_rfl,by kernel_rfl⟩
theorem b7m(L:List Wt)(i:Nat)(h:
  ∃(x:Int),(((L.getD i default).tx=x/\True)/\True)/\∃(x_1:Int),((!W9 x (1:Int) (60:Int))=false->((L.getD i default).fo=x_1/\True)/\True)/\(!W9 x (1:Int) (60:Int)|| !W9 x_1 (1:Int) (60:Int)||
  (L.getD i default).tx==(L.getD i default).fo)=J7 L i):
  Z1 Tryz.prog 220 [.agg (L.getD i default).ts] (.bool (J7 L i)):=
 T7 (code:=b4d) (gC b7T a60 gN) Tryz.func220 (by kernel_rfl) (by kernel_rfl) Z0 h (by kernel_rfl)
theorem b2j:Z2 Tryz.prog 220 b6G:=fun x _=>b7m x.1 x.2 ⟨_,⟨⟨rfl,trivial⟩,trivial⟩,_,fun _=>⟨⟨rfl,trivial⟩,trivial⟩,rfl⟩
def c84:Con:=.rel ⟨List Wt,fun L=>[wtS L,fnT 220],fun L=>.int .i64 (T4 L.length (J7 L)),fun L=>N8 L.length⟩
def c5K(L:List Wt):Nat->Ann
 |0=>.one (W5 L.length (J7 L)) (fun x=>⟨[(0,wtS L),(1,fnT 220),(7,.int .i64 L.length),(8,.int .i64 x.1)],[]⟩) (fun x=>L.length-x.1) [] [] (fun _=>Z0)
 |_=>.none
noncomputable def c4c:Code:=Tryz.f224.body.getD .skip
theorem b2H:Z8 Tryz.prog 224:=⟨_,Tryz.func224,by kernel_rfl,by kernel_rfl⟩
theorem c4Z(L:List Wt)(h:
  (∃(x:W5 L.length (J7 L)),((Y3 Y1 L L)/\Value.func (Fn.func 220) #[] #[]=Value.func (Fn.func 220) #[] #[]/\(L.length:Int)=(L.length:Int)/\(0:Int)=(x.val:Int)/\True)/\True)/\∀(x:W5 L.length (J7 L)),
  (decide ((x.val:Int)<(L.length:Int))=true->W7 (x.val:Int) L.length/\∃(x_1:(List Wt×Nat)),((((L.getD (x.val:Int).toNat default).tx=(x_1.fst.getD x_1.snd default).tx/\(L.getD (x.val:Int).toNat default).fo=
  (x_1.fst.getD x_1.snd default).fo/\True)/\True)/\True)/\(J7 x_1.fst x_1.snd=true->(x.val:Int)=T4 L.length (J7 L))/\(J7 x_1.fst x_1.snd=false->X6 .i64 ((x.val:Int)+(1:Int))/\∃(y:W5 L.length (J7
  L)),(((Y3 Y1 L L)/\Value.func (Fn.func 220) #[] #[]=Value.func (Fn.func 220) #[] #[]/\(L.length:Int)=(L.length:Int)/\(x.val:Int)+(1:Int)=(y.val:Int)/\True)/\True)/\Lt (L.length-y.val) (L.length-x.val)))/\
  (decide ((x.val:Int)<(L.length:Int))=false->(-1:Int)=T4 L.length (J7 L))):
  Z1 Tryz.prog 224 [wtS L,fnT 220] (.int .i64 (T4 L.length (J7 L))):=
 T7 (code:=c4c) (gC b2j a5A gN) Tryz.func224 (by kernel_rfl) (by kernel_rfl) (c5K L) h (by kernel_rfl)
theorem c17:Z2 Tryz.prog 224 c84:=by
 intro(L:List Wt) (hL:L.length<1000000000000);refine c4Z L ⟨⟨I5,⟨⟨rfl,Z9 _ _⟩,rfl,rfl,rfl,trivial⟩,trivial⟩,fun x=>⟨fun hc=> ?_,fun hc=> ?_⟩⟩
 ·have hlt:=Y6 hc;refine⟨Y8 hlt,(L,x.val),⟨⟨⟨rfl,rfl,trivial⟩,trivial⟩,trivial⟩,fun hp=>(N9 hlt hp x.2.2).symm,fun hp=>⟨W8 hlt (by omega),x.succ hlt hp,⟨⟨⟨rfl,Z9 _ _⟩,rfl,rfl,by simp only[W5.succ];omega,trivial⟩,trivial⟩,W5.ext_lt hlt⟩⟩
 ·have hge:=Y2 hc;exact(M1 fun j hj=>x.2.2 j (Nat.lt_of_lt_of_le hj hge)).symm
def c7P:Con:=.rel ⟨List Wt,fun L=>[wtS L,fnT 220],fun L=>.bool (anyI L.length (J7 L)),fun L=>N8 L.length⟩
noncomputable def c5U:Code:=Tryz.f160.body.getD .skip
theorem b1W:Z8 Tryz.prog 160:=⟨_,Tryz.func160,by kernel_rfl,by kernel_rfl⟩
theorem c8V(L:List Wt)(h:
  ∃(x:(List Wt)),(((L.length=List.length x/\Z7 L.length (Y1 L) (Y1 x))/\Value.func (Fn.func 220) #[] #[]=Value.func (Fn.func 220) #[] #[]/\True)/\N8 (List.length x))/\decide (T4 (List.length x) (J7 x)≥
  (0:Int))=anyI L.length (J7 L)):
  Z1 Tryz.prog 160 [wtS L,fnT 220] (.bool (anyI L.length (J7 L))):=
 T7 (code:=c5U) (gC c17 b2H gN) Tryz.func160 (by kernel_rfl) (by kernel_rfl) Z0 h (by kernel_rfl)
theorem c3A:Z2 Tryz.prog 160 c7P:=fun(L:List Wt) hL=>c8V L ⟨L,⟨⟨⟨rfl,Z9 _ _⟩,rfl,trivial⟩,hL⟩,A3 _ _⟩
def a1j:Rl:=⟨Lks,fun l=>[.agg l.ts],fun l=>.bool (L8 l),c8b⟩
def b43:Con:=.rel a1j
def b5e:Con:=.rel a1j
def b3p(l:Lks):Nat->Ann
 |0=>.one (W5 l.held.length (G9 l.held)) (fun x=>⟨[(1,.ref 0 0 0),(6,D4 l.held),(7,.int .i64 l.held.length),(8,.int .i64 x.1)],[a7w l]⟩) (fun x=>l.held.length-x.1) [.box 0] [.box 0] (fun _=>Z0)
 |_=>.none
noncomputable def b4A:Code:=Tryz.f156.body.getD .skip
theorem a57:Z8 Tryz.prog 156:=⟨_,Tryz.func156,by kernel_rfl,by kernel_rfl⟩
theorem b6A(l:Lks)(h:
  (∃(x:W5 l.held.length (G9 l.held)),((0=0/\0=0)/\(Y3 Y9 l.held l.held)/\(l.held.length:Int)=(l.held.length:Int)/\(0:Int)=(x.val:Int)/\True)/\(1=1/\1=1/\(Y3 Y9 l.held l.held)/\(Y3 Y1
  l.waits l.waits)/\True)/\True)/\∀(x:W5 l.held.length (G9 l.held)),(decide ((x.val:Int)<(l.held.length:Int))=true->W7 (x.val:Int) l.held.length/\∃(x_1:Lck),((((l.held.getD (x.val:Int).toNat default).tx=
  x_1.tx/\(l.held.getD (x.val:Int).toNat default).ta=x_1.ta/\(l.held.getD (x.val:Int).toNat default).row=x_1.row/\(l.held.getD (x.val:Int).toNat default).mo=x_1.mo/\True)/\True)/\True)/\((!m4 x_1)=false->InC
  (x.val:Int) l.held.length)/\∃(x_2:(List Lck×Nat×Lck)),((!m4 x_1)=false->(((x.val:Int).toNat=x_2.snd.fst/\Z7 (x.val:Int).toNat (Y9 l.held) (Y9 x_2.fst))/\(Fn.func 218=Fn.func 218/\((l.held.getD
  (x.val:Int).toNat default).tx=x_2.snd.snd.tx/\(l.held.getD (x.val:Int).toNat default).ta=x_2.snd.snd.ta/\(l.held.getD (x.val:Int).toNat default).row=x_2.snd.snd.row/\(l.held.getD (x.val:Int).toNat default).mo=
  x_2.snd.snd.mo/\True)/\True)/\True)/\N8 x_2.snd.fst)/\((!m4 x_1||anyI x_2.snd.fst (t6 x_2.fst x_2.snd.snd))=true->false=L8 l)/\((!m4 x_1||anyI x_2.snd.fst (t6 x_2.fst x_2.snd.snd))=false->X6 .i64
  ((x.val:Int)+(1:Int))/\∃(y:W5 l.held.length (G9 l.held)),(((0=0/\0=0)/\(Y3 Y9 l.held l.held)/\(l.held.length:Int)=(l.held.length:Int)/\(x.val:Int)+(1:Int)=(y.val:Int)/\True)/\(1=1/\1=1/\
  (Y3 Y9 l.held l.held)/\(Y3 Y1 l.waits l.waits)/\True)/\True)/\Lt (l.held.length-y.val) (l.held.length-x.val)))/\(decide ((x.val:Int)<(l.held.length:Int))=false->∃(x:(List Wt)),((decide
  ((l.held.length:Int)<=(60:Int))&&decide ((l.waits.length:Int)<=(100:Int)))=true->((l.waits.length=List.length x/\Z7 l.waits.length (Y1 l.waits) (Y1 x))/\Value.func (Fn.func 220) #[] #[]=Value.func
  (Fn.func 220) #[] #[]/\True)/\N8 (List.length x))/\(decide ((l.held.length:Int)<=(60:Int))&&decide ((l.waits.length:Int)<=(100:Int))&& !anyI (List.length x) (J7 x))=L8 l)):
  Z1 Tryz.prog 156 [.agg l.ts] (.bool (L8 l)):=
 T7 (code:=b4A) (gC c3e b20 (gC b28 a9f (gC c3A b1W gN))) Tryz.func156 (by kernel_rfl) (by kernel_rfl) (b3p l) h (by kernel_rfl)
theorem b2i:Z2 Tryz.prog 156 b43:=by
 rintro(l:Lks) ⟨hL,hw⟩;have hL:l.held.length<1000000000000:=hL;refine b6A l ⟨⟨I5,⟨⟨rfl,rfl⟩,⟨rfl,Z9 _ _⟩,rfl,rfl,trivial⟩,⟨rfl,rfl,⟨rfl,Z9 _ _⟩,⟨rfl,Z9 _ _⟩,trivial⟩,trivial⟩,fun x=>⟨fun hc=> ?_,fun hc=> ?_⟩⟩
 ·have hlt:=Y6 hc;refine⟨Y8 hlt,l.held.getD x.val default,⟨⟨⟨rfl,rfl,rfl,rfl,trivial⟩,trivial⟩,trivial⟩,fun _=>⟨by omega,by omega⟩,(l.held,x.val,l.held.getD x.val default),fun _=>⟨⟨⟨by simp only;omega,Z9 _ _⟩,⟨rfl,⟨rfl,rfl,rfl,rfl,trivial⟩,trivial⟩,trivial⟩,by show x.val<1000000000000;omega⟩,fun hb=> ?_,fun hb=>⟨W8 hlt (by omega),x.succ hlt hb,⟨⟨⟨rfl,rfl⟩,⟨rfl,Z9 _ _⟩,rfl,by simp only[W5.succ];omega,trivial⟩,⟨rfl,rfl,⟨rfl,Z9 _ _⟩,⟨rfl,Z9 _ _⟩,trivial⟩,trivial⟩,W5.ext_lt hlt⟩⟩
  have:anyI l.held.length (G9 l.held)=true:=Q1.2 ⟨x.val,hlt,hb⟩;unfold L8;rw[this];rfl
 ·have hge:=Y2 hc;have:anyI l.held.length (G9 l.held)=false:=L5.2 fun i hi=>x.2.2 i (Nat.lt_of_lt_of_le hi hge)
  refine⟨l.waits,fun _=>⟨⟨⟨rfl,Z9 _ _⟩,rfl,trivial⟩,hw⟩,?_⟩
  unfold L8;rw[this,Bool.not_false,Bool.true_and];congr 2<;>exact decide_eq_decide.2 (by omega)
def d3A(L:List Lck)(a:Lck)(k:Nat):Bool:=(a.ta==(L.getD k default).ta)&&(a.row==(L.getD k default).row)&&(a3n a (L.getD k default)||(a.tx !=(L.getD k default).tx)&& !a2B a.mo (L.getD k default).mo)
def b29(l:Lks):Nat->Ann
 |0=>.one (W5 l.held.length (G9 l.held)) (fun x=>⟨[(1,.ref 0 0 0),(3,.int .i64 x.1)],[a7w l]⟩) (fun x=>l.held.length-x.1) [.box 0] [.box 0] (fun x=>fun
  |1=>.one (W5 x.1 (t6 l.held (l.held.getD x.1 default))) (fun y=>⟨[(1,.ref 0 0 0),(3,.int .i64 x.1),(4,.ref 1 0 0),(5,.int .i64 y.1)],[a7w l,some (.arr true 1000000 4 1 fun _=>(l.held.getD x.1 default).ts)]⟩) (fun y=>x.1-y.1) [.box 0,.box 1] [.box 0,.box 1] (fun _=>Z0)
  |2=>.one (W5 l.waits.length (J7 l.waits)) (fun y=>⟨[(1,.ref 0 0 0),(7,.int .i64 y.1)],[a7w l]⟩) (fun y=>l.waits.length-y.1) [.box 0] [.box 0] (fun _=>Z0)
  |_=>.none)
 |_=>.none
noncomputable def b4m:Code:=Tryz.f73.body.getD .skip
theorem a5H:Z8 Tryz.prog 73:=⟨_,Tryz.func73,by kernel_rfl,by kernel_rfl⟩
theorem b7g(l:Lks)(h:
  ((decide ((l.held.length:Int)>(60:Int))||decide ((l.waits.length:Int)>(100:Int)))=true->false=L8 l)/\((decide ((l.held.length:Int)>(60:Int))||decide ((l.waits.length:Int)>(100:Int)))=false->(∃(x:
  W5 l.held.length (G9 l.held)),((0=0/\0=0)/\(0:Int)=(x.val:Int)/\True)/\(1=1/\1=1/\(Y3 Y9 l.held l.held)/\(Y3 Y1 l.waits l.waits)/\True)/\True)/\∀(x:W5 l.held.length (G9 l.held)),
  (decide ((x.val:Int)<(l.held.length:Int))=true->W7 (x.val:Int) l.held.length/\∃(x_1:Lck),(((l.held.getD (x.val:Int).toNat default).tx=x_1.tx/\(l.held.getD (x.val:Int).toNat default).ta=x_1.ta/\(l.held.getD
  (x.val:Int).toNat default).row=x_1.row/\(l.held.getD (x.val:Int).toNat default).mo=x_1.mo/\True)/\True)/\((!m4 x_1)=true->false=L8 l)/\((!m4 x_1)=false->(∃(x_2:W5 x.val (t6 l.held (l.held.getD x.val
  default))),((0=0/\0=0)/\(x.val:Int)=(x.val:Int)/\(0=0/\0=0)/\(0:Int)=(x_2.val:Int)/\True)/\(1=1/\1=1/\(Y3 Y9 l.held l.held)/\(Y3 Y1 l.waits l.waits)/\True)/\(1=1/\1=1/\(l.held.getD
  (x.val:Int).toNat default).tx=(l.held.getD x.val default).tx/\(l.held.getD (x.val:Int).toNat default).ta=(l.held.getD x.val default).ta/\(l.held.getD (x.val:Int).toNat default).row=(l.held.getD x.val default).row/\
  (l.held.getD (x.val:Int).toNat default).mo=(l.held.getD x.val default).mo/\True)/\True)/\∀(x_2:W5 x.val (t6 l.held (l.held.getD x.val default))),(decide ((x_2.val:Int)<(x.val:Int))=true->W7 (x_2.val:Int)
  l.held.length/\∃(x_3:(Int×Int)),(((l.held.getD x.val default).ta==(l.held.getD (x_2.val:Int).toNat default).ta&&(l.held.getD x.val default).row==(l.held.getD (x_2.val:Int).toNat default).row)=true->((l.held.getD
  x.val default).tx==(l.held.getD (x_2.val:Int).toNat default).tx&&((l.held.getD x.val default).ta==(l.held.getD (x_2.val:Int).toNat default).ta&&((l.held.getD x.val default).row==(l.held.getD (x_2.val:Int).toNat
  default).row&&((l.held.getD x.val default).mo==(l.held.getD (x_2.val:Int).toNat default).mo&&true))))=false->((l.held.getD x.val default).tx !=(l.held.getD (x_2.val:Int).toNat default).tx)=true->((l.held.getD x.val
  default).mo=x_3.fst/\(l.held.getD (x_2.val:Int).toNat default).mo=x_3.snd/\True)/\True)/\(((l.held.getD x.val default).ta==(l.held.getD (x_2.val:Int).toNat default).ta&&(l.held.getD x.val default).row==(l.held.getD
  (x_2.val:Int).toNat default).row&&((l.held.getD x.val default).tx==(l.held.getD (x_2.val:Int).toNat default).tx&&((l.held.getD x.val default).ta==(l.held.getD (x_2.val:Int).toNat default).ta&&((l.held.getD x.val
  default).row==(l.held.getD (x_2.val:Int).toNat default).row&&((l.held.getD x.val default).mo==(l.held.getD (x_2.val:Int).toNat default).mo&&true)))||(l.held.getD x.val default).tx !=(l.held.getD (x_2.val:Int).toNat
  default).tx&& !a2B x_3.fst x_3.snd))=true->false=L8 l)/\(((l.held.getD x.val default).ta==(l.held.getD (x_2.val:Int).toNat default).ta&&(l.held.getD x.val default).row==(l.held.getD (x_2.val:Int).toNat
  default).row&&((l.held.getD x.val default).tx==(l.held.getD (x_2.val:Int).toNat default).tx&&((l.held.getD x.val default).ta==(l.held.getD (x_2.val:Int).toNat default).ta&&((l.held.getD x.val default).row==(l.held.getD
  (x_2.val:Int).toNat default).row&&((l.held.getD x.val default).mo==(l.held.getD (x_2.val:Int).toNat default).mo&&true)))||(l.held.getD x.val default).tx !=(l.held.getD (x_2.val:Int).toNat default).tx&& !a2B x_3.fst
  x_3.snd))=false->X6 .i64 ((x_2.val:Int)+(1:Int))/\∃(y:W5 x.val (t6 l.held (l.held.getD x.val default))),(((0=0/\0=0)/\(x.val:Int)=(x.val:Int)/\(0=0/\0=0)/\(x_2.val:Int)+(1:Int)=(y.val:Int)/\
  True)/\(1=1/\1=1/\(Y3 Y9 l.held l.held)/\(Y3 Y1 l.waits l.waits)/\True)/\(1=1/\1=1/\(l.held.getD x.val default).tx=(l.held.getD x.val default).tx/\(l.held.getD x.val default).ta=(l.held.getD x.val
  default).ta/\(l.held.getD x.val default).row=(l.held.getD x.val default).row/\(l.held.getD x.val default).mo=(l.held.getD x.val default).mo/\True)/\True)/\Lt (x.val-y.val) (x.val-x_2.val)))/\(decide ((x_2.val:Int)<
  (x.val:Int))=false->X6 .i64 ((x.val:Int)+(1:Int))/\∃(y:W5 l.held.length (G9 l.held)),(((0=0/\0=0)/\(x.val:Int)+(1:Int)=(y.val:Int)/\True)/\(1=1/\1=1/\(Y3 Y9 l.held l.held)/\(Y3 Y1
  l.waits l.waits)/\True)/\True)/\Lt (l.held.length-y.val) (l.held.length-x.val))))/\(decide ((x.val:Int)<(l.held.length:Int))=false->(∃(x:W5 l.waits.length (J7 l.waits)),((0=0/\0=0)/\(0:Int)=
  (x.val:Int)/\True)/\(1=1/\1=1/\(Y3 Y9 l.held l.held)/\(Y3 Y1 l.waits l.waits)/\True)/\True)/\∀(x:W5 l.waits.length (J7 l.waits)),(decide ((x.val:Int)<(l.waits.length:Int))=true->W7 (x.val:Int)
  l.waits.length/\((!W9 (l.waits.getD (x.val:Int).toNat default).tx (1:Int) (60:Int)|| !W9 (l.waits.getD (x.val:Int).toNat default).fo (1:Int) (60:Int)||(l.waits.getD (x.val:Int).toNat default).tx==(l.waits.getD
  (x.val:Int).toNat default).fo)=true->false=L8 l)/\((!W9 (l.waits.getD (x.val:Int).toNat default).tx (1:Int) (60:Int)|| !W9 (l.waits.getD (x.val:Int).toNat default).fo (1:Int) (60:Int)||(l.waits.getD
  (x.val:Int).toNat default).tx==(l.waits.getD (x.val:Int).toNat default).fo)=false->X6 .i64 ((x.val:Int)+(1:Int))/\∃(y:W5 l.waits.length (J7 l.waits)),(((0=0/\0=0)/\(x.val:Int)+(1:Int)=(y.val:Int)/\
  True)/\(1=1/\1=1/\(Y3 Y9 l.held l.held)/\(Y3 Y1 l.waits l.waits)/\True)/\True)/\Lt (l.waits.length-y.val) (l.waits.length-x.val)))/\(decide ((x.val:Int)<(l.waits.length:Int))=false->true=L8 l)))):
  Z1 Tryz.prog 73 [.agg l.ts] (.bool (L8 l)):=
 T7 (code:=b4m) (gC b9F b2n (gC b9u b2B (gC A7 I3 gN))) Tryz.func73 (by kernel_rfl) (by kernel_rfl) (b29 l) h (by kernel_rfl)
theorem c7v(L:List Lck)(a:Lck)(k:Nat):d3A L a k=t6 L a k:=by
 unfold d3A t6 clash a3n a4T;generalize (a.ta==(L.getD k default).ta)=p;generalize (a.row==(L.getD k default).row)=q;generalize (a.mo==(L.getD k default).mo)=r;generalize a2B a.mo (L.getD k default).mo=t;rw[show(a.tx !=(L.getD k default).tx)= !(a.tx==(L.getD k default).tx) from rfl]
 generalize (a.tx==(L.getD k default).tx)=u;cases p<;>cases q<;>cases r<;>cases t<;>cases u<;>rfl
theorem b2t:Z2 Tryz.prog 73 b5e:=by
 rintro(l:Lks) ⟨hL,hw⟩;have hL:l.held.length<1000000000000:=hL;have hw:l.waits.length<1000000000000:=hw;have bh:∀i,i<l.held.length->G9 l.held i=true->false=L8 l:=fun i hi hb=>by
  have:anyI l.held.length (G9 l.held)=true:=Q1.2 ⟨i,hi,hb⟩;unfold L8;rw[this];rfl
 refine b7g l ⟨fun h=> ?_,fun h=>⟨⟨I5,⟨⟨rfl,rfl⟩,rfl,trivial⟩,⟨rfl,rfl,⟨rfl,Z9 _ _⟩,⟨rfl,Z9 _ _⟩,trivial⟩,trivial⟩,fun x=>⟨fun hc=> ?_,fun hc=>⟨⟨I5,⟨⟨rfl,rfl⟩,rfl,trivial⟩,⟨rfl,rfl,⟨rfl,Z9 _ _⟩,⟨rfl,Z9 _ _⟩,trivial⟩,trivial⟩,fun y=>⟨fun hy=> ?_,fun hy=> ?_⟩⟩⟩⟩⟩
 ·simp only[Bool.or_eq_true,decide_eq_true_eq] at h;unfold L8;rcases h with h|h
  ·rw[decide_eq_false (p:=l.held.length<=60) (by omega)]
   simp
  ·rw[decide_eq_false (p:=l.waits.length<=100) (by omega)]
   simp
 ·have hlt:=Y6 hc;refine⟨Y8 hlt,l.held.getD x.val default,⟨⟨rfl,rfl,rfl,rfl,trivial⟩,trivial⟩,fun hb=>bh _ hlt (by unfold G9;rw[hb];rfl),fun hb=>⟨⟨I5,⟨⟨rfl,rfl⟩,rfl,⟨rfl,rfl⟩,rfl,trivial⟩,⟨rfl,rfl,⟨rfl,Z9 _ _⟩,⟨rfl,Z9 _ _⟩,trivial⟩,⟨rfl,rfl,rfl,rfl,rfl,rfl,trivial⟩,trivial⟩,fun y=>⟨fun hy=> ?_,fun hy=> ?_⟩⟩⟩
  ·have hyt:=Y6 hy;refine⟨Y8 (by omega),((l.held.getD x.val default).mo,(l.held.getD y.val default).mo),fun _ _ _=>⟨⟨rfl,rfl,trivial⟩,trivial⟩,fun hq=> ?_,fun hq=>⟨W8 hyt (by omega),y.succ hyt ((c7v _ _ _).symm.trans hq),⟨⟨⟨rfl,rfl⟩,rfl,⟨rfl,rfl⟩,by simp only[W5.succ];omega,trivial⟩,⟨rfl,rfl,⟨rfl,Z9 _ _⟩,⟨rfl,Z9 _ _⟩,trivial⟩,⟨rfl,rfl,rfl,rfl,rfl,rfl,trivial⟩,trivial⟩,W5.ext_lt hyt⟩⟩
   refine bh _ hlt ?_
   unfold G9;have:anyI x.val (t6 l.held (l.held.getD x.val default))=true:=Q1.2 ⟨y.val,hyt,(c7v _ _ _).symm.trans hq⟩;rw[this,Bool.or_true]
  ·have hge:=Y2 hy;have:anyI x.val (t6 l.held (l.held.getD x.val default))=false:=L5.2 fun i hi=>y.2.2 i (Nat.lt_of_lt_of_le hi hge)
   exact⟨W8 hlt (by omega),x.succ hlt (by unfold G9;rw[hb,this];rfl),⟨⟨⟨rfl,rfl⟩,by simp only[W5.succ];omega,trivial⟩,⟨rfl,rfl,⟨rfl,Z9 _ _⟩,⟨rfl,Z9 _ _⟩,trivial⟩,trivial⟩,W5.ext_lt hlt⟩
 ·have hlt:=Y6 hy;refine⟨Y8 hlt,fun hq=> ?_,fun hq=>⟨W8 hlt (by omega),y.succ hlt hq,⟨⟨⟨rfl,rfl⟩,by simp only[W5.succ];omega,trivial⟩,⟨rfl,rfl,⟨rfl,Z9 _ _⟩,⟨rfl,Z9 _ _⟩,trivial⟩,trivial⟩,W5.ext_lt hlt⟩⟩
  have:anyI l.waits.length (J7 l.waits)=true:=Q1.2 ⟨y.val,hlt,hq⟩;unfold L8;rw[this];simp
 ·have g1:=Y2 hc;have g2:=Y2 hy;have e1:anyI l.held.length (G9 l.held)=false:=L5.2 fun i hi=>x.2.2 i (Nat.lt_of_lt_of_le hi g1)
  have e2:anyI l.waits.length (J7 l.waits)=false:=L5.2 fun i hi=>y.2.2 i (Nat.lt_of_lt_of_le hi g2)
  simp only[Bool.or_eq_false_iff,decide_eq_false_iff_not] at h;unfold L8;rw[e1,e2,decide_eq_true (p:=l.held.length<=60) (by omega),decide_eq_true (p:=l.waits.length<=100) (by omega)]
  rfl
end Go.Proofs.YtokaojbaacnngaaGreat

