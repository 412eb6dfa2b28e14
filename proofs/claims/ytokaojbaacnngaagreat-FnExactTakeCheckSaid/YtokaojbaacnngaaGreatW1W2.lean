/- A part of the proof. -/
import Derived.Test.YtokaojbaacnngaaGreatE7E8
namespace Go.Proofs.YtokaojbaacnngaaGreat
open Go.SS

structure Val where
 k:Int
 n:Int
 t:List UInt8
 deriving Inhabited
def Val.ts(v:Val):List T:=[.int .i64 v.k,.int .i64 v.n,.str v.t]
structure Rw where
 id:Int
 n:Val
 name:Val
 deriving Inhabited
def Rw.ts(r:Rw):List T:=[.int .i64 r.id,.int .i64 r.n.k,.int .i64 r.n.n,.str r.n.t,.int .i64 r.name.k,.int .i64 r.name.n,.str r.name.t]
structure Chg where
 se:Int
 ta:Int
 row:Rw
 gone:Bool
 deriving Inhabited
def Chg.ts(c:Chg):List T:=[.int .i64 c.se,.int .i64 c.ta,.int .i64 c.row.id,.int .i64 c.row.n.k,.int .i64 c.row.n.n,.str c.row.n.t,.int .i64 c.row.name.k,.int .i64 c.row.name.n,.str c.row.name.t,.bool c.gone]
end Go.Proofs.YtokaojbaacnngaaGreat

namespace Go.Proofs.YtokaojbaacnngaaGreat
set_option maxRecDepth 100000
open Go.SS

structure Lck where
 tx:Int
 ta:Int
 row:Int
 mo:Int
 deriving Inhabited
def Lck.ts(l:Lck):List T:=[.int .i64 l.tx,.int .i64 l.ta,.int .i64 l.row,.int .i64 l.mo]
structure Wt where
 tx:Int
 fo:Int
 deriving Inhabited
def Wt.ts(w:Wt):List T:=[.int .i64 w.tx,.int .i64 w.fo]
def Y2(L:List Lck)(i:Nat):List T:=(L.getD i default).ts
def w7(L:List Lck):T:=.sl 4 L.length (Y2 L)
def X3(L:List Wt)(i:Nat):List T:=(L.getD i default).ts
def tT(L:List Wt):T:=.sl 2 L.length (X3 L)
structure Lks where
 held:List Lck
 waits:List Wt
 deriving Inhabited
def Lks.ts(l:Lks):List T:=[w7 l.held,tT l.waits]
def aC(l:Lks):Option Ob:=some (.arr true 1000000 2 1 fun _=>l.ts)
def sI(a b:Int):Bool:=(a !=4)&&(b !=4)&&((a==1)||(b==1)||(a==b))
def pL(a b:Lck):Bool:=(a.tx==b.tx)&&((a.ta==b.ta)&&((a.row==b.row)&&((a.mo==b.mo)&&true)))
def mX(a b:Lck):Bool:=(a.ta==b.ta)&&(a.row==b.row)
def clash(a b:Lck):Bool:=(a.tx !=b.tx)&&mX a b&& !sI a.mo b.mo
def f9(l:Lck):Bool:=W8 l.tx 1 60&&W8 l.ta 1 3&&W8 l.row (-1) 1000&&W8 l.mo 1 4&&(decide (l.row<0)||decide (l.mo≥3))
def k6(L:List Lck)(a:Lck)(k:Nat):Bool:=pL a (L.getD k default)||clash a (L.getD k default)
def G2(L:List Lck)(i:Nat):Bool:= !f9 (L.getD i default)||anyI i (k6 L (L.getD i default))
def I7(L:List Wt)(i:Nat):Bool:= !W8 (L.getD i default).tx 1 60|| !W8 (L.getD i default).fo 1 60||((L.getD i default).tx==(L.getD i default).fo)
def J8(l:Lks):Bool:= !anyI l.held.length (G2 l.held)&&(decide (l.held.length<=60)&&decide (l.waits.length<=100)&& !anyI l.waits.length (I7 l.waits))
def b9r(l:Lks):Prop:=K6 l.held.length/\K6 l.waits.length

def b4N:Con:=.rel ⟨Int,fun n=>[.int .i64 n],fun n=>.bool (W8 n 1 4),fun _=>True⟩
noncomputable def b7O:Code:=Tryz.f263.body.getD .skip
theorem a34:Z7 Tryz.prog 263:=⟨_,Tryz.func263,by kernel_rfl,by kernel_rfl⟩
theorem b9X(n:Int)(h:
  W8 n (1:Int) (4:Int)=W8 n (1:Int) (4:Int)):
  Z2 Tryz.prog 263 [.int .i64 n] (.bool (W8 n 1 4)):=
 T4 (code:=b7O) (gC P2 R8 gN) Tryz.func263 (by kernel_rfl) (by kernel_rfl) Z0 h (by kernel_rfl)
theorem b4n:Z1 Tryz.prog 263 b4N:=fun n _=>b9X n rfl
def c6B:Con:=.rel ⟨Int,fun n=>[.int .i64 n],fun n=>.bool (W8 n 1 60),fun _=>True⟩
noncomputable def c5r:Code:=Tryz.f221.body.getD .skip
theorem fF:Z7 Tryz.prog 221:=⟨_,Tryz.func221,by kernel_rfl,by kernel_rfl⟩
theorem c66(n:Int)(h:
  W8 n (1:Int) (60:Int)=W8 n (1:Int) (60:Int)):
  Z2 Tryz.prog 221 [.int .i64 n] (.bool (W8 n 1 60)):=
 T4 (code:=c5r) (gC P2 R8 gN) Tryz.func221 (by kernel_rfl) (by kernel_rfl) Z0 h (by kernel_rfl)
theorem a9L:Z1 Tryz.prog 221 c6B:=fun n _=>c66 n rfl
def b7K:Con:=.rel ⟨Lck,fun l=>[.agg l.ts],fun l=>.bool (f9 l),fun _=>True⟩
noncomputable def b5q:Code:=Tryz.f217.body.getD .skip
theorem a3m:Z7 Tryz.prog 217:=⟨_,Tryz.func217,by kernel_rfl,by kernel_rfl⟩
theorem b7X(l:Lck)(h:
  ∃(x:Int),((l.tx=x/\True)/\True)/\∃(x_1:Int),((W8 x (1:Int) (60:Int)&&W8 l.ta (1:Int) (3:Int)&&W8 l.row (-1:Int) (1000:Int))=true->(l.mo=x_1/\True)/\True)/\(W8 x (1:Int) (60:Int)&&W8
  l.ta (1:Int) (3:Int)&&W8 l.row (-1:Int) (1000:Int)&&W8 x_1 (1:Int) (4:Int)&&(decide (l.row<(0:Int))||decide (l.mo≥(3:Int))))=f9 l):
  Z2 Tryz.prog 217 [.agg l.ts] (.bool (f9 l)):=
 T4 (code:=b5q) (gC a9L fF (gC P2 R8 (gC b4n a34 gN))) Tryz.func217 (by kernel_rfl) (by kernel_rfl) Z0 h (by kernel_rfl)
theorem b2o:Z1 Tryz.prog 217 b7K:=fun l _=>b7X l ⟨l.tx,⟨⟨rfl,trivial⟩,trivial⟩,l.mo,fun _=>⟨⟨rfl,trivial⟩,trivial⟩,rfl⟩
def c0u:Con:=.rel ⟨Lck,fun l=>l.ts,fun l=>.bool (f9 l),fun _=>True⟩
noncomputable def b9G:Code:=Tryz.f141.body.getD .skip
theorem a3O:Z7 Tryz.prog 141:=⟨_,Tryz.func141,by kernel_rfl,by kernel_rfl⟩
theorem b8t(l:Lck)(h:
  (W8 l.tx (1:Int) (60:Int)&&W8 l.ta (1:Int) (3:Int)&&W8 l.row (-1:Int) (1000:Int)&&W8 l.mo (1:Int) (4:Int)&&(l.row==(-1:Int)||decide (l.mo≥(3:Int))))=f9 l):
  Z2 Tryz.prog 141 l.ts (.bool (f9 l)):=
 T4 (code:=b9G) (gC v7 F7 gN) Tryz.func141 (by kernel_rfl) (by kernel_rfl) Z0 h (by kernel_rfl)
theorem b3l:Z1 Tryz.prog 141 c0u:=by
 intro(l:Lck) _;refine b8t l ?_
 unfold f9;cases h:W8 l.row (-1) 1000
 ·simp
 ·have h':=h;unfold W8 at h';simp only[K5,t9] at h';rw[show(l.row== -1)=decide (l.row<0) by rw[Bool.eq_iff_iff,beq_iff_eq,t9];omega]
def nU:Con:=.rel ⟨Int×Int,fun x=>[.int .i64 x.1,.int .i64 x.2],fun x=>.bool (sI x.1 x.2),fun _=>True⟩
def b5w:Con:=nU
noncomputable def a5a:Code:=Tryz.f265.body.getD .skip
theorem jQ:Z7 Tryz.prog 265:=⟨_,Tryz.func265,by kernel_rfl,by kernel_rfl⟩
theorem a7i(a b:Int)(h:
  (a !=(4:Int)&&b !=(4:Int)&&(a==(1:Int)||b==(1:Int)||a==b))=sI a b):
  Z2 Tryz.prog 265 [.int .i64 a,.int .i64 b] (.bool (sI a b)):=
 T4 (code:=a5a) gN Tryz.func265 (by kernel_rfl) (by kernel_rfl) Z0 h (by kernel_rfl)
theorem a31:Z1 Tryz.prog 265 nU:=fun x _=>a7i x.1 x.2 rfl
noncomputable def c0f:Code:=Tryz.f142.body.getD .skip
theorem a05:Z7 Tryz.prog 142:=⟨_,Tryz.func142,by kernel_rfl,by kernel_rfl⟩
theorem b7H(a b:Int)(h:
  ((a==(4:Int)||b==(4:Int))=true->false=sI a b)/\((a==(4:Int)||b==(4:Int))=false->((a==(1:Int)||b==(1:Int))=true->true=sI a b)/\((a==(1:Int)||b==(1:Int))=false->(a==b)
  =sI a b))):
  Z2 Tryz.prog 142 [.int .i64 a,.int .i64 b] (.bool (sI a b)):=
 T4 (code:=c0f) gN Tryz.func142 (by kernel_rfl) (by kernel_rfl) Z0 h (by kernel_rfl)
theorem b01:Z1 Tryz.prog 142 b5w:=by
 rintro⟨a,b⟩ _;refine b7H a b ⟨fun h=> ?_,fun h=>⟨fun g=> ?_,fun g=> ?_⟩⟩<;>unfold sI<;>simp at*
 ·intro h1 h2;rcases h with h|h<;>omega
 ·exact⟨h,by rcases g with g|g<;>simp[g]⟩
 ·rw[show(a !=4)=true by simpa using h.1,show(b !=4)=true by simpa using h.2,show(a==1)=false by simpa using g.1,show(b==1)=false by simpa using g.2]
  rfl
def a0i:Con:=.rel ⟨Lck×Lck,fun x=>[.agg x.1.ts,.agg x.2.ts],fun x=>.bool (mX x.1 x.2),fun _=>True⟩
noncomputable def aX:Code:=Tryz.f264.body.getD .skip
theorem pF:Z7 Tryz.prog 264:=⟨_,Tryz.func264,by kernel_rfl,by kernel_rfl⟩
theorem eS(a b:Lck)(h:
  (a.ta==b.ta&&a.row==b.row)=mX a b):
  Z2 Tryz.prog 264 [.agg a.ts,.agg b.ts] (.bool (mX a b)):=
 T4 (code:=aX) gN Tryz.func264 (by kernel_rfl) (by kernel_rfl) Z0 h (by kernel_rfl)
theorem jN:Z1 Tryz.prog 264 a0i:=fun x _=>eS x.1 x.2 rfl
def b0y:Con:=.rel ⟨Lck×Lck,fun x=>[.agg x.1.ts,.agg x.2.ts],fun x=>.bool (clash x.1 x.2),fun _=>True⟩
noncomputable def b2L:Code:=Tryz.f219.body.getD .skip
theorem bX:Z7 Tryz.prog 219:=⟨_,Tryz.func219,by kernel_rfl,by kernel_rfl⟩
theorem b3V(a b:Lck)(h:
  ∃(x:(Lck×Lck)),((a.tx !=b.tx)=true->((a.tx=x.fst.tx/\a.ta=x.fst.ta/\a.row=x.fst.row/\a.mo=x.fst.mo/\True)/\(b.tx=x.snd.tx/\b.ta=x.snd.ta/\b.row=x.snd.row/\b.mo=x.snd.mo/\True)/\True)/\True)/\∃
  (x_1:(Int×Int)),((a.tx !=b.tx&&mX x.fst x.snd)=true->(a.mo=x_1.fst/\b.mo=x_1.snd/\True)/\True)/\(a.tx !=b.tx&&mX x.fst x.snd&& !sI x_1.fst x_1.snd)=clash a b):
  Z2 Tryz.prog 219 [.agg a.ts,.agg b.ts] (.bool (clash a b)):=
 T4 (code:=b2L) (gC jN pF (gC a31 jQ gN)) Tryz.func219 (by kernel_rfl) (by kernel_rfl) Z0 h (by kernel_rfl)
theorem a4s:Z1 Tryz.prog 219 b0y:=fun x _=>b3V x.1 x.2 ⟨(x.1,x.2),fun _=>⟨⟨⟨rfl,rfl,rfl,rfl,trivial⟩,⟨rfl,rfl,rfl,rfl,trivial⟩,trivial⟩,trivial⟩,(x.1.mo,x.2.mo),fun _=>⟨⟨rfl,rfl,trivial⟩,trivial⟩,rfl⟩
def a5E:Con:=.rel ⟨Lck×Lck,fun x=>[.agg x.2.ts,.bref x.1.ts],fun x=>.bool (pL x.1 x.2||clash x.1 x.2),fun _=>True⟩
noncomputable def a8n:Code:=Tryz.f218.body.getD .skip
theorem iC:Z7 Tryz.prog 218:=⟨_,Tryz.func218,by kernel_rfl,by kernel_rfl⟩
theorem a5N(a b:Lck)(h:
  ∃(x:(Lck×Lck)),((a.tx==b.tx&&(a.ta==b.ta&&(a.row==b.row&&(a.mo==b.mo&&true))))=false->((a.tx=x.fst.tx/\a.ta=x.fst.ta/\a.row=x.fst.row/\a.mo=x.fst.mo/\True)/\(b.tx=x.snd.tx/\b.ta=x.snd.ta
  /\b.row=x.snd.row/\b.mo=x.snd.mo/\True)/\True)/\True)/\(a.tx==b.tx&&(a.ta==b.ta&&(a.row==b.row&&(a.mo==b.mo&&true)))||clash x.fst x.snd)=(pL a b||clash a b)):
  Z2 Tryz.prog 218 [.agg b.ts,.bref a.ts] (.bool (pL a b||clash a b)):=
 T4 (code:=a8n) (gC a4s bX gN) Tryz.func218 (by kernel_rfl) (by kernel_rfl) Z0 h (by kernel_rfl)
theorem a1j:Z1 Tryz.prog 218 a5E:=fun x _=>a5N x.1 x.2 ⟨(x.1,x.2),fun _=>⟨⟨⟨rfl,rfl,rfl,rfl,trivial⟩,⟨rfl,rfl,rfl,rfl,trivial⟩,trivial⟩,trivial⟩,rfl⟩
def b6T(a:Lck):T:=.fn (.func 218) [.bref a.ts]
def b1c:Con:=.rel ⟨List Lck×Nat×Lck,fun x=>[.sl 4 x.2.1 (Y2 x.1),b6T x.2.2],fun x=>.int .i64 (Q4 x.2.1 (k6 x.1 x.2.2)),fun x=>K6 x.2.1⟩
def b06(L:List Lck)(n:Nat)(a:Lck):Nat->Ann
 |0=>.one (V9 n (k6 L a)) (fun x=>⟨[(0,.sl 4 n (Y2 L)),(1,b6T a),(7,.int .i64 n),(8,.int .i64 x.1)],[]⟩) (fun x=>n-x.1) [] [] (fun _=>Z0)
 |_=>.none
noncomputable def b0l:Code:=Tryz.f223.body.getD .skip
theorem a0m:Z7 Tryz.prog 223:=⟨_,Tryz.func223,by kernel_rfl,by kernel_rfl⟩
theorem b2J(L:List Lck)(n:Nat)(a:Lck)(h:
  (∃(x:V9 n (k6 L a)),((n=n/\Z8 n (Y2 L) (Y2 L))/\(Fn.func 218=Fn.func 218/\O0 (fun(x:Nat)=>none) (T.bref [T.int .i64 a.tx,T.int .i64 a.ta,T.int .i64 a.row,T.int .i64 a.mo]) (T.bref [T.int .i64
  a.tx,T.int .i64 a.ta,T.int .i64 a.row,T.int .i64 a.mo])/\True)/\(n:Int)=(n:Int)/\(0:Int)=(x.val:Int)/\True)/\True)/\∀(x:V9 n (k6 L a)),(decide ((x.val:Int)<(n:Int))=true->X0 (x.val:Int) n/\∃(x_1:
  (Lck×Lck)),((((L.getD (x.val:Int).toNat default).tx=x_1.snd.tx/\(L.getD (x.val:Int).toNat default).ta=x_1.snd.ta/\(L.getD (x.val:Int).toNat default).row=x_1.snd.row/\(L.getD (x.val:Int).toNat default).mo=x_1.snd.mo/\
  True)/\(a.tx=x_1.fst.tx/\a.ta=x_1.fst.ta/\a.row=x_1.fst.row/\a.mo=x_1.fst.mo/\True)/\True)/\True)/\((pL x_1.fst x_1.snd||clash x_1.fst x_1.snd)=true->(x.val:Int)=Q4 n (k6 L a))/\((pL x_1.fst
  x_1.snd||clash x_1.fst x_1.snd)=false->X8 .i64 ((x.val:Int)+(1:Int))/\∃(y:V9 n (k6 L a)),(((n=n/\Z8 n (Y2 L) (Y2 L))/\(Fn.func 218=Fn.func 218/\O0 (fun(x:Nat)=>none) (T.bref [T.int .i64
  a.tx,T.int .i64 a.ta,T.int .i64 a.row,T.int .i64 a.mo]) (T.bref [T.int .i64 a.tx,T.int .i64 a.ta,T.int .i64 a.row,T.int .i64 a.mo])/\True)/\(n:Int)=(n:Int)/\(x.val:Int)+(1:Int)=(y.val:Int)/\True)/\True)/\Lt (n
  -y.val) (n-x.val)))/\(decide ((x.val:Int)<(n:Int))=false->(-1:Int)=Q4 n (k6 L a))):
  Z2 Tryz.prog 223 [.sl 4 n (Y2 L),b6T a] (.int .i64 (Q4 n (k6 L a))):=
 T4 (code:=b0l) (gC a1j iC gN) Tryz.func223 (by kernel_rfl) (by kernel_rfl) (b06 L n a) h (by kernel_rfl)
theorem a5J:Z1 Tryz.prog 223 b1c:=by
 rintro⟨L,n,a⟩ (hL:n<1000000000000);refine b2J L n a ⟨⟨E5,⟨⟨rfl,Z9 _ _⟩,⟨rfl,T8 _,trivial⟩,rfl,rfl,trivial⟩,trivial⟩,fun x=>⟨fun hc=> ?_,fun hc=> ?_⟩⟩
 ·have hlt:=Y9 hc;refine⟨Y7 hlt,(a,L.getD x.val default),⟨⟨⟨rfl,rfl,rfl,rfl,trivial⟩,⟨rfl,rfl,rfl,rfl,trivial⟩,trivial⟩,trivial⟩,fun hp=>(M1 hlt hp x.2.2).symm,fun hp=>⟨W4 hlt (by omega),x.succ hlt hp,⟨⟨⟨rfl,Z9 _ _⟩,⟨rfl,T8 _,trivial⟩,rfl,by simp only[V9.succ];omega,trivial⟩,trivial⟩,V9.ext_lt hlt⟩⟩
 ·have hge:=Y3 hc;exact(J4 fun j hj=>x.2.2 j (xF hj hge)).symm
def b1y:Con:=.rel ⟨List Lck×Nat×Lck,fun x=>[.sl 4 x.2.1 (Y2 x.1),b6T x.2.2],fun x=>.bool (anyI x.2.1 (k6 x.1 x.2.2)),fun x=>K6 x.2.1⟩
noncomputable def b1s:Code:=Tryz.f158.body.getD .skip
theorem cJ:Z7 Tryz.prog 158:=⟨_,Tryz.func158,by kernel_rfl,by kernel_rfl⟩
theorem b30(L:List Lck)(n:Nat)(a:Lck)(h:
  ∃(x:(List Lck×Nat×Lck)),(((n=x.snd.fst/\Z8 n (Y2 L) (Y2 x.fst))/\(Fn.func 218=Fn.func 218/\(a.tx=x.snd.snd.tx/\a.ta=x.snd.snd.ta/\a.row=x.snd.snd.row/\a.mo=x.snd.snd.mo/\True)/\True)/\True)
  /\K6 x.snd.fst)/\decide (Q4 x.snd.fst (k6 x.fst x.snd.snd)≥(0:Int))=anyI n (k6 L a)):
  Z2 Tryz.prog 158 [.sl 4 n (Y2 L),b6T a] (.bool (anyI n (k6 L a))):=
 T4 (code:=b1s) (gC a5J a0m gN) Tryz.func158 (by kernel_rfl) (by kernel_rfl) Z0 h (by kernel_rfl)
theorem a5f:Z1 Tryz.prog 158 b1y:=fun x hL=>b30 x.1 x.2.1 x.2.2 ⟨x,⟨⟨⟨rfl,Z9 _ _⟩,⟨rfl,⟨rfl,rfl,rfl,rfl,trivial⟩,trivial⟩,trivial⟩,hL⟩,w8 _ _⟩
def a7o:Con:=.rel ⟨List Wt×Nat,fun x=>[.agg (x.1.getD x.2 default).ts],fun x=>.bool (I7 x.1 x.2),fun _=>True⟩
noncomputable def a7M:Code:=Tryz.f220.body.getD .skip
theorem iL:Z7 Tryz.prog 220:=⟨_,Tryz.func220,by kernel_rfl,by kernel_rfl⟩
theorem a6U(L:List Wt)(i:Nat)(h:
  ∃(x:Int),(((L.getD i default).tx=x/\True)/\True)/\∃(x_1:Int),((!W8 x (1:Int) (60:Int))=false->((L.getD i default).fo=x_1/\True)/\True)/\(!W8 x (1:Int) (60:Int)|| !W8 x_1 (1:Int) (60:Int)||
  (L.getD i default).tx==(L.getD i default).fo)=I7 L i):
  Z2 Tryz.prog 220 [.agg (L.getD i default).ts] (.bool (I7 L i)):=
 T4 (code:=a7M) (gC a9L fF gN) Tryz.func220 (by kernel_rfl) (by kernel_rfl) Z0 h (by kernel_rfl)
theorem a3h:Z1 Tryz.prog 220 a7o:=fun x _=>a6U x.1 x.2 ⟨_,⟨⟨rfl,trivial⟩,trivial⟩,_,fun _=>⟨⟨rfl,trivial⟩,trivial⟩,rfl⟩
def b6L:Con:=.rel ⟨List Wt,fun L=>[tT L,fnT 220],fun L=>.int .i64 (Q4 L.length (I7 L)),fun L=>K6 L.length⟩
def b6i(L:List Wt):Nat->Ann
 |0=>.one (V9 L.length (I7 L)) (fun x=>⟨[(0,tT L),(1,fnT 220),(7,.int .i64 L.length),(8,.int .i64 x.1)],[]⟩) (fun x=>L.length-x.1) [] [] (fun _=>Z0)
 |_=>.none
noncomputable def b8V:Code:=Tryz.f224.body.getD .skip
theorem a3B:Z7 Tryz.prog 224:=⟨_,Tryz.func224,by kernel_rfl,by kernel_rfl⟩
theorem b7d(L:List Wt)(h:
  (∃(x:V9 L.length (I7 L)),((Y4 X3 L L)/\Value.func (Fn.func 220) #[] #[]=Value.func (Fn.func 220) #[] #[]/\(L.length:Int)=(L.length:Int)/\(0:Int)=(x.val:Int)/\True)/\True)/\∀(x:V9 L.length (I7 L)),
  (decide ((x.val:Int)<(L.length:Int))=true->X0 (x.val:Int) L.length/\∃(x_1:(List Wt×Nat)),((((L.getD (x.val:Int).toNat default).tx=(x_1.fst.getD x_1.snd default).tx/\(L.getD (x.val:Int).toNat default).fo=
  (x_1.fst.getD x_1.snd default).fo/\True)/\True)/\True)/\(I7 x_1.fst x_1.snd=true->(x.val:Int)=Q4 L.length (I7 L))/\(I7 x_1.fst x_1.snd=false->X8 .i64 ((x.val:Int)+(1:Int))/\∃(y:V9 L.length (I7
  L)),(((Y4 X3 L L)/\Value.func (Fn.func 220) #[] #[]=Value.func (Fn.func 220) #[] #[]/\(L.length:Int)=(L.length:Int)/\(x.val:Int)+(1:Int)=(y.val:Int)/\True)/\True)/\Lt (L.length-y.val) (L.length-x.val)))/\
  (decide ((x.val:Int)<(L.length:Int))=false->(-1:Int)=Q4 L.length (I7 L))):
  Z2 Tryz.prog 224 [tT L,fnT 220] (.int .i64 (Q4 L.length (I7 L))):=
 T4 (code:=b8V) (gC a3h iL gN) Tryz.func224 (by kernel_rfl) (by kernel_rfl) (b6i L) h (by kernel_rfl)
theorem b0F:Z1 Tryz.prog 224 b6L:=by
 intro(L:List Wt) (hL:L.length<1000000000000);refine b7d L ⟨⟨E5,⟨⟨rfl,Z9 _ _⟩,rfl,rfl,rfl,trivial⟩,trivial⟩,fun x=>⟨fun hc=> ?_,fun hc=> ?_⟩⟩
 ·have hlt:=Y9 hc;refine⟨Y7 hlt,(L,x.val),⟨⟨⟨rfl,rfl,trivial⟩,trivial⟩,trivial⟩,fun hp=>(M1 hlt hp x.2.2).symm,fun hp=>⟨W4 hlt (by omega),x.succ hlt hp,⟨⟨⟨rfl,Z9 _ _⟩,rfl,rfl,by simp only[V9.succ];omega,trivial⟩,trivial⟩,V9.ext_lt hlt⟩⟩
 ·have hge:=Y3 hc;exact(J4 fun j hj=>x.2.2 j (xF hj hge)).symm
def b5p:Con:=.rel ⟨List Wt,fun L=>[tT L,fnT 220],fun L=>.bool (anyI L.length (I7 L)),fun L=>K6 L.length⟩
noncomputable def b6F:Code:=Tryz.f160.body.getD .skip
theorem a1E:Z7 Tryz.prog 160:=⟨_,Tryz.func160,by kernel_rfl,by kernel_rfl⟩
theorem b8C(L:List Wt)(h:
  ∃(x:(List Wt)),(((L.length=List.length x/\Z8 L.length (X3 L) (X3 x))/\Value.func (Fn.func 220) #[] #[]=Value.func (Fn.func 220) #[] #[]/\True)/\K6 (List.length x))/\decide (Q4 (List.length x) (I7 x)≥
  (0:Int))=anyI L.length (I7 L)):
  Z2 Tryz.prog 160 [tT L,fnT 220] (.bool (anyI L.length (I7 L))):=
 T4 (code:=b6F) (gC b0F a3B gN) Tryz.func160 (by kernel_rfl) (by kernel_rfl) Z0 h (by kernel_rfl)
theorem b2S:Z1 Tryz.prog 160 b5p:=fun(L:List Wt) hL=>b8C L ⟨L,⟨⟨⟨rfl,Z9 _ _⟩,rfl,trivial⟩,hL⟩,w8 _ _⟩
def vV:Rl:=⟨Lks,fun l=>[.agg l.ts],fun l=>.bool (J8 l),b9r⟩
def a6M:Con:=.rel vV
def a7R:Con:=.rel vV
def a37(l:Lks):Nat->Ann
 |0=>.one (V9 l.held.length (G2 l.held)) (fun x=>⟨[(1,.ref 0 0 0),(6,w7 l.held),(7,.int .i64 l.held.length),(8,.int .i64 x.1)],[aC l]⟩) (fun x=>l.held.length-x.1) [.box 0] [.box 0] (fun _=>Z0)
 |_=>.none
noncomputable def a5l:Code:=Tryz.f156.body.getD .skip
theorem jX:Z7 Tryz.prog 156:=⟨_,Tryz.func156,by kernel_rfl,by kernel_rfl⟩
theorem a4m(l:Lks)(h:
  (∃(x:V9 l.held.length (G2 l.held)),((0=0/\0=0)/\(Y4 Y2 l.held l.held)/\(l.held.length:Int)=(l.held.length:Int)/\(0:Int)=(x.val:Int)/\True)/\(1=1/\1=1/\(Y4 Y2 l.held l.held)/\(Y4 X3
  l.waits l.waits)/\True)/\True)/\∀(x:V9 l.held.length (G2 l.held)),(decide ((x.val:Int)<(l.held.length:Int))=true->X0 (x.val:Int) l.held.length/\∃(x_1:Lck),((((l.held.getD (x.val:Int).toNat default).tx=
  x_1.tx/\(l.held.getD (x.val:Int).toNat default).ta=x_1.ta/\(l.held.getD (x.val:Int).toNat default).row=x_1.row/\(l.held.getD (x.val:Int).toNat default).mo=x_1.mo/\True)/\True)/\True)/\((!f9 x_1)=false->InC
  (x.val:Int) l.held.length)/\∃(x_2:(List Lck×Nat×Lck)),((!f9 x_1)=false->(((x.val:Int).toNat=x_2.snd.fst/\Z8 (x.val:Int).toNat (Y2 l.held) (Y2 x_2.fst))/\(Fn.func 218=Fn.func 218/\((l.held.getD
  (x.val:Int).toNat default).tx=x_2.snd.snd.tx/\(l.held.getD (x.val:Int).toNat default).ta=x_2.snd.snd.ta/\(l.held.getD (x.val:Int).toNat default).row=x_2.snd.snd.row/\(l.held.getD (x.val:Int).toNat default).mo=
  x_2.snd.snd.mo/\True)/\True)/\True)/\K6 x_2.snd.fst)/\((!f9 x_1||anyI x_2.snd.fst (k6 x_2.fst x_2.snd.snd))=true->false=J8 l)/\((!f9 x_1||anyI x_2.snd.fst (k6 x_2.fst x_2.snd.snd))=false->X8 .i64
  ((x.val:Int)+(1:Int))/\∃(y:V9 l.held.length (G2 l.held)),(((0=0/\0=0)/\(Y4 Y2 l.held l.held)/\(l.held.length:Int)=(l.held.length:Int)/\(x.val:Int)+(1:Int)=(y.val:Int)/\True)/\(1=1/\1=1/\
  (Y4 Y2 l.held l.held)/\(Y4 X3 l.waits l.waits)/\True)/\True)/\Lt (l.held.length-y.val) (l.held.length-x.val)))/\(decide ((x.val:Int)<(l.held.length:Int))=false->∃(x:(List Wt)),((decide
  ((l.held.length:Int)<=(60:Int))&&decide ((l.waits.length:Int)<=(100:Int)))=true->((l.waits.length=List.length x/\Z8 l.waits.length (X3 l.waits) (X3 x))/\Value.func (Fn.func 220) #[] #[]=Value.func
  (Fn.func 220) #[] #[]/\True)/\K6 (List.length x))/\(decide ((l.held.length:Int)<=(60:Int))&&decide ((l.waits.length:Int)<=(100:Int))&& !anyI (List.length x) (I7 x))=J8 l)):
  Z2 Tryz.prog 156 [.agg l.ts] (.bool (J8 l)):=
 T4 (code:=a5l) (gC b2o a3m (gC a5f cJ (gC b2S a1E gN))) Tryz.func156 (by kernel_rfl) (by kernel_rfl) (a37 l) h (by kernel_rfl)
theorem a2V:Z1 Tryz.prog 156 a6M:=by
 rintro(l:Lks) ⟨hL,hw⟩;have hL:l.held.length<1000000000000:=hL;refine a4m l ⟨⟨E5,⟨⟨rfl,rfl⟩,⟨rfl,Z9 _ _⟩,rfl,rfl,trivial⟩,⟨rfl,rfl,⟨rfl,Z9 _ _⟩,⟨rfl,Z9 _ _⟩,trivial⟩,trivial⟩,fun x=>⟨fun hc=> ?_,fun hc=> ?_⟩⟩
 ·have hlt:=Y9 hc;refine⟨Y7 hlt,l.held.getD x.val default,⟨⟨⟨rfl,rfl,rfl,rfl,trivial⟩,trivial⟩,trivial⟩,fun _=>⟨by omega,by omega⟩,(l.held,x.val,l.held.getD x.val default),fun _=>⟨⟨⟨by simp only;omega,Z9 _ _⟩,⟨rfl,⟨rfl,rfl,rfl,rfl,trivial⟩,trivial⟩,trivial⟩,by show x.val<1000000000000;omega⟩,fun hb=> ?_,fun hb=>⟨W4 hlt (by omega),x.succ hlt hb,⟨⟨⟨rfl,rfl⟩,⟨rfl,Z9 _ _⟩,rfl,by simp only[V9.succ];omega,trivial⟩,⟨rfl,rfl,⟨rfl,Z9 _ _⟩,⟨rfl,Z9 _ _⟩,trivial⟩,trivial⟩,V9.ext_lt hlt⟩⟩
  have:anyI l.held.length (G2 l.held)=true:=Q0.2 ⟨x.val,hlt,hb⟩;unfold J8;rw[this];rfl
 ·have hge:=Y3 hc;have:anyI l.held.length (G2 l.held)=false:=M5.2 fun i hi=>x.2.2 i (xF hi hge)
  refine⟨l.waits,fun _=>⟨⟨⟨rfl,Z9 _ _⟩,rfl,trivial⟩,hw⟩,?_⟩
  unfold J8;rw[this,Bool.not_false,Bool.true_and];congr 2<;>exact decide_eq_decide.2 (by omega)
def c4F(L:List Lck)(a:Lck)(k:Nat):Bool:=(a.ta==(L.getD k default).ta)&&(a.row==(L.getD k default).row)&&(pL a (L.getD k default)||(a.tx !=(L.getD k default).tx)&& !sI a.mo (L.getD k default).mo)
def a4c(l:Lks):Nat->Ann
 |0=>.one (V9 l.held.length (G2 l.held)) (fun x=>⟨[(1,.ref 0 0 0),(3,.int .i64 x.1)],[aC l]⟩) (fun x=>l.held.length-x.1) [.box 0] [.box 0] (fun x=>fun
  |1=>.one (V9 x.1 (k6 l.held (l.held.getD x.1 default))) (fun y=>⟨[(1,.ref 0 0 0),(3,.int .i64 x.1),(4,.ref 1 0 0),(5,.int .i64 y.1)],[aC l,some (.arr true 1000000 4 1 fun _=>(l.held.getD x.1 default).ts)]⟩) (fun y=>x.1-y.1) [.box 0,.box 1] [.box 0,.box 1] (fun _=>Z0)
  |2=>.one (V9 l.waits.length (I7 l.waits)) (fun y=>⟨[(1,.ref 0 0 0),(7,.int .i64 y.1)],[aC l]⟩) (fun y=>l.waits.length-y.1) [.box 0] [.box 0] (fun _=>Z0)
  |_=>.none)
 |_=>.none
noncomputable def a54:Code:=Tryz.f73.body.getD .skip
theorem iY:Z7 Tryz.prog 73:=⟨_,Tryz.func73,by kernel_rfl,by kernel_rfl⟩
theorem a5c(l:Lks)(h:
  ((decide ((l.held.length:Int)>(60:Int))||decide ((l.waits.length:Int)>(100:Int)))=true->false=J8 l)/\((decide ((l.held.length:Int)>(60:Int))||decide ((l.waits.length:Int)>(100:Int)))=false->(∃(x:
  V9 l.held.length (G2 l.held)),((0=0/\0=0)/\(0:Int)=(x.val:Int)/\True)/\(1=1/\1=1/\(Y4 Y2 l.held l.held)/\(Y4 X3 l.waits l.waits)/\True)/\True)/\∀(x:V9 l.held.length (G2 l.held)),
  (decide ((x.val:Int)<(l.held.length:Int))=true->X0 (x.val:Int) l.held.length/\∃(x_1:Lck),(((l.held.getD (x.val:Int).toNat default).tx=x_1.tx/\(l.held.getD (x.val:Int).toNat default).ta=x_1.ta/\(l.held.getD
  (x.val:Int).toNat default).row=x_1.row/\(l.held.getD (x.val:Int).toNat default).mo=x_1.mo/\True)/\True)/\((!f9 x_1)=true->false=J8 l)/\((!f9 x_1)=false->(∃(x_2:V9 x.val (k6 l.held (l.held.getD x.val
  default))),((0=0/\0=0)/\(x.val:Int)=(x.val:Int)/\(0=0/\0=0)/\(0:Int)=(x_2.val:Int)/\True)/\(1=1/\1=1/\(Y4 Y2 l.held l.held)/\(Y4 X3 l.waits l.waits)/\True)/\(1=1/\1=1/\(l.held.getD
  (x.val:Int).toNat default).tx=(l.held.getD x.val default).tx/\(l.held.getD (x.val:Int).toNat default).ta=(l.held.getD x.val default).ta/\(l.held.getD (x.val:Int).toNat default).row=(l.held.getD x.val default).row/\
  (l.held.getD (x.val:Int).toNat default).mo=(l.held.getD x.val default).mo/\True)/\True)/\∀(x_2:V9 x.val (k6 l.held (l.held.getD x.val default))),(decide ((x_2.val:Int)<(x.val:Int))=true->X0 (x_2.val:Int)
  l.held.length/\∃(x_3:(Int×Int)),(((l.held.getD x.val default).ta==(l.held.getD (x_2.val:Int).toNat default).ta&&(l.held.getD x.val default).row==(l.held.getD (x_2.val:Int).toNat default).row)=true->((l.held.getD
  x.val default).tx==(l.held.getD (x_2.val:Int).toNat default).tx&&((l.held.getD x.val default).ta==(l.held.getD (x_2.val:Int).toNat default).ta&&((l.held.getD x.val default).row==(l.held.getD (x_2.val:Int).toNat
  default).row&&((l.held.getD x.val default).mo==(l.held.getD (x_2.val:Int).toNat default).mo&&true))))=false->((l.held.getD x.val default).tx !=(l.held.getD (x_2.val:Int).toNat default).tx)=true->((l.held.getD x.val
  default).mo=x_3.fst/\(l.held.getD (x_2.val:Int).toNat default).mo=x_3.snd/\True)/\True)/\(((l.held.getD x.val default).ta==(l.held.getD (x_2.val:Int).toNat default).ta&&(l.held.getD x.val default).row==(l.held.getD
  (x_2.val:Int).toNat default).row&&((l.held.getD x.val default).tx==(l.held.getD (x_2.val:Int).toNat default).tx&&((l.held.getD x.val default).ta==(l.held.getD (x_2.val:Int).toNat default).ta&&((l.held.getD x.val
  default).row==(l.held.getD (x_2.val:Int).toNat default).row&&((l.held.getD x.val default).mo==(l.held.getD (x_2.val:Int).toNat default).mo&&true)))||(l.held.getD x.val default).tx !=(l.held.getD (x_2.val:Int).toNat
  default).tx&& !sI x_3.fst x_3.snd))=true->false=J8 l)/\(((l.held.getD x.val default).ta==(l.held.getD (x_2.val:Int).toNat default).ta&&(l.held.getD x.val default).row==(l.held.getD (x_2.val:Int).toNat
  default).row&&((l.held.getD x.val default).tx==(l.held.getD (x_2.val:Int).toNat default).tx&&((l.held.getD x.val default).ta==(l.held.getD (x_2.val:Int).toNat default).ta&&((l.held.getD x.val default).row==(l.held.getD
  (x_2.val:Int).toNat default).row&&((l.held.getD x.val default).mo==(l.held.getD (x_2.val:Int).toNat default).mo&&true)))||(l.held.getD x.val default).tx !=(l.held.getD (x_2.val:Int).toNat default).tx&& !sI x_3.fst
  x_3.snd))=false->X8 .i64 ((x_2.val:Int)+(1:Int))/\∃(y:V9 x.val (k6 l.held (l.held.getD x.val default))),(((0=0/\0=0)/\(x.val:Int)=(x.val:Int)/\(0=0/\0=0)/\(x_2.val:Int)+(1:Int)=(y.val:Int)/\
  True)/\(1=1/\1=1/\(Y4 Y2 l.held l.held)/\(Y4 X3 l.waits l.waits)/\True)/\(1=1/\1=1/\(l.held.getD x.val default).tx=(l.held.getD x.val default).tx/\(l.held.getD x.val default).ta=(l.held.getD x.val
  default).ta/\(l.held.getD x.val default).row=(l.held.getD x.val default).row/\(l.held.getD x.val default).mo=(l.held.getD x.val default).mo/\True)/\True)/\Lt (x.val-y.val) (x.val-x_2.val)))/\(decide ((x_2.val:Int)<
  (x.val:Int))=false->X8 .i64 ((x.val:Int)+(1:Int))/\∃(y:V9 l.held.length (G2 l.held)),(((0=0/\0=0)/\(x.val:Int)+(1:Int)=(y.val:Int)/\True)/\(1=1/\1=1/\(Y4 Y2 l.held l.held)/\(Y4 X3
  l.waits l.waits)/\True)/\True)/\Lt (l.held.length-y.val) (l.held.length-x.val))))/\(decide ((x.val:Int)<(l.held.length:Int))=false->(∃(x:V9 l.waits.length (I7 l.waits)),((0=0/\0=0)/\(0:Int)=
  (x.val:Int)/\True)/\(1=1/\1=1/\(Y4 Y2 l.held l.held)/\(Y4 X3 l.waits l.waits)/\True)/\True)/\∀(x:V9 l.waits.length (I7 l.waits)),(decide ((x.val:Int)<(l.waits.length:Int))=true->X0 (x.val:Int)
  l.waits.length/\((!W8 (l.waits.getD (x.val:Int).toNat default).tx (1:Int) (60:Int)|| !W8 (l.waits.getD (x.val:Int).toNat default).fo (1:Int) (60:Int)||(l.waits.getD (x.val:Int).toNat default).tx==(l.waits.getD
  (x.val:Int).toNat default).fo)=true->false=J8 l)/\((!W8 (l.waits.getD (x.val:Int).toNat default).tx (1:Int) (60:Int)|| !W8 (l.waits.getD (x.val:Int).toNat default).fo (1:Int) (60:Int)||(l.waits.getD
  (x.val:Int).toNat default).tx==(l.waits.getD (x.val:Int).toNat default).fo)=false->X8 .i64 ((x.val:Int)+(1:Int))/\∃(y:V9 l.waits.length (I7 l.waits)),(((0=0/\0=0)/\(x.val:Int)+(1:Int)=(y.val:Int)/\
  True)/\(1=1/\1=1/\(Y4 Y2 l.held l.held)/\(Y4 X3 l.waits l.waits)/\True)/\True)/\Lt (l.waits.length-y.val) (l.waits.length-x.val)))/\(decide ((x.val:Int)<(l.waits.length:Int))=false->true=J8 l)))):
  Z2 Tryz.prog 73 [.agg l.ts] (.bool (J8 l)):=
 T4 (code:=a54) (gC b3l a3O (gC b01 a05 (gC v7 F7 gN))) Tryz.func73 (by kernel_rfl) (by kernel_rfl) (a4c l) h (by kernel_rfl)
theorem b5Q(L:List Lck)(a:Lck)(k:Nat):c4F L a k=k6 L a k:=by
 unfold c4F k6 clash pL mX;generalize (a.ta==(L.getD k default).ta)=p;generalize (a.row==(L.getD k default).row)=q;generalize (a.mo==(L.getD k default).mo)=r;generalize sI a.mo (L.getD k default).mo=t;rw[show(a.tx !=(L.getD k default).tx)= !(a.tx==(L.getD k default).tx) from rfl]
 generalize (a.tx==(L.getD k default).tx)=u;cases p<;>cases q<;>cases r<;>cases t<;>cases u<;>rfl
theorem a08:Z1 Tryz.prog 73 a7R:=by
 rintro(l:Lks) ⟨hL,hw⟩;have hL:l.held.length<1000000000000:=hL;have hw:l.waits.length<1000000000000:=hw;have bh:∀i,i<l.held.length->G2 l.held i=true->false=J8 l:=fun i hi hb=>by
  have:anyI l.held.length (G2 l.held)=true:=Q0.2 ⟨i,hi,hb⟩;unfold J8;rw[this];rfl
 refine a5c l ⟨fun h=> ?_,fun h=>⟨⟨E5,⟨⟨rfl,rfl⟩,rfl,trivial⟩,⟨rfl,rfl,⟨rfl,Z9 _ _⟩,⟨rfl,Z9 _ _⟩,trivial⟩,trivial⟩,fun x=>⟨fun hc=> ?_,fun hc=>⟨⟨E5,⟨⟨rfl,rfl⟩,rfl,trivial⟩,⟨rfl,rfl,⟨rfl,Z9 _ _⟩,⟨rfl,Z9 _ _⟩,trivial⟩,trivial⟩,fun y=>⟨fun hy=> ?_,fun hy=> ?_⟩⟩⟩⟩⟩
 ·simp only[oU,t9] at h;unfold J8;rcases h with h|h
  ·rw[uY (p:=l.held.length<=60) (by omega)]
   simp
  ·rw[uY (p:=l.waits.length<=100) (by omega)]
   simp
 ·have hlt:=Y9 hc;refine⟨Y7 hlt,l.held.getD x.val default,⟨⟨rfl,rfl,rfl,rfl,trivial⟩,trivial⟩,fun hb=>bh _ hlt (by unfold G2;rw[hb];rfl),fun hb=>⟨⟨E5,⟨⟨rfl,rfl⟩,rfl,⟨rfl,rfl⟩,rfl,trivial⟩,⟨rfl,rfl,⟨rfl,Z9 _ _⟩,⟨rfl,Z9 _ _⟩,trivial⟩,⟨rfl,rfl,rfl,rfl,rfl,rfl,trivial⟩,trivial⟩,fun y=>⟨fun hy=> ?_,fun hy=> ?_⟩⟩⟩
  ·have hyt:=Y9 hy;refine⟨Y7 (by omega),((l.held.getD x.val default).mo,(l.held.getD y.val default).mo),fun _ _ _=>⟨⟨rfl,rfl,trivial⟩,trivial⟩,fun hq=> ?_,fun hq=>⟨W4 hyt (by omega),y.succ hyt ((b5Q _ _ _).symm.trans hq),⟨⟨⟨rfl,rfl⟩,rfl,⟨rfl,rfl⟩,by simp only[V9.succ];omega,trivial⟩,⟨rfl,rfl,⟨rfl,Z9 _ _⟩,⟨rfl,Z9 _ _⟩,trivial⟩,⟨rfl,rfl,rfl,rfl,rfl,rfl,trivial⟩,trivial⟩,V9.ext_lt hyt⟩⟩
   refine bh _ hlt ?_
   unfold G2;have:anyI x.val (k6 l.held (l.held.getD x.val default))=true:=Q0.2 ⟨y.val,hyt,(b5Q _ _ _).symm.trans hq⟩;rw[this,Bool.or_true]
  ·have hge:=Y3 hy;have:anyI x.val (k6 l.held (l.held.getD x.val default))=false:=M5.2 fun i hi=>y.2.2 i (xF hi hge)
   exact⟨W4 hlt (by omega),x.succ hlt (by unfold G2;rw[hb,this];rfl),⟨⟨⟨rfl,rfl⟩,by simp only[V9.succ];omega,trivial⟩,⟨rfl,rfl,⟨rfl,Z9 _ _⟩,⟨rfl,Z9 _ _⟩,trivial⟩,trivial⟩,V9.ext_lt hlt⟩
 ·have hlt:=Y9 hy;refine⟨Y7 hlt,fun hq=> ?_,fun hq=>⟨W4 hlt (by omega),y.succ hlt hq,⟨⟨⟨rfl,rfl⟩,by simp only[V9.succ];omega,trivial⟩,⟨rfl,rfl,⟨rfl,Z9 _ _⟩,⟨rfl,Z9 _ _⟩,trivial⟩,trivial⟩,V9.ext_lt hlt⟩⟩
  have:anyI l.waits.length (I7 l.waits)=true:=Q0.2 ⟨y.val,hlt,hq⟩;unfold J8;rw[this];simp
 ·have g1:=Y3 hc;have g2:=Y3 hy;have e1:anyI l.held.length (G2 l.held)=false:=M5.2 fun i hi=>x.2.2 i (xF hi g1)
  have e2:anyI l.waits.length (I7 l.waits)=false:=M5.2 fun i hi=>y.2.2 i (xF hi g2)
  simp only[vG,tV] at h;unfold J8;rw[e1,e2,jB (p:=l.held.length<=60) (by omega),jB (p:=l.waits.length<=100) (by omega)]
  rfl
end Go.Proofs.YtokaojbaacnngaaGreat

