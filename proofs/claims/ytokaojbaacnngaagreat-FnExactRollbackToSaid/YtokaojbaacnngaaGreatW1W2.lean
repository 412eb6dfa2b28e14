/- A part of the proof. -/
import Derived.Test.YtokaojbaacnngaaGreatE7E8
namespace Go.Proofs.YtokaojbaacnngaaGreat
open Go.SS

structure Val where
 k:Int
 n:Int
 t:List UInt8
 deriving Inhabited
def Val.ts(v:Val):List T:=[.int .i64 v.k,.int .i64 v.n,.str v.t]
structure Rw where
 id:Int
 n:Val
 name:Val
 deriving Inhabited
def Rw.ts(r:Rw):List T:=[.int .i64 r.id,.int .i64 r.n.k,.int .i64 r.n.n,.str r.n.t,.int .i64 r.name.k,.int .i64 r.name.n,.str r.name.t]
structure Chg where
 se:Int
 ta:Int
 row:Rw
 gone:Bool
 deriving Inhabited
def Chg.ts(c:Chg):List T:=[.int .i64 c.se,.int .i64 c.ta,.int .i64 c.row.id,.int .i64 c.row.n.k,.int .i64 c.row.n.n,.str c.row.n.t,.int .i64 c.row.name.k,.int .i64 c.row.name.n,.str c.row.name.t,.bool c.gone]
end Go.Proofs.YtokaojbaacnngaaGreat

namespace Go.Proofs.YtokaojbaacnngaaGreat
set_option maxRecDepth 100000
open Go.SS

structure Lck where
 tx:Int
 ta:Int
 row:Int
 mo:Int
 deriving Inhabited
def Lck.ts(l:Lck):List T:=[.int .i64 l.tx,.int .i64 l.ta,.int .i64 l.row,.int .i64 l.mo]
structure Wt where
 tx:Int
 fo:Int
 deriving Inhabited
def Wt.ts(w:Wt):List T:=[.int .i64 w.tx,.int .i64 w.fo]
def X7(L:List Lck)(i:Nat):List T:=(L.getD i default).ts
def yG(L:List Lck):T:=.sl 4 L.length (X7 L)
def W8(L:List Wt)(i:Nat):List T:=(L.getD i default).ts
def mU(L:List Wt):T:=.sl 2 L.length (W8 L)
structure Lks where
 held:List Lck
 waits:List Wt
 deriving Inhabited
def Lks.ts(l:Lks):List T:=[yG l.held,mU l.waits]
def dJ(l:Lks):Option Ob:=some (.arr true 1000000 2 1 λ_=>l.ts)
def qM(a b:Int):Bool:=(a !=4)&&(b !=4)&&((a==1)||(b==1)||(a==b))
def qB(a b:Lck):Bool:=(a.tx==b.tx)&&((a.ta==b.ta)&&((a.row==b.row)&&((a.mo==b.mo)&&true)))
def nG(a b:Lck):Bool:=(a.ta==b.ta)&&(a.row==b.row)
def clash(a b:Lck):Bool:=(a.tx !=b.tx)&&nG a b&& !qM a.mo b.mo
def yC(l:Lck):Bool:=W2 l.tx 1 60&&W2 l.ta 1 3&&W2 l.row (-1) 1000&&W2 l.mo 1 4&&(decide (l.row<0)||decide (l.mo≥3))
def zM(L:List Lck)(a:Lck)(k:Nat):Bool:=qB a (L.getD k default)||clash a (L.getD k default)
def E8(L:List Lck)(i:Nat):Bool:= !yC (L.getD i default)||anyI i (zM L (L.getD i default))
def F5(L:List Wt)(i:Nat):Bool:= !W2 (L.getD i default).tx 1 60|| !W2 (L.getD i default).fo 1 60||((L.getD i default).tx==(L.getD i default).fo)
def I1(l:Lks):Bool:= !anyI l.held.length (E8 l.held)&&(decide (l.held.length<=60)&&decide (l.waits.length<=100)&& !anyI l.waits.length (F5 l.waits))
def b2W(l:Lks):Prop:=M7 l.held.length/\M7 l.waits.length

def b2E:Con:=.rel ⟨Int,λn=>[.int .i64 n],λn=>.bool (W2 n 1 4),λ_=>True⟩
theorem b0Y(n:Int)(h:
  W2 n (1:Int) (4:Int)=W2 n (1:Int) (4:Int)):
  U6 Tryz.prog 263 [.int .i64 n] (.bool (W2 n 1 4)):=
 S6 (gC O5 gN) Tryz.func263 Z0 h
theorem a7a:GK 263 b2E:=gk Tryz.func263<|λn _=>b0Y n rfl
def b6T:Con:=.rel ⟨Int,λn=>[.int .i64 n],λn=>.bool (W2 n 1 60),λ_=>True⟩
theorem b70(n:Int)(h:
  W2 n (1:Int) (60:Int)=W2 n (1:Int) (60:Int)):
  U6 Tryz.prog 221 [.int .i64 n] (.bool (W2 n 1 60)):=
 S6 (gC O5 gN) Tryz.func221 Z0 h
theorem a5V:GK 221 b6T:=gk Tryz.func221<|λn _=>b70 n rfl
def b3f:Con:=.rel ⟨Lck,λl=>[.agg l.ts],λl=>.bool (yC l),λ_=>True⟩
theorem b3c(l:Lck)(h:
  ∃(x:Int),((l.tx=x/\True)/\True)/\∃(x_1:Int),((W2 x (1:Int) (60:Int)&&W2 l.ta (1:Int) (3:Int)&&W2 l.row (-1:Int) (1000:Int))=true->(l.mo=x_1/\True)/\True)/\(W2 x (1:Int) (60:Int)&&W2
  l.ta (1:Int) (3:Int)&&W2 l.row (-1:Int) (1000:Int)&&W2 x_1 (1:Int) (4:Int)&&(decide (l.row<(0:Int))||decide (l.mo≥(3:Int))))=yC l):
  U6 Tryz.prog 217 [.agg l.ts] (.bool (yC l)):=
 S6 (gC a5V (gC O5 (gC a7a gN))) Tryz.func217 Z0 h
theorem a6y:GK 217 b3f:=gk Tryz.func217<|λl _=>b3c l ⟨l.tx,⟨Z9,trivial⟩,l.mo,λ_=>⟨Z9,trivial⟩,rfl⟩
def b1L:Con:=.rel ⟨Lck,λl=>l.ts,λl=>.bool (yC l),λ_=>True⟩
theorem a8N:GK 141 b1L:=gk Tryz.func141<|by
 intro(l:Lck) _;refine S6 (gC z8 gN) Tryz.func141 Z0 (α:=(W2 l.tx (1:Int) (60:Int)&&W2 l.ta (1:Int) (3:Int)&&W2 l.row (-1:Int) (1000:Int)&&W2 l.mo (1:Int) (4:Int)&&(l.row==(-1:Int)||decide (l.mo≥(3:Int))))=yC l) ?_
 unfold yC;cases h:W2 l.row (-1) 1000
 ·simp
 ·have h':=h;unfold W2 at h';simp only[J6,o9] at h';rw[show(l.row== -1)=decide (l.row<0) by rw[Bool.eq_iff_iff,beq_iff_eq,o9];omega]
def kW:Con:=.rel ⟨Int×Int,λx=>[.int .i64 x.1,.int .i64 x.2],λx=>.bool (qM x.1 x.2),λ_=>True⟩
def b0F:Con:=kW
theorem a3B(a b:Int)(h:
  (a !=(4:Int)&&b !=(4:Int)&&(a==(1:Int)||b==(1:Int)||a==b))=qM a b):
  U6 Tryz.prog 265 [.int .i64 a,.int .i64 b] (.bool (qM a b)):=
 S6 gN Tryz.func265 Z0 h
theorem a04:GK 265 kW:=gk Tryz.func265<|λx _=>a3B x.1 x.2 rfl
theorem a7H:GK 142 b0F:=gk Tryz.func142<|by
 rintro⟨a,b⟩ _;refine S6 gN Tryz.func142 Z0 (α:=((a==(4:Int)||b==(4:Int))=true->false=qM a b)/\((a==(4:Int)||b==(4:Int))=false->((a==(1:Int)||b==(1:Int))=true->true=qM a b)/\((a==(1:Int)||b==(1:Int))=false->(a==b)=qM a b))) ⟨λh=> ?_,λh=>⟨λg=> ?_,λg=> ?_⟩⟩<;>unfold qM<;>simp at*
 ·intro h1 h2;rcases h with h|h<;>omega
 ·exact⟨h,by rcases g with g|g<;>simp[g]⟩
 ·rw[show(a !=4)=true by simpa using h.1,show(b !=4)=true by simpa using h.2,show(a==1)=false by simpa using g.1,show(b==1)=false by simpa using g.2]
  rfl
def dD:Con:=.rel ⟨Lck×Lck,λx=>[.agg x.1.ts,.agg x.2.ts],λx=>.bool (nG x.1 x.2),λ_=>True⟩
theorem eP(a b:Lck)(h:
  (a.ta==b.ta&&a.row==b.row)=nG a b):
  U6 Tryz.prog 264 [.agg a.ts,.agg b.ts] (.bool (nG a b)):=
 S6 gN Tryz.func264 Z0 h
theorem kT:GK 264 dD:=gk Tryz.func264<|λx _=>eP x.1 x.2 rfl
def a8U:Con:=.rel ⟨Lck×Lck,λx=>[.agg x.1.ts,.agg x.2.ts],λx=>.bool (clash x.1 x.2),λ_=>True⟩
theorem a7X(a b:Lck)(h:
  ∃(x:(Lck×Lck)),((a.tx !=b.tx)=true->((a.tx=x.1.tx/\a.ta=x.1.ta/\a.row=x.1.row/\a.mo=x.1.mo/\True)/\(b.tx=x.2.tx/\b.ta=x.2.ta/\b.row=x.2.row/\b.mo=x.2.mo/\True)/\True)/\True)/\∃
  (x_1:(Int×Int)),((a.tx !=b.tx&&nG x.1 x.2)=true->(a.mo=x_1.1/\b.mo=x_1.2/\True)/\True)/\(a.tx !=b.tx&&nG x.1 x.2&& !qM x_1.1 x_1.2)=clash a b):
  U6 Tryz.prog 219 [.agg a.ts,.agg b.ts] (.bool (clash a b)):=
 S6 (gC kT (gC a04 gN)) Tryz.func219 Z0 h
theorem a4s:GK 219 a8U:=gk Tryz.func219<|λx _=>a7X x.1 x.2 ⟨(x.1,x.2),λ_=>⟨⟨⟨rfl,rfl,rfl,Z9⟩,⟨rfl,rfl,rfl,Z9⟩,trivial⟩,trivial⟩,(x.1.mo,x.2.mo),λ_=>⟨⟨rfl,Z9⟩,trivial⟩,rfl⟩
def a1K:Con:=.rel ⟨Lck×Lck,λx=>[.agg x.2.ts,.bref x.1.ts],λx=>.bool (qB x.1 x.2||clash x.1 x.2),λ_=>True⟩
theorem a3f(a b:Lck)(h:
  ∃(x:(Lck×Lck)),((a.tx==b.tx&&(a.ta==b.ta&&(a.row==b.row&&(a.mo==b.mo&&true))))=false->((a.tx=x.1.tx/\a.ta=x.1.ta/\a.row=x.1.row/\a.mo=x.1.mo/\True)/\(b.tx=x.2.tx/\b.ta=x.2.ta
  /\b.row=x.2.row/\b.mo=x.2.mo/\True)/\True)/\True)/\(a.tx==b.tx&&(a.ta==b.ta&&(a.row==b.row&&(a.mo==b.mo&&true)))||clash x.1 x.2)=(qB a b||clash a b)):
  U6 Tryz.prog 218 [.agg b.ts,.bref a.ts] (.bool (qB a b||clash a b)):=
 S6 (gC a4s gN) Tryz.func218 Z0 h
theorem a0u:GK 218 a1K:=gk Tryz.func218<|λx _=>a3f x.1 x.2 ⟨(x.1,x.2),λ_=>⟨⟨⟨rfl,rfl,rfl,Z9⟩,⟨rfl,rfl,rfl,Z9⟩,trivial⟩,trivial⟩,rfl⟩
def b5g(a:Lck):T:=.fn (.func 218) [.bref a.ts]
def a7c:Con:=.rel ⟨List Lck×Nat×Lck,λx=>[.sl 4 x.2.1 (X7 x.1),b5g x.2.2],λx=>.int .i64 (M3 x.2.1 (zM x.1 x.2.2)),λx=>M7 x.2.1⟩
def a6Z(L:List Lck)(n:Nat)(a:Lck):Nat->Ann
 |0=>.one (V4 n (zM L a)) (λx=>⟨[(0,.sl 4 n (X7 L)),(1,b5g a),(7,.int .i64 n),(8,.int .i64 x.1)],[]⟩) (λx=>n-x.1) [] [] (λ_=>Z0)
 |_=>.none
theorem a3o:GK 223 a7c:=gk Tryz.func223<|by
 rintro⟨L,n,a⟩ (hL:n<1000000000000);refine S6 (gC a0u gN) Tryz.func223 (a6Z L n a) (α:=(∃(x:V4 n (zM L a)),((n=n/\Z6 n (X7 L) (X7 L))/\(Fn.func 218=Fn.func 218/\M2 (λ(x:Nat)=>none) (T.bref [T.int .i64 a.tx,T.int .i64 a.ta,T.int .i64 a.row,T.int .i64 a.mo]) (T.bref [T.int .i64 a.tx,T.int .i64 a.ta,T.int .i64 a.row,T.int .i64 a.mo])/\True)/\(n:Int)=(n:Int)/\(0:Int)=(x.val:Int)/\True)/\True)/\∀(x:V4 n (zM L a)),(decide ((x.val:Int)<(n:Int))=true->W4 (x.val:Int) n/\∃(x_1:(Lck×Lck)),((((L.getD (x.val:Int).toNat default).tx=x_1.2.tx/\(L.getD (x.val:Int).toNat default).ta=x_1.2.ta/\(L.getD (x.val:Int).toNat default).row=x_1.2.row/\(L.getD (x.val:Int).toNat default).mo=x_1.2.mo/\True)/\(a.tx=x_1.1.tx/\a.ta=x_1.1.ta/\a.row=x_1.1.row/\a.mo=x_1.1.mo/\True)/\True)/\True)/\((qB x_1.1 x_1.2||clash x_1.1 x_1.2)=true->(x.val:Int)=M3 n (zM L a))/\((qB x_1.1 x_1.2||clash x_1.1 x_1.2)=false->X4 .i64 ((x.val:Int)+(1:Int))/\∃(y:V4 n (zM L a)),(((n=n/\Z6 n (X7 L) (X7 L))/\(Fn.func 218=Fn.func 218/\M2 (λ(x:Nat)=>none) (T.bref [T.int .i64 a.tx,T.int .i64 a.ta,T.int .i64 a.row,T.int .i64 a.mo]) (T.bref [T.int .i64 a.tx,T.int .i64 a.ta,T.int .i64 a.row,T.int .i64 a.mo])/\True)/\(n:Int)=(n:Int)/\(x.val:Int)+(1:Int)=(y.val:Int)/\True)/\True)/\Lt (n-y.val) (n-x.val)))/\(decide ((x.val:Int)<(n:Int))=false->(-1:Int)=M3 n (zM L a))) ⟨⟨D5,⟨Z8,⟨rfl,R8 _,trivial⟩,rfl,Z9⟩,trivial⟩,λx=>⟨λhc=> ?_,λhc=> ?_⟩⟩
 ·have hlt:=Y1 hc;refine⟨Y2 hlt,(a,L.getD x.val default),⟨⟨⟨rfl,rfl,rfl,Z9⟩,⟨rfl,rfl,rfl,Z9⟩,trivial⟩,trivial⟩,λhp=>(H7 hlt hp x.2.2).symm,λhp=>⟨V7 hlt (by omega),x.succ hlt hp,⟨⟨Z8,⟨rfl,R8 _,trivial⟩,rfl,by simp only[V4.succ];omega,trivial⟩,trivial⟩,V4.ext_lt hlt⟩⟩
 ·have hge:=X9 hc;exact(F4 λj hj=>x.2.2 j (vV hj hge)).symm
def a8A:Con:=.rel ⟨List Lck×Nat×Lck,λx=>[.sl 4 x.2.1 (X7 x.1),b5g x.2.2],λx=>.bool (anyI x.2.1 (zM x.1 x.2.2)),λx=>M7 x.2.1⟩
theorem a6r(L:List Lck)(n:Nat)(a:Lck)(h:
  ∃(x:(List Lck×Nat×Lck)),(((n=x.2.1/\Z6 n (X7 L) (X7 x.1))/\(Fn.func 218=Fn.func 218/\(a.tx=x.2.2.tx/\a.ta=x.2.2.ta/\a.row=x.2.2.row/\a.mo=x.2.2.mo/\True)/\True)/\True)
  /\M7 x.2.1)/\decide (M3 x.2.1 (zM x.1 x.2.2)≥(0:Int))=anyI n (zM L a)):
  U6 Tryz.prog 158 [.sl 4 n (X7 L),b5g a] (.bool (anyI n (zM L a))):=
 S6 (gC a3o gN) Tryz.func158 Z0 h
theorem a16:GK 158 a8A:=gk Tryz.func158<|λx hL=>a6r x.1 x.2.1 x.2.2 ⟨x,⟨⟨Z8,⟨rfl,⟨rfl,rfl,rfl,Z9⟩,trivial⟩,trivial⟩,hL⟩,z7 _ _⟩
def a2z:Con:=.rel ⟨List Wt×Nat,λx=>[.agg (x.1.getD x.2 default).ts],λx=>.bool (F5 x.1 x.2),λ_=>True⟩
theorem a2c(L:List Wt)(i:Nat)(h:
  ∃(x:Int),(((L.getD i default).tx=x/\True)/\True)/\∃(x_1:Int),((!W2 x (1:Int) (60:Int))=false->((L.getD i default).fo=x_1/\True)/\True)/\(!W2 x (1:Int) (60:Int)|| !W2 x_1 (1:Int) (60:Int)||
  (L.getD i default).tx==(L.getD i default).fo)=F5 L i):
  U6 Tryz.prog 220 [.agg (L.getD i default).ts] (.bool (F5 L i)):=
 S6 (gC a5V gN) Tryz.func220 Z0 h
theorem a0N:GK 220 a2z:=gk Tryz.func220<|λx _=>a2c x.1 x.2 ⟨_,⟨Z9,trivial⟩,_,λ_=>⟨Z9,trivial⟩,rfl⟩
def b0u:Con:=.rel ⟨List Wt,λL=>[mU L,fnT 220],λL=>.int .i64 (M3 L.length (F5 L)),λL=>M7 L.length⟩
def b1E(L:List Wt):Nat->Ann
 |0=>.one (V4 L.length (F5 L)) (λx=>⟨[(0,mU L),(1,fnT 220),(7,.int .i64 L.length),(8,.int .i64 x.1)],[]⟩) (λx=>L.length-x.1) [] [] (λ_=>Z0)
 |_=>.none
theorem a7n:GK 224 b0u:=gk Tryz.func224<|by
 intro(L:List Wt) (hL:L.length<1000000000000);refine S6 (gC a0N gN) Tryz.func224 (b1E L) (α:=(∃(x:V4 L.length (F5 L)),((Y5 W8 L L)/\Value.func (Fn.func 220) #[] #[]=Value.func (Fn.func 220) #[] #[]/\(L.length:Int)=(L.length:Int)/\(0:Int)=(x.val:Int)/\True)/\True)/\∀(x:V4 L.length (F5 L)),(decide ((x.val:Int)<(L.length:Int))=true->W4 (x.val:Int) L.length/\∃(x_1:(List Wt×Nat)),((((L.getD (x.val:Int).toNat default).tx=(x_1.1.getD x_1.2 default).tx/\(L.getD (x.val:Int).toNat default).fo=(x_1.1.getD x_1.2 default).fo/\True)/\True)/\True)/\(F5 x_1.1 x_1.2=true->(x.val:Int)=M3 L.length (F5 L))/\(F5 x_1.1 x_1.2=false->X4 .i64 ((x.val:Int)+(1:Int))/\∃(y:V4 L.length (F5 L)),(((Y5 W8 L L)/\Value.func (Fn.func 220) #[] #[]=Value.func (Fn.func 220) #[] #[]/\(L.length:Int)=(L.length:Int)/\(x.val:Int)+(1:Int)=(y.val:Int)/\True)/\True)/\Lt (L.length-y.val) (L.length-x.val)))/\(decide ((x.val:Int)<(L.length:Int))=false->(-1:Int)=M3 L.length (F5 L))) ⟨⟨D5,⟨Z8,rfl,rfl,Z9⟩,trivial⟩,λx=>⟨λhc=> ?_,λhc=> ?_⟩⟩
 ·have hlt:=Y1 hc;refine⟨Y2 hlt,(L,x.val),⟨⟨⟨rfl,Z9⟩,trivial⟩,trivial⟩,λhp=>(H7 hlt hp x.2.2).symm,λhp=>⟨V7 hlt (by omega),x.succ hlt hp,⟨⟨Z8,rfl,rfl,by simp only[V4.succ];omega,trivial⟩,trivial⟩,V4.ext_lt hlt⟩⟩
 ·have hge:=X9 hc;exact(F4 λj hj=>x.2.2 j (vV hj hge)).symm
def a9Z:Con:=.rel ⟨List Wt,λL=>[mU L,fnT 220],λL=>.bool (anyI L.length (F5 L)),λL=>M7 L.length⟩
theorem a9o(L:List Wt)(h:
  ∃(x:(List Wt)),(((L.length=List.length x/\Z6 L.length (W8 L) (W8 x))/\Value.func (Fn.func 220) #[] #[]=Value.func (Fn.func 220) #[] #[]/\True)/\M7 (List.length x))/\decide (M3 (List.length x) (F5 x)≥
  (0:Int))=anyI L.length (F5 L)):
  U6 Tryz.prog 160 [mU L,fnT 220] (.bool (anyI L.length (F5 L))):=
 S6 (gC a7n gN) Tryz.func160 Z0 h
theorem a7f:GK 160 a9Z:=gk Tryz.func160<|λ(L:List Wt) hL=>a9o L ⟨L,⟨⟨Z8,Z9⟩,hL⟩,z7 _ _⟩
def vJ:Rl:=⟨Lks,λl=>[.agg l.ts],λl=>.bool (I1 l),b2W⟩
def a2O:Con:=.rel vJ
def a4l:Con:=.rel vJ
def a1X(l:Lks):Nat->Ann
 |0=>.one (V4 l.held.length (E8 l.held)) (λx=>⟨[(1,.ref 0 0 0),(6,yG l.held),(7,.int .i64 l.held.length),(8,.int .i64 x.1)],[dJ l]⟩) (λx=>l.held.length-x.1) [.box 0] [.box 0] (λ_=>Z0)
 |_=>.none
theorem a0T:GK 156 a2O:=gk Tryz.func156<|by
 rintro(l:Lks) ⟨hL,hw⟩;have hL:l.held.length<1000000000000:=hL;refine S6 (gC a6y (gC a16 (gC a7f gN))) Tryz.func156 (a1X l) (α:=(∃(x:V4 l.held.length (E8 l.held)),((0=0/\0=0)/\(Y5 X7 l.held l.held)/\(l.held.length:Int)=(l.held.length:Int)/\(0:Int)=(x.val:Int)/\True)/\(1=1/\1=1/\(Y5 X7 l.held l.held)/\(Y5 W8 l.waits l.waits)/\True)/\True)/\∀(x:V4 l.held.length (E8 l.held)),(decide ((x.val:Int)<(l.held.length:Int))=true->W4 (x.val:Int) l.held.length/\∃(x_1:Lck),((((l.held.getD (x.val:Int).toNat default).tx=x_1.tx/\(l.held.getD (x.val:Int).toNat default).ta=x_1.ta/\(l.held.getD (x.val:Int).toNat default).row=x_1.row/\(l.held.getD (x.val:Int).toNat default).mo=x_1.mo/\True)/\True)/\True)/\((!yC x_1)=false->InC (x.val:Int) l.held.length)/\∃(x_2:(List Lck×Nat×Lck)),((!yC x_1)=false->(((x.val:Int).toNat=x_2.2.1/\Z6 (x.val:Int).toNat (X7 l.held) (X7 x_2.1))/\(Fn.func 218=Fn.func 218/\((l.held.getD (x.val:Int).toNat default).tx=x_2.2.2.tx/\(l.held.getD (x.val:Int).toNat default).ta=x_2.2.2.ta/\(l.held.getD (x.val:Int).toNat default).row=x_2.2.2.row/\(l.held.getD (x.val:Int).toNat default).mo=x_2.2.2.mo/\True)/\True)/\True)/\M7 x_2.2.1)/\((!yC x_1||anyI x_2.2.1 (zM x_2.1 x_2.2.2))=true->false=I1 l)/\((!yC x_1||anyI x_2.2.1 (zM x_2.1 x_2.2.2))=false->X4 .i64 ((x.val:Int)+(1:Int))/\∃(y:V4 l.held.length (E8 l.held)),(((0=0/\0=0)/\(Y5 X7 l.held l.held)/\(l.held.length:Int)=(l.held.length:Int)/\(x.val:Int)+(1:Int)=(y.val:Int)/\True)/\(1=1/\1=1/\(Y5 X7 l.held l.held)/\(Y5 W8 l.waits l.waits)/\True)/\True)/\Lt (l.held.length-y.val) (l.held.length-x.val)))/\(decide ((x.val:Int)<(l.held.length:Int))=false->∃(x:(List Wt)),((decide ((l.held.length:Int)<=(60:Int))&&decide ((l.waits.length:Int)<=(100:Int)))=true->((l.waits.length=List.length x/\Z6 l.waits.length (W8 l.waits) (W8 x))/\Value.func (Fn.func 220) #[] #[]=Value.func (Fn.func 220) #[] #[]/\True)/\M7 (List.length x))/\(decide ((l.held.length:Int)<=(60:Int))&&decide ((l.waits.length:Int)<=(100:Int))&& !anyI (List.length x) (F5 x))=I1 l)) ⟨⟨D5,⟨Z7,Z8,rfl,Z9⟩,⟨rfl,rfl,Z8,X8⟩,trivial⟩,λx=>⟨λhc=> ?_,λhc=> ?_⟩⟩
 ·have hlt:=Y1 hc;refine⟨Y2 hlt,l.held.getD x.val default,⟨⟨⟨rfl,rfl,rfl,Z9⟩,trivial⟩,trivial⟩,λ_=>⟨by omega,by omega⟩,(l.held,x.val,l.held.getD x.val default),λ_=>⟨⟨⟨by simp only;omega,Z2 _ _⟩,⟨rfl,⟨rfl,rfl,rfl,rfl,trivial⟩,trivial⟩,trivial⟩,by show x.val<1000000000000;omega⟩,λhb=> ?_,λhb=>⟨V7 hlt (by omega),x.succ hlt hb,⟨⟨Z7,Z8,rfl,by simp only[V4.succ];omega,trivial⟩,⟨rfl,rfl,⟨rfl,Z2 _ _⟩,⟨rfl,Z2 _ _⟩,trivial⟩,trivial⟩,V4.ext_lt hlt⟩⟩
  have:anyI l.held.length (E8 l.held)=true:=O1.2 ⟨x.val,hlt,hb⟩;unfold I1;rw[this];rfl
 ·have hge:=X9 hc;have:anyI l.held.length (E8 l.held)=false:=K2.2 λi hi=>x.2.2 i (vV hi hge)
  refine⟨l.waits,λ_=>⟨⟨Z8,Z9⟩,hw⟩,?_⟩
  unfold I1;rw[this,Bool.not_false,Bool.true_and];congr 2<;>exact decide_eq_decide.2 (by omega)
def b6o(L:List Lck)(a:Lck)(k:Nat):Bool:=(a.ta==(L.getD k default).ta)&&(a.row==(L.getD k default).row)&&(qB a (L.getD k default)||(a.tx !=(L.getD k default).tx)&& !qM a.mo (L.getD k default).mo)
def a3C(l:Lks):Nat->Ann
 |0=>.one (V4 l.held.length (E8 l.held)) (λx=>⟨[(1,.ref 0 0 0),(3,.int .i64 x.1)],[dJ l]⟩) (λx=>l.held.length-x.1) [.box 0] [.box 0] (λx=>fun
  |1=>.one (V4 x.1 (zM l.held (l.held.getD x.1 default))) (λy=>⟨[(1,.ref 0 0 0),(3,.int .i64 x.1),(4,.ref 1 0 0),(5,.int .i64 y.1)],[dJ l,some (.arr true 1000000 4 1 λ_=>(l.held.getD x.1 default).ts)]⟩) (λy=>x.1-y.1) [.box 0,.box 1] [.box 0,.box 1] (λ_=>Z0)
  |2=>.one (V4 l.waits.length (F5 l.waits)) (λy=>⟨[(1,.ref 0 0 0),(7,.int .i64 y.1)],[dJ l]⟩) (λy=>l.waits.length-y.1) [.box 0] [.box 0] (λ_=>Z0)
  |_=>.none)
 |_=>.none
theorem b24(L:List Lck)(a:Lck)(k:Nat):b6o L a k=zM L a k:=by
 unfold b6o zM clash qB nG;generalize (a.ta==(L.getD k default).ta)=p;generalize (a.row==(L.getD k default).row)=q;generalize (a.mo==(L.getD k default).mo)=r;generalize qM a.mo (L.getD k default).mo=t;rw[show(a.tx !=(L.getD k default).tx)= !(a.tx==(L.getD k default).tx) from rfl]
 generalize (a.tx==(L.getD k default).tx)=u;cases p<;>cases q<;>cases r<;>cases t<;>cases u<;>rfl
theorem a0I:GK 73 a4l:=gk Tryz.func73<|by
 rintro(l:Lks) ⟨hL,hw⟩;have hL:l.held.length<1000000000000:=hL;have hw:l.waits.length<1000000000000:=hw;have bh:∀i,i<l.held.length->E8 l.held i=true->false=I1 l:=λi hi hb=>by
  have:anyI l.held.length (E8 l.held)=true:=O1.2 ⟨i,hi,hb⟩;unfold I1;rw[this];rfl
 refine S6 (gC a8N (gC a7H (gC z8 gN))) Tryz.func73 (a3C l) (α:=((decide ((l.held.length:Int)>(60:Int))||decide ((l.waits.length:Int)>(100:Int)))=true->false=I1 l)/\((decide ((l.held.length:Int)>(60:Int))||decide ((l.waits.length:Int)>(100:Int)))=false->(∃(x:V4 l.held.length (E8 l.held)),((0=0/\0=0)/\(0:Int)=(x.val:Int)/\True)/\(1=1/\1=1/\(Y5 X7 l.held l.held)/\(Y5 W8 l.waits l.waits)/\True)/\True)/\∀(x:V4 l.held.length (E8 l.held)),(decide ((x.val:Int)<(l.held.length:Int))=true->W4 (x.val:Int) l.held.length/\∃(x_1:Lck),(((l.held.getD (x.val:Int).toNat default).tx=x_1.tx/\(l.held.getD (x.val:Int).toNat default).ta=x_1.ta/\(l.held.getD (x.val:Int).toNat default).row=x_1.row/\(l.held.getD (x.val:Int).toNat default).mo=x_1.mo/\True)/\True)/\((!yC x_1)=true->false=I1 l)/\((!yC x_1)=false->(∃(x_2:V4 x.val (zM l.held (l.held.getD x.val default))),((0=0/\0=0)/\(x.val:Int)=(x.val:Int)/\(0=0/\0=0)/\(0:Int)=(x_2.val:Int)/\True)/\(1=1/\1=1/\(Y5 X7 l.held l.held)/\(Y5 W8 l.waits l.waits)/\True)/\(1=1/\1=1/\(l.held.getD (x.val:Int).toNat default).tx=(l.held.getD x.val default).tx/\(l.held.getD (x.val:Int).toNat default).ta=(l.held.getD x.val default).ta/\(l.held.getD (x.val:Int).toNat default).row=(l.held.getD x.val default).row/\(l.held.getD (x.val:Int).toNat default).mo=(l.held.getD x.val default).mo/\True)/\True)/\∀(x_2:V4 x.val (zM l.held (l.held.getD x.val default))),(decide ((x_2.val:Int)<(x.val:Int))=true->W4 (x_2.val:Int) l.held.length/\∃(x_3:(Int×Int)),(((l.held.getD x.val default).ta==(l.held.getD (x_2.val:Int).toNat default).ta&&(l.held.getD x.val default).row==(l.held.getD (x_2.val:Int).toNat default).row)=true->((l.held.getD x.val default).tx==(l.held.getD (x_2.val:Int).toNat default).tx&&((l.held.getD x.val default).ta==(l.held.getD (x_2.val:Int).toNat default).ta&&((l.held.getD x.val default).row==(l.held.getD (x_2.val:Int).toNat default).row&&((l.held.getD x.val default).mo==(l.held.getD (x_2.val:Int).toNat default).mo&&true))))=false->((l.held.getD x.val default).tx !=(l.held.getD (x_2.val:Int).toNat default).tx)=true->((l.held.getD x.val default).mo=x_3.1/\(l.held.getD (x_2.val:Int).toNat default).mo=x_3.2/\True)/\True)/\(((l.held.getD x.val default).ta==(l.held.getD (x_2.val:Int).toNat default).ta&&(l.held.getD x.val default).row==(l.held.getD (x_2.val:Int).toNat default).row&&((l.held.getD x.val default).tx==(l.held.getD (x_2.val:Int).toNat default).tx&&((l.held.getD x.val default).ta==(l.held.getD (x_2.val:Int).toNat default).ta&&((l.held.getD x.val default).row==(l.held.getD (x_2.val:Int).toNat default).row&&((l.held.getD x.val default).mo==(l.held.getD (x_2.val:Int).toNat default).mo&&true)))||(l.held.getD x.val default).tx !=(l.held.getD (x_2.val:Int).toNat default).tx&& !qM x_3.1 x_3.2))=true->false=I1 l)/\(((l.held.getD x.val default).ta==(l.held.getD (x_2.val:Int).toNat default).ta&&(l.held.getD x.val default).row==(l.held.getD (x_2.val:Int).toNat default).row&&((l.held.getD x.val default).tx==(l.held.getD (x_2.val:Int).toNat default).tx&&((l.held.getD x.val default).ta==(l.held.getD (x_2.val:Int).toNat default).ta&&((l.held.getD x.val default).row==(l.held.getD (x_2.val:Int).toNat default).row&&((l.held.getD x.val default).mo==(l.held.getD (x_2.val:Int).toNat default).mo&&true)))||(l.held.getD x.val default).tx !=(l.held.getD (x_2.val:Int).toNat default).tx&& !qM x_3.1 x_3.2))=false->X4 .i64 ((x_2.val:Int)+(1:Int))/\∃(y:V4 x.val (zM l.held (l.held.getD x.val default))),(((0=0/\0=0)/\(x.val:Int)=(x.val:Int)/\(0=0/\0=0)/\(x_2.val:Int)+(1:Int)=(y.val:Int)/\True)/\(1=1/\1=1/\(Y5 X7 l.held l.held)/\(Y5 W8 l.waits l.waits)/\True)/\(1=1/\1=1/\(l.held.getD x.val default).tx=(l.held.getD x.val default).tx/\(l.held.getD x.val default).ta=(l.held.getD x.val default).ta/\(l.held.getD x.val default).row=(l.held.getD x.val default).row/\(l.held.getD x.val default).mo=(l.held.getD x.val default).mo/\True)/\True)/\Lt (x.val-y.val) (x.val-x_2.val)))/\(decide ((x_2.val:Int)<(x.val:Int))=false->X4 .i64 ((x.val:Int)+(1:Int))/\∃(y:V4 l.held.length (E8 l.held)),(((0=0/\0=0)/\(x.val:Int)+(1:Int)=(y.val:Int)/\True)/\(1=1/\1=1/\(Y5 X7 l.held l.held)/\(Y5 W8 l.waits l.waits)/\True)/\True)/\Lt (l.held.length-y.val) (l.held.length-x.val))))/\(decide ((x.val:Int)<(l.held.length:Int))=false->(∃(x:V4 l.waits.length (F5 l.waits)),((0=0/\0=0)/\(0:Int)=(x.val:Int)/\True)/\(1=1/\1=1/\(Y5 X7 l.held l.held)/\(Y5 W8 l.waits l.waits)/\True)/\True)/\∀(x:V4 l.waits.length (F5 l.waits)),(decide ((x.val:Int)<(l.waits.length:Int))=true->W4 (x.val:Int) l.waits.length/\((!W2 (l.waits.getD (x.val:Int).toNat default).tx (1:Int) (60:Int)|| !W2 (l.waits.getD (x.val:Int).toNat default).fo (1:Int) (60:Int)||(l.waits.getD (x.val:Int).toNat default).tx==(l.waits.getD (x.val:Int).toNat default).fo)=true->false=I1 l)/\((!W2 (l.waits.getD (x.val:Int).toNat default).tx (1:Int) (60:Int)|| !W2 (l.waits.getD (x.val:Int).toNat default).fo (1:Int) (60:Int)||(l.waits.getD (x.val:Int).toNat default).tx==(l.waits.getD (x.val:Int).toNat default).fo)=false->X4 .i64 ((x.val:Int)+(1:Int))/\∃(y:V4 l.waits.length (F5 l.waits)),(((0=0/\0=0)/\(x.val:Int)+(1:Int)=(y.val:Int)/\True)/\(1=1/\1=1/\(Y5 X7 l.held l.held)/\(Y5 W8 l.waits l.waits)/\True)/\True)/\Lt (l.waits.length-y.val) (l.waits.length-x.val)))/\(decide ((x.val:Int)<(l.waits.length:Int))=false->true=I1 l)))) ⟨λh=> ?_,λh=>⟨⟨D5,⟨Z7,Z9⟩,⟨rfl,rfl,Z8,X8⟩,trivial⟩,λx=>⟨λhc=> ?_,λhc=>⟨⟨D5,⟨Z7,Z9⟩,⟨rfl,rfl,Z8,X8⟩,trivial⟩,λy=>⟨λhy=> ?_,λhy=> ?_⟩⟩⟩⟩⟩
 ·simp only[oQ,o9] at h;unfold I1;rcases h with h|h
  ·rw[uK (p:=l.held.length<=60) (by omega)]
   simp
  ·rw[uK (p:=l.waits.length<=100) (by omega)]
   simp
 ·have hlt:=Y1 hc;refine⟨Y2 hlt,l.held.getD x.val default,⟨⟨rfl,rfl,rfl,Z9⟩,trivial⟩,λhb=>bh _ hlt (by unfold E8;rw[hb];rfl),λhb=>⟨⟨D5,⟨Z7,rfl,Z7,Z9⟩,⟨rfl,rfl,Z8,X8⟩,⟨rfl,rfl,rfl,rfl,rfl,Z9⟩,trivial⟩,λy=>⟨λhy=> ?_,λhy=> ?_⟩⟩⟩
  ·have hyt:=Y1 hy;refine⟨Y2 (by omega),((l.held.getD x.val default).mo,(l.held.getD y.val default).mo),λ_ _ _=>⟨⟨rfl,Z9⟩,trivial⟩,λhq=> ?_,λhq=>⟨V7 hyt (by omega),y.succ hyt ((b24 _ _ _).symm.trans hq),⟨⟨Z7,rfl,Z7,by simp only[V4.succ];omega,trivial⟩,⟨rfl,rfl,⟨rfl,Z2 _ _⟩,⟨rfl,Z2 _ _⟩,trivial⟩,⟨rfl,rfl,rfl,rfl,rfl,rfl,trivial⟩,trivial⟩,V4.ext_lt hyt⟩⟩
   refine bh _ hlt ?_
   unfold E8;have:anyI x.val (zM l.held (l.held.getD x.val default))=true:=O1.2 ⟨y.val,hyt,(b24 _ _ _).symm.trans hq⟩;rw[this,Bool.or_true]
  ·have hge:=X9 hy;have:anyI x.val (zM l.held (l.held.getD x.val default))=false:=K2.2 λi hi=>y.2.2 i (vV hi hge)
   exact⟨V7 hlt (by omega),x.succ hlt (by unfold E8;rw[hb,this];rfl),⟨⟨⟨rfl,rfl⟩,by simp only[V4.succ];omega,trivial⟩,⟨rfl,rfl,⟨rfl,Z2 _ _⟩,⟨rfl,Z2 _ _⟩,trivial⟩,trivial⟩,V4.ext_lt hlt⟩
 ·have hlt:=Y1 hy;refine⟨Y2 hlt,λhq=> ?_,λhq=>⟨V7 hlt (by omega),y.succ hlt hq,⟨⟨Z7,by simp only[V4.succ];omega,trivial⟩,⟨rfl,rfl,⟨rfl,Z2 _ _⟩,⟨rfl,Z2 _ _⟩,trivial⟩,trivial⟩,V4.ext_lt hlt⟩⟩
  have:anyI l.waits.length (F5 l.waits)=true:=O1.2 ⟨y.val,hlt,hq⟩;unfold I1;rw[this];simp
 ·have g1:=X9 hc;have g2:=X9 hy;have e1:anyI l.held.length (E8 l.held)=false:=K2.2 λi hi=>x.2.2 i (vV hi g1)
  have e2:anyI l.waits.length (F5 l.waits)=false:=K2.2 λi hi=>y.2.2 i (vV hi g2)
  simp only[uL,tW] at h;unfold I1;rw[e1,e2,iZ (p:=l.held.length<=60) (by omega),iZ (p:=l.waits.length<=100) (by omega)]
  rfl
end Go.Proofs.YtokaojbaacnngaaGreat

