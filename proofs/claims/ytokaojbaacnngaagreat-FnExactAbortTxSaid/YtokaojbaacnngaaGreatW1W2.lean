/- A part of the proof. -/
import Derived.Test.YtokaojbaacnngaaGreatE7E8
namespace Go.Proofs.YtokaojbaacnngaaGreat
open Go.SS

structure Val where
 k:Int
 n:Int
 t:List UInt8
 deriving Inhabited
def Val.ts(v:Val):List T:=[.int .i64 v.k,.int .i64 v.n,.str v.t]
structure Rw where
 id:Int
 n:Val
 name:Val
 deriving Inhabited
def Rw.ts(r:Rw):List T:=[.int .i64 r.id,.int .i64 r.n.k,.int .i64 r.n.n,.str r.n.t,.int .i64 r.name.k,.int .i64 r.name.n,.str r.name.t]
structure Chg where
 se:Int
 ta:Int
 row:Rw
 gone:Bool
 deriving Inhabited
def Chg.ts(c:Chg):List T:=[.int .i64 c.se,.int .i64 c.ta,.int .i64 c.row.id,.int .i64 c.row.n.k,.int .i64 c.row.n.n,.str c.row.n.t,.int .i64 c.row.name.k,.int .i64 c.row.name.n,.str c.row.name.t,.bool c.gone]
end Go.Proofs.YtokaojbaacnngaaGreat

namespace Go.Proofs.YtokaojbaacnngaaGreat
set_option maxRecDepth 100000
open Go.SS

structure Lck where
 tx:Int
 ta:Int
 row:Int
 mo:Int
 deriving Inhabited
def Lck.ts(l:Lck):List T:=[.int .i64 l.tx,.int .i64 l.ta,.int .i64 l.row,.int .i64 l.mo]
structure Wt where
 tx:Int
 fo:Int
 deriving Inhabited
def Wt.ts(w:Wt):List T:=[.int .i64 w.tx,.int .i64 w.fo]
def Y5(L:List Lck)(i:Nat):List T:=(L.getD i default).ts
def zJ(L:List Lck):T:=.sl 4 L.length (Y5 L)
def X6(L:List Wt)(i:Nat):List T:=(L.getD i default).ts
def oP(L:List Wt):T:=.sl 2 L.length (X6 L)
structure Lks where
 held:List Lck
 waits:List Wt
 deriving Inhabited
def Lks.ts(l:Lks):List T:=[zJ l.held,oP l.waits]
def eH(l:Lks):Option Ob:=some (.arr true 1000000 2 1 λ_=>l.ts)
def pR(a b:Int):Bool:=(a !=4)&&(b !=4)&&((a==1)||(b==1)||(a==b))
def oY(a b:Lck):Bool:=(a.tx==b.tx)&&((a.ta==b.ta)&&((a.row==b.row)&&((a.mo==b.mo)&&true)))
def lF(a b:Lck):Bool:=(a.ta==b.ta)&&(a.row==b.row)
def clash(a b:Lck):Bool:=(a.tx !=b.tx)&&lF a b&& !pR a.mo b.mo
def xQ(l:Lck):Bool:=V6 l.tx 1 60&&V6 l.ta 1 3&&V6 l.row (-1) 1000&&V6 l.mo 1 4&&(decide (l.row<0)||decide (l.mo≥3))
def zE(L:List Lck)(a:Lck)(k:Nat):Bool:=oY a (L.getD k default)||clash a (L.getD k default)
def E5(L:List Lck)(i:Nat):Bool:= !xQ (L.getD i default)||anyI i (zE L (L.getD i default))
def F2(L:List Wt)(i:Nat):Bool:= !V6 (L.getD i default).tx 1 60|| !V6 (L.getD i default).fo 1 60||((L.getD i default).tx==(L.getD i default).fo)
def H5(l:Lks):Bool:= !anyI l.held.length (E5 l.held)&&(decide (l.held.length<=60)&&decide (l.waits.length<=100)&& !anyI l.waits.length (F2 l.waits))
def b0K(l:Lks):Prop:=N3 l.held.length/\N3 l.waits.length

def b2N:Con:=.rel ⟨Int,λn=>[.int .i64 n],λn=>.bool (V6 n 1 4),λ_=>True⟩
theorem b1R(n:Int)(h:
  V6 n (1:Int) (4:Int)=V6 n (1:Int) (4:Int)):
  U3 Tryz.prog 263 [.int .i64 n] (.bool (V6 n 1 4)):=
 S3 (gC N4 gN) Tryz.func263 Z0 h
theorem a8W:GK 263 b2N:=gk Tryz.func263<|λn _=>b1R n rfl
def b8D:Con:=.rel ⟨Int,λn=>[.int .i64 n],λn=>.bool (V6 n 1 60),λ_=>True⟩
theorem b9O(n:Int)(h:
  V6 n (1:Int) (60:Int)=V6 n (1:Int) (60:Int)):
  U3 Tryz.prog 221 [.int .i64 n] (.bool (V6 n 1 60)):=
 S3 (gC N4 gN) Tryz.func221 Z0 h
theorem a47:GK 221 b8D:=gk Tryz.func221<|λn _=>b9O n rfl
def b3M:Con:=.rel ⟨Lck,λl=>[.agg l.ts],λl=>.bool (xQ l),λ_=>True⟩
theorem b0w(l:Lck)(h:
  ∃(x:Int),((l.tx=x/\True)/\True)/\∃(x_1:Int),((V6 x (1:Int) (60:Int)&&V6 l.ta (1:Int) (3:Int)&&V6 l.row (-1:Int) (1000:Int))=true->(l.mo=x_1/\True)/\True)/\(V6 x (1:Int) (60:Int)&&V6
  l.ta (1:Int) (3:Int)&&V6 l.row (-1:Int) (1000:Int)&&V6 x_1 (1:Int) (4:Int)&&(decide (l.row<(0:Int))||decide (l.mo≥(3:Int))))=xQ l):
  U3 Tryz.prog 217 [.agg l.ts] (.bool (xQ l)):=
 S3 (gC a47 (gC N4 (gC a8W gN))) Tryz.func217 Z0 h
theorem a9p:GK 217 b3M:=gk Tryz.func217<|λl _=>b0w l ⟨l.tx,⟨Z9,trivial⟩,l.mo,λ_=>⟨Z9,trivial⟩,rfl⟩
def b1f:Con:=.rel ⟨Lck,λl=>l.ts,λl=>.bool (xQ l),λ_=>True⟩
theorem a9v:GK 141 b1f:=gk Tryz.func141<|by
 intro(l:Lck) _;refine S3 (gC o8 gN) Tryz.func141 Z0 (α:=(V6 l.tx (1:Int) (60:Int)&&V6 l.ta (1:Int) (3:Int)&&V6 l.row (-1:Int) (1000:Int)&&V6 l.mo (1:Int) (4:Int)&&(l.row==(-1:Int)||decide (l.mo≥(3:Int))))=xQ l) ?_
 unfold xQ;cases h:V6 l.row (-1) 1000
 ·simp
 ·have h':=h;unfold V6 at h';simp only[I3,m5] at h';rw[show(l.row== -1)=decide (l.row<0) by rw[Bool.eq_iff_iff,beq_iff_eq,m5];omega]
def kX:Con:=.rel ⟨Int×Int,λx=>[.int .i64 x.1,.int .i64 x.2],λx=>.bool (pR x.1 x.2),λ_=>True⟩
def b11:Con:=kX
theorem a4y(a b:Int)(h:
  (a !=(4:Int)&&b !=(4:Int)&&(a==(1:Int)||b==(1:Int)||a==b))=pR a b):
  U3 Tryz.prog 265 [.int .i64 a,.int .i64 b] (.bool (pR a b)):=
 S3 gN Tryz.func265 Z0 h
theorem aU:GK 265 kX:=gk Tryz.func265<|λx _=>a4y x.1 x.2 rfl
theorem a7B:GK 142 b11:=gk Tryz.func142<|by
 rintro⟨a,b⟩ _;refine S3 gN Tryz.func142 Z0 (α:=((a==(4:Int)||b==(4:Int))=true->false=pR a b)/\((a==(4:Int)||b==(4:Int))=false->((a==(1:Int)||b==(1:Int))=true->true=pR a b)/\((a==(1:Int)||b==(1:Int))=false->(a==b)=pR a b))) ⟨λh=> ?_,λh=>⟨λg=> ?_,λg=> ?_⟩⟩<;>unfold pR<;>simp at*
 ·intro h1 h2;rcases h with h|h<;>omega
 ·exact⟨h,by rcases g with g|g<;>simp[g]⟩
 ·rw[show(a !=4)=true by simpa using h.1,show(b !=4)=true by simpa using h.2,show(a==1)=false by simpa using g.1,show(b==1)=false by simpa using g.2]
  rfl
def bW:Con:=.rel ⟨Lck×Lck,λx=>[.agg x.1.ts,.agg x.2.ts],λx=>.bool (lF x.1 x.2),λ_=>True⟩
theorem eL(a b:Lck)(h:
  (a.ta==b.ta&&a.row==b.row)=lF a b):
  U3 Tryz.prog 264 [.agg a.ts,.agg b.ts] (.bool (lF a b)):=
 S3 gN Tryz.func264 Z0 h
theorem kA:GK 264 bW:=gk Tryz.func264<|λx _=>eL x.1 x.2 rfl
def a9n:Con:=.rel ⟨Lck×Lck,λx=>[.agg x.1.ts,.agg x.2.ts],λx=>.bool (clash x.1 x.2),λ_=>True⟩
theorem a7P(a b:Lck)(h:
  ∃(x:(Lck×Lck)),((a.tx !=b.tx)=true->((a.tx=x.1.tx/\a.ta=x.1.ta/\a.row=x.1.row/\a.mo=x.1.mo/\True)/\(b.tx=x.2.tx/\b.ta=x.2.ta/\b.row=x.2.row/\b.mo=x.2.mo/\True)/\True)/\True)/\∃
  (x_1:(Int×Int)),((a.tx !=b.tx&&lF x.1 x.2)=true->(a.mo=x_1.1/\b.mo=x_1.2/\True)/\True)/\(a.tx !=b.tx&&lF x.1 x.2&& !pR x_1.1 x_1.2)=clash a b):
  U3 Tryz.prog 219 [.agg a.ts,.agg b.ts] (.bool (clash a b)):=
 S3 (gC kA (gC aU gN)) Tryz.func219 Z0 h
theorem a4n:GK 219 a9n:=gk Tryz.func219<|λx _=>a7P x.1 x.2 ⟨(x.1,x.2),λ_=>⟨⟨⟨rfl,rfl,rfl,Z9⟩,⟨rfl,rfl,rfl,Z9⟩,trivial⟩,trivial⟩,(x.1.mo,x.2.mo),λ_=>⟨⟨rfl,Z9⟩,trivial⟩,rfl⟩
def a25:Con:=.rel ⟨Lck×Lck,λx=>[.agg x.2.ts,.bref x.1.ts],λx=>.bool (oY x.1 x.2||clash x.1 x.2),λ_=>True⟩
theorem a3m(a b:Lck)(h:
  ∃(x:(Lck×Lck)),((a.tx==b.tx&&(a.ta==b.ta&&(a.row==b.row&&(a.mo==b.mo&&true))))=false->((a.tx=x.1.tx/\a.ta=x.1.ta/\a.row=x.1.row/\a.mo=x.1.mo/\True)/\(b.tx=x.2.tx/\b.ta=x.2.ta
  /\b.row=x.2.row/\b.mo=x.2.mo/\True)/\True)/\True)/\(a.tx==b.tx&&(a.ta==b.ta&&(a.row==b.row&&(a.mo==b.mo&&true)))||clash x.1 x.2)=(oY a b||clash a b)):
  U3 Tryz.prog 218 [.agg b.ts,.bref a.ts] (.bool (oY a b||clash a b)):=
 S3 (gC a4n gN) Tryz.func218 Z0 h
theorem a1Z:GK 218 a25:=gk Tryz.func218<|λx _=>a3m x.1 x.2 ⟨(x.1,x.2),λ_=>⟨⟨⟨rfl,rfl,rfl,Z9⟩,⟨rfl,rfl,rfl,Z9⟩,trivial⟩,trivial⟩,rfl⟩
def b5M(a:Lck):T:=.fn (.func 218) [.bref a.ts]
def a6O:Con:=.rel ⟨List Lck×Nat×Lck,λx=>[.sl 4 x.2.1 (Y5 x.1),b5M x.2.2],λx=>.int .i64 (R0 x.2.1 (zE x.1 x.2.2)),λx=>N3 x.2.1⟩
def a82(L:List Lck)(n:Nat)(a:Lck):Nat->Ann
 |0=>.one (V3 n (zE L a)) (λx=>⟨[(0,.sl 4 n (Y5 L)),(1,b5M a),(7,.int .i64 n),(8,.int .i64 x.1)],[]⟩) (λx=>n-x.1) [] [] (λ_=>Z0)
 |_=>.none
theorem a44:GK 223 a6O:=gk Tryz.func223<|by
 rintro⟨L,n,a⟩ (hL:n<1000000000000);refine S3 (gC a1Z gN) Tryz.func223 (a82 L n a) (α:=(∃(x:V3 n (zE L a)),((n=n/\Z6 n (Y5 L) (Y5 L))/\(Fn.func 218=Fn.func 218/\M2 (λ(x:Nat)=>none) (T.bref [T.int .i64 a.tx,T.int .i64 a.ta,T.int .i64 a.row,T.int .i64 a.mo]) (T.bref [T.int .i64 a.tx,T.int .i64 a.ta,T.int .i64 a.row,T.int .i64 a.mo])/\True)/\(n:Int)=(n:Int)/\(0:Int)=(x.val:Int)/\True)/\True)/\∀(x:V3 n (zE L a)),(decide ((x.val:Int)<(n:Int))=true->W2 (x.val:Int) n/\∃(x_1:(Lck×Lck)),((((L.getD (x.val:Int).toNat default).tx=x_1.2.tx/\(L.getD (x.val:Int).toNat default).ta=x_1.2.ta/\(L.getD (x.val:Int).toNat default).row=x_1.2.row/\(L.getD (x.val:Int).toNat default).mo=x_1.2.mo/\True)/\(a.tx=x_1.1.tx/\a.ta=x_1.1.ta/\a.row=x_1.1.row/\a.mo=x_1.1.mo/\True)/\True)/\True)/\((oY x_1.1 x_1.2||clash x_1.1 x_1.2)=true->(x.val:Int)=R0 n (zE L a))/\((oY x_1.1 x_1.2||clash x_1.1 x_1.2)=false->X2 .i64 ((x.val:Int)+(1:Int))/\∃(y:V3 n (zE L a)),(((n=n/\Z6 n (Y5 L) (Y5 L))/\(Fn.func 218=Fn.func 218/\M2 (λ(x:Nat)=>none) (T.bref [T.int .i64 a.tx,T.int .i64 a.ta,T.int .i64 a.row,T.int .i64 a.mo]) (T.bref [T.int .i64 a.tx,T.int .i64 a.ta,T.int .i64 a.row,T.int .i64 a.mo])/\True)/\(n:Int)=(n:Int)/\(x.val:Int)+(1:Int)=(y.val:Int)/\True)/\True)/\Lt (n-y.val) (n-x.val)))/\(decide ((x.val:Int)<(n:Int))=false->(-1:Int)=R0 n (zE L a))) ⟨⟨E8,⟨Z8,⟨rfl,S1 _,trivial⟩,rfl,Z9⟩,trivial⟩,λx=>⟨λhc=> ?_,λhc=> ?_⟩⟩
 ·have hlt:=Y1 hc;refine⟨Y3 hlt,(a,L.getD x.val default),⟨⟨⟨rfl,rfl,rfl,Z9⟩,⟨rfl,rfl,rfl,Z9⟩,trivial⟩,trivial⟩,λhp=>(L5 hlt hp x.2.2).symm,λhp=>⟨V5 hlt (by omega),x.succ hlt hp,⟨⟨Z8,⟨rfl,S1 _,trivial⟩,rfl,by simp only[V3.succ];omega,trivial⟩,trivial⟩,V3.ext_lt hlt⟩⟩
 ·have hge:=X9 hc;exact(J9 λj hj=>x.2.2 j (vR hj hge)).symm
def a74:Con:=.rel ⟨List Lck×Nat×Lck,λx=>[.sl 4 x.2.1 (Y5 x.1),b5M x.2.2],λx=>.bool (anyI x.2.1 (zE x.1 x.2.2)),λx=>N3 x.2.1⟩
theorem a7N(L:List Lck)(n:Nat)(a:Lck)(h:
  ∃(x:(List Lck×Nat×Lck)),(((n=x.2.1/\Z6 n (Y5 L) (Y5 x.1))/\(Fn.func 218=Fn.func 218/\(a.tx=x.2.2.tx/\a.ta=x.2.2.ta/\a.row=x.2.2.row/\a.mo=x.2.2.mo/\True)/\True)/\True)
  /\N3 x.2.1)/\decide (R0 x.2.1 (zE x.1 x.2.2)≥(0:Int))=anyI n (zE L a)):
  U3 Tryz.prog 158 [.sl 4 n (Y5 L),b5M a] (.bool (anyI n (zE L a))):=
 S3 (gC a44 gN) Tryz.func158 Z0 h
theorem a39:GK 158 a74:=gk Tryz.func158<|λx hL=>a7N x.1 x.2.1 x.2.2 ⟨x,⟨⟨Z8,⟨rfl,⟨rfl,rfl,rfl,Z9⟩,trivial⟩,trivial⟩,hL⟩,y8 _ _⟩
def a3G:Con:=.rel ⟨List Wt×Nat,λx=>[.agg (x.1.getD x.2 default).ts],λx=>.bool (F2 x.1 x.2),λ_=>True⟩
theorem a2F(L:List Wt)(i:Nat)(h:
  ∃(x:Int),(((L.getD i default).tx=x/\True)/\True)/\∃(x_1:Int),((!V6 x (1:Int) (60:Int))=false->((L.getD i default).fo=x_1/\True)/\True)/\(!V6 x (1:Int) (60:Int)|| !V6 x_1 (1:Int) (60:Int)||
  (L.getD i default).tx==(L.getD i default).fo)=F2 L i):
  U3 Tryz.prog 220 [.agg (L.getD i default).ts] (.bool (F2 L i)):=
 S3 (gC a47 gN) Tryz.func220 Z0 h
theorem a0G:GK 220 a3G:=gk Tryz.func220<|λx _=>a2F x.1 x.2 ⟨_,⟨Z9,trivial⟩,_,λ_=>⟨Z9,trivial⟩,rfl⟩
def b1y:Con:=.rel ⟨List Wt,λL=>[oP L,fnT 220],λL=>.int .i64 (R0 L.length (F2 L)),λL=>N3 L.length⟩
def b0Y(L:List Wt):Nat->Ann
 |0=>.one (V3 L.length (F2 L)) (λx=>⟨[(0,oP L),(1,fnT 220),(7,.int .i64 L.length),(8,.int .i64 x.1)],[]⟩) (λx=>L.length-x.1) [] [] (λ_=>Z0)
 |_=>.none
theorem a72:GK 224 b1y:=gk Tryz.func224<|by
 intro(L:List Wt) (hL:L.length<1000000000000);refine S3 (gC a0G gN) Tryz.func224 (b0Y L) (α:=(∃(x:V3 L.length (F2 L)),((Y6 X6 L L)/\Value.func (Fn.func 220) #[] #[]=Value.func (Fn.func 220) #[] #[]/\(L.length:Int)=(L.length:Int)/\(0:Int)=(x.val:Int)/\True)/\True)/\∀(x:V3 L.length (F2 L)),(decide ((x.val:Int)<(L.length:Int))=true->W2 (x.val:Int) L.length/\∃(x_1:(List Wt×Nat)),((((L.getD (x.val:Int).toNat default).tx=(x_1.1.getD x_1.2 default).tx/\(L.getD (x.val:Int).toNat default).fo=(x_1.1.getD x_1.2 default).fo/\True)/\True)/\True)/\(F2 x_1.1 x_1.2=true->(x.val:Int)=R0 L.length (F2 L))/\(F2 x_1.1 x_1.2=false->X2 .i64 ((x.val:Int)+(1:Int))/\∃(y:V3 L.length (F2 L)),(((Y6 X6 L L)/\Value.func (Fn.func 220) #[] #[]=Value.func (Fn.func 220) #[] #[]/\(L.length:Int)=(L.length:Int)/\(x.val:Int)+(1:Int)=(y.val:Int)/\True)/\True)/\Lt (L.length-y.val) (L.length-x.val)))/\(decide ((x.val:Int)<(L.length:Int))=false->(-1:Int)=R0 L.length (F2 L))) ⟨⟨E8,⟨Z8,rfl,rfl,Z9⟩,trivial⟩,λx=>⟨λhc=> ?_,λhc=> ?_⟩⟩
 ·have hlt:=Y1 hc;refine⟨Y3 hlt,(L,x.val),⟨⟨⟨rfl,Z9⟩,trivial⟩,trivial⟩,λhp=>(L5 hlt hp x.2.2).symm,λhp=>⟨V5 hlt (by omega),x.succ hlt hp,⟨⟨Z8,rfl,rfl,by simp only[V3.succ];omega,trivial⟩,trivial⟩,V3.ext_lt hlt⟩⟩
 ·have hge:=X9 hc;exact(J9 λj hj=>x.2.2 j (vR hj hge)).symm
def b3c:Con:=.rel ⟨List Wt,λL=>[oP L,fnT 220],λL=>.bool (anyI L.length (F2 L)),λL=>N3 L.length⟩
theorem b3r(L:List Wt)(h:
  ∃(x:(List Wt)),(((L.length=List.length x/\Z6 L.length (X6 L) (X6 x))/\Value.func (Fn.func 220) #[] #[]=Value.func (Fn.func 220) #[] #[]/\True)/\N3 (List.length x))/\decide (R0 (List.length x) (F2 x)≥
  (0:Int))=anyI L.length (F2 L)):
  U3 Tryz.prog 160 [oP L,fnT 220] (.bool (anyI L.length (F2 L))):=
 S3 (gC a72 gN) Tryz.func160 Z0 h
theorem a9O:GK 160 b3c:=gk Tryz.func160<|λ(L:List Wt) hL=>b3r L ⟨L,⟨⟨Z8,Z9⟩,hL⟩,y8 _ _⟩
def uQ:Rl:=⟨Lks,λl=>[.agg l.ts],λl=>.bool (H5 l),b0K⟩
def a2J:Con:=.rel uQ
def a2K:Con:=.rel uQ
def a2c(l:Lks):Nat->Ann
 |0=>.one (V3 l.held.length (E5 l.held)) (λx=>⟨[(1,.ref 0 0 0),(6,zJ l.held),(7,.int .i64 l.held.length),(8,.int .i64 x.1)],[eH l]⟩) (λx=>l.held.length-x.1) [.box 0] [.box 0] (λ_=>Z0)
 |_=>.none
theorem a1r:GK 156 a2J:=gk Tryz.func156<|by
 rintro(l:Lks) ⟨hL,hw⟩;have hL:l.held.length<1000000000000:=hL;refine S3 (gC a9p (gC a39 (gC a9O gN))) Tryz.func156 (a2c l) (α:=(∃(x:V3 l.held.length (E5 l.held)),((0=0/\0=0)/\(Y6 Y5 l.held l.held)/\(l.held.length:Int)=(l.held.length:Int)/\(0:Int)=(x.val:Int)/\True)/\(1=1/\1=1/\(Y6 Y5 l.held l.held)/\(Y6 X6 l.waits l.waits)/\True)/\True)/\∀(x:V3 l.held.length (E5 l.held)),(decide ((x.val:Int)<(l.held.length:Int))=true->W2 (x.val:Int) l.held.length/\∃(x_1:Lck),((((l.held.getD (x.val:Int).toNat default).tx=x_1.tx/\(l.held.getD (x.val:Int).toNat default).ta=x_1.ta/\(l.held.getD (x.val:Int).toNat default).row=x_1.row/\(l.held.getD (x.val:Int).toNat default).mo=x_1.mo/\True)/\True)/\True)/\((!xQ x_1)=false->jR (x.val:Int) l.held.length)/\∃(x_2:(List Lck×Nat×Lck)),((!xQ x_1)=false->(((x.val:Int).toNat=x_2.2.1/\Z6 (x.val:Int).toNat (Y5 l.held) (Y5 x_2.1))/\(Fn.func 218=Fn.func 218/\((l.held.getD (x.val:Int).toNat default).tx=x_2.2.2.tx/\(l.held.getD (x.val:Int).toNat default).ta=x_2.2.2.ta/\(l.held.getD (x.val:Int).toNat default).row=x_2.2.2.row/\(l.held.getD (x.val:Int).toNat default).mo=x_2.2.2.mo/\True)/\True)/\True)/\N3 x_2.2.1)/\((!xQ x_1||anyI x_2.2.1 (zE x_2.1 x_2.2.2))=true->false=H5 l)/\((!xQ x_1||anyI x_2.2.1 (zE x_2.1 x_2.2.2))=false->X2 .i64 ((x.val:Int)+(1:Int))/\∃(y:V3 l.held.length (E5 l.held)),(((0=0/\0=0)/\(Y6 Y5 l.held l.held)/\(l.held.length:Int)=(l.held.length:Int)/\(x.val:Int)+(1:Int)=(y.val:Int)/\True)/\(1=1/\1=1/\(Y6 Y5 l.held l.held)/\(Y6 X6 l.waits l.waits)/\True)/\True)/\Lt (l.held.length-y.val) (l.held.length-x.val)))/\(decide ((x.val:Int)<(l.held.length:Int))=false->∃(x:(List Wt)),((decide ((l.held.length:Int)<=(60:Int))&&decide ((l.waits.length:Int)<=(100:Int)))=true->((l.waits.length=List.length x/\Z6 l.waits.length (X6 l.waits) (X6 x))/\Value.func (Fn.func 220) #[] #[]=Value.func (Fn.func 220) #[] #[]/\True)/\N3 (List.length x))/\(decide ((l.held.length:Int)<=(60:Int))&&decide ((l.waits.length:Int)<=(100:Int))&& !anyI (List.length x) (F2 x))=H5 l)) ⟨⟨E8,⟨Z7,Z8,rfl,Z9⟩,⟨rfl,rfl,Z8,X8⟩,trivial⟩,λx=>⟨λhc=> ?_,λhc=> ?_⟩⟩
 ·have hlt:=Y1 hc;refine⟨Y3 hlt,l.held.getD x.val default,⟨⟨⟨rfl,rfl,rfl,Z9⟩,trivial⟩,trivial⟩,λ_=>⟨by omega,by omega⟩,(l.held,x.val,l.held.getD x.val default),λ_=>⟨⟨⟨by simp only;omega,Z2 _ _⟩,⟨rfl,⟨rfl,rfl,rfl,rfl,trivial⟩,trivial⟩,trivial⟩,by show x.val<1000000000000;omega⟩,λhb=> ?_,λhb=>⟨V5 hlt (by omega),x.succ hlt hb,⟨⟨Z7,Z8,rfl,by simp only[V3.succ];omega,trivial⟩,⟨rfl,rfl,⟨rfl,Z2 _ _⟩,⟨rfl,Z2 _ _⟩,trivial⟩,trivial⟩,V3.ext_lt hlt⟩⟩
  have:anyI l.held.length (E5 l.held)=true:=O1.2 ⟨x.val,hlt,hb⟩;unfold H5;rw[this];rfl
 ·have hge:=X9 hc;have:anyI l.held.length (E5 l.held)=false:=K6.2 λi hi=>x.2.2 i (vR hi hge)
  refine⟨l.waits,λ_=>⟨⟨Z8,Z9⟩,hw⟩,?_⟩
  unfold H5;rw[this,Bool.not_false,Bool.true_and];congr 2<;>exact decide_eq_decide.2 (by omega)
def b7P(L:List Lck)(a:Lck)(k:Nat):Bool:=(a.ta==(L.getD k default).ta)&&(a.row==(L.getD k default).row)&&(oY a (L.getD k default)||(a.tx !=(L.getD k default).tx)&& !pR a.mo (L.getD k default).mo)
def a30(l:Lks):Nat->Ann
 |0=>.one (V3 l.held.length (E5 l.held)) (λx=>⟨[(1,.ref 0 0 0),(3,.int .i64 x.1)],[eH l]⟩) (λx=>l.held.length-x.1) [.box 0] [.box 0] (λx=>fun
  |1=>.one (V3 x.1 (zE l.held (l.held.getD x.1 default))) (λy=>⟨[(1,.ref 0 0 0),(3,.int .i64 x.1),(4,.ref 1 0 0),(5,.int .i64 y.1)],[eH l,some (.arr true 1000000 4 1 λ_=>(l.held.getD x.1 default).ts)]⟩) (λy=>x.1-y.1) [.box 0,.box 1] [.box 0,.box 1] (λ_=>Z0)
  |2=>.one (V3 l.waits.length (F2 l.waits)) (λy=>⟨[(1,.ref 0 0 0),(7,.int .i64 y.1)],[eH l]⟩) (λy=>l.waits.length-y.1) [.box 0] [.box 0] (λ_=>Z0)
  |_=>.none)
 |_=>.none
theorem b09(L:List Lck)(a:Lck)(k:Nat):b7P L a k=zE L a k:=by
 unfold b7P zE clash oY lF;generalize (a.ta==(L.getD k default).ta)=p;generalize (a.row==(L.getD k default).row)=q;generalize (a.mo==(L.getD k default).mo)=r;generalize pR a.mo (L.getD k default).mo=t;rw[show(a.tx !=(L.getD k default).tx)= !(a.tx==(L.getD k default).tx) from rfl]
 generalize (a.tx==(L.getD k default).tx)=u;cases p<;>cases q<;>cases r<;>cases t<;>cases u<;>rfl
theorem a1E:GK 73 a2K:=gk Tryz.func73<|by
 rintro(l:Lks) ⟨hL,hw⟩;have hL:l.held.length<1000000000000:=hL;have hw:l.waits.length<1000000000000:=hw;have bh:∀i,i<l.held.length->E5 l.held i=true->false=H5 l:=λi hi hb=>by
  have:anyI l.held.length (E5 l.held)=true:=O1.2 ⟨i,hi,hb⟩;unfold H5;rw[this];rfl
 refine S3 (gC a9v (gC a7B (gC o8 gN))) Tryz.func73 (a30 l) (α:=((decide ((l.held.length:Int)>(60:Int))||decide ((l.waits.length:Int)>(100:Int)))=true->false=H5 l)/\((decide ((l.held.length:Int)>(60:Int))||decide ((l.waits.length:Int)>(100:Int)))=false->(∃(x:V3 l.held.length (E5 l.held)),((0=0/\0=0)/\(0:Int)=(x.val:Int)/\True)/\(1=1/\1=1/\(Y6 Y5 l.held l.held)/\(Y6 X6 l.waits l.waits)/\True)/\True)/\∀(x:V3 l.held.length (E5 l.held)),(decide ((x.val:Int)<(l.held.length:Int))=true->W2 (x.val:Int) l.held.length/\∃(x_1:Lck),(((l.held.getD (x.val:Int).toNat default).tx=x_1.tx/\(l.held.getD (x.val:Int).toNat default).ta=x_1.ta/\(l.held.getD (x.val:Int).toNat default).row=x_1.row/\(l.held.getD (x.val:Int).toNat default).mo=x_1.mo/\True)/\True)/\((!xQ x_1)=true->false=H5 l)/\((!xQ x_1)=false->(∃(x_2:V3 x.val (zE l.held (l.held.getD x.val default))),((0=0/\0=0)/\(x.val:Int)=(x.val:Int)/\(0=0/\0=0)/\(0:Int)=(x_2.val:Int)/\True)/\(1=1/\1=1/\(Y6 Y5 l.held l.held)/\(Y6 X6 l.waits l.waits)/\True)/\(1=1/\1=1/\(l.held.getD (x.val:Int).toNat default).tx=(l.held.getD x.val default).tx/\(l.held.getD (x.val:Int).toNat default).ta=(l.held.getD x.val default).ta/\(l.held.getD (x.val:Int).toNat default).row=(l.held.getD x.val default).row/\(l.held.getD (x.val:Int).toNat default).mo=(l.held.getD x.val default).mo/\True)/\True)/\∀(x_2:V3 x.val (zE l.held (l.held.getD x.val default))),(decide ((x_2.val:Int)<(x.val:Int))=true->W2 (x_2.val:Int) l.held.length/\∃(x_3:(Int×Int)),(((l.held.getD x.val default).ta==(l.held.getD (x_2.val:Int).toNat default).ta&&(l.held.getD x.val default).row==(l.held.getD (x_2.val:Int).toNat default).row)=true->((l.held.getD x.val default).tx==(l.held.getD (x_2.val:Int).toNat default).tx&&((l.held.getD x.val default).ta==(l.held.getD (x_2.val:Int).toNat default).ta&&((l.held.getD x.val default).row==(l.held.getD (x_2.val:Int).toNat default).row&&((l.held.getD x.val default).mo==(l.held.getD (x_2.val:Int).toNat default).mo&&true))))=false->((l.held.getD x.val default).tx !=(l.held.getD (x_2.val:Int).toNat default).tx)=true->((l.held.getD x.val default).mo=x_3.1/\(l.held.getD (x_2.val:Int).toNat default).mo=x_3.2/\True)/\True)/\(((l.held.getD x.val default).ta==(l.held.getD (x_2.val:Int).toNat default).ta&&(l.held.getD x.val default).row==(l.held.getD (x_2.val:Int).toNat default).row&&((l.held.getD x.val default).tx==(l.held.getD (x_2.val:Int).toNat default).tx&&((l.held.getD x.val default).ta==(l.held.getD (x_2.val:Int).toNat default).ta&&((l.held.getD x.val default).row==(l.held.getD (x_2.val:Int).toNat default).row&&((l.held.getD x.val default).mo==(l.held.getD (x_2.val:Int).toNat default).mo&&true)))||(l.held.getD x.val default).tx !=(l.held.getD (x_2.val:Int).toNat default).tx&& !pR x_3.1 x_3.2))=true->false=H5 l)/\(((l.held.getD x.val default).ta==(l.held.getD (x_2.val:Int).toNat default).ta&&(l.held.getD x.val default).row==(l.held.getD (x_2.val:Int).toNat default).row&&((l.held.getD x.val default).tx==(l.held.getD (x_2.val:Int).toNat default).tx&&((l.held.getD x.val default).ta==(l.held.getD (x_2.val:Int).toNat default).ta&&((l.held.getD x.val default).row==(l.held.getD (x_2.val:Int).toNat default).row&&((l.held.getD x.val default).mo==(l.held.getD (x_2.val:Int).toNat default).mo&&true)))||(l.held.getD x.val default).tx !=(l.held.getD (x_2.val:Int).toNat default).tx&& !pR x_3.1 x_3.2))=false->X2 .i64 ((x_2.val:Int)+(1:Int))/\∃(y:V3 x.val (zE l.held (l.held.getD x.val default))),(((0=0/\0=0)/\(x.val:Int)=(x.val:Int)/\(0=0/\0=0)/\(x_2.val:Int)+(1:Int)=(y.val:Int)/\True)/\(1=1/\1=1/\(Y6 Y5 l.held l.held)/\(Y6 X6 l.waits l.waits)/\True)/\(1=1/\1=1/\(l.held.getD x.val default).tx=(l.held.getD x.val default).tx/\(l.held.getD x.val default).ta=(l.held.getD x.val default).ta/\(l.held.getD x.val default).row=(l.held.getD x.val default).row/\(l.held.getD x.val default).mo=(l.held.getD x.val default).mo/\True)/\True)/\Lt (x.val-y.val) (x.val-x_2.val)))/\(decide ((x_2.val:Int)<(x.val:Int))=false->X2 .i64 ((x.val:Int)+(1:Int))/\∃(y:V3 l.held.length (E5 l.held)),(((0=0/\0=0)/\(x.val:Int)+(1:Int)=(y.val:Int)/\True)/\(1=1/\1=1/\(Y6 Y5 l.held l.held)/\(Y6 X6 l.waits l.waits)/\True)/\True)/\Lt (l.held.length-y.val) (l.held.length-x.val))))/\(decide ((x.val:Int)<(l.held.length:Int))=false->(∃(x:V3 l.waits.length (F2 l.waits)),((0=0/\0=0)/\(0:Int)=(x.val:Int)/\True)/\(1=1/\1=1/\(Y6 Y5 l.held l.held)/\(Y6 X6 l.waits l.waits)/\True)/\True)/\∀(x:V3 l.waits.length (F2 l.waits)),(decide ((x.val:Int)<(l.waits.length:Int))=true->W2 (x.val:Int) l.waits.length/\((!V6 (l.waits.getD (x.val:Int).toNat default).tx (1:Int) (60:Int)|| !V6 (l.waits.getD (x.val:Int).toNat default).fo (1:Int) (60:Int)||(l.waits.getD (x.val:Int).toNat default).tx==(l.waits.getD (x.val:Int).toNat default).fo)=true->false=H5 l)/\((!V6 (l.waits.getD (x.val:Int).toNat default).tx (1:Int) (60:Int)|| !V6 (l.waits.getD (x.val:Int).toNat default).fo (1:Int) (60:Int)||(l.waits.getD (x.val:Int).toNat default).tx==(l.waits.getD (x.val:Int).toNat default).fo)=false->X2 .i64 ((x.val:Int)+(1:Int))/\∃(y:V3 l.waits.length (F2 l.waits)),(((0=0/\0=0)/\(x.val:Int)+(1:Int)=(y.val:Int)/\True)/\(1=1/\1=1/\(Y6 Y5 l.held l.held)/\(Y6 X6 l.waits l.waits)/\True)/\True)/\Lt (l.waits.length-y.val) (l.waits.length-x.val)))/\(decide ((x.val:Int)<(l.waits.length:Int))=false->true=H5 l)))) ⟨λh=> ?_,λh=>⟨⟨E8,⟨Z7,Z9⟩,⟨rfl,rfl,Z8,X8⟩,trivial⟩,λx=>⟨λhc=> ?_,λhc=>⟨⟨E8,⟨Z7,Z9⟩,⟨rfl,rfl,Z8,X8⟩,trivial⟩,λy=>⟨λhy=> ?_,λhy=> ?_⟩⟩⟩⟩⟩
 ·simp only[nO,m5] at h;unfold H5;rcases h with h|h
  ·rw[tW (p:=l.held.length<=60) (by omega)]
   simp
  ·rw[tW (p:=l.waits.length<=100) (by omega)]
   simp
 ·have hlt:=Y1 hc;refine⟨Y3 hlt,l.held.getD x.val default,⟨⟨rfl,rfl,rfl,Z9⟩,trivial⟩,λhb=>bh _ hlt (by unfold E5;rw[hb];rfl),λhb=>⟨⟨E8,⟨Z7,rfl,Z7,Z9⟩,⟨rfl,rfl,Z8,X8⟩,⟨rfl,rfl,rfl,rfl,rfl,Z9⟩,trivial⟩,λy=>⟨λhy=> ?_,λhy=> ?_⟩⟩⟩
  ·have hyt:=Y1 hy;refine⟨Y3 (by omega),((l.held.getD x.val default).mo,(l.held.getD y.val default).mo),λ_ _ _=>⟨⟨rfl,Z9⟩,trivial⟩,λhq=> ?_,λhq=>⟨V5 hyt (by omega),y.succ hyt ((b09 _ _ _).symm.trans hq),⟨⟨Z7,rfl,Z7,by simp only[V3.succ];omega,trivial⟩,⟨rfl,rfl,⟨rfl,Z2 _ _⟩,⟨rfl,Z2 _ _⟩,trivial⟩,⟨rfl,rfl,rfl,rfl,rfl,rfl,trivial⟩,trivial⟩,V3.ext_lt hyt⟩⟩
   refine bh _ hlt ?_
   unfold E5;have:anyI x.val (zE l.held (l.held.getD x.val default))=true:=O1.2 ⟨y.val,hyt,(b09 _ _ _).symm.trans hq⟩;rw[this,Bool.or_true]
  ·have hge:=X9 hy;have:anyI x.val (zE l.held (l.held.getD x.val default))=false:=K6.2 λi hi=>y.2.2 i (vR hi hge)
   exact⟨V5 hlt (by omega),x.succ hlt (by unfold E5;rw[hb,this];rfl),⟨⟨⟨rfl,rfl⟩,by simp only[V3.succ];omega,trivial⟩,⟨rfl,rfl,⟨rfl,Z2 _ _⟩,⟨rfl,Z2 _ _⟩,trivial⟩,trivial⟩,V3.ext_lt hlt⟩
 ·have hlt:=Y1 hy;refine⟨Y3 hlt,λhq=> ?_,λhq=>⟨V5 hlt (by omega),y.succ hlt hq,⟨⟨Z7,by simp only[V3.succ];omega,trivial⟩,⟨rfl,rfl,⟨rfl,Z2 _ _⟩,⟨rfl,Z2 _ _⟩,trivial⟩,trivial⟩,V3.ext_lt hlt⟩⟩
  have:anyI l.waits.length (F2 l.waits)=true:=O1.2 ⟨y.val,hlt,hq⟩;unfold H5;rw[this];simp
 ·have g1:=X9 hc;have g2:=X9 hy;have e1:anyI l.held.length (E5 l.held)=false:=K6.2 λi hi=>x.2.2 i (vR hi g1)
  have e2:anyI l.waits.length (F2 l.waits)=false:=K6.2 λi hi=>y.2.2 i (vR hi g2)
  simp only[tU,tQ] at h;unfold H5;rw[e1,e2,iO (p:=l.held.length<=60) (by omega),iO (p:=l.waits.length<=100) (by omega)]
  rfl
end Go.Proofs.YtokaojbaacnngaaGreat

