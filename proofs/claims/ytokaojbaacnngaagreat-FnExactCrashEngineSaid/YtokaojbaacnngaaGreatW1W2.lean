/- A part of the proof. -/
import Derived.Test.YtokaojbaacnngaaGreatE8
namespace Go.Proofs.YtokaojbaacnngaaGreat
open Go.SS

structure Val where
 k:Int
 n:Int
 t:List UInt8
 deriving Inhabited
def Val.ts(v:Val):List T:=[.int .i64 v.k,.int .i64 v.n,.str v.t]
structure Rw where
 id:Int
 n:Val
 name:Val
 deriving Inhabited
def Rw.ts(r:Rw):List T:=[.int .i64 r.id,.int .i64 r.n.k,.int .i64 r.n.n,.str r.n.t,.int .i64 r.name.k,.int .i64 r.name.n,.str r.name.t]
structure Chg where
 se:Int
 ta:Int
 row:Rw
 gone:Bool
 deriving Inhabited
def Chg.ts(c:Chg):List T:=[.int .i64 c.se,.int .i64 c.ta,.int .i64 c.row.id,.int .i64 c.row.n.k,.int .i64 c.row.n.n,.str c.row.n.t,.int .i64 c.row.name.k,.int .i64 c.row.name.n,.str c.row.name.t,.bool c.gone]
end Go.Proofs.YtokaojbaacnngaaGreat

namespace Go.Proofs.YtokaojbaacnngaaGreat
set_option maxRecDepth 100000
open Go.SS

structure Lck where
 tx:Int
 ta:Int
 row:Int
 mo:Int
 deriving Inhabited
def Lck.ts(l:Lck):List T:=[.int .i64 l.tx,.int .i64 l.ta,.int .i64 l.row,.int .i64 l.mo]
structure Wt where
 tx:Int
 fo:Int
 deriving Inhabited
def Wt.ts(w:Wt):List T:=[.int .i64 w.tx,.int .i64 w.fo]
def lckRow(L:List Lck)(i:Nat):List T:=(L.getD i default).ts
def lckS(L:List Lck):T:=.sl 4 L.length (lckRow L)
def wtRow(L:List Wt)(i:Nat):List T:=(L.getD i default).ts
def wtS(L:List Wt):T:=.sl 2 L.length (wtRow L)
structure Lks where
 held:List Lck
 waits:List Wt
 deriving Inhabited
def Lks.ts(l:Lks):List T:=[lckS l.held,wtS l.waits]
def lksBox(l:Lks):Option Ob:=some (.arr true 1000000 2 1 fun _=>l.ts)
def fits(a b:Int):Bool:=(a !=4)&&(b !=4)&&((a==1)||(b==1)||(a==b))
def sameL(a b:Lck):Bool:=(a.tx==b.tx)&&((a.ta==b.ta)&&((a.row==b.row)&&((a.mo==b.mo)&&true)))
def oneT'(a b:Lck):Bool:=(a.ta==b.ta)&&(a.row==b.row)
def clash(a b:Lck):Bool:=(a.tx !=b.tx)&&oneT' a b&& !fits a.mo b.mo
def lckOK(l:Lck):Bool:=inR l.tx 1 60&&inR l.ta 1 3&&inR l.row (-1) 1000&&inR l.mo 1 4&&(decide (l.row<0)||decide (l.mo≥3))
def bad2(L:List Lck)(a:Lck)(k:Nat):Bool:=sameL a (L.getD k default)||clash a (L.getD k default)
def badLck(L:List Lck)(i:Nat):Bool:= !lckOK (L.getD i default)||anyI i (bad2 L (L.getD i default))
def badWt(L:List Wt)(i:Nat):Bool:= !inR (L.getD i default).tx 1 60|| !inR (L.getD i default).fo 1 60||((L.getD i default).tx==(L.getD i default).fo)
def lksOK(l:Lks):Bool:= !anyI l.held.length (badLck l.held)&&(decide (l.held.length<=60)&&decide (l.waits.length<=100)&& !anyI l.waits.length (badWt l.waits))
def LksB(l:Lks):Prop:=Len l.held.length/\Len l.waits.length

def k_isMode:Con:=.rel ⟨Int,fun n=>[.int .i64 n],fun n=>.bool (inR n 1 4),fun _=>True⟩
noncomputable def b_isMode:Code:=Tryz.f263.body.getD .skip
theorem call_isMode:Callable Tryz.prog 263:=⟨_,Tryz.func263,by kernel_rfl,by kernel_rfl⟩
theorem v_isMode(n:Int)(h:
  inR n (1:Int) (4:Int)=inR n (1:Int) (4:Int)):
  PureFn Tryz.prog 263 [.int .i64 n] (.bool (inR n 1 4)):=
 vcR (code:=b_isMode) (gC inRange_ok call_inRange gN) Tryz.func263 (by kernel_rfl) (by kernel_rfl) noAnn h (by kernel_rfl)
theorem isMode_ok:ConOk Tryz.prog 263 k_isMode:=fun n _=>v_isMode n rfl
def k_isTx:Con:=.rel ⟨Int,fun n=>[.int .i64 n],fun n=>.bool (inR n 1 60),fun _=>True⟩
noncomputable def b_isTx:Code:=Tryz.f221.body.getD .skip
theorem call_isTx:Callable Tryz.prog 221:=⟨_,Tryz.func221,by kernel_rfl,by kernel_rfl⟩
theorem v_isTx(n:Int)(h:
  inR n (1:Int) (60:Int)=inR n (1:Int) (60:Int)):
  PureFn Tryz.prog 221 [.int .i64 n] (.bool (inR n 1 60)):=
 vcR (code:=b_isTx) (gC inRange_ok call_inRange gN) Tryz.func221 (by kernel_rfl) (by kernel_rfl) noAnn h (by kernel_rfl)
theorem isTx_ok:ConOk Tryz.prog 221 k_isTx:=fun n _=>v_isTx n rfl
def k_lockOK:Con:=.rel ⟨Lck,fun l=>[.agg l.ts],fun l=>.bool (lckOK l),fun _=>True⟩
noncomputable def b_lockOK:Code:=Tryz.f217.body.getD .skip
theorem call_lockOK:Callable Tryz.prog 217:=⟨_,Tryz.func217,by kernel_rfl,by kernel_rfl⟩
theorem v_lockOK(l:Lck)(h:
  ∃(x:Int),((l.tx=x/\True)/\True)/\∃(x_1:Int),((inR x (1:Int) (60:Int)&&inR l.ta (1:Int) (3:Int)&&inR l.row (-1:Int) (1000:Int))=true->(l.mo=x_1/\True)/\True)/\(inR x (1:Int) (60:Int)&&inR
  l.ta (1:Int) (3:Int)&&inR l.row (-1:Int) (1000:Int)&&inR x_1 (1:Int) (4:Int)&&(decide (l.row<(0:Int))||decide (l.mo≥(3:Int))))=lckOK l):
  PureFn Tryz.prog 217 [.agg l.ts] (.bool (lckOK l)):=
 vcR (code:=b_lockOK) (gC isTx_ok call_isTx (gC inRange_ok call_inRange (gC isMode_ok call_isMode gN))) Tryz.func217 (by kernel_rfl) (by kernel_rfl) noAnn h (by kernel_rfl)
theorem lockOK_ok:ConOk Tryz.prog 217 k_lockOK:=fun l _=>v_lockOK l ⟨l.tx,⟨⟨rfl,trivial⟩,trivial⟩,l.mo,fun _=>⟨⟨rfl,trivial⟩,trivial⟩,rfl⟩
def k_l06Ask:Con:=.rel ⟨Lck,fun l=>l.ts,fun l=>.bool (lckOK l),fun _=>True⟩
noncomputable def b_l06Ask:Code:=Tryz.f141.body.getD .skip
theorem call_l06Ask:Callable Tryz.prog 141:=⟨_,Tryz.func141,by kernel_rfl,by kernel_rfl⟩
theorem v_l06Ask(l:Lck)(h:
  (inR l.tx (1:Int) (60:Int)&&inR l.ta (1:Int) (3:Int)&&inR l.row (-1:Int) (1000:Int)&&inR l.mo (1:Int) (4:Int)&&(l.row==(-1:Int)||decide (l.mo≥(3:Int))))=lckOK l):
  PureFn Tryz.prog 141 l.ts (.bool (lckOK l)):=
 vcR (code:=b_l06Ask) (gC l01In_ok call_l01In gN) Tryz.func141 (by kernel_rfl) (by kernel_rfl) noAnn h (by kernel_rfl)
theorem l06Ask_ok:ConOk Tryz.prog 141 k_l06Ask:=by
 intro(l:Lck) _;refine v_l06Ask l ?_
 unfold lckOK;cases h:inR l.row (-1) 1000
 ·simp
 ·have h':=h;unfold inR at h';simp only[Bool.and_eq_true,decide_eq_true_eq] at h';rw[show(l.row== -1)=decide (l.row<0) by rw[Bool.eq_iff_iff,beq_iff_eq,decide_eq_true_eq];omega]
def k_modesFit:Con:=.rel ⟨Int×Int,fun x=>[.int .i64 x.1,.int .i64 x.2],fun x=>.bool (fits x.1 x.2),fun _=>True⟩
def k_l06Fit:Con:=k_modesFit
noncomputable def b_modesFit:Code:=Tryz.f265.body.getD .skip
theorem call_modesFit:Callable Tryz.prog 265:=⟨_,Tryz.func265,by kernel_rfl,by kernel_rfl⟩
theorem v_modesFit(a b:Int)(h:
  (a !=(4:Int)&&b !=(4:Int)&&(a==(1:Int)||b==(1:Int)||a==b))=fits a b):
  PureFn Tryz.prog 265 [.int .i64 a,.int .i64 b] (.bool (fits a b)):=
 vcR (code:=b_modesFit) gN Tryz.func265 (by kernel_rfl) (by kernel_rfl) noAnn h (by kernel_rfl)
theorem modesFit_ok:ConOk Tryz.prog 265 k_modesFit:=fun x _=>v_modesFit x.1 x.2 rfl
noncomputable def b_l06Fit:Code:=Tryz.f142.body.getD .skip
theorem call_l06Fit:Callable Tryz.prog 142:=⟨_,Tryz.func142,by kernel_rfl,by kernel_rfl⟩
theorem v_l06Fit(a b:Int)(h:
  ((a==(4:Int)||b==(4:Int))=true->false=fits a b)/\((a==(4:Int)||b==(4:Int))=false->((a==(1:Int)||b==(1:Int))=true->true=fits a b)/\((a==(1:Int)||b==(1:Int))=false->(a==b)
  =fits a b))):
  PureFn Tryz.prog 142 [.int .i64 a,.int .i64 b] (.bool (fits a b)):=
 vcR (code:=b_l06Fit) gN Tryz.func142 (by kernel_rfl) (by kernel_rfl) noAnn h (by kernel_rfl)
theorem l06Fit_ok:ConOk Tryz.prog 142 k_l06Fit:=by
 rintro⟨a,b⟩ _;refine v_l06Fit a b ⟨fun h=> ?_,fun h=>⟨fun g=> ?_,fun g=> ?_⟩⟩<;>unfold fits<;>simp at*
 ·intro h1 h2;rcases h with h|h<;>omega
 ·exact⟨h,by rcases g with g|g<;>simp[g]⟩
 ·rw[show(a !=4)=true by simpa using h.1,show(b !=4)=true by simpa using h.2,show(a==1)=false by simpa using g.1,show(b==1)=false by simpa using g.2]
  rfl
def k_isOneThing:Con:=.rel ⟨Lck×Lck,fun x=>[.agg x.1.ts,.agg x.2.ts],fun x=>.bool (oneT' x.1 x.2),fun _=>True⟩
noncomputable def b_isOneThing:Code:=Tryz.f264.body.getD .skip
theorem call_isOneThing:Callable Tryz.prog 264:=⟨_,Tryz.func264,by kernel_rfl,by kernel_rfl⟩
theorem v_isOneThing(a b:Lck)(h:
  (a.ta==b.ta&&a.row==b.row)=oneT' a b):
  PureFn Tryz.prog 264 [.agg a.ts,.agg b.ts] (.bool (oneT' a b)):=
 vcR (code:=b_isOneThing) gN Tryz.func264 (by kernel_rfl) (by kernel_rfl) noAnn h (by kernel_rfl)
theorem isOneThing_ok:ConOk Tryz.prog 264 k_isOneThing:=fun x _=>v_isOneThing x.1 x.2 rfl
def k_clashes:Con:=.rel ⟨Lck×Lck,fun x=>[.agg x.1.ts,.agg x.2.ts],fun x=>.bool (clash x.1 x.2),fun _=>True⟩
noncomputable def b_clashes:Code:=Tryz.f219.body.getD .skip
theorem call_clashes:Callable Tryz.prog 219:=⟨_,Tryz.func219,by kernel_rfl,by kernel_rfl⟩
theorem v_clashes(a b:Lck)(h:
  ∃(x:(Lck×Lck)),((a.tx !=b.tx)=true->((a.tx=x.fst.tx/\a.ta=x.fst.ta/\a.row=x.fst.row/\a.mo=x.fst.mo/\True)/\(b.tx=x.snd.tx/\b.ta=x.snd.ta/\b.row=x.snd.row/\b.mo=x.snd.mo/\True)/\True)/\True)/\∃
  (x_1:(Int×Int)),((a.tx !=b.tx&&oneT' x.fst x.snd)=true->(a.mo=x_1.fst/\b.mo=x_1.snd/\True)/\True)/\(a.tx !=b.tx&&oneT' x.fst x.snd&& !fits x_1.fst x_1.snd)=clash a b):
  PureFn Tryz.prog 219 [.agg a.ts,.agg b.ts] (.bool (clash a b)):=
 vcR (code:=b_clashes) (gC isOneThing_ok call_isOneThing (gC modesFit_ok call_modesFit gN)) Tryz.func219 (by kernel_rfl) (by kernel_rfl) noAnn h (by kernel_rfl)
theorem clashes_ok:ConOk Tryz.prog 219 k_clashes:=fun x _=>v_clashes x.1 x.2 ⟨(x.1,x.2),fun _=>⟨⟨⟨rfl,rfl,rfl,rfl,trivial⟩,⟨rfl,rfl,rfl,rfl,trivial⟩,trivial⟩,trivial⟩,(x.1.mo,x.2.mo),fun _=>⟨⟨rfl,rfl,trivial⟩,trivial⟩,rfl⟩
def k_LocksOK1:Con:=.rel ⟨Lck×Lck,fun x=>[.agg x.2.ts,.bref x.1.ts],fun x=>.bool (sameL x.1 x.2||clash x.1 x.2),fun _=>True⟩
noncomputable def b_LocksOK1:Code:=Tryz.f218.body.getD .skip
theorem call_LocksOK1:Callable Tryz.prog 218:=⟨_,Tryz.func218,by kernel_rfl,by kernel_rfl⟩
theorem v_LocksOK1(a b:Lck)(h:
  ∃(x:(Lck×Lck)),((a.tx==b.tx&&(a.ta==b.ta&&(a.row==b.row&&(a.mo==b.mo&&true))))=false->((a.tx=x.fst.tx/\a.ta=x.fst.ta/\a.row=x.fst.row/\a.mo=x.fst.mo/\True)/\(b.tx=x.snd.tx/\b.ta=x.snd.ta
  /\b.row=x.snd.row/\b.mo=x.snd.mo/\True)/\True)/\True)/\(a.tx==b.tx&&(a.ta==b.ta&&(a.row==b.row&&(a.mo==b.mo&&true)))||clash x.fst x.snd)=(sameL a b||clash a b)):
  PureFn Tryz.prog 218 [.agg b.ts,.bref a.ts] (.bool (sameL a b||clash a b)):=
 vcR (code:=b_LocksOK1) (gC clashes_ok call_clashes gN) Tryz.func218 (by kernel_rfl) (by kernel_rfl) noAnn h (by kernel_rfl)
theorem LocksOK1_ok:ConOk Tryz.prog 218 k_LocksOK1:=fun x _=>v_LocksOK1 x.1 x.2 ⟨(x.1,x.2),fun _=>⟨⟨⟨rfl,rfl,rfl,rfl,trivial⟩,⟨rfl,rfl,rfl,rfl,trivial⟩,trivial⟩,trivial⟩,rfl⟩
def lckF(a:Lck):T:=.fn (.func 218) [.bref a.ts]
def k_idxLckA:Con:=.rel ⟨List Lck×Nat×Lck,fun x=>[.sl 4 x.2.1 (lckRow x.1),lckF x.2.2],fun x=>.int .i64 (fstI x.2.1 (bad2 x.1 x.2.2)),fun x=>Len x.2.1⟩
def A_idxLckA(L:List Lck)(n:Nat)(a:Lck):Nat->Ann
 |0=>.one (Cnt n (bad2 L a)) (fun x=>⟨[(0,.sl 4 n (lckRow L)),(1,lckF a),(7,.int .i64 n),(8,.int .i64 x.1)],[]⟩) (fun x=>n-x.1) [] [] (fun _=>noAnn)
 |_=>.none
noncomputable def b_idxLckA:Code:=Tryz.f223.body.getD .skip
theorem call_idxLckA:Callable Tryz.prog 223:=⟨_,Tryz.func223,by kernel_rfl,by kernel_rfl⟩
theorem v_idxLckA(L:List Lck)(n:Nat)(a:Lck)(h:
  (∃(x:Cnt n (bad2 L a)),((n=n/\RowsEq n (lckRow L) (lckRow L))/\(Fn.func 218=Fn.func 218/\TLe (fun(x:Nat)=>none) (T.bref [T.int .i64 a.tx,T.int .i64 a.ta,T.int .i64 a.row,T.int .i64 a.mo]) (T.bref [T.int .i64
  a.tx,T.int .i64 a.ta,T.int .i64 a.row,T.int .i64 a.mo])/\True)/\(n:Int)=(n:Int)/\(0:Int)=(x.val:Int)/\True)/\True)/\∀(x:Cnt n (bad2 L a)),(decide ((x.val:Int)<(n:Int))=true->InB (x.val:Int) n/\∃(x_1:
  (Lck×Lck)),((((L.getD (x.val:Int).toNat default).tx=x_1.snd.tx/\(L.getD (x.val:Int).toNat default).ta=x_1.snd.ta/\(L.getD (x.val:Int).toNat default).row=x_1.snd.row/\(L.getD (x.val:Int).toNat default).mo=x_1.snd.mo/\
  True)/\(a.tx=x_1.fst.tx/\a.ta=x_1.fst.ta/\a.row=x_1.fst.row/\a.mo=x_1.fst.mo/\True)/\True)/\True)/\((sameL x_1.fst x_1.snd||clash x_1.fst x_1.snd)=true->(x.val:Int)=fstI n (bad2 L a))/\((sameL x_1.fst
  x_1.snd||clash x_1.fst x_1.snd)=false->Rng .i64 ((x.val:Int)+(1:Int))/\∃(y:Cnt n (bad2 L a)),(((n=n/\RowsEq n (lckRow L) (lckRow L))/\(Fn.func 218=Fn.func 218/\TLe (fun(x:Nat)=>none) (T.bref [T.int .i64
  a.tx,T.int .i64 a.ta,T.int .i64 a.row,T.int .i64 a.mo]) (T.bref [T.int .i64 a.tx,T.int .i64 a.ta,T.int .i64 a.row,T.int .i64 a.mo])/\True)/\(n:Int)=(n:Int)/\(x.val:Int)+(1:Int)=(y.val:Int)/\True)/\True)/\Lt (n
  -y.val) (n-x.val)))/\(decide ((x.val:Int)<(n:Int))=false->(-1:Int)=fstI n (bad2 L a))):
  PureFn Tryz.prog 223 [.sl 4 n (lckRow L),lckF a] (.int .i64 (fstI n (bad2 L a))):=
 vcR (code:=b_idxLckA) (gC LocksOK1_ok call_LocksOK1 gN) Tryz.func223 (by kernel_rfl) (by kernel_rfl) (A_idxLckA L n a) h (by kernel_rfl)
theorem idxLckA_ok:ConOk Tryz.prog 223 k_idxLckA:=by
 rintro⟨L,n,a⟩ (hL:n<1000000000000);refine v_idxLckA L n a ⟨⟨cnt0,⟨⟨rfl,rowsR _ _⟩,⟨rfl,bref_le _,trivial⟩,rfl,rfl,trivial⟩,trivial⟩,fun x=>⟨fun hc=> ?_,fun hc=> ?_⟩⟩
 ·have hlt:=lt_of_dec hc;refine⟨inB_nat hlt,(a,L.getD x.val default),⟨⟨⟨rfl,rfl,rfl,rfl,trivial⟩,⟨rfl,rfl,rfl,rfl,trivial⟩,trivial⟩,trivial⟩,fun hp=>(fstI_at hlt hp x.2.2).symm,fun hp=>⟨add_rng hlt (by omega),x.succ hlt hp,⟨⟨⟨rfl,rowsR _ _⟩,⟨rfl,bref_le _,trivial⟩,rfl,by simp only[Cnt.succ];omega,trivial⟩,trivial⟩,Cnt.ext_lt hlt⟩⟩
 ·have hge:=le_of_not hc;exact(fstI_no fun j hj=>x.2.2 j (Nat.lt_of_lt_of_le hj hge)).symm
def k_anyLckA:Con:=.rel ⟨List Lck×Nat×Lck,fun x=>[.sl 4 x.2.1 (lckRow x.1),lckF x.2.2],fun x=>.bool (anyI x.2.1 (bad2 x.1 x.2.2)),fun x=>Len x.2.1⟩
noncomputable def b_anyLckA:Code:=Tryz.f158.body.getD .skip
theorem call_anyLckA:Callable Tryz.prog 158:=⟨_,Tryz.func158,by kernel_rfl,by kernel_rfl⟩
theorem v_anyLckA(L:List Lck)(n:Nat)(a:Lck)(h:
  ∃(x:(List Lck×Nat×Lck)),(((n=x.snd.fst/\RowsEq n (lckRow L) (lckRow x.fst))/\(Fn.func 218=Fn.func 218/\(a.tx=x.snd.snd.tx/\a.ta=x.snd.snd.ta/\a.row=x.snd.snd.row/\a.mo=x.snd.snd.mo/\True)/\True)/\True)
  /\Len x.snd.fst)/\decide (fstI x.snd.fst (bad2 x.fst x.snd.snd)≥(0:Int))=anyI n (bad2 L a)):
  PureFn Tryz.prog 158 [.sl 4 n (lckRow L),lckF a] (.bool (anyI n (bad2 L a))):=
 vcR (code:=b_anyLckA) (gC idxLckA_ok call_idxLckA gN) Tryz.func158 (by kernel_rfl) (by kernel_rfl) noAnn h (by kernel_rfl)
theorem anyLckA_ok:ConOk Tryz.prog 158 k_anyLckA:=fun x hL=>v_anyLckA x.1 x.2.1 x.2.2 ⟨x,⟨⟨⟨rfl,rowsR _ _⟩,⟨rfl,⟨rfl,rfl,rfl,rfl,trivial⟩,trivial⟩,trivial⟩,hL⟩,anyI_fst _ _⟩
def k_LocksOK2:Con:=.rel ⟨List Wt×Nat,fun x=>[.agg (x.1.getD x.2 default).ts],fun x=>.bool (badWt x.1 x.2),fun _=>True⟩
noncomputable def b_LocksOK2:Code:=Tryz.f220.body.getD .skip
theorem call_LocksOK2:Callable Tryz.prog 220:=⟨_,Tryz.func220,by kernel_rfl,by kernel_rfl⟩
theorem v_LocksOK2(L:List Wt)(i:Nat)(h:
  ∃(x:Int),(((L.getD i default).tx=x/\True)/\True)/\∃(x_1:Int),((!inR x (1:Int) (60:Int))=false->((L.getD i default).fo=x_1/\True)/\True)/\(!inR x (1:Int) (60:Int)|| !inR x_1 (1:Int) (60:Int)||
  (L.getD i default).tx==(L.getD i default).fo)=badWt L i):
  PureFn Tryz.prog 220 [.agg (L.getD i default).ts] (.bool (badWt L i)):=
 vcR (code:=b_LocksOK2) (gC isTx_ok call_isTx gN) Tryz.func220 (by kernel_rfl) (by kernel_rfl) noAnn h (by kernel_rfl)
theorem LocksOK2_ok:ConOk Tryz.prog 220 k_LocksOK2:=fun x _=>v_LocksOK2 x.1 x.2 ⟨_,⟨⟨rfl,trivial⟩,trivial⟩,_,fun _=>⟨⟨rfl,trivial⟩,trivial⟩,rfl⟩
def k_idxWtA:Con:=.rel ⟨List Wt,fun L=>[wtS L,fnT 220],fun L=>.int .i64 (fstI L.length (badWt L)),fun L=>Len L.length⟩
def A_idxWtA(L:List Wt):Nat->Ann
 |0=>.one (Cnt L.length (badWt L)) (fun x=>⟨[(0,wtS L),(1,fnT 220),(7,.int .i64 L.length),(8,.int .i64 x.1)],[]⟩) (fun x=>L.length-x.1) [] [] (fun _=>noAnn)
 |_=>.none
noncomputable def b_idxWtA:Code:=Tryz.f224.body.getD .skip
theorem call_idxWtA:Callable Tryz.prog 224:=⟨_,Tryz.func224,by kernel_rfl,by kernel_rfl⟩
theorem v_idxWtA(L:List Wt)(h:
  (∃(x:Cnt L.length (badWt L)),((EqL wtRow L L)/\Value.func (Fn.func 220) #[] #[]=Value.func (Fn.func 220) #[] #[]/\(L.length:Int)=(L.length:Int)/\(0:Int)=(x.val:Int)/\True)/\True)/\∀(x:Cnt L.length (badWt L)),
  (decide ((x.val:Int)<(L.length:Int))=true->InB (x.val:Int) L.length/\∃(x_1:(List Wt×Nat)),((((L.getD (x.val:Int).toNat default).tx=(x_1.fst.getD x_1.snd default).tx/\(L.getD (x.val:Int).toNat default).fo=
  (x_1.fst.getD x_1.snd default).fo/\True)/\True)/\True)/\(badWt x_1.fst x_1.snd=true->(x.val:Int)=fstI L.length (badWt L))/\(badWt x_1.fst x_1.snd=false->Rng .i64 ((x.val:Int)+(1:Int))/\∃(y:Cnt L.length (badWt
  L)),(((EqL wtRow L L)/\Value.func (Fn.func 220) #[] #[]=Value.func (Fn.func 220) #[] #[]/\(L.length:Int)=(L.length:Int)/\(x.val:Int)+(1:Int)=(y.val:Int)/\True)/\True)/\Lt (L.length-y.val) (L.length-x.val)))/\
  (decide ((x.val:Int)<(L.length:Int))=false->(-1:Int)=fstI L.length (badWt L))):
  PureFn Tryz.prog 224 [wtS L,fnT 220] (.int .i64 (fstI L.length (badWt L))):=
 vcR (code:=b_idxWtA) (gC LocksOK2_ok call_LocksOK2 gN) Tryz.func224 (by kernel_rfl) (by kernel_rfl) (A_idxWtA L) h (by kernel_rfl)
theorem idxWtA_ok:ConOk Tryz.prog 224 k_idxWtA:=by
 intro(L:List Wt) (hL:L.length<1000000000000);refine v_idxWtA L ⟨⟨cnt0,⟨⟨rfl,rowsR _ _⟩,rfl,rfl,rfl,trivial⟩,trivial⟩,fun x=>⟨fun hc=> ?_,fun hc=> ?_⟩⟩
 ·have hlt:=lt_of_dec hc;refine⟨inB_nat hlt,(L,x.val),⟨⟨⟨rfl,rfl,trivial⟩,trivial⟩,trivial⟩,fun hp=>(fstI_at hlt hp x.2.2).symm,fun hp=>⟨add_rng hlt (by omega),x.succ hlt hp,⟨⟨⟨rfl,rowsR _ _⟩,rfl,rfl,by simp only[Cnt.succ];omega,trivial⟩,trivial⟩,Cnt.ext_lt hlt⟩⟩
 ·have hge:=le_of_not hc;exact(fstI_no fun j hj=>x.2.2 j (Nat.lt_of_lt_of_le hj hge)).symm
def k_anyWtA:Con:=.rel ⟨List Wt,fun L=>[wtS L,fnT 220],fun L=>.bool (anyI L.length (badWt L)),fun L=>Len L.length⟩
noncomputable def b_anyWtA:Code:=Tryz.f160.body.getD .skip
theorem call_anyWtA:Callable Tryz.prog 160:=⟨_,Tryz.func160,by kernel_rfl,by kernel_rfl⟩
theorem v_anyWtA(L:List Wt)(h:
  ∃(x:(List Wt)),(((L.length=List.length x/\RowsEq L.length (wtRow L) (wtRow x))/\Value.func (Fn.func 220) #[] #[]=Value.func (Fn.func 220) #[] #[]/\True)/\Len (List.length x))/\decide (fstI (List.length x) (badWt x)≥
  (0:Int))=anyI L.length (badWt L)):
  PureFn Tryz.prog 160 [wtS L,fnT 220] (.bool (anyI L.length (badWt L))):=
 vcR (code:=b_anyWtA) (gC idxWtA_ok call_idxWtA gN) Tryz.func160 (by kernel_rfl) (by kernel_rfl) noAnn h (by kernel_rfl)
theorem anyWtA_ok:ConOk Tryz.prog 160 k_anyWtA:=fun(L:List Wt) hL=>v_anyWtA L ⟨L,⟨⟨⟨rfl,rowsR _ _⟩,rfl,trivial⟩,hL⟩,anyI_fst _ _⟩
def r_LocksOK:Rl:=⟨Lks,fun l=>[.agg l.ts],fun l=>.bool (lksOK l),LksB⟩
def k_LocksOKi:Con:=.rel r_LocksOK
def k_LocksOKs:Con:=.rel r_LocksOK
def A_LocksOKi(l:Lks):Nat->Ann
 |0=>.one (Cnt l.held.length (badLck l.held)) (fun x=>⟨[(1,.ref 0 0 0),(6,lckS l.held),(7,.int .i64 l.held.length),(8,.int .i64 x.1)],[lksBox l]⟩) (fun x=>l.held.length-x.1) [.box 0] [.box 0] (fun _=>noAnn)
 |_=>.none
noncomputable def b_LocksOKi:Code:=Tryz.f156.body.getD .skip
theorem call_LocksOKi:Callable Tryz.prog 156:=⟨_,Tryz.func156,by kernel_rfl,by kernel_rfl⟩
theorem v_LocksOKi(l:Lks)(h:
  (∃(x:Cnt l.held.length (badLck l.held)),((0=0/\0=0)/\(EqL lckRow l.held l.held)/\(l.held.length:Int)=(l.held.length:Int)/\(0:Int)=(x.val:Int)/\True)/\(1=1/\1=1/\(EqL lckRow l.held l.held)/\(EqL wtRow
  l.waits l.waits)/\True)/\True)/\∀(x:Cnt l.held.length (badLck l.held)),(decide ((x.val:Int)<(l.held.length:Int))=true->InB (x.val:Int) l.held.length/\∃(x_1:Lck),((((l.held.getD (x.val:Int).toNat default).tx=
  x_1.tx/\(l.held.getD (x.val:Int).toNat default).ta=x_1.ta/\(l.held.getD (x.val:Int).toNat default).row=x_1.row/\(l.held.getD (x.val:Int).toNat default).mo=x_1.mo/\True)/\True)/\True)/\((!lckOK x_1)=false->InC
  (x.val:Int) l.held.length)/\∃(x_2:(List Lck×Nat×Lck)),((!lckOK x_1)=false->(((x.val:Int).toNat=x_2.snd.fst/\RowsEq (x.val:Int).toNat (lckRow l.held) (lckRow x_2.fst))/\(Fn.func 218=Fn.func 218/\((l.held.getD
  (x.val:Int).toNat default).tx=x_2.snd.snd.tx/\(l.held.getD (x.val:Int).toNat default).ta=x_2.snd.snd.ta/\(l.held.getD (x.val:Int).toNat default).row=x_2.snd.snd.row/\(l.held.getD (x.val:Int).toNat default).mo=
  x_2.snd.snd.mo/\True)/\True)/\True)/\Len x_2.snd.fst)/\((!lckOK x_1||anyI x_2.snd.fst (bad2 x_2.fst x_2.snd.snd))=true->false=lksOK l)/\((!lckOK x_1||anyI x_2.snd.fst (bad2 x_2.fst x_2.snd.snd))=false->Rng .i64
  ((x.val:Int)+(1:Int))/\∃(y:Cnt l.held.length (badLck l.held)),(((0=0/\0=0)/\(EqL lckRow l.held l.held)/\(l.held.length:Int)=(l.held.length:Int)/\(x.val:Int)+(1:Int)=(y.val:Int)/\True)/\(1=1/\1=1/\
  (EqL lckRow l.held l.held)/\(EqL wtRow l.waits l.waits)/\True)/\True)/\Lt (l.held.length-y.val) (l.held.length-x.val)))/\(decide ((x.val:Int)<(l.held.length:Int))=false->∃(x:(List Wt)),((decide
  ((l.held.length:Int)<=(60:Int))&&decide ((l.waits.length:Int)<=(100:Int)))=true->((l.waits.length=List.length x/\RowsEq l.waits.length (wtRow l.waits) (wtRow x))/\Value.func (Fn.func 220) #[] #[]=Value.func
  (Fn.func 220) #[] #[]/\True)/\Len (List.length x))/\(decide ((l.held.length:Int)<=(60:Int))&&decide ((l.waits.length:Int)<=(100:Int))&& !anyI (List.length x) (badWt x))=lksOK l)):
  PureFn Tryz.prog 156 [.agg l.ts] (.bool (lksOK l)):=
 vcR (code:=b_LocksOKi) (gC lockOK_ok call_lockOK (gC anyLckA_ok call_anyLckA (gC anyWtA_ok call_anyWtA gN))) Tryz.func156 (by kernel_rfl) (by kernel_rfl) (A_LocksOKi l) h (by kernel_rfl)
theorem LocksOKi_ok:ConOk Tryz.prog 156 k_LocksOKi:=by
 rintro(l:Lks) ⟨hL,hw⟩;have hL:l.held.length<1000000000000:=hL;refine v_LocksOKi l ⟨⟨cnt0,⟨⟨rfl,rfl⟩,⟨rfl,rowsR _ _⟩,rfl,rfl,trivial⟩,⟨rfl,rfl,⟨rfl,rowsR _ _⟩,⟨rfl,rowsR _ _⟩,trivial⟩,trivial⟩,fun x=>⟨fun hc=> ?_,fun hc=> ?_⟩⟩
 ·have hlt:=lt_of_dec hc;refine⟨inB_nat hlt,l.held.getD x.val default,⟨⟨⟨rfl,rfl,rfl,rfl,trivial⟩,trivial⟩,trivial⟩,fun _=>⟨by omega,by omega⟩,(l.held,x.val,l.held.getD x.val default),fun _=>⟨⟨⟨by simp only;omega,rowsR _ _⟩,⟨rfl,⟨rfl,rfl,rfl,rfl,trivial⟩,trivial⟩,trivial⟩,by show x.val<1000000000000;omega⟩,fun hb=> ?_,fun hb=>⟨add_rng hlt (by omega),x.succ hlt hb,⟨⟨⟨rfl,rfl⟩,⟨rfl,rowsR _ _⟩,rfl,by simp only[Cnt.succ];omega,trivial⟩,⟨rfl,rfl,⟨rfl,rowsR _ _⟩,⟨rfl,rowsR _ _⟩,trivial⟩,trivial⟩,Cnt.ext_lt hlt⟩⟩
  have:anyI l.held.length (badLck l.held)=true:=anyI_iff.2 ⟨x.val,hlt,hb⟩;unfold lksOK;rw[this];rfl
 ·have hge:=le_of_not hc;have:anyI l.held.length (badLck l.held)=false:=anyI_no.2 fun i hi=>x.2.2 i (Nat.lt_of_lt_of_le hi hge)
  refine⟨l.waits,fun _=>⟨⟨⟨rfl,rowsR _ _⟩,rfl,trivial⟩,hw⟩,?_⟩
  unfold lksOK;rw[this,Bool.not_false,Bool.true_and];congr 2<;>exact decide_eq_decide.2 (by omega)
def bad2s(L:List Lck)(a:Lck)(k:Nat):Bool:=(a.ta==(L.getD k default).ta)&&(a.row==(L.getD k default).row)&&(sameL a (L.getD k default)||(a.tx !=(L.getD k default).tx)&& !fits a.mo (L.getD k default).mo)
def A_LocksOKs(l:Lks):Nat->Ann
 |0=>.one (Cnt l.held.length (badLck l.held)) (fun x=>⟨[(1,.ref 0 0 0),(3,.int .i64 x.1)],[lksBox l]⟩) (fun x=>l.held.length-x.1) [.box 0] [.box 0] (fun x=>fun
  |1=>.one (Cnt x.1 (bad2 l.held (l.held.getD x.1 default))) (fun y=>⟨[(1,.ref 0 0 0),(3,.int .i64 x.1),(4,.ref 1 0 0),(5,.int .i64 y.1)],[lksBox l,some (.arr true 1000000 4 1 fun _=>(l.held.getD x.1 default).ts)]⟩) (fun y=>x.1-y.1) [.box 0,.box 1] [.box 0,.box 1] (fun _=>noAnn)
  |2=>.one (Cnt l.waits.length (badWt l.waits)) (fun y=>⟨[(1,.ref 0 0 0),(7,.int .i64 y.1)],[lksBox l]⟩) (fun y=>l.waits.length-y.1) [.box 0] [.box 0] (fun _=>noAnn)
  |_=>.none)
 |_=>.none
noncomputable def b_LocksOKs:Code:=Tryz.f73.body.getD .skip
theorem call_LocksOKs:Callable Tryz.prog 73:=⟨_,Tryz.func73,by kernel_rfl,by kernel_rfl⟩
theorem v_LocksOKs(l:Lks)(h:
  ((decide ((l.held.length:Int)>(60:Int))||decide ((l.waits.length:Int)>(100:Int)))=true->false=lksOK l)/\((decide ((l.held.length:Int)>(60:Int))||decide ((l.waits.length:Int)>(100:Int)))=false->(∃(x:
  Cnt l.held.length (badLck l.held)),((0=0/\0=0)/\(0:Int)=(x.val:Int)/\True)/\(1=1/\1=1/\(EqL lckRow l.held l.held)/\(EqL wtRow l.waits l.waits)/\True)/\True)/\∀(x:Cnt l.held.length (badLck l.held)),
  (decide ((x.val:Int)<(l.held.length:Int))=true->InB (x.val:Int) l.held.length/\∃(x_1:Lck),(((l.held.getD (x.val:Int).toNat default).tx=x_1.tx/\(l.held.getD (x.val:Int).toNat default).ta=x_1.ta/\(l.held.getD
  (x.val:Int).toNat default).row=x_1.row/\(l.held.getD (x.val:Int).toNat default).mo=x_1.mo/\True)/\True)/\((!lckOK x_1)=true->false=lksOK l)/\((!lckOK x_1)=false->(∃(x_2:Cnt x.val (bad2 l.held (l.held.getD x.val
  default))),((0=0/\0=0)/\(x.val:Int)=(x.val:Int)/\(0=0/\0=0)/\(0:Int)=(x_2.val:Int)/\True)/\(1=1/\1=1/\(EqL lckRow l.held l.held)/\(EqL wtRow l.waits l.waits)/\True)/\(1=1/\1=1/\(l.held.getD
  (x.val:Int).toNat default).tx=(l.held.getD x.val default).tx/\(l.held.getD (x.val:Int).toNat default).ta=(l.held.getD x.val default).ta/\(l.held.getD (x.val:Int).toNat default).row=(l.held.getD x.val default).row/\
  (l.held.getD (x.val:Int).toNat default).mo=(l.held.getD x.val default).mo/\True)/\True)/\∀(x_2:Cnt x.val (bad2 l.held (l.held.getD x.val default))),(decide ((x_2.val:Int)<(x.val:Int))=true->InB (x_2.val:Int)
  l.held.length/\∃(x_3:(Int×Int)),(((l.held.getD x.val default).ta==(l.held.getD (x_2.val:Int).toNat default).ta&&(l.held.getD x.val default).row==(l.held.getD (x_2.val:Int).toNat default).row)=true->((l.held.getD
  x.val default).tx==(l.held.getD (x_2.val:Int).toNat default).tx&&((l.held.getD x.val default).ta==(l.held.getD (x_2.val:Int).toNat default).ta&&((l.held.getD x.val default).row==(l.held.getD (x_2.val:Int).toNat
  default).row&&((l.held.getD x.val default).mo==(l.held.getD (x_2.val:Int).toNat default).mo&&true))))=false->((l.held.getD x.val default).tx !=(l.held.getD (x_2.val:Int).toNat default).tx)=true->((l.held.getD x.val
  default).mo=x_3.fst/\(l.held.getD (x_2.val:Int).toNat default).mo=x_3.snd/\True)/\True)/\(((l.held.getD x.val default).ta==(l.held.getD (x_2.val:Int).toNat default).ta&&(l.held.getD x.val default).row==(l.held.getD
  (x_2.val:Int).toNat default).row&&((l.held.getD x.val default).tx==(l.held.getD (x_2.val:Int).toNat default).tx&&((l.held.getD x.val default).ta==(l.held.getD (x_2.val:Int).toNat default).ta&&((l.held.getD x.val
  default).row==(l.held.getD (x_2.val:Int).toNat default).row&&((l.held.getD x.val default).mo==(l.held.getD (x_2.val:Int).toNat default).mo&&true)))||(l.held.getD x.val default).tx !=(l.held.getD (x_2.val:Int).toNat
  default).tx&& !fits x_3.fst x_3.snd))=true->false=lksOK l)/\(((l.held.getD x.val default).ta==(l.held.getD (x_2.val:Int).toNat default).ta&&(l.held.getD x.val default).row==(l.held.getD (x_2.val:Int).toNat
  default).row&&((l.held.getD x.val default).tx==(l.held.getD (x_2.val:Int).toNat default).tx&&((l.held.getD x.val default).ta==(l.held.getD (x_2.val:Int).toNat default).ta&&((l.held.getD x.val default).row==(l.held.getD
  (x_2.val:Int).toNat default).row&&((l.held.getD x.val default).mo==(l.held.getD (x_2.val:Int).toNat default).mo&&true)))||(l.held.getD x.val default).tx !=(l.held.getD (x_2.val:Int).toNat default).tx&& !fits x_3.fst
  x_3.snd))=false->Rng .i64 ((x_2.val:Int)+(1:Int))/\∃(y:Cnt x.val (bad2 l.held (l.held.getD x.val default))),(((0=0/\0=0)/\(x.val:Int)=(x.val:Int)/\(0=0/\0=0)/\(x_2.val:Int)+(1:Int)=(y.val:Int)/\
  True)/\(1=1/\1=1/\(EqL lckRow l.held l.held)/\(EqL wtRow l.waits l.waits)/\True)/\(1=1/\1=1/\(l.held.getD x.val default).tx=(l.held.getD x.val default).tx/\(l.held.getD x.val default).ta=(l.held.getD x.val
  default).ta/\(l.held.getD x.val default).row=(l.held.getD x.val default).row/\(l.held.getD x.val default).mo=(l.held.getD x.val default).mo/\True)/\True)/\Lt (x.val-y.val) (x.val-x_2.val)))/\(decide ((x_2.val:Int)<
  (x.val:Int))=false->Rng .i64 ((x.val:Int)+(1:Int))/\∃(y:Cnt l.held.length (badLck l.held)),(((0=0/\0=0)/\(x.val:Int)+(1:Int)=(y.val:Int)/\True)/\(1=1/\1=1/\(EqL lckRow l.held l.held)/\(EqL wtRow
  l.waits l.waits)/\True)/\True)/\Lt (l.held.length-y.val) (l.held.length-x.val))))/\(decide ((x.val:Int)<(l.held.length:Int))=false->(∃(x:Cnt l.waits.length (badWt l.waits)),((0=0/\0=0)/\(0:Int)=
  (x.val:Int)/\True)/\(1=1/\1=1/\(EqL lckRow l.held l.held)/\(EqL wtRow l.waits l.waits)/\True)/\True)/\∀(x:Cnt l.waits.length (badWt l.waits)),(decide ((x.val:Int)<(l.waits.length:Int))=true->InB (x.val:Int)
  l.waits.length/\((!inR (l.waits.getD (x.val:Int).toNat default).tx (1:Int) (60:Int)|| !inR (l.waits.getD (x.val:Int).toNat default).fo (1:Int) (60:Int)||(l.waits.getD (x.val:Int).toNat default).tx==(l.waits.getD
  (x.val:Int).toNat default).fo)=true->false=lksOK l)/\((!inR (l.waits.getD (x.val:Int).toNat default).tx (1:Int) (60:Int)|| !inR (l.waits.getD (x.val:Int).toNat default).fo (1:Int) (60:Int)||(l.waits.getD
  (x.val:Int).toNat default).tx==(l.waits.getD (x.val:Int).toNat default).fo)=false->Rng .i64 ((x.val:Int)+(1:Int))/\∃(y:Cnt l.waits.length (badWt l.waits)),(((0=0/\0=0)/\(x.val:Int)+(1:Int)=(y.val:Int)/\
  True)/\(1=1/\1=1/\(EqL lckRow l.held l.held)/\(EqL wtRow l.waits l.waits)/\True)/\True)/\Lt (l.waits.length-y.val) (l.waits.length-x.val)))/\(decide ((x.val:Int)<(l.waits.length:Int))=false->true=lksOK l)))):
  PureFn Tryz.prog 73 [.agg l.ts] (.bool (lksOK l)):=
 vcR (code:=b_LocksOKs) (gC l06Ask_ok call_l06Ask (gC l06Fit_ok call_l06Fit (gC l01In_ok call_l01In gN))) Tryz.func73 (by kernel_rfl) (by kernel_rfl) (A_LocksOKs l) h (by kernel_rfl)
theorem bad2_S(L:List Lck)(a:Lck)(k:Nat):bad2s L a k=bad2 L a k:=by
 unfold bad2s bad2 clash sameL oneT';generalize (a.ta==(L.getD k default).ta)=p;generalize (a.row==(L.getD k default).row)=q;generalize (a.mo==(L.getD k default).mo)=r;generalize fits a.mo (L.getD k default).mo=t;rw[show(a.tx !=(L.getD k default).tx)= !(a.tx==(L.getD k default).tx) from rfl]
 generalize (a.tx==(L.getD k default).tx)=u;cases p<;>cases q<;>cases r<;>cases t<;>cases u<;>rfl
theorem LocksOKs_ok:ConOk Tryz.prog 73 k_LocksOKs:=by
 rintro(l:Lks) ⟨hL,hw⟩;have hL:l.held.length<1000000000000:=hL;have hw:l.waits.length<1000000000000:=hw;have bh:∀i,i<l.held.length->badLck l.held i=true->false=lksOK l:=fun i hi hb=>by
  have:anyI l.held.length (badLck l.held)=true:=anyI_iff.2 ⟨i,hi,hb⟩;unfold lksOK;rw[this];rfl
 refine v_LocksOKs l ⟨fun h=> ?_,fun h=>⟨⟨cnt0,⟨⟨rfl,rfl⟩,rfl,trivial⟩,⟨rfl,rfl,⟨rfl,rowsR _ _⟩,⟨rfl,rowsR _ _⟩,trivial⟩,trivial⟩,fun x=>⟨fun hc=> ?_,fun hc=>⟨⟨cnt0,⟨⟨rfl,rfl⟩,rfl,trivial⟩,⟨rfl,rfl,⟨rfl,rowsR _ _⟩,⟨rfl,rowsR _ _⟩,trivial⟩,trivial⟩,fun y=>⟨fun hy=> ?_,fun hy=> ?_⟩⟩⟩⟩⟩
 ·simp only[Bool.or_eq_true,decide_eq_true_eq] at h;unfold lksOK;rcases h with h|h
  ·rw[decide_eq_false (p:=l.held.length<=60) (by omega)]
   simp
  ·rw[decide_eq_false (p:=l.waits.length<=100) (by omega)]
   simp
 ·have hlt:=lt_of_dec hc;refine⟨inB_nat hlt,l.held.getD x.val default,⟨⟨rfl,rfl,rfl,rfl,trivial⟩,trivial⟩,fun hb=>bh _ hlt (by unfold badLck;rw[hb];rfl),fun hb=>⟨⟨cnt0,⟨⟨rfl,rfl⟩,rfl,⟨rfl,rfl⟩,rfl,trivial⟩,⟨rfl,rfl,⟨rfl,rowsR _ _⟩,⟨rfl,rowsR _ _⟩,trivial⟩,⟨rfl,rfl,rfl,rfl,rfl,rfl,trivial⟩,trivial⟩,fun y=>⟨fun hy=> ?_,fun hy=> ?_⟩⟩⟩
  ·have hyt:=lt_of_dec hy;refine⟨inB_nat (by omega),((l.held.getD x.val default).mo,(l.held.getD y.val default).mo),fun _ _ _=>⟨⟨rfl,rfl,trivial⟩,trivial⟩,fun hq=> ?_,fun hq=>⟨add_rng hyt (by omega),y.succ hyt ((bad2_S _ _ _).symm.trans hq),⟨⟨⟨rfl,rfl⟩,rfl,⟨rfl,rfl⟩,by simp only[Cnt.succ];omega,trivial⟩,⟨rfl,rfl,⟨rfl,rowsR _ _⟩,⟨rfl,rowsR _ _⟩,trivial⟩,⟨rfl,rfl,rfl,rfl,rfl,rfl,trivial⟩,trivial⟩,Cnt.ext_lt hyt⟩⟩
   refine bh _ hlt ?_
   unfold badLck;have:anyI x.val (bad2 l.held (l.held.getD x.val default))=true:=anyI_iff.2 ⟨y.val,hyt,(bad2_S _ _ _).symm.trans hq⟩;rw[this,Bool.or_true]
  ·have hge:=le_of_not hy;have:anyI x.val (bad2 l.held (l.held.getD x.val default))=false:=anyI_no.2 fun i hi=>y.2.2 i (Nat.lt_of_lt_of_le hi hge)
   exact⟨add_rng hlt (by omega),x.succ hlt (by unfold badLck;rw[hb,this];rfl),⟨⟨⟨rfl,rfl⟩,by simp only[Cnt.succ];omega,trivial⟩,⟨rfl,rfl,⟨rfl,rowsR _ _⟩,⟨rfl,rowsR _ _⟩,trivial⟩,trivial⟩,Cnt.ext_lt hlt⟩
 ·have hlt:=lt_of_dec hy;refine⟨inB_nat hlt,fun hq=> ?_,fun hq=>⟨add_rng hlt (by omega),y.succ hlt hq,⟨⟨⟨rfl,rfl⟩,by simp only[Cnt.succ];omega,trivial⟩,⟨rfl,rfl,⟨rfl,rowsR _ _⟩,⟨rfl,rowsR _ _⟩,trivial⟩,trivial⟩,Cnt.ext_lt hlt⟩⟩
  have:anyI l.waits.length (badWt l.waits)=true:=anyI_iff.2 ⟨y.val,hlt,hq⟩;unfold lksOK;rw[this];simp
 ·have g1:=le_of_not hc;have g2:=le_of_not hy;have e1:anyI l.held.length (badLck l.held)=false:=anyI_no.2 fun i hi=>x.2.2 i (Nat.lt_of_lt_of_le hi g1)
  have e2:anyI l.waits.length (badWt l.waits)=false:=anyI_no.2 fun i hi=>y.2.2 i (Nat.lt_of_lt_of_le hi g2)
  simp only[Bool.or_eq_false_iff,decide_eq_false_iff_not] at h;unfold lksOK;rw[e1,e2,decide_eq_true (p:=l.held.length<=60) (by omega),decide_eq_true (p:=l.waits.length<=100) (by omega)]
  rfl
end Go.Proofs.YtokaojbaacnngaaGreat

