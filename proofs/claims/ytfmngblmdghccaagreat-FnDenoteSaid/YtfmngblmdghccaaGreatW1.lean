/- A part of the proof. -/
import Derived.Test.YtfmngblmdghccaaGreatE4
namespace Go.Proofs.YtfmngblmdghccaaGreat
set_option maxRecDepth 100000
open Go.SS

structure Val where
 k:Int
 n:Int
 t:List UInt8
 deriving Inhabited
def Val.ts(v:Val):List T:=[.int .i64 v.k,.int .i64 v.n,.str v.t]
structure Rw where
 id:Int
 n:Val
 name:Val
 deriving Inhabited
def Rw.ts(r:Rw):List T:=[.int .i64 r.id,.int .i64 r.n.k,.int .i64 r.n.n,.str r.n.t,.int .i64 r.name.k,.int .i64 r.name.n,.str r.name.t]
structure Chg where
 se:Int
 ta:Int
 row:Rw
 gone:Bool
 deriving Inhabited
def Chg.ts(c:Chg):List T:=[.int .i64 c.se,.int .i64 c.ta,.int .i64 c.row.id,.int .i64 c.row.n.k,.int .i64 c.row.n.n,.str c.row.n.t,.int .i64 c.row.name.k,.int .i64 c.row.name.n,.str c.row.name.t,.bool c.gone]
def letB(c:UInt8):Bool:=decide (c.toNat≥97)&&decide (c.toNat<=122)
def badW(t:List UInt8)(i:Nat):Bool:= !letB (t.getD i 0)
def wordOK(t:List UInt8):Bool:= !anyI t.length (badW t)&&decide (t.length<=10)
def valOK(v:Val):Bool:=if v.k=0 then(v.n==0)&&(v.t==[]) else if v.k=1 then inR v.n (-1000000000) 1000000000&&(v.t==[]) else(v.k==2)&&(v.n==0)&&wordOK v.t
def rowOKb(r:Rw):Bool:=inR r.id 0 1000&&valOK r.n&&(r.n.k !=2)&&valOK r.name&&(r.name.k !=1)
def r_isLetter:Rl:=⟨UInt8,fun c=>[.int .u8 c.toNat],fun c=>.bool (letB c),fun _=>True⟩
def k_isLetter:Con:=.rel r_isLetter
noncomputable def b_isLetter:Code:=Tryz.f109.body.getD .skip
theorem call_isLetter:Callable Tryz.prog 109:=⟨_,Tryz.func109,by kernel_rfl,by kernel_rfl⟩
theorem v_isLetter(c:UInt8)(h:
  (decide ((c.toNat:Int)≥(97:Int))&&decide ((c.toNat:Int)<=(122:Int)))=letB c):
  PureFn Tryz.prog 109 [.int .u8 c.toNat] (.bool (letB c)):=
 vcR (code:=b_isLetter) gN Tryz.func109 (by kernel_rfl) (by kernel_rfl) noAnn h (by kernel_rfl)
theorem isLetter_ok:ConOk Tryz.prog 109 k_isLetter:=fun c _=>v_isLetter c (by unfold letB;congr 1<;>exact decide_eq_decide.2 (by omega))
def StB(t:List UInt8):Prop:=Len t.length
def r_isWord:Rl:=⟨List UInt8,fun t=>[.str t],fun t=>.bool (wordOK t),StB⟩
def k_isWord:Con:=.rel r_isWord
def A_isWord(t:List UInt8):Nat->Ann
 |0=>.one (Cnt t.length (badW t)) (fun x=>⟨[(0,.str t),(5,.int .i64 t.length),(6,.int .i64 x.1)],[]⟩) (fun x=>t.length-x.1) [] [] (fun _=>noAnn)
 |_=>.none
noncomputable def b_isWord:Code:=Tryz.f91.body.getD .skip
theorem call_isWord:Callable Tryz.prog 91:=⟨_,Tryz.func91,by kernel_rfl,by kernel_rfl⟩
theorem v_isWord(t:List UInt8)(h:
  (∃(x:Cnt t.length (badW t)),(t=t/\(t.length:Int)=(t.length:Int)/\(0:Int)=(x.val:Int)/\True)/\True)/\∀(x:Cnt t.length (badW t)),(decide ((x.val:Int)<(t.length:Int))=true->InB (x.val:Int) t.length/\∃(x_1
  :r_isLetter.ι),(((↑(t.getD (x.val:Int).toNat (0:UInt8)).toNat:Int)=(↑(UInt8.toNat x_1):Int)/\True)/\True)/\((!letB x_1)=true->false=wordOK t)/\((!letB x_1)=false->Rng .i64 ((x.val:Int)+(1:Int))/\∃(y:
  Cnt t.length (badW t)),((t=t/\(t.length:Int)=(t.length:Int)/\(x.val:Int)+(1:Int)=(y.val:Int)/\True)/\True)/\Lt (t.length-y.val) (t.length-x.val)))/\(decide ((x.val:Int)<(t.length:Int))=false->decide
  ((t.length:Int)<=(10:Int))=wordOK t)):
  PureFn Tryz.prog 91 [.str t] (.bool (wordOK t)):=
 vcR (code:=b_isWord) (gC isLetter_ok call_isLetter gN) Tryz.func91 (by kernel_rfl) (by kernel_rfl) (A_isWord t) h (by kernel_rfl)
theorem isWord_ok:ConOk Tryz.prog 91 k_isWord:=by
 intro(t:List UInt8) (h:t.length<1000000000000);refine v_isWord t ⟨⟨cnt0,⟨rfl,rfl,rfl,trivial⟩,trivial⟩,fun x=>⟨fun hc=> ?_,fun hc=> ?_⟩⟩
 ·have hlt:=lt_of_dec hc;refine⟨inB_nat hlt,t.getD x.val 0,⟨⟨rfl,trivial⟩,trivial⟩,fun hp=> ?_,fun hp=>⟨add_rng hlt (by omega),x.succ hlt hp,⟨⟨rfl,rfl,by simp only[Cnt.succ];omega,trivial⟩,trivial⟩,Cnt.ext_lt hlt⟩⟩
  have:anyI t.length (badW t)=true:=anyI_iff.2 ⟨x.val,hlt,hp⟩;unfold wordOK;rw[this];rfl
 ·have hge:=le_of_not hc;have:anyI t.length (badW t)=false:=anyI_no.2 fun i hi=>x.2.2 i (Nat.lt_of_lt_of_le hi hge)
  unfold wordOK;rw[this];show _=decide (t.length<=10);exact decide_eq_decide.2 (by omega)
def k_isNumber:Con:=.rel ⟨Int,fun n=>[.int .i64 n],fun n=>.bool (inR n (-1000000000) 1000000000),fun _=>True⟩
noncomputable def b_isNumber:Code:=Tryz.f90.body.getD .skip
theorem call_isNumber:Callable Tryz.prog 90:=⟨_,Tryz.func90,by kernel_rfl,by kernel_rfl⟩
theorem v_isNumber(n:Int)(h:
  inR n (-1000000000:Int) (1000000000:Int)=inR n (-1000000000:Int) (1000000000:Int)):
  PureFn Tryz.prog 90 [.int .i64 n] (.bool (inR n (-1000000000) 1000000000)):=
 vcR (code:=b_isNumber) (gC inRange_ok call_inRange gN) Tryz.func90 (by kernel_rfl) (by kernel_rfl) noAnn h (by kernel_rfl)
theorem isNumber_ok:ConOk Tryz.prog 90 k_isNumber:=fun n _=>v_isNumber n rfl
def r_ValueOK:Rl:=⟨Val,fun v=>[.agg v.ts],fun v=>.bool (valOK v),fun v=>StB v.t⟩
def k_ValueOKi:Con:=.rel r_ValueOK
def k_ValueOKs:Con:=.rel r_ValueOK
noncomputable def b_ValueOKi:Code:=Tryz.f73.body.getD .skip
theorem call_ValueOKi:Callable Tryz.prog 73:=⟨_,Tryz.func73,by kernel_rfl,by kernel_rfl⟩
theorem v_ValueOKi(v:Val)(h:
  ((v.k==(0:Int))=true->(v.k==(0:Int)&&(v.n==(0:Int)&&(v.t==[]&&true)))=valOK v)/\((v.k==(0:Int))=false->((v.k==(1:Int))=true->∃(x:Int),((v.n=x/\True)/\True)/\(inR x (-1000000000:
  Int) (1000000000:Int)&&v.t==[])=valOK v)/\((v.k==(1:Int))=false->∃(x:r_isWord.ι),((v.k==(2:Int)&&v.n==(0:Int))=true->(v.t=x/\True)/\StB x)/\(v.k==(2:Int)&&v.n==(0:Int)&&wordOK x)=
  valOK v))):
  PureFn Tryz.prog 73 [.agg v.ts] (.bool (valOK v)):=
 vcR (code:=b_ValueOKi) (gC isNumber_ok call_isNumber (gC isWord_ok call_isWord gN)) Tryz.func73 (by kernel_rfl) (by kernel_rfl) noAnn h (by kernel_rfl)
theorem ValueOKi_ok:ConOk Tryz.prog 73 k_ValueOKi:=by
 intro(v:Val) h;refine v_ValueOKi v ⟨fun h0=> ?_,fun h0=>⟨fun h1=>⟨v.n,⟨⟨rfl,trivial⟩,trivial⟩,?_⟩,fun h1=>⟨v.t,fun _=>⟨⟨rfl,trivial⟩,h⟩,?_⟩⟩⟩
 ·have h0':v.k=0:=by simpa using h0
  unfold valOK;rw[if_pos h0',h0,Bool.true_and,Bool.and_true]
 ·have h0':v.k≠0:=by simpa using h0
  have h1':v.k=1:=by simpa using h1
  unfold valOK;rw[if_neg h0',if_pos h1']
 ·have h0':v.k≠0:=by simpa using h0
  have h1':v.k≠1:=by simpa using h1
  unfold valOK;rw[if_neg h0',if_neg h1']
def valBox(v:Val):Option Ob:=some (.arr true 1000000 3 1 fun _=>v.ts)
def A_ValueOKs(v:Val):Nat->Ann
 |0=>.one (Cnt v.t.length (badW v.t)) (fun x=>⟨[(1,.ref 0 0 0),(3,.int .i64 x.1)],[valBox v]⟩) (fun x=>v.t.length-x.1) [.box 0] [.box 0] (fun _=>noAnn)
 |_=>.none
noncomputable def b_ValueOKs:Code:=Tryz.f82.body.getD .skip
theorem call_ValueOKs:Callable Tryz.prog 82:=⟨_,Tryz.func82,by kernel_rfl,by kernel_rfl⟩
theorem v_ValueOKs(v:Val)(h:
  ((v.k==(0:Int))=true->(v.n==(0:Int)&&v.t==[])=valOK v)/\((v.k==(0:Int))=false->((v.k==(1:Int))=true->(inR v.n (-1000000000:Int) (1000000000:Int)&&v.t==[])=valOK v)/\((v.k==(1:Int))=
  false->((v.k==(2:Int))=true->((v.n !=(0:Int)||decide ((v.t.length:Int)>(10:Int)))=true->false=valOK v)/\((v.n !=(0:Int)||decide ((v.t.length:Int)>(10:Int)))=false->(∃(x:Cnt v.t.length (badW
  v.t)),((0=0/\0=0)/\(0:Int)=(x.val:Int)/\True)/\(1=1/\1=1/\v.k=v.k/\v.n=v.n/\v.t=v.t/\True)/\True)/\∀(x:Cnt v.t.length (badW v.t)),(decide ((x.val:Int)<(v.t.length:Int))=true->InB (x.val:Int)
  v.t.length/\((!inR (IntKind.i64.wrap (↑(v.t.getD (x.val:Int).toNat (0:UInt8)).toNat:Int)) (97:Int) (122:Int))=true->false=valOK v)/\((!inR (IntKind.i64.wrap (↑(v.t.getD (x.val:Int).toNat (0:UInt8)).toNat:Int))
  (97:Int) (122:Int))=false->Rng .i64 ((x.val:Int)+(1:Int))/\∃(y:Cnt v.t.length (badW v.t)),(((0=0/\0=0)/\(x.val:Int)+(1:Int)=(y.val:Int)/\True)/\(1=1/\1=1/\v.k=v.k/\v.n=v.n/\v.t=v.t/\
  True)/\True)/\Lt (v.t.length-y.val) (v.t.length-x.val)))/\(decide ((x.val:Int)<(v.t.length:Int))=false->true=valOK v)))/\((v.k==(2:Int))=false->false=valOK v)))):
  PureFn Tryz.prog 82 [.agg v.ts] (.bool (valOK v)):=
 vcR (code:=b_ValueOKs) (gC l01In_ok call_l01In gN) Tryz.func82 (by kernel_rfl) (by kernel_rfl) (A_ValueOKs v) h (by kernel_rfl)
theorem wordS{v:Val}(h:v.k=2)(hn:v.n=0)(hl:v.t.length<=10):valOK v= !anyI v.t.length (badW v.t):=by
 unfold valOK;rw[if_neg (by omega),if_neg (by omega),h,hn]
 unfold wordOK;rw[decide_eq_true hl,Bool.and_true];rfl
theorem ValueOKs_ok:ConOk Tryz.prog 82 k_ValueOKs:=by
 intro(v:Val) (h:v.t.length<1000000000000);refine v_ValueOKs v ⟨fun h0=> ?_,fun h0=>⟨fun h1=> ?_,fun h1=>⟨fun h2=>⟨fun hb=> ?_,fun hb=> ?_⟩,fun h2=> ?_⟩⟩⟩
 ·have h0':v.k=0:=by simpa using h0
  unfold valOK;rw[if_pos h0']
 ·have h0':v.k≠0:=by simpa using h0
  have h1':v.k=1:=by simpa using h1
  unfold valOK;rw[if_neg h0',if_pos h1']
 ·have h2':v.k=2:=by simpa using h2
  unfold valOK wordOK;rw[if_neg (by omega),if_neg (by omega)]
  simp only[Bool.or_eq_true,bne_iff_ne,decide_eq_true_eq] at hb;by_cases hn:v.n=0
  ·rw[decide_eq_false (p:=v.t.length<=10) (by rcases hb with hb|hb<;>omega)]
   simp
  ·rw[show(v.n==0)=false by simpa using hn]
   simp
 ·have h2':v.k=2:=by simpa using h2
  simp only[Bool.or_eq_false_iff,bne_eq_false_iff_eq,decide_eq_false_iff_not] at hb;obtain⟨hn,hl⟩:=hb;have e:=wordS h2' hn (by omega)
  refine⟨⟨cnt0,⟨⟨rfl,rfl⟩,rfl,trivial⟩,⟨rfl,rfl,rfl,rfl,rfl,trivial⟩,trivial⟩,fun x=>⟨fun hc=> ?_,fun hc=> ?_⟩⟩
  ·have hlt:=lt_of_dec hc;rw[wrap_byte,Int.toNat_natCast,show inR ((v.t.getD x.val 0).toNat:Int) 97 122=letB (v.t.getD x.val 0) by unfold inR letB;congr 1<;>exact decide_eq_decide.2 (by omega)]
   refine⟨inB_nat hlt,fun hp=> ?_,fun hp=>⟨add_rng hlt (by omega),x.succ hlt hp,⟨⟨⟨rfl,rfl⟩,by simp only[Cnt.succ];omega,trivial⟩,⟨rfl,rfl,rfl,rfl,rfl,trivial⟩,trivial⟩,Cnt.ext_lt hlt⟩⟩
   have:anyI v.t.length (badW v.t)=true:=anyI_iff.2 ⟨x.val,hlt,hp⟩;rw[e,this];rfl
  ·have hge:=le_of_not hc;have:anyI v.t.length (badW v.t)=false:=anyI_no.2 fun i hi=>x.2.2 i (Nat.lt_of_lt_of_le hi hge)
   rw[e,this];rfl
 ·have h0':v.k≠0:=by simpa using h0
  have h1':v.k≠1:=by simpa using h1
  unfold valOK;rw[if_neg h0',if_neg h1',h2];rfl
def k_isTable:Con:=.rel ⟨Int,fun n=>[.int .i64 n],fun n=>.bool (inR n 1 3),fun _=>True⟩
noncomputable def b_isTable:Code:=Tryz.f49.body.getD .skip
theorem call_isTable:Callable Tryz.prog 49:=⟨_,Tryz.func49,by kernel_rfl,by kernel_rfl⟩
theorem v_isTable(n:Int)(h:
  inR n (1:Int) (3:Int)=inR n (1:Int) (3:Int)):
  PureFn Tryz.prog 49 [.int .i64 n] (.bool (inR n 1 3)):=
 vcR (code:=b_isTable) (gC inRange_ok call_inRange gN) Tryz.func49 (by kernel_rfl) (by kernel_rfl) noAnn h (by kernel_rfl)
theorem isTable_ok:ConOk Tryz.prog 49 k_isTable:=fun n _=>v_isTable n rfl
def k_isId:Con:=.rel ⟨Int,fun n=>[.int .i64 n],fun n=>.bool (inR n 0 1000),fun _=>True⟩
noncomputable def b_isId:Code:=Tryz.f72.body.getD .skip
theorem call_isId:Callable Tryz.prog 72:=⟨_,Tryz.func72,by kernel_rfl,by kernel_rfl⟩
theorem v_isId(n:Int)(h:
  inR n (0:Int) (1000:Int)=inR n (0:Int) (1000:Int)):
  PureFn Tryz.prog 72 [.int .i64 n] (.bool (inR n 0 1000)):=
 vcR (code:=b_isId) (gC inRange_ok call_inRange gN) Tryz.func72 (by kernel_rfl) (by kernel_rfl) noAnn h (by kernel_rfl)
theorem isId_ok:ConOk Tryz.prog 72 k_isId:=fun n _=>v_isId n rfl
def RwB(r:Rw):Prop:=StB r.n.t/\StB r.name.t
def r_rowOK:Rl:=⟨Rw,fun r=>[.agg r.ts],fun r=>.bool (rowOKb r),RwB⟩
def k_rowOK:Con:=.rel r_rowOK
def k_l07Row:Con:=.rel r_rowOK
noncomputable def b_rowOK:Code:=Tryz.f46.body.getD .skip
theorem call_rowOK:Callable Tryz.prog 46:=⟨_,Tryz.func46,by kernel_rfl,by kernel_rfl⟩
theorem v_rowOK(r:Rw)(h:
  ∃(x:Int),((r.id=x/\True)/\True)/\∃(x_1:r_ValueOK.ι),(inR x (0:Int) (1000:Int)=true->((r.n.k=x_1.k/\r.n.n=x_1.n/\r.n.t=x_1.t/\True)/\True)/\StB x_1.t)/\∃(x_2:r_ValueOK.ι),((inR x (0:Int) (1000
  :Int)&&valOK x_1&&r.n.k !=(2:Int))=true->((r.name.k=x_2.k/\r.name.n=x_2.n/\r.name.t=x_2.t/\True)/\True)/\StB x_2.t)/\(inR x (0:Int) (1000:Int)&&valOK x_1&&r.n.k !=(2:Int)&&valOK x_2&&r.name.k
  !=(1:Int))=rowOKb r):
  PureFn Tryz.prog 46 [.agg r.ts] (.bool (rowOKb r)):=
 vcR (code:=b_rowOK) (gC isId_ok call_isId (gC ValueOKi_ok call_ValueOKi gN)) Tryz.func46 (by kernel_rfl) (by kernel_rfl) noAnn h (by kernel_rfl)
theorem rowOK_ok:ConOk Tryz.prog 46 k_rowOK:=by
 rintro(r:Rw) ⟨h1,h2⟩;exact v_rowOK r ⟨r.id,⟨⟨rfl,trivial⟩,trivial⟩,r.n,fun _=>⟨⟨⟨rfl,rfl,rfl,trivial⟩,trivial⟩,h1⟩,r.name,fun _=>⟨⟨⟨rfl,rfl,rfl,trivial⟩,trivial⟩,h2⟩,rfl⟩
noncomputable def b_l07Row:Code:=Tryz.f55.body.getD .skip
theorem call_l07Row:Callable Tryz.prog 55:=⟨_,Tryz.func55,by kernel_rfl,by kernel_rfl⟩
theorem v_l07Row(r:Rw)(h:
  ∃(x:r_ValueOK.ι),(inR r.id (0:Int) (1000:Int)=true->((r.n.k=x.k/\r.n.n=x.n/\r.n.t=x.t/\True)/\True)/\StB x.t)/\∃(x_1:r_ValueOK.ι),((inR r.id (0:Int) (1000:Int)&&valOK x)=true->((r.name.k=x_1.k
  /\r.name.n=x_1.n/\r.name.t=x_1.t/\True)/\True)/\StB x_1.t)/\(inR r.id (0:Int) (1000:Int)&&valOK x&&valOK x_1&&r.n.k !=(2:Int)&&r.name.k !=(1:Int))=rowOKb r):
  PureFn Tryz.prog 55 [.agg r.ts] (.bool (rowOKb r)):=
 vcR (code:=b_l07Row) (gC l01In_ok call_l01In (gC ValueOKs_ok call_ValueOKs gN)) Tryz.func55 (by kernel_rfl) (by kernel_rfl) noAnn h (by kernel_rfl)
theorem l07Row_ok:ConOk Tryz.prog 55 k_l07Row:=by
 rintro(r:Rw) ⟨h1,h2⟩;refine v_l07Row r ⟨r.n,fun _=>⟨⟨⟨rfl,rfl,rfl,trivial⟩,trivial⟩,h1⟩,r.name,fun _=>⟨⟨⟨rfl,rfl,rfl,trivial⟩,trivial⟩,h2⟩,?_⟩
 unfold rowOKb;generalize inR r.id 0 1000=a;generalize valOK r.n=b;generalize (r.n.k !=2)=c;generalize valOK r.name=d;cases a<;>cases b<;>cases c<;>cases d<;>rfl
end Go.Proofs.YtfmngblmdghccaaGreat

namespace Go.Proofs.YtfmngblmdghccaaGreat
open Go.SS

structure Nd where
 op:Int
 a:Int
 b:Int
 c:Int
 v:Val
 deriving Inhabited
def Nd.ts(n:Nd):List T:=[.int .i64 n.op,.int .i64 n.a,.int .i64 n.b,.int .i64 n.c,.int .i64 n.v.k,.int .i64 n.v.n,.str n.v.t]
def ndRow(L:List Nd)(i:Nat):List T:=(L.getD i default).ts
def ndS(L:List Nd):T:=.sl 7 L.length (ndRow L)
def rwRow(L:List Rw)(i:Nat):List T:=(L.getD i default).ts
def rwS(L:List Rw):T:=.sl 7 L.length (rwRow L)
def v0:Val:=⟨0,0,[]⟩
def vI(n:Int):Val:=⟨1,n,[]⟩
def tru(b:Bool):Val:=vI (if b=true then 1 else 0)
def isZ(v:Val):Bool:=(v.k==1)&&(v.n==0)
def isO(v:Val):Bool:=(v.k==1)&&(v.n !=0)
def conn(op:Int)(a b:Val):Val×Int:=
 if(a.k==2||b.k==2)=true then(v0,10) else if(op==12&&(isZ a||isZ b))=true then(tru false,0)
 else if(op==13&&(isO a||isO b))=true then(tru true,0) else if(a.k==0||b.k==0)=true then(v0,0) else(tru (op==12),0)
def ariN(op a b:Int):Int:=if op=6 then a+b else if op=7 then a-b else if op=8 then a*b else a.tdiv b
def ari(op a b:Int):Val×Int:=if(!(op==6)&& !(op==7)&& !(op==8)&&b==0)=true then(v0,11) else if inR (ariN op a b) (-1000000000) 1000000000=true then(vI (ariN op a b),0) else(v0,12)
def cmpN(a b:Int):Int:=if a<b then-1 else if a>b then 1 else 0
def cmpT(a b:List UInt8):Int:=if Op.bytesLess a b=true then-1 else if Op.bytesLess b a=true then 1 else 0
def cmpV(a b:Val):Int:=if cmpN a.k b.k≠0 then cmpN a.k b.k else if cmpN a.n b.n≠0 then cmpN a.n b.n else cmpT a.t b.t
def eqV(a b:Val):Bool:=(a.k==b.k)&&((a.n==b.n)&&(a.t==b.t))
def binV(op:Int)(a b:Val):Val×Int:=
 if(op==12||op==13)=true then conn op a b else if(!(op==10||op==11)&&(a.k==2||b.k==2))=true then(v0,10)
 else if(a.k==0||b.k==0)=true then(v0,0) else if(a.k !=b.k)=true then(v0,10) else if op=10 then(tru (eqV a b),0) else if op=11 then(tru (decide (cmpV a b<0)),0) else ari op a.n b.n
def unaV(op:Int)(a:Val):Val×Int:=
 if op=4 then(tru (a.k==0),0) else if a.k=2 then(v0,10) else if a.k=0 then(v0,0) else if op=3 then(tru (a.n==0),0) else(vI (-a.n),0)
def colV(r:Rw)(c:Int):Val:=if c=0 then vI r.id else if c=1 then r.n else r.name
def evF:Nat->List Nd->Rw->Nat->Val×Int
 |0,_,_,_=>(v0,0)
 |f+1,L,r,i=>if(L.getD i default).op=1 then((L.getD i default).v,0) else if(L.getD i default).op=2 then(colV r (L.getD i default).c,0)
  else if(evF f L r (L.getD i default).a.toNat).2≠0 then(v0,(evF f L r (L.getD i default).a.toNat).2)
  else if(L.getD i default).op<=5 then unaV (L.getD i default).op (evF f L r (L.getD i default).a.toNat).1
  else if((L.getD i default).op==12&&isZ (evF f L r (L.getD i default).a.toNat).1)=true then(tru false,0)
  else if((L.getD i default).op==13&&isO (evF f L r (L.getD i default).a.toNat).1)=true then(tru true,0)
  else if(evF f L r (L.getD i default).b.toNat).2≠0 then(v0,(evF f L r (L.getD i default).b.toNat).2)
  else binV (L.getD i default).op (evF f L r (L.getD i default).a.toNat).1 (evF f L r (L.getD i default).b.toNat).1
def NdP(n:Nd)(i:Nat):Prop:=(n.op=1/\valOK n.v=true)∨(n.op=2/\0<=n.c/\n.c<=2)∨(3<=n.op/\n.op<=5/\0<=n.a/\n.a<i)∨(6<=n.op/\n.op<=13/\0<=n.a/\n.a<i/\0<=n.b/\n.b<i)
def NdL(L:List Nd):Prop:=∀i,i<L.length->NdP (L.getD i default) i
theorem inR_b{n l h:Int}:inR n l h=true↔l<=n/\n<=h:=by
 unfold inR;rw[Bool.and_eq_true,decide_eq_true_eq,decide_eq_true_eq]
theorem vok0:valOK v0=true:=by decide
theorem vokI{n:Int}(h:inR n (-1000000000) 1000000000=true):valOK (vI n)=true:=by
 unfold valOK vI;dsimp only;rw[if_neg (by decide),if_pos rfl,h]
 rfl
theorem vokT(b:Bool):valOK (tru b)=true:=by cases b<;>decide
theorem vok_1{v:Val}(h:valOK v=true)(h1:v.k=1):inR v.n (-1000000000) 1000000000=true/\v.t=[]:=by
 unfold valOK at h;rw[if_neg (by omega),if_pos h1,Bool.and_eq_true] at h
 exact⟨h.1,by simpa using h.2⟩
theorem vok_k{v:Val}(h:valOK v=true):v.k=0∨v.k=1∨v.k=2:=by
 unfold valOK at h;by_cases h0:v.k=0
 ·exact .inl h0
 ·by_cases h1:v.k=1
  ·exact .inr (.inl h1)
  ·rw[if_neg h0,if_neg h1,Bool.and_eq_true,Bool.and_eq_true] at h;exact .inr (.inr (by simpa using h.1.1))
theorem vok_0{v:Val}(h:valOK v=true)(h0:v.k=0):v=v0:=by
 unfold valOK at h;rw[if_pos h0,Bool.and_eq_true] at h;obtain⟨k,n,t⟩:=v;dsimp only at h0 h;have h1:n=0:=by simpa using h.1
 have h2:t=[]:=by simpa using h.2
 rw[h0,h1,h2];rfl
theorem conn_ok(op:Int)(a b:Val):valOK (conn op a b).1=true:=by
 unfold conn;split
 ·exact vok0
 ·split
  ·exact vokT _
  ·split
   ·exact vokT _
   ·split
    ·exact vok0
    ·exact vokT _
theorem ari_ok(op a b:Int):valOK (ari op a b).1=true:=by
 unfold ari;split
 ·exact vok0
 ·split
  ·rename_i h;exact vokI h
  ·exact vok0
theorem bin_ok(op:Int)(a b:Val):valOK (binV op a b).1=true:=by
 unfold binV;split
 ·exact conn_ok op a b
 ·split
  ·exact vok0
  ·split
   ·exact vok0
   ·split
    ·exact vok0
    ·split
     ·exact vokT _
     ·split
      ·exact vokT _
      ·exact ari_ok _ _ _
theorem una_ok(op:Int){a:Val}(h:valOK a=true):valOK (unaV op a).1=true:=by
 unfold unaV;split
 ·exact vokT _
 ·split
  ·exact vok0
  ·split
   ·exact vok0
   ·split
    ·exact vokT _
    ·rename_i h2 h0 _;have h1:a.k=1:=by rcases vok_k h with h|h|h<;>omega
     have:=inR_b.1 (vok_1 h h1).1;exact vokI (inR_b.2 (by omega))
theorem col_ok{r:Rw}(h:rowOKb r=true)(c:Int):valOK (colV r c)=true:=by
 unfold rowOKb at h;rw[Bool.and_eq_true,Bool.and_eq_true,Bool.and_eq_true,Bool.and_eq_true] at h;obtain⟨⟨⟨⟨h1,h2⟩,h3⟩,h4⟩,h5⟩:=h;have:=inR_b.1 h1;unfold colV;split
 ·exact vokI (inR_b.2 (by omega))
 ·split
  ·exact h2
  ·exact h4
theorem ev_ok{L:List Nd}{r:Rw}(hL:NdL L)(hr:rowOKb r=true):∀f i,i<L.length->valOK (evF f L r i).1=true
 |0,_,_=>vok0
 |f+1,i,hi=>by
  have hn:=hL i hi;unfold evF;by_cases h1:(L.getD i default).op=1
  ·rw[if_pos h1];rcases hn with h|h|h|h
   ·exact h.2
   ·omega
   ·omega
   ·omega
  ·rw[if_neg h1];by_cases h2:(L.getD i default).op=2
   ·rw[if_pos h2];exact col_ok hr _
   ·rw[if_neg h2];have ha:(L.getD i default).a.toNat<L.length:=by rcases hn with h|h|h|h<;>omega
    have e1:=ev_ok hL hr f _ ha;split
    ·exact vok0
    ·split
     ·exact una_ok _ e1
     ·split
      ·exact vokT _
      ·split
       ·exact vokT _
       ·split
        ·exact vok0
        ·exact bin_ok _ _ _
theorem ev_fu{L:List Nd}{r:Rw}(hL:NdL L):∀f g i,i<f->i<g->i<L.length->evF f L r i=evF g L r i
 |0,_,_,h,_,_=>absurd h (Nat.not_lt_zero _)
 |_+1,0,_,_,h,_=>absurd h (Nat.not_lt_zero _)
 |f+1,g+1,i,hf,hg,hi=>by
  have hn:=hL i hi;unfold evF;by_cases h1:(L.getD i default).op=1
  ·rw[if_pos h1,if_pos h1]
  ·rw[if_neg h1,if_neg h1];by_cases h2:(L.getD i default).op=2
   ·rw[if_pos h2,if_pos h2]
   ·have ha:(L.getD i default).a.toNat<i:=by rcases hn with h|h|h|h<;>omega
    rw[if_neg h2,if_neg h2,ev_fu hL f g _ (by omega) (by omega) (by omega)]
    by_cases h5:(L.getD i default).op<=5
    ·rw[if_pos h5,if_pos h5]
    ·have hb:(L.getD i default).b.toNat<i:=by rcases hn with h|h|h|h<;>omega
     rw[ev_fu hL f g (L.getD i default).b.toNat (by omega) (by omega) (by omega)]
end Go.Proofs.YtfmngblmdghccaaGreat

namespace Go.Proofs.YtfmngblmdghccaaGreat
open Go.SS

structure Pt where
 p:Int
 d:Int
 deriving Inhabited
def Pt.ts(x:Pt):List T:=[.int .i64 x.p,.int .i64 x.d]
def ptRow(L:List Pt)(i:Nat):List T:=(L.getD i default).ts
def ptA(L:List Pt):Option Ob:=some (.arr true 0 2 L.length (ptRow L))
def popB(S:List Pt)(w:Int):Bool:=decide (0<S.length)&&((S.getD (S.length-1) default).p==w)
def popL(S:List Pt)(w:Int):List Pt:=if popB S w=true then S.take (S.length-1) else S
def popD(S:List Pt)(w:Int):Int:=if popB S w=true then(S.getD (S.length-1) default).d else 0
def dpK(n:Nd):Bool:=(n.a==0)&&(n.b==0)&&(n.c==0)&&valOK n.v
def dpC(n:Nd):Bool:=(n.a==0)&&(n.b==0)&&inR n.c 0 2&&eqV n.v v0
def dpU(n:Nd):Bool:=(n.b==0)&&(n.c==0)&&eqV n.v v0
def dpB(n:Nd):Bool:=(n.c==0)&&eqV n.v v0
def dpS(n:Nd)(i:Nat)(S:List Pt):Option (List Pt):=
 if n.op=1 then(if dpK n=true then some (S++[⟨i,1⟩]) else none)
 else if n.op=2 then(if dpC n=true then some (S++[⟨i,1⟩]) else none)
 else if inR n.op 3 5=true then(if(popB S n.a&&dpU n)=true then some (popL S n.a++[⟨i,popD S n.a+1⟩]) else none)
 else if inR n.op 6 13=true then(if(popB S n.b&&popB (popL S n.b) n.a&&dpB n)=true then some (popL (popL S n.b) n.a++[⟨i,max (popD (popL S n.b) n.a) (popD S n.b)+1⟩]) else none)
 else none
def dpN(L:List Nd):Nat->Option (List Pt)
 |0=>some []
 |i+1=>(dpN L i).bind (dpS (L.getD i default) i)
def dpO(L:List Nd):Int:=match dpN L L.length with|some [x]=>x.d|_=>0
def exOK(L:List Nd):Bool:=inR L.length 1 40&&inR (dpO L) 1 12
def wkF:Nat->List Nd->Int->Int×Int×Bool
 |0,_,_=>(0,0,false)
 |f+1,L,k=>if k<0 then(0,0,false) else
  if(L.getD k.toNat default).op=1 then(k,1,dpK (L.getD k.toNat default))
  else if(L.getD k.toNat default).op=2 then(k,1,dpC (L.getD k.toNat default))
  else if inR (L.getD k.toNat default).op 3 5=true then((wkF f L (k-1)).1,(wkF f L (k-1)).2.1+1,(wkF f L (k-1)).2.2&&((L.getD k.toNat default).a==k-1)&&dpU (L.getD k.toNat default))
  else if inR (L.getD k.toNat default).op 6 13=true then
   (if(wkF f L (k-1)).2.2=true then((wkF f L ((wkF f L (k-1)).1-1)).1,max (wkF f L ((wkF f L (k-1)).1-1)).2.1 (wkF f L (k-1)).2.1+1,(wkF f L ((wkF f L (k-1)).1-1)).2.2&&((L.getD k.toNat default).a==(wkF f L (k-1)).1-1)&&((L.getD k.toNat default).b==k-1)&&dpB (L.getD k.toNat default)) else(0,0,false))
  else(0,0,false)
def exS(L:List Nd):Bool:=inR L.length 1 40&&((wkF L.length L ((L.length:Int)-1)).2.2&&((wkF L.length L ((L.length:Int)-1)).1==0)&&decide ((wkF L.length L ((L.length:Int)-1)).2.1<=12))
theorem pop_app(S:List Pt)(x:Pt):popB (S++[x]) x.p=true/\popL (S++[x]) x.p=S/\popD (S++[x]) x.p=x.d:=by
 have hl:(S++[x]).length-1=S.length:=by simp
 have hg:(S++[x]).getD S.length default=x:=by rw[List.getD_eq_getElem?_getD,List.getElem?_append_right (Nat.le_refl _)];simp
 have hb:popB (S++[x]) x.p=true:=by
  unfold popB;rw[hl,hg];simp
 refine⟨hb,?_,?_⟩
 ·unfold popL;rw[if_pos hb,hl,List.take_left'];rfl
 ·unfold popD;rw[if_pos hb,hl,hg]
theorem pop_inv{S:List Pt}{w:Int}(h:popB S w=true):∃Q x,S=Q++[x]/\x.p=w/\popL S w=Q/\popD S w=x.d:=by
 have h2:=h;unfold popB at h2;rw[Bool.and_eq_true,decide_eq_true_eq,beq_iff_eq] at h2;obtain⟨h3,h4⟩:=h2;have e:S=S.take (S.length-1)++[S.getD (S.length-1) default]:=by
  have:=List.take_append_drop (S.length-1) S;rw[List.drop_eq_getElem_cons (by omega),show S.length-1+1=S.length by omega,List.drop_length] at this
  rw[List.getD_eq_getElem?_getD,List.getElem?_eq_getElem (by omega)]
  exact this.symm
 refine⟨_,_,e,h4,?_,?_⟩
 ·unfold popL;rw[if_pos h]
 ·unfold popD;rw[if_pos h]
theorem wk_dp{L:List Nd}:∀(f:Nat) (k:Int),(wkF f L k).2.2=true->0<=(wkF f L k).1/\(wkF f L k).1<=k/\∀S,dpN L (wkF f L k).1.toNat=some S->dpN L (k.toNat+1)=some (S++[⟨k,(wkF f L k).2.1⟩])
 |0,_,h=>by cases h
 |f+1,k,h=>by
  unfold wkF at h ⊢;by_cases hk:k<0
  ·rw[if_pos hk] at h;cases h
  rw[if_neg hk] at h ⊢;have ek:((k.toNat:Nat):Int)=k:=by omega
  have step:∀S,dpN L k.toNat=some S->dpN L (k.toNat+1)=dpS (L.getD k.toNat default) k.toNat S:=fun S hS=>by
   show(dpN L k.toNat).bind _=_;rw[hS];rfl
  by_cases h1:(L.getD k.toNat default).op=1
  ·rw[if_pos h1] at h ⊢;dsimp only at h ⊢;refine⟨by omega,Int.le_refl _,fun S hS=> ?_⟩
   rw[step S hS];unfold dpS;rw[if_pos h1,if_pos h,ek]
  rw[if_neg h1] at h ⊢;by_cases h2:(L.getD k.toNat default).op=2
  ·rw[if_pos h2] at h ⊢;dsimp only at h ⊢;refine⟨by omega,Int.le_refl _,fun S hS=> ?_⟩
   rw[step S hS];unfold dpS;rw[if_neg h1,if_pos h2,if_pos h,ek]
  rw[if_neg h2] at h ⊢;by_cases h3:inR (L.getD k.toNat default).op 3 5=true
  ·rw[if_pos h3] at h ⊢;dsimp only at h ⊢;rw[Bool.and_eq_true,Bool.and_eq_true,beq_iff_eq] at h;obtain⟨⟨w1,w2⟩,w3⟩:=h;obtain⟨i1,i2,i3⟩:=wk_dp f (k-1) w1;refine⟨i1,by omega,fun S hS=> ?_⟩
   have hq:=i3 S hS;rw[show(k-1).toNat+1=k.toNat by omega] at hq
   rw[step _ hq];obtain⟨p1,p2,p3⟩:=pop_app S ⟨k-1,(wkF f L (k-1)).2.1⟩;dsimp only at p1 p2 p3;unfold dpS;rw[if_neg h1,if_neg h2,if_pos h3,w2,p1,p2,p3,if_pos (by rw[w3];rfl),ek]
  rw[if_neg h3] at h ⊢;by_cases h4:inR (L.getD k.toNat default).op 6 13=true
  ·rw[if_pos h4] at h ⊢;by_cases w1:(wkF f L (k-1)).2.2=true
   ·rw[if_pos w1] at h ⊢;dsimp only at h ⊢;rw[Bool.and_eq_true,Bool.and_eq_true,Bool.and_eq_true,beq_iff_eq,beq_iff_eq] at h;obtain⟨⟨⟨v1,v2⟩,v3⟩,v4⟩:=h;obtain⟨i1,i2,i3⟩:=wk_dp f (k-1) w1;obtain⟨j1,j2,j3⟩:=wk_dp f ((wkF f L (k-1)).1-1) v1;refine⟨j1,by omega,fun S hS=> ?_⟩
    have hq:=j3 S hS;rw[show((wkF f L (k-1)).1-1).toNat+1=(wkF f L (k-1)).1.toNat by omega] at hq
    have hr:=i3 _ hq;rw[show(k-1).toNat+1=k.toNat by omega] at hr
    rw[step _ hr];obtain⟨p1,p2,p3⟩:=pop_app (S++[⟨(wkF f L (k-1)).1-1,(wkF f L ((wkF f L (k-1)).1-1)).2.1⟩]) ⟨k-1,(wkF f L (k-1)).2.1⟩;obtain⟨q1,q2,q3⟩:=pop_app S ⟨(wkF f L (k-1)).1-1,(wkF f L ((wkF f L (k-1)).1-1)).2.1⟩;dsimp only at p1 p2 p3 q1 q2 q3;unfold dpS;rw[if_neg h1,if_neg h2,if_neg h3,if_pos h4,v2,v3,p1,p2,p3,q1,q2,q3,if_pos (by rw[v4];rfl),ek]
   ·rw[if_neg w1] at h;cases h
  ·rw[if_neg h4] at h;cases h
def StW(L:List Nd)(S:List Pt)(i:Nat):Prop:=∀j,j<S.length->0<=(S.getD j default).p/\(S.getD j default).p<i/\1<=(S.getD j default).d/\(j=S.length-1->(S.getD j default).p=(i:Int)-1)/\
 ∀f:Nat,(S.getD j default).p<(f:Int)->wkF f L (S.getD j default).p=(if j=0 then 0 else(S.getD (j-1) default).p+1,(S.getD j default).d,true)
theorem st_app{L:List Nd}{S:List Pt}{i:Nat}{d:Int}(hd:1<=d)(hS:∀j,j<S.length->0<=(S.getD j default).p/\(S.getD j default).p<i/\1<=(S.getD j default).d/\∀f:Nat,(S.getD j default).p<(f:Int)->wkF f L (S.getD j default).p=(if j=0 then 0 else(S.getD (j-1) default).p+1,(S.getD j default).d,true))
  (h:∀f:Nat,(i:Int)<(f:Int)->wkF f L i=(if S.length=0 then 0 else(S.getD (S.length-1) default).p+1,d,true)):StW L (S++[⟨i,d⟩]) (i+1):=by
 intro j hj;rw[List.length_append,List.length_singleton] at hj ⊢;by_cases hlt:j<S.length
 ·have e:(S++[Pt.mk i d]).getD j default=S.getD j default:=by rw[List.getD_eq_getElem?_getD,List.getElem?_append_left hlt,←List.getD_eq_getElem?_getD]
  have e2:j≠0->(S++[Pt.mk i d]).getD (j-1) default=S.getD (j-1) default:=fun _=>by rw[List.getD_eq_getElem?_getD,List.getElem?_append_left (by omega),←List.getD_eq_getElem?_getD]
  obtain⟨a1,a2,a3,a4⟩:=hS j hlt;rw[e];refine⟨a1,by omega,a3,fun hq=>by omega,fun f hf=> ?_⟩
  rw[a4 f hf];by_cases h0:j=0
  ·rw[if_pos h0,if_pos h0]
  ·rw[if_neg h0,if_neg h0,e2 h0]
 ·have hjl:j=S.length:=by omega
  subst hjl;have e:(S++[Pt.mk i d]).getD S.length default=⟨i,d⟩:=by rw[List.getD_eq_getElem?_getD,List.getElem?_append_right (Nat.le_refl _)];simp
  rw[e];dsimp only;refine⟨by omega,by omega,hd,fun _=>by omega,fun f hf=> ?_⟩
  rw[h f hf];by_cases h0:S.length=0
  ·rw[if_pos h0,if_pos h0]
  ·rw[if_neg h0,if_neg h0];have e2:(S++[Pt.mk i d]).getD (S.length-1) default=S.getD (S.length-1) default:=by rw[List.getD_eq_getElem?_getD,List.getElem?_append_left (by omega),←List.getD_eq_getElem?_getD]
   rw[e2]
end Go.Proofs.YtfmngblmdghccaaGreat

namespace Go.Proofs.YtfmngblmdghccaaGreat
open Go.SS

theorem gd_l{S:List Pt}{x:Pt}{j:Nat}(h:j<S.length):(S++[x]).getD j default=S.getD j default:=by rw[List.getD_eq_getElem?_getD,List.getElem?_append_left h,←List.getD_eq_getElem?_getD]
theorem gd_r{S:List Pt}{x:Pt}:(S++[x]).getD S.length default=x:=by rw[List.getD_eq_getElem?_getD,List.getElem?_append_right (Nat.le_refl _)];simp
theorem StW.pre{L:List Nd}{S:List Pt}{x:Pt}{i m:Nat}(h:StW L (S++[x]) i)(hm:i<=m):∀j,j<S.length->0<=(S.getD j default).p/\(S.getD j default).p<m/\1<=(S.getD j default).d/\∀f:Nat,(S.getD j default).p<(f:Int)->wkF f L (S.getD j default).p=(if j=0 then 0 else(S.getD (j-1) default).p+1,(S.getD j default).d,true):=fun j hj=>by
 obtain⟨a1,a2,a3,_,a5⟩:=h j (by simp;omega)
 rw[gd_l hj] at a1 a2 a3 a5;refine⟨a1,by omega,a3,fun f hf=> ?_⟩
 rw[a5 f hf];by_cases h0:j=0
 ·rw[if_pos h0,if_pos h0]
 ·rw[if_neg h0,if_neg h0,gd_l (by omega)]
theorem StW.all{L:List Nd}{S:List Pt}{i:Nat}(h:StW L S i):∀j,j<S.length->0<=(S.getD j default).p/\(S.getD j default).p<i/\1<=(S.getD j default).d/\∀f:Nat,(S.getD j default).p<(f:Int)->wkF f L (S.getD j default).p=(if j=0 then 0 else(S.getD (j-1) default).p+1,(S.getD j default).d,true):=fun j hj=>by
 obtain⟨a1,a2,a3,_,a5⟩:=h j hj;exact⟨a1,a2,a3,a5⟩
theorem StW.last{L:List Nd}{S:List Pt}{x:Pt}{i:Nat}(h:StW L (S++[x]) i):0<=x.p/\x.p=(i:Int)-1/\1<=x.d/\∀f:Nat,x.p<(f:Int)->wkF f L x.p=(if S.length=0 then 0 else(S.getD (S.length-1) default).p+1,x.d,true):=by
 obtain⟨a1,a2,a3,a4,a5⟩:=h S.length (by simp)
 rw[gd_r] at a1 a2 a3 a4 a5;refine⟨a1,a4 (by simp),a3,fun f hf=> ?_⟩
 rw[a5 f hf];by_cases h0:S.length=0
 ·rw[if_pos h0,if_pos h0]
 ·rw[if_neg h0,if_neg h0,gd_l (by omega)]
theorem dp_st{L:List Nd}:∀(i:Nat) (S:List Pt),dpN L i=some S->StW L S i/\(i≠0->0<S.length)/\∀j,j<i->NdP (L.getD j default) j
 |0,S,h=>by
  obtain rfl:[]=S:=Option.some.inj h;exact⟨fun j hj=>absurd hj (Nat.not_lt_zero _),fun h=>absurd rfl h,fun j hj=>absurd hj (Nat.not_lt_zero _)⟩
 |i+1,S,h=>by
  replace h:(dpN L i).bind (dpS (L.getD i default) i)=some S:=h;obtain⟨Q,hQ,hd⟩:∃Q,dpN L i=some Q/\dpS (L.getD i default) i Q=some S:=by
   cases hq:dpN L i with
   |none=>rw[hq] at h;cases h
   |some Q=>rw[hq] at h;exact⟨Q,rfl,h⟩
  obtain⟨w1,w2,w3⟩:=dp_st i Q hQ;have nod:NdP (L.getD i default) i->∀j,j<i+1->NdP (L.getD j default) j:=fun hn j hj=>by
   by_cases e:j=i
   ·rw[e];exact hn
   ·exact w3 j (by omega)
  have leaf:((L.getD i default).op=1/\dpK (L.getD i default)=true∨(L.getD i default).op=2/\dpC (L.getD i default)=true)->StW L (Q++[Pt.mk i 1]) (i+1):=fun hl=>by
   refine st_app (by omega) w1.all fun f hf=> ?_
   have hfr:(if Q.length=0 then(0:Int) else(Q.getD (Q.length-1) default).p+1)=i:=by
    by_cases h0:Q.length=0
    ·rw[if_pos h0];by_cases hi:i=0
     ·rw[hi];rfl
     ·have:=w2 hi;omega
    ·rw[if_neg h0,(w1 (Q.length-1) (by omega)).2.2.2.1 rfl]
     omega
   rw[hfr];obtain⟨g,rfl⟩:∃g,f=g+1:=⟨f-1,by omega⟩
   unfold wkF;rw[if_neg (by omega),Int.toNat_natCast]
   rcases hl with⟨e1,e2⟩|⟨e1,e2⟩
   ·rw[if_pos e1,e2]
   ·rw[if_neg (by omega),if_pos e1,e2]
  unfold dpS at hd;by_cases h1:(L.getD i default).op=1
  ·rw[if_pos h1] at hd;split at hd
   ·rename_i hk;obtain rfl:=Option.some.inj hd;refine⟨leaf (.inl ⟨h1,hk⟩),fun _=>by simp,nod (.inl ⟨h1,?_⟩)⟩
    unfold dpK at hk;rw[Bool.and_eq_true] at hk;exact hk.2
   ·cases hd
  rw[if_neg h1] at hd;by_cases h2:(L.getD i default).op=2
  ·rw[if_pos h2] at hd;split at hd
   ·rename_i hk;obtain rfl:=Option.some.inj hd;refine⟨leaf (.inr ⟨h2,hk⟩),fun _=>by simp,nod (.inr (.inl ⟨h2,?_⟩))⟩
    unfold dpC at hk;rw[Bool.and_eq_true,Bool.and_eq_true] at hk;exact inR_b.1 hk.1.2
   ·cases hd
  rw[if_neg h2] at hd;by_cases h3:inR (L.getD i default).op 3 5=true
  ·have h3':=inR_b.1 h3;rw[if_pos h3] at hd;split at hd
   ·rename_i hk;obtain rfl:=Option.some.inj hd;rw[Bool.and_eq_true] at hk;obtain⟨R,x,rfl,p2,p3,p4⟩:=pop_inv hk.1;obtain⟨l1,l2,l3,l4⟩:=w1.last;rw[p3,p4];refine⟨st_app (by omega) (w1.pre (Nat.le_refl i)) fun f hf=> ?_,fun _=>by simp,nod (.inr (.inr (.inl ⟨h3'.1,h3'.2,by omega,by omega⟩)))⟩
    obtain⟨g,rfl⟩:∃g,f=g+1:=⟨f-1,by omega⟩
    have hw:=l4 g (by omega)
    rw[l2] at hw;unfold wkF;rw[if_neg (by omega),Int.toNat_natCast,if_neg h1,if_neg h2,if_pos h3,hw,show(L.getD i default).a=(i:Int)-1 by omega,hk.2]
    simp
   ·cases hd
  rw[if_neg h3] at hd;by_cases h4:inR (L.getD i default).op 6 13=true
  ·have h4':=inR_b.1 h4;rw[if_pos h4] at hd;split at hd
   ·rename_i hk;obtain rfl:=Option.some.inj hd;rw[Bool.and_eq_true,Bool.and_eq_true] at hk;obtain⟨⟨k1,k2⟩,k3⟩:=hk;obtain⟨R,y,rfl,p2,p3,p4⟩:=pop_inv k1;rw[p3] at k2;obtain⟨Z,x,rfl,q2,q3,q4⟩:=pop_inv k2;obtain⟨l1,l2,l3,l4⟩:=w1.last;have hZ:=w1.pre (Nat.le_refl i);obtain⟨m1,m2,m3,m5⟩:=hZ Z.length (by simp)
    rw[gd_r] at m1 m2 m3 m5;rw[p3,p4,q3,q4];have hZ2:∀j,j<Z.length->0<=(Z.getD j default).p/\(Z.getD j default).p<i/\1<=(Z.getD j default).d/\∀f:Nat,(Z.getD j default).p<(f:Int)->wkF f L (Z.getD j default).p=(if j=0 then 0 else(Z.getD (j-1) default).p+1,(Z.getD j default).d,true):=fun j hj=>by
     obtain⟨a1,a2,a3,a5⟩:=hZ j (by simp;omega)
     rw[gd_l hj] at a1 a2 a3 a5;refine⟨a1,a2,a3,fun f hf=> ?_⟩
     rw[a5 f hf];by_cases h0:j=0
     ·rw[if_pos h0,if_pos h0]
     ·rw[if_neg h0,if_neg h0,gd_l (by omega)]
    refine⟨st_app (by omega) hZ2 fun f hf=> ?_,fun _=>by simp,nod (.inr (.inr (.inr ⟨h4'.1,h4'.2,by omega,by omega,by omega,by omega⟩)))⟩
    obtain⟨g,rfl⟩:∃g,f=g+1:=⟨f-1,by omega⟩
    have hw:=l4 g (by omega)
    rw[if_neg (by simp),show(Z++[x]).length-1=Z.length by simp,gd_r,l2] at hw
    have hv:=m5 g (by omega)
    have hv2:(if Z.length=0 then(0:Int) else((Z++[x]).getD (Z.length-1) default).p+1)=(if Z.length=0 then 0 else(Z.getD (Z.length-1) default).p+1):=by
     by_cases h0:Z.length=0
     ·rw[if_pos h0,if_pos h0]
     ·rw[if_neg h0,if_neg h0,gd_l (by omega)]
    rw[hv2] at hv;unfold wkF;rw[if_neg (by omega),Int.toNat_natCast,if_neg h1,if_neg h2,if_neg h3,if_pos h4,hw]
    dsimp only;rw[if_pos rfl,show x.p+1-1=x.p by omega,hv,show(L.getD i default).a=x.p by omega,show(L.getD i default).b=(i:Int)-1 by omega,k3]
    simp
   ·cases hd
  ·rw[if_neg h4] at hd;cases hd
theorem dpO_pos{L:List Nd}(h:1<=dpO L):∃x,dpN L L.length=some [x]/\dpO L=x.d:=by
 unfold dpO at h ⊢;split at h
 ·rename_i x hx;exact⟨x,hx,rfl⟩
 ·omega
theorem ex_nd{L:List Nd}(h:exOK L=true):NdL L/\0<L.length/\L.length<=40:=by
 unfold exOK at h;rw[Bool.and_eq_true] at h;obtain⟨h1,h2⟩:=h;have h1:=inR_b.1 h1;have h2:=inR_b.1 h2;obtain⟨x,hx,_⟩:=dpO_pos h2.1;exact⟨(dp_st _ _ hx).2.2,by omega,by omega⟩
theorem ex_eq(L:List Nd):exS L=exOK L:=by
 rw[Bool.eq_iff_iff];unfold exS exOK;rw[Bool.and_eq_true,Bool.and_eq_true,Bool.and_eq_true,Bool.and_eq_true,decide_eq_true_eq,beq_iff_eq];refine⟨fun⟨h1,⟨h2,h3⟩,h4⟩=>⟨h1,?_⟩,fun⟨h1,h2⟩=>⟨h1,?_⟩⟩
 ·have hl:=inR_b.1 h1;obtain⟨_,_,hk⟩:=wk_dp _ _ h2;have:=hk [] (by rw[h3];rfl)
  rw[show((L.length:Int)-1).toNat+1=L.length by omega] at this
  have hs:=(dp_st _ _ this).1 0 (by simp)
  have hO:dpO L=(wkF L.length L ((L.length:Int)-1)).2.1:=by
   unfold dpO;rw[this];rfl
  have hd:=hs.2.2.1;rw[hO];exact inR_b.2 ⟨hd,h4⟩
 ·have hl:=inR_b.1 h1;have h2':=inR_b.1 h2;obtain⟨x,hx,he⟩:=dpO_pos h2'.1;obtain⟨l1,l2,l3,l4⟩:=StW.last (S:=[]) (dp_st _ _ hx).1;have hw:=l4 L.length (by omega)
  rw[l2] at hw;rw[hw];dsimp only;exact⟨⟨rfl,rfl⟩,by omega⟩
end Go.Proofs.YtfmngblmdghccaaGreat

namespace Go.Proofs.YtfmngblmdghccaaGreat
open Go.SS

theorem bl_irr:∀a:List UInt8,Op.bytesLess a a=false
 | []=>rfl
 |a::x=>by
  unfold Op.bytesLess;rw[bl_irr x];simp
theorem bl_tr:∀a b c:List UInt8,Op.bytesLess a b=true->Op.bytesLess b c=true->Op.bytesLess a c=true
 |_,[],_,h,_=>by unfold Op.bytesLess at h;cases h
 |_,_::_,[],_,h=>by unfold Op.bytesLess at h;cases h
 | [],_::_,_::_,_,_=>rfl
 |a::x,b::y,c::z,h,g=>by
  unfold Op.bytesLess at h g ⊢;simp only[Bool.or_eq_true,decide_eq_true_eq,Bool.and_eq_true,beq_iff_eq,UInt8.lt_iff_toNat_lt] at h g ⊢;rcases h with h|⟨rfl,h⟩
  ·rcases g with g|⟨rfl,g⟩
   ·exact .inl (by omega)
   ·exact .inl h
  ·rcases g with g|⟨rfl,g⟩
   ·exact .inl g
   ·exact .inr ⟨rfl,bl_tr x y z h g⟩
theorem bl_tot:∀a b:List UInt8,Op.bytesLess a b=false->Op.bytesLess b a=false->a=b
 | [],[],_,_=>rfl
 | [],_::_,h,_=>by unfold Op.bytesLess at h;cases h
 |_::_,[],_,h=>by unfold Op.bytesLess at h;cases h
 |a::x,b::y,h,g=>by
  unfold Op.bytesLess at h g;simp only[Bool.or_eq_false_iff,decide_eq_false_iff_not,UInt8.lt_iff_toNat_lt] at h g;have e:a=b:=UInt8.toNat_inj.1 (by omega)
  subst e;simp only[beq_self_eq_true,Bool.true_and] at h g;rw[bl_tot x y h.2 g.2]
def LtV(a b:Val):Prop:=a.k<b.k∨a.k=b.k/\(a.n<b.n∨a.n=b.n/\Op.bytesLess a.t b.t=true)
theorem LtV.irr{a:Val}(h:LtV a a):False:=by
 rcases h with h|⟨_,h|⟨_,h⟩⟩
 ·omega
 ·omega
 ·rw[bl_irr] at h;cases h
theorem LtV.tr{a b c:Val}(h:LtV a b)(g:LtV b c):LtV a c:=by
 rcases h with h|⟨h1,h|⟨h2,h⟩⟩
 ·rcases g with g|⟨g1,_⟩
  ·exact .inl (by omega)
  ·exact .inl (by omega)
 ·rcases g with g|⟨g1,g|⟨g2,g⟩⟩
  ·exact .inl (by omega)
  ·exact .inr ⟨by omega,.inl (by omega)⟩
  ·exact .inr ⟨by omega,.inl (by omega)⟩
 ·rcases g with g|⟨g1,g|⟨g2,g⟩⟩
  ·exact .inl (by omega)
  ·exact .inr ⟨by omega,.inl (by omega)⟩
  ·exact .inr ⟨by omega,.inr ⟨by omega,bl_tr _ _ _ h g⟩⟩
theorem LtV.tri(a b:Val):LtV a b∨a=b∨LtV b a:=by
 by_cases h1:a.k<b.k
 ·exact .inl (.inl h1)
 by_cases h2:b.k<a.k
 ·exact .inr (.inr (.inl h2))
 by_cases h3:a.n<b.n
 ·exact .inl (.inr ⟨by omega,.inl h3⟩)
 by_cases h4:b.n<a.n
 ·exact .inr (.inr (.inr ⟨by omega,.inl h4⟩))
 cases h5:Op.bytesLess a.t b.t with
 |true=>exact .inl (.inr ⟨by omega,.inr ⟨by omega,h5⟩⟩)
 |false=>
  cases h6:Op.bytesLess b.t a.t with
  |true=>exact .inr (.inr (.inr ⟨by omega,.inr ⟨by omega,h6⟩⟩))
  |false=>
   obtain⟨ak,an,at_⟩:=a;obtain⟨bk,bn,bt⟩:=b;dsimp only at h1 h2 h3 h4 h5 h6;rw[show ak=bk by omega,show an=bn by omega,bl_tot _ _ h5 h6]
   exact .inr (.inl rfl)
theorem cmpV_lt{a b:Val}(h:LtV a b):cmpV a b= -1:=by
 unfold cmpV cmpN cmpT;rcases h with h|⟨h1,h|⟨h2,h⟩⟩
 ·rw[if_pos h,if_pos (by decide)]
 ·rw[if_neg (show ¬a.k<b.k by omega),if_neg (show ¬a.k>b.k by omega),if_neg (by decide),if_pos h,if_pos (by decide)]
 ·rw[if_neg (show ¬a.k<b.k by omega),if_neg (show ¬a.k>b.k by omega),if_neg (by decide),if_neg (show ¬a.n<b.n by omega),if_neg (show ¬a.n>b.n by omega),if_neg (by decide),if_pos h]
theorem cmpV_gt{a b:Val}(h:LtV b a):cmpV a b=1:=by
 unfold cmpV cmpN cmpT;rcases h with h|⟨h1,h|⟨h2,h⟩⟩
 ·rw[if_neg (show ¬a.k<b.k by omega),if_pos (show a.k>b.k by omega),if_pos (by decide)]
 ·rw[if_neg (show ¬a.k<b.k by omega),if_neg (show ¬a.k>b.k by omega),if_neg (by decide),if_neg (show ¬a.n<b.n by omega),if_pos (show a.n>b.n by omega),if_pos (by decide)]
 ·have hn:Op.bytesLess a.t b.t=false:=by
   cases hq:Op.bytesLess a.t b.t with
   |false=>rfl
   |true=>
    have:=bl_tr _ _ _ h hq;rw[bl_irr] at this;cases this
  rw[if_neg (show ¬a.k<b.k by omega),if_neg (show ¬a.k>b.k by omega),if_neg (by decide),if_neg (show ¬a.n<b.n by omega),if_neg (show ¬a.n>b.n by omega),if_neg (by decide),if_neg (by rw[hn];simp),if_pos h]
theorem cmpV_eq(a:Val):cmpV a a=0:=by
 unfold cmpV cmpN cmpT;rw[bl_irr];simp
def cmpR(c:Int)(a b:Rw):Int:=if cmpV (colV a c) (colV b c)≠0 then cmpV (colV a c) (colV b c) else cmpN a.id b.id
def LtR(c:Int)(a b:Rw):Prop:=LtV (colV a c) (colV b c)∨colV a c=colV b c/\a.id<b.id
theorem LtR.irr{c:Int}{a:Rw}(h:LtR c a a):False:=by
 rcases h with h|⟨_,h⟩
 ·exact h.irr
 ·omega
theorem LtR.tr{c:Int}{a b d:Rw}(h:LtR c a b)(g:LtR c b d):LtR c a d:=by
 rcases h with h|⟨h1,h⟩
 ·rcases g with g|⟨g1,g⟩
  ·exact .inl (h.tr g)
  ·exact .inl (g1▸h)
 ·rcases g with g|⟨g1,g⟩
  ·exact .inl (h1▸g)
  ·exact .inr ⟨h1.trans g1,by omega⟩
theorem LtR.tri(c:Int)(a b:Rw):LtR c a b∨(colV a c=colV b c/\a.id=b.id)∨LtR c b a:=by
 rcases LtV.tri (colV a c) (colV b c) with h|h|h
 ·exact .inl (.inl h)
 ·by_cases h1:a.id<b.id
  ·exact .inl (.inr ⟨h,h1⟩)
  ·by_cases h2:b.id<a.id
   ·exact .inr (.inr (.inr ⟨h.symm,h2⟩))
   ·exact .inr (.inl ⟨h,by omega⟩)
 ·exact .inr (.inr (.inl h))
theorem cmpR_lt{c:Int}{a b:Rw}(h:LtR c a b):cmpR c a b= -1:=by
 unfold cmpR;rcases h with h|⟨h1,h⟩
 ·rw[cmpV_lt h,if_pos (by decide)]
 ·rw[h1,cmpV_eq,if_neg (by decide)]
  unfold cmpN;rw[if_pos h]
theorem cmpR_gt{c:Int}{a b:Rw}(h:LtR c b a):cmpR c a b=1:=by
 unfold cmpR;rcases h with h|⟨h1,h⟩
 ·rw[cmpV_gt h,if_pos (by decide)]
 ·rw[h1,cmpV_eq,if_neg (by decide)]
  unfold cmpN;rw[if_neg (by omega),if_pos h]
theorem cmpR_eq{c:Int}{a b:Rw}(h:colV a c=colV b c/\a.id=b.id):cmpR c a b=0:=by
 unfold cmpR;rw[h.1,h.2,cmpV_eq,if_neg (by decide)]
 unfold cmpN;rw[if_neg (by omega),if_neg (by omega)]
theorem cmpR_neg{c:Int}{a b:Rw}:cmpR c a b<0↔LtR c a b:=by
 rcases LtR.tri c a b with h|h|h
 ·rw[cmpR_lt h];exact⟨fun _=>h,fun _=>by decide⟩
 ·rw[cmpR_eq h];refine⟨fun h=>absurd h (by decide),fun g=> ?_⟩
  rcases g with g|⟨_,g⟩
  ·rw[h.1] at g;exact g.irr.elim
  ·omega
 ·rw[cmpR_gt h];exact⟨fun h=>absurd h (by decide),fun g=>(g.tr h).irr.elim⟩
theorem LtR.ntr{c:Int}{x y z:Rw}(h:¬LtR c x y)(g:¬LtR c y z):¬LtR c x z:=fun hz=>by
 rcases LtR.tri c x y with a|⟨a1,a2⟩|a
 ·exact h a
 ·exact g (by
   rcases hz with hz|⟨h1,h2⟩
   ·exact .inl (a1▸hz)
   ·exact .inr ⟨a1.symm.trans h1,by omega⟩)
 ·exact g (a.tr hz)
def DisI(L:List Rw):Prop:=∀a b,a ∈ L->b ∈ L->a.id=b.id->a=b
def GtR(c:Int)(down:Bool)(a b:Rw):Prop:=if down=true then LtR c a b else LtR c b a
noncomputable def posR(c:Int)(down:Bool)(L:List Rw)(r:Rw):Nat->Nat
 |0=>0
 |k+1=>open Classical in if GtR c down (L.getD k default) r then posR c down L r k else k+1
noncomputable def insR(c:Int)(down:Bool)(L:List Rw)(r:Rw):List Rw:=L.take (posR c down L r L.length)++r::L.drop (posR c down L r L.length)
noncomputable def srtR(c:Int)(down:Bool)(L:List Rw):Nat->List Rw
 |0=>[]
 |i+1=>insR c down (srtR c down L i) (L.getD i default)
theorem GtR.tr{c:Int}{w:Bool}{a b d:Rw}(h:GtR c w a b)(g:GtR c w b d):GtR c w a d:=by
 cases w with
 |true=>exact LtR.tr h g
 |false=>exact LtR.tr g h
theorem GtR.irr{c:Int}{w:Bool}{a:Rw}(h:GtR c w a a):False:=by cases w<;>exact LtR.irr h
theorem GtR.ntr{c:Int}{w:Bool}{x y z:Rw}(h:¬GtR c w x y)(g:¬GtR c w y z):¬GtR c w x z:=by
 cases w with
 |true=>exact LtR.ntr h g
 |false=>exact LtR.ntr g h
theorem pos_sp{c:Int}{w:Bool}{L:List Rw}{r:Rw}:∀k,k<=L.length->posR c w L r k<=k/\(∀j,posR c w L r k<=j->j<k->GtR c w (L.getD j default) r)/\(0<posR c w L r k->¬GtR c w (L.getD (posR c w L r k-1) default) r)
 |0,_=>⟨Nat.le_refl _,fun j _ hj=>absurd hj (Nat.not_lt_zero _),fun h=>absurd h (Nat.not_lt_zero _)⟩
 |k+1,hk=>by
  obtain⟨p1,p2,p3⟩:=pos_sp (c:=c) (w:=w) (L:=L) (r:=r) k (by omega)
  unfold posR;by_cases h:GtR c w (L.getD k default) r
  ·rw[if_pos h];refine⟨by omega,fun j h1 h2=> ?_,p3⟩
   by_cases e:j=k
   ·rw[e];exact h
   ·exact p2 j h1 (by omega)
  ·rw[if_neg h];exact⟨Nat.le_refl _,fun j h1 h2=>by omega,fun _=>h⟩
theorem ins_srt{c:Int}{w:Bool}{L:List Rw}{r:Rw}(h:L.Pairwise fun a b=>¬GtR c w a b):(insR c w L r).Pairwise fun a b=>¬GtR c w a b:=by
 obtain⟨p1,p2,p3⟩:=pos_sp (c:=c) (w:=w) (L:=L) (r:=r) L.length (Nat.le_refl _);unfold insR;generalize posR c w L r L.length=p at p1 p2 p3;have hT:(L.take p++L.drop p).Pairwise fun a b=>¬GtR c w a b:=by rw[List.take_append_drop];exact h
 obtain⟨t1,t2,t3⟩:=List.pairwise_append.1 hT;have left:∀a,a ∈ L.take p->¬GtR c w a r:=fun a ha=>by
  obtain⟨j,hj,rfl⟩:=List.getElem_of_mem ha;rw[List.length_take] at hj;rw[List.getElem_take];have hp:=p3 (by omega)
  rw[List.getD_eq_getElem?_getD,List.getElem?_eq_getElem (by omega)] at hp
  by_cases e:j=p-1
  ·subst e;exact hp
  ·exact GtR.ntr (List.pairwise_iff_getElem.1 h j (p-1) (by omega) (by omega) (by omega)) hp
 have right:∀b,b ∈ L.drop p->¬GtR c w r b:=fun b hb hg=>by
  obtain⟨j,hj,rfl⟩:=List.getElem_of_mem hb;rw[List.length_drop] at hj;rw[List.getElem_drop] at hg;have:=p2 (p+j) (by omega) (by omega)
  rw[List.getD_eq_getElem?_getD,List.getElem?_eq_getElem (by omega)] at this
  exact(this.tr hg).irr
 refine List.pairwise_append.2 ⟨t1,List.pairwise_cons.2 ⟨right,t2⟩,fun a ha b hb=> ?_⟩
 rcases List.mem_cons.1 hb with rfl|hb
 ·exact left a ha
 ·exact t3 a ha b hb
theorem ins_prm{c:Int}{w:Bool}(L:List Rw)(r:Rw):(insR c w L r).Perm (r::L):=by
 unfold insR;refine List.perm_middle.trans ?_
 rw[List.take_append_drop]
theorem srt_sp{c:Int}{w:Bool}{L:List Rw}:∀i,i<=L.length->(srtR c w L i).Pairwise (fun a b=>¬GtR c w a b)/\(srtR c w L i).Perm (L.take i)
 |0,_=>⟨List.Pairwise.nil,by rw[List.take_zero];exact .refl _⟩
 |i+1,hi=>by
  obtain⟨h1,h2⟩:=srt_sp (c:=c) (w:=w) (L:=L) i (by omega)
  refine⟨ins_srt h1,(ins_prm _ _).trans ?_⟩
  rw[List.take_add_one,List.getElem?_eq_getElem (by omega),List.getD_eq_getElem?_getD,List.getElem?_eq_getElem (by omega)]
  exact(List.Perm.cons _ h2).trans (List.perm_append_comm (l₁:=[_])).symm.symm
theorem srt_one{c:Int}{w:Bool}{L M:List Rw}(hd:DisI L)(h:M.Pairwise fun a b=>¬GtR c w a b)(hp:M.Perm L):M=srtR c w L L.length:=by
 obtain⟨h1,h2⟩:=srt_sp (c:=c) (w:=w) (L:=L) L.length (Nat.le_refl _);rw[List.take_length] at h2;refine List.Perm.eq_of_pairwise (fun a b ha hb g1 g2=> ?_) h h1 (hp.trans h2.symm)
 have ha:=hp.mem_iff.1 ha;have hb:=h2.mem_iff.1 hb;have:colV a c=colV b c/\a.id=b.id:=by
  rcases LtR.tri c a b with t|t|t
  ·cases w with
   |true=>exact absurd t g1
   |false=>exact absurd t g2
  ·exact t
  ·cases w with
   |true=>exact absurd t g2
   |false=>exact absurd t g1
 exact hd a b ha hb this.2
end Go.Proofs.YtfmngblmdghccaaGreat

namespace Go.Proofs.YtfmngblmdghccaaGreat
open Go.SS

structure Stm where
 k:Int
 ta:Int
 row:Rw
 c:Int
 set:List Nd
 whr:List Nd
 ord:Int
 down:Bool
 deriving Inhabited
def Stm.ts(s:Stm):List T:=[.int .i64 s.k,.int .i64 s.ta,.int .i64 s.row.id,.int .i64 s.row.n.k,.int .i64 s.row.n.n,.str s.row.n.t,.int .i64 s.row.name.k,.int .i64 s.row.name.n,.str s.row.name.t,.int .i64 s.c,ndS s.set,ndS s.whr,.int .i64 s.ord,.bool s.down]
def rwZ:Rw:=⟨0,v0,v0⟩
def eqRwB(a b:Rw):Bool:=(a.id==b.id)&&(eqV a.n b.n&&eqV a.name b.name)
def stmOK(s:Stm):Bool:=
 inR s.ta 1 3&&(s.whr.isEmpty||exOK s.whr)&&
 (if s.k=1 then eqRwB s.row rwZ&&(s.c==0)&&s.set.isEmpty&&inR s.ord 0 2
  else if s.k=2 then rowOKb s.row&&(s.c==0)&&s.set.isEmpty&&s.whr.isEmpty&&(s.ord==0)&& !s.down
  else if s.k=3 then eqRwB s.row rwZ&&inR s.c 1 2&&exOK s.set&&(s.ord==0)&& !s.down
  else(s.k==4)&&eqRwB s.row rwZ&&(s.c==0)&&s.set.isEmpty&&(s.ord==0)&& !s.down)
def evL(L:List Nd)(r:Rw):Val×Int:=evF L.length L r (L.length-1)
def mea(s:Stm)(r:Rw):Bool×Int:=if s.whr.isEmpty=true then(true,0) else if(evL s.whr r).2≠0 then(false,(evL s.whr r).2) else if(evL s.whr r).1.k=2 then(false,10) else(isO (evL s.whr r).1,0)
def setV(c:Int)(r:Rw)(v:Val):Rw:=if c=1 then{r with n:=v} else{r with name:=v}
def upd(s:Stm)(r:Rw):Rw×Int:=if(evL s.set r).2≠0 then(r,(evL s.set r).2) else if rowOKb (setV s.c r (evL s.set r).1)=true then(setV s.c r (evL s.set r).1,0) else(r,10)
structure Dn where
 o:List Rw
 q:List Rw
 n:Nat
 x:Int
def dnS(s:Stm)(r:Rw)(d:Dn):Dn:=
 if d.x≠0 then d else if(mea s r).2≠0 then{d with x:=(mea s r).2} else if(mea s r).1=false then{d with o:=d.o++[r]}
 else if s.k=1 then⟨d.o++[r],d.q++[r],d.n+1,0⟩
 else if s.k=3 then(if(upd s r).2≠0 then{d with x:=(upd s r).2} else⟨d.o++[(upd s r).1],d.q,d.n+1,0⟩)
 else⟨d.o,d.q,d.n+1,0⟩
def dnN(s:Stm)(L:List Rw):Nat->Dn
 |0=>⟨[],[],0,0⟩
 |i+1=>dnS s (L.getD i default) (dnN s L i)
def SrtI(L:List Rw):Prop:=∀i j,i<j->j<L.length->(L.getD i default).id<(L.getD j default).id
def badRw(L:List Rw)(i:Nat):Bool:= !rowOKb (L.getD i default)||(decide ((i:Int)>0)&&decide ((L.getD (i-1) default).id≥(L.getD i default).id))
def rwsOK(L:List Rw):Bool:= !anyI L.length (badRw L)
theorem rws_ok{L:List Rw}(h:rwsOK L=true):SrtI L/\∀i,i<L.length->rowOKb (L.getD i default)=true:=by
 unfold rwsOK at h;have h:anyI L.length (badRw L)=false:=by simpa using h
 have hb:=fun i hi=>anyI_no.1 h i hi
 have nx:∀i,i+1<L.length->(L.getD i default).id<(L.getD (i+1) default).id:=fun i hi=>by
  have:=hb (i+1) hi;unfold badRw at this;simp only[Bool.or_eq_false_iff,Bool.and_eq_false_iff,decide_eq_false_iff_not] at this;rw[Nat.add_sub_cancel] at this;omega
 refine⟨fun i j hij hj=> ?_,fun i hi=> ?_⟩
 ·have key:∀d,i+d+1<L.length->(L.getD i default).id<(L.getD (i+d+1) default).id:=by
   intro d;induction d with
   |zero=>exact nx i
   |succ d ih=>
    intro hd;have h1:=ih (by omega)
    have h2:=nx (i+d+1) (by omega)
    rw[show i+(d+1)+1=i+d+1+1 by omega]
    omega
  have:=key (j-i-1) (by omega)
  rw[show i+(j-i-1)+1=j by omega] at this
  exact this
 ·have:=hb i hi;unfold badRw at this;simp only[Bool.or_eq_false_iff] at this
  simpa using this.1
theorem set_id(c:Int)(r:Rw)(v:Val):(setV c r v).id=r.id:=by unfold setV;split<;>rfl
theorem upd_id(s:Stm)(r:Rw):(upd s r).1.id=r.id:=by
 unfold upd;split
 ·rfl
 ·split
  ·exact set_id _ _ _
  ·rfl
structure DnP(s:Stm)(L:List Rw)(i:Nat):Prop where
 o:∀a,a ∈ (dnN s L i).o->rowOKb a=true/\∃j,j<i/\a.id=(L.getD j default).id
 so:(dnN s L i).o.Pairwise fun a b=>a.id<b.id
 q:∀a,a ∈ (dnN s L i).q->∃j,j<i/\a=L.getD j default
 sq:(dnN s L i).q.Pairwise fun a b=>a.id<b.id
 lo:(dnN s L i).o.length<=i
 lq:(dnN s L i).q.length<=i
 n:(dnN s L i).n<=i
theorem pw_app{O:List Rw}{x:Rw}(h:O.Pairwise fun a b=>a.id<b.id)(g:∀a,a ∈ O->a.id<x.id):(O++[x]).Pairwise fun a b=>a.id<b.id:=
 List.pairwise_append.2 ⟨h,List.pairwise_singleton _ _,fun a ha b hb=>by
  rw[List.mem_singleton] at hb;subst hb;exact g a ha⟩
theorem dn_P{s:Stm}{L:List Rw}(hS:SrtI L)(hR:∀i,i<L.length->rowOKb (L.getD i default)=true):∀i,i<=L.length->DnP s L i
 |0,_=>⟨fun a ha=>absurd ha List.not_mem_nil,List.Pairwise.nil,fun a ha=>absurd ha List.not_mem_nil,List.Pairwise.nil,Nat.le_refl _,Nat.le_refl _,Nat.le_refl _⟩
 |i+1,hi=>by
  have ih:=dn_P (s:=s) hS hR i (by omega)
  obtain⟨h1,h2,h3,h4,h5,h6,h7⟩:=ih;have hr:=hR i (by omega)
  have lt:∀a:Rw,(∃j,j<i/\a.id=(L.getD j default).id)->a.id<(L.getD i default).id:=fun a ⟨j,hj,e⟩=>by
   have:=hS j i hj (by omega)
   omega
  have gr:∀a,a ∈ (dnN s L i).o->rowOKb a=true/\∃j,j<i+1/\a.id=(L.getD j default).id:=fun a ha=>by
   obtain⟨e1,j,e2,e3⟩:=h1 a ha;exact⟨e1,j,by omega,e3⟩
  have gq:∀a,a ∈ (dnN s L i).q->∃j,j<i+1/\a=L.getD j default:=fun a ha=>by
   obtain⟨j,e2,e3⟩:=h3 a ha;exact⟨j,by omega,e3⟩
  have gp:∀x:Rw,rowOKb x=true->x.id=(L.getD i default).id->(∀a,a ∈ (dnN s L i).o++[x]->rowOKb a=true/\∃j,j<i+1/\a.id=(L.getD j default).id)/\((dnN s L i).o++[x]).Pairwise fun a b=>a.id<b.id:=fun x hx e=>by
   refine⟨fun a ha=> ?_,pw_app h2 fun a ha=>by rw[e];exact lt a (h1 a ha).2⟩
   rcases List.mem_append.1 ha with ha|ha
   ·exact gr a ha
   ·rw[List.mem_singleton] at ha;subst ha;exact⟨hx,i,Nat.lt_succ_self i,e⟩
  have same:DnP s L (i+1)∨dnN s L (i+1)≠dnN s L i:=by
   by_cases e:dnN s L (i+1)=dnN s L i
   ·exact .inl ⟨by rw[e];exact gr,by rw[e];exact h2,by rw[e];exact gq,by rw[e];exact h4,by rw[e];omega,by rw[e];omega,by rw[e];omega⟩
   ·exact .inr e
  have un:dnN s L (i+1)=dnS s (L.getD i default) (dnN s L i):=rfl;by_cases c1:(dnN s L i).x≠0
  ·exact same.resolve_right fun h=>h (by rw[un];unfold dnS;rw[if_pos c1])
  have mk:∀d,dnS s (L.getD i default) (dnN s L i)=d->(∀a,a ∈ d.o->rowOKb a=true/\∃j,j<i+1/\a.id=(L.getD j default).id)->(d.o.Pairwise fun a b=>a.id<b.id)->(∀a,a ∈ d.q->∃j,j<i+1/\a=L.getD j default)->(d.q.Pairwise fun a b=>a.id<b.id)->d.o.length<=i+1->d.q.length<=i+1->d.n<=i+1->DnP s L (i+1):=fun d hd a1 a2 a3 a4 a5 a6 a7=>by
   rw[←un] at hd;exact⟨by rw[hd];exact a1,by rw[hd];exact a2,by rw[hd];exact a3,by rw[hd];exact a4,by rw[hd];exact a5,by rw[hd];exact a6,by rw[hd];exact a7⟩
  obtain⟨p1,p2⟩:=gp _ hr rfl;by_cases c2:(mea s (L.getD i default)).2≠0
  ·exact mk ({dnN s L i with x:=(mea s (L.getD i default)).2}:Dn) (by unfold dnS;rw[if_neg c1,if_pos c2]) gr h2 gq h4 (by dsimp only;omega) (by dsimp only;omega) (by dsimp only;omega)
  by_cases c3:(mea s (L.getD i default)).1=false
  ·exact mk ({dnN s L i with o:=(dnN s L i).o++[L.getD i default]}:Dn) (by unfold dnS;rw[if_neg c1,if_neg c2,if_pos c3]) p1 p2 gq h4 (by dsimp only;rw[List.length_append,List.length_singleton];omega) (by dsimp only;omega) (by dsimp only;omega)
  by_cases c4:s.k=1
  ·refine mk ⟨(dnN s L i).o++[L.getD i default],(dnN s L i).q++[L.getD i default],(dnN s L i).n+1,0⟩ (by unfold dnS;rw[if_neg c1,if_neg c2,if_neg c3,if_pos c4]) p1 p2 (fun a ha=> ?_) (pw_app h4 fun a ha=> ?_) (by dsimp only;rw[List.length_append,List.length_singleton];omega) (by dsimp only;rw[List.length_append,List.length_singleton];omega) (by dsimp only;omega)
   ·rcases List.mem_append.1 ha with ha|ha
    ·exact gq a ha
    ·rw[List.mem_singleton] at ha;exact⟨i,Nat.lt_succ_self i,ha⟩
   ·obtain⟨j,hj,e⟩:=h3 a ha;exact lt a ⟨j,hj,by rw[e]⟩
  by_cases c5:s.k=3
  ·by_cases c6:(upd s (L.getD i default)).2≠0
   ·exact mk ({dnN s L i with x:=(upd s (L.getD i default)).2}:Dn) (by unfold dnS;rw[if_neg c1,if_neg c2,if_neg c3,if_neg c4,if_pos c5,if_pos c6]) gr h2 gq h4 (by dsimp only;omega) (by dsimp only;omega) (by dsimp only;omega)
   ·have hu:rowOKb (upd s (L.getD i default)).1=true:=by
     unfold upd at c6 ⊢;split
     ·exact hr
     ·split
      ·assumption
      ·exact hr
    obtain⟨u1,u2⟩:=gp _ hu (upd_id s _);exact mk ⟨(dnN s L i).o++[(upd s (L.getD i default)).1],(dnN s L i).q,(dnN s L i).n+1,0⟩ (by unfold dnS;rw[if_neg c1,if_neg c2,if_neg c3,if_neg c4,if_pos c5,if_neg c6]) u1 u2 gq h4 (by dsimp only;rw[List.length_append,List.length_singleton];omega) (by dsimp only;omega) (by dsimp only;omega)
  ·exact mk ⟨(dnN s L i).o,(dnN s L i).q,(dnN s L i).n+1,0⟩ (by unfold dnS;rw[if_neg c1,if_neg c2,if_neg c3,if_neg c4,if_neg c5]) gr h2 gq h4 (by dsimp only;omega) (by dsimp only;omega) (by dsimp only;omega)
end Go.Proofs.YtfmngblmdghccaaGreat

namespace Go.Proofs.YtfmngblmdghccaaGreat
set_option maxRecDepth 100000
open Go.SS

def k_nuV:Con:=.rel ⟨Int,fun n=>[.int .i64 n],fun n=>.agg (vI n).ts,fun _=>True⟩
noncomputable def b_nuV:Code:=Tryz.f116.body.getD .skip
theorem call_nuV:Callable Tryz.prog 116:=⟨_,Tryz.func116,by kernel_rfl,by kernel_rfl⟩
theorem v_nuV(n:Int)(h:
  (1:Int)=(1:Int)/\n=n/\([]:List UInt8)=[]/\True):
  PureFn Tryz.prog 116 [.int .i64 n] (.agg (vI n).ts):=
 vcR (code:=b_nuV) gN Tryz.func116 (by kernel_rfl) (by kernel_rfl) noAnn h (by kernel_rfl)
theorem nuV_ok:ConOk Tryz.prog 116 k_nuV:=fun n _=>v_nuV n ⟨rfl,rfl,rfl,trivial⟩
def k_truth:Con:=.rel ⟨Bool,fun b=>[.bool b],fun b=>.agg (tru b).ts,fun _=>True⟩
noncomputable def b_truth:Code:=Tryz.f121.body.getD .skip
theorem call_truth:Callable Tryz.prog 121:=⟨_,Tryz.func121,by kernel_rfl,by kernel_rfl⟩
theorem v_truth(b:Bool)(h:
  (b=true->∃(x:Int),(((1:Int)=x/\True)/\True)/\(1:Int)=(1:Int)/\(x=if b=true then(1:Int) else(0:Int))/\([]:List UInt8)=[]/\True)/\(b=false->∃(x:Int),(((0:Int)=x/\True)/\True)/\(1:
  Int)=(1:Int)/\(x=if b=true then(1:Int) else(0:Int))/\([]:List UInt8)=[]/\True)):
  PureFn Tryz.prog 121 [.bool b] (.agg (tru b).ts):=
 vcR (code:=b_truth) (gC nuV_ok call_nuV gN) Tryz.func121 (by kernel_rfl) (by kernel_rfl) noAnn h (by kernel_rfl)
theorem truth_ok:ConOk Tryz.prog 121 k_truth:=by
 intro(b:Bool) _;refine v_truth b ⟨fun h=>⟨1,⟨⟨rfl,trivial⟩,trivial⟩,rfl,?_,rfl,trivial⟩,fun h=>⟨0,⟨⟨rfl,trivial⟩,trivial⟩,rfl,?_,rfl,trivial⟩⟩
 ·rw[if_pos h]
 ·rw[h];rfl
def k_isZero:Con:=.rel ⟨Val,fun v=>[.agg v.ts],fun v=>.bool (isZ v),fun v=>valOK v=true⟩
noncomputable def b_isZero:Code:=Tryz.f120.body.getD .skip
theorem call_isZero:Callable Tryz.prog 120:=⟨_,Tryz.func120,by kernel_rfl,by kernel_rfl⟩
theorem v_isZero(v:Val)(h:
  (v.k==(1:Int)&&(v.n==(0:Int)&&(v.t==[]&&true)))=isZ v):
  PureFn Tryz.prog 120 [.agg v.ts] (.bool (isZ v)):=
 vcR (code:=b_isZero) gN Tryz.func120 (by kernel_rfl) (by kernel_rfl) noAnn h (by kernel_rfl)
theorem isZero_ok:ConOk Tryz.prog 120 k_isZero:=by
 intro(v:Val) hv;refine v_isZero v ?_
 unfold isZ;rw[Bool.and_true];by_cases h1:v.k=1
 ·have:=(vok_1 hv h1).2;rw[this];simp
 ·rw[show(v.k==1)=false by simpa using h1]
  rfl
def k_isOther:Con:=.rel ⟨Val,fun v=>[.agg v.ts],fun v=>.bool (isO v),fun _=>True⟩
noncomputable def b_isOther:Code:=Tryz.f98.body.getD .skip
theorem call_isOther:Callable Tryz.prog 98:=⟨_,Tryz.func98,by kernel_rfl,by kernel_rfl⟩
theorem v_isOther(v:Val)(h:
  (v.k==(1:Int)&&v.n !=(0:Int))=isO v):
  PureFn Tryz.prog 98 [.agg v.ts] (.bool (isO v)):=
 vcR (code:=b_isOther) gN Tryz.func98 (by kernel_rfl) (by kernel_rfl) noAnn h (by kernel_rfl)
theorem isOther_ok:ConOk Tryz.prog 98 k_isOther:=fun(v:Val) _=>v_isOther v rfl
def k_connect:Con:=.rel ⟨Int×Val×Val,fun x=>[.int .i64 x.1,.agg x.2.1.ts,.agg x.2.2.ts],fun x=>.tup [.agg (conn x.1 x.2.1 x.2.2).1.ts,.int .i64 (conn x.1 x.2.1 x.2.2).2],fun x=>valOK x.2.1=true/\valOK x.2.2=true⟩
noncomputable def b_connect:Code:=Tryz.f134.body.getD .skip
theorem call_connect:Callable Tryz.prog 134:=⟨_,Tryz.func134,by kernel_rfl,by kernel_rfl⟩
theorem v_connect(op:Int)(a b:Val)(Z:Val×Int)(h:
  ((a.k==(2:Int)||b.k==(2:Int))=true->((0:Int)=Z.fst.k/\(0:Int)=Z.fst.n/\[]=Z.fst.t/\True)/\(10:Int)=Z.snd/\True)/\((a.k==(2:Int)||b.k==(2:Int))=false->∃(x:Val),((op==(12:Int))=
  true->((a.k=x.k/\a.n=x.n/\a.t=x.t/\True)/\True)/\valOK x=true)/\∃(x_1:Val),((op==(12:Int))=true->isZ x=false->((b.k=x_1.k/\b.n=x_1.n/\b.t=x_1.t/\True)/\True)/\valOK x_1=true)/\((op==(12
  :Int)&&(isZ x||isZ x_1))=true->∃(x:Bool),((false=x/\True)/\True)/\((1:Int)=Z.fst.k/\(if x=true then(1:Int) else(0:Int))=Z.fst.n/\[]=Z.fst.t/\True)/\(0:Int)=Z.snd/\True)/\((op==(12:
  Int)&&(isZ x||isZ x_1))=false->∃(x:Val),((op==(13:Int))=true->((a.k=x.k/\a.n=x.n/\a.t=x.t/\True)/\True)/\True)/\∃(x_2:Val),((op==(13:Int))=true->isO x=false->((b.k=x_2.k/\b.n=x_2.n
  /\b.t=x_2.t/\True)/\True)/\True)/\((op==(13:Int)&&(isO x||isO x_2))=true->∃(x:Bool),((true=x/\True)/\True)/\((1:Int)=Z.fst.k/\(if x=true then(1:Int) else(0:Int))=Z.fst.n/\[]=Z.fst.t/\
  True)/\(0:Int)=Z.snd/\True)/\((op==(13:Int)&&(isO x||isO x_2))=false->((a.k==(0:Int)||b.k==(0:Int))=true->((0:Int)=Z.fst.k/\(0:Int)=Z.fst.n/\[]=Z.fst.t/\True)/\(0:Int)=Z.snd/\True)
  /\((a.k==(0:Int)||b.k==(0:Int))=false->∃(x:Bool),(((op==(12:Int))=x/\True)/\True)/\((1:Int)=Z.fst.k/\(if x=true then(1:Int) else(0:Int))=Z.fst.n/\[]=Z.fst.t/\True)/\(0:Int)=Z.snd/\
  True))))):
  PureFn Tryz.prog 134 [.int .i64 op,.agg a.ts,.agg b.ts] (.tup [.agg Z.1.ts,.int .i64 Z.2]):=
 vcR (code:=b_connect) (gC isZero_ok call_isZero (gC isOther_ok call_isOther (gC truth_ok call_truth gN))) Tryz.func134 (by kernel_rfl) (by kernel_rfl) noAnn h (by kernel_rfl)
theorem vz{p q:Int}{r:List UInt8}{s:Int}{Z:Val×Int}(h:Z=(⟨p,q,r⟩,s)):(p=Z.fst.k/\q=Z.fst.n/\r=Z.fst.t/\True)/\s=Z.snd/\True:=by
 subst h;exact⟨⟨rfl,rfl,rfl,trivial⟩,rfl,trivial⟩
theorem connect_ok:ConOk Tryz.prog 134 k_connect:=by
 rintro⟨op,a,b⟩ ⟨ha,hb⟩;dsimp only at ha hb;refine v_connect op a b (conn op a b) ⟨fun h=>vz ?_,fun h=>⟨a,fun _=>⟨⟨⟨rfl,rfl,rfl,trivial⟩,trivial⟩,ha⟩,b,fun _ _=>⟨⟨⟨rfl,rfl,rfl,trivial⟩,trivial⟩,hb⟩,fun h1=>⟨false,⟨⟨rfl,trivial⟩,trivial⟩,vz ?_⟩,fun h1=>⟨a,fun _=>⟨⟨⟨rfl,rfl,rfl,trivial⟩,trivial⟩,trivial⟩,b,fun _ _=>⟨⟨⟨rfl,rfl,rfl,trivial⟩,trivial⟩,trivial⟩,fun h2=>⟨true,⟨⟨rfl,trivial⟩,trivial⟩,vz ?_⟩,fun h2=>⟨fun h3=>vz ?_,fun h3=>⟨op==12,⟨⟨rfl,trivial⟩,trivial⟩,vz ?_⟩⟩⟩⟩⟩
 ·rw[conn,if_pos h];rfl
 ·rw[conn,h,if_neg Bool.false_ne_true,if_pos h1];rfl
 ·rw[conn,h,if_neg Bool.false_ne_true,h1,if_neg Bool.false_ne_true,if_pos h2];rfl
 ·rw[conn,h,if_neg Bool.false_ne_true,h1,if_neg Bool.false_ne_true,h2,if_neg Bool.false_ne_true,if_pos h3];rfl
 ·rw[conn,h,if_neg Bool.false_ne_true,h1,if_neg Bool.false_ne_true,h2,if_neg Bool.false_ne_true,h3,if_neg Bool.false_ne_true];rfl
def k_arith:Con:=.rel ⟨Int×Int×Int,fun x=>[.int .i64 x.1,.int .i64 x.2.1,.int .i64 x.2.2],fun x=>.tup [.agg (ari x.1 x.2.1 x.2.2).1.ts,.int .i64 (ari x.1 x.2.1 x.2.2).2],fun x=>(-1000000000<=x.2.1/\x.2.1<=1000000000)/\(-1000000000<=x.2.2/\x.2.2<=1000000000)⟩
noncomputable def b_arith:Code:=Tryz.f135.body.getD .skip
theorem call_arith:Callable Tryz.prog 135:=⟨_,Tryz.func135,by kernel_rfl,by kernel_rfl⟩
theorem v_arith(op a b:Int)(Z:Val×Int)(h:
  ((op==(6:Int))=true->Rng .i64 (a+b)/\∃(x:Int),((a+b=x/\True)/\True)/\((!inR x (-1000000000:Int) (1000000000:Int))=true->((0:Int)=Z.fst.k/\(0:Int)=Z.fst.n/\[]=Z.fst.t/\True)/\(12:Int)=
  Z.snd/\True)/\((!inR x (-1000000000:Int) (1000000000:Int))=false->∃(x:Int),((a+b=x/\True)/\True)/\((1:Int)=Z.fst.k/\x=Z.fst.n/\[]=Z.fst.t/\True)/\(0:Int)=Z.snd/\True))/\((op==(6:Int))=
  false->((op==(7:Int))=true->Rng .i64 (a-b)/\∃(x:Int),((a-b=x/\True)/\True)/\((!inR x (-1000000000:Int) (1000000000:Int))=true->((0:Int)=Z.fst.k/\(0:Int)=Z.fst.n/\[]=Z.fst.t/\True)/\(12:
  Int)=Z.snd/\True)/\((!inR x (-1000000000:Int) (1000000000:Int))=false->∃(x:Int),((a-b=x/\True)/\True)/\((1:Int)=Z.fst.k/\x=Z.fst.n/\[]=Z.fst.t/\True)/\(0:Int)=Z.snd/\True))/\((op==(7:
  Int))=false->((op==(8:Int))=true->Rng .i64 (a*b)/\∃(x:Int),((a*b=x/\True)/\True)/\((!inR x (-1000000000:Int) (1000000000:Int))=true->((0:Int)=Z.fst.k/\(0:Int)=Z.fst.n/\[]=Z.fst.t/\True)
  /\(12:Int)=Z.snd/\True)/\((!inR x (-1000000000:Int) (1000000000:Int))=false->∃(x:Int),((a*b=x/\True)/\True)/\((1:Int)=Z.fst.k/\x=Z.fst.n/\[]=Z.fst.t/\True)/\(0:Int)=Z.snd/\True))/\((op==
  (8:Int))=false->((b==(0:Int))=true->((0:Int)=Z.fst.k/\(0:Int)=Z.fst.n/\[]=Z.fst.t/\True)/\(11:Int)=Z.snd/\True)/\((b==(0:Int))=false->(Nz b/\Rng .i64 (a.tdiv b))/\∃(x:Int),((a.tdiv b=
  x/\True)/\True)/\((!inR x (-1000000000:Int) (1000000000:Int))=true->((0:Int)=Z.fst.k/\(0:Int)=Z.fst.n/\[]=Z.fst.t/\True)/\(12:Int)=Z.snd/\True)/\((!inR x (-1000000000:Int) (1000000000:Int))=
  false->∃(x:Int),((a.tdiv b=x/\True)/\True)/\((1:Int)=Z.fst.k/\x=Z.fst.n/\[]=Z.fst.t/\True)/\(0:Int)=Z.snd/\True)))))):
  PureFn Tryz.prog 135 [.int .i64 op,.int .i64 a,.int .i64 b] (.tup [.agg Z.1.ts,.int .i64 Z.2]):=
 vcR (code:=b_arith) (gC isNumber_ok call_isNumber (gC nuV_ok call_nuV gN)) Tryz.func135 (by kernel_rfl) (by kernel_rfl) noAnn h (by kernel_rfl)
theorem bd_mul{a b:Int}(ha: -1000000000<=a/\a<=1000000000)(hb: -1000000000<=b/\b<=1000000000): -1000000000000000000<=a*b/\a*b<=1000000000000000000:=by
 have h:(a*b).natAbs<=1000000000*1000000000:=by
  rw[Int.natAbs_mul];exact Nat.mul_le_mul (by omega) (by omega)
 omega
theorem bd_div{a b:Int}(ha: -1000000000<=a/\a<=1000000000): -1000000000<=a.tdiv b/\a.tdiv b<=1000000000:=by
 have h:(a.tdiv b).natAbs<=a.natAbs:=by
  rw[Int.natAbs_tdiv];exact Nat.div_le_self _ _
 omega
theorem arith_ok:ConOk Tryz.prog 135 k_arith:=by
 rintro⟨op,a,b⟩ ⟨ha,hb⟩;dsimp only at ha hb;have hm:=bd_mul ha hb;have hd:=bd_div (b:=b) ha;have key:∀n:Int,ariN op a b=n->(!(op==6)&& !(op==7)&& !(op==8)&&b==0)=false->∃x:Int,((n=x/\True)/\True)/\((!inR x (-1000000000) 1000000000)=true->((0:Int)=(ari op a b).fst.k/\(0:Int)=(ari op a b).fst.n/\[]=(ari op a b).fst.t/\True)/\(12:Int)=(ari op a b).snd/\True)/\((!inR x (-1000000000:Int) (1000000000:Int))=false->∃(x:Int),((n=x/\True)/\True)/\((1:Int)=(ari op a b).fst.k/\x=(ari op a b).fst.n/\[]=(ari op a b).fst.t/\True)/\(0:Int)=(ari op a b).snd/\True):=fun n hn h0=>by
  refine⟨n,⟨⟨rfl,trivial⟩,trivial⟩,fun h=>vz ?_,fun h=>⟨n,⟨⟨rfl,trivial⟩,trivial⟩,vz ?_⟩⟩
  ·rw[ari,h0,if_neg Bool.false_ne_true,hn,if_neg (by intro h2;rw[h2] at h;cases h)];rfl
  ·rw[ari,h0,if_neg Bool.false_ne_true,hn,if_pos (by simpa using h)];rfl
 refine v_arith op a b (ari op a b) ⟨fun h=>⟨i64_rng (by omega),key _ ?_ ?_⟩,fun h=>⟨fun h1=>⟨i64_rng (by omega),key _ ?_ ?_⟩,fun h1=>⟨fun h2=>⟨i64_rng (by omega),key _ ?_ ?_⟩,fun h2=>⟨fun h3=>vz ?_,fun h3=>⟨⟨?_,i64_rng (by omega)⟩,key _ ?_ ?_⟩⟩⟩⟩⟩
 ·rw[ariN,if_pos (by simpa using h)]
 ·rw[h];rfl
 ·rw[ariN,if_neg (by simpa using h),if_pos (by simpa using h1)]
 ·rw[h,h1];rfl
 ·rw[ariN,if_neg (by simpa using h),if_neg (by simpa using h1),if_pos (by simpa using h2)]
 ·rw[h,h1,h2];rfl
 ·rw[ari,h,h1,h2,h3,if_pos (by rfl)];rfl
 ·unfold Nz
  simpa using h3
 ·rw[ariN,if_neg (by simpa using h),if_neg (by simpa using h1),if_neg (by simpa using h2)]
 ·rw[h,h1,h2,h3];rfl
def k_unary:Con:=.rel ⟨Int×Val,fun x=>[.int .i64 x.1,.agg x.2.ts],fun x=>.tup [.agg (unaV x.1 x.2).1.ts,.int .i64 (unaV x.1 x.2).2],fun x=>valOK x.2=true⟩
noncomputable def b_unary:Code:=Tryz.f119.body.getD .skip
theorem call_unary:Callable Tryz.prog 119:=⟨_,Tryz.func119,by kernel_rfl,by kernel_rfl⟩
theorem v_unary(op:Int)(a:Val)(Z:Val×Int)(h:
  ((op==(4:Int))=true->∃(x:Bool),(((a.k==(0:Int))=x/\True)/\True)/\((1:Int)=Z.fst.k/\(if x=true then(1:Int) else(0:Int))=Z.fst.n/\[]=Z.fst.t/\True)/\(0:Int)=Z.snd/\True)/\((op==(4:
  Int))=false->((a.k==(2:Int))=true->((0:Int)=Z.fst.k/\(0:Int)=Z.fst.n/\[]=Z.fst.t/\True)/\(10:Int)=Z.snd/\True)/\((a.k==(2:Int))=false->((a.k==(0:Int))=true->((0:Int)=Z.fst.k/\(0:
  Int)=Z.fst.n/\[]=Z.fst.t/\True)/\(0:Int)=Z.snd/\True)/\((a.k==(0:Int))=false->((op==(3:Int))=true->∃(x:Bool),(((a.n==(0:Int))=x/\True)/\True)/\((1:Int)=Z.fst.k/\(if x=true then(1:
  Int) else(0:Int))=Z.fst.n/\[]=Z.fst.t/\True)/\(0:Int)=Z.snd/\True)/\((op==(3:Int))=false->Rng .i64 ((0:Int)-a.n)/\∃(x:Int),(((0:Int)-a.n=x/\True)/\True)/\((1:Int)=Z.fst.k/\x=Z.fst.n
  /\[]=Z.fst.t/\True)/\(0:Int)=Z.snd/\True))))):
  PureFn Tryz.prog 119 [.int .i64 op,.agg a.ts] (.tup [.agg Z.1.ts,.int .i64 Z.2]):=
 vcR (code:=b_unary) (gC truth_ok call_truth (gC nuV_ok call_nuV gN)) Tryz.func119 (by kernel_rfl) (by kernel_rfl) noAnn h (by kernel_rfl)
theorem unary_ok:ConOk Tryz.prog 119 k_unary:=by
 rintro⟨op,a⟩ ha;dsimp only at ha;refine v_unary op a (unaV op a) ⟨fun h=>⟨_,⟨⟨rfl,trivial⟩,trivial⟩,vz ?_⟩,fun h=>⟨fun h1=>vz ?_,fun h1=>⟨fun h2=>vz ?_,fun h2=>⟨fun h3=>⟨_,⟨⟨rfl,trivial⟩,trivial⟩,vz ?_⟩,fun h3=>⟨?_,_,⟨⟨rfl,trivial⟩,trivial⟩,vz ?_⟩⟩⟩⟩⟩
 ·rw[unaV,if_pos (by simpa using h)];rfl
 ·rw[unaV,if_neg (by simpa using h),if_pos (by simpa using h1)];rfl
 ·rw[unaV,if_neg (by simpa using h),if_neg (by simpa using h1),if_pos (by simpa using h2)];rfl
 ·rw[unaV,if_neg (by simpa using h),if_neg (by simpa using h1),if_neg (by simpa using h2),if_pos (by simpa using h3)];rfl
 ·have h1:a.k≠2:=by simpa using h1
  have h2:a.k≠0:=by simpa using h2
  have:=inR_b.1 (vok_1 ha (by rcases vok_k ha with h|h|h<;>omega)).1
  exact i64_rng (by omega)
 ·rw[unaV,if_neg (by simpa using h),if_neg (by simpa using h1),if_neg (by simpa using h2),if_neg (by simpa using h3),Int.zero_sub];rfl
def k_isUn:Con:=.rel ⟨Int,fun n=>[.int .i64 n],fun n=>.bool (inR n 3 5),fun _=>True⟩
noncomputable def b_isUn:Code:=Tryz.f93.body.getD .skip
theorem call_isUn:Callable Tryz.prog 93:=⟨_,Tryz.func93,by kernel_rfl,by kernel_rfl⟩
theorem v_isUn(n:Int)(h:
  inR n (3:Int) (5:Int)=inR n (3:Int) (5:Int)):
  PureFn Tryz.prog 93 [.int .i64 n] (.bool (inR n 3 5)):=
 vcR (code:=b_isUn) (gC inRange_ok call_inRange gN) Tryz.func93 (by kernel_rfl) (by kernel_rfl) noAnn h (by kernel_rfl)
theorem isUn_ok:ConOk Tryz.prog 93 k_isUn:=fun n _=>v_isUn n rfl
def k_isBi:Con:=.rel ⟨Int,fun n=>[.int .i64 n],fun n=>.bool (inR n 6 13),fun _=>True⟩
noncomputable def b_isBi:Code:=Tryz.f94.body.getD .skip
theorem call_isBi:Callable Tryz.prog 94:=⟨_,Tryz.func94,by kernel_rfl,by kernel_rfl⟩
theorem v_isBi(n:Int)(h:
  inR n (6:Int) (13:Int)=inR n (6:Int) (13:Int)):
  PureFn Tryz.prog 94 [.int .i64 n] (.bool (inR n 6 13)):=
 vcR (code:=b_isBi) (gC inRange_ok call_inRange gN) Tryz.func94 (by kernel_rfl) (by kernel_rfl) noAnn h (by kernel_rfl)
theorem isBi_ok:ConOk Tryz.prog 94 k_isBi:=fun n _=>v_isBi n rfl
end Go.Proofs.YtfmngblmdghccaaGreat

namespace Go.Proofs.YtfmngblmdghccaaGreat
set_option maxRecDepth 100000
open Go.SS

noncomputable def b_isNaN1:Code:=Tryz.f95.body.getD .skip
theorem call_isNaN1:Callable Tryz.prog 95:=⟨_,Tryz.func95,by kernel_rfl,by kernel_rfl⟩
def k_isNaN1:Con:=.rel ⟨Int,fun x=>[.int .i64 x],fun _=>.bool false,fun _=>True⟩
theorem v_isNaN1(a:Int)(h:
  (a !=a)=false):
  PureFn Tryz.prog 95 [.int .i64 a] (.bool false):=
 vcR (code:=b_isNaN1) gN Tryz.func95 (by kernel_rfl) (by kernel_rfl) noAnn h (by kernel_rfl)
theorem isNaN1_ok:ConOk Tryz.prog 95 k_isNaN1:=fun(a:Int) _=>v_isNaN1 a (by simp)
def k_cmpN1:Con:=.rel ⟨Int×Int,fun x=>[.int .i64 x.1,.int .i64 x.2],fun x=>.int .i64 (cmpN x.1 x.2),fun _=>True⟩
noncomputable def b_cmpN1:Code:=Tryz.f77.body.getD .skip
theorem call_cmpN1:Callable Tryz.prog 77:=⟨_,Tryz.func77,by kernel_rfl,by kernel_rfl⟩
theorem v_cmpN1(a b:Int)(h:
  ∃(x:Int),((a=x/\True)/\True)/\∃(x:Int),((b=x/\True)/\True)/\(false=true->(false=true->(0:Int)=cmpN a b)/\(false=false->(-1:Int)=cmpN a b))/\(false=false->(false=true->(1:Int)=cmpN a
  b)/\(false=false->(decide (a<b)=true->(-1:Int)=cmpN a b)/\(decide (a<b)=false->(decide (a>b)=true->(1:Int)=cmpN a b)/\(decide (a>b)=false->(0:Int)=cmpN a b))))):
  PureFn Tryz.prog 77 [.int .i64 a,.int .i64 b] (.int .i64 (cmpN a b)):=
 vcR (code:=b_cmpN1) (gC isNaN1_ok call_isNaN1 gN) Tryz.func77 (by kernel_rfl) (by kernel_rfl) noAnn h (by kernel_rfl)
theorem cmpN1_ok:ConOk Tryz.prog 77 k_cmpN1:=by
 rintro⟨a,b⟩ _;refine v_cmpN1 a b ⟨a,⟨⟨rfl,trivial⟩,trivial⟩,b,⟨⟨rfl,trivial⟩,trivial⟩,fun h=>(by cases h),fun _=>⟨fun h=>(by cases h),fun _=>⟨fun h=> ?_,fun h=>⟨fun h2=> ?_,fun h2=> ?_⟩⟩⟩⟩
 ·unfold cmpN;rw[if_pos (of_decide_eq_true h)]
 ·unfold cmpN;rw[if_neg (of_decide_eq_false h),if_pos (of_decide_eq_true h2)]
 ·unfold cmpN;rw[if_neg (of_decide_eq_false h),if_neg (of_decide_eq_false h2)]
noncomputable def b_isNaNs:Code:=Tryz.f133.body.getD .skip
theorem call_isNaNs:Callable Tryz.prog 133:=⟨_,Tryz.func133,by kernel_rfl,by kernel_rfl⟩
def k_isNaNs:Con:=.rel ⟨List UInt8,fun x=>[.str x],fun _=>.bool false,fun _=>True⟩
theorem v_isNaNs(a:List UInt8)(h:
  (!a==a)=false):
  PureFn Tryz.prog 133 [.str a] (.bool false):=
 vcR (code:=b_isNaNs) gN Tryz.func133 (by kernel_rfl) (by kernel_rfl) noAnn h (by kernel_rfl)
theorem isNaNs_ok:ConOk Tryz.prog 133 k_isNaNs:=fun(a:List UInt8) _=>v_isNaNs a (by simp)
def k_cmpT1:Con:=.rel ⟨List UInt8×List UInt8,fun x=>[.str x.1,.str x.2],fun x=>.int .i64 (cmpT x.1 x.2),fun _=>True⟩
noncomputable def b_cmpT1:Code:=Tryz.f115.body.getD .skip
theorem call_cmpT1:Callable Tryz.prog 115:=⟨_,Tryz.func115,by kernel_rfl,by kernel_rfl⟩
theorem v_cmpT1(a b:List UInt8)(h:
  ∃(x:(List UInt8)),((a=x/\True)/\True)/\∃(x:(List UInt8)),((b=x/\True)/\True)/\(false=true->(false=true->(0:Int)=cmpT a b)/\(false=false->(-1:Int)=cmpT a b))/\(false=false->(false=true->(1
  :Int)=cmpT a b)/\(false=false->(Op.bytesLess a b=true->(-1:Int)=cmpT a b)/\(Op.bytesLess a b=false->((!(Op.bytesLess a b||a==b))=true->(1:Int)=cmpT a b)/\((!(Op.bytesLess a b||a==b))=false->(0
  :Int)=cmpT a b))))):
  PureFn Tryz.prog 115 [.str a,.str b] (.int .i64 (cmpT a b)):=
 vcR (code:=b_cmpT1) (gC isNaNs_ok call_isNaNs gN) Tryz.func115 (by kernel_rfl) (by kernel_rfl) noAnn h (by kernel_rfl)
theorem cmpT1_ok:ConOk Tryz.prog 115 k_cmpT1:=by
 rintro⟨a,b⟩ _;refine v_cmpT1 a b ⟨a,⟨⟨rfl,trivial⟩,trivial⟩,b,⟨⟨rfl,trivial⟩,trivial⟩,fun h=>(by cases h),fun _=>⟨fun h=>(by cases h),fun _=>⟨fun h=> ?_,fun h=>⟨fun h2=> ?_,fun h2=> ?_⟩⟩⟩⟩
 ·unfold cmpT;rw[if_pos h]
 ·unfold cmpT;rw[h,Bool.false_or,Bool.not_eq_true',beq_eq_false_iff_ne] at h2;rw[if_neg (by rw[h];exact Bool.false_ne_true)]
  cases hb:Op.bytesLess b a with
  |true=>rfl
  |false=>exact absurd (bl_tot a b h hb) h2
 ·unfold cmpT;rw[h,Bool.false_or] at h2;have e:a=b:=by simpa using h2
  subst e;rw[if_neg (by rw[h];exact Bool.false_ne_true),if_neg (by rw[h];exact Bool.false_ne_true)]
def nzB(L:List Int)(i:Nat):Bool:=L.getD i 0 !=0
def orL(L:List Int):Int:=if fstI L.length (nzB L)<0 then 0 else L.getD (fstI L.length (nzB L)).toNat 0
def k_or:Con:=.rel ⟨List Int,fun L=>[.sl 1 L.length (intRow L)],fun L=>.int .i64 (orL L),fun L=>Len L.length⟩
def A_or(L:List Int):Nat->Ann
 |0=>.one (Cnt L.length (nzB L)) (fun x=>⟨[(3,.int .i64 0),(6,.sl 1 L.length (intRow L)),(7,.int .i64 L.length),(8,.int .i64 x.1)],[]⟩) (fun x=>L.length-x.1) [] [] (fun _=>noAnn)
 |_=>.none
noncomputable def b_or:Code:=Tryz.f101.body.getD .skip
theorem call_or:Callable Tryz.prog 101:=⟨_,Tryz.func101,by kernel_rfl,by kernel_rfl⟩
theorem v_or(L:List Int)(h:
  (∃(x:Cnt L.length (nzB L)),((0:Int)=(0:Int)/\(EqL intRow L L)/\(L.length:Int)=(L.length:Int)/\(0:Int)=(x.val:Int)/\True)/\True)/\∀(x:Cnt L.length (nzB L)),(decide ((x.val:Int)<(L.length:Int))=true->
  InB (x.val:Int) L.length/\((L.getD (x.val:Int).toNat (0:Int) !=(0:Int))=true->L.getD (x.val:Int).toNat (0:Int)=orL L)/\((L.getD (x.val:Int).toNat (0:Int) !=(0:Int))=false->Rng .i64 ((x.val:Int)+(1:Int))/\
  ∃(y:Cnt L.length (nzB L)),(((0:Int)=(0:Int)/\(EqL intRow L L)/\(L.length:Int)=(L.length:Int)/\(x.val:Int)+(1:Int)=(y.val:Int)/\True)/\True)/\Lt (L.length-y.val) (L.length-x.val)))/\(decide ((x.val:Int)
  <(L.length:Int))=false->(0:Int)=orL L)):
  PureFn Tryz.prog 101 [.sl 1 L.length (intRow L)] (.int .i64 (orL L)):=
 vcR (code:=b_or) gN Tryz.func101 (by kernel_rfl) (by kernel_rfl) (A_or L) h (by kernel_rfl)
theorem or_ok:ConOk Tryz.prog 101 k_or:=by
 intro(L:List Int) (hL:L.length<1000000000000);refine v_or L ⟨⟨cnt0,⟨rfl,⟨rfl,rowsR _ _⟩,rfl,rfl,trivial⟩,trivial⟩,fun x=>⟨fun hc=> ?_,fun hc=> ?_⟩⟩
 ·have hlt:=lt_of_dec hc;rw[Int.toNat_natCast];refine⟨inB_nat hlt,fun hp=> ?_,fun hp=>⟨add_rng hlt (by omega),x.succ hlt hp,⟨⟨rfl,⟨rfl,rowsR _ _⟩,rfl,by simp only[Cnt.succ];omega,trivial⟩,trivial⟩,Cnt.ext_lt hlt⟩⟩
  unfold orL;rw[fstI_at hlt hp x.2.2,if_neg (by omega),Int.toNat_natCast]
 ·have hge:=le_of_not hc;unfold orL;rw[fstI_no fun j hj=>x.2.2 j (Nat.lt_of_lt_of_le hj hge),if_pos (by decide)]
def k_cmpV:Con:=.rel ⟨Val×Val,fun x=>[.agg x.1.ts,.agg x.2.ts],fun x=>.int .i64 (cmpV x.1 x.2),fun _=>True⟩
noncomputable def b_cmpV:Code:=Tryz.f102.body.getD .skip
theorem call_cmpV:Callable Tryz.prog 102:=⟨_,Tryz.func102,by kernel_rfl,by kernel_rfl⟩
theorem v_cmpV(a b:Val)(h:
  ∃(x:(Int×Int)),((a.k=x.fst/\b.k=x.snd/\True)/\True)/\∃(x_1:(Int×Int)),((a.n=x_1.fst/\b.n=x_1.snd/\True)/\True)/\∃(x_2:(List UInt8×List UInt8)),((a.t=x_2.fst/\b.t=x_2.snd/\True)/\True)/\∃
  (x_3:(List Int)),(Le 3 3/\((3=x_3.length/\RowsEq 3 (fun(k:Nat)=>List.take 1 (List.drop (k*1) [T.int .i64 (cmpN x.fst x.snd),T.int .i64 (cmpN x_1.fst x_1.snd),T.int .i64 (cmpT x_2.fst x_2.snd)])) (intRow x_3))/\
  True)/\Len (x_3.length))/\orL x_3=cmpV a b):
  PureFn Tryz.prog 102 [.agg a.ts,.agg b.ts] (.int .i64 (cmpV a b)):=
 vcR (code:=b_cmpV) (gC cmpN1_ok call_cmpN1 (gC cmpT1_ok call_cmpT1 (gC or_ok call_or gN))) Tryz.func102 (by kernel_rfl) (by kernel_rfl) noAnn h (by kernel_rfl)
theorem or_2(a b:Int):orL [a,b]=if a≠0 then a else b:=by
 unfold orL;by_cases ha:a=0
 ·rw[if_neg (show ¬a≠0 from fun h=>h ha)]
  by_cases hb:b=0
  ·rw[fstI_no (p:=nzB [a,b]) fun j hj=>by
    have:j=0∨j=1:=by simp at hj;omega
    rcases this with rfl|rfl
    ·exact by simp[nzB,ha]
    ·exact by simp[nzB,hb],if_pos (show(-1:Int)<0 by decide),hb]
  ·rw[fstI_at (i:=1) (p:=nzB [a,b]) (by simp) (by simp[nzB,hb]) fun j hj=>by
    obtain rfl:j=0:=by omega
    simp[nzB,ha]]
   rfl
 ·rw[if_pos (show a≠0 from ha),fstI_at (i:=0) (p:=nzB [a,b]) (by simp) (by simp[nzB,ha]) fun j hj=>absurd hj (Nat.not_lt_zero j)]
  rfl
theorem or_3(a b c:Int):orL [a,b,c]=if a≠0 then a else if b≠0 then b else c:=by
 unfold orL;by_cases ha:a=0
 ·rw[if_neg (show ¬a≠0 from fun h=>h ha)]
  by_cases hb:b=0
  ·rw[if_neg (show ¬b≠0 from fun h=>h hb)]
   by_cases hc:c=0
   ·rw[fstI_no (p:=nzB [a,b,c]) fun j hj=>by
     have:j=0∨j=1∨j=2:=by simp at hj;omega
     rcases this with rfl|rfl|rfl
     ·exact by simp[nzB,ha]
     ·exact by simp[nzB,hb]
     ·exact by simp[nzB,hc],if_pos (show(-1:Int)<0 by decide),hc]
   ·rw[fstI_at (i:=2) (p:=nzB [a,b,c]) (by simp) (by simp[nzB,hc]) fun j hj=>by
     have:j=0∨j=1:=by omega
     rcases this with rfl|rfl
     ·exact by simp[nzB,ha]
     ·exact by simp[nzB,hb]]
    rfl
  ·rw[if_pos (show b≠0 from hb),fstI_at (i:=1) (p:=nzB [a,b,c]) (by simp) (by simp[nzB,hb]) fun j hj=>by
    obtain rfl:j=0:=by omega
    simp[nzB,ha]]
   rfl
 ·rw[if_pos (show a≠0 from ha),fstI_at (i:=0) (p:=nzB [a,b,c]) (by simp) (by simp[nzB,ha]) fun j hj=>absurd hj (Nat.not_lt_zero j)]
  rfl
theorem cmpV_ok:ConOk Tryz.prog 102 k_cmpV:=by
 rintro⟨a,b⟩ _;refine v_cmpV a b ⟨(a.k,b.k),⟨⟨rfl,rfl,trivial⟩,trivial⟩,(a.n,b.n),⟨⟨rfl,rfl,trivial⟩,trivial⟩,(a.t,b.t),⟨⟨rfl,rfl,trivial⟩,trivial⟩,[cmpN a.k b.k,cmpN a.n b.n,cmpT a.t b.t],⟨Nat.le_refl _,⟨⟨rfl,fun i hi=> ?_⟩,trivial⟩,by show(3:Nat)<_;decide⟩,or_3 _ _ _⟩
 have:i=0∨i=1∨i=2:=by omega
 rcases this with rfl|rfl|rfl<;>rfl
def k_cmpRw:Con:=.rel ⟨Rw×Rw,fun x=>[.agg x.1.ts,.agg x.2.ts],fun x=>.int .i64 (cmpN x.1.id x.2.id),fun _=>True⟩
noncomputable def b_cmpRw:Code:=Tryz.f104.body.getD .skip
theorem call_cmpRw:Callable Tryz.prog 104:=⟨_,Tryz.func104,by kernel_rfl,by kernel_rfl⟩
theorem v_cmpRw(a b:Rw)(h:
  ∃(x:(Int×Int)),((a.id=x.fst/\b.id=x.snd/\True)/\True)/\cmpN x.fst x.snd=cmpN a.id b.id):
  PureFn Tryz.prog 104 [.agg a.ts,.agg b.ts] (.int .i64 (cmpN a.id b.id)):=
 vcR (code:=b_cmpRw) (gC cmpN1_ok call_cmpN1 gN) Tryz.func104 (by kernel_rfl) (by kernel_rfl) noAnn h (by kernel_rfl)
theorem cmpRw_ok:ConOk Tryz.prog 104 k_cmpRw:=fun(x:Rw×Rw) _=>v_cmpRw x.1 x.2 ⟨(x.1.id,x.2.id),⟨⟨rfl,rfl,trivial⟩,trivial⟩,rfl⟩
noncomputable def b_colOf:Code:=Tryz.f103.body.getD .skip
theorem call_colOf:Callable Tryz.prog 103:=⟨_,Tryz.func103,by kernel_rfl,by kernel_rfl⟩
theorem v_col0(r:Rw)(h:
  ∃(x:Int),((r.id=x/\True)/\True)/\InB (0:Int) 3/\(1:Int)=(1:Int)/\x=r.id/\([]:List UInt8)=[]/\True):
  PureFn Tryz.prog 103 [.agg r.ts,.int .i64 0] (.agg (vI r.id).ts):=
 vcR (code:=b_colOf) (gC nuV_ok call_nuV gN) Tryz.func103 (by kernel_rfl) (by kernel_rfl) noAnn h (by kernel_rfl)
theorem v_col1(r:Rw)(h:
  ∃(x:Int),((r.id=x/\True)/\True)/\InB (1:Int) 3/\r.n.k=r.n.k/\r.n.n=r.n.n/\r.n.t=r.n.t/\True):
  PureFn Tryz.prog 103 [.agg r.ts,.int .i64 1] (.agg r.n.ts):=
 vcR (code:=b_colOf) (gC nuV_ok call_nuV gN) Tryz.func103 (by kernel_rfl) (by kernel_rfl) noAnn h (by kernel_rfl)
theorem v_col2(r:Rw)(h:
  ∃(x:Int),((r.id=x/\True)/\True)/\InB (2:Int) 3/\r.name.k=r.name.k/\r.name.n=r.name.n/\r.name.t=r.name.t/\True):
  PureFn Tryz.prog 103 [.agg r.ts,.int .i64 2] (.agg r.name.ts):=
 vcR (code:=b_colOf) (gC nuV_ok call_nuV gN) Tryz.func103 (by kernel_rfl) (by kernel_rfl) noAnn h (by kernel_rfl)
def k_colOf:Con:=.rel ⟨Rw×Int,fun x=>[.agg x.1.ts,.int .i64 x.2],fun x=>.agg (colV x.1 x.2).ts,fun x=>0<=x.2/\x.2<=2⟩
theorem colOf_ok:ConOk Tryz.prog 103 k_colOf:=by
 rintro⟨r,c⟩ (h:0<=c/\c<=2);have:c=0∨c=1∨c=2:=by omega
 rcases this with rfl|rfl|rfl
 ·exact v_col0 r ⟨r.id,⟨⟨rfl,trivial⟩,trivial⟩,⟨by decide,by decide⟩,rfl,rfl,rfl,trivial⟩
 ·exact v_col1 r ⟨r.id,⟨⟨rfl,trivial⟩,trivial⟩,⟨by decide,by decide⟩,rfl,rfl,rfl,trivial⟩
 ·exact v_col2 r ⟨r.id,⟨⟨rfl,trivial⟩,trivial⟩,⟨by decide,by decide⟩,rfl,rfl,rfl,trivial⟩
def k_binary:Con:=.rel ⟨Int×Val×Val,fun x=>[.int .i64 x.1,.agg x.2.1.ts,.agg x.2.2.ts],fun x=>.tup [.agg (binV x.1 x.2.1 x.2.2).1.ts,.int .i64 (binV x.1 x.2.1 x.2.2).2],fun x=>valOK x.2.1=true/\valOK x.2.2=true⟩
noncomputable def b_binary:Code:=Tryz.f122.body.getD .skip
theorem call_binary:Callable Tryz.prog 122:=⟨_,Tryz.func122,by kernel_rfl,by kernel_rfl⟩
theorem v_binary(op:Int)(a b:Val)(Z:Val×Int)(h:
  ((op==(12:Int)||op==(13:Int))=true->∃(x:(Int×Val×Val)),((op=x.fst/\(a.k=x.snd.fst.k/\a.n=x.snd.fst.n/\a.t=x.snd.fst.t/\True)/\(b.k=x.snd.snd.k/\b.n=x.snd.snd.n/\b.t=x.snd.snd.t/\True)/\
  True)/\valOK x.snd.fst=true/\valOK x.snd.snd=true)/\((conn x.fst x.snd.fst x.snd.snd).fst.k=Z.fst.k/\(conn x.fst x.snd.fst x.snd.snd).fst.n=Z.fst.n/\(conn x.fst x.snd.fst x.snd.snd).fst.t=Z.fst.t/\True)/\(conn
  x.fst x.snd.fst x.snd.snd).snd=Z.snd/\True)/\((op==(12:Int)||op==(13:Int))=false->((!(op==(10:Int)||op==(11:Int))&&(a.k==(2:Int)||b.k==(2:Int)))=true->((0:Int)=Z.fst.k/\(0:Int)=
  Z.fst.n/\[]=Z.fst.t/\True)/\(10:Int)=Z.snd/\True)/\((!(op==(10:Int)||op==(11:Int))&&(a.k==(2:Int)||b.k==(2:Int)))=false->((a.k==(0:Int)||b.k==(0:Int))=true->((0:Int)=Z.fst.k/\
  (0:Int)=Z.fst.n/\[]=Z.fst.t/\True)/\(0:Int)=Z.snd/\True)/\((a.k==(0:Int)||b.k==(0:Int))=false->((a.k !=b.k)=true->((0:Int)=Z.fst.k/\(0:Int)=Z.fst.n/\[]=Z.fst.t/\True)/\(10:Int)=
  Z.snd/\True)/\((a.k !=b.k)=false->((op==(10:Int))=true->∃(x:Bool),(((a.k==b.k&&(a.n==b.n&&(a.t==b.t&&true)))=x/\True)/\True)/\((1:Int)=Z.fst.k/\(if x=true then(1:Int) else(0:Int))=
  Z.fst.n/\[]=Z.fst.t/\True)/\(0:Int)=Z.snd/\True)/\((op==(10:Int))=false->((op==(11:Int))=true->∃(x:(Val×Val)),(((a.k=x.fst.k/\a.n=x.fst.n/\a.t=x.fst.t/\True)/\(b.k=x.snd.k/\b.n=x.snd.n
  /\b.t=x.snd.t/\True)/\True)/\True)/\∃(x_1:Bool),((decide (cmpV x.fst x.snd<(0:Int))=x_1/\True)/\True)/\((1:Int)=Z.fst.k/\(if x_1=true then(1:Int) else(0:Int))=Z.fst.n/\[]=Z.fst.t/\True)/\(0:
  Int)=Z.snd/\True)/\((op==(11:Int))=false->∃(x:(Int×Int×Int)),((op=x.fst/\a.n=x.snd.fst/\b.n=x.snd.snd/\True)/\((-1000000000:Int)<=x.snd.fst/\x.snd.fst<=(1000000000:Int))/\(-1000000000:Int)<=
  x.snd.snd/\x.snd.snd<=(1000000000:Int))/\((ari x.fst x.snd.fst x.snd.snd).fst.k=Z.fst.k/\(ari x.fst x.snd.fst x.snd.snd).fst.n=Z.fst.n/\(ari x.fst x.snd.fst x.snd.snd).fst.t=Z.fst.t/\True)/\(ari x.fst x.snd.fst
  x.snd.snd).snd=Z.snd/\True))))))):
  PureFn Tryz.prog 122 [.int .i64 op,.agg a.ts,.agg b.ts] (.tup [.agg Z.1.ts,.int .i64 Z.2]):=
 vcR (code:=b_binary) (gC connect_ok call_connect (gC truth_ok call_truth (gC cmpV_ok call_cmpV (gC arith_ok call_arith gN)))) Tryz.func122 (by kernel_rfl) (by kernel_rfl) noAnn h (by kernel_rfl)
theorem binary_ok:ConOk Tryz.prog 122 k_binary:=by
 rintro⟨op,a,b⟩ ⟨ha,hb⟩;dsimp only at ha hb;refine v_binary op a b (binV op a b) ⟨fun h=>⟨(op,a,b),⟨⟨rfl,⟨rfl,rfl,rfl,trivial⟩,⟨rfl,rfl,rfl,trivial⟩,trivial⟩,ha,hb⟩,vz ?_⟩,fun h=>⟨fun h1=>vz ?_,fun h1=>⟨fun h2=>vz ?_,fun h2=>⟨fun h3=>vz ?_,fun h3=>⟨fun h4=>⟨_,⟨⟨rfl,trivial⟩,trivial⟩,vz ?_⟩,fun h4=>⟨fun h5=>⟨(a,b),⟨⟨⟨rfl,rfl,rfl,trivial⟩,⟨rfl,rfl,rfl,trivial⟩,trivial⟩,trivial⟩,_,⟨⟨rfl,trivial⟩,trivial⟩,vz ?_⟩,fun h5=>⟨(op,a.n,b.n),⟨⟨rfl,rfl,rfl,trivial⟩,?_⟩,vz ?_⟩⟩⟩⟩⟩⟩⟩
 ·rw[binV,if_pos h]
 ·rw[binV,h,if_neg Bool.false_ne_true,if_pos h1];rfl
 ·rw[binV,h,if_neg Bool.false_ne_true,h1,if_neg Bool.false_ne_true,if_pos h2];rfl
 ·rw[binV,h,if_neg Bool.false_ne_true,h1,if_neg Bool.false_ne_true,h2,if_neg Bool.false_ne_true,if_pos h3];rfl
 ·rw[binV,h,if_neg Bool.false_ne_true,h1,if_neg Bool.false_ne_true,h2,if_neg Bool.false_ne_true,h3,if_neg Bool.false_ne_true,if_pos (by simpa using h4),Bool.and_true];rfl
 ·rw[binV,h,if_neg Bool.false_ne_true,h1,if_neg Bool.false_ne_true,h2,if_neg Bool.false_ne_true,h3,if_neg Bool.false_ne_true,if_neg (by simpa using h4),if_pos (by simpa using h5)];rfl
 ·rw[h4,h5] at h1;simp only[Bool.or_false,Bool.not_false,Bool.true_and,Bool.or_eq_false_iff,beq_eq_false_iff_ne,bne_eq_false_iff_eq] at h1 h2 h3;have e1:=inR_b.1 (vok_1 ha (by rcases vok_k ha with h|h|h<;>omega)).1
  have e2:=inR_b.1 (vok_1 hb (by rcases vok_k hb with h|h|h<;>omega)).1
  exact⟨e1,e2⟩
 ·rw[binV,h,if_neg Bool.false_ne_true,h1,if_neg Bool.false_ne_true,h2,if_neg Bool.false_ne_true,h3,if_neg Bool.false_ne_true,if_neg (by simpa using h4),if_neg (by simpa using h5)]
end Go.Proofs.YtfmngblmdghccaaGreat

