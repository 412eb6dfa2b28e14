/- A part of the proof. -/
import Derived.Test.YtfmngblmdghccaaGreatX6
namespace Go.Proofs.YtfmngblmdghccaaGreat
set_option maxRecDepth 100000
open Go.SS Go.RowKit

theorem leZ(n:Nat):Le (0+n) n:=by unfold Le;omega
def k_szEx:Con:=.rel ⟨List Nd×Int,fun x=>[.agg [ndS x.1],.int .i64 x.2],fun x=>.int .i64 (rem x.2 (bulkL bulkNd x.1)),fun x=>Left x.2/\Lim x.1.length/\∀i,i<x.1.length->LmNd (x.1.getD i default)⟩
noncomputable def b_szEx:Code:=Tryz.f33.body.getD .skip
theorem call_szEx:Callable Tryz.prog 33:=⟨_,Tryz.func33,by kernel_rfl,by kernel_rfl⟩
theorem v_szEx(L:List Nd)(left:Int)(h:
  ∃(x:(List Nd×Int)),(((EqL ndRow L x.fst)/\left=x.snd/\True)/\Left x.snd/\Lim x.fst.length/\∀(i:Nat),i<x.fst.length->LmNd (x.fst.getD i default))/\(decide (rem x.snd (bulkL bulkNd x.fst)<(0:Int))=true->
  (-1:Int)=rem left (bulkL bulkNd L))/\(decide (rem x.snd (bulkL bulkNd x.fst)<(0:Int))=false->rem x.snd (bulkL bulkNd x.fst)=rem left (bulkL bulkNd L))):
  PureFn Tryz.prog 33 [.agg [ndS L],.int .i64 left] (.int .i64 (rem left (bulkL bulkNd L))):=
 vcR (code:=b_szEx) (gC szNdS_ok call_szNdS gN) Tryz.func33 (by kernel_rfl) (by kernel_rfl) noAnn h (by kernel_rfl)
theorem szEx_ok:ConOk Tryz.prog 33 k_szEx:=by
 rintro⟨L,left⟩ ⟨hl,h1⟩;exact v_szEx L left ⟨(L,left),⟨⟨⟨rfl,rowsR _ _⟩,rfl,trivial⟩,hl,h1⟩,fun h=>(rem_neg (of_decide_eq_true h) (Nat.le_refl _)).symm,fun _=>rfl⟩
def k_moEx:Con:=.rmk ⟨List Nd,fun L=>[.agg [ndS L]],fun _=>[],fun L=>.agg [.osl 0 0 L.length],fun L=>[ndA L],fun L=>L.length<=1048576⟩
noncomputable def b_moEx:Code:=Tryz.f35.body.getD .skip
theorem call_moEx:Callable Tryz.prog 35:=⟨_,Tryz.func35,by kernel_rfl,by kernel_rfl⟩
theorem v_moEx(L:List Nd)(h:
  ∃(x:(List Nd)),(((EqL ndRow L x)/\True)/\x.length<=1048576)/\(((0=0/\x.length=L.length)/\True)/\True)/\(x.length=L.length/\RowsEq (x.length) (ndRow x) (ndRow L))/\True):
  EffFn Tryz.prog 35 [.agg [ndS L]] [] (.agg [.osl 0 0 L.length]) [ndA L]:=
 vcG (code:=b_moEx) (gC moNdS_ok call_moNdS gN) Tryz.func35 (by kernel_rfl) (by kernel_rfl) noAnn [[.vl 0 [0]]] h (by kernel_rfl)
theorem moEx_ok:ConOk Tryz.prog 35 k_moEx:=by
 intro(L:List Nd) h;exact⟨v_moEx L ⟨L,⟨⟨⟨rfl,rowsR _ _⟩,trivial⟩,h⟩,⟨⟨⟨rfl,rfl⟩,trivial⟩,trivial⟩,⟨rfl,rowsR _ _⟩,trivial⟩,rfl,plain_cons (plain_nd L) plain_nil⟩
def k_eqEx:Con:=.rel ⟨List Nd,fun L=>[.agg [ndS L],.agg [ndS L]],fun _=>.bool true,fun L=>L.length<=1048576⟩
noncomputable def b_eqEx:Code:=Tryz.f37.body.getD .skip
theorem call_eqEx:Callable Tryz.prog 37:=⟨_,Tryz.func37,by kernel_rfl,by kernel_rfl⟩
theorem v_eqEx(L:List Nd)(h:
  ∃(x:(List Nd)),(((EqL ndRow L x)/\(EqL ndRow L x)/\True)/\x.length<=1048576)/\(false=true->false=true)/\(false=false->true=true)):
  PureFn Tryz.prog 37 [.agg [ndS L],.agg [ndS L]] (.bool true):=
 vcR (code:=b_eqEx) (gC eqNdS_ok call_eqNdS gN) Tryz.func37 (by kernel_rfl) (by kernel_rfl) noAnn h (by kernel_rfl)
theorem eqEx_ok:ConOk Tryz.prog 37 k_eqEx:=fun(L:List Nd) h=>v_eqEx L ⟨L,⟨⟨⟨rfl,rowsR _ _⟩,⟨rfl,rowsR _ _⟩,trivial⟩,h⟩,fun h=>h,fun _=>rfl⟩
def k_markEx:Con:=.reff ⟨List Nd×Nat,fun x=>[.agg [.osl 0 0 x.1.length],.int .i64 x.2],fun x=>[ndA x.1],fun x=>.int .i64 (x.2+7*x.1.length:Nat),fun x=>[ndA (mkNdL x.1.length x.2)],fun x=>KBn x.1.length x.2 7⟩
noncomputable def b_markEx:Code:=Tryz.f39.body.getD .skip
theorem call_markEx:Callable Tryz.prog 39:=⟨_,Tryz.func39,by kernel_rfl,by kernel_rfl⟩
theorem v_markEx(L:List Nd)(k:Nat)(h:
  ∃(x:(List Nd×Nat)),(((0=0/\L.length=x.fst.length)/\(k:Int)=(x.snd:Int)/\True)/\((EqL ndRow L x.fst)/\True)/\KBn x.fst.length x.snd 7)/\((↑(x.snd+7*x.fst.length):Int)=(↑(k+7*L.length):Int)/\True)/\
  (EqL ndRow (mkNdL x.fst.length x.snd) (mkNdL L.length k))/\True):
  EffFn Tryz.prog 39 [.agg [.osl 0 0 L.length],.int .i64 k] [ndA L] (.int .i64 (k+7*L.length:Nat)) [ndA (mkNdL L.length k)]:=
 vcG (code:=b_markEx) (gC markNdS_ok call_markNdS gN) Tryz.func39 (by kernel_rfl) (by kernel_rfl) noAnn [[.arr 0]] h (by kernel_rfl)
theorem markEx_ok:ConOk Tryz.prog 39 k_markEx:=by
 rintro⟨L,k⟩ h;exact v_markEx L k ⟨(L,k),⟨⟨⟨rfl,rfl⟩,rfl,trivial⟩,⟨⟨rfl,rowsR _ _⟩,trivial⟩,h⟩,⟨rfl,trivial⟩,⟨rfl,rowsR _ _⟩,trivial⟩
def Stm.tm(s:Stm)(i:Nat):List T:=[.int .i64 s.k,.int .i64 s.ta,.int .i64 s.row.id,.int .i64 s.row.n.k,.int .i64 s.row.n.n,.str s.row.n.t,.int .i64 s.row.name.k,.int .i64 s.row.name.n,.str s.row.name.t,.int .i64 s.c,.osl i 0 s.set.length,.osl (i+1) 0 s.whr.length,.int .i64 s.ord,.bool s.down]
def bulkStm(s:Stm):Nat:=bulkRw s.row+bulkL bulkNd s.set+bulkL bulkNd s.whr
def LmNds(L:List Nd):Prop:=Lim L.length/\∀i,i<L.length->LmNd (L.getD i default)
def LmStm(s:Stm):Prop:=LmRw s.row/\LmNds s.set/\LmNds s.whr
def SmStm(s:Stm):Prop:=s.set.length<=1048576/\s.whr.length<=1048576
def k_szStm:Con:=.rel ⟨Stm×Int,fun x=>[.agg x.1.ts,.int .i64 x.2],fun x=>.int .i64 (rem x.2 (bulkStm x.1)),fun x=>Left x.2/\LmStm x.1⟩
noncomputable def b_szStm:Code:=Tryz.f11.body.getD .skip
theorem call_szStm:Callable Tryz.prog 11:=⟨_,Tryz.func11,by kernel_rfl,by kernel_rfl⟩
theorem v_szStm(s:Stm)(left:Int)(h:
  ∃(x:(Rw×Int)),(((s.row.id=x.fst.id/\s.row.n.k=x.fst.n.k/\s.row.n.n=x.fst.n.n/\s.row.n.t=x.fst.n.t/\s.row.name.k=x.fst.name.k/\s.row.name.n=x.fst.name.n/\s.row.name.t=x.fst.name.t/\True)/\left=x.snd/\
  True)/\Left x.snd/\LmRw x.fst)/\(decide (rem x.snd (bulkRw x.fst)<(0:Int))=true->(-1:Int)=rem left (bulkStm s))/\(decide (rem x.snd (bulkRw x.fst)<(0:Int))=false->∃(x_1:(List Nd×Int)),((((EqL ndRow
  s.set x_1.fst)/\True)/\rem x.snd (bulkRw x.fst)=x_1.snd/\True)/\Left x_1.snd/\Lim x_1.fst.length/\∀(i:Nat),i<x_1.fst.length->LmNd (x_1.fst.getD i default))/\(decide (rem x_1.snd (bulkL bulkNd x_1.fst)<(0:Int))
  =true->(-1:Int)=rem left (bulkStm s))/\(decide (rem x_1.snd (bulkL bulkNd x_1.fst)<(0:Int))=false->∃(x:(List Nd×Int)),((((EqL ndRow s.whr x.fst)/\True)/\rem x_1.snd (bulkL bulkNd x_1.fst)=x.snd/\True)/\
  Left x.snd/\Lim x.fst.length/\∀(i:Nat),i<x.fst.length->LmNd (x.fst.getD i default))/\(decide (rem x.snd (bulkL bulkNd x.fst)<(0:Int))=true->(-1:Int)=rem left (bulkStm s))/\(decide (rem x.snd (bulkL bulkNd
  x.fst)<(0:Int))=false->rem x.snd (bulkL bulkNd x.fst)=rem left (bulkStm s))))):
  PureFn Tryz.prog 11 [.agg s.ts,.int .i64 left] (.int .i64 (rem left (bulkStm s))):=
 vcR (code:=b_szStm) (gC szRw_ok call_szRw (gC szEx_ok call_szEx gN)) Tryz.func11 (by kernel_rfl) (by kernel_rfl) noAnn h (by kernel_rfl)
theorem szStm_ok:ConOk Tryz.prog 11 k_szStm:=by
 rintro⟨s,left⟩ ⟨hl,h0,h1,h2⟩;dsimp only at hl h0 h1 h2;have e:bulkStm s=bulkRw s.row+bulkL bulkNd s.set+bulkL bulkNd s.whr:=rfl;refine v_szStm s left ⟨(s.row,left),⟨⟨⟨rfl,rfl,rfl,rfl,rfl,rfl,rfl,trivial⟩,rfl,trivial⟩,hl,h0⟩,fun h=>(rem_neg (a:=bulkRw s.row) (b:=bulkStm s) (of_decide_eq_true h) (by omega)).symm,fun h=> ?_⟩
 obtain⟨q1,l1⟩:=rem_add (b:=bulkL bulkNd s.set) (of_decide_eq_false h) hl rfl;dsimp only at q1 l1;refine⟨(s.set,rem left (bulkRw s.row)),⟨⟨⟨⟨rfl,rowsR _ _⟩,trivial⟩,rfl,trivial⟩,l1,h1⟩,fun g=> ?_,fun g=> ?_⟩
 ·dsimp only at g;rw[q1] at g;exact(rem_neg (b:=bulkStm s) (of_decide_eq_true g) (by omega)).symm
 dsimp only at g ⊢;rw[q1] at g ⊢;obtain⟨q2,l2⟩:=rem_add (b:=bulkL bulkNd s.whr) (of_decide_eq_false g) hl rfl;refine⟨(s.whr,rem left (bulkRw s.row+bulkL bulkNd s.set)),⟨⟨⟨⟨rfl,rowsR _ _⟩,trivial⟩,rfl,trivial⟩,l2,h2⟩,fun g=> ?_,fun g=> ?_⟩
 ·dsimp only at g;rw[q2] at g;exact(rem_neg (of_decide_eq_true g) (Nat.le_refl _)).symm
 ·exact q2
def k_moStm:Con:=.rmk ⟨Stm,fun s=>[.agg s.ts],fun _=>[],fun s=>.agg (s.tm 0),fun s=>[ndA s.set,ndA s.whr],SmStm⟩
noncomputable def b_moStm:Code:=Tryz.f13.body.getD .skip
theorem call_moStm:Callable Tryz.prog 13:=⟨_,Tryz.func13,by kernel_rfl,by kernel_rfl⟩
theorem v_moStm(s:Stm)(h:
  ∃(x:Rw),(((s.row.id=x.id/\s.row.n.k=x.n.k/\s.row.n.n=x.n.n/\s.row.n.t=x.n.t/\s.row.name.k=x.name.k/\s.row.name.n=x.name.n/\s.row.name.t=x.name.t/\True)/\True)/\True)/\∃(x_1:(List Nd)),((((EqL ndRow
  s.set x_1)/\True)/\True)/\x_1.length<=1048576)/\∃(x_2:(List Nd)),((((EqL ndRow s.whr x_2)/\True)/\True)/\x_2.length<=1048576)/\((s.k=s.k/\s.ta=s.ta/\x.id=s.row.id/\x.n.k=s.row.n.k/\x.n.n=s.row.n.n/\
  x.n.t=s.row.n.t/\x.name.k=s.row.name.k/\x.name.n=s.row.name.n/\x.name.t=s.row.name.t/\s.c=s.c/\(0=0/\x_1.length=s.set.length)/\(0=0/\x_2.length=s.whr.length)/\s.ord=s.ord/\s.down=s.down/\True)/\
  True)/\(x_1.length=s.set.length/\RowsEq (x_1.length) (ndRow x_1) (ndRow s.set))/\(x_2.length=s.whr.length/\RowsEq (x_2.length) (ndRow x_2) (ndRow s.whr))/\True):
  EffFn Tryz.prog 13 [.agg s.ts] [] (.agg (s.tm 0)) [ndA s.set,ndA s.whr]:=
 vcG (code:=b_moStm) (gC toRw_ok call_toRw (gC moEx_ok call_moEx gN)) Tryz.func13 (by kernel_rfl) (by kernel_rfl) noAnn [[.vl 0 [10],.vl 0 [11]]] h (by kernel_rfl)
theorem moStm_ok:ConOk Tryz.prog 13 k_moStm:=by
 rintro(s:Stm) ⟨h1,h2⟩;exact⟨v_moStm s ⟨s.row,⟨⟨⟨rfl,rfl,rfl,rfl,rfl,rfl,rfl,trivial⟩,trivial⟩,trivial⟩,s.set,⟨⟨⟨⟨rfl,rowsR _ _⟩,trivial⟩,trivial⟩,h1⟩,s.whr,⟨⟨⟨⟨rfl,rowsR _ _⟩,trivial⟩,trivial⟩,h2⟩,⟨⟨rfl,rfl,rfl,rfl,rfl,rfl,rfl,rfl,rfl,rfl,⟨rfl,rfl⟩,⟨rfl,rfl⟩,rfl,rfl,trivial⟩,trivial⟩,⟨rfl,rowsR _ _⟩,⟨rfl,rowsR _ _⟩,trivial⟩,rfl,plain_cons (plain_nd _) (plain_cons (plain_nd _) plain_nil)⟩
def k_eqStm:Con:=.rel ⟨Stm,fun s=>[.agg s.ts,.agg s.ts],fun _=>.bool true,SmStm⟩
noncomputable def b_eqStm:Code:=Tryz.f16.body.getD .skip
theorem call_eqStm:Callable Tryz.prog 16:=⟨_,Tryz.func16,by kernel_rfl,by kernel_rfl⟩
theorem v_eqStm(s:Stm)(h:
  ((s.k !=s.k)=true->false=true)/\((s.k !=s.k)=false->((s.ta !=s.ta)=true->false=true)/\((s.ta !=s.ta)=false->∃(x:Rw),(((s.row.id=x.id/\s.row.n.k=x.n.k/\s.row.n.n=x.n.n/\s.row.n.t=x.n.t/\
  s.row.name.k=x.name.k/\s.row.name.n=x.name.n/\s.row.name.t=x.name.t/\True)/\(s.row.id=x.id/\s.row.n.k=x.n.k/\s.row.n.n=x.n.n/\s.row.n.t=x.n.t/\s.row.name.k=x.name.k/\s.row.name.n=x.name.n/\s.row.name.t
  =x.name.t/\True)/\True)/\True)/\(false=true->false=true)/\(false=false->((s.c !=s.c)=true->false=true)/\((s.c !=s.c)=false->∃(x:(List Nd)),((((EqL ndRow s.set x)/\True)/\((EqL ndRow s.set x)/\True)
  /\True)/\x.length<=1048576)/\(false=true->false=true)/\(false=false->∃(x:(List Nd)),((((EqL ndRow s.whr x)/\True)/\((EqL ndRow s.whr x)/\True)/\True)/\x.length<=1048576)/\(false=true->false=true)/\
  (false=false->((s.ord !=s.ord)=true->false=true)/\((s.ord !=s.ord)=false->((!s.down==s.down)=true->false=true)/\((!s.down==s.down)=false->true=true))))))))):
  PureFn Tryz.prog 16 [.agg s.ts,.agg s.ts] (.bool true):=
 vcR (code:=b_eqStm) (gC eqRw_ok call_eqRw (gC eqEx_ok call_eqEx gN)) Tryz.func16 (by kernel_rfl) (by kernel_rfl) noAnn h (by kernel_rfl)
theorem eqStm_ok:ConOk Tryz.prog 16 k_eqStm:=by
 rintro(s:Stm) ⟨h1,h2⟩;exact v_eqStm s ⟨fun h=>by simp at h,fun _=>⟨fun h=>by simp at h,fun _=>⟨s.row,⟨⟨⟨rfl,rfl,rfl,rfl,rfl,rfl,rfl,trivial⟩,⟨rfl,rfl,rfl,rfl,rfl,rfl,rfl,trivial⟩,trivial⟩,trivial⟩,fun h=>h,fun _=>⟨fun h=>by simp at h,fun _=>⟨s.set,⟨⟨⟨⟨rfl,rowsR _ _⟩,trivial⟩,⟨⟨rfl,rowsR _ _⟩,trivial⟩,trivial⟩,h1⟩,fun h=>h,fun _=>⟨s.whr,⟨⟨⟨⟨rfl,rowsR _ _⟩,trivial⟩,⟨⟨rfl,rowsR _ _⟩,trivial⟩,trivial⟩,h2⟩,fun h=>h,fun _=>⟨fun h=>by simp at h,fun _=>⟨fun h=>by simp at h,fun _=>rfl⟩⟩⟩⟩⟩⟩⟩⟩
def k_markStm:Con:=.reff ⟨Stm×Nat,fun x=>[.agg (x.1.tm 0),.int .i64 x.2],fun x=>[ndA x.1.set,ndA x.1.whr],fun x=>.int .i64 (x.2+7*x.1.set.length+7*x.1.whr.length:Nat),fun x=>[ndA (mkNdL x.1.set.length x.2),ndA (mkNdL x.1.whr.length (x.2+7*x.1.set.length))],fun x=>SmStm x.1/\1<=x.2/\x.2<=100000000⟩
noncomputable def b_markStm:Code:=Tryz.f18.body.getD .skip
theorem call_markStm:Callable Tryz.prog 18:=⟨_,Tryz.func18,by kernel_rfl,by kernel_rfl⟩
theorem v_markStm(s:Stm)(k:Nat)(h:
  ∃(x:(List Nd×Nat)),((((0=0/\s.set.length=x.fst.length)/\True)/\(k:Int)=(x.snd:Int)/\True)/\((EqL ndRow s.set x.fst)/\True)/\KBn x.fst.length x.snd 7)/\∃(x_1:(List Nd×Nat)),((((0=0/\s.whr.length=
  x_1.fst.length)/\True)/\(↑(x.snd+7*x.fst.length):Int)=(x_1.snd:Int)/\True)/\((EqL ndRow s.whr x_1.fst)/\True)/\KBn x_1.fst.length x_1.snd 7)/\((↑(x_1.snd+7*x_1.fst.length):Int)=(↑(k+7*s.set.length+7*
  s.whr.length):Int)/\True)/\(EqL ndRow (mkNdL x.fst.length x.snd) (mkNdL s.set.length k))/\(EqL ndRow (mkNdL x_1.fst.length x_1.snd) (mkNdL s.whr.length (k+7*s.set.length)))/\True):
  EffFn Tryz.prog 18 [.agg (s.tm 0),.int .i64 k] [ndA s.set,ndA s.whr] (.int .i64 (k+7*s.set.length+7*s.whr.length:Nat)) [ndA (mkNdL s.set.length k),ndA (mkNdL s.whr.length (k+7*s.set.length))]:=
 vcG (code:=b_markStm) (gC markEx_ok call_markEx gN) Tryz.func18 (by kernel_rfl) (by kernel_rfl) noAnn [[.arr 0,.arr 1]] h (by kernel_rfl)
theorem markStm_ok:ConOk Tryz.prog 18 k_markStm:=by
 rintro⟨s,k⟩ ⟨⟨h1,h2⟩,h3,h4⟩;dsimp only at h1 h2 h3 h4;exact v_markStm s k ⟨(s.set,k),⟨⟨⟨⟨rfl,rfl⟩,trivial⟩,rfl,trivial⟩,⟨⟨rfl,rowsR _ _⟩,trivial⟩,h1,h3,by dsimp only;omega⟩,(s.whr,k+7*s.set.length),⟨⟨⟨⟨rfl,rfl⟩,trivial⟩,rfl,trivial⟩,⟨⟨rfl,rowsR _ _⟩,trivial⟩,h2,by dsimp only;omega,by dsimp only;omega⟩,⟨rfl,trivial⟩,⟨rfl,rowsR _ _⟩,⟨rfl,rowsR _ _⟩,trivial⟩
def k_eqAns:Con:=.rel ⟨List Rw×Int,fun x=>[.agg [rwS x.1,.int .i64 x.2],.agg [rwS x.1,.int .i64 x.2]],fun _=>.bool true,fun x=>x.1.length<=1048576⟩
noncomputable def b_eqAns:Code:=Tryz.f15.body.getD .skip
theorem call_eqAns:Callable Tryz.prog 15:=⟨_,Tryz.func15,by kernel_rfl,by kernel_rfl⟩
theorem v_eqAns(L:List Rw)(c:Int)(h:
  ∃(x:(List Rw)),(((EqL rwRow L x)/\(EqL rwRow L x)/\True)/\x.length<=1048576)/\(false=true->false=true)/\(false=false->((c !=c)=true->false=true)/\((c !=c)=false->true=true))):
  PureFn Tryz.prog 15 [.agg [rwS L,.int .i64 c],.agg [rwS L,.int .i64 c]] (.bool true):=
 vcR (code:=b_eqAns) (gC eqRwS_ok call_eqRwS gN) Tryz.func15 (by kernel_rfl) (by kernel_rfl) noAnn h (by kernel_rfl)
theorem eqAns_ok:ConOk Tryz.prog 15 k_eqAns:=by
 rintro⟨L,c⟩ h;exact v_eqAns L c ⟨L,⟨⟨⟨rfl,rowsR _ _⟩,⟨rfl,rowsR _ _⟩,trivial⟩,h⟩,fun h=>h,fun _=>⟨fun h=>by simp at h,fun _=>rfl⟩⟩
def k_markAns:Con:=.reff ⟨List Rw×Int×Nat,fun x=>[.agg [.osl 0 0 x.1.length,.int .i64 x.2.1],.int .i64 x.2.2],fun x=>[rwsA x.1],fun x=>.int .i64 (x.2.2+7*x.1.length:Nat),fun x=>[rwsA (mkRwL x.1.length x.2.2)],fun x=>KBn x.1.length x.2.2 7⟩
noncomputable def b_markAns:Code:=Tryz.f19.body.getD .skip
theorem call_markAns:Callable Tryz.prog 19:=⟨_,Tryz.func19,by kernel_rfl,by kernel_rfl⟩
theorem v_markAns(L:List Rw)(c:Int)(k:Nat)(h:
  ∃(x:(List Rw×Nat)),(((0=0/\L.length=x.fst.length)/\(k:Int)=(x.snd:Int)/\True)/\((EqL rwRow L x.fst)/\True)/\KBn x.fst.length x.snd 7)/\((↑(x.snd+7*x.fst.length):Int)=(↑(k+7*L.length):Int)/\True)/\
  (EqL rwRow (mkRwL x.fst.length x.snd) (mkRwL L.length k))/\True):
  EffFn Tryz.prog 19 [.agg [.osl 0 0 L.length,.int .i64 c],.int .i64 k] [rwsA L] (.int .i64 (k+7*L.length:Nat)) [rwsA (mkRwL L.length k)]:=
 vcG (code:=b_markAns) (gC markRwS_ok call_markRwS gN) Tryz.func19 (by kernel_rfl) (by kernel_rfl) noAnn [[.arr 0]] h (by kernel_rfl)
theorem markAns_ok:ConOk Tryz.prog 19 k_markAns:=by
 rintro⟨L,c,k⟩ h;exact v_markAns L c k ⟨(L,k),⟨⟨⟨rfl,rfl⟩,rfl,trivial⟩,⟨⟨rfl,rowsR _ _⟩,trivial⟩,h⟩,⟨rfl,trivial⟩,⟨rfl,rowsR _ _⟩,trivial⟩
def k_heldAns:Con:=.rel ⟨Nat×Int×Nat,fun x=>[.agg [rwS (mkRwL x.1 x.2.2),.int .i64 x.2.1],.int .i64 x.2.2],fun x=>.int .i64 (x.2.2+7*x.1:Nat),fun x=>KBn x.1 x.2.2 7⟩
noncomputable def b_heldAns:Code:=Tryz.f21.body.getD .skip
theorem call_heldAns:Callable Tryz.prog 21:=⟨_,Tryz.func21,by kernel_rfl,by kernel_rfl⟩
theorem v_heldAns(n:Nat)(c:Int)(k:Nat)(h:
  ∃(x:(Nat×Nat)),(((EqL rwRow (mkRwL n k) (mkRwL x.fst x.snd))/\(k:Int)=(x.snd:Int)/\True)/\KBn x.fst x.snd 7)/\(decide ((↑(x.snd+7*x.fst):Int)<(0:Int))=true->(-1:Int)=(↑(k+7*n):Int))/\(decide
  ((↑(x.snd+7*x.fst):Int)<(0:Int))=false->(↑(x.snd+7*x.fst):Int)=(↑(k+7*n):Int))):
  PureFn Tryz.prog 21 [.agg [rwS (mkRwL n k),.int .i64 c],.int .i64 k] (.int .i64 (k+7*n:Nat)):=
 vcR (code:=b_heldAns) (gC heldRwS_ok call_heldRwS gN) Tryz.func21 (by kernel_rfl) (by kernel_rfl) noAnn h (by kernel_rfl)
theorem heldAns_ok:ConOk Tryz.prog 21 k_heldAns:=by
 rintro⟨n,c,k⟩ h;exact v_heldAns n c k ⟨(n,k),⟨⟨⟨rfl,rowsR _ _⟩,rfl,trivial⟩,h⟩,fun h=>absurd (of_decide_eq_true h) (by omega),fun _=>rfl⟩
noncomputable def k_Dens:Con:=.rfz ⟨List Rw×Stm,fun x=>[rwS x.1,.agg x.2.ts],fun x=>.tup [rwS (denA x.2 x.1).r,.agg [rwS (denA x.2 x.1).a,.int .i64 (denA x.2 x.1).n],.int .i64 (denA x.2 x.1).x],fun x=>RwsB x.1/\StmB x.2⟩
noncomputable def b_Dens:Code:=Tryz.f8.body.getD .skip
theorem v_Dens(L:List Rw)(s:Stm)(R M:List Rw)(c:Nat)(x:Int)(h:
  (decide ((L.length:Int)>(4096:Int))=true->R.length=0/\(M.length=0/\(0:Int)=(c:Int)/\True)/\(2:Int)=x/\True)/\(decide ((L.length:Int)>(4096:Int))=false->(decide ((L.length:Int)>(100:Int))=true
  ->AppB 0 L.length 72/\(EqL rwRow L R)/\(M.length=0/\(0:Int)=(c:Int)/\True)/\(6:Int)=x/\True)/\(decide ((L.length:Int)>(100:Int))=false->∃(x_1:(List Rw)),(((EqL rwRow L x_1)/\True)/\RwsB x_1)/\∃(x_2
  :Stm),((!rwsOK x_1)=false->((s.k=x_2.k/\s.ta=x_2.ta/\s.row.id=x_2.row.id/\s.row.n.k=x_2.row.n.k/\s.row.n.n=x_2.row.n.n/\s.row.n.t=x_2.row.n.t/\s.row.name.k=x_2.row.name.k/\s.row.name.n=x_2.row.name.n/\
  s.row.name.t=x_2.row.name.t/\s.c=x_2.c/\(EqL ndRow s.set x_2.set)/\(EqL ndRow s.whr x_2.whr)/\s.ord=x_2.ord/\s.down=x_2.down/\True)/\True)/\StmB x_2)/\((!rwsOK x_1|| !stmOK x_2)=true->AppB 0 L.length 72/\(EqL
  rwRow L R)/\(M.length=0/\(0:Int)=(c:Int)/\True)/\(1:Int)=x/\True)/\((!rwsOK x_1|| !stmOK x_2)=false->∃(x_3:(List Rw×Stm)),(((EqL rwRow L x_3.fst)/\(s.k=x_3.snd.k/\s.ta=x_3.snd.ta/\s.row.id=
  x_3.snd.row.id/\s.row.n.k=x_3.snd.row.n.k/\s.row.n.n=x_3.snd.row.n.n/\s.row.n.t=x_3.snd.row.n.t/\s.row.name.k=x_3.snd.row.name.k/\s.row.name.n=x_3.snd.row.name.n/\s.row.name.t=x_3.snd.row.name.t/\s.c=x_3.snd.c
  /\(EqL ndRow s.set x_3.snd.set)/\(EqL ndRow s.whr x_3.snd.whr)/\s.ord=x_3.snd.ord/\s.down=x_3.snd.down/\True)/\True)/\StD x_3.snd x_3.fst/\(x_3.snd.k=(1:Int)∨x_3.snd.k=(2:Int)∨x_3.snd.k=(3:Int)∨
  x_3.snd.k=(4:Int)))/\AppB 0 (denR x_3.snd x_3.fst).r.length 72/\(EqL rwRow (denR x_3.snd x_3.fst).r R)/\((EqL rwRow (denR x_3.snd x_3.fst).a M)/\(↑(denR x_3.snd x_3.fst).n:Int)=(c:Int)/\True)/\(denR x_3.snd
  x_3.fst).x=x/\True)))):
  PureFn Tryz.prog 8 [rwS L,.agg s.ts] (.tup [rwS R,.agg [rwS M,.int .i64 c],.int .i64 x]):=
 vcR (code:=b_Dens) (gC rwsS_ok call_rwsS (gC StmtOKs_ok call_StmtOKs (gC denS_ok call_denS (gC tmpK_ok call_tmpK (gC tmpK_ok call_tmpK (gC tmpK_ok call_tmpK gN)))))) Tryz.func8 (by kernel_rfl) (by kernel_rfl) noAnn h (by kernel_rfl)
theorem stm_K{s:Stm}(h:stmOK s=true):s.k=1∨s.k=2∨s.k=3∨s.k=4:=by
 unfold stmOK at h;rw[Bool.and_eq_true] at h;have h:=h.2;by_cases h1:s.k=1
 ·exact .inl h1
 by_cases h2:s.k=2
 ·exact .inr (.inl h2)
 by_cases h3:s.k=3
 ·exact .inr (.inr (.inl h3))
 rw[if_neg h1,if_neg h2,if_neg h3] at h;simp only[Bool.and_eq_true,beq_iff_eq] at h;exact .inr (.inr (.inr h.1.1.1.1.1))
theorem den_ln(s:Stm)(L:List Rw):(denA s L).r.length<=4097/\(denA s L).a.length<=4097:=by
 unfold denA;split
 ·exact⟨Nat.zero_le _,Nat.zero_le _⟩
 ·split
  ·exact⟨by dsimp only;omega,Nat.zero_le _⟩
  ·rename_i h1 h2;split
   ·exact⟨by dsimp only;omega,Nat.zero_le _⟩
   ·rename_i h3;have h3:(!rwsOK L|| !stmOK s)=false:=by simpa using h3
    rw[Bool.or_eq_false_iff,Bool.not_eq_false',Bool.not_eq_false'] at h3;obtain⟨a1,a2,a3⟩:=std_of h3.1 h3.2 (by omega)
    unfold denR;split
    ·split
     ·exact⟨by dsimp only;omega,Nat.zero_le _⟩
     ·refine⟨?_,Nat.zero_le _⟩
      dsimp only;rw[ins_len (low_le _ _)];omega
    ·rename_i hk;split
     ·exact⟨by dsimp only;omega,Nat.zero_le _⟩
     ·rename_i hx;obtain⟨_,_,b1,b2,_⟩:=a3 hk;have dp:=dn_P (s:=s) b1 b2 L.length (Nat.le_refl _);have:=dp.lo;have:=dp.lq;refine⟨by dsimp only;omega,?_⟩
      dsimp only;rw[ansR,if_neg hx,srt_len];omega
theorem Dens_ok:ConOk Tryz.prog 8 k_Dens:=by
 rintro⟨L,s⟩ ⟨hL,hs⟩;dsimp only at hL hs;have hn:=(den_ln s L).1;refine v_Dens L s (denA s L).r (denA s L).a (denA s L).n (denA s L).x ⟨fun h=> ?_,fun h=>⟨fun h1=> ?_,fun h1=>⟨L,⟨⟨⟨rfl,rowsR _ _⟩,trivial⟩,hL⟩,s,fun _=>⟨⟨⟨rfl,rfl,rfl,rfl,rfl,rfl,rfl,rfl,rfl,rfl,⟨rfl,rowsR _ _⟩,⟨rfl,rowsR _ _⟩,rfl,rfl,trivial⟩,trivial⟩,hs⟩,fun h2=> ?_,fun h2=>⟨(L,s),⟨⟨⟨rfl,rowsR _ _⟩,⟨rfl,rfl,rfl,rfl,rfl,rfl,rfl,rfl,rfl,rfl,⟨rfl,rowsR _ _⟩,⟨rfl,rowsR _ _⟩,rfl,rfl,trivial⟩,trivial⟩,?_,?_⟩,?_⟩⟩⟩⟩
 ·have h:=of_decide_eq_true h;have e:denA s L=⟨[],[],0,2⟩:=by rw[denA,if_pos (by omega)]
  rw[e];exact⟨rfl,⟨rfl,rfl,trivial⟩,rfl,trivial⟩
 ·have h:=of_decide_eq_false h;have h1:=of_decide_eq_true h1;have e:denA s L=⟨L,[],0,6⟩:=by rw[denA,if_neg (by omega),if_pos (by omega)]
  rw[e];exact⟨by unfold AppB;omega,⟨rfl,rowsR _ _⟩,⟨rfl,rfl,trivial⟩,rfl,trivial⟩
 ·have h:=of_decide_eq_false h;have h1:=of_decide_eq_false h1;have e:denA s L=⟨L,[],0,1⟩:=by rw[denA,if_neg (by omega),if_neg (by omega),if_pos h2]
  rw[e];exact⟨by unfold AppB;omega,⟨rfl,rowsR _ _⟩,⟨rfl,rfl,trivial⟩,rfl,trivial⟩
 ·have h1:=of_decide_eq_false h1;rw[Bool.or_eq_false_iff,Bool.not_eq_false',Bool.not_eq_false'] at h2;exact std_of h2.1 h2.2 (by dsimp only;omega)
 ·rw[Bool.or_eq_false_iff,Bool.not_eq_false',Bool.not_eq_false'] at h2;exact stm_K h2.2
 ·have h:=of_decide_eq_false h;have h1:=of_decide_eq_false h1;have e:denA s L=denR s L:=by rw[denA,if_neg (by omega),if_neg (by omega),if_neg (by rw[h2];exact Bool.false_ne_true)]
  rw[e] at hn ⊢;exact⟨by unfold AppB;dsimp only;omega,⟨rfl,rowsR _ _⟩,⟨⟨rfl,rowsR _ _⟩,rfl,trivial⟩,rfl,trivial⟩
noncomputable def k_DensE:Con:=.reff ⟨List Rw×Stm,fun x=>[.osl 0 0 x.1.length,.agg (x.2.tm 1)],fun x=>[rwsA x.1,ndA x.2.set,ndA x.2.whr],fun x=>.tup [rwS (denA x.2 x.1).r,.agg [rwS (denA x.2 x.1).a,.int .i64 (denA x.2 x.1).n],.int .i64 (denA x.2 x.1).x],fun _=>[none,none,none],fun x=>RwsB x.1/\StmB x.2⟩
theorem call_DensE:Callable Tryz.prog 8:=⟨_,Tryz.func8,by kernel_rfl,by kernel_rfl⟩
theorem eff_fz{f:FuncId}{args bargs:List T}{H H':Heap}{res:T}{ks:List Nat}{p:Option Prop}(h:PureFn Tryz.prog f bargs res)(hb:evFz (fun q=>some (res,some (matA q bargs))) H ks args=some (res,H',p))(hp:p.getD True):EffFn Tryz.prog f args H res H':=by
 intro E w vs hH hN ha;refine(fz_ok (inv0 hH hN) (cf:=fun q=>some (res,some (matA q bargs))) ?_ hb hp ha).mono ?_
 ·intro q r0 p0 hc hp0 E w vs h1 h2 h3;simp only[Option.some.injEq,Prod.mk.injEq] at hc;obtain⟨rfl,rfl⟩:=hc;exact h E w vs h1 h2 (matA_ok hp0 h3)
 ·rintro e w' ⟨v,E',rfl,hI,hs,hr⟩;exact⟨v,E',rfl,hI,hs.stp,hr⟩
theorem DensE_ok:ConOk Tryz.prog 8 k_DensE:=by
 rintro⟨L,s⟩ h;exact eff_fz (ks:=[0,1,2]) (Dens_ok (L,s) h) rfl ⟨⟨leZ _,leZ _,leZ _⟩,⟨rfl,rowsR _ _⟩,⟨rfl,rfl,rfl,rfl,rfl,rfl,rfl,rfl,rfl,rfl,⟨rfl,rowsR _ _⟩,⟨rfl,rowsR _ _⟩,rfl,rfl,trivial⟩,trivial⟩
noncomputable def b_LawD:Code:=Tryz.f4.body.getD .skip
theorem v_LawD(L:List Rw)(s:Stm)(h:
  ∃(x:(List Rw×Int)),(((EqL rwRow L x.fst)/\(1048576:Int)=x.snd/\True)/\Left x.snd/\Lim x.fst.length/\∀(i:Nat),i<x.fst.length->LmRw (x.fst.getD i default))/\(decide (rem x.snd (bulkL bulkRw x.fst)<(0:Int))
  =true->true=true)/\(decide (rem x.snd (bulkL bulkRw x.fst)<(0:Int))=false->∃(x_1:(Stm×Int)),(((s.k=x_1.fst.k/\s.ta=x_1.fst.ta/\s.row.id=x_1.fst.row.id/\s.row.n.k=x_1.fst.row.n.k/\s.row.n.n=
  x_1.fst.row.n.n/\s.row.n.t=x_1.fst.row.n.t/\s.row.name.k=x_1.fst.row.name.k/\s.row.name.n=x_1.fst.row.name.n/\s.row.name.t=x_1.fst.row.name.t/\s.c=x_1.fst.c/\(EqL ndRow s.set x_1.fst.set)/\(EqL ndRow s.whr
  x_1.fst.whr)/\s.ord=x_1.fst.ord/\s.down=x_1.fst.down/\True)/\rem x.snd (bulkL bulkRw x.fst)=x_1.snd/\True)/\Left x_1.snd/\LmStm x_1.fst)/\(decide (rem x_1.snd (bulkStm x_1.fst)<(0:Int))=true->true=true)/\
  (decide (rem x_1.snd (bulkStm x_1.fst)<(0:Int))=false->∃(x:(List Rw)),(((EqL rwRow L x)/\True)/\x.length<=1048576)/\∃(x_2:Stm),(((s.k=x_2.k/\s.ta=x_2.ta/\s.row.id=x_2.row.id/\s.row.n.k=x_2.row.n.k/\
  s.row.n.n=x_2.row.n.n/\s.row.n.t=x_2.row.n.t/\s.row.name.k=x_2.row.name.k/\s.row.name.n=x_2.row.name.n/\s.row.name.t=x_2.row.name.t/\s.c=x_2.c/\(EqL ndRow s.set x_2.set)/\(EqL ndRow s.whr x_2.whr)/\s.ord=
  x_2.ord/\s.down=x_2.down/\True)/\True)/\SmStm x_2)/\∃(x_3:(List Rw×Stm)),(((0=0/\x.length=x_3.fst.length)/\(x_2.k=x_3.snd.k/\x_2.ta=x_3.snd.ta/\x_2.row.id=x_3.snd.row.id/\x_2.row.n.k=x_3.snd.row.n.k/\
  x_2.row.n.n=x_3.snd.row.n.n/\x_2.row.n.t=x_3.snd.row.n.t/\x_2.row.name.k=x_3.snd.row.name.k/\x_2.row.name.n=x_3.snd.row.name.n/\x_2.row.name.t=x_3.snd.row.name.t/\x_2.c=x_3.snd.c/\(0=0/\x_2.set.length=
  x_3.snd.set.length)/\(0=0/\x_2.whr.length=x_3.snd.whr.length)/\x_2.ord=x_3.snd.ord/\x_2.down=x_3.snd.down/\True)/\True)/\((x.length=x_3.fst.length/\RowsEq (x.length) (rwRow x) (rwRow x_3.fst))/\(EqL ndRow
  x_2.set x_3.snd.set)/\(EqL ndRow x_2.whr x_3.snd.whr)/\True)/\RwsB x_3.fst/\StmB x_3.snd)/\∃(x:(List Rw)),(((EqL rwRow L x)/\True)/\x.length<=1048576)/\∃(x_4:Stm),(((s.k=x_4.k/\s.ta=x_4.ta/\s.row.id=
  x_4.row.id/\s.row.n.k=x_4.row.n.k/\s.row.n.n=x_4.row.n.n/\s.row.n.t=x_4.row.n.t/\s.row.name.k=x_4.row.name.k/\s.row.name.n=x_4.row.name.n/\s.row.name.t=x_4.row.name.t/\s.c=x_4.c/\(EqL ndRow s.set x_4.set)/\
  (EqL ndRow s.whr x_4.whr)/\s.ord=x_4.ord/\s.down=x_4.down/\True)/\True)/\SmStm x_4)/\∃(x_5:(List Rw×Stm)),((Le (0+x.length) (x.length)/\Le (0+x_4.set.length) x_4.set.length/\Le (0+x_4.whr.length)
  x_4.whr.length)/\((x.length=x_5.fst.length/\RowsEq (x.length) (rwRow x) (rwRow x_5.fst))/\(x_4.k=x_5.snd.k/\x_4.ta=x_5.snd.ta/\x_4.row.id=x_5.snd.row.id/\x_4.row.n.k=x_5.snd.row.n.k/\x_4.row.n.n=x_5.snd.row.n.n
  /\x_4.row.n.t=x_5.snd.row.n.t/\x_4.row.name.k=x_5.snd.row.name.k/\x_4.row.name.n=x_5.snd.row.name.n/\x_4.row.name.t=x_5.snd.row.name.t/\x_4.c=x_5.snd.c/\(EqL ndRow x_4.set x_5.snd.set)/\(EqL ndRow x_4.whr
  x_5.snd.whr)/\x_4.ord=x_5.snd.ord/\x_4.down=x_5.snd.down/\True)/\True)/\RwsB x_5.fst/\StmB x_5.snd)/\∃(x_6:(List Rw)),(Le (0+(denA x_5.snd x_5.fst).r.length) (denA x_5.snd x_5.fst).r.length/\((EqL rwRow (denA
  x_5.snd x_5.fst).r x_6)/\(EqL rwRow (denA x_3.snd x_3.fst).r x_6)/\True)/\x_6.length<=1048576)/\∃(x_7:(List Rw×Int)),(false=false->Le (0+(denA x_5.snd x_5.fst).a.length) (denA x_5.snd x_5.fst).a.length/\(((EqL
  rwRow (denA x_5.snd x_5.fst).a x_7.fst)/\(↑(denA x_5.snd x_5.fst).n:Int)=x_7.snd/\True)/\((EqL rwRow (denA x_3.snd x_3.fst).a x_7.fst)/\(↑(denA x_3.snd x_3.fst).n:Int)=x_7.snd/\True)/\True)/\x_7.fst.length<=
  1048576)/\((false||(denA x_5.snd x_5.fst).x !=(denA x_3.snd x_3.fst).x)=true->false=true)/\((false||(denA x_5.snd x_5.fst).x !=(denA x_3.snd x_3.fst).x)=false->∃(x_8:(List Rw)),(((EqL rwRow L x_8)/\True)/\
  x_8.length<=1048576)/\∃(x_9:(List Rw)),((Le (0+x.length) (x.length)/\Le (0+x_8.length) (x_8.length))/\((x.length=x_9.length/\RowsEq (x.length) (rwRow x) (rwRow x_9))/\(x_8.length=x_9.length/\RowsEq (x_8.length)
  (rwRow x_8) (rwRow x_9))/\True)/\x_9.length<=1048576)/\(false=true->false=true)/\(false=false->∃(x_10:Stm),(((s.k=x_10.k/\s.ta=x_10.ta/\s.row.id=x_10.row.id/\s.row.n.k=x_10.row.n.k/\s.row.n.n=
  x_10.row.n.n/\s.row.n.t=x_10.row.n.t/\s.row.name.k=x_10.row.name.k/\s.row.name.n=x_10.row.name.n/\s.row.name.t=x_10.row.name.t/\s.c=x_10.c/\(EqL ndRow s.set x_10.set)/\(EqL ndRow s.whr x_10.whr)/\s.ord=x_10.ord
  /\s.down=x_10.down/\True)/\True)/\SmStm x_10)/\∃(x_11:Stm),(((Le (0+x_4.set.length) x_4.set.length/\Le (0+x_4.whr.length) x_4.whr.length)/\Le (0+x_10.set.length) x_10.set.length/\Le (0+x_10.whr.length)
  x_10.whr.length)/\((x_4.k=x_11.k/\x_4.ta=x_11.ta/\x_4.row.id=x_11.row.id/\x_4.row.n.k=x_11.row.n.k/\x_4.row.n.n=x_11.row.n.n/\x_4.row.n.t=x_11.row.n.t/\x_4.row.name.k=x_11.row.name.k/\x_4.row.name.n=
  x_11.row.name.n/\x_4.row.name.t=x_11.row.name.t/\x_4.c=x_11.c/\(EqL ndRow x_4.set x_11.set)/\(EqL ndRow x_4.whr x_11.whr)/\x_4.ord=x_11.ord/\x_4.down=x_11.down/\True)/\(x_10.k=x_11.k/\x_10.ta=x_11.ta/\
  x_10.row.id=x_11.row.id/\x_10.row.n.k=x_11.row.n.k/\x_10.row.n.n=x_11.row.n.n/\x_10.row.n.t=x_11.row.n.t/\x_10.row.name.k=x_11.row.name.k/\x_10.row.name.n=x_11.row.name.n/\x_10.row.name.t=x_11.row.name.t/\
  x_10.c=x_11.c/\(EqL ndRow x_10.set x_11.set)/\(EqL ndRow x_10.whr x_11.whr)/\x_10.ord=x_11.ord/\x_10.down=x_11.down/\True)/\True)/\SmStm x_11)/\(false=true->false=true)/\(false=false->∃(x_12:(List Rw×
  Nat)),(((0=0/\x.length=x_12.fst.length)/\(1:Int)=(x_12.snd:Int)/\True)/\((x.length=x_12.fst.length/\RowsEq (x.length) (rwRow x) (rwRow x_12.fst))/\True)/\KBn x_12.fst.length x_12.snd 7)/\∃(x:(Stm×Nat)),
  (((x_4.k=x.fst.k/\x_4.ta=x.fst.ta/\x_4.row.id=x.fst.row.id/\x_4.row.n.k=x.fst.row.n.k/\x_4.row.n.n=x.fst.row.n.n/\x_4.row.n.t=x.fst.row.n.t/\x_4.row.name.k=x.fst.row.name.k/\x_4.row.name.n=x.fst.row.name.n/\
  x_4.row.name.t=x.fst.row.name.t/\x_4.c=x.fst.c/\(0=0/\x_4.set.length=x.fst.set.length)/\(0=0/\x_4.whr.length=x.fst.whr.length)/\x_4.ord=x.fst.ord/\x_4.down=x.fst.down/\True)/\(↑(x_12.snd+7*
  x_12.fst.length):Int)=(x.snd:Int)/\True)/\((EqL ndRow x_4.set x.fst.set)/\(EqL ndRow x_4.whr x.fst.whr)/\True)/\SmStm x.fst/\1<=x.snd/\x.snd<=100000000)/\∃(x_13:(List Rw)),(decide ((↑(x.snd+7*x.fst.set.length
  +7*x.fst.whr.length):Int)<(0:Int))=false->Le (0+(denA x_5.snd x_5.fst).r.length) (denA x_5.snd x_5.fst).r.length/\((EqL rwRow (denA x_5.snd x_5.fst).r x_13)/\(EqL rwRow (denA x_3.snd x_3.fst).r x_13)/\True)/\
  x_13.length<=1048576)/\∃(x_14:(List Rw×Int)),((decide ((↑(x.snd+7*x.fst.set.length+7*x.fst.whr.length):Int)<(0:Int))||false)=false->Le (0+(denA x_5.snd x_5.fst).a.length) (denA x_5.snd
  x_5.fst).a.length/\(((EqL rwRow (denA x_5.snd x_5.fst).a x_14.fst)/\(↑(denA x_5.snd x_5.fst).n:Int)=x_14.snd/\True)/\((EqL rwRow (denA x_3.snd x_3.fst).a x_14.fst)/\(↑(denA x_3.snd x_3.fst).n:Int)=x_14.snd/\True)/\
  True)/\x_14.fst.length<=1048576)/\((decide ((↑(x.snd+7*x.fst.set.length+7*x.fst.whr.length):Int)<(0:Int))||false||false||(denA x_5.snd x_5.fst).x !=(denA x_3.snd x_3.fst).x)=true->false=true)/\
  ((decide ((↑(x.snd+7*x.fst.set.length+7*x.fst.whr.length):Int)<(0:Int))||false||false||(denA x_5.snd x_5.fst).x !=(denA x_3.snd x_3.fst).x)=false->∃(x:(List Rw×Nat)),(((0=0/\(denA x_5.snd
  x_5.fst).r.length=x.fst.length)/\(1:Int)=(x.snd:Int)/\True)/\((EqL rwRow (denA x_5.snd x_5.fst).r x.fst)/\True)/\KBn x.fst.length x.snd 7)/\∃(x_15:(List Rw×Int×Nat)),((((0=0/\(denA x_5.snd x_5.fst).a.length
  =x_15.fst.length)/\(↑(denA x_5.snd x_5.fst).n:Int)=x_15.snd.fst/\True)/\(↑(x.snd+7*x.fst.length):Int)=(x_15.snd.snd:Int)/\True)/\((EqL rwRow (denA x_5.snd x_5.fst).a x_15.fst)/\True)/\KBn x_15.fst.length
  x_15.snd.snd 7)/\∃(x_16:(Nat×Nat)),(Le (0+(denA x_5.snd x_5.fst).r.length) (mkRwL x.fst.length x.snd).length/\(((denA x_5.snd x_5.fst).r.length=(mkRwL x_16.fst x_16.snd).length/\RowsEq (denA x_5.snd x_5.fst).r.length
  (rwRow (mkRwL x.fst.length x.snd)) (rwRow (mkRwL x_16.fst x_16.snd)))/\(1:Int)=(x_16.snd:Int)/\True)/\KBn x_16.fst x_16.snd 7)/\(decide ((↑(x_16.snd+7*x_16.fst):Int)<(0:Int))=true->false=true)/\(decide
  ((↑(x_16.snd+7*x_16.fst):Int)<(0:Int))=false->∃(x_17:(Nat×Int×Nat)),(Le (0+(denA x_5.snd x_5.fst).a.length) (mkRwL x_15.fst.length x_15.snd.snd).length/\((((denA x_5.snd x_5.fst).a.length=(mkRwL x_17.fst
  x_17.snd.snd).length/\RowsEq (denA x_5.snd x_5.fst).a.length (rwRow (mkRwL x_15.fst.length x_15.snd.snd)) (rwRow (mkRwL x_17.fst x_17.snd.snd)))/\(↑(denA x_5.snd x_5.fst).n:Int)=x_17.snd.fst/\True)/\(↑(x_16.snd+7*
  x_16.fst):Int)=(x_17.snd.snd:Int)/\True)/\KBn x_17.fst x_17.snd.snd 7)/\(decide ((↑(x_17.snd.snd+7*x_17.fst):Int)<(0:Int))=true->false=true)/\(decide ((↑(x_17.snd.snd+7*x_17.fst):Int)<(0:Int))=
  false->(((↑(x_17.snd.snd+7*x_17.fst):Int) !=(↑(x_15.snd.snd+7*x_15.fst.length):Int))=true->false=true)/\(((↑(x_17.snd.snd+7*x_17.fst):Int) !=(↑(x_15.snd.snd+7*x_15.fst.length):Int))=false->∃
  (x_18:(List Rw)),(((EqL rwRow L x_18)/\True)/\x_18.length<=1048576)/\∃(x_19:Stm),(((s.k=x_19.k/\s.ta=x_19.ta/\s.row.id=x_19.row.id/\s.row.n.k=x_19.row.n.k/\s.row.n.n=x_19.row.n.n/\s.row.n.t=x_19.row.n.t
  /\s.row.name.k=x_19.row.name.k/\s.row.name.n=x_19.row.name.n/\s.row.name.t=x_19.row.name.t/\s.c=x_19.c/\(EqL ndRow s.set x_19.set)/\(EqL ndRow s.whr x_19.whr)/\s.ord=x_19.ord/\s.down=x_19.down/\True)/\True)/\
  SmStm x_19)/\∃(x_20:(List Rw×Stm)),((Le (0+x_18.length) (x_18.length)/\Le (0+x_19.set.length) x_19.set.length/\Le (0+x_19.whr.length) x_19.whr.length)/\((x_18.length=x_20.fst.length/\RowsEq (x_18.length) (rwRow
  x_18) (rwRow x_20.fst))/\(x_19.k=x_20.snd.k/\x_19.ta=x_20.snd.ta/\x_19.row.id=x_20.snd.row.id/\x_19.row.n.k=x_20.snd.row.n.k/\x_19.row.n.n=x_20.snd.row.n.n/\x_19.row.n.t=x_20.snd.row.n.t/\x_19.row.name.k=
  x_20.snd.row.name.k/\x_19.row.name.n=x_20.snd.row.name.n/\x_19.row.name.t=x_20.snd.row.name.t/\x_19.c=x_20.snd.c/\(EqL ndRow x_19.set x_20.snd.set)/\(EqL ndRow x_19.whr x_20.snd.whr)/\x_19.ord=x_20.snd.ord/\
  x_19.down=x_20.snd.down/\True)/\True)/\RwsB x_20.fst/\StmB x_20.snd)/\∃(x_21:(List Rw)),(Le (0+(denA x_20.snd x_20.fst).r.length) (denA x_20.snd x_20.fst).r.length/\((EqL rwRow (denA x_20.snd x_20.fst).r x_21)/\(EqL
  rwRow (denA x_3.snd x_3.fst).r x_21)/\True)/\x_21.length<=1048576)/\∃(x_22:(List Rw×Int)),(false=false->Le (0+(denA x_20.snd x_20.fst).a.length) (denA x_20.snd x_20.fst).a.length/\(((EqL rwRow (denA x_20.snd
  x_20.fst).a x_22.fst)/\(↑(denA x_20.snd x_20.fst).n:Int)=x_22.snd/\True)/\((EqL rwRow (denA x_3.snd x_3.fst).a x_22.fst)/\(↑(denA x_3.snd x_3.fst).n:Int)=x_22.snd/\True)/\True)/\x_22.fst.length<=1048576)/\((false
  ||(denA x_20.snd x_20.fst).x !=(denA x_3.snd x_3.fst).x)=true->false=true)/\((false||(denA x_20.snd x_20.fst).x !=(denA x_3.snd x_3.fst).x)=false->∃(x_23:(Nat×Nat)),(Le (0+(denA x_5.snd x_5.fst).r.length)
  (mkRwL x.fst.length x.snd).length/\(((denA x_5.snd x_5.fst).r.length=(mkRwL x_23.fst x_23.snd).length/\RowsEq (denA x_5.snd x_5.fst).r.length (rwRow (mkRwL x.fst.length x.snd)) (rwRow (mkRwL x_23.fst x_23.snd)))/\(1:Int)=
  (x_23.snd:Int)/\True)/\KBn x_23.fst x_23.snd 7)/\(decide ((↑(x_23.snd+7*x_23.fst):Int)<(0:Int))=true->false=true)/\(decide ((↑(x_23.snd+7*x_23.fst):Int)<(0:Int))=false->∃(x:(Nat×Int×Nat)),
  (Le (0+(denA x_5.snd x_5.fst).a.length) (mkRwL x_15.fst.length x_15.snd.snd).length/\((((denA x_5.snd x_5.fst).a.length=(mkRwL x.fst x.snd.snd).length/\RowsEq (denA x_5.snd x_5.fst).a.length (rwRow (mkRwL x_15.fst.length
  x_15.snd.snd)) (rwRow (mkRwL x.fst x.snd.snd)))/\(↑(denA x_5.snd x_5.fst).n:Int)=x.snd.fst/\True)/\(↑(x_23.snd+7*x_23.fst):Int)=(x.snd.snd:Int)/\True)/\KBn x.fst x.snd.snd 7)/\(decide ((↑(x.snd.snd+7*x.fst):
  Int)<(0:Int))=true->false=true)/\(decide ((↑(x.snd.snd+7*x.fst):Int)<(0:Int))=false->(((↑(x.snd.snd+7*x.fst):Int) !=(↑(x_15.snd.snd+7*x_15.fst.length):Int))=true->false=true)/\
  (((↑(x.snd.snd+7*x.fst):Int) !=(↑(x_15.snd.snd+7*x_15.fst.length):Int))=false->true=true)))))))))))))):
  PureFn Tryz.prog 4 [rwS L,.agg s.ts] (.bool true):=
 vcR (code:=b_LawD) (gC szRwS_ok call_szRwS (gC szStm_ok call_szStm (gC moRwS_ok call_moRwS (gC moStm_ok call_moStm (gC DensE_ok call_DensE (gC Deni_ok call_Deni (gC eqRwS_ok call_eqRwS (gC eqAns_ok call_eqAns (gC eqStm_ok call_eqStm (gC markRwS_ok call_markRwS (gC markStm_ok call_markStm (gC markAns_ok call_markAns (gC heldRwS_ok call_heldRwS (gC heldAns_ok call_heldAns gN)))))))))))))) Tryz.func4 (by kernel_rfl) (by kernel_rfl) noAnn h (by kernel_rfl)
theorem bulk_len{α:Type}(f:α->Nat)(L:List α):L.length<=bulkL f L:=by
 have:=bulkTo_mono f L L.length (Nat.zero_le L.length);have h0:bulkTo f L L.length 0=L.length:=rfl;unfold bulkL;omega
theorem bulk_get{α:Type}(f:α->Nat)(L:List α)(d:α){i:Nat}(hi:i<L.length):f (L.getD i d)+L.length<=bulkL f L:=by
 have h1:=bulkTo_succ f L L.length d hi;have h2:=bulkTo_mono f L L.length (Nat.zero_le i);have h3:=bulkTo_mono f L L.length (show i+1<=L.length by omega)
 have h0:bulkTo f L L.length 0=L.length:=rfl;unfold bulkL;omega
theorem rw_bB{r:Rw}(h:bulkRw r<=1048576):RwB r:=by
 unfold bulkRw at h;exact⟨show r.n.t.length<1000000000000 by omega,show r.name.t.length<1000000000000 by omega⟩
theorem nd_bB{L:List Nd}(h:bulkL bulkNd L<=1048576):NdB L:=by
 refine⟨by have:=bulk_len bulkNd L;omega,fun i hi=> ?_⟩
 have:=bulk_get bulkNd L default hi;unfold bulkNd at this h;show(L.getD i default).v.t.length<1000000000000;omega
theorem lawD_pure(L:List Rw)(s:Stm)(hL:Lim L.length/\∀i,i<L.length->LmRw (L.getD i default))(hs:LmStm s):PureFn Tryz.prog 4 [rwS L,.agg s.ts] (.bool true):=by
 have l0:Left 1048576:=⟨by omega,by omega⟩
 refine v_LawD L s ⟨(L,1048576),⟨⟨⟨rfl,rowsR _ _⟩,rfl,trivial⟩,l0,hL⟩,fun _=>rfl,fun hq=> ?_⟩
 obtain⟨q1,l1⟩:=rem_add (b:=bulkStm s) (of_decide_eq_false hq) l0 rfl;have hb:=rem_big (of_decide_eq_false hq);dsimp only at hb q1 l1 ⊢;refine⟨(s,rem 1048576 (bulkL bulkRw L)),⟨⟨⟨rfl,rfl,rfl,rfl,rfl,rfl,rfl,rfl,rfl,rfl,⟨rfl,rowsR _ _⟩,⟨rfl,rowsR _ _⟩,rfl,rfl,trivial⟩,rfl,trivial⟩,l1,hs⟩,fun _=>rfl,fun hq2=> ?_⟩
 dsimp only at hq2;rw[q1] at hq2;have hb2:=rem_big (of_decide_eq_false hq2);have es:bulkStm s=bulkRw s.row+bulkL bulkNd s.set+bulkL bulkNd s.whr:=rfl;have hLn:L.length<=1048576:=by have:=bulk_len bulkRw L;omega
 have hRw:RwsB L:=⟨hLn,fun i hi=>rw_bB (by have:=bulk_get bulkRw L default hi;omega)⟩
 have hSt:StmB s:=⟨rw_bB (by omega),nd_bB (by omega),nd_bB (by omega)⟩
 have hSm:SmStm s:=⟨hSt.2.1.1,hSt.2.2.1⟩;obtain⟨hR,hA⟩:=den_ln s L;have hR':(denA s L).r.length<=1048576:=by omega
 have hA':(denA s L).a.length<=1048576:=by omega
 have hs1:=hSm.1;have hs2:=hSm.2;have k1:KBn L.length 1 7:=⟨hLn,Nat.le_refl _,by omega⟩
 have kr:KBn (denA s L).r.length 1 7:=⟨hR',Nat.le_refl _,by omega⟩
 have ka:KBn (denA s L).a.length (1+7*(denA s L).r.length) 7:=⟨hA',by omega,by omega⟩
 have hn:∀n:Nat,decide ((n:Int)<0)=false:=fun n=>decide_eq_false (by omega)
 have lm:∀n k,Le (0+n) (mkRwL n k).length:=fun n k=>by rw[show(mkRwL n k).length=n from mk_len _ _];exact leZ n
 have ml:∀n k,n=(mkRwL n k).length:=fun n k=>(mk_len _ _).symm
 have aL:((EqL rwRow L L)/\True)/\L.length<=1048576:=⟨⟨⟨rfl,rowsR _ _⟩,trivial⟩,hLn⟩;exact⟨L,aL,s,⟨⟨⟨rfl,rfl,rfl,rfl,rfl,rfl,rfl,rfl,rfl,rfl,⟨rfl,rowsR _ _⟩,⟨rfl,rowsR _ _⟩,rfl,rfl,trivial⟩,trivial⟩,hSm⟩,(L,s),⟨⟨⟨rfl,rfl⟩,⟨rfl,rfl,rfl,rfl,rfl,rfl,rfl,rfl,rfl,rfl,⟨rfl,rfl⟩,⟨rfl,rfl⟩,rfl,rfl,trivial⟩,trivial⟩,⟨⟨rfl,rowsR _ _⟩,⟨rfl,rowsR _ _⟩,⟨rfl,rowsR _ _⟩,trivial⟩,hRw,hSt⟩,L,aL,s,⟨⟨⟨rfl,rfl,rfl,rfl,rfl,rfl,rfl,rfl,rfl,rfl,⟨rfl,rowsR _ _⟩,⟨rfl,rowsR _ _⟩,rfl,rfl,trivial⟩,trivial⟩,hSm⟩,(L,s),⟨⟨leZ _,leZ _,leZ _⟩,⟨⟨rfl,rowsR _ _⟩,⟨rfl,rfl,rfl,rfl,rfl,rfl,rfl,rfl,rfl,rfl,⟨rfl,rowsR _ _⟩,⟨rfl,rowsR _ _⟩,rfl,rfl,trivial⟩,trivial⟩,hRw,hSt⟩,
  (denA s L).r,⟨leZ _,⟨⟨rfl,rowsR _ _⟩,⟨rfl,rowsR _ _⟩,trivial⟩,hR'⟩,((denA s L).a,((denA s L).n:Int)),fun _=>⟨leZ _,⟨⟨⟨rfl,rowsR _ _⟩,rfl,trivial⟩,⟨⟨rfl,rowsR _ _⟩,rfl,trivial⟩,trivial⟩,hA'⟩,fun he=>by simp at he,fun _=>
  ⟨L,aL,L,⟨⟨leZ _,leZ _⟩,⟨⟨rfl,rowsR _ _⟩,⟨rfl,rowsR _ _⟩,trivial⟩,hLn⟩,fun he=>he,fun _=>⟨s,⟨⟨⟨rfl,rfl,rfl,rfl,rfl,rfl,rfl,rfl,rfl,rfl,⟨rfl,rowsR _ _⟩,⟨rfl,rowsR _ _⟩,rfl,rfl,trivial⟩,trivial⟩,hSm⟩,s,⟨⟨⟨leZ _,leZ _⟩,leZ _,leZ _⟩,⟨⟨rfl,rfl,rfl,rfl,rfl,rfl,rfl,rfl,rfl,rfl,⟨rfl,rowsR _ _⟩,⟨rfl,rowsR _ _⟩,rfl,rfl,trivial⟩,⟨rfl,rfl,rfl,rfl,rfl,rfl,rfl,rfl,rfl,rfl,⟨rfl,rowsR _ _⟩,⟨rfl,rowsR _ _⟩,rfl,rfl,trivial⟩,trivial⟩,hSm⟩,fun he=>he,fun _=>
  ⟨(L,1),⟨⟨⟨rfl,rfl⟩,rfl,trivial⟩,⟨⟨rfl,rowsR _ _⟩,trivial⟩,k1⟩,(s,1+7*L.length),⟨⟨⟨rfl,rfl,rfl,rfl,rfl,rfl,rfl,rfl,rfl,rfl,⟨rfl,rfl⟩,⟨rfl,rfl⟩,rfl,rfl,trivial⟩,rfl,trivial⟩,⟨⟨rfl,rowsR _ _⟩,⟨rfl,rowsR _ _⟩,trivial⟩,hSm,by dsimp only;omega,by dsimp only;omega⟩,
  (denA s L).r,fun _=>⟨leZ _,⟨⟨rfl,rowsR _ _⟩,⟨rfl,rowsR _ _⟩,trivial⟩,hR'⟩,((denA s L).a,((denA s L).n:Int)),fun _=>⟨leZ _,⟨⟨⟨rfl,rowsR _ _⟩,rfl,trivial⟩,⟨⟨rfl,rowsR _ _⟩,rfl,trivial⟩,trivial⟩,hA'⟩,fun he=>by rw[hn] at he;simp at he,fun _=>
  ⟨((denA s L).r,1),⟨⟨⟨rfl,rfl⟩,rfl,trivial⟩,⟨⟨rfl,rowsR _ _⟩,trivial⟩,kr⟩,((denA s L).a,((denA s L).n:Int),1+7*(denA s L).r.length),⟨⟨⟨⟨rfl,rfl⟩,rfl,trivial⟩,rfl,trivial⟩,⟨⟨rfl,rowsR _ _⟩,trivial⟩,ka⟩,
  ((denA s L).r.length,1),⟨lm _ _,⟨⟨ml _ _,rowsR _ _⟩,rfl,trivial⟩,kr⟩,fun he=>by rw[hn] at he;simp at he,fun _=>⟨((denA s L).a.length,((denA s L).n:Int),1+7*(denA s L).r.length),⟨lm _ _,⟨⟨⟨ml _ _,rowsR _ _⟩,rfl,trivial⟩,rfl,trivial⟩,ka⟩,fun he=>by rw[hn] at he;simp at he,fun _=>⟨fun he=>by simp at he,fun _=>
  ⟨L,aL,s,⟨⟨⟨rfl,rfl,rfl,rfl,rfl,rfl,rfl,rfl,rfl,rfl,⟨rfl,rowsR _ _⟩,⟨rfl,rowsR _ _⟩,rfl,rfl,trivial⟩,trivial⟩,hSm⟩,(L,s),⟨⟨leZ _,leZ _,leZ _⟩,⟨⟨rfl,rowsR _ _⟩,⟨rfl,rfl,rfl,rfl,rfl,rfl,rfl,rfl,rfl,rfl,⟨rfl,rowsR _ _⟩,⟨rfl,rowsR _ _⟩,rfl,rfl,trivial⟩,trivial⟩,hRw,hSt⟩,(denA s L).r,⟨leZ _,⟨⟨rfl,rowsR _ _⟩,⟨rfl,rowsR _ _⟩,trivial⟩,hR'⟩,((denA s L).a,((denA s L).n:Int)),fun _=>⟨leZ _,⟨⟨⟨rfl,rowsR _ _⟩,rfl,trivial⟩,⟨⟨rfl,rowsR _ _⟩,rfl,trivial⟩,trivial⟩,hA'⟩,fun he=>by simp at he,fun _=>
  ⟨((denA s L).r.length,1),⟨lm _ _,⟨⟨ml _ _,rowsR _ _⟩,rfl,trivial⟩,kr⟩,fun he=>by rw[hn] at he;simp at he,fun _=>⟨((denA s L).a.length,((denA s L).n:Int),1+7*(denA s L).r.length),⟨lm _ _,⟨⟨⟨ml _ _,rowsR _ _⟩,rfl,trivial⟩,rfl,trivial⟩,ka⟩,fun he=>by rw[hn] at he;simp at he,fun _=>⟨fun he=>by simp at he,fun _=>rfl⟩⟩⟩⟩⟩⟩⟩⟩⟩⟩⟩
end Go.Proofs.YtfmngblmdghccaaGreat

