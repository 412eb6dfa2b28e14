/- A part of the proof. -/
import Derived.Test.YtokaojbaacnngaaGreatF0
namespace Go.Proofs.YtokaojbaacnngaaGreat
set_option maxRecDepth 100000
open Go.SS

theorem rem_neg{left:Int}{a b:Nat}(h:rem left a<0)(hab:a<=b):rem left b= -1:=by
 refine rem_lt ?_
 by_cases hq:(a:Int)<=left
 ·rw[rem_ge hq] at h;omega
 ·omega
theorem rem_add{left:Int}{a b c:Nat}(h:¬rem left a<0)(hl:Left left)(hc:c=a+b):rem (rem left a) b=rem left c/\Left (rem left a):=by
 by_cases hq:(a:Int)<=left
 ·rw[rem_ge hq] at h ⊢;obtain⟨h0,h1⟩:=hl;refine⟨?_,by constructor<;>omega⟩
  by_cases hr:(c:Int)<=left
  ·rw[rem_ge hr,rem_ge (by omega)]
   omega
  ·rw[rem_lt (by omega),rem_lt (by omega)]
 ·rw[rem_lt (by omega)] at h
  omega
def bulkD(d:Dsk):Nat:=bulkL lenS d.sec+bulkL bulkP d.cache+d.keep.length
def LmL{α:Type}(d:α)(f:α->Prop)(L:List α):Prop:=Lim L.length/\∀i,i<L.length->f (L.getD i d)
def LmD(d:Dsk):Prop:=LmL [] (fun s=>Lim s.length) d.sec/\LmL default LmP d.cache/\Lim d.keep.length
def SmD(d:Dsk):Prop:=d.sec.length<=1048576/\d.cache.length<=1048576/\d.keep.length<=1048576
def r_szDsk:Rl:=⟨Dsk×Int,fun x=>[.agg x.1.ts,.int .i64 x.2],fun x=>.int .i64 (rem x.2 (bulkD x.1)),fun x=>Left x.2/\LmD x.1⟩
def k_szDsk:Con:=.rel r_szDsk
noncomputable def b_szDsk:Code:=Tryz.f67.body.getD .skip
theorem call_szDsk:Callable Tryz.prog 67:=⟨_,Tryz.func67,by kernel_rfl,by kernel_rfl⟩
theorem v_szDsk(d:Dsk)(left:Int)(h:
  ∃(x:r_szStrS.ι),(((EqL strRow d.sec x.fst)/\left=x.snd/\True)/\Left x.snd/\Lim x.fst.length/\∀(i:Nat),i<x.fst.length->Lim (x.fst.getD i []).length)/\(decide (rem x.snd (bulkL lenS x.fst)<(0:Int))=true->
  (-1:Int)=rem left (bulkD d))/\(decide (rem x.snd (bulkL lenS x.fst)<(0:Int))=false->∃(x_1:r_szPendS.ι),(((EqL pendRow d.cache x_1.fst)/\rem x.snd (bulkL lenS x.fst)=x_1.snd/\True)/\Left x_1.snd/\Lim
  x_1.fst.length/\∀(i:Nat),i<x_1.fst.length->LmP (x_1.fst.getD i default))/\(decide (rem x_1.snd (bulkL bulkP x_1.fst)<(0:Int))=true->(-1:Int)=rem left (bulkD d))/\(decide (rem x_1.snd (bulkL bulkP x_1.fst)<(0
  :Int))=false->∃(x:r_szIntS.ι),(((EqL intRow d.keep x.fst)/\rem x_1.snd (bulkL bulkP x_1.fst)=x.snd/\True)/\Left x.snd/\Lim x.fst.length)/\(decide (rem x.snd x.fst.length<(0:Int))=true->(-1:Int)=rem left
  (bulkD d))/\(decide (rem x.snd x.fst.length<(0:Int))=false->rem x.snd x.fst.length=rem left (bulkD d))))):
  PureFn Tryz.prog 67 [.agg d.ts,.int .i64 left] (.int .i64 (rem left (bulkD d))):=
 vcR (code:=b_szDsk) (gC szStrS_ok call_szStrS (gC szPendS_ok call_szPendS (gC szIntS_ok call_szIntS gN))) Tryz.func67 (by kernel_rfl) (by kernel_rfl) noAnn h (by kernel_rfl)
theorem szDsk_ok:ConOk Tryz.prog 67 k_szDsk:=by
 rintro⟨d,left⟩ ⟨hl,h1,h2,h3⟩;simp only at hl h1 h2 h3;have e:bulkD d=bulkL lenS d.sec+bulkL bulkP d.cache+d.keep.length:=rfl;have e1:bulkL lenS d.sec<=bulkD d:=by omega
 have e2:bulkL lenS d.sec+bulkL bulkP d.cache<=bulkD d:=by omega
 refine v_szDsk d left ⟨(d.sec,left),⟨⟨⟨rfl,rowsR _ _⟩,rfl,trivial⟩,hl,h1⟩,fun h=>(rem_neg (of_decide_eq_true h) e1).symm,fun h=> ?_⟩
 obtain⟨q1,l1⟩:=rem_add (b:=bulkL bulkP d.cache) (of_decide_eq_false h) hl rfl;refine⟨(d.cache,rem left (bulkL lenS d.sec)),⟨⟨⟨rfl,rowsR _ _⟩,rfl,trivial⟩,l1,h2⟩,fun g=> ?_,fun g=> ?_⟩
 ·simp only at g;rw[q1] at g;exact(rem_neg (of_decide_eq_true g) e2).symm
 ·simp only at g ⊢;rw[q1] at g ⊢;obtain⟨q2,l2⟩:=rem_add (b:=d.keep.length) (of_decide_eq_false g) hl rfl;refine⟨(d.keep,rem left (bulkL lenS d.sec+bulkL bulkP d.cache)),⟨⟨⟨rfl,rowsR _ _⟩,rfl,trivial⟩,l2,h3⟩,fun f=> ?_,fun f=> ?_⟩
  ·simp only at f;rw[q2] at f;exact(rem_neg (of_decide_eq_true f) (Nat.le_refl _)).symm
  ·exact q2
def r_eqDsk:Rl:=⟨Dsk,fun d=>[.agg d.ts,.agg d.ts],fun _=>.bool true,SmD⟩
def k_eqDsk:Con:=.rel r_eqDsk
noncomputable def b_eqDsk:Code:=Tryz.f93.body.getD .skip
theorem call_eqDsk:Callable Tryz.prog 93:=⟨_,Tryz.func93,by kernel_rfl,by kernel_rfl⟩
theorem v_eqDsk(d:Dsk)(h:
  ∃(x:r_eqStrS.ι),(((d.sec.length=List.length x/\RowsEq d.sec.length (strRow d.sec) (strRow x))/\(d.sec.length=List.length x/\RowsEq d.sec.length (strRow d.sec) (strRow x))/\True)/\List.length x<=1048576)/\(false=
  true->false=true)/\(false=false->∃(x:r_eqPendS.ι),(((d.cache.length=List.length x/\RowsEq d.cache.length (pendRow d.cache) (pendRow x))/\(d.cache.length=List.length x/\RowsEq d.cache.length (pendRow d.cache)
  (pendRow x))/\True)/\List.length x<=1048576/\∀(i:Nat),i<List.length x->SmP (List.getD x i default))/\(false=true->false=true)/\(false=false->((!d.armed==d.armed)=true->false=true)/\((!d.armed==
  d.armed)=false->∃(x:r_eqIntS.ι),(((d.keep.length=List.length x/\RowsEq d.keep.length (intRow d.keep) (intRow x))/\(d.keep.length=List.length x/\RowsEq d.keep.length (intRow d.keep) (intRow x))/\True)/\List.length x
  <=1048576)/\(false=true->false=true)/\(false=false->true=true))))):
  PureFn Tryz.prog 93 [.agg d.ts,.agg d.ts] (.bool true):=
 vcR (code:=b_eqDsk) (gC eqStrS_ok call_eqStrS (gC eqPendS_ok call_eqPendS (gC eqIntS_ok call_eqIntS gN))) Tryz.func93 (by kernel_rfl) (by kernel_rfl) noAnn h (by kernel_rfl)
theorem eqDsk_ok:ConOk Tryz.prog 93 k_eqDsk:=by
 rintro(d:Dsk) ⟨h1,h2,h3⟩;exact v_eqDsk d ⟨d.sec,⟨⟨⟨rfl,rowsR _ _⟩,⟨rfl,rowsR _ _⟩,trivial⟩,h1⟩,fun h=>h,fun _=>⟨d.cache,⟨⟨⟨rfl,rowsR _ _⟩,⟨rfl,rowsR _ _⟩,trivial⟩,h2,fun _ _=>trivial⟩,fun h=>h,fun _=>⟨fun h=>by simp at h,fun _=>⟨d.keep,⟨⟨⟨rfl,rowsR _ _⟩,⟨rfl,rowsR _ _⟩,trivial⟩,h3⟩,fun h=>h,fun _=>rfl⟩⟩⟩⟩
def bulkG(p:Pg):Nat:=bulkL lenS p.sl
def LmG(p:Pg):Prop:=LmL [] (fun s=>Lim s.length) p.sl
def SmG(p:Pg):Prop:=p.sl.length<=1048576
def r_szPg:Rl:=⟨Pg×Int,fun x=>[.agg x.1.ts,.int .i64 x.2],fun x=>.int .i64 (rem x.2 (bulkG x.1)),fun x=>Left x.2/\LmG x.1⟩
def k_szPg:Con:=.rel r_szPg
noncomputable def b_szPg:Code:=Tryz.f199.body.getD .skip
theorem call_szPg:Callable Tryz.prog 199:=⟨_,Tryz.func199,by kernel_rfl,by kernel_rfl⟩
theorem v_szPg(p:Pg)(left:Int)(h:
  ∃(x:r_szStrS.ι),(((EqL strRow p.sl x.fst)/\left=x.snd/\True)/\Left x.snd/\Lim x.fst.length/\∀(i:Nat),i<x.fst.length->Lim (x.fst.getD i []).length)/\(decide (rem x.snd (bulkL lenS x.fst)<(0:Int))=true->(-1
  :Int)=rem left (bulkG p))/\(decide (rem x.snd (bulkL lenS x.fst)<(0:Int))=false->rem x.snd (bulkL lenS x.fst)=rem left (bulkG p))):
  PureFn Tryz.prog 199 [.agg p.ts,.int .i64 left] (.int .i64 (rem left (bulkG p))):=
 vcR (code:=b_szPg) (gC szStrS_ok call_szStrS gN) Tryz.func199 (by kernel_rfl) (by kernel_rfl) noAnn h (by kernel_rfl)
theorem szPg_ok:ConOk Tryz.prog 199 k_szPg:=by
 rintro⟨p,left⟩ ⟨hl,h1⟩;exact v_szPg p left ⟨(p.sl,left),⟨⟨⟨rfl,rowsR _ _⟩,rfl,trivial⟩,hl,h1⟩,fun h=>(rem_neg (of_decide_eq_true h) (Nat.le_refl _)).symm,fun _=>rfl⟩
def r_eqPg:Rl:=⟨Pg,fun p=>[.agg p.ts,.agg p.ts],fun _=>.bool true,SmG⟩
def k_eqPg:Con:=.rel r_eqPg
noncomputable def b_eqPg:Code:=Tryz.f228.body.getD .skip
theorem call_eqPg:Callable Tryz.prog 228:=⟨_,Tryz.func228,by kernel_rfl,by kernel_rfl⟩
theorem v_eqPg(p:Pg)(h:
  ((p.lsn !=p.lsn)=true->false=true)/\((p.lsn !=p.lsn)=false->∃(x:r_eqStrS.ι),(((p.sl.length=List.length x/\RowsEq p.sl.length (strRow p.sl) (strRow x))/\(p.sl.length=List.length x/\RowsEq p.sl.length (strRow
  p.sl) (strRow x))/\True)/\List.length x<=1048576)/\(false=true->false=true)/\(false=false->true=true))):
  PureFn Tryz.prog 228 [.agg p.ts,.agg p.ts] (.bool true):=
 vcR (code:=b_eqPg) (gC eqStrS_ok call_eqStrS gN) Tryz.func228 (by kernel_rfl) (by kernel_rfl) noAnn h (by kernel_rfl)
theorem eqPg_ok:ConOk Tryz.prog 228 k_eqPg:=fun(p:Pg) h1=>v_eqPg p ⟨fun h=>by simp at h,fun _=>⟨p.sl,⟨⟨⟨rfl,rowsR _ _⟩,⟨rfl,rowsR _ _⟩,trivial⟩,h1⟩,fun h=>h,fun _=>rfl⟩⟩
def bulkF(f:Frm):Nat:=bulkG f.pg
def LmF(f:Frm):Prop:=LmG f.pg
def SmF(f:Frm):Prop:=SmG f.pg
def r_szFrm:Rl:=⟨Frm×Int,fun x=>[.agg x.1.ts,.int .i64 x.2],fun x=>.int .i64 (rem x.2 (bulkF x.1)),fun x=>Left x.2/\LmF x.1⟩
def k_szFrm:Con:=.rel r_szFrm
noncomputable def b_szFrm:Code:=Tryz.f136.body.getD .skip
theorem call_szFrm:Callable Tryz.prog 136:=⟨_,Tryz.func136,by kernel_rfl,by kernel_rfl⟩
theorem v_szFrm(f:Frm)(left:Int)(h:
  ∃(x:r_szPg.ι),(((f.pg.lsn=x.fst.lsn/\(EqL strRow f.pg.sl x.fst.sl)/\True)/\left=x.snd/\True)/\Left x.snd/\LmG x.fst)/\(decide (rem x.snd (bulkG x.fst)<(0:Int))=true->(-1:Int)=rem left (bulkF f))/\(decide
  (rem x.snd (bulkG x.fst)<(0:Int))=false->rem x.snd (bulkG x.fst)=rem left (bulkF f))):
  PureFn Tryz.prog 136 [.agg f.ts,.int .i64 left] (.int .i64 (rem left (bulkF f))):=
 vcR (code:=b_szFrm) (gC szPg_ok call_szPg gN) Tryz.func136 (by kernel_rfl) (by kernel_rfl) noAnn h (by kernel_rfl)
theorem szFrm_ok:ConOk Tryz.prog 136 k_szFrm:=by
 rintro⟨f,left⟩ ⟨hl,h1⟩;exact v_szFrm f left ⟨(f.pg,left),⟨⟨⟨rfl,⟨rfl,rowsR _ _⟩,trivial⟩,rfl,trivial⟩,hl,h1⟩,fun h=>(rem_neg (of_decide_eq_true h) (Nat.le_refl _)).symm,fun _=>rfl⟩
def r_eqFrm:Rl:=⟨Frm,fun f=>[.agg f.ts,.agg f.ts],fun _=>.bool true,SmF⟩
def k_eqFrm:Con:=.rel r_eqFrm
noncomputable def b_eqFrm:Code:=Tryz.f170.body.getD .skip
theorem call_eqFrm:Callable Tryz.prog 170:=⟨_,Tryz.func170,by kernel_rfl,by kernel_rfl⟩
theorem v_eqFrm(f:Frm)(h:
  ((f.no !=f.no)=true->false=true)/\((f.no !=f.no)=false->∃(x:r_eqPg.ι),(((f.pg.lsn=x.lsn/\(EqL strRow f.pg.sl x.sl)/\True)/\(f.pg.lsn=x.lsn/\(EqL strRow f.pg.sl x.sl)/\True)/\True)/\SmG x)/\(false=true
  ->false=true)/\(false=false->((!f.dirty==f.dirty)=true->false=true)/\((!f.dirty==f.dirty)=false->((f.first !=f.first)=true->false=true)/\((f.first !=f.first)=false->true=true))))):
  PureFn Tryz.prog 170 [.agg f.ts,.agg f.ts] (.bool true):=
 vcR (code:=b_eqFrm) (gC eqPg_ok call_eqPg gN) Tryz.func170 (by kernel_rfl) (by kernel_rfl) noAnn h (by kernel_rfl)
theorem eqFrm_ok:ConOk Tryz.prog 170 k_eqFrm:=fun(f:Frm) h1=>v_eqFrm f ⟨fun h=>by simp at h,fun _=>⟨f.pg,⟨⟨⟨rfl,⟨rfl,rowsR _ _⟩,trivial⟩,⟨rfl,⟨rfl,rowsR _ _⟩,trivial⟩,trivial⟩,h1⟩,fun h=>h,fun _=>⟨fun h=>by simp at h,fun _=>⟨fun h=>by simp at h,fun _=>rfl⟩⟩⟩⟩
end Go.Proofs.YtokaojbaacnngaaGreat

namespace Go.Proofs.YtokaojbaacnngaaGreat
set_option maxRecDepth 100000
open Go.SS

def r_szFrmS:Rl:=⟨List Frm×Int,fun x=>[frmS x.1,.int .i64 x.2],fun x=>.int .i64 (rem x.2 (bulkL bulkF x.1)),fun x=>Left x.2/\Lim x.1.length/\∀i,i<x.1.length->LmF (x.1.getD i default)⟩
def k_szFrmS:Con:=.rel r_szFrmS
def A_szFrmS(L:List Frm)(left:Int):Nat->Ann
 |0=>.one {i:Nat//i<=L.length/\(bulkTo bulkF L L.length i:Int)<=left} (fun x=>⟨[(0,frmS L),(1,.int .i64 (left-bulkTo bulkF L L.length x.1)),(5,.int .i64 x.1)],[]⟩) (fun x=>L.length-x.1) [] [] (fun _=>noAnn)
 |_=>.none
noncomputable def b_szFrmS:Code:=Tryz.f69.body.getD .skip
theorem call_szFrmS:Callable Tryz.prog 69:=⟨_,Tryz.func69,by kernel_rfl,by kernel_rfl⟩
theorem v_szFrmS(L:List Frm)(left:Int)(h:
  Rng .i64 (left- (L.length:Int))/\(decide (left- (L.length:Int)<(0:Int))=true->(-1:Int)=rem left (bulkL bulkF L))/\(decide (left- (L.length:Int)<(0:Int))=false->(∃(x:{i:Nat//i<=L.length/\(↑(bulkTo
  bulkF L L.length i):Int)<=left}),((EqL frmRow L L)/\left- (L.length:Int)=left- (↑(bulkTo bulkF L L.length x.val):Int)/\(0:Int)=(x.val:Int)/\True)/\True)/\∀(x:{i:Nat//i<=L.length/\(↑(bulkTo bulkF L
  L.length i):Int)<=left}),(decide ((x.val:Int)<(L.length:Int))=true->InB (x.val:Int) L.length/\∃(x_1:r_szFrm.ι),((((L.getD (x.val:Int).toNat default).no=x_1.fst.no/\(L.getD (x.val:Int).toNat default).pg.lsn=
  x_1.fst.pg.lsn/\(EqL strRow (L.getD (x.val:Int).toNat default).pg.sl x_1.fst.pg.sl)/\(L.getD (x.val:Int).toNat default).dirty=x_1.fst.dirty/\(L.getD (x.val:Int).toNat default).first=x_1.fst.first/\True)/\left- (↑(bulkTo
  bulkF L L.length x.val):Int)=x_1.snd/\True)/\Left x_1.snd/\LmF x_1.fst)/\(decide (rem x_1.snd (bulkF x_1.fst)<(0:Int))=true->(-1:Int)=rem left (bulkL bulkF L))/\(decide (rem x_1.snd (bulkF x_1.fst)<(0:Int))
  =false->Rng .i64 ((x.val:Int)+(1:Int))/\∃(y:{i:Nat//i<=L.length/\(↑(bulkTo bulkF L L.length i):Int)<=left}),(((EqL frmRow L L)/\rem x_1.snd (bulkF x_1.fst)=left- (↑(bulkTo bulkF L L.length y.val):Int)/\
  (x.val:Int)+(1:Int)=(y.val:Int)/\True)/\True)/\Lt (L.length-y.val) (L.length-x.val)))/\(decide ((x.val:Int)<(L.length:Int))=false->left- (↑(bulkTo bulkF L L.length x.val):Int)=rem left (bulkL bulkF L)))):
  PureFn Tryz.prog 69 [frmS L,.int .i64 left] (.int .i64 (rem left (bulkL bulkF L))):=
 vcR (code:=b_szFrmS) (gC szFrm_ok call_szFrm gN) Tryz.func69 (by kernel_rfl) (by kernel_rfl) (A_szFrmS L left) h (by kernel_rfl)
theorem szFrmS_ok:ConOk Tryz.prog 69 k_szFrmS:=by
 rintro⟨L,left⟩ ⟨⟨h0,h1⟩,hn,hb⟩;have hn:L.length<=9223372036854775807:=hn;simp only at h0 h1 hb;have hm:∀i,i<=L.length->bulkTo bulkF L L.length i<=bulkL bulkF L:=fun i hi=>bulkTo_mono _ _ _ hi
 have hz:bulkTo bulkF L L.length 0=L.length:=rfl;refine v_szFrmS L left ?_
 simp only[rng_i64,decide_eq_true_eq,decide_eq_false_iff_not];refine⟨by omega,fun h=>(rem_lt (by have:=hm 0 (Nat.zero_le _);omega)).symm,fun h=>⟨⟨⟨0,Nat.zero_le _,by omega⟩,⟨⟨(by trivial),rowsR _ _⟩,by simp only[hz],rfl,trivial⟩,trivial⟩,fun x=>⟨fun hc=> ?_,fun hc=> ?_⟩⟩⟩
 ·have hlt:x.val<L.length:=by omega
  have hx:=x.2;have hs:=bulkTo_succ bulkF L L.length default hlt;have hle:=hm (x.val+1) hlt;have hbr:=hb _ hlt;refine⟨inB_nat hlt,(L.getD x.val default,left- (bulkTo bulkF L L.length x.val:Int)),⟨⟨⟨rfl,rfl,⟨rfl,rowsR _ _⟩,rfl,rfl,trivial⟩,rfl,trivial⟩,⟨by simp only;omega,by simp only;omega⟩,hbr⟩,fun hr=> ?_,fun hr=>⟨by omega,⟨x.val+1,hlt,?_⟩,⟨⟨⟨(by trivial),rowsR _ _⟩,?_,by simp only;omega,trivial⟩,trivial⟩,Cnt.ext_lt hlt⟩⟩
  ·simp only at hr;by_cases hq:(bulkF (L.getD x.val default):Int)<=left- (bulkTo bulkF L L.length x.val:Int)
   ·rw[rem_ge hq] at hr;omega
   ·exact(rem_lt (by omega)).symm
  ·simp only at hr;by_cases hq:(bulkF (L.getD x.val default):Int)<=left- (bulkTo bulkF L L.length x.val:Int)
   ·omega
   ·rw[rem_lt (by omega)] at hr
    omega
  ·simp only at hr ⊢;by_cases hq:(bulkF (L.getD x.val default):Int)<=left- (bulkTo bulkF L L.length x.val:Int)
   ·rw[rem_ge hq];omega
   ·rw[rem_lt (by omega)] at hr
    omega
 ·have hx:=x.2;have he:x.val=L.length:=by omega
  rw[he] at hx ⊢;exact(rem_ge hx.2).symm
def r_eqFrmS:Rl:=⟨List Frm,fun L=>[frmS L,frmS L],fun _=>.bool true,fun L=>L.length<=1048576/\∀i,i<L.length->SmF (L.getD i default)⟩
def k_eqFrmS:Con:=.rel r_eqFrmS
def A_eqFrmS(L:List Frm):Nat->Ann
 |0=>.one {i:Nat//i<=L.length} (fun x=>⟨[(0,frmS L),(1,frmS L),(5,.int .i64 x.1)],[]⟩) (fun x=>L.length-x.1) [] [] (fun _=>noAnn)
 |_=>.none
noncomputable def b_eqFrmS:Code:=Tryz.f95.body.getD .skip
theorem call_eqFrmS:Callable Tryz.prog 95:=⟨_,Tryz.func95,by kernel_rfl,by kernel_rfl⟩
theorem v_eqFrmS(L:List Frm)(h:
  (((L.length:Int) !=(L.length:Int))=true->false=true)/\(((L.length:Int) !=(L.length:Int))=false->(∃(x:{i:Nat//i<=L.length}),((EqL frmRow L L)/\(EqL frmRow L L)/\(0:Int)=(x.val:Int)/\True)/\True)/\∀(x
  :{i:Nat//i<=L.length}),(decide ((x.val:Int)<(L.length:Int))=true->InB (x.val:Int) L.length/\InB (x.val:Int) L.length/\∃(x_1:r_eqFrm.ι),((((L.getD (x.val:Int).toNat default).no=x_1.no/\(L.getD
  (x.val:Int).toNat default).pg.lsn=x_1.pg.lsn/\(EqL strRow (L.getD (x.val:Int).toNat default).pg.sl x_1.pg.sl)/\(L.getD (x.val:Int).toNat default).dirty=x_1.dirty/\(L.getD (x.val:Int).toNat default).first=x_1.first/\True)
  /\((L.getD (x.val:Int).toNat default).no=x_1.no/\(L.getD (x.val:Int).toNat default).pg.lsn=x_1.pg.lsn/\(EqL strRow (L.getD (x.val:Int).toNat default).pg.sl x_1.pg.sl)/\(L.getD (x.val:Int).toNat default).dirty=x_1.dirty/\
  (L.getD (x.val:Int).toNat default).first=x_1.first/\True)/\True)/\SmF x_1)/\(false=true->false=true)/\(false=false->Rng .i64 ((x.val:Int)+(1:Int))/\∃(y:{i:Nat//i<=L.length}),(((EqL frmRow L L)/\(EqL
  frmRow L L)/\(x.val:Int)+(1:Int)=(y.val:Int)/\True)/\True)/\Lt (L.length-y.val) (L.length-x.val)))/\(decide ((x.val:Int)<(L.length:Int))=false->true=true))):
  PureFn Tryz.prog 95 [frmS L,frmS L] (.bool true):=
 vcR (code:=b_eqFrmS) (gC eqFrm_ok call_eqFrm gN) Tryz.func95 (by kernel_rfl) (by kernel_rfl) (A_eqFrmS L) h (by kernel_rfl)
theorem eqFrmS_ok:ConOk Tryz.prog 95 k_eqFrmS:=by
 rintro(L:List Frm) ⟨hL,hb⟩;refine v_eqFrmS L ⟨fun h=>by simp at h,fun _=>⟨⟨⟨0,Nat.zero_le _⟩,⟨⟨(by trivial),rowsR _ _⟩,⟨(by trivial),rowsR _ _⟩,rfl,trivial⟩,trivial⟩,fun x=>⟨fun hc=> ?_,fun _=>rfl⟩⟩⟩
 have hlt:=lt_of_dec hc;exact⟨inB_nat hlt,inB_nat hlt,L.getD x.val default,⟨⟨⟨rfl,rfl,⟨rfl,rowsR _ _⟩,rfl,rfl,trivial⟩,⟨rfl,rfl,⟨rfl,rowsR _ _⟩,rfl,rfl,trivial⟩,trivial⟩,hb _ hlt⟩,fun h=>h,fun _=>⟨add_rng hlt (by omega),⟨x.val+1,hlt⟩,⟨⟨⟨(by trivial),rowsR _ _⟩,⟨(by trivial),rowsR _ _⟩,by simp only;omega,trivial⟩,trivial⟩,Cnt.ext_lt hlt⟩⟩
def bulkS(s:Sto):Nat:=bulkD s.d+bulkL bulkR s.log+bulkL bulkF s.fr
def LmS(s:Sto):Prop:=LmD s.d/\(Lim s.log.length/\∀r ∈ s.log,RecB r)/\LmL default LmF s.fr
def SmS(s:Sto):Prop:=SmD s.d/\s.log.length<=1048576/\s.fr.length<=1048576/\∀i,i<s.fr.length->SmF (s.fr.getD i default)
def r_szSto:Rl:=⟨Sto×Int,fun x=>[.agg x.1.ts,.int .i64 x.2],fun x=>.int .i64 (rem x.2 (bulkS x.1)),fun x=>Left x.2/\LmS x.1⟩
def k_szSto:Con:=.rel r_szSto
noncomputable def b_szSto:Code:=Tryz.f32.body.getD .skip
theorem call_szSto:Callable Tryz.prog 32:=⟨_,Tryz.func32,by kernel_rfl,by kernel_rfl⟩
theorem v_szSto(s:Sto)(left:Int)(h:
  ∃(x:r_szDsk.ι),(((EqD s.d x.fst)/\left=x.snd/\True)/\Left x.snd/\LmD x.fst)/\(decide (rem x.snd (bulkD x.fst)<(0:Int))=true->(-1:Int)=rem left (bulkS s))/\(decide (rem x.snd (bulkD x.fst)<(0:Int))=
  false->∃(x_1:r_szRecS.ι),(((EqL recRow s.log x_1.fst)/\rem x.snd (bulkD x.fst)=x_1.snd/\True)/\Left x_1.snd/\x_1.fst.length<=9223372036854775807/\∀(r:Rec),r ∈ x_1.fst->RecB r)/\(decide (rem x_1.snd (bulkL bulkR
  x_1.fst)<(0:Int))=true->(-1:Int)=rem left (bulkS s))/\(decide (rem x_1.snd (bulkL bulkR x_1.fst)<(0:Int))=false->∃(x:r_szFrmS.ι),(((EqL frmRow s.fr x.fst)/\rem x_1.snd (bulkL bulkR x_1.fst)=x.snd/\True)
  /\Left x.snd/\Lim x.fst.length/\∀(i:Nat),i<x.fst.length->LmF (x.fst.getD i default))/\(decide (rem x.snd (bulkL bulkF x.fst)<(0:Int))=true->(-1:Int)=rem left (bulkS s))/\(decide (rem x.snd (bulkL bulkF x.fst)
  <(0:Int))=false->rem x.snd (bulkL bulkF x.fst)=rem left (bulkS s))))):
  PureFn Tryz.prog 32 [.agg s.ts,.int .i64 left] (.int .i64 (rem left (bulkS s))):=
 vcR (code:=b_szSto) (gC szDsk_ok call_szDsk (gC szRecS_ok call_szRecS (gC szFrmS_ok call_szFrmS gN))) Tryz.func32 (by kernel_rfl) (by kernel_rfl) noAnn h (by kernel_rfl)
theorem szSto_ok:ConOk Tryz.prog 32 k_szSto:=by
 rintro⟨s,left⟩ ⟨hl,h1,h2,h3⟩;simp only at hl h1 h2 h3;have e:bulkS s=bulkD s.d+bulkL bulkR s.log+bulkL bulkF s.fr:=rfl;have e1:bulkD s.d<=bulkS s:=by omega
 have e2:bulkD s.d+bulkL bulkR s.log<=bulkS s:=by omega
 refine v_szSto s left ⟨(s.d,left),⟨⟨(eqD _),rfl,trivial⟩,hl,h1⟩,fun h=>(rem_neg (of_decide_eq_true h) e1).symm,fun h=> ?_⟩
 obtain⟨q1,l1⟩:=rem_add (b:=bulkL bulkR s.log) (of_decide_eq_false h) hl rfl;refine⟨(s.log,rem left (bulkD s.d)),⟨⟨⟨rfl,rowsR _ _⟩,rfl,trivial⟩,l1,h2⟩,fun g=> ?_,fun g=> ?_⟩
 ·simp only at g;rw[q1] at g;exact(rem_neg (of_decide_eq_true g) e2).symm
 ·simp only at g ⊢;rw[q1] at g ⊢;obtain⟨q2,l2⟩:=rem_add (b:=bulkL bulkF s.fr) (of_decide_eq_false g) hl rfl;refine⟨(s.fr,rem left (bulkD s.d+bulkL bulkR s.log)),⟨⟨⟨rfl,rowsR _ _⟩,rfl,trivial⟩,l2,h3⟩,fun f=> ?_,fun f=> ?_⟩
  ·simp only at f;rw[q2] at f;exact(rem_neg (of_decide_eq_true f) (Nat.le_refl _)).symm
  ·exact q2
def r_eqSto:Rl:=⟨Sto,fun s=>[.agg s.ts,.agg s.ts],fun _=>.bool true,SmS⟩
def k_eqSto:Con:=.rel r_eqSto
noncomputable def b_eqSto:Code:=Tryz.f44.body.getD .skip
theorem call_eqSto:Callable Tryz.prog 44:=⟨_,Tryz.func44,by kernel_rfl,by kernel_rfl⟩
theorem v_eqSto(s:Sto)(h:
  ∃(x:r_eqDsk.ι),(((EqD s.d x)/\(EqD s.d x)/\True)/\SmD x)/\(false=true->false=true)/\(false=false->((s.ep !=s.ep)=true->false=true)/\((s.ep !=s.ep)=false->∃(x:r_eqRecS.ι),(((s.log.length=
  List.length x/\RowsEq s.log.length (recRow s.log) (recRow x))/\(s.log.length=List.length x/\RowsEq s.log.length (recRow s.log) (recRow x))/\True)/\List.length x<=1048576)/\(false=true->false=true)/\(false=false->
  ((s.sure !=s.sure)=true->false=true)/\((s.sure !=s.sure)=false->∃(x:r_eqFrmS.ι),(((s.fr.length=List.length x/\RowsEq s.fr.length (frmRow s.fr) (frmRow x))/\(s.fr.length=List.length x/\RowsEq s.fr.length
  (frmRow s.fr) (frmRow x))/\True)/\List.length x<=1048576/\∀(i:Nat),i<List.length x->SmF (List.getD x i default))/\(false=true->false=true)/\(false=false->((s.hand !=s.hand)=true->false=true)/\((s.hand
  !=s.hand)=false->true=true))))))):
  PureFn Tryz.prog 44 [.agg s.ts,.agg s.ts] (.bool true):=
 vcR (code:=b_eqSto) (gC eqDsk_ok call_eqDsk (gC eqRecS_ok call_eqRecS (gC eqFrmS_ok call_eqFrmS gN))) Tryz.func44 (by kernel_rfl) (by kernel_rfl) noAnn h (by kernel_rfl)
end Go.Proofs.YtokaojbaacnngaaGreat

