/- A part of the proof. -/
import Derived.Test.YtokaojbaacnngaaGreatE6
namespace Go.Proofs.YtokaojbaacnngaaGreat
set_option maxRecDepth 100000
open Go.SS

structure Frm where
 no:Int
 pg:Pg
 dirty:Bool
 first:Int
 deriving Inhabited
def Frm.ts(f:Frm):List T:=[.int .i64 f.no,.int .i64 f.pg.lsn,strS f.pg.sl,.bool f.dirty,.int .i64 f.first]
structure Sto where
 d:Dsk
 ep:Int
 log:List Rec
 sure:Int
 fr:List Frm
 hand:Int
 deriving Inhabited
def frmRow(L:List Frm)(i:Nat):List T:=(L.getD i default).ts
def frmS(L:List Frm):T:=.sl 5 L.length (frmRow L)
def Sto.ts(s:Sto):List T:=[strS s.d.sec,pendS s.d.cache,.bool s.d.armed,intS s.d.keep,.int .i64 s.ep,recS s.log,.int .i64 s.sure,frmS s.fr,.int .i64 s.hand]
abbrev EqS(a b:Sto):Prop:=(a.d.sec.length=b.d.sec.length/\RowsEq a.d.sec.length (strRow a.d.sec) (strRow b.d.sec))/\(a.d.cache.length=b.d.cache.length/\RowsEq a.d.cache.length (pendRow a.d.cache) (pendRow b.d.cache))/\a.d.armed=b.d.armed/\(a.d.keep.length=b.d.keep.length/\RowsEq a.d.keep.length (intRow a.d.keep) (intRow b.d.keep))/\a.ep=b.ep/\(a.log.length=b.log.length/\RowsEq a.log.length (recRow a.log) (recRow b.log))/\a.sure=b.sure/\(a.fr.length=b.fr.length/\RowsEq a.fr.length (frmRow a.fr) (frmRow b.fr))/\a.hand=b.hand/\True
theorem eqS(s:Sto):EqS s s:=⟨⟨rfl,rowsR _ _⟩,⟨rfl,rowsR _ _⟩,rfl,⟨rfl,rowsR _ _⟩,rfl,⟨rfl,rowsR _ _⟩,rfl,⟨rfl,rowsR _ _⟩,rfl,trivial⟩
def stoBox(s:Sto):Option Ob:=some (.arr true 1000000 9 1 fun _=>s.ts)
noncomputable def pgAt(d:Dsk)(no:Nat):Pg×Bool:=if rdAt d (1+no)=[] then(⟨0,[[],[],[],[]]⟩,true) else rdPg no (rdAt d (1+no))
noncomputable def pgAtI(d:Dsk)(no:Nat):Pg×Bool:=if rdAt d (1+no)=[] then(⟨0,[[],[],[],[]]⟩,true) else(rdPgI no (rdAt d (1+no)),(rdPg no (rdAt d (1+no))).2)
theorem pgAtI_eq(d:Dsk)(no:Nat):(pgAtI d no).2=(pgAt d no).2/\((pgAt d no).2=true->pgAtI d no=pgAt d no):=by
 unfold pgAtI pgAt;by_cases h:rdAt d (1+no)=[]
 ·rw[if_pos h,if_pos h];exact⟨rfl,fun _=>rfl⟩
 ·rw[if_neg h,if_neg h];refine⟨rfl,fun h2=> ?_⟩
  unfold rdPgI;rw[if_pos h2]
def PgSide(x:Dsk×Nat):Prop:=DskP x.1/\1+x.2<x.1.sec.length
theorem rdAt_le{d:Dsk}(h:DskP d){at_:Nat}(ha:at_<d.sec.length):(rdAt d at_).length<=160:=by
 obtain⟨_,_,_,_,_,h1,h2⟩:=h;have key:∀n,n<=d.cache.length->∀l,lastAt d.cache at_ n=some l->l.length<=160:=by
  intro n;induction n with
  |zero=>intro _ l hl;cases hl
  |succ n ih=>
   intro hn l hl;unfold lastAt at hl;split at hl
   ·simp only[Option.some.injEq] at hl;subst hl;have:=h2 n (by omega)
    unfold badPend at this;simp only[Bool.or_eq_false_iff,decide_eq_false_iff_not] at this;omega
   ·exact ih (by omega) l hl
 unfold rdAt;cases hl:lastAt d.cache at_ d.cache.length with
 |none=>exact h1 at_ ha
 |some l=>exact key _ (Nat.le_refl _) l hl
noncomputable def r_diskPage:Rl:=⟨Sto×Nat,fun x=>[.bref x.1.ts,.int .i64 x.2],fun x=>.tup [.agg (pgAtI x.1.d x.2).1.ts,.bool (pgAtI x.1.d x.2).2],fun x=>PgSide (x.1.d,x.2)⟩
noncomputable def k_diskPage:Con:=.rel r_diskPage
noncomputable def b_diskPage:Code:=Tryz.f153.body.getD .skip
theorem call_diskPage:Callable Tryz.prog 153:=⟨_,Tryz.func153,by kernel_rfl,by kernel_rfl⟩
theorem v_diskPage(s:Sto)(no:Nat)(h:
  Rng .i64 ((1:Int)+(no:Int))/\∃(x:r_read.ι),(((EqD s.d x.fst)/\(1:Int)+(no:Int)=(x.snd:Int)/\True)/\AtB x)/\((rdAt x.fst x.snd==[])=true->∃(x:r_NewPage.ι),(True/\True)/\((0:Int)=(pgAtI s.d
  no).fst.lsn/\(4=(pgAtI s.d no).fst.sl.length/\RowsEq 4 (strRow [[],[],[],[]]) (strRow (pgAtI s.d no).fst.sl))/\True)/\true=(pgAtI s.d no).snd/\True)/\((rdAt x.fst x.snd==[])=false->Lt (rdAt x.fst x.snd).length
  140737488355329/\∃(x_1:r_ReadPage.ι),(((no:Int)=x_1.fst/\rdAt x.fst x.snd=x_1.snd/\True)/\RdB x_1.snd)/\((rdPgI x_1.fst x_1.snd).lsn=(pgAtI s.d no).fst.lsn/\(EqL strRow (rdPgI x_1.fst x_1.snd).sl (pgAtI s.d
  no).fst.sl)/\True)/\(rdCode x_1.fst x_1.snd==(0:Int))=(pgAtI s.d no).snd/\True)):
  PureFn Tryz.prog 153 [.bref s.ts,.int .i64 no] (.tup [.agg (pgAtI s.d no).1.ts,.bool (pgAtI s.d no).2]):=
 vcR (code:=b_diskPage) (gC readi_ok call_readi (gC NewPagei_ok call_NewPagei (gC ReadPage_ok call_ReadPage gN))) Tryz.func153 (by kernel_rfl) (by kernel_rfl) noAnn h (by kernel_rfl)
noncomputable def r_l05Page:Rl:=⟨Dsk×Nat,fun x=>[.agg x.1.ts,.int .i64 x.2],fun x=>.tup [.agg (pgAt x.1 x.2).1.ts,.bool (pgAt x.1 x.2).2],PgSide⟩
noncomputable def k_l05Page:Con:=.rel r_l05Page
noncomputable def b_l05Page:Code:=Tryz.f140.body.getD .skip
theorem call_l05Page:Callable Tryz.prog 140:=⟨_,Tryz.func140,by kernel_rfl,by kernel_rfl⟩
theorem v_l05Page(d:Dsk)(no:Nat)(h:
  Rng .i64 ((1:Int)+(no:Int))/\∃(x:r_read.ι),(((EqD d x.fst)/\(1:Int)+(no:Int)=(x.snd:Int)/\True)/\AtB x)/\((rdAt x.fst x.snd==[])=true->∃(x:r_NewPage.ι),(True/\True)/\((0:Int)=(pgAt d no).fst.lsn/\
  (4=(pgAt d no).fst.sl.length/\RowsEq 4 (strRow [[],[],[],[]]) (strRow (pgAt d no).fst.sl))/\True)/\true=(pgAt d no).snd/\True)/\((rdAt x.fst x.snd==[])=false->∃(x_1:r_l03Read.ι),(((no:Int)=x_1.fst/\rdAt
  x.fst x.snd=x_1.snd/\True)/\RdB x_1.snd)/\((rdPg x_1.fst x_1.snd).fst.lsn=(pgAt d no).fst.lsn/\(EqL strRow (rdPg x_1.fst x_1.snd).fst.sl (pgAt d no).fst.sl)/\True)/\(rdPg x_1.fst x_1.snd).snd=(pgAt d no).snd/\True)):
  PureFn Tryz.prog 140 [.agg d.ts,.int .i64 no] (.tup [.agg (pgAt d no).1.ts,.bool (pgAt d no).2]):=
 vcR (code:=b_l05Page) (gC l02Read_ok call_l02Read (gC NewPages_ok call_NewPages (gC l03Read_ok call_l03Read gN))) Tryz.func140 (by kernel_rfl) (by kernel_rfl) noAnn h (by kernel_rfl)
def isNo(L:List Frm)(no:Int)(i:Nat):Bool:=(L.getD i default).no==no
def frAt(L:List Frm)(no:Int):Int:=fstI L.length (isNo L no)
def noF(no:Int):T:=.fn (.func 261) [.bref [.int .i64 no]]
def r_frameAt1:Rl:=⟨Frm×Int,fun x=>[.agg x.1.ts,.bref [.int .i64 x.2]],fun x=>.bool (x.1.no==x.2),fun _=>True⟩
def k_frameAt1:Con:=.rel r_frameAt1
noncomputable def b_frameAt1:Code:=Tryz.f261.body.getD .skip
theorem call_frameAt1:Callable Tryz.prog 261:=⟨_,Tryz.func261,by kernel_rfl,by kernel_rfl⟩
theorem v_frameAt1(f:Frm)(no:Int)(h:
  (f.no==no)=(f.no==no)):
  PureFn Tryz.prog 261 [.agg f.ts,.bref [.int .i64 no]] (.bool (f.no==no)):=
 vcR (code:=b_frameAt1) gN Tryz.func261 (by kernel_rfl) (by kernel_rfl) noAnn h (by kernel_rfl)
theorem frameAt1_ok:ConOk Tryz.prog 261 k_frameAt1:=fun x _=>v_frameAt1 x.1 x.2 rfl
def r_idxFrm:Rl:=⟨List Frm×Int,fun x=>[frmS x.1,noF x.2],fun x=>.int .i64 (frAt x.1 x.2),fun x=>Len x.1.length⟩
def k_idxFrm:Con:=.rel r_idxFrm
def A_idxFrm(L:List Frm)(no:Int):Nat->Ann
 |0=>.one (Cnt L.length (isNo L no)) (fun x=>⟨[(0,frmS L),(1,noF no),(7,.int .i64 L.length),(8,.int .i64 x.1)],[]⟩) (fun x=>L.length-x.1) [] [] (fun _=>noAnn)
 |_=>.none
noncomputable def b_idxFrm:Code:=Tryz.f260.body.getD .skip
theorem call_idxFrm:Callable Tryz.prog 260:=⟨_,Tryz.func260,by kernel_rfl,by kernel_rfl⟩
theorem v_idxFrm(L:List Frm)(no:Int)(h:
  (∃(x:Cnt L.length (isNo L no)),((EqL frmRow L L)/\(Fn.func 261=Fn.func 261/\TLe (fun(x:Nat)=>none) (T.bref [T.int .i64 no]) (T.bref [T.int .i64 no])/\True)/\(L.length:Int)=(L.length:Int)/\(0:Int)=(x.val:Int)
  /\True)/\True)/\∀(x:Cnt L.length (isNo L no)),(decide ((x.val:Int)<(L.length:Int))=true->InB (x.val:Int) L.length/\∃(x_1:r_frameAt1.ι),((((L.getD (x.val:Int).toNat default).no=x_1.fst.no/\(L.getD
  (x.val:Int).toNat default).pg.lsn=x_1.fst.pg.lsn/\(EqL strRow (L.getD (x.val:Int).toNat default).pg.sl x_1.fst.pg.sl)/\(L.getD (x.val:Int).toNat default).dirty=x_1.fst.dirty/\(L.getD (x.val:Int).toNat default).first=
  x_1.fst.first/\True)/\(no=x_1.snd/\True)/\True)/\True)/\((x_1.fst.no==x_1.snd)=true->(x.val:Int)=frAt L no)/\((x_1.fst.no==x_1.snd)=false->Rng .i64 ((x.val:Int)+(1:Int))/\∃(y:Cnt L.length (isNo L no)),
  (((EqL frmRow L L)/\(Fn.func 261=Fn.func 261/\TLe (fun(x:Nat)=>none) (T.bref [T.int .i64 no]) (T.bref [T.int .i64 no])/\True)/\(L.length:Int)=(L.length:Int)/\(x.val:Int)+(1:Int)=(y.val:Int)/\True)/\True)/\Lt
  (L.length-y.val) (L.length-x.val)))/\(decide ((x.val:Int)<(L.length:Int))=false->(-1:Int)=frAt L no)):
  PureFn Tryz.prog 260 [frmS L,noF no] (.int .i64 (frAt L no)):=
 vcR (code:=b_idxFrm) (gC frameAt1_ok call_frameAt1 gN) Tryz.func260 (by kernel_rfl) (by kernel_rfl) (A_idxFrm L no) h (by kernel_rfl)
theorem idxFrm_ok:ConOk Tryz.prog 260 k_idxFrm:=by
 rintro⟨L,no⟩ (hL:L.length<1000000000000);refine v_idxFrm L no ⟨⟨cnt0,⟨⟨rfl,rowsR _ _⟩,⟨rfl,bref_le _,trivial⟩,rfl,rfl,trivial⟩,trivial⟩,fun x=>⟨fun hc=> ?_,fun hc=> ?_⟩⟩
 ·have hlt:=lt_of_dec hc;refine⟨inB_nat hlt,(L.getD x.val default,no),⟨⟨⟨rfl,rfl,⟨rfl,rowsR _ _⟩,rfl,rfl,trivial⟩,⟨rfl,trivial⟩,trivial⟩,trivial⟩,fun hp=>(fstI_at hlt hp x.2.2).symm,fun hp=>⟨add_rng hlt (by omega),x.succ hlt hp,⟨⟨⟨rfl,rowsR _ _⟩,⟨rfl,bref_le _,trivial⟩,rfl,by simp only[Cnt.succ];omega,trivial⟩,trivial⟩,Cnt.ext_lt hlt⟩⟩
 ·have hge:=le_of_not hc;exact(fstI_no fun j hj=>x.2.2 j (Nat.lt_of_lt_of_le hj hge)).symm
def r_frameAt:Rl:=⟨Sto×Int,fun x=>[.bref x.1.ts,.int .i64 x.2],fun x=>.int .i64 (frAt x.1.fr x.2),fun x=>Len x.1.fr.length⟩
def k_frameAt:Con:=.rel r_frameAt
noncomputable def b_frameAt:Code:=Tryz.f215.body.getD .skip
theorem call_frameAt:Callable Tryz.prog 215:=⟨_,Tryz.func215,by kernel_rfl,by kernel_rfl⟩
theorem v_frameAt(s:Sto)(no:Int)(h:
  ∃(x:r_idxFrm.ι),(((EqL frmRow s.fr x.fst)/\(Fn.func 261=Fn.func 261/\(no=x.snd/\True)/\True)/\True)/\Len x.fst.length)/\frAt x.fst x.snd=frAt s.fr no):
  PureFn Tryz.prog 215 [.bref s.ts,.int .i64 no] (.int .i64 (frAt s.fr no)):=
 vcR (code:=b_frameAt) (gC idxFrm_ok call_idxFrm gN) Tryz.func215 (by kernel_rfl) (by kernel_rfl) noAnn h (by kernel_rfl)
def r_l05Frame:Rl:=⟨Sto×Int,fun x=>[.agg x.1.ts,.int .i64 x.2],fun x=>.int .i64 (frAt x.1.fr x.2),fun x=>Len x.1.fr.length⟩
def k_l05Frame:Con:=.rel r_l05Frame
def A_l05Frame(s:Sto)(no:Int):Nat->Ann
 |0=>.one (Cnt s.fr.length (isNo s.fr no)) (fun x=>⟨[(1,.int .i64 no),(2,.ref 0 0 0),(5,.int .i64 x.1)],[stoBox s]⟩) (fun x=>s.fr.length-x.1) [.box 0] [.box 0] (fun _=>noAnn)
 |_=>.none
noncomputable def b_l05Frame:Code:=Tryz.f125.body.getD .skip
theorem call_l05Frame:Callable Tryz.prog 125:=⟨_,Tryz.func125,by kernel_rfl,by kernel_rfl⟩
theorem v_l05Frame(s:Sto)(no:Int)(h:
  (∃(x:Cnt s.fr.length (isNo s.fr no)),(no=no/\(0=0/\0=0)/\(0:Int)=(x.val:Int)/\True)/\(1=1/\1=1/\EqS s s)/\True)/\∀(x:Cnt s.fr.length (isNo s.fr no)),(decide ((x.val:Int)<(s.fr.length:Int))=true->
  InB (x.val:Int) s.fr.length/\(((s.fr.getD (x.val:Int).toNat default).no==no)=true->(x.val:Int)=frAt s.fr no)/\(((s.fr.getD (x.val:Int).toNat default).no==no)=false->Rng .i64 ((x.val:Int)+(1:Int))/\∃(y:Cnt
  s.fr.length (isNo s.fr no)),((no=no/\(0=0/\0=0)/\(x.val:Int)+(1:Int)=(y.val:Int)/\True)/\(1=1/\1=1/\EqS s s)/\True)/\Lt (s.fr.length-y.val) (s.fr.length-x.val)))/\(decide ((x.val:Int)<
  (s.fr.length:Int))=false->(-1:Int)=frAt s.fr no)):
  PureFn Tryz.prog 125 [.agg s.ts,.int .i64 no] (.int .i64 (frAt s.fr no)):=
 vcR (code:=b_l05Frame) gN Tryz.func125 (by kernel_rfl) (by kernel_rfl) (A_l05Frame s no) h (by kernel_rfl)
theorem frameAt_ok:ConOk Tryz.prog 215 k_frameAt:=by
 rintro⟨s,no⟩ hL;exact v_frameAt s no ⟨(s.fr,no),⟨⟨⟨rfl,rowsR _ _⟩,⟨rfl,⟨rfl,trivial⟩,trivial⟩,trivial⟩,hL⟩,rfl⟩
theorem l05Frame_ok:ConOk Tryz.prog 125 k_l05Frame:=by
 rintro⟨s,no⟩ (hL:s.fr.length<1000000000000);refine v_l05Frame s no ⟨⟨cnt0,⟨rfl,⟨rfl,rfl⟩,rfl,trivial⟩,⟨rfl,rfl,eqS _⟩,trivial⟩,fun x=>⟨fun hc=> ?_,fun hc=> ?_⟩⟩
 ·have hlt:=lt_of_dec hc;exact⟨inB_nat hlt,fun hp=>(fstI_at hlt hp x.2.2).symm,fun hp=>⟨add_rng hlt (by omega),x.succ hlt hp,⟨⟨rfl,⟨rfl,rfl⟩,by simp only[Cnt.succ];omega,trivial⟩,⟨rfl,rfl,eqS _⟩,trivial⟩,Cnt.ext_lt hlt⟩⟩
 ·have hge:=le_of_not hc;exact(fstI_no fun j hj=>x.2.2 j (Nat.lt_of_lt_of_le hj hge)).symm
theorem rdCode_eq(no:Int)(t:List UInt8):(rdCode no t==(0:Int))=(rdPg no t).2:=by
 unfold rdCode;cases hu:unsOK t
 ·have:(rdPg no t).2=false:=by unfold rdPg;rw[hu];rfl
  rw[this];rfl
 ·cases h:(rdPg no t).2<;>rfl
theorem diskPage_ok:ConOk Tryz.prog 153 k_diskPage:=by
 rintro⟨s,no⟩ ⟨hd,hn⟩;simp only at hd hn;have hle:=rdAt_le hd hn;obtain⟨q1,q2,q3,_⟩:=hd;refine v_diskPage s no ⟨i64_rng (by omega),(s.d,1+no),⟨⟨(eqD _),by simp only;omega,trivial⟩,hn,by simp only;omega⟩,fun h=>⟨(),⟨trivial,trivial⟩,?_⟩,fun h=>⟨by unfold Lt;simp only;omega,((no:Int),rdAt s.d (1+no)),⟨⟨rfl,rfl,trivial⟩,by show(rdAt s.d (1+no)).length<=1000;omega⟩,?_⟩⟩
 ·have h:rdAt s.d (1+no)=[]:=by simpa using h
  have e:pgAtI s.d no=(⟨0,[[],[],[],[]]⟩,true):=by unfold pgAtI;rw[if_pos h]
  rw[e];exact⟨⟨rfl,⟨rfl,rowsR _ _⟩,trivial⟩,rfl,trivial⟩
 ·have h:rdAt s.d (1+no)≠[]:=by simpa using h
  have e:pgAtI s.d no=(rdPgI no (rdAt s.d (1+no)),(rdPg no (rdAt s.d (1+no))).2):=by unfold pgAtI;rw[if_neg h]
  rw[e];exact⟨⟨rfl,⟨rfl,rowsR _ _⟩,trivial⟩,rdCode_eq _ _,trivial⟩
theorem l05Page_ok:ConOk Tryz.prog 140 k_l05Page:=by
 rintro⟨d,no⟩ ⟨hd,hn⟩;simp only at hd hn;have hle:=rdAt_le hd hn;obtain⟨q1,q2,q3,_⟩:=hd;refine v_l05Page d no ⟨i64_rng (by omega),(d,1+no),⟨⟨(eqD _),by simp only;omega,trivial⟩,hn,by simp only;omega⟩,fun h=>⟨(),⟨trivial,trivial⟩,?_⟩,fun h=>⟨((no:Int),rdAt d (1+no)),⟨⟨rfl,rfl,trivial⟩,by show(rdAt d (1+no)).length<=1000;omega⟩,?_⟩⟩
 ·have h:rdAt d (1+no)=[]:=by simpa using h
  have e:pgAt d no=(⟨0,[[],[],[],[]]⟩,true):=by unfold pgAt;rw[if_pos h]
  rw[e];exact⟨⟨rfl,⟨rfl,rowsR _ _⟩,trivial⟩,rfl,trivial⟩
 ·have h:rdAt d (1+no)≠[]:=by simpa using h
  have e:pgAt d no=rdPg no (rdAt d (1+no)):=by unfold pgAt;rw[if_neg h]
  rw[e];exact⟨⟨rfl,⟨rfl,rowsR _ _⟩,trivial⟩,rfl,trivial⟩
noncomputable def frmBad(s:Sto)(i:Nat):Bool:=
 !inR (s.fr.getD i default).no 0 7||frAt s.fr (s.fr.getD i default).no !=(i:Int)|| !pgOK (s.fr.getD i default).pg||decide ((s.fr.getD i default).pg.lsn>(s.log.length:Int))|| !inR (s.fr.getD i default).first 0 s.log.length||
  decide ((s.fr.getD i default).first>0) !=(s.fr.getD i default).dirty
noncomputable def frmsOK(s:Sto):Bool:= !anyI s.fr.length (frmBad s)&&decide ((s.fr.length:Int)<=3)
def FrB(L:List Frm):Prop:=Len L.length/\∀i,i<L.length->PgB (L.getD i default).pg
def FrsB(s:Sto):Prop:=FrB s.fr/\Len s.log.length
noncomputable def r_framesOK:Rl:=⟨Sto,fun s=>[.bref s.ts],fun s=>.bool (frmsOK s),FrsB⟩
noncomputable def k_framesOK:Con:=.rel r_framesOK
noncomputable def A_framesOK(s:Sto):Nat->Ann
 |0=>.one (Cnt s.fr.length (frmBad s)) (fun x=>⟨[(0,.bref s.ts),(8,frmS s.fr),(9,.int .i64 s.fr.length),(10,.int .i64 x.1)],[]⟩) (fun x=>s.fr.length-x.1) [] [] (fun _=>noAnn)
 |_=>.none
noncomputable def b_framesOK:Code:=Tryz.f154.body.getD .skip
theorem call_framesOK:Callable Tryz.prog 154:=⟨_,Tryz.func154,by kernel_rfl,by kernel_rfl⟩
theorem v_framesOK(s:Sto)(h:
  (∃(x:Cnt s.fr.length (frmBad s)),(TLe (fun(x:Nat)=>none) (T.bref s.ts) (T.bref s.ts)/\(EqL frmRow s.fr s.fr)/\(s.fr.length:Int)=(s.fr.length:Int)/\(0:Int)=(x.val:Int)/\True)/\True)/\∀(x:Cnt s.fr.length
  (frmBad s)),(decide ((x.val:Int)<(s.fr.length:Int))=true->InB (x.val:Int) s.fr.length/\Small (8:Int)/\∃(x_1:r_frameAt.ι),((!(decide ((0:Int)<=(s.fr.getD (x.val:Int).toNat default).no)&&decide ((s.fr.getD
  (x.val:Int).toNat default).no<(8:Int))))=false->((EqS s x_1.fst)/\(s.fr.getD (x.val:Int).toNat default).no=x_1.snd/\True)/\Len x_1.fst.fr.length)/\∃(x_2:r_PageOK.ι),((!(decide ((0:Int)<=(s.fr.getD
  (x.val:Int).toNat default).no)&&decide ((s.fr.getD (x.val:Int).toNat default).no<(8:Int)))||frAt x_1.fst.fr x_1.snd !=(x.val:Int))=false->(((s.fr.getD (x.val:Int).toNat default).pg.lsn=x_2.lsn/\(EqL strRow
  (s.fr.getD (x.val:Int).toNat default).pg.sl x_2.sl)/\True)/\True)/\PgB x_2)/\((!(decide ((0:Int)<=(s.fr.getD (x.val:Int).toNat default).no)&&decide ((s.fr.getD (x.val:Int).toNat default).no<(8:Int)))||frAt
  x_1.fst.fr x_1.snd !=(x.val:Int)|| !pgOK x_2||decide ((s.fr.getD (x.val:Int).toNat default).pg.lsn>(s.log.length:Int))|| !inR (s.fr.getD (x.val:Int).toNat default).first (0:Int) (s.log.length:Int)|| !decide ((s.fr.getD
  (x.val:Int).toNat default).first>(0:Int))==(s.fr.getD (x.val:Int).toNat default).dirty)=true->false=frmsOK s)/\((!(decide ((0:Int)<=(s.fr.getD (x.val:Int).toNat default).no)&&decide ((s.fr.getD (x.val:Int).toNat
  default).no<(8:Int)))||frAt x_1.fst.fr x_1.snd !=(x.val:Int)|| !pgOK x_2||decide ((s.fr.getD (x.val:Int).toNat default).pg.lsn>(s.log.length:Int))|| !inR (s.fr.getD (x.val:Int).toNat default).first (0:Int)
  (s.log.length:Int)|| !decide ((s.fr.getD (x.val:Int).toNat default).first>(0:Int))==(s.fr.getD (x.val:Int).toNat default).dirty)=false->Rng .i64 ((x.val:Int)+(1:Int))/\∃(y:Cnt s.fr.length (frmBad s)),((TLe (fun
  (x:Nat)=>none) (T.bref s.ts) (T.bref s.ts)/\(EqL frmRow s.fr s.fr)/\(s.fr.length:Int)=(s.fr.length:Int)/\(x.val:Int)+(1:Int)=(y.val:Int)/\True)/\True)/\Lt (s.fr.length-y.val) (s.fr.length-x.val)))/\(decide
  ((x.val:Int)<(s.fr.length:Int))=false->decide ((s.fr.length:Int)<=(3:Int))=frmsOK s)):
  PureFn Tryz.prog 154 [.bref s.ts] (.bool (frmsOK s)):=
 vcR (code:=b_framesOK) (gC isPlace_ok call_isPlace (gC frameAt_ok call_frameAt (gC PageOKi_ok call_PageOKi (gC inRange_ok call_inRange gN)))) Tryz.func154 (by kernel_rfl) (by kernel_rfl) (A_framesOK s) h (by kernel_rfl)
theorem place8(n:Int):(decide (0<=n)&&decide (n<8))=inR n 0 7:=by
 unfold inR;rw[show decide (n<8)=decide (n<=7) from decide_eq_decide.2 (by omega)]
theorem framesOK_ok:ConOk Tryz.prog 154 k_framesOK:=by
 rintro(s:Sto) ⟨⟨h1,h2⟩,h3⟩;have h1:s.fr.length<1000000000000:=h1;have h3:s.log.length<1000000000000:=h3;refine v_framesOK s ⟨⟨cnt0,⟨bref_le _,⟨rfl,rowsR _ _⟩,rfl,rfl,trivial⟩,trivial⟩,fun x=>⟨fun hc=> ?_,fun hc=> ?_⟩⟩
 ·have hlt:=lt_of_dec hc;rw[place8,Int.toNat_natCast];have e:(!inR (s.fr.getD x.val default).no 0 7||frAt s.fr (s.fr.getD x.val default).no !=(x.val:Int)|| !pgOK (s.fr.getD x.val default).pg||decide ((s.fr.getD x.val default).pg.lsn>(s.log.length:Int))||
    !inR (s.fr.getD x.val default).first 0 s.log.length|| !decide ((s.fr.getD x.val default).first>0)==(s.fr.getD x.val default).dirty)=frmBad s x.val:=rfl
  refine⟨inB_nat hlt,⟨by omega,by omega⟩,(s,(s.fr.getD x.val default).no),fun _=>⟨⟨(eqS _),rfl,trivial⟩,h1⟩,(s.fr.getD x.val default).pg,fun _=>⟨⟨⟨rfl,⟨rfl,rowsR _ _⟩,trivial⟩,trivial⟩,h2 _ hlt⟩,fun hb=> ?_,fun hb=>⟨add_rng hlt (by omega),x.succ hlt (e.symm.trans hb),⟨⟨bref_le _,⟨rfl,rowsR _ _⟩,rfl,by simp only[Cnt.succ];omega,trivial⟩,trivial⟩,Cnt.ext_lt hlt⟩⟩
  have:anyI s.fr.length (frmBad s)=true:=anyI_iff.2 ⟨x.val,hlt,e.symm.trans hb⟩;unfold frmsOK;rw[this];rfl
 ·have hge:=le_of_not hc;have:anyI s.fr.length (frmBad s)=false:=anyI_no.2 fun i hi=>x.2.2 i (Nat.lt_of_lt_of_le hi hge)
  unfold frmsOK;rw[this];simp
def prevE(L:List Rec)(i:Nat):Int:=if i=0 then 1 else(L.getD (i-1) default).e
def badEp(s:Sto)(i:Nat):Bool:= !inR (s.log.getD i default).e (prevE s.log i) s.ep
noncomputable def badPg(s:Sto)(no:Nat):Bool:= !(pgAt s.d no).2||decide ((pgAt s.d no).1.lsn>s.sure)
noncomputable def hdrBad(s:Sto):Bool:= !dskOK s.d||((s.d.sec.length:Nat):Int) !=69|| !inR s.ep 1 60||decide ((s.log.length:Int)>60)
noncomputable def stoOK(s:Sto):Bool:= !(hdrBad s|| !areOK s.log|| !inR s.sure 0 s.log.length)&& !anyI s.log.length (badEp s)&& !anyI 8 (badPg s)&&frmsOK s&&inR s.hand 0 2
def StoB(s:Sto):Prop:=DskB s.d/\LogB s.log/\FrB s.fr/\∀r ∈ s.log,Len r.a.length
noncomputable def r_StoreOK:Rl:=⟨Sto,fun s=>[.agg s.ts],fun s=>.bool (stoOK s),StoB⟩
noncomputable def k_StoreOKi:Con:=.rel r_StoreOK
noncomputable def k_StoreOKs:Con:=.rel r_StoreOK
noncomputable def A_StoreOKi(s:Sto):Nat->Ann
 |0=>.onef [1,3,48,49,50] (Cnt s.log.length (badEp s)) (fun x=>⟨[(1,.bref s.ts),(3,.int .i64 (prevE s.log x.1)),(48,recS s.log),(49,.int .i64 s.log.length),(50,.int .i64 x.1)],[]⟩) (fun x=>s.log.length-x.1) [] (fun _=>fun
  |1=>.one (Cnt 8 (badPg s)) (fun x=>⟨[(1,.bref s.ts),(64,.int .i64 x.1)],[]⟩) (fun x=>8-x.1) [] [] (fun _=>noAnn)
  |_=>.none)
 |_=>.none
noncomputable def b_StoreOKi:Code:=Tryz.f87.body.getD .skip
theorem call_StoreOKi:Callable Tryz.prog 87:=⟨_,Tryz.func87,by kernel_rfl,by kernel_rfl⟩
theorem v_StoreOKi(s:Sto)(h:
  ∃(x:r_DiskOK.ι),(((EqD s.d x)/\True)/\DskB x)/\∃(x_1:r_areRecords.ι),((!dskOK x||(s.d.sec.length:Int) !=(69:Int)|| !inR s.ep (1:Int) (60:Int)||decide ((s.log.length:Int)>(60:Int)))=false->
  ((s.log.length=List.length x_1/\RowsEq s.log.length (recRow s.log) (recRow x_1))/\True)/\LogB x_1)/\((!dskOK x||(s.d.sec.length:Int) !=(69:Int)|| !inR s.ep (1:Int) (60:Int)||decide ((s.log.length:Int)>(60:
  Int))|| !areOK x_1|| !inR s.sure (0:Int) (s.log.length:Int))=true->false=stoOK s)/\((!dskOK x||(s.d.sec.length:Int) !=(69:Int)|| !inR s.ep (1:Int) (60:Int)||decide ((s.log.length:Int)>(60:Int))|| !areOK
  x_1|| !inR s.sure (0:Int) (s.log.length:Int))=false->(∃(x:Cnt s.log.length (badEp s)),(TLe (fun(x:Nat)=>none) (T.bref s.ts) (T.bref s.ts)/\(1:Int)=prevE s.log x.val/\(EqL recRow s.log s.log)/\
  (s.log.length:Int)=(s.log.length:Int)/\(0:Int)=(x.val:Int)/\True)/\True)/\∀(x:Cnt s.log.length (badEp s)),(decide ((x.val:Int)<(s.log.length:Int))=true->InB (x.val:Int) s.log.length/\((!inR (s.log.getD
  (x.val:Int).toNat default).e (prevE s.log x.val) s.ep)=true->false=stoOK s)/\((!inR (s.log.getD (x.val:Int).toNat default).e (prevE s.log x.val) s.ep)=false->Rng .i64 ((x.val:Int)+(1:Int))/\∃(y:Cnt s.log.length
  (badEp s)),((TLe (fun(x:Nat)=>none) (T.bref s.ts) (T.bref s.ts)/\(s.log.getD (x.val:Int).toNat default).e=prevE s.log y.val/\(EqL recRow s.log s.log)/\(s.log.length:Int)=(s.log.length:Int)/\(x.val:Int)+(1:Int)=
  (y.val:Int)/\True)/\True)/\Lt (s.log.length-y.val) (s.log.length-x.val)))/\(decide ((x.val:Int)<(s.log.length:Int))=false->(∃(x:Cnt 8 (badPg s)),(TLe (fun(x:Nat)=>none) (T.bref s.ts) (T.bref s.ts)/\(0:Int)
  =(x.val:Int)/\True)/\True)/\∀(x:Cnt 8 (badPg s)),(decide ((x.val:Int)<(8:Int))=true->∃(x_2:r_diskPage.ι),(((EqS s x_2.fst)/\(x.val:Int)=(x_2.snd:Int)/\True)/\PgSide (x_2.fst.d,x_2.snd))/\((!(pgAtI
  x_2.fst.d x_2.snd).snd||decide ((pgAtI x_2.fst.d x_2.snd).fst.lsn>s.sure))=true->false=stoOK s)/\((!(pgAtI x_2.fst.d x_2.snd).snd||decide ((pgAtI x_2.fst.d x_2.snd).fst.lsn>s.sure))=false->Rng .i64 ((x.val:Int)+
  (1:Int))/\∃(y:Cnt 8 (badPg s)),((TLe (fun(x:Nat)=>none) (T.bref s.ts) (T.bref s.ts)/\(x.val:Int)+(1:Int)=(y.val:Int)/\True)/\True)/\Lt (8-y.val) (8-x.val)))/\(decide ((x.val:Int)<(8:Int))=false->∃
  (x:r_framesOK.ι),(((EqS s x)/\True)/\FrsB x)/\(frmsOK x=true->Small (3:Int))/\(frmsOK x&&(decide ((0:Int)<=s.hand)&&decide (s.hand<(3:Int))))=stoOK s)))):
  PureFn Tryz.prog 87 [.agg s.ts] (.bool (stoOK s)):=
 vcR (code:=b_StoreOKi) (gC DiskOKi_ok call_DiskOKi (gC inRange_ok call_inRange (gC areRecords_ok call_areRecords (gC diskPage_ok call_diskPage (gC framesOK_ok call_framesOK (gC isPlace_ok call_isPlace gN)))))) Tryz.func87 (by kernel_rfl) (by kernel_rfl) (A_StoreOKi s) h (by kernel_rfl)
noncomputable def badRec(s:Sto)(i:Nat):Bool:= !recOK (s.log.getD i default)||(s.log.getD i default).l !=(i:Int)+1||decide ((s.log.getD i default).e>s.ep)||(decide ((i:Int)>0)&&decide ((s.log.getD (i-1) default).e>(s.log.getD i default).e))
noncomputable def frmBadS(s:Sto)(i:Nat):Bool:=
 !inR (s.fr.getD i default).no 0 7|| !pgOK (s.fr.getD i default).pg||decide ((s.fr.getD i default).pg.lsn>(s.log.length:Int))|| !inR (s.fr.getD i default).first 0 s.log.length||
  (s.fr.getD i default).dirty !=decide ((s.fr.getD i default).first>0)||frAt s.fr (s.fr.getD i default).no !=(i:Int)
noncomputable def A_StoreOKs(s:Sto):Nat->Ann
 |0=>.one (Cnt s.log.length (badRec s)) (fun x=>⟨[(1,.ref 0 0 0),(3,.int .i64 x.1)],[stoBox s]⟩) (fun x=>s.log.length-x.1) [.box 0] [.box 0] (fun _=>fun
  |1=>.one (Cnt s.fr.length (frmBadS s)) (fun x=>⟨[(1,.ref 0 0 0),(5,.int .i64 x.1)],[stoBox s]⟩) (fun x=>s.fr.length-x.1) [.box 0] [.box 0] (fun _=>fun
   |2=>.one (Cnt 8 (badPg s)) (fun x=>⟨[(1,.ref 0 0 0),(7,.int .i64 x.1)],[stoBox s]⟩) (fun x=>8-x.1) [.box 0] [.box 0] (fun _=>noAnn)
   |_=>.none)
  |_=>.none)
 |_=>.none
noncomputable def b_StoreOKs:Code:=Tryz.f72.body.getD .skip
theorem call_StoreOKs:Callable Tryz.prog 72:=⟨_,Tryz.func72,by kernel_rfl,by kernel_rfl⟩
theorem v_StoreOKs(s:Sto)(h:
  ∃(x:r_DiskOK.ι),(((EqD s.d x)/\True)/\DskB x)/\((!dskOK x||(s.d.sec.length:Int) !=(69:Int)|| !inR s.ep (1:Int) (60:Int)||decide ((s.log.length:Int)>(60:Int))|| !inR s.sure (0:Int) (s.log.length:Int)||
  decide ((s.fr.length:Int)>(3:Int))|| !inR s.hand (0:Int) (2:Int))=true->false=stoOK s)/\((!dskOK x||(s.d.sec.length:Int) !=(69:Int)|| !inR s.ep (1:Int) (60:Int)||decide ((s.log.length:Int)>(60:Int))
  || !inR s.sure (0:Int) (s.log.length:Int)||decide ((s.fr.length:Int)>(3:Int))|| !inR s.hand (0:Int) (2:Int))=false->(∃(x:Cnt s.log.length (badRec s)),((0=0/\0=0)/\(0:Int)=(x.val:Int)/\True)/\(1=1
  /\1=1/\EqS s s)/\True)/\∀(x:Cnt s.log.length (badRec s)),(decide ((x.val:Int)<(s.log.length:Int))=true->InB (x.val:Int) s.log.length/\Len (s.log.getD (x.val:Int).toNat default).a.length/\((!recOK (Rec.mk
  (s.log.getD (x.val:Int).toNat default).e (s.log.getD (x.val:Int).toNat default).l (s.log.getD (x.val:Int).toNat default).t (s.log.getD (x.val:Int).toNat default).k (s.log.getD (x.val:Int).toNat default).p (s.log.getD
  (x.val:Int).toNat default).n (s.log.getD (x.val:Int).toNat default).g (s.log.getD (x.val:Int).toNat default).s (s.log.getD (x.val:Int).toNat default).b (s.log.getD (x.val:Int).toNat default).a))=false->Rng .i64 ((x.val:Int)+
  (1:Int)))/\((!recOK (Rec.mk (s.log.getD (x.val:Int).toNat default).e (s.log.getD (x.val:Int).toNat default).l (s.log.getD (x.val:Int).toNat default).t (s.log.getD (x.val:Int).toNat default).k (s.log.getD (x.val:Int).toNat
  default).p (s.log.getD (x.val:Int).toNat default).n (s.log.getD (x.val:Int).toNat default).g (s.log.getD (x.val:Int).toNat default).s (s.log.getD (x.val:Int).toNat default).b (s.log.getD (x.val:Int).toNat default).a)||
  (s.log.getD (x.val:Int).toNat default).l !=(x.val:Int)+(1:Int)||decide ((s.log.getD (x.val:Int).toNat default).e>s.ep))=false->decide ((x.val:Int)>(0:Int))=true->Rng .i64 ((x.val:Int)- (1:Int)))/\((!recOK
  (Rec.mk (s.log.getD (x.val:Int).toNat default).e (s.log.getD (x.val:Int).toNat default).l (s.log.getD (x.val:Int).toNat default).t (s.log.getD (x.val:Int).toNat default).k (s.log.getD (x.val:Int).toNat default).p (s.log.getD
  (x.val:Int).toNat default).n (s.log.getD (x.val:Int).toNat default).g (s.log.getD (x.val:Int).toNat default).s (s.log.getD (x.val:Int).toNat default).b (s.log.getD (x.val:Int).toNat default).a)||(s.log.getD (x.val:Int).toNat
  default).l !=(x.val:Int)+(1:Int)||decide ((s.log.getD (x.val:Int).toNat default).e>s.ep))=false->decide ((x.val:Int)>(0:Int))=true->InB ((x.val:Int)- (1:Int)) s.log.length)/\((!recOK (Rec.mk (s.log.getD
  (x.val:Int).toNat default).e (s.log.getD (x.val:Int).toNat default).l (s.log.getD (x.val:Int).toNat default).t (s.log.getD (x.val:Int).toNat default).k (s.log.getD (x.val:Int).toNat default).p (s.log.getD (x.val:Int).toNat
  default).n (s.log.getD (x.val:Int).toNat default).g (s.log.getD (x.val:Int).toNat default).s (s.log.getD (x.val:Int).toNat default).b (s.log.getD (x.val:Int).toNat default).a)||(s.log.getD (x.val:Int).toNat default).l !=
  (x.val:Int)+(1:Int)||decide ((s.log.getD (x.val:Int).toNat default).e>s.ep)||decide ((x.val:Int)>(0:Int))&&decide ((s.log.getD ((x.val:Int)- (1:Int)).toNat default).e>(s.log.getD (x.val:Int).toNat default).e))
  =true->false=stoOK s)/\((!recOK (Rec.mk (s.log.getD (x.val:Int).toNat default).e (s.log.getD (x.val:Int).toNat default).l (s.log.getD (x.val:Int).toNat default).t (s.log.getD (x.val:Int).toNat default).k (s.log.getD
  (x.val:Int).toNat default).p (s.log.getD (x.val:Int).toNat default).n (s.log.getD (x.val:Int).toNat default).g (s.log.getD (x.val:Int).toNat default).s (s.log.getD (x.val:Int).toNat default).b (s.log.getD (x.val:Int).toNat
  default).a)||(s.log.getD (x.val:Int).toNat default).l !=(x.val:Int)+(1:Int)||decide ((s.log.getD (x.val:Int).toNat default).e>s.ep)||decide ((x.val:Int)>(0:Int))&&decide ((s.log.getD ((x.val:Int)- (1:
  Int)).toNat default).e>(s.log.getD (x.val:Int).toNat default).e))=false->Rng .i64 ((x.val:Int)+(1:Int))/\∃(y:Cnt s.log.length (badRec s)),(((0=0/\0=0)/\(x.val:Int)+(1:Int)=(y.val:Int)/\True)/\(1=1/\1
  =1/\EqS s s)/\True)/\Lt (s.log.length-y.val) (s.log.length-x.val)))/\(decide ((x.val:Int)<(s.log.length:Int))=false->(∃(x:Cnt s.fr.length (frmBadS s)),((0=0/\0=0)/\(0:Int)=(x.val:Int)/\True)/\(1=1/\
  1=1/\EqS s s)/\True)/\∀(x:Cnt s.fr.length (frmBadS s)),(decide ((x.val:Int)<(s.fr.length:Int))=true->InB (x.val:Int) s.fr.length/\∃(x_1:r_PageOK.ι),((!inR (s.fr.getD (x.val:Int).toNat default).no (0:Int) (7:
  Int))=false->(((s.fr.getD (x.val:Int).toNat default).pg.lsn=x_1.lsn/\(EqL strRow (s.fr.getD (x.val:Int).toNat default).pg.sl x_1.sl)/\True)/\True)/\PgB x_1)/\∃(x_2:r_l05Frame.ι),((!inR (s.fr.getD (x.val:Int).toNat
  default).no (0:Int) (7:Int)|| !pgOK x_1||decide ((s.fr.getD (x.val:Int).toNat default).pg.lsn>(s.log.length:Int))|| !inR (s.fr.getD (x.val:Int).toNat default).first (0:Int) (s.log.length:Int)|| !(s.fr.getD
  (x.val:Int).toNat default).dirty==decide ((s.fr.getD (x.val:Int).toNat default).first>(0:Int)))=false->((EqS s x_2.fst)/\(s.fr.getD (x.val:Int).toNat default).no=x_2.snd/\True)/\Len x_2.fst.fr.length)/\((!inR
  (s.fr.getD (x.val:Int).toNat default).no (0:Int) (7:Int)|| !pgOK x_1||decide ((s.fr.getD (x.val:Int).toNat default).pg.lsn>(s.log.length:Int))|| !inR (s.fr.getD (x.val:Int).toNat default).first (0:Int)
  (s.log.length:Int)|| !(s.fr.getD (x.val:Int).toNat default).dirty==decide ((s.fr.getD (x.val:Int).toNat default).first>(0:Int))||frAt x_2.fst.fr x_2.snd !=(x.val:Int))=true->false=stoOK s)/\((!inR (s.fr.getD
  (x.val:Int).toNat default).no (0:Int) (7:Int)|| !pgOK x_1||decide ((s.fr.getD (x.val:Int).toNat default).pg.lsn>(s.log.length:Int))|| !inR (s.fr.getD (x.val:Int).toNat default).first (0:Int) (s.log.length:Int)||
  !(s.fr.getD (x.val:Int).toNat default).dirty==decide ((s.fr.getD (x.val:Int).toNat default).first>(0:Int))||frAt x_2.fst.fr x_2.snd !=(x.val:Int))=false->Rng .i64 ((x.val:Int)+(1:Int))/\∃(y:Cnt s.fr.length
  (frmBadS s)),(((0=0/\0=0)/\(x.val:Int)+(1:Int)=(y.val:Int)/\True)/\(1=1/\1=1/\EqS s s)/\True)/\Lt (s.fr.length-y.val) (s.fr.length-x.val)))/\(decide ((x.val:Int)<(s.fr.length:Int))=false->(∃(x:
  Cnt 8 (badPg s)),((0=0/\0=0)/\(0:Int)=(x.val:Int)/\True)/\(1=1/\1=1/\EqS s s)/\True)/\∀(x:Cnt 8 (badPg s)),(decide ((x.val:Int)<(8:Int))=true->∃(x_1:r_l05Page.ι),(((EqD s.d x_1.fst)/\
  (x.val:Int)=(x_1.snd:Int)/\True)/\PgSide x_1)/\((!(pgAt x_1.fst x_1.snd).snd||decide ((pgAt x_1.fst x_1.snd).fst.lsn>s.sure))=true->false=stoOK s)/\((!(pgAt x_1.fst x_1.snd).snd||decide ((pgAt x_1.fst
  x_1.snd).fst.lsn>s.sure))=false->Rng .i64 ((x.val:Int)+(1:Int))/\∃(y:Cnt 8 (badPg s)),(((0=0/\0=0)/\(x.val:Int)+(1:Int)=(y.val:Int)/\True)/\(1=1/\1=1/\EqS s s)/\True)/\Lt (8-y.val) (8-
  x.val)))/\(decide ((x.val:Int)<(8:Int))=false->true=stoOK s))))):
  PureFn Tryz.prog 72 [.agg s.ts] (.bool (stoOK s)):=
 vcR (code:=b_StoreOKs) (gC DiskOKs_ok call_DiskOKs (gC l01In_ok call_l01In (gC RecordOKs_ok call_RecordOKs (gC PageOKs_ok call_PageOKs (gC l05Frame_ok call_l05Frame (gC l05Page_ok call_l05Page gN)))))) Tryz.func72 (by kernel_rfl) (by kernel_rfl) (A_StoreOKs s) h (by kernel_rfl)
theorem sto_split(s:Sto):stoOK s=true↔(hdrBad s=false/\areOK s.log=true/\inR s.sure 0 s.log.length=true)/\(∀i,i<s.log.length->badEp s i=false)/\(∀i,i<8->badPg s i=false)/\frmsOK s=true/\inR s.hand 0 2=true:=by
 unfold stoOK;simp only[Bool.and_eq_true,Bool.not_eq_true',Bool.or_eq_false_iff,Bool.not_eq_false',anyI_no];exact⟨fun h=>⟨⟨h.1.1.1.1.1.1,h.1.1.1.1.1.2,h.1.1.1.1.2⟩,h.1.1.1.2,h.1.1.2,h.1.2,h.2⟩,fun h=>⟨⟨⟨⟨⟨⟨h.1.1,h.1.2.1⟩,h.1.2.2⟩,h.2.1⟩,h.2.2.1⟩,h.2.2.2.1⟩,h.2.2.2.2⟩⟩
theorem sto_no{s:Sto}(h:¬stoOK s=true):false=stoOK s:=(Bool.eq_false_iff.2 h).symm
theorem hdr_split(s:Sto):hdrBad s=false↔DskP s.d/\s.d.sec.length=69/\1<=s.ep/\s.ep<=60/\s.log.length<=60:=by
 unfold hdrBad;simp only[Bool.or_eq_false_iff,Bool.not_eq_false',dskOK_iff,bne_eq_false_iff_eq,inR,Bool.and_eq_true,decide_eq_true_eq,decide_eq_false_iff_not];constructor
 ·rintro⟨⟨⟨h1,h2⟩,h3,h4⟩,h5⟩;exact⟨h1,by omega,h3,h4,by omega⟩
 ·rintro⟨h1,h2,h3,h4,h5⟩;exact⟨⟨⟨h1,by omega⟩,h3,h4⟩,by omega⟩
theorem badPg_I(s:Sto)(no:Nat):(!(pgAtI s.d no).2||decide ((pgAtI s.d no).1.lsn>s.sure))=badPg s no:=by
 unfold badPg;obtain⟨h1,h2⟩:=pgAtI_eq s.d no;cases h:(pgAt s.d no).2
 ·rw[h1,h];rfl
 ·rw[h2 h,h]
theorem place3(n:Int):(decide (0<=n)&&decide (n<3))=inR n 0 2:=by
 unfold inR;rw[show decide (n<3)=decide (n<=2) from decide_eq_decide.2 (by omega)]
theorem prev_succ(L:List Rec)(i:Nat):prevE L (i+1)=(L.getD i default).e:=by unfold prevE;rw[if_neg (by omega)];rfl
theorem StoreOKi_ok:ConOk Tryz.prog 87 k_StoreOKi:=by
 rintro(s:Sto) ⟨hd,hl,hf,hm⟩;have e0:(!dskOK s.d||(s.d.sec.length:Int) !=69|| !inR s.ep 1 60||decide ((s.log.length:Int)>60)|| !areOK s.log|| !inR s.sure 0 s.log.length)=(hdrBad s|| !areOK s.log|| !inR s.sure 0 s.log.length):=rfl;refine v_StoreOKi s ⟨s.d,⟨⟨(eqD _),trivial⟩,hd⟩,s.log,fun _=>⟨⟨⟨rfl,rowsR _ _⟩,trivial⟩,hl⟩,fun hb=>sto_no ?_,fun hb=> ?_⟩
 ·rw[sto_split];rintro⟨⟨h1,h2,h3⟩,_⟩;rw[e0,h1,h2,h3] at hb;cases hb
 rw[e0] at hb;simp only[Bool.or_eq_false_iff,Bool.not_eq_false'] at hb;obtain⟨⟨b1,b2⟩,b3⟩:=hb;obtain⟨c1,c2,c3,c4,c5⟩:=(hdr_split s).1 b1;refine⟨⟨cnt0,⟨bref_le _,rfl,⟨rfl,rowsR _ _⟩,rfl,rfl,trivial⟩,trivial⟩,fun x=>⟨fun hc=> ?_,fun hc=>⟨⟨cnt0,⟨bref_le _,rfl,trivial⟩,trivial⟩,fun y=>⟨fun hy=> ?_,fun hy=> ?_⟩⟩⟩⟩
 ·have hlt:=lt_of_dec hc;refine⟨inB_nat hlt,fun hb=>sto_no ?_,fun hb=>⟨add_rng hlt (by omega),x.succ hlt hb,⟨⟨bref_le _,(prev_succ _ _).symm,⟨rfl,rowsR _ _⟩,rfl,by simp only[Cnt.succ];omega,trivial⟩,trivial⟩,Cnt.ext_lt hlt⟩⟩
  rw[sto_split];rintro⟨_,h1,_⟩;have:=h1 x.val hlt;unfold badEp at this;rw[Int.toNat_natCast,this] at hb;cases hb
 ·have hlt:y.val<8:=by have:=of_decide_eq_true hy;omega
  refine⟨(s,y.val),⟨⟨(eqS _),rfl,trivial⟩,c1,by simp only;omega⟩,fun hb=>sto_no ?_,fun hb=>⟨i64_rng (by omega),y.succ hlt ((badPg_I s y.val).symm.trans hb),⟨⟨bref_le _,by simp only[Cnt.succ];omega,trivial⟩,trivial⟩,Cnt.ext_lt hlt⟩⟩
  rw[sto_split];rintro⟨_,_,h1,_⟩;have:=h1 y.val hlt;rw[←badPg_I] at this;have hb:(!(pgAtI s.d y.val).2||decide ((pgAtI s.d y.val).1.lsn>s.sure))=true:=hb;rw[this] at hb;cases hb
 ·have g1:=le_of_not hc;have g2:8<=y.val:=by have:=of_decide_eq_false hy;omega
  refine⟨s,⟨⟨(eqS _),trivial⟩,hf,hl.1⟩,fun _=>⟨by omega,by omega⟩,?_⟩
  rw[place3,Bool.eq_iff_iff,sto_split];simp only[Bool.and_eq_true];exact⟨fun h=>⟨⟨b1,b2,b3⟩,fun i hi=>x.2.2 i (Nat.lt_of_lt_of_le hi g1),fun i hi=>y.2.2 i (Nat.lt_of_lt_of_le hi g2),h⟩,fun h=>h.2.2.2⟩
theorem frmBad_S(s:Sto)(i:Nat):frmBadS s i=frmBad s i:=by
 unfold frmBadS frmBad;generalize inR (s.fr.getD i default).no 0 7=a;generalize pgOK (s.fr.getD i default).pg=b;generalize decide ((s.fr.getD i default).pg.lsn>(s.log.length:Int))=c;generalize inR (s.fr.getD i default).first 0 s.log.length=d
 generalize (s.fr.getD i default).dirty=e;generalize decide ((s.fr.getD i default).first>0)=f
 generalize (frAt s.fr (s.fr.getD i default).no !=(i:Int))=g;cases a<;>cases b<;>cases c<;>cases d<;>cases e<;>cases f<;>cases g<;>rfl
theorem badRec_S(s:Sto):(∀i,i<s.log.length->badRec s i=false)↔areOK s.log=true/\∀i,i<s.log.length->badEp s i=false:=by
 rw[areOK_iff];have key:∀i,badRec s i=false↔(recOK (s.log.getD i default)=true/\(s.log.getD i default).l=(i:Int)+1)/\(s.log.getD i default).e<=s.ep/\(0<i->(s.log.getD (i-1) default).e<=(s.log.getD i default).e):=by
  intro i;unfold badRec;simp only[Bool.or_eq_false_iff,Bool.not_eq_false',bne_eq_false_iff_eq,decide_eq_false_iff_not,Bool.and_eq_false_iff];constructor
  ·rintro⟨⟨⟨h1,h2⟩,h3⟩,h4⟩;exact⟨⟨h1,h2⟩,by omega,fun hi=>by rcases h4 with h4|h4<;>omega⟩
  ·rintro⟨⟨h1,h2⟩,h3,h4⟩;refine⟨⟨⟨h1,h2⟩,by omega⟩,?_⟩
   by_cases hi:0<i
   ·exact .inr (by have:=h4 hi;omega)
   ·exact .inl (by omega)
 have key2:∀i,badEp s i=false↔prevE s.log i<=(s.log.getD i default).e/\(s.log.getD i default).e<=s.ep:=by
  intro i;unfold badEp inR;simp only[Bool.not_eq_false',Bool.and_eq_true,decide_eq_true_eq]
 simp only[key,key2];constructor
 ·intro h;refine⟨fun i hi=>(h i hi).1,fun i hi=>⟨?_,(h i hi).2.1⟩⟩
  by_cases h0:i=0
  ·subst h0;have:=((recOK_iff _).1 (h 0 hi).1.1).1;exact this
  ·unfold prevE;rw[if_neg h0];exact(h i hi).2.2 (by omega)
 ·rintro⟨h1,h2⟩ i hi;refine⟨h1 i hi,(h2 i hi).2,fun h0=> ?_⟩
  have:=(h2 i hi).1;unfold prevE at this;rw[if_neg (by omega)] at this
  exact this
theorem StoreOKs_ok:ConOk Tryz.prog 72 k_StoreOKs:=by
 rintro(s:Sto) ⟨hd,hl,hf,hm⟩;have hfr:s.fr.length<1000000000000:=hf.1;have e0:(!dskOK s.d||(s.d.sec.length:Int) !=69|| !inR s.ep 1 60||decide ((s.log.length:Int)>60)|| !inR s.sure 0 s.log.length||decide ((s.fr.length:Int)>3)|| !inR s.hand 0 2)=(hdrBad s|| !inR s.sure 0 s.log.length||decide ((s.fr.length:Int)>3)|| !inR s.hand 0 2):=rfl;have sp:stoOK s=true↔(hdrBad s|| !inR s.sure 0 s.log.length||decide ((s.fr.length:Int)>3)|| !inR s.hand 0 2)=false/\(∀i,i<s.log.length->badRec s i=false)/\(∀i,i<s.fr.length->frmBadS s i=false)/\∀i,i<8->badPg s i=false:=by
  rw[sto_split,badRec_S];simp only[Bool.or_eq_false_iff,Bool.not_eq_false',frmBad_S,decide_eq_false_iff_not];unfold frmsOK;simp only[Bool.and_eq_true,Bool.not_eq_true',anyI_no,decide_eq_true_eq];constructor
  ·rintro⟨⟨h1,h2,h3⟩,h4,h5,⟨h6,h7⟩,h8⟩;exact⟨⟨⟨⟨h1,h3⟩,by omega⟩,h8⟩,⟨h2,h4⟩,h6,h5⟩
  ·rintro⟨⟨⟨⟨h1,h3⟩,h7⟩,h8⟩,⟨h2,h4⟩,h6,h5⟩;exact⟨⟨h1,h2,h3⟩,h4,h5,⟨h6,by omega⟩,h8⟩
 refine v_StoreOKs s ⟨s.d,⟨⟨(eqD _),trivial⟩,hd⟩,fun hb=>sto_no ?_,fun hb=> ?_⟩
 ·rw[sp,←e0];rintro⟨h1,_⟩;have hb:(!dskOK s.d||(s.d.sec.length:Int) !=69|| !inR s.ep 1 60||decide ((s.log.length:Int)>60)|| !inR s.sure 0 s.log.length||decide ((s.fr.length:Int)>3)|| !inR s.hand 0 2)=true:=hb;rw[h1] at hb;cases hb
 rw[e0] at hb;have hb':=hb;simp only[Bool.or_eq_false_iff,Bool.not_eq_false',decide_eq_false_iff_not] at hb';obtain⟨c1,c2,c3,c4,c5⟩:=(hdr_split s).1 hb'.1.1.1;refine⟨⟨cnt0,⟨⟨rfl,rfl⟩,rfl,trivial⟩,⟨rfl,rfl,eqS _⟩,trivial⟩,fun x=>⟨fun hc=> ?_,fun hc=>⟨⟨cnt0,⟨⟨rfl,rfl⟩,rfl,trivial⟩,⟨rfl,rfl,eqS _⟩,trivial⟩,fun y=>⟨fun hy=> ?_,fun hy=>⟨⟨cnt0,⟨⟨rfl,rfl⟩,rfl,trivial⟩,⟨rfl,rfl,eqS _⟩,trivial⟩,fun z=>⟨fun hz=> ?_,fun hz=> ?_⟩⟩⟩⟩⟩⟩
 ·have hlt:=lt_of_dec hc;refine⟨inB_nat hlt,hm _ (getD_mem hlt),fun _=>add_rng hlt (by omega),fun _ _=>i64_rng (by omega),fun _ h0=>⟨by have:=of_decide_eq_true h0;omega,by omega⟩,fun hq=>sto_no ?_,fun hq=>⟨add_rng hlt (by omega),x.succ hlt ?_,⟨⟨⟨rfl,rfl⟩,by simp only[Cnt.succ];omega,trivial⟩,⟨rfl,rfl,eqS _⟩,trivial⟩,Cnt.ext_lt hlt⟩⟩
  ·rw[sp];rintro⟨_,h1,_⟩;have:=h1 x.val hlt;unfold badRec at this;rw[Int.toNat_natCast,show((x.val:Int)-1).toNat=x.val-1 by omega] at hq
   have hq:=hq.symm.trans this;cases hq
  ·rw[Int.toNat_natCast,show((x.val:Int)-1).toNat=x.val-1 by omega] at hq
   exact hq
 ·have hlt:=lt_of_dec hy;refine⟨inB_nat hlt,(s.fr.getD y.val default).pg,fun _=>⟨⟨⟨rfl,⟨rfl,rowsR _ _⟩,trivial⟩,trivial⟩,hf.2 _ hlt⟩,(s,(s.fr.getD y.val default).no),fun _=>⟨⟨(eqS _),rfl,trivial⟩,hf.1⟩,fun hq=>sto_no ?_,fun hq=>⟨add_rng hlt (by omega),y.succ hlt hq,⟨⟨⟨rfl,rfl⟩,by simp only[Cnt.succ];omega,trivial⟩,⟨rfl,rfl,eqS _⟩,trivial⟩,Cnt.ext_lt hlt⟩⟩
  rw[sp];rintro⟨_,_,h1,_⟩;have:=h1 y.val hlt;have hq:frmBadS s y.val=true:=hq;rw[this] at hq;cases hq
 ·have hlt:z.val<8:=by have:=of_decide_eq_true hz;omega
  refine⟨(s.d,z.val),⟨⟨(eqD _),rfl,trivial⟩,c1,by simp only;omega⟩,fun hq=>sto_no ?_,fun hq=>⟨i64_rng (by omega),z.succ hlt hq,⟨⟨⟨rfl,rfl⟩,by simp only[Cnt.succ];omega,trivial⟩,⟨rfl,rfl,eqS _⟩,trivial⟩,Cnt.ext_lt hlt⟩⟩
  rw[sp];rintro⟨_,_,_,h1⟩;have:=h1 z.val hlt;have hq:badPg s z.val=true:=hq;rw[this] at hq;cases hq
 ·have g1:=le_of_not hc;have g2:=le_of_not hy;have g3:8<=z.val:=by have:=of_decide_eq_false hz;omega
  exact(sp.2 ⟨hb,fun i hi=>x.2.2 i (Nat.lt_of_lt_of_le hi g1),fun i hi=>y.2.2 i (Nat.lt_of_lt_of_le hi g2),fun i hi=>z.2.2 i (Nat.lt_of_lt_of_le hi g3)⟩).symm
end Go.Proofs.YtokaojbaacnngaaGreat

