/- A part of the proof. -/
import Derived.Test.YtokaojbaacnngaaGreatE3
namespace Go.Proofs.YtokaojbaacnngaaGreat
set_option maxRecDepth 100000
open Go.SS

structure Pg where
 lsn:Int
 sl:List (List UInt8)
 deriving Inhabited
def Pg.ts(p:Pg):List T:=[.int .i64 p.lsn,strS p.sl]
def limB(b:Bool):Nat:=match b with|true=>30|false=>160
def longS(b:Bool)(s:List UInt8):Bool:=decide ((s.length:Int)>limB b)
def c_long(b:Bool):List T->Option (T×Option Prop)
 | [.str s]=>some (.bool (longS b s),none)
 |_=>none
def k_PageOK1:Con:=.pure (c_long true)
def k_DiskOK1:Con:=.pure (c_long false)
noncomputable def b_PageOK1:Code:=Tryz.f262.body.getD .skip
theorem call_PageOK1:Callable Tryz.prog 262:=⟨_,Tryz.func262,by kernel_rfl,by kernel_rfl⟩
theorem v_PageOK1(s:List UInt8)(h:
  decide ((s.length:Int)>(30:Int))=longS true s):
  PureFn Tryz.prog 262 [.str s] (.bool (longS true s)):=
 vcR (code:=b_PageOK1) gN Tryz.func262 (by kernel_rfl) (by kernel_rfl) noAnn h (by kernel_rfl)
theorem PageOK1_ok:ConOk Tryz.prog 262 k_PageOK1:=by
 intro args res p h hp;unfold c_long at h;split at h
 ·simp only[Option.some.injEq,Prod.mk.injEq] at h;obtain⟨rfl,rfl⟩:=h;exact v_PageOK1 _ rfl
 ·cases h
noncomputable def b_DiskOK1:Code:=Tryz.f207.body.getD .skip
theorem call_DiskOK1:Callable Tryz.prog 207:=⟨_,Tryz.func207,by kernel_rfl,by kernel_rfl⟩
theorem v_DiskOK1(s:List UInt8)(h:
  decide ((s.length:Int)>(160:Int))=longS false s):
  PureFn Tryz.prog 207 [.str s] (.bool (longS false s)):=
 vcR (code:=b_DiskOK1) gN Tryz.func207 (by kernel_rfl) (by kernel_rfl) noAnn h (by kernel_rfl)
theorem DiskOK1_ok:ConOk Tryz.prog 207 k_DiskOK1:=by
 intro args res p h hp;unfold c_long at h;split at h
 ·simp only[Option.some.injEq,Prod.mk.injEq] at h;obtain⟨rfl,rfl⟩:=h;exact v_DiskOK1 _ rfl
 ·cases h
def longF(b:Bool):T:=fnT (match b with|true=>262|false=>207)
def r_idxStr:Rl:=⟨List (List UInt8)×Bool,fun x=>[strS x.1,longF x.2],fun x=>.int .i64 (fstI x.1.length fun i=>longS x.2 (x.1.getD i [])),fun x=>Len x.1.length⟩
def k_idxStr:Con:=.rel r_idxStr
def A_idxStr(L:List (List UInt8))(b:Bool):Nat->Ann
 |0=>.one (Cnt L.length fun i=>longS b (L.getD i [])) (fun x=>⟨[(0,strS L),(1,longF b),(7,.int .i64 L.length),(8,.int .i64 x.1)],[]⟩) (fun x=>L.length-x.1) [] [] (fun _=>noAnn)
 |_=>.none
noncomputable def b_idxStr:Code:=Tryz.f251.body.getD .skip
theorem call_idxStr:Callable Tryz.prog 251:=⟨_,Tryz.func251,by kernel_rfl,by kernel_rfl⟩
theorem v_idxStrT(L:List (List UInt8))(h:
  (∃(x:Cnt L.length fun(i:Nat)=>longS true (L.getD i [])),((EqL strRow L L)/\Value.func (Fn.func 262) #[] #[]=Value.func (Fn.func 262) #[] #[]/\(L.length:Int)=(L.length:Int)/\(0:Int)=(x.val:Int)/\True)/\True)/\
  ∀(x:Cnt L.length fun(i:Nat)=>longS true (L.getD i [])),(decide ((x.val:Int)<(L.length:Int))=true->InB (x.val:Int) L.length/\(longS true (L.getD (x.val:Int).toNat [])=true->(x.val:Int)=fstI L.length fun(i:
  Nat)=>longS true (L.getD i []))/\(longS true (L.getD (x.val:Int).toNat [])=false->Rng .i64 ((x.val:Int)+(1:Int))/\∃(y:Cnt L.length fun(i:Nat)=>longS true (L.getD i [])),(((EqL strRow L L)/\Value.func (Fn.func
  262) #[] #[]=Value.func (Fn.func 262) #[] #[]/\(L.length:Int)=(L.length:Int)/\(x.val:Int)+(1:Int)=(y.val:Int)/\True)/\True)/\Lt (L.length-y.val) (L.length-x.val)))/\(decide ((x.val:Int)<(L.length:Int))=
  false->(-1:Int)=fstI L.length fun(i:Nat)=>longS true (L.getD i []))):
  PureFn Tryz.prog 251 [strS L,longF true] (.int .i64 (fstI L.length fun i=>longS true (L.getD i []))):=
 vcR (code:=b_idxStr) (gC PageOK1_ok call_PageOK1 gN) Tryz.func251 (by kernel_rfl) (by kernel_rfl) (A_idxStr L true) h (by kernel_rfl)
theorem v_idxStrF(L:List (List UInt8))(h:
  (∃(x:Cnt L.length fun(i:Nat)=>longS false (L.getD i [])),((EqL strRow L L)/\Value.func (Fn.func 207) #[] #[]=Value.func (Fn.func 207) #[] #[]/\(L.length:Int)=(L.length:Int)/\(0:Int)=(x.val:Int)/\True)/\True)
  /\∀(x:Cnt L.length fun(i:Nat)=>longS false (L.getD i [])),(decide ((x.val:Int)<(L.length:Int))=true->InB (x.val:Int) L.length/\(longS false (L.getD (x.val:Int).toNat [])=true->(x.val:Int)=fstI L.length fun(i:
  Nat)=>longS false (L.getD i []))/\(longS false (L.getD (x.val:Int).toNat [])=false->Rng .i64 ((x.val:Int)+(1:Int))/\∃(y:Cnt L.length fun(i:Nat)=>longS false (L.getD i [])),(((EqL strRow L L)/\Value.func
  (Fn.func 207) #[] #[]=Value.func (Fn.func 207) #[] #[]/\(L.length:Int)=(L.length:Int)/\(x.val:Int)+(1:Int)=(y.val:Int)/\True)/\True)/\Lt (L.length-y.val) (L.length-x.val)))/\(decide ((x.val:Int)<
  (L.length:Int))=false->(-1:Int)=fstI L.length fun(i:Nat)=>longS false (L.getD i []))):
  PureFn Tryz.prog 251 [strS L,longF false] (.int .i64 (fstI L.length fun i=>longS false (L.getD i []))):=
 vcR (code:=b_idxStr) (gC DiskOK1_ok call_DiskOK1 gN) Tryz.func251 (by kernel_rfl) (by kernel_rfl) (A_idxStr L false) h (by kernel_rfl)
theorem idxStr_ok:ConOk Tryz.prog 251 k_idxStr:=by
 rintro⟨L,b⟩ (hL:L.length<1000000000000);cases b
 ·refine v_idxStrF L ⟨⟨cnt0,⟨⟨rfl,fun _ _=>rfl⟩,rfl,rfl,rfl,trivial⟩,trivial⟩,fun x=>⟨fun hc=> ?_,fun hc=> ?_⟩⟩
  ·have hlt:=lt_of_dec hc;exact⟨inB_nat hlt,fun hp=>(fstI_at hlt hp x.2.2).symm,fun hp=>⟨add_rng hlt (by omega),x.succ hlt hp,⟨⟨⟨rfl,fun _ _=>rfl⟩,rfl,rfl,rfl,trivial⟩,trivial⟩,Cnt.ext_lt hlt⟩⟩
  ·have hge:=le_of_not hc;exact(fstI_no fun j hj=>x.2.2 j (Nat.lt_of_lt_of_le hj hge)).symm
 ·refine v_idxStrT L ⟨⟨cnt0,⟨⟨rfl,fun _ _=>rfl⟩,rfl,rfl,rfl,trivial⟩,trivial⟩,fun x=>⟨fun hc=> ?_,fun hc=> ?_⟩⟩
  ·have hlt:=lt_of_dec hc;exact⟨inB_nat hlt,fun hp=>(fstI_at hlt hp x.2.2).symm,fun hp=>⟨add_rng hlt (by omega),x.succ hlt hp,⟨⟨⟨rfl,fun _ _=>rfl⟩,rfl,rfl,rfl,trivial⟩,trivial⟩,Cnt.ext_lt hlt⟩⟩
  ·have hge:=le_of_not hc;exact(fstI_no fun j hj=>x.2.2 j (Nat.lt_of_lt_of_le hj hge)).symm
def r_anyStr:Rl:=⟨List (List UInt8)×Bool,fun x=>[strS x.1,longF x.2],fun x=>.bool (anyI x.1.length fun i=>longS x.2 (x.1.getD i [])),fun x=>Len x.1.length⟩
def k_anyStr:Con:=.rel r_anyStr
noncomputable def b_anyStr:Code:=Tryz.f206.body.getD .skip
theorem call_anyStr:Callable Tryz.prog 206:=⟨_,Tryz.func206,by kernel_rfl,by kernel_rfl⟩
theorem v_anyStrT(L:List (List UInt8))(h:
  ∃(x:r_idxStr.ι),(((EqL strRow L x.fst)/\Value.func (Fn.func 262) #[] #[]=Value.func (Fn.func (match x.snd with|true=>262|false=>207)) #[] #[]/\True)/\Len x.fst.length)/\decide ((fstI x.fst.length fun(i:Nat)=>longS x.snd (x.fst.getD i []))≥(0:Int))=anyI L.length fun(i:Nat)=>longS true (L.getD i [])):
  PureFn Tryz.prog 206 [strS L,longF true] (.bool (anyI L.length fun i=>longS true (L.getD i []))):=
 vcR (code:=b_anyStr) (gC idxStr_ok call_idxStr gN) Tryz.func206 (by kernel_rfl) (by kernel_rfl) noAnn h (by kernel_rfl)
theorem v_anyStrF(L:List (List UInt8))(h:
  ∃(x:r_idxStr.ι),(((EqL strRow L x.fst)/\Value.func (Fn.func 207) #[] #[]=Value.func (Fn.func (match x.snd with|true=>262|false=>207)) #[] #[]/\True)/\Len x.fst.length)/\decide ((fstI x.fst.length fun(i:Nat)=>longS x.snd (x.fst.getD i []))≥(0:Int))=anyI L.length fun(i:Nat)=>longS false (L.getD i [])):
  PureFn Tryz.prog 206 [strS L,longF false] (.bool (anyI L.length fun i=>longS false (L.getD i []))):=
 vcR (code:=b_anyStr) (gC idxStr_ok call_idxStr gN) Tryz.func206 (by kernel_rfl) (by kernel_rfl) noAnn h (by kernel_rfl)
theorem anyStr_ok:ConOk Tryz.prog 206 k_anyStr:=by
 rintro⟨L,b⟩ (hL:L.length<1000000000000);cases b
 ·exact v_anyStrF L ⟨(L,false),⟨⟨⟨rfl,fun _ _=>rfl⟩,rfl,trivial⟩,hL⟩,anyI_fst _ _⟩
 ·exact v_anyStrT L ⟨(L,true),⟨⟨⟨rfl,fun _ _=>rfl⟩,rfl,trivial⟩,hL⟩,anyI_fst _ _⟩
def PgP(p:Pg):Prop:=0<=p.lsn/\p.lsn<=1000/\p.sl.length=4/\∀i,i<p.sl.length->(p.sl.getD i []).length<=30
noncomputable instance(p:Pg):Decidable (PgP p):=Classical.propDecidable _
noncomputable def pgOK(p:Pg):Bool:=decide (PgP p)
def PgB(p:Pg):Prop:=Len p.sl.length
noncomputable def r_PageOK:Rl:=⟨Pg,fun p=>[.agg p.ts],fun p=>.bool (pgOK p),PgB⟩
noncomputable def k_PageOKi:Con:=.rel r_PageOK
noncomputable def k_PageOKs:Con:=.rel r_PageOK
noncomputable def b_PageOKi:Code:=Tryz.f216.body.getD .skip
theorem call_PageOKi:Callable Tryz.prog 216:=⟨_,Tryz.func216,by kernel_rfl,by kernel_rfl⟩
theorem v_PageOKi(p:Pg)(h:
  ∃(x:r_anyStr.ι),((inR p.lsn (0:Int) (1000:Int)&&(p.sl.length:Int)==(4:Int))=true->((EqL strRow p.sl x.fst)/\Value.func (Fn.func 262) #[] #[]=Value.func (Fn.func (match x.snd with|true=>262|false=>207)) #[] #[]/\True)/\Len x.fst.length)/\(inR p.lsn (0:Int) (1000:Int)&&(p.sl.length:Int)==(4:Int)&& !anyI x.fst.length fun(i:Nat)=>longS x.snd (x.fst.getD i []))=pgOK p):
  PureFn Tryz.prog 216 [.agg p.ts] (.bool (pgOK p)):=
 vcR (code:=b_PageOKi) (gC inRange_ok call_inRange (gC anyStr_ok call_anyStr gN)) Tryz.func216 (by kernel_rfl) (by kernel_rfl) noAnn h (by kernel_rfl)
noncomputable def b_PageOKs:Code:=Tryz.f139.body.getD .skip
theorem call_PageOKs:Callable Tryz.prog 139:=⟨_,Tryz.func139,by kernel_rfl,by kernel_rfl⟩
def A_PageOKs(p:Pg):Nat->Ann
 |0=>.one (Cnt 4 fun i=>longS true (p.sl.getD i [])) (fun x=>⟨[(1,.ref 0 0 0),(3,.int .i64 x.1)],[some (.arr true 1000000 2 1 fun _=>p.ts)]⟩) (fun x=>4-x.1) [.box 0] [.box 0] (fun _=>noAnn)
 |_=>.none
theorem v_PageOKs(p:Pg)(h:
  ((!inR p.lsn (0:Int) (1000:Int)||(p.sl.length:Int) !=(4:Int))=true->false=pgOK p)/\((!inR p.lsn (0:Int) (1000:Int)||(p.sl.length:Int) !=(4:Int))=false->(∃(x:Cnt 4 fun(i:Nat)=>longS true
  (p.sl.getD i [])),((0=0/\0=0)/\(0:Int)=(x.val:Int)/\True)/\(1=1/\1=1/\p.lsn=p.lsn/\(EqL strRow p.sl p.sl)/\True)/\True)/\∀(x:Cnt 4 fun(i:Nat)=>longS true (p.sl.getD i [])),(decide ((x.val:Int)<
  (4:Int))=true->InB (x.val:Int) p.sl.length/\(decide ((↑(p.sl.getD (x.val:Int).toNat []).length:Int)>(30:Int))=true->false=pgOK p)/\(decide ((↑(p.sl.getD (x.val:Int).toNat []).length:Int)>(30:Int))=false->
  Rng .i64 ((x.val:Int)+(1:Int))/\∃(y:Cnt 4 fun(i:Nat)=>longS true (p.sl.getD i [])),(((0=0/\0=0)/\(x.val:Int)+(1:Int)=(y.val:Int)/\True)/\(1=1/\1=1/\p.lsn=p.lsn/\(EqL strRow p.sl p.sl)/\True)/\
  True)/\Lt (4-y.val) (4-x.val)))/\(decide ((x.val:Int)<(4:Int))=false->true=pgOK p))):
  PureFn Tryz.prog 139 [.agg p.ts] (.bool (pgOK p)):=
 vcR (code:=b_PageOKs) (gC l01In_ok call_l01In gN) Tryz.func139 (by kernel_rfl) (by kernel_rfl) (A_PageOKs p) h (by kernel_rfl)
def r_NewPage:Rl:=⟨Unit,fun _=>[],fun _=>.agg (Pg.ts ⟨0,[[],[],[],[]]⟩),fun _=>True⟩
def k_NewPagei:Con:=.rel r_NewPage
def k_NewPages:Con:=.rel r_NewPage
noncomputable def b_NewPagei:Code:=Tryz.f213.body.getD .skip
theorem call_NewPagei:Callable Tryz.prog 213:=⟨_,Tryz.func213,by kernel_rfl,by kernel_rfl⟩
theorem v_NewPagei(h:
  (Nn (4:Int)/\LeI (4:Int) (4:Int)/\sizeB 16 4 140737488355328/\Lt 4 9223372036854775808)/\Le 4 4/\(0:Int)=(0:Int)/\(4=4/\RowsEq 4 (fun(x:Nat)=>[T.str []]) (strRow [[],[],[],[]]))/\True):
  PureFn Tryz.prog 213 [] (.agg (Pg.ts ⟨0,[[],[],[],[]]⟩)):=
 vcR (code:=b_NewPagei) gN Tryz.func213 (by kernel_rfl) (by kernel_rfl) noAnn h (by kernel_rfl)
noncomputable def b_NewPages:Code:=Tryz.f201.body.getD .skip
theorem call_NewPages:Callable Tryz.prog 201:=⟨_,Tryz.func201,by kernel_rfl,by kernel_rfl⟩
theorem v_NewPages(h:
  (Nn (4:Int)/\LeI (4:Int) (4:Int)/\sizeB 16 4 140737488355328/\Lt 4 9223372036854775808)/\Le 4 4/\(0:Int)=(0:Int)/\(4=4/\RowsEq 4 (fun(x:Nat)=>[T.str []]) (strRow [[],[],[],[]]))/\True):
  PureFn Tryz.prog 201 [] (.agg (Pg.ts ⟨0,[[],[],[],[]]⟩)):=
 vcR (code:=b_NewPages) gN Tryz.func201 (by kernel_rfl) (by kernel_rfl) noAnn h (by kernel_rfl)
theorem longT_no{s:List UInt8}:longS true s=false↔s.length<=30:=by
 unfold longS;rw[decide_eq_false_iff_not];show ¬ (s.length:Int)>((30:Nat):Int)↔_;omega
theorem longF_no{s:List UInt8}:longS false s=false↔s.length<=160:=by
 unfold longS;rw[decide_eq_false_iff_not];show ¬ (s.length:Int)>((160:Nat):Int)↔_;omega
theorem anyI_no{n:Nat}{p:Nat->Bool}:anyI n p=false↔∀i,i<n->p i=false:=by
 rw[Bool.eq_false_iff,ne_eq,anyI_iff];constructor
 ·intro h i hi;exact Bool.eq_false_iff.2 fun hp=>h ⟨i,hi,hp⟩
 ·rintro h ⟨i,hi,hp⟩;rw[h i hi] at hp;cases hp
theorem pgOK_iff(p:Pg):pgOK p=true↔PgP p:=decide_eq_true_iff
theorem PageOKi_ok:ConOk Tryz.prog 216 k_PageOKi:=by
 intro(p:Pg) (hp:p.sl.length<1000000000000);refine v_PageOKi p ⟨(p.sl,true),fun _=>⟨⟨⟨rfl,rowsR _ _⟩,rfl,trivial⟩,hp⟩,?_⟩
 rw[Bool.eq_iff_iff,pgOK_iff];simp only[Bool.and_eq_true,Bool.not_eq_true',beq_iff_eq,inR,decide_eq_true_eq,anyI_no];constructor
 ·rintro⟨⟨⟨h1,h2⟩,h3⟩,h4⟩;exact⟨h1,h2,by omega,fun i hi=>longT_no.1 (h4 i hi)⟩
 ·rintro⟨h1,h2,h3,h4⟩;exact⟨⟨⟨h1,h2⟩,by omega⟩,fun i hi=>longT_no.2 (h4 i hi)⟩
theorem pg_no{p:Pg}(h:¬PgP p):false=pgOK p:=(decide_eq_false h).symm
theorem PageOKs_ok:ConOk Tryz.prog 139 k_PageOKs:=by
 intro(p:Pg) (hp:p.sl.length<1000000000000);refine v_PageOKs p ⟨fun h=>pg_no ?_,fun h=> ?_⟩
 ·rintro⟨h1,h2,h3,_⟩;simp[inR] at h;omega
 simp[inR] at h;refine⟨⟨cnt0,⟨⟨rfl,rfl⟩,rfl,trivial⟩,⟨rfl,rfl,rfl,⟨rfl,rowsR _ _⟩,trivial⟩,trivial⟩,fun x=>⟨fun hc=> ?_,fun hc=> ?_⟩⟩
 ·have hlt:x.val<4:=by have:=of_decide_eq_true hc;omega
  refine⟨⟨by omega,by omega⟩,fun hb=>pg_no ?_,fun hb=>⟨i64_rng (by omega),x.succ hlt hb,⟨⟨⟨rfl,rfl⟩,rfl,trivial⟩,⟨rfl,rfl,rfl,⟨rfl,rowsR _ _⟩,trivial⟩,trivial⟩,Cnt.ext_lt hlt⟩⟩
  rintro⟨_,_,_,h4⟩;have:=h4 x.val (by omega)
  rw[Int.toNat_natCast,decide_eq_true_eq] at hb;omega
 ·refine(decide_eq_true ⟨h.1.1,h.1.2,by omega,fun i hi=> ?_⟩).symm
  exact longT_no.1 (x.2.2 i (by have:=of_decide_eq_false hc;omega))
theorem rows_new:RowsEq 4 (fun _=>[T.str []]) (strRow [[],[],[],[]]):=by
 intro i hi
 match i,hi with
 |0,_=>rfl
 |1,_=>rfl
 |2,_=>rfl
 |3,_=>rfl
theorem NewPagei_ok:ConOk Tryz.prog 213 k_NewPagei:=fun _ _=>v_NewPagei ⟨⟨by unfold Nn;omega,by unfold LeI;omega,by unfold sizeB;omega,by unfold Lt;omega⟩,Nat.le_refl _,rfl,⟨rfl,rows_new⟩,trivial⟩
theorem NewPages_ok:ConOk Tryz.prog 201 k_NewPages:=fun _ _=>v_NewPages ⟨⟨by unfold Nn;omega,by unfold LeI;omega,by unfold sizeB;omega,by unfold Lt;omega⟩,Nat.le_refl _,rfl,⟨rfl,rows_new⟩,trivial⟩
def hdrOK(no:Int)(x:List UInt8):Bool:=decide (5<=x.length)&&(x.getD 0 0==112&&decide (((x.getD 1 0).toNat:Int)=no))
def pgX(x:List UInt8):Pg:=⟨be ((x.drop 2).take 2),(flAll (x.drop 4)).getD []⟩
noncomputable def rdPg(no:Int)(b:List UInt8):Pg×Bool:=if unsOK b&&hdrOK no (unsB b) then(pgX (unsB b),(flAll ((unsB b).drop 4)).isSome&&pgOK (pgX (unsB b))) else(⟨0,[]⟩,false)
noncomputable def rdPgI(no:Int)(b:List UInt8):Pg:=if(rdPg no b).2 then(rdPg no b).1 else⟨0,[]⟩
noncomputable def rdCode(no:Int)(b:List UInt8):Int:=if unsOK b then(if(rdPg no b).2 then 0 else 3) else 8
def RdB(b:List UInt8):Prop:=b.length<=1000
noncomputable def r_ReadPage:Rl:=⟨Int×List UInt8,fun x=>[.int .i64 x.1,.bys x.2],fun x=>.tup [.agg (rdPgI x.1 x.2).ts,.int .i64 (rdCode x.1 x.2)],fun x=>RdB x.2⟩
noncomputable def k_ReadPage:Con:=.rel r_ReadPage
noncomputable def b_ReadPage:Code:=Tryz.f214.body.getD .skip
theorem call_ReadPage:Callable Tryz.prog 214:=⟨_,Tryz.func214,by kernel_rfl,by kernel_rfl⟩
theorem v_ReadPage(no:Int)(b:List UInt8)(h:
  (decide ((b.length:Int)>(65536:Int))=true->((0:Int)=(rdPgI no b).lsn/\(rdPgI no b).sl.length=0/\True)/\(2:Int)=rdCode no b/\True)/\(decide ((b.length:Int)>(65536:Int))=false->∃(x:r_unsealed.ι),((b
  =x/\True)/\Len31 x)/\((!unsOK x)=true->((0:Int)=(rdPgI no b).lsn/\(rdPgI no b).sl.length=0/\True)/\(8:Int)=rdCode no b/\True)/\((!unsOK x)=false->Small47 (4:Int)/\InC (2:Int) (takeR (unsB x) (4:
  Int)).length/\∃(x_1:r_big.ι),((List.drop 2 (takeR (unsB x) (4:Int))=x_1/\True)/\Len4 x_1)/\((!(!(fsEnd (restR (unsB x) (4:Int)) (false||big (unsB x) (4:Int))).fl&&(fsEnd (restR (unsB x) (4:Int)) (false||big
  (unsB x) (4:Int))).l.isEmpty))=false->InB (0:Int) (takeR (unsB x) (4:Int)).length)/\((!(!(fsEnd (restR (unsB x) (4:Int)) (false||big (unsB x) (4:Int))).fl&&(fsEnd (restR (unsB x) (4:Int)) (false||big (unsB x)
  (4:Int))).l.isEmpty)||(↑((takeR (unsB x) (4:Int)).getD 0 (0:UInt8)).toNat:Int) !=(112:Int))=false->InB (1:Int) (takeR (unsB x) (4:Int)).length)/\∃(x_2:r_PageOK.ι),((!(!(fsEnd (restR (unsB x) (4:Int))
  (false||big (unsB x) (4:Int))).fl&&(fsEnd (restR (unsB x) (4:Int)) (false||big (unsB x) (4:Int))).l.isEmpty)||(↑((takeR (unsB x) (4:Int)).getD 0 (0:UInt8)).toNat:Int) !=(112:Int)||IntKind.i64.wrap
  (↑((takeR (unsB x) (4:Int)).getD 1 (0:UInt8)).toNat:Int) !=no)=false->(((↑(be x_1):Int)=x_2.lsn/\(EqL strRow (fsEnd (restR (unsB x) (4:Int)) (false||big (unsB x) (4:Int))).out x_2.sl)/\True)/\True)/\PgB
  x_2)/\((!(!(fsEnd (restR (unsB x) (4:Int)) (false||big (unsB x) (4:Int))).fl&&(fsEnd (restR (unsB x) (4:Int)) (false||big (unsB x) (4:Int))).l.isEmpty)||(↑((takeR (unsB x) (4:Int)).getD 0 (0:UInt8)).toNat:
  Int) !=(112:Int)||IntKind.i64.wrap (↑((takeR (unsB x) (4:Int)).getD 1 (0:UInt8)).toNat:Int) !=no|| !pgOK x_2)=true->((0:Int)=(rdPgI no b).lsn/\(rdPgI no b).sl.length=0/\True)/\(3:Int)=rdCode no b/\
  True)/\((!(!(fsEnd (restR (unsB x) (4:Int)) (false||big (unsB x) (4:Int))).fl&&(fsEnd (restR (unsB x) (4:Int)) (false||big (unsB x) (4:Int))).l.isEmpty)||(↑((takeR (unsB x) (4:Int)).getD 0 (0:UInt8)).toNat:
  Int) !=(112:Int)||IntKind.i64.wrap (↑((takeR (unsB x) (4:Int)).getD 1 (0:UInt8)).toNat:Int) !=no|| !pgOK x_2)=false->((↑(be x_1):Int)=(rdPgI no b).lsn/\(EqL strRow (fsEnd (restR (unsB x) (4:Int)) (false||
  big (unsB x) (4:Int))).out (rdPgI no b).sl)/\True)/\(0:Int)=rdCode no b/\True)))):
  PureFn Tryz.prog 214 [.int .i64 no,.bys b] (.tup [.agg (rdPgI no b).ts,.int .i64 (rdCode no b)]):=
 vcR (code:=b_ReadPage) (gC unsealed_ok call_unsealed (gC take_ok call_take (gC big_ok call_big (gC fields_ok call_fields (gC isDone_ok call_isDone (gC PageOKi_ok call_PageOKi gN)))))) Tryz.func214 (by kernel_rfl) (by kernel_rfl) noAnn h (by kernel_rfl)
noncomputable def r_l03Read:Rl:=⟨Int×List UInt8,fun x=>[.int .i64 x.1,.str x.2],fun x=>.tup [.agg (rdPg x.1 x.2).1.ts,.bool (rdPg x.1 x.2).2],fun x=>RdB x.2⟩
noncomputable def k_l03Read:Con:=.rel r_l03Read
noncomputable def b_l03Read:Code:=Tryz.f202.body.getD .skip
theorem call_l03Read:Callable Tryz.prog 202:=⟨_,Tryz.func202,by kernel_rfl,by kernel_rfl⟩
theorem v_l03Read(no:Int)(b:List UInt8)(h:
  ∃(x:r_unseal.ι),((b=x/\True)/\Len31 x)/\((!unsOK x||decide ((↑(unsB x).length:Int)<(5:Int)))=false->InB (0:Int) (unsB x).length)/\((!unsOK x||decide ((↑(unsB x).length:Int)<(5:Int))||(↑((unsB
  x).getD 0 (0:UInt8)).toNat:Int) !=(112:Int))=false->InB (1:Int) (unsB x).length)/\((!unsOK x||decide ((↑(unsB x).length:Int)<(5:Int))||(↑((unsB x).getD 0 (0:UInt8)).toNat:Int) !=(112:Int)||
  IntKind.i64.wrap (↑((unsB x).getD 1 (0:UInt8)).toNat:Int) !=no)=true->((0:Int)=(rdPg no b).fst.lsn/\(rdPg no b).fst.sl.length=0/\True)/\false=(rdPg no b).snd/\True)/\((!unsOK x||decide ((↑(unsB x).length:
  Int)<(5:Int))||(↑((unsB x).getD 0 (0:UInt8)).toNat:Int) !=(112:Int)||IntKind.i64.wrap (↑((unsB x).getD 1 (0:UInt8)).toNat:Int) !=no)=false->InC (4:Int) (unsB x).length/\∃(x_1:r_l01Read.ι),((List.drop
  4 (unsB x)=x_1/\True)/\Len31 x_1)/\InC2 (2:Int) (4:Int) (unsB x).length/\∃(x_2:r_l01Of.ι),((List.drop 2 (List.take 4 (unsB x))=x_2/\True)/\Len4 x_2)/\∃(x:r_PageOK.ι),((flAll x_1).isSome=true->(((↑(be x_2)
  :Int)=x.lsn/\(EqL strRow ((flAll x_1).getD []) x.sl)/\True)/\True)/\PgB x)/\((↑(be x_2):Int)=(rdPg no b).fst.lsn/\(EqL strRow ((flAll x_1).getD []) (rdPg no b).fst.sl)/\True)/\((flAll x_1).isSome&&pgOK x)=(rdPg
  no b).snd/\True)):
  PureFn Tryz.prog 202 [.int .i64 no,.str b] (.tup [.agg (rdPg no b).1.ts,.bool (rdPg no b).2]):=
 vcR (code:=b_l03Read) (gC l03Unseal_ok call_l03Unseal (gC l01Read_ok call_l01Read (gC l01Of_ok call_l01Of (gC PageOKs_ok call_PageOKs gN)))) Tryz.func202 (by kernel_rfl) (by kernel_rfl) noAnn h (by kernel_rfl)
theorem l03Read_ok:ConOk Tryz.prog 202 k_l03Read:=by
 rintro⟨no,b⟩ (hb:b.length<=1000);have hx:(unsB b).length<=1000:=by
  unfold unsB;split
  ·rw[List.length_take];omega
  ·exact Nat.zero_le _
 have hh:(!unsOK b||decide (((unsB b).length:Int)<5)||(((unsB b).getD 0 0).toNat:Int) !=112||IntKind.i64.wrap (((unsB b).getD 1 0).toNat:Int) !=no)= !(unsOK b&&hdrOK no (unsB b)):=by
  rw[byte_nat];unfold hdrOK;have:((unsB b).getD 0 0==112)=((((unsB b).getD 0 0).toNat:Int)==112):=by
   rw[Bool.eq_iff_iff,beq_iff_eq,beq_iff_eq,←UInt8.toNat_inj];exact⟨fun h=>by rw[h];rfl,fun h=>by have:((112:UInt8).toNat:Int)=112:=rfl;omega⟩
  rw[this];have h5:decide (((unsB b).length:Int)<5)= !decide (5<=(unsB b).length):=by rw[←decide_not];exact decide_eq_decide.2 (by omega)
  have hn:((((unsB b).getD 1 0).toNat:Int) !=no)= !decide ((((unsB b).getD 1 0).toNat:Int)=no):=by rw[Bool.eq_iff_iff];simp
  rw[h5,hn,bne];cases unsOK b<;>cases decide (5<=(unsB b).length)<;>cases((((unsB b).getD 0 0).toNat:Int)==112)<;>simp
 refine v_l03Read no b ⟨b,⟨⟨rfl,trivial⟩,Nat.le_trans hb (by decide)⟩,fun h=> ?_,fun h=> ?_,fun h=> ?_,fun h=> ?_⟩
 ·simp only[Bool.or_eq_false_iff,decide_eq_false_iff_not] at h;exact⟨by omega,by omega⟩
 ·simp only[Bool.or_eq_false_iff,decide_eq_false_iff_not] at h;exact⟨by omega,by omega⟩
 ·rw[hh] at h;have h:(unsOK b&&hdrOK no (unsB b))=false:=(Bool.not_eq_true' _).mp h;have e:rdPg no b=(⟨0,[]⟩,false):=by unfold rdPg;rw[h];rfl
  rw[e];exact⟨⟨rfl,rfl,trivial⟩,rfl,trivial⟩
 ·rw[hh] at h;have h:(unsOK b&&hdrOK no (unsB b))=true:=(Bool.not_eq_false' _).mp h;have h5:5<=(unsB b).length:=by simp only[hdrOK,Bool.and_eq_true,decide_eq_true_eq] at h;exact h.2.1
  have e:rdPg no b=(pgX (unsB b),(flAll ((unsB b).drop 4)).isSome&&pgOK (pgX (unsB b))):=by unfold rdPg;rw[h];rfl
  rw[e];refine⟨⟨by omega,by omega⟩,(unsB b).drop 4,⟨⟨rfl,trivial⟩,by unfold Len31;rw[List.length_drop];omega⟩,⟨by omega,by omega,by omega⟩,((unsB b).drop 2).take 2,⟨⟨?_,trivial⟩,by unfold Len4;rw[List.length_take];omega⟩,pgX (unsB b),
   fun _=>⟨⟨⟨rfl,⟨rfl,rowsR _ _⟩,trivial⟩,trivial⟩,?_⟩,⟨rfl,⟨rfl,rowsR _ _⟩,trivial⟩,rfl,trivial⟩
  ·rw[List.drop_take]
  ·show((flAll ((unsB b).drop 4)).getD []).length<1000000000000;unfold flAll;split
   ·decide
   ·split
    ·rename_i p out ho;split
     ·have:=fl_len ho;have:=byte_lt ((unsB b).drop 4) 0;simp only[Option.getD_some,fcnt] at*;omega
     ·decide
    ·decide
theorem drop_getD(r:List UInt8)(p i:Nat):(r.drop p).getD i 0=r.getD (p+i) 0:=by
 simp[List.getD_eq_getElem?_getD]
theorem fs_fl(r:List UInt8)(hr:0<r.length):∀i,match flAt r i with
  |some (p,out)=>fsN r false i=⟨r.drop p,false,out⟩/\p<=r.length
  |none=>(fsN r false i).fl=true
 |0=>by
  have:r.isEmpty=false:=by cases r with
   |nil=>simp at hr
   |cons=>rfl
  simp only[flAt,fsN,Fst.go,fs0,this,Bool.or_false];exact⟨trivial,hr⟩
 |i+1=>by
  have ih:=fs_fl r hr i;have hgo:fsN r false (i+1)=Fst.step (fsN r false i):=rfl;cases hf:flAt r i with
  |none=>
   rw[hf] at ih;have:flAt r (i+1)=none:=fl_none hf 1;rw[this,hgo];simp only at ih ⊢;simp[Fst.step,ih]
  |some x=>
   obtain⟨p,out⟩:=x;rw[hf] at ih;obtain⟨h1,h2⟩:=ih;rw[fl_step hf,hgo,h1];have hnum:numR (r.drop p)=((r.getD p 0).toNat:Int):=by unfold numR;rw[drop_getD,Nat.add_zero]
   have hbig:big ((r.drop p).drop 1) (numR (r.drop p))=decide (¬ (p+1+(r.getD p 0).toNat<=r.length∨r.length<p+1/\(r.getD p 0).toNat=0)):=by
    unfold big;rw[hnum];refine decide_eq_decide.2 ?_
    simp only[List.length_drop];omega
   have hemp:(r.drop p).isEmpty=decide (¬p<r.length):=by
    rw[Bool.eq_iff_iff,List.isEmpty_iff,decide_eq_true_eq,List.drop_eq_nil_iff];omega
   simp only[Fst.step];rw[hbig,hemp];by_cases hc:p<r.length/\p+1+(r.getD p 0).toNat<=r.length
   ·rw[if_pos hc];simp only;have e1:decide (¬p<r.length)=false:=decide_eq_false (by omega)
    have e2:decide (¬ (p+1+(r.getD p 0).toNat<=r.length∨r.length<p+1/\(r.getD p 0).toNat=0))=false:=decide_eq_false (by omega)
    rw[e1,e2];have hbig':big ((r.drop p).drop 1) (numR (r.drop p))=false:=by rw[hbig,e2]
    unfold restR takeR;rw[hbig'];simp only[Bool.false_eq_true,if_false,Bool.or_false];refine⟨?_,hc.2⟩
    rw[hnum,Int.toNat_natCast,List.drop_drop,List.drop_drop,List.drop_take,show p+1+(r.getD p 0).toNat- (p+1)=(r.getD p 0).toNat by omega,List.drop_drop,Nat.add_assoc]
   ·rw[if_neg hc];simp only;rw[Bool.or_eq_true,Bool.or_eq_true];by_cases hp:p<r.length
    ·exact .inr (decide_eq_true (by omega))
    ·exact .inl (.inr (decide_eq_true hp))
theorem fs_fail(l:List UInt8):∀i,(fsN l true i).fl=true
 |0=>by simp[fsN,Fst.go,fs0]
 |i+1=>by
  have:=fs_fail l i;simp only[fsN] at this ⊢;simp[Fst.go,Fst.step,this]
theorem fs_nil(fl:Bool):∀i,(fsN [] fl i).fl=true
 |0=>by simp[fsN,Fst.go,fs0]
 |i+1=>by
  have:=fs_nil fl i;simp only[fsN] at this ⊢;simp[Fst.go,Fst.step,this]
noncomputable def rpQ(x:List UInt8):Pg:=⟨be ((takeR x 4).drop 2),(fsEnd (restR x 4) (false||big x 4)).out⟩
noncomputable def rpBad(no:Int)(x:List UInt8):Bool:=(!(!(fsEnd (restR x 4) (false||big x 4)).fl&&(fsEnd (restR x 4) (false||big x 4)).l.isEmpty)||(((takeR x 4).getD 0 0).toNat:Int) !=112||IntKind.i64.wrap (((takeR x 4).getD 1 0).toNat:Int) !=no)
theorem rp_ok(no:Int)(b:List UInt8)(hu:unsOK b=true):(rpBad no (unsB b)|| !pgOK (rpQ (unsB b)))= !(rdPg no b).2/\((rdPg no b).2=true->rpQ (unsB b)=(rdPg no b).1):=by
 have hr:rdPg no b=if hdrOK no (unsB b) then(pgX (unsB b),(flAll ((unsB b).drop 4)).isSome&&pgOK (pgX (unsB b))) else(⟨0,[]⟩,false):=by unfold rdPg;rw[hu,Bool.true_and]
 generalize unsB b=x at hr;rw[hr];by_cases h5:5<=x.length
 ·have hbig:big x 4=false:=decide_eq_false (by omega)
  have hR:restR x 4=x.drop 4:=by unfold restR;rw[hbig];rfl
  have hA:takeR x 4=x.take 4:=by unfold takeR;rw[hbig];rfl
  have h0:(x.take 4).getD 0 0=x.getD 0 0:=by simp[List.getD_eq_getElem?_getD,List.getElem?_take]
  have h1:(x.take 4).getD 1 0=x.getD 1 0:=by simp[List.getD_eq_getElem?_getD,List.getElem?_take]
  have h2:(x.take 4).drop 2=(x.drop 2).take 2:=by rw[List.drop_take]
  have hq:rpQ x=⟨be ((x.drop 2).take 2),(fsEnd (x.drop 4) false).out⟩:=by unfold rpQ;rw[hR,hA,hbig,h2];rfl
  have hb:rpBad no x=(!(!(fsEnd (x.drop 4) false).fl&&(fsEnd (x.drop 4) false).l.isEmpty)||((x.getD 0 0).toNat:Int) !=112||((x.getD 1 0).toNat:Int) !=no):=by unfold rpBad;rw[hR,hA,hbig,h0,h1,byte_nat];rfl
  have hhd:hdrOK no x= !(((x.getD 0 0).toNat:Int) !=112||((x.getD 1 0).toNat:Int) !=no):=by
   unfold hdrOK;rw[Bool.eq_iff_iff];simp only[Bool.and_eq_true,decide_eq_true_eq,beq_iff_eq,Bool.not_eq_true',Bool.or_eq_false_iff,bne_eq_false_iff_eq];have:x.getD 0 0=112↔((x.getD 0 0).toNat:Int)=112:=by
    rw[←UInt8.toNat_inj];exact⟨fun h=>by rw[h];rfl,fun h=>by have:((112:UInt8).toNat:Int)=112:=rfl;omega⟩
   rw[this];exact⟨fun h=>h.2,fun h=>⟨h5,h⟩⟩
  have hlen:0<(x.drop 4).length:=by rw[List.length_drop];omega
  have hfs:=fs_fl (x.drop 4) hlen (fcnt (x.drop 4));have hcn:(numR (x.drop 4)).toNat=fcnt (x.drop 4):=by unfold numR fcnt;exact Int.toNat_natCast _
  have hend:fsEnd (x.drop 4) false=fsN (x.drop 4) false (fcnt (x.drop 4)):=by unfold fsEnd;rw[hcn]
  have hall:flAll (x.drop 4)=if fcnt (x.drop 4)>100 then none else match flAt (x.drop 4) (fcnt (x.drop 4)) with
    |some (p,out)=>if p=(x.drop 4).length then some out else none
    |none=>none:=by
   unfold flAll;by_cases hc:fcnt (x.drop 4)>100
   ·rw[if_pos (.inr hc),if_pos hc]
   ·rw[if_neg (by omega),if_neg hc]
    rfl
  rw[hb,hq,hhd,hend];generalize (((x.getD 0 0).toNat:Int) !=112)=d0;generalize (((x.getD 1 0).toNat:Int) !=no)=d1;have hX:∀out,flAll (x.drop 4)=some out->pgX x=⟨be ((x.drop 2).take 2),out⟩:=fun out h=>by unfold pgX;rw[h];rfl
  generalize be ((x.drop 2).take 2)=nn at hX;generalize pgX x=px at hX;generalize hr':x.drop 4=r at hfs hall hX;clear hq hb hhd hR hA h0 h1 h2 hr hend hcn;cases hf:flAt r (fcnt r) with
  |none=>
   rw[hf] at hfs hall;simp only at hfs;have hall:flAll r=none:=by rw[hall];split<;>rfl
   rw[hfs,hall];cases d0<;>cases d1<;>simp
  |some y=>
   obtain⟨p,out⟩:=y;rw[hf] at hfs hall;simp only at hfs hall;obtain⟨hfs,hpl⟩:=hfs;rw[hfs];have ho:out.length=fcnt r:=fl_len hf;by_cases hp:p=r.length
   ·have hem:(r.drop p).isEmpty=true:=by rw[List.isEmpty_iff,List.drop_eq_nil_iff];omega
    by_cases hc:fcnt r>100
    ·rw[if_pos hc] at hall;have hpg:pgOK ⟨nn,out⟩=false:=decide_eq_false (fun h=>by have:=h.2.2.1;simp only at this;omega)
     simp only[hem,hall,hpg];cases d0<;>cases d1<;>simp
    ·rw[if_neg hc,if_pos hp] at hall;rw[hX out hall];simp only[hem,hall];cases d0<;>cases d1<;>simp
   ·have hem:(r.drop p).isEmpty=false:=by
     rw[Bool.eq_false_iff,ne_eq,List.isEmpty_iff,List.drop_eq_nil_iff];omega
    have hall:flAll r=none:=by rw[hall,if_neg hp];split<;>rfl
    simp only[hem,hall];cases d0<;>cases d1<;>simp
 ·have hh:hdrOK no x=false:=by unfold hdrOK;rw[decide_eq_false h5];rfl
  have hbad:(fsEnd (restR x 4) (false||big x 4)).fl=true:=by
   by_cases h4:4<=x.length
   ·have hbig:big x 4=false:=decide_eq_false (by omega)
    have hR:restR x 4=[]:=by unfold restR;rw[hbig];exact List.drop_eq_nil_iff.2 (by show x.length<=4;omega)
    rw[hR];exact fs_nil _ _
   ·have hbig:big x 4=true:=decide_eq_true (by omega)
    rw[hbig];exact fs_fail _ _
  have hb:rpBad no x=true:=by unfold rpBad;rw[hbad];simp
  rw[hb,hh];simp
theorem ReadPage_ok:ConOk Tryz.prog 214 k_ReadPage:=by
 rintro⟨no,b⟩ (hb:b.length<=1000);have hl:∀(x:List UInt8),(takeR x 4).length=4:=fun x=>by
  unfold takeR;split
  ·exact List.length_replicate
  ·rename_i h;have:¬4>(x.length:Int):=by simpa[big] using h
   rw[List.length_take,show(4:Int).toNat=4 from rfl]
   omega
 refine v_ReadPage no b ⟨fun h=> ?_,fun _=>⟨b,⟨⟨rfl,trivial⟩,Nat.le_trans hb (by decide)⟩,fun h=> ?_,fun h=>⟨⟨by omega,by omega⟩,⟨by omega,by rw[hl];omega⟩,(takeR (unsB b) 4).drop 2,⟨⟨rfl,trivial⟩,by unfold Len4;rw[List.length_drop,hl];omega⟩,
  fun _=>⟨by omega,by rw[hl];omega⟩,fun _=>⟨by omega,by rw[hl];omega⟩,rpQ (unsB b),fun _=>⟨⟨⟨rfl,⟨rfl,rowsR _ _⟩,trivial⟩,trivial⟩,?_⟩,fun g=> ?_,fun g=> ?_⟩⟩⟩
 ·have:=of_decide_eq_true h;have hb:b.length<=1000:=hb;omega
 ·have hu:unsOK b=false:=by simpa using h
  have e2:(rdPg no b).2=false:=by unfold rdPg;rw[hu];rfl
  have e1:rdPgI no b=⟨0,[]⟩:=by unfold rdPgI;rw[e2];rfl
  have e3:rdCode no b=8:=by unfold rdCode;rw[hu];rfl
  rw[e1,e3];exact⟨⟨rfl,rfl,trivial⟩,rfl,trivial⟩
 ·show(fsEnd (restR (unsB b) 4) (false||big (unsB b) 4)).out.length<1000000000000;unfold fsEnd;rw[fs_len];have:=numR_in (restR (unsB b) 4);omega
 ·have hu:unsOK b=true:=by simpa using h
  have hq:=(rp_ok no b hu).1;have e2:(rdPg no b).2=false:=by
   have g:(rpBad no (unsB b)|| !pgOK (rpQ (unsB b)))=true:=g;rw[g] at hq;exact(Bool.not_eq_true' _).mp hq.symm
  have e1:rdPgI no b=⟨0,[]⟩:=by unfold rdPgI;rw[e2];rfl
  have e3:rdCode no b=3:=by unfold rdCode;rw[hu,e2];rfl
  rw[e1,e3];exact⟨⟨rfl,rfl,trivial⟩,rfl,trivial⟩
 ·have hu:unsOK b=true:=by simpa using h
  have hq:=rp_ok no b hu;have e2:(rdPg no b).2=true:=by
   have g:(rpBad no (unsB b)|| !pgOK (rpQ (unsB b)))=false:=g;rw[g] at hq;exact(Bool.not_eq_false' _).mp hq.1.symm
  have e1:rdPgI no b=rpQ (unsB b):=by unfold rdPgI;rw[e2,hq.2 e2];rfl
  have e3:rdCode no b=0:=by unfold rdCode;rw[hu,e2];rfl
  rw[e1,e3];exact⟨⟨rfl,⟨rfl,rowsR _ _⟩,trivial⟩,rfl,trivial⟩
end Go.Proofs.YtokaojbaacnngaaGreat

