/- A part of the proof. -/
import Derived.Test.YtokaojbaacnngaaGreatE5
namespace Go.Proofs.YtokaojbaacnngaaGreat
set_option maxRecDepth 100000
open Go.SS

def badPend(m:Nat)(p:Pend):Bool:= !inR p.at_ 0 ((m:Int)-1)||decide ((p.d.length:Int)>160)
def DskP(d:Dsk):Prop:=1<=d.sec.length/\d.sec.length<=100/\d.cache.length<=500/\d.keep.length<=500/\(d.armed=false->d.keep.length=0)/\(∀i,i<d.sec.length->(d.sec.getD i []).length<=160)/\
 ∀i,i<d.cache.length->badPend d.sec.length (d.cache.getD i default)=false
noncomputable instance(d:Dsk):Decidable (DskP d):=Classical.propDecidable _
noncomputable def dskOK(d:Dsk):Bool:=decide (DskP d)
theorem dskOK_iff(d:Dsk):dskOK d=true↔DskP d:=decide_eq_true_iff
theorem dsk_no{d:Dsk}(h:¬DskP d):false=dskOK d:=(decide_eq_false h).symm
def DskB(d:Dsk):Prop:=Len d.sec.length/\Len d.cache.length/\Len d.keep.length
def dskF(d:Dsk):T:=.fn (.func 209) [.bref d.ts]
def r_DiskOK2:Rl:=⟨Dsk×Pend,fun x=>[.agg x.2.ts,.bref x.1.ts],fun x=>.bool (badPend x.1.sec.length x.2),fun x=>Len x.1.sec.length⟩
def k_DiskOK2:Con:=.rel r_DiskOK2
noncomputable def b_DiskOK2:Code:=Tryz.f209.body.getD .skip
theorem call_DiskOK2:Callable Tryz.prog 209:=⟨_,Tryz.func209,by kernel_rfl,by kernel_rfl⟩
theorem v_DiskOK2(d:Dsk)(p:Pend)(h:
  Small (d.sec.length:Int)/\(!(decide ((0:Int)<=p.at_)&&decide (p.at_<(d.sec.length:Int)))||decide ((p.d.length:Int)>(160:Int)))=badPend d.sec.length p):
  PureFn Tryz.prog 209 [.agg p.ts,.bref d.ts] (.bool (badPend d.sec.length p)):=
 vcR (code:=b_DiskOK2) (gC isPlace_ok call_isPlace gN) Tryz.func209 (by kernel_rfl) (by kernel_rfl) noAnn h (by kernel_rfl)
theorem DiskOK2_ok:ConOk Tryz.prog 209 k_DiskOK2:=by
 rintro⟨d,p⟩ (h:d.sec.length<1000000000000);refine v_DiskOK2 d p ⟨⟨by omega,by omega⟩,?_⟩
 unfold badPend inR;rw[show decide (p.at_<(d.sec.length:Int))=decide (p.at_<=(d.sec.length:Int)-1) from decide_eq_decide.2 (by omega)]
theorem bref_le{ρ:Nat->Option Nat}(cs:List T):TLe ρ (.bref cs) (.bref cs):=⟨1,_,rfl,RLe.refl _⟩
def r_idxPend:Rl:=⟨List Pend×Dsk,fun x=>[pendS x.1,dskF x.2],fun x=>.int .i64 (fstI x.1.length fun i=>badPend x.2.sec.length (x.1.getD i default)),fun x=>Len x.1.length/\Len x.2.sec.length⟩
def k_idxPend:Con:=.rel r_idxPend
def A_idxPend(L:List Pend)(d:Dsk):Nat->Ann
 |0=>.one (Cnt L.length fun i=>badPend d.sec.length (L.getD i default)) (fun x=>⟨[(0,pendS L),(1,dskF d),(7,.int .i64 L.length),(8,.int .i64 x.1)],[]⟩) (fun x=>L.length-x.1) [] [] (fun _=>noAnn)
 |_=>.none
noncomputable def b_idxPend:Code:=Tryz.f252.body.getD .skip
theorem call_idxPend:Callable Tryz.prog 252:=⟨_,Tryz.func252,by kernel_rfl,by kernel_rfl⟩
theorem v_idxPend(L:List Pend)(d:Dsk)(h:
  (∃(x:Cnt L.length fun(i:Nat)=>badPend d.sec.length (L.getD i default)),((EqL pendRow L L)/\(Fn.func 209=Fn.func 209/\TLe (fun(x:Nat)=>none) (T.bref [T.sl 1 d.sec.length (strRow d.sec),T.sl 2 d.cache.length
  (pendRow d.cache),T.bool d.armed,T.sl 1 d.keep.length (intRow d.keep)]) (T.bref [T.sl 1 d.sec.length (strRow d.sec),T.sl 2 d.cache.length (pendRow d.cache),T.bool d.armed,T.sl 1 d.keep.length (intRow d.keep)])/\True)/\
  (L.length:Int)=(L.length:Int)/\(0:Int)=(x.val:Int)/\True)/\True)/\∀(x:Cnt L.length fun(i:Nat)=>badPend d.sec.length (L.getD i default)),(decide ((x.val:Int)<(L.length:Int))=true->InB (x.val:Int) L.length/\
  ∃(x_1:r_DiskOK2.ι),((((L.getD (x.val:Int).toNat default).at_=x_1.snd.at_/\(L.getD (x.val:Int).toNat default).d=x_1.snd.d/\True)/\(EqD d x_1.fst)/\True)/\Len x_1.fst.sec.length)/\(badPend x_1.fst.sec.length x_1.snd=
  true->(x.val:Int)=fstI L.length fun(i:Nat)=>badPend d.sec.length (L.getD i default))/\(badPend x_1.fst.sec.length x_1.snd=false->Rng .i64 ((x.val:Int)+(1:Int))/\∃(y:Cnt L.length fun(i:Nat)=>badPend
  d.sec.length (L.getD i default)),(((EqL pendRow L L)/\(Fn.func 209=Fn.func 209/\TLe (fun(x:Nat)=>none) (T.bref [T.sl 1 d.sec.length (strRow d.sec),T.sl 2 d.cache.length (pendRow d.cache),T.bool d.armed,T.sl 1
  d.keep.length (intRow d.keep)]) (T.bref [T.sl 1 d.sec.length (strRow d.sec),T.sl 2 d.cache.length (pendRow d.cache),T.bool d.armed,T.sl 1 d.keep.length (intRow d.keep)])/\True)/\(L.length:Int)=(L.length:Int)/\(x.val:Int)+
  (1:Int)=(y.val:Int)/\True)/\True)/\Lt (L.length-y.val) (L.length-x.val)))/\(decide ((x.val:Int)<(L.length:Int))=false->(-1:Int)=fstI L.length fun(i:Nat)=>badPend d.sec.length (L.getD i default))):
  PureFn Tryz.prog 252 [pendS L,dskF d] (.int .i64 (fstI L.length fun i=>badPend d.sec.length (L.getD i default))):=
 vcR (code:=b_idxPend) (gC DiskOK2_ok call_DiskOK2 gN) Tryz.func252 (by kernel_rfl) (by kernel_rfl) (A_idxPend L d) h (by kernel_rfl)
theorem idxPend_ok:ConOk Tryz.prog 252 k_idxPend:=by
 rintro⟨L,d⟩ ⟨hL,hd⟩;have hL:L.length<1000000000000:=hL;refine v_idxPend L d ⟨⟨cnt0,⟨⟨rfl,fun _ _=>rfl⟩,⟨rfl,bref_le _,trivial⟩,rfl,rfl,trivial⟩,trivial⟩,fun x=>⟨fun hc=> ?_,fun hc=> ?_⟩⟩
 ·have hlt:=lt_of_dec hc;refine⟨inB_nat hlt,(d,L.getD x.val default),⟨⟨⟨rfl,rfl,trivial⟩,⟨⟨rfl,rowsR _ _⟩,⟨rfl,rowsR _ _⟩,rfl,⟨rfl,rowsR _ _⟩,trivial⟩,trivial⟩,hd⟩,fun hp=>(fstI_at hlt hp x.2.2).symm,fun hp=>⟨add_rng hlt (by omega),x.succ hlt hp,⟨⟨⟨rfl,fun _ _=>rfl⟩,⟨rfl,bref_le _,trivial⟩,rfl,by simp only[Cnt.succ];omega,trivial⟩,trivial⟩,Cnt.ext_lt hlt⟩⟩
 ·have hge:=le_of_not hc;exact(fstI_no fun j hj=>x.2.2 j (Nat.lt_of_lt_of_le hj hge)).symm
def r_anyPend:Rl:=⟨List Pend×Dsk,fun x=>[pendS x.1,dskF x.2],fun x=>.bool (anyI x.1.length fun i=>badPend x.2.sec.length (x.1.getD i default)),fun x=>Len x.1.length/\Len x.2.sec.length⟩
def k_anyPend:Con:=.rel r_anyPend
noncomputable def b_anyPend:Code:=Tryz.f208.body.getD .skip
theorem call_anyPend:Callable Tryz.prog 208:=⟨_,Tryz.func208,by kernel_rfl,by kernel_rfl⟩
theorem v_anyPend(L:List Pend)(d:Dsk)(h:
  ∃(x:r_idxPend.ι),(((EqL pendRow L x.fst)/\(Fn.func 209=Fn.func 209/\(EqD d x.snd)/\True)/\True)/\Len x.fst.length/\Len x.snd.sec.length)/\decide ((fstI x.fst.length fun(i:Nat)=>badPend x.snd.sec.length
  (x.fst.getD i default))≥(0:Int))=anyI L.length fun(i:Nat)=>badPend d.sec.length (L.getD i default)):
  PureFn Tryz.prog 208 [pendS L,dskF d] (.bool (anyI L.length fun i=>badPend d.sec.length (L.getD i default))):=
 vcR (code:=b_anyPend) (gC idxPend_ok call_idxPend gN) Tryz.func208 (by kernel_rfl) (by kernel_rfl) noAnn h (by kernel_rfl)
theorem anyPend_ok:ConOk Tryz.prog 208 k_anyPend:=by
 rintro⟨L,d⟩ hh;exact v_anyPend L d ⟨(L,d),⟨⟨⟨rfl,fun _ _=>rfl⟩,⟨rfl,(eqD _),trivial⟩,trivial⟩,hh⟩,anyI_fst _ _⟩
noncomputable def r_DiskOK:Rl:=⟨Dsk,fun d=>[.agg d.ts],fun d=>.bool (dskOK d),DskB⟩
noncomputable def k_DiskOKi:Con:=.rel r_DiskOK
noncomputable def k_DiskOKs:Con:=.rel r_DiskOK
noncomputable def b_DiskOKi:Code:=Tryz.f151.body.getD .skip
theorem call_DiskOKi:Callable Tryz.prog 151:=⟨_,Tryz.func151,by kernel_rfl,by kernel_rfl⟩
theorem v_DiskOKi(d:Dsk)(h:
  ((!inR (d.sec.length:Int) (1:Int) (100:Int)||decide ((d.cache.length:Int)>(500:Int))||decide ((d.keep.length:Int)>(500:Int))|| !d.armed&&decide ((d.keep.length:Int)>(0:Int)))=true->false=dskOK d)/\((!inR (d.sec.length:Int) (1:Int) (100:Int)||decide ((d.cache.length:Int)>(500:Int))||decide ((d.keep.length:Int)>(500:Int))|| !d.armed&&decide ((d.keep.length:Int)>(0:Int)))=false->∃(x:r_anyStr.ι),(((EqL strRow d.sec x.fst)/\Value.func (Fn.func 207) #[] #[]=Value.func (Fn.func (match x.snd with|true=>262|false=>207)) #[] #[]/\True)/\Len x.fst.length)/\∃(x_1:r_anyPend.ι),((!anyI x.fst.length fun(i:Nat)=>longS x.snd (x.fst.getD i []))=true->((EqL pendRow d.cache x_1.fst)/\(Fn.func 209=Fn.func 209/\(EqD d x_1.snd)/\True)/\True)/\Len x_1.fst.length/\Len x_1.snd.sec.length)/\((!anyI x.fst.length fun(i:Nat)=>longS x.snd (x.fst.getD i []))&& !anyI x_1.fst.length fun(i:Nat)=>badPend x_1.snd.sec.length (x_1.fst.getD i default))=dskOK d)):
  PureFn Tryz.prog 151 [.agg d.ts] (.bool (dskOK d)):=
 vcR (code:=b_DiskOKi) (gC inRange_ok call_inRange (gC anyStr_ok call_anyStr (gC anyPend_ok call_anyPend gN))) Tryz.func151 (by kernel_rfl) (by kernel_rfl) noAnn h (by kernel_rfl)
noncomputable def b_DiskOKs:Code:=Tryz.f137.body.getD .skip
theorem call_DiskOKs:Callable Tryz.prog 137:=⟨_,Tryz.func137,by kernel_rfl,by kernel_rfl⟩
def dskBox(d:Dsk):Option Ob:=some (.arr true 1000000 4 1 fun _=>d.ts)
def A_DiskOKs(d:Dsk):Nat->Ann
 |0=>.one (Cnt d.sec.length fun i=>longS false (d.sec.getD i [])) (fun x=>⟨[(1,.ref 0 0 0),(3,.int .i64 d.sec.length),(4,.int .i64 x.1)],[dskBox d]⟩) (fun x=>d.sec.length-x.1) [.box 0] [.box 0] (fun _=>fun
  |1=>.one (Cnt d.cache.length fun i=>badPend d.sec.length (d.cache.getD i default)) (fun y=>⟨[(1,.ref 0 0 0),(3,.int .i64 d.sec.length),(5,.int .i64 y.1)],[dskBox d]⟩) (fun y=>d.cache.length-y.1) [.box 0] [.box 0] (fun _=>noAnn)
  |_=>.none)
 |_=>.none
theorem v_DiskOKs(d:Dsk)(h:
  ((!inR (d.sec.length:Int) (1:Int) (100:Int)||decide ((d.cache.length:Int)>(500:Int))||decide ((d.keep.length:Int)>(500:Int))|| !d.armed&&decide ((d.keep.length:Int)>(0:Int)))=true->false=dskOK d)/\
  ((!inR (d.sec.length:Int) (1:Int) (100:Int)||decide ((d.cache.length:Int)>(500:Int))||decide ((d.keep.length:Int)>(500:Int))|| !d.armed&&decide ((d.keep.length:Int)>(0:Int)))=false->(∃(x:Cnt
  d.sec.length fun(i:Nat)=>longS false (d.sec.getD i [])),((0=0/\0=0)/\(d.sec.length:Int)=(d.sec.length:Int)/\(0:Int)=(x.val:Int)/\True)/\(1=1/\1=1/\EqD d d)/\True)/\∀(x:Cnt d.sec.length fun(i:Nat)
  =>longS false (d.sec.getD i [])),(decide ((x.val:Int)<(d.sec.length:Int))=true->InB (x.val:Int) d.sec.length/\(decide ((↑(d.sec.getD (x.val:Int).toNat []).length:Int)>(160:Int))=true->false=dskOK d)/\(decide
  ((↑(d.sec.getD (x.val:Int).toNat []).length:Int)>(160:Int))=false->Rng .i64 ((x.val:Int)+(1:Int))/\∃(y:Cnt d.sec.length fun(i:Nat)=>longS false (d.sec.getD i [])),(((0=0/\0=0)/\(d.sec.length:Int)=
  (d.sec.length:Int)/\(x.val:Int)+(1:Int)=(y.val:Int)/\True)/\(1=1/\1=1/\EqD d d)/\True)/\Lt (d.sec.length-y.val) (d.sec.length-x.val)))/\(decide ((x.val:Int)<(d.sec.length:Int))=false->(∃(x:Cnt
  d.cache.length fun(i:Nat)=>badPend d.sec.length (d.cache.getD i default)),((0=0/\0=0)/\(d.sec.length:Int)=(d.sec.length:Int)/\(0:Int)=(x.val:Int)/\True)/\(1=1/\1=1/\EqD d d)/\True)/\∀(x:Cnt
  d.cache.length fun(i:Nat)=>badPend d.sec.length (d.cache.getD i default)),(decide ((x.val:Int)<(d.cache.length:Int))=true->InB (x.val:Int) d.cache.length/\Rng .i64 ((d.sec.length:Int)- (1:Int))/\((!inR
  (d.cache.getD (x.val:Int).toNat default).at_ (0:Int) ((d.sec.length:Int)- (1:Int))||decide ((↑(d.cache.getD (x.val:Int).toNat default).d.length:Int)>(160:Int)))=true->false=dskOK d)/\((!inR (d.cache.getD
  (x.val:Int).toNat default).at_ (0:Int) ((d.sec.length:Int)- (1:Int))||decide ((↑(d.cache.getD (x.val:Int).toNat default).d.length:Int)>(160:Int)))=false->Rng .i64 ((x.val:Int)+(1:Int))/\∃(y:Cnt
  d.cache.length fun(i:Nat)=>badPend d.sec.length (d.cache.getD i default)),(((0=0/\0=0)/\(d.sec.length:Int)=(d.sec.length:Int)/\(x.val:Int)+(1:Int)=(y.val:Int)/\True)/\(1=1/\1=1/\EqD d d)/\True)/\Lt
  (d.cache.length-y.val) (d.cache.length-x.val)))/\(decide ((x.val:Int)<(d.cache.length:Int))=false->true=dskOK d)))):
  PureFn Tryz.prog 137 [.agg d.ts] (.bool (dskOK d)):=
 vcR (code:=b_DiskOKs) (gC l01In_ok call_l01In gN) Tryz.func137 (by kernel_rfl) (by kernel_rfl) (A_DiskOKs d) h (by kernel_rfl)
def k_l02Read:Con:=.rel r_read
def LastIx(d:Dsk)(at_:Nat):Type:={i:Nat//i<=d.cache.length/\lastAt d.cache at_ d.cache.length=lastAt d.cache at_ i}
def A_l02Read(d:Dsk)(at_:Nat):Nat->Ann
 |0=>.one (LastIx d at_) (fun x=>⟨[(1,.int .i64 at_),(2,.ref 0 0 0),(5,.int .i64 ((x.1:Int)-1))],[dskBox d]⟩) (fun x=>x.1) [.box 0] [.box 0] (fun _=>noAnn)
 |_=>.none
noncomputable def b_l02Read:Code:=Tryz.f181.body.getD .skip
theorem call_l02Read:Callable Tryz.prog 181:=⟨_,Tryz.func181,by kernel_rfl,by kernel_rfl⟩
theorem v_l02Read(d:Dsk)(at_:Nat)(h:
  Rng .i64 ((d.cache.length:Int)- (1:Int))/\(∃(x:LastIx d at_),((at_:Int)=(at_:Int)/\(0=0/\0=0)/\(d.cache.length:Int)- (1:Int)=(x.val:Int)- (1:Int)/\True)/\(1=1/\1=1/\EqD d d)/\True)/\∀(x:LastIx
  d at_),(decide ((x.val:Int)- (1:Int)≥(0:Int))=true->InB ((x.val:Int)- (1:Int)) d.cache.length/\(((d.cache.getD ((x.val:Int)- (1:Int)).toNat default).at_==(at_:Int))=true->InB ((x.val:Int)- (1:Int))
  d.cache.length/\(d.cache.getD ((x.val:Int)- (1:Int)).toNat default).d=rdAt d at_)/\(((d.cache.getD ((x.val:Int)- (1:Int)).toNat default).at_==(at_:Int))=false->Rng .i64 ((x.val:Int)- (1:Int)- (1:Int))/\∃(y:
  LastIx d at_),(((at_:Int)=(at_:Int)/\(0=0/\0=0)/\(x.val:Int)- (1:Int)- (1:Int)=(y.val:Int)- (1:Int)/\True)/\(1=1/\1=1/\EqD d d)/\True)/\Lt y.val x.val))/\(decide ((x.val:Int)- (1:Int)≥(0:
  Int))=false->InB (at_:Int) d.sec.length/\d.sec.getD (at_:Int).toNat []=rdAt d at_)):
  PureFn Tryz.prog 181 [.agg d.ts,.int .i64 at_] (.str (rdAt d at_)):=
 vcR (code:=b_l02Read) gN Tryz.func181 (by kernel_rfl) (by kernel_rfl) (A_l02Read d at_) h (by kernel_rfl)
theorem DiskOKi_ok:ConOk Tryz.prog 151 k_DiskOKi:=by
 rintro(d:Dsk) ⟨h1,h2,h3⟩;have h1:d.sec.length<1000000000000:=h1;have h2:d.cache.length<1000000000000:=h2;refine v_DiskOKi d ⟨fun h=>dsk_no ?_,fun h=>⟨(d.sec,false),⟨⟨⟨rfl,rowsR _ _⟩,rfl,trivial⟩,h1⟩,(d.cache,d),fun _=>⟨⟨⟨rfl,rowsR _ _⟩,⟨rfl,(eqD _),trivial⟩,trivial⟩,h2,h1⟩,?_⟩⟩
 ·rintro⟨p1,p2,p3,p4,p5,_⟩;simp[inR] at h;cases ha:d.armed with
  |true=>simp[ha] at h;omega
  |false=>simp[ha] at h;have:=p5 ha;omega
 ·simp[inR] at h;rw[Bool.eq_iff_iff,dskOK_iff];show((!anyI d.sec.length fun i=>longS false (d.sec.getD i []))&& !anyI d.cache.length fun i=>badPend d.sec.length (d.cache.getD i default))=true↔DskP d
  simp only[Bool.and_eq_true,Bool.not_eq_true',anyI_no];constructor
  ·rintro⟨q1,q2⟩;exact⟨by omega,by omega,by omega,by omega,fun ha=>by have:=h.2 ha;simp[this],fun i hi=>longF_no.1 (q1 i hi),q2⟩
  ·rintro⟨_,_,_,_,_,q1,q2⟩;exact⟨fun i hi=>longF_no.2 (q1 i hi),q2⟩
theorem DiskOKs_ok:ConOk Tryz.prog 137 k_DiskOKs:=by
 rintro(d:Dsk) ⟨h1,h2,h3⟩;have h1:d.sec.length<1000000000000:=h1;have h2:d.cache.length<1000000000000:=h2;refine v_DiskOKs d ⟨fun h=>dsk_no ?_,fun h=>⟨⟨cnt0,⟨⟨rfl,rfl⟩,rfl,rfl,trivial⟩,⟨rfl,rfl,eqD _⟩,trivial⟩,fun x=>⟨fun hc=> ?_,fun hc=>⟨⟨cnt0,⟨⟨rfl,rfl⟩,rfl,rfl,trivial⟩,⟨rfl,rfl,eqD _⟩,trivial⟩,fun y=>⟨fun hd=> ?_,fun hd=> ?_⟩⟩⟩⟩⟩
 ·rintro⟨p1,p2,p3,p4,p5,_⟩;simp[inR] at h;cases ha:d.armed with
  |true=>simp[ha] at h;omega
  |false=>simp[ha] at h;have:=p5 ha;omega
 ·have hlt:=lt_of_dec hc;refine⟨inB_nat hlt,fun hb=>dsk_no ?_,fun hb=>⟨add_rng hlt (by omega),x.succ hlt hb,⟨⟨⟨rfl,rfl⟩,rfl,rfl,trivial⟩,⟨rfl,rfl,eqD _⟩,trivial⟩,Cnt.ext_lt hlt⟩⟩
  rintro⟨_,_,_,_,_,q1,_⟩;have:=q1 x.val hlt;rw[Int.toNat_natCast,decide_eq_true_eq] at hb;omega
 ·have hlt:=lt_of_dec hd;refine⟨inB_nat hlt,i64_rng (by omega),fun hb=>dsk_no ?_,fun hb=>⟨add_rng hlt (by omega),y.succ hlt hb,⟨⟨⟨rfl,rfl⟩,rfl,by simp only[Cnt.succ];omega,trivial⟩,⟨rfl,rfl,eqD _⟩,trivial⟩,Cnt.ext_lt hlt⟩⟩
  rintro⟨_,_,_,_,_,_,q2⟩;have:=q2 y.val hlt;rw[Int.toNat_natCast] at hb;unfold badPend at this;rw[hb] at this;cases this
 ·simp[inR] at h;have g1:=le_of_not hc;have g2:=le_of_not hd;refine((dskOK_iff d).2 ⟨by omega,by omega,by omega,by omega,fun ha=>by have:=h.2 ha;simp[this],fun i hi=>longF_no.1 (x.2.2 i (Nat.lt_of_lt_of_le hi g1)),fun i hi=>y.2.2 i (Nat.lt_of_lt_of_le hi g2)⟩).symm
theorem l02Read_ok:ConOk Tryz.prog 181 k_l02Read:=by
 rintro⟨d,at_⟩ ⟨hat,hlen⟩;simp only at hat hlen;refine v_l02Read d at_ ⟨i64_rng (by omega),⟨⟨d.cache.length,Nat.le_refl _,rfl⟩,⟨rfl,⟨rfl,rfl⟩,rfl,trivial⟩,⟨rfl,rfl,eqD _⟩,trivial⟩,fun x=> ?_⟩
 obtain⟨i,hi,hx⟩:=x;simp only;refine⟨fun hc=> ?_,fun hc=>⟨⟨by omega,by omega⟩,?_⟩⟩
 ·have hpos:1<=i:=by have:=of_decide_eq_true hc;omega
  obtain⟨j,rfl⟩:∃j,i=j+1:=⟨i-1,by omega⟩
  rw[show(((j+1:Nat):Int)-1).toNat=j by omega]
  have hl:lastAt d.cache at_ (j+1)=if(d.cache.getD j default).at_=at_ then some (d.cache.getD j default).d else lastAt d.cache at_ j:=rfl
  refine⟨⟨by omega,by omega⟩,fun hb=>⟨⟨by omega,by omega⟩,?_⟩,fun hb=>⟨i64_rng (by omega),⟨j,by omega,?_⟩,⟨⟨(by trivial),⟨(by trivial),(by trivial)⟩,by simp only;omega,trivial⟩,⟨(by trivial),(by trivial),⟨(by trivial),rowsR _ _⟩,⟨(by trivial),rowsR _ _⟩,(by trivial),⟨(by trivial),rowsR _ _⟩,trivial⟩,trivial⟩,by unfold Lt;simp only;omega⟩⟩
  ·rw[if_pos (by simpa using hb)] at hl
   unfold rdAt;rw[hx,hl];rfl
  ·rw[if_neg (by simpa using hb)] at hl
   rw[hx,hl]
 ·have h0:i=0:=by have:=of_decide_eq_false hc;omega
  subst h0;unfold rdAt;rw[hx];rfl
end Go.Proofs.YtokaojbaacnngaaGreat

