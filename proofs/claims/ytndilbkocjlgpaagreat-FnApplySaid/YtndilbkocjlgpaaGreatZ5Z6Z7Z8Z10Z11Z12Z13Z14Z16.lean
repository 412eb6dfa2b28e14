/- A part of the proof. -/
import Derived.Test.YtndilbkocjlgpaaGreatZ1Z2Z3Z4
import Derived.Test.YtndilbkocjlgpaaGreatY6Y7Y13
import Derived.Test.YtndilbkocjlgpaaGreatF1F2
import Derived.Test.YtndilbkocjlgpaaGreatX11X11rX12X13
import Derived.Test.YtndilbkocjlgpaaGreatX14
namespace Go.Proofs.YtndilbkocjlgpaaGreat
set_option maxRecDepth 100000
open Go.SS

def k_l05Append:Con:=.rel ⟨Sto×Rec,fun x=>[.agg x.1.ts,.agg x.2.ts],fun x=>.tup [.agg (appX x.1 x.2).ts,.int .i64 (x.1.log.length+1:Nat)],fun x=>x.1.log.length<=1000⟩
def k_tmpA:Con:=.tmp
theorem call_tmpA:Callable Tryz.prog 11:=⟨_,Tryz.func11,by kernel_rfl,by kernel_rfl⟩
theorem tmpA_ok:ConOk Tryz.prog 11 k_tmpA:=trivial
noncomputable def b_l05Append:Code:=Tryz.f97.body.getD .skip
theorem call_l05Append:Callable Tryz.prog 97:=⟨_,Tryz.func97,by kernel_rfl,by kernel_rfl⟩
theorem v_l05Append(s:Sto)(r:Rec)(h:
  Rng .i64 ((s.log.length:Int)+(1:Int))/\(Le 0 0/\AppB 0 s.log.length 96)/\(Le (0+s.log.length) (0+s.log.length)/\AppB (0+s.log.length) 1 96)/\Le (0+(0+s.log.length+1)) (0+s.log.length+1)/\((EqL strRow
  s.d.sec s.d.sec)/\(EqL pendRow s.d.cache s.d.cache)/\s.d.armed=s.d.armed/\(EqL intRow s.d.keep s.d.keep)/\s.ep=s.ep/\(0+s.log.length+1=(s.log++[appR s r]).length/\RowsEq (0+s.log.length+1) (appRow (appRow
  (fun(k:Nat)=>List.take 10 (List.drop (k*10) [])) 0 (recRow s.log)) (0+s.log.length) fun(k:Nat)=>List.take 10 (List.drop (k*10) [T.int .i64 s.ep,T.int .i64 ((s.log.length:Int)+(1:Int)),T.int .i64 r.t,T.int
  .i64 r.k,T.int .i64 r.p,T.int .i64 r.n,T.int .i64 r.g,T.int .i64 r.s,T.str r.b,T.str r.a])) (recRow (s.log++[appR s r])))/\s.sure=s.sure/\(EqL frmRow s.fr s.fr)/\s.hand=s.hand/\True)/\(s.log.length:Int)+(1:
  Int)=(↑(s.log.length+1):Int)/\True):
  PureFn Tryz.prog 97 [.agg s.ts,.agg r.ts] (.tup [.agg (appX s r).ts,.int .i64 (s.log.length+1:Nat)]):=
 vcR (code:=b_l05Append) (gC tmpA_ok call_tmpA gN) Tryz.func97 (by kernel_rfl) (by kernel_rfl) noAnn h (by kernel_rfl)
theorem l05Append_ok:ConOk Tryz.prog 97 k_l05Append:=by
 rintro⟨s,r⟩ (h:s.log.length<=1000);have hl:(s.log++[appR s r]).length=s.log.length+1:=by simp
 refine v_l05Append s r ⟨i64_rng (by omega),⟨Nat.le_refl _,by unfold AppB;omega⟩,⟨Nat.le_refl _,by unfold AppB;omega⟩,by unfold Le;omega,⟨(by repeat' first|exact trivial|exact rfl|exact rowsR _ _|exact famR _|exact row0|exact le0 _|exact Nat.le_refl _|exact Nat.zero_le _|refine And.intro ?_ ?_),(by repeat' first|exact trivial|exact rfl|exact rowsR _ _|exact famR _|exact row0|exact le0 _|exact Nat.le_refl _|exact Nat.zero_le _|refine And.intro ?_ ?_),rfl,(by repeat' first|exact trivial|exact rfl|exact rowsR _ _|exact famR _|exact row0|exact le0 _|exact Nat.le_refl _|exact Nat.zero_le _|refine And.intro ?_ ?_),rfl,⟨by omega,?_⟩,rfl,(by repeat' first|exact trivial|exact rfl|exact rowsR _ _|exact famR _|exact row0|exact le0 _|exact Nat.le_refl _|exact Nat.zero_le _|refine And.intro ?_ ?_),rfl,trivial⟩,rfl,trivial⟩
 rw[Nat.zero_add,app0];exact rec_app s.log (appR s r)
def recB:Rec:=⟨0,0,1,1,0,0,0,0,[],[]⟩
def recU(last pg sl:Int)(a:List UInt8):Rec:=⟨0,0,1,2,last,0,pg,sl,[111,108,100],a⟩
def afts:List (List UInt8):=[[],[114,101,99],[114,101,99,111,114,100]]
noncomputable def dPut(s:Src)(x:Sto):Src×Sto:=
 let s2:=nxS s 8;let s3:=nxS s2 4
 let r:=if x.log.length=0 then recB else recU x.log.length (nxV s 8) (nxV s2 4) (afts.getD (nxV s3 3).toNat [])
 (nxS s3 3,if x.log.length=0 then appX x r else(aplS (appX x r) (appR x r)).1)
noncomputable def dStep(y:Src×Sto):Src×Sto:=
 let v:=nxV y.1 6;let s:=nxS y.1 6
 if v=0 then(nxS s ((y.2.log.length:Int)+1),(fluS y.2 (nxV s ((y.2.log.length:Int)+1))).1)
 else if v=1 then(nxS s 8,(eviR y.2 (nxV s 8).toNat).1)
 else if v=2 then(nxS s 8,(fetS y.2 (nxV s 8).toNat).1)
 else dPut s y.2
noncomputable def dIter(y:Src×Sto):Nat->Src×Sto
 |0=>y
 |i+1=>dStep (dIter y i)
def dBeg(c:List UInt8):Src×Sto:=(nxS (srcN c) 14,sto0)
def dMany(c:List UInt8):Nat:=(nxV (srcN c) 14).toNat
noncomputable def dEnd(c:List UInt8):Src×Sto:=dIter (dBeg c) (dMany c)
def St0:Type:={s:Sto//s=sto0}
def k_NewStore0:Con:=.rel ⟨St0,fun _=>[],fun x=>.agg x.1.ts,fun _=>True⟩
theorem call_NewStore0:Callable Tryz.prog 94:=⟨_,Tryz.func94,by kernel_rfl,by kernel_rfl⟩
theorem NewStore0_ok:ConOk Tryz.prog 94 k_NewStore0:=fun x _=>by
 obtain⟨s,rfl⟩:=x;exact NewStores_ok () trivial
noncomputable def aplI(s:Sto)(l:Int):Sto×Bool:=aplS s (s.log.getD (l-1).toNat default)
noncomputable def k_l05ApplyI:Con:=.rel ⟨Sto×Int,fun x=>[.agg x.1.ts,.int .i64 x.2],fun x=>.tup [.agg (aplI x.1 x.2).1.ts,.bool (aplI x.1 x.2).2],fun x=>SInv x.1/\1<=x.2/\x.2<=x.1.log.length⟩
theorem call_l05ApplyI:Callable Tryz.prog 79:=⟨_,Tryz.func79,by kernel_rfl,by kernel_rfl⟩
theorem l05ApplyI_ok:ConOk Tryz.prog 79 k_l05ApplyI:=l05Apply_ok
noncomputable def b_store:Code:=Tryz.f44.body.getD .skip
noncomputable def A_store(K:Nat)(D:Nat->Src×Sto):Nat->Ann
 |0=>.one {i:Nat//i<=K} (fun x=>⟨[(0,.ref 0 0 0),(2,.ref 1 0 0),(3,.ref 2 0 0),(4,.int .i64 (D x.1).2.log.length),(5,.int .i64 ((K:Int)-x.1))],[srcB (D x.1).1,stoZb,stoBx (D x.1).2.ts]⟩) (fun x=>K-x.1) [.box 0,.box 1,.box 2] [.box 0,.box 1,.box 2] (fun _=>noAnn)
 |_=>.none
theorem v_store(s0:Src)(K:Nat)(D:Nat->Src×Sto)(h:
  ∃(x:St0),(True/\True)/\∃(x_1:(Src×Int)),(((0=0/\0=0)/\(14:Int)=x_1.snd/\True)/\((1=1/\RowsEq 1 (fun(x:Nat)=>[T.bys s0.c,T.int .i64 (s0.at_:Int),T.int .i64 s0.sd]) fun(x:Nat)=>[T.bys
  x_1.fst.c,T.int .i64 (x_1.fst.at_:Int),T.int .i64 x_1.fst.sd])/\True)/\SrcOK x_1.fst 1000000/\x_1.snd<=(256:Int))/\(∃(x_2:{i:Nat//i<=K}),((0=0/\0=0)/\(0=0/\0=0)/\(0=0/\0=0)/\(0:Int)=(↑(D
  x_2.val).snd.log.length:Int)/\nxV x_1.fst x_1.snd=(K:Int)- (x_2.val:Int)/\True)/\(1=1/\1=1/\(nxS x_1.fst x_1.snd).c=(D x_2.val).fst.c/\(↑(nxS x_1.fst x_1.snd).at_:Int)=(↑(D x_2.val).fst.at_:Int)/\(nxS
  x_1.fst x_1.snd).sd=(D x_2.val).fst.sd/\True)/\(1=1/\1=1/\Value.slice none 0 0=Value.slice none 0 0/\Value.slice none 0 0=Value.slice none 0 0/\false=false/\Value.slice none 0 0=Value.slice none 0 0/\(0:
  Int)=(0:Int)/\Value.slice none 0 0=Value.slice none 0 0/\(0:Int)=(0:Int)/\Value.slice none 0 0=Value.slice none 0 0/\(0:Int)=(0:Int)/\True)/\(1=1/\1=1/\EqS x.val (D x_2.val).snd)/\True)/\∀(x:{
  i:Nat//i<=K}),(decide ((K:Int)- (x.val:Int)>(0:Int))=true->∃(x_2:(Src×Int)),(((0=0/\0=0)/\(6:Int)=x_2.snd/\True)/\((1=1/\RowsEq 1 (fun(x_3:Nat)=>[T.bys (D x.val).fst.c,T.int .i64 (↑(D
  x.val).fst.at_:Int),T.int .i64 (D x.val).fst.sd]) fun(x:Nat)=>[T.bys x_2.fst.c,T.int .i64 (x_2.fst.at_:Int),T.int .i64 x_2.fst.sd])/\True)/\SrcOK x_2.fst 1000000/\x_2.snd<=(256:Int))/\((nxV x_2.fst x_2.snd==(0:
  Int))=true->Rng .i64 ((↑(D x.val).snd.log.length:Int)+(1:Int))/\∃(x_3:(Src×Int)),(((0=0/\0=0)/\(↑(D x.val).snd.log.length:Int)+(1:Int)=x_3.snd/\True)/\((1=1/\RowsEq 1 (fun(x:Nat)=>[T.bys
  (nxS x_2.fst x_2.snd).c,T.int .i64 (↑(nxS x_2.fst x_2.snd).at_:Int),T.int .i64 (nxS x_2.fst x_2.snd).sd]) fun(x:Nat)=>[T.bys x_3.fst.c,T.int .i64 (x_3.fst.at_:Int),T.int .i64 x_3.fst.sd])/\True)/\SrcOK x_3.fst 1000000
  /\x_3.snd<=(256:Int))/\∃(x_4:(Sto×Int)),(((EqS (D x.val).snd x_4.fst)/\nxV x_3.fst x_3.snd=x_4.snd/\True)/\FluB x_4.fst x_4.snd)/\Rng .i64 ((K:Int)- (x.val:Int)- (1:Int))/\∃(y:{i:Nat//i<=K}),(((0=
  0/\0=0)/\(0=0/\0=0)/\(0=0/\0=0)/\(↑(D x.val).snd.log.length:Int)=(↑(D y.val).snd.log.length:Int)/\(K:Int)- (x.val:Int)- (1:Int)=(K:Int)- (y.val:Int)/\True)/\(1=1/\1=1/\(nxS x_3.fst x_3.snd).c
  =(D y.val).fst.c/\(↑(nxS x_3.fst x_3.snd).at_:Int)=(↑(D y.val).fst.at_:Int)/\(nxS x_3.fst x_3.snd).sd=(D y.val).fst.sd/\True)/\(1=1/\1=1/\Value.slice none 0 0=Value.slice none 0 0/\Value.slice none 0 0=
  Value.slice none 0 0/\false=false/\Value.slice none 0 0=Value.slice none 0 0/\(0:Int)=(0:Int)/\Value.slice none 0 0=Value.slice none 0 0/\(0:Int)=(0:Int)/\Value.slice none 0 0=Value.slice none 0 0/\(0:
  Int)=(0:Int)/\True)/\(1=1/\1=1/\EqS (fluS x_4.fst x_4.snd).fst (D y.val).snd)/\True)/\Lt (K-y.val) (K-x.val))/\((nxV x_2.fst x_2.snd==(0:Int))=false->((nxV x_2.fst x_2.snd==(1:Int))=true->∃(x_3:
  (Src×Int)),(((0=0/\0=0)/\(8:Int)=x_3.snd/\True)/\((1=1/\RowsEq 1 (fun(x:Nat)=>[T.bys (nxS x_2.fst x_2.snd).c,T.int .i64 (↑(nxS x_2.fst x_2.snd).at_:Int),T.int .i64 (nxS x_2.fst x_2.snd).sd]) fun(x:
  Nat)=>[T.bys x_3.fst.c,T.int .i64 (x_3.fst.at_:Int),T.int .i64 x_3.fst.sd])/\True)/\SrcOK x_3.fst 1000000/\x_3.snd<=(256:Int))/\∃(x_4:(Sto×Nat)),(((EqS (D x.val).snd x_4.fst)/\nxV x_3.fst x_3.snd=(x_4.snd:Int)
  /\True)/\FetB x_4.fst x_4.snd)/\Rng .i64 ((K:Int)- (x.val:Int)- (1:Int))/\∃(y:{i:Nat//i<=K}),(((0=0/\0=0)/\(0=0/\0=0)/\(0=0/\0=0)/\(↑(D x.val).snd.log.length:Int)=(↑(D y.val).snd.log.length
  :Int)/\(K:Int)- (x.val:Int)- (1:Int)=(K:Int)- (y.val:Int)/\True)/\(1=1/\1=1/\(nxS x_3.fst x_3.snd).c=(D y.val).fst.c/\(↑(nxS x_3.fst x_3.snd).at_:Int)=(↑(D y.val).fst.at_:Int)/\(nxS x_3.fst x_3.snd).sd=
  (D y.val).fst.sd/\True)/\(1=1/\1=1/\Value.slice none 0 0=Value.slice none 0 0/\Value.slice none 0 0=Value.slice none 0 0/\false=false/\Value.slice none 0 0=Value.slice none 0 0/\(0:Int)=(0:Int)/\
  Value.slice none 0 0=Value.slice none 0 0/\(0:Int)=(0:Int)/\Value.slice none 0 0=Value.slice none 0 0/\(0:Int)=(0:Int)/\True)/\(1=1/\1=1/\EqS (eviR x_4.fst x_4.snd).fst (D y.val).snd)/\True)/\Lt (K-
  y.val) (K-x.val))/\((nxV x_2.fst x_2.snd==(1:Int))=false->((nxV x_2.fst x_2.snd==(2:Int))=true->∃(x_3:(Src×Int)),(((0=0/\0=0)/\(8:Int)=x_3.snd/\True)/\((1=1/\RowsEq 1 (fun(x:Nat)=>[T.bys
  (nxS x_2.fst x_2.snd).c,T.int .i64 (↑(nxS x_2.fst x_2.snd).at_:Int),T.int .i64 (nxS x_2.fst x_2.snd).sd]) fun(x:Nat)=>[T.bys x_3.fst.c,T.int .i64 (x_3.fst.at_:Int),T.int .i64 x_3.fst.sd])/\True)/\SrcOK x_3.fst 1000000
  /\x_3.snd<=(256:Int))/\∃(x_4:(Sto×Nat)),(((EqS (D x.val).snd x_4.fst)/\nxV x_3.fst x_3.snd=(x_4.snd:Int)/\True)/\FetB x_4.fst x_4.snd)/\Rng .i64 ((K:Int)- (x.val:Int)- (1:Int))/\∃(y:{i:Nat//i<=K}),
  (((0=0/\0=0)/\(0=0/\0=0)/\(0=0/\0=0)/\(↑(D x.val).snd.log.length:Int)=(↑(D y.val).snd.log.length:Int)/\(K:Int)- (x.val:Int)- (1:Int)=(K:Int)- (y.val:Int)/\True)/\(1=1/\1=1/\(nxS x_3.fst
  x_3.snd).c=(D y.val).fst.c/\(↑(nxS x_3.fst x_3.snd).at_:Int)=(↑(D y.val).fst.at_:Int)/\(nxS x_3.fst x_3.snd).sd=(D y.val).fst.sd/\True)/\(1=1/\1=1/\Value.slice none 0 0=Value.slice none 0 0/\Value.slice none
  0 0=Value.slice none 0 0/\false=false/\Value.slice none 0 0=Value.slice none 0 0/\(0:Int)=(0:Int)/\Value.slice none 0 0=Value.slice none 0 0/\(0:Int)=(0:Int)/\Value.slice none 0 0=Value.slice none 0 0/\
  (0:Int)=(0:Int)/\True)/\(1=1/\1=1/\EqS (fetS x_4.fst x_4.snd).fst (D y.val).snd)/\True)/\Lt (K-y.val) (K-x.val))/\((nxV x_2.fst x_2.snd==(2:Int))=false->∃(x_3:(Src×Int)),(((0=0/\0=0)/\(8:
  Int)=x_3.snd/\True)/\((1=1/\RowsEq 1 (fun(x:Nat)=>[T.bys (nxS x_2.fst x_2.snd).c,T.int .i64 (↑(nxS x_2.fst x_2.snd).at_:Int),T.int .i64 (nxS x_2.fst x_2.snd).sd]) fun(x:Nat)=>[T.bys x_3.fst.c,T.int .i64
  (x_3.fst.at_:Int),T.int .i64 x_3.fst.sd])/\True)/\SrcOK x_3.fst 1000000/\x_3.snd<=(256:Int))/\∃(x_4:(Src×Int)),(((0=0/\0=0)/\(4:Int)=x_4.snd/\True)/\((1=1/\RowsEq 1 (fun(x:Nat)=>[T.bys (nxS
  x_3.fst x_3.snd).c,T.int .i64 (↑(nxS x_3.fst x_3.snd).at_:Int),T.int .i64 (nxS x_3.fst x_3.snd).sd]) fun(x:Nat)=>[T.bys x_4.fst.c,T.int .i64 (x_4.fst.at_:Int),T.int .i64 x_4.fst.sd])/\True)/\SrcOK x_4.fst 1000000/\
  x_4.snd<=(256:Int))/\∃(x_5:(Src×List (List UInt8))),(((0=0/\0=0)/\(3=x_5.snd.length/\RowsEq 3 (fun(k:Nat)=>List.take 1 (List.drop (k*1) [T.str [],T.str [(114:UInt8),(101:UInt8),(99:UInt8)],T.str
  [(114:UInt8),(101:UInt8),(99:UInt8),(111:UInt8),(114:UInt8),(100:UInt8)]])) (strRow x_5.snd))/\True)/\((1=1/\RowsEq 1 (fun(x:Nat)=>[T.bys (nxS x_4.fst x_4.snd).c,T.int .i64 (↑(nxS x_4.fst x_4.snd).at_:
  Int),T.int .i64 (nxS x_4.fst x_4.snd).sd]) fun(x:Nat)=>[T.bys x_5.fst.c,T.int .i64 (x_5.fst.at_:Int),T.int .i64 x_5.fst.sd])/\True)/\SrcOK x_5.fst 1000000/\1<=x_5.snd.length/\x_5.snd.length<=256)/\(((↑(D
  x.val).snd.log.length:Int)==(0:Int))=true->∃(x_6:(Sto×Rec)),(((EqS (D x.val).snd x_6.fst)/\((0:Int)=x_6.snd.e/\(0:Int)=x_6.snd.l/\(1:Int)=x_6.snd.t/\(1:Int)=x_6.snd.k/\(0:Int)=x_6.snd.p/\(0
  :Int)=x_6.snd.n/\(0:Int)=x_6.snd.g/\(0:Int)=x_6.snd.s/\[]=x_6.snd.b/\[]=x_6.snd.a/\True)/\True)/\x_6.fst.log.length<=1000)/\(false=true->∃(x_7:(Sto×Int)),((((EqL strRow x_6.fst.d.sec x_7.fst.d.sec)
  /\(EqL pendRow x_6.fst.d.cache x_7.fst.d.cache)/\x_6.fst.d.armed=x_7.fst.d.armed/\(EqL intRow x_6.fst.d.keep x_7.fst.d.keep)/\x_6.fst.ep=x_7.fst.ep/\(EqL recRow (x_6.fst.log++[appR x_6.fst x_6.snd]) x_7.fst.log)/\
  x_6.fst.sure=x_7.fst.sure/\(EqL frmRow x_6.fst.fr x_7.fst.fr)/\x_6.fst.hand=x_7.fst.hand/\True)/\(↑(x_6.fst.log.length+1):Int)=x_7.snd/\True)/\SInv x_7.fst/\(1:Int)<=x_7.snd/\x_7.snd<=
  (x_7.fst.log.length:Int))/\Rng .i64 ((K:Int)- (x.val:Int)- (1:Int))/\∃(y:{i:Nat//i<=K}),(((0=0/\0=0)/\(0=0/\0=0)/\(0=0/\0=0)/\(↑(x_6.fst.log.length+1):Int)=(↑(D y.val).snd.log.length:Int)
  /\(K:Int)- (x.val:Int)- (1:Int)=(K:Int)- (y.val:Int)/\True)/\(1=1/\1=1/\(nxS x_5.fst (x_5.snd.length:Int)).c=(D y.val).fst.c/\(↑(nxS x_5.fst (x_5.snd.length:Int)).at_:Int)=(↑(D y.val).fst.at_:Int)/\(nxS
  x_5.fst (x_5.snd.length:Int)).sd=(D y.val).fst.sd/\True)/\(1=1/\1=1/\Value.slice none 0 0=Value.slice none 0 0/\Value.slice none 0 0=Value.slice none 0 0/\false=false/\Value.slice none 0 0=Value.slice none 0 0
  /\(0:Int)=(0:Int)/\Value.slice none 0 0=Value.slice none 0 0/\(0:Int)=(0:Int)/\Value.slice none 0 0=Value.slice none 0 0/\(0:Int)=(0:Int)/\True)/\(1=1/\1=1/\EqS (aplI x_7.fst x_7.snd).fst (D
  y.val).snd)/\True)/\Lt (K-y.val) (K-x.val))/\(false=false->Rng .i64 ((K:Int)- (x.val:Int)- (1:Int))/\∃(y:{i:Nat//i<=K}),(((0=0/\0=0)/\(0=0/\0=0)/\(0=0/\0=0)/\(↑(x_6.fst.log.length+1):
  Int)=(↑(D y.val).snd.log.length:Int)/\(K:Int)- (x.val:Int)- (1:Int)=(K:Int)- (y.val:Int)/\True)/\(1=1/\1=1/\(nxS x_5.fst (x_5.snd.length:Int)).c=(D y.val).fst.c/\(↑(nxS x_5.fst (x_5.snd.length:Int)).at_:
  Int)=(↑(D y.val).fst.at_:Int)/\(nxS x_5.fst (x_5.snd.length:Int)).sd=(D y.val).fst.sd/\True)/\(1=1/\1=1/\Value.slice none 0 0=Value.slice none 0 0/\Value.slice none 0 0=Value.slice none 0 0/\false=false/\
  Value.slice none 0 0=Value.slice none 0 0/\(0:Int)=(0:Int)/\Value.slice none 0 0=Value.slice none 0 0/\(0:Int)=(0:Int)/\Value.slice none 0 0=Value.slice none 0 0/\(0:Int)=(0:Int)/\True)/\(1=1/\1=
  1/\(EqL strRow x_6.fst.d.sec (D y.val).snd.d.sec)/\(EqL pendRow x_6.fst.d.cache (D y.val).snd.d.cache)/\x_6.fst.d.armed=(D y.val).snd.d.armed/\(EqL intRow x_6.fst.d.keep (D y.val).snd.d.keep)/\x_6.fst.ep=(D y.val).snd.ep
  /\(EqL recRow (x_6.fst.log++[appR x_6.fst x_6.snd]) (D y.val).snd.log)/\x_6.fst.sure=(D y.val).snd.sure/\(EqL frmRow x_6.fst.fr (D y.val).snd.fr)/\x_6.fst.hand=(D y.val).snd.hand/\True)/\True)/\Lt (K-y.val) (K-
  x.val)))/\(((↑(D x.val).snd.log.length:Int)==(0:Int))=false->∃(x_6:(Sto×Rec)),(((EqS (D x.val).snd x_6.fst)/\((0:Int)=x_6.snd.e/\(0:Int)=x_6.snd.l/\(1:Int)=x_6.snd.t/\(2:Int)=x_6.snd.k/\(↑(D
  x.val).snd.log.length:Int)=x_6.snd.p/\(0:Int)=x_6.snd.n/\nxV x_3.fst x_3.snd=x_6.snd.g/\nxV x_4.fst x_4.snd=x_6.snd.s/\[(111:UInt8),(108:UInt8),(100:UInt8)]=x_6.snd.b/\x_5.snd.getD (nxV x_5.fst
  (x_5.snd.length:Int)).toNat []=x_6.snd.a/\True)/\True)/\x_6.fst.log.length<=1000)/\(true=true->∃(x_7:(Sto×Int)),((((EqL strRow x_6.fst.d.sec x_7.fst.d.sec)/\(EqL pendRow x_6.fst.d.cache x_7.fst.d.cache)/\
  x_6.fst.d.armed=x_7.fst.d.armed/\(EqL intRow x_6.fst.d.keep x_7.fst.d.keep)/\x_6.fst.ep=x_7.fst.ep/\(EqL recRow (x_6.fst.log++[appR x_6.fst x_6.snd]) x_7.fst.log)/\x_6.fst.sure=x_7.fst.sure/\(EqL frmRow x_6.fst.fr
  x_7.fst.fr)/\x_6.fst.hand=x_7.fst.hand/\True)/\(↑(x_6.fst.log.length+1):Int)=x_7.snd/\True)/\SInv x_7.fst/\(1:Int)<=x_7.snd/\x_7.snd<=(x_7.fst.log.length:Int))/\Rng .i64 ((K:Int)- (x.val:Int)- (1:Int))/\∃
  (y:{i:Nat//i<=K}),(((0=0/\0=0)/\(0=0/\0=0)/\(0=0/\0=0)/\(↑(x_6.fst.log.length+1):Int)=(↑(D y.val).snd.log.length:Int)/\(K:Int)- (x.val:Int)- (1:Int)=(K:Int)- (y.val:Int)/\True)/\(1=1
  /\1=1/\(nxS x_5.fst (x_5.snd.length:Int)).c=(D y.val).fst.c/\(↑(nxS x_5.fst (x_5.snd.length:Int)).at_:Int)=(↑(D y.val).fst.at_:Int)/\(nxS x_5.fst (x_5.snd.length:Int)).sd=(D y.val).fst.sd/\True)/\(1=1/\1=1/\
  Value.slice none 0 0=Value.slice none 0 0/\Value.slice none 0 0=Value.slice none 0 0/\false=false/\Value.slice none 0 0=Value.slice none 0 0/\(0:Int)=(0:Int)/\Value.slice none 0 0=Value.slice none 0 0/\(0:
  Int)=(0:Int)/\Value.slice none 0 0=Value.slice none 0 0/\(0:Int)=(0:Int)/\True)/\(1=1/\1=1/\EqS (aplI x_7.fst x_7.snd).fst (D y.val).snd)/\True)/\Lt (K-y.val) (K-x.val))/\(true=false->Rng .i64
  ((K:Int)- (x.val:Int)- (1:Int))/\∃(y:{i:Nat//i<=K}),(((0=0/\0=0)/\(0=0/\0=0)/\(0=0/\0=0)/\(↑(x_6.fst.log.length+1):Int)=(↑(D y.val).snd.log.length:Int)/\(K:Int)- (x.val:Int)- (1:Int)
  =(K:Int)- (y.val:Int)/\True)/\(1=1/\1=1/\(nxS x_5.fst (x_5.snd.length:Int)).c=(D y.val).fst.c/\(↑(nxS x_5.fst (x_5.snd.length:Int)).at_:Int)=(↑(D y.val).fst.at_:Int)/\(nxS x_5.fst (x_5.snd.length:Int)).sd=(D
  y.val).fst.sd/\True)/\(1=1/\1=1/\Value.slice none 0 0=Value.slice none 0 0/\Value.slice none 0 0=Value.slice none 0 0/\false=false/\Value.slice none 0 0=Value.slice none 0 0/\(0:Int)=(0:Int)/\Value.slice
  none 0 0=Value.slice none 0 0/\(0:Int)=(0:Int)/\Value.slice none 0 0=Value.slice none 0 0/\(0:Int)=(0:Int)/\True)/\(1=1/\1=1/\(EqL strRow x_6.fst.d.sec (D y.val).snd.d.sec)/\(EqL pendRow x_6.fst.d.cache
  (D y.val).snd.d.cache)/\x_6.fst.d.armed=(D y.val).snd.d.armed/\(EqL intRow x_6.fst.d.keep (D y.val).snd.d.keep)/\x_6.fst.ep=(D y.val).snd.ep/\(EqL recRow (x_6.fst.log++[appR x_6.fst x_6.snd]) (D y.val).snd.log)/\
  x_6.fst.sure=(D y.val).snd.sure/\(EqL frmRow x_6.fst.fr (D y.val).snd.fr)/\x_6.fst.hand=(D y.val).snd.hand/\True)/\True)/\Lt (K-y.val) (K-x.val)))))))/\(decide ((K:Int)- (x.val:Int)>(0:Int))=false->∃(x_2:
  Sto),(((EqS (D x.val).snd x_2)/\True)/\SmS x_2)/\((EqC x_2 (D K).snd)/\True)/\(1=1/\1=1/\(D x.val).fst.c=(D K).fst.c/\(↑(D x.val).fst.at_:Int)=(↑(D K).fst.at_:Int)/\(D x.val).fst.sd=(D K).fst.sd/\True)/\
  EqH (0) (0) x_2 (D K).snd)):
  EffFn Tryz.prog 44 [.ref 0 0 0] [srcB s0] (.agg ((D K).2.tm 1)) ([srcB (D K).1]++(D K).2.hp 0):=
 vcG (code:=b_store) (gC tmpA_ok call_tmpA (gC NewStore0_ok call_NewStore0 (gC next_ok call_next (gC pick_ok call_pick (gC l05Flush_ok call_l05Flush (gC l05Evict_ok call_l05Evict (gC l05Fetch_ok call_l05Fetch (gC l05Append_ok call_l05Append (gC l05ApplyI_ok call_l05ApplyI (gC l05Own_ok call_l05Own gN)))))))))) Tryz.func44 (by kernel_rfl) (by kernel_rfl) (A_store K D) [[.box 0,.arr 3,.arr 4,.arr 5,.arr 6,.arr 7]] h (by kernel_rfl)
def DInv(i:Nat)(y:Src×Sto):Prop:=SrcOK y.1 (10*(i+1))/\GInv y.2/\y.2.log.length<=i
theorem SrcOK.le{s:Src}{m n:Nat}(h:SrcOK s m)(hl:m<=n):SrcOK s n:=⟨Nat.le_trans h.1 hl,h.2⟩
theorem recB_ok{s:Sto}(h:GInv s)(h0:s.log.length=0):recOK (appR s recB)=true:=by
 have he:=h.ep;refine(recOK_iff _).2 ?_
 unfold RecP appR recB;dsimp only;rw[h0];refine⟨he.1,he.2,?_⟩
 simp
theorem afts_le(i:Nat):(afts.getD i []).length<=30:=by
 match i with
 |0=>decide
 |1=>decide
 |2=>decide
 |n+3=>exact Nat.zero_le _
theorem recU_ok{s:Sto}{pg sl:Int}{a:List UInt8}(h:GInv s)(h0:s.log.length≠0)(h6:s.log.length<60)(hp:0<=pg/\pg<8)(hs:0<=sl/\sl<4)(ha:a.length<=30):recOK (appR s (recU s.log.length pg sl a))=true:=by
 have he:=h.ep;refine(recOK_iff _).2 ?_
 unfold RecP appR recU;dsimp only;refine⟨he.1,he.2,by omega,by omega,by omega,by omega,by omega,by omega,by omega,by omega,hp.1,by omega,hs.1,by omega,by decide,fun e=>by omega,fun _=>⟨by omega,by omega,ha,fun e=>absurd rfl e,fun _=>rfl,fun e=>by omega,⟨fun e=>by omega,fun e=>by omega⟩⟩⟩
theorem appX_last(s:Sto)(r:Rec):(appX s r).log.getD s.log.length default=appR s r:=by
 unfold appX;dsimp only;rw[List.getD_eq_getElem?_getD,List.getElem?_append_right (Nat.le_refl _)]
 simp
theorem d_put{s:Src}{x:Sto}{m i:Nat}(h:SrcOK s m)(hg:GInv x)(hl:x.log.length<=i)(hi:i<14):SrcOK (dPut s x).1 (m+3)/\GInv (dPut s x).2/\(dPut s x).2.log.length<=i+1:=by
 have n1:=nx_rng h (n:=8) (by decide)
 have n2:=nx_rng n1.2.2 (n:=4) (by decide)
 have n3:=nx_rng n2.2.2 (n:=3) (by decide)
 unfold dPut;dsimp only;by_cases h0:x.log.length=0
 ·rw[if_pos h0,if_pos h0];exact⟨n3.2.2,g_app hg (by omega) (recB_ok hg h0),by show(x.log++[_]).length<=_;rw[List.length_append];simp;omega⟩
 ·rw[if_neg h0,if_neg h0];have hr:=recU_ok hg h0 (by omega) ⟨n1.1,n1.2.1⟩ ⟨n2.1,n2.2.1⟩ (afts_le (nxV (nxS (nxS s 8) 4) 3).toNat)
  have ga:=g_app hg (by omega) hr
  have hL:(appX x (recU x.log.length (nxV s 8) (nxV (nxS s 8) 4) (afts.getD (nxV (nxS (nxS s 8) 4) 3).toNat []))).log.length=x.log.length+1:=by unfold appX;simp
  obtain⟨g1,_,g3,_⟩:=g_apl ga (r:=appR x (recU x.log.length (nxV s 8) (nxV (nxS s 8) 4) (afts.getD (nxV (nxS (nxS s 8) 4) 3).toNat []))) ⟨n1.1,n1.2.1⟩ ⟨n2.1,n2.2.1⟩ ⟨by show(1:Int)<=(x.log.length:Int)+1;omega,by show(x.log.length:Int)+1<=_;rw[hL];omega⟩ (afts_le _)
  exact⟨n3.2.2,g1,by rw[g3,hL];omega⟩
theorem d_step{y:Src×Sto}{i:Nat}(h:DInv i y)(hi:i<14):DInv (i+1) (dStep y):=by
 obtain⟨h1,h2,h3⟩:=h;have n1:=nx_rng h1 (n:=6) (by decide)
 have n8:=nx_rng n1.2.2 (n:=8) (by decide)
 have nl:=nx_rng n1.2.2 (n:=(y.2.log.length:Int)+1) (by omega)
 unfold dStep DInv;dsimp only;split
 ·obtain⟨_,_,r3,_⟩:=flu_rest y.2 (nxV (nxS y.1 6) ((y.2.log.length:Int)+1));exact⟨nl.2.2.le (by omega),(g_flu h2 (by omega)).1,by rw[r3];omega⟩
 ·split
  ·obtain⟨a,b,_⟩:=g_eviR (no:=(nxV (nxS y.1 6) 8).toNat) h2;exact⟨n8.2.2.le (by omega),a,by rw[b];omega⟩
  ·split
   ·obtain⟨⟨a,_,_,b,_⟩,_⟩:=g_fet (no:=(nxV (nxS y.1 6) 8).toNat) h2 (by omega)
    exact⟨n8.2.2.le (by omega),a,by rw[b];omega⟩
   ·obtain⟨a,b,c⟩:=d_put n1.2.2 h2 h3 hi;exact⟨a.le (by omega),b,c⟩
theorem srcN_ok(c:List UInt8):SrcOK (srcN c) 0:=by
 have:=tmod_rng (a:=(c.length:Int)) (n:=1000) (by omega) (by decide)
 exact⟨Nat.le_refl _,this.1,by show(c.length:Int).tmod 1000<_;omega⟩
theorem rd_sto0{n:Nat}(h:1<=n):rdAt sto0.d n=[]:=by
 show((secE 69).set 0 (hdB 1)).getD n []=[];rw[List.getD_eq_getElem?_getD,List.getElem?_set_ne (by omega)]
 unfold secE;rw[List.getElem?_replicate]
 split<;>rfl
theorem g_sto0:GInv sto0:=by
 have h69:sto0.d.sec.length=69:=by
  show((secE 69).set 0 (hdB 1)).length=69;rw[List.length_set];exact List.length_replicate
 have pg:∀no,pgAt sto0.d no=(⟨0,[[],[],[],[]]⟩,true):=fun no=>by
  unfold pgAt;rw[if_pos (rd_sto0 (by omega))]
 refine⟨⟨rfl,rfl,h69,fun i hi=> ?_,fun i hi=>absurd hi (Nat.not_lt_zero _)⟩,Nat.zero_le _,⟨by decide,by decide⟩,Nat.zero_le _,areOK_iff.2 fun i hi=>absurd hi (Nat.not_lt_zero _),⟨Int.le_refl _,Int.le_refl _⟩,fun i hi=>absurd hi (Nat.not_lt_zero _),fun no _=>by rw[pg];exact⟨rfl,Int.le_refl _⟩,Nat.zero_le _,fun i hi=>absurd hi (Nat.not_lt_zero _),fun i j hi=>absurd hi (Nat.not_lt_zero _),fun i hi=>absurd hi (Nat.not_lt_zero _),⟨Int.le_refl _,by decide⟩,fun i hi=>absurd hi (Nat.not_lt_zero _),fun i _ _=>rd_sto0 (by omega)⟩
 by_cases h:i=0
 ·subst h;show(((secE 69).set 0 (hdB 1)).getD 0 []).length<=160;rw[List.getD_eq_getElem?_getD]
  rw[List.getElem?_set_self (by unfold secE;simp)]
  show 6<=160;decide
 ·have:sto0.d.sec.getD i []=[]:=rd_sto0 (by omega)
  rw[this];exact Nat.zero_le _
theorem d_many(c:List UInt8):dMany c<14/\(nxV (srcN c) 14=dMany c):=by
 have n:=nx_rng (srcN_ok c) (n:=14) (by decide)
 unfold dMany;omega
theorem d_inv(c:List UInt8):∀i,i<=dMany c->DInv i (dIter (dBeg c) i)
 |0,_=>⟨(nx_rng (srcN_ok c) (n:=14) (by decide)).2.2.le (by omega),g_sto0,Nat.zero_le _⟩
 |i+1,h=>d_step (d_inv c i (by omega)) (by have:=(d_many c).1;omega)
noncomputable def k_store:Con:=.reff ⟨List UInt8,fun _=>[.ref 0 0 0],fun c=>[srcB (srcN c)],fun c=>.agg ((dEnd c).2.tm 1),fun c=>[srcB (dEnd c).1]++(dEnd c).2.hp 0,fun _=>True⟩
theorem store_ok:ConOk Tryz.prog 44 k_store:=by
 intro(c:List UInt8) _;obtain⟨hm,hmv⟩:=d_many c;have n0:=srcN_ok c;have e14:(14:Int)<=256:=by decide
 refine v_store (srcN c) (dMany c) (dIter (dBeg c)) ⟨⟨sto0,rfl⟩,⟨trivial,trivial⟩,(srcN c,14),⟨(by repeat' first|exact trivial|exact rfl|exact rowsR _ _|exact famR _|exact row0|exact le0 _|exact Nat.le_refl _|exact Nat.zero_le _|refine And.intro ?_ ?_),⟨⟨rfl,fun _ _=>rfl⟩,trivial⟩,n0.le (by omega),e14⟩,⟨⟨0,Nat.zero_le _⟩,⟨⟨rfl,rfl⟩,⟨rfl,rfl⟩,⟨rfl,rfl⟩,rfl,by dsimp only;rw[hmv];omega,trivial⟩,⟨rfl,rfl,rfl,rfl,rfl,trivial⟩,(by repeat' first|exact trivial|exact rfl|exact rowsR _ _|exact famR _|exact row0|exact le0 _|exact Nat.le_refl _|exact Nat.zero_le _|refine And.intro ?_ ?_)⟩,fun x=>⟨fun hc=> ?_,fun hc=> ?_⟩⟩
 ·have hlt:x.val<dMany c:=by have:=of_decide_eq_true hc;omega
  have I:=d_inv c x.val x.2;have e1:dIter (dBeg c) (x.val+1)=dStep (dIter (dBeg c) x.val):=rfl;generalize dIter (dBeg c) x.val=y at*;obtain⟨i1,i2,i3⟩:=I;have n1:=nx_rng i1 (n:=6) (by decide)
  have n8:=nx_rng n1.2.2 (n:=8) (by decide)
  have nl:=nx_rng n1.2.2 (n:=(y.2.log.length:Int)+1) (by omega)
  have e6:(6:Int)<=256:=by decide
  have e8:(8:Int)<=256:=by decide
  have e4:(4:Int)<=256:=by decide
  refine⟨(y.1,6),⟨(by repeat' first|exact trivial|exact rfl|exact rowsR _ _|exact famR _|exact row0|exact le0 _|exact Nat.le_refl _|exact Nat.zero_le _|refine And.intro ?_ ?_),⟨⟨rfl,fun _ _=>rfl⟩,trivial⟩,i1.le (by omega),e6⟩,fun hv=> ?_,fun hv=>⟨fun hw=> ?_,fun hw=>⟨fun hz=> ?_,fun hz=> ?_⟩⟩⟩
  ·have hv:nxV y.1 6=0:=eq_of_beq hv;have es:dStep y=(nxS (nxS y.1 6) ((y.2.log.length:Int)+1),(fluS y.2 (nxV (nxS y.1 6) ((y.2.log.length:Int)+1))).1):=by unfold dStep;dsimp only;rw[if_pos hv]
   obtain⟨_,_,r3,_⟩:=flu_rest y.2 (nxV (nxS y.1 6) ((y.2.log.length:Int)+1));refine⟨i64_rng (by omega),(nxS y.1 6,(y.2.log.length:Int)+1),⟨(by repeat' first|exact trivial|exact rfl|exact rowsR _ _|exact famR _|exact row0|exact le0 _|exact Nat.le_refl _|exact Nat.zero_le _|refine And.intro ?_ ?_),⟨⟨rfl,fun _ _=>rfl⟩,trivial⟩,n1.2.2.le (by omega),by dsimp only;omega⟩,(y.2,nxV (nxS y.1 6) ((y.2.log.length:Int)+1)),⟨⟨eqS _,rfl,trivial⟩,i2.inv.flu (by dsimp only;omega)⟩,i64_rng (by omega),⟨x.val+1,hlt⟩,?_,by unfold Lt;dsimp only;omega⟩
   dsimp only;rw[e1,es];exact⟨⟨⟨rfl,rfl⟩,⟨rfl,rfl⟩,⟨rfl,rfl⟩,by rw[r3],by omega,trivial⟩,(by repeat' first|exact trivial|exact rfl|exact rowsR _ _|exact famR _|exact row0|exact le0 _|exact Nat.le_refl _|exact Nat.zero_le _|refine And.intro ?_ ?_)⟩
  ·have hv:¬nxV y.1 6=0:=fun e=>by rw[e] at hv;cases hv
   have hw:nxV y.1 6=1:=eq_of_beq hw;have es:dStep y=(nxS (nxS y.1 6) 8,(eviR y.2 (nxV (nxS y.1 6) 8).toNat).1):=by unfold dStep;dsimp only;rw[if_neg hv,if_pos hw]
   obtain⟨_,r3,_⟩:=g_eviR (no:=(nxV (nxS y.1 6) 8).toNat) i2;refine⟨(nxS y.1 6,8),⟨(by repeat' first|exact trivial|exact rfl|exact rowsR _ _|exact famR _|exact row0|exact le0 _|exact Nat.le_refl _|exact Nat.zero_le _|refine And.intro ?_ ?_),⟨⟨rfl,fun _ _=>rfl⟩,trivial⟩,n1.2.2.le (by omega),e8⟩,(y.2,(nxV (nxS y.1 6) 8).toNat),⟨⟨eqS _,by dsimp only;omega,trivial⟩,i2.inv,by omega⟩,i64_rng (by omega),⟨x.val+1,hlt⟩,?_,by unfold Lt;dsimp only;omega⟩
   dsimp only;rw[e1,es];exact⟨⟨⟨rfl,rfl⟩,⟨rfl,rfl⟩,⟨rfl,rfl⟩,by rw[r3],by omega,trivial⟩,(by repeat' first|exact trivial|exact rfl|exact rowsR _ _|exact famR _|exact row0|exact le0 _|exact Nat.le_refl _|exact Nat.zero_le _|refine And.intro ?_ ?_)⟩
  ·have hv:¬nxV y.1 6=0:=fun e=>by rw[e] at hv;cases hv
   have hw:¬nxV y.1 6=1:=fun e=>by rw[e] at hw;cases hw
   have hz:nxV y.1 6=2:=eq_of_beq hz;have es:dStep y=(nxS (nxS y.1 6) 8,(fetS y.2 (nxV (nxS y.1 6) 8).toNat).1):=by unfold dStep;dsimp only;rw[if_neg hv,if_neg hw,if_pos hz]
   obtain⟨⟨_,_,_,r3,_⟩,_⟩:=g_fet (no:=(nxV (nxS y.1 6) 8).toNat) i2 (by omega)
   refine⟨(nxS y.1 6,8),⟨(by repeat' first|exact trivial|exact rfl|exact rowsR _ _|exact famR _|exact row0|exact le0 _|exact Nat.le_refl _|exact Nat.zero_le _|refine And.intro ?_ ?_),⟨⟨rfl,fun _ _=>rfl⟩,trivial⟩,n1.2.2.le (by omega),e8⟩,(y.2,(nxV (nxS y.1 6) 8).toNat),⟨⟨eqS _,by dsimp only;omega,trivial⟩,i2.inv,by omega⟩,i64_rng (by omega),⟨x.val+1,hlt⟩,?_,by unfold Lt;dsimp only;omega⟩
   dsimp only;rw[e1,es];exact⟨⟨⟨rfl,rfl⟩,⟨rfl,rfl⟩,⟨rfl,rfl⟩,by rw[r3],by omega,trivial⟩,(by repeat' first|exact trivial|exact rfl|exact rowsR _ _|exact famR _|exact row0|exact le0 _|exact Nat.le_refl _|exact Nat.zero_le _|refine And.intro ?_ ?_)⟩
  ·have hv:¬nxV y.1 6=0:=fun e=>by rw[e] at hv;cases hv
   have hw:¬nxV y.1 6=1:=fun e=>by rw[e] at hw;cases hw
   have hz:¬nxV y.1 6=2:=fun e=>by rw[e] at hz;cases hz
   have es:dStep y=dPut (nxS y.1 6) y.2:=by unfold dStep;dsimp only;rw[if_neg hv,if_neg hw,if_neg hz]
   have n2:=nx_rng n8.2.2 (n:=4) (by decide)
   have n3:=nx_rng n2.2.2 (n:=3) (by decide)
   have ea:RowsEq 3 (fun(k:Nat)=>List.take 1 (List.drop (k*1) [T.str [],T.str [(114:UInt8),(101:UInt8),(99:UInt8)],T.str [(114:UInt8),(101:UInt8),(99:UInt8),(111:UInt8),(114:UInt8),(100:UInt8)]])) (strRow afts):=fun i hi=>by
    match i,hi with
    |0,_=>rfl
    |1,_=>rfl
    |2,_=>rfl
   have l3:afts.length=3:=rfl;refine⟨(nxS y.1 6,8),⟨(by repeat' first|exact trivial|exact rfl|exact rowsR _ _|exact famR _|exact row0|exact le0 _|exact Nat.le_refl _|exact Nat.zero_le _|refine And.intro ?_ ?_),⟨⟨rfl,fun _ _=>rfl⟩,trivial⟩,n1.2.2.le (by omega),e8⟩,(nxS (nxS y.1 6) 8,4),⟨(by repeat' first|exact trivial|exact rfl|exact rowsR _ _|exact famR _|exact row0|exact le0 _|exact Nat.le_refl _|exact Nat.zero_le _|refine And.intro ?_ ?_),⟨⟨rfl,fun _ _=>rfl⟩,trivial⟩,n8.2.2.le (by omega),e4⟩,(nxS (nxS (nxS y.1 6) 8) 4,afts),⟨⟨⟨rfl,rfl⟩,⟨rfl,ea⟩,trivial⟩,⟨⟨rfl,fun _ _=>rfl⟩,trivial⟩,n2.2.2.le (by omega),by dsimp only;omega,by dsimp only;omega⟩,fun h0=> ?_,fun h0=> ?_⟩
   ·have h0:y.2.log.length=0:=by have:=eq_of_beq h0;omega
    have ed:dPut (nxS y.1 6) y.2=(nxS (nxS (nxS (nxS y.1 6) 8) 4) 3,appX y.2 recB):=by unfold dPut;dsimp only;rw[if_pos h0,if_pos h0]
    refine⟨(y.2,recB),⟨⟨eqS _,(by repeat' first|exact trivial|exact rfl|exact rowsR _ _|exact famR _|exact row0|exact le0 _|exact Nat.le_refl _|exact Nat.zero_le _|refine And.intro ?_ ?_)⟩,by dsimp only;omega⟩,fun hb=>(by cases hb),fun _=>⟨i64_rng (by omega),⟨x.val+1,hlt⟩,?_,by unfold Lt;dsimp only;omega⟩⟩
    dsimp only;rw[e1,es,ed];exact⟨⟨⟨rfl,rfl⟩,⟨rfl,rfl⟩,⟨rfl,rfl⟩,by unfold appX;simp,by omega,trivial⟩,(by repeat' first|exact trivial|exact rfl|exact rowsR _ _|exact famR _|exact row0|exact le0 _|exact Nat.le_refl _|exact Nat.zero_le _|refine And.intro ?_ ?_)⟩
   ·have h0:y.2.log.length≠0:=fun e=>by rw[e] at h0;simp at h0
    have ed:dPut (nxS y.1 6) y.2=(nxS (nxS (nxS (nxS y.1 6) 8) 4) 3,(aplS (appX y.2 (recU y.2.log.length (nxV (nxS y.1 6) 8) (nxV (nxS (nxS y.1 6) 8) 4) (afts.getD (nxV (nxS (nxS (nxS y.1 6) 8) 4) 3).toNat []))) (appR y.2 (recU y.2.log.length (nxV (nxS y.1 6) 8) (nxV (nxS (nxS y.1 6) 8) 4) (afts.getD (nxV (nxS (nxS (nxS y.1 6) 8) 4) 3).toNat [])))).1):=by unfold dPut;dsimp only;rw[if_neg h0,if_neg h0]
    have hr:=recU_ok i2 h0 (by omega) ⟨n8.1,n8.2.1⟩ ⟨n2.1,n2.2.1⟩ (afts_le (nxV (nxS (nxS (nxS y.1 6) 8) 4) 3).toNat)
    have ga:=g_app i2 (by omega) hr
    have hla:=appX_last y.2 (recU y.2.log.length (nxV (nxS y.1 6) 8) (nxV (nxS (nxS y.1 6) 8) 4) (afts.getD (nxV (nxS (nxS (nxS y.1 6) 8) 4) 3).toNat []));have hL:(appX y.2 (recU y.2.log.length (nxV (nxS y.1 6) 8) (nxV (nxS (nxS y.1 6) 8) 4) (afts.getD (nxV (nxS (nxS (nxS y.1 6) 8) 4) 3).toNat []))).log.length=y.2.log.length+1:=by unfold appX;simp
    obtain⟨_,_,g3,_⟩:=g_apl ga (r:=appR y.2 (recU y.2.log.length (nxV (nxS y.1 6) 8) (nxV (nxS (nxS y.1 6) 8) 4) (afts.getD (nxV (nxS (nxS (nxS y.1 6) 8) 4) 3).toNat []))) ⟨n8.1,n8.2.1⟩ ⟨n2.1,n2.2.1⟩ ⟨by show(1:Int)<=(y.2.log.length:Int)+1;omega,by show(y.2.log.length:Int)+1<=_;rw[hL];omega⟩ (afts_le _)
    refine⟨(y.2,recU y.2.log.length (nxV (nxS y.1 6) 8) (nxV (nxS (nxS y.1 6) 8) 4) (afts.getD (nxV (nxS (nxS (nxS y.1 6) 8) 4) 3).toNat [])),⟨⟨eqS _,(by repeat' first|exact trivial|exact rfl|exact rowsR _ _|exact famR _|exact row0|exact le0 _|exact Nat.le_refl _|exact Nat.zero_le _|refine And.intro ?_ ?_)⟩,by dsimp only;omega⟩,fun _=>⟨(appX y.2 (recU y.2.log.length (nxV (nxS y.1 6) 8) (nxV (nxS (nxS y.1 6) 8) 4) (afts.getD (nxV (nxS (nxS (nxS y.1 6) 8) 4) 3).toNat [])),((y.2.log.length+1:Nat):Int)),⟨⟨eqS (appX _ _),rfl,trivial⟩,ga.inv,by dsimp only;omega,by dsimp only;rw[hL];exact Int.le_refl _⟩,i64_rng (by omega),⟨x.val+1,hlt⟩,?_,by unfold Lt;dsimp only;omega⟩,fun hb=>(by cases hb)⟩
    have ei:aplI (appX y.2 (recU y.2.log.length (nxV (nxS y.1 6) 8) (nxV (nxS (nxS y.1 6) 8) 4) (afts.getD (nxV (nxS (nxS (nxS y.1 6) 8) 4) 3).toNat []))) ((y.2.log.length+1:Nat):Int)=aplS (appX y.2 (recU y.2.log.length (nxV (nxS y.1 6) 8) (nxV (nxS (nxS y.1 6) 8) 4) (afts.getD (nxV (nxS (nxS (nxS y.1 6) 8) 4) 3).toNat []))) (appR y.2 (recU y.2.log.length (nxV (nxS y.1 6) 8) (nxV (nxS (nxS y.1 6) 8) 4) (afts.getD (nxV (nxS (nxS (nxS y.1 6) 8) 4) 3).toNat []))):=by
     unfold aplI;rw[show(((y.2.log.length+1:Nat):Int)-1).toNat=y.2.log.length by omega,hla]
    dsimp only;rw[e1,es,ed,ei];exact⟨⟨⟨rfl,rfl⟩,⟨rfl,rfl⟩,⟨rfl,rfl⟩,by rw[g3,hL],by omega,trivial⟩,(by repeat' first|exact trivial|exact rfl|exact rowsR _ _|exact famR _|exact row0|exact le0 _|exact Nat.le_refl _|exact Nat.zero_le _|refine And.intro ?_ ?_)⟩
 ·have hx:x.val=dMany c:=by have:=x.2;have:=of_decide_eq_false hc;omega
  rw[hx];have hI:=d_inv c (dMany c) (Nat.le_refl _);exact⟨(dEnd c).2,⟨⟨eqS _,trivial⟩,hI.2.1.sm⟩,⟨⟨⟨rfl,rfl⟩,⟨rfl,rfl⟩,rfl,⟨rfl,rfl⟩,rfl,⟨rfl,rfl⟩,rfl,⟨rfl,rfl⟩,rfl,trivial⟩,trivial⟩,⟨rfl,rfl,rfl,rfl,rfl,trivial⟩,⟨rfl,rowsR _ _⟩,⟨rfl,rowsR _ _⟩,⟨rfl,rowsR _ _⟩,⟨rfl,rowsR _ _⟩,⟨rfl,rfl,famR _⟩,trivial⟩
def StY:Type:={x:List UInt8×Src×Sto//x.2=dEnd x.1}
noncomputable def k_storeY:Con:=.reff ⟨StY,fun _=>[.ref 0 0 0],fun x=>[srcB (srcN x.1.1)],fun x=>.agg (x.1.2.2.tm 1),fun x=>[srcB x.1.2.1]++x.1.2.2.hp 0,fun _=>True⟩
theorem call_storeY:Callable Tryz.prog 44:=⟨_,Tryz.func44,by kernel_rfl,by kernel_rfl⟩
theorem storeY_ok:ConOk Tryz.prog 44 k_storeY:=fun x _=>by
 obtain⟨⟨c,y⟩,h⟩:=x;dsimp only at h;subst h;exact store_ok c trivial
noncomputable def k_StoreOf:Con:=.rmk ⟨List UInt8,fun c=>[.bys c],fun _=>[],fun c=>.agg ((dEnd c).2.tm 0),fun c=>(dEnd c).2.hp 0,fun c=>c.length<=1048576⟩
noncomputable def b_StoreOf:Code:=Tryz.f11.body.getD .skip
theorem v_StoreOf(c:List UInt8)(y:Src×Sto)(h:
  ∃(x:(List UInt8)),((c=x/\True)/\True/\List.length x<=1048576)/\∃(x_1:StY),(((0=0/\0=0)/\True)/\((1=1/\RowsEq 1 (fun(x_2:Nat)=>[T.bys x,T.int .i64 (↑(0:Nat):Int),T.int .i64 ((↑(List.length x):
  Int).tmod (1000:Int))]) fun(x:Nat)=>[T.bys x_1.val.fst,T.int .i64 (↑(0:Nat):Int),T.int .i64 ((x_1.val.fst.length:Int).tmod (1000:Int))])/\True)/\True)/\((EqC x_1.val.snd.snd y.snd)/\True)/\EqH (0) (0)
  x_1.val.snd.snd y.snd):
  EffFn Tryz.prog 11 [.bys c] [] (.agg (y.2.tm 0)) (y.2.hp 0):=
 vcG (code:=b_StoreOf) (gC l00Source_ok call_l00Source (gC storeY_ok call_storeY gN)) Tryz.func11 (by kernel_rfl) (by kernel_rfl) noAnn [[.arr 2,.arr 3,.arr 4,.arr 5,.arr 6],[.arr 3,.arr 4,.arr 5,.arr 6,.arr 7]] h (by kernel_rfl)
theorem StoreOf_ok:ConOk Tryz.prog 11 k_StoreOf:=fun c _=>⟨v_StoreOf c (dEnd c) ⟨c,⟨⟨rfl,trivial⟩,trivial,by assumption⟩,⟨(c,dEnd c),rfl⟩,⟨(by repeat' first|exact trivial|exact rfl|exact rowsR _ _|exact famR _|exact row0|exact le0 _|exact Nat.le_refl _|exact Nat.zero_le _|refine And.intro ?_ ?_),⟨⟨rfl,fun _ _=>rfl⟩,trivial⟩,trivial⟩,⟨⟨⟨rfl,rfl⟩,⟨rfl,rfl⟩,rfl,⟨rfl,rfl⟩,rfl,⟨rfl,rfl⟩,rfl,⟨rfl,rfl⟩,rfl,trivial⟩,trivial⟩,⟨rfl,rowsR _ _⟩,⟨rfl,rowsR _ _⟩,⟨rfl,rowsR _ _⟩,⟨rfl,rowsR _ _⟩,⟨rfl,rfl,famR _⟩,trivial⟩,rfl,plain_sto _ 0⟩
theorem dEnd_inv(c:List UInt8):GInv (dEnd c).2/\(dEnd c).2.log.length<=13:=by
 obtain⟨_,h1,h2⟩:=d_inv c (dMany c) (Nat.le_refl _);exact⟨h1,by have:=(d_many c).1;show(dIter (dBeg c) (dMany c)).2.log.length<=_;omega⟩
end Go.Proofs.YtndilbkocjlgpaaGreat

namespace Go.Proofs.YtndilbkocjlgpaaGreat
set_option maxRecDepth 100000
open Go.SS

def k_sameTexts:Con:=.rel r_eqStrS
def A_same(t:T)(n:Nat):Nat->Ann
 |0=>.one {i:Nat//i<=n} (fun x=>⟨[(0,t),(1,t),(5,.int .i64 x.1)],[]⟩) (fun x=>n-x.1) [] [] (fun _=>noAnn)
 |_=>.none
noncomputable def b_sameTexts:Code:=Tryz.f89.body.getD .skip
theorem call_sameTexts:Callable Tryz.prog 89:=⟨_,Tryz.func89,by kernel_rfl,by kernel_rfl⟩
theorem v_sameTexts(L:List (List UInt8))(h:
  (((L.length:Int) !=(L.length:Int))=true->false=true)/\(((L.length:Int) !=(L.length:Int))=false->(∃(x:{i:Nat//i<=L.length}),((EqL strRow L L)/\(EqL strRow L L)/\(0:Int)=(x.val:Int)/\True)/\True)/\∀(x
  :{i:Nat//i<=L.length}),(decide ((x.val:Int)<(L.length:Int))=true->InB (x.val:Int) L.length/\InB (x.val:Int) L.length/\((!L.getD (x.val:Int).toNat []==L.getD (x.val:Int).toNat [])=true->false=true)/\
  ((!L.getD (x.val:Int).toNat []==L.getD (x.val:Int).toNat [])=false->Rng .i64 ((x.val:Int)+(1:Int))/\∃(y:{i:Nat//i<=L.length}),(((EqL strRow L L)/\(EqL strRow L L)/\(x.val:Int)+(1:Int)=(y.val:Int)/\
  True)/\True)/\Lt (L.length-y.val) (L.length-x.val)))/\(decide ((x.val:Int)<(L.length:Int))=false->true=true))):
  PureFn Tryz.prog 89 [strS L,strS L] (.bool true):=
 vcR (code:=b_sameTexts) gN Tryz.func89 (by kernel_rfl) (by kernel_rfl) (A_same (strS L) L.length) h (by kernel_rfl)
theorem sameTexts_ok:ConOk Tryz.prog 89 k_sameTexts:=by
 intro(L:List (List UInt8)) (hL:L.length<=1048576);refine v_sameTexts L ⟨fun h=>by simp at h,fun _=>⟨⟨⟨0,Nat.zero_le _⟩,⟨⟨(by trivial),rowsR _ _⟩,⟨(by trivial),rowsR _ _⟩,rfl,trivial⟩,trivial⟩,fun x=>⟨fun hc=> ?_,fun _=>rfl⟩⟩⟩
 have hlt:=lt_of_dec hc;exact⟨inB_nat hlt,inB_nat hlt,fun h=>by simp at h,fun _=>⟨add_rng hlt (by omega),⟨x.val+1,hlt⟩,⟨⟨⟨(by trivial),rowsR _ _⟩,⟨(by trivial),rowsR _ _⟩,by simp only;omega,trivial⟩,trivial⟩,Cnt.ext_lt hlt⟩⟩
def k_sameInts:Con:=.rel r_eqIntS
noncomputable def b_sameInts:Code:=Tryz.f39.body.getD .skip
theorem call_sameInts:Callable Tryz.prog 39:=⟨_,Tryz.func39,by kernel_rfl,by kernel_rfl⟩
theorem v_sameInts(L:List Int)(h:
  (((L.length:Int) !=(L.length:Int))=true->false=true)/\(((L.length:Int) !=(L.length:Int))=false->(∃(x:{i:Nat//i<=L.length}),((EqL intRow L L)/\(EqL intRow L L)/\(0:Int)=(x.val:Int)/\True)/\True)/\∀(x
  :{i:Nat//i<=L.length}),(decide ((x.val:Int)<(L.length:Int))=true->InB (x.val:Int) L.length/\InB (x.val:Int) L.length/\((L.getD (x.val:Int).toNat (0:Int) !=L.getD (x.val:Int).toNat (0:Int))=true->false=
  true)/\((L.getD (x.val:Int).toNat (0:Int) !=L.getD (x.val:Int).toNat (0:Int))=false->Rng .i64 ((x.val:Int)+(1:Int))/\∃(y:{i:Nat//i<=L.length}),(((EqL intRow L L)/\(EqL intRow L L)/\(x.val:Int)+(1:
  Int)=(y.val:Int)/\True)/\True)/\Lt (L.length-y.val) (L.length-x.val)))/\(decide ((x.val:Int)<(L.length:Int))=false->true=true))):
  PureFn Tryz.prog 39 [intS L,intS L] (.bool true):=
 vcR (code:=b_sameInts) gN Tryz.func39 (by kernel_rfl) (by kernel_rfl) (A_same (intS L) L.length) h (by kernel_rfl)
theorem sameInts_ok:ConOk Tryz.prog 39 k_sameInts:=by
 intro(L:List (Int)) (hL:L.length<=1048576);refine v_sameInts L ⟨fun h=>by simp at h,fun _=>⟨⟨⟨0,Nat.zero_le _⟩,⟨⟨(by trivial),rowsR _ _⟩,⟨(by trivial),rowsR _ _⟩,rfl,trivial⟩,trivial⟩,fun x=>⟨fun hc=> ?_,fun _=>rfl⟩⟩⟩
 have hlt:=lt_of_dec hc;exact⟨inB_nat hlt,inB_nat hlt,fun h=>by simp at h,fun _=>⟨add_rng hlt (by omega),⟨x.val+1,hlt⟩,⟨⟨⟨(by trivial),rowsR _ _⟩,⟨(by trivial),rowsR _ _⟩,by simp only;omega,trivial⟩,trivial⟩,Cnt.ext_lt hlt⟩⟩
def k_sameLog:Con:=.rel r_eqRecS
noncomputable def b_sameLog:Code:=Tryz.f19.body.getD .skip
theorem call_sameLog:Callable Tryz.prog 19:=⟨_,Tryz.func19,by kernel_rfl,by kernel_rfl⟩
theorem v_sameLog(L:List Rec)(h:
  (((L.length:Int) !=(L.length:Int))=true->false=true)/\(((L.length:Int) !=(L.length:Int))=false->(∃(x:{i:Nat//i<=L.length}),((EqL recRow L L)/\(EqL recRow L L)/\(0:Int)=(x.val:Int)/\True)/\True)/\∀(x
  :{i:Nat//i<=L.length}),(decide ((x.val:Int)<(L.length:Int))=true->InB (x.val:Int) L.length/\InB (x.val:Int) L.length/\((!((L.getD (x.val:Int).toNat default).e==(L.getD (x.val:Int).toNat default).e&&((L.getD
  (x.val:Int).toNat default).l==(L.getD (x.val:Int).toNat default).l&&((L.getD (x.val:Int).toNat default).t==(L.getD (x.val:Int).toNat default).t&&((L.getD (x.val:Int).toNat default).k==(L.getD (x.val:Int).toNat default).k
  &&((L.getD (x.val:Int).toNat default).p==(L.getD (x.val:Int).toNat default).p&&((L.getD (x.val:Int).toNat default).n==(L.getD (x.val:Int).toNat default).n&&((L.getD (x.val:Int).toNat default).g==(L.getD
  (x.val:Int).toNat default).g&&((L.getD (x.val:Int).toNat default).s==(L.getD (x.val:Int).toNat default).s&&((L.getD (x.val:Int).toNat default).b==(L.getD (x.val:Int).toNat default).b&&((L.getD (x.val:Int).toNat
  default).a==(L.getD (x.val:Int).toNat default).a&&true)))))))))))=true->false=true)/\((!((L.getD (x.val:Int).toNat default).e==(L.getD (x.val:Int).toNat default).e&&((L.getD (x.val:Int).toNat default).l==(L.getD
  (x.val:Int).toNat default).l&&((L.getD (x.val:Int).toNat default).t==(L.getD (x.val:Int).toNat default).t&&((L.getD (x.val:Int).toNat default).k==(L.getD (x.val:Int).toNat default).k&&((L.getD (x.val:Int).toNat
  default).p==(L.getD (x.val:Int).toNat default).p&&((L.getD (x.val:Int).toNat default).n==(L.getD (x.val:Int).toNat default).n&&((L.getD (x.val:Int).toNat default).g==(L.getD (x.val:Int).toNat default).g&&((L.getD
  (x.val:Int).toNat default).s==(L.getD (x.val:Int).toNat default).s&&((L.getD (x.val:Int).toNat default).b==(L.getD (x.val:Int).toNat default).b&&((L.getD (x.val:Int).toNat default).a==(L.getD (x.val:Int).toNat default).a
  &&true)))))))))))=false->Rng .i64 ((x.val:Int)+(1:Int))/\∃(y:{i:Nat//i<=L.length}),(((EqL recRow L L)/\(EqL recRow L L)/\(x.val:Int)+(1:Int)=(y.val:Int)/\True)/\True)/\Lt (L.length-y.val) (L.length
  -x.val)))/\(decide ((x.val:Int)<(L.length:Int))=false->true=true))):
  PureFn Tryz.prog 19 [recS L,recS L] (.bool true):=
 vcR (code:=b_sameLog) gN Tryz.func19 (by kernel_rfl) (by kernel_rfl) (A_same (recS L) L.length) h (by kernel_rfl)
theorem sameLog_ok:ConOk Tryz.prog 19 k_sameLog:=by
 intro(L:List (Rec)) (hL:L.length<=1048576);refine v_sameLog L ⟨fun h=>by simp at h,fun _=>⟨⟨⟨0,Nat.zero_le _⟩,⟨⟨(by trivial),rowsR _ _⟩,⟨(by trivial),rowsR _ _⟩,rfl,trivial⟩,trivial⟩,fun x=>⟨fun hc=> ?_,fun _=>rfl⟩⟩⟩
 have hlt:=lt_of_dec hc;exact⟨inB_nat hlt,inB_nat hlt,fun h=>by simp at h,fun _=>⟨add_rng hlt (by omega),⟨x.val+1,hlt⟩,⟨⟨⟨(by trivial),rowsR _ _⟩,⟨(by trivial),rowsR _ _⟩,by simp only;omega,trivial⟩,trivial⟩,Cnt.ext_lt hlt⟩⟩
def k_samePage:Con:=.rel r_eqPg
noncomputable def b_samePage:Code:=Tryz.f37.body.getD .skip
theorem call_samePage:Callable Tryz.prog 37:=⟨_,Tryz.func37,by kernel_rfl,by kernel_rfl⟩
theorem v_samePage(p:Pg)(h:
  ∃(x:r_eqStrS.ι),((p.lsn==p.lsn)=true->((p.sl.length=List.length x/\RowsEq p.sl.length (strRow p.sl) (strRow x))/\(p.sl.length=List.length x/\RowsEq p.sl.length (strRow p.sl) (strRow x))/\True)/\List.length x<=
  1048576)/\(p.lsn==p.lsn&&true)=true):
  PureFn Tryz.prog 37 [.agg p.ts,.agg p.ts] (.bool true):=
 vcR (code:=b_samePage) (gC sameTexts_ok call_sameTexts gN) Tryz.func37 (by kernel_rfl) (by kernel_rfl) noAnn h (by kernel_rfl)
theorem samePage_ok:ConOk Tryz.prog 37 k_samePage:=fun(p:Pg) h1=>v_samePage p ⟨p.sl,fun _=>⟨⟨⟨rfl,rowsR _ _⟩,⟨rfl,rowsR _ _⟩,trivial⟩,h1⟩,by simp⟩
def A_sameDisk(d:Dsk):Nat->Ann
 |0=>.one {i:Nat//i<=d.cache.length} (fun x=>⟨[(2,.ref 0 0 0),(3,.ref 1 0 0),(5,.int .i64 x.1)],[dskBox d,dskBox d]⟩) (fun x=>d.cache.length-x.1) [.box 0,.box 1] [.box 0,.box 1] (fun _=>noAnn)
 |_=>.none
def k_sameDisk:Con:=.rel r_eqDsk
noncomputable def b_sameDisk:Code:=Tryz.f53.body.getD .skip
theorem call_sameDisk:Callable Tryz.prog 53:=⟨_,Tryz.func53,by kernel_rfl,by kernel_rfl⟩
theorem v_sameDisk(d:Dsk)(h:
  ∃(x:r_eqStrS.ι),(((d.sec.length=List.length x/\RowsEq d.sec.length (strRow d.sec) (strRow x))/\(d.sec.length=List.length x/\RowsEq d.sec.length (strRow d.sec) (strRow x))/\True)/\List.length x<=1048576)/\∃(x:
  r_eqIntS.ι),((false||(d.cache.length:Int) !=(d.cache.length:Int)|| !d.armed==d.armed)=false->((d.keep.length=List.length x/\RowsEq d.keep.length (intRow d.keep) (intRow x))/\(d.keep.length=List.length x/\RowsEq
  d.keep.length (intRow d.keep) (intRow x))/\True)/\List.length x<=1048576)/\((false||(d.cache.length:Int) !=(d.cache.length:Int)|| !d.armed==d.armed||false)=true->false=true)/\((false||(d.cache.length:Int) !=
  (d.cache.length:Int)|| !d.armed==d.armed||false)=false->(∃(x:{i:Nat//i<=d.cache.length}),((0=0/\0=0)/\(0=0/\0=0)/\(0:Int)=(x.val:Int)/\True)/\(1=1/\1=1/\EqD d d)/\(1=1/\1=1/\EqD d
  d)/\True)/\∀(x:{i:Nat//i<=d.cache.length}),(decide ((x.val:Int)<(d.cache.length:Int))=true->InB (x.val:Int) d.cache.length/\InB (x.val:Int) d.cache.length/\((!((d.cache.getD (x.val:Int).toNat default).at_==
  (d.cache.getD (x.val:Int).toNat default).at_&&((d.cache.getD (x.val:Int).toNat default).d==(d.cache.getD (x.val:Int).toNat default).d&&true)))=true->false=true)/\((!((d.cache.getD (x.val:Int).toNat default).at_==
  (d.cache.getD (x.val:Int).toNat default).at_&&((d.cache.getD (x.val:Int).toNat default).d==(d.cache.getD (x.val:Int).toNat default).d&&true)))=false->Rng .i64 ((x.val:Int)+(1:Int))/\∃(y:{i:Nat//i<=
  d.cache.length}),(((0=0/\0=0)/\(0=0/\0=0)/\(x.val:Int)+(1:Int)=(y.val:Int)/\True)/\(1=1/\1=1/\EqD d d)/\(1=1/\1=1/\EqD d d)/\True)/\Lt (d.cache.length-y.val) (d.cache.length-x.val)))/\
  (decide ((x.val:Int)<(d.cache.length:Int))=false->true=true))):
  PureFn Tryz.prog 53 [.agg d.ts,.agg d.ts] (.bool true):=
 vcR (code:=b_sameDisk) (gC sameTexts_ok call_sameTexts (gC sameInts_ok call_sameInts gN)) Tryz.func53 (by kernel_rfl) (by kernel_rfl) (A_sameDisk d) h (by kernel_rfl)
theorem sameDisk_ok:ConOk Tryz.prog 53 k_sameDisk:=by
 rintro(d:Dsk) ⟨h1,h2,h3⟩;refine v_sameDisk d ⟨d.sec,⟨⟨⟨rfl,rowsR _ _⟩,⟨rfl,rowsR _ _⟩,trivial⟩,h1⟩,d.keep,fun _=>⟨⟨⟨rfl,rowsR _ _⟩,⟨rfl,rowsR _ _⟩,trivial⟩,h3⟩,fun h=>by simp at h,fun _=>⟨⟨⟨0,Nat.zero_le _⟩,⟨⟨rfl,rfl⟩,⟨rfl,rfl⟩,rfl,trivial⟩,⟨rfl,rfl,eqD _⟩,⟨rfl,rfl,eqD _⟩,trivial⟩,fun x=>⟨fun hc=> ?_,fun _=>rfl⟩⟩⟩
 have hlt:=lt_of_dec hc;exact⟨inB_nat hlt,inB_nat hlt,fun h=>by simp at h,fun _=>⟨add_rng hlt (by omega),⟨x.val+1,hlt⟩,⟨⟨⟨rfl,rfl⟩,⟨rfl,rfl⟩,by simp only;omega,trivial⟩,⟨rfl,rfl,eqD _⟩,⟨rfl,rfl,eqD _⟩,trivial⟩,Cnt.ext_lt hlt⟩⟩
def A_sameStore(s:Sto):Nat->Ann
 |0=>.one {i:Nat//i<=s.fr.length} (fun x=>⟨[(2,.ref 0 0 0),(3,.ref 1 0 0),(5,.int .i64 x.1)],[stoBox s,stoBox s]⟩) (fun x=>s.fr.length-x.1) [.box 0,.box 1] [.box 0,.box 1] (fun _=>noAnn)
 |_=>.none
def k_sameStore:Con:=.rel r_eqSto
noncomputable def b_sameStore:Code:=Tryz.f14.body.getD .skip
theorem call_sameStore:Callable Tryz.prog 14:=⟨_,Tryz.func14,by kernel_rfl,by kernel_rfl⟩
theorem v_sameStore(s:Sto)(h:
  ∃(x:r_eqDsk.ι),(((EqD s.d x)/\(EqD s.d x)/\True)/\SmD x)/\∃(x:r_eqRecS.ι),((false||s.ep !=s.ep)=false->((s.log.length=List.length x/\RowsEq s.log.length (recRow s.log) (recRow x))/\(s.log.length=List.length
  x/\RowsEq s.log.length (recRow s.log) (recRow x))/\True)/\List.length x<=1048576)/\((false||s.ep !=s.ep||false||s.sure !=s.sure||s.hand !=s.hand||(s.fr.length:Int) !=(s.fr.length:Int))=true->false=true)/\
  ((false||s.ep !=s.ep||false||s.sure !=s.sure||s.hand !=s.hand||(s.fr.length:Int) !=(s.fr.length:Int))=false->(∃(x:{i:Nat//i<=s.fr.length}),((0=0/\0=0)/\(0=0/\0=0)/\(0:Int)=(x.val:Int)/\
  True)/\(1=1/\1=1/\EqS s s)/\(1=1/\1=1/\EqS s s)/\True)/\∀(x:{i:Nat//i<=s.fr.length}),(decide ((x.val:Int)<(s.fr.length:Int))=true->InB (x.val:Int) s.fr.length/\InB (x.val:Int) s.fr.length/\∃(x_1
  :r_eqPg.ι),(((s.fr.getD (x.val:Int).toNat default).no !=(s.fr.getD (x.val:Int).toNat default).no|| !(s.fr.getD (x.val:Int).toNat default).dirty==(s.fr.getD (x.val:Int).toNat default).dirty||(s.fr.getD (x.val:Int).toNat
  default).first !=(s.fr.getD (x.val:Int).toNat default).first)=false->(((s.fr.getD (x.val:Int).toNat default).pg.lsn=x_1.lsn/\(EqL strRow (s.fr.getD (x.val:Int).toNat default).pg.sl x_1.sl)/\True)/\((s.fr.getD
  (x.val:Int).toNat default).pg.lsn=x_1.lsn/\(EqL strRow (s.fr.getD (x.val:Int).toNat default).pg.sl x_1.sl)/\True)/\True)/\SmG x_1)/\(((s.fr.getD (x.val:Int).toNat default).no !=(s.fr.getD (x.val:Int).toNat default).no||
  !(s.fr.getD (x.val:Int).toNat default).dirty==(s.fr.getD (x.val:Int).toNat default).dirty||(s.fr.getD (x.val:Int).toNat default).first !=(s.fr.getD (x.val:Int).toNat default).first||false)=true->false=true)/\
  (((s.fr.getD (x.val:Int).toNat default).no !=(s.fr.getD (x.val:Int).toNat default).no|| !(s.fr.getD (x.val:Int).toNat default).dirty==(s.fr.getD (x.val:Int).toNat default).dirty||(s.fr.getD (x.val:Int).toNat default).first
  !=(s.fr.getD (x.val:Int).toNat default).first||false)=false->Rng .i64 ((x.val:Int)+(1:Int))/\∃(y:{i:Nat//i<=s.fr.length}),(((0=0/\0=0)/\(0=0/\0=0)/\(x.val:Int)+(1:Int)=(y.val:Int)/\True)/\
  (1=1/\1=1/\EqS s s)/\(1=1/\1=1/\EqS s s)/\True)/\Lt (s.fr.length-y.val) (s.fr.length-x.val)))/\(decide ((x.val:Int)<(s.fr.length:Int))=false->true=true))):
  PureFn Tryz.prog 14 [.agg s.ts,.agg s.ts] (.bool true):=
 vcR (code:=b_sameStore) (gC sameDisk_ok call_sameDisk (gC sameLog_ok call_sameLog (gC samePage_ok call_samePage gN))) Tryz.func14 (by kernel_rfl) (by kernel_rfl) (A_sameStore s) h (by kernel_rfl)
theorem sameStore_ok:ConOk Tryz.prog 14 k_sameStore:=by
 rintro(s:Sto) ⟨h1,h2,h3,h4⟩;refine v_sameStore s ⟨s.d,⟨⟨eqD _,eqD _,trivial⟩,h1⟩,s.log,fun _=>⟨⟨⟨rfl,rowsR _ _⟩,⟨rfl,rowsR _ _⟩,trivial⟩,h2⟩,fun h=>by simp at h,fun _=>⟨⟨⟨0,Nat.zero_le _⟩,⟨⟨rfl,rfl⟩,⟨rfl,rfl⟩,rfl,trivial⟩,⟨rfl,rfl,eqS _⟩,⟨rfl,rfl,eqS _⟩,trivial⟩,fun x=>⟨fun hc=> ?_,fun _=>rfl⟩⟩⟩
 have hlt:=lt_of_dec hc;exact⟨inB_nat hlt,inB_nat hlt,(s.fr.getD x.val default).pg,fun _=>⟨⟨⟨rfl,⟨rfl,rowsR _ _⟩,trivial⟩,⟨rfl,⟨rfl,rowsR _ _⟩,trivial⟩,trivial⟩,h4 _ hlt⟩,fun h=>by simp at h,fun _=>⟨add_rng hlt (by omega),⟨x.val+1,hlt⟩,⟨⟨⟨rfl,rfl⟩,⟨rfl,rfl⟩,by simp only;omega,trivial⟩,⟨rfl,rfl,eqS _⟩,⟨rfl,rfl,eqS _⟩,trivial⟩,Cnt.ext_lt hlt⟩⟩
def atV(l:List UInt8)(i n:Nat):Int:=if n<=1 then 0 else if l.length=0 then((i:Int)*7).tmod n else
 (((l.getD ((i:Int).tmod l.length).toNat 0).toNat:Int)*31+((l.getD (((i:Int)+1).tmod l.length).toNat 0).toNat:Int)+(i:Int).tdiv l.length).tmod n
theorem at_rng(l:List UInt8){i n:Nat}(hn:1<=n):0<=atV l i n/\atV l i n<n:=by
 unfold atV;split
 ·omega
 ·split
  ·exact tmod_rng (by omega) (by omega)
  ·exact tmod_rng (by have:=Int.tdiv_nonneg (a:=(i:Int)) (b:=(l.length:Int)) (by omega) (by omega);omega) (by omega)
def k_at:Con:=.rel ⟨List UInt8×Nat×Nat,fun x=>[.bys x.1,.int .i64 x.2.1,.int .i64 x.2.2],fun x=>.int .i64 (atV x.1 x.2.1 x.2.2),fun x=>x.2.1<=100/\x.2.2<=1000/\x.1.length<=1048576⟩
noncomputable def b_at:Code:=Tryz.f17.body.getD .skip
theorem call_at:Callable Tryz.prog 17:=⟨_,Tryz.func17,by kernel_rfl,by kernel_rfl⟩
theorem v_at(l:List UInt8)(i n:Nat)(h:
  (decide ((n:Int)<=(1:Int))=true->(0:Int)=atV l i n)/\(decide ((n:Int)<=(1:Int))=false->(((l.length:Int)==(0:Int))=true->Rng .i64 ((i:Int)*(7:Int))/\Nz (n:Int)/\((i:Int)*(7:Int)).tmod (n:Int)=atV
  l i n)/\(((l.length:Int)==(0:Int))=false->Nz (l.length:Int)/\InB ((i:Int).tmod (l.length:Int)) l.length/\Rng .i64 (IntKind.i64.wrap (↑(l.getD ((i:Int).tmod (l.length:Int)).toNat (0:UInt8)).toNat:Int)*(31:Int))/\
  Rng .i64 ((i:Int)+(1:Int))/\Nz (l.length:Int)/\InB (((i:Int)+(1:Int)).tmod (l.length:Int)) l.length/\Rng .i64 (IntKind.i64.wrap (↑(l.getD ((i:Int).tmod (l.length:Int)).toNat (0:UInt8)).toNat:Int)*(31:Int)+
  IntKind.i64.wrap (↑(l.getD (((i:Int)+(1:Int)).tmod (l.length:Int)).toNat (0:UInt8)).toNat:Int))/\(Nz (l.length:Int)/\Rng .i64 ((i:Int).tdiv (l.length:Int)))/\Rng .i64 (IntKind.i64.wrap (↑(l.getD ((i:Int).tmod
  (l.length:Int)).toNat (0:UInt8)).toNat:Int)*(31:Int)+IntKind.i64.wrap (↑(l.getD (((i:Int)+(1:Int)).tmod (l.length:Int)).toNat (0:UInt8)).toNat:Int)+(i:Int).tdiv (l.length:Int))/\Nz (n:Int)/\(IntKind.i64.wrap
  (↑(l.getD ((i:Int).tmod (l.length:Int)).toNat (0:UInt8)).toNat:Int)*(31:Int)+IntKind.i64.wrap (↑(l.getD (((i:Int)+(1:Int)).tmod (l.length:Int)).toNat (0:UInt8)).toNat:Int)+(i:Int).tdiv (l.length:Int)).tmod
  (n:Int)=atV l i n))):
  PureFn Tryz.prog 17 [.bys l,.int .i64 i,.int .i64 n] (.int .i64 (atV l i n)):=
 vcR (code:=b_at) gN Tryz.func17 (by kernel_rfl) (by kernel_rfl) noAnn h (by kernel_rfl)
theorem at_ok:ConOk Tryz.prog 17 k_at:=by
 rintro⟨l,i,n⟩ ⟨h1,h2,h3⟩;dsimp only at h1 h2 h3;have e1:n<=1->atV l i n=0:=fun h=>by unfold atV;rw[if_pos h]
 have e2:¬n<=1->l.length=0->atV l i n=((i:Int)*7).tmod n:=fun h g=>by unfold atV;rw[if_neg h,if_pos g]
 have e3:¬n<=1->¬l.length=0->atV l i n=(((l.getD ((i:Int).tmod l.length).toNat 0).toNat:Int)*31+((l.getD (((i:Int)+1).tmod l.length).toNat 0).toNat:Int)+(i:Int).tdiv l.length).tmod n:=fun h g=>by unfold atV;rw[if_neg h,if_neg g]
 refine v_at l i n ⟨fun hc=> ?_,fun hc=>⟨fun hd=> ?_,fun hd=> ?_⟩⟩
 ·have:=of_decide_eq_true hc;exact(e1 (by omega)).symm
 ·have:=of_decide_eq_false hc;have hd:=eq_of_beq hd;exact⟨i64_rng (by omega),by unfold Nz;omega,(e2 (by omega) (by omega)).symm⟩
 ·have:=of_decide_eq_false hc;have hd:¬l.length=0:=fun e=>by rw[e] at hd;cases hd
  have t1:=tmod_rng (a:=(i:Int)) (n:=(l.length:Int)) (by omega) (by omega)
  have t2:=tmod_rng (a:=(i:Int)+1) (n:=(l.length:Int)) (by omega) (by omega)
  have t3:=Int.tdiv_nonneg (a:=(i:Int)) (b:=(l.length:Int)) (by omega) (by omega)
  have t4:(i:Int).tdiv l.length<=i:=Int.tdiv_le_self _ (by omega)
  have b1:=byte_lt l ((i:Int).tmod l.length).toNat;have b2:=byte_lt l (((i:Int)+1).tmod l.length).toNat;rw[byte_nat,byte_nat];exact⟨by unfold Nz;omega,⟨by omega,by omega⟩,i64_rng (by omega),i64_rng (by omega),by unfold Nz;omega,⟨by omega,by omega⟩,i64_rng (by omega),⟨by unfold Nz;omega,i64_rng (by omega)⟩,i64_rng (by omega),by unfold Nz;omega,(e3 (by omega) hd).symm⟩
end Go.Proofs.YtndilbkocjlgpaaGreat

namespace Go.Proofs.YtndilbkocjlgpaaGreat
set_option maxRecDepth 100000
open Go.SS

end Go.Proofs.YtndilbkocjlgpaaGreat

namespace Go.Proofs.YtndilbkocjlgpaaGreat
set_option maxRecDepth 100000
open Go.SS

def OfY:Type:={x:List UInt8×Sto//x.2=(dEnd x.1).2}
noncomputable def k_StoreOfY:Con:=.rmk ⟨OfY,fun x=>[.bys x.1.1],fun _=>[],fun x=>.agg (x.1.2.tm 0),fun x=>x.1.2.hp 0,fun x=>x.1.1.length<=1048576⟩
theorem call_StoreOfY:Callable Tryz.prog 11:=⟨_,Tryz.func11,by kernel_rfl,by kernel_rfl⟩
theorem StoreOfY_ok:ConOk Tryz.prog 11 k_StoreOfY:=by
 rintro⟨⟨c,s⟩,h⟩ hc;dsimp only at h;subst h;exact StoreOf_ok c hc
theorem GInv.B{s:Sto}(h:GInv s):StoB s:=by
 have h1:=h.dg.n69;have h2:=h.dg.kp;have h3:=h.ca;have h4:=h.l60;have h5:=h.fr3;have key:∀r ∈ s.log,r.a.length<=38:=fun r hr=>by
  obtain⟨i,hi,e⟩:=List.getElem_of_mem hr;have e2:s.log.getD i default=r:=by rw[List.getD_eq_getElem?_getD,List.getElem?_eq_getElem hi,e];rfl
  have:=(rec_sz (areOK_iff.1 h.rc i hi).1).2;rw[e2] at this;exact this
 refine⟨⟨by unfold Len;omega,by unfold Len;omega,by unfold Len;omega⟩,?_,⟨by unfold Len;omega,fun i hi=> ?_⟩,fun r hr=>by have:=key r hr;unfold Len;omega⟩
 ·exact⟨by omega,fun r hr=>by have:=key r hr;omega⟩
 ·have:=(h.fp i hi).2.2.1.2.2.1;unfold PgB Len;omega
end Go.Proofs.YtndilbkocjlgpaaGreat

namespace Go.Proofs.YtndilbkocjlgpaaGreat
set_option maxRecDepth 100000
open Go.SS

def k_isNaN:Con:=.rel ⟨Int,fun n=>[.int .i64 n],fun _=>.bool false,fun _=>True⟩
noncomputable def b_isNaN:Code:=Tryz.f207.body.getD .skip
theorem call_isNaN:Callable Tryz.prog 207:=⟨_,Tryz.func207,by kernel_rfl,by kernel_rfl⟩
theorem v_isNaN(n:Int)(h:
  (n !=n)=false):
  PureFn Tryz.prog 207 [.int .i64 n] (.bool false):=
 vcR (code:=b_isNaN) gN Tryz.func207 (by kernel_rfl) (by kernel_rfl) noAnn h (by kernel_rfl)
theorem isNaN_ok:ConOk Tryz.prog 207 k_isNaN:=fun n _=>v_isNaN n (by simp)
def k_cmpLess:Con:=.rel ⟨Int×Int,fun x=>[.int .i64 x.1,.int .i64 x.2],fun x=>.bool (decide (x.1<x.2)),fun _=>True⟩
noncomputable def b_cmpLess:Code:=Tryz.f186.body.getD .skip
theorem call_cmpLess:Callable Tryz.prog 186:=⟨_,Tryz.func186,by kernel_rfl,by kernel_rfl⟩
theorem v_cmpLess(a b:Int)(h:
  ∃(x:Int),((a=x/\True)/\True)/\∃(x:Int),(false=true->(b=x/\True)/\True)/\(false||decide (a<b))=decide (a<b)):
  PureFn Tryz.prog 186 [.int .i64 a,.int .i64 b] (.bool (decide (a<b))):=
 vcR (code:=b_cmpLess) (gC isNaN_ok call_isNaN gN) Tryz.func186 (by kernel_rfl) (by kernel_rfl) noAnn h (by kernel_rfl)
theorem cmpLess_ok:ConOk Tryz.prog 186 k_cmpLess:=fun x _=>v_cmpLess x.1 x.2 ⟨x.1,⟨⟨rfl,trivial⟩,trivial⟩,x.2,fun h=>(by cases h),by simp⟩
def swp(L:List Int)(j:Nat):List Int:=(L.set j (L.getD (j-1) 0)).set (j-1) (L.getD j 0)
def sink(L:List Int):Nat->List Int
 |0=>L
 |j+1=>if L.getD (j+1) 0<L.getD j 0 then sink (swp L (j+1)) j else L
def insA(L:List Int):Nat->List Int
 |0=>L
 |i+1=>sink (insA L i) (i+1)
def insS(L:List Int):List Int:=insA L (L.length-1)
def intB(n:Nat)(M:List Int):Option Ob:=some (.arr true 0 1 n (intRow M))
def SkY(L:List Int)(t:Nat):Type:={y:Nat×List Int//y.1<=t+1/\y.2.length=L.length/\sink y.2 y.1=insA L (t+1)}
def A_insSort(L:List Int):Nat->Ann
 |0=>.one {t:Nat//t<=L.length-1} (fun x=>⟨[(0,.osl 0 0 L.length),(1,.int .i64 0),(2,.int .i64 L.length),(6,.int .i64 (x.1+1:Nat))],[intB L.length (insA L x.1)]⟩) (fun x=>L.length-x.1) [.arr 0] [.arr 0] (fun x=>fun
  |1=>.one (SkY L x.1) (fun y=>⟨[(0,.osl 0 0 L.length),(1,.int .i64 0),(2,.int .i64 L.length),(6,.int .i64 (x.1+1:Nat)),(7,.int .i64 y.1.1)],[intB L.length y.1.2]⟩) (fun y=>y.1.1) [.arr 0] [.arr 0] (fun _=>noAnn)
  |_=>.none)
 |_=>.none
def k_insSort:Con:=.reff ⟨List Int,fun L=>[.osl 0 0 L.length,.int .i64 0,.int .i64 L.length],fun L=>[intA L],fun _=>.tup [],fun L=>[intB L.length (insS L)],fun L=>L.length<=12⟩
noncomputable def b_insSort:Code:=Tryz.f180.body.getD .skip
theorem call_insSort:Callable Tryz.prog 180:=⟨_,Tryz.func180,by kernel_rfl,by kernel_rfl⟩
theorem v_insSort(L:List Int)(h:
  Rng .i64 (1:Int)/\(∃(x:{t:Nat//t<=L.length-1}),((0=0/\L.length=L.length)/\(0:Int)=(0:Int)/\(L.length:Int)=(L.length:Int)/\(1:Int)=(↑(x.val+1):Int)/\True)/\(L.length=L.length/\RowsEq
  L.length (intRow L) (intRow (insA L x.val)))/\True)/\∀(x:{t:Nat//t<=L.length-1}),(decide ((↑(x.val+1):Int)<(L.length:Int))=true->(∃(x_1:SkY L x.val),((0=0/\L.length=L.length)/\(0:Int)=(0:
  Int)/\(L.length:Int)=(L.length:Int)/\(↑(x.val+1):Int)=(↑(x.val+1):Int)/\(↑(x.val+1):Int)=(x_1.val.fst:Int)/\True)/\(L.length=L.length/\RowsEq L.length (intRow (insA L x.val)) (intRow x_1.val.snd))/\True)
  /\∀(x_1:SkY L x.val),(decide ((x_1.val.fst:Int)>(0:Int))=true->InB (x_1.val.fst:Int) L.length)/\(decide ((x_1.val.fst:Int)>(0:Int))=true->Lt (0+(x_1.val.fst:Int).toNat) L.length)/\(decide ((x_1.val.fst:Int)>
  (0:Int))=true->Rng .i64 ((x_1.val.fst:Int)- (1:Int)))/\(decide ((x_1.val.fst:Int)>(0:Int))=true->InB ((x_1.val.fst:Int)- (1:Int)) L.length)/\(decide ((x_1.val.fst:Int)>(0:Int))=true->Lt (0+
  ((x_1.val.fst:Int)- (1:Int)).toNat) L.length)/\∃(x_2:(Int×Int)),(decide ((x_1.val.fst:Int)>(0:Int))=true->(x_1.val.snd.getD (0+(x_1.val.fst:Int).toNat) (0:Int)=x_2.fst/\x_1.val.snd.getD (0+
  ((x_1.val.fst:Int)- (1:Int)).toNat) (0:Int)=x_2.snd/\True)/\True)/\((decide ((x_1.val.fst:Int)>(0:Int))&&decide (x_2.fst<x_2.snd))=true->Rng .i64 ((x_1.val.fst:Int)- (1:Int))/\Rng .i64 ((x_1.val.fst:Int)-
  (1:Int))/\InB ((x_1.val.fst:Int)- (1:Int)) L.length/\Lt (0+((x_1.val.fst:Int)- (1:Int)).toNat) L.length/\InB (x_1.val.fst:Int) L.length/\Lt (0+(x_1.val.fst:Int).toNat) L.length/\InB (x_1.val.fst:Int) L.length/\Lt
  (0+(x_1.val.fst:Int).toNat) L.length/\InB ((x_1.val.fst:Int)- (1:Int)) L.length/\Lt (0+((x_1.val.fst:Int)- (1:Int)).toNat) L.length/\Rng .i64 ((x_1.val.fst:Int)- (1:Int))/\∃(y:SkY L x.val),(((0=0/\L.length
  =L.length)/\(0:Int)=(0:Int)/\(L.length:Int)=(L.length:Int)/\(↑(x.val+1):Int)=(↑(x.val+1):Int)/\(x_1.val.fst:Int)- (1:Int)=(y.val.fst:Int)/\True)/\(L.length=L.length/\RowsEq L.length (setRow (setRow
  (intRow x_1.val.snd) (0+(x_1.val.fst:Int).toNat) 0 [T.int .i64 (x_1.val.snd.getD (0+((x_1.val.fst:Int)- (1:Int)).toNat) (0:Int))]) (0+((x_1.val.fst:Int)- (1:Int)).toNat) 0 [T.int .i64 (x_1.val.snd.getD (0+
  (x_1.val.fst:Int).toNat) (0:Int))]) (intRow y.val.snd))/\True)/\Lt y.val.fst x_1.val.fst)/\((decide ((x_1.val.fst:Int)>(0:Int))&&decide (x_2.fst<x_2.snd))=false->Rng .i64 ((↑(x.val+1):Int)+(1:Int))/\∃(y:
  {t:Nat//t<=L.length-1}),(((0=0/\L.length=L.length)/\(0:Int)=(0:Int)/\(L.length:Int)=(L.length:Int)/\(↑(x.val+1):Int)+(1:Int)=(↑(y.val+1):Int)/\True)/\(L.length=L.length/\RowsEq L.length
  (intRow x_1.val.snd) (intRow (insA L y.val)))/\True)/\Lt (L.length-y.val) (L.length-x.val)))/\(decide ((↑(x.val+1):Int)<(L.length:Int))=false->(True/\True)/\(L.length=L.length/\RowsEq L.length (intRow (insA L
  x.val)) (intRow (insS L)))/\True)):
  EffFn Tryz.prog 180 [.osl 0 0 L.length,.int .i64 0,.int .i64 L.length] [intA L] (.tup []) [intB L.length (insS L)]:=
 vcG (code:=b_insSort) (gC cmpLess_ok call_cmpLess gN) Tryz.func180 (by kernel_rfl) (by kernel_rfl) (A_insSort L) [[.arr 0]] h (by kernel_rfl)
theorem swp_len(L:List Int)(j:Nat):(swp L j).length=L.length:=by unfold swp;simp
theorem sink_len:∀(j:Nat) (L:List Int),(sink L j).length=L.length
 |0,_=>rfl
 |j+1,L=>by
  unfold sink;split
  ·rw[sink_len j,swp_len]
  ·rfl
theorem insA_len(L:List Int):∀i,(insA L i).length=L.length
 |0=>rfl
 |i+1=>by
  unfold insA;rw[sink_len,insA_len L i]
theorem int_set{L:List Int}{n:Nat}{t:Int}(j:Nat)(hj:j<L.length):setRow (intRow L) n 0 [.int .i64 t] j=intRow (L.set n t) j:=by
 by_cases h:j=n
 ·subst h;rw[setRow_one (by simp[intRow])]
  simp[intRow,List.getElem?_set_self hj]
 ·rw[setRow_ne (by simp[intRow]) h]
  simp[intRow,List.getElem?_set_ne (Ne.symm h)]
theorem insSort_ok:ConOk Tryz.prog 180 k_insSort:=by
 intro(L:List Int) (h12:L.length<=12);refine v_insSort L ⟨i64_rng (by omega),⟨⟨0,Nat.zero_le _⟩,(by repeat' first|exact trivial|exact rfl|exact rowsR _ _|exact famR _|exact row0|exact le0 _|exact Nat.le_refl _|exact Nat.zero_le _|refine And.intro ?_ ?_)⟩,fun x=>⟨fun hc=> ?_,fun hc=> ?_⟩⟩
 ·have hx:x.val+1<L.length:=by have:=of_decide_eq_true hc;omega
  refine⟨⟨⟨(x.val+1,insA L x.val),Nat.le_refl _,insA_len L _,rfl⟩,(by repeat' first|exact trivial|exact rfl|exact rowsR _ _|exact famR _|exact row0|exact le0 _|exact Nat.le_refl _|exact Nat.zero_le _|refine And.intro ?_ ?_)⟩,fun y=> ?_⟩
  obtain⟨⟨j,M⟩,hj,hM,hs⟩:=y;dsimp only at hj hM hs ⊢;refine⟨fun h=>⟨by omega,by omega⟩,fun h=>by unfold Lt;omega,fun h=>i64_rng (by omega),fun h=> ?_,fun h=> ?_,(M.getD j 0,M.getD (j-1) 0),fun h=>⟨⟨?_,?_,trivial⟩,trivial⟩,fun h=> ?_,fun h=> ?_⟩
  ·have:=of_decide_eq_true h;exact⟨by omega,by omega⟩
  ·have:=of_decide_eq_true h;unfold Lt;omega
  ·rw[Nat.zero_add,Int.toNat_natCast]
  ·rw[Nat.zero_add,show((j:Int)-1).toNat=j-1 by omega]
  ·rw[Bool.and_eq_true,decide_eq_true_eq,decide_eq_true_eq] at h;obtain⟨h0,hlt⟩:=h;have e1:((j:Int)-1).toNat=j-1:=by omega
   have hsk:sink M j=sink (swp M j) (j-1):=by
    obtain⟨i,rfl⟩:∃i,j=i+1:=⟨j-1,by omega⟩
    show sink M (i+1)=_;conv=>lhs;unfold sink
    have hlt:M.getD (i+1) 0<M.getD i 0:=hlt;rw[if_pos hlt];rfl
   refine⟨i64_rng (by omega),i64_rng (by omega),⟨by omega,by omega⟩,by unfold Lt;omega,⟨by omega,by omega⟩,by unfold Lt;omega,⟨by omega,by omega⟩,by unfold Lt;omega,⟨by omega,by omega⟩,by unfold Lt;omega,i64_rng (by omega),⟨(j-1,swp M j),by dsimp only;omega,by dsimp only;rw[swp_len];exact hM,by dsimp only;rw[←hsk];exact hs⟩,⟨⟨⟨rfl,rfl⟩,rfl,rfl,rfl,by dsimp only;omega,trivial⟩,⟨rfl,fun i hi=> ?_⟩,trivial⟩,by unfold Lt;dsimp only;omega⟩
   rw[Int.toNat_natCast,e1,Nat.zero_add,Nat.zero_add];unfold swp;dsimp only;have e2:∀i,i<L.length->setRow (intRow M) j 0 [T.int .i64 (M.getD (j-1) 0)] i=intRow (M.set j (M.getD (j-1) 0)) i:=fun i hi=>int_set i (by omega)
   have e3:=int_set (L:=M.set j (M.getD (j-1) 0)) (n:=j-1) (t:=M.getD j 0) i (by rw[List.length_set];omega)
   rw[←e3];have e4:=e2 i hi;unfold setRow at e4 ⊢;rw[e4]
  ·refine⟨i64_rng (by omega),⟨x.val+1,by omega⟩,⟨⟨⟨rfl,rfl⟩,rfl,rfl,by dsimp only;omega,trivial⟩,⟨rfl,fun i hi=> ?_⟩,trivial⟩,by unfold Lt;dsimp only;omega⟩
   have:sink M j=M:=by
    rw[Bool.and_eq_false_iff,decide_eq_false_iff_not,decide_eq_false_iff_not] at h;by_cases h0:j=0
    ·rw[h0];rfl
    ·obtain⟨i,rfl⟩:∃i,j=i+1:=⟨j-1,by omega⟩
     unfold sink;rw[if_neg (fun hlt=>by
      rcases h with h|h
      ·omega
      ·exact h hlt)]
   exact congrArg (fun X=>intRow X i) (this.symm.trans hs)
 ·have hx:x.val=L.length-1:=by have:=x.2;have:=of_decide_eq_false hc;omega
  rw[hx];exact⟨⟨trivial,trivial⟩,⟨rfl,rowsR _ _⟩,trivial⟩
def k_pdq:Con:=.reff ⟨List Int×Int,fun x=>[.osl 0 0 x.1.length,.int .i64 0,.int .i64 x.1.length,.int .i64 x.2],fun x=>[intA x.1],fun _=>.tup [],fun x=>[intB x.1.length (insS x.1)],fun x=>x.1.length<=12⟩
def A_pdq(L:List Int)(lim:Int):Nat->Ann
 |0=>.one Unit (fun _=>⟨[(0,.osl 0 0 L.length),(1,.int .i64 0),(2,.int .i64 L.length),(3,.int .i64 lim)],[intA L]⟩) (fun _=>0) [.arr 0] [.arr 0] (fun _=>noAnn)
 |_=>.none
noncomputable def b_pdq:Code:=Tryz.f141.body.getD .skip
theorem call_pdq:Callable Tryz.prog 141:=⟨_,Tryz.func141,by kernel_rfl,by kernel_rfl⟩
theorem v_pdq(L:List Int)(lim:Int)(h:
  (∃(x:Unit),((0=0/\L.length=L.length)/\(0:Int)=(0:Int)/\(L.length:Int)=(L.length:Int)/\lim=lim/\True)/\(EqL intRow L L)/\True)/\∀(x:Unit),Rng .i64 ((L.length:Int)- (0:Int))/\(decide ((L.length:Int)
  - (0:Int)<=(12:Int))=true->∃(x:(List Int)),(((0=0/\L.length=List.length x)/\(0:Int)=(0:Int)/\(L.length:Int)=(↑(List.length x):Int)/\True)/\((L.length=List.length x/\RowsEq L.length (intRow L)
  (intRow x))/\True)/\List.length x<=12)/\(True/\True)/\(List.length x=L.length/\RowsEq (List.length x) (intRow (insS x)) (intRow (insS L)))/\True)/\(decide ((L.length:Int)- (0:Int)<=(12:Int))=false->((lim==(0
  :Int))=true->False)/\((lim==(0:Int))=false->False))):
  EffFn Tryz.prog 141 [.osl 0 0 L.length,.int .i64 0,.int .i64 L.length,.int .i64 lim] [intA L] (.tup []) [intB L.length (insS L)]:=
 vcG (code:=b_pdq) (gC insSort_ok call_insSort gN) Tryz.func141 (by kernel_rfl) (by kernel_rfl) (A_pdq L lim) [[.arr 0]] h (by kernel_rfl)
theorem pdq_ok:ConOk Tryz.prog 141 k_pdq:=by
 rintro⟨L,lim⟩ (h12:L.length<=12);exact v_pdq L lim ⟨⟨(),(by repeat' first|exact trivial|exact rfl|exact rowsR _ _|exact famR _|exact row0|exact le0 _|exact Nat.le_refl _|exact Nat.zero_le _|refine And.intro ?_ ?_)⟩,fun _=>⟨i64_rng (by omega),fun _=>⟨L,⟨(by repeat' first|exact trivial|exact rfl|exact rowsR _ _|exact famR _|exact row0|exact le0 _|exact Nat.le_refl _|exact Nat.zero_le _|refine And.intro ?_ ?_),⟨⟨rfl,rowsR _ _⟩,trivial⟩,h12⟩,⟨trivial,trivial⟩,⟨rfl,rowsR _ _⟩,trivial⟩,fun h=>absurd (of_decide_eq_false h) (by omega)⟩⟩
end Go.Proofs.YtndilbkocjlgpaaGreat

namespace Go.Proofs.YtndilbkocjlgpaaGreat
open Go.SS

theorem frAt_eq{s:Sto}(h:GInv s){k:Nat}{no:Nat}(hk:k<s.fr.length)(hn:(s.fr.getD k default).no=no):frAt s.fr no=k:=by
 rw[←hn];exact frAt_nd hk h.nd
theorem applied{s:Sto}{r:Rec}{no:Nat}(h:GInv s)(hno:no<8)(hg:r.g=(no:Int))(s0:0<=r.s/\r.s<4)(l0:1<=r.l/\r.l<=s.log.length)(ha:r.a.length<=30):
  ∃a k P x,fetS s no=(a,k,true)/\(a.fr.getD k default).pg=P/\PgP P/\GInv a/\aplS s r=(x,true)/\GInv x/\k<x.fr.length/\x.fr.getD k default=chgF (a.fr.getD k default) r/\fetS x no=(x,k,true)/\(x.fr.getD k default).no=no:=by
 obtain⟨⟨ga,hk,hn,_⟩,hu⟩:=g_fet h hno;have e:aplS s r=(setP (fetS s no).1 (fetS s no).2.1 r,true):=by
  unfold aplS;rw[hg,Int.toNat_natCast];exact if_pos hu
 have gx:=(g_apl h (r:=r) (by omega) s0 l0 ha).1
 rw[e] at gx;generalize fetS s no=A at*;obtain⟨a,k,up⟩:=A;dsimp only at*;subst hu;have hkx:k<(setP a k r).fr.length:=by
  show k<(List.set a.fr k (chgF (a.fr.getD k default) r)).length;rw[List.length_set];exact hk
 have hx:(setP a k r).fr.getD k default=chgF (a.fr.getD k default) r:=set_at _ hk;have hnx:((setP a k r).fr.getD k default).no=no:=by
  rw[hx];exact hn
 have hf:=frAt_eq gx hkx hnx;have hit:=(fet_hit (s:=setP a k r) (no:=no) 0 (by rw[hf];omega)).1
 rw[hf,Int.toNat_natCast] at hit;exact⟨a,k,_,_,rfl,rfl,(ga.fp k hk).2.2.1,ga,e,gx,hkx,hx,hit,hnx⟩
def dirTo(L:List Frm):Nat->List Int
 |0=>[]
 |i+1=>if(L.getD i default).dirty=true then dirTo L i++[(L.getD i default).no] else dirTo L i
def isD(L:List Frm)(no:Nat):Bool:=decide (0<=frAt L no)&&(L.getD (frAt L no).toNat default).dirty
def tolTo(L:List Frm):Nat->List Int
 |0=>[]
 |m+1=>if isD L m=true then tolTo L m++[(m:Int)] else tolTo L m
theorem isD_iff{s:Sto}(h:GInv s)(m:Nat):isD s.fr m=true↔∃i,i<s.fr.length/\(s.fr.getD i default).no=(m:Int)/\(s.fr.getD i default).dirty=true:=by
 unfold isD;rw[Bool.and_eq_true,decide_eq_true_eq];constructor
 ·rintro⟨h0,hd⟩;exact⟨_,frAt_in h0,frAt_is h0,hd⟩
 ·rintro⟨i,hi,hn,hd⟩;have:=frAt_eq h hi hn;rw[this];exact⟨by omega,by rw[Int.toNat_natCast];exact hd⟩
end Go.Proofs.YtndilbkocjlgpaaGreat

namespace Go.Proofs.YtndilbkocjlgpaaGreat
set_option maxRecDepth 100000
open Go.SS

def tab8:List UInt8:=([0,1,2,2,3,3,3,3,4,4,4,4,4,4,4,4,5,5,5,5,5,5,5,5,5,5,5,5,5,5,5,5,6,6,6,6,6,6,6,6,6,6,6,6,6,6,6,6,6,6,6,6,6,6,6,6,6,6,6,6,6,6,6,6].append (List.replicate 64 7)).append ((List.replicate 64 8).append (List.replicate 64 8))
def lnV(n:Nat):Int:=((tab8.getD n 0).toNat:Int)
def k_len64:Con:=.rel ⟨Nat,fun n=>[.int .u64 n],fun n=>.int .i64 (lnV n),fun n=>n<=12⟩
noncomputable def b_len64:Code:=Tryz.f190.body.getD .skip
theorem call_len64:Callable Tryz.prog 190:=⟨_,Tryz.func190,by kernel_rfl,by kernel_rfl⟩
theorem v_len64(n:Nat)(h:
  (decide ((n:Int)≥(4294967296:Int))=true->Nn (32:Int)/\(decide ((n:Int).fdiv (4294967296:Int)≥(65536:Int))=true->Nn (16:Int)/\Rng .i64 (48:Int)/\(decide (((n:Int).fdiv (4294967296:Int)).fdiv (65536:Int)
  ≥(256:Int))=true->Nn (8:Int)/\Rng .i64 (56:Int)/\InB (IntKind.u8.wrap ((((n:Int).fdiv (4294967296:Int)).fdiv (65536:Int)).fdiv (256:Int))) 256/\Rng .i64 ((56:Int)+IntKind.i64.wrap (↑(tab8.getD
  (IntKind.u8.wrap ((((n:Int).fdiv (4294967296:Int)).fdiv (65536:Int)).fdiv (256:Int))).toNat (0:UInt8)).toNat:Int))/\(56:Int)+IntKind.i64.wrap (↑(tab8.getD (IntKind.u8.wrap ((((n:Int).fdiv (4294967296:Int)).fdiv
  (65536:Int)).fdiv (256:Int))).toNat (0:UInt8)).toNat:Int)=lnV n)/\(decide (((n:Int).fdiv (4294967296:Int)).fdiv (65536:Int)≥(256:Int))=false->InB (IntKind.u8.wrap (((n:Int).fdiv (4294967296:Int)).fdiv
  (65536:Int))) 256/\Rng .i64 ((48:Int)+IntKind.i64.wrap (↑(tab8.getD (IntKind.u8.wrap (((n:Int).fdiv (4294967296:Int)).fdiv (65536:Int))).toNat (0:UInt8)).toNat:Int))/\(48:Int)+IntKind.i64.wrap (↑(tab8.getD
  (IntKind.u8.wrap (((n:Int).fdiv (4294967296:Int)).fdiv (65536:Int))).toNat (0:UInt8)).toNat:Int)=lnV n))/\(decide ((n:Int).fdiv (4294967296:Int)≥(65536:Int))=false->(decide ((n:Int).fdiv (4294967296:Int)≥
  (256:Int))=true->Nn (8:Int)/\Rng .i64 (40:Int)/\InB (IntKind.u8.wrap (((n:Int).fdiv (4294967296:Int)).fdiv (256:Int))) 256/\Rng .i64 ((40:Int)+IntKind.i64.wrap (↑(tab8.getD (IntKind.u8.wrap (((n:Int).fdiv
  (4294967296:Int)).fdiv (256:Int))).toNat (0:UInt8)).toNat:Int))/\(40:Int)+IntKind.i64.wrap (↑(tab8.getD (IntKind.u8.wrap (((n:Int).fdiv (4294967296:Int)).fdiv (256:Int))).toNat (0:UInt8)).toNat:Int)=lnV n)/\
  (decide ((n:Int).fdiv (4294967296:Int)≥(256:Int))=false->InB (IntKind.u8.wrap ((n:Int).fdiv (4294967296:Int))) 256/\Rng .i64 ((32:Int)+IntKind.i64.wrap (↑(tab8.getD (IntKind.u8.wrap ((n:Int).fdiv (4294967296:
  Int))).toNat (0:UInt8)).toNat:Int))/\(32:Int)+IntKind.i64.wrap (↑(tab8.getD (IntKind.u8.wrap ((n:Int).fdiv (4294967296:Int))).toNat (0:UInt8)).toNat:Int)=lnV n)))/\(decide ((n:Int)≥(4294967296:Int))=false->
  (decide ((n:Int)≥(65536:Int))=true->Nn (16:Int)/\Rng .i64 (16:Int)/\(decide ((n:Int).fdiv (65536:Int)≥(256:Int))=true->Nn (8:Int)/\Rng .i64 (24:Int)/\InB (IntKind.u8.wrap (((n:Int).fdiv (65536:
  Int)).fdiv (256:Int))) 256/\Rng .i64 ((24:Int)+IntKind.i64.wrap (↑(tab8.getD (IntKind.u8.wrap (((n:Int).fdiv (65536:Int)).fdiv (256:Int))).toNat (0:UInt8)).toNat:Int))/\(24:Int)+IntKind.i64.wrap (↑(tab8.getD
  (IntKind.u8.wrap (((n:Int).fdiv (65536:Int)).fdiv (256:Int))).toNat (0:UInt8)).toNat:Int)=lnV n)/\(decide ((n:Int).fdiv (65536:Int)≥(256:Int))=false->InB (IntKind.u8.wrap ((n:Int).fdiv (65536:Int))) 256/\Rng
  .i64 ((16:Int)+IntKind.i64.wrap (↑(tab8.getD (IntKind.u8.wrap ((n:Int).fdiv (65536:Int))).toNat (0:UInt8)).toNat:Int))/\(16:Int)+IntKind.i64.wrap (↑(tab8.getD (IntKind.u8.wrap ((n:Int).fdiv (65536:Int))).toNat (0
  :UInt8)).toNat:Int)=lnV n))/\(decide ((n:Int)≥(65536:Int))=false->(decide ((n:Int)≥(256:Int))=true->Nn (8:Int)/\Rng .i64 (8:Int)/\InB (IntKind.u8.wrap ((n:Int).fdiv (256:Int))) 256/\Rng .i64 ((8:Int)
  +IntKind.i64.wrap (↑(tab8.getD (IntKind.u8.wrap ((n:Int).fdiv (256:Int))).toNat (0:UInt8)).toNat:Int))/\(8:Int)+IntKind.i64.wrap (↑(tab8.getD (IntKind.u8.wrap ((n:Int).fdiv (256:Int))).toNat (0:UInt8)).toNat:Int)
  =lnV n)/\(decide ((n:Int)≥(256:Int))=false->InB (IntKind.u8.wrap (n:Int)) 256/\Rng .i64 ((0:Int)+IntKind.i64.wrap (↑(tab8.getD (IntKind.u8.wrap (n:Int)).toNat (0:UInt8)).toNat:Int))/\(0:Int)+IntKind.i64.wrap
  (↑(tab8.getD (IntKind.u8.wrap (n:Int)).toNat (0:UInt8)).toNat:Int)=lnV n)))):
  PureFn Tryz.prog 190 [.int .u64 n] (.int .i64 (lnV n)):=
 vcR (code:=b_len64) gN Tryz.func190 (by kernel_rfl) (by kernel_rfl) noAnn h (by kernel_rfl)
theorem len64_ok:ConOk Tryz.prog 190 k_len64:=by
 intro(n:Nat) (hn:n<=12);have hb:=(tab8.getD n 0).toNat_lt;have ew:IntKind.u8.wrap (n:Int)=n:=by rw[IntKind.wrap_u8];omega
 have e2:IntKind.i64.wrap ((tab8.getD n 0).toNat:Int)=((tab8.getD n 0).toNat:Int):=wrap_byte _;refine v_len64 n ⟨fun h=>absurd (of_decide_eq_true h) (by omega),fun _=>⟨fun h=>absurd (of_decide_eq_true h) (by omega),fun _=>⟨fun h=>absurd (of_decide_eq_true h) (by omega),fun _=> ?_⟩⟩⟩
 rw[ew,Int.toNat_natCast,e2];exact⟨⟨by omega,by omega⟩,i64_rng (by omega),by rw[Int.zero_add];rfl⟩
def k_bitsLen:Con:=.rel ⟨Nat,fun n=>[.int .u64 n],fun n=>.int .i64 (lnV n),fun n=>n<=12⟩
noncomputable def b_bitsLen:Code:=Tryz.f142.body.getD .skip
theorem call_bitsLen:Callable Tryz.prog 142:=⟨_,Tryz.func142,by kernel_rfl,by kernel_rfl⟩
theorem v_bitsLen(n:Nat)(h:
  (false=true->False)/\(false=false->∃(x:Nat),(((n:Int)=(x:Int)/\True)/\x<=12)/\lnV x=lnV n)):
  PureFn Tryz.prog 142 [.int .u64 n] (.int .i64 (lnV n)):=
 vcR (code:=b_bitsLen) (gC len64_ok call_len64 gN) Tryz.func142 (by kernel_rfl) (by kernel_rfl) noAnn h (by kernel_rfl)
theorem bitsLen_ok:ConOk Tryz.prog 142 k_bitsLen:=by
 intro(n:Nat) (h:n<=12);exact v_bitsLen n ⟨fun h=>(by cases h),fun _=>⟨n,⟨⟨rfl,trivial⟩,h⟩,rfl⟩⟩
def k_Sort:Con:=.reff ⟨List Int,fun L=>[.osl 0 0 L.length],fun L=>[intA L],fun _=>.tup [],fun L=>[intB L.length (insS L)],fun L=>L.length<=12⟩
noncomputable def b_Sort:Code:=Tryz.f80.body.getD .skip
theorem call_Sort:Callable Tryz.prog 80:=⟨_,Tryz.func80,by kernel_rfl,by kernel_rfl⟩
theorem v_Sort(L:List Int)(h:
  ∃(x:Nat),((IntKind.u64.wrap (L.length:Int)=(x:Int)/\True)/\x<=12)/\∃(x_1:(List Int×Int)),(((0=0/\L.length=x_1.fst.length)/\(0:Int)=(0:Int)/\(L.length:Int)=(x_1.fst.length:Int)/\lnV x=x_1.snd/\
  True)/\((EqL intRow L x_1.fst)/\True)/\x_1.fst.length<=12)/\(True/\True)/\(x_1.fst.length=L.length/\RowsEq x_1.fst.length (intRow (insS x_1.fst)) (intRow (insS L)))/\True):
  EffFn Tryz.prog 80 [.osl 0 0 L.length] [intA L] (.tup []) [intB L.length (insS L)]:=
 vcG (code:=b_Sort) (gC bitsLen_ok call_bitsLen (gC pdq_ok call_pdq gN)) Tryz.func80 (by kernel_rfl) (by kernel_rfl) noAnn [[.arr 0]] h (by kernel_rfl)
theorem Sort_ok:ConOk Tryz.prog 80 k_Sort:=by
 intro(L:List Int) (h:L.length<=12);have ew:IntKind.u64.wrap (L.length:Int)=L.length:=by simp[IntKind.wrap,IntKind.bits,IntKind.signed];omega
 exact v_Sort L ⟨L.length,⟨⟨ew,trivial⟩,h⟩,(L,lnV L.length),⟨(by repeat' first|exact trivial|exact rfl|exact rowsR _ _|exact famR _|exact row0|exact le0 _|exact Nat.le_refl _|exact Nat.zero_le _|refine And.intro ?_ ?_),⟨⟨rfl,rowsR _ _⟩,trivial⟩,h⟩,⟨trivial,trivial⟩,⟨rfl,rowsR _ _⟩,trivial⟩
def dirS(s:Sto):List Int:=insS (dirTo s.fr s.fr.length)
def A_Dirtyi(s:Sto):Nat->Ann
 |0=>.one {i:Nat//i<=s.fr.length} (fun x=>⟨[(1,.ref 0 0 0),(4,.osl 1 0 (dirTo s.fr x.1).length),(12,frmS s.fr),(13,.int .i64 s.fr.length),(14,.int .i64 x.1)],[stoBox s,intA (dirTo s.fr x.1)]⟩) (fun x=>s.fr.length-x.1) [.box 0,.arr 1] [.box 0,.at_ 4] (fun _=>noAnn)
 |_=>.none
noncomputable def k_Dirtyi:Con:=.rmk ⟨Sto,fun s=>[.agg s.ts],fun _=>[],fun s=>.tup [.osl 0 0 (dirTo s.fr s.fr.length).length,.int .i64 0],fun s=>[intB (dirTo s.fr s.fr.length).length (dirS s)],fun s=>GInv s⟩
noncomputable def b_Dirtyi:Code:=Tryz.f32.body.getD .skip
theorem call_Dirtyi:Callable Tryz.prog 32:=⟨_,Tryz.func32,by kernel_rfl,by kernel_rfl⟩
theorem v_Dirtyi(s:Sto)(h:
  ∃(x:r_StoreOK.ι),(((EqS s x)/\True)/\StoB x)/\((!stoOK x)=true->((TLe (rho [some 1]) (T.v (Value.slice none 0 0)) (T.osl 0 0 (dirTo s.fr s.fr.length).length)/\(1:Int)=(0:Int)/\True)/\True)/\False/\True)/\
  ((!stoOK x)=false->(∃(x:{i:Nat//i<=s.fr.length}),((0=0/\0=0)/\(0=0/\0=(dirTo s.fr x.val).length)/\(EqL frmRow s.fr s.fr)/\(s.fr.length:Int)=(s.fr.length:Int)/\(0:Int)=(x.val:Int)/\True)/\(1=1
  /\1=1/\EqS s s)/\(0=(dirTo s.fr x.val).length/\RowsEq 0 (fun(k:Nat)=>List.take 1 (List.drop (k*1) [])) (intRow (dirTo s.fr x.val)))/\True)/\∀(x:{i:Nat//i<=s.fr.length}),(decide ((x.val:Int)<
  (s.fr.length:Int))=true->InB (x.val:Int) s.fr.length/\((s.fr.getD (x.val:Int).toNat default).dirty=true->(Le (dirTo s.fr x.val).length (dirTo s.fr x.val).length/\AppB (dirTo s.fr x.val).length 1 8)/\Rng .i64 ((x.val:Int)
  +(1:Int))/\∃(y:{i:Nat//i<=s.fr.length}),(((0=0/\0=0)/\(0=0/\(dirTo s.fr x.val).length+1=(dirTo s.fr y.val).length)/\(EqL frmRow s.fr s.fr)/\(s.fr.length:Int)=(s.fr.length:Int)/\(x.val:Int)+(1:
  Int)=(y.val:Int)/\True)/\(1=1/\1=1/\EqS s s)/\((dirTo s.fr x.val).length+1=(dirTo s.fr y.val).length/\RowsEq ((dirTo s.fr x.val).length+1) (appRow (intRow (dirTo s.fr x.val)) (dirTo s.fr x.val).length fun(k:
  Nat)=>List.take 1 (List.drop (k*1) [T.int .i64 (s.fr.getD (x.val:Int).toNat default).no])) (intRow (dirTo s.fr y.val)))/\True)/\Lt (s.fr.length-y.val) (s.fr.length-x.val))/\((s.fr.getD (x.val:Int).toNat default).dirty=
  false->Rng .i64 ((x.val:Int)+(1:Int))/\∃(y:{i:Nat//i<=s.fr.length}),(((0=0/\0=0)/\(0=0/\(dirTo s.fr x.val).length=(dirTo s.fr y.val).length)/\(EqL frmRow s.fr s.fr)/\(s.fr.length:Int)=
  (s.fr.length:Int)/\(x.val:Int)+(1:Int)=(y.val:Int)/\True)/\(1=1/\1=1/\EqS s s)/\(EqL intRow (dirTo s.fr x.val) (dirTo s.fr y.val))/\True)/\Lt (s.fr.length-y.val) (s.fr.length-x.val)))/\(decide ((x.val:Int)<
  (s.fr.length:Int))=false->∃(x_1:(List Int)),(((0=0/\(dirTo s.fr x.val).length=List.length x_1)/\True)/\(((dirTo s.fr x.val).length=List.length x_1/\RowsEq (dirTo s.fr x.val).length (intRow (dirTo s.fr x.val))
  (intRow x_1))/\True)/\List.length x_1<=12)/\(((0=0/\(dirTo s.fr x.val).length=(dirTo s.fr s.fr.length).length)/\(0:Int)=(0:Int)/\True)/\True)/\(List.length x_1=(dirTo s.fr s.fr.length).length/\RowsEq
  (List.length x_1) (intRow (insS x_1)) (intRow (dirS s)))/\True))):
  EffFn Tryz.prog 32 [.agg s.ts] [] (.tup [.osl 0 0 (dirTo s.fr s.fr.length).length,.int .i64 0]) [intB (dirTo s.fr s.fr.length).length (dirS s)]:=
 vcG (code:=b_Dirtyi) (gC tmpA_ok call_tmpA (gC StoreOKi_ok call_StoreOKi (gC Sort_ok call_Sort gN))) Tryz.func32 (by kernel_rfl) (by kernel_rfl) (A_Dirtyi s) [[.arr 1]] h (by kernel_rfl)
theorem dir_len(L:List Frm):∀i,(dirTo L i).length<=i
 |0=>Nat.le_refl _
 |i+1=>by
  have:=dir_len L i;unfold dirTo;split
  ·rw[List.length_append];simp only[List.length_cons,List.length_nil];omega
  ·omega
theorem int_app(L:List Int)(n:Int):RowsEq (L.length+1) (appRow (intRow L) L.length fun k=>List.take 1 (List.drop (k*1) [T.int .i64 n])) (intRow (L++[n])):=by
 intro i hi;unfold intRow;rw[app_at 0 _ _ _ hi];by_cases h:i<L.length
 ·rw[appRow_lt h,if_neg (by omega)]
 ·obtain rfl:i=L.length:=by omega
  rw[appRow_ge (Nat.le_refl _),Nat.sub_self,if_pos rfl];rfl
theorem Dirtyi_ok:ConOk Tryz.prog 32 k_Dirtyi:=by
 intro(s:Sto) (hg:GInv s);have h3:=hg.fr3;have ho:=hg.ok;refine⟨v_Dirtyi s ⟨s,⟨⟨eqS _,trivial⟩,hg.B⟩,fun h=>(by rw[ho] at h;cases h),fun _=>⟨⟨⟨0,Nat.zero_le _⟩,(by repeat' first|exact trivial|exact rfl|exact rowsR _ _|exact famR _|exact row0|exact le0 _|exact Nat.le_refl _|exact Nat.zero_le _|refine And.intro ?_ ?_)⟩,fun x=>⟨fun hc=> ?_,fun hc=> ?_⟩⟩⟩,rfl,?_⟩
 ·have hlt:=lt_of_dec hc;have hd:=dir_len s.fr x.val;rw[Int.toNat_natCast];have e1:(s.fr.getD x.val default).dirty=true->dirTo s.fr (x.val+1)=dirTo s.fr x.val++[(s.fr.getD x.val default).no]:=fun h=>if_pos h
  have e2:(s.fr.getD x.val default).dirty=false->dirTo s.fr (x.val+1)=dirTo s.fr x.val:=fun h=>if_neg (by rw[h];simp)
  refine⟨inB_nat hlt,fun hb=>⟨⟨Nat.le_refl _,by unfold AppB;omega⟩,i64_rng (by omega),⟨x.val+1,hlt⟩,?_,Cnt.ext_lt hlt⟩,fun hb=>⟨i64_rng (by omega),⟨x.val+1,hlt⟩,?_,Cnt.ext_lt hlt⟩⟩
  ·dsimp only;rw[e1 hb];have hl:(dirTo s.fr x.val).length+1=(dirTo s.fr x.val++[(s.fr.getD x.val default).no]).length:=by simp
   exact⟨⟨⟨rfl,rfl⟩,⟨rfl,hl⟩,⟨rfl,rowsR _ _⟩,rfl,by omega,trivial⟩,⟨rfl,rfl,eqS _⟩,⟨hl,int_app _ _⟩,trivial⟩
  ·dsimp only;rw[e2 hb];exact⟨⟨⟨rfl,rfl⟩,⟨rfl,rfl⟩,⟨rfl,rowsR _ _⟩,rfl,by omega,trivial⟩,⟨rfl,rfl,eqS _⟩,⟨rfl,rowsR _ _⟩,trivial⟩
 ·have hx:x.val=s.fr.length:=by have:=x.2;have:=le_of_not hc;omega
  rw[hx];have hd:=dir_len s.fr s.fr.length;exact⟨dirTo s.fr s.fr.length,⟨(by repeat' first|exact trivial|exact rfl|exact rowsR _ _|exact famR _|exact row0|exact le0 _|exact Nat.le_refl _|exact Nat.zero_le _|refine And.intro ?_ ?_),⟨⟨rfl,rowsR _ _⟩,trivial⟩,by omega⟩,⟨⟨⟨rfl,rfl⟩,rfl,trivial⟩,trivial⟩,⟨rfl,rowsR _ _⟩,trivial⟩
 ·exact plain_cons (fun i _ t ht=>by simp only[intRow,List.mem_singleton] at ht;rw[ht];rfl) plain_nil
theorem tol_len(L:List Frm):∀i,(tolTo L i).length<=i
 |0=>Nat.le_refl _
 |i+1=>by
  have:=tol_len L i;unfold tolTo;split
  ·rw[List.length_append];simp only[List.length_cons,List.length_nil];omega
  ·omega
def toldB(p:Nat->Bool):Nat->List Int
 |0=>[]
 |m+1=>if p m=true then toldB p m++[(m:Int)] else toldB p m
theorem told_eq{L:List Frm}{p:Nat->Bool}:∀{m:Nat},(∀i,i<m->isD L i=p i)->tolTo L m=toldB p m
 |0,_=>rfl
 |m+1,h=>by
  unfold tolTo toldB;rw[h m (Nat.lt_succ_self m),told_eq fun i hi=>h i (by omega)]
def opt(n:Int)(b:Bool):List Int:=if b=true then[n] else[]
theorem t0:insS ([]:List Int)=toldB (fun _=>false) 8:=by decide+kernel
theorem t1:∀(a:Fin 8) (x:Bool),insS (opt (a.val:Int) x)=toldB (fun m=>decide (a.val=m)&&x) 8:=by decide+kernel
theorem t2:∀(a b:Fin 8) (x y:Bool),a≠b->insS (opt (a.val:Int) x++opt (b.val:Int) y)=toldB (fun m=>(decide (a.val=m)&&x)||(decide (b.val=m)&&y)) 8:=by decide+kernel
theorem t3:∀(a b c:Fin 8) (x y z:Bool),a≠b->a≠c->b≠c->insS (opt (a.val:Int) x++opt (b.val:Int) y++opt (c.val:Int) z)=toldB (fun m=>(decide (a.val=m)&&x)||(decide (b.val=m)&&y)||(decide (c.val=m)&&z)) 8:=by decide+kernel
end Go.Proofs.YtndilbkocjlgpaaGreat

namespace Go.Proofs.YtndilbkocjlgpaaGreat
open Go.SS

theorem fin_of{n:Int}(h:0<=n/\n<=7):∃a:Fin 8,(a.val:Int)=n:=⟨⟨n.toNat,by omega⟩,by show((n.toNat:Nat):Int)=n;omega⟩
theorem dir_told{s:Sto}(h:GInv s):dirS s=tolTo s.fr 8:=by
 have h3:=h.fr3;have hD:=isD_iff h;have fp:∀i,i<s.fr.length->0<=(s.fr.getD i default).no/\(s.fr.getD i default).no<=7:=fun i hi=>⟨(h.fp i hi).1,(h.fp i hi).2.1⟩
 have nd:=h.nd;unfold dirS;generalize s.fr=L at*
 match L with
 | []=>
  rw[told_eq (p:=fun _=>false) fun i _=>by
   rw[Bool.eq_false_iff];intro hh;obtain⟨j,hj,_⟩:=(hD i).1 hh;exact absurd hj (Nat.not_lt_zero j)]
  exact t0
 | [f]=>
  obtain⟨a,ha⟩:=fin_of (fp 0 (by simp))
  have ha:(a.val:Int)=f.no:=ha;rw[told_eq (p:=fun m=>decide (a.val=m)&&f.dirty) fun i _=>by
   rw[Bool.eq_iff_iff,hD,Bool.and_eq_true,decide_eq_true_eq];constructor
   ·rintro⟨j,hj,hn,hd⟩;have hj:j<1:=hj;obtain rfl:j=0:=by omega
    have hn:f.no=i:=hn;exact⟨by omega,hd⟩
   ·rintro⟨h1,h2⟩;exact⟨0,by simp,by show f.no=i;omega,h2⟩]
  rw[←t1 a f.dirty,ha];congr 1
 | [f,g]=>
  obtain⟨a,ha⟩:=fin_of (fp 0 (by simp))
  obtain⟨b,hb⟩:=fin_of (fp 1 (by simp))
  have ha:(a.val:Int)=f.no:=ha;have hb:(b.val:Int)=g.no:=hb;have hab:a≠b:=fun e=>by
   have:=nd 0 1 (by simp) (by simp) (by show f.no=g.no;rw[←ha,←hb,e])
   omega
  rw[told_eq (p:=fun m=>(decide (a.val=m)&&f.dirty)||(decide (b.val=m)&&g.dirty)) fun i _=>by
   rw[Bool.eq_iff_iff,hD,Bool.or_eq_true,Bool.and_eq_true,Bool.and_eq_true,decide_eq_true_eq,decide_eq_true_eq];constructor
   ·rintro⟨j,hj,hn,hd⟩;have hj:j<2:=hj
    match j,hj with
    |0,_=>have hn:f.no=i:=hn;exact .inl ⟨by omega,hd⟩
    |1,_=>have hn:g.no=i:=hn;exact .inr ⟨by omega,hd⟩
   ·rintro(⟨h1,h2⟩|⟨h1,h2⟩)
    ·exact⟨0,by simp,by show f.no=i;omega,h2⟩
    ·exact⟨1,by simp,by show g.no=i;omega,h2⟩]
  rw[←t2 a b f.dirty g.dirty hab,ha,hb];congr 1
  show(if g.dirty=true then(if f.dirty=true then[]++[f.no] else[])++[g.no] else(if f.dirty=true then[]++[f.no] else[]))=opt f.no f.dirty++opt g.no g.dirty
  unfold opt;cases f.dirty<;>cases g.dirty<;>rfl
 | [f,g,k]=>
  obtain⟨a,ha⟩:=fin_of (fp 0 (by simp))
  obtain⟨b,hb⟩:=fin_of (fp 1 (by simp))
  obtain⟨c,hc⟩:=fin_of (fp 2 (by simp))
  have ha:(a.val:Int)=f.no:=ha;have hb:(b.val:Int)=g.no:=hb;have hc:(c.val:Int)=k.no:=hc;have hab:a≠b:=fun e=>by
   have:=nd 0 1 (by simp) (by simp) (by show f.no=g.no;rw[←ha,←hb,e])
   omega
  have hac:a≠c:=fun e=>by
   have:=nd 0 2 (by simp) (by simp) (by show f.no=k.no;rw[←ha,←hc,e])
   omega
  have hbc:b≠c:=fun e=>by
   have:=nd 1 2 (by simp) (by simp) (by show g.no=k.no;rw[←hb,←hc,e])
   omega
  rw[told_eq (p:=fun m=>(decide (a.val=m)&&f.dirty)||(decide (b.val=m)&&g.dirty)||(decide (c.val=m)&&k.dirty)) fun i _=>by
   rw[Bool.eq_iff_iff,hD,Bool.or_eq_true,Bool.or_eq_true,Bool.and_eq_true,Bool.and_eq_true,Bool.and_eq_true,decide_eq_true_eq,decide_eq_true_eq,decide_eq_true_eq];constructor
   ·rintro⟨j,hj,hn,hd⟩;have hj:j<3:=hj
    match j,hj with
    |0,_=>have hn:f.no=i:=hn;exact .inl (.inl ⟨by omega,hd⟩)
    |1,_=>have hn:g.no=i:=hn;exact .inl (.inr ⟨by omega,hd⟩)
    |2,_=>have hn:k.no=i:=hn;exact .inr ⟨by omega,hd⟩
   ·rintro((⟨h1,h2⟩|⟨h1,h2⟩)|⟨h1,h2⟩)
    ·exact⟨0,by simp,by show f.no=i;omega,h2⟩
    ·exact⟨1,by simp,by show g.no=i;omega,h2⟩
    ·exact⟨2,by simp,by show k.no=i;omega,h2⟩]
  rw[←t3 a b c f.dirty g.dirty k.dirty hab hac hbc,ha,hb,hc];congr 1
  show(if k.dirty=true then(if g.dirty=true then(if f.dirty=true then[]++[f.no] else[])++[g.no] else(if f.dirty=true then[]++[f.no] else[]))++[k.no] else(if g.dirty=true then(if f.dirty=true then[]++[f.no] else[])++[g.no] else(if f.dirty=true then[]++[f.no] else[])))=opt f.no f.dirty++opt g.no g.dirty++opt k.no k.dirty
  unfold opt;cases f.dirty<;>cases g.dirty<;>cases k.dirty<;>rfl
 |f::g::k::l::r=>simp at h3
end Go.Proofs.YtndilbkocjlgpaaGreat

namespace Go.Proofs.YtndilbkocjlgpaaGreat
set_option maxRecDepth 100000
open Go.SS

theorem GInv.flt{s:Sto}(h:stoOK s=true){no n:Nat}{k:Nat}{a:Sto}(hn:n<8)(hf:fetS s n=(a,k,true)):fetPage s (n:Int)=(a,(a.fr.getD k default).pg,true,0):=by
 have hin:inR (n:Int) 0 7=true:=by unfold inR;rw[decide_eq_true (by omega),decide_eq_true (by omega)];rfl
 rw[fetPage_up h hin (by rw[Int.toNat_natCast,hf]),Int.toNat_natCast,hf]
end Go.Proofs.YtndilbkocjlgpaaGreat

namespace Go.Proofs.YtndilbkocjlgpaaGreat
set_option maxRecDepth 100000
open Go.SS

def fnd(no:Int)(L:List Int):Nat->Bool
 |0=>false
 |i+1=>fnd no L i||(L.getD i 0==no)
def A_LawA(no sl:Int)(P Q:Pg)(x:Sto)(L:List Int):Nat->Ann
 |0=>.onef [6,7,13,16,23,26] {i:Nat//i<=4} (fun j=>⟨[(6,.int .i64 no),(7,.int .i64 sl),(13,.bref P.ts),(16,.bref x.ts),(23,.bref Q.ts),(26,.int .i64 j.1)],[]⟩) (fun j=>4-j.1) [] (fun _=>fun
  |1=>.onef [6,16,27,28,29,30] {i:Nat//i<=L.length} (fun j=>⟨[(6,.int .i64 no),(16,.bref x.ts),(27,intS L),(28,.int .i64 0),(29,.bool (fnd no L j.1)),(30,.int .i64 j.1)],[]⟩) (fun j=>L.length-j.1) [] (fun _=>noAnn)
  |_=>.none)
 |_=>.none
noncomputable def b_LawA:Code:=Tryz.f6.body.getD .skip
theorem v_LawA(c m:List UInt8)(no sl:Int)(P Q:Pg)(x:Sto)(L:List Int)(h:
  ((decide ((c.length:Int)>(1048576:Int))||decide ((m.length:Int)>(1048576:Int)))=true->true=true)/\((decide ((c.length:Int)>(1048576:Int))||decide ((m.length:Int)>(1048576:Int)))=false->∃(x_1:OfY),
  ((c=x_1.val.fst/\True)/\x_1.val.fst.length<=1048576)/\∃(x_2:(List UInt8×Nat×Nat)),((m=x_2.fst/\(0:Int)=(x_2.snd.fst:Int)/\(8:Int)=(x_2.snd.snd:Int)/\True)/\x_2.snd.fst<=100/\x_2.snd.snd<=1000/\
  x_2.fst.length<=1048576)/\∃(x_3:(List UInt8×Nat×Nat)),((m=x_3.fst/\(1:Int)=(x_3.snd.fst:Int)/\(4:Int)=(x_3.snd.snd:Int)/\True)/\x_3.snd.fst<=100/\x_3.snd.snd<=1000/\x_3.fst.length<=1048576)/\∃(x_4:
  r_AppendLog.ι),((LeS x_1.val.snd)/\((EqF x_1.val.snd x_4.fst)/\((0:Int)=x_4.snd.e/\(0:Int)=x_4.snd.l/\(9:Int)=x_4.snd.t/\(1:Int)=x_4.snd.k/\(0:Int)=x_4.snd.p/\(0:Int)=x_4.snd.n/\(0:Int)=
  x_4.snd.g/\(0:Int)=x_4.snd.s/\[]=x_4.snd.b/\[]=x_4.snd.a/\True)/\True)/\StoB x_4.fst/\SmS x_4.fst/\SmR x_4.snd)/\∃(x_5:r_AppendLog.ι),((LeS (appLog x_4.fst x_4.snd).fst)/\((EqF (appLog x_4.fst x_4.snd).fst
  x_5.fst)/\((0:Int)=x_5.snd.e/\(0:Int)=x_5.snd.l/\(9:Int)=x_5.snd.t/\(2:Int)=x_5.snd.k/\(↑(appLog x_4.fst x_4.snd).fst.log.length:Int)=x_5.snd.p/\(0:Int)=x_5.snd.n/\atV x_2.fst x_2.snd.fst x_2.snd.snd
  =x_5.snd.g/\atV x_3.fst x_3.snd.fst x_3.snd.snd=x_5.snd.s/\[]=x_5.snd.b/\[(102:UInt8),(114:UInt8),(101:UInt8),(115:UInt8),(104:UInt8)]=x_5.snd.a/\True)/\True)/\StoB x_5.fst/\SmS x_5.fst/\SmR x_5.snd)/\
  (((appLog x_4.fst x_4.snd).snd !=(0:Int)||(appLog x_5.fst x_5.snd).snd !=(0:Int))=false->Rng .i64 ((x_1.val.snd.log.length:Int)+(2:Int)))/\(((appLog x_4.fst x_4.snd).snd !=(0:Int)||(appLog x_5.fst x_5.snd).snd
  !=(0:Int)||(↑(appLog x_5.fst x_5.snd).fst.log.length:Int) !=(x_1.val.snd.log.length:Int)+(2:Int))=true->false=true)/\(((appLog x_4.fst x_4.snd).snd !=(0:Int)||(appLog x_5.fst x_5.snd).snd !=(0:Int)||
  (↑(appLog x_5.fst x_5.snd).fst.log.length:Int) !=(x_1.val.snd.log.length:Int)+(2:Int))=false->∃(x_6:r_FetchPage.ι),((LeS (appLog x_5.fst x_5.snd).fst)/\((EqF (appLog x_5.fst x_5.snd).fst x_6.fst)/\atV x_2.fst
  x_2.snd.fst x_2.snd.snd=x_6.snd/\True)/\StoB x_6.fst/\SmS x_6.fst)/\∃(x_7:r_ApplyChange.ι),((LeS (appLog x_5.fst x_5.snd).fst)/\((EqF (appLog x_5.fst x_5.snd).fst x_7.fst)/\(↑(appLog x_5.fst x_5.snd).fst.log.length:
  Int)=x_7.snd/\True)/\StoB x_7.fst/\SmS x_7.fst)/\∃(x_8:r_ApplyChange.ι),((LeS (appLog x_5.fst x_5.snd).fst)/\((EqF (appLog x_5.fst x_5.snd).fst x_8.fst)/\(↑(appLog x_5.fst x_5.snd).fst.log.length:Int)=x_8.snd/\
  True)/\StoB x_8.fst/\SmS x_8.fst)/\∃(x_9:r_FetchPage.ι),((LeS (aplChg x_7.fst x_7.snd).fst)/\((EqF (aplChg x_7.fst x_7.snd).fst x_9.fst)/\atV x_2.fst x_2.snd.fst x_2.snd.snd=x_9.snd/\True)/\StoB x_9.fst/\SmS x_9.fst)
  /\∃(x_10:r_eqSto.ι),(((fetPage x_6.fst x_6.snd).snd.snd.snd !=(0:Int)||(aplChg x_7.fst x_7.snd).snd.snd !=(0:Int)|| !(aplChg x_7.fst x_7.snd).snd.fst)=false->((LeS (aplChg x_7.fst x_7.snd).fst)/\LeS (aplChg
  x_8.fst x_8.snd).fst)/\((EqF (aplChg x_7.fst x_7.snd).fst x_10)/\(EqF (aplChg x_8.fst x_8.snd).fst x_10)/\True)/\SmS x_10)/\(((fetPage x_6.fst x_6.snd).snd.snd.snd !=(0:Int)||(aplChg x_7.fst x_7.snd).snd.snd !=(0:Int)
  || !(aplChg x_7.fst x_7.snd).snd.fst||false||(fetPage x_9.fst x_9.snd).snd.snd.snd !=(0:Int)||(fetPage x_9.fst x_9.snd).snd.fst.lsn !=(↑(appLog x_5.fst x_5.snd).fst.log.length:Int)||(↑(fetPage x_9.fst
  x_9.snd).snd.fst.sl.length:Int) !=(4:Int)||(↑(fetPage x_6.fst x_6.snd).snd.fst.sl.length:Int) !=(4:Int))=true->false=true)/\(((fetPage x_6.fst x_6.snd).snd.snd.snd !=(0:Int)||(aplChg x_7.fst x_7.snd).snd.snd
  !=(0:Int)|| !(aplChg x_7.fst x_7.snd).snd.fst||false||(fetPage x_9.fst x_9.snd).snd.snd.snd !=(0:Int)||(fetPage x_9.fst x_9.snd).snd.fst.lsn !=(↑(appLog x_5.fst x_5.snd).fst.log.length:Int)||(↑(fetPage x_9.fst
  x_9.snd).snd.fst.sl.length:Int) !=(4:Int)||(↑(fetPage x_6.fst x_6.snd).snd.fst.sl.length:Int) !=(4:Int))=false->((Le (0+(fetPage x_6.fst x_6.snd).snd.fst.sl.length) (fetPage x_6.fst x_6.snd).snd.fst.sl.length/\
  (LeS (aplChg x_7.fst x_7.snd).fst)/\Le (0+(fetPage x_9.fst x_9.snd).snd.fst.sl.length) (fetPage x_9.fst x_9.snd).snd.fst.sl.length)/\∃(x_11:{i:Nat//i<=4}),(atV x_2.fst x_2.snd.fst x_2.snd.snd=no/\atV x_3.fst
  x_3.snd.fst x_3.snd.snd=sl/\TLe (fun(x:Nat)=>none) (T.bref [T.int .i64 (fetPage x_6.fst x_6.snd).snd.fst.lsn,T.sl 1 (fetPage x_6.fst x_6.snd).snd.fst.sl.length (strRow (fetPage x_6.fst x_6.snd).snd.fst.sl)]) (T.bref
  [T.int .i64 P.lsn,T.sl 1 P.sl.length (strRow P.sl)])/\TLe (fun(x:Nat)=>none) (T.bref [T.sl 1 (aplChg x_7.fst x_7.snd).fst.d.sec.length (strRow (aplChg x_7.fst x_7.snd).fst.d.sec),T.sl 2 (aplChg x_7.fst
  x_7.snd).fst.d.cache.length (pendRow (aplChg x_7.fst x_7.snd).fst.d.cache),T.bool (aplChg x_7.fst x_7.snd).fst.d.armed,T.sl 1 (aplChg x_7.fst x_7.snd).fst.d.keep.length (intRow (aplChg x_7.fst x_7.snd).fst.d.keep),T.int .i64
  (aplChg x_7.fst x_7.snd).fst.ep,T.sl 10 (aplChg x_7.fst x_7.snd).fst.log.length (recRow (aplChg x_7.fst x_7.snd).fst.log),T.int .i64 (aplChg x_7.fst x_7.snd).fst.sure,T.sl 5 (aplChg x_7.fst x_7.snd).fst.fr.length (frzR (famRow
  (aplChg x_7.fst x_7.snd).fst.fr)),T.int .i64 (aplChg x_7.fst x_7.snd).fst.hand]) (T.bref x.ts)/\TLe (fun(x:Nat)=>none) (T.bref [T.int .i64 (fetPage x_9.fst x_9.snd).snd.fst.lsn,T.sl 1 (fetPage x_9.fst
  x_9.snd).snd.fst.sl.length (strRow (fetPage x_9.fst x_9.snd).snd.fst.sl)]) (T.bref [T.int .i64 Q.lsn,T.sl 1 Q.sl.length (strRow Q.sl)])/\(0:Int)=(x_11.val:Int)/\True)/\True)/\∀(x_11:{i:Nat//i<=4}),(decide
  ((x_11.val:Int)<(4:Int))=true->(((x_11.val:Int)==sl)=true->InB (x_11.val:Int) Q.sl.length)/\(((x_11.val:Int)==sl&& !Q.sl.getD (x_11.val:Int).toNat []==[(102:UInt8),(114:UInt8),(101:UInt8),(115:UInt8),
  (104:UInt8)])=false->((x_11.val:Int) !=sl)=true->InB (x_11.val:Int) Q.sl.length)/\(((x_11.val:Int)==sl&& !Q.sl.getD (x_11.val:Int).toNat []==[(102:UInt8),(114:UInt8),(101:UInt8),(115:UInt8),(104:
  UInt8)])=false->((x_11.val:Int) !=sl)=true->InB (x_11.val:Int) P.sl.length)/\(((x_11.val:Int)==sl&& !Q.sl.getD (x_11.val:Int).toNat []==[(102:UInt8),(114:UInt8),(101:UInt8),(115:UInt8),(104:UInt8)]||
  (x_11.val:Int) !=sl&& !Q.sl.getD (x_11.val:Int).toNat []==P.sl.getD (x_11.val:Int).toNat [])=true->false=true)/\(((x_11.val:Int)==sl&& !Q.sl.getD (x_11.val:Int).toNat []==[(102:UInt8),(114:UInt8),(101:
  UInt8),(115:UInt8),(104:UInt8)]||(x_11.val:Int) !=sl&& !Q.sl.getD (x_11.val:Int).toNat []==P.sl.getD (x_11.val:Int).toNat [])=false->Rng .i64 ((x_11.val:Int)+(1:Int))/\∃(y:{i:Nat//i<=4}),((no=no/\
  sl=sl/\TLe (fun(x:Nat)=>none) (T.bref [T.int .i64 P.lsn,T.sl 1 P.sl.length (strRow P.sl)]) (T.bref [T.int .i64 P.lsn,T.sl 1 P.sl.length (strRow P.sl)])/\TLe (fun(x:Nat)=>none) (T.bref x.ts) (T.bref x.ts)/\TLe (fun
  (x:Nat)=>none) (T.bref [T.int .i64 Q.lsn,T.sl 1 Q.sl.length (strRow Q.sl)]) (T.bref [T.int .i64 Q.lsn,T.sl 1 Q.sl.length (strRow Q.sl)])/\(x_11.val:Int)+(1:Int)=(y.val:Int)/\True)/\True)/\Lt (4-y.val) (4-
  x_11.val)))/\(decide ((x_11.val:Int)<(4:Int))=false->∃(x_12:Sto),(((EqS x x_12)/\True)/\GInv x_12)/\(Le (0+(dirTo x_12.fr x_12.fr.length).length) (dirTo x_12.fr x_12.fr.length).length/\∃(x_13:{i:Nat//i<=
  L.length}),(no=no/\TLe (fun(x:Nat)=>none) (T.bref x.ts) (T.bref x.ts)/\((dirTo x_12.fr x_12.fr.length).length=L.length/\RowsEq (dirTo x_12.fr x_12.fr.length).length (intRow (dirS x_12)) (intRow L))/\(0:Int)=(0:
  Int)/\false=fnd no L x_13.val/\(0:Int)=(x_13.val:Int)/\True)/\True)/\∀(x_13:{i:Nat//i<=L.length}),(decide ((x_13.val:Int)<(L.length:Int))=true->(fnd no L x_13.val=false->InB (x_13.val:Int) L.length)/\
  Rng .i64 ((x_13.val:Int)+(1:Int))/\∃(y:{i:Nat//i<=L.length}),((no=no/\TLe (fun(x:Nat)=>none) (T.bref x.ts) (T.bref x.ts)/\(EqL intRow L L)/\(0:Int)=(0:Int)/\(fnd no L x_13.val||L.getD
  (x_13.val:Int).toNat (0:Int)==no)=fnd no L y.val/\(x_13.val:Int)+(1:Int)=(y.val:Int)/\True)/\True)/\Lt (L.length-y.val) (L.length-x_13.val))/\(decide ((x_13.val:Int)<(L.length:Int))=false->∃(x_14:
  r_StoreOK.ι),((true&&fnd no L x_13.val)=true->((EqS x x_14)/\True)/\StoB x_14)/\(true&&fnd no L x_13.val&&stoOK x_14)=true)))))):
  PureFn Tryz.prog 6 [.bys c,.bys m] (.bool true):=
 vcR (code:=b_LawA) (gC StoreOfY_ok call_StoreOfY (gC at_ok call_at (gC AppendLogi_ok call_AppendLogi (gC FetchPagei_ok call_FetchPagei (gC ApplyChangei_ok call_ApplyChangei (gC ApplyChanges_ok call_ApplyChanges (gC sameStore_ok call_sameStore (gC StoreOKi_ok call_StoreOKi (gC Dirtyi_ok call_Dirtyi gN))))))))) Tryz.func6 (by kernel_rfl) (by kernel_rfl) (A_LawA no sl P Q x L) h (by kernel_rfl)
theorem tleB{ρ:Nat->Option Nat}(L:List T):TLe ρ (.bref L) (.bref L):=⟨1,_,rfl,RLe.refl _⟩
theorem fnd_in{no:Int}{L:List Int}{j:Nat}(hj:L.getD j 0=no):∀i,j<i->fnd no L i=true
 |0,h=>absurd h (Nat.not_lt_zero j)
 |i+1,h=>by
  unfold fnd;by_cases e:j=i
  ·subst e;rw[hj];simp
  ·rw[fnd_in hj i (by omega)]
   rfl
theorem mem_tol{L:List Frm}{m:Nat}(h:isD L m=true):∀k,m<k->(m:Int) ∈ tolTo L k
 |0,h=>absurd h (Nat.not_lt_zero m)
 |k+1,hk=>by
  unfold tolTo;by_cases e:m=k
  ·subst e;rw[if_pos h];simp
  ·have:=mem_tol h k (by omega)
   split
   ·exact List.mem_append_left _ this
   ·exact this
theorem log_ok{s:Sto}{r:Rec}(h:stoOK s=true)(h6:s.log.length<60)(hr:recOK (appR s r)=true):appLog s r=(appX s r,0):=by
 have e:appS s r=appX s r:=by unfold appS;rw[if_pos hr];rfl
 unfold appLog;rw[if_pos h,if_neg (by omega),if_pos hr,e]
def rA:Rec:=⟨0,0,9,1,0,0,0,0,[],[]⟩
def rZ(p g s:Int):Rec:=⟨0,0,9,2,p,0,g,s,[],[102,114,101,115,104]⟩
theorem rA_ok{s:Sto}(h:GInv s)(h6:s.log.length<60):recOK (appR s rA)=true:=by
 have he:=h.ep;refine(recOK_iff _).2 ?_
 unfold RecP appR rA;dsimp only;refine⟨he.1,he.2,by omega,by omega,?_⟩
 simp
 try omega
theorem rZ_ok{s:Sto}{g q:Int}(h:GInv s)(h0:s.log.length≠0)(h6:s.log.length<60)(hp:0<=g/\g<8)(hs:0<=q/\q<4):recOK (appR s (rZ s.log.length g q))=true:=by
 have he:=h.ep;refine(recOK_iff _).2 ?_
 unfold RecP appR rZ;dsimp only;refine⟨he.1,he.2,by omega,by omega,by omega,by omega,by omega,by omega,by omega,by omega,hp.1,by omega,hs.1,by omega,by decide,fun e=>by omega,fun _=>⟨by omega,by omega,by decide,fun e=>absurd rfl e,fun _=>rfl,fun e=>by omega,⟨fun e=>by omega,fun e=>by omega⟩⟩⟩
theorem lawA_pure(c m:List UInt8):PureFn Tryz.prog 6 [.bys c,.bys m] (.bool true):=by
 obtain⟨hI,h13⟩:=dEnd_inv c;obtain⟨s,hs⟩:∃s,s=(dEnd c).2:=⟨_,rfl⟩;rw[←hs] at hI h13;have hat:=at_rng m (i:=0) (n:=8) (by decide)
 have hat2:=at_rng m (i:=1) (n:=4) (by decide)
 obtain⟨n,hn⟩:∃n:Nat,atV m 0 8=n:=⟨(atV m 0 8).toNat,by omega⟩
 obtain⟨q,hq⟩:∃q:Nat,atV m 1 4=q:=⟨(atV m 1 4).toNat,by omega⟩
 have hn8:n<8:=by omega
 have hq4:q<4:=by omega
 have k1:=rA_ok hI (by omega)
 have E1:=log_ok hI.ok (by omega) k1
 have g1:=g_app hI (by omega) k1
 have l1:(appX s rA).log.length=s.log.length+1:=by unfold appX;simp
 generalize appX s rA=a1 at*;have k2:=rZ_ok (s:=a1) (g:=n) (q:=q) g1 (by omega) (by omega) ⟨by omega,by omega⟩ ⟨by omega,by omega⟩
 have E2:=log_ok g1.ok (by omega) k2
 have g2:=g_app g1 (by omega) k2
 have l2:(appX a1 (rZ a1.log.length n q)).log.length=a1.log.length+1:=by unfold appX;simp
 have eL:=appX_last a1 (rZ a1.log.length n q);obtain⟨r,hr⟩:∃r,r=appR a1 (rZ a1.log.length n q):=⟨_,rfl⟩;rw[←hr] at eL;have r1:r.g=(n:Int):=by rw[hr];rfl
 have r2:r.s=(q:Int):=by rw[hr];rfl
 have r3:r.l=(a1.log.length:Int)+1:=by rw[hr];rfl
 have r4:r.a=[102,114,101,115,104]:=by rw[hr];rfl
 have r5:r.k=2:=by rw[hr];rfl
 generalize appX a1 (rZ a1.log.length n q)=a2 at*;obtain⟨A,k,P,x,f1,hp,hP,gA,ha,gx,hk,hx,f2,hno⟩:=applied (r:=r) g2 hn8 r1 (by omega) ⟨by omega,by omega⟩ (by rw[r4];decide)
 have F1:=GInv.flt (no:=0) g2.ok hn8 f1;have F2:=GInv.flt (no:=0) gx.ok hn8 f2;rw[hp] at F1;have hQ:(x.fr.getD k default).pg=⟨r.l,P.sl.set q r.a⟩:=by rw[hx,←hp];unfold chgF;rw[r2,Int.toNat_natCast]
 rw[hQ] at F2;have hd:(x.fr.getD k default).dirty=true:=by rw[hx];rfl
 have hP4:P.sl.length=4:=hP.2.2.1;have E3:aplChg a2 (a2.log.length:Int)=(x,true,0):=by
  have e:((a2.log.length:Int)-1).toNat=a1.log.length:=by omega
  rw[chg_ok (by rw[g2.ok];rfl) (by simp[inR];omega) (by rw[e,eL];exact .inl r5),e,eL,ha]
 have hD:isD x.fr n=true:=(isD_iff gx n).2 ⟨k,hk,hno,hd⟩;have ht:=dir_told gx;have hmem:(n:Int) ∈ dirS x:=by rw[ht];exact mem_tol hD 8 hn8
 have hl:(dirTo x.fr x.fr.length).length=(dirS x).length:=(insA_len _ _).symm;obtain⟨j,hj,ej⟩:=List.getElem_of_mem hmem;have hf:fnd n (dirS x) (dirS x).length=true:=fnd_in (j:=j) (by rw[List.getD_eq_getElem?_getD,List.getElem?_eq_getElem hj,ej];rfl) _ hj
 have hlD:(dirS x).length<=8:=by rw[ht];exact tol_len _ 8
 refine v_LawA c m n q P ⟨r.l,P.sl.set q r.a⟩ x (dirS x) ⟨fun _=>rfl,fun hqq=> ?_⟩
 simp only[Bool.or_eq_false_iff,decide_eq_false_iff_not] at hqq;have c100:0<=100:=Nat.zero_le _;have c101:1<=100:=by decide
 have c8:8<=1000:=by decide
 have c4:4<=1000:=by decide
 have z0:0<=1048576:=Nat.zero_le _;have z5:5<=1048576:=by decide
 have smR:∀g s p:Int,SmR (rZ p g s):=fun _ _ _=>⟨z0,z5⟩
 refine⟨⟨(c,s),hs⟩,⟨⟨rfl,trivial⟩,by dsimp only;omega⟩,(m,0,8),⟨⟨rfl,rfl,rfl,trivial⟩,c100,c8,by dsimp only;omega⟩,(m,1,4),⟨⟨rfl,rfl,rfl,trivial⟩,c101,c4,by dsimp only;omega⟩,(s,rA),⟨⟨le0 _,le0 _,le0 _,le0 _,le0 _⟩,⟨⟨⟨rfl,rowsR _ _⟩,⟨rfl,rowsR _ _⟩,rfl,⟨rfl,rowsR _ _⟩,rfl,⟨rfl,rowsR _ _⟩,rfl,⟨rfl,fun _ _=>rfl⟩,rfl,trivial⟩,⟨rfl,rfl,rfl,rfl,rfl,rfl,rfl,rfl,rfl,rfl,trivial⟩,trivial⟩,hI.B,hI.sm,z0,z0⟩,(a1,rZ a1.log.length n q),?_⟩
 dsimp only;rw[E1,E2];dsimp only;refine⟨⟨⟨le0 _,le0 _,le0 _,le0 _,le0 _⟩,⟨⟨⟨rfl,rowsR _ _⟩,⟨rfl,rowsR _ _⟩,rfl,⟨rfl,rowsR _ _⟩,rfl,⟨rfl,rowsR _ _⟩,rfl,⟨rfl,fun _ _=>rfl⟩,rfl,trivial⟩,⟨rfl,rfl,rfl,rfl,rfl,rfl,hn,hq,rfl,rfl,trivial⟩,trivial⟩,g1.B,g1.sm,smR _ _ _⟩,fun _=>i64_rng (by omega),fun h=> ?_,fun _=>⟨(a2,(n:Int)),⟨⟨le0 _,le0 _,le0 _,le0 _,le0 _⟩,⟨⟨⟨rfl,rowsR _ _⟩,⟨rfl,rowsR _ _⟩,rfl,⟨rfl,rowsR _ _⟩,rfl,⟨rfl,rowsR _ _⟩,rfl,⟨rfl,fun _ _=>rfl⟩,rfl,trivial⟩,hn,trivial⟩,g2.B,g2.sm⟩,(a2,(a2.log.length:Int)),⟨⟨le0 _,le0 _,le0 _,le0 _,le0 _⟩,⟨⟨⟨rfl,rowsR _ _⟩,⟨rfl,rowsR _ _⟩,rfl,⟨rfl,rowsR _ _⟩,rfl,⟨rfl,rowsR _ _⟩,rfl,⟨rfl,fun _ _=>rfl⟩,rfl,trivial⟩,rfl,trivial⟩,g2.B,g2.sm⟩,(a2,(a2.log.length:Int)),⟨⟨le0 _,le0 _,le0 _,le0 _,le0 _⟩,⟨⟨⟨rfl,rowsR _ _⟩,⟨rfl,rowsR _ _⟩,rfl,⟨rfl,rowsR _ _⟩,rfl,⟨rfl,rowsR _ _⟩,rfl,⟨rfl,fun _ _=>rfl⟩,rfl,trivial⟩,rfl,trivial⟩,g2.B,g2.sm⟩,(x,(n:Int)),?_⟩⟩
 ·simp at h;omega
 dsimp only;rw[F1,E3,F2];dsimp only;refine⟨⟨⟨le0 _,le0 _,le0 _,le0 _,le0 _⟩,⟨⟨⟨rfl,rowsR _ _⟩,⟨rfl,rowsR _ _⟩,rfl,⟨rfl,rowsR _ _⟩,rfl,⟨rfl,rowsR _ _⟩,rfl,⟨rfl,fun _ _=>rfl⟩,rfl,trivial⟩,hn,trivial⟩,gx.B,gx.sm⟩,x,fun _=>⟨⟨⟨le0 _,le0 _,le0 _,le0 _,le0 _⟩,⟨le0 _,le0 _,le0 _,le0 _,le0 _⟩⟩,⟨⟨⟨rfl,rowsR _ _⟩,⟨rfl,rowsR _ _⟩,rfl,⟨rfl,rowsR _ _⟩,rfl,⟨rfl,rowsR _ _⟩,rfl,⟨rfl,fun _ _=>rfl⟩,rfl,trivial⟩,⟨⟨rfl,rowsR _ _⟩,⟨rfl,rowsR _ _⟩,rfl,⟨rfl,rowsR _ _⟩,rfl,⟨rfl,rowsR _ _⟩,rfl,⟨rfl,fun _ _=>rfl⟩,rfl,trivial⟩,trivial⟩,gx.sm⟩,fun h=> ?_,fun _=>⟨⟨⟨le0 _,⟨le0 _,le0 _,le0 _,le0 _,le0 _⟩,le0 _⟩,⟨0,Nat.zero_le _⟩,⟨hn,hq,tleB _,tleB _,tleB _,rfl,trivial⟩,trivial⟩,fun y=>⟨fun hc=> ?_,fun hc=> ?_⟩⟩⟩
 ·simp[r3,hP4] at h;omega
 ·have hy:y.val<4:=by have:=of_decide_eq_true hc;omega
  have hs4:(P.sl.set q r.a).length=4:=by rw[List.length_set];exact hP4
  have i1:InB (y.val:Int) (P.sl.set q r.a).length:=inB_nat (by omega)
  have i2:InB (y.val:Int) P.sl.length:=inB_nat (by omega)
  have hB:(((y.val:Int)==q&& !(P.sl.set q r.a).getD (y.val:Int).toNat []==[102,114,101,115,104])||((y.val:Int) !=q&& !(P.sl.set q r.a).getD (y.val:Int).toNat []==P.sl.getD (y.val:Int).toNat []))=false:=by
   rw[Int.toNat_natCast,List.getD_eq_getElem?_getD,List.getD_eq_getElem?_getD,List.getElem?_set,r4]
   by_cases e:q=y.val
   ·rw[if_pos e,if_pos (by omega),←e]
    simp
   ·rw[if_neg e,show((y.val:Int)==(q:Int))=false from by simp;omega]
    simp
  exact⟨fun _=>i1,fun _ _=>i1,fun _ _=>i2,fun h=>absurd (hB.symm.trans h) (by decide),fun _=>⟨i64_rng (by omega),⟨y.val+1,hy⟩,⟨⟨rfl,rfl,tleB _,tleB _,tleB _,rfl,trivial⟩,trivial⟩,Cnt.ext_lt hy⟩⟩
 ·refine⟨x,⟨⟨eqS _,trivial⟩,gx⟩,⟨le0 _,⟨0,Nat.zero_le _⟩,⟨rfl,tleB _,⟨hl,rowsR _ _⟩,rfl,rfl,rfl,trivial⟩,trivial⟩,fun y=>⟨fun hc=> ?_,fun hc=> ?_⟩⟩
  ·have hy:=lt_of_dec hc;exact⟨fun _=>inB_nat hy,i64_rng (by omega),⟨y.val+1,hy⟩,⟨⟨rfl,tleB _,⟨rfl,rowsR _ _⟩,rfl,rfl,rfl,trivial⟩,trivial⟩,Cnt.ext_lt hy⟩
  ·have hy:y.val=(dirS x).length:=by have:=y.2;have:=le_of_not hc;omega
   exact⟨x,fun _=>⟨⟨eqS _,trivial⟩,gx.B⟩,by rw[hy,hf,gx.ok];rfl⟩
end Go.Proofs.YtndilbkocjlgpaaGreat

