/- A part of the proof. -/
import Derived.Test.YtndilbkocjlgpaaGreatE7
namespace Go.Proofs.YtndilbkocjlgpaaGreat
set_option maxRecDepth 100000
open Go.SS

def u8b(n:Int):UInt8:=ofI (IntKind.u8.wrap n)
def fldAt(L:List (List UInt8)):Nat->List UInt8
 |0=>[u8b L.length]
 |i+1=>fldAt L i++[u8b (L.getD i []).length]++L.getD i []
def fldB(L:List (List UInt8)):List UInt8:=fldAt L L.length
def FldSm(L:List (List UInt8)):Prop:=L.length<=1000/\∀i,i<L.length->(L.getD i []).length<=1000
def r_l01Fields:Rl:=⟨List (List UInt8),fun L=>[strS L],fun L=>.bys (fldB L),FldSm⟩
def k_l01Fields:Con:=.rel r_l01Fields
def A_l01Fields(L:List (List UInt8)):Nat->Ann
 |0=>.one {i:Nat//i<=L.length} (fun x=>⟨[(0,strS L),(3,.osl 0 0 (fldAt L x.1).length),(4,.int .i64 x.1)],[some (.bys 5 (fldAt L x.1))]⟩) (fun x=>L.length-x.1) [.arr 0] [.arr 3] (fun _=>noAnn)
 |_=>.none
noncomputable def b_l01Fields:Code:=Tryz.f163.body.getD .skip
theorem call_l01Fields:Callable Tryz.prog 163:=⟨_,Tryz.func163,by kernel_rfl,by kernel_rfl⟩
theorem v_l01Fields(L:List (List UInt8))(h:
  Rng IntKind.u8 (IntKind.u8.wrap (L.length:Int))/\(∃(x:{i:Nat//i<=L.length}),((EqL strRow L L)/\(0=0/\1=(fldAt L x.val).length)/\(0:Int)=(x.val:Int)/\True)/\List.map ofI [IntKind.u8.wrap (L.length:Int)]=
  fldAt L x.val/\True)/\∀(x:{i:Nat//i<=L.length}),(decide ((x.val:Int)<(L.length:Int))=true->InB (x.val:Int) L.length/\Rng IntKind.u8 (IntKind.u8.wrap (↑(L.getD (x.val:Int).toNat []).length:Int))/\(Le 1 1/\Le
  (fldAt L x.val).length (fldAt L x.val).length/\AppB (fldAt L x.val).length 1 1)/\InB (x.val:Int) L.length/\(Le ((fldAt L x.val).length+1) (List.take (fldAt L x.val).length (fldAt L x.val)++List.take 1 (List.drop 0 (List.map
  ofI [IntKind.u8.wrap (↑(L.getD (x.val:Int).toNat []).length:Int)]))).length/\AppB ((fldAt L x.val).length+1) (L.getD (x.val:Int).toNat []).length 1)/\Rng .i64 ((x.val:Int)+(1:Int))/\∃(y:{i:Nat//i<=L.length}),
  (((EqL strRow L L)/\(0=0/\(fldAt L x.val).length+1+(L.getD (x.val:Int).toNat []).length=(fldAt L y.val).length)/\(x.val:Int)+(1:Int)=(y.val:Int)/\True)/\List.take ((fldAt L x.val).length+1) (List.take (fldAt L
  x.val).length (fldAt L x.val)++List.take 1 (List.drop 0 (List.map ofI [IntKind.u8.wrap (↑(L.getD (x.val:Int).toNat []).length:Int)])))++L.getD (x.val:Int).toNat []=fldAt L y.val/\True)/\Lt (L.length-y.val) (L.length-
  x.val))/\(decide ((x.val:Int)<(L.length:Int))=false->Le (0+(fldAt L x.val).length) (fldAt L x.val).length/\List.take (fldAt L x.val).length (List.drop 0 (fldAt L x.val))=fldB L)):
  PureFn Tryz.prog 163 [strS L] (.bys (fldB L)):=
 vcR (code:=b_l01Fields) gN Tryz.func163 (by kernel_rfl) (by kernel_rfl) (A_l01Fields L) h (by kernel_rfl)
noncomputable def b_l03Sealed:Code:=Tryz.f162.body.getD .skip
theorem call_l03Sealed:Callable Tryz.prog 162:=⟨_,Tryz.func162,by kernel_rfl,by kernel_rfl⟩
theorem v_l03Sealed(l:List UInt8)(h:
  ∃(x:(r_check IntKind.i64).ι),(Le (0+l.length) l.length/\(List.take l.length (List.drop 0 l)=x/\True)/\Len31 x)/\∃(x_1:r_number.ι),(((↑(crc x):Int)=(x_1.fst:Int)/\((4:Int)=match x_1.snd with|true=>(4:Int)|false=>(2:Int))/\True)/\True)/\(Le l.length l.length/\AppB l.length (match x_1.snd with|true=>by4 x_1.fst|false=>by2 x_1.fst).length 1)/\Le (0+(l.length+(match x_1.snd with|true=>by4 x_1.fst|false=>by2 x_1.fst).length)) (List.take l.length l++match x_1.snd with|true=>by4 x_1.fst|false=>by2 x_1.fst).length/\List.take (l.length+(match x_1.snd with|true=>by4 x_1.fst|false=>by2 x_1.fst).length) (List.drop 0 (List.take l.length l++match x_1.snd with|true=>by4 x_1.fst|false=>by2 x_1.fst))=l++by4 (crc l)/\True/\True):
  EffFn Tryz.prog 162 [.osl 0 0 l.length] [some (.bys 5 l)] (.bys (l++by4 (crc l))) [none]:=
 vcE (code:=b_l03Sealed) (gC l01Check_ok call_l01Check (gC l01Number_ok call_l01Number gN)) Tryz.func162 (by kernel_rfl) (by kernel_rfl) noAnn (bs:=[false]) h (by kernel_rfl)
def SealB(n:Nat)(l:List UInt8):Prop:=n=l.length/\l.length<=1000000
def c_l03Sealed:List T->Heap->Option (T×Heap×Option Prop)
 | [.osl 0 0 n],[some (.bys 5 l)]=>some (.bys (l++by4 (crc l)),[none],some (SealB n l))
 |_,_=>none
def k_l03Sealed:Con:=.eff c_l03Sealed
theorem l03Sealed_ok:ConOk Tryz.prog 162 k_l03Sealed:=by
 intro args H res H' p h hp;unfold c_l03Sealed at h;split at h
 ·rename_i n l;simp only[Option.some.injEq,Prod.mk.injEq] at h;obtain⟨rfl,rfl,rfl⟩:=h;obtain⟨rfl,hl⟩:SealB n l:=hp;have e4:(by4 (crc l)).length=4:=rfl;refine v_l03Sealed l ⟨l,⟨by unfold Le;omega,⟨by rw[List.drop_zero,List.take_length],trivial⟩,by unfold Len31;omega⟩,(crc l,true),⟨⟨rfl,rfl,trivial⟩,trivial⟩,⟨Nat.le_refl _,?_,?_⟩,?_,?_,trivial,trivial⟩
  ·simp only[e4];omega
  ·simp only[e4];omega
  ·unfold Le;rw[List.take_length,List.length_append,Nat.zero_add];exact Nat.le_refl _
  ·rw[List.take_length,List.drop_zero];exact List.take_of_length_le (by rw[List.length_append];exact Nat.le_refl _)
 ·cases h
theorem fld_len(L:List (List UInt8))(h:∀i,i<L.length->(L.getD i []).length<=1000):∀i,i<=L.length->(fldAt L i).length<=1+1001*i
 |0,_=>by simp[fldAt]
 |i+1,hi=>by
  have h1:=fld_len L h i (by omega)
  have h2:=h i (by omega)
  simp only[fldAt,List.length_append,List.length_cons,List.length_nil];omega
theorem l01Fields_ok:ConOk Tryz.prog 163 k_l01Fields:=by
 rintro(L:List (List UInt8)) ⟨hL,hs⟩;refine v_l01Fields L ⟨u8_rng _,⟨⟨0,Nat.zero_le _⟩,⟨⟨rfl,rowsR _ _⟩,⟨rfl,rfl⟩,rfl,trivial⟩,rfl,trivial⟩,fun x=>⟨fun hc=> ?_,fun hc=> ?_⟩⟩
 ·have hlt:=lt_of_dec hc;have h1:=fld_len L hs x.val (by omega)
  have h2:=hs x.val hlt;rw[Int.toNat_natCast];have e:List.take (fldAt L x.val).length (fldAt L x.val)++List.take 1 (List.drop 0 (List.map ofI [IntKind.u8.wrap ((L.getD x.val []).length:Int)]))=fldAt L x.val++[u8b (L.getD x.val []).length]:=by
   rw[List.take_length];rfl
  rw[e];have e2:(fldAt L x.val++[u8b (L.getD x.val []).length]).length=(fldAt L x.val).length+1:=by simp
  refine⟨inB_nat hlt,u8_rng _,⟨Nat.le_refl _,Nat.le_refl _,by omega,by omega⟩,inB_nat hlt,⟨by unfold Le;omega,by omega,by omega⟩,add_rng hlt (by omega),⟨x.val+1,hlt⟩,⟨⟨⟨rfl,rowsR _ _⟩,⟨rfl,?_⟩,by simp only;omega,trivial⟩,?_,trivial⟩,Cnt.ext_lt hlt⟩
  ·simp only[fldAt,List.length_append,List.length_cons,List.length_nil]
  ·rw[←e2,List.take_length];rfl
 ·have hx:x.val=L.length:=by have:=x.2;have:=le_of_not hc;omega
  rw[hx];exact⟨by unfold Le;omega,by rw[List.drop_zero,List.take_length];rfl⟩
def pgB0(no:Int)(p:Pg):List UInt8:=([ofI 112,u8b no]++by2 p.lsn.toNat)++fldB p.sl
def pgBytes(no:Int)(p:Pg):List UInt8:=pgB0 no p++by4 (crc (pgB0 no p))
noncomputable def r_l03Bytes:Rl:=⟨Int×Pg,fun x=>[.int .i64 x.1,.agg x.2.ts],fun x=>.bys (pgBytes x.1 x.2),fun x=>PgP x.2⟩
noncomputable def k_l03Bytes:Con:=.rel r_l03Bytes
noncomputable def b_l03Bytes:Code:=Tryz.f194.body.getD .skip
theorem call_l03Bytes:Callable Tryz.prog 194:=⟨_,Tryz.func194,by kernel_rfl,by kernel_rfl⟩
theorem v_l03Bytes(no:Int)(p:Pg)(h:
  (Rng IntKind.u8 (112:Int)/\Rng IntKind.u8 (IntKind.u8.wrap no))/\∃(x:r_number.ι),((p.lsn=(x.fst:Int)/\((2:Int)=match x.snd with|true=>(4:Int)|false=>(2:Int))/\True)/\True)/\(Le 2 2/\AppB 2 (match x.snd with|true=>by4 x.fst|false=>by2 x.fst).length 1)/\∃(x_1:r_l01Fields.ι),(((p.sl.length=List.length x_1/\RowsEq p.sl.length (strRow p.sl) (strRow x_1))/\True)/\FldSm x_1)/\(Le (2+(match x.snd with|true=>by4 x.fst|false=>by2 x.fst).length) (List.take 2 (List.map ofI [(112:Int),IntKind.u8.wrap no])++match x.snd with|true=>by4 x.fst|false=>by2 x.fst).length/\AppB (2+(match x.snd with|true=>by4 x.fst|false=>by2 x.fst).length) (fldB x_1).length 1)/\SealB (2+(match x.snd with|true=>by4 x.fst|false=>by2 x.fst).length+(fldB x_1).length) (List.take (2+(match x.snd with|true=>by4 x.fst|false=>by2 x.fst).length) (List.take 2 (List.map ofI [(112:Int),IntKind.u8.wrap no])++match x.snd with|true=>by4 x.fst|false=>by2 x.fst)++fldB x_1)/\List.take (2+(match x.snd with|true=>by4 x.fst|false=>by2 x.fst).length) (List.take 2 (List.map ofI [(112:Int),IntKind.u8.wrap no])++match x.snd with|true=>by4 x.fst|false=>by2 x.fst)++fldB x_1++by4 (crc (List.take (2+(match x.snd with|true=>by4 x.fst|false=>by2 x.fst).length) (List.take 2 (List.map ofI [(112:Int),IntKind.u8.wrap no])++match x.snd with|true=>by4 x.fst|false=>by2 x.fst)++fldB x_1))=pgBytes no p):
  PureFn Tryz.prog 194 [.int .i64 no,.agg p.ts] (.bys (pgBytes no p)):=
 vcR (code:=b_l03Bytes) (gC l01Number_ok call_l01Number (gC l01Fields_ok call_l01Fields (gC l03Sealed_ok call_l03Sealed gN))) Tryz.func194 (by kernel_rfl) (by kernel_rfl) noAnn h (by kernel_rfl)
theorem l03Bytes_ok:ConOk Tryz.prog 194 k_l03Bytes:=by
 rintro⟨no,p⟩ ⟨h1,h2,h3,h4⟩;simp only at h1 h2 h3 h4;have hs:FldSm p.sl:=⟨by omega,fun i hi=>Nat.le_trans (h4 i hi) (by decide)⟩
 have hfl:=fld_len p.sl hs.2 p.sl.length (Nat.le_refl _);have hfl:(fldB p.sl).length<=5000:=by unfold fldB;omega
 have e2:(by2 p.lsn.toNat).length=2:=rfl;have e0:List.take 2 (List.map ofI [(112:Int),IntKind.u8.wrap no])=[ofI 112,u8b no]:=rfl;have e1:List.take (2+(by2 p.lsn.toNat).length) ([ofI 112,u8b no]++by2 p.lsn.toNat)=[ofI 112,u8b no]++by2 p.lsn.toNat:=List.take_of_length_le (by simp;omega)
 have key:List.take (2+(by2 p.lsn.toNat).length) (List.take 2 (List.map ofI [(112:Int),IntKind.u8.wrap no])++by2 p.lsn.toNat)++fldB p.sl=pgB0 no p:=by rw[e0,e1];rfl
 refine v_l03Bytes no p ⟨⟨(rng_u8 _).2 (by omega),u8_rng _⟩,(p.lsn.toNat,false),⟨⟨by simp only;omega,rfl,trivial⟩,trivial⟩,⟨Nat.le_refl _,by simp only[e2];omega,by simp only[e2];omega⟩,p.sl,⟨⟨⟨rfl,rowsR _ _⟩,trivial⟩,hs⟩,⟨?_,by simp only[e2];omega,by simp only[e2];omega⟩,?_,?_⟩
 ·unfold Le;rw[e0,List.length_append];exact Nat.le_refl _
 ·show SealB _ (List.take (2+(by2 p.lsn.toNat).length) (List.take 2 (List.map ofI [(112:Int),IntKind.u8.wrap no])++by2 p.lsn.toNat)++fldB p.sl);rw[key];have hl:(pgB0 no p).length=2+(by2 p.lsn.toNat).length+(fldB p.sl).length:=by unfold pgB0;simp;omega
  exact⟨hl.symm,by rw[hl,e2];omega⟩
 ·show List.take (2+(by2 p.lsn.toNat).length) (List.take 2 (List.map ofI [(112:Int),IntKind.u8.wrap no])++by2 p.lsn.toNat)++fldB p.sl++by4 (crc (List.take (2+(by2 p.lsn.toNat).length) (List.take 2 (List.map ofI [(112:Int),IntKind.u8.wrap no])++by2 p.lsn.toNat)++fldB p.sl))=_;rw[key];rfl
end Go.Proofs.YtndilbkocjlgpaaGreat

