/- A part of the proof. -/
import Derived.Test.YtndilbkocjlgpaaGreatX11X11rX12X13
namespace Go.Proofs.YtndilbkocjlgpaaGreat
set_option maxRecDepth 100000
open Go.SS

def A_putFC(l:List UInt8)(L:List (List UInt8)):Nat->Ann
 |0=>.one {i:Nat//i<=L.length} (fun x=>⟨[(0,.osl 1 0 (l++fldAt L x.1).length),(13,strS L),(14,.int .i64 L.length),(15,.int .i64 x.1)],[none,some (.bys 5 (l++fldAt L x.1))]⟩) (fun x=>L.length-x.1) [.arr 0,.arr 2] [.arr 0,.at_ 0] (fun _=>noAnn)
 |_=>.none
def k_putFieldsC:Con:=.reff ⟨List UInt8×List (List UInt8),fun x=>[.osl 0 0 x.1.length,strS x.2],fun x=>[some (.bys 5 x.1)],fun x=>.osl 1 0 (x.1++fldB x.2).length,fun x=>[none,some (.bys 5 (x.1++fldB x.2))],fun x=>x.1.length<=1000/\FldSm x.2⟩
noncomputable def b_putFieldsC:Code:=Tryz.f157.body.getD .skip
theorem call_putFieldsC:Callable Tryz.prog 157:=⟨_,Tryz.func157,by kernel_rfl,by kernel_rfl⟩
theorem v_putFieldsC(l:List UInt8)(L:List (List UInt8))(h:
  Rng IntKind.u8 (IntKind.u8.wrap (L.length:Int))/\(Le 1 1/\Le l.length l.length/\AppB l.length 1 1)/\(∃(x:{i:Nat//i<=L.length}),((0=0/\l.length+1=(l++fldAt L x.val).length)/\(EqL strRow L L)/\
  (L.length:Int)=(L.length:Int)/\(0:Int)=(x.val:Int)/\True)/\True/\List.take l.length l++List.take 1 (List.drop 0 (List.map ofI [IntKind.u8.wrap (L.length:Int)]))=l++fldAt L x.val/\True)/\∀(x:{i:Nat//i<=
  L.length}),(decide ((x.val:Int)<(L.length:Int))=true->InB (x.val:Int) L.length/\Rng IntKind.u8 (IntKind.u8.wrap (↑(L.getD (x.val:Int).toNat []).length:Int))/\(Le 1 1/\Le (l++fldAt L x.val).length (l++fldAt L
  x.val).length/\AppB (l++fldAt L x.val).length 1 1)/\(Le ((l++fldAt L x.val).length+1) (List.take (l++fldAt L x.val).length (l++fldAt L x.val)++List.take 1 (List.drop 0 (List.map ofI [IntKind.u8.wrap (↑(L.getD
  (x.val:Int).toNat []).length:Int)]))).length/\AppB ((l++fldAt L x.val).length+1) (L.getD (x.val:Int).toNat []).length 1)/\Rng .i64 ((x.val:Int)+(1:Int))/\∃(y:{i:Nat//i<=L.length}),(((0=0/\(l++fldAt L
  x.val).length+1+(L.getD (x.val:Int).toNat []).length=(l++fldAt L y.val).length)/\(EqL strRow L L)/\(L.length:Int)=(L.length:Int)/\(x.val:Int)+(1:Int)=(y.val:Int)/\True)/\True/\List.take ((l++fldAt L
  x.val).length+1) (List.take (l++fldAt L x.val).length (l++fldAt L x.val)++List.take 1 (List.drop 0 (List.map ofI [IntKind.u8.wrap (↑(L.getD (x.val:Int).toNat []).length:Int)])))++L.getD (x.val:Int).toNat []=l++
  fldAt L y.val/\True)/\Lt (L.length-y.val) (L.length-x.val))/\(decide ((x.val:Int)<(L.length:Int))=false->((0=0/\(l++fldAt L x.val).length=(l++fldB L).length)/\True)/\True/\l++fldAt L x.val=l++fldB L/\
  True)):
  EffFn Tryz.prog 157 [.osl 0 0 l.length,strS L] [some (.bys 5 l)] (.osl 1 0 (l++fldB L).length) [none,some (.bys 5 (l++fldB L))]:=
 vcG (code:=b_putFieldsC) gN Tryz.func157 (by kernel_rfl) (by kernel_rfl) (A_putFC l L) [[.arr 0,.arr 1]] h (by kernel_rfl)
theorem putFieldsC_ok:ConOk Tryz.prog 157 k_putFieldsC:=by
 rintro⟨l,L⟩ ⟨h1,h2,h3⟩;dsimp only at h1 h2 h3;have e0:List.take l.length l++List.take 1 (List.drop 0 (List.map ofI [IntKind.u8.wrap (L.length:Int)]))=l++fldAt L 0:=by rw[List.take_length];rfl
 refine v_putFieldsC l L ⟨u8_rng _,⟨Nat.le_refl _,Nat.le_refl _,by unfold AppB;omega⟩,⟨⟨0,Nat.zero_le _⟩,⟨⟨rfl,by simp[fldAt]⟩,⟨rfl,rowsR _ _⟩,rfl,rfl,trivial⟩,trivial,e0,trivial⟩,fun x=>⟨fun hc=> ?_,fun hc=> ?_⟩⟩
 ·have hlt:=lt_of_dec hc;have f1:=fld_len L h3 x.val (by omega)
  have f2:=h3 x.val hlt;rw[Int.toNat_natCast];have hl:(l++fldAt L x.val).length<=1100000:=by rw[List.length_append];omega
  have e:List.take (l++fldAt L x.val).length (l++fldAt L x.val)++List.take 1 (List.drop 0 (List.map ofI [IntKind.u8.wrap ((L.getD x.val []).length:Int)]))=l++fldAt L x.val++[u8b (L.getD x.val []).length]:=by
   rw[List.take_length];rfl
  rw[e];have e2:(l++fldAt L x.val++[u8b (L.getD x.val []).length]).length=(l++fldAt L x.val).length+1:=by rw[List.length_append];rfl
  refine⟨inB_nat hlt,u8_rng _,⟨Nat.le_refl _,Nat.le_refl _,by unfold AppB;omega⟩,⟨by rw[e2];exact Nat.le_refl _,by unfold AppB;omega⟩,i64_rng (by omega),⟨x.val+1,hlt⟩,⟨⟨⟨rfl,?_⟩,⟨rfl,rowsR _ _⟩,rfl,by dsimp only;omega,trivial⟩,trivial,?_,trivial⟩,Cnt.ext_lt hlt⟩
  ·simp only[fldAt,List.length_append,List.length_cons,List.length_nil];omega
  ·rw[←e2,List.take_length];simp only[fldAt,List.append_assoc]
 ·have hx:x.val=L.length:=by have:=x.2;have:=le_of_not hc;omega
  rw[hx];exact⟨⟨⟨rfl,rfl⟩,trivial⟩,trivial,rfl,trivial⟩
def k_sealedW:Con:=.reff ⟨List UInt8,fun l=>[.osl 0 0 l.length],fun l=>[some (.bys 5 l)],fun l=>.osl 1 0 (l++by4 (crc l)).length,fun l=>[none,some (.bys 5 (l++by4 (crc l)))],fun l=>l.length<=1000000⟩
noncomputable def b_sealedW:Code:=Tryz.f116.body.getD .skip
theorem call_sealedW:Callable Tryz.prog 116:=⟨_,Tryz.func116,by kernel_rfl,by kernel_rfl⟩
theorem v_sealedW(l:List UInt8)(h:
  ∃(x:(r_check IntKind.u32).ι),(Le (0+l.length) l.length/\(List.take l.length (List.drop 0 l)=x/\True)/\Len31 x)/\∃(x_1:Nat),((IntKind.i64.wrap (↑(crc x):Int)=(x_1:Int)/\True)/\x_1<4294967296)/\(Le l.length
  l.length/\AppB l.length 4 1)/\((0=0/\l.length+4=(l++by4 (crc l)).length)/\True)/\True/\List.take l.length l++by4 x_1=l++by4 (crc l)/\True):
  EffFn Tryz.prog 116 [.osl 0 0 l.length] [some (.bys 5 l)] (.osl 1 0 (l++by4 (crc l)).length) [none,some (.bys 5 (l++by4 (crc l)))]:=
 vcG (code:=b_sealedW) (gC check32_ok call_check32 (gC four_ok call_four gN)) Tryz.func116 (by kernel_rfl) (by kernel_rfl) noAnn [[.arr 0,.arr 1]] h (by kernel_rfl)
theorem sealedW_ok:ConOk Tryz.prog 116 k_sealedW:=by
 intro(l:List UInt8) (hl:l.length<=1000000);have e4:(by4 (crc l)).length=4:=rfl;have hc:=crc_lt l;refine v_sealedW l ⟨l,⟨by unfold Le;omega,⟨by rw[List.drop_zero,List.take_length],trivial⟩,by unfold Len31;omega⟩,crc l,⟨⟨?_,trivial⟩,hc⟩,⟨Nat.le_refl _,by unfold AppB;omega⟩,⟨⟨rfl,by rw[List.length_append,e4]⟩,trivial⟩,trivial,by rw[List.take_length],trivial⟩
 rw[IntKind.wrap_i64];omega
def k_pageBytes:Con:=.rmk ⟨Int×Pg,fun x=>[.int .i64 x.1,.agg x.2.ts],fun _=>[],fun x=>.osl 0 0 (pgBytes x.1 x.2).length,fun x=>[some (.bys 5 (pgBytes x.1 x.2))],fun x=>PgP x.2⟩
noncomputable def b_pageBytes:Code:=Tryz.f179.body.getD .skip
theorem call_pageBytes:Callable Tryz.prog 179:=⟨_,Tryz.func179,by kernel_rfl,by kernel_rfl⟩
theorem v_pageBytes(no:Int)(p:Pg)(h:
  Nn (8:Int)/\(Rng IntKind.u8 (112:Int)/\Rng IntKind.u8 (IntKind.u8.wrap no)/\Rng IntKind.u8 (IntKind.u8.wrap (p.lsn.fdiv (256:Int)))/\Rng IntKind.u8 (IntKind.u8.wrap p.lsn))/\∃(x:(List UInt8×List (List UInt8))),
  (((0=0/\4=x.fst.length)/\(EqL strRow p.sl x.snd)/\True)/\(List.map ofI [(112:Int),IntKind.u8.wrap no,IntKind.u8.wrap (p.lsn.fdiv (256:Int)),IntKind.u8.wrap p.lsn]=x.fst/\True)/\x.fst.length<=1000/\FldSm x.snd)
  /\∃(x_1:(List UInt8)),(((0=0/\(x.fst++fldB x.snd).length=List.length x_1)/\True)/\(x.fst++fldB x.snd=x_1/\True)/\List.length x_1<=1000000)/\((0=0/\(x_1++by4 (crc x_1)).length=(pgBytes no p).length)/\
  True)/\x_1++by4 (crc x_1)=pgBytes no p/\True):
  EffFn Tryz.prog 179 [.int .i64 no,.agg p.ts] [] (.osl 0 0 (pgBytes no p).length) [some (.bys 5 (pgBytes no p))]:=
 vcG (code:=b_pageBytes) (gC putFieldsC_ok call_putFieldsC (gC sealedW_ok call_sealedW gN)) Tryz.func179 (by kernel_rfl) (by kernel_rfl) noAnn [[.arr 3]] h (by kernel_rfl)
theorem pageBytes_ok:ConOk Tryz.prog 179 k_pageBytes:=by
 rintro⟨no,p⟩ ⟨h1,h2,h3,h4⟩;dsimp only at h1 h2 h3 h4;have hs:FldSm p.sl:=⟨by omega,fun i hi=>Nat.le_trans (h4 i hi) (by decide)⟩
 have hfl:=fld_len p.sl hs.2 p.sl.length (Nat.le_refl _);have hfl:(fldB p.sl).length<=5000:=by unfold fldB;omega
 have e:List.map ofI [(112:Int),IntKind.u8.wrap no,IntKind.u8.wrap (p.lsn.fdiv 256),IntKind.u8.wrap p.lsn]=[ofI 112,u8b no]++by2 p.lsn.toNat:=by
  unfold by2;rw[show((p.lsn.toNat:Nat):Int)=p.lsn by omega,Int.fdiv_one]
  rfl
 refine⟨v_pageBytes no p ⟨by unfold Nn;omega,⟨(rng_u8 _).2 (by omega),u8_rng _,u8_rng _,u8_rng _⟩,([ofI 112,u8b no]++by2 p.lsn.toNat,p.sl),⟨⟨⟨rfl,rfl⟩,⟨rfl,rowsR _ _⟩,trivial⟩,⟨e,trivial⟩,by simp[by2],hs⟩,pgB0 no p,⟨⟨⟨rfl,rfl⟩,trivial⟩,⟨rfl,trivial⟩,?_⟩,⟨⟨rfl,rfl⟩,trivial⟩,rfl,trivial⟩,rfl,plain_cons trivial plain_nil⟩
 unfold pgB0;rw[List.length_append,List.length_append];have e2:(by2 p.lsn.toNat).length=2:=rfl;simp only[List.length_cons,List.length_nil];omega
def k_NewPageW:Con:=.rmk ⟨Unit,fun _=>[],fun _=>[],fun _=>.agg (Pg.tm ⟨0,[[],[],[],[]]⟩ 0),fun _=>[strA [[],[],[],[]]],fun _=>True⟩
noncomputable def b_NewPageW:Code:=Tryz.f145.body.getD .skip
theorem call_NewPageW:Callable Tryz.prog 145:=⟨_,Tryz.func145,by kernel_rfl,by kernel_rfl⟩
theorem v_NewPageW(h:
  (Nn (4:Int)/\LeI (4:Int) (4:Int)/\sizeB 16 4 140737488355328/\Lt 4 9223372036854775808)/\(((0:Int)=(0:Int)/\(0=0/\4=4)/\True)/\True)/\(4=4/\RowsEq 4 (fun(x:Nat)=>[T.str []]) (strRow [[],[],[],
  []]))/\True):
  EffFn Tryz.prog 145 [] [] (.agg (Pg.tm ⟨0,[[],[],[],[]]⟩ 0)) [strA [[],[],[],[]]]:=
 vcG (code:=b_NewPageW) gN Tryz.func145 (by kernel_rfl) (by kernel_rfl) noAnn [[.arr 1]] h (by kernel_rfl)
theorem NewPageW_ok:ConOk Tryz.prog 145 k_NewPageW:=fun _ _=>⟨v_NewPageW ⟨⟨by unfold Nn;omega,by unfold LeI;omega,by unfold sizeB;omega,by unfold Lt;omega⟩,⟨⟨rfl,⟨rfl,rfl⟩,trivial⟩,trivial⟩,⟨rfl,rows_new⟩,trivial⟩,rfl,plain_str _⟩
def k_fieldsW:Con:=.reff ⟨List UInt8×Bool,fun _=>[.ref 0 0 0],fun x=>[rdr x.1 x.2],fun x=>.osl 1 0 (fsEnd x.1 x.2).out.length,fun x=>[rdr (fsEnd x.1 x.2).l (fsEnd x.1 x.2).fl,strA (fsEnd x.1 x.2).out],fun _=>True⟩
noncomputable def b_fieldsW:Code:=Tryz.f168.body.getD .skip
theorem call_fieldsW:Callable Tryz.prog 168:=⟨_,Tryz.func168,by kernel_rfl,by kernel_rfl⟩
theorem v_fieldsW(l:List UInt8)(fl:Bool)(h:
  (∃(x:{i:Nat//i<=(numR l).toNat}),((0=0/\0=0)/\(0=0/\0=(fsN l fl x.val).out.length)/\numR l=numR l/\(0:Int)=(x.val:Int)/\True)/\(1=1/\1=1/\List.drop 1 l=(fsN l fl x.val).l/\(fl||l.isEmpty)
  =(fsN l fl x.val).fl/\True)/\(0=(fsN l fl x.val).out.length/\RowsEq 0 (fun(k:Nat)=>List.take 1 (List.drop (k*1) [])) (strRow (fsN l fl x.val).out))/\True)/\∀(x:{i:Nat//i<=(numR l).toNat}),(decide
  ((x.val:Int)<numR l)=true->Small47 (numR (fsN l fl x.val).l)/\(Le 1 1/\Le (fsN l fl x.val).out.length (fsN l fl x.val).out.length/\AppB (fsN l fl x.val).out.length 1 16)/\Rng .i64 ((x.val:Int)+(1:Int))/\∃(y:{i:
  Nat//i<=(numR l).toNat}),(((0=0/\0=0)/\(0=0/\(fsN l fl x.val).out.length+1=(fsN l fl y.val).out.length)/\numR l=numR l/\(x.val:Int)+(1:Int)=(y.val:Int)/\True)/\(1=1/\1=1/\restR (List.drop 1 (fsN
  l fl x.val).l) (numR (fsN l fl x.val).l)=(fsN l fl y.val).l/\((fsN l fl x.val).fl||(fsN l fl x.val).l.isEmpty||big (List.drop 1 (fsN l fl x.val).l) (numR (fsN l fl x.val).l))=(fsN l fl y.val).fl/\True)/\((fsN l fl
  x.val).out.length+1=(fsN l fl y.val).out.length/\RowsEq ((fsN l fl x.val).out.length+1) (appRow (strRow (fsN l fl x.val).out) (fsN l fl x.val).out.length fun(k:Nat)=>List.take 1 (List.drop (k*1) [T.str (takeR
  (List.drop 1 (fsN l fl x.val).l) (numR (fsN l fl x.val).l))])) (strRow (fsN l fl y.val).out))/\True)/\Lt ((numR l).toNat-y.val) ((numR l).toNat-x.val))/\(decide ((x.val:Int)<numR l)=false->((0=0/\(fsN l fl
  x.val).out.length=(fsEnd l fl).out.length)/\True)/\(1=1/\1=1/\(fsN l fl x.val).l=(fsEnd l fl).l/\(fsN l fl x.val).fl=(fsEnd l fl).fl/\True)/\(EqL strRow (fsN l fl x.val).out (fsEnd l fl).out)/\True)):
  EffFn Tryz.prog 168 [.ref 0 0 0] [rdr l fl] (.osl 1 0 (fsEnd l fl).out.length) [rdr (fsEnd l fl).l (fsEnd l fl).fl,strA (fsEnd l fl).out]:=
 vcG (code:=b_fieldsW) (gC num_ok call_num (gC take_ok call_take gN)) Tryz.func168 (by kernel_rfl) (by kernel_rfl) (A_fields l fl) [[.box 0,.arr 1]] h (by kernel_rfl)
theorem fieldsW_ok:ConOk Tryz.prog 168 k_fieldsW:=by
 rintro⟨l,fl⟩ _;have hn:=numR_in l;refine v_fieldsW l fl ⟨⟨⟨0,Nat.zero_le _⟩,⟨⟨rfl,rfl⟩,⟨rfl,rfl⟩,rfl,rfl,trivial⟩,⟨rfl,rfl,rfl,rfl,trivial⟩,⟨rfl,rows0 _ _⟩,trivial⟩,fun x=>⟨fun hc=> ?_,fun hc=> ?_⟩⟩
 ·have hlt:(x.val:Int)<numR l:=of_decide_eq_true hc;have hlen:=fs_len l fl x.val;have hm:=numR_in (fsN l fl x.val).l;exact⟨⟨hm.1,by omega⟩,⟨Nat.le_refl _,Nat.le_refl _,by omega,by omega⟩,i64_rng (by omega),⟨x.val+1,by omega⟩,⟨⟨⟨rfl,rfl⟩,⟨rfl,(congrArg (· +1) hlen).trans (fs_len l fl (x.val+1)).symm⟩,rfl,by simp only;omega,trivial⟩,⟨rfl,rfl,rfl,rfl,trivial⟩,⟨(congrArg (· +1) hlen).trans (fs_len l fl (x.val+1)).symm,str_app _ _⟩,trivial⟩,by unfold Lt;simp only;omega⟩
 ·have hge:¬ (x.val:Int)<numR l:=of_decide_eq_false hc;have hx:=x.2;have he:x.val=(numR l).toNat:=by omega
  rw[he];exact⟨⟨⟨rfl,rfl⟩,trivial⟩,⟨rfl,rfl,rfl,rfl,trivial⟩,⟨rfl,rowsR _ _⟩,trivial⟩
noncomputable def k_ReadPageW:Con:=.rmk ⟨Int×List UInt8,fun x=>[.int .i64 x.1,.bys x.2],fun _=>[],fun x=>.tup [.agg ((rdPgI x.1 x.2).tm 0),.int .i64 (rdCode x.1 x.2)],fun x=>[strA (rdPgI x.1 x.2).sl],fun x=>RdB x.2⟩
noncomputable def b_ReadPageW:Code:=Tryz.f146.body.getD .skip
theorem call_ReadPageW:Callable Tryz.prog 146:=⟨_,Tryz.func146,by kernel_rfl,by kernel_rfl⟩
theorem v_ReadPageW(no:Int)(b:List UInt8)(h:
  (decide ((b.length:Int)>(65536:Int))=true->((((0:Int)=(rdPgI no b).lsn/\(0=0/\0=(rdPgI no b).sl.length)/\True)/\(2:Int)=rdCode no b/\True)/\True)/\(0=(rdPgI no b).sl.length/\RowsEq 0 (fun(x:Nat)=>
  []) (strRow (rdPgI no b).sl))/\True)/\(decide ((b.length:Int)>(65536:Int))=false->∃(x:r_unsealed.ι),((b=x/\True)/\Len31 x)/\((!unsOK x)=true->((((0:Int)=(rdPgI no b).lsn/\(0=0/\0=(rdPgI no
  b).sl.length)/\True)/\(8:Int)=rdCode no b/\True)/\True)/\(0=(rdPgI no b).sl.length/\RowsEq 0 (fun(x:Nat)=>[]) (strRow (rdPgI no b).sl))/\True)/\((!unsOK x)=false->Small47 (4:Int)/\InC (2:Int) (takeR
  (unsB x) (4:Int)).length/\∃(x_1:r_big.ι),((List.drop 2 (takeR (unsB x) (4:Int))=x_1/\True)/\Len4 x_1)/\∃(x_2:(List UInt8×Bool)),(((0=0/\0=0)/\True)/\((1=1/\RowsEq 1 (fun(x_3:Nat)=>[T.bys (restR
  (unsB x) (4:Int)),T.bool (false||big (unsB x) (4:Int))]) fun(x:Nat)=>[T.bys x_2.fst,T.bool x_2.snd])/\True)/\True)/\((!(!(fsEnd x_2.fst x_2.snd).fl&&(fsEnd x_2.fst x_2.snd).l.isEmpty))=false->InB (0:Int)
  (takeR (unsB x) (4:Int)).length)/\((!(!(fsEnd x_2.fst x_2.snd).fl&&(fsEnd x_2.fst x_2.snd).l.isEmpty)||(↑((takeR (unsB x) (4:Int)).getD 0 (0:UInt8)).toNat:Int) !=(112:Int))=false->InB (1:Int) (takeR (unsB x)
  (4:Int)).length)/\∃(x_3:r_PageOK.ι),((!(!(fsEnd x_2.fst x_2.snd).fl&&(fsEnd x_2.fst x_2.snd).l.isEmpty)||(↑((takeR (unsB x) (4:Int)).getD 0 (0:UInt8)).toNat:Int) !=(112:Int)||IntKind.i64.wrap (↑((takeR (unsB
  x) (4:Int)).getD 1 (0:UInt8)).toNat:Int) !=no)=false->Le (0+(fsEnd x_2.fst x_2.snd).out.length) (fsEnd x_2.fst x_2.snd).out.length/\(((↑(be x_1):Int)=x_3.lsn/\(EqL strRow (fsEnd x_2.fst x_2.snd).out x_3.sl)/\
  True)/\True)/\PgB x_3)/\((!(!(fsEnd x_2.fst x_2.snd).fl&&(fsEnd x_2.fst x_2.snd).l.isEmpty)||(↑((takeR (unsB x) (4:Int)).getD 0 (0:UInt8)).toNat:Int) !=(112:Int)||IntKind.i64.wrap (↑((takeR (unsB x) (4:
  Int)).getD 1 (0:UInt8)).toNat:Int) !=no|| !pgOK x_3)=true->((((0:Int)=(rdPgI no b).lsn/\(0=0/\0=(rdPgI no b).sl.length)/\True)/\(3:Int)=rdCode no b/\True)/\True)/\(0=(rdPgI no b).sl.length/\RowsEq 0
  (fun(x:Nat)=>[]) (strRow (rdPgI no b).sl))/\True)/\((!(!(fsEnd x_2.fst x_2.snd).fl&&(fsEnd x_2.fst x_2.snd).l.isEmpty)||(↑((takeR (unsB x) (4:Int)).getD 0 (0:UInt8)).toNat:Int) !=(112:Int)||IntKind.i64.wrap
  (↑((takeR (unsB x) (4:Int)).getD 1 (0:UInt8)).toNat:Int) !=no|| !pgOK x_3)=false->((((↑(be x_1):Int)=(rdPgI no b).lsn/\(0=0/\(fsEnd x_2.fst x_2.snd).out.length=(rdPgI no b).sl.length)/\True)/\(0:Int)=
  rdCode no b/\True)/\True)/\(EqL strRow (fsEnd x_2.fst x_2.snd).out (rdPgI no b).sl)/\True)))):
  EffFn Tryz.prog 146 [.int .i64 no,.bys b] [] (.tup [.agg ((rdPgI no b).tm 0),.int .i64 (rdCode no b)]) [strA (rdPgI no b).sl]:=
 vcG (code:=b_ReadPageW) (gC unsealed_ok call_unsealed (gC take_ok call_take (gC big_ok call_big (gC fieldsW_ok call_fieldsW (gC isDone_ok call_isDone (gC PageOKi_ok call_PageOKi gN)))))) Tryz.func146 (by kernel_rfl) (by kernel_rfl) noAnn [[.nilS 0 [0,1] 0 1,.arr 4],[.arr 2],[.nilS 0 [0,1] 0 1,.arr 1]] h (by kernel_rfl)
theorem ReadPageW_ok:ConOk Tryz.prog 146 k_ReadPageW:=by
 rintro⟨no,b⟩ (hb:b.length<=1000);have hl:∀(x:List UInt8),(takeR x 4).length=4:=fun x=>by
  unfold takeR;split
  ·exact List.length_replicate
  ·rename_i h;have:¬4>(x.length:Int):=by simpa[big] using h
   rw[List.length_take,show(4:Int).toNat=4 from rfl]
   omega
 refine⟨v_ReadPageW no b ⟨fun h=> ?_,fun _=>⟨b,⟨⟨rfl,trivial⟩,Nat.le_trans hb (by decide)⟩,fun h=> ?_,fun h=>⟨⟨by omega,by omega⟩,⟨by omega,by rw[hl];omega⟩,(takeR (unsB b) 4).drop 2,⟨⟨rfl,trivial⟩,by unfold Len4;rw[List.length_drop,hl];omega⟩,
  (restR (unsB b) 4,false||big (unsB b) 4),(by repeat' first|exact trivial|exact rfl|exact rowsR _ _|exact famR _|exact row0|exact le0 _|exact Nat.le_refl _|exact Nat.zero_le _|refine And.intro ?_ ?_),fun _=>⟨by omega,by rw[hl];omega⟩,fun _=>⟨by omega,by rw[hl];omega⟩,rpQ (unsB b),fun _=>⟨le0 _,⟨⟨rfl,⟨rfl,rowsR _ _⟩,trivial⟩,trivial⟩,?_⟩,fun g=> ?_,fun g=> ?_⟩⟩⟩,rfl,plain_str _⟩
 ·have:=of_decide_eq_true h;omega
 ·have hu:unsOK b=false:=by simpa using h
  have e2:(rdPg no b).2=false:=by unfold rdPg;rw[hu];rfl
  have e1:rdPgI no b=⟨0,[]⟩:=by unfold rdPgI;rw[e2];rfl
  have e3:rdCode no b=8:=by unfold rdCode;rw[hu];rfl
  rw[e1,e3];exact(by repeat' first|exact trivial|exact rfl|exact rowsR _ _|exact famR _|exact row0|exact le0 _|exact Nat.le_refl _|exact Nat.zero_le _|refine And.intro ?_ ?_)
 ·show(fsEnd (restR (unsB b) 4) (false||big (unsB b) 4)).out.length<1000000000000;unfold fsEnd;rw[fs_len];have:=numR_in (restR (unsB b) 4);omega
 ·have hu:unsOK b=true:=by simpa using h
  have hq:=(rp_ok no b hu).1;have e2:(rdPg no b).2=false:=by
   have g:(rpBad no (unsB b)|| !pgOK (rpQ (unsB b)))=true:=g;rw[g] at hq;exact(Bool.not_eq_true' _).mp hq.symm
  have e1:rdPgI no b=⟨0,[]⟩:=by unfold rdPgI;rw[e2];rfl
  have e3:rdCode no b=3:=by unfold rdCode;rw[hu,e2];rfl
  rw[e1,e3];exact(by repeat' first|exact trivial|exact rfl|exact rowsR _ _|exact famR _|exact row0|exact le0 _|exact Nat.le_refl _|exact Nat.zero_le _|refine And.intro ?_ ?_)
 ·have hu:unsOK b=true:=by simpa using h
  have hq:=rp_ok no b hu;have e2:(rdPg no b).2=true:=by
   have g:(rpBad no (unsB b)|| !pgOK (rpQ (unsB b)))=false:=g;rw[g] at hq;exact(Bool.not_eq_false' _).mp hq.1.symm
  have e1:rdPgI no b=rpQ (unsB b):=by unfold rdPgI;rw[e2,hq.2 e2];rfl
  have e3:rdCode no b=0:=by unfold rdCode;rw[hu,e2];rfl
  rw[e1,e3];exact(by repeat' first|exact trivial|exact rfl|exact rowsR _ _|exact famR _|exact row0|exact le0 _|exact Nat.le_refl _|exact Nat.zero_le _|refine And.intro ?_ ?_)
def DkB(x:Dsk×Nat):Prop:=1+x.2<x.1.sec.length/\x.1.sec.length<=1048576/\x.1.cache.length<=1048576/\(rdAt x.1 (1+x.2)).length<=1000
noncomputable def k_dkPage:Con:=.rmk ⟨Dsk×Nat,fun x=>[.bref x.1.ts,.int .i64 x.2],fun _=>[],fun x=>.tup [.agg ((pgAtI x.1 x.2).1.tm 0),.bool (pgAtI x.1 x.2).2],fun x=>[strA (pgAtI x.1 x.2).1.sl],DkB⟩
noncomputable def b_dkPage:Code:=Tryz.f82.body.getD .skip
theorem call_dkPage:Callable Tryz.prog 82:=⟨_,Tryz.func82,by kernel_rfl,by kernel_rfl⟩
theorem v_dkPage(d:Dsk)(no:Nat)(h:
  Rng .i64 ((1:Int)+(no:Int))/\∃(x:r_read.ι),(((EqD d x.fst)/\(1:Int)+(no:Int)=(x.snd:Int)/\True)/\AtB x)/\((rdAt x.fst x.snd==[])=true->∃(x:Unit),(True/\True)/\((((0:Int)=(pgAtI d no).fst.lsn/\(0
  =0/\4=(pgAtI d no).fst.sl.length)/\True)/\true=(pgAtI d no).snd/\True)/\True)/\(4=(pgAtI d no).fst.sl.length/\RowsEq 4 (strRow [[],[],[],[]]) (strRow (pgAtI d no).fst.sl))/\True)/\((rdAt x.fst x.snd==[])=
  false->Lt (rdAt x.fst x.snd).length 140737488355329/\∃(x_1:(Int×List UInt8)),(((no:Int)=x_1.fst/\rdAt x.fst x.snd=x_1.snd/\True)/\RdB x_1.snd)/\((((rdPgI x_1.fst x_1.snd).lsn=(pgAtI d no).fst.lsn/\(0=0/\
  (rdPgI x_1.fst x_1.snd).sl.length=(pgAtI d no).fst.sl.length)/\True)/\(rdCode x_1.fst x_1.snd==(0:Int))=(pgAtI d no).snd/\True)/\True)/\(EqL strRow (rdPgI x_1.fst x_1.snd).sl (pgAtI d no).fst.sl)/\True)):
  EffFn Tryz.prog 82 [.bref d.ts,.int .i64 no] [] (.tup [.agg ((pgAtI d no).1.tm 0),.bool (pgAtI d no).2]) [strA (pgAtI d no).1.sl]:=
 vcG (code:=b_dkPage) (gC readi_ok call_readi (gC NewPageW_ok call_NewPageW (gC ReadPageW_ok call_ReadPageW gN))) Tryz.func82 (by kernel_rfl) (by kernel_rfl) noAnn [[.arr 1]] h (by kernel_rfl)
theorem dkPage_ok:ConOk Tryz.prog 82 k_dkPage:=by
 rintro⟨d,no⟩ ⟨h1,h2,h3,h4⟩;dsimp only at h1 h2 h3 h4;refine⟨v_dkPage d no ⟨i64_rng (by omega),(d,1+no),⟨⟨eqD _,by simp only;omega,trivial⟩,h1,by simp only;omega⟩,fun h=>⟨(),⟨trivial,trivial⟩,?_⟩,fun h=>⟨by unfold Lt;simp only;omega,((no:Int),rdAt d (1+no)),⟨⟨rfl,rfl,trivial⟩,h4⟩,?_⟩⟩,rfl,plain_str _⟩
 ·have h:rdAt d (1+no)=[]:=by simpa using h
  have e:pgAtI d no=(⟨0,[[],[],[],[]]⟩,true):=by unfold pgAtI;rw[if_pos h]
  rw[e];exact(by repeat' first|exact trivial|exact rfl|exact rowsR _ _|exact famR _|exact row0|exact le0 _|exact Nat.le_refl _|exact Nat.zero_le _|refine And.intro ?_ ?_)
 ·have h:rdAt d (1+no)≠[]:=by simpa using h
  have e:pgAtI d no=(rdPgI no (rdAt d (1+no)),(rdPg no (rdAt d (1+no))).2):=by unfold pgAtI;rw[if_neg h]
  rw[e];exact⟨⟨⟨(by repeat' first|exact trivial|exact rfl|exact rowsR _ _|exact famR _|exact row0|exact le0 _|exact Nat.le_refl _|exact Nat.zero_le _|refine And.intro ?_ ?_),rdCode_eq _ _,trivial⟩,trivial⟩,⟨rfl,rowsR _ _⟩,trivial⟩
end Go.Proofs.YtndilbkocjlgpaaGreat

namespace Go.Proofs.YtndilbkocjlgpaaGreat
set_option maxRecDepth 100000
open Go.SS

structure SInv(s:Sto):Prop where
 sm:SmS s
 c:s.d.cache.length<=500
 pd:PdB s.d
 n69:s.d.sec.length=69
 su:0<=s.sure/\s.sure<=s.log.length
 l60:s.log.length<=60
 rc:areOK s.log=true
 fr3:s.fr.length<=3
 frp:∀i,i<s.fr.length->0<=(s.fr.getD i default).no/\(s.fr.getD i default).no<=7/\PgP (s.fr.getD i default).pg/\(s.fr.getD i default).pg.lsn<=s.log.length
 hd:0<=s.hand/\s.hand<=2
 pg:∀no,no<8->(pgAt s.d no).2=true/\(rdAt s.d (1+no)).length<=1000
theorem SInv.flu{s:Sto}(h:SInv s){lsn:Int}(hl:lsn<=s.log.length):FluB s lsn:=
 ⟨h.sm.1,by have:=h.c;omega,h.pd,h.n69,h.su.1,h.su.2,h.l60,hl,fun i hi=>by
  obtain⟨a,b⟩:=areOK_iff.1 h.rc i hi;exact⟨b,rec_sm a⟩⟩
theorem sto_inv{s:Sto}(h:stoOK s=true)(hm:SmS s):SInv s:=by
 obtain⟨⟨h1,h2,h3⟩,_,h4,h5,h6⟩:=(sto_split s).1 h;obtain⟨c1,c2,_,_,c5⟩:=(hdr_split s).1 h1;have hf:=sto_flu (lsn:=0) h (by omega) hm
 have h3:=inR_t h3;have h6:=inR_t h6;unfold frmsOK at h5;simp only[Bool.and_eq_true,Bool.not_eq_true',anyI_no,decide_eq_true_eq] at h5;refine⟨hm,c1.2.2.1,hf.2.2.1,c2,h3,c5,h2,by omega,fun i hi=> ?_,h6,fun no hn=>⟨?_,?_⟩⟩
 ·have hb:=h5.1 i hi;unfold frmBad at hb;simp only[Bool.or_eq_false_iff,Bool.not_eq_false',decide_eq_false_iff_not] at hb;obtain⟨⟨⟨⟨⟨b1,_⟩,b3⟩,b4⟩,_⟩,_⟩:=hb;have b1:=inR_t b1;have b3:PgP (s.fr.getD i default).pg:=of_decide_eq_true b3;exact⟨b1.1,b1.2,b3,by omega⟩
 ·have hb:=h4 no hn;unfold badPg at hb;simp only[Bool.or_eq_false_iff,Bool.not_eq_false'] at hb;exact hb.1
 ·have:=rdAt_le c1 (at_:=1+no) (by omega)
  omega
def syn5(d:Dsk):Dsk×Bool:=if 500<=d.cache.length then synD d else(d,true)
def clF(f:Frm):Frm:=⟨f.no,f.pg,false,0⟩
def wrF(a:Sto)(k:Nat):Sto:=⟨wrD a.d (1+(a.fr.getD k default).no) (pgBytes (a.fr.getD k default).no (a.fr.getD k default).pg),a.ep,a.log,a.sure,a.fr.set k (clF (a.fr.getD k default)),a.hand⟩
def outS(s:Sto)(k:Nat):Sto×Bool:=if(s.fr.getD k default).dirty=true then
  if(fluS s (s.fr.getD k default).pg.lsn).2=true then
   if(syn5 (fluS s (s.fr.getD k default).pg.lsn).1.d).2=true then(wrF ((fluS s (s.fr.getD k default).pg.lsn).1.sd (syn5 (fluS s (s.fr.getD k default).pg.lsn).1.d).1) k,true)
   else((fluS s (s.fr.getD k default).pg.lsn).1.sd (syn5 (fluS s (s.fr.getD k default).pg.lsn).1.d).1,false)
  else((fluS s (s.fr.getD k default).pg.lsn).1,false)
 else(s,true)
def k_putOut:Con:=.reff ⟨Sto×Nat×Nat,fun x=>[.ref 0 0 0,.int .i64 x.2.1],fun x=>x.1.bx x.2.2,fun x=>.bool (outS x.1 x.2.1).2,fun x=>(outS x.1 x.2.1).1.bxY x.2.2,fun x=>SInv x.1/\x.2.1<x.1.fr.length⟩
noncomputable def b_putOut:Code:=Tryz.f138.body.getD .skip
theorem call_putOut:Callable Tryz.prog 138:=⟨_,Tryz.func138,by kernel_rfl,by kernel_rfl⟩
theorem v_putOut(s:Sto)(k:Nat)(v:Nat)(h:
  InB (k:Int) s.fr.length/\Lt (0+(k:Int).toNat) s.fr.length/\((!(s.fr.getD (0+(k:Int).toNat) default).dirty)=true->(true=(outS s k).snd/\True)/\(1=1/\1=1/\EqC s (outS s k).fst)/\(EqL strRow s.d.sec (outS s
  k).fst.d.sec)/\True/\True/\(EqL recRow s.log (outS s k).fst.log)/\(v=v/\s.fr.length=(outS s k).fst.fr.length/\FamEq s.fr.length (famRow s.fr) (famRow (outS s k).fst.fr))/\(EqL pendRow s.d.cache (outS s k).fst.d.cache)/\
  (EqL intRow s.d.keep (outS s k).fst.d.keep)/\True)/\((!(s.fr.getD (0+(k:Int).toNat) default).dirty)=false->Lt (0+(k:Int).toNat) s.fr.length/\∃(x:(Sto×Int×Nat)),(((0=0/\0=0)/\(s.fr.getD (0+(k:Int).toNat)
  default).pg.lsn=x.snd.fst/\True)/\((1=1/\1=1/\EqC s x.fst)/\EqH (v) (x.snd.snd) s x.fst)/\FluB x.fst x.snd.fst)/\∃(x_1:(Sto×Nat)),((!(fluS x.fst x.snd.fst).snd)=false->decide ((↑(fluS x.fst
  x.snd.fst).fst.d.cache.length:Int)≥(500:Int))=true->((0=0/\0=0)/\True)/\((1=1/\1=1/\EqC (fluS x.fst x.snd.fst).fst x_1.fst)/\EqH (x.snd.snd) (x_1.snd) (fluS x.fst x.snd.fst).fst x_1.fst)/\SmD x_1.fst.d/\
  PdB x_1.fst.d)/\((!(fluS x.fst x.snd.fst).snd)=false->decide ((↑(fluS x.fst x.snd.fst).fst.d.cache.length:Int)≥(500:Int))=true->((!(fluS x.fst x.snd.fst).snd||decide ((↑(fluS x.fst x.snd.fst).fst.d.cache.length:
  Int)≥(500:Int))&& !(synD x_1.fst.d).snd)=true->(false=(outS s k).snd/\True)/\(1=1/\1=1/\(0=0/\(synD x_1.fst.d).fst.sec.length=(outS s k).fst.d.sec.length)/\(0=0/\(synD x_1.fst.d).fst.cache.length=(outS
  s k).fst.d.cache.length)/\(synD x_1.fst.d).fst.armed=(outS s k).fst.d.armed/\(0=0/\(synD x_1.fst.d).fst.keep.length=(outS s k).fst.d.keep.length)/\x_1.fst.ep=(outS s k).fst.ep/\(0=0/\x_1.fst.log.length=(outS s
  k).fst.log.length)/\x_1.fst.sure=(outS s k).fst.sure/\(0=0/\x_1.fst.fr.length=(outS s k).fst.fr.length)/\x_1.fst.hand=(outS s k).fst.hand/\True)/\(EqL strRow (synD x_1.fst.d).fst.sec (outS s k).fst.d.sec)/\True/\
  True/\(EqL recRow x_1.fst.log (outS s k).fst.log)/\(x_1.snd=v/\x_1.fst.fr.length=(outS s k).fst.fr.length/\FamEq x_1.fst.fr.length (famRow x_1.fst.fr) (famRow (outS s k).fst.fr))/\(EqL pendRow (synD x_1.fst.d).fst.cache
  (outS s k).fst.d.cache)/\(EqL intRow (synD x_1.fst.d).fst.keep (outS s k).fst.d.keep)/\True)/\((!(fluS x.fst x.snd.fst).snd||decide ((↑(fluS x.fst x.snd.fst).fst.d.cache.length:Int)≥(500:Int))&& !(synD x_1.fst.d).snd)
  =false->Lt (0+(k:Int).toNat) x_1.fst.fr.length/\Rng .i64 ((1:Int)+(x_1.fst.fr.getD (0+(k:Int).toNat) default).no)/\Lt (0+(k:Int).toNat) x_1.fst.fr.length/\Lt (0+(k:Int).toNat) x_1.fst.fr.length/\∃(x:(Int×
  Pg)),(PoB x_1.snd x_1.snd (0+(k:Int).toNat) x_1.fst.fr.length (x_1.fst.fr.getD (0+(k:Int).toNat) default).pg.sl.length (x_1.fst.fr.getD (0+(k:Int).toNat) default).pg.sl.length/\((x_1.fst.fr.getD (0+(k:Int).toNat)
  default).no=x.fst/\((x_1.fst.fr.getD (0+(k:Int).toNat) default).pg.lsn=x.snd.lsn/\(EqL strRow (x_1.fst.fr.getD (0+(k:Int).toNat) default).pg.sl x.snd.sl)/\True)/\True)/\PgP x.snd)/\Le (0+(pgBytes x.fst
  x.snd).length) (pgBytes x.fst x.snd).length/\∃(x_2:(Sto×Int×List UInt8×Nat)),(((0=0/\0=0)/\(1:Int)+(x_1.fst.fr.getD (0+(k:Int).toNat) default).no=x_2.snd.fst/\List.take (pgBytes x.fst x.snd).length
  (List.drop 0 (pgBytes x.fst x.snd))=x_2.snd.snd.fst/\True)/\((1=1/\1=1/\(0=0/\(synD x_1.fst.d).fst.sec.length=x_2.fst.d.sec.length)/\(0=0/\(synD x_1.fst.d).fst.cache.length=x_2.fst.d.cache.length)/\(synD
  x_1.fst.d).fst.armed=x_2.fst.d.armed/\(0=0/\(synD x_1.fst.d).fst.keep.length=x_2.fst.d.keep.length)/\x_1.fst.ep=x_2.fst.ep/\(0=0/\x_1.fst.log.length=x_2.fst.log.length)/\x_1.fst.sure=x_2.fst.sure/\(0=0/\
  x_1.fst.fr.length=x_2.fst.fr.length)/\x_1.fst.hand=x_2.fst.hand/\True)/\(EqL strRow (synD x_1.fst.d).fst.sec x_2.fst.d.sec)/\(EqL pendRow (synD x_1.fst.d).fst.cache x_2.fst.d.cache)/\(EqL intRow (synD x_1.fst.d).fst.keep
  x_2.fst.d.keep)/\(EqL recRow x_1.fst.log x_2.fst.log)/\(x_1.snd=x_2.snd.snd.snd/\x_1.fst.fr.length=x_2.fst.fr.length/\FamEq x_1.fst.fr.length (famRow x_1.fst.fr) (famRow x_2.fst.fr))/\True)/\x_2.fst.d.cache.length<=
  1048576)/\FamB (0+(k:Int).toNat) x_2.fst.fr.length [T.bool (x_2.fst.fr.getD (0+(k:Int).toNat) default).dirty]/\FamB (0+(k:Int).toNat) x_2.fst.fr.length [T.int .i64 (x_2.fst.fr.getD (0+(k:Int).toNat) default).first]/\
  (true=(outS s k).snd/\True)/\(1=1/\1=1/\(0=0/\x_2.fst.d.sec.length=(outS s k).fst.d.sec.length)/\(0=0/\(x_2.fst.d.cache++[Pend.mk x_2.snd.fst x_2.snd.snd.fst]).length=(outS s k).fst.d.cache.length)/\
  x_2.fst.d.armed=(outS s k).fst.d.armed/\(0=0/\x_2.fst.d.keep.length=(outS s k).fst.d.keep.length)/\x_2.fst.ep=(outS s k).fst.ep/\(0=0/\x_2.fst.log.length=(outS s k).fst.log.length)/\x_2.fst.sure=(outS s
  k).fst.sure/\(0=0/\x_2.fst.fr.length=(outS s k).fst.fr.length)/\x_2.fst.hand=(outS s k).fst.hand/\True)/\(EqL strRow x_2.fst.d.sec (outS s k).fst.d.sec)/\True/\True/\(EqL recRow x_2.fst.log (outS s k).fst.log)/\
  (x_2.snd.snd.snd=v/\x_2.fst.fr.length=(outS s k).fst.fr.length/\FamEq x_2.fst.fr.length (setRow (setRow (famRow x_2.fst.fr) (0+(k:Int).toNat) 3 [T.bool false]) (0+(k:Int).toNat) 4 [T.int .i64 (0:Int)]) (famRow (outS s
  k).fst.fr))/\(EqL pendRow (x_2.fst.d.cache++[Pend.mk x_2.snd.fst x_2.snd.snd.fst]) (outS s k).fst.d.cache)/\(EqL intRow x_2.fst.d.keep (outS s k).fst.d.keep)/\True))/\(((!(fluS x.fst x.snd.fst).snd)=false->decide ((↑(fluS
  x.fst x.snd.fst).fst.d.cache.length:Int)≥(500:Int))=true->False)->((!(fluS x.fst x.snd.fst).snd||decide ((↑(fluS x.fst x.snd.fst).fst.d.cache.length:Int)≥(500:Int))&& !(synD x_1.fst.d).snd)=true->(false=
  (outS s k).snd/\True)/\(1=1/\1=1/\EqC (fluS x.fst x.snd.fst).fst (outS s k).fst)/\(EqL strRow (fluS x.fst x.snd.fst).fst.d.sec (outS s k).fst.d.sec)/\True/\True/\(EqL recRow (fluS x.fst x.snd.fst).fst.log (outS s
  k).fst.log)/\(x.snd.snd=v/\(fluS x.fst x.snd.fst).fst.fr.length=(outS s k).fst.fr.length/\FamEq (fluS x.fst x.snd.fst).fst.fr.length (famRow (fluS x.fst x.snd.fst).fst.fr) (famRow (outS s k).fst.fr))/\(EqL pendRow (fluS
  x.fst x.snd.fst).fst.d.cache (outS s k).fst.d.cache)/\(EqL intRow (fluS x.fst x.snd.fst).fst.d.keep (outS s k).fst.d.keep)/\True)/\((!(fluS x.fst x.snd.fst).snd||decide ((↑(fluS x.fst x.snd.fst).fst.d.cache.length:Int)≥
  (500:Int))&& !(synD x_1.fst.d).snd)=false->Lt (0+(k:Int).toNat) (fluS x.fst x.snd.fst).fst.fr.length/\Rng .i64 ((1:Int)+((fluS x.fst x.snd.fst).fst.fr.getD (0+(k:Int).toNat) default).no)/\Lt (0+(k:Int).toNat)
  (fluS x.fst x.snd.fst).fst.fr.length/\Lt (0+(k:Int).toNat) (fluS x.fst x.snd.fst).fst.fr.length/\∃(x_2:(Int×Pg)),(PoB x.snd.snd x.snd.snd (0+(k:Int).toNat) (fluS x.fst x.snd.fst).fst.fr.length ((fluS x.fst
  x.snd.fst).fst.fr.getD (0+(k:Int).toNat) default).pg.sl.length ((fluS x.fst x.snd.fst).fst.fr.getD (0+(k:Int).toNat) default).pg.sl.length/\(((fluS x.fst x.snd.fst).fst.fr.getD (0+(k:Int).toNat) default).no=x_2.fst/\
  (((fluS x.fst x.snd.fst).fst.fr.getD (0+(k:Int).toNat) default).pg.lsn=x_2.snd.lsn/\(EqL strRow ((fluS x.fst x.snd.fst).fst.fr.getD (0+(k:Int).toNat) default).pg.sl x_2.snd.sl)/\True)/\True)/\PgP x_2.snd)/\Le (0+
  (pgBytes x_2.fst x_2.snd).length) (pgBytes x_2.fst x_2.snd).length/\∃(x_3:(Sto×Int×List UInt8×Nat)),(((0=0/\0=0)/\(1:Int)+((fluS x.fst x.snd.fst).fst.fr.getD (0+(k:Int).toNat) default).no=x_3.snd.fst/\
  List.take (pgBytes x_2.fst x_2.snd).length (List.drop 0 (pgBytes x_2.fst x_2.snd))=x_3.snd.snd.fst/\True)/\((1=1/\1=1/\EqC (fluS x.fst x.snd.fst).fst x_3.fst)/\EqH (x.snd.snd) (x_3.snd.snd.snd) (fluS x.fst
  x.snd.fst).fst x_3.fst)/\x_3.fst.d.cache.length<=1048576)/\FamB (0+(k:Int).toNat) x_3.fst.fr.length [T.bool (x_3.fst.fr.getD (0+(k:Int).toNat) default).dirty]/\FamB (0+(k:Int).toNat) x_3.fst.fr.length [T.int .i64
  (x_3.fst.fr.getD (0+(k:Int).toNat) default).first]/\(true=(outS s k).snd/\True)/\(1=1/\1=1/\(0=0/\x_3.fst.d.sec.length=(outS s k).fst.d.sec.length)/\(0=0/\(x_3.fst.d.cache++[Pend.mk x_3.snd.fst
  x_3.snd.snd.fst]).length=(outS s k).fst.d.cache.length)/\x_3.fst.d.armed=(outS s k).fst.d.armed/\(0=0/\x_3.fst.d.keep.length=(outS s k).fst.d.keep.length)/\x_3.fst.ep=(outS s k).fst.ep/\(0=0/\x_3.fst.log.length=
  (outS s k).fst.log.length)/\x_3.fst.sure=(outS s k).fst.sure/\(0=0/\x_3.fst.fr.length=(outS s k).fst.fr.length)/\x_3.fst.hand=(outS s k).fst.hand/\True)/\(EqL strRow x_3.fst.d.sec (outS s k).fst.d.sec)/\True/\True
  /\(EqL recRow x_3.fst.log (outS s k).fst.log)/\(x_3.snd.snd.snd=v/\x_3.fst.fr.length=(outS s k).fst.fr.length/\FamEq x_3.fst.fr.length (setRow (setRow (famRow x_3.fst.fr) (0+(k:Int).toNat) 3 [T.bool false]) (0+
  (k:Int).toNat) 4 [T.int .i64 (0:Int)]) (famRow (outS s k).fst.fr))/\(EqL pendRow (x_3.fst.d.cache++[Pend.mk x_3.snd.fst x_3.snd.snd.fst]) (outS s k).fst.d.cache)/\(EqL intRow x_3.fst.d.keep (outS s k).fst.d.keep)/\True)))):
  EffFn Tryz.prog 138 [.ref 0 0 0,.int .i64 k] (s.bx v) (.bool (outS s k).2) ((outS s k).1.bxY v):=
 vcG (code:=b_putOut) (gC flush_ok call_flush (gC sync_ok call_sync (gC pageBytes_ok call_pageBytes (gC write_ok call_write gN)))) Tryz.func138 (by kernel_rfl) (by kernel_rfl) noAnn [[.box 0,.arr 1,.arr 2,.arr 3,.arr 4,.arr 5,.arr 11,.arr 9],[.box 0,.arr 1,.arr 2,.arr 3,.arr 4,.arr 5,.arr 9,.arr 7],[.box 0,.arr 1,.arr 2,.arr 3,.arr 4,.arr 5,.arr 8,.arr 9],[.box 0,.arr 1,.arr 2,.arr 3,.arr 4,.arr 5,.arr 6,.arr 7],[.box 0,.arr 1,.arr 2,.arr 3,.arr 4,.arr 5,.arr 2,.arr 3]] h (by kernel_rfl)
theorem flu_fr(s:Sto)(l:Int):(fluS s l).1.fr=s.fr:=by
 by_cases h:l<=s.sure
 ·rw[flu_le h]
 ·rw[flu_gt h]
theorem syn_cache(d:Dsk):(synD d).1.cache=[]:=by
 unfold synD;split<;>rfl
theorem pd_nil{d:Dsk}(h:d.cache=[]):PdB d:=fun i hi=>by rw[h] at hi;exact absurd hi (Nat.not_lt_zero _)
theorem flu_pd{s:Sto}{l:Int}(h:PdB s.d):PdB (fluS s l).1.d:=by
 by_cases hl:l<=s.sure
 ·rw[flu_le hl];exact h
 ·rw[flu_gt hl];exact pd_nil (syn_cache _)
theorem flu_c{s:Sto}{l:Int}(h:s.d.cache.length<=500):(fluS s l).1.d.cache.length<=500:=by
 by_cases hl:l<=s.sure
 ·rw[flu_le hl];exact h
 ·rw[flu_gt hl];dsimp only;rw[syn_cache];exact Nat.zero_le _
theorem out_clean{s:Sto}{k:Nat}(h:(s.fr.getD k default).dirty=false):outS s k=(s,true):=by
 unfold outS;rw[if_neg (by rw[h];simp)]
theorem out_down{s:Sto}{k:Nat}(h:(s.fr.getD k default).dirty=true)(hu:(fluS s (s.fr.getD k default).pg.lsn).2=false):outS s k=((fluS s (s.fr.getD k default).pg.lsn).1,false):=by
 unfold outS;rw[if_pos h,if_neg (by rw[hu];simp)]
theorem out_syn{s:Sto}{k:Nat}(h:(s.fr.getD k default).dirty=true)(hu:(fluS s (s.fr.getD k default).pg.lsn).2=true)(hb:(syn5 (fluS s (s.fr.getD k default).pg.lsn).1.d).2=false):outS s k=((fluS s (s.fr.getD k default).pg.lsn).1.sd (syn5 (fluS s (s.fr.getD k default).pg.lsn).1.d).1,false):=by
 unfold outS;rw[if_pos h,if_pos hu,if_neg (by rw[hb];simp)]
theorem out_up{s:Sto}{k:Nat}(h:(s.fr.getD k default).dirty=true)(hu:(fluS s (s.fr.getD k default).pg.lsn).2=true)(hb:(syn5 (fluS s (s.fr.getD k default).pg.lsn).1.d).2=true):outS s k=(wrF ((fluS s (s.fr.getD k default).pg.lsn).1.sd (syn5 (fluS s (s.fr.getD k default).pg.lsn).1.d).1) k,true):=by
 unfold outS;rw[if_pos h,if_pos hu,if_pos hb]
theorem syn5_t{d:Dsk}(h:500<=d.cache.length):syn5 d=synD d:=if_pos h
theorem syn5_f{d:Dsk}(h:¬500<=d.cache.length):syn5 d=(d,true):=if_neg h
theorem fam_cl{L:List Frm}{k:Nat}(hk:k<L.length):FamEq L.length (setRow (setRow (famRow L) k 3 [T.bool false]) k 4 [T.int IntKind.i64 0]) (famRow (L.set k (clF (L.getD k default)))):=fam_eq fun i _=>by
 have hl:∀j,(famRow L j).length=5:=fun _=>rfl
 by_cases h:i=k
 ·subst h;have e:(L.set i (clF (L.getD i default))).getD i default=clF (L.getD i default):=by rw[List.getD_eq_getElem?_getD,List.getElem?_set_self hk];rfl
  unfold setRow;rw[nb_t rfl];unfold famRow;rw[e];rfl
 ·have e:(L.set k (clF (L.getD k default))).getD i default=L.getD i default:=by rw[List.getD_eq_getElem?_getD,List.getElem?_set_ne (Ne.symm h),←List.getD_eq_getElem?_getD]
  rw[setRow_ne (by rw[setRow_length (by rw[hl];decide),hl];decide) h,setRow_ne (by rw[hl];decide) h]
  unfold famRow;rw[e]
theorem putOut_ok:ConOk Tryz.prog 138 k_putOut:=by
 rintro⟨s,k,v⟩ ⟨h,hk⟩;dsimp only at h hk;have hfp:=h.frp k hk;have hf:=h.flu hfp.2.2.2;have hfr:=flu_fr s (s.fr.getD k default).pg.lsn;have hS:=smS_fluS hf h.sm;have hP:=flu_pd (l:=(s.fr.getD k default).pg.lsn) h.pd;have hc5:=flu_c (l:=(s.fr.getD k default).pg.lsn) h.c;have o1:= @out_down s k;have o2:= @out_syn s k;have o3:= @out_up s k;refine v_putOut s k v ?_
 rw[Int.toNat_natCast,show 0+k=k from Nat.zero_add k]
 refine⟨inB_nat hk,hk,fun hd=> ?_,fun hd=>⟨hk,(s,(s.fr.getD k default).pg.lsn,v),⟨⟨⟨rfl,rfl⟩,rfl,trivial⟩,⟨⟨rfl,rfl,⟨rfl,rfl⟩,⟨rfl,rfl⟩,rfl,⟨rfl,rfl⟩,rfl,⟨rfl,rfl⟩,rfl,⟨rfl,rfl⟩,rfl,trivial⟩,⟨rfl,rowsR _ _⟩,⟨rfl,rowsR _ _⟩,⟨rfl,rowsR _ _⟩,⟨rfl,rowsR _ _⟩,⟨rfl,rfl,famR _⟩,trivial⟩,hf⟩,((fluS s (s.fr.getD k default).pg.lsn).1,v),fun _ _=>⟨(by repeat' first|exact trivial|exact rfl|exact rowsR _ _|exact famR _|exact row0|exact le0 _|exact Nat.le_refl _|exact Nat.zero_le _|refine And.intro ?_ ?_),⟨⟨rfl,rfl,⟨rfl,rfl⟩,⟨rfl,rfl⟩,rfl,⟨rfl,rfl⟩,rfl,⟨rfl,rfl⟩,rfl,⟨rfl,rfl⟩,rfl,trivial⟩,⟨rfl,rowsR _ _⟩,⟨rfl,rowsR _ _⟩,⟨rfl,rowsR _ _⟩,⟨rfl,rowsR _ _⟩,⟨rfl,rfl,famR _⟩,trivial⟩,hS.1,hP⟩,fun hu hc=>⟨fun hb=> ?_,fun hb=> ?_⟩,fun hn=>⟨fun hb=> ?_,fun hb=> ?_⟩⟩⟩
 ·rw[out_clean (by simpa using hd)]
  exact⟨⟨rfl,trivial⟩,⟨rfl,rfl,⟨rfl,rfl⟩,⟨rfl,rfl⟩,rfl,⟨rfl,rfl⟩,rfl,⟨rfl,rfl⟩,rfl,⟨rfl,rfl⟩,rfl,trivial⟩,⟨rfl,rowsR _ _⟩,trivial,trivial,⟨rfl,rowsR _ _⟩,⟨rfl,rfl,famR _⟩,⟨rfl,rowsR _ _⟩,⟨rfl,rowsR _ _⟩,trivial⟩
 all_goals
  have hd:(s.fr.getD k default).dirty=true:=by simpa using hd
  replace o1:=o1 hd;replace o2:=o2 hd;replace o3:=o3 hd;dsimp only at*;generalize fluS s (s.fr.getD k default).pg.lsn=A at*;obtain⟨a,up⟩:=A;dsimp only at*;rw[←hfr] at hk hfp
 ·have hu:up=true:=(Bool.not_eq_false' _).mp hu;subst hu;have hc:500<=a.d.cache.length:=by have:=of_decide_eq_true hc;omega
  have hb:(synD a.d).2=false:=by simp at hb;exact hb.2
  rw[o2 rfl (by rw[syn5_t hc];exact hb),syn5_t hc]
  exact⟨⟨rfl,trivial⟩,⟨rfl,rfl,⟨rfl,rfl⟩,⟨rfl,rfl⟩,rfl,⟨rfl,rfl⟩,rfl,⟨rfl,rfl⟩,rfl,⟨rfl,rfl⟩,rfl,trivial⟩,⟨rfl,rowsR _ _⟩,trivial,trivial,⟨rfl,rowsR _ _⟩,⟨rfl,rfl,famR _⟩,⟨rfl,rowsR _ _⟩,⟨rfl,rowsR _ _⟩,trivial⟩
 ·have hu:up=true:=(Bool.not_eq_false' _).mp hu;subst hu;have hb:(synD a.d).2=true:=by rw[hc] at hb;simpa using hb
  have hc:500<=a.d.cache.length:=by have:=of_decide_eq_true hc;omega
  rw[o3 rfl (by rw[syn5_t hc];exact hb),syn5_t hc]
  exact⟨hk,i64_rng (by omega),hk,hk,((a.fr.getD k default).no,(a.fr.getD k default).pg),⟨⟨rfl,hk,Nat.le_refl _⟩,⟨rfl,⟨rfl,⟨rfl,rowsR _ _⟩,trivial⟩,trivial⟩,hfp.2.2.1⟩,le0 _,(a.sd (synD a.d).1,1+(a.fr.getD k default).no,pgBytes (a.fr.getD k default).no (a.fr.getD k default).pg,v),⟨⟨⟨rfl,rfl⟩,rfl,by rw[List.drop_zero,List.take_length],trivial⟩,⟨⟨rfl,rfl,⟨rfl,rfl⟩,⟨rfl,rfl⟩,rfl,⟨rfl,rfl⟩,rfl,⟨rfl,rfl⟩,rfl,⟨rfl,rfl⟩,rfl,trivial⟩,⟨rfl,rowsR _ _⟩,⟨rfl,rowsR _ _⟩,⟨rfl,rowsR _ _⟩,⟨rfl,rowsR _ _⟩,⟨rfl,rfl,famR _⟩,trivial⟩,by show(synD a.d).1.cache.length<=_;rw[syn_cache];exact Nat.zero_le _⟩,⟨hk,rfl⟩,⟨hk,rfl⟩,⟨rfl,trivial⟩,⟨rfl,rfl,⟨rfl,rfl⟩,⟨rfl,rfl⟩,rfl,⟨rfl,rfl⟩,rfl,⟨rfl,rfl⟩,rfl,⟨rfl,List.length_set.symm⟩,rfl,trivial⟩,⟨rfl,rowsR _ _⟩,trivial,trivial,⟨rfl,rowsR _ _⟩,⟨rfl,List.length_set.symm,fam_cl hk⟩,⟨rfl,rowsR _ _⟩,⟨rfl,rowsR _ _⟩,trivial⟩
 ·cases up with
  |false=>
   rw[o1 rfl];exact⟨⟨rfl,trivial⟩,⟨rfl,rfl,⟨rfl,rfl⟩,⟨rfl,rfl⟩,rfl,⟨rfl,rfl⟩,rfl,⟨rfl,rfl⟩,rfl,⟨rfl,rfl⟩,rfl,trivial⟩,⟨rfl,rowsR _ _⟩,trivial,trivial,⟨rfl,rowsR _ _⟩,⟨rfl,rfl,famR _⟩,⟨rfl,rowsR _ _⟩,⟨rfl,rowsR _ _⟩,trivial⟩
  |true=>
   have:decide ((a.d.cache.length:Int)≥500)=false:=by
    cases hd:decide ((a.d.cache.length:Int)≥500) with
    |false=>rfl
    |true=>exact(hn rfl hd).elim
   rw[this] at hb;simp at hb
 ·have hu:up=true:=by cases up<;>simp at hb ⊢
  subst hu;have hc:¬500<=a.d.cache.length:=fun hc=>hn rfl (decide_eq_true (by omega))
  rw[o3 rfl (by rw[syn5_f hc]),syn5_f hc]
  exact⟨hk,i64_rng (by omega),hk,hk,((a.fr.getD k default).no,(a.fr.getD k default).pg),⟨⟨rfl,hk,Nat.le_refl _⟩,⟨rfl,⟨rfl,⟨rfl,rowsR _ _⟩,trivial⟩,trivial⟩,hfp.2.2.1⟩,le0 _,(a,1+(a.fr.getD k default).no,pgBytes (a.fr.getD k default).no (a.fr.getD k default).pg,v),⟨⟨⟨rfl,rfl⟩,rfl,by rw[List.drop_zero,List.take_length],trivial⟩,⟨⟨rfl,rfl,⟨rfl,rfl⟩,⟨rfl,rfl⟩,rfl,⟨rfl,rfl⟩,rfl,⟨rfl,rfl⟩,rfl,⟨rfl,rfl⟩,rfl,trivial⟩,⟨rfl,rowsR _ _⟩,⟨rfl,rowsR _ _⟩,⟨rfl,rowsR _ _⟩,⟨rfl,rowsR _ _⟩,⟨rfl,rfl,famR _⟩,trivial⟩,by show a.d.cache.length<=_;omega⟩,⟨hk,rfl⟩,⟨hk,rfl⟩,⟨rfl,trivial⟩,⟨rfl,rfl,⟨rfl,rfl⟩,⟨rfl,rfl⟩,rfl,⟨rfl,rfl⟩,rfl,⟨rfl,rfl⟩,rfl,⟨rfl,List.length_set.symm⟩,rfl,trivial⟩,⟨rfl,rowsR _ _⟩,trivial,trivial,⟨rfl,rowsR _ _⟩,⟨rfl,List.length_set.symm,fam_cl hk⟩,⟨rfl,rowsR _ _⟩,⟨rfl,rowsR _ _⟩,trivial⟩
end Go.Proofs.YtndilbkocjlgpaaGreat

