/- A part of the proof. -/
import Derived.Test.YtndilbkocjlgpaaGreatX1X2X3
import Derived.Test.YtndilbkocjlgpaaGreatX5X6
namespace Go.Proofs.YtndilbkocjlgpaaGreat
set_option maxRecDepth 100000
open Go.SS

def A_putF(l:List UInt8)(L:List (List UInt8)):Nat->Ann
 |0=>.one {i:Nat//i<=L.length} (fun x=>⟨[(0,.osl 2 0 (l++fldAt L x.1).length),(13,.osl 1 0 L.length),(14,.int .i64 L.length),(15,.int .i64 x.1)],[none,strA L,some (.bys 5 (l++fldAt L x.1))]⟩) (fun x=>L.length-x.1) [.arr 0,.arr 1,.arr 3] [.arr 0,.arr 1,.at_ 0] (fun _=>noAnn)
 |_=>.none
def k_putFields:Con:=.reff ⟨List UInt8×List (List UInt8),fun x=>[.osl 0 0 x.1.length,.osl 1 0 x.2.length],fun x=>[some (.bys 5 x.1),strA x.2],fun x=>.osl 2 0 (x.1++fldB x.2).length,fun x=>[none,strA x.2,some (.bys 5 (x.1++fldB x.2))],fun x=>x.1.length<=1000/\FldSm x.2⟩
noncomputable def b_putFields:Code:=Tryz.f157.body.getD .skip
theorem call_putFields:Callable Tryz.prog 157:=⟨_,Tryz.func157,by kernel_rfl,by kernel_rfl⟩
theorem v_putFields(l:List UInt8)(L:List (List UInt8))(h:
  Rng IntKind.u8 (IntKind.u8.wrap (L.length:Int))/\(Le 1 1/\Le l.length l.length/\AppB l.length 1 1)/\(∃(x:{i:Nat//i<=L.length}),((0=0/\l.length+1=(l++fldAt L x.val).length)/\(0=0/\L.length=L.length)/\
  (L.length:Int)=(L.length:Int)/\(0:Int)=(x.val:Int)/\True)/\True/\(EqL strRow L L)/\List.take l.length l++List.take 1 (List.drop 0 (List.map ofI [IntKind.u8.wrap (L.length:Int)]))=l++fldAt L x.val/\True)/\∀(x:
  {i:Nat//i<=L.length}),(decide ((x.val:Int)<(L.length:Int))=true->InB (x.val:Int) L.length/\Lt (0+(x.val:Int).toNat) L.length/\Rng IntKind.u8 (IntKind.u8.wrap (↑(L.getD (0+(x.val:Int).toNat) []).length:Int))/\
  (Le 1 1/\Le (l++fldAt L x.val).length (l++fldAt L x.val).length/\AppB (l++fldAt L x.val).length 1 1)/\(Le ((l++fldAt L x.val).length+1) (List.take (l++fldAt L x.val).length (l++fldAt L x.val)++List.take 1
  (List.drop 0 (List.map ofI [IntKind.u8.wrap (↑(L.getD (0+(x.val:Int).toNat) []).length:Int)]))).length/\AppB ((l++fldAt L x.val).length+1) (L.getD (0+(x.val:Int).toNat) []).length 1)/\Rng .i64 ((x.val:Int)+(1:Int))
  /\∃(y:{i:Nat//i<=L.length}),(((0=0/\(l++fldAt L x.val).length+1+(L.getD (0+(x.val:Int).toNat) []).length=(l++fldAt L y.val).length)/\(0=0/\L.length=L.length)/\(L.length:Int)=(L.length:Int)/\
  (x.val:Int)+(1:Int)=(y.val:Int)/\True)/\True/\(EqL strRow L L)/\List.take ((l++fldAt L x.val).length+1) (List.take (l++fldAt L x.val).length (l++fldAt L x.val)++List.take 1 (List.drop 0 (List.map ofI
  [IntKind.u8.wrap (↑(L.getD (0+(x.val:Int).toNat) []).length:Int)])))++L.getD (0+(x.val:Int).toNat) []=l++fldAt L y.val/\True)/\Lt (L.length-y.val) (L.length-x.val))/\(decide ((x.val:Int)<(L.length:Int))=
  false->((0=0/\(l++fldAt L x.val).length=(l++fldB L).length)/\True)/\True/\(EqL strRow L L)/\l++fldAt L x.val=l++fldB L/\True)):
  EffFn Tryz.prog 157 [.osl 0 0 l.length,.osl 1 0 L.length] [some (.bys 5 l),strA L] (.osl 2 0 (l++fldB L).length) [none,strA L,some (.bys 5 (l++fldB L))]:=
 vcG (code:=b_putFields) gN Tryz.func157 (by kernel_rfl) (by kernel_rfl) (A_putF l L) [[.arr 0,.arr 1,.arr 2]] h (by kernel_rfl)
theorem putFields_ok:ConOk Tryz.prog 157 k_putFields:=by
 rintro⟨l,L⟩ ⟨h1,h2,h3⟩;dsimp only at h1 h2 h3;have e0:List.take l.length l++List.take 1 (List.drop 0 (List.map ofI [IntKind.u8.wrap (L.length:Int)]))=l++fldAt L 0:=by rw[List.take_length];rfl
 refine v_putFields l L ⟨u8_rng _,⟨Nat.le_refl _,Nat.le_refl _,by unfold AppB;omega⟩,⟨⟨0,Nat.zero_le _⟩,⟨⟨rfl,by simp[fldAt]⟩,⟨rfl,rfl⟩,rfl,rfl,trivial⟩,trivial,⟨rfl,rowsR _ _⟩,e0,trivial⟩,fun x=>⟨fun hc=> ?_,fun hc=> ?_⟩⟩
 ·have hlt:=lt_of_dec hc;have f1:=fld_len L h3 x.val (by omega)
  have f2:=h3 x.val hlt;rw[Int.toNat_natCast,Nat.zero_add];have hl:(l++fldAt L x.val).length<=1100000:=by rw[List.length_append];omega
  have e:List.take (l++fldAt L x.val).length (l++fldAt L x.val)++List.take 1 (List.drop 0 (List.map ofI [IntKind.u8.wrap ((L.getD x.val []).length:Int)]))=l++fldAt L x.val++[u8b (L.getD x.val []).length]:=by
   rw[List.take_length];rfl
  rw[e];have e2:(l++fldAt L x.val++[u8b (L.getD x.val []).length]).length=(l++fldAt L x.val).length+1:=by rw[List.length_append];rfl
  refine⟨inB_nat hlt,by unfold Lt;omega,u8_rng _,⟨Nat.le_refl _,Nat.le_refl _,by unfold AppB;omega⟩,⟨by rw[e2];exact Nat.le_refl _,by unfold AppB;omega⟩,i64_rng (by omega),⟨x.val+1,hlt⟩,⟨⟨⟨rfl,?_⟩,⟨rfl,rfl⟩,rfl,by dsimp only;omega,trivial⟩,trivial,⟨rfl,rowsR _ _⟩,?_,trivial⟩,Cnt.ext_lt hlt⟩
  ·simp only[fldAt,List.length_append,List.length_cons,List.length_nil];omega
  ·rw[←e2,List.take_length];simp only[fldAt,List.append_assoc]
 ·have hx:x.val=L.length:=by have:=x.2;have:=le_of_not hc;omega
  rw[hx];exact⟨⟨⟨rfl,rfl⟩,trivial⟩,trivial,⟨rfl,rowsR _ _⟩,rfl,trivial⟩
def k_four:Con:=.rel ⟨Nat,fun n=>[.int .i64 n],fun n=>.bys (by4 n),fun n=>n<4294967296⟩
noncomputable def b_four:Code:=Tryz.f171.body.getD .skip
theorem call_four:Callable Tryz.prog 171:=⟨_,Tryz.func171,by kernel_rfl,by kernel_rfl⟩
theorem v_four(n:Nat)(h:
  Nn (24:Int)/\Nn (16:Int)/\Nn (8:Int)/\(Rng IntKind.u8 (IntKind.u8.wrap ((n:Int).fdiv (16777216:Int)))/\Rng IntKind.u8 (IntKind.u8.wrap ((n:Int).fdiv (65536:Int)))/\Rng IntKind.u8 (IntKind.u8.wrap ((n:Int).fdiv (256
  :Int)))/\Rng IntKind.u8 (IntKind.u8.wrap (n:Int)))/\Le 4 4/\List.take 4 (List.drop 0 (List.map ofI [IntKind.u8.wrap ((n:Int).fdiv (16777216:Int)),IntKind.u8.wrap ((n:Int).fdiv (65536:Int)),IntKind.u8.wrap ((n:Int).fdiv
  (256:Int)),IntKind.u8.wrap (n:Int)]))=by4 n):
  PureFn Tryz.prog 171 [.int .i64 n] (.bys (by4 n)):=
 vcR (code:=b_four) gN Tryz.func171 (by kernel_rfl) (by kernel_rfl) noAnn h (by kernel_rfl)
theorem four_ok:ConOk Tryz.prog 171 k_four:=by
 intro(n:Nat) hn;have h8:Nn 8:=by unfold Nn;omega
 exact v_four n ⟨by unfold Nn;omega,by unfold Nn;omega,h8,⟨u8_rng _,u8_rng _,u8_rng _,u8_rng _⟩,Nat.le_refl _,by unfold by4;rw[show(n:Int).fdiv 1=n by rw[Int.fdiv_one]];rfl⟩
noncomputable def b_sealed:Code:=Tryz.f116.body.getD .skip
theorem call_sealed:Callable Tryz.prog 116:=⟨_,Tryz.func116,by kernel_rfl,by kernel_rfl⟩
theorem v_sealed(l:List UInt8)(h:
  ∃(x:(r_check IntKind.u32).ι),(Le (0+l.length) l.length/\(List.take l.length (List.drop 0 l)=x/\True)/\Len31 x)/\∃(x_1:Nat),((IntKind.i64.wrap (↑(crc x):Int)=(x_1:Int)/\True)/\x_1<4294967296)/\(Le l.length
  l.length/\AppB l.length 4 1)/\Le (0+(l.length+4)) (List.take l.length l++by4 x_1).length/\List.take (l.length+4) (List.drop 0 (List.take l.length l++by4 x_1))=l++by4 (crc l)/\True/\True):
  EffFn Tryz.prog 116 [.osl 0 0 l.length] [some (.bys 5 l)] (.bys (l++by4 (crc l))) [none]:=
 vcE (code:=b_sealed) (gC check32_ok call_check32 (gC four_ok call_four gN)) Tryz.func116 (by kernel_rfl) (by kernel_rfl) noAnn (bs:=[false]) h (by kernel_rfl)
def k_sealed:Con:=.eff c_l03Sealed
theorem sealed_ok:ConOk Tryz.prog 116 k_sealed:=by
 intro args H res H' p h hp;unfold c_l03Sealed at h;split at h
 ·rename_i n l;simp only[Option.some.injEq,Prod.mk.injEq] at h;obtain⟨rfl,rfl,rfl⟩:=h;obtain⟨rfl,hl⟩:SealB n l:=hp;have e4:(by4 (crc l)).length=4:=rfl;have hc:=crc_lt l;refine v_sealed l ⟨l,⟨by unfold Le;omega,⟨by rw[List.drop_zero,List.take_length],trivial⟩,by unfold Len31;omega⟩,crc l,⟨⟨?_,trivial⟩,hc⟩,⟨Nat.le_refl _,by unfold AppB;omega⟩,?_,?_,trivial,trivial⟩
  ·rw[IntKind.wrap_i64];omega
  ·unfold Le;rw[List.take_length,List.length_append,e4,Nat.zero_add];exact Nat.le_refl _
  ·rw[List.take_length,List.drop_zero];exact List.take_of_length_le (by rw[List.length_append,e4];exact Nat.le_refl _)
 ·cases h
end Go.Proofs.YtndilbkocjlgpaaGreat

namespace Go.Proofs.YtndilbkocjlgpaaGreat
set_option maxRecDepth 100000
open Go.SS

def rcB0(r:Rec):List UInt8:=[ofI 108,u8b r.e,u8b r.l,u8b r.t,u8b r.k,u8b r.p,u8b r.n,u8b r.g,u8b r.s]++fldB [r.b,r.a]
def rcBytes(r:Rec):List UInt8:=rcB0 r++by4 (crc (rcB0 r))
def RcSm(r:Rec):Prop:=r.b.length<=1000/\r.a.length<=1000
theorem row2(a b:List UInt8):RowsEq 2 (fun k=>List.take 1 (List.drop (k*1) [T.str a,T.str b])) (strRow [a,b]):=fun i hi=>by
 match i,hi with
 |0,_=>rfl
 |1,_=>rfl
theorem fs2{a b:List UInt8}(h1:a.length<=1000)(h2:b.length<=1000):FldSm [a,b]:=⟨by simp,fun i hi=>by
 match i,hi with
 |0,_=>exact h1
 |1,_=>exact h2⟩
theorem rc_len{r:Rec}(fs:FldSm [r.b,r.a]):(rcB0 r).length<=1000000:=by
 have hl:=fld_len [r.b,r.a] fs.2 2 (Nat.le_refl _);have hl:(fldB [r.b,r.a]).length<=2003:=hl;unfold rcB0;rw[List.length_append];simp only[List.length_cons,List.length_nil];omega
def k_recordBytes:Con:=.rel ⟨Rec,fun r=>[.agg r.ts],fun r=>.bys (rcBytes r),RcSm⟩
noncomputable def b_recordBytes:Code:=Tryz.f101.body.getD .skip
theorem call_recordBytes:Callable Tryz.prog 101:=⟨_,Tryz.func101,by kernel_rfl,by kernel_rfl⟩
theorem v_recordBytes(r:Rec)(h:
  Rng IntKind.u8 (108:Int)/\(true=true->InB (0:Int) 8/\Rng IntKind.u8 (IntKind.u8.wrap r.e)/\(Le 1 1/\Le 1 1/\AppB 1 1 1)/\Rng .i64 (1:Int)/\(true=true->InB (1:Int) 8/\Rng IntKind.u8 (IntKind.u8.wrap r.l)/\(Le
  1 1/\Le (1+1) 2/\AppB (1+1) 1 1)/\Rng .i64 (2:Int)/\(true=true->InB (2:Int) 8/\Rng IntKind.u8 (IntKind.u8.wrap r.t)/\(Le 1 1/\Le (1+1+1) 3/\AppB (1+1+1) 1 1)/\Rng .i64 (3:Int)/\(true=true->InB (3
  :Int) 8/\Rng IntKind.u8 (IntKind.u8.wrap r.k)/\(Le 1 1/\Le (1+1+1+1) 4/\AppB (1+1+1+1) 1 1)/\Rng .i64 (4:Int)/\(true=true->InB (4:Int) 8/\Rng IntKind.u8 (IntKind.u8.wrap r.p)/\(Le 1 1/\Le (1+1+1+
  1+1) 5/\AppB (1+1+1+1+1) 1 1)/\Rng .i64 (5:Int)/\(true=true->InB (5:Int) 8/\Rng IntKind.u8 (IntKind.u8.wrap r.n)/\(Le 1 1/\Le (1+1+1+1+1+1) 6/\AppB (1+1+1+1+1+1) 1 1)/\Rng .i64 (6:
  Int)/\(true=true->InB (6:Int) 8/\Rng IntKind.u8 (IntKind.u8.wrap r.g)/\(Le 1 1/\Le (1+1+1+1+1+1+1) 7/\AppB (1+1+1+1+1+1+1) 1 1)/\Rng .i64 (7:Int)/\(true=true->InB (7:Int) 8/\Rng
  IntKind.u8 (IntKind.u8.wrap r.s)/\(Le 1 1/\Le (1+1+1+1+1+1+1+1) 8/\AppB (1+1+1+1+1+1+1+1) 1 1)/\Rng .i64 (8:Int)/\(false=true->False)/\(false=false->∃(x:(List UInt8×List (List
  UInt8))),(((0=0/\1+1+1+1+1+1+1+1+1=x.fst.length)/\(0=0/\2=x.snd.length)/\True)/\(List.take (1+1+1+1+1+1+1+1) (List.take (1+1+1+1+1+1+1) (List.take (1+1+1+1+1+1)
  (List.take (1+1+1+1+1) (List.take (1+1+1+1) (List.take (1+1+1) (List.take (1+1) (List.take 1 (List.map ofI [(108:Int)])++List.take 1 (List.drop 0 (List.map ofI [IntKind.u8.wrap r.e])))++List.take 1
  (List.drop 0 (List.map ofI [IntKind.u8.wrap r.l])))++List.take 1 (List.drop 0 (List.map ofI [IntKind.u8.wrap r.t])))++List.take 1 (List.drop 0 (List.map ofI [IntKind.u8.wrap r.k])))++List.take 1 (List.drop 0 (List.map ofI
  [IntKind.u8.wrap r.p])))++List.take 1 (List.drop 0 (List.map ofI [IntKind.u8.wrap r.n])))++List.take 1 (List.drop 0 (List.map ofI [IntKind.u8.wrap r.g])))++List.take 1 (List.drop 0 (List.map ofI [IntKind.u8.wrap r.s]))=
  x.fst/\(2=x.snd.length/\RowsEq 2 (fun(k:Nat)=>List.take 1 (List.drop (k*1) [T.str r.b,T.str r.a])) (strRow x.snd))/\True)/\x.fst.length<=1000/\FldSm x.snd)/\SealB (x.fst++fldB x.snd).length (x.fst++fldB x.snd)
  /\x.fst++fldB x.snd++by4 (crc (x.fst++fldB x.snd))=rcBytes r))/\(true=false->∃(x:(List UInt8×List (List UInt8))),(((0=0/\1+1+1+1+1+1+1+1=x.fst.length)/\(0=0/\2=x.snd.length)/\True)/\
  (List.take (1+1+1+1+1+1+1) (List.take (1+1+1+1+1+1) (List.take (1+1+1+1+1) (List.take (1+1+1+1) (List.take (1+1+1) (List.take (1+1) (List.take 1 (List.map ofI [(108:Int)])++List.take 1
  (List.drop 0 (List.map ofI [IntKind.u8.wrap r.e])))++List.take 1 (List.drop 0 (List.map ofI [IntKind.u8.wrap r.l])))++List.take 1 (List.drop 0 (List.map ofI [IntKind.u8.wrap r.t])))++List.take 1 (List.drop 0 (List.map ofI
  [IntKind.u8.wrap r.k])))++List.take 1 (List.drop 0 (List.map ofI [IntKind.u8.wrap r.p])))++List.take 1 (List.drop 0 (List.map ofI [IntKind.u8.wrap r.n])))++List.take 1 (List.drop 0 (List.map ofI [IntKind.u8.wrap r.g]))=
  x.fst/\(2=x.snd.length/\RowsEq 2 (fun(k:Nat)=>List.take 1 (List.drop (k*1) [T.str r.b,T.str r.a])) (strRow x.snd))/\True)/\x.fst.length<=1000/\FldSm x.snd)/\SealB (x.fst++fldB x.snd).length (x.fst++fldB x.snd)
  /\x.fst++fldB x.snd++by4 (crc (x.fst++fldB x.snd))=rcBytes r))/\(true=false->∃(x:(List UInt8×List (List UInt8))),(((0=0/\1+1+1+1+1+1+1=x.fst.length)/\(0=0/\2=x.snd.length)/\True)/\
  (List.take (1+1+1+1+1+1) (List.take (1+1+1+1+1) (List.take (1+1+1+1) (List.take (1+1+1) (List.take (1+1) (List.take 1 (List.map ofI [(108:Int)])++List.take 1 (List.drop 0 (List.map ofI
  [IntKind.u8.wrap r.e])))++List.take 1 (List.drop 0 (List.map ofI [IntKind.u8.wrap r.l])))++List.take 1 (List.drop 0 (List.map ofI [IntKind.u8.wrap r.t])))++List.take 1 (List.drop 0 (List.map ofI [IntKind.u8.wrap r.k])))++
  List.take 1 (List.drop 0 (List.map ofI [IntKind.u8.wrap r.p])))++List.take 1 (List.drop 0 (List.map ofI [IntKind.u8.wrap r.n]))=x.fst/\(2=x.snd.length/\RowsEq 2 (fun(k:Nat)=>List.take 1 (List.drop (k*1) [T.str r.b,
  T.str r.a])) (strRow x.snd))/\True)/\x.fst.length<=1000/\FldSm x.snd)/\SealB (x.fst++fldB x.snd).length (x.fst++fldB x.snd)/\x.fst++fldB x.snd++by4 (crc (x.fst++fldB x.snd))=rcBytes r))/\(true=false->∃(x:
  (List UInt8×List (List UInt8))),(((0=0/\1+1+1+1+1+1=x.fst.length)/\(0=0/\2=x.snd.length)/\True)/\(List.take (1+1+1+1+1) (List.take (1+1+1+1) (List.take (1+1+1) (List.take (1+1)
  (List.take 1 (List.map ofI [(108:Int)])++List.take 1 (List.drop 0 (List.map ofI [IntKind.u8.wrap r.e])))++List.take 1 (List.drop 0 (List.map ofI [IntKind.u8.wrap r.l])))++List.take 1 (List.drop 0 (List.map ofI
  [IntKind.u8.wrap r.t])))++List.take 1 (List.drop 0 (List.map ofI [IntKind.u8.wrap r.k])))++List.take 1 (List.drop 0 (List.map ofI [IntKind.u8.wrap r.p]))=x.fst/\(2=x.snd.length/\RowsEq 2 (fun(k:Nat)=>List.take 1
  (List.drop (k*1) [T.str r.b,T.str r.a])) (strRow x.snd))/\True)/\x.fst.length<=1000/\FldSm x.snd)/\SealB (x.fst++fldB x.snd).length (x.fst++fldB x.snd)/\x.fst++fldB x.snd++by4 (crc (x.fst++fldB x.snd))=rcBytes
  r))/\(true=false->∃(x:(List UInt8×List (List UInt8))),(((0=0/\1+1+1+1+1=x.fst.length)/\(0=0/\2=x.snd.length)/\True)/\(List.take (1+1+1+1) (List.take (1+1+1) (List.take (1+1) (List.take 1
  (List.map ofI [(108:Int)])++List.take 1 (List.drop 0 (List.map ofI [IntKind.u8.wrap r.e])))++List.take 1 (List.drop 0 (List.map ofI [IntKind.u8.wrap r.l])))++List.take 1 (List.drop 0 (List.map ofI [IntKind.u8.wrap r.t])))
  ++List.take 1 (List.drop 0 (List.map ofI [IntKind.u8.wrap r.k]))=x.fst/\(2=x.snd.length/\RowsEq 2 (fun(k:Nat)=>List.take 1 (List.drop (k*1) [T.str r.b,T.str r.a])) (strRow x.snd))/\True)/\x.fst.length<=1000/\
  FldSm x.snd)/\SealB (x.fst++fldB x.snd).length (x.fst++fldB x.snd)/\x.fst++fldB x.snd++by4 (crc (x.fst++fldB x.snd))=rcBytes r))/\(true=false->∃(x:(List UInt8×List (List UInt8))),(((0=0/\1+1+1+1=
  x.fst.length)/\(0=0/\2=x.snd.length)/\True)/\(List.take (1+1+1) (List.take (1+1) (List.take 1 (List.map ofI [(108:Int)])++List.take 1 (List.drop 0 (List.map ofI [IntKind.u8.wrap r.e])))++List.take 1 (List.drop
  0 (List.map ofI [IntKind.u8.wrap r.l])))++List.take 1 (List.drop 0 (List.map ofI [IntKind.u8.wrap r.t]))=x.fst/\(2=x.snd.length/\RowsEq 2 (fun(k:Nat)=>List.take 1 (List.drop (k*1) [T.str r.b,T.str r.a])) (strRow
  x.snd))/\True)/\x.fst.length<=1000/\FldSm x.snd)/\SealB (x.fst++fldB x.snd).length (x.fst++fldB x.snd)/\x.fst++fldB x.snd++by4 (crc (x.fst++fldB x.snd))=rcBytes r))/\(true=false->∃(x:(List UInt8×List
  (List UInt8))),(((0=0/\1+1+1=x.fst.length)/\(0=0/\2=x.snd.length)/\True)/\(List.take (1+1) (List.take 1 (List.map ofI [(108:Int)])++List.take 1 (List.drop 0 (List.map ofI [IntKind.u8.wrap r.e])))++
  List.take 1 (List.drop 0 (List.map ofI [IntKind.u8.wrap r.l]))=x.fst/\(2=x.snd.length/\RowsEq 2 (fun(k:Nat)=>List.take 1 (List.drop (k*1) [T.str r.b,T.str r.a])) (strRow x.snd))/\True)/\x.fst.length<=1000/\FldSm
  x.snd)/\SealB (x.fst++fldB x.snd).length (x.fst++fldB x.snd)/\x.fst++fldB x.snd++by4 (crc (x.fst++fldB x.snd))=rcBytes r))/\(true=false->∃(x:(List UInt8×List (List UInt8))),(((0=0/\1+1=x.fst.length)
  /\(0=0/\2=x.snd.length)/\True)/\(List.take 1 (List.map ofI [(108:Int)])++List.take 1 (List.drop 0 (List.map ofI [IntKind.u8.wrap r.e]))=x.fst/\(2=x.snd.length/\RowsEq 2 (fun(k:Nat)=>List.take 1 (List.drop (k
  *1) [T.str r.b,T.str r.a])) (strRow x.snd))/\True)/\x.fst.length<=1000/\FldSm x.snd)/\SealB (x.fst++fldB x.snd).length (x.fst++fldB x.snd)/\x.fst++fldB x.snd++by4 (crc (x.fst++fldB x.snd))=rcBytes r))/\(true=
  false->∃(x:(List UInt8×List (List UInt8))),(((0=0/\1=x.fst.length)/\(0=0/\2=x.snd.length)/\True)/\(List.map ofI [(108:Int)]=x.fst/\(2=x.snd.length/\RowsEq 2 (fun(k:Nat)=>List.take 1 (List.drop (k*
  1) [T.str r.b,T.str r.a])) (strRow x.snd))/\True)/\x.fst.length<=1000/\FldSm x.snd)/\SealB (x.fst++fldB x.snd).length (x.fst++fldB x.snd)/\x.fst++fldB x.snd++by4 (crc (x.fst++fldB x.snd))=rcBytes r)):
  PureFn Tryz.prog 101 [.agg r.ts] (.bys (rcBytes r)):=
 vcR (code:=b_recordBytes) (gC putFields_ok call_putFields (gC sealed_ok call_sealed gN)) Tryz.func101 (by kernel_rfl) (by kernel_rfl) (A_unr 9) h (by kernel_rfl)
theorem recordBytes_ok:ConOk Tryz.prog 101 k_recordBytes:=by
 rintro(r:Rec) ⟨h1,h2⟩;have fs:=fs2 h1 h2;exact v_recordBytes r ⟨(rng_u8 _).2 (by omega),fun _=>⟨by unfold InB;omega,u8_rng _,⟨Nat.le_refl _,Nat.le_refl _,by unfold AppB;omega⟩,i64_rng (by omega),fun _=>⟨by unfold InB;omega,u8_rng _,⟨Nat.le_refl _,Nat.le_refl _,by unfold AppB;omega⟩,i64_rng (by omega),fun _=>⟨by unfold InB;omega,u8_rng _,⟨Nat.le_refl _,Nat.le_refl _,by unfold AppB;omega⟩,i64_rng (by omega),fun _=>⟨by unfold InB;omega,u8_rng _,⟨Nat.le_refl _,Nat.le_refl _,by unfold AppB;omega⟩,i64_rng (by omega),fun _=>⟨by unfold InB;omega,u8_rng _,⟨Nat.le_refl _,Nat.le_refl _,by unfold AppB;omega⟩,i64_rng (by omega),fun _=>⟨by unfold InB;omega,u8_rng _,⟨Nat.le_refl _,Nat.le_refl _,by unfold AppB;omega⟩,i64_rng (by omega),fun _=>⟨by unfold InB;omega,u8_rng _,⟨Nat.le_refl _,Nat.le_refl _,by unfold AppB;omega⟩,i64_rng (by omega),fun _=>⟨by unfold InB;omega,u8_rng _,⟨Nat.le_refl _,Nat.le_refl _,by unfold AppB;omega⟩,i64_rng (by omega),(fun h=>by cases h),fun _=>⟨([ofI 108,u8b r.e,u8b r.l,u8b r.t,u8b r.k,u8b r.p,u8b r.n,u8b r.g,u8b r.s],[r.b,r.a]),⟨⟨⟨rfl,rfl⟩,⟨rfl,rfl⟩,trivial⟩,⟨rfl,⟨rfl,row2 _ _⟩,trivial⟩,by simp,fs⟩,⟨rfl,rc_len fs⟩,rfl⟩⟩,fun h=>by cases h⟩,fun h=>by cases h⟩,fun h=>by cases h⟩,fun h=>by cases h⟩,fun h=>by cases h⟩,fun h=>by cases h⟩,fun h=>by cases h⟩,fun h=>by cases h⟩
noncomputable def k_l01FieldsZ:Con:=.rfz r_l01Fields
theorem call_l01FieldsZ:Callable Tryz.prog 163:=⟨_,Tryz.func163,by kernel_rfl,by kernel_rfl⟩
theorem l01FieldsZ_ok:ConOk Tryz.prog 163 k_l01FieldsZ:=l01Fields_ok
def k_l04Bytes:Con:=.rel ⟨Rec,fun r=>[.agg r.ts],fun r=>.bys (rcBytes r),RcSm⟩
noncomputable def b_l04Bytes:Code:=Tryz.f107.body.getD .skip
theorem call_l04Bytes:Callable Tryz.prog 107:=⟨_,Tryz.func107,by kernel_rfl,by kernel_rfl⟩
theorem v_l04Bytes(r:Rec)(h:
  (Rng IntKind.u8 (108:Int)/\Rng IntKind.u8 (IntKind.u8.wrap r.e)/\Rng IntKind.u8 (IntKind.u8.wrap r.l)/\Rng IntKind.u8 (IntKind.u8.wrap r.t)/\Rng IntKind.u8 (IntKind.u8.wrap r.k)/\Rng IntKind.u8 (IntKind.u8.wrap r.p)/\Rng
  IntKind.u8 (IntKind.u8.wrap r.n)/\Rng IntKind.u8 (IntKind.u8.wrap r.g)/\Rng IntKind.u8 (IntKind.u8.wrap r.s))/\∃(x:r_l01Fields.ι),(Le 2 2/\((2=List.length x/\RowsEq 2 (fun(k:Nat)=>List.take 1 (List.drop (k*1)
  [T.str r.b,T.str r.a])) (strRow x))/\True)/\FldSm x)/\(Le 9 9/\AppB 9 (fldB x).length 1)/\SealB (9+(fldB x).length) (List.take 9 (List.map ofI [(108:Int),IntKind.u8.wrap r.e,IntKind.u8.wrap r.l,IntKind.u8.wrap r.t,
  IntKind.u8.wrap r.k,IntKind.u8.wrap r.p,IntKind.u8.wrap r.n,IntKind.u8.wrap r.g,IntKind.u8.wrap r.s])++fldB x)/\List.take 9 (List.map ofI [(108:Int),IntKind.u8.wrap r.e,IntKind.u8.wrap r.l,IntKind.u8.wrap r.t,
  IntKind.u8.wrap r.k,IntKind.u8.wrap r.p,IntKind.u8.wrap r.n,IntKind.u8.wrap r.g,IntKind.u8.wrap r.s])++fldB x++by4 (crc (List.take 9 (List.map ofI [(108:Int),IntKind.u8.wrap r.e,IntKind.u8.wrap r.l,IntKind.u8.wrap
  r.t,IntKind.u8.wrap r.k,IntKind.u8.wrap r.p,IntKind.u8.wrap r.n,IntKind.u8.wrap r.g,IntKind.u8.wrap r.s])++fldB x))=rcBytes r):
  PureFn Tryz.prog 107 [.agg r.ts] (.bys (rcBytes r)):=
 vcR (code:=b_l04Bytes) (gC l01FieldsZ_ok call_l01FieldsZ (gC l03Sealed_ok call_l03Sealed gN)) Tryz.func107 (by kernel_rfl) (by kernel_rfl) noAnn h (by kernel_rfl)
theorem l04Bytes_ok:ConOk Tryz.prog 107 k_l04Bytes:=by
 rintro(r:Rec) ⟨h1,h2⟩;have fs:=fs2 h1 h2;have hl:=fld_len [r.b,r.a] fs.2 2 (Nat.le_refl _);have hl:(fldB [r.b,r.a]).length<=2003:=hl;refine v_l04Bytes r ⟨⟨(rng_u8 _).2 (by omega),u8_rng _,u8_rng _,u8_rng _,u8_rng _,u8_rng _,u8_rng _,u8_rng _,u8_rng _⟩,[r.b,r.a],⟨Nat.le_refl _,⟨⟨rfl,row2 _ _⟩,trivial⟩,fs⟩,⟨Nat.le_refl _,by unfold AppB;omega⟩,?_,?_⟩
 ·exact⟨by rw[List.length_append];rfl,rc_len fs⟩
 ·rfl
end Go.Proofs.YtndilbkocjlgpaaGreat

namespace Go.Proofs.YtndilbkocjlgpaaGreat
set_option maxRecDepth 100000
open Go.SS

def stl(sec:List (List UInt8))(C:List Pend)(Q:Nat->Bool):Nat->List (List UInt8)
 |0=>sec
 |i+1=>if Q i=true then(stl sec C Q i).set (C.getD i default).at_.toNat (C.getD i default).d else stl sec C Q i
theorem stl_len(sec:List (List UInt8))(C:List Pend)(Q:Nat->Bool):∀i,(stl sec C Q i).length=sec.length
 |0=>rfl
 |i+1=>by
  unfold stl;split
  ·rw[List.length_set,stl_len sec C Q i]
  ·exact stl_len sec C Q i
theorem stl_t{sec:List (List UInt8)}{C:List Pend}{Q:Nat->Bool}{i:Nat}(h:Q i=true):stl sec C Q (i+1)=(stl sec C Q i).set (C.getD i default).at_.toNat (C.getD i default).d:=by
 conv=>lhs;unfold stl
 rw[if_pos h]
theorem stl_f{sec:List (List UInt8)}{C:List Pend}{Q:Nat->Bool}{i:Nat}(h:Q i=false):stl sec C Q (i+1)=stl sec C Q i:=by
 conv=>lhs;unfold stl
 rw[if_neg (by rw[h];simp)]
def kp(K:List Int)(i:Nat):Bool:=decide (i<K.length)&&(K.getD i 0 !=0)
def wrD(d:Dsk)(at_:Int)(t:List UInt8):Dsk:=⟨d.sec,d.cache++[⟨at_,t⟩],d.armed,d.keep⟩
def Sto.sd(s:Sto)(d:Dsk):Sto:=⟨d,s.ep,s.log,s.sure,s.fr,s.hand⟩
def crD(d:Dsk)(K:List Int):Dsk:=⟨stl d.sec d.cache (kp K) d.cache.length,[],false,[]⟩
def synD(d:Dsk):Dsk×Bool:=if d.armed=true then(crD d d.keep,false) else(⟨stl d.sec d.cache (fun _=>true) d.cache.length,[],d.armed,d.keep⟩,true)
def PdB(d:Dsk):Prop:=∀i,i<d.cache.length->0<=(d.cache.getD i default).at_/\(d.cache.getD i default).at_<d.sec.length
theorem pend_app(L:List Pend)(p:Pend):RowsEq (L.length+1) (appRow (pendRow L) L.length fun k=>List.take 2 (List.drop (k*2) p.ts)) (pendRow (L++[p])):=by
 intro i hi;unfold appRow pendRow;by_cases h:i<L.length
 ·rw[blt_t h,List.getD_eq_getElem?_getD,List.getD_eq_getElem?_getD,List.getElem?_append_left h]
 ·have:i=L.length:=by omega
  subst this;rw[blt_f h];have:(L++[p]).getD L.length default=p:=by rw[List.getD_eq_getElem?_getD,List.getElem?_append_right (Nat.le_refl _)];simp
  rw[this];simp[Pend.ts]
theorem str_set{L:List (List UInt8)}{n:Nat}{t:List UInt8}(j:Nat)(hj:j<L.length):setRow (strRow L) n 0 [.str t] j=strRow (L.set n t) j:=by
 by_cases h:j=n
 ·subst h;rw[setRow_one (by simp[strRow])]
  simp[strRow,List.getElem?_set_self hj]
 ·rw[setRow_ne (by simp[strRow]) h]
  simp[strRow,List.getElem?_set_ne (Ne.symm h)]
theorem stl_set{sec:List (List UInt8)}{C:List Pend}{Q:Nat->Bool}{i:Nat}(h:Q i=true):RowsEq sec.length (setRow (strRow (stl sec C Q i)) (0+(C.getD i default).at_.toNat) 0 [.str (C.getD i default).d]) (strRow (stl sec C Q (i+1))):=fun j hj=>by
 rw[stl_t h,Nat.zero_add];exact str_set j (by rw[stl_len];exact hj)
def Sto.bxC(s:Sto)(v:Nat):Heap:=[stoBx (s.tn 1 6 3 4 5),strA s.d.sec,none,intA s.d.keep,recA s.log,famA v s.fr s.fr.length,pendA s.d.cache]
def k_write:Con:=.reff ⟨Sto×Int×List UInt8×Nat,fun x=>[.ref 0 0 0,.int .i64 x.2.1,.str x.2.2.1],fun x=>x.1.bx x.2.2.2,fun _=>.tup [],fun x=>(x.1.sd (wrD x.1.d x.2.1 x.2.2.1)).bxC x.2.2.2,fun x=>x.1.d.cache.length<=1048576⟩
noncomputable def b_write:Code:=Tryz.f100.body.getD .skip
theorem call_write:Callable Tryz.prog 100:=⟨_,Tryz.func100,by kernel_rfl,by kernel_rfl⟩
theorem v_write(s:Sto)(at_:Int)(t:List UInt8)(v:Nat)(h:
  (Le 1 1/\Le s.d.cache.length s.d.cache.length/\AppB s.d.cache.length 1 24)/\(True/\True)/\(1=1/\1=1/\(0=0/\s.d.sec.length=s.d.sec.length)/\(0=0/\s.d.cache.length+1=(s.d.cache++[Pend.mk at_ t]).length)/\
  s.d.armed=s.d.armed/\(0=0/\s.d.keep.length=s.d.keep.length)/\s.ep=s.ep/\(0=0/\s.log.length=s.log.length)/\s.sure=s.sure/\(0=0/\s.fr.length=s.fr.length)/\s.hand=s.hand/\True)/\(EqL strRow s.d.sec
  s.d.sec)/\True/\(EqL intRow s.d.keep s.d.keep)/\(EqL recRow s.log s.log)/\(v=v/\s.fr.length=s.fr.length/\FamEq s.fr.length (famRow s.fr) (famRow s.fr))/\(s.d.cache.length+1=(s.d.cache++[Pend.mk at_ t]).length/\
  RowsEq (s.d.cache.length+1) (appRow (pendRow s.d.cache) s.d.cache.length fun(k:Nat)=>List.take 2 (List.drop (k*2) [T.int .i64 at_,T.str t])) (pendRow (s.d.cache++[Pend.mk at_ t])))/\True):
  EffFn Tryz.prog 100 [.ref 0 0 0,.int .i64 at_,.str t] (s.bx v) (.tup []) ((s.sd (wrD s.d at_ t)).bxC v):=
 vcG (code:=b_write) gN Tryz.func100 (by kernel_rfl) (by kernel_rfl) noAnn [[.box 0,.arr 1,.arr 2,.arr 3,.arr 4,.arr 5,.arr 7]] h (by kernel_rfl)
theorem write_ok:ConOk Tryz.prog 100 k_write:=by
 rintro⟨s,at_,t,v⟩ (h:s.d.cache.length<=1048576);have hl:s.d.cache.length+1=(s.d.cache++[(⟨at_,t⟩:Pend)]).length:=by simp
 exact v_write s at_ t v ⟨⟨Nat.le_refl _,Nat.le_refl _,by unfold AppB;omega⟩,⟨trivial,trivial⟩,⟨rfl,rfl,⟨rfl,rfl⟩,⟨rfl,hl⟩,rfl,⟨rfl,rfl⟩,rfl,⟨rfl,rfl⟩,rfl,⟨rfl,rfl⟩,rfl,trivial⟩,⟨rfl,rowsR _ _⟩,trivial,⟨rfl,rowsR _ _⟩,⟨rfl,rowsR _ _⟩,⟨rfl,rfl,famR _⟩,⟨hl,pend_app s.d.cache ⟨at_,t⟩⟩,trivial⟩
def Sto.bxX(s:Sto)(v:Nat)(K:List Int):Heap:=[stoBx (s.tn 1 7 8 4 5),strA s.d.sec,none,none,recA s.log,famA v s.fr s.fr.length,intA K,pendA s.d.cache,intA s.d.keep]
def k_crash:Con:=.reff ⟨Sto×List Int×Nat,fun x=>[.ref 0 0 0,.osl 6 0 x.2.1.length],fun x=>x.1.bx x.2.2++[intA x.2.1],fun _=>.tup [],fun x=>(x.1.sd (crD x.1.d x.2.1)).bxX x.2.2 x.2.1,fun x=>SmD x.1.d/\PdB x.1.d/\x.2.1.length<=1048576⟩
def A_crash(s:Sto)(K:List Int)(v:Nat):Nat->Ann
 |0=>.one {i:Nat//i<=s.d.cache.length} (fun x=>⟨[(0,.ref 0 0 0),(1,.osl 6 0 K.length),(9,.osl 2 0 s.d.cache.length),(10,.int .i64 s.d.cache.length),(11,.int .i64 x.1)],[stoBx (s.tn 1 2 3 4 5),some (.arr true 0 1 s.d.sec.length (strRow (stl s.d.sec s.d.cache (kp K) x.1))),pendA s.d.cache,intA s.d.keep,recA s.log,famA v s.fr s.fr.length,intA K]⟩) (fun x=>s.d.cache.length-x.1) [.box 0,.arr 1,.arr 2,.arr 3,.arr 4,.arr 5,.arr 6] [.box 0,.arr 1,.arr 2,.arr 3,.arr 4,.arr 5,.arr 6] (fun _=>noAnn)
 |_=>.none
noncomputable def b_crash:Code:=Tryz.f158.body.getD .skip
theorem call_crash:Callable Tryz.prog 158:=⟨_,Tryz.func158,by kernel_rfl,by kernel_rfl⟩
theorem v_crash(s:Sto)(K:List Int)(v:Nat)(h:
  (∃(x:{i:Nat//i<=s.d.cache.length}),((0=0/\0=0)/\(0=0/\K.length=K.length)/\(0=0/\s.d.cache.length=s.d.cache.length)/\(s.d.cache.length:Int)=(s.d.cache.length:Int)/\(0:Int)=(x.val:Int)/\True)/\
  (1=1/\1=1/\EqC s s)/\(s.d.sec.length=s.d.sec.length/\RowsEq s.d.sec.length (strRow s.d.sec) (strRow (stl s.d.sec s.d.cache (kp K) x.val)))/\(EqL pendRow s.d.cache s.d.cache)/\(EqL intRow s.d.keep s.d.keep)/\(EqL
  recRow s.log s.log)/\(v=v/\s.fr.length=s.fr.length/\FamEq s.fr.length (famRow s.fr) (famRow s.fr))/\(EqL intRow K K)/\True)/\∀(x:{i:Nat//i<=s.d.cache.length}),(decide ((x.val:Int)<(s.d.cache.length:Int))=
  true->InB (x.val:Int) s.d.cache.length/\Lt (0+(x.val:Int).toNat) s.d.cache.length/\(decide ((x.val:Int)<(K.length:Int))=true->InB (x.val:Int) K.length)/\(decide ((x.val:Int)<(K.length:Int))=true->Lt (0+
  (x.val:Int).toNat) K.length)/\((decide ((x.val:Int)<(K.length:Int))&&K.getD (0+(x.val:Int).toNat) (0:Int) !=(0:Int))=true->InB (s.d.cache.getD (0+(x.val:Int).toNat) default).at_ s.d.sec.length/\Lt (0+
  (s.d.cache.getD (0+(x.val:Int).toNat) default).at_.toNat) s.d.sec.length/\Rng .i64 ((x.val:Int)+(1:Int))/\∃(y:{i:Nat//i<=s.d.cache.length}),(((0=0/\0=0)/\(0=0/\K.length=K.length)/\(0=0/\
  s.d.cache.length=s.d.cache.length)/\(s.d.cache.length:Int)=(s.d.cache.length:Int)/\(x.val:Int)+(1:Int)=(y.val:Int)/\True)/\(1=1/\1=1/\EqC s s)/\(s.d.sec.length=s.d.sec.length/\RowsEq s.d.sec.length (setRow
  (strRow (stl s.d.sec s.d.cache (kp K) x.val)) (0+(s.d.cache.getD (0+(x.val:Int).toNat) default).at_.toNat) 0 [T.str (s.d.cache.getD (0+(x.val:Int).toNat) default).d]) (strRow (stl s.d.sec s.d.cache (kp K) y.val)))/\(EqL
  pendRow s.d.cache s.d.cache)/\(EqL intRow s.d.keep s.d.keep)/\(EqL recRow s.log s.log)/\(v=v/\s.fr.length=s.fr.length/\FamEq s.fr.length (famRow s.fr) (famRow s.fr))/\(EqL intRow K K)/\True)/\Lt (s.d.cache.length-
  y.val) (s.d.cache.length-x.val))/\((decide ((x.val:Int)<(K.length:Int))&&K.getD (0+(x.val:Int).toNat) (0:Int) !=(0:Int))=false->Rng .i64 ((x.val:Int)+(1:Int))/\∃(y:{i:Nat//i<=s.d.cache.length}),
  (((0=0/\0=0)/\(0=0/\K.length=K.length)/\(0=0/\s.d.cache.length=s.d.cache.length)/\(s.d.cache.length:Int)=(s.d.cache.length:Int)/\(x.val:Int)+(1:Int)=(y.val:Int)/\True)/\(1=1/\1=1/\EqC s s)/\
  (s.d.sec.length=s.d.sec.length/\RowsEq s.d.sec.length (strRow (stl s.d.sec s.d.cache (kp K) x.val)) (strRow (stl s.d.sec s.d.cache (kp K) y.val)))/\(EqL pendRow s.d.cache s.d.cache)/\(EqL intRow s.d.keep s.d.keep)/\(EqL
  recRow s.log s.log)/\(v=v/\s.fr.length=s.fr.length/\FamEq s.fr.length (famRow s.fr) (famRow s.fr))/\(EqL intRow K K)/\True)/\Lt (s.d.cache.length-y.val) (s.d.cache.length-x.val)))/\(decide ((x.val:Int)<
  (s.d.cache.length:Int))=false->(True/\True)/\(1=1/\1=1/\(0=0/\s.d.sec.length=(stl s.d.sec s.d.cache (kp K) s.d.cache.length).length)/\(0=0/\0=0)/\false=false/\(0=0/\0=0)/\s.ep=s.ep/\(0=0/\
  s.log.length=s.log.length)/\s.sure=s.sure/\(0=0/\s.fr.length=s.fr.length)/\s.hand=s.hand/\True)/\(s.d.sec.length=(stl s.d.sec s.d.cache (kp K) s.d.cache.length).length/\RowsEq s.d.sec.length (strRow (stl s.d.sec
  s.d.cache (kp K) x.val)) (strRow (stl s.d.sec s.d.cache (kp K) s.d.cache.length)))/\True/\True/\(EqL recRow s.log s.log)/\(v=v/\s.fr.length=s.fr.length/\FamEq s.fr.length (famRow s.fr) (famRow s.fr))/\(EqL intRow K K)/\
  (0=0/\RowsEq 0 (fun(x:Nat)=>[]) (pendRow []))/\(0=0/\RowsEq 0 (fun(x:Nat)=>[]) (intRow []))/\True)):
  EffFn Tryz.prog 158 [.ref 0 0 0,.osl 6 0 K.length] (s.bx v++[intA K]) (.tup []) ((s.sd (crD s.d K)).bxX v K):=
 vcG (code:=b_crash) gN Tryz.func158 (by kernel_rfl) (by kernel_rfl) (A_crash s K v) [[.nilC 0 1 0 2,.nilC 0 3 0 1,.box 0,.arr 1,.arr 2,.arr 3,.arr 4,.arr 5,.arr 6,.arr 7,.arr 8]] h (by kernel_rfl)
theorem crash_ok:ConOk Tryz.prog 158 k_crash:=by
 rintro⟨s,K,v⟩ ⟨⟨h1,h2,h3⟩,h4,h5⟩;dsimp only at h1 h2 h3 h4 h5;refine v_crash s K v ⟨⟨⟨0,Nat.zero_le _⟩,⟨⟨rfl,rfl⟩,⟨rfl,rfl⟩,⟨rfl,rfl⟩,rfl,rfl,trivial⟩,⟨rfl,rfl,⟨rfl,rfl⟩,⟨rfl,rfl⟩,rfl,⟨rfl,rfl⟩,rfl,⟨rfl,rfl⟩,rfl,⟨rfl,rfl⟩,rfl,trivial⟩,⟨rfl,rowsR _ _⟩,⟨rfl,rowsR _ _⟩,⟨rfl,rowsR _ _⟩,⟨rfl,rowsR _ _⟩,⟨rfl,rfl,famR _⟩,⟨rfl,rowsR _ _⟩,trivial⟩,fun x=>⟨fun hc=> ?_,fun hc=> ?_⟩⟩
 ·have hlt:=lt_of_dec hc;have ek:(decide ((x.val:Int)<(K.length:Int))&&K.getD x.val 0 !=0)=kp K x.val:=by
   unfold kp;rw[show decide ((x.val:Int)<(K.length:Int))=decide (x.val<K.length) from decide_eq_decide.2 (by omega)]
  rw[Int.toNat_natCast,show 0+x.val=x.val by omega,ek]
  have ha:=h4 x.val hlt;refine⟨inB_nat hlt,hlt,fun h=>inB_nat (lt_of_dec h),fun h=>lt_of_dec h,fun hk=> ?_,fun hk=> ?_⟩
  ·exact⟨ha,by unfold Lt;omega,i64_rng (by omega),⟨x.val+1,hlt⟩,⟨⟨⟨rfl,rfl⟩,⟨rfl,rfl⟩,⟨rfl,rfl⟩,rfl,by dsimp only;omega,trivial⟩,⟨rfl,rfl,⟨rfl,rfl⟩,⟨rfl,rfl⟩,rfl,⟨rfl,rfl⟩,rfl,⟨rfl,rfl⟩,rfl,⟨rfl,rfl⟩,rfl,trivial⟩,⟨rfl,stl_set hk⟩,⟨rfl,rowsR _ _⟩,⟨rfl,rowsR _ _⟩,⟨rfl,rowsR _ _⟩,⟨rfl,rfl,famR _⟩,⟨rfl,rowsR _ _⟩,trivial⟩,Cnt.ext_lt hlt⟩
  ·exact⟨i64_rng (by omega),⟨x.val+1,hlt⟩,⟨⟨⟨rfl,rfl⟩,⟨rfl,rfl⟩,⟨rfl,rfl⟩,rfl,by dsimp only;omega,trivial⟩,⟨rfl,rfl,⟨rfl,rfl⟩,⟨rfl,rfl⟩,rfl,⟨rfl,rfl⟩,rfl,⟨rfl,rfl⟩,rfl,⟨rfl,rfl⟩,rfl,trivial⟩,⟨rfl,fun j _=>by dsimp only;rw[stl_f hk]⟩,⟨rfl,rowsR _ _⟩,⟨rfl,rowsR _ _⟩,⟨rfl,rowsR _ _⟩,⟨rfl,rfl,famR _⟩,⟨rfl,rowsR _ _⟩,trivial⟩,Cnt.ext_lt hlt⟩
 ·have hx:x.val=s.d.cache.length:=by have:=x.2;have:=le_of_not hc;omega
  rw[hx];have hl:=(stl_len s.d.sec s.d.cache (kp K) s.d.cache.length).symm;exact⟨⟨trivial,trivial⟩,⟨rfl,rfl,⟨rfl,hl⟩,⟨rfl,rfl⟩,rfl,⟨rfl,rfl⟩,rfl,⟨rfl,rfl⟩,rfl,⟨rfl,rfl⟩,rfl,trivial⟩,⟨hl,rowsR _ _⟩,trivial,trivial,⟨rfl,rowsR _ _⟩,⟨rfl,rfl,famR _⟩,⟨rfl,rowsR _ _⟩,⟨rfl,row0⟩,⟨rfl,row0⟩,trivial⟩
def Sto.bxY(s:Sto)(v:Nat):Heap:=[stoBx (s.tn 1 6 7 4 5),strA s.d.sec,none,none,recA s.log,famA v s.fr s.fr.length,pendA s.d.cache,intA s.d.keep]
def k_sync:Con:=.reff ⟨Sto×Nat,fun x=>[.ref 0 0 0],fun x=>x.1.bx x.2,fun x=>.bool (synD x.1.d).2,fun x=>(x.1.sd ((synD x.1.d).1)).bxY x.2,fun x=>SmD x.1.d/\PdB x.1.d⟩
def A_sync(s:Sto)(v:Nat):Nat->Ann
 |0=>.one {i:Nat//i<=s.d.cache.length} (fun x=>⟨[(0,.ref 0 0 0),(19,.osl 2 0 s.d.cache.length),(20,.int .i64 s.d.cache.length),(21,.int .i64 x.1)],[stoBx (s.tn 1 2 3 4 5),some (.arr true 0 1 s.d.sec.length (strRow (stl s.d.sec s.d.cache (fun _=>true) x.1))),pendA s.d.cache,intA s.d.keep,recA s.log,famA v s.fr s.fr.length]⟩) (fun x=>s.d.cache.length-x.1) [.box 0,.arr 1,.arr 2,.arr 3,.arr 4,.arr 5] [.box 0,.arr 1,.arr 2,.arr 3,.arr 4,.arr 5] (fun _=>noAnn)
 |_=>.none
noncomputable def b_sync:Code:=Tryz.f102.body.getD .skip
theorem call_sync:Callable Tryz.prog 102:=⟨_,Tryz.func102,by kernel_rfl,by kernel_rfl⟩
theorem v_sync(s:Sto)(v:Nat)(h:
  (s.d.armed=true->∃(x:(List Int)),(Le (0+s.d.keep.length) s.d.keep.length/\((s.d.keep.length=List.length x/\RowsEq s.d.keep.length (intRow s.d.keep) (intRow x))/\True)/\List.length x<=1048576)/\∃(x_1:(Sto×List
  Int×Nat)),(((0=0/\0=0)/\(0=0/\List.length x=x_1.snd.fst.length)/\True)/\((1=1/\1=1/\EqC s x_1.fst)/\(EqL strRow s.d.sec x_1.fst.d.sec)/\(EqL pendRow s.d.cache x_1.fst.d.cache)/\(EqL intRow s.d.keep
  x_1.fst.d.keep)/\(EqL recRow s.log x_1.fst.log)/\(v=x_1.snd.snd/\s.fr.length=x_1.fst.fr.length/\FamEq s.fr.length (famRow s.fr) (famRow x_1.fst.fr))/\(List.length x=x_1.snd.fst.length/\RowsEq (List.length x) (intRow x)
  (intRow x_1.snd.fst))/\True)/\SmD x_1.fst.d/\PdB x_1.fst.d/\x_1.snd.fst.length<=1048576)/\(false=(synD s.d).snd/\True)/\(1=1/\1=1/\(0=0/\(stl x_1.fst.d.sec x_1.fst.d.cache (kp x_1.snd.fst)
  x_1.fst.d.cache.length).length=(synD s.d).fst.sec.length)/\(0=0/\0=(synD s.d).fst.cache.length)/\false=(synD s.d).fst.armed/\(0=0/\0=(synD s.d).fst.keep.length)/\x_1.fst.ep=s.ep/\(0=0/\x_1.fst.log.length=
  s.log.length)/\x_1.fst.sure=s.sure/\(0=0/\x_1.fst.fr.length=s.fr.length)/\x_1.fst.hand=s.hand/\True)/\(EqL strRow (stl x_1.fst.d.sec x_1.fst.d.cache (kp x_1.snd.fst) x_1.fst.d.cache.length) (synD s.d).fst.sec)/\True
  /\True/\(EqL recRow x_1.fst.log s.log)/\(x_1.snd.snd=v/\x_1.fst.fr.length=s.fr.length/\FamEq x_1.fst.fr.length (famRow x_1.fst.fr) (famRow s.fr))/\(0=(synD s.d).fst.cache.length/\RowsEq 0 (pendRow []) (pendRow (synD
  s.d).fst.cache))/\(0=(synD s.d).fst.keep.length/\RowsEq 0 (intRow []) (intRow (synD s.d).fst.keep))/\True)/\(s.d.armed=false->(∃(x:{i:Nat//i<=s.d.cache.length}),((0=0/\0=0)/\(0=0/\s.d.cache.length=
  s.d.cache.length)/\(s.d.cache.length:Int)=(s.d.cache.length:Int)/\(0:Int)=(x.val:Int)/\True)/\(1=1/\1=1/\EqC s s)/\(s.d.sec.length=s.d.sec.length/\RowsEq s.d.sec.length (strRow s.d.sec) (strRow (stl s.d.sec
  s.d.cache (fun(x:Nat)=>true) x.val)))/\(EqL pendRow s.d.cache s.d.cache)/\(EqL intRow s.d.keep s.d.keep)/\(EqL recRow s.log s.log)/\(v=v/\s.fr.length=s.fr.length/\FamEq s.fr.length (famRow s.fr) (famRow s.fr))/\
  True)/\∀(x:{i:Nat//i<=s.d.cache.length}),(decide ((x.val:Int)<(s.d.cache.length:Int))=true->InB (x.val:Int) s.d.cache.length/\Lt (0+(x.val:Int).toNat) s.d.cache.length/\InB (s.d.cache.getD (0+
  (x.val:Int).toNat) default).at_ s.d.sec.length/\Lt (0+(s.d.cache.getD (0+(x.val:Int).toNat) default).at_.toNat) s.d.sec.length/\Rng .i64 ((x.val:Int)+(1:Int))/\∃(y:{i:Nat//i<=s.d.cache.length}),(((0=0/\0=
  0)/\(0=0/\s.d.cache.length=s.d.cache.length)/\(s.d.cache.length:Int)=(s.d.cache.length:Int)/\(x.val:Int)+(1:Int)=(y.val:Int)/\True)/\(1=1/\1=1/\EqC s s)/\(s.d.sec.length=s.d.sec.length/\RowsEq
  s.d.sec.length (setRow (strRow (stl s.d.sec s.d.cache (fun(x:Nat)=>true) x.val)) (0+(s.d.cache.getD (0+(x.val:Int).toNat) default).at_.toNat) 0 [T.str (s.d.cache.getD (0+(x.val:Int).toNat) default).d]) (strRow (stl
  s.d.sec s.d.cache (fun(x:Nat)=>true) y.val)))/\(EqL pendRow s.d.cache s.d.cache)/\(EqL intRow s.d.keep s.d.keep)/\(EqL recRow s.log s.log)/\(v=v/\s.fr.length=s.fr.length/\FamEq s.fr.length (famRow s.fr) (famRow
  s.fr))/\True)/\Lt (s.d.cache.length-y.val) (s.d.cache.length-x.val))/\(decide ((x.val:Int)<(s.d.cache.length:Int))=false->(true=(synD s.d).snd/\True)/\(1=1/\1=1/\(0=0/\s.d.sec.length=(synD
  s.d).fst.sec.length)/\(0=0/\0=(synD s.d).fst.cache.length)/\s.d.armed=(synD s.d).fst.armed/\(0=0/\s.d.keep.length=(synD s.d).fst.keep.length)/\s.ep=s.ep/\(0=0/\s.log.length=s.log.length)/\s.sure=s.sure/\
  (0=0/\s.fr.length=s.fr.length)/\s.hand=s.hand/\True)/\(s.d.sec.length=(synD s.d).fst.sec.length/\RowsEq s.d.sec.length (strRow (stl s.d.sec s.d.cache (fun(x:Nat)=>true) x.val)) (strRow (synD s.d).fst.sec))/\True
  /\True/\(EqL recRow s.log s.log)/\(v=v/\s.fr.length=s.fr.length/\FamEq s.fr.length (famRow s.fr) (famRow s.fr))/\(0=(synD s.d).fst.cache.length/\RowsEq 0 (fun(x:Nat)=>[]) (pendRow (synD s.d).fst.cache))/\(EqL
  intRow s.d.keep (synD s.d).fst.keep)/\True))):
  EffFn Tryz.prog 102 [.ref 0 0 0] (s.bx v) (.bool (synD s.d).2) ((s.sd ((synD s.d).1)).bxY v):=
 vcG (code:=b_sync) (gC clInt_ok call_clInt (gC crash_ok call_crash gN)) Tryz.func102 (by kernel_rfl) (by kernel_rfl) (A_sync s v) [[.box 0,.arr 1,.arr 2,.arr 3,.arr 4,.arr 5,.arr 7,.arr 8],[.nilC 0 1 0 2,.box 0,.arr 1,.arr 2,.arr 3,.arr 4,.arr 5,.arr 6,.arr 3]] h (by kernel_rfl)
theorem sync_ok:ConOk Tryz.prog 102 k_sync:=by
 rintro⟨s,v⟩ ⟨⟨h1,h2,h3⟩,h4⟩;dsimp only at h1 h2 h3 h4;refine v_sync s v ⟨fun ha=> ?_,fun ha=> ?_⟩
 ·have e:synD s.d=(crD s.d s.d.keep,false):=by unfold synD;rw[if_pos ha]
  rw[e];exact⟨s.d.keep,⟨le0 _,⟨⟨rfl,rowsR _ _⟩,trivial⟩,h3⟩,(s,s.d.keep,v),⟨⟨⟨rfl,rfl⟩,⟨rfl,rfl⟩,trivial⟩,⟨⟨rfl,rfl,⟨rfl,rfl⟩,⟨rfl,rfl⟩,rfl,⟨rfl,rfl⟩,rfl,⟨rfl,rfl⟩,rfl,⟨rfl,rfl⟩,rfl,trivial⟩,⟨rfl,rowsR _ _⟩,⟨rfl,rowsR _ _⟩,⟨rfl,rowsR _ _⟩,⟨rfl,rowsR _ _⟩,⟨rfl,rfl,famR _⟩,⟨rfl,rowsR _ _⟩,trivial⟩,⟨h1,h2,h3⟩,h4,h3⟩,⟨rfl,trivial⟩,⟨rfl,rfl,⟨rfl,rfl⟩,⟨rfl,rfl⟩,rfl,⟨rfl,rfl⟩,rfl,⟨rfl,rfl⟩,rfl,⟨rfl,rfl⟩,rfl,trivial⟩,⟨rfl,rowsR _ _⟩,trivial,trivial,⟨rfl,rowsR _ _⟩,⟨rfl,rfl,famR _⟩,⟨rfl,row0⟩,⟨rfl,row0⟩,trivial⟩
 ·have e:synD s.d=(⟨stl s.d.sec s.d.cache (fun _=>true) s.d.cache.length,[],s.d.armed,s.d.keep⟩,true):=by unfold synD;rw[if_neg (by rw[ha];simp)]
  rw[e];refine⟨⟨⟨0,Nat.zero_le _⟩,⟨⟨rfl,rfl⟩,⟨rfl,rfl⟩,rfl,rfl,trivial⟩,⟨rfl,rfl,⟨rfl,rfl⟩,⟨rfl,rfl⟩,rfl,⟨rfl,rfl⟩,rfl,⟨rfl,rfl⟩,rfl,⟨rfl,rfl⟩,rfl,trivial⟩,⟨rfl,rowsR _ _⟩,⟨rfl,rowsR _ _⟩,⟨rfl,rowsR _ _⟩,⟨rfl,rowsR _ _⟩,⟨rfl,rfl,famR _⟩,trivial⟩,fun x=>⟨fun hc=> ?_,fun hc=> ?_⟩⟩
  ·have hlt:=lt_of_dec hc;rw[Int.toNat_natCast,show 0+x.val=x.val by omega]
   have ha:=h4 x.val hlt;exact⟨inB_nat hlt,hlt,ha,by unfold Lt;omega,i64_rng (by omega),⟨x.val+1,hlt⟩,⟨⟨⟨rfl,rfl⟩,⟨rfl,rfl⟩,rfl,by dsimp only;omega,trivial⟩,⟨rfl,rfl,⟨rfl,rfl⟩,⟨rfl,rfl⟩,rfl,⟨rfl,rfl⟩,rfl,⟨rfl,rfl⟩,rfl,⟨rfl,rfl⟩,rfl,trivial⟩,⟨rfl,stl_set (Q:=fun _=>true) rfl⟩,⟨rfl,rowsR _ _⟩,⟨rfl,rowsR _ _⟩,⟨rfl,rowsR _ _⟩,⟨rfl,rfl,famR _⟩,trivial⟩,Cnt.ext_lt hlt⟩
  ·have hx:x.val=s.d.cache.length:=by have:=x.2;have:=le_of_not hc;omega
   rw[hx];have hl:=(stl_len s.d.sec s.d.cache (fun _=>true) s.d.cache.length).symm
   exact⟨⟨rfl,trivial⟩,⟨rfl,rfl,⟨rfl,hl⟩,⟨rfl,rfl⟩,rfl,⟨rfl,rfl⟩,rfl,⟨rfl,rfl⟩,rfl,⟨rfl,rfl⟩,rfl,trivial⟩,⟨hl,rowsR _ _⟩,trivial,trivial,⟨rfl,rowsR _ _⟩,⟨rfl,rfl,famR _⟩,⟨rfl,row0⟩,⟨rfl,rowsR _ _⟩,trivial⟩
end Go.Proofs.YtndilbkocjlgpaaGreat

namespace Go.Proofs.YtndilbkocjlgpaaGreat
set_option maxRecDepth 100000
open Go.SS

theorem go_ok{hi lsn:Int}{s:RdSt}:∀n,(RdSt.go hi lsn s n).ok=true->s.ok=true
 |0,h=>h
 |n+1,h=>by
  refine go_ok (hi:=hi) (lsn:=lsn) n ?_
  simp only[RdSt.go,RdSt.step,Bool.and_eq_true] at h;exact h.1.1
theorem go_len{hi lsn:Int}{s:RdSt}:∀n,s.l.length<=(RdSt.go hi lsn s n).l.length+2*n
 |0=>by simp[RdSt.go]
 |n+1=>by
  have:=go_len (hi:=hi) (lsn:=lsn) (s:=s) n;simp only[RdSt.go,RdSt.step,List.length_drop];omega
theorem rl_len{most lo hi lsn:Int}{l:List UInt8}{fl:Bool}(h:(rlEnd most lo hi lsn l fl).ok=true):(l.length:Int)<=(rlEnd most lo hi lsn l fl).l.length+2*most+1:=by
 have h1:=go_ok _ h;have h2:=go_len (hi:=hi) (lsn:=lsn) (s:=rl0 most lo l fl) (numR l).toNat;have h3:numR l<=most:=of_decide_eq_true h1;have h4:=(numR_in l).1;have h5:(rl0 most lo l fl).l.length=l.length-1:=by simp[rl0]
 have h6:(rlEnd most lo hi lsn l fl).l.length=(RdSt.go hi lsn (rl0 most lo l fl) (numR l).toNat).l.length:=rfl;omega
theorem chk_len{a:List UInt8}{lsn:Int}(h:chkL a lsn=true):a.length<=38:=by
 unfold chkL at h;simp only[Bool.and_eq_true] at h;have h1:=rl_len h.1.1.1;have h2:=rl_len h.1.2.1;have h3:=List.isEmpty_iff.1 h.2.2;rw[h3] at h2;simp at h2;omega
theorem rec_sm{r:Rec}(h:recOK r=true):RcSm r:=by
 have h:=(recOK_iff r).1 h;unfold RecP at h;obtain⟨_,_,_,_,_,_,_,_,_,_,_,_,_,_,hb,h6,h7⟩:=h;refine⟨by omega,?_⟩
 by_cases hk:r.k=6
 ·have:=chk_len (h6 hk).2.2.2.2.2.2;omega
 ·have:=(h7 hk).2.2.1;omega
def pdR(s:Sto)(i:Nat):Pend:=⟨9+(s.log.getD (s.sure.toNat+i) default).l-1,rcBytes (s.log.getD (s.sure.toNat+i) default)⟩
def wrN(s:Sto)(n:Nat):Dsk:=⟨s.d.sec,s.d.cache++(List.range n).map (pdR s),s.d.armed,s.d.keep⟩
def fluN(s:Sto)(lsn:Int):Nat:=lsn.toNat-s.sure.toNat
def fluS(s:Sto)(lsn:Int):Sto×Bool:=if lsn<=s.sure then(s,true) else
 (⟨(synD (wrN s (fluN s lsn))).1,s.ep,s.log,if(synD (wrN s (fluN s lsn))).2=true then lsn else s.sure,s.fr,s.hand⟩,(synD (wrN s (fluN s lsn))).2)
def FluB(s:Sto)(lsn:Int):Prop:=SmD s.d/\s.d.cache.length<=1000/\PdB s.d/\s.d.sec.length=69/\0<=s.sure/\s.sure<=s.log.length/\s.log.length<=60/\lsn<=s.log.length/\∀i,i<s.log.length->(s.log.getD i default).l=(i:Int)+1/\RcSm (s.log.getD i default)
def k_flush:Con:=.reff ⟨Sto×Int×Nat,fun x=>[.ref 0 0 0,.int .i64 x.2.1],fun x=>x.1.bx x.2.2,fun x=>.bool (fluS x.1 x.2.1).2,fun x=>(fluS x.1 x.2.1).1.bxY x.2.2,fun x=>FluB x.1 x.2.1⟩
def A_flush(s:Sto)(lsn:Int)(v:Nat):Nat->Ann
 |0=>.one {i:Nat//i<=fluN s lsn} (fun x=>⟨[(0,.ref 0 0 0),(1,.int .i64 lsn),(22,.osl 4 s.sure.toNat (fluN s lsn)),(23,.int .i64 (fluN s lsn)),(24,.int .i64 x.1)],(s.sd (wrN s x.1)).bxC v⟩) (fun x=>fluN s lsn-x.1) [.box 0,.arr 1,.arr 2,.arr 3,.arr 4,.arr 5,.arr 2] [.box 0,.arr 1,.arr 2,.arr 3,.arr 4,.arr 5,.arr 8] (fun _=>noAnn)
 |_=>.none
noncomputable def b_flush:Code:=Tryz.f47.body.getD .skip
theorem call_flush:Callable Tryz.prog 47:=⟨_,Tryz.func47,by kernel_rfl,by kernel_rfl⟩
theorem v_flush(s:Sto)(lsn:Int)(v:Nat)(h:
  (decide (lsn<=s.sure)=true->(true=(fluS s lsn).snd/\True)/\(1=1/\1=1/\EqC s (fluS s lsn).fst)/\(EqL strRow s.d.sec (fluS s lsn).fst.d.sec)/\True/\True/\(EqL recRow s.log (fluS s lsn).fst.log)/\(v=v/\
  s.fr.length=(fluS s lsn).fst.fr.length/\FamEq s.fr.length (famRow s.fr) (famRow (fluS s lsn).fst.fr))/\(EqL pendRow s.d.cache (fluS s lsn).fst.d.cache)/\(EqL intRow s.d.keep (fluS s lsn).fst.d.keep)/\True)/\(decide (lsn<=
  s.sure)=false->InC2 s.sure lsn s.log.length/\(∃(x:{i:Nat//i<=fluN s lsn}),((0=0/\0=0)/\lsn=lsn/\(0+s.sure.toNat=s.sure.toNat/\lsn.toNat-s.sure.toNat=fluN s lsn)/\(↑(lsn.toNat-s.sure.toNat):
  Int)=(↑(fluN s lsn):Int)/\(0:Int)=(x.val:Int)/\True)/\(1=1/\1=1/\(0=0/\s.d.sec.length=s.d.sec.length)/\(0=0/\s.d.cache.length=(s.d.cache++List.map (pdR s) (List.range x.val)).length)/\s.d.armed=
  s.d.armed/\(0=0/\s.d.keep.length=s.d.keep.length)/\s.ep=s.ep/\(0=0/\s.log.length=s.log.length)/\s.sure=s.sure/\(0=0/\s.fr.length=s.fr.length)/\s.hand=s.hand/\True)/\(EqL strRow s.d.sec s.d.sec)/\True
  /\(EqL intRow s.d.keep s.d.keep)/\(EqL recRow s.log s.log)/\(v=v/\s.fr.length=s.fr.length/\FamEq s.fr.length (famRow s.fr) (famRow s.fr))/\(EqL pendRow s.d.cache (s.d.cache++List.map (pdR s) (List.range x.val)))/\True)
  /\∀(x:{i:Nat//i<=fluN s lsn}),(decide ((x.val:Int)<(↑(fluN s lsn):Int))=true->InB (x.val:Int) (fluN s lsn)/\Lt (s.sure.toNat+(x.val:Int).toNat) s.log.length/\Rng .i64 ((9:Int)+(s.log.getD (s.sure.toNat+
  (x.val:Int).toNat) default).l)/\Rng .i64 ((9:Int)+(s.log.getD (s.sure.toNat+(x.val:Int).toNat) default).l- (1:Int))/\∃(x_1:Rec),(((EqR (s.log.getD (s.sure.toNat+(x.val:Int).toNat) default) x_1)/\True)/\RcSm x_1)
  /\∃(x_2:(Sto×Int×List UInt8×Nat)),(((0=0/\0=0)/\(9:Int)+(s.log.getD (s.sure.toNat+(x.val:Int).toNat) default).l- (1:Int)=x_2.snd.fst/\rcBytes x_1=x_2.snd.snd.fst/\True)/\((1=1/\1=1/\(0=0/\
  s.d.sec.length=x_2.fst.d.sec.length)/\(0=0/\(s.d.cache++List.map (pdR s) (List.range x.val)).length=x_2.fst.d.cache.length)/\s.d.armed=x_2.fst.d.armed/\(0=0/\s.d.keep.length=x_2.fst.d.keep.length)/\s.ep=
  x_2.fst.ep/\(0=0/\s.log.length=x_2.fst.log.length)/\s.sure=x_2.fst.sure/\(0=0/\s.fr.length=x_2.fst.fr.length)/\s.hand=x_2.fst.hand/\True)/\(EqL strRow s.d.sec x_2.fst.d.sec)/\(EqL pendRow (s.d.cache++
  List.map (pdR s) (List.range x.val)) x_2.fst.d.cache)/\(EqL intRow s.d.keep x_2.fst.d.keep)/\(EqL recRow s.log x_2.fst.log)/\(v=x_2.snd.snd.snd/\s.fr.length=x_2.fst.fr.length/\FamEq s.fr.length (famRow s.fr) (famRow
  x_2.fst.fr))/\True)/\x_2.fst.d.cache.length<=1048576)/\Rng .i64 ((x.val:Int)+(1:Int))/\∃(y:{i:Nat//i<=fluN s lsn}),(((0=0/\0=0)/\lsn=lsn/\(s.sure.toNat=s.sure.toNat/\fluN s lsn=fluN s lsn)/\
  (↑(fluN s lsn):Int)=(↑(fluN s lsn):Int)/\(x.val:Int)+(1:Int)=(y.val:Int)/\True)/\(1=1/\1=1/\(0=0/\x_2.fst.d.sec.length=s.d.sec.length)/\(0=0/\(x_2.fst.d.cache++[Pend.mk x_2.snd.fst
  x_2.snd.snd.fst]).length=(s.d.cache++List.map (pdR s) (List.range y.val)).length)/\x_2.fst.d.armed=s.d.armed/\(0=0/\x_2.fst.d.keep.length=s.d.keep.length)/\x_2.fst.ep=s.ep/\(0=0/\x_2.fst.log.length=
  s.log.length)/\x_2.fst.sure=s.sure/\(0=0/\x_2.fst.fr.length=s.fr.length)/\x_2.fst.hand=s.hand/\True)/\(EqL strRow x_2.fst.d.sec s.d.sec)/\True/\(EqL intRow x_2.fst.d.keep s.d.keep)/\(EqL recRow x_2.fst.log s.log)
  /\(x_2.snd.snd.snd=v/\x_2.fst.fr.length=s.fr.length/\FamEq x_2.fst.fr.length (famRow x_2.fst.fr) (famRow s.fr))/\(EqL pendRow (x_2.fst.d.cache++[Pend.mk x_2.snd.fst x_2.snd.snd.fst]) (s.d.cache++List.map (pdR s)
  (List.range y.val)))/\True)/\Lt (fluN s lsn-y.val) (fluN s lsn-x.val))/\(decide ((x.val:Int)<(↑(fluN s lsn):Int))=false->∃(x_1:(Sto×Nat)),(((0=0/\0=0)/\True)/\((1=1/\1=1/\(0=0/\s.d.sec.length=
  x_1.fst.d.sec.length)/\(0=0/\(s.d.cache++List.map (pdR s) (List.range x.val)).length=x_1.fst.d.cache.length)/\s.d.armed=x_1.fst.d.armed/\(0=0/\s.d.keep.length=x_1.fst.d.keep.length)/\s.ep=x_1.fst.ep/\(0=0/\
  s.log.length=x_1.fst.log.length)/\s.sure=x_1.fst.sure/\(0=0/\s.fr.length=x_1.fst.fr.length)/\s.hand=x_1.fst.hand/\True)/\(EqL strRow s.d.sec x_1.fst.d.sec)/\(EqL pendRow (s.d.cache++List.map (pdR s) (List.range
  x.val)) x_1.fst.d.cache)/\(EqL intRow s.d.keep x_1.fst.d.keep)/\(EqL recRow s.log x_1.fst.log)/\(v=x_1.snd/\s.fr.length=x_1.fst.fr.length/\FamEq s.fr.length (famRow s.fr) (famRow x_1.fst.fr))/\True)/\SmD x_1.fst.d/\PdB
  x_1.fst.d)/\((!(synD x_1.fst.d).snd)=true->(false=(fluS s lsn).snd/\True)/\(1=1/\1=1/\(0=0/\(synD x_1.fst.d).fst.sec.length=(fluS s lsn).fst.d.sec.length)/\(0=0/\(synD x_1.fst.d).fst.cache.length=(fluS s
  lsn).fst.d.cache.length)/\(synD x_1.fst.d).fst.armed=(fluS s lsn).fst.d.armed/\(0=0/\(synD x_1.fst.d).fst.keep.length=(fluS s lsn).fst.d.keep.length)/\x_1.fst.ep=(fluS s lsn).fst.ep/\(0=0/\x_1.fst.log.length=
  (fluS s lsn).fst.log.length)/\x_1.fst.sure=(fluS s lsn).fst.sure/\(0=0/\x_1.fst.fr.length=(fluS s lsn).fst.fr.length)/\x_1.fst.hand=(fluS s lsn).fst.hand/\True)/\(EqL strRow (synD x_1.fst.d).fst.sec (fluS s
  lsn).fst.d.sec)/\True/\True/\(EqL recRow x_1.fst.log (fluS s lsn).fst.log)/\(x_1.snd=v/\x_1.fst.fr.length=(fluS s lsn).fst.fr.length/\FamEq x_1.fst.fr.length (famRow x_1.fst.fr) (famRow (fluS s lsn).fst.fr))/\(EqL
  pendRow (synD x_1.fst.d).fst.cache (fluS s lsn).fst.d.cache)/\(EqL intRow (synD x_1.fst.d).fst.keep (fluS s lsn).fst.d.keep)/\True)/\((!(synD x_1.fst.d).snd)=false->(true=(fluS s lsn).snd/\True)/\(1=1/\1=1/\(0=0
  /\(synD x_1.fst.d).fst.sec.length=(fluS s lsn).fst.d.sec.length)/\(0=0/\(synD x_1.fst.d).fst.cache.length=(fluS s lsn).fst.d.cache.length)/\(synD x_1.fst.d).fst.armed=(fluS s lsn).fst.d.armed/\(0=0/\(synD
  x_1.fst.d).fst.keep.length=(fluS s lsn).fst.d.keep.length)/\x_1.fst.ep=(fluS s lsn).fst.ep/\(0=0/\x_1.fst.log.length=(fluS s lsn).fst.log.length)/\lsn=(fluS s lsn).fst.sure/\(0=0/\x_1.fst.fr.length=(fluS s
  lsn).fst.fr.length)/\x_1.fst.hand=(fluS s lsn).fst.hand/\True)/\(EqL strRow (synD x_1.fst.d).fst.sec (fluS s lsn).fst.d.sec)/\True/\True/\(EqL recRow x_1.fst.log (fluS s lsn).fst.log)/\(x_1.snd=v/\x_1.fst.fr.length=
  (fluS s lsn).fst.fr.length/\FamEq x_1.fst.fr.length (famRow x_1.fst.fr) (famRow (fluS s lsn).fst.fr))/\(EqL pendRow (synD x_1.fst.d).fst.cache (fluS s lsn).fst.d.cache)/\(EqL intRow (synD x_1.fst.d).fst.keep (fluS s
  lsn).fst.d.keep)/\True)))):
  EffFn Tryz.prog 47 [.ref 0 0 0,.int .i64 lsn] (s.bx v) (.bool (fluS s lsn).2) ((fluS s lsn).1.bxY v):=
 vcG (code:=b_flush) (gC recordBytes_ok call_recordBytes (gC write_ok call_write (gC sync_ok call_sync gN))) Tryz.func47 (by kernel_rfl) (by kernel_rfl) (A_flush s lsn v) [[.box 0,.arr 1,.arr 2,.arr 3,.arr 4,.arr 5,.arr 7,.arr 8],[.box 0,.arr 1,.arr 2,.arr 3,.arr 4,.arr 5,.arr 2,.arr 3]] h (by kernel_rfl)
theorem flu_le{s:Sto}{lsn:Int}(h:lsn<=s.sure):fluS s lsn=(s,true):=if_pos h
theorem flu_gt{s:Sto}{lsn:Int}(h:¬lsn<=s.sure):fluS s lsn=(⟨(synD (wrN s (fluN s lsn))).1,s.ep,s.log,if(synD (wrN s (fluN s lsn))).2=true then lsn else s.sure,s.fr,s.hand⟩,(synD (wrN s (fluN s lsn))).2):=if_neg h
theorem flu_nd{s:Sto}{lsn:Int}{i:Nat}(h:FluB s lsn)(hi:i<fluN s lsn):(pdR s i).at_=9+s.sure+i/\RcSm (s.log.getD (s.sure.toNat+i) default)/\s.sure+i<lsn:=by
 obtain⟨_,_,_,_,h5,h6,_,h8,h9⟩:=h;unfold fluN at hi;obtain⟨a,b⟩:=h9 (s.sure.toNat+i) (by omega)
 refine⟨?_,b,by omega⟩
 unfold pdR;dsimp only;rw[a];omega
theorem wrN_succ(s:Sto)(n:Nat):s.d.cache++List.map (pdR s) (List.range n)++[pdR s n]=s.d.cache++List.map (pdR s) (List.range (n+1)):=by
 rw[List.range_succ,List.map_append,List.append_assoc];rfl
theorem wrN_pd{s:Sto}{lsn:Int}(h:FluB s lsn):SmD (wrN s (fluN s lsn))/\PdB (wrN s (fluN s lsn)):=by
 have hn:=fun i=>flu_nd (i:=i) h
 obtain⟨⟨a1,a2,a3⟩,h2,h3,h4,h5,h6,h7,h8,h9⟩:=h;have hN:fluN s lsn<=60:=by unfold fluN;omega
 refine⟨⟨a1,?_,a3⟩,fun i hi=> ?_⟩
 ·show(s.d.cache++List.map (pdR s) (List.range _)).length<=1048576;simp only[List.length_append,List.length_map,List.length_range];omega
 ·have hi:i<(s.d.cache++List.map (pdR s) (List.range (fluN s lsn))).length:=hi;show 0<=((s.d.cache++List.map (pdR s) (List.range (fluN s lsn))).getD i default).at_/\((s.d.cache++List.map (pdR s) (List.range (fluN s lsn))).getD i default).at_<(s.d.sec.length:Int);rw[h4,List.getD_eq_getElem?_getD]
  by_cases hc:i<s.d.cache.length
  ·rw[List.getElem?_append_left hc,←List.getD_eq_getElem?_getD]
   have:=h3 i hc;rw[h4] at this;exact this
  ·rw[List.getElem?_append_right (by omega),←List.getD_eq_getElem?_getD]
   simp only[List.length_append,List.length_map,List.length_range] at hi;rw[mk_at _ (by omega)]
   obtain⟨e,_,q⟩:=hn (i-s.d.cache.length) (by omega)
   rw[e];omega
theorem flush_ok:ConOk Tryz.prog 47 k_flush:=by
 rintro⟨s,lsn,v⟩ h;dsimp only at h;have hn:=fun i=>flu_nd (i:=i) h
 have hw:=wrN_pd h;obtain⟨⟨a1,a2,a3⟩,h2,h3,h4,h5,h6,h7,h8,h9⟩:=h;have hN:fluN s lsn<=60:=by unfold fluN;omega
 refine v_flush s lsn v ⟨fun hc=> ?_,fun hc=> ?_⟩
 ·rw[flu_le (of_decide_eq_true hc)];exact⟨⟨rfl,trivial⟩,⟨rfl,rfl,⟨rfl,rfl⟩,⟨rfl,rfl⟩,rfl,⟨rfl,rfl⟩,rfl,⟨rfl,rfl⟩,rfl,⟨rfl,rfl⟩,rfl,trivial⟩,⟨rfl,rowsR _ _⟩,trivial,trivial,⟨rfl,rowsR _ _⟩,⟨rfl,rfl,famR _⟩,⟨rfl,rowsR _ _⟩,⟨rfl,rowsR _ _⟩,trivial⟩
 ·have hc:=of_decide_eq_false hc;refine⟨⟨h5,by omega,h8⟩,⟨⟨0,Nat.zero_le _⟩,⟨⟨rfl,rfl⟩,rfl,⟨Nat.zero_add _,rfl⟩,rfl,rfl,trivial⟩,⟨rfl,rfl,⟨rfl,rfl⟩,⟨rfl,by simp⟩,rfl,⟨rfl,rfl⟩,rfl,⟨rfl,rfl⟩,rfl,⟨rfl,rfl⟩,rfl,trivial⟩,⟨rfl,rowsR _ _⟩,trivial,⟨rfl,rowsR _ _⟩,⟨rfl,rowsR _ _⟩,⟨rfl,rfl,famR _⟩,⟨by simp,fun i _=>by simp⟩,trivial⟩,fun x=>⟨fun hx=> ?_,fun hx=> ?_⟩⟩
  ·have hlt:=lt_of_dec hx;obtain⟨e,hb,q⟩:=hn x.val hlt;have e':9+(s.log.getD (s.sure.toNat+x.val) default).l-1=9+s.sure+x.val:=e;rw[Int.toNat_natCast];refine⟨inB_nat hlt,by unfold Lt;omega,i64_rng (by omega),i64_rng (by omega),_,⟨⟨⟨rfl,rfl,rfl,rfl,rfl,rfl,rfl,rfl,rfl,rfl,trivial⟩,trivial⟩,hb⟩,(s.sd (wrN s x.val),9+(s.log.getD (s.sure.toNat+x.val) default).l-1,rcBytes (s.log.getD (s.sure.toNat+x.val) default),v),⟨⟨⟨rfl,rfl⟩,rfl,rfl,trivial⟩,⟨⟨rfl,rfl,⟨rfl,rfl⟩,⟨rfl,rfl⟩,rfl,⟨rfl,rfl⟩,rfl,⟨rfl,rfl⟩,rfl,⟨rfl,rfl⟩,rfl,trivial⟩,⟨rfl,rowsR _ _⟩,⟨rfl,rowsR _ _⟩,⟨rfl,rowsR _ _⟩,⟨rfl,rowsR _ _⟩,⟨rfl,rfl,famR _⟩,trivial⟩,?_⟩,i64_rng (by omega),⟨x.val+1,hlt⟩,⟨⟨⟨rfl,rfl⟩,rfl,⟨rfl,rfl⟩,rfl,by dsimp only;omega,trivial⟩,⟨rfl,rfl,⟨rfl,rfl⟩,⟨rfl,congrArg List.length (wrN_succ s x.val)⟩,rfl,⟨rfl,rfl⟩,rfl,⟨rfl,rfl⟩,rfl,⟨rfl,rfl⟩,rfl,trivial⟩,⟨rfl,rowsR _ _⟩,trivial,⟨rfl,rowsR _ _⟩,⟨rfl,rowsR _ _⟩,⟨rfl,rfl,famR _⟩,⟨congrArg List.length (wrN_succ s x.val),fun i _=>congrArg (fun L=>pendRow L i) (wrN_succ s x.val)⟩,trivial⟩,Cnt.ext_lt hlt⟩
   show(s.d.cache++List.map (pdR s) (List.range _)).length<=1048576;simp only[List.length_append,List.length_map,List.length_range];omega
  ·have hx:x.val=fluN s lsn:=by have:=x.2;have:=le_of_not hx;omega
   rw[hx,flu_gt hc];refine⟨(s.sd (wrN s (fluN s lsn)),v),⟨⟨⟨rfl,rfl⟩,trivial⟩,⟨⟨rfl,rfl,⟨rfl,rfl⟩,⟨rfl,rfl⟩,rfl,⟨rfl,rfl⟩,rfl,⟨rfl,rfl⟩,rfl,⟨rfl,rfl⟩,rfl,trivial⟩,⟨rfl,rowsR _ _⟩,⟨rfl,rowsR _ _⟩,⟨rfl,rowsR _ _⟩,⟨rfl,rowsR _ _⟩,⟨rfl,rfl,famR _⟩,trivial⟩,hw⟩,fun hy=> ?_,fun hy=> ?_⟩
   ·have hy:(synD (wrN s (fluN s lsn))).2=false:=(Bool.not_eq_true' _).mp hy;exact⟨⟨hy.symm,trivial⟩,⟨rfl,rfl,⟨rfl,rfl⟩,⟨rfl,rfl⟩,rfl,⟨rfl,rfl⟩,rfl,⟨rfl,rfl⟩,(if_neg (by rw[hy];simp)).symm,⟨rfl,rfl⟩,rfl,trivial⟩,⟨rfl,rowsR _ _⟩,trivial,trivial,⟨rfl,rowsR _ _⟩,⟨rfl,rfl,famR _⟩,⟨rfl,rowsR _ _⟩,⟨rfl,rowsR _ _⟩,trivial⟩
   ·have hy:(synD (wrN s (fluN s lsn))).2=true:=(Bool.not_eq_false' _).mp hy;exact⟨⟨hy.symm,trivial⟩,⟨rfl,rfl,⟨rfl,rfl⟩,⟨rfl,rfl⟩,rfl,⟨rfl,rfl⟩,rfl,⟨rfl,rfl⟩,(if_pos hy).symm,⟨rfl,rfl⟩,rfl,trivial⟩,⟨rfl,rowsR _ _⟩,trivial,trivial,⟨rfl,rowsR _ _⟩,⟨rfl,rfl,famR _⟩,⟨rfl,rowsR _ _⟩,⟨rfl,rowsR _ _⟩,trivial⟩
def kepS(s t:Sto)(b:Bool):Sto:=if b=true then t else s.sd t.d
def k_kept:Con:=.rmk ⟨Sto×Sto×Bool,fun x=>[.agg x.1.ts,.agg x.2.1.ts,.bool x.2.2],fun _=>[],fun x=>.agg ((kepS x.1 x.2.1 x.2.2).tm 0),fun x=>(kepS x.1 x.2.1 x.2.2).hp 0,fun x=>SmS x.1/\SmS x.2.1⟩
noncomputable def b_kept:Code:=Tryz.f48.body.getD .skip
theorem call_kept:Callable Tryz.prog 48:=⟨_,Tryz.func48,by kernel_rfl,by kernel_rfl⟩
theorem v_kept(s t:Sto)(b:Bool)(h:
  (b=true->∃(x:Sto),(((EqS t x)/\True)/\SmS x)/\((EqC x (kepS s t b))/\True)/\EqH (0) (0) x (kepS s t b))/\(b=false->∃(x:Sto),(((EqS s x)/\True)/\SmS x)/\∃(x_1:Dsk),(((EqD t.d x_1)/\True)/\SmD x_1)/\
  (((0=0/\x_1.sec.length=(kepS s t b).d.sec.length)/\(0=0/\x_1.cache.length=(kepS s t b).d.cache.length)/\x_1.armed=(kepS s t b).d.armed/\(0=0/\x_1.keep.length=(kepS s t b).d.keep.length)/\x.ep=(kepS s t b).ep
  /\(0=0/\x.log.length=(kepS s t b).log.length)/\x.sure=(kepS s t b).sure/\(0=0/\x.fr.length=(kepS s t b).fr.length)/\x.hand=(kepS s t b).hand/\True)/\True)/\(EqL strRow x_1.sec (kepS s t b).d.sec)/\(EqL pendRow
  x_1.cache (kepS s t b).d.cache)/\(EqL intRow x_1.keep (kepS s t b).d.keep)/\(EqL recRow x.log (kepS s t b).log)/\(0=0/\x.fr.length=(kepS s t b).fr.length/\FamEq x.fr.length (famRow x.fr) (famRow (kepS s t b).fr))/\True)):
  EffFn Tryz.prog 48 [.agg s.ts,.agg t.ts,.bool b] [] (.agg ((kepS s t b).tm 0)) ((kepS s t b).hp 0):=
 vcG (code:=b_kept) (gC clSto_ok call_clSto (gC clDsk_ok call_clDsk gN)) Tryz.func48 (by kernel_rfl) (by kernel_rfl) noAnn [[.arr 9,.arr 10,.arr 11,.arr 6,.arr 7],[.arr 3,.arr 4,.arr 5,.arr 6,.arr 7]] h (by kernel_rfl)
theorem kept_ok:ConOk Tryz.prog 48 k_kept:=by
 rintro⟨s,t,b⟩ ⟨h1,h2⟩;dsimp only at h1 h2;refine⟨v_kept s t b ⟨fun hb=> ?_,fun hb=> ?_⟩,rfl,plain_sto _ 0⟩
 ·subst hb;exact⟨t,⟨⟨eqS _,trivial⟩,h2⟩,⟨⟨⟨rfl,rfl⟩,⟨rfl,rfl⟩,rfl,⟨rfl,rfl⟩,rfl,⟨rfl,rfl⟩,rfl,⟨rfl,rfl⟩,rfl,trivial⟩,trivial⟩,⟨rfl,rowsR _ _⟩,⟨rfl,rowsR _ _⟩,⟨rfl,rowsR _ _⟩,⟨rfl,rowsR _ _⟩,⟨rfl,rfl,famR _⟩,trivial⟩
 ·subst hb;exact⟨s,⟨⟨eqS _,trivial⟩,h1⟩,t.d,⟨⟨eqD _,trivial⟩,h2.1⟩,⟨⟨⟨rfl,rfl⟩,⟨rfl,rfl⟩,rfl,⟨rfl,rfl⟩,rfl,⟨rfl,rfl⟩,rfl,⟨rfl,rfl⟩,rfl,trivial⟩,trivial⟩,⟨rfl,rowsR _ _⟩,⟨rfl,rowsR _ _⟩,⟨rfl,rowsR _ _⟩,⟨rfl,rowsR _ _⟩,⟨rfl,rfl,famR _⟩,trivial⟩
theorem inR_t{a b c:Int}(h:inR a b c=true):b<=a/\a<=c:=by simpa[inR] using h
theorem inR_nt{a b c:Int}(h:(!inR a b c)=false):b<=a/\a<=c:=inR_t (by simpa using h)
theorem sto_flu{s:Sto}{lsn:Int}(h:stoOK s=true)(hl:lsn<=s.log.length)(hm:SmS s):FluB s lsn:=by
 obtain⟨⟨h1,h2,h3⟩,_⟩:=(sto_split s).1 h;obtain⟨c1,c2,_,_,c5⟩:=(hdr_split s).1 h1;obtain⟨_,_,d3,_,_,_,d7⟩:=c1;have h3:=inR_t h3;refine⟨hm.1,by omega,fun i hi=> ?_,c2,h3.1,h3.2,c5,hl,fun i hi=> ?_⟩
 ·have:=d7 i hi;unfold badPend at this;simp only[Bool.or_eq_false_iff,Bool.not_eq_false'] at this;have:=inR_t this.1;omega
 ·obtain⟨a,b⟩:=areOK_iff.1 h2 i hi;exact⟨b,rec_sm a⟩
theorem smS_syn{d:Dsk}(h:SmD d):SmD (synD d).1:=by
 obtain⟨h1,h2,h3⟩:=h;unfold synD;split
 ·exact⟨by unfold crD;dsimp only;rw[stl_len];exact h1,Nat.zero_le _,Nat.zero_le _⟩
 ·exact⟨by dsimp only;rw[stl_len];exact h1,Nat.zero_le _,h3⟩
theorem smS_fluS{s:Sto}{lsn:Int}(h:FluB s lsn)(hm:SmS s):SmS (fluS s lsn).1:=by
 by_cases hl:lsn<=s.sure
 ·rw[flu_le hl];exact hm
 ·rw[flu_gt hl];exact⟨smS_syn (wrN_pd h).1,hm.2.1,hm.2.2.1,hm.2.2.2⟩
end Go.Proofs.YtndilbkocjlgpaaGreat

