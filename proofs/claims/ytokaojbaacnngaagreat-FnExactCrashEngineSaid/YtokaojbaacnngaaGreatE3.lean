/- A part of the proof. -/
import Derived.Test.YtokaojbaacnngaaGreatE1E2
namespace Go.Proofs.YtokaojbaacnngaaGreat
set_option maxRecDepth 100000
open Go.SS

def strRow(L:List (List UInt8))(i:Nat):List T:=[.str (L.getD i [])]
def strS(L:List (List UInt8)):T:=.sl 1 L.length (strRow L)
def strA(L:List (List UInt8)):Option Ob:=some (.arr true 0 1 L.length (strRow L))
structure Fst where
 l:List UInt8
 fl:Bool
 out:List (List UInt8)
def Fst.step(s:Fst):Fst:=⟨restR (s.l.drop 1) (numR s.l),(s.fl||s.l.isEmpty)||big (s.l.drop 1) (numR s.l),s.out++[takeR (s.l.drop 1) (numR s.l)]⟩
def Fst.go(s:Fst):Nat->Fst
 |0=>s
 |n+1=>Fst.step (Fst.go s n)
def fs0(l:List UInt8)(fl:Bool):Fst:=⟨l.drop 1,fl||l.isEmpty,[]⟩
def fsN(l:List UInt8)(fl:Bool)(i:Nat):Fst:=Fst.go (fs0 l fl) i
def fsEnd(l:List UInt8)(fl:Bool):Fst:=fsN l fl (numR l).toNat
theorem fs_len(l:List UInt8)(fl:Bool):∀i,(fsN l fl i).out.length=i
 |0=>rfl
 |i+1=>by
  have:=fs_len l fl i;simp only[fsN] at this ⊢;simp[Fst.go,Fst.step,this]
def c_fields:List T->Heap->Option (T×Heap×Option Prop)
 | [.ref 0 0 0],[some (.arr true _ 2 1 row)]=>match row 0 with
  | [.bys l,.bool fl]=>some (strS (fsEnd l fl).out,[rdr (fsEnd l fl).l (fsEnd l fl).fl],none)
  |_=>none
 |_,_=>none
def k_fields:Con:=.eff c_fields
def A_fields(l:List UInt8)(fl:Bool):Nat->Ann
 |0=>.one {i:Nat//i<=(numR l).toNat} (fun x=>⟨[(0,.ref 0 0 0),(3,.osl 1 0 (fsN l fl x.1).out.length),(6,.int .i64 (numR l)),(7,.int .i64 x.1)],[rdr (fsN l fl x.1).l (fsN l fl x.1).fl,strA (fsN l fl x.1).out]⟩) (fun x=>(numR l).toNat-x.1) [.box 0,.arr 1] [.box 0,.arr 3] (fun _=>noAnn)
 |_=>.none
noncomputable def b_fields:Code:=Tryz.f258.body.getD .skip
theorem call_fields:Callable Tryz.prog 258:=⟨_,Tryz.func258,by kernel_rfl,by kernel_rfl⟩
theorem v_fields(l:List UInt8)(fl:Bool)(h:
  (∃(x:{i:Nat//i<=(numR l).toNat}),((0=0/\0=0)/\(0=0/\0=(fsN l fl x.val).out.length)/\numR l=numR l/\(0:Int)=(x.val:Int)/\True)/\(1=1/\1=1/\List.drop 1 l=(fsN l fl x.val).l/\(fl||l.isEmpty)
  =(fsN l fl x.val).fl/\True)/\(0=(fsN l fl x.val).out.length/\RowsEq 0 (fun(k:Nat)=>List.take 1 (List.drop (k*1) [])) (strRow (fsN l fl x.val).out))/\True)/\∀(x:{i:Nat//i<=(numR l).toNat}),(decide
  ((x.val:Int)<numR l)=true->Small47 (numR (fsN l fl x.val).l)/\(Le 1 1/\Le (fsN l fl x.val).out.length (fsN l fl x.val).out.length/\AppB (fsN l fl x.val).out.length 1 16)/\Rng .i64 ((x.val:Int)+(1:Int))/\∃(y:{i:
  Nat//i<=(numR l).toNat}),(((0=0/\0=0)/\(0=0/\(fsN l fl x.val).out.length+1=(fsN l fl y.val).out.length)/\numR l=numR l/\(x.val:Int)+(1:Int)=(y.val:Int)/\True)/\(1=1/\1=1/\restR (List.drop 1 (fsN
  l fl x.val).l) (numR (fsN l fl x.val).l)=(fsN l fl y.val).l/\((fsN l fl x.val).fl||(fsN l fl x.val).l.isEmpty||big (List.drop 1 (fsN l fl x.val).l) (numR (fsN l fl x.val).l))=(fsN l fl y.val).fl/\True)/\((fsN l fl
  x.val).out.length+1=(fsN l fl y.val).out.length/\RowsEq ((fsN l fl x.val).out.length+1) (appRow (strRow (fsN l fl x.val).out) (fsN l fl x.val).out.length fun(k:Nat)=>List.take 1 (List.drop (k*1) [T.str (takeR
  (List.drop 1 (fsN l fl x.val).l) (numR (fsN l fl x.val).l))])) (strRow (fsN l fl y.val).out))/\True)/\Lt ((numR l).toNat-y.val) ((numR l).toNat-x.val))/\(decide ((x.val:Int)<numR l)=false->Le (0+(fsN l fl
  x.val).out.length) (fsN l fl x.val).out.length/\(EqL strRow (fsN l fl x.val).out (fsEnd l fl).out)/\(1=1/\1=1/\(fsN l fl x.val).l=(fsEnd l fl).l/\(fsN l fl x.val).fl=(fsEnd l fl).fl/\True)/\True)):
  EffFn Tryz.prog 258 [.ref 0 0 0] [rdr l fl] (strS (fsEnd l fl).out) [rdr (fsEnd l fl).l (fsEnd l fl).fl]:=
 vcE (code:=b_fields) (gC num_ok call_num (gC take_ok call_take gN)) Tryz.func258 (by kernel_rfl) (by kernel_rfl) (A_fields l fl) (bs:=[true]) h (by kernel_rfl)
def flAt(t:List UInt8):Nat->Option (Nat×List (List UInt8))
 |0=>some (1,[])
 |i+1=>match flAt t i with
  |some (p,out)=>if p<t.length/\p+1+(t.getD p 0).toNat<=t.length then some (p+1+(t.getD p 0).toNat,out++[List.drop (p+1) (List.take (p+1+(t.getD p 0).toNat) t)]) else none
  |none=>none
def fcnt(t:List UInt8):Nat:=(t.getD 0 0).toNat
def flAll(t:List UInt8):Option (List (List UInt8)):=if t.length=0∨fcnt t>100 then none else match flAt t (fcnt t) with
 |some (p,out)=>if p=t.length then some out else none
 |none=>none
def r_l01Read:Rl:=⟨List UInt8,fun t=>[.str t],fun t=>.tup [strS ((flAll t).getD []),.bool (flAll t).isSome],Len31⟩
def k_l01Read:Con:=.rel r_l01Read
def FlIx(t:List UInt8):Type:={x:Nat×Nat×List (List UInt8)//x.1<=fcnt t/\flAt t x.1=some x.2}
def A_l01Read(t:List UInt8):Nat->Ann
 |0=>.one (FlIx t) (fun x=>⟨[(0,.str t),(4,.osl 0 0 x.1.2.2.length),(5,.int .i64 x.1.2.1),(6,.int .i64 (fcnt t-x.1.1:Int))],[strA x.1.2.2]⟩) (fun x=>fcnt t-x.1.1) [.arr 0] [.arr 2] (fun _=>noAnn)
 |_=>.none
noncomputable def b_l01Read:Code:=Tryz.f231.body.getD .skip
theorem call_l01Read:Callable Tryz.prog 231:=⟨_,Tryz.func231,by kernel_rfl,by kernel_rfl⟩
theorem v_l01Read(t:List UInt8)(h:
  ((t==[])=false->InB (0:Int) t.length)/\((t==[]||decide ((↑(t.getD 0 (0:UInt8)).toNat:Int)>(100:Int)))=true->Le 0 0/\(0=((flAll t).getD []).length/\RowsEq 0 (fun(k:Nat)=>List.take 1 (List.drop (k*
  1) [])) (strRow ((flAll t).getD [])))/\false=(flAll t).isSome/\True)/\((t==[]||decide ((↑(t.getD 0 (0:UInt8)).toNat:Int)>(100:Int)))=false->InB (0:Int) t.length/\(∃(x:FlIx t),(t=t/\(0=0/\0=
  x.val.snd.snd.length)/\(1:Int)=(x.val.snd.fst:Int)/\IntKind.i64.wrap (↑(t.getD 0 (0:UInt8)).toNat:Int)=(↑(fcnt t):Int)- (x.val.fst:Int)/\True)/\(0=x.val.snd.snd.length/\RowsEq 0 (fun(k:Nat)=>List.take 1
  (List.drop (k*1) [])) (strRow x.val.snd.snd))/\True)/\∀(x:FlIx t),(decide ((↑(fcnt t):Int)- (x.val.fst:Int)>(0:Int))=true->(decide ((x.val.snd.fst:Int)≥(t.length:Int))=false->Rng .i64 ((x.val.snd.fst:Int)+
  (1:Int)))/\(decide ((x.val.snd.fst:Int)≥(t.length:Int))=false->InB (x.val.snd.fst:Int) t.length)/\(decide ((x.val.snd.fst:Int)≥(t.length:Int))=false->Rng .i64 ((x.val.snd.fst:Int)+(1:Int)+IntKind.i64.wrap
  (↑(t.getD (x.val.snd.fst:Int).toNat (0:UInt8)).toNat:Int)))/\((decide ((x.val.snd.fst:Int)≥(t.length:Int))||decide ((x.val.snd.fst:Int)+(1:Int)+IntKind.i64.wrap (↑(t.getD (x.val.snd.fst:Int).toNat (0:UInt8)).toNat
  :Int)>(t.length:Int)))=true->Le 0 0/\(0=((flAll t).getD []).length/\RowsEq 0 (fun(k:Nat)=>List.take 1 (List.drop (k*1) [])) (strRow ((flAll t).getD [])))/\false=(flAll t).isSome/\True)/\((decide
  ((x.val.snd.fst:Int)≥(t.length:Int))||decide ((x.val.snd.fst:Int)+(1:Int)+IntKind.i64.wrap (↑(t.getD (x.val.snd.fst:Int).toNat (0:UInt8)).toNat:Int)>(t.length:Int)))=false->InB (x.val.snd.fst:Int) t.length/\Rng
  .i64 ((x.val.snd.fst:Int)+(1:Int))/\Rng .i64 ((x.val.snd.fst:Int)+(1:Int))/\Rng .i64 ((x.val.snd.fst:Int)+(1:Int)+IntKind.i64.wrap (↑(t.getD (x.val.snd.fst:Int).toNat (0:UInt8)).toNat:Int))/\InC2
  ((x.val.snd.fst:Int)+(1:Int)) ((x.val.snd.fst:Int)+(1:Int)+IntKind.i64.wrap (↑(t.getD (x.val.snd.fst:Int).toNat (0:UInt8)).toNat:Int)) t.length/\(Le 1 1/\Le x.val.snd.snd.length x.val.snd.snd.length/\AppB
  x.val.snd.snd.length 1 16)/\Rng .i64 ((1:Int)+IntKind.i64.wrap (↑(t.getD (x.val.snd.fst:Int).toNat (0:UInt8)).toNat:Int))/\Rng .i64 ((x.val.snd.fst:Int)+((1:Int)+IntKind.i64.wrap (↑(t.getD (x.val.snd.fst:Int).toNat
  (0:UInt8)).toNat:Int)))/\Rng .i64 ((↑(fcnt t):Int)- (x.val.fst:Int)- (1:Int))/\∃(y:FlIx t),((t=t/\(0=0/\x.val.snd.snd.length+1=y.val.snd.snd.length)/\(x.val.snd.fst:Int)+((1:Int)+IntKind.i64.wrap
  (↑(t.getD (x.val.snd.fst:Int).toNat (0:UInt8)).toNat:Int))=(y.val.snd.fst:Int)/\(↑(fcnt t):Int)- (x.val.fst:Int)- (1:Int)=(↑(fcnt t):Int)- (y.val.fst:Int)/\True)/\(x.val.snd.snd.length+1=
  y.val.snd.snd.length/\RowsEq (x.val.snd.snd.length+1) (appRow (strRow x.val.snd.snd) x.val.snd.snd.length fun(k:Nat)=>List.take 1 (List.drop (k*1) [T.str (List.drop ((x.val.snd.fst:Int)+(1:Int)).toNat (List.take
  ((x.val.snd.fst:Int)+(1:Int)+IntKind.i64.wrap (↑(t.getD (x.val.snd.fst:Int).toNat (0:UInt8)).toNat:Int)).toNat t))])) (strRow y.val.snd.snd))/\True)/\Lt (fcnt t-y.val.fst) (fcnt t-x.val.fst)))/\(decide ((↑(fcnt t)
  :Int)- (x.val.fst:Int)>(0:Int))=false->(((x.val.snd.fst:Int) !=(t.length:Int))=true->Le 0 0/\(0=((flAll t).getD []).length/\RowsEq 0 (fun(k:Nat)=>List.take 1 (List.drop (k*1) [])) (strRow ((flAll t).getD
  [])))/\false=(flAll t).isSome/\True)/\(((x.val.snd.fst:Int) !=(t.length:Int))=false->Le (0+x.val.snd.snd.length) x.val.snd.snd.length/\(EqL strRow x.val.snd.snd ((flAll t).getD []))/\true=(flAll t).isSome/\True)))):
  PureFn Tryz.prog 231 [.str t] (.tup [strS ((flAll t).getD []),.bool (flAll t).isSome]):=
 vcR (code:=b_l01Read) gN Tryz.func231 (by kernel_rfl) (by kernel_rfl) (A_l01Read t) h (by kernel_rfl)
theorem rows0(row row':Nat->List T):RowsEq 0 row row':=fun i hi=>absurd hi (Nat.not_lt_zero i)
theorem rowsR(n:Nat)(row:Nat->List T):RowsEq n row row:=fun i _=>rfl
theorem str_app(L:List (List UInt8))(s:List UInt8):RowsEq (L.length+1) (appRow (strRow L) L.length fun k=>List.take 1 (List.drop (k*1) [T.str s])) (strRow (L++[s])):=by
 intro i hi;by_cases h:i<L.length
 ·rw[appRow_lt h];simp[strRow,List.getElem?_append_left h]
 ·obtain rfl:i=L.length:=by omega
  rw[appRow_ge (Nat.le_refl _),Nat.sub_self];simp[strRow]
theorem fields_ok:ConOk Tryz.prog 258 k_fields:=by
 intro args H res H' p h hp;unfold c_fields at h;split at h
 ·rename_i ty row;split at h
  ·rename_i l fl hrow;simp only[Option.some.injEq,Prod.mk.injEq] at h;obtain⟨rfl,rfl,rfl⟩:=h;refine eff_congr (rdr_any hrow) ?_
   have hn:=numR_in l;refine v_fields l fl ⟨⟨⟨0,Nat.zero_le _⟩,⟨⟨rfl,rfl⟩,⟨rfl,rfl⟩,rfl,rfl,trivial⟩,⟨rfl,rfl,rfl,rfl,trivial⟩,⟨rfl,rows0 _ _⟩,trivial⟩,fun x=>⟨fun hc=> ?_,fun hc=> ?_⟩⟩
   ·have hlt:(x.val:Int)<numR l:=of_decide_eq_true hc;have hlen:=fs_len l fl x.val;have hm:=numR_in (fsN l fl x.val).l;refine⟨⟨hm.1,by omega⟩,⟨Nat.le_refl _,Nat.le_refl _,by omega,by omega⟩,i64_rng (by omega),⟨x.val+1,by omega⟩,⟨⟨⟨rfl,rfl⟩,⟨rfl,(congrArg (· +1) hlen).trans (fs_len l fl (x.val+1)).symm⟩,rfl,by simp only;omega,trivial⟩,⟨rfl,rfl,rfl,rfl,trivial⟩,⟨(congrArg (· +1) hlen).trans (fs_len l fl (x.val+1)).symm,str_app _ _⟩,trivial⟩,by unfold Lt;simp only;omega⟩
   ·have hge:¬ (x.val:Int)<numR l:=of_decide_eq_false hc;have hx:=x.2;have he:x.val=(numR l).toNat:=by omega
    rw[he];exact⟨by unfold Le;omega,⟨rfl,rowsR _ _⟩,⟨rfl,rfl,rfl,rfl,trivial⟩,trivial⟩
  ·cases h
 ·cases h
theorem fl_len{t:List UInt8}:∀{i:Nat} {x:Nat×List (List UInt8)},flAt t i=some x->x.2.length=i
 |0,x,h=>by simp only[flAt,Option.some.injEq] at h;subst h;rfl
 |i+1,x,h=>by
  simp only[flAt] at h;split at h
  ·rename_i p out ho;split at h
   ·simp only[Option.some.injEq] at h;subst h;simp[fl_len ho]
   ·cases h
  ·cases h
theorem fl_step{t:List UInt8}{i p:Nat}{out:List (List UInt8)}(h:flAt t i=some (p,out)):flAt t (i+1)=if p<t.length/\p+1+(t.getD p 0).toNat<=t.length then some (p+1+(t.getD p 0).toNat,out++[List.drop (p+1) (List.take (p+1+(t.getD p 0).toNat) t)]) else none:=by
 simp only[flAt,h]
theorem fl_none{t:List UInt8}{i:Nat}(h:flAt t i=none):∀j,flAt t (i+j)=none
 |0=>h
 |j+1=>by
  have:=fl_none h j;rw[show i+(j+1)=(i+j)+1 by omega]
  simp only[flAt,this]
theorem l01Read_ok:ConOk Tryz.prog 231 k_l01Read:=by
 intro(t:List UInt8) (hl:t.length<=1000000000);have hb:=byte_lt t;have hcn:((t.getD 0 0).toNat:Int)=(fcnt t:Int):=rfl;have h0:(t==[])=false->0<t.length:=fun h=>List.length_pos_iff.2 (by simpa using h)
 refine v_l01Read t ⟨fun h=>⟨by omega,by have:=h0 h;omega⟩,fun h=> ?_,fun h=> ?_⟩
 ·have hn:flAll t=none:=by
   unfold flAll;rw[if_pos];simp only[Bool.or_eq_true,beq_iff_eq,decide_eq_true_eq] at h;rcases h with h|h
   ·exact .inl (by simp[h])
   ·exact .inr (by omega)
  rw[hn];exact⟨Nat.le_refl _,⟨rfl,rows0 _ _⟩,rfl,trivial⟩
 simp only[Bool.or_eq_false_iff,decide_eq_false_iff_not] at h;have hpos:0<t.length:=h0 h.1;have hall:flAll t=match flAt t (fcnt t) with
  |some (p,out)=>if p=t.length then some out else none
  |none=>none:=by
  unfold flAll;rw[if_neg (by omega)]
 refine⟨⟨by omega,by omega⟩,⟨⟨(0,1,[]),Nat.zero_le _,rfl⟩,⟨rfl,⟨rfl,rfl⟩,rfl,by rw[byte_nat,hcn];simp,trivial⟩,⟨rfl,rows0 _ _⟩,trivial⟩,fun x=> ?_⟩
 obtain⟨⟨i,p,out⟩,hi,hx⟩:=x;simp only at hi hx ⊢;have hlen:out.length=i:=fl_len hx;rw[Int.toNat_natCast,byte_nat];have hbp:=hb p;refine⟨fun hc=> ?_,fun hc=> ?_⟩
 ·have hlt:i<fcnt t:=by have:=of_decide_eq_true hc;omega
  have hst:=fl_step hx;refine⟨fun g=>i64_rng (by have:=of_decide_eq_false g;omega),fun g=>⟨by omega,by have:=of_decide_eq_false g;omega⟩,fun g=>i64_rng (by have:=of_decide_eq_false g;omega),fun g=> ?_,fun g=> ?_⟩
  ·have hn:flAll t=none:=by
    rw[if_neg (by simp only[Bool.or_eq_true,decide_eq_true_eq] at g;omega)] at hst
    rw[hall];have:=fl_none hst (fcnt t- (i+1));rw[show i+1+(fcnt t- (i+1))=fcnt t by omega] at this
    rw[this]
   rw[hn];exact⟨Nat.le_refl _,⟨rfl,rows0 _ _⟩,rfl,trivial⟩
  ·simp only[Bool.or_eq_false_iff,decide_eq_false_iff_not] at g;rw[if_pos (by omega)] at hst
   refine⟨⟨by omega,by omega⟩,i64_rng (by omega),i64_rng (by omega),i64_rng (by omega),⟨by omega,by omega,by omega⟩,⟨Nat.le_refl _,Nat.le_refl _,by omega,by omega⟩,i64_rng (by omega),i64_rng (by omega),i64_rng (by omega),
    ⟨(i+1,_,_),hlt,hst⟩,⟨⟨(by trivial),⟨(by trivial),by simp⟩,by simp only;omega,by simp only;omega,trivial⟩,⟨by simp,?_⟩,trivial⟩,by unfold Lt;simp only;omega⟩
   rw[show((p:Int)+1).toNat=p+1 by omega,show((p:Int)+1+((t.getD p 0).toNat:Int)).toNat=p+1+(t.getD p 0).toNat by omega]
   exact str_app _ _
 ·have he:i=fcnt t:=by have:=of_decide_eq_false hc;omega
  subst he;rw[hx] at hall;simp only at hall;refine⟨fun g=> ?_,fun g=> ?_⟩
  ·have hn:flAll t=none:=by
    rw[hall,if_neg (by simp only[bne_iff_ne,ne_eq] at g;omega)]
   rw[hn];exact⟨Nat.le_refl _,⟨rfl,rows0 _ _⟩,rfl,trivial⟩
  ·have hn:flAll t=some out:=by
    rw[hall,if_pos (by simp only[bne_eq_false_iff_eq] at g;omega)]
   rw[hn];exact⟨by unfold Le;omega,⟨rfl,rowsR _ _⟩,rfl,trivial⟩
end Go.Proofs.YtokaojbaacnngaaGreat

