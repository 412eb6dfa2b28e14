/- A part of the proof. -/
import Derived.Test.YtndilbkocjlgpaaGreatY3
namespace Go.Proofs.YtndilbkocjlgpaaGreat
set_option maxRecDepth 100000
open Go.SS

theorem pgAt_ok{d:Dsk}{no:Nat}(h:(pgAt d no).2=true):PgP (pgAt d no).1:=by
 unfold pgAt at h ⊢;by_cases hr:rdAt d (1+no)=[]
 ·rw[if_pos hr];refine⟨Int.le_refl _,by decide,rfl,fun i hi=> ?_⟩
  match i,hi with
  |0,_=>exact Nat.zero_le _
  |1,_=>exact Nat.zero_le _
  |2,_=>exact Nat.zero_le _
  |3,_=>exact Nat.zero_le _
 ·rw[if_neg hr] at h ⊢;unfold rdPg at h ⊢;split at h
  ·rename_i hc;rw[if_pos hc];simp only[Bool.and_eq_true] at h;exact of_decide_eq_true h.2
  ·cases h
theorem fet_fr{s:Sto}{no:Nat}(h:SInv s)(hno:no<8)(hu:(fetS s no).2.2=true):(fetS s no).2.1<(fetS s no).1.fr.length/\PgP ((fetS s no).1.fr.getD (fetS s no).2.1 default).pg:=by
 by_cases hc:0<=frAt s.fr no
 ·rw[(fet_hit 0 hc).1];exact⟨frAt_in hc,(h.frp _ (frAt_in hc)).2.2.1⟩
 ·by_cases h3:s.fr.length=3
  ·cases ho:(outS s s.hand.toNat).2 with
   |false=>
    rw[(fet_down 0 hc h3 ho).1] at hu;cases hu
   |true=>
    rw[(fet_next 0 hc h3 ho).1];have hh:=h.hd;have hl:=(out_rest s s.hand.toNat).1;have hp:=(fet_pg h hno hc h3 ho).2.2;unfold nextF;dsimp only;rw[List.length_set,List.getD_eq_getElem?_getD,List.getElem?_set_self (by omega)]
    exact⟨by omega,pgAt_ok hp⟩
  ·rw[(fet_add 0 hc h3).1];unfold addF;dsimp only;rw[List.getD_eq_getElem?_getD,List.getElem?_append_right (Nat.le_refl _),List.length_append]
   simp only[Nat.sub_self,List.getElem?_cons_zero,Option.getD_some,List.length_cons,List.length_nil]
   exact⟨by omega,pgAt_ok (h.pg no hno).1⟩
def chgF(f:Frm)(r:Rec):Frm:=⟨f.no,⟨r.l,f.pg.sl.set r.s.toNat r.a⟩,true,if f.dirty=true then f.first else r.l⟩
def setP(a:Sto)(k:Nat)(r:Rec):Sto:=⟨a.d,a.ep,a.log,a.sure,a.fr.set k (chgF (a.fr.getD k default) r),a.hand⟩
noncomputable def aplS(s:Sto)(r:Rec):Sto×Bool:=if(fetS s r.g.toNat).2.2=true then(setP (fetS s r.g.toNat).1 (fetS s r.g.toNat).2.1 r,true) else((fetS s r.g.toNat).1,false)
def AplB(s:Sto)(r:Rec):Prop:=SInv s/\0<=r.g/\r.g<8/\0<=r.s/\r.s<4
noncomputable def k_apply:Con:=.reff ⟨Sto×Rec×Nat,fun x=>[.ref 0 0 0,.agg x.2.1.ts],fun x=>x.1.bx x.2.2,fun x=>.bool (aplS x.1 x.2.1).2,fun x=>(aplS x.1 x.2.1).1.bxF (fetV x.1 x.2.1.g.toNat x.2.2),fun x=>AplB x.1 x.2.1⟩
noncomputable def b_apply:Code:=Tryz.f78.body.getD .skip
theorem call_apply:Callable Tryz.prog 78:=⟨_,Tryz.func78,by kernel_rfl,by kernel_rfl⟩
theorem v_applyY(s:Sto)(r:Rec)(v:Nat)(h:
  ∃(x:(Sto×Nat×Nat)),(((0=0/\0=0)/\r.g=(x.snd.fst:Int)/\True)/\((1=1/\1=1/\EqC s x.fst)/\EqH (v) (x.snd.snd) s x.fst)/\FetB x.fst x.snd.fst/\(fetS x.fst x.snd.fst).snd.snd=true)/\(false=true->(false
  =(aplS s r).snd/\True)/\(1=1/\1=1/\EqC (fetS x.fst x.snd.fst).fst (aplS s r).fst)/\(EqL strRow (fetS x.fst x.snd.fst).fst.d.sec (aplS s r).fst.d.sec)/\True/\True/\(EqL recRow (fetS x.fst x.snd.fst).fst.log (aplS s
  r).fst.log)/\True/\(EqL pendRow (fetS x.fst x.snd.fst).fst.d.cache (aplS s r).fst.d.cache)/\(EqL intRow (fetS x.fst x.snd.fst).fst.d.keep (aplS s r).fst.d.keep)/\(fetV x.fst x.snd.fst x.snd.snd=fetV s r.g.toNat v/\(fetS
  x.fst x.snd.fst).fst.fr.length=(aplS s r).fst.fr.length/\FamEq (fetS x.fst x.snd.fst).fst.fr.length (famRow (fetS x.fst x.snd.fst).fst.fr) (famRow (aplS s r).fst.fr))/\True)/\(false=false->Lt (fetS x.fst x.snd.fst).snd.fst
  (fetS x.fst x.snd.fst).fst.fr.length/\InB r.s ((fetS x.fst x.snd.fst).fst.fr.getD (fetS x.fst x.snd.fst).snd.fst default).pg.sl.length/\PfB (fetV x.fst x.snd.fst x.snd.snd) (fetV x.fst x.snd.fst x.snd.snd) (fetS x.fst
  x.snd.fst).snd.fst (fetS x.fst x.snd.fst).fst.fr.length r.s.toNat ((fetS x.fst x.snd.fst).fst.fr.getD (fetS x.fst x.snd.fst).snd.fst default).pg.sl.length/\FamB (fetS x.fst x.snd.fst).snd.fst (fetS x.fst x.snd.fst).fst.fr.length
  [T.int .i64 ((fetS x.fst x.snd.fst).fst.fr.getD (fetS x.fst x.snd.fst).snd.fst default).pg.lsn]/\Lt (fetS x.fst x.snd.fst).snd.fst (fetS x.fst x.snd.fst).fst.fr.length/\((!((fetS x.fst x.snd.fst).fst.fr.getD (fetS x.fst
  x.snd.fst).snd.fst default).dirty)=true->FamB (fetS x.fst x.snd.fst).snd.fst (fetS x.fst x.snd.fst).fst.fr.length [T.bool ((fetS x.fst x.snd.fst).fst.fr.getD (fetS x.fst x.snd.fst).snd.fst default).dirty]/\FamB (fetS x.fst
  x.snd.fst).snd.fst (fetS x.fst x.snd.fst).fst.fr.length [T.int .i64 ((fetS x.fst x.snd.fst).fst.fr.getD (fetS x.fst x.snd.fst).snd.fst default).first]/\(true=(aplS s r).snd/\True)/\(1=1/\1=1/\EqC (fetS x.fst
  x.snd.fst).fst (aplS s r).fst)/\(EqL strRow (fetS x.fst x.snd.fst).fst.d.sec (aplS s r).fst.d.sec)/\True/\True/\(EqL recRow (fetS x.fst x.snd.fst).fst.log (aplS s r).fst.log)/\True/\(EqL pendRow (fetS x.fst
  x.snd.fst).fst.d.cache (aplS s r).fst.d.cache)/\(EqL intRow (fetS x.fst x.snd.fst).fst.d.keep (aplS s r).fst.d.keep)/\(fetV x.fst x.snd.fst x.snd.snd=fetV s r.g.toNat v/\(fetS x.fst x.snd.fst).fst.fr.length=(aplS s
  r).fst.fr.length/\FamEq (fetS x.fst x.snd.fst).fst.fr.length (setRow (setRow (setRow (setRow (famRow (fetS x.fst x.snd.fst).fst.fr) (fetS x.fst x.snd.fst).snd.fst 2 [T.own (0:TypeId) 1 ((fetS x.fst x.snd.fst).fst.fr.getD (fetS
  x.fst x.snd.fst).snd.fst default).pg.sl.length (setRow (strRow ((fetS x.fst x.snd.fst).fst.fr.getD (fetS x.fst x.snd.fst).snd.fst default).pg.sl) r.s.toNat 0 [T.str r.a])]) (fetS x.fst x.snd.fst).snd.fst 1 [T.int .i64 r.l]) (fetS
  x.fst x.snd.fst).snd.fst 3 [T.bool true]) (fetS x.fst x.snd.fst).snd.fst 4 [T.int .i64 r.l]) (famRow (aplS s r).fst.fr))/\True)/\((!((fetS x.fst x.snd.fst).fst.fr.getD (fetS x.fst x.snd.fst).snd.fst default).dirty)=false->
  (true=(aplS s r).snd/\True)/\(1=1/\1=1/\EqC (fetS x.fst x.snd.fst).fst (aplS s r).fst)/\(EqL strRow (fetS x.fst x.snd.fst).fst.d.sec (aplS s r).fst.d.sec)/\True/\True/\(EqL recRow (fetS x.fst x.snd.fst).fst.log (aplS
  s r).fst.log)/\True/\(EqL pendRow (fetS x.fst x.snd.fst).fst.d.cache (aplS s r).fst.d.cache)/\(EqL intRow (fetS x.fst x.snd.fst).fst.d.keep (aplS s r).fst.d.keep)/\(fetV x.fst x.snd.fst x.snd.snd=fetV s r.g.toNat v/\(fetS
  x.fst x.snd.fst).fst.fr.length=(aplS s r).fst.fr.length/\FamEq (fetS x.fst x.snd.fst).fst.fr.length (setRow (setRow (famRow (fetS x.fst x.snd.fst).fst.fr) (fetS x.fst x.snd.fst).snd.fst 2 [T.own (0:TypeId) 1 ((fetS x.fst
  x.snd.fst).fst.fr.getD (fetS x.fst x.snd.fst).snd.fst default).pg.sl.length (setRow (strRow ((fetS x.fst x.snd.fst).fst.fr.getD (fetS x.fst x.snd.fst).snd.fst default).pg.sl) r.s.toNat 0 [T.str r.a])]) (fetS x.fst
  x.snd.fst).snd.fst 1 [T.int .i64 r.l]) (famRow (aplS s r).fst.fr))/\True))):
  EffFn Tryz.prog 78 [.ref 0 0 0,.agg r.ts] (s.bx v) (.bool (aplS s r).2) ((aplS s r).1.bxF (fetV s r.g.toNat v)):=
 vcG (code:=b_apply) (gC fetchY_ok call_fetchY gN) Tryz.func78 (by kernel_rfl) (by kernel_rfl) noAnn [[.box 0,.arr 1,.arr 2,.arr 3,.arr 4,.arr 5,.arr 7,.arr 8,.arr 9]] h (by kernel_rfl)
theorem v_applyN(s:Sto)(r:Rec)(v:Nat)(h:
  ∃(x:(Sto×Nat×Nat)),(((0=0/\0=0)/\r.g=(x.snd.fst:Int)/\True)/\((1=1/\1=1/\EqC s x.fst)/\EqH (v) (x.snd.snd) s x.fst)/\FetB x.fst x.snd.fst/\(fetS x.fst x.snd.fst).snd.snd=false)/\(true=true->(false
  =(aplS s r).snd/\True)/\(1=1/\1=1/\EqC (fetS x.fst x.snd.fst).fst (aplS s r).fst)/\(EqL strRow (fetS x.fst x.snd.fst).fst.d.sec (aplS s r).fst.d.sec)/\True/\True/\(EqL recRow (fetS x.fst x.snd.fst).fst.log (aplS s
  r).fst.log)/\True/\(EqL pendRow (fetS x.fst x.snd.fst).fst.d.cache (aplS s r).fst.d.cache)/\(EqL intRow (fetS x.fst x.snd.fst).fst.d.keep (aplS s r).fst.d.keep)/\(fetV x.fst x.snd.fst x.snd.snd=fetV s r.g.toNat v/\(fetS
  x.fst x.snd.fst).fst.fr.length=(aplS s r).fst.fr.length/\FamEq (fetS x.fst x.snd.fst).fst.fr.length (famRow (fetS x.fst x.snd.fst).fst.fr) (famRow (aplS s r).fst.fr))/\True)/\(true=false->False)):
  EffFn Tryz.prog 78 [.ref 0 0 0,.agg r.ts] (s.bx v) (.bool (aplS s r).2) ((aplS s r).1.bxF (fetV s r.g.toNat v)):=
 vcG (code:=b_apply) (gC fetchN_ok call_fetchN gN) Tryz.func78 (by kernel_rfl) (by kernel_rfl) noAnn [[.box 0,.arr 1,.arr 2,.arr 3,.arr 4,.arr 5,.arr 7,.arr 8,.arr 9]] h (by kernel_rfl)
theorem fam_ne{L:List Frm}{k i:Nat}(f:Frm)(h:i≠k):famL (famRow L i) (famRow (L.set k f) i):=by
 rw[show famRow (L.set k f) i=famRow L i by unfold famRow;rw[show(L.set k f).getD i default=L.getD i default by rw[List.getD_eq_getElem?_getD,List.getElem?_set_ne (Ne.symm h),←List.getD_eq_getElem?_getD]]]
 exact famL_refl _
theorem set_at{L:List Frm}{k:Nat}(f:Frm)(h:k<L.length):(L.set k f).getD k default=f:=by rw[List.getD_eq_getElem?_getD,List.getElem?_set_self h];rfl
theorem sl_set{L:List (List UInt8)}{j:Nat}(t:List UInt8):L.length=(L.set j t).length/\RowsEq L.length (setRow (strRow L) j 0 [T.str t]) (strRow (L.set j t)):=⟨List.length_set.symm,fun i hi=>str_set i hi⟩
theorem fam_chg{L:List Frm}{k:Nat}{r:Rec}(hk:k<L.length)(hd:(L.getD k default).dirty=true):FamEq L.length (setRow (setRow (famRow L) k 2 [T.own 0 1 (L.getD k default).pg.sl.length (setRow (strRow (L.getD k default).pg.sl) r.s.toNat 0 [T.str r.a])]) k 1 [T.int IntKind.i64 r.l]) (famRow (L.set k (chgF (L.getD k default) r))):=fun i hi=>by
 have l5:∀j,(famRow L j).length=5:=fun _=>rfl
 by_cases h:i=k
 ·subst h;unfold setRow;rw[nb_t rfl];have e:famRow (L.set i (chgF (L.getD i default) r)) i=[.int .i64 (L.getD i default).no,.int .i64 r.l,.own 0 1 ((L.getD i default).pg.sl.set r.s.toNat r.a).length (strRow ((L.getD i default).pg.sl.set r.s.toNat r.a)),.bool (L.getD i default).dirty,.int .i64 (L.getD i default).first]:=by
   unfold famRow;rw[set_at _ hi];unfold chgF;dsimp only;rw[if_pos hd,hd]
  rw[e];exact⟨rfl,rfl,⟨rfl,(sl_set r.a).1,(sl_set r.a).2⟩,rfl,rfl,trivial⟩
 ·rw[setRow_ne (by rw[setRow_length (by rw[l5];exact Nat.le_of_ble_eq_true rfl),l5];exact Nat.le_of_ble_eq_true rfl) h,setRow_ne (by rw[l5];exact Nat.le_of_ble_eq_true rfl) h]
  exact fam_ne _ h
theorem fam_chg0{L:List Frm}{k:Nat}{r:Rec}(hk:k<L.length)(hd:(L.getD k default).dirty=false):FamEq L.length (setRow (setRow (setRow (setRow (famRow L) k 2 [T.own 0 1 (L.getD k default).pg.sl.length (setRow (strRow (L.getD k default).pg.sl) r.s.toNat 0 [T.str r.a])]) k 1 [T.int IntKind.i64 r.l]) k 3 [T.bool true]) k 4 [T.int IntKind.i64 r.l]) (famRow (L.set k (chgF (L.getD k default) r))):=fun i hi=>by
 have l5:∀j,(famRow L j).length=5:=fun _=>rfl
 by_cases h:i=k
 ·subst h;unfold setRow;rw[nb_t rfl];have e:famRow (L.set i (chgF (L.getD i default) r)) i=[.int .i64 (L.getD i default).no,.int .i64 r.l,.own 0 1 ((L.getD i default).pg.sl.set r.s.toNat r.a).length (strRow ((L.getD i default).pg.sl.set r.s.toNat r.a)),.bool true,.int .i64 r.l]:=by
   unfold famRow;rw[set_at _ hi];unfold chgF;dsimp only;rw[if_neg (by rw[hd];simp)]
  rw[e];exact⟨rfl,rfl,⟨rfl,(sl_set r.a).1,(sl_set r.a).2⟩,rfl,rfl,trivial⟩
 ·have a1:(setRow (famRow L) k 2 [T.own 0 1 (L.getD k default).pg.sl.length (setRow (strRow (L.getD k default).pg.sl) r.s.toNat 0 [T.str r.a])] i).length=5:=by rw[setRow_length (by rw[l5];exact Nat.le_of_ble_eq_true rfl),l5]
  have a2:(setRow (setRow (famRow L) k 2 [T.own 0 1 (L.getD k default).pg.sl.length (setRow (strRow (L.getD k default).pg.sl) r.s.toNat 0 [T.str r.a])]) k 1 [T.int IntKind.i64 r.l] i).length=5:=by rw[setRow_length (by rw[a1];exact Nat.le_of_ble_eq_true rfl),a1]
  rw[setRow_ne (by rw[setRow_length (by rw[a2];exact Nat.le_of_ble_eq_true rfl),a2];exact Nat.le_of_ble_eq_true rfl) h,setRow_ne (by rw[a2];exact Nat.le_of_ble_eq_true rfl) h,setRow_ne (by rw[a1];exact Nat.le_of_ble_eq_true rfl) h,setRow_ne (by rw[l5];exact Nat.le_of_ble_eq_true rfl) h]
  exact fam_ne _ h
theorem apply_ok:ConOk Tryz.prog 78 k_apply:=by
 rintro⟨s,r,v⟩ ⟨h,g1,g2,g3,g4⟩;dsimp only at h g1 g2 g3 g4;have hno:r.g.toNat<8:=by omega
 by_cases hu:(fetS s r.g.toNat).2.2=true
 ·have hf:=fet_fr h hno hu;have e:aplS s r=(setP (fetS s r.g.toNat).1 (fetS s r.g.toNat).2.1 r,true):=if_pos hu;refine v_applyY s r v ⟨(s,r.g.toNat,v),⟨⟨⟨rfl,rfl⟩,by dsimp only;omega,trivial⟩,⟨⟨rfl,rfl,⟨rfl,rfl⟩,⟨rfl,rfl⟩,rfl,⟨rfl,rfl⟩,rfl,⟨rfl,rfl⟩,rfl,⟨rfl,rfl⟩,rfl,trivial⟩,⟨rfl,rowsR _ _⟩,⟨rfl,rowsR _ _⟩,⟨rfl,rowsR _ _⟩,⟨rfl,rowsR _ _⟩,⟨rfl,rfl,famR _⟩,trivial⟩,⟨h,hno⟩,hu⟩,fun hb=>(by cases hb),fun _=> ?_⟩
  rw[e];dsimp only;generalize fetV s r.g.toNat v=w;generalize fetS s r.g.toNat=A at*;obtain⟨a,k,up⟩:=A;dsimp only at*;obtain⟨hk,p1,p2,p3,p4⟩:=hf;refine⟨hk,⟨g3,by omega⟩,⟨rfl,hk,by omega⟩,⟨hk,rfl⟩,hk,fun hd=> ?_,fun hd=> ?_⟩
  ·exact⟨⟨hk,rfl⟩,⟨hk,rfl⟩,⟨rfl,trivial⟩,⟨rfl,rfl,⟨rfl,rfl⟩,⟨rfl,rfl⟩,rfl,⟨rfl,rfl⟩,rfl,⟨rfl,rfl⟩,rfl,⟨rfl,List.length_set.symm⟩,rfl,trivial⟩,⟨rfl,rowsR _ _⟩,trivial,trivial,⟨rfl,rowsR _ _⟩,trivial,⟨rfl,rowsR _ _⟩,⟨rfl,rowsR _ _⟩,⟨rfl,List.length_set.symm,fam_chg0 hk (by simpa using hd)⟩,trivial⟩
  ·exact⟨⟨rfl,trivial⟩,⟨rfl,rfl,⟨rfl,rfl⟩,⟨rfl,rfl⟩,rfl,⟨rfl,rfl⟩,rfl,⟨rfl,rfl⟩,rfl,⟨rfl,List.length_set.symm⟩,rfl,trivial⟩,⟨rfl,rowsR _ _⟩,trivial,trivial,⟨rfl,rowsR _ _⟩,trivial,⟨rfl,rowsR _ _⟩,⟨rfl,rowsR _ _⟩,⟨rfl,List.length_set.symm,fam_chg hk (by simpa using hd)⟩,trivial⟩
 ·have e:aplS s r=((fetS s r.g.toNat).1,false):=if_neg hu;refine v_applyN s r v ⟨(s,r.g.toNat,v),⟨⟨⟨rfl,rfl⟩,by dsimp only;omega,trivial⟩,⟨⟨rfl,rfl,⟨rfl,rfl⟩,⟨rfl,rfl⟩,rfl,⟨rfl,rfl⟩,rfl,⟨rfl,rfl⟩,rfl,⟨rfl,rfl⟩,rfl,trivial⟩,⟨rfl,rowsR _ _⟩,⟨rfl,rowsR _ _⟩,⟨rfl,rowsR _ _⟩,⟨rfl,rowsR _ _⟩,⟨rfl,rfl,famR _⟩,trivial⟩,⟨h,hno⟩,by simpa using hu⟩,fun _=> ?_,fun hb=>(by cases hb)⟩
  rw[e];exact⟨⟨rfl,trivial⟩,⟨rfl,rfl,⟨rfl,rfl⟩,⟨rfl,rfl⟩,rfl,⟨rfl,rfl⟩,rfl,⟨rfl,rfl⟩,rfl,⟨rfl,rfl⟩,rfl,trivial⟩,⟨rfl,rowsR _ _⟩,trivial,trivial,⟨rfl,rowsR _ _⟩,trivial,⟨rfl,rowsR _ _⟩,⟨rfl,rowsR _ _⟩,⟨rfl,rfl,famR _⟩,trivial⟩
end Go.Proofs.YtndilbkocjlgpaaGreat

namespace Go.Proofs.YtndilbkocjlgpaaGreat
set_option maxRecDepth 100000
open Go.SS

theorem flu_down{s:Sto}{l:Int}(h:(fluS s l).2=false):s.sd (fluS s l).1.d=(fluS s l).1:=by
 by_cases hl:l<=s.sure
 ·rw[flu_le hl] at h;cases h
 ·rw[flu_gt hl] at h ⊢;dsimp only at h ⊢;rw[if_neg (by rw[h];simp)]
  rfl
theorem flu_up{s:Sto}{l:Int}(hl:¬l<=s.sure):(fluS s l).1.d.cache=[]:=by
 rw[flu_gt hl];exact syn_cache _
theorem out_keep{s:Sto}{k:Nat}(h:(outS s k).2=false):s.sd (outS s k).1.d=(outS s k).1:=by
 by_cases hd:(s.fr.getD k default).dirty=true
 ·cases hf:(fluS s (s.fr.getD k default).pg.lsn).2 with
  |false=>
   rw[out_down hd hf];exact flu_down hf
  |true=>
   cases h5:(syn5 (fluS s (s.fr.getD k default).pg.lsn).1.d).2 with
   |false=>
    rw[out_syn hd hf h5];by_cases hl:(s.fr.getD k default).pg.lsn<=s.sure
    ·rw[flu_le hl];rfl
    ·rw[syn5_f (by rw[flu_up hl];simp)] at h5
     cases h5
   |true=>
    rw[out_up hd hf h5] at h;cases h
 ·rw[out_clean (by simpa using hd)] at h
  cases h
theorem fet_keep{s:Sto}{no:Nat}(h:(fetS s no).2.2=false):s.sd (fetS s no).1.d=(fetS s no).1:=by
 by_cases hc:0<=frAt s.fr no
 ·rw[(fet_hit 0 hc).1] at h;cases h
 ·by_cases h3:s.fr.length=3
  ·cases ho:(outS s s.hand.toNat).2 with
   |false=>
    rw[(fet_down 0 hc h3 ho).1];exact out_keep ho
   |true=>
    rw[(fet_next 0 hc h3 ho).1] at h;cases h
  ·rw[(fet_add 0 hc h3).1] at h;cases h
theorem sm_set{L:List Frm}{k:Nat}{f:Frm}(h:∀i,i<L.length->SmF (L.getD i default))(hf:SmF f):∀i,i<(L.set k f).length->SmF ((L.set k f).getD i default):=fun i hi=>by
 rw[List.length_set] at hi;by_cases e:i=k
 ·subst e;rw[set_at _ hi];exact hf
 ·rw[List.getD_eq_getElem?_getD,List.getElem?_set_ne (Ne.symm e),←List.getD_eq_getElem?_getD]
  exact h i hi
theorem sm_syn5{d:Dsk}(h:SmD d):SmD (syn5 d).1:=by
 unfold syn5;split
 ·exact smS_syn h
 ·exact h
theorem smS_sd{s:Sto}{d:Dsk}(h:SmS s)(hd:SmD d):SmS (s.sd d):=⟨hd,h.2⟩
theorem smS_out{s:Sto}{k:Nat}(h:SInv s)(hk:k<s.fr.length):SmS (outS s k).1:=by
 have hf:=h.flu (h.frp k hk).2.2.2;have hS:=smS_fluS hf h.sm;have hc:=flu_c (l:=(s.fr.getD k default).pg.lsn) h.c;have h5:=sm_syn5 hS.1;unfold outS;split
 ·split
  ·split
   ·refine⟨⟨h5.1,?_,h5.2.2⟩,hS.2.1,?_,?_⟩
    ·have:=syn5_c hc;show((syn5 _).1.cache++[_]).length<=_;rw[List.length_append];simp only[List.length_cons,List.length_nil];omega
    ·show(List.set _ _ _).length<=_;rw[List.length_set];exact hS.2.2.1
    ·refine sm_set hS.2.2.2 ?_
     have:=hS.2.2.2 k (by rw[flu_fr];exact hk)
     exact this
   ·exact smS_sd hS h5
  ·exact hS
 ·exact h.sm
theorem sm_pg{d:Dsk}{no:Nat}(h:(pgAt d no).2=true):SmF (frmN no (pgAt d no).1):=by
 have:=(pgAt_ok h).2.2.1;show(pgAt d no).1.sl.length<=1048576;omega
theorem smS_fet{s:Sto}{no:Nat}(h:SInv s)(hno:no<8):SmS (fetS s no).1:=by
 by_cases hc:0<=frAt s.fr no
 ·rw[(fet_hit 0 hc).1];exact h.sm
 ·by_cases h3:s.fr.length=3
  ·have hh:=h.hd;have ho:=smS_out h (k:=s.hand.toNat) (by omega)
   cases hu:(outS s s.hand.toNat).2 with
   |false=>
    rw[(fet_down 0 hc h3 hu).1];exact ho
   |true=>
    rw[(fet_next 0 hc h3 hu).1];refine⟨ho.1,ho.2.1,?_,?_⟩
    ·show(List.set _ _ _).length<=_;rw[List.length_set];exact ho.2.2.1
    ·exact sm_set ho.2.2.2 (sm_pg (fet_pg h hno hc h3 hu).2.2)
  ·rw[(fet_add 0 hc h3).1];have hl:=h.fr3;refine⟨h.sm.1,h.sm.2.1,?_,fun i hi=> ?_⟩
   ·show(s.fr++[_]).length<=_;rw[List.length_append];simp only[List.length_cons,List.length_nil];omega
   ·have hi:i<(s.fr++[frmN no (pgAt s.d no).1]).length:=hi;show SmF ((s.fr++[frmN no (pgAt s.d no).1]).getD i default);by_cases e:i<s.fr.length
    ·rw[List.getD_eq_getElem?_getD,List.getElem?_append_left e,←List.getD_eq_getElem?_getD]
     exact h.sm.2.2.2 i e
    ·have:i=s.fr.length:=by rw[List.length_append] at hi;simp only[List.length_cons,List.length_nil] at hi;omega
     subst this;rw[List.getD_eq_getElem?_getD,List.getElem?_append_right (Nat.le_refl _)]
     simp only[Nat.sub_self,List.getElem?_cons_zero,Option.getD_some]
     exact sm_pg (h.pg no hno).1
theorem smS_apl{s:Sto}{r:Rec}(h:AplB s r):SmS (aplS s r).1:=by
 obtain⟨h,g1,g2,g3,g4⟩:=h;have hno:r.g.toNat<8:=by omega
 have hS:=smS_fet h hno;unfold aplS;split
 ·rename_i hu;have hf:=fet_fr h hno hu;refine⟨hS.1,hS.2.1,?_,?_⟩
  ·show(List.set _ _ _).length<=_;rw[List.length_set];exact hS.2.2.1
  ·refine sm_set hS.2.2.2 ?_
   have:=hf.2.2.2.1;show(List.set _ _ _).length<=_;rw[List.length_set];omega
 ·exact hS
def pgE:Pg:=⟨0,[]⟩
noncomputable def fetPage(s:Sto)(no:Int):Sto×Pg×Bool×Int:=if stoOK s=true then
  if inR no 0 7=true then
   if(fetS s no.toNat).2.2=true then((fetS s no.toNat).1,((fetS s no.toNat).1.fr.getD (fetS s no.toNat).2.1 default).pg,true,0) else((fetS s no.toNat).1,pgE,false,0)
  else(stoE,pgE,false,4)
 else(stoE,pgE,false,1)
def hpP(x:Sto×Pg):Heap:=x.1.hp 0++[strA x.2.sl]
noncomputable def r_FetchPage:Rle:=⟨Sto×Int,fun x=>[.agg x.1.ts,.int .i64 x.2],fun _=>[],fun x=>.tup [.agg ((fetPage x.1 x.2).1.tm 0),.agg ((fetPage x.1 x.2).2.1.tm 5),.bool (fetPage x.1 x.2).2.2.1,.int .i64 (fetPage x.1 x.2).2.2.2],fun x=>hpP ((fetPage x.1 x.2).1,(fetPage x.1 x.2).2.1),fun x=>StoB x.1/\SmS x.1⟩
noncomputable def k_FetchPagei:Con:=.rmk r_FetchPage
noncomputable def b_FetchPagei:Code:=Tryz.f29.body.getD .skip
theorem call_FetchPagei:Callable Tryz.prog 29:=⟨_,Tryz.func29,by kernel_rfl,by kernel_rfl⟩
theorem v_FetchPageY(s:Sto)(no:Int)(h:
  ∃(x:r_StoreOK.ι),(((EqS s x)/\True)/\StoB x)/\((!stoOK x)=true->((((0=0/\0=(fetPage s no).fst.d.sec.length)/\(0=0/\0=(fetPage s no).fst.d.cache.length)/\false=(fetPage s no).fst.d.armed/\(0=0/\0=
  (fetPage s no).fst.d.keep.length)/\(0:Int)=(fetPage s no).fst.ep/\(0=0/\0=(fetPage s no).fst.log.length)/\(0:Int)=(fetPage s no).fst.sure/\(0=0/\0=(fetPage s no).fst.fr.length)/\(0:Int)=(fetPage s
  no).fst.hand/\True)/\((0:Int)=(fetPage s no).snd.fst.lsn/\(0=0/\0=(fetPage s no).snd.fst.sl.length)/\True)/\false=(fetPage s no).snd.snd.fst/\(1:Int)=(fetPage s no).snd.snd.snd/\True)/\True)/\(0=(fetPage
  s no).fst.d.sec.length/\RowsEq 0 (fun(x:Nat)=>[]) (strRow (fetPage s no).fst.d.sec))/\(0=(fetPage s no).fst.d.cache.length/\RowsEq 0 (fun(x:Nat)=>[]) (pendRow (fetPage s no).fst.d.cache))/\(0=(fetPage s
  no).fst.d.keep.length/\RowsEq 0 (fun(x:Nat)=>[]) (intRow (fetPage s no).fst.d.keep))/\(0=(fetPage s no).fst.log.length/\RowsEq 0 (fun(x:Nat)=>[]) (recRow (fetPage s no).fst.log))/\(0=0/\0=(fetPage s
  no).fst.fr.length/\FamEq 0 (fun(x:Nat)=>[]) (famRow (fetPage s no).fst.fr))/\(0=(fetPage s no).snd.fst.sl.length/\RowsEq 0 (fun(x:Nat)=>[]) (strRow (fetPage s no).snd.fst.sl))/\True)/\((!stoOK x)=false->Small
  (8:Int)/\((!(decide ((0:Int)<=no)&&decide (no<(8:Int))))=true->((((0=0/\0=(fetPage s no).fst.d.sec.length)/\(0=0/\0=(fetPage s no).fst.d.cache.length)/\false=(fetPage s no).fst.d.armed/\(0=0/\0=
  (fetPage s no).fst.d.keep.length)/\(0:Int)=(fetPage s no).fst.ep/\(0=0/\0=(fetPage s no).fst.log.length)/\(0:Int)=(fetPage s no).fst.sure/\(0=0/\0=(fetPage s no).fst.fr.length)/\(0:Int)=(fetPage s
  no).fst.hand/\True)/\((0:Int)=(fetPage s no).snd.fst.lsn/\(0=0/\0=(fetPage s no).snd.fst.sl.length)/\True)/\false=(fetPage s no).snd.snd.fst/\(4:Int)=(fetPage s no).snd.snd.snd/\True)/\True)/\(0=(fetPage
  s no).fst.d.sec.length/\RowsEq 0 (fun(x:Nat)=>[]) (strRow (fetPage s no).fst.d.sec))/\(0=(fetPage s no).fst.d.cache.length/\RowsEq 0 (fun(x:Nat)=>[]) (pendRow (fetPage s no).fst.d.cache))/\(0=(fetPage s
  no).fst.d.keep.length/\RowsEq 0 (fun(x:Nat)=>[]) (intRow (fetPage s no).fst.d.keep))/\(0=(fetPage s no).fst.log.length/\RowsEq 0 (fun(x:Nat)=>[]) (recRow (fetPage s no).fst.log))/\(0=0/\0=(fetPage s
  no).fst.fr.length/\FamEq 0 (fun(x:Nat)=>[]) (famRow (fetPage s no).fst.fr))/\(0=(fetPage s no).snd.fst.sl.length/\RowsEq 0 (fun(x:Nat)=>[]) (strRow (fetPage s no).snd.fst.sl))/\True)/\((!(decide ((0:Int)<=no)
  &&decide (no<(8:Int))))=false->∃(x:Sto),(((EqS s x)/\True)/\SmS x)/\∃(x_1:(Sto×Nat×Nat)),(((0=0/\0=0)/\no=(x_1.snd.fst:Int)/\True)/\((1=1/\1=1/\EqC x x_1.fst)/\EqH (0) (x_1.snd.snd) x
  x_1.fst)/\FetB x_1.fst x_1.snd.fst/\(fetS x_1.fst x_1.snd.fst).snd.snd=true)/\(false=true->∃(x:(Sto×Sto×Bool)),((LeS (fetS x_1.fst x_1.snd.fst).fst)/\((EqS s x.fst)/\(EqF (fetS x_1.fst x_1.snd.fst).fst x.snd.fst)
  /\false=x.snd.snd/\True)/\SmS x.fst/\SmS x.snd.fst)/\False)/\(false=false->∃(x:Sto),((LeS (fetS x_1.fst x_1.snd.fst).fst)/\((EqF (fetS x_1.fst x_1.snd.fst).fst x)/\True)/\SmS x)/\Lt (fetS x_1.fst
  x_1.snd.fst).snd.fst (fetS x_1.fst x_1.snd.fst).fst.fr.length/\∃(x_2:Pg),(PoB (fetV x_1.fst x_1.snd.fst x_1.snd.snd) (fetV x_1.fst x_1.snd.fst x_1.snd.snd) (fetS x_1.fst x_1.snd.fst).snd.fst (fetS x_1.fst
  x_1.snd.fst).fst.fr.length ((fetS x_1.fst x_1.snd.fst).fst.fr.getD (fetS x_1.fst x_1.snd.fst).snd.fst default).pg.sl.length ((fetS x_1.fst x_1.snd.fst).fst.fr.getD (fetS x_1.fst x_1.snd.fst).snd.fst default).pg.sl.length/\
  ((((fetS x_1.fst x_1.snd.fst).fst.fr.getD (fetS x_1.fst x_1.snd.fst).snd.fst default).pg.lsn=x_2.lsn/\(EqL strRow ((fetS x_1.fst x_1.snd.fst).fst.fr.getD (fetS x_1.fst x_1.snd.fst).snd.fst default).pg.sl x_2.sl)/\True)/\True)
  /\x_2.sl.length<=1048576)/\(((EqC x (fetPage s no).fst)/\(x_2.lsn=(fetPage s no).snd.fst.lsn/\(0=0/\x_2.sl.length=(fetPage s no).snd.fst.sl.length)/\True)/\true=(fetPage s no).snd.snd.fst/\(0:Int)=(fetPage s
  no).snd.snd.snd/\True)/\True)/\(EqL strRow x.d.sec (fetPage s no).fst.d.sec)/\(EqL pendRow x.d.cache (fetPage s no).fst.d.cache)/\(EqL intRow x.d.keep (fetPage s no).fst.d.keep)/\(EqL recRow x.log (fetPage s no).fst.log)/\
  (0=0/\x.fr.length=(fetPage s no).fst.fr.length/\FamEq x.fr.length (famRow x.fr) (famRow (fetPage s no).fst.fr))/\(EqL strRow x_2.sl (fetPage s no).snd.fst.sl)/\True)))):
  EffFn Tryz.prog 29 [.agg s.ts,.int .i64 no] [] (.tup [.agg ((fetPage s no).1.tm 0),.agg ((fetPage s no).2.1.tm 5),.bool (fetPage s no).2.2.1,.int .i64 (fetPage s no).2.2.2]) (hpP ((fetPage s no).1,(fetPage s no).2.1)):=
 vcG (code:=b_FetchPagei) (gC StoreOKi_ok call_StoreOKi (gC isPlace_ok call_isPlace (gC clSto_ok call_clSto (gC fetchY_ok call_fetchY (gC kept_ok call_kept (gC clPg_ok call_clPg gN)))))) Tryz.func29 (by kernel_rfl) (by kernel_rfl) noAnn [[.arr 12,.arr 13,.arr 14,.arr 15,.arr 16,.arr 17],[.nilS 0 [0,0] 0 1,.nilS 0 [0,1] 0 2,.nilS 0 [0,3] 0 1,.nilS 0 [0,5] 0 10,.nilS 0 [0,7] 0 5,.nilS 0 [1,1] 0 1,.fam 7,.arr 3,.arr 4,.arr 5,.arr 6,.arr 7,.arr 8]] h (by kernel_rfl)
theorem v_FetchPageN(s:Sto)(no:Int)(h:
  ∃(x:r_StoreOK.ι),(((EqS s x)/\True)/\StoB x)/\((!stoOK x)=true->((((0=0/\0=(fetPage s no).fst.d.sec.length)/\(0=0/\0=(fetPage s no).fst.d.cache.length)/\false=(fetPage s no).fst.d.armed/\(0=0/\0=
  (fetPage s no).fst.d.keep.length)/\(0:Int)=(fetPage s no).fst.ep/\(0=0/\0=(fetPage s no).fst.log.length)/\(0:Int)=(fetPage s no).fst.sure/\(0=0/\0=(fetPage s no).fst.fr.length)/\(0:Int)=(fetPage s
  no).fst.hand/\True)/\((0:Int)=(fetPage s no).snd.fst.lsn/\(0=0/\0=(fetPage s no).snd.fst.sl.length)/\True)/\false=(fetPage s no).snd.snd.fst/\(1:Int)=(fetPage s no).snd.snd.snd/\True)/\True)/\(0=(fetPage
  s no).fst.d.sec.length/\RowsEq 0 (fun(x:Nat)=>[]) (strRow (fetPage s no).fst.d.sec))/\(0=(fetPage s no).fst.d.cache.length/\RowsEq 0 (fun(x:Nat)=>[]) (pendRow (fetPage s no).fst.d.cache))/\(0=(fetPage s
  no).fst.d.keep.length/\RowsEq 0 (fun(x:Nat)=>[]) (intRow (fetPage s no).fst.d.keep))/\(0=(fetPage s no).fst.log.length/\RowsEq 0 (fun(x:Nat)=>[]) (recRow (fetPage s no).fst.log))/\(0=0/\0=(fetPage s
  no).fst.fr.length/\FamEq 0 (fun(x:Nat)=>[]) (famRow (fetPage s no).fst.fr))/\(0=(fetPage s no).snd.fst.sl.length/\RowsEq 0 (fun(x:Nat)=>[]) (strRow (fetPage s no).snd.fst.sl))/\True)/\((!stoOK x)=false->Small
  (8:Int)/\((!(decide ((0:Int)<=no)&&decide (no<(8:Int))))=true->((((0=0/\0=(fetPage s no).fst.d.sec.length)/\(0=0/\0=(fetPage s no).fst.d.cache.length)/\false=(fetPage s no).fst.d.armed/\(0=0/\0=
  (fetPage s no).fst.d.keep.length)/\(0:Int)=(fetPage s no).fst.ep/\(0=0/\0=(fetPage s no).fst.log.length)/\(0:Int)=(fetPage s no).fst.sure/\(0=0/\0=(fetPage s no).fst.fr.length)/\(0:Int)=(fetPage s
  no).fst.hand/\True)/\((0:Int)=(fetPage s no).snd.fst.lsn/\(0=0/\0=(fetPage s no).snd.fst.sl.length)/\True)/\false=(fetPage s no).snd.snd.fst/\(4:Int)=(fetPage s no).snd.snd.snd/\True)/\True)/\(0=(fetPage
  s no).fst.d.sec.length/\RowsEq 0 (fun(x:Nat)=>[]) (strRow (fetPage s no).fst.d.sec))/\(0=(fetPage s no).fst.d.cache.length/\RowsEq 0 (fun(x:Nat)=>[]) (pendRow (fetPage s no).fst.d.cache))/\(0=(fetPage s
  no).fst.d.keep.length/\RowsEq 0 (fun(x:Nat)=>[]) (intRow (fetPage s no).fst.d.keep))/\(0=(fetPage s no).fst.log.length/\RowsEq 0 (fun(x:Nat)=>[]) (recRow (fetPage s no).fst.log))/\(0=0/\0=(fetPage s
  no).fst.fr.length/\FamEq 0 (fun(x:Nat)=>[]) (famRow (fetPage s no).fst.fr))/\(0=(fetPage s no).snd.fst.sl.length/\RowsEq 0 (fun(x:Nat)=>[]) (strRow (fetPage s no).snd.fst.sl))/\True)/\((!(decide ((0:Int)<=no)
  &&decide (no<(8:Int))))=false->∃(x:Sto),(((EqS s x)/\True)/\SmS x)/\∃(x_1:(Sto×Nat×Nat)),(((0=0/\0=0)/\no=(x_1.snd.fst:Int)/\True)/\((1=1/\1=1/\EqC x x_1.fst)/\EqH (0) (x_1.snd.snd) x
  x_1.fst)/\FetB x_1.fst x_1.snd.fst/\(fetS x_1.fst x_1.snd.fst).snd.snd=false)/\(true=true->∃(x:(Sto×Sto×Bool)),((LeS (fetS x_1.fst x_1.snd.fst).fst)/\((EqS s x.fst)/\(EqF (fetS x_1.fst x_1.snd.fst).fst x.snd.fst)
  /\false=x.snd.snd/\True)/\SmS x.fst/\SmS x.snd.fst)/\(((EqC (kepS x.fst x.snd.fst x.snd.snd) (fetPage s no).fst)/\((0:Int)=(fetPage s no).snd.fst.lsn/\(0=0/\0=(fetPage s no).snd.fst.sl.length)/\True)/\false=
  (fetPage s no).snd.snd.fst/\(0:Int)=(fetPage s no).snd.snd.snd/\True)/\True)/\(EqL strRow (kepS x.fst x.snd.fst x.snd.snd).d.sec (fetPage s no).fst.d.sec)/\(EqL pendRow (kepS x.fst x.snd.fst x.snd.snd).d.cache (fetPage s
  no).fst.d.cache)/\(EqL intRow (kepS x.fst x.snd.fst x.snd.snd).d.keep (fetPage s no).fst.d.keep)/\(EqL recRow (kepS x.fst x.snd.fst x.snd.snd).log (fetPage s no).fst.log)/\(0=0/\(kepS x.fst x.snd.fst x.snd.snd).fr.length=
  (fetPage s no).fst.fr.length/\FamEq (kepS x.fst x.snd.fst x.snd.snd).fr.length (famRow (kepS x.fst x.snd.fst x.snd.snd).fr) (famRow (fetPage s no).fst.fr))/\(0=(fetPage s no).snd.fst.sl.length/\RowsEq 0 (fun(x:Nat)=>[])
  (strRow (fetPage s no).snd.fst.sl))/\True)/\(true=false->∃(x:Sto),((LeS (fetS x_1.fst x_1.snd.fst).fst)/\((EqF (fetS x_1.fst x_1.snd.fst).fst x)/\True)/\SmS x)/\False)))):
  EffFn Tryz.prog 29 [.agg s.ts,.int .i64 no] [] (.tup [.agg ((fetPage s no).1.tm 0),.agg ((fetPage s no).2.1.tm 5),.bool (fetPage s no).2.2.1,.int .i64 (fetPage s no).2.2.2]) (hpP ((fetPage s no).1,(fetPage s no).2.1)):=
 vcG (code:=b_FetchPagei) (gC StoreOKi_ok call_StoreOKi (gC isPlace_ok call_isPlace (gC clSto_ok call_clSto (gC fetchN_ok call_fetchN (gC kept_ok call_kept (gC clPg_ok call_clPg gN)))))) Tryz.func29 (by kernel_rfl) (by kernel_rfl) noAnn [[.nilS 0 [1,1] 0 1,.arr 12,.arr 13,.arr 14,.arr 15,.arr 16,.arr 17],[.nilS 0 [0,0] 0 1,.nilS 0 [0,1] 0 2,.nilS 0 [0,3] 0 1,.nilS 0 [0,5] 0 10,.nilS 0 [0,7] 0 5,.nilS 0 [1,1] 0 1,.fam 7,.arr 3,.arr 4,.arr 5,.arr 6,.arr 7,.arr 8]] h (by kernel_rfl)
theorem fetPage_no{s:Sto}{no:Int}(h:(!stoOK s)=true):fetPage s no=(stoE,pgE,false,1):=by unfold fetPage;rw[if_neg (by simpa using h)]
theorem fetPage_out{s:Sto}{no:Int}(h:(!stoOK s)=false)(hl:¬inR no 0 7=true):fetPage s no=(stoE,pgE,false,4):=by unfold fetPage;rw[if_pos (by simpa using h),if_neg hl]
theorem fetPage_up{s:Sto}{no:Int}(h:stoOK s=true)(hl:inR no 0 7=true)(hu:(fetS s no.toNat).2.2=true):fetPage s no=((fetS s no.toNat).1,((fetS s no.toNat).1.fr.getD (fetS s no.toNat).2.1 default).pg,true,0):=by unfold fetPage;rw[if_pos h,if_pos hl,if_pos hu]
theorem fetPage_down{s:Sto}{no:Int}(h:stoOK s=true)(hl:inR no 0 7=true)(hu:¬ (fetS s no.toNat).2.2=true):fetPage s no=((fetS s no.toNat).1,pgE,false,0):=by unfold fetPage;rw[if_pos h,if_pos hl,if_neg hu]
theorem in8(no:Int):(decide (0<=no)&&decide (no<8))=inR no 0 7:=by
 unfold inR;rw[show decide (no<8)=decide (no<=7) from decide_eq_decide.2 (by omega)]
theorem FetchPagei_ok:ConOk Tryz.prog 29 k_FetchPagei:=by
 rintro⟨s,no⟩ ⟨h1,h2⟩;dsimp only at h1 h2;have h8:Small 8:=by unfold Small;omega
 by_cases hu:(fetS s no.toNat).2.2=true
 ·refine⟨v_FetchPageY s no ⟨s,⟨⟨eqS _,trivial⟩,h1⟩,fun hq=> ?_,fun hq=>⟨h8,fun hr=> ?_,fun hr=> ?_⟩⟩,rfl,plain_app (plain_sto _ 0) (plain_str _)⟩
  ·rw[fetPage_no hq];exact⟨⟨⟨⟨⟨rfl,rfl⟩,⟨rfl,rfl⟩,rfl,⟨rfl,rfl⟩,rfl,⟨rfl,rfl⟩,rfl,⟨rfl,rfl⟩,rfl,trivial⟩,⟨rfl,⟨rfl,rfl⟩,trivial⟩,rfl,rfl,trivial⟩,trivial⟩,⟨rfl,row0⟩,⟨rfl,row0⟩,⟨rfl,row0⟩,⟨rfl,row0⟩,⟨rfl,rfl,fun i hi=>absurd hi (Nat.not_lt_zero _)⟩,⟨rfl,row0⟩,trivial⟩
  ·rw[in8] at hr;rw[fetPage_out hq (by simpa using hr)]
   exact⟨⟨⟨⟨⟨rfl,rfl⟩,⟨rfl,rfl⟩,rfl,⟨rfl,rfl⟩,rfl,⟨rfl,rfl⟩,rfl,⟨rfl,rfl⟩,rfl,trivial⟩,⟨rfl,⟨rfl,rfl⟩,trivial⟩,rfl,rfl,trivial⟩,trivial⟩,⟨rfl,row0⟩,⟨rfl,row0⟩,⟨rfl,row0⟩,⟨rfl,row0⟩,⟨rfl,rfl,fun i hi=>absurd hi (Nat.not_lt_zero _)⟩,⟨rfl,row0⟩,trivial⟩
  ·rw[in8] at hr;have ho:stoOK s=true:=by simpa using hq
   have hl:=inR_nt hr;have hi:=sto_inv ho h2;have hno:no.toNat<8:=by omega
   have hf:=fet_fr hi hno hu;rw[fetPage_up ho (by simpa using hr) hu]
   refine⟨s,⟨⟨eqS _,trivial⟩,h2⟩,(s,no.toNat,0),⟨⟨⟨rfl,rfl⟩,by dsimp only;omega,trivial⟩,⟨⟨rfl,rfl,⟨rfl,rfl⟩,⟨rfl,rfl⟩,rfl,⟨rfl,rfl⟩,rfl,⟨rfl,rfl⟩,rfl,⟨rfl,rfl⟩,rfl,trivial⟩,⟨rfl,rowsR _ _⟩,⟨rfl,rowsR _ _⟩,⟨rfl,rowsR _ _⟩,⟨rfl,rowsR _ _⟩,⟨rfl,rfl,famR _⟩,trivial⟩,⟨hi,hno⟩,hu⟩,fun hb=>(by cases hb),fun _=>⟨(fetS s no.toNat).1,⟨⟨le0 _,le0 _,le0 _,le0 _,le0 _⟩,⟨⟨⟨rfl,rowsR _ _⟩,⟨rfl,rowsR _ _⟩,rfl,⟨rfl,rowsR _ _⟩,rfl,⟨rfl,rowsR _ _⟩,rfl,⟨rfl,fun _ _=>rfl⟩,rfl,trivial⟩,trivial⟩,smS_fet hi hno⟩,hf.1,((fetS s no.toNat).1.fr.getD (fetS s no.toNat).2.1 default).pg,⟨⟨rfl,hf.1,Nat.le_refl _⟩,⟨⟨rfl,⟨rfl,rowsR _ _⟩,trivial⟩,trivial⟩,?_⟩,⟨⟨⟨⟨rfl,rfl⟩,⟨rfl,rfl⟩,rfl,⟨rfl,rfl⟩,rfl,⟨rfl,rfl⟩,rfl,⟨rfl,rfl⟩,rfl,trivial⟩,⟨rfl,⟨rfl,rfl⟩,trivial⟩,rfl,rfl,trivial⟩,trivial⟩,⟨rfl,rowsR _ _⟩,⟨rfl,rowsR _ _⟩,⟨rfl,rowsR _ _⟩,⟨rfl,rowsR _ _⟩,⟨rfl,rfl,famR _⟩,⟨rfl,rowsR _ _⟩,trivial⟩⟩
   have:=hf.2.2.2.1;omega
 ·refine⟨v_FetchPageN s no ⟨s,⟨⟨eqS _,trivial⟩,h1⟩,fun hq=> ?_,fun hq=>⟨h8,fun hr=> ?_,fun hr=> ?_⟩⟩,rfl,plain_app (plain_sto _ 0) (plain_str _)⟩
  ·rw[fetPage_no hq];exact⟨⟨⟨⟨⟨rfl,rfl⟩,⟨rfl,rfl⟩,rfl,⟨rfl,rfl⟩,rfl,⟨rfl,rfl⟩,rfl,⟨rfl,rfl⟩,rfl,trivial⟩,⟨rfl,⟨rfl,rfl⟩,trivial⟩,rfl,rfl,trivial⟩,trivial⟩,⟨rfl,row0⟩,⟨rfl,row0⟩,⟨rfl,row0⟩,⟨rfl,row0⟩,⟨rfl,rfl,fun i hi=>absurd hi (Nat.not_lt_zero _)⟩,⟨rfl,row0⟩,trivial⟩
  ·rw[in8] at hr;rw[fetPage_out hq (by simpa using hr)]
   exact⟨⟨⟨⟨⟨rfl,rfl⟩,⟨rfl,rfl⟩,rfl,⟨rfl,rfl⟩,rfl,⟨rfl,rfl⟩,rfl,⟨rfl,rfl⟩,rfl,trivial⟩,⟨rfl,⟨rfl,rfl⟩,trivial⟩,rfl,rfl,trivial⟩,trivial⟩,⟨rfl,row0⟩,⟨rfl,row0⟩,⟨rfl,row0⟩,⟨rfl,row0⟩,⟨rfl,rfl,fun i hi=>absurd hi (Nat.not_lt_zero _)⟩,⟨rfl,row0⟩,trivial⟩
  ·rw[in8] at hr;have ho:stoOK s=true:=by simpa using hq
   have hl:=inR_nt hr;have hi:=sto_inv ho h2;have hno:no.toNat<8:=by omega
   have hu':(fetS s no.toNat).2.2=false:=by simpa using hu
   have ek:kepS s (fetS s no.toNat).1 false=(fetS s no.toNat).1:=fet_keep hu';rw[fetPage_down ho (by simpa using hr) hu]
   refine⟨s,⟨⟨eqS _,trivial⟩,h2⟩,(s,no.toNat,0),⟨⟨⟨rfl,rfl⟩,by dsimp only;omega,trivial⟩,⟨⟨rfl,rfl,⟨rfl,rfl⟩,⟨rfl,rfl⟩,rfl,⟨rfl,rfl⟩,rfl,⟨rfl,rfl⟩,rfl,⟨rfl,rfl⟩,rfl,trivial⟩,⟨rfl,rowsR _ _⟩,⟨rfl,rowsR _ _⟩,⟨rfl,rowsR _ _⟩,⟨rfl,rowsR _ _⟩,⟨rfl,rfl,famR _⟩,trivial⟩,⟨hi,hno⟩,hu'⟩,fun _=>⟨(s,(fetS s no.toNat).1,false),⟨⟨le0 _,le0 _,le0 _,le0 _,le0 _⟩,⟨eqS _,⟨⟨rfl,rowsR _ _⟩,⟨rfl,rowsR _ _⟩,rfl,⟨rfl,rowsR _ _⟩,rfl,⟨rfl,rowsR _ _⟩,rfl,⟨rfl,fun _ _=>rfl⟩,rfl,trivial⟩,rfl,trivial⟩,h2,smS_fet hi hno⟩,?_⟩,fun hb=>(by cases hb)⟩
   dsimp only;rw[ek];exact⟨⟨⟨⟨⟨rfl,rfl⟩,⟨rfl,rfl⟩,rfl,⟨rfl,rfl⟩,rfl,⟨rfl,rfl⟩,rfl,⟨rfl,rfl⟩,rfl,trivial⟩,⟨rfl,⟨rfl,rfl⟩,trivial⟩,rfl,rfl,trivial⟩,trivial⟩,⟨rfl,rowsR _ _⟩,⟨rfl,rowsR _ _⟩,⟨rfl,rowsR _ _⟩,⟨rfl,rowsR _ _⟩,⟨rfl,rfl,famR _⟩,⟨rfl,row0⟩,trivial⟩
noncomputable def aplChg(s:Sto)(lsn:Int):Sto×Bool×Int:=if stoOK s=true then
  if inR lsn 1 s.log.length=true then
   if(s.log.getD (lsn-1).toNat default).k=2∨(s.log.getD (lsn-1).toNat default).k=3 then((aplS s (s.log.getD (lsn-1).toNat default)).1,(aplS s (s.log.getD (lsn-1).toNat default)).2,0) else(stoE,false,3)
  else(stoE,false,4)
 else(stoE,false,1)
noncomputable def r_ApplyChange:Rle:=⟨Sto×Int,fun x=>[.agg x.1.ts,.int .i64 x.2],fun _=>[],fun x=>.tup [.agg ((aplChg x.1 x.2).1.tm 0),.bool (aplChg x.1 x.2).2.1,.int .i64 (aplChg x.1 x.2).2.2],fun x=>(aplChg x.1 x.2).1.hp 0,fun x=>StoB x.1/\SmS x.1⟩
noncomputable def k_ApplyChangei:Con:=.rmk r_ApplyChange
noncomputable def b_ApplyChangei:Code:=Tryz.f30.body.getD .skip
theorem call_ApplyChangei:Callable Tryz.prog 30:=⟨_,Tryz.func30,by kernel_rfl,by kernel_rfl⟩
theorem v_ApplyChangei(s:Sto)(lsn:Int)(h:
  ∃(x:r_StoreOK.ι),(((EqS s x)/\True)/\StoB x)/\((!stoOK x)=true->((((0=0/\0=(aplChg s lsn).fst.d.sec.length)/\(0=0/\0=(aplChg s lsn).fst.d.cache.length)/\false=(aplChg s lsn).fst.d.armed/\(0=0/\0=
  (aplChg s lsn).fst.d.keep.length)/\(0:Int)=(aplChg s lsn).fst.ep/\(0=0/\0=(aplChg s lsn).fst.log.length)/\(0:Int)=(aplChg s lsn).fst.sure/\(0=0/\0=(aplChg s lsn).fst.fr.length)/\(0:Int)=(aplChg s
  lsn).fst.hand/\True)/\false=(aplChg s lsn).snd.fst/\(1:Int)=(aplChg s lsn).snd.snd/\True)/\True)/\(0=(aplChg s lsn).fst.d.sec.length/\RowsEq 0 (fun(x:Nat)=>[]) (strRow (aplChg s lsn).fst.d.sec))/\(0=(aplChg
  s lsn).fst.d.cache.length/\RowsEq 0 (fun(x:Nat)=>[]) (pendRow (aplChg s lsn).fst.d.cache))/\(0=(aplChg s lsn).fst.d.keep.length/\RowsEq 0 (fun(x:Nat)=>[]) (intRow (aplChg s lsn).fst.d.keep))/\(0=(aplChg s
  lsn).fst.log.length/\RowsEq 0 (fun(x:Nat)=>[]) (recRow (aplChg s lsn).fst.log))/\(0=0/\0=(aplChg s lsn).fst.fr.length/\FamEq 0 (fun(x:Nat)=>[]) (famRow (aplChg s lsn).fst.fr))/\True)/\((!stoOK x)=false->
  ((!inR lsn (1:Int) (s.log.length:Int))=true->((((0=0/\0=(aplChg s lsn).fst.d.sec.length)/\(0=0/\0=(aplChg s lsn).fst.d.cache.length)/\false=(aplChg s lsn).fst.d.armed/\(0=0/\0=(aplChg s
  lsn).fst.d.keep.length)/\(0:Int)=(aplChg s lsn).fst.ep/\(0=0/\0=(aplChg s lsn).fst.log.length)/\(0:Int)=(aplChg s lsn).fst.sure/\(0=0/\0=(aplChg s lsn).fst.fr.length)/\(0:Int)=(aplChg s lsn).fst.hand/\
  True)/\false=(aplChg s lsn).snd.fst/\(4:Int)=(aplChg s lsn).snd.snd/\True)/\True)/\(0=(aplChg s lsn).fst.d.sec.length/\RowsEq 0 (fun(x:Nat)=>[]) (strRow (aplChg s lsn).fst.d.sec))/\(0=(aplChg s
  lsn).fst.d.cache.length/\RowsEq 0 (fun(x:Nat)=>[]) (pendRow (aplChg s lsn).fst.d.cache))/\(0=(aplChg s lsn).fst.d.keep.length/\RowsEq 0 (fun(x:Nat)=>[]) (intRow (aplChg s lsn).fst.d.keep))/\(0=(aplChg s
  lsn).fst.log.length/\RowsEq 0 (fun(x:Nat)=>[]) (recRow (aplChg s lsn).fst.log))/\(0=0/\0=(aplChg s lsn).fst.fr.length/\FamEq 0 (fun(x:Nat)=>[]) (famRow (aplChg s lsn).fst.fr))/\True)/\((!inR lsn (1:Int)
  (s.log.length:Int))=false->Rng .i64 (lsn- (1:Int))/\InB (lsn- (1:Int)) s.log.length/\(((s.log.getD (lsn- (1:Int)).toNat default).k !=(2:Int)&&(s.log.getD (lsn- (1:Int)).toNat default).k !=(3:Int))=true->
  ((((0=0/\0=(aplChg s lsn).fst.d.sec.length)/\(0=0/\0=(aplChg s lsn).fst.d.cache.length)/\false=(aplChg s lsn).fst.d.armed/\(0=0/\0=(aplChg s lsn).fst.d.keep.length)/\(0:Int)=(aplChg s lsn).fst.ep/\(0=0
  /\0=(aplChg s lsn).fst.log.length)/\(0:Int)=(aplChg s lsn).fst.sure/\(0=0/\0=(aplChg s lsn).fst.fr.length)/\(0:Int)=(aplChg s lsn).fst.hand/\True)/\false=(aplChg s lsn).snd.fst/\(3:Int)=(aplChg s
  lsn).snd.snd/\True)/\True)/\(0=(aplChg s lsn).fst.d.sec.length/\RowsEq 0 (fun(x:Nat)=>[]) (strRow (aplChg s lsn).fst.d.sec))/\(0=(aplChg s lsn).fst.d.cache.length/\RowsEq 0 (fun(x:Nat)=>[]) (pendRow (aplChg s
  lsn).fst.d.cache))/\(0=(aplChg s lsn).fst.d.keep.length/\RowsEq 0 (fun(x:Nat)=>[]) (intRow (aplChg s lsn).fst.d.keep))/\(0=(aplChg s lsn).fst.log.length/\RowsEq 0 (fun(x:Nat)=>[]) (recRow (aplChg s lsn).fst.log))
  /\(0=0/\0=(aplChg s lsn).fst.fr.length/\FamEq 0 (fun(x:Nat)=>[]) (famRow (aplChg s lsn).fst.fr))/\True)/\(((s.log.getD (lsn- (1:Int)).toNat default).k !=(2:Int)&&(s.log.getD (lsn- (1:Int)).toNat default).k
  !=(3:Int))=false->∃(x:Sto),(((EqS s x)/\True)/\SmS x)/\∃(x_1:(Sto×Rec×Nat)),(((0=0/\0=0)/\(EqR (s.log.getD (lsn- (1:Int)).toNat default) x_1.snd.fst)/\True)/\((1=1/\1=1/\EqC x x_1.fst)/\EqH
  (0) (x_1.snd.snd) x x_1.fst)/\AplB x_1.fst x_1.snd.fst)/\∃(x:(Sto×Sto×Bool)),((LeS (aplS x_1.fst x_1.snd.fst).fst)/\((EqS s x.fst)/\(EqF (aplS x_1.fst x_1.snd.fst).fst x.snd.fst)/\(aplS x_1.fst x_1.snd.fst).snd=
  x.snd.snd/\True)/\SmS x.fst/\SmS x.snd.fst)/\(((EqC (kepS x.fst x.snd.fst x.snd.snd) (aplChg s lsn).fst)/\(aplS x_1.fst x_1.snd.fst).snd=(aplChg s lsn).snd.fst/\(0:Int)=(aplChg s lsn).snd.snd/\True)/\True)/\EqH (0)
  (0) (kepS x.fst x.snd.fst x.snd.snd) (aplChg s lsn).fst)))):
  EffFn Tryz.prog 30 [.agg s.ts,.int .i64 lsn] [] (.tup [.agg ((aplChg s lsn).1.tm 0),.bool (aplChg s lsn).2.1,.int .i64 (aplChg s lsn).2.2]) ((aplChg s lsn).1.hp 0):=
 vcG (code:=b_ApplyChangei) (gC StoreOKi_ok call_StoreOKi (gC inRange_ok call_inRange (gC clSto_ok call_clSto (gC apply_ok call_apply (gC kept_ok call_kept gN))))) Tryz.func30 (by kernel_rfl) (by kernel_rfl) noAnn [[.arr 12,.arr 13,.arr 14,.arr 15,.arr 16],[.nilS 0 [0,0] 0 1,.nilS 0 [0,1] 0 2,.nilS 0 [0,3] 0 1,.nilS 0 [0,5] 0 10,.nilS 0 [0,7] 0 5,.fam 7,.arr 3,.arr 4,.arr 5,.arr 6,.arr 7],[.nilS 0 [0,0] 0 1,.nilS 0 [0,1] 0 2,.nilS 0 [0,3] 0 1,.nilS 0 [0,5] 0 10,.nilS 0 [0,7] 0 5,.fam 6,.arr 2,.arr 3,.arr 4,.arr 5,.arr 6]] h (by kernel_rfl)
theorem chg_no{s:Sto}{lsn:Int}(h:(!stoOK s)=true):aplChg s lsn=(stoE,false,1):=by unfold aplChg;rw[if_neg (by simpa using h)]
theorem chg_out{s:Sto}{lsn:Int}(h:(!stoOK s)=false)(hl:(!inR lsn 1 s.log.length)=true):aplChg s lsn=(stoE,false,4):=by unfold aplChg;rw[if_pos (by simpa using h),if_neg (by simpa using hl)]
theorem chg_bad{s:Sto}{lsn:Int}(h:(!stoOK s)=false)(hl:(!inR lsn 1 s.log.length)=false)(hk:¬ ((s.log.getD (lsn-1).toNat default).k=2∨(s.log.getD (lsn-1).toNat default).k=3)):aplChg s lsn=(stoE,false,3):=by unfold aplChg;rw[if_pos (by simpa using h),if_pos (by simpa using hl),if_neg hk]
theorem chg_ok{s:Sto}{lsn:Int}(h:(!stoOK s)=false)(hl:(!inR lsn 1 s.log.length)=false)(hk:(s.log.getD (lsn-1).toNat default).k=2∨(s.log.getD (lsn-1).toNat default).k=3):aplChg s lsn=((aplS s (s.log.getD (lsn-1).toNat default)).1,(aplS s (s.log.getD (lsn-1).toNat default)).2,0):=by unfold aplChg;rw[if_pos (by simpa using h),if_pos (by simpa using hl),if_pos hk]
theorem inv_apl{s:Sto}{lsn:Int}(h:SInv s)(h1:1<=lsn)(h2:lsn<=s.log.length):AplB s (s.log.getD (lsn-1).toNat default)/\(s.log.getD (lsn-1).toNat default).l=lsn:=by
 obtain⟨a,b⟩:=areOK_iff.1 h.rc (lsn-1).toNat (by omega)
 have a:=(recOK_iff _).1 a;obtain⟨_,_,_,_,_,_,_,_,_,_,q1,q2,q3,q4,_⟩:=a;exact⟨⟨h,q1,by omega,q3,by omega⟩,by omega⟩
theorem kep_apl{s:Sto}{r:Rec}:kepS s (aplS s r).1 (aplS s r).2=(aplS s r).1:=by
 unfold aplS;by_cases hu:(fetS s r.g.toNat).2.2=true
 ·rw[if_pos hu];rfl
 ·rw[if_neg hu];exact fet_keep (by simpa using hu)
theorem ApplyChangei_ok:ConOk Tryz.prog 30 k_ApplyChangei:=by
 rintro⟨s,lsn⟩ ⟨h1,h2⟩;dsimp only at h1 h2;refine⟨v_ApplyChangei s lsn ⟨s,⟨⟨eqS _,trivial⟩,h1⟩,fun hq=> ?_,fun hq=>⟨fun hr=> ?_,fun hr=> ?_⟩⟩,rfl,plain_sto _ 0⟩
 ·rw[chg_no hq];exact⟨⟨⟨⟨⟨rfl,rfl⟩,⟨rfl,rfl⟩,rfl,⟨rfl,rfl⟩,rfl,⟨rfl,rfl⟩,rfl,⟨rfl,rfl⟩,rfl,trivial⟩,rfl,rfl,trivial⟩,trivial⟩,⟨rfl,row0⟩,⟨rfl,row0⟩,⟨rfl,row0⟩,⟨rfl,row0⟩,⟨rfl,rfl,fun i hi=>absurd hi (Nat.not_lt_zero _)⟩,trivial⟩
 ·rw[chg_out hq hr];exact⟨⟨⟨⟨⟨rfl,rfl⟩,⟨rfl,rfl⟩,rfl,⟨rfl,rfl⟩,rfl,⟨rfl,rfl⟩,rfl,⟨rfl,rfl⟩,rfl,trivial⟩,rfl,rfl,trivial⟩,trivial⟩,⟨rfl,row0⟩,⟨rfl,row0⟩,⟨rfl,row0⟩,⟨rfl,row0⟩,⟨rfl,rfl,fun i hi=>absurd hi (Nat.not_lt_zero _)⟩,trivial⟩
 ·have ho:stoOK s=true:=by simpa using hq
  have hl:=inR_nt hr;have h60:=sto_60 ho;obtain⟨ha,_⟩:=inv_apl (sto_inv ho h2) hl.1 hl.2;refine⟨i64_rng (by omega),⟨by omega,by omega⟩,fun hk=> ?_,fun hk=> ?_⟩
  ·simp only[Bool.and_eq_true,bne_iff_ne,ne_eq] at hk;rw[chg_bad hq hr (by omega)]
   exact⟨⟨⟨⟨⟨rfl,rfl⟩,⟨rfl,rfl⟩,rfl,⟨rfl,rfl⟩,rfl,⟨rfl,rfl⟩,rfl,⟨rfl,rfl⟩,rfl,trivial⟩,rfl,rfl,trivial⟩,trivial⟩,⟨rfl,row0⟩,⟨rfl,row0⟩,⟨rfl,row0⟩,⟨rfl,row0⟩,⟨rfl,rfl,fun i hi=>absurd hi (Nat.not_lt_zero _)⟩,trivial⟩
  ·rw[chg_ok hq hr (by simp only[Bool.and_eq_false_iff,bne_eq_false_iff_eq] at hk;exact hk)]
   refine⟨s,⟨⟨eqS _,trivial⟩,h2⟩,(s,s.log.getD (lsn-1).toNat default,0),⟨⟨⟨rfl,rfl⟩,⟨rfl,rfl,rfl,rfl,rfl,rfl,rfl,rfl,rfl,rfl,trivial⟩,trivial⟩,⟨⟨rfl,rfl,⟨rfl,rfl⟩,⟨rfl,rfl⟩,rfl,⟨rfl,rfl⟩,rfl,⟨rfl,rfl⟩,rfl,⟨rfl,rfl⟩,rfl,trivial⟩,⟨rfl,rowsR _ _⟩,⟨rfl,rowsR _ _⟩,⟨rfl,rowsR _ _⟩,⟨rfl,rowsR _ _⟩,⟨rfl,rfl,famR _⟩,trivial⟩,ha⟩,(s,(aplS s (s.log.getD (lsn-1).toNat default)).1,(aplS s (s.log.getD (lsn-1).toNat default)).2),⟨⟨le0 _,le0 _,le0 _,le0 _,le0 _⟩,⟨eqS _,⟨⟨rfl,rowsR _ _⟩,⟨rfl,rowsR _ _⟩,rfl,⟨rfl,rowsR _ _⟩,rfl,⟨rfl,rowsR _ _⟩,rfl,⟨rfl,fun _ _=>rfl⟩,rfl,trivial⟩,rfl,trivial⟩,h2,smS_apl ha⟩,?_⟩
   dsimp only;rw[kep_apl];exact⟨⟨⟨⟨⟨rfl,rfl⟩,⟨rfl,rfl⟩,rfl,⟨rfl,rfl⟩,rfl,⟨rfl,rfl⟩,rfl,⟨rfl,rfl⟩,rfl,trivial⟩,rfl,rfl,trivial⟩,trivial⟩,⟨rfl,rowsR _ _⟩,⟨rfl,rowsR _ _⟩,⟨rfl,rowsR _ _⟩,⟨rfl,rowsR _ _⟩,⟨rfl,rfl,famR _⟩,trivial⟩
end Go.Proofs.YtndilbkocjlgpaaGreat

