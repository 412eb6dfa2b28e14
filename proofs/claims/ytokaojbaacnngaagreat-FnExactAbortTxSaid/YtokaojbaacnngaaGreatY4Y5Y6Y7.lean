/- A part of the proof. -/
import Derived.Test.YtokaojbaacnngaaGreatY1Y2Y3
import Derived.Test.YtokaojbaacnngaaGreatX11X11rX12X13X14
namespace Go.Proofs.YtokaojbaacnngaaGreat
set_option maxRecDepth 100000
open Go.SS

theorem nZ{d:Dsk}{no:Nat}(h:(Q8 d no).2=true):bL (Q8 d no).1:=by
 unfold Q8 at h ⊢;by_cases hr:S5 d (1+no)=[]
 ·rw[if_pos hr];refine⟨Int.le_refl _,by decide,rfl,λi hi=> ?_⟩
  match i,hi with
  |0,_=>exact S2 _
  |1,_=>exact S2 _
  |2,_=>exact S2 _
  |3,_=>exact S2 _
 ·rw[if_neg hr] at h ⊢;unfold K0 at h ⊢;split at h
  ·rename_i hc;rw[if_pos hc];simp only[I3] at h;exact E9 h.2
  ·cases h
theorem cB{s:Sto}{no:Nat}(h:SInv s)(hno:no<8)(hu:(Y2 s no).2.2=true):(Y2 s no).2.1<(Y2 s no).1.fr.length/\bL ((Y2 s no).1.fr.getD (Y2 s no).2.1 default).pg:=by
 by_cases hc:0<=frAt s.fr no
 ·rw[(yN 0 hc).1];exact⟨eP hc,(h.frp _ (eP hc)).2.2.1⟩
 ·by_cases h3:s.fr.length=3
  ·cases ho:(X7 s s.hand.toNat).2 with
   |false=>
    rw[(s7 0 hc h3 ho).1] at hu;cases hu
   |true=>
    rw[(t5 0 hc h3 ho).1];have hh:=h.hd;have hl:=(q8 s s.hand.toNat).1;have hp:=(eZ h hno hc h3 ho).2.2;unfold a5i;dsimp only;rw[o5,N9,j_k (by omega)]
    exact⟨by omega,nZ hp⟩
  ·rw[(yU 0 hc h3).1];unfold a28;dsimp only;rw[N9,qK (V1 _),B8]
   simp only[j_h,List.getElem?_cons_zero,Option.getD_some,List.length_cons,List.length_nil]
   exact⟨by omega,nZ (h.pg no hno).1⟩
def lA(f:Frm)(r:Rec):Frm:=⟨f.no,⟨r.l,f.pg.sl.set r.s.toNat r.a⟩,true,if f.dirty=true then f.first else r.l⟩
def b4W(a:Sto)(k:Nat)(r:Rec):Sto:=⟨a.d,a.ep,a.log,a.sure,a.fr.set k (lA (a.fr.getD k default) r),a.hand⟩
noncomputable def U7(s:Sto)(r:Rec):Sto×Bool:=if(Y2 s r.g.toNat).2.2=true then(b4W (Y2 s r.g.toNat).1 (Y2 s r.g.toNat).2.1 r,true) else((Y2 s r.g.toNat).1,false)
def a1L(s:Sto)(r:Rec):Prop:=SInv s/\0<=r.g/\r.g<8/\0<=r.s/\r.s<4
noncomputable def b6C:Con:=.reff ⟨Sto×Rec×Nat,λx=>[.ref 0 0 0,.agg x.2.1.ts],λx=>x.1.bx x.2.2,λx=>.bool (U7 x.1 x.2.1).2,λx=>(U7 x.1 x.2.1).1.bxF (B1 x.1 x.2.1.g.toNat x.2.2),λx=>a1L x.1 x.2.1⟩
theorem b25{L:List Frm}{k i:Nat}(f:Frm)(h:i≠k):b1J (Y8 L i) (Y8 (L.set k f) i):=by
 rw[show Y8 (L.set k f) i=Y8 L i by unfold Y8;rw[show(L.set k f).getD i default=L.getD i default by rw[N9,j_l (Ne.symm h),←N9]]]
 exact pS _
theorem sJ{L:List Frm}{k:Nat}(f:Frm)(h:k<L.length):(L.set k f).getD k default=f:=by rw[N9,j_k h];rfl
theorem dT{L:List (List UInt8)}{j:Nat}(t:List UInt8):L.length=(L.set j t).length/\Z6 L.length (setRow (Z5 L) j 0 [T.str t]) (Z5 (L.set j t)):=⟨o5.symm,λi hi=>eS i hi⟩
theorem b4U{L:List Frm}{k:Nat}{r:Rec}(hk:k<L.length)(hd:(L.getD k default).dirty=true):V0 L.length (setRow (setRow (Y8 L) k 2 [T.own 0 1 (L.getD k default).pg.sl.length (setRow (Z5 (L.getD k default).pg.sl) r.s.toNat 0 [T.str r.a])]) k 1 [T.int IntKind.i64 r.l]) (Y8 (L.set k (lA (L.getD k default) r))):=λi hi=>by
 have l5:∀j,(Y8 L j).length=5:=λ_=>rfl
 by_cases h:i=k
 ·subst h;unfold setRow;rw[oK rfl];have e:Y8 (L.set i (lA (L.getD i default) r)) i=[.int .i64 (L.getD i default).no,.int .i64 r.l,.own 0 1 ((L.getD i default).pg.sl.set r.s.toNat r.a).length (Z5 ((L.getD i default).pg.sl.set r.s.toNat r.a)),.bool (L.getD i default).dirty,.int .i64 (L.getD i default).first]:=by
   unfold Y8;rw[sJ _ hi];unfold lA;dsimp only;rw[if_pos hd,hd]
  rw[e];exact⟨rfl,rfl,⟨rfl,(dT r.a).1,(dT r.a).2⟩,rfl,Z9⟩
 ·rw[P0 (by rw[U1 (by rw[l5];exact m8 rfl),l5];exact m8 rfl) h,P0 (by rw[l5];exact m8 rfl) h]
  exact b25 _ h
theorem b2h{L:List Frm}{k:Nat}{r:Rec}(hk:k<L.length)(hd:(L.getD k default).dirty=false):V0 L.length (setRow (setRow (setRow (setRow (Y8 L) k 2 [T.own 0 1 (L.getD k default).pg.sl.length (setRow (Z5 (L.getD k default).pg.sl) r.s.toNat 0 [T.str r.a])]) k 1 [T.int IntKind.i64 r.l]) k 3 [T.bool true]) k 4 [T.int IntKind.i64 r.l]) (Y8 (L.set k (lA (L.getD k default) r))):=λi hi=>by
 have l5:∀j,(Y8 L j).length=5:=λ_=>rfl
 by_cases h:i=k
 ·subst h;unfold setRow;rw[oK rfl];have e:Y8 (L.set i (lA (L.getD i default) r)) i=[.int .i64 (L.getD i default).no,.int .i64 r.l,.own 0 1 ((L.getD i default).pg.sl.set r.s.toNat r.a).length (Z5 ((L.getD i default).pg.sl.set r.s.toNat r.a)),.bool true,.int .i64 r.l]:=by
   unfold Y8;rw[sJ _ hi];unfold lA;dsimp only;rw[if_neg (by rw[hd];simp)]
  rw[e];exact⟨rfl,rfl,⟨rfl,(dT r.a).1,(dT r.a).2⟩,rfl,Z9⟩
 ·have a1:(setRow (Y8 L) k 2 [T.own 0 1 (L.getD k default).pg.sl.length (setRow (Z5 (L.getD k default).pg.sl) r.s.toNat 0 [T.str r.a])] i).length=5:=by rw[U1 (by rw[l5];exact m8 rfl),l5]
  have a2:(setRow (setRow (Y8 L) k 2 [T.own 0 1 (L.getD k default).pg.sl.length (setRow (Z5 (L.getD k default).pg.sl) r.s.toNat 0 [T.str r.a])]) k 1 [T.int IntKind.i64 r.l] i).length=5:=by rw[U1 (by rw[a1];exact m8 rfl),a1]
  rw[P0 (by rw[U1 (by rw[a2];exact m8 rfl),a2];exact m8 rfl) h,P0 (by rw[a2];exact m8 rfl) h,P0 (by rw[a1];exact m8 rfl) h,P0 (by rw[l5];exact m8 rfl) h]
  exact b25 _ h
theorem b0H:GK 195 b6C:=gk Tryz.func195<|by
 rintro⟨s,r,v⟩ ⟨h,g1,g2,g3,g4⟩;dsimp only at h g1 g2 g3 g4;have hno:r.g.toNat<8:=by omega
 by_cases hu:(Y2 s r.g.toNat).2.2=true
 ·have hf:=cB h hno hu;have e:U7 s r=(b4W (Y2 s r.g.toNat).1 (Y2 s r.g.toNat).2.1 r,true):=if_pos hu;refine D2 (gC a85 gN) Tryz.func195 Z0 [[.box 0,.arr 1,.arr 2,.arr 3,.arr 4,.arr 5,.arr 7,.arr 8,.arr 9]] (α:=∃(x:(Sto×Nat×Nat)),(((0=0/\0=0)/\r.g=(x.2.1:Int)/\True)/\((1=1/\1=1/\pG s x.1)/\EqH (v) (x.2.2) s x.1)/\a7h x.1 x.2.1/\(Y2 x.1 x.2.1).2.2=true)/\(false=true->(false=(U7 s r).2/\True)/\(1=1/\1=1/\pG (Y2 x.1 x.2.1).1 (U7 s r).1)/\(Y6 Z5 (Y2 x.1 x.2.1).1.d.sec (U7 s r).1.d.sec)/\True/\True/\(Y6 Y7 (Y2 x.1 x.2.1).1.log (U7 s r).1.log)/\True/\(Y6 Z3 (Y2 x.1 x.2.1).1.d.cache (U7 s r).1.d.cache)/\(Y6 Y9 (Y2 x.1 x.2.1).1.d.keep (U7 s r).1.d.keep)/\(B1 x.1 x.2.1 x.2.2=B1 s r.g.toNat v/\(Y2 x.1 x.2.1).1.fr.length=(U7 s r).1.fr.length/\V0 (Y2 x.1 x.2.1).1.fr.length (Y8 (Y2 x.1 x.2.1).1.fr) (Y8 (U7 s r).1.fr))/\True)/\(false=false->Lt (Y2 x.1 x.2.1).2.1 (Y2 x.1 x.2.1).1.fr.length/\W2 r.s ((Y2 x.1 x.2.1).1.fr.getD (Y2 x.1 x.2.1).2.1 default).pg.sl.length/\PfB (B1 x.1 x.2.1 x.2.2) (B1 x.1 x.2.1 x.2.2) (Y2 x.1 x.2.1).2.1 (Y2 x.1 x.2.1).1.fr.length r.s.toNat ((Y2 x.1 x.2.1).1.fr.getD (Y2 x.1 x.2.1).2.1 default).pg.sl.length/\qH (Y2 x.1 x.2.1).2.1 (Y2 x.1 x.2.1).1.fr.length [T.int .i64 ((Y2 x.1 x.2.1).1.fr.getD (Y2 x.1 x.2.1).2.1 default).pg.lsn]/\Lt (Y2 x.1 x.2.1).2.1 (Y2 x.1 x.2.1).1.fr.length/\((!((Y2 x.1 x.2.1).1.fr.getD (Y2 x.1 x.2.1).2.1 default).dirty)=true->qH (Y2 x.1 x.2.1).2.1 (Y2 x.1 x.2.1).1.fr.length [T.bool ((Y2 x.1 x.2.1).1.fr.getD (Y2 x.1 x.2.1).2.1 default).dirty]/\qH (Y2 x.1 x.2.1).2.1 (Y2 x.1 x.2.1).1.fr.length [T.int .i64 ((Y2 x.1 x.2.1).1.fr.getD (Y2 x.1 x.2.1).2.1 default).first]/\(true=(U7 s r).2/\True)/\(1=1/\1=1/\pG (Y2 x.1 x.2.1).1 (U7 s r).1)/\(Y6 Z5 (Y2 x.1 x.2.1).1.d.sec (U7 s r).1.d.sec)/\True/\True/\(Y6 Y7 (Y2 x.1 x.2.1).1.log (U7 s r).1.log)/\True/\(Y6 Z3 (Y2 x.1 x.2.1).1.d.cache (U7 s r).1.d.cache)/\(Y6 Y9 (Y2 x.1 x.2.1).1.d.keep (U7 s r).1.d.keep)/\(B1 x.1 x.2.1 x.2.2=B1 s r.g.toNat v/\(Y2 x.1 x.2.1).1.fr.length=(U7 s r).1.fr.length/\V0 (Y2 x.1 x.2.1).1.fr.length (setRow (setRow (setRow (setRow (Y8 (Y2 x.1 x.2.1).1.fr) (Y2 x.1 x.2.1).2.1 2 [T.own (0:TypeId) 1 ((Y2 x.1 x.2.1).1.fr.getD (Y2 x.1 x.2.1).2.1 default).pg.sl.length (setRow (Z5 ((Y2 x.1 x.2.1).1.fr.getD (Y2 x.1 x.2.1).2.1 default).pg.sl) r.s.toNat 0 [T.str r.a])]) (Y2 x.1 x.2.1).2.1 1 [T.int .i64 r.l]) (Y2 x.1 x.2.1).2.1 3 [T.bool true]) (Y2 x.1 x.2.1).2.1 4 [T.int .i64 r.l]) (Y8 (U7 s r).1.fr))/\True)/\((!((Y2 x.1 x.2.1).1.fr.getD (Y2 x.1 x.2.1).2.1 default).dirty)=false->(true=(U7 s r).2/\True)/\(1=1/\1=1/\pG (Y2 x.1 x.2.1).1 (U7 s r).1)/\(Y6 Z5 (Y2 x.1 x.2.1).1.d.sec (U7 s r).1.d.sec)/\True/\True/\(Y6 Y7 (Y2 x.1 x.2.1).1.log (U7 s r).1.log)/\True/\(Y6 Z3 (Y2 x.1 x.2.1).1.d.cache (U7 s r).1.d.cache)/\(Y6 Y9 (Y2 x.1 x.2.1).1.d.keep (U7 s r).1.d.keep)/\(B1 x.1 x.2.1 x.2.2=B1 s r.g.toNat v/\(Y2 x.1 x.2.1).1.fr.length=(U7 s r).1.fr.length/\V0 (Y2 x.1 x.2.1).1.fr.length (setRow (setRow (Y8 (Y2 x.1 x.2.1).1.fr) (Y2 x.1 x.2.1).2.1 2 [T.own (0:TypeId) 1 ((Y2 x.1 x.2.1).1.fr.getD (Y2 x.1 x.2.1).2.1 default).pg.sl.length (setRow (Z5 ((Y2 x.1 x.2.1).1.fr.getD (Y2 x.1 x.2.1).2.1 default).pg.sl) r.s.toNat 0 [T.str r.a])]) (Y2 x.1 x.2.1).2.1 1 [T.int .i64 r.l]) (Y8 (U7 s r).1.fr))/\True))) ⟨(s,r.g.toNat,v),⟨⟨Z7,by dsimp only;omega,trivial⟩,⟨⟨rfl,rfl,⟨rfl,rfl⟩,⟨rfl,rfl⟩,rfl,⟨rfl,rfl⟩,rfl,⟨rfl,rfl⟩,rfl,⟨rfl,rfl⟩,rfl,trivial⟩,⟨rfl,Z2 _ _⟩,⟨rfl,Z2 _ _⟩,⟨rfl,Z2 _ _⟩,⟨rfl,Z2 _ _⟩,⟨rfl,rfl,R9 _⟩,trivial⟩,⟨h,hno⟩,hu⟩,λhb=>(by cases hb),λ_=> ?_⟩
  rw[e];dsimp only;generalize B1 s r.g.toNat v=w;generalize Y2 s r.g.toNat=A at*;obtain⟨a,k,up⟩:=A;dsimp only at*;obtain⟨hk,p1,p2,p3,p4⟩:=hf;refine⟨hk,⟨g3,by omega⟩,⟨rfl,hk,by omega⟩,⟨hk,rfl⟩,hk,λhd=> ?_,λhd=> ?_⟩
  ·exact⟨⟨hk,rfl⟩,⟨hk,rfl⟩,Z9,⟨rfl,rfl,Z7,Z7,rfl,Z7,rfl,Z7,rfl,⟨rfl,o5.symm⟩,Z9⟩,Z8,trivial,trivial,Z8,trivial,Z8,Z8,⟨rfl,o5.symm,b2h hk (by simpa using hd)⟩,trivial⟩
  ·exact⟨Z9,⟨rfl,rfl,Z7,Z7,rfl,Z7,rfl,Z7,rfl,⟨rfl,o5.symm⟩,Z9⟩,Z8,trivial,trivial,Z8,trivial,Z8,Z8,⟨rfl,o5.symm,b4U hk (by simpa using hd)⟩,trivial⟩
 ·have e:U7 s r=((Y2 s r.g.toNat).1,false):=if_neg hu;refine D2 (gC a7T gN) Tryz.func195 Z0 [[.box 0,.arr 1,.arr 2,.arr 3,.arr 4,.arr 5,.arr 7,.arr 8,.arr 9]] (α:=∃(x:(Sto×Nat×Nat)),(((0=0/\0=0)/\r.g=(x.2.1:Int)/\True)/\((1=1/\1=1/\pG s x.1)/\EqH (v) (x.2.2) s x.1)/\a7h x.1 x.2.1/\(Y2 x.1 x.2.1).2.2=false)/\(true=true->(false=(U7 s r).2/\True)/\(1=1/\1=1/\pG (Y2 x.1 x.2.1).1 (U7 s r).1)/\(Y6 Z5 (Y2 x.1 x.2.1).1.d.sec (U7 s r).1.d.sec)/\True/\True/\(Y6 Y7 (Y2 x.1 x.2.1).1.log (U7 s r).1.log)/\True/\(Y6 Z3 (Y2 x.1 x.2.1).1.d.cache (U7 s r).1.d.cache)/\(Y6 Y9 (Y2 x.1 x.2.1).1.d.keep (U7 s r).1.d.keep)/\(B1 x.1 x.2.1 x.2.2=B1 s r.g.toNat v/\(Y2 x.1 x.2.1).1.fr.length=(U7 s r).1.fr.length/\V0 (Y2 x.1 x.2.1).1.fr.length (Y8 (Y2 x.1 x.2.1).1.fr) (Y8 (U7 s r).1.fr))/\True)/\(true=false->False)) ⟨(s,r.g.toNat,v),⟨⟨Z7,by dsimp only;omega,trivial⟩,⟨⟨rfl,rfl,⟨rfl,rfl⟩,⟨rfl,rfl⟩,rfl,⟨rfl,rfl⟩,rfl,⟨rfl,rfl⟩,rfl,⟨rfl,rfl⟩,rfl,trivial⟩,⟨rfl,Z2 _ _⟩,⟨rfl,Z2 _ _⟩,⟨rfl,Z2 _ _⟩,⟨rfl,Z2 _ _⟩,⟨rfl,rfl,R9 _⟩,trivial⟩,⟨h,hno⟩,by simpa using hu⟩,λ_=> ?_,λhb=>(by cases hb)⟩
  rw[e];exact⟨Z9,⟨rfl,rfl,Z7,Z7,rfl,Z7,rfl,Z7,rfl,Z7,Z9⟩,Z8,trivial,trivial,Z8,trivial,Z8,Z8,S0,trivial⟩
end Go.Proofs.YtokaojbaacnngaaGreat

namespace Go.Proofs.YtokaojbaacnngaaGreat
open Go.SS

theorem a3J{L:List Frm}{k:Nat}{f:Frm}(h:∀i,i<L.length->SmF (L.getD i default))(hf:SmF f):∀i,i<(L.set k f).length->SmF ((L.set k f).getD i default):=λi hi=>by
 rw[o5] at hi;by_cases e:i=k
 ·subst e;rw[sJ _ hi];exact hf
 ·rw[N9,j_l (Ne.symm e),←N9]
  exact h i hi
theorem b5V{d:Dsk}(h:sA d):sA (F4 d).1:=by
 unfold F4;split
 ·exact a5Y h
 ·exact h
theorem b8q{s:Sto}{d:Dsk}(h:kN s)(hd:sA d):kN (s.sd d):=⟨hd,h.2⟩
theorem a5p{s:Sto}{k:Nat}(h:SInv s)(hk:k<s.fr.length):kN (X7 s k).1:=by
 have hf:=h.flu (h.frp k hk).2.2.2;have hS:=lY hf h.sm;have hc:=a5J (l:=(s.fr.getD k default).pg.lsn) h.c;have h5:=b5V hS.1;unfold X7;split
 ·split
  ·split
   ·refine⟨⟨h5.1,?_,h5.2.2⟩,hS.2.1,?_,?_⟩
    ·have:=b1I hc;show((F4 _).1.cache++[_]).length<=_;rw[B8];simp only[List.length_cons,List.length_nil];omega
    ·show(List.set _ _ _).length<=_;rw[o5];exact hS.2.2.1
    ·refine a3J hS.2.2.2 ?_
     have:=hS.2.2.2 k (by rw[dQ];exact hk)
     exact this
   ·exact b8q hS h5
  ·exact hS
 ·exact h.sm
theorem b7I{d:Dsk}{no:Nat}(h:(Q8 d no).2=true):SmF (sG no (Q8 d no).1):=by
 have:=(nZ h).2.2.1;show(Q8 d no).1.sl.length<=1048576;omega
theorem a6q{s:Sto}{no:Nat}(h:SInv s)(hno:no<8):kN (Y2 s no).1:=by
 by_cases hc:0<=frAt s.fr no
 ·rw[(yN 0 hc).1];exact h.sm
 ·by_cases h3:s.fr.length=3
  ·have hh:=h.hd;have ho:=a5p h (k:=s.hand.toNat) (by omega)
   cases hu:(X7 s s.hand.toNat).2 with
   |false=>
    rw[(s7 0 hc h3 hu).1];exact ho
   |true=>
    rw[(t5 0 hc h3 hu).1];refine⟨ho.1,ho.2.1,?_,?_⟩
    ·show(List.set _ _ _).length<=_;rw[o5];exact ho.2.2.1
    ·exact a3J ho.2.2.2 (b7I (eZ h hno hc h3 hu).2.2)
  ·rw[(yU 0 hc h3).1];have hl:=h.fr3;refine⟨h.sm.1,h.sm.2.1,?_,λi hi=> ?_⟩
   ·show(s.fr++[_]).length<=_;rw[B8];simp only[List.length_cons,List.length_nil];omega
   ·have hi:i<(s.fr++[sG no (Q8 s.d no).1]).length:=hi;show SmF ((s.fr++[sG no (Q8 s.d no).1]).getD i default);by_cases e:i<s.fr.length
    ·rw[N9,sC e,←N9]
     exact h.sm.2.2.2 i e
    ·have:i=s.fr.length:=by rw[B8] at hi;simp only[List.length_cons,List.length_nil] at hi;omega
     subst this;rw[N9,qK (V1 _)]
     simp only[j_h,List.getElem?_cons_zero,Option.getD_some]
     exact b7I (h.pg no hno).1
theorem b4o{s:Sto}{r:Rec}(h:a1L s r):kN (U7 s r).1:=by
 obtain⟨h,g1,g2,g3,g4⟩:=h;have hno:r.g.toNat<8:=by omega
 have hS:=a6q h hno;unfold U7;split
 ·rename_i hu;have hf:=cB h hno hu;refine⟨hS.1,hS.2.1,?_,?_⟩
  ·show(List.set _ _ _).length<=_;rw[o5];exact hS.2.2.1
  ·refine a3J hS.2.2.2 ?_
   have:=hf.2.2.2.1;show(List.set _ _ _).length<=_;rw[o5];omega
 ·exact hS
theorem b6h{s:Sto}{lsn:Int}(h:SInv s)(h1:1<=lsn)(h2:lsn<=s.log.length):a1L s (s.log.getD (lsn-1).toNat default)/\(s.log.getD (lsn-1).toNat default).l=lsn:=by
 obtain⟨a,b⟩:=z9.1 h.rc (lsn-1).toNat (by omega)
 have a:=(Q1 _).1 a;obtain⟨_,_,_,_,_,_,_,_,_,_,q1,q2,q3,q4,_⟩:=a;exact⟨⟨h,q1,by omega,q3,by omega⟩,by omega⟩
end Go.Proofs.YtokaojbaacnngaaGreat

namespace Go.Proofs.YtokaojbaacnngaaGreat
set_option maxRecDepth 100000
open Go.SS

noncomputable def a3W:Con:=.rel ⟨Dsk×Nat,λx=>[.agg x.1.ts,.int .i64 x.2],λx=>.tup [.agg (Q8 x.1 x.2).1.ts,.bool (Q8 x.1 x.2).2],DkB⟩
theorem bG:GK 140 a3W:=gk Tryz.func140<|by
 rintro⟨d,no⟩ ⟨h1,h2,h3,h4⟩;dsimp only at h1 h2 h3 h4;refine iK d no ⟨Z4 (by omega),(d,1+no),⟨⟨xF _,by simp only;omega,trivial⟩,h1,by simp only;omega⟩,λh=>⟨(),A8,?_⟩,λh=>⟨((no:Int),S5 d (1+no)),⟨⟨rfl,Z9⟩,h4⟩,?_⟩⟩
 ·have h:S5 d (1+no)=[]:=by simpa using h
  have e:Q8 d no=(⟨0,[[],[],[],[]]⟩,true):=by unfold Q8;rw[if_pos h]
  rw[e];exact⟨⟨rfl,X8⟩,Z9⟩
 ·have h:S5 d (1+no)≠[]:=by simpa using h
  have e:Q8 d no=K0 no (S5 d (1+no)):=by unfold Q8;rw[if_neg h]
  rw[e];exact⟨⟨rfl,X8⟩,Z9⟩
def b1H:Con:=.rel ⟨Pg×Int×List UInt8×Int,λx=>[.agg x.1.ts,.int .i64 x.2.1,.str x.2.2.1,.int .i64 x.2.2.2],λx=>.agg (Pg.ts ⟨x.2.2.2,x.1.sl.set x.2.1.toNat x.2.2.1⟩),λx=>x.1.sl.length=4/\0<=x.2.1/\x.2.1<4⟩
theorem a79:GK 242 b1H:=gk Tryz.func242<|by
 rintro⟨p,j,t,l⟩ ⟨h1,h2,h3⟩;dsimp only at h1 h2 h3;exact S3 (gC iJ gN) Tryz.func242 Z0 (α:=∃(x:Pg),(((p.lsn=x.lsn/\(Y6 Z5 p.sl x.sl)/\True)/\True)/\x.sl.length<=1048576)/\W2 j x.sl.length/\Lt (0+j.toNat) x.sl.length/\Le (0+x.sl.length) x.sl.length/\l=l/\(x.sl.length=(p.sl.set j.toNat t).length/\Z6 x.sl.length (setRow (Z5 x.sl) (0+j.toNat) 0 [T.str t]) (Z5 (p.sl.set j.toNat t)))/\True) ⟨p,⟨(by repeat' first|exact trivial|exact rfl|exact Z2 _ _|exact R9 _|exact U5|exact U2 _|exact V1 _|exact S2 _|refine And.intro ?_ ?_),by omega⟩,⟨h2,by omega⟩,by unfold Lt;omega,U2 _,rfl,⟨o5.symm,λi hi=>by rw[E6];exact eS i hi⟩,trivial⟩
theorem qQ{f row:Nat->List T}:W7 f 0 row=row:=funext λ_=>rfl
theorem b6p{L:List Frm}{k:Nat}(f:Frm)(hk:k<L.length):Z6 L.length (setRow (X1 L) k 0 f.ts) (X1 (L.set k f)):=λi _=>by
 have hl:∀j,(X1 L j).length=5:=λ_=>rfl
 rw[J8 (by rw[hl];rfl)]
 unfold X1;by_cases h:i=k
 ·subst h;rw[oK rfl,sJ _ hk]
 ·rw[a9g h,show(L.set k f).getD i default=L.getD i default by rw[N9,j_l (Ne.symm h),←N9]]
theorem b1V{L:List Frm}{k:Nat}(hk:k<L.length):Z6 L.length (setRow (setRow (X1 L) k 3 [T.bool false]) k 4 [T.int IntKind.i64 0]) (X1 (L.set k (clF (L.getD k default)))):=λi hi=>by
 have hl:∀j,(X1 L j).length=5:=λ_=>rfl
 by_cases h:i=k
 ·subst h;unfold setRow;rw[oK rfl];unfold X1;rw[sJ _ hk];rfl
 ·rw[P0 (by rw[U1 (by rw[hl];decide),hl];decide) h,P0 (by rw[hl];decide) h]
  unfold X1;rw[show(L.set k (clF (L.getD k default))).getD i default=L.getD i default by rw[N9,j_l (Ne.symm h),←N9]]
theorem b6d{L:List Frm}(f:Frm)(r:Nat->List T)(hr:(r 0).length=5):Z6 (L.length+1) (setRow (W7 (X1 L) L.length r) L.length 0 f.ts) (X1 (L++[f])):=λi hi=>by
 have hl:(W7 (X1 L) L.length r i).length=5:=by
  unfold W7;by_cases h:i<L.length
  ·rw[rM h];rfl
  ·rw[nB h,show i-L.length=0 by omega]
   exact hr
 rw[J8 (by rw[hl];rfl)]
 by_cases h:i=L.length
 ·subst h;rw[oK rfl];unfold X1;rw[show(L++[f]).getD L.length default=f by rw[N9,qK (V1 _)];simp]
 ·rw[a9g h];unfold W7;rw[rM (by omega)]
  unfold X1;rw[show(L++[f]).getD i default=L.getD i default by rw[N9,sC (by omega),←N9]]
def b2A:Con:=.rel ⟨Sto×Nat,λx=>[.agg x.1.ts,.int .i64 x.2],λx=>.tup [.agg (X7 x.1 x.2).1.ts,.bool (X7 x.1 x.2).2],λx=>SInv x.1/\x.2<x.1.fr.length⟩
theorem a88:GK 272 b2A:=gk Tryz.func272<|by
 rintro⟨s,k⟩ ⟨h,hk⟩;dsimp only at h hk;have hfp:=h.frp k hk;have hf:=h.flu hfp.2.2.2;have hfr:=dQ s (s.fr.getD k default).pg.lsn;have hS:=lY hf h.sm;have hP:=eM (l:=(s.fr.getD k default).pg.lsn) h.pd;have hc5:=a5J (l:=(s.fr.getD k default).pg.lsn) h.c;have h3:=h.fr3;have o1:= @vI s k;have o2:= @rS s k;have o3:= @lB s k;refine S3 (gC bH (gC nN (gC a0M (gC pK gN)))) Tryz.func272 Z0 (α:=W2 (k:Int) s.fr.length/\((!(s.fr.getD (k:Int).toNat default).dirty)=true->(yI s (X7 s k).1)/\true=(X7 s k).2/\True)/\((!(s.fr.getD (k:Int).toNat default).dirty)=false->∃(x:(Sto×Int)),(((yI s x.1)/\(s.fr.getD (k:Int).toNat default).pg.lsn=x.2/\True)/\qR x.1 x.2)/\((!(X3 x.1 x.2).2)=true->(yI (X3 x.1 x.2).1 (X7 s k).1)/\false=(X7 s k).2/\True)/\((!(X3 x.1 x.2).2)=false->(((↑(X3 x.1 x.2).1.d.cache.length:Int)==(500:Int))=true->∃(x_1:Dsk),(((g8 (X3 x.1 x.2).1.d x_1)/\True)/\sA x_1/\cG x_1)/\((!(V2 x_1).2)=true->((Y6 Z5 (V2 x_1).1.sec (X7 s k).1.d.sec)/\(Y6 Z3 (V2 x_1).1.cache (X7 s k).1.d.cache)/\(V2 x_1).1.armed=(X7 s k).1.d.armed/\(Y6 Y9 (V2 x_1).1.keep (X7 s k).1.d.keep)/\(X3 x.1 x.2).1.ep=(X7 s k).1.ep/\(Y6 Y7 (X3 x.1 x.2).1.log (X7 s k).1.log)/\(X3 x.1 x.2).1.sure=(X7 s k).1.sure/\(Y6 X1 (X3 x.1 x.2).1.fr (X7 s k).1.fr)/\(X3 x.1 x.2).1.hand=(X7 s k).1.hand/\True)/\false=(X7 s k).2/\True)/\((!(V2 x_1).2)=false->X2 .i64 ((1:Int)+(s.fr.getD (k:Int).toNat default).no)/\∃(x_2:tF.ι),(((s.fr.getD (k:Int).toNat default).no=x_2.1/\((s.fr.getD (k:Int).toNat default).pg.lsn=x_2.2.lsn/\(Y6 Z5 (s.fr.getD (k:Int).toNat default).pg.sl x_2.2.sl)/\True)/\True)/\bL x_2.2)/\∃(x_3:(Dsk×Int×List UInt8)),(((g8 (V2 x_1).1 x_3.1)/\(1:Int)+(s.fr.getD (k:Int).toNat default).no=x_3.2.1/\S8 x_2.1 x_2.2=x_3.2.2/\True)/\x_3.1.cache.length<=1048576)/\(Le 0 0/\V7 0 (X3 x.1 x.2).1.fr.length 56)/\W2 (k:Int) (0+(X3 x.1 x.2).1.fr.length)/\Lt (0+(k:Int).toNat) (0+(X3 x.1 x.2).1.fr.length)/\W2 (k:Int) (0+(X3 x.1 x.2).1.fr.length)/\Lt (0+(k:Int).toNat) (0+(X3 x.1 x.2).1.fr.length)/\Le (0+(0+(X3 x.1 x.2).1.fr.length)) (0+(X3 x.1 x.2).1.fr.length)/\((Y6 Z5 x_3.1.sec (X7 s k).1.d.sec)/\(Y6 Z3 (x_3.1.cache++[Pend.mk x_3.2.1 x_3.2.2]) (X7 s k).1.d.cache)/\x_3.1.armed=(X7 s k).1.d.armed/\(Y6 Y9 x_3.1.keep (X7 s k).1.d.keep)/\(X3 x.1 x.2).1.ep=(X7 s k).1.ep/\(Y6 Y7 (X3 x.1 x.2).1.log (X7 s k).1.log)/\(X3 x.1 x.2).1.sure=(X7 s k).1.sure/\(0+(X3 x.1 x.2).1.fr.length=(X7 s k).1.fr.length/\Z6 (0+(X3 x.1 x.2).1.fr.length) (setRow (setRow (W7 (λ(k:Nat)=>List.take 5 (List.drop (k*5) [])) 0 (X1 (X3 x.1 x.2).1.fr)) (0+(k:Int).toNat) 3 [T.bool false]) (0+(k:Int).toNat) 4 [T.int .i64 (0:Int)]) (X1 (X7 s k).1.fr))/\(X3 x.1 x.2).1.hand=(X7 s k).1.hand/\True)/\true=(X7 s k).2/\True))/\(((↑(X3 x.1 x.2).1.d.cache.length:Int)==(500:Int))=false->X2 .i64 ((1:Int)+(s.fr.getD (k:Int).toNat default).no)/\∃(x_1:tF.ι),(((s.fr.getD (k:Int).toNat default).no=x_1.1/\((s.fr.getD (k:Int).toNat default).pg.lsn=x_1.2.lsn/\(Y6 Z5 (s.fr.getD (k:Int).toNat default).pg.sl x_1.2.sl)/\True)/\True)/\bL x_1.2)/\∃(x_2:(Dsk×Int×List UInt8)),(((g8 (X3 x.1 x.2).1.d x_2.1)/\(1:Int)+(s.fr.getD (k:Int).toNat default).no=x_2.2.1/\S8 x_1.1 x_1.2=x_2.2.2/\True)/\x_2.1.cache.length<=1048576)/\(Le 0 0/\V7 0 (X3 x.1 x.2).1.fr.length 56)/\W2 (k:Int) (0+(X3 x.1 x.2).1.fr.length)/\Lt (0+(k:Int).toNat) (0+(X3 x.1 x.2).1.fr.length)/\W2 (k:Int) (0+(X3 x.1 x.2).1.fr.length)/\Lt (0+(k:Int).toNat) (0+(X3 x.1 x.2).1.fr.length)/\Le (0+(0+(X3 x.1 x.2).1.fr.length)) (0+(X3 x.1 x.2).1.fr.length)/\((Y6 Z5 x_2.1.sec (X7 s k).1.d.sec)/\(Y6 Z3 (x_2.1.cache++[Pend.mk x_2.2.1 x_2.2.2]) (X7 s k).1.d.cache)/\x_2.1.armed=(X7 s k).1.d.armed/\(Y6 Y9 x_2.1.keep (X7 s k).1.d.keep)/\(X3 x.1 x.2).1.ep=(X7 s k).1.ep/\(Y6 Y7 (X3 x.1 x.2).1.log (X7 s k).1.log)/\(X3 x.1 x.2).1.sure=(X7 s k).1.sure/\(0+(X3 x.1 x.2).1.fr.length=(X7 s k).1.fr.length/\Z6 (0+(X3 x.1 x.2).1.fr.length) (setRow (setRow (W7 (λ(k:Nat)=>List.take 5 (List.drop (k*5) [])) 0 (X1 (X3 x.1 x.2).1.fr)) (0+(k:Int).toNat) 3 [T.bool false]) (0+(k:Int).toNat) 4 [T.int .i64 (0:Int)]) (X1 (X7 s k).1.fr))/\(X3 x.1 x.2).1.hand=(X7 s k).1.hand/\True)/\true=(X7 s k).2/\True)))) ?_
 rw[z7];refine⟨Y3 hk,λhd=> ?_,λhd=>⟨(s,(s.fr.getD k default).pg.lsn),⟨⟨yH _,Z9⟩,hf⟩,λhu=> ?_,λhu=>⟨λhc=> ?_,λhc=> ?_⟩⟩⟩
 ·rw[yE (by simpa using hd)]
  exact⟨yH _,Z9⟩
 all_goals
  have hd:(s.fr.getD k default).dirty=true:=by simpa using hd
  replace o1:=o1 hd;replace o2:=o2 hd;replace o3:=o3 hd;dsimp only at*;generalize X3 s (s.fr.getD k default).pg.lsn=A at*;obtain⟨a,up⟩:=A;dsimp only at*;rw[←hfr] at hk hfp h3
 ·have hu:up=false:=(vO _).mp hu;subst hu;rw[o1 rfl];exact⟨yH _,Z9⟩
 ·have hu:up=true:=(xE _).mp hu;subst hu;have hc:500<=a.d.cache.length:=by have:=beq_iff_eq.1 hc;omega
  rw[←hfr];refine⟨a.d,⟨⟨xF _,trivial⟩,hS.1,hP⟩,λhb=> ?_,λhb=> ?_⟩
  ·have hb:(V2 a.d).2=false:=(vO _).mp hb;rw[o2 rfl (by rw[xC hc];exact hb),xC hc]
   exact(by repeat' first|exact trivial|exact rfl|exact Z2 _ _|exact R9 _|exact U5|exact U2 _|exact V1 _|exact S2 _|refine And.intro ?_ ?_)
  ·have hb:(V2 a.d).2=true:=(xE _).mp hb;rw[o3 rfl (by rw[xC hc];exact hb),xC hc]
   exact⟨Z4 (by omega),((a.fr.getD k default).no,(a.fr.getD k default).pg),⟨(by repeat' first|exact trivial|exact rfl|exact Z2 _ _|exact R9 _|exact U5|exact U2 _|exact V1 _|exact S2 _|refine And.intro ?_ ?_),hfp.2.2.1⟩,((V2 a.d).1,1+(a.fr.getD k default).no,S8 (a.fr.getD k default).no (a.fr.getD k default).pg),⟨(by repeat' first|exact trivial|exact rfl|exact Z2 _ _|exact R9 _|exact U5|exact U2 _|exact V1 _|exact S2 _|refine And.intro ?_ ?_),by show(V2 a.d).1.cache.length<=_;rw[i8];exact S2 _⟩,⟨V1 _,by unfold V7;omega⟩,⟨by omega,by omega⟩,by unfold Lt;omega,⟨by omega,by omega⟩,by unfold Lt;omega,by unfold Le;omega,⟨Z8,Z8,rfl,Z8,rfl,Z8,rfl,⟨by rw[E6];exact o5.symm,by rw[E6,E6,qQ];exact b1V hk⟩,Z9⟩,Z9⟩
 ·have hu:up=true:=(xE _).mp hu;subst hu;have hc:¬500<=a.d.cache.length:=λe=>by have e:(a.d.cache.length:Int)=500:=(by omega);rw[e] at hc;simp at hc
  rw[←hfr,o3 rfl (by rw[mI hc]),mI hc]
  exact⟨Z4 (by omega),((a.fr.getD k default).no,(a.fr.getD k default).pg),⟨(by repeat' first|exact trivial|exact rfl|exact Z2 _ _|exact R9 _|exact U5|exact U2 _|exact V1 _|exact S2 _|refine And.intro ?_ ?_),hfp.2.2.1⟩,(a.d,1+(a.fr.getD k default).no,S8 (a.fr.getD k default).no (a.fr.getD k default).pg),⟨(by repeat' first|exact trivial|exact rfl|exact Z2 _ _|exact R9 _|exact U5|exact U2 _|exact V1 _|exact S2 _|refine And.intro ?_ ?_),by dsimp only;omega⟩,⟨V1 _,by unfold V7;omega⟩,⟨by omega,by omega⟩,by unfold Lt;omega,⟨by omega,by omega⟩,by unfold Lt;omega,by unfold Le;omega,⟨⟨rfl,Z2 _ _⟩,⟨rfl,Z2 _ _⟩,rfl,⟨rfl,Z2 _ _⟩,rfl,⟨rfl,Z2 _ _⟩,rfl,⟨by rw[E6];exact o5.symm,by rw[E6,E6,qQ];exact b1V hk⟩,Z9⟩,Z9⟩
noncomputable def a2d:Con:=.rel ⟨Sto×Nat,λx=>[.agg x.1.ts,.int .i64 x.2],λx=>.tup [.agg (Y2 x.1 x.2).1.ts,.int .i64 (Y2 x.1 x.2).2.1,.bool (Y2 x.1 x.2).2.2],λx=>a7h x.1 x.2⟩
theorem a0Z:GK 241 a2d:=gk Tryz.func241<|by
 rintro⟨s,no⟩ ⟨h,hno⟩;dsimp only at h hno;have hL:N3 s.fr.length:=by have:=h.fr3;unfold N3;omega
 have hl3:=h.fr3;refine S3 (gC pE (gC a88 (gC bG gN))) Tryz.func241 Z0 (α:=∃(x:sL.ι),(((yI s x.1)/\(no:Int)=x.2/\True)/\N3 x.1.fr.length)/\(decide (frAt x.1.fr x.2≥(0:Int))=true->(yI s (Y2 s no).1)/\frAt x.1.fr x.2=(↑(Y2 s no).2.1:Int)/\true=(Y2 s no).2.2/\True)/\(decide (frAt x.1.fr x.2≥(0:Int))=false->(((s.fr.length:Int)==(3:Int))=true->∃(x:(Sto×Nat)),(((yI s x.1)/\s.hand=(x.2:Int)/\True)/\SInv x.1/\x.2<x.1.fr.length)/\((!(X7 x.1 x.2).2)=true->(yI (X7 x.1 x.2).1 (Y2 s no).1)/\(0:Int)=(↑(Y2 s no).2.1:Int)/\false=(Y2 s no).2.2/\True)/\((!(X7 x.1 x.2).2)=false->X2 .i64 ((X7 x.1 x.2).1.hand+(1:Int))/\Nz (3:Int)/\∃(x_1:(Dsk×Nat)),(((g8 (X7 x.1 x.2).1.d x_1.1)/\(no:Int)=(x_1.2:Int)/\True)/\DkB x_1)/\(Le 0 0/\V7 0 (X7 x.1 x.2).1.fr.length 56)/\W2 s.hand (0+(X7 x.1 x.2).1.fr.length)/\Lt (0+s.hand.toNat) (0+(X7 x.1 x.2).1.fr.length)/\Le (0+(0+(X7 x.1 x.2).1.fr.length)) (0+(X7 x.1 x.2).1.fr.length)/\((Y6 Z5 (X7 x.1 x.2).1.d.sec (Y2 s no).1.d.sec)/\(Y6 Z3 (X7 x.1 x.2).1.d.cache (Y2 s no).1.d.cache)/\(X7 x.1 x.2).1.d.armed=(Y2 s no).1.d.armed/\(Y6 Y9 (X7 x.1 x.2).1.d.keep (Y2 s no).1.d.keep)/\(X7 x.1 x.2).1.ep=(Y2 s no).1.ep/\(Y6 Y7 (X7 x.1 x.2).1.log (Y2 s no).1.log)/\(X7 x.1 x.2).1.sure=(Y2 s no).1.sure/\(0+(X7 x.1 x.2).1.fr.length=(Y2 s no).1.fr.length/\Z6 (0+(X7 x.1 x.2).1.fr.length) (setRow (W7 (λ(k:Nat)=>List.take 5 (List.drop (k*5) [])) 0 (X1 (X7 x.1 x.2).1.fr)) (0+s.hand.toNat) 0 [T.int .i64 (no:Int),T.int .i64 (Q8 x_1.1 x_1.2).1.lsn,T.sl 1 (Q8 x_1.1 x_1.2).1.sl.length (Z5 (Q8 x_1.1 x_1.2).1.sl),T.bool false,T.int .i64 (0:Int)]) (X1 (Y2 s no).1.fr))/\((X7 x.1 x.2).1.hand+(1:Int)).tmod (3:Int)=(Y2 s no).1.hand/\True)/\s.hand=(↑(Y2 s no).2.1:Int)/\true=(Y2 s no).2.2/\True))/\(((s.fr.length:Int)==(3:Int))=false->(Le 0 0/\V7 0 s.fr.length 56)/\(Le 1 1/\Le (0+s.fr.length) (0+s.fr.length)/\V7 (0+s.fr.length) 1 56)/\∃(x:(Dsk×Nat)),(((g8 s.d x.1)/\(no:Int)=(x.2:Int)/\True)/\DkB x)/\(Le (0+(0+s.fr.length+1)) (0+s.fr.length+1)/\Le 0 0/\V7 0 (0+s.fr.length+1) 56)/\W2 (s.fr.length:Int) (0+(0+s.fr.length+1))/\Lt (0+(s.fr.length:Int).toNat) (0+(0+s.fr.length+1))/\Le (0+(0+(0+s.fr.length+1))) (0+(0+s.fr.length+1))/\((Y6 Z5 s.d.sec (Y2 s no).1.d.sec)/\(Y6 Z3 s.d.cache (Y2 s no).1.d.cache)/\s.d.armed=(Y2 s no).1.d.armed/\(Y6 Y9 s.d.keep (Y2 s no).1.d.keep)/\s.ep=(Y2 s no).1.ep/\(Y6 Y7 s.log (Y2 s no).1.log)/\s.sure=(Y2 s no).1.sure/\(0+(0+s.fr.length+1)=(Y2 s no).1.fr.length/\Z6 (0+(0+s.fr.length+1)) (setRow (W7 (λ(k:Nat)=>List.take 5 (List.drop (k*5) [])) 0 (W7 (W7 (λ(k:Nat)=>List.take 5 (List.drop (k*5) [])) 0 (X1 s.fr)) (0+s.fr.length) λ(k:Nat)=>List.take 5 (List.drop (k*5) [T.int .i64 (0:Int),T.int .i64 (0:Int),T.v (Value.slice none 0 0),T.bool false,T.int .i64 (0:Int)]))) (0+(s.fr.length:Int).toNat) 0 [T.int .i64 (no:Int),T.int .i64 (Q8 x.1 x.2).1.lsn,T.sl 1 (Q8 x.1 x.2).1.sl.length (Z5 (Q8 x.1 x.2).1.sl),T.bool false,T.int .i64 (0:Int)]) (X1 (Y2 s no).1.fr))/\s.hand=(Y2 s no).1.hand/\True)/\(s.fr.length:Int)=(↑(Y2 s no).2.1:Int)/\true=(Y2 s no).2.2/\True))) ⟨(s,(no:Int)),⟨⟨yH _,Z9⟩,hL⟩,λhc=> ?_,λhc=>⟨λh3=> ?_,λh3=> ?_⟩⟩
 ·have hc:0<=frAt s.fr no:=E9 hc;rw[(yN 0 hc).1];exact⟨yH _,by dsimp only;omega,rfl,trivial⟩
 ·have hc:¬0<=frAt s.fr no:=yG hc;have h3:s.fr.length=3:=by have:=beq_iff_eq.1 h3;omega
  have hh:=h.hd;have hk:s.hand.toNat<s.fr.length:=by omega
  obtain⟨r1,r2,_⟩:=q8 s s.hand.toNat;refine⟨(s,s.hand.toNat),⟨⟨yH _,by dsimp only;omega,trivial⟩,h,hk⟩,λhu=> ?_,λhu=> ?_⟩
  ·have hu:(X7 s s.hand.toNat).2=false:=(vO _).mp hu;rw[(s7 0 hc h3 hu).1];exact⟨yH _,rfl,Z9⟩
  ·have hu:(X7 s s.hand.toNat).2=true:=(xE _).mp hu;obtain⟨d1,_⟩:=eZ h hno hc h3 hu;rw[(t5 0 hc h3 hu).1];exact⟨Z4 (by dsimp only;omega),by unfold Nz;omega,((X7 s s.hand.toNat).1.d,no),⟨⟨xF _,rfl,trivial⟩,d1⟩,⟨V1 _,by unfold V7;dsimp only;omega⟩,⟨by omega,by dsimp only;omega⟩,by unfold Lt;dsimp only;omega,by unfold Le;dsimp only;omega,⟨⟨rfl,Z2 _ _⟩,⟨rfl,Z2 _ _⟩,rfl,⟨rfl,Z2 _ _⟩,rfl,⟨rfl,Z2 _ _⟩,rfl,⟨by rw[E6];exact o5.symm,by rw[E6,E6,qQ];exact b6p (sG no (Q8 (X7 s s.hand.toNat).1.d no).1) (by rw[r1];exact hk)⟩,Z9⟩,by dsimp only;omega,rfl,trivial⟩
 ·have hc:¬0<=frAt s.fr no:=yG hc;have h3:¬s.fr.length=3:=λe=>by rw[e] at h3;simp at h3
  obtain⟨d1,_⟩:=a6B h hno;rw[(yU 0 hc h3).1];exact⟨⟨V1 _,by unfold V7;omega⟩,⟨V1 _,by unfold Le;omega,by unfold V7;omega⟩,(s.d,no),⟨⟨xF _,Z9⟩,d1⟩,⟨by unfold Le;omega,V1 _,by unfold V7;omega⟩,⟨by omega,by omega⟩,by unfold Lt;omega,by unfold Le;omega,⟨Z8,Z8,rfl,Z8,rfl,Z8,rfl,⟨by unfold a28;simp,by rw[z7,E6,E6,qQ,qQ];exact b6d (sG no (Q8 s.d no).1) _ rfl⟩,Z9⟩,rfl,Z9⟩
end Go.Proofs.YtokaojbaacnngaaGreat

namespace Go.Proofs.YtokaojbaacnngaaGreat
set_option maxRecDepth 100000
open Go.SS

noncomputable def a19:Con:=.rel ⟨Sto×Int,λx=>[.agg x.1.ts,.int .i64 x.2],λx=>.tup [.agg (U7 x.1 (x.1.log.getD (x.2-1).toNat default)).1.ts,.bool (U7 x.1 (x.1.log.getD (x.2-1).toNat default)).2],λx=>SInv x.1/\1<=x.2/\x.2<=x.1.log.length⟩
theorem b1T{L:List Frm}{k i:Nat}(f:Frm)(h:i≠k):X1 L i=X1 (L.set k f) i:=by
 unfold X1;rw[show(L.set k f).getD i default=L.getD i default by rw[N9,j_l (Ne.symm h),←N9]]
theorem b5F{L:List Frm}{k:Nat}{r:Rec}(hk:k<L.length)(hd:(L.getD k default).dirty=true):Z6 L.length (setRow (X1 L) k 1 [T.int IntKind.i64 r.l,T.sl 1 ((L.getD k default).pg.sl.set r.s.toNat r.a).length (Z5 ((L.getD k default).pg.sl.set r.s.toNat r.a))]) (X1 (L.set k (lA (L.getD k default) r))):=λi hi=>by
 have hl:∀j,(X1 L j).length=5:=λ_=>rfl
 by_cases h:i=k
 ·subst h;unfold setRow;rw[oK rfl];unfold X1;rw[sJ _ hk];unfold lA Frm.ts;dsimp only;rw[if_pos hd,hd];rfl
 ·rw[P0 (by rw[hl];exact m8 rfl) h]
  exact b1T _ h
theorem b06{L:List Frm}{k:Nat}{r:Rec}(hk:k<L.length)(hd:(L.getD k default).dirty=false):Z6 L.length (setRow (setRow (setRow (X1 L) k 1 [T.int IntKind.i64 r.l,T.sl 1 ((L.getD k default).pg.sl.set r.s.toNat r.a).length (Z5 ((L.getD k default).pg.sl.set r.s.toNat r.a))]) k 3 [T.bool true]) k 4 [T.int IntKind.i64 r.l]) (X1 (L.set k (lA (L.getD k default) r))):=λi hi=>by
 have hl:∀j,(X1 L j).length=5:=λ_=>rfl
 by_cases h:i=k
 ·subst h;unfold setRow;rw[oK rfl];unfold X1;rw[sJ _ hk];unfold lA Frm.ts;dsimp only;rw[if_neg (by rw[hd];simp)]
  rfl
 ·have a1:(setRow (X1 L) k 1 [T.int IntKind.i64 r.l,T.sl 1 ((L.getD k default).pg.sl.set r.s.toNat r.a).length (Z5 ((L.getD k default).pg.sl.set r.s.toNat r.a))] i).length=5:=by rw[U1 (by rw[hl];exact m8 rfl),hl]
  rw[P0 (by rw[U1 (by rw[a1];exact m8 rfl),a1];exact m8 rfl) h,P0 (by rw[a1];exact m8 rfl) h,P0 (by rw[hl];exact m8 rfl) h]
  exact b1T _ h
theorem b16(s:Sto)(no:Nat):(Y2 s no).1.log=s.log/\((Y2 s no).1.fr.length<=s.fr.length∨((Y2 s no).1.fr.length=s.fr.length+1/\s.fr.length≠3)):=by
 obtain⟨r1,_,r3,_⟩:=q8 s s.hand.toNat;unfold Y2;split
 ·exact⟨rfl,.inl (V1 _)⟩
 ·split
  ·split
   ·exact⟨r3,.inl (by unfold a5i;dsimp only;rw[o5];omega)⟩
   ·exact⟨r3,.inl (by dsimp only;omega)⟩
  ·rename_i h3;exact⟨rfl,.inr ⟨by unfold a28;simp,h3⟩⟩
theorem a0b:GK 190 a19:=gk Tryz.func190<|by
 rintro⟨s,lsn⟩ ⟨h,h1,h2⟩;dsimp only at h h1 h2;obtain⟨⟨_,g1,g2,g3,g4⟩,hl⟩:=b6h h h1 h2;have h60:=h.l60;have h3:=h.fr3;have hno:(s.log.getD (lsn-1).toNat default).g.toNat<8:=by omega
 have hle:=(b16 s (s.log.getD (lsn-1).toNat default).g.toNat).2;have hf:=cB h hno;have e1:(Y2 s (s.log.getD (lsn-1).toNat default).g.toNat).2.2=true->U7 s (s.log.getD (lsn-1).toNat default)=(b4W (Y2 s (s.log.getD (lsn-1).toNat default).g.toNat).1 (Y2 s (s.log.getD (lsn-1).toNat default).g.toNat).2.1 (s.log.getD (lsn-1).toNat default),true):=λhu=>if_pos hu
 have e2:(Y2 s (s.log.getD (lsn-1).toNat default).g.toNat).2.2=false->U7 s (s.log.getD (lsn-1).toNat default)=((Y2 s (s.log.getD (lsn-1).toNat default).g.toNat).1,false):=λhu=>if_neg (by rw[hu];simp)
 refine S3 (gC a0Z (gC a79 gN)) Tryz.func190 Z0 (α:=X2 .i64 (lsn- (1:Int))/\W2 (lsn- (1:Int)) s.log.length/\∃(x:(Sto×Nat)),(((yI s x.1)/\(s.log.getD (lsn- (1:Int)).toNat default).g=(x.2:Int)/\True)/\a7h x.1 x.2)/\((!(Y2 x.1 x.2).2.2)=true->(yI (Y2 x.1 x.2).1 (U7 s (s.log.getD (lsn- (1:Int)).toNat default)).1)/\false=(U7 s (s.log.getD (lsn- (1:Int)).toNat default)).2/\True)/\((!(Y2 x.1 x.2).2.2)=false->(Le 0 0/\V7 0 (Y2 x.1 x.2).1.fr.length 56)/\W2 (↑(Y2 x.1 x.2).2.1:Int) (0+(Y2 x.1 x.2).1.fr.length)/\Lt (0+(↑(Y2 x.1 x.2).2.1:Int).toNat) (0+(Y2 x.1 x.2).1.fr.length)/\∃(x_1:(Pg×Int×List UInt8×Int)),(((((Y2 x.1 x.2).1.fr.getD (0+(↑(Y2 x.1 x.2).2.1:Int).toNat-0) default).pg.lsn=x_1.1.lsn/\(Y6 Z5 ((Y2 x.1 x.2).1.fr.getD (0+(↑(Y2 x.1 x.2).2.1:Int).toNat-0) default).pg.sl x_1.1.sl)/\True)/\(s.log.getD (lsn- (1:Int)).toNat default).s=x_1.2.1/\(s.log.getD (lsn- (1:Int)).toNat default).a=x_1.2.2.1/\lsn=x_1.2.2.2/\True)/\x_1.1.sl.length=4/\(0:Int)<=x_1.2.1/\x_1.2.1<(4:Int))/\Lt (0+(↑(Y2 x.1 x.2).2.1:Int).toNat) (0+(Y2 x.1 x.2).1.fr.length)/\Lt (0+(↑(Y2 x.1 x.2).2.1:Int).toNat) (0+(Y2 x.1 x.2).1.fr.length)/\((!((Y2 x.1 x.2).1.fr.getD (0+(↑(Y2 x.1 x.2).2.1:Int).toNat-0) default).dirty)=true->Lt (0+(↑(Y2 x.1 x.2).2.1:Int).toNat) (0+(Y2 x.1 x.2).1.fr.length)/\Lt (0+(↑(Y2 x.1 x.2).2.1:Int).toNat) (0+(Y2 x.1 x.2).1.fr.length)/\Le (0+(0+(Y2 x.1 x.2).1.fr.length)) (0+(Y2 x.1 x.2).1.fr.length)/\((Y6 Z5 (Y2 x.1 x.2).1.d.sec (U7 s (s.log.getD (lsn- (1:Int)).toNat default)).1.d.sec)/\(Y6 Z3 (Y2 x.1 x.2).1.d.cache (U7 s (s.log.getD (lsn- (1:Int)).toNat default)).1.d.cache)/\(Y2 x.1 x.2).1.d.armed=(U7 s (s.log.getD (lsn- (1:Int)).toNat default)).1.d.armed/\(Y6 Y9 (Y2 x.1 x.2).1.d.keep (U7 s (s.log.getD (lsn- (1:Int)).toNat default)).1.d.keep)/\(Y2 x.1 x.2).1.ep=(U7 s (s.log.getD (lsn- (1:Int)).toNat default)).1.ep/\(Y6 Y7 (Y2 x.1 x.2).1.log (U7 s (s.log.getD (lsn- (1:Int)).toNat default)).1.log)/\(Y2 x.1 x.2).1.sure=(U7 s (s.log.getD (lsn- (1:Int)).toNat default)).1.sure/\(0+(Y2 x.1 x.2).1.fr.length=(U7 s (s.log.getD (lsn- (1:Int)).toNat default)).1.fr.length/\Z6 (0+(Y2 x.1 x.2).1.fr.length) (setRow (setRow (setRow (W7 (λ(k:Nat)=>List.take 5 (List.drop (k*5) [])) 0 (X1 (Y2 x.1 x.2).1.fr)) (0+(↑(Y2 x.1 x.2).2.1:Int).toNat) 1 [T.int .i64 x_1.2.2.2,T.sl 1 (x_1.1.sl.set x_1.2.1.toNat x_1.2.2.1).length (Z5 (x_1.1.sl.set x_1.2.1.toNat x_1.2.2.1))]) (0+(↑(Y2 x.1 x.2).2.1:Int).toNat) 3 [T.bool true]) (0+(↑(Y2 x.1 x.2).2.1:Int).toNat) 4 [T.int .i64 lsn]) (X1 (U7 s (s.log.getD (lsn- (1:Int)).toNat default)).1.fr))/\(Y2 x.1 x.2).1.hand=(U7 s (s.log.getD (lsn- (1:Int)).toNat default)).1.hand/\True)/\true=(U7 s (s.log.getD (lsn- (1:Int)).toNat default)).2/\True)/\((!((Y2 x.1 x.2).1.fr.getD (0+(↑(Y2 x.1 x.2).2.1:Int).toNat-0) default).dirty)=false->Le (0+(0+(Y2 x.1 x.2).1.fr.length)) (0+(Y2 x.1 x.2).1.fr.length)/\((Y6 Z5 (Y2 x.1 x.2).1.d.sec (U7 s (s.log.getD (lsn- (1:Int)).toNat default)).1.d.sec)/\(Y6 Z3 (Y2 x.1 x.2).1.d.cache (U7 s (s.log.getD (lsn- (1:Int)).toNat default)).1.d.cache)/\(Y2 x.1 x.2).1.d.armed=(U7 s (s.log.getD (lsn- (1:Int)).toNat default)).1.d.armed/\(Y6 Y9 (Y2 x.1 x.2).1.d.keep (U7 s (s.log.getD (lsn- (1:Int)).toNat default)).1.d.keep)/\(Y2 x.1 x.2).1.ep=(U7 s (s.log.getD (lsn- (1:Int)).toNat default)).1.ep/\(Y6 Y7 (Y2 x.1 x.2).1.log (U7 s (s.log.getD (lsn- (1:Int)).toNat default)).1.log)/\(Y2 x.1 x.2).1.sure=(U7 s (s.log.getD (lsn- (1:Int)).toNat default)).1.sure/\(0+(Y2 x.1 x.2).1.fr.length=(U7 s (s.log.getD (lsn- (1:Int)).toNat default)).1.fr.length/\Z6 (0+(Y2 x.1 x.2).1.fr.length) (setRow (W7 (λ(k:Nat)=>List.take 5 (List.drop (k*5) [])) 0 (X1 (Y2 x.1 x.2).1.fr)) (0+(↑(Y2 x.1 x.2).2.1:Int).toNat) 1 [T.int .i64 x_1.2.2.2,T.sl 1 (x_1.1.sl.set x_1.2.1.toNat x_1.2.2.1).length (Z5 (x_1.1.sl.set x_1.2.1.toNat x_1.2.2.1))]) (X1 (U7 s (s.log.getD (lsn- (1:Int)).toNat default)).1.fr))/\(Y2 x.1 x.2).1.hand=(U7 s (s.log.getD (lsn- (1:Int)).toNat default)).1.hand/\True)/\true=(U7 s (s.log.getD (lsn- (1:Int)).toNat default)).2/\True))) ⟨Z4 (by omega),⟨by omega,by omega⟩,(s,(s.log.getD (lsn-1).toNat default).g.toNat),⟨⟨yH _,by dsimp only;omega,trivial⟩,h,hno⟩,λhu=> ?_,λhu=> ?_⟩
 ·rw[e2 ((vO _).mp hu)];exact⟨yH _,Z9⟩
 ·have hu:=(xE _).mp hu;replace e1:=e1 hu;replace hf:=hf hu;rw[e1];dsimp only at*;generalize s.log.getD (lsn-1).toNat default=r at*;generalize Y2 s r.g.toNat=A at*;obtain⟨a,k,up⟩:=A;dsimp only at*;obtain⟨hk,p1,p2,p3,p4⟩:=hf;rw[z7,show 0+k=k from E6 k,Nat.sub_zero]
  refine⟨⟨V1 _,by unfold V7;omega⟩,⟨by omega,by omega⟩,by unfold Lt;omega,((a.fr.getD k default).pg,r.s,r.a,lsn),⟨⟨(by repeat' first|exact trivial|exact rfl|exact Z2 _ _|exact R9 _|exact U5|exact U2 _|exact V1 _|exact S2 _|refine And.intro ?_ ?_),rfl,rfl,rfl,trivial⟩,p3,g3,g4⟩,by unfold Lt;omega,by unfold Lt;omega,λhd=> ?_,λhd=> ?_⟩
  ·refine⟨by unfold Lt;omega,by unfold Lt;omega,by unfold Le;omega,⟨Z8,Z8,rfl,Z8,rfl,Z8,rfl,⟨by rw[E6];exact o5.symm,?_⟩,Z9⟩,Z9⟩
   rw[E6,qQ,←hl];exact b06 hk (by simpa using hd)
  ·refine⟨by unfold Le;omega,⟨Z8,Z8,rfl,Z8,rfl,Z8,rfl,⟨by rw[E6];exact o5.symm,?_⟩,Z9⟩,Z9⟩
   rw[E6,qQ,←hl];exact b5F hk (by simpa using hd)
end Go.Proofs.YtokaojbaacnngaaGreat

