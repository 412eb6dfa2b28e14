/- A part of the proof. -/
import Derived.Test.YtokaojbaacnngaaGreatY1Y2Y3
import Derived.Test.YtokaojbaacnngaaGreatX11X11rX12X13X14
namespace Go.Proofs.YtokaojbaacnngaaGreat
set_option maxRecDepth 100000
open Go.SS

theorem oT{d:Dsk}{no:Nat}(h:(R3 d no).2=true):cN (R3 d no).1:=by
 unfold R3 at h ⊢;by_cases hr:S9 d (1+no)=[]
 ·rw[if_pos hr];refine⟨Int.le_refl _,by decide,rfl,λi hi=> ?_⟩
  match i,hi with
  |0,_=>exact S7 _
  |1,_=>exact S7 _
  |2,_=>exact S7 _
  |3,_=>exact S7 _
 ·rw[if_neg hr] at h ⊢;unfold K0 at h ⊢;split at h
  ·rename_i hc;rw[if_pos hc];simp only[J6] at h;exact F3 h.2
  ·cases h
theorem fL{s:Sto}{no:Nat}(h:SInv s)(hno:no<8)(hu:(Y4 s no).2.2=true):(Y4 s no).2.1<(Y4 s no).1.fr.length/\cN ((Y4 s no).1.fr.getD (Y4 s no).2.1 default).pg:=by
 by_cases hc:0<=frAt s.fr no
 ·rw[(yZ 0 hc).1];exact⟨eA hc,(h.frp _ (eA hc)).2.2.1⟩
 ·by_cases h3:s.fr.length=3
  ·cases ho:(Y0 s s.hand.toNat).2 with
   |false=>
    rw[(t3 0 hc h3 ho).1] at hu;cases hu
   |true=>
    rw[(u5 0 hc h3 ho).1];have hh:=h.hd;have hl:=(s7 s s.hand.toNat).1;have hp:=(dE h hno hc h3 ho).2.2;unfold a5g;dsimp only;rw[l9,L5,j_k (by omega)]
    exact⟨by omega,oT hp⟩
  ·rw[(zC 0 hc h3).1];unfold a2R;dsimp only;rw[L5,iA (V2 _),A3]
   simp only[j_h,List.getElem?_cons_zero,Option.getD_some,List.length_cons,List.length_nil]
   exact⟨by omega,oT (h.pg no hno).1⟩
def mI(f:Frm)(r:Rec):Frm:=⟨f.no,⟨r.l,f.pg.sl.set r.s.toNat r.a⟩,true,if f.dirty=true then f.first else r.l⟩
def b3I(a:Sto)(k:Nat)(r:Rec):Sto:=⟨a.d,a.ep,a.log,a.sure,a.fr.set k (mI (a.fr.getD k default) r),a.hand⟩
noncomputable def V0(s:Sto)(r:Rec):Sto×Bool:=if(Y4 s r.g.toNat).2.2=true then(b3I (Y4 s r.g.toNat).1 (Y4 s r.g.toNat).2.1 r,true) else((Y4 s r.g.toNat).1,false)
def bH(s:Sto)(r:Rec):Prop:=SInv s/\0<=r.g/\r.g<8/\0<=r.s/\r.s<4
noncomputable def b6b:Con:=.reff ⟨Sto×Rec×Nat,λx=>[.ref 0 0 0,.agg x.2.1.ts],λx=>x.1.bx x.2.2,λx=>.bool (V0 x.1 x.2.1).2,λx=>(V0 x.1 x.2.1).1.bxF (B6 x.1 x.2.1.g.toNat x.2.2),λx=>bH x.1 x.2.1⟩
theorem b1j{L:List Frm}{k i:Nat}(f:Frm)(h:i≠k):b1v (Y8 L i) (Y8 (L.set k f) i):=by
 rw[show Y8 (L.set k f) i=Y8 L i by unfold Y8;rw[show(L.set k f).getD i default=L.getD i default by rw[L5,j_l (Ne.symm h),←L5]]]
 exact qQ _
theorem sU{L:List Frm}{k:Nat}(f:Frm)(h:k<L.length):(L.set k f).getD k default=f:=by rw[L5,j_k h];rfl
theorem gZ{L:List (List UInt8)}{j:Nat}(t:List UInt8):L.length=(L.set j t).length/\Z6 L.length (setRow (Z5 L) j 0 [T.str t]) (Z5 (L.set j t)):=⟨l9.symm,λi hi=>gF i hi⟩
theorem b5W{L:List Frm}{k:Nat}{r:Rec}(hk:k<L.length)(hd:(L.getD k default).dirty=true):U9 L.length (setRow (setRow (Y8 L) k 2 [T.own 0 1 (L.getD k default).pg.sl.length (setRow (Z5 (L.getD k default).pg.sl) r.s.toNat 0 [T.str r.a])]) k 1 [T.int IntKind.i64 r.l]) (Y8 (L.set k (mI (L.getD k default) r))):=λi hi=>by
 have l5:∀j,(Y8 L j).length=5:=λ_=>rfl
 by_cases h:i=k
 ·subst h;unfold setRow;rw[pD rfl];have e:Y8 (L.set i (mI (L.getD i default) r)) i=[.int .i64 (L.getD i default).no,.int .i64 r.l,.own 0 1 ((L.getD i default).pg.sl.set r.s.toNat r.a).length (Z5 ((L.getD i default).pg.sl.set r.s.toNat r.a)),.bool (L.getD i default).dirty,.int .i64 (L.getD i default).first]:=by
   unfold Y8;rw[sU _ hi];unfold mI;dsimp only;rw[if_pos hd,hd]
  rw[e];exact⟨rfl,rfl,⟨rfl,(gZ r.a).1,(gZ r.a).2⟩,rfl,Z9⟩
 ·rw[P4 (by rw[U7 (by rw[l5];exact m5 rfl),l5];exact m5 rfl) h,P4 (by rw[l5];exact m5 rfl) h]
  exact b1j _ h
theorem a9X{L:List Frm}{k:Nat}{r:Rec}(hk:k<L.length)(hd:(L.getD k default).dirty=false):U9 L.length (setRow (setRow (setRow (setRow (Y8 L) k 2 [T.own 0 1 (L.getD k default).pg.sl.length (setRow (Z5 (L.getD k default).pg.sl) r.s.toNat 0 [T.str r.a])]) k 1 [T.int IntKind.i64 r.l]) k 3 [T.bool true]) k 4 [T.int IntKind.i64 r.l]) (Y8 (L.set k (mI (L.getD k default) r))):=λi hi=>by
 have l5:∀j,(Y8 L j).length=5:=λ_=>rfl
 by_cases h:i=k
 ·subst h;unfold setRow;rw[pD rfl];have e:Y8 (L.set i (mI (L.getD i default) r)) i=[.int .i64 (L.getD i default).no,.int .i64 r.l,.own 0 1 ((L.getD i default).pg.sl.set r.s.toNat r.a).length (Z5 ((L.getD i default).pg.sl.set r.s.toNat r.a)),.bool true,.int .i64 r.l]:=by
   unfold Y8;rw[sU _ hi];unfold mI;dsimp only;rw[if_neg (by rw[hd];simp)]
  rw[e];exact⟨rfl,rfl,⟨rfl,(gZ r.a).1,(gZ r.a).2⟩,rfl,Z9⟩
 ·have a1:(setRow (Y8 L) k 2 [T.own 0 1 (L.getD k default).pg.sl.length (setRow (Z5 (L.getD k default).pg.sl) r.s.toNat 0 [T.str r.a])] i).length=5:=by rw[U7 (by rw[l5];exact m5 rfl),l5]
  have a2:(setRow (setRow (Y8 L) k 2 [T.own 0 1 (L.getD k default).pg.sl.length (setRow (Z5 (L.getD k default).pg.sl) r.s.toNat 0 [T.str r.a])]) k 1 [T.int IntKind.i64 r.l] i).length=5:=by rw[U7 (by rw[a1];exact m5 rfl),a1]
  rw[P4 (by rw[U7 (by rw[a2];exact m5 rfl),a2];exact m5 rfl) h,P4 (by rw[a2];exact m5 rfl) h,P4 (by rw[a1];exact m5 rfl) h,P4 (by rw[l5];exact m5 rfl) h]
  exact b1j _ h
theorem b3e:GK 195 b6b:=gk Tryz.func195<|by
 rintro⟨s,r,v⟩ ⟨h,g1,g2,g3,g4⟩;dsimp only at h g1 g2 g3 g4;have hno:r.g.toNat<8:=by omega
 by_cases hu:(Y4 s r.g.toNat).2.2=true
 ·have hf:=fL h hno hu;have e:V0 s r=(b3I (Y4 s r.g.toNat).1 (Y4 s r.g.toNat).2.1 r,true):=if_pos hu;refine C4 (gC a7k gN) Tryz.func195 Z0 [[.box 0,.arr 1,.arr 2,.arr 3,.arr 4,.arr 5,.arr 7,.arr 8,.arr 9]] (α:=∃(x:(Sto×Nat×Nat)),(((0=0/\0=0)/\r.g=(x.2.1:Int)/\True)/\((1=1/\1=1/\pV s x.1)/\EqH (v) (x.2.2) s x.1)/\a6v x.1 x.2.1/\(Y4 x.1 x.2.1).2.2=true)/\(false=true->(false=(V0 s r).2/\True)/\(1=1/\1=1/\pV (Y4 x.1 x.2.1).1 (V0 s r).1)/\(Y5 Z5 (Y4 x.1 x.2.1).1.d.sec (V0 s r).1.d.sec)/\True/\True/\(Y5 Y7 (Y4 x.1 x.2.1).1.log (V0 s r).1.log)/\True/\(Y5 Z3 (Y4 x.1 x.2.1).1.d.cache (V0 s r).1.d.cache)/\(Y5 Y9 (Y4 x.1 x.2.1).1.d.keep (V0 s r).1.d.keep)/\(B6 x.1 x.2.1 x.2.2=B6 s r.g.toNat v/\(Y4 x.1 x.2.1).1.fr.length=(V0 s r).1.fr.length/\U9 (Y4 x.1 x.2.1).1.fr.length (Y8 (Y4 x.1 x.2.1).1.fr) (Y8 (V0 s r).1.fr))/\True)/\(false=false->Lt (Y4 x.1 x.2.1).2.1 (Y4 x.1 x.2.1).1.fr.length/\W4 r.s ((Y4 x.1 x.2.1).1.fr.getD (Y4 x.1 x.2.1).2.1 default).pg.sl.length/\PfB (B6 x.1 x.2.1 x.2.2) (B6 x.1 x.2.1 x.2.2) (Y4 x.1 x.2.1).2.1 (Y4 x.1 x.2.1).1.fr.length r.s.toNat ((Y4 x.1 x.2.1).1.fr.getD (Y4 x.1 x.2.1).2.1 default).pg.sl.length/\rD (Y4 x.1 x.2.1).2.1 (Y4 x.1 x.2.1).1.fr.length [T.int .i64 ((Y4 x.1 x.2.1).1.fr.getD (Y4 x.1 x.2.1).2.1 default).pg.lsn]/\Lt (Y4 x.1 x.2.1).2.1 (Y4 x.1 x.2.1).1.fr.length/\((!((Y4 x.1 x.2.1).1.fr.getD (Y4 x.1 x.2.1).2.1 default).dirty)=true->rD (Y4 x.1 x.2.1).2.1 (Y4 x.1 x.2.1).1.fr.length [T.bool ((Y4 x.1 x.2.1).1.fr.getD (Y4 x.1 x.2.1).2.1 default).dirty]/\rD (Y4 x.1 x.2.1).2.1 (Y4 x.1 x.2.1).1.fr.length [T.int .i64 ((Y4 x.1 x.2.1).1.fr.getD (Y4 x.1 x.2.1).2.1 default).first]/\(true=(V0 s r).2/\True)/\(1=1/\1=1/\pV (Y4 x.1 x.2.1).1 (V0 s r).1)/\(Y5 Z5 (Y4 x.1 x.2.1).1.d.sec (V0 s r).1.d.sec)/\True/\True/\(Y5 Y7 (Y4 x.1 x.2.1).1.log (V0 s r).1.log)/\True/\(Y5 Z3 (Y4 x.1 x.2.1).1.d.cache (V0 s r).1.d.cache)/\(Y5 Y9 (Y4 x.1 x.2.1).1.d.keep (V0 s r).1.d.keep)/\(B6 x.1 x.2.1 x.2.2=B6 s r.g.toNat v/\(Y4 x.1 x.2.1).1.fr.length=(V0 s r).1.fr.length/\U9 (Y4 x.1 x.2.1).1.fr.length (setRow (setRow (setRow (setRow (Y8 (Y4 x.1 x.2.1).1.fr) (Y4 x.1 x.2.1).2.1 2 [T.own (0:TypeId) 1 ((Y4 x.1 x.2.1).1.fr.getD (Y4 x.1 x.2.1).2.1 default).pg.sl.length (setRow (Z5 ((Y4 x.1 x.2.1).1.fr.getD (Y4 x.1 x.2.1).2.1 default).pg.sl) r.s.toNat 0 [T.str r.a])]) (Y4 x.1 x.2.1).2.1 1 [T.int .i64 r.l]) (Y4 x.1 x.2.1).2.1 3 [T.bool true]) (Y4 x.1 x.2.1).2.1 4 [T.int .i64 r.l]) (Y8 (V0 s r).1.fr))/\True)/\((!((Y4 x.1 x.2.1).1.fr.getD (Y4 x.1 x.2.1).2.1 default).dirty)=false->(true=(V0 s r).2/\True)/\(1=1/\1=1/\pV (Y4 x.1 x.2.1).1 (V0 s r).1)/\(Y5 Z5 (Y4 x.1 x.2.1).1.d.sec (V0 s r).1.d.sec)/\True/\True/\(Y5 Y7 (Y4 x.1 x.2.1).1.log (V0 s r).1.log)/\True/\(Y5 Z3 (Y4 x.1 x.2.1).1.d.cache (V0 s r).1.d.cache)/\(Y5 Y9 (Y4 x.1 x.2.1).1.d.keep (V0 s r).1.d.keep)/\(B6 x.1 x.2.1 x.2.2=B6 s r.g.toNat v/\(Y4 x.1 x.2.1).1.fr.length=(V0 s r).1.fr.length/\U9 (Y4 x.1 x.2.1).1.fr.length (setRow (setRow (Y8 (Y4 x.1 x.2.1).1.fr) (Y4 x.1 x.2.1).2.1 2 [T.own (0:TypeId) 1 ((Y4 x.1 x.2.1).1.fr.getD (Y4 x.1 x.2.1).2.1 default).pg.sl.length (setRow (Z5 ((Y4 x.1 x.2.1).1.fr.getD (Y4 x.1 x.2.1).2.1 default).pg.sl) r.s.toNat 0 [T.str r.a])]) (Y4 x.1 x.2.1).2.1 1 [T.int .i64 r.l]) (Y8 (V0 s r).1.fr))/\True))) ⟨(s,r.g.toNat,v),⟨⟨Z7,by dsimp only;omega,trivial⟩,⟨⟨rfl,rfl,⟨rfl,rfl⟩,⟨rfl,rfl⟩,rfl,⟨rfl,rfl⟩,rfl,⟨rfl,rfl⟩,rfl,⟨rfl,rfl⟩,rfl,trivial⟩,⟨rfl,Z2 _ _⟩,⟨rfl,Z2 _ _⟩,⟨rfl,Z2 _ _⟩,⟨rfl,Z2 _ _⟩,⟨rfl,rfl,S5 _⟩,trivial⟩,⟨h,hno⟩,hu⟩,λhb=>(by cases hb),λ_=> ?_⟩
  rw[e];dsimp only;generalize B6 s r.g.toNat v=w;generalize Y4 s r.g.toNat=A at*;obtain⟨a,k,up⟩:=A;dsimp only at*;obtain⟨hk,p1,p2,p3,p4⟩:=hf;refine⟨hk,⟨g3,by omega⟩,⟨rfl,hk,by omega⟩,⟨hk,rfl⟩,hk,λhd=> ?_,λhd=> ?_⟩
  ·exact⟨⟨hk,rfl⟩,⟨hk,rfl⟩,Z9,⟨rfl,rfl,Z7,Z7,rfl,Z7,rfl,Z7,rfl,⟨rfl,l9.symm⟩,Z9⟩,Z8,trivial,trivial,Z8,trivial,Z8,Z8,⟨rfl,l9.symm,a9X hk (by simpa using hd)⟩,trivial⟩
  ·exact⟨Z9,⟨rfl,rfl,Z7,Z7,rfl,Z7,rfl,Z7,rfl,⟨rfl,l9.symm⟩,Z9⟩,Z8,trivial,trivial,Z8,trivial,Z8,Z8,⟨rfl,l9.symm,b5W hk (by simpa using hd)⟩,trivial⟩
 ·have e:V0 s r=((Y4 s r.g.toNat).1,false):=if_neg hu;refine C4 (gC a8b gN) Tryz.func195 Z0 [[.box 0,.arr 1,.arr 2,.arr 3,.arr 4,.arr 5,.arr 7,.arr 8,.arr 9]] (α:=∃(x:(Sto×Nat×Nat)),(((0=0/\0=0)/\r.g=(x.2.1:Int)/\True)/\((1=1/\1=1/\pV s x.1)/\EqH (v) (x.2.2) s x.1)/\a6v x.1 x.2.1/\(Y4 x.1 x.2.1).2.2=false)/\(true=true->(false=(V0 s r).2/\True)/\(1=1/\1=1/\pV (Y4 x.1 x.2.1).1 (V0 s r).1)/\(Y5 Z5 (Y4 x.1 x.2.1).1.d.sec (V0 s r).1.d.sec)/\True/\True/\(Y5 Y7 (Y4 x.1 x.2.1).1.log (V0 s r).1.log)/\True/\(Y5 Z3 (Y4 x.1 x.2.1).1.d.cache (V0 s r).1.d.cache)/\(Y5 Y9 (Y4 x.1 x.2.1).1.d.keep (V0 s r).1.d.keep)/\(B6 x.1 x.2.1 x.2.2=B6 s r.g.toNat v/\(Y4 x.1 x.2.1).1.fr.length=(V0 s r).1.fr.length/\U9 (Y4 x.1 x.2.1).1.fr.length (Y8 (Y4 x.1 x.2.1).1.fr) (Y8 (V0 s r).1.fr))/\True)/\(true=false->False)) ⟨(s,r.g.toNat,v),⟨⟨Z7,by dsimp only;omega,trivial⟩,⟨⟨rfl,rfl,⟨rfl,rfl⟩,⟨rfl,rfl⟩,rfl,⟨rfl,rfl⟩,rfl,⟨rfl,rfl⟩,rfl,⟨rfl,rfl⟩,rfl,trivial⟩,⟨rfl,Z2 _ _⟩,⟨rfl,Z2 _ _⟩,⟨rfl,Z2 _ _⟩,⟨rfl,Z2 _ _⟩,⟨rfl,rfl,S5 _⟩,trivial⟩,⟨h,hno⟩,by simpa using hu⟩,λ_=> ?_,λhb=>(by cases hb)⟩
  rw[e];exact⟨Z9,⟨rfl,rfl,Z7,Z7,rfl,Z7,rfl,Z7,rfl,Z7,Z9⟩,Z8,trivial,trivial,Z8,trivial,Z8,Z8,S2,trivial⟩
end Go.Proofs.YtokaojbaacnngaaGreat

namespace Go.Proofs.YtokaojbaacnngaaGreat
open Go.SS

theorem a3L{L:List Frm}{k:Nat}{f:Frm}(h:∀i,i<L.length->SmF (L.getD i default))(hf:SmF f):∀i,i<(L.set k f).length->SmF ((L.set k f).getD i default):=λi hi=>by
 rw[l9] at hi;by_cases e:i=k
 ·subst e;rw[sU _ hi];exact hf
 ·rw[L5,j_l (Ne.symm e),←L5]
  exact h i hi
theorem b4y{d:Dsk}(h:sQ d):sQ (G1 d).1:=by
 unfold G1;split
 ·exact a4D h
 ·exact h
theorem b7A{s:Sto}{d:Dsk}(h:mP s)(hd:sQ d):mP (s.sd d):=⟨hd,h.2⟩
theorem a5d{s:Sto}{k:Nat}(h:SInv s)(hk:k<s.fr.length):mP (Y0 s k).1:=by
 have hf:=h.flu (h.frp k hk).2.2.2;have hS:=lY hf h.sm;have hc:=a4T (l:=(s.fr.getD k default).pg.lsn) h.c;have h5:=b4y hS.1;unfold Y0;split
 ·split
  ·split
   ·refine⟨⟨h5.1,?_,h5.2.2⟩,hS.2.1,?_,?_⟩
    ·have:=b2m hc;show((G1 _).1.cache++[_]).length<=_;rw[A3];simp only[List.length_cons,List.length_nil];omega
    ·show(List.set _ _ _).length<=_;rw[l9];exact hS.2.2.1
    ·refine a3L hS.2.2.2 ?_
     have:=hS.2.2.2 k (by rw[gO];exact hk)
     exact this
   ·exact b7A hS h5
  ·exact hS
 ·exact h.sm
theorem b6g{d:Dsk}{no:Nat}(h:(R3 d no).2=true):SmF (sV no (R3 d no).1):=by
 have:=(oT h).2.2.1;show(R3 d no).1.sl.length<=1048576;omega
theorem a48{s:Sto}{no:Nat}(h:SInv s)(hno:no<8):mP (Y4 s no).1:=by
 by_cases hc:0<=frAt s.fr no
 ·rw[(yZ 0 hc).1];exact h.sm
 ·by_cases h3:s.fr.length=3
  ·have hh:=h.hd;have ho:=a5d h (k:=s.hand.toNat) (by omega)
   cases hu:(Y0 s s.hand.toNat).2 with
   |false=>
    rw[(t3 0 hc h3 hu).1];exact ho
   |true=>
    rw[(u5 0 hc h3 hu).1];refine⟨ho.1,ho.2.1,?_,?_⟩
    ·show(List.set _ _ _).length<=_;rw[l9];exact ho.2.2.1
    ·exact a3L ho.2.2.2 (b6g (dE h hno hc h3 hu).2.2)
  ·rw[(zC 0 hc h3).1];have hl:=h.fr3;refine⟨h.sm.1,h.sm.2.1,?_,λi hi=> ?_⟩
   ·show(s.fr++[_]).length<=_;rw[A3];simp only[List.length_cons,List.length_nil];omega
   ·have hi:i<(s.fr++[sV no (R3 s.d no).1]).length:=hi;show SmF ((s.fr++[sV no (R3 s.d no).1]).getD i default);by_cases e:i<s.fr.length
    ·rw[L5,oX e,←L5]
     exact h.sm.2.2.2 i e
    ·have:i=s.fr.length:=by rw[A3] at hi;simp only[List.length_cons,List.length_nil] at hi;omega
     subst this;rw[L5,iA (V2 _)]
     simp only[j_h,List.getElem?_cons_zero,Option.getD_some]
     exact b6g (h.pg no hno).1
theorem b3t{s:Sto}{r:Rec}(h:bH s r):mP (V0 s r).1:=by
 obtain⟨h,g1,g2,g3,g4⟩:=h;have hno:r.g.toNat<8:=by omega
 have hS:=a48 h hno;unfold V0;split
 ·rename_i hu;have hf:=fL h hno hu;refine⟨hS.1,hS.2.1,?_,?_⟩
  ·show(List.set _ _ _).length<=_;rw[l9];exact hS.2.2.1
  ·refine a3L hS.2.2.2 ?_
   have:=hf.2.2.2.1;show(List.set _ _ _).length<=_;rw[l9];omega
 ·exact hS
theorem b5h{s:Sto}{lsn:Int}(h:SInv s)(h1:1<=lsn)(h2:lsn<=s.log.length):bH s (s.log.getD (lsn-1).toNat default)/\(s.log.getD (lsn-1).toNat default).l=lsn:=by
 obtain⟨a,b⟩:=B2.1 h.rc (lsn-1).toNat (by omega)
 have a:=(Q9 _).1 a;obtain⟨_,_,_,_,_,_,_,_,_,_,q1,q2,q3,q4,_⟩:=a;exact⟨⟨h,q1,by omega,q3,by omega⟩,by omega⟩
end Go.Proofs.YtokaojbaacnngaaGreat

namespace Go.Proofs.YtokaojbaacnngaaGreat
set_option maxRecDepth 100000
open Go.SS

noncomputable def a1C:Con:=.rel ⟨Dsk×Nat,λx=>[.agg x.1.ts,.int .i64 x.2],λx=>.tup [.agg (R3 x.1 x.2).1.ts,.bool (R3 x.1 x.2).2],DkB⟩
theorem a1k:GK 140 a1C:=gk Tryz.func140<|by
 rintro⟨d,no⟩ ⟨h1,h2,h3,h4⟩;dsimp only at h1 h2 h3 h4;refine jS d no ⟨Z4 (by omega),(d,1+no),⟨⟨xN _,by simp only;omega,trivial⟩,h1,by simp only;omega⟩,λh=>⟨(),v5,?_⟩,λh=>⟨((no:Int),S9 d (1+no)),⟨⟨rfl,Z9⟩,h4⟩,?_⟩⟩
 ·have h:S9 d (1+no)=[]:=by simpa using h
  have e:R3 d no=(⟨0,[[],[],[],[]]⟩,true):=by unfold R3;rw[if_pos h]
  rw[e];exact⟨⟨rfl,X8⟩,Z9⟩
 ·have h:S9 d (1+no)≠[]:=by simpa using h
  have e:R3 d no=K0 no (S9 d (1+no)):=by unfold R3;rw[if_neg h]
  rw[e];exact⟨⟨rfl,X8⟩,Z9⟩
def a9r:Con:=.rel ⟨Pg×Int×List UInt8×Int,λx=>[.agg x.1.ts,.int .i64 x.2.1,.str x.2.2.1,.int .i64 x.2.2.2],λx=>.agg (Pg.ts ⟨x.2.2.2,x.1.sl.set x.2.1.toNat x.2.2.1⟩),λx=>x.1.sl.length=4/\0<=x.2.1/\x.2.1<4⟩
theorem a6A:GK 242 a9r:=gk Tryz.func242<|by
 rintro⟨p,j,t,l⟩ ⟨h1,h2,h3⟩;dsimp only at h1 h2 h3;exact S6 (gC iY gN) Tryz.func242 Z0 (α:=∃(x:Pg),(((p.lsn=x.lsn/\(Y5 Z5 p.sl x.sl)/\True)/\True)/\x.sl.length<=1048576)/\W4 j x.sl.length/\Lt (0+j.toNat) x.sl.length/\Le (0+x.sl.length) x.sl.length/\l=l/\(x.sl.length=(p.sl.set j.toNat t).length/\Z6 x.sl.length (setRow (Z5 x.sl) (0+j.toNat) 0 [T.str t]) (Z5 (p.sl.set j.toNat t)))/\True) ⟨p,⟨(by repeat' first|exact trivial|exact rfl|exact Z2 _ _|exact S5 _|exact U5|exact U0 _|exact V2 _|exact S7 _|refine And.intro ?_ ?_),by omega⟩,⟨h2,by omega⟩,by unfold Lt;omega,U0 _,rfl,⟨l9.symm,λi hi=>by rw[C3];exact gF i hi⟩,trivial⟩
theorem qG{f row:Nat->List T}:W6 f 0 row=row:=funext λ_=>rfl
theorem b3N{L:List Frm}{k:Nat}(f:Frm)(hk:k<L.length):Z6 L.length (setRow (X3 L) k 0 f.ts) (X3 (L.set k f)):=λi _=>by
 have hl:∀j,(X3 L j).length=5:=λ_=>rfl
 rw[I2 (by rw[hl];rfl)]
 unfold X3;by_cases h:i=k
 ·subst h;rw[pD rfl,sU _ hk]
 ·rw[a6N h,show(L.set k f).getD i default=L.getD i default by rw[L5,j_l (Ne.symm h),←L5]]
theorem b1f{L:List Frm}{k:Nat}(hk:k<L.length):Z6 L.length (setRow (setRow (X3 L) k 3 [T.bool false]) k 4 [T.int IntKind.i64 0]) (X3 (L.set k (clF (L.getD k default)))):=λi hi=>by
 have hl:∀j,(X3 L j).length=5:=λ_=>rfl
 by_cases h:i=k
 ·subst h;unfold setRow;rw[pD rfl];unfold X3;rw[sU _ hk];rfl
 ·rw[P4 (by rw[U7 (by rw[hl];decide),hl];decide) h,P4 (by rw[hl];decide) h]
  unfold X3;rw[show(L.set k (clF (L.getD k default))).getD i default=L.getD i default by rw[L5,j_l (Ne.symm h),←L5]]
theorem b3L{L:List Frm}(f:Frm)(r:Nat->List T)(hr:(r 0).length=5):Z6 (L.length+1) (setRow (W6 (X3 L) L.length r) L.length 0 f.ts) (X3 (L++[f])):=λi hi=>by
 have hl:(W6 (X3 L) L.length r i).length=5:=by
  unfold W6;by_cases h:i<L.length
  ·rw[lW h];rfl
  ·rw[a1h h,show i-L.length=0 by omega]
   exact hr
 rw[I2 (by rw[hl];rfl)]
 by_cases h:i=L.length
 ·subst h;rw[pD rfl];unfold X3;rw[show(L++[f]).getD L.length default=f by rw[L5,iA (V2 _)];simp]
 ·rw[a6N h];unfold W6;rw[lW (by omega)]
  unfold X3;rw[show(L++[f]).getD i default=L.getD i default by rw[L5,oX (by omega),←L5]]
def b2v:Con:=.rel ⟨Sto×Nat,λx=>[.agg x.1.ts,.int .i64 x.2],λx=>.tup [.agg (Y0 x.1 x.2).1.ts,.bool (Y0 x.1 x.2).2],λx=>SInv x.1/\x.2<x.1.fr.length⟩
theorem a8X:GK 272 b2v:=gk Tryz.func272<|by
 rintro⟨s,k⟩ ⟨h,hk⟩;dsimp only at h hk;have hfp:=h.frp k hk;have hf:=h.flu hfp.2.2.2;have hfr:=gO s (s.fr.getD k default).pg.lsn;have hS:=lY hf h.sm;have hP:=dU (l:=(s.fr.getD k default).pg.lsn) h.pd;have hc5:=a4T (l:=(s.fr.getD k default).pg.lsn) h.c;have h3:=h.fr3;have o1:= @wA s k;have o2:= @rM s k;have o3:= @nX s k;refine S6 (gC a01 (gC oG (gC a0c (gC pW gN)))) Tryz.func272 Z0 (α:=W4 (k:Int) s.fr.length/\((!(s.fr.getD (k:Int).toNat default).dirty)=true->(yR s (Y0 s k).1)/\true=(Y0 s k).2/\True)/\((!(s.fr.getD (k:Int).toNat default).dirty)=false->∃(x:(Sto×Int)),(((yR s x.1)/\(s.fr.getD (k:Int).toNat default).pg.lsn=x.2/\True)/\sL x.1 x.2)/\((!(X5 x.1 x.2).2)=true->(yR (X5 x.1 x.2).1 (Y0 s k).1)/\false=(Y0 s k).2/\True)/\((!(X5 x.1 x.2).2)=false->(((↑(X5 x.1 x.2).1.d.cache.length:Int)==(500:Int))=true->∃(x_1:Dsk),(((k4 (X5 x.1 x.2).1.d x_1)/\True)/\sQ x_1/\eI x_1)/\((!(V5 x_1).2)=true->((Y5 Z5 (V5 x_1).1.sec (Y0 s k).1.d.sec)/\(Y5 Z3 (V5 x_1).1.cache (Y0 s k).1.d.cache)/\(V5 x_1).1.armed=(Y0 s k).1.d.armed/\(Y5 Y9 (V5 x_1).1.keep (Y0 s k).1.d.keep)/\(X5 x.1 x.2).1.ep=(Y0 s k).1.ep/\(Y5 Y7 (X5 x.1 x.2).1.log (Y0 s k).1.log)/\(X5 x.1 x.2).1.sure=(Y0 s k).1.sure/\(Y5 X3 (X5 x.1 x.2).1.fr (Y0 s k).1.fr)/\(X5 x.1 x.2).1.hand=(Y0 s k).1.hand/\True)/\false=(Y0 s k).2/\True)/\((!(V5 x_1).2)=false->X4 .i64 ((1:Int)+(s.fr.getD (k:Int).toNat default).no)/\∃(x_2:tC.ι),(((s.fr.getD (k:Int).toNat default).no=x_2.1/\((s.fr.getD (k:Int).toNat default).pg.lsn=x_2.2.lsn/\(Y5 Z5 (s.fr.getD (k:Int).toNat default).pg.sl x_2.2.sl)/\True)/\True)/\cN x_2.2)/\∃(x_3:(Dsk×Int×List UInt8)),(((k4 (V5 x_1).1 x_3.1)/\(1:Int)+(s.fr.getD (k:Int).toNat default).no=x_3.2.1/\T1 x_2.1 x_2.2=x_3.2.2/\True)/\x_3.1.cache.length<=1048576)/\(Le 0 0/\V6 0 (X5 x.1 x.2).1.fr.length 56)/\W4 (k:Int) (0+(X5 x.1 x.2).1.fr.length)/\Lt (0+(k:Int).toNat) (0+(X5 x.1 x.2).1.fr.length)/\W4 (k:Int) (0+(X5 x.1 x.2).1.fr.length)/\Lt (0+(k:Int).toNat) (0+(X5 x.1 x.2).1.fr.length)/\Le (0+(0+(X5 x.1 x.2).1.fr.length)) (0+(X5 x.1 x.2).1.fr.length)/\((Y5 Z5 x_3.1.sec (Y0 s k).1.d.sec)/\(Y5 Z3 (x_3.1.cache++[Pend.mk x_3.2.1 x_3.2.2]) (Y0 s k).1.d.cache)/\x_3.1.armed=(Y0 s k).1.d.armed/\(Y5 Y9 x_3.1.keep (Y0 s k).1.d.keep)/\(X5 x.1 x.2).1.ep=(Y0 s k).1.ep/\(Y5 Y7 (X5 x.1 x.2).1.log (Y0 s k).1.log)/\(X5 x.1 x.2).1.sure=(Y0 s k).1.sure/\(0+(X5 x.1 x.2).1.fr.length=(Y0 s k).1.fr.length/\Z6 (0+(X5 x.1 x.2).1.fr.length) (setRow (setRow (W6 (λ(k:Nat)=>List.take 5 (List.drop (k*5) [])) 0 (X3 (X5 x.1 x.2).1.fr)) (0+(k:Int).toNat) 3 [T.bool false]) (0+(k:Int).toNat) 4 [T.int .i64 (0:Int)]) (X3 (Y0 s k).1.fr))/\(X5 x.1 x.2).1.hand=(Y0 s k).1.hand/\True)/\true=(Y0 s k).2/\True))/\(((↑(X5 x.1 x.2).1.d.cache.length:Int)==(500:Int))=false->X4 .i64 ((1:Int)+(s.fr.getD (k:Int).toNat default).no)/\∃(x_1:tC.ι),(((s.fr.getD (k:Int).toNat default).no=x_1.1/\((s.fr.getD (k:Int).toNat default).pg.lsn=x_1.2.lsn/\(Y5 Z5 (s.fr.getD (k:Int).toNat default).pg.sl x_1.2.sl)/\True)/\True)/\cN x_1.2)/\∃(x_2:(Dsk×Int×List UInt8)),(((k4 (X5 x.1 x.2).1.d x_2.1)/\(1:Int)+(s.fr.getD (k:Int).toNat default).no=x_2.2.1/\T1 x_1.1 x_1.2=x_2.2.2/\True)/\x_2.1.cache.length<=1048576)/\(Le 0 0/\V6 0 (X5 x.1 x.2).1.fr.length 56)/\W4 (k:Int) (0+(X5 x.1 x.2).1.fr.length)/\Lt (0+(k:Int).toNat) (0+(X5 x.1 x.2).1.fr.length)/\W4 (k:Int) (0+(X5 x.1 x.2).1.fr.length)/\Lt (0+(k:Int).toNat) (0+(X5 x.1 x.2).1.fr.length)/\Le (0+(0+(X5 x.1 x.2).1.fr.length)) (0+(X5 x.1 x.2).1.fr.length)/\((Y5 Z5 x_2.1.sec (Y0 s k).1.d.sec)/\(Y5 Z3 (x_2.1.cache++[Pend.mk x_2.2.1 x_2.2.2]) (Y0 s k).1.d.cache)/\x_2.1.armed=(Y0 s k).1.d.armed/\(Y5 Y9 x_2.1.keep (Y0 s k).1.d.keep)/\(X5 x.1 x.2).1.ep=(Y0 s k).1.ep/\(Y5 Y7 (X5 x.1 x.2).1.log (Y0 s k).1.log)/\(X5 x.1 x.2).1.sure=(Y0 s k).1.sure/\(0+(X5 x.1 x.2).1.fr.length=(Y0 s k).1.fr.length/\Z6 (0+(X5 x.1 x.2).1.fr.length) (setRow (setRow (W6 (λ(k:Nat)=>List.take 5 (List.drop (k*5) [])) 0 (X3 (X5 x.1 x.2).1.fr)) (0+(k:Int).toNat) 3 [T.bool false]) (0+(k:Int).toNat) 4 [T.int .i64 (0:Int)]) (X3 (Y0 s k).1.fr))/\(X5 x.1 x.2).1.hand=(Y0 s k).1.hand/\True)/\true=(Y0 s k).2/\True)))) ?_
 rw[u9];refine⟨Y2 hk,λhd=> ?_,λhd=>⟨(s,(s.fr.getD k default).pg.lsn),⟨⟨yP _,Z9⟩,hf⟩,λhu=> ?_,λhu=>⟨λhc=> ?_,λhc=> ?_⟩⟩⟩
 ·rw[yO (by simpa using hd)]
  exact⟨yP _,Z9⟩
 all_goals
  have hd:(s.fr.getD k default).dirty=true:=by simpa using hd
  replace o1:=o1 hd;replace o2:=o2 hd;replace o3:=o3 hd;dsimp only at*;generalize X5 s (s.fr.getD k default).pg.lsn=A at*;obtain⟨a,up⟩:=A;dsimp only at*;rw[←hfr] at hk hfp h3
 ·have hu:up=false:=(wD _).mp hu;subst hu;rw[o1 rfl];exact⟨yP _,Z9⟩
 ·have hu:up=true:=(xO _).mp hu;subst hu;have hc:500<=a.d.cache.length:=by have:=beq_iff_eq.1 hc;omega
  rw[←hfr];refine⟨a.d,⟨⟨xN _,trivial⟩,hS.1,hP⟩,λhb=> ?_,λhb=> ?_⟩
  ·have hb:(V5 a.d).2=false:=(wD _).mp hb;rw[o2 rfl (by rw[xG hc];exact hb),xG hc]
   exact(by repeat' first|exact trivial|exact rfl|exact Z2 _ _|exact S5 _|exact U5|exact U0 _|exact V2 _|exact S7 _|refine And.intro ?_ ?_)
  ·have hb:(V5 a.d).2=true:=(xO _).mp hb;rw[o3 rfl (by rw[xG hc];exact hb),xG hc]
   exact⟨Z4 (by omega),((a.fr.getD k default).no,(a.fr.getD k default).pg),⟨(by repeat' first|exact trivial|exact rfl|exact Z2 _ _|exact S5 _|exact U5|exact U0 _|exact V2 _|exact S7 _|refine And.intro ?_ ?_),hfp.2.2.1⟩,((V5 a.d).1,1+(a.fr.getD k default).no,T1 (a.fr.getD k default).no (a.fr.getD k default).pg),⟨(by repeat' first|exact trivial|exact rfl|exact Z2 _ _|exact S5 _|exact U5|exact U0 _|exact V2 _|exact S7 _|refine And.intro ?_ ?_),by show(V5 a.d).1.cache.length<=_;rw[j4];exact S7 _⟩,⟨V2 _,by unfold V6;omega⟩,⟨by omega,by omega⟩,by unfold Lt;omega,⟨by omega,by omega⟩,by unfold Lt;omega,by unfold Le;omega,⟨Z8,Z8,rfl,Z8,rfl,Z8,rfl,⟨by rw[C3];exact l9.symm,by rw[C3,C3,qG];exact b1f hk⟩,Z9⟩,Z9⟩
 ·have hu:up=true:=(xO _).mp hu;subst hu;have hc:¬500<=a.d.cache.length:=λe=>by have e:(a.d.cache.length:Int)=500:=(by omega);rw[e] at hc;simp at hc
  rw[←hfr,o3 rfl (by rw[nT hc]),nT hc]
  exact⟨Z4 (by omega),((a.fr.getD k default).no,(a.fr.getD k default).pg),⟨(by repeat' first|exact trivial|exact rfl|exact Z2 _ _|exact S5 _|exact U5|exact U0 _|exact V2 _|exact S7 _|refine And.intro ?_ ?_),hfp.2.2.1⟩,(a.d,1+(a.fr.getD k default).no,T1 (a.fr.getD k default).no (a.fr.getD k default).pg),⟨(by repeat' first|exact trivial|exact rfl|exact Z2 _ _|exact S5 _|exact U5|exact U0 _|exact V2 _|exact S7 _|refine And.intro ?_ ?_),by dsimp only;omega⟩,⟨V2 _,by unfold V6;omega⟩,⟨by omega,by omega⟩,by unfold Lt;omega,⟨by omega,by omega⟩,by unfold Lt;omega,by unfold Le;omega,⟨⟨rfl,Z2 _ _⟩,⟨rfl,Z2 _ _⟩,rfl,⟨rfl,Z2 _ _⟩,rfl,⟨rfl,Z2 _ _⟩,rfl,⟨by rw[C3];exact l9.symm,by rw[C3,C3,qG];exact b1f hk⟩,Z9⟩,Z9⟩
noncomputable def a3Z:Con:=.rel ⟨Sto×Nat,λx=>[.agg x.1.ts,.int .i64 x.2],λx=>.tup [.agg (Y4 x.1 x.2).1.ts,.int .i64 (Y4 x.1 x.2).2.1,.bool (Y4 x.1 x.2).2.2],λx=>a6v x.1 x.2⟩
theorem a0z:GK 241 a3Z:=gk Tryz.func241<|by
 rintro⟨s,no⟩ ⟨h,hno⟩;dsimp only at h hno;have hL:M7 s.fr.length:=by have:=h.fr3;unfold M7;omega
 have hl3:=h.fr3;refine S6 (gC pR (gC a8X (gC a1k gN))) Tryz.func241 Z0 (α:=∃(x:sY.ι),(((yR s x.1)/\(no:Int)=x.2/\True)/\M7 x.1.fr.length)/\(decide (frAt x.1.fr x.2≥(0:Int))=true->(yR s (Y4 s no).1)/\frAt x.1.fr x.2=(↑(Y4 s no).2.1:Int)/\true=(Y4 s no).2.2/\True)/\(decide (frAt x.1.fr x.2≥(0:Int))=false->(((s.fr.length:Int)==(3:Int))=true->∃(x:(Sto×Nat)),(((yR s x.1)/\s.hand=(x.2:Int)/\True)/\SInv x.1/\x.2<x.1.fr.length)/\((!(Y0 x.1 x.2).2)=true->(yR (Y0 x.1 x.2).1 (Y4 s no).1)/\(0:Int)=(↑(Y4 s no).2.1:Int)/\false=(Y4 s no).2.2/\True)/\((!(Y0 x.1 x.2).2)=false->X4 .i64 ((Y0 x.1 x.2).1.hand+(1:Int))/\Nz (3:Int)/\∃(x_1:(Dsk×Nat)),(((k4 (Y0 x.1 x.2).1.d x_1.1)/\(no:Int)=(x_1.2:Int)/\True)/\DkB x_1)/\(Le 0 0/\V6 0 (Y0 x.1 x.2).1.fr.length 56)/\W4 s.hand (0+(Y0 x.1 x.2).1.fr.length)/\Lt (0+s.hand.toNat) (0+(Y0 x.1 x.2).1.fr.length)/\Le (0+(0+(Y0 x.1 x.2).1.fr.length)) (0+(Y0 x.1 x.2).1.fr.length)/\((Y5 Z5 (Y0 x.1 x.2).1.d.sec (Y4 s no).1.d.sec)/\(Y5 Z3 (Y0 x.1 x.2).1.d.cache (Y4 s no).1.d.cache)/\(Y0 x.1 x.2).1.d.armed=(Y4 s no).1.d.armed/\(Y5 Y9 (Y0 x.1 x.2).1.d.keep (Y4 s no).1.d.keep)/\(Y0 x.1 x.2).1.ep=(Y4 s no).1.ep/\(Y5 Y7 (Y0 x.1 x.2).1.log (Y4 s no).1.log)/\(Y0 x.1 x.2).1.sure=(Y4 s no).1.sure/\(0+(Y0 x.1 x.2).1.fr.length=(Y4 s no).1.fr.length/\Z6 (0+(Y0 x.1 x.2).1.fr.length) (setRow (W6 (λ(k:Nat)=>List.take 5 (List.drop (k*5) [])) 0 (X3 (Y0 x.1 x.2).1.fr)) (0+s.hand.toNat) 0 [T.int .i64 (no:Int),T.int .i64 (R3 x_1.1 x_1.2).1.lsn,T.sl 1 (R3 x_1.1 x_1.2).1.sl.length (Z5 (R3 x_1.1 x_1.2).1.sl),T.bool false,T.int .i64 (0:Int)]) (X3 (Y4 s no).1.fr))/\((Y0 x.1 x.2).1.hand+(1:Int)).tmod (3:Int)=(Y4 s no).1.hand/\True)/\s.hand=(↑(Y4 s no).2.1:Int)/\true=(Y4 s no).2.2/\True))/\(((s.fr.length:Int)==(3:Int))=false->(Le 0 0/\V6 0 s.fr.length 56)/\(Le 1 1/\Le (0+s.fr.length) (0+s.fr.length)/\V6 (0+s.fr.length) 1 56)/\∃(x:(Dsk×Nat)),(((k4 s.d x.1)/\(no:Int)=(x.2:Int)/\True)/\DkB x)/\(Le (0+(0+s.fr.length+1)) (0+s.fr.length+1)/\Le 0 0/\V6 0 (0+s.fr.length+1) 56)/\W4 (s.fr.length:Int) (0+(0+s.fr.length+1))/\Lt (0+(s.fr.length:Int).toNat) (0+(0+s.fr.length+1))/\Le (0+(0+(0+s.fr.length+1))) (0+(0+s.fr.length+1))/\((Y5 Z5 s.d.sec (Y4 s no).1.d.sec)/\(Y5 Z3 s.d.cache (Y4 s no).1.d.cache)/\s.d.armed=(Y4 s no).1.d.armed/\(Y5 Y9 s.d.keep (Y4 s no).1.d.keep)/\s.ep=(Y4 s no).1.ep/\(Y5 Y7 s.log (Y4 s no).1.log)/\s.sure=(Y4 s no).1.sure/\(0+(0+s.fr.length+1)=(Y4 s no).1.fr.length/\Z6 (0+(0+s.fr.length+1)) (setRow (W6 (λ(k:Nat)=>List.take 5 (List.drop (k*5) [])) 0 (W6 (W6 (λ(k:Nat)=>List.take 5 (List.drop (k*5) [])) 0 (X3 s.fr)) (0+s.fr.length) λ(k:Nat)=>List.take 5 (List.drop (k*5) [T.int .i64 (0:Int),T.int .i64 (0:Int),T.v (Value.slice none 0 0),T.bool false,T.int .i64 (0:Int)]))) (0+(s.fr.length:Int).toNat) 0 [T.int .i64 (no:Int),T.int .i64 (R3 x.1 x.2).1.lsn,T.sl 1 (R3 x.1 x.2).1.sl.length (Z5 (R3 x.1 x.2).1.sl),T.bool false,T.int .i64 (0:Int)]) (X3 (Y4 s no).1.fr))/\s.hand=(Y4 s no).1.hand/\True)/\(s.fr.length:Int)=(↑(Y4 s no).2.1:Int)/\true=(Y4 s no).2.2/\True))) ⟨(s,(no:Int)),⟨⟨yP _,Z9⟩,hL⟩,λhc=> ?_,λhc=>⟨λh3=> ?_,λh3=> ?_⟩⟩
 ·have hc:0<=frAt s.fr no:=F3 hc;rw[(yZ 0 hc).1];exact⟨yP _,by dsimp only;omega,rfl,trivial⟩
 ·have hc:¬0<=frAt s.fr no:=yQ hc;have h3:s.fr.length=3:=by have:=beq_iff_eq.1 h3;omega
  have hh:=h.hd;have hk:s.hand.toNat<s.fr.length:=by omega
  obtain⟨r1,r2,_⟩:=s7 s s.hand.toNat;refine⟨(s,s.hand.toNat),⟨⟨yP _,by dsimp only;omega,trivial⟩,h,hk⟩,λhu=> ?_,λhu=> ?_⟩
  ·have hu:(Y0 s s.hand.toNat).2=false:=(wD _).mp hu;rw[(t3 0 hc h3 hu).1];exact⟨yP _,rfl,Z9⟩
  ·have hu:(Y0 s s.hand.toNat).2=true:=(xO _).mp hu;obtain⟨d1,_⟩:=dE h hno hc h3 hu;rw[(u5 0 hc h3 hu).1];exact⟨Z4 (by dsimp only;omega),by unfold Nz;omega,((Y0 s s.hand.toNat).1.d,no),⟨⟨xN _,rfl,trivial⟩,d1⟩,⟨V2 _,by unfold V6;dsimp only;omega⟩,⟨by omega,by dsimp only;omega⟩,by unfold Lt;dsimp only;omega,by unfold Le;dsimp only;omega,⟨⟨rfl,Z2 _ _⟩,⟨rfl,Z2 _ _⟩,rfl,⟨rfl,Z2 _ _⟩,rfl,⟨rfl,Z2 _ _⟩,rfl,⟨by rw[C3];exact l9.symm,by rw[C3,C3,qG];exact b3N (sV no (R3 (Y0 s s.hand.toNat).1.d no).1) (by rw[r1];exact hk)⟩,Z9⟩,by dsimp only;omega,rfl,trivial⟩
 ·have hc:¬0<=frAt s.fr no:=yQ hc;have h3:¬s.fr.length=3:=λe=>by rw[e] at h3;simp at h3
  obtain⟨d1,_⟩:=a4C h hno;rw[(zC 0 hc h3).1];exact⟨⟨V2 _,by unfold V6;omega⟩,⟨V2 _,by unfold Le;omega,by unfold V6;omega⟩,(s.d,no),⟨⟨xN _,Z9⟩,d1⟩,⟨by unfold Le;omega,V2 _,by unfold V6;omega⟩,⟨by omega,by omega⟩,by unfold Lt;omega,by unfold Le;omega,⟨Z8,Z8,rfl,Z8,rfl,Z8,rfl,⟨by unfold a2R;simp,by rw[u9,C3,C3,qG,qG];exact b3L (sV no (R3 s.d no).1) _ rfl⟩,Z9⟩,rfl,Z9⟩
end Go.Proofs.YtokaojbaacnngaaGreat

namespace Go.Proofs.YtokaojbaacnngaaGreat
set_option maxRecDepth 100000
open Go.SS

noncomputable def a2q:Con:=.rel ⟨Sto×Int,λx=>[.agg x.1.ts,.int .i64 x.2],λx=>.tup [.agg (V0 x.1 (x.1.log.getD (x.2-1).toNat default)).1.ts,.bool (V0 x.1 (x.1.log.getD (x.2-1).toNat default)).2],λx=>SInv x.1/\1<=x.2/\x.2<=x.1.log.length⟩
theorem b2D{L:List Frm}{k i:Nat}(f:Frm)(h:i≠k):X3 L i=X3 (L.set k f) i:=by
 unfold X3;rw[show(L.set k f).getD i default=L.getD i default by rw[L5,j_l (Ne.symm h),←L5]]
theorem b5u{L:List Frm}{k:Nat}{r:Rec}(hk:k<L.length)(hd:(L.getD k default).dirty=true):Z6 L.length (setRow (X3 L) k 1 [T.int IntKind.i64 r.l,T.sl 1 ((L.getD k default).pg.sl.set r.s.toNat r.a).length (Z5 ((L.getD k default).pg.sl.set r.s.toNat r.a))]) (X3 (L.set k (mI (L.getD k default) r))):=λi hi=>by
 have hl:∀j,(X3 L j).length=5:=λ_=>rfl
 by_cases h:i=k
 ·subst h;unfold setRow;rw[pD rfl];unfold X3;rw[sU _ hk];unfold mI Frm.ts;dsimp only;rw[if_pos hd,hd];rfl
 ·rw[P4 (by rw[hl];exact m5 rfl) h]
  exact b2D _ h
theorem a9P{L:List Frm}{k:Nat}{r:Rec}(hk:k<L.length)(hd:(L.getD k default).dirty=false):Z6 L.length (setRow (setRow (setRow (X3 L) k 1 [T.int IntKind.i64 r.l,T.sl 1 ((L.getD k default).pg.sl.set r.s.toNat r.a).length (Z5 ((L.getD k default).pg.sl.set r.s.toNat r.a))]) k 3 [T.bool true]) k 4 [T.int IntKind.i64 r.l]) (X3 (L.set k (mI (L.getD k default) r))):=λi hi=>by
 have hl:∀j,(X3 L j).length=5:=λ_=>rfl
 by_cases h:i=k
 ·subst h;unfold setRow;rw[pD rfl];unfold X3;rw[sU _ hk];unfold mI Frm.ts;dsimp only;rw[if_neg (by rw[hd];simp)]
  rfl
 ·have a1:(setRow (X3 L) k 1 [T.int IntKind.i64 r.l,T.sl 1 ((L.getD k default).pg.sl.set r.s.toNat r.a).length (Z5 ((L.getD k default).pg.sl.set r.s.toNat r.a))] i).length=5:=by rw[U7 (by rw[hl];exact m5 rfl),hl]
  rw[P4 (by rw[U7 (by rw[a1];exact m5 rfl),a1];exact m5 rfl) h,P4 (by rw[a1];exact m5 rfl) h,P4 (by rw[hl];exact m5 rfl) h]
  exact b2D _ h
theorem b2t(s:Sto)(no:Nat):(Y4 s no).1.log=s.log/\((Y4 s no).1.fr.length<=s.fr.length∨((Y4 s no).1.fr.length=s.fr.length+1/\s.fr.length≠3)):=by
 obtain⟨r1,_,r3,_⟩:=s7 s s.hand.toNat;unfold Y4;split
 ·exact⟨rfl,.inl (V2 _)⟩
 ·split
  ·split
   ·exact⟨r3,.inl (by unfold a5g;dsimp only;rw[l9];omega)⟩
   ·exact⟨r3,.inl (by dsimp only;omega)⟩
  ·rename_i h3;exact⟨rfl,.inr ⟨by unfold a2R;simp,h3⟩⟩
theorem a1m:GK 190 a2q:=gk Tryz.func190<|by
 rintro⟨s,lsn⟩ ⟨h,h1,h2⟩;dsimp only at h h1 h2;obtain⟨⟨_,g1,g2,g3,g4⟩,hl⟩:=b5h h h1 h2;have h60:=h.l60;have h3:=h.fr3;have hno:(s.log.getD (lsn-1).toNat default).g.toNat<8:=by omega
 have hle:=(b2t s (s.log.getD (lsn-1).toNat default).g.toNat).2;have hf:=fL h hno;have e1:(Y4 s (s.log.getD (lsn-1).toNat default).g.toNat).2.2=true->V0 s (s.log.getD (lsn-1).toNat default)=(b3I (Y4 s (s.log.getD (lsn-1).toNat default).g.toNat).1 (Y4 s (s.log.getD (lsn-1).toNat default).g.toNat).2.1 (s.log.getD (lsn-1).toNat default),true):=λhu=>if_pos hu
 have e2:(Y4 s (s.log.getD (lsn-1).toNat default).g.toNat).2.2=false->V0 s (s.log.getD (lsn-1).toNat default)=((Y4 s (s.log.getD (lsn-1).toNat default).g.toNat).1,false):=λhu=>if_neg (by rw[hu];simp)
 refine S6 (gC a0z (gC a6A gN)) Tryz.func190 Z0 (α:=X4 .i64 (lsn- (1:Int))/\W4 (lsn- (1:Int)) s.log.length/\∃(x:(Sto×Nat)),(((yR s x.1)/\(s.log.getD (lsn- (1:Int)).toNat default).g=(x.2:Int)/\True)/\a6v x.1 x.2)/\((!(Y4 x.1 x.2).2.2)=true->(yR (Y4 x.1 x.2).1 (V0 s (s.log.getD (lsn- (1:Int)).toNat default)).1)/\false=(V0 s (s.log.getD (lsn- (1:Int)).toNat default)).2/\True)/\((!(Y4 x.1 x.2).2.2)=false->(Le 0 0/\V6 0 (Y4 x.1 x.2).1.fr.length 56)/\W4 (↑(Y4 x.1 x.2).2.1:Int) (0+(Y4 x.1 x.2).1.fr.length)/\Lt (0+(↑(Y4 x.1 x.2).2.1:Int).toNat) (0+(Y4 x.1 x.2).1.fr.length)/\∃(x_1:(Pg×Int×List UInt8×Int)),(((((Y4 x.1 x.2).1.fr.getD (0+(↑(Y4 x.1 x.2).2.1:Int).toNat-0) default).pg.lsn=x_1.1.lsn/\(Y5 Z5 ((Y4 x.1 x.2).1.fr.getD (0+(↑(Y4 x.1 x.2).2.1:Int).toNat-0) default).pg.sl x_1.1.sl)/\True)/\(s.log.getD (lsn- (1:Int)).toNat default).s=x_1.2.1/\(s.log.getD (lsn- (1:Int)).toNat default).a=x_1.2.2.1/\lsn=x_1.2.2.2/\True)/\x_1.1.sl.length=4/\(0:Int)<=x_1.2.1/\x_1.2.1<(4:Int))/\Lt (0+(↑(Y4 x.1 x.2).2.1:Int).toNat) (0+(Y4 x.1 x.2).1.fr.length)/\Lt (0+(↑(Y4 x.1 x.2).2.1:Int).toNat) (0+(Y4 x.1 x.2).1.fr.length)/\((!((Y4 x.1 x.2).1.fr.getD (0+(↑(Y4 x.1 x.2).2.1:Int).toNat-0) default).dirty)=true->Lt (0+(↑(Y4 x.1 x.2).2.1:Int).toNat) (0+(Y4 x.1 x.2).1.fr.length)/\Lt (0+(↑(Y4 x.1 x.2).2.1:Int).toNat) (0+(Y4 x.1 x.2).1.fr.length)/\Le (0+(0+(Y4 x.1 x.2).1.fr.length)) (0+(Y4 x.1 x.2).1.fr.length)/\((Y5 Z5 (Y4 x.1 x.2).1.d.sec (V0 s (s.log.getD (lsn- (1:Int)).toNat default)).1.d.sec)/\(Y5 Z3 (Y4 x.1 x.2).1.d.cache (V0 s (s.log.getD (lsn- (1:Int)).toNat default)).1.d.cache)/\(Y4 x.1 x.2).1.d.armed=(V0 s (s.log.getD (lsn- (1:Int)).toNat default)).1.d.armed/\(Y5 Y9 (Y4 x.1 x.2).1.d.keep (V0 s (s.log.getD (lsn- (1:Int)).toNat default)).1.d.keep)/\(Y4 x.1 x.2).1.ep=(V0 s (s.log.getD (lsn- (1:Int)).toNat default)).1.ep/\(Y5 Y7 (Y4 x.1 x.2).1.log (V0 s (s.log.getD (lsn- (1:Int)).toNat default)).1.log)/\(Y4 x.1 x.2).1.sure=(V0 s (s.log.getD (lsn- (1:Int)).toNat default)).1.sure/\(0+(Y4 x.1 x.2).1.fr.length=(V0 s (s.log.getD (lsn- (1:Int)).toNat default)).1.fr.length/\Z6 (0+(Y4 x.1 x.2).1.fr.length) (setRow (setRow (setRow (W6 (λ(k:Nat)=>List.take 5 (List.drop (k*5) [])) 0 (X3 (Y4 x.1 x.2).1.fr)) (0+(↑(Y4 x.1 x.2).2.1:Int).toNat) 1 [T.int .i64 x_1.2.2.2,T.sl 1 (x_1.1.sl.set x_1.2.1.toNat x_1.2.2.1).length (Z5 (x_1.1.sl.set x_1.2.1.toNat x_1.2.2.1))]) (0+(↑(Y4 x.1 x.2).2.1:Int).toNat) 3 [T.bool true]) (0+(↑(Y4 x.1 x.2).2.1:Int).toNat) 4 [T.int .i64 lsn]) (X3 (V0 s (s.log.getD (lsn- (1:Int)).toNat default)).1.fr))/\(Y4 x.1 x.2).1.hand=(V0 s (s.log.getD (lsn- (1:Int)).toNat default)).1.hand/\True)/\true=(V0 s (s.log.getD (lsn- (1:Int)).toNat default)).2/\True)/\((!((Y4 x.1 x.2).1.fr.getD (0+(↑(Y4 x.1 x.2).2.1:Int).toNat-0) default).dirty)=false->Le (0+(0+(Y4 x.1 x.2).1.fr.length)) (0+(Y4 x.1 x.2).1.fr.length)/\((Y5 Z5 (Y4 x.1 x.2).1.d.sec (V0 s (s.log.getD (lsn- (1:Int)).toNat default)).1.d.sec)/\(Y5 Z3 (Y4 x.1 x.2).1.d.cache (V0 s (s.log.getD (lsn- (1:Int)).toNat default)).1.d.cache)/\(Y4 x.1 x.2).1.d.armed=(V0 s (s.log.getD (lsn- (1:Int)).toNat default)).1.d.armed/\(Y5 Y9 (Y4 x.1 x.2).1.d.keep (V0 s (s.log.getD (lsn- (1:Int)).toNat default)).1.d.keep)/\(Y4 x.1 x.2).1.ep=(V0 s (s.log.getD (lsn- (1:Int)).toNat default)).1.ep/\(Y5 Y7 (Y4 x.1 x.2).1.log (V0 s (s.log.getD (lsn- (1:Int)).toNat default)).1.log)/\(Y4 x.1 x.2).1.sure=(V0 s (s.log.getD (lsn- (1:Int)).toNat default)).1.sure/\(0+(Y4 x.1 x.2).1.fr.length=(V0 s (s.log.getD (lsn- (1:Int)).toNat default)).1.fr.length/\Z6 (0+(Y4 x.1 x.2).1.fr.length) (setRow (W6 (λ(k:Nat)=>List.take 5 (List.drop (k*5) [])) 0 (X3 (Y4 x.1 x.2).1.fr)) (0+(↑(Y4 x.1 x.2).2.1:Int).toNat) 1 [T.int .i64 x_1.2.2.2,T.sl 1 (x_1.1.sl.set x_1.2.1.toNat x_1.2.2.1).length (Z5 (x_1.1.sl.set x_1.2.1.toNat x_1.2.2.1))]) (X3 (V0 s (s.log.getD (lsn- (1:Int)).toNat default)).1.fr))/\(Y4 x.1 x.2).1.hand=(V0 s (s.log.getD (lsn- (1:Int)).toNat default)).1.hand/\True)/\true=(V0 s (s.log.getD (lsn- (1:Int)).toNat default)).2/\True))) ⟨Z4 (by omega),⟨by omega,by omega⟩,(s,(s.log.getD (lsn-1).toNat default).g.toNat),⟨⟨yP _,by dsimp only;omega,trivial⟩,h,hno⟩,λhu=> ?_,λhu=> ?_⟩
 ·rw[e2 ((wD _).mp hu)];exact⟨yP _,Z9⟩
 ·have hu:=(xO _).mp hu;replace e1:=e1 hu;replace hf:=hf hu;rw[e1];dsimp only at*;generalize s.log.getD (lsn-1).toNat default=r at*;generalize Y4 s r.g.toNat=A at*;obtain⟨a,k,up⟩:=A;dsimp only at*;obtain⟨hk,p1,p2,p3,p4⟩:=hf;rw[u9,show 0+k=k from C3 k,Nat.sub_zero]
  refine⟨⟨V2 _,by unfold V6;omega⟩,⟨by omega,by omega⟩,by unfold Lt;omega,((a.fr.getD k default).pg,r.s,r.a,lsn),⟨⟨(by repeat' first|exact trivial|exact rfl|exact Z2 _ _|exact S5 _|exact U5|exact U0 _|exact V2 _|exact S7 _|refine And.intro ?_ ?_),rfl,rfl,rfl,trivial⟩,p3,g3,g4⟩,by unfold Lt;omega,by unfold Lt;omega,λhd=> ?_,λhd=> ?_⟩
  ·refine⟨by unfold Lt;omega,by unfold Lt;omega,by unfold Le;omega,⟨Z8,Z8,rfl,Z8,rfl,Z8,rfl,⟨by rw[C3];exact l9.symm,?_⟩,Z9⟩,Z9⟩
   rw[C3,qG,←hl];exact a9P hk (by simpa using hd)
  ·refine⟨by unfold Le;omega,⟨Z8,Z8,rfl,Z8,rfl,Z8,rfl,⟨by rw[C3];exact l9.symm,?_⟩,Z9⟩,Z9⟩
   rw[C3,qG,←hl];exact b5u hk (by simpa using hd)
end Go.Proofs.YtokaojbaacnngaaGreat

