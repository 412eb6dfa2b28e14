/- A part of the proof. -/
import Derived.Test.YtghgljelnhfihaaGreatY1Y2Y3
import Derived.Test.YtghgljelnhfihaaGreatX11X11rX12X13X14
namespace Go.Proofs.YtghgljelnhfihaaGreat
set_option maxRecDepth 100000
open Go.SS

theorem qR{d:Dsk}{no:Nat}(h:(T6 d no).2=true):eB (T6 d no).1:=by
 unfold T6 at h ⊢;by_cases hr:U6 d (1+no)=[]
 ·rw[if_pos hr];refine⟨Int.le_refl _,by decide,rfl,λi hi=> ?_⟩
  match i,hi with
  |0,_=>exact S7 _
  |1,_=>exact S7 _
  |2,_=>exact S7 _
  |3,_=>exact S7 _
 ·rw[if_neg hr] at h ⊢;unfold I7 at h ⊢;split at h
  ·rename_i hc;rw[if_pos hc];simp only[L3] at h;exact C7 h.2
  ·cases h
theorem bI{s:Sto}{no:Nat}(h:SInv s)(hno:no<8)(hu:(Z1 s no).2.2=true):(Z1 s no).2.1<(Z1 s no).1.fr.length/\eB ((Z1 s no).1.fr.getD (Z1 s no).2.1 dz).pg:=by
 by_cases hc:0<=frAt s.fr no
 ·rw[(g7 0 hc).1];exact⟨vW hc,(h.frp _ (vW hc)).2.2.1⟩
 ·by_cases h3:s.fr.length=3
  ·cases ho:(Y4 s s.J.toNat).2 with
   |false=>
    rw[(l6 0 hc h3 ho).1] at hu;cases hu
   |true=>
    rw[(x5 0 hc h3 ho).1];have hh:=h.hd;have hl:=(w7 s s.J.toNat).1;have hp:=(dK h hno hc h3 ho).2.2;unfold a6I;dsimp only;rw[B1,P8,j_j (by omega)]
    exact⟨by omega,qR hp⟩
  ·rw[(zW 0 hc h3).1];unfold a4N;dsimp only;rw[P8,rK (W4 _),K6]
   simp only[j_h,List.getElem?_cons_zero,Option.getD_some,List.length_cons,List.length_nil]
   exact⟨by omega,qR (h.pg no hno).1⟩
def qX(f:Frm)(r:Rec):Frm:=⟨f.no,⟨r.l,f.pg.sl.set r.s.toNat r.a⟩,true,if f.D=true then f.first else r.l⟩
def b2c(a:Sto)(k:Nat)(r:Rec):Sto:=⟨a.d,a.ep,a.L,a.S,a.fr.set k (qX (a.fr.getD k dz) r),a.J⟩
noncomputable def V2(s:Sto)(r:Rec):Sto×Bool:=if(Z1 s r.g.toNat).2.2=true then(b2c (Z1 s r.g.toNat).1 (Z1 s r.g.toNat).2.1 r,true) else((Z1 s r.g.toNat).1,false)
def a2j(s:Sto)(r:Rec):Prop:=SInv s/\0<=r.g/\r.g<8/\0<=r.s/\r.s<4
noncomputable def b5W:Con:=.reff ⟨Sto×Rec×Nat,λx=>[.ref 0 0 0,.agg x.2.1.ts],λx=>x.1.bx x.2.2,λx=>.bool (V2 x.1 x.2.1).2,λx=>(V2 x.1 x.2.1).1.bxF (z7 x.1 x.2.1.g.toNat x.2.2),λx=>a2j x.1 x.2.1⟩
theorem b3A{L:List Frm}{k i:Nat}(f:Frm)(h:i≠k):b00 (Y2 L i) (Y2 (L.set k f) i):=by
 rw[show Y2 (L.set k f) i=Y2 L i by unfold Y2;rw[show(L.set k f).getD i dz=L.getD i dz by rw[P8,aP (Ne.symm h),←P8]]]
 exact oZ _
theorem uA{L:List Frm}{k:Nat}(f:Frm)(h:k<L.length):(L.set k f).getD k dz=f:=by rw[P8,j_j h];rfl
theorem cE{L:List (List UInt8)}{j:Nat}(t:List UInt8):L.length=(L.set j t).length/\Z6 L.length (setRow (Z5 L) j 0 [T.str t]) (Z5 (L.set j t)):=⟨B1.symm,λi hi=>mX i hi⟩
theorem b4c{L:List Frm}{k:Nat}{r:Rec}(hk:k<L.length)(hd:(L.getD k dz).D=true):T9 L.length (setRow (setRow (Y2 L) k 2 [T.own 0 1 (L.getD k dz).pg.sl.length (setRow (Z5 (L.getD k dz).pg.sl) r.s.toNat 0 [T.str r.a])]) k 1 [T.int IntKind.i64 r.l]) (Y2 (L.set k (qX (L.getD k dz) r))):=λi hi=>by
 have l5:∀j,(Y2 L j).length=5:=λ_=>rfl
 by_cases h:i=k
 ·subst h;unfold setRow;rw[lF rfl];have e:Y2 (L.set i (qX (L.getD i dz) r)) i=[.int .i64 (L.getD i dz).no,.int .i64 r.l,.own 0 1 ((L.getD i dz).pg.sl.set r.s.toNat r.a).length (Z5 ((L.getD i dz).pg.sl.set r.s.toNat r.a)),.bool (L.getD i dz).D,.int .i64 (L.getD i dz).first]:=by
   unfold Y2;rw[uA _ hi];unfold qX;dsimp only;rw[if_pos hd,hd]
  rw[e];exact⟨rfl,rfl,⟨rfl,(cE r.a).1,(cE r.a).2⟩,rfl,Z9⟩
 ·rw[M8 (by rw[T7 (by rw[l5];exact v6 rfl),l5];exact v6 rfl) h,M8 (by rw[l5];exact v6 rfl) h]
  exact b3A _ h
theorem b1o{L:List Frm}{k:Nat}{r:Rec}(hk:k<L.length)(hd:(L.getD k dz).D=false):T9 L.length (setRow (setRow (setRow (setRow (Y2 L) k 2 [T.own 0 1 (L.getD k dz).pg.sl.length (setRow (Z5 (L.getD k dz).pg.sl) r.s.toNat 0 [T.str r.a])]) k 1 [T.int IntKind.i64 r.l]) k 3 [T.bool true]) k 4 [T.int IntKind.i64 r.l]) (Y2 (L.set k (qX (L.getD k dz) r))):=λi hi=>by
 have l5:∀j,(Y2 L j).length=5:=λ_=>rfl
 by_cases h:i=k
 ·subst h;unfold setRow;rw[lF rfl];have e:Y2 (L.set i (qX (L.getD i dz) r)) i=[.int .i64 (L.getD i dz).no,.int .i64 r.l,.own 0 1 ((L.getD i dz).pg.sl.set r.s.toNat r.a).length (Z5 ((L.getD i dz).pg.sl.set r.s.toNat r.a)),.bool true,.int .i64 r.l]:=by
   unfold Y2;rw[uA _ hi];unfold qX;dsimp only;rw[if_neg (by rw[hd];simp)]
  rw[e];exact⟨rfl,rfl,⟨rfl,(cE r.a).1,(cE r.a).2⟩,rfl,Z9⟩
 ·have a1:(setRow (Y2 L) k 2 [T.own 0 1 (L.getD k dz).pg.sl.length (setRow (Z5 (L.getD k dz).pg.sl) r.s.toNat 0 [T.str r.a])] i).length=5:=by rw[T7 (by rw[l5];exact v6 rfl),l5]
  have a2:(setRow (setRow (Y2 L) k 2 [T.own 0 1 (L.getD k dz).pg.sl.length (setRow (Z5 (L.getD k dz).pg.sl) r.s.toNat 0 [T.str r.a])]) k 1 [T.int IntKind.i64 r.l] i).length=5:=by rw[T7 (by rw[a1];exact v6 rfl),a1]
  rw[M8 (by rw[T7 (by rw[a2];exact v6 rfl),a2];exact v6 rfl) h,M8 (by rw[a2];exact v6 rfl) h,M8 (by rw[a1];exact v6 rfl) h,M8 (by rw[l5];exact v6 rfl) h]
  exact b3A _ h
theorem b3b:GK 117 b5W:=gk Tryz.func117<|by
 rintro⟨s,r,v⟩ ⟨h,g1,g2,g3,g4⟩;dsimp only at h g1 g2 g3 g4;have hno:r.g.toNat<8:=by omega
 by_cases hu:(Z1 s r.g.toNat).2.2=true
 ·have hf:=bI h hno hu;have e:V2 s r=(b2c (Z1 s r.g.toNat).1 (Z1 s r.g.toNat).2.1 r,true):=if_pos hu;refine v8 (gC a7R gN) Tryz.func117 Y5 [[.box 0,.arr 1,.arr 2,.arr 3,.arr 4,.arr 5,.arr 7,.arr 8,.arr 9]] (α:=let c:=(true=(V2 s r).2/\True);let f:=(Y2 (V2 s r).1.fr);let n:=(V2 s r).1.fr.length;∃(x:(Sto×Nat×Nat)),let i:=(z7 x.1 x.2.1 x.2.2);let p:=(Z1 x.1 x.2.1);let m:=(Y8 Y3 p.1.L (V2 s r).1.L);let k:=(1=1/\1=1/\oE p.1 (V2 s r).1);let j:=p.1.fr;let b:=j.length;let w:=(Y8 Y9 p.1.d.C (V2 s r).1.d.C);let y:=(Y8 Z5 p.1.d.E (V2 s r).1.d.E);let u:=(Y8 Y6 p.1.d.keep (V2 s r).1.d.keep);let q:=(j.getD p.2.1 dz);let z:=(setRow (setRow (Y2 j) p.2.1 2 [T.own (0:TypeId) 1 q.pg.sl.length (setRow (Z5 q.pg.sl) r.s.toNat 0 [T.str r.a])]) p.2.1 1 [T.int .i64 r.l]);(((0=0/\0=0)/\r.g=(x.2.1:Int)/\True)/\((1=1/\1=1/\oE s x.1)/\EqH (v) (x.2.2) s x.1)/\jJ x.1 x.2.1/\p.2.2=true)/\(false=true->(false=(V2 s r).2/\True)/\k/\y/\True/\True/\m/\True/\w/\u/\(z7 x.1 x.2.1 x.2.2=z7 s r.g.toNat v/\b=n/\T9 j.length (Y2 j) f)/\True)/\(false=false->Lt p.2.1 b/\V3 r.s q.pg.sl.length/\PfB i i p.2.1 j.length r.s.toNat q.pg.sl.length/\bS p.2.1 j.length [T.int .i64 q.pg.Q]/\Lt p.2.1 b/\((! q.D)=true->bS p.2.1 j.length [T.bool q.D]/\bS p.2.1 j.length [T.int .i64 q.first]/\c/\k/\y/\True/\True/\m/\True/\w/\u/\(z7 x.1 x.2.1 x.2.2=z7 s r.g.toNat v/\b=n/\T9 j.length (setRow (setRow z p.2.1 3 [T.bool true]) p.2.1 4 [T.int .i64 r.l]) f)/\True)/\((! q.D)=false->c/\k/\y/\True/\True/\m/\True/\w/\u/\(z7 x.1 x.2.1 x.2.2=z7 s r.g.toNat v/\b=n/\T9 j.length z f)/\True))) ⟨(s,r.g.toNat,v),⟨⟨Z8,by dsimp only;omega,trivial⟩,⟨⟨rfl,rfl,⟨rfl,rfl⟩,⟨rfl,rfl⟩,rfl,⟨rfl,rfl⟩,rfl,⟨rfl,rfl⟩,rfl,⟨rfl,rfl⟩,rfl,trivial⟩,⟨rfl,Z2 _ _⟩,⟨rfl,Z2 _ _⟩,⟨rfl,Z2 _ _⟩,⟨rfl,Z2 _ _⟩,⟨rfl,rfl,U2 _⟩,trivial⟩,⟨h,hno⟩,hu⟩,λhb=>(by cases hb),λ_=> ?_⟩
  rw[e];dsimp only;generalize z7 s r.g.toNat v=w;generalize Z1 s r.g.toNat=A at*;obtain⟨a,k,up⟩:=A;dsimp only at*;obtain⟨hk,p1,p2,p3,p4⟩:=hf;refine⟨hk,⟨g3,by omega⟩,⟨rfl,hk,by omega⟩,⟨hk,rfl⟩,hk,λhd=> ?_,λhd=> ?_⟩
  ·exact⟨⟨hk,rfl⟩,⟨hk,rfl⟩,Z9,⟨rfl,rfl,Z8,Z8,rfl,Z8,rfl,Z8,rfl,⟨rfl,B1.symm⟩,Z9⟩,Z7,trivial,trivial,Z7,trivial,Z7,Z7,⟨rfl,B1.symm,b1o hk (by simpa using hd)⟩,trivial⟩
  ·exact⟨Z9,⟨rfl,rfl,Z8,Z8,rfl,Z8,rfl,Z8,rfl,⟨rfl,B1.symm⟩,Z9⟩,Z7,trivial,trivial,Z7,trivial,Z7,Z7,⟨rfl,B1.symm,b4c hk (by simpa using hd)⟩,trivial⟩
 ·have e:V2 s r=((Z1 s r.g.toNat).1,false):=if_neg hu;refine v8 (gC a7N gN) Tryz.func117 Y5 [[.box 0,.arr 1,.arr 2,.arr 3,.arr 4,.arr 5,.arr 7,.arr 8,.arr 9]] (α:=∃(x:(Sto×Nat×Nat)),let p:=(Z1 x.1 x.2.1);(((0=0/\0=0)/\r.g=(x.2.1:Int)/\True)/\((1=1/\1=1/\oE s x.1)/\EqH (v) (x.2.2) s x.1)/\jJ x.1 x.2.1/\p.2.2=false)/\(true=true->(false=(V2 s r).2/\True)/\(1=1/\1=1/\oE p.1 (V2 s r).1)/\(Y8 Z5 p.1.d.E (V2 s r).1.d.E)/\True/\True/\(Y8 Y3 p.1.L (V2 s r).1.L)/\True/\(Y8 Y9 p.1.d.C (V2 s r).1.d.C)/\(Y8 Y6 p.1.d.keep (V2 s r).1.d.keep)/\(z7 x.1 x.2.1 x.2.2=z7 s r.g.toNat v/\p.1.fr.length=(V2 s r).1.fr.length/\T9 p.1.fr.length (Y2 p.1.fr) (Y2 (V2 s r).1.fr))/\True)/\(true=false->False)) ⟨(s,r.g.toNat,v),⟨⟨Z8,by dsimp only;omega,trivial⟩,⟨⟨rfl,rfl,⟨rfl,rfl⟩,⟨rfl,rfl⟩,rfl,⟨rfl,rfl⟩,rfl,⟨rfl,rfl⟩,rfl,⟨rfl,rfl⟩,rfl,trivial⟩,⟨rfl,Z2 _ _⟩,⟨rfl,Z2 _ _⟩,⟨rfl,Z2 _ _⟩,⟨rfl,Z2 _ _⟩,⟨rfl,rfl,U2 _⟩,trivial⟩,⟨h,hno⟩,by simpa using hu⟩,λ_=> ?_,λhb=>(by cases hb)⟩
  rw[e];exact⟨Z9,⟨rfl,rfl,Z8,Z8,rfl,Z8,rfl,Z8,rfl,Z8,Z9⟩,Z7,trivial,trivial,Z7,trivial,Z7,Z7,Q2,trivial⟩
end Go.Proofs.YtghgljelnhfihaaGreat

namespace Go.Proofs.YtghgljelnhfihaaGreat
open Go.SS

theorem a35{L:List Frm}{k:Nat}{f:Frm}(h:∀i,i<L.length->SmF (L.getD i dz))(hf:SmF f):∀i,i<(L.set k f).length->SmF ((L.set k f).getD i dz):=λi hi=>by
 rw[B1] at hi;by_cases e:i=k
 ·subst e;rw[uA _ hi];exact hf
 ·rw[P8,aP (Ne.symm e),←P8]
  exact h i hi
theorem b5Y{d:Dsk}(h:nD d):nD (E8 d).1:=by
 unfold E8;split
 ·exact a6q h
 ·exact h
theorem b9W{s:Sto}{d:Dsk}(h:SmS s)(hd:nD d):SmS (s.sd d):=⟨hd,h.2⟩
theorem a6h{s:Sto}{k:Nat}(h:SInv s)(hk:k<s.fr.length):SmS (Y4 s k).1:=by
 have hf:=h.flu (h.frp k hk).2.2.2;have hS:=iT hf h.sm;have hc:=a1F (l:=(s.fr.getD k dz).pg.Q) h.c;have h5:=b5Y hS.1;unfold Y4;split
 ·split
  ·split
   ·refine⟨⟨h5.1,?_,h5.2.2⟩,hS.2.1,?_,?_⟩
    ·have:=a40 hc;show((E8 _).1.C++[_]).length<=_;rw[K6];simp only[List.length_cons,List.length_nil];omega
    ·show(List.set _ _ _).length<=_;rw[B1];exact hS.2.2.1
    ·refine a35 hS.2.2.2 ?_
     have:=hS.2.2.2 k (by rw[dH];exact hk)
     exact this
   ·exact b9W hS h5
  ·exact hS
 ·exact h.sm
theorem b7t{d:Dsk}{no:Nat}(h:(T6 d no).2=true):SmF (d8 no (T6 d no).1):=by
 have:=(qR h).2.2.1;show(T6 d no).1.sl.length<=1048576;omega
theorem a6j{s:Sto}{no:Nat}(h:SInv s)(hno:no<8):SmS (Z1 s no).1:=by
 by_cases hc:0<=frAt s.fr no
 ·rw[(g7 0 hc).1];exact h.sm
 ·by_cases h3:s.fr.length=3
  ·have hh:=h.hd;have ho:=a6h h (k:=s.J.toNat) (by omega)
   cases hu:(Y4 s s.J.toNat).2 with
   |false=>
    rw[(l6 0 hc h3 hu).1];exact ho
   |true=>
    rw[(x5 0 hc h3 hu).1];refine⟨ho.1,ho.2.1,?_,?_⟩
    ·show(List.set _ _ _).length<=_;rw[B1];exact ho.2.2.1
    ·exact a35 ho.2.2.2 (b7t (dK h hno hc h3 hu).2.2)
  ·rw[(zW 0 hc h3).1];have hl:=h.fr3;refine⟨h.sm.1,h.sm.2.1,?_,λi hi=> ?_⟩
   ·show(s.fr++[_]).length<=_;rw[K6];simp only[List.length_cons,List.length_nil];omega
   ·have hi:i<(s.fr++[d8 no (T6 s.d no).1]).length:=hi;show SmF ((s.fr++[d8 no (T6 s.d no).1]).getD i dz);by_cases e:i<s.fr.length
    ·rw[P8,tX e,←P8]
     exact h.sm.2.2.2 i e
    ·have:i=s.fr.length:=by rw[K6] at hi;simp only[List.length_cons,List.length_nil] at hi;omega
     subst this;rw[P8,rK (W4 _)]
     simp only[j_h,List.getElem?_cons_zero,Option.getD_some]
     exact b7t (h.pg no hno).1
theorem b59{s:Sto}{r:Rec}(h:a2j s r):SmS (V2 s r).1:=by
 obtain⟨h,g1,g2,g3,g4⟩:=h;have hno:r.g.toNat<8:=by omega
 have hS:=a6j h hno;unfold V2;split
 ·rename_i hu;have hf:=bI h hno hu;refine⟨hS.1,hS.2.1,?_,?_⟩
  ·show(List.set _ _ _).length<=_;rw[B1];exact hS.2.2.1
  ·refine a35 hS.2.2.2 ?_
   have:=hf.2.2.2.1;show(List.set _ _ _).length<=_;rw[B1];omega
 ·exact hS
theorem b6j{s:Sto}{lsn:Int}(h:SInv s)(h1:1<=lsn)(h2:lsn<=s.L.length):a2j s (s.L.getD (lsn-1).toNat dz)/\(s.L.getD (lsn-1).toNat dz).l=lsn:=by
 obtain⟨a,b⟩:=J6.1 h.rc (lsn-1).toNat (by omega)
 have a:=(R7 _).1 a;obtain⟨_,_,_,_,_,_,_,_,_,_,q1,q2,q3,q4,_⟩:=a;exact⟨⟨h,q1,by omega,q3,by omega⟩,by omega⟩
end Go.Proofs.YtghgljelnhfihaaGreat

namespace Go.Proofs.YtghgljelnhfihaaGreat
set_option maxRecDepth 100000
open Go.SS

noncomputable def a3w:Con:=.rel ⟨Dsk×Nat,λx=>[.agg x.1.ts,.int .i64 x.2],λx=>.tup [.agg (T6 x.1 x.2).1.ts,.bool (T6 x.1 x.2).2],DkB⟩
theorem a20:GK 201 a3w:=gk Tryz.func201<|by
 rintro⟨d,no⟩ ⟨h1,h2,h3,h4⟩;dsimp only at h1 h2 h3 h4;refine eR d no ⟨Z4 (by omega),(d,1+no),⟨⟨uX _,by simp only;omega,trivial⟩,h1,by simp only;omega⟩,λh=>⟨(),A7,?_⟩,λh=>⟨((no:Int),U6 d (1+no)),⟨⟨rfl,Z9⟩,h4⟩,?_⟩⟩
 ·have h:U6 d (1+no)=[]:=by simpa using h
  have e:T6 d no=(⟨0,[[],[],[],[]]⟩,true):=by unfold T6;rw[if_pos h]
  rw[e];exact⟨⟨rfl,X5⟩,Z9⟩
 ·have h:U6 d (1+no)≠[]:=by simpa using h
  have e:T6 d no=I7 no (U6 d (1+no)):=by unfold T6;rw[if_neg h]
  rw[e];exact⟨⟨rfl,X5⟩,Z9⟩
def b2X:Con:=.rel ⟨Pg×Int×List UInt8×Int,λx=>[.agg x.1.ts,.int .i64 x.2.1,.str x.2.2.1,.int .i64 x.2.2.2],λx=>.agg (Pg.ts ⟨x.2.2.2,x.1.sl.set x.2.1.toNat x.2.2.1⟩),λx=>x.1.sl.length=4/\0<=x.2.1/\x.2.1<4⟩
theorem a9i:GK 303 b2X:=gk Tryz.func303<|by
 rintro⟨p,j,t,l⟩ ⟨h1,h2,h3⟩;dsimp only at h1 h2 h3;exact Q5 (gC eV gN) Tryz.func303 Y5 (α:=let r:=(p.sl.set j.toNat t);∃(x:Pg),let q:=x.sl.length;(((p.Q=x.Q/\(Y8 Z5 p.sl x.sl)/\True)/\True)/\q<=1048576)/\V3 j q/\Lt (0+j.toNat) q/\Le (0+q) q/\l=l/\(q=r.length/\Z6 x.sl.length (setRow (Z5 x.sl) (0+j.toNat) 0 [T.str t]) (Z5 r))/\True) ⟨p,⟨(by repeat' first|exact trivial|exact rfl|exact Z2 _ _|exact U2 _|exact V7|exact S8 _|exact W4 _|exact S7 _|refine And.intro ?_ ?_),by omega⟩,⟨h2,by omega⟩,by unfold Lt;omega,S8 _,rfl,⟨B1.symm,λi hi=>by rw[G9];exact mX i hi⟩,trivial⟩
theorem tA{f row:Nat->List T}:X3 f 0 row=row:=funext λ_=>rfl
theorem b53{L:List Frm}{k:Nat}(f:Frm)(hk:k<L.length):Z6 L.length (setRow (X2 L) k 0 f.ts) (X2 (L.set k f)):=λi _=>by
 have hl:∀j,(X2 L j).length=5:=λ_=>rfl
 rw[m5 (by rw[hl];rfl)]
 unfold X2;by_cases h:i=k
 ·subst h;rw[lF rfl,uA _ hk]
 ·rw[b2I h,show(L.set k f).getD i dz=L.getD i dz by rw[P8,aP (Ne.symm h),←P8]]
theorem b1X{L:List Frm}{k:Nat}(hk:k<L.length):Z6 L.length (setRow (setRow (X2 L) k 3 [T.bool false]) k 4 [T.int IntKind.i64 0]) (X2 (L.set k (nU (L.getD k dz)))):=λi hi=>by
 have hl:∀j,(X2 L j).length=5:=λ_=>rfl
 by_cases h:i=k
 ·subst h;unfold setRow;rw[lF rfl];unfold X2;rw[uA _ hk];rfl
 ·rw[M8 (by rw[T7 (by rw[hl];decide),hl];decide) h,M8 (by rw[hl];decide) h]
  unfold X2;rw[show(L.set k (nU (L.getD k dz))).getD i dz=L.getD i dz by rw[P8,aP (Ne.symm h),←P8]]
theorem b4V{L:List Frm}(f:Frm)(r:Nat->List T)(hr:(r 0).length=5):Z6 (L.length+1) (setRow (X3 (X2 L) L.length r) L.length 0 f.ts) (X2 (L++[f])):=λi hi=>by
 have hl:(X3 (X2 L) L.length r i).length=5:=by
  unfold X3;by_cases h:i<L.length
  ·rw[uY h];rfl
  ·rw[sW h,show i-L.length=0 by omega]
   exact hr
 rw[m5 (by rw[hl];rfl)]
 by_cases h:i=L.length
 ·subst h;rw[lF rfl];unfold X2;rw[show(L++[f]).getD L.length dz=f by rw[P8,rK (W4 _)];simp]
 ·rw[b2I h];unfold X3;rw[uY (by omega)]
  unfold X2;rw[show(L++[f]).getD i dz=L.getD i dz by rw[P8,tX (by omega),←P8]]
def b21:Con:=.rel ⟨Sto×Nat,λx=>[.agg x.1.ts,.int .i64 x.2],λx=>.tup [.agg (Y4 x.1 x.2).1.ts,.bool (Y4 x.1 x.2).2],λx=>SInv x.1/\x.2<x.1.fr.length⟩
theorem eC:GK 284 b21:=gk Tryz.func284<|by
 rintro⟨s,k⟩ ⟨h,hk⟩;dsimp only at h hk;have hfp:=h.frp k hk;have hf:=h.flu hfp.2.2.2;have hfr:=dH s (s.fr.getD k dz).pg.Q;have hS:=iT hf h.sm;have hP:=aQ (l:=(s.fr.getD k dz).pg.Q) h.pd;have hc5:=a1F (l:=(s.fr.getD k dz).pg.Q) h.c;have h3:=h.fr3;have o1:= @uF s k;have o2:= @qT s k;have o3:= @oX s k;refine Q5 (gC oB (gC jC (gC a2d (gC oH gN)))) Tryz.func284 Y5 (α:=let c:=(Y4 s k).1.J;let b:=(Y4 s k).1.S;let a:=(Y4 s k).1.ep;let g:=(Y4 s k).1.d.A;let f:=(Y4 s k).1.d.C;let n:=(Y4 s k).1.d.E;let w:=(Y4 s k).1.d.keep;let y:=(Y4 s k).2;let u:=(0+(k:Int).toNat);let q:=(s.fr.getD (k:Int).toNat dz);V3 (k:Int) s.fr.length/\((! q.D)=true->(yL s (Y4 s k).1)/\true=y/\True)/\((! q.D)=false->∃(x:(Sto×Int)),let p:=(X7 x.1 x.2);let m:=((↑p.1.d.C.length:Int)==500);let j:=(Le 0 0/\W6 0 p.1.fr.length 56);let v:=(Y8 Y3 p.1.L (Y4 s k).1.L);let z:=(0+p.1.fr.length);let r:=(0+p.1.fr.length=(Y4 s k).1.fr.length/\Z6 z (setRow (setRow (X3 (λ(k:Nat)=>List.take 5 (List.drop (k*5) [])) 0 (X2 p.1.fr)) u 3 [T.bool false]) u 4 [T.int .i64 0]) (X2 (Y4 s k).1.fr));(((yL s x.1)/\q.pg.Q=x.2/\True)/\wU x.1 x.2)/\((! p.2)=true->(yL p.1 (Y4 s k).1)/\false=y/\True)/\((! p.2)=false->(m=true->∃(x_1:Dsk),(((yM p.1.d x_1)/\True)/\nD x_1/\iE x_1)/\((!(V6 x_1).2)=true->((Y8 Z5 (V6 x_1).1.E n)/\(Y8 Y9 (V6 x_1).1.C f)/\(V6 x_1).1.A=g/\(Y8 Y6 (V6 x_1).1.keep w)/\p.1.ep=a/\v/\p.1.S=b/\(Y8 X2 p.1.fr (Y4 s k).1.fr)/\p.1.J=c/\True)/\false=y/\True)/\((!(V6 x_1).2)=false->W7 .i64 (1+q.no)/\∃(x_2:rY.ι),((q.no=x_2.1/\(q.pg.Q=x_2.2.Q/\(Y8 Z5 q.pg.sl x_2.2.sl)/\True)/\True)/\eB x_2.2)/\∃(x_3:(Dsk×Int×List UInt8)),(((yM (V6 x_1).1 x_3.1)/\1+q.no=x_3.2.1/\S6 x_2.1 x_2.2=x_3.2.2/\True)/\x_3.1.C.length<=1048576)/\j/\V3 (k:Int) z/\Lt u z/\V3 (k:Int) z/\Lt u z/\Le (0+z) z/\((Y8 Z5 x_3.1.E n)/\(Y8 Y9 (x_3.1.C++[Pend.mk x_3.2.1 x_3.2.2]) f)/\x_3.1.A=g/\(Y8 Y6 x_3.1.keep w)/\p.1.ep=a/\v/\p.1.S=b/\r/\p.1.J=c/\True)/\true=y/\True))/\(m=false->W7 .i64 (1+q.no)/\∃(x_1:rY.ι),((q.no=x_1.1/\(q.pg.Q=x_1.2.Q/\(Y8 Z5 q.pg.sl x_1.2.sl)/\True)/\True)/\eB x_1.2)/\∃(x_2:(Dsk×Int×List UInt8)),(((yM p.1.d x_2.1)/\1+q.no=x_2.2.1/\S6 x_1.1 x_1.2=x_2.2.2/\True)/\x_2.1.C.length<=1048576)/\j/\V3 (k:Int) z/\Lt u z/\V3 (k:Int) z/\Lt u z/\Le (0+z) z/\((Y8 Z5 x_2.1.E n)/\(Y8 Y9 (x_2.1.C++[Pend.mk x_2.2.1 x_2.2.2]) f)/\x_2.1.A=g/\(Y8 Y6 x_2.1.keep w)/\p.1.ep=a/\v/\p.1.S=b/\r/\p.1.J=c/\True)/\true=y/\True)))) ?_
 rw[F5];refine⟨X8 hk,λhd=> ?_,λhd=>⟨(s,(s.fr.getD k dz).pg.Q),⟨⟨zE _,Z9⟩,hf⟩,λhu=> ?_,λhu=>⟨λhc=> ?_,λhc=> ?_⟩⟩⟩
 ·rw[zQ (by simpa using hd)]
  exact⟨zE _,Z9⟩
 all_goals
  have hd:(s.fr.getD k dz).D=true:=by simpa using hd
  replace o1:=o1 hd;replace o2:=o2 hd;replace o3:=o3 hd;dsimp only at*;generalize X7 s (s.fr.getD k dz).pg.Q=A at*;obtain⟨a,up⟩:=A;dsimp only at*;rw[←hfr] at hk hfp h3
 ·have hu:up=false:=(xP _).mp hu;subst hu;rw[o1 rfl];exact⟨zE _,Z9⟩
 ·have hu:up=true:=(yT _).mp hu;subst hu;have hc:500<=a.d.C.length:=by have:=beq_iff_eq.1 hc;omega
  rw[←hfr];refine⟨a.d,⟨⟨uX _,trivial⟩,hS.1,hP⟩,λhb=> ?_,λhb=> ?_⟩
  ·have hb:(V6 a.d).2=false:=(xP _).mp hb;rw[o2 rfl (by rw[xI hc];exact hb),xI hc]
   exact(by repeat' first|exact trivial|exact rfl|exact Z2 _ _|exact U2 _|exact V7|exact S8 _|exact W4 _|exact S7 _|refine And.intro ?_ ?_)
  ·have hb:(V6 a.d).2=true:=(yT _).mp hb;rw[o3 rfl (by rw[xI hc];exact hb),xI hc]
   exact⟨Z4 (by omega),((a.fr.getD k dz).no,(a.fr.getD k dz).pg),⟨(by repeat' first|exact trivial|exact rfl|exact Z2 _ _|exact U2 _|exact V7|exact S8 _|exact W4 _|exact S7 _|refine And.intro ?_ ?_),hfp.2.2.1⟩,((V6 a.d).1,1+(a.fr.getD k dz).no,S6 (a.fr.getD k dz).no (a.fr.getD k dz).pg),⟨(by repeat' first|exact trivial|exact rfl|exact Z2 _ _|exact U2 _|exact V7|exact S8 _|exact W4 _|exact S7 _|refine And.intro ?_ ?_),by show(V6 a.d).1.C.length<=_;rw[o9];exact S7 _⟩,⟨W4 _,by unfold W6;omega⟩,⟨by omega,by omega⟩,by unfold Lt;omega,⟨by omega,by omega⟩,by unfold Lt;omega,by unfold Le;omega,⟨Z7,Z7,rfl,Z7,rfl,Z7,rfl,⟨by rw[G9];exact B1.symm,by rw[G9,G9,tA];exact b1X hk⟩,Z9⟩,Z9⟩
 ·have hu:up=true:=(yT _).mp hu;subst hu;have hc:¬500<=a.d.C.length:=λe=>by have e:(a.d.C.length:Int)=500:=(by omega);rw[e] at hc;simp at hc
  rw[←hfr,o3 rfl (by rw[pA hc]),pA hc]
  exact⟨Z4 (by omega),((a.fr.getD k dz).no,(a.fr.getD k dz).pg),⟨(by repeat' first|exact trivial|exact rfl|exact Z2 _ _|exact U2 _|exact V7|exact S8 _|exact W4 _|exact S7 _|refine And.intro ?_ ?_),hfp.2.2.1⟩,(a.d,1+(a.fr.getD k dz).no,S6 (a.fr.getD k dz).no (a.fr.getD k dz).pg),⟨(by repeat' first|exact trivial|exact rfl|exact Z2 _ _|exact U2 _|exact V7|exact S8 _|exact W4 _|exact S7 _|refine And.intro ?_ ?_),by dsimp only;omega⟩,⟨W4 _,by unfold W6;omega⟩,⟨by omega,by omega⟩,by unfold Lt;omega,⟨by omega,by omega⟩,by unfold Lt;omega,by unfold Le;omega,⟨⟨rfl,Z2 _ _⟩,⟨rfl,Z2 _ _⟩,rfl,⟨rfl,Z2 _ _⟩,rfl,⟨rfl,Z2 _ _⟩,rfl,⟨by rw[G9];exact B1.symm,by rw[G9,G9,tA];exact b1X hk⟩,Z9⟩,Z9⟩
noncomputable def a3O:Con:=.rel ⟨Sto×Nat,λx=>[.agg x.1.ts,.int .i64 x.2],λx=>.tup [.agg (Z1 x.1 x.2).1.ts,.int .i64 (Z1 x.1 x.2).2.1,.bool (Z1 x.1 x.2).2.2],λx=>jJ x.1 x.2⟩
theorem uH:GK 265 a3O:=gk Tryz.func265<|by
 rintro⟨s,no⟩ ⟨h,hno⟩;dsimp only at h hno;have hL:O6 s.fr.length:=by have:=h.fr3;unfold O6;omega
 have hl3:=h.fr3;refine Q5 (gC uL (gC eC (gC a20 gN))) Tryz.func265 Y5 (α:=let w:=(0+s.fr.length);let u:=(s.fr.length:Int);let z:=(λ(k:Nat)=>List.take 5 (List.drop (k*5) []));let r:=(0+s.fr.length+1);let p:=(Z1 s no);let f:=p.1.d;let j:=(↑p.2.1:Int);∃(x:wE.ι),let n:=(frAt x.1.fr x.2≥(0:Int));(((yL s x.1)/\(no:Int)=x.2/\True)/\O6 x.1.fr.length)/\(decide n=true->(yL s p.1)/\frAt x.1.fr x.2=j/\true=p.2.2/\True)/\(decide n=false->((u==3)=true->∃(x:(Sto×Nat)),let q:=(Y4 x.1 x.2);let y:=(0+q.1.fr.length);(((yL s x.1)/\s.J=(x.2:Int)/\True)/\SInv x.1/\x.2<x.1.fr.length)/\((! q.2)=true->(yL q.1 p.1)/\0=j/\false=p.2.2/\True)/\((! q.2)=false->W7 .i64 (q.1.J+1)/\Nz (3:Int)/\∃(x_1:(Dsk×Nat)),let m:=(T6 x_1.1 x_1.2);(((yM q.1.d x_1.1)/\(no:Int)=(x_1.2:Int)/\True)/\DkB x_1)/\(Le 0 0/\W6 0 q.1.fr.length 56)/\V3 s.J y/\Lt (0+s.J.toNat) y/\Le (0+y) y/\((Y8 Z5 q.1.d.E f.E)/\(Y8 Y9 q.1.d.C f.C)/\q.1.d.A=f.A/\(Y8 Y6 q.1.d.keep f.keep)/\q.1.ep=p.1.ep/\(Y8 Y3 q.1.L p.1.L)/\q.1.S=p.1.S/\(0+q.1.fr.length=p.1.fr.length/\Z6 y (setRow (X3 z 0 (X2 q.1.fr)) (0+s.J.toNat) 0 [T.int .i64 (no:Int),T.int .i64 m.1.Q,T.sl 1 m.1.sl.length (Z5 m.1.sl),T.bool false,T.int .i64 0]) (X2 p.1.fr))/\(q.1.J+1).tmod (3:Int)=p.1.J/\True)/\s.J=j/\true=p.2.2/\True))/\((u==3)=false->(Le 0 0/\W6 0 s.fr.length 56)/\(Le 1 1/\Le w w/\W6 w 1 56)/\∃(x:(Dsk×Nat)),let g:=(T6 x.1 x.2);(((yM s.d x.1)/\(no:Int)=(x.2:Int)/\True)/\DkB x)/\(Le (0+r) r/\Le 0 0/\W6 0 r 56)/\V3 u (0+r)/\Lt (0+u.toNat) (0+r)/\Le (0+(0+r)) (0+r)/\((Y8 Z5 s.d.E f.E)/\(Y8 Y9 s.d.C f.C)/\s.d.A=f.A/\(Y8 Y6 s.d.keep f.keep)/\s.ep=p.1.ep/\(Y8 Y3 s.L p.1.L)/\s.S=p.1.S/\(0+r=p.1.fr.length/\Z6 (0+r) (setRow (X3 z 0 (X3 (X3 z 0 (X2 s.fr)) w λ(k:Nat)=>List.take 5 (List.drop (k*5) [T.int .i64 0,T.int .i64 0,T.v (Value.slice none 0 0),T.bool false,T.int .i64 0]))) (0+u.toNat) 0 [T.int .i64 (no:Int),T.int .i64 g.1.Q,T.sl 1 g.1.sl.length (Z5 g.1.sl),T.bool false,T.int .i64 0]) (X2 p.1.fr))/\s.J=p.1.J/\True)/\u=j/\true=p.2.2/\True))) ⟨(s,(no:Int)),⟨⟨zE _,Z9⟩,hL⟩,λhc=> ?_,λhc=>⟨λh3=> ?_,λh3=> ?_⟩⟩
 ·have hc:0<=frAt s.fr no:=C7 hc;rw[(g7 0 hc).1];exact⟨zE _,by dsimp only;omega,rfl,trivial⟩
 ·have hc:¬0<=frAt s.fr no:=l7 hc;have h3:s.fr.length=3:=by have:=beq_iff_eq.1 h3;omega
  have hh:=h.hd;have hk:s.J.toNat<s.fr.length:=by omega
  obtain⟨r1,r2,_⟩:=w7 s s.J.toNat;refine⟨(s,s.J.toNat),⟨⟨zE _,by dsimp only;omega,trivial⟩,h,hk⟩,λhu=> ?_,λhu=> ?_⟩
  ·have hu:(Y4 s s.J.toNat).2=false:=(xP _).mp hu;rw[(l6 0 hc h3 hu).1];exact⟨zE _,rfl,Z9⟩
  ·have hu:(Y4 s s.J.toNat).2=true:=(yT _).mp hu;obtain⟨d1,_⟩:=dK h hno hc h3 hu;rw[(x5 0 hc h3 hu).1];exact⟨Z4 (by dsimp only;omega),by unfold Nz;omega,((Y4 s s.J.toNat).1.d,no),⟨⟨uX _,rfl,trivial⟩,d1⟩,⟨W4 _,by unfold W6;dsimp only;omega⟩,⟨by omega,by dsimp only;omega⟩,by unfold Lt;dsimp only;omega,by unfold Le;dsimp only;omega,⟨⟨rfl,Z2 _ _⟩,⟨rfl,Z2 _ _⟩,rfl,⟨rfl,Z2 _ _⟩,rfl,⟨rfl,Z2 _ _⟩,rfl,⟨by rw[G9];exact B1.symm,by rw[G9,G9,tA];exact b53 (d8 no (T6 (Y4 s s.J.toNat).1.d no).1) (by rw[r1];exact hk)⟩,Z9⟩,by dsimp only;omega,rfl,trivial⟩
 ·have hc:¬0<=frAt s.fr no:=l7 hc;have h3:¬s.fr.length=3:=λe=>by rw[e] at h3;simp at h3
  obtain⟨d1,_⟩:=a6z h hno;rw[(zW 0 hc h3).1];exact⟨⟨W4 _,by unfold W6;omega⟩,⟨W4 _,by unfold Le;omega,by unfold W6;omega⟩,(s.d,no),⟨⟨uX _,Z9⟩,d1⟩,⟨by unfold Le;omega,W4 _,by unfold W6;omega⟩,⟨by omega,by omega⟩,by unfold Lt;omega,by unfold Le;omega,⟨Z7,Z7,rfl,Z7,rfl,Z7,rfl,⟨by unfold a4N;simp,by rw[F5,G9,G9,tA,tA];exact b4V (d8 no (T6 s.d no).1) _ rfl⟩,Z9⟩,rfl,Z9⟩
end Go.Proofs.YtghgljelnhfihaaGreat

namespace Go.Proofs.YtghgljelnhfihaaGreat
set_option maxRecDepth 100000
open Go.SS

noncomputable def a39:Con:=.rel ⟨Sto×Int,λx=>[.agg x.1.ts,.int .i64 x.2],λx=>.tup [.agg (V2 x.1 (x.1.L.getD (x.2-1).toNat dz)).1.ts,.bool (V2 x.1 (x.1.L.getD (x.2-1).toNat dz)).2],λx=>SInv x.1/\1<=x.2/\x.2<=x.1.L.length⟩
theorem b02{L:List Frm}{k i:Nat}(f:Frm)(h:i≠k):X2 L i=X2 (L.set k f) i:=by
 unfold X2;rw[show(L.set k f).getD i dz=L.getD i dz by rw[P8,aP (Ne.symm h),←P8]]
theorem b4g{L:List Frm}{k:Nat}{r:Rec}(hk:k<L.length)(hd:(L.getD k dz).D=true):Z6 L.length (setRow (X2 L) k 1 [T.int IntKind.i64 r.l,T.sl 1 ((L.getD k dz).pg.sl.set r.s.toNat r.a).length (Z5 ((L.getD k dz).pg.sl.set r.s.toNat r.a))]) (X2 (L.set k (qX (L.getD k dz) r))):=λi hi=>by
 have hl:∀j,(X2 L j).length=5:=λ_=>rfl
 by_cases h:i=k
 ·subst h;unfold setRow;rw[lF rfl];unfold X2;rw[uA _ hk];unfold qX Frm.ts;dsimp only;rw[if_pos hd,hd];rfl
 ·rw[M8 (by rw[hl];exact v6 rfl) h]
  exact b02 _ h
theorem b0q{L:List Frm}{k:Nat}{r:Rec}(hk:k<L.length)(hd:(L.getD k dz).D=false):Z6 L.length (setRow (setRow (setRow (X2 L) k 1 [T.int IntKind.i64 r.l,T.sl 1 ((L.getD k dz).pg.sl.set r.s.toNat r.a).length (Z5 ((L.getD k dz).pg.sl.set r.s.toNat r.a))]) k 3 [T.bool true]) k 4 [T.int IntKind.i64 r.l]) (X2 (L.set k (qX (L.getD k dz) r))):=λi hi=>by
 have hl:∀j,(X2 L j).length=5:=λ_=>rfl
 by_cases h:i=k
 ·subst h;unfold setRow;rw[lF rfl];unfold X2;rw[uA _ hk];unfold qX Frm.ts;dsimp only;rw[if_neg (by rw[hd];simp)]
  rfl
 ·have a1:(setRow (X2 L) k 1 [T.int IntKind.i64 r.l,T.sl 1 ((L.getD k dz).pg.sl.set r.s.toNat r.a).length (Z5 ((L.getD k dz).pg.sl.set r.s.toNat r.a))] i).length=5:=by rw[T7 (by rw[hl];exact v6 rfl),hl]
  rw[M8 (by rw[T7 (by rw[a1];exact v6 rfl),a1];exact v6 rfl) h,M8 (by rw[a1];exact v6 rfl) h,M8 (by rw[hl];exact v6 rfl) h]
  exact b02 _ h
theorem b0y(s:Sto)(no:Nat):(Z1 s no).1.L=s.L/\((Z1 s no).1.fr.length<=s.fr.length∨((Z1 s no).1.fr.length=s.fr.length+1/\s.fr.length≠3)):=by
 obtain⟨r1,_,r3,_⟩:=w7 s s.J.toNat;unfold Z1;split
 ·exact⟨rfl,.inl (W4 _)⟩
 ·split
  ·split
   ·exact⟨r3,.inl (by unfold a6I;dsimp only;rw[B1];omega)⟩
   ·exact⟨r3,.inl (by dsimp only;omega)⟩
  ·rename_i h3;exact⟨rfl,.inr ⟨by unfold a4N;simp,h3⟩⟩
theorem nV:GK 231 a39:=gk Tryz.func231<|by
 rintro⟨s,lsn⟩ ⟨h,h1,h2⟩;dsimp only at h h1 h2;obtain⟨⟨_,g1,g2,g3,g4⟩,hl⟩:=b6j h h1 h2;have h60:=h.l60;have h3:=h.fr3;have hno:(s.L.getD (lsn-1).toNat dz).g.toNat<8:=by omega
 have hle:=(b0y s (s.L.getD (lsn-1).toNat dz).g.toNat).2;have hf:=bI h hno;have e1:(Z1 s (s.L.getD (lsn-1).toNat dz).g.toNat).2.2=true->V2 s (s.L.getD (lsn-1).toNat dz)=(b2c (Z1 s (s.L.getD (lsn-1).toNat dz).g.toNat).1 (Z1 s (s.L.getD (lsn-1).toNat dz).g.toNat).2.1 (s.L.getD (lsn-1).toNat dz),true):=λhu=>if_pos hu
 have e2:(Z1 s (s.L.getD (lsn-1).toNat dz).g.toNat).2.2=false->V2 s (s.L.getD (lsn-1).toNat dz)=((Z1 s (s.L.getD (lsn-1).toNat dz).g.toNat).1,false):=λhu=>if_neg (by rw[hu];simp)
 refine Q5 (gC uH (gC a9i gN)) Tryz.func231 Y5 (α:=let v:=(s.L.getD (lsn-1).toNat dz);let p:=(V2 s v);W7 .i64 (lsn-1)/\V3 (lsn-1) s.L.length/\∃(x:(Sto×Nat)),let q:=(Z1 x.1 x.2);let c:=(Y8 Y3 q.1.L p.1.L);let f:=(Y8 Y9 q.1.d.C p.1.d.C);let n:=(Y8 Z5 q.1.d.E p.1.d.E);let m:=q.1.fr.length;let j:=(Y8 Y6 q.1.d.keep p.1.d.keep);let u:=(0+m);let z:=(↑q.2.1:Int).toNat;let y:=(q.1.fr.getD (0+z-0) dz);(((yL s x.1)/\v.g=(x.2:Int)/\True)/\jJ x.1 x.2)/\((! q.2.2)=true->(yL q.1 p.1)/\false=p.2/\True)/\((! q.2.2)=false->(Le 0 0/\W6 0 q.1.fr.length 56)/\V3 (↑q.2.1:Int) u/\Lt (0+z) u/\∃(x_1:(Pg×Int×List UInt8×Int)),let b:=x_1.2;let w:=(x_1.1.sl.set b.1.toNat b.2.1);let r:=(setRow (X3 (λ(k:Nat)=>List.take 5 (List.drop (k*5) [])) 0 (X2 q.1.fr)) (0+z) 1 [T.int .i64 b.2.2,T.sl 1 w.length (Z5 w)]);(((y.pg.Q=x_1.1.Q/\(Y8 Z5 y.pg.sl x_1.1.sl)/\True)/\v.s=b.1/\v.a=b.2.1/\lsn=b.2.2/\True)/\x_1.1.sl.length=4/\0<=b.1/\b.1<(4:Int))/\Lt (0+z) u/\Lt (0+z) u/\((! y.D)=true->Lt (0+z) u/\Lt (0+z) u/\Le (0+u) u/\(n/\f/\q.1.d.A=p.1.d.A/\j/\q.1.ep=p.1.ep/\c/\q.1.S=p.1.S/\(0+m=p.1.fr.length/\Z6 u (setRow (setRow r (0+z) 3 [T.bool true]) (0+z) 4 [T.int .i64 lsn]) (X2 p.1.fr))/\q.1.J=p.1.J/\True)/\true=p.2/\True)/\((! y.D)=false->Le (0+u) u/\(n/\f/\q.1.d.A=p.1.d.A/\j/\q.1.ep=p.1.ep/\c/\q.1.S=p.1.S/\(0+m=p.1.fr.length/\Z6 u r (X2 p.1.fr))/\q.1.J=p.1.J/\True)/\true=p.2/\True))) ⟨Z4 (by omega),⟨by omega,by omega⟩,(s,(s.L.getD (lsn-1).toNat dz).g.toNat),⟨⟨zE _,by dsimp only;omega,trivial⟩,h,hno⟩,λhu=> ?_,λhu=> ?_⟩
 ·rw[e2 ((xP _).mp hu)];exact⟨zE _,Z9⟩
 ·have hu:=(yT _).mp hu;replace e1:=e1 hu;replace hf:=hf hu;rw[e1];dsimp only at*;generalize s.L.getD (lsn-1).toNat dz=r at*;generalize Z1 s r.g.toNat=A at*;obtain⟨a,k,up⟩:=A;dsimp only at*;obtain⟨hk,p1,p2,p3,p4⟩:=hf;rw[F5,show 0+k=k from G9 k,Nat.sub_zero]
  refine⟨⟨W4 _,by unfold W6;omega⟩,⟨by omega,by omega⟩,by unfold Lt;omega,((a.fr.getD k dz).pg,r.s,r.a,lsn),⟨⟨(by repeat' first|exact trivial|exact rfl|exact Z2 _ _|exact U2 _|exact V7|exact S8 _|exact W4 _|exact S7 _|refine And.intro ?_ ?_),rfl,rfl,rfl,trivial⟩,p3,g3,g4⟩,by unfold Lt;omega,by unfold Lt;omega,λhd=> ?_,λhd=> ?_⟩
  ·refine⟨by unfold Lt;omega,by unfold Lt;omega,by unfold Le;omega,⟨Z7,Z7,rfl,Z7,rfl,Z7,rfl,⟨by rw[G9];exact B1.symm,?_⟩,Z9⟩,Z9⟩
   rw[G9,tA,←hl];exact b0q hk (by simpa using hd)
  ·refine⟨by unfold Le;omega,⟨Z7,Z7,rfl,Z7,rfl,Z7,rfl,⟨by rw[G9];exact B1.symm,?_⟩,Z9⟩,Z9⟩
   rw[G9,tA,←hl];exact b4g hk (by simpa using hd)
end Go.Proofs.YtghgljelnhfihaaGreat

