/- A part of the proof. -/
import Derived.Test.YtghgljelnhfihaaGreatX1X2X3X4X5X6X7
namespace Go.Proofs.YtghgljelnhfihaaGreat
set_option maxRecDepth 100000
open Go.SS

def b85(l:List UInt8)(L:List (List UInt8)):Nat->Ann
 |0=>.one {i:Nat//i<=L.length} (λx=>⟨[(0,.osl 2 0 (l++W2 L x.1).length),(13,.osl 1 0 L.length),(14,.int .i64 L.length),(15,.int .i64 x.1)],[none,A1 L,some (.bys 5 (l++W2 L x.1))]⟩) (λx=>L.length-x.1) [.arr 0,.arr 1,.arr 3] [.arr 0,.arr 1,.at_ 0] (λ_=>Y5)
 |_=>.none
def a1g:Con:=.reff ⟨List UInt8×List (List UInt8),λx=>[.osl 0 0 x.1.length,.osl 1 0 x.2.length],λx=>[some (.bys 5 x.1),A1 x.2],λx=>.osl 2 0 (x.1++S2 x.2).length,λx=>[none,A1 x.2,some (.bys 5 (x.1++S2 x.2))],λx=>x.1.length<=1000/\w6 x.2⟩
theorem aC:GK 297 a1g:=gk Tryz.func297<|by
 rintro⟨l,L⟩ ⟨h1,h2,h3⟩;dsimp only at h1 h2 h3;have e0:List.take l.length l++List.take 1 (List.drop 0 (List.map P2 [IntKind.u8.wrap (L.length:Int)]))=l++W2 L 0:=by rw[nJ];rfl
 refine v8 gN Tryz.func297 (b85 l L) [[.arr 0,.arr 1,.arr 2]] (α:=let w:=(Y8 Z5 L L);let v:=(0=0/\L.length=L.length);let z:=(L.length:Int);W7 IntKind.u8 (IntKind.u8.wrap z)/\(Le 1 1/\Le l.length l.length/\W6 l.length 1 1)/\(∃(x:{i:Nat//i<=L.length}),((0=0/\l.length+1=(l++W2 L x.val).length)/\v/\z=z/\0=(x.val:Int)/\True)/\True/\w/\List.take l.length l++List.take 1 (List.drop 0 (List.map P2 [IntKind.u8.wrap z]))=l++W2 L x.val/\True)/\∀(x:{i:Nat//i<=L.length}),let u:=(x.val:Int);let j:=(0+u.toNat);let q:=(L.getD j []).length;let p:=(l++W2 L x.val).length;let r:=(List.take p (l++W2 L x.val)++List.take 1 (List.drop 0 (List.map P2 [IntKind.u8.wrap (↑q:Int)])));(decide (u<z)=true->V3 u L.length/\Lt j L.length/\W7 IntKind.u8 (IntKind.u8.wrap (↑q:Int))/\(Le 1 1/\Le p p/\W6 p 1 1)/\(Le (p+1) r.length/\W6 (p+1) q 1)/\W7 .i64 (u+1)/\∃(y:{i:Nat//i<=L.length}),(((0=0/\p+1+q=(l++W2 L y.val).length)/\v/\z=z/\u+1=(y.val:Int)/\True)/\True/\w/\List.take (p+1) r++L.getD j []=l++W2 L y.val/\True)/\Lt (L.length-y.val) (L.length-x.val))/\(decide (u<z)=false->((0=0/\p=(l++S2 L).length)/\True)/\True/\w/\l++W2 L x.val=l++S2 L/\True)) ⟨P1 _,⟨W4 _,W4 _,by unfold W6;omega⟩,⟨⟨0,S7 _⟩,⟨⟨rfl,by simp[W2]⟩,⟨rfl,rfl⟩,rfl,rfl,trivial⟩,trivial,⟨rfl,Z2 _ _⟩,e0,trivial⟩,λx=>⟨λhc=> ?_,λhc=> ?_⟩⟩
 ·have hlt:=X6 hc;have f1:=xW L h3 x.val (by omega)
  have f2:=h3 x.val hlt;rw[F5,G9];have hl:(l++W2 L x.val).length<=1100000:=by rw[K6];omega
  have e:List.take (l++W2 L x.val).length (l++W2 L x.val)++List.take 1 (List.drop 0 (List.map P2 [IntKind.u8.wrap ((L.getD x.val []).length:Int)]))=l++W2 L x.val++[j4 (L.getD x.val []).length]:=by
   rw[nJ];rfl
  rw[e];have e2:(l++W2 L x.val++[j4 (L.getD x.val []).length]).length=(l++W2 L x.val).length+1:=by rw[K6];rfl
  refine⟨X8 hlt,by unfold Lt;omega,P1 _,⟨W4 _,W4 _,by unfold W6;omega⟩,⟨by rw[e2];exact W4 _,by unfold W6;omega⟩,Z4 (by omega),⟨x.val+1,hlt⟩,⟨⟨⟨rfl,?_⟩,Z8,rfl,by dsimp only;omega,trivial⟩,trivial,⟨rfl,Z2 _ _⟩,?_,trivial⟩,V1.ext_lt hlt⟩
  ·simp only[W2,K6,List.length_cons,List.length_nil];omega
  ·rw[←e2,nJ];simp only[W2,List.append_assoc]
 ·have hx:x.val=L.length:=by have:=x.2;have:=X4 hc;omega
  rw[hx];exact⟨U3,trivial,Z7,Z9⟩
def b8e:Con:=.rel ⟨Nat,λn=>[.int .i64 n],λn=>.bys (E4 n),λn=>n<4294967296⟩
theorem a7m:GK 276 b8e:=gk Tryz.func276<|by
 intro(n:Nat) hn;have h8:Nn 8:=by unfold Nn;omega
 exact Q5 gN Tryz.func276 Y5 (α:=let p:=(n:Int).fdiv;let q:=(p (16777216:Int));Nn (24:Int)/\Nn (16:Int)/\Nn (8:Int)/\(W7 IntKind.u8 (IntKind.u8.wrap q)/\W7 IntKind.u8 (IntKind.u8.wrap (p (65536:Int)))/\W7 IntKind.u8 (IntKind.u8.wrap (p (256:Int)))/\W7 IntKind.u8 (IntKind.u8.wrap (n:Int)))/\Le 4 4/\List.take 4 (List.drop 0 (List.map P2 [IntKind.u8.wrap q,IntKind.u8.wrap (p (65536:Int)),IntKind.u8.wrap (p (256:Int)),IntKind.u8.wrap (n:Int)]))=E4 n) ⟨by unfold Nn;omega,by unfold Nn;omega,h8,⟨P1 _,P1 _,P1 _,P1 _⟩,W4 _,by unfold E4;rw[show(n:Int).fdiv 1=n by rw[Int.fdiv_one]];rfl⟩
def b0h:Con:=.eff xT
theorem a9q:GK 214 b0h:=gk Tryz.func214<|by
 intro args H res H' p h hp;unfold xT at h;split at h
 case h_2=>cases h
 rename_i k off n ty l;split at h
 ·skip
  simp only[W8,T5] at h;obtain⟨rfl,rfl,rfl⟩:=h;obtain⟨rfl,hl⟩:i4 n l:=hp;have e4:(E4 (t6 l)).length=4:=rfl;have hc:=bB l;refine vcE (gC sD (gC a7m gN)) Tryz.func214 Y5 (bs:=[false]) (α:=∃(x:(vZ IntKind.u32).ι),(Le (0+l.length) l.length/\(List.take l.length (List.drop 0 l)=x/\True)/\G4 x)/\∃(x_1:Nat),let p:=(List.take l.length l++E4 x_1);((IntKind.i64.wrap (↑(t6 x):Int)=(x_1:Int)/\True)/\x_1<4294967296)/\(Le l.length l.length/\W6 l.length 4 1)/\Le (0+(l.length+4)) p.length/\List.take (l.length+4) (List.drop 0 p)=l++E4 (t6 l)/\True/\True) ⟨l,⟨by unfold Le;omega,⟨by rw[List.drop_zero,nJ],trivial⟩,by unfold G4;omega⟩,t6 l,⟨⟨?_,trivial⟩,hc⟩,⟨W4 _,by unfold W6;omega⟩,?_,?_,trivial,trivial⟩
  ·rw[IntKind.wrap_i64];omega
  ·unfold Le;rw[nJ,K6,e4,G9];exact W4 _
  ·rw[nJ,List.drop_zero];exact List.take_of_length_le (by rw[K6,e4];exact W4 _)
 ·cases h
end Go.Proofs.YtghgljelnhfihaaGreat

namespace Go.Proofs.YtghgljelnhfihaaGreat
set_option maxRecDepth 100000
open Go.SS

def a29(r:Rec):List UInt8:=[P2 108,j4 r.e,j4 r.l,j4 r.t,j4 r.k,j4 r.p,j4 r.n,j4 r.g,j4 r.s]++S2 [r.b,r.a]
def Q3(r:Rec):List UInt8:=a29 r++E4 (t6 (a29 r))
def a4s(r:Rec):Prop:=r.b.length<=1000/\r.a.length<=1000
theorem sM(a b:List UInt8):Z6 2 (λk=>List.take 1 (List.drop (k*1) [T.str a,T.str b])) (Z5 [a,b]):=λi hi=>by
 match i,hi with
 |0,_=>rfl
 |1,_=>rfl
theorem fs2{a b:List UInt8}(h1:a.length<=1000)(h2:b.length<=1000):w6 [a,b]:=⟨by simp,λi hi=>by
 match i,hi with
 |0,_=>exact h1
 |1,_=>exact h2⟩
theorem b2l{r:Rec}(fs:w6 [r.b,r.a]):(a29 r).length<=1000000:=by
 have hl:=xW [r.b,r.a] fs.2 2 (W4 _);have hl:(S2 [r.b,r.a]).length<=2003:=hl;unfold a29;rw[K6];simp only[List.length_cons,List.length_nil];omega
def iI:Con:=.rel ⟨Rec,λr=>[.agg r.ts],λr=>.bys (Q3 r),a4s⟩
theorem jB:GK 221 iI:=gk Tryz.func221<|by
 rintro(r:Rec) ⟨h1,h2⟩;have fs:=fs2 h1 h2;exact Q5 (gC aC (gC a9q gN)) Tryz.func221 (b3c 9) (α:=let pr:=(1+1+1+1);let pg:=(List.map P2 [(108:Int)]);let pf:=(1+1+1+1+1);let pd:=(1+1+1+1+1+1+1+1);let pa:=(1+1+1+1+1+1+1);let i:=(1+1+1+1+1+1);let d:=(List.drop 0 (List.map P2 [IntKind.u8.wrap r.g]));let c:=(List.drop 0 (List.map P2 [IntKind.u8.wrap r.p]));let f:=(List.drop 0 (List.map P2 [IntKind.u8.wrap r.t]));let m:=(List.drop 0 (List.map P2 [IntKind.u8.wrap r.e]));let j:=(List.drop 0 (List.map P2 [IntKind.u8.wrap r.n]));let w:=(List.drop 0 (List.map P2 [IntKind.u8.wrap r.k]));let y:=(List.drop 0 (List.map P2 [IntKind.u8.wrap r.l]));let v:=(List.take 1 pg++List.take 1 m);let pc:=(List.take (1+1) v++List.take 1 y);let z:=(λ(k:Nat)=>List.take 1 (List.drop (k*1) [T.str r.b,T.str r.a]));let q:=(List.take (1+1+1) pc++List.take 1 f);let pb:=(List.take pr q++List.take 1 w);let u:=(List.take pf pb++List.take 1 c);let pe:=(List.take i u++List.take 1 j);W7 IntKind.u8 (108:Int)/\(true=true->V3 (0:Int) 8/\W7 IntKind.u8 (IntKind.u8.wrap r.e)/\(Le 1 1/\Le 1 1/\W6 1 1 1)/\W7 .i64 1/\(true=true->V3 (1:Int) 8/\W7 IntKind.u8 (IntKind.u8.wrap r.l)/\(Le 1 1/\Le (1+1) 2/\W6 (1+1) 1 1)/\W7 .i64 2/\(true=true->V3 (2:Int) 8/\W7 IntKind.u8 (IntKind.u8.wrap r.t)/\(Le 1 1/\Le (1+1+1) 3/\W6 (1+1+1) 1 1)/\W7 .i64 3/\(true=true->V3 (3:Int) 8/\W7 IntKind.u8 (IntKind.u8.wrap r.k)/\(Le 1 1/\Le pr 4/\W6 pr 1 1)/\W7 .i64 4/\(true=true->V3 (4:Int) 8/\W7 IntKind.u8 (IntKind.u8.wrap r.p)/\(Le 1 1/\Le pf 5/\W6 pf 1 1)/\W7 .i64 5/\(true=true->V3 (5:Int) 8/\W7 IntKind.u8 (IntKind.u8.wrap r.n)/\(Le 1 1/\Le i 6/\W6 i 1 1)/\W7 .i64 6/\(true=true->V3 (6:Int) 8/\W7 IntKind.u8 (IntKind.u8.wrap r.g)/\(Le 1 1/\Le pa 7/\W6 pa 1 1)/\W7 .i64 7/\(true=true->V3 (7:Int) 8/\W7 IntKind.u8 (IntKind.u8.wrap r.s)/\(Le 1 1/\Le pd 8/\W6 pd 1 1)/\W7 .i64 8/\(false=true->False)/\(false=false->∃(x:(List UInt8×List (List UInt8))),let ph:=(x.1++S2 x.2);(((0=0/\1+1+1+1+1+1+1+1+1=x.1.length)/\(0=0/\2=x.2.length)/\True)/\(List.take pd (List.take pa pe++List.take 1 d)++List.take 1 (List.drop 0 (List.map P2 [IntKind.u8.wrap r.s]))=x.1/\(2=x.2.length/\Z6 2 z (Z5 x.2))/\True)/\x.1.length<=1000/\w6 x.2)/\i4 ph.length ph/\x.1++S2 x.2++E4 (t6 ph)=Q3 r))/\(true=false->∃(x:(List UInt8×List (List UInt8))),let pi:=(x.1++S2 x.2);(((0=0/\1+1+1+1+1+1+1+1=x.1.length)/\(0=0/\2=x.2.length)/\True)/\(List.take pa pe++List.take 1 d=x.1/\(2=x.2.length/\Z6 2 z (Z5 x.2))/\True)/\x.1.length<=1000/\w6 x.2)/\i4 pi.length pi/\x.1++S2 x.2++E4 (t6 pi)=Q3 r))/\(true=false->∃(x:(List UInt8×List (List UInt8))),let pj:=(x.1++S2 x.2);(((0=0/\1+1+1+1+1+1+1=x.1.length)/\(0=0/\2=x.2.length)/\True)/\(List.take i u++List.take 1 j=x.1/\(2=x.2.length/\Z6 2 z (Z5 x.2))/\True)/\x.1.length<=1000/\w6 x.2)/\i4 pj.length pj/\x.1++S2 x.2++E4 (t6 pj)=Q3 r))/\(true=false->∃(x:(List UInt8×List (List UInt8))),let pk:=(x.1++S2 x.2);(((0=0/\1+1+1+1+1+1=x.1.length)/\(0=0/\2=x.2.length)/\True)/\(List.take pf pb++List.take 1 c=x.1/\(2=x.2.length/\Z6 2 z (Z5 x.2))/\True)/\x.1.length<=1000/\w6 x.2)/\i4 pk.length pk/\x.1++S2 x.2++E4 (t6 pk)=Q3 r))/\(true=false->∃(x:(List UInt8×List (List UInt8))),let pm:=(x.1++S2 x.2);(((0=0/\1+1+1+1+1=x.1.length)/\(0=0/\2=x.2.length)/\True)/\(List.take pr q++List.take 1 w=x.1/\(2=x.2.length/\Z6 2 z (Z5 x.2))/\True)/\x.1.length<=1000/\w6 x.2)/\i4 pm.length pm/\x.1++S2 x.2++E4 (t6 pm)=Q3 r))/\(true=false->∃(x:(List UInt8×List (List UInt8))),let pn:=(x.1++S2 x.2);(((0=0/\1+1+1+1=x.1.length)/\(0=0/\2=x.2.length)/\True)/\(List.take (1+1+1) pc++List.take 1 f=x.1/\(2=x.2.length/\Z6 2 z (Z5 x.2))/\True)/\x.1.length<=1000/\w6 x.2)/\i4 pn.length pn/\x.1++S2 x.2++E4 (t6 pn)=Q3 r))/\(true=false->∃(x:(List UInt8×List (List UInt8))),let po:=(x.1++S2 x.2);(((0=0/\1+1+1=x.1.length)/\(0=0/\2=x.2.length)/\True)/\(List.take (1+1) v++List.take 1 y=x.1/\(2=x.2.length/\Z6 2 z (Z5 x.2))/\True)/\x.1.length<=1000/\w6 x.2)/\i4 po.length po/\x.1++S2 x.2++E4 (t6 po)=Q3 r))/\(true=false->∃(x:(List UInt8×List (List UInt8))),let pp:=(x.1++S2 x.2);(((0=0/\1+1=x.1.length)/\(0=0/\2=x.2.length)/\True)/\(List.take 1 pg++List.take 1 m=x.1/\(2=x.2.length/\Z6 2 z (Z5 x.2))/\True)/\x.1.length<=1000/\w6 x.2)/\i4 pp.length pp/\x.1++S2 x.2++E4 (t6 pp)=Q3 r))/\(true=false->∃(x:(List UInt8×List (List UInt8))),let pq:=(x.1++S2 x.2);(((0=0/\1=x.1.length)/\(0=0/\2=x.2.length)/\True)/\(List.map P2 [(108:Int)]=x.1/\(2=x.2.length/\Z6 2 z (Z5 x.2))/\True)/\x.1.length<=1000/\w6 x.2)/\i4 pq.length pq/\x.1++S2 x.2++E4 (t6 pq)=Q3 r)) ⟨(pG _).2 (by omega),λ_=>⟨by unfold V3;omega,P1 _,⟨W4 _,W4 _,by unfold W6;omega⟩,Z4 (by omega),λ_=>⟨by unfold V3;omega,P1 _,⟨W4 _,W4 _,by unfold W6;omega⟩,Z4 (by omega),λ_=>⟨by unfold V3;omega,P1 _,⟨W4 _,W4 _,by unfold W6;omega⟩,Z4 (by omega),λ_=>⟨by unfold V3;omega,P1 _,⟨W4 _,W4 _,by unfold W6;omega⟩,Z4 (by omega),λ_=>⟨by unfold V3;omega,P1 _,⟨W4 _,W4 _,by unfold W6;omega⟩,Z4 (by omega),λ_=>⟨by unfold V3;omega,P1 _,⟨W4 _,W4 _,by unfold W6;omega⟩,Z4 (by omega),λ_=>⟨by unfold V3;omega,P1 _,⟨W4 _,W4 _,by unfold W6;omega⟩,Z4 (by omega),λ_=>⟨by unfold V3;omega,P1 _,⟨W4 _,W4 _,by unfold W6;omega⟩,Z4 (by omega),(λh=>by cases h),λ_=>⟨([P2 108,j4 r.e,j4 r.l,j4 r.t,j4 r.k,j4 r.p,j4 r.n,j4 r.g,j4 r.s],[r.b,r.a]),⟨⟨Z8,U3⟩,⟨rfl,⟨rfl,sM _ _⟩,trivial⟩,by simp,fs⟩,⟨rfl,b2l fs⟩,rfl⟩⟩,λh=>by cases h⟩,λh=>by cases h⟩,λh=>by cases h⟩,λh=>by cases h⟩,λh=>by cases h⟩,λh=>by cases h⟩,λh=>by cases h⟩,λh=>by cases h⟩
noncomputable def bC:Con:=.rfz xV
theorem gU:GK 310 bC:=gk Tryz.func310<|l01Fields_ok.1
def a4D:Con:=.rel ⟨Rec,λr=>[.agg r.ts],λr=>.bys (Q3 r),a4s⟩
theorem a2J:GK 251 a4D:=gk Tryz.func251<|by
 rintro(r:Rec) ⟨h1,h2⟩;have fs:=fs2 h1 h2;have hl:=xW [r.b,r.a] fs.2 2 (W4 _);have hl:(S2 [r.b,r.a]).length<=2003:=hl;refine Q5 (gC gU (gC vS gN)) Tryz.func251 Y5 (α:=let q:=(List.map P2 [(108:Int),IntKind.u8.wrap r.e,IntKind.u8.wrap r.l,IntKind.u8.wrap r.t,IntKind.u8.wrap r.k,IntKind.u8.wrap r.p,IntKind.u8.wrap r.n,IntKind.u8.wrap r.g,IntKind.u8.wrap r.s]);(W7 IntKind.u8 (108:Int)/\W7 IntKind.u8 (IntKind.u8.wrap r.e)/\W7 IntKind.u8 (IntKind.u8.wrap r.l)/\W7 IntKind.u8 (IntKind.u8.wrap r.t)/\W7 IntKind.u8 (IntKind.u8.wrap r.k)/\W7 IntKind.u8 (IntKind.u8.wrap r.p)/\W7 IntKind.u8 (IntKind.u8.wrap r.n)/\W7 IntKind.u8 (IntKind.u8.wrap r.g)/\W7 IntKind.u8 (IntKind.u8.wrap r.s))/\∃(x:xV.ι),let z:=(List.take 9 q++S2 x);(Le 2 2/\((2=List.length x/\Z6 2 (λ(k:Nat)=>List.take 1 (List.drop (k*1) [T.str r.b,T.str r.a])) (Z5 x))/\True)/\w6 x)/\(Le 9 9/\W6 9 (S2 x).length 1)/\i4 (9+(S2 x).length) z/\List.take 9 q++S2 x++E4 (t6 z)=Q3 r) ⟨⟨(pG _).2 (by omega),P1 _,P1 _,P1 _,P1 _,P1 _,P1 _,P1 _,P1 _⟩,[r.b,r.a],⟨W4 _,⟨⟨rfl,sM _ _⟩,trivial⟩,fs⟩,⟨W4 _,by unfold W6;omega⟩,?_,?_⟩
 ·exact⟨by rw[K6];rfl,b2l fs⟩
 ·rfl
end Go.Proofs.YtghgljelnhfihaaGreat

namespace Go.Proofs.YtghgljelnhfihaaGreat
set_option maxRecDepth 100000
open Go.SS

def k6(sec:List (List UInt8))(C:List Pend)(Q:Nat->Bool):Nat->List (List UInt8)
 |0=>sec
 |i+1=>if Q i=true then(k6 sec C Q i).set (C.getD i dz).at_.toNat (C.getD i dz).d else k6 sec C Q i
theorem F2(sec:List (List UInt8))(C:List Pend)(Q:Nat->Bool):∀i,(k6 sec C Q i).length=sec.length
 |0=>rfl
 |i+1=>by
  unfold k6;split
  ·rw[B1,F2 sec C Q i]
  ·exact F2 sec C Q i
theorem b61{sec:List (List UInt8)}{C:List Pend}{Q:Nat->Bool}{i:Nat}(h:Q i=true):k6 sec C Q (i+1)=(k6 sec C Q i).set (C.getD i dz).at_.toNat (C.getD i dz).d:=by
 conv=>lhs;unfold k6
 rw[if_pos h]
theorem b66{sec:List (List UInt8)}{C:List Pend}{Q:Nat->Bool}{i:Nat}(h:Q i=false):k6 sec C Q (i+1)=k6 sec C Q i:=by
 conv=>lhs;unfold k6
 rw[if_neg (by rw[h];simp)]
def kp(K:List Int)(i:Nat):Bool:=decide (i<K.length)&&(K.getD i 0 !=0)
def wrD(d:Dsk)(at_:Int)(t:List UInt8):Dsk:=⟨d.E,d.C++[⟨at_,t⟩],d.A,d.keep⟩
def Sto.sd(s:Sto)(d:Dsk):Sto:=⟨d,s.ep,s.L,s.S,s.fr,s.J⟩
def crD(d:Dsk)(K:List Int):Dsk:=⟨k6 d.E d.C (kp K) d.C.length,[],false,[]⟩
def V6(d:Dsk):Dsk×Bool:=if d.A=true then(crD d d.keep,false) else(⟨k6 d.E d.C (λ_=>true) d.C.length,[],d.A,d.keep⟩,true)
def iE(d:Dsk):Prop:=∀i,i<d.C.length->0<=(d.C.getD i dz).at_/\(d.C.getD i dz).at_<d.E.length
theorem a1B(L:List Pend)(p:Pend):Z6 (L.length+1) (X3 (Y9 L) L.length λk=>List.take 2 (List.drop (k*2) p.ts)) (Y9 (L++[p])):=by
 intro i hi;unfold X3 Y9;by_cases h:i<L.length
 ·rw[uY h,P8,P8,tX h]
 ·have:i=L.length:=by omega
  subst this;rw[sW h];have:(L++[p]).getD L.length dz=p:=by rw[P8,rK (W4 _)];simp
  rw[this];simp[Pend.ts]
theorem mX{L:List (List UInt8)}{n:Nat}{t:List UInt8}(j:Nat)(hj:j<L.length):setRow (Z5 L) n 0 [.str t] j=Z5 (L.set n t) j:=by
 by_cases h:j=n
 ·subst h;rw[lP (by simp[Z5])]
  simp[Z5,j_j hj]
 ·rw[M8 (by simp[Z5]) h]
  simp[Z5,aP (Ne.symm h)]
theorem mQ{sec:List (List UInt8)}{C:List Pend}{Q:Nat->Bool}{i:Nat}(h:Q i=true):Z6 sec.length (setRow (Z5 (k6 sec C Q i)) (0+(C.getD i dz).at_.toNat) 0 [.str (C.getD i dz).d]) (Z5 (k6 sec C Q (i+1))):=λj hj=>by
 rw[b61 h,G9];exact mX j (by rw[F2];exact hj)
def Sto.bxC(s:Sto)(v:Nat):Y1:=[sO (s.tn 1 6 3 4 5),A1 s.d.E,none,x7 s.d.keep,b9 s.L,vL v s.fr s.fr.length,C8 s.d.C]
def b6r:Con:=.reff ⟨Sto×Int×List UInt8×Nat,λx=>[.ref 0 0 0,.int .i64 x.2.1,.str x.2.2.1],λx=>x.1.bx x.2.2.2,λ_=>.tup [],λx=>(x.1.sd (wrD x.1.d x.2.1 x.2.2.1)).bxC x.2.2.2,λx=>x.1.d.C.length<=1048576⟩
theorem a2B:GK 129 b6r:=gk Tryz.func129<|by
 rintro⟨s,at_,t,v⟩ (h:s.d.C.length<=1048576);have hl:s.d.C.length+1=(s.d.C++[(⟨at_,t⟩:Pend)]).length:=by simp
 exact v8 gN Tryz.func129 Y5 [[.box 0,.arr 1,.arr 2,.arr 3,.arr 4,.arr 5,.arr 7]] (α:=let p:=(s.d.C++[Pend.mk at_ t]);(Le 1 1/\Le s.d.C.length s.d.C.length/\W6 s.d.C.length 1 24)/\(True/\True)/\(1=1/\1=1/\(0=0/\s.d.E.length=s.d.E.length)/\(0=0/\s.d.C.length+1=p.length)/\s.d.A=s.d.A/\(0=0/\s.d.keep.length=s.d.keep.length)/\s.ep=s.ep/\(0=0/\s.L.length=s.L.length)/\s.S=s.S/\(0=0/\s.fr.length=s.fr.length)/\s.J=s.J/\True)/\(Y8 Z5 s.d.E s.d.E)/\True/\(Y8 Y6 s.d.keep s.d.keep)/\(Y8 Y3 s.L s.L)/\(v=v/\s.fr.length=s.fr.length/\T9 s.fr.length (Y2 s.fr) (Y2 s.fr))/\(s.d.C.length+1=p.length/\Z6 (s.d.C.length+1) (X3 (Y9 s.d.C) s.d.C.length λ(k:Nat)=>List.take 2 (List.drop (k*2) [T.int .i64 at_,T.str t])) (Y9 p))/\True) ⟨⟨W4 _,W4 _,by unfold W6;omega⟩,A7,⟨rfl,rfl,Z8,⟨rfl,hl⟩,rfl,Z8,rfl,Z8,rfl,Z8,Z9⟩,Z7,trivial,Z7,Z7,Q2,⟨hl,a1B s.d.C ⟨at_,t⟩⟩,trivial⟩
def Sto.bxX(s:Sto)(v:Nat)(K:List Int):Y1:=[sO (s.tn 1 7 8 4 5),A1 s.d.E,none,none,b9 s.L,vL v s.fr s.fr.length,x7 K,C8 s.d.C,x7 s.d.keep]
def b4k:Con:=.reff ⟨Sto×List Int×Nat,λx=>[.ref 0 0 0,.osl 6 0 x.2.1.length],λx=>x.1.bx x.2.2++[x7 x.2.1],λ_=>.tup [],λx=>(x.1.sd (crD x.1.d x.2.1)).bxX x.2.2 x.2.1,λx=>nD x.1.d/\iE x.1.d/\x.2.1.length<=1048576⟩
def b4X(s:Sto)(K:List Int)(v:Nat):Nat->Ann
 |0=>.one {i:Nat//i<=s.d.C.length} (λx=>⟨[(0,.ref 0 0 0),(1,.osl 6 0 K.length),(9,.osl 2 0 s.d.C.length),(10,.int .i64 s.d.C.length),(11,.int .i64 x.1)],[sO (s.tn 1 2 3 4 5),some (.arr true 0 1 s.d.E.length (Z5 (k6 s.d.E s.d.C (kp K) x.1))),C8 s.d.C,x7 s.d.keep,b9 s.L,vL v s.fr s.fr.length,x7 K]⟩) (λx=>s.d.C.length-x.1) [.box 0,.arr 1,.arr 2,.arr 3,.arr 4,.arr 5,.arr 6] [.box 0,.arr 1,.arr 2,.arr 3,.arr 4,.arr 5,.arr 6] (λ_=>Y5)
 |_=>.none
theorem b0t:GK 124 b4k:=gk Tryz.func124<|by
 rintro⟨s,K,v⟩ ⟨⟨h1,h2,h3⟩,h4,h5⟩;dsimp only at h1 h2 h3 h4 h5;refine v8 gN Tryz.func124 (b4X s K v) [[.nilC 0 1 0 2,.nilC 0 3 0 1,.box 0,.arr 1,.arr 2,.arr 3,.arr 4,.arr 5,.arr 6,.arr 7,.arr 8]] (α:=let l:=(Y8 Y6 K K);let b:=(1=1/\1=1/\oE s s);let a:=(0=0/\0=0);let g:=(Y8 Y9 s.d.C s.d.C);let f:=(Y8 Y3 s.L s.L);let n:=(0=0/\K.length=K.length);let m:=(Y8 Y6 s.d.keep s.d.keep);let j:=(0=0/\s.d.C.length=s.d.C.length);let u:=(k6 s.d.E s.d.C (kp K) s.d.C.length);let r:=(s.d.C.length:Int);let p:=(v=v/\s.fr.length=s.fr.length/\T9 s.fr.length (Y2 s.fr) (Y2 s.fr));(∃(x:{i:Nat//i<=s.d.C.length}),(a/\n/\j/\r=r/\0=(x.val:Int)/\True)/\b/\(s.d.E.length=s.d.E.length/\Z6 s.d.E.length (Z5 s.d.E) (Z5 (k6 s.d.E s.d.C (kp K) x.val)))/\g/\m/\f/\p/\l/\True)/\∀(x:{i:Nat//i<=s.d.C.length}),let w:=(Z5 (k6 s.d.E s.d.C (kp K) x.val));let q:=(x.val:Int);let t:=(0+q.toNat);let c:=(q<(K.length:Int));let k:=(decide c&&K.getD t (0:Int) !=0);let z:=(s.d.C.getD t dz);(decide (q<r)=true->V3 q s.d.C.length/\Lt t s.d.C.length/\(decide c=true->V3 q K.length)/\(decide c=true->Lt t K.length)/\(k=true->V3 z.at_ s.d.E.length/\Lt (0+z.at_.toNat) s.d.E.length/\W7 .i64 (q+1)/\∃(y:{i:Nat//i<=s.d.C.length}),((a/\n/\j/\r=r/\q+1=(y.val:Int)/\True)/\b/\(s.d.E.length=s.d.E.length/\Z6 s.d.E.length (setRow w (0+z.at_.toNat) 0 [T.str z.d]) (Z5 (k6 s.d.E s.d.C (kp K) y.val)))/\g/\m/\f/\p/\l/\True)/\Lt (s.d.C.length-y.val) (s.d.C.length-x.val))/\(k=false->W7 .i64 (q+1)/\∃(y:{i:Nat//i<=s.d.C.length}),((a/\n/\j/\r=r/\q+1=(y.val:Int)/\True)/\b/\(s.d.E.length=s.d.E.length/\Z6 s.d.E.length w (Z5 (k6 s.d.E s.d.C (kp K) y.val)))/\g/\m/\f/\p/\l/\True)/\Lt (s.d.C.length-y.val) (s.d.C.length-x.val)))/\(decide (q<r)=false->(True/\True)/\(1=1/\1=1/\(0=0/\s.d.E.length=u.length)/\a/\false=false/\a/\s.ep=s.ep/\(0=0/\s.L.length=s.L.length)/\s.S=s.S/\(0=0/\s.fr.length=s.fr.length)/\s.J=s.J/\True)/\(s.d.E.length=u.length/\Z6 s.d.E.length w (Z5 u))/\True/\True/\f/\p/\l/\(0=0/\Z6 0 (λ(x:Nat)=>[]) (Y9 []))/\(0=0/\Z6 0 (λ(x:Nat)=>[]) (Y6 []))/\True)) ⟨⟨⟨0,S7 _⟩,⟨Z8,Z8,Z8,rfl,Z9⟩,⟨rfl,rfl,Z8,Z8,rfl,Z8,rfl,Z8,rfl,Z8,Z9⟩,Z7,Z7,Z7,Z7,Q2,X5⟩,λx=>⟨λhc=> ?_,λhc=> ?_⟩⟩
 ·have hlt:=X6 hc;have ek:(decide ((x.val:Int)<(K.length:Int))&&K.getD x.val 0 !=0)=kp K x.val:=by
   unfold kp;rw[show decide ((x.val:Int)<(K.length:Int))=decide (x.val<K.length) from decide_eq_decide.2 (by omega)]
  rw[F5,show 0+x.val=x.val by omega,ek]
  have ha:=h4 x.val hlt;refine⟨X8 hlt,hlt,λh=>X8 (X6 h),λh=>X6 h,λhk=> ?_,λhk=> ?_⟩
  ·exact⟨ha,by unfold Lt;omega,Z4 (by omega),⟨x.val+1,hlt⟩,⟨⟨Z8,Z8,Z8,rfl,by dsimp only;omega,trivial⟩,⟨rfl,rfl,⟨rfl,rfl⟩,⟨rfl,rfl⟩,rfl,⟨rfl,rfl⟩,rfl,⟨rfl,rfl⟩,rfl,⟨rfl,rfl⟩,rfl,trivial⟩,⟨rfl,mQ hk⟩,⟨rfl,Z2 _ _⟩,⟨rfl,Z2 _ _⟩,⟨rfl,Z2 _ _⟩,⟨rfl,rfl,U2 _⟩,⟨rfl,Z2 _ _⟩,trivial⟩,V1.ext_lt hlt⟩
  ·exact⟨Z4 (by omega),⟨x.val+1,hlt⟩,⟨⟨Z8,Z8,Z8,rfl,by dsimp only;omega,trivial⟩,⟨rfl,rfl,⟨rfl,rfl⟩,⟨rfl,rfl⟩,rfl,⟨rfl,rfl⟩,rfl,⟨rfl,rfl⟩,rfl,⟨rfl,rfl⟩,rfl,trivial⟩,⟨rfl,λj _=>by dsimp only;rw[b66 hk]⟩,⟨rfl,Z2 _ _⟩,⟨rfl,Z2 _ _⟩,⟨rfl,Z2 _ _⟩,⟨rfl,rfl,U2 _⟩,⟨rfl,Z2 _ _⟩,trivial⟩,V1.ext_lt hlt⟩
 ·have hx:x.val=s.d.C.length:=by have:=x.2;have:=X4 hc;omega
  rw[hx];have hl:=(F2 s.d.E s.d.C (kp K) s.d.C.length).symm;exact⟨A7,⟨rfl,rfl,⟨rfl,hl⟩,Z8,rfl,Z8,rfl,Z8,rfl,Z8,Z9⟩,⟨hl,Z2 _ _⟩,trivial,trivial,Z7,Q2,Z7,⟨rfl,V7⟩,⟨rfl,V7⟩,trivial⟩
def Sto.bxY(s:Sto)(v:Nat):Y1:=[sO (s.tn 1 6 7 4 5),A1 s.d.E,none,none,b9 s.L,vL v s.fr s.fr.length,C8 s.d.C,x7 s.d.keep]
def b88:Con:=.reff ⟨Sto×Nat,λx=>[.ref 0 0 0],λx=>x.1.bx x.2,λx=>.bool (V6 x.1.d).2,λx=>(x.1.sd ((V6 x.1.d).1)).bxY x.2,λx=>nD x.1.d/\iE x.1.d⟩
def b77(s:Sto)(v:Nat):Nat->Ann
 |0=>.one {i:Nat//i<=s.d.C.length} (λx=>⟨[(0,.ref 0 0 0),(19,.osl 2 0 s.d.C.length),(20,.int .i64 s.d.C.length),(21,.int .i64 x.1)],[sO (s.tn 1 2 3 4 5),some (.arr true 0 1 s.d.E.length (Z5 (k6 s.d.E s.d.C (λ_=>true) x.1))),C8 s.d.C,x7 s.d.keep,b9 s.L,vL v s.fr s.fr.length]⟩) (λx=>s.d.C.length-x.1) [.box 0,.arr 1,.arr 2,.arr 3,.arr 4,.arr 5] [.box 0,.arr 1,.arr 2,.arr 3,.arr 4,.arr 5] (λ_=>Y5)
 |_=>.none
theorem a6f:GK 121 b88:=gk Tryz.func121<|by
 rintro⟨s,v⟩ ⟨⟨h1,h2,h3⟩,h4⟩;dsimp only at h1 h2 h3 h4;refine v8 (gC a1P (gC b0t gN)) Tryz.func121 (b77 s v) [[.box 0,.arr 1,.arr 2,.arr 3,.arr 4,.arr 5,.arr 7,.arr 8],[.nilC 0 1 0 2,.box 0,.arr 1,.arr 2,.arr 3,.arr 4,.arr 5,.arr 6,.arr 3]] (α:=let t:=(Y8 Y9 s.d.C s.d.C);let c:=(Y2 s.fr);let b:=(Y8 Y6 s.d.keep s.d.keep);let g:=(Y8 Y3 s.L s.L);let f:=(0=0/\s.d.C.length=s.d.C.length);let n:=(V6 s.d).1.E.length;let m:=(V6 s.d).1.keep.length;let w:=(V6 s.d).1.C.length;let r:=(s.d.C.length:Int);let p:=(v=v/\s.fr.length=s.fr.length/\T9 s.fr.length c c);(s.d.A=true->∃(x:(List Int)),(Le (0+s.d.keep.length) s.d.keep.length/\((s.d.keep.length=List.length x/\Z6 s.d.keep.length (Y6 s.d.keep) (Y6 x))/\True)/\List.length x<=1048576)/\∃(x_1:(Sto×List Int×Nat)),let a:=x_1.2.1.length;let z:=x_1.1;let l:=z.fr.length;let k:=(k6 z.d.E z.d.C (kp x_1.2.1) z.d.C.length);(((0=0/\0=0)/\(0=0/\List.length x=a)/\True)/\((1=1/\1=1/\oE s z)/\(Y8 Z5 s.d.E z.d.E)/\(Y8 Y9 s.d.C z.d.C)/\(Y8 Y6 s.d.keep z.d.keep)/\(Y8 Y3 s.L z.L)/\(v=x_1.2.2/\s.fr.length=l/\T9 s.fr.length c (Y2 z.fr))/\(List.length x=a/\Z6 (List.length x) (Y6 x) (Y6 x_1.2.1))/\True)/\nD z.d/\iE z.d/\a<=1048576)/\(false=(V6 s.d).2/\True)/\(1=1/\1=1/\(0=0/\k.length=n)/\(0=0/\0=w)/\false=(V6 s.d).1.A/\(0=0/\0=m)/\z.ep=s.ep/\(0=0/\z.L.length=s.L.length)/\z.S=s.S/\(0=0/\l=s.fr.length)/\z.J=s.J/\True)/\(Y8 Z5 k (V6 s.d).1.E)/\True/\True/\(Y8 Y3 z.L s.L)/\(x_1.2.2=v/\l=s.fr.length/\T9 z.fr.length (Y2 z.fr) c)/\(0=w/\Z6 0 (Y9 []) (Y9 (V6 s.d).1.C))/\(0=m/\Z6 0 (Y6 []) (Y6 (V6 s.d).1.keep))/\True)/\(s.d.A=false->(∃(x:{i:Nat//i<=s.d.C.length}),((0=0/\0=0)/\f/\r=r/\0=(x.val:Int)/\True)/\(1=1/\1=1/\oE s s)/\(s.d.E.length=s.d.E.length/\Z6 s.d.E.length (Z5 s.d.E) (Z5 (k6 s.d.E s.d.C (λ(x:Nat)=>true) x.val)))/\t/\b/\g/\p/\True)/\∀(x:{i:Nat//i<=s.d.C.length}),let j:=(Z5 (k6 s.d.E s.d.C (λ(x:Nat)=>true) x.val));let u:=(x.val:Int);let q:=(s.d.C.getD (0+u.toNat) dz);(decide (u<r)=true->V3 u s.d.C.length/\Lt (0+u.toNat) s.d.C.length/\V3 q.at_ s.d.E.length/\Lt (0+q.at_.toNat) s.d.E.length/\W7 .i64 (u+1)/\∃(y:{i:Nat//i<=s.d.C.length}),(((0=0/\0=0)/\f/\r=r/\u+1=(y.val:Int)/\True)/\(1=1/\1=1/\oE s s)/\(s.d.E.length=s.d.E.length/\Z6 s.d.E.length (setRow j (0+q.at_.toNat) 0 [T.str q.d]) (Z5 (k6 s.d.E s.d.C (λ(x:Nat)=>true) y.val)))/\t/\b/\g/\p/\True)/\Lt (s.d.C.length-y.val) (s.d.C.length-x.val))/\(decide (u<r)=false->(true=(V6 s.d).2/\True)/\(1=1/\1=1/\(0=0/\s.d.E.length=n)/\(0=0/\0=w)/\s.d.A=(V6 s.d).1.A/\(0=0/\s.d.keep.length=m)/\s.ep=s.ep/\(0=0/\s.L.length=s.L.length)/\s.S=s.S/\(0=0/\s.fr.length=s.fr.length)/\s.J=s.J/\True)/\(s.d.E.length=n/\Z6 s.d.E.length j (Z5 (V6 s.d).1.E))/\True/\True/\g/\p/\(0=w/\Z6 0 (λ(x:Nat)=>[]) (Y9 (V6 s.d).1.C))/\(Y8 Y6 s.d.keep (V6 s.d).1.keep)/\True))) ⟨λha=> ?_,λha=> ?_⟩
 ·have e:V6 s.d=(crD s.d s.d.keep,false):=by unfold V6;rw[if_pos ha]
  rw[e];exact⟨s.d.keep,⟨S8 _,X5,h3⟩,(s,s.d.keep,v),⟨⟨Z8,U3⟩,⟨⟨rfl,rfl,Z8,Z8,rfl,Z8,rfl,Z8,rfl,Z8,Z9⟩,Z7,Z7,Z7,Z7,Q2,X5⟩,⟨h1,h2,h3⟩,h4,h3⟩,Z9,⟨rfl,rfl,Z8,Z8,rfl,Z8,rfl,Z8,rfl,Z8,Z9⟩,Z7,trivial,trivial,Z7,Q2,⟨rfl,V7⟩,⟨rfl,V7⟩,trivial⟩
 ·have e:V6 s.d=(⟨k6 s.d.E s.d.C (λ_=>true) s.d.C.length,[],s.d.A,s.d.keep⟩,true):=by unfold V6;rw[if_neg (by rw[ha];simp)]
  rw[e];refine⟨⟨⟨0,S7 _⟩,⟨Z8,Z8,rfl,Z9⟩,⟨rfl,rfl,Z8,Z8,rfl,Z8,rfl,Z8,rfl,Z8,Z9⟩,Z7,Z7,Z7,Z7,Q2,trivial⟩,λx=>⟨λhc=> ?_,λhc=> ?_⟩⟩
  ·have hlt:=X6 hc;rw[F5,show 0+x.val=x.val by omega]
   have ha:=h4 x.val hlt;exact⟨X8 hlt,hlt,ha,by unfold Lt;omega,Z4 (by omega),⟨x.val+1,hlt⟩,⟨⟨Z8,Z8,rfl,by dsimp only;omega,trivial⟩,⟨rfl,rfl,⟨rfl,rfl⟩,⟨rfl,rfl⟩,rfl,⟨rfl,rfl⟩,rfl,⟨rfl,rfl⟩,rfl,⟨rfl,rfl⟩,rfl,trivial⟩,⟨rfl,mQ (Q:=λ_=>true) rfl⟩,Z7,Z7,Z7,Q2,trivial⟩,V1.ext_lt hlt⟩
  ·have hx:x.val=s.d.C.length:=by have:=x.2;have:=X4 hc;omega
   rw[hx];have hl:=(F2 s.d.E s.d.C (λ_=>true) s.d.C.length).symm
   exact⟨Z9,⟨rfl,rfl,⟨rfl,hl⟩,Z8,rfl,Z8,rfl,Z8,rfl,Z8,Z9⟩,⟨hl,Z2 _ _⟩,trivial,trivial,Z7,Q2,⟨rfl,V7⟩,X5⟩
end Go.Proofs.YtghgljelnhfihaaGreat

namespace Go.Proofs.YtghgljelnhfihaaGreat
set_option maxRecDepth 100000
open Go.SS

theorem b7p{hi lsn:Int}{s:RdSt}:∀n,(RdSt.go hi lsn s n).ok=true->s.ok=true
 |0,h=>h
 |n+1,h=>by
  refine b7p (hi:=hi) (lsn:=lsn) n ?_
  simp only[RdSt.go,RdSt.step,L3] at h;exact h.1.1
theorem b3f{hi lsn:Int}{s:RdSt}:∀n,s.l.length<=(RdSt.go hi lsn s n).l.length+2*n
 |0=>by simp[RdSt.go]
 |n+1=>by
  have:=b3f (hi:=hi) (lsn:=lsn) (s:=s) n;simp only[RdSt.go,RdSt.step,List.length_drop];omega
theorem b2K{most lo hi lsn:Int}{l:List UInt8}{fl:Bool}(h:(O7 most lo hi lsn l fl).ok=true):(l.length:Int)<=(O7 most lo hi lsn l fl).l.length+2*most+1:=by
 have h1:=b7p _ h;have h2:=b3f (hi:=hi) (lsn:=lsn) (s:=wL most lo l fl) (numR l).toNat;have h3:numR l<=most:=C7 h1;have h4:=(w9 l).1;have h5:(wL most lo l fl).l.length=l.length-1:=by simp[wL]
 have h6:(O7 most lo hi lsn l fl).l.length=(RdSt.go hi lsn (wL most lo l fl) (numR l).toNat).l.length:=rfl;omega
theorem cJ{a:List UInt8}{lsn:Int}(h:a2m a lsn=true):a.length<=38:=by
 unfold a2m at h;simp only[L3] at h;have h1:=b2K h.1.1.1;have h2:=b2K h.1.2.1;have h3:=List.isEmpty_iff.1 h.2.2;rw[h3] at h2;simp at h2;omega
theorem a5D{r:Rec}(h:R1 r=true):a4s r:=by
 have h:=(R7 r).1 h;unfold F8 at h;obtain⟨_,_,_,_,_,_,_,_,_,_,_,_,_,_,hb,h6,h7⟩:=h;refine⟨by omega,?_⟩
 by_cases hk:r.k=6
 ·have:=cJ (h6 hk).2.2.2.2.2.2;omega
 ·have:=(h7 hk).2.2.1;omega
def sX(s:Sto)(i:Nat):Pend:=⟨9+(s.L.getD (s.S.toNat+i) dz).l-1,Q3 (s.L.getD (s.S.toNat+i) dz)⟩
def sP(s:Sto)(n:Nat):Dsk:=⟨s.d.E,s.d.C++(List.range n).map (sX s),s.d.A,s.d.keep⟩
def O0(s:Sto)(lsn:Int):Nat:=lsn.toNat-s.S.toNat
def X7(s:Sto)(lsn:Int):Sto×Bool:=if lsn<=s.S then(s,true) else
 (⟨(V6 (sP s (O0 s lsn))).1,s.ep,s.L,if(V6 (sP s (O0 s lsn))).2=true then lsn else s.S,s.fr,s.J⟩,(V6 (sP s (O0 s lsn))).2)
def wU(s:Sto)(lsn:Int):Prop:=nD s.d/\s.d.C.length<=1000/\iE s.d/\s.d.E.length=69/\0<=s.S/\s.S<=s.L.length/\s.L.length<=60/\lsn<=s.L.length/\∀i,i<s.L.length->(s.L.getD i dz).l=(i:Int)+1/\a4s (s.L.getD i dz)
def b4r:Con:=.reff ⟨Sto×Int×Nat,λx=>[.ref 0 0 0,.int .i64 x.2.1],λx=>x.1.bx x.2.2,λx=>.bool (X7 x.1 x.2.1).2,λx=>(X7 x.1 x.2.1).1.bxY x.2.2,λx=>wU x.1 x.2.1⟩
def b55(s:Sto)(lsn:Int)(v:Nat):Nat->Ann
 |0=>.one {i:Nat//i<=O0 s lsn} (λx=>⟨[(0,.ref 0 0 0),(1,.int .i64 lsn),(22,.osl 4 s.S.toNat (O0 s lsn)),(23,.int .i64 (O0 s lsn)),(24,.int .i64 x.1)],(s.sd (sP s x.1)).bxC v⟩) (λx=>O0 s lsn-x.1) [.box 0,.arr 1,.arr 2,.arr 3,.arr 4,.arr 5,.arr 2] [.box 0,.arr 1,.arr 2,.arr 3,.arr 4,.arr 5,.arr 8] (λ_=>Y5)
 |_=>.none
theorem q7{s:Sto}{lsn:Int}(h:lsn<=s.S):X7 s lsn=(s,true):=if_pos h
theorem j6{s:Sto}{lsn:Int}(h:¬lsn<=s.S):X7 s lsn=(⟨(V6 (sP s (O0 s lsn))).1,s.ep,s.L,if(V6 (sP s (O0 s lsn))).2=true then lsn else s.S,s.fr,s.J⟩,(V6 (sP s (O0 s lsn))).2):=if_neg h
theorem pD{s:Sto}{lsn:Int}{i:Nat}(h:wU s lsn)(hi:i<O0 s lsn):(sX s i).at_=9+s.S+i/\a4s (s.L.getD (s.S.toNat+i) dz)/\s.S+i<lsn:=by
 obtain⟨_,_,_,_,h5,h6,_,h8,h9⟩:=h;unfold O0 at hi;obtain⟨a,b⟩:=h9 (s.S.toNat+i) (by omega)
 refine⟨?_,b,by omega⟩
 unfold sX;dsimp only;rw[a];omega
theorem yR(s:Sto)(n:Nat):s.d.C++List.map (sX s) (List.range n)++[sX s n]=s.d.C++List.map (sX s) (List.range (n+1)):=by
 rw[List.range_succ,List.map_append,List.append_assoc];rfl
theorem cP{s:Sto}{lsn:Int}(h:wU s lsn):nD (sP s (O0 s lsn))/\iE (sP s (O0 s lsn)):=by
 have hn:=λi=>pD (i:=i) h
 obtain⟨⟨a1,a2,a3⟩,h2,h3,h4,h5,h6,h7,h8,h9⟩:=h;have hN:O0 s lsn<=60:=by unfold O0;omega
 refine⟨⟨a1,?_,a3⟩,λi hi=> ?_⟩
 ·show(s.d.C++List.map (sX s) (List.range _)).length<=1048576;simp only[K6,List.length_map,j_g];omega
 ·have hi:i<(s.d.C++List.map (sX s) (List.range (O0 s lsn))).length:=hi;show 0<=((s.d.C++List.map (sX s) (List.range (O0 s lsn))).getD i dz).at_/\((s.d.C++List.map (sX s) (List.range (O0 s lsn))).getD i dz).at_<(s.d.E.length:Int);rw[h4,P8]
  by_cases hc:i<s.d.C.length
  ·rw[tX hc,←P8]
   have:=h3 i hc;rw[h4] at this;exact this
  ·rw[rK (by omega),←P8]
   simp only[K6,List.length_map,j_g] at hi;rw[b6X _ (by omega)]
   obtain⟨e,_,q⟩:=hn (i-s.d.C.length) (by omega)
   rw[e];omega
theorem b2D:GK 120 b4r:=gk Tryz.func120<|by
 rintro⟨s,lsn,v⟩ h;dsimp only at h;have hn:=λi=>pD (i:=i) h
 have hw:=cP h;obtain⟨⟨a1,a2,a3⟩,h2,h3,h4,h5,h6,h7,h8,h9⟩:=h;have hN:O0 s lsn<=60:=by unfold O0;omega
 refine v8 (gC jB (gC a2B (gC a6f gN))) Tryz.func120 (b55 s lsn v) [[.box 0,.arr 1,.arr 2,.arr 3,.arr 4,.arr 5,.arr 7,.arr 8],[.box 0,.arr 1,.arr 2,.arr 3,.arr 4,.arr 5,.arr 2,.arr 3]] (α:=let pf:=(0=0/\0=0);let b:=(Y2 s.fr);let k:=(↑(O0 s lsn):Int);let p:=(X7 s lsn);let pa:=p.1.fr.length;let n:=p.1.d;(decide (lsn<=s.S)=true->(true=p.2/\True)/\(1=1/\1=1/\oE s p.1)/\(Y8 Z5 s.d.E n.E)/\True/\True/\(Y8 Y3 s.L p.1.L)/\(v=v/\s.fr.length=pa/\T9 s.fr.length b (Y2 p.1.fr))/\(Y8 Y9 s.d.C n.C)/\(Y8 Y6 s.d.keep n.keep)/\True)/\(decide (lsn<=s.S)=false->a7J s.S lsn s.L.length/\(∃(x:{i:Nat//i<=O0 s lsn}),let f:=(s.d.C++List.map (sX s) (List.range x.val));(pf/\lsn=lsn/\(0+s.S.toNat=s.S.toNat/\lsn.toNat-s.S.toNat=O0 s lsn)/\(↑(lsn.toNat-s.S.toNat):Int)=k/\0=(x.val:Int)/\True)/\(1=1/\1=1/\(0=0/\s.d.E.length=s.d.E.length)/\(0=0/\s.d.C.length=f.length)/\s.d.A=s.d.A/\(0=0/\s.d.keep.length=s.d.keep.length)/\s.ep=s.ep/\(0=0/\s.L.length=s.L.length)/\s.S=s.S/\(0=0/\s.fr.length=s.fr.length)/\s.J=s.J/\True)/\(Y8 Z5 s.d.E s.d.E)/\True/\(Y8 Y6 s.d.keep s.d.keep)/\(Y8 Y3 s.L s.L)/\(v=v/\s.fr.length=s.fr.length/\T9 s.fr.length b b)/\(Y8 Y9 s.d.C f)/\True)/\∀(x:{i:Nat//i<=O0 s lsn}),let m:=(x.val:Int);let z:=(s.d.C++List.map (sX s) (List.range x.val));let r:=(s.L.getD (s.S.toNat+m.toNat) dz);(decide (m<k)=true->V3 m (O0 s lsn)/\Lt (s.S.toNat+m.toNat) s.L.length/\W7 .i64 (9+r.l)/\W7 .i64 (9+r.l-1)/\∃(x_1:Rec),(((EqR r x_1)/\True)/\a4s x_1)/\∃(x_2:(Sto×Int×List UInt8×Nat)),let w:=x_2.1;let pe:=w.fr.length;let c:=(w.d.C++[Pend.mk x_2.2.1 x_2.2.2.1]);((pf/\9+r.l-1=x_2.2.1/\Q3 x_1=x_2.2.2.1/\True)/\((1=1/\1=1/\(0=0/\s.d.E.length=w.d.E.length)/\(0=0/\z.length=w.d.C.length)/\s.d.A=w.d.A/\(0=0/\s.d.keep.length=w.d.keep.length)/\s.ep=w.ep/\(0=0/\s.L.length=w.L.length)/\s.S=w.S/\(0=0/\s.fr.length=pe)/\s.J=w.J/\True)/\(Y8 Z5 s.d.E w.d.E)/\(Y8 Y9 z w.d.C)/\(Y8 Y6 s.d.keep w.d.keep)/\(Y8 Y3 s.L w.L)/\(v=x_2.2.2.2/\s.fr.length=pe/\T9 s.fr.length b (Y2 w.fr))/\True)/\w.d.C.length<=1048576)/\W7 .i64 (m+1)/\∃(y:{i:Nat//i<=O0 s lsn}),let g:=(s.d.C++List.map (sX s) (List.range y.val));((pf/\lsn=lsn/\(s.S.toNat=s.S.toNat/\O0 s lsn=O0 s lsn)/\k=k/\m+1=(y.val:Int)/\True)/\(1=1/\1=1/\(0=0/\w.d.E.length=s.d.E.length)/\(0=0/\c.length=g.length)/\w.d.A=s.d.A/\(0=0/\w.d.keep.length=s.d.keep.length)/\w.ep=s.ep/\(0=0/\w.L.length=s.L.length)/\w.S=s.S/\(0=0/\pe=s.fr.length)/\w.J=s.J/\True)/\(Y8 Z5 w.d.E s.d.E)/\True/\(Y8 Y6 w.d.keep s.d.keep)/\(Y8 Y3 w.L s.L)/\(x_2.2.2.2=v/\pe=s.fr.length/\T9 w.fr.length (Y2 w.fr) b)/\(Y8 Y9 c g)/\True)/\Lt (O0 s lsn-y.val) (O0 s lsn-x.val))/\(decide (m<k)=false->∃(x_1:(Sto×Nat)),let u:=x_1.1;let pd:=(0=0/\u.L.length=p.1.L.length);let a:=u.fr.length;let j:=(x_1.2=v/\a=pa/\T9 u.fr.length (Y2 u.fr) (Y2 p.1.fr));let q:=(V6 u.d);let pg:=(Y8 Y6 q.1.keep n.keep);let pc:=(0=0/\q.1.C.length=n.C.length);let pb:=(0=0/\q.1.E.length=n.E.length);let t:=(0=0/\q.1.keep.length=n.keep.length);((pf/\True)/\((1=1/\1=1/\(0=0/\s.d.E.length=u.d.E.length)/\(0=0/\z.length=u.d.C.length)/\s.d.A=u.d.A/\(0=0/\s.d.keep.length=u.d.keep.length)/\s.ep=u.ep/\(0=0/\s.L.length=u.L.length)/\s.S=u.S/\(0=0/\s.fr.length=a)/\s.J=u.J/\True)/\(Y8 Z5 s.d.E u.d.E)/\(Y8 Y9 z u.d.C)/\(Y8 Y6 s.d.keep u.d.keep)/\(Y8 Y3 s.L u.L)/\(v=x_1.2/\s.fr.length=a/\T9 s.fr.length b (Y2 u.fr))/\True)/\nD u.d/\iE u.d)/\((! q.2)=true->(false=p.2/\True)/\(1=1/\1=1/\pb/\pc/\q.1.A=n.A/\t/\u.ep=p.1.ep/\pd/\u.S=p.1.S/\(0=0/\a=pa)/\u.J=p.1.J/\True)/\(Y8 Z5 q.1.E n.E)/\True/\True/\(Y8 Y3 u.L p.1.L)/\j/\(Y8 Y9 q.1.C n.C)/\pg/\True)/\((! q.2)=false->(true=p.2/\True)/\(1=1/\1=1/\pb/\pc/\q.1.A=n.A/\t/\u.ep=p.1.ep/\pd/\lsn=p.1.S/\(0=0/\a=pa)/\u.J=p.1.J/\True)/\(Y8 Z5 q.1.E n.E)/\True/\True/\(Y8 Y3 u.L p.1.L)/\j/\(Y8 Y9 q.1.C n.C)/\pg/\True)))) ⟨λhc=> ?_,λhc=> ?_⟩
 ·rw[q7 (C7 hc)];exact⟨Z9,⟨rfl,rfl,Z8,Z8,rfl,Z8,rfl,Z8,rfl,Z8,Z9⟩,Z7,trivial,trivial,Z7,Q2,Z7,X5⟩
 ·have hc:=l7 hc;refine⟨⟨h5,by omega,h8⟩,⟨⟨0,S7 _⟩,⟨Z8,rfl,⟨G9 _,rfl⟩,rfl,Z9⟩,⟨rfl,rfl,Z8,⟨rfl,by simp⟩,rfl,⟨rfl,rfl⟩,rfl,⟨rfl,rfl⟩,rfl,⟨rfl,rfl⟩,rfl,trivial⟩,⟨rfl,Z2 _ _⟩,trivial,⟨rfl,Z2 _ _⟩,⟨rfl,Z2 _ _⟩,⟨rfl,rfl,U2 _⟩,⟨by simp,λi _=>by simp⟩,trivial⟩,λx=>⟨λhx=> ?_,λhx=> ?_⟩⟩
  ·have hlt:=X6 hx;obtain⟨e,hb,q⟩:=hn x.val hlt;have e':9+(s.L.getD (s.S.toNat+x.val) dz).l-1=9+s.S+x.val:=e;rw[F5];refine⟨X8 hlt,by unfold Lt;omega,Z4 (by omega),Z4 (by omega),_,⟨⟨⟨rfl,rfl,rfl,rfl,rfl,rfl,rfl,rfl,rfl,Z9⟩,trivial⟩,hb⟩,(s.sd (sP s x.val),9+(s.L.getD (s.S.toNat+x.val) dz).l-1,Q3 (s.L.getD (s.S.toNat+x.val) dz),v),⟨⟨Z8,rfl,Z9⟩,⟨⟨rfl,rfl,Z8,Z8,rfl,Z8,rfl,Z8,rfl,Z8,Z9⟩,Z7,Z7,Z7,Z7,Q2,trivial⟩,?_⟩,Z4 (by omega),⟨x.val+1,hlt⟩,⟨⟨Z8,rfl,Z8,rfl,by dsimp only;omega,trivial⟩,⟨rfl,rfl,⟨rfl,rfl⟩,⟨rfl,congrArg List.length (yR s x.val)⟩,rfl,⟨rfl,rfl⟩,rfl,⟨rfl,rfl⟩,rfl,⟨rfl,rfl⟩,rfl,trivial⟩,⟨rfl,Z2 _ _⟩,trivial,⟨rfl,Z2 _ _⟩,⟨rfl,Z2 _ _⟩,⟨rfl,rfl,U2 _⟩,⟨congrArg List.length (yR s x.val),λi _=>congrArg (λL=>Y9 L i) (yR s x.val)⟩,trivial⟩,V1.ext_lt hlt⟩
   show(s.d.C++List.map (sX s) (List.range _)).length<=1048576;simp only[K6,List.length_map,j_g];omega
  ·have hx:x.val=O0 s lsn:=by have:=x.2;have:=X4 hx;omega
   rw[hx,j6 hc];refine⟨(s.sd (sP s (O0 s lsn)),v),⟨U3,⟨⟨rfl,rfl,Z8,Z8,rfl,Z8,rfl,Z8,rfl,Z8,Z9⟩,Z7,Z7,Z7,Z7,Q2,trivial⟩,hw⟩,λhy=> ?_,λhy=> ?_⟩
   ·have hy:(V6 (sP s (O0 s lsn))).2=false:=(xP _).mp hy;exact⟨⟨hy.symm,trivial⟩,⟨rfl,rfl,Z8,Z8,rfl,Z8,rfl,Z8,(if_neg (by rw[hy];simp)).symm,⟨rfl,rfl⟩,rfl,trivial⟩,⟨rfl,Z2 _ _⟩,trivial,trivial,⟨rfl,Z2 _ _⟩,⟨rfl,rfl,U2 _⟩,⟨rfl,Z2 _ _⟩,⟨rfl,Z2 _ _⟩,trivial⟩
   ·have hy:(V6 (sP s (O0 s lsn))).2=true:=(yT _).mp hy;exact⟨⟨hy.symm,trivial⟩,⟨rfl,rfl,Z8,Z8,rfl,Z8,rfl,Z8,(if_pos hy).symm,Z8,Z9⟩,Z7,trivial,trivial,Z7,Q2,Z7,X5⟩
theorem sU{a b c:Int}(h:V9 a b c=true):b<=a/\a<=c:=by simpa[V9] using h
theorem b2J{a b c:Int}(h:(!V9 a b c)=false):b<=a/\a<=c:=sU (by simpa using h)
theorem b6A{s:Sto}{lsn:Int}(h:J8 s=true)(hl:lsn<=s.L.length)(hm:SmS s):wU s lsn:=by
 obtain⟨⟨h1,h2,h3⟩,_⟩:=(M2 s).1 h;obtain⟨c1,c2,_,_,c5⟩:=(B7 s).1 h1;obtain⟨_,_,d3,_,_,_,d7⟩:=c1;have h3:=sU h3;refine⟨hm.1,by omega,λi hi=> ?_,c2,h3.1,h3.2,c5,hl,λi hi=> ?_⟩
 ·have:=d7 i hi;unfold P7 at this;simp only[yP,yT] at this;have:=sU this.1;omega
 ·obtain⟨a,b⟩:=J6.1 h2 i hi;exact⟨b,a5D a⟩
theorem a6q{d:Dsk}(h:nD d):nD (V6 d).1:=by
 obtain⟨h1,h2,h3⟩:=h;unfold V6;split
 ·exact⟨by unfold crD;dsimp only;rw[F2];exact h1,S7 _,S7 _⟩
 ·exact⟨by dsimp only;rw[F2];exact h1,S7 _,h3⟩
theorem iT{s:Sto}{lsn:Int}(h:wU s lsn)(hm:SmS s):SmS (X7 s lsn).1:=by
 by_cases hl:lsn<=s.S
 ·rw[q7 hl];exact hm
 ·rw[j6 hl];exact⟨a6q (cP h).1,hm.2.1,hm.2.2.1,hm.2.2.2⟩
end Go.Proofs.YtghgljelnhfihaaGreat

namespace Go.Proofs.YtghgljelnhfihaaGreat
set_option maxRecDepth 100000
open Go.SS

def a5z:Con:=.rel ⟨Dsk×Int×List UInt8,λx=>[.agg x.1.ts,.int .i64 x.2.1,.str x.2.2],λx=>.agg (wrD x.1 x.2.1 x.2.2).ts,λx=>x.1.C.length<=1048576⟩
theorem oH:GK 173 a5z:=gk Tryz.func173<|by
 rintro⟨d,at_,t⟩ (h:d.C.length<=1048576);exact Q5 gN Tryz.func173 Y5 (α:=let r:=(d.C++[Pend.mk at_ t]);let q:=(0+d.C.length+1);let p:=(0+d.C.length);(Le 0 0/\W6 0 d.C.length 24)/\(Le 1 1/\Le p p/\W6 p 1 24)/\Le (0+q) q/\(Y8 Z5 d.E d.E)/\(0+d.C.length+1=r.length/\Z6 q (X3 (X3 (λ(k:Nat)=>List.take 2 (List.drop (k*2) [])) 0 (Y9 d.C)) p λ(k:Nat)=>List.take 2 (List.drop (k*2) [T.int .i64 at_,T.str t])) (Y9 r))/\d.A=d.A/\(Y8 Y6 d.keep d.keep)/\True) ⟨⟨W4 _,by unfold W6;omega⟩,⟨W4 _,W4 _,by unfold W6;omega⟩,by unfold Le;omega,Z7,⟨by simp,by rw[G9];exact a1B d.C ⟨at_,t⟩⟩,rfl,X5⟩
def b63(l:List T):Option Ob:=some (.arr false 1000000 4 1 λ_=>l)
def a66(l:List T):Option Ob:=some (.arr true 1000000 4 1 λ_=>l)
def c0M:List T:=[.v (.slice none 0 0),.v (.slice none 0 0),.bool false,.v (.slice none 0 0)]
def a5Q:Con:=.rel ⟨Dsk×List Int,λx=>[.agg x.1.ts,a5E x.2],λx=>.agg (crD x.1 x.2).ts,λx=>nD x.1/\iE x.1⟩
def a4M(d:Dsk)(K:List Int):Nat->Ann
 |0=>.one {i:Nat//i<=d.C.length} (λx=>⟨[(1,a5E K),(2,.ref 0 0 0),(4,.ref 1 0 0),(5,.ref 2 0 0),(6,.int .i64 x.1)],[a66 d.ts,a66 c0M,b63 (d.tm 3),some (.arr true 0 1 d.E.length (Z5 (k6 d.E d.C (kp K) x.1))),C8 d.C,x7 d.keep]⟩) (λx=>d.C.length-x.1) [.box 0,.box 1,.box 5,.arr 2,.arr 3,.arr 4] [.box 0,.box 1,.box 2,.arr 3,.arr 4,.arr 5] (λ_=>Y5)
 |_=>.none
theorem a1C:GK 167 a5Q:=gk Tryz.func167<|by
 rintro⟨d,K⟩ ⟨⟨h1,h2,h3⟩,h4⟩;dsimp only at h1 h2 h3 h4;refine Q5 (gC pM gN) Tryz.func167 (a4M d K) (α:=let f:=(Y8 Y6 K K);let n:=(Y8 Y6 d.keep d.keep);let m:=(k6 d.E d.C (kp K) d.C.length);let j:=(1=1/\1=1/\yM d d);let z:=(0=0/\0=0);let r:=(1=1/\1=1/\(0=0/\d.E.length=d.E.length)/\(0=0/\d.C.length=d.C.length)/\d.A=d.A/\(0=0/\d.keep.length=d.keep.length)/\True);let p:=(1=1/\1=1/\Value.slice none 0 0=Value.slice none 0 0/\Value.slice none 0 0=Value.slice none 0 0/\false=false/\Value.slice none 0 0=Value.slice none 0 0/\True);∃(x:Dsk),(((yM d x)/\True)/\nD x)/\(∃(x_1:{i:Nat//i<=d.C.length}),(f/\z/\z/\z/\0=(x_1.val:Int)/\True)/\j/\p/\(1=1/\1=1/\(0=0/\x.E.length=d.E.length)/\(0=0/\x.C.length=d.C.length)/\x.A=d.A/\(0=0/\x.keep.length=d.keep.length)/\True)/\(x.E.length=d.E.length/\Z6 x.E.length (Z5 x.E) (Z5 (k6 d.E d.C (kp K) x_1.val)))/\(Y8 Y9 x.C d.C)/\(Y8 Y6 x.keep d.keep)/\True)/\∀(x:{i:Nat//i<=d.C.length}),let b:=(d.C.length-x.val);let v:=(Z5 (k6 d.E d.C (kp K) x.val));let q:=(x.val:Int);let a:=(q<(K.length:Int));let g:=(q<(d.C.length:Int));let w:=(decide a&&K.getD q.toNat (0:Int) !=0);let u:=(d.C.getD q.toNat dz);(decide g=true->(decide a=true->V3 q K.length)/\(w=true->V3 q d.C.length/\V3 q d.C.length/\V3 u.at_ d.E.length/\Lt (0+u.at_.toNat) d.E.length/\W7 .i64 (q+1)/\∃(y:{i:Nat//i<=d.C.length}),((f/\z/\z/\z/\q+1=(y.val:Int)/\True)/\j/\p/\r/\(d.E.length=d.E.length/\Z6 d.E.length (setRow v (0+u.at_.toNat) 0 [T.str u.d]) (Z5 (k6 d.E d.C (kp K) y.val)))/\(Y8 Y9 d.C d.C)/\n/\True)/\Lt (d.C.length-y.val) b)/\(w=false->W7 .i64 (q+1)/\∃(y:{i:Nat//i<=d.C.length}),((f/\z/\z/\z/\q+1=(y.val:Int)/\True)/\j/\p/\r/\(d.E.length=d.E.length/\Z6 d.E.length v (Z5 (k6 d.E d.C (kp K) y.val)))/\(Y8 Y9 d.C d.C)/\n/\True)/\Lt (d.C.length-y.val) b))/\(decide g=false->(Le (0+d.E.length) d.E.length/\Le 0 0/\Le 0 0)/\(d.E.length=m.length/\Z6 d.E.length v (Z5 m))/\(0=0/\Z6 0 (λ(k:Nat)=>List.take 2 (List.drop (k*2) [])) (Y9 []))/\false=false/\(0=0/\Z6 0 (λ(k:Nat)=>List.take 1 (List.drop (k*1) [])) (Y6 []))/\True)) ⟨d,⟨⟨uX _,trivial⟩,h1,h2,h3⟩,⟨⟨0,S7 _⟩,(by repeat' first|exact trivial|exact rfl|exact Z2 _ _|exact U2 _|exact V7|exact S8 _|exact W4 _|exact S7 _|refine And.intro ?_ ?_)⟩,λx=>⟨λhc=> ?_,λhc=> ?_⟩⟩
 ·have hlt:=X6 hc;have ek:(decide ((x.val:Int)<(K.length:Int))&&K.getD x.val 0 !=0)=kp K x.val:=by
   unfold kp;rw[show decide ((x.val:Int)<(K.length:Int))=decide (x.val<K.length) from decide_eq_decide.2 (by omega)]
  have ha:=h4 x.val hlt;rw[F5,ek];refine⟨λh=>X8 (X6 h),λhk=> ?_,λhk=> ?_⟩
  ·exact⟨X8 hlt,X8 hlt,ha,by unfold Lt;omega,Z4 (by omega),⟨x.val+1,hlt⟩,⟨⟨Z7,Z8,Z8,Z8,by dsimp only;omega,trivial⟩,⟨rfl,rfl,uX _⟩,(by repeat' first|exact trivial|exact rfl|exact Z2 _ _|exact U2 _|exact V7|exact S8 _|exact W4 _|exact S7 _|refine And.intro ?_ ?_),(by repeat' first|exact trivial|exact rfl|exact Z2 _ _|exact U2 _|exact V7|exact S8 _|exact W4 _|exact S7 _|refine And.intro ?_ ?_),⟨rfl,mQ hk⟩,(by repeat' first|exact trivial|exact rfl|exact Z2 _ _|exact U2 _|exact V7|exact S8 _|exact W4 _|exact S7 _|refine And.intro ?_ ?_)⟩,V1.ext_lt hlt⟩
  ·exact⟨Z4 (by omega),⟨x.val+1,hlt⟩,⟨⟨Z7,Z8,Z8,Z8,by dsimp only;omega,trivial⟩,⟨rfl,rfl,uX _⟩,(by repeat' first|exact trivial|exact rfl|exact Z2 _ _|exact U2 _|exact V7|exact S8 _|exact W4 _|exact S7 _|refine And.intro ?_ ?_),(by repeat' first|exact trivial|exact rfl|exact Z2 _ _|exact U2 _|exact V7|exact S8 _|exact W4 _|exact S7 _|refine And.intro ?_ ?_),⟨rfl,λj _=>by dsimp only;rw[b66 hk]⟩,(by repeat' first|exact trivial|exact rfl|exact Z2 _ _|exact U2 _|exact V7|exact S8 _|exact W4 _|exact S7 _|refine And.intro ?_ ?_)⟩,V1.ext_lt hlt⟩
 ·have hx:x.val=d.C.length:=by have:=x.2;have:=X4 hc;omega
  rw[hx];exact⟨(by repeat' first|exact trivial|exact rfl|exact Z2 _ _|exact U2 _|exact V7|exact S8 _|exact W4 _|exact S7 _|refine And.intro ?_ ?_),⟨(F2 _ _ _ _).symm,Z2 _ _⟩,(by repeat' first|exact trivial|exact rfl|exact Z2 _ _|exact U2 _|exact V7|exact S8 _|exact W4 _|exact S7 _|refine And.intro ?_ ?_)⟩
def a7L:Con:=.rel ⟨Dsk,λd=>[.agg d.ts],λd=>.tup [.agg (V6 d).1.ts,.bool (V6 d).2],λd=>nD d/\iE d⟩
def a9d(d:Dsk):Nat->Ann
 |0=>.one {i:Nat//i<=d.C.length} (λx=>⟨[(1,.ref 0 0 0),(2,.ref 1 0 0),(4,.ref 2 0 0),(5,.int .i64 x.1)],[a66 d.ts,a66 c0M,b63 (d.tm 3),some (.arr true 0 1 d.E.length (Z5 (k6 d.E d.C (λ_=>true) x.1))),C8 d.C,x7 d.keep]⟩) (λx=>d.C.length-x.1) [.box 0,.box 1,.box 5,.arr 2,.arr 3,.arr 4] [.box 0,.box 1,.box 2,.arr 3,.arr 4,.arr 5] (λ_=>Y5)
 |_=>.none
theorem jC:GK 152 a7L:=gk Tryz.func152<|by
 rintro(d:Dsk) ⟨⟨h1,h2,h3⟩,h4⟩;refine Q5 (gC a1C (gC pM gN)) Tryz.func152 (a9d d) (α:=let w:=(1=1/\1=1/\yM d d);let z:=(0=0/\0=0);let p:=(1=1/\1=1/\Value.slice none 0 0=Value.slice none 0 0/\Value.slice none 0 0=Value.slice none 0 0/\false=false/\Value.slice none 0 0=Value.slice none 0 0/\True);(d.A=true->∃(x:(Dsk×List Int)),(((yM d x.1)/\(Y8 Y6 d.keep x.2)/\True)/\nD x.1/\iE x.1)/\((Y8 Z5 (k6 x.1.E x.1.C (kp x.2) x.1.C.length) (V6 d).1.E)/\(0=(V6 d).1.C.length/\Z6 0 (Y9 []) (Y9 (V6 d).1.C))/\false=(V6 d).1.A/\(0=(V6 d).1.keep.length/\Z6 0 (Y6 []) (Y6 (V6 d).1.keep))/\True)/\false=(V6 d).2/\True)/\(d.A=false->∃(x:Dsk),(((yM d x)/\True)/\nD x)/\(∃(x_1:{i:Nat//i<=d.C.length}),(z/\z/\z/\0=(x_1.val:Int)/\True)/\w/\p/\(1=1/\1=1/\(0=0/\x.E.length=d.E.length)/\(0=0/\x.C.length=d.C.length)/\x.A=d.A/\(0=0/\x.keep.length=d.keep.length)/\True)/\(x.E.length=d.E.length/\Z6 x.E.length (Z5 x.E) (Z5 (k6 d.E d.C (λ(x:Nat)=>true) x_1.val)))/\(Y8 Y9 x.C d.C)/\(Y8 Y6 x.keep d.keep)/\True)/\∀(x:{i:Nat//i<=d.C.length}),let u:=(Z5 (k6 d.E d.C (λ(x:Nat)=>true) x.val));let r:=(x.val:Int);let v:=(r<(d.C.length:Int));let q:=(d.C.getD r.toNat dz);(decide v=true->V3 r d.C.length/\V3 r d.C.length/\V3 q.at_ d.E.length/\Lt (0+q.at_.toNat) d.E.length/\W7 .i64 (r+1)/\∃(y:{i:Nat//i<=d.C.length}),((z/\z/\z/\r+1=(y.val:Int)/\True)/\w/\p/\(1=1/\1=1/\(0=0/\d.E.length=d.E.length)/\(0=0/\d.C.length=d.C.length)/\d.A=d.A/\(0=0/\d.keep.length=d.keep.length)/\True)/\(d.E.length=d.E.length/\Z6 d.E.length (setRow u (0+q.at_.toNat) 0 [T.str q.d]) (Z5 (k6 d.E d.C (λ(x:Nat)=>true) y.val)))/\(Y8 Y9 d.C d.C)/\(Y8 Y6 d.keep d.keep)/\True)/\Lt (d.C.length-y.val) (d.C.length-x.val))/\(decide v=false->(Le (0+d.E.length) d.E.length/\Le 0 0/\Le (0+d.keep.length) d.keep.length)/\((d.E.length=(V6 d).1.E.length/\Z6 d.E.length u (Z5 (V6 d).1.E))/\(0=(V6 d).1.C.length/\Z6 0 (λ(k:Nat)=>List.take 2 (List.drop (k*2) [])) (Y9 (V6 d).1.C))/\d.A=(V6 d).1.A/\(Y8 Y6 d.keep (V6 d).1.keep)/\True)/\true=(V6 d).2/\True))) ⟨λhd=> ?_,λhd=> ?_⟩
 ·have e:V6 d=(crD d d.keep,false):=by unfold V6;rw[if_pos hd]
  rw[e];exact⟨(d,d.keep),⟨⟨uX _,X5⟩,⟨h1,h2,h3⟩,h4⟩,(by repeat' first|exact trivial|exact rfl|exact Z2 _ _|exact U2 _|exact V7|exact S8 _|exact W4 _|exact S7 _|refine And.intro ?_ ?_)⟩
 ·have e:V6 d=(⟨k6 d.E d.C (λ_=>true) d.C.length,[],d.A,d.keep⟩,true):=by unfold V6;rw[if_neg (by rw[hd];simp)]
  rw[e];refine⟨d,⟨⟨uX _,trivial⟩,h1,h2,h3⟩,⟨⟨0,S7 _⟩,(by repeat' first|exact trivial|exact rfl|exact Z2 _ _|exact U2 _|exact V7|exact S8 _|exact W4 _|exact S7 _|refine And.intro ?_ ?_)⟩,λx=>⟨λhc=> ?_,λhc=> ?_⟩⟩
  ·have hlt:=X6 hc;have ha:=h4 x.val hlt;rw[F5];exact⟨X8 hlt,X8 hlt,ha,by unfold Lt;omega,Z4 (by omega),⟨x.val+1,hlt⟩,⟨⟨Z8,Z8,Z8,by dsimp only;omega,trivial⟩,⟨rfl,rfl,uX _⟩,(by repeat' first|exact trivial|exact rfl|exact Z2 _ _|exact U2 _|exact V7|exact S8 _|exact W4 _|exact S7 _|refine And.intro ?_ ?_),(by repeat' first|exact trivial|exact rfl|exact Z2 _ _|exact U2 _|exact V7|exact S8 _|exact W4 _|exact S7 _|refine And.intro ?_ ?_),⟨rfl,mQ (Q:=λ_=>true) rfl⟩,(by repeat' first|exact trivial|exact rfl|exact Z2 _ _|exact U2 _|exact V7|exact S8 _|exact W4 _|exact S7 _|refine And.intro ?_ ?_)⟩,V1.ext_lt hlt⟩
  ·have hx:x.val=d.C.length:=by have:=x.2;have:=X4 hc;omega
   rw[hx];exact⟨(by repeat' first|exact trivial|exact rfl|exact Z2 _ _|exact U2 _|exact V7|exact S8 _|exact W4 _|exact S7 _|refine And.intro ?_ ?_),⟨⟨(F2 _ _ _ _).symm,Z2 _ _⟩,(by repeat' first|exact trivial|exact rfl|exact Z2 _ _|exact U2 _|exact V7|exact S8 _|exact W4 _|exact S7 _|refine And.intro ?_ ?_)⟩,(by repeat' first|exact trivial|exact rfl|exact Z2 _ _|exact U2 _|exact V7|exact S8 _|exact W4 _|exact S7 _|refine And.intro ?_ ?_)⟩
def c0B(l:List T):Option Ob:=some (.arr true 1000000 9 1 λ_=>l)
def a4i:Con:=.rel ⟨Sto×Int,λx=>[.agg x.1.ts,.int .i64 x.2],λx=>.tup [.agg (X7 x.1 x.2).1.ts,.bool (X7 x.1 x.2).2],λx=>wU x.1 x.2⟩
def a4J(s:Sto)(lsn:Int):Nat->Ann
 |0=>.one {i:Nat//i<=O0 s lsn} (λx=>⟨[(1,.int .i64 lsn),(2,.ref 0 0 0),(4,.ref 1 0 0),(6,.int .i64 (s.S+x.1+1))],[c0B (s.sd (sP s x.1)).ts,b0Z]⟩) (λx=>O0 s lsn-x.1) [.box 0,.box 1] [.box 0,.box 1] (λ_=>Y5)
 |_=>.none
theorem oB:GK 151 a4i:=gk Tryz.func151<|by
 rintro⟨s,lsn⟩ h;dsimp only at h;have hn:=λi=>pD (i:=i) h
 have hw:=cP h;obtain⟨⟨a1,a2,a3⟩,h2,h3,h4,h5,h6,h7,h8,h9⟩:=h;have hN:O0 s lsn<=60:=by unfold O0;omega
 refine Q5 (gC a2J (gC oH (gC jC gN))) Tryz.func151 (a4J s lsn) (α:=let j:=(0=0/\0=0);let q:=(X7 s lsn);let f:=(Y8 X2 s.fr q.1.fr);let p:=(1=1/\1=1/\Value.slice none 0 0=Value.slice none 0 0/\Value.slice none 0 0=Value.slice none 0 0/\false=false/\Value.slice none 0 0=Value.slice none 0 0/\(0:Int)=0/\Value.slice none 0 0=Value.slice none 0 0/\(0:Int)=0/\Value.slice none 0 0=Value.slice none 0 0/\(0:Int)=0/\True);(decide (lsn<=s.S)=true->(yL s q.1)/\true=q.2/\True)/\(decide (lsn<=s.S)=false->W7 .i64 (s.S+1)/\(∃(x:{i:Nat//i<=O0 s lsn}),(lsn=lsn/\j/\j/\s.S+1=s.S+(x.val:Int)+1/\True)/\(1=1/\1=1/\(Y8 Z5 s.d.E s.d.E)/\(Y8 Y9 s.d.C (s.d.C++List.map (sX s) (List.range x.val)))/\s.d.A=s.d.A/\(Y8 Y6 s.d.keep s.d.keep)/\s.ep=s.ep/\(Y8 Y3 s.L s.L)/\s.S=s.S/\(Y8 X2 s.fr s.fr)/\s.J=s.J/\True)/\p/\True)/\∀(x:{i:Nat//i<=O0 s lsn}),let z:=(s.d.C++List.map (sX s) (List.range x.val));let r:=(x.val:Int);let n:=(s.S+r+1-1);(decide (s.S+r+1<=lsn)=true->W7 .i64 (9+(s.S+r+1))/\W7 .i64 (9+(s.S+r+1)-1)/\W7 .i64 n/\V3 n s.L.length/\∃(x_1:Rec),(((EqR (s.L.getD n.toNat dz) x_1)/\True)/\a4s x_1)/\∃(x_2:(Dsk×Int×List UInt8)),let m:=x_2.1;((((Y8 Z5 s.d.E m.E)/\(Y8 Y9 z m.C)/\s.d.A=m.A/\(Y8 Y6 s.d.keep m.keep)/\True)/\9+(s.S+r+1)-1=x_2.2.1/\Q3 x_1=x_2.2.2/\True)/\m.C.length<=1048576)/\W7 .i64 (s.S+r+1+1)/\∃(y:{i:Nat//i<=O0 s lsn}),((lsn=lsn/\j/\j/\s.S+r+1+1=s.S+(y.val:Int)+1/\True)/\(1=1/\1=1/\(Y8 Z5 m.E s.d.E)/\(Y8 Y9 (m.C++[Pend.mk x_2.2.1 x_2.2.2]) (s.d.C++List.map (sX s) (List.range y.val)))/\m.A=s.d.A/\(Y8 Y6 m.keep s.d.keep)/\s.ep=s.ep/\(Y8 Y3 s.L s.L)/\s.S=s.S/\(Y8 X2 s.fr s.fr)/\s.J=s.J/\True)/\p/\True)/\Lt (O0 s lsn-y.val) (O0 s lsn-x.val))/\(decide (s.S+r+1<=lsn)=false->∃(x_1:Dsk),let k:=(V6 x_1).2;let w:=(Y8 Y9 (V6 x_1).1.C q.1.d.C);let v:=(Y8 Z5 (V6 x_1).1.E q.1.d.E);let u:=(Y8 Y6 (V6 x_1).1.keep q.1.d.keep);((((Y8 Z5 s.d.E x_1.E)/\(Y8 Y9 z x_1.C)/\s.d.A=x_1.A/\(Y8 Y6 s.d.keep x_1.keep)/\True)/\True)/\nD x_1/\iE x_1)/\(k=true->(v/\w/\(V6 x_1).1.A=q.1.d.A/\u/\s.ep=q.1.ep/\(Y8 Y3 s.L q.1.L)/\lsn=q.1.S/\f/\s.J=q.1.J/\True)/\k=q.2/\True)/\(k=false->(v/\w/\(V6 x_1).1.A=q.1.d.A/\u/\s.ep=q.1.ep/\(Y8 Y3 s.L q.1.L)/\s.S=q.1.S/\f/\s.J=q.1.J/\True)/\k=q.2/\True)))) ⟨λhc=> ?_,λhc=> ?_⟩
 ·rw[q7 (C7 hc)];exact(by repeat' first|exact trivial|exact rfl|exact Z2 _ _|exact U2 _|exact V7|exact S8 _|exact W4 _|exact S7 _|refine And.intro ?_ ?_)
 ·have hc:=l7 hc;refine⟨Z4 (by omega),⟨⟨0,S7 _⟩,⟨rfl,Z8,Z8,by dsimp only;omega,trivial⟩,⟨rfl,rfl,⟨rfl,Z2 _ _⟩,⟨by simp,λi _=>by simp⟩,(by repeat' first|exact trivial|exact rfl|exact Z2 _ _|exact U2 _|exact V7|exact S8 _|exact W4 _|exact S7 _|refine And.intro ?_ ?_)⟩,(by repeat' first|exact trivial|exact rfl|exact Z2 _ _|exact U2 _|exact V7|exact S8 _|exact W4 _|exact S7 _|refine And.intro ?_ ?_)⟩,λx=>⟨λhx=> ?_,λhx=> ?_⟩⟩
  ·have hlt:x.val<O0 s lsn:=by have:=C7 hx;unfold O0;omega
   obtain⟨e,hb,q⟩:=hn x.val hlt;rw[show(s.S+(x.val:Int)+1-1).toNat=s.S.toNat+x.val by omega]
   refine⟨Z4 (by omega),Z4 (by omega),Z4 (by omega),⟨by omega,by omega⟩,_,⟨⟨⟨rfl,rfl,rfl,rfl,rfl,rfl,rfl,rfl,rfl,Z9⟩,trivial⟩,hb⟩,(sP s x.val,(sX s x.val).at_,Q3 (s.L.getD (s.S.toNat+x.val) dz)),⟨⟨(by repeat' first|exact trivial|exact rfl|exact Z2 _ _|exact U2 _|exact V7|exact S8 _|exact W4 _|exact S7 _|refine And.intro ?_ ?_),by show _=(sX s x.val).at_;rw[e];omega,rfl,trivial⟩,?_⟩,Z4 (by omega),⟨x.val+1,hlt⟩,⟨⟨rfl,⟨rfl,rfl⟩,⟨rfl,rfl⟩,by dsimp only;omega,trivial⟩,⟨rfl,rfl,⟨rfl,Z2 _ _⟩,⟨congrArg List.length (yR s x.val),λi _=>congrArg (λL=>Y9 L i) (yR s x.val)⟩,(by repeat' first|exact trivial|exact rfl|exact Z2 _ _|exact U2 _|exact V7|exact S8 _|exact W4 _|exact S7 _|refine And.intro ?_ ?_)⟩,(by repeat' first|exact trivial|exact rfl|exact Z2 _ _|exact U2 _|exact V7|exact S8 _|exact W4 _|exact S7 _|refine And.intro ?_ ?_)⟩,V1.ext_lt hlt⟩
   show(s.d.C++List.map (sX s) (List.range _)).length<=1048576;simp only[K6,List.length_map,j_g];omega
  ·have hx:x.val=O0 s lsn:=by have:=x.2;have:=l7 hx;unfold O0 at*;omega
   rw[hx,j6 hc];refine⟨sP s (O0 s lsn),⟨⟨(by repeat' first|exact trivial|exact rfl|exact Z2 _ _|exact U2 _|exact V7|exact S8 _|exact W4 _|exact S7 _|refine And.intro ?_ ?_),trivial⟩,hw⟩,λhy=>⟨⟨Z7,Z7,rfl,Z7,rfl,Z7,(if_pos hy).symm,(by repeat' first|exact trivial|exact rfl|exact Z2 _ _|exact U2 _|exact V7|exact S8 _|exact W4 _|exact S7 _|refine And.intro ?_ ?_)⟩,(by repeat' first|exact trivial|exact rfl|exact Z2 _ _|exact U2 _|exact V7|exact S8 _|exact W4 _|exact S7 _|refine And.intro ?_ ?_)⟩,λhy=>⟨⟨Z7,Z7,rfl,Z7,rfl,Z7,(if_neg (by rw[hy];simp)).symm,(by repeat' first|exact trivial|exact rfl|exact Z2 _ _|exact U2 _|exact V7|exact S8 _|exact W4 _|exact S7 _|refine And.intro ?_ ?_)⟩,(by repeat' first|exact trivial|exact rfl|exact Z2 _ _|exact U2 _|exact V7|exact S8 _|exact W4 _|exact S7 _|refine And.intro ?_ ?_)⟩⟩
end Go.Proofs.YtghgljelnhfihaaGreat

